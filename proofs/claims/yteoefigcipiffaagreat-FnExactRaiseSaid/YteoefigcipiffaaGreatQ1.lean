/- Texts of this law, joined. -/
import Derived.Test.YteoefigcipiffaaGreatVd
import Derived.Test.YteoefigcipiffaaGreatF
import Derived.Test.YteoefigcipiffaaGreatVc
set_option linter.unusedSimpArgs false
set_option linter.unusedVariables false
namespace Vg.Tryz
open Go Vg
set_option linter.unusedVariables false
set_option linter.unusedSectionVars false
set_option linter.unusedSimpArgs false
section
variable {k:Nat} (hk:9223372036854775808≤k)
include hk
theorem NY {x:List ByteArray} {left:Int} (hx:Fits (.sl .str) x) (h0:0≤left) (h1:left≤1048576):nE k (x,left,())=some (bG (ag (.sl .str) x) left,()):=
 Uh hk hx h0 h1
theorem jk (x:cg):ag bC x=ag (.sl .str) x.2.2.2.2.2:=by
 obtain⟨x0,x1,x2,x3,x4,x5⟩:=x
 simp only[ag]
 try omega
theorem Q1 {x:cg} {left:Int} (hx:Fits bC x) (h0:0≤left) (h1:left≤1048576):np k (x,left,())=some (bG (ag bC x) left,()):=by
 rw[jk hk]
 simp only[np]
 rw[NY hk hx.2.2.2.2.2 h0 h1,Option.bind_some]
 by_cases h2:bG (ag (.sl .str) x.2.2.2.2.2) left<0
 ·rw[if_pos (by simpa using h2)];exact congrArg (fun z=>some (z,())) (cp h2 (by omega)).symm
 rw[if_neg (by simpa using h2)]
theorem nQ (x:aj):ag af x=x.1.size+x.2.size:=by
 obtain⟨x0,x1⟩:=x
 simp only[ag]
 try omega
theorem Qv {x:aj} {left:Int} (hx:Fits af x) (h0:0≤left) (h1:left≤1048576):iL k (x,left,())=some (bG (ag af x) left,()):=by
 rw[nQ hk]
 simp only[iL]
 try simp only
 rw[AT hx.1 h0 h1]
 by_cases h2:bG (x.1.size) left<0
 ·rw[if_pos (by simpa using h2)];exact congrArg (fun z=>some (z,())) (cp h2 (by omega)).symm
 rw[if_neg (by simpa using h2)]
 rw[xJ hx.1 h0 h1 h2]
 try simp only
 rw[AT hx.2 (cB h2).1 (by have:=dT (t:=x.1.size) h0;omega)]
 rw[cX h2]
 by_cases h3:bG (x.1.size+x.2.size) left<0
 ·rw[if_pos (by simpa using h3)];exact congrArg (fun z=>some (z,())) (cp h3 (by omega)).symm
 rw[if_neg (by simpa using h3)]
 rw[xJ hx.2 (cB h2).1 (by have:=dT (t:=x.1.size) h0;omega) (by rw[cX h2];exact h3),cX h2]
theorem mD {x:List aj} {left:Int} (hx:Fits (.sl af) x) (h0:0≤left) (h1:left≤1048576):eB k (x,left,())=some (bG (ag (.sl af) x) left,()):=
 nX (d:=af.aa) (S:=iL k) hk hx.1 h0 h1 (fun e he l a b=>Qv hk (hx.2 e he) a b)
theorem cr (x:ai):ag ab x=ag (.sl af) x.1+x.2.2.2.size:=by
 obtain⟨x0,x1,x2,x3⟩:=x
 simp only[ag]
 try omega
theorem rC {x:ai} {left:Int} (hx:Fits ab x) (h0:0≤left) (h1:left≤1048576):eo k (x,left,())=some (bG (ag ab x) left,()):=by
 rw[cr hk]
 simp only[eo]
 rw[mD hk hx.1 h0 h1,Option.bind_some]
 by_cases h2:bG (ag (.sl af) x.1) left<0
 ·rw[if_pos (by simpa using h2)];exact congrArg (fun z=>some (z,())) (cp h2 (by omega)).symm
 rw[if_neg (by simpa using h2)]
 try simp only
 rw[AT hx.2.2.2 (cB h2).1 (by have:=dT (t:=ag (.sl af) x.1) h0;omega)]
 rw[cX h2]
 by_cases h3:bG (ag (.sl af) x.1+x.2.2.2.size) left<0
 ·rw[if_pos (by simpa using h3)];exact congrArg (fun z=>some (z,())) (cp h3 (by omega)).symm
 rw[if_neg (by simpa using h3)]
 rw[xJ hx.2.2.2 (cB h2).1 (by have:=dT (t:=ag (.sl af) x.1) h0;omega) (by rw[cX h2];exact h3),cX h2]
theorem fR {x:List ai} {left:Int} (hx:Fits (.sl ab) x) (h0:0≤left) (h1:left≤1048576):dc k (x,left,())=some (bG (ag (.sl ab) x) left,()):=
 nX (d:=ab.aa) (S:=eo k) hk hx.1 h0 h1 (fun e he l a b=>rC hk (hx.2 e he) a b)
theorem ep (x:bc):ag ay x=ag (.sl ab) x.2:=by
 obtain⟨x0,x1⟩:=x
 simp only[ag]
 try omega
theorem Qk {x:bc} {left:Int} (hx:Fits ay x) (h0:0≤left) (h1:left≤1048576):iA k (x,left,())=some (bG (ag ay x) left,()):=by
 rw[ep hk]
 simp only[iA]
 rw[fR hk hx.2 h0 h1,Option.bind_some]
 by_cases h2:bG (ag (.sl ab) x.2) left<0
 ·rw[if_pos (by simpa using h2)];exact congrArg (fun z=>some (z,())) (cp h2 (by omega)).symm
 rw[if_neg (by simpa using h2)]
theorem OX {x:List bc} {left:Int} (hx:Fits (.sl ay) x) (h0:0≤left) (h1:left≤1048576):om k (x,left,())=some (bG (ag (.sl ay) x) left,()):=
 nX (d:=ay.aa) (S:=iA k) hk hx.1 h0 h1 (fun e he l a b=>Qk hk (hx.2 e he) a b)
theorem dL (x:aG):ag aq x=ag (.sl ay) x.2.2:=by
 obtain⟨x0,x1,x2⟩:=x
 simp only[ag]
 try omega
theorem RQ {x:aG} {left:Int} (hx:Fits aq x) (h0:0≤left) (h1:left≤1048576):jQ k (x,left,())=some (bG (ag aq x) left,()):=by
 rw[dL hk]
 simp only[jQ]
 rw[OX hk hx.2.2 h0 h1,Option.bind_some]
 by_cases h2:bG (ag (.sl ay) x.2.2) left<0
 ·rw[if_pos (by simpa using h2)];exact congrArg (fun z=>some (z,())) (cp h2 (by omega)).symm
 rw[if_neg (by simpa using h2)]
theorem Qj {x:List aG} {left:Int} (hx:Fits (.sl aq) x) (h0:0≤left) (h1:left≤1048576):pC k (x,left,())=some (bG (ag (.sl aq) x) left,()):=
 nX (d:=aq.aa) (S:=jQ k) hk hx.1 h0 h1 (fun e he l a b=>RQ hk (hx.2 e he) a b)
theorem nS (x:bF):ag aU x=ag (.sl ab) x.1:=by
 obtain⟨x0,x1⟩:=x
 simp only[ag]
 try omega
theorem S0 {x:bF} {left:Int} (hx:Fits aU x) (h0:0≤left) (h1:left≤1048576):lj k (x,left,())=some (bG (ag aU x) left,()):=by
 rw[nS hk]
 simp only[lj]
 rw[fR hk hx.1 h0 h1,Option.bind_some]
 by_cases h2:bG (ag (.sl ab) x.1) left<0
 ·rw[if_pos (by simpa using h2)];exact congrArg (fun z=>some (z,())) (cp h2 (by omega)).symm
 rw[if_neg (by simpa using h2)]
theorem RF {x:List bF} {left:Int} (hx:Fits (.sl aU) x) (h0:0≤left) (h1:left≤1048576):qJ k (x,left,())=some (bG (ag (.sl aU) x) left,()):=
 nX (d:=aU.aa) (S:=lj k) hk hx.1 h0 h1 (fun e he l a b=>S0 hk (hx.2 e he) a b)
theorem gG (x:aJ):ag al x=ag (.sl af) x.2.1+ag (.sl ab) x.2.2.2.2:=by
 obtain⟨x0,x1,x2,x3,x4⟩:=x
 simp only[ag]
 try omega
theorem QB {x:aJ} {left:Int} (hx:Fits al x) (h0:0≤left) (h1:left≤1048576):iO k (x,left,())=some (bG (ag al x) left,()):=by
 rw[gG hk]
 simp only[iO]
 rw[mD hk hx.2.1 h0 h1,Option.bind_some]
 by_cases h2:bG (ag (.sl af) x.2.1) left<0
 ·rw[if_pos (by simpa using h2)];exact congrArg (fun z=>some (z,())) (cp h2 (by omega)).symm
 rw[if_neg (by simpa using h2)]
 rw[fR hk hx.2.2.2.2 (cB h2).1 (by have:=dT (t:=ag (.sl af) x.2.1) h0;omega),Option.bind_some]
 rw[cX h2]
 by_cases h3:bG (ag (.sl af) x.2.1+ag (.sl ab) x.2.2.2.2) left<0
 ·rw[if_pos (by simpa using h3)];exact congrArg (fun z=>some (z,())) (cp h3 (by omega)).symm
 rw[if_neg (by simpa using h3)]
theorem Od {x:List aJ} {left:Int} (hx:Fits (.sl al) x) (h0:0≤left) (h1:left≤1048576):oy k (x,left,())=some (bG (ag (.sl al) x) left,()):=
 nX (d:=al.aa) (S:=iO k) hk hx.1 h0 h1 (fun e he l a b=>QB hk (hx.2 e he) a b)
theorem OH {x:List bl} {left:Int} (hx:Fits (.sl aC) x) (h0:0≤left) (h1:left≤1048576):kx k (x,left,())=some (bG (ag (.sl aC) x) left,()):=
 QU (e:=aC) (F:=kx) (k:=k) (fun _=>rfl) (by rfl) hx h0 h1
theorem nO (x:bz):ag aN x=ag (.sl af) x.2.1+ag (.sl ab) x.2.2.2:=by
 obtain⟨x0,x1,x2,x3⟩:=x
 simp only[ag]
 try omega
theorem PZ {x:bz} {left:Int} (hx:Fits aN x) (h0:0≤left) (h1:left≤1048576):iT k (x,left,())=some (bG (ag aN x) left,()):=by
 rw[nO hk]
 simp only[iT]
 rw[mD hk hx.2.1 h0 h1,Option.bind_some]
 by_cases h2:bG (ag (.sl af) x.2.1) left<0
 ·rw[if_pos (by simpa using h2)];exact congrArg (fun z=>some (z,())) (cp h2 (by omega)).symm
 rw[if_neg (by simpa using h2)]
 rw[fR hk hx.2.2.2 (cB h2).1 (by have:=dT (t:=ag (.sl af) x.2.1) h0;omega),Option.bind_some]
 rw[cX h2]
 by_cases h3:bG (ag (.sl af) x.2.1+ag (.sl ab) x.2.2.2) left<0
 ·rw[if_pos (by simpa using h3)];exact congrArg (fun z=>some (z,())) (cp h3 (by omega)).symm
 rw[if_neg (by simpa using h3)]
theorem OL {x:List bz} {left:Int} (hx:Fits (.sl aN) x) (h0:0≤left) (h1:left≤1048576):oP k (x,left,())=some (bG (ag (.sl aN) x) left,()):=
 nX (d:=aN.aa) (S:=iT k) hk hx.1 h0 h1 (fun e he l a b=>PZ hk (hx.2 e he) a b)
theorem RZ {x:List Int} {left:Int} (hx:Fits (.sl (.int .i64)) x) (h0:0≤left) (h1:left≤1048576):nc k (x,left,())=some (bG (ag (.sl (.int .i64)) x) left,()):=
 QU (e:=(.int .i64)) (F:=nc) (k:=k) (fun _=>rfl) (by rfl) hx h0 h1
theorem dJ (x:aM):ag ah x=ag ab x.2.2.1+ag (.sl af) x.2.2.2.1+ag (.sl (.int .i64)) x.2.2.2.2.2.1+ag (.sl ab) x.2.2.2.2.2.2.1:=by
 obtain⟨x0,x1,x2,x3,x4,x5,x6,x7,x8⟩:=x
 simp only[ag]
 try omega
theorem Rz {x:aM} {left:Int} (hx:Fits ah x) (h0:0≤left) (h1:left≤1048576):jN k (x,left,())=some (bG (ag ah x) left,()):=by
 rw[dJ hk]
 simp only[jN]
 rw[rC hk hx.2.2.1 h0 h1,Option.bind_some]
 by_cases h2:bG (ag ab x.2.2.1) left<0
 ·rw[if_pos (by simpa using h2)];exact congrArg (fun z=>some (z,())) (cp h2 (by omega)).symm
 rw[if_neg (by simpa using h2)]
 rw[mD hk hx.2.2.2.1 (cB h2).1 (by have:=dT (t:=ag ab x.2.2.1) h0;omega),Option.bind_some]
 rw[cX h2]
 by_cases h3:bG (ag ab x.2.2.1+ag (.sl af) x.2.2.2.1) left<0
 ·rw[if_pos (by simpa using h3)];exact congrArg (fun z=>some (z,())) (cp h3 (by omega)).symm
 rw[if_neg (by simpa using h3)]
 rw[RZ hk hx.2.2.2.2.2.1 (cB h3).1 (by have:=dT (t:=ag ab x.2.2.1+ag (.sl af) x.2.2.2.1) h0;omega),Option.bind_some]
 rw[cX h3]
 by_cases h4:bG (ag ab x.2.2.1+ag (.sl af) x.2.2.2.1+ag (.sl (.int .i64)) x.2.2.2.2.2.1) left<0
 ·rw[if_pos (by simpa using h4)];exact congrArg (fun z=>some (z,())) (cp h4 (by omega)).symm
 rw[if_neg (by simpa using h4)]
 rw[fR hk hx.2.2.2.2.2.2.1 (cB h4).1 (by have:=dT (t:=ag ab x.2.2.1+ag (.sl af) x.2.2.2.1+ag (.sl (.int .i64)) x.2.2.2.2.2.1) h0;omega),Option.bind_some]
 rw[cX h4]
 by_cases h5:bG (ag ab x.2.2.1+ag (.sl af) x.2.2.2.1+ag (.sl (.int .i64)) x.2.2.2.2.2.1+ag (.sl ab) x.2.2.2.2.2.2.1) left<0
 ·rw[if_pos (by simpa using h5)];exact congrArg (fun z=>some (z,())) (cp h5 (by omega)).symm
 rw[if_neg (by simpa using h5)]
theorem Qi {x:List aM} {left:Int} (hx:Fits (.sl ah) x) (h0:0≤left) (h1:left≤1048576):pI k (x,left,())=some (bG (ag (.sl ah) x) left,()):=
 nX (d:=ah.aa) (S:=jN k) hk hx.1 h0 h1 (fun e he l a b=>Rz hk (hx.2 e he) a b)
theorem jt (x:aY):ag ak x=ag ab x.2.2.1+ag (.sl af) x.2.2.2.1+ag (.sl ab) x.2.2.2.2.2.2.2.1:=by
 obtain⟨x0,x1,x2,x3,x4,x5,x6,x7,x8,x9,x10,x11⟩:=x
 simp only[ag]
 try omega
theorem Rk {x:aY} {left:Int} (hx:Fits ak x) (h0:0≤left) (h1:left≤1048576):jE k (x,left,())=some (bG (ag ak x) left,()):=by
 rw[jt hk]
 simp only[jE]
 rw[rC hk hx.2.2.1 h0 h1,Option.bind_some]
 by_cases h2:bG (ag ab x.2.2.1) left<0
 ·rw[if_pos (by simpa using h2)];exact congrArg (fun z=>some (z,())) (cp h2 (by omega)).symm
 rw[if_neg (by simpa using h2)]
 rw[mD hk hx.2.2.2.1 (cB h2).1 (by have:=dT (t:=ag ab x.2.2.1) h0;omega),Option.bind_some]
 rw[cX h2]
 by_cases h3:bG (ag ab x.2.2.1+ag (.sl af) x.2.2.2.1) left<0
 ·rw[if_pos (by simpa using h3)];exact congrArg (fun z=>some (z,())) (cp h3 (by omega)).symm
 rw[if_neg (by simpa using h3)]
 rw[fR hk hx.2.2.2.2.2.2.2.1 (cB h3).1 (by have:=dT (t:=ag ab x.2.2.1+ag (.sl af) x.2.2.2.1) h0;omega),Option.bind_some]
 rw[cX h3]
 by_cases h4:bG (ag ab x.2.2.1+ag (.sl af) x.2.2.2.1+ag (.sl ab) x.2.2.2.2.2.2.2.1) left<0
 ·rw[if_pos (by simpa using h4)];exact congrArg (fun z=>some (z,())) (cp h4 (by omega)).symm
 rw[if_neg (by simpa using h4)]
theorem Qf {x:List aY} {left:Int} (hx:Fits (.sl ak) x) (h0:0≤left) (h1:left≤1048576):pG k (x,left,())=some (bG (ag (.sl ak) x) left,()):=
 nX (d:=ak.aa) (S:=jE k) hk hx.1 h0 h1 (fun e he l a b=>Rk hk (hx.2 e he) a b)
theorem gK (x:ar):ag aE x=ag bC x.1+ag (.sl aq) x.2.2.2.1+ag (.sl aU) x.2.2.2.2.1+ag (.sl ab) x.2.2.2.2.2.1+ag (.sl al) x.2.2.2.2.2.2.2.1+ag (.sl aC) x.2.2.2.2.2.2.2.2.2.1+ag (.sl aN) x.2.2.2.2.2.2.2.2.2.2.1+ag (.sl ab) x.2.2.2.2.2.2.2.2.2.2.2.1+ag (.sl ah) x.2.2.2.2.2.2.2.2.2.2.2.2.1+ag (.sl ak) x.2.2.2.2.2.2.2.2.2.2.2.2.2:=by
 obtain⟨x0,x1,x2,x3,x4,x5,x6,x7,x8,x9,x10,x11,x12,x13⟩:=x
 simp only[ag]
 try omega
theorem PS {x:ar} {left:Int} (hx:Fits aE x) (h0:0≤left) (h1:left≤1048576):lV k (x,left,())=some (bG (ag aE x) left,()):=by
 rw[gK hk]
 simp only[lV]
 rw[Q1 hk hx.1 h0 h1,Option.bind_some]
 by_cases h2:bG (ag bC x.1) left<0
 ·rw[if_pos (by simpa using h2)];exact congrArg (fun z=>some (z,())) (cp h2 (by omega)).symm
 rw[if_neg (by simpa using h2)]
 rw[Qj hk hx.2.2.2.1 (cB h2).1 (by have:=dT (t:=ag bC x.1) h0;omega),Option.bind_some]
 rw[cX h2]
 by_cases h3:bG (ag bC x.1+ag (.sl aq) x.2.2.2.1) left<0
 ·rw[if_pos (by simpa using h3)];exact congrArg (fun z=>some (z,())) (cp h3 (by omega)).symm
 rw[if_neg (by simpa using h3)]
 rw[RF hk hx.2.2.2.2.1 (cB h3).1 (by have:=dT (t:=ag bC x.1+ag (.sl aq) x.2.2.2.1) h0;omega),Option.bind_some]
 rw[cX h3]
 by_cases h4:bG (ag bC x.1+ag (.sl aq) x.2.2.2.1+ag (.sl aU) x.2.2.2.2.1) left<0
 ·rw[if_pos (by simpa using h4)];exact congrArg (fun z=>some (z,())) (cp h4 (by omega)).symm
 rw[if_neg (by simpa using h4)]
 rw[fR hk hx.2.2.2.2.2.1 (cB h4).1 (by have:=dT (t:=ag bC x.1+ag (.sl aq) x.2.2.2.1+ag (.sl aU) x.2.2.2.2.1) h0;omega),Option.bind_some]
 rw[cX h4]
 by_cases h5:bG (ag bC x.1+ag (.sl aq) x.2.2.2.1+ag (.sl aU) x.2.2.2.2.1+ag (.sl ab) x.2.2.2.2.2.1) left<0
 ·rw[if_pos (by simpa using h5)];exact congrArg (fun z=>some (z,())) (cp h5 (by omega)).symm
 rw[if_neg (by simpa using h5)]
 rw[Od hk hx.2.2.2.2.2.2.2.1 (cB h5).1 (by have:=dT (t:=ag bC x.1+ag (.sl aq) x.2.2.2.1+ag (.sl aU) x.2.2.2.2.1+ag (.sl ab) x.2.2.2.2.2.1) h0;omega),Option.bind_some]
 rw[cX h5]
 by_cases h6:bG (ag bC x.1+ag (.sl aq) x.2.2.2.1+ag (.sl aU) x.2.2.2.2.1+ag (.sl ab) x.2.2.2.2.2.1+ag (.sl al) x.2.2.2.2.2.2.2.1) left<0
 ·rw[if_pos (by simpa using h6)];exact congrArg (fun z=>some (z,())) (cp h6 (by omega)).symm
 rw[if_neg (by simpa using h6)]
 rw[OH hk hx.2.2.2.2.2.2.2.2.2.1 (cB h6).1 (by have:=dT (t:=ag bC x.1+ag (.sl aq) x.2.2.2.1+ag (.sl aU) x.2.2.2.2.1+ag (.sl ab) x.2.2.2.2.2.1+ag (.sl al) x.2.2.2.2.2.2.2.1) h0;omega),Option.bind_some]
 rw[cX h6]
 by_cases h7:bG (ag bC x.1+ag (.sl aq) x.2.2.2.1+ag (.sl aU) x.2.2.2.2.1+ag (.sl ab) x.2.2.2.2.2.1+ag (.sl al) x.2.2.2.2.2.2.2.1+ag (.sl aC) x.2.2.2.2.2.2.2.2.2.1) left<0
 ·rw[if_pos (by simpa using h7)];exact congrArg (fun z=>some (z,())) (cp h7 (by omega)).symm
 rw[if_neg (by simpa using h7)]
 rw[OL hk hx.2.2.2.2.2.2.2.2.2.2.1 (cB h7).1 (by have:=dT (t:=ag bC x.1+ag (.sl aq) x.2.2.2.1+ag (.sl aU) x.2.2.2.2.1+ag (.sl ab) x.2.2.2.2.2.1+ag (.sl al) x.2.2.2.2.2.2.2.1+ag (.sl aC) x.2.2.2.2.2.2.2.2.2.1) h0;omega),Option.bind_some]
 rw[cX h7]
 by_cases h8:bG (ag bC x.1+ag (.sl aq) x.2.2.2.1+ag (.sl aU) x.2.2.2.2.1+ag (.sl ab) x.2.2.2.2.2.1+ag (.sl al) x.2.2.2.2.2.2.2.1+ag (.sl aC) x.2.2.2.2.2.2.2.2.2.1+ag (.sl aN) x.2.2.2.2.2.2.2.2.2.2.1) left<0
 ·rw[if_pos (by simpa using h8)];exact congrArg (fun z=>some (z,())) (cp h8 (by omega)).symm
 rw[if_neg (by simpa using h8)]
 rw[fR hk hx.2.2.2.2.2.2.2.2.2.2.2.1 (cB h8).1 (by have:=dT (t:=ag bC x.1+ag (.sl aq) x.2.2.2.1+ag (.sl aU) x.2.2.2.2.1+ag (.sl ab) x.2.2.2.2.2.1+ag (.sl al) x.2.2.2.2.2.2.2.1+ag (.sl aC) x.2.2.2.2.2.2.2.2.2.1+ag (.sl aN) x.2.2.2.2.2.2.2.2.2.2.1) h0;omega),Option.bind_some]
 rw[cX h8]
 by_cases h9:bG (ag bC x.1+ag (.sl aq) x.2.2.2.1+ag (.sl aU) x.2.2.2.2.1+ag (.sl ab) x.2.2.2.2.2.1+ag (.sl al) x.2.2.2.2.2.2.2.1+ag (.sl aC) x.2.2.2.2.2.2.2.2.2.1+ag (.sl aN) x.2.2.2.2.2.2.2.2.2.2.1+ag (.sl ab) x.2.2.2.2.2.2.2.2.2.2.2.1) left<0
 ·rw[if_pos (by simpa using h9)];exact congrArg (fun z=>some (z,())) (cp h9 (by omega)).symm
 rw[if_neg (by simpa using h9)]
 rw[Qi hk hx.2.2.2.2.2.2.2.2.2.2.2.2.1 (cB h9).1 (by have:=dT (t:=ag bC x.1+ag (.sl aq) x.2.2.2.1+ag (.sl aU) x.2.2.2.2.1+ag (.sl ab) x.2.2.2.2.2.1+ag (.sl al) x.2.2.2.2.2.2.2.1+ag (.sl aC) x.2.2.2.2.2.2.2.2.2.1+ag (.sl aN) x.2.2.2.2.2.2.2.2.2.2.1+ag (.sl ab) x.2.2.2.2.2.2.2.2.2.2.2.1) h0;omega),Option.bind_some]
 rw[cX h9]
 by_cases h10:bG (ag bC x.1+ag (.sl aq) x.2.2.2.1+ag (.sl aU) x.2.2.2.2.1+ag (.sl ab) x.2.2.2.2.2.1+ag (.sl al) x.2.2.2.2.2.2.2.1+ag (.sl aC) x.2.2.2.2.2.2.2.2.2.1+ag (.sl aN) x.2.2.2.2.2.2.2.2.2.2.1+ag (.sl ab) x.2.2.2.2.2.2.2.2.2.2.2.1+ag (.sl ah) x.2.2.2.2.2.2.2.2.2.2.2.2.1) left<0
 ·rw[if_pos (by simpa using h10)];exact congrArg (fun z=>some (z,())) (cp h10 (by omega)).symm
 rw[if_neg (by simpa using h10)]
 rw[Qf hk hx.2.2.2.2.2.2.2.2.2.2.2.2.2 (cB h10).1 (by have:=dT (t:=ag bC x.1+ag (.sl aq) x.2.2.2.1+ag (.sl aU) x.2.2.2.2.1+ag (.sl ab) x.2.2.2.2.2.1+ag (.sl al) x.2.2.2.2.2.2.2.1+ag (.sl aC) x.2.2.2.2.2.2.2.2.2.1+ag (.sl aN) x.2.2.2.2.2.2.2.2.2.2.1+ag (.sl ab) x.2.2.2.2.2.2.2.2.2.2.2.1+ag (.sl ah) x.2.2.2.2.2.2.2.2.2.2.2.2.1) h0;omega),Option.bind_some]
 rw[cX h10]
 by_cases h11:bG (ag bC x.1+ag (.sl aq) x.2.2.2.1+ag (.sl aU) x.2.2.2.2.1+ag (.sl ab) x.2.2.2.2.2.1+ag (.sl al) x.2.2.2.2.2.2.2.1+ag (.sl aC) x.2.2.2.2.2.2.2.2.2.1+ag (.sl aN) x.2.2.2.2.2.2.2.2.2.2.1+ag (.sl ab) x.2.2.2.2.2.2.2.2.2.2.2.1+ag (.sl ah) x.2.2.2.2.2.2.2.2.2.2.2.2.1+ag (.sl ak) x.2.2.2.2.2.2.2.2.2.2.2.2.2) left<0
 ·rw[if_pos (by simpa using h11)];exact congrArg (fun z=>some (z,())) (cp h11 (by omega)).symm
 rw[if_neg (by simpa using h11)]
theorem ME {x:List ByteArray} (h:ag (.sl .str) x≤1048576):nx k (x,())=some (x,()):=
 RD (d:=ByteArray.empty) hk (Nat.le_trans (aA (e:= .str)) h)
theorem QX {x:cg} (h:ag bC x≤1048576):ng k (x,())=some (x,()):=by
 rw[jk hk]at h
 simp only[ng]
 rw[ME hk (by omega)]
 try rfl
theorem Qb {x:aj} (h:ag af x≤1048576):iw k (x,())=some (x,()):=by
 rw[nQ hk]at h
 simp only[iw]
 try rfl
theorem mE {x:List aj} (h:ag (.sl af) x≤1048576):eA k (x,())=some (x,()):=
 kO (d:=af.aa) (S:=iw k) hk (Nat.le_trans (aA (e:=af)) h) (fun e he=>Qb hk (Nat.le_trans (bo (e:=af) he) h))
theorem jD {x:ai} (h:ag ab x≤1048576):c9 k (x,())=some (x,()):=by
 rw[cr hk]at h
 simp only[c9]
 rw[mE hk (by omega)]
 try rfl
theorem fP {x:List ai} (h:ag (.sl ab) x≤1048576):df k (x,())=some (x,()):=
 kO (d:=ab.aa) (S:=c9 k) hk (Nat.le_trans (aA (e:=ab)) h) (fun e he=>jD hk (Nat.le_trans (bo (e:=ab) he) h))
theorem QR {x:bc} (h:ag ay x≤1048576):iM k (x,())=some (x,()):=by
 rw[ep hk]at h
 simp only[iM]
 rw[fP hk (by omega)]
 try rfl
theorem OS {x:List bc} (h:ag (.sl ay) x≤1048576):oz k (x,())=some (x,()):=
 kO (d:=ay.aa) (S:=iM k) hk (Nat.le_trans (aA (e:=ay)) h) (fun e he=>QR hk (Nat.le_trans (bo (e:=ay) he) h))
theorem Sb {x:aG} (h:ag aq x≤1048576):jS k (x,())=some (x,()):=by
 rw[dL hk]at h
 simp only[jS]
 rw[OS hk (by omega)]
 try rfl
theorem QO {x:List aG} (h:ag (.sl aq) x≤1048576):pA k (x,())=some (x,()):=
 kO (d:=aq.aa) (S:=jS k) hk (Nat.le_trans (aA (e:=aq)) h) (fun e he=>Sb hk (Nat.le_trans (bo (e:=aq) he) h))
theorem Sw {x:bF} (h:ag aU x≤1048576):kI k (x,())=some (x,()):=by
 rw[nS hk]at h
 simp only[kI]
 rw[fP hk (by omega)]
 try rfl
theorem RP {x:List bF} (h:ag (.sl aU) x≤1048576):qH k (x,())=some (x,()):=
 kO (d:=aU.aa) (S:=kI k) hk (Nat.le_trans (aA (e:=aU)) h) (fun e he=>Sw hk (Nat.le_trans (bo (e:=aU) he) h))
theorem Qw {x:aJ} (h:ag al x≤1048576):iJ k (x,())=some (x,()):=by
 rw[gG hk]at h
 simp only[iJ]
 rw[mE hk (by omega),fP hk (by omega)]
 try rfl
theorem Ol {x:List aJ} (h:ag (.sl al) x≤1048576):oV k (x,())=some (x,()):=
 kO (d:=al.aa) (S:=iJ k) hk (Nat.le_trans (aA (e:=al)) h) (fun e he=>Qw hk (Nat.le_trans (bo (e:=al) he) h))
theorem Ai (x:bl):ag aC x=0:=by
 obtain⟨x0,x1⟩:=x
 simp only[ag]
 try omega
theorem QI {x:bl} (h:ag aC x≤1048576):iG k (x,())=some (x,()):=by
 rw[Ai hk]at h
 simp only[iG]
 try rfl
theorem OC {x:List bl} (h:ag (.sl aC) x≤1048576):oB k (x,())=some (x,()):=
 kO (d:=aC.aa) (S:=iG k) hk (Nat.le_trans (aA (e:=aC)) h) (fun e he=>QI hk (Nat.le_trans (bo (e:=aC) he) h))
theorem PQ {x:bz} (h:ag aN x≤1048576):iD k (x,())=some (x,()):=by
 rw[nO hk]at h
 simp only[iD]
 rw[mE hk (by omega),fP hk (by omega)]
 try rfl
theorem OZ {x:List bz} (h:ag (.sl aN) x≤1048576):oZ k (x,())=some (x,()):=
 kO (d:=aN.aa) (S:=iD k) hk (Nat.le_trans (aA (e:=aN)) h) (fun e he=>PQ hk (Nat.le_trans (bo (e:=aN) he) h))
theorem R2 {x:List Int} (h:ag (.sl (.int .i64)) x≤1048576):qI k (x,())=some (x,()):=
 RD (d:=0) hk (Nat.le_trans (aA (e:=(.int .i64))) h)
theorem RL {x:aM} (h:ag ah x≤1048576):jJ k (x,())=some (x,()):=by
 rw[dJ hk]at h
 simp only[jJ]
 rw[jD hk (by omega),mE hk (by omega),R2 hk (by omega),fP hk (by omega)]
 try rfl
theorem Qr {x:List aM} (h:ag (.sl ah) x≤1048576):pD k (x,())=some (x,()):=
 kO (d:=ah.aa) (S:=jJ k) hk (Nat.le_trans (aA (e:=ah)) h) (fun e he=>RL hk (Nat.le_trans (bo (e:=ah) he) h))
theorem Rt {x:aY} (h:ag ak x≤1048576):jW k (x,())=some (x,()):=by
 rw[jt hk]at h
 simp only[jW]
 rw[jD hk (by omega),mE hk (by omega),fP hk (by omega)]
 try rfl
theorem QH {x:List aY} (h:ag (.sl ak) x≤1048576):pH k (x,())=some (x,()):=
 kO (d:=ak.aa) (S:=jW k) hk (Nat.le_trans (aA (e:=ak)) h) (fun e he=>Rt hk (Nat.le_trans (bo (e:=ak) he) h))
theorem rE {x:ar} (h:ag aE x≤1048576):eT k (x,())=some (x,()):=by
 rw[gK hk]at h
 simp only[eT]
 rw[QX hk (by omega),QO hk (by omega),RP hk (by omega),fP hk (by omega),Ol hk (by omega),OC hk (by omega),OZ hk (by omega),fP hk (by omega),Qr hk (by omega),QH hk (by omega)]
 try rfl
theorem NA {x:List ByteArray} (h:ag (.sl .str) x≤1073741824):nF k (x,x,())=some (true,()):=
 T9 hk (Nat.le_trans (Nat.le_trans (aA (e:= .str)) h) (by omega))
theorem Re {x:cg} (h:ag bC x≤1073741824):nb k (x,x,())=some (true,()):=by
 rw[jk hk]at h
 simp only[nb]
 rw[NA hk (by omega)]
 simp
theorem Qp {x:aj} (h:ag af x≤1073741824):iR k (x,x,())=some (true,()):=by
 rw[nQ hk]at h
 simp only[iR]
 simp
theorem mF {x:List aj} (h:ag (.sl af) x≤1073741824):ez k (x,x,())=some (true,()):=
 jH (d:=af.aa) (S:=iR k) hk (Nat.le_trans (Nat.le_trans (aA (e:=af)) h) (by omega)) (fun e he=>Qp hk (Nat.le_trans (bo (e:=af) he) h))
theorem rF {x:ai} (h:ag ab x≤1073741824):eu k (x,x,())=some (true,()):=by
 rw[cr hk]at h
 simp only[eu]
 rw[mF hk (by omega)]
 simp
theorem fL {x:List ai} (h:ag (.sl ab) x≤1073741824):db k (x,x,())=some (true,()):=
 jH (d:=ab.aa) (S:=eu k) hk (Nat.le_trans (Nat.le_trans (aA (e:=ab)) h) (by omega)) (fun e he=>rF hk (Nat.le_trans (bo (e:=ab) he) h))
theorem PL {x:bc} (h:ag ay x≤1073741824):iB k (x,x,())=some (true,()):=by
 rw[ep hk]at h
 simp only[iB]
 rw[fL hk (by omega)]
 simp
theorem OY {x:List bc} (h:ag (.sl ay) x≤1073741824):oW k (x,x,())=some (true,()):=
 jH (d:=ay.aa) (S:=iB k) hk (Nat.le_trans (Nat.le_trans (aA (e:=ay)) h) (by omega)) (fun e he=>PL hk (Nat.le_trans (bo (e:=ay) he) h))
theorem Q7 {x:aG} (h:ag aq x≤1073741824):jG k (x,x,())=some (true,()):=by
 rw[dL hk]at h
 simp only[jG]
 rw[OY hk (by omega)]
 simp
theorem QF {x:List aG} (h:ag (.sl aq) x≤1073741824):pB k (x,x,())=some (true,()):=
 jH (d:=aq.aa) (S:=jG k) hk (Nat.le_trans (Nat.le_trans (aA (e:=aq)) h) (by omega)) (fun e he=>Q7 hk (Nat.le_trans (bo (e:=aq) he) h))
theorem SY {x:bF} (h:ag aU x≤1073741824):kN k (x,x,())=some (true,()):=by
 rw[nS hk]at h
 simp only[kN]
 rw[fL hk (by omega)]
 simp
theorem RG {x:List bF} (h:ag (.sl aU) x≤1073741824):qF k (x,x,())=some (true,()):=
 jH (d:=aU.aa) (S:=kN k) hk (Nat.le_trans (Nat.le_trans (aA (e:=aU)) h) (by omega)) (fun e he=>SY hk (Nat.le_trans (bo (e:=aU) he) h))
theorem QA {x:aJ} (h:ag al x≤1073741824):iY k (x,x,())=some (true,()):=by
 rw[gG hk]at h
 simp only[iY]
 rw[mF hk (by omega),fL hk (by omega)]
 simp
theorem Oi {x:List aJ} (h:ag (.sl al) x≤1073741824):oh k (x,x,())=some (true,()):=
 jH (d:=al.aa) (S:=iY k) hk (Nat.le_trans (Nat.le_trans (aA (e:=al)) h) (by omega)) (fun e he=>QA hk (Nat.le_trans (bo (e:=al) he) h))
theorem QG {x:bl} (h:ag aC x≤1073741824):iP k (x,x,())=some (true,()):=by
 rw[Ai hk]at h
 simp only[iP]
 simp
theorem Ow {x:List bl} (h:ag (.sl aC) x≤1073741824):oR k (x,x,())=some (true,()):=
 jH (d:=aC.aa) (S:=iP k) hk (Nat.le_trans (Nat.le_trans (aA (e:=aC)) h) (by omega)) (fun e he=>QG hk (Nat.le_trans (bo (e:=aC) he) h))
theorem P7 {x:bz} (h:ag aN x≤1073741824):iQ k (x,x,())=some (true,()):=by
 rw[nO hk]at h
 simp only[iQ]
 rw[mF hk (by omega),fL hk (by omega)]
 simp
theorem OW {x:List bz} (h:ag (.sl aN) x≤1073741824):oM k (x,x,())=some (true,()):=
 jH (d:=aN.aa) (S:=iQ k) hk (Nat.le_trans (Nat.le_trans (aA (e:=aN)) h) (by omega)) (fun e he=>P7 hk (Nat.le_trans (bo (e:=aN) he) h))
theorem RT {x:List Int} (h:ag (.sl (.int .i64)) x≤1073741824):qE k (x,x,())=some (true,()):=
 Ux hk (Nat.le_trans (Nat.le_trans (aA (e:=(.int .i64))) h) (by omega))
theorem RB {x:aM} (h:ag ah x≤1073741824):jT k (x,x,())=some (true,()):=by
 rw[dJ hk]at h
 simp only[jT]
 rw[rF hk (by omega),mF hk (by omega),RT hk (by omega),fL hk (by omega)]
 simp
theorem Qd {x:List aM} (h:ag (.sl ah) x≤1073741824):pS k (x,x,())=some (true,()):=
 jH (d:=ah.aa) (S:=jT k) hk (Nat.le_trans (Nat.le_trans (aA (e:=ah)) h) (by omega)) (fun e he=>RB hk (Nat.le_trans (bo (e:=ah) he) h))
theorem RS {x:aY} (h:ag ak x≤1073741824):jU k (x,x,())=some (true,()):=by
 rw[jt hk]at h
 simp only[jU]
 rw[rF hk (by omega),mF hk (by omega),fL hk (by omega)]
 simp
theorem QK {x:List aY} (h:ag (.sl ak) x≤1073741824):pj k (x,x,())=some (true,()):=
 jH (d:=ak.aa) (S:=jU k) hk (Nat.le_trans (Nat.le_trans (aA (e:=ak)) h) (by omega)) (fun e he=>RS hk (Nat.le_trans (bo (e:=ak) he) h))
theorem rD {x:ar} (h:ag aE x≤1073741824):eW k (x,x,())=some (true,()):=by
 rw[gK hk]at h
 simp only[eW]
 rw[Re hk (by omega),QF hk (by omega),RG hk (by omega),fL hk (by omega),Oi hk (by omega),Ow hk (by omega),OW hk (by omega),fL hk (by omega),Qd hk (by omega),QK hk (by omega)]
 simp
theorem jY {n:Int} (h1:1≤n) (h2:n≤bp):∃s,bU k (n,())=some (s,()):=by
 simp only[bU,aO]
 rw[if_neg (by simp;omega)]
 have red:∀ {o:Option (ByteArray×Unit)},(∃r,o=some r)→∃s,o=some (s,()):=fun⟨⟨s,u⟩,h⟩=>⟨s,h⟩
 refine red (Np hk ?_ ?_ n h2)
 ·intro G n s hn hs
  simp only
  rw[if_neg (by simp;omega),if_pos (by
   simp only[decide_eq_true_eq]
   show 1+s.size<4294967296
   omega)]
  exact⟨_,rfl⟩
 ·intro G n s hn hn2 hs
  simp only
  unfold bp at hn2
  rw[if_pos (by simpa using hn),if_pos (by simp),if_pos (by
   simp only[decide_eq_true_eq]
   show 1+s.size<4294967296
   omega),if_pos (by simp),wrap64 (by rw[Int.tdiv_eq_ediv_of_nonneg (by omega)];omega) (by rw[Int.tdiv_eq_ediv_of_nonneg (by omega)];omega)]
  refine⟨_,rfl,?_⟩
  rw[ByteArray.size_append]
  show 1+s.size=s.size+1
  omega
theorem Jp:pF (.sl .str) (kR k) (kZ k):=by
 refine fu hk ?_ ?_ ?_
 ·intro G l n i hi
  simp only[aw]
  rw[if_neg (by simp;omega)]
 ·intro G l n i hi
  simp only[aw]
  rw[if_neg (by simp;omega)]
 ·intro x n h1 h2
  unfold bp at h2
  obtain⟨s1,e1⟩:=jY hk (n:=n) (by omega) (by unfold bp;omega)
  refine⟨n+1,s1,by omega,by omega,fun G d r hd=> ?_,fun G d r hd=> ?_⟩
  ·simp only[Int.toNat_natCast]
   refine bX.trans ?_
   refine(bind_eq (r:=(s1,())) ?_ _).trans ?_
   ·simp (disch:=omega) only[au,Int.toNat_natCast,wrap64,e1]
   refine aI.trans ?_
   rw[aQ (y:=s1)]
   rotate_left
   ·simp (disch:=omega) only[au,Int.toNat_natCast,wrap64]
   simp (disch:=omega) only[wrap64,cz hd]
  ·simp only[Int.toNat_natCast]
   refine bX.trans ?_
   refine aI.trans ?_
   refine(bind_eq (r:=(s1,())) ?_ _).trans ?_
   ·simp (disch:=omega) only[au,Int.toNat_natCast,wrap64,e1]
   refine(bu (vl ?_)).trans ?_
   ·simp (disch:=omega) only[au,Int.toNat_natCast,wrap64]
   simp (disch:=omega) only[wrap64,cz hd]
theorem eI:pF (.sl af) (cH k) (cZ k):=by
 refine fu hk ?_ ?_ ?_
 ·intro G l n i hi
  simp only[aw]
  rw[if_neg (by simp;omega)]
 ·intro G l n i hi
  simp only[aw]
  rw[if_neg (by simp;omega)]
 ·intro x n h1 h2
  unfold bp at h2
  have t0:=nQ hk x
  obtain⟨s1,e1⟩:=jY hk (n:=n) (by omega) (by unfold bp;omega)
  obtain⟨s2,e2⟩:=jY hk (n:=n+1) (by omega) (by unfold bp;omega)
  refine⟨n+1+1,(s1,s2),by omega,by omega,fun G d r hd=> ?_,fun G d r hd=> ?_⟩
  ·simp only[Int.toNat_natCast]
   refine bX.trans ?_
   refine(bind_eq (r:=(s1,())) ?_ _).trans ?_
   ·simp (disch:=omega) only[au,Int.toNat_natCast,wrap64,e1]
   refine aI.trans ?_
   rw[aQ (y:=(s1,x.2))]
   rotate_left
   ·simp (disch:=omega) only[au,Int.toNat_natCast,wrap64]
   refine(bind_eq (r:=(s2,())) ?_ _).trans ?_
   ·simp (disch:=omega) only[au,Int.toNat_natCast,wrap64,e2]
   refine aI.trans ?_
   rw[aQ (y:=(s1,s2))]
   rotate_left
   ·simp (disch:=omega) only[au,Int.toNat_natCast,wrap64]
   simp (disch:=omega) only[wrap64,cz hd]
  ·simp only[Int.toNat_natCast]
   refine bX.trans ?_
   refine aI.trans ?_
   refine(bind_eq (r:=(s1,())) ?_ _).trans ?_
   ·simp (disch:=omega) only[au,Int.toNat_natCast,wrap64,e1]
   refine(bu (vl ?_)).trans ?_
   ·simp (disch:=omega) only[au,Int.toNat_natCast,wrap64]
   refine aI.trans ?_
   refine(bind_eq (r:=(s2,())) ?_ _).trans ?_
   ·simp (disch:=omega) only[au,Int.toNat_natCast,wrap64,e2]
   refine(bu (vl ?_)).trans ?_
   ·simp (disch:=omega) only[au,Int.toNat_natCast,wrap64]
   simp (disch:=omega) only[wrap64,cz hd]
theorem eL:pF (.sl ab) (cG k) (cI k):=by
 refine fu hk ?_ ?_ ?_
 ·intro G l n i hi
  simp only[aw]
  rw[if_neg (by simp;omega)]
 ·intro G l n i hi
  simp only[aw]
  rw[if_neg (by simp;omega)]
 ·intro x n h1 h2
  unfold bp at h2
  have t0:=cr hk x
  obtain⟨n1,y1,e1,a1,b1,q1⟩:=eI hk (x.1) (n) (by omega) (by unfold bp;omega)
  have z1:decide (n1<0)=false:=by simp;omega
  obtain⟨s4,e4⟩:=jY hk (n:=n1+1+1) (by omega) (by unfold bp;omega)
  refine⟨n1+1+1+1,(y1,(n1,(n1+1,s4))),by omega,by omega,fun G d r hd=> ?_,fun G d r hd=> ?_⟩
  ·simp only[Int.toNat_natCast]
   refine bX.trans ?_
   refine aI.trans ?_
   refine(bind_eq (r:=(n1,y1)) ?_ _).trans ?_
   ·simp (disch:=omega) only[au,Int.toNat_natCast,wrap64,e1]
   rw[aQ (y:=(y1,x.2))]
   rotate_left
   ·simp (disch:=omega) only[au,Int.toNat_natCast,wrap64]
   refine aI.trans ?_
   rw[aQ (y:=(y1,(n1,x.2.2)))]
   rotate_left
   ·simp (disch:=omega) only[au,Int.toNat_natCast,wrap64]
   refine aI.trans ?_
   rw[aQ (y:=(y1,(n1,(n1+1,x.2.2.2))))]
   rotate_left
   ·simp (disch:=omega) only[au,Int.toNat_natCast,wrap64]
   refine(bind_eq (r:=(s4,())) ?_ _).trans ?_
   ·simp (disch:=omega) only[au,Int.toNat_natCast,wrap64,e4]
   refine aI.trans ?_
   rw[aQ (y:=(y1,(n1,(n1+1,s4))))]
   rotate_left
   ·simp (disch:=omega) only[au,Int.toNat_natCast,wrap64]
   simp (disch:=omega) only[wrap64,cz hd]
  ·simp only[Int.toNat_natCast]
   refine bX.trans ?_
   refine aI.trans ?_
   refine(bind_eq (r:=(n1,())) ?_ _).trans ?_
   ·simp (disch:=omega) only[au,Int.toNat_natCast,wrap64,q1]
   refine(bu z1).trans ?_
   refine aI.trans ?_
   refine(bu (cC ?_)).trans ?_
   ·simp (disch:=omega) only[au,Int.toNat_natCast,wrap64]
   refine aI.trans ?_
   refine(bu (cC ?_)).trans ?_
   ·simp (disch:=omega) only[au,Int.toNat_natCast,wrap64]
   refine aI.trans ?_
   refine(bind_eq (r:=(s4,())) ?_ _).trans ?_
   ·simp (disch:=omega) only[au,Int.toNat_natCast,wrap64,e4]
   refine(bu (vl ?_)).trans ?_
   ·simp (disch:=omega) only[au,Int.toNat_natCast,wrap64]
   simp (disch:=omega) only[wrap64,cz hd]
theorem LR:pF (.sl ay) (mr k) (mg k):=by
 refine fu hk ?_ ?_ ?_
 ·intro G l n i hi
  simp only[aw]
  rw[if_neg (by simp;omega)]
 ·intro G l n i hi
  simp only[aw]
  rw[if_neg (by simp;omega)]
 ·intro x n h1 h2
  unfold bp at h2
  have t0:=ep hk x
  obtain⟨n2,y2,e2,a2,b2,q2⟩:=eL hk (x.2) (n+1) (by omega) (by unfold bp;omega)
  have z2:decide (n2<0)=false:=by simp;omega
  refine⟨n2,(n,y2),by omega,by omega,fun G d r hd=> ?_,fun G d r hd=> ?_⟩
  ·simp only[Int.toNat_natCast]
   refine bX.trans ?_
   refine aI.trans ?_
   rw[aQ (y:=(n,x.2))]
   rotate_left
   ·simp (disch:=omega) only[au,Int.toNat_natCast,wrap64]
   refine aI.trans ?_
   refine(bind_eq (r:=(n2,y2)) ?_ _).trans ?_
   ·simp (disch:=omega) only[au,Int.toNat_natCast,wrap64,e2]
   rw[aQ (y:=(n,y2))]
   rotate_left
   ·simp (disch:=omega) only[au,Int.toNat_natCast,wrap64]
   simp (disch:=omega) only[wrap64,cz hd]
  ·simp only[Int.toNat_natCast]
   refine bX.trans ?_
   refine aI.trans ?_
   refine(bu (cC ?_)).trans ?_
   ·simp (disch:=omega) only[au,Int.toNat_natCast,wrap64]
   refine aI.trans ?_
   refine(bind_eq (r:=(n2,())) ?_ _).trans ?_
   ·simp (disch:=omega) only[au,Int.toNat_natCast,wrap64,q2]
   refine(bu z2).trans ?_
   simp (disch:=omega) only[wrap64,cz hd]
theorem NX:pF (.sl aq) (nw k) (nJ k):=by
 refine fu hk ?_ ?_ ?_
 ·intro G l n i hi
  simp only[aw]
  rw[if_neg (by simp;omega)]
 ·intro G l n i hi
  simp only[aw]
  rw[if_neg (by simp;omega)]
 ·intro x n h1 h2
  unfold bp at h2
  have t0:=dL hk x
  obtain⟨n3,y3,e3,a3,b3,q3⟩:=LR hk (x.2.2) (n+1+1) (by omega) (by unfold bp;omega)
  have z3:decide (n3<0)=false:=by simp;omega
  refine⟨n3,(n,(n+1,y3)),by omega,by omega,fun G d r hd=> ?_,fun G d r hd=> ?_⟩
  ·simp only[Int.toNat_natCast]
   refine bX.trans ?_
   refine aI.trans ?_
   rw[aQ (y:=(n,x.2))]
   rotate_left
   ·simp (disch:=omega) only[au,Int.toNat_natCast,wrap64]
   refine aI.trans ?_
   rw[aQ (y:=(n,(n+1,x.2.2)))]
   rotate_left
   ·simp (disch:=omega) only[au,Int.toNat_natCast,wrap64]
   refine aI.trans ?_
   refine(bind_eq (r:=(n3,y3)) ?_ _).trans ?_
   ·simp (disch:=omega) only[au,Int.toNat_natCast,wrap64,e3]
   rw[aQ (y:=(n,(n+1,y3)))]
   rotate_left
   ·simp (disch:=omega) only[au,Int.toNat_natCast,wrap64]
   simp (disch:=omega) only[wrap64,cz hd]
  ·simp only[Int.toNat_natCast]
   refine bX.trans ?_
   refine aI.trans ?_
   refine(bu (cC ?_)).trans ?_
   ·simp (disch:=omega) only[au,Int.toNat_natCast,wrap64]
   refine aI.trans ?_
   refine(bu (cC ?_)).trans ?_
   ·simp (disch:=omega) only[au,Int.toNat_natCast,wrap64]
   refine aI.trans ?_
   refine(bind_eq (r:=(n3,())) ?_ _).trans ?_
   ·simp (disch:=omega) only[au,Int.toNat_natCast,wrap64,q3]
   refine(bu z3).trans ?_
   simp (disch:=omega) only[wrap64,cz hd]
theorem Ov:pF (.sl aU) (oK k) (oN k):=by
 refine fu hk ?_ ?_ ?_
 ·intro G l n i hi
  simp only[aw]
  rw[if_neg (by simp;omega)]
 ·intro G l n i hi
  simp only[aw]
  rw[if_neg (by simp;omega)]
 ·intro x n h1 h2
  unfold bp at h2
  have t0:=nS hk x
  obtain⟨n1,y1,e1,a1,b1,q1⟩:=eL hk (x.1) (n) (by omega) (by unfold bp;omega)
  have z1:decide (n1<0)=false:=by simp;omega
  refine⟨n1+1,(y1,((Int.tmod (n1) 3:Int)==0)),by omega,by omega,fun G d r hd=> ?_,fun G d r hd=> ?_⟩
  ·simp only[Int.toNat_natCast]
   refine bX.trans ?_
   refine aI.trans ?_
   refine(bind_eq (r:=(n1,y1)) ?_ _).trans ?_
   ·simp (disch:=omega) only[au,Int.toNat_natCast,wrap64,e1]
   rw[aQ (y:=(y1,x.2))]
   rotate_left
   ·simp (disch:=omega) only[au,Int.toNat_natCast,wrap64]
   refine(if_pos U1).trans ?_
   refine aI.trans ?_
   rw[aQ (y:=(y1,((Int.tmod (n1) 3:Int)==0)))]
   rotate_left
   ·simp (disch:=omega) only[au,Int.toNat_natCast,wrap64]
   simp (disch:=omega) only[wrap64,cz hd]
  ·simp only[Int.toNat_natCast]
   refine bX.trans ?_
   refine aI.trans ?_
   refine(bind_eq (r:=(n1,())) ?_ _).trans ?_
   ·simp (disch:=omega) only[au,Int.toNat_natCast,wrap64,q1]
   refine(bu z1).trans ?_
   refine aI.trans ?_
   refine(if_pos U1).trans ?_
   refine(bu (Tw ?_)).trans ?_
   ·simp (disch:=omega) only[au,Int.toNat_natCast,wrap64]
   simp (disch:=omega) only[wrap64,cz hd]
theorem Mc:pF (.sl al) (mq k) (mf k):=by
 refine fu hk ?_ ?_ ?_
 ·intro G l n i hi
  simp only[aw]
  rw[if_neg (by simp;omega)]
 ·intro G l n i hi
  simp only[aw]
  rw[if_neg (by simp;omega)]
 ·intro x n h1 h2
  unfold bp at h2
  have t0:=gG hk x
  obtain⟨n2,y2,e2,a2,b2,q2⟩:=eI hk (x.2.1) (n+1) (by omega) (by unfold bp;omega)
  have z2:decide (n2<0)=false:=by simp;omega
  obtain⟨n5,y5,e5,a5,b5,q5⟩:=eL hk (x.2.2.2.2) (n2+1+1) (by omega) (by unfold bp;omega)
  have z5:decide (n5<0)=false:=by simp;omega
  refine⟨n5,(n,(y2,(n2,(n2+1,y5)))),by omega,by omega,fun G d r hd=> ?_,fun G d r hd=> ?_⟩
  ·simp only[Int.toNat_natCast]
   refine bX.trans ?_
   refine aI.trans ?_
   rw[aQ (y:=(n,x.2))]
   rotate_left
   ·simp (disch:=omega) only[au,Int.toNat_natCast,wrap64]
   refine aI.trans ?_
   refine(bind_eq (r:=(n2,y2)) ?_ _).trans ?_
   ·simp (disch:=omega) only[au,Int.toNat_natCast,wrap64,e2]
   rw[aQ (y:=(n,(y2,x.2.2)))]
   rotate_left
   ·simp (disch:=omega) only[au,Int.toNat_natCast,wrap64]
   refine aI.trans ?_
   rw[aQ (y:=(n,(y2,(n2,x.2.2.2))))]
   rotate_left
   ·simp (disch:=omega) only[au,Int.toNat_natCast,wrap64]
   refine aI.trans ?_
   rw[aQ (y:=(n,(y2,(n2,(n2+1,x.2.2.2.2)))))]
   rotate_left
   ·simp (disch:=omega) only[au,Int.toNat_natCast,wrap64]
   refine aI.trans ?_
   refine(bind_eq (r:=(n5,y5)) ?_ _).trans ?_
   ·simp (disch:=omega) only[au,Int.toNat_natCast,wrap64,e5]
   rw[aQ (y:=(n,(y2,(n2,(n2+1,y5)))))]
   rotate_left
   ·simp (disch:=omega) only[au,Int.toNat_natCast,wrap64]
   simp (disch:=omega) only[wrap64,cz hd]
  ·simp only[Int.toNat_natCast]
   refine bX.trans ?_
   refine aI.trans ?_
   refine(bu (cC ?_)).trans ?_
   ·simp (disch:=omega) only[au,Int.toNat_natCast,wrap64]
   refine aI.trans ?_
   refine(bind_eq (r:=(n2,())) ?_ _).trans ?_
   ·simp (disch:=omega) only[au,Int.toNat_natCast,wrap64,q2]
   refine(bu z2).trans ?_
   refine aI.trans ?_
   refine(bu (cC ?_)).trans ?_
   ·simp (disch:=omega) only[au,Int.toNat_natCast,wrap64]
   refine aI.trans ?_
   refine(bu (cC ?_)).trans ?_
   ·simp (disch:=omega) only[au,Int.toNat_natCast,wrap64]
   refine aI.trans ?_
   refine(bind_eq (r:=(n5,())) ?_ _).trans ?_
   ·simp (disch:=omega) only[au,Int.toNat_natCast,wrap64,q5]
   refine(bu z5).trans ?_
   simp (disch:=omega) only[wrap64,cz hd]
theorem Ln:pF (.sl aC) (mj k) (mu k):=by
 refine fu hk ?_ ?_ ?_
 ·intro G l n i hi
  simp only[aw]
  rw[if_neg (by simp;omega)]
 ·intro G l n i hi
  simp only[aw]
  rw[if_neg (by simp;omega)]
 ·intro x n h1 h2
  unfold bp at h2
  have t0:=Ai hk x
  refine⟨n+1+1,(n,n+1),by omega,by omega,fun G d r hd=> ?_,fun G d r hd=> ?_⟩
  ·simp only[Int.toNat_natCast]
   refine bX.trans ?_
   refine aI.trans ?_
   rw[aQ (y:=(n,x.2))]
   rotate_left
   ·simp (disch:=omega) only[au,Int.toNat_natCast,wrap64]
   refine aI.trans ?_
   rw[aQ (y:=(n,n+1))]
   rotate_left
   ·simp (disch:=omega) only[au,Int.toNat_natCast,wrap64]
   simp (disch:=omega) only[wrap64,cz hd]
  ·simp only[Int.toNat_natCast]
   refine bX.trans ?_
   refine aI.trans ?_
   refine(bu (cC ?_)).trans ?_
   ·simp (disch:=omega) only[au,Int.toNat_natCast,wrap64]
   refine aI.trans ?_
   refine(bu (cC ?_)).trans ?_
   ·simp (disch:=omega) only[au,Int.toNat_natCast,wrap64]
   simp (disch:=omega) only[wrap64,cz hd]
theorem Lr:pF (.sl aN) (mn k) (ml k):=by
 refine fu hk ?_ ?_ ?_
 ·intro G l n i hi
  simp only[aw]
  rw[if_neg (by simp;omega)]
 ·intro G l n i hi
  simp only[aw]
  rw[if_neg (by simp;omega)]
 ·intro x n h1 h2
  unfold bp at h2
  have t0:=nO hk x
  obtain⟨n2,y2,e2,a2,b2,q2⟩:=eI hk (x.2.1) (n+1) (by omega) (by unfold bp;omega)
  have z2:decide (n2<0)=false:=by simp;omega
  obtain⟨n4,y4,e4,a4,b4,q4⟩:=eL hk (x.2.2.2) (n2+1) (by omega) (by unfold bp;omega)
  have z4:decide (n4<0)=false:=by simp;omega
  refine⟨n4,(n,(y2,(n2,y4))),by omega,by omega,fun G d r hd=> ?_,fun G d r hd=> ?_⟩
  ·simp only[Int.toNat_natCast]
   refine bX.trans ?_
   refine aI.trans ?_
   rw[aQ (y:=(n,x.2))]
   rotate_left
   ·simp (disch:=omega) only[au,Int.toNat_natCast,wrap64]
   refine aI.trans ?_
   refine(bind_eq (r:=(n2,y2)) ?_ _).trans ?_
   ·simp (disch:=omega) only[au,Int.toNat_natCast,wrap64,e2]
   rw[aQ (y:=(n,(y2,x.2.2)))]
   rotate_left
   ·simp (disch:=omega) only[au,Int.toNat_natCast,wrap64]
   refine aI.trans ?_
   rw[aQ (y:=(n,(y2,(n2,x.2.2.2))))]
   rotate_left
   ·simp (disch:=omega) only[au,Int.toNat_natCast,wrap64]
   refine aI.trans ?_
   refine(bind_eq (r:=(n4,y4)) ?_ _).trans ?_
   ·simp (disch:=omega) only[au,Int.toNat_natCast,wrap64,e4]
   rw[aQ (y:=(n,(y2,(n2,y4))))]
   rotate_left
   ·simp (disch:=omega) only[au,Int.toNat_natCast,wrap64]
   simp (disch:=omega) only[wrap64,cz hd]
  ·simp only[Int.toNat_natCast]
   refine bX.trans ?_
   refine aI.trans ?_
   refine(bu (cC ?_)).trans ?_
   ·simp (disch:=omega) only[au,Int.toNat_natCast,wrap64]
   refine aI.trans ?_
   refine(bind_eq (r:=(n2,())) ?_ _).trans ?_
   ·simp (disch:=omega) only[au,Int.toNat_natCast,wrap64,q2]
   refine(bu z2).trans ?_
   refine aI.trans ?_
   refine(bu (cC ?_)).trans ?_
   ·simp (disch:=omega) only[au,Int.toNat_natCast,wrap64]
   refine aI.trans ?_
   refine(bind_eq (r:=(n4,())) ?_ _).trans ?_
   ·simp (disch:=omega) only[au,Int.toNat_natCast,wrap64,q4]
   refine(bu z4).trans ?_
   simp (disch:=omega) only[wrap64,cz hd]
theorem OD:pF (.sl (.int .i64)) (oj k) (oJ k):=by
 refine fu hk ?_ ?_ ?_
 ·intro G l n i hi
  simp only[aw]
  rw[if_neg (by simp;omega)]
 ·intro G l n i hi
  simp only[aw]
  rw[if_neg (by simp;omega)]
 ·intro x n h1 h2
  unfold bp at h2
  refine⟨n+1,n,by omega,by omega,fun G d r hd=> ?_,fun G d r hd=> ?_⟩
  ·simp only[Int.toNat_natCast]
   refine bX.trans ?_
   refine aI.trans ?_
   rw[aQ (y:=n)]
   rotate_left
   ·simp (disch:=omega) only[au,Int.toNat_natCast,wrap64]
   simp (disch:=omega) only[wrap64,cz hd]
  ·simp only[Int.toNat_natCast]
   refine bX.trans ?_
   refine aI.trans ?_
   refine(bu (cC ?_)).trans ?_
   ·simp (disch:=omega) only[au,Int.toNat_natCast,wrap64]
   simp (disch:=omega) only[wrap64,cz hd]
set_option maxHeartbeats 4000000 in
theorem NU:pF (.sl ah) (nH k) (nG k):=by
 refine fu hk ?_ ?_ ?_
 ·intro G l n i hi
  simp only[aw]
  rw[if_neg (by simp;omega)]
 ·intro G l n i hi
  simp only[aw]
  rw[if_neg (by simp;omega)]
 ·intro x n h1 h2
  unfold bp at h2
  have t0:=dJ hk x
  have t1:=cr hk x.2.2.1
  obtain⟨n3,y3,e3,a3,b3,q3⟩:=eI hk (x.2.2.1.1) (n+1+1) (by omega) (by unfold bp;omega)
  have z3:decide (n3<0)=false:=by simp;omega
  obtain⟨s6,e6⟩:=jY hk (n:=n3+1+1) (by omega) (by unfold bp;omega)
  obtain⟨n7,y7,e7,a7,b7,q7⟩:=eI hk (x.2.2.2.1) (n3+1+1+1) (by omega) (by unfold bp;omega)
  have z7:decide (n7<0)=false:=by simp;omega
  obtain⟨n9,y9,e9,a9,b9,q9⟩:=OD hk (x.2.2.2.2.2.1) (n7+1) (by omega) (by unfold bp;omega)
  have z9:decide (n9<0)=false:=by simp;omega
  obtain⟨n10,y10,e10,a10,b10,MF⟩:=eL hk (x.2.2.2.2.2.2.1) (n9) (by omega) (by unfold bp;omega)
  have z10:decide (n10<0)=false:=by simp;omega
  refine⟨n10+1+1,(n,(n+1,((y3,(n3,(n3+1,s6))),(y7,(n7,(y9,(y10,(n10,n10+1)))))))),by omega,by omega,fun G d r hd=> ?_,fun G d r hd=> ?_⟩
  ·simp only[Int.toNat_natCast]
   refine bX.trans ?_
   refine aI.trans ?_
   rw[aQ (y:=(n,x.2))]
   rotate_left
   ·simp (disch:=omega) only[au,Int.toNat_natCast,wrap64]
   refine aI.trans ?_
   rw[aQ (y:=(n,(n+1,x.2.2)))]
   rotate_left
   ·simp (disch:=omega) only[au,Int.toNat_natCast,wrap64]
   refine aI.trans ?_
   refine(bind_eq (r:=(n3,y3)) ?_ _).trans ?_
   ·simp (disch:=omega) only[au,Int.toNat_natCast,wrap64,e3]
   rw[aQ (y:=(n,(n+1,((y3,x.2.2.1.2),x.2.2.2))))]
   rotate_left
   ·simp (disch:=omega) only[au,Int.toNat_natCast,wrap64]
   refine aI.trans ?_
   rw[aQ (y:=(n,(n+1,((y3,(n3,x.2.2.1.2.2)),x.2.2.2))))]
   rotate_left
   ·simp (disch:=omega) only[au,Int.toNat_natCast,wrap64]
   refine aI.trans ?_
   rw[aQ (y:=(n,(n+1,((y3,(n3,(n3+1,x.2.2.1.2.2.2))),x.2.2.2))))]
   rotate_left
   ·simp (disch:=omega) only[au,Int.toNat_natCast,wrap64]
   refine(bind_eq (r:=(s6,())) ?_ _).trans ?_
   ·simp (disch:=omega) only[au,Int.toNat_natCast,wrap64,e6]
   refine aI.trans ?_
   rw[aQ (y:=(n,(n+1,((y3,(n3,(n3+1,s6))),x.2.2.2))))]
   rotate_left
   ·simp (disch:=omega) only[au,Int.toNat_natCast,wrap64]
   refine aI.trans ?_
   refine(bind_eq (r:=(n7,y7)) ?_ _).trans ?_
   ·simp (disch:=omega) only[au,Int.toNat_natCast,wrap64,e7]
   rw[aQ (y:=(n,(n+1,((y3,(n3,(n3+1,s6))),(y7,x.2.2.2.2)))))]
   rotate_left
   ·simp (disch:=omega) only[au,Int.toNat_natCast,wrap64]
   refine aI.trans ?_
   rw[aQ (y:=(n,(n+1,((y3,(n3,(n3+1,s6))),(y7,(n7,x.2.2.2.2.2))))))]
   rotate_left
   ·simp (disch:=omega) only[au,Int.toNat_natCast,wrap64]
   refine aI.trans ?_
   refine(bind_eq (r:=(n9,y9)) ?_ _).trans ?_
   ·simp (disch:=omega) only[au,Int.toNat_natCast,wrap64,e9]
   rw[aQ (y:=(n,(n+1,((y3,(n3,(n3+1,s6))),(y7,(n7,(y9,x.2.2.2.2.2.2)))))))]
   rotate_left
   ·simp (disch:=omega) only[au,Int.toNat_natCast,wrap64]
   refine aI.trans ?_
   refine(bind_eq (r:=(n10,y10)) ?_ _).trans ?_
   ·simp (disch:=omega) only[au,Int.toNat_natCast,wrap64,e10]
   rw[aQ (y:=(n,(n+1,((y3,(n3,(n3+1,s6))),(y7,(n7,(y9,(y10,x.2.2.2.2.2.2.2))))))))]
   rotate_left
   ·simp (disch:=omega) only[au,Int.toNat_natCast,wrap64]
   refine aI.trans ?_
   rw[aQ (y:=(n,(n+1,((y3,(n3,(n3+1,s6))),(y7,(n7,(y9,(y10,(n10,x.2.2.2.2.2.2.2.2)))))))))]
   rotate_left
   ·simp (disch:=omega) only[au,Int.toNat_natCast,wrap64]
   refine aI.trans ?_
   rw[aQ (y:=(n,(n+1,((y3,(n3,(n3+1,s6))),(y7,(n7,(y9,(y10,(n10,n10+1)))))))))]
   rotate_left
   ·simp (disch:=omega) only[au,Int.toNat_natCast,wrap64]
   simp (disch:=omega) only[wrap64,cz hd]
  ·simp only[Int.toNat_natCast]
   refine bX.trans ?_
   refine aI.trans ?_
   refine(bu (cC ?_)).trans ?_
   ·simp (disch:=omega) only[au,Int.toNat_natCast,wrap64]
   refine aI.trans ?_
   refine(bu (cC ?_)).trans ?_
   ·simp (disch:=omega) only[au,Int.toNat_natCast,wrap64]
   refine aI.trans ?_
   refine(bind_eq (r:=(n3,())) ?_ _).trans ?_
   ·simp (disch:=omega) only[au,Int.toNat_natCast,wrap64,q3]
   refine(bu z3).trans ?_
   refine aI.trans ?_
   refine(bu (cC ?_)).trans ?_
   ·simp (disch:=omega) only[au,Int.toNat_natCast,wrap64]
   refine aI.trans ?_
   refine(bu (cC ?_)).trans ?_
   ·simp (disch:=omega) only[au,Int.toNat_natCast,wrap64]
   refine aI.trans ?_
   refine(bind_eq (r:=(s6,())) ?_ _).trans ?_
   ·simp (disch:=omega) only[au,Int.toNat_natCast,wrap64,e6]
   refine(bu (vl ?_)).trans ?_
   ·simp (disch:=omega) only[au,Int.toNat_natCast,wrap64]
   refine aI.trans ?_
   refine(bind_eq (r:=(n7,())) ?_ _).trans ?_
   ·simp (disch:=omega) only[au,Int.toNat_natCast,wrap64,q7]
   refine(bu z7).trans ?_
   refine aI.trans ?_
   refine(bu (cC ?_)).trans ?_
   ·simp (disch:=omega) only[au,Int.toNat_natCast,wrap64]
   refine aI.trans ?_
   refine(bind_eq (r:=(n9,())) ?_ _).trans ?_
   ·simp (disch:=omega) only[au,Int.toNat_natCast,wrap64,q9]
   refine(bu z9).trans ?_
   refine aI.trans ?_
   refine(bind_eq (r:=(n10,())) ?_ _).trans ?_
   ·simp (disch:=omega) only[au,Int.toNat_natCast,wrap64,MF]
   refine(bu z10).trans ?_
   refine aI.trans ?_
   refine(bu (cC ?_)).trans ?_
   ·simp (disch:=omega) only[au,Int.toNat_natCast,wrap64]
   refine aI.trans ?_
   refine(bu (cC ?_)).trans ?_
   ·simp (disch:=omega) only[au,Int.toNat_natCast,wrap64]
   simp (disch:=omega) only[wrap64,cz hd]
set_option maxHeartbeats 4000000 in
theorem M0:pF (.sl ak) (ny k) (nv k):=by
 refine fu hk ?_ ?_ ?_
 ·intro G l n i hi
  simp only[aw]
  rw[if_neg (by simp;omega)]
 ·intro G l n i hi
  simp only[aw]
  rw[if_neg (by simp;omega)]
 ·intro x n h1 h2
  unfold bp at h2
  have t0:=jt hk x
  have t1:=cr hk x.2.2.1
  obtain⟨n3,y3,e3,a3,b3,q3⟩:=eI hk (x.2.2.1.1) (n+1+1) (by omega) (by unfold bp;omega)
  have z3:decide (n3<0)=false:=by simp;omega
  obtain⟨s6,e6⟩:=jY hk (n:=n3+1+1) (by omega) (by unfold bp;omega)
  obtain⟨n7,y7,e7,a7,b7,q7⟩:=eI hk (x.2.2.2.1) (n3+1+1+1) (by omega) (by unfold bp;omega)
  have z7:decide (n7<0)=false:=by simp;omega
  obtain⟨n11,y11,e11,a11,b11,U0⟩:=eL hk (x.2.2.2.2.2.2.2.1) (n7+1+1+1) (by omega) (by unfold bp;omega)
  have z11:decide (n11<0)=false:=by simp;omega
  refine⟨n11+1+1+1+1,(n,(n+1,((y3,(n3,(n3+1,s6))),(y7,(n7,(n7+1,(n7+1+1,(y11,(n11,(n11+1,(n11+1+1,n11+1+1+1))))))))))),by omega,by omega,fun G d r hd=> ?_,fun G d r hd=> ?_⟩
  ·simp only[Int.toNat_natCast]
   refine bX.trans ?_
   refine aI.trans ?_
   rw[aQ (y:=(n,x.2))]
   rotate_left
   ·simp (disch:=omega) only[au,Int.toNat_natCast,wrap64]
   refine aI.trans ?_
   rw[aQ (y:=(n,(n+1,x.2.2)))]
   rotate_left
   ·simp (disch:=omega) only[au,Int.toNat_natCast,wrap64]
   refine aI.trans ?_
   refine(bind_eq (r:=(n3,y3)) ?_ _).trans ?_
   ·simp (disch:=omega) only[au,Int.toNat_natCast,wrap64,e3]
   rw[aQ (y:=(n,(n+1,((y3,x.2.2.1.2),x.2.2.2))))]
   rotate_left
   ·simp (disch:=omega) only[au,Int.toNat_natCast,wrap64]
   refine aI.trans ?_
   rw[aQ (y:=(n,(n+1,((y3,(n3,x.2.2.1.2.2)),x.2.2.2))))]
   rotate_left
   ·simp (disch:=omega) only[au,Int.toNat_natCast,wrap64]
   refine aI.trans ?_
   rw[aQ (y:=(n,(n+1,((y3,(n3,(n3+1,x.2.2.1.2.2.2))),x.2.2.2))))]
   rotate_left
   ·simp (disch:=omega) only[au,Int.toNat_natCast,wrap64]
   refine(bind_eq (r:=(s6,())) ?_ _).trans ?_
   ·simp (disch:=omega) only[au,Int.toNat_natCast,wrap64,e6]
   refine aI.trans ?_
   rw[aQ (y:=(n,(n+1,((y3,(n3,(n3+1,s6))),x.2.2.2))))]
   rotate_left
   ·simp (disch:=omega) only[au,Int.toNat_natCast,wrap64]
   refine aI.trans ?_
   refine(bind_eq (r:=(n7,y7)) ?_ _).trans ?_
   ·simp (disch:=omega) only[au,Int.toNat_natCast,wrap64,e7]
   rw[aQ (y:=(n,(n+1,((y3,(n3,(n3+1,s6))),(y7,x.2.2.2.2)))))]
   rotate_left
   ·simp (disch:=omega) only[au,Int.toNat_natCast,wrap64]
   refine aI.trans ?_
   rw[aQ (y:=(n,(n+1,((y3,(n3,(n3+1,s6))),(y7,(n7,x.2.2.2.2.2))))))]
   rotate_left
   ·simp (disch:=omega) only[au,Int.toNat_natCast,wrap64]
   refine aI.trans ?_
   rw[aQ (y:=(n,(n+1,((y3,(n3,(n3+1,s6))),(y7,(n7,(n7+1,x.2.2.2.2.2.2)))))))]
   rotate_left
   ·simp (disch:=omega) only[au,Int.toNat_natCast,wrap64]
   refine aI.trans ?_
   rw[aQ (y:=(n,(n+1,((y3,(n3,(n3+1,s6))),(y7,(n7,(n7+1,(n7+1+1,x.2.2.2.2.2.2.2))))))))]
   rotate_left
   ·simp (disch:=omega) only[au,Int.toNat_natCast,wrap64]
   refine aI.trans ?_
   refine(bind_eq (r:=(n11,y11)) ?_ _).trans ?_
   ·simp (disch:=omega) only[au,Int.toNat_natCast,wrap64,e11]
   rw[aQ (y:=(n,(n+1,((y3,(n3,(n3+1,s6))),(y7,(n7,(n7+1,(n7+1+1,(y11,x.2.2.2.2.2.2.2.2)))))))))]
   rotate_left
   ·simp (disch:=omega) only[au,Int.toNat_natCast,wrap64]
   refine aI.trans ?_
   rw[aQ (y:=(n,(n+1,((y3,(n3,(n3+1,s6))),(y7,(n7,(n7+1,(n7+1+1,(y11,(n11,x.2.2.2.2.2.2.2.2.2))))))))))]
   rotate_left
   ·simp (disch:=omega) only[au,Int.toNat_natCast,wrap64]
   refine aI.trans ?_
   rw[aQ (y:=(n,(n+1,((y3,(n3,(n3+1,s6))),(y7,(n7,(n7+1,(n7+1+1,(y11,(n11,(n11+1,x.2.2.2.2.2.2.2.2.2.2)))))))))))]
   rotate_left
   ·simp (disch:=omega) only[au,Int.toNat_natCast,wrap64]
   refine aI.trans ?_
   rw[aQ (y:=(n,(n+1,((y3,(n3,(n3+1,s6))),(y7,(n7,(n7+1,(n7+1+1,(y11,(n11,(n11+1,(n11+1+1,x.2.2.2.2.2.2.2.2.2.2.2))))))))))))]
   rotate_left
   ·simp (disch:=omega) only[au,Int.toNat_natCast,wrap64]
   refine aI.trans ?_
   rw[aQ (y:=(n,(n+1,((y3,(n3,(n3+1,s6))),(y7,(n7,(n7+1,(n7+1+1,(y11,(n11,(n11+1,(n11+1+1,n11+1+1+1))))))))))))]
   rotate_left
   ·simp (disch:=omega) only[au,Int.toNat_natCast,wrap64]
   simp (disch:=omega) only[wrap64,cz hd]
  ·simp only[Int.toNat_natCast]
   refine bX.trans ?_
   refine aI.trans ?_
   refine(bu (cC ?_)).trans ?_
   ·simp (disch:=omega) only[au,Int.toNat_natCast,wrap64]
   refine aI.trans ?_
   refine(bu (cC ?_)).trans ?_
   ·simp (disch:=omega) only[au,Int.toNat_natCast,wrap64]
   refine aI.trans ?_
   refine(bind_eq (r:=(n3,())) ?_ _).trans ?_
   ·simp (disch:=omega) only[au,Int.toNat_natCast,wrap64,q3]
   refine(bu z3).trans ?_
   refine aI.trans ?_
   refine(bu (cC ?_)).trans ?_
   ·simp (disch:=omega) only[au,Int.toNat_natCast,wrap64]
   refine aI.trans ?_
   refine(bu (cC ?_)).trans ?_
   ·simp (disch:=omega) only[au,Int.toNat_natCast,wrap64]
   refine aI.trans ?_
   refine(bind_eq (r:=(s6,())) ?_ _).trans ?_
   ·simp (disch:=omega) only[au,Int.toNat_natCast,wrap64,e6]
   refine(bu (vl ?_)).trans ?_
   ·simp (disch:=omega) only[au,Int.toNat_natCast,wrap64]
   refine aI.trans ?_
   refine(bind_eq (r:=(n7,())) ?_ _).trans ?_
   ·simp (disch:=omega) only[au,Int.toNat_natCast,wrap64,q7]
   refine(bu z7).trans ?_
   refine aI.trans ?_
   refine(bu (cC ?_)).trans ?_
   ·simp (disch:=omega) only[au,Int.toNat_natCast,wrap64]
   refine aI.trans ?_
   refine(bu (cC ?_)).trans ?_
   ·simp (disch:=omega) only[au,Int.toNat_natCast,wrap64]
   refine aI.trans ?_
   refine(bu (cC ?_)).trans ?_
   ·simp (disch:=omega) only[au,Int.toNat_natCast,wrap64]
   refine aI.trans ?_
   refine(bind_eq (r:=(n11,())) ?_ _).trans ?_
   ·simp (disch:=omega) only[au,Int.toNat_natCast,wrap64,U0]
   refine(bu z11).trans ?_
   refine aI.trans ?_
   refine(bu (cC ?_)).trans ?_
   ·simp (disch:=omega) only[au,Int.toNat_natCast,wrap64]
   refine aI.trans ?_
   refine(bu (cC ?_)).trans ?_
   ·simp (disch:=omega) only[au,Int.toNat_natCast,wrap64]
   refine aI.trans ?_
   refine(bu (cC ?_)).trans ?_
   ·simp (disch:=omega) only[au,Int.toNat_natCast,wrap64]
   refine aI.trans ?_
   refine(bu (cC ?_)).trans ?_
   ·simp (disch:=omega) only[au,Int.toNat_natCast,wrap64]
   simp (disch:=omega) only[wrap64,cz hd]
theorem AL (x:ar) (n:Int) (h1:1≤n) (h2:n+20*(ag aE x:Int)≤bp):∃(n9:Int) (y1:List ByteArray) (y2:List aG) (y3:List bF) (y4:List ai) (y5:List aJ) (y6:List bl) (y7:List bz) (y8:List ai) (y9:List aM) (y10:List aY),gb k x n=some (n9,(((x.1.1,(x.1.2.1,(x.1.2.2.1,(x.1.2.2.2.1,(x.1.2.2.2.2.1,y1))))),(x.2.1,(x.2.2.1,(y2,(y3,(y4,(x.2.2.2.2.2.2.1,(y5,(x.2.2.2.2.2.2.2.2.1,(y6,(y7,(y8,(y9,y10))))))))))))):ar))∧n≤n9∧n9≤n+20*(ag aE x:Int)∧gi k ((((x.1.1,(x.1.2.1,(x.1.2.2.1,(x.1.2.2.2.1,(x.1.2.2.2.2.1,y1))))),(x.2.1,(x.2.2.1,(y2,(y3,(y4,(x.2.2.2.2.2.2.1,(y5,(x.2.2.2.2.2.2.2.2.1,(y6,(y7,(y8,(y9,y10))))))))))))):ar),n,())=some (n9,()):=by
 unfold bp at h2
 have t0:=gK hk x
 have t1:=jk hk x.1
 obtain⟨n1,y1,e1,a1,b1,q1⟩:=Jp hk (x.1.2.2.2.2.2) (n) (by omega) (by unfold bp;omega)
 have z1:decide (n1<0)=false:=by simp;omega
 obtain⟨n2,y2,e2,a2,b2,q2⟩:=NX hk (x.2.2.2.1) (n1) (by omega) (by unfold bp;omega)
 have z2:decide (n2<0)=false:=by simp;omega
 obtain⟨n3,y3,e3,a3,b3,q3⟩:=Ov hk (x.2.2.2.2.1) (n2) (by omega) (by unfold bp;omega)
 have z3:decide (n3<0)=false:=by simp;omega
 obtain⟨n4,y4,e4,a4,b4,q4⟩:=eL hk (x.2.2.2.2.2.1) (n3) (by omega) (by unfold bp;omega)
 have z4:decide (n4<0)=false:=by simp;omega
 obtain⟨n5,y5,e5,a5,b5,q5⟩:=Mc hk (x.2.2.2.2.2.2.2.1) (n4) (by omega) (by unfold bp;omega)
 have z5:decide (n5<0)=false:=by simp;omega
 obtain⟨n6,y6,e6,a6,b6,q6⟩:=Ln hk (x.2.2.2.2.2.2.2.2.2.1) (n5) (by omega) (by unfold bp;omega)
 have z6:decide (n6<0)=false:=by simp;omega
 obtain⟨n7,y7,e7,a7,b7,q7⟩:=Lr hk (x.2.2.2.2.2.2.2.2.2.2.1) (n6) (by omega) (by unfold bp;omega)
 have z7:decide (n7<0)=false:=by simp;omega
 obtain⟨n8,y8,e8,a8,b8,q8⟩:=eL hk (x.2.2.2.2.2.2.2.2.2.2.2.1) (n7) (by omega) (by unfold bp;omega)
 have z8:decide (n8<0)=false:=by simp;omega
 obtain⟨n9,y9,e9,a9,b9,q9⟩:=NU hk (x.2.2.2.2.2.2.2.2.2.2.2.2.1) (n8) (by omega) (by unfold bp;omega)
 have z9:decide (n9<0)=false:=by simp;omega
 obtain⟨n10,y10,e10,a10,b10,MF⟩:=M0 hk (x.2.2.2.2.2.2.2.2.2.2.2.2.2) (n9) (by omega) (by unfold bp;omega)
 have z10:decide (n10<0)=false:=by simp;omega
 refine⟨n10,y1,y2,y3,y4,y5,y6,y7,y8,y9,y10,?_,by omega,by omega,?_⟩
 ·simp only[gb,ot,e1,e2,e3,e4,e5,e6,e7,e8,e9,e10,Option.bind_some]
 ·simp only[gi,oc,q1,z1,q2,z2,q3,z3,q4,z4,q5,z5,q6,z6,q7,z7,q8,z8,q9,z9,MF,z10,Option.bind_some,Bool.false_eq_true,if_false]
theorem MB (x:ai) (n:Int) (h1:1≤n) (h2:n+20*(ag ab x:Int)≤bp):∃(n9:Int) (y1:List aj),jv k x n=some (n9,((y1,x.2):ai))∧n≤n9∧n9≤n+20*(ag ab x:Int)∧True:=by
 unfold bp at h2
 have t0:=cr hk x
 obtain⟨n1,y1,e1,a1,b1,q1⟩:=eI hk (x.1) (n) (by omega) (by unfold bp;omega)
 have z1:decide (n1<0)=false:=by simp;omega
 refine⟨n1,y1,?_,by omega,by omega,?_⟩
 ·simp only[jv,e1,Option.bind_some]
 ·trivial
end
end Vg.Tryz
namespace Vg.Tryz
open Go Vg
set_option linter.unusedVariables false
set_option linter.unusedSectionVars false
set_option linter.unusedSimpArgs false
def DH (s:ByteArray) (i:Nat):Bool:=decide (97≤bt s i)&&decide (bt s i≤122)
def eP (s:ByteArray):Bool:=decide (1≤s.size∧s.size≤8)&&bf 0 s.size (DH s)
def tl (s:ByteArray) (i:Nat):Bool:=decide (32≤bt s i∧bt s i≤126∧bt s i≠34∧bt s i≠92)
def km (s:ByteArray):Bool:=decide (s.size≤12)&&bf 0 s.size (tl s)
def fo (x:aj):Bool:=eP x.1&&km x.2
def Dq (l:List aj) (i:Nat):Bool:=i==0||ly (l.getD (i-1) af.aa).1 (l.getD i af.aa).1
def eN (l:List aj):Bool:=decide (l.length≤4)&&bf 0 l.length (fun i=>fo (l.getD i af.aa)&&Dq l i)
section
variable {k:Nat} (hk:9223372036854775808≤k)
include hk
theorem vz {s:ByteArray} (hs:s.size≤1048576):jO k (s,())=some (eP s,()):=by
 simp only[jO,aO]
 rw[show((s,(0:Int),()):ByteArray×Int×Unit)=(fun i:Nat=>(s,(i:Int),())) 0 from rfl]
 rw[bN (fun i:Nat=>(s,(i:Int),())) (DH s) s.size (e:=some (decide (1≤s.size∧s.size≤8),())) (no:=some (false,())) ?_ ?_ k 0 (by omega)]
 ·unfold eP
  cases bf 0 s.size (DH s)<;>simp
 ·intro G i hi
  simp only
  rw[aw,decide_eq_true hi,if_pos rfl,if_pos (aK hi),aK hi,Bool.or_true,if_pos rfl,bd (by omega)]
  unfold DH
  by_cases h1:bt s i<97<;>by_cases h2:bt s i>122<;>simp[h1,h2]<;>omega
 ·intro G i hi
  simp only
  rw[aw,decide_eq_false (by omega),if_neg (by simp)]
  simp only[bE,Option.bind_some]
  congr 2
  rw[Bool.eq_iff_iff]
  simp
  omega
theorem wk {s:ByteArray} (hs:s.size≤1048576):jP k (s,())=some (eP s,()):=by
 simp only[jP,bA,Option.bind_some]
 by_cases hb:1≤s.size∧s.size≤8
 ·rw[if_neg (by simp;omega)]
  rw[show((s,(0:Int),()):ByteArray×Int×Unit)=(fun i:Nat=>(s,(i:Int),())) 0 from rfl]
  rw[bN (fun i:Nat=>(s,(i:Int),())) (DH s) s.size (e:=some (true,())) (no:=some (false,())) ?_ ?_ k 0 (by omega)]
  ·unfold eP
   cases bf 0 s.size (DH s)<;>simp[hb]
  ·intro G i hi
   simp only
   rw[aw,decide_eq_true hi,if_pos rfl,if_pos (aK hi),aK hi,Bool.or_true,if_pos rfl,bd (by omega)]
   unfold DH
   by_cases h1:bt s i<97<;>by_cases h2:bt s i>122<;>simp[h1,h2]<;>omega
  ·intro G i hi
   simp only
   rw[aw,decide_eq_false (by omega),if_neg (by simp)]
 ·rw[if_pos (by simp;omega)]
  unfold eP
  simp[hb]
theorem tY {s:ByteArray} (hs:s.size≤1048576):iS k (s,())=some (km s,()):=by
 simp only[iS,aO]
 rw[show((s,(0:Int),()):ByteArray×Int×Unit)=(fun i:Nat=>(s,(i:Int),())) 0 from rfl]
 rw[bN (fun i:Nat=>(s,(i:Int),())) (tl s) s.size (e:=some (decide (s.size≤12),())) (no:=some (false,())) ?_ ?_ k 0 (by omega)]
 ·unfold km
  cases bf 0 s.size (tl s)<;>simp
 ·intro G i hi
  simp only
  rw[aw,decide_eq_true hi,if_pos rfl,if_pos (aK hi),aK hi,Bool.or_true,if_pos rfl,Bool.or_true,if_pos rfl,Bool.or_true,if_pos rfl,bd (by omega)]
  unfold tl
  by_cases h1:bt s i<32<;>by_cases h2:bt s i>126<;>by_cases h3:bt s i=34<;>by_cases h4:bt s i=92<;>simp[h1,h2,h3,h4]<;>omega
 ·intro G i hi
  simp only
  rw[aw,decide_eq_false (by omega),if_neg (by simp)]
  congr 2
  rw[Bool.eq_iff_iff]
  simp
  omega
theorem uR {s:ByteArray} (hs:s.size≤1048576):iI k (s,())=some (km s,()):=by
 simp only[iI]
 by_cases hb:s.size≤12
 ·rw[if_neg (by simp;omega)]
  rw[show((s,(0:Int),()):ByteArray×Int×Unit)=(fun i:Nat=>(s,(i:Int),())) 0 from rfl]
  rw[bN (fun i:Nat=>(s,(i:Int),())) (tl s) s.size (e:=some (true,())) (no:=some (false,())) ?_ ?_ k 0 (by omega)]
  ·unfold km
   cases bf 0 s.size (tl s)<;>simp[hb]
  ·intro G i hi
   simp only
   rw[aw,decide_eq_true hi,if_pos rfl,if_pos (aK hi),bd (by omega)]
   unfold tl
   by_cases h1:bt s i<32<;>by_cases h2:bt s i>126<;>by_cases h3:bt s i=34<;>by_cases h4:bt s i=92<;>simp[h1,h2,h3,h4]<;>omega
  ·intro G i hi
   simp only
   rw[aw,decide_eq_false (by omega),if_neg (by simp)]
 ·rw[if_pos (by simp;omega)]
  unfold km
  simp[hb]
theorem FF {x:aj} (hs:ag af x≤1048576):lT k (x,())=some (fo x,()):=by
 rw[nQ hk]at hs
 simp only[lT]
 rw[vz hk (by omega),tY hk (by omega)]
 simp only[bM,Option.bind_some,fo]
 cases eP x.1<;>simp
theorem FW {x:aj} (hs:ag af x≤1048576):lU k (x,())=some (fo x,()):=by
 rw[nQ hk]at hs
 simp only[lU]
 rw[wk hk (by omega),uR hk (by omega)]
 simp only[bM,Option.bind_some,fo]
 cases eP x.1<;>simp
theorem mN {l:List aj} (hs:ag (.sl af) l≤1048576):gk k (l,())=some (eN l,()):=by
 have hl:=aA (e:=af) (l:=l)
 simp only[gk,aO]
 rw[show((l,(0:Int),()):List aj×Int×Unit)=(fun i:Nat=>(l,(i:Int),())) 0 from rfl]
 rw[bN (fun i:Nat=>(l,(i:Int),())) (fun i=>fo (l.getD i af.aa)&&Dq l i) l.length (e:=some (decide (l.length≤4),())) (no:=some (false,())) ?_ ?_ k 0 (by omega)]
 ·unfold eN
  cases bf 0 l.length (fun i=>fo (l.getD i af.aa)&&Dq l i)<;>simp
 ·intro G i hi
  simp only[Int.toNat_natCast]
  have hm:ag af (l.getD i af.aa)≤1048576:=Nat.le_trans (bo (e:=af) (ch hi)) hs
  rw[aw,decide_eq_true hi,if_pos rfl,if_pos (aK hi),FF hk hm,Option.bind_some,bd (by omega),pZ (by omega)]
  simp only
  rw[if_pos (by simp;omega),if_pos (by simp[hi])]
  simp only[fb,bM,Option.bind_some]
  rw[show((i:Int)-1).toNat=i-1 by omega]
  unfold Dq ly
  cases fo (l.getD i af.aa)with
  |false=>simp
  |true=>
   by_cases h0:i=0
   ·subst h0;simp
   ·have h0':(0:Int)<(i:Int):=by omega
    have h0n:0<i:=by omega
    cases Op.bytesLess (ByteArray.toList (l.getD (i-1) af.aa).1) (ByteArray.toList (l.getD i af.aa).1)<;>simp[h0,h0',h0n]
 ·intro G i hi
  simp only
  rw[aw,decide_eq_false (by omega),if_neg (by simp)]
  congr 2
  rw[Bool.eq_iff_iff]
  simp
  omega
theorem na {l:List aj} (hs:ag (.sl af) l≤1048576):ga k (l,())=some (eN l,()):=by
 have hl:=aA (e:=af) (l:=l)
 simp only[ga]
 rw[show((l,l,(l.length:Int),(0:Int),()):List aj×List aj×Int×Int×Unit)=(fun i:Nat=>(l,l,(l.length:Int),(i:Int),())) 0 from rfl]
 rw[bN (fun i:Nat=>(l,l,(l.length:Int),(i:Int),())) (fun i=>decide (i<4)&&(fo (l.getD i af.aa)&&Dq l i)) l.length (e:=some (true,())) (no:=some (false,())) ?_ ?_ k 0 (by omega)]
 ·unfold eN
  rw[DL,Pc]
  cases bf 0 l.length (fun i=>fo (l.getD i af.aa)&&Dq l i)<;>by_cases h:l.length≤4<;>simp[h]
 ·intro G i hi
  simp only[Int.toNat_natCast]
  have hm:ag af (l.getD i af.aa)≤1048576:=Nat.le_trans (bo (e:=af) (ch hi)) hs
  rw[aw,decide_eq_true hi,if_pos rfl,if_pos (aK hi),FW hk hm,bd (by omega),pZ (by omega)]
  simp only[bM,Option.bind_some]
  rw[show((i:Int)-1).toNat=i-1 by omega]
  rw[if_pos (by simp;omega)]
  unfold Dq ly
  by_cases h4:i<4
  ·have h4':¬(4:Int)≤(i:Int):=by omega
   cases fo (l.getD i af.aa)with
   |false=>simp[h4,h4']
   |true=>
    by_cases h0:i=0
    ·subst h0;simp
    ·have h0':(0:Int)<(i:Int):=by omega
     have h0n:0<i:=by omega
     cases Op.bytesLess (ByteArray.toList (l.getD (i-1) af.aa).1) (ByteArray.toList (l.getD i af.aa).1)<;>simp[h0,h0',h0n,h4,h4']
  ·have h4':(4:Int)≤(i:Int):=by omega
   simp[h4,h4']
 ·intro G i hi
  simp only
  rw[aw,decide_eq_false (by omega),if_neg (by simp)]
end
end Vg.Tryz
namespace Vg.Tryz
open Go Vg
set_option linter.unusedVariables false
set_option linter.unusedSectionVars false
set_option linter.unusedSimpArgs false
def bK (n a b:Int):Bool:=decide (a≤n)&&decide (n≤b)
def rL (l:List ByteArray):Bool:=bf 1 l.length (fun i=>ly (l.getD (i-1) ByteArray.empty) (l.getD i ByteArray.empty))
def Na (l:List ByteArray):Bool:=bf 0 l.length (fun i=>eP (l.getD i ByteArray.empty))&&(decide (l.length≤2)&&rL l)
def gJ (c:cg):Bool:=bK c.1 1 3&&bK c.2.1 1 8&&bK c.2.2.1 1 2&&bK c.2.2.2.1 1 9&&bK c.2.2.2.2.1 1 9&&Na c.2.2.2.2.2
def bZ (a:ai):Bool:=eN a.1&&decide (0<a.1.length)&&bK a.2.1 0 99999&&bK a.2.2.1 a.2.1 99999&&km a.2.2.2
def cj (l:List ai):Bool:=bf 0 l.length (fun i=>bZ (l.getD i ab.aa))
theorem vM (a b:Bool):(if a=true then b else false)=(a&&b):=by cases a<;>rfl
section
variable {k:Nat} (hk:9223372036854775808≤k)
include hk
theorem fg (n a b:Int):bE k (n,a,b,())=some (bK n a b,()):=by
 simp only[bE,bK,vM]
theorem ew (n a b:Int):bA k (n,a,b,())=some (bK n a b,()):=by
 simp only[bA,bK,vM]
theorem tS {l:List ByteArray} (hl:l.length≤1048576):fT k (l,())=some (rL l,()):=by
 simp only[fT]
 rw[show((l,(1:Int),()):List ByteArray×Int×Unit)=(fun i:Nat=>(l,((i+1:Nat):Int),())) 0 from rfl]
 rw[bN (fun i:Nat=>(l,((i+1:Nat):Int),())) (fun i=>ly (l.getD i ByteArray.empty) (l.getD (i+1) ByteArray.empty)) (l.length-1) (e:=some (true,())) (no:=some (false,())) ?_ ?_ k 0 (by omega)]
 ·have:rL l=bf 0 (l.length-1) (fun i=>ly (l.getD i ByteArray.empty) (l.getD (i+1) ByteArray.empty)):=by
   unfold rL
   rw[Bool.eq_iff_iff,ei,ei]
   constructor
   ·intro h i _ h2;have:=h (i+1) (by omega) (by omega);simpa using this
   ·intro h i h1 h2;have:=h (i-1) (by omega) (by omega);rw[show i-1+1=i by omega]at this;exact this
  rw[this]
  cases bf 0 (l.length-1) (fun i=>ly (l.getD i ByteArray.empty) (l.getD (i+1) ByteArray.empty))<;>rfl
 ·intro G i hi
  simp only[Int.toNat_natCast]
  rw[aw,decide_eq_true (by omega),if_pos rfl,pZ (by omega),bd (by omega)]
  rw[if_pos (by simp;omega),if_pos (by simp;omega)]
  simp only[fb,Option.bind_some]
  rw[show(((i+1:Nat):Int)-1).toNat=i by omega]
  unfold ly
  cases Op.bytesLess (ByteArray.toList (l.getD i ByteArray.empty)) (ByteArray.toList (l.getD (i+1) ByteArray.empty))<;>simp
 ·intro G i hi
  simp only
  rw[aw,decide_eq_false (by omega),if_neg (by simp)]
theorem P8 (l:List ByteArray):lZ k (l,())=fT k (l,()):=by
 simp only[fT,lZ,fb,Option.bind_some]
theorem Nk {l:List ByteArray} (hs:ag (.sl .str) l≤1048576):qa k (l,())=some (Na l,()):=by
 have hl:=aA (e:= .str) (l:=l)
 simp only[qa,aO]
 rw[show((l,(0:Int),()):List ByteArray×Int×Unit)=(fun i:Nat=>(l,(i:Int),())) 0 from rfl]
 rw[bN (fun i:Nat=>(l,(i:Int),())) (fun i=>eP (l.getD i ByteArray.empty)) l.length (e:=some (decide (l.length≤2)&&rL l,())) (no:=some (false,())) ?_ ?_ k 0 (by omega)]
 ·unfold Na
  cases bf 0 l.length (fun i=>eP (l.getD i ByteArray.empty))<;>simp
 ·intro G i hi
  simp only[Int.toNat_natCast]
  have hm:ag .str (l.getD i ByteArray.empty)≤1048576:=Nat.le_trans (bo (e:= .str) (ch hi)) hs
  rw[aw,decide_eq_true hi,if_pos rfl,if_pos (aK hi),vz hk hm,Option.bind_some,bd (by omega)]
  cases eP (l.getD i ByteArray.empty)<;>simp
 ·intro G i hi
  simp only
  rw[aw,decide_eq_false (by omega),if_neg (by simp),tS hk (by omega)]
  simp only[bM,Option.bind_some]
  by_cases h:l.length≤2
  ·have h':(l.length:Int)≤2:=by omega
   simp[h,h']
  ·have h':¬(l.length:Int)≤2:=by omega
   simp[h,h']
theorem MW {l:List ByteArray} (hs:ag (.sl .str) l≤1048576):pT k (l,())=some (Na l,()):=by
 have hl:=aA (e:= .str) (l:=l)
 simp only[pT,aO]
 rw[show((l,l,(l.length:Int),(0:Int),()):List ByteArray×List ByteArray×Int×Int×Unit)=(fun i:Nat=>(l,l,(l.length:Int),(i:Int),())) 0 from rfl]
 rw[bN (fun i:Nat=>(l,l,(l.length:Int),(i:Int),())) (fun i=>eP (l.getD i ByteArray.empty)) l.length (e:=some (decide (l.length≤2)&&rL l,())) (no:=some (false,())) ?_ ?_ k 0 (by omega)]
 ·unfold Na
  cases bf 0 l.length (fun i=>eP (l.getD i ByteArray.empty))<;>simp
 ·intro G i hi
  simp only[Int.toNat_natCast]
  have hm:ag .str (l.getD i ByteArray.empty)≤1048576:=Nat.le_trans (bo (e:= .str) (ch hi)) hs
  rw[aw,decide_eq_true hi,if_pos rfl,if_pos (aK hi),wk hk hm,Option.bind_some,bd (by omega)]
  cases eP (l.getD i ByteArray.empty)<;>simp
 ·intro G i hi
  simp only
  rw[aw,decide_eq_false (by omega),if_neg (by simp),P8 hk,tS hk (by omega)]
  simp only[bM,Option.bind_some]
  by_cases h:l.length≤2
  ·have h':(l.length:Int)≤2:=by omega
   simp[h,h']
  ·have h':¬(l.length:Int)≤2:=by omega
   simp[h,h']
theorem Ih {c:cg} (hs:ag bC c≤1048576):mO k (c,())=some (gJ c,()):=by
 rw[jk hk]at hs
 simp only[mO,fg hk,Nk hk hs,bM,Option.bind_some,gJ]
 generalize bK c.1 1 3=b1
 generalize bK c.2.1 1 8=b2
 generalize bK c.2.2.1 1 2=b3
 generalize bK c.2.2.2.1 1 9=b4
 generalize bK c.2.2.2.2.1 1 9=b5
 cases b1<;>cases b2<;>cases b3<;>cases b4<;>cases b5<;>simp
theorem Jn {c:cg} (hs:ag bC c≤1048576):nh k (c,())=some (gJ c,()):=by
 rw[jk hk]at hs
 simp only[nh,ew hk,MW hk hs,bM,Option.bind_some,gJ]
 generalize bK c.1 1 3=b1
 generalize bK c.2.1 1 8=b2
 generalize bK c.2.2.1 1 2=b3
 generalize bK c.2.2.2.1 1 9=b4
 generalize bK c.2.2.2.2.1 1 9=b5
 cases b1<;>cases b2<;>cases b3<;>cases b4<;>cases b5<;>simp
theorem Pg (l:List aj):decide ((l.length:Int)>0)=decide (0<l.length):=by simp
theorem fl {a:ai} (hs:ag ab a≤1048576):dw k (a,())=some (bZ a,()):=by
 rw[cr hk]at hs
 simp only[dw,fg hk,mN hk (show ag (.sl af) a.1≤1048576 by omega),tY hk (show a.2.2.2.size≤1048576 by omega),bM,Option.bind_some,bZ,Pg hk]
 generalize eN a.1=b1
 generalize decide (0<a.1.length)=b2
 generalize bK a.2.1 0 99999=b3
 generalize bK a.2.2.1 a.2.1 99999=b4
 cases b1<;>cases b2<;>cases b3<;>cases b4<;>simp
theorem gU {a:ai} (hs:ag ab a≤1048576):dS k (a,())=some (bZ a,()):=by
 rw[cr hk]at hs
 simp only[dS,ew hk,na hk (show ag (.sl af) a.1≤1048576 by omega),uR hk (show a.2.2.2.size≤1048576 by omega),bM,Option.bind_some,bZ,Pg hk]
 generalize eN a.1=b1
 generalize decide (0<a.1.length)=b2
 generalize bK a.2.1 0 99999=b3
 generalize bK a.2.2.1 a.2.1 99999=b4
 cases b1<;>cases b2<;>cases b3<;>cases b4<;>simp
theorem pM {l:List ai} (hs:ag (.sl ab) l≤1048576):gy k (l,())=some (cj l,()):=by
 have hl:=aA (e:=ab) (l:=l)
 simp only[gy]
 rw[show((l,(0:Int),()):List ai×Int×Unit)=(fun i:Nat=>(l,(i:Int),())) 0 from rfl]
 rw[bN (fun i:Nat=>(l,(i:Int),())) (fun i=>bZ (l.getD i ab.aa)) l.length (e:=some (true,())) (no:=some (false,())) ?_ ?_ k 0 (by omega)]
 ·unfold cj
  cases bf 0 l.length (fun i=>bZ (l.getD i ab.aa))<;>simp
 ·intro G i hi
  simp only[Int.toNat_natCast]
  have hm:ag ab (l.getD i ab.aa)≤1048576:=Nat.le_trans (bo (e:=ab) (ch hi)) hs
  rw[aw,decide_eq_true hi,if_pos rfl,if_pos (aK hi),fl hk hm,Option.bind_some,bd (by omega)]
  cases bZ (l.getD i ab.aa)<;>simp
 ·intro G i hi
  simp only
  rw[aw,decide_eq_false (by omega),if_neg (by simp)]
theorem jq {l:List ai} (hs:ag (.sl ab) l≤1048576):eC k (l,())=some (cj l,()):=by
 have hl:=aA (e:=ab) (l:=l)
 simp only[eC]
 rw[show((l,(l.length:Int),(0:Int),()):List ai×Int×Int×Unit)=(fun i:Nat=>(l,(l.length:Int),(i:Int),())) 0 from rfl]
 rw[bN (fun i:Nat=>(l,(l.length:Int),(i:Int),())) (fun i=>bZ (l.getD i ab.aa)) l.length (e:=some (true,())) (no:=some (false,())) ?_ ?_ k 0 (by omega)]
 ·unfold cj
  cases bf 0 l.length (fun i=>bZ (l.getD i ab.aa))<;>simp
 ·intro G i hi
  simp only[Int.toNat_natCast]
  have hm:ag ab (l.getD i ab.aa)≤1048576:=Nat.le_trans (bo (e:=ab) (ch hi)) hs
  rw[aw,decide_eq_true hi,if_pos rfl,if_pos (aK hi),gU hk hm,Option.bind_some,bd (by omega)]
  cases bZ (l.getD i ab.aa)<;>simp
 ·intro G i hi
  simp only
  rw[aw,decide_eq_false (by omega),if_neg (by simp)]
end
end Vg.Tryz
namespace Vg.Tryz
open Go Vg
set_option linter.unusedVariables false
set_option linter.unusedSectionVars false
set_option linter.unusedSimpArgs false
def hasB (by_:List ByteArray) (s:ByteArray):Bool:= !bf 0 by_.length (fun i=> !((by_.getD i ByteArray.empty).toList==s.toList))
def keyOf (a:ai) (by_:List ByteArray):List aj:=a.1.filter (fun x=>hasB by_ x.1)
def xL (l:List ai) (i:Nat):Bool:=i==0||bV (l.getD (i-1) ab.aa).1 (l.getD i ab.aa).1
def v7 (l:List ai) (key:List aj) (by_:List ByteArray):Bool:=
 bf 0 l.length (fun i=>bZ (l.getD i ab.aa)&&(decide (keyOf (l.getD i ab.aa) by_=key)&&xL l i))
def iv (g:aJ) (by_:List ByteArray):Bool:=
 decide (0≤g.1)&&(eN g.2.1&&(bK g.2.2.1 0 99999&&((decide (g.2.2.2.1= -1)||bK g.2.2.2.1 g.2.2.1 99999)&&(decide (0<g.2.2.2.2.length)&&v7 g.2.2.2.2 g.2.1 by_))))
def DM (l:List aJ) (i:Nat):Bool:=i==0||decide ((l.getD (i-1) al.aa).1<(l.getD i al.aa).1)
def mz (l:List aJ) (i:Nat):Bool:=bf 0 i (fun j=> !decide ((l.getD j al.aa).2.1=(l.getD i al.aa).2.1))
def nC (l:List aJ) (by_:List ByteArray):Bool:=
 decide (l.length≤12)&&bf 0 l.length (fun i=>iv (l.getD i al.aa) by_&&(DM l i&&mz l i))
def p9 (s:bF):Bool:=decide (s.1.length≤3)&&((!s.2||decide (s.1.length=0))&&cj s.1)
def fk (a:ai):Bool:=bZ a&&decide (a.2.2.1≤99899)
section
variable {k:Nat} (hk:9223372036854775808≤k)
include hk
theorem dV {a b:List aj} (ha:a.length≤1048576):cL k (a,b,())=some (decide (a=b),()):=by
 simp only[cL]
 by_cases hl:a.length=b.length
 ·rw[if_neg (by simp[hl])]
  rw[fv (g:=fun(s:List aj×List aj×Int×Unit)=>some (decide (a.drop s.2.2.1.toNat=b.drop s.2.2.1.toNat),())) (m:=fun(s:List aj×List aj×Int×Unit)=>a.length-s.2.2.1.toNat)
   (I:=fun(s:List aj×List aj×Int×Unit)=>s.1=a∧s.2.1=b∧0≤s.2.2.1∧s.2.2.1≤(a.length:Int))]
  ·simp
  ·rintro G ⟨a',b',i,u⟩ ⟨e1,e2,hi0,hi1⟩ hG
   change a'=a at e1
   change b'=b at e2
   subst e1 e2
   simp only at hi0 hi1 hG⊢
   by_cases hi:i<(a'.length:Int)
   ·have h1:i.toNat<a'.length:=by omega
    have h2:i.toNat<b'.length:=by omega
    rw[if_pos (by simpa using hi),if_pos (by simpa using⟨hi0,hi⟩),if_pos (by simpa using⟨hi0,by omega⟩)]
    rw[dy (d:=af.aa) h1,dy (d:=af.aa) h2]
    by_cases he:a'.getD i.toNat af.aa=b'.getD i.toNat af.aa
    ·have hq:eqv af (a'.getD i.toNat af.aa) (b'.getD i.toNat af.aa)=true:=(rO rfl).2 he
     rw[if_neg (by rw[hq];simp),wrap64 (by omega) (by omega),hG (a',b',i+1,()) ⟨rfl,rfl,by simp only;omega,by simp only;omega⟩ (by simp only;omega)]
     simp only[he,List.cons.injEq,true_and]
     rw[show(i+1).toNat=i.toNat+1 by omega]
    ·have hq:eqv af (a'.getD i.toNat af.aa) (b'.getD i.toNat af.aa)=false:=by
      rw[Bool.eq_false_iff];exact fun h=>he ((rO rfl).1 h)
     rw[if_pos (by rw[hq];rfl)]
     simp only[List.cons.injEq,he,false_and,decide_false]
   ·rw[if_neg (by simpa using hi),List.drop_eq_nil_of_le (by omega),List.drop_eq_nil_of_le (by omega)]
    simp
  ·exact⟨rfl,rfl,by simp,by simp⟩
  ·simp only
   omega
 ·rw[if_pos (by simp;omega)]
  have:a≠b:=fun e=>hl (by rw[e])
  simp[this]
theorem ey {a b:List aj} (ha:a.length≤1048576):cM k (a,b,())=some (decide (a=b),()):=by
 simp only[cM]
 by_cases hl:a.length=b.length
 ·rw[if_neg (by simp[hl])]
  rw[fv (g:=fun(s:List aj×List aj×Int×Int×Unit)=>some (decide (a.drop s.2.2.2.1.toNat=b.drop s.2.2.2.1.toNat),())) (m:=fun(s:List aj×List aj×Int×Int×Unit)=>a.length-s.2.2.2.1.toNat)
   (I:=fun(s:List aj×List aj×Int×Int×Unit)=>s.1=a∧s.2.1=b∧s.2.2.1=(a.length:Int)∧0≤s.2.2.2.1∧s.2.2.2.1≤(a.length:Int))]
  ·simp
  ·rintro G ⟨a',b',n,i,u⟩ ⟨e1,e2,e3,hi0,hi1⟩ hG
   change a'=a at e1
   change b'=b at e2
   change n=_ at e3
   subst e1 e2 e3
   simp only at hi0 hi1 hG⊢
   by_cases hi:i<(a'.length:Int)
   ·have h1:i.toNat<a'.length:=by omega
    have h2:i.toNat<b'.length:=by omega
    rw[if_pos (by simpa using hi),if_pos (by simpa using⟨hi0,hi⟩),if_pos (by simpa using⟨hi0,by omega⟩)]
    rw[dy (d:=af.aa) h1,dy (d:=af.aa) h2]
    by_cases he:a'.getD i.toNat af.aa=b'.getD i.toNat af.aa
    ·have hq:eqv af (a'.getD i.toNat af.aa) (b'.getD i.toNat af.aa)=true:=(rO rfl).2 he
     rw[if_neg (by rw[hq];simp),wrap64 (by omega) (by omega),hG (a',b',_,i+1,()) ⟨rfl,rfl,rfl,by simp only;omega,by simp only;omega⟩ (by simp only;omega)]
     simp only[he,List.cons.injEq,true_and]
     rw[show(i+1).toNat=i.toNat+1 by omega]
    ·have hq:eqv af (a'.getD i.toNat af.aa) (b'.getD i.toNat af.aa)=false:=by
      rw[Bool.eq_false_iff];exact fun h=>he ((rO rfl).1 h)
     rw[if_pos (by rw[hq];rfl)]
     simp only[List.cons.injEq,he,false_and,decide_false]
   ·rw[if_neg (by simpa using hi),List.drop_eq_nil_of_le (by omega),List.drop_eq_nil_of_le (by omega)]
    simp
  ·exact⟨rfl,rfl,rfl,by simp,by simp⟩
  ·simp only
   omega
 ·rw[if_pos (by simp;omega)]
  have:a≠b:=fun e=>hl (by rw[e])
  simp[this]
theorem oT {a b:List aj} (ha:a.length≤1048576):ix k (a,b,())=some (bV a b,()):=by
 simp only[ix,aO]
 rw[fv (g:=fun(s:List aj×List aj×Int×Unit)=>some (bV (a.drop s.2.2.1.toNat) (b.drop s.2.2.1.toNat),())) (m:=fun(s:List aj×List aj×Int×Unit)=>a.length-s.2.2.1.toNat)
  (I:=fun(s:List aj×List aj×Int×Unit)=>s.1=a∧s.2.1=b∧0≤s.2.2.1∧s.2.2.1≤(a.length:Int)∧s.2.2.1≤(b.length:Int))]
 ·simp
 ·rintro G ⟨a',b',i,u⟩ ⟨e1,e2,hi0,hi1,hi2⟩ hG
  change a'=a at e1
  change b'=b at e2
  subst e1 e2
  simp only at hi0 hi1 hi2 hG⊢
  by_cases hi:i<(a'.length:Int)∧i<(b'.length:Int)
  ·have h1:i.toNat<a'.length:=by omega
   have h2:i.toNat<b'.length:=by omega
   have ca:decide (0≤i∧i<(a'.length:Int))=true:=by simpa using⟨hi0,hi.1⟩
   have cb:decide (0≤i∧i<(b'.length:Int))=true:=by simpa using⟨hi0,hi.2⟩
   rw[if_pos (by simp[hi.1,hi.2])]
   simp only[ca,cb,if_true]
   rw[dy (d:=af.aa) h1,dy (d:=af.aa) h2]
   simp only[bV,ly]
   rw[wrap64 (by omega) (by omega),hG (a',b',i+1,()) ⟨rfl,rfl,by simp only;omega,by simp only;omega,by simp only;omega⟩ (by simp only;omega)]
   simp only
   rw[show(i+1).toNat=i.toNat+1 by omega]
   cases (ByteArray.toList (a'.getD i.toNat af.aa).1==ByteArray.toList (b'.getD i.toNat af.aa).1)<;>cases (ByteArray.toList (a'.getD i.toNat af.aa).2==ByteArray.toList (b'.getD i.toNat af.aa).2)<;>simp
  ·rw[if_neg (by simp;omega)]
   by_cases ha':i<(a'.length:Int)
   ·have h1:i.toNat<a'.length:=by omega
    rw[dy (d:=af.aa) h1,List.drop_eq_nil_of_le (show b'.length≤i.toNat by omega)]
    simp only[bV]
    congr 2
    simp;omega
   ·rw[List.drop_eq_nil_of_le (show a'.length≤i.toNat by omega)]
    simp only[bV]
    congr 2
    by_cases hb':i<(b'.length:Int)
    ·have h2:i.toNat<b'.length:=by omega
     rw[dy (d:=af.aa) h2]
     simp;omega
    ·rw[List.drop_eq_nil_of_le (show b'.length≤i.toNat by omega)]
     simp;omega
 ·exact⟨rfl,rfl,by simp,by simp,by simp⟩
 ·simp only
  omega
theorem oA {a b:List aj} (ha:a.length≤1048576):iC k (a,b,())=some (bV a b,()):=by
 rw[←oT hk ha]
 simp only[ix,iC,fb,Option.bind_some]
theorem Oe {l:List ByteArray} {s:ByteArray} (hl:l.length≤1048576):oo k (l,s,())=some (hasB l s,()):=by
 simp only[oo]
 rw[show((l,s,(0:Int),()):List ByteArray×ByteArray×Int×Unit)=(fun i:Nat=>(l,s,(i:Int),())) 0 from rfl]
 rw[M5 (fun i:Nat=>(l,s,(i:Int),())) (fun i=>(l.getD i ByteArray.empty).toList==s.toList) l.length (e:=some (false,())) (yes:=some (true,())) ?_ ?_ k 0 (by omega)]
 ·unfold hasB
  cases bf 0 l.length (fun i=> !((l.getD i ByteArray.empty).toList==s.toList))<;>simp
 ·intro G i hi
  simp only[Int.toNat_natCast]
  rw[aw,decide_eq_true hi,if_pos rfl,if_pos (aK hi),bd (by omega)]
 ·intro G i hi
  simp only
  rw[aw,decide_eq_false (by omega),if_neg (by simp)]
theorem OJ {l:List ByteArray} {s:ByteArray} (hl:l.length≤1048576):lK k (l,s,())=some (hasB l s,()):=by
 simp only[lK]
 rw[show((s,l,(l.length:Int),(0:Int),()):ByteArray×List ByteArray×Int×Int×Unit)=(fun i:Nat=>(s,l,(l.length:Int),(i:Int),())) 0 from rfl]
 rw[M5 (fun i:Nat=>(s,l,(l.length:Int),(i:Int),())) (fun i=>(l.getD i ByteArray.empty).toList==s.toList) l.length (e:=some (false,())) (yes:=some (true,())) ?_ ?_ k 0 (by omega)]
 ·unfold hasB
  cases bf 0 l.length (fun i=> !((l.getD i ByteArray.empty).toList==s.toList))<;>simp
 ·intro G i hi
  simp only[Int.toNat_natCast]
  rw[aw,decide_eq_true hi,if_pos rfl,if_pos (aK hi),bd (by omega)]
 ·intro G i hi
  simp only
  rw[aw,decide_eq_false (by omega),if_neg (by simp)]
theorem K8 {a:ai} {by_:List ByteArray} (ha:ag ab a≤1048576) (hb:by_.length≤1048576):oE k (a,by_,())=some (keyOf a by_,()):=by
 have hl:=aA (e:=af) (l:=a.1)
 rw[cr hk]at ha
 simp only[oE,pg]
 rw[fv (g:=fun(s:List aj×List ByteArray×List aj×Int×Unit)=>some (s.2.2.1++(a.1.drop s.2.2.2.1.toNat).filter (fun x=>hasB by_ x.1),())) (m:=fun(s:List aj×List ByteArray×List aj×Int×Unit)=>a.1.length-s.2.2.2.1.toNat)
  (I:=fun(s:List aj×List ByteArray×List aj×Int×Unit)=>s.1=a.1∧s.2.1=by_∧0≤s.2.2.2.1∧s.2.2.2.1≤(a.1.length:Int)∧s.2.2.1.length≤s.2.2.2.1.toNat)]
 ·simp[keyOf]
 ·rintro G ⟨l',y',o,i,u⟩ ⟨e1,e2,hi0,hi1,ho⟩ hG
  change l'=_ at e1
  change y'=by_ at e2
  subst e1 e2
  simp only at hi0 hi1 ho hG⊢
  by_cases hi:i<(a.1.length:Int)
  ·have h1:i.toNat<a.1.length:=by omega
   rw[if_pos (by simpa using hi),if_pos (by simpa using⟨hi0,hi⟩),Oe hk hb,Option.bind_some,dy (d:=af.aa) h1,wrap64 (by omega) (by omega)]
   cases hh:hasB y' (a.1.getD i.toNat af.aa).1 with
   |true=>
    rw[if_pos rfl,if_pos (by simpa using⟨hi0,hi⟩),if_pos (by simp;omega)]
    rw[hG (a.1,y',o++[a.1.getD i.toNat af.aa],i+1,()) ⟨rfl,rfl,by simp only;omega,by simp only;omega,by simp;omega⟩ (by simp only;omega)]
    simp only
    rw[show(i+1).toNat=i.toNat+1 by omega,List.filter_cons_of_pos (by simpa using hh)]
    simp
   |false=>
    rw[if_neg (by simp)]
    rw[hG (a.1,y',o,i+1,()) ⟨rfl,rfl,by simp only;omega,by simp only;omega,by simp only;omega⟩ (by simp only;omega)]
    simp only
    rw[show(i+1).toNat=i.toNat+1 by omega,List.filter_cons_of_neg (by rw[hh];simp)]
  ·rw[if_neg (by simpa using hi),List.drop_eq_nil_of_le (by omega)]
   simp
 ·exact⟨rfl,rfl,by simp,by simp,by simp⟩
 ·simp only
  omega
theorem Ly {a:ai} {by_:List ByteArray} (ha:ag ab a≤1048576) (hb:by_.length≤1048576):nY k (a,by_,())=some (keyOf a by_,()):=by
 have hl:=aA (e:=af) (l:=a.1)
 rw[cr hk]at ha
 simp only[nY,pn]
 rw[fv (g:=fun(s:List ByteArray×List aj×List aj×Int×Int×Unit)=>some (s.2.1++(a.1.drop s.2.2.2.2.1.toNat).filter (fun x=>hasB by_ x.1),())) (m:=fun(s:List ByteArray×List aj×List aj×Int×Int×Unit)=>a.1.length-s.2.2.2.2.1.toNat)
  (I:=fun(s:List ByteArray×List aj×List aj×Int×Int×Unit)=>s.1=by_∧s.2.2.1=a.1∧s.2.2.2.1=(a.1.length:Int)∧0≤s.2.2.2.2.1∧s.2.2.2.2.1≤(a.1.length:Int)∧s.2.1.length≤s.2.2.2.2.1.toNat)]
 ·simp[keyOf]
 ·rintro G ⟨y',o,l',n,i,u⟩ ⟨e2,e1,e3,hi0,hi1,ho⟩ hG
  change l'=_ at e1
  change y'=by_ at e2
  change n=_ at e3
  subst e1 e2 e3
  simp only at hi0 hi1 ho hG⊢
  by_cases hi:i<(a.1.length:Int)
  ·have h1:i.toNat<a.1.length:=by omega
   rw[if_pos (by simpa using hi),if_pos (by simpa using⟨hi0,hi⟩),OJ hk hb,Option.bind_some,dy (d:=af.aa) h1,wrap64 (by omega) (by omega)]
   cases hh:hasB y' (a.1.getD i.toNat af.aa).1 with
   |true=>
    rw[if_pos rfl,if_pos (by simp;omega)]
    rw[hG (y',o++[a.1.getD i.toNat af.aa],a.1,_,i+1,()) ⟨rfl,rfl,rfl,by simp only;omega,by simp only;omega,by simp;omega⟩ (by simp only;omega)]
    simp only
    rw[show(i+1).toNat=i.toNat+1 by omega,List.filter_cons_of_pos (by simpa using hh)]
    simp
   |false=>
    rw[if_neg (by simp)]
    rw[hG (y',o,a.1,_,i+1,()) ⟨rfl,rfl,rfl,by simp only;omega,by simp only;omega,by simp only;omega⟩ (by simp only;omega)]
    simp only
    rw[show(i+1).toNat=i.toNat+1 by omega,List.filter_cons_of_neg (by rw[hh];simp)]
  ·rw[if_neg (by simpa using hi),List.drop_eq_nil_of_le (by omega)]
   simp
 ·exact⟨rfl,rfl,rfl,by simp,by simp,by simp⟩
 ·simp only
  omega
theorem Kz (a:ai) (by_:List ByteArray):(keyOf a by_).length≤a.1.length:=List.length_filter_le ..
end
end Vg.Tryz
namespace Vg.Tryz
open Go Vg
set_option linter.unusedVariables false
set_option linter.unusedSectionVars false
set_option linter.unusedSimpArgs false
section
variable {k:Nat} (hk:9223372036854775808≤k)
include hk
theorem gp {l:List ai} {i:Nat} (hs:ag (.sl ab) l≤1048576) (hi:i<l.length):ag ab (l.getD i ab.aa)≤1048576∧(l.getD i ab.aa).1.length≤1048576:=by
 have hm:ag ab (l.getD i ab.aa)≤1048576:=Nat.le_trans (bo (e:=ab) (ch hi)) hs
 refine⟨hm,?_⟩
 rw[cr hk]at hm
 have:=aA (e:=af) (l:=(l.getD i ab.aa).1)
 omega
theorem HF {l:List ai} {key:List aj} {by_:List ByteArray} (hs:ag (.sl ab) l≤1048576) (hb:by_.length≤1048576):lO k (l,key,by_,())=some (v7 l key by_,()):=by
 have hl:=aA (e:=ab) (l:=l)
 simp only[lO]
 rw[show((l,key,by_,l,(l.length:Int),(0:Int),()):List ai×List aj×List ByteArray×List ai×Int×Int×Unit)=(fun i:Nat=>(l,key,by_,l,(l.length:Int),(i:Int),())) 0 from rfl]
 rw[bN (fun i:Nat=>(l,key,by_,l,(l.length:Int),(i:Int),())) (fun i=>bZ (l.getD i ab.aa)&&(decide (keyOf (l.getD i ab.aa) by_=key)&&xL l i)) l.length (e:=some (true,())) (no:=some (false,())) ?_ ?_ k 0 (by omega)]
 ·unfold v7
  cases bf 0 l.length (fun i=>bZ (l.getD i ab.aa)&&(decide (keyOf (l.getD i ab.aa) by_=key)&&xL l i))<;>simp
 ·intro G i hi
  simp only[Int.toNat_natCast]
  obtain⟨hm,hml⟩:=gp hk hs hi
  have hkl:=Kz hk (l.getD i ab.aa) by_
  rw[aw,decide_eq_true hi,if_pos rfl,if_pos (aK hi),gU hk hm,Option.bind_some,Ly hk hm hb,bd (by omega),pZ (by omega)]
  simp only[bM,Option.bind_some]
  rw[show((i:Int)-1).toNat=i-1 by omega]
  cases bZ (l.getD i ab.aa)with
  |false=>simp
  |true=>
   simp only[Bool.not_true,beq_self_eq_true,if_true]
   rw[ey hk (by omega)]
   simp only[Option.bind_some]
   by_cases hq:keyOf (l.getD i ab.aa) by_=key
   ·by_cases h0:i=0
    ·subst h0
     simp[hq,xL,-List.getD_eq_getElem?_getD]
    ·have h0':(0:Int)<(i:Int):=by omega
     have h0n:0<i:=by omega
     obtain⟨hm1,hml1⟩:=gp hk hs (show i-1<l.length by omega)
     rw[if_pos (by simp;omega),oT hk hml1]
     unfold xL
     cases bV (l.getD (i-1) ab.aa).1 (l.getD i ab.aa).1<;>simp[hq,h0,h0',h0n,-List.getD_eq_getElem?_getD]
   ·simp[hq,-List.getD_eq_getElem?_getD]
 ·intro G i hi
  simp only
  rw[aw,decide_eq_false (by omega),if_neg (by simp)]
theorem FK {g:aJ} {by_:List ByteArray} (hs:ag al g≤1048576) (hb:by_.length≤1048576):lN k (g,by_,())=some (iv g by_,()):=by
 rw[gG hk]at hs
 simp only[lN,ew hk,na hk (show ag (.sl af) g.2.1≤1048576 by omega),HF hk (show ag (.sl ab) g.2.2.2.2≤1048576 by omega) hb,bM,Option.bind_some,iv]
 have e1:decide (g.1<(0:Int))= !decide (0≤g.1):=by rw[Bool.eq_iff_iff];simp
 have e2:decide ((g.2.2.2.2.length:Int)>(0:Int))=decide (0<g.2.2.2.2.length):=by simp
 have e3:((g.2.2.2.1:Int) != (-1:Int))= !decide (g.2.2.2.1= -1):=by rw[Bool.eq_iff_iff];simp
 rw[e1,e2,e3]
 generalize decide (0≤g.1)=b1
 generalize eN g.2.1=b2
 generalize bK g.2.2.1 0 99999=b3
 generalize decide (g.2.2.2.1= -1)=b4
 generalize bK g.2.2.2.1 g.2.2.1 99999=b5
 generalize decide (0<g.2.2.2.2.length)=b6
 generalize v7 g.2.2.2.2 g.2.1 by_=b7
 cases b1<;>cases b2<;>cases b3<;>cases b4<;>cases b5<;>cases b6<;>cases b7<;>simp
theorem HD {g:aJ} {by_:List ByteArray} (hs:ag al g≤1048576) (hb:by_.length≤1048576):lB k (g,by_,())=some (iv g by_,()):=by
 rw[gG hk]at hs
 have hs2:ag (.sl ab) g.2.2.2.2≤1048576:=by omega
 have hl:=aA (e:=ab) (l:=g.2.2.2.2)
 simp only[lB,aO]
 rw[show((by_,g,(0:Int),()):List ByteArray×aJ×Int×Unit)=(fun i:Nat=>(by_,g,(i:Int),())) 0 from rfl]
 rw[bN (fun i:Nat=>(by_,g,(i:Int),())) (fun i=>bZ (g.2.2.2.2.getD i ab.aa)&&(decide (keyOf (g.2.2.2.2.getD i ab.aa) by_=g.2.1)&&xL g.2.2.2.2 i)) g.2.2.2.2.length
  (e:=some (decide (0≤g.1)&&(eN g.2.1&&(bK g.2.2.1 0 99999&&((decide (g.2.2.2.1= -1)||bK g.2.2.2.1 g.2.2.1 99999)&&decide (0<g.2.2.2.2.length)))),())) (no:=some (false,())) ?_ ?_ k 0 (by omega)]
 ·unfold iv v7
  cases bf 0 g.2.2.2.2.length (fun i=>bZ (g.2.2.2.2.getD i ab.aa)&&(decide (keyOf (g.2.2.2.2.getD i ab.aa) by_=g.2.1)&&xL g.2.2.2.2 i))<;>simp
 ·intro G i hi
  simp only[Int.toNat_natCast]
  obtain⟨hm,hml⟩:=gp hk hs2 hi
  have hkl:=Kz hk (g.2.2.2.2.getD i ab.aa) by_
  rw[aw,decide_eq_true hi,if_pos rfl,if_pos (aK hi),fl hk hm,Option.bind_some,bd (by omega),pZ (by omega)]
  rw[show((i:Int)-1).toNat=i-1 by omega]
  simp only[aK hi,Bool.or_true,if_true]
  rw[if_pos (by simp;omega),K8 hk hm hb]
  cases bZ (g.2.2.2.2.getD i ab.aa)with
  |false=>simp
  |true=>
   simp only[Bool.not_true,beq_self_eq_true,Bool.true_and]
   by_cases h0:i=0
   ·subst h0
    have hS:=dV hk (a:=keyOf (g.2.2.2.2.getD 0 ab.aa) by_) (b:=g.2.1) (by omega)
    simp[hS,xL,-List.getD_eq_getElem?_getD]
   ·have h0':(0:Int)<(i:Int):=by omega
    have h0n:0<i:=by omega
    obtain⟨hm1,hml1⟩:=gp hk hs2 (show i-1<g.2.2.2.2.length by omega)
    rw[oA hk hml1]
    unfold xL
    cases bV (g.2.2.2.2.getD (i-1) ab.aa).1 (g.2.2.2.2.getD i ab.aa).1 with
    |false=>simp[h0,h0',h0n,-List.getD_eq_getElem?_getD]
    |true=>
     have hS:=dV hk (a:=keyOf (g.2.2.2.2.getD i ab.aa) by_) (b:=g.2.1) (by omega)
     simp[hS,h0,h0',h0n,-List.getD_eq_getElem?_getD]
 ·intro G i hi
  simp only
  rw[aw,decide_eq_false (by omega),if_neg (by simp)]
  simp only[fg hk,mN hk (show ag (.sl af) g.2.1≤1048576 by omega),bM,Option.bind_some]
  have e1:decide (g.1≥(0:Int))=decide (0≤g.1):=rfl
  have e2:decide ((g.2.2.2.2.length:Int)>(0:Int))=decide (0<g.2.2.2.2.length):=by simp
  have e3:((g.2.2.2.1:Int)==(-1:Int))=decide (g.2.2.2.1= -1):=by rw[Bool.eq_iff_iff];simp
  rw[e1,e2,e3]
  generalize decide (0≤g.1)=b1
  generalize eN g.2.1=b2
  generalize bK g.2.2.1 0 99999=b3
  generalize decide (g.2.2.2.1= -1)=b4
  generalize bK g.2.2.2.1 g.2.2.1 99999=b5
  generalize decide (0<g.2.2.2.2.length)=b6
  cases b1<;>cases b2<;>cases b3<;>cases b4<;>cases b5<;>cases b6<;>simp
theorem xP {l:List aJ} {i:Nat} (hs:ag (.sl al) l≤1048576) (hi:i<l.length):ag al (l.getD i al.aa)≤1048576∧(l.getD i al.aa).2.1.length≤1048576:=by
 have hm:ag al (l.getD i al.aa)≤1048576:=Nat.le_trans (bo (e:=al) (ch hi)) hs
 refine⟨hm,?_⟩
 rw[gG hk]at hm
 have:=aA (e:=af) (l:=(l.getD i al.aa).2.1)
 omega
theorem Ex {l:List aJ} {key:List aj} (hs:ag (.sl al) l≤1048576):
 ∃r:Int,lX k (l,key,())=some (r,())∧(∀i:Nat,i<l.length→(l.getD i al.aa).2.1=key→(r=(i:Int)↔∀j,j<i→(l.getD j al.aa).2.1≠key)):=by
 have hl:=aA (e:=al) (l:=l)
 simp only[lX]
 have main:∀(m a:Nat),l.length-a<m→(∀j,j<a→(l.getD j al.aa).2.1≠key)→∃r:Int,az m (fun G1 (t2:List aj×List aJ×Int×Int×Unit)=>
  if(decide ((t2.2.2.2.1:Int)<t2.2.2.1))=true then
   if(decide (0≤t2.2.2.2.1∧t2.2.2.2.1<((List.length t2.2.1:Nat):Int)))=true then
    Option.bind (cM k (((List.getD t2.2.1 (Int.toNat t2.2.2.2.1) al.aa).2).1,t2.1,())) fun(r3:Bool×Unit)=>
    if r3.1=true then
     some (t2.2.2.2.1,())
    else
     G1 (t2.1,t2.2.1,t2.2.2.1,IntKind.i64.wrap (t2.2.2.2.1+(1:Int)),())
   else
    none
  else
   some ((-1:Int),())) (key,l,(l.length:Int),(a:Int),())=some (r,())∧(∀i:Nat,i<l.length→(l.getD i al.aa).2.1=key→(r=(i:Int)↔∀j,j<i→(l.getD j al.aa).2.1≠key)):=by
  intro m
  induction m with
  |zero=>intro a h;omega
  |succ m ih=>
   intro a h hno
   simp only[az,Int.toNat_natCast]
   by_cases ha:a<l.length
   ·rw[aw,decide_eq_true ha,if_pos rfl,if_pos (aK ha),ey hk (xP hk hs ha).2,Option.bind_some]
    by_cases hq:(l.getD a al.aa).2.1=key
    ·rw[if_pos (by simpa using hq)]
     refine⟨_,rfl,fun i hi hik=> ?_⟩
     constructor
     ·intro e j hj
      exact hno j (by omega)
     ·intro hall
      rcases Nat.lt_trichotomy a i with h1|h1|h1
      ·exact absurd hq (hall a h1)
      ·rw[h1]
      ·exact absurd hik (hno i h1)
    ·rw[if_neg (by simpa using hq),bd (by omega)]
     refine ih (a+1) (by omega) (fun j hj=> ?_)
     rcases Nat.lt_or_ge j a with h1|h1
     ·exact hno j h1
     ·rw[show j=a by omega];exact hq
   ·rw[aw,decide_eq_false ha,if_neg (by simp)]
    refine⟨-1,rfl,fun i hi hik=> ?_⟩
    exact absurd hik (hno i (by omega))
 exact main k 0 (by omega) (fun j hj=>by omega)
theorem P0 (l:List aJ) (i:Nat):mz l i=true↔∀j,j<i→(l.getD j al.aa).2.1≠(l.getD i al.aa).2.1:=by
 unfold mz
 rw[ei]
 simp only[Bool.not_eq_true',decide_eq_false_iff_not]
 exact⟨fun h j hj=>h j (by omega) hj,fun h j _ hj=>h j hj⟩
theorem De {l:List aJ} {by_:List ByteArray} (hs:ag (.sl al) l≤1048576) (hb:by_.length≤1048576):kE k (l,by_,())=some (nC l by_,()):=by
 have hl:=aA (e:=al) (l:=l)
 simp only[kE]
 rw[show((l,by_,l,(l.length:Int),(0:Int),()):List aJ×List ByteArray×List aJ×Int×Int×Unit)=(fun i:Nat=>(l,by_,l,(l.length:Int),(i:Int),())) 0 from rfl]
 rw[bN (fun i:Nat=>(l,by_,l,(l.length:Int),(i:Int),())) (fun i=>decide (i<12)&&(iv (l.getD i al.aa) by_&&(DM l i&&mz l i))) l.length (e:=some (true,())) (no:=some (false,())) ?_ ?_ k 0 (by omega)]
 ·unfold nC
  rw[DL,Pc]
  cases bf 0 l.length (fun i=>iv (l.getD i al.aa) by_&&(DM l i&&mz l i))<;>by_cases h:l.length≤12<;>simp[h]
 ·intro G i hi
  simp only[Int.toNat_natCast]
  obtain⟨hm,hml⟩:=xP hk hs hi
  obtain⟨r,hr,hri⟩:=Ex hk (key:=(l.getD i al.aa).2.1) hs
  have hri:=hri i hi rfl
  rw[←P0 hk]at hri
  rw[aw,decide_eq_true hi,if_pos rfl,if_pos (aK hi),FK hk hm hb,bd (by omega),pZ (by omega)]
  simp only[bM,Option.bind_some]
  rw[show((i:Int)-1).toNat=i-1 by omega,hr,if_pos (by simp;omega)]
  unfold DM
  by_cases h12:i<12
  ·have h12':¬(12:Int)≤(i:Int):=by omega
   cases iv (l.getD i al.aa) by_ with
   |false=>simp[h12,h12',-List.getD_eq_getElem?_getD]
   |true=>
    by_cases h0:i=0
    ·subst h0
     cases hn:mz l 0 with
     |true=>rw[hn]at hri;have:=hri.2 rfl;simp[this,-List.getD_eq_getElem?_getD]
     |false=>rw[hn]at hri;have:¬r=0:=fun e=>by have:=hri.1 e;cases this
             simp[this,-List.getD_eq_getElem?_getD]
    ·have h0':(0:Int)<(i:Int):=by omega
     have h0n:0<i:=by omega
     by_cases ho:(l.getD (i-1) al.aa).1<(l.getD i al.aa).1
     ·have ho':¬(l.getD i al.aa).1≤(l.getD (i-1) al.aa).1:=by omega
      cases hn:mz l i with
      |true=>rw[hn]at hri;have:=hri.2 rfl;simp[this,h12,h12',h0,h0',h0n,ho,ho',-List.getD_eq_getElem?_getD]
      |false=>rw[hn]at hri;have:¬r=(i:Int):=fun e=>by have:=hri.1 e;cases this
              simp[this,h12,h12',h0,h0',h0n,ho,ho',-List.getD_eq_getElem?_getD]
     ·have ho':(l.getD i al.aa).1≤(l.getD (i-1) al.aa).1:=by omega
      simp[h12,h12',h0,h0',h0n,ho,ho',-List.getD_eq_getElem?_getD]
  ·have h12':(12:Int)≤(i:Int):=by omega
   simp[h12,h12',-List.getD_eq_getElem?_getD]
 ·intro G i hi
  simp only
  rw[aw,decide_eq_false (by omega),if_neg (by simp)]
theorem Dl {l:List aJ} {by_:List ByteArray} (hs:ag (.sl al) l≤1048576) (hb:by_.length≤1048576):ky k (l,by_,())=some (nC l by_,()):=by
 have hl:=aA (e:=al) (l:=l)
 simp only[ky,aO]
 rw[show((l,by_,(0:Int),()):List aJ×List ByteArray×Int×Unit)=(fun i:Nat=>(l,by_,(i:Int),())) 0 from rfl]
 rw[bN (fun i:Nat=>(l,by_,(i:Int),())) (fun i=>iv (l.getD i al.aa) by_&&(DM l i&&mz l i)) l.length (e:=some (decide (l.length≤12),())) (no:=some (false,())) ?_ ?_ k 0 (by omega)]
 ·unfold nC
  cases bf 0 l.length (fun i=>iv (l.getD i al.aa) by_&&(DM l i&&mz l i))<;>simp
 ·intro G i hi
  simp only[Int.toNat_natCast]
  obtain⟨hm,hml⟩:=xP hk hs hi
  rw[aw,decide_eq_true hi,if_pos rfl,if_pos (aK hi),HD hk hm hb,Option.bind_some,pZ (by omega)]
  rw[show((i:Int)-1).toNat=i-1 by omega,if_pos (by simp;omega)]
  simp only[aK hi,Bool.or_true,if_true]
  have inner:az k (fun G6 (t7:List aJ×List ByteArray×Int×Int×Unit)=>
   if(decide ((t7.2.2.2.1:Int)<t7.2.2.1))=true then
    if(decide (0≤t7.2.2.2.1∧t7.2.2.2.1<((List.length t7.1:Nat):Int)))=true then
     if(decide (0≤t7.2.2.1∧t7.2.2.1<((List.length t7.1:Nat):Int)))=true then
      Option.bind (cL k (((List.getD t7.1 (Int.toNat t7.2.2.2.1) al.aa).2).1,((List.getD t7.1 (Int.toNat t7.2.2.1) al.aa).2).1,())) fun(r8:Bool×Unit)=>
      if r8.1=true then
       some (false,())
      else
       G6 (t7.1,t7.2.1,t7.2.2.1,IntKind.i64.wrap (t7.2.2.2.1+(1:Int)),())
     else
      none
    else
     none
   else
    G (t7.1,t7.2.1,IntKind.i64.wrap (t7.2.2.1+(1:Int)),())) (l,by_,(i:Int),(0:Int),())=if mz l i=true then G (l,by_,((i+1:Nat):Int),())else some (false,()):=by
   rw[show((l,by_,(i:Int),(0:Int),()):List aJ×List ByteArray×Int×Int×Unit)=(fun j:Nat=>(l,by_,(i:Int),(j:Int),())) 0 from rfl]
   rw[bN (fun j:Nat=>(l,by_,(i:Int),(j:Int),())) (fun j=> !decide ((l.getD j al.aa).2.1=(l.getD i al.aa).2.1)) i (e:=G (l,by_,((i+1:Nat):Int),())) (no:=some (false,())) ?_ ?_ k 0 (by omega)]
   ·rfl
   ·intro G' j hj
    simp only[Int.toNat_natCast]
    rw[aw,decide_eq_true hj,if_pos rfl,if_pos (aK (by omega)),if_pos (aK hi),dV hk (xP hk hs (show j<l.length by omega)).2,Option.bind_some,bd (by omega)]
    by_cases hq:(l.getD j al.aa).2.1=(l.getD i al.aa).2.1<;>simp[hq,-List.getD_eq_getElem?_getD]
   ·intro G' j hj
    simp only
    rw[aw,decide_eq_false (by omega),if_neg (by simp),bd (by omega)]
  rw[inner]
  unfold DM
  cases iv (l.getD i al.aa) by_ with
  |false=>simp
  |true=>
   by_cases h0:i=0
   ·subst h0;simp
   ·have h0':(0:Int)<(i:Int):=by omega
    have h0n:0<i:=by omega
    by_cases ho:(l.getD (i-1) al.aa).1<(l.getD i al.aa).1
    ·have ho':¬(l.getD i al.aa).1≤(l.getD (i-1) al.aa).1:=by omega
     simp[h0,h0',h0n,ho,ho',-List.getD_eq_getElem?_getD]
    ·have ho':(l.getD i al.aa).1≤(l.getD (i-1) al.aa).1:=by omega
     simp[h0,h0',h0n,ho,ho',-List.getD_eq_getElem?_getD]
 ·intro G i hi
  simp only
  rw[aw,decide_eq_false (by omega),if_neg (by simp)]
  congr 2
  rw[Bool.eq_iff_iff]
  simp
  omega
end
end Vg.Tryz
namespace Vg.Tryz
open Go Vg
set_option linter.unusedVariables false
set_option linter.unusedSectionVars false
set_option linter.unusedSimpArgs false
def qm (l:List bF):Bool:=bf 0 l.length (fun i=>p9 (l.getD i aU.aa))
section
variable {k:Nat} (hk:9223372036854775808≤k)
include hk
theorem rS {c:cg} {a:ai} (hs:ag ab a≤1048576):j8 k (c,a,())=some (fk a,()):=by
 simp only[j8]
 rw[fl hk hs]
 simp only[Option.bind_some,fk,vM]
theorem sq {c:cg} {a:ai} (hs:ag ab a≤1048576):j9 k (c,a,())=some (fk a,()):=by
 simp only[j9]
 rw[gU hk hs]
 simp only[Option.bind_some,fk,vM]
theorem Mb {s:bF} (hs:ag aU s≤1048576):nZ k (s,())=some (p9 s,()):=by
 rw[nS hk]at hs
 have hl:=aA (e:=ab) (l:=s.1)
 simp only[nZ,aO]
 rw[show((s,(0:Int),()):bF×Int×Unit)=(fun i:Nat=>(s,(i:Int),())) 0 from rfl]
 rw[bN (fun i:Nat=>(s,(i:Int),())) (fun i=>bZ (s.1.getD i ab.aa)) s.1.length (e:=some (decide (s.1.length≤3)&&(!s.2||decide (s.1.length=0)),())) (no:=some (false,())) ?_ ?_ k 0 (by omega)]
 ·unfold p9 cj
  cases bf 0 s.1.length (fun i=>bZ (s.1.getD i ab.aa))<;>simp
 ·intro G i hi
  simp only[Int.toNat_natCast]
  rw[aw,decide_eq_true hi,if_pos rfl,if_pos (aK hi),fl hk (gp hk hs hi).1,Option.bind_some,bd (by omega)]
  cases bZ (s.1.getD i ab.aa)<;>simp
 ·intro G i hi
  simp only
  rw[aw,decide_eq_false (by omega),if_neg (by simp)]
  congr 2
  by_cases h:s.1.length≤3
  ·have h':(s.1.length:Int)≤3:=by omega
   by_cases h0:s.1.length=0
   ·cases s.2<;>simp[h0]
   ·have h0':¬(s.1.length:Int)=0:=by omega
    cases s.2<;>simp[h,h',h0]<;>(intro e;rw[e]at h0;exact h0 rfl)
  ·have h':¬(s.1.length:Int)≤3:=by omega
   simp[h,h']
theorem KV {s:bF} (hs:ag aU s≤1048576):ov k (s,())=some (p9 s,()):=by
 rw[nS hk]at hs
 have hl:=aA (e:=ab) (l:=s.1)
 simp only[ov]
 rw[jq hk hs]
 unfold p9
 cases s.2 with
 |true=>
  simp only[if_true]
  congr 2
  by_cases h0:s.1=[]
  ·rw[h0];rfl
  ·have h1:¬s.1.length=0:=fun e=>h0 (List.eq_nil_of_length_eq_zero e)
   simp[h0]
 |false=>
  by_cases h:s.1.length≤3
  ·have h':(s.1.length:Int)≤3:=by omega
   simp[h,h']
  ·have h':¬(s.1.length:Int)≤3:=by omega
   simp[h,h']
theorem RV {l:List bF} {i:Nat} (hs:ag (.sl aU) l≤1048576) (hi:i<l.length):ag aU (l.getD i aU.aa)≤1048576:=
 Nat.le_trans (bo (e:=aU) (ch hi)) hs
theorem B8 {l:List bF} {c:cg} (hs:ag (.sl aU) l≤1048576):jA k (l,c,())=some (qm l&&decide ((l.length:Int)=c.2.2.1),()):=by
 have hl:=aA (e:=aU) (l:=l)
 simp only[jA,aO]
 rw[show((l,c,l,(l.length:Int),(0:Int),()):List bF×cg×List bF×Int×Int×Unit)=(fun i:Nat=>(l,c,l,(l.length:Int),(i:Int),())) 0 from rfl]
 rw[bN (fun i:Nat=>(l,c,l,(l.length:Int),(i:Int),())) (fun i=>p9 (l.getD i aU.aa)) l.length (e:=some (decide ((l.length:Int)=c.2.2.1),())) (no:=some (false,())) ?_ ?_ k 0 (by omega)]
 ·unfold qm
  cases bf 0 l.length (fun i=>p9 (l.getD i aU.aa))<;>simp
 ·intro G i hi
  simp only[Int.toNat_natCast]
  rw[aw,decide_eq_true hi,if_pos rfl,if_pos (aK hi),KV hk (RV hk hs hi),Option.bind_some,bd (by omega)]
  cases p9 (l.getD i aU.aa)<;>simp
 ·intro G i hi
  simp only
  rw[aw,decide_eq_false (by omega),if_neg (by simp)]
  congr 2
end
end Vg.Tryz
namespace Vg.Tryz
open Go Vg
set_option linter.unusedVariables false
set_option linter.unusedSectionVars false
set_option linter.unusedSimpArgs false
theorem HH (n:Int):IntKind.u32.wrap n=n%4294967296:=by
 simp[IntKind.wrap,IntKind.signed,IntKind.bits]
theorem UP {a b:Nat} (ha:a<4294967296) (hb:b<4294967296):bits (fun _=>(·^^^·)) .i64 (a:Int) (b:Int)=((a^^^b:Nat):Int):=by
 have hx:a^^^b<2^32:=Nat.xor_lt_two_pow (by simpa using ha) (by simpa using hb)
 change IntKind.i64.wrap (((BitVec.ofInt 64 (a:Int)^^^BitVec.ofInt 64 (b:Int)).toNat:Nat):Int)=_
 rw[BitVec.toNat_xor,BitVec.toNat_ofInt,BitVec.toNat_ofInt]
 have e1:((a:Int)%((2^64:Nat):Int)).toNat=a:=by omega
 have e2:((b:Int)%((2^64:Nat):Int)).toNat=b:=by omega
 rw[e1,e2,wrap64 (by omega) (by omega)]
theorem UK {a b:Nat} (ha:a<4294967296) (hb:b<4294967296):bits (fun _=>(·^^^·)) .u32 (a:Int) (b:Int)=((a^^^b:Nat):Int):=by
 have hx:a^^^b<2^32:=Nat.xor_lt_two_pow (by simpa using ha) (by simpa using hb)
 change IntKind.u32.wrap (((BitVec.ofInt 32 (a:Int)^^^BitVec.ofInt 32 (b:Int)).toNat:Nat):Int)=_
 rw[BitVec.toNat_xor,BitVec.toNat_ofInt,BitVec.toNat_ofInt]
 have e1:((a:Int)%((2^32:Nat):Int)).toNat=a:=by omega
 have e2:((b:Int)%((2^32:Nat):Int)).toNat=b:=by omega
 rw[e1,e2,HH]
 omega
theorem UL {a:Nat} (ha:a<9223372036854775808):bits (fun _=>(· &&& ·)) .i64 (a:Int) (4294967295:Int)=((a%4294967296:Nat):Int):=by
 change IntKind.i64.wrap (((BitVec.ofInt 64 (a:Int) &&& BitVec.ofInt 64 (4294967295:Int)).toNat:Nat):Int)=_
 rw[BitVec.toNat_and,BitVec.toNat_ofInt,BitVec.toNat_ofInt]
 have e1:((a:Int)%((2^64:Nat):Int)).toNat=a:=by omega
 have e2:((4294967295:Int)%((2^64:Nat):Int)).toNat=2^32-1:=by decide
 rw[e1,e2,Nat.and_two_pow_sub_one_eq_mod,wrap64 (by omega) (by omega)]
theorem UN (s:ByteArray) (i:Int):∃b:Nat,bt s i=(b:Int)∧b<256:=by
 unfold bt
 exact⟨_,rfl,(s.data.toList.getD i.toNat 0).toNat_lt⟩
theorem NO {n:Nat} (hn:n<4294967296) (s:ByteArray) (i:Int):∃m:Nat,m<4294967296∧
 bits (fun _=>(· &&& ·)) .i64 (IntKind.i64.wrap ((bits (fun _=>(·^^^·)) .i64 (n:Int) (IntKind.i64.wrap (bt s i)))*(16777619:Int))) (4294967295:Int)=(m:Int)∧
 IntKind.u32.wrap ((bits (fun _=>(·^^^·)) .u32 (n:Int) (IntKind.u32.wrap (bt s i)))*(16777619:Int))=(m:Int):=by
 obtain⟨b,hb,hlt⟩:=UN s i
 have hx:n^^^b<2^32:=Nat.xor_lt_two_pow (by simpa using hn) (by omega)
 rw[hb,wrap64 (n:=(b:Int)) (by omega) (by omega),HH (b:Int),show((b:Int)%4294967296)=(b:Int) by omega,UP hn (by omega),UK hn (by omega)]
 generalize n^^^b=x at hx
 rw[wrap64 (by omega) (by omega),show((x:Int)*16777619)=((x*16777619:Nat):Int) by omega,UL (by omega),HH]
 exact⟨x*16777619%4294967296,by omega,rfl,by omega⟩
section
variable {k:Nat} (hk:9223372036854775808≤k)
include hk
theorem T1 {s:ByteArray} (hs:s.size≤4294967296):∃n:Int,ji k (s,())=some (n,())∧o9 k (s,())=some (n,()):=by
 have h1:∃r:Int×Unit,ji k (s,())=some r∧∃n:Nat,r.1=(n:Int)∧n<4294967296:=by
  simp only[ji]
  refine zQ (fun(t:ByteArray×Int×Int×Unit)=>s.size-t.2.2.1.toNat) (fun(t:ByteArray×Int×Int×Unit)=>t.1=s∧(∃n:Nat,t.2.1=(n:Int)∧n<4294967296)∧0≤t.2.2.1∧t.2.2.1≤(s.size:Int)) _ ?_ k _ ⟨rfl,⟨2166136261,rfl,by omega⟩,by simp,by simp⟩ (by simp only;omega)
  rintro G ⟨s',n,i,u⟩ ⟨e1,⟨m,e2,hm⟩,hi0,hi1⟩ hG
  change s'=s at e1
  change n=_ at e2
  subst e1 e2
  simp only at hi0 hi1 hG⊢
  by_cases hi:i<(s'.size:Int)
  ·rw[if_pos (by simpa using hi),if_pos (by simpa using⟨hi0,hi⟩)]
   obtain⟨m',hm',q1,_⟩:=NO hm s' i
   rw[q1,wrap64 (by omega) (by omega)]
   exact hG (s',_,i+1,()) ⟨rfl,⟨m',rfl,hm'⟩,by simp only;omega,by simp only;omega⟩ (by simp only;omega)
  ·rw[if_neg (by simpa using hi)]
   exact⟨_,rfl,m,rfl,hm⟩
 have h2:ji k (s,())=o9 k (s,()):=by
  simp only[ji,o9,aO]
  refine MP (fun(t t':ByteArray×Int×Int×Unit)=>t=t'∧∃n:Nat,t.2.1=(n:Int)∧n<4294967296) (fun a b=>a=b) rfl ?_ k _ _ ⟨rfl,2166136261,rfl,by omega⟩
  rintro G G' ⟨s1,n,i,u⟩ t' ⟨rfl,m,e2,hm⟩ hG
  change n=_ at e2
  subst e2
  simp only
  obtain⟨m',hm',q1,q2⟩:=NO hm s1 i
  split
  ·split
   ·rw[q1,q2]
    exact hG _ _ ⟨rfl,m',rfl,hm'⟩
   ·rfl
  ·rw[wrap64 (by omega) (by omega)]
 obtain⟨⟨n,u⟩,hr,_⟩:=h1
 exact⟨n,hr,h2▸hr⟩
def Qh (x:aj):ByteArray:=((x.1++(⟨#[61,34]⟩:ByteArray))++x.2)++(⟨#[34]⟩:ByteArray)
def tx (l:List aj):Nat→ByteArray
 |0=>⟨#[123]⟩
 |i+1=>((((if i=0 then tx l i else tx l i++(⟨#[44,32]⟩:ByteArray))++(l.getD i af.aa).1)++(⟨#[61,34]⟩:ByteArray))++(l.getD i af.aa).2)++(⟨#[34]⟩:ByteArray)
theorem Jj {l:List aj} (h:eN l=true):∀i,i≤l.length→(tx l i).size≤1+25*i:=by
 simp only[eN,Bool.and_eq_true,ei]at h
 intro i
 induction i with
 |zero=>intro _;simp[tx,ByteArray.size]
 |succ i ih=>
  intro hi
  have:=ih (by omega)
  have h2:=h.2 i (by omega) (by omega)
  simp only[fo,eP,km,Bool.and_eq_true,decide_eq_true_eq]at h2
  simp only[tx,ByteArray.size_append]
  have e1:(⟨#[61,34]⟩:ByteArray).size=2:=rfl
  have e2:(⟨#[34]⟩:ByteArray).size=1:=rfl
  have e3:(⟨#[44,32]⟩:ByteArray).size=2:=rfl
  split
  ·omega
  ·rw[ByteArray.size_append];omega
theorem Gb {l:List aj} (hs:ag (.sl af) l≤1048576):lW k (l,())=some (if eN l=true then tx l l.length++(⟨#[125]⟩:ByteArray)else⟨#[]⟩,()):=by
 have hl:=aA (e:=af) (l:=l)
 simp only[lW,aO]
 rw[mN hk hs,Option.bind_some]
 cases hok:eN l with
 |false=>simp
 |true=>
  have hb:=Jj hk hok
  have hok':=hok
  simp only[eN,Bool.and_eq_true,ei,decide_eq_true_eq]at hok'
  rw[if_neg (by simp),if_pos rfl]
  rw[show((l,(⟨#[123]⟩:ByteArray),(0:Int),()):List aj×ByteArray×Int×Unit)=(fun i:Nat=>(l,tx l i,(i:Int),())) 0 from rfl]
  have e1:(⟨#[61,34]⟩:ByteArray).size=2:=rfl
  have e2:(⟨#[34]⟩:ByteArray).size=1:=rfl
  have e3:(⟨#[44,32]⟩:ByteArray).size=2:=rfl
  have e4:(⟨#[125]⟩:ByteArray).size=1:=rfl
  refine cD (fun i:Nat=>(l,tx l i,(i:Int),())) l.length ?_ ?_ k 0 (by omega) (by omega)
  ·intro G i hi
   have hbi:=hb i (by omega)
   have hlab:=hok'.2 i (by omega) hi
   simp only[fo,eP,km,Bool.and_eq_true,decide_eq_true_eq]at hlab
   simp only[Int.toNat_natCast]
   rw[aw,decide_eq_true hi,if_pos rfl]
   by_cases h0:i=0
   ·subst h0
    have hz:(tx l 0).size=1:=rfl
    rw[if_neg (by simp)]
    simp only[aK hi,if_true,ByteArray.size_append,e1,e2,hz]
    rw[if_pos (by simp only[decide_eq_true_eq];omega),if_pos (by simp only[decide_eq_true_eq];omega),if_pos (by simp only[decide_eq_true_eq];omega),if_pos (by simp only[decide_eq_true_eq];omega),bd (by omega)]
    rfl
   ·have h0n:0<i:=by omega
    rw[if_pos (by simp;omega),if_pos (by simp only[e3,decide_eq_true_eq];omega)]
    simp only[aK hi,if_true,ByteArray.size_append,e1,e2,e3]
    rw[if_pos (by simp only[decide_eq_true_eq];omega),if_pos (by simp only[decide_eq_true_eq];omega),if_pos (by simp only[decide_eq_true_eq];omega),if_pos (by simp only[decide_eq_true_eq];omega),bd (by omega)]
    simp only[tx,if_neg h0]
  ·intro G
   have hbi:=hb l.length (by omega)
   simp only
   rw[aw,decide_eq_false (by omega),if_neg (by simp),if_pos (by simp only[e4,decide_eq_true_eq];omega)]
def pl (l:List aj) (i:Nat):List ByteArray:=(List.range i).map (fun j=>Qh (l.getD j af.aa))
theorem Pb (l:List aj) (i:Nat):pl l (i+1)=pl l i++[Qh (l.getD i af.aa)]:=by
 simp[pl,List.range_succ]
theorem Ra (xs:List (List UInt8)) (y sep:List UInt8):Lib.join (xs++[y]) sep=if xs=[]then y else Lib.join xs sep++sep++y:=by
 cases xs with
 |nil=>simp[Lib.join_one]
 |cons x r=>
  rw[if_neg (by simp),List.cons_append,Lib.join_cons,Lib.join_cons]
  simp[Lib.joinTail,List.append_assoc]
theorem Pa (l:List aj):∀i,(tx l i).data.toList=123::oe (pl l i) ⟨#[44,32]⟩:=by
 intro i
 induction i with
 |zero=>rfl
 |succ i ih=>
  unfold oe at ih⊢
  rw[Pb hk,List.map_append,List.map_singleton,Ra hk]
  simp only[tx,Qh]
  by_cases h0:i=0
  ·subst h0
   simp[pl,tx,ByteArray.data_append]
  ·have hne:List.map (fun x=>x.data.toList) (pl l i)≠ []:=by
    intro e
    have:=congrArg List.length e
    simp[pl]at this
    exact h0 this
   rw[if_neg h0,if_neg hne]
   simp only[ByteArray.data_append,Array.toList_append,ih]
   simp[List.append_assoc]
theorem Rg {a b:ByteArray} (h:a.data.toList=b.data.toList):a=b:=by
 cases a;cases b
 simp at h
 rw[h]
theorem Ge {l:List aj} (hs:ag (.sl af) l≤1048576):lH k (l,())=some (if eN l=true then tx l l.length++(⟨#[125]⟩:ByteArray)else⟨#[]⟩,()):=by
 have hl:=aA (e:=af) (l:=l)
 simp only[lH,aO]
 rw[na hk hs,Option.bind_some]
 cases hok:eN l with
 |false=>simp
 |true=>
  have hb:=Jj hk hok l.length (by omega)
  have hok':=hok
  simp only[eN,Bool.and_eq_true,ei,decide_eq_true_eq]at hok'
  rw[if_neg (by simp),if_pos rfl]
  rw[show((([]:List ByteArray),l,(l.length:Int),(0:Int),()):List ByteArray×List aj×Int×Int×Unit)=(fun i:Nat=>(pl l i,l,(l.length:Int),(i:Int),())) 0 from rfl]
  have e1:(⟨#[61,34]⟩:ByteArray).size=2:=rfl
  have e2:(⟨#[34]⟩:ByteArray).size=1:=rfl
  refine cD (fun i:Nat=>(pl l i,l,(l.length:Int),(i:Int),())) l.length ?_ ?_ k 0 (by omega) (by omega)
  ·intro G i hi
   have hlab:=hok'.2 i (by omega) hi
   simp only[fo,eP,km,Bool.and_eq_true,decide_eq_true_eq]at hlab
   have hpl:(pl l i).length=i:=by simp[pl]
   simp only[Int.toNat_natCast]
   rw[aw,decide_eq_true hi,if_pos rfl,if_pos (aK hi)]
   simp only[ByteArray.size_append,e1,e2]
   rw[if_pos (by simp only[decide_eq_true_eq];omega),if_pos (by simp only[decide_eq_true_eq];omega),if_pos (by simp only[decide_eq_true_eq];omega),if_pos (by simp only[decide_eq_true_eq,List.length_singleton,hpl];omega),bd (by omega),Pb hk]
   rfl
  ·intro G
   simp only
   rw[aw,decide_eq_false (by omega),if_neg (by simp)]
   have hj:(oe (pl l l.length) ⟨#[44,32]⟩).length≤1+25*l.length:=by
    have:=Pa hk l l.length
    have h2:=congrArg List.length this
    simp only[Array.length_toList,List.length_cons]at h2
    have h3:(tx l l.length).data.size=(tx l l.length).size:=rfl
    omega
   have hpl:(pl l l.length).length=l.length:=by simp[pl]
   simp only[pL,xz]
   rw[if_pos ⟨by rw[hpl];omega,by omega⟩,Option.bind_some]
   simp only[ByteArray.size_append]
   have hz:(⟨(oe (pl l l.length) ⟨#[44,32]⟩).toArray⟩:ByteArray).size=(oe (pl l l.length) ⟨#[44,32]⟩).length:=by simp[ByteArray.size]
   have e3:(⟨#[123]⟩:ByteArray).size=1:=rfl
   have e4:(⟨#[125]⟩:ByteArray).size=1:=rfl
   rw[hz,e3,e4,if_pos (by simp only[decide_eq_true_eq];omega),if_pos (by simp only[decide_eq_true_eq];omega)]
   congr 2
   refine Rg hk ?_
   simp only[ByteArray.data_append,Array.toList_append]
   rw[Pa hk]
   simp
theorem KF {l:List aj} (hs:ag (.sl af) l≤1048576):∃n:Int,dP k (l,())=some (n,())∧dZ k (l,())=some (n,()):=by
 simp only[dP,dZ]
 rw[Gb hk hs,Ge hk hs]
 simp only[Option.bind_some]
 have hsz:(if eN l=true then tx l l.length++(⟨#[125]⟩:ByteArray)else⟨#[]⟩).size≤4294967296:=by
  split
  ·rename_i hok
   have hb:=Jj hk hok l.length (by omega)
   have hl:l.length≤4:=by
    simp only[eN,Bool.and_eq_true,decide_eq_true_eq]at hok
    exact hok.1
   have e4:(⟨#[125]⟩:ByteArray).size=1:=rfl
   rw[ByteArray.size_append]
   omega
  ·simp[ByteArray.size]
 obtain⟨n,q1,q2⟩:=T1 hk hsz
 rw[q1,q2]
 simp only[Option.bind_some]
 rw[if_pos (by simp),if_pos (by simp)]
 exact⟨_,rfl,rfl⟩
theorem RA (f n:Int):fA k (f,n,())=eJ k (f,n,()):=rfl
end
end Vg.Tryz
namespace Vg.Tryz
open Go Vg
set_option linter.unusedVariables false
set_option linter.unusedSectionVars false
set_option linter.unusedSimpArgs false
section
variable {k:Nat} (hk:9223372036854775808≤k)
include hk
theorem kJ {a:ai} (h:ag ab a≤1073741824):dt k (a,())=some (a,()):=by
 have h1:=cr hk a
 have h2:=aA (e:=af) (l:=a.1)
 simp only[dt]
 rw[if_pos (by simp;omega)]
 simp
theorem oF {l:List aj} (h:l.length≤1073741824):et k (l,())=some (l,()):=by
 simp only[et]
 rw[if_pos (by simp;omega)]
 simp
theorem lp {a:ai} (h:ag ab a≤1073741824):cS k (a,())=some (a,()):=by
 have h1:=cr hk a
 have h2:=aA (e:=af) (l:=a.1)
 simp only[cS]
 rw[oF hk (by omega),Option.bind_some]
theorem jj {l:List ai} (h:ag (.sl ab) l≤1073741824):dK k (l,())=some (l,()):=
 zw (d:=ab.aa) (S:=dt k) hk (Nat.le_trans (aA (e:=ab)) h) (fun e he=>kJ hk (Nat.le_trans (bo (e:=ab) he) h))
theorem dX {l:List ai} (h:ag (.sl ab) l≤1073741824):cw k (l,())=some (l,()):=
 E9 (d:=ab.aa) (S:=cS k) hk (Nat.le_trans (aA (e:=ab)) h) (fun e he=>lp hk (Nat.le_trans (bo (e:=ab) he) h))
theorem PY {g:aJ} (h:ag al g≤1073741824):iK k (g,())=some (g,()):=by
 have h1:=gG hk g
 have h2:=aA (e:=af) (l:=g.2.1)
 simp only[iK]
 rw[if_pos (by simp;omega),jj hk (by omega),Option.bind_some]
 simp
theorem NS {g:aJ} (h:ag al g≤1073741824):gg k (g,())=some (g,()):=by
 have h1:=gG hk g
 have h2:=aA (e:=af) (l:=g.2.1)
 simp only[gg]
 rw[oF hk (by omega),Option.bind_some,dX hk (by omega),Option.bind_some]
theorem Ot {b:bz} (h1:ag (.sl af) b.2.1≤1073741824) (h3:ag (.sl ab) b.2.2.2≤1073741824):gL k (b,())=some (b,()):=by
 have h2:=aA (e:=af) (l:=b.2.1)
 simp only[gL]
 rw[if_pos (by simp;omega),jj hk (by omega),Option.bind_some]
 simp
theorem Qt {c:cg} (h:ag bC c≤1073741824):lA k (c,())=some (c,()):=by
 have h1:=jk hk c
 have h2:=aA (e:= .str) (l:=c.2.2.2.2.2)
 simp only[lA]
 rw[if_pos (by simp;omega)]
 simp
theorem O3 {c:cg} (h:ag bC c≤1073741824):kF k (c,())=some (c,()):=by
 have h1:=jk hk c
 have h2:=aA (e:= .str) (l:=c.2.2.2.2.2)
 simp only[kF]
 rw[if_pos (by simp;omega)]
 simp
end
end Vg.Tryz
namespace Vg.Tryz
open Go Vg
set_option linter.unusedVariables false
set_option linter.unusedSectionVars false
set_option linter.unusedSimpArgs false
def jh (k:Nat) (l:List aj):Int:=match dP k (l,())with|some r=>r.1|none=>0
def dW (f n:Int):Int:=if n<1 then 0 else if f<0 then 0 else Int.tmod f n
def mV (l:List ai) (s:List aj):Option Nat:=qP l.length (fun i=>decide ((l.getD i ab.aa).1=s))
def AI (l:List ai):Bool:=bf 0 l.length (fun i=>bf 0 i (fun j=> !decide ((l.getD j ab.aa).1=(l.getD i ab.aa).1)))
def fV (k:Nat) (c:bc):Bool:=bf 0 c.2.length (fun i=>bZ (c.2.getD i ab.aa)&&decide (jh k (c.2.getD i ab.aa).1=c.1))&&(decide (0<c.2.length)&&AI c.2)
def xr (l:List bc) (i:Nat):Bool:=i==0||decide ((l.getD (i-1) ay.aa).1<(l.getD i ay.aa).1)
def jF (k:Nat) (p:aG) (i n:Int):Bool:=
 bf 0 p.2.2.length (fun j=>fV k (p.2.2.getD j ay.aa)&&(decide (dW (p.2.2.getD j ay.aa).1 n=i)&&xr p.2.2 j))&&(bK p.1 (-1) 4&&decide (0≤p.2.1))
def iU (k:Nat) (l:List aG):Bool:=bf 0 l.length (fun i=>jF k (l.getD i aq.aa) i l.length)&&bK l.length 1 3
theorem sP {e:Ty} {l:List e.den} {i:Nat} {d:e.den} (hi:i<l.length):ag e (l.getD i d)+l.length≤ag (.sl e) l:=by
 have h:=N7 (f:=ag e) (ch (d:=d) hi)
 simp only[ag]
 omega
section
variable {k:Nat} (hk:9223372036854775808≤k)
include hk
theorem iE {l:List aj} (hs:ag (.sl af) l≤1048576):dP k (l,())=some (jh k l,()):=by
 obtain⟨n,h1,h2⟩:=KF hk hs
 unfold jh
 rw[h1]
theorem iy {l:List aj} (hs:ag (.sl af) l≤1048576):dZ k (l,())=some (jh k l,()):=by
 obtain⟨n,h1,h2⟩:=KF hk hs
 unfold jh
 rw[h1,h2]
theorem iF {f n:Int}:eJ k (f,n,())=some (dW f n,()):=by
 simp only[eJ,dW]
 by_cases h1:n<1
 ·simp[h1]
 ·by_cases h2:f<0
  ·simp[h1,h2]
  ·have h3:n≠0:=by omega
   simp[h1,h2,h3]
theorem lF {f n:Int}:fA k (f,n,())=some (dW f n,()):=by
 rw[RA hk,iF hk]
omit hk in
theorem Ha {f n:Int} (h:1≤n):0≤dW f n∧dW f n<n:=by
 unfold dW
 rw[if_neg (by omega)]
 split
 ·omega
 ·exact⟨Int.tmod_nonneg _ (by omega),Int.tmod_lt_of_pos _ (by omega)⟩
theorem Cb {l:List ai} {s:List aj} (hs:ag (.sl ab) l≤1048576):gE k (l,s,())=some (pk (mV l s),()):=by
 have hl:=aA (e:=ab) (l:=l)
 simp only[gE]
 refine(uB (fun i:Nat=>(s,l,(l.length:Int),(i:Int),())) (fun i=>decide ((l.getD i ab.aa).1=s)) l.length (e:=some (-1,())) (fun i=>some ((i:Int),())) (fun G i hi=> ?_) (fun G=> ?_) k (by omega)).trans ?_
 ·obtain⟨h1,h2⟩:=gp hk hs hi
  simp only[aw,aK hi,hi,decide_true,if_true,Int.toNat_natCast,ey hk h2,Option.bind_some]
  rw[bd (by omega)]
 ·simp
 ·unfold mV
  cases qP l.length (fun i=>decide ((l.getD i ab.aa).1=s))<;>rfl
theorem Gc {c:bc} {s:List aj} (hs:ag (.sl ab) c.2≤1048576):l0 k (c,s,())=some (pk (mV c.2 s),()):=by
 have hl:=aA (e:=ab) (l:=c.2)
 simp only[l0]
 refine(uB (fun i:Nat=>(s,c,(i:Int),())) (fun i=>decide ((c.2.getD i ab.aa).1=s)) c.2.length (e:=some (-1,())) (fun i=>some ((i:Int),())) (fun G i hi=> ?_) (fun G=> ?_) k (by omega)).trans ?_
 ·obtain⟨h1,h2⟩:=gp hk hs hi
  simp only[aw,aK hi,hi,decide_true,if_true,Int.toNat_natCast,dV hk h2,Option.bind_some]
  rw[bd (by omega)]
 ·simp
 ·unfold mV
  cases qP c.2.length (fun i=>decide ((c.2.getD i ab.aa).1=s))<;>rfl
theorem GK {c:bc} {s:List aj} (hs:ag (.sl ab) c.2≤1048576):lC k (c,s,())=some (pk (mV c.2 s),()):=by
 simp only[lC]
 rw[Cb hk hs,Option.bind_some]
omit hk in
theorem PU {l:List ai} {i:Nat} (hi:i<l.length):(mV (l.take i) (l.getD i ab.aa).1=none)↔bf 0 i (fun j=> !decide ((l.getD j ab.aa).1=(l.getD i ab.aa).1))=true:=by
 unfold mV
 rw[KN,ei]
 have hl:(l.take i).length=i:=by simp;omega
 rw[hl]
 have hg:∀j,j<i→(l.take i).getD j ab.aa=l.getD j ab.aa:=by
  intro j hj
  simp[List.getD_eq_getElem?_getD,List.getElem?_take,hj]
 constructor
 ·intro h j _ hj
  have:=h j hj
  rw[hg j hj]at this
  simp only[this,Bool.not_false]
 ·intro h j hj
  have:=h j (by omega) hj
  rw[hg j hj]
  simpa using this
theorem Jg {l:List ai} (hs:ag (.sl ab) l≤1048576):gV k (l,())=some (AI l,()):=by
 have hl:=aA (e:=ab) (l:=l)
 simp only[gV]
 refine(bN (fun i:Nat=>(l,l,(l.length:Int),(i:Int),())) (fun i=>bf 0 i (fun j=> !decide ((l.getD j ab.aa).1=(l.getD i ab.aa).1))) l.length (e:=some (true,())) (no:=some (false,())) ?_ ?_ k 0 (by omega)).trans ?_
 ·intro G i hi
  have ht:=gf (e:=ab) l i
  simp only[aw,aK hi,hi,decide_true,if_true,Int.toNat_natCast]
  rw[if_pos (by simp;omega),Cb hk (by omega),Option.bind_some,bd (by omega)]
  have key:=PU hi
  cases hp:bf 0 i (fun j=> !decide ((l.getD j ab.aa).1=(l.getD i ab.aa).1))with
  |true=>
   rw[key.2 hp]
   rfl
  |false=>
   cases hq:mV (l.take i) (l.getD i ab.aa).1 with
   |none=>rw[key.1 hq]at hp;cases hp
   |some j=>rw[if_pos (by simp[pk]),if_neg (by simp)]
 ·intro G i hi
  simp only[aw]
  rw[if_neg (by simp;omega)]
 ·unfold AI
  split<;>simp_all
theorem ue {c:bc} (hs:ag ay c≤1048576):ma k (c,())=some (fV k c,()):=by
 rw[ep hk]at hs
 have hl:=aA (e:=ab) (l:=c.2)
 simp only[ma,aO]
 refine(bN (fun i:Nat=>(c,c.2,(c.2.length:Int),(i:Int),())) (fun i=>bZ (c.2.getD i ab.aa)&&decide (jh k (c.2.getD i ab.aa).1=c.1)) c.2.length
  (e:=some (decide (0<c.2.length)&&AI c.2,())) (no:=some (false,())) ?_ ?_ k 0 (by omega)).trans ?_
 ·intro G i hi
  obtain⟨h1,h2⟩:=gp hk hs hi
  have h3:=cr hk (c.2.getD i ab.aa)
  simp only[aw,aK hi,hi,decide_true,if_true,Int.toNat_natCast,gU hk h1,iy hk (l:=(c.2.getD i ab.aa).1) (by omega),Option.bind_some,bM]
  rw[bd (by omega)]
  generalize bZ (c.2.getD i ab.aa)=b1
  generalize jh k (c.2.getD i ab.aa).1=f
  cases b1<;>by_cases hf:f=c.1<;>simp[hf]
 ·intro G i hi
  simp only[aw]
  rw[if_neg (by simp;omega),Jg hk hs]
  by_cases h0:0<c.2.length<;>simp[h0]
 ·unfold fV
  cases bf 0 c.2.length (fun i=>bZ (c.2.getD i ab.aa)&&decide (jh k (c.2.getD i ab.aa).1=c.1))<;>simp
theorem uS {c:bc} (hs:ag ay c≤1048576):me k (c,())=some (fV k c,()):=by
 rw[ep hk]at hs
 have hl:=aA (e:=ab) (l:=c.2)
 simp only[me,aO]
 refine(bN (fun i:Nat=>(c,(i:Int),())) (fun i=>(bZ (c.2.getD i ab.aa)&&decide (jh k (c.2.getD i ab.aa).1=c.1))&&bf 0 i (fun j=> !decide ((c.2.getD j ab.aa).1=(c.2.getD i ab.aa).1))) c.2.length
  (e:=some (decide (0<c.2.length),())) (no:=some (false,())) ?_ ?_ k 0 (by omega)).trans ?_
 ·intro G i hi
  obtain⟨h1,h2⟩:=gp hk hs hi
  have h3:=cr hk (c.2.getD i ab.aa)
  simp only[aw,aK hi,hi,decide_true,if_true,Int.toNat_natCast,fl hk h1,iE hk (l:=(c.2.getD i ab.aa).1) (by omega),Option.bind_some,bM,Bool.or_true]
  have hin:az k (fun G7 (t8:bc×Int×Int×Unit)=>
   if(decide ((t8.2.2.1:Int)<t8.2.1))=true then
    if(decide (0≤t8.2.2.1∧t8.2.2.1<((List.length t8.1.2:Nat):Int)))=true then
     if(decide (0≤t8.2.1∧t8.2.1<((List.length t8.1.2:Nat):Int)))=true then
      Option.bind (cL k ((List.getD t8.1.2 (Int.toNat t8.2.2.1) ab.aa).1,(List.getD t8.1.2 (Int.toNat t8.2.1) ab.aa).1,())) fun(r9:Bool×Unit)=>
      if r9.1=true then
       some (false,())
      else
       G7 (t8.1,t8.2.1,IntKind.i64.wrap (t8.2.2.1+(1:Int)),())
     else
      none
    else
     none
   else
    G (t8.1,IntKind.i64.wrap (t8.2.1+(1:Int)),())) (c,(i:Int),(0:Int),())=
   if bf 0 i (fun j=> !decide ((c.2.getD j ab.aa).1=(c.2.getD i ab.aa).1))=true then G (c,((i+1:Nat):Int),())else some (false,()):=by
   refine bN (fun j:Nat=>(c,(i:Int),(j:Int),())) (fun j=> !decide ((c.2.getD j ab.aa).1=(c.2.getD i ab.aa).1)) i ?_ ?_ k 0 (by omega)
   ·intro G2 j hj
    obtain⟨h4,h5⟩:=gp hk hs (i:=j) (by omega)
    simp only[aw,aK hi,aK (show j<c.2.length by omega),hi,hj,decide_true,if_true,Int.toNat_natCast,dV hk h5,Option.bind_some]
    rw[bd (by omega)]
    by_cases hq:(c.2.getD j ab.aa).1=(c.2.getD i ab.aa).1<;>simp only[hq,decide_true,decide_false,Bool.not_true,Bool.not_false,if_true,Bool.false_eq_true,if_false]
   ·intro G2 j hj
    simp only[aw]
    rw[if_neg (by simp;omega),bd (by omega)]
  rw[hin]
  generalize bZ (c.2.getD i ab.aa)=b1
  generalize jh k (c.2.getD i ab.aa).1=f
  generalize bf 0 i (fun j=> !decide ((c.2.getD j ab.aa).1=(c.2.getD i ab.aa).1))=b3
  cases b1<;>cases b3<;>by_cases hf:f=c.1<;>simp[hf]
 ·intro G i hi
  simp only[aw]
  rw[if_neg (by simp;omega)]
  congr 2
  simp
 ·rw[DL]
  unfold fV AI
  cases bf 0 c.2.length (fun i=>bZ (c.2.getD i ab.aa)&&decide (jh k (c.2.getD i ab.aa).1=c.1))<;>
   cases bf 0 c.2.length (fun i=>bf 0 i (fun j=> !decide ((c.2.getD j ab.aa).1=(c.2.getD i ab.aa).1)))<;>simp
end
end Vg.Tryz
namespace Vg.Tryz
open Go Vg
set_option linter.unusedVariables false
set_option linter.unusedSectionVars false
set_option linter.unusedSimpArgs false
theorem Fg {j:Nat} (h:j<4611686018427387904):IntKind.i64.wrap (((j+1:Nat):Int)-1)=(j:Int):=by
 rw[wrap64 (by omega) (by omega)];omega
theorem Nf (j:Nat):decide ((((j+1:Nat):Int))>0)=true:=by simp
theorem RX:decide ((((0:Nat):Int))>0)=false:=by simp
def lL (a b:bl):Bool:=decide (a.1<b.1)||(decide (a.1=b.1)&&decide (a.2<b.2))
def rW (l:List bl):Bool:=
 bf 0 l.length (fun i=>(decide (0≤(l.getD i aC.aa).1)&&decide (0≤(l.getD i aC.aa).2))&&(i==0|| !lL (l.getD i aC.aa) (l.getD ((i-1)/2) aC.aa)))&&decide (l.length≤16)
abbrev Az (c:bc):List ai:=c.2
def bL (p:aG):List ai:=p.2.2.flatMap Az
def cW (l:List aG):List ai:=l.flatMap bL
def oH (l:List aG):Nat:=(cW l).length
def nM (p:aG) (f:Int):Option Nat:=qP p.2.2.length (fun i=>decide ((p.2.2.getD i ay.aa).1=f))
def iX:ai:=([],0,0,ByteArray.empty)
def qo (k:Nat) (p:aG) (s:List aj):ai×Bool:=
 match nM p (jh k s)with
 |none=>(iX,false)
 |some i=>match mV (p.2.2.getD i ay.aa).2 s with
  |none=>(iX,false)
  |some j=>((p.2.2.getD i ay.aa).2.getD j ab.aa,true)
def mG (k:Nat) (l:List aG) (s:List aj):Int:=dW (jh k s) l.length
def gQ (k:Nat) (l:List aG) (s:List aj):ai×Bool:=if l.length=0 then(iX,false)else qo k (l.getD (mG k l s).toNat aq.aa) s
def Ho (c:cg) (g:aJ):Int:=IntKind.i64.wrap (if g.2.2.2.1= -1 then g.2.2.1+c.2.2.2.1 else g.2.2.2.1+c.2.2.2.2.1)
theorem fi {α β:Type} {f:α→List β} {l:List α} {i:Nat} (d:α) (h:i<l.length):(l.take (i+1)).flatMap f=(l.take i).flatMap f++f (l.getD i d):=by
 rw[fS d h,List.flatMap_append];simp
section
variable {k:Nat} (hk:9223372036854775808≤k)
include hk
theorem pJ {e f:Ty} {g:e.den→List f.den} (h:∀x,ag (.sl f) (g x)≤ag e x):∀l:List e.den,ag (.sl f) (l.flatMap g)≤ag (.sl e) l
 | []=>by simp[ag]
 |x::l=>by
  have h1:=h x
  have h2:=pJ h l
  rw[List.flatMap_cons,JJ,fy]
  omega
theorem kP (p:aG):ag (.sl ab) (bL p)≤ag aq p:=by
 rw[dL hk]
 exact pJ hk (e:=ay) (f:=ab) (g:=Az) (fun c=>by rw[ep hk];exact Nat.le_refl _) p.2.2
theorem fj (l:List aG):ag (.sl ab) (cW l)≤ag (.sl aq) l:=pJ hk (e:=aq) (f:=ab) (g:=bL) (kP hk) l
theorem lg {p:aG} {i:Nat} (hs:ag aq p≤1048576) (hi:i<p.2.2.length):ag ay (p.2.2.getD i ay.aa)≤1048576∧ag (.sl ab) (p.2.2.getD i ay.aa).2≤1048576:=by
 rw[dL hk]at hs
 have h1:=sP (e:=ay) (d:=ay.aa) hi
 have h2:=ep hk (p.2.2.getD i ay.aa)
 omega
theorem JZ {p:aG} {i n:Int} (hs:ag aq p≤1048576):mW k (p,i,n,())=some (jF k p i n,()):=by
 have hl:p.2.2.length≤1048576:=by rw[dL hk]at hs;have:=aA (e:=ay) (l:=p.2.2);omega
 simp only[mW,aO]
 refine(bN (fun j:Nat=>(i,n,p,p.2.2,(p.2.2.length:Int),(j:Int),())) (fun j=>fV k (p.2.2.getD j ay.aa)&&(decide (dW (p.2.2.getD j ay.aa).1 n=i)&&xr p.2.2 j)) p.2.2.length
  (e:=some (bK p.1 (-1) 4&&decide (0≤p.2.1),())) (no:=some (false,())) ?_ ?_ k 0 (by omega)).trans ?_
 ·intro G j hj
  obtain⟨h1,_⟩:=lg hk hs hj
  cases j with
  |zero=>
   simp only[aw,aK hj,hj,RX,decide_true,if_true,Int.toNat_natCast,ue hk h1,lF hk,Option.bind_some,bM,beq_self_eq_true,Bool.false_eq_true,if_false,xr,Bool.true_or,Bool.and_true]
   rw[bd (by omega)]
   generalize fV k (p.2.2.getD 0 ay.aa)=b1
   generalize dW (p.2.2.getD 0 ay.aa).1 n=f
   cases b1<;>by_cases hf:f=i<;>simp[hf]
  |succ m=>
   have hm:m<p.2.2.length:=by omega
   simp only[aw,aK hj,aK hm,hj,Nf,Fg (show m<4611686018427387904 by omega),decide_true,if_true,Int.toNat_natCast,ue hk h1,lF hk,Option.bind_some,bM,beq_self_eq_true,xr,Bool.or_true,Nat.add_sub_cancel]
   rw[bd (by omega)]
   generalize fV k (p.2.2.getD (m+1) ay.aa)=b1
   generalize dW (p.2.2.getD (m+1) ay.aa).1 n=f
   generalize (p.2.2.getD m ay.aa).1=u
   generalize (p.2.2.getD (m+1) ay.aa).1=v
   have hb:((m+1:Nat)==0)=false:=rfl
   rw[hb]
   cases b1<;>by_cases hf:f=i<;>by_cases huv:u<v<;>simp[hf,huv]<;>omega
 ·intro G j hj
  simp only[aw]
  rw[if_neg (by simp;omega),ew hk,Option.bind_some]
  generalize bK p.1 (-1) 4=b
  cases b<;>simp
 ·unfold jF
  cases bf 0 p.2.2.length (fun j=>fV k (p.2.2.getD j ay.aa)&&(decide (dW (p.2.2.getD j ay.aa).1 n=i)&&xr p.2.2 j))<;>simp
theorem JV {p:aG} {i n:Int} (hs:ag aq p≤1048576):mU k (p,i,n,())=some (jF k p i n,()):=by
 have hl:p.2.2.length≤1048576:=by rw[dL hk]at hs;have:=aA (e:=ay) (l:=p.2.2);omega
 simp only[mU,aO]
 refine(bN (fun j:Nat=>(i,n,p,(j:Int),())) (fun j=>fV k (p.2.2.getD j ay.aa)&&(decide (dW (p.2.2.getD j ay.aa).1 n=i)&&xr p.2.2 j)) p.2.2.length
  (e:=some (bK p.1 (-1) 4&&decide (0≤p.2.1),())) (no:=some (false,())) ?_ ?_ k 0 (by omega)).trans ?_
 ·intro G j hj
  obtain⟨h1,_⟩:=lg hk hs hj
  cases j with
  |zero=>
   simp only[aw,aK hj,hj,RX,decide_true,if_true,Int.toNat_natCast,uS hk h1,iF hk,Option.bind_some,bM,beq_self_eq_true,Bool.false_eq_true,if_false,xr,Bool.true_or,Bool.and_true,Bool.or_true,Bool.and_false,Bool.not_false]
   rw[bd (by omega)]
   generalize fV k (p.2.2.getD 0 ay.aa)=b1
   generalize dW (p.2.2.getD 0 ay.aa).1 n=f
   cases b1<;>by_cases hf:f=i<;>simp[hf]
  |succ m=>
   have hm:m<p.2.2.length:=by omega
   simp only[aw,aK hj,aK hm,hj,Nf,Fg (show m<4611686018427387904 by omega),decide_true,if_true,Int.toNat_natCast,uS hk h1,iF hk,Option.bind_some,bM,beq_self_eq_true,xr,Bool.or_true,Nat.add_sub_cancel]
   rw[bd (by omega)]
   generalize fV k (p.2.2.getD (m+1) ay.aa)=b1
   generalize dW (p.2.2.getD (m+1) ay.aa).1 n=f
   generalize (p.2.2.getD m ay.aa).1=u
   generalize (p.2.2.getD (m+1) ay.aa).1=v
   have hb:((m+1:Nat)==0)=false:=rfl
   rw[hb]
   cases b1<;>by_cases hf:f=i<;>by_cases huv:u<v<;>simp[hf,huv]<;>omega
 ·intro G j hj
  simp only[aw]
  rw[if_neg (by simp;omega),fg hk,Option.bind_some]
  generalize bK p.1 (-1) 4=b
  cases b<;>simp
 ·unfold jF
  cases bf 0 p.2.2.length (fun j=>fV k (p.2.2.getD j ay.aa)&&(decide (dW (p.2.2.getD j ay.aa).1 n=i)&&xr p.2.2 j))<;>simp
theorem jZ {l:List aG} {i:Nat} (hs:ag (.sl aq) l≤1048576) (hi:i<l.length):ag aq (l.getD i aq.aa)≤1048576:=by
 have h1:=sP (e:=aq) (d:=aq.aa) hi
 omega
theorem Hy {l:List aG} (hs:ag (.sl aq) l≤1048576):lD k (l,())=some (iU k l,()):=by
 have hl:=aA (e:=aq) (l:=l)
 simp only[lD]
 rw[ew hk,Option.bind_some]
 unfold iU
 cases hin:bK l.length 1 3 with
 |false=>simp
 |true=>
  rw[if_neg (by simp)]
  refine(bN (fun i:Nat=>(l,l,(l.length:Int),(i:Int),())) (fun i=>jF k (l.getD i aq.aa) i l.length) l.length (e:=some (true,())) (no:=some (false,())) ?_ ?_ k 0 (by omega)).trans ?_
  ·intro G i hi
   simp only[aw,aK hi,hi,decide_true,if_true,Int.toNat_natCast,JZ hk (jZ hk hs hi),Option.bind_some]
   rw[bd (by omega)]
   cases jF k (l.getD i aq.aa) i l.length<;>simp
  ·intro G i hi
   simp only[aw]
   rw[if_neg (by simp;omega)]
  ·cases bf 0 l.length (fun i=>jF k (l.getD i aq.aa) i l.length)<;>simp
theorem Ey {l:List aG} (hs:ag (.sl aq) l≤1048576):lP k (l,())=some (iU k l,()):=by
 have hl:=aA (e:=aq) (l:=l)
 simp only[lP,aO]
 unfold iU
 refine(bN (fun i:Nat=>(l,(i:Int),())) (fun i=>jF k (l.getD i aq.aa) i l.length) l.length (e:=some (bK l.length 1 3,())) (no:=some (false,())) ?_ ?_ k 0 (by omega)).trans ?_
 ·intro G i hi
  simp only[aw,aK hi,hi,decide_true,if_true,Int.toNat_natCast,JV hk (jZ hk hs hi),Option.bind_some]
  rw[bd (by omega)]
  cases jF k (l.getD i aq.aa) i l.length<;>simp
 ·intro G i hi
  simp only[aw]
  rw[if_neg (by simp;omega),fg hk,Option.bind_some]
 ·cases bf 0 l.length (fun i=>jF k (l.getD i aq.aa) i l.length)<;>simp
theorem ta {p:aG} (hs:ag aq p≤1048576):gZ k (p,())=some (bL p,()):=by
 have hl:p.2.2.length≤1048576:=by rw[dL hk]at hs;have:=aA (e:=ay) (l:=p.2.2);omega
 simp only[gZ]
 refine cD (fun i:Nat=>(p,(p.2.2.take i).flatMap Az,(i:Int),())) p.2.2.length (fun G i hi=> ?_) (fun G=> ?_) k 0 (by omega) (by omega)
 ·obtain⟨h1,h2⟩:=lg hk hs hi
  have hb:=pJ hk (e:=ay) (f:=ab) (g:=Az) (fun c=>by rw[ep hk];exact Nat.le_refl _) (p.2.2.take i)
  have hb2:=gf (e:=ay) p.2.2 i
  have hb3:=aA (e:=ab) (l:=(p.2.2.take i).flatMap Az)
  have hb4:=aA (e:=ab) (l:=(p.2.2.getD i ay.aa).2)
  rw[dL hk]at hs
  simp only[aw,aK hi,hi,decide_true,if_true,Int.toNat_natCast]
  rw[jj hk (by omega),Option.bind_some,if_pos (by simp only[decide_eq_true_eq];omega),bd (by omega),fi ay.aa hi]
 ·simp[bL]
theorem rQ {p:aG} (hs:ag aq p≤1048576):gX k (p,())=some (bL p,()):=by
 have hl:p.2.2.length≤1048576:=by rw[dL hk]at hs;have:=aA (e:=ay) (l:=p.2.2);omega
 simp only[gX]
 refine cD (fun i:Nat=>(p,(p.2.2.take i).flatMap Az,p.2.2,(p.2.2.length:Int),(i:Int),())) p.2.2.length (fun G i hi=> ?_) (fun G=> ?_) k 0 (by omega) (by omega)
 ·obtain⟨h1,h2⟩:=lg hk hs hi
  have hb:=pJ hk (e:=ay) (f:=ab) (g:=Az) (fun c=>by rw[ep hk];exact Nat.le_refl _) (p.2.2.take i)
  have hb2:=gf (e:=ay) p.2.2 i
  have hb3:=aA (e:=ab) (l:=(p.2.2.take i).flatMap Az)
  have hb4:=aA (e:=ab) (l:=(p.2.2.getD i ay.aa).2)
  rw[dL hk]at hs
  simp only[aw,aK hi,hi,decide_true,if_true,Int.toNat_natCast]
  rw[dX hk (by omega),Option.bind_some,if_pos (by simp only[decide_eq_true_eq];omega),bd (by omega),fi ay.aa hi]
 ·simp[bL]
end
end Vg.Tryz
namespace Vg.Tryz
open Go Vg
set_option linter.unusedVariables false
set_option linter.unusedSectionVars false
set_option linter.unusedSimpArgs false
theorem KE {α:Type} (lt:α→α→Bool) (x:α):∀r:List α,dh lt x r=r.takeWhile (lt x)++x::r.dropWhile (lt x)
 | []=>rfl
 |y::r=>by
  simp only[dh,List.takeWhile_cons,List.dropWhile_cons]
  split
  ·rw[KE lt x r];rfl
  ·rfl
theorem zM {α:Type} (p:α→Bool) (d:α):∀(r:List α) (m:Nat),m<(r.takeWhile p).length→p (r.getD m d)=true
 | [],m,h=>by simp at h
 |y::r,m,h=>by
  rw[List.takeWhile_cons]at h
  split at h
  ·cases m with
   |zero=>simpa
   |succ m=>rw[List.getD_cons_succ];exact zM p d r m (by simpa using h)
  ·simp at h
theorem yY {α:Type} (p:α→Bool) (d:α):∀(r:List α),(r.takeWhile p).length<r.length→p (r.getD (r.takeWhile p).length d)=false
 | [],h=>by simp at h
 |y::r,h=>by
  rw[List.takeWhile_cons]at h⊢
  split
  ·rename_i hp
   rw[if_pos hp]at h
   simp only[List.length_cons,List.getD_cons_succ]
   exact yY p d r (by simpa using h)
  ·simpa using ‹¬p y=true›
theorem Mz {α:Type} (d:α) (l:List α) (m:Nat) (h:m<l.length):l.reverse.getD m d=l.getD (l.length-1-m) d:=by
 rw[List.getD_eq_getElem?_getD,List.getElem?_reverse h,←List.getD_eq_getElem?_getD]
def eM {α:Type} (lt:α→α→Bool) (x:α) (out:List α):Nat:=(out.reverse.takeWhile (lt x)).length
theorem S1 {α:Type} (lt:α→α→Bool) (x:α) (r:List α):(dh lt x r).reverse=r.reverse.take (r.reverse.length-eM lt x r.reverse)++[x]++r.reverse.drop (r.reverse.length-eM lt x r.reverse):=by
 have hc:(r.takeWhile (lt x)).length≤r.length:=(List.takeWhile_sublist _).length_le
 have hc2:eM lt x r.reverse=(r.takeWhile (lt x)).length:=by unfold eM;rw[List.reverse_reverse]
 have hl:r.reverse.length=r.length:=List.length_reverse ..
 rw[KE,hc2,hl,List.take_reverse,List.drop_reverse]
 have e1:r.length-(r.length-(r.takeWhile (lt x)).length)=(r.takeWhile (lt x)).length:=by omega
 rw[e1]
 have e2:r.drop (r.takeWhile (lt x)).length=r.dropWhile (lt x):=by
  conv=>lhs;arg 2;rw[←List.takeWhile_append_dropWhile (p:=lt x) (l:=r)]
  rw[List.drop_left]
 have e3:r.take (r.takeWhile (lt x)).length=r.takeWhile (lt x):=by
  conv=>lhs;arg 2;rw[←List.takeWhile_append_dropWhile (p:=lt x) (l:=r)]
  rw[List.take_left]
 rw[e2,e3]
 simp
def pU {α:Type} (lt:α→α→Bool) (l:List α):List α:=l.foldl (fun r x=>dh lt x r) []
theorem FL {α:Type} (lt:α→α→Bool) (x:α):∀r:List α,(dh lt x r).length=r.length+1
 | []=>rfl
 |y::r=>by simp only[dh];split<;>simp[FL lt x r]
theorem PT {α:Type} (lt:α→α→Bool) {l:List α} {i:Nat} (d:α) (h:i<l.length):pU lt (l.take (i+1))=dh lt (l.getD i d) (pU lt (l.take i)):=by
 unfold pU
 rw[fS d h,List.foldl_append];rfl
theorem KH {α:Type} (lt:α→α→Bool) (l:List α):(pU lt l).length=l.length:=by
 have:∀(l r:List α),(l.foldl (fun r x=>dh lt x r) r).length=l.length+r.length:=by
  intro l
  induction l with
  |nil=>intro r;simp
  |cons x l ih=>intro r;rw[List.foldl_cons,ih,FL,List.length_cons];omega
 simpa[pU]using this l []
theorem FH {e:Ty} (lt:e.den→e.den→Bool) (x:e.den):∀r:List e.den,ag (.sl e) (dh lt x r)=1+ag e x+ag (.sl e) r
 | []=>by simp only[dh];rw[fy]
 |y::r=>by
  simp only[dh]
  split
  ·rw[fy,fy,FH lt x r];omega
  ·rw[fy,fy]
theorem Rr {e:Ty} (lt:e.den→e.den→Bool) (l:List e.den):ag (.sl e) (pU lt l)=ag (.sl e) l:=by
 have:∀(l r:List e.den),ag (.sl e) (l.foldl (fun r x=>dh lt x r) r)=ag (.sl e) l+ag (.sl e) r:=by
  intro l
  induction l with
  |nil=>intro r;simp[ag]
  |cons x l ih=>intro r;rw[List.foldl_cons,ih,FH,fy];omega
 have h:=this l []
 rw[PD]at h
 exact h
theorem Ts {e:Ty} (l:List e.den):ag (.sl e) l.reverse=ag (.sl e) l:=by
 simp only[ag,List.length_reverse,List.map_reverse,List.sum_reverse]
theorem PO {e:Ty} (lt:e.den→e.den→Bool) (l:List e.den):ag (.sl e) (eO lt l)=ag (.sl e) l:=by
 show ag (.sl e) (pU lt l).reverse=_
 rw[Ts,Rr]
theorem Rh (l:List ai):ag (.sl ab) (du l)=ag (.sl ab) l:=PO (e:=ab) cO l
section
variable {k:Nat} (hk:9223372036854775808≤k)
include hk
theorem R8 {l:List ai} (hs:ag (.sl ab) l≤1048576):jL k (l,())=some (du l,()):=by
 have hl:=aA (e:=ab) (l:=l)
 simp only[jL]
 refine cD (fun i:Nat=>(l,(pU cO (l.take i)).reverse,(i:Int),())) l.length (fun G i hi=> ?_) (fun G=> ?_) k 0 (by omega) (by omega)
 ·obtain⟨h1,h2⟩:=gp hk hs hi
  simp only[aw,aK hi,hi,decide_true,if_true,Int.toNat_natCast]
  rw[kJ hk (by omega),Option.bind_some,PT cO ab.aa hi,S1]
  generalize hx:l.getD i ab.aa=x at*
  have hol:(pU cO (l.take i)).reverse.length=i:=by rw[List.length_reverse,KH];simp;omega
  generalize hout:(pU cO (l.take i)).reverse=out at*
  have hcl:eM cO x out≤out.length:=by
   unfold eM
   have:=(List.takeWhile_sublist (cO x) (l:=out.reverse)).length_le
   simpa using this
  simp only[aO]
  refine cD (fun m:Nat=>(l,out,(i:Int),x,((out.length-m:Nat):Int),())) (eM cO x out) (fun G2 m hm=> ?_) (fun G2=> ?_) k 0 (by omega) (by omega)
  ·have hlt:cO x (out.getD (out.length-1-m) ab.aa)=true:=by
    have:=zM (cO x) ab.aa out.reverse m hm
    rwa [Mz _ _ _ (by omega)]at this
   obtain⟨q,hq⟩:∃q,out.length-m=q+1:=⟨out.length-m-1,by omega⟩
   have hq2:out.length-(m+1)=q:=by omega
   have hq3:out.length-1-m=q:=by omega
   rw[hq3]at hlt
   simp only[hq,Nf,Fg (show q<4611686018427387904 by omega),aK (show q<out.length by omega),Bool.or_true,if_true,beq_self_eq_true,Int.toNat_natCast,oT hk h2,oA hk h2,Option.bind_some,hq2]
   rw[if_pos hlt]
  ·have hend:(if decide (((out.length-eM cO x out:Nat):Int)>0)=true then cO x (out.getD (out.length-eM cO x out-1) ab.aa)else false)=false:=by
    by_cases h0:eM cO x out=out.length
    ·rw[h0,Nat.sub_self];rfl
    ·rw[if_pos (by simp;omega)]
     have:=yY (cO x) ab.aa out.reverse (by rw[List.length_reverse];unfold eM at h0 hcl;omega)
     rw[Mz _ _ _ (by unfold eM at h0 hcl;omega)]at this
     unfold eM
     rw[show out.length-(List.takeWhile (cO x) out.reverse).length-1=out.length-1-(List.takeWhile (cO x) out.reverse).length by omega]
     exact this
   have fin:(if(decide (0≤(((out.length-eM cO x out:Nat):Int))∧(((out.length-eM cO x out:Nat):Int))≤((List.length out:Nat):Int)))=true then
    if(decide (List.length ([]:List ai)+List.length (List.take (Int.toNat ((out.length-eM cO x out:Nat):Int)) out)<4294967296))=true then
     if(decide (List.length (([]:List ai)++(List.take (Int.toNat ((out.length-eM cO x out:Nat):Int)) out))+List.length ([x]:List ai)<4294967296))=true then
      if(decide (0≤(((out.length-eM cO x out:Nat):Int))∧(((out.length-eM cO x out:Nat):Int))≤((List.length out:Nat):Int)))=true then
       if(decide (List.length ((([]:List ai)++(List.take (Int.toNat ((out.length-eM cO x out:Nat):Int)) out))++([x]:List ai))+List.length (List.drop (Int.toNat ((out.length-eM cO x out:Nat):Int)) out)<4294967296))=true then
        G (l,((([]:List ai)++(List.take (Int.toNat ((out.length-eM cO x out:Nat):Int)) out))++([x]:List ai))++(List.drop (Int.toNat ((out.length-eM cO x out:Nat):Int)) out),IntKind.i64.wrap ((i:Int)+(1:Int)),())
       else none
      else none
     else none
    else none
    else none)=G (l,out.take (out.length-eM cO x out)++[x]++out.drop (out.length-eM cO x out),((i+1:Nat):Int),()):=by
    rw[if_pos (by simp only[decide_eq_true_eq];omega),if_pos (by simp only[decide_eq_true_eq,List.length_nil,List.length_take];omega),if_pos (by simp only[decide_eq_true_eq,List.length_append,List.length_nil,List.length_take,List.length_singleton];omega),if_pos (by simp only[decide_eq_true_eq];omega),if_pos (by simp only[decide_eq_true_eq,List.length_append,List.length_nil,List.length_take,List.length_singleton,List.length_drop];omega),bd (by omega),Int.toNat_natCast,List.nil_append]
   by_cases hz:out.length-eM cO x out=0
   ·rw[hz]at fin⊢
    simp only[RX,Bool.false_eq_true,if_false,beq_self_eq_true,Bool.false_eq_true,Bool.not_false,Bool.true_or,if_true,Option.bind_some]
    have hg:(!((false:Bool)==true)||decide (0≤IntKind.i64.wrap (((0:Nat):Int)-1)∧IntKind.i64.wrap (((0:Nat):Int)-1)<((out.length:Nat):Int)))=true:=rfl
    rw[if_pos hg]
    exact fin
   ·obtain⟨q,hq⟩:∃q,out.length-eM cO x out=q+1:=⟨out.length-eM cO x out-1,by omega⟩
    rw[hq]at hend fin⊢
    rw[Nf,if_pos rfl,Nat.add_sub_cancel]at hend
    simp only[Nf,Fg (show q<4611686018427387904 by omega),aK (show q<out.length by omega),Bool.or_true,if_true,beq_self_eq_true,Int.toNat_natCast,oA hk h2,Option.bind_some]
    have hend2:bV x.1 (out.getD q ab.aa).1=false:=hend
    rw[if_neg (by rw[hend2];simp)]
    exact fin
 ·simp only[aw,Nat.lt_irrefl,decide_false,Bool.false_eq_true,if_false,List.take_length]
  rfl
end
end Vg.Tryz
namespace Vg.Tryz
open Go Vg
set_option linter.unusedVariables false
set_option linter.unusedSectionVars false
set_option linter.unusedSimpArgs false
theorem sJ {β:Type} {c:Bool} {a b:β} (h:c=false):(if c=true then a else b)=b:=by rw[h];rfl
theorem UT {a b:Nat} (h:a+b<4611686018427387904):IntKind.i64.wrap ((a:Int)+(b:Int))=((a+b:Nat):Int):=by
 rw[wrap64 (by omega) (by omega)];omega
theorem rI (u:Int):decide (0≤u)= !decide (u<0):=by by_cases h:u<0<;>simp[h]<;>omega
theorem Ks {q:Nat} (h:q<4611686018427387904):IntKind.i64.wrap (Int.tdiv (IntKind.i64.wrap (((q+1:Nat):Int)-1)) 2)=((q/2:Nat):Int):=by
 rw[Fg h,Int.tdiv_eq_ediv_of_nonneg (by omega),wrap64 (by omega) (by omega)]
 omega
section
variable {k:Nat} (hk:9223372036854775808≤k)
include hk
theorem Bk {l:List aG} (hs:ag (.sl aq) l≤1048576):jn k (l,())=some (du (cW l),()):=by
 have hl:=aA (e:=aq) (l:=l)
 simp only[jn,aO]
 refine cD (fun i:Nat=>(l,(l.take i).flatMap bL,(i:Int),())) l.length (fun G i hi=> ?_) (fun G=> ?_) k 0 (by omega) (by omega)
 ·have h1:=jZ hk hs hi
  have hb:=fj hk (l.take i)
  unfold cW at hb
  have hb1:=kP hk (l.getD i aq.aa)
  have hb2:=gf (e:=aq) l i
  have hb3:=aA (e:=ab) (l:=(l.take i).flatMap bL)
  have hb4:=aA (e:=ab) (l:=bL (l.getD i aq.aa))
  simp only[aw,aK hi,hi,decide_true,if_true,Int.toNat_natCast]
  rw[ta hk h1,Option.bind_some,if_pos (by simp only[decide_eq_true_eq];omega),bd (by omega),fi aq.aa hi]
 ·have hb:=fj hk l
  simp only[aw,Nat.lt_irrefl,decide_false,Bool.false_eq_true,if_false,List.take_length]
  show Option.bind (jL k (cW l,())) _=_
  rw[R8 hk (by omega)]
  rfl
theorem BS {l:List aG} (hs:ag (.sl aq) l≤1048576) (hn:oH l<20):jz k (l,())=some (du (cW l),()):=by
 have hl:=aA (e:=aq) (l:=l)
 simp only[jz,aO]
 refine cD (fun i:Nat=>((l.take i).flatMap bL,l,(l.length:Int),(i:Int),())) l.length (fun G i hi=> ?_) (fun G=> ?_) k 0 (by omega) (by omega)
 ·have h1:=jZ hk hs hi
  have hb:=fj hk (l.take i)
  unfold cW at hb
  have hb1:=kP hk (l.getD i aq.aa)
  have hb2:=gf (e:=aq) l i
  have hb3:=aA (e:=ab) (l:=(l.take i).flatMap bL)
  have hb4:=aA (e:=ab) (l:=bL (l.getD i aq.aa))
  simp only[aw,aK hi,hi,decide_true,if_true,Int.toNat_natCast]
  rw[rQ hk h1,Option.bind_some,if_pos (by simp only[decide_eq_true_eq];omega),bd (by omega),fi aq.aa hi]
 ·simp only[aw,Nat.lt_irrefl,decide_false,Bool.false_eq_true,if_false,List.take_length]
  show Option.bind (kD k (cW l,())) _=_
  simp only[kD,s9]
  rw[if_pos ?_]
  ·rfl
  ·simp only[Bool.and_eq_true,decide_eq_true_eq,List.all_eq_true]
   refine⟨hn,fun a ha=> ?_⟩
   have hb:=fj hk l
   have hm:=bo (e:=ab) ha
   have h1:=cr hk a
   have h2:=aA (e:=af) (l:=a.1)
   omega
theorem Kk {l:List aG} (hs:ag (.sl aq) l≤1048576):oH l≤1048576:=by
 have h1:=fj hk l
 have h2:=aA (e:=ab) (l:=cW l)
 unfold oH
 omega
theorem Ft {l:List aG} (hs:ag (.sl aq) l≤1048576):lG k (l,())=some ((oH l:Int),()):=by
 have hl:=aA (e:=aq) (l:=l)
 simp only[lG]
 refine cD (fun i:Nat=>(((((l.take i).flatMap bL).length:Nat):Int),l,(l.length:Int),(i:Int),())) l.length (fun G i hi=> ?_) (fun G=> ?_) k 0 (by omega) (by omega)
 ·have h1:=jZ hk hs hi
  have hb:=fj hk (l.take i)
  unfold cW at hb
  have hb2:=gf (e:=aq) l i
  have hb3:=aA (e:=ab) (l:=(l.take i).flatMap bL)
  rw[fi aq.aa hi,List.length_append]
  simp only[aw,aK hi,hi,decide_true,if_true,Int.toNat_natCast]
  have hp:=h1
  rw[dL hk]at hp
  have hpl:=aA (e:=ay) (l:=(l.getD i aq.aa).2.2)
  refine cD (fun j:Nat=>(((((l.take i).flatMap bL).length+(((l.getD i aq.aa).2.2.take j).flatMap Az).length:Nat):Int),l.getD i aq.aa,l,(l.length:Int),(i:Int),(l.getD i aq.aa).2.2,((l.getD i aq.aa).2.2.length:Int),(j:Int),())) (l.getD i aq.aa).2.2.length (fun G2 j hj=> ?_) (fun G2=> ?_) k 0 (by omega) (by omega)
  ·have hc:=pJ hk (e:=ay) (f:=ab) (g:=Az) (fun c=>by rw[ep hk];exact Nat.le_refl _) ((l.getD i aq.aa).2.2.take j)
   have hc1:=gf (e:=ay) (l.getD i aq.aa).2.2 j
   have hc2:=aA (e:=ab) (l:=((l.getD i aq.aa).2.2.take j).flatMap Az)
   obtain⟨h3,h4⟩:=lg hk h1 hj
   have hc3:=aA (e:=ab) (l:=((l.getD i aq.aa).2.2.getD j ay.aa).2)
   simp only[aK hj,aw,hj,decide_true,if_true,Int.toNat_natCast]
   rw[UT (by omega),bd (by omega),fi ay.aa hj,List.length_append,Nat.add_assoc]
  ·simp only[aw,Nat.lt_irrefl,decide_false,Bool.false_eq_true,if_false,List.take_length]
   rw[bd (by omega)]
   rfl
 ·simp only[aw,Nat.lt_irrefl,decide_false,Bool.false_eq_true,if_false,List.take_length]
  rfl
theorem EC {p:aG} {f:Int} (hl:p.2.2.length≤1048576):pY k (p,f,())=some (pk (nM p f),()):=by
 simp only[pY]
 refine(uB (fun i:Nat=>(f,p,(i:Int),())) (fun i=>decide ((p.2.2.getD i ay.aa).1=f)) p.2.2.length (e:=some (-1,())) (fun i=>some ((i:Int),())) (fun G i hi=> ?_) (fun G=> ?_) k (by omega)).trans ?_
 ·simp only[aw,aK hi,hi,decide_true,if_true,Int.toNat_natCast,bY]
  rw[bd (by omega)]
 ·simp
 ·unfold nM
  cases qP p.2.2.length (fun i=>decide ((p.2.2.getD i ay.aa).1=f))<;>rfl
theorem Gz {p:aG} {f:Int} (hl:p.2.2.length≤1048576):lR k (p,f,())=some (pk (nM p f),()):=by
 simp only[lR]
 refine(uB (fun i:Nat=>(f,p,p.2.2,(p.2.2.length:Int),(i:Int),())) (fun i=>decide ((p.2.2.getD i ay.aa).1=f)) p.2.2.length (e:=some (-1,())) (fun i=>some ((i:Int),())) (fun G i hi=> ?_) (fun G=> ?_) k (by omega)).trans ?_
 ·simp only[aw,aK hi,hi,decide_true,if_true,Int.toNat_natCast,bY]
  rw[bd (by omega)]
 ·simp
 ·unfold nM
  cases qP p.2.2.length (fun i=>decide ((p.2.2.getD i ay.aa).1=f))<;>rfl
omit hk in
theorem uC (i:Nat):decide (pk (some i)<0)=false:=decide_eq_false (by simp only[pk];omega)
omit hk in
theorem rN {i n:Nat} (h:i<n):decide (0≤pk (some i)∧pk (some i)<(n:Int))=true:=by simp only[pk];exact aK h
omit hk in
theorem xN (i:Nat):(pk (some i)).toNat=i:=by simp[pk]
theorem IT {p:aG} {s:List aj} (hs:ag aq p≤1048576) (hl:ag (.sl af) s≤1048576):mS k (p,s,())=some ((qo k p s).1,(qo k p s).2,()):=by
 have hpl:p.2.2.length≤1048576:=by rw[dL hk]at hs;have:=aA (e:=ay) (l:=p.2.2);omega
 simp only[mS,iE hk hl,EC hk hpl,Option.bind_some,qo]
 cases hc:nM p (jh k s)with
 |none=>rfl
 |some i=>
  obtain⟨hi,_,_⟩:=ln.1 hc
  obtain⟨h1,h2⟩:=lg hk hs hi
  refine(sJ (uC i)).trans ?_
  refine(if_pos (rN hi)).trans ?_
  rw[xN,Gc hk h2,Option.bind_some]
  dsimp only
  cases hq:mV (p.2.2.getD i ay.aa).2 s with
  |none=>rfl
  |some j=>
   obtain⟨hj,_,_⟩:=ln.1 hq
   have h3:=sP (e:=ab) (d:=ab.aa) hj
   refine(sJ (uC j)).trans ?_
   refine(if_pos (rN hi)).trans ?_
   refine(if_pos (rN hj)).trans ?_
   rw[xN,kJ hk (by omega)]
   rfl
theorem HO {p:aG} {s:List aj} (hs:ag aq p≤1048576) (hl:ag (.sl af) s≤1048576):mT k (p,s,())=some ((qo k p s).1,(qo k p s).2,()):=by
 have hpl:p.2.2.length≤1048576:=by rw[dL hk]at hs;have:=aA (e:=ay) (l:=p.2.2);omega
 simp only[mT,iy hk hl,Gz hk hpl,Option.bind_some,qo]
 cases hc:nM p (jh k s)with
 |none=>rfl
 |some i=>
  obtain⟨hi,_,_⟩:=ln.1 hc
  obtain⟨h1,h2⟩:=lg hk hs hi
  refine(sJ (uC i)).trans ?_
  refine(if_pos (rN hi)).trans ?_
  rw[xN,GK hk h2,Option.bind_some]
  dsimp only
  cases hq:mV (p.2.2.getD i ay.aa).2 s with
  |none=>rfl
  |some j=>
   obtain⟨hj,_,_⟩:=ln.1 hq
   have h3:=sP (e:=ab) (d:=ab.aa) hj
   refine(sJ (uC j)).trans ?_
   refine(if_pos (rN hi)).trans ?_
   refine(if_pos (rN hj)).trans ?_
   rw[xN,lp hk (by omega)]
   rfl
theorem Jd {l:List aG} {s:List aj} (hl:ag (.sl af) s≤1048576):mM k (l,s,())=some (mG k l s,()):=by
 simp only[mM,iE hk hl,iF hk,Option.bind_some,mG]
theorem Jl {l:List aG} {s:List aj} (hl:ag (.sl af) s≤1048576):mI k (l,s,())=some (mG k l s,()):=by
 simp only[mI,iy hk hl,lF hk,Option.bind_some,mG]
omit hk in
theorem zX {l:List aG} {s:List aj} (h:l.length≠0):0≤mG k l s∧mG k l s<(l.length:Int)∧(mG k l s).toNat<l.length:=by
 have:=Ha (f:=jh k s) (n:=(l.length:Int)) (by omega)
 unfold mG
 omega
theorem BL {l:List aG} {s:List aj} (hs:ag (.sl aq) l≤1048576) (hl:ag (.sl af) s≤1048576):jx k (l,s,())=some ((gQ k l s).1,(gQ k l s).2,()):=by
 simp only[jx,Jd hk hl,Option.bind_some,gQ]
 by_cases h0:l.length=0
 ·rw[if_pos (by simpa using h0),if_pos h0];rfl
 ·obtain⟨a,b,c⟩:=zX (k:=k) (l:=l) (s:=s) h0
  rw[if_neg (by simpa using h0),if_pos (by simpa using⟨a,b⟩),IT hk (jZ hk hs c) hl,Option.bind_some,if_neg h0]
theorem BE {l:List aG} {s:List aj} (hs:ag (.sl aq) l≤1048576) (hl:ag (.sl af) s≤1048576):js k (l,s,())=some ((gQ k l s).1,(gQ k l s).2,()):=by
 simp only[js,Jl hk hl,Option.bind_some,gQ]
 by_cases h0:l.length=0
 ·rw[if_pos (by simpa using h0),if_pos h0];rfl
 ·obtain⟨a,b,c⟩:=zX (k:=k) (l:=l) (s:=s) h0
  rw[if_neg (by simpa using h0),if_pos (by simpa using⟨a,b⟩),HO hk (jZ hk hs c) hl,Option.bind_some,if_neg h0]
theorem Kr (a b:bl):ni k (a,b,())=some (lL a b,()):=by
 simp only[ni,lL,bY]
 by_cases h1:a.1<b.1<;>by_cases h2:a.1=b.1<;>simp[h1,h2]
theorem vA (a b:bl):mR k (a,b,())=some (lL a b,()):=by
 simp only[mR,lL,bY]
 by_cases h1:a.1<b.1<;>by_cases h2:a.1=b.1<;>simp[h1,h2]
theorem H7 {l:List bl} (hl:l.length≤1048576):mY k (l,())=some (rW l,()):=by
 simp only[mY,aO]
 refine(bN (fun i:Nat=>(l,l,(l.length:Int),(i:Int),())) (fun i=>(decide (0≤(l.getD i aC.aa).1)&&decide (0≤(l.getD i aC.aa).2))&&(i==0|| !lL (l.getD i aC.aa) (l.getD ((i-1)/2) aC.aa))) l.length
  (e:=some (decide (l.length≤16),())) (no:=some (false,())) ?_ ?_ k 0 (by omega)).trans ?_
 ·intro G i hi
  cases i with
  |zero=>
   simp only[aw,aK hi,hi,RX,decide_true,if_true,Int.toNat_natCast,Kr hk,Option.bind_some,bM]
   rw[bd (by omega)]
   simp only[rI]
   rcases Bool.eq_false_or_eq_true (decide ((l.getD 0 aC.aa).1<0))with h1|h1<;>rcases Bool.eq_false_or_eq_true (decide ((l.getD 0 aC.aa).2<0))with h2|h2<;>
    simp only[h1,h2,if_true,Bool.false_eq_true,if_false,beq_self_eq_true,Bool.and_false,Bool.and_true,Bool.true_and,Bool.false_and,Bool.not_false,Bool.not_true,Bool.true_or,Bool.or_true,Tg,Td,Bool.or_self,Bool.and_self]
  |succ q=>
   have hq:q/2<l.length:=by omega
   simp only[aw,aK hi,aK hq,hi,Nf,Ks (show q<4611686018427387904 by omega),decide_true,if_true,Int.toNat_natCast,Kr hk,Option.bind_some,bM,Bool.or_true,ne_eq,Nat.add_sub_cancel]
   rw[bd (by omega)]
   have hb:((q+1:Nat)==0)=false:=rfl
   rw[hb]
   have e2:decide (¬(2:Int)=0)=true:=rfl
   rw[e2]
   simp only[rI]
   rcases Bool.eq_false_or_eq_true (decide ((l.getD (q+1) aC.aa).1<0))with h1|h1<;>rcases Bool.eq_false_or_eq_true (decide ((l.getD (q+1) aC.aa).2<0))with h2|h2<;>
    rcases Bool.eq_false_or_eq_true (lL (l.getD (q+1) aC.aa) (l.getD (q/2) aC.aa))with h3|h3<;>
    simp only[h1,h2,h3,if_true,Bool.false_eq_true,if_false,beq_self_eq_true,Bool.and_false,Bool.and_true,Bool.true_and,Bool.false_and,Bool.not_false,Bool.not_true,Bool.true_or,Bool.or_true,Bool.or_false,Bool.false_or,Tg,Td,Bool.or_self,Bool.and_self]
 ·intro G i hi
  simp only[aw]
  rw[if_neg (by simp;omega)]
  congr 2
  rw[Bool.eq_iff_iff];simp;omega
 ·unfold rW
  generalize bf 0 l.length _=b
  cases b<;>simp
theorem Ip {l:List bl} (hl:l.length≤1048576):mK k (l,())=some (rW l,()):=by
 simp only[mK,aO]
 refine(bN (fun i:Nat=>(l,(i:Int),())) (fun i=>(decide (0≤(l.getD i aC.aa).1)&&decide (0≤(l.getD i aC.aa).2))&&(i==0|| !lL (l.getD i aC.aa) (l.getD ((i-1)/2) aC.aa))) l.length
  (e:=some (decide (l.length≤16),())) (no:=some (false,())) ?_ ?_ k 0 (by omega)).trans ?_
 ·intro G i hi
  cases i with
  |zero=>
   simp only[aw,aK hi,hi,RX,decide_true,if_true,Int.toNat_natCast,vA hk,Option.bind_some,bM,Bool.or_true]
   rw[bd (by omega)]
   simp only[rI]
   rcases Bool.eq_false_or_eq_true (decide ((l.getD 0 aC.aa).1<0))with h1|h1<;>rcases Bool.eq_false_or_eq_true (decide ((l.getD 0 aC.aa).2<0))with h2|h2<;>
    simp only[h1,h2,if_true,Bool.false_eq_true,if_false,beq_self_eq_true,Bool.and_false,Bool.and_true,Bool.true_and,Bool.false_and,Bool.not_false,Bool.not_true,Bool.true_or,Bool.or_true,Tg,Td,Bool.or_self,Bool.and_self]
  |succ q=>
   have hq:q/2<l.length:=by omega
   simp only[aw,aK hi,aK hq,hi,Nf,Ks (show q<4611686018427387904 by omega),decide_true,if_true,Int.toNat_natCast,vA hk,Option.bind_some,bM,Bool.or_true,ne_eq,Nat.add_sub_cancel]
   rw[bd (by omega)]
   have hb:((q+1:Nat)==0)=false:=rfl
   rw[hb]
   have e2:decide (¬(2:Int)=0)=true:=rfl
   rw[e2]
   simp only[rI]
   rcases Bool.eq_false_or_eq_true (decide ((l.getD (q+1) aC.aa).1<0))with h1|h1<;>rcases Bool.eq_false_or_eq_true (decide ((l.getD (q+1) aC.aa).2<0))with h2|h2<;>
    rcases Bool.eq_false_or_eq_true (lL (l.getD (q+1) aC.aa) (l.getD (q/2) aC.aa))with h3|h3<;>
    simp only[h1,h2,h3,if_true,Bool.false_eq_true,if_false,beq_self_eq_true,Bool.and_false,Bool.and_true,Bool.true_and,Bool.false_and,Bool.not_false,Bool.not_true,Bool.true_or,Bool.or_true,Bool.or_false,Bool.false_or,Tg,Td,Bool.or_self,Bool.and_self]
 ·intro G i hi
  simp only[aw]
  rw[if_neg (by simp;omega)]
  congr 2
  rw[Bool.eq_iff_iff];simp;omega
 ·unfold rW
  generalize bf 0 l.length _=b
  cases b<;>simp
theorem OA {c:cg} {g:aJ}:rB k (c,g,())=some (Ho c g,()):=by
 simp only[rB,pr,Ho,bY]
 by_cases h:g.2.2.2.1= -1<;>simp[h]
theorem OK {c:cg} {g:aJ}:rG k (c,g,())=some (Ho c g,()):=by
 simp only[rG,pq,Ho,bY]
 by_cases h:g.2.2.2.1= -1<;>simp[h]
end
end Vg.Tryz
