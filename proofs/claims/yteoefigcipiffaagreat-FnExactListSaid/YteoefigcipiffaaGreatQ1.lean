/- Texts of this law, joined. -/
import Derived.Test.YteoefigcipiffaaGreatVd
import Derived.Test.YteoefigcipiffaaGreatF
import Derived.Test.YteoefigcipiffaaGreatVc
set_option linter.unusedSimpArgs false
set_option linter.unusedVariables false
namespace Vg.Tryz
open Go Vg
set_option linter.unusedVariables false
set_option linter.unusedSectionVars false
set_option linter.unusedSimpArgs false
section
variable {k:Nat} (hk:9223372036854775808≤k)
include hk
theorem NI {x:List ByteArray} {left:Int} (hx:Fits (.sl .str) x) (h0:0≤left) (h1:left≤1048576):nx k (x,left,())=some (bH (ag (.sl .str) x) left,()):=
 Ue hk hx h0 h1
theorem jq (x:cg):ag bC x=ag (.sl .str) x.2.2.2.2.2:=by
 obtain⟨x0,x1,x2,x3,x4,x5⟩:=x
 simp only[ag]
 try omega
theorem Q0 {x:cg} {left:Int} (hx:Fits bC x) (h0:0≤left) (h1:left≤1048576):nc k (x,left,())=some (bH (ag bC x) left,()):=by
 rw[jq hk]
 simp only[nc]
 rw[NI hk hx.2.2.2.2.2 h0 h1,Option.bind_some]
 by_cases h2:bH (ag (.sl .str) x.2.2.2.2.2) left<0
 ·rw[if_pos (by simpa using h2)];exact congrArg (fun z=>some (z,())) (cp h2 (by omega)).symm
 rw[if_neg (by simpa using h2)]
theorem nL (x:ai):ag af x=x.1.size+x.2.size:=by
 obtain⟨x0,x1⟩:=x
 simp only[ag]
 try omega
theorem PD {x:ai} {left:Int} (hx:Fits af x) (h0:0≤left) (h1:left≤1048576):iu k (x,left,())=some (bH (ag af x) left,()):=by
 rw[nL hk]
 simp only[iu]
 try simp only
 rw[AV hx.1 h0 h1]
 by_cases h2:bH (x.1.size) left<0
 ·rw[if_pos (by simpa using h2)];exact congrArg (fun z=>some (z,())) (cp h2 (by omega)).symm
 rw[if_neg (by simpa using h2)]
 rw[xy hx.1 h0 h1 h2]
 try simp only
 rw[AV hx.2 (cI h2).1 (by have:=dV (t:=x.1.size) h0;omega)]
 rw[cZ h2]
 by_cases h3:bH (x.1.size+x.2.size) left<0
 ·rw[if_pos (by simpa using h3)];exact congrArg (fun z=>some (z,())) (cp h3 (by omega)).symm
 rw[if_neg (by simpa using h3)]
 rw[xy hx.2 (cI h2).1 (by have:=dV (t:=x.1.size) h0;omega) (by rw[cZ h2];exact h3),cZ h2]
theorem mu {x:List ai} {left:Int} (hx:Fits (.sl af) x) (h0:0≤left) (h1:left≤1048576):eA k (x,left,())=some (bH (ag (.sl af) x) left,()):=
 nT (d:=af.aa) (S:=iu k) hk hx.1 h0 h1 (fun e he l a b=>PD hk (hx.2 e he) a b)
theorem ch (x:al):ag ab x=ag (.sl af) x.1+x.2.2.2.size:=by
 obtain⟨x0,x1,x2,x3⟩:=x
 simp only[ag]
 try omega
theorem xe {x:al} {left:Int} (hx:Fits ab x) (h0:0≤left) (h1:left≤1048576):eX k (x,left,())=some (bH (ag ab x) left,()):=by
 rw[ch hk]
 simp only[eX]
 rw[mu hk hx.1 h0 h1,Option.bind_some]
 by_cases h2:bH (ag (.sl af) x.1) left<0
 ·rw[if_pos (by simpa using h2)];exact congrArg (fun z=>some (z,())) (cp h2 (by omega)).symm
 rw[if_neg (by simpa using h2)]
 try simp only
 rw[AV hx.2.2.2 (cI h2).1 (by have:=dV (t:=ag (.sl af) x.1) h0;omega)]
 rw[cZ h2]
 by_cases h3:bH (ag (.sl af) x.1+x.2.2.2.size) left<0
 ·rw[if_pos (by simpa using h3)];exact congrArg (fun z=>some (z,())) (cp h3 (by omega)).symm
 rw[if_neg (by simpa using h3)]
 rw[xy hx.2.2.2 (cI h2).1 (by have:=dV (t:=ag (.sl af) x.1) h0;omega) (by rw[cZ h2];exact h3),cZ h2]
theorem fL {x:List al} {left:Int} (hx:Fits (.sl ab) x) (h0:0≤left) (h1:left≤1048576):c9 k (x,left,())=some (bH (ag (.sl ab) x) left,()):=
 nT (d:=ab.aa) (S:=eX k) hk hx.1 h0 h1 (fun e he l a b=>xe hk (hx.2 e he) a b)
theorem ei (x:bc):ag ay x=ag (.sl ab) x.2:=by
 obtain⟨x0,x1⟩:=x
 simp only[ag]
 try omega
theorem P4 {x:bc} {left:Int} (hx:Fits ay x) (h0:0≤left) (h1:left≤1048576):ix k (x,left,())=some (bH (ag ay x) left,()):=by
 rw[ei hk]
 simp only[ix]
 rw[fL hk hx.2 h0 h1,Option.bind_some]
 by_cases h2:bH (ag (.sl ab) x.2) left<0
 ·rw[if_pos (by simpa using h2)];exact congrArg (fun z=>some (z,())) (cp h2 (by omega)).symm
 rw[if_neg (by simpa using h2)]
theorem Ow {x:List bc} {left:Int} (hx:Fits (.sl ay) x) (h0:0≤left) (h1:left≤1048576):oz k (x,left,())=some (bH (ag (.sl ay) x) left,()):=
 nT (d:=ay.aa) (S:=ix k) hk hx.1 h0 h1 (fun e he l a b=>P4 hk (hx.2 e he) a b)
theorem dD (x:aG):ag ak x=ag (.sl ay) x.2.2:=by
 obtain⟨x0,x1,x2⟩:=x
 simp only[ag]
 try omega
theorem Rq {x:aG} {left:Int} (hx:Fits ak x) (h0:0≤left) (h1:left≤1048576):jJ k (x,left,())=some (bH (ag ak x) left,()):=by
 rw[dD hk]
 simp only[jJ]
 rw[Ow hk hx.2.2 h0 h1,Option.bind_some]
 by_cases h2:bH (ag (.sl ay) x.2.2) left<0
 ·rw[if_pos (by simpa using h2)];exact congrArg (fun z=>some (z,())) (cp h2 (by omega)).symm
 rw[if_neg (by simpa using h2)]
theorem P6 {x:List aG} {left:Int} (hx:Fits (.sl ak) x) (h0:0≤left) (h1:left≤1048576):pd k (x,left,())=some (bH (ag (.sl ak) x) left,()):=
 nT (d:=ak.aa) (S:=jJ k) hk hx.1 h0 h1 (fun e he l a b=>Rq hk (hx.2 e he) a b)
theorem nH (x:bF):ag aU x=ag (.sl ab) x.1:=by
 obtain⟨x0,x1⟩:=x
 simp only[ag]
 try omega
theorem Sz {x:bF} {left:Int} (hx:Fits aU x) (h0:0≤left) (h1:left≤1048576):kS k (x,left,())=some (bH (ag aU x) left,()):=by
 rw[nH hk]
 simp only[kS]
 rw[fL hk hx.1 h0 h1,Option.bind_some]
 by_cases h2:bH (ag (.sl ab) x.1) left<0
 ·rw[if_pos (by simpa using h2)];exact congrArg (fun z=>some (z,())) (cp h2 (by omega)).symm
 rw[if_neg (by simpa using h2)]
theorem Q2 {x:List bF} {left:Int} (hx:Fits (.sl aU) x) (h0:0≤left) (h1:left≤1048576):qC k (x,left,())=some (bH (ag (.sl aU) x) left,()):=
 nT (d:=aU.aa) (S:=kS k) hk hx.1 h0 h1 (fun e he l a b=>Sz hk (hx.2 e he) a b)
theorem gN (x:aJ):ag aj x=ag (.sl af) x.2.1+ag (.sl ab) x.2.2.2.2:=by
 obtain⟨x0,x1,x2,x3,x4⟩:=x
 simp only[ag]
 try omega
theorem QH {x:aJ} {left:Int} (hx:Fits aj x) (h0:0≤left) (h1:left≤1048576):iC k (x,left,())=some (bH (ag aj x) left,()):=by
 rw[gN hk]
 simp only[iC]
 rw[mu hk hx.2.1 h0 h1,Option.bind_some]
 by_cases h2:bH (ag (.sl af) x.2.1) left<0
 ·rw[if_pos (by simpa using h2)];exact congrArg (fun z=>some (z,())) (cp h2 (by omega)).symm
 rw[if_neg (by simpa using h2)]
 rw[fL hk hx.2.2.2.2 (cI h2).1 (by have:=dV (t:=ag (.sl af) x.2.1) h0;omega),Option.bind_some]
 rw[cZ h2]
 by_cases h3:bH (ag (.sl af) x.2.1+ag (.sl ab) x.2.2.2.2) left<0
 ·rw[if_pos (by simpa using h3)];exact congrArg (fun z=>some (z,())) (cp h3 (by omega)).symm
 rw[if_neg (by simpa using h3)]
theorem Oh {x:List aJ} {left:Int} (hx:Fits (.sl aj) x) (h0:0≤left) (h1:left≤1048576):oF k (x,left,())=some (bH (ag (.sl aj) x) left,()):=
 nT (d:=aj.aa) (S:=iC k) hk hx.1 h0 h1 (fun e he l a b=>QH hk (hx.2 e he) a b)
theorem OA {x:List bl} {left:Int} (hx:Fits (.sl aC) x) (h0:0≤left) (h1:left≤1048576):j9 k (x,left,())=some (bH (ag (.sl aC) x) left,()):=
 RE (e:=aC) (F:=j9) (k:=k) (fun _=>rfl) (by rfl) hx h0 h1
theorem nG (x:bz):ag aN x=ag (.sl af) x.2.1+ag (.sl ab) x.2.2.2:=by
 obtain⟨x0,x1,x2,x3⟩:=x
 simp only[ag]
 try omega
theorem QB {x:bz} {left:Int} (hx:Fits aN x) (h0:0≤left) (h1:left≤1048576):im k (x,left,())=some (bH (ag aN x) left,()):=by
 rw[nG hk]
 simp only[im]
 rw[mu hk hx.2.1 h0 h1,Option.bind_some]
 by_cases h2:bH (ag (.sl af) x.2.1) left<0
 ·rw[if_pos (by simpa using h2)];exact congrArg (fun z=>some (z,())) (cp h2 (by omega)).symm
 rw[if_neg (by simpa using h2)]
 rw[fL hk hx.2.2.2 (cI h2).1 (by have:=dV (t:=ag (.sl af) x.2.1) h0;omega),Option.bind_some]
 rw[cZ h2]
 by_cases h3:bH (ag (.sl af) x.2.1+ag (.sl ab) x.2.2.2) left<0
 ·rw[if_pos (by simpa using h3)];exact congrArg (fun z=>some (z,())) (cp h3 (by omega)).symm
 rw[if_neg (by simpa using h3)]
theorem OP {x:List bz} {left:Int} (hx:Fits (.sl aN) x) (h0:0≤left) (h1:left≤1048576):nR k (x,left,())=some (bH (ag (.sl aN) x) left,()):=
 nT (d:=aN.aa) (S:=im k) hk hx.1 h0 h1 (fun e he l a b=>QB hk (hx.2 e he) a b)
theorem Rg {x:List Int} {left:Int} (hx:Fits (.sl (.int .i64)) x) (h0:0≤left) (h1:left≤1048576):ng k (x,left,())=some (bH (ag (.sl (.int .i64)) x) left,()):=
 RE (e:=(.int .i64)) (F:=ng) (k:=k) (fun _=>rfl) (by rfl) hx h0 h1
theorem dI (x:aL):ag ah x=ag ab x.2.2.1+ag (.sl af) x.2.2.2.1+ag (.sl (.int .i64)) x.2.2.2.2.2.1+ag (.sl ab) x.2.2.2.2.2.2.1:=by
 obtain⟨x0,x1,x2,x3,x4,x5,x6,x7,x8⟩:=x
 simp only[ag]
 try omega
theorem RG {x:aL} {left:Int} (hx:Fits ah x) (h0:0≤left) (h1:left≤1048576):jI k (x,left,())=some (bH (ag ah x) left,()):=by
 rw[dI hk]
 simp only[jI]
 rw[xe hk hx.2.2.1 h0 h1,Option.bind_some]
 by_cases h2:bH (ag ab x.2.2.1) left<0
 ·rw[if_pos (by simpa using h2)];exact congrArg (fun z=>some (z,())) (cp h2 (by omega)).symm
 rw[if_neg (by simpa using h2)]
 rw[mu hk hx.2.2.2.1 (cI h2).1 (by have:=dV (t:=ag ab x.2.2.1) h0;omega),Option.bind_some]
 rw[cZ h2]
 by_cases h3:bH (ag ab x.2.2.1+ag (.sl af) x.2.2.2.1) left<0
 ·rw[if_pos (by simpa using h3)];exact congrArg (fun z=>some (z,())) (cp h3 (by omega)).symm
 rw[if_neg (by simpa using h3)]
 rw[Rg hk hx.2.2.2.2.2.1 (cI h3).1 (by have:=dV (t:=ag ab x.2.2.1+ag (.sl af) x.2.2.2.1) h0;omega),Option.bind_some]
 rw[cZ h3]
 by_cases h4:bH (ag ab x.2.2.1+ag (.sl af) x.2.2.2.1+ag (.sl (.int .i64)) x.2.2.2.2.2.1) left<0
 ·rw[if_pos (by simpa using h4)];exact congrArg (fun z=>some (z,())) (cp h4 (by omega)).symm
 rw[if_neg (by simpa using h4)]
 rw[fL hk hx.2.2.2.2.2.2.1 (cI h4).1 (by have:=dV (t:=ag ab x.2.2.1+ag (.sl af) x.2.2.2.1+ag (.sl (.int .i64)) x.2.2.2.2.2.1) h0;omega),Option.bind_some]
 rw[cZ h4]
 by_cases h5:bH (ag ab x.2.2.1+ag (.sl af) x.2.2.2.1+ag (.sl (.int .i64)) x.2.2.2.2.2.1+ag (.sl ab) x.2.2.2.2.2.2.1) left<0
 ·rw[if_pos (by simpa using h5)];exact congrArg (fun z=>some (z,())) (cp h5 (by omega)).symm
 rw[if_neg (by simpa using h5)]
theorem P1 {x:List aL} {left:Int} (hx:Fits (.sl ah) x) (h0:0≤left) (h1:left≤1048576):pg k (x,left,())=some (bH (ag (.sl ah) x) left,()):=
 nT (d:=ah.aa) (S:=jI k) hk hx.1 h0 h1 (fun e he l a b=>RG hk (hx.2 e he) a b)
theorem kE (x:bg):ag aq x=ag ab x.2.2.1+ag (.sl af) x.2.2.2.1+ag (.sl ab) x.2.2.2.2.2.2.2.1:=by
 obtain⟨x0,x1,x2,x3,x4,x5,x6,x7,x8,x9,x10,x11⟩:=x
 simp only[ag]
 try omega
theorem Rr {x:bg} {left:Int} (hx:Fits aq x) (h0:0≤left) (h1:left≤1048576):jD k (x,left,())=some (bH (ag aq x) left,()):=by
 rw[kE hk]
 simp only[jD]
 rw[xe hk hx.2.2.1 h0 h1,Option.bind_some]
 by_cases h2:bH (ag ab x.2.2.1) left<0
 ·rw[if_pos (by simpa using h2)];exact congrArg (fun z=>some (z,())) (cp h2 (by omega)).symm
 rw[if_neg (by simpa using h2)]
 rw[mu hk hx.2.2.2.1 (cI h2).1 (by have:=dV (t:=ag ab x.2.2.1) h0;omega),Option.bind_some]
 rw[cZ h2]
 by_cases h3:bH (ag ab x.2.2.1+ag (.sl af) x.2.2.2.1) left<0
 ·rw[if_pos (by simpa using h3)];exact congrArg (fun z=>some (z,())) (cp h3 (by omega)).symm
 rw[if_neg (by simpa using h3)]
 rw[fL hk hx.2.2.2.2.2.2.2.1 (cI h3).1 (by have:=dV (t:=ag ab x.2.2.1+ag (.sl af) x.2.2.2.1) h0;omega),Option.bind_some]
 rw[cZ h3]
 by_cases h4:bH (ag ab x.2.2.1+ag (.sl af) x.2.2.2.1+ag (.sl ab) x.2.2.2.2.2.2.2.1) left<0
 ·rw[if_pos (by simpa using h4)];exact congrArg (fun z=>some (z,())) (cp h4 (by omega)).symm
 rw[if_neg (by simpa using h4)]
theorem Qt {x:List bg} {left:Int} (hx:Fits (.sl aq) x) (h0:0≤left) (h1:left≤1048576):oX k (x,left,())=some (bH (ag (.sl aq) x) left,()):=
 nT (d:=aq.aa) (S:=jD k) hk hx.1 h0 h1 (fun e he l a b=>Rr hk (hx.2 e he) a b)
theorem gG (x:ar):ag aE x=ag bC x.1+ag (.sl ak) x.2.2.2.1+ag (.sl aU) x.2.2.2.2.1+ag (.sl ab) x.2.2.2.2.2.1+ag (.sl aj) x.2.2.2.2.2.2.2.1+ag (.sl aC) x.2.2.2.2.2.2.2.2.2.1+ag (.sl aN) x.2.2.2.2.2.2.2.2.2.2.1+ag (.sl ab) x.2.2.2.2.2.2.2.2.2.2.2.1+ag (.sl ah) x.2.2.2.2.2.2.2.2.2.2.2.2.1+ag (.sl aq) x.2.2.2.2.2.2.2.2.2.2.2.2.2:=by
 obtain⟨x0,x1,x2,x3,x4,x5,x6,x7,x8,x9,x10,x11,x12,x13⟩:=x
 simp only[ag]
 try omega
theorem PO {x:ar} {left:Int} (hx:Fits aE x) (h0:0≤left) (h1:left≤1048576):lz k (x,left,())=some (bH (ag aE x) left,()):=by
 rw[gG hk]
 simp only[lz]
 rw[Q0 hk hx.1 h0 h1,Option.bind_some]
 by_cases h2:bH (ag bC x.1) left<0
 ·rw[if_pos (by simpa using h2)];exact congrArg (fun z=>some (z,())) (cp h2 (by omega)).symm
 rw[if_neg (by simpa using h2)]
 rw[P6 hk hx.2.2.2.1 (cI h2).1 (by have:=dV (t:=ag bC x.1) h0;omega),Option.bind_some]
 rw[cZ h2]
 by_cases h3:bH (ag bC x.1+ag (.sl ak) x.2.2.2.1) left<0
 ·rw[if_pos (by simpa using h3)];exact congrArg (fun z=>some (z,())) (cp h3 (by omega)).symm
 rw[if_neg (by simpa using h3)]
 rw[Q2 hk hx.2.2.2.2.1 (cI h3).1 (by have:=dV (t:=ag bC x.1+ag (.sl ak) x.2.2.2.1) h0;omega),Option.bind_some]
 rw[cZ h3]
 by_cases h4:bH (ag bC x.1+ag (.sl ak) x.2.2.2.1+ag (.sl aU) x.2.2.2.2.1) left<0
 ·rw[if_pos (by simpa using h4)];exact congrArg (fun z=>some (z,())) (cp h4 (by omega)).symm
 rw[if_neg (by simpa using h4)]
 rw[fL hk hx.2.2.2.2.2.1 (cI h4).1 (by have:=dV (t:=ag bC x.1+ag (.sl ak) x.2.2.2.1+ag (.sl aU) x.2.2.2.2.1) h0;omega),Option.bind_some]
 rw[cZ h4]
 by_cases h5:bH (ag bC x.1+ag (.sl ak) x.2.2.2.1+ag (.sl aU) x.2.2.2.2.1+ag (.sl ab) x.2.2.2.2.2.1) left<0
 ·rw[if_pos (by simpa using h5)];exact congrArg (fun z=>some (z,())) (cp h5 (by omega)).symm
 rw[if_neg (by simpa using h5)]
 rw[Oh hk hx.2.2.2.2.2.2.2.1 (cI h5).1 (by have:=dV (t:=ag bC x.1+ag (.sl ak) x.2.2.2.1+ag (.sl aU) x.2.2.2.2.1+ag (.sl ab) x.2.2.2.2.2.1) h0;omega),Option.bind_some]
 rw[cZ h5]
 by_cases h6:bH (ag bC x.1+ag (.sl ak) x.2.2.2.1+ag (.sl aU) x.2.2.2.2.1+ag (.sl ab) x.2.2.2.2.2.1+ag (.sl aj) x.2.2.2.2.2.2.2.1) left<0
 ·rw[if_pos (by simpa using h6)];exact congrArg (fun z=>some (z,())) (cp h6 (by omega)).symm
 rw[if_neg (by simpa using h6)]
 rw[OA hk hx.2.2.2.2.2.2.2.2.2.1 (cI h6).1 (by have:=dV (t:=ag bC x.1+ag (.sl ak) x.2.2.2.1+ag (.sl aU) x.2.2.2.2.1+ag (.sl ab) x.2.2.2.2.2.1+ag (.sl aj) x.2.2.2.2.2.2.2.1) h0;omega),Option.bind_some]
 rw[cZ h6]
 by_cases h7:bH (ag bC x.1+ag (.sl ak) x.2.2.2.1+ag (.sl aU) x.2.2.2.2.1+ag (.sl ab) x.2.2.2.2.2.1+ag (.sl aj) x.2.2.2.2.2.2.2.1+ag (.sl aC) x.2.2.2.2.2.2.2.2.2.1) left<0
 ·rw[if_pos (by simpa using h7)];exact congrArg (fun z=>some (z,())) (cp h7 (by omega)).symm
 rw[if_neg (by simpa using h7)]
 rw[OP hk hx.2.2.2.2.2.2.2.2.2.2.1 (cI h7).1 (by have:=dV (t:=ag bC x.1+ag (.sl ak) x.2.2.2.1+ag (.sl aU) x.2.2.2.2.1+ag (.sl ab) x.2.2.2.2.2.1+ag (.sl aj) x.2.2.2.2.2.2.2.1+ag (.sl aC) x.2.2.2.2.2.2.2.2.2.1) h0;omega),Option.bind_some]
 rw[cZ h7]
 by_cases h8:bH (ag bC x.1+ag (.sl ak) x.2.2.2.1+ag (.sl aU) x.2.2.2.2.1+ag (.sl ab) x.2.2.2.2.2.1+ag (.sl aj) x.2.2.2.2.2.2.2.1+ag (.sl aC) x.2.2.2.2.2.2.2.2.2.1+ag (.sl aN) x.2.2.2.2.2.2.2.2.2.2.1) left<0
 ·rw[if_pos (by simpa using h8)];exact congrArg (fun z=>some (z,())) (cp h8 (by omega)).symm
 rw[if_neg (by simpa using h8)]
 rw[fL hk hx.2.2.2.2.2.2.2.2.2.2.2.1 (cI h8).1 (by have:=dV (t:=ag bC x.1+ag (.sl ak) x.2.2.2.1+ag (.sl aU) x.2.2.2.2.1+ag (.sl ab) x.2.2.2.2.2.1+ag (.sl aj) x.2.2.2.2.2.2.2.1+ag (.sl aC) x.2.2.2.2.2.2.2.2.2.1+ag (.sl aN) x.2.2.2.2.2.2.2.2.2.2.1) h0;omega),Option.bind_some]
 rw[cZ h8]
 by_cases h9:bH (ag bC x.1+ag (.sl ak) x.2.2.2.1+ag (.sl aU) x.2.2.2.2.1+ag (.sl ab) x.2.2.2.2.2.1+ag (.sl aj) x.2.2.2.2.2.2.2.1+ag (.sl aC) x.2.2.2.2.2.2.2.2.2.1+ag (.sl aN) x.2.2.2.2.2.2.2.2.2.2.1+ag (.sl ab) x.2.2.2.2.2.2.2.2.2.2.2.1) left<0
 ·rw[if_pos (by simpa using h9)];exact congrArg (fun z=>some (z,())) (cp h9 (by omega)).symm
 rw[if_neg (by simpa using h9)]
 rw[P1 hk hx.2.2.2.2.2.2.2.2.2.2.2.2.1 (cI h9).1 (by have:=dV (t:=ag bC x.1+ag (.sl ak) x.2.2.2.1+ag (.sl aU) x.2.2.2.2.1+ag (.sl ab) x.2.2.2.2.2.1+ag (.sl aj) x.2.2.2.2.2.2.2.1+ag (.sl aC) x.2.2.2.2.2.2.2.2.2.1+ag (.sl aN) x.2.2.2.2.2.2.2.2.2.2.1+ag (.sl ab) x.2.2.2.2.2.2.2.2.2.2.2.1) h0;omega),Option.bind_some]
 rw[cZ h9]
 by_cases h10:bH (ag bC x.1+ag (.sl ak) x.2.2.2.1+ag (.sl aU) x.2.2.2.2.1+ag (.sl ab) x.2.2.2.2.2.1+ag (.sl aj) x.2.2.2.2.2.2.2.1+ag (.sl aC) x.2.2.2.2.2.2.2.2.2.1+ag (.sl aN) x.2.2.2.2.2.2.2.2.2.2.1+ag (.sl ab) x.2.2.2.2.2.2.2.2.2.2.2.1+ag (.sl ah) x.2.2.2.2.2.2.2.2.2.2.2.2.1) left<0
 ·rw[if_pos (by simpa using h10)];exact congrArg (fun z=>some (z,())) (cp h10 (by omega)).symm
 rw[if_neg (by simpa using h10)]
 rw[Qt hk hx.2.2.2.2.2.2.2.2.2.2.2.2.2 (cI h10).1 (by have:=dV (t:=ag bC x.1+ag (.sl ak) x.2.2.2.1+ag (.sl aU) x.2.2.2.2.1+ag (.sl ab) x.2.2.2.2.2.1+ag (.sl aj) x.2.2.2.2.2.2.2.1+ag (.sl aC) x.2.2.2.2.2.2.2.2.2.1+ag (.sl aN) x.2.2.2.2.2.2.2.2.2.2.1+ag (.sl ab) x.2.2.2.2.2.2.2.2.2.2.2.1+ag (.sl ah) x.2.2.2.2.2.2.2.2.2.2.2.2.1) h0;omega),Option.bind_some]
 rw[cZ h10]
 by_cases h11:bH (ag bC x.1+ag (.sl ak) x.2.2.2.1+ag (.sl aU) x.2.2.2.2.1+ag (.sl ab) x.2.2.2.2.2.1+ag (.sl aj) x.2.2.2.2.2.2.2.1+ag (.sl aC) x.2.2.2.2.2.2.2.2.2.1+ag (.sl aN) x.2.2.2.2.2.2.2.2.2.2.1+ag (.sl ab) x.2.2.2.2.2.2.2.2.2.2.2.1+ag (.sl ah) x.2.2.2.2.2.2.2.2.2.2.2.2.1+ag (.sl aq) x.2.2.2.2.2.2.2.2.2.2.2.2.2) left<0
 ·rw[if_pos (by simpa using h11)];exact congrArg (fun z=>some (z,())) (cp h11 (by omega)).symm
 rw[if_neg (by simpa using h11)]
theorem NC {x:List ByteArray} (h:ag (.sl .str) x≤1048576):ny k (x,())=some (x,()):=
 QU (d:=ByteArray.empty) hk (Nat.le_trans (aA (e:= .str)) h)
theorem Q5 {x:cg} (h:ag bC x≤1048576):mX k (x,())=some (x,()):=by
 rw[jq hk]at h
 simp only[mX]
 rw[NC hk (by omega)]
 try rfl
theorem P9 {x:ai} (h:ag af x≤1048576):iA k (x,())=some (x,()):=by
 rw[nL hk]at h
 simp only[iA]
 try rfl
theorem mB {x:List ai} (h:ag (.sl af) x≤1048576):eC k (x,())=some (x,()):=
 lg (d:=af.aa) (S:=iA k) hk (Nat.le_trans (aA (e:=af)) h) (fun e he=>P9 hk (Nat.le_trans (bo (e:=af) he) h))
theorem xL {x:al} (h:ag ab x≤1048576):eM k (x,())=some (x,()):=by
 rw[ch hk]at h
 simp only[eM]
 rw[mB hk (by omega)]
 try rfl
theorem fF {x:List al} (h:ag (.sl ab) x≤1048576):db k (x,())=some (x,()):=
 lg (d:=ab.aa) (S:=eM k) hk (Nat.le_trans (aA (e:=ab)) h) (fun e he=>xL hk (Nat.le_trans (bo (e:=ab) he) h))
theorem Qb {x:bc} (h:ag ay x≤1048576):iW k (x,())=some (x,()):=by
 rw[ei hk]at h
 simp only[iW]
 rw[fF hk (by omega)]
 try rfl
theorem OS {x:List bc} (h:ag (.sl ay) x≤1048576):nY k (x,())=some (x,()):=
 lg (d:=ay.aa) (S:=iW k) hk (Nat.le_trans (aA (e:=ay)) h) (fun e he=>Qb hk (Nat.le_trans (bo (e:=ay) he) h))
theorem Q9 {x:aG} (h:ag ak x≤1048576):jO k (x,())=some (x,()):=by
 rw[dD hk]at h
 simp only[jO]
 rw[OS hk (by omega)]
 try rfl
theorem PE {x:List aG} (h:ag (.sl ak) x≤1048576):pz k (x,())=some (x,()):=
 lg (d:=ak.aa) (S:=jO k) hk (Nat.le_trans (aA (e:=ak)) h) (fun e he=>Q9 hk (Nat.le_trans (bo (e:=ak) he) h))
theorem Sx {x:bF} (h:ag aU x≤1048576):kQ k (x,())=some (x,()):=by
 rw[nH hk]at h
 simp only[kQ]
 rw[fF hk (by omega)]
 try rfl
theorem RR {x:List bF} (h:ag (.sl aU) x≤1048576):qJ k (x,())=some (x,()):=
 lg (d:=aU.aa) (S:=kQ k) hk (Nat.le_trans (aA (e:=aU)) h) (fun e he=>Sx hk (Nat.le_trans (bo (e:=aU) he) h))
theorem Qf {x:aJ} (h:ag aj x≤1048576):iG k (x,())=some (x,()):=by
 rw[gN hk]at h
 simp only[iG]
 rw[mB hk (by omega),fF hk (by omega)]
 try rfl
theorem OM {x:List aJ} (h:ag (.sl aj) x≤1048576):oc k (x,())=some (x,()):=
 lg (d:=aj.aa) (S:=iG k) hk (Nat.le_trans (aA (e:=aj)) h) (fun e he=>Qf hk (Nat.le_trans (bo (e:=aj) he) h))
theorem Ae (x:bl):ag aC x=0:=by
 obtain⟨x0,x1⟩:=x
 simp only[ag]
 try omega
theorem Qx {x:bl} (h:ag aC x≤1048576):iJ k (x,())=some (x,()):=by
 rw[Ae hk]at h
 simp only[iJ]
 try rfl
theorem NZ {x:List bl} (h:ag (.sl aC) x≤1048576):om k (x,())=some (x,()):=
 lg (d:=aC.aa) (S:=iJ k) hk (Nat.le_trans (aA (e:=aC)) h) (fun e he=>Qx hk (Nat.le_trans (bo (e:=aC) he) h))
theorem PL {x:bz} (h:ag aN x≤1048576):iv k (x,())=some (x,()):=by
 rw[nG hk]at h
 simp only[iv]
 rw[mB hk (by omega),fF hk (by omega)]
 try rfl
theorem Oq {x:List bz} (h:ag (.sl aN) x≤1048576):nZ k (x,())=some (x,()):=
 lg (d:=aN.aa) (S:=iv k) hk (Nat.le_trans (aA (e:=aN)) h) (fun e he=>PL hk (Nat.le_trans (bo (e:=aN) he) h))
theorem Rc {x:List Int} (h:ag (.sl (.int .i64)) x≤1048576):qF k (x,())=some (x,()):=
 QU (d:=0) hk (Nat.le_trans (aA (e:=(.int .i64))) h)
theorem RO {x:aL} (h:ag ah x≤1048576):jC k (x,())=some (x,()):=by
 rw[dI hk]at h
 simp only[jC]
 rw[xL hk (by omega),mB hk (by omega),Rc hk (by omega),fF hk (by omega)]
 try rfl
theorem QF {x:List aL} (h:ag (.sl ah) x≤1048576):pC k (x,())=some (x,()):=
 lg (d:=ah.aa) (S:=jC k) hk (Nat.le_trans (aA (e:=ah)) h) (fun e he=>RO hk (Nat.le_trans (bo (e:=ah) he) h))
theorem RZ {x:bg} (h:ag aq x≤1048576):jK k (x,())=some (x,()):=by
 rw[kE hk]at h
 simp only[jK]
 rw[xL hk (by omega),mB hk (by omega),fF hk (by omega)]
 try rfl
theorem PJ {x:List bg} (h:ag (.sl aq) x≤1048576):pD k (x,())=some (x,()):=
 lg (d:=aq.aa) (S:=jK k) hk (Nat.le_trans (aA (e:=aq)) h) (fun e he=>RZ hk (Nat.le_trans (bo (e:=aq) he) h))
theorem rD {x:ar} (h:ag aE x≤1048576):eQ k (x,())=some (x,()):=by
 rw[gG hk]at h
 simp only[eQ]
 rw[Q5 hk (by omega),PE hk (by omega),RR hk (by omega),fF hk (by omega),OM hk (by omega),NZ hk (by omega),Oq hk (by omega),fF hk (by omega),QF hk (by omega),PJ hk (by omega)]
 try rfl
theorem M7 {x:List ByteArray} (h:ag (.sl .str) x≤1073741824):np k (x,x,())=some (true,()):=
 Ux hk (Nat.le_trans (Nat.le_trans (aA (e:= .str)) h) (by omega))
theorem RJ {x:cg} (h:ag bC x≤1073741824):mK k (x,x,())=some (true,()):=by
 rw[jq hk]at h
 simp only[mK]
 rw[M7 hk (by omega)]
 simp
theorem Qe {x:ai} (h:ag af x≤1073741824):iy k (x,x,())=some (true,()):=by
 rw[nL hk]at h
 simp only[iy]
 simp
theorem mw {x:List ai} (h:ag (.sl af) x≤1073741824):ey k (x,x,())=some (true,()):=
 jR (d:=af.aa) (S:=iy k) hk (Nat.le_trans (Nat.le_trans (aA (e:=af)) h) (by omega)) (fun e he=>Qe hk (Nat.le_trans (bo (e:=af) he) h))
theorem xG {x:al} (h:ag ab x≤1073741824):eO k (x,x,())=some (true,()):=by
 rw[ch hk]at h
 simp only[eO]
 rw[mw hk (by omega)]
 simp
theorem fK {x:List al} (h:ag (.sl ab) x≤1073741824):dc k (x,x,())=some (true,()):=
 jR (d:=ab.aa) (S:=eO k) hk (Nat.le_trans (Nat.le_trans (aA (e:=ab)) h) (by omega)) (fun e he=>xG hk (Nat.le_trans (bo (e:=ab) he) h))
theorem QJ {x:bc} (h:ag ay x≤1073741824):iV k (x,x,())=some (true,()):=by
 rw[ei hk]at h
 simp only[iV]
 rw[fK hk (by omega)]
 simp
theorem N8 {x:List bc} (h:ag (.sl ay) x≤1073741824):nV k (x,x,())=some (true,()):=
 jR (d:=ay.aa) (S:=iV k) hk (Nat.le_trans (Nat.le_trans (aA (e:=ay)) h) (by omega)) (fun e he=>QJ hk (Nat.le_trans (bo (e:=ay) he) h))
theorem Re {x:aG} (h:ag ak x≤1073741824):jH k (x,x,())=some (true,()):=by
 rw[dD hk]at h
 simp only[jH]
 rw[N8 hk (by omega)]
 simp
theorem QG {x:List aG} (h:ag (.sl ak) x≤1073741824):oZ k (x,x,())=some (true,()):=
 jR (d:=ak.aa) (S:=jH k) hk (Nat.le_trans (Nat.le_trans (aA (e:=ak)) h) (by omega)) (fun e he=>Re hk (Nat.le_trans (bo (e:=ak) he) h))
theorem R8 {x:bF} (h:ag aU x≤1073741824):kW k (x,x,())=some (true,()):=by
 rw[nH hk]at h
 simp only[kW]
 rw[fK hk (by omega)]
 simp
theorem R1 {x:List bF} (h:ag (.sl aU) x≤1073741824):qA k (x,x,())=some (true,()):=
 jR (d:=aU.aa) (S:=kW k) hk (Nat.le_trans (Nat.le_trans (aA (e:=aU)) h) (by omega)) (fun e he=>R8 hk (Nat.le_trans (bo (e:=aU) he) h))
theorem PA {x:aJ} (h:ag aj x≤1073741824):iH k (x,x,())=some (true,()):=by
 rw[gN hk]at h
 simp only[iH]
 rw[mw hk (by omega),fK hk (by omega)]
 simp
theorem Oc {x:List aJ} (h:ag (.sl aj) x≤1073741824):oR k (x,x,())=some (true,()):=
 jR (d:=aj.aa) (S:=iH k) hk (Nat.le_trans (Nat.le_trans (aA (e:=aj)) h) (by omega)) (fun e he=>PA hk (Nat.le_trans (bo (e:=aj) he) h))
theorem PX {x:bl} (h:ag aC x≤1073741824):il k (x,x,())=some (true,()):=by
 rw[Ae hk]at h
 simp only[il]
 simp
theorem Ov {x:List bl} (h:ag (.sl aC) x≤1073741824):nU k (x,x,())=some (true,()):=
 jR (d:=aC.aa) (S:=il k) hk (Nat.le_trans (Nat.le_trans (aA (e:=aC)) h) (by omega)) (fun e he=>PX hk (Nat.le_trans (bo (e:=aC) he) h))
theorem Qr {x:bz} (h:ag aN x≤1073741824):iQ k (x,x,())=some (true,()):=by
 rw[nG hk]at h
 simp only[iQ]
 rw[mw hk (by omega),fK hk (by omega)]
 simp
theorem N9 {x:List bz} (h:ag (.sl aN) x≤1073741824):oN k (x,x,())=some (true,()):=
 jR (d:=aN.aa) (S:=iQ k) hk (Nat.le_trans (Nat.le_trans (aA (e:=aN)) h) (by omega)) (fun e he=>Qr hk (Nat.le_trans (bo (e:=aN) he) h))
theorem Rs {x:List Int} (h:ag (.sl (.int .i64)) x≤1073741824):qH k (x,x,())=some (true,()):=
 Ub hk (Nat.le_trans (Nat.le_trans (aA (e:=(.int .i64))) h) (by omega))
theorem RF {x:aL} (h:ag ah x≤1073741824):jS k (x,x,())=some (true,()):=by
 rw[dI hk]at h
 simp only[jS]
 rw[xG hk (by omega),mw hk (by omega),Rs hk (by omega),fK hk (by omega)]
 simp
theorem PB {x:List aL} (h:ag (.sl ah) x≤1073741824):o9 k (x,x,())=some (true,()):=
 jR (d:=ah.aa) (S:=jS k) hk (Nat.le_trans (Nat.le_trans (aA (e:=ah)) h) (by omega)) (fun e he=>RF hk (Nat.le_trans (bo (e:=ah) he) h))
theorem QZ {x:bg} (h:ag aq x≤1073741824):jE k (x,x,())=some (true,()):=by
 rw[kE hk]at h
 simp only[jE]
 rw[xG hk (by omega),mw hk (by omega),fK hk (by omega)]
 simp
theorem QC {x:List bg} (h:ag (.sl aq) x≤1073741824):pB k (x,x,())=some (true,()):=
 jR (d:=aq.aa) (S:=jE k) hk (Nat.le_trans (Nat.le_trans (aA (e:=aq)) h) (by omega)) (fun e he=>QZ hk (Nat.le_trans (bo (e:=aq) he) h))
theorem rC {x:ar} (h:ag aE x≤1073741824):eP k (x,x,())=some (true,()):=by
 rw[gG hk]at h
 simp only[eP]
 rw[RJ hk (by omega),QG hk (by omega),R1 hk (by omega),fK hk (by omega),Oc hk (by omega),Ov hk (by omega),N9 hk (by omega),fK hk (by omega),PB hk (by omega),QC hk (by omega)]
 simp
theorem j7 {n:Int} (h1:1≤n) (h2:n≤bu):∃s,bS k (n,())=some (s,()):=by
 simp only[bS,aP]
 rw[if_neg (by simp;omega)]
 have red:∀ {o:Option (ByteArray×Unit)},(∃r,o=some r)→∃s,o=some (s,()):=fun⟨⟨s,u⟩,h⟩=>⟨s,h⟩
 refine red (Mv hk ?_ ?_ n h2)
 ·intro G n s hn hs
  simp only
  rw[if_neg (by simp;omega),if_pos (by
   simp only[decide_eq_true_eq]
   show 1+s.size<4294967296
   omega)]
  exact⟨_,rfl⟩
 ·intro G n s hn hn2 hs
  simp only
  unfold bu at hn2
  rw[if_pos (by simpa using hn),if_pos (by simp),if_pos (by
   simp only[decide_eq_true_eq]
   show 1+s.size<4294967296
   omega),if_pos (by simp),wrap64 (by rw[Int.tdiv_eq_ediv_of_nonneg (by omega)];omega) (by rw[Int.tdiv_eq_ediv_of_nonneg (by omega)];omega)]
  refine⟨_,rfl,?_⟩
  rw[ByteArray.size_append]
  show 1+s.size=s.size+1
  omega
theorem Jh:pn (.sl .str) (kz k) (kG k):=by
 refine fo hk ?_ ?_ ?_
 ·intro G l n i hi
  simp only[aw]
  rw[if_neg (by simp;omega)]
 ·intro G l n i hi
  simp only[aw]
  rw[if_neg (by simp;omega)]
 ·intro x n h1 h2
  unfold bu at h2
  obtain⟨s1,e1⟩:=j7 hk (n:=n) (by omega) (by unfold bu;omega)
  refine⟨n+1,s1,by omega,by omega,fun G d r hd=> ?_,fun G d r hd=> ?_⟩
  ·simp only[Int.toNat_natCast]
   refine bX.trans ?_
   refine(bind_eq (r:=(s1,())) ?_ _).trans ?_
   ·simp (disch:=omega) only[au,Int.toNat_natCast,wrap64,e1]
   refine aI.trans ?_
   rw[aR (y:=s1)]
   rotate_left
   ·simp (disch:=omega) only[au,Int.toNat_natCast,wrap64]
   simp (disch:=omega) only[wrap64,cz hd]
  ·simp only[Int.toNat_natCast]
   refine bX.trans ?_
   refine aI.trans ?_
   refine(bind_eq (r:=(s1,())) ?_ _).trans ?_
   ·simp (disch:=omega) only[au,Int.toNat_natCast,wrap64,e1]
   refine(bw (vG ?_)).trans ?_
   ·simp (disch:=omega) only[au,Int.toNat_natCast,wrap64]
   simp (disch:=omega) only[wrap64,cz hd]
theorem fy:pn (.sl af) (cX k) (cW k):=by
 refine fo hk ?_ ?_ ?_
 ·intro G l n i hi
  simp only[aw]
  rw[if_neg (by simp;omega)]
 ·intro G l n i hi
  simp only[aw]
  rw[if_neg (by simp;omega)]
 ·intro x n h1 h2
  unfold bu at h2
  have t0:=nL hk x
  obtain⟨s1,e1⟩:=j7 hk (n:=n) (by omega) (by unfold bu;omega)
  obtain⟨s2,e2⟩:=j7 hk (n:=n+1) (by omega) (by unfold bu;omega)
  refine⟨n+1+1,(s1,s2),by omega,by omega,fun G d r hd=> ?_,fun G d r hd=> ?_⟩
  ·simp only[Int.toNat_natCast]
   refine bX.trans ?_
   refine(bind_eq (r:=(s1,())) ?_ _).trans ?_
   ·simp (disch:=omega) only[au,Int.toNat_natCast,wrap64,e1]
   refine aI.trans ?_
   rw[aR (y:=(s1,x.2))]
   rotate_left
   ·simp (disch:=omega) only[au,Int.toNat_natCast,wrap64]
   refine(bind_eq (r:=(s2,())) ?_ _).trans ?_
   ·simp (disch:=omega) only[au,Int.toNat_natCast,wrap64,e2]
   refine aI.trans ?_
   rw[aR (y:=(s1,s2))]
   rotate_left
   ·simp (disch:=omega) only[au,Int.toNat_natCast,wrap64]
   simp (disch:=omega) only[wrap64,cz hd]
  ·simp only[Int.toNat_natCast]
   refine bX.trans ?_
   refine aI.trans ?_
   refine(bind_eq (r:=(s1,())) ?_ _).trans ?_
   ·simp (disch:=omega) only[au,Int.toNat_natCast,wrap64,e1]
   refine(bw (vG ?_)).trans ?_
   ·simp (disch:=omega) only[au,Int.toNat_natCast,wrap64]
   refine aI.trans ?_
   refine(bind_eq (r:=(s2,())) ?_ _).trans ?_
   ·simp (disch:=omega) only[au,Int.toNat_natCast,wrap64,e2]
   refine(bw (vG ?_)).trans ?_
   ·simp (disch:=omega) only[au,Int.toNat_natCast,wrap64]
   simp (disch:=omega) only[wrap64,cz hd]
theorem eG:pn (.sl ab) (cG k) (cF k):=by
 refine fo hk ?_ ?_ ?_
 ·intro G l n i hi
  simp only[aw]
  rw[if_neg (by simp;omega)]
 ·intro G l n i hi
  simp only[aw]
  rw[if_neg (by simp;omega)]
 ·intro x n h1 h2
  unfold bu at h2
  have t0:=ch hk x
  obtain⟨n1,y1,e1,a1,b1,q1⟩:=fy hk (x.1) (n) (by omega) (by unfold bu;omega)
  have z1:decide (n1<0)=false:=by simp;omega
  obtain⟨s4,e4⟩:=j7 hk (n:=n1+1+1) (by omega) (by unfold bu;omega)
  refine⟨n1+1+1+1,(y1,(n1,(n1+1,s4))),by omega,by omega,fun G d r hd=> ?_,fun G d r hd=> ?_⟩
  ·simp only[Int.toNat_natCast]
   refine bX.trans ?_
   refine aI.trans ?_
   refine(bind_eq (r:=(n1,y1)) ?_ _).trans ?_
   ·simp (disch:=omega) only[au,Int.toNat_natCast,wrap64,e1]
   rw[aR (y:=(y1,x.2))]
   rotate_left
   ·simp (disch:=omega) only[au,Int.toNat_natCast,wrap64]
   refine aI.trans ?_
   rw[aR (y:=(y1,(n1,x.2.2)))]
   rotate_left
   ·simp (disch:=omega) only[au,Int.toNat_natCast,wrap64]
   refine aI.trans ?_
   rw[aR (y:=(y1,(n1,(n1+1,x.2.2.2))))]
   rotate_left
   ·simp (disch:=omega) only[au,Int.toNat_natCast,wrap64]
   refine(bind_eq (r:=(s4,())) ?_ _).trans ?_
   ·simp (disch:=omega) only[au,Int.toNat_natCast,wrap64,e4]
   refine aI.trans ?_
   rw[aR (y:=(y1,(n1,(n1+1,s4))))]
   rotate_left
   ·simp (disch:=omega) only[au,Int.toNat_natCast,wrap64]
   simp (disch:=omega) only[wrap64,cz hd]
  ·simp only[Int.toNat_natCast]
   refine bX.trans ?_
   refine aI.trans ?_
   refine(bind_eq (r:=(n1,())) ?_ _).trans ?_
   ·simp (disch:=omega) only[au,Int.toNat_natCast,wrap64,q1]
   refine(bw z1).trans ?_
   refine aI.trans ?_
   refine(bw (cC ?_)).trans ?_
   ·simp (disch:=omega) only[au,Int.toNat_natCast,wrap64]
   refine aI.trans ?_
   refine(bw (cC ?_)).trans ?_
   ·simp (disch:=omega) only[au,Int.toNat_natCast,wrap64]
   refine aI.trans ?_
   refine(bind_eq (r:=(s4,())) ?_ _).trans ?_
   ·simp (disch:=omega) only[au,Int.toNat_natCast,wrap64,e4]
   refine(bw (vG ?_)).trans ?_
   ·simp (disch:=omega) only[au,Int.toNat_natCast,wrap64]
   simp (disch:=omega) only[wrap64,cz hd]
theorem Lk:pn (.sl ay) (me k) (l0 k):=by
 refine fo hk ?_ ?_ ?_
 ·intro G l n i hi
  simp only[aw]
  rw[if_neg (by simp;omega)]
 ·intro G l n i hi
  simp only[aw]
  rw[if_neg (by simp;omega)]
 ·intro x n h1 h2
  unfold bu at h2
  have t0:=ei hk x
  obtain⟨n2,y2,e2,a2,b2,q2⟩:=eG hk (x.2) (n+1) (by omega) (by unfold bu;omega)
  have z2:decide (n2<0)=false:=by simp;omega
  refine⟨n2,(n,y2),by omega,by omega,fun G d r hd=> ?_,fun G d r hd=> ?_⟩
  ·simp only[Int.toNat_natCast]
   refine bX.trans ?_
   refine aI.trans ?_
   rw[aR (y:=(n,x.2))]
   rotate_left
   ·simp (disch:=omega) only[au,Int.toNat_natCast,wrap64]
   refine aI.trans ?_
   refine(bind_eq (r:=(n2,y2)) ?_ _).trans ?_
   ·simp (disch:=omega) only[au,Int.toNat_natCast,wrap64,e2]
   rw[aR (y:=(n,y2))]
   rotate_left
   ·simp (disch:=omega) only[au,Int.toNat_natCast,wrap64]
   simp (disch:=omega) only[wrap64,cz hd]
  ·simp only[Int.toNat_natCast]
   refine bX.trans ?_
   refine aI.trans ?_
   refine(bw (cC ?_)).trans ?_
   ·simp (disch:=omega) only[au,Int.toNat_natCast,wrap64]
   refine aI.trans ?_
   refine(bind_eq (r:=(n2,())) ?_ _).trans ?_
   ·simp (disch:=omega) only[au,Int.toNat_natCast,wrap64,q2]
   refine(bw z2).trans ?_
   simp (disch:=omega) only[wrap64,cz hd]
theorem MS:pn (.sl ak) (nE k) (ni k):=by
 refine fo hk ?_ ?_ ?_
 ·intro G l n i hi
  simp only[aw]
  rw[if_neg (by simp;omega)]
 ·intro G l n i hi
  simp only[aw]
  rw[if_neg (by simp;omega)]
 ·intro x n h1 h2
  unfold bu at h2
  have t0:=dD hk x
  obtain⟨n3,y3,e3,a3,b3,q3⟩:=Lk hk (x.2.2) (n+1+1) (by omega) (by unfold bu;omega)
  have z3:decide (n3<0)=false:=by simp;omega
  refine⟨n3,(n,(n+1,y3)),by omega,by omega,fun G d r hd=> ?_,fun G d r hd=> ?_⟩
  ·simp only[Int.toNat_natCast]
   refine bX.trans ?_
   refine aI.trans ?_
   rw[aR (y:=(n,x.2))]
   rotate_left
   ·simp (disch:=omega) only[au,Int.toNat_natCast,wrap64]
   refine aI.trans ?_
   rw[aR (y:=(n,(n+1,x.2.2)))]
   rotate_left
   ·simp (disch:=omega) only[au,Int.toNat_natCast,wrap64]
   refine aI.trans ?_
   refine(bind_eq (r:=(n3,y3)) ?_ _).trans ?_
   ·simp (disch:=omega) only[au,Int.toNat_natCast,wrap64,e3]
   rw[aR (y:=(n,(n+1,y3)))]
   rotate_left
   ·simp (disch:=omega) only[au,Int.toNat_natCast,wrap64]
   simp (disch:=omega) only[wrap64,cz hd]
  ·simp only[Int.toNat_natCast]
   refine bX.trans ?_
   refine aI.trans ?_
   refine(bw (cC ?_)).trans ?_
   ·simp (disch:=omega) only[au,Int.toNat_natCast,wrap64]
   refine aI.trans ?_
   refine(bw (cC ?_)).trans ?_
   ·simp (disch:=omega) only[au,Int.toNat_natCast,wrap64]
   refine aI.trans ?_
   refine(bind_eq (r:=(n3,())) ?_ _).trans ?_
   ·simp (disch:=omega) only[au,Int.toNat_natCast,wrap64,q3]
   refine(bw z3).trans ?_
   simp (disch:=omega) only[wrap64,cz hd]
theorem Ol:pn (.sl aU) (oD k) (oK k):=by
 refine fo hk ?_ ?_ ?_
 ·intro G l n i hi
  simp only[aw]
  rw[if_neg (by simp;omega)]
 ·intro G l n i hi
  simp only[aw]
  rw[if_neg (by simp;omega)]
 ·intro x n h1 h2
  unfold bu at h2
  have t0:=nH hk x
  obtain⟨n1,y1,e1,a1,b1,q1⟩:=eG hk (x.1) (n) (by omega) (by unfold bu;omega)
  have z1:decide (n1<0)=false:=by simp;omega
  refine⟨n1+1,(y1,((Int.tmod (n1) 3:Int)==0)),by omega,by omega,fun G d r hd=> ?_,fun G d r hd=> ?_⟩
  ·simp only[Int.toNat_natCast]
   refine bX.trans ?_
   refine aI.trans ?_
   refine(bind_eq (r:=(n1,y1)) ?_ _).trans ?_
   ·simp (disch:=omega) only[au,Int.toNat_natCast,wrap64,e1]
   rw[aR (y:=(y1,x.2))]
   rotate_left
   ·simp (disch:=omega) only[au,Int.toNat_natCast,wrap64]
   refine(if_pos UR).trans ?_
   refine aI.trans ?_
   rw[aR (y:=(y1,((Int.tmod (n1) 3:Int)==0)))]
   rotate_left
   ·simp (disch:=omega) only[au,Int.toNat_natCast,wrap64]
   simp (disch:=omega) only[wrap64,cz hd]
  ·simp only[Int.toNat_natCast]
   refine bX.trans ?_
   refine aI.trans ?_
   refine(bind_eq (r:=(n1,())) ?_ _).trans ?_
   ·simp (disch:=omega) only[au,Int.toNat_natCast,wrap64,q1]
   refine(bw z1).trans ?_
   refine aI.trans ?_
   refine(if_pos UR).trans ?_
   refine(bw (To ?_)).trans ?_
   ·simp (disch:=omega) only[au,Int.toNat_natCast,wrap64]
   simp (disch:=omega) only[wrap64,cz hd]
theorem Ln:pn (.sl aj) (mi k) (mc k):=by
 refine fo hk ?_ ?_ ?_
 ·intro G l n i hi
  simp only[aw]
  rw[if_neg (by simp;omega)]
 ·intro G l n i hi
  simp only[aw]
  rw[if_neg (by simp;omega)]
 ·intro x n h1 h2
  unfold bu at h2
  have t0:=gN hk x
  obtain⟨n2,y2,e2,a2,b2,q2⟩:=fy hk (x.2.1) (n+1) (by omega) (by unfold bu;omega)
  have z2:decide (n2<0)=false:=by simp;omega
  obtain⟨n5,y5,e5,a5,b5,q5⟩:=eG hk (x.2.2.2.2) (n2+1+1) (by omega) (by unfold bu;omega)
  have z5:decide (n5<0)=false:=by simp;omega
  refine⟨n5,(n,(y2,(n2,(n2+1,y5)))),by omega,by omega,fun G d r hd=> ?_,fun G d r hd=> ?_⟩
  ·simp only[Int.toNat_natCast]
   refine bX.trans ?_
   refine aI.trans ?_
   rw[aR (y:=(n,x.2))]
   rotate_left
   ·simp (disch:=omega) only[au,Int.toNat_natCast,wrap64]
   refine aI.trans ?_
   refine(bind_eq (r:=(n2,y2)) ?_ _).trans ?_
   ·simp (disch:=omega) only[au,Int.toNat_natCast,wrap64,e2]
   rw[aR (y:=(n,(y2,x.2.2)))]
   rotate_left
   ·simp (disch:=omega) only[au,Int.toNat_natCast,wrap64]
   refine aI.trans ?_
   rw[aR (y:=(n,(y2,(n2,x.2.2.2))))]
   rotate_left
   ·simp (disch:=omega) only[au,Int.toNat_natCast,wrap64]
   refine aI.trans ?_
   rw[aR (y:=(n,(y2,(n2,(n2+1,x.2.2.2.2)))))]
   rotate_left
   ·simp (disch:=omega) only[au,Int.toNat_natCast,wrap64]
   refine aI.trans ?_
   refine(bind_eq (r:=(n5,y5)) ?_ _).trans ?_
   ·simp (disch:=omega) only[au,Int.toNat_natCast,wrap64,e5]
   rw[aR (y:=(n,(y2,(n2,(n2+1,y5)))))]
   rotate_left
   ·simp (disch:=omega) only[au,Int.toNat_natCast,wrap64]
   simp (disch:=omega) only[wrap64,cz hd]
  ·simp only[Int.toNat_natCast]
   refine bX.trans ?_
   refine aI.trans ?_
   refine(bw (cC ?_)).trans ?_
   ·simp (disch:=omega) only[au,Int.toNat_natCast,wrap64]
   refine aI.trans ?_
   refine(bind_eq (r:=(n2,())) ?_ _).trans ?_
   ·simp (disch:=omega) only[au,Int.toNat_natCast,wrap64,q2]
   refine(bw z2).trans ?_
   refine aI.trans ?_
   refine(bw (cC ?_)).trans ?_
   ·simp (disch:=omega) only[au,Int.toNat_natCast,wrap64]
   refine aI.trans ?_
   refine(bw (cC ?_)).trans ?_
   ·simp (disch:=omega) only[au,Int.toNat_natCast,wrap64]
   refine aI.trans ?_
   refine(bind_eq (r:=(n5,())) ?_ _).trans ?_
   ·simp (disch:=omega) only[au,Int.toNat_natCast,wrap64,q5]
   refine(bw z5).trans ?_
   simp (disch:=omega) only[wrap64,cz hd]
theorem Lm:pn (.sl aC) (lX k) (mj k):=by
 refine fo hk ?_ ?_ ?_
 ·intro G l n i hi
  simp only[aw]
  rw[if_neg (by simp;omega)]
 ·intro G l n i hi
  simp only[aw]
  rw[if_neg (by simp;omega)]
 ·intro x n h1 h2
  unfold bu at h2
  have t0:=Ae hk x
  refine⟨n+1+1,(n,n+1),by omega,by omega,fun G d r hd=> ?_,fun G d r hd=> ?_⟩
  ·simp only[Int.toNat_natCast]
   refine bX.trans ?_
   refine aI.trans ?_
   rw[aR (y:=(n,x.2))]
   rotate_left
   ·simp (disch:=omega) only[au,Int.toNat_natCast,wrap64]
   refine aI.trans ?_
   rw[aR (y:=(n,n+1))]
   rotate_left
   ·simp (disch:=omega) only[au,Int.toNat_natCast,wrap64]
   simp (disch:=omega) only[wrap64,cz hd]
  ·simp only[Int.toNat_natCast]
   refine bX.trans ?_
   refine aI.trans ?_
   refine(bw (cC ?_)).trans ?_
   ·simp (disch:=omega) only[au,Int.toNat_natCast,wrap64]
   refine aI.trans ?_
   refine(bw (cC ?_)).trans ?_
   ·simp (disch:=omega) only[au,Int.toNat_natCast,wrap64]
   simp (disch:=omega) only[wrap64,cz hd]
theorem K0:pn (.sl aN) (ma k) (mh k):=by
 refine fo hk ?_ ?_ ?_
 ·intro G l n i hi
  simp only[aw]
  rw[if_neg (by simp;omega)]
 ·intro G l n i hi
  simp only[aw]
  rw[if_neg (by simp;omega)]
 ·intro x n h1 h2
  unfold bu at h2
  have t0:=nG hk x
  obtain⟨n2,y2,e2,a2,b2,q2⟩:=fy hk (x.2.1) (n+1) (by omega) (by unfold bu;omega)
  have z2:decide (n2<0)=false:=by simp;omega
  obtain⟨n4,y4,e4,a4,b4,q4⟩:=eG hk (x.2.2.2) (n2+1) (by omega) (by unfold bu;omega)
  have z4:decide (n4<0)=false:=by simp;omega
  refine⟨n4,(n,(y2,(n2,y4))),by omega,by omega,fun G d r hd=> ?_,fun G d r hd=> ?_⟩
  ·simp only[Int.toNat_natCast]
   refine bX.trans ?_
   refine aI.trans ?_
   rw[aR (y:=(n,x.2))]
   rotate_left
   ·simp (disch:=omega) only[au,Int.toNat_natCast,wrap64]
   refine aI.trans ?_
   refine(bind_eq (r:=(n2,y2)) ?_ _).trans ?_
   ·simp (disch:=omega) only[au,Int.toNat_natCast,wrap64,e2]
   rw[aR (y:=(n,(y2,x.2.2)))]
   rotate_left
   ·simp (disch:=omega) only[au,Int.toNat_natCast,wrap64]
   refine aI.trans ?_
   rw[aR (y:=(n,(y2,(n2,x.2.2.2))))]
   rotate_left
   ·simp (disch:=omega) only[au,Int.toNat_natCast,wrap64]
   refine aI.trans ?_
   refine(bind_eq (r:=(n4,y4)) ?_ _).trans ?_
   ·simp (disch:=omega) only[au,Int.toNat_natCast,wrap64,e4]
   rw[aR (y:=(n,(y2,(n2,y4))))]
   rotate_left
   ·simp (disch:=omega) only[au,Int.toNat_natCast,wrap64]
   simp (disch:=omega) only[wrap64,cz hd]
  ·simp only[Int.toNat_natCast]
   refine bX.trans ?_
   refine aI.trans ?_
   refine(bw (cC ?_)).trans ?_
   ·simp (disch:=omega) only[au,Int.toNat_natCast,wrap64]
   refine aI.trans ?_
   refine(bind_eq (r:=(n2,())) ?_ _).trans ?_
   ·simp (disch:=omega) only[au,Int.toNat_natCast,wrap64,q2]
   refine(bw z2).trans ?_
   refine aI.trans ?_
   refine(bw (cC ?_)).trans ?_
   ·simp (disch:=omega) only[au,Int.toNat_natCast,wrap64]
   refine aI.trans ?_
   refine(bind_eq (r:=(n4,())) ?_ _).trans ?_
   ·simp (disch:=omega) only[au,Int.toNat_natCast,wrap64,q4]
   refine(bw z4).trans ?_
   simp (disch:=omega) only[wrap64,cz hd]
theorem Ot:pn (.sl (.int .i64)) (oP k) (ov k):=by
 refine fo hk ?_ ?_ ?_
 ·intro G l n i hi
  simp only[aw]
  rw[if_neg (by simp;omega)]
 ·intro G l n i hi
  simp only[aw]
  rw[if_neg (by simp;omega)]
 ·intro x n h1 h2
  unfold bu at h2
  refine⟨n+1,n,by omega,by omega,fun G d r hd=> ?_,fun G d r hd=> ?_⟩
  ·simp only[Int.toNat_natCast]
   refine bX.trans ?_
   refine aI.trans ?_
   rw[aR (y:=n)]
   rotate_left
   ·simp (disch:=omega) only[au,Int.toNat_natCast,wrap64]
   simp (disch:=omega) only[wrap64,cz hd]
  ·simp only[Int.toNat_natCast]
   refine bX.trans ?_
   refine aI.trans ?_
   refine(bw (cC ?_)).trans ?_
   ·simp (disch:=omega) only[au,Int.toNat_natCast,wrap64]
   simp (disch:=omega) only[wrap64,cz hd]
set_option maxHeartbeats 4000000 in
theorem M8:pn (.sl ah) (nr k) (nv k):=by
 refine fo hk ?_ ?_ ?_
 ·intro G l n i hi
  simp only[aw]
  rw[if_neg (by simp;omega)]
 ·intro G l n i hi
  simp only[aw]
  rw[if_neg (by simp;omega)]
 ·intro x n h1 h2
  unfold bu at h2
  have t0:=dI hk x
  have t1:=ch hk x.2.2.1
  obtain⟨n3,y3,e3,a3,b3,q3⟩:=fy hk (x.2.2.1.1) (n+1+1) (by omega) (by unfold bu;omega)
  have z3:decide (n3<0)=false:=by simp;omega
  obtain⟨s6,e6⟩:=j7 hk (n:=n3+1+1) (by omega) (by unfold bu;omega)
  obtain⟨n7,y7,e7,a7,b7,q7⟩:=fy hk (x.2.2.2.1) (n3+1+1+1) (by omega) (by unfold bu;omega)
  have z7:decide (n7<0)=false:=by simp;omega
  obtain⟨n9,y9,e9,a9,b9,q9⟩:=Ot hk (x.2.2.2.2.2.1) (n7+1) (by omega) (by unfold bu;omega)
  have z9:decide (n9<0)=false:=by simp;omega
  obtain⟨n10,y10,e10,a10,b10,MD⟩:=eG hk (x.2.2.2.2.2.2.1) (n9) (by omega) (by unfold bu;omega)
  have z10:decide (n10<0)=false:=by simp;omega
  refine⟨n10+1+1,(n,(n+1,((y3,(n3,(n3+1,s6))),(y7,(n7,(y9,(y10,(n10,n10+1)))))))),by omega,by omega,fun G d r hd=> ?_,fun G d r hd=> ?_⟩
  ·simp only[Int.toNat_natCast]
   refine bX.trans ?_
   refine aI.trans ?_
   rw[aR (y:=(n,x.2))]
   rotate_left
   ·simp (disch:=omega) only[au,Int.toNat_natCast,wrap64]
   refine aI.trans ?_
   rw[aR (y:=(n,(n+1,x.2.2)))]
   rotate_left
   ·simp (disch:=omega) only[au,Int.toNat_natCast,wrap64]
   refine aI.trans ?_
   refine(bind_eq (r:=(n3,y3)) ?_ _).trans ?_
   ·simp (disch:=omega) only[au,Int.toNat_natCast,wrap64,e3]
   rw[aR (y:=(n,(n+1,((y3,x.2.2.1.2),x.2.2.2))))]
   rotate_left
   ·simp (disch:=omega) only[au,Int.toNat_natCast,wrap64]
   refine aI.trans ?_
   rw[aR (y:=(n,(n+1,((y3,(n3,x.2.2.1.2.2)),x.2.2.2))))]
   rotate_left
   ·simp (disch:=omega) only[au,Int.toNat_natCast,wrap64]
   refine aI.trans ?_
   rw[aR (y:=(n,(n+1,((y3,(n3,(n3+1,x.2.2.1.2.2.2))),x.2.2.2))))]
   rotate_left
   ·simp (disch:=omega) only[au,Int.toNat_natCast,wrap64]
   refine(bind_eq (r:=(s6,())) ?_ _).trans ?_
   ·simp (disch:=omega) only[au,Int.toNat_natCast,wrap64,e6]
   refine aI.trans ?_
   rw[aR (y:=(n,(n+1,((y3,(n3,(n3+1,s6))),x.2.2.2))))]
   rotate_left
   ·simp (disch:=omega) only[au,Int.toNat_natCast,wrap64]
   refine aI.trans ?_
   refine(bind_eq (r:=(n7,y7)) ?_ _).trans ?_
   ·simp (disch:=omega) only[au,Int.toNat_natCast,wrap64,e7]
   rw[aR (y:=(n,(n+1,((y3,(n3,(n3+1,s6))),(y7,x.2.2.2.2)))))]
   rotate_left
   ·simp (disch:=omega) only[au,Int.toNat_natCast,wrap64]
   refine aI.trans ?_
   rw[aR (y:=(n,(n+1,((y3,(n3,(n3+1,s6))),(y7,(n7,x.2.2.2.2.2))))))]
   rotate_left
   ·simp (disch:=omega) only[au,Int.toNat_natCast,wrap64]
   refine aI.trans ?_
   refine(bind_eq (r:=(n9,y9)) ?_ _).trans ?_
   ·simp (disch:=omega) only[au,Int.toNat_natCast,wrap64,e9]
   rw[aR (y:=(n,(n+1,((y3,(n3,(n3+1,s6))),(y7,(n7,(y9,x.2.2.2.2.2.2)))))))]
   rotate_left
   ·simp (disch:=omega) only[au,Int.toNat_natCast,wrap64]
   refine aI.trans ?_
   refine(bind_eq (r:=(n10,y10)) ?_ _).trans ?_
   ·simp (disch:=omega) only[au,Int.toNat_natCast,wrap64,e10]
   rw[aR (y:=(n,(n+1,((y3,(n3,(n3+1,s6))),(y7,(n7,(y9,(y10,x.2.2.2.2.2.2.2))))))))]
   rotate_left
   ·simp (disch:=omega) only[au,Int.toNat_natCast,wrap64]
   refine aI.trans ?_
   rw[aR (y:=(n,(n+1,((y3,(n3,(n3+1,s6))),(y7,(n7,(y9,(y10,(n10,x.2.2.2.2.2.2.2.2)))))))))]
   rotate_left
   ·simp (disch:=omega) only[au,Int.toNat_natCast,wrap64]
   refine aI.trans ?_
   rw[aR (y:=(n,(n+1,((y3,(n3,(n3+1,s6))),(y7,(n7,(y9,(y10,(n10,n10+1)))))))))]
   rotate_left
   ·simp (disch:=omega) only[au,Int.toNat_natCast,wrap64]
   simp (disch:=omega) only[wrap64,cz hd]
  ·simp only[Int.toNat_natCast]
   refine bX.trans ?_
   refine aI.trans ?_
   refine(bw (cC ?_)).trans ?_
   ·simp (disch:=omega) only[au,Int.toNat_natCast,wrap64]
   refine aI.trans ?_
   refine(bw (cC ?_)).trans ?_
   ·simp (disch:=omega) only[au,Int.toNat_natCast,wrap64]
   refine aI.trans ?_
   refine(bind_eq (r:=(n3,())) ?_ _).trans ?_
   ·simp (disch:=omega) only[au,Int.toNat_natCast,wrap64,q3]
   refine(bw z3).trans ?_
   refine aI.trans ?_
   refine(bw (cC ?_)).trans ?_
   ·simp (disch:=omega) only[au,Int.toNat_natCast,wrap64]
   refine aI.trans ?_
   refine(bw (cC ?_)).trans ?_
   ·simp (disch:=omega) only[au,Int.toNat_natCast,wrap64]
   refine aI.trans ?_
   refine(bind_eq (r:=(s6,())) ?_ _).trans ?_
   ·simp (disch:=omega) only[au,Int.toNat_natCast,wrap64,e6]
   refine(bw (vG ?_)).trans ?_
   ·simp (disch:=omega) only[au,Int.toNat_natCast,wrap64]
   refine aI.trans ?_
   refine(bind_eq (r:=(n7,())) ?_ _).trans ?_
   ·simp (disch:=omega) only[au,Int.toNat_natCast,wrap64,q7]
   refine(bw z7).trans ?_
   refine aI.trans ?_
   refine(bw (cC ?_)).trans ?_
   ·simp (disch:=omega) only[au,Int.toNat_natCast,wrap64]
   refine aI.trans ?_
   refine(bind_eq (r:=(n9,())) ?_ _).trans ?_
   ·simp (disch:=omega) only[au,Int.toNat_natCast,wrap64,q9]
   refine(bw z9).trans ?_
   refine aI.trans ?_
   refine(bind_eq (r:=(n10,())) ?_ _).trans ?_
   ·simp (disch:=omega) only[au,Int.toNat_natCast,wrap64,MD]
   refine(bw z10).trans ?_
   refine aI.trans ?_
   refine(bw (cC ?_)).trans ?_
   ·simp (disch:=omega) only[au,Int.toNat_natCast,wrap64]
   refine aI.trans ?_
   refine(bw (cC ?_)).trans ?_
   ·simp (disch:=omega) only[au,Int.toNat_natCast,wrap64]
   simp (disch:=omega) only[wrap64,cz hd]
set_option maxHeartbeats 4000000 in
theorem Ng:pn (.sl aq) (nw k) (nz k):=by
 refine fo hk ?_ ?_ ?_
 ·intro G l n i hi
  simp only[aw]
  rw[if_neg (by simp;omega)]
 ·intro G l n i hi
  simp only[aw]
  rw[if_neg (by simp;omega)]
 ·intro x n h1 h2
  unfold bu at h2
  have t0:=kE hk x
  have t1:=ch hk x.2.2.1
  obtain⟨n3,y3,e3,a3,b3,q3⟩:=fy hk (x.2.2.1.1) (n+1+1) (by omega) (by unfold bu;omega)
  have z3:decide (n3<0)=false:=by simp;omega
  obtain⟨s6,e6⟩:=j7 hk (n:=n3+1+1) (by omega) (by unfold bu;omega)
  obtain⟨n7,y7,e7,a7,b7,q7⟩:=fy hk (x.2.2.2.1) (n3+1+1+1) (by omega) (by unfold bu;omega)
  have z7:decide (n7<0)=false:=by simp;omega
  obtain⟨n11,y11,e11,a11,b11,UN⟩:=eG hk (x.2.2.2.2.2.2.2.1) (n7+1+1+1) (by omega) (by unfold bu;omega)
  have z11:decide (n11<0)=false:=by simp;omega
  refine⟨n11+1+1+1+1,(n,(n+1,((y3,(n3,(n3+1,s6))),(y7,(n7,(n7+1,(n7+1+1,(y11,(n11,(n11+1,(n11+1+1,n11+1+1+1))))))))))),by omega,by omega,fun G d r hd=> ?_,fun G d r hd=> ?_⟩
  ·simp only[Int.toNat_natCast]
   refine bX.trans ?_
   refine aI.trans ?_
   rw[aR (y:=(n,x.2))]
   rotate_left
   ·simp (disch:=omega) only[au,Int.toNat_natCast,wrap64]
   refine aI.trans ?_
   rw[aR (y:=(n,(n+1,x.2.2)))]
   rotate_left
   ·simp (disch:=omega) only[au,Int.toNat_natCast,wrap64]
   refine aI.trans ?_
   refine(bind_eq (r:=(n3,y3)) ?_ _).trans ?_
   ·simp (disch:=omega) only[au,Int.toNat_natCast,wrap64,e3]
   rw[aR (y:=(n,(n+1,((y3,x.2.2.1.2),x.2.2.2))))]
   rotate_left
   ·simp (disch:=omega) only[au,Int.toNat_natCast,wrap64]
   refine aI.trans ?_
   rw[aR (y:=(n,(n+1,((y3,(n3,x.2.2.1.2.2)),x.2.2.2))))]
   rotate_left
   ·simp (disch:=omega) only[au,Int.toNat_natCast,wrap64]
   refine aI.trans ?_
   rw[aR (y:=(n,(n+1,((y3,(n3,(n3+1,x.2.2.1.2.2.2))),x.2.2.2))))]
   rotate_left
   ·simp (disch:=omega) only[au,Int.toNat_natCast,wrap64]
   refine(bind_eq (r:=(s6,())) ?_ _).trans ?_
   ·simp (disch:=omega) only[au,Int.toNat_natCast,wrap64,e6]
   refine aI.trans ?_
   rw[aR (y:=(n,(n+1,((y3,(n3,(n3+1,s6))),x.2.2.2))))]
   rotate_left
   ·simp (disch:=omega) only[au,Int.toNat_natCast,wrap64]
   refine aI.trans ?_
   refine(bind_eq (r:=(n7,y7)) ?_ _).trans ?_
   ·simp (disch:=omega) only[au,Int.toNat_natCast,wrap64,e7]
   rw[aR (y:=(n,(n+1,((y3,(n3,(n3+1,s6))),(y7,x.2.2.2.2)))))]
   rotate_left
   ·simp (disch:=omega) only[au,Int.toNat_natCast,wrap64]
   refine aI.trans ?_
   rw[aR (y:=(n,(n+1,((y3,(n3,(n3+1,s6))),(y7,(n7,x.2.2.2.2.2))))))]
   rotate_left
   ·simp (disch:=omega) only[au,Int.toNat_natCast,wrap64]
   refine aI.trans ?_
   rw[aR (y:=(n,(n+1,((y3,(n3,(n3+1,s6))),(y7,(n7,(n7+1,x.2.2.2.2.2.2)))))))]
   rotate_left
   ·simp (disch:=omega) only[au,Int.toNat_natCast,wrap64]
   refine aI.trans ?_
   rw[aR (y:=(n,(n+1,((y3,(n3,(n3+1,s6))),(y7,(n7,(n7+1,(n7+1+1,x.2.2.2.2.2.2.2))))))))]
   rotate_left
   ·simp (disch:=omega) only[au,Int.toNat_natCast,wrap64]
   refine aI.trans ?_
   refine(bind_eq (r:=(n11,y11)) ?_ _).trans ?_
   ·simp (disch:=omega) only[au,Int.toNat_natCast,wrap64,e11]
   rw[aR (y:=(n,(n+1,((y3,(n3,(n3+1,s6))),(y7,(n7,(n7+1,(n7+1+1,(y11,x.2.2.2.2.2.2.2.2)))))))))]
   rotate_left
   ·simp (disch:=omega) only[au,Int.toNat_natCast,wrap64]
   refine aI.trans ?_
   rw[aR (y:=(n,(n+1,((y3,(n3,(n3+1,s6))),(y7,(n7,(n7+1,(n7+1+1,(y11,(n11,x.2.2.2.2.2.2.2.2.2))))))))))]
   rotate_left
   ·simp (disch:=omega) only[au,Int.toNat_natCast,wrap64]
   refine aI.trans ?_
   rw[aR (y:=(n,(n+1,((y3,(n3,(n3+1,s6))),(y7,(n7,(n7+1,(n7+1+1,(y11,(n11,(n11+1,x.2.2.2.2.2.2.2.2.2.2)))))))))))]
   rotate_left
   ·simp (disch:=omega) only[au,Int.toNat_natCast,wrap64]
   refine aI.trans ?_
   rw[aR (y:=(n,(n+1,((y3,(n3,(n3+1,s6))),(y7,(n7,(n7+1,(n7+1+1,(y11,(n11,(n11+1,(n11+1+1,x.2.2.2.2.2.2.2.2.2.2.2))))))))))))]
   rotate_left
   ·simp (disch:=omega) only[au,Int.toNat_natCast,wrap64]
   refine aI.trans ?_
   rw[aR (y:=(n,(n+1,((y3,(n3,(n3+1,s6))),(y7,(n7,(n7+1,(n7+1+1,(y11,(n11,(n11+1,(n11+1+1,n11+1+1+1))))))))))))]
   rotate_left
   ·simp (disch:=omega) only[au,Int.toNat_natCast,wrap64]
   simp (disch:=omega) only[wrap64,cz hd]
  ·simp only[Int.toNat_natCast]
   refine bX.trans ?_
   refine aI.trans ?_
   refine(bw (cC ?_)).trans ?_
   ·simp (disch:=omega) only[au,Int.toNat_natCast,wrap64]
   refine aI.trans ?_
   refine(bw (cC ?_)).trans ?_
   ·simp (disch:=omega) only[au,Int.toNat_natCast,wrap64]
   refine aI.trans ?_
   refine(bind_eq (r:=(n3,())) ?_ _).trans ?_
   ·simp (disch:=omega) only[au,Int.toNat_natCast,wrap64,q3]
   refine(bw z3).trans ?_
   refine aI.trans ?_
   refine(bw (cC ?_)).trans ?_
   ·simp (disch:=omega) only[au,Int.toNat_natCast,wrap64]
   refine aI.trans ?_
   refine(bw (cC ?_)).trans ?_
   ·simp (disch:=omega) only[au,Int.toNat_natCast,wrap64]
   refine aI.trans ?_
   refine(bind_eq (r:=(s6,())) ?_ _).trans ?_
   ·simp (disch:=omega) only[au,Int.toNat_natCast,wrap64,e6]
   refine(bw (vG ?_)).trans ?_
   ·simp (disch:=omega) only[au,Int.toNat_natCast,wrap64]
   refine aI.trans ?_
   refine(bind_eq (r:=(n7,())) ?_ _).trans ?_
   ·simp (disch:=omega) only[au,Int.toNat_natCast,wrap64,q7]
   refine(bw z7).trans ?_
   refine aI.trans ?_
   refine(bw (cC ?_)).trans ?_
   ·simp (disch:=omega) only[au,Int.toNat_natCast,wrap64]
   refine aI.trans ?_
   refine(bw (cC ?_)).trans ?_
   ·simp (disch:=omega) only[au,Int.toNat_natCast,wrap64]
   refine aI.trans ?_
   refine(bw (cC ?_)).trans ?_
   ·simp (disch:=omega) only[au,Int.toNat_natCast,wrap64]
   refine aI.trans ?_
   refine(bind_eq (r:=(n11,())) ?_ _).trans ?_
   ·simp (disch:=omega) only[au,Int.toNat_natCast,wrap64,UN]
   refine(bw z11).trans ?_
   refine aI.trans ?_
   refine(bw (cC ?_)).trans ?_
   ·simp (disch:=omega) only[au,Int.toNat_natCast,wrap64]
   refine aI.trans ?_
   refine(bw (cC ?_)).trans ?_
   ·simp (disch:=omega) only[au,Int.toNat_natCast,wrap64]
   refine aI.trans ?_
   refine(bw (cC ?_)).trans ?_
   ·simp (disch:=omega) only[au,Int.toNat_natCast,wrap64]
   refine aI.trans ?_
   refine(bw (cC ?_)).trans ?_
   ·simp (disch:=omega) only[au,Int.toNat_natCast,wrap64]
   simp (disch:=omega) only[wrap64,cz hd]
theorem zO (x:ar) (n:Int) (h1:1≤n) (h2:n+20*(ag aE x:Int)≤bu):∃(n9:Int) (y1:List ByteArray) (y2:List aG) (y3:List bF) (y4:List al) (y5:List aJ) (y6:List bl) (y7:List bz) (y8:List al) (y9:List aL) (y10:List bg),fV k x n=some (n9,(((x.1.1,(x.1.2.1,(x.1.2.2.1,(x.1.2.2.2.1,(x.1.2.2.2.2.1,y1))))),(x.2.1,(x.2.2.1,(y2,(y3,(y4,(x.2.2.2.2.2.2.1,(y5,(x.2.2.2.2.2.2.2.2.1,(y6,(y7,(y8,(y9,y10))))))))))))):ar))∧n≤n9∧n9≤n+20*(ag aE x:Int)∧fY k ((((x.1.1,(x.1.2.1,(x.1.2.2.1,(x.1.2.2.2.1,(x.1.2.2.2.2.1,y1))))),(x.2.1,(x.2.2.1,(y2,(y3,(y4,(x.2.2.2.2.2.2.1,(y5,(x.2.2.2.2.2.2.2.2.1,(y6,(y7,(y8,(y9,y10))))))))))))):ar),n,())=some (n9,()):=by
 unfold bu at h2
 have t0:=gG hk x
 have t1:=jq hk x.1
 obtain⟨n1,y1,e1,a1,b1,q1⟩:=Jh hk (x.1.2.2.2.2.2) (n) (by omega) (by unfold bu;omega)
 have z1:decide (n1<0)=false:=by simp;omega
 obtain⟨n2,y2,e2,a2,b2,q2⟩:=MS hk (x.2.2.2.1) (n1) (by omega) (by unfold bu;omega)
 have z2:decide (n2<0)=false:=by simp;omega
 obtain⟨n3,y3,e3,a3,b3,q3⟩:=Ol hk (x.2.2.2.2.1) (n2) (by omega) (by unfold bu;omega)
 have z3:decide (n3<0)=false:=by simp;omega
 obtain⟨n4,y4,e4,a4,b4,q4⟩:=eG hk (x.2.2.2.2.2.1) (n3) (by omega) (by unfold bu;omega)
 have z4:decide (n4<0)=false:=by simp;omega
 obtain⟨n5,y5,e5,a5,b5,q5⟩:=Ln hk (x.2.2.2.2.2.2.2.1) (n4) (by omega) (by unfold bu;omega)
 have z5:decide (n5<0)=false:=by simp;omega
 obtain⟨n6,y6,e6,a6,b6,q6⟩:=Lm hk (x.2.2.2.2.2.2.2.2.2.1) (n5) (by omega) (by unfold bu;omega)
 have z6:decide (n6<0)=false:=by simp;omega
 obtain⟨n7,y7,e7,a7,b7,q7⟩:=K0 hk (x.2.2.2.2.2.2.2.2.2.2.1) (n6) (by omega) (by unfold bu;omega)
 have z7:decide (n7<0)=false:=by simp;omega
 obtain⟨n8,y8,e8,a8,b8,q8⟩:=eG hk (x.2.2.2.2.2.2.2.2.2.2.2.1) (n7) (by omega) (by unfold bu;omega)
 have z8:decide (n8<0)=false:=by simp;omega
 obtain⟨n9,y9,e9,a9,b9,q9⟩:=M8 hk (x.2.2.2.2.2.2.2.2.2.2.2.2.1) (n8) (by omega) (by unfold bu;omega)
 have z9:decide (n9<0)=false:=by simp;omega
 obtain⟨n10,y10,e10,a10,b10,MD⟩:=Ng hk (x.2.2.2.2.2.2.2.2.2.2.2.2.2) (n9) (by omega) (by unfold bu;omega)
 have z10:decide (n10<0)=false:=by simp;omega
 refine⟨n10,y1,y2,y3,y4,y5,y6,y7,y8,y9,y10,?_,by omega,by omega,?_⟩
 ·simp only[fV,oj,e1,e2,e3,e4,e5,e6,e7,e8,e9,e10,Option.bind_some]
 ·simp only[fY,ot,q1,z1,q2,z2,q3,z3,q4,z4,q5,z5,q6,z6,q7,z7,q8,z8,q9,z9,MD,z10,Option.bind_some,Bool.false_eq_true,if_false]
end
end Vg.Tryz
namespace Vg.Tryz
open Go Vg
set_option linter.unusedVariables false
set_option linter.unusedSectionVars false
set_option linter.unusedSimpArgs false
def CF (s:ByteArray) (i:Nat):Bool:=decide (97≤bt s i)&&decide (bt s i≤122)
def eL (s:ByteArray):Bool:=decide (1≤s.size∧s.size≤8)&&bd 0 s.size (CF s)
def sw (s:ByteArray) (i:Nat):Bool:=decide (32≤bt s i∧bt s i≤126∧bt s i≠34∧bt s i≠92)
def jT (s:ByteArray):Bool:=decide (s.size≤12)&&bd 0 s.size (sw s)
def fl (x:ai):Bool:=eL x.1&&jT x.2
def CS (l:List ai) (i:Nat):Bool:=i==0||lp (l.getD (i-1) af.aa).1 (l.getD i af.aa).1
def eJ (l:List ai):Bool:=decide (l.length≤4)&&bd 0 l.length (fun i=>fl (l.getD i af.aa)&&CS l i)
section
variable {k:Nat} (hk:9223372036854775808≤k)
include hk
theorem vg {s:ByteArray} (hs:s.size≤1048576):jG k (s,())=some (eL s,()):=by
 simp only[jG,aP]
 rw[show((s,(0:Int),()):ByteArray×Int×Unit)=(fun i:Nat=>(s,(i:Int),())) 0 from rfl]
 rw[bN (fun i:Nat=>(s,(i:Int),())) (CF s) s.size (e:=some (decide (1≤s.size∧s.size≤8),())) (no:=some (false,())) ?_ ?_ k 0 (by omega)]
 ·unfold eL
  cases bd 0 s.size (CF s)<;>simp
 ·intro G i hi
  simp only
  rw[aw,decide_eq_true hi,if_pos rfl,if_pos (aK hi),aK hi,Bool.or_true,if_pos rfl,aZ (by omega)]
  unfold CF
  by_cases h1:bt s i<97<;>by_cases h2:bt s i>122<;>simp[h1,h2]<;>omega
 ·intro G i hi
  simp only
  rw[aw,decide_eq_false (by omega),if_neg (by simp)]
  simp only[bE,Option.bind_some]
  congr 2
  rw[Bool.eq_iff_iff]
  simp
  omega
theorem xd {s:ByteArray} (hs:s.size≤1048576):jz k (s,())=some (eL s,()):=by
 simp only[jz,bA,Option.bind_some]
 by_cases hb:1≤s.size∧s.size≤8
 ·rw[if_neg (by simp;omega)]
  rw[show((s,(0:Int),()):ByteArray×Int×Unit)=(fun i:Nat=>(s,(i:Int),())) 0 from rfl]
  rw[bN (fun i:Nat=>(s,(i:Int),())) (CF s) s.size (e:=some (true,())) (no:=some (false,())) ?_ ?_ k 0 (by omega)]
  ·unfold eL
   cases bd 0 s.size (CF s)<;>simp[hb]
  ·intro G i hi
   simp only
   rw[aw,decide_eq_true hi,if_pos rfl,if_pos (aK hi),aK hi,Bool.or_true,if_pos rfl,aZ (by omega)]
   unfold CF
   by_cases h1:bt s i<97<;>by_cases h2:bt s i>122<;>simp[h1,h2]<;>omega
  ·intro G i hi
   simp only
   rw[aw,decide_eq_false (by omega),if_neg (by simp)]
 ·rw[if_pos (by simp;omega)]
  unfold eL
  simp[hb]
theorem uD {s:ByteArray} (hs:s.size≤1048576):iI k (s,())=some (jT s,()):=by
 simp only[iI,aP]
 rw[show((s,(0:Int),()):ByteArray×Int×Unit)=(fun i:Nat=>(s,(i:Int),())) 0 from rfl]
 rw[bN (fun i:Nat=>(s,(i:Int),())) (sw s) s.size (e:=some (decide (s.size≤12),())) (no:=some (false,())) ?_ ?_ k 0 (by omega)]
 ·unfold jT
  cases bd 0 s.size (sw s)<;>simp
 ·intro G i hi
  simp only
  rw[aw,decide_eq_true hi,if_pos rfl,if_pos (aK hi),aK hi,Bool.or_true,if_pos rfl,Bool.or_true,if_pos rfl,Bool.or_true,if_pos rfl,aZ (by omega)]
  unfold sw
  by_cases h1:bt s i<32<;>by_cases h2:bt s i>126<;>by_cases h3:bt s i=34<;>by_cases h4:bt s i=92<;>simp[h1,h2,h3,h4]<;>omega
 ·intro G i hi
  simp only
  rw[aw,decide_eq_false (by omega),if_neg (by simp)]
  congr 2
  rw[Bool.eq_iff_iff]
  simp
  omega
theorem uh {s:ByteArray} (hs:s.size≤1048576):iM k (s,())=some (jT s,()):=by
 simp only[iM]
 by_cases hb:s.size≤12
 ·rw[if_neg (by simp;omega)]
  rw[show((s,(0:Int),()):ByteArray×Int×Unit)=(fun i:Nat=>(s,(i:Int),())) 0 from rfl]
  rw[bN (fun i:Nat=>(s,(i:Int),())) (sw s) s.size (e:=some (true,())) (no:=some (false,())) ?_ ?_ k 0 (by omega)]
  ·unfold jT
   cases bd 0 s.size (sw s)<;>simp[hb]
  ·intro G i hi
   simp only
   rw[aw,decide_eq_true hi,if_pos rfl,if_pos (aK hi),aZ (by omega)]
   unfold sw
   by_cases h1:bt s i<32<;>by_cases h2:bt s i>126<;>by_cases h3:bt s i=34<;>by_cases h4:bt s i=92<;>simp[h1,h2,h3,h4]<;>omega
  ·intro G i hi
   simp only
   rw[aw,decide_eq_false (by omega),if_neg (by simp)]
 ·rw[if_pos (by simp;omega)]
  unfold jT
  simp[hb]
theorem Gp {x:ai} (hs:ag af x≤1048576):lS k (x,())=some (fl x,()):=by
 rw[nL hk]at hs
 simp only[lS]
 rw[vg hk (by omega),uD hk (by omega)]
 simp only[bL,Option.bind_some,fl]
 cases eL x.1<;>simp
theorem Gy {x:ai} (hs:ag af x≤1048576):lW k (x,())=some (fl x,()):=by
 rw[nL hk]at hs
 simp only[lW]
 rw[xd hk (by omega),uh hk (by omega)]
 simp only[bL,Option.bind_some,fl]
 cases eL x.1<;>simp
theorem mS {l:List ai} (hs:ag (.sl af) l≤1048576):fX k (l,())=some (eJ l,()):=by
 have hl:=aA (e:=af) (l:=l)
 simp only[fX,aP]
 rw[show((l,(0:Int),()):List ai×Int×Unit)=(fun i:Nat=>(l,(i:Int),())) 0 from rfl]
 rw[bN (fun i:Nat=>(l,(i:Int),())) (fun i=>fl (l.getD i af.aa)&&CS l i) l.length (e:=some (decide (l.length≤4),())) (no:=some (false,())) ?_ ?_ k 0 (by omega)]
 ·unfold eJ
  cases bd 0 l.length (fun i=>fl (l.getD i af.aa)&&CS l i)<;>simp
 ·intro G i hi
  simp only[Int.toNat_natCast]
  have hm:ag af (l.getD i af.aa)≤1048576:=Nat.le_trans (bo (e:=af) (ck hi)) hs
  rw[aw,decide_eq_true hi,if_pos rfl,if_pos (aK hi),Gp hk hm,Option.bind_some,aZ (by omega),pS (by omega)]
  simp only
  rw[if_pos (by simp;omega),if_pos (by simp[hi])]
  simp only[ff,bL,Option.bind_some]
  rw[show((i:Int)-1).toNat=i-1 by omega]
  unfold CS lp
  cases fl (l.getD i af.aa)with
  |false=>simp
  |true=>
   by_cases h0:i=0
   ·subst h0;simp
   ·have h0':(0:Int)<(i:Int):=by omega
    have h0n:0<i:=by omega
    cases Op.bytesLess (ByteArray.toList (l.getD (i-1) af.aa).1) (ByteArray.toList (l.getD i af.aa).1)<;>simp[h0,h0',h0n]
 ·intro G i hi
  simp only
  rw[aw,decide_eq_false (by omega),if_neg (by simp)]
  congr 2
  rw[Bool.eq_iff_iff]
  simp
  omega
theorem mU {l:List ai} (hs:ag (.sl af) l≤1048576):gg k (l,())=some (eJ l,()):=by
 have hl:=aA (e:=af) (l:=l)
 simp only[gg]
 rw[show((l,l,(l.length:Int),(0:Int),()):List ai×List ai×Int×Int×Unit)=(fun i:Nat=>(l,l,(l.length:Int),(i:Int),())) 0 from rfl]
 rw[bN (fun i:Nat=>(l,l,(l.length:Int),(i:Int),())) (fun i=>decide (i<4)&&(fl (l.getD i af.aa)&&CS l i)) l.length (e:=some (true,())) (no:=some (false,())) ?_ ?_ k 0 (by omega)]
 ·unfold eJ
  rw[D0,O6]
  cases bd 0 l.length (fun i=>fl (l.getD i af.aa)&&CS l i)<;>by_cases h:l.length≤4<;>simp[h]
 ·intro G i hi
  simp only[Int.toNat_natCast]
  have hm:ag af (l.getD i af.aa)≤1048576:=Nat.le_trans (bo (e:=af) (ck hi)) hs
  rw[aw,decide_eq_true hi,if_pos rfl,if_pos (aK hi),Gy hk hm,aZ (by omega),pS (by omega)]
  simp only[bL,Option.bind_some]
  rw[show((i:Int)-1).toNat=i-1 by omega]
  rw[if_pos (by simp;omega)]
  unfold CS lp
  by_cases h4:i<4
  ·have h4':¬(4:Int)≤(i:Int):=by omega
   cases fl (l.getD i af.aa)with
   |false=>simp[h4,h4']
   |true=>
    by_cases h0:i=0
    ·subst h0;simp
    ·have h0':(0:Int)<(i:Int):=by omega
     have h0n:0<i:=by omega
     cases Op.bytesLess (ByteArray.toList (l.getD (i-1) af.aa).1) (ByteArray.toList (l.getD i af.aa).1)<;>simp[h0,h0',h0n,h4,h4']
  ·have h4':(4:Int)≤(i:Int):=by omega
   simp[h4,h4']
 ·intro G i hi
  simp only
  rw[aw,decide_eq_false (by omega),if_neg (by simp)]
end
end Vg.Tryz
namespace Vg.Tryz
open Go Vg
set_option linter.unusedVariables false
set_option linter.unusedSectionVars false
set_option linter.unusedSimpArgs false
def bI (n a b:Int):Bool:=decide (a≤n)&&decide (n≤b)
def rK (l:List ByteArray):Bool:=bd 1 l.length (fun i=>lp (l.getD (i-1) ByteArray.empty) (l.getD i ByteArray.empty))
def M6 (l:List ByteArray):Bool:=bd 0 l.length (fun i=>eL (l.getD i ByteArray.empty))&&(decide (l.length≤2)&&rK l)
def gX (c:cg):Bool:=bI c.1 1 3&&bI c.2.1 1 8&&bI c.2.2.1 1 2&&bI c.2.2.2.1 1 9&&bI c.2.2.2.2.1 1 9&&M6 c.2.2.2.2.2
def bY (a:al):Bool:=eJ a.1&&decide (0<a.1.length)&&bI a.2.1 0 99999&&bI a.2.2.1 a.2.1 99999&&jT a.2.2.2
def cj (l:List al):Bool:=bd 0 l.length (fun i=>bY (l.getD i ab.aa))
theorem uZ (a b:Bool):(if a=true then b else false)=(a&&b):=by cases a<;>rfl
section
variable {k:Nat} (hk:9223372036854775808≤k)
include hk
theorem fc (n a b:Int):bE k (n,a,b,())=some (bI n a b,()):=by
 simp only[bE,bI,uZ]
theorem et (n a b:Int):bA k (n,a,b,())=some (bI n a b,()):=by
 simp only[bA,bI,uZ]
theorem uq {l:List ByteArray} (hl:l.length≤1048576):fQ k (l,())=some (rK l,()):=by
 simp only[fQ]
 rw[show((l,(1:Int),()):List ByteArray×Int×Unit)=(fun i:Nat=>(l,((i+1:Nat):Int),())) 0 from rfl]
 rw[bN (fun i:Nat=>(l,((i+1:Nat):Int),())) (fun i=>lp (l.getD i ByteArray.empty) (l.getD (i+1) ByteArray.empty)) (l.length-1) (e:=some (true,())) (no:=some (false,())) ?_ ?_ k 0 (by omega)]
 ·have:rK l=bd 0 (l.length-1) (fun i=>lp (l.getD i ByteArray.empty) (l.getD (i+1) ByteArray.empty)):=by
   unfold rK
   rw[Bool.eq_iff_iff,ee,ee]
   constructor
   ·intro h i _ h2;have:=h (i+1) (by omega) (by omega);simpa using this
   ·intro h i h1 h2;have:=h (i-1) (by omega) (by omega);rw[show i-1+1=i by omega]at this;exact this
  rw[this]
  cases bd 0 (l.length-1) (fun i=>lp (l.getD i ByteArray.empty) (l.getD (i+1) ByteArray.empty))<;>rfl
 ·intro G i hi
  simp only[Int.toNat_natCast]
  rw[aw,decide_eq_true (by omega),if_pos rfl,pS (by omega),aZ (by omega)]
  rw[if_pos (by simp;omega),if_pos (by simp;omega)]
  simp only[ff,Option.bind_some]
  rw[show(((i+1:Nat):Int)-1).toNat=i by omega]
  unfold lp
  cases Op.bytesLess (ByteArray.toList (l.getD i ByteArray.empty)) (ByteArray.toList (l.getD (i+1) ByteArray.empty))<;>simp
 ·intro G i hi
  simp only
  rw[aw,decide_eq_false (by omega),if_neg (by simp)]
theorem QA (l:List ByteArray):lk k (l,())=fQ k (l,()):=by
 simp only[fQ,lk,ff,Option.bind_some]
theorem MQ {l:List ByteArray} (hs:ag (.sl .str) l≤1048576):pN k (l,())=some (M6 l,()):=by
 have hl:=aA (e:= .str) (l:=l)
 simp only[pN,aP]
 rw[show((l,(0:Int),()):List ByteArray×Int×Unit)=(fun i:Nat=>(l,(i:Int),())) 0 from rfl]
 rw[bN (fun i:Nat=>(l,(i:Int),())) (fun i=>eL (l.getD i ByteArray.empty)) l.length (e:=some (decide (l.length≤2)&&rK l,())) (no:=some (false,())) ?_ ?_ k 0 (by omega)]
 ·unfold M6
  cases bd 0 l.length (fun i=>eL (l.getD i ByteArray.empty))<;>simp
 ·intro G i hi
  simp only[Int.toNat_natCast]
  have hm:ag .str (l.getD i ByteArray.empty)≤1048576:=Nat.le_trans (bo (e:= .str) (ck hi)) hs
  rw[aw,decide_eq_true hi,if_pos rfl,if_pos (aK hi),vg hk hm,Option.bind_some,aZ (by omega)]
  cases eL (l.getD i ByteArray.empty)<;>simp
 ·intro G i hi
  simp only
  rw[aw,decide_eq_false (by omega),if_neg (by simp),uq hk (by omega)]
  simp only[bL,Option.bind_some]
  by_cases h:l.length≤2
  ·have h':(l.length:Int)≤2:=by omega
   simp[h,h']
  ·have h':¬(l.length:Int)≤2:=by omega
   simp[h,h']
theorem Nf {l:List ByteArray} (hs:ag (.sl .str) l≤1048576):pW k (l,())=some (M6 l,()):=by
 have hl:=aA (e:= .str) (l:=l)
 simp only[pW,aP]
 rw[show((l,l,(l.length:Int),(0:Int),()):List ByteArray×List ByteArray×Int×Int×Unit)=(fun i:Nat=>(l,l,(l.length:Int),(i:Int),())) 0 from rfl]
 rw[bN (fun i:Nat=>(l,l,(l.length:Int),(i:Int),())) (fun i=>eL (l.getD i ByteArray.empty)) l.length (e:=some (decide (l.length≤2)&&rK l,())) (no:=some (false,())) ?_ ?_ k 0 (by omega)]
 ·unfold M6
  cases bd 0 l.length (fun i=>eL (l.getD i ByteArray.empty))<;>simp
 ·intro G i hi
  simp only[Int.toNat_natCast]
  have hm:ag .str (l.getD i ByteArray.empty)≤1048576:=Nat.le_trans (bo (e:= .str) (ck hi)) hs
  rw[aw,decide_eq_true hi,if_pos rfl,if_pos (aK hi),xd hk hm,Option.bind_some,aZ (by omega)]
  cases eL (l.getD i ByteArray.empty)<;>simp
 ·intro G i hi
  simp only
  rw[aw,decide_eq_false (by omega),if_neg (by simp),QA hk,uq hk (by omega)]
  simp only[bL,Option.bind_some]
  by_cases h:l.length≤2
  ·have h':(l.length:Int)≤2:=by omega
   simp[h,h']
  ·have h':¬(l.length:Int)≤2:=by omega
   simp[h,h']
theorem HE {c:cg} (hs:ag bC c≤1048576):na k (c,())=some (gX c,()):=by
 rw[jq hk]at hs
 simp only[na,fc hk,MQ hk hs,bL,Option.bind_some,gX]
 generalize bI c.1 1 3=b1
 generalize bI c.2.1 1 8=b2
 generalize bI c.2.2.1 1 2=b3
 generalize bI c.2.2.2.1 1 9=b4
 generalize bI c.2.2.2.2.1 1 9=b5
 cases b1<;>cases b2<;>cases b3<;>cases b4<;>cases b5<;>simp
theorem Jn {c:cg} (hs:ag bC c≤1048576):mV k (c,())=some (gX c,()):=by
 rw[jq hk]at hs
 simp only[mV,et hk,Nf hk hs,bL,Option.bind_some,gX]
 generalize bI c.1 1 3=b1
 generalize bI c.2.1 1 8=b2
 generalize bI c.2.2.1 1 2=b3
 generalize bI c.2.2.2.1 1 9=b4
 generalize bI c.2.2.2.2.1 1 9=b5
 cases b1<;>cases b2<;>cases b3<;>cases b4<;>cases b5<;>simp
theorem Pe (l:List ai):decide ((l.length:Int)>0)=decide (0<l.length):=by simp
theorem fm {a:al} (hs:ag ab a≤1048576):dt k (a,())=some (bY a,()):=by
 rw[ch hk]at hs
 simp only[dt,fc hk,mS hk (show ag (.sl af) a.1≤1048576 by omega),uD hk (show a.2.2.2.size≤1048576 by omega),bL,Option.bind_some,bY,Pe hk]
 generalize eJ a.1=b1
 generalize decide (0<a.1.length)=b2
 generalize bI a.2.1 0 99999=b3
 generalize bI a.2.2.1 a.2.1 99999=b4
 cases b1<;>cases b2<;>cases b3<;>cases b4<;>simp
theorem gw {a:al} (hs:ag ab a≤1048576):dR k (a,())=some (bY a,()):=by
 rw[ch hk]at hs
 simp only[dR,et hk,mU hk (show ag (.sl af) a.1≤1048576 by omega),uh hk (show a.2.2.2.size≤1048576 by omega),bL,Option.bind_some,bY,Pe hk]
 generalize eJ a.1=b1
 generalize decide (0<a.1.length)=b2
 generalize bI a.2.1 0 99999=b3
 generalize bI a.2.2.1 a.2.1 99999=b4
 cases b1<;>cases b2<;>cases b3<;>cases b4<;>simp
theorem pH {l:List al} (hs:ag (.sl ab) l≤1048576):gp k (l,())=some (cj l,()):=by
 have hl:=aA (e:=ab) (l:=l)
 simp only[gp]
 rw[show((l,(0:Int),()):List al×Int×Unit)=(fun i:Nat=>(l,(i:Int),())) 0 from rfl]
 rw[bN (fun i:Nat=>(l,(i:Int),())) (fun i=>bY (l.getD i ab.aa)) l.length (e:=some (true,())) (no:=some (false,())) ?_ ?_ k 0 (by omega)]
 ·unfold cj
  cases bd 0 l.length (fun i=>bY (l.getD i ab.aa))<;>simp
 ·intro G i hi
  simp only[Int.toNat_natCast]
  have hm:ag ab (l.getD i ab.aa)≤1048576:=Nat.le_trans (bo (e:=ab) (ck hi)) hs
  rw[aw,decide_eq_true hi,if_pos rfl,if_pos (aK hi),fm hk hm,Option.bind_some,aZ (by omega)]
  cases bY (l.getD i ab.aa)<;>simp
 ·intro G i hi
  simp only
  rw[aw,decide_eq_false (by omega),if_neg (by simp)]
theorem jy {l:List al} (hs:ag (.sl ab) l≤1048576):ez k (l,())=some (cj l,()):=by
 have hl:=aA (e:=ab) (l:=l)
 simp only[ez]
 rw[show((l,(l.length:Int),(0:Int),()):List al×Int×Int×Unit)=(fun i:Nat=>(l,(l.length:Int),(i:Int),())) 0 from rfl]
 rw[bN (fun i:Nat=>(l,(l.length:Int),(i:Int),())) (fun i=>bY (l.getD i ab.aa)) l.length (e:=some (true,())) (no:=some (false,())) ?_ ?_ k 0 (by omega)]
 ·unfold cj
  cases bd 0 l.length (fun i=>bY (l.getD i ab.aa))<;>simp
 ·intro G i hi
  simp only[Int.toNat_natCast]
  have hm:ag ab (l.getD i ab.aa)≤1048576:=Nat.le_trans (bo (e:=ab) (ck hi)) hs
  rw[aw,decide_eq_true hi,if_pos rfl,if_pos (aK hi),gw hk hm,Option.bind_some,aZ (by omega)]
  cases bY (l.getD i ab.aa)<;>simp
 ·intro G i hi
  simp only
  rw[aw,decide_eq_false (by omega),if_neg (by simp)]
end
end Vg.Tryz
namespace Vg.Tryz
open Go Vg
set_option linter.unusedVariables false
set_option linter.unusedSectionVars false
set_option linter.unusedSimpArgs false
def hasB (by_:List ByteArray) (s:ByteArray):Bool:= !bd 0 by_.length (fun i=> !((by_.getD i ByteArray.empty).toList==s.toList))
def keyOf (a:al) (by_:List ByteArray):List ai:=a.1.filter (fun x=>hasB by_ x.1)
def xw (l:List al) (i:Nat):Bool:=i==0||bU (l.getD (i-1) ab.aa).1 (l.getD i ab.aa).1
def vk (l:List al) (key:List ai) (by_:List ByteArray):Bool:=
 bd 0 l.length (fun i=>bY (l.getD i ab.aa)&&(decide (keyOf (l.getD i ab.aa) by_=key)&&xw l i))
def iB (g:aJ) (by_:List ByteArray):Bool:=
 decide (0≤g.1)&&(eJ g.2.1&&(bI g.2.2.1 0 99999&&((decide (g.2.2.2.1= -1)||bI g.2.2.2.1 g.2.2.1 99999)&&(decide (0<g.2.2.2.2.length)&&vk g.2.2.2.2 g.2.1 by_))))
def C5 (l:List aJ) (i:Nat):Bool:=i==0||decide ((l.getD (i-1) aj.aa).1<(l.getD i aj.aa).1)
def mn (l:List aJ) (i:Nat):Bool:=bd 0 i (fun j=> !decide ((l.getD j aj.aa).2.1=(l.getD i aj.aa).2.1))
def nu (l:List aJ) (by_:List ByteArray):Bool:=
 decide (l.length≤12)&&bd 0 l.length (fun i=>iB (l.getD i aj.aa) by_&&(C5 l i&&mn l i))
def pR (s:bF):Bool:=decide (s.1.length≤3)&&((!s.2||decide (s.1.length=0))&&cj s.1)
def jL (a:al):Bool:=bY a&&decide (a.2.2.1≤99899)
section
variable {k:Nat} (hk:9223372036854775808≤k)
include hk
theorem dT {a b:List ai} (ha:a.length≤1048576):cL k (a,b,())=some (decide (a=b),()):=by
 simp only[cL]
 by_cases hl:a.length=b.length
 ·rw[if_neg (by simp[hl])]
  rw[fq (g:=fun(s:List ai×List ai×Int×Unit)=>some (decide (a.drop s.2.2.1.toNat=b.drop s.2.2.1.toNat),())) (m:=fun(s:List ai×List ai×Int×Unit)=>a.length-s.2.2.1.toNat)
   (I:=fun(s:List ai×List ai×Int×Unit)=>s.1=a∧s.2.1=b∧0≤s.2.2.1∧s.2.2.1≤(a.length:Int))]
  ·simp
  ·rintro G ⟨a',b',i,u⟩ ⟨e1,e2,hi0,hi1⟩ hG
   change a'=a at e1
   change b'=b at e2
   subst e1 e2
   simp only at hi0 hi1 hG⊢
   by_cases hi:i<(a'.length:Int)
   ·have h1:i.toNat<a'.length:=by omega
    have h2:i.toNat<b'.length:=by omega
    rw[if_pos (by simpa using hi),if_pos (by simpa using⟨hi0,hi⟩),if_pos (by simpa using⟨hi0,by omega⟩)]
    rw[du (d:=af.aa) h1,du (d:=af.aa) h2]
    by_cases he:a'.getD i.toNat af.aa=b'.getD i.toNat af.aa
    ·have hq:eqv af (a'.getD i.toNat af.aa) (b'.getD i.toNat af.aa)=true:=(rM rfl).2 he
     rw[if_neg (by rw[hq];simp),wrap64 (by omega) (by omega),hG (a',b',i+1,()) ⟨rfl,rfl,by simp only;omega,by simp only;omega⟩ (by simp only;omega)]
     simp only[he,List.cons.injEq,true_and]
     rw[show(i+1).toNat=i.toNat+1 by omega]
    ·have hq:eqv af (a'.getD i.toNat af.aa) (b'.getD i.toNat af.aa)=false:=by
      rw[Bool.eq_false_iff];exact fun h=>he ((rM rfl).1 h)
     rw[if_pos (by rw[hq];rfl)]
     simp only[List.cons.injEq,he,false_and,decide_false]
   ·rw[if_neg (by simpa using hi),List.drop_eq_nil_of_le (by omega),List.drop_eq_nil_of_le (by omega)]
    simp
  ·exact⟨rfl,rfl,by simp,by simp⟩
  ·simp only
   omega
 ·rw[if_pos (by simp;omega)]
  have:a≠b:=fun e=>hl (by rw[e])
  simp[this]
theorem ew {a b:List ai} (ha:a.length≤1048576):cK k (a,b,())=some (decide (a=b),()):=by
 simp only[cK]
 by_cases hl:a.length=b.length
 ·rw[if_neg (by simp[hl])]
  rw[fq (g:=fun(s:List ai×List ai×Int×Int×Unit)=>some (decide (a.drop s.2.2.2.1.toNat=b.drop s.2.2.2.1.toNat),())) (m:=fun(s:List ai×List ai×Int×Int×Unit)=>a.length-s.2.2.2.1.toNat)
   (I:=fun(s:List ai×List ai×Int×Int×Unit)=>s.1=a∧s.2.1=b∧s.2.2.1=(a.length:Int)∧0≤s.2.2.2.1∧s.2.2.2.1≤(a.length:Int))]
  ·simp
  ·rintro G ⟨a',b',n,i,u⟩ ⟨e1,e2,e3,hi0,hi1⟩ hG
   change a'=a at e1
   change b'=b at e2
   change n=_ at e3
   subst e1 e2 e3
   simp only at hi0 hi1 hG⊢
   by_cases hi:i<(a'.length:Int)
   ·have h1:i.toNat<a'.length:=by omega
    have h2:i.toNat<b'.length:=by omega
    rw[if_pos (by simpa using hi),if_pos (by simpa using⟨hi0,hi⟩),if_pos (by simpa using⟨hi0,by omega⟩)]
    rw[du (d:=af.aa) h1,du (d:=af.aa) h2]
    by_cases he:a'.getD i.toNat af.aa=b'.getD i.toNat af.aa
    ·have hq:eqv af (a'.getD i.toNat af.aa) (b'.getD i.toNat af.aa)=true:=(rM rfl).2 he
     rw[if_neg (by rw[hq];simp),wrap64 (by omega) (by omega),hG (a',b',_,i+1,()) ⟨rfl,rfl,rfl,by simp only;omega,by simp only;omega⟩ (by simp only;omega)]
     simp only[he,List.cons.injEq,true_and]
     rw[show(i+1).toNat=i.toNat+1 by omega]
    ·have hq:eqv af (a'.getD i.toNat af.aa) (b'.getD i.toNat af.aa)=false:=by
      rw[Bool.eq_false_iff];exact fun h=>he ((rM rfl).1 h)
     rw[if_pos (by rw[hq];rfl)]
     simp only[List.cons.injEq,he,false_and,decide_false]
   ·rw[if_neg (by simpa using hi),List.drop_eq_nil_of_le (by omega),List.drop_eq_nil_of_le (by omega)]
    simp
  ·exact⟨rfl,rfl,rfl,by simp,by simp⟩
  ·simp only
   omega
 ·rw[if_pos (by simp;omega)]
  have:a≠b:=fun e=>hl (by rw[e])
  simp[this]
theorem oO {a b:List ai} (ha:a.length≤1048576):iK k (a,b,())=some (bU a b,()):=by
 simp only[iK,aP]
 rw[fq (g:=fun(s:List ai×List ai×Int×Unit)=>some (bU (a.drop s.2.2.1.toNat) (b.drop s.2.2.1.toNat),())) (m:=fun(s:List ai×List ai×Int×Unit)=>a.length-s.2.2.1.toNat)
  (I:=fun(s:List ai×List ai×Int×Unit)=>s.1=a∧s.2.1=b∧0≤s.2.2.1∧s.2.2.1≤(a.length:Int)∧s.2.2.1≤(b.length:Int))]
 ·simp
 ·rintro G ⟨a',b',i,u⟩ ⟨e1,e2,hi0,hi1,hi2⟩ hG
  change a'=a at e1
  change b'=b at e2
  subst e1 e2
  simp only at hi0 hi1 hi2 hG⊢
  by_cases hi:i<(a'.length:Int)∧i<(b'.length:Int)
  ·have h1:i.toNat<a'.length:=by omega
   have h2:i.toNat<b'.length:=by omega
   have ca:decide (0≤i∧i<(a'.length:Int))=true:=by simpa using⟨hi0,hi.1⟩
   have cb:decide (0≤i∧i<(b'.length:Int))=true:=by simpa using⟨hi0,hi.2⟩
   rw[if_pos (by simp[hi.1,hi.2])]
   simp only[ca,cb,if_true]
   rw[du (d:=af.aa) h1,du (d:=af.aa) h2]
   simp only[bU,lp]
   rw[wrap64 (by omega) (by omega),hG (a',b',i+1,()) ⟨rfl,rfl,by simp only;omega,by simp only;omega,by simp only;omega⟩ (by simp only;omega)]
   simp only
   rw[show(i+1).toNat=i.toNat+1 by omega]
   cases (ByteArray.toList (a'.getD i.toNat af.aa).1==ByteArray.toList (b'.getD i.toNat af.aa).1)<;>cases (ByteArray.toList (a'.getD i.toNat af.aa).2==ByteArray.toList (b'.getD i.toNat af.aa).2)<;>simp
  ·rw[if_neg (by simp;omega)]
   by_cases ha':i<(a'.length:Int)
   ·have h1:i.toNat<a'.length:=by omega
    rw[du (d:=af.aa) h1,List.drop_eq_nil_of_le (show b'.length≤i.toNat by omega)]
    simp only[bU]
    congr 2
    simp;omega
   ·rw[List.drop_eq_nil_of_le (show a'.length≤i.toNat by omega)]
    simp only[bU]
    congr 2
    by_cases hb':i<(b'.length:Int)
    ·have h2:i.toNat<b'.length:=by omega
     rw[du (d:=af.aa) h2]
     simp;omega
    ·rw[List.drop_eq_nil_of_le (show b'.length≤i.toNat by omega)]
     simp;omega
 ·exact⟨rfl,rfl,by simp,by simp,by simp⟩
 ·simp only
  omega
theorem nQ {a b:List ai} (ha:a.length≤1048576):iR k (a,b,())=some (bU a b,()):=by
 rw[←oO hk ha]
 simp only[iK,iR,ff,Option.bind_some]
theorem On {l:List ByteArray} {s:ByteArray} (hl:l.length≤1048576):oA k (l,s,())=some (hasB l s,()):=by
 simp only[oA]
 rw[show((l,s,(0:Int),()):List ByteArray×ByteArray×Int×Unit)=(fun i:Nat=>(l,s,(i:Int),())) 0 from rfl]
 rw[NA (fun i:Nat=>(l,s,(i:Int),())) (fun i=>(l.getD i ByteArray.empty).toList==s.toList) l.length (e:=some (false,())) (yes:=some (true,())) ?_ ?_ k 0 (by omega)]
 ·unfold hasB
  cases bd 0 l.length (fun i=> !((l.getD i ByteArray.empty).toList==s.toList))<;>simp
 ·intro G i hi
  simp only[Int.toNat_natCast]
  rw[aw,decide_eq_true hi,if_pos rfl,if_pos (aK hi),aZ (by omega)]
 ·intro G i hi
  simp only
  rw[aw,decide_eq_false (by omega),if_neg (by simp)]
theorem OO {l:List ByteArray} {s:ByteArray} (hl:l.length≤1048576):lq k (l,s,())=some (hasB l s,()):=by
 simp only[lq]
 rw[show((s,l,(l.length:Int),(0:Int),()):ByteArray×List ByteArray×Int×Int×Unit)=(fun i:Nat=>(s,l,(l.length:Int),(i:Int),())) 0 from rfl]
 rw[NA (fun i:Nat=>(s,l,(l.length:Int),(i:Int),())) (fun i=>(l.getD i ByteArray.empty).toList==s.toList) l.length (e:=some (false,())) (yes:=some (true,())) ?_ ?_ k 0 (by omega)]
 ·unfold hasB
  cases bd 0 l.length (fun i=> !((l.getD i ByteArray.empty).toList==s.toList))<;>simp
 ·intro G i hi
  simp only[Int.toNat_natCast]
  rw[aw,decide_eq_true hi,if_pos rfl,if_pos (aK hi),aZ (by omega)]
 ·intro G i hi
  simp only
  rw[aw,decide_eq_false (by omega),if_neg (by simp)]
theorem KU {a:al} {by_:List ByteArray} (ha:ag ab a≤1048576) (hb:by_.length≤1048576):oh k (a,by_,())=some (keyOf a by_,()):=by
 have hl:=aA (e:=af) (l:=a.1)
 rw[ch hk]at ha
 simp only[oh,pr]
 rw[fq (g:=fun(s:List ai×List ByteArray×List ai×Int×Unit)=>some (s.2.2.1++(a.1.drop s.2.2.2.1.toNat).filter (fun x=>hasB by_ x.1),())) (m:=fun(s:List ai×List ByteArray×List ai×Int×Unit)=>a.1.length-s.2.2.2.1.toNat)
  (I:=fun(s:List ai×List ByteArray×List ai×Int×Unit)=>s.1=a.1∧s.2.1=by_∧0≤s.2.2.2.1∧s.2.2.2.1≤(a.1.length:Int)∧s.2.2.1.length≤s.2.2.2.1.toNat)]
 ·simp[keyOf]
 ·rintro G ⟨l',y',o,i,u⟩ ⟨e1,e2,hi0,hi1,ho⟩ hG
  change l'=_ at e1
  change y'=by_ at e2
  subst e1 e2
  simp only at hi0 hi1 ho hG⊢
  by_cases hi:i<(a.1.length:Int)
  ·have h1:i.toNat<a.1.length:=by omega
   rw[if_pos (by simpa using hi),if_pos (by simpa using⟨hi0,hi⟩),On hk hb,Option.bind_some,du (d:=af.aa) h1,wrap64 (by omega) (by omega)]
   cases hh:hasB y' (a.1.getD i.toNat af.aa).1 with
   |true=>
    rw[if_pos rfl,if_pos (by simpa using⟨hi0,hi⟩),if_pos (by simp;omega)]
    rw[hG (a.1,y',o++[a.1.getD i.toNat af.aa],i+1,()) ⟨rfl,rfl,by simp only;omega,by simp only;omega,by simp;omega⟩ (by simp only;omega)]
    simp only
    rw[show(i+1).toNat=i.toNat+1 by omega,List.filter_cons_of_pos (by simpa using hh)]
    simp
   |false=>
    rw[if_neg (by simp)]
    rw[hG (a.1,y',o,i+1,()) ⟨rfl,rfl,by simp only;omega,by simp only;omega,by simp only;omega⟩ (by simp only;omega)]
    simp only
    rw[show(i+1).toNat=i.toNat+1 by omega,List.filter_cons_of_neg (by rw[hh];simp)]
  ·rw[if_neg (by simpa using hi),List.drop_eq_nil_of_le (by omega)]
   simp
 ·exact⟨rfl,rfl,by simp,by simp,by simp⟩
 ·simp only
  omega
theorem LZ {a:al} {by_:List ByteArray} (ha:ag ab a≤1048576) (hb:by_.length≤1048576):oB k (a,by_,())=some (keyOf a by_,()):=by
 have hl:=aA (e:=af) (l:=a.1)
 rw[ch hk]at ha
 simp only[oB,pL]
 rw[fq (g:=fun(s:List ByteArray×List ai×List ai×Int×Int×Unit)=>some (s.2.1++(a.1.drop s.2.2.2.2.1.toNat).filter (fun x=>hasB by_ x.1),())) (m:=fun(s:List ByteArray×List ai×List ai×Int×Int×Unit)=>a.1.length-s.2.2.2.2.1.toNat)
  (I:=fun(s:List ByteArray×List ai×List ai×Int×Int×Unit)=>s.1=by_∧s.2.2.1=a.1∧s.2.2.2.1=(a.1.length:Int)∧0≤s.2.2.2.2.1∧s.2.2.2.2.1≤(a.1.length:Int)∧s.2.1.length≤s.2.2.2.2.1.toNat)]
 ·simp[keyOf]
 ·rintro G ⟨y',o,l',n,i,u⟩ ⟨e2,e1,e3,hi0,hi1,ho⟩ hG
  change l'=_ at e1
  change y'=by_ at e2
  change n=_ at e3
  subst e1 e2 e3
  simp only at hi0 hi1 ho hG⊢
  by_cases hi:i<(a.1.length:Int)
  ·have h1:i.toNat<a.1.length:=by omega
   rw[if_pos (by simpa using hi),if_pos (by simpa using⟨hi0,hi⟩),OO hk hb,Option.bind_some,du (d:=af.aa) h1,wrap64 (by omega) (by omega)]
   cases hh:hasB y' (a.1.getD i.toNat af.aa).1 with
   |true=>
    rw[if_pos rfl,if_pos (by simp;omega)]
    rw[hG (y',o++[a.1.getD i.toNat af.aa],a.1,_,i+1,()) ⟨rfl,rfl,rfl,by simp only;omega,by simp only;omega,by simp;omega⟩ (by simp only;omega)]
    simp only
    rw[show(i+1).toNat=i.toNat+1 by omega,List.filter_cons_of_pos (by simpa using hh)]
    simp
   |false=>
    rw[if_neg (by simp)]
    rw[hG (y',o,a.1,_,i+1,()) ⟨rfl,rfl,rfl,by simp only;omega,by simp only;omega,by simp only;omega⟩ (by simp only;omega)]
    simp only
    rw[show(i+1).toNat=i.toNat+1 by omega,List.filter_cons_of_neg (by rw[hh];simp)]
  ·rw[if_neg (by simpa using hi),List.drop_eq_nil_of_le (by omega)]
   simp
 ·exact⟨rfl,rfl,rfl,by simp,by simp,by simp⟩
 ·simp only
  omega
theorem KF (a:al) (by_:List ByteArray):(keyOf a by_).length≤a.1.length:=List.length_filter_le ..
end
end Vg.Tryz
namespace Vg.Tryz
open Go Vg
set_option linter.unusedVariables false
set_option linter.unusedSectionVars false
set_option linter.unusedSimpArgs false
section
variable {k:Nat} (hk:9223372036854775808≤k)
include hk
theorem gb {l:List al} {i:Nat} (hs:ag (.sl ab) l≤1048576) (hi:i<l.length):ag ab (l.getD i ab.aa)≤1048576∧(l.getD i ab.aa).1.length≤1048576:=by
 have hm:ag ab (l.getD i ab.aa)≤1048576:=Nat.le_trans (bo (e:=ab) (ck hi)) hs
 refine⟨hm,?_⟩
 rw[ch hk]at hm
 have:=aA (e:=af) (l:=(l.getD i ab.aa).1)
 omega
theorem Fe {l:List al} {key:List ai} {by_:List ByteArray} (hs:ag (.sl ab) l≤1048576) (hb:by_.length≤1048576):lN k (l,key,by_,())=some (vk l key by_,()):=by
 have hl:=aA (e:=ab) (l:=l)
 simp only[lN]
 rw[show((l,key,by_,l,(l.length:Int),(0:Int),()):List al×List ai×List ByteArray×List al×Int×Int×Unit)=(fun i:Nat=>(l,key,by_,l,(l.length:Int),(i:Int),())) 0 from rfl]
 rw[bN (fun i:Nat=>(l,key,by_,l,(l.length:Int),(i:Int),())) (fun i=>bY (l.getD i ab.aa)&&(decide (keyOf (l.getD i ab.aa) by_=key)&&xw l i)) l.length (e:=some (true,())) (no:=some (false,())) ?_ ?_ k 0 (by omega)]
 ·unfold vk
  cases bd 0 l.length (fun i=>bY (l.getD i ab.aa)&&(decide (keyOf (l.getD i ab.aa) by_=key)&&xw l i))<;>simp
 ·intro G i hi
  simp only[Int.toNat_natCast]
  obtain⟨hm,hml⟩:=gb hk hs hi
  have hkl:=KF hk (l.getD i ab.aa) by_
  rw[aw,decide_eq_true hi,if_pos rfl,if_pos (aK hi),gw hk hm,Option.bind_some,LZ hk hm hb,aZ (by omega),pS (by omega)]
  simp only[bL,Option.bind_some]
  rw[show((i:Int)-1).toNat=i-1 by omega]
  cases bY (l.getD i ab.aa)with
  |false=>simp
  |true=>
   simp only[Bool.not_true,beq_self_eq_true,if_true]
   rw[ew hk (by omega)]
   simp only[Option.bind_some]
   by_cases hq:keyOf (l.getD i ab.aa) by_=key
   ·by_cases h0:i=0
    ·subst h0
     simp[hq,xw,-List.getD_eq_getElem?_getD]
    ·have h0':(0:Int)<(i:Int):=by omega
     have h0n:0<i:=by omega
     obtain⟨hm1,hml1⟩:=gb hk hs (show i-1<l.length by omega)
     rw[if_pos (by simp;omega),oO hk hml1]
     unfold xw
     cases bU (l.getD (i-1) ab.aa).1 (l.getD i ab.aa).1<;>simp[hq,h0,h0',h0n,-List.getD_eq_getElem?_getD]
   ·simp[hq,-List.getD_eq_getElem?_getD]
 ·intro G i hi
  simp only
  rw[aw,decide_eq_false (by omega),if_neg (by simp)]
theorem GP {g:aJ} {by_:List ByteArray} (hs:ag aj g≤1048576) (hb:by_.length≤1048576):lu k (g,by_,())=some (iB g by_,()):=by
 rw[gN hk]at hs
 simp only[lu,et hk,mU hk (show ag (.sl af) g.2.1≤1048576 by omega),Fe hk (show ag (.sl ab) g.2.2.2.2≤1048576 by omega) hb,bL,Option.bind_some,iB]
 have e1:decide (g.1<(0:Int))= !decide (0≤g.1):=by rw[Bool.eq_iff_iff];simp
 have e2:decide ((g.2.2.2.2.length:Int)>(0:Int))=decide (0<g.2.2.2.2.length):=by simp
 have e3:((g.2.2.2.1:Int) != (-1:Int))= !decide (g.2.2.2.1= -1):=by rw[Bool.eq_iff_iff];simp
 rw[e1,e2,e3]
 generalize decide (0≤g.1)=b1
 generalize eJ g.2.1=b2
 generalize bI g.2.2.1 0 99999=b3
 generalize decide (g.2.2.2.1= -1)=b4
 generalize bI g.2.2.2.1 g.2.2.1 99999=b5
 generalize decide (0<g.2.2.2.2.length)=b6
 generalize vk g.2.2.2.2 g.2.1 by_=b7
 cases b1<;>cases b2<;>cases b3<;>cases b4<;>cases b5<;>cases b6<;>cases b7<;>simp
theorem GV {g:aJ} {by_:List ByteArray} (hs:ag aj g≤1048576) (hb:by_.length≤1048576):lr k (g,by_,())=some (iB g by_,()):=by
 rw[gN hk]at hs
 have hs2:ag (.sl ab) g.2.2.2.2≤1048576:=by omega
 have hl:=aA (e:=ab) (l:=g.2.2.2.2)
 simp only[lr,aP]
 rw[show((by_,g,(0:Int),()):List ByteArray×aJ×Int×Unit)=(fun i:Nat=>(by_,g,(i:Int),())) 0 from rfl]
 rw[bN (fun i:Nat=>(by_,g,(i:Int),())) (fun i=>bY (g.2.2.2.2.getD i ab.aa)&&(decide (keyOf (g.2.2.2.2.getD i ab.aa) by_=g.2.1)&&xw g.2.2.2.2 i)) g.2.2.2.2.length
  (e:=some (decide (0≤g.1)&&(eJ g.2.1&&(bI g.2.2.1 0 99999&&((decide (g.2.2.2.1= -1)||bI g.2.2.2.1 g.2.2.1 99999)&&decide (0<g.2.2.2.2.length)))),())) (no:=some (false,())) ?_ ?_ k 0 (by omega)]
 ·unfold iB vk
  cases bd 0 g.2.2.2.2.length (fun i=>bY (g.2.2.2.2.getD i ab.aa)&&(decide (keyOf (g.2.2.2.2.getD i ab.aa) by_=g.2.1)&&xw g.2.2.2.2 i))<;>simp
 ·intro G i hi
  simp only[Int.toNat_natCast]
  obtain⟨hm,hml⟩:=gb hk hs2 hi
  have hkl:=KF hk (g.2.2.2.2.getD i ab.aa) by_
  rw[aw,decide_eq_true hi,if_pos rfl,if_pos (aK hi),fm hk hm,Option.bind_some,aZ (by omega),pS (by omega)]
  rw[show((i:Int)-1).toNat=i-1 by omega]
  simp only[aK hi,Bool.or_true,if_true]
  rw[if_pos (by simp;omega),KU hk hm hb]
  cases bY (g.2.2.2.2.getD i ab.aa)with
  |false=>simp
  |true=>
   simp only[Bool.not_true,beq_self_eq_true,Bool.true_and]
   by_cases h0:i=0
   ·subst h0
    have hS:=dT hk (a:=keyOf (g.2.2.2.2.getD 0 ab.aa) by_) (b:=g.2.1) (by omega)
    simp[hS,xw,-List.getD_eq_getElem?_getD]
   ·have h0':(0:Int)<(i:Int):=by omega
    have h0n:0<i:=by omega
    obtain⟨hm1,hml1⟩:=gb hk hs2 (show i-1<g.2.2.2.2.length by omega)
    rw[nQ hk hml1]
    unfold xw
    cases bU (g.2.2.2.2.getD (i-1) ab.aa).1 (g.2.2.2.2.getD i ab.aa).1 with
    |false=>simp[h0,h0',h0n,-List.getD_eq_getElem?_getD]
    |true=>
     have hS:=dT hk (a:=keyOf (g.2.2.2.2.getD i ab.aa) by_) (b:=g.2.1) (by omega)
     simp[hS,h0,h0',h0n,-List.getD_eq_getElem?_getD]
 ·intro G i hi
  simp only
  rw[aw,decide_eq_false (by omega),if_neg (by simp)]
  simp only[fc hk,mS hk (show ag (.sl af) g.2.1≤1048576 by omega),bL,Option.bind_some]
  have e1:decide (g.1≥(0:Int))=decide (0≤g.1):=rfl
  have e2:decide ((g.2.2.2.2.length:Int)>(0:Int))=decide (0<g.2.2.2.2.length):=by simp
  have e3:((g.2.2.2.1:Int)==(-1:Int))=decide (g.2.2.2.1= -1):=by rw[Bool.eq_iff_iff];simp
  rw[e1,e2,e3]
  generalize decide (0≤g.1)=b1
  generalize eJ g.2.1=b2
  generalize bI g.2.2.1 0 99999=b3
  generalize decide (g.2.2.2.1= -1)=b4
  generalize bI g.2.2.2.1 g.2.2.1 99999=b5
  generalize decide (0<g.2.2.2.2.length)=b6
  cases b1<;>cases b2<;>cases b3<;>cases b4<;>cases b5<;>cases b6<;>simp
theorem xJ {l:List aJ} {i:Nat} (hs:ag (.sl aj) l≤1048576) (hi:i<l.length):ag aj (l.getD i aj.aa)≤1048576∧(l.getD i aj.aa).2.1.length≤1048576:=by
 have hm:ag aj (l.getD i aj.aa)≤1048576:=Nat.le_trans (bo (e:=aj) (ck hi)) hs
 refine⟨hm,?_⟩
 rw[gN hk]at hm
 have:=aA (e:=af) (l:=(l.getD i aj.aa).2.1)
 omega
theorem EO {l:List aJ} {key:List ai} (hs:ag (.sl aj) l≤1048576):
 ∃r:Int,lv k (l,key,())=some (r,())∧(∀i:Nat,i<l.length→(l.getD i aj.aa).2.1=key→(r=(i:Int)↔∀j,j<i→(l.getD j aj.aa).2.1≠key)):=by
 have hl:=aA (e:=aj) (l:=l)
 simp only[lv]
 have main:∀(m a:Nat),l.length-a<m→(∀j,j<a→(l.getD j aj.aa).2.1≠key)→∃r:Int,az m (fun G1 (t2:List ai×List aJ×Int×Int×Unit)=>
  if(decide ((t2.2.2.2.1:Int)<t2.2.2.1))=true then
   if(decide (0≤t2.2.2.2.1∧t2.2.2.2.1<((List.length t2.2.1:Nat):Int)))=true then
    Option.bind (cK k (((List.getD t2.2.1 (Int.toNat t2.2.2.2.1) aj.aa).2).1,t2.1,())) fun(r3:Bool×Unit)=>
    if r3.1=true then
     some (t2.2.2.2.1,())
    else
     G1 (t2.1,t2.2.1,t2.2.2.1,IntKind.i64.wrap (t2.2.2.2.1+(1:Int)),())
   else
    none
  else
   some ((-1:Int),())) (key,l,(l.length:Int),(a:Int),())=some (r,())∧(∀i:Nat,i<l.length→(l.getD i aj.aa).2.1=key→(r=(i:Int)↔∀j,j<i→(l.getD j aj.aa).2.1≠key)):=by
  intro m
  induction m with
  |zero=>intro a h;omega
  |succ m ih=>
   intro a h hno
   simp only[az,Int.toNat_natCast]
   by_cases ha:a<l.length
   ·rw[aw,decide_eq_true ha,if_pos rfl,if_pos (aK ha),ew hk (xJ hk hs ha).2,Option.bind_some]
    by_cases hq:(l.getD a aj.aa).2.1=key
    ·rw[if_pos (by simpa using hq)]
     refine⟨_,rfl,fun i hi hik=> ?_⟩
     constructor
     ·intro e j hj
      exact hno j (by omega)
     ·intro hall
      rcases Nat.lt_trichotomy a i with h1|h1|h1
      ·exact absurd hq (hall a h1)
      ·rw[h1]
      ·exact absurd hik (hno i h1)
    ·rw[if_neg (by simpa using hq),aZ (by omega)]
     refine ih (a+1) (by omega) (fun j hj=> ?_)
     rcases Nat.lt_or_ge j a with h1|h1
     ·exact hno j h1
     ·rw[show j=a by omega];exact hq
   ·rw[aw,decide_eq_false ha,if_neg (by simp)]
    refine⟨-1,rfl,fun i hi hik=> ?_⟩
    exact absurd hik (hno i (by omega))
 exact main k 0 (by omega) (fun j hj=>by omega)
theorem Qc (l:List aJ) (i:Nat):mn l i=true↔∀j,j<i→(l.getD j aj.aa).2.1≠(l.getD i aj.aa).2.1:=by
 unfold mn
 rw[ee]
 simp only[Bool.not_eq_true',decide_eq_false_iff_not]
 exact⟨fun h j hj=>h j (by omega) hj,fun h j _ hj=>h j hj⟩
theorem D9 {l:List aJ} {by_:List ByteArray} (hs:ag (.sl aj) l≤1048576) (hb:by_.length≤1048576):kv k (l,by_,())=some (nu l by_,()):=by
 have hl:=aA (e:=aj) (l:=l)
 simp only[kv]
 rw[show((l,by_,l,(l.length:Int),(0:Int),()):List aJ×List ByteArray×List aJ×Int×Int×Unit)=(fun i:Nat=>(l,by_,l,(l.length:Int),(i:Int),())) 0 from rfl]
 rw[bN (fun i:Nat=>(l,by_,l,(l.length:Int),(i:Int),())) (fun i=>decide (i<12)&&(iB (l.getD i aj.aa) by_&&(C5 l i&&mn l i))) l.length (e:=some (true,())) (no:=some (false,())) ?_ ?_ k 0 (by omega)]
 ·unfold nu
  rw[D0,O6]
  cases bd 0 l.length (fun i=>iB (l.getD i aj.aa) by_&&(C5 l i&&mn l i))<;>by_cases h:l.length≤12<;>simp[h]
 ·intro G i hi
  simp only[Int.toNat_natCast]
  obtain⟨hm,hml⟩:=xJ hk hs hi
  obtain⟨r,hr,hri⟩:=EO hk (key:=(l.getD i aj.aa).2.1) hs
  have hri:=hri i hi rfl
  rw[←Qc hk]at hri
  rw[aw,decide_eq_true hi,if_pos rfl,if_pos (aK hi),GP hk hm hb,aZ (by omega),pS (by omega)]
  simp only[bL,Option.bind_some]
  rw[show((i:Int)-1).toNat=i-1 by omega,hr,if_pos (by simp;omega)]
  unfold C5
  by_cases h12:i<12
  ·have h12':¬(12:Int)≤(i:Int):=by omega
   cases iB (l.getD i aj.aa) by_ with
   |false=>simp[h12,h12',-List.getD_eq_getElem?_getD]
   |true=>
    by_cases h0:i=0
    ·subst h0
     cases hn:mn l 0 with
     |true=>rw[hn]at hri;have:=hri.2 rfl;simp[this,-List.getD_eq_getElem?_getD]
     |false=>rw[hn]at hri;have:¬r=0:=fun e=>by have:=hri.1 e;cases this
             simp[this,-List.getD_eq_getElem?_getD]
    ·have h0':(0:Int)<(i:Int):=by omega
     have h0n:0<i:=by omega
     by_cases ho:(l.getD (i-1) aj.aa).1<(l.getD i aj.aa).1
     ·have ho':¬(l.getD i aj.aa).1≤(l.getD (i-1) aj.aa).1:=by omega
      cases hn:mn l i with
      |true=>rw[hn]at hri;have:=hri.2 rfl;simp[this,h12,h12',h0,h0',h0n,ho,ho',-List.getD_eq_getElem?_getD]
      |false=>rw[hn]at hri;have:¬r=(i:Int):=fun e=>by have:=hri.1 e;cases this
              simp[this,h12,h12',h0,h0',h0n,ho,ho',-List.getD_eq_getElem?_getD]
     ·have ho':(l.getD i aj.aa).1≤(l.getD (i-1) aj.aa).1:=by omega
      simp[h12,h12',h0,h0',h0n,ho,ho',-List.getD_eq_getElem?_getD]
  ·have h12':(12:Int)≤(i:Int):=by omega
   simp[h12,h12',-List.getD_eq_getElem?_getD]
 ·intro G i hi
  simp only
  rw[aw,decide_eq_false (by omega),if_neg (by simp)]
theorem Dj {l:List aJ} {by_:List ByteArray} (hs:ag (.sl aj) l≤1048576) (hb:by_.length≤1048576):kf k (l,by_,())=some (nu l by_,()):=by
 have hl:=aA (e:=aj) (l:=l)
 simp only[kf,aP]
 rw[show((l,by_,(0:Int),()):List aJ×List ByteArray×Int×Unit)=(fun i:Nat=>(l,by_,(i:Int),())) 0 from rfl]
 rw[bN (fun i:Nat=>(l,by_,(i:Int),())) (fun i=>iB (l.getD i aj.aa) by_&&(C5 l i&&mn l i)) l.length (e:=some (decide (l.length≤12),())) (no:=some (false,())) ?_ ?_ k 0 (by omega)]
 ·unfold nu
  cases bd 0 l.length (fun i=>iB (l.getD i aj.aa) by_&&(C5 l i&&mn l i))<;>simp
 ·intro G i hi
  simp only[Int.toNat_natCast]
  obtain⟨hm,hml⟩:=xJ hk hs hi
  rw[aw,decide_eq_true hi,if_pos rfl,if_pos (aK hi),GV hk hm hb,Option.bind_some,pS (by omega)]
  rw[show((i:Int)-1).toNat=i-1 by omega,if_pos (by simp;omega)]
  simp only[aK hi,Bool.or_true,if_true]
  have inner:az k (fun G6 (t7:List aJ×List ByteArray×Int×Int×Unit)=>
   if(decide ((t7.2.2.2.1:Int)<t7.2.2.1))=true then
    if(decide (0≤t7.2.2.2.1∧t7.2.2.2.1<((List.length t7.1:Nat):Int)))=true then
     if(decide (0≤t7.2.2.1∧t7.2.2.1<((List.length t7.1:Nat):Int)))=true then
      Option.bind (cL k (((List.getD t7.1 (Int.toNat t7.2.2.2.1) aj.aa).2).1,((List.getD t7.1 (Int.toNat t7.2.2.1) aj.aa).2).1,())) fun(r8:Bool×Unit)=>
      if r8.1=true then
       some (false,())
      else
       G6 (t7.1,t7.2.1,t7.2.2.1,IntKind.i64.wrap (t7.2.2.2.1+(1:Int)),())
     else
      none
    else
     none
   else
    G (t7.1,t7.2.1,IntKind.i64.wrap (t7.2.2.1+(1:Int)),())) (l,by_,(i:Int),(0:Int),())=if mn l i=true then G (l,by_,((i+1:Nat):Int),())else some (false,()):=by
   rw[show((l,by_,(i:Int),(0:Int),()):List aJ×List ByteArray×Int×Int×Unit)=(fun j:Nat=>(l,by_,(i:Int),(j:Int),())) 0 from rfl]
   rw[bN (fun j:Nat=>(l,by_,(i:Int),(j:Int),())) (fun j=> !decide ((l.getD j aj.aa).2.1=(l.getD i aj.aa).2.1)) i (e:=G (l,by_,((i+1:Nat):Int),())) (no:=some (false,())) ?_ ?_ k 0 (by omega)]
   ·rfl
   ·intro G' j hj
    simp only[Int.toNat_natCast]
    rw[aw,decide_eq_true hj,if_pos rfl,if_pos (aK (by omega)),if_pos (aK hi),dT hk (xJ hk hs (show j<l.length by omega)).2,Option.bind_some,aZ (by omega)]
    by_cases hq:(l.getD j aj.aa).2.1=(l.getD i aj.aa).2.1<;>simp[hq,-List.getD_eq_getElem?_getD]
   ·intro G' j hj
    simp only
    rw[aw,decide_eq_false (by omega),if_neg (by simp),aZ (by omega)]
  rw[inner]
  unfold C5
  cases iB (l.getD i aj.aa) by_ with
  |false=>simp
  |true=>
   by_cases h0:i=0
   ·subst h0;simp
   ·have h0':(0:Int)<(i:Int):=by omega
    have h0n:0<i:=by omega
    by_cases ho:(l.getD (i-1) aj.aa).1<(l.getD i aj.aa).1
    ·have ho':¬(l.getD i aj.aa).1≤(l.getD (i-1) aj.aa).1:=by omega
     simp[h0,h0',h0n,ho,ho',-List.getD_eq_getElem?_getD]
    ·have ho':(l.getD i aj.aa).1≤(l.getD (i-1) aj.aa).1:=by omega
     simp[h0,h0',h0n,ho,ho',-List.getD_eq_getElem?_getD]
 ·intro G i hi
  simp only
  rw[aw,decide_eq_false (by omega),if_neg (by simp)]
  congr 2
  rw[Bool.eq_iff_iff]
  simp
  omega
end
end Vg.Tryz
namespace Vg.Tryz
open Go Vg
set_option linter.unusedVariables false
set_option linter.unusedSectionVars false
set_option linter.unusedSimpArgs false
def qv (l:List bF):Bool:=bd 0 l.length (fun i=>pR (l.getD i aU.aa))
section
variable {k:Nat} (hk:9223372036854775808≤k)
include hk
theorem zC {c:cg} {a:al} (hs:ag ab a≤1048576):mr k (c,a,())=some (jL a,()):=by
 simp only[mr]
 rw[fm hk hs]
 simp only[Option.bind_some,jL,uZ]
theorem zI {c:cg} {a:al} (hs:ag ab a≤1048576):ml k (c,a,())=some (jL a,()):=by
 simp only[ml]
 rw[gw hk hs]
 simp only[Option.bind_some,jL,uZ]
theorem LW {s:bF} (hs:ag aU s≤1048576):oI k (s,())=some (pR s,()):=by
 rw[nH hk]at hs
 have hl:=aA (e:=ab) (l:=s.1)
 simp only[oI,aP]
 rw[show((s,(0:Int),()):bF×Int×Unit)=(fun i:Nat=>(s,(i:Int),())) 0 from rfl]
 rw[bN (fun i:Nat=>(s,(i:Int),())) (fun i=>bY (s.1.getD i ab.aa)) s.1.length (e:=some (decide (s.1.length≤3)&&(!s.2||decide (s.1.length=0)),())) (no:=some (false,())) ?_ ?_ k 0 (by omega)]
 ·unfold pR cj
  cases bd 0 s.1.length (fun i=>bY (s.1.getD i ab.aa))<;>simp
 ·intro G i hi
  simp only[Int.toNat_natCast]
  rw[aw,decide_eq_true hi,if_pos rfl,if_pos (aK hi),fm hk (gb hk hs hi).1,Option.bind_some,aZ (by omega)]
  cases bY (s.1.getD i ab.aa)<;>simp
 ·intro G i hi
  simp only
  rw[aw,decide_eq_false (by omega),if_neg (by simp)]
  congr 2
  by_cases h:s.1.length≤3
  ·have h':(s.1.length:Int)≤3:=by omega
   by_cases h0:s.1.length=0
   ·cases s.2<;>simp[h0]
   ·have h0':¬(s.1.length:Int)=0:=by omega
    cases s.2<;>simp[h,h',h0]<;>(intro e;rw[e]at h0;exact h0 rfl)
  ·have h':¬(s.1.length:Int)≤3:=by omega
   simp[h,h']
theorem Ll {s:bF} (hs:ag aU s≤1048576):og k (s,())=some (pR s,()):=by
 rw[nH hk]at hs
 have hl:=aA (e:=ab) (l:=s.1)
 simp only[og]
 rw[jy hk hs]
 unfold pR
 cases s.2 with
 |true=>
  simp only[if_true]
  congr 2
  by_cases h0:s.1=[]
  ·rw[h0];rfl
  ·have h1:¬s.1.length=0:=fun e=>h0 (List.eq_nil_of_length_eq_zero e)
   simp[h0]
 |false=>
  by_cases h:s.1.length≤3
  ·have h':(s.1.length:Int)≤3:=by omega
   simp[h,h']
  ·have h':¬(s.1.length:Int)≤3:=by omega
   simp[h,h']
theorem Rf {l:List bF} {i:Nat} (hs:ag (.sl aU) l≤1048576) (hi:i<l.length):ag aU (l.getD i aU.aa)≤1048576:=
 Nat.le_trans (bo (e:=aU) (ck hi)) hs
theorem BG {l:List bF} {c:cg} (hs:ag (.sl aU) l≤1048576):jh k (l,c,())=some (qv l&&decide ((l.length:Int)=c.2.2.1),()):=by
 have hl:=aA (e:=aU) (l:=l)
 simp only[jh,aP]
 rw[show((l,c,l,(l.length:Int),(0:Int),()):List bF×cg×List bF×Int×Int×Unit)=(fun i:Nat=>(l,c,l,(l.length:Int),(i:Int),())) 0 from rfl]
 rw[bN (fun i:Nat=>(l,c,l,(l.length:Int),(i:Int),())) (fun i=>pR (l.getD i aU.aa)) l.length (e:=some (decide ((l.length:Int)=c.2.2.1),())) (no:=some (false,())) ?_ ?_ k 0 (by omega)]
 ·unfold qv
  cases bd 0 l.length (fun i=>pR (l.getD i aU.aa))<;>simp
 ·intro G i hi
  simp only[Int.toNat_natCast]
  rw[aw,decide_eq_true hi,if_pos rfl,if_pos (aK hi),Ll hk (Rf hk hs hi),Option.bind_some,aZ (by omega)]
  cases pR (l.getD i aU.aa)<;>simp
 ·intro G i hi
  simp only
  rw[aw,decide_eq_false (by omega),if_neg (by simp)]
  congr 2
end
end Vg.Tryz
namespace Vg.Tryz
open Go Vg
set_option linter.unusedVariables false
set_option linter.unusedSectionVars false
set_option linter.unusedSimpArgs false
theorem JD (n:Int):IntKind.u32.wrap n=n%4294967296:=by
 simp[IntKind.wrap,IntKind.signed,IntKind.bits]
theorem UI {a b:Nat} (ha:a<4294967296) (hb:b<4294967296):bits (fun _=>(·^^^·)) .i64 (a:Int) (b:Int)=((a^^^b:Nat):Int):=by
 have hx:a^^^b<2^32:=Nat.xor_lt_two_pow (by simpa using ha) (by simpa using hb)
 change IntKind.i64.wrap (((BitVec.ofInt 64 (a:Int)^^^BitVec.ofInt 64 (b:Int)).toNat:Nat):Int)=_
 rw[BitVec.toNat_xor,BitVec.toNat_ofInt,BitVec.toNat_ofInt]
 have e1:((a:Int)%((2^64:Nat):Int)).toNat=a:=by omega
 have e2:((b:Int)%((2^64:Nat):Int)).toNat=b:=by omega
 rw[e1,e2,wrap64 (by omega) (by omega)]
theorem UB {a b:Nat} (ha:a<4294967296) (hb:b<4294967296):bits (fun _=>(·^^^·)) .u32 (a:Int) (b:Int)=((a^^^b:Nat):Int):=by
 have hx:a^^^b<2^32:=Nat.xor_lt_two_pow (by simpa using ha) (by simpa using hb)
 change IntKind.u32.wrap (((BitVec.ofInt 32 (a:Int)^^^BitVec.ofInt 32 (b:Int)).toNat:Nat):Int)=_
 rw[BitVec.toNat_xor,BitVec.toNat_ofInt,BitVec.toNat_ofInt]
 have e1:((a:Int)%((2^32:Nat):Int)).toNat=a:=by omega
 have e2:((b:Int)%((2^32:Nat):Int)).toNat=b:=by omega
 rw[e1,e2,JD]
 omega
theorem UD {a:Nat} (ha:a<9223372036854775808):bits (fun _=>(· &&& ·)) .i64 (a:Int) (4294967295:Int)=((a%4294967296:Nat):Int):=by
 change IntKind.i64.wrap (((BitVec.ofInt 64 (a:Int) &&& BitVec.ofInt 64 (4294967295:Int)).toNat:Nat):Int)=_
 rw[BitVec.toNat_and,BitVec.toNat_ofInt,BitVec.toNat_ofInt]
 have e1:((a:Int)%((2^64:Nat):Int)).toNat=a:=by omega
 have e2:((4294967295:Int)%((2^64:Nat):Int)).toNat=2^32-1:=by decide
 rw[e1,e2,Nat.and_two_pow_sub_one_eq_mod,wrap64 (by omega) (by omega)]
theorem UC (s:ByteArray) (i:Int):∃b:Nat,bt s i=(b:Int)∧b<256:=by
 unfold bt
 exact⟨_,rfl,(s.data.toList.getD i.toNat 0).toNat_lt⟩
theorem Nd {n:Nat} (hn:n<4294967296) (s:ByteArray) (i:Int):∃m:Nat,m<4294967296∧
 bits (fun _=>(· &&& ·)) .i64 (IntKind.i64.wrap ((bits (fun _=>(·^^^·)) .i64 (n:Int) (IntKind.i64.wrap (bt s i)))*(16777619:Int))) (4294967295:Int)=(m:Int)∧
 IntKind.u32.wrap ((bits (fun _=>(·^^^·)) .u32 (n:Int) (IntKind.u32.wrap (bt s i)))*(16777619:Int))=(m:Int):=by
 obtain⟨b,hb,hlt⟩:=UC s i
 have hx:n^^^b<2^32:=Nat.xor_lt_two_pow (by simpa using hn) (by omega)
 rw[hb,wrap64 (n:=(b:Int)) (by omega) (by omega),JD (b:Int),show((b:Int)%4294967296)=(b:Int) by omega,UI hn (by omega),UB hn (by omega)]
 generalize n^^^b=x at hx
 rw[wrap64 (by omega) (by omega),show((x:Int)*16777619)=((x*16777619:Nat):Int) by omega,UD (by omega),JD]
 exact⟨x*16777619%4294967296,by omega,rfl,by omega⟩
section
variable {k:Nat} (hk:9223372036854775808≤k)
include hk
theorem Uz {s:ByteArray} (hs:s.size≤4294967296):∃n:Int,jt k (s,())=some (n,())∧oG k (s,())=some (n,()):=by
 have h1:∃r:Int×Unit,jt k (s,())=some r∧∃n:Nat,r.1=(n:Int)∧n<4294967296:=by
  simp only[jt]
  refine Ax (fun(t:ByteArray×Int×Int×Unit)=>s.size-t.2.2.1.toNat) (fun(t:ByteArray×Int×Int×Unit)=>t.1=s∧(∃n:Nat,t.2.1=(n:Int)∧n<4294967296)∧0≤t.2.2.1∧t.2.2.1≤(s.size:Int)) _ ?_ k _ ⟨rfl,⟨2166136261,rfl,by omega⟩,by simp,by simp⟩ (by simp only;omega)
  rintro G ⟨s',n,i,u⟩ ⟨e1,⟨m,e2,hm⟩,hi0,hi1⟩ hG
  change s'=s at e1
  change n=_ at e2
  subst e1 e2
  simp only at hi0 hi1 hG⊢
  by_cases hi:i<(s'.size:Int)
  ·rw[if_pos (by simpa using hi),if_pos (by simpa using⟨hi0,hi⟩)]
   obtain⟨m',hm',q1,_⟩:=Nd hm s' i
   rw[q1,wrap64 (by omega) (by omega)]
   exact hG (s',_,i+1,()) ⟨rfl,⟨m',rfl,hm'⟩,by simp only;omega,by simp only;omega⟩ (by simp only;omega)
  ·rw[if_neg (by simpa using hi)]
   exact⟨_,rfl,m,rfl,hm⟩
 have h2:jt k (s,())=oG k (s,()):=by
  simp only[jt,oG,aP]
  refine Nj (fun(t t':ByteArray×Int×Int×Unit)=>t=t'∧∃n:Nat,t.2.1=(n:Int)∧n<4294967296) (fun a b=>a=b) rfl ?_ k _ _ ⟨rfl,2166136261,rfl,by omega⟩
  rintro G G' ⟨s1,n,i,u⟩ t' ⟨rfl,m,e2,hm⟩ hG
  change n=_ at e2
  subst e2
  simp only
  obtain⟨m',hm',q1,q2⟩:=Nd hm s1 i
  split
  ·split
   ·rw[q1,q2]
    exact hG _ _ ⟨rfl,m',rfl,hm'⟩
   ·rfl
  ·rw[wrap64 (by omega) (by omega)]
 obtain⟨⟨n,u⟩,hr,_⟩:=h1
 exact⟨n,hr,h2▸hr⟩
def Qk (x:ai):ByteArray:=((x.1++(⟨#[61,34]⟩:ByteArray))++x.2)++(⟨#[34]⟩:ByteArray)
def tx (l:List ai):Nat→ByteArray
 |0=>⟨#[123]⟩
 |i+1=>((((if i=0 then tx l i else tx l i++(⟨#[44,32]⟩:ByteArray))++(l.getD i af.aa).1)++(⟨#[61,34]⟩:ByteArray))++(l.getD i af.aa).2)++(⟨#[34]⟩:ByteArray)
theorem JM {l:List ai} (h:eJ l=true):∀i,i≤l.length→(tx l i).size≤1+25*i:=by
 simp only[eJ,Bool.and_eq_true,ee]at h
 intro i
 induction i with
 |zero=>intro _;simp[tx,ByteArray.size]
 |succ i ih=>
  intro hi
  have:=ih (by omega)
  have h2:=h.2 i (by omega) (by omega)
  simp only[fl,eL,jT,Bool.and_eq_true,decide_eq_true_eq]at h2
  simp only[tx,ByteArray.size_append]
  have e1:(⟨#[61,34]⟩:ByteArray).size=2:=rfl
  have e2:(⟨#[34]⟩:ByteArray).size=1:=rfl
  have e3:(⟨#[44,32]⟩:ByteArray).size=2:=rfl
  split
  ·omega
  ·rw[ByteArray.size_append];omega
theorem Eh {l:List ai} (hs:ag (.sl af) l≤1048576):lD k (l,())=some (if eJ l=true then tx l l.length++(⟨#[125]⟩:ByteArray)else⟨#[]⟩,()):=by
 have hl:=aA (e:=af) (l:=l)
 simp only[lD,aP]
 rw[mS hk hs,Option.bind_some]
 cases hok:eJ l with
 |false=>simp
 |true=>
  have hb:=JM hk hok
  have hok':=hok
  simp only[eJ,Bool.and_eq_true,ee,decide_eq_true_eq]at hok'
  rw[if_neg (by simp),if_pos rfl]
  rw[show((l,(⟨#[123]⟩:ByteArray),(0:Int),()):List ai×ByteArray×Int×Unit)=(fun i:Nat=>(l,tx l i,(i:Int),())) 0 from rfl]
  have e1:(⟨#[61,34]⟩:ByteArray).size=2:=rfl
  have e2:(⟨#[34]⟩:ByteArray).size=1:=rfl
  have e3:(⟨#[44,32]⟩:ByteArray).size=2:=rfl
  have e4:(⟨#[125]⟩:ByteArray).size=1:=rfl
  refine cB (fun i:Nat=>(l,tx l i,(i:Int),())) l.length ?_ ?_ k 0 (by omega) (by omega)
  ·intro G i hi
   have hbi:=hb i (by omega)
   have hlab:=hok'.2 i (by omega) hi
   simp only[fl,eL,jT,Bool.and_eq_true,decide_eq_true_eq]at hlab
   simp only[Int.toNat_natCast]
   rw[aw,decide_eq_true hi,if_pos rfl]
   by_cases h0:i=0
   ·subst h0
    have hz:(tx l 0).size=1:=rfl
    rw[if_neg (by simp)]
    simp only[aK hi,if_true,ByteArray.size_append,e1,e2,hz]
    rw[if_pos (by simp only[decide_eq_true_eq];omega),if_pos (by simp only[decide_eq_true_eq];omega),if_pos (by simp only[decide_eq_true_eq];omega),if_pos (by simp only[decide_eq_true_eq];omega),aZ (by omega)]
    rfl
   ·have h0n:0<i:=by omega
    rw[if_pos (by simp;omega),if_pos (by simp only[e3,decide_eq_true_eq];omega)]
    simp only[aK hi,if_true,ByteArray.size_append,e1,e2,e3]
    rw[if_pos (by simp only[decide_eq_true_eq];omega),if_pos (by simp only[decide_eq_true_eq];omega),if_pos (by simp only[decide_eq_true_eq];omega),if_pos (by simp only[decide_eq_true_eq];omega),aZ (by omega)]
    simp only[tx,if_neg h0]
  ·intro G
   have hbi:=hb l.length (by omega)
   simp only
   rw[aw,decide_eq_false (by omega),if_neg (by simp),if_pos (by simp only[e4,decide_eq_true_eq];omega)]
def pl (l:List ai) (i:Nat):List ByteArray:=(List.range i).map (fun j=>Qk (l.getD j af.aa))
theorem Px (l:List ai) (i:Nat):pl l (i+1)=pl l i++[Qk (l.getD i af.aa)]:=by
 simp[pl,List.range_succ]
theorem Q8 (xs:List (List UInt8)) (y sep:List UInt8):Lib.join (xs++[y]) sep=if xs=[]then y else Lib.join xs sep++sep++y:=by
 cases xs with
 |nil=>simp[Lib.join_one]
 |cons x r=>
  rw[if_neg (by simp),List.cons_append,Lib.join_cons,Lib.join_cons]
  simp[Lib.joinTail,List.append_assoc]
theorem OW (l:List ai):∀i,(tx l i).data.toList=123::nX (pl l i) ⟨#[44,32]⟩:=by
 intro i
 induction i with
 |zero=>rfl
 |succ i ih=>
  unfold nX at ih⊢
  rw[Px hk,List.map_append,List.map_singleton,Q8 hk]
  simp only[tx,Qk]
  by_cases h0:i=0
  ·subst h0
   simp[pl,tx,ByteArray.data_append]
  ·have hne:List.map (fun x=>x.data.toList) (pl l i)≠ []:=by
    intro e
    have:=congrArg List.length e
    simp[pl]at this
    exact h0 this
   rw[if_neg h0,if_neg hne]
   simp only[ByteArray.data_append,Array.toList_append,ih]
   simp[List.append_assoc]
theorem Rp {a b:ByteArray} (h:a.data.toList=b.data.toList):a=b:=by
 cases a;cases b
 simp at h
 rw[h]
theorem Gx {l:List ai} (hs:ag (.sl af) l≤1048576):ln k (l,())=some (if eJ l=true then tx l l.length++(⟨#[125]⟩:ByteArray)else⟨#[]⟩,()):=by
 have hl:=aA (e:=af) (l:=l)
 simp only[ln,aP]
 rw[mU hk hs,Option.bind_some]
 cases hok:eJ l with
 |false=>simp
 |true=>
  have hb:=JM hk hok l.length (by omega)
  have hok':=hok
  simp only[eJ,Bool.and_eq_true,ee,decide_eq_true_eq]at hok'
  rw[if_neg (by simp),if_pos rfl]
  rw[show((([]:List ByteArray),l,(l.length:Int),(0:Int),()):List ByteArray×List ai×Int×Int×Unit)=(fun i:Nat=>(pl l i,l,(l.length:Int),(i:Int),())) 0 from rfl]
  have e1:(⟨#[61,34]⟩:ByteArray).size=2:=rfl
  have e2:(⟨#[34]⟩:ByteArray).size=1:=rfl
  refine cB (fun i:Nat=>(pl l i,l,(l.length:Int),(i:Int),())) l.length ?_ ?_ k 0 (by omega) (by omega)
  ·intro G i hi
   have hlab:=hok'.2 i (by omega) hi
   simp only[fl,eL,jT,Bool.and_eq_true,decide_eq_true_eq]at hlab
   have hpl:(pl l i).length=i:=by simp[pl]
   simp only[Int.toNat_natCast]
   rw[aw,decide_eq_true hi,if_pos rfl,if_pos (aK hi)]
   simp only[ByteArray.size_append,e1,e2]
   rw[if_pos (by simp only[decide_eq_true_eq];omega),if_pos (by simp only[decide_eq_true_eq];omega),if_pos (by simp only[decide_eq_true_eq];omega),if_pos (by simp only[decide_eq_true_eq,List.length_singleton,hpl];omega),aZ (by omega),Px hk]
   rfl
  ·intro G
   simp only
   rw[aw,decide_eq_false (by omega),if_neg (by simp)]
   have hj:(nX (pl l l.length) ⟨#[44,32]⟩).length≤1+25*l.length:=by
    have:=OW hk l l.length
    have h2:=congrArg List.length this
    simp only[Array.length_toList,List.length_cons]at h2
    have h3:(tx l l.length).data.size=(tx l l.length).size:=rfl
    omega
   have hpl:(pl l l.length).length=l.length:=by simp[pl]
   simp only[ph,xk]
   rw[if_pos ⟨by rw[hpl];omega,by omega⟩,Option.bind_some]
   simp only[ByteArray.size_append]
   have hz:(⟨(nX (pl l l.length) ⟨#[44,32]⟩).toArray⟩:ByteArray).size=(nX (pl l l.length) ⟨#[44,32]⟩).length:=by simp[ByteArray.size]
   have e3:(⟨#[123]⟩:ByteArray).size=1:=rfl
   have e4:(⟨#[125]⟩:ByteArray).size=1:=rfl
   rw[hz,e3,e4,if_pos (by simp only[decide_eq_true_eq];omega),if_pos (by simp only[decide_eq_true_eq];omega)]
   congr 2
   refine Rp hk ?_
   simp only[ByteArray.data_append,Array.toList_append]
   rw[OW hk]
   simp
theorem KI {l:List ai} (hs:ag (.sl af) l≤1048576):∃n:Int,dL k (l,())=some (n,())∧dW k (l,())=some (n,()):=by
 simp only[dL,dW]
 rw[Eh hk hs,Gx hk hs]
 simp only[Option.bind_some]
 have hsz:(if eJ l=true then tx l l.length++(⟨#[125]⟩:ByteArray)else⟨#[]⟩).size≤4294967296:=by
  split
  ·rename_i hok
   have hb:=JM hk hok l.length (by omega)
   have hl:l.length≤4:=by
    simp only[eJ,Bool.and_eq_true,decide_eq_true_eq]at hok
    exact hok.1
   have e4:(⟨#[125]⟩:ByteArray).size=1:=rfl
   rw[ByteArray.size_append]
   omega
  ·simp[ByteArray.size]
 obtain⟨n,q1,q2⟩:=Uz hk hsz
 rw[q1,q2]
 simp only[Option.bind_some]
 rw[if_pos (by simp),if_pos (by simp)]
 exact⟨_,rfl,rfl⟩
theorem RA (f n:Int):fx k (f,n,())=eE k (f,n,()):=rfl
end
end Vg.Tryz
namespace Vg.Tryz
open Go Vg
set_option linter.unusedVariables false
set_option linter.unusedSectionVars false
set_option linter.unusedSimpArgs false
section
variable {k:Nat} (hk:9223372036854775808≤k)
include hk
theorem nO {a:al} (h:ag ab a≤1073741824):dO k (a,())=some (a,()):=by
 have h1:=ch hk a
 have h2:=aA (e:=af) (l:=a.1)
 simp only[dO]
 rw[if_pos (by simp;omega)]
 simp
theorem oq {l:List ai} (h:l.length≤1073741824):en k (l,())=some (l,()):=by
 simp only[en]
 rw[if_pos (by simp;omega)]
 simp
theorem oL {a:al} (h:ag ab a≤1073741824):dG k (a,())=some (a,()):=by
 have h1:=ch hk a
 have h2:=aA (e:=af) (l:=a.1)
 simp only[dG]
 rw[oq hk (by omega),Option.bind_some]
theorem jn {l:List al} (h:ag (.sl ab) l≤1073741824):dF k (l,())=some (l,()):=
 AD (d:=ab.aa) (S:=dO k) hk (Nat.le_trans (aA (e:=ab)) h) (fun e he=>nO hk (Nat.le_trans (bo (e:=ab) he) h))
theorem dY {l:List al} (h:ag (.sl ab) l≤1073741824):cw k (l,())=some (l,()):=
 FX (d:=ab.aa) (S:=dG k) hk (Nat.le_trans (aA (e:=ab)) h) (fun e he=>oL hk (Nat.le_trans (bo (e:=ab) he) h))
theorem PT {g:aJ} (h:ag aj g≤1073741824):ir k (g,())=some (g,()):=by
 have h1:=gN hk g
 have h2:=aA (e:=af) (l:=g.2.1)
 simp only[ir]
 rw[if_pos (by simp;omega),jn hk (by omega),Option.bind_some]
 simp
theorem M0 {g:aJ} (h:ag aj g≤1073741824):gj k (g,())=some (g,()):=by
 have h1:=gN hk g
 have h2:=aA (e:=af) (l:=g.2.1)
 simp only[gj]
 rw[oq hk (by omega),Option.bind_some,dY hk (by omega),Option.bind_some]
theorem Ox {b:bz} (h1:ag (.sl af) b.2.1≤1073741824) (h3:ag (.sl ab) b.2.2.2≤1073741824):gL k (b,())=some (b,()):=by
 have h2:=aA (e:=af) (l:=b.2.1)
 simp only[gL]
 rw[if_pos (by simp;omega),jn hk (by omega),Option.bind_some]
 simp
theorem Qu {c:cg} (h:ag bC c≤1073741824):lJ k (c,())=some (c,()):=by
 have h1:=jq hk c
 have h2:=aA (e:= .str) (l:=c.2.2.2.2.2)
 simp only[lJ]
 rw[if_pos (by simp;omega)]
 simp
theorem Ou {c:cg} (h:ag bC c≤1073741824):kj k (c,())=some (c,()):=by
 have h1:=jq hk c
 have h2:=aA (e:= .str) (l:=c.2.2.2.2.2)
 simp only[kj]
 rw[if_pos (by simp;omega)]
 simp
end
end Vg.Tryz
namespace Vg.Tryz
open Go Vg
set_option linter.unusedVariables false
set_option linter.unusedSectionVars false
set_option linter.unusedSimpArgs false
def jf (k:Nat) (l:List ai):Int:=match dL k (l,())with|some r=>r.1|none=>0
def dU (f n:Int):Int:=if n<1 then 0 else if f<0 then 0 else Int.tmod f n
def mP (l:List al) (s:List ai):Option Nat:=qB l.length (fun i=>decide ((l.getD i ab.aa).1=s))
def zF (l:List al):Bool:=bd 0 l.length (fun i=>bd 0 i (fun j=> !decide ((l.getD j ab.aa).1=(l.getD i ab.aa).1)))
def fR (k:Nat) (c:bc):Bool:=bd 0 c.2.length (fun i=>bY (c.2.getD i ab.aa)&&decide (jf k (c.2.getD i ab.aa).1=c.1))&&(decide (0<c.2.length)&&zF c.2)
def xg (l:List bc) (i:Nat):Bool:=i==0||decide ((l.getD (i-1) ay.aa).1<(l.getD i ay.aa).1)
def jA (k:Nat) (p:aG) (i n:Int):Bool:=
 bd 0 p.2.2.length (fun j=>fR k (p.2.2.getD j ay.aa)&&(decide (dU (p.2.2.getD j ay.aa).1 n=i)&&xg p.2.2 j))&&(bI p.1 (-1) 4&&decide (0≤p.2.1))
def iL (k:Nat) (l:List aG):Bool:=bd 0 l.length (fun i=>jA k (l.getD i ak.aa) i l.length)&&bI l.length 1 3
theorem so {e:Ty} {l:List e.den} {i:Nat} {d:e.den} (hi:i<l.length):ag e (l.getD i d)+l.length≤ag (.sl e) l:=by
 have h:=MI (f:=ag e) (ck (d:=d) hi)
 simp only[ag]
 omega
section
variable {k:Nat} (hk:9223372036854775808≤k)
include hk
theorem iS {l:List ai} (hs:ag (.sl af) l≤1048576):dL k (l,())=some (jf k l,()):=by
 obtain⟨n,h1,h2⟩:=KI hk hs
 unfold jf
 rw[h1]
theorem iN {l:List ai} (hs:ag (.sl af) l≤1048576):dW k (l,())=some (jf k l,()):=by
 obtain⟨n,h1,h2⟩:=KI hk hs
 unfold jf
 rw[h1,h2]
theorem iU {f n:Int}:eE k (f,n,())=some (dU f n,()):=by
 simp only[eE,dU]
 by_cases h1:n<1
 ·simp[h1]
 ·by_cases h2:f<0
  ·simp[h1,h2]
  ·have h3:n≠0:=by omega
   simp[h1,h2,h3]
theorem lT {f n:Int}:fx k (f,n,())=some (dU f n,()):=by
 rw[RA hk,iU hk]
omit hk in
theorem GW {f n:Int} (h:1≤n):0≤dU f n∧dU f n<n:=by
 unfold dU
 rw[if_neg (by omega)]
 split
 ·omega
 ·exact⟨Int.tmod_nonneg _ (by omega),Int.tmod_lt_of_pos _ (by omega)⟩
theorem Ch {l:List al} {s:List ai} (hs:ag (.sl ab) l≤1048576):gK k (l,s,())=some (oY (mP l s),()):=by
 have hl:=aA (e:=ab) (l:=l)
 simp only[gK]
 refine(th (fun i:Nat=>(s,l,(l.length:Int),(i:Int),())) (fun i=>decide ((l.getD i ab.aa).1=s)) l.length (e:=some (-1,())) (fun i=>some ((i:Int),())) (fun G i hi=> ?_) (fun G=> ?_) k (by omega)).trans ?_
 ·obtain⟨h1,h2⟩:=gb hk hs hi
  simp only[aw,aK hi,hi,decide_true,if_true,Int.toNat_natCast,ew hk h2,Option.bind_some]
  rw[aZ (by omega)]
 ·simp
 ·unfold mP
  cases qB l.length (fun i=>decide ((l.getD i ab.aa).1=s))<;>rfl
theorem EV {c:bc} {s:List ai} (hs:ag (.sl ab) c.2≤1048576):lK k (c,s,())=some (oY (mP c.2 s),()):=by
 have hl:=aA (e:=ab) (l:=c.2)
 simp only[lK]
 refine(th (fun i:Nat=>(s,c,(i:Int),())) (fun i=>decide ((c.2.getD i ab.aa).1=s)) c.2.length (e:=some (-1,())) (fun i=>some ((i:Int),())) (fun G i hi=> ?_) (fun G=> ?_) k (by omega)).trans ?_
 ·obtain⟨h1,h2⟩:=gb hk hs hi
  simp only[aw,aK hi,hi,decide_true,if_true,Int.toNat_natCast,dT hk h2,Option.bind_some]
  rw[aZ (by omega)]
 ·simp
 ·unfold mP
  cases qB c.2.length (fun i=>decide ((c.2.getD i ab.aa).1=s))<;>rfl
theorem Et {c:bc} {s:List ai} (hs:ag (.sl ab) c.2≤1048576):lA k (c,s,())=some (oY (mP c.2 s),()):=by
 simp only[lA]
 rw[Ch hk hs,Option.bind_some]
omit hk in
theorem PU {l:List al} {i:Nat} (hi:i<l.length):(mP (l.take i) (l.getD i ab.aa).1=none)↔bd 0 i (fun j=> !decide ((l.getD j ab.aa).1=(l.getD i ab.aa).1))=true:=by
 unfold mP
 rw[Kb,ee]
 have hl:(l.take i).length=i:=by simp;omega
 rw[hl]
 have hg:∀j,j<i→(l.take i).getD j ab.aa=l.getD j ab.aa:=by
  intro j hj
  simp[List.getD_eq_getElem?_getD,List.getElem?_take,hj]
 constructor
 ·intro h j _ hj
  have:=h j hj
  rw[hg j hj]at this
  simp only[this,Bool.not_false]
 ·intro h j hj
  have:=h j (by omega) hj
  rw[hg j hj]
  simpa using this
theorem JV {l:List al} (hs:ag (.sl ab) l≤1048576):gO k (l,())=some (zF l,()):=by
 have hl:=aA (e:=ab) (l:=l)
 simp only[gO]
 refine(bN (fun i:Nat=>(l,l,(l.length:Int),(i:Int),())) (fun i=>bd 0 i (fun j=> !decide ((l.getD j ab.aa).1=(l.getD i ab.aa).1))) l.length (e:=some (true,())) (no:=some (false,())) ?_ ?_ k 0 (by omega)).trans ?_
 ·intro G i hi
  have ht:=gf (e:=ab) l i
  simp only[aw,aK hi,hi,decide_true,if_true,Int.toNat_natCast]
  rw[if_pos (by simp;omega),Ch hk (by omega),Option.bind_some,aZ (by omega)]
  have key:=PU hi
  cases hp:bd 0 i (fun j=> !decide ((l.getD j ab.aa).1=(l.getD i ab.aa).1))with
  |true=>
   rw[key.2 hp]
   rfl
  |false=>
   cases hq:mP (l.take i) (l.getD i ab.aa).1 with
   |none=>rw[key.1 hq]at hp;cases hp
   |some j=>rw[if_pos (by simp[oY]),if_neg (by simp)]
 ·intro G i hi
  simp only[aw]
  rw[if_neg (by simp;omega)]
 ·unfold zF
  split<;>simp_all
theorem uf {c:bc} (hs:ag ay c≤1048576):lO k (c,())=some (fR k c,()):=by
 rw[ei hk]at hs
 have hl:=aA (e:=ab) (l:=c.2)
 simp only[lO,aP]
 refine(bN (fun i:Nat=>(c,c.2,(c.2.length:Int),(i:Int),())) (fun i=>bY (c.2.getD i ab.aa)&&decide (jf k (c.2.getD i ab.aa).1=c.1)) c.2.length
  (e:=some (decide (0<c.2.length)&&zF c.2,())) (no:=some (false,())) ?_ ?_ k 0 (by omega)).trans ?_
 ·intro G i hi
  obtain⟨h1,h2⟩:=gb hk hs hi
  have h3:=ch hk (c.2.getD i ab.aa)
  simp only[aw,aK hi,hi,decide_true,if_true,Int.toNat_natCast,gw hk h1,iN hk (l:=(c.2.getD i ab.aa).1) (by omega),Option.bind_some,bL]
  rw[aZ (by omega)]
  generalize bY (c.2.getD i ab.aa)=b1
  generalize jf k (c.2.getD i ab.aa).1=f
  cases b1<;>by_cases hf:f=c.1<;>simp[hf]
 ·intro G i hi
  simp only[aw]
  rw[if_neg (by simp;omega),JV hk hs]
  by_cases h0:0<c.2.length<;>simp[h0]
 ·unfold fR
  cases bd 0 c.2.length (fun i=>bY (c.2.getD i ab.aa)&&decide (jf k (c.2.getD i ab.aa).1=c.1))<;>simp
theorem tT {c:bc} (hs:ag ay c≤1048576):lx k (c,())=some (fR k c,()):=by
 rw[ei hk]at hs
 have hl:=aA (e:=ab) (l:=c.2)
 simp only[lx,aP]
 refine(bN (fun i:Nat=>(c,(i:Int),())) (fun i=>(bY (c.2.getD i ab.aa)&&decide (jf k (c.2.getD i ab.aa).1=c.1))&&bd 0 i (fun j=> !decide ((c.2.getD j ab.aa).1=(c.2.getD i ab.aa).1))) c.2.length
  (e:=some (decide (0<c.2.length),())) (no:=some (false,())) ?_ ?_ k 0 (by omega)).trans ?_
 ·intro G i hi
  obtain⟨h1,h2⟩:=gb hk hs hi
  have h3:=ch hk (c.2.getD i ab.aa)
  simp only[aw,aK hi,hi,decide_true,if_true,Int.toNat_natCast,fm hk h1,iS hk (l:=(c.2.getD i ab.aa).1) (by omega),Option.bind_some,bL,Bool.or_true]
  have hin:az k (fun G7 (t8:bc×Int×Int×Unit)=>
   if(decide ((t8.2.2.1:Int)<t8.2.1))=true then
    if(decide (0≤t8.2.2.1∧t8.2.2.1<((List.length t8.1.2:Nat):Int)))=true then
     if(decide (0≤t8.2.1∧t8.2.1<((List.length t8.1.2:Nat):Int)))=true then
      Option.bind (cL k ((List.getD t8.1.2 (Int.toNat t8.2.2.1) ab.aa).1,(List.getD t8.1.2 (Int.toNat t8.2.1) ab.aa).1,())) fun(r9:Bool×Unit)=>
      if r9.1=true then
       some (false,())
      else
       G7 (t8.1,t8.2.1,IntKind.i64.wrap (t8.2.2.1+(1:Int)),())
     else
      none
    else
     none
   else
    G (t8.1,IntKind.i64.wrap (t8.2.1+(1:Int)),())) (c,(i:Int),(0:Int),())=
   if bd 0 i (fun j=> !decide ((c.2.getD j ab.aa).1=(c.2.getD i ab.aa).1))=true then G (c,((i+1:Nat):Int),())else some (false,()):=by
   refine bN (fun j:Nat=>(c,(i:Int),(j:Int),())) (fun j=> !decide ((c.2.getD j ab.aa).1=(c.2.getD i ab.aa).1)) i ?_ ?_ k 0 (by omega)
   ·intro G2 j hj
    obtain⟨h4,h5⟩:=gb hk hs (i:=j) (by omega)
    simp only[aw,aK hi,aK (show j<c.2.length by omega),hi,hj,decide_true,if_true,Int.toNat_natCast,dT hk h5,Option.bind_some]
    rw[aZ (by omega)]
    by_cases hq:(c.2.getD j ab.aa).1=(c.2.getD i ab.aa).1<;>simp only[hq,decide_true,decide_false,Bool.not_true,Bool.not_false,if_true,Bool.false_eq_true,if_false]
   ·intro G2 j hj
    simp only[aw]
    rw[if_neg (by simp;omega),aZ (by omega)]
  rw[hin]
  generalize bY (c.2.getD i ab.aa)=b1
  generalize jf k (c.2.getD i ab.aa).1=f
  generalize bd 0 i (fun j=> !decide ((c.2.getD j ab.aa).1=(c.2.getD i ab.aa).1))=b3
  cases b1<;>cases b3<;>by_cases hf:f=c.1<;>simp[hf]
 ·intro G i hi
  simp only[aw]
  rw[if_neg (by simp;omega)]
  congr 2
  simp
 ·rw[D0]
  unfold fR zF
  cases bd 0 c.2.length (fun i=>bY (c.2.getD i ab.aa)&&decide (jf k (c.2.getD i ab.aa).1=c.1))<;>
   cases bd 0 c.2.length (fun i=>bd 0 i (fun j=> !decide ((c.2.getD j ab.aa).1=(c.2.getD i ab.aa).1)))<;>simp
end
end Vg.Tryz
namespace Vg.Tryz
open Go Vg
set_option linter.unusedVariables false
set_option linter.unusedSectionVars false
set_option linter.unusedSimpArgs false
theorem FJ {j:Nat} (h:j<4611686018427387904):IntKind.i64.wrap (((j+1:Nat):Int)-1)=(j:Int):=by
 rw[wrap64 (by omega) (by omega)];omega
theorem MC (j:Nat):decide ((((j+1:Nat):Int))>0)=true:=by simp
theorem QN:decide ((((0:Nat):Int))>0)=false:=by simp
def lH (a b:bl):Bool:=decide (a.1<b.1)||(decide (a.1=b.1)&&decide (a.2<b.2))
def sF (l:List bl):Bool:=
 bd 0 l.length (fun i=>(decide (0≤(l.getD i aC.aa).1)&&decide (0≤(l.getD i aC.aa).2))&&(i==0|| !lH (l.getD i aC.aa) (l.getD ((i-1)/2) aC.aa)))&&decide (l.length≤16)
abbrev AF (c:bc):List al:=c.2
def bM (p:aG):List al:=p.2.2.flatMap AF
def cU (l:List aG):List al:=l.flatMap bM
def oV (l:List aG):Nat:=(cU l).length
def nK (p:aG) (f:Int):Option Nat:=qB p.2.2.length (fun i=>decide ((p.2.2.getD i ay.aa).1=f))
def iE:al:=([],0,0,ByteArray.empty)
def qw (k:Nat) (p:aG) (s:List ai):al×Bool:=
 match nK p (jf k s)with
 |none=>(iE,false)
 |some i=>match mP (p.2.2.getD i ay.aa).2 s with
  |none=>(iE,false)
  |some j=>((p.2.2.getD i ay.aa).2.getD j ab.aa,true)
def mA (k:Nat) (l:List aG) (s:List ai):Int:=dU (jf k s) l.length
def gU (k:Nat) (l:List aG) (s:List ai):al×Bool:=if l.length=0 then(iE,false)else qw k (l.getD (mA k l s).toNat ak.aa) s
def E9 (c:cg) (g:aJ):Int:=IntKind.i64.wrap (if g.2.2.2.1= -1 then g.2.2.1+c.2.2.2.1 else g.2.2.2.1+c.2.2.2.2.1)
theorem fi {α β:Type} {f:α→List β} {l:List α} {i:Nat} (d:α) (h:i<l.length):(l.take (i+1)).flatMap f=(l.take i).flatMap f++f (l.getD i d):=by
 rw[fN d h,List.flatMap_append];simp
section
variable {k:Nat} (hk:9223372036854775808≤k)
include hk
theorem oW {e f:Ty} {g:e.den→List f.den} (h:∀x,ag (.sl f) (g x)≤ag e x):∀l:List e.den,ag (.sl f) (l.flatMap g)≤ag (.sl e) l
 | []=>by simp[ag]
 |x::l=>by
  have h1:=h x
  have h2:=oW h l
  rw[List.flatMap_cons,JT,fv]
  omega
theorem kV (p:aG):ag (.sl ab) (bM p)≤ag ak p:=by
 rw[dD hk]
 exact oW hk (e:=ay) (f:=ab) (g:=AF) (fun c=>by rw[ei hk];exact Nat.le_refl _) p.2.2
theorem fh (l:List aG):ag (.sl ab) (cU l)≤ag (.sl ak) l:=oW hk (e:=ak) (f:=ab) (g:=bM) (kV hk) l
theorem k9 {p:aG} {i:Nat} (hs:ag ak p≤1048576) (hi:i<p.2.2.length):ag ay (p.2.2.getD i ay.aa)≤1048576∧ag (.sl ab) (p.2.2.getD i ay.aa).2≤1048576:=by
 rw[dD hk]at hs
 have h1:=so (e:=ay) (d:=ay.aa) hi
 have h2:=ei hk (p.2.2.getD i ay.aa)
 omega
theorem I2 {p:aG} {i n:Int} (hs:ag ak p≤1048576):mL k (p,i,n,())=some (jA k p i n,()):=by
 have hl:p.2.2.length≤1048576:=by rw[dD hk]at hs;have:=aA (e:=ay) (l:=p.2.2);omega
 simp only[mL,aP]
 refine(bN (fun j:Nat=>(i,n,p,p.2.2,(p.2.2.length:Int),(j:Int),())) (fun j=>fR k (p.2.2.getD j ay.aa)&&(decide (dU (p.2.2.getD j ay.aa).1 n=i)&&xg p.2.2 j)) p.2.2.length
  (e:=some (bI p.1 (-1) 4&&decide (0≤p.2.1),())) (no:=some (false,())) ?_ ?_ k 0 (by omega)).trans ?_
 ·intro G j hj
  obtain⟨h1,_⟩:=k9 hk hs hj
  cases j with
  |zero=>
   simp only[aw,aK hj,hj,QN,decide_true,if_true,Int.toNat_natCast,uf hk h1,lT hk,Option.bind_some,bL,beq_self_eq_true,Bool.false_eq_true,if_false,xg,Bool.true_or,Bool.and_true]
   rw[aZ (by omega)]
   generalize fR k (p.2.2.getD 0 ay.aa)=b1
   generalize dU (p.2.2.getD 0 ay.aa).1 n=f
   cases b1<;>by_cases hf:f=i<;>simp[hf]
  |succ m=>
   have hm:m<p.2.2.length:=by omega
   simp only[aw,aK hj,aK hm,hj,MC,FJ (show m<4611686018427387904 by omega),decide_true,if_true,Int.toNat_natCast,uf hk h1,lT hk,Option.bind_some,bL,beq_self_eq_true,xg,Bool.or_true,Nat.add_sub_cancel]
   rw[aZ (by omega)]
   generalize fR k (p.2.2.getD (m+1) ay.aa)=b1
   generalize dU (p.2.2.getD (m+1) ay.aa).1 n=f
   generalize (p.2.2.getD m ay.aa).1=u
   generalize (p.2.2.getD (m+1) ay.aa).1=v
   have hb:((m+1:Nat)==0)=false:=rfl
   rw[hb]
   cases b1<;>by_cases hf:f=i<;>by_cases huv:u<v<;>simp[hf,huv]<;>omega
 ·intro G j hj
  simp only[aw]
  rw[if_neg (by simp;omega),et hk,Option.bind_some]
  generalize bI p.1 (-1) 4=b
  cases b<;>simp
 ·unfold jA
  cases bd 0 p.2.2.length (fun j=>fR k (p.2.2.getD j ay.aa)&&(decide (dU (p.2.2.getD j ay.aa).1 n=i)&&xg p.2.2 j))<;>simp
theorem Jp {p:aG} {i n:Int} (hs:ag ak p≤1048576):nb k (p,i,n,())=some (jA k p i n,()):=by
 have hl:p.2.2.length≤1048576:=by rw[dD hk]at hs;have:=aA (e:=ay) (l:=p.2.2);omega
 simp only[nb,aP]
 refine(bN (fun j:Nat=>(i,n,p,(j:Int),())) (fun j=>fR k (p.2.2.getD j ay.aa)&&(decide (dU (p.2.2.getD j ay.aa).1 n=i)&&xg p.2.2 j)) p.2.2.length
  (e:=some (bI p.1 (-1) 4&&decide (0≤p.2.1),())) (no:=some (false,())) ?_ ?_ k 0 (by omega)).trans ?_
 ·intro G j hj
  obtain⟨h1,_⟩:=k9 hk hs hj
  cases j with
  |zero=>
   simp only[aw,aK hj,hj,QN,decide_true,if_true,Int.toNat_natCast,tT hk h1,iU hk,Option.bind_some,bL,beq_self_eq_true,Bool.false_eq_true,if_false,xg,Bool.true_or,Bool.and_true,Bool.or_true,Bool.and_false,Bool.not_false]
   rw[aZ (by omega)]
   generalize fR k (p.2.2.getD 0 ay.aa)=b1
   generalize dU (p.2.2.getD 0 ay.aa).1 n=f
   cases b1<;>by_cases hf:f=i<;>simp[hf]
  |succ m=>
   have hm:m<p.2.2.length:=by omega
   simp only[aw,aK hj,aK hm,hj,MC,FJ (show m<4611686018427387904 by omega),decide_true,if_true,Int.toNat_natCast,tT hk h1,iU hk,Option.bind_some,bL,beq_self_eq_true,xg,Bool.or_true,Nat.add_sub_cancel]
   rw[aZ (by omega)]
   generalize fR k (p.2.2.getD (m+1) ay.aa)=b1
   generalize dU (p.2.2.getD (m+1) ay.aa).1 n=f
   generalize (p.2.2.getD m ay.aa).1=u
   generalize (p.2.2.getD (m+1) ay.aa).1=v
   have hb:((m+1:Nat)==0)=false:=rfl
   rw[hb]
   cases b1<;>by_cases hf:f=i<;>by_cases huv:u<v<;>simp[hf,huv]<;>omega
 ·intro G j hj
  simp only[aw]
  rw[if_neg (by simp;omega),fc hk,Option.bind_some]
  generalize bI p.1 (-1) 4=b
  cases b<;>simp
 ·unfold jA
  cases bd 0 p.2.2.length (fun j=>fR k (p.2.2.getD j ay.aa)&&(decide (dU (p.2.2.getD j ay.aa).1 n=i)&&xg p.2.2 j))<;>simp
theorem jW {l:List aG} {i:Nat} (hs:ag (.sl ak) l≤1048576) (hi:i<l.length):ag ak (l.getD i ak.aa)≤1048576:=by
 have h1:=so (e:=ak) (d:=ak.aa) hi
 omega
theorem FN {l:List aG} (hs:ag (.sl ak) l≤1048576):ly k (l,())=some (iL k l,()):=by
 have hl:=aA (e:=ak) (l:=l)
 simp only[ly]
 rw[et hk,Option.bind_some]
 unfold iL
 cases hin:bI l.length 1 3 with
 |false=>simp
 |true=>
  rw[if_neg (by simp)]
  refine(bN (fun i:Nat=>(l,l,(l.length:Int),(i:Int),())) (fun i=>jA k (l.getD i ak.aa) i l.length) l.length (e:=some (true,())) (no:=some (false,())) ?_ ?_ k 0 (by omega)).trans ?_
  ·intro G i hi
   simp only[aw,aK hi,hi,decide_true,if_true,Int.toNat_natCast,I2 hk (jW hk hs hi),Option.bind_some]
   rw[aZ (by omega)]
   cases jA k (l.getD i ak.aa) i l.length<;>simp
  ·intro G i hi
   simp only[aw]
   rw[if_neg (by simp;omega)]
  ·cases bd 0 l.length (fun i=>jA k (l.getD i ak.aa) i l.length)<;>simp
theorem Fo {l:List aG} (hs:ag (.sl ak) l≤1048576):lQ k (l,())=some (iL k l,()):=by
 have hl:=aA (e:=ak) (l:=l)
 simp only[lQ,aP]
 unfold iL
 refine(bN (fun i:Nat=>(l,(i:Int),())) (fun i=>jA k (l.getD i ak.aa) i l.length) l.length (e:=some (bI l.length 1 3,())) (no:=some (false,())) ?_ ?_ k 0 (by omega)).trans ?_
 ·intro G i hi
  simp only[aw,aK hi,hi,decide_true,if_true,Int.toNat_natCast,Jp hk (jW hk hs hi),Option.bind_some]
  rw[aZ (by omega)]
  cases jA k (l.getD i ak.aa) i l.length<;>simp
 ·intro G i hi
  simp only[aw]
  rw[if_neg (by simp;omega),fc hk,Option.bind_some]
 ·cases bd 0 l.length (fun i=>jA k (l.getD i ak.aa) i l.length)<;>simp
theorem tf {p:aG} (hs:ag ak p≤1048576):gC k (p,())=some (bM p,()):=by
 have hl:p.2.2.length≤1048576:=by rw[dD hk]at hs;have:=aA (e:=ay) (l:=p.2.2);omega
 simp only[gC]
 refine cB (fun i:Nat=>(p,(p.2.2.take i).flatMap AF,(i:Int),())) p.2.2.length (fun G i hi=> ?_) (fun G=> ?_) k 0 (by omega) (by omega)
 ·obtain⟨h1,h2⟩:=k9 hk hs hi
  have hb:=oW hk (e:=ay) (f:=ab) (g:=AF) (fun c=>by rw[ei hk];exact Nat.le_refl _) (p.2.2.take i)
  have hb2:=gf (e:=ay) p.2.2 i
  have hb3:=aA (e:=ab) (l:=(p.2.2.take i).flatMap AF)
  have hb4:=aA (e:=ab) (l:=(p.2.2.getD i ay.aa).2)
  rw[dD hk]at hs
  simp only[aw,aK hi,hi,decide_true,if_true,Int.toNat_natCast]
  rw[jn hk (by omega),Option.bind_some,if_pos (by simp only[decide_eq_true_eq];omega),aZ (by omega),fi ay.aa hi]
 ·simp[bM]
theorem sK {p:aG} (hs:ag ak p≤1048576):gA k (p,())=some (bM p,()):=by
 have hl:p.2.2.length≤1048576:=by rw[dD hk]at hs;have:=aA (e:=ay) (l:=p.2.2);omega
 simp only[gA]
 refine cB (fun i:Nat=>(p,(p.2.2.take i).flatMap AF,p.2.2,(p.2.2.length:Int),(i:Int),())) p.2.2.length (fun G i hi=> ?_) (fun G=> ?_) k 0 (by omega) (by omega)
 ·obtain⟨h1,h2⟩:=k9 hk hs hi
  have hb:=oW hk (e:=ay) (f:=ab) (g:=AF) (fun c=>by rw[ei hk];exact Nat.le_refl _) (p.2.2.take i)
  have hb2:=gf (e:=ay) p.2.2 i
  have hb3:=aA (e:=ab) (l:=(p.2.2.take i).flatMap AF)
  have hb4:=aA (e:=ab) (l:=(p.2.2.getD i ay.aa).2)
  rw[dD hk]at hs
  simp only[aw,aK hi,hi,decide_true,if_true,Int.toNat_natCast]
  rw[dY hk (by omega),Option.bind_some,if_pos (by simp only[decide_eq_true_eq];omega),aZ (by omega),fi ay.aa hi]
 ·simp[bM]
end
end Vg.Tryz
namespace Vg.Tryz
open Go Vg
set_option linter.unusedVariables false
set_option linter.unusedSectionVars false
set_option linter.unusedSimpArgs false
theorem Kw {α:Type} (lt:α→α→Bool) (x:α):∀r:List α,df lt x r=r.takeWhile (lt x)++x::r.dropWhile (lt x)
 | []=>rfl
 |y::r=>by
  simp only[df,List.takeWhile_cons,List.dropWhile_cons]
  split
  ·rw[Kw lt x r];rfl
  ·rfl
theorem zE {α:Type} (p:α→Bool) (d:α):∀(r:List α) (m:Nat),m<(r.takeWhile p).length→p (r.getD m d)=true
 | [],m,h=>by simp at h
 |y::r,m,h=>by
  rw[List.takeWhile_cons]at h
  split at h
  ·cases m with
   |zero=>simpa
   |succ m=>rw[List.getD_cons_succ];exact zE p d r m (by simpa using h)
  ·simp at h
theorem xP {α:Type} (p:α→Bool) (d:α):∀(r:List α),(r.takeWhile p).length<r.length→p (r.getD (r.takeWhile p).length d)=false
 | [],h=>by simp at h
 |y::r,h=>by
  rw[List.takeWhile_cons]at h⊢
  split
  ·rename_i hp
   rw[if_pos hp]at h
   simp only[List.length_cons,List.getD_cons_succ]
   exact xP p d r (by simpa using h)
  ·simpa using ‹¬p y=true›
theorem MF {α:Type} (d:α) (l:List α) (m:Nat) (h:m<l.length):l.reverse.getD m d=l.getD (l.length-1-m) d:=by
 rw[List.getD_eq_getElem?_getD,List.getElem?_reverse h,←List.getD_eq_getElem?_getD]
def eI {α:Type} (lt:α→α→Bool) (x:α) (out:List α):Nat:=(out.reverse.takeWhile (lt x)).length
theorem R9 {α:Type} (lt:α→α→Bool) (x:α) (r:List α):(df lt x r).reverse=r.reverse.take (r.reverse.length-eI lt x r.reverse)++[x]++r.reverse.drop (r.reverse.length-eI lt x r.reverse):=by
 have hc:(r.takeWhile (lt x)).length≤r.length:=(List.takeWhile_sublist _).length_le
 have hc2:eI lt x r.reverse=(r.takeWhile (lt x)).length:=by unfold eI;rw[List.reverse_reverse]
 have hl:r.reverse.length=r.length:=List.length_reverse ..
 rw[Kw,hc2,hl,List.take_reverse,List.drop_reverse]
 have e1:r.length-(r.length-(r.takeWhile (lt x)).length)=(r.takeWhile (lt x)).length:=by omega
 rw[e1]
 have e2:r.drop (r.takeWhile (lt x)).length=r.dropWhile (lt x):=by
  conv=>lhs;arg 2;rw[←List.takeWhile_append_dropWhile (p:=lt x) (l:=r)]
  rw[List.drop_left]
 have e3:r.take (r.takeWhile (lt x)).length=r.takeWhile (lt x):=by
  conv=>lhs;arg 2;rw[←List.takeWhile_append_dropWhile (p:=lt x) (l:=r)]
  rw[List.take_left]
 rw[e2,e3]
 simp
def pY {α:Type} (lt:α→α→Bool) (l:List α):List α:=l.foldl (fun r x=>df lt x r) []
theorem FY {α:Type} (lt:α→α→Bool) (x:α):∀r:List α,(df lt x r).length=r.length+1
 | []=>rfl
 |y::r=>by simp only[df];split<;>simp[FY lt x r]
theorem QI {α:Type} (lt:α→α→Bool) {l:List α} {i:Nat} (d:α) (h:i<l.length):pY lt (l.take (i+1))=df lt (l.getD i d) (pY lt (l.take i)):=by
 unfold pY
 rw[fN d h,List.foldl_append];rfl
theorem Kr {α:Type} (lt:α→α→Bool) (l:List α):(pY lt l).length=l.length:=by
 have:∀(l r:List α),(l.foldl (fun r x=>df lt x r) r).length=l.length+r.length:=by
  intro l
  induction l with
  |nil=>intro r;simp
  |cons x l ih=>intro r;rw[List.foldl_cons,ih,FY,List.length_cons];omega
 simpa[pY]using this l []
theorem Ft {e:Ty} (lt:e.den→e.den→Bool) (x:e.den):∀r:List e.den,ag (.sl e) (df lt x r)=1+ag e x+ag (.sl e) r
 | []=>by simp only[df];rw[fv]
 |y::r=>by
  simp only[df]
  split
  ·rw[fv,fv,Ft lt x r];omega
  ·rw[fv,fv]
theorem QW {e:Ty} (lt:e.den→e.den→Bool) (l:List e.den):ag (.sl e) (pY lt l)=ag (.sl e) l:=by
 have:∀(l r:List e.den),ag (.sl e) (l.foldl (fun r x=>df lt x r) r)=ag (.sl e) l+ag (.sl e) r:=by
  intro l
  induction l with
  |nil=>intro r;simp[ag]
  |cons x l ih=>intro r;rw[List.foldl_cons,ih,Ft,fv];omega
 have h:=this l []
 rw[Pn]at h
 exact h
theorem Tq {e:Ty} (l:List e.den):ag (.sl e) l.reverse=ag (.sl e) l:=by
 simp only[ag,List.length_reverse,List.map_reverse,List.sum_reverse]
theorem Py {e:Ty} (lt:e.den→e.den→Bool) (l:List e.den):ag (.sl e) (eK lt l)=ag (.sl e) l:=by
 show ag (.sl e) (pY lt l).reverse=_
 rw[Tq,QW]
theorem QM (l:List al):ag (.sl ab) (dq l)=ag (.sl ab) l:=Py (e:=ab) cP l
section
variable {k:Nat} (hk:9223372036854775808≤k)
include hk
theorem Q7 {l:List al} (hs:ag (.sl ab) l≤1048576):jQ k (l,())=some (dq l,()):=by
 have hl:=aA (e:=ab) (l:=l)
 simp only[jQ]
 refine cB (fun i:Nat=>(l,(pY cP (l.take i)).reverse,(i:Int),())) l.length (fun G i hi=> ?_) (fun G=> ?_) k 0 (by omega) (by omega)
 ·obtain⟨h1,h2⟩:=gb hk hs hi
  simp only[aw,aK hi,hi,decide_true,if_true,Int.toNat_natCast]
  rw[nO hk (by omega),Option.bind_some,QI cP ab.aa hi,R9]
  generalize hx:l.getD i ab.aa=x at*
  have hol:(pY cP (l.take i)).reverse.length=i:=by rw[List.length_reverse,Kr];simp;omega
  generalize hout:(pY cP (l.take i)).reverse=out at*
  have hcl:eI cP x out≤out.length:=by
   unfold eI
   have:=(List.takeWhile_sublist (cP x) (l:=out.reverse)).length_le
   simpa using this
  simp only[aP]
  refine cB (fun m:Nat=>(l,out,(i:Int),x,((out.length-m:Nat):Int),())) (eI cP x out) (fun G2 m hm=> ?_) (fun G2=> ?_) k 0 (by omega) (by omega)
  ·have hlt:cP x (out.getD (out.length-1-m) ab.aa)=true:=by
    have:=zE (cP x) ab.aa out.reverse m hm
    rwa [MF _ _ _ (by omega)]at this
   obtain⟨q,hq⟩:∃q,out.length-m=q+1:=⟨out.length-m-1,by omega⟩
   have hq2:out.length-(m+1)=q:=by omega
   have hq3:out.length-1-m=q:=by omega
   rw[hq3]at hlt
   simp only[hq,MC,FJ (show q<4611686018427387904 by omega),aK (show q<out.length by omega),Bool.or_true,if_true,beq_self_eq_true,Int.toNat_natCast,oO hk h2,nQ hk h2,Option.bind_some,hq2]
   rw[if_pos hlt]
  ·have hend:(if decide (((out.length-eI cP x out:Nat):Int)>0)=true then cP x (out.getD (out.length-eI cP x out-1) ab.aa)else false)=false:=by
    by_cases h0:eI cP x out=out.length
    ·rw[h0,Nat.sub_self];rfl
    ·rw[if_pos (by simp;omega)]
     have:=xP (cP x) ab.aa out.reverse (by rw[List.length_reverse];unfold eI at h0 hcl;omega)
     rw[MF _ _ _ (by unfold eI at h0 hcl;omega)]at this
     unfold eI
     rw[show out.length-(List.takeWhile (cP x) out.reverse).length-1=out.length-1-(List.takeWhile (cP x) out.reverse).length by omega]
     exact this
   have fin:(if(decide (0≤(((out.length-eI cP x out:Nat):Int))∧(((out.length-eI cP x out:Nat):Int))≤((List.length out:Nat):Int)))=true then
    if(decide (List.length ([]:List al)+List.length (List.take (Int.toNat ((out.length-eI cP x out:Nat):Int)) out)<4294967296))=true then
     if(decide (List.length (([]:List al)++(List.take (Int.toNat ((out.length-eI cP x out:Nat):Int)) out))+List.length ([x]:List al)<4294967296))=true then
      if(decide (0≤(((out.length-eI cP x out:Nat):Int))∧(((out.length-eI cP x out:Nat):Int))≤((List.length out:Nat):Int)))=true then
       if(decide (List.length ((([]:List al)++(List.take (Int.toNat ((out.length-eI cP x out:Nat):Int)) out))++([x]:List al))+List.length (List.drop (Int.toNat ((out.length-eI cP x out:Nat):Int)) out)<4294967296))=true then
        G (l,((([]:List al)++(List.take (Int.toNat ((out.length-eI cP x out:Nat):Int)) out))++([x]:List al))++(List.drop (Int.toNat ((out.length-eI cP x out:Nat):Int)) out),IntKind.i64.wrap ((i:Int)+(1:Int)),())
       else none
      else none
     else none
    else none
    else none)=G (l,out.take (out.length-eI cP x out)++[x]++out.drop (out.length-eI cP x out),((i+1:Nat):Int),()):=by
    rw[if_pos (by simp only[decide_eq_true_eq];omega),if_pos (by simp only[decide_eq_true_eq,List.length_nil,List.length_take];omega),if_pos (by simp only[decide_eq_true_eq,List.length_append,List.length_nil,List.length_take,List.length_singleton];omega),if_pos (by simp only[decide_eq_true_eq];omega),if_pos (by simp only[decide_eq_true_eq,List.length_append,List.length_nil,List.length_take,List.length_singleton,List.length_drop];omega),aZ (by omega),Int.toNat_natCast,List.nil_append]
   by_cases hz:out.length-eI cP x out=0
   ·rw[hz]at fin⊢
    simp only[QN,Bool.false_eq_true,if_false,beq_self_eq_true,Bool.false_eq_true,Bool.not_false,Bool.true_or,if_true,Option.bind_some]
    have hg:(!((false:Bool)==true)||decide (0≤IntKind.i64.wrap (((0:Nat):Int)-1)∧IntKind.i64.wrap (((0:Nat):Int)-1)<((out.length:Nat):Int)))=true:=rfl
    rw[if_pos hg]
    exact fin
   ·obtain⟨q,hq⟩:∃q,out.length-eI cP x out=q+1:=⟨out.length-eI cP x out-1,by omega⟩
    rw[hq]at hend fin⊢
    rw[MC,if_pos rfl,Nat.add_sub_cancel]at hend
    simp only[MC,FJ (show q<4611686018427387904 by omega),aK (show q<out.length by omega),Bool.or_true,if_true,beq_self_eq_true,Int.toNat_natCast,nQ hk h2,Option.bind_some]
    have hend2:bU x.1 (out.getD q ab.aa).1=false:=hend
    rw[if_neg (by rw[hend2];simp)]
    exact fin
 ·simp only[aw,Nat.lt_irrefl,decide_false,Bool.false_eq_true,if_false,List.take_length]
  rfl
end
end Vg.Tryz
namespace Vg.Tryz
open Go Vg
set_option linter.unusedVariables false
set_option linter.unusedSectionVars false
set_option linter.unusedSimpArgs false
theorem tg {β:Type} {c:Bool} {a b:β} (h:c=false):(if c=true then a else b)=b:=by rw[h];rfl
theorem UK {a b:Nat} (h:a+b<4611686018427387904):IntKind.i64.wrap ((a:Int)+(b:Int))=((a+b:Nat):Int):=by
 rw[wrap64 (by omega) (by omega)];omega
theorem rF (u:Int):decide (0≤u)= !decide (u<0):=by by_cases h:u<0<;>simp[h]<;>omega
theorem Ks {q:Nat} (h:q<4611686018427387904):IntKind.i64.wrap (Int.tdiv (IntKind.i64.wrap (((q+1:Nat):Int)-1)) 2)=((q/2:Nat):Int):=by
 rw[FJ h,Int.tdiv_eq_ediv_of_nonneg (by omega),wrap64 (by omega) (by omega)]
 omega
section
variable {k:Nat} (hk:9223372036854775808≤k)
include hk
theorem A0 {l:List aG} (hs:ag (.sl ak) l≤1048576):ji k (l,())=some (dq (cU l),()):=by
 have hl:=aA (e:=ak) (l:=l)
 simp only[ji,aP]
 refine cB (fun i:Nat=>(l,(l.take i).flatMap bM,(i:Int),())) l.length (fun G i hi=> ?_) (fun G=> ?_) k 0 (by omega) (by omega)
 ·have h1:=jW hk hs hi
  have hb:=fh hk (l.take i)
  unfold cU at hb
  have hb1:=kV hk (l.getD i ak.aa)
  have hb2:=gf (e:=ak) l i
  have hb3:=aA (e:=ab) (l:=(l.take i).flatMap bM)
  have hb4:=aA (e:=ab) (l:=bM (l.getD i ak.aa))
  simp only[aw,aK hi,hi,decide_true,if_true,Int.toNat_natCast]
  rw[tf hk h1,Option.bind_some,if_pos (by simp only[decide_eq_true_eq];omega),aZ (by omega),fi ak.aa hi]
 ·have hb:=fh hk l
  simp only[aw,Nat.lt_irrefl,decide_false,Bool.false_eq_true,if_false,List.take_length]
  show Option.bind (jQ k (cU l,())) _=_
  rw[Q7 hk (by omega)]
  rfl
theorem Bi {l:List aG} (hs:ag (.sl ak) l≤1048576) (hn:oV l<20):jr k (l,())=some (dq (cU l),()):=by
 have hl:=aA (e:=ak) (l:=l)
 simp only[jr,aP]
 refine cB (fun i:Nat=>((l.take i).flatMap bM,l,(l.length:Int),(i:Int),())) l.length (fun G i hi=> ?_) (fun G=> ?_) k 0 (by omega) (by omega)
 ·have h1:=jW hk hs hi
  have hb:=fh hk (l.take i)
  unfold cU at hb
  have hb1:=kV hk (l.getD i ak.aa)
  have hb2:=gf (e:=ak) l i
  have hb3:=aA (e:=ab) (l:=(l.take i).flatMap bM)
  have hb4:=aA (e:=ab) (l:=bM (l.getD i ak.aa))
  simp only[aw,aK hi,hi,decide_true,if_true,Int.toNat_natCast]
  rw[sK hk h1,Option.bind_some,if_pos (by simp only[decide_eq_true_eq];omega),aZ (by omega),fi ak.aa hi]
 ·simp only[aw,Nat.lt_irrefl,decide_false,Bool.false_eq_true,if_false,List.take_length]
  show Option.bind (kc k (cU l,())) _=_
  simp only[kc,s9]
  rw[if_pos ?_]
  ·rfl
  ·simp only[Bool.and_eq_true,decide_eq_true_eq,List.all_eq_true]
   refine⟨hn,fun a ha=> ?_⟩
   have hb:=fh hk l
   have hm:=bo (e:=ab) ha
   have h1:=ch hk a
   have h2:=aA (e:=af) (l:=a.1)
   omega
theorem Ki {l:List aG} (hs:ag (.sl ak) l≤1048576):oV l≤1048576:=by
 have h1:=fh hk l
 have h2:=aA (e:=ab) (l:=cU l)
 unfold oV
 omega
theorem GU {l:List aG} (hs:ag (.sl ak) l≤1048576):lC k (l,())=some ((oV l:Int),()):=by
 have hl:=aA (e:=ak) (l:=l)
 simp only[lC]
 refine cB (fun i:Nat=>(((((l.take i).flatMap bM).length:Nat):Int),l,(l.length:Int),(i:Int),())) l.length (fun G i hi=> ?_) (fun G=> ?_) k 0 (by omega) (by omega)
 ·have h1:=jW hk hs hi
  have hb:=fh hk (l.take i)
  unfold cU at hb
  have hb2:=gf (e:=ak) l i
  have hb3:=aA (e:=ab) (l:=(l.take i).flatMap bM)
  rw[fi ak.aa hi,List.length_append]
  simp only[aw,aK hi,hi,decide_true,if_true,Int.toNat_natCast]
  have hp:=h1
  rw[dD hk]at hp
  have hpl:=aA (e:=ay) (l:=(l.getD i ak.aa).2.2)
  refine cB (fun j:Nat=>(((((l.take i).flatMap bM).length+(((l.getD i ak.aa).2.2.take j).flatMap AF).length:Nat):Int),l.getD i ak.aa,l,(l.length:Int),(i:Int),(l.getD i ak.aa).2.2,((l.getD i ak.aa).2.2.length:Int),(j:Int),())) (l.getD i ak.aa).2.2.length (fun G2 j hj=> ?_) (fun G2=> ?_) k 0 (by omega) (by omega)
  ·have hc:=oW hk (e:=ay) (f:=ab) (g:=AF) (fun c=>by rw[ei hk];exact Nat.le_refl _) ((l.getD i ak.aa).2.2.take j)
   have hc1:=gf (e:=ay) (l.getD i ak.aa).2.2 j
   have hc2:=aA (e:=ab) (l:=((l.getD i ak.aa).2.2.take j).flatMap AF)
   obtain⟨h3,h4⟩:=k9 hk h1 hj
   have hc3:=aA (e:=ab) (l:=((l.getD i ak.aa).2.2.getD j ay.aa).2)
   simp only[aK hj,aw,hj,decide_true,if_true,Int.toNat_natCast]
   rw[UK (by omega),aZ (by omega),fi ay.aa hj,List.length_append,Nat.add_assoc]
  ·simp only[aw,Nat.lt_irrefl,decide_false,Bool.false_eq_true,if_false,List.take_length]
   rw[aZ (by omega)]
   rfl
 ·simp only[aw,Nat.lt_irrefl,decide_false,Bool.false_eq_true,if_false,List.take_length]
  rfl
theorem GH {p:aG} {f:Int} (hl:p.2.2.length≤1048576):pV k (p,f,())=some (oY (nK p f),()):=by
 simp only[pV]
 refine(th (fun i:Nat=>(f,p,(i:Int),())) (fun i=>decide ((p.2.2.getD i ay.aa).1=f)) p.2.2.length (e:=some (-1,())) (fun i=>some ((i:Int),())) (fun G i hi=> ?_) (fun G=> ?_) k (by omega)).trans ?_
 ·simp only[aw,aK hi,hi,decide_true,if_true,Int.toNat_natCast,bZ]
  rw[aZ (by omega)]
 ·simp
 ·unfold nK
  cases qB p.2.2.length (fun i=>decide ((p.2.2.getD i ay.aa).1=f))<;>rfl
theorem Gw {p:aG} {f:Int} (hl:p.2.2.length≤1048576):lV k (p,f,())=some (oY (nK p f),()):=by
 simp only[lV]
 refine(th (fun i:Nat=>(f,p,p.2.2,(p.2.2.length:Int),(i:Int),())) (fun i=>decide ((p.2.2.getD i ay.aa).1=f)) p.2.2.length (e:=some (-1,())) (fun i=>some ((i:Int),())) (fun G i hi=> ?_) (fun G=> ?_) k (by omega)).trans ?_
 ·simp only[aw,aK hi,hi,decide_true,if_true,Int.toNat_natCast,bZ]
  rw[aZ (by omega)]
 ·simp
 ·unfold nK
  cases qB p.2.2.length (fun i=>decide ((p.2.2.getD i ay.aa).1=f))<;>rfl
omit hk in
theorem tC (i:Nat):decide (oY (some i)<0)=false:=decide_eq_false (by simp only[oY];omega)
omit hk in
theorem rG {i n:Nat} (h:i<n):decide (0≤oY (some i)∧oY (some i)<(n:Int))=true:=by simp only[oY];exact aK h
omit hk in
theorem xr (i:Nat):(oY (some i)).toNat=i:=by simp[oY]
theorem Iw {p:aG} {s:List ai} (hs:ag ak p≤1048576) (hl:ag (.sl af) s≤1048576):mW k (p,s,())=some ((qw k p s).1,(qw k p s).2,()):=by
 have hpl:p.2.2.length≤1048576:=by rw[dD hk]at hs;have:=aA (e:=ay) (l:=p.2.2);omega
 simp only[mW,iS hk hl,GH hk hpl,Option.bind_some,qw]
 cases hc:nK p (jf k s)with
 |none=>rfl
 |some i=>
  obtain⟨hi,_,_⟩:=kA.1 hc
  obtain⟨h1,h2⟩:=k9 hk hs hi
  refine(tg (tC i)).trans ?_
  refine(if_pos (rG hi)).trans ?_
  rw[xr,EV hk h2,Option.bind_some]
  dsimp only
  cases hq:mP (p.2.2.getD i ay.aa).2 s with
  |none=>rfl
  |some j=>
   obtain⟨hj,_,_⟩:=kA.1 hq
   have h3:=so (e:=ab) (d:=ab.aa) hj
   refine(tg (tC j)).trans ?_
   refine(if_pos (rG hi)).trans ?_
   refine(if_pos (rG hj)).trans ?_
   rw[xr,nO hk (by omega)]
   rfl
theorem HP {p:aG} {s:List ai} (hs:ag ak p≤1048576) (hl:ag (.sl af) s≤1048576):mF k (p,s,())=some ((qw k p s).1,(qw k p s).2,()):=by
 have hpl:p.2.2.length≤1048576:=by rw[dD hk]at hs;have:=aA (e:=ay) (l:=p.2.2);omega
 simp only[mF,iN hk hl,Gw hk hpl,Option.bind_some,qw]
 cases hc:nK p (jf k s)with
 |none=>rfl
 |some i=>
  obtain⟨hi,_,_⟩:=kA.1 hc
  obtain⟨h1,h2⟩:=k9 hk hs hi
  refine(tg (tC i)).trans ?_
  refine(if_pos (rG hi)).trans ?_
  rw[xr,Et hk h2,Option.bind_some]
  dsimp only
  cases hq:mP (p.2.2.getD i ay.aa).2 s with
  |none=>rfl
  |some j=>
   obtain⟨hj,_,_⟩:=kA.1 hq
   have h3:=so (e:=ab) (d:=ab.aa) hj
   refine(tg (tC j)).trans ?_
   refine(if_pos (rG hi)).trans ?_
   refine(if_pos (rG hj)).trans ?_
   rw[xr,oL hk (by omega)]
   rfl
theorem Ia {l:List aG} {s:List ai} (hl:ag (.sl af) s≤1048576):mH k (l,s,())=some (mA k l s,()):=by
 simp only[mH,iS hk hl,iU hk,Option.bind_some,mA]
theorem HN {l:List aG} {s:List ai} (hl:ag (.sl af) s≤1048576):mZ k (l,s,())=some (mA k l s,()):=by
 simp only[mZ,iN hk hl,lT hk,Option.bind_some,mA]
omit hk in
theorem zm {l:List aG} {s:List ai} (h:l.length≠0):0≤mA k l s∧mA k l s<(l.length:Int)∧(mA k l s).toNat<l.length:=by
 have:=GW (f:=jf k s) (n:=(l.length:Int)) (by omega)
 unfold mA
 omega
theorem AZ {l:List aG} {s:List ai} (hs:ag (.sl ak) l≤1048576) (hl:ag (.sl af) s≤1048576):jv k (l,s,())=some ((gU k l s).1,(gU k l s).2,()):=by
 simp only[jv,Ia hk hl,Option.bind_some,gU]
 by_cases h0:l.length=0
 ·rw[if_pos (by simpa using h0),if_pos h0];rfl
 ·obtain⟨a,b,c⟩:=zm (k:=k) (l:=l) (s:=s) h0
  rw[if_neg (by simpa using h0),if_pos (by simpa using⟨a,b⟩),Iw hk (jW hk hs c) hl,Option.bind_some,if_neg h0]
theorem Bn {l:List aG} {s:List ai} (hs:ag (.sl ak) l≤1048576) (hl:ag (.sl af) s≤1048576):jw k (l,s,())=some ((gU k l s).1,(gU k l s).2,()):=by
 simp only[jw,HN hk hl,Option.bind_some,gU]
 by_cases h0:l.length=0
 ·rw[if_pos (by simpa using h0),if_pos h0];rfl
 ·obtain⟨a,b,c⟩:=zm (k:=k) (l:=l) (s:=s) h0
  rw[if_neg (by simpa using h0),if_pos (by simpa using⟨a,b⟩),HP hk (jW hk hs c) hl,Option.bind_some,if_neg h0]
theorem Kl (a b:bl):mJ k (a,b,())=some (lH a b,()):=by
 simp only[mJ,lH,bZ]
 by_cases h1:a.1<b.1<;>by_cases h2:a.1=b.1<;>simp[h1,h2]
theorem we (a b:bl):mN k (a,b,())=some (lH a b,()):=by
 simp only[mN,lH,bZ]
 by_cases h1:a.1<b.1<;>by_cases h2:a.1=b.1<;>simp[h1,h2]
theorem Jz {l:List bl} (hl:l.length≤1048576):mO k (l,())=some (sF l,()):=by
 simp only[mO,aP]
 refine(bN (fun i:Nat=>(l,l,(l.length:Int),(i:Int),())) (fun i=>(decide (0≤(l.getD i aC.aa).1)&&decide (0≤(l.getD i aC.aa).2))&&(i==0|| !lH (l.getD i aC.aa) (l.getD ((i-1)/2) aC.aa))) l.length
  (e:=some (decide (l.length≤16),())) (no:=some (false,())) ?_ ?_ k 0 (by omega)).trans ?_
 ·intro G i hi
  cases i with
  |zero=>
   simp only[aw,aK hi,hi,QN,decide_true,if_true,Int.toNat_natCast,Kl hk,Option.bind_some,bL]
   rw[aZ (by omega)]
   simp only[rF]
   rcases Bool.eq_false_or_eq_true (decide ((l.getD 0 aC.aa).1<0))with h1|h1<;>rcases Bool.eq_false_or_eq_true (decide ((l.getD 0 aC.aa).2<0))with h2|h2<;>
    simp only[h1,h2,if_true,Bool.false_eq_true,if_false,beq_self_eq_true,Bool.and_false,Bool.and_true,Bool.true_and,Bool.false_and,Bool.not_false,Bool.not_true,Bool.true_or,Bool.or_true,S5,SZ,Bool.or_self,Bool.and_self]
  |succ q=>
   have hq:q/2<l.length:=by omega
   simp only[aw,aK hi,aK hq,hi,MC,Ks (show q<4611686018427387904 by omega),decide_true,if_true,Int.toNat_natCast,Kl hk,Option.bind_some,bL,Bool.or_true,ne_eq,Nat.add_sub_cancel]
   rw[aZ (by omega)]
   have hb:((q+1:Nat)==0)=false:=rfl
   rw[hb]
   have e2:decide (¬(2:Int)=0)=true:=rfl
   rw[e2]
   simp only[rF]
   rcases Bool.eq_false_or_eq_true (decide ((l.getD (q+1) aC.aa).1<0))with h1|h1<;>rcases Bool.eq_false_or_eq_true (decide ((l.getD (q+1) aC.aa).2<0))with h2|h2<;>
    rcases Bool.eq_false_or_eq_true (lH (l.getD (q+1) aC.aa) (l.getD (q/2) aC.aa))with h3|h3<;>
    simp only[h1,h2,h3,if_true,Bool.false_eq_true,if_false,beq_self_eq_true,Bool.and_false,Bool.and_true,Bool.true_and,Bool.false_and,Bool.not_false,Bool.not_true,Bool.true_or,Bool.or_true,Bool.or_false,Bool.false_or,S5,SZ,Bool.or_self,Bool.and_self]
 ·intro G i hi
  simp only[aw]
  rw[if_neg (by simp;omega)]
  congr 2
  rw[Bool.eq_iff_iff];simp;omega
 ·unfold sF
  generalize bd 0 l.length _=b
  cases b<;>simp
theorem IL {l:List bl} (hl:l.length≤1048576):mE k (l,())=some (sF l,()):=by
 simp only[mE,aP]
 refine(bN (fun i:Nat=>(l,(i:Int),())) (fun i=>(decide (0≤(l.getD i aC.aa).1)&&decide (0≤(l.getD i aC.aa).2))&&(i==0|| !lH (l.getD i aC.aa) (l.getD ((i-1)/2) aC.aa))) l.length
  (e:=some (decide (l.length≤16),())) (no:=some (false,())) ?_ ?_ k 0 (by omega)).trans ?_
 ·intro G i hi
  cases i with
  |zero=>
   simp only[aw,aK hi,hi,QN,decide_true,if_true,Int.toNat_natCast,we hk,Option.bind_some,bL,Bool.or_true]
   rw[aZ (by omega)]
   simp only[rF]
   rcases Bool.eq_false_or_eq_true (decide ((l.getD 0 aC.aa).1<0))with h1|h1<;>rcases Bool.eq_false_or_eq_true (decide ((l.getD 0 aC.aa).2<0))with h2|h2<;>
    simp only[h1,h2,if_true,Bool.false_eq_true,if_false,beq_self_eq_true,Bool.and_false,Bool.and_true,Bool.true_and,Bool.false_and,Bool.not_false,Bool.not_true,Bool.true_or,Bool.or_true,S5,SZ,Bool.or_self,Bool.and_self]
  |succ q=>
   have hq:q/2<l.length:=by omega
   simp only[aw,aK hi,aK hq,hi,MC,Ks (show q<4611686018427387904 by omega),decide_true,if_true,Int.toNat_natCast,we hk,Option.bind_some,bL,Bool.or_true,ne_eq,Nat.add_sub_cancel]
   rw[aZ (by omega)]
   have hb:((q+1:Nat)==0)=false:=rfl
   rw[hb]
   have e2:decide (¬(2:Int)=0)=true:=rfl
   rw[e2]
   simp only[rF]
   rcases Bool.eq_false_or_eq_true (decide ((l.getD (q+1) aC.aa).1<0))with h1|h1<;>rcases Bool.eq_false_or_eq_true (decide ((l.getD (q+1) aC.aa).2<0))with h2|h2<;>
    rcases Bool.eq_false_or_eq_true (lH (l.getD (q+1) aC.aa) (l.getD (q/2) aC.aa))with h3|h3<;>
    simp only[h1,h2,h3,if_true,Bool.false_eq_true,if_false,beq_self_eq_true,Bool.and_false,Bool.and_true,Bool.true_and,Bool.false_and,Bool.not_false,Bool.not_true,Bool.true_or,Bool.or_true,Bool.or_false,Bool.false_or,S5,SZ,Bool.or_self,Bool.and_self]
 ·intro G i hi
  simp only[aw]
  rw[if_neg (by simp;omega)]
  congr 2
  rw[Bool.eq_iff_iff];simp;omega
 ·unfold sF
  generalize bd 0 l.length _=b
  cases b<;>simp
theorem N5 {c:cg} {g:aJ}:rA k (c,g,())=some (E9 c g,()):=by
 simp only[rA,pM,E9,bZ]
 by_cases h:g.2.2.2.1= -1<;>simp[h]
theorem Oe {c:cg} {g:aJ}:ry k (c,g,())=some (E9 c g,()):=by
 simp only[ry,pE,E9,bZ]
 by_cases h:g.2.2.2.1= -1<;>simp[h]
end
end Vg.Tryz
