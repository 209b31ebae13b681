/- Texts of this law, joined. -/
import Derived.Test.YteoefigcipiffaaGreatQ1
import Derived.Test.YteoefigcipiffaaGreatVd
set_option linter.unusedSimpArgs false
set_option linter.unusedVariables false
namespace Vg.Tryz
open Go Vg
set_option linter.unusedVariables false
set_option linter.unusedSectionVars false
set_option linter.unusedSimpArgs false
theorem tL {α:Type} [DecidableEq α]:∀(l m:List α),allEq (fun a b=>decide (a=b)) l m=decide (l=m)
 | [],[]=>by simp[allEq]
 | [],_::_=>by simp[allEq]
 |_::_,[]=>by simp[allEq]
 |a::l,b::m=>by simp only[allEq,tL l m,List.cons.injEq,Bool.decide_and]
theorem yK (a b:ByteArray):(a.toList==b.toList)=decide (a=b):=by
 by_cases h:a=b
 ·simp[h]
 ·have:¬a.toList=b.toList:=fun e=>h (toList_inj e)
  simp[h,this]
instance iLabel:DecidableEq ai:=inferInstance
instance iLabels:DecidableEq (List ai):=inferInstance
instance iAlarm:DecidableEq al:= @instDecidableEqProd _ _ inferInstance inferInstance
instance iAlarms:DecidableEq (List al):=inferInstance
instance iTail:DecidableEq (List Int×(List al×bl)):=inferInstance
instance iTask:DecidableEq aL:= @instDecidableEqProd _ _ inferInstance (@instDecidableEqProd _ _ inferInstance (@instDecidableEqProd _ _ inferInstance (@instDecidableEqProd _ _ inferInstance (@instDecidableEqProd _ _ inferInstance inferInstance))))
def zT:aL:=(0,0,iA,[],0,[],[],0,0)
def sC (l:List Int):Bool:=bf 0 l.length (fun i=>decide (0≤l.getD i 0))
def AT (t:aL):Bool:=decide (t.2.2.2.2.1=0)&&decide (t.2.2.2.2.2.1=[])&&decide (t.2.2.2.2.2.2.1=[])
def gI (t:aL) (n:Int):Bool:=
 bI n 0 4&&decide (0≤t.2.2.2.2.2.2.2.2)&&
 ((decide (t.1=0)&&decide (t=zT))||
  (decide (t.1=1)&&decide (n<3)&&bI t.2.1 0 2&&bY t.2.2.1&&decide (t.2.2.2.1=[])&&AT t&&decide (t.2.2.2.2.2.2.2.1=0))||
  (decide (t.1=2)&&decide (n<3)&&bI t.2.1 0 1&&decide (t.2.2.1=iA)&&ee t.2.2.2.1&&AT t&&decide (t.2.2.2.2.2.2.2.1=0))||
  (decide (t.1=3)&&decide (n<3)&&bI t.2.1 0 2&&decide (t.2.2.1=iA)&&decide (t.2.2.2.1=[])&&sC t.2.2.2.2.2.1&&decide ((t.2.2.2.2.2.1.length:Int)=t.2.2.2.2.1)&&ck t.2.2.2.2.2.2.1&&
   (if t.2.1=2 then bI t.2.2.2.2.1 1 3 else bI t.2.2.2.2.1 0 2)&&decide (t.2.2.2.2.2.2.2.1=0))||
  (decide (t.1=4)&&decide (n<3)&&bI t.2.1 0 1&&decide (t.2.2.1=iA)&&decide (t.2.2.2.1=[])&&bI t.2.2.2.2.1 0 2&&decide (t.2.2.2.2.2.1=[])&&decide (t.2.2.2.2.2.2.1=[])&&decide (t.2.2.2.2.2.2.2.1=0))||
  (decide (t.1=5)&&decide (n=3)&&bI t.2.1 0 1&&bY t.2.2.1&&decide (t.2.2.2.1=[])&&AT t&&decide (t.2.2.2.2.2.2.2.1=0))||
  (decide (t.1=6)&&decide (n=4)&&bI t.2.1 0 1&&decide (t.2.2.1=iA)&&decide (t.2.2.2.1=[])&&AT t&&decide (0≤t.2.2.2.2.2.2.2.1)))
def sn (k:Nat) (d:bg):Bool:=match gp k (d,())with|some r=>r.1|none=>false
def nP (k:Nat) (t:aL) (n:Int):Int:=
 if n<1 then-1
 else if t.1=1∧(t.2.1=1∨t.2.1=2)then dZ (ji k t.2.2.1.1) n
 else if t.1=2∧t.2.1=1 then dZ (ji k t.2.2.2.1) n
 else if(t.1=3∨t.1=4)∧t.2.1=1 then t.2.2.2.2.1
 else-1
def ve (t:aL):Bool:=(decide (t.1=5)||decide (t.1=6))&&decide (t.2.1=1)
section
variable {k:Nat} (hk:9223372036854775808≤k)
include hk
theorem eE {a b:al} (ha:a.1.length≤1048576):cT k (a,b,())=some (decide (a=b),()):=by
 obtain⟨a1,a2,a3,a4⟩:=a
 obtain⟨b1,b2,b3,b4⟩:=b
 simp only[cT,dW hk ha,Option.bind_some,bZ,yK,Prod.mk.injEq,Bool.decide_and]
 by_cases h1:a1=b1<;>by_cases h2:a2=b2<;>by_cases h3:a3=b3<;>simp[h1,h2,h3]
theorem ia {a b:al} (ha:a.1.length≤1048576):cS k (a,b,())=some (decide (a=b),()):=by
 obtain⟨a1,a2,a3,a4⟩:=a
 obtain⟨b1,b2,b3,b4⟩:=b
 simp only[cS,eA hk ha,Option.bind_some,bZ,yK,Prod.mk.injEq,Bool.decide_and]
 by_cases h1:a1=b1<;>by_cases h2:a2=b2<;>by_cases h3:a3=b3<;>simp[h1,h2,h3]
theorem iZ {a:al} (h:ag ab a≤1048576):a.1.length≤1048576:=by
 rw[ch hk]at h
 have:=aA (e:=af) (l:=a.1)
 omega
theorem JY {a b:List al} (ha:ag (.sl ab) a≤1048576):mM k (a,b,())=some (decide (a=b),()):=by
 rw[←tL]
 have hl:=aA (e:=ab) (l:=a)
 exact Tj (d:=ab.aa) (S:=cT k) hk (by omega) (fun x hx y _=>eE hk (iZ hk (Nat.le_trans (bo (e:=ab) hx) ha)))
theorem p9 {a b:List al} (ha:ag (.sl ab) a≤1048576):fD k (a,b,())=some (decide (a=b),()):=by
 rw[←tL]
 have hl:=aA (e:=ab) (l:=a)
 exact Pc (d:=ab.aa) (S:=cS k) hk (by omega) (fun x hx y _=>ia hk (iZ hk (Nat.le_trans (bo (e:=ab) hx) ha)))
theorem DU {a b:List Int} (ha:a.length≤1048576):gL k (a,b,())=some (decide (a=b),()):=by
 rw[←tL]
 refine Eq.trans ?_ (Pc (d:=(0:Int)) (S:=fun z=>some (decide ((z.1:Int)=z.2.1),())) (p:=fun a b=>decide (a=b)) hk (by omega) (fun x hx y _=>rfl))
 simp only[gL,Uy,Option.bind_some,iz]
theorem D7 {a b:aL} (ha:ag ah a≤1048576):gQ k (a,b,())=some (decide (a=b),()):=by
 rw[dH hk]at ha
 have h1:=iZ hk (a:=a.2.2.1) (by omega)
 have h2:=aA (e:=af) (l:=a.2.2.2.1)
 have h3:=aA (e:= .int .i64) (l:=a.2.2.2.2.2.1)
 have q1:∀b,cS k (a.2.2.1,b,())=some (decide (a.2.2.1=b),()):=fun b=>ia hk h1
 have q2:∀b,cM k (a.2.2.2.1,b,())=some (decide (a.2.2.2.1=b),()):=fun b=>eA hk (by omega)
 have q3:∀b,gL k (a.2.2.2.2.2.1,b,())=some (decide (a.2.2.2.2.2.1=b),()):=fun b=>DU hk (by omega)
 have q4:∀b,fD k (a.2.2.2.2.2.2.1,b,())=some (decide (a.2.2.2.2.2.2.1=b),()):=fun b=>p9 hk (by omega)
 obtain⟨a1,a2,a3,a4,a5,a6,a7,a8,a9⟩:=a
 obtain⟨b1,b2,b3,b4,b5,b6,b7,b8,b9⟩:=b
 simp only at q1 q2 q3 q4
 simp only[gQ,q1,q2,q3,q4,bL,Option.bind_some,bZ,Prod.mk.injEq,Bool.decide_and]
 by_cases e1:a1=b1
 ·by_cases e2:a2=b2
  ·by_cases e3:a3=b3
   ·by_cases e4:a4=b4
    ·by_cases e5:a5=b5
     ·by_cases e6:a6=b6
      ·by_cases e7:a7=b7
       ·by_cases e8:a8=b8<;>simp[e1,e2,e3,e4,e5,e6,e7,e8]
       ·simp[e1,e2,e3,e4,e5,e6,e7]
      ·simp[e1,e2,e3,e4,e5,e6]
     ·simp[e1,e2,e3,e4,e5]
    ·simp[e1,e2,e3,e4]
   ·simp[e1,e2,e3]
  ·simp[e1,e2]
 ·simp[e1]
theorem BT {t:aL} {n:Int} (hs:ag ah t≤1048576):js k (t,n,())=some (nP k t n,()):=by
 rw[dH hk]at hs
 have ha:ag (.sl af) t.2.2.1.1≤1048576:=by
  have:=ch hk t.2.2.1
  omega
 simp only[js,qB,iH hk ha,iH hk (l:=t.2.2.2.1) (by omega),lz hk,Option.bind_some,bZ]
 unfold nP
 by_cases hn:n<1
 ·simp[hn]
 ·by_cases p1:t.2.1=1
  ·by_cases h1:t.1=1
   ·simp[hn,p1,h1]
   ·by_cases h2:t.1=2
    ·simp[hn,p1,h1,h2]
    ·by_cases h3:t.1=3
     ·simp[hn,p1,h1,h2,h3]
     ·by_cases h4:t.1=4<;>simp[hn,p1,h1,h2,h3,h4]
  ·by_cases h1:t.1=1
   ·by_cases p2:t.2.1=2<;>simp[hn,p1,p2,h1]
   ·simp[hn,p1,h1]
theorem Br {t:aL} {n:Int} (hs:ag ah t≤1048576):jl k (t,n,())=some (nP k t n,()):=by
 rw[dH hk]at hs
 have ha:ag (.sl af) t.2.2.1.1≤1048576:=by
  have:=ch hk t.2.2.1
  omega
 simp only[jl,iT hk ha,iT hk (l:=t.2.2.2.1) (by omega),iD hk,Option.bind_some,bZ]
 unfold nP
 by_cases hn:n<1
 ·simp[hn]
 ·by_cases p1:t.2.1=1
  ·by_cases h1:t.1=1
   ·simp[hn,p1,h1]
   ·by_cases h2:t.1=2
    ·simp[hn,p1,h1,h2]
    ·by_cases h3:t.1=3
     ·simp[hn,p1,h1,h2,h3]
     ·by_cases h4:t.1=4<;>simp[hn,p1,h1,h2,h3,h4]
  ·by_cases h1:t.1=1
   ·by_cases p2:t.2.1=2<;>simp[hn,p1,p2,h1]
   ·simp[hn,p1,h1]
theorem yY {t:aL}:gB k (t,())=some (ve t,()):=by
 simp only[gB,ve,bZ]
 by_cases h1:t.1=5<;>by_cases h2:t.1=6<;>simp[h1,h2]
theorem yZ {t:aL}:gC k (t,())=some (ve t,()):=by
 simp only[gC,ve,bZ]
 by_cases h1:t.1=5<;>by_cases h2:t.1=6<;>simp[h1,h2]
theorem I2 {t:aL} (hs:ag ah t≤1048576):mL k (t,())=some (sC t.2.2.2.2.2.1&&(decide ((t.2.2.2.2.2.1.length:Int)=t.2.2.2.2.1)&&ck t.2.2.2.2.2.2.1&&(if t.2.1=2 then bI t.2.2.2.2.1 1 3 else bI t.2.2.2.2.1 0 2)),()):=by
 rw[dH hk]at hs
 have h3:=aA (e:= .int .i64) (l:=t.2.2.2.2.2.1)
 simp only[mL,aP]
 refine(bN (fun i:Nat=>(t,t.2.2.2.2.2.1,(t.2.2.2.2.2.1.length:Int),(i:Int),())) (fun i=>decide (0≤t.2.2.2.2.2.1.getD i 0)) t.2.2.2.2.2.1.length
  (e:=some (decide ((t.2.2.2.2.2.1.length:Int)=t.2.2.2.2.1)&&ck t.2.2.2.2.2.2.1&&(if t.2.1=2 then bI t.2.2.2.2.1 1 3 else bI t.2.2.2.2.1 0 2),())) (no:=some (false,())) ?_ ?_ k 0 (by omega)).trans ?_
 ·intro G i hi
  simp only[aw,aK hi,hi,decide_true,if_true,Int.toNat_natCast,rG]
  rw[bc (by omega)]
  rcases Bool.eq_false_or_eq_true (decide (t.2.2.2.2.2.1.getD i 0<0))with h|h<;>simp only[h,if_true,Bool.false_eq_true,if_false,Bool.not_true,Bool.not_false]
 ·intro G i hi
  simp only[aw]
  rw[if_neg (by simp;omega)]
  simp only[jo hk (l:=t.2.2.2.2.2.2.1) (by omega),ez hk,Option.bind_some,iz,bZ,bL]
  by_cases q:(t.2.2.2.2.2.1.length:Int)=t.2.2.2.2.1<;>by_cases p:t.2.1=2<;>cases hb:ck t.2.2.2.2.2.2.1<;>simp[q,p]
 ·unfold sC
  generalize bf 0 t.2.2.2.2.2.1.length _=b
  cases b<;>simp
theorem Ep {t:aL} (hs:ag ah t≤1048576):lB k (t,())=some (sC t.2.2.2.2.2.1&&(decide ((t.2.2.2.2.2.1.length:Int)=t.2.2.2.2.1)&&(if t.2.1=2 then bI t.2.2.2.2.1 1 3 else bI t.2.2.2.2.1 0 2)),()):=by
 rw[dH hk]at hs
 have h3:=aA (e:= .int .i64) (l:=t.2.2.2.2.2.1)
 simp only[lB,aP]
 refine(bN (fun i:Nat=>(t,(i:Int),())) (fun i=>decide (0≤t.2.2.2.2.2.1.getD i 0)) t.2.2.2.2.2.1.length
  (e:=some (decide ((t.2.2.2.2.2.1.length:Int)=t.2.2.2.2.1)&&(if t.2.1=2 then bI t.2.2.2.2.1 1 3 else bI t.2.2.2.2.1 0 2),())) (no:=some (false,())) ?_ ?_ k 0 (by omega)).trans ?_
 ·intro G i hi
  simp only[aw,aK hi,hi,decide_true,if_true,Int.toNat_natCast,rG]
  rw[bc (by omega)]
  rcases Bool.eq_false_or_eq_true (decide (t.2.2.2.2.2.1.getD i 0<0))with h|h<;>simp only[h,if_true,Bool.false_eq_true,if_false,Bool.not_true,Bool.not_false]
 ·intro G i hi
  simp only[aw]
  rw[if_neg (by simp;omega)]
  simp only[fc hk,Option.bind_some,bZ,bL]
  generalize t.2.2.2.2.2.1.length=n
  generalize t.2.2.2.2.1=m
  by_cases p:t.2.1=2<;>by_cases q:(n:Int)=m
  ·subst q;simp[p]
  ·have q2:¬m=(n:Int):=fun e=>q e.symm
   simp[p,q,q2]
  ·subst q;simp[p,bI]
  ·simp[p,q]
 ·unfold sC
  generalize bf 0 t.2.2.2.2.2.1.length _=b
  cases b<;>simp
end
end Vg.Tryz
namespace Vg.Tryz
open Go Vg
set_option linter.unusedVariables false
set_option linter.unusedSectionVars false
set_option linter.unusedSimpArgs false
theorem cA {σ ρ:Type} {f:(σ→Option ρ)→σ→Option ρ} (st:Nat→σ) (p:Nat→Bool) (n:Nat) {e no:Option ρ}
 (hstep:∀G i,i<n→f G (st i)=if p i=true then G (st (i+1))else no) (hend:∀G,f G (st n)=e):
 ∀(k a:Nat),a≤n→n-a<k→az k f (st a)=if bf a n p=true then e else no
 |0,_,_,h=>by omega
 |k+1,a,hn,h=>by
  show f (az k f) (st a)=_
  by_cases ha:a<n
  ·rw[hstep _ a ha,KD ha,cA st p n hstep hend k (a+1) (by omega) (by omega)]
   cases p a<;>simp
  ·have:a=n:=by omega
   subst this
   rw[hend,MO (by omega),if_pos rfl]
theorem zZ {n:Nat} {p:Nat→Bool}:bf 0 (n+1) p=(bf 0 n p&&p n):=by
 rw[Bool.eq_iff_iff]
 simp only[Bool.and_eq_true,en]
 constructor
 ·intro h;exact⟨fun i h1 h2=>h i h1 (by omega),h n (by omega) (by omega)⟩
 ·rintro⟨h1,h2⟩ i hi hj
  by_cases he:i=n
  ·subst he;exact h2
  ·exact h1 i hi (by omega)
def AN (st:List aG) (seen:List Int):Bool:=bf 0 seen.length (fun i=> !decide (seen.getD i 0>(st.getD i ak.aa).2.1))
def oI (st:List aG) (seen:List Int):Bool:=bf 0 seen.length (fun i=>decide (seen.getD i 0=(st.getD i ak.aa).2.1))
def kR (st:List aG) (t:aL):Bool:=
 AN st t.2.2.2.2.2.1&&(!oI st t.2.2.2.2.2.1||decide ((st.take t.2.2.2.2.2.1.length).flatMap bM=t.2.2.2.2.2.2.1))
def oZ (k:Nat) (w:ar) (t:aL) (d:bg):Bool:=
 if t.1=1 then
  decide (d.1=1)&&(if t.2.1=2 then decide (d.2.2.1.1=t.2.2.1.1)&&(gP k w.2.2.2.1 t.2.2.1.1).2&&decide ((gP k w.2.2.2.1 t.2.2.1.1).1=t.2.2.1)else decide (d.2.2.1=t.2.2.1)&&jP t.2.2.1)
 else if t.1=2 then decide (d.1=3)&&decide (d.2.2.2.1=t.2.2.2.1)
 else if t.1=3 then decide (d.1=4)&&((if t.2.1=2 then decide ((t.2.2.2.2.2.1.length:Int)=w.1.1)else decide (t.2.2.2.2.1<w.1.1))&&kR w.2.2.2.1 t)
 else if t.1=4 then decide (d.1=6)&&decide (t.2.2.2.2.1<w.1.1)
 else if t.1=5 then decide (d.1=7)&&decide (d.2.2.1=t.2.2.1)
 else decide (d.1=8)&&(decide (d.2.2.2.2.2.1=t.2.2.2.2.2.2.2.1)&&decide (t.2.2.2.2.2.2.2.1<w.2.2.2.2.2.2.2.2.1))
def gz (k:Nat) (w:ar) (t:aL) (d:bg) (n:Int):Bool:=
 gI t n&&(decide (t.1=0)||(decide (t.2.2.2.2.2.2.2.2<(w.2.2.2.2.2.2.2.2.2.2.2.2.2.length:Int))&&(decide (d.2.1=n)&&decide (d.2.2.2.2.2.2.2.2.2.2.2= -1)&&
  decide ((¬d.2.2.2.2.2.2.2.2.2.2.1= -1)↔(t.1=1∧t.2.1=2))&&oZ k w t d)))
section
variable {k:Nat} (hk:9223372036854775808≤k)
include hk
theorem ly {t:aL} (hs:ag ah t≤1048576):
 ag ab t.2.2.1≤1048576∧ag (.sl af) t.2.2.2.1≤1048576∧t.2.2.2.2.2.1.length≤1048576∧ag (.sl ab) t.2.2.2.2.2.2.1≤1048576∧ag (.sl af) t.2.2.1.1≤1048576:=by
 rw[dH hk]at hs
 have h2:=aA (e:= .int .i64) (l:=t.2.2.2.2.2.1)
 have:=ch hk t.2.2.1
 omega
theorem Ge {t:bg} (hs:ag aq t≤1048576):
 ag ab t.2.2.1≤1048576∧ag (.sl af) t.2.2.2.1≤1048576∧ag (.sl ab) t.2.2.2.2.2.2.2.1≤1048576∧ag (.sl af) t.2.2.1.1≤1048576:=by
 rw[kN hk]at hs
 have:=ch hk t.2.2.1
 omega
theorem HM {t:aL} {n:Int} (hs:ag ah t≤1048576):mI k (t,n,())=some (gI t n,()):=by
 obtain⟨h1,h2,h3,h4,h5⟩:=ly hk hs
 have h6:=iZ hk h1
 simp only[mI,eU,fc hk,oY hk h4,fq hk h1,jO hk h2,eE hk h6,Ep hk hs,Option.bind_some,bL,bZ]
 refine congrArg some (Prod.ext ?_ rfl)
 simp only[apply_ite Prod.fst]
 unfold gI
 obtain⟨op,pc,a,l,i,seen,got,nn,hh⟩:=t
 obtain⟨a1,a2,a3,a4⟩:=a
 clear hs h1 h2 h3 h4 h5 h6
 have hA:ck ([]:List al)=true:=rfl
 have hS:sC ([]:List Int)=true:=rfl
 simp only[zT,iA,bI,AT,Prod.mk.injEq]
 rw[Bool.eq_iff_iff]
 by_cases e0:op=0
 ·subst e0;simp;grind
 by_cases e1:op=1
 ·subst e1;simp;grind
 by_cases e2:op=2
 ·subst e2;simp;grind
 by_cases e3:op=3
 ·subst e3;simp;grind
 by_cases e4:op=4
 ·subst e4;simp;grind
 by_cases e5:op=5
 ·subst e5;simp;grind
 by_cases e6:op=6
 ·subst e6;simp;grind
 simp[e0,e1,e2,e3,e4,e5,e6]
theorem Il {t:aL} {n:Int} (hs:ag ah t≤1048576):mQ k (t,n,())=some (gI t n,()):=by
 obtain⟨h1,h2,h3,h4,h5⟩:=ly hk hs
 simp only[mQ,aP,ez hk,I2 hk hs,gw hk h1,jC hk h2,D7 hk hs,Option.bind_some,bL,bZ]
 refine congrArg some (Prod.ext ?_ rfl)
 simp only[apply_ite Prod.fst]
 unfold gI
 obtain⟨op,pc,a,l,i,seen,got,nn,hh⟩:=t
 obtain⟨a1,a2,a3,a4⟩:=a
 clear hs h1 h2 h3 h4 h5
 have hA:ck ([]:List al)=true:=rfl
 have hS:sC ([]:List Int)=true:=rfl
 simp only[zT,iA,bI,AT,Prod.mk.injEq]
 rw[Bool.eq_iff_iff]
 by_cases e0:op=0
 ·subst e0;simp;grind
 by_cases e1:op=1
 ·subst e1;simp;grind
 by_cases e2:op=2
 ·subst e2;simp;grind
 by_cases e3:op=3
 ·subst e3;simp;grind
 by_cases e4:op=4
 ·subst e4;simp;grind
 by_cases e5:op=5
 ·subst e5;simp;grind
 by_cases e6:op=6
 ·subst e6;simp;grind
 simp[e0,e1,e2,e3,e4,e5,e6]
end
end Vg.Tryz
namespace Vg.Tryz
open Go Vg
set_option linter.unusedVariables false
set_option linter.unusedSectionVars false
set_option linter.unusedSimpArgs false
theorem jE (a b:Int):decide (a≥b)= !decide (a<b):=by by_cases h:a<b<;>simp[h]<;>omega
section
variable {k:Nat} (hk:9223372036854775808≤k)
include hk
theorem Io {l:List Int} {n:Int} (hl:l.length≤10):mP k (l,n,())=some (decide (n∈l),()):=by
 simp only[mP]
 rw[fx (g:=fun(t:List Int×Int×Int×Unit)=>some (decide (n∈l.drop t.2.2.1.toNat),())) (m:=fun(t:List Int×Int×Int×Unit)=>l.length-t.2.2.1.toNat)
  (I:=fun(t:List Int×Int×Int×Unit)=>t.1=l∧t.2.1=n∧0≤t.2.2.1∧t.2.2.1≤(l.length:Int))]
 ·simp
 ·rintro G ⟨l',n',i,u⟩ ⟨e1,e2,hi0,hi1⟩ hG
  change l'=l at e1
  change n'=n at e2
  subst e1 e2
  simp only at hi0 hi1 hG⊢
  by_cases hi:i<(l'.length:Int)
  ·have h1:i.toNat<l'.length:=by omega
   rw[if_pos (by simpa using hi),if_pos (by simpa using⟨hi0,hi⟩),dw (d:=(0:Int)) h1]
   by_cases he:n'=l'.getD i.toNat 0
   ·rw[if_pos (by rw[he];simp)]
    simp only[List.mem_cons,he,true_or,decide_true]
   ·rw[if_neg (by simp only[beq_iff_eq];exact fun h=>he h.symm),wrap64 (by omega) (by omega),hG (l',n',i+1,()) ⟨rfl,rfl,by simp only;omega,by simp only;omega⟩ (by simp only;omega)]
    simp only[List.mem_cons,he,false_or]
    rw[show(i+1).toNat=i.toNat+1 by omega]
  ·rw[if_neg (by simpa using hi),List.drop_eq_nil_of_le (by omega)]
   simp
 ·exact⟨rfl,rfl,by simp,by simp⟩
 ·simp only
  omega
theorem SE (op n:Int):∃l,kD k (op,())=some (l,())∧l.length≤10∧kv k (op,n,())=some (decide (n∈l),()):=by
 simp only[kD,kv,bA,Option.bind_some,beq_iff_eq]
 split
 ·exact⟨_,rfl,by simp,by congr 2;rw[Bool.eq_iff_iff];simp;omega⟩
 split
 ·exact⟨_,rfl,by simp,by congr 2;rw[Bool.eq_iff_iff];simp;omega⟩
 split
 ·exact⟨_,rfl,by simp,by congr 2;rw[Bool.eq_iff_iff];simp;omega⟩
 split
 ·exact⟨_,rfl,by simp,by congr 2;rw[Bool.eq_iff_iff];simp⟩
 split
 ·exact⟨_,rfl,by simp,by congr 2;rw[Bool.eq_iff_iff];simp;omega⟩
 ·exact⟨_,rfl,by simp,by congr 2;rw[Bool.eq_iff_iff];simp⟩
theorem Po (d:bg):∃r,gp k (d,())=some r∧jU k (d,())=some r:=by
 obtain⟨op,task,a,l,i,n,code,got,now,inv,lin,res⟩:=d
 obtain⟨cs,c1,c2,c3⟩:=SE hk op code
 simp only[gp,jU,bE,bA,Option.bind_some,bL,c1,c3,Io hk c2]
 generalize decide (code∈cs)=q
 refine⟨_,rfl,congrArg some (Prod.ext ?_ rfl)⟩
 simp only[apply_ite Prod.fst]
 rw[Bool.eq_iff_iff]
 by_cases hl:lin= -1<;>by_cases hr:res= -1<;>by_cases hi:inv≤lin<;>by_cases hj:lin≤res<;>cases q<;>simp[hl,hr,hi,hj]<;>omega
theorem JK {d:bg}:gp k (d,())=some (sn k d,()):=by
 obtain⟨r,h1,h2⟩:=Po hk d
 unfold sn
 rw[h1]
theorem Ic {d:bg}:jU k (d,())=some (sn k d,()):=by
 obtain⟨r,h1,h2⟩:=Po hk d
 unfold sn
 rw[h1,h2]
theorem oV {w:ar} {t:aL} (hs:ag ah t≤1048576) (hw:ag (.sl ak) w.2.2.2.1≤1048576) (hl:t.2.2.2.2.2.1.length≤w.2.2.2.1.length):
 eZ k (w,t,())=some (kR w.2.2.2.1 t,()):=by
 obtain⟨h1,h2,h3,h4,h5⟩:=ly hk hs
 simp only[eZ,aP]
 refine(cA (fun i:Nat=>(w,t,(w.2.2.2.1.take i).flatMap bM,bf 0 i (fun i=>decide (t.2.2.2.2.2.1.getD i 0=(w.2.2.2.1.getD i ak.aa).2.1)),(i:Int),()))
  (fun i=> !decide (t.2.2.2.2.2.1.getD i 0>(w.2.2.2.1.getD i ak.aa).2.1)) t.2.2.2.2.2.1.length
  (e:=some (!oI w.2.2.2.1 t.2.2.2.2.2.1||decide ((w.2.2.2.1.take t.2.2.2.2.2.1.length).flatMap bM=t.2.2.2.2.2.2.1),())) (no:=some (false,())) ?_ ?_ k 0 (by omega) (by omega)).trans ?_
 ·intro G i hi
  have hi2:i<w.2.2.2.1.length:=by omega
  have hp:=kc hk hw hi2
  have hb:=fm hk (w.2.2.2.1.take i)
  unfold cX at hb
  have hb1:=lq hk (w.2.2.2.1.getD i ak.aa)
  have hb2:=gi (e:=ak) w.2.2.2.1 i
  have hb3:=aA (e:=ab) (l:=(w.2.2.2.1.take i).flatMap bM)
  have hb4:=aA (e:=ab) (l:=bM (w.2.2.2.1.getD i ak.aa))
  have hb5:decide (((w.2.2.2.1.take i).flatMap bM).length+(bM (w.2.2.2.1.getD i ak.aa)).length<4294967296)=true:=by
   simp only[decide_eq_true_eq];omega
  simp only[aw,aK hi,aK hi2,hi,decide_true,if_true,Int.toNat_natCast,Bool.or_true,rV hk hp,Option.bind_some,hb5]
  rw[bc (by omega),fl ak.aa hi2,zZ]
  rcases Bool.eq_false_or_eq_true (decide (t.2.2.2.2.2.1.getD i 0>(w.2.2.2.1.getD i ak.aa).2.1))with h|h<;>
   simp only[h,if_true,Bool.not_true,Bool.not_false,Bool.false_eq_true,if_false,bZ,vJ]
 ·intro G
  simp only[aw,Nat.lt_irrefl,decide_false,Bool.false_eq_true,if_false]
  show Option.bind (if((!oI w.2.2.2.1 t.2.2.2.2.2.1)==false)=true then mM k ((w.2.2.2.1.take t.2.2.2.2.2.1.length).flatMap bM,t.2.2.2.2.2.2.1,())else some (false,())) _=_
  have hb:=fm hk (w.2.2.2.1.take t.2.2.2.2.2.1.length)
  unfold cX at hb
  have hb2:=gi (e:=ak) w.2.2.2.1 t.2.2.2.2.2.1.length
  rw[JY hk (by omega)]
  show Option.bind _ (fun r6:Bool×Unit=>some (if(!oI w.2.2.2.1 t.2.2.2.2.2.1)=true then true else r6.1,()))=_
  cases oI w.2.2.2.1 t.2.2.2.2.2.1<;>simp
 ·unfold kR
  show(if AN w.2.2.2.1 t.2.2.2.2.2.1=true then _ else _)=_
  cases AN w.2.2.2.1 t.2.2.2.2.2.1<;>simp
theorem AZ {w:ar} {t:aL} (hs:ag ah t≤1048576) (hw:ag (.sl ak) w.2.2.2.1≤1048576) (hl0:(if t.2.1=2 then decide ((t.2.2.2.2.2.1.length:Int)=w.1.1)else decide (t.2.2.2.2.1<w.1.1))=true→t.2.2.2.2.2.1.length≤w.2.2.2.1.length) (hp:t.2.1≤2):
 jk k (w,t,())=some ((if t.2.1=2 then decide ((t.2.2.2.2.2.1.length:Int)=w.1.1)else decide (t.2.2.2.2.1<w.1.1))&&kR w.2.2.2.1 t,()):=by
 obtain⟨h1,h2,h3,h4,h5⟩:=ly hk hs
 simp only[jk,aP]
 have hc:(if(if(decide ((t.2.1:Int)<(2:Int)))=true then decide ((t.2.2.2.2.1:Int)≥w.1.1)else false)=true then true else if((t.2.1:Int)==(2:Int))=true then(((List.length t.2.2.2.2.2.1:Nat):Int):Int) != w.1.1 else false)
  = !(if t.2.1=2 then decide ((t.2.2.2.2.2.1.length:Int)=w.1.1)else decide (t.2.2.2.2.1<w.1.1)):=by
  rw[jE,iz]
  by_cases q:t.2.1=2
  ·simp[q]
  ·have q2:t.2.1<2:=by have:=hp;omega
   simp[q,q2]
   exact jE _ _
 rw[hc]
 rcases Bool.eq_false_or_eq_true (if t.2.1=2 then decide ((t.2.2.2.2.2.1.length:Int)=w.1.1)else decide (t.2.2.2.2.1<w.1.1))with hcc|hcc
 rotate_left
 ·rw[hcc];rfl
 have hl:=hl0 hcc
 rw[hcc,if_neg (by simp)]
 refine(cA (fun i:Nat=>(w,t,bf 0 i (fun i=>decide (t.2.2.2.2.2.1.getD i 0=(w.2.2.2.1.getD i ak.aa).2.1)),(w.2.2.2.1.take i).flatMap bM,t.2.2.2.2.2.1,(t.2.2.2.2.2.1.length:Int),(i:Int),()))
  (fun i=> !decide (t.2.2.2.2.2.1.getD i 0>(w.2.2.2.1.getD i ak.aa).2.1)) t.2.2.2.2.2.1.length
  (e:=some (!oI w.2.2.2.1 t.2.2.2.2.2.1||decide ((w.2.2.2.1.take t.2.2.2.2.2.1.length).flatMap bM=t.2.2.2.2.2.2.1),())) (no:=some (false,())) ?_ ?_ k 0 (by omega) (by omega)).trans ?_
 ·intro G i hi
  have hi2:i<w.2.2.2.1.length:=by omega
  have hp:=kc hk hw hi2
  have hb:=fm hk (w.2.2.2.1.take i)
  unfold cX at hb
  have hb1:=lq hk (w.2.2.2.1.getD i ak.aa)
  have hb2:=gi (e:=ak) w.2.2.2.1 i
  have hb3:=aA (e:=ab) (l:=(w.2.2.2.1.take i).flatMap bM)
  have hb4:=aA (e:=ab) (l:=bM (w.2.2.2.1.getD i ak.aa))
  have hb5:decide (((w.2.2.2.1.take i).flatMap bM).length+(bM (w.2.2.2.1.getD i ak.aa)).length<4294967296)=true:=by
   simp only[decide_eq_true_eq];omega
  simp only[aw,aK hi,aK hi2,hi,decide_true,if_true,Int.toNat_natCast,Bool.or_true,su hk hp,Option.bind_some,hb5]
  rw[bc (by omega),fl ak.aa hi2,zZ]
  rcases Bool.eq_false_or_eq_true (decide (t.2.2.2.2.2.1.getD i 0>(w.2.2.2.1.getD i ak.aa).2.1))with h|h<;>
   simp only[h,if_true,Bool.not_true,Bool.not_false,Bool.false_eq_true,if_false,bZ,vJ]
 ·intro G
  simp only[aw,Nat.lt_irrefl,decide_false,Bool.false_eq_true,if_false]
  have hb:=fm hk (w.2.2.2.1.take t.2.2.2.2.2.1.length)
  unfold cX at hb
  have hb2:=gi (e:=ak) w.2.2.2.1 t.2.2.2.2.2.1.length
  rw[p9 hk h4]
  show Option.bind (if((!oI w.2.2.2.1 t.2.2.2.2.2.1)==false)=true then some (decide (t.2.2.2.2.2.2.1=(w.2.2.2.1.take t.2.2.2.2.2.1.length).flatMap bM),())else some (false,())) (fun r6:Bool×Unit=>some (if(!oI w.2.2.2.1 t.2.2.2.2.2.1)=true then true else r6.1,()))=_
  have he:decide (t.2.2.2.2.2.2.1=(w.2.2.2.1.take t.2.2.2.2.2.1.length).flatMap bM)=decide ((w.2.2.2.1.take t.2.2.2.2.2.1.length).flatMap bM=t.2.2.2.2.2.2.1):=by
   rw[Bool.eq_iff_iff];simp only[decide_eq_true_eq];exact eq_comm
  rw[he]
  cases oI w.2.2.2.1 t.2.2.2.2.2.1<;>simp
 ·unfold kR
  show(if AN w.2.2.2.1 t.2.2.2.2.2.1=true then _ else _)=_
  cases AN w.2.2.2.1 t.2.2.2.2.2.1<;>simp
end
end Vg.Tryz
namespace Vg.Tryz
open Go Vg
set_option linter.unusedVariables false
set_option linter.unusedSectionVars false
set_option linter.unusedSimpArgs false
theorem Cs {t:aL} {n:Int} (h:gI t n=true):0≤t.2.2.2.2.2.2.2.2∧(t.1=0∨t.1=1∨t.1=2∨t.1=3∨t.1=4∨t.1=5∨t.1=6):=by
 unfold gI at h
 grind
theorem Ms {t:aL} {n:Int} (h:gI t n=true) (e:t.1=3):(t.2.2.2.2.2.1.length:Int)=t.2.2.2.2.1∧0≤t.2.1∧t.2.1≤2:=by
 unfold gI bI at h
 grind
theorem SP {t:aL} {n:Int} (h:gI t n=true) (e:t.1=4):t.2.2.2.2.2.1=[]∧t.2.2.2.2.2.2.1=[]∧t.2.1≤1:=by
 unfold gI bI at h
 grind
section
variable {k:Nat} (hk:9223372036854775808≤k)
include hk
theorem He {l:List aG} {s:List ai} (hs:ag (.sl ak) l≤1048576):(gP k l s).1.1.length≤1048576:=by
 unfold gP
 split
 ·simp[iA]
 ·rename_i h0
  obtain⟨_,_,c⟩:=zK (k:=k) (l:=l) (s:=s) h0
  have hp:=kc hk hs c
  generalize l.getD (mF k l s).toNat ak.aa=p at hp⊢
  unfold qv
  cases hc:nQ p (ji k s)with
  |none=>simp[iA]
  |some i=>
   obtain⟨hi,_,_⟩:=kF.1 hc
   obtain⟨h1,h2⟩:=kI hk hp hi
   dsimp only
   cases hq:mR (p.2.2.getD i ay.aa).2 s with
   |none=>simp[iA]
   |some j=>
    obtain⟨hj,_,_⟩:=kF.1 hq
    have h3:=sI (e:=ab) (d:=ab.aa) hj
    exact iZ hk (a:=(p.2.2.getD i ay.aa).2.getD j ab.aa) (by omega)
theorem dO {w:ar} (hs:ag aE w≤1048576):
 ag bC w.1≤1048576∧ag (.sl ak) w.2.2.2.1≤1048576∧ag (.sl aU) w.2.2.2.2.1≤1048576∧ag (.sl ab) w.2.2.2.2.2.1≤1048576∧ag (.sl aj) w.2.2.2.2.2.2.2.1≤1048576∧
 w.2.2.2.2.2.2.2.2.2.1.length≤1048576∧ag (.sl ab) w.2.2.2.2.2.2.2.2.2.2.2.1≤1048576∧ag (.sl ah) w.2.2.2.2.2.2.2.2.2.2.2.2.1≤1048576∧ag (.sl aq) w.2.2.2.2.2.2.2.2.2.2.2.2.2≤1048576:=by
 rw[gK hk]at hs
 have h:=aA (e:=aC) (l:=w.2.2.2.2.2.2.2.2.2.1)
 omega
theorem wa {e:Ty} {l:List e.den} (hd:ag e e.aa=0) (hs:ag (.sl e) l≤1048576) (n:Nat):ag e (l.getD n e.aa)≤1048576:=by
 by_cases h:n<l.length
 ·have:=sI (e:=e) (d:=e.aa) h
  omega
 ·rw[List.getD_eq_getElem?_getD,List.getElem?_eq_none (by omega),Option.getD_none,hd]
  omega
theorem Hd {w:ar} {i:Nat} (hs:ag aE w≤1048576) (hi:i<w.2.2.2.2.2.2.2.2.2.2.2.2.1.length) (hp:(w.2.2.2.1.length:Int)=w.1.1):
 lS k (w,(i:Int),())=some (gz k w (w.2.2.2.2.2.2.2.2.2.2.2.2.1.getD i ah.aa) (w.2.2.2.2.2.2.2.2.2.2.2.2.2.getD (w.2.2.2.2.2.2.2.2.2.2.2.2.1.getD i ah.aa).2.2.2.2.2.2.2.2.toNat aq.aa) i,()):=by
 obtain⟨_,w2,_,_,_,_,_,w8,w9⟩:=dO hk hs
 have ht:ag ah (w.2.2.2.2.2.2.2.2.2.2.2.2.1.getD i ah.aa)≤1048576:=wa hk (e:=ah) rfl w8 i
 have hd:ag aq (w.2.2.2.2.2.2.2.2.2.2.2.2.2.getD (w.2.2.2.2.2.2.2.2.2.2.2.2.1.getD i ah.aa).2.2.2.2.2.2.2.2.toNat aq.aa)≤1048576:=wa hk (e:=aq) rfl w9 (w.2.2.2.2.2.2.2.2.2.2.2.2.1.getD i ah.aa).2.2.2.2.2.2.2.2.toNat
 unfold lS aP
 dsimp only
 rw[if_pos (aK hi),Int.toNat_natCast]
 generalize w.2.2.2.2.2.2.2.2.2.2.2.2.1.getD i ah.aa=t at*
 generalize w.2.2.2.2.2.2.2.2.2.2.2.2.2.getD t.2.2.2.2.2.2.2.2.toNat aq.aa=d at*
 rw[HM hk ht,Option.bind_some]
 unfold gz
 by_cases hok:gI t i=true
 rotate_left
 ·simp[hok]
 obtain⟨hH,hkind⟩:=Cs hok
 obtain⟨t1,t2,t3,t4,t5⟩:=ly hk ht
 obtain⟨d1,d2,d3,d4⟩:=Ge hk hd
 have hfl:=He hk (s:=t.2.2.1.1) w2
 have t6:=iZ hk t1
 have d6:=iZ hk d1
 have t7:=aA (e:=af) (l:=t.2.2.1.1)
 have d7:=aA (e:=af) (l:=d.2.2.1.1)
 have d8:=aA (e:=af) (l:=d.2.2.2.1)
 by_cases e0:t.1=0
 ·simp[e0,hok]
 by_cases eH:t.2.2.2.2.2.2.2.2<(w.2.2.2.2.2.2.2.2.2.2.2.2.2.length:Int)
 rotate_left
 ·have:decide (t.2.2.2.2.2.2.2.2≥(w.2.2.2.2.2.2.2.2.2.2.2.2.2.length:Int))=true:=by simp only[decide_eq_true_eq];omega
  simp[e0,this,eH,hok]
 have q1:decide (t.2.2.2.2.2.2.2.2≥(w.2.2.2.2.2.2.2.2.2.2.2.2.2.length:Int))=false:=by simp only[decide_eq_false_iff_not];omega
 have q2:decide (0≤t.2.2.2.2.2.2.2.2∧t.2.2.2.2.2.2.2.2<(w.2.2.2.2.2.2.2.2.2.2.2.2.2.length:Int))=true:=by simp only[decide_eq_true_eq];omega
 simp only[hok,q1,q2,hH,and_true,true_and,if_true,Bool.not_true,Bool.false_eq_true,if_false,eH,e0,decide_true,decide_false,Bool.true_and,Bool.false_or,bZ,iz]
 have hop:ep k (t.1,())=some (List.getD [0,1,3,4,6,7,8] t.1.toNat 0,()):=by
  simp only[ep]
  rw[if_pos (by simp only[decide_eq_true_eq,List.length_cons,List.length_nil];omega)]
 rw[hop]
 clear hop q1 q2
 by_cases c1:d.2.1=i
 rotate_left
 ·simp[c1,hok]
 by_cases c2:d.2.2.2.2.2.2.2.2.2.2.2= -1
 rotate_left
 ·simp[c1,c2,hok]
 simp only[c1,c2,decide_true,Bool.not_true,Bool.false_eq_true,if_false,beq_self_eq_true,if_true,Option.bind_some,Bool.true_and]
 unfold oZ
 rcases hkind with h|h|h|h|h|h|h
 ·exact absurd h e0
 all_goals
  have hn:t.1.toNat=t.1.toNat:=rfl
  simp only[h]at hn⊢
 ·simp only[BA hk w2 t5,eE hk hfl,eE hk d6,dW hk (a:=d.2.2.1.1) (by omega),zo hk t1]
  by_cases b1:d.1=1<;>by_cases b2:d.2.2.2.2.2.2.2.2.2.2.1= -1<;>by_cases b3:t.2.1=2<;>simp[b1,b2,b3]
  ·by_cases b4:d.2.2.1=t.2.2.1<;>simp[b4]
  ·simp only[eE hk hfl]
   cases (gP k w.2.2.2.1 t.2.2.1.1).2<;>by_cases b4:(gP k w.2.2.2.1 t.2.2.1.1).1=t.2.2.1<;>simp[b4]
 ·simp only[dW hk (a:=d.2.2.2.1) (by omega)]
  by_cases b1:d.1=3<;>by_cases b2:d.2.2.2.2.2.2.2.2.2.2.1= -1<;>simp[b1,b2]
 ·obtain⟨e1,e2,e3⟩:=Ms hok h
  by_cases b1:d.1=4<;>by_cases b2:d.2.2.2.2.2.2.2.2.2.2.1= -1<;>by_cases b3:t.2.1=2<;>simp[b1,b2,b3]
  ·by_cases b4:(t.2.2.2.2.2.1.length:Int)=w.1.1
   ·rw[oV hk ht w2 (by omega)];simp[b4]
   ·simp[b4]
  ·by_cases b4:t.2.2.2.2.1<w.1.1
   ·rw[oV hk ht w2 (by omega)];simp[b4]
   ·simp[b4]
 ·obtain⟨e1,e2,e3⟩:=SP hok h
  have b3:¬t.2.1=2:=by have:=e3;omega
  by_cases b1:d.1=6<;>by_cases b2:d.2.2.2.2.2.2.2.2.2.2.1= -1<;>simp[b1,b2,b3]
  have hl:t.2.2.2.2.2.1.length≤w.2.2.2.1.length:=by rw[e1];exact Nat.zero_le _
  have hq:kR w.2.2.2.1 t=true:=by unfold kR AN;rw[e1,e2];rfl
  rw[oV hk ht w2 hl,hq]
  by_cases b4:t.2.2.2.2.1<w.1.1<;>simp[b4]
 ·simp only[eE hk d6]
  by_cases b1:d.1=7<;>by_cases b2:d.2.2.2.2.2.2.2.2.2.2.1= -1<;>simp[b1,b2]
 ·by_cases b1:d.1=8<;>by_cases b2:d.2.2.2.2.2.2.2.2.2.2.1= -1<;>simp[b1,b2]
theorem Dr {w:ar} {t:aL} {d:bg} {n:Int} (hs:ag aE w≤1048576) (hp:(w.2.2.2.1.length:Int)=w.1.1) (ht:ag ah t≤1048576) (hd:ag aq d≤1048576) (hok:gI t n=true):
 kC k (w,t,d,())=some (oZ k w t d,()):=by
 obtain⟨_,w2,_,_,_,_,_,w8,w9⟩:=dO hk hs
 obtain⟨t1,t2,t3,t4,t5⟩:=ly hk ht
 obtain⟨d1,d2,d3,d4⟩:=Ge hk hd
 have hfl:=He hk (s:=t.2.2.1.1) w2
 have d6:=iZ hk d1
 have d7:=aA (e:=af) (l:=d.2.2.1.1)
 have d8:=aA (e:=af) (l:=d.2.2.2.1)
 simp only[kC,Bk hk w2 t5,ia hk hfl,ia hk d6,eA hk (a:=d.2.2.1.1) (by omega),eA hk (a:=d.2.2.2.1) (by omega),Aa hk t1,Option.bind_some,bZ,bL]
 unfold oZ
 by_cases h1:t.1=1
 ·by_cases b1:d.1=1<;>by_cases b3:t.2.1=2<;>simp[h1,b1,b3]
  ·by_cases b5:d.2.2.1.1=t.2.2.1.1<;>cases (gP k w.2.2.2.1 t.2.2.1.1).2<;>by_cases b4:(gP k w.2.2.2.1 t.2.2.1.1).1=t.2.2.1<;>simp[b4,b5]
  ·by_cases b4:d.2.2.1=t.2.2.1<;>simp[b4]
 by_cases h2:t.1=2
 ·by_cases b1:d.1=3<;>simp[h2,b1]
 by_cases h3:t.1=3
 ·obtain⟨e1,e2,e3⟩:=Ms hok h3
  have hl:(if t.2.1=2 then decide ((t.2.2.2.2.2.1.length:Int)=w.1.1)else decide (t.2.2.2.2.1<w.1.1))=true→t.2.2.2.2.2.1.length≤w.2.2.2.1.length:=by
   by_cases b3:t.2.1=2<;>simp[b3]<;>intro h<;>omega
  rw[AZ hk ht w2 hl e3]
  by_cases b1:d.1=4<;>simp[h3,b1]
 by_cases h4:t.1=4
 ·by_cases b1:d.1=6<;>simp[h4,b1]
 by_cases h5:t.1=5
 ·by_cases b1:d.1=7<;>simp[h5,b1]
 by_cases b1:d.1=8<;>by_cases b2:d.2.2.2.2.2.1=t.2.2.2.2.2.2.2.1<;>simp[h1,h2,h3,h4,h5,b1,b2]
end
end Vg.Tryz
namespace Vg.Tryz
open Go Vg
set_option linter.unusedVariables false
set_option linter.unusedSectionVars false
set_option linter.unusedSimpArgs false
def cD (h:Nat→Bool):Nat→Int
 |0=> -1
 |j+1=>if h j=true then(j:Int)else cD h j
theorem qw {h:Nat→Bool}:∀ {j:Nat},(∀a,a<j→h a=false)→cD h j= -1
 |0,_=>rfl
 |j+1,H=>by
  unfold cD
  rw[H j (by omega),if_neg (by simp)]
  exact qw (fun a ha=>H a (by omega))
theorem lk {h:Nat→Bool}:∀ {j:Nat},cD h j≠-1→∃a,a<j∧h a=true∧cD h j=(a:Int)
 |0,H=>absurd rfl H
 |j+1,H=>by
  unfold cD at H⊢
  by_cases hj:h j=true
  ·rw[if_pos hj];exact⟨j,by omega,hj,rfl⟩
  ·rw[if_neg hj]at H⊢
   obtain⟨a,h1,h2,h3⟩:=lk H
   exact⟨a,by omega,h2,h3⟩
theorem xf {h:Nat→Bool} {m:Nat} (hp:∀j,j<m→h j=true→cD h j= -1) {a:Nat} (ha:a<m) (h2:h a=true):cD h m=(a:Int):=by
 have hm:cD h m≠-1:=by
  intro e
  have:∀ {j:Nat},(∀b,b<j→h b=true→False)∨cD h j≠-1:=by
   intro j
   induction j with
   |zero=>exact Or.inl (fun b hb _=>by omega)
   |succ j ih=>
    unfold cD
    by_cases hj:h j=true
    ·rw[if_pos hj];right;omega
    ·rw[if_neg hj]
     rcases ih with ih|ih
     ·left
      intro b hb hbt
      by_cases hbj:b=j
      ·subst hbj;exact hj hbt
      ·exact ih b (by omega) hbt
     ·exact Or.inr ih
  rcases @this m with H|H
  ·exact H a ha h2
  ·exact H e
 obtain⟨b,h3,h4,h5⟩:=lk hm
 rw[h5]
 by_cases hab:a=b
 ·rw[hab]
 ·exfalso
  have key:∀x y:Nat,x<y→y<m→h x=true→h y=true→False:=by
   intro x y hxy hy hx hyt
   have e:=hp y hy hyt
   have:∀ {j:Nat},x<j→cD h j≠-1:=by
    intro j
    induction j with
    |zero=>intro q;omega
    |succ j ih=>
     intro q
     unfold cD
     by_cases hj:h j=true
     ·rw[if_pos hj];omega
     ·rw[if_neg hj]
      by_cases hxj:x=j
      ·subst hxj;exact absurd hx hj
      ·exact ih (by omega)
   exact this hxy e
  rcases Nat.lt_or_ge a b with q|q
  ·exact key a b q h3 h2 h4
  ·exact key b a (by omega) ha h4 h2
def bB (k:Nat) (w:ar) (j:Nat):Int:=nP k (w.2.2.2.2.2.2.2.2.2.2.2.2.1.getD j ah.aa) w.2.2.2.1.length
def dn (w:ar) (j:Nat):Bool:=ve (w.2.2.2.2.2.2.2.2.2.2.2.2.1.getD j ah.aa)
def gu (k:Nat) (w:ar):Bool:=
 bf 0 w.2.2.2.1.length (fun i=>bf 0 w.2.2.2.2.2.2.2.2.2.2.2.2.1.length (fun j=>decide (bB k w j=i)==decide ((w.2.2.2.1.getD i ak.aa).1=j)))&&
 (bf 0 w.2.2.2.2.2.2.2.2.2.2.2.2.1.length (fun j=>dn w j==decide (w.2.2.2.2.2.2.1=j))&&bI w.2.2.2.2.2.2.1 (-1) 4)
def zw (k:Nat) (w:ar) (j:Nat):Bool:=
 (decide (bB k w j<0)||decide (cD (fun a=>decide (bB k w a=bB k w j)) j= -1))&&(!dn w j||decide (cD (dn w) j= -1))
theorem P6 {k:Nat} {w:ar} (hp:∀i,i<w.2.2.2.1.length→bI (w.2.2.2.1.getD i ak.aa).1 (-1) 4=true) (ht:w.2.2.2.2.2.2.2.2.2.2.2.2.1.length=5)
 (hh:∀j,j<5→bB k w j<w.2.2.2.1.length):
 (bf 0 w.2.2.2.2.2.2.2.2.2.2.2.2.1.length (zw k w)&&(bf 0 w.2.2.2.1.length (fun i=>decide ((w.2.2.2.1.getD i ak.aa).1=cD (fun a=>decide (bB k w a=i)) w.2.2.2.2.2.2.2.2.2.2.2.2.1.length))&&
  decide (w.2.2.2.2.2.2.1=cD (dn w) w.2.2.2.2.2.2.2.2.2.2.2.2.1.length)))=gu k w:=by
 unfold gu
 rw[ht]
 rw[Bool.eq_iff_iff]
 simp only[Bool.and_eq_true,en,zw,Bool.or_eq_true,decide_eq_true_eq,Bool.not_eq_true',beq_iff_eq,bI]at hp⊢
 constructor
 ·rintro⟨h1,h2,h3⟩
  refine⟨fun i _ hi j _ hj=> ?_,fun j _ hj=> ?_,?_⟩
  ·rw[h2 i (by omega) hi]
   rw[Bool.eq_iff_iff]
   simp only[decide_eq_true_eq]
   constructor
   ·intro e
    refine xf (h:=fun a=>decide (bB k w a=i)) (m:=5) (fun b hb hbt=> ?_) hj (by simpa using e)
    have hbe:bB k w b=(i:Int):=by simpa using hbt
    rcases(h1 b (by omega) hb).1 with q|q
    ·omega
    ·rw[hbe]at q;exact q
   ·intro e
    obtain⟨a,_,ha,hb⟩:=lk (h:=fun a=>decide (bB k w a=i)) (j:=5) (by rw[e];omega)
    rw[e]at hb
    have:a=j:=by omega
    subst this
    simpa using ha
  ·rw[h3,Bool.eq_iff_iff]
   simp only[decide_eq_true_eq]
   constructor
   ·intro e
    refine xf (h:=dn w) (m:=5) (fun b hb hbt=> ?_) hj e
    rcases(h1 b (by omega) hb).2 with q|q
    ·rw[hbt]at q;exact absurd q (by simp)
    ·exact q
   ·intro e
    obtain⟨a,_,ha,hb⟩:=lk (h:=dn w) (j:=5) (by rw[e];omega)
    rw[e]at hb
    have:a=j:=by omega
    subst this
    exact ha
  ·rw[h3]
   by_cases e:cD (dn w) 5= -1
   ·omega
   ·obtain⟨a,h4,_,h5⟩:=lk e
    omega
 ·rintro⟨h1,h2,h3,h4⟩
  have hI:∀i,i<w.2.2.2.1.length→∀j,j<5→(bB k w j=(i:Int)↔(w.2.2.2.1.getD i ak.aa).1=(j:Int)):=by
   intro i hi j hj
   have:=h1 i (by omega) hi j (by omega) hj
   rw[Bool.eq_iff_iff]at this
   simpa only[decide_eq_true_eq]using this
  have hG:∀j,j<5→(dn w j=true↔w.2.2.2.2.2.2.1=(j:Int)):=by
   intro j hj
   have:=h2 j (by omega) hj
   rw[Bool.eq_iff_iff]at this
   simpa only[decide_eq_true_eq]using this
  refine⟨fun j _ hj=>⟨?_,?_⟩,fun i _ hi=> ?_,?_⟩
  ·by_cases hn:bB k w j<0
   ·exact Or.inl hn
   ·right
    apply qw
    intro a ha
    simp only[decide_eq_false_iff_not]
    intro e
    have hlt:=hh j hj
    have q1:=(hI (bB k w j).toNat (by omega) j hj).1 (by omega)
    have q2:=(hI (bB k w j).toNat (by omega) a (by omega)).1 (by omega)
    omega
  ·by_cases hg:dn w j=true
   ·right
    apply qw
    intro a ha
    cases hga:dn w a with
    |false=>rfl
    |true=>
     have q1:=(hG j hj).1 hg
     have q2:=(hG a (by omega)).1 hga
     omega
   ·left;simpa using hg
  ·by_cases e:cD (fun a=>decide (bB k w a=i)) 5= -1
   ·rw[e]
    have hb:=hp i hi
    by_cases e2:(w.2.2.2.1.getD i ak.aa).1= -1
    ·exact e2
    ·exfalso
     have q:=(hI i hi (w.2.2.2.1.getD i ak.aa).1.toNat (by omega)).2 (by omega)
     have:cD (fun a=>decide (bB k w a=i)) 5≠-1:=by
      rw[xf (h:=fun a=>decide (bB k w a=i)) (m:=5) (a:=(w.2.2.2.1.getD i ak.aa).1.toNat) (fun b hb2 hbt=> ?_) (by omega) (by simpa using q)]
      ·omega
      ·apply qw
       intro a ha
       simp only[decide_eq_false_iff_not]
       intro e3
       have hbe:bB k w b=(i:Int):=by simpa using hbt
       have q1:=(hI i hi b hb2).1 hbe
       have q2:=(hI i hi a (by omega)).1 e3
       omega
     exact this e
   ·obtain⟨a,h5,h6,h7⟩:=lk e
    rw[h7]
    exact(hI i hi a h5).1 (by simpa using h6)
  ·by_cases e:cD (dn w) 5= -1
   ·rw[e]
    by_cases e2:w.2.2.2.2.2.2.1= -1
    ·exact e2
    ·exfalso
     have q:=(hG w.2.2.2.2.2.2.1.toNat (by omega)).2 (by omega)
     have:cD (dn w) 5≠-1:=by
      rw[xf (h:=dn w) (m:=5) (a:=w.2.2.2.2.2.2.1.toNat) (fun b hb2 hbt=> ?_) (by omega) q]
      ·omega
      ·apply qw
       intro a ha
       cases hga:dn w a with
       |false=>rfl
       |true=>
        have q1:=(hG b hb2).1 hbt
        have q2:=(hG a (by omega)).1 hga
        omega
     exact this e
   ·obtain⟨a,h5,h6,h7⟩:=lk e
    rw[h7]
    exact(hG a h5).1 h6
section
variable {k:Nat} (hk:9223372036854775808≤k)
include hk
theorem zP {w:ar} (hs:ag aE w≤1048576):ij k (w,())=some (gu k w,()):=by
 obtain⟨_,w2,_,_,_,_,_,w8,w9⟩:=dO hk hs
 have hn:=aA (e:=ak) (l:=w.2.2.2.1)
 have hm:=aA (e:=ah) (l:=w.2.2.2.2.2.2.2.2.2.2.2.2.1)
 have htask:∀j:Nat,ag ah (w.2.2.2.2.2.2.2.2.2.2.2.2.1.getD j ah.aa)≤1048576:=fun j=>wa hk (e:=ah) rfl w8 j
 simp only[ij,aP]
 refine(cA (fun i:Nat=>(w,w.2.2.2.1,(w.2.2.2.1.length:Int),(i:Int),())) (fun i=>bf 0 w.2.2.2.2.2.2.2.2.2.2.2.2.1.length (fun j=>decide (bB k w j=i)==decide ((w.2.2.2.1.getD i ak.aa).1=j))) w.2.2.2.1.length
  (e:=some (bf 0 w.2.2.2.2.2.2.2.2.2.2.2.2.1.length (fun j=>dn w j==decide (w.2.2.2.2.2.2.1=j))&&bI w.2.2.2.2.2.2.1 (-1) 4,())) (no:=some (false,())) ?_ ?_ k 0 (by omega) (by omega)).trans ?_
 ·intro G i hi
  simp only[aw,aK hi,hi,decide_true,if_true,Int.toNat_natCast]
  refine(cA (fun j:Nat=>(w,(i:Int),w.2.2.2.1.getD i ak.aa,w.2.2.2.1,(w.2.2.2.1.length:Int),(i:Int),w.2.2.2.2.2.2.2.2.2.2.2.2.1,(w.2.2.2.2.2.2.2.2.2.2.2.2.1.length:Int),(j:Int),()))
   (fun j=>decide (bB k w j=i)==decide ((w.2.2.2.1.getD i ak.aa).1=j)) w.2.2.2.2.2.2.2.2.2.2.2.2.1.length
   (e:=G (w,w.2.2.2.1,(w.2.2.2.1.length:Int),((i+1:Nat):Int),())) (no:=some (false,())) ?_ ?_ k 0 (by omega) (by omega)).trans ?_
  ·intro G2 j hj
   simp only[aw,aK hj,hj,decide_true,if_true,Int.toNat_natCast,BT hk (htask j),Option.bind_some,bZ]
   rw[bc (by omega)]
   show(if(!(decide (bB k w j=i)==decide ((w.2.2.2.1.getD i ak.aa).1=j)))=true then _ else _)=_
   cases (decide (bB k w j=i)==decide ((w.2.2.2.1.getD i ak.aa).1=(j:Int)))<;>rfl
  ·intro G2
   simp only[aw,Nat.lt_irrefl,decide_false,Bool.false_eq_true,if_false]
   rw[bc (by omega)]
  ·rfl
 ·intro G
  simp only[aw,Nat.lt_irrefl,decide_false,Bool.false_eq_true,if_false]
  refine(cA (fun j:Nat=>(w,w.2.2.2.2.2.2.2.2.2.2.2.2.1,(w.2.2.2.2.2.2.2.2.2.2.2.2.1.length:Int),(j:Int),()))
   (fun j=>dn w j==decide (w.2.2.2.2.2.2.1=j)) w.2.2.2.2.2.2.2.2.2.2.2.2.1.length
   (e:=some (bI w.2.2.2.2.2.2.1 (-1) 4,())) (no:=some (false,())) ?_ ?_ k 0 (by omega) (by omega)).trans ?_
  ·intro G2 j hj
   simp only[aw,aK hj,hj,decide_true,if_true,Int.toNat_natCast,yY hk,Option.bind_some,bZ]
   rw[bc (by omega)]
   show(if(!(dn w j==decide (w.2.2.2.2.2.2.1=j)))=true then _ else _)=_
   cases (dn w j==decide (w.2.2.2.2.2.2.1=(j:Int)))<;>rfl
  ·intro G2
   simp only[aw,Nat.lt_irrefl,decide_false,Bool.false_eq_true,if_false,ez hk,Option.bind_some]
  ·cases bf 0 w.2.2.2.2.2.2.2.2.2.2.2.2.1.length (fun j=>dn w j==decide (w.2.2.2.2.2.2.1=j))<;>simp
 ·unfold gu
  cases bf 0 w.2.2.2.1.length (fun i=>bf 0 w.2.2.2.2.2.2.2.2.2.2.2.2.1.length (fun j=>decide (bB k w j=i)==decide ((w.2.2.2.1.getD i ak.aa).1=j)))<;>simp
end
end Vg.Tryz
namespace Vg.Tryz
open Go Vg
set_option linter.unusedVariables false
set_option linter.unusedSectionVars false
set_option linter.unusedSimpArgs false
def fa (k:Nat) (w:ar) (j:Nat):List Int:=(List.range w.2.2.2.1.length).map (fun i:Nat=>cD (fun a=>decide (bB k w a=(i:Int))) j)
theorem Kh (k:Nat) (w:ar) (j:Nat):(fa k w j).length=w.2.2.2.1.length:=by simp[fa]
theorem Nh (k:Nat) (w:ar) (j:Nat) {i:Nat} (hi:i<w.2.2.2.1.length):(fa k w j).getD i 0=cD (fun a=>decide (bB k w a=(i:Int))) j:=by
 simp[fa,List.getD_eq_getElem?_getD,List.getElem?_map,List.getElem?_range hi]
theorem Ry (k:Nat) (w:ar) (j:Nat) (h:0≤bB k w j):(fa k w j).set (bB k w j).toNat (j:Int)=fa k w (j+1):=by
 apply List.ext_getElem
 ·simp[fa]
 ·intro i h1 h2
  simp only[fa,List.getElem_set,List.getElem_map,List.getElem_range,cD,decide_eq_true_eq]
  by_cases e:bB k w j=(i:Int)
  ·rw[if_pos (by omega),if_pos e]
  ·rw[if_neg (by omega),if_neg e]
theorem PR (k:Nat) (w:ar) (j:Nat) (h:bB k w j<0):fa k w j=fa k w (j+1):=by
 unfold fa
 apply List.map_congr_left
 intro i _
 simp only[cD,decide_eq_true_eq]
 rw[if_neg (by omega)]
theorem PL (k:Nat) (w:ar):fa k w 0=List.replicate w.2.2.2.1.length (-1):=by
 apply List.ext_getElem
 ·simp[fa]
 ·intro i h1 h2
  simp[fa,cD]
section
variable {k:Nat} (hk:9223372036854775808≤k)
include hk
theorem CL {w:ar} (hs:ag aE w≤1048576) (hp:∀i,i<w.2.2.2.1.length→bI (w.2.2.2.1.getD i ak.aa).1 (-1) 4=true) (ht:w.2.2.2.2.2.2.2.2.2.2.2.2.1.length=5)
 (hh:∀j,j<5→bB k w j<w.2.2.2.1.length):gE k (w,())=some (gu k w,()):=by
 rw[←P6 hp ht hh]
 obtain⟨_,w2,_,_,_,_,_,w8,w9⟩:=dO hk hs
 have hn:=aA (e:=ak) (l:=w.2.2.2.1)
 have htask:∀j:Nat,ag ah (w.2.2.2.2.2.2.2.2.2.2.2.2.1.getD j ah.aa)≤1048576:=fun j=>wa hk (e:=ah) rfl w8 j
 simp only[gE,aP]
 refine cB (fun i:Nat=>(w,List.replicate i (-1:Int),(i:Int),())) w.2.2.2.1.length (fun G i hi=> ?_) (fun G=> ?_) k 0 (by omega) (by omega)
 ·simp only[aw,hi,decide_true,if_true,List.length_replicate,List.length_cons,List.length_nil]
  rw[if_pos (by simp only[decide_eq_true_eq];omega),bc (by omega),List.replicate_succ']
 simp only[aw,Nat.lt_irrefl,decide_false,Bool.false_eq_true,if_false]
 rw[←PL k w]
 refine(cA (fun j:Nat=>(w,fa k w j,cD (dn w) j,(j:Int),())) (zw k w) w.2.2.2.2.2.2.2.2.2.2.2.2.1.length
  (e:=some (bf 0 w.2.2.2.1.length (fun i=>decide ((w.2.2.2.1.getD i ak.aa).1=cD (fun a=>decide (bB k w a=i)) w.2.2.2.2.2.2.2.2.2.2.2.2.1.length))&&
   decide (w.2.2.2.2.2.2.1=cD (dn w) w.2.2.2.2.2.2.2.2.2.2.2.2.1.length),())) (no:=some (false,())) ?_ ?_ k 0 (by omega) (by omega)).trans ?_
 ·intro G j hj
  have hlt:=hh j (by omega)
  simp only[aw,aK hj,hj,decide_true,if_true,Int.toNat_natCast,Br hk (htask j),yZ hk,Option.bind_some,iz,Kh]
  change (if decide (bB k w j≥0)=true then(if decide (0≤bB k w j∧bB k w j<(w.2.2.2.1.length:Int))=true then(if(!decide ((fa k w j).getD (bB k w j).toNat 0= -1))=true then some (false,())else(if decide (0≤bB k w j∧bB k w j<(w.2.2.2.1.length:Int))=true then
   (if dn w j=true then(if(!decide (cD (dn w) j= -1))=true then some (false,())else G (w,(fa k w j).set (bB k w j).toNat (j:Int),(j:Int),IntKind.i64.wrap ((j:Int)+1),()))else G (w,(fa k w j).set (bB k w j).toNat (j:Int),cD (dn w) j,IntKind.i64.wrap ((j:Int)+1),()))else none))else none)else
   (if dn w j=true then(if(!decide (cD (dn w) j= -1))=true then some (false,())else G (w,fa k w j,(j:Int),IntKind.i64.wrap ((j:Int)+1),()))else G (w,fa k w j,cD (dn w) j,IntKind.i64.wrap ((j:Int)+1),())))=_
  rw[bc (by omega)]
  have hg:dn w j=true→cD (dn w) (j+1)=(j:Int):=fun h=>by simp[cD,h]
  have hg2:dn w j=false→cD (dn w) (j+1)=cD (dn w) j:=fun h=>by simp[cD,h]
  unfold zw
  by_cases h0:0≤bB k w j
  ·rw[if_pos (by simpa using h0),if_pos (by simp only[decide_eq_true_eq];omega),Nh k w j (show(bB k w j).toNat<_ by omega),Ry k w j h0,Int.toNat_of_nonneg h0]
   rw[show decide (bB k w j<0)=false by simp only[decide_eq_false_iff_not];omega]
   by_cases hw:cD (fun a=>decide (bB k w a=bB k w j)) j= -1
   ·rw[if_neg (by simp[hw])]
    cases hgr:dn w j with
    |true=>rw[hg hgr];by_cases hw2:cD (dn w) j= -1<;>simp[hw,hw2]<;>omega
    |false=>rw[hg2 hgr];simp[hw];omega
   ·rw[if_pos (by simp[hw])];simp[hw]
  ·rw[if_neg (by simp;omega),PR k w j (by omega)]
   rw[show decide (bB k w j<0)=true by simp only[decide_eq_true_eq];omega]
   cases hgr:dn w j with
   |true=>rw[hg hgr];by_cases hw2:cD (dn w) j= -1<;>simp[hw2]
   |false=>rw[hg2 hgr];simp
 ·intro G
  simp only[aw,Nat.lt_irrefl,decide_false,Bool.false_eq_true,if_false]
  generalize w.2.2.2.2.2.2.2.2.2.2.2.2.1.length=m
  refine(cA (fun i:Nat=>(w,fa k w m,cD (dn w) m,(i:Int),())) (fun i=>decide ((w.2.2.2.1.getD i ak.aa).1=cD (fun a=>decide (bB k w a=i)) m)) w.2.2.2.1.length
   (e:=some (decide (w.2.2.2.2.2.2.1=cD (dn w) m),())) (no:=some (false,())) ?_ ?_ k 0 (by omega) (by omega)).trans ?_
  ·intro G2 i hi
   simp only[aw,Kh,aK hi,hi,decide_true,if_true,Int.toNat_natCast,iz,Nh k w m hi]
   rw[bc (by omega)]
   rcases Bool.eq_false_or_eq_true (decide ((w.2.2.2.1.getD i ak.aa).1=cD (fun a=>decide (bB k w a=(i:Int))) m))with h|h<;>simp only[h,Bool.not_true,Bool.not_false,Bool.false_eq_true,if_false,if_true]
  ·intro G2
   simp only[aw,Nat.lt_irrefl,decide_false,Bool.false_eq_true,if_false,bZ]
  ·cases bf 0 w.2.2.2.1.length (fun i=>decide ((w.2.2.2.1.getD i ak.aa).1=cD (fun a=>decide (bB k w a=i)) m))<;>simp
 ·generalize w.2.2.2.2.2.2.2.2.2.2.2.2.1.length=m
  cases bf 0 m (zw k w)<;>simp
end
end Vg.Tryz
namespace Vg.Tryz
open Go Vg
set_option linter.unusedVariables false
set_option linter.unusedSectionVars false
set_option linter.unusedSimpArgs false
def pE (nn:Int) (h:List bl):Bool:=
 bf 0 h.length (fun i=>decide ((h.getD i aC.aa).2<nn)&&bf 0 i (fun j=> !decide ((h.getD j aC.aa).2=(h.getD i aC.aa).2)))
def rE (w:ar) (g:aJ) (j:Nat):Bool:=
 decide ((w.2.2.2.2.2.2.2.2.2.1.getD j aC.aa).2=g.1)&&decide ((w.2.2.2.2.2.2.2.2.2.1.getD j aC.aa).1=Gw w.1 g)
def NG (w:ar) (g:aJ):Bool:=
 if decide ((w.2.2.2.2.2.2.2.2.2.2.2.2.1.getD 4 ah.aa).1=6)=true then decide ((w.2.2.2.2.2.2.2.2.2.2.2.2.1.getD 4 ah.aa).2.2.2.2.2.2.2.1=g.1)else false
def eJ (w:ar) (g:aJ) (n:Nat):Bool:= !bf 0 n (fun j=> !rE w g j)||NG w g
def rK (w:ar):Bool:=
 bf 0 w.2.2.2.2.2.2.2.1.length (fun i=>(decide ((w.2.2.2.2.2.2.2.1.getD i aj.aa).2.2.1≤w.2.2.1)&&
  (decide ((w.2.2.2.2.2.2.2.1.getD i aj.aa).2.2.2.1≤w.2.2.1)&&decide ((w.2.2.2.2.2.2.2.1.getD i aj.aa).1<w.2.2.2.2.2.2.2.2.1)))&&eJ w (w.2.2.2.2.2.2.2.1.getD i aj.aa) w.2.2.2.2.2.2.2.2.2.1.length)
def dQ (w:ar):Bool:=
 nw w.2.2.2.2.2.2.2.1 w.1.2.2.2.2.2&&(sA w.2.2.2.2.2.2.2.2.2.1&&(pE w.2.2.2.2.2.2.2.2.1 w.2.2.2.2.2.2.2.2.2.1&&rK w))
theorem vG (w:ar) (g:aJ) (n:Nat):eJ w g (n+1)=(if eJ w g n=true then true else rE w g n):=by
 unfold eJ
 rw[zZ]
 cases NG w g<;>cases bf 0 n (fun j=> !rE w g j)<;>cases rE w g n<;>rfl
section
variable {k:Nat} (hk:9223372036854775808≤k)
include hk
theorem O6 {c:cg} (h:ag bC c≤1048576):c.2.2.2.2.2.length≤1048576:=by
 rw[jj hk]at h
 have:=aA (e:= .str) (l:=c.2.2.2.2.2)
 omega
theorem Bz {w:ar} (hs:ag aE w≤1048576) (ht:w.2.2.2.2.2.2.2.2.2.2.2.2.1.length=5):fZ k (w,())=some (dQ w,()):=by
 obtain⟨w1,w2,_,_,w5,w6,_,w8,w9⟩:=dO hk hs
 have hb:=O6 hk w1
 have hn:=aA (e:=aj) (l:=w.2.2.2.2.2.2.2.1)
 simp only[fZ,aP,DK hk w5 hb,I3 hk w6,Option.bind_some]
 unfold dQ
 cases nw w.2.2.2.2.2.2.2.1 w.1.2.2.2.2.2 with
 |false=>rfl
 |true=>
  cases sA w.2.2.2.2.2.2.2.2.2.1 with
  |false=>rfl
  |true=>
   simp only[Bool.not_true,Bool.false_eq_true,if_false,beq_self_eq_true,if_true,Option.bind_some]
   refine(cA (fun i:Nat=>(w,(i:Int),())) (fun i=>decide ((w.2.2.2.2.2.2.2.2.2.1.getD i aC.aa).2<w.2.2.2.2.2.2.2.2.1)&&bf 0 i (fun j=> !decide ((w.2.2.2.2.2.2.2.2.2.1.getD j aC.aa).2=(w.2.2.2.2.2.2.2.2.2.1.getD i aC.aa).2))) w.2.2.2.2.2.2.2.2.2.1.length
    (e:=some (rK w,())) (no:=some (false,())) ?_ ?_ k 0 (by omega) (by omega)).trans ?_
   ·intro G i hi
    simp only[aw,aK hi,hi,decide_true,if_true,Int.toNat_natCast,jE]
    rcases Bool.eq_false_or_eq_true (decide ((w.2.2.2.2.2.2.2.2.2.1.getD i aC.aa).2<w.2.2.2.2.2.2.2.2.1))with h|h<;>simp only[h,Bool.not_true,Bool.not_false,Bool.false_eq_true,if_false,if_true,Bool.true_and,Bool.false_and]
    refine(cA (fun j:Nat=>(w,(i:Int),(j:Int),())) (fun j=> !decide ((w.2.2.2.2.2.2.2.2.2.1.getD j aC.aa).2=(w.2.2.2.2.2.2.2.2.2.1.getD i aC.aa).2)) i
     (e:=G (w,((i+1:Nat):Int),())) (no:=some (false,())) ?_ ?_ k 0 (by omega) (by omega)).trans ?_
    ·intro G2 j hj
     have hj2:j<w.2.2.2.2.2.2.2.2.2.1.length:=by omega
     simp only[aw,aK hj2,aK hi,hj,decide_true,if_true,Int.toNat_natCast,bZ]
     rw[bc (by omega)]
     rcases Bool.eq_false_or_eq_true (decide ((w.2.2.2.2.2.2.2.2.2.1.getD j aC.aa).2=(w.2.2.2.2.2.2.2.2.2.1.getD i aC.aa).2))with h2|h2<;>simp only[h2,Bool.not_true,Bool.not_false,Bool.false_eq_true,if_false,if_true]
    ·intro G2
     simp only[aw,Nat.lt_irrefl,decide_false,Bool.false_eq_true,if_false]
     rw[bc (by omega)]
    ·rfl
   ·intro G
    simp only[aw,Nat.lt_irrefl,decide_false,Bool.false_eq_true,if_false]
    refine(cA (fun i:Nat=>(w,(i:Int),())) (fun i=>(decide ((w.2.2.2.2.2.2.2.1.getD i aj.aa).2.2.1≤w.2.2.1)&&
     (decide ((w.2.2.2.2.2.2.2.1.getD i aj.aa).2.2.2.1≤w.2.2.1)&&decide ((w.2.2.2.2.2.2.2.1.getD i aj.aa).1<w.2.2.2.2.2.2.2.2.1)))&&eJ w (w.2.2.2.2.2.2.2.1.getD i aj.aa) w.2.2.2.2.2.2.2.2.2.1.length) w.2.2.2.2.2.2.2.1.length
     (e:=some (true,())) (no:=some (false,())) ?_ ?_ k 0 (by omega) (by omega)).trans ?_
    ·intro G2 i hi
     have h5:decide ((0:Int)≤4∧(4:Int)<(w.2.2.2.2.2.2.2.2.2.2.2.2.1.length:Int))=true:=by rw[ht];rfl
     simp only[aw,aK hi,hi,h5,decide_true,if_true,Int.toNat_natCast,Bool.or_true,bZ]
     generalize w.2.2.2.2.2.2.2.1.getD i aj.aa=g
     refine cB (fun j:Nat=>(w,(i:Int),g,eJ w g j,(j:Int),())) w.2.2.2.2.2.2.2.2.2.1.length (fun G3 j hj=> ?_) (fun G3=> ?_) k 0 (by omega) (by omega)
     ·simp only[aw,aK hj,hj,decide_true,if_true,Int.toNat_natCast,Bool.or_true,NY hk]
      rw[bc (by omega),vG]
      unfold rE
      cases eJ w g j<;>by_cases h2:(w.2.2.2.2.2.2.2.2.2.1.getD j aC.aa).2=g.1<;>simp only[h2,Bool.not_true,Bool.not_false,Bool.false_eq_true,if_false,if_true,decide_true,decide_false,Bool.true_and,Bool.false_and,Bool.and_true,Bool.and_false,beq_self_eq_true,Option.bind_some,beq_iff_eq]<;>rfl
     ·simp only[aw,Nat.lt_irrefl,decide_false,Bool.false_eq_true,if_false]
      rw[bc (by omega),jE]
      have q1:∀a b:Int,decide (a>b)= !decide (a≤b):=fun a b=>by by_cases h:a≤b<;>simp[h]<;>omega
      rw[q1,q1]
      cases eJ w g w.2.2.2.2.2.2.2.2.2.1.length<;>cases decide (g.2.2.1≤w.2.2.1)<;>cases decide (g.2.2.2.1≤w.2.2.1)<;>cases decide (g.1<w.2.2.2.2.2.2.2.2.1)<;>rfl
    ·intro G2
     simp only[aw,Nat.lt_irrefl,decide_false,Bool.false_eq_true,if_false]
    ·show(if rK w=true then _ else _)=_
     cases rK w<;>simp
   ·show(if pE w.2.2.2.2.2.2.2.2.1 w.2.2.2.2.2.2.2.2.2.1=true then _ else _)=_
    cases pE w.2.2.2.2.2.2.2.2.1 w.2.2.2.2.2.2.2.2.2.1<;>simp
omit hk in
theorem TF {α:Type} (d:α) {l:List α} {i j:Nat} (h:j<i):(l.take i).getD j d=l.getD j d:=by
 simp only[List.getD_eq_getElem?_getD,List.getElem?_take,h,if_true]
theorem zb {w:ar} (hs:ag aE w≤1048576) (ht:w.2.2.2.2.2.2.2.2.2.2.2.2.1.length=5):gy k (w,())=some (dQ w,()):=by
 obtain⟨w1,w2,_,_,w5,w6,_,w8,w9⟩:=dO hk hs
 have hb:=O6 hk w1
 have hn:=aA (e:=aj) (l:=w.2.2.2.2.2.2.2.1)
 simp only[gy,aP,C4 hk w5 hb,Jp hk w6,Option.bind_some]
 unfold dQ
 cases nw w.2.2.2.2.2.2.2.1 w.1.2.2.2.2.2 with
 |false=>rfl
 |true=>
  cases sA w.2.2.2.2.2.2.2.2.2.1 with
  |false=>rfl
  |true=>
   simp only[Bool.not_true,Bool.false_eq_true,if_false,beq_self_eq_true,if_true,Option.bind_some]
   refine(cA (fun i:Nat=>(w,w.2.2.2.2.2.2.2.1,(w.2.2.2.2.2.2.2.1.length:Int),(i:Int),())) (fun i=>(decide ((w.2.2.2.2.2.2.2.1.getD i aj.aa).2.2.1≤w.2.2.1)&&
    (decide ((w.2.2.2.2.2.2.2.1.getD i aj.aa).2.2.2.1≤w.2.2.1)&&decide ((w.2.2.2.2.2.2.2.1.getD i aj.aa).1<w.2.2.2.2.2.2.2.2.1)))&&eJ w (w.2.2.2.2.2.2.2.1.getD i aj.aa) w.2.2.2.2.2.2.2.2.2.1.length) w.2.2.2.2.2.2.2.1.length
    (e:=some (pE w.2.2.2.2.2.2.2.2.1 w.2.2.2.2.2.2.2.2.2.1,())) (no:=some (false,())) ?_ ?_ k 0 (by omega) (by omega)).trans ?_
   ·intro G2 i hi
    have h5:decide ((0:Int)≤4∧(4:Int)<(w.2.2.2.2.2.2.2.2.2.2.2.2.1.length:Int))=true:=by rw[ht];rfl
    dsimp only
    rw[aw,decide_eq_true hi,if_pos rfl,if_pos (aK hi),Int.toNat_natCast]
    generalize w.2.2.2.2.2.2.2.1.getD i aj.aa=g
    simp only[h5,decide_true,if_true,Bool.or_true,bZ]
    have q1:∀a b:Int,decide (a>b)= !decide (a≤b):=fun a b=>by by_cases h:a≤b<;>simp[h]<;>omega
    rw[show decide (g.1≥w.2.2.2.2.2.2.2.2.1)= !decide (g.1<w.2.2.2.2.2.2.2.2.1)from jE _ _,q1,q1]
    generalize decide (g.2.2.1≤w.2.2.1)=b1
    generalize decide (g.2.2.2.1≤w.2.2.1)=b2
    generalize decide (g.1<w.2.2.2.2.2.2.2.2.1)=b3
    by_cases hq:b1=true∧b2=true∧b3=true
    rotate_left
    ·cases b1<;>cases b2<;>cases b3<;>first|rfl|(exact absurd hq (by simp))
    obtain⟨e1,e2,e3⟩:=hq
    subst e1 e2 e3
    rw[Bool.true_and,Bool.true_and,Bool.true_and]
    refine(rO rfl).trans ?_
    refine cB (fun j:Nat=>(w,g,eJ w g j,w.2.2.2.2.2.2.2.1,(w.2.2.2.2.2.2.2.1.length:Int),(i:Int),w.2.2.2.2.2.2.2.2.2.1,(w.2.2.2.2.2.2.2.2.2.1.length:Int),(j:Int),())) w.2.2.2.2.2.2.2.2.2.1.length (fun G3 j hj=> ?_) (fun G3=> ?_) k 0 (by omega) (by omega)
    ·simp only[aw,aK hj,hj,decide_true,if_true,Int.toNat_natCast,Bool.or_true,On hk]
     rw[bc (by omega),vG]
     unfold rE
     cases eJ w g j<;>by_cases h2:(w.2.2.2.2.2.2.2.2.2.1.getD j aC.aa).2=g.1<;>simp only[h2,Bool.not_true,Bool.not_false,Bool.false_eq_true,if_false,if_true,decide_true,decide_false,Bool.true_and,Bool.false_and,Bool.and_true,Bool.and_false,beq_self_eq_true,Option.bind_some,beq_iff_eq]<;>rfl
    ·simp only[aw,Nat.lt_irrefl,decide_false,Bool.false_eq_true,if_false]
     rw[bc (by omega)]
     cases eJ w g w.2.2.2.2.2.2.2.2.2.1.length<;>rfl
   ·intro G
    simp only[aw,Nat.lt_irrefl,decide_false,Bool.false_eq_true,if_false]
    refine(cA (fun i:Nat=>(w,w.2.2.2.2.2.2.2.2.2.1,(w.2.2.2.2.2.2.2.2.2.1.length:Int),(i:Int),())) (fun i=>decide ((w.2.2.2.2.2.2.2.2.2.1.getD i aC.aa).2<w.2.2.2.2.2.2.2.2.1)&&bf 0 i (fun j=> !decide ((w.2.2.2.2.2.2.2.2.2.1.getD j aC.aa).2=(w.2.2.2.2.2.2.2.2.2.1.getD i aC.aa).2))) w.2.2.2.2.2.2.2.2.2.1.length
     (e:=some (true,())) (no:=some (false,())) ?_ ?_ k 0 (by omega) (by omega)).trans ?_
    ·intro G i hi
     have hl:(w.2.2.2.2.2.2.2.2.2.1.take i).length=i:=by rw[List.length_take];omega
     simp only[aw,aK hi,hi,decide_true,if_true,Int.toNat_natCast,jE,hl]
     rcases Bool.eq_false_or_eq_true (decide ((w.2.2.2.2.2.2.2.2.2.1.getD i aC.aa).2<w.2.2.2.2.2.2.2.2.1))with h|h<;>simp only[h,Bool.not_true,Bool.not_false,Bool.false_eq_true,if_false,if_true,Bool.true_and,Bool.false_and]
     rw[if_pos (by simp only[decide_eq_true_eq];omega)]
     refine(cA (fun j:Nat=>(w,w.2.2.2.2.2.2.2.2.2.1.getD i aC.aa,w.2.2.2.2.2.2.2.2.2.1,(w.2.2.2.2.2.2.2.2.2.1.length:Int),(i:Int),w.2.2.2.2.2.2.2.2.2.1.take i,(i:Int),(j:Int),())) (fun j=> !decide ((w.2.2.2.2.2.2.2.2.2.1.getD j aC.aa).2=(w.2.2.2.2.2.2.2.2.2.1.getD i aC.aa).2)) i
      (e:=G (w,w.2.2.2.2.2.2.2.2.2.1,(w.2.2.2.2.2.2.2.2.2.1.length:Int),((i+1:Nat):Int),())) (no:=some (false,())) ?_ ?_ k 0 (by omega) (by omega)).trans ?_
     ·intro G2 j hj
      simp only[aw,hl,aK hj,hj,decide_true,if_true,Int.toNat_natCast,bZ,TF aC.aa hj]
      rw[bc (by omega)]
      rcases Bool.eq_false_or_eq_true (decide ((w.2.2.2.2.2.2.2.2.2.1.getD j aC.aa).2=(w.2.2.2.2.2.2.2.2.2.1.getD i aC.aa).2))with h2|h2<;>simp only[h2,Bool.not_true,Bool.not_false,Bool.false_eq_true,if_false,if_true]
     ·intro G2
      simp only[aw,Nat.lt_irrefl,decide_false,Bool.false_eq_true,if_false]
      rw[bc (by omega)]
     ·rfl
    ·intro G2
     simp only[aw,Nat.lt_irrefl,decide_false,Bool.false_eq_true,if_false]
    ·show(if pE w.2.2.2.2.2.2.2.2.1 w.2.2.2.2.2.2.2.2.2.1=true then _ else _)=_
     cases pE w.2.2.2.2.2.2.2.2.1 w.2.2.2.2.2.2.2.2.2.1<;>simp
   ·show(if rK w=true then _ else _)=_
    cases rK w<;>simp
end
end Vg.Tryz
namespace Vg.Tryz
open Go Vg
set_option linter.unusedVariables false
set_option linter.unusedSectionVars false
set_option linter.unusedSimpArgs false
def qi (k:Nat) (w:ar) (d:bg):Bool:=
 sn k d&&(decide (d.2.2.2.2.2.2.2.2.2.1<w.2.1)&&(decide (d.2.2.2.2.2.2.2.2.2.2.1<w.2.1)&&decide (d.2.2.2.2.2.2.2.2.2.2.2<w.2.1)))
def jY (k:Nat) (w:ar):Bool:=bf 0 w.2.2.2.2.2.2.2.2.2.2.2.2.2.length (fun i=>qi k w (w.2.2.2.2.2.2.2.2.2.2.2.2.2.getD i aq.aa))
def nv (w:ar) (t:aL):bg:=w.2.2.2.2.2.2.2.2.2.2.2.2.2.getD t.2.2.2.2.2.2.2.2.toNat aq.aa
def fo (k:Nat) (w:ar):Bool:=bf 0 w.2.2.2.2.2.2.2.2.2.2.2.2.1.length (fun i=>gz k w (w.2.2.2.2.2.2.2.2.2.2.2.2.1.getD i ah.aa) (nv w (w.2.2.2.2.2.2.2.2.2.2.2.2.1.getD i ah.aa)) i)
def eQ (k:Nat) (w:ar):Bool:=
 iB k w.2.2.2.1&&(decide ((w.2.2.2.1.length:Int)=w.1.1)&&(decide ((oA w.2.2.2.1:Int)≤w.1.2.1)&&bf 0 (dr (cX w.2.2.2.1)).length (fun i=>jP ((dr (cX w.2.2.2.1)).getD i ab.aa))))
def pg (k:Nat) (w:ar):Bool:=
 gx w.1&&(decide (0≤w.2.1)&&(decide (0≤w.2.2.2.2.2.2.2.2.1)&&(bI w.2.2.1 0 99899&&(eQ k w&&(decide ((w.2.2.2.2.1.length:Int)=w.1.2.2.1)&&(decide ((w.2.2.2.2.2.2.2.2.2.2.2.2.1.length:Int)=5)&&(ck w.2.2.2.2.2.1&&(ck w.2.2.2.2.2.2.2.2.2.2.2.1&&
 (qe w.2.2.2.2.1&&(jY k w&&(fo k w&&(gu k w&&dQ w))))))))))))
section
variable {k:Nat} (hk:9223372036854775808≤k)
include hk
theorem zE {w:ar} (hs:ag aE w≤1048576) (hp:(w.2.2.2.1.length:Int)=w.1.1):ig k (w,())=some (jY k w&&fo k w,()):=by
 obtain⟨w1,w2,_,_,w5,w6,_,w8,w9⟩:=dO hk hs
 have hn:=aA (e:=aq) (l:=w.2.2.2.2.2.2.2.2.2.2.2.2.2)
 have hm:=aA (e:=ah) (l:=w.2.2.2.2.2.2.2.2.2.2.2.2.1)
 have hdeed:∀j:Nat,ag aq (w.2.2.2.2.2.2.2.2.2.2.2.2.2.getD j aq.aa)≤1048576:=fun j=>wa hk (e:=aq) rfl w9 j
 have htask:∀j:Nat,ag ah (w.2.2.2.2.2.2.2.2.2.2.2.2.1.getD j ah.aa)≤1048576:=fun j=>wa hk (e:=ah) rfl w8 j
 simp only[ig,aP]
 refine(cA (fun i:Nat=>(w,w.2.2.2.2.2.2.2.2.2.2.2.2.2,(w.2.2.2.2.2.2.2.2.2.2.2.2.2.length:Int),(i:Int),())) (fun i=>qi k w (w.2.2.2.2.2.2.2.2.2.2.2.2.2.getD i aq.aa)) w.2.2.2.2.2.2.2.2.2.2.2.2.2.length
  (e:=some (fo k w,())) (no:=some (false,())) ?_ ?_ k 0 (by omega) (by omega)).trans ?_
 ·intro G i hi
  dsimp only
  rw[aw,decide_eq_true hi,if_pos rfl,if_pos (aK hi),Int.toNat_natCast,Ic hk,Option.bind_some,bc (by omega)]
  generalize w.2.2.2.2.2.2.2.2.2.2.2.2.2.getD i aq.aa=d
  rw[jE,jE,jE]
  unfold qi
  cases sn k d<;>cases decide (d.2.2.2.2.2.2.2.2.2.1<w.2.1)<;>cases decide (d.2.2.2.2.2.2.2.2.2.2.1<w.2.1)<;>cases decide (d.2.2.2.2.2.2.2.2.2.2.2<w.2.1)<;>rfl
 ·intro G
  simp only[aw,Nat.lt_irrefl,decide_false,Bool.false_eq_true,if_false]
  refine(cA (fun i:Nat=>(w,w.2.2.2.2.2.2.2.2.2.2.2.2.1,(w.2.2.2.2.2.2.2.2.2.2.2.2.1.length:Int),(i:Int),())) (fun i=>gz k w (w.2.2.2.2.2.2.2.2.2.2.2.2.1.getD i ah.aa) (nv w (w.2.2.2.2.2.2.2.2.2.2.2.2.1.getD i ah.aa)) i) w.2.2.2.2.2.2.2.2.2.2.2.2.1.length
   (e:=some (true,())) (no:=some (false,())) ?_ ?_ k 0 (by omega) (by omega)).trans ?_
  ·intro G2 i hi
   have ht:ag ah (w.2.2.2.2.2.2.2.2.2.2.2.2.1.getD i ah.aa)≤1048576:=htask i
   dsimp only
   rw[aw,decide_eq_true hi,if_pos rfl,if_pos (aK hi),Int.toNat_natCast,bc (by omega)]
   generalize w.2.2.2.2.2.2.2.2.2.2.2.2.1.getD i ah.aa=t at*
   have hd:ag aq (nv w t)≤1048576:=hdeed _
   unfold nv at hd⊢
   generalize w.2.2.2.2.2.2.2.2.2.2.2.2.2.getD t.2.2.2.2.2.2.2.2.toNat aq.aa=d at*
   rw[Il hk ht,Option.bind_some]
   unfold gz
   by_cases hok:gI t i=true
   rotate_left
   ·simp[hok]
   obtain⟨hH,hkind⟩:=Cs hok
   rw[Dr hk hs hp ht hd hok]
   by_cases e0:t.1=0
   ·simp[e0,hok]
   by_cases eH:t.2.2.2.2.2.2.2.2<(w.2.2.2.2.2.2.2.2.2.2.2.2.2.length:Int)
   rotate_left
   ·have:decide (t.2.2.2.2.2.2.2.2≥(w.2.2.2.2.2.2.2.2.2.2.2.2.2.length:Int))=true:=by simp only[decide_eq_true_eq];omega
    simp[e0,this,eH,hok]
   have q1:decide (t.2.2.2.2.2.2.2.2≥(w.2.2.2.2.2.2.2.2.2.2.2.2.2.length:Int))=false:=by simp only[decide_eq_false_iff_not];omega
   simp only[hok,q1,hH,and_true,true_and,if_true,Bool.not_true,Bool.false_eq_true,if_false,eH,e0,decide_true,decide_false,Bool.true_and,Bool.false_or,bZ,iz]
   by_cases c1:d.2.1=i
   rotate_left
   ·simp[c1]
   by_cases c2:d.2.2.2.2.2.2.2.2.2.2.2= -1
   rotate_left
   ·simp[c1,c2]
   by_cases c3:d.2.2.2.2.2.2.2.2.2.2.1= -1<;>by_cases c4:t.1=1<;>by_cases c5:t.2.1=2<;>cases oZ k w t d<;>simp[c1,c2,c3,c4,c5]
  ·intro G2
   simp only[aw,Nat.lt_irrefl,decide_false,Bool.false_eq_true,if_false]
  ·show(if fo k w=true then _ else _)=_
   cases fo k w<;>simp
 ·show(if jY k w=true then _ else _)=_
  cases jY k w<;>simp
theorem KC {l:List aG} (hs:ag (.sl ak) l≤1048576) {i:Nat} (hi:i<(dr (cX l)).length):ag ab ((dr (cX l)).getD i ab.aa)≤1048576:=by
 have h1:=fm hk l
 have h2:=Rf (cX l)
 have h3:=sI (e:=ab) (d:=ab.aa) hi
 omega
omit hk in
theorem ET (l:List aG):(dr (cX l)).length=oA l:=by
 have:=Ks cQ (cX l)
 unfold dr eM oA
 rw[List.length_reverse]
 exact this
theorem D8 {w:ar} (hs:ag aE w≤1048576):kq k (w,())=some (eQ k w,()):=by
 obtain⟨w1,w2,_,_,w5,w6,_,w8,w9⟩:=dO hk hs
 have hc:=KH hk w2
 have hsl:=ET w.2.2.2.1
 simp only[kq,aP,Hf hk w2,A4 hk w2,Option.bind_some,iz]
 unfold eQ
 cases iB k w.2.2.2.1 with
 |false=>rfl
 |true=>
  rcases Bool.eq_false_or_eq_true (decide ((w.2.2.2.1.length:Int)=w.1.1))with hq|hq
  rotate_left
  ·rw[hq];rfl
  ·rw[hq]
   simp only[Bool.not_true,Bool.false_eq_true,if_false,Bool.true_and]
   refine(cA (fun i:Nat=>(w,dr (cX w.2.2.2.1),(i:Int),())) (fun i=>jP ((dr (cX w.2.2.2.1)).getD i ab.aa)) (dr (cX w.2.2.2.1)).length
    (e:=some (decide ((oA w.2.2.2.1:Int)≤w.1.2.1),())) (no:=some (false,())) ?_ ?_ k 0 (by omega) (by omega)).trans ?_
   ·intro G i hi
    have h1:=KC hk w2 hi
    dsimp only
    rw[aw,decide_eq_true hi,if_pos rfl,if_pos (aK hi),Int.toNat_natCast,zo hk h1,Option.bind_some,bc (by omega)]
    cases jP ((dr (cX w.2.2.2.1)).getD i ab.aa)<;>rfl
   ·intro G
    simp only[aw,Nat.lt_irrefl,decide_false,Bool.false_eq_true,if_false,hsl]
   ·cases bf 0 (dr (cX w.2.2.2.1)).length (fun i=>jP ((dr (cX w.2.2.2.1)).getD i ab.aa))<;>simp
theorem Aj {w:ar} (hs:ag aE w≤1048576) (h8:w.1.2.1≤8):ic k (w,())=some (eQ k w,()):=by
 obtain⟨w1,w2,_,_,w5,w6,_,w8,w9⟩:=dO hk hs
 have hc:=KH hk w2
 have hsl:=ET w.2.2.2.1
 simp only[ic,aP,F9 hk w2,FB hk w2,Option.bind_some,iz]
 unfold eQ
 cases iB k w.2.2.2.1 with
 |false=>rfl
 |true=>
  rcases Bool.eq_false_or_eq_true (decide ((w.2.2.2.1.length:Int)=w.1.1))with hq|hq
  rotate_left
  ·rw[hq];rfl
  ·rw[hq]
   simp only[Bool.not_true,Bool.false_eq_true,if_false,Bool.true_and,beq_self_eq_true,if_true,Option.bind_some]
   by_cases hcap:(oA w.2.2.2.1:Int)≤w.1.2.1
   rotate_left
   ·rw[if_pos (by simp only[decide_eq_true_eq];omega),decide_eq_false hcap];rfl
   rw[if_neg (by simp only[decide_eq_true_eq];omega),decide_eq_true hcap,Bt hk w2 (by omega),Option.bind_some]
   refine(cA (fun i:Nat=>(w,dr (cX w.2.2.2.1),((dr (cX w.2.2.2.1)).length:Int),(i:Int),())) (fun i=>jP ((dr (cX w.2.2.2.1)).getD i ab.aa)) (dr (cX w.2.2.2.1)).length
    (e:=some (true,())) (no:=some (false,())) ?_ ?_ k 0 (by omega) (by omega)).trans ?_
   ·intro G i hi
    have h1:=KC hk w2 hi
    dsimp only
    rw[aw,decide_eq_true hi,if_pos rfl,if_pos (aK hi),Int.toNat_natCast,Aa hk h1,Option.bind_some,bc (by omega)]
    cases jP ((dr (cX w.2.2.2.1)).getD i ab.aa)<;>rfl
   ·intro G
    simp only[aw,Nat.lt_irrefl,decide_false,Bool.false_eq_true,if_false]
   ·cases bf 0 (dr (cX w.2.2.2.1)).length (fun i=>jP ((dr (cX w.2.2.2.1)).getD i ab.aa))<;>simp
omit hk in
theorem MQ {l:List aG} (h:iB k l=true):(1≤l.length∧l.length≤3)∧∀i,i<l.length→bI (l.getD i ak.aa).1 (-1) 4=true:=by
 unfold iB at h
 simp only[Bool.and_eq_true,en]at h
 obtain⟨h1,h2⟩:=h
 refine⟨?_,fun i hi=> ?_⟩
 ·unfold bI at h2
  simp only[Bool.and_eq_true,decide_eq_true_eq]at h2
  omega
 ·have:=h1 i (by omega) hi
  unfold jH at this
  simp only[Bool.and_eq_true]at this
  exact this.2.1
omit hk in
theorem TH {w:ar} (hp:(w.2.2.2.1.length:Int)=w.1.1) (h1:1≤w.2.2.2.1.length) (ho:fo k w=true) {j:Nat} (hj:j<w.2.2.2.2.2.2.2.2.2.2.2.2.1.length):bB k w j<w.2.2.2.1.length:=by
 unfold fo at ho
 have h:=en.1 ho j (by omega) hj
 unfold bB nP
 generalize w.2.2.2.2.2.2.2.2.2.2.2.2.1.getD j ah.aa=t at*
 have hp1:=fun f:Int=>Fp (f:=f) (n:=(w.2.2.2.1.length:Int)) (by omega)
 split
 ·omega
 split
 ·exact(hp1 _).2
 split
 ·exact(hp1 _).2
 split
 ·rename_i hc
  unfold gz oZ at h
  rw[hp]
  grind
 ·omega
end
end Vg.Tryz
namespace Vg.Tryz
open Go Vg
set_option linter.unusedVariables false
set_option linter.unusedSectionVars false
set_option linter.unusedSimpArgs false
section
variable {k:Nat} (hk:9223372036854775808≤k)
include hk
theorem Hl {w:ar} (hs:ag aE w≤1048576):lK k (w,())=some (pg k w,()):=by
 obtain⟨w1,w2,w3,w4,w5,w6,w7,w8,w9⟩:=dO hk hs
 have hn:=aA (e:=aq) (l:=w.2.2.2.2.2.2.2.2.2.2.2.2.2)
 have hm:=aA (e:=ah) (l:=w.2.2.2.2.2.2.2.2.2.2.2.2.1)
 have hu:=aA (e:=aU) (l:=w.2.2.2.2.1)
 simp only[lK,aP,JU hk w1,fc hk,D8 hk hs,oY hk w4,oY hk w7,Option.bind_some,iz,bL]
 have g0:∀a:Int,decide (a<0)= !decide (0≤a):=fun a=>by by_cases h:a<0<;>simp[h]<;>omega
 rw[g0,g0]
 unfold pg
 by_cases hall:gx w.1=true∧0≤w.2.1∧0≤w.2.2.2.2.2.2.2.2.1∧bI w.2.2.1 0 99899=true∧eQ k w=true∧(w.2.2.2.2.1.length:Int)=w.1.2.2.1∧(w.2.2.2.2.2.2.2.2.2.2.2.2.1.length:Int)=5∧ck w.2.2.2.2.2.1=true∧ck w.2.2.2.2.2.2.2.2.2.2.2.1=true
 rotate_left
 ·have hf:(gx w.1&&(decide (0≤w.2.1)&&(decide (0≤w.2.2.2.2.2.2.2.2.1)&&(bI w.2.2.1 0 99899&&(eQ k w&&(decide ((w.2.2.2.2.1.length:Int)=w.1.2.2.1)&&(decide ((w.2.2.2.2.2.2.2.2.2.2.2.2.1.length:Int)=5)&&(ck w.2.2.2.2.2.1&&(ck w.2.2.2.2.2.2.2.2.2.2.2.1&&
   (qe w.2.2.2.2.1&&(jY k w&&(fo k w&&(gu k w&&dQ w)))))))))))))=false:=by
   rw[Bool.eq_false_iff]
   intro h
   simp only[Bool.and_eq_true,decide_eq_true_eq]at h
   exact hall ⟨h.1,h.2.1,h.2.2.1,h.2.2.2.1,h.2.2.2.2.1,h.2.2.2.2.2.1,h.2.2.2.2.2.2.1,h.2.2.2.2.2.2.2.1,h.2.2.2.2.2.2.2.2.1⟩
  rw[hf]
  refine(if_pos ?_).trans rfl
  have hq:¬(gx w.1=true∧decide (0≤w.2.1)=true∧decide (0≤w.2.2.2.2.2.2.2.2.1)=true∧bI w.2.2.1 0 99899=true∧eQ k w=true∧decide ((w.2.2.2.2.1.length:Int)=w.1.2.2.1)=true∧decide ((w.2.2.2.2.2.2.2.2.2.2.2.2.1.length:Int)=5)=true∧ck w.2.2.2.2.2.1=true∧ck w.2.2.2.2.2.2.2.2.2.2.2.1=true):=by
   simpa only[decide_eq_true_eq]using hall
  generalize gx w.1=b1 at hq⊢
  generalize decide (0≤w.2.1)=b2 at hq⊢
  generalize decide (0≤w.2.2.2.2.2.2.2.2.1)=b3 at hq⊢
  generalize bI w.2.2.1 0 99899=b4 at hq⊢
  generalize eQ k w=b5 at hq⊢
  generalize decide ((w.2.2.2.2.1.length:Int)=w.1.2.2.1)=b6 at hq⊢
  generalize decide ((w.2.2.2.2.2.2.2.2.2.2.2.2.1.length:Int)=5)=b7 at hq⊢
  generalize ck w.2.2.2.2.2.1=b8 at hq⊢
  generalize ck w.2.2.2.2.2.2.2.2.2.2.2.1=b9 at hq⊢
  clear hall hf
  cases b1
  ·rfl
  cases b2
  ·rfl
  cases b3
  ·rfl
  cases b4
  ·rfl
  cases b5
  ·rfl
  cases b6
  ·rfl
  cases b7
  ·rfl
  cases b8
  ·rfl
  cases b9
  ·rfl
  exact absurd ⟨rfl,rfl,rfl,rfl,rfl,rfl,rfl,rfl,rfl⟩ hq
 obtain⟨h1,h2,h3,h4,h5,h6,h7,h8,h9⟩:=hall
 have hst:iB k w.2.2.2.1=true∧(w.2.2.2.1.length:Int)=w.1.1:=by
  unfold eQ at h5
  simp only[Bool.and_eq_true,decide_eq_true_eq]at h5
  exact⟨h5.1,h5.2.1⟩
 obtain⟨⟨hl1,_⟩,hheld⟩:=MQ hst.1
 rw[h1,decide_eq_true h2,decide_eq_true h3,h4,h5,decide_eq_true h6,decide_eq_true h7,h8,h9]
 simp only[Bool.true_and]
 refine(rO rfl).trans ?_
 refine(cA (fun i:Nat=>(w,(i:Int),())) (fun i=>pS (w.2.2.2.2.1.getD i aU.aa)) w.2.2.2.2.1.length
  (e:=some (jY k w&&(fo k w&&(gu k w&&dQ w)),())) (no:=some (false,())) ?_ ?_ k 0 (by omega) (by omega)).trans ?_
 ·intro G i hi
  dsimp only
  rw[aw,decide_eq_true hi,if_pos rfl,if_pos (aK hi),Int.toNat_natCast,L2 hk (Rs hk w3 hi),Option.bind_some,bc (by omega)]
  cases pS (w.2.2.2.2.1.getD i aU.aa)<;>rfl
 ·intro G
  simp only[aw,Nat.lt_irrefl,decide_false,Bool.false_eq_true,if_false]
  refine(cA (fun i:Nat=>(w,(i:Int),())) (fun i=>qi k w (w.2.2.2.2.2.2.2.2.2.2.2.2.2.getD i aq.aa)) w.2.2.2.2.2.2.2.2.2.2.2.2.2.length
   (e:=some (fo k w&&(gu k w&&dQ w),())) (no:=some (false,())) ?_ ?_ k 0 (by omega) (by omega)).trans ?_
  ·intro G i hi
   dsimp only
   rw[aw,decide_eq_true hi,if_pos rfl,if_pos (aK hi),Int.toNat_natCast,JK hk,Option.bind_some,bc (by omega)]
   generalize w.2.2.2.2.2.2.2.2.2.2.2.2.2.getD i aq.aa=d
   rw[jE,jE,jE]
   unfold qi
   cases sn k d<;>cases decide (d.2.2.2.2.2.2.2.2.2.1<w.2.1)<;>cases decide (d.2.2.2.2.2.2.2.2.2.2.1<w.2.1)<;>cases decide (d.2.2.2.2.2.2.2.2.2.2.2<w.2.1)<;>rfl
  ·intro G
   simp only[aw,Nat.lt_irrefl,decide_false,Bool.false_eq_true,if_false]
   refine(cA (fun i:Nat=>(w,(i:Int),())) (fun i=>gz k w (w.2.2.2.2.2.2.2.2.2.2.2.2.1.getD i ah.aa) (nv w (w.2.2.2.2.2.2.2.2.2.2.2.2.1.getD i ah.aa)) i) w.2.2.2.2.2.2.2.2.2.2.2.2.1.length
    (e:=gE k (w,())>>= fun r=>(if(r.1==true)=true then fZ k (w,())else some (false,()))>>= fun r2=>some (if r.1=true then r2.1 else false,())) (no:=some (false,())) ?_ ?_ k 0 (by omega) (by omega)).trans ?_
   ·intro G i hi
    dsimp only
    rw[aw,decide_eq_true hi,if_pos rfl,Hd hk hs hi hst.2,Option.bind_some,bc (by omega)]
    show(if(!gz k w (w.2.2.2.2.2.2.2.2.2.2.2.2.1.getD i ah.aa) (nv w (w.2.2.2.2.2.2.2.2.2.2.2.2.1.getD i ah.aa)) i)=true then _ else _)=_
    cases gz k w (w.2.2.2.2.2.2.2.2.2.2.2.2.1.getD i ah.aa) (nv w (w.2.2.2.2.2.2.2.2.2.2.2.2.1.getD i ah.aa)) i<;>rfl
   ·intro G
    simp only[aw,Nat.lt_irrefl,decide_false,Bool.false_eq_true,if_false]
    rfl
   ·show(if fo k w=true then _ else _)=_
    rcases Bool.eq_false_or_eq_true (fo k w)with ho|ho
    rotate_left
    ·rw[ho];rfl
    ·rw[ho,if_pos rfl,CL hk hs hheld (by omega) (fun j hj=>TH hst.2 hl1 ho (by omega)),Bz hk hs (by omega)]
     cases gu k w<;>rfl
  ·show(if jY k w=true then _ else _)=_
   cases jY k w<;>simp
 ·show(if qe w.2.2.2.2.1=true then _ else _)=_
  cases qe w.2.2.2.2.1<;>simp
theorem F4 {w:ar} (hs:ag aE w≤1048576):lQ k (w,())=some (pg k w,()):=by
 obtain⟨w1,w2,w3,w4,w5,w6,w7,w8,w9⟩:=dO hk hs
 simp only[lQ,IJ hk w1,ez hk,Option.bind_some,iz,bL]
 have g0:∀a:Int,decide (a<0)= !decide (0≤a):=fun a=>by by_cases h:a<0<;>simp[h]<;>omega
 rw[g0,g0]
 unfold pg
 by_cases hall:gx w.1=true∧0≤w.2.1∧0≤w.2.2.2.2.2.2.2.2.1∧bI w.2.2.1 0 99899=true∧(w.2.2.2.2.2.2.2.2.2.2.2.2.1.length:Int)=5
 rotate_left
 ·have hf:(gx w.1&&(decide (0≤w.2.1)&&(decide (0≤w.2.2.2.2.2.2.2.2.1)&&(bI w.2.2.1 0 99899&&(eQ k w&&(decide ((w.2.2.2.2.1.length:Int)=w.1.2.2.1)&&(decide ((w.2.2.2.2.2.2.2.2.2.2.2.2.1.length:Int)=5)&&(ck w.2.2.2.2.2.1&&(ck w.2.2.2.2.2.2.2.2.2.2.2.1&&
   (qe w.2.2.2.2.1&&(jY k w&&(fo k w&&(gu k w&&dQ w)))))))))))))=false:=by
   rw[Bool.eq_false_iff]
   intro h
   simp only[Bool.and_eq_true,decide_eq_true_eq]at h
   exact hall ⟨h.1,h.2.1,h.2.2.1,h.2.2.2.1,h.2.2.2.2.2.2.1⟩
  rw[hf]
  refine(if_pos ?_).trans rfl
  have hq:¬(gx w.1=true∧decide (0≤w.2.1)=true∧decide (0≤w.2.2.2.2.2.2.2.2.1)=true∧bI w.2.2.1 0 99899=true∧decide ((w.2.2.2.2.2.2.2.2.2.2.2.2.1.length:Int)=5)=true):=by
   simpa only[decide_eq_true_eq]using hall
  generalize gx w.1=b1 at hq⊢
  generalize decide (0≤w.2.1)=b2 at hq⊢
  generalize decide (0≤w.2.2.2.2.2.2.2.2.1)=b3 at hq⊢
  generalize bI w.2.2.1 0 99899=b4 at hq⊢
  generalize decide ((w.2.2.2.2.2.2.2.2.2.2.2.2.1.length:Int)=5)=b7 at hq⊢
  clear hall hf
  cases b1
  ·rfl
  cases b2
  ·rfl
  cases b3
  ·rfl
  cases b4
  ·rfl
  cases b7
  ·rfl
  exact absurd ⟨rfl,rfl,rfl,rfl,rfl⟩ hq
 obtain⟨h1,h2,h3,h4,h7⟩:=hall
 have hcap:w.1.2.1≤8:=by
  unfold gx bI at h1
  simp only[Bool.and_eq_true,decide_eq_true_eq]at h1
  omega
 rw[h1,decide_eq_true h2,decide_eq_true h3,h4,decide_eq_true h7]
 simp only[Bool.true_and]
 refine(rO rfl).trans ?_
 rw[Aj hk hs hcap,Option.bind_some]
 rcases Bool.eq_false_or_eq_true (eQ k w)with h5|h5
 rotate_left
 ·rw[h5];rfl
 have hst:iB k w.2.2.2.1=true∧(w.2.2.2.1.length:Int)=w.1.1:=by
  unfold eQ at h5
  simp only[Bool.and_eq_true,decide_eq_true_eq]at h5
  exact⟨h5.1,h5.2.1⟩
 rw[h5,Bl hk w3,jo hk w4,jo hk w7,zE hk hs hst.2,zP hk hs,zb hk hs (by omega)]
 generalize decide ((w.2.2.2.2.1.length:Int)=w.1.2.2.1)=c1
 generalize ck w.2.2.2.2.2.1=c2
 generalize ck w.2.2.2.2.2.2.2.2.2.2.2.1=c3
 generalize qe w.2.2.2.2.1=c4
 generalize jY k w=c5
 generalize fo k w=c6
 generalize gu k w=c7
 generalize dQ w=c8
 clear h5 hst
 cases c4<;>cases c1<;>cases c2<;>cases c3<;>cases c5<;>cases c6<;>cases c7<;>first|rfl|(cases c8<;>rfl)
end
end Vg.Tryz
namespace Vg.Tryz
open Go Vg
set_option linter.unusedVariables false
set_option linter.unusedSectionVars false
set_option linter.unusedSimpArgs false
section
variable {k:Nat} (hk:9223372036854775808≤k)
include hk
theorem Qm {l:List aJ} (h:ag (.sl aj) l≤1073741824):ph k (l,())=some (l,()):=
 zF (d:=aj.aa) (S:=iF k) hk (Nat.le_trans (aA (e:=aj)) h) (fun e he=>Qo hk (Nat.le_trans (bo (e:=aj) he) h))
theorem K5 {l:List aJ} (h:ag (.sl aj) l≤1073741824):mu k (l,())=some (l,()):=
 EM (d:=aj.aa) (S:=gk k) hk (Nat.le_trans (aA (e:=aj)) h) (fun e he=>Mm hk (Nat.le_trans (bo (e:=aj) he) h))
end
end Vg.Tryz
namespace Vg.Tryz
open Go Vg
set_option linter.unusedVariables false
set_option linter.unusedSectionVars false
set_option linter.unusedSimpArgs false
section
variable {k:Nat} (hk:9223372036854775808≤k)
include hk
theorem QS {c:aZ} (h:ag ay c≤1073741824):ni k (c,())=some (c,()):=by
 have h1:=ew hk c
 simp only[ni]
 rw[jg hk (by omega),Option.bind_some]
theorem NA {c:aZ} (h:ag ay c≤1073741824):jx k (c,())=some (c,()):=by
 have h1:=ew hk c
 simp only[jx]
 rw[ed hk (by omega),Option.bind_some]
theorem Ra {p:aG} (h:ag ak p≤1073741824):jL k (p,())=some (p,()):=by
 have h1:=dF hk p
 have hl:=aA (e:=ay) (l:=p.2.2)
 simp only[jL]
 refine cB (fun i=>(p,(0,(0,([]:List aZ))),(p.1,p.2.1,p.2.2.take i),(i:Int),())) p.2.2.length (fun G i hi=> ?_) (fun G=> ?_) k 0 (by omega) (by omega)
 ·have hm:=bo (e:=ay) (cj (d:=ay.aa) hi)
  simp only[aw,aK hi,hi,decide_true,if_true,Int.toNat_natCast]
  rw[QS hk (by omega),Option.bind_some,if_pos (by simp;omega),bc (by omega),fP ay.aa hi]
 ·simp
theorem Oi {p:aG} (h:ag ak p≤1073741824):gG k (p,())=some (p,()):=by
 have h1:=dF hk p
 have hl:=aA (e:=ay) (l:=p.2.2)
 simp only[gG]
 refine cB (fun i=>(p,(0,(0,([]:List aZ))),(p.1,p.2.1,p.2.2.take i),p.2.2,(p.2.2.length:Int),(i:Int),())) p.2.2.length (fun G i hi=> ?_) (fun G=> ?_) k 0 (by omega) (by omega)
 ·have hm:=bo (e:=ay) (cj (d:=ay.aa) hi)
  simp only[aw,aK hi,hi,decide_true,if_true,Int.toNat_natCast]
  rw[NA hk (by omega),Option.bind_some,if_pos (by simp;omega),bc (by omega),fP ay.aa hi]
 ·simp
theorem RN {l:List aG} (h:ag (.sl ak) l≤1073741824):qD k (l,())=some (l,()):=
 zF (d:=ak.aa) (S:=jL k) hk (Nat.le_trans (aA (e:=ak)) h) (fun e he=>Ra hk (Nat.le_trans (bo (e:=ak) he) h))
theorem MG {l:List aG} (h:ag (.sl ak) l≤1073741824):np k (l,())=some (l,()):=
 EM (d:=ak.aa) (S:=gG k) hk (Nat.le_trans (aA (e:=ak)) h) (fun e he=>Oi hk (Nat.le_trans (bo (e:=ak) he) h))
theorem Rn {s:bF} (h:ag aU s≤1073741824):jQ k (s,())=some (s,()):=by
 have h1:=nH hk s
 simp only[jQ]
 rw[jg hk (by omega),Option.bind_some]
theorem Qa {s:bF} (h:ag aU s≤1073741824):iS k (s,())=some (s,()):=by
 have h1:=nH hk s
 simp only[iS]
 rw[ed hk (by omega),Option.bind_some]
theorem Ss {l:List bF} (h:ag (.sl aU) l≤1073741824):sR k (l,())=some (l,()):=
 zF (d:=aU.aa) (S:=jQ k) hk (Nat.le_trans (aA (e:=aU)) h) (fun e he=>Rn hk (Nat.le_trans (bo (e:=aU) he) h))
theorem N3 {l:List bF} (h:ag (.sl aU) l≤1073741824):om k (l,())=some (l,()):=
 EM (d:=aU.aa) (S:=iS k) hk (Nat.le_trans (aA (e:=aU)) h) (fun e he=>Qa hk (Nat.le_trans (bo (e:=aU) he) h))
theorem LB {l:List bl} (h:l.length≤1073741824):ik k (l,())=some (l,()):=by
 simp only[ik]
 rw[if_pos (by simp;omega)]
 simp
theorem Np {b:bz} (h:ag aN b≤1073741824):jq k (b,())=some (b,()):=by
 have h1:=nO hk b
 have h2:=aA (e:=af) (l:=b.2.1)
 simp only[jq]
 rw[lE hk (by omega),Option.bind_some,ed hk (by omega),Option.bind_some]
theorem Gy {t:aL} (h:ag ah t≤1073741824):ir k (t,())=some (t,()):=by
 have h1:=dH hk t
 have h2:=aA (e:=af) (l:=t.2.2.2.1)
 have h3:=aA (e:= .int .i64) (l:=t.2.2.2.2.2.1)
 simp only[ir]
 rw[nK hk (by omega),Option.bind_some,if_pos (by simp;omega),if_pos (by simp;omega),jg hk (by omega),Option.bind_some]
 simp
theorem N1 {t:aL} (h:ag ah t≤1073741824):ku k (t,())=some (t,()):=by
 have h1:=dH hk t
 have h2:=aA (e:=af) (l:=t.2.2.2.1)
 have h3:=aA (e:= .int .i64) (l:=t.2.2.2.2.2.1)
 simp only[ku]
 rw[nW hk (by omega),Option.bind_some,lE hk (by omega),Option.bind_some,if_pos (by simp;omega),ed hk (by omega),Option.bind_some]
 simp
theorem PV {d:bg} (h:ag aq d≤1073741824):iO k (d,())=some (d,()):=by
 have h1:=kN hk d
 have h2:=aA (e:=af) (l:=d.2.2.2.1)
 simp only[iO]
 rw[nK hk (by omega),Option.bind_some,if_pos (by simp;omega),jg hk (by omega),Option.bind_some]
 simp
theorem OT {d:bg} (h:ag aq d≤1073741824):kE k (d,())=some (d,()):=by
 have h1:=kN hk d
 have h2:=aA (e:=af) (l:=d.2.2.2.1)
 simp only[kE]
 rw[nW hk (by omega),Option.bind_some,lE hk (by omega),Option.bind_some,ed hk (by omega),Option.bind_some]
theorem RP {l:List bg} (h:ag (.sl aq) l≤1073741824):qH k (l,())=some (l,()):=
 zF (d:=aq.aa) (S:=iO k) hk (Nat.le_trans (aA (e:=aq)) h) (fun e he=>PV hk (Nat.le_trans (bo (e:=aq) he) h))
theorem MY {b:bz} (h:ag aN b≤1073741824):gO k (b,())=some (b,()):=by
 have h1:=nO hk b
 exact Oz hk (by omega) (by omega)
theorem QH {w:ar} (hs:ag aE w≤1073741824):lL k (w,())=some (w,()):=by
 have ht:=gK hk w
 obtain⟨c,tm,now,st,sb,fd,gh,gr,nn,hp,sk,sd,tk,dd⟩:=w
 simp only at ht
 have h1:=aA (e:=aC) (l:=hp)
 have h2:=aA (e:=aN) (l:=sk)
 have h3:=aA (e:=ah) (l:=tk)
 simp only[lL,aP]
 rw[P7 hk (by omega),Option.bind_some,RN hk (by omega),Option.bind_some,Ss hk (by omega),Option.bind_some,jg hk (by omega),Option.bind_some,Qm hk (by omega),Option.bind_some,if_pos (by simp;omega)]
 simp only[List.nil_append]
 refine cB (fun i=>((c,tm,now,st,sb,fd,gh,gr,nn,hp,sk,sd,tk,dd),_,(c,tm,now,st,sb,fd,gh,gr,nn,hp,sk.take i,sd,tk,dd),c,(i:Int),())) sk.length (fun G i hi=> ?_) (fun G=> ?_) k 0 (by omega) (by omega)
 ·have hm:=bo (e:=aN) (cj (d:=aN.aa) hi)
  simp only[aw,aK hi,hi,decide_true,if_true,Int.toNat_natCast]
  rw[MY hk (by omega),Option.bind_some,if_pos (by simp;omega),bc (by omega),fP aN.aa hi]
 ·simp only[aw,Nat.lt_irrefl,decide_false,Bool.false_eq_true,if_false,List.take_length]
  rw[jg hk (by omega),Option.bind_some]
  refine cB (fun i=>((c,tm,now,st,sb,fd,gh,gr,nn,hp,sk,sd,tk,dd),_,(c,tm,now,st,sb,fd,gh,gr,nn,hp,sk,sd,tk.take i,dd),c,(i:Int),())) tk.length (fun G i hi=> ?_) (fun G=> ?_) k 0 (by omega) (by omega)
  ·have hm:=bo (e:=ah) (cj (d:=ah.aa) hi)
   simp only[aw,aK hi,hi,decide_true,if_true,Int.toNat_natCast]
   rw[Gy hk (by omega),Option.bind_some,if_pos (by simp;omega),bc (by omega),fP ah.aa hi]
  ·simp only[aw,Nat.lt_irrefl,decide_false,Bool.false_eq_true,if_false,List.take_length]
   rw[RP hk (by omega),Option.bind_some]
theorem Ns {w:ar} (hs:ag aE w≤1073741824):eT k (w,())=some (w,()):=by
 have ht:=gK hk w
 obtain⟨c,tm,now,st,sb,fd,gh,gr,nn,hp,sk,sd,tk,dd⟩:=w
 simp only at ht
 have h1:=aA (e:=aC) (l:=hp)
 have h2:=aA (e:=aN) (l:=sk)
 have h3:=aA (e:=ah) (l:=tk)
 have h4:=aA (e:=aq) (l:=dd)
 simp only[eT,aP]
 rw[OB hk (by omega),Option.bind_some,MG hk (by omega),Option.bind_some,N3 hk (by omega),Option.bind_some,ed hk (by omega),Option.bind_some,ed hk (by omega),Option.bind_some,
  K5 hk (by omega),Option.bind_some,LB hk (by omega),Option.bind_some]
 refine cB (fun i=>((c,tm,now,st,sb,fd,gh,gr,nn,hp,sk,sd,tk,dd),_,sk.take i,sk,(sk.length:Int),(i:Int),())) sk.length (fun G i hi=> ?_) (fun G=> ?_) k 0 (by omega) (by omega)
 ·have hm:=bo (e:=aN) (cj (d:=aN.aa) hi)
  simp only[aw,aK hi,hi,decide_true,if_true,Int.toNat_natCast]
  rw[Np hk (by omega),Option.bind_some,if_pos (by simp;omega),bc (by omega),fP aN.aa hi]
 ·simp only[aw,Nat.lt_irrefl,decide_false,Bool.false_eq_true,if_false,List.take_length]
  refine cB (fun i=>((c,tm,now,st,sb,fd,gh,gr,nn,hp,sk,sd,tk,dd),_,sk,tk.take i,tk,(tk.length:Int),(i:Int),())) tk.length (fun G i hi=> ?_) (fun G=> ?_) k 0 (by omega) (by omega)
  ·have hm:=bo (e:=ah) (cj (d:=ah.aa) hi)
   simp only[aw,aK hi,hi,decide_true,if_true,Int.toNat_natCast]
   rw[N1 hk (by omega),Option.bind_some,if_pos (by simp;omega),bc (by omega),fP ah.aa hi]
  ·simp only[aw,Nat.lt_irrefl,decide_false,Bool.false_eq_true,if_false,List.take_length]
   refine cB (fun i=>((c,tm,now,st,sb,fd,gh,gr,nn,hp,sk,sd,tk,dd),_,sk,tk,dd.take i,dd,(dd.length:Int),(i:Int),())) dd.length (fun G i hi=> ?_) (fun G=> ?_) k 0 (by omega) (by omega)
   ·have hm:=bo (e:=aq) (cj (d:=aq.aa) hi)
    simp only[aw,aK hi,hi,decide_true,if_true,Int.toNat_natCast]
    rw[OT hk (by omega),Option.bind_some,if_pos (by simp;omega),bc (by omega),fP aq.aa hi]
   ·simp only[aw,Nat.lt_irrefl,decide_false,Bool.false_eq_true,if_false,List.take_length]
end
end Vg.Tryz
namespace Vg.Tryz
open Go Vg
set_option linter.unusedVariables false
set_option linter.unusedSectionVars false
set_option linter.unusedSimpArgs false
section
variable {k:Nat} (hk:9223372036854775808≤k)
include hk
end
end Vg.Tryz
namespace Vg.Tryz
open Go Vg
set_option linter.unusedVariables false
set_option linter.unusedSectionVars false
set_option linter.unusedSimpArgs false
abbrev iQ (w:ar):List aL:=w.2.2.2.2.2.2.2.2.2.2.2.2.1
abbrev gA (w:ar):List bg:=w.2.2.2.2.2.2.2.2.2.2.2.2.2
def Fv (w:ar) (t:List aL) (d:List bg):ar:=
 (w.1,IntKind.i64.wrap (w.2.1+1),w.2.2.1,w.2.2.2.1,w.2.2.2.2.1,w.2.2.2.2.2.1,w.2.2.2.2.2.2.1,w.2.2.2.2.2.2.2.1,w.2.2.2.2.2.2.2.2.1,w.2.2.2.2.2.2.2.2.2.1,w.2.2.2.2.2.2.2.2.2.2.1,w.2.2.2.2.2.2.2.2.2.2.2.1,t,d)
def S5 (t:aL) (h:Int):aL:=(t.1,t.2.1,t.2.2.1,t.2.2.2.1,t.2.2.2.2.1,t.2.2.2.2.2.1,t.2.2.2.2.2.2.1,t.2.2.2.2.2.2.2.1,h)
def opened (w:ar) (i op:Int) (a:al) (l:List ai) (n:Int):bg:=(op,i,a,l,0,n,0,[],w.2.2.1,w.2.1,-1,-1)
def M3 (w:ar) (i:Int) (t:aL) (op:Int):ar:=
 Fv w ((iQ w).set i.toNat (S5 t (gA w).length)) (gA w++[opened w i op t.2.2.1 t.2.2.2.1 t.2.2.2.2.2.2.2.1])
def xy (w:ar) (i:Int):Bool:=bI i 0 (((iQ w).length:Int)-1)&&decide (((iQ w).getD i.toNat ah.aa).1=0)
def j9 (w:ar) (i:Int):Bool:=bI i 0 2&&xy w i
def S7:al:=([],0,0,ByteArray.empty)
def rB (l:List ai):aL:=(2,0,S7,l,0,[],[],0,0)
def Sy (k:Nat) (w:ar) (i:Int):Bool:=pg k w&&j9 w i
def Fb (k:Nat) (w:ar) (i:Int) (l:List ai):Bool:=Sy k w i&&ee l
def lookW (k:Nat) (w:ar) (i:Int) (l:List ai):ar:=if Fb k w i l=true then M3 w i (rB l) 3 else w
theorem Kr {w:ar} {i:Int} (h:j9 w i=true):0≤i∧i≤2∧i.toNat<(iQ w).length:=by
 unfold j9 xy bI at h
 simp only[Bool.and_eq_true,decide_eq_true_eq]at h
 omega
theorem Uw:ag (.sl af) ([]:List ai)=0:=rfl
theorem SO:ag (.sl ab) ([]:List al)=0:=rfl
theorem Un:ag (.sl (.int .i64)) ([]:List Int)=0:=rfl
section
variable {k:Nat} (hk:9223372036854775808≤k)
include hk
theorem rq {w:ar} (hs:ag aE w≤1048576):(iQ w).length≤1048576∧(gA w).length≤1048576:=by
 obtain⟨w1,w2,w3,w4,w5,w6,w7,w8,w9⟩:=dO hk hs
 exact⟨Nat.le_trans (aA (e:=ah)) w8,Nat.le_trans (aA (e:=aq)) w9⟩
theorem M1 {w:ar} {i:Int} (hs:ag aE w≤1048576):pO k (w,i,())=some (xy w i,()):=by
 have hl:w.2.2.2.2.2.2.2.2.2.2.2.2.1.length≤1048576:=(rq hk hs).1
 simp only[pO]
 rw[pP (by omega),fc hk,Option.bind_some]
 simp only[xy,iQ]
 by_cases h:bI i 0 ((w.2.2.2.2.2.2.2.2.2.2.2.2.1.length:Int)-1)=true
 ·have h':=h
  unfold bI at h'
  simp only[Bool.and_eq_true,decide_eq_true_eq]at h'
  rw[h]
  refine(if_pos (by simp;omega)).trans ?_
  simp[bZ]
 ·rw[Bool.not_eq_true]at h
  rw[h]
  exact(if_pos rfl).trans rfl
theorem Nc {w:ar} {i:Int} (hs:ag aE w≤1048576):pV k (w,i,())=some (xy w i,()):=by
 have hl:w.2.2.2.2.2.2.2.2.2.2.2.2.1.length≤1048576:=(rq hk hs).1
 simp only[pV]
 rw[pP (by omega),ez hk,Option.bind_some]
 simp only[xy,iQ]
 by_cases h:bI i 0 ((w.2.2.2.2.2.2.2.2.2.2.2.2.1.length:Int)-1)=true
 ·have h':=h
  unfold bI at h'
  simp only[Bool.and_eq_true,decide_eq_true_eq]at h'
  rw[h]
  refine(if_pos (by simp;omega)).trans ?_
  simp[bZ]
 ·rw[Bool.not_eq_true]at h
  rw[h]
  exact(if_pos rfl).trans rfl
theorem IM {w:ar} {i:Int} (hs:ag aE w≤1048576):mH k (w,i,())=some (j9 w i,()):=by
 simp only[mH,ez hk,Nc hk hs,Option.bind_some]
 unfold j9
 cases bI i 0 2<;>simp
theorem LW {w:ar} {d:bg} (hs:ag aE w≤1048576):gY k (w,d,())=
 some (((gA w).length:Int),(w.1,w.2.1,w.2.2.1,w.2.2.2.1,w.2.2.2.2.1,w.2.2.2.2.2.1,w.2.2.2.2.2.2.1,w.2.2.2.2.2.2.2.1,w.2.2.2.2.2.2.2.2.1,w.2.2.2.2.2.2.2.2.2.1,w.2.2.2.2.2.2.2.2.2.2.1,w.2.2.2.2.2.2.2.2.2.2.2.1,iQ w,
  gA w++[(d.1,d.2.1,d.2.2.1,d.2.2.2.1,d.2.2.2.2.1,d.2.2.2.2.2.1,d.2.2.2.2.2.2.1,d.2.2.2.2.2.2.2.1,w.2.2.1,w.2.1,-1,-1)]),()):=by
 have hl:w.2.2.2.2.2.2.2.2.2.2.2.2.2.length≤1048576:=(rq hk hs).2
 simp only[gY]
 rw[if_pos (by simp;omega)]
 have e:IntKind.i64.wrap ((((gA w++[(d.1,d.2.1,d.2.2.1,d.2.2.2.1,d.2.2.2.2.1,d.2.2.2.2.2.1,d.2.2.2.2.2.2.1,d.2.2.2.2.2.2.2.1,w.2.2.1,w.2.1,-1,-1)]).length:Nat):Int)-1)=((gA w).length:Int):=by
  rw[List.length_append,List.length_singleton,pP (by simp only[gA];omega)]
  omega
 rw[e]
theorem K3 {w:ar} {i:Int} {t:aL} {d:bg} (hs:ag aE w≤1048576):gU k (w,i,t,d,())=
 some (if j9 w i=true then(true,Fv w ((iQ w).set i.toNat (S5 t (gA w).length)) (gA w++[(d.1,i,d.2.2.1,d.2.2.2.1,d.2.2.2.2.1,d.2.2.2.2.2.1,d.2.2.2.2.2.2.1,d.2.2.2.2.2.2.2.1,w.2.2.1,w.2.1,-1,-1)]),())else(false,w,())):=by
 simp only[gU,IM hk hs,Option.bind_some]
 by_cases hc:j9 w i=true
 ·obtain⟨h1,h2,h3⟩:=Kr hc
  rw[hc,if_neg (by simp),if_pos rfl,LW hk hs,Option.bind_some]
  refine(if_pos (by simp;omega)).trans ?_
  rfl
 ·rw[Bool.not_eq_true]at hc
  rw[hc]
  exact(if_pos rfl).trans (by simp)
theorem Iq {op:Int} (h0:0≤op) (h1:op≤6):ep k (op,())=some (List.getD [0,1,3,4,6,7,8] op.toNat 0,()):=by
 simp only[ep]
 rw[if_pos (by simp;omega)]
theorem LU {w:ar} {i:Int} {t:aL} (hs:ag aE w≤1048576) (ht:ag ah t≤1048576) (h0:0≤t.1) (h1:t.1≤6) (hi:0≤i) (hi2:i.toNat<w.2.2.2.2.2.2.2.2.2.2.2.2.1.length):
 kt k (w,i,t,())=some (M3 w i t (List.getD [0,1,3,4,6,7,8] t.1.toNat 0),()):=by
 have hl:w.2.2.2.2.2.2.2.2.2.2.2.2.2.length≤1048576:=(rq hk hs).2
 have hT:=dH hk t
 have h2:=aA (e:=af) (l:=t.2.2.2.1)
 simp only[kt,oz]
 rw[Gy hk (by omega),Option.bind_some]
 simp only[Iq hk h0 h1,nK hk (a:=t.2.2.1) (by omega),Option.bind_some,List.nil_append,List.length_nil,Nat.zero_add,List.length_singleton]
 rw[if_pos (by simp;omega),if_pos (by simp;omega),if_pos (by simp;omega),Option.bind_some]
 rfl
theorem Nt {w:ar} {i:Int} {l:List ai} (hs:ag aE w≤1048576) (hl:ag (.sl af) l≤1048576):pQ k (w,i,l,())=some (lookW k w i l,Fb k w i l,()):=by
 simp only[pQ,QH hk (w:=w) (by omega),Hl hk hs,fc hk,M1 hk hs,jO hk hl,Option.bind_some]
 unfold lookW Fb Sy j9
 by_cases hw:pg k w=true
 rotate_left
 ·rw[Bool.not_eq_true]at hw;simp[hw]
 by_cases hn:bI i 0 2=true
 rotate_left
 ·rw[Bool.not_eq_true]at hn;simp[hw,hn]
 by_cases hd:xy w i=true
 rotate_left
 ·rw[Bool.not_eq_true]at hd;simp[hw,hn,hd]
 by_cases hz:ee l=true
 rotate_left
 ·rw[Bool.not_eq_true]at hz;simp[hw,hn,hd,hz]
 obtain⟨q1,q2,q3⟩:=Kr (w:=w) (i:=i) (by unfold j9;rw[hn,hd];rfl)
 have:=LU hk (w:=w) (i:=i) (t:=rB l) hs (by rw[dH hk];simp[rB,S7,ag]at hl⊢;omega) (show(0:Int)≤2 by decide) (show(2:Int)≤6 by decide) q1 q3
 simp only[hw,hn,hd,hz,Bool.not_true,beq_self_eq_true,if_true,Option.bind_some,Bool.false_eq_true,if_false,Bool.and_self]
 exact(congrArg (fun o=>Option.bind o _) this).trans rfl
theorem zi {w:ar} {i:Int} {l:List ai} (hs:ag aE w≤1048576) (hl:ag (.sl af) l≤1048576):mD k (w,i,l,())=some (lookW k w i l,Fb k w i l,()):=by
 have h2:=aA (e:=af) (l:=l)
 simp only[mD,mi,Ns hk (w:=w) (by omega),F4 hk hs,K3 hk hs,jC hk hl,lE hk (l:=l) (by omega),Option.bind_some]
 unfold lookW Fb Sy
 by_cases hw:pg k w=true
 rotate_left
 ·rw[Bool.not_eq_true]at hw;simp[hw]
 by_cases hz:ee l=true
 rotate_left
 ·rw[Bool.not_eq_true]at hz;simp[hw,hz]
 by_cases hc:j9 w i=true
 ·simp only[hw,hc,hz,Bool.not_true,beq_self_eq_true,if_true,Bool.false_eq_true,if_false,Bool.and_self,Option.bind_some]
  rfl
 ·rw[Bool.not_eq_true]at hc
  simp[hw,hc,hz]
theorem Qn {w:ar} {t:List aL} {d:List bg} {m n:Nat} (h1:ag (.sl ah) t≤ag (.sl ah) (iQ w)+m) (h2:ag (.sl aq) d≤ag (.sl aq) (gA w)+n):ag aE (Fv w t d)≤ag aE w+m+n:=by
 rw[gK hk,gK hk]
 simp only[Fv]
 simp only[iQ,gA]at h1 h2
 omega
theorem Th {e:Ty} {l:List e.den} {x:e.den}:ag (.sl e) (l++[x])=ag (.sl e) l+(1+ag e x):=by
 rw[Ig,fB,O5];omega
theorem P3 {w:ar} {i op:Int} {t:aL}:ag aE (M3 w i t op)≤ag aE w+ag ah t+(1+(ag ab t.2.2.1+ag (.sl af) t.2.2.2.1)):=by
 refine Qn hk ?_ ?_
 ·by_cases h:i.toNat<(iQ w).length
  ·have:=Pg (e:=ah) (iQ w) i.toNat (S5 t (gA w).length) h
   have e:ag ah (S5 t (gA w).length)=ag ah t:=by rw[dH hk,dH hk];rfl
   omega
  ·rw[List.set_eq_of_length_le (by omega)];omega
 ·rw[Th hk,kN hk]
  simp only[opened,SO]
  omega
theorem Rv {w:ar} {i:Int} {l:List ai}:ag aE (lookW k w i l)≤ag aE w+2*ag (.sl af) l+8:=by
 unfold lookW
 split
 ·have:=P3 hk (w:=w) (i:=i) (op:=3) (t:=rB l)
  have e:ag ah (rB l)=ag (.sl af) l:=by rw[dH hk,ch hk];simp only[rB,S7,Uw,SO,Un];simp
  have e2:ag ab (rB l).2.2.1=0:=by rw[ch hk];simp only[rB,S7,Uw,SO,Un];rfl
  have e3:ag (.sl af) (rB l).2.2.2.1=ag (.sl af) l:=rfl
  omega
 ·omega
end
end Vg.Tryz
namespace Vg.Tryz
open Go Vg
set_option linter.unusedVariables false
set_option linter.unusedSectionVars false
set_option linter.unusedSimpArgs false
section
variable {k:Nat} (hk:9223372036854775808≤k)
include hk
set_option maxHeartbeats 2000000 in
theorem SC {x:ar×Int×List ai×Unit} (h_w:Fits aE x.1) (h_l:Fits (.sl af) x.2.2.1):kT k x=some (true,()):=by
 obtain⟨w,i,l,u⟩:=x
 simp only at h_w
 simp only at h_l
 unfold kT
 refine(bind_eq (PD hk h_w (by omega) (by omega)) _).trans ?_
 by_cases q0:bG (ag aE w) 1048576<0
 ·rw[if_pos (by simpa using q0)]
 refine(br (by simpa using q0)).trans ?_
 dsimp only
 refine(bind_eq (kh hk h_l (cC q0).1 (by have:=dU (t:=ag aE w) (left:=1048576) (by omega);omega)) _).trans ?_
 rw[cW q0]
 by_cases q1:bG (ag aE w+ag (.sl af) l) 1048576<0
 ·rw[if_pos (by simpa using q1)]
 refine(br (by simpa using q1)).trans ?_
 have hsz:=(cC q1).2
 have t1:=Rv hk (w:=w) (i:=i) (l:=l)
 obtain⟨n0,v0_0,v0_1,v0_2,v0_3,v0_4,v0_5,v0_6,v0_7,v0_8,v0_9,m0,p0,r0,w0⟩:=zy hk w 1 (by omega) (by unfold bw;omega)
 have z0:decide (n0<0)=false:=by simp;omega
 obtain⟨n1,y1,m1,p1,r1,w1⟩:=eI hk l n0 (by omega) (by unfold bw;omega)
 have z1:decide (n1<0)=false:=by simp;omega
 obtain⟨n2,v2_0,v2_1,v2_2,v2_3,v2_4,v2_5,v2_6,v2_7,v2_8,v2_9,m2,p2,r2,w2⟩:=zy hk (lookW k w i l) 1 (by omega) (by unfold bw;omega)
 have z2:decide (n2<0)=false:=by simp;omega
 refine(bind_eq (rz hk (x:=w) (by omega)) _).trans ?_
 refine(bind_eq (fg hk (x:=l) (by omega)) _).trans ?_
 refine(bind_eq (Nt hk (w:=w) (i:=i) (l:=l) (by omega) (by omega)) _).trans ?_
 refine(bind_eq (rz hk (x:=w) (by omega)) _).trans ?_
 refine(bind_eq (fg hk (x:=l) (by omega)) _).trans ?_
 refine(bind_eq (zi hk (w:=w) (i:=i) (l:=l) (by omega) (by omega)) _).trans ?_
 refine(bind_eq (rD hk (x:=lookW k w i l) (by omega)) _).trans ?_
 refine(br (by simp[z0,z1,z2])).trans ?_
 refine(bind_eq (rz hk (x:=w) (by omega)) _).trans ?_
 refine(bind_eq (rD hk (x:=w) (by omega)) _).trans ?_
 refine(br (by simp[z0,z1,z2])).trans ?_
 refine(bind_eq (fg hk (x:=l) (by omega)) _).trans ?_
 refine(bind_eq (j8 hk (x:=l) (by omega)) _).trans ?_
 refine(br (by simp[z0,z1,z2])).trans ?_
 refine(bind_eq m0 _).trans ?_
 refine(bind_eq m1 _).trans ?_
 refine(bind_eq (r:=(true,())) ((if_pos (by simp[z0,z1,z2])).trans (rD hk (x:=lookW k w i l) (by omega))) _).trans ?_
 refine(br (by simp[z0,z1,z2])).trans ?_
 refine(bind_eq m2 _).trans ?_
 refine(bind_eq w2 _).trans ?_
 refine(br (by simp[z0,z1,z2])).trans ?_
 refine(br (by simp[z0,z1,z2])).trans ?_
 refine(bind_eq (rz hk (x:=w) (by omega)) _).trans ?_
 refine(bind_eq (fg hk (x:=l) (by omega)) _).trans ?_
 refine(bind_eq (zi hk (w:=w) (i:=i) (l:=l) (by omega) (by omega)) _).trans ?_
 refine(bind_eq (rD hk (x:=lookW k w i l) (by omega)) _).trans ?_
 refine(br (by simp[z0,z1,z2])).trans ?_
 refine(bind_eq w2 _).trans ?_
 refine(br (by simp[z0,z1,z2])).trans ?_
 refine(br (by simp[z0,z1,z2])).trans ?_
 rfl
end
end Vg.Tryz
