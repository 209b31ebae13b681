/- Texts of this law, joined. -/
import Derived.Test.YteoefigcipiffaaGreatQ1
import Derived.Test.YteoefigcipiffaaGreatVd
set_option linter.unusedSimpArgs false
set_option linter.unusedVariables false
namespace Vg.Tryz
open Go Vg
set_option linter.unusedVariables false
set_option linter.unusedSectionVars false
set_option linter.unusedSimpArgs false
theorem tQ {α:Type} [DecidableEq α]:∀(l m:List α),allEq (fun a b=>decide (a=b)) l m=decide (l=m)
 | [],[]=>by simp[allEq]
 | [],_::_=>by simp[allEq]
 |_::_,[]=>by simp[allEq]
 |a::l,b::m=>by simp only[allEq,tQ l m,List.cons.injEq,Bool.decide_and]
theorem yC (a b:ByteArray):(a.toList==b.toList)=decide (a=b):=by
 by_cases h:a=b
 ·simp[h]
 ·have:¬a.toList=b.toList:=fun e=>h (toList_inj e)
  simp[h,this]
instance iLabel:DecidableEq ai:=inferInstance
instance iLabels:DecidableEq (List ai):=inferInstance
instance iAlarm:DecidableEq al:= @instDecidableEqProd _ _ inferInstance inferInstance
instance iAlarms:DecidableEq (List al):=inferInstance
instance iTail:DecidableEq (List Int×(List al×bl)):=inferInstance
instance iTask:DecidableEq aL:= @instDecidableEqProd _ _ inferInstance (@instDecidableEqProd _ _ inferInstance (@instDecidableEqProd _ _ inferInstance (@instDecidableEqProd _ _ inferInstance (@instDecidableEqProd _ _ inferInstance inferInstance))))
def zT:aL:=(0,0,iE,[],0,[],[],0,0)
def sU (l:List Int):Bool:=bd 0 l.length (fun i=>decide (0≤l.getD i 0))
def AR (t:aL):Bool:=decide (t.2.2.2.2.1=0)&&decide (t.2.2.2.2.2.1=[])&&decide (t.2.2.2.2.2.2.1=[])
def gV (t:aL) (n:Int):Bool:=
 bI n 0 4&&decide (0≤t.2.2.2.2.2.2.2.2)&&
 ((decide (t.1=0)&&decide (t=zT))||
  (decide (t.1=1)&&decide (n<3)&&bI t.2.1 0 2&&bY t.2.2.1&&decide (t.2.2.2.1=[])&&AR t&&decide (t.2.2.2.2.2.2.2.1=0))||
  (decide (t.1=2)&&decide (n<3)&&bI t.2.1 0 1&&decide (t.2.2.1=iE)&&eJ t.2.2.2.1&&AR t&&decide (t.2.2.2.2.2.2.2.1=0))||
  (decide (t.1=3)&&decide (n<3)&&bI t.2.1 0 2&&decide (t.2.2.1=iE)&&decide (t.2.2.2.1=[])&&sU t.2.2.2.2.2.1&&decide ((t.2.2.2.2.2.1.length:Int)=t.2.2.2.2.1)&&cj t.2.2.2.2.2.2.1&&
   (if t.2.1=2 then bI t.2.2.2.2.1 1 3 else bI t.2.2.2.2.1 0 2)&&decide (t.2.2.2.2.2.2.2.1=0))||
  (decide (t.1=4)&&decide (n<3)&&bI t.2.1 0 1&&decide (t.2.2.1=iE)&&decide (t.2.2.2.1=[])&&bI t.2.2.2.2.1 0 2&&decide (t.2.2.2.2.2.1=[])&&decide (t.2.2.2.2.2.2.1=[])&&decide (t.2.2.2.2.2.2.2.1=0))||
  (decide (t.1=5)&&decide (n=3)&&bI t.2.1 0 1&&bY t.2.2.1&&decide (t.2.2.2.1=[])&&AR t&&decide (t.2.2.2.2.2.2.2.1=0))||
  (decide (t.1=6)&&decide (n=4)&&bI t.2.1 0 1&&decide (t.2.2.1=iE)&&decide (t.2.2.2.1=[])&&AR t&&decide (0≤t.2.2.2.2.2.2.2.1)))
def sB (k:Nat) (d:bg):Bool:=match gl k (d,())with|some r=>r.1|none=>false
def nN (k:Nat) (t:aL) (n:Int):Int:=
 if n<1 then-1
 else if t.1=1∧(t.2.1=1∨t.2.1=2)then dU (jf k t.2.2.1.1) n
 else if t.1=2∧t.2.1=1 then dU (jf k t.2.2.2.1) n
 else if(t.1=3∨t.1=4)∧t.2.1=1 then t.2.2.2.2.1
 else-1
def wA (t:aL):Bool:=(decide (t.1=5)||decide (t.1=6))&&decide (t.2.1=1)
section
variable {k:Nat} (hk:9223372036854775808≤k)
include hk
theorem eD {a b:al} (ha:a.1.length≤1048576):cT k (a,b,())=some (decide (a=b),()):=by
 obtain⟨a1,a2,a3,a4⟩:=a
 obtain⟨b1,b2,b3,b4⟩:=b
 simp only[cT,dT hk ha,Option.bind_some,bZ,yC,Prod.mk.injEq,Bool.decide_and]
 by_cases h1:a1=b1<;>by_cases h2:a2=b2<;>by_cases h3:a3=b3<;>simp[h1,h2,h3]
theorem ib {a b:al} (ha:a.1.length≤1048576):cR k (a,b,())=some (decide (a=b),()):=by
 obtain⟨a1,a2,a3,a4⟩:=a
 obtain⟨b1,b2,b3,b4⟩:=b
 simp only[cR,ew hk ha,Option.bind_some,bZ,yC,Prod.mk.injEq,Bool.decide_and]
 by_cases h1:a1=b1<;>by_cases h2:a2=b2<;>by_cases h3:a3=b3<;>simp[h1,h2,h3]
theorem jd {a:al} (h:ag ab a≤1048576):a.1.length≤1048576:=by
 rw[ch hk]at h
 have:=aA (e:=af) (l:=a.1)
 omega
theorem I7 {a b:List al} (ha:ag (.sl ab) a≤1048576):mG k (a,b,())=some (decide (a=b),()):=by
 rw[←tQ]
 have hl:=aA (e:=ab) (l:=a)
 exact Tg (d:=ab.aa) (S:=cT k) hk (by omega) (fun x hx y _=>eD hk (jd hk (Nat.le_trans (bo (e:=ab) hx) ha)))
theorem qx {a b:List al} (ha:ag (.sl ab) a≤1048576):fC k (a,b,())=some (decide (a=b),()):=by
 rw[←tQ]
 have hl:=aA (e:=ab) (l:=a)
 exact O5 (d:=ab.aa) (S:=cR k) hk (by omega) (fun x hx y _=>ib hk (jd hk (Nat.le_trans (bo (e:=ab) hx) ha)))
theorem DH {a b:List Int} (ha:a.length≤1048576):gy k (a,b,())=some (decide (a=b),()):=by
 rw[←tQ]
 refine Eq.trans ?_ (O5 (d:=(0:Int)) (S:=fun z=>some (decide ((z.1:Int)=z.2.1),())) (p:=fun a b=>decide (a=b)) hk (by omega) (fun x hx y _=>rfl))
 simp only[gy,Up,Option.bind_some,iX]
theorem DO {a b:aL} (ha:ag ah a≤1048576):gI k (a,b,())=some (decide (a=b),()):=by
 rw[dI hk]at ha
 have h1:=jd hk (a:=a.2.2.1) (by omega)
 have h2:=aA (e:=af) (l:=a.2.2.2.1)
 have h3:=aA (e:= .int .i64) (l:=a.2.2.2.2.2.1)
 have q1:∀b,cR k (a.2.2.1,b,())=some (decide (a.2.2.1=b),()):=fun b=>ib hk h1
 have q2:∀b,cK k (a.2.2.2.1,b,())=some (decide (a.2.2.2.1=b),()):=fun b=>ew hk (by omega)
 have q3:∀b,gy k (a.2.2.2.2.2.1,b,())=some (decide (a.2.2.2.2.2.1=b),()):=fun b=>DH hk (by omega)
 have q4:∀b,fC k (a.2.2.2.2.2.2.1,b,())=some (decide (a.2.2.2.2.2.2.1=b),()):=fun b=>qx hk (by omega)
 obtain⟨a1,a2,a3,a4,a5,a6,a7,a8,a9⟩:=a
 obtain⟨b1,b2,b3,b4,b5,b6,b7,b8,b9⟩:=b
 simp only at q1 q2 q3 q4
 simp only[gI,q1,q2,q3,q4,bL,Option.bind_some,bZ,Prod.mk.injEq,Bool.decide_and]
 by_cases e1:a1=b1
 ·by_cases e2:a2=b2
  ·by_cases e3:a3=b3
   ·by_cases e4:a4=b4
    ·by_cases e5:a5=b5
     ·by_cases e6:a6=b6
      ·by_cases e7:a7=b7
       ·by_cases e8:a8=b8<;>simp[e1,e2,e3,e4,e5,e6,e7,e8]
       ·simp[e1,e2,e3,e4,e5,e6,e7]
      ·simp[e1,e2,e3,e4,e5,e6]
     ·simp[e1,e2,e3,e4,e5]
    ·simp[e1,e2,e3,e4]
   ·simp[e1,e2,e3]
  ·simp[e1,e2]
 ·simp[e1]
theorem BE {t:aL} {n:Int} (hs:ag ah t≤1048576):jg k (t,n,())=some (nN k t n,()):=by
 rw[dI hk]at hs
 have ha:ag (.sl af) t.2.2.1.1≤1048576:=by
  have:=ch hk t.2.2.1
  omega
 simp only[jg,qz,iN hk ha,iN hk (l:=t.2.2.2.1) (by omega),lT hk,Option.bind_some,bZ]
 unfold nN
 by_cases hn:n<1
 ·simp[hn]
 ·by_cases p1:t.2.1=1
  ·by_cases h1:t.1=1
   ·simp[hn,p1,h1]
   ·by_cases h2:t.1=2
    ·simp[hn,p1,h1,h2]
    ·by_cases h3:t.1=3
     ·simp[hn,p1,h1,h2,h3]
     ·by_cases h4:t.1=4<;>simp[hn,p1,h1,h2,h3,h4]
  ·by_cases h1:t.1=1
   ·by_cases p2:t.2.1=2<;>simp[hn,p1,p2,h1]
   ·simp[hn,p1,h1]
theorem Bd {t:aL} {n:Int} (hs:ag ah t≤1048576):js k (t,n,())=some (nN k t n,()):=by
 rw[dI hk]at hs
 have ha:ag (.sl af) t.2.2.1.1≤1048576:=by
  have:=ch hk t.2.2.1
  omega
 simp only[js,iS hk ha,iS hk (l:=t.2.2.2.1) (by omega),iU hk,Option.bind_some,bZ]
 unfold nN
 by_cases hn:n<1
 ·simp[hn]
 ·by_cases p1:t.2.1=1
  ·by_cases h1:t.1=1
   ·simp[hn,p1,h1]
   ·by_cases h2:t.1=2
    ·simp[hn,p1,h1,h2]
    ·by_cases h3:t.1=3
     ·simp[hn,p1,h1,h2,h3]
     ·by_cases h4:t.1=4<;>simp[hn,p1,h1,h2,h3,h4]
  ·by_cases h1:t.1=1
   ·by_cases p2:t.2.1=2<;>simp[hn,p1,p2,h1]
   ·simp[hn,p1,h1]
theorem za {t:aL}:gD k (t,())=some (wA t,()):=by
 simp only[gD,wA,bZ]
 by_cases h1:t.1=5<;>by_cases h2:t.1=6<;>simp[h1,h2]
theorem yZ {t:aL}:gE k (t,())=some (wA t,()):=by
 simp only[gE,wA,bZ]
 by_cases h1:t.1=5<;>by_cases h2:t.1=6<;>simp[h1,h2]
theorem Ir {t:aL} (hs:ag ah t≤1048576):mM k (t,())=some (sU t.2.2.2.2.2.1&&(decide ((t.2.2.2.2.2.1.length:Int)=t.2.2.2.2.1)&&cj t.2.2.2.2.2.2.1&&(if t.2.1=2 then bI t.2.2.2.2.1 1 3 else bI t.2.2.2.2.1 0 2)),()):=by
 rw[dI hk]at hs
 have h3:=aA (e:= .int .i64) (l:=t.2.2.2.2.2.1)
 simp only[mM,aP]
 refine(bN (fun i:Nat=>(t,t.2.2.2.2.2.1,(t.2.2.2.2.2.1.length:Int),(i:Int),())) (fun i=>decide (0≤t.2.2.2.2.2.1.getD i 0)) t.2.2.2.2.2.1.length
  (e:=some (decide ((t.2.2.2.2.2.1.length:Int)=t.2.2.2.2.1)&&cj t.2.2.2.2.2.2.1&&(if t.2.1=2 then bI t.2.2.2.2.1 1 3 else bI t.2.2.2.2.1 0 2),())) (no:=some (false,())) ?_ ?_ k 0 (by omega)).trans ?_
 ·intro G i hi
  simp only[aw,aK hi,hi,decide_true,if_true,Int.toNat_natCast,rF]
  rw[aZ (by omega)]
  rcases Bool.eq_false_or_eq_true (decide (t.2.2.2.2.2.1.getD i 0<0))with h|h<;>simp only[h,if_true,Bool.false_eq_true,if_false,Bool.not_true,Bool.not_false]
 ·intro G i hi
  simp only[aw]
  rw[if_neg (by simp;omega)]
  simp only[jy hk (l:=t.2.2.2.2.2.2.1) (by omega),et hk,Option.bind_some,iX,bZ,bL]
  by_cases q:(t.2.2.2.2.2.1.length:Int)=t.2.2.2.2.1<;>by_cases p:t.2.1=2<;>cases hb:cj t.2.2.2.2.2.2.1<;>simp[q,p]
 ·unfold sU
  generalize bd 0 t.2.2.2.2.2.1.length _=b
  cases b<;>simp
theorem Es {t:aL} (hs:ag ah t≤1048576):lI k (t,())=some (sU t.2.2.2.2.2.1&&(decide ((t.2.2.2.2.2.1.length:Int)=t.2.2.2.2.1)&&(if t.2.1=2 then bI t.2.2.2.2.1 1 3 else bI t.2.2.2.2.1 0 2)),()):=by
 rw[dI hk]at hs
 have h3:=aA (e:= .int .i64) (l:=t.2.2.2.2.2.1)
 simp only[lI,aP]
 refine(bN (fun i:Nat=>(t,(i:Int),())) (fun i=>decide (0≤t.2.2.2.2.2.1.getD i 0)) t.2.2.2.2.2.1.length
  (e:=some (decide ((t.2.2.2.2.2.1.length:Int)=t.2.2.2.2.1)&&(if t.2.1=2 then bI t.2.2.2.2.1 1 3 else bI t.2.2.2.2.1 0 2),())) (no:=some (false,())) ?_ ?_ k 0 (by omega)).trans ?_
 ·intro G i hi
  simp only[aw,aK hi,hi,decide_true,if_true,Int.toNat_natCast,rF]
  rw[aZ (by omega)]
  rcases Bool.eq_false_or_eq_true (decide (t.2.2.2.2.2.1.getD i 0<0))with h|h<;>simp only[h,if_true,Bool.false_eq_true,if_false,Bool.not_true,Bool.not_false]
 ·intro G i hi
  simp only[aw]
  rw[if_neg (by simp;omega)]
  simp only[fc hk,Option.bind_some,bZ,bL]
  generalize t.2.2.2.2.2.1.length=n
  generalize t.2.2.2.2.1=m
  by_cases p:t.2.1=2<;>by_cases q:(n:Int)=m
  ·subst q;simp[p]
  ·have q2:¬m=(n:Int):=fun e=>q e.symm
   simp[p,q,q2]
  ·subst q;simp[p,bI]
  ·simp[p,q]
 ·unfold sU
  generalize bd 0 t.2.2.2.2.2.1.length _=b
  cases b<;>simp
end
end Vg.Tryz
namespace Vg.Tryz
open Go Vg
set_option linter.unusedVariables false
set_option linter.unusedSectionVars false
set_option linter.unusedSimpArgs false
theorem cA {σ ρ:Type} {f:(σ→Option ρ)→σ→Option ρ} (st:Nat→σ) (p:Nat→Bool) (n:Nat) {e no:Option ρ}
 (hstep:∀G i,i<n→f G (st i)=if p i=true then G (st (i+1))else no) (hend:∀G,f G (st n)=e):
 ∀(k a:Nat),a≤n→n-a<k→az k f (st a)=if bd a n p=true then e else no
 |0,_,_,h=>by omega
 |k+1,a,hn,h=>by
  show f (az k f) (st a)=_
  by_cases ha:a<n
  ·rw[hstep _ a ha,Ko ha,cA st p n hstep hend k (a+1) (by omega) (by omega)]
   cases p a<;>simp
  ·have:a=n:=by omega
   subst this
   rw[hend,NL (by omega),if_pos rfl]
theorem AA {n:Nat} {p:Nat→Bool}:bd 0 (n+1) p=(bd 0 n p&&p n):=by
 rw[Bool.eq_iff_iff]
 simp only[Bool.and_eq_true,ee]
 constructor
 ·intro h;exact⟨fun i h1 h2=>h i h1 (by omega),h n (by omega) (by omega)⟩
 ·rintro⟨h1,h2⟩ i hi hj
  by_cases he:i=n
  ·subst he;exact h2
  ·exact h1 i hi (by omega)
def AJ (st:List aG) (seen:List Int):Bool:=bd 0 seen.length (fun i=> !decide (seen.getD i 0>(st.getD i ak.aa).2.1))
def ox (st:List aG) (seen:List Int):Bool:=bd 0 seen.length (fun i=>decide (seen.getD i 0=(st.getD i ak.aa).2.1))
def kN (st:List aG) (t:aL):Bool:=
 AJ st t.2.2.2.2.2.1&&(!ox st t.2.2.2.2.2.1||decide ((st.take t.2.2.2.2.2.1.length).flatMap bM=t.2.2.2.2.2.2.1))
def pI (k:Nat) (w:ar) (t:aL) (d:bg):Bool:=
 if t.1=1 then
  decide (d.1=1)&&(if t.2.1=2 then decide (d.2.2.1.1=t.2.2.1.1)&&(gU k w.2.2.2.1 t.2.2.1.1).2&&decide ((gU k w.2.2.2.1 t.2.2.1.1).1=t.2.2.1)else decide (d.2.2.1=t.2.2.1)&&jL t.2.2.1)
 else if t.1=2 then decide (d.1=3)&&decide (d.2.2.2.1=t.2.2.2.1)
 else if t.1=3 then decide (d.1=4)&&((if t.2.1=2 then decide ((t.2.2.2.2.2.1.length:Int)=w.1.1)else decide (t.2.2.2.2.1<w.1.1))&&kN w.2.2.2.1 t)
 else if t.1=4 then decide (d.1=6)&&decide (t.2.2.2.2.1<w.1.1)
 else if t.1=5 then decide (d.1=7)&&decide (d.2.2.1=t.2.2.1)
 else decide (d.1=8)&&(decide (d.2.2.2.2.2.1=t.2.2.2.2.2.2.2.1)&&decide (t.2.2.2.2.2.2.2.1<w.2.2.2.2.2.2.2.2.1))
def gx (k:Nat) (w:ar) (t:aL) (d:bg) (n:Int):Bool:=
 gV t n&&(decide (t.1=0)||(decide (t.2.2.2.2.2.2.2.2<(w.2.2.2.2.2.2.2.2.2.2.2.2.2.length:Int))&&(decide (d.2.1=n)&&decide (d.2.2.2.2.2.2.2.2.2.2.2= -1)&&
  decide ((¬d.2.2.2.2.2.2.2.2.2.2.1= -1)↔(t.1=1∧t.2.1=2))&&pI k w t d)))
section
variable {k:Nat} (hk:9223372036854775808≤k)
include hk
theorem lG {t:aL} (hs:ag ah t≤1048576):
 ag ab t.2.2.1≤1048576∧ag (.sl af) t.2.2.2.1≤1048576∧t.2.2.2.2.2.1.length≤1048576∧ag (.sl ab) t.2.2.2.2.2.2.1≤1048576∧ag (.sl af) t.2.2.1.1≤1048576:=by
 rw[dI hk]at hs
 have h2:=aA (e:= .int .i64) (l:=t.2.2.2.2.2.1)
 have:=ch hk t.2.2.1
 omega
theorem Hb {t:bg} (hs:ag aq t≤1048576):
 ag ab t.2.2.1≤1048576∧ag (.sl af) t.2.2.2.1≤1048576∧ag (.sl ab) t.2.2.2.2.2.2.2.1≤1048576∧ag (.sl af) t.2.2.1.1≤1048576:=by
 rw[kE hk]at hs
 have:=ch hk t.2.2.1
 omega
theorem Ju {t:aL} {n:Int} (hs:ag ah t≤1048576):mQ k (t,n,())=some (gV t n,()):=by
 obtain⟨h1,h2,h3,h4,h5⟩:=lG hk hs
 have h6:=jd hk h1
 simp only[mQ,eW,fc hk,pH hk h4,fm hk h1,mS hk h2,eD hk h6,Es hk hs,Option.bind_some,bL,bZ]
 refine congrArg some (Prod.ext ?_ rfl)
 simp only[apply_ite Prod.fst]
 unfold gV
 obtain⟨op,pc,a,l,i,seen,got,nn,hh⟩:=t
 obtain⟨a1,a2,a3,a4⟩:=a
 clear hs h1 h2 h3 h4 h5 h6
 have hA:cj ([]:List al)=true:=rfl
 have hS:sU ([]:List Int)=true:=rfl
 simp only[zT,iE,bI,AR,Prod.mk.injEq]
 rw[Bool.eq_iff_iff]
 by_cases e0:op=0
 ·subst e0;simp;grind
 by_cases e1:op=1
 ·subst e1;simp;grind
 by_cases e2:op=2
 ·subst e2;simp;grind
 by_cases e3:op=3
 ·subst e3;simp;grind
 by_cases e4:op=4
 ·subst e4;simp;grind
 by_cases e5:op=5
 ·subst e5;simp;grind
 by_cases e6:op=6
 ·subst e6;simp;grind
 simp[e0,e1,e2,e3,e4,e5,e6]
theorem Ij {t:aL} {n:Int} (hs:ag ah t≤1048576):mT k (t,n,())=some (gV t n,()):=by
 obtain⟨h1,h2,h3,h4,h5⟩:=lG hk hs
 simp only[mT,aP,et hk,Ir hk hs,gw hk h1,mU hk h2,DO hk hs,Option.bind_some,bL,bZ]
 refine congrArg some (Prod.ext ?_ rfl)
 simp only[apply_ite Prod.fst]
 unfold gV
 obtain⟨op,pc,a,l,i,seen,got,nn,hh⟩:=t
 obtain⟨a1,a2,a3,a4⟩:=a
 clear hs h1 h2 h3 h4 h5
 have hA:cj ([]:List al)=true:=rfl
 have hS:sU ([]:List Int)=true:=rfl
 simp only[zT,iE,bI,AR,Prod.mk.injEq]
 rw[Bool.eq_iff_iff]
 by_cases e0:op=0
 ·subst e0;simp;grind
 by_cases e1:op=1
 ·subst e1;simp;grind
 by_cases e2:op=2
 ·subst e2;simp;grind
 by_cases e3:op=3
 ·subst e3;simp;grind
 by_cases e4:op=4
 ·subst e4;simp;grind
 by_cases e5:op=5
 ·subst e5;simp;grind
 by_cases e6:op=6
 ·subst e6;simp;grind
 simp[e0,e1,e2,e3,e4,e5,e6]
end
end Vg.Tryz
namespace Vg.Tryz
open Go Vg
set_option linter.unusedVariables false
set_option linter.unusedSectionVars false
set_option linter.unusedSimpArgs false
theorem jM (a b:Int):decide (a≥b)= !decide (a<b):=by by_cases h:a<b<;>simp[h]<;>omega
section
variable {k:Nat} (hk:9223372036854775808≤k)
include hk
theorem J9 {l:List Int} {n:Int} (hl:l.length≤10):mD k (l,n,())=some (decide (n∈l),()):=by
 simp only[mD]
 rw[fq (g:=fun(t:List Int×Int×Int×Unit)=>some (decide (n∈l.drop t.2.2.1.toNat),())) (m:=fun(t:List Int×Int×Int×Unit)=>l.length-t.2.2.1.toNat)
  (I:=fun(t:List Int×Int×Int×Unit)=>t.1=l∧t.2.1=n∧0≤t.2.2.1∧t.2.2.1≤(l.length:Int))]
 ·simp
 ·rintro G ⟨l',n',i,u⟩ ⟨e1,e2,hi0,hi1⟩ hG
  change l'=l at e1
  change n'=n at e2
  subst e1 e2
  simp only at hi0 hi1 hG⊢
  by_cases hi:i<(l'.length:Int)
  ·have h1:i.toNat<l'.length:=by omega
   rw[if_pos (by simpa using hi),if_pos (by simpa using⟨hi0,hi⟩),du (d:=(0:Int)) h1]
   by_cases he:n'=l'.getD i.toNat 0
   ·rw[if_pos (by rw[he];simp)]
    simp only[List.mem_cons,he,true_or,decide_true]
   ·rw[if_neg (by simp only[beq_iff_eq];exact fun h=>he h.symm),wrap64 (by omega) (by omega),hG (l',n',i+1,()) ⟨rfl,rfl,by simp only;omega,by simp only;omega⟩ (by simp only;omega)]
    simp only[List.mem_cons,he,false_or]
    rw[show(i+1).toNat=i.toNat+1 by omega]
  ·rw[if_neg (by simpa using hi),List.drop_eq_nil_of_le (by omega)]
   simp
 ·exact⟨rfl,rfl,by simp,by simp⟩
 ·simp only
  omega
theorem SC (op n:Int):∃l,ko k (op,())=some (l,())∧l.length≤10∧ky k (op,n,())=some (decide (n∈l),()):=by
 simp only[ko,ky,bA,Option.bind_some,beq_iff_eq]
 split
 ·exact⟨_,rfl,by simp,by congr 2;rw[Bool.eq_iff_iff];simp;omega⟩
 split
 ·exact⟨_,rfl,by simp,by congr 2;rw[Bool.eq_iff_iff];simp;omega⟩
 split
 ·exact⟨_,rfl,by simp,by congr 2;rw[Bool.eq_iff_iff];simp;omega⟩
 split
 ·exact⟨_,rfl,by simp,by congr 2;rw[Bool.eq_iff_iff];simp⟩
 split
 ·exact⟨_,rfl,by simp,by congr 2;rw[Bool.eq_iff_iff];simp;omega⟩
 ·exact⟨_,rfl,by simp,by congr 2;rw[Bool.eq_iff_iff];simp⟩
theorem Ph (d:bg):∃r,gl k (d,())=some r∧jF k (d,())=some r:=by
 obtain⟨op,task,a,l,i,n,code,got,now,inv,lin,res⟩:=d
 obtain⟨cs,c1,c2,c3⟩:=SC hk op code
 simp only[gl,jF,bE,bA,Option.bind_some,bL,c1,c3,J9 hk c2]
 generalize decide (code∈cs)=q
 refine⟨_,rfl,congrArg some (Prod.ext ?_ rfl)⟩
 simp only[apply_ite Prod.fst]
 rw[Bool.eq_iff_iff]
 by_cases hl:lin= -1<;>by_cases hr:res= -1<;>by_cases hi:inv≤lin<;>by_cases hj:lin≤res<;>cases q<;>simp[hl,hr,hi,hj]<;>omega
theorem H5 {d:bg}:gl k (d,())=some (sB k d,()):=by
 obtain⟨r,h1,h2⟩:=Ph hk d
 unfold sB
 rw[h1]
theorem JW {d:bg}:jF k (d,())=some (sB k d,()):=by
 obtain⟨r,h1,h2⟩:=Ph hk d
 unfold sB
 rw[h1,h2]
theorem ou {w:ar} {t:aL} (hs:ag ah t≤1048576) (hw:ag (.sl ak) w.2.2.2.1≤1048576) (hl:t.2.2.2.2.2.1.length≤w.2.2.2.1.length):
 eV k (w,t,())=some (kN w.2.2.2.1 t,()):=by
 obtain⟨h1,h2,h3,h4,h5⟩:=lG hk hs
 simp only[eV,aP]
 refine(cA (fun i:Nat=>(w,t,(w.2.2.2.1.take i).flatMap bM,bd 0 i (fun i=>decide (t.2.2.2.2.2.1.getD i 0=(w.2.2.2.1.getD i ak.aa).2.1)),(i:Int),()))
  (fun i=> !decide (t.2.2.2.2.2.1.getD i 0>(w.2.2.2.1.getD i ak.aa).2.1)) t.2.2.2.2.2.1.length
  (e:=some (!ox w.2.2.2.1 t.2.2.2.2.2.1||decide ((w.2.2.2.1.take t.2.2.2.2.2.1.length).flatMap bM=t.2.2.2.2.2.2.1),())) (no:=some (false,())) ?_ ?_ k 0 (by omega) (by omega)).trans ?_
 ·intro G i hi
  have hi2:i<w.2.2.2.1.length:=by omega
  have hp:=jW hk hw hi2
  have hb:=fh hk (w.2.2.2.1.take i)
  unfold cU at hb
  have hb1:=kV hk (w.2.2.2.1.getD i ak.aa)
  have hb2:=gf (e:=ak) w.2.2.2.1 i
  have hb3:=aA (e:=ab) (l:=(w.2.2.2.1.take i).flatMap bM)
  have hb4:=aA (e:=ab) (l:=bM (w.2.2.2.1.getD i ak.aa))
  have hb5:decide (((w.2.2.2.1.take i).flatMap bM).length+(bM (w.2.2.2.1.getD i ak.aa)).length<4294967296)=true:=by
   simp only[decide_eq_true_eq];omega
  simp only[aw,aK hi,aK hi2,hi,decide_true,if_true,Int.toNat_natCast,Bool.or_true,tf hk hp,Option.bind_some,hb5]
  rw[aZ (by omega),fi ak.aa hi2,AA]
  rcases Bool.eq_false_or_eq_true (decide (t.2.2.2.2.2.1.getD i 0>(w.2.2.2.1.getD i ak.aa).2.1))with h|h<;>
   simp only[h,if_true,Bool.not_true,Bool.not_false,Bool.false_eq_true,if_false,bZ,uZ]
 ·intro G
  simp only[aw,Nat.lt_irrefl,decide_false,Bool.false_eq_true,if_false]
  show Option.bind (if((!ox w.2.2.2.1 t.2.2.2.2.2.1)==false)=true then mG k ((w.2.2.2.1.take t.2.2.2.2.2.1.length).flatMap bM,t.2.2.2.2.2.2.1,())else some (false,())) _=_
  have hb:=fh hk (w.2.2.2.1.take t.2.2.2.2.2.1.length)
  unfold cU at hb
  have hb2:=gf (e:=ak) w.2.2.2.1 t.2.2.2.2.2.1.length
  rw[I7 hk (by omega)]
  show Option.bind _ (fun r6:Bool×Unit=>some (if(!ox w.2.2.2.1 t.2.2.2.2.2.1)=true then true else r6.1,()))=_
  cases ox w.2.2.2.1 t.2.2.2.2.2.1<;>simp
 ·unfold kN
  show(if AJ w.2.2.2.1 t.2.2.2.2.2.1=true then _ else _)=_
  cases AJ w.2.2.2.1 t.2.2.2.2.2.1<;>simp
theorem BV {w:ar} {t:aL} (hs:ag ah t≤1048576) (hw:ag (.sl ak) w.2.2.2.1≤1048576) (hl0:(if t.2.1=2 then decide ((t.2.2.2.2.2.1.length:Int)=w.1.1)else decide (t.2.2.2.2.1<w.1.1))=true→t.2.2.2.2.2.1.length≤w.2.2.2.1.length) (hp:t.2.1≤2):
 jo k (w,t,())=some ((if t.2.1=2 then decide ((t.2.2.2.2.2.1.length:Int)=w.1.1)else decide (t.2.2.2.2.1<w.1.1))&&kN w.2.2.2.1 t,()):=by
 obtain⟨h1,h2,h3,h4,h5⟩:=lG hk hs
 simp only[jo,aP]
 have hc:(if(if(decide ((t.2.1:Int)<(2:Int)))=true then decide ((t.2.2.2.2.1:Int)≥w.1.1)else false)=true then true else if((t.2.1:Int)==(2:Int))=true then(((List.length t.2.2.2.2.2.1:Nat):Int):Int) != w.1.1 else false)
  = !(if t.2.1=2 then decide ((t.2.2.2.2.2.1.length:Int)=w.1.1)else decide (t.2.2.2.2.1<w.1.1)):=by
  rw[jM,iX]
  by_cases q:t.2.1=2
  ·simp[q]
  ·have q2:t.2.1<2:=by have:=hp;omega
   simp[q,q2]
   exact jM _ _
 rw[hc]
 rcases Bool.eq_false_or_eq_true (if t.2.1=2 then decide ((t.2.2.2.2.2.1.length:Int)=w.1.1)else decide (t.2.2.2.2.1<w.1.1))with hcc|hcc
 rotate_left
 ·rw[hcc];rfl
 have hl:=hl0 hcc
 rw[hcc,if_neg (by simp)]
 refine(cA (fun i:Nat=>(w,t,bd 0 i (fun i=>decide (t.2.2.2.2.2.1.getD i 0=(w.2.2.2.1.getD i ak.aa).2.1)),(w.2.2.2.1.take i).flatMap bM,t.2.2.2.2.2.1,(t.2.2.2.2.2.1.length:Int),(i:Int),()))
  (fun i=> !decide (t.2.2.2.2.2.1.getD i 0>(w.2.2.2.1.getD i ak.aa).2.1)) t.2.2.2.2.2.1.length
  (e:=some (!ox w.2.2.2.1 t.2.2.2.2.2.1||decide ((w.2.2.2.1.take t.2.2.2.2.2.1.length).flatMap bM=t.2.2.2.2.2.2.1),())) (no:=some (false,())) ?_ ?_ k 0 (by omega) (by omega)).trans ?_
 ·intro G i hi
  have hi2:i<w.2.2.2.1.length:=by omega
  have hp:=jW hk hw hi2
  have hb:=fh hk (w.2.2.2.1.take i)
  unfold cU at hb
  have hb1:=kV hk (w.2.2.2.1.getD i ak.aa)
  have hb2:=gf (e:=ak) w.2.2.2.1 i
  have hb3:=aA (e:=ab) (l:=(w.2.2.2.1.take i).flatMap bM)
  have hb4:=aA (e:=ab) (l:=bM (w.2.2.2.1.getD i ak.aa))
  have hb5:decide (((w.2.2.2.1.take i).flatMap bM).length+(bM (w.2.2.2.1.getD i ak.aa)).length<4294967296)=true:=by
   simp only[decide_eq_true_eq];omega
  simp only[aw,aK hi,aK hi2,hi,decide_true,if_true,Int.toNat_natCast,Bool.or_true,sK hk hp,Option.bind_some,hb5]
  rw[aZ (by omega),fi ak.aa hi2,AA]
  rcases Bool.eq_false_or_eq_true (decide (t.2.2.2.2.2.1.getD i 0>(w.2.2.2.1.getD i ak.aa).2.1))with h|h<;>
   simp only[h,if_true,Bool.not_true,Bool.not_false,Bool.false_eq_true,if_false,bZ,uZ]
 ·intro G
  simp only[aw,Nat.lt_irrefl,decide_false,Bool.false_eq_true,if_false]
  have hb:=fh hk (w.2.2.2.1.take t.2.2.2.2.2.1.length)
  unfold cU at hb
  have hb2:=gf (e:=ak) w.2.2.2.1 t.2.2.2.2.2.1.length
  rw[qx hk h4]
  show Option.bind (if((!ox w.2.2.2.1 t.2.2.2.2.2.1)==false)=true then some (decide (t.2.2.2.2.2.2.1=(w.2.2.2.1.take t.2.2.2.2.2.1.length).flatMap bM),())else some (false,())) (fun r6:Bool×Unit=>some (if(!ox w.2.2.2.1 t.2.2.2.2.2.1)=true then true else r6.1,()))=_
  have he:decide (t.2.2.2.2.2.2.1=(w.2.2.2.1.take t.2.2.2.2.2.1.length).flatMap bM)=decide ((w.2.2.2.1.take t.2.2.2.2.2.1.length).flatMap bM=t.2.2.2.2.2.2.1):=by
   rw[Bool.eq_iff_iff];simp only[decide_eq_true_eq];exact eq_comm
  rw[he]
  cases ox w.2.2.2.1 t.2.2.2.2.2.1<;>simp
 ·unfold kN
  show(if AJ w.2.2.2.1 t.2.2.2.2.2.1=true then _ else _)=_
  cases AJ w.2.2.2.1 t.2.2.2.2.2.1<;>simp
end
end Vg.Tryz
namespace Vg.Tryz
open Go Vg
set_option linter.unusedVariables false
set_option linter.unusedSectionVars false
set_option linter.unusedSimpArgs false
theorem Cj {t:aL} {n:Int} (h:gV t n=true):0≤t.2.2.2.2.2.2.2.2∧(t.1=0∨t.1=1∨t.1=2∨t.1=3∨t.1=4∨t.1=5∨t.1=6):=by
 unfold gV at h
 grind
theorem Nv {t:aL} {n:Int} (h:gV t n=true) (e:t.1=3):(t.2.2.2.2.2.1.length:Int)=t.2.2.2.2.1∧0≤t.2.1∧t.2.1≤2:=by
 unfold gV bI at h
 grind
theorem SA {t:aL} {n:Int} (h:gV t n=true) (e:t.1=4):t.2.2.2.2.2.1=[]∧t.2.2.2.2.2.2.1=[]∧t.2.1≤1:=by
 unfold gV bI at h
 grind
section
variable {k:Nat} (hk:9223372036854775808≤k)
include hk
theorem E4 {l:List aG} {s:List ai} (hs:ag (.sl ak) l≤1048576):(gU k l s).1.1.length≤1048576:=by
 unfold gU
 split
 ·simp[iE]
 ·rename_i h0
  obtain⟨_,_,c⟩:=zm (k:=k) (l:=l) (s:=s) h0
  have hp:=jW hk hs c
  generalize l.getD (mA k l s).toNat ak.aa=p at hp⊢
  unfold qw
  cases hc:nK p (jf k s)with
  |none=>simp[iE]
  |some i=>
   obtain⟨hi,_,_⟩:=kA.1 hc
   obtain⟨h1,h2⟩:=k9 hk hp hi
   dsimp only
   cases hq:mP (p.2.2.getD i ay.aa).2 s with
   |none=>simp[iE]
   |some j=>
    obtain⟨hj,_,_⟩:=kA.1 hq
    have h3:=so (e:=ab) (d:=ab.aa) hj
    exact jd hk (a:=(p.2.2.getD i ay.aa).2.getD j ab.aa) (by omega)
theorem dM {w:ar} (hs:ag aE w≤1048576):
 ag bC w.1≤1048576∧ag (.sl ak) w.2.2.2.1≤1048576∧ag (.sl aU) w.2.2.2.2.1≤1048576∧ag (.sl ab) w.2.2.2.2.2.1≤1048576∧ag (.sl aj) w.2.2.2.2.2.2.2.1≤1048576∧
 w.2.2.2.2.2.2.2.2.2.1.length≤1048576∧ag (.sl ab) w.2.2.2.2.2.2.2.2.2.2.2.1≤1048576∧ag (.sl ah) w.2.2.2.2.2.2.2.2.2.2.2.2.1≤1048576∧ag (.sl aq) w.2.2.2.2.2.2.2.2.2.2.2.2.2≤1048576:=by
 rw[gG hk]at hs
 have h:=aA (e:=aC) (l:=w.2.2.2.2.2.2.2.2.2.1)
 omega
theorem wm {e:Ty} {l:List e.den} (hd:ag e e.aa=0) (hs:ag (.sl e) l≤1048576) (n:Nat):ag e (l.getD n e.aa)≤1048576:=by
 by_cases h:n<l.length
 ·have:=so (e:=e) (d:=e.aa) h
  omega
 ·rw[List.getD_eq_getElem?_getD,List.getElem?_eq_none (by omega),Option.getD_none,hd]
  omega
theorem He {w:ar} {i:Nat} (hs:ag aE w≤1048576) (hi:i<w.2.2.2.2.2.2.2.2.2.2.2.2.1.length) (hp:(w.2.2.2.1.length:Int)=w.1.1):
 lB k (w,(i:Int),())=some (gx k w (w.2.2.2.2.2.2.2.2.2.2.2.2.1.getD i ah.aa) (w.2.2.2.2.2.2.2.2.2.2.2.2.2.getD (w.2.2.2.2.2.2.2.2.2.2.2.2.1.getD i ah.aa).2.2.2.2.2.2.2.2.toNat aq.aa) i,()):=by
 obtain⟨_,w2,_,_,_,_,_,w8,w9⟩:=dM hk hs
 have ht:ag ah (w.2.2.2.2.2.2.2.2.2.2.2.2.1.getD i ah.aa)≤1048576:=wm hk (e:=ah) rfl w8 i
 have hd:ag aq (w.2.2.2.2.2.2.2.2.2.2.2.2.2.getD (w.2.2.2.2.2.2.2.2.2.2.2.2.1.getD i ah.aa).2.2.2.2.2.2.2.2.toNat aq.aa)≤1048576:=wm hk (e:=aq) rfl w9 (w.2.2.2.2.2.2.2.2.2.2.2.2.1.getD i ah.aa).2.2.2.2.2.2.2.2.toNat
 unfold lB aP
 dsimp only
 rw[if_pos (aK hi),Int.toNat_natCast]
 generalize w.2.2.2.2.2.2.2.2.2.2.2.2.1.getD i ah.aa=t at*
 generalize w.2.2.2.2.2.2.2.2.2.2.2.2.2.getD t.2.2.2.2.2.2.2.2.toNat aq.aa=d at*
 rw[Ju hk ht,Option.bind_some]
 unfold gx
 by_cases hok:gV t i=true
 rotate_left
 ·simp[hok]
 obtain⟨hH,hkind⟩:=Cj hok
 obtain⟨t1,t2,t3,t4,t5⟩:=lG hk ht
 obtain⟨d1,d2,d3,d4⟩:=Hb hk hd
 have hfl:=E4 hk (s:=t.2.2.1.1) w2
 have t6:=jd hk t1
 have d6:=jd hk d1
 have t7:=aA (e:=af) (l:=t.2.2.1.1)
 have d7:=aA (e:=af) (l:=d.2.2.1.1)
 have d8:=aA (e:=af) (l:=d.2.2.2.1)
 by_cases e0:t.1=0
 ·simp[e0,hok]
 by_cases eH:t.2.2.2.2.2.2.2.2<(w.2.2.2.2.2.2.2.2.2.2.2.2.2.length:Int)
 rotate_left
 ·have:decide (t.2.2.2.2.2.2.2.2≥(w.2.2.2.2.2.2.2.2.2.2.2.2.2.length:Int))=true:=by simp only[decide_eq_true_eq];omega
  simp[e0,this,eH,hok]
 have q1:decide (t.2.2.2.2.2.2.2.2≥(w.2.2.2.2.2.2.2.2.2.2.2.2.2.length:Int))=false:=by simp only[decide_eq_false_iff_not];omega
 have q2:decide (0≤t.2.2.2.2.2.2.2.2∧t.2.2.2.2.2.2.2.2<(w.2.2.2.2.2.2.2.2.2.2.2.2.2.length:Int))=true:=by simp only[decide_eq_true_eq];omega
 simp only[hok,q1,q2,hH,and_true,true_and,if_true,Bool.not_true,Bool.false_eq_true,if_false,eH,e0,decide_true,decide_false,Bool.true_and,Bool.false_or,bZ,iX]
 have hop:ed k (t.1,())=some (List.getD [0,1,3,4,6,7,8] t.1.toNat 0,()):=by
  simp only[ed]
  rw[if_pos (by simp only[decide_eq_true_eq,List.length_cons,List.length_nil];omega)]
 rw[hop]
 clear hop q1 q2
 by_cases c1:d.2.1=i
 rotate_left
 ·simp[c1,hok]
 by_cases c2:d.2.2.2.2.2.2.2.2.2.2.2= -1
 rotate_left
 ·simp[c1,c2,hok]
 simp only[c1,c2,decide_true,Bool.not_true,Bool.false_eq_true,if_false,beq_self_eq_true,if_true,Option.bind_some,Bool.true_and]
 unfold pI
 rcases hkind with h|h|h|h|h|h|h
 ·exact absurd h e0
 all_goals
  have hn:t.1.toNat=t.1.toNat:=rfl
  simp only[h]at hn⊢
 ·simp only[AZ hk w2 t5,eD hk hfl,eD hk d6,dT hk (a:=d.2.2.1.1) (by omega),zC hk t1]
  by_cases b1:d.1=1<;>by_cases b2:d.2.2.2.2.2.2.2.2.2.2.1= -1<;>by_cases b3:t.2.1=2<;>simp[b1,b2,b3]
  ·by_cases b4:d.2.2.1=t.2.2.1<;>simp[b4]
  ·simp only[eD hk hfl]
   cases (gU k w.2.2.2.1 t.2.2.1.1).2<;>by_cases b4:(gU k w.2.2.2.1 t.2.2.1.1).1=t.2.2.1<;>simp[b4]
 ·simp only[dT hk (a:=d.2.2.2.1) (by omega)]
  by_cases b1:d.1=3<;>by_cases b2:d.2.2.2.2.2.2.2.2.2.2.1= -1<;>simp[b1,b2]
 ·obtain⟨e1,e2,e3⟩:=Nv hok h
  by_cases b1:d.1=4<;>by_cases b2:d.2.2.2.2.2.2.2.2.2.2.1= -1<;>by_cases b3:t.2.1=2<;>simp[b1,b2,b3]
  ·by_cases b4:(t.2.2.2.2.2.1.length:Int)=w.1.1
   ·rw[ou hk ht w2 (by omega)];simp[b4]
   ·simp[b4]
  ·by_cases b4:t.2.2.2.2.1<w.1.1
   ·rw[ou hk ht w2 (by omega)];simp[b4]
   ·simp[b4]
 ·obtain⟨e1,e2,e3⟩:=SA hok h
  have b3:¬t.2.1=2:=by have:=e3;omega
  by_cases b1:d.1=6<;>by_cases b2:d.2.2.2.2.2.2.2.2.2.2.1= -1<;>simp[b1,b2,b3]
  have hl:t.2.2.2.2.2.1.length≤w.2.2.2.1.length:=by rw[e1];exact Nat.zero_le _
  have hq:kN w.2.2.2.1 t=true:=by unfold kN AJ;rw[e1,e2];rfl
  rw[ou hk ht w2 hl,hq]
  by_cases b4:t.2.2.2.2.1<w.1.1<;>simp[b4]
 ·simp only[eD hk d6]
  by_cases b1:d.1=7<;>by_cases b2:d.2.2.2.2.2.2.2.2.2.2.1= -1<;>simp[b1,b2]
 ·by_cases b1:d.1=8<;>by_cases b2:d.2.2.2.2.2.2.2.2.2.2.1= -1<;>simp[b1,b2]
theorem DZ {w:ar} {t:aL} {d:bg} {n:Int} (hs:ag aE w≤1048576) (hp:(w.2.2.2.1.length:Int)=w.1.1) (ht:ag ah t≤1048576) (hd:ag aq d≤1048576) (hok:gV t n=true):
 km k (w,t,d,())=some (pI k w t d,()):=by
 obtain⟨_,w2,_,_,_,_,_,w8,w9⟩:=dM hk hs
 obtain⟨t1,t2,t3,t4,t5⟩:=lG hk ht
 obtain⟨d1,d2,d3,d4⟩:=Hb hk hd
 have hfl:=E4 hk (s:=t.2.2.1.1) w2
 have d6:=jd hk d1
 have d7:=aA (e:=af) (l:=d.2.2.1.1)
 have d8:=aA (e:=af) (l:=d.2.2.2.1)
 simp only[km,Bn hk w2 t5,ib hk hfl,ib hk d6,ew hk (a:=d.2.2.1.1) (by omega),ew hk (a:=d.2.2.2.1) (by omega),zI hk t1,Option.bind_some,bZ,bL]
 unfold pI
 by_cases h1:t.1=1
 ·by_cases b1:d.1=1<;>by_cases b3:t.2.1=2<;>simp[h1,b1,b3]
  ·by_cases b5:d.2.2.1.1=t.2.2.1.1<;>cases (gU k w.2.2.2.1 t.2.2.1.1).2<;>by_cases b4:(gU k w.2.2.2.1 t.2.2.1.1).1=t.2.2.1<;>simp[b4,b5]
  ·by_cases b4:d.2.2.1=t.2.2.1<;>simp[b4]
 by_cases h2:t.1=2
 ·by_cases b1:d.1=3<;>simp[h2,b1]
 by_cases h3:t.1=3
 ·obtain⟨e1,e2,e3⟩:=Nv hok h3
  have hl:(if t.2.1=2 then decide ((t.2.2.2.2.2.1.length:Int)=w.1.1)else decide (t.2.2.2.2.1<w.1.1))=true→t.2.2.2.2.2.1.length≤w.2.2.2.1.length:=by
   by_cases b3:t.2.1=2<;>simp[b3]<;>intro h<;>omega
  rw[BV hk ht w2 hl e3]
  by_cases b1:d.1=4<;>simp[h3,b1]
 by_cases h4:t.1=4
 ·by_cases b1:d.1=6<;>simp[h4,b1]
 by_cases h5:t.1=5
 ·by_cases b1:d.1=7<;>simp[h5,b1]
 by_cases b1:d.1=8<;>by_cases b2:d.2.2.2.2.2.1=t.2.2.2.2.2.2.2.1<;>simp[h1,h2,h3,h4,h5,b1,b2]
end
end Vg.Tryz
namespace Vg.Tryz
open Go Vg
set_option linter.unusedVariables false
set_option linter.unusedSectionVars false
set_option linter.unusedSimpArgs false
def cD (h:Nat→Bool):Nat→Int
 |0=> -1
 |j+1=>if h j=true then(j:Int)else cD h j
theorem qe {h:Nat→Bool}:∀ {j:Nat},(∀a,a<j→h a=false)→cD h j= -1
 |0,_=>rfl
 |j+1,H=>by
  unfold cD
  rw[H j (by omega),if_neg (by simp)]
  exact qe (fun a ha=>H a (by omega))
theorem kY {h:Nat→Bool}:∀ {j:Nat},cD h j≠-1→∃a,a<j∧h a=true∧cD h j=(a:Int)
 |0,H=>absurd rfl H
 |j+1,H=>by
  unfold cD at H⊢
  by_cases hj:h j=true
  ·rw[if_pos hj];exact⟨j,by omega,hj,rfl⟩
  ·rw[if_neg hj]at H⊢
   obtain⟨a,h1,h2,h3⟩:=kY H
   exact⟨a,by omega,h2,h3⟩
theorem xE {h:Nat→Bool} {m:Nat} (hp:∀j,j<m→h j=true→cD h j= -1) {a:Nat} (ha:a<m) (h2:h a=true):cD h m=(a:Int):=by
 have hm:cD h m≠-1:=by
  intro e
  have:∀ {j:Nat},(∀b,b<j→h b=true→False)∨cD h j≠-1:=by
   intro j
   induction j with
   |zero=>exact Or.inl (fun b hb _=>by omega)
   |succ j ih=>
    unfold cD
    by_cases hj:h j=true
    ·rw[if_pos hj];right;omega
    ·rw[if_neg hj]
     rcases ih with ih|ih
     ·left
      intro b hb hbt
      by_cases hbj:b=j
      ·subst hbj;exact hj hbt
      ·exact ih b (by omega) hbt
     ·exact Or.inr ih
  rcases @this m with H|H
  ·exact H a ha h2
  ·exact H e
 obtain⟨b,h3,h4,h5⟩:=kY hm
 rw[h5]
 by_cases hab:a=b
 ·rw[hab]
 ·exfalso
  have key:∀x y:Nat,x<y→y<m→h x=true→h y=true→False:=by
   intro x y hxy hy hx hyt
   have e:=hp y hy hyt
   have:∀ {j:Nat},x<j→cD h j≠-1:=by
    intro j
    induction j with
    |zero=>intro q;omega
    |succ j ih=>
     intro q
     unfold cD
     by_cases hj:h j=true
     ·rw[if_pos hj];omega
     ·rw[if_neg hj]
      by_cases hxj:x=j
      ·subst hxj;exact absurd hx hj
      ·exact ih (by omega)
   exact this hxy e
  rcases Nat.lt_or_ge a b with q|q
  ·exact key a b q h3 h2 h4
  ·exact key b a (by omega) ha h4 h2
def bB (k:Nat) (w:ar) (j:Nat):Int:=nN k (w.2.2.2.2.2.2.2.2.2.2.2.2.1.getD j ah.aa) w.2.2.2.1.length
def dm (w:ar) (j:Nat):Bool:=wA (w.2.2.2.2.2.2.2.2.2.2.2.2.1.getD j ah.aa)
def gq (k:Nat) (w:ar):Bool:=
 bd 0 w.2.2.2.1.length (fun i=>bd 0 w.2.2.2.2.2.2.2.2.2.2.2.2.1.length (fun j=>decide (bB k w j=i)==decide ((w.2.2.2.1.getD i ak.aa).1=j)))&&
 (bd 0 w.2.2.2.2.2.2.2.2.2.2.2.2.1.length (fun j=>dm w j==decide (w.2.2.2.2.2.2.1=j))&&bI w.2.2.2.2.2.2.1 (-1) 4)
def zX (k:Nat) (w:ar) (j:Nat):Bool:=
 (decide (bB k w j<0)||decide (cD (fun a=>decide (bB k w a=bB k w j)) j= -1))&&(!dm w j||decide (cD (dm w) j= -1))
theorem QE {k:Nat} {w:ar} (hp:∀i,i<w.2.2.2.1.length→bI (w.2.2.2.1.getD i ak.aa).1 (-1) 4=true) (ht:w.2.2.2.2.2.2.2.2.2.2.2.2.1.length=5)
 (hh:∀j,j<5→bB k w j<w.2.2.2.1.length):
 (bd 0 w.2.2.2.2.2.2.2.2.2.2.2.2.1.length (zX k w)&&(bd 0 w.2.2.2.1.length (fun i=>decide ((w.2.2.2.1.getD i ak.aa).1=cD (fun a=>decide (bB k w a=i)) w.2.2.2.2.2.2.2.2.2.2.2.2.1.length))&&
  decide (w.2.2.2.2.2.2.1=cD (dm w) w.2.2.2.2.2.2.2.2.2.2.2.2.1.length)))=gq k w:=by
 unfold gq
 rw[ht]
 rw[Bool.eq_iff_iff]
 simp only[Bool.and_eq_true,ee,zX,Bool.or_eq_true,decide_eq_true_eq,Bool.not_eq_true',beq_iff_eq,bI]at hp⊢
 constructor
 ·rintro⟨h1,h2,h3⟩
  refine⟨fun i _ hi j _ hj=> ?_,fun j _ hj=> ?_,?_⟩
  ·rw[h2 i (by omega) hi]
   rw[Bool.eq_iff_iff]
   simp only[decide_eq_true_eq]
   constructor
   ·intro e
    refine xE (h:=fun a=>decide (bB k w a=i)) (m:=5) (fun b hb hbt=> ?_) hj (by simpa using e)
    have hbe:bB k w b=(i:Int):=by simpa using hbt
    rcases(h1 b (by omega) hb).1 with q|q
    ·omega
    ·rw[hbe]at q;exact q
   ·intro e
    obtain⟨a,_,ha,hb⟩:=kY (h:=fun a=>decide (bB k w a=i)) (j:=5) (by rw[e];omega)
    rw[e]at hb
    have:a=j:=by omega
    subst this
    simpa using ha
  ·rw[h3,Bool.eq_iff_iff]
   simp only[decide_eq_true_eq]
   constructor
   ·intro e
    refine xE (h:=dm w) (m:=5) (fun b hb hbt=> ?_) hj e
    rcases(h1 b (by omega) hb).2 with q|q
    ·rw[hbt]at q;exact absurd q (by simp)
    ·exact q
   ·intro e
    obtain⟨a,_,ha,hb⟩:=kY (h:=dm w) (j:=5) (by rw[e];omega)
    rw[e]at hb
    have:a=j:=by omega
    subst this
    exact ha
  ·rw[h3]
   by_cases e:cD (dm w) 5= -1
   ·omega
   ·obtain⟨a,h4,_,h5⟩:=kY e
    omega
 ·rintro⟨h1,h2,h3,h4⟩
  have hI:∀i,i<w.2.2.2.1.length→∀j,j<5→(bB k w j=(i:Int)↔(w.2.2.2.1.getD i ak.aa).1=(j:Int)):=by
   intro i hi j hj
   have:=h1 i (by omega) hi j (by omega) hj
   rw[Bool.eq_iff_iff]at this
   simpa only[decide_eq_true_eq]using this
  have hG:∀j,j<5→(dm w j=true↔w.2.2.2.2.2.2.1=(j:Int)):=by
   intro j hj
   have:=h2 j (by omega) hj
   rw[Bool.eq_iff_iff]at this
   simpa only[decide_eq_true_eq]using this
  refine⟨fun j _ hj=>⟨?_,?_⟩,fun i _ hi=> ?_,?_⟩
  ·by_cases hn:bB k w j<0
   ·exact Or.inl hn
   ·right
    apply qe
    intro a ha
    simp only[decide_eq_false_iff_not]
    intro e
    have hlt:=hh j hj
    have q1:=(hI (bB k w j).toNat (by omega) j hj).1 (by omega)
    have q2:=(hI (bB k w j).toNat (by omega) a (by omega)).1 (by omega)
    omega
  ·by_cases hg:dm w j=true
   ·right
    apply qe
    intro a ha
    cases hga:dm w a with
    |false=>rfl
    |true=>
     have q1:=(hG j hj).1 hg
     have q2:=(hG a (by omega)).1 hga
     omega
   ·left;simpa using hg
  ·by_cases e:cD (fun a=>decide (bB k w a=i)) 5= -1
   ·rw[e]
    have hb:=hp i hi
    by_cases e2:(w.2.2.2.1.getD i ak.aa).1= -1
    ·exact e2
    ·exfalso
     have q:=(hI i hi (w.2.2.2.1.getD i ak.aa).1.toNat (by omega)).2 (by omega)
     have:cD (fun a=>decide (bB k w a=i)) 5≠-1:=by
      rw[xE (h:=fun a=>decide (bB k w a=i)) (m:=5) (a:=(w.2.2.2.1.getD i ak.aa).1.toNat) (fun b hb2 hbt=> ?_) (by omega) (by simpa using q)]
      ·omega
      ·apply qe
       intro a ha
       simp only[decide_eq_false_iff_not]
       intro e3
       have hbe:bB k w b=(i:Int):=by simpa using hbt
       have q1:=(hI i hi b hb2).1 hbe
       have q2:=(hI i hi a (by omega)).1 e3
       omega
     exact this e
   ·obtain⟨a,h5,h6,h7⟩:=kY e
    rw[h7]
    exact(hI i hi a h5).1 (by simpa using h6)
  ·by_cases e:cD (dm w) 5= -1
   ·rw[e]
    by_cases e2:w.2.2.2.2.2.2.1= -1
    ·exact e2
    ·exfalso
     have q:=(hG w.2.2.2.2.2.2.1.toNat (by omega)).2 (by omega)
     have:cD (dm w) 5≠-1:=by
      rw[xE (h:=dm w) (m:=5) (a:=w.2.2.2.2.2.2.1.toNat) (fun b hb2 hbt=> ?_) (by omega) q]
      ·omega
      ·apply qe
       intro a ha
       cases hga:dm w a with
       |false=>rfl
       |true=>
        have q1:=(hG b hb2).1 hbt
        have q2:=(hG a (by omega)).1 hga
        omega
     exact this e
   ·obtain⟨a,h5,h6,h7⟩:=kY e
    rw[h7]
    exact(hG a h5).1 h6
section
variable {k:Nat} (hk:9223372036854775808≤k)
include hk
theorem Af {w:ar} (hs:ag aE w≤1048576):ig k (w,())=some (gq k w,()):=by
 obtain⟨_,w2,_,_,_,_,_,w8,w9⟩:=dM hk hs
 have hn:=aA (e:=ak) (l:=w.2.2.2.1)
 have hm:=aA (e:=ah) (l:=w.2.2.2.2.2.2.2.2.2.2.2.2.1)
 have htask:∀j:Nat,ag ah (w.2.2.2.2.2.2.2.2.2.2.2.2.1.getD j ah.aa)≤1048576:=fun j=>wm hk (e:=ah) rfl w8 j
 simp only[ig,aP]
 refine(cA (fun i:Nat=>(w,w.2.2.2.1,(w.2.2.2.1.length:Int),(i:Int),())) (fun i=>bd 0 w.2.2.2.2.2.2.2.2.2.2.2.2.1.length (fun j=>decide (bB k w j=i)==decide ((w.2.2.2.1.getD i ak.aa).1=j))) w.2.2.2.1.length
  (e:=some (bd 0 w.2.2.2.2.2.2.2.2.2.2.2.2.1.length (fun j=>dm w j==decide (w.2.2.2.2.2.2.1=j))&&bI w.2.2.2.2.2.2.1 (-1) 4,())) (no:=some (false,())) ?_ ?_ k 0 (by omega) (by omega)).trans ?_
 ·intro G i hi
  simp only[aw,aK hi,hi,decide_true,if_true,Int.toNat_natCast]
  refine(cA (fun j:Nat=>(w,(i:Int),w.2.2.2.1.getD i ak.aa,w.2.2.2.1,(w.2.2.2.1.length:Int),(i:Int),w.2.2.2.2.2.2.2.2.2.2.2.2.1,(w.2.2.2.2.2.2.2.2.2.2.2.2.1.length:Int),(j:Int),()))
   (fun j=>decide (bB k w j=i)==decide ((w.2.2.2.1.getD i ak.aa).1=j)) w.2.2.2.2.2.2.2.2.2.2.2.2.1.length
   (e:=G (w,w.2.2.2.1,(w.2.2.2.1.length:Int),((i+1:Nat):Int),())) (no:=some (false,())) ?_ ?_ k 0 (by omega) (by omega)).trans ?_
  ·intro G2 j hj
   simp only[aw,aK hj,hj,decide_true,if_true,Int.toNat_natCast,BE hk (htask j),Option.bind_some,bZ]
   rw[aZ (by omega)]
   show(if(!(decide (bB k w j=i)==decide ((w.2.2.2.1.getD i ak.aa).1=j)))=true then _ else _)=_
   cases (decide (bB k w j=i)==decide ((w.2.2.2.1.getD i ak.aa).1=(j:Int)))<;>rfl
  ·intro G2
   simp only[aw,Nat.lt_irrefl,decide_false,Bool.false_eq_true,if_false]
   rw[aZ (by omega)]
  ·rfl
 ·intro G
  simp only[aw,Nat.lt_irrefl,decide_false,Bool.false_eq_true,if_false]
  refine(cA (fun j:Nat=>(w,w.2.2.2.2.2.2.2.2.2.2.2.2.1,(w.2.2.2.2.2.2.2.2.2.2.2.2.1.length:Int),(j:Int),()))
   (fun j=>dm w j==decide (w.2.2.2.2.2.2.1=j)) w.2.2.2.2.2.2.2.2.2.2.2.2.1.length
   (e:=some (bI w.2.2.2.2.2.2.1 (-1) 4,())) (no:=some (false,())) ?_ ?_ k 0 (by omega) (by omega)).trans ?_
  ·intro G2 j hj
   simp only[aw,aK hj,hj,decide_true,if_true,Int.toNat_natCast,za hk,Option.bind_some,bZ]
   rw[aZ (by omega)]
   show(if(!(dm w j==decide (w.2.2.2.2.2.2.1=j)))=true then _ else _)=_
   cases (dm w j==decide (w.2.2.2.2.2.2.1=(j:Int)))<;>rfl
  ·intro G2
   simp only[aw,Nat.lt_irrefl,decide_false,Bool.false_eq_true,if_false,et hk,Option.bind_some]
  ·cases bd 0 w.2.2.2.2.2.2.2.2.2.2.2.2.1.length (fun j=>dm w j==decide (w.2.2.2.2.2.2.1=j))<;>simp
 ·unfold gq
  cases bd 0 w.2.2.2.1.length (fun i=>bd 0 w.2.2.2.2.2.2.2.2.2.2.2.2.1.length (fun j=>decide (bB k w j=i)==decide ((w.2.2.2.1.getD i ak.aa).1=j)))<;>simp
end
end Vg.Tryz
namespace Vg.Tryz
open Go Vg
set_option linter.unusedVariables false
set_option linter.unusedSectionVars false
set_option linter.unusedSimpArgs false
def fb (k:Nat) (w:ar) (j:Nat):List Int:=(List.range w.2.2.2.1.length).map (fun i:Nat=>cD (fun a=>decide (bB k w a=(i:Int))) j)
theorem Ky (k:Nat) (w:ar) (j:Nat):(fb k w j).length=w.2.2.2.1.length:=by simp[fb]
theorem Nn (k:Nat) (w:ar) (j:Nat) {i:Nat} (hi:i<w.2.2.2.1.length):(fb k w j).getD i 0=cD (fun a=>decide (bB k w a=(i:Int))) j:=by
 simp[fb,List.getD_eq_getElem?_getD,List.getElem?_map,List.getElem?_range hi]
theorem Rl (k:Nat) (w:ar) (j:Nat) (h:0≤bB k w j):(fb k w j).set (bB k w j).toNat (j:Int)=fb k w (j+1):=by
 apply List.ext_getElem
 ·simp[fb]
 ·intro i h1 h2
  simp only[fb,List.getElem_set,List.getElem_map,List.getElem_range,cD,decide_eq_true_eq]
  by_cases e:bB k w j=(i:Int)
  ·rw[if_pos (by omega),if_pos e]
  ·rw[if_neg (by omega),if_neg e]
theorem PS (k:Nat) (w:ar) (j:Nat) (h:bB k w j<0):fb k w j=fb k w (j+1):=by
 unfold fb
 apply List.map_congr_left
 intro i _
 simp only[cD,decide_eq_true_eq]
 rw[if_neg (by omega)]
theorem Qo (k:Nat) (w:ar):fb k w 0=List.replicate w.2.2.2.1.length (-1):=by
 apply List.ext_getElem
 ·simp[fb]
 ·intro i h1 h2
  simp[fb,cD]
section
variable {k:Nat} (hk:9223372036854775808≤k)
include hk
theorem Dz {w:ar} (hs:ag aE w≤1048576) (hp:∀i,i<w.2.2.2.1.length→bI (w.2.2.2.1.getD i ak.aa).1 (-1) 4=true) (ht:w.2.2.2.2.2.2.2.2.2.2.2.2.1.length=5)
 (hh:∀j,j<5→bB k w j<w.2.2.2.1.length):gB k (w,())=some (gq k w,()):=by
 rw[←QE hp ht hh]
 obtain⟨_,w2,_,_,_,_,_,w8,w9⟩:=dM hk hs
 have hn:=aA (e:=ak) (l:=w.2.2.2.1)
 have htask:∀j:Nat,ag ah (w.2.2.2.2.2.2.2.2.2.2.2.2.1.getD j ah.aa)≤1048576:=fun j=>wm hk (e:=ah) rfl w8 j
 simp only[gB,aP]
 refine cB (fun i:Nat=>(w,List.replicate i (-1:Int),(i:Int),())) w.2.2.2.1.length (fun G i hi=> ?_) (fun G=> ?_) k 0 (by omega) (by omega)
 ·simp only[aw,hi,decide_true,if_true,List.length_replicate,List.length_cons,List.length_nil]
  rw[if_pos (by simp only[decide_eq_true_eq];omega),aZ (by omega),List.replicate_succ']
 simp only[aw,Nat.lt_irrefl,decide_false,Bool.false_eq_true,if_false]
 rw[←Qo k w]
 refine(cA (fun j:Nat=>(w,fb k w j,cD (dm w) j,(j:Int),())) (zX k w) w.2.2.2.2.2.2.2.2.2.2.2.2.1.length
  (e:=some (bd 0 w.2.2.2.1.length (fun i=>decide ((w.2.2.2.1.getD i ak.aa).1=cD (fun a=>decide (bB k w a=i)) w.2.2.2.2.2.2.2.2.2.2.2.2.1.length))&&
   decide (w.2.2.2.2.2.2.1=cD (dm w) w.2.2.2.2.2.2.2.2.2.2.2.2.1.length),())) (no:=some (false,())) ?_ ?_ k 0 (by omega) (by omega)).trans ?_
 ·intro G j hj
  have hlt:=hh j (by omega)
  simp only[aw,aK hj,hj,decide_true,if_true,Int.toNat_natCast,Bd hk (htask j),yZ hk,Option.bind_some,iX,Ky]
  change (if decide (bB k w j≥0)=true then(if decide (0≤bB k w j∧bB k w j<(w.2.2.2.1.length:Int))=true then(if(!decide ((fb k w j).getD (bB k w j).toNat 0= -1))=true then some (false,())else(if decide (0≤bB k w j∧bB k w j<(w.2.2.2.1.length:Int))=true then
   (if dm w j=true then(if(!decide (cD (dm w) j= -1))=true then some (false,())else G (w,(fb k w j).set (bB k w j).toNat (j:Int),(j:Int),IntKind.i64.wrap ((j:Int)+1),()))else G (w,(fb k w j).set (bB k w j).toNat (j:Int),cD (dm w) j,IntKind.i64.wrap ((j:Int)+1),()))else none))else none)else
   (if dm w j=true then(if(!decide (cD (dm w) j= -1))=true then some (false,())else G (w,fb k w j,(j:Int),IntKind.i64.wrap ((j:Int)+1),()))else G (w,fb k w j,cD (dm w) j,IntKind.i64.wrap ((j:Int)+1),())))=_
  rw[aZ (by omega)]
  have hg:dm w j=true→cD (dm w) (j+1)=(j:Int):=fun h=>by simp[cD,h]
  have hg2:dm w j=false→cD (dm w) (j+1)=cD (dm w) j:=fun h=>by simp[cD,h]
  unfold zX
  by_cases h0:0≤bB k w j
  ·rw[if_pos (by simpa using h0),if_pos (by simp only[decide_eq_true_eq];omega),Nn k w j (show(bB k w j).toNat<_ by omega),Rl k w j h0,Int.toNat_of_nonneg h0]
   rw[show decide (bB k w j<0)=false by simp only[decide_eq_false_iff_not];omega]
   by_cases hw:cD (fun a=>decide (bB k w a=bB k w j)) j= -1
   ·rw[if_neg (by simp[hw])]
    cases hgr:dm w j with
    |true=>rw[hg hgr];by_cases hw2:cD (dm w) j= -1<;>simp[hw,hw2]<;>omega
    |false=>rw[hg2 hgr];simp[hw];omega
   ·rw[if_pos (by simp[hw])];simp[hw]
  ·rw[if_neg (by simp;omega),PS k w j (by omega)]
   rw[show decide (bB k w j<0)=true by simp only[decide_eq_true_eq];omega]
   cases hgr:dm w j with
   |true=>rw[hg hgr];by_cases hw2:cD (dm w) j= -1<;>simp[hw2]
   |false=>rw[hg2 hgr];simp
 ·intro G
  simp only[aw,Nat.lt_irrefl,decide_false,Bool.false_eq_true,if_false]
  generalize w.2.2.2.2.2.2.2.2.2.2.2.2.1.length=m
  refine(cA (fun i:Nat=>(w,fb k w m,cD (dm w) m,(i:Int),())) (fun i=>decide ((w.2.2.2.1.getD i ak.aa).1=cD (fun a=>decide (bB k w a=i)) m)) w.2.2.2.1.length
   (e:=some (decide (w.2.2.2.2.2.2.1=cD (dm w) m),())) (no:=some (false,())) ?_ ?_ k 0 (by omega) (by omega)).trans ?_
  ·intro G2 i hi
   simp only[aw,Ky,aK hi,hi,decide_true,if_true,Int.toNat_natCast,iX,Nn k w m hi]
   rw[aZ (by omega)]
   rcases Bool.eq_false_or_eq_true (decide ((w.2.2.2.1.getD i ak.aa).1=cD (fun a=>decide (bB k w a=(i:Int))) m))with h|h<;>simp only[h,Bool.not_true,Bool.not_false,Bool.false_eq_true,if_false,if_true]
  ·intro G2
   simp only[aw,Nat.lt_irrefl,decide_false,Bool.false_eq_true,if_false,bZ]
  ·cases bd 0 w.2.2.2.1.length (fun i=>decide ((w.2.2.2.1.getD i ak.aa).1=cD (fun a=>decide (bB k w a=i)) m))<;>simp
 ·generalize w.2.2.2.2.2.2.2.2.2.2.2.2.1.length=m
  cases bd 0 m (zX k w)<;>simp
end
end Vg.Tryz
namespace Vg.Tryz
open Go Vg
set_option linter.unusedVariables false
set_option linter.unusedSectionVars false
set_option linter.unusedSimpArgs false
def pk (nn:Int) (h:List bl):Bool:=
 bd 0 h.length (fun i=>decide ((h.getD i aC.aa).2<nn)&&bd 0 i (fun j=> !decide ((h.getD j aC.aa).2=(h.getD i aC.aa).2)))
def rJ (w:ar) (g:aJ) (j:Nat):Bool:=
 decide ((w.2.2.2.2.2.2.2.2.2.1.getD j aC.aa).2=g.1)&&decide ((w.2.2.2.2.2.2.2.2.2.1.getD j aC.aa).1=E9 w.1 g)
def MA (w:ar) (g:aJ):Bool:=
 if decide ((w.2.2.2.2.2.2.2.2.2.2.2.2.1.getD 4 ah.aa).1=6)=true then decide ((w.2.2.2.2.2.2.2.2.2.2.2.2.1.getD 4 ah.aa).2.2.2.2.2.2.2.1=g.1)else false
def eF (w:ar) (g:aJ) (n:Nat):Bool:= !bd 0 n (fun j=> !rJ w g j)||MA w g
def rL (w:ar):Bool:=
 bd 0 w.2.2.2.2.2.2.2.1.length (fun i=>(decide ((w.2.2.2.2.2.2.2.1.getD i aj.aa).2.2.1≤w.2.2.1)&&
  (decide ((w.2.2.2.2.2.2.2.1.getD i aj.aa).2.2.2.1≤w.2.2.1)&&decide ((w.2.2.2.2.2.2.2.1.getD i aj.aa).1<w.2.2.2.2.2.2.2.2.1)))&&eF w (w.2.2.2.2.2.2.2.1.getD i aj.aa) w.2.2.2.2.2.2.2.2.2.1.length)
def dN (w:ar):Bool:=
 nu w.2.2.2.2.2.2.2.1 w.1.2.2.2.2.2&&(sF w.2.2.2.2.2.2.2.2.2.1&&(pk w.2.2.2.2.2.2.2.2.1 w.2.2.2.2.2.2.2.2.2.1&&rL w))
theorem vv (w:ar) (g:aJ) (n:Nat):eF w g (n+1)=(if eF w g n=true then true else rJ w g n):=by
 unfold eF
 rw[AA]
 cases MA w g<;>cases bd 0 n (fun j=> !rJ w g j)<;>cases rJ w g n<;>rfl
section
variable {k:Nat} (hk:9223372036854775808≤k)
include hk
theorem Pg {c:cg} (h:ag bC c≤1048576):c.2.2.2.2.2.length≤1048576:=by
 rw[jq hk]at h
 have:=aA (e:= .str) (l:=c.2.2.2.2.2)
 omega
theorem Be {w:ar} (hs:ag aE w≤1048576) (ht:w.2.2.2.2.2.2.2.2.2.2.2.2.1.length=5):ga k (w,())=some (dN w,()):=by
 obtain⟨w1,w2,_,_,w5,w6,_,w8,w9⟩:=dM hk hs
 have hb:=Pg hk w1
 have hn:=aA (e:=aj) (l:=w.2.2.2.2.2.2.2.1)
 simp only[ga,aP,Dj hk w5 hb,IL hk w6,Option.bind_some]
 unfold dN
 cases nu w.2.2.2.2.2.2.2.1 w.1.2.2.2.2.2 with
 |false=>rfl
 |true=>
  cases sF w.2.2.2.2.2.2.2.2.2.1 with
  |false=>rfl
  |true=>
   simp only[Bool.not_true,Bool.false_eq_true,if_false,beq_self_eq_true,if_true,Option.bind_some]
   refine(cA (fun i:Nat=>(w,(i:Int),())) (fun i=>decide ((w.2.2.2.2.2.2.2.2.2.1.getD i aC.aa).2<w.2.2.2.2.2.2.2.2.1)&&bd 0 i (fun j=> !decide ((w.2.2.2.2.2.2.2.2.2.1.getD j aC.aa).2=(w.2.2.2.2.2.2.2.2.2.1.getD i aC.aa).2))) w.2.2.2.2.2.2.2.2.2.1.length
    (e:=some (rL w,())) (no:=some (false,())) ?_ ?_ k 0 (by omega) (by omega)).trans ?_
   ·intro G i hi
    simp only[aw,aK hi,hi,decide_true,if_true,Int.toNat_natCast,jM]
    rcases Bool.eq_false_or_eq_true (decide ((w.2.2.2.2.2.2.2.2.2.1.getD i aC.aa).2<w.2.2.2.2.2.2.2.2.1))with h|h<;>simp only[h,Bool.not_true,Bool.not_false,Bool.false_eq_true,if_false,if_true,Bool.true_and,Bool.false_and]
    refine(cA (fun j:Nat=>(w,(i:Int),(j:Int),())) (fun j=> !decide ((w.2.2.2.2.2.2.2.2.2.1.getD j aC.aa).2=(w.2.2.2.2.2.2.2.2.2.1.getD i aC.aa).2)) i
     (e:=G (w,((i+1:Nat):Int),())) (no:=some (false,())) ?_ ?_ k 0 (by omega) (by omega)).trans ?_
    ·intro G2 j hj
     have hj2:j<w.2.2.2.2.2.2.2.2.2.1.length:=by omega
     simp only[aw,aK hj2,aK hi,hj,decide_true,if_true,Int.toNat_natCast,bZ]
     rw[aZ (by omega)]
     rcases Bool.eq_false_or_eq_true (decide ((w.2.2.2.2.2.2.2.2.2.1.getD j aC.aa).2=(w.2.2.2.2.2.2.2.2.2.1.getD i aC.aa).2))with h2|h2<;>simp only[h2,Bool.not_true,Bool.not_false,Bool.false_eq_true,if_false,if_true]
    ·intro G2
     simp only[aw,Nat.lt_irrefl,decide_false,Bool.false_eq_true,if_false]
     rw[aZ (by omega)]
    ·rfl
   ·intro G
    simp only[aw,Nat.lt_irrefl,decide_false,Bool.false_eq_true,if_false]
    refine(cA (fun i:Nat=>(w,(i:Int),())) (fun i=>(decide ((w.2.2.2.2.2.2.2.1.getD i aj.aa).2.2.1≤w.2.2.1)&&
     (decide ((w.2.2.2.2.2.2.2.1.getD i aj.aa).2.2.2.1≤w.2.2.1)&&decide ((w.2.2.2.2.2.2.2.1.getD i aj.aa).1<w.2.2.2.2.2.2.2.2.1)))&&eF w (w.2.2.2.2.2.2.2.1.getD i aj.aa) w.2.2.2.2.2.2.2.2.2.1.length) w.2.2.2.2.2.2.2.1.length
     (e:=some (true,())) (no:=some (false,())) ?_ ?_ k 0 (by omega) (by omega)).trans ?_
    ·intro G2 i hi
     have h5:decide ((0:Int)≤4∧(4:Int)<(w.2.2.2.2.2.2.2.2.2.2.2.2.1.length:Int))=true:=by rw[ht];rfl
     simp only[aw,aK hi,hi,h5,decide_true,if_true,Int.toNat_natCast,Bool.or_true,bZ]
     generalize w.2.2.2.2.2.2.2.1.getD i aj.aa=g
     refine cB (fun j:Nat=>(w,(i:Int),g,eF w g j,(j:Int),())) w.2.2.2.2.2.2.2.2.2.1.length (fun G3 j hj=> ?_) (fun G3=> ?_) k 0 (by omega) (by omega)
     ·simp only[aw,aK hj,hj,decide_true,if_true,Int.toNat_natCast,Bool.or_true,Oe hk]
      rw[aZ (by omega),vv]
      unfold rJ
      cases eF w g j<;>by_cases h2:(w.2.2.2.2.2.2.2.2.2.1.getD j aC.aa).2=g.1<;>simp only[h2,Bool.not_true,Bool.not_false,Bool.false_eq_true,if_false,if_true,decide_true,decide_false,Bool.true_and,Bool.false_and,Bool.and_true,Bool.and_false,beq_self_eq_true,Option.bind_some,beq_iff_eq]<;>rfl
     ·simp only[aw,Nat.lt_irrefl,decide_false,Bool.false_eq_true,if_false]
      rw[aZ (by omega),jM]
      have q1:∀a b:Int,decide (a>b)= !decide (a≤b):=fun a b=>by by_cases h:a≤b<;>simp[h]<;>omega
      rw[q1,q1]
      cases eF w g w.2.2.2.2.2.2.2.2.2.1.length<;>cases decide (g.2.2.1≤w.2.2.1)<;>cases decide (g.2.2.2.1≤w.2.2.1)<;>cases decide (g.1<w.2.2.2.2.2.2.2.2.1)<;>rfl
    ·intro G2
     simp only[aw,Nat.lt_irrefl,decide_false,Bool.false_eq_true,if_false]
    ·show(if rL w=true then _ else _)=_
     cases rL w<;>simp
   ·show(if pk w.2.2.2.2.2.2.2.2.1 w.2.2.2.2.2.2.2.2.2.1=true then _ else _)=_
    cases pk w.2.2.2.2.2.2.2.2.1 w.2.2.2.2.2.2.2.2.2.1<;>simp
omit hk in
theorem Tm {α:Type} (d:α) {l:List α} {i j:Nat} (h:j<i):(l.take i).getD j d=l.getD j d:=by
 simp only[List.getD_eq_getElem?_getD,List.getElem?_take,h,if_true]
theorem zf {w:ar} (hs:ag aE w≤1048576) (ht:w.2.2.2.2.2.2.2.2.2.2.2.2.1.length=5):gJ k (w,())=some (dN w,()):=by
 obtain⟨w1,w2,_,_,w5,w6,_,w8,w9⟩:=dM hk hs
 have hb:=Pg hk w1
 have hn:=aA (e:=aj) (l:=w.2.2.2.2.2.2.2.1)
 simp only[gJ,aP,D9 hk w5 hb,Jz hk w6,Option.bind_some]
 unfold dN
 cases nu w.2.2.2.2.2.2.2.1 w.1.2.2.2.2.2 with
 |false=>rfl
 |true=>
  cases sF w.2.2.2.2.2.2.2.2.2.1 with
  |false=>rfl
  |true=>
   simp only[Bool.not_true,Bool.false_eq_true,if_false,beq_self_eq_true,if_true,Option.bind_some]
   refine(cA (fun i:Nat=>(w,w.2.2.2.2.2.2.2.1,(w.2.2.2.2.2.2.2.1.length:Int),(i:Int),())) (fun i=>(decide ((w.2.2.2.2.2.2.2.1.getD i aj.aa).2.2.1≤w.2.2.1)&&
    (decide ((w.2.2.2.2.2.2.2.1.getD i aj.aa).2.2.2.1≤w.2.2.1)&&decide ((w.2.2.2.2.2.2.2.1.getD i aj.aa).1<w.2.2.2.2.2.2.2.2.1)))&&eF w (w.2.2.2.2.2.2.2.1.getD i aj.aa) w.2.2.2.2.2.2.2.2.2.1.length) w.2.2.2.2.2.2.2.1.length
    (e:=some (pk w.2.2.2.2.2.2.2.2.1 w.2.2.2.2.2.2.2.2.2.1,())) (no:=some (false,())) ?_ ?_ k 0 (by omega) (by omega)).trans ?_
   ·intro G2 i hi
    have h5:decide ((0:Int)≤4∧(4:Int)<(w.2.2.2.2.2.2.2.2.2.2.2.2.1.length:Int))=true:=by rw[ht];rfl
    dsimp only
    rw[aw,decide_eq_true hi,if_pos rfl,if_pos (aK hi),Int.toNat_natCast]
    generalize w.2.2.2.2.2.2.2.1.getD i aj.aa=g
    simp only[h5,decide_true,if_true,Bool.or_true,bZ]
    have q1:∀a b:Int,decide (a>b)= !decide (a≤b):=fun a b=>by by_cases h:a≤b<;>simp[h]<;>omega
    rw[show decide (g.1≥w.2.2.2.2.2.2.2.2.1)= !decide (g.1<w.2.2.2.2.2.2.2.2.1)from jM _ _,q1,q1]
    generalize decide (g.2.2.1≤w.2.2.1)=b1
    generalize decide (g.2.2.2.1≤w.2.2.1)=b2
    generalize decide (g.1<w.2.2.2.2.2.2.2.2.1)=b3
    by_cases hq:b1=true∧b2=true∧b3=true
    rotate_left
    ·cases b1<;>cases b2<;>cases b3<;>first|rfl|(exact absurd hq (by simp))
    obtain⟨e1,e2,e3⟩:=hq
    subst e1 e2 e3
    rw[Bool.true_and,Bool.true_and,Bool.true_and]
    refine(tg rfl).trans ?_
    refine cB (fun j:Nat=>(w,g,eF w g j,w.2.2.2.2.2.2.2.1,(w.2.2.2.2.2.2.2.1.length:Int),(i:Int),w.2.2.2.2.2.2.2.2.2.1,(w.2.2.2.2.2.2.2.2.2.1.length:Int),(j:Int),())) w.2.2.2.2.2.2.2.2.2.1.length (fun G3 j hj=> ?_) (fun G3=> ?_) k 0 (by omega) (by omega)
    ·simp only[aw,aK hj,hj,decide_true,if_true,Int.toNat_natCast,Bool.or_true,N5 hk]
     rw[aZ (by omega),vv]
     unfold rJ
     cases eF w g j<;>by_cases h2:(w.2.2.2.2.2.2.2.2.2.1.getD j aC.aa).2=g.1<;>simp only[h2,Bool.not_true,Bool.not_false,Bool.false_eq_true,if_false,if_true,decide_true,decide_false,Bool.true_and,Bool.false_and,Bool.and_true,Bool.and_false,beq_self_eq_true,Option.bind_some,beq_iff_eq]<;>rfl
    ·simp only[aw,Nat.lt_irrefl,decide_false,Bool.false_eq_true,if_false]
     rw[aZ (by omega)]
     cases eF w g w.2.2.2.2.2.2.2.2.2.1.length<;>rfl
   ·intro G
    simp only[aw,Nat.lt_irrefl,decide_false,Bool.false_eq_true,if_false]
    refine(cA (fun i:Nat=>(w,w.2.2.2.2.2.2.2.2.2.1,(w.2.2.2.2.2.2.2.2.2.1.length:Int),(i:Int),())) (fun i=>decide ((w.2.2.2.2.2.2.2.2.2.1.getD i aC.aa).2<w.2.2.2.2.2.2.2.2.1)&&bd 0 i (fun j=> !decide ((w.2.2.2.2.2.2.2.2.2.1.getD j aC.aa).2=(w.2.2.2.2.2.2.2.2.2.1.getD i aC.aa).2))) w.2.2.2.2.2.2.2.2.2.1.length
     (e:=some (true,())) (no:=some (false,())) ?_ ?_ k 0 (by omega) (by omega)).trans ?_
    ·intro G i hi
     have hl:(w.2.2.2.2.2.2.2.2.2.1.take i).length=i:=by rw[List.length_take];omega
     simp only[aw,aK hi,hi,decide_true,if_true,Int.toNat_natCast,jM,hl]
     rcases Bool.eq_false_or_eq_true (decide ((w.2.2.2.2.2.2.2.2.2.1.getD i aC.aa).2<w.2.2.2.2.2.2.2.2.1))with h|h<;>simp only[h,Bool.not_true,Bool.not_false,Bool.false_eq_true,if_false,if_true,Bool.true_and,Bool.false_and]
     rw[if_pos (by simp only[decide_eq_true_eq];omega)]
     refine(cA (fun j:Nat=>(w,w.2.2.2.2.2.2.2.2.2.1.getD i aC.aa,w.2.2.2.2.2.2.2.2.2.1,(w.2.2.2.2.2.2.2.2.2.1.length:Int),(i:Int),w.2.2.2.2.2.2.2.2.2.1.take i,(i:Int),(j:Int),())) (fun j=> !decide ((w.2.2.2.2.2.2.2.2.2.1.getD j aC.aa).2=(w.2.2.2.2.2.2.2.2.2.1.getD i aC.aa).2)) i
      (e:=G (w,w.2.2.2.2.2.2.2.2.2.1,(w.2.2.2.2.2.2.2.2.2.1.length:Int),((i+1:Nat):Int),())) (no:=some (false,())) ?_ ?_ k 0 (by omega) (by omega)).trans ?_
     ·intro G2 j hj
      simp only[aw,hl,aK hj,hj,decide_true,if_true,Int.toNat_natCast,bZ,Tm aC.aa hj]
      rw[aZ (by omega)]
      rcases Bool.eq_false_or_eq_true (decide ((w.2.2.2.2.2.2.2.2.2.1.getD j aC.aa).2=(w.2.2.2.2.2.2.2.2.2.1.getD i aC.aa).2))with h2|h2<;>simp only[h2,Bool.not_true,Bool.not_false,Bool.false_eq_true,if_false,if_true]
     ·intro G2
      simp only[aw,Nat.lt_irrefl,decide_false,Bool.false_eq_true,if_false]
      rw[aZ (by omega)]
     ·rfl
    ·intro G2
     simp only[aw,Nat.lt_irrefl,decide_false,Bool.false_eq_true,if_false]
    ·show(if pk w.2.2.2.2.2.2.2.2.1 w.2.2.2.2.2.2.2.2.2.1=true then _ else _)=_
     cases pk w.2.2.2.2.2.2.2.2.1 w.2.2.2.2.2.2.2.2.2.1<;>simp
   ·show(if rL w=true then _ else _)=_
    cases rL w<;>simp
end
end Vg.Tryz
namespace Vg.Tryz
open Go Vg
set_option linter.unusedVariables false
set_option linter.unusedSectionVars false
set_option linter.unusedSimpArgs false
def qc (k:Nat) (w:ar) (d:bg):Bool:=
 sB k d&&(decide (d.2.2.2.2.2.2.2.2.2.1<w.2.1)&&(decide (d.2.2.2.2.2.2.2.2.2.2.1<w.2.1)&&decide (d.2.2.2.2.2.2.2.2.2.2.2<w.2.1)))
def jX (k:Nat) (w:ar):Bool:=bd 0 w.2.2.2.2.2.2.2.2.2.2.2.2.2.length (fun i=>qc k w (w.2.2.2.2.2.2.2.2.2.2.2.2.2.getD i aq.aa))
def nC (w:ar) (t:aL):bg:=w.2.2.2.2.2.2.2.2.2.2.2.2.2.getD t.2.2.2.2.2.2.2.2.toNat aq.aa
def fj (k:Nat) (w:ar):Bool:=bd 0 w.2.2.2.2.2.2.2.2.2.2.2.2.1.length (fun i=>gx k w (w.2.2.2.2.2.2.2.2.2.2.2.2.1.getD i ah.aa) (nC w (w.2.2.2.2.2.2.2.2.2.2.2.2.1.getD i ah.aa)) i)
def eN (k:Nat) (w:ar):Bool:=
 iL k w.2.2.2.1&&(decide ((w.2.2.2.1.length:Int)=w.1.1)&&(decide ((oV w.2.2.2.1:Int)≤w.1.2.1)&&bd 0 (dq (cU w.2.2.2.1)).length (fun i=>jL ((dq (cU w.2.2.2.1)).getD i ab.aa))))
def pw (k:Nat) (w:ar):Bool:=
 gX w.1&&(decide (0≤w.2.1)&&(decide (0≤w.2.2.2.2.2.2.2.2.1)&&(bI w.2.2.1 0 99899&&(eN k w&&(decide ((w.2.2.2.2.1.length:Int)=w.1.2.2.1)&&(decide ((w.2.2.2.2.2.2.2.2.2.2.2.2.1.length:Int)=5)&&(cj w.2.2.2.2.2.1&&(cj w.2.2.2.2.2.2.2.2.2.2.2.1&&
 (qv w.2.2.2.2.1&&(jX k w&&(fj k w&&(gq k w&&dN w))))))))))))
section
variable {k:Nat} (hk:9223372036854775808≤k)
include hk
theorem zZ {w:ar} (hs:ag aE w≤1048576) (hp:(w.2.2.2.1.length:Int)=w.1.1):ij k (w,())=some (jX k w&&fj k w,()):=by
 obtain⟨w1,w2,_,_,w5,w6,_,w8,w9⟩:=dM hk hs
 have hn:=aA (e:=aq) (l:=w.2.2.2.2.2.2.2.2.2.2.2.2.2)
 have hm:=aA (e:=ah) (l:=w.2.2.2.2.2.2.2.2.2.2.2.2.1)
 have hdeed:∀j:Nat,ag aq (w.2.2.2.2.2.2.2.2.2.2.2.2.2.getD j aq.aa)≤1048576:=fun j=>wm hk (e:=aq) rfl w9 j
 have htask:∀j:Nat,ag ah (w.2.2.2.2.2.2.2.2.2.2.2.2.1.getD j ah.aa)≤1048576:=fun j=>wm hk (e:=ah) rfl w8 j
 simp only[ij,aP]
 refine(cA (fun i:Nat=>(w,w.2.2.2.2.2.2.2.2.2.2.2.2.2,(w.2.2.2.2.2.2.2.2.2.2.2.2.2.length:Int),(i:Int),())) (fun i=>qc k w (w.2.2.2.2.2.2.2.2.2.2.2.2.2.getD i aq.aa)) w.2.2.2.2.2.2.2.2.2.2.2.2.2.length
  (e:=some (fj k w,())) (no:=some (false,())) ?_ ?_ k 0 (by omega) (by omega)).trans ?_
 ·intro G i hi
  dsimp only
  rw[aw,decide_eq_true hi,if_pos rfl,if_pos (aK hi),Int.toNat_natCast,JW hk,Option.bind_some,aZ (by omega)]
  generalize w.2.2.2.2.2.2.2.2.2.2.2.2.2.getD i aq.aa=d
  rw[jM,jM,jM]
  unfold qc
  cases sB k d<;>cases decide (d.2.2.2.2.2.2.2.2.2.1<w.2.1)<;>cases decide (d.2.2.2.2.2.2.2.2.2.2.1<w.2.1)<;>cases decide (d.2.2.2.2.2.2.2.2.2.2.2<w.2.1)<;>rfl
 ·intro G
  simp only[aw,Nat.lt_irrefl,decide_false,Bool.false_eq_true,if_false]
  refine(cA (fun i:Nat=>(w,w.2.2.2.2.2.2.2.2.2.2.2.2.1,(w.2.2.2.2.2.2.2.2.2.2.2.2.1.length:Int),(i:Int),())) (fun i=>gx k w (w.2.2.2.2.2.2.2.2.2.2.2.2.1.getD i ah.aa) (nC w (w.2.2.2.2.2.2.2.2.2.2.2.2.1.getD i ah.aa)) i) w.2.2.2.2.2.2.2.2.2.2.2.2.1.length
   (e:=some (true,())) (no:=some (false,())) ?_ ?_ k 0 (by omega) (by omega)).trans ?_
  ·intro G2 i hi
   have ht:ag ah (w.2.2.2.2.2.2.2.2.2.2.2.2.1.getD i ah.aa)≤1048576:=htask i
   dsimp only
   rw[aw,decide_eq_true hi,if_pos rfl,if_pos (aK hi),Int.toNat_natCast,aZ (by omega)]
   generalize w.2.2.2.2.2.2.2.2.2.2.2.2.1.getD i ah.aa=t at*
   have hd:ag aq (nC w t)≤1048576:=hdeed _
   unfold nC at hd⊢
   generalize w.2.2.2.2.2.2.2.2.2.2.2.2.2.getD t.2.2.2.2.2.2.2.2.toNat aq.aa=d at*
   rw[Ij hk ht,Option.bind_some]
   unfold gx
   by_cases hok:gV t i=true
   rotate_left
   ·simp[hok]
   obtain⟨hH,hkind⟩:=Cj hok
   rw[DZ hk hs hp ht hd hok]
   by_cases e0:t.1=0
   ·simp[e0,hok]
   by_cases eH:t.2.2.2.2.2.2.2.2<(w.2.2.2.2.2.2.2.2.2.2.2.2.2.length:Int)
   rotate_left
   ·have:decide (t.2.2.2.2.2.2.2.2≥(w.2.2.2.2.2.2.2.2.2.2.2.2.2.length:Int))=true:=by simp only[decide_eq_true_eq];omega
    simp[e0,this,eH,hok]
   have q1:decide (t.2.2.2.2.2.2.2.2≥(w.2.2.2.2.2.2.2.2.2.2.2.2.2.length:Int))=false:=by simp only[decide_eq_false_iff_not];omega
   simp only[hok,q1,hH,and_true,true_and,if_true,Bool.not_true,Bool.false_eq_true,if_false,eH,e0,decide_true,decide_false,Bool.true_and,Bool.false_or,bZ,iX]
   by_cases c1:d.2.1=i
   rotate_left
   ·simp[c1]
   by_cases c2:d.2.2.2.2.2.2.2.2.2.2.2= -1
   rotate_left
   ·simp[c1,c2]
   by_cases c3:d.2.2.2.2.2.2.2.2.2.2.1= -1<;>by_cases c4:t.1=1<;>by_cases c5:t.2.1=2<;>cases pI k w t d<;>simp[c1,c2,c3,c4,c5]
  ·intro G2
   simp only[aw,Nat.lt_irrefl,decide_false,Bool.false_eq_true,if_false]
  ·show(if fj k w=true then _ else _)=_
   cases fj k w<;>simp
 ·show(if jX k w=true then _ else _)=_
  cases jX k w<;>simp
theorem Kf {l:List aG} (hs:ag (.sl ak) l≤1048576) {i:Nat} (hi:i<(dq (cU l)).length):ag ab ((dq (cU l)).getD i ab.aa)≤1048576:=by
 have h1:=fh hk l
 have h2:=QM (cU l)
 have h3:=so (e:=ab) (d:=ab.aa) hi
 omega
omit hk in
theorem EN (l:List aG):(dq (cU l)).length=oV l:=by
 have:=Kr cP (cU l)
 unfold dq eK oV
 rw[List.length_reverse]
 exact this
theorem Dq {w:ar} (hs:ag aE w≤1048576):kt k (w,())=some (eN k w,()):=by
 obtain⟨w1,w2,_,_,w5,w6,_,w8,w9⟩:=dM hk hs
 have hc:=Ki hk w2
 have hsl:=EN w.2.2.2.1
 simp only[kt,aP,Fo hk w2,A0 hk w2,Option.bind_some,iX]
 unfold eN
 cases iL k w.2.2.2.1 with
 |false=>rfl
 |true=>
  rcases Bool.eq_false_or_eq_true (decide ((w.2.2.2.1.length:Int)=w.1.1))with hq|hq
  rotate_left
  ·rw[hq];rfl
  ·rw[hq]
   simp only[Bool.not_true,Bool.false_eq_true,if_false,Bool.true_and]
   refine(cA (fun i:Nat=>(w,dq (cU w.2.2.2.1),(i:Int),())) (fun i=>jL ((dq (cU w.2.2.2.1)).getD i ab.aa)) (dq (cU w.2.2.2.1)).length
    (e:=some (decide ((oV w.2.2.2.1:Int)≤w.1.2.1),())) (no:=some (false,())) ?_ ?_ k 0 (by omega) (by omega)).trans ?_
   ·intro G i hi
    have h1:=Kf hk w2 hi
    dsimp only
    rw[aw,decide_eq_true hi,if_pos rfl,if_pos (aK hi),Int.toNat_natCast,zC hk h1,Option.bind_some,aZ (by omega)]
    cases jL ((dq (cU w.2.2.2.1)).getD i ab.aa)<;>rfl
   ·intro G
    simp only[aw,Nat.lt_irrefl,decide_false,Bool.false_eq_true,if_false,hsl]
   ·cases bd 0 (dq (cU w.2.2.2.1)).length (fun i=>jL ((dq (cU w.2.2.2.1)).getD i ab.aa))<;>simp
theorem zw {w:ar} (hs:ag aE w≤1048576) (h8:w.1.2.1≤8):ia k (w,())=some (eN k w,()):=by
 obtain⟨w1,w2,_,_,w5,w6,_,w8,w9⟩:=dM hk hs
 have hc:=Ki hk w2
 have hsl:=EN w.2.2.2.1
 simp only[ia,aP,FN hk w2,GU hk w2,Option.bind_some,iX]
 unfold eN
 cases iL k w.2.2.2.1 with
 |false=>rfl
 |true=>
  rcases Bool.eq_false_or_eq_true (decide ((w.2.2.2.1.length:Int)=w.1.1))with hq|hq
  rotate_left
  ·rw[hq];rfl
  ·rw[hq]
   simp only[Bool.not_true,Bool.false_eq_true,if_false,Bool.true_and,beq_self_eq_true,if_true,Option.bind_some]
   by_cases hcap:(oV w.2.2.2.1:Int)≤w.1.2.1
   rotate_left
   ·rw[if_pos (by simp only[decide_eq_true_eq];omega),decide_eq_false hcap];rfl
   rw[if_neg (by simp only[decide_eq_true_eq];omega),decide_eq_true hcap,Bi hk w2 (by omega),Option.bind_some]
   refine(cA (fun i:Nat=>(w,dq (cU w.2.2.2.1),((dq (cU w.2.2.2.1)).length:Int),(i:Int),())) (fun i=>jL ((dq (cU w.2.2.2.1)).getD i ab.aa)) (dq (cU w.2.2.2.1)).length
    (e:=some (true,())) (no:=some (false,())) ?_ ?_ k 0 (by omega) (by omega)).trans ?_
   ·intro G i hi
    have h1:=Kf hk w2 hi
    dsimp only
    rw[aw,decide_eq_true hi,if_pos rfl,if_pos (aK hi),Int.toNat_natCast,zI hk h1,Option.bind_some,aZ (by omega)]
    cases jL ((dq (cU w.2.2.2.1)).getD i ab.aa)<;>rfl
   ·intro G
    simp only[aw,Nat.lt_irrefl,decide_false,Bool.false_eq_true,if_false]
   ·cases bd 0 (dq (cU w.2.2.2.1)).length (fun i=>jL ((dq (cU w.2.2.2.1)).getD i ab.aa))<;>simp
omit hk in
theorem M1 {l:List aG} (h:iL k l=true):(1≤l.length∧l.length≤3)∧∀i,i<l.length→bI (l.getD i ak.aa).1 (-1) 4=true:=by
 unfold iL at h
 simp only[Bool.and_eq_true,ee]at h
 obtain⟨h1,h2⟩:=h
 refine⟨?_,fun i hi=> ?_⟩
 ·unfold bI at h2
  simp only[Bool.and_eq_true,decide_eq_true_eq]at h2
  omega
 ·have:=h1 i (by omega) hi
  unfold jA at this
  simp only[Bool.and_eq_true]at this
  exact this.2.1
omit hk in
theorem Tf {w:ar} (hp:(w.2.2.2.1.length:Int)=w.1.1) (h1:1≤w.2.2.2.1.length) (ho:fj k w=true) {j:Nat} (hj:j<w.2.2.2.2.2.2.2.2.2.2.2.2.1.length):bB k w j<w.2.2.2.1.length:=by
 unfold fj at ho
 have h:=ee.1 ho j (by omega) hj
 unfold bB nN
 generalize w.2.2.2.2.2.2.2.2.2.2.2.2.1.getD j ah.aa=t at*
 have hp1:=fun f:Int=>GW (f:=f) (n:=(w.2.2.2.1.length:Int)) (by omega)
 split
 ·omega
 split
 ·exact(hp1 _).2
 split
 ·exact(hp1 _).2
 split
 ·rename_i hc
  unfold gx pI at h
  rw[hp]
  grind
 ·omega
end
end Vg.Tryz
namespace Vg.Tryz
open Go Vg
set_option linter.unusedVariables false
set_option linter.unusedSectionVars false
set_option linter.unusedSimpArgs false
section
variable {k:Nat} (hk:9223372036854775808≤k)
include hk
theorem Gs {w:ar} (hs:ag aE w≤1048576):lR k (w,())=some (pw k w,()):=by
 obtain⟨w1,w2,w3,w4,w5,w6,w7,w8,w9⟩:=dM hk hs
 have hn:=aA (e:=aq) (l:=w.2.2.2.2.2.2.2.2.2.2.2.2.2)
 have hm:=aA (e:=ah) (l:=w.2.2.2.2.2.2.2.2.2.2.2.2.1)
 have hu:=aA (e:=aU) (l:=w.2.2.2.2.1)
 simp only[lR,aP,HE hk w1,fc hk,Dq hk hs,pH hk w4,pH hk w7,Option.bind_some,iX,bL]
 have g0:∀a:Int,decide (a<0)= !decide (0≤a):=fun a=>by by_cases h:a<0<;>simp[h]<;>omega
 rw[g0,g0]
 unfold pw
 by_cases hall:gX w.1=true∧0≤w.2.1∧0≤w.2.2.2.2.2.2.2.2.1∧bI w.2.2.1 0 99899=true∧eN k w=true∧(w.2.2.2.2.1.length:Int)=w.1.2.2.1∧(w.2.2.2.2.2.2.2.2.2.2.2.2.1.length:Int)=5∧cj w.2.2.2.2.2.1=true∧cj w.2.2.2.2.2.2.2.2.2.2.2.1=true
 rotate_left
 ·have hf:(gX w.1&&(decide (0≤w.2.1)&&(decide (0≤w.2.2.2.2.2.2.2.2.1)&&(bI w.2.2.1 0 99899&&(eN k w&&(decide ((w.2.2.2.2.1.length:Int)=w.1.2.2.1)&&(decide ((w.2.2.2.2.2.2.2.2.2.2.2.2.1.length:Int)=5)&&(cj w.2.2.2.2.2.1&&(cj w.2.2.2.2.2.2.2.2.2.2.2.1&&
   (qv w.2.2.2.2.1&&(jX k w&&(fj k w&&(gq k w&&dN w)))))))))))))=false:=by
   rw[Bool.eq_false_iff]
   intro h
   simp only[Bool.and_eq_true,decide_eq_true_eq]at h
   exact hall ⟨h.1,h.2.1,h.2.2.1,h.2.2.2.1,h.2.2.2.2.1,h.2.2.2.2.2.1,h.2.2.2.2.2.2.1,h.2.2.2.2.2.2.2.1,h.2.2.2.2.2.2.2.2.1⟩
  rw[hf]
  refine(if_pos ?_).trans rfl
  have hq:¬(gX w.1=true∧decide (0≤w.2.1)=true∧decide (0≤w.2.2.2.2.2.2.2.2.1)=true∧bI w.2.2.1 0 99899=true∧eN k w=true∧decide ((w.2.2.2.2.1.length:Int)=w.1.2.2.1)=true∧decide ((w.2.2.2.2.2.2.2.2.2.2.2.2.1.length:Int)=5)=true∧cj w.2.2.2.2.2.1=true∧cj w.2.2.2.2.2.2.2.2.2.2.2.1=true):=by
   simpa only[decide_eq_true_eq]using hall
  generalize gX w.1=b1 at hq⊢
  generalize decide (0≤w.2.1)=b2 at hq⊢
  generalize decide (0≤w.2.2.2.2.2.2.2.2.1)=b3 at hq⊢
  generalize bI w.2.2.1 0 99899=b4 at hq⊢
  generalize eN k w=b5 at hq⊢
  generalize decide ((w.2.2.2.2.1.length:Int)=w.1.2.2.1)=b6 at hq⊢
  generalize decide ((w.2.2.2.2.2.2.2.2.2.2.2.2.1.length:Int)=5)=b7 at hq⊢
  generalize cj w.2.2.2.2.2.1=b8 at hq⊢
  generalize cj w.2.2.2.2.2.2.2.2.2.2.2.1=b9 at hq⊢
  clear hall hf
  cases b1
  ·rfl
  cases b2
  ·rfl
  cases b3
  ·rfl
  cases b4
  ·rfl
  cases b5
  ·rfl
  cases b6
  ·rfl
  cases b7
  ·rfl
  cases b8
  ·rfl
  cases b9
  ·rfl
  exact absurd ⟨rfl,rfl,rfl,rfl,rfl,rfl,rfl,rfl,rfl⟩ hq
 obtain⟨h1,h2,h3,h4,h5,h6,h7,h8,h9⟩:=hall
 have hst:iL k w.2.2.2.1=true∧(w.2.2.2.1.length:Int)=w.1.1:=by
  unfold eN at h5
  simp only[Bool.and_eq_true,decide_eq_true_eq]at h5
  exact⟨h5.1,h5.2.1⟩
 obtain⟨⟨hl1,_⟩,hheld⟩:=M1 hst.1
 rw[h1,decide_eq_true h2,decide_eq_true h3,h4,h5,decide_eq_true h6,decide_eq_true h7,h8,h9]
 simp only[Bool.true_and]
 refine(tg rfl).trans ?_
 refine(cA (fun i:Nat=>(w,(i:Int),())) (fun i=>pR (w.2.2.2.2.1.getD i aU.aa)) w.2.2.2.2.1.length
  (e:=some (jX k w&&(fj k w&&(gq k w&&dN w)),())) (no:=some (false,())) ?_ ?_ k 0 (by omega) (by omega)).trans ?_
 ·intro G i hi
  dsimp only
  rw[aw,decide_eq_true hi,if_pos rfl,if_pos (aK hi),Int.toNat_natCast,LW hk (Rf hk w3 hi),Option.bind_some,aZ (by omega)]
  cases pR (w.2.2.2.2.1.getD i aU.aa)<;>rfl
 ·intro G
  simp only[aw,Nat.lt_irrefl,decide_false,Bool.false_eq_true,if_false]
  refine(cA (fun i:Nat=>(w,(i:Int),())) (fun i=>qc k w (w.2.2.2.2.2.2.2.2.2.2.2.2.2.getD i aq.aa)) w.2.2.2.2.2.2.2.2.2.2.2.2.2.length
   (e:=some (fj k w&&(gq k w&&dN w),())) (no:=some (false,())) ?_ ?_ k 0 (by omega) (by omega)).trans ?_
  ·intro G i hi
   dsimp only
   rw[aw,decide_eq_true hi,if_pos rfl,if_pos (aK hi),Int.toNat_natCast,H5 hk,Option.bind_some,aZ (by omega)]
   generalize w.2.2.2.2.2.2.2.2.2.2.2.2.2.getD i aq.aa=d
   rw[jM,jM,jM]
   unfold qc
   cases sB k d<;>cases decide (d.2.2.2.2.2.2.2.2.2.1<w.2.1)<;>cases decide (d.2.2.2.2.2.2.2.2.2.2.1<w.2.1)<;>cases decide (d.2.2.2.2.2.2.2.2.2.2.2<w.2.1)<;>rfl
  ·intro G
   simp only[aw,Nat.lt_irrefl,decide_false,Bool.false_eq_true,if_false]
   refine(cA (fun i:Nat=>(w,(i:Int),())) (fun i=>gx k w (w.2.2.2.2.2.2.2.2.2.2.2.2.1.getD i ah.aa) (nC w (w.2.2.2.2.2.2.2.2.2.2.2.2.1.getD i ah.aa)) i) w.2.2.2.2.2.2.2.2.2.2.2.2.1.length
    (e:=gB k (w,())>>= fun r=>(if(r.1==true)=true then ga k (w,())else some (false,()))>>= fun r2=>some (if r.1=true then r2.1 else false,())) (no:=some (false,())) ?_ ?_ k 0 (by omega) (by omega)).trans ?_
   ·intro G i hi
    dsimp only
    rw[aw,decide_eq_true hi,if_pos rfl,He hk hs hi hst.2,Option.bind_some,aZ (by omega)]
    show(if(!gx k w (w.2.2.2.2.2.2.2.2.2.2.2.2.1.getD i ah.aa) (nC w (w.2.2.2.2.2.2.2.2.2.2.2.2.1.getD i ah.aa)) i)=true then _ else _)=_
    cases gx k w (w.2.2.2.2.2.2.2.2.2.2.2.2.1.getD i ah.aa) (nC w (w.2.2.2.2.2.2.2.2.2.2.2.2.1.getD i ah.aa)) i<;>rfl
   ·intro G
    simp only[aw,Nat.lt_irrefl,decide_false,Bool.false_eq_true,if_false]
    rfl
   ·show(if fj k w=true then _ else _)=_
    rcases Bool.eq_false_or_eq_true (fj k w)with ho|ho
    rotate_left
    ·rw[ho];rfl
    ·rw[ho,if_pos rfl,Dz hk hs hheld (by omega) (fun j hj=>Tf hst.2 hl1 ho (by omega)),Be hk hs (by omega)]
     cases gq k w<;>rfl
  ·show(if jX k w=true then _ else _)=_
   cases jX k w<;>simp
 ·show(if qv w.2.2.2.2.1=true then _ else _)=_
  cases qv w.2.2.2.2.1<;>simp
theorem GS {w:ar} (hs:ag aE w≤1048576):lL k (w,())=some (pw k w,()):=by
 obtain⟨w1,w2,w3,w4,w5,w6,w7,w8,w9⟩:=dM hk hs
 simp only[lL,Jn hk w1,et hk,Option.bind_some,iX,bL]
 have g0:∀a:Int,decide (a<0)= !decide (0≤a):=fun a=>by by_cases h:a<0<;>simp[h]<;>omega
 rw[g0,g0]
 unfold pw
 by_cases hall:gX w.1=true∧0≤w.2.1∧0≤w.2.2.2.2.2.2.2.2.1∧bI w.2.2.1 0 99899=true∧(w.2.2.2.2.2.2.2.2.2.2.2.2.1.length:Int)=5
 rotate_left
 ·have hf:(gX w.1&&(decide (0≤w.2.1)&&(decide (0≤w.2.2.2.2.2.2.2.2.1)&&(bI w.2.2.1 0 99899&&(eN k w&&(decide ((w.2.2.2.2.1.length:Int)=w.1.2.2.1)&&(decide ((w.2.2.2.2.2.2.2.2.2.2.2.2.1.length:Int)=5)&&(cj w.2.2.2.2.2.1&&(cj w.2.2.2.2.2.2.2.2.2.2.2.1&&
   (qv w.2.2.2.2.1&&(jX k w&&(fj k w&&(gq k w&&dN w)))))))))))))=false:=by
   rw[Bool.eq_false_iff]
   intro h
   simp only[Bool.and_eq_true,decide_eq_true_eq]at h
   exact hall ⟨h.1,h.2.1,h.2.2.1,h.2.2.2.1,h.2.2.2.2.2.2.1⟩
  rw[hf]
  refine(if_pos ?_).trans rfl
  have hq:¬(gX w.1=true∧decide (0≤w.2.1)=true∧decide (0≤w.2.2.2.2.2.2.2.2.1)=true∧bI w.2.2.1 0 99899=true∧decide ((w.2.2.2.2.2.2.2.2.2.2.2.2.1.length:Int)=5)=true):=by
   simpa only[decide_eq_true_eq]using hall
  generalize gX w.1=b1 at hq⊢
  generalize decide (0≤w.2.1)=b2 at hq⊢
  generalize decide (0≤w.2.2.2.2.2.2.2.2.1)=b3 at hq⊢
  generalize bI w.2.2.1 0 99899=b4 at hq⊢
  generalize decide ((w.2.2.2.2.2.2.2.2.2.2.2.2.1.length:Int)=5)=b7 at hq⊢
  clear hall hf
  cases b1
  ·rfl
  cases b2
  ·rfl
  cases b3
  ·rfl
  cases b4
  ·rfl
  cases b7
  ·rfl
  exact absurd ⟨rfl,rfl,rfl,rfl,rfl⟩ hq
 obtain⟨h1,h2,h3,h4,h7⟩:=hall
 have hcap:w.1.2.1≤8:=by
  unfold gX bI at h1
  simp only[Bool.and_eq_true,decide_eq_true_eq]at h1
  omega
 rw[h1,decide_eq_true h2,decide_eq_true h3,h4,decide_eq_true h7]
 simp only[Bool.true_and]
 refine(tg rfl).trans ?_
 rw[zw hk hs hcap,Option.bind_some]
 rcases Bool.eq_false_or_eq_true (eN k w)with h5|h5
 rotate_left
 ·rw[h5];rfl
 have hst:iL k w.2.2.2.1=true∧(w.2.2.2.1.length:Int)=w.1.1:=by
  unfold eN at h5
  simp only[Bool.and_eq_true,decide_eq_true_eq]at h5
  exact⟨h5.1,h5.2.1⟩
 rw[h5,BG hk w3,jy hk w4,jy hk w7,zZ hk hs hst.2,Af hk hs,zf hk hs (by omega)]
 generalize decide ((w.2.2.2.2.1.length:Int)=w.1.2.2.1)=c1
 generalize cj w.2.2.2.2.2.1=c2
 generalize cj w.2.2.2.2.2.2.2.2.2.2.2.1=c3
 generalize qv w.2.2.2.2.1=c4
 generalize jX k w=c5
 generalize fj k w=c6
 generalize gq k w=c7
 generalize dN w=c8
 clear h5 hst
 cases c4<;>cases c1<;>cases c2<;>cases c3<;>cases c5<;>cases c6<;>cases c7<;>first|rfl|(cases c8<;>rfl)
end
end Vg.Tryz
namespace Vg.Tryz
open Go Vg
set_option linter.unusedVariables false
set_option linter.unusedSectionVars false
set_option linter.unusedSimpArgs false
section
variable {k:Nat} (hk:9223372036854775808≤k)
include hk
theorem PM {l:List aJ} (h:ag (.sl aj) l≤1073741824):pv k (l,())=some (l,()):=
 AD (d:=aj.aa) (S:=ir k) hk (Nat.le_trans (aA (e:=aj)) h) (fun e he=>PT hk (Nat.le_trans (bo (e:=aj) he) h))
theorem Lv {l:List aJ} (h:ag (.sl aj) l≤1073741824):lZ k (l,())=some (l,()):=
 FX (d:=aj.aa) (S:=gj k) hk (Nat.le_trans (aA (e:=aj)) h) (fun e he=>M0 hk (Nat.le_trans (bo (e:=aj) he) h))
end
end Vg.Tryz
namespace Vg.Tryz
open Go Vg
set_option linter.unusedVariables false
set_option linter.unusedSectionVars false
set_option linter.unusedSimpArgs false
section
variable {k:Nat} (hk:9223372036854775808≤k)
include hk
theorem RS {c:bc} (h:ag ay c≤1073741824):nh k (c,())=some (c,()):=by
 have h1:=ei hk c
 simp only[nh]
 rw[jn hk (by omega),Option.bind_some]
theorem Nr {c:bc} (h:ag ay c≤1073741824):jk k (c,())=some (c,()):=by
 have h1:=ei hk c
 simp only[jk]
 rw[dY hk (by omega),Option.bind_some]
theorem RV {p:aG} (h:ag ak p≤1073741824):jB k (p,())=some (p,()):=by
 have h1:=dD hk p
 have hl:=aA (e:=ay) (l:=p.2.2)
 simp only[jB]
 refine cB (fun i=>(p,(0,(0,([]:List bc))),(p.1,p.2.1,p.2.2.take i),(i:Int),())) p.2.2.length (fun G i hi=> ?_) (fun G=> ?_) k 0 (by omega) (by omega)
 ·have hm:=bo (e:=ay) (ck (d:=ay.aa) hi)
  simp only[aw,aK hi,hi,decide_true,if_true,Int.toNat_natCast]
  rw[RS hk (by omega),Option.bind_some,if_pos (by simp;omega),aZ (by omega),fN ay.aa hi]
 ·simp
theorem ON {p:aG} (h:ag ak p≤1073741824):gz k (p,())=some (p,()):=by
 have h1:=dD hk p
 have hl:=aA (e:=ay) (l:=p.2.2)
 simp only[gz]
 refine cB (fun i=>(p,(0,(0,([]:List bc))),(p.1,p.2.1,p.2.2.take i),p.2.2,(p.2.2.length:Int),(i:Int),())) p.2.2.length (fun G i hi=> ?_) (fun G=> ?_) k 0 (by omega) (by omega)
 ·have hm:=bo (e:=ay) (ck (d:=ay.aa) hi)
  simp only[aw,aK hi,hi,decide_true,if_true,Int.toNat_natCast]
  rw[Nr hk (by omega),Option.bind_some,if_pos (by simp;omega),aZ (by omega),fN ay.aa hi]
 ·simp
theorem RX {l:List aG} (h:ag (.sl ak) l≤1073741824):qG k (l,())=some (l,()):=
 AD (d:=ak.aa) (S:=jB k) hk (Nat.le_trans (aA (e:=ak)) h) (fun e he=>RV hk (Nat.le_trans (bo (e:=ak) he) h))
theorem MW {l:List aG} (h:ag (.sl ak) l≤1073741824):nj k (l,())=some (l,()):=
 FX (d:=ak.aa) (S:=gz k) hk (Nat.le_trans (aA (e:=ak)) h) (fun e he=>ON hk (Nat.le_trans (bo (e:=ak) he) h))
theorem Rh {s:bF} (h:ag aU s≤1073741824):jP k (s,())=some (s,()):=by
 have h1:=nH hk s
 simp only[jP]
 rw[jn hk (by omega),Option.bind_some]
theorem PH {s:bF} (h:ag aU s≤1073741824):iq k (s,())=some (s,()):=by
 have h1:=nH hk s
 simp only[iq]
 rw[dY hk (by omega),Option.bind_some]
theorem SD {l:List bF} (h:ag (.sl aU) l≤1073741824):sI k (l,())=some (l,()):=
 AD (d:=aU.aa) (S:=jP k) hk (Nat.le_trans (aA (e:=aU)) h) (fun e he=>Rh hk (Nat.le_trans (bo (e:=aU) he) h))
theorem OD {l:List bF} (h:ag (.sl aU) l≤1073741824):ow k (l,())=some (l,()):=
 FX (d:=aU.aa) (S:=iq k) hk (Nat.le_trans (aA (e:=aU)) h) (fun e he=>PH hk (Nat.le_trans (bo (e:=aU) he) h))
theorem LP {l:List bl} (h:l.length≤1073741824):ic k (l,())=some (l,()):=by
 simp only[ic]
 rw[if_pos (by simp;omega)]
 simp
theorem MN {b:bz} (h:ag aN b≤1073741824):jx k (b,())=some (b,()):=by
 have h1:=nG hk b
 have h2:=aA (e:=af) (l:=b.2.1)
 simp only[jx]
 rw[oq hk (by omega),Option.bind_some,dY hk (by omega),Option.bind_some]
theorem FK {t:aL} (h:ag ah t≤1073741824):iD k (t,())=some (t,()):=by
 have h1:=dI hk t
 have h2:=aA (e:=af) (l:=t.2.2.2.1)
 have h3:=aA (e:= .int .i64) (l:=t.2.2.2.2.2.1)
 simp only[iD]
 rw[nO hk (by omega),Option.bind_some,if_pos (by simp;omega),if_pos (by simp;omega),jn hk (by omega),Option.bind_some]
 simp
theorem N6 {t:aL} (h:ag ah t≤1073741824):kq k (t,())=some (t,()):=by
 have h1:=dI hk t
 have h2:=aA (e:=af) (l:=t.2.2.2.1)
 have h3:=aA (e:= .int .i64) (l:=t.2.2.2.2.2.1)
 simp only[kq]
 rw[oL hk (by omega),Option.bind_some,oq hk (by omega),Option.bind_some,if_pos (by simp;omega),dY hk (by omega),Option.bind_some]
 simp
theorem Qm {d:bg} (h:ag aq d≤1073741824):iT k (d,())=some (d,()):=by
 have h1:=kE hk d
 have h2:=aA (e:=af) (l:=d.2.2.2.1)
 simp only[iT]
 rw[nO hk (by omega),Option.bind_some,if_pos (by simp;omega),jn hk (by omega),Option.bind_some]
 simp
theorem OH {d:bg} (h:ag aq d≤1073741824):ku k (d,())=some (d,()):=by
 have h1:=kE hk d
 have h2:=aA (e:=af) (l:=d.2.2.2.1)
 simp only[ku]
 rw[oL hk (by omega),Option.bind_some,oq hk (by omega),Option.bind_some,dY hk (by omega),Option.bind_some]
theorem Rx {l:List bg} (h:ag (.sl aq) l≤1073741824):qI k (l,())=some (l,()):=
 AD (d:=aq.aa) (S:=iT k) hk (Nat.le_trans (aA (e:=aq)) h) (fun e he=>Qm hk (Nat.le_trans (bo (e:=aq) he) h))
theorem Nc {b:bz} (h:ag aN b≤1073741824):gL k (b,())=some (b,()):=by
 have h1:=nG hk b
 exact Ox hk (by omega) (by omega)
theorem P7 {w:ar} (hs:ag aE w≤1073741824):lM k (w,())=some (w,()):=by
 have ht:=gG hk w
 obtain⟨c,tm,now,st,sb,fd,gh,gr,nn,hp,sk,sd,tk,dd⟩:=w
 simp only at ht
 have h1:=aA (e:=aC) (l:=hp)
 have h2:=aA (e:=aN) (l:=sk)
 have h3:=aA (e:=ah) (l:=tk)
 simp only[lM,aP]
 rw[Qu hk (by omega),Option.bind_some,RX hk (by omega),Option.bind_some,SD hk (by omega),Option.bind_some,jn hk (by omega),Option.bind_some,PM hk (by omega),Option.bind_some,if_pos (by simp;omega)]
 simp only[List.nil_append]
 refine cB (fun i=>((c,tm,now,st,sb,fd,gh,gr,nn,hp,sk,sd,tk,dd),_,(c,tm,now,st,sb,fd,gh,gr,nn,hp,sk.take i,sd,tk,dd),c,(i:Int),())) sk.length (fun G i hi=> ?_) (fun G=> ?_) k 0 (by omega) (by omega)
 ·have hm:=bo (e:=aN) (ck (d:=aN.aa) hi)
  simp only[aw,aK hi,hi,decide_true,if_true,Int.toNat_natCast]
  rw[Nc hk (by omega),Option.bind_some,if_pos (by simp;omega),aZ (by omega),fN aN.aa hi]
 ·simp only[aw,Nat.lt_irrefl,decide_false,Bool.false_eq_true,if_false,List.take_length]
  rw[jn hk (by omega),Option.bind_some]
  refine cB (fun i=>((c,tm,now,st,sb,fd,gh,gr,nn,hp,sk,sd,tk,dd),_,(c,tm,now,st,sb,fd,gh,gr,nn,hp,sk,sd,tk.take i,dd),c,(i:Int),())) tk.length (fun G i hi=> ?_) (fun G=> ?_) k 0 (by omega) (by omega)
  ·have hm:=bo (e:=ah) (ck (d:=ah.aa) hi)
   simp only[aw,aK hi,hi,decide_true,if_true,Int.toNat_natCast]
   rw[FK hk (by omega),Option.bind_some,if_pos (by simp;omega),aZ (by omega),fN ah.aa hi]
  ·simp only[aw,Nat.lt_irrefl,decide_false,Bool.false_eq_true,if_false,List.take_length]
   rw[Rx hk (by omega),Option.bind_some]
theorem MH {w:ar} (hs:ag aE w≤1073741824):eU k (w,())=some (w,()):=by
 have ht:=gG hk w
 obtain⟨c,tm,now,st,sb,fd,gh,gr,nn,hp,sk,sd,tk,dd⟩:=w
 simp only at ht
 have h1:=aA (e:=aC) (l:=hp)
 have h2:=aA (e:=aN) (l:=sk)
 have h3:=aA (e:=ah) (l:=tk)
 have h4:=aA (e:=aq) (l:=dd)
 simp only[eU,aP]
 rw[Ou hk (by omega),Option.bind_some,MW hk (by omega),Option.bind_some,OD hk (by omega),Option.bind_some,dY hk (by omega),Option.bind_some,dY hk (by omega),Option.bind_some,
  Lv hk (by omega),Option.bind_some,LP hk (by omega),Option.bind_some]
 refine cB (fun i=>((c,tm,now,st,sb,fd,gh,gr,nn,hp,sk,sd,tk,dd),_,sk.take i,sk,(sk.length:Int),(i:Int),())) sk.length (fun G i hi=> ?_) (fun G=> ?_) k 0 (by omega) (by omega)
 ·have hm:=bo (e:=aN) (ck (d:=aN.aa) hi)
  simp only[aw,aK hi,hi,decide_true,if_true,Int.toNat_natCast]
  rw[MN hk (by omega),Option.bind_some,if_pos (by simp;omega),aZ (by omega),fN aN.aa hi]
 ·simp only[aw,Nat.lt_irrefl,decide_false,Bool.false_eq_true,if_false,List.take_length]
  refine cB (fun i=>((c,tm,now,st,sb,fd,gh,gr,nn,hp,sk,sd,tk,dd),_,sk,tk.take i,tk,(tk.length:Int),(i:Int),())) tk.length (fun G i hi=> ?_) (fun G=> ?_) k 0 (by omega) (by omega)
  ·have hm:=bo (e:=ah) (ck (d:=ah.aa) hi)
   simp only[aw,aK hi,hi,decide_true,if_true,Int.toNat_natCast]
   rw[N6 hk (by omega),Option.bind_some,if_pos (by simp;omega),aZ (by omega),fN ah.aa hi]
  ·simp only[aw,Nat.lt_irrefl,decide_false,Bool.false_eq_true,if_false,List.take_length]
   refine cB (fun i=>((c,tm,now,st,sb,fd,gh,gr,nn,hp,sk,sd,tk,dd),_,sk,tk,dd.take i,dd,(dd.length:Int),(i:Int),())) dd.length (fun G i hi=> ?_) (fun G=> ?_) k 0 (by omega) (by omega)
   ·have hm:=bo (e:=aq) (ck (d:=aq.aa) hi)
    simp only[aw,aK hi,hi,decide_true,if_true,Int.toNat_natCast]
    rw[OH hk (by omega),Option.bind_some,if_pos (by simp;omega),aZ (by omega),fN aq.aa hi]
   ·simp only[aw,Nat.lt_irrefl,decide_false,Bool.false_eq_true,if_false,List.take_length]
end
end Vg.Tryz
namespace Vg.Tryz
open Go Vg
set_option linter.unusedVariables false
set_option linter.unusedSectionVars false
set_option linter.unusedSimpArgs false
section
variable {k:Nat} (hk:9223372036854775808≤k)
include hk
end
end Vg.Tryz
namespace Vg.Tryz
open Go Vg
set_option linter.unusedVariables false
set_option linter.unusedSectionVars false
set_option linter.unusedSimpArgs false
abbrev iz (w:ar):List aL:=w.2.2.2.2.2.2.2.2.2.2.2.2.1
abbrev gF (w:ar):List bg:=w.2.2.2.2.2.2.2.2.2.2.2.2.2
def EY (w:ar) (t:List aL) (d:List bg):ar:=
 (w.1,IntKind.i64.wrap (w.2.1+1),w.2.2.1,w.2.2.2.1,w.2.2.2.2.1,w.2.2.2.2.2.1,w.2.2.2.2.2.2.1,w.2.2.2.2.2.2.2.1,w.2.2.2.2.2.2.2.2.1,w.2.2.2.2.2.2.2.2.2.1,w.2.2.2.2.2.2.2.2.2.2.1,w.2.2.2.2.2.2.2.2.2.2.2.1,t,d)
def Tb (t:aL) (h:Int):aL:=(t.1,t.2.1,t.2.2.1,t.2.2.2.1,t.2.2.2.2.1,t.2.2.2.2.2.1,t.2.2.2.2.2.2.1,t.2.2.2.2.2.2.2.1,h)
def opened (w:ar) (i op:Int) (a:al) (l:List ai) (n:Int):bg:=(op,i,a,l,0,n,0,[],w.2.2.1,w.2.1,-1,-1)
def ND (w:ar) (i:Int) (t:aL) (op:Int):ar:=
 EY w ((iz w).set i.toNat (Tb t (gF w).length)) (gF w++[opened w i op t.2.2.1 t.2.2.2.1 t.2.2.2.2.2.2.2.1])
def xz (w:ar) (i:Int):Bool:=bI i 0 (((iz w).length:Int)-1)&&decide (((iz w).getD i.toNat ah.aa).1=0)
def jY (w:ar) (i:Int):Bool:=bI i 0 2&&xz w i
def SU:al:=([],0,0,ByteArray.empty)
def rE:aL:=(3,0,SU,[],0,[],[],0,0)
def M9 (k:Nat) (w:ar) (i:Int):Bool:=pw k w&&jY w i
def pU (k:Nat) (w:ar) (i:Int):ar:=if M9 k w i=true then ND w i rE 4 else w
theorem KC {w:ar} {i:Int} (h:jY w i=true):0≤i∧i≤2∧i.toNat<(iz w).length:=by
 unfold jY xz bI at h
 simp only[Bool.and_eq_true,decide_eq_true_eq]at h
 omega
theorem Um:ag (.sl af) ([]:List ai)=0:=rfl
theorem Ss:ag (.sl ab) ([]:List al)=0:=rfl
theorem Uh:ag (.sl (.int .i64)) ([]:List Int)=0:=rfl
section
variable {k:Nat} (hk:9223372036854775808≤k)
include hk
theorem rq {w:ar} (hs:ag aE w≤1048576):(iz w).length≤1048576∧(gF w).length≤1048576:=by
 obtain⟨w1,w2,w3,w4,w5,w6,w7,w8,w9⟩:=dM hk hs
 exact⟨Nat.le_trans (aA (e:=ah)) w8,Nat.le_trans (aA (e:=aq)) w9⟩
theorem NW {w:ar} {i:Int} (hs:ag aE w≤1048576):pQ k (w,i,())=some (xz w i,()):=by
 have hl:w.2.2.2.2.2.2.2.2.2.2.2.2.1.length≤1048576:=(rq hk hs).1
 simp only[pQ]
 rw[pS (by omega),fc hk,Option.bind_some]
 simp only[xz,iz]
 by_cases h:bI i 0 ((w.2.2.2.2.2.2.2.2.2.2.2.2.1.length:Int)-1)=true
 ·have h':=h
  unfold bI at h'
  simp only[Bool.and_eq_true,decide_eq_true_eq]at h'
  rw[h]
  refine(if_pos (by simp;omega)).trans ?_
  simp[bZ]
 ·rw[Bool.not_eq_true]at h
  rw[h]
  exact(if_pos rfl).trans rfl
theorem NG {w:ar} {i:Int} (hs:ag aE w≤1048576):pP k (w,i,())=some (xz w i,()):=by
 have hl:w.2.2.2.2.2.2.2.2.2.2.2.2.1.length≤1048576:=(rq hk hs).1
 simp only[pP]
 rw[pS (by omega),et hk,Option.bind_some]
 simp only[xz,iz]
 by_cases h:bI i 0 ((w.2.2.2.2.2.2.2.2.2.2.2.2.1.length:Int)-1)=true
 ·have h':=h
  unfold bI at h'
  simp only[Bool.and_eq_true,decide_eq_true_eq]at h'
  rw[h]
  refine(if_pos (by simp;omega)).trans ?_
  simp[bZ]
 ·rw[Bool.not_eq_true]at h
  rw[h]
  exact(if_pos rfl).trans rfl
theorem IG {w:ar} {i:Int} (hs:ag aE w≤1048576):mY k (w,i,())=some (jY w i,()):=by
 simp only[mY,et hk,NG hk hs,Option.bind_some]
 unfold jY
 cases bI i 0 2<;>simp
theorem LJ {w:ar} {d:bg} (hs:ag aE w≤1048576):gQ k (w,d,())=
 some (((gF w).length:Int),(w.1,w.2.1,w.2.2.1,w.2.2.2.1,w.2.2.2.2.1,w.2.2.2.2.2.1,w.2.2.2.2.2.2.1,w.2.2.2.2.2.2.2.1,w.2.2.2.2.2.2.2.2.1,w.2.2.2.2.2.2.2.2.2.1,w.2.2.2.2.2.2.2.2.2.2.1,w.2.2.2.2.2.2.2.2.2.2.2.1,iz w,
  gF w++[(d.1,d.2.1,d.2.2.1,d.2.2.2.1,d.2.2.2.2.1,d.2.2.2.2.2.1,d.2.2.2.2.2.2.1,d.2.2.2.2.2.2.2.1,w.2.2.1,w.2.1,-1,-1)]),()):=by
 have hl:w.2.2.2.2.2.2.2.2.2.2.2.2.2.length≤1048576:=(rq hk hs).2
 simp only[gQ]
 rw[if_pos (by simp;omega)]
 have e:IntKind.i64.wrap ((((gF w++[(d.1,d.2.1,d.2.2.1,d.2.2.2.1,d.2.2.2.2.1,d.2.2.2.2.2.1,d.2.2.2.2.2.2.1,d.2.2.2.2.2.2.2.1,w.2.2.1,w.2.1,-1,-1)]).length:Nat):Int)-1)=((gF w).length:Int):=by
  rw[List.length_append,List.length_singleton,pS (by simp only[gF];omega)]
  omega
 rw[e]
theorem Lc {w:ar} {i:Int} {t:aL} {d:bg} (hs:ag aE w≤1048576):gR k (w,i,t,d,())=
 some (if jY w i=true then(true,EY w ((iz w).set i.toNat (Tb t (gF w).length)) (gF w++[(d.1,i,d.2.2.1,d.2.2.2.1,d.2.2.2.2.1,d.2.2.2.2.2.1,d.2.2.2.2.2.2.1,d.2.2.2.2.2.2.2.1,w.2.2.1,w.2.1,-1,-1)]),())else(false,w,())):=by
 simp only[gR,IG hk hs,Option.bind_some]
 by_cases hc:jY w i=true
 ·obtain⟨h1,h2,h3⟩:=KC hc
  rw[hc,if_neg (by simp),if_pos rfl,LJ hk hs,Option.bind_some]
  refine(if_pos (by simp;omega)).trans ?_
  rfl
 ·rw[Bool.not_eq_true]at hc
  rw[hc]
  exact(if_pos rfl).trans (by simp)
theorem HF {op:Int} (h0:0≤op) (h1:op≤6):ed k (op,())=some (List.getD [0,1,3,4,6,7,8] op.toNat 0,()):=by
 simp only[ed]
 rw[if_pos (by simp;omega)]
theorem LF {w:ar} {i:Int} {t:aL} (hs:ag aE w≤1048576) (ht:ag ah t≤1048576) (h0:0≤t.1) (h1:t.1≤6) (hi:0≤i) (hi2:i.toNat<w.2.2.2.2.2.2.2.2.2.2.2.2.1.length):
 kh k (w,i,t,())=some (ND w i t (List.getD [0,1,3,4,6,7,8] t.1.toNat 0),()):=by
 have hl:w.2.2.2.2.2.2.2.2.2.2.2.2.2.length≤1048576:=(rq hk hs).2
 have hT:=dI hk t
 have h2:=aA (e:=af) (l:=t.2.2.2.1)
 simp only[kh,oS]
 rw[FK hk (by omega),Option.bind_some]
 simp only[HF hk h0 h1,nO hk (a:=t.2.2.1) (by omega),Option.bind_some,List.nil_append,List.length_nil,Nat.zero_add,List.length_singleton]
 rw[if_pos (by simp;omega),if_pos (by simp;omega),if_pos (by simp;omega),Option.bind_some]
 rfl
theorem NX {w:ar} {i:Int} (hs:ag aE w≤1048576):pT k (w,i,())=some (pU k w i,M9 k w i,()):=by
 simp only[pT,P7 hk (w:=w) (by omega),Gs hk hs,fc hk,NW hk hs,Option.bind_some]
 unfold pU M9 jY
 by_cases hw:pw k w=true
 rotate_left
 ·rw[Bool.not_eq_true]at hw;simp[hw]
 by_cases hn:bI i 0 2=true
 rotate_left
 ·rw[Bool.not_eq_true]at hn;simp[hw,hn]
 by_cases hd:xz w i=true
 rotate_left
 ·rw[Bool.not_eq_true]at hd;simp[hw,hn,hd]
 obtain⟨q1,q2,q3⟩:=KC (w:=w) (i:=i) (by unfold jY;rw[hn,hd];rfl)
 have:=LF hk (w:=w) (i:=i) (t:=rE) hs (by simp[dI hk,rE,SU,ag]) (by decide) (by decide) q1 q3
 simp only[hw,hn,hd,Bool.not_true,beq_self_eq_true,if_true,Option.bind_some,Bool.false_eq_true,if_false,Bool.and_self]
 exact(congrArg (fun o=>Option.bind o _) this).trans rfl
theorem Au {w:ar} {i:Int} (hs:ag aE w≤1048576):mo k (w,i,())=some (pU k w i,M9 k w i,()):=by
 simp only[mo,mg,MH hk (w:=w) (by omega),GS hk hs,Lc hk hs,Option.bind_some]
 unfold pU M9
 by_cases hw:pw k w=true
 rotate_left
 ·rw[Bool.not_eq_true]at hw;simp[hw]
 by_cases hc:jY w i=true
 ·simp only[hw,hc,Bool.not_true,beq_self_eq_true,if_true,Bool.false_eq_true,if_false,Bool.and_self]
  rfl
 ·rw[Bool.not_eq_true]at hc
  simp[hw,hc]
theorem PW {w:ar} {t:List aL} {d:List bg} {m n:Nat} (h1:ag (.sl ah) t≤ag (.sl ah) (iz w)+m) (h2:ag (.sl aq) d≤ag (.sl aq) (gF w)+n):ag aE (EY w t d)≤ag aE w+m+n:=by
 rw[gG hk,gG hk]
 simp only[EY]
 simp only[iz,gF]at h1 h2
 omega
theorem TL {e:Ty} {l:List e.den} {x:e.den}:ag (.sl e) (l++[x])=ag (.sl e) l+(1+ag e x):=by
 rw[JT,fv,Pn];omega
theorem PY {w:ar} {i op:Int} {t:aL}:ag aE (ND w i t op)≤ag aE w+ag ah t+(1+(ag ab t.2.2.1+ag (.sl af) t.2.2.2.1)):=by
 refine PW hk ?_ ?_
 ·by_cases h:i.toNat<(iz w).length
  ·have:=Pa (e:=ah) (iz w) i.toNat (Tb t (gF w).length) h
   have e:ag ah (Tb t (gF w).length)=ag ah t:=by rw[dI hk,dI hk];rfl
   omega
  ·rw[List.set_eq_of_length_le (by omega)];omega
 ·rw[TL hk,kE hk]
  simp only[opened,Ss]
  omega
theorem Ri {w:ar} {i:Int}:ag aE (pU k w i)≤ag aE w+8:=by
 unfold pU
 split
 ·have:=PY hk (w:=w) (i:=i) (op:=4) (t:=rE)
  have e:ag ah rE=0:=by rw[dI hk,ch hk];simp only[rE,SU,Um,Ss,Uh];rfl
  have e2:ag ab rE.2.2.1=0:=by rw[ch hk];simp only[rE,SU,Um,Ss,Uh];rfl
  have e3:ag (.sl af) rE.2.2.2.1=0:=rfl
  omega
 ·omega
end
end Vg.Tryz
namespace Vg.Tryz
open Go Vg
set_option linter.unusedVariables false
set_option linter.unusedSectionVars false
set_option linter.unusedSimpArgs false
section
variable {k:Nat} (hk:9223372036854775808≤k)
include hk
set_option maxHeartbeats 2000000 in
theorem Sl {x:ar×Int×Unit} (h_w:Fits aE x.1):kT k x=some (true,()):=by
 obtain⟨w,i,u⟩:=x
 simp only at h_w
 unfold kT
 refine(bind_eq (PO hk h_w (by omega) (by omega)) _).trans ?_
 by_cases q0:bH (ag aE w) 1048576<0
 ·rw[if_pos (by simpa using q0)]
 refine(bw (by simpa using q0)).trans ?_
 have hsz:=(cI q0).2
 have t1:=Ri hk (w:=w) (i:=i)
 obtain⟨n0,v0_0,v0_1,v0_2,v0_3,v0_4,v0_5,v0_6,v0_7,v0_8,v0_9,m0,p0,r0,w0⟩:=zO hk w 1 (by omega) (by unfold bu;omega)
 have z0:decide (n0<0)=false:=by simp;omega
 obtain⟨n1,v1_0,v1_1,v1_2,v1_3,v1_4,v1_5,v1_6,v1_7,v1_8,v1_9,m1,p1,r1,w1⟩:=zO hk (pU k w i) 1 (by omega) (by unfold bu;omega)
 have z1:decide (n1<0)=false:=by simp;omega
 refine(bind_eq (rD hk (x:=w) (by omega)) _).trans ?_
 refine(bind_eq (NX hk (w:=w) (i:=i) (by omega)) _).trans ?_
 refine(bind_eq (rD hk (x:=w) (by omega)) _).trans ?_
 refine(bind_eq (Au hk (w:=w) (i:=i) (by omega)) _).trans ?_
 refine(bind_eq (rC hk (x:=pU k w i) (by omega)) _).trans ?_
 refine(bw (by simp[z0,z1])).trans ?_
 refine(bind_eq (rD hk (x:=w) (by omega)) _).trans ?_
 refine(bind_eq (rC hk (x:=w) (by omega)) _).trans ?_
 refine(bw (by simp[z0,z1])).trans ?_
 refine(bind_eq m0 _).trans ?_
 refine(bind_eq (r:=(true,())) ((if_pos (by simp[z0,z1])).trans (rC hk (x:=pU k w i) (by omega))) _).trans ?_
 refine(bw (by simp[z0,z1])).trans ?_
 refine(bind_eq m1 _).trans ?_
 refine(bind_eq w1 _).trans ?_
 refine(bw (by simp[z0,z1])).trans ?_
 refine(bw (by simp[z0,z1])).trans ?_
 refine(bind_eq (rD hk (x:=w) (by omega)) _).trans ?_
 refine(bind_eq (Au hk (w:=w) (i:=i) (by omega)) _).trans ?_
 refine(bind_eq (rC hk (x:=pU k w i) (by omega)) _).trans ?_
 refine(bw (by simp[z0,z1])).trans ?_
 refine(bind_eq w1 _).trans ?_
 refine(bw (by simp[z0,z1])).trans ?_
 refine(bw (by simp[z0,z1])).trans ?_
 rfl
end
end Vg.Tryz
