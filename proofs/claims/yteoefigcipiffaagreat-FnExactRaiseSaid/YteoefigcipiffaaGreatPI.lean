/- Texts of this law, joined. -/
import Derived.Test.YteoefigcipiffaaGreatQ1
import Derived.Test.YteoefigcipiffaaGreatVd
set_option linter.unusedSimpArgs false
set_option linter.unusedVariables false
namespace Vg.Tryz
open Go Vg
set_option linter.unusedVariables false
set_option linter.unusedSectionVars false
set_option linter.unusedSimpArgs false
theorem uH {α:Type} [DecidableEq α]:∀(l m:List α),allEq (fun a b=>decide (a=b)) l m=decide (l=m)
 | [],[]=>by simp[allEq]
 | [],_::_=>by simp[allEq]
 |_::_,[]=>by simp[allEq]
 |a::l,b::m=>by simp only[allEq,uH l m,List.cons.injEq,Bool.decide_and]
theorem yT (a b:ByteArray):(a.toList==b.toList)=decide (a=b):=by
 by_cases h:a=b
 ·simp[h]
 ·have:¬a.toList=b.toList:=fun e=>h (toList_inj e)
  simp[h,this]
instance iLabel:DecidableEq aj:=inferInstance
instance iLabels:DecidableEq (List aj):=inferInstance
instance iAlarm:DecidableEq ai:= @instDecidableEqProd _ _ inferInstance inferInstance
instance iAlarms:DecidableEq (List ai):=inferInstance
instance iTail:DecidableEq (List Int×(List ai×bl)):=inferInstance
instance iTask:DecidableEq aM:= @instDecidableEqProd _ _ inferInstance (@instDecidableEqProd _ _ inferInstance (@instDecidableEqProd _ _ inferInstance (@instDecidableEqProd _ _ inferInstance (@instDecidableEqProd _ _ inferInstance inferInstance))))
def zT:aM:=(0,0,iX,[],0,[],[],0,0)
def sQ (l:List Int):Bool:=bf 0 l.length (fun i=>decide (0≤l.getD i 0))
def AZ (t:aM):Bool:=decide (t.2.2.2.2.1=0)&&decide (t.2.2.2.2.2.1=[])&&decide (t.2.2.2.2.2.2.1=[])
def gI (t:aM) (n:Int):Bool:=
 bK n 0 4&&decide (0≤t.2.2.2.2.2.2.2.2)&&
 ((decide (t.1=0)&&decide (t=zT))||
  (decide (t.1=1)&&decide (n<3)&&bK t.2.1 0 2&&bZ t.2.2.1&&decide (t.2.2.2.1=[])&&AZ t&&decide (t.2.2.2.2.2.2.2.1=0))||
  (decide (t.1=2)&&decide (n<3)&&bK t.2.1 0 1&&decide (t.2.2.1=iX)&&eN t.2.2.2.1&&AZ t&&decide (t.2.2.2.2.2.2.2.1=0))||
  (decide (t.1=3)&&decide (n<3)&&bK t.2.1 0 2&&decide (t.2.2.1=iX)&&decide (t.2.2.2.1=[])&&sQ t.2.2.2.2.2.1&&decide ((t.2.2.2.2.2.1.length:Int)=t.2.2.2.2.1)&&cj t.2.2.2.2.2.2.1&&
   (if t.2.1=2 then bK t.2.2.2.2.1 1 3 else bK t.2.2.2.2.1 0 2)&&decide (t.2.2.2.2.2.2.2.1=0))||
  (decide (t.1=4)&&decide (n<3)&&bK t.2.1 0 1&&decide (t.2.2.1=iX)&&decide (t.2.2.2.1=[])&&bK t.2.2.2.2.1 0 2&&decide (t.2.2.2.2.2.1=[])&&decide (t.2.2.2.2.2.2.1=[])&&decide (t.2.2.2.2.2.2.2.1=0))||
  (decide (t.1=5)&&decide (n=3)&&bK t.2.1 0 1&&bZ t.2.2.1&&decide (t.2.2.2.1=[])&&AZ t&&decide (t.2.2.2.2.2.2.2.1=0))||
  (decide (t.1=6)&&decide (n=4)&&bK t.2.1 0 1&&decide (t.2.2.1=iX)&&decide (t.2.2.2.1=[])&&AZ t&&decide (0≤t.2.2.2.2.2.2.2.1)))
def sS (k:Nat) (d:aY):Bool:=match gx k (d,())with|some r=>r.1|none=>false
def nK (k:Nat) (t:aM) (n:Int):Int:=
 if n<1 then-1
 else if t.1=1∧(t.2.1=1∨t.2.1=2)then dW (jh k t.2.2.1.1) n
 else if t.1=2∧t.2.1=1 then dW (jh k t.2.2.2.1) n
 else if(t.1=3∨t.1=4)∧t.2.1=1 then t.2.2.2.2.1
 else-1
def u9 (t:aM):Bool:=(decide (t.1=5)||decide (t.1=6))&&decide (t.2.1=1)
section
variable {k:Nat} (hk:9223372036854775808≤k)
include hk
theorem eG {a b:ai} (ha:a.1.length≤1048576):cR k (a,b,())=some (decide (a=b),()):=by
 obtain⟨a1,a2,a3,a4⟩:=a
 obtain⟨b1,b2,b3,b4⟩:=b
 simp only[cR,dV hk ha,Option.bind_some,bY,yT,Prod.mk.injEq,Bool.decide_and]
 by_cases h1:a1=b1<;>by_cases h2:a2=b2<;>by_cases h3:a3=b3<;>simp[h1,h2,h3]
theorem ic {a b:ai} (ha:a.1.length≤1048576):cT k (a,b,())=some (decide (a=b),()):=by
 obtain⟨a1,a2,a3,a4⟩:=a
 obtain⟨b1,b2,b3,b4⟩:=b
 simp only[cT,ey hk ha,Option.bind_some,bY,yT,Prod.mk.injEq,Bool.decide_and]
 by_cases h1:a1=b1<;>by_cases h2:a2=b2<;>by_cases h3:a3=b3<;>simp[h1,h2,h3]
theorem jf {a:ai} (h:ag ab a≤1048576):a.1.length≤1048576:=by
 rw[cr hk]at h
 have:=aA (e:=af) (l:=a.1)
 omega
theorem Iq {a b:List ai} (ha:ag (.sl ab) a≤1048576):mP k (a,b,())=some (decide (a=b),()):=by
 rw[←uH]
 have hl:=aA (e:=ab) (l:=a)
 exact TK (d:=ab.aa) (S:=cR k) hk (by omega) (fun x hx y _=>eG hk (jf hk (Nat.le_trans (bo (e:=ab) hx) ha)))
theorem qy {a b:List ai} (ha:ag (.sl ab) a≤1048576):fF k (a,b,())=some (decide (a=b),()):=by
 rw[←uH]
 have hl:=aA (e:=ab) (l:=a)
 exact PH (d:=ab.aa) (S:=cT k) hk (by omega) (fun x hx y _=>ic hk (jf hk (Nat.le_trans (bo (e:=ab) hx) ha)))
theorem DF {a b:List Int} (ha:a.length≤1048576):gF k (a,b,())=some (decide (a=b),()):=by
 rw[←uH]
 refine Eq.trans ?_ (PH (d:=(0:Int)) (S:=fun z=>some (decide ((z.1:Int)=z.2.1),())) (p:=fun a b=>decide (a=b)) hk (by omega) (fun x hx y _=>rfl))
 simp only[gF,Ub,Option.bind_some,ir]
theorem DU {a b:aM} (ha:ag ah a≤1048576):gA k (a,b,())=some (decide (a=b),()):=by
 rw[dJ hk]at ha
 have h1:=jf hk (a:=a.2.2.1) (by omega)
 have h2:=aA (e:=af) (l:=a.2.2.2.1)
 have h3:=aA (e:= .int .i64) (l:=a.2.2.2.2.2.1)
 have q1:∀b,cT k (a.2.2.1,b,())=some (decide (a.2.2.1=b),()):=fun b=>ic hk h1
 have q2:∀b,cM k (a.2.2.2.1,b,())=some (decide (a.2.2.2.1=b),()):=fun b=>ey hk (by omega)
 have q3:∀b,gF k (a.2.2.2.2.2.1,b,())=some (decide (a.2.2.2.2.2.1=b),()):=fun b=>DF hk (by omega)
 have q4:∀b,fF k (a.2.2.2.2.2.2.1,b,())=some (decide (a.2.2.2.2.2.2.1=b),()):=fun b=>qy hk (by omega)
 obtain⟨a1,a2,a3,a4,a5,a6,a7,a8,a9⟩:=a
 obtain⟨b1,b2,b3,b4,b5,b6,b7,b8,b9⟩:=b
 simp only at q1 q2 q3 q4
 simp only[gA,q1,q2,q3,q4,bM,Option.bind_some,bY,Prod.mk.injEq,Bool.decide_and]
 by_cases e1:a1=b1
 ·by_cases e2:a2=b2
  ·by_cases e3:a3=b3
   ·by_cases e4:a4=b4
    ·by_cases e5:a5=b5
     ·by_cases e6:a6=b6
      ·by_cases e7:a7=b7
       ·by_cases e8:a8=b8<;>simp[e1,e2,e3,e4,e5,e6,e7,e8]
       ·simp[e1,e2,e3,e4,e5,e6,e7]
      ·simp[e1,e2,e3,e4,e5,e6]
     ·simp[e1,e2,e3,e4,e5]
    ·simp[e1,e2,e3,e4]
   ·simp[e1,e2,e3]
  ·simp[e1,e2]
 ·simp[e1]
theorem Bf {t:aM} {n:Int} (hs:ag ah t≤1048576):jm k (t,n,())=some (nK k t n,()):=by
 rw[dJ hk]at hs
 have ha:ag (.sl af) t.2.2.1.1≤1048576:=by
  have:=cr hk t.2.2.1
  omega
 simp only[jm,qL,iy hk ha,iy hk (l:=t.2.2.2.1) (by omega),lF hk,Option.bind_some,bY]
 unfold nK
 by_cases hn:n<1
 ·simp[hn]
 ·by_cases p1:t.2.1=1
  ·by_cases h1:t.1=1
   ·simp[hn,p1,h1]
   ·by_cases h2:t.1=2
    ·simp[hn,p1,h1,h2]
    ·by_cases h3:t.1=3
     ·simp[hn,p1,h1,h2,h3]
     ·by_cases h4:t.1=4<;>simp[hn,p1,h1,h2,h3,h4]
  ·by_cases h1:t.1=1
   ·by_cases p2:t.2.1=2<;>simp[hn,p1,p2,h1]
   ·simp[hn,p1,h1]
theorem Bw {t:aM} {n:Int} (hs:ag ah t≤1048576):jl k (t,n,())=some (nK k t n,()):=by
 rw[dJ hk]at hs
 have ha:ag (.sl af) t.2.2.1.1≤1048576:=by
  have:=cr hk t.2.2.1
  omega
 simp only[jl,iE hk ha,iE hk (l:=t.2.2.2.1) (by omega),iF hk,Option.bind_some,bY]
 unfold nK
 by_cases hn:n<1
 ·simp[hn]
 ·by_cases p1:t.2.1=1
  ·by_cases h1:t.1=1
   ·simp[hn,p1,h1]
   ·by_cases h2:t.1=2
    ·simp[hn,p1,h1,h2]
    ·by_cases h3:t.1=3
     ·simp[hn,p1,h1,h2,h3]
     ·by_cases h4:t.1=4<;>simp[hn,p1,h1,h2,h3,h4]
  ·by_cases h1:t.1=1
   ·by_cases p2:t.2.1=2<;>simp[hn,p1,p2,h1]
   ·simp[hn,p1,h1]
theorem zg {t:aM}:gR k (t,())=some (u9 t,()):=by
 simp only[gR,u9,bY]
 by_cases h1:t.1=5<;>by_cases h2:t.1=6<;>simp[h1,h2]
theorem ze {t:aM}:gD k (t,())=some (u9 t,()):=by
 simp only[gD,u9,bY]
 by_cases h1:t.1=5<;>by_cases h2:t.1=6<;>simp[h1,h2]
theorem IS {t:aM} (hs:ag ah t≤1048576):nj k (t,())=some (sQ t.2.2.2.2.2.1&&(decide ((t.2.2.2.2.2.1.length:Int)=t.2.2.2.2.1)&&cj t.2.2.2.2.2.2.1&&(if t.2.1=2 then bK t.2.2.2.2.1 1 3 else bK t.2.2.2.2.1 0 2)),()):=by
 rw[dJ hk]at hs
 have h3:=aA (e:= .int .i64) (l:=t.2.2.2.2.2.1)
 simp only[nj,aO]
 refine(bN (fun i:Nat=>(t,t.2.2.2.2.2.1,(t.2.2.2.2.2.1.length:Int),(i:Int),())) (fun i=>decide (0≤t.2.2.2.2.2.1.getD i 0)) t.2.2.2.2.2.1.length
  (e:=some (decide ((t.2.2.2.2.2.1.length:Int)=t.2.2.2.2.1)&&cj t.2.2.2.2.2.2.1&&(if t.2.1=2 then bK t.2.2.2.2.1 1 3 else bK t.2.2.2.2.1 0 2),())) (no:=some (false,())) ?_ ?_ k 0 (by omega)).trans ?_
 ·intro G i hi
  simp only[aw,aK hi,hi,decide_true,if_true,Int.toNat_natCast,rI]
  rw[bd (by omega)]
  rcases Bool.eq_false_or_eq_true (decide (t.2.2.2.2.2.1.getD i 0<0))with h|h<;>simp only[h,if_true,Bool.false_eq_true,if_false,Bool.not_true,Bool.not_false]
 ·intro G i hi
  simp only[aw]
  rw[if_neg (by simp;omega)]
  simp only[jq hk (l:=t.2.2.2.2.2.2.1) (by omega),ew hk,Option.bind_some,ir,bY,bM]
  by_cases q:(t.2.2.2.2.2.1.length:Int)=t.2.2.2.2.1<;>by_cases p:t.2.1=2<;>cases hb:cj t.2.2.2.2.2.2.1<;>simp[q,p]
 ·unfold sQ
  generalize bf 0 t.2.2.2.2.2.1.length _=b
  cases b<;>simp
theorem Ht {t:aM} (hs:ag ah t≤1048576):lJ k (t,())=some (sQ t.2.2.2.2.2.1&&(decide ((t.2.2.2.2.2.1.length:Int)=t.2.2.2.2.1)&&(if t.2.1=2 then bK t.2.2.2.2.1 1 3 else bK t.2.2.2.2.1 0 2)),()):=by
 rw[dJ hk]at hs
 have h3:=aA (e:= .int .i64) (l:=t.2.2.2.2.2.1)
 simp only[lJ,aO]
 refine(bN (fun i:Nat=>(t,(i:Int),())) (fun i=>decide (0≤t.2.2.2.2.2.1.getD i 0)) t.2.2.2.2.2.1.length
  (e:=some (decide ((t.2.2.2.2.2.1.length:Int)=t.2.2.2.2.1)&&(if t.2.1=2 then bK t.2.2.2.2.1 1 3 else bK t.2.2.2.2.1 0 2),())) (no:=some (false,())) ?_ ?_ k 0 (by omega)).trans ?_
 ·intro G i hi
  simp only[aw,aK hi,hi,decide_true,if_true,Int.toNat_natCast,rI]
  rw[bd (by omega)]
  rcases Bool.eq_false_or_eq_true (decide (t.2.2.2.2.2.1.getD i 0<0))with h|h<;>simp only[h,if_true,Bool.false_eq_true,if_false,Bool.not_true,Bool.not_false]
 ·intro G i hi
  simp only[aw]
  rw[if_neg (by simp;omega)]
  simp only[fg hk,Option.bind_some,bY,bM]
  generalize t.2.2.2.2.2.1.length=n
  generalize t.2.2.2.2.1=m
  by_cases p:t.2.1=2<;>by_cases q:(n:Int)=m
  ·subst q;simp[p]
  ·have q2:¬m=(n:Int):=fun e=>q e.symm
   simp[p,q,q2]
  ·subst q;simp[p,bK]
  ·simp[p,q]
 ·unfold sQ
  generalize bf 0 t.2.2.2.2.2.1.length _=b
  cases b<;>simp
end
end Vg.Tryz
namespace Vg.Tryz
open Go Vg
set_option linter.unusedVariables false
set_option linter.unusedSectionVars false
set_option linter.unusedSimpArgs false
theorem cA {σ ρ:Type} {f:(σ→Option ρ)→σ→Option ρ} (st:Nat→σ) (p:Nat→Bool) (n:Nat) {e no:Option ρ}
 (hstep:∀G i,i<n→f G (st i)=if p i=true then G (st (i+1))else no) (hend:∀G,f G (st n)=e):
 ∀(k a:Nat),a≤n→n-a<k→az k f (st a)=if bf a n p=true then e else no
 |0,_,_,h=>by omega
 |k+1,a,hn,h=>by
  show f (az k f) (st a)=_
  by_cases ha:a<n
  ·rw[hstep _ a ha,Ko ha,cA st p n hstep hend k (a+1) (by omega) (by omega)]
   cases p a<;>simp
  ·have:a=n:=by omega
   subst this
   rw[hend,NF (by omega),if_pos rfl]
theorem Ay {n:Nat} {p:Nat→Bool}:bf 0 (n+1) p=(bf 0 n p&&p n):=by
 rw[Bool.eq_iff_iff]
 simp only[Bool.and_eq_true,ei]
 constructor
 ·intro h;exact⟨fun i h1 h2=>h i h1 (by omega),h n (by omega) (by omega)⟩
 ·rintro⟨h1,h2⟩ i hi hj
  by_cases he:i=n
  ·subst he;exact h2
  ·exact h1 i hi (by omega)
def AW (st:List aG) (seen:List Int):Bool:=bf 0 seen.length (fun i=> !decide (seen.getD i 0>(st.getD i aq.aa).2.1))
def ou (st:List aG) (seen:List Int):Bool:=bf 0 seen.length (fun i=>decide (seen.getD i 0=(st.getD i aq.aa).2.1))
def k9 (st:List aG) (t:aM):Bool:=
 AW st t.2.2.2.2.2.1&&(!ou st t.2.2.2.2.2.1||decide ((st.take t.2.2.2.2.2.1.length).flatMap bL=t.2.2.2.2.2.2.1))
def pQ (k:Nat) (w:ar) (t:aM) (d:aY):Bool:=
 if t.1=1 then
  decide (d.1=1)&&(if t.2.1=2 then decide (d.2.2.1.1=t.2.2.1.1)&&(gQ k w.2.2.2.1 t.2.2.1.1).2&&decide ((gQ k w.2.2.2.1 t.2.2.1.1).1=t.2.2.1)else decide (d.2.2.1=t.2.2.1)&&fk t.2.2.1)
 else if t.1=2 then decide (d.1=3)&&decide (d.2.2.2.1=t.2.2.2.1)
 else if t.1=3 then decide (d.1=4)&&((if t.2.1=2 then decide ((t.2.2.2.2.2.1.length:Int)=w.1.1)else decide (t.2.2.2.2.1<w.1.1))&&k9 w.2.2.2.1 t)
 else if t.1=4 then decide (d.1=6)&&decide (t.2.2.2.2.1<w.1.1)
 else if t.1=5 then decide (d.1=7)&&decide (d.2.2.1=t.2.2.1)
 else decide (d.1=8)&&(decide (d.2.2.2.2.2.1=t.2.2.2.2.2.2.2.1)&&decide (t.2.2.2.2.2.2.2.1<w.2.2.2.2.2.2.2.2.1))
def gY (k:Nat) (w:ar) (t:aM) (d:aY) (n:Int):Bool:=
 gI t n&&(decide (t.1=0)||(decide (t.2.2.2.2.2.2.2.2<(w.2.2.2.2.2.2.2.2.2.2.2.2.2.length:Int))&&(decide (d.2.1=n)&&decide (d.2.2.2.2.2.2.2.2.2.2.2= -1)&&
  decide ((¬d.2.2.2.2.2.2.2.2.2.2.1= -1)↔(t.1=1∧t.2.1=2))&&pQ k w t d)))
section
variable {k:Nat} (hk:9223372036854775808≤k)
include hk
theorem lE {t:aM} (hs:ag ah t≤1048576):
 ag ab t.2.2.1≤1048576∧ag (.sl af) t.2.2.2.1≤1048576∧t.2.2.2.2.2.1.length≤1048576∧ag (.sl ab) t.2.2.2.2.2.2.1≤1048576∧ag (.sl af) t.2.2.1.1≤1048576:=by
 rw[dJ hk]at hs
 have h2:=aA (e:= .int .i64) (l:=t.2.2.2.2.2.1)
 have:=cr hk t.2.2.1
 omega
theorem Fk {t:aY} (hs:ag ak t≤1048576):
 ag ab t.2.2.1≤1048576∧ag (.sl af) t.2.2.2.1≤1048576∧ag (.sl ab) t.2.2.2.2.2.2.2.1≤1048576∧ag (.sl af) t.2.2.1.1≤1048576:=by
 rw[jt hk]at hs
 have:=cr hk t.2.2.1
 omega
theorem IB {t:aM} {n:Int} (hs:ag ah t≤1048576):nm k (t,n,())=some (gI t n,()):=by
 obtain⟨h1,h2,h3,h4,h5⟩:=lE hk hs
 have h6:=jf hk h1
 simp only[nm,eX,fg hk,pM hk h4,fl hk h1,mN hk h2,eG hk h6,Ht hk hs,Option.bind_some,bM,bY]
 refine congrArg some (Prod.ext ?_ rfl)
 simp only[apply_ite Prod.fst]
 unfold gI
 obtain⟨op,pc,a,l,i,seen,got,nn,hh⟩:=t
 obtain⟨a1,a2,a3,a4⟩:=a
 clear hs h1 h2 h3 h4 h5 h6
 have hA:cj ([]:List ai)=true:=rfl
 have hS:sQ ([]:List Int)=true:=rfl
 simp only[zT,iX,bK,AZ,Prod.mk.injEq]
 rw[Bool.eq_iff_iff]
 by_cases e0:op=0
 ·subst e0;simp;grind
 by_cases e1:op=1
 ·subst e1;simp;grind
 by_cases e2:op=2
 ·subst e2;simp;grind
 by_cases e3:op=3
 ·subst e3;simp;grind
 by_cases e4:op=4
 ·subst e4;simp;grind
 by_cases e5:op=5
 ·subst e5;simp;grind
 by_cases e6:op=6
 ·subst e6;simp;grind
 simp[e0,e1,e2,e3,e4,e5,e6]
theorem Ki {t:aM} {n:Int} (hs:ag ah t≤1048576):mJ k (t,n,())=some (gI t n,()):=by
 obtain⟨h1,h2,h3,h4,h5⟩:=lE hk hs
 simp only[mJ,aO,ew hk,IS hk hs,gU hk h1,na hk h2,DU hk hs,Option.bind_some,bM,bY]
 refine congrArg some (Prod.ext ?_ rfl)
 simp only[apply_ite Prod.fst]
 unfold gI
 obtain⟨op,pc,a,l,i,seen,got,nn,hh⟩:=t
 obtain⟨a1,a2,a3,a4⟩:=a
 clear hs h1 h2 h3 h4 h5
 have hA:cj ([]:List ai)=true:=rfl
 have hS:sQ ([]:List Int)=true:=rfl
 simp only[zT,iX,bK,AZ,Prod.mk.injEq]
 rw[Bool.eq_iff_iff]
 by_cases e0:op=0
 ·subst e0;simp;grind
 by_cases e1:op=1
 ·subst e1;simp;grind
 by_cases e2:op=2
 ·subst e2;simp;grind
 by_cases e3:op=3
 ·subst e3;simp;grind
 by_cases e4:op=4
 ·subst e4;simp;grind
 by_cases e5:op=5
 ·subst e5;simp;grind
 by_cases e6:op=6
 ·subst e6;simp;grind
 simp[e0,e1,e2,e3,e4,e5,e6]
end
end Vg.Tryz
namespace Vg.Tryz
open Go Vg
set_option linter.unusedVariables false
set_option linter.unusedSectionVars false
set_option linter.unusedSimpArgs false
theorem jM (a b:Int):decide (a≥b)= !decide (a<b):=by by_cases h:a<b<;>simp[h]<;>omega
section
variable {k:Nat} (hk:9223372036854775808≤k)
include hk
theorem IE {l:List Int} {n:Int} (hl:l.length≤10):mZ k (l,n,())=some (decide (n∈l),()):=by
 simp only[mZ]
 rw[fv (g:=fun(t:List Int×Int×Int×Unit)=>some (decide (n∈l.drop t.2.2.1.toNat),())) (m:=fun(t:List Int×Int×Int×Unit)=>l.length-t.2.2.1.toNat)
  (I:=fun(t:List Int×Int×Int×Unit)=>t.1=l∧t.2.1=n∧0≤t.2.2.1∧t.2.2.1≤(l.length:Int))]
 ·simp
 ·rintro G ⟨l',n',i,u⟩ ⟨e1,e2,hi0,hi1⟩ hG
  change l'=l at e1
  change n'=n at e2
  subst e1 e2
  simp only at hi0 hi1 hG⊢
  by_cases hi:i<(l'.length:Int)
  ·have h1:i.toNat<l'.length:=by omega
   rw[if_pos (by simpa using hi),if_pos (by simpa using⟨hi0,hi⟩),dy (d:=(0:Int)) h1]
   by_cases he:n'=l'.getD i.toNat 0
   ·rw[if_pos (by rw[he];simp)]
    simp only[List.mem_cons,he,true_or,decide_true]
   ·rw[if_neg (by simp only[beq_iff_eq];exact fun h=>he h.symm),wrap64 (by omega) (by omega),hG (l',n',i+1,()) ⟨rfl,rfl,by simp only;omega,by simp only;omega⟩ (by simp only;omega)]
    simp only[List.mem_cons,he,false_or]
    rw[show(i+1).toNat=i.toNat+1 by omega]
  ·rw[if_neg (by simpa using hi),List.drop_eq_nil_of_le (by omega)]
   simp
 ·exact⟨rfl,rfl,by simp,by simp⟩
 ·simp only
  omega
theorem SU (op n:Int):∃l,ku k (op,())=some (l,())∧l.length≤10∧kB k (op,n,())=some (decide (n∈l),()):=by
 simp only[ku,kB,bA,Option.bind_some,beq_iff_eq]
 split
 ·exact⟨_,rfl,by simp,by congr 2;rw[Bool.eq_iff_iff];simp;omega⟩
 split
 ·exact⟨_,rfl,by simp,by congr 2;rw[Bool.eq_iff_iff];simp;omega⟩
 split
 ·exact⟨_,rfl,by simp,by congr 2;rw[Bool.eq_iff_iff];simp;omega⟩
 split
 ·exact⟨_,rfl,by simp,by congr 2;rw[Bool.eq_iff_iff];simp⟩
 split
 ·exact⟨_,rfl,by simp,by congr 2;rw[Bool.eq_iff_iff];simp;omega⟩
 ·exact⟨_,rfl,by simp,by congr 2;rw[Bool.eq_iff_iff];simp⟩
theorem Pw (d:aY):∃r,gx k (d,())=some r∧jV k (d,())=some r:=by
 obtain⟨op,task,a,l,i,n,code,got,now,inv,lin,res⟩:=d
 obtain⟨cs,c1,c2,c3⟩:=SU hk op code
 simp only[gx,jV,bE,bA,Option.bind_some,bM,c1,c3,IE hk c2]
 generalize decide (code∈cs)=q
 refine⟨_,rfl,congrArg some (Prod.ext ?_ rfl)⟩
 simp only[apply_ite Prod.fst]
 rw[Bool.eq_iff_iff]
 by_cases hl:lin= -1<;>by_cases hr:res= -1<;>by_cases hi:inv≤lin<;>by_cases hj:lin≤res<;>cases q<;>simp[hl,hr,hi,hj]<;>omega
theorem IC {d:aY}:gx k (d,())=some (sS k d,()):=by
 obtain⟨r,h1,h2⟩:=Pw hk d
 unfold sS
 rw[h1]
theorem Jv {d:aY}:jV k (d,())=some (sS k d,()):=by
 obtain⟨r,h1,h2⟩:=Pw hk d
 unfold sS
 rw[h1,h2]
theorem nU {w:ar} {t:aM} (hs:ag ah t≤1048576) (hw:ag (.sl aq) w.2.2.2.1≤1048576) (hl:t.2.2.2.2.2.1.length≤w.2.2.2.1.length):
 eV k (w,t,())=some (k9 w.2.2.2.1 t,()):=by
 obtain⟨h1,h2,h3,h4,h5⟩:=lE hk hs
 simp only[eV,aO]
 refine(cA (fun i:Nat=>(w,t,(w.2.2.2.1.take i).flatMap bL,bf 0 i (fun i=>decide (t.2.2.2.2.2.1.getD i 0=(w.2.2.2.1.getD i aq.aa).2.1)),(i:Int),()))
  (fun i=> !decide (t.2.2.2.2.2.1.getD i 0>(w.2.2.2.1.getD i aq.aa).2.1)) t.2.2.2.2.2.1.length
  (e:=some (!ou w.2.2.2.1 t.2.2.2.2.2.1||decide ((w.2.2.2.1.take t.2.2.2.2.2.1.length).flatMap bL=t.2.2.2.2.2.2.1),())) (no:=some (false,())) ?_ ?_ k 0 (by omega) (by omega)).trans ?_
 ·intro G i hi
  have hi2:i<w.2.2.2.1.length:=by omega
  have hp:=jZ hk hw hi2
  have hb:=fj hk (w.2.2.2.1.take i)
  unfold cW at hb
  have hb1:=kP hk (w.2.2.2.1.getD i aq.aa)
  have hb2:=gf (e:=aq) w.2.2.2.1 i
  have hb3:=aA (e:=ab) (l:=(w.2.2.2.1.take i).flatMap bL)
  have hb4:=aA (e:=ab) (l:=bL (w.2.2.2.1.getD i aq.aa))
  have hb5:decide (((w.2.2.2.1.take i).flatMap bL).length+(bL (w.2.2.2.1.getD i aq.aa)).length<4294967296)=true:=by
   simp only[decide_eq_true_eq];omega
  simp only[aw,aK hi,aK hi2,hi,decide_true,if_true,Int.toNat_natCast,Bool.or_true,ta hk hp,Option.bind_some,hb5]
  rw[bd (by omega),fi aq.aa hi2,Ay]
  rcases Bool.eq_false_or_eq_true (decide (t.2.2.2.2.2.1.getD i 0>(w.2.2.2.1.getD i aq.aa).2.1))with h|h<;>
   simp only[h,if_true,Bool.not_true,Bool.not_false,Bool.false_eq_true,if_false,bY,vM]
 ·intro G
  simp only[aw,Nat.lt_irrefl,decide_false,Bool.false_eq_true,if_false]
  show Option.bind (if((!ou w.2.2.2.1 t.2.2.2.2.2.1)==false)=true then mP k ((w.2.2.2.1.take t.2.2.2.2.2.1.length).flatMap bL,t.2.2.2.2.2.2.1,())else some (false,())) _=_
  have hb:=fj hk (w.2.2.2.1.take t.2.2.2.2.2.1.length)
  unfold cW at hb
  have hb2:=gf (e:=aq) w.2.2.2.1 t.2.2.2.2.2.1.length
  rw[Iq hk (by omega)]
  show Option.bind _ (fun r6:Bool×Unit=>some (if(!ou w.2.2.2.1 t.2.2.2.2.2.1)=true then true else r6.1,()))=_
  cases ou w.2.2.2.1 t.2.2.2.2.2.1<;>simp
 ·unfold k9
  show(if AW w.2.2.2.1 t.2.2.2.2.2.1=true then _ else _)=_
  cases AW w.2.2.2.1 t.2.2.2.2.2.1<;>simp
theorem BY {w:ar} {t:aM} (hs:ag ah t≤1048576) (hw:ag (.sl aq) w.2.2.2.1≤1048576) (hl0:(if t.2.1=2 then decide ((t.2.2.2.2.2.1.length:Int)=w.1.1)else decide (t.2.2.2.2.1<w.1.1))=true→t.2.2.2.2.2.1.length≤w.2.2.2.1.length) (hp:t.2.1≤2):
 jw k (w,t,())=some ((if t.2.1=2 then decide ((t.2.2.2.2.2.1.length:Int)=w.1.1)else decide (t.2.2.2.2.1<w.1.1))&&k9 w.2.2.2.1 t,()):=by
 obtain⟨h1,h2,h3,h4,h5⟩:=lE hk hs
 simp only[jw,aO]
 have hc:(if(if(decide ((t.2.1:Int)<(2:Int)))=true then decide ((t.2.2.2.2.1:Int)≥w.1.1)else false)=true then true else if((t.2.1:Int)==(2:Int))=true then(((List.length t.2.2.2.2.2.1:Nat):Int):Int) != w.1.1 else false)
  = !(if t.2.1=2 then decide ((t.2.2.2.2.2.1.length:Int)=w.1.1)else decide (t.2.2.2.2.1<w.1.1)):=by
  rw[jM,ir]
  by_cases q:t.2.1=2
  ·simp[q]
  ·have q2:t.2.1<2:=by have:=hp;omega
   simp[q,q2]
   exact jM _ _
 rw[hc]
 rcases Bool.eq_false_or_eq_true (if t.2.1=2 then decide ((t.2.2.2.2.2.1.length:Int)=w.1.1)else decide (t.2.2.2.2.1<w.1.1))with hcc|hcc
 rotate_left
 ·rw[hcc];rfl
 have hl:=hl0 hcc
 rw[hcc,if_neg (by simp)]
 refine(cA (fun i:Nat=>(w,t,bf 0 i (fun i=>decide (t.2.2.2.2.2.1.getD i 0=(w.2.2.2.1.getD i aq.aa).2.1)),(w.2.2.2.1.take i).flatMap bL,t.2.2.2.2.2.1,(t.2.2.2.2.2.1.length:Int),(i:Int),()))
  (fun i=> !decide (t.2.2.2.2.2.1.getD i 0>(w.2.2.2.1.getD i aq.aa).2.1)) t.2.2.2.2.2.1.length
  (e:=some (!ou w.2.2.2.1 t.2.2.2.2.2.1||decide ((w.2.2.2.1.take t.2.2.2.2.2.1.length).flatMap bL=t.2.2.2.2.2.2.1),())) (no:=some (false,())) ?_ ?_ k 0 (by omega) (by omega)).trans ?_
 ·intro G i hi
  have hi2:i<w.2.2.2.1.length:=by omega
  have hp:=jZ hk hw hi2
  have hb:=fj hk (w.2.2.2.1.take i)
  unfold cW at hb
  have hb1:=kP hk (w.2.2.2.1.getD i aq.aa)
  have hb2:=gf (e:=aq) w.2.2.2.1 i
  have hb3:=aA (e:=ab) (l:=(w.2.2.2.1.take i).flatMap bL)
  have hb4:=aA (e:=ab) (l:=bL (w.2.2.2.1.getD i aq.aa))
  have hb5:decide (((w.2.2.2.1.take i).flatMap bL).length+(bL (w.2.2.2.1.getD i aq.aa)).length<4294967296)=true:=by
   simp only[decide_eq_true_eq];omega
  simp only[aw,aK hi,aK hi2,hi,decide_true,if_true,Int.toNat_natCast,Bool.or_true,rQ hk hp,Option.bind_some,hb5]
  rw[bd (by omega),fi aq.aa hi2,Ay]
  rcases Bool.eq_false_or_eq_true (decide (t.2.2.2.2.2.1.getD i 0>(w.2.2.2.1.getD i aq.aa).2.1))with h|h<;>
   simp only[h,if_true,Bool.not_true,Bool.not_false,Bool.false_eq_true,if_false,bY,vM]
 ·intro G
  simp only[aw,Nat.lt_irrefl,decide_false,Bool.false_eq_true,if_false]
  have hb:=fj hk (w.2.2.2.1.take t.2.2.2.2.2.1.length)
  unfold cW at hb
  have hb2:=gf (e:=aq) w.2.2.2.1 t.2.2.2.2.2.1.length
  rw[qy hk h4]
  show Option.bind (if((!ou w.2.2.2.1 t.2.2.2.2.2.1)==false)=true then some (decide (t.2.2.2.2.2.2.1=(w.2.2.2.1.take t.2.2.2.2.2.1.length).flatMap bL),())else some (false,())) (fun r6:Bool×Unit=>some (if(!ou w.2.2.2.1 t.2.2.2.2.2.1)=true then true else r6.1,()))=_
  have he:decide (t.2.2.2.2.2.2.1=(w.2.2.2.1.take t.2.2.2.2.2.1.length).flatMap bL)=decide ((w.2.2.2.1.take t.2.2.2.2.2.1.length).flatMap bL=t.2.2.2.2.2.2.1):=by
   rw[Bool.eq_iff_iff];simp only[decide_eq_true_eq];exact eq_comm
  rw[he]
  cases ou w.2.2.2.1 t.2.2.2.2.2.1<;>simp
 ·unfold k9
  show(if AW w.2.2.2.1 t.2.2.2.2.2.1=true then _ else _)=_
  cases AW w.2.2.2.1 t.2.2.2.2.2.1<;>simp
end
end Vg.Tryz
namespace Vg.Tryz
open Go Vg
set_option linter.unusedVariables false
set_option linter.unusedSectionVars false
set_option linter.unusedSimpArgs false
theorem Cr {t:aM} {n:Int} (h:gI t n=true):0≤t.2.2.2.2.2.2.2.2∧(t.1=0∨t.1=1∨t.1=2∨t.1=3∨t.1=4∨t.1=5∨t.1=6):=by
 unfold gI at h
 grind
theorem NJ {t:aM} {n:Int} (h:gI t n=true) (e:t.1=3):(t.2.2.2.2.2.1.length:Int)=t.2.2.2.2.1∧0≤t.2.1∧t.2.1≤2:=by
 unfold gI bK at h
 grind
theorem Sg {t:aM} {n:Int} (h:gI t n=true) (e:t.1=4):t.2.2.2.2.2.1=[]∧t.2.2.2.2.2.2.1=[]∧t.2.1≤1:=by
 unfold gI bK at h
 grind
section
variable {k:Nat} (hk:9223372036854775808≤k)
include hk
theorem Fw {l:List aG} {s:List aj} (hs:ag (.sl aq) l≤1048576):(gQ k l s).1.1.length≤1048576:=by
 unfold gQ
 split
 ·simp[iX]
 ·rename_i h0
  obtain⟨_,_,c⟩:=zX (k:=k) (l:=l) (s:=s) h0
  have hp:=jZ hk hs c
  generalize l.getD (mG k l s).toNat aq.aa=p at hp⊢
  unfold qo
  cases hc:nM p (jh k s)with
  |none=>simp[iX]
  |some i=>
   obtain⟨hi,_,_⟩:=ln.1 hc
   obtain⟨h1,h2⟩:=lg hk hp hi
   dsimp only
   cases hq:mV (p.2.2.getD i ay.aa).2 s with
   |none=>simp[iX]
   |some j=>
    obtain⟨hj,_,_⟩:=ln.1 hq
    have h3:=sP (e:=ab) (d:=ab.aa) hj
    exact jf hk (a:=(p.2.2.getD i ay.aa).2.getD j ab.aa) (by omega)
theorem dO {w:ar} (hs:ag aE w≤1048576):
 ag bC w.1≤1048576∧ag (.sl aq) w.2.2.2.1≤1048576∧ag (.sl aU) w.2.2.2.2.1≤1048576∧ag (.sl ab) w.2.2.2.2.2.1≤1048576∧ag (.sl al) w.2.2.2.2.2.2.2.1≤1048576∧
 w.2.2.2.2.2.2.2.2.2.1.length≤1048576∧ag (.sl ab) w.2.2.2.2.2.2.2.2.2.2.2.1≤1048576∧ag (.sl ah) w.2.2.2.2.2.2.2.2.2.2.2.2.1≤1048576∧ag (.sl ak) w.2.2.2.2.2.2.2.2.2.2.2.2.2≤1048576:=by
 rw[gK hk]at hs
 have h:=aA (e:=aC) (l:=w.2.2.2.2.2.2.2.2.2.1)
 omega
theorem vF {e:Ty} {l:List e.den} (hd:ag e e.aa=0) (hs:ag (.sl e) l≤1048576) (n:Nat):ag e (l.getD n e.aa)≤1048576:=by
 by_cases h:n<l.length
 ·have:=sP (e:=e) (d:=e.aa) h
  omega
 ·rw[List.getD_eq_getElem?_getD,List.getElem?_eq_none (by omega),Option.getD_none,hd]
  omega
theorem Hr {w:ar} {i:Nat} (hs:ag aE w≤1048576) (hi:i<w.2.2.2.2.2.2.2.2.2.2.2.2.1.length) (hp:(w.2.2.2.1.length:Int)=w.1.1):
 mc k (w,(i:Int),())=some (gY k w (w.2.2.2.2.2.2.2.2.2.2.2.2.1.getD i ah.aa) (w.2.2.2.2.2.2.2.2.2.2.2.2.2.getD (w.2.2.2.2.2.2.2.2.2.2.2.2.1.getD i ah.aa).2.2.2.2.2.2.2.2.toNat ak.aa) i,()):=by
 obtain⟨_,w2,_,_,_,_,_,w8,w9⟩:=dO hk hs
 have ht:ag ah (w.2.2.2.2.2.2.2.2.2.2.2.2.1.getD i ah.aa)≤1048576:=vF hk (e:=ah) rfl w8 i
 have hd:ag ak (w.2.2.2.2.2.2.2.2.2.2.2.2.2.getD (w.2.2.2.2.2.2.2.2.2.2.2.2.1.getD i ah.aa).2.2.2.2.2.2.2.2.toNat ak.aa)≤1048576:=vF hk (e:=ak) rfl w9 (w.2.2.2.2.2.2.2.2.2.2.2.2.1.getD i ah.aa).2.2.2.2.2.2.2.2.toNat
 unfold mc aO
 dsimp only
 rw[if_pos (aK hi),Int.toNat_natCast]
 generalize w.2.2.2.2.2.2.2.2.2.2.2.2.1.getD i ah.aa=t at*
 generalize w.2.2.2.2.2.2.2.2.2.2.2.2.2.getD t.2.2.2.2.2.2.2.2.toNat ak.aa=d at*
 rw[IB hk ht,Option.bind_some]
 unfold gY
 by_cases hok:gI t i=true
 rotate_left
 ·simp[hok]
 obtain⟨hH,hkind⟩:=Cr hok
 obtain⟨t1,t2,t3,t4,t5⟩:=lE hk ht
 obtain⟨d1,d2,d3,d4⟩:=Fk hk hd
 have hfl:=Fw hk (s:=t.2.2.1.1) w2
 have t6:=jf hk t1
 have d6:=jf hk d1
 have t7:=aA (e:=af) (l:=t.2.2.1.1)
 have d7:=aA (e:=af) (l:=d.2.2.1.1)
 have d8:=aA (e:=af) (l:=d.2.2.2.1)
 by_cases e0:t.1=0
 ·simp[e0,hok]
 by_cases eH:t.2.2.2.2.2.2.2.2<(w.2.2.2.2.2.2.2.2.2.2.2.2.2.length:Int)
 rotate_left
 ·have:decide (t.2.2.2.2.2.2.2.2≥(w.2.2.2.2.2.2.2.2.2.2.2.2.2.length:Int))=true:=by simp only[decide_eq_true_eq];omega
  simp[e0,this,eH,hok]
 have q1:decide (t.2.2.2.2.2.2.2.2≥(w.2.2.2.2.2.2.2.2.2.2.2.2.2.length:Int))=false:=by simp only[decide_eq_false_iff_not];omega
 have q2:decide (0≤t.2.2.2.2.2.2.2.2∧t.2.2.2.2.2.2.2.2<(w.2.2.2.2.2.2.2.2.2.2.2.2.2.length:Int))=true:=by simp only[decide_eq_true_eq];omega
 simp only[hok,q1,q2,hH,and_true,true_and,if_true,Bool.not_true,Bool.false_eq_true,if_false,eH,e0,decide_true,decide_false,Bool.true_and,Bool.false_or,bY,ir]
 have hop:eh k (t.1,())=some (List.getD [0,1,3,4,6,7,8] t.1.toNat 0,()):=by
  simp only[eh]
  rw[if_pos (by simp only[decide_eq_true_eq,List.length_cons,List.length_nil];omega)]
 rw[hop]
 clear hop q1 q2
 by_cases c1:d.2.1=i
 rotate_left
 ·simp[c1,hok]
 by_cases c2:d.2.2.2.2.2.2.2.2.2.2.2= -1
 rotate_left
 ·simp[c1,c2,hok]
 simp only[c1,c2,decide_true,Bool.not_true,Bool.false_eq_true,if_false,beq_self_eq_true,if_true,Option.bind_some,Bool.true_and]
 unfold pQ
 rcases hkind with h|h|h|h|h|h|h
 ·exact absurd h e0
 all_goals
  have hn:t.1.toNat=t.1.toNat:=rfl
  simp only[h]at hn⊢
 ·simp only[BL hk w2 t5,eG hk hfl,eG hk d6,dV hk (a:=d.2.2.1.1) (by omega),rS hk t1]
  by_cases b1:d.1=1<;>by_cases b2:d.2.2.2.2.2.2.2.2.2.2.1= -1<;>by_cases b3:t.2.1=2<;>simp[b1,b2,b3]
  ·by_cases b4:d.2.2.1=t.2.2.1<;>simp[b4]
  ·simp only[eG hk hfl]
   cases (gQ k w.2.2.2.1 t.2.2.1.1).2<;>by_cases b4:(gQ k w.2.2.2.1 t.2.2.1.1).1=t.2.2.1<;>simp[b4]
 ·simp only[dV hk (a:=d.2.2.2.1) (by omega)]
  by_cases b1:d.1=3<;>by_cases b2:d.2.2.2.2.2.2.2.2.2.2.1= -1<;>simp[b1,b2]
 ·obtain⟨e1,e2,e3⟩:=NJ hok h
  by_cases b1:d.1=4<;>by_cases b2:d.2.2.2.2.2.2.2.2.2.2.1= -1<;>by_cases b3:t.2.1=2<;>simp[b1,b2,b3]
  ·by_cases b4:(t.2.2.2.2.2.1.length:Int)=w.1.1
   ·rw[nU hk ht w2 (by omega)];simp[b4]
   ·simp[b4]
  ·by_cases b4:t.2.2.2.2.1<w.1.1
   ·rw[nU hk ht w2 (by omega)];simp[b4]
   ·simp[b4]
 ·obtain⟨e1,e2,e3⟩:=Sg hok h
  have b3:¬t.2.1=2:=by have:=e3;omega
  by_cases b1:d.1=6<;>by_cases b2:d.2.2.2.2.2.2.2.2.2.2.1= -1<;>simp[b1,b2,b3]
  have hl:t.2.2.2.2.2.1.length≤w.2.2.2.1.length:=by rw[e1];exact Nat.zero_le _
  have hq:k9 w.2.2.2.1 t=true:=by unfold k9 AW;rw[e1,e2];rfl
  rw[nU hk ht w2 hl,hq]
  by_cases b4:t.2.2.2.2.1<w.1.1<;>simp[b4]
 ·simp only[eG hk d6]
  by_cases b1:d.1=7<;>by_cases b2:d.2.2.2.2.2.2.2.2.2.2.1= -1<;>simp[b1,b2]
 ·by_cases b1:d.1=8<;>by_cases b2:d.2.2.2.2.2.2.2.2.2.2.1= -1<;>simp[b1,b2]
theorem CP {w:ar} {t:aM} {d:aY} {n:Int} (hs:ag aE w≤1048576) (hp:(w.2.2.2.1.length:Int)=w.1.1) (ht:ag ah t≤1048576) (hd:ag ak d≤1048576) (hok:gI t n=true):
 kv k (w,t,d,())=some (pQ k w t d,()):=by
 obtain⟨_,w2,_,_,_,_,_,w8,w9⟩:=dO hk hs
 obtain⟨t1,t2,t3,t4,t5⟩:=lE hk ht
 obtain⟨d1,d2,d3,d4⟩:=Fk hk hd
 have hfl:=Fw hk (s:=t.2.2.1.1) w2
 have d6:=jf hk d1
 have d7:=aA (e:=af) (l:=d.2.2.1.1)
 have d8:=aA (e:=af) (l:=d.2.2.2.1)
 simp only[kv,BE hk w2 t5,ic hk hfl,ic hk d6,ey hk (a:=d.2.2.1.1) (by omega),ey hk (a:=d.2.2.2.1) (by omega),sq hk t1,Option.bind_some,bY,bM]
 unfold pQ
 by_cases h1:t.1=1
 ·by_cases b1:d.1=1<;>by_cases b3:t.2.1=2<;>simp[h1,b1,b3]
  ·by_cases b5:d.2.2.1.1=t.2.2.1.1<;>cases (gQ k w.2.2.2.1 t.2.2.1.1).2<;>by_cases b4:(gQ k w.2.2.2.1 t.2.2.1.1).1=t.2.2.1<;>simp[b4,b5]
  ·by_cases b4:d.2.2.1=t.2.2.1<;>simp[b4]
 by_cases h2:t.1=2
 ·by_cases b1:d.1=3<;>simp[h2,b1]
 by_cases h3:t.1=3
 ·obtain⟨e1,e2,e3⟩:=NJ hok h3
  have hl:(if t.2.1=2 then decide ((t.2.2.2.2.2.1.length:Int)=w.1.1)else decide (t.2.2.2.2.1<w.1.1))=true→t.2.2.2.2.2.1.length≤w.2.2.2.1.length:=by
   by_cases b3:t.2.1=2<;>simp[b3]<;>intro h<;>omega
  rw[BY hk ht w2 hl e3]
  by_cases b1:d.1=4<;>simp[h3,b1]
 by_cases h4:t.1=4
 ·by_cases b1:d.1=6<;>simp[h4,b1]
 by_cases h5:t.1=5
 ·by_cases b1:d.1=7<;>simp[h5,b1]
 by_cases b1:d.1=8<;>by_cases b2:d.2.2.2.2.2.1=t.2.2.2.2.2.2.2.1<;>simp[h1,h2,h3,h4,h5,b1,b2]
end
end Vg.Tryz
namespace Vg.Tryz
open Go Vg
set_option linter.unusedVariables false
set_option linter.unusedSectionVars false
set_option linter.unusedSimpArgs false
def cE (h:Nat→Bool):Nat→Int
 |0=> -1
 |j+1=>if h j=true then(j:Int)else cE h j
theorem qs {h:Nat→Bool}:∀ {j:Nat},(∀a,a<j→h a=false)→cE h j= -1
 |0,_=>rfl
 |j+1,H=>by
  unfold cE
  rw[H j (by omega),if_neg (by simp)]
  exact qs (fun a ha=>H a (by omega))
theorem lv {h:Nat→Bool}:∀ {j:Nat},cE h j≠-1→∃a,a<j∧h a=true∧cE h j=(a:Int)
 |0,H=>absurd rfl H
 |j+1,H=>by
  unfold cE at H⊢
  by_cases hj:h j=true
  ·rw[if_pos hj];exact⟨j,by omega,hj,rfl⟩
  ·rw[if_neg hj]at H⊢
   obtain⟨a,h1,h2,h3⟩:=lv H
   exact⟨a,by omega,h2,h3⟩
theorem xF {h:Nat→Bool} {m:Nat} (hp:∀j,j<m→h j=true→cE h j= -1) {a:Nat} (ha:a<m) (h2:h a=true):cE h m=(a:Int):=by
 have hm:cE h m≠-1:=by
  intro e
  have:∀ {j:Nat},(∀b,b<j→h b=true→False)∨cE h j≠-1:=by
   intro j
   induction j with
   |zero=>exact Or.inl (fun b hb _=>by omega)
   |succ j ih=>
    unfold cE
    by_cases hj:h j=true
    ·rw[if_pos hj];right;omega
    ·rw[if_neg hj]
     rcases ih with ih|ih
     ·left
      intro b hb hbt
      by_cases hbj:b=j
      ·subst hbj;exact hj hbt
      ·exact ih b (by omega) hbt
     ·exact Or.inr ih
  rcases @this m with H|H
  ·exact H a ha h2
  ·exact H e
 obtain⟨b,h3,h4,h5⟩:=lv hm
 rw[h5]
 by_cases hab:a=b
 ·rw[hab]
 ·exfalso
  have key:∀x y:Nat,x<y→y<m→h x=true→h y=true→False:=by
   intro x y hxy hy hx hyt
   have e:=hp y hy hyt
   have:∀ {j:Nat},x<j→cE h j≠-1:=by
    intro j
    induction j with
    |zero=>intro q;omega
    |succ j ih=>
     intro q
     unfold cE
     by_cases hj:h j=true
     ·rw[if_pos hj];omega
     ·rw[if_neg hj]
      by_cases hxj:x=j
      ·subst hxj;exact absurd hx hj
      ·exact ih (by omega)
   exact this hxy e
  rcases Nat.lt_or_ge a b with q|q
  ·exact key a b q h3 h2 h4
  ·exact key b a (by omega) ha h4 h2
def bB (k:Nat) (w:ar) (j:Nat):Int:=nK k (w.2.2.2.2.2.2.2.2.2.2.2.2.1.getD j ah.aa) w.2.2.2.1.length
def dn (w:ar) (j:Nat):Bool:=u9 (w.2.2.2.2.2.2.2.2.2.2.2.2.1.getD j ah.aa)
def gu (k:Nat) (w:ar):Bool:=
 bf 0 w.2.2.2.1.length (fun i=>bf 0 w.2.2.2.2.2.2.2.2.2.2.2.2.1.length (fun j=>decide (bB k w j=i)==decide ((w.2.2.2.1.getD i aq.aa).1=j)))&&
 (bf 0 w.2.2.2.2.2.2.2.2.2.2.2.2.1.length (fun j=>dn w j==decide (w.2.2.2.2.2.2.1=j))&&bK w.2.2.2.2.2.2.1 (-1) 4)
def zU (k:Nat) (w:ar) (j:Nat):Bool:=
 (decide (bB k w j<0)||decide (cE (fun a=>decide (bB k w a=bB k w j)) j= -1))&&(!dn w j||decide (cE (dn w) j= -1))
theorem Qx {k:Nat} {w:ar} (hp:∀i,i<w.2.2.2.1.length→bK (w.2.2.2.1.getD i aq.aa).1 (-1) 4=true) (ht:w.2.2.2.2.2.2.2.2.2.2.2.2.1.length=5)
 (hh:∀j,j<5→bB k w j<w.2.2.2.1.length):
 (bf 0 w.2.2.2.2.2.2.2.2.2.2.2.2.1.length (zU k w)&&(bf 0 w.2.2.2.1.length (fun i=>decide ((w.2.2.2.1.getD i aq.aa).1=cE (fun a=>decide (bB k w a=i)) w.2.2.2.2.2.2.2.2.2.2.2.2.1.length))&&
  decide (w.2.2.2.2.2.2.1=cE (dn w) w.2.2.2.2.2.2.2.2.2.2.2.2.1.length)))=gu k w:=by
 unfold gu
 rw[ht]
 rw[Bool.eq_iff_iff]
 simp only[Bool.and_eq_true,ei,zU,Bool.or_eq_true,decide_eq_true_eq,Bool.not_eq_true',beq_iff_eq,bK]at hp⊢
 constructor
 ·rintro⟨h1,h2,h3⟩
  refine⟨fun i _ hi j _ hj=> ?_,fun j _ hj=> ?_,?_⟩
  ·rw[h2 i (by omega) hi]
   rw[Bool.eq_iff_iff]
   simp only[decide_eq_true_eq]
   constructor
   ·intro e
    refine xF (h:=fun a=>decide (bB k w a=i)) (m:=5) (fun b hb hbt=> ?_) hj (by simpa using e)
    have hbe:bB k w b=(i:Int):=by simpa using hbt
    rcases(h1 b (by omega) hb).1 with q|q
    ·omega
    ·rw[hbe]at q;exact q
   ·intro e
    obtain⟨a,_,ha,hb⟩:=lv (h:=fun a=>decide (bB k w a=i)) (j:=5) (by rw[e];omega)
    rw[e]at hb
    have:a=j:=by omega
    subst this
    simpa using ha
  ·rw[h3,Bool.eq_iff_iff]
   simp only[decide_eq_true_eq]
   constructor
   ·intro e
    refine xF (h:=dn w) (m:=5) (fun b hb hbt=> ?_) hj e
    rcases(h1 b (by omega) hb).2 with q|q
    ·rw[hbt]at q;exact absurd q (by simp)
    ·exact q
   ·intro e
    obtain⟨a,_,ha,hb⟩:=lv (h:=dn w) (j:=5) (by rw[e];omega)
    rw[e]at hb
    have:a=j:=by omega
    subst this
    exact ha
  ·rw[h3]
   by_cases e:cE (dn w) 5= -1
   ·omega
   ·obtain⟨a,h4,_,h5⟩:=lv e
    omega
 ·rintro⟨h1,h2,h3,h4⟩
  have hI:∀i,i<w.2.2.2.1.length→∀j,j<5→(bB k w j=(i:Int)↔(w.2.2.2.1.getD i aq.aa).1=(j:Int)):=by
   intro i hi j hj
   have:=h1 i (by omega) hi j (by omega) hj
   rw[Bool.eq_iff_iff]at this
   simpa only[decide_eq_true_eq]using this
  have hG:∀j,j<5→(dn w j=true↔w.2.2.2.2.2.2.1=(j:Int)):=by
   intro j hj
   have:=h2 j (by omega) hj
   rw[Bool.eq_iff_iff]at this
   simpa only[decide_eq_true_eq]using this
  refine⟨fun j _ hj=>⟨?_,?_⟩,fun i _ hi=> ?_,?_⟩
  ·by_cases hn:bB k w j<0
   ·exact Or.inl hn
   ·right
    apply qs
    intro a ha
    simp only[decide_eq_false_iff_not]
    intro e
    have hlt:=hh j hj
    have q1:=(hI (bB k w j).toNat (by omega) j hj).1 (by omega)
    have q2:=(hI (bB k w j).toNat (by omega) a (by omega)).1 (by omega)
    omega
  ·by_cases hg:dn w j=true
   ·right
    apply qs
    intro a ha
    cases hga:dn w a with
    |false=>rfl
    |true=>
     have q1:=(hG j hj).1 hg
     have q2:=(hG a (by omega)).1 hga
     omega
   ·left;simpa using hg
  ·by_cases e:cE (fun a=>decide (bB k w a=i)) 5= -1
   ·rw[e]
    have hb:=hp i hi
    by_cases e2:(w.2.2.2.1.getD i aq.aa).1= -1
    ·exact e2
    ·exfalso
     have q:=(hI i hi (w.2.2.2.1.getD i aq.aa).1.toNat (by omega)).2 (by omega)
     have:cE (fun a=>decide (bB k w a=i)) 5≠-1:=by
      rw[xF (h:=fun a=>decide (bB k w a=i)) (m:=5) (a:=(w.2.2.2.1.getD i aq.aa).1.toNat) (fun b hb2 hbt=> ?_) (by omega) (by simpa using q)]
      ·omega
      ·apply qs
       intro a ha
       simp only[decide_eq_false_iff_not]
       intro e3
       have hbe:bB k w b=(i:Int):=by simpa using hbt
       have q1:=(hI i hi b hb2).1 hbe
       have q2:=(hI i hi a (by omega)).1 e3
       omega
     exact this e
   ·obtain⟨a,h5,h6,h7⟩:=lv e
    rw[h7]
    exact(hI i hi a h5).1 (by simpa using h6)
  ·by_cases e:cE (dn w) 5= -1
   ·rw[e]
    by_cases e2:w.2.2.2.2.2.2.1= -1
    ·exact e2
    ·exfalso
     have q:=(hG w.2.2.2.2.2.2.1.toNat (by omega)).2 (by omega)
     have:cE (dn w) 5≠-1:=by
      rw[xF (h:=dn w) (m:=5) (a:=w.2.2.2.2.2.2.1.toNat) (fun b hb2 hbt=> ?_) (by omega) q]
      ·omega
      ·apply qs
       intro a ha
       cases hga:dn w a with
       |false=>rfl
       |true=>
        have q1:=(hG b hb2).1 hbt
        have q2:=(hG a (by omega)).1 hga
        omega
     exact this e
   ·obtain⟨a,h5,h6,h7⟩:=lv e
    rw[h7]
    exact(hG a h5).1 h6
section
variable {k:Nat} (hk:9223372036854775808≤k)
include hk
theorem AR {w:ar} (hs:ag aE w≤1048576):il k (w,())=some (gu k w,()):=by
 obtain⟨_,w2,_,_,_,_,_,w8,w9⟩:=dO hk hs
 have hn:=aA (e:=aq) (l:=w.2.2.2.1)
 have hm:=aA (e:=ah) (l:=w.2.2.2.2.2.2.2.2.2.2.2.2.1)
 have htask:∀j:Nat,ag ah (w.2.2.2.2.2.2.2.2.2.2.2.2.1.getD j ah.aa)≤1048576:=fun j=>vF hk (e:=ah) rfl w8 j
 simp only[il,aO]
 refine(cA (fun i:Nat=>(w,w.2.2.2.1,(w.2.2.2.1.length:Int),(i:Int),())) (fun i=>bf 0 w.2.2.2.2.2.2.2.2.2.2.2.2.1.length (fun j=>decide (bB k w j=i)==decide ((w.2.2.2.1.getD i aq.aa).1=j))) w.2.2.2.1.length
  (e:=some (bf 0 w.2.2.2.2.2.2.2.2.2.2.2.2.1.length (fun j=>dn w j==decide (w.2.2.2.2.2.2.1=j))&&bK w.2.2.2.2.2.2.1 (-1) 4,())) (no:=some (false,())) ?_ ?_ k 0 (by omega) (by omega)).trans ?_
 ·intro G i hi
  simp only[aw,aK hi,hi,decide_true,if_true,Int.toNat_natCast]
  refine(cA (fun j:Nat=>(w,(i:Int),w.2.2.2.1.getD i aq.aa,w.2.2.2.1,(w.2.2.2.1.length:Int),(i:Int),w.2.2.2.2.2.2.2.2.2.2.2.2.1,(w.2.2.2.2.2.2.2.2.2.2.2.2.1.length:Int),(j:Int),()))
   (fun j=>decide (bB k w j=i)==decide ((w.2.2.2.1.getD i aq.aa).1=j)) w.2.2.2.2.2.2.2.2.2.2.2.2.1.length
   (e:=G (w,w.2.2.2.1,(w.2.2.2.1.length:Int),((i+1:Nat):Int),())) (no:=some (false,())) ?_ ?_ k 0 (by omega) (by omega)).trans ?_
  ·intro G2 j hj
   simp only[aw,aK hj,hj,decide_true,if_true,Int.toNat_natCast,Bf hk (htask j),Option.bind_some,bY]
   rw[bd (by omega)]
   show(if(!(decide (bB k w j=i)==decide ((w.2.2.2.1.getD i aq.aa).1=j)))=true then _ else _)=_
   cases (decide (bB k w j=i)==decide ((w.2.2.2.1.getD i aq.aa).1=(j:Int)))<;>rfl
  ·intro G2
   simp only[aw,Nat.lt_irrefl,decide_false,Bool.false_eq_true,if_false]
   rw[bd (by omega)]
  ·rfl
 ·intro G
  simp only[aw,Nat.lt_irrefl,decide_false,Bool.false_eq_true,if_false]
  refine(cA (fun j:Nat=>(w,w.2.2.2.2.2.2.2.2.2.2.2.2.1,(w.2.2.2.2.2.2.2.2.2.2.2.2.1.length:Int),(j:Int),()))
   (fun j=>dn w j==decide (w.2.2.2.2.2.2.1=j)) w.2.2.2.2.2.2.2.2.2.2.2.2.1.length
   (e:=some (bK w.2.2.2.2.2.2.1 (-1) 4,())) (no:=some (false,())) ?_ ?_ k 0 (by omega) (by omega)).trans ?_
  ·intro G2 j hj
   simp only[aw,aK hj,hj,decide_true,if_true,Int.toNat_natCast,zg hk,Option.bind_some,bY]
   rw[bd (by omega)]
   show(if(!(dn w j==decide (w.2.2.2.2.2.2.1=j)))=true then _ else _)=_
   cases (dn w j==decide (w.2.2.2.2.2.2.1=(j:Int)))<;>rfl
  ·intro G2
   simp only[aw,Nat.lt_irrefl,decide_false,Bool.false_eq_true,if_false,ew hk,Option.bind_some]
  ·cases bf 0 w.2.2.2.2.2.2.2.2.2.2.2.2.1.length (fun j=>dn w j==decide (w.2.2.2.2.2.2.1=j))<;>simp
 ·unfold gu
  cases bf 0 w.2.2.2.1.length (fun i=>bf 0 w.2.2.2.2.2.2.2.2.2.2.2.2.1.length (fun j=>decide (bB k w j=i)==decide ((w.2.2.2.1.getD i aq.aa).1=j)))<;>simp
end
end Vg.Tryz
namespace Vg.Tryz
open Go Vg
set_option linter.unusedVariables false
set_option linter.unusedSectionVars false
set_option linter.unusedSimpArgs false
def ff (k:Nat) (w:ar) (j:Nat):List Int:=(List.range w.2.2.2.1.length).map (fun i:Nat=>cE (fun a=>decide (bB k w a=(i:Int))) j)
theorem Kn (k:Nat) (w:ar) (j:Nat):(ff k w j).length=w.2.2.2.1.length:=by simp[ff]
theorem No (k:Nat) (w:ar) (j:Nat) {i:Nat} (hi:i<w.2.2.2.1.length):(ff k w j).getD i 0=cE (fun a=>decide (bB k w a=(i:Int))) j:=by
 simp[ff,List.getD_eq_getElem?_getD,List.getElem?_map,List.getElem?_range hi]
theorem R5 (k:Nat) (w:ar) (j:Nat) (h:0≤bB k w j):(ff k w j).set (bB k w j).toNat (j:Int)=ff k w (j+1):=by
 apply List.ext_getElem
 ·simp[ff]
 ·intro i h1 h2
  simp only[ff,List.getElem_set,List.getElem_map,List.getElem_range,cE,decide_eq_true_eq]
  by_cases e:bB k w j=(i:Int)
  ·rw[if_pos (by omega),if_pos e]
  ·rw[if_neg (by omega),if_neg e]
theorem Qy (k:Nat) (w:ar) (j:Nat) (h:bB k w j<0):ff k w j=ff k w (j+1):=by
 unfold ff
 apply List.map_congr_left
 intro i _
 simp only[cE,decide_eq_true_eq]
 rw[if_neg (by omega)]
theorem Qm (k:Nat) (w:ar):ff k w 0=List.replicate w.2.2.2.1.length (-1):=by
 apply List.ext_getElem
 ·simp[ff]
 ·intro i h1 h2
  simp[ff,cE]
section
variable {k:Nat} (hk:9223372036854775808≤k)
include hk
theorem CS {w:ar} (hs:ag aE w≤1048576) (hp:∀i,i<w.2.2.2.1.length→bK (w.2.2.2.1.getD i aq.aa).1 (-1) 4=true) (ht:w.2.2.2.2.2.2.2.2.2.2.2.2.1.length=5)
 (hh:∀j,j<5→bB k w j<w.2.2.2.1.length):gH k (w,())=some (gu k w,()):=by
 rw[←Qx hp ht hh]
 obtain⟨_,w2,_,_,_,_,_,w8,w9⟩:=dO hk hs
 have hn:=aA (e:=aq) (l:=w.2.2.2.1)
 have htask:∀j:Nat,ag ah (w.2.2.2.2.2.2.2.2.2.2.2.2.1.getD j ah.aa)≤1048576:=fun j=>vF hk (e:=ah) rfl w8 j
 simp only[gH,aO]
 refine cD (fun i:Nat=>(w,List.replicate i (-1:Int),(i:Int),())) w.2.2.2.1.length (fun G i hi=> ?_) (fun G=> ?_) k 0 (by omega) (by omega)
 ·simp only[aw,hi,decide_true,if_true,List.length_replicate,List.length_cons,List.length_nil]
  rw[if_pos (by simp only[decide_eq_true_eq];omega),bd (by omega),List.replicate_succ']
 simp only[aw,Nat.lt_irrefl,decide_false,Bool.false_eq_true,if_false]
 rw[←Qm k w]
 refine(cA (fun j:Nat=>(w,ff k w j,cE (dn w) j,(j:Int),())) (zU k w) w.2.2.2.2.2.2.2.2.2.2.2.2.1.length
  (e:=some (bf 0 w.2.2.2.1.length (fun i=>decide ((w.2.2.2.1.getD i aq.aa).1=cE (fun a=>decide (bB k w a=i)) w.2.2.2.2.2.2.2.2.2.2.2.2.1.length))&&
   decide (w.2.2.2.2.2.2.1=cE (dn w) w.2.2.2.2.2.2.2.2.2.2.2.2.1.length),())) (no:=some (false,())) ?_ ?_ k 0 (by omega) (by omega)).trans ?_
 ·intro G j hj
  have hlt:=hh j (by omega)
  simp only[aw,aK hj,hj,decide_true,if_true,Int.toNat_natCast,Bw hk (htask j),ze hk,Option.bind_some,ir,Kn]
  change (if decide (bB k w j≥0)=true then(if decide (0≤bB k w j∧bB k w j<(w.2.2.2.1.length:Int))=true then(if(!decide ((ff k w j).getD (bB k w j).toNat 0= -1))=true then some (false,())else(if decide (0≤bB k w j∧bB k w j<(w.2.2.2.1.length:Int))=true then
   (if dn w j=true then(if(!decide (cE (dn w) j= -1))=true then some (false,())else G (w,(ff k w j).set (bB k w j).toNat (j:Int),(j:Int),IntKind.i64.wrap ((j:Int)+1),()))else G (w,(ff k w j).set (bB k w j).toNat (j:Int),cE (dn w) j,IntKind.i64.wrap ((j:Int)+1),()))else none))else none)else
   (if dn w j=true then(if(!decide (cE (dn w) j= -1))=true then some (false,())else G (w,ff k w j,(j:Int),IntKind.i64.wrap ((j:Int)+1),()))else G (w,ff k w j,cE (dn w) j,IntKind.i64.wrap ((j:Int)+1),())))=_
  rw[bd (by omega)]
  have hg:dn w j=true→cE (dn w) (j+1)=(j:Int):=fun h=>by simp[cE,h]
  have hg2:dn w j=false→cE (dn w) (j+1)=cE (dn w) j:=fun h=>by simp[cE,h]
  unfold zU
  by_cases h0:0≤bB k w j
  ·rw[if_pos (by simpa using h0),if_pos (by simp only[decide_eq_true_eq];omega),No k w j (show(bB k w j).toNat<_ by omega),R5 k w j h0,Int.toNat_of_nonneg h0]
   rw[show decide (bB k w j<0)=false by simp only[decide_eq_false_iff_not];omega]
   by_cases hw:cE (fun a=>decide (bB k w a=bB k w j)) j= -1
   ·rw[if_neg (by simp[hw])]
    cases hgr:dn w j with
    |true=>rw[hg hgr];by_cases hw2:cE (dn w) j= -1<;>simp[hw,hw2]<;>omega
    |false=>rw[hg2 hgr];simp[hw];omega
   ·rw[if_pos (by simp[hw])];simp[hw]
  ·rw[if_neg (by simp;omega),Qy k w j (by omega)]
   rw[show decide (bB k w j<0)=true by simp only[decide_eq_true_eq];omega]
   cases hgr:dn w j with
   |true=>rw[hg hgr];by_cases hw2:cE (dn w) j= -1<;>simp[hw2]
   |false=>rw[hg2 hgr];simp
 ·intro G
  simp only[aw,Nat.lt_irrefl,decide_false,Bool.false_eq_true,if_false]
  generalize w.2.2.2.2.2.2.2.2.2.2.2.2.1.length=m
  refine(cA (fun i:Nat=>(w,ff k w m,cE (dn w) m,(i:Int),())) (fun i=>decide ((w.2.2.2.1.getD i aq.aa).1=cE (fun a=>decide (bB k w a=i)) m)) w.2.2.2.1.length
   (e:=some (decide (w.2.2.2.2.2.2.1=cE (dn w) m),())) (no:=some (false,())) ?_ ?_ k 0 (by omega) (by omega)).trans ?_
  ·intro G2 i hi
   simp only[aw,Kn,aK hi,hi,decide_true,if_true,Int.toNat_natCast,ir,No k w m hi]
   rw[bd (by omega)]
   rcases Bool.eq_false_or_eq_true (decide ((w.2.2.2.1.getD i aq.aa).1=cE (fun a=>decide (bB k w a=(i:Int))) m))with h|h<;>simp only[h,Bool.not_true,Bool.not_false,Bool.false_eq_true,if_false,if_true]
  ·intro G2
   simp only[aw,Nat.lt_irrefl,decide_false,Bool.false_eq_true,if_false,bY]
  ·cases bf 0 w.2.2.2.1.length (fun i=>decide ((w.2.2.2.1.getD i aq.aa).1=cE (fun a=>decide (bB k w a=i)) m))<;>simp
 ·generalize w.2.2.2.2.2.2.2.2.2.2.2.2.1.length=m
  cases bf 0 m (zU k w)<;>simp
end
end Vg.Tryz
namespace Vg.Tryz
open Go Vg
set_option linter.unusedVariables false
set_option linter.unusedSectionVars false
set_option linter.unusedSimpArgs false
def pO (nn:Int) (h:List bl):Bool:=
 bf 0 h.length (fun i=>decide ((h.getD i aC.aa).2<nn)&&bf 0 i (fun j=> !decide ((h.getD j aC.aa).2=(h.getD i aC.aa).2)))
def rP (w:ar) (g:aJ) (j:Nat):Bool:=
 decide ((w.2.2.2.2.2.2.2.2.2.1.getD j aC.aa).2=g.1)&&decide ((w.2.2.2.2.2.2.2.2.2.1.getD j aC.aa).1=Ho w.1 g)
def NP (w:ar) (g:aJ):Bool:=
 if decide ((w.2.2.2.2.2.2.2.2.2.2.2.2.1.getD 4 ah.aa).1=6)=true then decide ((w.2.2.2.2.2.2.2.2.2.2.2.2.1.getD 4 ah.aa).2.2.2.2.2.2.2.1=g.1)else false
def eK (w:ar) (g:aJ) (n:Nat):Bool:= !bf 0 n (fun j=> !rP w g j)||NP w g
def rK (w:ar):Bool:=
 bf 0 w.2.2.2.2.2.2.2.1.length (fun i=>(decide ((w.2.2.2.2.2.2.2.1.getD i al.aa).2.2.1≤w.2.2.1)&&
  (decide ((w.2.2.2.2.2.2.2.1.getD i al.aa).2.2.2.1≤w.2.2.1)&&decide ((w.2.2.2.2.2.2.2.1.getD i al.aa).1<w.2.2.2.2.2.2.2.2.1)))&&eK w (w.2.2.2.2.2.2.2.1.getD i al.aa) w.2.2.2.2.2.2.2.2.2.1.length)
def dN (w:ar):Bool:=
 nC w.2.2.2.2.2.2.2.1 w.1.2.2.2.2.2&&(rW w.2.2.2.2.2.2.2.2.2.1&&(pO w.2.2.2.2.2.2.2.2.1 w.2.2.2.2.2.2.2.2.2.1&&rK w))
theorem vY (w:ar) (g:aJ) (n:Nat):eK w g (n+1)=(if eK w g n=true then true else rP w g n):=by
 unfold eK
 rw[Ay]
 cases NP w g<;>cases bf 0 n (fun j=> !rP w g j)<;>cases rP w g n<;>rfl
section
variable {k:Nat} (hk:9223372036854775808≤k)
include hk
theorem Pd {c:cg} (h:ag bC c≤1048576):c.2.2.2.2.2.length≤1048576:=by
 rw[jk hk]at h
 have:=aA (e:= .str) (l:=c.2.2.2.2.2)
 omega
theorem BR {w:ar} (hs:ag aE w≤1048576) (ht:w.2.2.2.2.2.2.2.2.2.2.2.2.1.length=5):gn k (w,())=some (dN w,()):=by
 obtain⟨w1,w2,_,_,w5,w6,_,w8,w9⟩:=dO hk hs
 have hb:=Pd hk w1
 have hn:=aA (e:=al) (l:=w.2.2.2.2.2.2.2.1)
 simp only[gn,aO,Dl hk w5 hb,Ip hk w6,Option.bind_some]
 unfold dN
 cases nC w.2.2.2.2.2.2.2.1 w.1.2.2.2.2.2 with
 |false=>rfl
 |true=>
  cases rW w.2.2.2.2.2.2.2.2.2.1 with
  |false=>rfl
  |true=>
   simp only[Bool.not_true,Bool.false_eq_true,if_false,beq_self_eq_true,if_true,Option.bind_some]
   refine(cA (fun i:Nat=>(w,(i:Int),())) (fun i=>decide ((w.2.2.2.2.2.2.2.2.2.1.getD i aC.aa).2<w.2.2.2.2.2.2.2.2.1)&&bf 0 i (fun j=> !decide ((w.2.2.2.2.2.2.2.2.2.1.getD j aC.aa).2=(w.2.2.2.2.2.2.2.2.2.1.getD i aC.aa).2))) w.2.2.2.2.2.2.2.2.2.1.length
    (e:=some (rK w,())) (no:=some (false,())) ?_ ?_ k 0 (by omega) (by omega)).trans ?_
   ·intro G i hi
    simp only[aw,aK hi,hi,decide_true,if_true,Int.toNat_natCast,jM]
    rcases Bool.eq_false_or_eq_true (decide ((w.2.2.2.2.2.2.2.2.2.1.getD i aC.aa).2<w.2.2.2.2.2.2.2.2.1))with h|h<;>simp only[h,Bool.not_true,Bool.not_false,Bool.false_eq_true,if_false,if_true,Bool.true_and,Bool.false_and]
    refine(cA (fun j:Nat=>(w,(i:Int),(j:Int),())) (fun j=> !decide ((w.2.2.2.2.2.2.2.2.2.1.getD j aC.aa).2=(w.2.2.2.2.2.2.2.2.2.1.getD i aC.aa).2)) i
     (e:=G (w,((i+1:Nat):Int),())) (no:=some (false,())) ?_ ?_ k 0 (by omega) (by omega)).trans ?_
    ·intro G2 j hj
     have hj2:j<w.2.2.2.2.2.2.2.2.2.1.length:=by omega
     simp only[aw,aK hj2,aK hi,hj,decide_true,if_true,Int.toNat_natCast,bY]
     rw[bd (by omega)]
     rcases Bool.eq_false_or_eq_true (decide ((w.2.2.2.2.2.2.2.2.2.1.getD j aC.aa).2=(w.2.2.2.2.2.2.2.2.2.1.getD i aC.aa).2))with h2|h2<;>simp only[h2,Bool.not_true,Bool.not_false,Bool.false_eq_true,if_false,if_true]
    ·intro G2
     simp only[aw,Nat.lt_irrefl,decide_false,Bool.false_eq_true,if_false]
     rw[bd (by omega)]
    ·rfl
   ·intro G
    simp only[aw,Nat.lt_irrefl,decide_false,Bool.false_eq_true,if_false]
    refine(cA (fun i:Nat=>(w,(i:Int),())) (fun i=>(decide ((w.2.2.2.2.2.2.2.1.getD i al.aa).2.2.1≤w.2.2.1)&&
     (decide ((w.2.2.2.2.2.2.2.1.getD i al.aa).2.2.2.1≤w.2.2.1)&&decide ((w.2.2.2.2.2.2.2.1.getD i al.aa).1<w.2.2.2.2.2.2.2.2.1)))&&eK w (w.2.2.2.2.2.2.2.1.getD i al.aa) w.2.2.2.2.2.2.2.2.2.1.length) w.2.2.2.2.2.2.2.1.length
     (e:=some (true,())) (no:=some (false,())) ?_ ?_ k 0 (by omega) (by omega)).trans ?_
    ·intro G2 i hi
     have h5:decide ((0:Int)≤4∧(4:Int)<(w.2.2.2.2.2.2.2.2.2.2.2.2.1.length:Int))=true:=by rw[ht];rfl
     simp only[aw,aK hi,hi,h5,decide_true,if_true,Int.toNat_natCast,Bool.or_true,bY]
     generalize w.2.2.2.2.2.2.2.1.getD i al.aa=g
     refine cD (fun j:Nat=>(w,(i:Int),g,eK w g j,(j:Int),())) w.2.2.2.2.2.2.2.2.2.1.length (fun G3 j hj=> ?_) (fun G3=> ?_) k 0 (by omega) (by omega)
     ·simp only[aw,aK hj,hj,decide_true,if_true,Int.toNat_natCast,Bool.or_true,OK hk]
      rw[bd (by omega),vY]
      unfold rP
      cases eK w g j<;>by_cases h2:(w.2.2.2.2.2.2.2.2.2.1.getD j aC.aa).2=g.1<;>simp only[h2,Bool.not_true,Bool.not_false,Bool.false_eq_true,if_false,if_true,decide_true,decide_false,Bool.true_and,Bool.false_and,Bool.and_true,Bool.and_false,beq_self_eq_true,Option.bind_some,beq_iff_eq]<;>rfl
     ·simp only[aw,Nat.lt_irrefl,decide_false,Bool.false_eq_true,if_false]
      rw[bd (by omega),jM]
      have q1:∀a b:Int,decide (a>b)= !decide (a≤b):=fun a b=>by by_cases h:a≤b<;>simp[h]<;>omega
      rw[q1,q1]
      cases eK w g w.2.2.2.2.2.2.2.2.2.1.length<;>cases decide (g.2.2.1≤w.2.2.1)<;>cases decide (g.2.2.2.1≤w.2.2.1)<;>cases decide (g.1<w.2.2.2.2.2.2.2.2.1)<;>rfl
    ·intro G2
     simp only[aw,Nat.lt_irrefl,decide_false,Bool.false_eq_true,if_false]
    ·show(if rK w=true then _ else _)=_
     cases rK w<;>simp
   ·show(if pO w.2.2.2.2.2.2.2.2.1 w.2.2.2.2.2.2.2.2.2.1=true then _ else _)=_
    cases pO w.2.2.2.2.2.2.2.2.1 w.2.2.2.2.2.2.2.2.2.1<;>simp
omit hk in
theorem TM {α:Type} (d:α) {l:List α} {i j:Nat} (h:j<i):(l.take i).getD j d=l.getD j d:=by
 simp only[List.getD_eq_getElem?_getD,List.getElem?_take,h,if_true]
theorem zh {w:ar} (hs:ag aE w≤1048576) (ht:w.2.2.2.2.2.2.2.2.2.2.2.2.1.length=5):gN k (w,())=some (dN w,()):=by
 obtain⟨w1,w2,_,_,w5,w6,_,w8,w9⟩:=dO hk hs
 have hb:=Pd hk w1
 have hn:=aA (e:=al) (l:=w.2.2.2.2.2.2.2.1)
 simp only[gN,aO,De hk w5 hb,H7 hk w6,Option.bind_some]
 unfold dN
 cases nC w.2.2.2.2.2.2.2.1 w.1.2.2.2.2.2 with
 |false=>rfl
 |true=>
  cases rW w.2.2.2.2.2.2.2.2.2.1 with
  |false=>rfl
  |true=>
   simp only[Bool.not_true,Bool.false_eq_true,if_false,beq_self_eq_true,if_true,Option.bind_some]
   refine(cA (fun i:Nat=>(w,w.2.2.2.2.2.2.2.1,(w.2.2.2.2.2.2.2.1.length:Int),(i:Int),())) (fun i=>(decide ((w.2.2.2.2.2.2.2.1.getD i al.aa).2.2.1≤w.2.2.1)&&
    (decide ((w.2.2.2.2.2.2.2.1.getD i al.aa).2.2.2.1≤w.2.2.1)&&decide ((w.2.2.2.2.2.2.2.1.getD i al.aa).1<w.2.2.2.2.2.2.2.2.1)))&&eK w (w.2.2.2.2.2.2.2.1.getD i al.aa) w.2.2.2.2.2.2.2.2.2.1.length) w.2.2.2.2.2.2.2.1.length
    (e:=some (pO w.2.2.2.2.2.2.2.2.1 w.2.2.2.2.2.2.2.2.2.1,())) (no:=some (false,())) ?_ ?_ k 0 (by omega) (by omega)).trans ?_
   ·intro G2 i hi
    have h5:decide ((0:Int)≤4∧(4:Int)<(w.2.2.2.2.2.2.2.2.2.2.2.2.1.length:Int))=true:=by rw[ht];rfl
    dsimp only
    rw[aw,decide_eq_true hi,if_pos rfl,if_pos (aK hi),Int.toNat_natCast]
    generalize w.2.2.2.2.2.2.2.1.getD i al.aa=g
    simp only[h5,decide_true,if_true,Bool.or_true,bY]
    have q1:∀a b:Int,decide (a>b)= !decide (a≤b):=fun a b=>by by_cases h:a≤b<;>simp[h]<;>omega
    rw[show decide (g.1≥w.2.2.2.2.2.2.2.2.1)= !decide (g.1<w.2.2.2.2.2.2.2.2.1)from jM _ _,q1,q1]
    generalize decide (g.2.2.1≤w.2.2.1)=b1
    generalize decide (g.2.2.2.1≤w.2.2.1)=b2
    generalize decide (g.1<w.2.2.2.2.2.2.2.2.1)=b3
    by_cases hq:b1=true∧b2=true∧b3=true
    rotate_left
    ·cases b1<;>cases b2<;>cases b3<;>first|rfl|(exact absurd hq (by simp))
    obtain⟨e1,e2,e3⟩:=hq
    subst e1 e2 e3
    rw[Bool.true_and,Bool.true_and,Bool.true_and]
    refine(sJ rfl).trans ?_
    refine cD (fun j:Nat=>(w,g,eK w g j,w.2.2.2.2.2.2.2.1,(w.2.2.2.2.2.2.2.1.length:Int),(i:Int),w.2.2.2.2.2.2.2.2.2.1,(w.2.2.2.2.2.2.2.2.2.1.length:Int),(j:Int),())) w.2.2.2.2.2.2.2.2.2.1.length (fun G3 j hj=> ?_) (fun G3=> ?_) k 0 (by omega) (by omega)
    ·simp only[aw,aK hj,hj,decide_true,if_true,Int.toNat_natCast,Bool.or_true,OA hk]
     rw[bd (by omega),vY]
     unfold rP
     cases eK w g j<;>by_cases h2:(w.2.2.2.2.2.2.2.2.2.1.getD j aC.aa).2=g.1<;>simp only[h2,Bool.not_true,Bool.not_false,Bool.false_eq_true,if_false,if_true,decide_true,decide_false,Bool.true_and,Bool.false_and,Bool.and_true,Bool.and_false,beq_self_eq_true,Option.bind_some,beq_iff_eq]<;>rfl
    ·simp only[aw,Nat.lt_irrefl,decide_false,Bool.false_eq_true,if_false]
     rw[bd (by omega)]
     cases eK w g w.2.2.2.2.2.2.2.2.2.1.length<;>rfl
   ·intro G
    simp only[aw,Nat.lt_irrefl,decide_false,Bool.false_eq_true,if_false]
    refine(cA (fun i:Nat=>(w,w.2.2.2.2.2.2.2.2.2.1,(w.2.2.2.2.2.2.2.2.2.1.length:Int),(i:Int),())) (fun i=>decide ((w.2.2.2.2.2.2.2.2.2.1.getD i aC.aa).2<w.2.2.2.2.2.2.2.2.1)&&bf 0 i (fun j=> !decide ((w.2.2.2.2.2.2.2.2.2.1.getD j aC.aa).2=(w.2.2.2.2.2.2.2.2.2.1.getD i aC.aa).2))) w.2.2.2.2.2.2.2.2.2.1.length
     (e:=some (true,())) (no:=some (false,())) ?_ ?_ k 0 (by omega) (by omega)).trans ?_
    ·intro G i hi
     have hl:(w.2.2.2.2.2.2.2.2.2.1.take i).length=i:=by rw[List.length_take];omega
     simp only[aw,aK hi,hi,decide_true,if_true,Int.toNat_natCast,jM,hl]
     rcases Bool.eq_false_or_eq_true (decide ((w.2.2.2.2.2.2.2.2.2.1.getD i aC.aa).2<w.2.2.2.2.2.2.2.2.1))with h|h<;>simp only[h,Bool.not_true,Bool.not_false,Bool.false_eq_true,if_false,if_true,Bool.true_and,Bool.false_and]
     rw[if_pos (by simp only[decide_eq_true_eq];omega)]
     refine(cA (fun j:Nat=>(w,w.2.2.2.2.2.2.2.2.2.1.getD i aC.aa,w.2.2.2.2.2.2.2.2.2.1,(w.2.2.2.2.2.2.2.2.2.1.length:Int),(i:Int),w.2.2.2.2.2.2.2.2.2.1.take i,(i:Int),(j:Int),())) (fun j=> !decide ((w.2.2.2.2.2.2.2.2.2.1.getD j aC.aa).2=(w.2.2.2.2.2.2.2.2.2.1.getD i aC.aa).2)) i
      (e:=G (w,w.2.2.2.2.2.2.2.2.2.1,(w.2.2.2.2.2.2.2.2.2.1.length:Int),((i+1:Nat):Int),())) (no:=some (false,())) ?_ ?_ k 0 (by omega) (by omega)).trans ?_
     ·intro G2 j hj
      simp only[aw,hl,aK hj,hj,decide_true,if_true,Int.toNat_natCast,bY,TM aC.aa hj]
      rw[bd (by omega)]
      rcases Bool.eq_false_or_eq_true (decide ((w.2.2.2.2.2.2.2.2.2.1.getD j aC.aa).2=(w.2.2.2.2.2.2.2.2.2.1.getD i aC.aa).2))with h2|h2<;>simp only[h2,Bool.not_true,Bool.not_false,Bool.false_eq_true,if_false,if_true]
     ·intro G2
      simp only[aw,Nat.lt_irrefl,decide_false,Bool.false_eq_true,if_false]
      rw[bd (by omega)]
     ·rfl
    ·intro G2
     simp only[aw,Nat.lt_irrefl,decide_false,Bool.false_eq_true,if_false]
    ·show(if pO w.2.2.2.2.2.2.2.2.1 w.2.2.2.2.2.2.2.2.2.1=true then _ else _)=_
     cases pO w.2.2.2.2.2.2.2.2.1 w.2.2.2.2.2.2.2.2.2.1<;>simp
   ·show(if rK w=true then _ else _)=_
    cases rK w<;>simp
end
end Vg.Tryz
namespace Vg.Tryz
open Go Vg
set_option linter.unusedVariables false
set_option linter.unusedSectionVars false
set_option linter.unusedSimpArgs false
def qx (k:Nat) (w:ar) (d:aY):Bool:=
 sS k d&&(decide (d.2.2.2.2.2.2.2.2.2.1<w.2.1)&&(decide (d.2.2.2.2.2.2.2.2.2.2.1<w.2.1)&&decide (d.2.2.2.2.2.2.2.2.2.2.2<w.2.1)))
def j0 (k:Nat) (w:ar):Bool:=bf 0 w.2.2.2.2.2.2.2.2.2.2.2.2.2.length (fun i=>qx k w (w.2.2.2.2.2.2.2.2.2.2.2.2.2.getD i ak.aa))
def ns (w:ar) (t:aM):aY:=w.2.2.2.2.2.2.2.2.2.2.2.2.2.getD t.2.2.2.2.2.2.2.2.toNat ak.aa
def fq (k:Nat) (w:ar):Bool:=bf 0 w.2.2.2.2.2.2.2.2.2.2.2.2.1.length (fun i=>gY k w (w.2.2.2.2.2.2.2.2.2.2.2.2.1.getD i ah.aa) (ns w (w.2.2.2.2.2.2.2.2.2.2.2.2.1.getD i ah.aa)) i)
def eQ (k:Nat) (w:ar):Bool:=
 iU k w.2.2.2.1&&(decide ((w.2.2.2.1.length:Int)=w.1.1)&&(decide ((oH w.2.2.2.1:Int)≤w.1.2.1)&&bf 0 (du (cW w.2.2.2.1)).length (fun i=>fk ((du (cW w.2.2.2.1)).getD i ab.aa))))
def pv (k:Nat) (w:ar):Bool:=
 gJ w.1&&(decide (0≤w.2.1)&&(decide (0≤w.2.2.2.2.2.2.2.2.1)&&(bK w.2.2.1 0 99899&&(eQ k w&&(decide ((w.2.2.2.2.1.length:Int)=w.1.2.2.1)&&(decide ((w.2.2.2.2.2.2.2.2.2.2.2.2.1.length:Int)=5)&&(cj w.2.2.2.2.2.1&&(cj w.2.2.2.2.2.2.2.2.2.2.2.1&&
 (qm w.2.2.2.2.1&&(j0 k w&&(fq k w&&(gu k w&&dN w))))))))))))
section
variable {k:Nat} (hk:9223372036854775808≤k)
include hk
theorem An {w:ar} (hs:ag aE w≤1048576) (hp:(w.2.2.2.1.length:Int)=w.1.1):ij k (w,())=some (j0 k w&&fq k w,()):=by
 obtain⟨w1,w2,_,_,w5,w6,_,w8,w9⟩:=dO hk hs
 have hn:=aA (e:=ak) (l:=w.2.2.2.2.2.2.2.2.2.2.2.2.2)
 have hm:=aA (e:=ah) (l:=w.2.2.2.2.2.2.2.2.2.2.2.2.1)
 have hdeed:∀j:Nat,ag ak (w.2.2.2.2.2.2.2.2.2.2.2.2.2.getD j ak.aa)≤1048576:=fun j=>vF hk (e:=ak) rfl w9 j
 have htask:∀j:Nat,ag ah (w.2.2.2.2.2.2.2.2.2.2.2.2.1.getD j ah.aa)≤1048576:=fun j=>vF hk (e:=ah) rfl w8 j
 simp only[ij,aO]
 refine(cA (fun i:Nat=>(w,w.2.2.2.2.2.2.2.2.2.2.2.2.2,(w.2.2.2.2.2.2.2.2.2.2.2.2.2.length:Int),(i:Int),())) (fun i=>qx k w (w.2.2.2.2.2.2.2.2.2.2.2.2.2.getD i ak.aa)) w.2.2.2.2.2.2.2.2.2.2.2.2.2.length
  (e:=some (fq k w,())) (no:=some (false,())) ?_ ?_ k 0 (by omega) (by omega)).trans ?_
 ·intro G i hi
  dsimp only
  rw[aw,decide_eq_true hi,if_pos rfl,if_pos (aK hi),Int.toNat_natCast,Jv hk,Option.bind_some,bd (by omega)]
  generalize w.2.2.2.2.2.2.2.2.2.2.2.2.2.getD i ak.aa=d
  rw[jM,jM,jM]
  unfold qx
  cases sS k d<;>cases decide (d.2.2.2.2.2.2.2.2.2.1<w.2.1)<;>cases decide (d.2.2.2.2.2.2.2.2.2.2.1<w.2.1)<;>cases decide (d.2.2.2.2.2.2.2.2.2.2.2<w.2.1)<;>rfl
 ·intro G
  simp only[aw,Nat.lt_irrefl,decide_false,Bool.false_eq_true,if_false]
  refine(cA (fun i:Nat=>(w,w.2.2.2.2.2.2.2.2.2.2.2.2.1,(w.2.2.2.2.2.2.2.2.2.2.2.2.1.length:Int),(i:Int),())) (fun i=>gY k w (w.2.2.2.2.2.2.2.2.2.2.2.2.1.getD i ah.aa) (ns w (w.2.2.2.2.2.2.2.2.2.2.2.2.1.getD i ah.aa)) i) w.2.2.2.2.2.2.2.2.2.2.2.2.1.length
   (e:=some (true,())) (no:=some (false,())) ?_ ?_ k 0 (by omega) (by omega)).trans ?_
  ·intro G2 i hi
   have ht:ag ah (w.2.2.2.2.2.2.2.2.2.2.2.2.1.getD i ah.aa)≤1048576:=htask i
   dsimp only
   rw[aw,decide_eq_true hi,if_pos rfl,if_pos (aK hi),Int.toNat_natCast,bd (by omega)]
   generalize w.2.2.2.2.2.2.2.2.2.2.2.2.1.getD i ah.aa=t at*
   have hd:ag ak (ns w t)≤1048576:=hdeed _
   unfold ns at hd⊢
   generalize w.2.2.2.2.2.2.2.2.2.2.2.2.2.getD t.2.2.2.2.2.2.2.2.toNat ak.aa=d at*
   rw[Ki hk ht,Option.bind_some]
   unfold gY
   by_cases hok:gI t i=true
   rotate_left
   ·simp[hok]
   obtain⟨hH,hkind⟩:=Cr hok
   rw[CP hk hs hp ht hd hok]
   by_cases e0:t.1=0
   ·simp[e0,hok]
   by_cases eH:t.2.2.2.2.2.2.2.2<(w.2.2.2.2.2.2.2.2.2.2.2.2.2.length:Int)
   rotate_left
   ·have:decide (t.2.2.2.2.2.2.2.2≥(w.2.2.2.2.2.2.2.2.2.2.2.2.2.length:Int))=true:=by simp only[decide_eq_true_eq];omega
    simp[e0,this,eH,hok]
   have q1:decide (t.2.2.2.2.2.2.2.2≥(w.2.2.2.2.2.2.2.2.2.2.2.2.2.length:Int))=false:=by simp only[decide_eq_false_iff_not];omega
   simp only[hok,q1,hH,and_true,true_and,if_true,Bool.not_true,Bool.false_eq_true,if_false,eH,e0,decide_true,decide_false,Bool.true_and,Bool.false_or,bY,ir]
   by_cases c1:d.2.1=i
   rotate_left
   ·simp[c1]
   by_cases c2:d.2.2.2.2.2.2.2.2.2.2.2= -1
   rotate_left
   ·simp[c1,c2]
   by_cases c3:d.2.2.2.2.2.2.2.2.2.2.1= -1<;>by_cases c4:t.1=1<;>by_cases c5:t.2.1=2<;>cases pQ k w t d<;>simp[c1,c2,c3,c4,c5]
  ·intro G2
   simp only[aw,Nat.lt_irrefl,decide_false,Bool.false_eq_true,if_false]
  ·show(if fq k w=true then _ else _)=_
   cases fq k w<;>simp
 ·show(if j0 k w=true then _ else _)=_
  cases j0 k w<;>simp
theorem Ku {l:List aG} (hs:ag (.sl aq) l≤1048576) {i:Nat} (hi:i<(du (cW l)).length):ag ab ((du (cW l)).getD i ab.aa)≤1048576:=by
 have h1:=fj hk l
 have h2:=Rh (cW l)
 have h3:=sP (e:=ab) (d:=ab.aa) hi
 omega
omit hk in
theorem FY (l:List aG):(du (cW l)).length=oH l:=by
 have:=KH cO (cW l)
 unfold du eO oH
 rw[List.length_reverse]
 exact this
theorem Dh {w:ar} (hs:ag aE w≤1048576):kz k (w,())=some (eQ k w,()):=by
 obtain⟨w1,w2,_,_,w5,w6,_,w8,w9⟩:=dO hk hs
 have hc:=Kk hk w2
 have hsl:=FY w.2.2.2.1
 simp only[kz,aO,Ey hk w2,Bk hk w2,Option.bind_some,ir]
 unfold eQ
 cases iU k w.2.2.2.1 with
 |false=>rfl
 |true=>
  rcases Bool.eq_false_or_eq_true (decide ((w.2.2.2.1.length:Int)=w.1.1))with hq|hq
  rotate_left
  ·rw[hq];rfl
  ·rw[hq]
   simp only[Bool.not_true,Bool.false_eq_true,if_false,Bool.true_and]
   refine(cA (fun i:Nat=>(w,du (cW w.2.2.2.1),(i:Int),())) (fun i=>fk ((du (cW w.2.2.2.1)).getD i ab.aa)) (du (cW w.2.2.2.1)).length
    (e:=some (decide ((oH w.2.2.2.1:Int)≤w.1.2.1),())) (no:=some (false,())) ?_ ?_ k 0 (by omega) (by omega)).trans ?_
   ·intro G i hi
    have h1:=Ku hk w2 hi
    dsimp only
    rw[aw,decide_eq_true hi,if_pos rfl,if_pos (aK hi),Int.toNat_natCast,rS hk h1,Option.bind_some,bd (by omega)]
    cases fk ((du (cW w.2.2.2.1)).getD i ab.aa)<;>rfl
   ·intro G
    simp only[aw,Nat.lt_irrefl,decide_false,Bool.false_eq_true,if_false,hsl]
   ·cases bf 0 (du (cW w.2.2.2.1)).length (fun i=>fk ((du (cW w.2.2.2.1)).getD i ab.aa))<;>simp
theorem AA {w:ar} (hs:ag aE w≤1048576) (h8:w.1.2.1≤8):ik k (w,())=some (eQ k w,()):=by
 obtain⟨w1,w2,_,_,w5,w6,_,w8,w9⟩:=dO hk hs
 have hc:=Kk hk w2
 have hsl:=FY w.2.2.2.1
 simp only[ik,aO,Hy hk w2,Ft hk w2,Option.bind_some,ir]
 unfold eQ
 cases iU k w.2.2.2.1 with
 |false=>rfl
 |true=>
  rcases Bool.eq_false_or_eq_true (decide ((w.2.2.2.1.length:Int)=w.1.1))with hq|hq
  rotate_left
  ·rw[hq];rfl
  ·rw[hq]
   simp only[Bool.not_true,Bool.false_eq_true,if_false,Bool.true_and,beq_self_eq_true,if_true,Option.bind_some]
   by_cases hcap:(oH w.2.2.2.1:Int)≤w.1.2.1
   rotate_left
   ·rw[if_pos (by simp only[decide_eq_true_eq];omega),decide_eq_false hcap];rfl
   rw[if_neg (by simp only[decide_eq_true_eq];omega),decide_eq_true hcap,BS hk w2 (by omega),Option.bind_some]
   refine(cA (fun i:Nat=>(w,du (cW w.2.2.2.1),((du (cW w.2.2.2.1)).length:Int),(i:Int),())) (fun i=>fk ((du (cW w.2.2.2.1)).getD i ab.aa)) (du (cW w.2.2.2.1)).length
    (e:=some (true,())) (no:=some (false,())) ?_ ?_ k 0 (by omega) (by omega)).trans ?_
   ·intro G i hi
    have h1:=Ku hk w2 hi
    dsimp only
    rw[aw,decide_eq_true hi,if_pos rfl,if_pos (aK hi),Int.toNat_natCast,sq hk h1,Option.bind_some,bd (by omega)]
    cases fk ((du (cW w.2.2.2.1)).getD i ab.aa)<;>rfl
   ·intro G
    simp only[aw,Nat.lt_irrefl,decide_false,Bool.false_eq_true,if_false]
   ·cases bf 0 (du (cW w.2.2.2.1)).length (fun i=>fk ((du (cW w.2.2.2.1)).getD i ab.aa))<;>simp
omit hk in
theorem My {l:List aG} (h:iU k l=true):(1≤l.length∧l.length≤3)∧∀i,i<l.length→bK (l.getD i aq.aa).1 (-1) 4=true:=by
 unfold iU at h
 simp only[Bool.and_eq_true,ei]at h
 obtain⟨h1,h2⟩:=h
 refine⟨?_,fun i hi=> ?_⟩
 ·unfold bK at h2
  simp only[Bool.and_eq_true,decide_eq_true_eq]at h2
  omega
 ·have:=h1 i (by omega) hi
  unfold jF at this
  simp only[Bool.and_eq_true]at this
  exact this.2.1
omit hk in
theorem Tt {w:ar} (hp:(w.2.2.2.1.length:Int)=w.1.1) (h1:1≤w.2.2.2.1.length) (ho:fq k w=true) {j:Nat} (hj:j<w.2.2.2.2.2.2.2.2.2.2.2.2.1.length):bB k w j<w.2.2.2.1.length:=by
 unfold fq at ho
 have h:=ei.1 ho j (by omega) hj
 unfold bB nK
 generalize w.2.2.2.2.2.2.2.2.2.2.2.2.1.getD j ah.aa=t at*
 have hp1:=fun f:Int=>Ha (f:=f) (n:=(w.2.2.2.1.length:Int)) (by omega)
 split
 ·omega
 split
 ·exact(hp1 _).2
 split
 ·exact(hp1 _).2
 split
 ·rename_i hc
  unfold gY pQ at h
  rw[hp]
  grind
 ·omega
end
end Vg.Tryz
namespace Vg.Tryz
open Go Vg
set_option linter.unusedVariables false
set_option linter.unusedSectionVars false
set_option linter.unusedSimpArgs false
section
variable {k:Nat} (hk:9223372036854775808≤k)
include hk
theorem E5 {w:ar} (hs:ag aE w≤1048576):lY k (w,())=some (pv k w,()):=by
 obtain⟨w1,w2,w3,w4,w5,w6,w7,w8,w9⟩:=dO hk hs
 have hn:=aA (e:=ak) (l:=w.2.2.2.2.2.2.2.2.2.2.2.2.2)
 have hm:=aA (e:=ah) (l:=w.2.2.2.2.2.2.2.2.2.2.2.2.1)
 have hu:=aA (e:=aU) (l:=w.2.2.2.2.1)
 simp only[lY,aO,Ih hk w1,fg hk,Dh hk hs,pM hk w4,pM hk w7,Option.bind_some,ir,bM]
 have g0:∀a:Int,decide (a<0)= !decide (0≤a):=fun a=>by by_cases h:a<0<;>simp[h]<;>omega
 rw[g0,g0]
 unfold pv
 by_cases hall:gJ w.1=true∧0≤w.2.1∧0≤w.2.2.2.2.2.2.2.2.1∧bK w.2.2.1 0 99899=true∧eQ k w=true∧(w.2.2.2.2.1.length:Int)=w.1.2.2.1∧(w.2.2.2.2.2.2.2.2.2.2.2.2.1.length:Int)=5∧cj w.2.2.2.2.2.1=true∧cj w.2.2.2.2.2.2.2.2.2.2.2.1=true
 rotate_left
 ·have hf:(gJ w.1&&(decide (0≤w.2.1)&&(decide (0≤w.2.2.2.2.2.2.2.2.1)&&(bK w.2.2.1 0 99899&&(eQ k w&&(decide ((w.2.2.2.2.1.length:Int)=w.1.2.2.1)&&(decide ((w.2.2.2.2.2.2.2.2.2.2.2.2.1.length:Int)=5)&&(cj w.2.2.2.2.2.1&&(cj w.2.2.2.2.2.2.2.2.2.2.2.1&&
   (qm w.2.2.2.2.1&&(j0 k w&&(fq k w&&(gu k w&&dN w)))))))))))))=false:=by
   rw[Bool.eq_false_iff]
   intro h
   simp only[Bool.and_eq_true,decide_eq_true_eq]at h
   exact hall ⟨h.1,h.2.1,h.2.2.1,h.2.2.2.1,h.2.2.2.2.1,h.2.2.2.2.2.1,h.2.2.2.2.2.2.1,h.2.2.2.2.2.2.2.1,h.2.2.2.2.2.2.2.2.1⟩
  rw[hf]
  refine(if_pos ?_).trans rfl
  have hq:¬(gJ w.1=true∧decide (0≤w.2.1)=true∧decide (0≤w.2.2.2.2.2.2.2.2.1)=true∧bK w.2.2.1 0 99899=true∧eQ k w=true∧decide ((w.2.2.2.2.1.length:Int)=w.1.2.2.1)=true∧decide ((w.2.2.2.2.2.2.2.2.2.2.2.2.1.length:Int)=5)=true∧cj w.2.2.2.2.2.1=true∧cj w.2.2.2.2.2.2.2.2.2.2.2.1=true):=by
   simpa only[decide_eq_true_eq]using hall
  generalize gJ w.1=b1 at hq⊢
  generalize decide (0≤w.2.1)=b2 at hq⊢
  generalize decide (0≤w.2.2.2.2.2.2.2.2.1)=b3 at hq⊢
  generalize bK w.2.2.1 0 99899=b4 at hq⊢
  generalize eQ k w=b5 at hq⊢
  generalize decide ((w.2.2.2.2.1.length:Int)=w.1.2.2.1)=b6 at hq⊢
  generalize decide ((w.2.2.2.2.2.2.2.2.2.2.2.2.1.length:Int)=5)=b7 at hq⊢
  generalize cj w.2.2.2.2.2.1=b8 at hq⊢
  generalize cj w.2.2.2.2.2.2.2.2.2.2.2.1=b9 at hq⊢
  clear hall hf
  cases b1
  ·rfl
  cases b2
  ·rfl
  cases b3
  ·rfl
  cases b4
  ·rfl
  cases b5
  ·rfl
  cases b6
  ·rfl
  cases b7
  ·rfl
  cases b8
  ·rfl
  cases b9
  ·rfl
  exact absurd ⟨rfl,rfl,rfl,rfl,rfl,rfl,rfl,rfl,rfl⟩ hq
 obtain⟨h1,h2,h3,h4,h5,h6,h7,h8,h9⟩:=hall
 have hst:iU k w.2.2.2.1=true∧(w.2.2.2.1.length:Int)=w.1.1:=by
  unfold eQ at h5
  simp only[Bool.and_eq_true,decide_eq_true_eq]at h5
  exact⟨h5.1,h5.2.1⟩
 obtain⟨⟨hl1,_⟩,hheld⟩:=My hst.1
 rw[h1,decide_eq_true h2,decide_eq_true h3,h4,h5,decide_eq_true h6,decide_eq_true h7,h8,h9]
 simp only[Bool.true_and]
 refine(sJ rfl).trans ?_
 refine(cA (fun i:Nat=>(w,(i:Int),())) (fun i=>p9 (w.2.2.2.2.1.getD i aU.aa)) w.2.2.2.2.1.length
  (e:=some (j0 k w&&(fq k w&&(gu k w&&dN w)),())) (no:=some (false,())) ?_ ?_ k 0 (by omega) (by omega)).trans ?_
 ·intro G i hi
  dsimp only
  rw[aw,decide_eq_true hi,if_pos rfl,if_pos (aK hi),Int.toNat_natCast,Mb hk (RV hk w3 hi),Option.bind_some,bd (by omega)]
  cases p9 (w.2.2.2.2.1.getD i aU.aa)<;>rfl
 ·intro G
  simp only[aw,Nat.lt_irrefl,decide_false,Bool.false_eq_true,if_false]
  refine(cA (fun i:Nat=>(w,(i:Int),())) (fun i=>qx k w (w.2.2.2.2.2.2.2.2.2.2.2.2.2.getD i ak.aa)) w.2.2.2.2.2.2.2.2.2.2.2.2.2.length
   (e:=some (fq k w&&(gu k w&&dN w),())) (no:=some (false,())) ?_ ?_ k 0 (by omega) (by omega)).trans ?_
  ·intro G i hi
   dsimp only
   rw[aw,decide_eq_true hi,if_pos rfl,if_pos (aK hi),Int.toNat_natCast,IC hk,Option.bind_some,bd (by omega)]
   generalize w.2.2.2.2.2.2.2.2.2.2.2.2.2.getD i ak.aa=d
   rw[jM,jM,jM]
   unfold qx
   cases sS k d<;>cases decide (d.2.2.2.2.2.2.2.2.2.1<w.2.1)<;>cases decide (d.2.2.2.2.2.2.2.2.2.2.1<w.2.1)<;>cases decide (d.2.2.2.2.2.2.2.2.2.2.2<w.2.1)<;>rfl
  ·intro G
   simp only[aw,Nat.lt_irrefl,decide_false,Bool.false_eq_true,if_false]
   refine(cA (fun i:Nat=>(w,(i:Int),())) (fun i=>gY k w (w.2.2.2.2.2.2.2.2.2.2.2.2.1.getD i ah.aa) (ns w (w.2.2.2.2.2.2.2.2.2.2.2.2.1.getD i ah.aa)) i) w.2.2.2.2.2.2.2.2.2.2.2.2.1.length
    (e:=gH k (w,())>>= fun r=>(if(r.1==true)=true then gn k (w,())else some (false,()))>>= fun r2=>some (if r.1=true then r2.1 else false,())) (no:=some (false,())) ?_ ?_ k 0 (by omega) (by omega)).trans ?_
   ·intro G i hi
    dsimp only
    rw[aw,decide_eq_true hi,if_pos rfl,Hr hk hs hi hst.2,Option.bind_some,bd (by omega)]
    show(if(!gY k w (w.2.2.2.2.2.2.2.2.2.2.2.2.1.getD i ah.aa) (ns w (w.2.2.2.2.2.2.2.2.2.2.2.2.1.getD i ah.aa)) i)=true then _ else _)=_
    cases gY k w (w.2.2.2.2.2.2.2.2.2.2.2.2.1.getD i ah.aa) (ns w (w.2.2.2.2.2.2.2.2.2.2.2.2.1.getD i ah.aa)) i<;>rfl
   ·intro G
    simp only[aw,Nat.lt_irrefl,decide_false,Bool.false_eq_true,if_false]
    rfl
   ·show(if fq k w=true then _ else _)=_
    rcases Bool.eq_false_or_eq_true (fq k w)with ho|ho
    rotate_left
    ·rw[ho];rfl
    ·rw[ho,if_pos rfl,CS hk hs hheld (by omega) (fun j hj=>Tt hst.2 hl1 ho (by omega)),BR hk hs (by omega)]
     cases gu k w<;>rfl
  ·show(if j0 k w=true then _ else _)=_
   cases j0 k w<;>simp
 ·show(if qm w.2.2.2.2.1=true then _ else _)=_
  cases qm w.2.2.2.2.1<;>simp
theorem EF {w:ar} (hs:ag aE w≤1048576):lM k (w,())=some (pv k w,()):=by
 obtain⟨w1,w2,w3,w4,w5,w6,w7,w8,w9⟩:=dO hk hs
 simp only[lM,Jn hk w1,ew hk,Option.bind_some,ir,bM]
 have g0:∀a:Int,decide (a<0)= !decide (0≤a):=fun a=>by by_cases h:a<0<;>simp[h]<;>omega
 rw[g0,g0]
 unfold pv
 by_cases hall:gJ w.1=true∧0≤w.2.1∧0≤w.2.2.2.2.2.2.2.2.1∧bK w.2.2.1 0 99899=true∧(w.2.2.2.2.2.2.2.2.2.2.2.2.1.length:Int)=5
 rotate_left
 ·have hf:(gJ w.1&&(decide (0≤w.2.1)&&(decide (0≤w.2.2.2.2.2.2.2.2.1)&&(bK w.2.2.1 0 99899&&(eQ k w&&(decide ((w.2.2.2.2.1.length:Int)=w.1.2.2.1)&&(decide ((w.2.2.2.2.2.2.2.2.2.2.2.2.1.length:Int)=5)&&(cj w.2.2.2.2.2.1&&(cj w.2.2.2.2.2.2.2.2.2.2.2.1&&
   (qm w.2.2.2.2.1&&(j0 k w&&(fq k w&&(gu k w&&dN w)))))))))))))=false:=by
   rw[Bool.eq_false_iff]
   intro h
   simp only[Bool.and_eq_true,decide_eq_true_eq]at h
   exact hall ⟨h.1,h.2.1,h.2.2.1,h.2.2.2.1,h.2.2.2.2.2.2.1⟩
  rw[hf]
  refine(if_pos ?_).trans rfl
  have hq:¬(gJ w.1=true∧decide (0≤w.2.1)=true∧decide (0≤w.2.2.2.2.2.2.2.2.1)=true∧bK w.2.2.1 0 99899=true∧decide ((w.2.2.2.2.2.2.2.2.2.2.2.2.1.length:Int)=5)=true):=by
   simpa only[decide_eq_true_eq]using hall
  generalize gJ w.1=b1 at hq⊢
  generalize decide (0≤w.2.1)=b2 at hq⊢
  generalize decide (0≤w.2.2.2.2.2.2.2.2.1)=b3 at hq⊢
  generalize bK w.2.2.1 0 99899=b4 at hq⊢
  generalize decide ((w.2.2.2.2.2.2.2.2.2.2.2.2.1.length:Int)=5)=b7 at hq⊢
  clear hall hf
  cases b1
  ·rfl
  cases b2
  ·rfl
  cases b3
  ·rfl
  cases b4
  ·rfl
  cases b7
  ·rfl
  exact absurd ⟨rfl,rfl,rfl,rfl,rfl⟩ hq
 obtain⟨h1,h2,h3,h4,h7⟩:=hall
 have hcap:w.1.2.1≤8:=by
  unfold gJ bK at h1
  simp only[Bool.and_eq_true,decide_eq_true_eq]at h1
  omega
 rw[h1,decide_eq_true h2,decide_eq_true h3,h4,decide_eq_true h7]
 simp only[Bool.true_and]
 refine(sJ rfl).trans ?_
 rw[AA hk hs hcap,Option.bind_some]
 rcases Bool.eq_false_or_eq_true (eQ k w)with h5|h5
 rotate_left
 ·rw[h5];rfl
 have hst:iU k w.2.2.2.1=true∧(w.2.2.2.1.length:Int)=w.1.1:=by
  unfold eQ at h5
  simp only[Bool.and_eq_true,decide_eq_true_eq]at h5
  exact⟨h5.1,h5.2.1⟩
 rw[h5,B8 hk w3,jq hk w4,jq hk w7,An hk hs hst.2,AR hk hs,zh hk hs (by omega)]
 generalize decide ((w.2.2.2.2.1.length:Int)=w.1.2.2.1)=c1
 generalize cj w.2.2.2.2.2.1=c2
 generalize cj w.2.2.2.2.2.2.2.2.2.2.2.1=c3
 generalize qm w.2.2.2.2.1=c4
 generalize j0 k w=c5
 generalize fq k w=c6
 generalize gu k w=c7
 generalize dN w=c8
 clear h5 hst
 cases c4<;>cases c1<;>cases c2<;>cases c3<;>cases c5<;>cases c6<;>cases c7<;>first|rfl|(cases c8<;>rfl)
end
end Vg.Tryz
namespace Vg.Tryz
open Go Vg
set_option linter.unusedVariables false
set_option linter.unusedSectionVars false
set_option linter.unusedSimpArgs false
section
variable {k:Nat} (hk:9223372036854775808≤k)
include hk
theorem PM {l:List aJ} (h:ag (.sl al) l≤1073741824):pd k (l,())=some (l,()):=
 zw (d:=al.aa) (S:=iK k) hk (Nat.le_trans (aA (e:=al)) h) (fun e he=>PY hk (Nat.le_trans (bo (e:=al) he) h))
theorem Lc {l:List aJ} (h:ag (.sl al) l≤1073741824):mo k (l,())=some (l,()):=
 E9 (d:=al.aa) (S:=gg k) hk (Nat.le_trans (aA (e:=al)) h) (fun e he=>NS hk (Nat.le_trans (bo (e:=al) he) h))
end
end Vg.Tryz
namespace Vg.Tryz
open Go Vg
set_option linter.unusedVariables false
set_option linter.unusedSectionVars false
set_option linter.unusedSimpArgs false
section
variable {k:Nat} (hk:9223372036854775808≤k)
include hk
theorem R4 {c:bc} (h:ag ay c≤1073741824):mQ k (c,())=some (c,()):=by
 have h1:=ep hk c
 simp only[mQ]
 rw[jj hk (by omega),Option.bind_some]
theorem Nc {c:bc} (h:ag ay c≤1073741824):jB k (c,())=some (c,()):=by
 have h1:=ep hk c
 simp only[jB]
 rw[dX hk (by omega),Option.bind_some]
theorem RO {p:aG} (h:ag aq p≤1073741824):jI k (p,())=some (p,()):=by
 have h1:=dL hk p
 have hl:=aA (e:=ay) (l:=p.2.2)
 simp only[jI]
 refine cD (fun i=>(p,(0,(0,([]:List bc))),(p.1,p.2.1,p.2.2.take i),(i:Int),())) p.2.2.length (fun G i hi=> ?_) (fun G=> ?_) k 0 (by omega) (by omega)
 ·have hm:=bo (e:=ay) (ch (d:=ay.aa) hi)
  simp only[aw,aK hi,hi,decide_true,if_true,Int.toNat_natCast]
  rw[R4 hk (by omega),Option.bind_some,if_pos (by simp;omega),bd (by omega),fS ay.aa hi]
 ·simp
theorem OF {p:aG} (h:ag aq p≤1073741824):gz k (p,())=some (p,()):=by
 have h1:=dL hk p
 have hl:=aA (e:=ay) (l:=p.2.2)
 simp only[gz]
 refine cD (fun i=>(p,(0,(0,([]:List bc))),(p.1,p.2.1,p.2.2.take i),p.2.2,(p.2.2.length:Int),(i:Int),())) p.2.2.length (fun G i hi=> ?_) (fun G=> ?_) k 0 (by omega) (by omega)
 ·have hm:=bo (e:=ay) (ch (d:=ay.aa) hi)
  simp only[aw,aK hi,hi,decide_true,if_true,Int.toNat_natCast]
  rw[Nc hk (by omega),Option.bind_some,if_pos (by simp;omega),bd (by omega),fS ay.aa hi]
 ·simp
theorem Q3 {l:List aG} (h:ag (.sl aq) l≤1073741824):qC k (l,())=some (l,()):=
 zw (d:=aq.aa) (S:=jI k) hk (Nat.le_trans (aA (e:=aq)) h) (fun e he=>RO hk (Nat.le_trans (bo (e:=aq) he) h))
theorem NM {l:List aG} (h:ag (.sl aq) l≤1073741824):nB k (l,())=some (l,()):=
 E9 (d:=aq.aa) (S:=gz k) hk (Nat.le_trans (aA (e:=aq)) h) (fun e he=>OF hk (Nat.le_trans (bo (e:=aq) he) h))
theorem Q2 {s:bF} (h:ag aU s≤1073741824):jR k (s,())=some (s,()):=by
 have h1:=nS hk s
 simp only[jR]
 rw[jj hk (by omega),Option.bind_some]
theorem P4 {s:bF} (h:ag aU s≤1073741824):iV k (s,())=some (s,()):=by
 have h1:=nS hk s
 simp only[iV]
 rw[dX hk (by omega),Option.bind_some]
theorem Sf {l:List bF} (h:ag (.sl aU) l≤1073741824):sH k (l,())=some (l,()):=
 zw (d:=aU.aa) (S:=jR k) hk (Nat.le_trans (aA (e:=aU)) h) (fun e he=>Q2 hk (Nat.le_trans (bo (e:=aU) he) h))
theorem Oz {l:List bF} (h:ag (.sl aU) l≤1073741824):ow k (l,())=some (l,()):=
 E9 (d:=aU.aa) (S:=iV k) hk (Nat.le_trans (aA (e:=aU)) h) (fun e he=>P4 hk (Nat.le_trans (bo (e:=aU) he) h))
theorem Le {l:List bl} (h:l.length≤1073741824):iq k (l,())=some (l,()):=by
 simp only[iq]
 rw[if_pos (by simp;omega)]
 simp
theorem Nn {b:bz} (h:ag aN b≤1073741824):jr k (b,())=some (b,()):=by
 have h1:=nO hk b
 have h2:=aA (e:=af) (l:=b.2.1)
 simp only[jr]
 rw[oF hk (by omega),Option.bind_some,dX hk (by omega),Option.bind_some]
theorem Hl {t:aM} (h:ag ah t≤1073741824):iz k (t,())=some (t,()):=by
 have h1:=dJ hk t
 have h2:=aA (e:=af) (l:=t.2.2.2.1)
 have h3:=aA (e:= .int .i64) (l:=t.2.2.2.2.2.1)
 simp only[iz]
 rw[kJ hk (by omega),Option.bind_some,if_pos (by simp;omega),if_pos (by simp;omega),jj hk (by omega),Option.bind_some]
 simp
theorem On {t:aM} (h:ag ah t≤1073741824):kC k (t,())=some (t,()):=by
 have h1:=dJ hk t
 have h2:=aA (e:=af) (l:=t.2.2.2.1)
 have h3:=aA (e:= .int .i64) (l:=t.2.2.2.2.2.1)
 simp only[kC]
 rw[lp hk (by omega),Option.bind_some,oF hk (by omega),Option.bind_some,if_pos (by simp;omega),dX hk (by omega),Option.bind_some]
 simp
theorem QQ {d:aY} (h:ag ak d≤1073741824):iZ k (d,())=some (d,()):=by
 have h1:=jt hk d
 have h2:=aA (e:=af) (l:=d.2.2.2.1)
 simp only[iZ]
 rw[kJ hk (by omega),Option.bind_some,if_pos (by simp;omega),jj hk (by omega),Option.bind_some]
 simp
theorem OT {d:aY} (h:ag ak d≤1073741824):kq k (d,())=some (d,()):=by
 have h1:=jt hk d
 have h2:=aA (e:=af) (l:=d.2.2.2.1)
 simp only[kq]
 rw[lp hk (by omega),Option.bind_some,oF hk (by omega),Option.bind_some,dX hk (by omega),Option.bind_some]
theorem RM {l:List aY} (h:ag (.sl ak) l≤1073741824):qO k (l,())=some (l,()):=
 zw (d:=ak.aa) (S:=iZ k) hk (Nat.le_trans (aA (e:=ak)) h) (fun e he=>QQ hk (Nat.le_trans (bo (e:=ak) he) h))
theorem M3 {b:bz} (h:ag aN b≤1073741824):gL k (b,())=some (b,()):=by
 have h1:=nO hk b
 exact Ot hk (by omega) (by omega)
theorem QJ {w:ar} (hs:ag aE w≤1073741824):mb k (w,())=some (w,()):=by
 have ht:=gK hk w
 obtain⟨c,tm,now,st,sb,fd,gh,gr,nn,hp,sk,sd,tk,dd⟩:=w
 simp only at ht
 have h1:=aA (e:=aC) (l:=hp)
 have h2:=aA (e:=aN) (l:=sk)
 have h3:=aA (e:=ah) (l:=tk)
 simp only[mb,aO]
 rw[Qt hk (by omega),Option.bind_some,Q3 hk (by omega),Option.bind_some,Sf hk (by omega),Option.bind_some,jj hk (by omega),Option.bind_some,PM hk (by omega),Option.bind_some,if_pos (by simp;omega)]
 simp only[List.nil_append]
 refine cD (fun i=>((c,tm,now,st,sb,fd,gh,gr,nn,hp,sk,sd,tk,dd),_,(c,tm,now,st,sb,fd,gh,gr,nn,hp,sk.take i,sd,tk,dd),c,(i:Int),())) sk.length (fun G i hi=> ?_) (fun G=> ?_) k 0 (by omega) (by omega)
 ·have hm:=bo (e:=aN) (ch (d:=aN.aa) hi)
  simp only[aw,aK hi,hi,decide_true,if_true,Int.toNat_natCast]
  rw[M3 hk (by omega),Option.bind_some,if_pos (by simp;omega),bd (by omega),fS aN.aa hi]
 ·simp only[aw,Nat.lt_irrefl,decide_false,Bool.false_eq_true,if_false,List.take_length]
  rw[jj hk (by omega),Option.bind_some]
  refine cD (fun i=>((c,tm,now,st,sb,fd,gh,gr,nn,hp,sk,sd,tk,dd),_,(c,tm,now,st,sb,fd,gh,gr,nn,hp,sk,sd,tk.take i,dd),c,(i:Int),())) tk.length (fun G i hi=> ?_) (fun G=> ?_) k 0 (by omega) (by omega)
  ·have hm:=bo (e:=ah) (ch (d:=ah.aa) hi)
   simp only[aw,aK hi,hi,decide_true,if_true,Int.toNat_natCast]
   rw[Hl hk (by omega),Option.bind_some,if_pos (by simp;omega),bd (by omega),fS ah.aa hi]
  ·simp only[aw,Nat.lt_irrefl,decide_false,Bool.false_eq_true,if_false,List.take_length]
   rw[RM hk (by omega),Option.bind_some]
theorem M6 {w:ar} (hs:ag aE w≤1073741824):eZ k (w,())=some (w,()):=by
 have ht:=gK hk w
 obtain⟨c,tm,now,st,sb,fd,gh,gr,nn,hp,sk,sd,tk,dd⟩:=w
 simp only at ht
 have h1:=aA (e:=aC) (l:=hp)
 have h2:=aA (e:=aN) (l:=sk)
 have h3:=aA (e:=ah) (l:=tk)
 have h4:=aA (e:=ak) (l:=dd)
 simp only[eZ,aO]
 rw[O3 hk (by omega),Option.bind_some,NM hk (by omega),Option.bind_some,Oz hk (by omega),Option.bind_some,dX hk (by omega),Option.bind_some,dX hk (by omega),Option.bind_some,
  Lc hk (by omega),Option.bind_some,Le hk (by omega),Option.bind_some]
 refine cD (fun i=>((c,tm,now,st,sb,fd,gh,gr,nn,hp,sk,sd,tk,dd),_,sk.take i,sk,(sk.length:Int),(i:Int),())) sk.length (fun G i hi=> ?_) (fun G=> ?_) k 0 (by omega) (by omega)
 ·have hm:=bo (e:=aN) (ch (d:=aN.aa) hi)
  simp only[aw,aK hi,hi,decide_true,if_true,Int.toNat_natCast]
  rw[Nn hk (by omega),Option.bind_some,if_pos (by simp;omega),bd (by omega),fS aN.aa hi]
 ·simp only[aw,Nat.lt_irrefl,decide_false,Bool.false_eq_true,if_false,List.take_length]
  refine cD (fun i=>((c,tm,now,st,sb,fd,gh,gr,nn,hp,sk,sd,tk,dd),_,sk,tk.take i,tk,(tk.length:Int),(i:Int),())) tk.length (fun G i hi=> ?_) (fun G=> ?_) k 0 (by omega) (by omega)
  ·have hm:=bo (e:=ah) (ch (d:=ah.aa) hi)
   simp only[aw,aK hi,hi,decide_true,if_true,Int.toNat_natCast]
   rw[On hk (by omega),Option.bind_some,if_pos (by simp;omega),bd (by omega),fS ah.aa hi]
  ·simp only[aw,Nat.lt_irrefl,decide_false,Bool.false_eq_true,if_false,List.take_length]
   refine cD (fun i=>((c,tm,now,st,sb,fd,gh,gr,nn,hp,sk,sd,tk,dd),_,sk,tk,dd.take i,dd,(dd.length:Int),(i:Int),())) dd.length (fun G i hi=> ?_) (fun G=> ?_) k 0 (by omega) (by omega)
   ·have hm:=bo (e:=ak) (ch (d:=ak.aa) hi)
    simp only[aw,aK hi,hi,decide_true,if_true,Int.toNat_natCast]
    rw[OT hk (by omega),Option.bind_some,if_pos (by simp;omega),bd (by omega),fS ak.aa hi]
   ·simp only[aw,Nat.lt_irrefl,decide_false,Bool.false_eq_true,if_false,List.take_length]
end
end Vg.Tryz
namespace Vg.Tryz
open Go Vg
set_option linter.unusedVariables false
set_option linter.unusedSectionVars false
set_option linter.unusedSimpArgs false
section
variable {k:Nat} (hk:9223372036854775808≤k)
include hk
end
end Vg.Tryz
namespace Vg.Tryz
open Go Vg
set_option linter.unusedVariables false
set_option linter.unusedSectionVars false
set_option linter.unusedSimpArgs false
abbrev fY (w:ar):List aM:=w.2.2.2.2.2.2.2.2.2.2.2.2.1
abbrev fD (w:ar):List aY:=w.2.2.2.2.2.2.2.2.2.2.2.2.2
def zt (w:ar) (t:List aM) (d:List aY):ar:=
 (w.1,IntKind.i64.wrap (w.2.1+1),w.2.2.1,w.2.2.2.1,w.2.2.2.2.1,w.2.2.2.2.2.1,w.2.2.2.2.2.2.1,w.2.2.2.2.2.2.2.1,w.2.2.2.2.2.2.2.2.1,w.2.2.2.2.2.2.2.2.2.1,w.2.2.2.2.2.2.2.2.2.2.1,w.2.2.2.2.2.2.2.2.2.2.2.1,t,d)
def Uw (t:aM) (h:Int):aM:=(t.1,t.2.1,t.2.2.1,t.2.2.2.1,t.2.2.2.2.1,t.2.2.2.2.2.1,t.2.2.2.2.2.2.1,t.2.2.2.2.2.2.2.1,h)
def opened (w:ar) (i op:Int) (a:ai) (l:List aj) (n:Int):aY:=(op,i,a,l,0,n,0,[],w.2.2.1,w.2.1,-1,-1)
def xf (w:ar) (i:Int) (t:aM) (op:Int):ar:=
 zt w ((fY w).set i.toNat (Uw t (fD w).length)) (fD w++[opened w i op t.2.2.1 t.2.2.2.1 t.2.2.2.2.2.2.2.1])
def xE (w:ar) (i:Int):Bool:=bK i 0 (((fY w).length:Int)-1)&&decide (((fY w).getD i.toNat ah.aa).1=0)
def jX (w:ar) (i:Int):Bool:=bK i 0 2&&xE w i
def pN (a:ai):aM:=(1,0,a,[],0,[],[],0,0)
def MH (k:Nat) (w:ar) (i:Int):Bool:=pv k w&&jX w i
def refused (w:ar) (i:Int) (a:ai):ar:=zt w (fY w) (fD w++[(1,i,a,[],0,0,4,[],w.2.2.1,w.2.1,w.2.1,w.2.1)])
def mH (k:Nat) (w:ar) (i:Int) (a:ai):ar:=if MH k w i=true then(if fk a=true then xf w i (pN a) 1 else refused w i a)else w
theorem Kv {w:ar} {i:Int} (h:jX w i=true):0≤i∧i≤2∧i.toNat<(fY w).length:=by
 unfold jX xE bK at h
 simp only[Bool.and_eq_true,decide_eq_true_eq]at h
 omega
theorem Ec (l:List aY) (x y:aY):(l++[x]).set l.length y=l++[y]:=by
 simp[List.set_append]
theorem Ek (l:List aY) (x d:aY):(l++[x]).getD l.length d=x:=by
 rw[List.getD_eq_getElem?_getD,List.getElem?_append_right (by omega)];simp
theorem Ui:ag (.sl af) ([]:List aj)=0:=rfl
theorem SN:ag (.sl ab) ([]:List ai)=0:=rfl
theorem U9:ag (.sl (.int .i64)) ([]:List Int)=0:=rfl
def SP (k:Nat) (x:ar×Int×aM×Unit):Option (ar×Unit):=
 Option.bind (fp k (x.1,x.2.1,x.2.2.1,())) fun r1=>some ((r1.1.1,IntKind.i64.wrap (r1.1.2.1+(1:Int)),r1.1.2.2),())
section
variable {k:Nat} (hk:9223372036854775808≤k)
include hk
theorem ox {w:ar} (hs:ag aE w≤1048576):(fY w).length≤1048576∧(fD w).length≤1048576:=by
 obtain⟨w1,w2,w3,w4,w5,w6,w7,w8,w9⟩:=dO hk hs
 exact⟨Nat.le_trans (aA (e:=ah)) w8,Nat.le_trans (aA (e:=ak)) w9⟩
theorem Mu {w:ar} {i:Int} (hs:ag aE w≤1048576):pV k (w,i,())=some (xE w i,()):=by
 have hl:w.2.2.2.2.2.2.2.2.2.2.2.2.1.length≤1048576:=(ox hk hs).1
 simp only[pV]
 rw[pZ (by omega),fg hk,Option.bind_some]
 simp only[xE,fY]
 by_cases h:bK i 0 ((w.2.2.2.2.2.2.2.2.2.2.2.2.1.length:Int)-1)=true
 ·have h':=h
  unfold bK at h'
  simp only[Bool.and_eq_true,decide_eq_true_eq]at h'
  rw[h]
  refine(if_pos (by simp;omega)).trans ?_
  simp[bY]
 ·rw[Bool.not_eq_true]at h
  rw[h]
  exact(if_pos rfl).trans rfl
theorem NI {w:ar} {i:Int} (hs:ag aE w≤1048576):qb k (w,i,())=some (xE w i,()):=by
 have hl:w.2.2.2.2.2.2.2.2.2.2.2.2.1.length≤1048576:=(ox hk hs).1
 simp only[qb]
 rw[pZ (by omega),ew hk,Option.bind_some]
 simp only[xE,fY]
 by_cases h:bK i 0 ((w.2.2.2.2.2.2.2.2.2.2.2.2.1.length:Int)-1)=true
 ·have h':=h
  unfold bK at h'
  simp only[Bool.and_eq_true,decide_eq_true_eq]at h'
  rw[h]
  refine(if_pos (by simp;omega)).trans ?_
  simp[bY]
 ·rw[Bool.not_eq_true]at h
  rw[h]
  exact(if_pos rfl).trans rfl
theorem JR {w:ar} {i:Int} (hs:ag aE w≤1048576):mX k (w,i,())=some (jX w i,()):=by
 simp only[mX,ew hk,NI hk hs,Option.bind_some]
 unfold jX
 cases bK i 0 2<;>simp
theorem KT {w:ar} {d:aY} (hs:ag aE w≤1048576):gC k (w,d,())=
 some (((fD w).length:Int),(w.1,w.2.1,w.2.2.1,w.2.2.2.1,w.2.2.2.2.1,w.2.2.2.2.2.1,w.2.2.2.2.2.2.1,w.2.2.2.2.2.2.2.1,w.2.2.2.2.2.2.2.2.1,w.2.2.2.2.2.2.2.2.2.1,w.2.2.2.2.2.2.2.2.2.2.1,w.2.2.2.2.2.2.2.2.2.2.2.1,fY w,
  fD w++[(d.1,d.2.1,d.2.2.1,d.2.2.2.1,d.2.2.2.2.1,d.2.2.2.2.2.1,d.2.2.2.2.2.2.1,d.2.2.2.2.2.2.2.1,w.2.2.1,w.2.1,-1,-1)]),()):=by
 have hl:w.2.2.2.2.2.2.2.2.2.2.2.2.2.length≤1048576:=(ox hk hs).2
 simp only[gC]
 rw[if_pos (by simp;omega)]
 have e:IntKind.i64.wrap ((((fD w++[(d.1,d.2.1,d.2.2.1,d.2.2.2.1,d.2.2.2.2.1,d.2.2.2.2.2.1,d.2.2.2.2.2.2.1,d.2.2.2.2.2.2.2.1,w.2.2.1,w.2.1,-1,-1)]).length:Nat):Int)-1)=((fD w).length:Int):=by
  rw[List.length_append,List.length_singleton,pZ (by simp only[fD];omega)]
  omega
 rw[e]
theorem Jq {op:Int} (h0:0≤op) (h1:op≤6):eh k (op,())=some (List.getD [0,1,3,4,6,7,8] op.toNat 0,()):=by
 simp only[eh]
 rw[if_pos (by simp;omega)]
theorem TE {w:ar} {i:Int} {t:aM} (hs:ag aE w≤1048576) (ht:ag ah t≤1048576) (h0:0≤t.1) (h1:t.1≤6) (hi:0≤i) (hi2:i.toNat<w.2.2.2.2.2.2.2.2.2.2.2.2.1.length):
 SP k (w,i,t,())=some (xf w i t (List.getD [0,1,3,4,6,7,8] t.1.toNat 0),()):=by
 have hl:w.2.2.2.2.2.2.2.2.2.2.2.2.2.length≤1048576:=(ox hk hs).2
 have hT:=dJ hk t
 have h2:=aA (e:=af) (l:=t.2.2.2.1)
 simp only[SP,fp]
 rw[Hl hk (by omega),Option.bind_some]
 simp only[Jq hk h0 h1,kJ hk (a:=t.2.2.1) (by omega),Option.bind_some,List.nil_append,List.length_nil,Nat.zero_add,List.length_singleton]
 rw[if_pos (by simp;omega),if_pos (by simp;omega),if_pos (by simp;omega),Option.bind_some]
 rfl
theorem Ma {w:ar} {d:aY} (hs:ag aE w≤1048576):kt k (w,d,())=some ((w.1,w.2.1,w.2.2.1,w.2.2.2.1,w.2.2.2.2.1,w.2.2.2.2.2.1,w.2.2.2.2.2.2.1,w.2.2.2.2.2.2.2.1,w.2.2.2.2.2.2.2.2.1,w.2.2.2.2.2.2.2.2.2.1,w.2.2.2.2.2.2.2.2.2.2.1,w.2.2.2.2.2.2.2.2.2.2.2.1,fY w,
 fD w++[(d.1,d.2.1,d.2.2.1,d.2.2.2.1,d.2.2.2.2.1,d.2.2.2.2.2.1,d.2.2.2.2.2.2.1,d.2.2.2.2.2.2.2.1,w.2.2.1,w.2.1,w.2.1,w.2.1)]),()):=by
 have hl:w.2.2.2.2.2.2.2.2.2.2.2.2.2.length≤1048576:=(ox hk hs).2
 simp only[kt]
 rw[if_pos (by simp;omega)]
theorem LP {w:ar} {i:Int} {a:ai} (hs:ag aE w≤1048576) (ha:ag ab a≤1048576):od k (w,i,a,())=some (mH k w i a,MH k w i,()):=by
 simp only[od,nW,aO,QJ hk (w:=w) (by omega),E5 hk hs,fg hk,Mu hk hs,rS hk ha,Option.bind_some]
 unfold mH MH jX
 by_cases hw:pv k w=true
 rotate_left
 ·rw[Bool.not_eq_true]at hw;simp[hw]
 by_cases hn:bK i 0 2=true
 rotate_left
 ·rw[Bool.not_eq_true]at hn;simp[hw,hn]
 by_cases hd:xE w i=true
 rotate_left
 ·rw[Bool.not_eq_true]at hd;simp[hw,hn,hd]
 obtain⟨q1,q2,q3⟩:=Kv (w:=w) (i:=i) (by unfold jX;rw[hn,hd];rfl)
 simp only[hw,hn,hd,Bool.not_true,beq_self_eq_true,if_true,Option.bind_some,Bool.false_eq_true,if_false,Bool.and_self]
 by_cases hf:fk a=true
 ·have:=TE hk (w:=w) (i:=i) (t:=pN a) hs (by rw[dJ hk];simp[pN,ag]at ha⊢;omega) (show(0:Int)≤1 by decide) (show(1:Int)≤6 by decide) q1 q3
  simp only[SP]at this
  rw[if_pos hf,if_pos hf]
  have e:(1:Int)=(pN a).1:=rfl
  cases hb:fp k (w,i,pN a,())with
  |none=>rw[hb]at this;cases this
  |some z=>
   rw[hb,Option.bind_some]at this
   have hb':fp k (w,i,((1:Int),(0,(a,(([]:List aj),(0,(([]:List Int),(([]:List ai),(0,0)))))))),())=some z:=hb
   rw[hb',Option.bind_some]
   have h2:=Option.some.inj this
   have h3:(z.1.1,(IntKind.i64.wrap (z.1.2.1+(1:Int)),z.1.2.2))=xf w i (pN a) 1:=congrArg Prod.fst h2
   rw[h3]
   rfl
 ·rw[Bool.not_eq_true]at hf
  rw[if_neg (by simp[hf]),if_neg (by simp[hf]),kJ hk (by omega),Option.bind_some,Ma hk hs,Option.bind_some]
  rfl
theorem Ll {w:ar} {i:Int} {a:ai} (hs:ag aE w≤1048576) (ha:ag ab a≤1048576):gP k (w,i,a,())=
 some (if jX w i=true then(true,(if fk a=true then xf w i (pN a) 1 else refused w i a),())else(false,w,())):=by
 simp only[gP,aO,JR hk hs,lp hk (a:=a) (by omega),KT hk hs,sq hk ha,Option.bind_some]
 by_cases hc:jX w i=true
 rotate_left
 ·rw[Bool.not_eq_true]at hc
  simp[hc]
 obtain⟨h1,h2,h3⟩:=Kv hc
 have h3:i.toNat<w.2.2.2.2.2.2.2.2.2.2.2.2.1.length:=h3
 rw[hc,if_neg (by simp),if_pos rfl]
 by_cases hf:fk a=true
 ·rw[if_pos hf,if_pos hf]
  refine(if_pos (by simp;omega)).trans ?_
  rfl
 ·rw[Bool.not_eq_true]at hf
  have e:(if fk a=true then xf w i (pN a) 1 else refused w i a)=refused w i a:=if_neg (by rw[hf];decide)
  rw[e]
  refine(if_neg (by simp[hf])).trans ?_
  refine(if_pos (by simp;omega)).trans ?_
  simp only[bS,Int.toNat_natCast]
  show _=some (true,zt w (fY w) (fD w++[(1,i,a,[],0,0,4,[],w.2.2.1,w.2.1,w.2.1,w.2.1)]),())
  generalize fD w=dd
  rw[Ek,Ec,Ek,Ec,Ek,Ec]
  rfl
theorem yb {w:ar} {i:Int} {a:ai} (hs:ag aE w≤1048576) (ha:ag ab a≤1048576):lh k (w,i,a,())=some (mH k w i a,MH k w i,()):=by
 simp only[lh,M6 hk (w:=w) (by omega),EF hk hs,Ll hk hs ha,Option.bind_some]
 unfold mH MH
 by_cases hw:pv k w=true
 rotate_left
 ·rw[Bool.not_eq_true]at hw;simp[hw]
 by_cases hc:jX w i=true
 ·simp only[hw,hc,Bool.not_true,beq_self_eq_true,if_true,Bool.false_eq_true,if_false,Bool.and_self]
 ·rw[Bool.not_eq_true]at hc
  simp[hw,hc]
theorem GH {w:ar} {t:List aM} {d:List aY} {m n:Nat} (h1:ag (.sl ah) t≤ag (.sl ah) (fY w)+m) (h2:ag (.sl ak) d≤ag (.sl ak) (fD w)+n):ag aE (zt w t d)≤ag aE w+m+n:=by
 rw[gK hk,gK hk]
 simp only[zt]
 simp only[fY,fD]at h1 h2
 omega
theorem Pf {e:Ty} {l:List e.den} {x:e.den}:ag (.sl e) (l++[x])=ag (.sl e) l+(1+ag e x):=by
 rw[JJ,fy,PD];omega
theorem Qo {w:ar} {i op:Int} {t:aM}:ag aE (xf w i t op)≤ag aE w+ag ah t+(1+(ag ab t.2.2.1+ag (.sl af) t.2.2.2.1)):=by
 refine GH hk ?_ ?_
 ·by_cases h:i.toNat<(fY w).length
  ·have:=PC (e:=ah) (fY w) i.toNat (Uw t (fD w).length) h
   have e:ag ah (Uw t (fD w).length)=ag ah t:=by rw[dJ hk,dJ hk];rfl
   omega
  ·rw[List.set_eq_of_length_le (by omega)];omega
 ·rw[Pf hk,jt hk]
  simp only[opened,SN]
  omega
theorem PR {w:ar} {i:Int} {a:ai}:ag aE (mH k w i a)≤ag aE w+2*ag ab a+8:=by
 unfold mH
 split
 ·split
  ·have:=Qo hk (w:=w) (i:=i) (op:=1) (t:=pN a)
   have e:ag ah (pN a)=ag ab a:=by rw[dJ hk];simp only[pN,Ui,SN,U9];rfl
   have e2:ag ab (pN a).2.2.1=ag ab a:=rfl
   have e3:ag (.sl af) (pN a).2.2.2.1=0:=rfl
   omega
  ·have:ag aE (refused w i a)≤ag aE w+0+(1+ag ab a):=by
    refine GH hk (Nat.le_refl _) ?_
    rw[Pf hk,jt hk]
    simp only[Ui,SN]
    omega
   omega
 ·omega
end
end Vg.Tryz
namespace Vg.Tryz
open Go Vg
set_option linter.unusedVariables false
set_option linter.unusedSectionVars false
set_option linter.unusedSimpArgs false
section
variable {k:Nat} (hk:9223372036854775808≤k)
include hk
set_option maxHeartbeats 2000000 in
theorem RN {x:ar×Int×ai×Unit} (h_w:Fits aE x.1) (h_a:Fits ab x.2.2.1):ko k x=some (true,()):=by
 obtain⟨w,i,a,u⟩:=x
 simp only at h_w
 simp only at h_a
 unfold ko
 refine(bind_eq (PS hk h_w (by omega) (by omega)) _).trans ?_
 by_cases q0:bG (ag aE w) 1048576<0
 ·rw[if_pos (by simpa using q0)]
 refine(bu (by simpa using q0)).trans ?_
 dsimp only
 refine(bind_eq (rC hk h_a (cB q0).1 (by have:=dT (t:=ag aE w) (left:=1048576) (by omega);omega)) _).trans ?_
 rw[cX q0]
 by_cases q1:bG (ag aE w+ag ab a) 1048576<0
 ·rw[if_pos (by simpa using q1)]
 refine(bu (by simpa using q1)).trans ?_
 have hsz:=(cB q1).2
 have t1:=PR hk (w:=w) (i:=i) (a:=a)
 obtain⟨n0,v0_0,v0_1,v0_2,v0_3,v0_4,v0_5,v0_6,v0_7,v0_8,v0_9,m0,p0,r0,w0⟩:=AL hk w 1 (by omega) (by unfold bp;omega)
 have z0:decide (n0<0)=false:=by simp;omega
 obtain⟨n1,v1_0,m1,p1,r1,w1⟩:=MB hk a n0 (by omega) (by unfold bp;omega)
 have z1:decide (n1<0)=false:=by simp;omega
 obtain⟨n2,v2_0,v2_1,v2_2,v2_3,v2_4,v2_5,v2_6,v2_7,v2_8,v2_9,m2,p2,r2,w2⟩:=AL hk (mH k w i a) 1 (by omega) (by unfold bp;omega)
 have z2:decide (n2<0)=false:=by simp;omega
 refine(bind_eq (rE hk (x:=w) (by omega)) _).trans ?_
 refine(bind_eq (jD hk (x:=a) (by omega)) _).trans ?_
 refine(bind_eq (LP hk (w:=w) (i:=i) (a:=a) (by omega) (by omega)) _).trans ?_
 refine(bind_eq (rE hk (x:=w) (by omega)) _).trans ?_
 refine(bind_eq (jD hk (x:=a) (by omega)) _).trans ?_
 refine(bind_eq (yb hk (w:=w) (i:=i) (a:=a) (by omega) (by omega)) _).trans ?_
 refine(bind_eq (rD hk (x:=mH k w i a) (by omega)) _).trans ?_
 refine(bu (by simp[z0,z1,z2])).trans ?_
 refine(bind_eq (rE hk (x:=w) (by omega)) _).trans ?_
 refine(bind_eq (rD hk (x:=w) (by omega)) _).trans ?_
 refine(bu (by simp[z0,z1,z2])).trans ?_
 refine(bind_eq (jD hk (x:=a) (by omega)) _).trans ?_
 refine(bind_eq (rF hk (x:=a) (by omega)) _).trans ?_
 refine(bu (by simp[z0,z1,z2])).trans ?_
 refine(bind_eq m0 _).trans ?_
 refine(bind_eq m1 _).trans ?_
 refine(bind_eq (r:=(true,())) ((if_pos (by simp[z0,z1,z2])).trans (rD hk (x:=mH k w i a) (by omega))) _).trans ?_
 refine(bu (by simp[z0,z1,z2])).trans ?_
 refine(bind_eq m2 _).trans ?_
 refine(bind_eq w2 _).trans ?_
 refine(bu (by simp[z0,z1,z2])).trans ?_
 refine(bu (by simp[z0,z1,z2])).trans ?_
 refine(bind_eq (rE hk (x:=w) (by omega)) _).trans ?_
 refine(bind_eq (jD hk (x:=a) (by omega)) _).trans ?_
 refine(bind_eq (yb hk (w:=w) (i:=i) (a:=a) (by omega) (by omega)) _).trans ?_
 refine(bind_eq (rD hk (x:=mH k w i a) (by omega)) _).trans ?_
 refine(bu (by simp[z0,z1,z2])).trans ?_
 refine(bind_eq w2 _).trans ?_
 refine(bu (by simp[z0,z1,z2])).trans ?_
 refine(bu (by simp[z0,z1,z2])).trans ?_
 rfl
end
end Vg.Tryz
