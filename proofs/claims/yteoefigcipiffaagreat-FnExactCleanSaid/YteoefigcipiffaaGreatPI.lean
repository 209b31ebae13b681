/- Texts of this law, joined. -/
import Derived.Test.YteoefigcipiffaaGreatQ1
import Derived.Test.YteoefigcipiffaaGreatVd
namespace Vg.Tryz
open Go Vg
set_option linter.unusedVariables false
set_option linter.unusedSectionVars false
set_option linter.unusedSimpArgs false
theorem ui {α:Type} [DecidableEq α]:∀(l m:List α),allEq (fun a b=>decide (a=b)) l m=decide (l=m)
 | [],[]=>by simp[allEq]
 | [],_::_=>by simp[allEq]
 |_::_,[]=>by simp[allEq]
 |a::l,b::m=>by simp only[allEq,ui l m,List.cons.injEq,Bool.decide_and]
theorem yx (a b:ByteArray):(a.toList==b.toList)=decide (a=b):=by
 by_cases h:a=b
 ·simp[h]
 ·have:¬a.toList=b.toList:=fun e=>h (toList_inj e)
  simp[h,this]
instance iLabel:DecidableEq ai:=inferInstance
instance iLabels:DecidableEq (List ai):=inferInstance
instance iAlarm:DecidableEq al:= @instDecidableEqProd _ _ inferInstance inferInstance
instance iAlarms:DecidableEq (List al):=inferInstance
instance iTail:DecidableEq (List Int×(List al×bl)):=inferInstance
instance iTask:DecidableEq aL:= @instDecidableEqProd _ _ inferInstance (@instDecidableEqProd _ _ inferInstance (@instDecidableEqProd _ _ inferInstance (@instDecidableEqProd _ _ inferInstance (@instDecidableEqProd _ _ inferInstance inferInstance))))
def zT:aL:=(0,0,iE,[],0,[],[],0,0)
def sP (l:List Int):Bool:=bf 0 l.length (fun i=>decide (0≤l.getD i 0))
def AR (t:aL):Bool:=decide (t.2.2.2.2.1=0)&&decide (t.2.2.2.2.2.1=[])&&decide (t.2.2.2.2.2.2.1=[])
def gO (t:aL) (n:Int):Bool:=
 bH n 0 4&&decide (0≤t.2.2.2.2.2.2.2.2)&&
 ((decide (t.1=0)&&decide (t=zT))||
  (decide (t.1=1)&&decide (n<3)&&bH t.2.1 0 2&&bZ t.2.2.1&&decide (t.2.2.2.1=[])&&AR t&&decide (t.2.2.2.2.2.2.2.1=0))||
  (decide (t.1=2)&&decide (n<3)&&bH t.2.1 0 1&&decide (t.2.2.1=iE)&&eJ t.2.2.2.1&&AR t&&decide (t.2.2.2.2.2.2.2.1=0))||
  (decide (t.1=3)&&decide (n<3)&&bH t.2.1 0 2&&decide (t.2.2.1=iE)&&decide (t.2.2.2.1=[])&&sP t.2.2.2.2.2.1&&decide ((t.2.2.2.2.2.1.length:Int)=t.2.2.2.2.1)&&ck t.2.2.2.2.2.2.1&&
   (if t.2.1=2 then bH t.2.2.2.2.1 1 3 else bH t.2.2.2.2.1 0 2)&&decide (t.2.2.2.2.2.2.2.1=0))||
  (decide (t.1=4)&&decide (n<3)&&bH t.2.1 0 1&&decide (t.2.2.1=iE)&&decide (t.2.2.2.1=[])&&bH t.2.2.2.2.1 0 2&&decide (t.2.2.2.2.2.1=[])&&decide (t.2.2.2.2.2.2.1=[])&&decide (t.2.2.2.2.2.2.2.1=0))||
  (decide (t.1=5)&&decide (n=3)&&bH t.2.1 0 1&&bZ t.2.2.1&&decide (t.2.2.2.1=[])&&AR t&&decide (t.2.2.2.2.2.2.2.1=0))||
  (decide (t.1=6)&&decide (n=4)&&bH t.2.1 0 1&&decide (t.2.2.1=iE)&&decide (t.2.2.2.1=[])&&AR t&&decide (0≤t.2.2.2.2.2.2.2.1)))
def sZ (k:Nat) (d:bg):Bool:=match gp k (d,())with|some r=>r.1|none=>false
def nK (k:Nat) (t:aL) (n:Int):Int:=
 if n<1 then-1
 else if t.1=1∧(t.2.1=1∨t.2.1=2)then dU (jj k t.2.2.1.1) n
 else if t.1=2∧t.2.1=1 then dU (jj k t.2.2.2.1) n
 else if(t.1=3∨t.1=4)∧t.2.1=1 then t.2.2.2.2.1
 else-1
def vq (t:aL):Bool:=(decide (t.1=5)||decide (t.1=6))&&decide (t.2.1=1)
section
variable {k:Nat} (hk:9223372036854775808≤k)
include hk
theorem eD {a b:al} (ha:a.1.length≤1048576):cS k (a,b,())=some (decide (a=b),()):=by
 obtain⟨a1,a2,a3,a4⟩:=a
 obtain⟨b1,b2,b3,b4⟩:=b
 simp only[cS,dT hk ha,Option.bind_some,bY,yx,Prod.mk.injEq,Bool.decide_and]
 by_cases h1:a1=b1<;>by_cases h2:a2=b2<;>by_cases h3:a3=b3<;>simp[h1,h2,h3]
theorem hZ {a b:al} (ha:a.1.length≤1048576):cT k (a,b,())=some (decide (a=b),()):=by
 obtain⟨a1,a2,a3,a4⟩:=a
 obtain⟨b1,b2,b3,b4⟩:=b
 simp only[cT,eC hk ha,Option.bind_some,bY,yx,Prod.mk.injEq,Bool.decide_and]
 by_cases h1:a1=b1<;>by_cases h2:a2=b2<;>by_cases h3:a3=b3<;>simp[h1,h2,h3]
theorem iZ {a:al} (h:ag ab a≤1048576):a.1.length≤1048576:=by
 rw[cj hk]at h
 have:=aA (e:=af) (l:=a.1)
 omega
theorem Jf {a b:List al} (ha:ag (.sl ab) a≤1048576):mG k (a,b,())=some (decide (a=b),()):=by
 rw[←ui]
 have hl:=aA (e:=ab) (l:=a)
 exact TA (d:=ab.aa) (S:=cS k) hk (by omega) (fun x hx y _=>eD hk (iZ hk (Nat.le_trans (bo (e:=ab) hx) ha)))
theorem qj {a b:List al} (ha:ag (.sl ab) a≤1048576):fA k (a,b,())=some (decide (a=b),()):=by
 rw[←ui]
 have hl:=aA (e:=ab) (l:=a)
 exact Pg (d:=ab.aa) (S:=cT k) hk (by omega) (fun x hx y _=>hZ hk (iZ hk (Nat.le_trans (bo (e:=ab) hx) ha)))
theorem DB {a b:List Int} (ha:a.length≤1048576):gR k (a,b,())=some (decide (a=b),()):=by
 rw[←ui]
 refine Eq.trans ?_ (Pg (d:=(0:Int)) (S:=fun z=>some (decide ((z.1:Int)=z.2.1),())) (p:=fun a b=>decide (a=b)) hk (by omega) (fun x hx y _=>rfl))
 simp only[gR,Ue,Option.bind_some,iH]
theorem CZ {a b:aL} (ha:ag ah a≤1048576):gL k (a,b,())=some (decide (a=b),()):=by
 rw[dD hk]at ha
 have h1:=iZ hk (a:=a.2.2.1) (by omega)
 have h2:=aA (e:=af) (l:=a.2.2.2.1)
 have h3:=aA (e:= .int .i64) (l:=a.2.2.2.2.2.1)
 have q1:∀b,cT k (a.2.2.1,b,())=some (decide (a.2.2.1=b),()):=fun b=>hZ hk h1
 have q2:∀b,cL k (a.2.2.2.1,b,())=some (decide (a.2.2.2.1=b),()):=fun b=>eC hk (by omega)
 have q3:∀b,gR k (a.2.2.2.2.2.1,b,())=some (decide (a.2.2.2.2.2.1=b),()):=fun b=>DB hk (by omega)
 have q4:∀b,fA k (a.2.2.2.2.2.2.1,b,())=some (decide (a.2.2.2.2.2.2.1=b),()):=fun b=>qj hk (by omega)
 obtain⟨a1,a2,a3,a4,a5,a6,a7,a8,a9⟩:=a
 obtain⟨b1,b2,b3,b4,b5,b6,b7,b8,b9⟩:=b
 simp only at q1 q2 q3 q4
 simp only[gL,q1,q2,q3,q4,bM,Option.bind_some,bY,Prod.mk.injEq,Bool.decide_and]
 by_cases e1:a1=b1
 ·by_cases e2:a2=b2
  ·by_cases e3:a3=b3
   ·by_cases e4:a4=b4
    ·by_cases e5:a5=b5
     ·by_cases e6:a6=b6
      ·by_cases e7:a7=b7
       ·by_cases e8:a8=b8<;>simp[e1,e2,e3,e4,e5,e6,e7,e8]
       ·simp[e1,e2,e3,e4,e5,e6,e7]
      ·simp[e1,e2,e3,e4,e5,e6]
     ·simp[e1,e2,e3,e4,e5]
    ·simp[e1,e2,e3,e4]
   ·simp[e1,e2,e3]
  ·simp[e1,e2]
 ·simp[e1]
theorem BL {t:aL} {n:Int} (hs:ag ah t≤1048576):jk k (t,n,())=some (nK k t n,()):=by
 rw[dD hk]at hs
 have ha:ag (.sl af) t.2.2.1.1≤1048576:=by
  have:=cj hk t.2.2.1
  omega
 simp only[jk,qC,iL hk ha,iL hk (l:=t.2.2.2.1) (by omega),lz hk,Option.bind_some,bY]
 unfold nK
 by_cases hn:n<1
 ·simp[hn]
 ·by_cases p1:t.2.1=1
  ·by_cases h1:t.1=1
   ·simp[hn,p1,h1]
   ·by_cases h2:t.1=2
    ·simp[hn,p1,h1,h2]
    ·by_cases h3:t.1=3
     ·simp[hn,p1,h1,h2,h3]
     ·by_cases h4:t.1=4<;>simp[hn,p1,h1,h2,h3,h4]
  ·by_cases h1:t.1=1
   ·by_cases p2:t.2.1=2<;>simp[hn,p1,p2,h1]
   ·simp[hn,p1,h1]
theorem A8 {t:aL} {n:Int} (hs:ag ah t≤1048576):ju k (t,n,())=some (nK k t n,()):=by
 rw[dD hk]at hs
 have ha:ag (.sl af) t.2.2.1.1≤1048576:=by
  have:=cj hk t.2.2.1
  omega
 simp only[ju,iV hk ha,iV hk (l:=t.2.2.2.1) (by omega),iv hk,Option.bind_some,bY]
 unfold nK
 by_cases hn:n<1
 ·simp[hn]
 ·by_cases p1:t.2.1=1
  ·by_cases h1:t.1=1
   ·simp[hn,p1,h1]
   ·by_cases h2:t.1=2
    ·simp[hn,p1,h1,h2]
    ·by_cases h3:t.1=3
     ·simp[hn,p1,h1,h2,h3]
     ·by_cases h4:t.1=4<;>simp[hn,p1,h1,h2,h3,h4]
  ·by_cases h1:t.1=1
   ·by_cases p2:t.2.1=2<;>simp[hn,p1,p2,h1]
   ·simp[hn,p1,h1]
theorem zf {t:aL}:gI k (t,())=some (vq t,()):=by
 simp only[gI,vq,bY]
 by_cases h1:t.1=5<;>by_cases h2:t.1=6<;>simp[h1,h2]
theorem zd {t:aL}:gB k (t,())=some (vq t,()):=by
 simp only[gB,vq,bY]
 by_cases h1:t.1=5<;>by_cases h2:t.1=6<;>simp[h1,h2]
theorem Ju {t:aL} (hs:ag ah t≤1048576):mF k (t,())=some (sP t.2.2.2.2.2.1&&(decide ((t.2.2.2.2.2.1.length:Int)=t.2.2.2.2.1)&&ck t.2.2.2.2.2.2.1&&(if t.2.1=2 then bH t.2.2.2.2.1 1 3 else bH t.2.2.2.2.1 0 2)),()):=by
 rw[dD hk]at hs
 have h3:=aA (e:= .int .i64) (l:=t.2.2.2.2.2.1)
 simp only[mF,aP]
 refine(bN (fun i:Nat=>(t,t.2.2.2.2.2.1,(t.2.2.2.2.2.1.length:Int),(i:Int),())) (fun i=>decide (0≤t.2.2.2.2.2.1.getD i 0)) t.2.2.2.2.2.1.length
  (e:=some (decide ((t.2.2.2.2.2.1.length:Int)=t.2.2.2.2.1)&&ck t.2.2.2.2.2.2.1&&(if t.2.1=2 then bH t.2.2.2.2.1 1 3 else bH t.2.2.2.2.1 0 2),())) (no:=some (false,())) ?_ ?_ k 0 (by omega)).trans ?_
 ·intro G i hi
  simp only[aw,aK hi,hi,decide_true,if_true,Int.toNat_natCast,rJ]
  rw[aZ (by omega)]
  rcases Bool.eq_false_or_eq_true (decide (t.2.2.2.2.2.1.getD i 0<0))with h|h<;>simp only[h,if_true,Bool.false_eq_true,if_false,Bool.not_true,Bool.not_false]
 ·intro G i hi
  simp only[aw]
  rw[if_neg (by simp;omega)]
  simp only[jl hk (l:=t.2.2.2.2.2.2.1) (by omega),et hk,Option.bind_some,iH,bY,bM]
  by_cases q:(t.2.2.2.2.2.1.length:Int)=t.2.2.2.2.1<;>by_cases p:t.2.1=2<;>cases hb:ck t.2.2.2.2.2.2.1<;>simp[q,p]
 ·unfold sP
  generalize bf 0 t.2.2.2.2.2.1.length _=b
  cases b<;>simp
theorem F6 {t:aL} (hs:ag ah t≤1048576):lC k (t,())=some (sP t.2.2.2.2.2.1&&(decide ((t.2.2.2.2.2.1.length:Int)=t.2.2.2.2.1)&&(if t.2.1=2 then bH t.2.2.2.2.1 1 3 else bH t.2.2.2.2.1 0 2)),()):=by
 rw[dD hk]at hs
 have h3:=aA (e:= .int .i64) (l:=t.2.2.2.2.2.1)
 simp only[lC,aP]
 refine(bN (fun i:Nat=>(t,(i:Int),())) (fun i=>decide (0≤t.2.2.2.2.2.1.getD i 0)) t.2.2.2.2.2.1.length
  (e:=some (decide ((t.2.2.2.2.2.1.length:Int)=t.2.2.2.2.1)&&(if t.2.1=2 then bH t.2.2.2.2.1 1 3 else bH t.2.2.2.2.1 0 2),())) (no:=some (false,())) ?_ ?_ k 0 (by omega)).trans ?_
 ·intro G i hi
  simp only[aw,aK hi,hi,decide_true,if_true,Int.toNat_natCast,rJ]
  rw[aZ (by omega)]
  rcases Bool.eq_false_or_eq_true (decide (t.2.2.2.2.2.1.getD i 0<0))with h|h<;>simp only[h,if_true,Bool.false_eq_true,if_false,Bool.not_true,Bool.not_false]
 ·intro G i hi
  simp only[aw]
  rw[if_neg (by simp;omega)]
  simp only[fc hk,Option.bind_some,bY,bM]
  generalize t.2.2.2.2.2.1.length=n
  generalize t.2.2.2.2.1=m
  by_cases p:t.2.1=2<;>by_cases q:(n:Int)=m
  ·subst q;simp[p]
  ·have q2:¬m=(n:Int):=fun e=>q e.symm
   simp[p,q,q2]
  ·subst q;simp[p,bH]
  ·simp[p,q]
 ·unfold sP
  generalize bf 0 t.2.2.2.2.2.1.length _=b
  cases b<;>simp
end
end Vg.Tryz
namespace Vg.Tryz
open Go Vg
set_option linter.unusedVariables false
set_option linter.unusedSectionVars false
set_option linter.unusedSimpArgs false
theorem cA {σ ρ:Type} {f:(σ→Option ρ)→σ→Option ρ} (st:Nat→σ) (p:Nat→Bool) (n:Nat) {e no:Option ρ}
 (hstep:∀G i,i<n→f G (st i)=if p i=true then G (st (i+1))else no) (hend:∀G,f G (st n)=e):
 ∀(k a:Nat),a≤n→n-a<k→az k f (st a)=if bf a n p=true then e else no
 |0,_,_,h=>by omega
 |k+1,a,hn,h=>by
  show f (az k f) (st a)=_
  by_cases ha:a<n
  ·rw[hstep _ a ha,Kr ha,cA st p n hstep hend k (a+1) (by omega) (by omega)]
   cases p a<;>simp
  ·have:a=n:=by omega
   subst this
   rw[hend,NV (by omega),if_pos rfl]
theorem Au {n:Nat} {p:Nat→Bool}:bf 0 (n+1) p=(bf 0 n p&&p n):=by
 rw[Bool.eq_iff_iff]
 simp only[Bool.and_eq_true,eh]
 constructor
 ·intro h;exact⟨fun i h1 h2=>h i h1 (by omega),h n (by omega) (by omega)⟩
 ·rintro⟨h1,h2⟩ i hi hj
  by_cases he:i=n
  ·subst he;exact h2
  ·exact h1 i hi (by omega)
def AV (st:List aG) (seen:List Int):Bool:=bf 0 seen.length (fun i=> !decide (seen.getD i 0>(st.getD i ak.aa).2.1))
def oP (st:List aG) (seen:List Int):Bool:=bf 0 seen.length (fun i=>decide (seen.getD i 0=(st.getD i ak.aa).2.1))
def kE (st:List aG) (t:aL):Bool:=
 AV st t.2.2.2.2.2.1&&(!oP st t.2.2.2.2.2.1||decide ((st.take t.2.2.2.2.2.1.length).flatMap bL=t.2.2.2.2.2.2.1))
def pd (k:Nat) (w:ar) (t:aL) (d:bg):Bool:=
 if t.1=1 then
  decide (d.1=1)&&(if t.2.1=2 then decide (d.2.2.1.1=t.2.2.1.1)&&(gu k w.2.2.2.1 t.2.2.1.1).2&&decide ((gu k w.2.2.2.1 t.2.2.1.1).1=t.2.2.1)else decide (d.2.2.1=t.2.2.1)&&jS t.2.2.1)
 else if t.1=2 then decide (d.1=3)&&decide (d.2.2.2.1=t.2.2.2.1)
 else if t.1=3 then decide (d.1=4)&&((if t.2.1=2 then decide ((t.2.2.2.2.2.1.length:Int)=w.1.1)else decide (t.2.2.2.2.1<w.1.1))&&kE w.2.2.2.1 t)
 else if t.1=4 then decide (d.1=6)&&decide (t.2.2.2.2.1<w.1.1)
 else if t.1=5 then decide (d.1=7)&&decide (d.2.2.1=t.2.2.1)
 else decide (d.1=8)&&(decide (d.2.2.2.2.2.1=t.2.2.2.2.2.2.2.1)&&decide (t.2.2.2.2.2.2.2.1<w.2.2.2.2.2.2.2.2.1))
def gH (k:Nat) (w:ar) (t:aL) (d:bg) (n:Int):Bool:=
 gO t n&&(decide (t.1=0)||(decide (t.2.2.2.2.2.2.2.2<(w.2.2.2.2.2.2.2.2.2.2.2.2.2.length:Int))&&(decide (d.2.1=n)&&decide (d.2.2.2.2.2.2.2.2.2.2.2= -1)&&
  decide ((¬d.2.2.2.2.2.2.2.2.2.2.1= -1)↔(t.1=1∧t.2.1=2))&&pd k w t d)))
section
variable {k:Nat} (hk:9223372036854775808≤k)
include hk
theorem lx {t:aL} (hs:ag ah t≤1048576):
 ag ab t.2.2.1≤1048576∧ag (.sl af) t.2.2.2.1≤1048576∧t.2.2.2.2.2.1.length≤1048576∧ag (.sl ab) t.2.2.2.2.2.2.1≤1048576∧ag (.sl af) t.2.2.1.1≤1048576:=by
 rw[dD hk]at hs
 have h2:=aA (e:= .int .i64) (l:=t.2.2.2.2.2.1)
 have:=cj hk t.2.2.1
 omega
theorem Ga {t:bg} (hs:ag aq t≤1048576):
 ag ab t.2.2.1≤1048576∧ag (.sl af) t.2.2.2.1≤1048576∧ag (.sl ab) t.2.2.2.2.2.2.2.1≤1048576∧ag (.sl af) t.2.2.1.1≤1048576:=by
 rw[kK hk]at hs
 have:=cj hk t.2.2.1
 omega
theorem Jv {t:aL} {n:Int} (hs:ag ah t≤1048576):mW k (t,n,())=some (gO t n,()):=by
 obtain⟨h1,h2,h3,h4,h5⟩:=lx hk hs
 have h6:=iZ hk h1
 simp only[mW,eW,fc hk,pK hk h4,fk hk h1,mZ hk h2,eD hk h6,F6 hk hs,Option.bind_some,bM,bY]
 refine congrArg some (Prod.ext ?_ rfl)
 simp only[apply_ite Prod.fst]
 unfold gO
 obtain⟨op,pc,a,l,i,seen,got,nn,hh⟩:=t
 obtain⟨a1,a2,a3,a4⟩:=a
 clear hs h1 h2 h3 h4 h5 h6
 have hA:ck ([]:List al)=true:=rfl
 have hS:sP ([]:List Int)=true:=rfl
 simp only[zT,iE,bH,AR,Prod.mk.injEq]
 rw[Bool.eq_iff_iff]
 by_cases e0:op=0
 ·subst e0;simp;grind
 by_cases e1:op=1
 ·subst e1;simp;grind
 by_cases e2:op=2
 ·subst e2;simp;grind
 by_cases e3:op=3
 ·subst e3;simp;grind
 by_cases e4:op=4
 ·subst e4;simp;grind
 by_cases e5:op=5
 ·subst e5;simp;grind
 by_cases e6:op=6
 ·subst e6;simp;grind
 simp[e0,e1,e2,e3,e4,e5,e6]
theorem IX {t:aL} {n:Int} (hs:ag ah t≤1048576):mL k (t,n,())=some (gO t n,()):=by
 obtain⟨h1,h2,h3,h4,h5⟩:=lx hk hs
 simp only[mL,aP,et hk,Ju hk hs,gX hk h1,mM hk h2,CZ hk hs,Option.bind_some,bM,bY]
 refine congrArg some (Prod.ext ?_ rfl)
 simp only[apply_ite Prod.fst]
 unfold gO
 obtain⟨op,pc,a,l,i,seen,got,nn,hh⟩:=t
 obtain⟨a1,a2,a3,a4⟩:=a
 clear hs h1 h2 h3 h4 h5
 have hA:ck ([]:List al)=true:=rfl
 have hS:sP ([]:List Int)=true:=rfl
 simp only[zT,iE,bH,AR,Prod.mk.injEq]
 rw[Bool.eq_iff_iff]
 by_cases e0:op=0
 ·subst e0;simp;grind
 by_cases e1:op=1
 ·subst e1;simp;grind
 by_cases e2:op=2
 ·subst e2;simp;grind
 by_cases e3:op=3
 ·subst e3;simp;grind
 by_cases e4:op=4
 ·subst e4;simp;grind
 by_cases e5:op=5
 ·subst e5;simp;grind
 by_cases e6:op=6
 ·subst e6;simp;grind
 simp[e0,e1,e2,e3,e4,e5,e6]
end
end Vg.Tryz
namespace Vg.Tryz
open Go Vg
set_option linter.unusedVariables false
set_option linter.unusedSectionVars false
set_option linter.unusedSimpArgs false
theorem jP (a b:Int):decide (a≥b)= !decide (a<b):=by by_cases h:a<b<;>simp[h]<;>omega
section
variable {k:Nat} (hk:9223372036854775808≤k)
include hk
theorem Ix {l:List Int} {n:Int} (hl:l.length≤10):mH k (l,n,())=some (decide (n∈l),()):=by
 simp only[mH]
 rw[fp (g:=fun(t:List Int×Int×Int×Unit)=>some (decide (n∈l.drop t.2.2.1.toNat),())) (m:=fun(t:List Int×Int×Int×Unit)=>l.length-t.2.2.1.toNat)
  (I:=fun(t:List Int×Int×Int×Unit)=>t.1=l∧t.2.1=n∧0≤t.2.2.1∧t.2.2.1≤(l.length:Int))]
 ·simp
 ·rintro G ⟨l',n',i,u⟩ ⟨e1,e2,hi0,hi1⟩ hG
  change l'=l at e1
  change n'=n at e2
  subst e1 e2
  simp only at hi0 hi1 hG⊢
  by_cases hi:i<(l'.length:Int)
  ·have h1:i.toNat<l'.length:=by omega
   rw[if_pos (by simpa using hi),if_pos (by simpa using⟨hi0,hi⟩),du (d:=(0:Int)) h1]
   by_cases he:n'=l'.getD i.toNat 0
   ·rw[if_pos (by rw[he];simp)]
    simp only[List.mem_cons,he,true_or,decide_true]
   ·rw[if_neg (by simp only[beq_iff_eq];exact fun h=>he h.symm),wrap64 (by omega) (by omega),hG (l',n',i+1,()) ⟨rfl,rfl,by simp only;omega,by simp only;omega⟩ (by simp only;omega)]
    simp only[List.mem_cons,he,false_or]
    rw[show(i+1).toNat=i.toNat+1 by omega]
  ·rw[if_neg (by simpa using hi),List.drop_eq_nil_of_le (by omega)]
   simp
 ·exact⟨rfl,rfl,by simp,by simp⟩
 ·simp only
  omega
theorem Ss (op n:Int):∃l,ky k (op,())=some (l,())∧l.length≤10∧kc k (op,n,())=some (decide (n∈l),()):=by
 simp only[ky,kc,bA,Option.bind_some,beq_iff_eq]
 split
 ·exact⟨_,rfl,by simp,by congr 2;rw[Bool.eq_iff_iff];simp;omega⟩
 split
 ·exact⟨_,rfl,by simp,by congr 2;rw[Bool.eq_iff_iff];simp;omega⟩
 split
 ·exact⟨_,rfl,by simp,by congr 2;rw[Bool.eq_iff_iff];simp;omega⟩
 split
 ·exact⟨_,rfl,by simp,by congr 2;rw[Bool.eq_iff_iff];simp⟩
 split
 ·exact⟨_,rfl,by simp,by congr 2;rw[Bool.eq_iff_iff];simp;omega⟩
 ·exact⟨_,rfl,by simp,by congr 2;rw[Bool.eq_iff_iff];simp⟩
theorem O9 (d:bg):∃r,gp k (d,())=some r∧jR k (d,())=some r:=by
 obtain⟨op,task,a,l,i,n,code,got,now,inv,lin,res⟩:=d
 obtain⟨cs,c1,c2,c3⟩:=Ss hk op code
 simp only[gp,jR,bE,bA,Option.bind_some,bM,c1,c3,Ix hk c2]
 generalize decide (code∈cs)=q
 refine⟨_,rfl,congrArg some (Prod.ext ?_ rfl)⟩
 simp only[apply_ite Prod.fst]
 rw[Bool.eq_iff_iff]
 by_cases hl:lin= -1<;>by_cases hr:res= -1<;>by_cases hi:inv≤lin<;>by_cases hj:lin≤res<;>cases q<;>simp[hl,hr,hi,hj]<;>omega
theorem JT {d:bg}:gp k (d,())=some (sZ k d,()):=by
 obtain⟨r,h1,h2⟩:=O9 hk d
 unfold sZ
 rw[h1]
theorem I2 {d:bg}:jR k (d,())=some (sZ k d,()):=by
 obtain⟨r,h1,h2⟩:=O9 hk d
 unfold sZ
 rw[h1,h2]
theorem ow {w:ar} {t:aL} (hs:ag ah t≤1048576) (hw:ag (.sl ak) w.2.2.2.1≤1048576) (hl:t.2.2.2.2.2.1.length≤w.2.2.2.1.length):
 eM k (w,t,())=some (kE w.2.2.2.1 t,()):=by
 obtain⟨h1,h2,h3,h4,h5⟩:=lx hk hs
 simp only[eM,aP]
 refine(cA (fun i:Nat=>(w,t,(w.2.2.2.1.take i).flatMap bL,bf 0 i (fun i=>decide (t.2.2.2.2.2.1.getD i 0=(w.2.2.2.1.getD i ak.aa).2.1)),(i:Int),()))
  (fun i=> !decide (t.2.2.2.2.2.1.getD i 0>(w.2.2.2.1.getD i ak.aa).2.1)) t.2.2.2.2.2.1.length
  (e:=some (!oP w.2.2.2.1 t.2.2.2.2.2.1||decide ((w.2.2.2.1.take t.2.2.2.2.2.1.length).flatMap bL=t.2.2.2.2.2.2.1),())) (no:=some (false,())) ?_ ?_ k 0 (by omega) (by omega)).trans ?_
 ·intro G i hi
  have hi2:i<w.2.2.2.1.length:=by omega
  have hp:=jV hk hw hi2
  have hb:=fh hk (w.2.2.2.1.take i)
  unfold cU at hb
  have hb1:=kJ hk (w.2.2.2.1.getD i ak.aa)
  have hb2:=gg (e:=ak) w.2.2.2.1 i
  have hb3:=aA (e:=ab) (l:=(w.2.2.2.1.take i).flatMap bL)
  have hb4:=aA (e:=ab) (l:=bL (w.2.2.2.1.getD i ak.aa))
  have hb5:decide (((w.2.2.2.1.take i).flatMap bL).length+(bL (w.2.2.2.1.getD i ak.aa)).length<4294967296)=true:=by
   simp only[decide_eq_true_eq];omega
  simp only[aw,aK hi,aK hi2,hi,decide_true,if_true,Int.toNat_natCast,Bool.or_true,sU hk hp,Option.bind_some,hb5]
  rw[aZ (by omega),fi ak.aa hi2,Au]
  rcases Bool.eq_false_or_eq_true (decide (t.2.2.2.2.2.1.getD i 0>(w.2.2.2.1.getD i ak.aa).2.1))with h|h<;>
   simp only[h,if_true,Bool.not_true,Bool.not_false,Bool.false_eq_true,if_false,bY,wZ]
 ·intro G
  simp only[aw,Nat.lt_irrefl,decide_false,Bool.false_eq_true,if_false]
  show Option.bind (if((!oP w.2.2.2.1 t.2.2.2.2.2.1)==false)=true then mG k ((w.2.2.2.1.take t.2.2.2.2.2.1.length).flatMap bL,t.2.2.2.2.2.2.1,())else some (false,())) _=_
  have hb:=fh hk (w.2.2.2.1.take t.2.2.2.2.2.1.length)
  unfold cU at hb
  have hb2:=gg (e:=ak) w.2.2.2.1 t.2.2.2.2.2.1.length
  rw[Jf hk (by omega)]
  show Option.bind _ (fun r6:Bool×Unit=>some (if(!oP w.2.2.2.1 t.2.2.2.2.2.1)=true then true else r6.1,()))=_
  cases oP w.2.2.2.1 t.2.2.2.2.2.1<;>simp
 ·unfold kE
  show(if AV w.2.2.2.1 t.2.2.2.2.2.1=true then _ else _)=_
  cases AV w.2.2.2.1 t.2.2.2.2.2.1<;>simp
theorem BC {w:ar} {t:aL} (hs:ag ah t≤1048576) (hw:ag (.sl ak) w.2.2.2.1≤1048576) (hl0:(if t.2.1=2 then decide ((t.2.2.2.2.2.1.length:Int)=w.1.1)else decide (t.2.2.2.2.1<w.1.1))=true→t.2.2.2.2.2.1.length≤w.2.2.2.1.length) (hp:t.2.1≤2):
 jw k (w,t,())=some ((if t.2.1=2 then decide ((t.2.2.2.2.2.1.length:Int)=w.1.1)else decide (t.2.2.2.2.1<w.1.1))&&kE w.2.2.2.1 t,()):=by
 obtain⟨h1,h2,h3,h4,h5⟩:=lx hk hs
 simp only[jw,aP]
 have hc:(if(if(decide ((t.2.1:Int)<(2:Int)))=true then decide ((t.2.2.2.2.1:Int)≥w.1.1)else false)=true then true else if((t.2.1:Int)==(2:Int))=true then(((List.length t.2.2.2.2.2.1:Nat):Int):Int) != w.1.1 else false)
  = !(if t.2.1=2 then decide ((t.2.2.2.2.2.1.length:Int)=w.1.1)else decide (t.2.2.2.2.1<w.1.1)):=by
  rw[jP,iH]
  by_cases q:t.2.1=2
  ·simp[q]
  ·have q2:t.2.1<2:=by have:=hp;omega
   simp[q,q2]
   exact jP _ _
 rw[hc]
 rcases Bool.eq_false_or_eq_true (if t.2.1=2 then decide ((t.2.2.2.2.2.1.length:Int)=w.1.1)else decide (t.2.2.2.2.1<w.1.1))with hcc|hcc
 rotate_left
 ·rw[hcc];rfl
 have hl:=hl0 hcc
 rw[hcc,if_neg (by simp)]
 refine(cA (fun i:Nat=>(w,t,bf 0 i (fun i=>decide (t.2.2.2.2.2.1.getD i 0=(w.2.2.2.1.getD i ak.aa).2.1)),(w.2.2.2.1.take i).flatMap bL,t.2.2.2.2.2.1,(t.2.2.2.2.2.1.length:Int),(i:Int),()))
  (fun i=> !decide (t.2.2.2.2.2.1.getD i 0>(w.2.2.2.1.getD i ak.aa).2.1)) t.2.2.2.2.2.1.length
  (e:=some (!oP w.2.2.2.1 t.2.2.2.2.2.1||decide ((w.2.2.2.1.take t.2.2.2.2.2.1.length).flatMap bL=t.2.2.2.2.2.2.1),())) (no:=some (false,())) ?_ ?_ k 0 (by omega) (by omega)).trans ?_
 ·intro G i hi
  have hi2:i<w.2.2.2.1.length:=by omega
  have hp:=jV hk hw hi2
  have hb:=fh hk (w.2.2.2.1.take i)
  unfold cU at hb
  have hb1:=kJ hk (w.2.2.2.1.getD i ak.aa)
  have hb2:=gg (e:=ak) w.2.2.2.1 i
  have hb3:=aA (e:=ab) (l:=(w.2.2.2.1.take i).flatMap bL)
  have hb4:=aA (e:=ab) (l:=bL (w.2.2.2.1.getD i ak.aa))
  have hb5:decide (((w.2.2.2.1.take i).flatMap bL).length+(bL (w.2.2.2.1.getD i ak.aa)).length<4294967296)=true:=by
   simp only[decide_eq_true_eq];omega
  simp only[aw,aK hi,aK hi2,hi,decide_true,if_true,Int.toNat_natCast,Bool.or_true,sg hk hp,Option.bind_some,hb5]
  rw[aZ (by omega),fi ak.aa hi2,Au]
  rcases Bool.eq_false_or_eq_true (decide (t.2.2.2.2.2.1.getD i 0>(w.2.2.2.1.getD i ak.aa).2.1))with h|h<;>
   simp only[h,if_true,Bool.not_true,Bool.not_false,Bool.false_eq_true,if_false,bY,wZ]
 ·intro G
  simp only[aw,Nat.lt_irrefl,decide_false,Bool.false_eq_true,if_false]
  have hb:=fh hk (w.2.2.2.1.take t.2.2.2.2.2.1.length)
  unfold cU at hb
  have hb2:=gg (e:=ak) w.2.2.2.1 t.2.2.2.2.2.1.length
  rw[qj hk h4]
  show Option.bind (if((!oP w.2.2.2.1 t.2.2.2.2.2.1)==false)=true then some (decide (t.2.2.2.2.2.2.1=(w.2.2.2.1.take t.2.2.2.2.2.1.length).flatMap bL),())else some (false,())) (fun r6:Bool×Unit=>some (if(!oP w.2.2.2.1 t.2.2.2.2.2.1)=true then true else r6.1,()))=_
  have he:decide (t.2.2.2.2.2.2.1=(w.2.2.2.1.take t.2.2.2.2.2.1.length).flatMap bL)=decide ((w.2.2.2.1.take t.2.2.2.2.2.1.length).flatMap bL=t.2.2.2.2.2.2.1):=by
   rw[Bool.eq_iff_iff];simp only[decide_eq_true_eq];exact eq_comm
  rw[he]
  cases oP w.2.2.2.1 t.2.2.2.2.2.1<;>simp
 ·unfold kE
  show(if AV w.2.2.2.1 t.2.2.2.2.2.1=true then _ else _)=_
  cases AV w.2.2.2.1 t.2.2.2.2.2.1<;>simp
end
end Vg.Tryz
namespace Vg.Tryz
open Go Vg
set_option linter.unusedVariables false
set_option linter.unusedSectionVars false
set_option linter.unusedSimpArgs false
theorem B0 {t:aL} {n:Int} (h:gO t n=true):0≤t.2.2.2.2.2.2.2.2∧(t.1=0∨t.1=1∨t.1=2∨t.1=3∨t.1=4∨t.1=5∨t.1=6):=by
 unfold gO at h
 grind
theorem MU {t:aL} {n:Int} (h:gO t n=true) (e:t.1=3):(t.2.2.2.2.2.1.length:Int)=t.2.2.2.2.1∧0≤t.2.1∧t.2.1≤2:=by
 unfold gO bH at h
 grind
theorem R9 {t:aL} {n:Int} (h:gO t n=true) (e:t.1=4):t.2.2.2.2.2.1=[]∧t.2.2.2.2.2.2.1=[]∧t.2.1≤1:=by
 unfold gO bH at h
 grind
section
variable {k:Nat} (hk:9223372036854775808≤k)
include hk
theorem Fp {l:List aG} {s:List ai} (hs:ag (.sl ak) l≤1048576):(gu k l s).1.1.length≤1048576:=by
 unfold gu
 split
 ·simp[iE]
 ·rename_i h0
  obtain⟨_,_,c⟩:=zw (k:=k) (l:=l) (s:=s) h0
  have hp:=jV hk hs c
  generalize l.getD (mu k l s).toNat ak.aa=p at hp⊢
  unfold qn
  cases hc:nM p (jj k s)with
  |none=>simp[iE]
  |some i=>
   obtain⟨hi,_,_⟩:=lk.1 hc
   obtain⟨h1,h2⟩:=kR hk hp hi
   dsimp only
   cases hq:mS (p.2.2.getD i ay.aa).2 s with
   |none=>simp[iE]
   |some j=>
    obtain⟨hj,_,_⟩:=lk.1 hq
    have h3:=rT (e:=ab) (d:=ab.aa) hj
    exact iZ hk (a:=(p.2.2.getD i ay.aa).2.getD j ab.aa) (by omega)
theorem dN {w:ar} (hs:ag aE w≤1048576):
 ag bC w.1≤1048576∧ag (.sl ak) w.2.2.2.1≤1048576∧ag (.sl aU) w.2.2.2.2.1≤1048576∧ag (.sl ab) w.2.2.2.2.2.1≤1048576∧ag (.sl aj) w.2.2.2.2.2.2.2.1≤1048576∧
 w.2.2.2.2.2.2.2.2.2.1.length≤1048576∧ag (.sl ab) w.2.2.2.2.2.2.2.2.2.2.2.1≤1048576∧ag (.sl ah) w.2.2.2.2.2.2.2.2.2.2.2.2.1≤1048576∧ag (.sl aq) w.2.2.2.2.2.2.2.2.2.2.2.2.2≤1048576:=by
 rw[gP hk]at hs
 have h:=aA (e:=aC) (l:=w.2.2.2.2.2.2.2.2.2.1)
 omega
theorem wS {e:Ty} {l:List e.den} (hd:ag e e.aa=0) (hs:ag (.sl e) l≤1048576) (n:Nat):ag e (l.getD n e.aa)≤1048576:=by
 by_cases h:n<l.length
 ·have:=rT (e:=e) (d:=e.aa) h
  omega
 ·rw[List.getD_eq_getElem?_getD,List.getElem?_eq_none (by omega),Option.getD_none,hd]
  omega
theorem Hk {w:ar} {i:Nat} (hs:ag aE w≤1048576) (hi:i<w.2.2.2.2.2.2.2.2.2.2.2.2.1.length) (hp:(w.2.2.2.1.length:Int)=w.1.1):
 lp k (w,(i:Int),())=some (gH k w (w.2.2.2.2.2.2.2.2.2.2.2.2.1.getD i ah.aa) (w.2.2.2.2.2.2.2.2.2.2.2.2.2.getD (w.2.2.2.2.2.2.2.2.2.2.2.2.1.getD i ah.aa).2.2.2.2.2.2.2.2.toNat aq.aa) i,()):=by
 obtain⟨_,w2,_,_,_,_,_,w8,w9⟩:=dN hk hs
 have ht:ag ah (w.2.2.2.2.2.2.2.2.2.2.2.2.1.getD i ah.aa)≤1048576:=wS hk (e:=ah) rfl w8 i
 have hd:ag aq (w.2.2.2.2.2.2.2.2.2.2.2.2.2.getD (w.2.2.2.2.2.2.2.2.2.2.2.2.1.getD i ah.aa).2.2.2.2.2.2.2.2.toNat aq.aa)≤1048576:=wS hk (e:=aq) rfl w9 (w.2.2.2.2.2.2.2.2.2.2.2.2.1.getD i ah.aa).2.2.2.2.2.2.2.2.toNat
 unfold lp aP
 dsimp only
 rw[if_pos (aK hi),Int.toNat_natCast]
 generalize w.2.2.2.2.2.2.2.2.2.2.2.2.1.getD i ah.aa=t at*
 generalize w.2.2.2.2.2.2.2.2.2.2.2.2.2.getD t.2.2.2.2.2.2.2.2.toNat aq.aa=d at*
 rw[Jv hk ht,Option.bind_some]
 unfold gH
 by_cases hok:gO t i=true
 rotate_left
 ·simp[hok]
 obtain⟨hH,hkind⟩:=B0 hok
 obtain⟨t1,t2,t3,t4,t5⟩:=lx hk ht
 obtain⟨d1,d2,d3,d4⟩:=Ga hk hd
 have hfl:=Fp hk (s:=t.2.2.1.1) w2
 have t6:=iZ hk t1
 have d6:=iZ hk d1
 have t7:=aA (e:=af) (l:=t.2.2.1.1)
 have d7:=aA (e:=af) (l:=d.2.2.1.1)
 have d8:=aA (e:=af) (l:=d.2.2.2.1)
 by_cases e0:t.1=0
 ·simp[e0,hok]
 by_cases eH:t.2.2.2.2.2.2.2.2<(w.2.2.2.2.2.2.2.2.2.2.2.2.2.length:Int)
 rotate_left
 ·have:decide (t.2.2.2.2.2.2.2.2≥(w.2.2.2.2.2.2.2.2.2.2.2.2.2.length:Int))=true:=by simp only[decide_eq_true_eq];omega
  simp[e0,this,eH,hok]
 have q1:decide (t.2.2.2.2.2.2.2.2≥(w.2.2.2.2.2.2.2.2.2.2.2.2.2.length:Int))=false:=by simp only[decide_eq_false_iff_not];omega
 have q2:decide (0≤t.2.2.2.2.2.2.2.2∧t.2.2.2.2.2.2.2.2<(w.2.2.2.2.2.2.2.2.2.2.2.2.2.length:Int))=true:=by simp only[decide_eq_true_eq];omega
 simp only[hok,q1,q2,hH,and_true,true_and,if_true,Bool.not_true,Bool.false_eq_true,if_false,eH,e0,decide_true,decide_false,Bool.true_and,Bool.false_or,bY,iH]
 have hop:ee k (t.1,())=some (List.getD [0,1,3,4,6,7,8] t.1.toNat 0,()):=by
  simp only[ee]
  rw[if_pos (by simp only[decide_eq_true_eq,List.length_cons,List.length_nil];omega)]
 rw[hop]
 clear hop q1 q2
 by_cases c1:d.2.1=i
 rotate_left
 ·simp[c1,hok]
 by_cases c2:d.2.2.2.2.2.2.2.2.2.2.2= -1
 rotate_left
 ·simp[c1,c2,hok]
 simp only[c1,c2,decide_true,Bool.not_true,Bool.false_eq_true,if_false,beq_self_eq_true,if_true,Option.bind_some,Bool.true_and]
 unfold pd
 rcases hkind with h|h|h|h|h|h|h
 ·exact absurd h e0
 all_goals
  have hn:t.1.toNat=t.1.toNat:=rfl
  simp only[h]at hn⊢
 ·simp only[Bc hk w2 t5,eD hk hfl,eD hk d6,dT hk (a:=d.2.2.1.1) (by omega),Ap hk t1]
  by_cases b1:d.1=1<;>by_cases b2:d.2.2.2.2.2.2.2.2.2.2.1= -1<;>by_cases b3:t.2.1=2<;>simp[b1,b2,b3]
  ·by_cases b4:d.2.2.1=t.2.2.1<;>simp[b4]
  ·simp only[eD hk hfl]
   cases (gu k w.2.2.2.1 t.2.2.1.1).2<;>by_cases b4:(gu k w.2.2.2.1 t.2.2.1.1).1=t.2.2.1<;>simp[b4]
 ·simp only[dT hk (a:=d.2.2.2.1) (by omega)]
  by_cases b1:d.1=3<;>by_cases b2:d.2.2.2.2.2.2.2.2.2.2.1= -1<;>simp[b1,b2]
 ·obtain⟨e1,e2,e3⟩:=MU hok h
  by_cases b1:d.1=4<;>by_cases b2:d.2.2.2.2.2.2.2.2.2.2.1= -1<;>by_cases b3:t.2.1=2<;>simp[b1,b2,b3]
  ·by_cases b4:(t.2.2.2.2.2.1.length:Int)=w.1.1
   ·rw[ow hk ht w2 (by omega)];simp[b4]
   ·simp[b4]
  ·by_cases b4:t.2.2.2.2.1<w.1.1
   ·rw[ow hk ht w2 (by omega)];simp[b4]
   ·simp[b4]
 ·obtain⟨e1,e2,e3⟩:=R9 hok h
  have b3:¬t.2.1=2:=by have:=e3;omega
  by_cases b1:d.1=6<;>by_cases b2:d.2.2.2.2.2.2.2.2.2.2.1= -1<;>simp[b1,b2,b3]
  have hl:t.2.2.2.2.2.1.length≤w.2.2.2.1.length:=by rw[e1];exact Nat.zero_le _
  have hq:kE w.2.2.2.1 t=true:=by unfold kE AV;rw[e1,e2];rfl
  rw[ow hk ht w2 hl,hq]
  by_cases b4:t.2.2.2.2.1<w.1.1<;>simp[b4]
 ·simp only[eD hk d6]
  by_cases b1:d.1=7<;>by_cases b2:d.2.2.2.2.2.2.2.2.2.2.1= -1<;>simp[b1,b2]
 ·by_cases b1:d.1=8<;>by_cases b2:d.2.2.2.2.2.2.2.2.2.2.1= -1<;>simp[b1,b2]
theorem D6 {w:ar} {t:aL} {d:bg} {n:Int} (hs:ag aE w≤1048576) (hp:(w.2.2.2.1.length:Int)=w.1.1) (ht:ag ah t≤1048576) (hd:ag aq d≤1048576) (hok:gO t n=true):
 kf k (w,t,d,())=some (pd k w t d,()):=by
 obtain⟨_,w2,_,_,_,_,_,w8,w9⟩:=dN hk hs
 obtain⟨t1,t2,t3,t4,t5⟩:=lx hk ht
 obtain⟨d1,d2,d3,d4⟩:=Ga hk hd
 have hfl:=Fp hk (s:=t.2.2.1.1) w2
 have d6:=iZ hk d1
 have d7:=aA (e:=af) (l:=d.2.2.1.1)
 have d8:=aA (e:=af) (l:=d.2.2.2.1)
 simp only[kf,Bz hk w2 t5,hZ hk hfl,hZ hk d6,eC hk (a:=d.2.2.1.1) (by omega),eC hk (a:=d.2.2.2.1) (by omega),AJ hk t1,Option.bind_some,bY,bM]
 unfold pd
 by_cases h1:t.1=1
 ·by_cases b1:d.1=1<;>by_cases b3:t.2.1=2<;>simp[h1,b1,b3]
  ·by_cases b5:d.2.2.1.1=t.2.2.1.1<;>cases (gu k w.2.2.2.1 t.2.2.1.1).2<;>by_cases b4:(gu k w.2.2.2.1 t.2.2.1.1).1=t.2.2.1<;>simp[b4,b5]
  ·by_cases b4:d.2.2.1=t.2.2.1<;>simp[b4]
 by_cases h2:t.1=2
 ·by_cases b1:d.1=3<;>simp[h2,b1]
 by_cases h3:t.1=3
 ·obtain⟨e1,e2,e3⟩:=MU hok h3
  have hl:(if t.2.1=2 then decide ((t.2.2.2.2.2.1.length:Int)=w.1.1)else decide (t.2.2.2.2.1<w.1.1))=true→t.2.2.2.2.2.1.length≤w.2.2.2.1.length:=by
   by_cases b3:t.2.1=2<;>simp[b3]<;>intro h<;>omega
  rw[BC hk ht w2 hl e3]
  by_cases b1:d.1=4<;>simp[h3,b1]
 by_cases h4:t.1=4
 ·by_cases b1:d.1=6<;>simp[h4,b1]
 by_cases h5:t.1=5
 ·by_cases b1:d.1=7<;>simp[h5,b1]
 by_cases b1:d.1=8<;>by_cases b2:d.2.2.2.2.2.1=t.2.2.2.2.2.2.2.1<;>simp[h1,h2,h3,h4,h5,b1,b2]
end
end Vg.Tryz
namespace Vg.Tryz
open Go Vg
set_option linter.unusedVariables false
set_option linter.unusedSectionVars false
set_option linter.unusedSimpArgs false
def cD (h:Nat→Bool):Nat→Int
 |0=> -1
 |j+1=>if h j=true then(j:Int)else cD h j
theorem qq {h:Nat→Bool}:∀ {j:Nat},(∀a,a<j→h a=false)→cD h j= -1
 |0,_=>rfl
 |j+1,H=>by
  unfold cD
  rw[H j (by omega),if_neg (by simp)]
  exact qq (fun a ha=>H a (by omega))
theorem kX {h:Nat→Bool}:∀ {j:Nat},cD h j≠-1→∃a,a<j∧h a=true∧cD h j=(a:Int)
 |0,H=>absurd rfl H
 |j+1,H=>by
  unfold cD at H⊢
  by_cases hj:h j=true
  ·rw[if_pos hj];exact⟨j,by omega,hj,rfl⟩
  ·rw[if_neg hj]at H⊢
   obtain⟨a,h1,h2,h3⟩:=kX H
   exact⟨a,by omega,h2,h3⟩
theorem xi {h:Nat→Bool} {m:Nat} (hp:∀j,j<m→h j=true→cD h j= -1) {a:Nat} (ha:a<m) (h2:h a=true):cD h m=(a:Int):=by
 have hm:cD h m≠-1:=by
  intro e
  have:∀ {j:Nat},(∀b,b<j→h b=true→False)∨cD h j≠-1:=by
   intro j
   induction j with
   |zero=>exact Or.inl (fun b hb _=>by omega)
   |succ j ih=>
    unfold cD
    by_cases hj:h j=true
    ·rw[if_pos hj];right;omega
    ·rw[if_neg hj]
     rcases ih with ih|ih
     ·left
      intro b hb hbt
      by_cases hbj:b=j
      ·subst hbj;exact hj hbt
      ·exact ih b (by omega) hbt
     ·exact Or.inr ih
  rcases @this m with H|H
  ·exact H a ha h2
  ·exact H e
 obtain⟨b,h3,h4,h5⟩:=kX hm
 rw[h5]
 by_cases hab:a=b
 ·rw[hab]
 ·exfalso
  have key:∀x y:Nat,x<y→y<m→h x=true→h y=true→False:=by
   intro x y hxy hy hx hyt
   have e:=hp y hy hyt
   have:∀ {j:Nat},x<j→cD h j≠-1:=by
    intro j
    induction j with
    |zero=>intro q;omega
    |succ j ih=>
     intro q
     unfold cD
     by_cases hj:h j=true
     ·rw[if_pos hj];omega
     ·rw[if_neg hj]
      by_cases hxj:x=j
      ·subst hxj;exact absurd hx hj
      ·exact ih (by omega)
   exact this hxy e
  rcases Nat.lt_or_ge a b with q|q
  ·exact key a b q h3 h2 h4
  ·exact key b a (by omega) ha h4 h2
def bB (k:Nat) (w:ar) (j:Nat):Int:=nK k (w.2.2.2.2.2.2.2.2.2.2.2.2.1.getD j ah.aa) w.2.2.2.1.length
def dm (w:ar) (j:Nat):Bool:=vq (w.2.2.2.2.2.2.2.2.2.2.2.2.1.getD j ah.aa)
def gn (k:Nat) (w:ar):Bool:=
 bf 0 w.2.2.2.1.length (fun i=>bf 0 w.2.2.2.2.2.2.2.2.2.2.2.2.1.length (fun j=>decide (bB k w j=i)==decide ((w.2.2.2.1.getD i ak.aa).1=j)))&&
 (bf 0 w.2.2.2.2.2.2.2.2.2.2.2.2.1.length (fun j=>dm w j==decide (w.2.2.2.2.2.2.1=j))&&bH w.2.2.2.2.2.2.1 (-1) 4)
def zG (k:Nat) (w:ar) (j:Nat):Bool:=
 (decide (bB k w j<0)||decide (cD (fun a=>decide (bB k w a=bB k w j)) j= -1))&&(!dm w j||decide (cD (dm w) j= -1))
theorem PM {k:Nat} {w:ar} (hp:∀i,i<w.2.2.2.1.length→bH (w.2.2.2.1.getD i ak.aa).1 (-1) 4=true) (ht:w.2.2.2.2.2.2.2.2.2.2.2.2.1.length=5)
 (hh:∀j,j<5→bB k w j<w.2.2.2.1.length):
 (bf 0 w.2.2.2.2.2.2.2.2.2.2.2.2.1.length (zG k w)&&(bf 0 w.2.2.2.1.length (fun i=>decide ((w.2.2.2.1.getD i ak.aa).1=cD (fun a=>decide (bB k w a=i)) w.2.2.2.2.2.2.2.2.2.2.2.2.1.length))&&
  decide (w.2.2.2.2.2.2.1=cD (dm w) w.2.2.2.2.2.2.2.2.2.2.2.2.1.length)))=gn k w:=by
 unfold gn
 rw[ht]
 rw[Bool.eq_iff_iff]
 simp only[Bool.and_eq_true,eh,zG,Bool.or_eq_true,decide_eq_true_eq,Bool.not_eq_true',beq_iff_eq,bH]at hp⊢
 constructor
 ·rintro⟨h1,h2,h3⟩
  refine⟨fun i _ hi j _ hj=> ?_,fun j _ hj=> ?_,?_⟩
  ·rw[h2 i (by omega) hi]
   rw[Bool.eq_iff_iff]
   simp only[decide_eq_true_eq]
   constructor
   ·intro e
    refine xi (h:=fun a=>decide (bB k w a=i)) (m:=5) (fun b hb hbt=> ?_) hj (by simpa using e)
    have hbe:bB k w b=(i:Int):=by simpa using hbt
    rcases(h1 b (by omega) hb).1 with q|q
    ·omega
    ·rw[hbe]at q;exact q
   ·intro e
    obtain⟨a,_,ha,hb⟩:=kX (h:=fun a=>decide (bB k w a=i)) (j:=5) (by rw[e];omega)
    rw[e]at hb
    have:a=j:=by omega
    subst this
    simpa using ha
  ·rw[h3,Bool.eq_iff_iff]
   simp only[decide_eq_true_eq]
   constructor
   ·intro e
    refine xi (h:=dm w) (m:=5) (fun b hb hbt=> ?_) hj e
    rcases(h1 b (by omega) hb).2 with q|q
    ·rw[hbt]at q;exact absurd q (by simp)
    ·exact q
   ·intro e
    obtain⟨a,_,ha,hb⟩:=kX (h:=dm w) (j:=5) (by rw[e];omega)
    rw[e]at hb
    have:a=j:=by omega
    subst this
    exact ha
  ·rw[h3]
   by_cases e:cD (dm w) 5= -1
   ·omega
   ·obtain⟨a,h4,_,h5⟩:=kX e
    omega
 ·rintro⟨h1,h2,h3,h4⟩
  have hI:∀i,i<w.2.2.2.1.length→∀j,j<5→(bB k w j=(i:Int)↔(w.2.2.2.1.getD i ak.aa).1=(j:Int)):=by
   intro i hi j hj
   have:=h1 i (by omega) hi j (by omega) hj
   rw[Bool.eq_iff_iff]at this
   simpa only[decide_eq_true_eq]using this
  have hG:∀j,j<5→(dm w j=true↔w.2.2.2.2.2.2.1=(j:Int)):=by
   intro j hj
   have:=h2 j (by omega) hj
   rw[Bool.eq_iff_iff]at this
   simpa only[decide_eq_true_eq]using this
  refine⟨fun j _ hj=>⟨?_,?_⟩,fun i _ hi=> ?_,?_⟩
  ·by_cases hn:bB k w j<0
   ·exact Or.inl hn
   ·right
    apply qq
    intro a ha
    simp only[decide_eq_false_iff_not]
    intro e
    have hlt:=hh j hj
    have q1:=(hI (bB k w j).toNat (by omega) j hj).1 (by omega)
    have q2:=(hI (bB k w j).toNat (by omega) a (by omega)).1 (by omega)
    omega
  ·by_cases hg:dm w j=true
   ·right
    apply qq
    intro a ha
    cases hga:dm w a with
    |false=>rfl
    |true=>
     have q1:=(hG j hj).1 hg
     have q2:=(hG a (by omega)).1 hga
     omega
   ·left;simpa using hg
  ·by_cases e:cD (fun a=>decide (bB k w a=i)) 5= -1
   ·rw[e]
    have hb:=hp i hi
    by_cases e2:(w.2.2.2.1.getD i ak.aa).1= -1
    ·exact e2
    ·exfalso
     have q:=(hI i hi (w.2.2.2.1.getD i ak.aa).1.toNat (by omega)).2 (by omega)
     have:cD (fun a=>decide (bB k w a=i)) 5≠-1:=by
      rw[xi (h:=fun a=>decide (bB k w a=i)) (m:=5) (a:=(w.2.2.2.1.getD i ak.aa).1.toNat) (fun b hb2 hbt=> ?_) (by omega) (by simpa using q)]
      ·omega
      ·apply qq
       intro a ha
       simp only[decide_eq_false_iff_not]
       intro e3
       have hbe:bB k w b=(i:Int):=by simpa using hbt
       have q1:=(hI i hi b hb2).1 hbe
       have q2:=(hI i hi a (by omega)).1 e3
       omega
     exact this e
   ·obtain⟨a,h5,h6,h7⟩:=kX e
    rw[h7]
    exact(hI i hi a h5).1 (by simpa using h6)
  ·by_cases e:cD (dm w) 5= -1
   ·rw[e]
    by_cases e2:w.2.2.2.2.2.2.1= -1
    ·exact e2
    ·exfalso
     have q:=(hG w.2.2.2.2.2.2.1.toNat (by omega)).2 (by omega)
     have:cD (dm w) 5≠-1:=by
      rw[xi (h:=dm w) (m:=5) (a:=w.2.2.2.2.2.2.1.toNat) (fun b hb2 hbt=> ?_) (by omega) q]
      ·omega
      ·apply qq
       intro a ha
       cases hga:dm w a with
       |false=>rfl
       |true=>
        have q1:=(hG b hb2).1 hbt
        have q2:=(hG a (by omega)).1 hga
        omega
     exact this e
   ·obtain⟨a,h5,h6,h7⟩:=kX e
    rw[h7]
    exact(hG a h5).1 h6
section
variable {k:Nat} (hk:9223372036854775808≤k)
include hk
theorem Aj {w:ar} (hs:ag aE w≤1048576):ig k (w,())=some (gn k w,()):=by
 obtain⟨_,w2,_,_,_,_,_,w8,w9⟩:=dN hk hs
 have hn:=aA (e:=ak) (l:=w.2.2.2.1)
 have hm:=aA (e:=ah) (l:=w.2.2.2.2.2.2.2.2.2.2.2.2.1)
 have htask:∀j:Nat,ag ah (w.2.2.2.2.2.2.2.2.2.2.2.2.1.getD j ah.aa)≤1048576:=fun j=>wS hk (e:=ah) rfl w8 j
 simp only[ig,aP]
 refine(cA (fun i:Nat=>(w,w.2.2.2.1,(w.2.2.2.1.length:Int),(i:Int),())) (fun i=>bf 0 w.2.2.2.2.2.2.2.2.2.2.2.2.1.length (fun j=>decide (bB k w j=i)==decide ((w.2.2.2.1.getD i ak.aa).1=j))) w.2.2.2.1.length
  (e:=some (bf 0 w.2.2.2.2.2.2.2.2.2.2.2.2.1.length (fun j=>dm w j==decide (w.2.2.2.2.2.2.1=j))&&bH w.2.2.2.2.2.2.1 (-1) 4,())) (no:=some (false,())) ?_ ?_ k 0 (by omega) (by omega)).trans ?_
 ·intro G i hi
  simp only[aw,aK hi,hi,decide_true,if_true,Int.toNat_natCast]
  refine(cA (fun j:Nat=>(w,(i:Int),w.2.2.2.1.getD i ak.aa,w.2.2.2.1,(w.2.2.2.1.length:Int),(i:Int),w.2.2.2.2.2.2.2.2.2.2.2.2.1,(w.2.2.2.2.2.2.2.2.2.2.2.2.1.length:Int),(j:Int),()))
   (fun j=>decide (bB k w j=i)==decide ((w.2.2.2.1.getD i ak.aa).1=j)) w.2.2.2.2.2.2.2.2.2.2.2.2.1.length
   (e:=G (w,w.2.2.2.1,(w.2.2.2.1.length:Int),((i+1:Nat):Int),())) (no:=some (false,())) ?_ ?_ k 0 (by omega) (by omega)).trans ?_
  ·intro G2 j hj
   simp only[aw,aK hj,hj,decide_true,if_true,Int.toNat_natCast,BL hk (htask j),Option.bind_some,bY]
   rw[aZ (by omega)]
   show(if(!(decide (bB k w j=i)==decide ((w.2.2.2.1.getD i ak.aa).1=j)))=true then _ else _)=_
   cases (decide (bB k w j=i)==decide ((w.2.2.2.1.getD i ak.aa).1=(j:Int)))<;>rfl
  ·intro G2
   simp only[aw,Nat.lt_irrefl,decide_false,Bool.false_eq_true,if_false]
   rw[aZ (by omega)]
  ·rfl
 ·intro G
  simp only[aw,Nat.lt_irrefl,decide_false,Bool.false_eq_true,if_false]
  refine(cA (fun j:Nat=>(w,w.2.2.2.2.2.2.2.2.2.2.2.2.1,(w.2.2.2.2.2.2.2.2.2.2.2.2.1.length:Int),(j:Int),()))
   (fun j=>dm w j==decide (w.2.2.2.2.2.2.1=j)) w.2.2.2.2.2.2.2.2.2.2.2.2.1.length
   (e:=some (bH w.2.2.2.2.2.2.1 (-1) 4,())) (no:=some (false,())) ?_ ?_ k 0 (by omega) (by omega)).trans ?_
  ·intro G2 j hj
   simp only[aw,aK hj,hj,decide_true,if_true,Int.toNat_natCast,zf hk,Option.bind_some,bY]
   rw[aZ (by omega)]
   show(if(!(dm w j==decide (w.2.2.2.2.2.2.1=j)))=true then _ else _)=_
   cases (dm w j==decide (w.2.2.2.2.2.2.1=(j:Int)))<;>rfl
  ·intro G2
   simp only[aw,Nat.lt_irrefl,decide_false,Bool.false_eq_true,if_false,et hk,Option.bind_some]
  ·cases bf 0 w.2.2.2.2.2.2.2.2.2.2.2.2.1.length (fun j=>dm w j==decide (w.2.2.2.2.2.2.1=j))<;>simp
 ·unfold gn
  cases bf 0 w.2.2.2.1.length (fun i=>bf 0 w.2.2.2.2.2.2.2.2.2.2.2.2.1.length (fun j=>decide (bB k w j=i)==decide ((w.2.2.2.1.getD i ak.aa).1=j)))<;>simp
end
end Vg.Tryz
namespace Vg.Tryz
open Go Vg
set_option linter.unusedVariables false
set_option linter.unusedSectionVars false
set_option linter.unusedSimpArgs false
def ff (k:Nat) (w:ar) (j:Nat):List Int:=(List.range w.2.2.2.1.length).map (fun i:Nat=>cD (fun a=>decide (bB k w a=(i:Int))) j)
theorem Ku (k:Nat) (w:ar) (j:Nat):(ff k w j).length=w.2.2.2.1.length:=by simp[ff]
theorem Nr (k:Nat) (w:ar) (j:Nat) {i:Nat} (hi:i<w.2.2.2.1.length):(ff k w j).getD i 0=cD (fun a=>decide (bB k w a=(i:Int))) j:=by
 simp[ff,List.getD_eq_getElem?_getD,List.getElem?_map,List.getElem?_range hi]
theorem Q7 (k:Nat) (w:ar) (j:Nat) (h:0≤bB k w j):(ff k w j).set (bB k w j).toNat (j:Int)=ff k w (j+1):=by
 apply List.ext_getElem
 ·simp[ff]
 ·intro i h1 h2
  simp only[ff,List.getElem_set,List.getElem_map,List.getElem_range,cD,decide_eq_true_eq]
  by_cases e:bB k w j=(i:Int)
  ·rw[if_pos (by omega),if_pos e]
  ·rw[if_neg (by omega),if_neg e]
theorem QC (k:Nat) (w:ar) (j:Nat) (h:bB k w j<0):ff k w j=ff k w (j+1):=by
 unfold ff
 apply List.map_congr_left
 intro i _
 simp only[cD,decide_eq_true_eq]
 rw[if_neg (by omega)]
theorem Qn (k:Nat) (w:ar):ff k w 0=List.replicate w.2.2.2.1.length (-1):=by
 apply List.ext_getElem
 ·simp[ff]
 ·intro i h1 h2
  simp[ff,cD]
section
variable {k:Nat} (hk:9223372036854775808≤k)
include hk
theorem Dm {w:ar} (hs:ag aE w≤1048576) (hp:∀i,i<w.2.2.2.1.length→bH (w.2.2.2.1.getD i ak.aa).1 (-1) 4=true) (ht:w.2.2.2.2.2.2.2.2.2.2.2.2.1.length=5)
 (hh:∀j,j<5→bB k w j<w.2.2.2.1.length):gG k (w,())=some (gn k w,()):=by
 rw[←PM hp ht hh]
 obtain⟨_,w2,_,_,_,_,_,w8,w9⟩:=dN hk hs
 have hn:=aA (e:=ak) (l:=w.2.2.2.1)
 have htask:∀j:Nat,ag ah (w.2.2.2.2.2.2.2.2.2.2.2.2.1.getD j ah.aa)≤1048576:=fun j=>wS hk (e:=ah) rfl w8 j
 simp only[gG,aP]
 refine cB (fun i:Nat=>(w,List.replicate i (-1:Int),(i:Int),())) w.2.2.2.1.length (fun G i hi=> ?_) (fun G=> ?_) k 0 (by omega) (by omega)
 ·simp only[aw,hi,decide_true,if_true,List.length_replicate,List.length_cons,List.length_nil]
  rw[if_pos (by simp only[decide_eq_true_eq];omega),aZ (by omega),List.replicate_succ']
 simp only[aw,Nat.lt_irrefl,decide_false,Bool.false_eq_true,if_false]
 rw[←Qn k w]
 refine(cA (fun j:Nat=>(w,ff k w j,cD (dm w) j,(j:Int),())) (zG k w) w.2.2.2.2.2.2.2.2.2.2.2.2.1.length
  (e:=some (bf 0 w.2.2.2.1.length (fun i=>decide ((w.2.2.2.1.getD i ak.aa).1=cD (fun a=>decide (bB k w a=i)) w.2.2.2.2.2.2.2.2.2.2.2.2.1.length))&&
   decide (w.2.2.2.2.2.2.1=cD (dm w) w.2.2.2.2.2.2.2.2.2.2.2.2.1.length),())) (no:=some (false,())) ?_ ?_ k 0 (by omega) (by omega)).trans ?_
 ·intro G j hj
  have hlt:=hh j (by omega)
  simp only[aw,aK hj,hj,decide_true,if_true,Int.toNat_natCast,A8 hk (htask j),zd hk,Option.bind_some,iH,Ku]
  change (if decide (bB k w j≥0)=true then(if decide (0≤bB k w j∧bB k w j<(w.2.2.2.1.length:Int))=true then(if(!decide ((ff k w j).getD (bB k w j).toNat 0= -1))=true then some (false,())else(if decide (0≤bB k w j∧bB k w j<(w.2.2.2.1.length:Int))=true then
   (if dm w j=true then(if(!decide (cD (dm w) j= -1))=true then some (false,())else G (w,(ff k w j).set (bB k w j).toNat (j:Int),(j:Int),IntKind.i64.wrap ((j:Int)+1),()))else G (w,(ff k w j).set (bB k w j).toNat (j:Int),cD (dm w) j,IntKind.i64.wrap ((j:Int)+1),()))else none))else none)else
   (if dm w j=true then(if(!decide (cD (dm w) j= -1))=true then some (false,())else G (w,ff k w j,(j:Int),IntKind.i64.wrap ((j:Int)+1),()))else G (w,ff k w j,cD (dm w) j,IntKind.i64.wrap ((j:Int)+1),())))=_
  rw[aZ (by omega)]
  have hg:dm w j=true→cD (dm w) (j+1)=(j:Int):=fun h=>by simp[cD,h]
  have hg2:dm w j=false→cD (dm w) (j+1)=cD (dm w) j:=fun h=>by simp[cD,h]
  unfold zG
  by_cases h0:0≤bB k w j
  ·rw[if_pos (by simpa using h0),if_pos (by simp only[decide_eq_true_eq];omega),Nr k w j (show(bB k w j).toNat<_ by omega),Q7 k w j h0,Int.toNat_of_nonneg h0]
   rw[show decide (bB k w j<0)=false by simp only[decide_eq_false_iff_not];omega]
   by_cases hw:cD (fun a=>decide (bB k w a=bB k w j)) j= -1
   ·rw[if_neg (by simp[hw])]
    cases hgr:dm w j with
    |true=>rw[hg hgr];by_cases hw2:cD (dm w) j= -1<;>simp[hw,hw2]<;>omega
    |false=>rw[hg2 hgr];simp[hw];omega
   ·rw[if_pos (by simp[hw])];simp[hw]
  ·rw[if_neg (by simp;omega),QC k w j (by omega)]
   rw[show decide (bB k w j<0)=true by simp only[decide_eq_true_eq];omega]
   cases hgr:dm w j with
   |true=>rw[hg hgr];by_cases hw2:cD (dm w) j= -1<;>simp[hw2]
   |false=>rw[hg2 hgr];simp
 ·intro G
  simp only[aw,Nat.lt_irrefl,decide_false,Bool.false_eq_true,if_false]
  generalize w.2.2.2.2.2.2.2.2.2.2.2.2.1.length=m
  refine(cA (fun i:Nat=>(w,ff k w m,cD (dm w) m,(i:Int),())) (fun i=>decide ((w.2.2.2.1.getD i ak.aa).1=cD (fun a=>decide (bB k w a=i)) m)) w.2.2.2.1.length
   (e:=some (decide (w.2.2.2.2.2.2.1=cD (dm w) m),())) (no:=some (false,())) ?_ ?_ k 0 (by omega) (by omega)).trans ?_
  ·intro G2 i hi
   simp only[aw,Ku,aK hi,hi,decide_true,if_true,Int.toNat_natCast,iH,Nr k w m hi]
   rw[aZ (by omega)]
   rcases Bool.eq_false_or_eq_true (decide ((w.2.2.2.1.getD i ak.aa).1=cD (fun a=>decide (bB k w a=(i:Int))) m))with h|h<;>simp only[h,Bool.not_true,Bool.not_false,Bool.false_eq_true,if_false,if_true]
  ·intro G2
   simp only[aw,Nat.lt_irrefl,decide_false,Bool.false_eq_true,if_false,bY]
  ·cases bf 0 w.2.2.2.1.length (fun i=>decide ((w.2.2.2.1.getD i ak.aa).1=cD (fun a=>decide (bB k w a=i)) m))<;>simp
 ·generalize w.2.2.2.2.2.2.2.2.2.2.2.2.1.length=m
  cases bf 0 m (zG k w)<;>simp
end
end Vg.Tryz
namespace Vg.Tryz
open Go Vg
set_option linter.unusedVariables false
set_option linter.unusedSectionVars false
set_option linter.unusedSimpArgs false
def pn (nn:Int) (h:List bl):Bool:=
 bf 0 h.length (fun i=>decide ((h.getD i aC.aa).2<nn)&&bf 0 i (fun j=> !decide ((h.getD j aC.aa).2=(h.getD i aC.aa).2)))
def rF (w:ar) (g:aJ) (j:Nat):Bool:=
 decide ((w.2.2.2.2.2.2.2.2.2.1.getD j aC.aa).2=g.1)&&decide ((w.2.2.2.2.2.2.2.2.2.1.getD j aC.aa).1=ER w.1 g)
def M4 (w:ar) (g:aJ):Bool:=
 if decide ((w.2.2.2.2.2.2.2.2.2.2.2.2.1.getD 4 ah.aa).1=6)=true then decide ((w.2.2.2.2.2.2.2.2.2.2.2.2.1.getD 4 ah.aa).2.2.2.2.2.2.2.1=g.1)else false
def eG (w:ar) (g:aJ) (n:Nat):Bool:= !bf 0 n (fun j=> !rF w g j)||M4 w g
def rH (w:ar):Bool:=
 bf 0 w.2.2.2.2.2.2.2.1.length (fun i=>(decide ((w.2.2.2.2.2.2.2.1.getD i aj.aa).2.2.1≤w.2.2.1)&&
  (decide ((w.2.2.2.2.2.2.2.1.getD i aj.aa).2.2.2.1≤w.2.2.1)&&decide ((w.2.2.2.2.2.2.2.1.getD i aj.aa).1<w.2.2.2.2.2.2.2.2.1)))&&eG w (w.2.2.2.2.2.2.2.1.getD i aj.aa) w.2.2.2.2.2.2.2.2.2.1.length)
def dO (w:ar):Bool:=
 ny w.2.2.2.2.2.2.2.1 w.1.2.2.2.2.2&&(rV w.2.2.2.2.2.2.2.2.2.1&&(pn w.2.2.2.2.2.2.2.2.1 w.2.2.2.2.2.2.2.2.2.1&&rH w))
theorem wh (w:ar) (g:aJ) (n:Nat):eG w g (n+1)=(if eG w g n=true then true else rF w g n):=by
 unfold eG
 rw[Au]
 cases M4 w g<;>cases bf 0 n (fun j=> !rF w g j)<;>cases rF w g n<;>rfl
section
variable {k:Nat} (hk:9223372036854775808≤k)
include hk
theorem O1 {c:cg} (h:ag bC c≤1048576):c.2.2.2.2.2.length≤1048576:=by
 rw[jh hk]at h
 have:=aA (e:= .str) (l:=c.2.2.2.2.2)
 omega
theorem BW {w:ar} (hs:ag aE w≤1048576) (ht:w.2.2.2.2.2.2.2.2.2.2.2.2.1.length=5):fW k (w,())=some (dO w,()):=by
 obtain⟨w1,w2,_,_,w5,w6,_,w8,w9⟩:=dN hk hs
 have hb:=O1 hk w1
 have hn:=aA (e:=aj) (l:=w.2.2.2.2.2.2.2.1)
 simp only[fW,aP,DU hk w5 hb,JF hk w6,Option.bind_some]
 unfold dO
 cases ny w.2.2.2.2.2.2.2.1 w.1.2.2.2.2.2 with
 |false=>rfl
 |true=>
  cases rV w.2.2.2.2.2.2.2.2.2.1 with
  |false=>rfl
  |true=>
   simp only[Bool.not_true,Bool.false_eq_true,if_false,beq_self_eq_true,if_true,Option.bind_some]
   refine(cA (fun i:Nat=>(w,(i:Int),())) (fun i=>decide ((w.2.2.2.2.2.2.2.2.2.1.getD i aC.aa).2<w.2.2.2.2.2.2.2.2.1)&&bf 0 i (fun j=> !decide ((w.2.2.2.2.2.2.2.2.2.1.getD j aC.aa).2=(w.2.2.2.2.2.2.2.2.2.1.getD i aC.aa).2))) w.2.2.2.2.2.2.2.2.2.1.length
    (e:=some (rH w,())) (no:=some (false,())) ?_ ?_ k 0 (by omega) (by omega)).trans ?_
   ·intro G i hi
    simp only[aw,aK hi,hi,decide_true,if_true,Int.toNat_natCast,jP]
    rcases Bool.eq_false_or_eq_true (decide ((w.2.2.2.2.2.2.2.2.2.1.getD i aC.aa).2<w.2.2.2.2.2.2.2.2.1))with h|h<;>simp only[h,Bool.not_true,Bool.not_false,Bool.false_eq_true,if_false,if_true,Bool.true_and,Bool.false_and]
    refine(cA (fun j:Nat=>(w,(i:Int),(j:Int),())) (fun j=> !decide ((w.2.2.2.2.2.2.2.2.2.1.getD j aC.aa).2=(w.2.2.2.2.2.2.2.2.2.1.getD i aC.aa).2)) i
     (e:=G (w,((i+1:Nat):Int),())) (no:=some (false,())) ?_ ?_ k 0 (by omega) (by omega)).trans ?_
    ·intro G2 j hj
     have hj2:j<w.2.2.2.2.2.2.2.2.2.1.length:=by omega
     simp only[aw,aK hj2,aK hi,hj,decide_true,if_true,Int.toNat_natCast,bY]
     rw[aZ (by omega)]
     rcases Bool.eq_false_or_eq_true (decide ((w.2.2.2.2.2.2.2.2.2.1.getD j aC.aa).2=(w.2.2.2.2.2.2.2.2.2.1.getD i aC.aa).2))with h2|h2<;>simp only[h2,Bool.not_true,Bool.not_false,Bool.false_eq_true,if_false,if_true]
    ·intro G2
     simp only[aw,Nat.lt_irrefl,decide_false,Bool.false_eq_true,if_false]
     rw[aZ (by omega)]
    ·rfl
   ·intro G
    simp only[aw,Nat.lt_irrefl,decide_false,Bool.false_eq_true,if_false]
    refine(cA (fun i:Nat=>(w,(i:Int),())) (fun i=>(decide ((w.2.2.2.2.2.2.2.1.getD i aj.aa).2.2.1≤w.2.2.1)&&
     (decide ((w.2.2.2.2.2.2.2.1.getD i aj.aa).2.2.2.1≤w.2.2.1)&&decide ((w.2.2.2.2.2.2.2.1.getD i aj.aa).1<w.2.2.2.2.2.2.2.2.1)))&&eG w (w.2.2.2.2.2.2.2.1.getD i aj.aa) w.2.2.2.2.2.2.2.2.2.1.length) w.2.2.2.2.2.2.2.1.length
     (e:=some (true,())) (no:=some (false,())) ?_ ?_ k 0 (by omega) (by omega)).trans ?_
    ·intro G2 i hi
     have h5:decide ((0:Int)≤4∧(4:Int)<(w.2.2.2.2.2.2.2.2.2.2.2.2.1.length:Int))=true:=by rw[ht];rfl
     simp only[aw,aK hi,hi,h5,decide_true,if_true,Int.toNat_natCast,Bool.or_true,bY]
     generalize w.2.2.2.2.2.2.2.1.getD i aj.aa=g
     refine cB (fun j:Nat=>(w,(i:Int),g,eG w g j,(j:Int),())) w.2.2.2.2.2.2.2.2.2.1.length (fun G3 j hj=> ?_) (fun G3=> ?_) k 0 (by omega) (by omega)
     ·simp only[aw,aK hj,hj,decide_true,if_true,Int.toNat_natCast,Bool.or_true,Ov hk]
      rw[aZ (by omega),wh]
      unfold rF
      cases eG w g j<;>by_cases h2:(w.2.2.2.2.2.2.2.2.2.1.getD j aC.aa).2=g.1<;>simp only[h2,Bool.not_true,Bool.not_false,Bool.false_eq_true,if_false,if_true,decide_true,decide_false,Bool.true_and,Bool.false_and,Bool.and_true,Bool.and_false,beq_self_eq_true,Option.bind_some,beq_iff_eq]<;>rfl
     ·simp only[aw,Nat.lt_irrefl,decide_false,Bool.false_eq_true,if_false]
      rw[aZ (by omega),jP]
      have q1:∀a b:Int,decide (a>b)= !decide (a≤b):=fun a b=>by by_cases h:a≤b<;>simp[h]<;>omega
      rw[q1,q1]
      cases eG w g w.2.2.2.2.2.2.2.2.2.1.length<;>cases decide (g.2.2.1≤w.2.2.1)<;>cases decide (g.2.2.2.1≤w.2.2.1)<;>cases decide (g.1<w.2.2.2.2.2.2.2.2.1)<;>rfl
    ·intro G2
     simp only[aw,Nat.lt_irrefl,decide_false,Bool.false_eq_true,if_false]
    ·show(if rH w=true then _ else _)=_
     cases rH w<;>simp
   ·show(if pn w.2.2.2.2.2.2.2.2.1 w.2.2.2.2.2.2.2.2.2.1=true then _ else _)=_
    cases pn w.2.2.2.2.2.2.2.2.1 w.2.2.2.2.2.2.2.2.2.1<;>simp
omit hk in
theorem TN {α:Type} (d:α) {l:List α} {i j:Nat} (h:j<i):(l.take i).getD j d=l.getD j d:=by
 simp only[List.getD_eq_getElem?_getD,List.getElem?_take,h,if_true]
theorem ze {w:ar} (hs:ag aE w≤1048576) (ht:w.2.2.2.2.2.2.2.2.2.2.2.2.1.length=5):gM k (w,())=some (dO w,()):=by
 obtain⟨w1,w2,_,_,w5,w6,_,w8,w9⟩:=dN hk hs
 have hb:=O1 hk w1
 have hn:=aA (e:=aj) (l:=w.2.2.2.2.2.2.2.1)
 simp only[gM,aP,CX hk w5 hb,H8 hk w6,Option.bind_some]
 unfold dO
 cases ny w.2.2.2.2.2.2.2.1 w.1.2.2.2.2.2 with
 |false=>rfl
 |true=>
  cases rV w.2.2.2.2.2.2.2.2.2.1 with
  |false=>rfl
  |true=>
   simp only[Bool.not_true,Bool.false_eq_true,if_false,beq_self_eq_true,if_true,Option.bind_some]
   refine(cA (fun i:Nat=>(w,w.2.2.2.2.2.2.2.1,(w.2.2.2.2.2.2.2.1.length:Int),(i:Int),())) (fun i=>(decide ((w.2.2.2.2.2.2.2.1.getD i aj.aa).2.2.1≤w.2.2.1)&&
    (decide ((w.2.2.2.2.2.2.2.1.getD i aj.aa).2.2.2.1≤w.2.2.1)&&decide ((w.2.2.2.2.2.2.2.1.getD i aj.aa).1<w.2.2.2.2.2.2.2.2.1)))&&eG w (w.2.2.2.2.2.2.2.1.getD i aj.aa) w.2.2.2.2.2.2.2.2.2.1.length) w.2.2.2.2.2.2.2.1.length
    (e:=some (pn w.2.2.2.2.2.2.2.2.1 w.2.2.2.2.2.2.2.2.2.1,())) (no:=some (false,())) ?_ ?_ k 0 (by omega) (by omega)).trans ?_
   ·intro G2 i hi
    have h5:decide ((0:Int)≤4∧(4:Int)<(w.2.2.2.2.2.2.2.2.2.2.2.2.1.length:Int))=true:=by rw[ht];rfl
    dsimp only
    rw[aw,decide_eq_true hi,if_pos rfl,if_pos (aK hi),Int.toNat_natCast]
    generalize w.2.2.2.2.2.2.2.1.getD i aj.aa=g
    simp only[h5,decide_true,if_true,Bool.or_true,bY]
    have q1:∀a b:Int,decide (a>b)= !decide (a≤b):=fun a b=>by by_cases h:a≤b<;>simp[h]<;>omega
    rw[show decide (g.1≥w.2.2.2.2.2.2.2.2.1)= !decide (g.1<w.2.2.2.2.2.2.2.2.1)from jP _ _,q1,q1]
    generalize decide (g.2.2.1≤w.2.2.1)=b1
    generalize decide (g.2.2.2.1≤w.2.2.1)=b2
    generalize decide (g.1<w.2.2.2.2.2.2.2.2.1)=b3
    by_cases hq:b1=true∧b2=true∧b3=true
    rotate_left
    ·cases b1<;>cases b2<;>cases b3<;>first|rfl|(exact absurd hq (by simp))
    obtain⟨e1,e2,e3⟩:=hq
    subst e1 e2 e3
    rw[Bool.true_and,Bool.true_and,Bool.true_and]
    refine(sn rfl).trans ?_
    refine cB (fun j:Nat=>(w,g,eG w g j,w.2.2.2.2.2.2.2.1,(w.2.2.2.2.2.2.2.1.length:Int),(i:Int),w.2.2.2.2.2.2.2.2.2.1,(w.2.2.2.2.2.2.2.2.2.1.length:Int),(j:Int),())) w.2.2.2.2.2.2.2.2.2.1.length (fun G3 j hj=> ?_) (fun G3=> ?_) k 0 (by omega) (by omega)
    ·simp only[aw,aK hj,hj,decide_true,if_true,Int.toNat_natCast,Bool.or_true,OQ hk]
     rw[aZ (by omega),wh]
     unfold rF
     cases eG w g j<;>by_cases h2:(w.2.2.2.2.2.2.2.2.2.1.getD j aC.aa).2=g.1<;>simp only[h2,Bool.not_true,Bool.not_false,Bool.false_eq_true,if_false,if_true,decide_true,decide_false,Bool.true_and,Bool.false_and,Bool.and_true,Bool.and_false,beq_self_eq_true,Option.bind_some,beq_iff_eq]<;>rfl
    ·simp only[aw,Nat.lt_irrefl,decide_false,Bool.false_eq_true,if_false]
     rw[aZ (by omega)]
     cases eG w g w.2.2.2.2.2.2.2.2.2.1.length<;>rfl
   ·intro G
    simp only[aw,Nat.lt_irrefl,decide_false,Bool.false_eq_true,if_false]
    refine(cA (fun i:Nat=>(w,w.2.2.2.2.2.2.2.2.2.1,(w.2.2.2.2.2.2.2.2.2.1.length:Int),(i:Int),())) (fun i=>decide ((w.2.2.2.2.2.2.2.2.2.1.getD i aC.aa).2<w.2.2.2.2.2.2.2.2.1)&&bf 0 i (fun j=> !decide ((w.2.2.2.2.2.2.2.2.2.1.getD j aC.aa).2=(w.2.2.2.2.2.2.2.2.2.1.getD i aC.aa).2))) w.2.2.2.2.2.2.2.2.2.1.length
     (e:=some (true,())) (no:=some (false,())) ?_ ?_ k 0 (by omega) (by omega)).trans ?_
    ·intro G i hi
     have hl:(w.2.2.2.2.2.2.2.2.2.1.take i).length=i:=by rw[List.length_take];omega
     simp only[aw,aK hi,hi,decide_true,if_true,Int.toNat_natCast,jP,hl]
     rcases Bool.eq_false_or_eq_true (decide ((w.2.2.2.2.2.2.2.2.2.1.getD i aC.aa).2<w.2.2.2.2.2.2.2.2.1))with h|h<;>simp only[h,Bool.not_true,Bool.not_false,Bool.false_eq_true,if_false,if_true,Bool.true_and,Bool.false_and]
     rw[if_pos (by simp only[decide_eq_true_eq];omega)]
     refine(cA (fun j:Nat=>(w,w.2.2.2.2.2.2.2.2.2.1.getD i aC.aa,w.2.2.2.2.2.2.2.2.2.1,(w.2.2.2.2.2.2.2.2.2.1.length:Int),(i:Int),w.2.2.2.2.2.2.2.2.2.1.take i,(i:Int),(j:Int),())) (fun j=> !decide ((w.2.2.2.2.2.2.2.2.2.1.getD j aC.aa).2=(w.2.2.2.2.2.2.2.2.2.1.getD i aC.aa).2)) i
      (e:=G (w,w.2.2.2.2.2.2.2.2.2.1,(w.2.2.2.2.2.2.2.2.2.1.length:Int),((i+1:Nat):Int),())) (no:=some (false,())) ?_ ?_ k 0 (by omega) (by omega)).trans ?_
     ·intro G2 j hj
      simp only[aw,hl,aK hj,hj,decide_true,if_true,Int.toNat_natCast,bY,TN aC.aa hj]
      rw[aZ (by omega)]
      rcases Bool.eq_false_or_eq_true (decide ((w.2.2.2.2.2.2.2.2.2.1.getD j aC.aa).2=(w.2.2.2.2.2.2.2.2.2.1.getD i aC.aa).2))with h2|h2<;>simp only[h2,Bool.not_true,Bool.not_false,Bool.false_eq_true,if_false,if_true]
     ·intro G2
      simp only[aw,Nat.lt_irrefl,decide_false,Bool.false_eq_true,if_false]
      rw[aZ (by omega)]
     ·rfl
    ·intro G2
     simp only[aw,Nat.lt_irrefl,decide_false,Bool.false_eq_true,if_false]
    ·show(if pn w.2.2.2.2.2.2.2.2.1 w.2.2.2.2.2.2.2.2.2.1=true then _ else _)=_
     cases pn w.2.2.2.2.2.2.2.2.1 w.2.2.2.2.2.2.2.2.2.1<;>simp
   ·show(if rH w=true then _ else _)=_
    cases rH w<;>simp
end
end Vg.Tryz
namespace Vg.Tryz
open Go Vg
set_option linter.unusedVariables false
set_option linter.unusedSectionVars false
set_option linter.unusedSimpArgs false
def qy (k:Nat) (w:ar) (d:bg):Bool:=
 sZ k d&&(decide (d.2.2.2.2.2.2.2.2.2.1<w.2.1)&&(decide (d.2.2.2.2.2.2.2.2.2.2.1<w.2.1)&&decide (d.2.2.2.2.2.2.2.2.2.2.2<w.2.1)))
def jU (k:Nat) (w:ar):Bool:=bf 0 w.2.2.2.2.2.2.2.2.2.2.2.2.2.length (fun i=>qy k w (w.2.2.2.2.2.2.2.2.2.2.2.2.2.getD i aq.aa))
def nj (w:ar) (t:aL):bg:=w.2.2.2.2.2.2.2.2.2.2.2.2.2.getD t.2.2.2.2.2.2.2.2.toNat aq.aa
def fm (k:Nat) (w:ar):Bool:=bf 0 w.2.2.2.2.2.2.2.2.2.2.2.2.1.length (fun i=>gH k w (w.2.2.2.2.2.2.2.2.2.2.2.2.1.getD i ah.aa) (nj w (w.2.2.2.2.2.2.2.2.2.2.2.2.1.getD i ah.aa)) i)
def eU (k:Nat) (w:ar):Bool:=
 iN k w.2.2.2.1&&(decide ((w.2.2.2.1.length:Int)=w.1.1)&&(decide ((oy w.2.2.2.1:Int)≤w.1.2.1)&&bf 0 (dq (cU w.2.2.2.1)).length (fun i=>jS ((dq (cU w.2.2.2.1)).getD i ab.aa))))
def px (k:Nat) (w:ar):Bool:=
 gV w.1&&(decide (0≤w.2.1)&&(decide (0≤w.2.2.2.2.2.2.2.2.1)&&(bH w.2.2.1 0 99899&&(eU k w&&(decide ((w.2.2.2.2.1.length:Int)=w.1.2.2.1)&&(decide ((w.2.2.2.2.2.2.2.2.2.2.2.2.1.length:Int)=5)&&(ck w.2.2.2.2.2.1&&(ck w.2.2.2.2.2.2.2.2.2.2.2.1&&
 (qi w.2.2.2.2.1&&(jU k w&&(fm k w&&(gn k w&&dO w))))))))))))
section
variable {k:Nat} (hk:9223372036854775808≤k)
include hk
theorem AM {w:ar} (hs:ag aE w≤1048576) (hp:(w.2.2.2.1.length:Int)=w.1.1):ic k (w,())=some (jU k w&&fm k w,()):=by
 obtain⟨w1,w2,_,_,w5,w6,_,w8,w9⟩:=dN hk hs
 have hn:=aA (e:=aq) (l:=w.2.2.2.2.2.2.2.2.2.2.2.2.2)
 have hm:=aA (e:=ah) (l:=w.2.2.2.2.2.2.2.2.2.2.2.2.1)
 have hdeed:∀j:Nat,ag aq (w.2.2.2.2.2.2.2.2.2.2.2.2.2.getD j aq.aa)≤1048576:=fun j=>wS hk (e:=aq) rfl w9 j
 have htask:∀j:Nat,ag ah (w.2.2.2.2.2.2.2.2.2.2.2.2.1.getD j ah.aa)≤1048576:=fun j=>wS hk (e:=ah) rfl w8 j
 simp only[ic,aP]
 refine(cA (fun i:Nat=>(w,w.2.2.2.2.2.2.2.2.2.2.2.2.2,(w.2.2.2.2.2.2.2.2.2.2.2.2.2.length:Int),(i:Int),())) (fun i=>qy k w (w.2.2.2.2.2.2.2.2.2.2.2.2.2.getD i aq.aa)) w.2.2.2.2.2.2.2.2.2.2.2.2.2.length
  (e:=some (fm k w,())) (no:=some (false,())) ?_ ?_ k 0 (by omega) (by omega)).trans ?_
 ·intro G i hi
  dsimp only
  rw[aw,decide_eq_true hi,if_pos rfl,if_pos (aK hi),Int.toNat_natCast,I2 hk,Option.bind_some,aZ (by omega)]
  generalize w.2.2.2.2.2.2.2.2.2.2.2.2.2.getD i aq.aa=d
  rw[jP,jP,jP]
  unfold qy
  cases sZ k d<;>cases decide (d.2.2.2.2.2.2.2.2.2.1<w.2.1)<;>cases decide (d.2.2.2.2.2.2.2.2.2.2.1<w.2.1)<;>cases decide (d.2.2.2.2.2.2.2.2.2.2.2<w.2.1)<;>rfl
 ·intro G
  simp only[aw,Nat.lt_irrefl,decide_false,Bool.false_eq_true,if_false]
  refine(cA (fun i:Nat=>(w,w.2.2.2.2.2.2.2.2.2.2.2.2.1,(w.2.2.2.2.2.2.2.2.2.2.2.2.1.length:Int),(i:Int),())) (fun i=>gH k w (w.2.2.2.2.2.2.2.2.2.2.2.2.1.getD i ah.aa) (nj w (w.2.2.2.2.2.2.2.2.2.2.2.2.1.getD i ah.aa)) i) w.2.2.2.2.2.2.2.2.2.2.2.2.1.length
   (e:=some (true,())) (no:=some (false,())) ?_ ?_ k 0 (by omega) (by omega)).trans ?_
  ·intro G2 i hi
   have ht:ag ah (w.2.2.2.2.2.2.2.2.2.2.2.2.1.getD i ah.aa)≤1048576:=htask i
   dsimp only
   rw[aw,decide_eq_true hi,if_pos rfl,if_pos (aK hi),Int.toNat_natCast,aZ (by omega)]
   generalize w.2.2.2.2.2.2.2.2.2.2.2.2.1.getD i ah.aa=t at*
   have hd:ag aq (nj w t)≤1048576:=hdeed _
   unfold nj at hd⊢
   generalize w.2.2.2.2.2.2.2.2.2.2.2.2.2.getD t.2.2.2.2.2.2.2.2.toNat aq.aa=d at*
   rw[IX hk ht,Option.bind_some]
   unfold gH
   by_cases hok:gO t i=true
   rotate_left
   ·simp[hok]
   obtain⟨hH,hkind⟩:=B0 hok
   rw[D6 hk hs hp ht hd hok]
   by_cases e0:t.1=0
   ·simp[e0,hok]
   by_cases eH:t.2.2.2.2.2.2.2.2<(w.2.2.2.2.2.2.2.2.2.2.2.2.2.length:Int)
   rotate_left
   ·have:decide (t.2.2.2.2.2.2.2.2≥(w.2.2.2.2.2.2.2.2.2.2.2.2.2.length:Int))=true:=by simp only[decide_eq_true_eq];omega
    simp[e0,this,eH,hok]
   have q1:decide (t.2.2.2.2.2.2.2.2≥(w.2.2.2.2.2.2.2.2.2.2.2.2.2.length:Int))=false:=by simp only[decide_eq_false_iff_not];omega
   simp only[hok,q1,hH,and_true,true_and,if_true,Bool.not_true,Bool.false_eq_true,if_false,eH,e0,decide_true,decide_false,Bool.true_and,Bool.false_or,bY,iH]
   by_cases c1:d.2.1=i
   rotate_left
   ·simp[c1]
   by_cases c2:d.2.2.2.2.2.2.2.2.2.2.2= -1
   rotate_left
   ·simp[c1,c2]
   by_cases c3:d.2.2.2.2.2.2.2.2.2.2.1= -1<;>by_cases c4:t.1=1<;>by_cases c5:t.2.1=2<;>cases pd k w t d<;>simp[c1,c2,c3,c4,c5]
  ·intro G2
   simp only[aw,Nat.lt_irrefl,decide_false,Bool.false_eq_true,if_false]
  ·show(if fm k w=true then _ else _)=_
   cases fm k w<;>simp
 ·show(if jU k w=true then _ else _)=_
  cases jU k w<;>simp
theorem KF {l:List aG} (hs:ag (.sl ak) l≤1048576) {i:Nat} (hi:i<(dq (cU l)).length):ag ab ((dq (cU l)).getD i ab.aa)≤1048576:=by
 have h1:=fh hk l
 have h2:=Rf (cU l)
 have h3:=rT (e:=ab) (d:=ab.aa) hi
 omega
omit hk in
theorem Gk (l:List aG):(dq (cU l)).length=oy l:=by
 have:=Kq cO (cU l)
 unfold dq eL oy
 rw[List.length_reverse]
 exact this
theorem CO {w:ar} (hs:ag aE w≤1048576):km k (w,())=some (eU k w,()):=by
 obtain⟨w1,w2,_,_,w5,w6,_,w8,w9⟩:=dN hk hs
 have hc:=Kx hk w2
 have hsl:=Gk w.2.2.2.1
 simp only[km,aP,Fl hk w2,BT hk w2,Option.bind_some,iH]
 unfold eU
 cases iN k w.2.2.2.1 with
 |false=>rfl
 |true=>
  rcases Bool.eq_false_or_eq_true (decide ((w.2.2.2.1.length:Int)=w.1.1))with hq|hq
  rotate_left
  ·rw[hq];rfl
  ·rw[hq]
   simp only[Bool.not_true,Bool.false_eq_true,if_false,Bool.true_and]
   refine(cA (fun i:Nat=>(w,dq (cU w.2.2.2.1),(i:Int),())) (fun i=>jS ((dq (cU w.2.2.2.1)).getD i ab.aa)) (dq (cU w.2.2.2.1)).length
    (e:=some (decide ((oy w.2.2.2.1:Int)≤w.1.2.1),())) (no:=some (false,())) ?_ ?_ k 0 (by omega) (by omega)).trans ?_
   ·intro G i hi
    have h1:=KF hk w2 hi
    dsimp only
    rw[aw,decide_eq_true hi,if_pos rfl,if_pos (aK hi),Int.toNat_natCast,Ap hk h1,Option.bind_some,aZ (by omega)]
    cases jS ((dq (cU w.2.2.2.1)).getD i ab.aa)<;>rfl
   ·intro G
    simp only[aw,Nat.lt_irrefl,decide_false,Bool.false_eq_true,if_false,hsl]
   ·cases bf 0 (dq (cU w.2.2.2.1)).length (fun i=>jS ((dq (cU w.2.2.2.1)).getD i ab.aa))<;>simp
theorem AL {w:ar} (hs:ag aE w≤1048576) (h8:w.1.2.1≤8):ib k (w,())=some (eU k w,()):=by
 obtain⟨w1,w2,_,_,w5,w6,_,w8,w9⟩:=dN hk hs
 have hc:=Kx hk w2
 have hsl:=Gk w.2.2.2.1
 simp only[ib,aP,Gw hk w2,Gx hk w2,Option.bind_some,iH]
 unfold eU
 cases iN k w.2.2.2.1 with
 |false=>rfl
 |true=>
  rcases Bool.eq_false_or_eq_true (decide ((w.2.2.2.1.length:Int)=w.1.1))with hq|hq
  rotate_left
  ·rw[hq];rfl
  ·rw[hq]
   simp only[Bool.not_true,Bool.false_eq_true,if_false,Bool.true_and,beq_self_eq_true,if_true,Option.bind_some]
   by_cases hcap:(oy w.2.2.2.1:Int)≤w.1.2.1
   rotate_left
   ·rw[if_pos (by simp only[decide_eq_true_eq];omega),decide_eq_false hcap];rfl
   rw[if_neg (by simp only[decide_eq_true_eq];omega),decide_eq_true hcap,A6 hk w2 (by omega),Option.bind_some]
   refine(cA (fun i:Nat=>(w,dq (cU w.2.2.2.1),((dq (cU w.2.2.2.1)).length:Int),(i:Int),())) (fun i=>jS ((dq (cU w.2.2.2.1)).getD i ab.aa)) (dq (cU w.2.2.2.1)).length
    (e:=some (true,())) (no:=some (false,())) ?_ ?_ k 0 (by omega) (by omega)).trans ?_
   ·intro G i hi
    have h1:=KF hk w2 hi
    dsimp only
    rw[aw,decide_eq_true hi,if_pos rfl,if_pos (aK hi),Int.toNat_natCast,AJ hk h1,Option.bind_some,aZ (by omega)]
    cases jS ((dq (cU w.2.2.2.1)).getD i ab.aa)<;>rfl
   ·intro G
    simp only[aw,Nat.lt_irrefl,decide_false,Bool.false_eq_true,if_false]
   ·cases bf 0 (dq (cU w.2.2.2.1)).length (fun i=>jS ((dq (cU w.2.2.2.1)).getD i ab.aa))<;>simp
omit hk in
theorem MG {l:List aG} (h:iN k l=true):(1≤l.length∧l.length≤3)∧∀i,i<l.length→bH (l.getD i ak.aa).1 (-1) 4=true:=by
 unfold iN at h
 simp only[Bool.and_eq_true,eh]at h
 obtain⟨h1,h2⟩:=h
 refine⟨?_,fun i hi=> ?_⟩
 ·unfold bH at h2
  simp only[Bool.and_eq_true,decide_eq_true_eq]at h2
  omega
 ·have:=h1 i (by omega) hi
  unfold jz at this
  simp only[Bool.and_eq_true]at this
  exact this.2.1
omit hk in
theorem Tv {w:ar} (hp:(w.2.2.2.1.length:Int)=w.1.1) (h1:1≤w.2.2.2.1.length) (ho:fm k w=true) {j:Nat} (hj:j<w.2.2.2.2.2.2.2.2.2.2.2.2.1.length):bB k w j<w.2.2.2.1.length:=by
 unfold fm at ho
 have h:=eh.1 ho j (by omega) hj
 unfold bB nK
 generalize w.2.2.2.2.2.2.2.2.2.2.2.2.1.getD j ah.aa=t at*
 have hp1:=fun f:Int=>F0 (f:=f) (n:=(w.2.2.2.1.length:Int)) (by omega)
 split
 ·omega
 split
 ·exact(hp1 _).2
 split
 ·exact(hp1 _).2
 split
 ·rename_i hc
  unfold gH pd at h
  rw[hp]
  grind
 ·omega
end
end Vg.Tryz
namespace Vg.Tryz
open Go Vg
set_option linter.unusedVariables false
set_option linter.unusedSectionVars false
set_option linter.unusedSimpArgs false
section
variable {k:Nat} (hk:9223372036854775808≤k)
include hk
theorem Gn {w:ar} (hs:ag aE w≤1048576):lQ k (w,())=some (px k w,()):=by
 obtain⟨w1,w2,w3,w4,w5,w6,w7,w8,w9⟩:=dN hk hs
 have hn:=aA (e:=aq) (l:=w.2.2.2.2.2.2.2.2.2.2.2.2.2)
 have hm:=aA (e:=ah) (l:=w.2.2.2.2.2.2.2.2.2.2.2.2.1)
 have hu:=aA (e:=aU) (l:=w.2.2.2.2.1)
 simp only[lQ,aP,H5 hk w1,fc hk,CO hk hs,pK hk w4,pK hk w7,Option.bind_some,iH,bM]
 have g0:∀a:Int,decide (a<0)= !decide (0≤a):=fun a=>by by_cases h:a<0<;>simp[h]<;>omega
 rw[g0,g0]
 unfold px
 by_cases hall:gV w.1=true∧0≤w.2.1∧0≤w.2.2.2.2.2.2.2.2.1∧bH w.2.2.1 0 99899=true∧eU k w=true∧(w.2.2.2.2.1.length:Int)=w.1.2.2.1∧(w.2.2.2.2.2.2.2.2.2.2.2.2.1.length:Int)=5∧ck w.2.2.2.2.2.1=true∧ck w.2.2.2.2.2.2.2.2.2.2.2.1=true
 rotate_left
 ·have hf:(gV w.1&&(decide (0≤w.2.1)&&(decide (0≤w.2.2.2.2.2.2.2.2.1)&&(bH w.2.2.1 0 99899&&(eU k w&&(decide ((w.2.2.2.2.1.length:Int)=w.1.2.2.1)&&(decide ((w.2.2.2.2.2.2.2.2.2.2.2.2.1.length:Int)=5)&&(ck w.2.2.2.2.2.1&&(ck w.2.2.2.2.2.2.2.2.2.2.2.1&&
   (qi w.2.2.2.2.1&&(jU k w&&(fm k w&&(gn k w&&dO w)))))))))))))=false:=by
   rw[Bool.eq_false_iff]
   intro h
   simp only[Bool.and_eq_true,decide_eq_true_eq]at h
   exact hall ⟨h.1,h.2.1,h.2.2.1,h.2.2.2.1,h.2.2.2.2.1,h.2.2.2.2.2.1,h.2.2.2.2.2.2.1,h.2.2.2.2.2.2.2.1,h.2.2.2.2.2.2.2.2.1⟩
  rw[hf]
  refine(if_pos ?_).trans rfl
  have hq:¬(gV w.1=true∧decide (0≤w.2.1)=true∧decide (0≤w.2.2.2.2.2.2.2.2.1)=true∧bH w.2.2.1 0 99899=true∧eU k w=true∧decide ((w.2.2.2.2.1.length:Int)=w.1.2.2.1)=true∧decide ((w.2.2.2.2.2.2.2.2.2.2.2.2.1.length:Int)=5)=true∧ck w.2.2.2.2.2.1=true∧ck w.2.2.2.2.2.2.2.2.2.2.2.1=true):=by
   simpa only[decide_eq_true_eq]using hall
  generalize gV w.1=b1 at hq⊢
  generalize decide (0≤w.2.1)=b2 at hq⊢
  generalize decide (0≤w.2.2.2.2.2.2.2.2.1)=b3 at hq⊢
  generalize bH w.2.2.1 0 99899=b4 at hq⊢
  generalize eU k w=b5 at hq⊢
  generalize decide ((w.2.2.2.2.1.length:Int)=w.1.2.2.1)=b6 at hq⊢
  generalize decide ((w.2.2.2.2.2.2.2.2.2.2.2.2.1.length:Int)=5)=b7 at hq⊢
  generalize ck w.2.2.2.2.2.1=b8 at hq⊢
  generalize ck w.2.2.2.2.2.2.2.2.2.2.2.1=b9 at hq⊢
  clear hall hf
  cases b1
  ·rfl
  cases b2
  ·rfl
  cases b3
  ·rfl
  cases b4
  ·rfl
  cases b5
  ·rfl
  cases b6
  ·rfl
  cases b7
  ·rfl
  cases b8
  ·rfl
  cases b9
  ·rfl
  exact absurd ⟨rfl,rfl,rfl,rfl,rfl,rfl,rfl,rfl,rfl⟩ hq
 obtain⟨h1,h2,h3,h4,h5,h6,h7,h8,h9⟩:=hall
 have hst:iN k w.2.2.2.1=true∧(w.2.2.2.1.length:Int)=w.1.1:=by
  unfold eU at h5
  simp only[Bool.and_eq_true,decide_eq_true_eq]at h5
  exact⟨h5.1,h5.2.1⟩
 obtain⟨⟨hl1,_⟩,hheld⟩:=MG hst.1
 rw[h1,decide_eq_true h2,decide_eq_true h3,h4,h5,decide_eq_true h6,decide_eq_true h7,h8,h9]
 simp only[Bool.true_and]
 refine(sn rfl).trans ?_
 refine(cA (fun i:Nat=>(w,(i:Int),())) (fun i=>pV (w.2.2.2.2.1.getD i aU.aa)) w.2.2.2.2.1.length
  (e:=some (jU k w&&(fm k w&&(gn k w&&dO w)),())) (no:=some (false,())) ?_ ?_ k 0 (by omega) (by omega)).trans ?_
 ·intro G i hi
  dsimp only
  rw[aw,decide_eq_true hi,if_pos rfl,if_pos (aK hi),Int.toNat_natCast,LM hk (Rr hk w3 hi),Option.bind_some,aZ (by omega)]
  cases pV (w.2.2.2.2.1.getD i aU.aa)<;>rfl
 ·intro G
  simp only[aw,Nat.lt_irrefl,decide_false,Bool.false_eq_true,if_false]
  refine(cA (fun i:Nat=>(w,(i:Int),())) (fun i=>qy k w (w.2.2.2.2.2.2.2.2.2.2.2.2.2.getD i aq.aa)) w.2.2.2.2.2.2.2.2.2.2.2.2.2.length
   (e:=some (fm k w&&(gn k w&&dO w),())) (no:=some (false,())) ?_ ?_ k 0 (by omega) (by omega)).trans ?_
  ·intro G i hi
   dsimp only
   rw[aw,decide_eq_true hi,if_pos rfl,if_pos (aK hi),Int.toNat_natCast,JT hk,Option.bind_some,aZ (by omega)]
   generalize w.2.2.2.2.2.2.2.2.2.2.2.2.2.getD i aq.aa=d
   rw[jP,jP,jP]
   unfold qy
   cases sZ k d<;>cases decide (d.2.2.2.2.2.2.2.2.2.1<w.2.1)<;>cases decide (d.2.2.2.2.2.2.2.2.2.2.1<w.2.1)<;>cases decide (d.2.2.2.2.2.2.2.2.2.2.2<w.2.1)<;>rfl
  ·intro G
   simp only[aw,Nat.lt_irrefl,decide_false,Bool.false_eq_true,if_false]
   refine(cA (fun i:Nat=>(w,(i:Int),())) (fun i=>gH k w (w.2.2.2.2.2.2.2.2.2.2.2.2.1.getD i ah.aa) (nj w (w.2.2.2.2.2.2.2.2.2.2.2.2.1.getD i ah.aa)) i) w.2.2.2.2.2.2.2.2.2.2.2.2.1.length
    (e:=gG k (w,())>>= fun r=>(if(r.1==true)=true then fW k (w,())else some (false,()))>>= fun r2=>some (if r.1=true then r2.1 else false,())) (no:=some (false,())) ?_ ?_ k 0 (by omega) (by omega)).trans ?_
   ·intro G i hi
    dsimp only
    rw[aw,decide_eq_true hi,if_pos rfl,Hk hk hs hi hst.2,Option.bind_some,aZ (by omega)]
    show(if(!gH k w (w.2.2.2.2.2.2.2.2.2.2.2.2.1.getD i ah.aa) (nj w (w.2.2.2.2.2.2.2.2.2.2.2.2.1.getD i ah.aa)) i)=true then _ else _)=_
    cases gH k w (w.2.2.2.2.2.2.2.2.2.2.2.2.1.getD i ah.aa) (nj w (w.2.2.2.2.2.2.2.2.2.2.2.2.1.getD i ah.aa)) i<;>rfl
   ·intro G
    simp only[aw,Nat.lt_irrefl,decide_false,Bool.false_eq_true,if_false]
    rfl
   ·show(if fm k w=true then _ else _)=_
    rcases Bool.eq_false_or_eq_true (fm k w)with ho|ho
    rotate_left
    ·rw[ho];rfl
    ·rw[ho,if_pos rfl,Dm hk hs hheld (by omega) (fun j hj=>Tv hst.2 hl1 ho (by omega)),BW hk hs (by omega)]
     cases gn k w<;>rfl
  ·show(if jU k w=true then _ else _)=_
   cases jU k w<;>simp
 ·show(if qi w.2.2.2.2.1=true then _ else _)=_
  cases qi w.2.2.2.2.1<;>simp
theorem EY {w:ar} (hs:ag aE w≤1048576):lR k (w,())=some (px k w,()):=by
 obtain⟨w1,w2,w3,w4,w5,w6,w7,w8,w9⟩:=dN hk hs
 simp only[lR,HQ hk w1,et hk,Option.bind_some,iH,bM]
 have g0:∀a:Int,decide (a<0)= !decide (0≤a):=fun a=>by by_cases h:a<0<;>simp[h]<;>omega
 rw[g0,g0]
 unfold px
 by_cases hall:gV w.1=true∧0≤w.2.1∧0≤w.2.2.2.2.2.2.2.2.1∧bH w.2.2.1 0 99899=true∧(w.2.2.2.2.2.2.2.2.2.2.2.2.1.length:Int)=5
 rotate_left
 ·have hf:(gV w.1&&(decide (0≤w.2.1)&&(decide (0≤w.2.2.2.2.2.2.2.2.1)&&(bH w.2.2.1 0 99899&&(eU k w&&(decide ((w.2.2.2.2.1.length:Int)=w.1.2.2.1)&&(decide ((w.2.2.2.2.2.2.2.2.2.2.2.2.1.length:Int)=5)&&(ck w.2.2.2.2.2.1&&(ck w.2.2.2.2.2.2.2.2.2.2.2.1&&
   (qi w.2.2.2.2.1&&(jU k w&&(fm k w&&(gn k w&&dO w)))))))))))))=false:=by
   rw[Bool.eq_false_iff]
   intro h
   simp only[Bool.and_eq_true,decide_eq_true_eq]at h
   exact hall ⟨h.1,h.2.1,h.2.2.1,h.2.2.2.1,h.2.2.2.2.2.2.1⟩
  rw[hf]
  refine(if_pos ?_).trans rfl
  have hq:¬(gV w.1=true∧decide (0≤w.2.1)=true∧decide (0≤w.2.2.2.2.2.2.2.2.1)=true∧bH w.2.2.1 0 99899=true∧decide ((w.2.2.2.2.2.2.2.2.2.2.2.2.1.length:Int)=5)=true):=by
   simpa only[decide_eq_true_eq]using hall
  generalize gV w.1=b1 at hq⊢
  generalize decide (0≤w.2.1)=b2 at hq⊢
  generalize decide (0≤w.2.2.2.2.2.2.2.2.1)=b3 at hq⊢
  generalize bH w.2.2.1 0 99899=b4 at hq⊢
  generalize decide ((w.2.2.2.2.2.2.2.2.2.2.2.2.1.length:Int)=5)=b7 at hq⊢
  clear hall hf
  cases b1
  ·rfl
  cases b2
  ·rfl
  cases b3
  ·rfl
  cases b4
  ·rfl
  cases b7
  ·rfl
  exact absurd ⟨rfl,rfl,rfl,rfl,rfl⟩ hq
 obtain⟨h1,h2,h3,h4,h7⟩:=hall
 have hcap:w.1.2.1≤8:=by
  unfold gV bH at h1
  simp only[Bool.and_eq_true,decide_eq_true_eq]at h1
  omega
 rw[h1,decide_eq_true h2,decide_eq_true h3,h4,decide_eq_true h7]
 simp only[Bool.true_and]
 refine(sn rfl).trans ?_
 rw[AL hk hs hcap,Option.bind_some]
 rcases Bool.eq_false_or_eq_true (eU k w)with h5|h5
 rotate_left
 ·rw[h5];rfl
 have hst:iN k w.2.2.2.1=true∧(w.2.2.2.1.length:Int)=w.1.1:=by
  unfold eU at h5
  simp only[Bool.and_eq_true,decide_eq_true_eq]at h5
  exact⟨h5.1,h5.2.1⟩
 rw[h5,BG hk w3,jl hk w4,jl hk w7,AM hk hs hst.2,Aj hk hs,ze hk hs (by omega)]
 generalize decide ((w.2.2.2.2.1.length:Int)=w.1.2.2.1)=c1
 generalize ck w.2.2.2.2.2.1=c2
 generalize ck w.2.2.2.2.2.2.2.2.2.2.2.1=c3
 generalize qi w.2.2.2.2.1=c4
 generalize jU k w=c5
 generalize fm k w=c6
 generalize gn k w=c7
 generalize dO w=c8
 clear h5 hst
 cases c4<;>cases c1<;>cases c2<;>cases c3<;>cases c5<;>cases c6<;>cases c7<;>first|rfl|(cases c8<;>rfl)
end
end Vg.Tryz
namespace Vg.Tryz
open Go Vg
set_option linter.unusedVariables false
set_option linter.unusedSectionVars false
set_option linter.unusedSimpArgs false
section
variable {k:Nat} (hk:9223372036854775808≤k)
include hk
theorem QD {l:List aJ} (h:ag (.sl aj) l≤1073741824):ph k (l,())=some (l,()):=
 Ar (d:=aj.aa) (S:=iA k) hk (Nat.le_trans (aA (e:=aj)) h) (fun e he=>PA hk (Nat.le_trans (bo (e:=aj) he) h))
theorem Ll {l:List aJ} (h:ag (.sl aj) l≤1073741824):mi k (l,())=some (l,()):=
 Ek (d:=aj.aa) (S:=gb k) hk (Nat.le_trans (aA (e:=aj)) h) (fun e he=>Nb hk (Nat.le_trans (bo (e:=aj) he) h))
end
end Vg.Tryz
namespace Vg.Tryz
open Go Vg
set_option linter.unusedVariables false
set_option linter.unusedSectionVars false
set_option linter.unusedSimpArgs false
section
variable {k:Nat} (hk:9223372036854775808≤k)
include hk
theorem RQ {c:bc} (h:ag ay c≤1073741824):mV k (c,())=some (c,()):=by
 have h1:=en hk c
 simp only[mV]
 rw[jt hk (by omega),Option.bind_some]
theorem MI {c:bc} (h:ag ay c≤1073741824):js k (c,())=some (c,()):=by
 have h1:=en hk c
 simp only[js]
 rw[dZ hk (by omega),Option.bind_some]
theorem QL {p:aG} (h:ag ak p≤1073741824):jD k (p,())=some (p,()):=by
 have h1:=dJ hk p
 have hl:=aA (e:=ay) (l:=p.2.2)
 simp only[jD]
 refine cB (fun i=>(p,(0,(0,([]:List bc))),(p.1,p.2.1,p.2.2.take i),(i:Int),())) p.2.2.length (fun G i hi=> ?_) (fun G=> ?_) k 0 (by omega) (by omega)
 ·have hm:=bo (e:=ay) (ch (d:=ay.aa) hi)
  simp only[aw,aK hi,hi,decide_true,if_true,Int.toNat_natCast]
  rw[RQ hk (by omega),Option.bind_some,if_pos (by simp;omega),aZ (by omega),fP ay.aa hi]
 ·simp
theorem OS {p:aG} (h:ag ak p≤1073741824):gJ k (p,())=some (p,()):=by
 have h1:=dJ hk p
 have hl:=aA (e:=ay) (l:=p.2.2)
 simp only[gJ]
 refine cB (fun i=>(p,(0,(0,([]:List bc))),(p.1,p.2.1,p.2.2.take i),p.2.2,(p.2.2.length:Int),(i:Int),())) p.2.2.length (fun G i hi=> ?_) (fun G=> ?_) k 0 (by omega) (by omega)
 ·have hm:=bo (e:=ay) (ch (d:=ay.aa) hi)
  simp only[aw,aK hi,hi,decide_true,if_true,Int.toNat_natCast]
  rw[MI hk (by omega),Option.bind_some,if_pos (by simp;omega),aZ (by omega),fP ay.aa hi]
 ·simp
theorem RV {l:List aG} (h:ag (.sl ak) l≤1073741824):qJ k (l,())=some (l,()):=
 Ar (d:=ak.aa) (S:=jD k) hk (Nat.le_trans (aA (e:=ak)) h) (fun e he=>QL hk (Nat.le_trans (bo (e:=ak) he) h))
theorem Mn {l:List aG} (h:ag (.sl ak) l≤1073741824):nw k (l,())=some (l,()):=
 Ek (d:=ak.aa) (S:=gJ k) hk (Nat.le_trans (aA (e:=ak)) h) (fun e he=>OS hk (Nat.le_trans (bo (e:=ak) he) h))
theorem Rk {s:bF} (h:ag aU s≤1073741824):jF k (s,())=some (s,()):=by
 have h1:=nJ hk s
 simp only[jF]
 rw[jt hk (by omega),Option.bind_some]
theorem PG {s:bF} (h:ag aU s≤1073741824):iR k (s,())=some (s,()):=by
 have h1:=nJ hk s
 simp only[iR]
 rw[dZ hk (by omega),Option.bind_some]
theorem Sv {l:List bF} (h:ag (.sl aU) l≤1073741824):sO k (l,())=some (l,()):=
 Ar (d:=aU.aa) (S:=jF k) hk (Nat.le_trans (aA (e:=aU)) h) (fun e he=>Rk hk (Nat.le_trans (bo (e:=aU) he) h))
theorem OM {l:List bF} (h:ag (.sl aU) l≤1073741824):nU k (l,())=some (l,()):=
 Ek (d:=aU.aa) (S:=iR k) hk (Nat.le_trans (aA (e:=aU)) h) (fun e he=>PG hk (Nat.le_trans (bo (e:=aU) he) h))
theorem L6 {l:List bl} (h:l.length≤1073741824):ia k (l,())=some (l,()):=by
 simp only[ia]
 rw[if_pos (by simp;omega)]
 simp
theorem Mx {b:bz} (h:ag aN b≤1073741824):jq k (b,())=some (b,()):=by
 have h1:=nH hk b
 have h2:=aA (e:=af) (l:=b.2.1)
 simp only[jq]
 rw[ox hk (by omega),Option.bind_some,dZ hk (by omega),Option.bind_some]
theorem Ge {t:aL} (h:ag ah t≤1073741824):iy k (t,())=some (t,()):=by
 have h1:=dD hk t
 have h2:=aA (e:=af) (l:=t.2.2.2.1)
 have h3:=aA (e:= .int .i64) (l:=t.2.2.2.2.2.1)
 simp only[iy]
 rw[nG hk (by omega),Option.bind_some,if_pos (by simp;omega),if_pos (by simp;omega),jt hk (by omega),Option.bind_some]
 simp
theorem Ot {t:aL} (h:ag ah t≤1073741824):kv k (t,())=some (t,()):=by
 have h1:=dD hk t
 have h2:=aA (e:=af) (l:=t.2.2.2.1)
 have h3:=aA (e:= .int .i64) (l:=t.2.2.2.2.2.1)
 simp only[kv]
 rw[oh hk (by omega),Option.bind_some,ox hk (by omega),Option.bind_some,if_pos (by simp;omega),dZ hk (by omega),Option.bind_some]
 simp
theorem Qx {d:bg} (h:ag aq d≤1073741824):ix k (d,())=some (d,()):=by
 have h1:=kK hk d
 have h2:=aA (e:=af) (l:=d.2.2.2.1)
 simp only[ix]
 rw[nG hk (by omega),Option.bind_some,if_pos (by simp;omega),jt hk (by omega),Option.bind_some]
 simp
theorem Om {d:bg} (h:ag aq d≤1073741824):kt k (d,())=some (d,()):=by
 have h1:=kK hk d
 have h2:=aA (e:=af) (l:=d.2.2.2.1)
 simp only[kt]
 rw[oh hk (by omega),Option.bind_some,ox hk (by omega),Option.bind_some,dZ hk (by omega),Option.bind_some]
theorem RP {l:List bg} (h:ag (.sl aq) l≤1073741824):qD k (l,())=some (l,()):=
 Ar (d:=aq.aa) (S:=ix k) hk (Nat.le_trans (aA (e:=aq)) h) (fun e he=>Qx hk (Nat.le_trans (bo (e:=aq) he) h))
theorem NZ {b:bz} (h:ag aN b≤1073741824):gy k (b,())=some (b,()):=by
 have h1:=nH hk b
 exact Oy hk (by omega) (by omega)
theorem PJ {w:ar} (hs:ag aE w≤1073741824):lW k (w,())=some (w,()):=by
 have ht:=gP hk w
 obtain⟨c,tm,now,st,sb,fd,gh,gr,nn,hp,sk,sd,tk,dd⟩:=w
 simp only at ht
 have h1:=aA (e:=aC) (l:=hp)
 have h2:=aA (e:=aN) (l:=sk)
 have h3:=aA (e:=ah) (l:=tk)
 simp only[lW,aP]
 rw[Qh hk (by omega),Option.bind_some,RV hk (by omega),Option.bind_some,Sv hk (by omega),Option.bind_some,jt hk (by omega),Option.bind_some,QD hk (by omega),Option.bind_some,if_pos (by simp;omega)]
 simp only[List.nil_append]
 refine cB (fun i=>((c,tm,now,st,sb,fd,gh,gr,nn,hp,sk,sd,tk,dd),_,(c,tm,now,st,sb,fd,gh,gr,nn,hp,sk.take i,sd,tk,dd),c,(i:Int),())) sk.length (fun G i hi=> ?_) (fun G=> ?_) k 0 (by omega) (by omega)
 ·have hm:=bo (e:=aN) (ch (d:=aN.aa) hi)
  simp only[aw,aK hi,hi,decide_true,if_true,Int.toNat_natCast]
  rw[NZ hk (by omega),Option.bind_some,if_pos (by simp;omega),aZ (by omega),fP aN.aa hi]
 ·simp only[aw,Nat.lt_irrefl,decide_false,Bool.false_eq_true,if_false,List.take_length]
  rw[jt hk (by omega),Option.bind_some]
  refine cB (fun i=>((c,tm,now,st,sb,fd,gh,gr,nn,hp,sk,sd,tk,dd),_,(c,tm,now,st,sb,fd,gh,gr,nn,hp,sk,sd,tk.take i,dd),c,(i:Int),())) tk.length (fun G i hi=> ?_) (fun G=> ?_) k 0 (by omega) (by omega)
  ·have hm:=bo (e:=ah) (ch (d:=ah.aa) hi)
   simp only[aw,aK hi,hi,decide_true,if_true,Int.toNat_natCast]
   rw[Ge hk (by omega),Option.bind_some,if_pos (by simp;omega),aZ (by omega),fP ah.aa hi]
  ·simp only[aw,Nat.lt_irrefl,decide_false,Bool.false_eq_true,if_false,List.take_length]
   rw[RP hk (by omega),Option.bind_some]
theorem MS {w:ar} (hs:ag aE w≤1073741824):eV k (w,())=some (w,()):=by
 have ht:=gP hk w
 obtain⟨c,tm,now,st,sb,fd,gh,gr,nn,hp,sk,sd,tk,dd⟩:=w
 simp only at ht
 have h1:=aA (e:=aC) (l:=hp)
 have h2:=aA (e:=aN) (l:=sk)
 have h3:=aA (e:=ah) (l:=tk)
 have h4:=aA (e:=aq) (l:=dd)
 simp only[eV,aP]
 rw[Od hk (by omega),Option.bind_some,Mn hk (by omega),Option.bind_some,OM hk (by omega),Option.bind_some,dZ hk (by omega),Option.bind_some,dZ hk (by omega),Option.bind_some,
  Ll hk (by omega),Option.bind_some,L6 hk (by omega),Option.bind_some]
 refine cB (fun i=>((c,tm,now,st,sb,fd,gh,gr,nn,hp,sk,sd,tk,dd),_,sk.take i,sk,(sk.length:Int),(i:Int),())) sk.length (fun G i hi=> ?_) (fun G=> ?_) k 0 (by omega) (by omega)
 ·have hm:=bo (e:=aN) (ch (d:=aN.aa) hi)
  simp only[aw,aK hi,hi,decide_true,if_true,Int.toNat_natCast]
  rw[Mx hk (by omega),Option.bind_some,if_pos (by simp;omega),aZ (by omega),fP aN.aa hi]
 ·simp only[aw,Nat.lt_irrefl,decide_false,Bool.false_eq_true,if_false,List.take_length]
  refine cB (fun i=>((c,tm,now,st,sb,fd,gh,gr,nn,hp,sk,sd,tk,dd),_,sk,tk.take i,tk,(tk.length:Int),(i:Int),())) tk.length (fun G i hi=> ?_) (fun G=> ?_) k 0 (by omega) (by omega)
  ·have hm:=bo (e:=ah) (ch (d:=ah.aa) hi)
   simp only[aw,aK hi,hi,decide_true,if_true,Int.toNat_natCast]
   rw[Ot hk (by omega),Option.bind_some,if_pos (by simp;omega),aZ (by omega),fP ah.aa hi]
  ·simp only[aw,Nat.lt_irrefl,decide_false,Bool.false_eq_true,if_false,List.take_length]
   refine cB (fun i=>((c,tm,now,st,sb,fd,gh,gr,nn,hp,sk,sd,tk,dd),_,sk,tk,dd.take i,dd,(dd.length:Int),(i:Int),())) dd.length (fun G i hi=> ?_) (fun G=> ?_) k 0 (by omega) (by omega)
   ·have hm:=bo (e:=aq) (ch (d:=aq.aa) hi)
    simp only[aw,aK hi,hi,decide_true,if_true,Int.toNat_natCast]
    rw[Om hk (by omega),Option.bind_some,if_pos (by simp;omega),aZ (by omega),fP aq.aa hi]
   ·simp only[aw,Nat.lt_irrefl,decide_false,Bool.false_eq_true,if_false,List.take_length]
end
end Vg.Tryz
namespace Vg.Tryz
open Go Vg
set_option linter.unusedVariables false
set_option linter.unusedSectionVars false
set_option linter.unusedSimpArgs false
section
variable {k:Nat} (hk:9223372036854775808≤k)
include hk
end
end Vg.Tryz
namespace Vg.Tryz
open Go Vg
set_option linter.unusedVariables false
set_option linter.unusedSectionVars false
set_option linter.unusedSimpArgs false
abbrev iU (w:ar):List aL:=w.2.2.2.2.2.2.2.2.2.2.2.2.1
abbrev gK (w:ar):List bg:=w.2.2.2.2.2.2.2.2.2.2.2.2.2
def Hj (w:ar) (t:List aL) (d:List bg):ar:=
 (w.1,IntKind.i64.wrap (w.2.1+1),w.2.2.1,w.2.2.2.1,w.2.2.2.2.1,w.2.2.2.2.2.1,w.2.2.2.2.2.2.1,w.2.2.2.2.2.2.2.1,w.2.2.2.2.2.2.2.2.1,w.2.2.2.2.2.2.2.2.2.1,w.2.2.2.2.2.2.2.2.2.2.1,w.2.2.2.2.2.2.2.2.2.2.2.1,t,d)
def SX (t:aL) (h:Int):aL:=(t.1,t.2.1,t.2.2.1,t.2.2.2.1,t.2.2.2.2.1,t.2.2.2.2.2.1,t.2.2.2.2.2.2.1,t.2.2.2.2.2.2.2.1,h)
def opened (w:ar) (i op:Int) (a:al) (l:List ai) (n:Int):bg:=(op,i,a,l,0,n,0,[],w.2.2.1,w.2.1,-1,-1)
def Nh (w:ar) (i:Int) (t:aL) (op:Int):ar:=
 Hj w ((iU w).set i.toNat (SX t (gK w).length)) (gK w++[opened w i op t.2.2.1 t.2.2.2.1 t.2.2.2.2.2.2.2.1])
def xG (w:ar) (i:Int):Bool:=bH i 0 (((iU w).length:Int)-1)&&decide (((iU w).getD i.toNat ah.aa).1=0)
def jY (w:ar) (i:Int):Bool:=bH i 0 2&&xG w i
def S5:al:=([],0,0,ByteArray.empty)
def oz:aL:=(4,0,S5,[],0,[],[],0,0)
def No (k:Nat) (w:ar) (i:Int):Bool:=px k w&&jY w i
def mw (k:Nat) (w:ar) (i:Int):ar:=if No k w i=true then Nh w i oz 6 else w
theorem KD {w:ar} {i:Int} (h:jY w i=true):0≤i∧i≤2∧i.toNat<(iU w).length:=by
 unfold jY xG bH at h
 simp only[Bool.and_eq_true,decide_eq_true_eq]at h
 omega
theorem TX:ag (.sl af) ([]:List ai)=0:=rfl
theorem SO:ag (.sl ab) ([]:List al)=0:=rfl
theorem Ut:ag (.sl (.int .i64)) ([]:List Int)=0:=rfl
section
variable {k:Nat} (hk:9223372036854775808≤k)
include hk
theorem rz {w:ar} (hs:ag aE w≤1048576):(iU w).length≤1048576∧(gK w).length≤1048576:=by
 obtain⟨w1,w2,w3,w4,w5,w6,w7,w8,w9⟩:=dN hk hs
 exact⟨Nat.le_trans (aA (e:=ah)) w8,Nat.le_trans (aA (e:=aq)) w9⟩
theorem NI {w:ar} {i:Int} (hs:ag aE w≤1048576):pZ k (w,i,())=some (xG w i,()):=by
 have hl:w.2.2.2.2.2.2.2.2.2.2.2.2.1.length≤1048576:=(rz hk hs).1
 simp only[pZ]
 rw[pY (by omega),fc hk,Option.bind_some]
 simp only[xG,iU]
 by_cases h:bH i 0 ((w.2.2.2.2.2.2.2.2.2.2.2.2.1.length:Int)-1)=true
 ·have h':=h
  unfold bH at h'
  simp only[Bool.and_eq_true,decide_eq_true_eq]at h'
  rw[h]
  refine(if_pos (by simp;omega)).trans ?_
  simp[bY]
 ·rw[Bool.not_eq_true]at h
  rw[h]
  exact(if_pos rfl).trans rfl
theorem M0 {w:ar} {i:Int} (hs:ag aE w≤1048576):pR k (w,i,())=some (xG w i,()):=by
 have hl:w.2.2.2.2.2.2.2.2.2.2.2.2.1.length≤1048576:=(rz hk hs).1
 simp only[pR]
 rw[pY (by omega),et hk,Option.bind_some]
 simp only[xG,iU]
 by_cases h:bH i 0 ((w.2.2.2.2.2.2.2.2.2.2.2.2.1.length:Int)-1)=true
 ·have h':=h
  unfold bH at h'
  simp only[Bool.and_eq_true,decide_eq_true_eq]at h'
  rw[h]
  refine(if_pos (by simp;omega)).trans ?_
  simp[bY]
 ·rw[Bool.not_eq_true]at h
  rw[h]
  exact(if_pos rfl).trans rfl
theorem Iz {w:ar} {i:Int} (hs:ag aE w≤1048576):mX k (w,i,())=some (jY w i,()):=by
 simp only[mX,et hk,M0 hk hs,Option.bind_some]
 unfold jY
 cases bH i 0 2<;>simp
theorem Lw {w:ar} {d:bg} (hs:ag aE w≤1048576):gw k (w,d,())=
 some (((gK w).length:Int),(w.1,w.2.1,w.2.2.1,w.2.2.2.1,w.2.2.2.2.1,w.2.2.2.2.2.1,w.2.2.2.2.2.2.1,w.2.2.2.2.2.2.2.1,w.2.2.2.2.2.2.2.2.1,w.2.2.2.2.2.2.2.2.2.1,w.2.2.2.2.2.2.2.2.2.2.1,w.2.2.2.2.2.2.2.2.2.2.2.1,iU w,
  gK w++[(d.1,d.2.1,d.2.2.1,d.2.2.2.1,d.2.2.2.2.1,d.2.2.2.2.2.1,d.2.2.2.2.2.2.1,d.2.2.2.2.2.2.2.1,w.2.2.1,w.2.1,-1,-1)]),()):=by
 have hl:w.2.2.2.2.2.2.2.2.2.2.2.2.2.length≤1048576:=(rz hk hs).2
 simp only[gw]
 rw[if_pos (by simp;omega)]
 have e:IntKind.i64.wrap ((((gK w++[(d.1,d.2.1,d.2.2.1,d.2.2.2.1,d.2.2.2.2.1,d.2.2.2.2.2.1,d.2.2.2.2.2.2.1,d.2.2.2.2.2.2.2.1,w.2.2.1,w.2.1,-1,-1)]).length:Nat):Int)-1)=((gK w).length:Int):=by
  rw[List.length_append,List.length_singleton,pY (by simp only[gK];omega)]
  omega
 rw[e]
theorem L7 {w:ar} {i:Int} {t:aL} {d:bg} (hs:ag aE w≤1048576):gz k (w,i,t,d,())=
 some (if jY w i=true then(true,Hj w ((iU w).set i.toNat (SX t (gK w).length)) (gK w++[(d.1,i,d.2.2.1,d.2.2.2.1,d.2.2.2.2.1,d.2.2.2.2.2.1,d.2.2.2.2.2.2.1,d.2.2.2.2.2.2.2.1,w.2.2.1,w.2.1,-1,-1)]),())else(false,w,())):=by
 simp only[gz,Iz hk hs,Option.bind_some]
 by_cases hc:jY w i=true
 ·obtain⟨h1,h2,h3⟩:=KD hc
  rw[hc,if_neg (by simp),if_pos rfl,Lw hk hs,Option.bind_some]
  refine(if_pos (by simp;omega)).trans ?_
  rfl
 ·rw[Bool.not_eq_true]at hc
  rw[hc]
  exact(if_pos rfl).trans (by simp)
theorem IC {op:Int} (h0:0≤op) (h1:op≤6):ee k (op,())=some (List.getD [0,1,3,4,6,7,8] op.toNat 0,()):=by
 simp only[ee]
 rw[if_pos (by simp;omega)]
theorem Ma {w:ar} {i:Int} {t:aL} (hs:ag aE w≤1048576) (ht:ag ah t≤1048576) (h0:0≤t.1) (h1:t.1≤6) (hi:0≤i) (hi2:i.toNat<w.2.2.2.2.2.2.2.2.2.2.2.2.1.length):
 kh k (w,i,t,())=some (Nh w i t (List.getD [0,1,3,4,6,7,8] t.1.toNat 0),()):=by
 have hl:w.2.2.2.2.2.2.2.2.2.2.2.2.2.length≤1048576:=(rz hk hs).2
 have hT:=dD hk t
 have h2:=aA (e:=af) (l:=t.2.2.2.1)
 simp only[kh,ot]
 rw[Ge hk (by omega),Option.bind_some]
 simp only[IC hk h0 h1,nG hk (a:=t.2.2.1) (by omega),Option.bind_some,List.nil_append,List.length_nil,Nat.zero_add,List.length_singleton]
 rw[if_pos (by simp;omega),if_pos (by simp;omega),if_pos (by simp;omega),Option.bind_some]
 rfl
theorem Lk {w:ar} {i:Int} (hs:ag aE w≤1048576):oo k (w,i,())=some (mw k w i,No k w i,()):=by
 simp only[oo,PJ hk (w:=w) (by omega),Gn hk hs,fc hk,NI hk hs,Option.bind_some]
 unfold mw No jY
 by_cases hw:px k w=true
 rotate_left
 ·rw[Bool.not_eq_true]at hw;simp[hw]
 by_cases hn:bH i 0 2=true
 rotate_left
 ·rw[Bool.not_eq_true]at hn;simp[hw,hn]
 by_cases hd:xG w i=true
 rotate_left
 ·rw[Bool.not_eq_true]at hd;simp[hw,hn,hd]
 obtain⟨q1,q2,q3⟩:=KD (w:=w) (i:=i) (by unfold jY;rw[hn,hd];rfl)
 have:=Ma hk (w:=w) (i:=i) (t:=oz) hs (by simp[dD hk,oz,S5,ag]) (by decide) (by decide) q1 q3
 simp only[hw,hn,hd,Bool.not_true,beq_self_eq_true,if_true,Option.bind_some,Bool.false_eq_true,if_false,Bool.and_self]
 exact(congrArg (fun o=>Option.bind o _) this).trans rfl
theorem yz {w:ar} {i:Int} (hs:ag aE w≤1048576):kT k (w,i,())=some (mw k w i,No k w i,()):=by
 simp only[kT,kB,MS hk (w:=w) (by omega),EY hk hs,L7 hk hs,Option.bind_some]
 unfold mw No
 by_cases hw:px k w=true
 rotate_left
 ·rw[Bool.not_eq_true]at hw;simp[hw]
 by_cases hc:jY w i=true
 ·simp only[hw,hc,Bool.not_true,beq_self_eq_true,if_true,Bool.false_eq_true,if_false,Bool.and_self]
  rfl
 ·rw[Bool.not_eq_true]at hc
  simp[hw,hc]
theorem P5 {w:ar} {t:List aL} {d:List bg} {m n:Nat} (h1:ag (.sl ah) t≤ag (.sl ah) (iU w)+m) (h2:ag (.sl aq) d≤ag (.sl aq) (gK w)+n):ag aE (Hj w t d)≤ag aE w+m+n:=by
 rw[gP hk,gP hk]
 simp only[Hj]
 simp only[iU,gK]at h1 h2
 omega
theorem TB {e:Ty} {l:List e.den} {x:e.den}:ag (.sl e) (l++[x])=ag (.sl e) l+(1+ag e x):=by
 rw[HA,fw,Pv];omega
theorem Qk {w:ar} {i op:Int} {t:aL}:ag aE (Nh w i t op)≤ag aE w+ag ah t+(1+(ag ab t.2.2.1+ag (.sl af) t.2.2.2.1)):=by
 refine P5 hk ?_ ?_
 ·by_cases h:i.toNat<(iU w).length
  ·have:=O0 (e:=ah) (iU w) i.toNat (SX t (gK w).length) h
   have e:ag ah (SX t (gK w).length)=ag ah t:=by rw[dD hk,dD hk];rfl
   omega
  ·rw[List.set_eq_of_length_le (by omega)];omega
 ·rw[TB hk,kK hk]
  simp only[opened,SO]
  omega
theorem Qr {w:ar} {i:Int}:ag aE (mw k w i)≤ag aE w+8:=by
 unfold mw
 split
 ·have:=Qk hk (w:=w) (i:=i) (op:=6) (t:=oz)
  have e:ag ah oz=0:=by rw[dD hk,cj hk];simp only[oz,S5,TX,SO,Ut];rfl
  have e2:ag ab oz.2.2.1=0:=by rw[cj hk];simp only[oz,S5,TX,SO,Ut];rfl
  have e3:ag (.sl af) oz.2.2.2.1=0:=rfl
  omega
 ·omega
end
end Vg.Tryz
namespace Vg.Tryz
open Go Vg
set_option linter.unusedVariables false
set_option linter.unusedSectionVars false
set_option linter.unusedSimpArgs false
section
variable {k:Nat} (hk:9223372036854775808≤k)
include hk
set_option maxHeartbeats 2000000 in
theorem RY {x:ar×Int×Unit} (h_w:Fits aE x.1):j9 k x=some (true,()):=by
 obtain⟨w,i,u⟩:=x
 simp only at h_w
 unfold j9
 refine(bind_eq (QF hk h_w (by omega) (by omega)) _).trans ?_
 by_cases q0:bI (ag aE w) 1048576<0
 ·rw[if_pos (by simpa using q0)]
 refine(bw (by simpa using q0)).trans ?_
 have hsz:=(cH q0).2
 have t1:=Qr hk (w:=w) (i:=i)
 obtain⟨n0,v0_0,v0_1,v0_2,v0_3,v0_4,v0_5,v0_6,v0_7,v0_8,v0_9,m0,p0,r0,w0⟩:=zX hk w 1 (by omega) (by unfold bu;omega)
 have z0:decide (n0<0)=false:=by simp;omega
 obtain⟨n1,v1_0,v1_1,v1_2,v1_3,v1_4,v1_5,v1_6,v1_7,v1_8,v1_9,m1,p1,r1,w1⟩:=zX hk (mw k w i) 1 (by omega) (by unfold bu;omega)
 have z1:decide (n1<0)=false:=by simp;omega
 refine(bind_eq (rA hk (x:=w) (by omega)) _).trans ?_
 refine(bind_eq (Lk hk (w:=w) (i:=i) (by omega)) _).trans ?_
 refine(bind_eq (rA hk (x:=w) (by omega)) _).trans ?_
 refine(bind_eq (yz hk (w:=w) (i:=i) (by omega)) _).trans ?_
 refine(bind_eq (rE hk (x:=mw k w i) (by omega)) _).trans ?_
 refine(bw (by simp[z0,z1])).trans ?_
 refine(bind_eq (rA hk (x:=w) (by omega)) _).trans ?_
 refine(bind_eq (rE hk (x:=w) (by omega)) _).trans ?_
 refine(bw (by simp[z0,z1])).trans ?_
 refine(bind_eq m0 _).trans ?_
 refine(bind_eq (r:=(true,())) ((if_pos (by simp[z0,z1])).trans (rE hk (x:=mw k w i) (by omega))) _).trans ?_
 refine(bw (by simp[z0,z1])).trans ?_
 refine(bind_eq m1 _).trans ?_
 refine(bind_eq w1 _).trans ?_
 refine(bw (by simp[z0,z1])).trans ?_
 refine(bw (by simp[z0,z1])).trans ?_
 refine(bind_eq (rA hk (x:=w) (by omega)) _).trans ?_
 refine(bind_eq (yz hk (w:=w) (i:=i) (by omega)) _).trans ?_
 refine(bind_eq (rE hk (x:=mw k w i) (by omega)) _).trans ?_
 refine(bw (by simp[z0,z1])).trans ?_
 refine(bind_eq w1 _).trans ?_
 refine(bw (by simp[z0,z1])).trans ?_
 refine(bw (by simp[z0,z1])).trans ?_
 rfl
end
end Vg.Tryz
