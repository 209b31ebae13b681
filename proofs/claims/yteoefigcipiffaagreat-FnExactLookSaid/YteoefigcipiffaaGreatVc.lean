/- VG, joined: an evaluator of the code over typed values, and its soundness, for any program. -/
import Derived.Test.YteoefigcipiffaaGreatVb
import Derived.WalkKit
import Derived.ProofKit
import Derived.OpenShut
import Derived.JoinedCond
import Derived.Carry
import Derived.Test.YteoefigcipiffaaGreatVa
import Derived.KernelRfl
import Derived.Lib.Join
import Derived.Below
import Derived.Shelf.GgSortMore.Stable
import Derived.Shelf.SlSortFuncK.WholeK
set_option linter.unusedSimpArgs false
set_option linter.unusedVariables false
namespace Vg
open Go
def nT (tmps:Array Value):ResultVar→Sem Value
 | .tmp t=>pure (tmps.getD t undef)
 | .cell a t=>do loadVar t (←asAddr (tmps.getD a undef))
section
variable {P:Program} {C:Cx} {w0:World} {c0:C0} {U:Nat→Prop} {E:Env} {a:Act} {w:World} {G:Gh} {ops:List Oper} {L:Nat→Prop} {Q:Exit→Act→World→Prop} {ρ:Type}
theorem JT (c:Nat):qx c∈[2,1]:=by unfold qx;split<;>simp
theorem Ec (hC:CxTy P C) (hI:Inv w0 c0 U E a w G):∀ {rs:List RK} {rv:List ResultVar} {tk:Nat} {xs:aT (rs.map RK.ty)} {rho:List (Nat×Nat)} {tk':Nat},uD C.tt E rs rv tk=some (xs,rho,tk')→3≤tk→
 tk'=cN rs tk∧(∀c k,(c,k)∈rho→(k=qx c∧Good U G c)∨(tk≤k∧k<cN rs tk∧3≤c))∧
 ∃vs:List Value,vs.length=rs.length∧(rv.mapM (nT a.tmps)).run P w= .ok vs w∧∃H:Nat→Value,∀(rest:List Ty) (y:aT rest) (G1:Gh),(∀c k,(c,k)∈rho→∀b,G.col b=c→G1.col b=k)→
  (∀u,tk≤u→u<cN rs tk→G1.hdr u=H u)→∀i,bJ w G1 ((aV rs rest (aT.app _ _ xs y) tk [2,1]).1.getD i .no) (vs.getD i undef)
 | [],[],tk,xs,rho,tk',h,h3=>by
   simp only[uD,Option.some.injEq,Prod.mk.injEq]at h
   obtain⟨_,rfl,rfl⟩:=h
   exact⟨rfl,by simp,[],rfl,by simp,fun _=>undef,fun rest y G1 _ _ i=>by simp[aV,bJ]⟩
 | .val τ p::rs,v::rv,tk,xs,rho,tk',h,h3=>by
   simp only[uD]at h
   have n1:=bj p tk
   have n2:=ju rs (aH p tk)
   split at h
   ·cases h
   ·rename_i t hv
    have hval:∃u cs,(nT a.tmps v).run P w= .ok u w∧u=bR t.τ cs∧aW w G t.τ t.x t.sh cs∧∀c∈t.sh.aD,Good U G c:=by
     cases v with
     |tmp s=>
      simp only[Env.get]at hv
      split at hv
      ·rename_i t' he
       cases hv
       have hs:=hI.slots s
       have hm:=hI.lh s
       rw[he]at hs hm
       obtain⟨cs,h1,h2⟩:=hs
       exact⟨_,cs,by simp[nT],h1,h2,hm.1⟩
      ·cases hv
     |cell s ty=>
      simp only[Env.get]at hv
      split at hv
      ·rename_i b t' i he hi
       split at hv
       ·rename_i hτ
        cases hv
        have hs:=hI.slots s
        have hm:=hI.lh s
        rw[he]at hs hm
        obtain⟨bk,cl,el,h1,h2,h4,h5,h6,h7⟩:=hs
        have hlen:=aW.len h7
        simp only[Array.length_toList]at hlen
        have hT:=(hC.tt ty i hi).1
        have hld:=oR (P:=P) hT h6 (o:=0) (by rw[hτ];omega)
        refine⟨_,cl.toList,?_,rfl,h7,hm.1⟩
        simp only[nT,h1]
        rw[hτ]at hld
        simp only[List.drop_zero]at hld
        rw[List.take_of_length_le (by simp;omega)]at hld
        simpa[asAddr]using hld
       ·cases hv
      ·cases hv
    obtain⟨u,cs,hu,hucs,hvok,hgood⟩:=hval
    split at h
    ·rename_i x xs' rho' tk1 hx hr
     split at h
     ·rename_i hf
      simp only[Option.some.injEq,Prod.mk.injEq]at h
      obtain⟨rfl,rfl,rfl⟩:=h
      have e:=cJ hx
      rw[e]at hucs hvok hgood hf⊢
      obtain⟨i1,i2,vs,i3,i4,H2,i5⟩:=Ec hC hI hr (Nat.le_trans h3 n1)
      obtain⟨H1,k1⟩:=jz (sm:=qx) (hs:=[2,1]) (tk:=tk) hf hvok h3 (fun c _=>JT c) (by simp)
      have hpn:(aO p tk []).2=aH p tk:=rfl
      refine⟨i1,fun c k hck=> ?_,u::vs,by simp[i3],by simp[hu,i4],fun z=>if z<aH p tk then H1 z else H2 z,fun rest y G1 g1 g2 i=> ?_⟩
      ·rw[nL]
       rcases List.mem_append.1 hck with hck|hck
       ·obtain⟨r1,r2⟩:=gZ hvok c k hck
        rcases r2 with r2|⟨r2,r3,r4⟩
        ·exact .inl ⟨r2,hgood c r1⟩
        ·exact .inr ⟨r3,by omega,r2⟩
       ·rcases i2 c k hck with h|⟨q1,q2,q3⟩
        ·exact .inl h
        ·exact .inr ⟨by omega,q2,q3⟩
      ·rw[nL]at g2
       cases i with
       |zero=>
        simp only[aV,List.getD_cons_zero]
        refine⟨cs,hucs,k1 G1 (fun c k hck=>g1 c k (List.mem_append_left _ hck)) (fun z hz hz2=>(g2 z hz (by omega)).trans (if_pos hz2))⟩
       |succ i=>
        simp only[aV,List.getD_cons_succ,bH]
        exact i5 rest y G1 (fun c k hck=>g1 c k (List.mem_append_right _ hck)) (fun z hz hz2=>(g2 z (by omega) hz2).trans (if_neg (by omega))) i
     ·cases h
    ·cases h
 | .nbox τ p::rs,.tmp s::rv,tk,xs,rho,tk',h,h3=>by
   simp only[uD]at h
   have n1:=bj p (tk+1)
   have n2:=ju rs (aH p (tk+1))
   split at h
   ·cases h
   ·rename_i b0 s0 t hb
    have hso:bJ w G (E.rd.get s) (a.tmps.getD s undef):=tM (hI.slots s)
    obtain⟨_,bk,c,el,b1,b2,b3,b4,b5,b6,b7,b8,b9⟩:=rW hI hb hso
    split at h
    ·rename_i x xs' rho' tk1 hx hr
     split at h
     ·rename_i hf
      simp only[Option.some.injEq,Prod.mk.injEq]at h
      obtain⟨rfl,rfl,rfl⟩:=h
      have e:=cJ hx
      rw[e]at hf b6 b7⊢
      have hpn:(aO p (tk+1) []).2=aH p (tk+1):=rfl
      obtain⟨i1,i2,vs,i3,i4,H2,i5⟩:=Ec hC hI hr (by omega)
      obtain⟨H1,k1⟩:=jz (sm:=qx) (hs:=[2,1]) (tk:=tk+1) hf b6 (by omega) (fun c _=>JT c) (by simp)
      refine⟨i1,fun c k hck=> ?_,a.tmps.getD s undef::vs,by simp[i3],by simp[nT,i4],fun z=>if z=tk then a.tmps.getD s undef else if z<aH p (tk+1)then H1 z else H2 z,fun rest y G1 g1 g2 i=> ?_⟩
      ·rw[ma]
       simp only[List.cons_append,List.mem_cons,Prod.mk.injEq,List.mem_append]at hck
       rcases hck with⟨rfl,rfl⟩|hck|hck
       ·exact .inr ⟨Nat.le_refl _,by omega,b3⟩
       ·obtain⟨r1,r2⟩:=gZ b6 c k hck
        rcases r2 with r2|⟨r2,r3,r4⟩
        ·exact .inl ⟨r2,b7 c r1⟩
        ·exact .inr ⟨by omega,by omega,r2⟩
       ·rcases i2 c k hck with h|⟨q1,q2,q3⟩
        ·exact .inl h
        ·exact .inr ⟨by omega,q2,q3⟩
      ·rw[ma]at g2
       cases i with
       |zero=>
        simp only[aV,List.getD_cons_zero]
        refine⟨bk,c,el,b1,h3,(g2 tk (Nat.le_refl _) (by omega)).trans (if_pos rfl),g1 b0 tk (by simp) bk b4,b5,k1 G1 (fun c k hck=>g1 c k (by simp[hck])) (fun z hz hz2=> ?_)⟩
        exact((g2 z (by omega) (by omega)).trans (if_neg (by omega))).trans (if_pos hz2)
       |succ i=>
        simp only[aV,List.getD_cons_succ,bH]
        exact i5 rest y G1 (fun c k hck=>g1 c k (by simp[hck])) (fun z hz hz2=>((g2 z (by omega) hz2).trans (if_neg (by omega))).trans (if_neg (by omega))) i
     ·cases h
    ·cases h
 | [],_::_,_,_,_,_,h,_| .val _ _::_,[],_,_,_,_,h,_| .nbox _ _::_,[],_,_,_,_,h,_| .nbox _ _::_,.cell _ _::_,_,_,_,_,h,_=>by simp[uD]at h
theorem rP (hI:Inv w0 c0 U E a w G):∀ {ps:List PK} {i te tk:Nat} {ys:aT (bh ps)} {rho:List (Nat×Nat)},xh E ps i te tk=some (ys,rho)→3≤tk→3≤te→
 (∀c k,(c,k)∈rho→(k=qx c∧Good U G c)∨(tk≤k∧k<ns ps tk∧3≤c)∨(k=c∧c∈bQ ps te))∧
 ∃H:Nat→Value,∀(G1:Gh),(∀c k,(c,k)∈rho→∀b,G.col b=c→G1.col b=k)→(∀u,tk≤u→u<ns ps tk→G1.hdr u=H u)→(∀u∈bQ ps te,G1.hdr u=G.hdr u)→
  ∀t j v,(t,j,v)∈cq [2,1] ps ys (dy ps i te) tk→bJ w G1 (.box t v) (a.tmps.getD j undef)∧j∈fh ps i
 | [],i,te,tk,ys,rho,h,h3,h4=>by
   simp only[xh,Option.some.injEq,Prod.mk.injEq]at h
   obtain⟨_,rfl⟩:=h
   exact⟨by simp,fun _=>undef,fun G1 _ _ _ t j v hin=>by simp[cq]at hin⟩
 | .val τ p::ps,i,te,tk,ys,rho,h,h3,h4=>by
   have n1:=bj p te
   have hpn:(aO p te []).2=aH p te:=rfl
   obtain⟨i1,H,i2⟩:=rP hI (ps:=ps) (i:=i+1) h h3 (by omega)
   exact⟨i1,H,i2⟩
 | .rd τ::ps,i,te,tk,ys,rho,h,h3,h4=>by
   obtain⟨i1,H,i2⟩:=rP hI (ps:=ps) (i:=i+1) h h3 h4
   exact⟨i1,H,i2⟩
 | .vx e l::ps,i,te,tk,ys,rho,h,h3,h4=>by
   obtain⟨i1,H,i2⟩:=rP hI (ps:=ps) (i:=i+1) h h3 h4
   exact⟨i1,H,i2⟩
 | .io τ p::ps,i,te,tk,ys,rho,h,h3,h4=>by
   simp only[xh,Env.get]at h
   have n1:=bj p tk
   have n2:=pI ps (aH p tk)
   have n3:=bj p (te+1)
   have hpn:(aO p (te+1) []).2=aH p (te+1):=rfl
   have hpn2:(aO p tk []).2=aH p tk:=rfl
   split at h
   ·rename_i b v xs rho' he hr
    split at h
    ·rename_i x hx
     split at h
     ·rename_i hc
      simp only[Bool.and_eq_true,decide_eq_true_eq]at hc
      obtain⟨hf,rfl⟩:=hc
      simp only[Option.some.injEq,Prod.mk.injEq]at h
      obtain⟨rfl,rfl⟩:=h
      have hs:=hI.slots i
      have hm:=hI.lh i
      rw[he]at hs hm
      obtain⟨bk,c,el,b1,b2,b3,b4,b5,b6⟩:=hs
      have b7:=hm.1
      have e:=cJ hx
      rw[e]at hf b6 b7
      obtain⟨i1,H2,i2⟩:=rP hI (ps:=ps) (i:=i+1) hr (by omega) (by omega)
      obtain⟨H1,k1⟩:=jz (sm:=qx) (hs:=[2,1]) (tk:=tk) hf b6 h3 (fun c _=>JT c) (by simp)
      refine⟨fun c k hck=> ?_,fun z=>if z<aH p tk then H1 z else H2 z,fun G1 g1 g2 g3 t j u hin=> ?_⟩
      ·rw[AQ]
       simp only[List.cons_append,List.mem_cons,Prod.mk.injEq,List.mem_append]at hck
       rcases hck with⟨rfl,rfl⟩|hck|hck
       ·exact .inr (.inr ⟨rfl,by simp[bQ]⟩)
       ·obtain⟨r1,r2⟩:=gZ b6 c k hck
        rcases r2 with r2|⟨r2,r3,r4⟩
        ·exact .inl ⟨r2,b7 c r1⟩
        ·exact .inr (.inl ⟨r3,by omega,r2⟩)
       ·rcases i1 c k hck with h|⟨q1,q2,q3⟩|⟨q1,q2⟩
        ·exact .inl h
        ·exact .inr (.inl ⟨by omega,q2,q3⟩)
        ·exact .inr (.inr ⟨q1,by simp only[bQ];exact List.mem_cons_of_mem _ q2⟩)
      ·rw[AQ]at g2
       simp only[dy,cq,List.mem_cons,Prod.mk.injEq]at hin
       rcases hin with⟨rfl,rfl,rfl⟩|hin
       ·refine⟨⟨bk,c,el,b1,h4,?_,g1 t t (by simp) bk b4,b5,k1 G1 (fun c k hck=>g1 c k (by simp[hck])) (fun z hz hz2=>(g2 z hz (by omega)).trans (if_pos hz2))⟩,by simp[fh]⟩
        rw[g3 t (by simp[bQ])];exact b3
       ·rw[bH]at hin
        have:=i2 G1 (fun c k hck=>g1 c k (by simp[hck])) (fun z hz hz2=>(g2 z (by omega) hz2).trans (if_neg (by omega))) (fun u hu=>g3 u (by simp only[bQ];exact List.mem_cons_of_mem _ hu)) t j u hin
        exact⟨this.1,by simp only[fh];exact List.mem_cons_of_mem _ this.2⟩
     ·cases h
    ·cases h
   ·cases h
end
end Vg
namespace Vg
open Go
def Gh.Ct (G:Gh) (n:Nat):C0:=⟨G.col,fun t=>if t<n then some (G.hdr t)else none⟩
theorem Sr {ps:List PK}:∀ {x:aT (ps.map PK.ty)} {te i0 j i:Nat} {τ:Ty} {sh:Sh},(nY ps i0 te)[j]?=some (i,τ,sh)→
 ∃te' y,i0≤i∧(bq ps x te).1.getD (i-i0) .no= .box te' ⟨τ,y,sh⟩∧(dy ps i0 te)[j]?=some (te',i)∧(bh ps)[j]?=some τ∧(∀u∈sh.aD,u=1∨u<bu ps te)∧i∈fh ps i0:=by
 induction ps with
 |nil=>intro x te i0 j i τ sh h;simp[nY]at h
 |cons p ps ih=>
  intro x te i0 j i τ0 sh h
  have key:∀ {te1:Nat} {j:Nat},(nY ps (i0+1) te1)[j]?=some (i,τ0,sh)→∃te' y,i0≤i∧(∀v,(v::(bq ps x.2 te1).1).getD (i-i0) .no= .box te' ⟨τ0,y,sh⟩)∧(dy ps (i0+1) te1)[j]?=some (te',i)∧(bh ps)[j]?=some τ0∧
   (∀u∈sh.aD,u=1∨u<bu ps te1)∧i∈fh ps (i0+1):=by
   intro te1 j h
   obtain⟨te',y,q1,q2,q3,q4,q5,q6⟩:=ih (x:=x.2) h
   refine⟨te',y,by omega,fun v=> ?_,q3,q4,q5,q6⟩
   rw[show i-i0=(i-(i0+1))+1 by omega,List.getD_cons_succ]
   exact q2
  cases p with
  |val τ q=>
   simp only[nY]at h
   obtain⟨te',y,q1,q2,q3,q4,q5,q6⟩:=key h
   exact⟨te',y,q1,by simp only[bq,bH];exact q2 _,q3,q4,q5,q6⟩
  |rd τ=>
   simp only[nY]at h
   obtain⟨te',y,q1,q2,q3,q4,q5,q6⟩:=key h
   exact⟨te',y,q1,by simp only[bq];exact q2 _,q3,q4,q5,q6⟩
  |vx e l=>
   simp only[nY]at h
   obtain⟨te',y,q1,q2,q3,q4,q5,q6⟩:=key h
   exact⟨te',y,q1,by simp only[bq];exact q2 _,q3,q4,q5,q6⟩
  |io τ q=>
   simp only[nY]at h
   cases j with
   |zero=>
    simp only[List.getElem?_cons_zero,Option.some.injEq,Prod.mk.injEq]at h
    obtain⟨rfl,rfl,rfl⟩:=h
    refine⟨te,x.1,Nat.le_refl _,by simp[bq],by simp[dy],by simp[bh],fun u hu=> ?_,by simp[fh]⟩
    have h2:=dI ps (aH q (te+1))
    rcases kZ u hu with h|h
    ·left;simpa using h
    ·right;simp only[bu];omega
   |succ j=>
    simp only[List.getElem?_cons_succ]at h
    obtain⟨te',y,q1,q2,q3,q4,q5,q6⟩:=key h
    exact⟨te',y,q1,by simp only[bq,bH];exact q2 _,by simp only[dy,List.getElem?_cons_succ];exact q3,by simp only[bh,List.getElem?_cons_succ];exact q4,q5,by simp only[fh];exact List.mem_cons_of_mem _ q6⟩
section
variable {P:Program} {C:Cx} {w0:World} {c0:C0} {U:Nat→Prop} {E:Env} {a:Act} {w:World} {G:Gh} {ops:List Oper} {L:Nat→Prop} {Q:Exit→Act→World→Prop} {ρ:Type}
theorem Ce {fn:Func} {tmps:Array Value} {vs:List Value} (h:(fn.results.toList.mapM (nT tmps)).run P w= .ok vs w):(results fn tmps).run P w= .ok (ta vs) w:=by
 have e:(fn.results.mapM (nT tmps)).run P w= .ok vs.toArray w:=by
  rw[Array.mapM_eq_mapM_toList]
  simp[h]
 have e2:results fn tmps=(do let vs←fn.results.mapM (nT tmps);pure (if h:vs.size=1 then vs[0]else .tuple vs)):=by
  unfold results
  congr 1
 rw[e2,Sem.run_bind,e]
 simp only[Result.andThen_ok,Sem.run_pure]
 congr 1
 match vs with
 | []=>rfl
 | [v]=>rfl
 |_::_::_=>simp[ta]
theorem sV:∀(rs:List RK) (rest:List Ty) (x:aT (rs.map RK.ty)) (y:aT rest) (k:Nat) (hs:List Nat),(aV rs rest (aT.app _ _ x y) k hs).2.1=y
 | [],_,_,_,_,_=>rfl
 | .val _ _::rs,rest,x,y,_,hs=>sV rs rest x.2 y _ hs
 | .nbox _ _::rs,rest,x,y,_,hs=>sV rs rest x.2 y _ hs
theorem xH:∀(rs:List RK) (rest:List Ty) (y:aT (rs.map RK.ty++rest)) (k:Nat) (hs:List Nat),(aV rs rest y k hs).2.2=cN rs k
 | [],_,_,_,_=>rfl
 | .val _ p::rs,rest,y,k,hs=>by simp only[aV,bH];exact xH rs rest y.2 _ hs
 | .nbox _ p::rs,rest,y,k,hs=>by simp only[aV,bH];exact xH rs rest y.2 _ hs
theorem xg:∀ {ps:List PK} {i:Nat},∀j∈fh ps i,i≤j∧j<i+ps.length
 | [],_,j,h=>by simp[fh]at h
 | .val _ _::ps,i,j,h| .rd _::ps,i,j,h| .vx _ _::ps,i,j,h=>by have:=xg (ps:=ps) (i:=i+1) j h;simp only[List.length_cons];omega
 | .io _ _::ps,i,j,h=>by
   simp only[fh,List.mem_cons]at h
   simp only[List.length_cons]
   rcases h with rfl|h
   ·omega
   ·have:=xg (ps:=ps) (i:=i+1) j h;omega
theorem Rt (hC:CxTy P C) {con:aF} {G0:Gh} {args:List Value} {xx:aT (con.ps.map PK.ty)} (hlot:Cu w0 G0 (bq con.ps xx 3).1 args (bu con.ps 3)) (hI:Inv w0 (G0.Ct (bu con.ps 3)) U E a w G) {fn:Func} {y:aT (con.rs.map RK.ty++bh con.ps)}
 (h:fin C.tt con.ps con.rs con.kp fn.results.toList (bu con.ps 3) E=some y) (hT:∀i∈fh con.ps 0,a.tmps.getD i undef=args.getD i undef):
 ∃mv G' vs nt,(results fn a.tmps).run P w= .ok mv w∧sU con w0 G0 args y mv w G' vs nt:=by
 have h30:=dI con.ps 3
 unfold fin at h
 split at h
 ·rename_i xs rho tk hrs
  split at h
  ·rename_i ys rho' hio
   split at h
   ·rename_i hok0
    cases h
    rw[Bool.and_eq_true]at hok0
    obtain⟨hok,hkept⟩:=hok0
    obtain⟨rfl,hk1,vs,hvl,hrun,H1,hf1⟩:=Ec hC hI hrs h30
    have hge1:=ju con.rs (bu con.ps 3)
    have hge2:=pI con.ps (cN con.rs (bu con.ps 3))
    obtain⟨hk2,H2,hf2⟩:=rP hI hio (by omega) (Nat.le_refl _)
    have hlk:∀c k,(c,k)∈rho++rho'→(rho++rho').lookup c=some k:=fun c k hh=>xe hok hh
    have hkk:∀c k,(c,k)∈rho++rho'→(k=qx c∧Good U G c)∨(3≤k∧3≤c):=by
     intro c k hh
     rcases List.mem_append.1 hh with hh|hh
     ·rcases hk1 c k hh with h|⟨q1,q2,q3⟩
      ·exact .inl h
      ·exact .inr ⟨by omega,q3⟩
     ·rcases hk2 c k hh with h|⟨q1,q2,q3⟩|⟨q1,q2⟩
      ·exact .inl h
      ·exact .inr ⟨by omega,q3⟩
      ·have:=di c q2
       exact .inr ⟨by omega,this.1⟩
    let G1:Gh:=⟨fun b=>match(rho++rho').lookup (G.col b)with|some k=>k|none=>if G.col b≤2 then G.col b else 0,
     fun u=>if u<bu con.ps 3 then G.hdr u else if u<cN con.rs (bu con.ps 3)then H1 u else H2 u,fun _=>false⟩
    have hcol:∀c k,(c,k)∈rho++rho'→∀b,G.col b=c→G1.col b=k:=by
     intro c k hh b hb
     show(match(rho++rho').lookup (G.col b)with|some k=>k|none=>if G.col b≤2 then G.col b else 0)=k
     rw[hb,hlk c k hh]
    have hcs:∀b,(G.col b≤2∧G1.col b=G.col b)∨(3≤G.col b∧(G1.col b=2∨G1.col b=0∨3≤G1.col b)):=by
     intro b
     have hb0:G1.col b=(match(rho++rho').lookup (G.col b)with|some k=>k|none=>if G.col b≤2 then G.col b else 0):=rfl
     cases hq:(rho++rho').lookup (G.col b)with
     |none=>
      rw[hq]at hb0
      simp only at hb0
      by_cases h2:G.col b≤2
      ·left;rw[if_pos h2]at hb0;exact⟨h2,hb0⟩
      ·right;rw[if_neg h2]at hb0;exact⟨by omega,by omega⟩
     |some k=>
      rw[hq]at hb0
      simp only at hb0
      rcases hkk _ _ (eC hq)with⟨h1,h2⟩|⟨h1,h2⟩
      ·rw[h1]at hb0
       have h0:=h2.1
       unfold qx at hb0
       by_cases e:G.col b=1
       ·left;rw[if_pos e]at hb0;omega
       ·rw[if_neg e]at hb0
        by_cases e2:G.col b=2
        ·left;omega
        ·right;omega
      ·right;omega
    refine⟨ta vs,G1,vs,0,Ce hrun,⟨rfl,hvl,?_,?_,fun b hb hc=> ?_,fun b hb=> ?_,hI.size,hI.os,hI.tape,hI.output,fun b hb=> ?_,fun b hb=> ?_,fun q hq te i τ hbx hty bk c el c' el' hag hc0 hc1=> ?_⟩⟩
    ·refine hf1 _ ys G1 (fun c k hh=>hcol c k (List.mem_append_left _ hh)) (fun u h1 h2=> ?_)
     show(if u<bu con.ps 3 then G.hdr u else if u<cN con.rs (bu con.ps 3)then H1 u else H2 u)=H1 u
     rw[if_neg (by omega),if_pos h2]
    ·intro t i v hin
     rw[sV,xH]at hin
     have:=hf2 G1 (fun c k hh=>hcol c k (List.mem_append_right _ hh)) (fun u h1 h2=>by
      show(if u<bu con.ps 3 then G.hdr u else if u<cN con.rs (bu con.ps 3)then H1 u else H2 u)=H2 u
      rw[if_neg (by omega),if_neg (by omega)]) (fun u hu=>by
      have:=di u hu
      show(if u<bu con.ps 3 then G.hdr u else if u<cN con.rs (bu con.ps 3)then H1 u else H2 u)=G.hdr u
      rw[if_pos this.2]) t i v hin
     rw[hT i this.2]at this
     exact this.1
    ·have hf:G.col b=G0.col b∧w.heap[b]?=w0.heap[b]?:=hI.frame b hb hc
     refine⟨?_,hf.2⟩
     rcases hcs b with h|h<;>omega
    ·refine hI.one b ?_
     rcases hcs b with h|h<;>omega
    ·refine hI.lt b ?_
     rcases hcs b with h|h<;>omega
    ·refine hI.fresh b ?_
     rcases hcs b with h|h<;>omega
    ·simp only[Rz,Bool.or_eq_true,Bool.and_eq_true,List.all_eq_true]at hkept
     rcases hkept with hkept|⟨hkp,hkept⟩
     ·rw[List.isEmpty_iff]at hkept
      rw[hkept]at hq;cases hq
     ·have hq1:=hkept q hq
      split at hq1
      ·rename_i i' τ1 sh hent
       obtain⟨te',y',g1,g2,g3,g4,g5,g6⟩:=Sr (x:=xx) hent
       rw[hbx]at g3
       rw[hty]at g4
       cases g3;cases g4
       split at hq1
       ·rename_i t v u hE hu
        simp only[Bool.and_eq_true,decide_eq_true_eq,beq_iff_eq]at hq1
        obtain⟨hvτ,hq1⟩:=hq1
        have hs:=hI.slots i
        have hE':E.s.getD i .no= .box t v:=hE
        rw[hE']at hs
        obtain⟨bk2,c2,el2,k1,k2,k3,k4,k5,k6⟩:=hs
        rw[hT i g6,hag]at k1
        simp only[Value.pointer.injEq,Option.some.injEq,Addr.mk.injEq,and_true]at k1
        subst k1
        rw[hc1]at k5
        cases k5
        have r1:=nG k6 hq1
        have hs0:=hlot.slots i
        rw[Nat.sub_zero]at g2
        rw[g2]at hs0
        obtain⟨bk3,c3,el3,j1,j2,j3,j4,j5,j6⟩:=hs0
        rw[hag]at j1
        simp only[Value.pointer.injEq,Option.some.injEq,Addr.mk.injEq,and_true]at j1
        subst j1
        rw[hc0]at j5
        cases j5
        have r2:=nG j6 hu
        have hτ:v.τ.off q.2=τ.off q.2:=by rw[hvτ]
        rw[←hτ,r1.1,hτ,r2.1]
        have hlt:u<bu con.ps 3:=by
         rcases g5 u r2.2.2 with h|h
         ·have:=r2.2.1;omega
         ·exact h
        rw[(hI.hk hkp u (G0.hdr u) (by simp[Gh.Ct,hlt])).2]
       ·cases hq1
      ·cases hq1
   ·cases h
  ·cases h
 ·cases h
theorem fO (l:List SV) (n i:Nat):(l++List.replicate n SV.no).getD i SV.no=l.getD i SV.no:=by
 rw[List.getD_eq_getElem?_getD,List.getD_eq_getElem?_getD,List.getElem?_append]
 split
 ·rfl
 ·rename_i h
  rw[List.getElem?_replicate,List.getElem?_eq_none (by omega)]
  split<;>rfl
theorem CA {ps:List PK} {x:aT (ps.map PK.ty)} {args:List Value} (h:Cu w G (bq ps x 3).1 args (bu ps 3)) (n:Nat):
 Inv w (G.Ct (bu ps 3)) (fun u=>u<bu ps 3) ⟨(bq ps x 3).1++List.replicate (n-(bq ps x 3).1.length) .no,(bq ps x 3).2,true⟩ {tmps:=args.toArray++Array.replicate (n-args.toArray.size) undef,defers:=[]} w G:=by
 have hlen:=h.len
 have hta:∀i,i<args.length→(args.toArray++Array.replicate (n-args.toArray.size) undef).getD i undef=args.getD i undef:=by
  intro i hi
  rw[Array.getD_eq_getD_getElem?,List.getD_eq_getElem?_getD,Array.getElem?_append_left (by simpa using hi)]
  simp
 have h30:=dI ps 3
 refine⟨by simp[hlen],fun s=> ?_,fun s=> ?_,fun s=> ?_,fun s=> ?_,fun s s' t v v' h1 h2=> ?_,fun b hb=>(h.colU b hb).1,fun b hb=>(h.colU b hb).2,h.fresh,fun b _ _=>⟨rfl,rfl⟩,fun b hb=>⟨(h.colU b (by omega)).2,hb⟩,Nat.le_refl _,rfl,rfl,rfl,rfl,⟨by show 2<bu ps 3;omega,h.two⟩,fun _ t v ht=> ?_⟩
 rotate_right
 ·simp only[Gh.Ct]at ht
  split at ht
  ·rename_i hlt;cases ht;exact⟨hlt,rfl⟩
  ·cases ht
 ·simp only[fO]
  by_cases hs:s<args.length
  ·have:=h.slots s
   rw[←hta s hs]at this
   exact this
  ·rw[List.getD_eq_getElem?_getD,List.getElem?_eq_none (by omega)];trivial
 ·simp only[fO];exact(h.lh s).1
 ·simp only[fO];exact(h.lh s).2.1
 ·simp only[fO];exact(h.lh s).2.2
 ·simp only[fO]at h1 h2
  exact h.uni s s' t v v' h1 h2
theorem DZ {ps:List PK}:∀ {x:aT (ps.map PK.ty)} {tk:Nat},qt (bq ps x tk).1:=by
 induction ps with
 |nil=>intro x tk s j w act v h;simp[bq]at h
 |cons p ps ih=>
  intro x tk s j w act v h
  cases p with
  |val τ q=>
   simp only[bq]at h
   cases s with
   |zero=>simp at h
   |succ s=>simp only[List.getD_cons_succ]at h;exact ih _ _ _ _ _ h
  |io τ q=>
   simp only[bq]at h
   cases s with
   |zero=>simp at h
   |succ s=>simp only[List.getD_cons_succ]at h;exact ih _ _ _ _ _ h
  |rd τ=>
   simp only[bq]at h
   cases s with
   |zero=>simp at h
   |succ s=>simp only[List.getD_cons_succ]at h;exact ih _ _ _ _ _ h
  |vx e l=>
   simp only[bq]at h
   cases s with
   |zero=>simp at h
   |succ s=>simp only[List.getD_cons_succ]at h;exact ih _ _ _ _ _ h
theorem UD (hC:kJ P C) {f:FuncId} {fn:Func} {con:aF} (hf:P.funcs[f]?=some fn) (hname:(fn.name== "runtime.NumGoroutine")=false) (hn:con.ps.length≤fn.ntmps)
 (hF:∀x y,con.F x=some y→Qu C con.ps con.rs con.kp fn x=some y):oQ P f con:=by
 intro w G0 args x y hy hlot
 have hev:=hF x y hy
 unfold Qu at hev
 split at hev
 ·cases hev
 ·rename_i c hb
  have hrun:(callFunc f args.toArray).run P w= .ok (.enter f args.toArray) w:=by
   have hne:fn.name≠ "runtime.NumGoroutine" :=by simpa using hname
   unfold callFunc
   simp[hf,hne,hb]
  unfold nE
  rw[hrun]
  simp only
  refine calls_of_wp hf hb ?_
  have hal:args.length=con.ps.length:=by rw[hlot.len,hJ]
  have hE:=CA hlot fn.ntmps
  have h30:=dI con.ps 3
  have hkey:Hg {C with n:=fn.ntmps,io:=fh con.ps 0} w (G0.Ct (bu con.ps 3)) (fun i=>args.getD i undef) y (fin C.tt con.ps con.rs con.kp fn.results.toList (bq con.ps x 3).2) (fun a' w'=>
   a'.defers=[]∧∃v,(results fn a'.tmps).run P w'= .ok v w'∧∃v',Ending.returned v=Ending.returned v'∧∃G' vs nt,sU con w G0 args y v' w' G' vs nt):=by
   intro E' a' w' G' g1 g2 g3 g4 gT g5
   rw[gn]at g5
   obtain⟨mv,G2,vs,nt,k1,k2⟩:=Rt hC.toCxTy (args:=args) hlot g1 g5 gT
   exact⟨g1.defers,mv,k1,mv,rfl,G2,vs,nt,k2⟩
  have hC2:kJ P {C with n:=fn.ntmps,io:=fh con.ps 0}:=⟨⟨hC.tt,hC.eq,hC.fs,hC.u8⟩,hC.ct,hC.mixed⟩
  refine UA (T:=fun i=>args.getD i undef) hC2 c (w0:=w) (c0:=G0.Ct (bu con.ps 3)) (G:=G0) (r:=y) (by rw[gn];simpa[gn]using hE) (fun s j w1 act v h=> ?_) ?_ ?_ (fun i hi=> ?_) hev hkey (fun id k hk=>by simp[List.lookup]at hk) hkey
  ·rw[fO]at h;exact DZ _ _ _ _ _ h
  ·simp only[List.length_append,List.length_replicate,hJ];omega
  ·rw[gn];exact h30
  ·have:=xg i hi
   rw[Array.getD_eq_getD_getElem?,Array.getElem?_append_left (by simp;omega),List.getD_eq_getElem?_getD]
   simp
end
end Vg
namespace Vg
open Go
def Fits:(τ:Ty)→τ.den→Prop
 | .int k,n=>(Lit.int k n).wf=true
 | .bool,_=>True
 | .str,s=>s.size≤maxLen
 | .sl e,l=>l.length≤maxLen∧∀x∈l,Fits e x
 | .pair a b,p=>Fits a p.1∧Fits b p.2
def pD (P:Program) (chk:Ty→TypeId→Bool):Ty→List Field→Nat→Bool
 |τ,[f],off=>f.offset==off&&P.cellsOf f.type==τ.sz&&chk τ f.type
 | .pair a b,f::g::l,off=>f.offset==off&&P.cellsOf f.type==a.sz&&chk a f.type&&pD P chk b (g::l) (off+a.sz)
 |_,_,_=>false
def rn (P:Program):Nat→Ty→TypeId→Bool
 |0,_,_=>false
 |n+1,τ,t=>
  match P.underlying t with
  |some (.int k)=>τ== .int k
  |some .bool=>τ== .bool
  |some .string=>τ== .str
  |some (.slice e)=>(match τ with| .sl τe=>P.cellsOf e==τe.sz&&rn P n τe e|_=>false)
  |some (.struct fs)=>τ.bK&&P.cellsOf t==τ.sz&&pD P (rn P n) τ fs.toList 0
  |_=>false
section
variable {H:Type} {enc:TypeId×Value→H} {P:Program} {w:World} {held:Bool}
theorem cells?_some {a:Addr} {n:Nat} {cs:List Value} (h:w.cells? 0 a n=some cs):cs.length=n∧∀i,i<n→w.cell? (a.add i)=cs[i]?:=by
 unfold World.cells? at h
 rw[if_pos (Nat.zero_le _)]at h
 refine⟨by simpa using mapM_some_length h,fun i hi=> ?_⟩
 exact mapM_some_get h i i (by simp[hi])
theorem Sb {a:Addr} {v:Value} (h:w.cell? a=some v):∃c el fz,w.heap[a.block]?=some (.cells c el fz)∧a.spot=none∧c[a.off]?=some v:=by
 unfold World.cell? at h
 split at h
 ·rename_i c el fz hb
  split at h
  ·cases h
  ·rename_i hs
   exact⟨c,el,fz,hb,by simpa using hs,h⟩
 ·cases h
theorem EL {b off:Nat} {c:Array Value} {el:TypeId} {fz:Nat×Nat} (hb:w.heap[b]?=some (.cells c el fz)) {n:Nat} {cs:List Value} (h:w.cells? 0 ⟨b,off,none⟩ n=some cs):cs=(c.toList.drop off).take n∧(0<n→off+n≤c.size):=by
 obtain⟨hl,hc⟩:=cells?_some h
 have hget:∀i,i<n→c[off+i]?=cs[i]?:=by
  intro i hi
  have:=hc i hi
  unfold World.cell? at this
  have hadd:(Addr.add ⟨b,off,none⟩ i)=⟨b,off+i,none⟩:=by
   unfold Addr.add
   split
   ·rename_i h;subst h;rfl
   ·rfl
  rw[hadd]at this
  simp only[hb,Option.isSome_none,Bool.false_eq_true,if_false]at this
  exact this
 refine⟨List.ext_getElem? (fun i=> ?_),fun hn=> ?_⟩
 ·rw[List.getElem?_take]
  split
  ·rename_i hi
   rw[List.getElem?_drop,←hget i hi,Array.getElem?_toList]
  ·rename_i hi
   exact List.getElem?_eq_none (by omega)
 ·have:=hget (n-1) (by omega)
  rw[List.getElem?_eq_getElem (by omega)]at this
  have:=(Array.getElem?_eq_some_iff.1 this).1
  omega
theorem FI {chk:Ty→TypeId→Bool} {cs:List Value}
 (hchk:∀ {τ:Ty} {t:TypeId} {fuel:Nat} {c:List Value} {x:DataW H×List MemPlace},chk τ t=true→DataW.trod enc P w 0 (fun _=>true) held fuel t c=some x→∃y B,aR w τ y c B∧Fits τ y):
 ∀ {fs:List Field} {τ:Ty} {off:Nat},pD P chk τ fs off=true→cs.length=off+τ.sz→
 (∀f∈fs,∃fuel x,DataW.trod enc P w 0 (fun _=>true) held fuel f.type ((cs.drop f.offset).take (P.cellsOf f.type))=some x)→∃y B,aR w τ y (cs.drop off) B∧Fits τ y
 | [],τ,off,h,_,_=>by cases τ<;>simp[pD]at h
 | [f],τ,off,h,hl,ht=>by
   have h:(f.offset==off&&P.cellsOf f.type==τ.sz&&chk τ f.type)=true:=by
    cases τ<;>exact h
   simp only[Bool.and_eq_true,beq_iff_eq]at h
   obtain⟨⟨h1,h2⟩,h3⟩:=h
   obtain⟨fuel,x,hx⟩:=ht f (by simp)
   rw[h1,h2,List.take_of_length_le (by simp;omega)]at hx
   exact hchk h3 hx
 |f::g::l,τ,off,h,hl,ht=>by
  cases τ with
  |pair a b=>
   simp only[pD,Bool.and_eq_true,beq_iff_eq]at h
   obtain⟨⟨⟨h1,h2⟩,h3⟩,h4⟩:=h
   simp only[Ty.sz]at hl
   obtain⟨fuel,x,hx⟩:=ht f (by simp)
   rw[h1,h2]at hx
   obtain⟨y1,B1,r1,f1⟩:=hchk h3 hx
   obtain⟨y2,B2,r2,f2⟩:=FI hchk h4 (by omega) (fun q hq=>ht q (by simp only[List.mem_cons]at hq⊢;exact .inr hq))
   refine⟨(y1,y2),B1++B2,⟨_,_,B1,B2,?_,rfl,r1,r2⟩,f1,f2⟩
   rw[←List.drop_drop,List.take_append_drop]
  |_=>simp[pD]at h
theorem KE {τe:Ty} {e:TypeId} {n:Nat} (hsz:P.cellsOf e=τe.sz) {b:Nat} {c:Array Value} {el:TypeId} {fz:Nat×Nat} (hb:w.heap[b]?=some (.cells c el fz))
 (hchk:∀ {c:List Value} {x:DataW H×List MemPlace},DataW.trod enc P w 0 (fun _=>true) held n e c=some x→∃y B,aR w τe y c B∧Fits τe y):
 ∀(len:Nat) {off:Nat} {elems:List (DataW H×List MemPlace)},elems.length=len→
 (∀i,i<len→(w.cells? 0 (Addr.add ⟨b,off,none⟩ (i*P.cellsOf e)) (P.cellsOf e)).bind (DataW.trod enc P w 0 (fun _=>true) held n e)=elems[i]?)→
 ∃(l:List τe.den) (Bs:List Nat),l.length=len∧bd (aR w τe) l ((c.toList.drop off).take (len*τe.sz)) Bs∧∀x∈l,Fits τe x
 |0,off,elems,_,_=>⟨[],[],rfl,by simp[bd],by simp⟩
 |len+1,off,elems,hlen,hel=>by
  have h0:=hel 0 (by omega)
  rw[List.getElem?_eq_getElem (by omega),Option.bind_eq_some_iff]at h0
  obtain⟨cs,hcs,hx⟩:=h0
  simp only[Nat.zero_mul,Addr.add,if_true]at hcs
  obtain⟨e1,_⟩:=EL hb hcs
  obtain⟨y,B,hr,hf⟩:=hchk hx
  have hadd:∀i,Addr.add ⟨b,off,none⟩ ((i+1)*P.cellsOf e)=Addr.add ⟨b,off+τe.sz,none⟩ (i*P.cellsOf e):=by
   intro i
   have:=τe.kY
   unfold Addr.add
   rw[hsz]
   rw[if_neg (by simp only[Nat.add_mul];omega)]
   split
   ·rename_i h;simp only[Nat.add_mul,h];simp
   ·simp only[Nat.add_mul,Addr.mk.injEq,and_true,true_and];omega
  obtain⟨l,Bs,h1,h2,h3⟩:=KE hsz hb hchk len (off:=off+τe.sz) (elems:=elems.tail) (by simp[hlen]) (fun i hi=>by
   rw[←hadd,hel (i+1) (by omega)]
   cases elems with
   |nil=>simp at hlen
   |cons z zs=>rfl)
  refine⟨y::l,B++Bs,by simp[h1],⟨cs,_,B,Bs,?_,rfl,hr,h2⟩,by simpa using⟨hf,h3⟩⟩
  rw[e1,hsz,Nat.add_mul,Nat.one_mul,Nat.add_comm (len*τe.sz),List.take_add,List.drop_drop]
theorem Oc:∀(n:Nat) {τ:Ty} {t:TypeId} {fuel:Nat} {cs:List Value} {x:DataW H×List MemPlace},rn P n τ t=true→DataW.trod enc P w 0 (fun _=>true) held fuel t cs=some x→∃y B,aR w τ y cs B∧Fits τ y:=by
 intro n
 induction n with
 |zero=>intro τ t fuel cs x h;simp[rn]at h
 |succ n ih=>
  intro τ t fuel cs x h ht
  simp only[rn]at h
  split at h
  ·rename_i k hu
   simp only[beq_iff_eq]at h
   subst h
   obtain⟨m,rfl,_,hw⟩:=DataW.trod_int hu ht
   exact⟨m,[],⟨rfl,rfl⟩,hw⟩
  ·rename_i hu
   simp only[beq_iff_eq]at h
   subst h
   obtain⟨b,rfl,_⟩:=DataW.trod_bool hu ht
   exact⟨b,[],⟨rfl,rfl⟩,trivial⟩
  ·rename_i hu
   simp only[beq_iff_eq]at h
   subst h
   obtain⟨s,rfl,_,hs⟩:=DataW.trod_string hu ht
   exact⟨s,[],⟨rfl,rfl⟩,hs⟩
  ·rename_i e hu
   split at h
   ·rename_i τe
    simp only[Bool.and_eq_true,beq_iff_eq]at h
    obtain⟨hsz,hd⟩:=h
    rcases DataW.trod_slice hu ht with⟨rfl,_⟩|⟨a,len,cap,elems,rest,m,_,rfl,_,_,hlc,hcm,hlen,hel,hsp,_⟩
    ·exact⟨[],[],⟨_,rfl,.inl ⟨⟨_,rfl⟩,rfl,rfl⟩⟩,by simp[Fits]⟩
    ·by_cases hcap:cap=0
     ·subst hcap
      have:len=0:=by omega
      subst this
      exact⟨[],[],⟨_,rfl,.inl ⟨⟨_,rfl⟩,rfl,rfl⟩⟩,by simp[Fits]⟩
     ·obtain⟨hrl,hrest⟩:=hsp rfl
      have hall:∀i,i<cap→∃cs,w.cells? 0 (a.add (i*P.cellsOf e)) (P.cellsOf e)=some cs:=by
       intro i hi
       by_cases hil:i<len
       ·have:=hel i hil
        rw[List.getElem?_eq_getElem (by omega),Option.bind_eq_some_iff]at this
        obtain⟨cs,h1,_⟩:=this
        exact⟨cs,h1⟩
       ·have:=hrest (i-len) (by omega)
        rw[List.getElem?_eq_getElem (by omega),Option.bind_eq_some_iff]at this
        obtain⟨cs,h1,_⟩:=this
        rw[show len+(i-len)=i by omega]at h1
        exact⟨cs,h1⟩
      have hpos:=τe.kY
      obtain⟨cs0,h0⟩:=hall 0 (by omega)
      obtain⟨hl0,hc0⟩:=cells?_some h0
      have hc00:=hc0 0 (by omega)
      rw[List.getElem?_eq_getElem (by omega)]at hc00
      have haa:(a.add (0*P.cellsOf e)).add 0=a:=by simp[Addr.add]
      rw[haa]at hc00
      obtain⟨c,el,fz,hb,hspot,_⟩:=Sb hc00
      obtain⟨b,off,spot⟩:=a
      simp only at hb hspot
      subst hspot
      obtain⟨l,Bs,h1,h2,h3⟩:=KE (held:=held) (enc:=enc) hsz hb (fun hx=>ih hd hx) len hlen hel
      obtain⟨csl,hcl⟩:=hall (cap-1) (by omega)
      have hadd:Addr.add ⟨b,off,none⟩ ((cap-1)*P.cellsOf e)=⟨b,off+(cap-1)*P.cellsOf e,none⟩:=by
       unfold Addr.add
       split
       ·rename_i h;rw[h];rfl
       ·rfl
      rw[hadd]at hcl
      have hsize:=(EL hb hcl).2 (by omega)
      rw[hsz]at hsize
      have hmul:(cap-1)*τe.sz+τe.sz=cap*τe.sz:=by
       have:cap=cap-1+1:=by omega
       conv=>rhs;rw[this,Nat.add_mul,Nat.one_mul]
      refine⟨l,b::Bs,⟨_,rfl,.inr ⟨b,off,cap,c,el,fz,Bs,by rw[h1],by omega,hb,by omega,rfl,by rw[h1];exact h2⟩⟩,by omega,h3⟩
   ·cases h
  ·rename_i fs hu
   simp only[Bool.and_eq_true,beq_iff_eq]at h
   obtain⟨⟨hp,hsz⟩,hfo⟩:=h
   obtain⟨xs,m,_,_,hl,hxl,hxs⟩:=DataW.trod_struct hu ht
   have:=FI (held:=held) (enc:=enc) (cs:=cs) (fun h hx=>ih h hx) hfo (by rw[hl,hsz];omega) (fun f hf=>by
    obtain⟨i,hi,rfl⟩:=List.mem_iff_getElem.1 hf
    have hi':i<fs.size:=by simpa using hi
    have:=hxs i fs[i] (by simp[hi'])
    rw[List.getElem?_eq_getElem (by omega)]at this
    exact⟨m,_,by simpa using this⟩)
   simpa using this
  ·cases h
end
end Vg
namespace Vg
open Go Go.ChangeShapes Go.WideShapes Go.ChangeAt Go.RowKit
abbrev mg (τs:List Ty):List PK:=τs.map fun τ=> .val τ (jr τ)
def JS:(τs:List Ty)→aT ((mg τs).map PK.ty)→Prop
 | [],_=>True
 |τ::τs,x=>Fits τ x.1∧JS τs x.2
def vH (P:Program) (n:Nat):List Ty→List TypeId→Bool
 | [],[]=>true
 |τ::τs,t::ts=>rn P n τ t&&vH P n τs ts
 |_,_=>false
section
variable {H:Type} {enc:TypeId×Value→H} {P:Program} {w:World} {G:Gh}
theorem Sl {n:Nat} {τ:Ty} {t:TypeId} {v:Value} {r:Reach} {b0:Nat} (h:rn P n τ t=true) (hval:Value.okWide P w r b0 t v):v=bR τ v.cells.toList:=by
 cases n with
 |zero=>simp[rn]at h
 |succ n=>
  simp only[rn]at h
  split at h
  ·rename_i k hu
   simp only[beq_iff_eq]at h
   subst h
   obtain⟨m,rfl⟩:=okWide_int hu hval
   rfl
  ·rename_i hu
   simp only[beq_iff_eq]at h
   subst h
   obtain⟨b,rfl⟩:=okWide_bool hu hval
   rfl
  ·rename_i hu
   simp only[beq_iff_eq]at h
   subst h
   obtain⟨s,rfl⟩:=okWide_string hu hval
   rfl
  ·rename_i e hu
   split at h
   ·obtain⟨a,len,cap,rfl⟩:=okWide_slice hu hval
    rfl
   ·cases h
  ·rename_i fs hu
   simp only[Bool.and_eq_true]at h
   obtain⟨cs,rfl,_⟩:=okWide_struct hu hval
   cases τ with
   |pair a b=>simp[bR,Value.cells]
   |_=>simp[Ty.bK]at h
  ·cases h
theorem ND (hG:∀b,b<w.heap.size→G.col b=1) {n:Nat} {r:Reach} {b0:Nat}:∀ {τs:List Ty} {ts:List TypeId} {args:List Value} {ds:List (DataW H)} {p:List MemPlace},
 vH P n τs ts=true→DataW.TrodAll enc P w 0 (fun _=>true) true ts args ds p→(∀(j:Nat) t v,ts[j]?=some t→args[j]?=some v→Value.okWide P w r b0 t v)→
 ∃x:aT ((mg τs).map PK.ty),JS τs x∧args.length=τs.length∧ds.length=τs.length∧∀tk i,bJ w G ((bq (mg τs) x tk).1.getD i .no) (args.getD i undef)
 | [],[],args,ds,p,_,ht,_=>by
   obtain⟨rfl,rfl,rfl⟩:=trodAll_nil ht
   exact⟨(),trivial,rfl,rfl,fun tk i=>trivial⟩
 |τ::τs,t::ts,args,ds,p,hd,ht,hv=>by
  simp only[vH,Bool.and_eq_true]at hd
  obtain⟨v,vs,d,ds',p',q,rfl,rfl,rfl,h1,h2⟩:=trodAll_cons ht
  obtain⟨x,hx,hl,hl2,hs⟩:=ND hG hd.2 h2 (fun j t v ht hv'=>hv (j+1) t v (by simpa using ht) (by simpa using hv'))
  obtain⟨fuel,hf⟩:=h1
  obtain⟨y,B,hr,hfit⟩:=Oc n hd.1 hf
  refine⟨(y,x),⟨hfit,hx⟩,by simp[hl],by simp[hl2],fun tk i=> ?_⟩
  have hok:=Sl hd.1 (hv 0 t v rfl rfl)
  cases i with
  |zero=>
   show bJ w G (.d ⟨τ,y,(aO (jr τ) tk [1]).1⟩) v
   rw[j0]
   exact⟨_,hok,aW.zm hr (fun b hb=>by simp[hG b (hr.bounds b hb)]) (by simp)⟩
  |succ i=>
   show bJ w G ((bq (mg τs) x (aO (jr τ) tk [1]).2).1.getD i .no) (vs.getD i undef)
   exact hs _ i
 | [],_::_,_,_,_,h,_,_|_::_,[],_,_,_,h,_,_=>by simp[vH]at h
end
end Vg
namespace Vg
open Go Go.ChangeShapes Go.WideShapes Go.ChangeAt Go.RowKit
theorem An:∀(τs:List Ty) (tk:Nat),bu (mg τs) tk=tk
 | [],_=>rfl
 |τ::τs,tk=>by
  show bu (mg τs) (aH (jr τ) tk)=tk
  have:aH (jr τ) tk=tk:=by
   rw[←bH (jr τ) tk [1],j0]
  rw[this,An τs]
theorem MC:∀τs:List Ty,Eo (mg τs)=[]
 | []=>rfl
 |τ::τs=>MC τs
theorem Au:∀(τs:List Ty) (tk:Nat),bQ (mg τs) tk=[]
 | [],_=>rfl
 |_::τs,_=>Au τs _
section
variable {H:Type} {enc:TypeId×Value→H} {P:Program}
theorem Q9 {f:Func} {s:ChangeSpec} {W W':World} {args:Array Value} {v:Value} {ds gs:List (DataW H)} {before:List MemPlace}
 (hW:DataW.Whole enc P f.params.toList s.vars false W args.toList ds gs before)
 (hres:∀(b:Nat) (sp:Nat→Bool) (hd:Bool),DataW.TrodAll enc P W' b sp hd f.resultTypes.toList (v.resultList f.resultTypes.size) (s.fn H (ds++gs)).results [])
 (hargs:∀sp:Nat→Bool,(∀p∈before,sp p.block=true)→DataW.TrodAll enc P W' 0 sp true f.params.toList args.toList (s.fn H (ds++gs)).args before)
 (hvars:s.vars=[]) (hleft:(s.fn H (ds++gs)).vars=[]) (hk:W.keptBut W' (·∈before)) (hh:∀b,b<W.heap.size→W'.heap[b]?=W.heap[b]?)
 (hok:∀(j:Nat) (t:TypeId) (r:Value),f.resultTypes[j]?=some t→(v.resultList f.resultTypes.size)[j]?=some r→Value.okWide P W' .any 0 t r):
 s.post enc P f false true false false W args v W':=by
 have hold:∀p∈before,(fun b=>decide (b<W.heap.size)) p.block=true:=fun p hp=>by simpa using hW.lt p hp
 have hv:∀sp,DataW.TrodVars enc P W' sp s.vars (s.fn H (ds++gs)).vars []:=fun sp=>by rw[hvars,hleft];exact rfl
 refine⟨ds,gs,before,[],before,[],hW,hres _ _ _,hargs _ hold,hv _,World.keptBut_mono (fun p hp=>⟨hp,?_⟩) hk,fun _=> ?_⟩
 ·exact Or.inr (by simpa using hp)
 ·have hlt:=hW.lt
  obtain⟨_,_,_,_,_,hz,_⟩:=hW
  refine⟨hok,_,_,([]++before)++[],⟨[]++before,[],trodAll_append (hargs _ (fun _ _=>rfl)) (hres _ _ _),hv _,rfl,?_,?_⟩,?_⟩
  ·intro b off hp
   have hp':MemPlace.cell b off∈before:=by simpa using hp
   have:=hz b off hp'
   have hb:=hlt _ hp'
   unfold World.frozen? at this⊢
   rw[hh b hb]
   exact this
  ·intro ha;cases ha
  ·intro p hp _
   simpa using hp
theorem ya (hl:laidOutB P=true) {W W':World} {sp:Nat→Bool}:∀ {ts:List TypeId} {vs:List Value} {ds:List (DataW H)} {p:List MemPlace},
 (∀t∈ts,P.readableRec t=true∧t<P.types.size)→DataW.TrodAll enc P W 0 (fun _=>true) true ts vs ds p→(∀x∈p,W.sameAt W' x)→(∀x∈p,sp x.block=true)→DataW.TrodAll enc P W' 0 sp true ts vs ds p
 | [],vs,ds,p,_,h,_,_=>by
   obtain⟨rfl,rfl,rfl⟩:=trodAll_nil h
   exact rfl
 |t::ts,vs,ds,p,hr,h,h1,h2=>by
  obtain⟨v,vs,d,ds',p',q,rfl,rfl,rfl,k1,k2⟩:=trodAll_cons h
  exact trodAll_cons_mk (WideElems.Trod_stays hl (hr t (by simp)).1 (hr t (by simp)).2 k1 (fun x hx=>h1 x (by simp[hx])) (fun x hx=>h2 x (by simp[hx])))
   (ya hl (fun t ht=>hr t (by simp[ht])) k2 (fun x hx=>h1 x (by simp[hx])) (fun x hx=>h2 x (by simp[hx])))
theorem Ob {f:FuncId} {fn:Func} {con:aF} (hm:oQ P f con) (hf:P.funcs[f]?=some fn) (hname:(fn.name== "runtime.NumGoroutine")=false) (hb:fn.body.isSome=true)
 {W:World} {G0:Gh} {args:List Value} {x:aT (con.ps.map PK.ty)} {y:aT (con.rs.map RK.ty++bh con.ps)} (hF:con.F x=some y) (hlot:Cu W G0 (bq con.ps x 3).1 args (bu con.ps 3)):
 Calls P f args.toArray W (fun e w'=>∃v,e= .returned v∧∃G' vs nt,sU con W G0 args y v w' G' vs nt):=by
 have:=hm W G0 args x y hF hlot
 obtain⟨c,hc⟩:=Option.isSome_iff_exists.1 hb
 have hrun:(callFunc f args.toArray).run P W= .ok (.enter f args.toArray) W:=by
  have hne:fn.name≠ "runtime.NumGoroutine" :=by simpa using hname
  unfold callFunc
  simp[hf,hne,hc]
 unfold nE at this
 rw[hrun]at this
 exact this
theorem MI {f:FuncId} {fn:Func} {τs:List Ty} {F:aT ((mg τs).map PK.ty)→Option (aT ([RK.val .bool .leaf].map RK.ty++bh (mg τs)))} {spec:ChangeSpec} {tb:TypeId} {n:Nat}
 (hm:oQ P f ⟨mg τs,[.val .bool .leaf],F,[]⟩) (hf:P.funcs[f]?=some fn) (hname:(fn.name== "runtime.NumGoroutine")=false) (hb:fn.body.isSome=true)
 (hd:vH P n τs fn.params.toList=true) (hres:fn.resultTypes= #[tb]) (hub:P.underlying tb=some .bool) (hl:laidOutB P=true)
 (hr:fn.params.toList.all (fun t=>P.readableRec t&&decide (t<P.types.size))=true) (hvars:spec.vars=[])
 (hspec:∀ds:List (DataW H),ds.length=τs.length→spec.fn H ds={results:=[.lit (.bool true)],args:=ds})
 (hF:∀x,JS τs x→∃y,F x=some y∧y.1=true)
 (W:World) (base:Nat) (args:Array Value) (ds gs:List (DataW H)) (before:List MemPlace)
 (hval:∀(j:Nat) t v,fn.params[j]?=some t→args[j]?=some v→Value.okWide P W .any base t v)
 (hW:DataW.Whole enc P fn.params.toList spec.vars false W args.toList ds gs before):
 Calls P f args W fun e W'=>∃v,e= .returned v∧spec.post enc P fn false true false false W args v W':=by
 have hW':=hW
 have hlt:=hW.lt
 obtain⟨p,q,hA,hV,rfl,hfz,hnd⟩:=hW
 rw[hvars]at hV
 obtain⟨rfl,rfl⟩:=trodVars_none hV
 have hA':DataW.TrodAll enc P W 0 (fun _=>true) true fn.params.toList args.toList ds p:=hA
 let G0:Gh:=⟨fun b=>if b<W.heap.size then 1 else 0,fun _=>undef,fun _=>false⟩
 obtain⟨x,hfit,hlen,hdl,hs⟩:=ND (G:=G0) (fun b hb=>if_pos hb) hd hA' (fun j t v h1 h2=>hval j t v (by simpa using h1) (by simpa using h2))
 obtain⟨y,hy,hy1⟩:=hF x hfit
 have hlot:Cu W G0 (bq (mg τs) x 3).1 args.toList (bu (mg τs) 3):=by
  rw[An]
  refine⟨by rw[hJ,hlen];simp,fun i=>hs 3 i,fun i=> ?_,fun i j t v v' h h'=>nz h h',fun b hb=> ?_,fun b hb=> ?_,rfl,fun b=> ?_⟩
  ·by_cases hi:i<(bq (mg τs) x 3).1.length
   ·have hmem:(bq (mg τs) x 3).1.getD i .no∈(bq (mg τs) x 3).1:=by
     rw[List.getD_eq_getElem?_getD,List.getElem?_eq_getElem hi];simp
    obtain⟨h1,h2,h3⟩:=fK _ hmem
    rw[An]at h1
    have hbt:=Au τs 3
    refine⟨fun c hc=> ?_,fun c hc=> ?_,by rw[h3];simp⟩
    ·rcases h1 c hc with rfl|⟨q1,q2,q3⟩|h
     ·exact⟨by omega,by omega,rfl⟩
     ·omega
     ·rw[MC]at h;cases h
    ·have:=h2 c hc
     rw[hbt]at this
     cases this
   ·rw[List.getD_eq_getElem?_getD,List.getElem?_eq_none (by omega)]
    simp[aX,SV.sc,SV.bt,SV.rt]
  ·simp only[G0]at hb⊢
   split at hb
   ·rename_i h;exact⟨by rw[if_pos h];omega,h⟩
   ·omega
  ·simp only[G0]at hb
   split at hb<;>omega
  ·simp only[G0]
   split<;>omega
 have hcall:=Ob hm hf hname hb hy hlot
 simp only[Array.toArray_toList]at hcall
 refine hcall.mono fun e W' ⟨v,he,G',vs,nt,hp⟩=>⟨v,he,?_⟩
 have hlen1:=hp.len
 simp only[List.length_singleton]at hlen1
 obtain⟨u,rfl⟩:=List.length_eq_one_iff.1 hlen1
 have hv:v= .bool true:=by
  rw[hp.val]
  obtain⟨cs,h1,h2⟩:=hp.res 0
  have h2':cs=[.bool y.1]:=h2
  rw[hy1]at h2'
  subst h2'
  exact h1
 subst hv
 have hh:∀b,b<W.heap.size→W'.heap[b]?=W.heap[b]?:=fun b hb=>(hp.frame b hb (by simp only[G0];split<;>omega)).2
 have hsame:∀z∈p,W.sameAt W' z:=by
  intro z hz
  have hzb:=hlt z (by simpa using hz)
  cases z with
  |cell b off=>
   show W'.cell? ⟨b,off,none⟩=W.cell? ⟨b,off,none⟩
   unfold World.cell?
   simp only
   rw[hh b hzb]
  |map b=>exact hh b hzb
 have hkb:W.keptBut W' (·∈p++[]):=by
  refine⟨hp.os,hp.output,fun i hi=> ?_⟩
  rw[hh i hi]
  cases W.heap[i]? with
  |none=>rfl
  |some ob=>cases ob<;>simp
 have hsp:=hspec (ds++[]) (by simpa using hdl)
 refine Q9 hW' (fun b sp hd=> ?_) (fun sp hsp'=> ?_) hvars (by rw[hsp]) hkb hh (ok_one hres rfl (okWide_bool_mk hub _))
 ·rw[hsp,hres]
  exact trodAll_cons_mk (shut_bool hub _) trodAll_mk0
 ·rw[hsp,List.append_nil,List.append_nil]
  exact ya hl (fun t ht=>by
   have:=List.all_eq_true.1 hr t ht
   simpa using this) hA' hsame (fun z hz=>hsp' z (by simpa using hz))
end
end Vg
namespace Vg
open Go
structure dG where
 τ:Ty
 F:τ.den→Int→Option (Int×τ.den)
structure qG where
 t:Nat
 e:Ty
 l:List e.den
def me:Sh→Option (List Nat)
 | .leaf=>some []
 | .sl (.row t hs nd)=>if nd&&hs.all (·==t)then some [t]else none
 | .sl (.sha [])=>some []
 | .sl _=>none
 | .pair a b=>match me a,me b with
   |some x,some y=>if x.all (!y.contains ·)then some (x++y)else none
   |_,_=>none
def rowsOf:(τ:Ty)→τ.den→Sh→List qG
 | .sl e,l,.sl (.row t _ _)=>[⟨t,e,l⟩]
 | .pair a b,x,.pair s1 s2=>rowsOf a x.1 s1++rowsOf b x.2 s2
 |_,_,_=>[]
def gN (L:List qG):(τ:Ty)→τ.den→Sh→τ.den×Sh
 | .sl e',l,.sl (.row u hs nd)=>match L.find? (·.t==u)with
   |some p=>if h:p.e=e' then(cast (congrArg (fun τ=>List (Ty.den τ)) h) p.l,.sl (.row u [u] true))else(l,.sl .dead)
   |none=>match meets hs (L.map (·.t))with|true=>(l,.sl .dead)|false=>(l,.sl (.row u hs nd))
 | .sl _,l,.sl (.sha hs)=>match meets hs (L.map (·.t))with|true=>(l,.sl .dead)|false=>(l,.sl (.sha hs))
 | .pair a b,x,.pair s1 s2=>(((gN L a x.1 s1).1,(gN L b x.2 s2).1),.pair (gN L a x.1 s1).2 (gN L b x.2 s2).2)
 |_,x,sh=>(x,sh)
def TV.mark (L:List qG) (v:TV):TV:=⟨v.τ,(gN L v.τ v.x v.sh).1,(gN L v.τ v.x v.sh).2⟩
def SV.mark (L:List qG):SV→SV
 | .d v=> .d (v.mark L)
 | .box b v=> .box b (v.mark L)
 | .tup l=> .tup (l.map (TV.mark L))
 | .g _ _ _ _=> .no
 | .rdp _ _=> .no
 |v=>v
def Env.mark (E:Env) (L:List qG):Env:={E with s:=E.s.map (SV.mark L)}
section
variable {P:Program} {C:Cx} {w0:World} {c0:C0} {U:Nat→Prop} {E:Env} {a:Act} {w w':World} {G G':Gh} {L:List qG}
structure Marks (U:Nat→Prop) (G G':Gh) (w w':World) (L:List qG):Prop where
 good:∀p∈L,3≤p.t∧Good U G p.t
 hdr:G'.hdr=G.hdr
 bx:G'.bx=G.bx
 keep:∀b,0<G.col b→G.col b∉L.map (·.t)→w'.heap[b]?=w.heap[b]?∧G'.col b=G.col b
 row:∀p∈L,bV w' G' p.e p.l (G.hdr p.t) (.row p.t [p.t] true)
theorem Ot {u:Nat} (h:L.find? (·.t==u)=none):u∉L.map (·.t):=by
 intro hin
 rw[List.mem_map]at hin
 obtain⟨p,hp,rfl⟩:=hin
 rw[List.find?_eq_none]at h
 exact h p hp (by simp)
theorem Marks.agree (hM:Marks U G G' w w' L) {S T:List Nat} (h:∀c∈S,0<c∧c∉L.map (·.t)):uz S T w w' G G':=
 ⟨fun b hb=>(hM.keep b (h _ hb).1 (h _ hb).2).1,fun b hb=>(hM.keep b (h _ hb).1 (h _ hb).2).2,fun t _=>by rw[hM.hdr]⟩
theorem qk (hM:Marks U G G' w w' L):∀ {τ:Ty} {x:τ.den} {sh:Sh} {cs:List Value},aW w G τ x sh cs→(∀c∈sh.aD,0<c)→
 aW w' G' τ (gN L τ x sh).1 (gN L τ x sh).2 cs
 | .int _,_,.leaf,_,h,_=>h
 | .bool,_,.leaf,_,h,_=>h
 | .str,_,.leaf,_,h,_=>h
 | .sl e',l,.sl (.row u hs nd),cs,h,hp=>by
   obtain⟨v,rfl,hr⟩:=h
   simp only[gN]
   split
   ·rename_i p hfind
    have hpu:p.t=u:=by have:=List.find?_some hfind;simpa using this
    have hin:=List.mem_of_find?_eq_some hfind
    split
    ·rename_i he
     obtain⟨pt,pe,pl⟩:=p
     simp only at hpu he
     subst hpu he
     refine⟨v,rfl,?_⟩
     have:v=G.hdr pt:=hr.2.1.symm
     rw[this]
     exact hM.row _ hin
    ·exact⟨v,rfl,hr.one⟩
   ·rename_i hnone
    have hu:=Ot hnone
    split
    ·exact⟨v,rfl,hr.one⟩
    ·rename_i hm
     refine⟨v,rfl,bV.agree (hM.agree (fun c hc=>⟨hp c hc,?_⟩)) hr⟩
     rcases List.mem_cons.1 hc with rfl|hc
     ·exact hu
     ·exact mC hm c hc
 | .sl e',l,.sl (.sha hs),cs,h,hp=>by
   obtain⟨v,rfl,hr⟩:=h
   simp only[gN]
   split
   ·exact⟨v,rfl,hr.one⟩
   ·rename_i hm
    exact⟨v,rfl,bV.agree (hM.agree (fun c hc=>⟨hp c hc,mC hm c hc⟩)) hr⟩
 | .sl e',l,.sl .dead,cs,h,hp=>by
   obtain⟨v,rfl,hr⟩:=h
   exact⟨v,rfl,hr⟩
 | .pair a b',p,.pair s1 s2,cs,h,hp=>by
   obtain⟨c1,c2,rfl,h1,h2⟩:=h
   exact⟨c1,c2,rfl,qk hM h1 (fun c h=>hp c (by simp[Sh.aD,h])),qk hM h2 (fun c h=>hp c (by simp[Sh.aD,h]))⟩
 | .int _,_,.sl _,_,h,_| .int _,_,.pair _ _,_,h,_| .bool,_,.sl _,_,h,_| .bool,_,.pair _ _,_,h,_
 | .str,_,.sl _,_,h,_| .str,_,.pair _ _,_,h,_| .sl _,_,.leaf,_,h,_| .sl _,_,.pair _ _,_,h,_
 | .pair _ _,_,.leaf,_,h,_| .pair _ _,_,.sl _,_,h,_=>h.elim
theorem mB:∀ {τ:Ty} {x:τ.den} {sh:Sh},∀c∈(gN L τ x sh).2.aD,c∈sh.aD
 | .sl e',l,.sl (.row u hs nd),c,h=>by
   simp only[gN]at h
   split at h
   ·split at h
    ·simp only[Sh.aD,M.aD,List.mem_cons,List.not_mem_nil,or_false,or_self]at h
     subst h;simp[Sh.aD,M.aD]
    ·simp[Sh.aD,M.aD]at h
   ·split at h
    ·simp[Sh.aD,M.aD]at h
    ·exact h
 | .sl _,_,.sl (.sha hs),c,h=>by
   simp only[gN]at h
   split at h
   ·simp[Sh.aD,M.aD]at h
   ·exact h
 | .pair a b',p,.pair s1 s2,c,h=>by
   simp only[gN,Sh.aD,List.mem_append]at h⊢
   rcases h with h|h
   ·exact .inl (mB c h)
   ·exact .inr (mB c h)
 | .sl _,_,.leaf,_,h| .sl _,_,.pair _ _,_,h| .sl _,_,.sl .dead,_,h
 | .int _,_,.leaf,_,h| .int _,_,.sl _,_,h| .int _,_,.pair _ _,_,h| .bool,_,.leaf,_,h| .bool,_,.sl _,_,h| .bool,_,.pair _ _,_,h
 | .str,_,.leaf,_,h| .str,_,.sl _,_,h| .str,_,.pair _ _,_,h| .pair _ _,_,.leaf,_,h| .pair _ _,_,.sl _,_,h=>h
theorem bJ.mark (hM:Marks U G G' w w' L):∀ {s:SV} {mv:Value},bJ w G s mv→aX U G s→bJ w' G' (s.mark L) mv
 | .no,_,_,_=>trivial
 | .d v,mv,⟨cs,h1,h2⟩,hm=>⟨cs,h1,qk hM h2 (fun c h=>(hm.1 c h).1)⟩
 | .box t v,mv,⟨bk,c,el,h1,h2,h3,h4,h5,h6⟩,hm=>by
   have ht:=hm.2.1 t (by simp[SV.bt])
   have hn:t∉L.map (·.t):=by
    intro hin
    rw[List.mem_map]at hin
    obtain⟨p,hp,e⟩:=hin
    have:=(hM.good p hp).2.2.2
    rw[e,ht.2.2]at this;cases this
   have hk:=hM.keep bk (by rw[h4];exact ht.1) (by rw[h4];exact hn)
   exact⟨bk,c,el,h1,h2,by rw[hM.hdr];exact h3,hk.2.trans h4,hk.1.trans h5,qk hM h6 (fun c h=>(hm.1 c h).1)⟩
 | .ptr t o p τ,mv,⟨bk,h1,h2,h3⟩,_=>⟨bk,h1,by rw[hM.hdr];exact h2,h3⟩
 | .ept t e' i o p τ,mv,⟨b,off,n,cap,h1,h2,h3⟩,_=>⟨b,off,n,cap,h1,by rw[hM.hdr];exact h2,h3⟩
 | .rdp hs v,mv,_,_=>trivial
 | .tup l,mv,⟨vs,h1,h2,h3⟩,hm=>by
   refine⟨vs,h1,by simp[h2],fun i v hi=> ?_⟩
   rw[List.getElem?_map,Option.map_eq_some_iff]at hi
   obtain⟨v',hi',rfl⟩:=hi
   obtain⟨u,cs,hu,hmv,hv⟩:=h3 i v' hi'
   exact⟨u,cs,hu,hmv,qk hM hv (fun c hcc=>(hm.1 c (List.mem_flatMap.2 ⟨v',List.mem_of_getElem? hi',hcc⟩)).1)⟩
 | .g j w2 act v,mv,_,_=>trivial
theorem aX.mark (hM:Marks U G G' w w' L):∀ {s:SV},aX U G s→aX U G' (s.mark L)
 | .no,h| .ptr ..,h| .ept ..,h=>by simpa only[aX,SV.mark,hM.bx]using h
 | .d v,hm=>by rw[SV.mark,aX,hM.bx];exact aX.d fun c hc=>hm.1 c (mB c hc)
 | .box t v,hm=>by
   simp only[SV.mark,aX,hM.bx]
   exact⟨fun c hc=>hm.1 c (mB c hc),hm.2.1,hm.2.2⟩
 | .rdp hs v,hm=>by simp[aX,SV.mark,SV.sc,SV.bt,SV.rt]
 | .tup l,hm=>by
   refine⟨fun c hc=> ?_,by simp[SV.mark,SV.bt],by simp[SV.mark,SV.rt]⟩
   simp only[SV.mark,SV.sc,List.flatMap_map,List.mem_flatMap]at hc
   obtain⟨v,hv,hc⟩:=hc
   rw[hM.bx]
   exact hm.1 c (List.mem_flatMap.2 ⟨v,hv,mB c hc⟩)
 | .g j w2 act v,hm=>by simp[aX,SV.mark,SV.sc,SV.bt,SV.rt]
theorem M5 {s:SV} {t:Nat} {u:TV} (h:s.mark L= .box t u):∃u',s= .box t u':=by
 cases s with
 |box t' v=>simp only[SV.mark,SV.box.injEq]at h;exact⟨v,by rw[h.1]⟩
 |_=>simp[SV.mark]at h
theorem T3 {s:SV} {j:Nat} {w act:Bool} {v:SV}:s.mark L≠ .g j w act v:=by
 cases s<;>simp[SV.mark]
theorem Inv.mark (hI:Inv w0 c0 U E a w G) (hM:Marks U G G' w w' L) (colU:∀b,0<G'.col b→U (G'.col b)) (lt:∀b,0<G'.col b→b<w'.heap.size)
 (fresh:∀b,3≤G'.col b→∃c el,w'.heap[b]?=some (.cells c el (0,0)))
 (frame:∀b,b<w0.heap.size→c0.col b<3→G'.col b=c0.col b∧w'.heap[b]?=w0.heap[b]?)
 (one:∀b,G'.col b=1→G.col b=1) (size:w.heap.size≤w'.heap.size)
 (os:w'.os=w.os) (tape:w'.tape=w.tape) (output:w'.output=w.output):Inv w0 c0 U (E.mark L) a w' G':=by
 have hg:∀s,(E.mark L).s.getD s .no=(E.s.getD s .no).mark L:=fun s=>getD_map (T:=SV.mark L) rfl s
 have hm:∀s,aX U G' ((E.s.getD s .no).mark L):=fun s=>aX.mark hM (hI.lh s)
 refine⟨by simpa[Env.mark]using hI.len,fun s=> ?_,fun s=> ?_,fun s=> ?_,fun s=> ?_,fun s s' t v v' h1 h2=> ?_,colU,lt,fresh,frame,fun b hb=>hI.one b (one b hb),Nat.le_trans hI.size size,os.trans hI.os,tape.trans hI.tape,output.trans hI.output,hI.defers,?_,fun hk t v e=>⟨(hI.hk hk t v e).1,by rw[hM.hdr];exact(hI.hk hk t v e).2⟩⟩
 ·rw[hg];exact bJ.mark hM (hI.slots s) (hI.lh s)
 ·rw[hg];exact(hm s).1
 ·rw[hg];exact(hm s).2.1
 ·rw[hg];exact(hm s).2.2
 ·rw[hg]at h1 h2
  obtain⟨u,hu⟩:=M5 h1
  obtain⟨u',hu'⟩:=M5 h2
  exact hI.uni s s' t u u' hu hu'
 ·rw[hM.bx];exact hI.two
end
end Vg
namespace Vg
open Go
def GW (w:World) (b:Nat):Prop:=∃c el,w.heap[b]?=some (.cells c el (0,0))
structure Mc (w w':World) (τ:Ty) (y:τ.den) (cs:List Value) (B B':List Nat):Prop where
 rep:aR w' τ y cs B'
 nd:B'.Nodup
 inn:∀b∈B',b∈B∨w.heap.size≤b
 fresh:∀b∈B',GW w' b
 frame:∀b,b<w.heap.size→b∉B→w'.heap[b]?=w.heap[b]?
 size:w.heap.size≤w'.heap.size
 os:w'.os=w.os
 tape:w'.tape=w.tape
 output:w'.output=w.output
def vM (P:Program) (f:FuncId) (m:dG):Prop:=
 ∀(w:World) (x:m.τ.den) (n k:Int) (y:m.τ.den) (cs:List Value) (B:List Nat),m.F x n=some (k,y)→aR w m.τ x cs B→B.Nodup→(∀b∈B,GW w b)→
  nE P f #[bR m.τ cs,.int .i64 n] w (fun mv w'=>mv= .int .i64 k∧∃B',Mc w w' m.τ y cs B B')
section
variable {P:Program} {C:Cx} {w0:World} {c0:C0} {U:Nat→Prop} {E:Env} {a:Act} {w w':World} {G G':Gh} {L:List qG}
theorem Inv.Q5 (hI:Inv w0 c0 U E a w G) (hgood:∀p∈L,3≤p.t∧Good U G p.t) {B B2:List Nat} (f:Nat→Nat)
 (hB:∀b∈B,G.col b∈L.map (·.t)) (hB2:∀b∈B2,(G.col b∈L.map (·.t)∨w.heap.size≤b)∧f b∈L.map (·.t)∧GW w' b)
 (hframe:∀b,b<w.heap.size→b∉B→w'.heap[b]?=w.heap[b]?) (size:w.heap.size≤w'.heap.size)
 (os:w'.os=w.os) (tape:w'.tape=w.tape) (output:w'.output=w.output)
 (hrow:∀G':Gh,G'.hdr=G.hdr→(∀b∈B2,G'.col b=f b)→∀p∈L,bV w' G' p.e p.l (G.hdr p.t) (.row p.t [p.t] true)):
 ∃G',Inv w0 c0 U (E.mark L) a w' G'∧G'.hdr=G.hdr∧G'.bx=G.bx:=by
 have h3:∀t∈L.map (·.t),3≤t∧Good U G t:=by
  intro t ht
  rw[List.mem_map]at ht
  obtain⟨p,hp,rfl⟩:=ht
  exact hgood p hp
 let G':Gh:=⟨fun b=>if b∈B2 then f b else if G.col b∈L.map (·.t)then 0 else G.col b,G.hdr,G.bx⟩
 have hin:∀b∈B2,G'.col b=f b:=fun b hb=>by simp[G',hb]
 have hc:∀b,(b∈B2∧G'.col b=f b)∨(b∉B2∧G.col b∈L.map (·.t)∧G'.col b=0)∨(b∉B2∧G.col b∉L.map (·.t)∧G'.col b=G.col b):=by
  intro b
  by_cases h1:b∈B2
  ·exact .inl ⟨h1,hin b h1⟩
  ·by_cases h2:G.col b∈L.map (·.t)
   ·exact .inr (.inl ⟨h1,h2,by simp only[G',h1,h2,if_true,if_false]⟩)
   ·exact .inr (.inr ⟨h1,h2,by simp only[G',h1,h2,if_false]⟩)
 have hnot:∀b,b<w.heap.size→G.col b∉L.map (·.t)→b∉B2∧b∉B:=by
  intro b hb hn
  refine⟨fun h=> ?_,fun h=>hn (hB b h)⟩
  rcases(hB2 b h).1 with h|h
  ·exact hn h
  ·omega
 refine⟨G',hI.mark (G':=G') ⟨hgood,rfl,rfl,fun b hb hn=> ?_,hrow G' rfl hin⟩ (fun b hb=> ?_) (fun b hb=> ?_) (fun b hb=> ?_) (fun b hb hcb=> ?_) (fun b hb=> ?_) size os tape output,rfl,rfl⟩
 ·obtain⟨q1,q2⟩:=hnot b (hI.lt b hb) hn
  refine⟨hframe b (hI.lt b hb) q2,?_⟩
  rcases hc b with⟨h,_⟩|⟨_,h,_⟩|⟨_,_,h⟩
  ·exact absurd h q1
  ·exact absurd h hn
  ·exact h
 ·rcases hc b with⟨h,e⟩|⟨_,h,e⟩|⟨_,_,e⟩
  ·rw[e];exact(h3 _ (hB2 b h).2.1).2.2.1
  ·omega
  ·rw[e]at hb⊢;exact hI.colU b hb
 ·rcases hc b with⟨h,e⟩|⟨_,h,e⟩|⟨_,_,e⟩
  ·obtain⟨c,el,hh⟩:=(hB2 b h).2.2
   exact lt_of_block hh
  ·omega
  ·rw[e]at hb;exact Nat.lt_of_lt_of_le (hI.lt b hb) size
 ·rcases hc b with⟨h,e⟩|⟨_,h,e⟩|⟨_,hn,e⟩
  ·exact(hB2 b h).2.2
  ·omega
  ·rw[e]at hb
   have hl:=hI.lt b (by omega)
   rw[hframe b hl (hnot b hl hn).2]
   exact hI.fresh b hb
 ·have hf:=hI.frame b hb hcb
  have hl:b<w.heap.size:=Nat.lt_of_lt_of_le hb hI.size
  have hn:G.col b∉L.map (·.t):=fun h=>by have:=(h3 _ h).1;omega
  obtain⟨q1,q2⟩:=hnot b hl hn
  refine⟨?_,by rw[hframe b hl q2];exact hf.2⟩
  rcases hc b with⟨h,_⟩|⟨_,h,_⟩|⟨_,_,h⟩
  ·exact absurd h q1
  ·exact absurd h hn
  ·rw[h];exact hf.1
 ·rcases hc b with⟨h,e⟩|⟨_,h,e⟩|⟨_,hn,e⟩
  ·have:=(h3 _ (hB2 b h).2.1).1;omega
  ·omega
  ·rw[←e];exact hb
theorem xi:∀ {τ:Ty} {x:τ.den} {sh:Sh} {cs:List Value} {ts:List Nat},aW w G τ x sh cs→me sh=some ts→sh.own=some ts
 | .int _,_,.leaf,_,ts,_,h| .bool,_,.leaf,_,ts,_,h| .str,_,.leaf,_,ts,_,h=>h
 | .sl e,l,.sl m,cs,ts,h,ho=>by
   obtain⟨v,rfl,hr⟩:=h
   cases m with
   |row t hs nd=>
    have h3:=hr.1
    simp only[me]at ho
    split at ho
    ·rename_i hc
     simp only[Bool.and_eq_true,List.all_eq_true,beq_iff_eq]at hc
     cases ho
     have hf:hs.filter (·≠t)=[]:=by
      rw[List.filter_eq_nil_iff]
      intro c hcc
      simp[hc.2 c hcc]
     have ha:hs.all (3≤·)=true:=by
      rw[List.all_eq_true]
      intro c hcc
      simp[hc.2 c hcc,h3]
     simp only[Sh.own,M.own,hc.1,ha,hf,Bool.and_self,if_true]
    ·cases ho
   |sha hs=>
    cases hs with
    |nil=>exact ho
    |cons=>simp[me]at ho
   |dead=>simp[me]at ho
 | .pair a b,p,.pair s1 s2,cs,ts,h,ho=>by
   obtain⟨c1,c2,rfl,h1,h2⟩:=h
   simp only[me]at ho
   split at ho
   ·rename_i x y hx hy
    simp only[Sh.own,xi h1 hx,xi h2 hy]
    exact ho
   ·cases ho
 | .int _,_,.sl _,_,_,h,_| .int _,_,.pair _ _,_,_,h,_| .bool,_,.sl _,_,_,h,_| .bool,_,.pair _ _,_,_,h,_
 | .str,_,.sl _,_,_,h,_| .str,_,.pair _ _,_,_,h,_| .sl _,_,.leaf,_,_,h,_| .sl _,_,.pair _ _,_,_,h,_
 | .pair _ _,_,.leaf,_,_,h,_| .pair _ _,_,.sl _,_,_,h,_=>h.elim
theorem H6:∀ {τ:Ty} {x y:τ.den} {sh:Sh} {cs:List Value} {ts:List Nat} {B':List Nat},aW w G τ x sh cs→me sh=some ts→aR w' τ y cs B'→B'.Nodup→
 (rowsOf τ y sh).map (·.t)=ts∧(∀t∈ts,3≤t)∧∃f:Nat→Nat,(∀b∈B',f b∈ts)∧∀G':Gh,G'.hdr=G.hdr→(∀b∈B',G'.col b=f b)→∀p∈rowsOf τ y sh,bV w' G' p.e p.l (G.hdr p.t) (.row p.t [p.t] true)
 | .int _,_,_,.leaf,_,ts,B',_,h,hr,_=>by
   cases h;cases hr.2;exact⟨rfl,by simp,fun _=>0,by simp,by simp[rowsOf]⟩
 | .bool,_,_,.leaf,_,ts,B',_,h,hr,_=>by
   cases h;cases hr.2;exact⟨rfl,by simp,fun _=>0,by simp,by simp[rowsOf]⟩
 | .str,_,_,.leaf,_,ts,B',_,h,hr,_=>by
   cases h;cases hr.2;exact⟨rfl,by simp,fun _=>0,by simp,by simp[rowsOf]⟩
 | .sl e,l,y,.sl m,cs,ts,B',h,ho,hr,hn=>by
   obtain⟨v,rfl,hrow⟩:=h
   obtain⟨v',hv',hS⟩:=hr
   cases hv'
   cases m with
   |row t hs nd=>
    simp only[me]at ho
    split at ho
    ·cases ho
     refine⟨rfl,by simpa using hrow.1,fun _=>t,by simp,fun G' h1 h2 p hp=> ?_⟩
     simp only[rowsOf,List.mem_singleton]at hp
     subst hp
     refine⟨hrow.1,by rw[h1],B',by rw[hrow.2.1];exact hS,?_⟩
     rintro b Bs rfl
     rw[List.nodup_cons]at hn
     exact⟨h2 b (by simp),hn.1,fun z hz=>by simp[h2 z (by simp[hz])],fun _=>hn.2⟩
    ·cases ho
   |sha hs=>
    cases hs with
    |nil=>
     cases ho
     have hv:=hrow.2 rfl
     have hB:B'=[]:=by
      rcases hS with⟨_,_,hb⟩|⟨b,off,cap,c,el,fz,Bs,hvv,_⟩
      ·exact hb
      ·rw[hv]at hvv;cases hvv
     subst hB
     exact⟨rfl,by simp,fun _=>0,by simp,by simp[rowsOf]⟩
    |cons=>simp[me]at ho
   |dead=>simp[me]at ho
 | .pair a b,p,y,.pair s1 s2,cs,ts,B',h,ho,hr,hn=>by
   obtain⟨c1,c2,rfl,h1,h2⟩:=h
   obtain⟨d1,d2,B1,B2,hcs,rfl,r1,r2⟩:=hr
   have hl1:=aW.len h1
   have hl2:=aR.len r1
   obtain⟨e1,e2⟩:=List.append_inj hcs (by omega)
   subst e1 e2
   simp only[me]at ho
   split at ho
   ·rename_i u v hu hv
    split at ho
    ·cases ho
     rw[List.nodup_append]at hn
     obtain⟨n1,n2,n3⟩:=hn
     obtain⟨i1,i3,f1,j1,k1⟩:=H6 h1 hu r1 n1
     obtain⟨i2,i4,f2,j2,k2⟩:=H6 h2 hv r2 n2
     refine⟨by simp[rowsOf,i1,i2],fun t ht=>(List.mem_append.1 ht).elim (i3 t) (i4 t),fun z=>if z∈B1 then f1 z else f2 z,fun z hz=> ?_,fun G' g1 g2 q hq=> ?_⟩
     ·by_cases hz1:z∈B1
      ·simp only[hz1,if_true];exact List.mem_append_left _ (j1 z hz1)
      ·simp only[hz1,if_false]
       exact List.mem_append_right _ (j2 z ((List.mem_append.1 hz).resolve_left hz1))
     ·simp only[rowsOf,List.mem_append]at hq
      rcases hq with hq|hq
      ·exact k1 G' g1 (fun z hz=>by rw[g2 z (List.mem_append_left _ hz)];simp[hz]) q hq
      ·exact k2 G' g1 (fun z hz=>by
        rw[g2 z (List.mem_append_right _ hz)]
        have:z∉B1:=fun h=>n3 z h z hz rfl
        simp[this]) q hq
    ·cases ho
   ·cases ho
 | .int _,_,_,.sl _,_,_,_,h,_,_,_| .int _,_,_,.pair _ _,_,_,_,h,_,_,_| .bool,_,_,.sl _,_,_,_,h,_,_,_| .bool,_,_,.pair _ _,_,_,_,h,_,_,_
 | .str,_,_,.sl _,_,_,_,h,_,_,_| .str,_,_,.pair _ _,_,_,_,h,_,_,_| .sl _,_,_,.leaf,_,_,_,h,_,_,_| .sl _,_,_,.pair _ _,_,_,_,h,_,_,_
 | .pair _ _,_,_,.leaf,_,_,_,h,_,_,_| .pair _ _,_,_,.sl _,_,_,_,h,_,_,_=>h.elim
theorem QX (hI:Inv w0 c0 U E a w G) {fid:FuncId} {m:dG} (hM:vM P fid m) {x y:m.τ.den} {sh:Sh} {cs:List Value} {ts:List Nat} (hv:aW w G m.τ x sh cs) (hg:∀c∈sh.aD,Good U G c) (ho:me sh=some ts)
 {n k:Int} (hF:m.F x n=some (k,y)):
 nE P fid #[bR m.τ cs,.int .i64 n] w (fun mv w'=>mv=Value.int .i64 k∧∃G',Inv w0 c0 U (E.mark (rowsOf m.τ y sh)) a w' G'):=by
 have hown:=xi hv ho
 obtain⟨B,hB,hn,hc⟩:=hv.own hown
 have h3:=Sh.gX hv hown
 have:=hM w x n k y cs B hF hB hn (fun b hb=>hI.fresh b (h3 _ (hc b hb)))
 unfold nE at this⊢
 have key:∀(mv:Value) (w':World),(mv= .int .i64 k∧∃B',Mc w w' m.τ y cs B B')→(mv= .int .i64 k∧∃G',Inv w0 c0 U (E.mark (rowsOf m.τ y sh)) a w' G'):=by
  rintro mv w' ⟨h1,B',hp⟩
  refine⟨h1,?_⟩
  obtain⟨i1,i2,f,j1,j2⟩:=H6 hv ho hp.rep hp.nd
  obtain⟨G',q,_⟩:=hI.Q5 (L:=rowsOf m.τ y sh) (B:=B) (B2:=B') (w':=w') (fun p hp=>by
   have hin:p.t∈ts:=by rw[←i1];exact List.mem_map_of_mem hp
   exact⟨i2 _ hin,hg _ (Sh.fV hown _ hin)⟩) f (fun b hb=>by rw[i1];exact hc b hb)
   (fun b hb=>⟨(hp.inn b hb).imp (fun h=>by rw[i1];exact hc b h) id,by rw[i1];exact j1 b hb,hp.fresh b hb⟩) hp.frame hp.size hp.os hp.tape hp.output j2
  exact⟨G',q⟩
 split at this
 ·exact Calls.mono this (fun e w' ⟨v,h1,h2⟩=>⟨v,h1,key v w' h2⟩)
 ·exact key _ _ this
 ·exact this
end
end Vg
namespace Vg
open Go
section
variable {P:Program} {C:Cx} {w0:World} {c0:C0} {U:Nat→Prop} {E:Env} {a:Act} {w w':World} {G G':Gh} {L:List qG}
theorem aR.part:∀ {p:List Bool} {τ:Ty} {x:τ.den} {sh:Sh} {cs:List Value} {B:List Nat} {r:TV},fI τ x sh p=some r→aR w τ x cs B→
 ∃Ba Bo Bb,B=Ba++Bo++Bb∧aR w r.τ r.x ((cs.drop (τ.off p)).take r.τ.sz) Bo∧τ.off p+r.τ.sz≤τ.sz∧
  ∀(w':World) (v:r.τ.den) (sv:Sh) (Bv:List Nat) (y:τ.den) (s:Sh),(∀b∈Ba++Bb,w'.heap[b]?=w.heap[b]?)→aR w' r.τ v ((cs.drop (τ.off p)).take r.τ.sz) Bv→
   dV τ x sh p ⟨r.τ,v,sv⟩=some (y,s)→aR w' τ y cs (Ba++Bv++Bb)
 | [],τ,x,sh,cs,B,r,hr,h=>by
   have:r=⟨τ,x,sh⟩:=by cases τ<;>simp_all[fI]
   subst this
   have hl:=aR.len h
   have h0:τ.off []=0:=by cases τ<;>rfl
   have hcs:(cs.drop 0).take τ.sz=cs:=by rw[List.drop_zero,List.take_of_length_le (by omega)]
   refine⟨[],B,[],by simp,by rw[h0,hcs];exact h,by rw[h0];simp,fun w' v sv Bv y s _ hv hp=> ?_⟩
   have hp':ei ⟨τ,v,sv⟩ τ=some y:=by
    cases τ<;>(simp only[dV]at hp;split at hp<;>simp_all)
   have e:=cJ hp'
   simp only[TV.mk.injEq,heq_eq_eq,true_and]at e
   rw[h0,hcs]at hv
   rw[←e.1]
   simpa using hv
 |false::p,.pair a b,x,.pair s1 s2,cs,B,r,hr,h=>by
  obtain⟨c1,c2,B1,B2,rfl,rfl,h1,h2⟩:=h
  obtain⟨Ba,Bo,Bb,rfl,hq,hle,hk⟩:=aR.part (p:=p) (by simpa[fI]using hr) h1
  have hl:=aR.len h1
  have e:((c1++c2).drop (a.off p)).take r.τ.sz=(c1.drop (a.off p)).take r.τ.sz:=by
   rw[List.drop_append_of_le_length (by omega),List.take_append_of_le_length (by simp;omega)]
  refine⟨Ba,Bo,Bb++B2,by simp,by simp only[Ty.off];rw[e];exact hq,by simp only[Ty.off,Ty.sz];omega,fun w' v sv Bv y s hw hv hp=> ?_⟩
  simp only[Ty.off]at hv
  rw[e]at hv
  simp only[dV]at hp
  split at hp
  ·rename_i y1 s1' hq'
   cases hp
   have:=hk w' v sv Bv y1 s1' (fun b hb=>hw b (by simp only[List.mem_append]at hb⊢;rcases hb with hb|hb<;>simp[hb])) hv hq'
   exact⟨c1,c2,_,B2,rfl,by simp,this,aR.mono (fun b hb=>hw b (by simp[hb])) h2⟩
  ·cases hp
 |true::p,.pair a b,x,.pair s1 s2,cs,B,r,hr,h=>by
  obtain⟨c1,c2,B1,B2,rfl,rfl,h1,h2⟩:=h
  obtain⟨Ba,Bo,Bb,rfl,hq,hle,hk⟩:=aR.part (p:=p) (by simpa[fI]using hr) h2
  have hl:=aR.len h1
  have e:((c1++c2).drop (a.sz+b.off p)).take r.τ.sz=(c2.drop (b.off p)).take r.τ.sz:=by
   rw[←hl,List.drop_append,List.drop_of_length_le (by omega)]
   simp
  refine⟨B1++Ba,Bo,Bb,by simp,by simp only[Ty.off];rw[e];exact hq,by simp only[Ty.off,Ty.sz];omega,fun w' v sv Bv y s hw hv hp=> ?_⟩
  simp only[Ty.off]at hv
  rw[e]at hv
  simp only[dV]at hp
  split at hp
  ·rename_i y1 s1' hq'
   cases hp
   have:=hk w' v sv Bv y1 s1' (fun b hb=>hw b (by simp only[List.mem_append]at hb⊢;rcases hb with hb|hb<;>simp[hb])) hv hq'
   exact⟨c1,c2,B1,_,rfl,by simp,aR.mono (fun b hb=>hw b (by simp[hb])) h1,this⟩
  ·cases hp
 |b::p,.int _,_,_,_,_,_,hr,_|b::p,.bool,_,_,_,_,_,hr,_|b::p,.str,_,_,_,_,_,hr,_|b::p,.sl _,_,_,_,_,_,hr,_=>by simp[fI]at hr
 |false::p,.pair _ _,_,.leaf,_,_,_,hr,_|false::p,.pair _ _,_,.sl _,_,_,_,hr,_=>by simp[fI]at hr
 |true::p,.pair _ _,_,.leaf,_,_,_,hr,_|true::p,.pair _ _,_,.sl _,_,_,_,hr,_=>by simp[fI]at hr
def cellsOf (w:World) (b o n:Nat):List Value:=match w.heap[b]? with|some (.cells c _ _)=>(c.toList.drop o).take n|_=>[]
theorem TK (hI:Inv w0 c0 U E a w G) {fid:FuncId} {m:dG} (hM:vM P fid m) {b:Nat} {e:Ty} {l:List e.den} {hs:List Nat} (hrow:E.rd.row b e=some (l,hs,true)) (hhs:hs.all (·==b)=true)
 {bk of n cap:Nat} (hb:G.hdr b= .slice (some ⟨bk,of,none⟩) n cap) {i:Nat} (hi:i<n) {sh0:Sh} {path:List Bool} {r:TV} (hsub:fI e (l.getD i e.aa) sh0 path=some r) {x y:m.τ.den} (hx:ei r m.τ=some x)
 {z k:Int} (hF:m.F x z=some (k,y)) {sv:Sh} {ye:e.den} {se:Sh} (hput:dV e (l.getD i e.aa) sh0 path ⟨m.τ,y,sv⟩=some (ye,se)):
 (∃c el fz,w.heap[bk]?=some (.cells c el fz)∧of+i*e.sz+e.off path+m.τ.sz≤c.size)∧
 nE P fid #[bR m.τ (cellsOf w bk (of+i*e.sz+e.off path) m.τ.sz),.int .i64 z] w (fun mv w'=>mv=Value.int .i64 k∧∃G',Inv w0 c0 U (E.mark [⟨b,e,l.set i ye⟩]) a w' G'):=by
 obtain⟨⟨vh,hvh⟩,hgood⟩:=hI.dt hrow
 have hvh0:vh=G.hdr b:=hvh.2.1.symm
 obtain⟨hb3,hh,B,hB,hc⟩:=hvh
 rw[hvh0,hb]at hB
 have hall:∀h∈hs,h=b:=by
  rw[List.all_eq_true]at hhs
  intro h hh;simpa using hhs h hh
 rcases hB with⟨⟨ao,hB⟩,hl0,_⟩|⟨bk',of',cap',c,el,fz,Bs,hvv',hcap,hheap,hsz,rfl,hl⟩
 ·cases hB;omega
 ·simp only[Value.slice.injEq,Option.some.injEq,Addr.mk.injEq,and_true]at hvv'
  obtain⟨⟨rfl,rfl⟩,rfl,rfl⟩:=hvv'
  obtain⟨j1,j2,j3,j4⟩:=hc bk Bs rfl
  have hnd:=j4 rfl
  have hget:l[i]?=some (l.getD i e.aa):=by
   rw[List.getD_eq_getElem?_getD,List.getElem?_eq_getElem hi];rfl
  obtain⟨B1,Bx,B2,rfl,hx1,hx2,hx3⟩:=bd.get (sz:=e.sz) (fun x c B h=>aR.len h) hl hget
  obtain⟨Ba,Bo,Bb,rfl,hpr,hle,hk⟩:=aR.part hsub hx1
  have er:=cJ hx
  generalize r.sh=rsh at er
  subst er
  have hmul:(i+1)*e.sz≤l.length*e.sz:=Nat.mul_le_mul_right _ hi
  have hmul2:l.length*e.sz≤cap*e.sz:=Nat.mul_le_mul_right _ hcap
  rw[Nat.add_mul,Nat.one_mul]at hmul
  have hcells:((((c.toList.drop of).take (l.length*e.sz)).drop (i*e.sz)).take e.sz |>.drop (e.off path)).take m.τ.sz=(c.toList.drop (of+i*e.sz+e.off path)).take m.τ.sz:=by
   simp only[List.drop_take,List.drop_drop,List.take_take]
   simp only at hle
   rw[Nat.min_eq_left (by omega)]
  simp only at hpr hle hk
  rw[hcells]at hpr hk
  have hCo:cellsOf w bk (of+i*e.sz+e.off path) m.τ.sz=(c.toList.drop (of+i*e.sz+e.off path)).take m.τ.sz:=by
   unfold cellsOf;rw[hheap]
  refine⟨⟨c,el,fz,hheap,by omega⟩,?_⟩
  have hcolB:∀z∈B1++(Ba++Bo++Bb)++B2,G.col z=b:=fun z hz=>hall _ (j3 z hz)
  have hndo:Bo.Nodup:=by
   rw[List.nodup_append,List.nodup_append,List.nodup_append,List.nodup_append]at hnd
   exact hnd.1.2.1.1.2.1
  have hU:=hM w x z k y _ Bo hF hpr hndo (fun q hq=>hI.fresh q (by rw[hcolB q (by simp[hq])];exact hb3))
  rw[hCo]
  have key:∀(mv:Value) (w':World),(mv= .int .i64 k∧∃B',Mc w w' m.τ y ((c.toList.drop (of+i*e.sz+e.off path)).take m.τ.sz) Bo B')→(mv= .int .i64 k∧∃G',Inv w0 c0 U (E.mark [⟨b,e,l.set i ye⟩]) a w' G'):=by
   rintro mv w' ⟨h1,Bv,hp⟩
   refine⟨h1,?_⟩
   have hsame:∀q∈bk::(B1++(Ba++Bo++Bb)++B2),q∉Bo→w'.heap[q]?=w.heap[q]?:=by
    intro q hq hn
    refine hp.frame q (hI.lt q ?_) hn
    rcases List.mem_cons.1 hq with rfl|hq
    ·rw[j1];omega
    ·rw[hcolB q hq];omega
   have hbkO:bk∉Bo:=fun h=>j2 (by simp[h])
   have hout:∀q,q∈B1∨q∈Ba∨q∈Bb∨q∈B2→q∉Bo:=by
    intro q hq hqo
    rw[List.nodup_append,List.nodup_append,List.nodup_append,List.nodup_append]at hnd
    obtain⟨⟨n1,⟨⟨m1,m2,m3⟩,m4,m5⟩,n3⟩,n4,n5⟩:=hnd
    rcases hq with hq|hq|hq|hq
    ·exact n3 q hq q (by simp[hqo]) rfl
    ·exact m3 q hq q hqo rfl
    ·exact m5 q (by simp[hqo]) q hq rfl
    ·exact n5 q (by simp[hqo]) q hq rfl
   have hye:=hk w' y sv Bv ye se (fun q hq=>hsame q (by simp only[List.mem_append]at hq;rcases hq with hq|hq<;>simp[hq]) (hout q (by simp only[List.mem_append]at hq;rcases hq with hq|hq<;>simp[hq]))) hp.rep hput
   have hset:=bd.set (sz:=e.sz) (l:=l) (i:=i) (cs:=(c.toList.drop of).take (l.length*e.sz)) hi hye
    (bd.world (fun q hq=>hsame q (by simp[hq]) (hout q (by simp[hq]))) hx2) (bd.world (fun q hq=>hsame q (by simp[hq]) (hout q (by simp[hq]))) hx3)
   have hjoin:((c.toList.drop of).take (l.length*e.sz)).take (i*e.sz)++(((c.toList.drop of).take (l.length*e.sz)).drop (i*e.sz)).take e.sz++((c.toList.drop of).take (l.length*e.sz)).drop ((i+1)*e.sz)=(c.toList.drop of).take (l.length*e.sz):=by
    rw[Nat.add_mul,Nat.one_mul,←List.drop_drop,List.append_assoc,List.take_append_drop,List.take_append_drop]
   rw[hjoin]at hset
   have hheap':w'.heap[bk]?=some (.cells c el fz):=(hsame bk (by simp) hbkO).trans hheap
   have hnew:∀q∈Bv,q∉bk::(B1++(Ba++Bo++Bb)++B2)∨q∈Bo:=by
    intro q hq
    rcases hp.inn q hq with h|h
    ·exact .inr h
    ·refine .inl (fun hin=> ?_)
     have:q<w.heap.size:=hI.lt q (by
      rcases List.mem_cons.1 hin with rfl|hin
      ·rw[j1];omega
      ·rw[hcolB q hin];omega)
     omega
   have hnd2:(bk::(B1++(Ba++Bv++Bb)++B2)).Nodup:=by
    rw[List.nodup_cons]
    have hd:∀q∈Bv,q≠bk∧q∉B1∧q∉Ba∧q∉Bb∧q∉B2:=by
     intro q hq
     rcases hnew q hq with h|h
     ·simp only[List.mem_cons,List.mem_append,not_or]at h
      exact⟨h.1,h.2.1.1,h.2.1.2.1.1,h.2.1.2.2,h.2.2⟩
     ·exact⟨fun e=>hbkO (e▸h),fun hh=>hout q (.inl hh) h,fun hh=>hout q (.inr (.inl hh)) h,fun hh=>hout q (.inr (.inr (.inl hh))) h,fun hh=>hout q (.inr (.inr (.inr hh))) h⟩
    constructor
    ·intro hin
     simp only[List.mem_append,not_or]at hin j2
     rcases hin with(hin|((hin|hin)|hin))|hin
     ·exact j2.1.1 hin
     ·exact j2.1.2.1.1 hin
     ·exact(hd bk hin).1 rfl
     ·exact j2.1.2.2 hin
     ·exact j2.2 hin
    ·rw[List.nodup_append,List.nodup_append,List.nodup_append,List.nodup_append]at hnd⊢
     obtain⟨⟨n1,⟨⟨m1,m2,m3⟩,m4,m5⟩,n3⟩,n4,n5⟩:=hnd
     refine⟨⟨n1,⟨⟨m1,hp.nd,fun u hu v hv e=>(hd v hv).2.2.1 (e▸hu)⟩,m4,fun u hu v hv e=> ?_⟩,fun u hu v hv e=> ?_⟩,n4,fun u hu v hv e=> ?_⟩
     ·rcases List.mem_append.1 hu with hu|hu
      ·exact m5 u (by simp[hu]) v hv e
      ·exact(hd u hu).2.2.2.1 (e▸hv)
     ·simp only[List.mem_append]at hv
      rcases hv with(hv|hv)|hv
      ·exact n3 u hu v (by simp[hv]) e
      ·exact(hd v hv).2.1 (e▸hu)
      ·exact n3 u hu v (by simp[hv]) e
     ·simp only[List.mem_append]at hu
      rcases hu with hu|((hu|hu)|hu)
      ·exact n5 u (by simp[hu]) v hv e
      ·exact n5 u (by simp[hu]) v hv e
      ·exact(hd u hu).2.2.2.2 (e▸hv)
      ·exact n5 u (by simp[hu]) v hv e
   obtain⟨G',q,_⟩:=hI.Q5 (L:=[⟨b,e,l.set i ye⟩]) (B:=Bo) (B2:=bk::(B1++(Ba++Bv++Bb)++B2)) (w':=w') (fun p hp=>by
    simp only[List.mem_singleton]at hp;subst hp;exact⟨hb3,hgood b (by simp)⟩) (fun _=>b) (fun q hq=>by simp[hcolB q (by simp[hq])])
    (fun q hq=>by
     refine⟨?_,by simp,?_⟩
     ·by_cases hv:q∈Bv
      ·rcases hp.inn q hv with h|h
       ·left;simp[hcolB q (by simp[h])]
       ·exact .inr h
      ·left
       rcases List.mem_cons.1 hq with rfl|hq
       ·simp[j1]
       ·simp only[List.mem_append]at hq
        have:q∈B1++(Ba++Bo++Bb)++B2:=by
         rcases hq with(h|((h|h)|h))|h
         ·simp[h]
         ·simp[h]
         ·exact absurd h hv
         ·simp[h]
         ·simp[h]
        simp[hcolB q this]
     ·by_cases hv:q∈Bv
      ·exact hp.fresh q hv
      ·have hq':q∈bk::(B1++(Ba++Bo++Bb)++B2)∧q∉Bo:=by
        rcases List.mem_cons.1 hq with rfl|hq
        ·exact⟨by simp,hbkO⟩
        ·simp only[List.mem_append]at hq
         rcases hq with(h|((h|h)|h))|h
         ·exact⟨by simp[h],hout q (by simp[h])⟩
         ·exact⟨by simp[h],hout q (by simp[h])⟩
         ·exact absurd h hv
         ·exact⟨by simp[h],hout q (by simp[h])⟩
         ·exact⟨by simp[h],hout q (by simp[h])⟩
       obtain⟨c',el',hh'⟩:=hI.fresh q (by
        rcases List.mem_cons.1 hq'.1 with rfl|hq''
        ·rw[j1];exact hb3
        ·rw[hcolB q hq''];exact hb3)
       exact⟨c',el',(hsame q hq'.1 hq'.2).trans hh'⟩) hp.frame hp.size hp.os hp.tape hp.output
    (fun G' g1 g2 p hp=>by
     simp only[List.mem_singleton]at hp;subst hp
     rw[List.nodup_cons]at hnd2
     refine⟨hb3,by rw[g1],bk::(B1++(Ba++Bv++Bb)++B2),.inr ⟨bk,of,cap,c,el,fz,_,by rw[hb];simp,by simpa using hcap,hheap',hsz,rfl,by rw[List.length_set];exact hset⟩,?_⟩
     rintro h Bs' hBs'
     cases hBs'
     exact⟨g2 bk (by simp),hnd2.1,fun q hq=>by simp[g2 q (List.mem_cons_of_mem _ hq)],fun _=>hnd2.2⟩)
   exact⟨G',q⟩
  unfold nE at hU⊢
  split at hU
  ·exact Calls.mono hU (fun e w' ⟨v,h1,h2⟩=>⟨v,h1,key v w' h2⟩)
  ·exact key _ _ hU
  ·exact hU
end
end Vg
namespace Vg
open Go
section
variable {ρ:Type}
def kO (o:Oper) (a:Option Bool) (E:Env) (k:Env→Option ρ):Ef→Option ρ
 | .val v=>k (E.set o.dst (cZ o.guard a v))
 | .chk c v=>if(match a with|none=>c|some b=> !b||c)=true then k (E.set o.dst (cZ o.guard a v))else none
 | .opt _ z x f=>(match a with|none=>x|some b=>if b=true then x else some z).bind fun r=>k (E.set o.dst (cZ o.guard a (f r)))
 | .put b s v=>match a.isNone&&o.dst.isNone with|true=>k {E with s:=E.s.set s (.box b v)}|false=>none
 | .app c kl gv t v=>match a.isNone with|true=>(if c=true then k (((E.kill kl).aS gv t).set o.dst v.jf)else none)|false=>none
 | .elem gv b e l m=>match a.isNone&&o.dst.isNone with|true=>k (E.elem gv b e l m)|false=>none
 | .call _ x tks f rp=>match a.isNone with|true=>x.bind fun r=>let E1:=E.bP tks (rp r);k (Env.set {E1 with s:=bp (f r).2 E1.s} o.dst (f r).1.jf)|false=>none
theorem Cy (o:Oper) (a:Option Bool) (E:Env) (k:Env→Option ρ) (ef:Ef):kO o a E k ef=aY o a E k ef:=by
 cases ef with
 |put b s v=>simp only[kO,aY];cases (a.isNone&&o.dst.isNone)<;>rfl
 |app c kl gv t v=>simp only[kO,aY];cases (a.isNone)<;>rfl
 |elem gv b e l m=>simp only[kO,aY];cases (a.isNone&&o.dst.isNone)<;>rfl
 |call α x tks f rp=>simp only[kO,aY];cases (a.isNone)<;>rfl
 |_=>rfl
def Fu (C:Cx) (ops:List Oper) (nt:Nat):List Oper→Nat→Env→(Env→Option ρ)→Option ρ
 | [],_,E,k=>k E
 |o::l,i,E,k=>match guardOf ops E.rd o.guard with
  |none=>none
  |some a=>match bm C ops E.rd (nt+32*i) o.guard o with
   |none=>none
   |some ef=>kO o a E (fun E'=>Fu C ops nt l (i+1) E' k) ef
theorem Kq (C:Cx) (ops:List Oper) (nt:Nat) (k:Env→Option ρ):∀(l:List Oper) (i:Nat) (E:Env),Fu C ops nt l i E k=tK C ops nt l i E k
 | [],_,_=>rfl
 |o::l,i,E=>by
  simp only[Fu,tK,Cy]
  cases guardOf ops E.rd o.guard with
  |none=>rfl
  |some a=>
   simp only
   cases bm C ops E.rd (nt+32*i) o.guard o with
   |none=>rfl
   |some ef=>
    simp only
    congr 1
    funext E'
    exact Kq C ops nt k l (i+1) E'
def AP (o:Oper) (a:Option Bool) (ef:Ef) (k:Tr×List (Nat×SV)→Option ρ):Option ρ:=
 match ef with
 | .val v=>k (.id,wr o.dst (cZ o.guard a v))
 | .chk c v=>if(match a with|none=>c|some b=> !b||c)=true then k (.id,wr o.dst (cZ o.guard a v))else none
 | .opt _ z x f=>(match a with|none=>x|some b=>if b=true then x else some z).bind fun r=>k (.id,wr o.dst (cZ o.guard a (f r)))
 | .put b s v=>match a.isNone&&o.dst.isNone with|true=>k (.id,[(s,.box b v)])|false=>none
 | .app c kl gv t v=>match a.isNone with|true=>(if c=true then k (.kg kl gv t,wr o.dst v.jf)else none)|false=>none
 | .elem gv b e l m=>match a.isNone&&o.dst.isNone with|true=>k (.el gv b e l m,[])|false=>none
 | .call _ x tks f rp=>match a.isNone with|true=>x.bind fun r=>k (.ki tks (rp r),(f r).2.map (fun p=>(p.2.1,SV.box p.1 p.2.2))++wr o.dst (f r).1.jf)|false=>none
theorem Se (o:Oper) (a:Option Bool) (ef:Ef) (k:Tr×List (Nat×SV)→Option ρ):AP o a ef k=pf o a ef k:=by
 cases ef with
 |put b s v=>simp only[AP,pf];cases (a.isNone&&o.dst.isNone)<;>rfl
 |app c kl gv t v=>simp only[AP,pf];cases (a.isNone)<;>rfl
 |elem gv b e l m=>simp only[AP,pf];cases (a.isNone&&o.dst.isNone)<;>rfl
 |call α x tks f rp=>simp only[AP,pf];cases (a.isNone)<;>rfl
 |_=>rfl
def wY (C:Cx) (ops:List Oper) (nt:Nat):List Oper→Nat→Env→List fE→(Env→List fE→Option ρ)→Option ρ
 | [],_,E,L,k=>k E L
 |o::l,i,E,L,k=>match guardOf ops E.rd o.guard with
  |none=>none
  |some a=>match bm C ops E.rd (nt+32*i) o.guard o with
   |none=>none
   |some ef=>AP o a ef fun r=>wY C ops nt l (i+1) (E.fR r) (dE ops i o E r::L) k
theorem xj (C:Cx) (ops:List Oper) (nt:Nat) (k:Env→List fE→Option ρ):∀(l:List Oper) (i:Nat) (E:Env) (L:List fE),wY C ops nt l i E L k=sX C ops nt l i E L k
 | [],_,_,_=>rfl
 |o::l,i,E,L=>by
  simp only[wY,sX,Se]
  cases guardOf ops E.rd o.guard with
  |none=>rfl
  |some a=>
   simp only
   cases bm C ops E.rd (nt+32*i) o.guard o with
   |none=>rfl
   |some ef=>
    simp only
    congr 1
    funext r
    exact xj C ops nt k l (i+1) (E.fR r) _
def rM (C:Cx):Code→Env→(Env→Option ρ)→List (Nat×(Env→Option ρ))→(Env→Option ρ)→Option ρ
 | .skip,E,kn,_,_=>kn E
 | .region _ ops draw,E,kn,_,_=>match eo ops.toList&&keeps C.io ops.toList with
   |true=>(match draw with
    |true=>wY C ops.toList E.nt ops.toList 0 E [] (fun E' L=>match oc ops.toList L with|true=>kn {fY E' ops.toList with nt:=E.nt+32*ops.size}|false=>none)
    |false=>Fu C ops.toList E.nt ops.toList 0 E (fun E'=>kn {fY E' ops.toList with nt:=E.nt+32*ops.size}))
   |false=>none
 | .seq a b,E,kn,ke,kr=>
   match(fv b).bind C.ja with
   |none=>rM C a E (fun E'=>rM C b E' kn ke kr) ke kr
   |some n=>aP (fun J=>rM C a E (fun E'=>match proj n E' with|some t=>J t|none=>none) ke kr) (fun t=>rM C b (dC C.n n t) kn ke kr)
 | .cond c x y,E,kn,ke,kr=>
   match arg C E.rd none 0 c with
   |some (.d ⟨.bool,b,_⟩)=>if b=true then rM C x E kn ke kr else rM C y E kn ke kr
   |_=>none
 | .block id c,E,kn,ke,kr=>rM C c E kn ((id,kn)::ke) kr
 | .loop c,E,_,ke,kr=>
   match(fv c).bind C.la with
   |none=>none
   |some n=>match proj n E with
    |some t=>az C.k (fun G t=>rM C c (dC C.n n t) (fun E'=>match proj n E' with|some t=>G t|none=>none) ke kr) t
    |none=>none
 | .exit id,E,_,ke,_=>match ke.lookup id with|some k=>k E|none=>none
 | .ret,E,_,_,kr=>kr E
 |_,_,_,_,_=>none
theorem Uz (C:Cx):∀(c:Code) (E:Env) (kn:Env→Option ρ) (ke:List (Nat×(Env→Option ρ))) (kr:Env→Option ρ),rM C c E kn ke kr=ev C c E kn ke kr:=by
 intro c
 induction c with
 |region id ops draw=>
  intro E kn ke kr
  simp only[rM,ev]
  cases h:(eo ops.toList&&keeps C.io ops.toList)with
  |false=>rfl
  |true=>
   simp only[if_true]
   cases draw with
   |true=>
    simp only[if_true,xj]
    congr 1
    funext E' L
    cases oc ops.toList L<;>rfl
   |false=>simp only[Bool.false_eq_true,if_false,Kq]
 |seq a b iha ihb=>
  intro E kn ke kr
  simp only[rM,ev]
  cases (fv b).bind C.ja with
  |none=>simp only[iha,ihb]
  |some n=>
   simp only[iha,ihb]
   congr 1
   funext J
   congr 1
   funext E'
   cases proj n E'<;>rfl
 |cond c x y ihx ihy=>intro E kn ke kr;simp only[rM,ev,ihx,ihy];rfl
 |block id c ih=>intro E kn ke kr;simp only[rM,ev,ih]
 |loop c ih=>
  intro E kn ke kr
  simp only[rM,ev]
  cases (fv c).bind C.la with
  |none=>rfl
  |some n=>
   simp only[ih]
   cases proj n E with
   |none=>rfl
   |some t=>
    simp only[Option.bind_some]
    congr 1
    funext G t
    congr 1
    funext E'
    cases proj n E'<;>rfl
 |_=>intros;rfl
end
def Ql (C:Cx) (ps:List PK) (rs:List RK) (kp:List (Nat×List Bool)) (fn:Func) (x:aT (ps.map PK.ty)):Option (aT (rs.map RK.ty++bh ps)):=
 match fn.body with
 |none=>none
 |some c=>
  let e:=bq ps x 3
  rM {C with n:=fn.ntmps,io:=fh ps 0} c ⟨e.1++List.replicate (fn.ntmps-e.1.length) .no,e.2,true⟩ (fin C.tt ps rs kp fn.results.toList e.2) [] (fin C.tt ps rs kp fn.results.toList e.2)
theorem Sc (C:Cx) (ps:List PK) (rs:List RK) (kp:List (Nat×List Bool)) (fn:Func) (x:aT (ps.map PK.ty)):Ql C ps rs kp fn x=Qu C ps rs kp fn x:=by
 unfold Ql Qu
 cases fn.body with
 |none=>rfl
 |some c=>exact Uz ..
end Vg
namespace Vg
open Go
section
variable {P:Program} {C:Cx} {w0:World} {c0:C0} {U:Nat→Prop} {E:Env} {a:Act} {w:World} {G:Gh} {Q:Exit→Act→World→Prop}
theorem Tu {e:Ty} {l:List e.den} {b off cap:Nat} {c:Array Value} {el:TypeId} {Bs:List Nat} {i:Nat} (hi:i<l.length) (hh:w.heap[b]?=some (.cells c el (0,0)))
 (hsz:off+cap*e.sz≤c.size) (hcap:l.length≤cap) (hl:bd (aR w e) l ((c.toList.drop off).take (l.length*e.sz)) Bs) (hn:(b::Bs).Nodup):
 ∃Bs',dK (w.setCells b (off+i*e.sz) (((c.toList.drop off).take (l.length*e.sz)).drop ((i+1)*e.sz))) e.sz (aR (w.setCells b (off+i*e.sz) (((c.toList.drop off).take (l.length*e.sz)).drop ((i+1)*e.sz))) e)
  (l.take i++l.drop (i+1)) (.slice (some ⟨b,off,none⟩) (l.length-1) cap) (b::Bs')∧(∀x∈Bs',x∈Bs)∧(b::Bs').Nodup:=by
 have hx:l[i]?=some l[i]:=List.getElem?_eq_getElem hi
 obtain⟨B1,Bx,B2,rfl,_,h1,h2⟩:=bd.get (sz:=e.sz) (fun x c B h=>aR.len h) hl hx
 generalize hcs:(c.toList.drop off).take (l.length*e.sz)=cs at*
 have hm1:i*e.sz+e.sz=(i+1)*e.sz:=by rw[Nat.add_mul,Nat.one_mul]
 have hm2:(i+1)*e.sz≤l.length*e.sz:=Nat.mul_le_mul_right _ hi
 have hm3:l.length*e.sz≤cap*e.sz:=Nat.mul_le_mul_right _ hcap
 have hcl:cs.length=l.length*e.sz:=by rw[←hcs];simp;omega
 generalize hys:cs.drop ((i+1)*e.sz)=ys at*
 have hyl:ys.length=l.length*e.sz-(i+1)*e.sz:=by rw[←hys];simp[hcl]
 have hrow:=gj b (el:=el) ys (off+i*e.sz) w c hh (by omega)
 rw[List.nodup_cons]at hn
 simp only[List.mem_append,not_or,List.append_assoc]at hn
 have hne:∀z∈B1++B2,(w.setCells b (off+i*e.sz) ys).heap[z]?=w.heap[z]?:=by
  intro z hz
  refine bD b _ _ w z (fun e=> ?_)
  subst e
  rcases List.mem_append.1 hz with h|h
  ·exact hn.1.1 h
  ·exact hn.1.2.2 h
 refine⟨B1++B2,.inr ⟨b,off,cap,_,el,(0,0),B1++B2,?_,?_,hrow,?_,rfl,?_⟩,?_,?_⟩
 ·simp;omega
 ·simp;omega
 ·simp;omega
 ·have hlen:(l.take i++l.drop (i+1)).length*e.sz=i*e.sz+ys.length:=by
   have:(l.take i++l.drop (i+1)).length=i+(l.length-(i+1)):=by simp;omega
   rw[this,Nat.add_mul,hyl,Nat.sub_mul]
  have hcells:((c.toList.take (off+i*e.sz)++ys++c.toList.drop (off+i*e.sz+ys.length)).drop off).take ((l.take i++l.drop (i+1)).length*e.sz)=cs.take (i*e.sz)++ys:=by
   have htl:(c.toList.take (off+i*e.sz)).length=off+i*e.sz:=by simp;omega
   have e1:(c.toList.take (off+i*e.sz)).drop off=cs.take (i*e.sz):=by
    rw[←hcs,List.take_take,Nat.min_eq_left (by omega),List.drop_take]
    congr 1;omega
   rw[List.append_assoc,List.drop_append_of_le_length (by omega),e1,←List.append_assoc,hlen]
   have hl2:(cs.take (i*e.sz)++ys).length=i*e.sz+ys.length:=by rw[List.length_append,List.length_take,hcl,Nat.min_eq_left (by omega)]
   rw[←hl2,List.take_left]
  have hr:=bd.append h1 h2
  have:=bd.world hne hr
  rw[hcells]
  exact this
 ·intro x hx
  rcases List.mem_append.1 hx with h|h
  ·simp[h]
  ·simp[h]
 ·rw[List.nodup_cons]
  refine⟨fun h=> ?_,?_⟩
  ·rcases List.mem_append.1 h with h|h
   ·exact hn.1.1 h
   ·exact hn.1.2.2 h
  ·have h2:=hn.2
   rw[List.nodup_append]at h2⊢
   obtain⟨q1,q2,q3⟩:=h2
   rw[List.nodup_append]at q2
   exact⟨q1,q2.2.1,fun a ha b hb=>q3 a ha b (List.mem_append_right _ hb)⟩
theorem Inv.del (hI:Inv w0 c0 U E a w G) {e:Ty} {l:List e.den} {v:Value} {m:M} {ts:List Nat} (hr:bV w G e l v m) (ho:m.own=some ts) (hts:∀c∈ts,3≤c∧Good U G c)
 {i:Nat} (hi:i<l.length) {tk:Nat} (h3:3≤tk) (hU:¬U tk):
 ∃b off cap c el,v= .slice (some ⟨b,off,none⟩) l.length cap∧l.length≤cap∧w.heap[b]?=some (.cells c el (0,0))∧off+cap*e.sz≤c.size∧(∀u∈(c.toList.drop off).take (l.length*e.sz),u.oneCell'=true)∧
  ∃G',Inv w0 c0 (fun u=>U u∨u=tk) (E.kill ts) a (w.setCells b (off+i*e.sz) (((c.toList.drop off).take (l.length*e.sz)).drop ((i+1)*e.sz))) G'∧
   bV (w.setCells b (off+i*e.sz) (((c.toList.drop off).take (l.length*e.sz)).drop ((i+1)*e.sz))) G' e (l.take i++l.drop (i+1)) (.slice (some ⟨b,off,none⟩) (l.length-1) cap) (.row tk [tk] true)∧G'.bx tk=false:=by
 obtain⟨B,hB,hn,hc⟩:=hr.own ho
 rcases hB with⟨_,rfl,_⟩|⟨b,off,cap,c,el,fz,Bs,hv,hcap,hb,hsz,rfl,hl⟩
 ·simp at hi
 ·have hcb:=hc b (by simp)
  obtain⟨c',el',hf⟩:=hI.fresh b (hts _ hcb).1
  rw[hf]at hb
  simp only[Option.some.injEq,Obj.cells.injEq]at hb
  obtain⟨rfl,rfl,rfl⟩:=hb
  obtain⟨Bs',r1,r2,r3⟩:=Tu hi hf hsz hcap hl hn
  refine⟨b,off,cap,c',el',hv,hcap,hf,hsz,bd.S6 hl,G.aS ts tk (.slice (some ⟨b,off,none⟩) (l.length-1) cap),?_,⟨h3,by simp[Gh.aS],b::Bs',r1,fun b2 Bs2 h2=> ?_⟩,by simp[Gh.aS]⟩
  ·have hm2:(i+1)*e.sz≤l.length*e.sz:=Nat.mul_le_mul_right _ hi
   have hm1:i*e.sz+e.sz=(i+1)*e.sz:=by rw[Nat.add_mul,Nat.one_mul]
   have hm3:l.length*e.sz≤cap*e.sz:=Nat.mul_le_mul_right _ hcap
   generalize hys:((c'.toList.drop off).take (l.length*e.sz)).drop ((i+1)*e.sz)=ys at*
   have hyl:ys.length=l.length*e.sz-(i+1)*e.sz:=by rw[←hys];simp;omega
   have hrow:=gj b (el:=el') ys (off+i*e.sz) w c' hf (by omega)
   refine(hI.kill ts).change (ts:=ts) (OX hI hts) (fun z _ hz=>⟨bD b _ _ w z (fun e=>hz (e▸hcb)),by simp[Gh.aS,hz]⟩) (fun u hu=> ?_) (fun _ h=> .inl h) (fun z hz=> ?_)
    (fun z hz=> ?_) (fun z hz=> ?_) (fun z hz hc1=> ?_) (fun z hz=> ?_) (by rw[eh];exact Nat.le_refl _)
    (cw b _ _ w).1 (cw b _ _ w).2.1 (cw b _ _ w).2.2
   ·have:u≠tk:=fun e=>hU (e▸hu)
    simp[Gh.aS,this]
   ·simp only[Gh.aS]at hz⊢
    split at hz
    ·right;rw[if_pos (by assumption)]
    ·left;rw[if_neg (by assumption)];exact hI.colU z hz
   ·rw[eh]
    simp only[Gh.aS]at hz
    split at hz
    ·rename_i h;exact hI.lt z (by have:=(hts _ h).1;omega)
    ·exact hI.lt z hz
   ·have hz3:3≤G.col z:=by
     simp only[Gh.aS]at hz
     split at hz
     ·rename_i h;exact(hts _ h).1
     ·exact hz
    by_cases e1:z=b
    ·subst e1;exact⟨_,_,hrow⟩
    ·rw[bD b _ _ w z e1];exact hI.fresh z hz3
   ·have hf:=hI.frame z hz hc1
    have hnot:G.col z∉ts:=fun h=>by have:=(hts _ h).1;omega
    refine⟨(if_neg hnot).trans hf.1,?_⟩
    rw[bD b _ _ w z (fun e=>hnot (e▸hcb))]
    exact hf.2
   ·simp only[Gh.aS]at hz
    split at hz
    ·omega
    ·exact hz
  ·cases h2
   refine⟨by simp[Gh.aS,hcb],(List.nodup_cons.1 r3).1,fun x hx=> ?_,fun _=>(List.nodup_cons.1 r3).2⟩
   simp[Gh.aS,hc x (List.mem_cons_of_mem _ (r2 x hx))]
end
end Vg
namespace Vg
open Go
def uV (o:Oper):Option (Nat×Nat):=
 match o.guard,o.op,o.dst with
 |none,.move (.tmp x),some d=>some (d,x)
 |_,_,_=>none
def Mg (o:Oper):Option (Nat×Nat):=
 match o.guard,o.op,o.dst with
 |none,.assign (.tmp x),some d=>some (d,x)
 |_,_,_=>none
def PU (o:Oper):Option (TypeId×Nat×Nat×Nat):=
 match o.guard,o.op,o.dst with
 |none,.slice t (.tmp x) none (some (.tmp h)) none,some d=>some (t,d,x,h)
 |_,_,_=>none
def Qp (o:Oper):Option (TypeId×Nat×Nat×Nat):=
 match o.guard,o.op,o.dst with
 |none,.slice t (.tmp x) (some (.tmp h)) none none,some d=>some (t,d,x,h)
 |_,_,_=>none
def Mb (o:Oper):Option (TypeId×Nat×Nat):=
 match o.guard,o.op,o.dst with
 |none,.binOp .add t (.tmp x) (.const (.int .i64 1)) _,some d=>some (t,d,x)
 |_,_,_=>none
def Ma (o:Oper):Option (TypeId×Nat×Nat×Nat):=
 match o.guard,o.op,o.dst with
 |none,.call c,some d=>(match c.callee,c.args.toList,c.argTypes.toList with
  | .builtin .append,[.tmp x,.tmp y],[t,u]=>(match decide (t=u)with|true=>some (t,d,x,y)|false=>none)
  |_,_,_=>none)
 |_,_,_=>none
structure kP where
 t:TypeId
 ti:TypeId
 s:Nat
 j:Nat
 d0:Nat
 d1:Nat
 d2:Nat
 d3:Nat
 d4:Nat
 d5:Nat
 d6:Nat
 d7:Nat
def kP.tmps (d:kP):List Nat:=[d.s,d.j,d.d0,d.d1,d.d2,d.d3,d.d4,d.d5,d.d6,d.d7]
def kP.outs (d:kP):List Nat:=[d.s,d.d0,d.d1,d.d2,d.d3,d.d4,d.d5,d.d6,d.d7]
def MP (n:Nat):Nat→Array Bool
 |0=>Array.replicate n false
 |i+1=>(MP n i).setIfInBounds i true
def MF (ops:Array Oper):Bool:=
 Region.noSelect ops&&(List.range 7).all (fun i=>Region.free .any ops (MP 9 i) i&&(Region.ready .any ops (MP 9 i)).contains i)&&
 decide (Region.ready .any ops (MP 9 7)=[7])&&decide (Region.ready .any ops (MP 9 8)=[8])&&decide (Region.ready .any ops (MP 9 9)=[])
def tY (ops:List Oper):Option kP:=
 match ops with
 | [o0,o1,o2,o3,o4,o5,o6,o7,o8]=>
   match uV o0,uV o1,PU o2,uV o3,uV o4,Mb o5,Qp o6,Ma o7,Mg o8 with
   |some (d0,s),some (d1,j),some (t,d2,x2,h2),some (d3,s3),some (d4,j4),some (ti,d5,x5),some (t6,d6,x6,l6),some (t7,d7,x7,y7),some (s8,x8)=>
    match decide (x2=d0∧h2=d1∧s3=s∧j4=j∧x5=d4∧x6=d3∧l6=d5∧x7=d2∧y7=d6∧x8=d7∧s8=s∧t6=t∧t7=t∧([s,j,d0,d1,d2,d3,d4,d5,d6,d7]:List Nat).Nodup)&&MF #[o0,o1,o2,o3,o4,o5,o6,o7,o8]with
    |true=>some ⟨t,ti,s,j,d0,d1,d2,d3,d4,d5,d6,d7⟩
    |false=>none
   |_,_,_,_,_,_,_,_,_=>none
 |_=>none
section
variable {P:Program} {C:Cx} {w0:World} {c0:C0} {U:Nat→Prop} {E:Env} {a:Act} {w:World} {G:Gh} {Q:Exit→Act→World→Prop}
theorem jc {o:Oper} {d x:Nat} (h:uV o=some (d,x)):o.guard=none∧o.op= .move (.tmp x)∧o.dst=some d:=by
 unfold uV at h
 split at h
 ·rename_i h1 h2 h3;cases h;exact⟨h1,h2,h3⟩
 ·cases h
theorem EG {o:Oper} {d x:Nat} (h:Mg o=some (d,x)):o.guard=none∧o.op= .assign (.tmp x)∧o.dst=some d:=by
 unfold Mg at h
 split at h
 ·rename_i h1 h2 h3;cases h;exact⟨h1,h2,h3⟩
 ·cases h
theorem Kb {o:Oper} {t:TypeId} {d x y:Nat} (h:PU o=some (t,d,x,y)):o.guard=none∧o.op= .slice t (.tmp x) none (some (.tmp y)) none∧o.dst=some d:=by
 unfold PU at h
 split at h
 ·rename_i h1 h2 h3;cases h;exact⟨h1,h2,h3⟩
 ·cases h
theorem Kv {o:Oper} {t:TypeId} {d x y:Nat} (h:Qp o=some (t,d,x,y)):o.guard=none∧o.op= .slice t (.tmp x) (some (.tmp y)) none none∧o.dst=some d:=by
 unfold Qp at h
 split at h
 ·rename_i h1 h2 h3;cases h;exact⟨h1,h2,h3⟩
 ·cases h
theorem GM {o:Oper} {t:TypeId} {d x:Nat} (h:Mb o=some (t,d,x)):o.guard=none∧(∃u,o.op= .binOp .add t (.tmp x) (.const (.int .i64 1)) u)∧o.dst=some d:=by
 unfold Mb at h
 split at h
 ·rename_i h1 h2 h3;cases h;exact⟨h1,⟨_,h2⟩,h3⟩
 ·cases h
theorem Hq {o:Oper} {t:TypeId} {d x y:Nat} (h:Ma o=some (t,d,x,y)):o.guard=none∧(∃c:Call,o.op= .call c∧c.callee= .builtin .append∧c.args= #[.tmp x,.tmp y]∧c.argTypes= #[t,t])∧o.dst=some d:=by
 unfold Ma at h
 split at h
 ·rename_i c d' h1 h2 h3
  split at h
  ·rename_i x' y' t' u' hc ha ht
   split at h
   ·rename_i e
    simp only[decide_eq_true_eq]at e
    cases h
    subst e
    exact⟨h1,⟨c,h2,hc,Array.ext' (by simpa using ha),Array.ext' (by simpa using ht)⟩,h3⟩
   ·cases h
  ·cases h
 ·cases h
theorem Eh {o:Oper} {x:Nat} (h:o.op= .move (.tmp x)):(execOp a.eval o).run P w= .ok (.value (a.tmps.getD x undef)) w:=by
 simp only[execOp,h];rfl
theorem Td {o:Oper} {x:Nat} (h:o.op= .assign (.tmp x)):(execOp a.eval o).run P w= .ok (.value (a.tmps.getD x undef)) w:=by
 simp only[execOp,h];rfl
theorem oF {d s:Nat} {v:Value} (h:d<a.tmps.size):(a.put (some d) v).tmps.getD s undef=if s=d then v else a.tmps.getD s undef:=by
 rw[NR a (some d) v s (by rintro x ⟨⟩;exact h)]
 by_cases e:s=d
 ·subst e;rw[if_pos rfl,if_pos rfl]
 ·rw[if_neg (by simpa using e),if_neg e]
theorem QY {o:Oper} {t el:TypeId} {e:Ty} {x y n cap b off:Nat} {i:Nat} (hu:P.underlying t=some (.slice el)) (hT:eW P el e) (h:o.op= .slice t (.tmp x) none (some (.tmp y)) none)
 (hx:a.tmps.getD x undef= .slice (some ⟨b,off,none⟩) n cap) (hy:a.tmps.getD y undef= .int .i64 i) (h1:i≤cap):(execOp a.eval o).run P w= .ok (.value (.slice (some ⟨b,off,none⟩) i cap)) w:=by
 simp only[execOp,h]
 refine dj ?_
 have hx':a.eval (.tmp x)= .slice (some ⟨b,off,none⟩) n cap:=hx
 have hy':a.eval (.tmp y)= .int .i64 i:=hy
 have:=fQ (P:=P) (w:=w) (k:= .i64) (i:=(i:Int)) (y:=cap) (code:= .sliceAcap) (by omega) (by omega)
 rw[hx']
 simp only[Int.toNat_natCast]at this
 by_cases hc:cap=0
 ·rw[hc]at this
  simp[Instr.sliceAt,Instr.slice,Instr.sliceBounds,run_underlying hu,cU hT,hy',this,hc]
 ·simp[Instr.sliceAt,Instr.slice,Instr.sliceBounds,run_underlying hu,cU hT,hy',this,Addr.add_lit]
theorem RX {o:Oper} {t el:TypeId} {e:Ty} {x y n cap b off:Nat} {i:Nat} (hu:P.underlying t=some (.slice el)) (hT:eW P el e) (h:o.op= .slice t (.tmp x) (some (.tmp y)) none none)
 (hx:a.tmps.getD x undef= .slice (some ⟨b,off,none⟩) n cap) (hy:a.tmps.getD y undef= .int .i64 i) (h1:i≤n):(execOp a.eval o).run P w= .ok (.value (.slice (some ⟨b,if cap=i then off else off+i*e.sz,none⟩) (n-i) (cap-i))) w:=by
 simp only[execOp,h]
 refine dj ?_
 have hx':a.eval (.tmp x)= .slice (some ⟨b,off,none⟩) n cap:=hx
 have hy':a.eval (.tmp y)= .int .i64 i:=hy
 have:=fQ (P:=P) (w:=w) (k:= .i64) (i:=(i:Int)) (y:=n) (code:= .sliceB) (by omega) (by omega)
 rw[hx']
 simp only[Int.toNat_natCast]at this
 by_cases hc:cap=i
 ·subst hc
  simp[Instr.sliceAt,Instr.slice,Instr.sliceBounds,run_underlying hu,cU hT,hy',this]
 ·simp[Instr.sliceAt,Instr.slice,Instr.sliceBounds,run_underlying hu,cU hT,hy',this,hc,Addr.add_lit]
theorem To {o:Oper} {t u:TypeId} {x:Nat} {i:Nat} (h:o.op= .binOp .add t (.tmp x) (.const (.int .i64 1)) u) (hx:a.tmps.getD x undef= .int .i64 i) (hi:i<4294967296):
 (execOp a.eval o).run P w= .ok (.value (.int .i64 ((i+1:Nat):Int))) w:=by
 simp only[execOp,h]
 refine dj ?_
 have hx':a.eval (.tmp x)= .int .i64 i:=hx
 have h1:a.eval (.const (.int .i64 1))= .int .i64 1:=rfl
 rw[hx',h1]
 have hw:IntKind.i64.wrap ((i:Int)+1)=((i+1:Nat):Int):=by
  simp only[IntKind.wrap,IntKind.signed,IntKind.bits]
  simp
  omega
 have hgd:∀v,eqGuard .add t (.tmp x) (.const (.int .i64 1)) (.int .i64 i) v=pure ():=fun v=>eqGuard_at_int ..
 simp[hgd,binOp,Op.intArith,hw]
theorem Q4 (hI:Inv w0 c0 U E a w G) {j:Nat} {n:Int} {sh:Sh} (h:E.get j= .d ⟨.int .i64,n,sh⟩):a.tmps.getD j undef= .int .i64 n:=by
 have hs:=hI.slots j
 have h':E.s.getD j .no= .d ⟨.int .i64,n,sh⟩:=h
 rw[h']at hs
 obtain⟨cs,h1,h2⟩:=hs
 cases sh with
 |leaf=>rw[h1,show cs=_ from h2];rfl
 |sl m=>exact h2.elim
 |pair a b=>exact h2.elim
theorem Inv.qj (hI:Inv w0 c0 U E a w G) (d:Option Nat) (v:Value):Inv w0 c0 U (E.set d .no) (a.put d v) w G:=
 hI.put d (sv:= .no) trivial (by simp[SV.sc]) (by simp[SV.bt]) (by simp[SV.rt]) (by rintro _ _ ⟨⟩)
theorem FE {ops:Array Oper} {d:kP} (h:tY ops.toList=some d):∃o0 o1 o2 o3 o4 o5 o6 o7 o8,ops= #[o0,o1,o2,o3,o4,o5,o6,o7,o8]∧
 uV o0=some (d.d0,d.s)∧uV o1=some (d.d1,d.j)∧PU o2=some (d.t,d.d2,d.d0,d.d1)∧uV o3=some (d.d3,d.s)∧uV o4=some (d.d4,d.j)∧Mb o5=some (d.ti,d.d5,d.d4)∧
 Qp o6=some (d.t,d.d6,d.d3,d.d5)∧Ma o7=some (d.t,d.d7,d.d2,d.d6)∧Mg o8=some (d.s,d.d7)∧d.tmps.Nodup∧MF ops=true:=by
 unfold tY at h
 split at h
 ·rename_i o0 o1 o2 o3 o4 o5 o6 o7 o8 hops
  split at h
  ·rename_i h0 h1 h2 h3 h4 h5 h6 h7 h8
   split at h
   ·rename_i hc
    simp only[Bool.and_eq_true,decide_eq_true_eq]at hc
    obtain⟨⟨rfl,rfl,rfl,rfl,rfl,rfl,rfl,rfl,rfl,rfl,rfl,rfl,rfl,hn⟩,ho⟩:=hc
    cases h
    have he:ops= #[o0,o1,o2,o3,o4,o5,o6,o7,o8]:=Array.ext' hops
    exact⟨o0,o1,o2,o3,o4,o5,o6,o7,o8,he,h0,h1,h2,h3,h4,h5,h6,h7,h8,hn,by rw[he];exact ho⟩
   ·cases h
  ·cases h
 ·cases h
theorem wo (b:Nat):∀(vs:List Value) (o n:Nat) (w:World),({w with drawn:=n}:World).setCells b o vs={w.setCells b o vs with drawn:=n}
 | [],_,_,_=>rfl
 |v::r,o,n,w=>by
  rw[World.setCells,World.setCells,←wo b r (o+1) n]
  rfl
def C8 (E:Env) (d:kP) (ts:List Nat) (tk:Nat) (e:Ty) (l:List e.den) (i:Nat):Env:=
 ((((((((((E.kill ts).set (some d.d0) .no).set (some d.d1) .no).set (some d.d2) .no).set (some d.d3) .no).set (some d.d4) .no).set (some d.d5) .no).set (some d.d6) .no).set (some d.d7) .no).set (some d.s)
   (.d ⟨.sl e,l.take i++l.drop (i+1),.sl (.row tk [tk] true)⟩))
theorem lr {ops:Array Oper} {o:Oper} {v:Value} (hg:o.guard=none) (h:∀w,(execOp a.eval o).run P w= .ok (.value v) w):Go.Yields P ops o v a:=
 .inl ⟨by simp[Region.wanted,hg],h⟩
set_option maxHeartbeats 1000000 in
theorem P0 (hC:CxTy P C) (hm:P.follows .mixedOrders=true) {N:Nat} (hI:Inv w0 c0 (fun u=>u<N) E a w G) {ops:Array Oper} {d:kP} (hd:tY ops.toList=some d)
 {e:Ty} {l:List e.den} {m:M} {fs:List TypeId} {el:TypeId} (ht:C.tt d.t=some ⟨.sl e,fs,el⟩) (hs:E.s.getD d.s .no= .d ⟨.sl e,l,.sl m⟩) {i:Nat} {sh:Sh} (hj:E.get d.j= .d ⟨.int .i64,(i:Int),sh⟩)
 {ts:List Nat} (ho:m.own=some ts) (hi:i<l.length) (hl:l.length<4294967296) (hsz:∀x∈d.tmps,x<E.s.length) {tk:Nat} (h3:3≤tk) (hN:N≤tk) {id:Nat}
 (hK:∀a' w' G',Inv w0 c0 (fun u=>u<N∨u=tk) (C8 E d ts tk e l i) a' w' G'→(∀x,x∉d.outs→a'.tmps.getD x undef=a.tmps.getD x undef)→Q .normal a' w'):
 (Code.region id ops true).wp P Q a w:=by
 obtain⟨o0,o1,o2,o3,o4,o5,o6,o7,o8,rfl,q0,q1,q2,q3,q4,q5,q6,q7,q8,hn,hord⟩:=FE hd
 obtain⟨g0,p0,t0⟩:=jc q0
 obtain⟨g1,p1,t1⟩:=jc q1
 obtain⟨g2,p2,t2⟩:=Kb q2
 obtain⟨g3,p3,t3⟩:=jc q3
 obtain⟨g4,p4,t4⟩:=jc q4
 obtain⟨g5,⟨u5,p5⟩,t5⟩:=GM q5
 obtain⟨g6,p6,t6⟩:=Kv q6
 obtain⟨g7,⟨c7,p7,pc,pa,pt⟩,t7⟩:=Hq q7
 obtain⟨g8,p8,t8⟩:=EG q8
 have hT:=(hC.tt _ _ ht).2
 obtain⟨hu,hel⟩:=hT
 have hslot:=hI.slots d.s
 have hment:=hI.lh d.s
 rw[hs]at hslot hment
 obtain⟨cs,hmv,hvk⟩:=hslot
 obtain⟨v,rfl,hrow⟩:=hvk
 have hv:a.tmps.getD d.s undef=v:=hmv
 have hjv:=Q4 hI hj
 have hts:∀c∈ts,3≤c∧Good (fun u=>u<N) G c:=by
  intro c hc
  have hsub:=M.fV ho c hc
  have h1:=hment.1 c hsub
  refine⟨?_,h1⟩
  cases m with
  |row t hs' nd=>
   obtain⟨k1,k2,k3⟩:=M.gX ho
   rcases(k3 c).1 hc with rfl|hc
   ·exact hrow.1
   ·exact k2 c hc
  |sha hs'=>
   cases hs' with
   |nil=>simp[M.own]at ho;subst ho;cases hc
   |cons x y=>simp[M.own]at ho
  |dead=>simp[M.own]at ho
 obtain⟨b,off,cap,c,elx,rfl,hcap,hheap,hszc,h1c,hdel⟩:=hI.del hrow ho hts hi h3 (Nat.not_lt.2 hN)
 obtain⟨G',hI',hrow',hbx'⟩:=hdel
 change l.length≤cap at hcap
 simp only[kP.tmps,List.nodup_cons,List.mem_cons,List.not_mem_nil,or_false,not_or,List.nodup_nil,and_true]at hn
 obtain⟨⟨n0_1,n0_2,n0_3,n0_4,n0_5,n0_6,n0_7,n0_8,n0_9⟩,⟨n1_2,n1_3,n1_4,n1_5,n1_6,n1_7,n1_8,n1_9⟩,⟨n2_3,n2_4,n2_5,n2_6,n2_7,n2_8,n2_9⟩,⟨n3_4,n3_5,n3_6,n3_7,n3_8,n3_9⟩,⟨n4_5,n4_6,n4_7,n4_8,n4_9⟩,⟨n5_6,n5_7,n5_8,n5_9⟩,⟨n6_7,n6_8,n6_9⟩,⟨n7_8,n7_9⟩,n8_9⟩:=hn
 have hlen:a.tmps.size=E.s.length:=hI.len
 simp only[kP.tmps,List.mem_cons,List.not_mem_nil,or_false,forall_eq_or_imp,forall_eq]at hsz
 rw[←hlen]at hsz
 obtain⟨z0,z1,z2,z3,z4,z5,z6,z7,z8,z9⟩:=hsz
 simp only[MF,Bool.and_eq_true,List.all_eq_true,List.mem_range,decide_eq_true_eq]at hord
 obtain⟨⟨⟨⟨hsel,hfr⟩,hr7⟩,hr8⟩,hr9⟩:=hord
 refine wp_mono (Q:=fun ex a w=>ex= .normal∧Q .normal a w) ?_ (fun ex a w h=>by obtain⟨rfl,h⟩:=h;exact h)
 refine wp_region_any hm ?_
 have hQ:∀(v:Value) (o:Oper) c (a:Act) (w:World),(fun(ex:Exit) (a:Act) (w:World)=>ex= .normal∧Q .normal a w) (.panic c) (a.put o.dst v) w→(fun(ex:Exit) (a:Act) (w:World)=>ex= .normal∧Q .normal a w) (.panic c) a w:=
  fun v o c a w h=>by have:=h.1;cases this
 generalize hw1:({w with drawn:=w.drawn+1}:World)=w1
 show wpAny P .any _ _ 9 (MP 9 0) a w1
 refine wpAny_take (i:=0) (oi:=o0) (v:= .slice (some ⟨b,off,none⟩) l.length cap) rfl hsel (hfr 0 (by decide)).1 (hfr 0 (by decide)).2 (hQ _ _) (lr g0 (fun w=>by rw[←hv];exact Eh p0)) ?_
 rw[t0]
 generalize ha1:a.put (some d.d0) (.slice (some ⟨b,off,none⟩) l.length cap)=a1
 have s1:a1.tmps.size=a.tmps.size:=by rw[←ha1,hY]
 have f1:∀s,a1.tmps.getD s undef=if s=d.d0 then .slice (some ⟨b,off,none⟩) l.length cap else a.tmps.getD s undef:=fun s=>by rw[←ha1];exact oF z2
 refine wpAny_take (i:=1) (oi:=o1) (v:= .int .i64 i) rfl hsel (hfr 1 (by decide)).1 (hfr 1 (by decide)).2 (hQ _ _) (lr g1 (fun w=>by
  have:=Eh (P:=P) (a:=a1) (w:=w) p1;rw[f1,if_neg n1_2,hjv]at this;exact this)) ?_
 rw[t1]
 generalize ha2:a1.put (some d.d1) (.int .i64 i)=a2
 have s2:a2.tmps.size=a.tmps.size:=by rw[←ha2,hY,s1]
 have f2:∀s,a2.tmps.getD s undef=if s=d.d1 then .int .i64 i else a1.tmps.getD s undef:=fun s=>by rw[←ha2];exact oF (by rw[s1];exact z3)
 refine wpAny_take (i:=2) (oi:=o2) (v:= .slice (some ⟨b,off,none⟩) i cap) rfl hsel (hfr 2 (by decide)).1 (hfr 2 (by decide)).2 (hQ _ _) (lr g2 (fun w=>
  QY (n:=l.length) hu hel p2 (by rw[f2,if_neg n2_3,f1,if_pos rfl]) (by rw[f2,if_pos rfl]) (by omega))) ?_
 rw[t2]
 generalize ha3:a2.put (some d.d2) (.slice (some ⟨b,off,none⟩) i cap)=a3
 have s3:a3.tmps.size=a.tmps.size:=by rw[←ha3,hY,s2]
 have f3:∀s,a3.tmps.getD s undef=if s=d.d2 then .slice (some ⟨b,off,none⟩) i cap else a2.tmps.getD s undef:=fun s=>by rw[←ha3];exact oF (by rw[s2];exact z4)
 refine wpAny_take (i:=3) (oi:=o3) (v:= .slice (some ⟨b,off,none⟩) l.length cap) rfl hsel (hfr 3 (by decide)).1 (hfr 3 (by decide)).2 (hQ _ _) (lr g3 (fun w=>by
  have:=Eh (P:=P) (a:=a3) (w:=w) p3;rw[f3,if_neg n0_4,f2,if_neg n0_3,f1,if_neg n0_2,hv]at this;exact this)) ?_
 rw[t3]
 generalize ha4:a3.put (some d.d3) (.slice (some ⟨b,off,none⟩) l.length cap)=a4
 have s4:a4.tmps.size=a.tmps.size:=by rw[←ha4,hY,s3]
 have f4:∀s,a4.tmps.getD s undef=if s=d.d3 then .slice (some ⟨b,off,none⟩) l.length cap else a3.tmps.getD s undef:=fun s=>by rw[←ha4];exact oF (by rw[s3];exact z5)
 refine wpAny_take (i:=4) (oi:=o4) (v:= .int .i64 i) rfl hsel (hfr 4 (by decide)).1 (hfr 4 (by decide)).2 (hQ _ _) (lr g4 (fun w=>by
  have:=Eh (P:=P) (a:=a4) (w:=w) p4;rw[f4,if_neg n1_5,f3,if_neg n1_4,f2,if_neg n1_3,f1,if_neg n1_2,hjv]at this;exact this)) ?_
 rw[t4]
 generalize ha5:a4.put (some d.d4) (.int .i64 i)=a5
 have s5:a5.tmps.size=a.tmps.size:=by rw[←ha5,hY,s4]
 have f5:∀s,a5.tmps.getD s undef=if s=d.d4 then .int .i64 i else a4.tmps.getD s undef:=fun s=>by rw[←ha5];exact oF (by rw[s4];exact z6)
 refine wpAny_take (i:=5) (oi:=o5) (v:= .int .i64 ((i+1:Nat):Int)) rfl hsel (hfr 5 (by decide)).1 (hfr 5 (by decide)).2 (hQ _ _) (lr g5 (fun w=>
  To p5 (by rw[f5,if_pos rfl]) (by omega))) ?_
 rw[t5]
 generalize ha6:a5.put (some d.d5) (.int .i64 ((i+1:Nat):Int))=a6
 have s6:a6.tmps.size=a.tmps.size:=by rw[←ha6,hY,s5]
 have f6:∀s,a6.tmps.getD s undef=if s=d.d5 then .int .i64 ((i+1:Nat):Int)else a5.tmps.getD s undef:=fun s=>by rw[←ha6];exact oF (by rw[s5];exact z7)
 refine wpAny_take (i:=6) (oi:=o6) (v:= .slice (some ⟨b,if cap=i+1 then off else off+(i+1)*e.sz,none⟩) (l.length-(i+1)) (cap-(i+1))) rfl hsel (hfr 6 (by decide)).1 (hfr 6 (by decide)).2 (hQ _ _) (lr g6 (fun w=>
  RX (n:=l.length) (cap:=cap) (i:=i+1) hu hel p6 (by rw[f6,if_neg n5_7,f5,if_neg n5_6,f4,if_pos rfl]) (by rw[f6,if_pos rfl]) (by omega))) ?_
 rw[t6]
 generalize ha7:a6.put (some d.d6) (.slice (some ⟨b,if cap=i+1 then off else off+(i+1)*e.sz,none⟩) (l.length-(i+1)) (cap-(i+1)))=a7
 have s7:a7.tmps.size=a.tmps.size:=by rw[←ha7,hY,s6]
 have f7:∀s,a7.tmps.getD s undef=if s=d.d6 then .slice (some ⟨b,if cap=i+1 then off else off+(i+1)*e.sz,none⟩) (l.length-(i+1)) (cap-(i+1))else a6.tmps.getD s undef:=fun s=>by rw[←ha7];exact oF (by rw[s6];exact z8)
 refine wpAny_all hr7 (by simp) (fun j hj=> ?_)
 obtain rfl:j=7:=by simpa using hj
 have hm2:(i+1)*e.sz≤l.length*e.sz:=Nat.mul_le_mul_right _ hi
 have hm1:i*e.sz+e.sz=(i+1)*e.sz:=by rw[Nat.add_mul,Nat.one_mul]
 have hm3:l.length*e.sz≤cap*e.sz:=Nat.mul_le_mul_right _ hcap
 have hm4:(l.length-(i+1))*e.sz=l.length*e.sz-(i+1)*e.sz:=Nat.sub_mul ..
 have happ:(execOp a7.eval o7).run P w1= .ok (.value (.slice (some ⟨b,off,none⟩) (l.length-1) cap)) (w1.setCells b (off+i*e.sz) (((c.toList.drop off).take (l.length*e.sz)).drop ((i+1)*e.sz))):=by
  obtain⟨inf,dd,hinf,hsize,hz,hby,_⟩:=hel
  have hheap1:w1.heap[b]?=some (.cells c elx (0,0)):=by rw[←hw1];exact hheap
  have hys:∀k u,(((c.toList.drop off).take (l.length*e.sz)).drop ((i+1)*e.sz))[k]?=some u→c[off+(i+1)*e.sz+k]?=some u:=by
   intro k u hk
   rw[List.getElem?_drop,List.getElem?_take]at hk
   split at hk
   ·rw[List.getElem?_drop]at hk
    rw[←Array.getElem?_toList]
    rw[←hk];congr 1;omega
   ·cases hk
  have hyl:(((c.toList.drop off).take (l.length*e.sz)).drop ((i+1)*e.sz)).length=(l.length-(i+1))*e.sz:=by
   simp;omega
  have hr:=run_append_room_cells (P:=P) w1 d.t o7.type el inf hu hinf b off i cap ⟨b,if cap=i+1 then off else off+(i+1)*e.sz,none⟩ (l.length-(i+1)) (cap-(i+1))
   (((c.toList.drop off).take (l.length*e.sz)).drop ((i+1)*e.sz)) (by rw[hsize];exact hyl) (fun k u hk=>by
     have hlt:k<(((c.toList.drop off).take (l.length*e.sz)).drop ((i+1)*e.sz)).length:=(List.getElem?_eq_some_iff.1 hk).1
     have hne:cap≠i+1:=by
      intro hc
      have:l.length-(i+1)=0:=by omega
      rw[hyl,this]at hlt
      omega
     rw[if_neg hne,Addr.add_lit,kQ hheap1]
     exact hys k u hk) (fun u hu=>h1c u (List.mem_of_mem_drop hu)) (by omega)
   (fun k hk=>by rw[kQ hheap1,hsize];rw[hyl]at hk;have:off+i*e.sz+k<c.size:=by omega
                 simp[this]) (fun k hk=>ry hheap1 _)
  rw[hsize]at hr
  have e1:a7.eval (.tmp d.d2)= .slice (some ⟨b,off,none⟩) i cap:=by
   show a7.tmps.getD d.d2 undef=_
   rw[f7,if_neg n4_8,f6,if_neg n4_7,f5,if_neg n4_6,f4,if_neg n4_5,f3,if_pos rfl]
  have e2:a7.eval (.tmp d.d6)= .slice (some ⟨b,if cap=i+1 then off else off+(i+1)*e.sz,none⟩) (l.length-(i+1)) (cap-(i+1)):=by
   show a7.tmps.getD d.d6 undef=_
   rw[f7,if_pos rfl]
  have hn1:i+(l.length-(i+1))=l.length-1:=by omega
  rw[hn1]at hr
  simp only[execOp,p7]
  simp[resolve,pc,invoke,builtin,pa,pt,e1,e2,hr]
 refine dm (ops:=[o0,o1,o2,o3,o4,o5,o6,o7,o8]) (i:=7) rfl (by simp[Region.wanted,g7]) ?_
 unfold Oper.wp
 rw[happ]
 rw[Oper.upon_value,t7]
 generalize ha8:a7.put (some d.d7) (.slice (some ⟨b,off,none⟩) (l.length-1) cap)=a8
 have s8:a8.tmps.size=a.tmps.size:=by rw[←ha8,hY,s7]
 have f8:∀s,a8.tmps.getD s undef=if s=d.d7 then .slice (some ⟨b,off,none⟩) (l.length-1) cap else a7.tmps.getD s undef:=fun s=>by rw[←ha8];exact oF (by rw[s7];exact z9)
 refine wpAny_all hr8 (by simp) (fun j hj=> ?_)
 obtain rfl:j=8:=by simpa using hj
 refine dm (ops:=[o0,o1,o2,o3,o4,o5,o6,o7,o8]) (i:=8) rfl (by simp[Region.wanted,g8]) ?_
 unfold Oper.wp
 rw[Td p8,f8,if_pos rfl,Oper.upon_value,t8]
 refine⟨hr9,rfl,?_⟩
 have hw2:w1.setCells b (off+i*e.sz) (((c.toList.drop off).take (l.length*e.sz)).drop ((i+1)*e.sz))={w.setCells b (off+i*e.sz) (((c.toList.drop off).take (l.length*e.sz)).drop ((i+1)*e.sz))with drawn:=w.drawn+1}:=by
  rw[←hw1];exact wo ..
 rw[hw2]
 have hI2:=hI'.drawn (w.drawn+1)
 have hrow2:bV {w.setCells b (off+i*e.sz) (((c.toList.drop off).take (l.length*e.sz)).drop ((i+1)*e.sz))with drawn:=w.drawn+1} G' e (l.take i++l.drop (i+1)) (.slice (some ⟨b,off,none⟩) (l.length-1) cap) (.row tk [tk] true):=
  bV.agree (w:=w.setCells b (off+i*e.sz) (((c.toList.drop off).take (l.length*e.sz)).drop ((i+1)*e.sz))) (G:=G') ⟨fun _ _=>rfl,fun _ _=>rfl,fun _ _=>rfl⟩ hrow'
 have k0:=hI2.qj (some d.d0) (.slice (some ⟨b,off,none⟩) l.length cap)
 rw[ha1]at k0
 have k1:=k0.qj (some d.d1) (.int .i64 i)
 rw[ha2]at k1
 have k2:=k1.qj (some d.d2) (.slice (some ⟨b,off,none⟩) i cap)
 rw[ha3]at k2
 have k3:=k2.qj (some d.d3) (.slice (some ⟨b,off,none⟩) l.length cap)
 rw[ha4]at k3
 have k4:=k3.qj (some d.d4) (.int .i64 i)
 rw[ha5]at k4
 have k5:=k4.qj (some d.d5) (.int .i64 ((i+1:Nat):Int))
 rw[ha6]at k5
 have k6:=k5.qj (some d.d6) (.slice (some ⟨b,if cap=i+1 then off else off+(i+1)*e.sz,none⟩) (l.length-(i+1)) (cap-(i+1)))
 rw[ha7]at k6
 have k7:=k6.qj (some d.d7) (.slice (some ⟨b,off,none⟩) (l.length-1) cap)
 rw[ha8]at k7
 have hgood:∀c'∈(SV.d ⟨.sl e,l.take i++l.drop (i+1),.sl (.row tk [tk] true)⟩).sc,0<c'∧(c'<N∨c'=tk)∧G'.bx c'=false:=by
  intro c' hc'
  simp only[SV.sc,Sh.aD,M.aD,List.mem_cons,List.not_mem_nil,or_false,or_self]at hc'
  subst hc'
  exact⟨by omega,.inr rfl,hbx'⟩
 have k8:=k7.put (some d.s) (sv:= .d ⟨.sl e,l.take i++l.drop (i+1),.sl (.row tk [tk] true)⟩) (v:= .slice (some ⟨b,off,none⟩) (l.length-1) cap) ⟨[_],rfl,_,rfl,hrow2⟩ hgood (by simp[SV.bt]) (by simp[SV.rt]) (by rintro _ _ ⟨⟩)
 refine hK _ _ _ k8 (fun x hx=> ?_)
 simp only[kP.outs,List.mem_cons,List.not_mem_nil,or_false,not_or]at hx
 obtain⟨x0,x2,x3,x4,x5,x6,x7,x8,x9⟩:=hx
 rw[oF (by rw[s8];exact z0),if_neg x0,f8,if_neg x9,f7,if_neg x8,f6,if_neg x7,f5,if_neg x6,f4,if_neg x5,f3,if_neg x4,f2,if_neg x3,f1,if_neg x2]
theorem R5 {ops:List Oper} {d:kP} (h:tY ops=some d):∀x∈d.outs,∃o∈ops,o.dst=some x:=by
 have h':tY ops.toArray.toList=some d:=by simpa using h
 obtain⟨o0,o1,o2,o3,o4,o5,o6,o7,o8,he,q0,q1,q2,q3,q4,q5,q6,q7,q8,_⟩:=FE h'
 have he':ops=[o0,o1,o2,o3,o4,o5,o6,o7,o8]:=by
  have:=congrArg Array.toList he
  simpa using this
 subst he'
 intro x hx
 simp only[kP.outs,List.mem_cons,List.not_mem_nil,or_false]at hx
 rcases hx with rfl|rfl|rfl|rfl|rfl|rfl|rfl|rfl|rfl
 ·exact⟨o8,by simp,(EG q8).2.2⟩
 ·exact⟨o0,by simp,(jc q0).2.2⟩
 ·exact⟨o1,by simp,(jc q1).2.2⟩
 ·exact⟨o2,by simp,(Kb q2).2.2⟩
 ·exact⟨o3,by simp,(jc q3).2.2⟩
 ·exact⟨o4,by simp,(jc q4).2.2⟩
 ·exact⟨o5,by simp,(GM q5).2.2⟩
 ·exact⟨o6,by simp,(Kv q6).2.2⟩
 ·exact⟨o7,by simp,(Hq q7).2.2⟩
theorem St {io:List Nat} {ops:List Oper} (h:keeps io ops=true) {o:Oper} (ho:o∈ops) {x:Nat} (hx:o.dst=some x):x∉io:=by
 unfold keeps at h
 rw[List.all_eq_true]at h
 have:=h o ho
 rw[hx]at this
 simpa using this
theorem Sg {d:kP} {ts:List Nat} {tk:Nat} {e:Ty} {l:List e.den} {i:Nat}:(C8 E d ts tk e l i).s.length=E.s.length:=by
 simp only[C8,Env.set,List.length_set]
 unfold Env.kill
 split
 ·rfl
 ·simp
theorem Pm {E:Env} {d:Nat} {sv:SV} (h:qt E.s) (hs:∀j w act v,sv≠ .g j w act v):qt (E.set (some d) sv).s:=by
 intro s j w act v
 simp only[Env.set,dD]
 split
 ·exact hs j w act v
 ·exact h s j w act v
theorem Sp {d:kP} {ts:List Nat} {tk:Nat} {e:Ty} {l:List e.den} {i:Nat} (h:qt E.s):qt (C8 E d ts tk e l i).s:=by
 have h0:qt (E.kill ts).s:=by
  intro s j w act v he
  obtain⟨v',h'⟩:=NH he
  exact h s j w act v' h'
 unfold C8
 refine Pm ?_ (by rintro _ _ _ _ ⟨⟩)
 iterate 8 refine Pm ?_ (by rintro _ _ _ _ ⟨⟩)
 exact h0
section
variable {ρ:Type}
def IA (C:Cx) (d:kP) (n:Nat) (E:Env) (kn:Env→Option ρ):Option ρ:=
 match C.tt d.t,E.s.getD d.s .no,E.get d.j with
 |some ⟨.sl e,_,_⟩,.d ⟨.sl e',l',.sl m⟩,.d ⟨.int .i64,i,_⟩=>(match ei ⟨.sl e',l',.leaf⟩ (.sl e),m.own with
  |some l,some ts=>if decide (0≤i∧i<(((l:List e.den).length:Nat):Int)∧(l:List e.den).length<4294967296)=true then
   (match d.tmps.all (fun x=>decide (x<E.s.length))with
   |true=>kn {C8 E d ts E.nt e l i.toNat with nt:=E.nt+32*n}
   |false=>none)
   else none
  |_,_=>none)
 |_,_,_=>none
end
theorem QB {ρ:Type} (hC:CxTy P C) (hm:P.follows .mixedOrders=true) (hI:Inv w0 c0 (fun u=>u<E.nt) E a w G) (hg:qt E.s) (h3:3≤E.nt) {ops:Array Oper} {d:kP} (hd:tY ops.toList=some d) (hn:0<ops.size)
 {io:List Nat} (hkp:keeps io ops.toList=true) {kn:Env→Option ρ} {r:ρ} (h:IA C d ops.size E kn=some r) {id:Nat}
 (hK:∀E' a' w' G',Inv w0 c0 (fun u=>u<E'.nt) E' a' w' G'→qt E'.s→E'.s.length=E.s.length→3≤E'.nt→(∀i∈io,a'.tmps.getD i undef=a.tmps.getD i undef)→kn E'=some r→Q .normal a' w'):
 (Code.region id ops true).wp P Q a w:=by
 unfold IA at h
 split at h
 ·rename_i e fs el e' l' m i sh ht hs hj
  split at h
  ·rename_i l ts hcast ho
   have hcv:=cJ hcast
   simp only[TV.mk.injEq]at hcv
   obtain⟨he,hl,_⟩:=hcv
   cases he
   cases hl
   split at h
   ·rename_i hc
    obtain⟨hc0',hc1',hc2⟩:=of_decide_eq_true hc
    have hc0: @LE.le Int Int.instLEInt 0 i:=hc0'
    have hc1: @LT.lt Int Int.instLTInt i ((List.length l:Nat):Int):=hc1'
    split at h
    ·rename_i hsz
     rw[List.all_eq_true]at hsz
     have hi0:((i.toNat:Nat):Int)=i:=Int.toNat_of_nonneg hc0
     refine P0 hC hm hI hd ht hs (i:=i.toNat) (sh:=sh) (by rw[hi0];exact hj) ho (by omega) hc2 (fun x hx=>of_decide_eq_true (hsz x hx)) h3 (Nat.le_refl _) (fun a' w' G' g1 g2=> ?_)
     refine hK {C8 E d ts E.nt _ l i.toNat with nt:=E.nt+32*ops.size} a' w' G' ?_ (Sp hg) Sg (by show 3≤E.nt+32*ops.size;omega) (fun j hj=>g2 j (fun hin=> ?_)) h
     ·have:=g1.mono (U':=fun u=>u<E.nt+32*ops.size) (fun u hu=>by rcases hu with hu|hu<;>omega)
      exact {this with}
     ·obtain⟨o,ho',hx⟩:=R5 hd j hin
      exact St hkp ho' hx hj
    ·cases h
   ·cases h
  ·cases h
 ·cases h
end
end Vg
namespace Vg
open Go
abbrev pn:=FuncId→Option dG
def zV (M:pn) (o:Oper):Option (FuncId×dG×Nat×Nat):=
 match o.guard,o.op with
 |none,.call c=>(match c.callee,c.args.toList with
  | .value (.func f),[.tmp s,.tmp j]=>(match M f with|some m=>some (f,m,s,j)|none=>none)
  |_,_=>none)
 |_,_=>none
def Hj (M:pn) (o1 o2 o3:Oper):Option (FuncId×dG×TypeId×Nat×Nat×Nat×Nat):=
 match o1.guard,o1.op,o1.dst,o2.guard,o2.op,o2.dst with
 |none,.load t (.tmp p),some d1,none,.move (.tmp q),some d2=>(match zV M o3 with
  |some (f,m,s,j)=>(match decide (s=d1∧j=d2∧d1≠d2∧q≠d1)with|true=>some (f,m,t,p,q,d1,d2)|false=>none)
  |none=>none)
 |_,_,_,_,_,_=>none
inductive gl where
 |one (o:Oper)
 |nest (o1 o2 o3:Oper)
def gl.ops:gl→List Oper
 | .one o=>[o]
 | .nest o1 o2 o3=>[o1,o2,o3]
def steps (M:pn):List Oper→List gl
 |o1::o2::o3::l=>match Hj M o1 o2 o3 with
  |some _=> .nest o1 o2 o3::steps M l
  |none=> .one o1::steps M (o2::o3::l)
 | [o1,o2]=>[.one o1,.one o2]
 | [o1]=>[.one o1]
 | []=>[]
theorem Am (M:pn):∀l:List Oper,(steps M l).flatMap gl.ops=l
 |o1::o2::o3::l=>by
  simp only[steps]
  split
  ·simp only[List.flatMap_cons,gl.ops,Am M l];rfl
  ·simp only[List.flatMap_cons,gl.ops,Am M (o2::o3::l)];rfl
 | [_,_]=>rfl
 | [_]=>rfl
 | []=>rfl
def TX (m:dG) (s j:Nat) (E:Env):Option (m.τ.den×Sh×Int):=
 match E.get s,E.get j with
 | .d v,.d ⟨.int .i64,n,_⟩=>(match ei v m.τ,me v.sh with
   |some x,some _=>some (x,v.sh,n)
   |_,_=>none)
 |_,_=>none
structure UL (m:dG) where
 b:Nat
 e:Ty
 l:List e.den
 i:Int
 path:List Bool
 x:m.τ.den
 n:Int
def S0 (tt:TypeId→Option TI) (m:dG) (t:TypeId) (p q d1 d2:Nat) (E:Env):Option (UL m):=
 match tt t,E.get p,E.get q with
 |some ti,.ept b e i o path _,.d ⟨.int .i64,n,_⟩=>(match dt b e E.s with
  |some (l,hs,nd)=>(match nd&&hs.all (·==b)&&decide (e.off path=o)&&decide (ti.τ=m.τ)&&decide (d1<E.s.length∧d2<E.s.length),fI e (l.getD i.toNat e.aa) (fC e (.sha [])) path with
   |true,some r=>(match ei r m.τ with|some x=>some ⟨b,e,l,i,path,x,n⟩|none=>none)
   |_,_=>none)
  |none=>none)
 |_,_,_=>none
def TZ (tt:TypeId→Option TI) (m:dG) (t:TypeId) (p q d1 d2:Nat) (E:Env):Option (m.τ.den×Sh×Int):=
 match tt t,cu (E.get p),E.get q with
 |some ti,.ptr b o path _,.d ⟨.int .i64,n,_⟩=>(match cF E.s b 0 with
  |some (_,v)=>(match decide (v.τ.off path=o)&&decide (ti.τ=m.τ)&&decide (d1<E.s.length∧d2<E.s.length),fI v.τ v.x v.sh path with
   |true,some r=>(match ei r m.τ,me r.sh with|some x,some _=>some (x,r.sh,n)|_,_=>none)
   |_,_=>none)
  |none=>none)
 |_,_,_=>none
def UI:SV→Bool
 | .ptr ..=>true
 |_=>false
def untold (C:Cx) (o:Oper):Bool:=
 match o.guard,o.op with
 |none,.assign (.const _)=>(C.tt o.type).isNone
 |_,_=>false
def Env.AL (E:Env) (gv:List Nat) (b:Nat) (e:Ty) (l:List e.den):Env:=
 {E with s:=E.s.map fun s=>(((s.bO b).setRow b e l (.row b (b::gv) true)).aS gv b)}
section
variable {ρ:Type}
def CQ (o:Oper) (a:Option Bool) (E:Env) (k:Env→Option ρ) (ef:Ef):Option ρ:=
 match ef,a with
 | .call _ x tks f rp,some b=>if b=true then x.bind (fun r=>k (Env.set {E.bP tks (rp r)with s:=bp (f r).2 (E.bP tks (rp r)).s} o.dst (cZ o.guard (some true) (f r).1)))else k (E.set o.dst (cZ o.guard (some false) (vB false)))
 | .elem (g::gv) b e l _,none=>(match o.dst,o.op with|none,.store _ _ _=>k (E.AL (g::gv) b e l)|_,_=>none)
 |ef,a=>kO o a E k ef
def mE (C:Cx) (M:pn) (ops:List Oper) (nt:Nat):List gl→Nat→Env→(Env→Option ρ)→Option ρ
 | [],_,E,k=>k E
 | .one o::l,i,E,k=>match zV M o with
   |some (_,m,s,j)=>(match TX m s j E with
    |some (x,sh,n)=>(m.F x n).bind fun r=>mE C M ops nt l (i+1) ((E.mark (rowsOf m.τ r.2 sh)).set o.dst (vI .i64 r.1)) k
    |none=>none)
   |none=>match untold C o with
    |true=>mE C M ops nt l (i+1) (E.set o.dst .no) k
    |false=>match guardOf ops E.rd o.guard with
     |none=>none
     |some a=>match bm C ops E.rd (nt+32*i) o.guard o with
      |none=>none
      |some ef=>CQ o a E (fun E'=>mE C M ops nt l (i+1) E' k) ef
 | .nest o1 o2 o3::l,i,E,k=>match Hj M o1 o2 o3 with
   |some (_,m,t,p,q,d1,d2)=>match UI (cu (E.get p))with
    |true=>(match TZ C.tt m t p q d1 d2 E with
     |some (x,sh,n)=>(m.F x n).bind fun r=>mE C M ops nt l (i+3) ((((E.mark (rowsOf m.τ r.2 sh)).set (some d1) .no).set (some d2) .no).set o3.dst (vI .i64 r.1)) k
     |none=>none)
    |false=>(match S0 C.tt m t p q d1 d2 E with
     |some d=>(m.F d.x d.n).bind fun r=>match dV d.e (d.l.getD d.i.toNat d.e.aa) (fC d.e (.sha [])) d.path ⟨m.τ,r.2,fC m.τ (.sha [])⟩with
      |some y=>mE C M ops nt l (i+3) ((((E.mark [⟨d.b,d.e,d.l.set d.i.toNat y.1⟩]).set (some d1) .no).set (some d2) .no).set o3.dst (vI .i64 r.1)) k
      |none=>none
     |none=>none)
   |none=>none
def kx (C:Cx) (M:pn):Code→Env→(Env→Option ρ)→List (Nat×(Env→Option ρ))→(Env→Option ρ)→Option ρ
 | .skip,E,kn,_,_=>kn E
 | .region _ ops draw,E,kn,_,_=>match eo ops.toList&&keeps C.io ops.toList with
   |true=>(match draw with
    |true=>(match tY ops.toList with
     |some d=>IA C d ops.size E kn
     |none=>wY C ops.toList E.nt ops.toList 0 E [] (fun E' L=>match oc ops.toList L with|true=>kn {fY E' ops.toList with nt:=E.nt+32*ops.size}|false=>none))
    |false=>mE C M ops.toList E.nt (steps M ops.toList) 0 E (fun E'=>kn {fY E' ops.toList with nt:=E.nt+32*ops.size}))
   |false=>none
 | .seq a b,E,kn,ke,kr=>
   match(fv b).bind C.ja with
   |none=>kx C M a E (fun E'=>kx C M b E' kn ke kr) ke kr
   |some n=>aP (fun J=>kx C M a E (fun E'=>match proj n E' with|some t=>J t|none=>none) ke kr) (fun t=>kx C M b (dC C.n n t) kn ke kr)
 | .cond c x y,E,kn,ke,kr=>
   match arg C E.rd none 0 c with
   |some (.d ⟨.bool,b,_⟩)=>if b=true then kx C M x E kn ke kr else kx C M y E kn ke kr
   |_=>none
 | .block id c,E,kn,ke,kr=>kx C M c E kn ((id,kn)::ke) kr
 | .loop c,E,_,ke,kr=>
   match(fv c).bind C.la with
   |none=>none
   |some n=>match proj n E with
    |some t=>az C.k (fun G t=>kx C M c (dC C.n n t) (fun E'=>match proj n E' with|some t=>G t|none=>none) ke kr) t
    |none=>none
 | .exit id,E,_,ke,_=>match ke.lookup id with|some k=>k E|none=>none
 | .ret,E,_,_,kr=>kr E
 |_,_,_,_,_=>none
end
def Ag (P:Program) (M:pn):Prop:=∀f m,M f=some m→vM P f m
section
variable {P:Program} {C:Cx} {M:pn} {w0:World} {c0:C0} {U:Nat→Prop} {E:Env} {a:Act} {w:World} {G:Gh} {ops:List Oper} {L:Nat→Prop} {Q:Exit→Act→World→Prop} {ρ:Type}
theorem Cn {o:Oper} {f:FuncId} {m:dG} {s j:Nat} (h:zV M o=some (f,m,s,j)):
 o.guard=none∧M f=some m∧∃c:Call,o.op= .call c∧c.callee= .value (.func f)∧c.args.toList=[.tmp s,.tmp j]:=by
 unfold zV at h
 split at h
 ·rename_i c hg ho
  split at h
  ·rename_i f' s' j' hc ha
   split at h
   ·rename_i m' hm
    cases h
    exact⟨hg,hm,c,ho,hc,ha⟩
   ·cases h
  ·cases h
 ·cases h
theorem OK {o1 o2 o3:Oper} {f:FuncId} {m:dG} {t:TypeId} {p q d1 d2:Nat} (h:Hj M o1 o2 o3=some (f,m,t,p,q,d1,d2)):
 o1.guard=none∧o1.op= .load t (.tmp p)∧o1.dst=some d1∧o2.guard=none∧o2.op= .move (.tmp q)∧o2.dst=some d2∧d1≠d2∧q≠d1∧zV M o3=some (f,m,d1,d2):=by
 unfold Hj at h
 split at h
 ·rename_i t' p' d1' q' d2' h1 h2 h3 h4 h5 h6
  split at h
  ·rename_i f' m' s' j' hc
   split at h
   ·rename_i hd
    simp only[decide_eq_true_eq]at hd
    cases h
    obtain⟨rfl,rfl,e1,e2⟩:=hd
    exact⟨h1,h2,h3,h4,h5,h6,e1,e2,hc⟩
   ·cases h
  ·cases h
 ·cases h
theorem F5 {o:Oper} {c:Call} {f:FuncId} (ho:o.op= .call c) (hc:c.callee= .value (.func f)) {R:Value→World→Prop} {K:Act→World→Prop} (h:nE P f (c.args.map a.eval) w R)
 (hK:∀v w',R v w'→K (a.put o.dst v) w'):o.wp P a w K Q:=by
 have hrun:(execOp a.eval o).run P w=(callFunc f (c.args.map a.eval)).run P w:=by
  simp only[execOp,ho]
  simp[resolve,hc,Deferred.ofValue,Act.eval,invoke]
 refine kK (R:=R) ?_ hK
 rw[hrun]
 exact h
theorem xd (hI:Inv w0 c0 U E a w G) {j:Nat} {n:Int} {sh:Sh} (h:E.get j= .d ⟨.int .i64,n,sh⟩):a.tmps.getD j undef= .int .i64 n:=by
 have hs:=hI.slots j
 have h':E.s.getD j .no= .d ⟨.int .i64,n,sh⟩:=h
 rw[h']at hs
 obtain⟨cs,h1,h2⟩:=hs
 cases sh with
 |leaf=>rw[h1,show cs=_ from h2];rfl
 |sl m=>exact h2.elim
 |pair a b=>exact h2.elim
theorem Mv {L':List qG}:∀s j w act v,(E.mark L').s.getD s .no≠ .g j w act v:=by
 intro s j w act v
 have:=getD_map (L:=E.s) (T:=SV.mark L') rfl s
 show(E.s.map (SV.mark L')).getD s .no≠_
 rw[this]
 exact T3
theorem Hm {E:Env} {d:Option Nat} {sv:SV} (h:∀s j w act v,E.s.getD s .no≠ .g j w act v) (hs:∀j w act v,sv≠ .g j w act v):∀s j w act v,(E.set d sv).s.getD s .no≠ .g j w act v:=by
 intro s j w act v
 cases d with
 |none=>exact h s j w act v
 |some d=>
  simp only[Env.set,dD]
  split
  ·exact hs j w act v
  ·exact h s j w act v
theorem M0 (L':List qG):(E.mark L').s.length=E.s.length:=by simp[Env.mark]
theorem Inv.Ud (hI:Inv w0 c0 U E a w G) (d:Option Nat) (n:Int):Inv w0 c0 U (E.set d (vI .i64 n)) (a.put d (.int .i64 n)) w G:=by
 have hm:=Nq (U:=U) (G:=G) .i64 n
 exact hI.put d (ok_int .i64 n) hm.1 hm.2.1 hm.2.2 (by rintro _ _ ⟨⟩)
theorem Inv.QA (hI:Inv w0 c0 U E a w G) (d:Option Nat) (v:Value):Inv w0 c0 U (E.set d .no) (a.put d v) w G:=
 hI.put d (sv:= .no) trivial (by simp[SV.sc]) (by simp[SV.bt]) (by simp[SV.rt]) (by rintro _ _ ⟨⟩)
theorem NF (d:Option Nat) (v:Value) (s:Nat) (h:d≠some s):(a.put d v).tmps.getD s undef=a.tmps.getD s undef:=by
 cases d with
 |none=>rfl
 |some d=>
  have:d≠s:=fun e=>h (by rw[e])
  simp[Act.put,Array.getD_eq_getD_getElem?,Array.getElem?_setIfInBounds_ne this]
end
end Vg
namespace Vg
open Go
section
variable {P:Program} {C:Cx} {M:pn} {g:Option (Nat×Bool)} {w0:World} {c0:C0} {U:Nat→Prop} {E:Env} {a:Act} {w:World} {G:Gh} {ops:List Oper} {L:Nat→Prop} {Q:Exit→Act→World→Prop} {ρ:Type}
theorem R7 (hC:CxTy P C) (hI:Inv w0 c0 U E a w G) (hR:RI ops E a.tmps) (hg:Gd ops a.tmps g) {tk:Nat} {o:Oper} {t:TypeId} {x y:Operand}
 {gv:List Nat} {b:Nat} {e:Ty} {l':List e.den} {m:Vg.M} (ho:o.op= .store t x y) (hgne:gv≠ []) (h:bm C ops E.rd tk g o=some (.elem gv b e l' m)):
 ∃w' G',(execOp a.eval o).run P w= .ok .skip w'∧Inv w0 c0 U (E.AL gv b e l') a w' G':=by
 simp only[bm,ho]at h
 split at h
 ·split at h
  ·split at h
   ·obtain⟨r,_,h⟩:=Option.map_eq_some_iff.mp h
    cases h
   ·cases h
  ·cases h
 ·rename_i ti b1 e1 i off p τ1 v1 hti harg hv
  split at h
  ·rename_i l hs nd hrow
   obtain⟨hc,h⟩:=Option.ite_none_right_eq_some.mp h
   obtain⟨hno,h⟩:=Option.ite_none_left_eq_some.mp h
   obtain⟨r,hr,h⟩:=Option.map_eq_some_iff.mp h
   simp only[Ef.elem.injEq]at h
   obtain⟨hgv,rfl,rfl,hl',hm⟩:=h
   have hl':=eq_of_heq hl'
   subst hl'
   simp only[Bool.and_eq_true,decide_eq_true_eq]at hc
   obtain⟨⟨⟨hc1,hc2⟩,hc3⟩,hc4⟩:=hc
   obtain⟨h1,_⟩:=et hI hR hg harg
   obtain⟨bk,of,n,cap,hb3,k2,k3,k4,k5⟩:=h1
   obtain⟨⟨vh,hvh⟩,hgood⟩:=hI.dt hrow
   obtain⟨⟨cv,hcv,hvv⟩,hvg,hlive⟩:=fX hI hR hg hv
   have hvh0:vh=G.hdr b1:=hvh.2.1.symm
   have hno':=hno
   simp only[Bool.not_eq_true]at hno'
   obtain⟨q1,q2,q3,B,Bv,hs',nd',hB,hBv,hm',hblk⟩:=ME (τ:=τ1) (gv:=gv) (m:=m) hvh hgood hvv hvg hlive hc3 _ rfl hgv.symm hm.symm hno'
   rw[hvh0,k2]at hB
   rcases hB with⟨⟨ao,hB⟩,_⟩|⟨bk',of',cap',c,el,fz,Bs,hvv',hcap,hheap,hsz,rfl,hl⟩
   ·cases hB;exfalso;have k4':i<((0:Nat):Int):=k4;have k3': @LE.le Int Int.instLEInt 0 i:=k3;omega
   ·simp only[Value.slice.injEq,Option.some.injEq,Addr.mk.injEq,and_true]at hvv'
    obtain⟨⟨rfl,rfl⟩,rfl,rfl⟩:=hvv'
    obtain⟨j1,j2,j3,j4⟩:=hblk bk Bs rfl
    obtain⟨c',el',hfr⟩:=hI.fresh bk (by rw[j1];exact hb3)
    rw[hfr]at hheap
    simp only[Option.some.injEq,Obj.cells.injEq]at hheap
    obtain⟨rfl,rfl,rfl⟩:=hheap
    have hi:i.toNat<l.length:=toNat_lt k3 k4
    have hget:l[i.toNat]?=some (l.getD i.toNat e1.aa):=by
     rw[List.getD_eq_getElem?_getD,List.getElem?_eq_getElem hi];rfl
    obtain⟨B1,Bx,B2,rfl,hx1,hx2,hx3⟩:=bd.get (sz:=e1.sz) (fun x c B h=>aR.len h) hl hget
    obtain⟨Ba,Bo,Bb,rfl,hput,hle⟩:=aR.put hr hx1 hBv
    have hset:=bd.set (sz:=e1.sz) hi hput hx2 hx3
    have hlv:cv.length=v1.τ.sz:=aW.len hvv
    have hmul:(i.toNat+1)*e1.sz≤l.length*e1.sz:=Nat.mul_le_mul_right _ hi
    have hmul2:l.length*e1.sz≤cap*e1.sz:=Nat.mul_le_mul_right _ hcap
    rw[Nat.add_mul,Nat.one_mul]at hmul
    have hO:of+i.toNat*e1.sz+off+cv.length≤c'.size:=by rw[←hc1];omega
    have hrow':=gj bk (el:=el') cv (of+i.toNat*e1.sz+off) w c' hfr hO
    have hT:=(hC.tt t ti hti).1
    have hrun:=uU (P:=P) (t:=t) (τ:=ti.τ) hT hfr (o:=of+i.toNat*e1.sz+off) (cs:=cv) (by rw[←hc4,←hlv];exact hO) (by rw[hlv,hc4]) (aW.one hvv) k5
    have hU:U b1:=(hgood b1 (by simp)).2.1
    have hbx:G.bx b1=false:=(hgood b1 (by simp)).2.2
    have hI1:=hI.map (GO (w:=w) b1) hI.colU (fun b=>⟨fun h=>h,fun _=>rfl,fun _=>rfl⟩)
    have hcol:G.col bk=b1:=j1
    have hother:∀k,G.col k≠b1→(w.setCells bk (of+i.toNat*e1.sz+off) cv).heap[k]?=w.heap[k]?:=fun k hk=>
     bD bk _ _ w k (fun e=>hk (e▸hcol))
    have hBs':=j4 (B1++(Ba++Bv++Bb)++B2) ⟨B1++Ba,Bo,Bb++B2,by simp[List.append_assoc],by simp[List.append_assoc]⟩
    have hnot:bk∉B1++(Ba++Bv++Bb)++B2:=by
     simp only[List.mem_append,not_or]at j2⊢
     exact⟨⟨j2.1.1,⟨j2.1.2.1.1,j3⟩,j2.1.2.2⟩,j2.2⟩
    have hmm:hs'=[b1]∧nd'=true:=by
     have key:∀(own:Option (List Nat)) (mm:Vg.M),own.getD []=gv→(if own.isSome=true then(Vg.M.row b1 [b1] true)else mm)= .row b1 hs' nd'→hs'=[b1]∧nd'=true:=by
      intro own mm h1 h2
      cases own with
      |none=>exact absurd h1.symm hgne
      |some ts=>
       simp only[Option.isSome_some,if_true,Vg.M.row.injEq,true_and]at h2
       exact⟨h2.1.symm,h2.2.symm⟩
     exact key _ _ hgv (hm.trans hm')
    obtain⟨rfl,rfl⟩:=hmm
    have hnew:bV (w.setCells bk (of+i.toNat*e1.sz+off) cv) G e1 (l.set i.toNat r.1) (G.hdr b1) (.row b1 (b1::gv) true):=by
     refine⟨hb3,rfl,bk::(B1++(Ba++Bv++Bb)++B2),?_,?_⟩
     ·refine .inr ⟨bk,of,cap,_,el',(0,0),B1++(Ba++Bv++Bb)++B2,by simp[k2],by simpa using hcap,hrow',by simp;omega,rfl,?_⟩
      have hcells:((eB (of+i.toNat*e1.sz+off) cv c'.toList).drop of).take ((l.set i.toNat r.1).length*e1.sz)=
       ((c'.toList.drop of).take (l.length*e1.sz)).take (i.toNat*e1.sz)++eB (e1.off p) cv ((((c'.toList.drop of).take (l.length*e1.sz)).drop (i.toNat*e1.sz)).take e1.sz)++((c'.toList.drop of).take (l.length*e1.sz)).drop ((i.toNat+1)*e1.sz):=by
       rw[Cr (by omega) (by simp;omega),Cb (by simp;omega) (by simp;omega)]
       rw[show of+i.toNat*e1.sz+off-of=i.toNat*e1.sz+e1.off p by omega]
       rw[BZ (sz:=e1.sz) hle]
       rw[Nat.add_mul,Nat.one_mul]
       simp
      show bd _ _ (((eB (of+i.toNat*e1.sz+off) cv c'.toList).toArray.toList.drop of).take _) _
      rw[List.toList_toArray,hcells]
      exact bd.world (fun k hk=>bD bk _ _ w k (fun e=>hnot (e▸hk))) hset
     ·rintro h' Bs'' ⟨⟩
      refine⟨hcol,hnot,fun x hx=> ?_,hBs'.2⟩
      have:=hBs'.1 x hx
      split at this
      ·rename_i hin;exact List.mem_cons_of_mem _ hin
      ·simp only[List.mem_singleton]at this;rw[this];simp
    have hI2:=hI1.setRow hnew hbx hb3 hother (fun s=> ?_) (fun c hc=> ?_) (fun k hk=> ?_) (by rw[eh]) (cw _ _ _ w).1 (cw _ _ _ w).2.1 (cw _ _ _ w).2.2
    ·have hI3:=hI2.S4 (ts:=gv) (t:=b1) (v:=G.hdr b1) hb3 q1 hU rfl hbx
     refine⟨w.setCells bk (of+i.toNat*e1.sz+off) cv,G.aS gv b1 (G.hdr b1),?_,?_⟩
     ·simp only[execOp,ho,hcv,hc4]
      simp[hrun]
     ·simpa only[Env.AL,List.map_map,Function.comp_def,SV.bO,SV.aS]using hI3
    ·have:=getD_map (L:=E.s) (T:=SV.bO b1) rfl s
     show SV.clear b1 ((List.map (SV.bO b1) E.s).getD s .no)
     rw[this]
     exact SV.dp b1 _
    ·simp only[M.aD,List.mem_cons]at hc
     rcases hc with rfl|rfl|hc
     ·exact hgood _ (by simp)
     ·exact hgood _ (by simp)
     ·exact(q1 c hc).2
    ·by_cases e:k=bk
     ·subst e;exact⟨_,_,hrow'⟩
     ·rw[bD bk _ _ w k e]
      exact hI.fresh k (by rw[hk];exact hb3)
  ·cases h
 ·cases h
theorem Nw {c:Call} {s j:Nat} (h:c.args.toList=[.tmp s,.tmp j]) (a:Act):c.args.map a.eval= #[a.tmps.getD s undef,a.tmps.getD j undef]:=by
 have:c.args= #[.tmp s,.tmp j]:=Array.ext' (by simpa using h)
 rw[this]
 simp[Act.eval]
theorem MX (d:Nat) (v:Value) (h:d<a.tmps.size):(a.put (some d) v).tmps.getD d undef=v:=by
 simp[Act.put,Array.getD_eq_getD_getElem?,h]
theorem Sq (hC:kJ P C) {i:Nat} {o:Oper} (ho:ops[i]?=some o) (hI:Inv w0 c0 U E a w G) (hR:jd ops L E a.tmps) (hL:∀j w',o.guard=some (j,w')→L j) (hni:¬L i) (hgo:eo ops=true)
 {tk:Nat} (h3:3≤tk) (hU:∀u,tk≤u→u<tk+32→¬U u) {act:Option Bool} {ef:Ef} (hga:guardOf ops E.rd o.guard=some act) (hev:bm C ops E.rd tk o.guard o=some ef)
 {k:Env→Option ρ} {r:ρ} (hap:CQ o act E k ef=some r) {K:Act→World→Prop}
 (hK:∀E' a' w' G',k E'=some r→E'.s.length=E.s.length→Inv w0 c0 (fun u=>U u∨(tk≤u∧u<tk+32)) E' a' w' G'→jd ops (fun j=>L j∨j=i) E' a'.tmps→(∃v,a'=a.put o.dst v)→K a' w'):wpOp P ops.toArray Q i K a w:=by
 have hIm:=hI.mono (U':=fun u=>U u∨(tk≤u∧u<tk+32)) (fun u hu=> .inl hu)
 have old:kO o act E k ef=some r→wpOp P ops.toArray Q i K a w:=by
  intro hap
  rw[Cy,Aw,Option.bind_eq_some_iff]at hap
  obtain⟨E',hs,hk⟩:=hap
  have hlen:E'.s.length=E.s.length:=by
   cases ef with
   |val v=>simp only[aY,Option.some.injEq]at hs;subst hs;exact dT ..
   |chk c v=>
    simp only[aY]at hs
    split at hs
    ·split at hs
     ·simp only[Option.some.injEq]at hs;subst hs;exact dT ..
     ·cases hs
    ·split at hs
     ·simp only[Option.some.injEq]at hs;subst hs;exact dT ..
     ·cases hs
   |opt α z x f=>
    simp only[aY,Option.bind_eq_some_iff,Option.some.injEq]at hs
    obtain⟨y,_,hs⟩:=hs;subst hs;exact dT ..
   |put b s v=>
    simp only[aY]at hs
    split at hs
    ·simp only[Option.some.injEq]at hs;subst hs;simp
    ·cases hs
   |app c kl gv t v=>
    simp only[aY]at hs
    split at hs
    ·split at hs
     ·simp only[Option.some.injEq]at hs;subst hs;rw[dT,MR,NU]
     ·cases hs
    ·cases hs
   |elem gv b e l m=>
    simp only[aY]at hs
    split at hs
    ·simp only[Option.some.injEq]at hs;subst hs;simp[Env.elem]
    ·cases hs
   |call α x tks f rp=>
    simp only[aY]at hs
    split at hs
    ·simp only[Option.bind_eq_some_iff,Option.some.injEq]at hs
     obtain⟨y,_,hs⟩:=hs;subst hs;rw[dT,iy,qp]
    ·cases hs
  exact IF hC ho hI hR hL hni hgo h3 hU hga hev hs (fun a' w' G' g1 g2 g3=>hK E' a' w' G' hk hlen g1 g2 g3)
 unfold CQ at hap
 split at hap
 ·
  rename_i α x tks f rp b
  cases hgd:o.guard with
  |none=>rw[hgd]at hga;simp[guardOf]at hga
  |some p=>
   obtain⟨j,w'⟩:=p
   rw[hgd]at hga hev
   obtain⟨b',hb',hb⟩:=xC hI hga
   cases hb'
   have hj:=hL j w' hgd
   cases b with
   |true=>
    simp only[if_true,Option.bind_eq_some_iff]at hap
    obtain⟨y,hy,hk⟩:=hap
    have hyl:=hb.1 rfl
    have hwant:Region.wanted o (yielded ops.toArray a.tmps)=true:=by simp[Region.wanted,hgd,hyl]
    have hS:=HE hC hI hR.ri (g:=some (j,w')) (by rintro j1 w1 ⟨⟩;exact hyl) h3 hU hev
    refine dm ho hwant ?_
    refine kK (hS y hy) (fun mv w1 ⟨G',g1,g2,g3,g4⟩=> ?_)
    obtain⟨k1,k2,k3⟩:=Pb (j:=j) (w':=w') g2 g3
    rw[hgd]at hk
    refine hK _ _ _ G' hk (by rw[dT,iy,qp]) ?_ ?_ ⟨_,rfl⟩
    ·exact g1.put o.dst k1 k2.1 k2.2.1 k2.2.2 (fun t u e=>absurd e (k3 t u))
    ·refine jd.put (E:={E.bP tks (rp y)with s:=bp (f y).2 (E.bP tks (rp y)).s}) (hR.map (fun s j w' act u h=>OZ (Fc h))) ho hgo hni hL (fun j1 w1 act v e=> ?_)
     unfold cZ at e
     simp only at e
     split at e
     ·cases e
     ·simp only[SV.g.injEq]at e
      obtain⟨rfl,rfl,rfl,_⟩:=e
      exact⟨⟨fun _=>hyl,fun _=>rfl⟩,hgd⟩
   |false=>
    simp only[Bool.false_eq_true,if_false]at hap
    have hyl:yielded ops.toArray a.tmps j≠some w':=fun h=>by have:=hb.2 h;cases this
    have hwant:Region.wanted o (yielded ops.toArray a.tmps)=false:=by
     simp only[Region.wanted,hgd]
     simpa using hyl
    obtain⟨k1,k2,k3⟩:=Pv (w:=w) (G:=G) (U:=fun u=>U u∨(tk≤u∧u<tk+32)) (v:=vB false) (j:=j) (w':=w')
    rw[hgd]at hap
    unfold wpOp
    simp only[List.getElem?_toArray,ho,hwant,Bool.false_eq_true,if_false]
    refine hK _ _ _ G hap (dT ..) ?_ ?_ ⟨_,rfl⟩
    ·exact hIm.put o.dst k1 k2.1 k2.2.1 k2.2.2 (fun t u e=>absurd e (k3 t u))
    ·refine hR.put ho hgo hni hL (fun j1 w1 act v e=> ?_)
     unfold cZ at e
     simp only at e
     split at e
     ·cases e
     ·simp only[SV.g.injEq]at e
      obtain⟨rfl,rfl,rfl,_⟩:=e
      exact⟨⟨fun h=>absurd h (by simp),fun h=>absurd h hyl⟩,hgd⟩
 ·
  rename_i g0 gv b e l m
  split at hap
  ·rename_i t x y hd hop
   cases hgd:o.guard with
   |some p=>
    rw[hgd]at hga
    obtain⟨b',hb',_⟩:=xC hI hga
    cases hb'
   |none=>
    rw[hgd]at hev
    have hwant:Region.wanted o (yielded ops.toArray a.tmps)=true:=by simp[Region.wanted,hgd]
    refine dm ho hwant ?_
    obtain⟨w1,G',h1,h2⟩:=R7 hC.toCxTy hI hR.ri (g:=none) (by rintro j w' ⟨⟩) hop (by simp) hev
    unfold Oper.wp
    rw[h1]
    refine hK _ _ _ G' hap (by simp[Env.AL]) ?_ ?_ ⟨undef,rfl⟩
    ·rw[hd];exact h2.mono fun u hu=> .inl hu
    ·rw[hd]
     have:=hR.map (E':=E.AL (g0::gv) b e l) (fun s j w' act u h=>by
      have hh:=getD_map (L:=E.s) (T:=fun s=>((s.bO b).setRow b e l (.row b (b::(g0::gv)) true)).aS (g0::gv) b) rfl s
      simp only[Env.AL]at h
      rw[hh]at h
      obtain⟨v1,h1⟩:=wG h
      obtain⟨v2,h2⟩:=Nr h1
      exact wG h2)
     intro s j w' act v hs
     obtain⟨q1,q2,q3⟩:=this s j w' act v hs
     exact⟨q1,.inl q2,q3⟩
  ·cases hap
 ·exact old hap
theorem pZ (hC:kJ P C) (hM:Ag P M) {io:List Nat} (hkp:keeps io ops=true) (hgo:eo ops=true) {nt:Nat} (h3:3≤nt) {k:Env→Option ρ} {r:ρ}:∀ {l:List gl} {i:Nat} {E:Env} {a:Act} {w:World} {G:Gh},ops.drop i=l.flatMap gl.ops→i+(l.flatMap gl.ops).length=ops.length→
 Inv w0 c0 (fun u=>u<nt+32*i) E a w G→jd ops (fun j=>j<i) E a.tmps→mE C M ops nt l i E k=some r→
 (∀E' a' w' G',Inv w0 c0 (fun u=>u<nt+32*ops.length) E' a' w' G'→jd ops (fun j=>j<ops.length) E' a'.tmps→E'.s.length=E.s.length→(∀i∈io,a'.tmps.getD i undef=a.tmps.getD i undef)→k E'=some r→Q .normal a' w')→
 wpOps P ops.toArray Q (List.range' i (l.flatMap gl.ops).length) a w
 | [],i,E,a,w,G,hd,hl,hI,hR,h,hK=>by
   have hi:i=ops.length:=by simpa using hl
   subst hi
   exact hK E a w G hI hR rfl (fun _ _=>rfl) h
 | .one o::l,i,E,a,w,G,hd,hl,hI,hR,h,hK=>by
   simp only[List.flatMap_cons,gl.ops,List.cons_append,List.nil_append]at hd
   simp only[List.flatMap_cons,gl.ops,List.cons_append,List.nil_append,List.length_cons]at hl⊢
   have ho:ops[i]?=some o:=by
    have:=congrArg List.head? hd
    simpa[List.head?_drop]using this
   have hd':ops.drop (i+1)=l.flatMap gl.ops:=by rw[←List.drop_drop,hd];rfl
   simp only[mE]at h
   rw[List.range'_succ,wpOps_cons]
   split at h
   ·rename_i f m s j hc
    obtain⟨hg,hm,c,hop,hcal,hargs⟩:=Cn hc
    split at h
    ·rename_i x sh n hA
     rw[Option.bind_eq_some_iff]at h
     obtain⟨⟨kk,y⟩,hF,h⟩:=h
     unfold TX at hA
     split at hA
     ·rename_i v n' shn hs hj
      split at hA
      ·rename_i x' ts hx ho'
       cases hA
       have hv:=hI.slots s
       have hgd:=hI.lh s
       have hs':E.s.getD s .no= .d v:=hs
       rw[hs']at hv hgd
       obtain⟨cs,hcs,hvk⟩:=hv
       have e:=cJ hx
       rw[e]at hcs hvk hgd ho'
       have hU:=QX hI (hM f m hm) hvk hgd.1 ho' hF
       have hj':=xd hI hj
       have hwant:Region.wanted o (yielded ops.toArray a.tmps)=true:=by simp[Region.wanted,hg]
       refine dm ho hwant (F5 hop hcal (R:=fun mv w'=>mv=Value.int .i64 kk∧∃G',Inv w0 c0 (fun u=>u<nt+32*i) (E.mark (rowsOf m.τ y v.sh)) a w' G') ?_ (fun mv w' hh=> ?_))
       ·rw[Nw hargs,hcs,hj'];exact hU
       ·obtain⟨rfl,G',hI'⟩:=hh
        have hI2:=(hI'.Ud o.dst kk).mono (U':=fun u=>u<nt+32*(i+1)) (fun u hu=>by omega)
        refine pZ hC hM hkp hgo h3 (l:=l) (i:=i+1) hd' (by omega) hI2 (fun s j w1 act v he=>absurd he (Hm Mv (by rintro _ _ _ _ ⟨⟩) s j w1 act v)) h
         (fun E2 a2 w2 G2 g1 g2 g3 g5 g4=>hK E2 a2 w2 G2 g1 g2 (g3.trans ((dT ..).trans (M0 _))) (fun j hj=>(g5 j hj).trans (je hkp (List.mem_of_getElem? ho) hj)) g4)
      ·cases hA
     ·cases hA
    ·cases h
   ·split at h
    ·rename_i hun
     unfold untold at hun
     split at hun
     ·rename_i cv hg hop
      have hwant:Region.wanted o (yielded ops.toArray a.tmps)=true:=by simp[Region.wanted,hg]
      refine dm ho hwant ?_
      have hr1:(execOp a.eval o).run P w= .ok (.value (a.eval (.const cv))) w:=by
       simp only[execOp,hop]
       rfl
      unfold Oper.wp
      rw[hr1]
      show wpOps P ops.toArray Q _ _ _
      have hI2:=(hI.QA o.dst (a.eval (.const cv))).mono (U':=fun u=>u<nt+32*(i+1)) (fun u hu=>by omega)
      refine pZ hC hM hkp hgo h3 (l:=l) (i:=i+1) hd' (by omega) hI2 (fun s j w1 act v he=>by
       obtain⟨q1,q2,q3⟩:=hR.put ho hgo (by omega) (fun j w' hj=>uQ hgo ho hj) (sv:= .no) (mv:=a.eval (.const cv)) (by rintro _ _ _ _ ⟨⟩) s j w1 act v he
       exact⟨q1,by rcases q2 with q2|q2<;>omega,q3⟩) h
       (fun E2 a2 w2 G2 g1 g2 g3 g5 g4=>hK E2 a2 w2 G2 g1 g2 (g3.trans (dT ..)) (fun j hj=>(g5 j hj).trans (je hkp (List.mem_of_getElem? ho) hj)) g4)
     ·cases hun
    ·split at h
     ·cases h
     ·rename_i act hga
      split at h
      ·cases h
      ·rename_i ef hev
       refine Sq hC ho hI hR (fun j w' hj=>uQ hgo ho hj) (by omega) hgo (tk:=nt+32*i) (by omega) (fun u h1 h2 h=>by omega) hga hev h (fun E' a' w' G' hk hlen hI' hR' ⟨v,hav⟩=> ?_)
       refine pZ hC hM hkp hgo h3 (l:=l) (i:=i+1) hd' (by omega) (hI'.mono (fun u hu=>by rcases hu with hu|hu<;>omega))
        (fun s j w1 act v he=>by
         obtain⟨q1,q2,q3⟩:=hR' s j w1 act v he
         exact⟨q1,by rcases q2 with q2|q2<;>omega,q3⟩) hk (fun E2 a2 w2 G2 g1 g2 g3 g5 g4=>hK E2 a2 w2 G2 g1 g2 (g3.trans hlen) (fun j hj=>(g5 j hj).trans (by rw[hav];exact je hkp (List.mem_of_getElem? ho) hj)) g4)
 | .nest o1 o2 o3::l,i,E,a,w,G,hd,hl,hI,hR,h,hK=>by
   simp only[List.flatMap_cons,gl.ops,List.cons_append,List.nil_append]at hd
   simp only[List.flatMap_cons,gl.ops,List.cons_append,List.nil_append,List.length_cons]at hl⊢
   have ho1:ops[i]?=some o1:=by
    have:=congrArg List.head? hd
    simpa[List.head?_drop]using this
   have hd1:ops.drop (i+1)=o2::o3::l.flatMap gl.ops:=by rw[←List.drop_drop,hd];rfl
   have ho2:ops[i+1]?=some o2:=by
    have:=congrArg List.head? hd1
    simpa[List.head?_drop]using this
   have hd2:ops.drop (i+1+1)=o3::l.flatMap gl.ops:=by rw[←List.drop_drop,hd1];rfl
   have ho3:ops[i+1+1]?=some o3:=by
    have:=congrArg List.head? hd2
    simpa[List.head?_drop]using this
   have hd3:ops.drop (i+3)=l.flatMap gl.ops:=by rw[show i+3=i+1+1+1 by omega,←List.drop_drop,hd2];rfl
   simp only[mE]at h
   split at h
   ·rename_i f m t p q d1 d2 hn
    obtain⟨g1,op1,ds1,g2,op2,ds2,hne,hqd,hc3⟩:=OK hn
    obtain⟨g3,hm,c,op3,hcal,hargs⟩:=Cn hc3
    have three:∀(cs:List Value) (n kk:Int) (L':List qG),a.tmps.getD q undef= .int .i64 n→d1<E.s.length→d2<E.s.length→(execOp a.eval o1).run P w= .ok (.value (bR m.τ cs)) w→
     nE P f #[bR m.τ cs,.int .i64 n] w (fun mv w'=>mv=Value.int .i64 kk∧∃G',Inv w0 c0 (fun u=>u<nt+32*i) (E.mark L') a w' G')→
     mE C M ops nt l (i+3) ((((E.mark L').set (some d1) .no).set (some d2) .no).set o3.dst (vI .i64 kk)) k=some r→
     wpOps P ops.toArray Q (List.range' i ((l.flatMap gl.ops).length+1+1+1)) a w:=by
     intro cs n kk L' hqv hl1 hl2 hr1 hU h
     have hszE:a.tmps.size=E.s.length:=hI.len
     rw[show(l.flatMap gl.ops).length+1+1+1=((l.flatMap gl.ops).length+1+1)+1 from rfl,List.range'_succ,wpOps_cons]
     have hw1:Region.wanted o1 (yielded ops.toArray a.tmps)=true:=by simp[Region.wanted,g1]
     refine dm ho1 hw1 ?_
     unfold Oper.wp
     rw[hr1]
     show wpOps P ops.toArray Q _ _ _
     rw[List.range'_succ,wpOps_cons]
     have hw2:Region.wanted o2 (yielded ops.toArray (a.put o1.dst (bR m.τ cs)).tmps)=true:=by simp[Region.wanted,g2]
     refine dm ho2 hw2 ?_
     have hr2:(execOp (a.put o1.dst (bR m.τ cs)).eval o2).run P w= .ok (.value (.int .i64 n)) w:=by
      have:=NF (a:=a) (some d1) (bR m.τ cs) q (by simpa using Ne.symm hqd)
      simp only[execOp,op2,Act.eval,ds1,this,hqv]
      rfl
     unfold Oper.wp
     rw[hr2]
     show wpOps P ops.toArray Q _ _ _
     rw[List.range'_succ,wpOps_cons]
     rw[ds1,ds2]
     have hw3:Region.wanted o3 (yielded ops.toArray ((a.put (some d1) (bR m.τ cs)).put (some d2) (.int .i64 n)).tmps)=true:=by simp[Region.wanted,g3]
     refine dm ho3 hw3 (F5 op3 hcal (R:=fun mv w'=>mv=Value.int .i64 kk∧∃G',Inv w0 c0 (fun u=>u<nt+32*i) (E.mark L') a w' G') ?_ (fun mv w' hh=> ?_))
     ·rw[Nw hargs,NF (some d2) _ d1 (by simpa using Ne.symm hne),MX d1 _ (by rw[hszE];exact hl1),MX d2 _ (by rw[hY,hszE];exact hl2)]
      exact hU
     ·obtain⟨rfl,G',hI'⟩:=hh
      have hI2:=(((hI'.QA (some d1) (bR m.τ cs)).QA (some d2) (.int .i64 n)).Ud o3.dst kk).mono (U':=fun u=>u<nt+32*(i+3)) (fun u hu=>by omega)
      have hz:=pZ hC hM hkp hgo h3 (l:=l) (i:=i+3) hd3 (by omega) hI2 (fun s j w1 act v he=>absurd he (Hm (Hm (Hm Mv (by rintro _ _ _ _ ⟨⟩)) (by rintro _ _ _ _ ⟨⟩)) (by rintro _ _ _ _ ⟨⟩) s j w1 act v)) h
       (fun E2 a2 w2 G2 g1 g2 g3 g5 g4=>hK E2 a2 w2 G2 g1 g2 (g3.trans ((dT ..).trans ((dT ..).trans ((dT ..).trans (M0 _))))) (fun j hj=>by
        rw[g5 j hj,je hkp (List.mem_of_getElem? ho3) hj]
        have k2:=je (a:=a.put (some d1) (bR m.τ cs)) hkp (List.mem_of_getElem? ho2) (v:= .int .i64 n) hj
        have k1:=je (a:=a) hkp (List.mem_of_getElem? ho1) (v:=bR m.τ cs) hj
        rw[ds2]at k2
        rw[ds1]at k1
        rw[k2,k1]) g4)
      exact hz
    split at h
    ·split at h
     ·rename_i x sh n hA
      rw[Option.bind_eq_some_iff]at h
      obtain⟨⟨kk,y⟩,hF,h⟩:=h
      unfold TZ at hA
      split at hA
      ·rename_i ti b o path τ0 n' shn hti hp hq
       split at hA
       ·rename_i sl v hbox
        split at hA
        ·rename_i rr hcond hsub
         split at hA
         ·rename_i x' ts hx hown
          cases hA
          simp only[Bool.and_eq_true,decide_eq_true_eq]at hcond
          obtain⟨⟨hoff,hτ⟩,hl1,hl2⟩:=hcond
          have hsp:=tM (hI.slots p)
          have hp':cu (E.s.getD p .no)= .ptr b o path τ0:=hp
          rw[hp']at hsp
          obtain⟨bk,hb3,hhdr,hptr⟩:=hsp
          obtain⟨hslot,bk',c',el,q1,q2,q3,q4,q5,q6⟩:=hI.box (E:=E) hbox
          rw[q1]at hhdr
          simp only[Value.pointer.injEq,Option.some.injEq,Addr.mk.injEq,and_true]at hhdr
          subst hhdr
          obtain⟨r1,r2,r3,r4⟩:=aW.sub hsub q5
          have e:=cJ hx
          generalize hrs:rr.sh=rsh at e hown h
          rw[e]at r1 r2 r4
          have hlen:=aW.len q5
          simp only[Array.length_toList]at hlen
          have hT:=(hC.tt t ti hti).1
          rw[hτ]at hT
          have hrun:=oR (P:=P) hT q4 (o:=o) (by rw[←hoff,hlen];exact r2)
          have hr1:(execOp a.eval o1).run P w= .ok (.value (bR m.τ ((c'.toList.drop o).take m.τ.sz))) w:=by
           simp only[execOp,op1]
           refine dj ?_
           simp only[Instr.loadAt,Act.eval,hptr,Instr.sureAddr]
           simpa using hrun
          rw[hoff]at r1
          exact three _ n kk _ (xd hI hq) hl1 hl2 hr1 (QX hI (hM f m hm) r1 (fun c hc=>q6 c (r4 c hc)) hown hF) h
         ·cases hA
        ·cases hA
       ·cases hA
      ·cases hA
     ·cases h
    ·split at h
     ·rename_i d hA
      rw[Option.bind_eq_some_iff]at h
      obtain⟨⟨kk,y⟩,hF,h⟩:=h
      split at h
      ·rename_i yy hput
       unfold S0 at hA
       split at hA
       ·rename_i ti b e ii o path τ0 n shn hti hp hq
        split at hA
        ·rename_i ll hs nd hrow
         split at hA
         ·rename_i rr hcond hsub
          split at hA
          ·rename_i x hx
           cases hA
           simp only[Bool.and_eq_true,decide_eq_true_eq]at hcond
           obtain⟨⟨⟨⟨hnd,hhs⟩,hoff⟩,hτ⟩,hl1,hl2⟩:=hcond
           subst hnd
           have hsp:=hI.slots p
           have hp':E.s.getD p .no= .ept b e ii o path τ0:=hp
           rw[hp']at hsp
           obtain⟨bk,of,nn,cap,hb3,hhdr,hi0,hin,hptr⟩:=hsp
           have hlt:ii.toNat<nn:=toNat_lt hi0 hin
           obtain⟨⟨cc,el,fz,hheap,hsz⟩,hU⟩:=TK hI (hM f m hm) hrow hhs hhdr hlt hsub hx hF hput
           have hT:=(hC.tt t ti hti).1
           rw[hτ]at hT
           rw[hoff]at hsz hU
           have hrun:=oR (P:=P) hT hheap (o:=of+ii.toNat*e.sz+o) hsz
           have hcell:cellsOf w bk (of+ii.toNat*e.sz+o) m.τ.sz=(cc.toList.drop (of+ii.toNat*e.sz+o)).take m.τ.sz:=by
            unfold cellsOf;rw[hheap]
           rw[hcell]at hU
           have hr1:(execOp a.eval o1).run P w= .ok (.value (bR m.τ ((cc.toList.drop (of+ii.toNat*e.sz+o)).take m.τ.sz))) w:=by
            simp only[execOp,op1]
            refine dj ?_
            simp only[Instr.loadAt,Act.eval,hptr,Instr.sureAddr]
            simpa using hrun
           exact three _ n kk _ (xd hI hq) hl1 hl2 hr1 hU h
          ·cases hA
         ·cases hA
        ·cases hA
       ·cases hA
      ·cases h
     ·cases h
   ·cases h
end
end Vg
namespace Vg
open Go
section
variable {P:Program} {C:Cx} {M:pn} {w0:World} {c0:C0} {U:Nat→Prop} {E:Env} {a:Act} {w:World} {G:Gh} {ops:List Oper} {L:Nat→Prop} {Q:Exit→Act→World→Prop} {ρ:Type}
theorem QR (hC:kJ P C) (hM:Ag P M) {r:ρ} {T:Nat→Value}:∀(c:Code) {E:Env} {a:Act} {w:World} {G:Gh} {kn kr:Env→Option ρ} {ke:List (Nat×(Env→Option ρ))} {Q:Exit→Act→World→Prop},
 Inv w0 c0 (fun u=>u<E.nt) E a w G→qt E.s→E.s.length=C.n→3≤E.nt→(∀i∈C.io,a.tmps.getD i undef=T i)→kx C M c E kn ke kr=some r→Hg C w0 c0 T r kn (Q .normal)→(∀id k,ke.lookup id=some k→Hg C w0 c0 T r k (Q (.exit id)))→Hg C w0 c0 T r kr (Q .ret)→
 c.wp P Q a w:=by
 intro c
 induction c with
 |skip=>intro E a w G kn kr ke Q hI hg hl h3 hT h hn he hr;exact wp_skip (hn E a w G hI hg hl h3 hT h)
 |region id ops draw=>
  intro E a w G kn kr ke Q hI hg hl h3 hT h hn' he hr
  simp only[kx]at h
  split at h
  ·rename_i hc
   simp only[Bool.and_eq_true]at hc
   obtain⟨hgo,hkp⟩:=hc
   have fin:∀E' a' w' G',Inv w0 c0 (fun u=>u<E.nt+32*ops.toList.length) E' a' w' G'→jd ops.toList (fun j=>j<ops.toList.length) E' a'.tmps→E'.s.length=E.s.length→(∀i∈C.io,a'.tmps.getD i undef=a.tmps.getD i undef)→
    kn {fY E' ops.toList with nt:=E.nt+32*ops.size}=some r→Q .normal a' w':=by
    intro E' a' w' G' g1 g2 g3 g5 g4
    obtain⟨k1,k2,k3⟩:=KG g1 g2
    refine hn' {fY E' ops.toList with nt:=E.nt+32*ops.size} a' w' G' ?_ k2 (by rw[k3,g3,hl]) (by show 3≤E.nt+32*ops.size;omega) (fun i hi=>(g5 i hi).trans (hT i hi)) g4
    simpa using k1
   split at h
   ·split at h
    ·rename_i d hd
     have hn:0<ops.size:=by
      rcases Nat.eq_zero_or_pos ops.size with h0|h0
      ·have:ops= #[]:=Array.eq_empty_of_size_eq_zero h0
       subst this
       simp[tY]at hd
      ·exact h0
     exact QB hC.toCxTy hC.mixed hI hg h3 hd hn hkp h (fun E' a' w' G' g1 g2 g3 g4 g5 g6=>hn' E' a' w' G' g1 g2 (g3.trans hl) g4 (fun i hi=>(g5 i hi).trans (hT i hi)) g6)
    simp only[xj]at h
    exact Kn (ops:=ops.toList) hC.mixed hC hkp hgo h3 hI hg (k:=fun E'=>kn {fY E' ops.toList with nt:=E.nt+32*ops.size}) (by
     rw[←h];congr 1;funext E' L;cases oc ops.toList L<;>rfl) fin
   ·refine wp_region ?_
    have hfl:=Am M ops.toList
    have:=pZ (Q:=Q) hC hM hkp hgo h3 (l:=steps M ops.toList) (i:=0) (by rw[hfl];simp) (by rw[hfl];simp) (by simpa using hI) (fun s j w1 act v he=>absurd he (hg s j w1 act v)) h fin
    rw[vK]
    rw[hfl]at this
    simpa using this
  ·cases h
 |seq x y ihx ihy=>
  intro E a w G kn kr ke Q hI hg hl h3 hT h hn he hr
  refine wp_seq ?_
  simp only[kx]at h
  split at h
  ·refine ihx (Q:=Exit.then (y.wp P Q) Q) hI hg hl h3 hT h (fun E' a' w' G' g1 g2 g3 g4 gT g5=> ?_) he hr
   exact ihy g1 g2 g3 g4 gT g5 hn he hr
  ·rename_i n _
   simp only[aP]at h
   refine ihx (Q:=Exit.then (y.wp P Q) Q) hI hg hl h3 hT h (fun E' a' w' G' g1 g2 g3 g4 gT g5=> ?_) he hr
   split at g5
   ·rename_i t ht
    obtain⟨G2,k1,k2,k3,k4⟩:=rI g1 g3 ht
    exact ihy k1 k2 k3 k4 gT g5 hn he hr
   ·cases g5
 |cond c x y ihx ihy=>
  intro E a w G kn kr ke Q hI hg hl h3 hT h hn he hr
  simp only[kx]at h
  split at h
  ·rename_i b sh hb
   have hR:RI ([]:List Oper) E a.tmps:=fun s j w1 act v he=>absurd he (hg s j w1 act v)
   obtain⟨⟨cs,h1,h2⟩,_⟩:=et hI hR (g:=none) (by rintro j w' ⟨⟩) hb
   have hev:a.eval c= .bool b:=by
    cases sh with
    |leaf=>rw[h1,show cs=_ from h2];rfl
    |sl m=>exact h2.elim
    |pair a b=>exact h2.elim
   refine wp_cond hev ?_
   split at h
   ·rename_i hb;subst hb;exact ihx hI hg hl h3 hT h hn he hr
   ·rename_i hb
    have:b=false:=by simpa using hb
    subst this
    exact ihy hI hg hl h3 hT h hn he hr
  ·cases h
 |block id c ih=>
  intro E a w G kn kr ke Q hI hg hl h3 hT h hn he hr
  refine wp_block ?_
  simp only[kx]at h
  refine ih (Q:=Exit.inBlock id Q) hI hg hl h3 hT h hn (fun i k hk=> ?_) hr
  rw[qL]at hk
  intro E2 a2 w2 G2 g1 g2 g3 g4 gT g5
  show Exit.inBlock id Q (.exit i) a2 w2
  simp only[Exit.inBlock]
  split at hk
  ·rename_i e
   simp only[Option.some.injEq]at hk
   subst hk
   simp only[e,if_true]
   exact hn E2 a2 w2 G2 g1 g2 g3 g4 gT g5
  ·rename_i e
   simp only[e,if_false]
   exact he i k hk E2 a2 w2 G2 g1 g2 g3 g4 gT g5
 |loop c ih=>
  intro E a w G kn kr ke Q hI hg hl h3 hT h hn he hr
  simp only[kx]at h
  split at h
  ·cases h
  ·rename_i n _
   have hq:∃t,proj n E=some t∧az C.k (fun G t=>kx C M c (dC C.n n t) (fun E'=>match proj n E' with|some t=>G t|none=>none) ke kr) t=some r:=by
    split at h
    ·rename_i t ht;exact⟨t,ht,h⟩
    ·cases h
   obtain⟨t,ht,h⟩:=hq
   obtain⟨G2,k1,k2,k3,k4⟩:=rI hI hl ht
   refine wp_loop_rounds C.k ?_
   have key:∀(m:Nat) (t:aT (jS n.ks)) (a:Act) (w:World) (G:Gh),az m (fun G t=>kx C M c (dC C.n n t) (fun E'=>match proj n E' with|some t=>G t|none=>none) ke kr) t=some r→
    Inv w0 c0 (fun u=>u<(dC C.n n t).nt) (dC C.n n t) a w G→qt (dC C.n n t).s→(dC C.n n t).s.length=C.n→3≤(dC C.n n t).nt→(∀i∈C.io,a.tmps.getD i undef=T i)→Code.rounds P c Q m a w:=by
    intro m
    induction m with
    |zero=>intro t a w G h;simp[az]at h
    |succ m ihm=>
     intro t a w G h g1 g2 g3 g4 gT
     rw[rounds_succ]
     simp only[az]at h
     refine ih (Q:=Exit.then (Code.rounds P c Q m) Q) g1 g2 g3 g4 gT h (fun E' a' w' G' q1 q2 q3 q4 qT q5=> ?_) he hr
     split at q5
     ·rename_i t' ht'
      obtain⟨G3,p1,p2,p3,p4⟩:=rI q1 q3 ht'
      exact ihm t' a' w' G3 q5 p1 p2 p3 p4 qT
     ·cases q5
   exact key C.k t a w G2 h k1 k2 k3 k4 hT
 |exit id=>
  intro E a w G kn kr ke Q hI hg hl h3 hT h hn he hr
  simp only[kx]at h
  split at h
  ·rename_i k hk
   exact wp_exit (he id k hk E a w G hI hg hl h3 hT h)
  ·cases h
 |ret=>intro E a w G kn kr ke Q hI hg hl h3 hT h hn he hr;exact wp_ret (hr E a w G hI hg hl h3 hT h)
 |_=>intro E a w G kn kr ke Q hI hg hl h3 hT h hn he hr;simp[kx]at h
end
end Vg
namespace Vg
open Go
def PG:Value→Value→Bool
 | .int k n,.int k' n'=>k==k'&&n==n'
 | .bool b,.bool b'=>b==b'
 | .string a,.string b=>a.size==0&&b.size==0
 | .slice none l c,.slice none l' c'=>l==l'&&c==c'
 |_,_=>false
def ln:List Value→List Value→Bool
 | [],[]=>true
 |a::l,b::m=>PG a b&&ln l m
 |_,_=>false
def P2:Ty→Value→Bool
 | .pair a b,.agg cs=>ln cs.toList (Ty.pair a b).zero
 | .pair _ _,_=>false
 |τ,v=>ln [v] τ.zero
theorem Tb {a:ByteArray} (h:a.size=0):a=ByteArray.empty:=by
 cases a with
 |mk d=>
  have:d.size=0:=h
  have:d= #[]:=Array.eq_empty_of_size_eq_zero this
  rw[this];rfl
theorem R9 {a b:Value} (h:PG a b=true):a=b:=by
 unfold PG at h
 split at h
 ·simp only[Bool.and_eq_true,beq_iff_eq]at h;rw[h.1,h.2]
 ·simp only[beq_iff_eq]at h;rw[h]
 ·simp only[Bool.and_eq_true,beq_iff_eq]at h;rw[Tb h.1,Tb h.2]
 ·simp only[Bool.and_eq_true,beq_iff_eq]at h;rw[h.1,h.2]
 ·cases h
theorem nI:∀ {l m:List Value},ln l m=true→l=m
 | [],[],_=>rfl
 |a::l,b::m,h=>by
  simp only[ln,Bool.and_eq_true]at h
  rw[R9 h.1,nI h.2]
 | [],_::_,h|_::_,[],h=>by simp[ln]at h
theorem Sj {τ:Ty} {v:Value} (h:P2 τ v=true):v=bR τ τ.zero:=by
 cases τ with
 |pair a b=>
  cases v with
  |agg cs=>
   have:=nI (show ln cs.toList (Ty.pair a b).zero=true from h)
   simp only[bR,←this,Array.toArray_toList]
  |_=>simp[P2]at h
 |int k=>have:=nI (show ln [v] (Ty.int k).zero=true from h);simpa[bR,Ty.zero]using this
 |bool=>have:=nI (show ln [v] Ty.bool.zero=true from h);simpa[bR,Ty.zero]using this
 |str=>have:=nI (show ln [v] Ty.str.zero=true from h);simpa[bR,Ty.zero]using this
 |sl e=>have:=nI (show ln [v] (Ty.sl e).zero=true from h);simpa[bR,Ty.zero]using this
def TS:TypeDesc→Bool
 | .struct _| .array _ _=>true
 |_=>false
def qm (P:Program) (t:TypeId) (τ:Ty):Bool:=
 match P.info? t,P.underlying t with
 |some inf,some d=>inf.size==τ.sz&&(match inf.zero with|some v=>P2 τ v|none=>false)&&decide (inf.bytes≤32768)&&TS d==τ.bK
 |_,_=>false
theorem pY {P:Program} {t:TypeId} {τ:Ty} (h:qm P t τ=true):eW P t τ:=by
 unfold qm at h
 split at h
 ·rename_i inf d h1 h2
  simp only[Bool.and_eq_true,beq_iff_eq,decide_eq_true_eq]at h
  obtain⟨⟨⟨h3,h4⟩,h5⟩,h6⟩:=h
  refine⟨inf,d,h1,h3,?_,h5,h2,?_⟩
  ·split at h4
   ·rename_i v hv
    rw[hv,Sj h4]
   ·cases h4
  ·rw[←h6]
   cases d<;>rfl
 ·cases h
def NW (P:Program) (τ:Ty) (fs:List TypeId) (j:Nat) (f:Field):Bool:=
 f.offset==τ.off (dA fs.length j)&&fs[j]?==some f.type&&(match τ.sub (dA fs.length j)with|some σ=>qm P f.type σ|none=>false)
theorem QW {P:Program} {τ:Ty} {fs:List TypeId} {j:Nat} {f:Field} (h:NW P τ fs j f=true):AJ P τ fs j f:=by
 simp only[NW,Bool.and_eq_true,beq_iff_eq]at h
 obtain⟨⟨h1,h2⟩,h3⟩:=h
 refine⟨h1,h2,?_⟩
 split at h3
 ·rename_i σ hs
  exact⟨σ,hs,pY h3⟩
 ·cases h3
def IK (P:Program) (chk:Ty→TypeId→Bool):Ty→List Field→Nat→Bool
 |τ,[f],off=>f.offset==off&&f.name != "_" &&qm P f.type τ&&chk τ f.type
 | .pair a b,f::g::l,off=>f.offset==off&&f.name != "_" &&qm P f.type a&&chk a f.type&&IK P chk b (g::l) (off+a.sz)
 |_,_,_=>false
def Pn (P:Program):Nat→Ty→TypeId→Bool
 |0,_,_=>false
 |n+1,τ,t=>
  match P.underlying t with
  |some (.int k)=>τ== .int k
  |some .bool=>τ== .bool
  |some .string=>τ== .str
  |some (.struct fs)=>τ.bK&& !P.stoodInHeld t&&IK P (Pn P n) τ fs.toList 0
  |_=>false
section
variable {P:Program}
theorem tB {w:World} {t:TypeId} {τ:Ty} (h:eW P t τ) {cs:Array Value} {off:Nat} (ho:off+τ.sz≤cs.size):
 (part t cs off).run P w= .ok (bR τ ((cs.toList.drop off).take τ.sz)) w:=by
 unfold part
 rw[Sem.run_bind,qo h,Result.andThen_ok]
 cases hp:τ.bK with
 |true=>
  cases τ with
  |pair a b=>
   simp[cU h,bR,Array.toList_extract,List.extract]
   apply Array.ext'
   simp[Array.toList_extract,List.extract]
  |_=>simp[Ty.bK]at hp
 |false=>
  have hsz:τ.sz=1:=by cases τ<;>first|rfl|simp[Ty.bK]at hp
  rw[hsz]at ho
  have hg:cs[off]?=some cs[off]:=Array.getElem?_eq_getElem (by omega)
  simp only[Bool.false_eq_true,if_false,hg,Sem.run_pure]
  have:(cs.toList.drop off).take τ.sz=[cs[off]]:=by
   rw[hsz,List.take_one,List.head?_drop]
   simp[hg]
  rw[this]
  cases τ<;>first|rfl|simp[Ty.bK]at hp
theorem RV (a b:ByteArray):(a==b)=(a.toList==b.toList):=by
 rw[Bool.eq_iff_iff]
 simp only[beq_iff_eq,ByteArray.toList_eq]
 constructor
 ·intro h
  have:(a.data==b.data)=true:=h
  simp only[beq_iff_eq]at this
  rw[this]
 ·intro h
  have h':a.data=b.data:=by
   have:=congrArg List.toArray h
   simpa using this
  show(a.data==b.data)=true
  simp[h']
theorem Kw {w:World} {chk:Ty→TypeId→Bool} {d:Nat}
 (hchk:∀ {τ:Ty} {t:TypeId} {a b:τ.den} {c1 c2:List Value},chk τ t=true→aR w τ a c1 []→aR w τ b c2 []→(Op.equalIn d t (bR τ c1) (bR τ c2)).run P w= .ok (eqv τ a b) w) {xs ys:Array Value}:
 ∀ {fs:List Field} {τ:Ty} {off:Nat} {a b:τ.den},IK P chk τ fs off=true→aR w τ a (xs.toList.drop off) []→aR w τ b (ys.toList.drop off) []→
 ∃r,(Sem.run P (forIn fs ((none,()):Option Bool×Unit) fun f __s=>if f.name= "_" then pure (ForInStep.yield (none,()))else do
  let __do_lift←part f.type xs f.offset
  let __do_lift_1←part f.type ys f.offset
  let __do_lift←Op.equalIn d f.type __do_lift __do_lift_1
  if __do_lift=false then pure (ForInStep.done (some false,()))else pure (ForInStep.yield (none,()))) w)= .ok r w∧r=(if eqv τ a b=true then none else some false,())
 | [],τ,_,_,_,h,_,_=>by cases τ<;>simp[IK]at h
 | [f],τ,off,a,b,h,ha,hb=>by
   have h:(f.offset==off&&f.name != "_" &&qm P f.type τ&&chk τ f.type)=true:=by cases τ<;>exact h
   simp only[Bool.and_eq_true,beq_iff_eq,bne_iff_ne,ne_eq]at h
   obtain⟨⟨⟨h1,h2⟩,h3⟩,h4⟩:=h
   have hf:=pY h3
   have l1:=ha.len
   have l2:=hb.len
   simp only[List.length_drop,Array.length_toList]at l1 l2
   have hpos:=τ.kY
   have e1:(xs.toList.drop off).take τ.sz=xs.toList.drop off:=List.take_of_length_le (by simp;omega)
   have e2:(ys.toList.drop off).take τ.sz=ys.toList.drop off:=List.take_of_length_le (by simp;omega)
   simp only[List.forIn_cons,h2,if_false,h1,Sem.run_bind,tB hf (show off+τ.sz≤xs.size by omega),tB hf (show off+τ.sz≤ys.size by omega),Result.andThen_ok,e1,e2,hchk h4 ha hb]
   cases eqv τ a b<;>simp
 |f::g::l,τ,off,a,b,h,ha,hb=>by
  cases τ with
  |pair τ1 τ2=>
   simp only[IK,Bool.and_eq_true,beq_iff_eq,bne_iff_ne,ne_eq]at h
   obtain⟨⟨⟨⟨h1,h2⟩,h3⟩,h4⟩,h5⟩:=h
   have hf:=pY h3
   obtain⟨c1,c2,B1,B2,q1,q2,r1,r2⟩:=ha
   obtain⟨d1,d2,D1,D2,p1,p2,s1,s2⟩:=hb
   obtain⟨rfl,rfl⟩:=List.append_eq_nil_iff.1 q2.symm
   obtain⟨rfl,rfl⟩:=List.append_eq_nil_iff.1 p2.symm
   have l1:=r1.len
   have l2:=s1.len
   have t1:(xs.toList.drop off).take τ1.sz=c1:=by rw[q1,←l1,List.take_left]
   have t2:(ys.toList.drop off).take τ1.sz=d1:=by rw[p1,←l2,List.take_left]
   have u1:xs.toList.drop (off+τ1.sz)=c2:=by rw[←List.drop_drop,q1,←l1,List.drop_left]
   have u2:ys.toList.drop (off+τ1.sz)=d2:=by rw[←List.drop_drop,p1,←l2,List.drop_left]
   have z1:off+τ1.sz≤xs.size:=by
    have:=congrArg List.length q1
    simp only[List.length_drop,Array.length_toList,List.length_append,l1]at this
    have:=τ1.kY;omega
   have z2:off+τ1.sz≤ys.size:=by
    have:=congrArg List.length p1
    simp only[List.length_drop,Array.length_toList,List.length_append,l2]at this
    have:=τ1.kY;omega
   obtain⟨r,k1,k2⟩:=Kw hchk (xs:=xs) (ys:=ys) h5 (by rw[u1];exact r2) (by rw[u2];exact s2)
   rw[List.forIn_cons]
   simp only[h2,if_false,h1,Sem.run_bind,tB hf z1,tB hf z2,Result.andThen_ok,t1,t2,hchk h4 r1 s1,eqv]
   rcases Bool.eq_false_or_eq_true (eqv τ1 a.1 b.1)with he|he
   ·simp only[he,Bool.true_eq_false,if_false,Sem.run_pure,Result.andThen_ok,Bool.true_and]
    exact⟨r,k1,k2⟩
   ·simp[he]
  |_=>simp[IK]at h
theorem UB {w:World}:∀(n d:Nat) {τ:Ty} {t:TypeId} {a b:τ.den} {c1 c2:List Value},n≤d→Pn P n τ t=true→aR w τ a c1 []→aR w τ b c2 []→(Op.equalIn d t (bR τ c1) (bR τ c2)).run P w= .ok (eqv τ a b) w:=by
 intro n
 induction n with
 |zero=>intro d τ t a b c1 c2 _ h;simp[Pn]at h
 |succ n ih=>
  intro d τ t a b c1 c2 hd h ha hb
  obtain⟨d,rfl⟩:∃e,d=e+1:=⟨d-1,by omega⟩
  simp only[Pn]at h
  split at h
  ·rename_i k hu
   simp only[beq_iff_eq]at h
   subst h
   obtain⟨rfl,_⟩:=ha
   obtain⟨rfl,_⟩:=hb
   simp[Op.equalIn,run_underlying hu,bR,eqv]
  ·rename_i hu
   simp only[beq_iff_eq]at h
   subst h
   obtain⟨rfl,_⟩:=ha
   obtain⟨rfl,_⟩:=hb
   simp[Op.equalIn,run_underlying hu,bR,eqv]
  ·rename_i hu
   simp only[beq_iff_eq]at h
   subst h
   obtain⟨rfl,_⟩:=ha
   obtain⟨rfl,_⟩:=hb
   simp[Op.equalIn,run_underlying hu,bR,eqv,RV]
  ·rename_i fs hu
   simp only[Bool.and_eq_true,Bool.not_eq_true']at h
   obtain⟨⟨hp,hs⟩,hf⟩:=h
   cases τ with
   |pair τ1 τ2=>
    simp only[bR]
    obtain⟨r,k1,k2⟩:=Kw (P:=P) (w:=w) (d:=d) (xs:=c1.toArray) (ys:=c2.toArray) (fun h ha hb=>ih d (by omega) h ha hb) hf (by simpa using ha) (by simpa using hb)
    simp[Op.equalIn,run_underlying hu,hs]
    rw[←Array.forIn_toList,k1,k2,Result.andThen_ok]
    cases eqv (τ1.pair τ2) a b<;>simp
   |_=>simp[Ty.bK]at hp
  ·cases h
theorem Tz {t:TypeId} {τ:Ty} {n:Nat} (hn:n≤10000) (hp:τ.bK=true) (h:Pn P n τ t=true) (hg:P.eqGuardType P.depth t=false):Sx P t τ:=by
 intro w op x y a b c1 c2 hop ha hb
 have he:=UB n Op.maxDepth hn h ha hb
 cases τ with
 |pair τ1 τ2=>
  simp only[bR]at he⊢
  rcases hop with rfl|rfl
  ·simp[eqGuard,hg,binOp,Op.equal,he]
  ·simp[eqGuard,hg,binOp,Op.equal,he]
 |_=>simp[Ty.bK]at hp
def Hb (P:Program) (t:TypeId) (i:TI):Bool:=
 qm P t i.τ&&(match i.τ,P.underlying t with
  | .int k,some (.int k')=>k==k'
  | .bool,some .bool=>true
  | .str,some .string=>true
  | .sl e,some (.slice el)=>el==i.el&&qm P el e&&(if e== .int .u8 then(match P.underlying el with|some (.int .u8)=>true|_=>false)else true)
  | .pair a b,some (.struct fields)=>fields.size==i.fs.length&&fields.toList.zipIdx.all (fun p=>NW P (.pair a b) i.fs p.2 p.1)&&
   (if(Ty.pair a b).flat then Pn P 20 (.pair a b) t&& !P.eqGuardType P.depth t else true)
  |_,_=>false)&&(i.τ.bK||i.fs.isEmpty)
theorem FY {t:TypeId} {i:TI} (h:Hb P t i=true):
 HJ P t i∧(i.τ.bK=true→i.τ.flat=true→Sx P t i.τ)∧(i.τ.bK=false→i.fs=[])∧(i.τ= .sl (.int .u8)→P.underlying i.el=some (.int .u8)):=by
 obtain⟨τ,fs,el⟩:=i
 simp only[Hb,Bool.and_eq_true,Bool.or_eq_true]at h
 obtain⟨⟨h1,h2⟩,h3⟩:=h
 have hf:=pY h1
 cases τ with
 |int k=>
  cases hu:P.underlying t with
  |none=>rw[hu]at h2;simp at h2
  |some d=>
   rw[hu]at h2
   cases d<;>simp at h2
   subst h2
   exact⟨⟨hf,hu⟩,by simp[Ty.bK],by simpa[Ty.bK]using h3,by simp⟩
 |bool=>
  cases hu:P.underlying t with
  |none=>rw[hu]at h2;simp at h2
  |some d=>
   rw[hu]at h2
   cases d<;>simp at h2
   exact⟨⟨hf,hu⟩,by simp[Ty.bK],by simpa[Ty.bK]using h3,by simp⟩
 |str=>
  cases hu:P.underlying t with
  |none=>rw[hu]at h2;simp at h2
  |some d=>
   rw[hu]at h2
   cases d<;>simp at h2
   exact⟨⟨hf,hu⟩,by simp[Ty.bK],by simpa[Ty.bK]using h3,by simp⟩
 |sl e=>
  cases hu:P.underlying t with
  |none=>rw[hu]at h2;simp at h2
  |some d=>
   rw[hu]at h2
   cases d<;>simp only[Bool.and_eq_true,beq_iff_eq,Bool.false_eq_true]at h2
   obtain⟨⟨rfl,h4⟩,h5⟩:=h2
   refine⟨⟨hf,hu,pY h4⟩,by simp[Ty.bK],by simpa[Ty.bK]using h3,fun he=> ?_⟩
   simp only[Ty.sl.injEq]at he
   subst he
   simp only[if_true]at h5
   split at h5
   ·assumption
   ·cases h5
 |pair a b=>
  cases hu:P.underlying t with
  |none=>rw[hu]at h2;simp at h2
  |some d=>
   rw[hu]at h2
   cases d with
   |struct fields=>
    simp only[Bool.and_eq_true,beq_iff_eq]at h2
    obtain⟨⟨h4,h5⟩,h6⟩:=h2
    refine⟨⟨hf,fields,hu,h4,fun j f hj=> ?_⟩,fun _ hfl=> ?_,by simp[Ty.bK],by simp⟩
    ·rw[List.all_eq_true]at h5
     exact QW (h5 (f,j) (List.mem_zipIdx_iff_getElem?.2 (by simpa using hj)))
    ·rw[if_pos hfl]at h6
     simp only[Bool.and_eq_true,Bool.not_eq_true']at h6
     exact Tz (by omega) rfl h6.1 h6.2
   |_=>simp at h2
theorem uN {α:Type}:∀ {l:List (Nat×α)} {a:Nat} {b:α},l.lookup a=some b→(a,b)∈l
 | [],_,_,h=>by simp[List.lookup]at h
 |(x,y)::l,a,b,h=>by
  simp only[List.lookup]at h
  split at h
  ·rename_i e
   simp only[beq_iff_eq]at e
   simp only[Option.some.injEq]at h
   subst e h;simp
  ·exact List.mem_cons_of_mem _ (uN h)
theorem Tc {C:Cx} {l:List (Nat×TI)} (hl:l.all (fun p=>Hb P p.1 p.2)=true) (hC:C.tt=fun t=>l.lookup t):CxTy P C:=by
 have:∀t i,C.tt t=some i→Hb P t i=true:=by
  intro t i h
  rw[hC]at h
  exact List.all_eq_true.1 hl (t,i) (uN h)
 exact⟨fun t i h=>(FY (this t i h)).1,fun t i h=>(FY (this t i h)).2.1,fun t i h=>(FY (this t i h)).2.2.1,fun t i h=>(FY (this t i h)).2.2.2⟩
end
end Vg
namespace Vg
open Go
def Qw (tt:List (Nat×TI)) (cts:List (FuncId×aF)) (la ja:Nat→Option aM) (k:Nat):Cx:=
 ⟨fun t=>tt.lookup t,fun f=>cts.lookup f,la,ja,k,0,[]⟩
def ae (P:Program):List (FuncId×aF)→Prop
 | []=>True
 |p::l=>oQ P p.1 p.2∧ae P l
theorem ae.mem {P:Program}:∀ {l:List (FuncId×aF)},ae P l→∀p∈l,oQ P p.1 p.2
 | [],_,_,h=>by cases h
 |q::l,⟨h1,h2⟩,p,h=>by
  rcases List.mem_cons.1 h with rfl|h
  ·exact h1
  ·exact ae.mem h2 p h
theorem Qh {P:Program} {tt:List (Nat×TI)} (h1:tt.all (fun p=>Hb P p.1 p.2)=true) (hm:P.follows .mixedOrders=true) {cts:List (FuncId×aF)} (hc:ae P cts) {la ja:Nat→Option aM} {k:Nat}:
 kJ P (Qw tt cts la ja k):=
 ⟨Tc h1 rfl,fun f con h=>hc.mem (f,con) (uN h),hm⟩
def QK (fn:Func) (n:Nat):Bool:=match fn.name== "runtime.NumGoroutine" with|true=>false|false=>decide (n≤fn.ntmps)
theorem pk {fn:Func} {n:Nat} (h:QK fn n=true):(fn.name== "runtime.NumGoroutine")=false∧n≤fn.ntmps:=by
 unfold QK at h
 split at h
 ·cases h
 ·rename_i h1;exact⟨h1,of_decide_eq_true h⟩
theorem ae.ev {P:Program} {tt:List (Nat×TI)} (h1:tt.all (fun p=>Hb P p.1 p.2)=true) (hm:P.follows .mixedOrders=true) {t:List (FuncId×aF)} (hc:ae P t) (la ja:Nat→Option aM) (k:Nat)
 {f:FuncId} {fn:Func} (hf:P.funcs[f]?=some fn) {ps:List PK} {rs:List RK} {kp:List (Nat×List Bool)} (hn:QK fn ps.length=true)
 {F:aT (ps.map PK.ty)→Option (aT (rs.map RK.ty++bh ps))} (hF:∀x,Ql (Qw tt t la ja k) ps rs kp fn x=F x):ae P ((f,⟨ps,rs,F,kp⟩)::t):=
 ⟨UD (Qh h1 hm hc) hf (pk hn).1 (pk hn).2 (fun x _ h=>(Sc ..).symm.trans ((hF x).trans h)),hc⟩
end Vg
namespace Vg
open Go
def bW {α β:Type} (x:α) (f:α→β):β:=f x
def eX:Ty→Pt
 | .sl _=> .own
 | .pair a b=> .pair (eX a) (eX b)
 |_=> .leaf
def PO (τ:Ty) (rv:List ResultVar) (E:Env):Option (Int×τ.den):=
 match rv with
 | [.tmp s]=>(match E.get s,E.get 0 with
   | .d ⟨.int .i64,k,_⟩,.d v=>(match ei v τ,me v.sh with
     |some y,some _=>some (k,y)
     |_,_=>none)
   |_,_=>none)
 |_=>none
def SF (C:Cx) (M:pn) (τ:Ty) (fn:Func) (x:τ.den) (n:Int):Option (Int×τ.den):=
 match fn.body with
 |none=>none
 |some c=>
  let e:=bq [.val τ (eX τ),.val (.int .i64) .leaf] (x,n,()) 3
  kx {C with n:=fn.ntmps,io:=[0]} M c ⟨e.1++List.replicate (fn.ntmps-e.1.length) .no,e.2,true⟩ (PO τ fn.results.toList) [] (PO τ fn.results.toList)
def Qc (C:Cx) (M:pn) (ps:List PK) (rs:List RK) (kp:List (Nat×List Bool)) (fn:Func) (x:aT (ps.map PK.ty)):Option (aT (rs.map RK.ty++bh ps)):=
 match fn.body with
 |none=>none
 |some c=>
  let e:=bq ps x 3
  kx {C with n:=fn.ntmps,io:=fh ps 0} M c ⟨e.1++List.replicate (fn.ntmps-e.1.length) .no,e.2,true⟩ (fin C.tt ps rs kp fn.results.toList e.2) [] (fin C.tt ps rs kp fn.results.toList e.2)
section
variable {P:Program} {C:Cx} {M:pn} {w0:World} {c0:C0} {U:Nat→Prop} {E:Env} {a:Act} {w:World} {G:Gh} {ops:List Oper} {L:Nat→Prop} {Q:Exit→Act→World→Prop} {ρ:Type}
theorem Iy:∀ {τ:Ty} {x:τ.den} {cs:List Value} {B:List Nat} (tk:Nat),3≤tk→aR w τ x cs B→B.Nodup→∃(f:Nat→Nat) (H:Nat→Value),(∀b∈B,tk≤f b∧f b<aH (eX τ) tk)∧
 ∀G1:Gh,(∀b∈B,G1.col b=f b)→(∀u,tk≤u→u<aH (eX τ) tk→G1.hdr u=H u)→aW w G1 τ x (aO (eX τ) tk [1]).1 cs
 | .int _,_,_,_,_,_,h,_=>⟨fun _=>0,fun _=>undef,by rw[h.2];simp,fun _ _ _=>h.1⟩
 | .bool,_,_,_,_,_,h,_=>⟨fun _=>0,fun _=>undef,by rw[h.2];simp,fun _ _ _=>h.1⟩
 | .str,_,_,_,_,_,h,_=>⟨fun _=>0,fun _=>undef,by rw[h.2];simp,fun _ _ _=>h.1⟩
 | .sl e,l,cs,B,tk,h3,h,hn=>by
   obtain⟨v,rfl,hS⟩:=h
   refine⟨fun _=>tk,fun _=>v,fun b _=>⟨Nat.le_refl _,Nat.lt_succ_self _⟩,fun G1 g1 g2=>⟨v,rfl,h3,g2 tk (Nat.le_refl _) (Nat.lt_succ_self _),B,hS,?_⟩⟩
   rintro b Bs rfl
   rw[List.nodup_cons]at hn
   exact⟨g1 b (by simp),hn.1,fun z hz=>by simp[g1 z (by simp[hz])],fun _=>hn.2⟩
 | .pair a b,p,cs,B,tk,h3,h,hn=>by
   obtain⟨c1,c2,B1,B2,rfl,rfl,h1,h2⟩:=h
   rw[List.nodup_append]at hn
   obtain⟨n1,n2,n3⟩:=hn
   have hge:=bj (eX a) tk
   have hge2:=bj (eX b) (aH (eX a) tk)
   obtain⟨f1,H1,j1,k1⟩:=Iy tk h3 h1 n1
   obtain⟨f2,H2,j2,k2⟩:=Iy (aH (eX a) tk) (by omega) h2 n2
   refine⟨fun z=>if z∈B1 then f1 z else f2 z,fun u=>if u<aH (eX a) tk then H1 u else H2 u,fun z hz=> ?_,fun G1 g1 g2=>⟨c1,c2,rfl,?_,?_⟩⟩
   ·simp only[eX,dc]
    by_cases hz1:z∈B1
    ·have:=j1 z hz1;simp only[hz1,if_true];omega
    ·have:=j2 z ((List.mem_append.1 hz).resolve_left hz1);simp only[hz1,if_false];omega
   ·exact k1 G1 (fun z hz=>by rw[g1 z (by simp[hz])];simp[hz]) (fun u hu hu2=>(g2 u hu (by simp only[eX,dc];omega)).trans (if_pos hu2))
   ·rw[bH]
    exact k2 G1 (fun z hz=>by
     rw[g1 z (by simp[hz])]
     have:z∉B1:=fun h=>n3 z h z hz rfl
     simp[this]) (fun u hu hu2=>(g2 u (by omega) (by simp only[eX,dc];omega)).trans (if_neg (by omega)))
theorem Tq {τ:Ty} {x:τ.den} {cs:List Value} {B:List Nat} (n:Int) (h:aR w τ x cs B) (hn:B.Nodup) (hf:∀b∈B,GW w b):
 ∃G0:Gh,Cu w G0 (bq [.val τ (eX τ),.val (.int .i64) .leaf] (x,n,()) 3).1 [bR τ cs,.int .i64 n] (bu [.val τ (eX τ),.val (.int .i64) .leaf] 3)∧
  (∀b,b∉B→G0.col b=0):=by
 obtain⟨f,H,j,k⟩:=Iy 3 (Nat.le_refl _) h hn
 let G0:Gh:=⟨fun b=>if b∈B then f b else 0,H,fun _=>false⟩
 have hcol:∀b∈B,G0.col b=f b:=fun b hb=>by simp[G0,hb]
 have hv:=k G0 hcol (fun _ _ _=>rfl)
 refine⟨G0,⟨rfl,fun i=> ?_,fun i=> ?_,fun i j t v v' h h'=>nz h h',fun b hb=> ?_,fun b hb=> ?_,rfl,fun b=> ?_⟩,fun b hb=>by simp[G0,hb]⟩
 ·match i with
  |0=>exact⟨cs,rfl,hv⟩
  |1=>exact⟨_,rfl,rfl⟩
  |i+2=>trivial
 ·by_cases hi:i<(bq [.val τ (eX τ),.val (.int .i64) .leaf] (x,n,()) 3).1.length
  ·have hmem:(bq [.val τ (eX τ),.val (.int .i64) .leaf] (x,n,()) 3).1.getD i .no∈(bq [.val τ (eX τ),.val (.int .i64) .leaf] (x,n,()) 3).1:=by
    rw[List.getD_eq_getElem?_getD,List.getElem?_eq_getElem hi];simp
   obtain⟨h1,h2,h3⟩:=fK _ hmem
   have hge:=dI [.val τ (eX τ),.val (.int .i64) .leaf] 3
   refine⟨fun c hc=> ?_,fun c hc=> ?_,by rw[h3];simp⟩
   ·rcases h1 c hc with rfl|⟨q1,q2,q3⟩|h
    ·exact⟨by omega,by omega,rfl⟩
    ·exact⟨by omega,q2,rfl⟩
    ·simp[Eo]at h
   ·have:=h2 c hc;simp[bQ]at this
  ·rw[List.getD_eq_getElem?_getD,List.getElem?_eq_none (by omega)]
   simp[aX,SV.sc,SV.bt,SV.rt]
 ·by_cases hb1:b∈B
  ·rw[hcol b hb1]
   exact⟨(j b hb1).2,aR.bounds h b hb1⟩
  ·simp[G0,hb1]at hb
 ·by_cases hb1:b∈B
  ·exact hf b hb1
  ·simp[G0,hb1]at hb
 ·by_cases hb1:b∈B
  ·rw[hcol b hb1];have:=j b hb1;omega
  ·simp[G0,hb1]
theorem Ky (args:List Value) (n i:Nat) (hi:i<args.length):(args.toArray++Array.replicate (n-args.toArray.size) undef).getD i undef=args.getD i undef:=by
 rw[Array.getD_eq_getD_getElem?,List.getD_eq_getElem?_getD,Array.getElem?_append_left (by simpa using hi)]
 simp
theorem UG (hC:kJ P C) (hM:Ag P M) {f:FuncId} {fn:Func} {m:dG} (hf:P.funcs[f]?=some fn) (hname:(fn.name== "runtime.NumGoroutine")=false) (hn:2≤fn.ntmps)
 (hF:∀x n y,m.F x n=some y→SF C M m.τ fn x n=some y):vM P f m:=by
 intro w x n k y cs B hy hrep hnd hfr
 have hev:=hF x n (k,y) hy
 unfold SF at hev
 split at hev
 ·cases hev
 ·rename_i c hb
  obtain⟨G0,hlot,hG0⟩:=Tq n hrep hnd hfr
  have hrun:(callFunc f #[bR m.τ cs,.int .i64 n]).run P w= .ok (.enter f #[bR m.τ cs,.int .i64 n]) w:=by
   have hne:fn.name≠ "runtime.NumGoroutine" :=by simpa using hname
   unfold callFunc
   simp[hf,hne,hb]
  unfold nE
  rw[hrun]
  simp only
  refine calls_of_wp hf hb ?_
  have hE:=CA hlot fn.ntmps
  have h30:=dI [.val m.τ (eX m.τ),.val (.int .i64) .leaf] 3
  have hkey:Hg {C with n:=fn.ntmps,io:=[0]} w (G0.Ct (bu [.val m.τ (eX m.τ),.val (.int .i64) .leaf] 3)) (fun i=>[bR m.τ cs,Value.int .i64 n].getD i undef) (k,y) (PO m.τ fn.results.toList) (fun a' w'=>
   a'.defers=[]∧∃v,(results fn a'.tmps).run P w'= .ok v w'∧∃v',Ending.returned v=Ending.returned v'∧(v'= .int .i64 k∧∃B',Mc w w' m.τ y cs B B')):=by
   intro E' a' w' G' g1 g2 g3 g4 gT g5
   unfold PO at g5
   split at g5
   ·rename_i s hrv
    split at g5
    ·rename_i k' shk v hs h0
     split at g5
     ·rename_i y' ts hcast hown
      cases g5
      have hk:=xd g1 hs
      have hs0:=g1.slots 0
      have h0':E'.s.getD 0 .no= .d v:=h0
      rw[h0']at hs0
      obtain⟨cs',hcs',hv⟩:=hs0
      have e:=cJ hcast
      rw[e]at hcs' hv
      have hT0:=gT 0 (by simp)
      rw[hcs']at hT0
      have hT0':bR m.τ cs'=bR m.τ cs:=hT0
      have hcc:cs'=cs:=by
       have h1:=fj (aW.len hv) (aW.one hv)
       have h2:=fj (aR.len hrep) (aR.one hrep)
       rw[←h1,←h2,hT0']
      subst hcc
      have hsown:=xi hv hown
      obtain⟨B',hB',hn',hc'⟩:=hv.own hsown
      have h3':=Sh.gX hv hsown
      refine⟨g1.defers,.int .i64 k,?_,.int .i64 k,rfl,rfl,B',⟨hB',hn',fun b hb'=> ?_,fun b hb'=>g1.fresh b (h3' _ (hc' b hb')),fun b hb' hnb=> ?_,g1.size,g1.os,g1.tape,g1.output⟩⟩
      ·have:=Ce (P:=P) (w:=w') (fn:=fn) (tmps:=a'.tmps) (vs:=[a'.tmps.getD s undef]) (by rw[hrv];simp[nT])
       rw[this,hk];rfl
      ·rcases Nat.lt_or_ge b w.heap.size with hlt|hge
       ·left
        refine Classical.byContradiction fun hnb=> ?_
        have:G'.col b=G0.col b:=(g1.frame b hlt (by show G0.col b<3;rw[hG0 b hnb];omega)).1
        rw[hG0 b hnb]at this
        have h4:=h3' _ (hc' b hb')
        omega
       ·exact .inr hge
      ·exact(g1.frame b hb' (by show G0.col b<3;rw[hG0 b hnb];omega)).2
     ·cases g5
    ·cases g5
   ·cases g5
  have hC2:kJ P {C with n:=fn.ntmps,io:=[0]}:=⟨⟨hC.tt,hC.eq,hC.fs,hC.u8⟩,hC.ct,hC.mixed⟩
  have hnt:(bq [.val m.τ (eX m.τ),.val (.int .i64) .leaf] (x,n,()) 3).2=bu [.val m.τ (eX m.τ),.val (.int .i64) .leaf] 3:=gn _ _ _
  have hln:(bq [.val m.τ (eX m.τ),.val (.int .i64) .leaf] (x,n,()) 3).1.length=2:=hJ [.val m.τ (eX m.τ),.val (.int .i64) .leaf] (x,n,()) 3
  refine QR (T:=fun i=>[bR m.τ cs,Value.int .i64 n].getD i undef) hC2 hM c (w0:=w) (c0:=G0.Ct (bu [.val m.τ (eX m.τ),.val (.int .i64) .leaf] 3)) (G:=G0) (r:=(k,y)) (hE.mono fun u hu=>Nat.lt_of_lt_of_le hu (Nat.le_of_eq hnt.symm)) (fun s j w1 act v h=> ?_) ?_ ?_ (fun i hi=> ?_) hev hkey (fun id k hk=>by simp[List.lookup]at hk) hkey
  ·rw[fO]at h;exact DZ _ _ _ _ _ h
  ·simp only[List.length_append,List.length_replicate];omega
  ·exact Nat.le_trans h30 (Nat.le_of_eq hnt.symm)
  ·simp only[List.mem_singleton]at hi
   subst hi
   exact Ky [bR m.τ cs,Value.int .i64 n] fn.ntmps 0 (by simp)
theorem Ua (hC:kJ P C) (hM:Ag P M) {f:FuncId} {fn:Func} {con:aF} (hf:P.funcs[f]?=some fn) (hname:(fn.name== "runtime.NumGoroutine")=false) (hn:con.ps.length≤fn.ntmps)
 (hF:∀x y,con.F x=some y→Qc C M con.ps con.rs con.kp fn x=some y):oQ P f con:=by
 intro w G0 args x y hy hlot
 have hev:=hF x y hy
 unfold Qc at hev
 split at hev
 ·cases hev
 ·rename_i c hb
  have hrun:(callFunc f args.toArray).run P w= .ok (.enter f args.toArray) w:=by
   have hne:fn.name≠ "runtime.NumGoroutine" :=by simpa using hname
   unfold callFunc
   simp[hf,hne,hb]
  unfold nE
  rw[hrun]
  simp only
  refine calls_of_wp hf hb ?_
  have hal:args.length=con.ps.length:=by rw[hlot.len,hJ]
  have hE:=CA hlot fn.ntmps
  have h30:=dI con.ps 3
  have hkey:Hg {C with n:=fn.ntmps,io:=fh con.ps 0} w (G0.Ct (bu con.ps 3)) (fun i=>args.getD i undef) y (fin C.tt con.ps con.rs con.kp fn.results.toList (bq con.ps x 3).2) (fun a' w'=>
   a'.defers=[]∧∃v,(results fn a'.tmps).run P w'= .ok v w'∧∃v',Ending.returned v=Ending.returned v'∧∃G' vs nt,sU con w G0 args y v' w' G' vs nt):=by
   intro E' a' w' G' g1 g2 g3 g4 gT g5
   rw[gn]at g5
   obtain⟨mv,G2,vs,nt,k1,k2⟩:=Rt hC.toCxTy (args:=args) hlot g1 g5 gT
   exact⟨g1.defers,mv,k1,mv,rfl,G2,vs,nt,k2⟩
  have hC2:kJ P {C with n:=fn.ntmps,io:=fh con.ps 0}:=⟨⟨hC.tt,hC.eq,hC.fs,hC.u8⟩,hC.ct,hC.mixed⟩
  refine QR (T:=fun i=>args.getD i undef) hC2 hM c (w0:=w) (c0:=G0.Ct (bu con.ps 3)) (G:=G0) (r:=y) (by rw[gn];simpa[gn]using hE) (fun s j w1 act v h=> ?_) ?_ ?_ (fun i hi=> ?_) hev hkey (fun id k hk=>by simp[List.lookup]at hk) hkey
  ·rw[fO]at h;exact DZ _ _ _ _ _ h
  ·simp only[List.length_append,List.length_replicate,hJ];omega
  ·rw[gn];exact h30
  ·have:=xg i hi
   exact Ky args fn.ntmps i (by omega)
def cm (P:Program):List (FuncId×dG)→Prop
 | []=>True
 |p::l=>vM P p.1 p.2∧cm P l
theorem Cj {f:FuncId} {m:dG}:∀ {l:List (FuncId×dG)},l.lookup f=some m→(f,m)∈l
 | [],h=>by simp[List.lookup]at h
 |(x,y)::l,h=>by
  simp only[List.lookup]at h
  split at h
  ·rename_i e
   simp only[beq_iff_eq]at e
   simp only[Option.some.injEq]at h
   subst e h;simp
  ·exact List.mem_cons_of_mem _ (Cj h)
theorem cm.mem:∀ {l:List (FuncId×dG)},cm P l→∀p∈l,vM P p.1 p.2
 | [],_,_,h=>by cases h
 |q::l,⟨h1,h2⟩,p,h=>by
  rcases List.mem_cons.1 h with rfl|h
  ·exact h1
  ·exact cm.mem h2 p h
theorem cm.US {l:List (FuncId×dG)} (h:cm P l):Ag P (fun f=>l.lookup f):=fun f m hm=>h.mem (f,m) (Cj hm)
theorem ae.kx {tt:List (Nat×TI)} (h1:tt.all (fun p=>Hb P p.1 p.2)=true) (hm:P.follows .mixedOrders=true) {t:List (FuncId×aF)} (hc:ae P t) {mts:List (FuncId×dG)} (hmc:cm P mts) (la ja:Nat→Option aM) (k:Nat)
 {f:FuncId} {fn:Func} (hf:P.funcs[f]?=some fn) {ps:List PK} {rs:List RK} {kp:List (Nat×List Bool)} (hn:QK fn ps.length=true)
 {F:aT (ps.map PK.ty)→Option (aT (rs.map RK.ty++bh ps))} (hF:∀x,Qc (Qw tt t la ja k) (fun f=>mts.lookup f) ps rs kp fn x=F x):ae P ((f,⟨ps,rs,F,kp⟩)::t):=
 ⟨Ua (Qh h1 hm hc) hmc.US hf (pk hn).1 (pk hn).2 (fun x _ h=>(hF x).trans h),hc⟩
theorem cm.ev {tt:List (Nat×TI)} (h1:tt.all (fun p=>Hb P p.1 p.2)=true) (hm:P.follows .mixedOrders=true) {t:List (FuncId×aF)} (hc:ae P t) {mts:List (FuncId×dG)} (hmc:cm P mts) (la ja:Nat→Option aM) (k:Nat)
 {f:FuncId} {fn:Func} (hf:P.funcs[f]?=some fn) {τ:Ty} (hn:QK fn 2=true)
 {F:τ.den→Int→Option (Int×τ.den)} (hF:∀x n,SF (Qw tt t la ja k) (fun f=>mts.lookup f) τ fn x n=F x n):cm P ((f,⟨τ,F⟩)::mts):=
 ⟨UG (Qh h1 hm hc) hmc.US hf (pk hn).1 (pk hn).2 (fun x n _ h=>(hF x n).trans h),hmc⟩
end
end Vg
namespace Vg
open Go
theorem wrap64 {n:Int} (h: -9223372036854775808≤n) (h':n<9223372036854775808):IntKind.i64.wrap n=n:=by
 simp only[IntKind.wrap,IntKind.signed,IntKind.bits]
 simp
 omega
theorem fx {σ ρ:Type} {f:(σ→Option ρ)→σ→Option ρ} (g:σ→Option ρ) (m:σ→Nat) (I:σ→Prop)
 (h:∀G s,I s→(∀s',I s'→m s'<m s→G s'=g s')→f G s=g s):∀(k:Nat) (s:σ),I s→m s<k→az k f s=g s
 |0,_,_,hm=>by omega
 |k+1,s,hi,hm=>by
  show f (az k f) s=g s
  exact h _ s hi (fun s' hi' hm'=>fx g m I h k s' hi' (by omega))
theorem MA {σ σ' ρ ρ':Type} {f:(σ→Option ρ)→σ→Option ρ} {f':(σ'→Option ρ')→σ'→Option ρ'} (R:σ→σ'→Prop) (S:Option ρ→Option ρ'→Prop) (h0:S none none)
 (h:∀G G' s s',R s s'→(∀t t',R t t'→S (G t) (G' t'))→S (f G s) (f' G' s')):∀(k:Nat) (s:σ) (s':σ'),R s s'→S (az k f s) (az k f' s')
 |0,_,_,_=>h0
 |k+1,s,s',hr=>h _ _ s s' hr (fun t t' ht=>MA R S h0 h k t t' ht)
theorem AE {σ ρ:Type} {f:(σ→Option ρ)→σ→Option ρ} (m:σ→Nat) (I:σ→Prop) (P:ρ→Prop)
 (h:∀G s,I s→(∀s',I s'→m s'<m s→∃r,G s'=some r∧P r)→∃r,f G s=some r∧P r):∀(k:Nat) (s:σ),I s→m s<k→∃r,az k f s=some r∧P r
 |0,_,_,hm=>by omega
 |k+1,s,hi,hm=>h _ s hi (fun s' hi' hm'=>AE m I P h k s' hi' (by omega))
def ag:(τ:Ty)→τ.den→Nat
 | .int _,_=>0
 | .bool,_=>0
 | .str,s=>s.size
 | .sl e,l=>l.length+(l.map (ag e)).sum
 | .pair a b,p=>ag a p.1+ag b p.2
def bG (t:Nat) (left:Int):Int:=if(t:Int)≤left then left-t else-1
theorem vO {t:Nat} {left:Int}:bG t left<0↔¬(t:Int)≤left:=by
 unfold bG
 split<;>omega
theorem dU {t:Nat} {left:Int} (h:0≤left):bG t left≤left:=by
 unfold bG
 split<;>omega
theorem cW {a b:Nat} {left:Int} (h:¬bG a left<0):bG b (bG a left)=bG (a+b) left:=by
 rw[vO]at h
 have h1:(a:Int)≤left:=by omega
 simp only[bG,if_pos h1]
 split<;>split<;>omega
theorem R6 {a b:Nat} {left:Int} (h:bG a left<0):bG (a+b) left= -1:=by
 rw[vO]at h
 unfold bG
 rw[if_neg (by omega)]
theorem cC {t:Nat} {left:Int} (h:¬bG t left<0):0≤bG t left∧(t:Int)≤left:=by
 rw[vO]at h
 have h1:(t:Int)≤left:=by omega
 simp only[bG,if_pos h1]
 omega
theorem AM {s:ByteArray} {left:Int} (hs:s.size≤maxLen) (h0:0≤left) (h1:left≤1048576):decide (IntKind.i64.wrap (left-(s.size:Int))<0)=decide (bG s.size left<0):=by
 unfold maxLen at hs
 rw[wrap64 (by omega) (by omega)]
 unfold bG
 by_cases h:left-(s.size:Int)<0
 ·rw[if_neg (by omega)];simpa using h
 ·rw[if_pos (by omega)]
theorem xF {s:ByteArray} {left:Int} (hs:s.size≤maxLen) (h0:0≤left) (h1:left≤1048576) (h:¬bG s.size left<0):IntKind.i64.wrap (left-(s.size:Int))=bG s.size left:=by
 unfold maxLen at hs
 rw[wrap64 (by omega) (by omega)]
 rw[vO]at h
 unfold bG
 rw[if_pos (by omega)]
def S3 {α:Type} (k:Nat) (d:α) (S:α×Int×Unit→Option (Int×Unit)) (x:List α×Int×Unit):Option (Int×Unit):=
 if(decide (((IntKind.i64.wrap (x.2.1-((List.length x.1:Nat):Int))):Int)<0))=true then
  some ((-1),())
 else
  az k (fun G1 (t2:List α×Int×Int×Unit)=>
   if(decide ((t2.2.2.1:Int)<((List.length t2.1:Nat):Int)))=true then
    if(decide (0≤t2.2.2.1∧t2.2.2.1<((List.length t2.1:Nat):Int)))=true then
     Option.bind (S (List.getD t2.1 (Int.toNat t2.2.2.1) d,t2.2.1,())) fun(r3:Int×Unit)=>
     if(decide ((r3.1:Int)<0))=true then
      some ((-1),())
     else
      G1 (t2.1,r3.1,IntKind.i64.wrap (t2.2.2.1+1),())
    else
     none
   else
    some (t2.2.1,())) (x.1,IntKind.i64.wrap (x.2.1-((List.length x.1:Nat):Int)),0,())
theorem cj {α:Type} {l:List α} {i:Nat} {d:α} (h:i<l.length):l.getD i d∈l:=by
 rw[List.getD_eq_getElem?_getD,List.getElem?_eq_getElem h];simp
theorem dw {α:Type} {l:List α} {i:Nat} {d:α} (h:i<l.length):l.drop i=l.getD i d::l.drop (i+1):=by
 rw[List.drop_eq_getElem_cons h,List.getD_eq_getElem?_getD,List.getElem?_eq_getElem h];rfl
theorem Pr {α:Type} {k:Nat} {d:α} {S:α×Int×Unit→Option (Int×Unit)} {t:α→Nat} {l:List α} {left:Int} (hk:9223372036854775808≤k) (hl:l.length≤maxLen) (h0:0≤left) (h1:left≤1048576)
 (hS:∀e∈l,∀left,0≤left→left≤1048576→∃r,S (e,left,())=some (r,())∧(r<0↔bG (t e) left<0)∧(¬bG (t e) left<0→r=bG (t e) left)):S3 k d S (l,left,())=some (bG (l.length+(l.map t).sum) left,()):=by
 have hlen:(l.length:Int)<9223372036854775808:=by
  unfold maxLen at hl;omega
 unfold S3
 simp only
 rw[wrap64 (by omega) (by omega)]
 by_cases hneg:left-(l.length:Int)<0
 ·rw[if_pos (by simpa using hneg)]
  unfold bG
  rw[if_neg (by omega)]
 ·rw[if_neg (by simpa using hneg)]
  rw[fx (g:=fun(s:List α×Int×Int×Unit)=>some (bG (((s.1.drop s.2.2.1.toNat).map t).sum) s.2.1,())) (m:=fun(s:List α×Int×Int×Unit)=>s.1.length-s.2.2.1.toNat)
   (I:=fun(s:List α×Int×Int×Unit)=>s.1=l∧0≤s.2.2.1∧s.2.2.1≤(l.length:Int)∧0≤s.2.1∧s.2.1≤1048576)]
  ·simp only[Int.toNat_zero,List.drop_zero]
   unfold bG
   congr 2
   split<;>split<;>omega
  ·rintro G ⟨l',lf,i,u⟩ ⟨he,hi0,hi1,hl0,hl1⟩ hG
   change l'=l at he
   subst he
   simp only at hi0 hi1 hl0 hl1 hG⊢
   by_cases hi:i<(l'.length:Int)
   ·rw[if_pos (by simpa using hi),if_pos (by simpa using⟨hi0,hi⟩)]
    have hin:i.toNat<l'.length:=by omega
    obtain⟨r,hr,hr1,hr2⟩:=hS _ (cj (d:=d) hin) lf hl0 hl1
    rw[hr,Option.bind_some,dw (d:=d) hin]
    simp only[List.map_cons,List.sum_cons]
    by_cases hn:bG (t (l'.getD i.toNat d)) lf<0
    ·rw[if_pos (by simpa using hr1.2 hn),R6 hn]
    ·rw[if_neg (by simpa using fun h=>hn (hr1.1 h)),←cW hn,hr2 hn]
     have hs:=cC hn
     have hle:=dU (t:=t (l'.getD i.toNat d)) hl0
     rw[wrap64 (by omega) (by omega)]
     rw[hG (l',bG (t (l'.getD i.toNat d)) lf,i+1,()) ⟨rfl,by simp only;omega,by simp only;omega,by simp only;omega,by simp only;omega⟩ (by simp only;omega)]
     simp only
     rw[show(i+1).toNat=i.toNat+1 by omega]
   ·rw[if_neg (by simpa using hi)]
    rw[List.drop_eq_nil_of_le (by omega)]
    simp[bG,hl0]
  ·exact⟨rfl,by simp,by simp,by simp only;omega,by simp only;omega⟩
  ·simp only
   omega
theorem nS {α:Type} {k:Nat} {d:α} {S:α×Int×Unit→Option (Int×Unit)} {t:α→Nat} {l:List α} {left:Int} (hk:9223372036854775808≤k) (hl:l.length≤maxLen) (h0:0≤left) (h1:left≤1048576)
 (hS:∀e∈l,∀left,0≤left→left≤1048576→S (e,left,())=some (bG (t e) left,())):S3 k d S (l,left,())=some (bG (l.length+(l.map t).sum) left,()):=
 Pr hk hl h0 h1 (fun e he left a b=>⟨_,hS e he left a b,Iff.rfl,fun _=>rfl⟩)
theorem Ur {k:Nat} {l:List ByteArray} {left:Int} (hk:9223372036854775808≤k) (hx:Fits (.sl .str) l) (h0:0≤left) (h1:left≤1048576):
 S3 k ByteArray.empty (fun z=>some (IntKind.i64.wrap (z.2.1-((ByteArray.size z.1:Nat):Int)),())) (l,left,())=some (bG (ag (.sl .str) l) left,()):=
 Pr (t:=ByteArray.size) hk hx.1 h0 h1 (fun e he lf a b=>⟨_,rfl,by have:=AM (hx.2 e he) a b;simpa using this,fun h=>xF (hx.2 e he) a b h⟩)
def UP {α:Type} (x:List α×Int×Unit):Option (Int×Unit):=
 if(decide (((IntKind.i64.wrap (x.2.1-((List.length x.1:Nat):Int))):Int)<0))=true then
  some ((-1),())
 else
  some (IntKind.i64.wrap (x.2.1-((List.length x.1:Nat):Int)),())
def Ty.AI:Ty→Bool
 | .int _| .bool=>true
 | .pair a b=>a.AI&&b.AI
 |_=>false
theorem Dz:∀ {τ:Ty} (x:τ.den),τ.AI=true→ag τ x=0
 | .int _,_,_| .bool,_,_=>rfl
 | .pair a b,x,h=>by
   simp only[Ty.AI,Bool.and_eq_true]at h
   simp only[ag,Dz x.1 h.1,Dz x.2 h.2]
 | .str,_,h| .sl _,_,h=>by simp[Ty.AI]at h
theorem RM {e:Ty} {k:Nat} {F:Nat→List e.den×Int×Unit→Option (Int×Unit)} (hF:∀x,F k x=UP x) (hz:e.AI=true) {l:List e.den} {left:Int} (hx:Fits (.sl e) l) (h0:0≤left) (h1:left≤1048576):
 F k (l,left,())=some (bG (ag (.sl e) l) left,()):=by
 have hl:l.length≤maxLen:=hx.1
 unfold maxLen at hl
 have ht:ag (.sl e) l=l.length:=by
  have:∀m:List e.den,(m.map (ag e)).sum=0:=by
   intro m
   induction m with
   |nil=>rfl
   |cons a m ih=>simp only[List.map_cons,List.sum_cons,ih,Dz a hz]
  simp only[ag,this];omega
 rw[hF,ht]
 simp only[UP]
 rw[wrap64 (by omega) (by omega)]
 unfold bG
 by_cases h:left-(l.length:Int)<0
 ·rw[if_pos (by simpa using h),if_neg (by omega)]
 ·rw[if_neg (by simpa using h),if_pos (by omega)]
theorem cn {a t:Nat} {left:Int} (h:bG a left<0) (hle:a≤t):bG t left= -1:=by
 rw[vO]at h
 unfold bG
 rw[if_neg (by omega)]
def Up {α:Type} (k:Nat) (d:α) (S:α×Unit→Option (α×Unit)) (x:List α×Unit):Option (List α×Unit):=
 if(decide (0≤((List.length x.1:Nat):Int)∧((List.length x.1:Nat):Int)<4294967296∧((List.length x.1:Nat):Int)=((List.length x.1:Nat):Int)))=true then
  az k (fun G1 (t2:List α×List α×Int×Unit)=>
   if(decide ((t2.2.2.1:Int)<((List.length t2.1:Nat):Int)))=true then
    if(decide (0≤t2.2.2.1∧t2.2.2.1<((List.length t2.1:Nat):Int)))=true then
     Option.bind (S (List.getD t2.1 (Int.toNat t2.2.2.1) d,())) fun(r3:α×Unit)=>
     if(decide (0≤t2.2.2.1∧t2.2.2.1<((List.length t2.2.1:Nat):Int)))=true then
      G1 (t2.1,List.set t2.2.1 (Int.toNat t2.2.2.1) r3.1,IntKind.i64.wrap (t2.2.2.1+1),())
     else
      none
    else
     none
   else
    some (t2.2.1,())) (x.1,List.replicate (Int.toNat ((List.length x.1:Nat):Int)) d,0,())
 else
  none
theorem kX {α:Type} {k:Nat} {d:α} {S:α×Unit→Option (α×Unit)} {l:List α} (hk:9223372036854775808≤k) (hl:l.length≤1048576) (hS:∀e∈l,S (e,())=some (e,())):Up k d S (l,())=some (l,()):=by
 unfold Up
 simp only
 rw[if_pos (by simp;omega)]
 rw[fx (g:=fun(s:List α×List α×Int×Unit)=>some (l,())) (m:=fun(s:List α×List α×Int×Unit)=>l.length-s.2.2.1.toNat)
  (I:=fun(s:List α×List α×Int×Unit)=>s.1=l∧0≤s.2.2.1∧s.2.2.1≤(l.length:Int)∧s.2.1=l.take s.2.2.1.toNat++List.replicate (l.length-s.2.2.1.toNat) d)]
 ·rintro G ⟨l',o,i,u⟩ ⟨he,hi0,hi1,ho⟩ hG
  change l'=l at he
  subst he
  simp only at hi0 hi1 ho hG⊢
  subst ho
  by_cases hi:i<(l'.length:Int)
  ·have hin:i.toNat<l'.length:=by omega
   rw[if_pos (by simpa using hi),if_pos (by simpa using⟨hi0,hi⟩),hS _ (cj hin),Option.bind_some]
   rw[if_pos (by simp;omega),wrap64 (by omega) (by omega)]
   refine hG (l',_,i+1,()) ⟨rfl,by simp only;omega,by simp only;omega,?_⟩ (by simp only;omega)
   simp only
   have hlt:(l'.take i.toNat).length=i.toNat:=by simp;omega
   rw[List.set_append_right _ _ (by omega),hlt,Nat.sub_self]
   rw[show l'.length-i.toNat=(l'.length-(i+1).toNat)+1 by omega,List.replicate_succ,List.set_cons_zero]
   have ht:l'.take (i.toNat+1)=l'.take i.toNat++[l'[i.toNat]]:=by
    rw[List.take_add_one,List.getElem?_eq_getElem hin];rfl
   rw[show(i+1).toNat=i.toNat+1 by omega,ht,List.getD_eq_getElem?_getD,List.getElem?_eq_getElem hin,List.append_assoc]
   rfl
  ·rw[if_neg (by simpa using hi)]
   have:i.toNat=l'.length:=by omega
   rw[this]
   simp
 ·exact⟨rfl,by simp,by simp,by simp⟩
 ·simp only
  omega
theorem QO {α:Type} {k:Nat} {d:α} {l:List α} (hk:9223372036854775808≤k) (hl:l.length≤1048576):Up k d (fun z=>some (z.1,())) (l,())=some (l,()):=
 kX hk hl (fun _ _=>rfl)
def O3 {α:Type} (k:Nat) (d:α) (S:α×α×Unit→Option (Bool×Unit)) (x:List α×List α×Unit):Option (Bool×Unit):=
 if((((List.length x.1:Nat):Int):Int) != ((List.length x.2.1:Nat):Int))=true then
  some (false,())
 else
  az k (fun G1 (t2:List α×List α×Int×Unit)=>
   if(decide ((t2.2.2.1:Int)<((List.length t2.1:Nat):Int)))=true then
    if(decide (0≤t2.2.2.1∧t2.2.2.1<((List.length t2.1:Nat):Int)))=true then
     if(decide (0≤t2.2.2.1∧t2.2.2.1<((List.length t2.2.1:Nat):Int)))=true then
      Option.bind (S (List.getD t2.1 (Int.toNat t2.2.2.1) d,List.getD t2.2.1 (Int.toNat t2.2.2.1) d,())) fun(r3:Bool×Unit)=>
      if(!r3.1)=true then
       some (false,())
      else
       G1 (t2.1,t2.2.1,IntKind.i64.wrap (t2.2.2.1+1),())
     else
      none
    else
     none
   else
    some (true,())) (x.1,x.2.1,0,())
theorem jR {α:Type} {k:Nat} {d:α} {S:α×α×Unit→Option (Bool×Unit)} {l:List α} (hk:9223372036854775808≤k) (hl:l.length≤281474976710656) (hS:∀e∈l,S (e,e,())=some (true,())):O3 k d S (l,l,())=some (true,()):=by
 unfold O3
 simp only
 rw[if_neg (by simp)]
 rw[fx (g:=fun(s:List α×List α×Int×Unit)=>some (true,())) (m:=fun(s:List α×List α×Int×Unit)=>l.length-s.2.2.1.toNat)
  (I:=fun(s:List α×List α×Int×Unit)=>s.1=l∧s.2.1=l∧0≤s.2.2.1∧s.2.2.1≤(l.length:Int))]
 ·rintro G ⟨l',o,i,u⟩ ⟨he,ho,hi0,hi1⟩ hG
  change l'=l at he
  subst he
  simp only at hi0 hi1 ho hG⊢
  subst ho
  by_cases hi:i<(o.length:Int)
  ·have hin:i.toNat<o.length:=by omega
   rw[if_pos (by simpa using hi),if_pos (by simpa using⟨hi0,hi⟩),if_pos (by simpa using⟨hi0,hi⟩),hS _ (cj hin),Option.bind_some]
   rw[if_neg (by simp),wrap64 (by omega) (by omega)]
   exact hG (o,o,i+1,()) ⟨rfl,rfl,by simp only;omega,by simp only;omega⟩ (by simp only;omega)
  ·rw[if_neg (by simpa using hi)]
 ·exact⟨rfl,rfl,by simp,by simp⟩
 ·simp only
  omega
theorem TO {κ:IntKind} {k:Nat} {l:List (Ty.den (.int κ))} (hk:9223372036854775808≤k) (hl:l.length≤281474976710656):O3 (α:=Int) k 0 (fun z=>some ((z.1:Int)==z.2.1,())) (l,l,())=some (true,()):=
 jR (α:=Int) hk hl (fun e _=>by simp)
theorem Uv {k:Nat} {l:List ByteArray} (hk:9223372036854775808≤k) (hl:l.length≤281474976710656):O3 k ByteArray.empty (fun z=>some (ByteArray.toList z.1==ByteArray.toList z.2.1,())) (l,l,())=some (true,()):=
 jR hk hl (fun e _=>by simp)
def allEq {α:Type} (p:α→α→Bool):List α→List α→Bool
 | [],[]=>true
 |a::l,b::m=>p a b&&allEq p l m
 |_,_=>false
theorem zQ {α:Type} {p:α→α→Bool}:∀ {l m:List α},l.length≠m.length→allEq p l m=false
 | [],[],h=>absurd rfl h
 |a::l,b::m,h=>by
  simp only[allEq]
  rw[zQ (l:=l) (m:=m) (fun e=>h (by simp[e]))]
  simp
 | [],_::_,_|_::_,[],_=>rfl
theorem Tj {α:Type} {k:Nat} {d:α} {S:α×α×Unit→Option (Bool×Unit)} {p:α→α→Bool} {l m:List α} (hk:9223372036854775808≤k) (hl:l.length≤281474976710656) (hS:∀a∈l,∀b∈m,S (a,b,())=some (p a b,())):
 O3 k d S (l,m,())=some (allEq p l m,()):=by
 unfold O3
 simp only
 by_cases hlen:l.length=m.length
 ·rw[if_neg (by simp[hlen])]
  rw[fx (g:=fun(s:List α×List α×Int×Unit)=>some (allEq p (l.drop s.2.2.1.toNat) (m.drop s.2.2.1.toNat),())) (m:=fun(s:List α×List α×Int×Unit)=>l.length-s.2.2.1.toNat)
   (I:=fun(s:List α×List α×Int×Unit)=>s.1=l∧s.2.1=m∧0≤s.2.2.1∧s.2.2.1≤(l.length:Int))]
  ·simp
  ·rintro G ⟨l',m',i,u⟩ ⟨e1,e2,hi0,hi1⟩ hG
   change l'=l at e1
   change m'=m at e2
   subst e1 e2
   simp only at hi0 hi1 hG⊢
   by_cases hi:i<(l'.length:Int)
   ·have h1:i.toNat<l'.length:=by omega
    have h2:i.toNat<m'.length:=by omega
    rw[if_pos (by simpa using hi),if_pos (by simpa using⟨hi0,hi⟩),if_pos (by simpa using⟨hi0,by omega⟩)]
    rw[hS _ (cj h1) _ (cj h2),Option.bind_some,dw (d:=d) h1,dw (d:=d) h2]
    simp only[allEq]
    cases p (l'.getD i.toNat d) (m'.getD i.toNat d)with
    |true=>
     rw[if_neg (by simp),wrap64 (by omega) (by omega),hG (l',m',i+1,()) ⟨rfl,rfl,by simp only;omega,by simp only;omega⟩ (by simp only;omega)]
     simp only[Bool.true_and]
     rw[show(i+1).toNat=i.toNat+1 by omega]
    |false=>rfl
   ·rw[if_neg (by simpa using hi),List.drop_eq_nil_of_le (by omega),List.drop_eq_nil_of_le (by omega)]
    rfl
  ·exact⟨rfl,rfl,by simp,by simp⟩
  ·simp only
   omega
 ·rw[if_pos (by simp;omega),zQ hlen]
def Uy {α:Type} (k:Nat) (d:α) (S:α×α×Unit→Option (Bool×Unit)) (x:List α×List α×Unit):Option (Bool×Unit):=
 if((((List.length x.1:Nat):Int):Int) != ((List.length x.2.1:Nat):Int))=true then
  some (false,())
 else
  az k (fun G1 (t2:List α×List α×Int×Int×Unit)=>
   if(decide ((t2.2.2.2.1:Int)<t2.2.2.1))=true then
    if(decide (0≤t2.2.2.2.1∧t2.2.2.2.1<((List.length t2.1:Nat):Int)))=true then
     if(decide (0≤t2.2.2.2.1∧t2.2.2.2.1<((List.length t2.2.1:Nat):Int)))=true then
      Option.bind (S (List.getD t2.1 (Int.toNat t2.2.2.2.1) d,List.getD t2.2.1 (Int.toNat t2.2.2.2.1) d,())) fun(r3:Bool×Unit)=>
      if(!r3.1)=true then
       some (false,())
      else
       G1 (t2.1,t2.2.1,t2.2.2.1,IntKind.i64.wrap (t2.2.2.2.1+1),())
     else
      none
    else
     none
   else
    some (true,())) (x.1,x.2.1,((List.length x.1:Nat):Int),0,())
theorem Pc {α:Type} {k:Nat} {d:α} {S:α×α×Unit→Option (Bool×Unit)} {p:α→α→Bool} {l m:List α} (hk:9223372036854775808≤k) (hl:l.length≤281474976710656) (hS:∀a∈l,∀b∈m,S (a,b,())=some (p a b,())):
 Uy k d S (l,m,())=some (allEq p l m,()):=by
 unfold Uy
 simp only
 by_cases hlen:l.length=m.length
 ·rw[if_neg (by simp[hlen])]
  rw[fx (g:=fun(s:List α×List α×Int×Int×Unit)=>some (allEq p (l.drop s.2.2.2.1.toNat) (m.drop s.2.2.2.1.toNat),())) (m:=fun(s:List α×List α×Int×Int×Unit)=>l.length-s.2.2.2.1.toNat)
   (I:=fun(s:List α×List α×Int×Int×Unit)=>s.1=l∧s.2.1=m∧s.2.2.1=(l.length:Int)∧0≤s.2.2.2.1∧s.2.2.2.1≤(l.length:Int))]
  ·simp
  ·rintro G ⟨l',m',n,i,u⟩ ⟨e1,e2,e3,hi0,hi1⟩ hG
   change l'=l at e1
   change m'=m at e2
   change n=_ at e3
   subst e1 e2 e3
   simp only at hi0 hi1 hG⊢
   by_cases hi:i<(l'.length:Int)
   ·have h1:i.toNat<l'.length:=by omega
    have h2:i.toNat<m'.length:=by omega
    rw[if_pos (by simpa using hi),if_pos (by simpa using⟨hi0,hi⟩),if_pos (by simpa using⟨hi0,by omega⟩)]
    rw[hS _ (cj h1) _ (cj h2),Option.bind_some,dw (d:=d) h1,dw (d:=d) h2]
    simp only[allEq]
    cases p (l'.getD i.toNat d) (m'.getD i.toNat d)with
    |true=>
     rw[if_neg (by simp),wrap64 (by omega) (by omega),hG (l',m',_,i+1,()) ⟨rfl,rfl,rfl,by simp only;omega,by simp only;omega⟩ (by simp only;omega)]
     simp only[Bool.true_and]
     rw[show(i+1).toNat=i.toNat+1 by omega]
    |false=>rfl
   ·rw[if_neg (by simpa using hi),List.drop_eq_nil_of_le (by omega),List.drop_eq_nil_of_le (by omega)]
    rfl
  ·exact⟨rfl,rfl,rfl,by simp,by simp⟩
  ·simp only
   omega
 ·rw[if_pos (by simp;omega),zQ hlen]
theorem bL {α:Type} {c:Prop} [Decidable c] (a b:α):(if c then some a else some b)=some (if c then a else b):=by split<;>rfl
theorem toList_inj {a b:ByteArray} (h:a.toList=b.toList):a=b:=by
 rw[ByteArray.toList_eq,ByteArray.toList_eq]at h
 cases a;cases b
 simp at h
 rw[h]
theorem rF:∀ {τ:Ty} {a b:τ.den},τ.flat=true→(eqv τ a b=true↔a=b)
 | .int _,a,b,_=>by simp[eqv]
 | .bool,a,b,_=>by simp[eqv]
 | .str,a,b,_=>by
   simp only[eqv,beq_iff_eq]
   exact⟨toList_inj,fun h=>by rw[h]⟩
 | .pair x y,a,b,h=>by
   simp only[Ty.flat,Bool.and_eq_true]at h
   simp only[eqv,Bool.and_eq_true,rF h.1,rF h.2]
   exact⟨fun h=>Prod.ext h.1 h.2,fun h=>by rw[h];exact⟨rfl,rfl⟩⟩
 | .sl _,_,_,h=>by simp[Ty.flat]at h
theorem Ny {α:Type} {f:α→Nat}:∀ {l:List α} {x:α},x∈l→f x≤(l.map f).sum
 |y::l,x,h=>by
  simp only[List.map_cons,List.sum_cons]
  rcases List.mem_cons.1 h with rfl|h
  ·omega
  ·have:=Ny (f:=f) h;omega
theorem bo {e:Ty} {l:List e.den} {x:e.den} (hx:x∈l):ag e x≤ag (.sl e) l:=by
 simp only[ag]
 have:=Ny (f:=ag e) hx
 omega
theorem aA {e:Ty} {l:List e.den}:l.length≤ag (.sl e) l:=by simp only[ag];omega
end Vg
namespace Vg
open Go
def bf (a n:Nat) (p:Nat→Bool):Bool:=(List.range' a (n-a)).all p
theorem en {a n:Nat} {p:Nat→Bool}:bf a n p=true↔∀i,a≤i→i<n→p i=true:=by
 simp only[bf,List.all_eq_true,List.mem_range'_1]
 constructor
 ·intro h i h1 h2;exact h i ⟨h1,by omega⟩
 ·intro h i hi;exact h i hi.1 (by omega)
theorem KD {a n:Nat} {p:Nat→Bool} (h:a<n):bf a n p=(p a&&bf (a+1) n p):=by
 unfold bf
 rw[show n-a=(n-(a+1))+1 by omega,List.range'_succ]
 rfl
theorem MO {a n:Nat} {p:Nat→Bool} (h:n≤a):bf a n p=true:=by
 unfold bf
 rw[show n-a=0 by omega]
 rfl
theorem D6 {a n:Nat} {p q:Nat→Bool}:bf a n (fun i=>p i&&q i)=(bf a n p&&bf a n q):=by
 rw[Bool.eq_iff_iff,Bool.and_eq_true,en,en,en]
 simp only[Bool.and_eq_true]
 exact⟨fun H=>⟨fun i h1 h2=>(H i h1 h2).1,fun i h1 h2=>(H i h1 h2).2⟩,fun H i h1 h2=>⟨H.1 i h1 h2,H.2 i h1 h2⟩⟩
theorem O8 {n m:Nat}:bf 0 n (fun i=>decide (i<m))=decide (n≤m):=by
 rw[Bool.eq_iff_iff,en]
 simp only[decide_eq_true_eq]
 constructor
 ·intro h
  rcases Nat.lt_or_ge m n with h1|h1
  ·have:=h m (by omega) h1;omega
  ·exact h1
 ·intro h i _ h2;omega
theorem bN {σ ρ:Type} {f:(σ→Option ρ)→σ→Option ρ} (st:Nat→σ) (p:Nat→Bool) (n:Nat) {e no:Option ρ}
 (hstep:∀G i,i<n→f G (st i)=if p i=true then G (st (i+1))else no) (hend:∀G i,n≤i→f G (st i)=e):
 ∀(k a:Nat),n-a<k→az k f (st a)=if bf a n p=true then e else no
 |0,_,h=>by omega
 |k+1,a,h=>by
  show f (az k f) (st a)=_
  by_cases ha:a<n
  ·rw[hstep _ a ha,KD ha,bN st p n hstep hend k (a+1) (by omega)]
   cases p a<;>simp
  ·rw[hend _ a (by omega),MO (by omega),if_pos rfl]
theorem MV {σ ρ:Type} {f:(σ→Option ρ)→σ→Option ρ} (st:Nat→σ) (p:Nat→Bool) (n:Nat) {e yes:Option ρ}
 (hstep:∀G i,i<n→f G (st i)=if p i=true then yes else G (st (i+1))) (hend:∀G i,n≤i→f G (st i)=e) (k a:Nat) (hk:n-a<k):
 az k f (st a)=if bf a n (fun i=> !p i)=true then e else yes:=
 bN st (fun i=> !p i) n (fun G i hi=>by rw[hstep G i hi];cases p i<;>rfl) hend k a hk
theorem cB {σ ρ:Type} {f:(σ→Option ρ)→σ→Option ρ} (st:Nat→σ) (n:Nat) {e:Option ρ} (hstep:∀G i,i<n→f G (st i)=G (st (i+1))) (hend:∀G,f G (st n)=e):
 ∀(k a:Nat),a≤n→n-a<k→az k f (st a)=e
 |0,_,_,h=>by omega
 |k+1,a,ha,h=>by
  show f (az k f) (st a)=_
  by_cases hn:a=n
  ·subst hn;exact hend _
  ·rw[hstep _ a (by omega),cB st n hstep hend k (a+1) (by omega) (by omega)]
theorem bc {i:Nat} (h:i<4611686018427387904):IntKind.i64.wrap ((i:Int)+1)=((i+1:Nat):Int):=by
 rw[wrap64 (by omega) (by omega)];rfl
theorem pP {i:Nat} (h:i<4611686018427387904):IntKind.i64.wrap ((i:Int)-1)=(i:Int)-1:=wrap64 (by omega) (by omega)
theorem aK {i n:Nat} (h:i<n):(decide ((0:Int)≤(i:Int)∧(i:Int)<(n:Int)))=true:=by simp;omega
theorem aw {i n:Nat}:(decide ((i:Int)<(n:Int)))=decide (i<n):=by simp
end Vg
namespace Vg
open Go Go.RowKit
theorem M4 {w:World}:∀ {l:List ByteArray} {cs:List Value} {B:List Nat},bd (aR w .str) l cs B→cs=l.map Value.string
 | [],_,_,h=>h.1
 |x::l,cs,B,h=>by
  obtain⟨c1,c2,B1,B2,rfl,_,h1,h2⟩:=h
  rw[h1.1,M4 h2]
  rfl
theorem Ut {l:List ByteArray} {j:Nat} {x:ByteArray} (h:l[j]?=some x):(l.map Value.string)[j]?=some (.string x):=by rw[List.getElem?_map,h];rfl
theorem Qi {ps:List PK} {τ:Ty} {F:aT (ps.map PK.ty)→Option (aT ([RK.val τ .leaf].map RK.ty++bh ps))} {w w':World} {G0:Gh} {args:List Value} {nt:Nat} {L:List SV} (hlot:Cu w G0 L args nt)
 (hio:∀x:aT (bh ps),cq [2,1] ps x (dy ps 0 3)=fun _=>[]) {y:aT ([RK.val τ .leaf].map RK.ty++bh ps)} {mv:Value} (hb:Below w.heap.size w w')
 (hv:bJ w' G0 (.d ⟨τ,y.1,.leaf⟩) mv):sU ⟨ps,[.val τ .leaf],F,[]⟩ w G0 args y mv w' G0 [mv] nt where
 val:=rfl
 len:=rfl
 res i:=by
  cases i with
  |zero=>exact hv
  |succ i=>
   have:(aV [RK.val τ .leaf] (bh ps) y (bu ps 3) [2,1]).1.getD (i+1) .no= .no:=by
    show([SV.d ⟨τ,y.1,Sh.leaf⟩]).getD (i+1) .no= .no
    rfl
   rw[this]
   trivial
 ios t i v h:=by rw[hio]at h;cases h
 frame b hbs _:=⟨rfl,hb.block b hbs⟩
 one b h:=⟨(hlot.colU b (by omega)).2,h⟩
 size:=hb.size
 os:=hb.os
 tape:=hb.tape
 output:=hb.output
 lt b h:=Nat.lt_of_lt_of_le (hlot.colU b h).2 hb.size
 fresh b h:=by rw[hb.block b (hlot.colU b (by omega)).2];exact hlot.fresh b h
 kept q hq:=by cases hq
theorem Ex {P:Program} {f:FuncId} {fn:Func} (hf:P.funcs[f]?=some fn) (hname:(fn.name== "runtime.NumGoroutine")=false) (hb:fn.body.isSome=true) {w:World} {args:Array Value} {R:Value→World→Prop}
 (h:Calls P f args w (fun e w'=>∃v,e= .returned v∧R v w')):nE P f args w R:=by
 obtain⟨c,hc⟩:=Option.isSome_iff_exists.1 hb
 have hrun:(callFunc f args).run P w= .ok (.enter f args) w:=by
  have hne:fn.name≠ "runtime.NumGoroutine" :=by simpa using hname
  unfold callFunc
  simp[hf,hne,hc]
 unfold nE
 rw[hrun]
 exact h
def oj (l:List ByteArray) (sep:ByteArray):List UInt8:=Lib.join (l.map (·.data.toList)) sep.data.toList
def xp (x:List ByteArray×ByteArray×Unit):Option (ByteArray×Unit):=
 if x.1.length≤140737488355328∧(oj x.1 x.2.1).length≤140737488355328 then some (⟨(oj x.1 x.2.1).toArray⟩,())else none
theorem Qd {P:Program} {f:FuncId} {fn:Func} (hf:P.funcs[f]?=some fn) (hname:(fn.name== "runtime.NumGoroutine")=false) (hb:fn.body.isSome=true)
 (h0:∀(a:Option Addr) (c:Nat) (sep:ByteArray) (w:World),Calls P f #[.slice a 0 c,.string sep] w fun e w'=>e= .returned (.string ⟨#[]⟩)∧w'=w)
 (h1:∀(bk o c:Nat) (xs:List ByteArray) (sep:ByteArray) (w:World),(∀(j:Nat) x,xs[j]?=some x→w.cell? ⟨bk,o+j,none⟩=some (.string x))→bk<w.heap.size→xs.length≤140737488355328→xs.length≤c→
  (Lib.join (xs.map (·.data.toList)) sep.data.toList).length≤140737488355328→
  Calls P f #[.slice (some ⟨bk,o,none⟩) xs.length c,.string sep] w fun e w'=>e= .returned (.string ⟨(Lib.join (xs.map (·.data.toList)) sep.data.toList).toArray⟩)∧Below w.heap.size w w'):
 oQ P f ⟨[.val (.sl .str) .shr,.val .str .leaf],[.val .str .leaf],xp,[]⟩:=by
 intro w G0 args x y hy hlot
 obtain⟨l,sep,u⟩:=x
 have hlen:args.length=2:=hlot.len
 obtain⟨v0,v1,rfl⟩:∃v0 v1,args=[v0,v1]:=by
  match args,hlen with
  | [a,b],_=>exact⟨a,b,rfl⟩
 have s0:bJ w G0 (.d ⟨.sl .str,l,.sl (.sha [1])⟩) v0:=hlot.slots 0
 have s1:bJ w G0 (.d ⟨.str,sep,.leaf⟩) v1:=hlot.slots 1
 obtain⟨cs1,e1,q1⟩:=s1
 have q1':cs1=[.string sep]:=q1
 subst q1'
 have e1':v1= .string sep:=e1
 subst e1'
 obtain⟨cs0,e0,v,rfl,hrow⟩:=s0
 have e0':v0=v:=e0
 subst e0'
 have hy:xp (l,sep,u)=some y:=hy
 unfold xp at hy
 split at hy
 ·rename_i hc
  have hy':=Option.some.inj hy
  subst hy'
  refine Ex hf hname hb ?_
  obtain⟨⟨B,hrep,_⟩,_⟩:=hrow
  have fin:∀w',Below w.heap.size w w'→∃G' vs nt,sU ⟨[.val (.sl .str) .shr,.val .str .leaf],[.val .str .leaf],xp,[]⟩ w G0 [v0,.string sep] (⟨(oj l sep).toArray⟩,()) (.string ⟨(oj l sep).toArray⟩) w' G' vs nt:=
   fun w' hbl=>⟨G0,_,_,Qi (ps:=[.val (.sl .str) .shr,.val .str .leaf]) (τ:= .str) (F:=xp) (y:=(⟨(oj l sep).toArray⟩,())) hlot (fun _=>by funext n;rfl) hbl ⟨[.string ⟨(oj l sep).toArray⟩],rfl,rfl⟩⟩
  rcases hrep with⟨⟨ao,rfl⟩,rfl,_⟩|⟨b,off,cap,c,el,fz,Bs,rfl,hcap,hbk,hsz,_,hl⟩
  ·refine(h0 ao 0 sep w).mono fun e w' ⟨he,hw⟩=>⟨_,he,?_⟩
   subst hw
   exact fin _ (Below.refl _ _)
  ·have hcs:=M4 hl
   refine(h1 b off cap l sep w (fun j x hj=> ?_) (lt_of_block hbk) hc.1 hcap hc.2).mono fun e w' ⟨he,hw⟩=>⟨_,he,fin _ hw⟩
   unfold World.cell?
   simp only[hbk,Option.isSome_none,Bool.false_eq_true,if_false]
   have hjl:j<l.length:=(List.getElem?_eq_some_iff.1 hj).1
   have h2:=Ut (l:=l) hj
   rw[←hcs]at h2
   simp only[List.getElem?_take,List.getElem?_drop,Ty.sz,Nat.mul_one,hjl,if_true,Array.getElem?_toList]at h2
   exact h2
 ·cases hy
end Vg
namespace Vg
open Go
theorem bZ (a b:Int):(a==b)=decide (a=b):=rfl
theorem iz (a b:Int):(a != b)= !decide (a=b):=rfl
theorem Ta:(true==false)=false:=rfl
theorem S8:(false==true)=false:=rfl
theorem fP {α:Type} {l:List α} {i:Nat} (d:α) (h:i<l.length):l.take (i+1)=l.take i++[l.getD i d]:=by
 rw[List.take_succ_eq_append_getElem h,List.getD_eq_getElem?_getD,List.getElem?_eq_getElem h];rfl
theorem map_take {α β:Type} {f:α→β} {l:List α} {i:Nat} (d:α) (h:i<l.length):(l.take (i+1)).map f=(l.take i).map f++[f (l.getD i d)]:=by
 rw[fP d h,List.map_append];rfl
def Uc {α β:Type} (k:Nat) (d:α) (S:α×Unit→Option (β×Unit)) (x:List α×Unit):Option (List β×Unit):=
 az k (fun G1 (t2:List α×List β×Int×Unit)=>
  if(decide ((t2.2.2.1:Int)<((List.length t2.1:Nat):Int)))=true then
   if(decide (0≤t2.2.2.1∧t2.2.2.1<((List.length t2.1:Nat):Int)))=true then
    Option.bind (S (List.getD t2.1 (Int.toNat t2.2.2.1) d,())) fun(r3:β×Unit)=>
    if(decide (List.length t2.2.1+List.length ([r3.1]:List β)<4294967296))=true then
     G1 (t2.1,t2.2.1++([r3.1]:List β),IntKind.i64.wrap (t2.2.2.1+(1:Int)),())
    else
     none
   else
    none
  else
   some (t2.2.1,())) (x.1,([]:List β),(0:Int),())
theorem TQ {α β:Type} {k:Nat} {d:α} {S:α×Unit→Option (β×Unit)} (f:α→β) {l:List α} (hk:9223372036854775808≤k) (hl:l.length≤1073741824) (hS:∀e∈l,S (e,())=some (f e,())):Uc k d S (l,())=some (l.map f,()):=by
 unfold Uc
 refine cB (fun i=>(l,(l.take i).map f,(i:Int),())) l.length (fun G i hi=> ?_) (fun G=> ?_) k 0 (by omega) (by omega)
 ·simp only[aw,aK hi,hi,decide_true,if_true,Int.toNat_natCast]
  rw[hS _ (cj hi),Option.bind_some,if_pos (by simp;omega),bc (by omega),map_take d hi]
 ·simp
def TY {α β:Type} (k:Nat) (d:α) (S:α×Unit→Option (β×Unit)) (x:List α×Unit):Option (List β×Unit):=
 az k (fun G1 (t2:List β×List α×Int×Int×Unit)=>
  if(decide ((t2.2.2.2.1:Int)<t2.2.2.1))=true then
   if(decide (0≤t2.2.2.2.1∧t2.2.2.2.1<((List.length t2.2.1:Nat):Int)))=true then
    Option.bind (S (List.getD t2.2.1 (Int.toNat t2.2.2.2.1) d,())) fun(r3:β×Unit)=>
    if(decide (List.length t2.1+List.length ([r3.1]:List β)<4294967296))=true then
     G1 (t2.1++([r3.1]:List β),t2.2.1,t2.2.2.1,IntKind.i64.wrap (t2.2.2.2.1+(1:Int)),())
    else
     none
   else
    none
  else
   some (t2.1,())) (([]:List β),x.1,((List.length x.1:Nat):Int),(0:Int),())
theorem TU {α β:Type} {k:Nat} {d:α} {S:α×Unit→Option (β×Unit)} (f:α→β) {l:List α} (hk:9223372036854775808≤k) (hl:l.length≤1073741824) (hS:∀e∈l,S (e,())=some (f e,())):TY k d S (l,())=some (l.map f,()):=by
 unfold TY
 refine cB (fun i=>((l.take i).map f,l,(l.length:Int),(i:Int),())) l.length (fun G i hi=> ?_) (fun G=> ?_) k 0 (by omega) (by omega)
 ·simp only[aw,aK hi,hi,decide_true,if_true,Int.toNat_natCast]
  rw[hS _ (cj hi),Option.bind_some,if_pos (by simp;omega),bc (by omega),map_take d hi]
 ·simp
theorem zF {α:Type} {k:Nat} {d:α} {S:α×Unit→Option (α×Unit)} {l:List α} (hk:9223372036854775808≤k) (hl:l.length≤1073741824) (hS:∀e∈l,S (e,())=some (e,())):Uc k d S (l,())=some (l,()):=by
 have:=TQ (d:=d) (fun e=>e) hk hl hS
 rwa [List.map_id']at this
theorem EM {α:Type} {k:Nat} {d:α} {S:α×Unit→Option (α×Unit)} {l:List α} (hk:9223372036854775808≤k) (hl:l.length≤1073741824) (hS:∀e∈l,S (e,())=some (e,())):TY k d S (l,())=some (l,()):=by
 have:=TU (d:=d) (fun e=>e) hk hl hS
 rwa [List.map_id']at this
theorem Ig {e:Ty} (l m:List e.den):ag (.sl e) (l++m)=ag (.sl e) l+ag (.sl e) m:=by
 simp only[ag,List.length_append,List.map_append,List.sum_append];omega
theorem fB {e:Ty} (x:e.den) (l:List e.den):ag (.sl e) (x::l)=1+ag e x+ag (.sl e) l:=by
 simp only[ag,List.length_cons,List.map_cons,List.sum_cons];omega
theorem O5 {e:Ty}:ag (.sl e) ([]:List e.den)=0:=by simp[ag]
theorem Pg {e:Ty}:∀(l:List e.den) (i:Nat) (x:e.den),i<l.length→ag (.sl e) (l.set i x)+ag e (l.getD i e.aa)=ag (.sl e) l+ag e x
 | [],i,x,h=>by simp at h
 |y::l,0,x,h=>by rw[List.set_cons_zero,fB,fB];simp;omega
 |y::l,i+1,x,h=>by
  have:=Pg l i x (by simpa using h)
  rw[List.set_cons_succ,fB,fB,List.getD_cons_succ]
  omega
theorem gi {e:Ty} (l:List e.den) (i:Nat):ag (.sl e) (l.take i)+ag (.sl e) (l.drop i)=ag (.sl e) l:=by
 rw[←Ig,List.take_append_drop]
def qE (n:Nat) (p:Nat→Bool):Option Nat:=(List.range n).find? p
def pd:Option Nat→Int
 |some i=>(i:Int)
 |none=> -1
theorem kF {n:Nat} {p:Nat→Bool} {i:Nat}:qE n p=some i↔i<n∧p i=true∧∀j,j<i→p j=false:=by
 unfold qE
 rw[List.find?_range_eq_some]
 constructor
 ·rintro⟨h1,h2,h3⟩
  exact⟨List.mem_range.1 h2,h1,fun j hj=>by simpa using h3 j hj⟩
 ·rintro⟨h1,h2,h3⟩
  exact⟨h2,List.mem_range.2 h1,fun j hj=>by simpa using h3 j hj⟩
theorem KF {n:Nat} {p:Nat→Bool}:qE n p=none↔∀i,i<n→p i=false:=by
 unfold qE
 rw[List.find?_range_eq_none]
 constructor
 ·intro h i hi;simpa using h i hi
 ·intro h i hi;simpa using h i hi
theorem uv {σ ρ:Type} {f:(σ→Option ρ)→σ→Option ρ} (st:Nat→σ) (p:Nat→Bool) (n:Nat) {e:Option ρ} (hit:Nat→Option ρ)
 (hstep:∀G i,i<n→f G (st i)=if p i=true then hit i else G (st (i+1))) (hend:∀G,f G (st n)=e) (k:Nat) (hk:n<k):
 az k f (st 0)=match qE n p with|some i=>hit i|none=>e:=by
 have key:∀(k a:Nat),a≤n→n-a<k→(∀j,j<a→p j=false)→az k f (st a)=match qE n p with|some i=>hit i|none=>e:=by
  intro k
  induction k with
  |zero=>intro a _ h;omega
  |succ k ih=>
   intro a ha h hp
   show f (az k f) (st a)=_
   by_cases hn:a=n
   ·subst hn
    rw[hend,(KF (n:=a) (p:=p)).2 hp]
   ·rw[hstep _ a (by omega)]
    cases hpa:p a with
    |true=>rw[if_pos rfl,(kF (i:=a)).2 ⟨by omega,hpa,hp⟩]
    |false=>
     rw[if_neg (by simp),ih (a+1) (by omega) (by omega) (fun j hj=>by
      rcases Nat.lt_or_ge j a with h|h
      ·exact hp j h
      ·obtain rfl:j=a:=by omega
       exact hpa)]
 exact key k 0 (by omega) (by omega) (by omega)
end Vg
namespace Vg
open Go
def lC (a b:ByteArray):Bool:=Op.bytesLess a.toList b.toList
def bU:List (ByteArray×ByteArray)→List (ByteArray×ByteArray)→Bool
 | [],b=> !b.isEmpty
 |_::_,[]=>false
 |a::l,b::m=>if a.1.toList==b.1.toList then(if a.2.toList==b.2.toList then bU l m else lC a.2 b.2)else lC a.1 b.1
def df {α:Type} (lt:α→α→Bool) (x:α):List α→List α
 | []=>[x]
 |y::r=>if lt x y=true then y::df lt x r else x::y::r
def eM {α:Type} (lt:α→α→Bool) (l:List α):List α:=(l.foldl (fun r x=>df lt x r) []).reverse
abbrev cQ (a b:List (ByteArray×ByteArray)×Int×Int×ByteArray):Bool:=bU a.1 b.1
def dr (l:List (List (ByteArray×ByteArray)×Int×Int×ByteArray)):List (List (ByteArray×ByteArray)×Int×Int×ByteArray):=eM cQ l
end Vg
namespace Go.Proofs
open Go.Shelf Go.RowKit Go.Lib Go.Sort
variable {P:Program} {ρ:Ren} {α:Type} [Inhabited α]
set_option maxHeartbeats 1600000 in
set_option maxRecDepth 100000 in
theorem Mx (L:LaysGt.n15 P ρ) {enc:α→List Value} {k:Nat} (hk:∀x,(enc x).length=k) (lt:α→α→Bool) {g:Nat} {lb:Array Value} {sf:Nat} {sb:Array Value} {blk off:Nat} {d:Array α} {W:World}
 (eg:∀args w,(callFunc g args).run P w= .ok (.enter g args) w) (hless:LessReadsK P g lb enc k lt blk off d.size W) (hswap:SwapSwapsK P sf sb enc k blk off d.size)
 (hH:HoldsK enc k W blk off d) (hblk:blk<W.heap.size) (h20:d.size<20):
 Calls P (ρ.f 15) #[.agg #[.func (.func g) #[] lb,.func (.func sf) #[] sb],.int .i64 d.size] W fun e w'=>e= .returned (.tuple #[])∧∃n os,w'=sortWorldK enc k W blk off n (Sort.insertionSort lt d 0 d.size) os:=by
 have mixed:=L.mixed;have t0:=L.t0;have a0:=L.a0;have z0:=L.z0;have v0:=L.v0;have t3:=L.t3;have a3:=L.a3;have z3:=L.z3;have v3:=L.v3;have t4:=L.t4;have a4:=L.a4;have z4:=L.z4;have v4:=L.v4;have t26:=L.t26;have a26:=L.a26;have z26:=L.z26;have v26:=L.v26;have t38:=L.t38;have a38:=L.a38;have z38:=L.z38;have v38:=L.v38;have t42:=L.t42;have a42:=L.a42;have z42:=L.z42;have v42:=L.v42;have t47:=L.t47;have a47:=L.a47;have z47:=L.z47;have v47:=L.v47
 have u42:=run_underlying L.t42
 have e29:∀args w,(callFunc (ρ.f 29) args).run P w= .ok (.enter (ρ.f 29) args) w:=enters_of L.f29 (by kernel_rfl) rfl
 have LI:LaysGg.n26 P ρ.viaGt:=({L with}:LaysGt.n29 P ρ).elder
 have hS:=(SWK.start hH).alloc (.cells #[.func (.func g) #[] lb,.func (.func sf) #[] sb] (ρ.t 42))
 have hc:Calls P (ρ.f 29) #[.agg #[.func (.func g) #[] lb,.func (.func sf) #[] sb],.int .i64 (0:Nat),.int .i64 d.size] (W.alloc (.cells #[.func (.func g) #[] lb,.func (.func sf) #[] sb] (ρ.t 42))) fun e w'=>e= .returned (.tuple #[])∧∃n os,w'=sortWorldK enc k (W.alloc (.cells #[.func (.func g) #[] lb,.func (.func sf) #[] sb] (ρ.t 42))) blk off n (Sort.insertionSort lt d 0 d.size) os:=
  Any.insertionSort_func_cells_w LI enc k hk lt g lb sf sb blk off 0 d.size d _ eg (hS.lessReads hless hblk rfl) hswap (hS.holds hblk hH rfl) (hS.lt hblk) (Nat.zero_le _) (Nat.le_refl _) (by omega)
 clear hless hswap hH hS
 go_enter L.f15,BodyGt.n15_ntmps ρ
 go_wp2
 refine wp_loop_rounds 1 ?_
 rw[rounds_succ]
 go_wp2_with (go_at_fn (ρ.f 29);refine hc.mono ?_;rintro e w1 ⟨rfl,n,os,rfl⟩)
 refine wp_loop_rounds 1 ?_
 rw[rounds_succ]
 go_wp2
 all_goals first|(exfalso;omega)|(go_end0;exact⟨rfl,n,_,by unfold sortWorldK;rw[alloc_eq_grow,ahead_grow,putRowK_grow enc k (Sort.ahead W n) _ blk off _ hblk,grow_grow]⟩)
theorem BK (L:LaysGt.n8 P ρ) {t e:TypeId} {i ie:TypeInfo} (hi:P.info? t=some i) (hd:i.desc= .slice e) (hpk:P.packed t=false) (hie:P.info? e=some ie) {ke:Nat} (hke:∀w,(Extern.Rtype.kind e).run P w= .ok ke w)
 {enc:α→List Value} {k:Nat} (hk:∀x,(enc x).length=k) (hs1:ie.size=k) (hagg:∀w,(isAgg e).run P w= .ok true w) (h1:∀x,∀v∈enc x,v.oneCell'=true) (lt:α→α→Bool) {g:Nat} {lb:Array Value}
 (eg:∀args w,(callFunc g args).run P w= .ok (.enter g args) w) {blk off c:Nat} {d:Array α} (h2:2≤d.size) (h20:d.size<20)
 {f:Nat} (hf:P.funcs.findIdx? (·.name== "internal/reflectlite" ++ ".Swapper$" ++toString (swapperK d.size ie ke))=some f)
 (gS:Bool) (hx:∀args W,(callFunc f args).run P W=((Extern.ReflectliteSwapper.swap gS args).run P W).andThen fun v w'=> .ok (.value v) w')
 {w:World} (hless:LessReadsK P g lb enc k lt blk off d.size w) (hH:HoldsK enc k w blk off d) (hblk:blk<w.heap.size):
 Calls P (ρ.f 8) #[.iface t (.slice (some ⟨blk,off,none⟩) d.size c),.func (.func g) #[] lb] w fun e w'=>
  e= .returned (.tuple #[])∧∃n os,w'=grow (putRowK enc k (Sort.ahead w n) blk off (Sort.insertionSort lt d 0 d.size)) os:=by
 refine Any.sort_SliceStable_of_stable L t e i ie hi hd hpk hie ke hke _ d.size c (by omega) f hf (.func g) #[] lb w _ ?_
 have hB:sliceBound P e ie ke (some ⟨blk,off,none⟩) d.size c= #[.slice (some ⟨blk,off,none⟩) d.size c,typeHandle P e]:=by
  unfold sliceBound;rw[if_neg (swapperK_gt _ _ _ h2)]
 obtain⟨os0,hW⟩:∃os0,stableWorld P ρ t (some ⟨blk,off,none⟩) d.size c w=grow w os0:=
  ⟨_,by unfold stableWorld;rw[alloc_eq_grow,alloc_eq_grow,grow_grow]⟩
 rw[hB,hW]
 refine(Mx (P:=P) (ρ:=ρ) {L with} hk lt (d:=d) eg (hless.grow hblk os0)
  (swapSwapsK_of_literal gS f hx e ie hie enc k hk hs1 hagg h1 blk off d.size c) (holdsK_grow enc k w _ blk off d hblk hH) (by rw[size_grow];omega) h20).mono ?_
 rintro e w' ⟨rfl,n,os,rfl⟩
 exact⟨rfl,n,_,by unfold sortWorldK;rw[ahead_grow,putRowK_grow enc k (Sort.ahead w n) _ blk off _ hblk,grow_grow]⟩
def Hy {α:Type} (enc:α→List Value) (lab:α→List (ByteArray×ByteArray)) (blk:Nat) (w:World):Prop:=
 ∀x:α,∃p c,(enc x)[0]?=some (.slice p (lab x).length c)∧(lab x).length<4611686018427387904∧
  ∀i,i<(lab x).length→∃bk o,p=some ⟨bk,o,none⟩∧bk≠blk∧bk<w.heap.size∧w.cell? ⟨bk,o+i*2,none⟩=some (.string ((lab x).getD i (ByteArray.empty,ByteArray.empty)).1)∧
   w.cell? ⟨bk,o+i*2+1,none⟩=some (.string ((lab x).getD i (ByteArray.empty,ByteArray.empty)).2)
end Go.Proofs
namespace Vg
open Go Go.RowKit
section
variable {α:Type}
theorem Cl (lt:α→α→Bool) (x:α):∀r:List α,(df lt x r).Perm (x::r)
 | []=>List.Perm.refl _
 |y::r=>by
  unfold df
  split
  ·exact((Cl lt x r).cons y).trans (List.Perm.swap x y r)
  ·exact List.Perm.refl _
theorem yn (lt:α→α→Bool):∀(l r:List α),(l.foldl (fun r x=>df lt x r) r).Perm (l++r)
 | [],r=>List.Perm.refl _
 |x::l,r=>by
  rw[List.foldl_cons]
  exact(yn lt l _).trans ((List.Perm.append_left l (Cl lt x r)).trans (List.perm_middle))
theorem Cd (lt:α→α→Bool) (l:List α):(eM lt l).Perm l:=by
 unfold eM
 refine(List.reverse_perm _).trans ?_
 have:=yn lt l []
 rwa [List.append_nil]at this
theorem Ht {β:Type} {lt:α→α→Bool} {lt':β→β→Bool} (f:α→β) (h:∀x y,lt x y=lt' (f x) (f y)) (x:α):∀r:List α,(df lt x r).map f=df lt' (f x) (r.map f)
 | []=>rfl
 |y::r=>by
  simp only[df,List.map_cons,h]
  split<;>simp[Ht f h x r]
theorem zl {β:Type} {lt:α→α→Bool} {lt':β→β→Bool} (f:α→β) (h:∀x y,lt x y=lt' (f x) (f y)):∀(l r:List α),(l.foldl (fun r x=>df lt x r) r).map f=(l.map f).foldl (fun r x=>df lt' x r) (r.map f)
 | [],r=>rfl
 |x::l,r=>by
  rw[List.foldl_cons,List.map_cons,List.foldl_cons,zl f h l,Ht f h]
theorem PQ {β:Type} {lt:α→α→Bool} {lt':β→β→Bool} (f:α→β) (h:∀x y,lt x y=lt' (f x) (f y)) (l:List α):(eM lt l).map f=eM lt' (l.map f):=by
 unfold eM
 rw[List.map_reverse,zl f h]
 rfl
variable [Inhabited α]
theorem Kd (lt:α→α→Bool):∀(j:Nat) (p:List α) (x:α) (r:List α),p.length=j→Go.Sort.insInner lt 0 j (p++x::r).toArray=((df lt x p.reverse).reverse++r).toArray
 |0,p,x,r,h=>by
  have:p=[]:=List.length_eq_zero_iff.1 h
  subst this
  rfl
 |j+1,p,x,r,h=>by
  obtain⟨q,y,rfl⟩:∃q y,p=q++[y]:=⟨p.dropLast,p.getLast (by intro e;rw[e]at h;cases h),(List.dropLast_concat_getLast _).symm⟩
  have hq:q.length=j:=by simpa using h
  have e1:(q++[y]++x::r).toArray[j+1]! =x:=by simp[←hq]
  have e0:(q++[y]++x::r).toArray[j]! =y:=by simp[←hq]
  unfold Go.Sort.insInner
  rw[e1,e0]
  by_cases hl:lt x y=true
  ·rw[if_pos (by simp[hl])]
   have e2:Go.Sort.swp (q++[y]++x::r).toArray (j+1) j=(q++x::(y::r)).toArray:=by
    unfold Go.Sort.swp
    rw[e1,e0]
    apply Array.ext'
    simp[←hq]
   rw[e2,Kd lt j q x (y::r) hq,List.reverse_append,List.reverse_singleton,List.singleton_append]
   simp[df,hl]
  ·rw[if_neg (by simp[hl]),List.reverse_append,List.reverse_singleton,List.singleton_append]
   simp[df,hl]
theorem Kz (lt:α→α→Bool) (l:List α):∀(m i:Nat),i+m=l.length→Go.Sort.insOuter lt 0 l.length i (eM lt (l.take i)++l.drop i).toArray=(eM lt l).toArray
 |0,i,h=>by
  unfold Go.Sort.insOuter
  rw[if_neg (by omega),List.drop_eq_nil_of_le (by omega),List.take_of_length_le (by omega),List.append_nil]
 |m+1,i,h=>by
  have hi:i<l.length:=by omega
  unfold Go.Sort.insOuter
  rw[if_pos hi,List.drop_eq_getElem_cons hi]
  have hlen:(eM lt (l.take i)).length=i:=by rw[(Cd lt (l.take i)).length_eq,List.length_take];omega
  rw[Kd lt i _ _ _ hlen]
  have:(df lt l[i] (eM lt (l.take i)).reverse).reverse=eM lt (l.take (i+1)):=by
   unfold eM
   rw[List.reverse_reverse,List.take_succ_eq_append_getElem hi,List.foldl_append]
   rfl
  rw[this]
  exact Kz lt l m (i+1) (by omega)
theorem Sd (lt:α→α→Bool) (l:List α) (h:1≤l.length):Go.Sort.insertionSort lt l.toArray 0 l.toArray.size=(eM lt l).toArray:=by
 unfold Go.Sort.insertionSort
 have:=Kz lt l (l.length-1) 1 (by omega)
 have e:eM lt (l.take 1)++l.drop 1=l:=by
  cases l with
  |nil=>cases h
  |cons x l=>rfl
 rw[e]at this
 simpa using this
theorem Iw {enc:α→List Value} {k:Nat} (hk:∀x,(enc x).length=k) (h0:0<k):∀(L:List α) (t:Nat),t<L.length*k→(L.flatMap enc)[t]?=some ((enc L[t/k]!)[t%k]!)
 | [],t,h=>by simp at h
 |x::L,t,h=>by
  rw[List.flatMap_cons]
  by_cases ht:t<k
  ·rw[List.getElem?_append_left (by rw[hk];exact ht),Nat.div_eq_of_lt ht,Nat.mod_eq_of_lt ht]
   have:t<(enc x).length:=by rw[hk];exact ht
   simp[this]
  ·rw[List.getElem?_append_right (by rw[hk];omega),hk,Iw hk h0 L (t-k) (by simp only[List.length_cons,Nat.add_mul,Nat.one_mul]at h;omega)]
   have e1:t/k=(t-k)/k+1:=by rw[Nat.div_eq_sub_div h0 (by omega)]
   have e2:t%k=(t-k)%k:=by rw[Nat.mod_eq_sub_mod (by omega)]
   rw[e1,e2]
   rfl
theorem P1 {enc:α→List Value} {k:Nat} (hk:∀x,(enc x).length=k) (h0:0<k) (L:List α):(Go.Sort.flatK enc k L.toArray).toList=L.flatMap enc:=by
 have hl:(L.flatMap enc).length=L.length*k:=by
  induction L with
  |nil=>simp
  |cons x L ih=>rw[List.flatMap_cons,List.length_append,ih,hk,List.length_cons,Nat.add_mul,Nat.one_mul,Nat.add_comm]
 apply List.ext_getElem?
 intro t
 by_cases ht:t<L.length*k
 ·rw[Iw hk h0 L t ht]
  have h2:t<(Go.Sort.flatK enc k L.toArray).size:=by simpa using ht
  have h3:=Go.Sort.get_flatK enc k L.toArray t (by simpa using ht)
  rw[getElem!_pos _ t h2]at h3
  rw[Array.getElem?_toList,Array.getElem?_eq_getElem h2,h3]
  simp
 ·rw[List.getElem?_eq_none (by simp;omega),List.getElem?_eq_none (by rw[hl];omega)]
end
theorem FC {β:Type} {R:β→List Value→List Nat→Prop}:∀ {l:List β} {cs:List Value} {B:List Nat},bd R l cs B→
 ∃L:List (β×List Value×List Nat),(∀x∈L,R x.1 x.2.1 x.2.2)∧l=L.map (·.1)∧cs=L.flatMap (·.2.1)∧B=L.flatMap (·.2.2)
 | [],_,_,h=>⟨[],by simp,rfl,h.1,h.2⟩
 |x::l,cs,B,h=>by
  obtain⟨c1,c2,B1,B2,rfl,rfl,h1,h2⟩:=h
  obtain⟨L,a1,rfl,rfl,rfl⟩:=FC h2
  exact⟨(x,c1,B1)::L,(fun y hy=>by rcases List.mem_cons.1 hy with rfl|hy;exact h1;exact a1 y hy),rfl,rfl,rfl⟩
theorem FW {β:Type} {R:β→List Value→List Nat→Prop}:∀(L:List (β×List Value×List Nat)),(∀x∈L,R x.1 x.2.1 x.2.2)→bd R (L.map (·.1)) (L.flatMap (·.2.1)) (L.flatMap (·.2.2))
 | [],_=>⟨rfl,rfl⟩
 |x::L,h=>⟨x.2.1,_,x.2.2,_,rfl,rfl,h x (by simp),FW L (fun y hy=>h y (by simp[hy]))⟩
theorem Nk {w:World}:∀ {l:List (ByteArray×ByteArray)} {cs:List Value} {B:List Nat},bd (aR w (.pair .str .str)) l cs B→B=[]∧∀i,i<l.length→cs[i*2]?=some (.string (l.getD i (ByteArray.empty,ByteArray.empty)).1)∧cs[i*2+1]?=some (.string (l.getD i (ByteArray.empty,ByteArray.empty)).2)
 | [],_,_,h=>⟨h.2,fun i hi=>by simp at hi⟩
 |x::l,cs,B,h=>by
  obtain⟨c1,c2,B1,B2,rfl,rfl,⟨d1,d2,C1,C2,rfl,rfl,⟨rfl,rfl⟩,⟨rfl,rfl⟩⟩,h2⟩:=h
  obtain⟨e,q⟩:=Nk h2
  refine⟨by rw[e];rfl,fun i hi=> ?_⟩
  cases i with
  |zero=>exact⟨rfl,rfl⟩
  |succ i=>
   obtain⟨q1,q2⟩:=q i (by simpa using hi)
   have e1:(i+1)*2=i*2+1+1:=by omega
   rw[e1]
   simp only[List.singleton_append,List.cons_append,List.nil_append,List.getElem?_cons_succ,List.getD_cons_succ]
   exact⟨q1,q2⟩
theorem BY {e:Ty} {F:aT [.sl e]→Option (aT [.sl e])} {w w':World} {G0:Gh} {v:Value} {l l':List e.den}
 (hlot:Cu w G0 (bq [.val (.sl e) .own] (l,()) 3).1 [v] 4) {B B':List Nat} (hB:dK w e.sz (aR w e) l v B) (hBo:∀b Bs,B=b::Bs→G0.col b=3∧b∉Bs∧(∀x∈Bs,G0.col x=3)∧Bs.Nodup)
 (hB':dK w' e.sz (aR w' e) l' v B') (hp:∀b Bs,B'=b::Bs→∃Bs0,B=b::Bs0∧Bs.Perm Bs0)
 (hsame:∀b,b<w.heap.size→(∀Bs,B≠b::Bs)→w'.heap[b]?=w.heap[b]?) (hrow:∀b Bs,B=b::Bs→∃c el,w'.heap[b]?=some (.cells c el (0,0)))
 (hsize:w.heap.size≤w'.heap.size) (hos:w'.os=w.os) (htape:w'.tape=w.tape) (hout:w'.output=w.output):
 ∃G' vs nt,sU ⟨[.val (.sl e) .own],[.val (.sl e) .own],F,[]⟩ w G0 [v] (l',()) v w' G' vs nt:=by
 refine⟨⟨fun b=>if G0.col b=3 then 4 else G0.col b,fun t=>if t=4 then v else G0.hdr t,fun _=>false⟩,[v],5,?_⟩
 exact {
  kept:=fun q hq=>by cases hq
  val:=rfl
  len:=rfl
  res:=fun i=>by
   cases i with
   |zero=>
    show bJ w' _ (.d ⟨.sl e,l',.sl (.row 4 [4] true)⟩) v
    refine⟨[v],rfl,v,rfl,by omega,rfl,B',hB',fun b Bs he=> ?_⟩
    obtain⟨Bs0,e0,hperm⟩:=hp b Bs he
    obtain⟨q1,q2,q3,q4⟩:=hBo b Bs0 e0
    refine⟨by simp[q1],fun hm=>q2 (hperm.mem_iff.1 hm),fun x hx=> ?_,fun _=>hperm.nodup_iff.2 q4⟩
    have:=q3 x (hperm.mem_iff.1 hx)
    simp[this]
   |succ i=>trivial
  ios:=fun t i x h=>by cases h
  frame:=fun b hb hc=>by
   refine⟨by simp only;rw[if_neg (by omega)],hsame b hb (fun Bs he=> ?_)⟩
   have:=(hBo b Bs he).1
   omega
  one:=fun b h=>by
   simp only at h
   split at h
   ·omega
   ·exact⟨(hlot.colU b (by omega)).2,h⟩
  size:=hsize
  os:=hos
  tape:=htape
  output:=hout
  lt:=fun b h=>by
   simp only at h
   refine Nat.lt_of_lt_of_le (hlot.colU b ?_).2 hsize
   split at h<;>omega
  fresh:=fun b h=>by
   simp only at h
   have h3:3≤G0.col b:=by split at h<;>omega
   obtain⟨c,el,hc⟩:=hlot.fresh b h3
   by_cases hb:∃Bs,B=b::Bs
   ·obtain⟨Bs,he⟩:=hb
    exact hrow b Bs he
   ·rw[hsame b (hlot.colU b (by omega)).2 (fun Bs he=>hb ⟨Bs,he⟩)]
    exact⟨c,el,hc⟩}
end Vg
