/- VG, joined: an evaluator of the code over typed values, and its soundness, for any program. -/
import Derived.Test.YteoefigcipiffaaGreatVb
import Derived.WalkKit
import Derived.ProofKit
import Derived.OpenShut
import Derived.JoinedCond
import Derived.Carry
import Derived.Test.YteoefigcipiffaaGreatVa
import Derived.KernelRfl
import Derived.Lib.Join
import Derived.Below
import Derived.Shelf.GgSortMore.Stable
import Derived.Shelf.SlSortFuncK.WholeK
set_option linter.unusedSimpArgs false
set_option linter.unusedVariables false
namespace Vg
open Go
def oG (tmps:Array Value):ResultVar→Sem Value
 | .tmp t=>pure (tmps.getD t undef)
 | .cell a t=>do loadVar t (←asAddr (tmps.getD a undef))
section
variable {P:Program} {C:Cx} {w0:World} {c0:C0} {U:Nat→Prop} {E:Env} {a:Act} {w:World} {G:Gh} {ops:List Oper} {L:Nat→Prop} {Q:Exit→Act→World→Prop} {ρ:Type}
theorem Jw (c:Nat):qG c∈[2,1]:=by unfold qG;split<;>simp
theorem DW (hC:CxTy P C) (hI:Inv w0 c0 U E a w G):∀ {rs:List RK} {rv:List ResultVar} {tk:Nat} {xs:aT (rs.map RK.ty)} {rho:List (Nat×Nat)} {tk':Nat},tZ C.tt E rs rv tk=some (xs,rho,tk')→3≤tk→
 tk'=cN rs tk∧(∀c k,(c,k)∈rho→(k=qG c∧Good U G c)∨(tk≤k∧k<cN rs tk∧3≤c))∧
 ∃vs:List Value,vs.length=rs.length∧(rv.mapM (oG a.tmps)).run P w= .ok vs w∧∃H:Nat→Value,∀(rest:List Ty) (y:aT rest) (G1:Gh),(∀c k,(c,k)∈rho→∀b,G.col b=c→G1.col b=k)→
  (∀u,tk≤u→u<cN rs tk→G1.hdr u=H u)→∀i,bI w G1 ((aV rs rest (aT.app _ _ xs y) tk [2,1]).1.getD i .no) (vs.getD i undef)
 | [],[],tk,xs,rho,tk',h,h3=>by
   simp only[tZ,Option.some.injEq,Prod.mk.injEq]at h
   obtain⟨_,rfl,rfl⟩:=h
   exact⟨rfl,by simp,[],rfl,by simp,fun _=>undef,fun rest y G1 _ _ i=>by simp[aV,bI]⟩
 | .val τ p::rs,v::rv,tk,xs,rho,tk',h,h3=>by
   simp only[tZ]at h
   have n1:=bj p tk
   have n2:=jy rs (aH p tk)
   split at h
   ·cases h
   ·rename_i t hv
    have hval:∃u cs,(oG a.tmps v).run P w= .ok u w∧u=bT t.τ cs∧aW w G t.τ t.x t.sh cs∧∀c∈t.sh.aD,Good U G c:=by
     cases v with
     |tmp s=>
      simp only[Env.get]at hv
      split at hv
      ·rename_i t' he
       cases hv
       have hs:=hI.slots s
       have hm:=hI.kV s
       rw[he]at hs hm
       obtain⟨cs,h1,h2⟩:=hs
       exact⟨_,cs,by simp[oG],h1,h2,hm.1⟩
      ·cases hv
     |cell s ty=>
      simp only[Env.get]at hv
      split at hv
      ·rename_i b t' i he hi
       split at hv
       ·rename_i hτ
        cases hv
        have hs:=hI.slots s
        have hm:=hI.kV s
        rw[he]at hs hm
        obtain⟨bk,cl,el,h1,h2,h4,h5,h6,h7⟩:=hs
        have hlen:=aW.len h7
        simp only[Array.length_toList]at hlen
        have hT:=(hC.tt ty i hi).1
        have hld:=oC (P:=P) hT h6 (o:=0) (by rw[hτ];omega)
        refine⟨_,cl.toList,?_,rfl,h7,hm.1⟩
        simp only[oG,h1]
        rw[hτ]at hld
        simp only[List.drop_zero]at hld
        rw[List.take_of_length_le (by simp;omega)]at hld
        simpa[asAddr]using hld
       ·cases hv
      ·cases hv
    obtain⟨u,cs,hu,hucs,hvok,hgood⟩:=hval
    split at h
    ·rename_i x xs' rho' tk1 hx hr
     split at h
     ·rename_i hf
      simp only[Option.some.injEq,Prod.mk.injEq]at h
      obtain⟨rfl,rfl,rfl⟩:=h
      have e:=cK hx
      rw[e]at hucs hvok hgood hf⊢
      obtain⟨i1,i2,vs,i3,i4,H2,i5⟩:=DW hC hI hr (Nat.le_trans h3 n1)
      obtain⟨H1,k1⟩:=ju (sm:=qG) (hs:=[2,1]) (tk:=tk) hf hvok h3 (fun c _=>Jw c) (by simp)
      have hpn:(aP p tk []).2=aH p tk:=rfl
      refine⟨i1,fun c k hck=> ?_,u::vs,by simp[i3],by simp[hu,i4],fun z=>if z<aH p tk then H1 z else H2 z,fun rest y G1 g1 g2 i=> ?_⟩
      ·rw[nT]
       rcases List.mem_append.1 hck with hck|hck
       ·obtain⟨r1,r2⟩:=hY hvok c k hck
        rcases r2 with r2|⟨r2,r3,r4⟩
        ·exact .inl ⟨r2,hgood c r1⟩
        ·exact .inr ⟨r3,by omega,r2⟩
       ·rcases i2 c k hck with h|⟨q1,q2,q3⟩
        ·exact .inl h
        ·exact .inr ⟨by omega,q2,q3⟩
      ·rw[nT]at g2
       cases i with
       |zero=>
        simp only[aV,List.getD_cons_zero]
        refine⟨cs,hucs,k1 G1 (fun c k hck=>g1 c k (List.mem_append_left _ hck)) (fun z hz hz2=>(g2 z hz (by omega)).trans (if_pos hz2))⟩
       |succ i=>
        simp only[aV,List.getD_cons_succ,bH]
        exact i5 rest y G1 (fun c k hck=>g1 c k (List.mem_append_right _ hck)) (fun z hz hz2=>(g2 z (by omega) hz2).trans (if_neg (by omega))) i
     ·cases h
    ·cases h
 | .nbox τ p::rs,.tmp s::rv,tk,xs,rho,tk',h,h3=>by
   simp only[tZ]at h
   have n1:=bj p (tk+1)
   have n2:=jy rs (aH p (tk+1))
   split at h
   ·cases h
   ·rename_i b0 s0 t hb
    have hso:bI w G (E.rd.get s) (a.tmps.getD s undef):=tO (hI.slots s)
    obtain⟨_,bk,c,el,b1,b2,b3,b4,b5,b6,b7,b8,b9⟩:=sM hI hb hso
    split at h
    ·rename_i x xs' rho' tk1 hx hr
     split at h
     ·rename_i hf
      simp only[Option.some.injEq,Prod.mk.injEq]at h
      obtain⟨rfl,rfl,rfl⟩:=h
      have e:=cK hx
      rw[e]at hf b6 b7⊢
      have hpn:(aP p (tk+1) []).2=aH p (tk+1):=rfl
      obtain⟨i1,i2,vs,i3,i4,H2,i5⟩:=DW hC hI hr (by omega)
      obtain⟨H1,k1⟩:=ju (sm:=qG) (hs:=[2,1]) (tk:=tk+1) hf b6 (by omega) (fun c _=>Jw c) (by simp)
      refine⟨i1,fun c k hck=> ?_,a.tmps.getD s undef::vs,by simp[i3],by simp[oG,i4],fun z=>if z=tk then a.tmps.getD s undef else if z<aH p (tk+1)then H1 z else H2 z,fun rest y G1 g1 g2 i=> ?_⟩
      ·rw[lQ]
       simp only[List.cons_append,List.mem_cons,Prod.mk.injEq,List.mem_append]at hck
       rcases hck with⟨rfl,rfl⟩|hck|hck
       ·exact .inr ⟨Nat.le_refl _,by omega,b3⟩
       ·obtain⟨r1,r2⟩:=hY b6 c k hck
        rcases r2 with r2|⟨r2,r3,r4⟩
        ·exact .inl ⟨r2,b7 c r1⟩
        ·exact .inr ⟨by omega,by omega,r2⟩
       ·rcases i2 c k hck with h|⟨q1,q2,q3⟩
        ·exact .inl h
        ·exact .inr ⟨by omega,q2,q3⟩
      ·rw[lQ]at g2
       cases i with
       |zero=>
        simp only[aV,List.getD_cons_zero]
        refine⟨bk,c,el,b1,h3,(g2 tk (Nat.le_refl _) (by omega)).trans (if_pos rfl),g1 b0 tk (by simp) bk b4,b5,k1 G1 (fun c k hck=>g1 c k (by simp[hck])) (fun z hz hz2=> ?_)⟩
        exact((g2 z (by omega) (by omega)).trans (if_neg (by omega))).trans (if_pos hz2)
       |succ i=>
        simp only[aV,List.getD_cons_succ,bH]
        exact i5 rest y G1 (fun c k hck=>g1 c k (by simp[hck])) (fun z hz hz2=>((g2 z (by omega) hz2).trans (if_neg (by omega))).trans (if_neg (by omega))) i
     ·cases h
    ·cases h
 | [],_::_,_,_,_,_,h,_| .val _ _::_,[],_,_,_,_,h,_| .nbox _ _::_,[],_,_,_,_,h,_| .nbox _ _::_,.cell _ _::_,_,_,_,_,h,_=>by simp[tZ]at h
theorem sn (hI:Inv w0 c0 U E a w G):∀ {ps:List PK} {i te tk:Nat} {ys:aT (bh ps)} {rho:List (Nat×Nat)},xI E ps i te tk=some (ys,rho)→3≤tk→3≤te→
 (∀c k,(c,k)∈rho→(k=qG c∧Good U G c)∨(tk≤k∧k<nD ps tk∧3≤c)∨(k=c∧c∈bR ps te))∧
 ∃H:Nat→Value,∀(G1:Gh),(∀c k,(c,k)∈rho→∀b,G.col b=c→G1.col b=k)→(∀u,tk≤u→u<nD ps tk→G1.hdr u=H u)→(∀u∈bR ps te,G1.hdr u=G.hdr u)→
  ∀t j v,(t,j,v)∈cm [2,1] ps ys (dD ps i te) tk→bI w G1 (.box t v) (a.tmps.getD j undef)∧j∈fc ps i
 | [],i,te,tk,ys,rho,h,h3,h4=>by
   simp only[xI,Option.some.injEq,Prod.mk.injEq]at h
   obtain⟨_,rfl⟩:=h
   exact⟨by simp,fun _=>undef,fun G1 _ _ _ t j v hin=>by simp[cm]at hin⟩
 | .val τ p::ps,i,te,tk,ys,rho,h,h3,h4=>by
   have n1:=bj p te
   have hpn:(aP p te []).2=aH p te:=rfl
   obtain⟨i1,H,i2⟩:=sn hI (ps:=ps) (i:=i+1) h h3 (by omega)
   exact⟨i1,H,i2⟩
 | .rd τ::ps,i,te,tk,ys,rho,h,h3,h4=>by
   obtain⟨i1,H,i2⟩:=sn hI (ps:=ps) (i:=i+1) h h3 h4
   exact⟨i1,H,i2⟩
 | .vx e l::ps,i,te,tk,ys,rho,h,h3,h4=>by
   obtain⟨i1,H,i2⟩:=sn hI (ps:=ps) (i:=i+1) h h3 h4
   exact⟨i1,H,i2⟩
 | .io τ p::ps,i,te,tk,ys,rho,h,h3,h4=>by
   simp only[xI,Env.get]at h
   have n1:=bj p tk
   have n2:=pE ps (aH p tk)
   have n3:=bj p (te+1)
   have hpn:(aP p (te+1) []).2=aH p (te+1):=rfl
   have hpn2:(aP p tk []).2=aH p tk:=rfl
   split at h
   ·rename_i b v xs rho' he hr
    split at h
    ·rename_i x hx
     split at h
     ·rename_i hc
      simp only[Bool.and_eq_true,decide_eq_true_eq]at hc
      obtain⟨hf,rfl⟩:=hc
      simp only[Option.some.injEq,Prod.mk.injEq]at h
      obtain⟨rfl,rfl⟩:=h
      have hs:=hI.slots i
      have hm:=hI.kV i
      rw[he]at hs hm
      obtain⟨bk,c,el,b1,b2,b3,b4,b5,b6⟩:=hs
      have b7:=hm.1
      have e:=cK hx
      rw[e]at hf b6 b7
      obtain⟨i1,H2,i2⟩:=sn hI (ps:=ps) (i:=i+1) hr (by omega) (by omega)
      obtain⟨H1,k1⟩:=ju (sm:=qG) (hs:=[2,1]) (tk:=tk) hf b6 h3 (fun c _=>Jw c) (by simp)
      refine⟨fun c k hck=> ?_,fun z=>if z<aH p tk then H1 z else H2 z,fun G1 g1 g2 g3 t j u hin=> ?_⟩
      ·rw[A0]
       simp only[List.cons_append,List.mem_cons,Prod.mk.injEq,List.mem_append]at hck
       rcases hck with⟨rfl,rfl⟩|hck|hck
       ·exact .inr (.inr ⟨rfl,by simp[bR]⟩)
       ·obtain⟨r1,r2⟩:=hY b6 c k hck
        rcases r2 with r2|⟨r2,r3,r4⟩
        ·exact .inl ⟨r2,b7 c r1⟩
        ·exact .inr (.inl ⟨r3,by omega,r2⟩)
       ·rcases i1 c k hck with h|⟨q1,q2,q3⟩|⟨q1,q2⟩
        ·exact .inl h
        ·exact .inr (.inl ⟨by omega,q2,q3⟩)
        ·exact .inr (.inr ⟨q1,by simp only[bR];exact List.mem_cons_of_mem _ q2⟩)
      ·rw[A0]at g2
       simp only[dD,cm,List.mem_cons,Prod.mk.injEq]at hin
       rcases hin with⟨rfl,rfl,rfl⟩|hin
       ·refine⟨⟨bk,c,el,b1,h4,?_,g1 t t (by simp) bk b4,b5,k1 G1 (fun c k hck=>g1 c k (by simp[hck])) (fun z hz hz2=>(g2 z hz (by omega)).trans (if_pos hz2))⟩,by simp[fc]⟩
        rw[g3 t (by simp[bR])];exact b3
       ·rw[bH]at hin
        have:=i2 G1 (fun c k hck=>g1 c k (by simp[hck])) (fun z hz hz2=>(g2 z (by omega) hz2).trans (if_neg (by omega))) (fun u hu=>g3 u (by simp only[bR];exact List.mem_cons_of_mem _ hu)) t j u hin
        exact⟨this.1,by simp only[fc];exact List.mem_cons_of_mem _ this.2⟩
     ·cases h
    ·cases h
   ·cases h
end
end Vg
namespace Vg
open Go
def Gh.Cl (G:Gh) (n:Nat):C0:=⟨G.col,fun t=>if t<n then some (G.hdr t)else none⟩
theorem SI {ps:List PK}:∀ {x:aT (ps.map PK.ty)} {te i0 j i:Nat} {τ:Ty} {sh:Sh},(oY ps i0 te)[j]?=some (i,τ,sh)→
 ∃te' y,i0≤i∧(br ps x te).1.getD (i-i0) .no= .box te' ⟨τ,y,sh⟩∧(dD ps i0 te)[j]?=some (te',i)∧(bh ps)[j]?=some τ∧(∀u∈sh.aD,u=1∨u<bw ps te)∧i∈fc ps i0:=by
 induction ps with
 |nil=>intro x te i0 j i τ sh h;simp[oY]at h
 |cons p ps ih=>
  intro x te i0 j i τ0 sh h
  have key:∀ {te1:Nat} {j:Nat},(oY ps (i0+1) te1)[j]?=some (i,τ0,sh)→∃te' y,i0≤i∧(∀v,(v::(br ps x.2 te1).1).getD (i-i0) .no= .box te' ⟨τ0,y,sh⟩)∧(dD ps (i0+1) te1)[j]?=some (te',i)∧(bh ps)[j]?=some τ0∧
   (∀u∈sh.aD,u=1∨u<bw ps te1)∧i∈fc ps (i0+1):=by
   intro te1 j h
   obtain⟨te',y,q1,q2,q3,q4,q5,q6⟩:=ih (x:=x.2) h
   refine⟨te',y,by omega,fun v=> ?_,q3,q4,q5,q6⟩
   rw[show i-i0=(i-(i0+1))+1 by omega,List.getD_cons_succ]
   exact q2
  cases p with
  |val τ q=>
   simp only[oY]at h
   obtain⟨te',y,q1,q2,q3,q4,q5,q6⟩:=key h
   exact⟨te',y,q1,by simp only[br,bH];exact q2 _,q3,q4,q5,q6⟩
  |rd τ=>
   simp only[oY]at h
   obtain⟨te',y,q1,q2,q3,q4,q5,q6⟩:=key h
   exact⟨te',y,q1,by simp only[br];exact q2 _,q3,q4,q5,q6⟩
  |vx e l=>
   simp only[oY]at h
   obtain⟨te',y,q1,q2,q3,q4,q5,q6⟩:=key h
   exact⟨te',y,q1,by simp only[br];exact q2 _,q3,q4,q5,q6⟩
  |io τ q=>
   simp only[oY]at h
   cases j with
   |zero=>
    simp only[List.getElem?_cons_zero,Option.some.injEq,Prod.mk.injEq]at h
    obtain⟨rfl,rfl,rfl⟩:=h
    refine⟨te,x.1,Nat.le_refl _,by simp[br],by simp[dD],by simp[bh],fun u hu=> ?_,by simp[fc]⟩
    have h2:=dH ps (aH q (te+1))
    rcases lq u hu with h|h
    ·left;simpa using h
    ·right;simp only[bw];omega
   |succ j=>
    simp only[List.getElem?_cons_succ]at h
    obtain⟨te',y,q1,q2,q3,q4,q5,q6⟩:=key h
    exact⟨te',y,q1,by simp only[br,bH];exact q2 _,by simp only[dD,List.getElem?_cons_succ];exact q3,by simp only[bh,List.getElem?_cons_succ];exact q4,q5,by simp only[fc];exact List.mem_cons_of_mem _ q6⟩
section
variable {P:Program} {C:Cx} {w0:World} {c0:C0} {U:Nat→Prop} {E:Env} {a:Act} {w:World} {G:Gh} {ops:List Oper} {L:Nat→Prop} {Q:Exit→Act→World→Prop} {ρ:Type}
theorem Cj {fn:Func} {tmps:Array Value} {vs:List Value} (h:(fn.results.toList.mapM (oG tmps)).run P w= .ok vs w):(results fn tmps).run P w= .ok (sY vs) w:=by
 have e:(fn.results.mapM (oG tmps)).run P w= .ok vs.toArray w:=by
  rw[Array.mapM_eq_mapM_toList]
  simp[h]
 have e2:results fn tmps=(do let vs←fn.results.mapM (oG tmps);pure (if h:vs.size=1 then vs[0]else .tuple vs)):=by
  unfold results
  congr 1
 rw[e2,Sem.run_bind,e]
 simp only[Result.andThen_ok,Sem.run_pure]
 congr 1
 match vs with
 | []=>rfl
 | [v]=>rfl
 |_::_::_=>simp[sY]
theorem so:∀(rs:List RK) (rest:List Ty) (x:aT (rs.map RK.ty)) (y:aT rest) (k:Nat) (hs:List Nat),(aV rs rest (aT.app _ _ x y) k hs).2.1=y
 | [],_,_,_,_,_=>rfl
 | .val _ _::rs,rest,x,y,_,hs=>so rs rest x.2 y _ hs
 | .nbox _ _::rs,rest,x,y,_,hs=>so rs rest x.2 y _ hs
theorem xQ:∀(rs:List RK) (rest:List Ty) (y:aT (rs.map RK.ty++rest)) (k:Nat) (hs:List Nat),(aV rs rest y k hs).2.2=cN rs k
 | [],_,_,_,_=>rfl
 | .val _ p::rs,rest,y,k,hs=>by simp only[aV,bH];exact xQ rs rest y.2 _ hs
 | .nbox _ p::rs,rest,y,k,hs=>by simp only[aV,bH];exact xQ rs rest y.2 _ hs
theorem xG:∀ {ps:List PK} {i:Nat},∀j∈fc ps i,i≤j∧j<i+ps.length
 | [],_,j,h=>by simp[fc]at h
 | .val _ _::ps,i,j,h| .rd _::ps,i,j,h| .vx _ _::ps,i,j,h=>by have:=xG (ps:=ps) (i:=i+1) j h;simp only[List.length_cons];omega
 | .io _ _::ps,i,j,h=>by
   simp only[fc,List.mem_cons]at h
   simp only[List.length_cons]
   rcases h with rfl|h
   ·omega
   ·have:=xG (ps:=ps) (i:=i+1) j h;omega
theorem Sa (hC:CxTy P C) {con:aF} {G0:Gh} {args:List Value} {xx:aT (con.ps.map PK.ty)} (hlot:Cu w0 G0 (br con.ps xx 3).1 args (bw con.ps 3)) (hI:Inv w0 (G0.Cl (bw con.ps 3)) U E a w G) {fn:Func} {y:aT (con.rs.map RK.ty++bh con.ps)}
 (h:fin C.tt con.ps con.rs con.kp fn.results.toList (bw con.ps 3) E=some y) (hT:∀i∈fc con.ps 0,a.tmps.getD i undef=args.getD i undef):
 ∃mv G' vs nt,(results fn a.tmps).run P w= .ok mv w∧sW con w0 G0 args y mv w G' vs nt:=by
 have h30:=dH con.ps 3
 unfold fin at h
 split at h
 ·rename_i xs rho tk hrs
  split at h
  ·rename_i ys rho' hio
   split at h
   ·rename_i hok0
    cases h
    rw[Bool.and_eq_true]at hok0
    obtain⟨hok,hkept⟩:=hok0
    obtain⟨rfl,hk1,vs,hvl,hrun,H1,hf1⟩:=DW hC hI hrs h30
    have hge1:=jy con.rs (bw con.ps 3)
    have hge2:=pE con.ps (cN con.rs (bw con.ps 3))
    obtain⟨hk2,H2,hf2⟩:=sn hI hio (by omega) (Nat.le_refl _)
    have hlk:∀c k,(c,k)∈rho++rho'→(rho++rho').lookup c=some k:=fun c k hh=>xH hok hh
    have hkk:∀c k,(c,k)∈rho++rho'→(k=qG c∧Good U G c)∨(3≤k∧3≤c):=by
     intro c k hh
     rcases List.mem_append.1 hh with hh|hh
     ·rcases hk1 c k hh with h|⟨q1,q2,q3⟩
      ·exact .inl h
      ·exact .inr ⟨by omega,q3⟩
     ·rcases hk2 c k hh with h|⟨q1,q2,q3⟩|⟨q1,q2⟩
      ·exact .inl h
      ·exact .inr ⟨by omega,q3⟩
      ·have:=dj c q2
       exact .inr ⟨by omega,this.1⟩
    let G1:Gh:=⟨fun b=>match(rho++rho').lookup (G.col b)with|some k=>k|none=>if G.col b≤2 then G.col b else 0,
     fun u=>if u<bw con.ps 3 then G.hdr u else if u<cN con.rs (bw con.ps 3)then H1 u else H2 u,fun _=>false⟩
    have hcol:∀c k,(c,k)∈rho++rho'→∀b,G.col b=c→G1.col b=k:=by
     intro c k hh b hb
     show(match(rho++rho').lookup (G.col b)with|some k=>k|none=>if G.col b≤2 then G.col b else 0)=k
     rw[hb,hlk c k hh]
    have hcs:∀b,(G.col b≤2∧G1.col b=G.col b)∨(3≤G.col b∧(G1.col b=2∨G1.col b=0∨3≤G1.col b)):=by
     intro b
     have hb0:G1.col b=(match(rho++rho').lookup (G.col b)with|some k=>k|none=>if G.col b≤2 then G.col b else 0):=rfl
     cases hq:(rho++rho').lookup (G.col b)with
     |none=>
      rw[hq]at hb0
      simp only at hb0
      by_cases h2:G.col b≤2
      ·left;rw[if_pos h2]at hb0;exact⟨h2,hb0⟩
      ·right;rw[if_neg h2]at hb0;exact⟨by omega,by omega⟩
     |some k=>
      rw[hq]at hb0
      simp only at hb0
      rcases hkk _ _ (eE hq)with⟨h1,h2⟩|⟨h1,h2⟩
      ·rw[h1]at hb0
       have h0:=h2.1
       unfold qG at hb0
       by_cases e:G.col b=1
       ·left;rw[if_pos e]at hb0;omega
       ·rw[if_neg e]at hb0
        by_cases e2:G.col b=2
        ·left;omega
        ·right;omega
      ·right;omega
    refine⟨sY vs,G1,vs,0,Cj hrun,⟨rfl,hvl,?_,?_,fun b hb hc=> ?_,fun b hb=> ?_,hI.size,hI.os,hI.tape,hI.output,fun b hb=> ?_,fun b hb=> ?_,fun q hq te i τ hbx hty bk c el c' el' hag hc0 hc1=> ?_⟩⟩
    ·refine hf1 _ ys G1 (fun c k hh=>hcol c k (List.mem_append_left _ hh)) (fun u h1 h2=> ?_)
     show(if u<bw con.ps 3 then G.hdr u else if u<cN con.rs (bw con.ps 3)then H1 u else H2 u)=H1 u
     rw[if_neg (by omega),if_pos h2]
    ·intro t i v hin
     rw[so,xQ]at hin
     have:=hf2 G1 (fun c k hh=>hcol c k (List.mem_append_right _ hh)) (fun u h1 h2=>by
      show(if u<bw con.ps 3 then G.hdr u else if u<cN con.rs (bw con.ps 3)then H1 u else H2 u)=H2 u
      rw[if_neg (by omega),if_neg (by omega)]) (fun u hu=>by
      have:=dj u hu
      show(if u<bw con.ps 3 then G.hdr u else if u<cN con.rs (bw con.ps 3)then H1 u else H2 u)=G.hdr u
      rw[if_pos this.2]) t i v hin
     rw[hT i this.2]at this
     exact this.1
    ·have hf:G.col b=G0.col b∧w.heap[b]?=w0.heap[b]?:=hI.frame b hb hc
     refine⟨?_,hf.2⟩
     rcases hcs b with h|h<;>omega
    ·refine hI.one b ?_
     rcases hcs b with h|h<;>omega
    ·refine hI.lt b ?_
     rcases hcs b with h|h<;>omega
    ·refine hI.fresh b ?_
     rcases hcs b with h|h<;>omega
    ·simp only[Q0,Bool.or_eq_true,Bool.and_eq_true,List.all_eq_true]at hkept
     rcases hkept with hkept|⟨hkp,hkept⟩
     ·rw[List.isEmpty_iff]at hkept
      rw[hkept]at hq;cases hq
     ·have hq1:=hkept q hq
      split at hq1
      ·rename_i i' τ1 sh hent
       obtain⟨te',y',g1,g2,g3,g4,g5,g6⟩:=SI (x:=xx) hent
       rw[hbx]at g3
       rw[hty]at g4
       cases g3;cases g4
       split at hq1
       ·rename_i t v u hE hu
        simp only[Bool.and_eq_true,decide_eq_true_eq,beq_iff_eq]at hq1
        obtain⟨hvτ,hq1⟩:=hq1
        have hs:=hI.slots i
        have hE':E.s.getD i .no= .box t v:=hE
        rw[hE']at hs
        obtain⟨bk2,c2,el2,k1,k2,k3,k4,k5,k6⟩:=hs
        rw[hT i g6,hag]at k1
        simp only[Value.pointer.injEq,Option.some.injEq,Addr.mk.injEq,and_true]at k1
        subst k1
        rw[hc1]at k5
        cases k5
        have r1:=nL k6 hq1
        have hs0:=hlot.slots i
        rw[Nat.sub_zero]at g2
        rw[g2]at hs0
        obtain⟨bk3,c3,el3,j1,j2,j3,j4,j5,j6⟩:=hs0
        rw[hag]at j1
        simp only[Value.pointer.injEq,Option.some.injEq,Addr.mk.injEq,and_true]at j1
        subst j1
        rw[hc0]at j5
        cases j5
        have r2:=nL j6 hu
        have hτ:v.τ.off q.2=τ.off q.2:=by rw[hvτ]
        rw[←hτ,r1.1,hτ,r2.1]
        have hlt:u<bw con.ps 3:=by
         rcases g5 u r2.2.2 with h|h
         ·have:=r2.2.1;omega
         ·exact h
        rw[(hI.hk hkp u (G0.hdr u) (by simp[Gh.Cl,hlt])).2]
       ·cases hq1
      ·cases hq1
   ·cases h
  ·cases h
 ·cases h
theorem fJ (l:List SV) (n i:Nat):(l++List.replicate n SV.no).getD i SV.no=l.getD i SV.no:=by
 rw[List.getD_eq_getElem?_getD,List.getD_eq_getElem?_getD,List.getElem?_append]
 split
 ·rfl
 ·rename_i h
  rw[List.getElem?_replicate,List.getElem?_eq_none (by omega)]
  split<;>rfl
theorem CO {ps:List PK} {x:aT (ps.map PK.ty)} {args:List Value} (h:Cu w G (br ps x 3).1 args (bw ps 3)) (n:Nat):
 Inv w (G.Cl (bw ps 3)) (fun u=>u<bw ps 3) ⟨(br ps x 3).1++List.replicate (n-(br ps x 3).1.length) .no,(br ps x 3).2,true⟩ {tmps:=args.toArray++Array.replicate (n-args.toArray.size) undef,defers:=[]} w G:=by
 have hlen:=h.len
 have hta:∀i,i<args.length→(args.toArray++Array.replicate (n-args.toArray.size) undef).getD i undef=args.getD i undef:=by
  intro i hi
  rw[Array.getD_eq_getD_getElem?,List.getD_eq_getElem?_getD,Array.getElem?_append_left (by simpa using hi)]
  simp
 have h30:=dH ps 3
 refine⟨by simp[hlen],fun s=> ?_,fun s=> ?_,fun s=> ?_,fun s=> ?_,fun s s' t v v' h1 h2=> ?_,fun b hb=>(h.colU b hb).1,fun b hb=>(h.colU b hb).2,h.fresh,fun b _ _=>⟨rfl,rfl⟩,fun b hb=>⟨(h.colU b (by omega)).2,hb⟩,Nat.le_refl _,rfl,rfl,rfl,rfl,⟨by show 2<bw ps 3;omega,h.two⟩,fun _ t v ht=> ?_⟩
 rotate_right
 ·simp only[Gh.Cl]at ht
  split at ht
  ·rename_i hlt;cases ht;exact⟨hlt,rfl⟩
  ·cases ht
 ·simp only[fJ]
  by_cases hs:s<args.length
  ·have:=h.slots s
   rw[←hta s hs]at this
   exact this
  ·rw[List.getD_eq_getElem?_getD,List.getElem?_eq_none (by omega)];trivial
 ·simp only[fJ];exact(h.kV s).1
 ·simp only[fJ];exact(h.kV s).2.1
 ·simp only[fJ];exact(h.kV s).2.2
 ·simp only[fJ]at h1 h2
  exact h.uni s s' t v v' h1 h2
theorem CR {ps:List PK}:∀ {x:aT (ps.map PK.ty)} {tk:Nat},qf (br ps x tk).1:=by
 induction ps with
 |nil=>intro x tk s j w act v h;simp[br]at h
 |cons p ps ih=>
  intro x tk s j w act v h
  cases p with
  |val τ q=>
   simp only[br]at h
   cases s with
   |zero=>simp at h
   |succ s=>simp only[List.getD_cons_succ]at h;exact ih _ _ _ _ _ h
  |io τ q=>
   simp only[br]at h
   cases s with
   |zero=>simp at h
   |succ s=>simp only[List.getD_cons_succ]at h;exact ih _ _ _ _ _ h
  |rd τ=>
   simp only[br]at h
   cases s with
   |zero=>simp at h
   |succ s=>simp only[List.getD_cons_succ]at h;exact ih _ _ _ _ _ h
  |vx e l=>
   simp only[br]at h
   cases s with
   |zero=>simp at h
   |succ s=>simp only[List.getD_cons_succ]at h;exact ih _ _ _ _ _ h
theorem UW (hC:lx P C) {f:FuncId} {fn:Func} {con:aF} (hf:P.funcs[f]?=some fn) (hname:(fn.name== "runtime.NumGoroutine")=false) (hn:con.ps.length≤fn.ntmps)
 (hF:∀x y,con.F x=some y→PW C con.ps con.rs con.kp fn x=some y):oq P f con:=by
 intro w G0 args x y hy hlot
 have hev:=hF x y hy
 unfold PW at hev
 split at hev
 ·cases hev
 ·rename_i c hb
  have hrun:(callFunc f args.toArray).run P w= .ok (.enter f args.toArray) w:=by
   have hne:fn.name≠ "runtime.NumGoroutine" :=by simpa using hname
   unfold callFunc
   simp[hf,hne,hb]
  unfold nu
  rw[hrun]
  simp only
  refine calls_of_wp hf hb ?_
  have hal:args.length=con.ps.length:=by rw[hlot.len,hZ]
  have hE:=CO hlot fn.ntmps
  have h30:=dH con.ps 3
  have hkey:FM {C with n:=fn.ntmps,io:=fc con.ps 0} w (G0.Cl (bw con.ps 3)) (fun i=>args.getD i undef) y (fin C.tt con.ps con.rs con.kp fn.results.toList (br con.ps x 3).2) (fun a' w'=>
   a'.defers=[]∧∃v,(results fn a'.tmps).run P w'= .ok v w'∧∃v',Ending.returned v=Ending.returned v'∧∃G' vs nt,sW con w G0 args y v' w' G' vs nt):=by
   intro E' a' w' G' g1 g2 g3 g4 gT g5
   rw[gw]at g5
   obtain⟨mv,G2,vs,nt,k1,k2⟩:=Sa hC.toCxTy (args:=args) hlot g1 g5 gT
   exact⟨g1.defers,mv,k1,mv,rfl,G2,vs,nt,k2⟩
  have hC2:lx P {C with n:=fn.ntmps,io:=fc con.ps 0}:=⟨⟨hC.tt,hC.eq,hC.fs,hC.u8⟩,hC.ct,hC.mixed⟩
  refine US (T:=fun i=>args.getD i undef) hC2 c (w0:=w) (c0:=G0.Cl (bw con.ps 3)) (G:=G0) (r:=y) (by rw[gw];simpa[gw]using hE) (fun s j w1 act v h=> ?_) ?_ ?_ (fun i hi=> ?_) hev hkey (fun id k hk=>by simp[List.lookup]at hk) hkey
  ·rw[fJ]at h;exact CR _ _ _ _ _ h
  ·simp only[List.length_append,List.length_replicate,hZ];omega
  ·rw[gw];exact h30
  ·have:=xG i hi
   rw[Array.getD_eq_getD_getElem?,Array.getElem?_append_left (by simp;omega),List.getD_eq_getElem?_getD]
   simp
end
end Vg
namespace Vg
open Go
def Fits:(τ:Ty)→τ.den→Prop
 | .int k,n=>(Lit.int k n).wf=true
 | .bool,_=>True
 | .str,s=>s.size≤maxLen
 | .sl e,l=>l.length≤maxLen∧∀x∈l,Fits e x
 | .pair a b,p=>Fits a p.1∧Fits b p.2
def ph (P:Program) (chk:Ty→TypeId→Bool):Ty→List Field→Nat→Bool
 |τ,[f],off=>f.offset==off&&P.cellsOf f.type==τ.sz&&chk τ f.type
 | .pair a b,f::g::l,off=>f.offset==off&&P.cellsOf f.type==a.sz&&chk a f.type&&ph P chk b (g::l) (off+a.sz)
 |_,_,_=>false
def rH (P:Program):Nat→Ty→TypeId→Bool
 |0,_,_=>false
 |n+1,τ,t=>
  match P.underlying t with
  |some (.int k)=>τ== .int k
  |some .bool=>τ== .bool
  |some .string=>τ== .str
  |some (.slice e)=>(match τ with| .sl τe=>P.cellsOf e==τe.sz&&rH P n τe e|_=>false)
  |some (.struct fs)=>τ.bJ&&P.cellsOf t==τ.sz&&ph P (rH P n) τ fs.toList 0
  |_=>false
section
variable {H:Type} {enc:TypeId×Value→H} {P:Program} {w:World} {held:Bool}
theorem cells?_some {a:Addr} {n:Nat} {cs:List Value} (h:w.cells? 0 a n=some cs):cs.length=n∧∀i,i<n→w.cell? (a.add i)=cs[i]?:=by
 unfold World.cells? at h
 rw[if_pos (Nat.zero_le _)]at h
 refine⟨by simpa using mapM_some_length h,fun i hi=> ?_⟩
 exact mapM_some_get h i i (by simp[hi])
theorem Sv {a:Addr} {v:Value} (h:w.cell? a=some v):∃c el fz,w.heap[a.block]?=some (.cells c el fz)∧a.spot=none∧c[a.off]?=some v:=by
 unfold World.cell? at h
 split at h
 ·rename_i c el fz hb
  split at h
  ·cases h
  ·rename_i hs
   exact⟨c,el,fz,hb,by simpa using hs,h⟩
 ·cases h
theorem Fz {b off:Nat} {c:Array Value} {el:TypeId} {fz:Nat×Nat} (hb:w.heap[b]?=some (.cells c el fz)) {n:Nat} {cs:List Value} (h:w.cells? 0 ⟨b,off,none⟩ n=some cs):cs=(c.toList.drop off).take n∧(0<n→off+n≤c.size):=by
 obtain⟨hl,hc⟩:=cells?_some h
 have hget:∀i,i<n→c[off+i]?=cs[i]?:=by
  intro i hi
  have:=hc i hi
  unfold World.cell? at this
  have hadd:(Addr.add ⟨b,off,none⟩ i)=⟨b,off+i,none⟩:=by
   unfold Addr.add
   split
   ·rename_i h;subst h;rfl
   ·rfl
  rw[hadd]at this
  simp only[hb,Option.isSome_none,Bool.false_eq_true,if_false]at this
  exact this
 refine⟨List.ext_getElem? (fun i=> ?_),fun hn=> ?_⟩
 ·rw[List.getElem?_take]
  split
  ·rename_i hi
   rw[List.getElem?_drop,←hget i hi,Array.getElem?_toList]
  ·rename_i hi
   exact List.getElem?_eq_none (by omega)
 ·have:=hget (n-1) (by omega)
  rw[List.getElem?_eq_getElem (by omega)]at this
  have:=(Array.getElem?_eq_some_iff.1 this).1
  omega
theorem FI {chk:Ty→TypeId→Bool} {cs:List Value}
 (hchk:∀ {τ:Ty} {t:TypeId} {fuel:Nat} {c:List Value} {x:DataW H×List MemPlace},chk τ t=true→DataW.trod enc P w 0 (fun _=>true) held fuel t c=some x→∃y B,aR w τ y c B∧Fits τ y):
 ∀ {fs:List Field} {τ:Ty} {off:Nat},ph P chk τ fs off=true→cs.length=off+τ.sz→
 (∀f∈fs,∃fuel x,DataW.trod enc P w 0 (fun _=>true) held fuel f.type ((cs.drop f.offset).take (P.cellsOf f.type))=some x)→∃y B,aR w τ y (cs.drop off) B∧Fits τ y
 | [],τ,off,h,_,_=>by cases τ<;>simp[ph]at h
 | [f],τ,off,h,hl,ht=>by
   have h:(f.offset==off&&P.cellsOf f.type==τ.sz&&chk τ f.type)=true:=by
    cases τ<;>exact h
   simp only[Bool.and_eq_true,beq_iff_eq]at h
   obtain⟨⟨h1,h2⟩,h3⟩:=h
   obtain⟨fuel,x,hx⟩:=ht f (by simp)
   rw[h1,h2,List.take_of_length_le (by simp;omega)]at hx
   exact hchk h3 hx
 |f::g::l,τ,off,h,hl,ht=>by
  cases τ with
  |pair a b=>
   simp only[ph,Bool.and_eq_true,beq_iff_eq]at h
   obtain⟨⟨⟨h1,h2⟩,h3⟩,h4⟩:=h
   simp only[Ty.sz]at hl
   obtain⟨fuel,x,hx⟩:=ht f (by simp)
   rw[h1,h2]at hx
   obtain⟨y1,B1,r1,f1⟩:=hchk h3 hx
   obtain⟨y2,B2,r2,f2⟩:=FI hchk h4 (by omega) (fun q hq=>ht q (by simp only[List.mem_cons]at hq⊢;exact .inr hq))
   refine⟨(y1,y2),B1++B2,⟨_,_,B1,B2,?_,rfl,r1,r2⟩,f1,f2⟩
   rw[←List.drop_drop,List.take_append_drop]
  |_=>simp[ph]at h
theorem Km {τe:Ty} {e:TypeId} {n:Nat} (hsz:P.cellsOf e=τe.sz) {b:Nat} {c:Array Value} {el:TypeId} {fz:Nat×Nat} (hb:w.heap[b]?=some (.cells c el fz))
 (hchk:∀ {c:List Value} {x:DataW H×List MemPlace},DataW.trod enc P w 0 (fun _=>true) held n e c=some x→∃y B,aR w τe y c B∧Fits τe y):
 ∀(len:Nat) {off:Nat} {elems:List (DataW H×List MemPlace)},elems.length=len→
 (∀i,i<len→(w.cells? 0 (Addr.add ⟨b,off,none⟩ (i*P.cellsOf e)) (P.cellsOf e)).bind (DataW.trod enc P w 0 (fun _=>true) held n e)=elems[i]?)→
 ∃(l:List τe.den) (Bs:List Nat),l.length=len∧bg (aR w τe) l ((c.toList.drop off).take (len*τe.sz)) Bs∧∀x∈l,Fits τe x
 |0,off,elems,_,_=>⟨[],[],rfl,by simp[bg],by simp⟩
 |len+1,off,elems,hlen,hel=>by
  have h0:=hel 0 (by omega)
  rw[List.getElem?_eq_getElem (by omega),Option.bind_eq_some_iff]at h0
  obtain⟨cs,hcs,hx⟩:=h0
  simp only[Nat.zero_mul,Addr.add,if_true]at hcs
  obtain⟨e1,_⟩:=Fz hb hcs
  obtain⟨y,B,hr,hf⟩:=hchk hx
  have hadd:∀i,Addr.add ⟨b,off,none⟩ ((i+1)*P.cellsOf e)=Addr.add ⟨b,off+τe.sz,none⟩ (i*P.cellsOf e):=by
   intro i
   have:=τe.kG
   unfold Addr.add
   rw[hsz]
   rw[if_neg (by simp only[Nat.add_mul];omega)]
   split
   ·rename_i h;simp only[Nat.add_mul,h];simp
   ·simp only[Nat.add_mul,Addr.mk.injEq,and_true,true_and];omega
  obtain⟨l,Bs,h1,h2,h3⟩:=Km hsz hb hchk len (off:=off+τe.sz) (elems:=elems.tail) (by simp[hlen]) (fun i hi=>by
   rw[←hadd,hel (i+1) (by omega)]
   cases elems with
   |nil=>simp at hlen
   |cons z zs=>rfl)
  refine⟨y::l,B++Bs,by simp[h1],⟨cs,_,B,Bs,?_,rfl,hr,h2⟩,by simpa using⟨hf,h3⟩⟩
  rw[e1,hsz,Nat.add_mul,Nat.one_mul,Nat.add_comm (len*τe.sz),List.take_add,List.drop_drop]
theorem N9:∀(n:Nat) {τ:Ty} {t:TypeId} {fuel:Nat} {cs:List Value} {x:DataW H×List MemPlace},rH P n τ t=true→DataW.trod enc P w 0 (fun _=>true) held fuel t cs=some x→∃y B,aR w τ y cs B∧Fits τ y:=by
 intro n
 induction n with
 |zero=>intro τ t fuel cs x h;simp[rH]at h
 |succ n ih=>
  intro τ t fuel cs x h ht
  simp only[rH]at h
  split at h
  ·rename_i k hu
   simp only[beq_iff_eq]at h
   subst h
   obtain⟨m,rfl,_,hw⟩:=DataW.trod_int hu ht
   exact⟨m,[],⟨rfl,rfl⟩,hw⟩
  ·rename_i hu
   simp only[beq_iff_eq]at h
   subst h
   obtain⟨b,rfl,_⟩:=DataW.trod_bool hu ht
   exact⟨b,[],⟨rfl,rfl⟩,trivial⟩
  ·rename_i hu
   simp only[beq_iff_eq]at h
   subst h
   obtain⟨s,rfl,_,hs⟩:=DataW.trod_string hu ht
   exact⟨s,[],⟨rfl,rfl⟩,hs⟩
  ·rename_i e hu
   split at h
   ·rename_i τe
    simp only[Bool.and_eq_true,beq_iff_eq]at h
    obtain⟨hsz,hd⟩:=h
    rcases DataW.trod_slice hu ht with⟨rfl,_⟩|⟨a,len,cap,elems,rest,m,_,rfl,_,_,hlc,hcm,hlen,hel,hsp,_⟩
    ·exact⟨[],[],⟨_,rfl,.inl ⟨⟨_,rfl⟩,rfl,rfl⟩⟩,by simp[Fits]⟩
    ·by_cases hcap:cap=0
     ·subst hcap
      have:len=0:=by omega
      subst this
      exact⟨[],[],⟨_,rfl,.inl ⟨⟨_,rfl⟩,rfl,rfl⟩⟩,by simp[Fits]⟩
     ·obtain⟨hrl,hrest⟩:=hsp rfl
      have hall:∀i,i<cap→∃cs,w.cells? 0 (a.add (i*P.cellsOf e)) (P.cellsOf e)=some cs:=by
       intro i hi
       by_cases hil:i<len
       ·have:=hel i hil
        rw[List.getElem?_eq_getElem (by omega),Option.bind_eq_some_iff]at this
        obtain⟨cs,h1,_⟩:=this
        exact⟨cs,h1⟩
       ·have:=hrest (i-len) (by omega)
        rw[List.getElem?_eq_getElem (by omega),Option.bind_eq_some_iff]at this
        obtain⟨cs,h1,_⟩:=this
        rw[show len+(i-len)=i by omega]at h1
        exact⟨cs,h1⟩
      have hpos:=τe.kG
      obtain⟨cs0,h0⟩:=hall 0 (by omega)
      obtain⟨hl0,hc0⟩:=cells?_some h0
      have hc00:=hc0 0 (by omega)
      rw[List.getElem?_eq_getElem (by omega)]at hc00
      have haa:(a.add (0*P.cellsOf e)).add 0=a:=by simp[Addr.add]
      rw[haa]at hc00
      obtain⟨c,el,fz,hb,hspot,_⟩:=Sv hc00
      obtain⟨b,off,spot⟩:=a
      simp only at hb hspot
      subst hspot
      obtain⟨l,Bs,h1,h2,h3⟩:=Km (held:=held) (enc:=enc) hsz hb (fun hx=>ih hd hx) len hlen hel
      obtain⟨csl,hcl⟩:=hall (cap-1) (by omega)
      have hadd:Addr.add ⟨b,off,none⟩ ((cap-1)*P.cellsOf e)=⟨b,off+(cap-1)*P.cellsOf e,none⟩:=by
       unfold Addr.add
       split
       ·rename_i h;rw[h];rfl
       ·rfl
      rw[hadd]at hcl
      have hsize:=(Fz hb hcl).2 (by omega)
      rw[hsz]at hsize
      have hmul:(cap-1)*τe.sz+τe.sz=cap*τe.sz:=by
       have:cap=cap-1+1:=by omega
       conv=>rhs;rw[this,Nat.add_mul,Nat.one_mul]
      refine⟨l,b::Bs,⟨_,rfl,.inr ⟨b,off,cap,c,el,fz,Bs,by rw[h1],by omega,hb,by omega,rfl,by rw[h1];exact h2⟩⟩,by omega,h3⟩
   ·cases h
  ·rename_i fs hu
   simp only[Bool.and_eq_true,beq_iff_eq]at h
   obtain⟨⟨hp,hsz⟩,hfo⟩:=h
   obtain⟨xs,m,_,_,hl,hxl,hxs⟩:=DataW.trod_struct hu ht
   have:=FI (held:=held) (enc:=enc) (cs:=cs) (fun h hx=>ih h hx) hfo (by rw[hl,hsz];omega) (fun f hf=>by
    obtain⟨i,hi,rfl⟩:=List.mem_iff_getElem.1 hf
    have hi':i<fs.size:=by simpa using hi
    have:=hxs i fs[i] (by simp[hi'])
    rw[List.getElem?_eq_getElem (by omega)]at this
    exact⟨m,_,by simpa using this⟩)
   simpa using this
  ·cases h
end
end Vg
namespace Vg
open Go Go.ChangeShapes Go.WideShapes Go.ChangeAt Go.RowKit
abbrev mh (τs:List Ty):List PK:=τs.map fun τ=> .val τ (jo τ)
def HK:(τs:List Ty)→aT ((mh τs).map PK.ty)→Prop
 | [],_=>True
 |τ::τs,x=>Fits τ x.1∧HK τs x.2
def vD (P:Program) (n:Nat):List Ty→List TypeId→Bool
 | [],[]=>true
 |τ::τs,t::ts=>rH P n τ t&&vD P n τs ts
 |_,_=>false
section
variable {H:Type} {enc:TypeId×Value→H} {P:Program} {w:World} {G:Gh}
theorem SX {n:Nat} {τ:Ty} {t:TypeId} {v:Value} {r:Reach} {b0:Nat} (h:rH P n τ t=true) (hval:Value.okWide P w r b0 t v):v=bT τ v.cells.toList:=by
 cases n with
 |zero=>simp[rH]at h
 |succ n=>
  simp only[rH]at h
  split at h
  ·rename_i k hu
   simp only[beq_iff_eq]at h
   subst h
   obtain⟨m,rfl⟩:=okWide_int hu hval
   rfl
  ·rename_i hu
   simp only[beq_iff_eq]at h
   subst h
   obtain⟨b,rfl⟩:=okWide_bool hu hval
   rfl
  ·rename_i hu
   simp only[beq_iff_eq]at h
   subst h
   obtain⟨s,rfl⟩:=okWide_string hu hval
   rfl
  ·rename_i e hu
   split at h
   ·obtain⟨a,len,cap,rfl⟩:=okWide_slice hu hval
    rfl
   ·cases h
  ·rename_i fs hu
   simp only[Bool.and_eq_true]at h
   obtain⟨cs,rfl,_⟩:=okWide_struct hu hval
   cases τ with
   |pair a b=>simp[bT,Value.cells]
   |_=>simp[Ty.bJ]at h
  ·cases h
theorem NL (hG:∀b,b<w.heap.size→G.col b=1) {n:Nat} {r:Reach} {b0:Nat}:∀ {τs:List Ty} {ts:List TypeId} {args:List Value} {ds:List (DataW H)} {p:List MemPlace},
 vD P n τs ts=true→DataW.TrodAll enc P w 0 (fun _=>true) true ts args ds p→(∀(j:Nat) t v,ts[j]?=some t→args[j]?=some v→Value.okWide P w r b0 t v)→
 ∃x:aT ((mh τs).map PK.ty),HK τs x∧args.length=τs.length∧ds.length=τs.length∧∀tk i,bI w G ((br (mh τs) x tk).1.getD i .no) (args.getD i undef)
 | [],[],args,ds,p,_,ht,_=>by
   obtain⟨rfl,rfl,rfl⟩:=trodAll_nil ht
   exact⟨(),trivial,rfl,rfl,fun tk i=>trivial⟩
 |τ::τs,t::ts,args,ds,p,hd,ht,hv=>by
  simp only[vD,Bool.and_eq_true]at hd
  obtain⟨v,vs,d,ds',p',q,rfl,rfl,rfl,h1,h2⟩:=trodAll_cons ht
  obtain⟨x,hx,hl,hl2,hs⟩:=NL hG hd.2 h2 (fun j t v ht hv'=>hv (j+1) t v (by simpa using ht) (by simpa using hv'))
  obtain⟨fuel,hf⟩:=h1
  obtain⟨y,B,hr,hfit⟩:=N9 n hd.1 hf
  refine⟨(y,x),⟨hfit,hx⟩,by simp[hl],by simp[hl2],fun tk i=> ?_⟩
  have hok:=SX hd.1 (hv 0 t v rfl rfl)
  cases i with
  |zero=>
   show bI w G (.d ⟨τ,y,(aP (jo τ) tk [1]).1⟩) v
   rw[kh]
   exact⟨_,hok,aW.Ap hr (fun b hb=>by simp[hG b (hr.bounds b hb)]) (by simp)⟩
  |succ i=>
   show bI w G ((br (mh τs) x (aP (jo τ) tk [1]).2).1.getD i .no) (vs.getD i undef)
   exact hs _ i
 | [],_::_,_,_,_,h,_,_|_::_,[],_,_,_,h,_,_=>by simp[vD]at h
end
end Vg
namespace Vg
open Go Go.ChangeShapes Go.WideShapes Go.ChangeAt Go.RowKit
theorem Ao:∀(τs:List Ty) (tk:Nat),bw (mh τs) tk=tk
 | [],_=>rfl
 |τ::τs,tk=>by
  show bw (mh τs) (aH (jo τ) tk)=tk
  have:aH (jo τ) tk=tk:=by
   rw[←bH (jo τ) tk [1],kh]
  rw[this,Ao τs]
theorem NV:∀τs:List Ty,GB (mh τs)=[]
 | []=>rfl
 |τ::τs=>NV τs
theorem Aj:∀(τs:List Ty) (tk:Nat),bR (mh τs) tk=[]
 | [],_=>rfl
 |_::τs,_=>Aj τs _
section
variable {H:Type} {enc:TypeId×Value→H} {P:Program}
theorem Rn {f:Func} {s:ChangeSpec} {W W':World} {args:Array Value} {v:Value} {ds gs:List (DataW H)} {before:List MemPlace}
 (hW:DataW.Whole enc P f.params.toList s.vars false W args.toList ds gs before)
 (hres:∀(b:Nat) (sp:Nat→Bool) (hd:Bool),DataW.TrodAll enc P W' b sp hd f.resultTypes.toList (v.resultList f.resultTypes.size) (s.fn H (ds++gs)).results [])
 (hargs:∀sp:Nat→Bool,(∀p∈before,sp p.block=true)→DataW.TrodAll enc P W' 0 sp true f.params.toList args.toList (s.fn H (ds++gs)).args before)
 (hvars:s.vars=[]) (hleft:(s.fn H (ds++gs)).vars=[]) (hk:W.keptBut W' (·∈before)) (hh:∀b,b<W.heap.size→W'.heap[b]?=W.heap[b]?)
 (hok:∀(j:Nat) (t:TypeId) (r:Value),f.resultTypes[j]?=some t→(v.resultList f.resultTypes.size)[j]?=some r→Value.okWide P W' .any 0 t r):
 s.post enc P f false true false false W args v W':=by
 have hold:∀p∈before,(fun b=>decide (b<W.heap.size)) p.block=true:=fun p hp=>by simpa using hW.lt p hp
 have hv:∀sp,DataW.TrodVars enc P W' sp s.vars (s.fn H (ds++gs)).vars []:=fun sp=>by rw[hvars,hleft];exact rfl
 refine⟨ds,gs,before,[],before,[],hW,hres _ _ _,hargs _ hold,hv _,World.keptBut_mono (fun p hp=>⟨hp,?_⟩) hk,fun _=> ?_⟩
 ·exact Or.inr (by simpa using hp)
 ·have hlt:=hW.lt
  obtain⟨_,_,_,_,_,hz,_⟩:=hW
  refine⟨hok,_,_,([]++before)++[],⟨[]++before,[],trodAll_append (hargs _ (fun _ _=>rfl)) (hres _ _ _),hv _,rfl,?_,?_⟩,?_⟩
  ·intro b off hp
   have hp':MemPlace.cell b off∈before:=by simpa using hp
   have:=hz b off hp'
   have hb:=hlt _ hp'
   unfold World.frozen? at this⊢
   rw[hh b hb]
   exact this
  ·intro ha;cases ha
  ·intro p hp _
   simpa using hp
theorem zc (hl:laidOutB P=true) {W W':World} {sp:Nat→Bool}:∀ {ts:List TypeId} {vs:List Value} {ds:List (DataW H)} {p:List MemPlace},
 (∀t∈ts,P.readableRec t=true∧t<P.types.size)→DataW.TrodAll enc P W 0 (fun _=>true) true ts vs ds p→(∀x∈p,W.sameAt W' x)→(∀x∈p,sp x.block=true)→DataW.TrodAll enc P W' 0 sp true ts vs ds p
 | [],vs,ds,p,_,h,_,_=>by
   obtain⟨rfl,rfl,rfl⟩:=trodAll_nil h
   exact rfl
 |t::ts,vs,ds,p,hr,h,h1,h2=>by
  obtain⟨v,vs,d,ds',p',q,rfl,rfl,rfl,k1,k2⟩:=trodAll_cons h
  exact trodAll_cons_mk (WideElems.Trod_stays hl (hr t (by simp)).1 (hr t (by simp)).2 k1 (fun x hx=>h1 x (by simp[hx])) (fun x hx=>h2 x (by simp[hx])))
   (zc hl (fun t ht=>hr t (by simp[ht])) k2 (fun x hx=>h1 x (by simp[hx])) (fun x hx=>h2 x (by simp[hx])))
theorem OV {f:FuncId} {fn:Func} {con:aF} (hm:oq P f con) (hf:P.funcs[f]?=some fn) (hname:(fn.name== "runtime.NumGoroutine")=false) (hb:fn.body.isSome=true)
 {W:World} {G0:Gh} {args:List Value} {x:aT (con.ps.map PK.ty)} {y:aT (con.rs.map RK.ty++bh con.ps)} (hF:con.F x=some y) (hlot:Cu W G0 (br con.ps x 3).1 args (bw con.ps 3)):
 Calls P f args.toArray W (fun e w'=>∃v,e= .returned v∧∃G' vs nt,sW con W G0 args y v w' G' vs nt):=by
 have:=hm W G0 args x y hF hlot
 obtain⟨c,hc⟩:=Option.isSome_iff_exists.1 hb
 have hrun:(callFunc f args.toArray).run P W= .ok (.enter f args.toArray) W:=by
  have hne:fn.name≠ "runtime.NumGoroutine" :=by simpa using hname
  unfold callFunc
  simp[hf,hne,hc]
 unfold nu at this
 rw[hrun]at this
 exact this
theorem NG {f:FuncId} {fn:Func} {τs:List Ty} {F:aT ((mh τs).map PK.ty)→Option (aT ([RK.val .bool .leaf].map RK.ty++bh (mh τs)))} {spec:ChangeSpec} {tb:TypeId} {n:Nat}
 (hm:oq P f ⟨mh τs,[.val .bool .leaf],F,[]⟩) (hf:P.funcs[f]?=some fn) (hname:(fn.name== "runtime.NumGoroutine")=false) (hb:fn.body.isSome=true)
 (hd:vD P n τs fn.params.toList=true) (hres:fn.resultTypes= #[tb]) (hub:P.underlying tb=some .bool) (hl:laidOutB P=true)
 (hr:fn.params.toList.all (fun t=>P.readableRec t&&decide (t<P.types.size))=true) (hvars:spec.vars=[])
 (hspec:∀ds:List (DataW H),ds.length=τs.length→spec.fn H ds={results:=[.lit (.bool true)],args:=ds})
 (hF:∀x,HK τs x→∃y,F x=some y∧y.1=true)
 (W:World) (base:Nat) (args:Array Value) (ds gs:List (DataW H)) (before:List MemPlace)
 (hval:∀(j:Nat) t v,fn.params[j]?=some t→args[j]?=some v→Value.okWide P W .any base t v)
 (hW:DataW.Whole enc P fn.params.toList spec.vars false W args.toList ds gs before):
 Calls P f args W fun e W'=>∃v,e= .returned v∧spec.post enc P fn false true false false W args v W':=by
 have hW':=hW
 have hlt:=hW.lt
 obtain⟨p,q,hA,hV,rfl,hfz,hnd⟩:=hW
 rw[hvars]at hV
 obtain⟨rfl,rfl⟩:=trodVars_none hV
 have hA':DataW.TrodAll enc P W 0 (fun _=>true) true fn.params.toList args.toList ds p:=hA
 let G0:Gh:=⟨fun b=>if b<W.heap.size then 1 else 0,fun _=>undef,fun _=>false⟩
 obtain⟨x,hfit,hlen,hdl,hs⟩:=NL (G:=G0) (fun b hb=>if_pos hb) hd hA' (fun j t v h1 h2=>hval j t v (by simpa using h1) (by simpa using h2))
 obtain⟨y,hy,hy1⟩:=hF x hfit
 have hlot:Cu W G0 (br (mh τs) x 3).1 args.toList (bw (mh τs) 3):=by
  rw[Ao]
  refine⟨by rw[hZ,hlen];simp,fun i=>hs 3 i,fun i=> ?_,fun i j t v v' h h'=>nI h h',fun b hb=> ?_,fun b hb=> ?_,rfl,fun b=> ?_⟩
  ·by_cases hi:i<(br (mh τs) x 3).1.length
   ·have hmem:(br (mh τs) x 3).1.getD i .no∈(br (mh τs) x 3).1:=by
     rw[List.getD_eq_getElem?_getD,List.getElem?_eq_getElem hi];simp
    obtain⟨h1,h2,h3⟩:=fN _ hmem
    rw[Ao]at h1
    have hbt:=Aj τs 3
    refine⟨fun c hc=> ?_,fun c hc=> ?_,by rw[h3];simp⟩
    ·rcases h1 c hc with rfl|⟨q1,q2,q3⟩|h
     ·exact⟨by omega,by omega,rfl⟩
     ·omega
     ·rw[NV]at h;cases h
    ·have:=h2 c hc
     rw[hbt]at this
     cases this
   ·rw[List.getD_eq_getElem?_getD,List.getElem?_eq_none (by omega)]
    simp[aX,SV.sc,SV.bt,SV.rt]
  ·simp only[G0]at hb⊢
   split at hb
   ·rename_i h;exact⟨by rw[if_pos h];omega,h⟩
   ·omega
  ·simp only[G0]at hb
   split at hb<;>omega
  ·simp only[G0]
   split<;>omega
 have hcall:=OV hm hf hname hb hy hlot
 simp only[Array.toArray_toList]at hcall
 refine hcall.mono fun e W' ⟨v,he,G',vs,nt,hp⟩=>⟨v,he,?_⟩
 have hlen1:=hp.len
 simp only[List.length_singleton]at hlen1
 obtain⟨u,rfl⟩:=List.length_eq_one_iff.1 hlen1
 have hv:v= .bool true:=by
  rw[hp.val]
  obtain⟨cs,h1,h2⟩:=hp.res 0
  have h2':cs=[.bool y.1]:=h2
  rw[hy1]at h2'
  subst h2'
  exact h1
 subst hv
 have hh:∀b,b<W.heap.size→W'.heap[b]?=W.heap[b]?:=fun b hb=>(hp.frame b hb (by simp only[G0];split<;>omega)).2
 have hsame:∀z∈p,W.sameAt W' z:=by
  intro z hz
  have hzb:=hlt z (by simpa using hz)
  cases z with
  |cell b off=>
   show W'.cell? ⟨b,off,none⟩=W.cell? ⟨b,off,none⟩
   unfold World.cell?
   simp only
   rw[hh b hzb]
  |map b=>exact hh b hzb
 have hkb:W.keptBut W' (·∈p++[]):=by
  refine⟨hp.os,hp.output,fun i hi=> ?_⟩
  rw[hh i hi]
  cases W.heap[i]? with
  |none=>rfl
  |some ob=>cases ob<;>simp
 have hsp:=hspec (ds++[]) (by simpa using hdl)
 refine Rn hW' (fun b sp hd=> ?_) (fun sp hsp'=> ?_) hvars (by rw[hsp]) hkb hh (ok_one hres rfl (okWide_bool_mk hub _))
 ·rw[hsp,hres]
  exact trodAll_cons_mk (shut_bool hub _) trodAll_mk0
 ·rw[hsp,List.append_nil,List.append_nil]
  exact zc hl (fun t ht=>by
   have:=List.all_eq_true.1 hr t ht
   simpa using this) hA' hsame (fun z hz=>hsp' z (by simpa using hz))
end
end Vg
namespace Vg
open Go
structure dE where
 τ:Ty
 F:τ.den→Int→Option (Int×τ.den)
structure qN where
 t:Nat
 e:Ty
 l:List e.den
def mw:Sh→Option (List Nat)
 | .leaf=>some []
 | .sl (.row t hs nd)=>if nd&&hs.all (·==t)then some [t]else none
 | .sl (.sha [])=>some []
 | .sl _=>none
 | .pair a b=>match mw a,mw b with
   |some x,some y=>if x.all (!y.contains ·)then some (x++y)else none
   |_,_=>none
def rowsOf:(τ:Ty)→τ.den→Sh→List qN
 | .sl e,l,.sl (.row t _ _)=>[⟨t,e,l⟩]
 | .pair a b,x,.pair s1 s2=>rowsOf a x.1 s1++rowsOf b x.2 s2
 |_,_,_=>[]
def gO (L:List qN):(τ:Ty)→τ.den→Sh→τ.den×Sh
 | .sl e',l,.sl (.row u hs nd)=>match L.find? (·.t==u)with
   |some p=>if h:p.e=e' then(cast (congrArg (fun τ=>List (Ty.den τ)) h) p.l,.sl (.row u [u] true))else(l,.sl .dead)
   |none=>match meets hs (L.map (·.t))with|true=>(l,.sl .dead)|false=>(l,.sl (.row u hs nd))
 | .sl _,l,.sl (.sha hs)=>match meets hs (L.map (·.t))with|true=>(l,.sl .dead)|false=>(l,.sl (.sha hs))
 | .pair a b,x,.pair s1 s2=>(((gO L a x.1 s1).1,(gO L b x.2 s2).1),.pair (gO L a x.1 s1).2 (gO L b x.2 s2).2)
 |_,x,sh=>(x,sh)
def TV.mark (L:List qN) (v:TV):TV:=⟨v.τ,(gO L v.τ v.x v.sh).1,(gO L v.τ v.x v.sh).2⟩
def SV.mark (L:List qN):SV→SV
 | .d v=> .d (v.mark L)
 | .box b v=> .box b (v.mark L)
 | .tup l=> .tup (l.map (TV.mark L))
 | .g _ _ _ _=> .no
 | .rdp _ _=> .no
 |v=>v
def Env.mark (E:Env) (L:List qN):Env:={E with s:=E.s.map (SV.mark L)}
section
variable {P:Program} {C:Cx} {w0:World} {c0:C0} {U:Nat→Prop} {E:Env} {a:Act} {w w':World} {G G':Gh} {L:List qN}
structure Marks (U:Nat→Prop) (G G':Gh) (w w':World) (L:List qN):Prop where
 good:∀p∈L,3≤p.t∧Good U G p.t
 hdr:G'.hdr=G.hdr
 bx:G'.bx=G.bx
 keep:∀b,0<G.col b→G.col b∉L.map (·.t)→w'.heap[b]?=w.heap[b]?∧G'.col b=G.col b
 row:∀p∈L,bW w' G' p.e p.l (G.hdr p.t) (.row p.t [p.t] true)
theorem Ou {u:Nat} (h:L.find? (·.t==u)=none):u∉L.map (·.t):=by
 intro hin
 rw[List.mem_map]at hin
 obtain⟨p,hp,rfl⟩:=hin
 rw[List.find?_eq_none]at h
 exact h p hp (by simp)
theorem Marks.agree (hM:Marks U G G' w w' L) {S T:List Nat} (h:∀c∈S,0<c∧c∉L.map (·.t)):uM S T w w' G G':=
 ⟨fun b hb=>(hM.keep b (h _ hb).1 (h _ hb).2).1,fun b hb=>(hM.keep b (h _ hb).1 (h _ hb).2).2,fun t _=>by rw[hM.hdr]⟩
theorem qq (hM:Marks U G G' w w' L):∀ {τ:Ty} {x:τ.den} {sh:Sh} {cs:List Value},aW w G τ x sh cs→(∀c∈sh.aD,0<c)→
 aW w' G' τ (gO L τ x sh).1 (gO L τ x sh).2 cs
 | .int _,_,.leaf,_,h,_=>h
 | .bool,_,.leaf,_,h,_=>h
 | .str,_,.leaf,_,h,_=>h
 | .sl e',l,.sl (.row u hs nd),cs,h,hp=>by
   obtain⟨v,rfl,hr⟩:=h
   simp only[gO]
   split
   ·rename_i p hfind
    have hpu:p.t=u:=by have:=List.find?_some hfind;simpa using this
    have hin:=List.mem_of_find?_eq_some hfind
    split
    ·rename_i he
     obtain⟨pt,pe,pl⟩:=p
     simp only at hpu he
     subst hpu he
     refine⟨v,rfl,?_⟩
     have:v=G.hdr pt:=hr.2.1.symm
     rw[this]
     exact hM.row _ hin
    ·exact⟨v,rfl,hr.one⟩
   ·rename_i hnone
    have hu:=Ou hnone
    split
    ·exact⟨v,rfl,hr.one⟩
    ·rename_i hm
     refine⟨v,rfl,bW.agree (hM.agree (fun c hc=>⟨hp c hc,?_⟩)) hr⟩
     rcases List.mem_cons.1 hc with rfl|hc
     ·exact hu
     ·exact mC hm c hc
 | .sl e',l,.sl (.sha hs),cs,h,hp=>by
   obtain⟨v,rfl,hr⟩:=h
   simp only[gO]
   split
   ·exact⟨v,rfl,hr.one⟩
   ·rename_i hm
    exact⟨v,rfl,bW.agree (hM.agree (fun c hc=>⟨hp c hc,mC hm c hc⟩)) hr⟩
 | .sl e',l,.sl .dead,cs,h,hp=>by
   obtain⟨v,rfl,hr⟩:=h
   exact⟨v,rfl,hr⟩
 | .pair a b',p,.pair s1 s2,cs,h,hp=>by
   obtain⟨c1,c2,rfl,h1,h2⟩:=h
   exact⟨c1,c2,rfl,qq hM h1 (fun c h=>hp c (by simp[Sh.aD,h])),qq hM h2 (fun c h=>hp c (by simp[Sh.aD,h]))⟩
 | .int _,_,.sl _,_,h,_| .int _,_,.pair _ _,_,h,_| .bool,_,.sl _,_,h,_| .bool,_,.pair _ _,_,h,_
 | .str,_,.sl _,_,h,_| .str,_,.pair _ _,_,h,_| .sl _,_,.leaf,_,h,_| .sl _,_,.pair _ _,_,h,_
 | .pair _ _,_,.leaf,_,h,_| .pair _ _,_,.sl _,_,h,_=>h.elim
theorem mB:∀ {τ:Ty} {x:τ.den} {sh:Sh},∀c∈(gO L τ x sh).2.aD,c∈sh.aD
 | .sl e',l,.sl (.row u hs nd),c,h=>by
   simp only[gO]at h
   split at h
   ·split at h
    ·simp only[Sh.aD,M.aD,List.mem_cons,List.not_mem_nil,or_false,or_self]at h
     subst h;simp[Sh.aD,M.aD]
    ·simp[Sh.aD,M.aD]at h
   ·split at h
    ·simp[Sh.aD,M.aD]at h
    ·exact h
 | .sl _,_,.sl (.sha hs),c,h=>by
   simp only[gO]at h
   split at h
   ·simp[Sh.aD,M.aD]at h
   ·exact h
 | .pair a b',p,.pair s1 s2,c,h=>by
   simp only[gO,Sh.aD,List.mem_append]at h⊢
   rcases h with h|h
   ·exact .inl (mB c h)
   ·exact .inr (mB c h)
 | .sl _,_,.leaf,_,h| .sl _,_,.pair _ _,_,h| .sl _,_,.sl .dead,_,h
 | .int _,_,.leaf,_,h| .int _,_,.sl _,_,h| .int _,_,.pair _ _,_,h| .bool,_,.leaf,_,h| .bool,_,.sl _,_,h| .bool,_,.pair _ _,_,h
 | .str,_,.leaf,_,h| .str,_,.sl _,_,h| .str,_,.pair _ _,_,h| .pair _ _,_,.leaf,_,h| .pair _ _,_,.sl _,_,h=>h
theorem bI.mark (hM:Marks U G G' w w' L):∀ {s:SV} {mv:Value},bI w G s mv→aX U G s→bI w' G' (s.mark L) mv
 | .no,_,_,_=>trivial
 | .d v,mv,⟨cs,h1,h2⟩,hm=>⟨cs,h1,qq hM h2 (fun c h=>(hm.1 c h).1)⟩
 | .box t v,mv,⟨bk,c,el,h1,h2,h3,h4,h5,h6⟩,hm=>by
   have ht:=hm.2.1 t (by simp[SV.bt])
   have hn:t∉L.map (·.t):=by
    intro hin
    rw[List.mem_map]at hin
    obtain⟨p,hp,e⟩:=hin
    have:=(hM.good p hp).2.2.2
    rw[e,ht.2.2]at this;cases this
   have hk:=hM.keep bk (by rw[h4];exact ht.1) (by rw[h4];exact hn)
   exact⟨bk,c,el,h1,h2,by rw[hM.hdr];exact h3,hk.2.trans h4,hk.1.trans h5,qq hM h6 (fun c h=>(hm.1 c h).1)⟩
 | .ptr t o p τ,mv,⟨bk,h1,h2,h3⟩,_=>⟨bk,h1,by rw[hM.hdr];exact h2,h3⟩
 | .ept t e' i o p τ,mv,⟨b,off,n,cap,h1,h2,h3⟩,_=>⟨b,off,n,cap,h1,by rw[hM.hdr];exact h2,h3⟩
 | .rdp hs v,mv,_,_=>trivial
 | .tup l,mv,⟨vs,h1,h2,h3⟩,hm=>by
   refine⟨vs,h1,by simp[h2],fun i v hi=> ?_⟩
   rw[List.getElem?_map,Option.map_eq_some_iff]at hi
   obtain⟨v',hi',rfl⟩:=hi
   obtain⟨u,cs,hu,hmv,hv⟩:=h3 i v' hi'
   exact⟨u,cs,hu,hmv,qq hM hv (fun c hcc=>(hm.1 c (List.mem_flatMap.2 ⟨v',List.mem_of_getElem? hi',hcc⟩)).1)⟩
 | .g j w2 act v,mv,_,_=>trivial
theorem aX.mark (hM:Marks U G G' w w' L):∀ {s:SV},aX U G s→aX U G' (s.mark L)
 | .no,h| .ptr ..,h| .ept ..,h=>by simpa only[aX,SV.mark,hM.bx]using h
 | .d v,hm=>by rw[SV.mark,aX,hM.bx];exact aX.d fun c hc=>hm.1 c (mB c hc)
 | .box t v,hm=>by
   simp only[SV.mark,aX,hM.bx]
   exact⟨fun c hc=>hm.1 c (mB c hc),hm.2.1,hm.2.2⟩
 | .rdp hs v,hm=>by simp[aX,SV.mark,SV.sc,SV.bt,SV.rt]
 | .tup l,hm=>by
   refine⟨fun c hc=> ?_,by simp[SV.mark,SV.bt],by simp[SV.mark,SV.rt]⟩
   simp only[SV.mark,SV.sc,List.flatMap_map,List.mem_flatMap]at hc
   obtain⟨v,hv,hc⟩:=hc
   rw[hM.bx]
   exact hm.1 c (List.mem_flatMap.2 ⟨v,hv,mB c hc⟩)
 | .g j w2 act v,hm=>by simp[aX,SV.mark,SV.sc,SV.bt,SV.rt]
theorem Ns {s:SV} {t:Nat} {u:TV} (h:s.mark L= .box t u):∃u',s= .box t u':=by
 cases s with
 |box t' v=>simp only[SV.mark,SV.box.injEq]at h;exact⟨v,by rw[h.1]⟩
 |_=>simp[SV.mark]at h
theorem Uz {s:SV} {j:Nat} {w act:Bool} {v:SV}:s.mark L≠ .g j w act v:=by
 cases s<;>simp[SV.mark]
theorem Inv.mark (hI:Inv w0 c0 U E a w G) (hM:Marks U G G' w w' L) (colU:∀b,0<G'.col b→U (G'.col b)) (lt:∀b,0<G'.col b→b<w'.heap.size)
 (fresh:∀b,3≤G'.col b→∃c el,w'.heap[b]?=some (.cells c el (0,0)))
 (frame:∀b,b<w0.heap.size→c0.col b<3→G'.col b=c0.col b∧w'.heap[b]?=w0.heap[b]?)
 (one:∀b,G'.col b=1→G.col b=1) (size:w.heap.size≤w'.heap.size)
 (os:w'.os=w.os) (tape:w'.tape=w.tape) (output:w'.output=w.output):Inv w0 c0 U (E.mark L) a w' G':=by
 have hg:∀s,(E.mark L).s.getD s .no=(E.s.getD s .no).mark L:=fun s=>getD_map (T:=SV.mark L) rfl s
 have hm:∀s,aX U G' ((E.s.getD s .no).mark L):=fun s=>aX.mark hM (hI.kV s)
 refine⟨by simpa[Env.mark]using hI.len,fun s=> ?_,fun s=> ?_,fun s=> ?_,fun s=> ?_,fun s s' t v v' h1 h2=> ?_,colU,lt,fresh,frame,fun b hb=>hI.one b (one b hb),Nat.le_trans hI.size size,os.trans hI.os,tape.trans hI.tape,output.trans hI.output,hI.defers,?_,fun hk t v e=>⟨(hI.hk hk t v e).1,by rw[hM.hdr];exact(hI.hk hk t v e).2⟩⟩
 ·rw[hg];exact bI.mark hM (hI.slots s) (hI.kV s)
 ·rw[hg];exact(hm s).1
 ·rw[hg];exact(hm s).2.1
 ·rw[hg];exact(hm s).2.2
 ·rw[hg]at h1 h2
  obtain⟨u,hu⟩:=Ns h1
  obtain⟨u',hu'⟩:=Ns h2
  exact hI.uni s s' t u u' hu hu'
 ·rw[hM.bx];exact hI.two
end
end Vg
namespace Vg
open Go
def Gp (w:World) (b:Nat):Prop:=∃c el,w.heap[b]?=some (.cells c el (0,0))
structure Mm (w w':World) (τ:Ty) (y:τ.den) (cs:List Value) (B B':List Nat):Prop where
 rep:aR w' τ y cs B'
 nd:B'.Nodup
 inn:∀b∈B',b∈B∨w.heap.size≤b
 fresh:∀b∈B',Gp w' b
 frame:∀b,b<w.heap.size→b∉B→w'.heap[b]?=w.heap[b]?
 size:w.heap.size≤w'.heap.size
 os:w'.os=w.os
 tape:w'.tape=w.tape
 output:w'.output=w.output
def wx (P:Program) (f:FuncId) (m:dE):Prop:=
 ∀(w:World) (x:m.τ.den) (n k:Int) (y:m.τ.den) (cs:List Value) (B:List Nat),m.F x n=some (k,y)→aR w m.τ x cs B→B.Nodup→(∀b∈B,Gp w b)→
  nu P f #[bT m.τ cs,.int .i64 n] w (fun mv w'=>mv= .int .i64 k∧∃B',Mm w w' m.τ y cs B B')
section
variable {P:Program} {C:Cx} {w0:World} {c0:C0} {U:Nat→Prop} {E:Env} {a:Act} {w w':World} {G G':Gh} {L:List qN}
theorem Inv.Rs (hI:Inv w0 c0 U E a w G) (hgood:∀p∈L,3≤p.t∧Good U G p.t) {B B2:List Nat} (f:Nat→Nat)
 (hB:∀b∈B,G.col b∈L.map (·.t)) (hB2:∀b∈B2,(G.col b∈L.map (·.t)∨w.heap.size≤b)∧f b∈L.map (·.t)∧Gp w' b)
 (hframe:∀b,b<w.heap.size→b∉B→w'.heap[b]?=w.heap[b]?) (size:w.heap.size≤w'.heap.size)
 (os:w'.os=w.os) (tape:w'.tape=w.tape) (output:w'.output=w.output)
 (hrow:∀G':Gh,G'.hdr=G.hdr→(∀b∈B2,G'.col b=f b)→∀p∈L,bW w' G' p.e p.l (G.hdr p.t) (.row p.t [p.t] true)):
 ∃G',Inv w0 c0 U (E.mark L) a w' G'∧G'.hdr=G.hdr∧G'.bx=G.bx:=by
 have h3:∀t∈L.map (·.t),3≤t∧Good U G t:=by
  intro t ht
  rw[List.mem_map]at ht
  obtain⟨p,hp,rfl⟩:=ht
  exact hgood p hp
 let G':Gh:=⟨fun b=>if b∈B2 then f b else if G.col b∈L.map (·.t)then 0 else G.col b,G.hdr,G.bx⟩
 have hin:∀b∈B2,G'.col b=f b:=fun b hb=>by simp[G',hb]
 have hc:∀b,(b∈B2∧G'.col b=f b)∨(b∉B2∧G.col b∈L.map (·.t)∧G'.col b=0)∨(b∉B2∧G.col b∉L.map (·.t)∧G'.col b=G.col b):=by
  intro b
  by_cases h1:b∈B2
  ·exact .inl ⟨h1,hin b h1⟩
  ·by_cases h2:G.col b∈L.map (·.t)
   ·exact .inr (.inl ⟨h1,h2,by simp only[G',h1,h2,if_true,if_false]⟩)
   ·exact .inr (.inr ⟨h1,h2,by simp only[G',h1,h2,if_false]⟩)
 have hnot:∀b,b<w.heap.size→G.col b∉L.map (·.t)→b∉B2∧b∉B:=by
  intro b hb hn
  refine⟨fun h=> ?_,fun h=>hn (hB b h)⟩
  rcases(hB2 b h).1 with h|h
  ·exact hn h
  ·omega
 refine⟨G',hI.mark (G':=G') ⟨hgood,rfl,rfl,fun b hb hn=> ?_,hrow G' rfl hin⟩ (fun b hb=> ?_) (fun b hb=> ?_) (fun b hb=> ?_) (fun b hb hcb=> ?_) (fun b hb=> ?_) size os tape output,rfl,rfl⟩
 ·obtain⟨q1,q2⟩:=hnot b (hI.lt b hb) hn
  refine⟨hframe b (hI.lt b hb) q2,?_⟩
  rcases hc b with⟨h,_⟩|⟨_,h,_⟩|⟨_,_,h⟩
  ·exact absurd h q1
  ·exact absurd h hn
  ·exact h
 ·rcases hc b with⟨h,e⟩|⟨_,h,e⟩|⟨_,_,e⟩
  ·rw[e];exact(h3 _ (hB2 b h).2.1).2.2.1
  ·omega
  ·rw[e]at hb⊢;exact hI.colU b hb
 ·rcases hc b with⟨h,e⟩|⟨_,h,e⟩|⟨_,_,e⟩
  ·obtain⟨c,el,hh⟩:=(hB2 b h).2.2
   exact lt_of_block hh
  ·omega
  ·rw[e]at hb;exact Nat.lt_of_lt_of_le (hI.lt b hb) size
 ·rcases hc b with⟨h,e⟩|⟨_,h,e⟩|⟨_,hn,e⟩
  ·exact(hB2 b h).2.2
  ·omega
  ·rw[e]at hb
   have hl:=hI.lt b (by omega)
   rw[hframe b hl (hnot b hl hn).2]
   exact hI.fresh b hb
 ·have hf:=hI.frame b hb hcb
  have hl:b<w.heap.size:=Nat.lt_of_lt_of_le hb hI.size
  have hn:G.col b∉L.map (·.t):=fun h=>by have:=(h3 _ h).1;omega
  obtain⟨q1,q2⟩:=hnot b hl hn
  refine⟨?_,by rw[hframe b hl q2];exact hf.2⟩
  rcases hc b with⟨h,_⟩|⟨_,h,_⟩|⟨_,_,h⟩
  ·exact absurd h q1
  ·exact absurd h hn
  ·rw[h];exact hf.1
 ·rcases hc b with⟨h,e⟩|⟨_,h,e⟩|⟨_,hn,e⟩
  ·have:=(h3 _ (hB2 b h).2.1).1;omega
  ·omega
  ·rw[←e];exact hb
theorem xu:∀ {τ:Ty} {x:τ.den} {sh:Sh} {cs:List Value} {ts:List Nat},aW w G τ x sh cs→mw sh=some ts→sh.own=some ts
 | .int _,_,.leaf,_,ts,_,h| .bool,_,.leaf,_,ts,_,h| .str,_,.leaf,_,ts,_,h=>h
 | .sl e,l,.sl m,cs,ts,h,ho=>by
   obtain⟨v,rfl,hr⟩:=h
   cases m with
   |row t hs nd=>
    have h3:=hr.1
    simp only[mw]at ho
    split at ho
    ·rename_i hc
     simp only[Bool.and_eq_true,List.all_eq_true,beq_iff_eq]at hc
     cases ho
     have hf:hs.filter (·≠t)=[]:=by
      rw[List.filter_eq_nil_iff]
      intro c hcc
      simp[hc.2 c hcc]
     have ha:hs.all (3≤·)=true:=by
      rw[List.all_eq_true]
      intro c hcc
      simp[hc.2 c hcc,h3]
     simp only[Sh.own,M.own,hc.1,ha,hf,Bool.and_self,if_true]
    ·cases ho
   |sha hs=>
    cases hs with
    |nil=>exact ho
    |cons=>simp[mw]at ho
   |dead=>simp[mw]at ho
 | .pair a b,p,.pair s1 s2,cs,ts,h,ho=>by
   obtain⟨c1,c2,rfl,h1,h2⟩:=h
   simp only[mw]at ho
   split at ho
   ·rename_i x y hx hy
    simp only[Sh.own,xu h1 hx,xu h2 hy]
    exact ho
   ·cases ho
 | .int _,_,.sl _,_,_,h,_| .int _,_,.pair _ _,_,_,h,_| .bool,_,.sl _,_,_,h,_| .bool,_,.pair _ _,_,_,h,_
 | .str,_,.sl _,_,_,h,_| .str,_,.pair _ _,_,_,h,_| .sl _,_,.leaf,_,_,h,_| .sl _,_,.pair _ _,_,_,h,_
 | .pair _ _,_,.leaf,_,_,h,_| .pair _ _,_,.sl _,_,_,h,_=>h.elim
theorem HL:∀ {τ:Ty} {x y:τ.den} {sh:Sh} {cs:List Value} {ts:List Nat} {B':List Nat},aW w G τ x sh cs→mw sh=some ts→aR w' τ y cs B'→B'.Nodup→
 (rowsOf τ y sh).map (·.t)=ts∧(∀t∈ts,3≤t)∧∃f:Nat→Nat,(∀b∈B',f b∈ts)∧∀G':Gh,G'.hdr=G.hdr→(∀b∈B',G'.col b=f b)→∀p∈rowsOf τ y sh,bW w' G' p.e p.l (G.hdr p.t) (.row p.t [p.t] true)
 | .int _,_,_,.leaf,_,ts,B',_,h,hr,_=>by
   cases h;cases hr.2;exact⟨rfl,by simp,fun _=>0,by simp,by simp[rowsOf]⟩
 | .bool,_,_,.leaf,_,ts,B',_,h,hr,_=>by
   cases h;cases hr.2;exact⟨rfl,by simp,fun _=>0,by simp,by simp[rowsOf]⟩
 | .str,_,_,.leaf,_,ts,B',_,h,hr,_=>by
   cases h;cases hr.2;exact⟨rfl,by simp,fun _=>0,by simp,by simp[rowsOf]⟩
 | .sl e,l,y,.sl m,cs,ts,B',h,ho,hr,hn=>by
   obtain⟨v,rfl,hrow⟩:=h
   obtain⟨v',hv',hS⟩:=hr
   cases hv'
   cases m with
   |row t hs nd=>
    simp only[mw]at ho
    split at ho
    ·cases ho
     refine⟨rfl,by simpa using hrow.1,fun _=>t,by simp,fun G' h1 h2 p hp=> ?_⟩
     simp only[rowsOf,List.mem_singleton]at hp
     subst hp
     refine⟨hrow.1,by rw[h1],B',by rw[hrow.2.1];exact hS,?_⟩
     rintro b Bs rfl
     rw[List.nodup_cons]at hn
     exact⟨h2 b (by simp),hn.1,fun z hz=>by simp[h2 z (by simp[hz])],fun _=>hn.2⟩
    ·cases ho
   |sha hs=>
    cases hs with
    |nil=>
     cases ho
     have hv:=hrow.2 rfl
     have hB:B'=[]:=by
      rcases hS with⟨_,_,hb⟩|⟨b,off,cap,c,el,fz,Bs,hvv,_⟩
      ·exact hb
      ·rw[hv]at hvv;cases hvv
     subst hB
     exact⟨rfl,by simp,fun _=>0,by simp,by simp[rowsOf]⟩
    |cons=>simp[mw]at ho
   |dead=>simp[mw]at ho
 | .pair a b,p,y,.pair s1 s2,cs,ts,B',h,ho,hr,hn=>by
   obtain⟨c1,c2,rfl,h1,h2⟩:=h
   obtain⟨d1,d2,B1,B2,hcs,rfl,r1,r2⟩:=hr
   have hl1:=aW.len h1
   have hl2:=aR.len r1
   obtain⟨e1,e2⟩:=List.append_inj hcs (by omega)
   subst e1 e2
   simp only[mw]at ho
   split at ho
   ·rename_i u v hu hv
    split at ho
    ·cases ho
     rw[List.nodup_append]at hn
     obtain⟨n1,n2,n3⟩:=hn
     obtain⟨i1,i3,f1,j1,k1⟩:=HL h1 hu r1 n1
     obtain⟨i2,i4,f2,j2,k2⟩:=HL h2 hv r2 n2
     refine⟨by simp[rowsOf,i1,i2],fun t ht=>(List.mem_append.1 ht).elim (i3 t) (i4 t),fun z=>if z∈B1 then f1 z else f2 z,fun z hz=> ?_,fun G' g1 g2 q hq=> ?_⟩
     ·by_cases hz1:z∈B1
      ·simp only[hz1,if_true];exact List.mem_append_left _ (j1 z hz1)
      ·simp only[hz1,if_false]
       exact List.mem_append_right _ (j2 z ((List.mem_append.1 hz).resolve_left hz1))
     ·simp only[rowsOf,List.mem_append]at hq
      rcases hq with hq|hq
      ·exact k1 G' g1 (fun z hz=>by rw[g2 z (List.mem_append_left _ hz)];simp[hz]) q hq
      ·exact k2 G' g1 (fun z hz=>by
        rw[g2 z (List.mem_append_right _ hz)]
        have:z∉B1:=fun h=>n3 z h z hz rfl
        simp[this]) q hq
    ·cases ho
   ·cases ho
 | .int _,_,_,.sl _,_,_,_,h,_,_,_| .int _,_,_,.pair _ _,_,_,_,h,_,_,_| .bool,_,_,.sl _,_,_,_,h,_,_,_| .bool,_,_,.pair _ _,_,_,_,h,_,_,_
 | .str,_,_,.sl _,_,_,_,h,_,_,_| .str,_,_,.pair _ _,_,_,_,h,_,_,_| .sl _,_,_,.leaf,_,_,_,h,_,_,_| .sl _,_,_,.pair _ _,_,_,_,h,_,_,_
 | .pair _ _,_,_,.leaf,_,_,_,h,_,_,_| .pair _ _,_,_,.sl _,_,_,_,h,_,_,_=>h.elim
theorem R7 (hI:Inv w0 c0 U E a w G) {fid:FuncId} {m:dE} (hM:wx P fid m) {x y:m.τ.den} {sh:Sh} {cs:List Value} {ts:List Nat} (hv:aW w G m.τ x sh cs) (hg:∀c∈sh.aD,Good U G c) (ho:mw sh=some ts)
 {n k:Int} (hF:m.F x n=some (k,y)):
 nu P fid #[bT m.τ cs,.int .i64 n] w (fun mv w'=>mv=Value.int .i64 k∧∃G',Inv w0 c0 U (E.mark (rowsOf m.τ y sh)) a w' G'):=by
 have hown:=xu hv ho
 obtain⟨B,hB,hn,hc⟩:=hv.own hown
 have h3:=Sh.hJ hv hown
 have:=hM w x n k y cs B hF hB hn (fun b hb=>hI.fresh b (h3 _ (hc b hb)))
 unfold nu at this⊢
 have key:∀(mv:Value) (w':World),(mv= .int .i64 k∧∃B',Mm w w' m.τ y cs B B')→(mv= .int .i64 k∧∃G',Inv w0 c0 U (E.mark (rowsOf m.τ y sh)) a w' G'):=by
  rintro mv w' ⟨h1,B',hp⟩
  refine⟨h1,?_⟩
  obtain⟨i1,i2,f,j1,j2⟩:=HL hv ho hp.rep hp.nd
  obtain⟨G',q,_⟩:=hI.Rs (L:=rowsOf m.τ y sh) (B:=B) (B2:=B') (w':=w') (fun p hp=>by
   have hin:p.t∈ts:=by rw[←i1];exact List.mem_map_of_mem hp
   exact⟨i2 _ hin,hg _ (Sh.fX hown _ hin)⟩) f (fun b hb=>by rw[i1];exact hc b hb)
   (fun b hb=>⟨(hp.inn b hb).imp (fun h=>by rw[i1];exact hc b h) id,by rw[i1];exact j1 b hb,hp.fresh b hb⟩) hp.frame hp.size hp.os hp.tape hp.output j2
  exact⟨G',q⟩
 split at this
 ·exact Calls.mono this (fun e w' ⟨v,h1,h2⟩=>⟨v,h1,key v w' h2⟩)
 ·exact key _ _ this
 ·exact this
end
end Vg
namespace Vg
open Go
section
variable {P:Program} {C:Cx} {w0:World} {c0:C0} {U:Nat→Prop} {E:Env} {a:Act} {w w':World} {G G':Gh} {L:List qN}
theorem aR.part:∀ {p:List Bool} {τ:Ty} {x:τ.den} {sh:Sh} {cs:List Value} {B:List Nat} {r:TV},fI τ x sh p=some r→aR w τ x cs B→
 ∃Ba Bo Bb,B=Ba++Bo++Bb∧aR w r.τ r.x ((cs.drop (τ.off p)).take r.τ.sz) Bo∧τ.off p+r.τ.sz≤τ.sz∧
  ∀(w':World) (v:r.τ.den) (sv:Sh) (Bv:List Nat) (y:τ.den) (s:Sh),(∀b∈Ba++Bb,w'.heap[b]?=w.heap[b]?)→aR w' r.τ v ((cs.drop (τ.off p)).take r.τ.sz) Bv→
   dU τ x sh p ⟨r.τ,v,sv⟩=some (y,s)→aR w' τ y cs (Ba++Bv++Bb)
 | [],τ,x,sh,cs,B,r,hr,h=>by
   have:r=⟨τ,x,sh⟩:=by cases τ<;>simp_all[fI]
   subst this
   have hl:=aR.len h
   have h0:τ.off []=0:=by cases τ<;>rfl
   have hcs:(cs.drop 0).take τ.sz=cs:=by rw[List.drop_zero,List.take_of_length_le (by omega)]
   refine⟨[],B,[],by simp,by rw[h0,hcs];exact h,by rw[h0];simp,fun w' v sv Bv y s _ hv hp=> ?_⟩
   have hp':ed ⟨τ,v,sv⟩ τ=some y:=by
    cases τ<;>(simp only[dU]at hp;split at hp<;>simp_all)
   have e:=cK hp'
   simp only[TV.mk.injEq,heq_eq_eq,true_and]at e
   rw[h0,hcs]at hv
   rw[←e.1]
   simpa using hv
 |false::p,.pair a b,x,.pair s1 s2,cs,B,r,hr,h=>by
  obtain⟨c1,c2,B1,B2,rfl,rfl,h1,h2⟩:=h
  obtain⟨Ba,Bo,Bb,rfl,hq,hle,hk⟩:=aR.part (p:=p) (by simpa[fI]using hr) h1
  have hl:=aR.len h1
  have e:((c1++c2).drop (a.off p)).take r.τ.sz=(c1.drop (a.off p)).take r.τ.sz:=by
   rw[List.drop_append_of_le_length (by omega),List.take_append_of_le_length (by simp;omega)]
  refine⟨Ba,Bo,Bb++B2,by simp,by simp only[Ty.off];rw[e];exact hq,by simp only[Ty.off,Ty.sz];omega,fun w' v sv Bv y s hw hv hp=> ?_⟩
  simp only[Ty.off]at hv
  rw[e]at hv
  simp only[dU]at hp
  split at hp
  ·rename_i y1 s1' hq'
   cases hp
   have:=hk w' v sv Bv y1 s1' (fun b hb=>hw b (by simp only[List.mem_append]at hb⊢;rcases hb with hb|hb<;>simp[hb])) hv hq'
   exact⟨c1,c2,_,B2,rfl,by simp,this,aR.mono (fun b hb=>hw b (by simp[hb])) h2⟩
  ·cases hp
 |true::p,.pair a b,x,.pair s1 s2,cs,B,r,hr,h=>by
  obtain⟨c1,c2,B1,B2,rfl,rfl,h1,h2⟩:=h
  obtain⟨Ba,Bo,Bb,rfl,hq,hle,hk⟩:=aR.part (p:=p) (by simpa[fI]using hr) h2
  have hl:=aR.len h1
  have e:((c1++c2).drop (a.sz+b.off p)).take r.τ.sz=(c2.drop (b.off p)).take r.τ.sz:=by
   rw[←hl,List.drop_append,List.drop_of_length_le (by omega)]
   simp
  refine⟨B1++Ba,Bo,Bb,by simp,by simp only[Ty.off];rw[e];exact hq,by simp only[Ty.off,Ty.sz];omega,fun w' v sv Bv y s hw hv hp=> ?_⟩
  simp only[Ty.off]at hv
  rw[e]at hv
  simp only[dU]at hp
  split at hp
  ·rename_i y1 s1' hq'
   cases hp
   have:=hk w' v sv Bv y1 s1' (fun b hb=>hw b (by simp only[List.mem_append]at hb⊢;rcases hb with hb|hb<;>simp[hb])) hv hq'
   exact⟨c1,c2,B1,_,rfl,by simp,aR.mono (fun b hb=>hw b (by simp[hb])) h1,this⟩
  ·cases hp
 |b::p,.int _,_,_,_,_,_,hr,_|b::p,.bool,_,_,_,_,_,hr,_|b::p,.str,_,_,_,_,_,hr,_|b::p,.sl _,_,_,_,_,_,hr,_=>by simp[fI]at hr
 |false::p,.pair _ _,_,.leaf,_,_,_,hr,_|false::p,.pair _ _,_,.sl _,_,_,_,hr,_=>by simp[fI]at hr
 |true::p,.pair _ _,_,.leaf,_,_,_,hr,_|true::p,.pair _ _,_,.sl _,_,_,_,hr,_=>by simp[fI]at hr
def cellsOf (w:World) (b o n:Nat):List Value:=match w.heap[b]? with|some (.cells c _ _)=>(c.toList.drop o).take n|_=>[]
theorem TQ (hI:Inv w0 c0 U E a w G) {fid:FuncId} {m:dE} (hM:wx P fid m) {b:Nat} {e:Ty} {l:List e.den} {hs:List Nat} (hrow:E.rd.row b e=some (l,hs,true)) (hhs:hs.all (·==b)=true)
 {bk of n cap:Nat} (hb:G.hdr b= .slice (some ⟨bk,of,none⟩) n cap) {i:Nat} (hi:i<n) {sh0:Sh} {path:List Bool} {r:TV} (hsub:fI e (l.getD i e.aa) sh0 path=some r) {x y:m.τ.den} (hx:ed r m.τ=some x)
 {z k:Int} (hF:m.F x z=some (k,y)) {sv:Sh} {ye:e.den} {se:Sh} (hput:dU e (l.getD i e.aa) sh0 path ⟨m.τ,y,sv⟩=some (ye,se)):
 (∃c el fz,w.heap[bk]?=some (.cells c el fz)∧of+i*e.sz+e.off path+m.τ.sz≤c.size)∧
 nu P fid #[bT m.τ (cellsOf w bk (of+i*e.sz+e.off path) m.τ.sz),.int .i64 z] w (fun mv w'=>mv=Value.int .i64 k∧∃G',Inv w0 c0 U (E.mark [⟨b,e,l.set i ye⟩]) a w' G'):=by
 obtain⟨⟨vh,hvh⟩,hgood⟩:=hI.dx hrow
 have hvh0:vh=G.hdr b:=hvh.2.1.symm
 obtain⟨hb3,hh,B,hB,hc⟩:=hvh
 rw[hvh0,hb]at hB
 have hall:∀h∈hs,h=b:=by
  rw[List.all_eq_true]at hhs
  intro h hh;simpa using hhs h hh
 rcases hB with⟨⟨ao,hB⟩,hl0,_⟩|⟨bk',of',cap',c,el,fz,Bs,hvv',hcap,hheap,hsz,rfl,hl⟩
 ·cases hB;omega
 ·simp only[Value.slice.injEq,Option.some.injEq,Addr.mk.injEq,and_true]at hvv'
  obtain⟨⟨rfl,rfl⟩,rfl,rfl⟩:=hvv'
  obtain⟨j1,j2,j3,j4⟩:=hc bk Bs rfl
  have hnd:=j4 rfl
  have hget:l[i]?=some (l.getD i e.aa):=by
   rw[List.getD_eq_getElem?_getD,List.getElem?_eq_getElem hi];rfl
  obtain⟨B1,Bx,B2,rfl,hx1,hx2,hx3⟩:=bg.get (sz:=e.sz) (fun x c B h=>aR.len h) hl hget
  obtain⟨Ba,Bo,Bb,rfl,hpr,hle,hk⟩:=aR.part hsub hx1
  have er:=cK hx
  generalize r.sh=rsh at er
  subst er
  have hmul:(i+1)*e.sz≤l.length*e.sz:=Nat.mul_le_mul_right _ hi
  have hmul2:l.length*e.sz≤cap*e.sz:=Nat.mul_le_mul_right _ hcap
  rw[Nat.add_mul,Nat.one_mul]at hmul
  have hcells:((((c.toList.drop of).take (l.length*e.sz)).drop (i*e.sz)).take e.sz |>.drop (e.off path)).take m.τ.sz=(c.toList.drop (of+i*e.sz+e.off path)).take m.τ.sz:=by
   simp only[List.drop_take,List.drop_drop,List.take_take]
   simp only at hle
   rw[Nat.min_eq_left (by omega)]
  simp only at hpr hle hk
  rw[hcells]at hpr hk
  have hCo:cellsOf w bk (of+i*e.sz+e.off path) m.τ.sz=(c.toList.drop (of+i*e.sz+e.off path)).take m.τ.sz:=by
   unfold cellsOf;rw[hheap]
  refine⟨⟨c,el,fz,hheap,by omega⟩,?_⟩
  have hcolB:∀z∈B1++(Ba++Bo++Bb)++B2,G.col z=b:=fun z hz=>hall _ (j3 z hz)
  have hndo:Bo.Nodup:=by
   rw[List.nodup_append,List.nodup_append,List.nodup_append,List.nodup_append]at hnd
   exact hnd.1.2.1.1.2.1
  have hU:=hM w x z k y _ Bo hF hpr hndo (fun q hq=>hI.fresh q (by rw[hcolB q (by simp[hq])];exact hb3))
  rw[hCo]
  have key:∀(mv:Value) (w':World),(mv= .int .i64 k∧∃B',Mm w w' m.τ y ((c.toList.drop (of+i*e.sz+e.off path)).take m.τ.sz) Bo B')→(mv= .int .i64 k∧∃G',Inv w0 c0 U (E.mark [⟨b,e,l.set i ye⟩]) a w' G'):=by
   rintro mv w' ⟨h1,Bv,hp⟩
   refine⟨h1,?_⟩
   have hsame:∀q∈bk::(B1++(Ba++Bo++Bb)++B2),q∉Bo→w'.heap[q]?=w.heap[q]?:=by
    intro q hq hn
    refine hp.frame q (hI.lt q ?_) hn
    rcases List.mem_cons.1 hq with rfl|hq
    ·rw[j1];omega
    ·rw[hcolB q hq];omega
   have hbkO:bk∉Bo:=fun h=>j2 (by simp[h])
   have hout:∀q,q∈B1∨q∈Ba∨q∈Bb∨q∈B2→q∉Bo:=by
    intro q hq hqo
    rw[List.nodup_append,List.nodup_append,List.nodup_append,List.nodup_append]at hnd
    obtain⟨⟨n1,⟨⟨m1,m2,m3⟩,m4,m5⟩,n3⟩,n4,n5⟩:=hnd
    rcases hq with hq|hq|hq|hq
    ·exact n3 q hq q (by simp[hqo]) rfl
    ·exact m3 q hq q hqo rfl
    ·exact m5 q (by simp[hqo]) q hq rfl
    ·exact n5 q (by simp[hqo]) q hq rfl
   have hye:=hk w' y sv Bv ye se (fun q hq=>hsame q (by simp only[List.mem_append]at hq;rcases hq with hq|hq<;>simp[hq]) (hout q (by simp only[List.mem_append]at hq;rcases hq with hq|hq<;>simp[hq]))) hp.rep hput
   have hset:=bg.set (sz:=e.sz) (l:=l) (i:=i) (cs:=(c.toList.drop of).take (l.length*e.sz)) hi hye
    (bg.world (fun q hq=>hsame q (by simp[hq]) (hout q (by simp[hq]))) hx2) (bg.world (fun q hq=>hsame q (by simp[hq]) (hout q (by simp[hq]))) hx3)
   have hjoin:((c.toList.drop of).take (l.length*e.sz)).take (i*e.sz)++(((c.toList.drop of).take (l.length*e.sz)).drop (i*e.sz)).take e.sz++((c.toList.drop of).take (l.length*e.sz)).drop ((i+1)*e.sz)=(c.toList.drop of).take (l.length*e.sz):=by
    rw[Nat.add_mul,Nat.one_mul,←List.drop_drop,List.append_assoc,List.take_append_drop,List.take_append_drop]
   rw[hjoin]at hset
   have hheap':w'.heap[bk]?=some (.cells c el fz):=(hsame bk (by simp) hbkO).trans hheap
   have hnew:∀q∈Bv,q∉bk::(B1++(Ba++Bo++Bb)++B2)∨q∈Bo:=by
    intro q hq
    rcases hp.inn q hq with h|h
    ·exact .inr h
    ·refine .inl (fun hin=> ?_)
     have:q<w.heap.size:=hI.lt q (by
      rcases List.mem_cons.1 hin with rfl|hin
      ·rw[j1];omega
      ·rw[hcolB q hin];omega)
     omega
   have hnd2:(bk::(B1++(Ba++Bv++Bb)++B2)).Nodup:=by
    rw[List.nodup_cons]
    have hd:∀q∈Bv,q≠bk∧q∉B1∧q∉Ba∧q∉Bb∧q∉B2:=by
     intro q hq
     rcases hnew q hq with h|h
     ·simp only[List.mem_cons,List.mem_append,not_or]at h
      exact⟨h.1,h.2.1.1,h.2.1.2.1.1,h.2.1.2.2,h.2.2⟩
     ·exact⟨fun e=>hbkO (e▸h),fun hh=>hout q (.inl hh) h,fun hh=>hout q (.inr (.inl hh)) h,fun hh=>hout q (.inr (.inr (.inl hh))) h,fun hh=>hout q (.inr (.inr (.inr hh))) h⟩
    constructor
    ·intro hin
     simp only[List.mem_append,not_or]at hin j2
     rcases hin with(hin|((hin|hin)|hin))|hin
     ·exact j2.1.1 hin
     ·exact j2.1.2.1.1 hin
     ·exact(hd bk hin).1 rfl
     ·exact j2.1.2.2 hin
     ·exact j2.2 hin
    ·rw[List.nodup_append,List.nodup_append,List.nodup_append,List.nodup_append]at hnd⊢
     obtain⟨⟨n1,⟨⟨m1,m2,m3⟩,m4,m5⟩,n3⟩,n4,n5⟩:=hnd
     refine⟨⟨n1,⟨⟨m1,hp.nd,fun u hu v hv e=>(hd v hv).2.2.1 (e▸hu)⟩,m4,fun u hu v hv e=> ?_⟩,fun u hu v hv e=> ?_⟩,n4,fun u hu v hv e=> ?_⟩
     ·rcases List.mem_append.1 hu with hu|hu
      ·exact m5 u (by simp[hu]) v hv e
      ·exact(hd u hu).2.2.2.1 (e▸hv)
     ·simp only[List.mem_append]at hv
      rcases hv with(hv|hv)|hv
      ·exact n3 u hu v (by simp[hv]) e
      ·exact(hd v hv).2.1 (e▸hu)
      ·exact n3 u hu v (by simp[hv]) e
     ·simp only[List.mem_append]at hu
      rcases hu with hu|((hu|hu)|hu)
      ·exact n5 u (by simp[hu]) v hv e
      ·exact n5 u (by simp[hu]) v hv e
      ·exact(hd u hu).2.2.2.2 (e▸hv)
      ·exact n5 u (by simp[hu]) v hv e
   obtain⟨G',q,_⟩:=hI.Rs (L:=[⟨b,e,l.set i ye⟩]) (B:=Bo) (B2:=bk::(B1++(Ba++Bv++Bb)++B2)) (w':=w') (fun p hp=>by
    simp only[List.mem_singleton]at hp;subst hp;exact⟨hb3,hgood b (by simp)⟩) (fun _=>b) (fun q hq=>by simp[hcolB q (by simp[hq])])
    (fun q hq=>by
     refine⟨?_,by simp,?_⟩
     ·by_cases hv:q∈Bv
      ·rcases hp.inn q hv with h|h
       ·left;simp[hcolB q (by simp[h])]
       ·exact .inr h
      ·left
       rcases List.mem_cons.1 hq with rfl|hq
       ·simp[j1]
       ·simp only[List.mem_append]at hq
        have:q∈B1++(Ba++Bo++Bb)++B2:=by
         rcases hq with(h|((h|h)|h))|h
         ·simp[h]
         ·simp[h]
         ·exact absurd h hv
         ·simp[h]
         ·simp[h]
        simp[hcolB q this]
     ·by_cases hv:q∈Bv
      ·exact hp.fresh q hv
      ·have hq':q∈bk::(B1++(Ba++Bo++Bb)++B2)∧q∉Bo:=by
        rcases List.mem_cons.1 hq with rfl|hq
        ·exact⟨by simp,hbkO⟩
        ·simp only[List.mem_append]at hq
         rcases hq with(h|((h|h)|h))|h
         ·exact⟨by simp[h],hout q (by simp[h])⟩
         ·exact⟨by simp[h],hout q (by simp[h])⟩
         ·exact absurd h hv
         ·exact⟨by simp[h],hout q (by simp[h])⟩
         ·exact⟨by simp[h],hout q (by simp[h])⟩
       obtain⟨c',el',hh'⟩:=hI.fresh q (by
        rcases List.mem_cons.1 hq'.1 with rfl|hq''
        ·rw[j1];exact hb3
        ·rw[hcolB q hq''];exact hb3)
       exact⟨c',el',(hsame q hq'.1 hq'.2).trans hh'⟩) hp.frame hp.size hp.os hp.tape hp.output
    (fun G' g1 g2 p hp=>by
     simp only[List.mem_singleton]at hp;subst hp
     rw[List.nodup_cons]at hnd2
     refine⟨hb3,by rw[g1],bk::(B1++(Ba++Bv++Bb)++B2),.inr ⟨bk,of,cap,c,el,fz,_,by rw[hb];simp,by simpa using hcap,hheap',hsz,rfl,by rw[List.length_set];exact hset⟩,?_⟩
     rintro h Bs' hBs'
     cases hBs'
     exact⟨g2 bk (by simp),hnd2.1,fun q hq=>by simp[g2 q (List.mem_cons_of_mem _ hq)],fun _=>hnd2.2⟩)
   exact⟨G',q⟩
  unfold nu at hU⊢
  split at hU
  ·exact Calls.mono hU (fun e w' ⟨v,h1,h2⟩=>⟨v,h1,key v w' h2⟩)
  ·exact key _ _ hU
  ·exact hU
end
end Vg
namespace Vg
open Go
section
variable {ρ:Type}
def kX (o:Oper) (a:Option Bool) (E:Env) (k:Env→Option ρ):Ef→Option ρ
 | .val v=>k (E.set o.dst (cY o.guard a v))
 | .chk c v=>if(match a with|none=>c|some b=> !b||c)=true then k (E.set o.dst (cY o.guard a v))else none
 | .opt _ z x f=>(match a with|none=>x|some b=>if b=true then x else some z).bind fun r=>k (E.set o.dst (cY o.guard a (f r)))
 | .put b s v=>match a.isNone&&o.dst.isNone with|true=>k {E with s:=E.s.set s (.box b v)}|false=>none
 | .app c kl gv t v=>match a.isNone with|true=>(if c=true then k (((E.kill kl).aS gv t).set o.dst v.je)else none)|false=>none
 | .elem gv b e l m=>match a.isNone&&o.dst.isNone with|true=>k (E.elem gv b e l m)|false=>none
 | .call _ x tks f rp=>match a.isNone with|true=>x.bind fun r=>let E1:=E.bQ tks (rp r);k (Env.set {E1 with s:=bq (f r).2 E1.s} o.dst (f r).1.je)|false=>none
theorem Cy (o:Oper) (a:Option Bool) (E:Env) (k:Env→Option ρ) (ef:Ef):kX o a E k ef=aZ o a E k ef:=by
 cases ef with
 |put b s v=>simp only[kX,aZ];cases (a.isNone&&o.dst.isNone)<;>rfl
 |app c kl gv t v=>simp only[kX,aZ];cases (a.isNone)<;>rfl
 |elem gv b e l m=>simp only[kX,aZ];cases (a.isNone&&o.dst.isNone)<;>rfl
 |call α x tks f rp=>simp only[kX,aZ];cases (a.isNone)<;>rfl
 |_=>rfl
def Hh (C:Cx) (ops:List Oper) (nt:Nat):List Oper→Nat→Env→(Env→Option ρ)→Option ρ
 | [],_,E,k=>k E
 |o::l,i,E,k=>match guardOf ops E.rd o.guard with
  |none=>none
  |some a=>match bm C ops E.rd (nt+32*i) o.guard o with
   |none=>none
   |some ef=>kX o a E (fun E'=>Hh C ops nt l (i+1) E' k) ef
theorem KO (C:Cx) (ops:List Oper) (nt:Nat) (k:Env→Option ρ):∀(l:List Oper) (i:Nat) (E:Env),Hh C ops nt l i E k=ur C ops nt l i E k
 | [],_,_=>rfl
 |o::l,i,E=>by
  simp only[Hh,ur,Cy]
  cases guardOf ops E.rd o.guard with
  |none=>rfl
  |some a=>
   simp only
   cases bm C ops E.rd (nt+32*i) o.guard o with
   |none=>rfl
   |some ef=>
    simp only
    congr 1
    funext E'
    exact KO C ops nt k l (i+1) E'
def A4 (o:Oper) (a:Option Bool) (ef:Ef) (k:Tr×List (Nat×SV)→Option ρ):Option ρ:=
 match ef with
 | .val v=>k (.id,wr o.dst (cY o.guard a v))
 | .chk c v=>if(match a with|none=>c|some b=> !b||c)=true then k (.id,wr o.dst (cY o.guard a v))else none
 | .opt _ z x f=>(match a with|none=>x|some b=>if b=true then x else some z).bind fun r=>k (.id,wr o.dst (cY o.guard a (f r)))
 | .put b s v=>match a.isNone&&o.dst.isNone with|true=>k (.id,[(s,.box b v)])|false=>none
 | .app c kl gv t v=>match a.isNone with|true=>(if c=true then k (.kg kl gv t,wr o.dst v.je)else none)|false=>none
 | .elem gv b e l m=>match a.isNone&&o.dst.isNone with|true=>k (.el gv b e l m,[])|false=>none
 | .call _ x tks f rp=>match a.isNone with|true=>x.bind fun r=>k (.ki tks (rp r),(f r).2.map (fun p=>(p.2.1,SV.box p.1 p.2.2))++wr o.dst (f r).1.je)|false=>none
theorem Su (o:Oper) (a:Option Bool) (ef:Ef) (k:Tr×List (Nat×SV)→Option ρ):A4 o a ef k=px o a ef k:=by
 cases ef with
 |put b s v=>simp only[A4,px];cases (a.isNone&&o.dst.isNone)<;>rfl
 |app c kl gv t v=>simp only[A4,px];cases (a.isNone)<;>rfl
 |elem gv b e l m=>simp only[A4,px];cases (a.isNone&&o.dst.isNone)<;>rfl
 |call α x tks f rp=>simp only[A4,px];cases (a.isNone)<;>rfl
 |_=>rfl
def wa (C:Cx) (ops:List Oper) (nt:Nat):List Oper→Nat→Env→List fC→(Env→List fC→Option ρ)→Option ρ
 | [],_,E,L,k=>k E L
 |o::l,i,E,L,k=>match guardOf ops E.rd o.guard with
  |none=>none
  |some a=>match bm C ops E.rd (nt+32*i) o.guard o with
   |none=>none
   |some ef=>A4 o a ef fun r=>wa C ops nt l (i+1) (E.fO r) (dG ops i o E r::L) k
theorem xp (C:Cx) (ops:List Oper) (nt:Nat) (k:Env→List fC→Option ρ):∀(l:List Oper) (i:Nat) (E:Env) (L:List fC),wa C ops nt l i E L k=sg C ops nt l i E L k
 | [],_,_,_=>rfl
 |o::l,i,E,L=>by
  simp only[wa,sg,Su]
  cases guardOf ops E.rd o.guard with
  |none=>rfl
  |some a=>
   simp only
   cases bm C ops E.rd (nt+32*i) o.guard o with
   |none=>rfl
   |some ef=>
    simp only
    congr 1
    funext r
    exact xp C ops nt k l (i+1) (E.fO r) _
def tg (C:Cx):Code→Env→(Env→Option ρ)→List (Nat×(Env→Option ρ))→(Env→Option ρ)→Option ρ
 | .skip,E,kn,_,_=>kn E
 | .region _ ops draw,E,kn,_,_=>match ee ops.toList&&keeps C.io ops.toList with
   |true=>(match draw with
    |true=>wa C ops.toList E.nt ops.toList 0 E [] (fun E' L=>match oS ops.toList L with|true=>kn {gl E' ops.toList with nt:=E.nt+32*ops.size}|false=>none)
    |false=>Hh C ops.toList E.nt ops.toList 0 E (fun E'=>kn {gl E' ops.toList with nt:=E.nt+32*ops.size}))
   |false=>none
 | .seq a b,E,kn,ke,kr=>
   match(fx b).bind C.ja with
   |none=>tg C a E (fun E'=>tg C b E' kn ke kr) ke kr
   |some n=>aO (fun J=>tg C a E (fun E'=>match proj n E' with|some t=>J t|none=>none) ke kr) (fun t=>tg C b (dB C.n n t) kn ke kr)
 | .cond c x y,E,kn,ke,kr=>
   match arg C E.rd none 0 c with
   |some (.d ⟨.bool,b,_⟩)=>if b=true then tg C x E kn ke kr else tg C y E kn ke kr
   |_=>none
 | .block id c,E,kn,ke,kr=>tg C c E kn ((id,kn)::ke) kr
 | .loop c,E,_,ke,kr=>
   match(fx c).bind C.la with
   |none=>none
   |some n=>match proj n E with
    |some t=>az C.k (fun G t=>tg C c (dB C.n n t) (fun E'=>match proj n E' with|some t=>G t|none=>none) ke kr) t
    |none=>none
 | .exit id,E,_,ke,_=>match ke.lookup id with|some k=>k E|none=>none
 | .ret,E,_,_,kr=>kr E
 |_,_,_,_,_=>none
theorem TY (C:Cx):∀(c:Code) (E:Env) (kn:Env→Option ρ) (ke:List (Nat×(Env→Option ρ))) (kr:Env→Option ρ),tg C c E kn ke kr=ev C c E kn ke kr:=by
 intro c
 induction c with
 |region id ops draw=>
  intro E kn ke kr
  simp only[tg,ev]
  cases h:(ee ops.toList&&keeps C.io ops.toList)with
  |false=>rfl
  |true=>
   simp only[if_true]
   cases draw with
   |true=>
    simp only[if_true,xp]
    congr 1
    funext E' L
    cases oS ops.toList L<;>rfl
   |false=>simp only[Bool.false_eq_true,if_false,KO]
 |seq a b iha ihb=>
  intro E kn ke kr
  simp only[tg,ev]
  cases (fx b).bind C.ja with
  |none=>simp only[iha,ihb]
  |some n=>
   simp only[iha,ihb]
   congr 1
   funext J
   congr 1
   funext E'
   cases proj n E'<;>rfl
 |cond c x y ihx ihy=>intro E kn ke kr;simp only[tg,ev,ihx,ihy];rfl
 |block id c ih=>intro E kn ke kr;simp only[tg,ev,ih]
 |loop c ih=>
  intro E kn ke kr
  simp only[tg,ev]
  cases (fx c).bind C.la with
  |none=>rfl
  |some n=>
   simp only[ih]
   cases proj n E with
   |none=>rfl
   |some t=>
    simp only[Option.bind_some]
    congr 1
    funext G t
    congr 1
    funext E'
    cases proj n E'<;>rfl
 |_=>intros;rfl
end
def Ql (C:Cx) (ps:List PK) (rs:List RK) (kp:List (Nat×List Bool)) (fn:Func) (x:aT (ps.map PK.ty)):Option (aT (rs.map RK.ty++bh ps)):=
 match fn.body with
 |none=>none
 |some c=>
  let e:=br ps x 3
  tg {C with n:=fn.ntmps,io:=fc ps 0} c ⟨e.1++List.replicate (fn.ntmps-e.1.length) .no,e.2,true⟩ (fin C.tt ps rs kp fn.results.toList e.2) [] (fin C.tt ps rs kp fn.results.toList e.2)
theorem SR (C:Cx) (ps:List PK) (rs:List RK) (kp:List (Nat×List Bool)) (fn:Func) (x:aT (ps.map PK.ty)):Ql C ps rs kp fn x=PW C ps rs kp fn x:=by
 unfold Ql PW
 cases fn.body with
 |none=>rfl
 |some c=>exact TY ..
end Vg
namespace Vg
open Go
section
variable {P:Program} {C:Cx} {w0:World} {c0:C0} {U:Nat→Prop} {E:Env} {a:Act} {w:World} {G:Gh} {Q:Exit→Act→World→Prop}
theorem Tl {e:Ty} {l:List e.den} {b off cap:Nat} {c:Array Value} {el:TypeId} {Bs:List Nat} {i:Nat} (hi:i<l.length) (hh:w.heap[b]?=some (.cells c el (0,0)))
 (hsz:off+cap*e.sz≤c.size) (hcap:l.length≤cap) (hl:bg (aR w e) l ((c.toList.drop off).take (l.length*e.sz)) Bs) (hn:(b::Bs).Nodup):
 ∃Bs',dI (w.setCells b (off+i*e.sz) (((c.toList.drop off).take (l.length*e.sz)).drop ((i+1)*e.sz))) e.sz (aR (w.setCells b (off+i*e.sz) (((c.toList.drop off).take (l.length*e.sz)).drop ((i+1)*e.sz))) e)
  (l.take i++l.drop (i+1)) (.slice (some ⟨b,off,none⟩) (l.length-1) cap) (b::Bs')∧(∀x∈Bs',x∈Bs)∧(b::Bs').Nodup:=by
 have hx:l[i]?=some l[i]:=List.getElem?_eq_getElem hi
 obtain⟨B1,Bx,B2,rfl,_,h1,h2⟩:=bg.get (sz:=e.sz) (fun x c B h=>aR.len h) hl hx
 generalize hcs:(c.toList.drop off).take (l.length*e.sz)=cs at*
 have hm1:i*e.sz+e.sz=(i+1)*e.sz:=by rw[Nat.add_mul,Nat.one_mul]
 have hm2:(i+1)*e.sz≤l.length*e.sz:=Nat.mul_le_mul_right _ hi
 have hm3:l.length*e.sz≤cap*e.sz:=Nat.mul_le_mul_right _ hcap
 have hcl:cs.length=l.length*e.sz:=by rw[←hcs];simp;omega
 generalize hys:cs.drop ((i+1)*e.sz)=ys at*
 have hyl:ys.length=l.length*e.sz-(i+1)*e.sz:=by rw[←hys];simp[hcl]
 have hrow:=gj b (el:=el) ys (off+i*e.sz) w c hh (by omega)
 rw[List.nodup_cons]at hn
 simp only[List.mem_append,not_or,List.append_assoc]at hn
 have hne:∀z∈B1++B2,(w.setCells b (off+i*e.sz) ys).heap[z]?=w.heap[z]?:=by
  intro z hz
  refine bD b _ _ w z (fun e=> ?_)
  subst e
  rcases List.mem_append.1 hz with h|h
  ·exact hn.1.1 h
  ·exact hn.1.2.2 h
 refine⟨B1++B2,.inr ⟨b,off,cap,_,el,(0,0),B1++B2,?_,?_,hrow,?_,rfl,?_⟩,?_,?_⟩
 ·simp;omega
 ·simp;omega
 ·simp;omega
 ·have hlen:(l.take i++l.drop (i+1)).length*e.sz=i*e.sz+ys.length:=by
   have:(l.take i++l.drop (i+1)).length=i+(l.length-(i+1)):=by simp;omega
   rw[this,Nat.add_mul,hyl,Nat.sub_mul]
  have hcells:((c.toList.take (off+i*e.sz)++ys++c.toList.drop (off+i*e.sz+ys.length)).drop off).take ((l.take i++l.drop (i+1)).length*e.sz)=cs.take (i*e.sz)++ys:=by
   have htl:(c.toList.take (off+i*e.sz)).length=off+i*e.sz:=by simp;omega
   have e1:(c.toList.take (off+i*e.sz)).drop off=cs.take (i*e.sz):=by
    rw[←hcs,List.take_take,Nat.min_eq_left (by omega),List.drop_take]
    congr 1;omega
   rw[List.append_assoc,List.drop_append_of_le_length (by omega),e1,←List.append_assoc,hlen]
   have hl2:(cs.take (i*e.sz)++ys).length=i*e.sz+ys.length:=by rw[List.length_append,List.length_take,hcl,Nat.min_eq_left (by omega)]
   rw[←hl2,List.take_left]
  have hr:=bg.append h1 h2
  have:=bg.world hne hr
  rw[hcells]
  exact this
 ·intro x hx
  rcases List.mem_append.1 hx with h|h
  ·simp[h]
  ·simp[h]
 ·rw[List.nodup_cons]
  refine⟨fun h=> ?_,?_⟩
  ·rcases List.mem_append.1 h with h|h
   ·exact hn.1.1 h
   ·exact hn.1.2.2 h
  ·have h2:=hn.2
   rw[List.nodup_append]at h2⊢
   obtain⟨q1,q2,q3⟩:=h2
   rw[List.nodup_append]at q2
   exact⟨q1,q2.2.1,fun a ha b hb=>q3 a ha b (List.mem_append_right _ hb)⟩
theorem Inv.del (hI:Inv w0 c0 U E a w G) {e:Ty} {l:List e.den} {v:Value} {m:M} {ts:List Nat} (hr:bW w G e l v m) (ho:m.own=some ts) (hts:∀c∈ts,3≤c∧Good U G c)
 {i:Nat} (hi:i<l.length) {tk:Nat} (h3:3≤tk) (hU:¬U tk):
 ∃b off cap c el,v= .slice (some ⟨b,off,none⟩) l.length cap∧l.length≤cap∧w.heap[b]?=some (.cells c el (0,0))∧off+cap*e.sz≤c.size∧(∀u∈(c.toList.drop off).take (l.length*e.sz),u.oneCell'=true)∧
  ∃G',Inv w0 c0 (fun u=>U u∨u=tk) (E.kill ts) a (w.setCells b (off+i*e.sz) (((c.toList.drop off).take (l.length*e.sz)).drop ((i+1)*e.sz))) G'∧
   bW (w.setCells b (off+i*e.sz) (((c.toList.drop off).take (l.length*e.sz)).drop ((i+1)*e.sz))) G' e (l.take i++l.drop (i+1)) (.slice (some ⟨b,off,none⟩) (l.length-1) cap) (.row tk [tk] true)∧G'.bx tk=false:=by
 obtain⟨B,hB,hn,hc⟩:=hr.own ho
 rcases hB with⟨_,rfl,_⟩|⟨b,off,cap,c,el,fz,Bs,hv,hcap,hb,hsz,rfl,hl⟩
 ·simp at hi
 ·have hcb:=hc b (by simp)
  obtain⟨c',el',hf⟩:=hI.fresh b (hts _ hcb).1
  rw[hf]at hb
  simp only[Option.some.injEq,Obj.cells.injEq]at hb
  obtain⟨rfl,rfl,rfl⟩:=hb
  obtain⟨Bs',r1,r2,r3⟩:=Tl hi hf hsz hcap hl hn
  refine⟨b,off,cap,c',el',hv,hcap,hf,hsz,bg.S8 hl,G.aS ts tk (.slice (some ⟨b,off,none⟩) (l.length-1) cap),?_,⟨h3,by simp[Gh.aS],b::Bs',r1,fun b2 Bs2 h2=> ?_⟩,by simp[Gh.aS]⟩
  ·have hm2:(i+1)*e.sz≤l.length*e.sz:=Nat.mul_le_mul_right _ hi
   have hm1:i*e.sz+e.sz=(i+1)*e.sz:=by rw[Nat.add_mul,Nat.one_mul]
   have hm3:l.length*e.sz≤cap*e.sz:=Nat.mul_le_mul_right _ hcap
   generalize hys:((c'.toList.drop off).take (l.length*e.sz)).drop ((i+1)*e.sz)=ys at*
   have hyl:ys.length=l.length*e.sz-(i+1)*e.sz:=by rw[←hys];simp;omega
   have hrow:=gj b (el:=el') ys (off+i*e.sz) w c' hf (by omega)
   refine(hI.kill ts).change (ts:=ts) (Pp hI hts) (fun z _ hz=>⟨bD b _ _ w z (fun e=>hz (e▸hcb)),by simp[Gh.aS,hz]⟩) (fun u hu=> ?_) (fun _ h=> .inl h) (fun z hz=> ?_)
    (fun z hz=> ?_) (fun z hz=> ?_) (fun z hz hc1=> ?_) (fun z hz=> ?_) (by rw[dY];exact Nat.le_refl _)
    (cx b _ _ w).1 (cx b _ _ w).2.1 (cx b _ _ w).2.2
   ·have:u≠tk:=fun e=>hU (e▸hu)
    simp[Gh.aS,this]
   ·simp only[Gh.aS]at hz⊢
    split at hz
    ·right;rw[if_pos (by assumption)]
    ·left;rw[if_neg (by assumption)];exact hI.colU z hz
   ·rw[dY]
    simp only[Gh.aS]at hz
    split at hz
    ·rename_i h;exact hI.lt z (by have:=(hts _ h).1;omega)
    ·exact hI.lt z hz
   ·have hz3:3≤G.col z:=by
     simp only[Gh.aS]at hz
     split at hz
     ·rename_i h;exact(hts _ h).1
     ·exact hz
    by_cases e1:z=b
    ·subst e1;exact⟨_,_,hrow⟩
    ·rw[bD b _ _ w z e1];exact hI.fresh z hz3
   ·have hf:=hI.frame z hz hc1
    have hnot:G.col z∉ts:=fun h=>by have:=(hts _ h).1;omega
    refine⟨(if_neg hnot).trans hf.1,?_⟩
    rw[bD b _ _ w z (fun e=>hnot (e▸hcb))]
    exact hf.2
   ·simp only[Gh.aS]at hz
    split at hz
    ·omega
    ·exact hz
  ·cases h2
   refine⟨by simp[Gh.aS,hcb],(List.nodup_cons.1 r3).1,fun x hx=> ?_,fun _=>(List.nodup_cons.1 r3).2⟩
   simp[Gh.aS,hc x (List.mem_cons_of_mem _ (r2 x hx))]
end
end Vg
namespace Vg
open Go
def uU (o:Oper):Option (Nat×Nat):=
 match o.guard,o.op,o.dst with
 |none,.move (.tmp x),some d=>some (d,x)
 |_,_,_=>none
def Mq (o:Oper):Option (Nat×Nat):=
 match o.guard,o.op,o.dst with
 |none,.assign (.tmp x),some d=>some (d,x)
 |_,_,_=>none
def P3 (o:Oper):Option (TypeId×Nat×Nat×Nat):=
 match o.guard,o.op,o.dst with
 |none,.slice t (.tmp x) none (some (.tmp h)) none,some d=>some (t,d,x,h)
 |_,_,_=>none
def QM (o:Oper):Option (TypeId×Nat×Nat×Nat):=
 match o.guard,o.op,o.dst with
 |none,.slice t (.tmp x) (some (.tmp h)) none none,some d=>some (t,d,x,h)
 |_,_,_=>none
def Mp (o:Oper):Option (TypeId×Nat×Nat):=
 match o.guard,o.op,o.dst with
 |none,.binOp .add t (.tmp x) (.const (.int .i64 1)) _,some d=>some (t,d,x)
 |_,_,_=>none
def Mn (o:Oper):Option (TypeId×Nat×Nat×Nat):=
 match o.guard,o.op,o.dst with
 |none,.call c,some d=>(match c.callee,c.args.toList,c.argTypes.toList with
  | .builtin .append,[.tmp x,.tmp y],[t,u]=>(match decide (t=u)with|true=>some (t,d,x,y)|false=>none)
  |_,_,_=>none)
 |_,_,_=>none
structure ld where
 t:TypeId
 ti:TypeId
 s:Nat
 j:Nat
 d0:Nat
 d1:Nat
 d2:Nat
 d3:Nat
 d4:Nat
 d5:Nat
 d6:Nat
 d7:Nat
def ld.tmps (d:ld):List Nat:=[d.s,d.j,d.d0,d.d1,d.d2,d.d3,d.d4,d.d5,d.d6,d.d7]
def ld.outs (d:ld):List Nat:=[d.s,d.d0,d.d1,d.d2,d.d3,d.d4,d.d5,d.d6,d.d7]
def NR (n:Nat):Nat→Array Bool
 |0=>Array.replicate n false
 |i+1=>(NR n i).setIfInBounds i true
def Nv (ops:Array Oper):Bool:=
 Region.noSelect ops&&(List.range 7).all (fun i=>Region.free .any ops (NR 9 i) i&&(Region.ready .any ops (NR 9 i)).contains i)&&
 decide (Region.ready .any ops (NR 9 7)=[7])&&decide (Region.ready .any ops (NR 9 8)=[8])&&decide (Region.ready .any ops (NR 9 9)=[])
def tV (ops:List Oper):Option ld:=
 match ops with
 | [o0,o1,o2,o3,o4,o5,o6,o7,o8]=>
   match uU o0,uU o1,P3 o2,uU o3,uU o4,Mp o5,QM o6,Mn o7,Mq o8 with
   |some (d0,s),some (d1,j),some (t,d2,x2,h2),some (d3,s3),some (d4,j4),some (ti,d5,x5),some (t6,d6,x6,l6),some (t7,d7,x7,y7),some (s8,x8)=>
    match decide (x2=d0∧h2=d1∧s3=s∧j4=j∧x5=d4∧x6=d3∧l6=d5∧x7=d2∧y7=d6∧x8=d7∧s8=s∧t6=t∧t7=t∧([s,j,d0,d1,d2,d3,d4,d5,d6,d7]:List Nat).Nodup)&&Nv #[o0,o1,o2,o3,o4,o5,o6,o7,o8]with
    |true=>some ⟨t,ti,s,j,d0,d1,d2,d3,d4,d5,d6,d7⟩
    |false=>none
   |_,_,_,_,_,_,_,_,_=>none
 |_=>none
section
variable {P:Program} {C:Cx} {w0:World} {c0:C0} {U:Nat→Prop} {E:Env} {a:Act} {w:World} {G:Gh} {Q:Exit→Act→World→Prop}
theorem jb {o:Oper} {d x:Nat} (h:uU o=some (d,x)):o.guard=none∧o.op= .move (.tmp x)∧o.dst=some d:=by
 unfold uU at h
 split at h
 ·rename_i h1 h2 h3;cases h;exact⟨h1,h2,h3⟩
 ·cases h
theorem EZ {o:Oper} {d x:Nat} (h:Mq o=some (d,x)):o.guard=none∧o.op= .assign (.tmp x)∧o.dst=some d:=by
 unfold Mq at h
 split at h
 ·rename_i h1 h2 h3;cases h;exact⟨h1,h2,h3⟩
 ·cases h
theorem KA {o:Oper} {t:TypeId} {d x y:Nat} (h:P3 o=some (t,d,x,y)):o.guard=none∧o.op= .slice t (.tmp x) none (some (.tmp y)) none∧o.dst=some d:=by
 unfold P3 at h
 split at h
 ·rename_i h1 h2 h3;cases h;exact⟨h1,h2,h3⟩
 ·cases h
theorem KB {o:Oper} {t:TypeId} {d x y:Nat} (h:QM o=some (t,d,x,y)):o.guard=none∧o.op= .slice t (.tmp x) (some (.tmp y)) none none∧o.dst=some d:=by
 unfold QM at h
 split at h
 ·rename_i h1 h2 h3;cases h;exact⟨h1,h2,h3⟩
 ·cases h
theorem Gn {o:Oper} {t:TypeId} {d x:Nat} (h:Mp o=some (t,d,x)):o.guard=none∧(∃u,o.op= .binOp .add t (.tmp x) (.const (.int .i64 1)) u)∧o.dst=some d:=by
 unfold Mp at h
 split at h
 ·rename_i h1 h2 h3;cases h;exact⟨h1,⟨_,h2⟩,h3⟩
 ·cases h
theorem GF {o:Oper} {t:TypeId} {d x y:Nat} (h:Mn o=some (t,d,x,y)):o.guard=none∧(∃c:Call,o.op= .call c∧c.callee= .builtin .append∧c.args= #[.tmp x,.tmp y]∧c.argTypes= #[t,t])∧o.dst=some d:=by
 unfold Mn at h
 split at h
 ·rename_i c d' h1 h2 h3
  split at h
  ·rename_i x' y' t' u' hc ha ht
   split at h
   ·rename_i e
    simp only[decide_eq_true_eq]at e
    cases h
    subst e
    exact⟨h1,⟨c,h2,hc,Array.ext' (by simpa using ha),Array.ext' (by simpa using ht)⟩,h3⟩
   ·cases h
  ·cases h
 ·cases h
theorem GP {o:Oper} {x:Nat} (h:o.op= .move (.tmp x)):(execOp a.eval o).run P w= .ok (.value (a.tmps.getD x undef)) w:=by
 simp only[execOp,h];rfl
theorem Tu {o:Oper} {x:Nat} (h:o.op= .assign (.tmp x)):(execOp a.eval o).run P w= .ok (.value (a.tmps.getD x undef)) w:=by
 simp only[execOp,h];rfl
theorem oI {d s:Nat} {v:Value} (h:d<a.tmps.size):(a.put (some d) v).tmps.getD s undef=if s=d then v else a.tmps.getD s undef:=by
 rw[N1 a (some d) v s (by rintro x ⟨⟩;exact h)]
 by_cases e:s=d
 ·subst e;rw[if_pos rfl,if_pos rfl]
 ·rw[if_neg (by simpa using e),if_neg e]
theorem R3 {o:Oper} {t el:TypeId} {e:Ty} {x y n cap b off:Nat} {i:Nat} (hu:P.underlying t=some (.slice el)) (hT:eU P el e) (h:o.op= .slice t (.tmp x) none (some (.tmp y)) none)
 (hx:a.tmps.getD x undef= .slice (some ⟨b,off,none⟩) n cap) (hy:a.tmps.getD y undef= .int .i64 i) (h1:i≤cap):(execOp a.eval o).run P w= .ok (.value (.slice (some ⟨b,off,none⟩) i cap)) w:=by
 simp only[execOp,h]
 refine dm ?_
 have hx':a.eval (.tmp x)= .slice (some ⟨b,off,none⟩) n cap:=hx
 have hy':a.eval (.tmp y)= .int .i64 i:=hy
 have:=fQ (P:=P) (w:=w) (k:= .i64) (i:=(i:Int)) (y:=cap) (code:= .sliceAcap) (by omega) (by omega)
 rw[hx']
 simp only[Int.toNat_natCast]at this
 by_cases hc:cap=0
 ·rw[hc]at this
  simp[Instr.sliceAt,Instr.slice,Instr.sliceBounds,run_underlying hu,cV hT,hy',this,hc]
 ·simp[Instr.sliceAt,Instr.slice,Instr.sliceBounds,run_underlying hu,cV hT,hy',this,Addr.add_lit]
theorem QZ {o:Oper} {t el:TypeId} {e:Ty} {x y n cap b off:Nat} {i:Nat} (hu:P.underlying t=some (.slice el)) (hT:eU P el e) (h:o.op= .slice t (.tmp x) (some (.tmp y)) none none)
 (hx:a.tmps.getD x undef= .slice (some ⟨b,off,none⟩) n cap) (hy:a.tmps.getD y undef= .int .i64 i) (h1:i≤n):(execOp a.eval o).run P w= .ok (.value (.slice (some ⟨b,if cap=i then off else off+i*e.sz,none⟩) (n-i) (cap-i))) w:=by
 simp only[execOp,h]
 refine dm ?_
 have hx':a.eval (.tmp x)= .slice (some ⟨b,off,none⟩) n cap:=hx
 have hy':a.eval (.tmp y)= .int .i64 i:=hy
 have:=fQ (P:=P) (w:=w) (k:= .i64) (i:=(i:Int)) (y:=n) (code:= .sliceB) (by omega) (by omega)
 rw[hx']
 simp only[Int.toNat_natCast]at this
 by_cases hc:cap=i
 ·subst hc
  simp[Instr.sliceAt,Instr.slice,Instr.sliceBounds,run_underlying hu,cV hT,hy',this]
 ·simp[Instr.sliceAt,Instr.slice,Instr.sliceBounds,run_underlying hu,cV hT,hy',this,hc,Addr.add_lit]
theorem TW {o:Oper} {t u:TypeId} {x:Nat} {i:Nat} (h:o.op= .binOp .add t (.tmp x) (.const (.int .i64 1)) u) (hx:a.tmps.getD x undef= .int .i64 i) (hi:i<4294967296):
 (execOp a.eval o).run P w= .ok (.value (.int .i64 ((i+1:Nat):Int))) w:=by
 simp only[execOp,h]
 refine dm ?_
 have hx':a.eval (.tmp x)= .int .i64 i:=hx
 have h1:a.eval (.const (.int .i64 1))= .int .i64 1:=rfl
 rw[hx',h1]
 have hw:IntKind.i64.wrap ((i:Int)+1)=((i+1:Nat):Int):=by
  simp only[IntKind.wrap,IntKind.signed,IntKind.bits]
  simp
  omega
 have hgd:∀v,eqGuard .add t (.tmp x) (.const (.int .i64 1)) (.int .i64 i) v=pure ():=fun v=>eqGuard_at_int ..
 simp[hgd,binOp,Op.intArith,hw]
theorem Rq (hI:Inv w0 c0 U E a w G) {j:Nat} {n:Int} {sh:Sh} (h:E.get j= .d ⟨.int .i64,n,sh⟩):a.tmps.getD j undef= .int .i64 n:=by
 have hs:=hI.slots j
 have h':E.s.getD j .no= .d ⟨.int .i64,n,sh⟩:=h
 rw[h']at hs
 obtain⟨cs,h1,h2⟩:=hs
 cases sh with
 |leaf=>rw[h1,show cs=_ from h2];rfl
 |sl m=>exact h2.elim
 |pair a b=>exact h2.elim
theorem Inv.qv (hI:Inv w0 c0 U E a w G) (d:Option Nat) (v:Value):Inv w0 c0 U (E.set d .no) (a.put d v) w G:=
 hI.put d (sv:= .no) trivial (by simp[SV.sc]) (by simp[SV.bt]) (by simp[SV.rt]) (by rintro _ _ ⟨⟩)
theorem EU {ops:Array Oper} {d:ld} (h:tV ops.toList=some d):∃o0 o1 o2 o3 o4 o5 o6 o7 o8,ops= #[o0,o1,o2,o3,o4,o5,o6,o7,o8]∧
 uU o0=some (d.d0,d.s)∧uU o1=some (d.d1,d.j)∧P3 o2=some (d.t,d.d2,d.d0,d.d1)∧uU o3=some (d.d3,d.s)∧uU o4=some (d.d4,d.j)∧Mp o5=some (d.ti,d.d5,d.d4)∧
 QM o6=some (d.t,d.d6,d.d3,d.d5)∧Mn o7=some (d.t,d.d7,d.d2,d.d6)∧Mq o8=some (d.s,d.d7)∧d.tmps.Nodup∧Nv ops=true:=by
 unfold tV at h
 split at h
 ·rename_i o0 o1 o2 o3 o4 o5 o6 o7 o8 hops
  split at h
  ·rename_i h0 h1 h2 h3 h4 h5 h6 h7 h8
   split at h
   ·rename_i hc
    simp only[Bool.and_eq_true,decide_eq_true_eq]at hc
    obtain⟨⟨rfl,rfl,rfl,rfl,rfl,rfl,rfl,rfl,rfl,rfl,rfl,rfl,rfl,hn⟩,ho⟩:=hc
    cases h
    have he:ops= #[o0,o1,o2,o3,o4,o5,o6,o7,o8]:=Array.ext' hops
    exact⟨o0,o1,o2,o3,o4,o5,o6,o7,o8,he,h0,h1,h2,h3,h4,h5,h6,h7,h8,hn,by rw[he];exact ho⟩
   ·cases h
  ·cases h
 ·cases h
theorem wK (b:Nat):∀(vs:List Value) (o n:Nat) (w:World),({w with drawn:=n}:World).setCells b o vs={w.setCells b o vs with drawn:=n}
 | [],_,_,_=>rfl
 |v::r,o,n,w=>by
  rw[World.setCells,World.setCells,←wK b r (o+1) n]
  rfl
def C8 (E:Env) (d:ld) (ts:List Nat) (tk:Nat) (e:Ty) (l:List e.den) (i:Nat):Env:=
 ((((((((((E.kill ts).set (some d.d0) .no).set (some d.d1) .no).set (some d.d2) .no).set (some d.d3) .no).set (some d.d4) .no).set (some d.d5) .no).set (some d.d6) .no).set (some d.d7) .no).set (some d.s)
   (.d ⟨.sl e,l.take i++l.drop (i+1),.sl (.row tk [tk] true)⟩))
theorem kL {ops:Array Oper} {o:Oper} {v:Value} (hg:o.guard=none) (h:∀w,(execOp a.eval o).run P w= .ok (.value v) w):Go.Yields P ops o v a:=
 .inl ⟨by simp[Region.wanted,hg],h⟩
set_option maxHeartbeats 1000000 in
theorem QN (hC:CxTy P C) (hm:P.follows .mixedOrders=true) {N:Nat} (hI:Inv w0 c0 (fun u=>u<N) E a w G) {ops:Array Oper} {d:ld} (hd:tV ops.toList=some d)
 {e:Ty} {l:List e.den} {m:M} {fs:List TypeId} {el:TypeId} (ht:C.tt d.t=some ⟨.sl e,fs,el⟩) (hs:E.s.getD d.s .no= .d ⟨.sl e,l,.sl m⟩) {i:Nat} {sh:Sh} (hj:E.get d.j= .d ⟨.int .i64,(i:Int),sh⟩)
 {ts:List Nat} (ho:m.own=some ts) (hi:i<l.length) (hl:l.length<4294967296) (hsz:∀x∈d.tmps,x<E.s.length) {tk:Nat} (h3:3≤tk) (hN:N≤tk) {id:Nat}
 (hK:∀a' w' G',Inv w0 c0 (fun u=>u<N∨u=tk) (C8 E d ts tk e l i) a' w' G'→(∀x,x∉d.outs→a'.tmps.getD x undef=a.tmps.getD x undef)→Q .normal a' w'):
 (Code.region id ops true).wp P Q a w:=by
 obtain⟨o0,o1,o2,o3,o4,o5,o6,o7,o8,rfl,q0,q1,q2,q3,q4,q5,q6,q7,q8,hn,hord⟩:=EU hd
 obtain⟨g0,p0,t0⟩:=jb q0
 obtain⟨g1,p1,t1⟩:=jb q1
 obtain⟨g2,p2,t2⟩:=KA q2
 obtain⟨g3,p3,t3⟩:=jb q3
 obtain⟨g4,p4,t4⟩:=jb q4
 obtain⟨g5,⟨u5,p5⟩,t5⟩:=Gn q5
 obtain⟨g6,p6,t6⟩:=KB q6
 obtain⟨g7,⟨c7,p7,pc,pa,pt⟩,t7⟩:=GF q7
 obtain⟨g8,p8,t8⟩:=EZ q8
 have hT:=(hC.tt _ _ ht).2
 obtain⟨hu,hel⟩:=hT
 have hslot:=hI.slots d.s
 have hment:=hI.kV d.s
 rw[hs]at hslot hment
 obtain⟨cs,hmv,hvk⟩:=hslot
 obtain⟨v,rfl,hrow⟩:=hvk
 have hv:a.tmps.getD d.s undef=v:=hmv
 have hjv:=Rq hI hj
 have hts:∀c∈ts,3≤c∧Good (fun u=>u<N) G c:=by
  intro c hc
  have hsub:=M.fX ho c hc
  have h1:=hment.1 c hsub
  refine⟨?_,h1⟩
  cases m with
  |row t hs' nd=>
   obtain⟨k1,k2,k3⟩:=M.hJ ho
   rcases(k3 c).1 hc with rfl|hc
   ·exact hrow.1
   ·exact k2 c hc
  |sha hs'=>
   cases hs' with
   |nil=>simp[M.own]at ho;subst ho;cases hc
   |cons x y=>simp[M.own]at ho
  |dead=>simp[M.own]at ho
 obtain⟨b,off,cap,c,elx,rfl,hcap,hheap,hszc,h1c,hdel⟩:=hI.del hrow ho hts hi h3 (Nat.not_lt.2 hN)
 obtain⟨G',hI',hrow',hbx'⟩:=hdel
 change l.length≤cap at hcap
 simp only[ld.tmps,List.nodup_cons,List.mem_cons,List.not_mem_nil,or_false,not_or,List.nodup_nil,and_true]at hn
 obtain⟨⟨n0_1,n0_2,n0_3,n0_4,n0_5,n0_6,n0_7,n0_8,n0_9⟩,⟨n1_2,n1_3,n1_4,n1_5,n1_6,n1_7,n1_8,n1_9⟩,⟨n2_3,n2_4,n2_5,n2_6,n2_7,n2_8,n2_9⟩,⟨n3_4,n3_5,n3_6,n3_7,n3_8,n3_9⟩,⟨n4_5,n4_6,n4_7,n4_8,n4_9⟩,⟨n5_6,n5_7,n5_8,n5_9⟩,⟨n6_7,n6_8,n6_9⟩,⟨n7_8,n7_9⟩,n8_9⟩:=hn
 have hlen:a.tmps.size=E.s.length:=hI.len
 simp only[ld.tmps,List.mem_cons,List.not_mem_nil,or_false,forall_eq_or_imp,forall_eq]at hsz
 rw[←hlen]at hsz
 obtain⟨z0,z1,z2,z3,z4,z5,z6,z7,z8,z9⟩:=hsz
 simp only[Nv,Bool.and_eq_true,List.all_eq_true,List.mem_range,decide_eq_true_eq]at hord
 obtain⟨⟨⟨⟨hsel,hfr⟩,hr7⟩,hr8⟩,hr9⟩:=hord
 refine wp_mono (Q:=fun ex a w=>ex= .normal∧Q .normal a w) ?_ (fun ex a w h=>by obtain⟨rfl,h⟩:=h;exact h)
 refine wp_region_any hm ?_
 have hQ:∀(v:Value) (o:Oper) c (a:Act) (w:World),(fun(ex:Exit) (a:Act) (w:World)=>ex= .normal∧Q .normal a w) (.panic c) (a.put o.dst v) w→(fun(ex:Exit) (a:Act) (w:World)=>ex= .normal∧Q .normal a w) (.panic c) a w:=
  fun v o c a w h=>by have:=h.1;cases this
 generalize hw1:({w with drawn:=w.drawn+1}:World)=w1
 show wpAny P .any _ _ 9 (NR 9 0) a w1
 refine wpAny_take (i:=0) (oi:=o0) (v:= .slice (some ⟨b,off,none⟩) l.length cap) rfl hsel (hfr 0 (by decide)).1 (hfr 0 (by decide)).2 (hQ _ _) (kL g0 (fun w=>by rw[←hv];exact GP p0)) ?_
 rw[t0]
 generalize ha1:a.put (some d.d0) (.slice (some ⟨b,off,none⟩) l.length cap)=a1
 have s1:a1.tmps.size=a.tmps.size:=by rw[←ha1,ia]
 have f1:∀s,a1.tmps.getD s undef=if s=d.d0 then .slice (some ⟨b,off,none⟩) l.length cap else a.tmps.getD s undef:=fun s=>by rw[←ha1];exact oI z2
 refine wpAny_take (i:=1) (oi:=o1) (v:= .int .i64 i) rfl hsel (hfr 1 (by decide)).1 (hfr 1 (by decide)).2 (hQ _ _) (kL g1 (fun w=>by
  have:=GP (P:=P) (a:=a1) (w:=w) p1;rw[f1,if_neg n1_2,hjv]at this;exact this)) ?_
 rw[t1]
 generalize ha2:a1.put (some d.d1) (.int .i64 i)=a2
 have s2:a2.tmps.size=a.tmps.size:=by rw[←ha2,ia,s1]
 have f2:∀s,a2.tmps.getD s undef=if s=d.d1 then .int .i64 i else a1.tmps.getD s undef:=fun s=>by rw[←ha2];exact oI (by rw[s1];exact z3)
 refine wpAny_take (i:=2) (oi:=o2) (v:= .slice (some ⟨b,off,none⟩) i cap) rfl hsel (hfr 2 (by decide)).1 (hfr 2 (by decide)).2 (hQ _ _) (kL g2 (fun w=>
  R3 (n:=l.length) hu hel p2 (by rw[f2,if_neg n2_3,f1,if_pos rfl]) (by rw[f2,if_pos rfl]) (by omega))) ?_
 rw[t2]
 generalize ha3:a2.put (some d.d2) (.slice (some ⟨b,off,none⟩) i cap)=a3
 have s3:a3.tmps.size=a.tmps.size:=by rw[←ha3,ia,s2]
 have f3:∀s,a3.tmps.getD s undef=if s=d.d2 then .slice (some ⟨b,off,none⟩) i cap else a2.tmps.getD s undef:=fun s=>by rw[←ha3];exact oI (by rw[s2];exact z4)
 refine wpAny_take (i:=3) (oi:=o3) (v:= .slice (some ⟨b,off,none⟩) l.length cap) rfl hsel (hfr 3 (by decide)).1 (hfr 3 (by decide)).2 (hQ _ _) (kL g3 (fun w=>by
  have:=GP (P:=P) (a:=a3) (w:=w) p3;rw[f3,if_neg n0_4,f2,if_neg n0_3,f1,if_neg n0_2,hv]at this;exact this)) ?_
 rw[t3]
 generalize ha4:a3.put (some d.d3) (.slice (some ⟨b,off,none⟩) l.length cap)=a4
 have s4:a4.tmps.size=a.tmps.size:=by rw[←ha4,ia,s3]
 have f4:∀s,a4.tmps.getD s undef=if s=d.d3 then .slice (some ⟨b,off,none⟩) l.length cap else a3.tmps.getD s undef:=fun s=>by rw[←ha4];exact oI (by rw[s3];exact z5)
 refine wpAny_take (i:=4) (oi:=o4) (v:= .int .i64 i) rfl hsel (hfr 4 (by decide)).1 (hfr 4 (by decide)).2 (hQ _ _) (kL g4 (fun w=>by
  have:=GP (P:=P) (a:=a4) (w:=w) p4;rw[f4,if_neg n1_5,f3,if_neg n1_4,f2,if_neg n1_3,f1,if_neg n1_2,hjv]at this;exact this)) ?_
 rw[t4]
 generalize ha5:a4.put (some d.d4) (.int .i64 i)=a5
 have s5:a5.tmps.size=a.tmps.size:=by rw[←ha5,ia,s4]
 have f5:∀s,a5.tmps.getD s undef=if s=d.d4 then .int .i64 i else a4.tmps.getD s undef:=fun s=>by rw[←ha5];exact oI (by rw[s4];exact z6)
 refine wpAny_take (i:=5) (oi:=o5) (v:= .int .i64 ((i+1:Nat):Int)) rfl hsel (hfr 5 (by decide)).1 (hfr 5 (by decide)).2 (hQ _ _) (kL g5 (fun w=>
  TW p5 (by rw[f5,if_pos rfl]) (by omega))) ?_
 rw[t5]
 generalize ha6:a5.put (some d.d5) (.int .i64 ((i+1:Nat):Int))=a6
 have s6:a6.tmps.size=a.tmps.size:=by rw[←ha6,ia,s5]
 have f6:∀s,a6.tmps.getD s undef=if s=d.d5 then .int .i64 ((i+1:Nat):Int)else a5.tmps.getD s undef:=fun s=>by rw[←ha6];exact oI (by rw[s5];exact z7)
 refine wpAny_take (i:=6) (oi:=o6) (v:= .slice (some ⟨b,if cap=i+1 then off else off+(i+1)*e.sz,none⟩) (l.length-(i+1)) (cap-(i+1))) rfl hsel (hfr 6 (by decide)).1 (hfr 6 (by decide)).2 (hQ _ _) (kL g6 (fun w=>
  QZ (n:=l.length) (cap:=cap) (i:=i+1) hu hel p6 (by rw[f6,if_neg n5_7,f5,if_neg n5_6,f4,if_pos rfl]) (by rw[f6,if_pos rfl]) (by omega))) ?_
 rw[t6]
 generalize ha7:a6.put (some d.d6) (.slice (some ⟨b,if cap=i+1 then off else off+(i+1)*e.sz,none⟩) (l.length-(i+1)) (cap-(i+1)))=a7
 have s7:a7.tmps.size=a.tmps.size:=by rw[←ha7,ia,s6]
 have f7:∀s,a7.tmps.getD s undef=if s=d.d6 then .slice (some ⟨b,if cap=i+1 then off else off+(i+1)*e.sz,none⟩) (l.length-(i+1)) (cap-(i+1))else a6.tmps.getD s undef:=fun s=>by rw[←ha7];exact oI (by rw[s6];exact z8)
 refine wpAny_all hr7 (by simp) (fun j hj=> ?_)
 obtain rfl:j=7:=by simpa using hj
 have hm2:(i+1)*e.sz≤l.length*e.sz:=Nat.mul_le_mul_right _ hi
 have hm1:i*e.sz+e.sz=(i+1)*e.sz:=by rw[Nat.add_mul,Nat.one_mul]
 have hm3:l.length*e.sz≤cap*e.sz:=Nat.mul_le_mul_right _ hcap
 have hm4:(l.length-(i+1))*e.sz=l.length*e.sz-(i+1)*e.sz:=Nat.sub_mul ..
 have happ:(execOp a7.eval o7).run P w1= .ok (.value (.slice (some ⟨b,off,none⟩) (l.length-1) cap)) (w1.setCells b (off+i*e.sz) (((c.toList.drop off).take (l.length*e.sz)).drop ((i+1)*e.sz))):=by
  obtain⟨inf,dd,hinf,hsize,hz,hby,_⟩:=hel
  have hheap1:w1.heap[b]?=some (.cells c elx (0,0)):=by rw[←hw1];exact hheap
  have hys:∀k u,(((c.toList.drop off).take (l.length*e.sz)).drop ((i+1)*e.sz))[k]?=some u→c[off+(i+1)*e.sz+k]?=some u:=by
   intro k u hk
   rw[List.getElem?_drop,List.getElem?_take]at hk
   split at hk
   ·rw[List.getElem?_drop]at hk
    rw[←Array.getElem?_toList]
    rw[←hk];congr 1;omega
   ·cases hk
  have hyl:(((c.toList.drop off).take (l.length*e.sz)).drop ((i+1)*e.sz)).length=(l.length-(i+1))*e.sz:=by
   simp;omega
  have hr:=run_append_room_cells (P:=P) w1 d.t o7.type el inf hu hinf b off i cap ⟨b,if cap=i+1 then off else off+(i+1)*e.sz,none⟩ (l.length-(i+1)) (cap-(i+1))
   (((c.toList.drop off).take (l.length*e.sz)).drop ((i+1)*e.sz)) (by rw[hsize];exact hyl) (fun k u hk=>by
     have hlt:k<(((c.toList.drop off).take (l.length*e.sz)).drop ((i+1)*e.sz)).length:=(List.getElem?_eq_some_iff.1 hk).1
     have hne:cap≠i+1:=by
      intro hc
      have:l.length-(i+1)=0:=by omega
      rw[hyl,this]at hlt
      omega
     rw[if_neg hne,Addr.add_lit,kW hheap1]
     exact hys k u hk) (fun u hu=>h1c u (List.mem_of_mem_drop hu)) (by omega)
   (fun k hk=>by rw[kW hheap1,hsize];rw[hyl]at hk;have:off+i*e.sz+k<c.size:=by omega
                 simp[this]) (fun k hk=>rA hheap1 _)
  rw[hsize]at hr
  have e1:a7.eval (.tmp d.d2)= .slice (some ⟨b,off,none⟩) i cap:=by
   show a7.tmps.getD d.d2 undef=_
   rw[f7,if_neg n4_8,f6,if_neg n4_7,f5,if_neg n4_6,f4,if_neg n4_5,f3,if_pos rfl]
  have e2:a7.eval (.tmp d.d6)= .slice (some ⟨b,if cap=i+1 then off else off+(i+1)*e.sz,none⟩) (l.length-(i+1)) (cap-(i+1)):=by
   show a7.tmps.getD d.d6 undef=_
   rw[f7,if_pos rfl]
  have hn1:i+(l.length-(i+1))=l.length-1:=by omega
  rw[hn1]at hr
  simp only[execOp,p7]
  simp[resolve,pc,invoke,builtin,pa,pt,e1,e2,hr]
 refine dr (ops:=[o0,o1,o2,o3,o4,o5,o6,o7,o8]) (i:=7) rfl (by simp[Region.wanted,g7]) ?_
 unfold Oper.wp
 rw[happ]
 rw[Oper.upon_value,t7]
 generalize ha8:a7.put (some d.d7) (.slice (some ⟨b,off,none⟩) (l.length-1) cap)=a8
 have s8:a8.tmps.size=a.tmps.size:=by rw[←ha8,ia,s7]
 have f8:∀s,a8.tmps.getD s undef=if s=d.d7 then .slice (some ⟨b,off,none⟩) (l.length-1) cap else a7.tmps.getD s undef:=fun s=>by rw[←ha8];exact oI (by rw[s7];exact z9)
 refine wpAny_all hr8 (by simp) (fun j hj=> ?_)
 obtain rfl:j=8:=by simpa using hj
 refine dr (ops:=[o0,o1,o2,o3,o4,o5,o6,o7,o8]) (i:=8) rfl (by simp[Region.wanted,g8]) ?_
 unfold Oper.wp
 rw[Tu p8,f8,if_pos rfl,Oper.upon_value,t8]
 refine⟨hr9,rfl,?_⟩
 have hw2:w1.setCells b (off+i*e.sz) (((c.toList.drop off).take (l.length*e.sz)).drop ((i+1)*e.sz))={w.setCells b (off+i*e.sz) (((c.toList.drop off).take (l.length*e.sz)).drop ((i+1)*e.sz))with drawn:=w.drawn+1}:=by
  rw[←hw1];exact wK ..
 rw[hw2]
 have hI2:=hI'.drawn (w.drawn+1)
 have hrow2:bW {w.setCells b (off+i*e.sz) (((c.toList.drop off).take (l.length*e.sz)).drop ((i+1)*e.sz))with drawn:=w.drawn+1} G' e (l.take i++l.drop (i+1)) (.slice (some ⟨b,off,none⟩) (l.length-1) cap) (.row tk [tk] true):=
  bW.agree (w:=w.setCells b (off+i*e.sz) (((c.toList.drop off).take (l.length*e.sz)).drop ((i+1)*e.sz))) (G:=G') ⟨fun _ _=>rfl,fun _ _=>rfl,fun _ _=>rfl⟩ hrow'
 have k0:=hI2.qv (some d.d0) (.slice (some ⟨b,off,none⟩) l.length cap)
 rw[ha1]at k0
 have k1:=k0.qv (some d.d1) (.int .i64 i)
 rw[ha2]at k1
 have k2:=k1.qv (some d.d2) (.slice (some ⟨b,off,none⟩) i cap)
 rw[ha3]at k2
 have k3:=k2.qv (some d.d3) (.slice (some ⟨b,off,none⟩) l.length cap)
 rw[ha4]at k3
 have k4:=k3.qv (some d.d4) (.int .i64 i)
 rw[ha5]at k4
 have k5:=k4.qv (some d.d5) (.int .i64 ((i+1:Nat):Int))
 rw[ha6]at k5
 have k6:=k5.qv (some d.d6) (.slice (some ⟨b,if cap=i+1 then off else off+(i+1)*e.sz,none⟩) (l.length-(i+1)) (cap-(i+1)))
 rw[ha7]at k6
 have k7:=k6.qv (some d.d7) (.slice (some ⟨b,off,none⟩) (l.length-1) cap)
 rw[ha8]at k7
 have hgood:∀c'∈(SV.d ⟨.sl e,l.take i++l.drop (i+1),.sl (.row tk [tk] true)⟩).sc,0<c'∧(c'<N∨c'=tk)∧G'.bx c'=false:=by
  intro c' hc'
  simp only[SV.sc,Sh.aD,M.aD,List.mem_cons,List.not_mem_nil,or_false,or_self]at hc'
  subst hc'
  exact⟨by omega,.inr rfl,hbx'⟩
 have k8:=k7.put (some d.s) (sv:= .d ⟨.sl e,l.take i++l.drop (i+1),.sl (.row tk [tk] true)⟩) (v:= .slice (some ⟨b,off,none⟩) (l.length-1) cap) ⟨[_],rfl,_,rfl,hrow2⟩ hgood (by simp[SV.bt]) (by simp[SV.rt]) (by rintro _ _ ⟨⟩)
 refine hK _ _ _ k8 (fun x hx=> ?_)
 simp only[ld.outs,List.mem_cons,List.not_mem_nil,or_false,not_or]at hx
 obtain⟨x0,x2,x3,x4,x5,x6,x7,x8,x9⟩:=hx
 rw[oI (by rw[s8];exact z0),if_neg x0,f8,if_neg x9,f7,if_neg x8,f6,if_neg x7,f5,if_neg x6,f4,if_neg x5,f3,if_neg x4,f2,if_neg x3,f1,if_neg x2]
theorem SO {ops:List Oper} {d:ld} (h:tV ops=some d):∀x∈d.outs,∃o∈ops,o.dst=some x:=by
 have h':tV ops.toArray.toList=some d:=by simpa using h
 obtain⟨o0,o1,o2,o3,o4,o5,o6,o7,o8,he,q0,q1,q2,q3,q4,q5,q6,q7,q8,_⟩:=EU h'
 have he':ops=[o0,o1,o2,o3,o4,o5,o6,o7,o8]:=by
  have:=congrArg Array.toList he
  simpa using this
 subst he'
 intro x hx
 simp only[ld.outs,List.mem_cons,List.not_mem_nil,or_false]at hx
 rcases hx with rfl|rfl|rfl|rfl|rfl|rfl|rfl|rfl|rfl
 ·exact⟨o8,by simp,(EZ q8).2.2⟩
 ·exact⟨o0,by simp,(jb q0).2.2⟩
 ·exact⟨o1,by simp,(jb q1).2.2⟩
 ·exact⟨o2,by simp,(KA q2).2.2⟩
 ·exact⟨o3,by simp,(jb q3).2.2⟩
 ·exact⟨o4,by simp,(jb q4).2.2⟩
 ·exact⟨o5,by simp,(Gn q5).2.2⟩
 ·exact⟨o6,by simp,(KB q6).2.2⟩
 ·exact⟨o7,by simp,(GF q7).2.2⟩
theorem S4 {io:List Nat} {ops:List Oper} (h:keeps io ops=true) {o:Oper} (ho:o∈ops) {x:Nat} (hx:o.dst=some x):x∉io:=by
 unfold keeps at h
 rw[List.all_eq_true]at h
 have:=h o ho
 rw[hx]at this
 simpa using this
theorem St {d:ld} {ts:List Nat} {tk:Nat} {e:Ty} {l:List e.den} {i:Nat}:(C8 E d ts tk e l i).s.length=E.s.length:=by
 simp only[C8,Env.set,List.length_set]
 unfold Env.kill
 split
 ·rfl
 ·simp
theorem PG {E:Env} {d:Nat} {sv:SV} (h:qf E.s) (hs:∀j w act v,sv≠ .g j w act v):qf (E.set (some d) sv).s:=by
 intro s j w act v
 simp only[Env.set,dF]
 split
 ·exact hs j w act v
 ·exact h s j w act v
theorem Sl {d:ld} {ts:List Nat} {tk:Nat} {e:Ty} {l:List e.den} {i:Nat} (h:qf E.s):qf (C8 E d ts tk e l i).s:=by
 have h0:qf (E.kill ts).s:=by
  intro s j w act v he
  obtain⟨v',h'⟩:=M9 he
  exact h s j w act v' h'
 unfold C8
 refine PG ?_ (by rintro _ _ _ _ ⟨⟩)
 iterate 8 refine PG ?_ (by rintro _ _ _ _ ⟨⟩)
 exact h0
section
variable {ρ:Type}
def JP (C:Cx) (d:ld) (n:Nat) (E:Env) (kn:Env→Option ρ):Option ρ:=
 match C.tt d.t,E.s.getD d.s .no,E.get d.j with
 |some ⟨.sl e,_,_⟩,.d ⟨.sl e',l',.sl m⟩,.d ⟨.int .i64,i,_⟩=>(match ed ⟨.sl e',l',.leaf⟩ (.sl e),m.own with
  |some l,some ts=>if decide (0≤i∧i<(((l:List e.den).length:Nat):Int)∧(l:List e.den).length<4294967296)=true then
   (match d.tmps.all (fun x=>decide (x<E.s.length))with
   |true=>kn {C8 E d ts E.nt e l i.toNat with nt:=E.nt+32*n}
   |false=>none)
   else none
  |_,_=>none)
 |_,_,_=>none
end
theorem QD {ρ:Type} (hC:CxTy P C) (hm:P.follows .mixedOrders=true) (hI:Inv w0 c0 (fun u=>u<E.nt) E a w G) (hg:qf E.s) (h3:3≤E.nt) {ops:Array Oper} {d:ld} (hd:tV ops.toList=some d) (hn:0<ops.size)
 {io:List Nat} (hkp:keeps io ops.toList=true) {kn:Env→Option ρ} {r:ρ} (h:JP C d ops.size E kn=some r) {id:Nat}
 (hK:∀E' a' w' G',Inv w0 c0 (fun u=>u<E'.nt) E' a' w' G'→qf E'.s→E'.s.length=E.s.length→3≤E'.nt→(∀i∈io,a'.tmps.getD i undef=a.tmps.getD i undef)→kn E'=some r→Q .normal a' w'):
 (Code.region id ops true).wp P Q a w:=by
 unfold JP at h
 split at h
 ·rename_i e fs el e' l' m i sh ht hs hj
  split at h
  ·rename_i l ts hcast ho
   have hcv:=cK hcast
   simp only[TV.mk.injEq]at hcv
   obtain⟨he,hl,_⟩:=hcv
   cases he
   cases hl
   split at h
   ·rename_i hc
    obtain⟨hc0',hc1',hc2⟩:=of_decide_eq_true hc
    have hc0: @LE.le Int Int.instLEInt 0 i:=hc0'
    have hc1: @LT.lt Int Int.instLTInt i ((List.length l:Nat):Int):=hc1'
    split at h
    ·rename_i hsz
     rw[List.all_eq_true]at hsz
     have hi0:((i.toNat:Nat):Int)=i:=Int.toNat_of_nonneg hc0
     refine QN hC hm hI hd ht hs (i:=i.toNat) (sh:=sh) (by rw[hi0];exact hj) ho (by omega) hc2 (fun x hx=>of_decide_eq_true (hsz x hx)) h3 (Nat.le_refl _) (fun a' w' G' g1 g2=> ?_)
     refine hK {C8 E d ts E.nt _ l i.toNat with nt:=E.nt+32*ops.size} a' w' G' ?_ (Sl hg) St (by show 3≤E.nt+32*ops.size;omega) (fun j hj=>g2 j (fun hin=> ?_)) h
     ·have:=g1.mono (U':=fun u=>u<E.nt+32*ops.size) (fun u hu=>by rcases hu with hu|hu<;>omega)
      exact {this with}
     ·obtain⟨o,ho',hx⟩:=SO hd j hin
      exact S4 hkp ho' hx hj
    ·cases h
   ·cases h
  ·cases h
 ·cases h
end
end Vg
namespace Vg
open Go
abbrev pR:=FuncId→Option dE
def AG (M:pR) (o:Oper):Option (FuncId×dE×Nat×Nat):=
 match o.guard,o.op with
 |none,.call c=>(match c.callee,c.args.toList with
  | .value (.func f),[.tmp s,.tmp j]=>(match M f with|some m=>some (f,m,s,j)|none=>none)
  |_,_=>none)
 |_,_=>none
def EO (M:pR) (o1 o2 o3:Oper):Option (FuncId×dE×TypeId×Nat×Nat×Nat×Nat):=
 match o1.guard,o1.op,o1.dst,o2.guard,o2.op,o2.dst with
 |none,.load t (.tmp p),some d1,none,.move (.tmp q),some d2=>(match AG M o3 with
  |some (f,m,s,j)=>(match decide (s=d1∧j=d2∧d1≠d2∧q≠d1)with|true=>some (f,m,t,p,q,d1,d2)|false=>none)
  |none=>none)
 |_,_,_,_,_,_=>none
inductive gq where
 |one (o:Oper)
 |nest (o1 o2 o3:Oper)
def gq.ops:gq→List Oper
 | .one o=>[o]
 | .nest o1 o2 o3=>[o1,o2,o3]
def steps (M:pR):List Oper→List gq
 |o1::o2::o3::l=>match EO M o1 o2 o3 with
  |some _=> .nest o1 o2 o3::steps M l
  |none=> .one o1::steps M (o2::o3::l)
 | [o1,o2]=>[.one o1,.one o2]
 | [o1]=>[.one o1]
 | []=>[]
theorem Au (M:pR):∀l:List Oper,(steps M l).flatMap gq.ops=l
 |o1::o2::o3::l=>by
  simp only[steps]
  split
  ·simp only[List.flatMap_cons,gq.ops,Au M l];rfl
  ·simp only[List.flatMap_cons,gq.ops,Au M (o2::o3::l)];rfl
 | [_,_]=>rfl
 | [_]=>rfl
 | []=>rfl
def Uj (m:dE) (s j:Nat) (E:Env):Option (m.τ.den×Sh×Int):=
 match E.get s,E.get j with
 | .d v,.d ⟨.int .i64,n,_⟩=>(match ed v m.τ,mw v.sh with
   |some x,some _=>some (x,v.sh,n)
   |_,_=>none)
 |_,_=>none
structure UU (m:dE) where
 b:Nat
 e:Ty
 l:List e.den
 i:Int
 path:List Bool
 x:m.τ.den
 n:Int
def Ti (tt:TypeId→Option TI) (m:dE) (t:TypeId) (p q d1 d2:Nat) (E:Env):Option (UU m):=
 match tt t,E.get p,E.get q with
 |some ti,.ept b e i o path _,.d ⟨.int .i64,n,_⟩=>(match dx b e E.s with
  |some (l,hs,nd)=>(match nd&&hs.all (·==b)&&decide (e.off path=o)&&decide (ti.τ=m.τ)&&decide (d1<E.s.length∧d2<E.s.length),fI e (l.getD i.toNat e.aa) (fB e (.sha [])) path with
   |true,some r=>(match ed r m.τ with|some x=>some ⟨b,e,l,i,path,x,n⟩|none=>none)
   |_,_=>none)
  |none=>none)
 |_,_,_=>none
def T8 (tt:TypeId→Option TI) (m:dE) (t:TypeId) (p q d1 d2:Nat) (E:Env):Option (m.τ.den×Sh×Int):=
 match tt t,cu (E.get p),E.get q with
 |some ti,.ptr b o path _,.d ⟨.int .i64,n,_⟩=>(match cF E.s b 0 with
  |some (_,v)=>(match decide (v.τ.off path=o)&&decide (ti.τ=m.τ)&&decide (d1<E.s.length∧d2<E.s.length),fI v.τ v.x v.sh path with
   |true,some r=>(match ed r m.τ,mw r.sh with|some x,some _=>some (x,r.sh,n)|_,_=>none)
   |_,_=>none)
  |none=>none)
 |_,_,_=>none
def UM:SV→Bool
 | .ptr ..=>true
 |_=>false
def untold (C:Cx) (o:Oper):Bool:=
 match o.guard,o.op with
 |none,.assign (.const _)=>(C.tt o.type).isNone
 |_,_=>false
def Env.AY (E:Env) (gv:List Nat) (b:Nat) (e:Ty) (l:List e.den):Env:=
 {E with s:=E.s.map fun s=>(((s.bO b).setRow b e l (.row b (b::gv) true)).aS gv b)}
section
variable {ρ:Type}
def CZ (o:Oper) (a:Option Bool) (E:Env) (k:Env→Option ρ) (ef:Ef):Option ρ:=
 match ef,a with
 | .call _ x tks f rp,some b=>if b=true then x.bind (fun r=>k (Env.set {E.bQ tks (rp r)with s:=bq (f r).2 (E.bQ tks (rp r)).s} o.dst (cY o.guard (some true) (f r).1)))else k (E.set o.dst (cY o.guard (some false) (vB false)))
 | .elem (g::gv) b e l _,none=>(match o.dst,o.op with|none,.store _ _ _=>k (E.AY (g::gv) b e l)|_,_=>none)
 |ef,a=>kX o a E k ef
def mA (C:Cx) (M:pR) (ops:List Oper) (nt:Nat):List gq→Nat→Env→(Env→Option ρ)→Option ρ
 | [],_,E,k=>k E
 | .one o::l,i,E,k=>match AG M o with
   |some (_,m,s,j)=>(match Uj m s j E with
    |some (x,sh,n)=>(m.F x n).bind fun r=>mA C M ops nt l (i+1) ((E.mark (rowsOf m.τ r.2 sh)).set o.dst (vI .i64 r.1)) k
    |none=>none)
   |none=>match untold C o with
    |true=>mA C M ops nt l (i+1) (E.set o.dst .no) k
    |false=>match guardOf ops E.rd o.guard with
     |none=>none
     |some a=>match bm C ops E.rd (nt+32*i) o.guard o with
      |none=>none
      |some ef=>CZ o a E (fun E'=>mA C M ops nt l (i+1) E' k) ef
 | .nest o1 o2 o3::l,i,E,k=>match EO M o1 o2 o3 with
   |some (_,m,t,p,q,d1,d2)=>match UM (cu (E.get p))with
    |true=>(match T8 C.tt m t p q d1 d2 E with
     |some (x,sh,n)=>(m.F x n).bind fun r=>mA C M ops nt l (i+3) ((((E.mark (rowsOf m.τ r.2 sh)).set (some d1) .no).set (some d2) .no).set o3.dst (vI .i64 r.1)) k
     |none=>none)
    |false=>(match Ti C.tt m t p q d1 d2 E with
     |some d=>(m.F d.x d.n).bind fun r=>match dU d.e (d.l.getD d.i.toNat d.e.aa) (fB d.e (.sha [])) d.path ⟨m.τ,r.2,fB m.τ (.sha [])⟩with
      |some y=>mA C M ops nt l (i+3) ((((E.mark [⟨d.b,d.e,d.l.set d.i.toNat y.1⟩]).set (some d1) .no).set (some d2) .no).set o3.dst (vI .i64 r.1)) k
      |none=>none
     |none=>none)
   |none=>none
def lr (C:Cx) (M:pR):Code→Env→(Env→Option ρ)→List (Nat×(Env→Option ρ))→(Env→Option ρ)→Option ρ
 | .skip,E,kn,_,_=>kn E
 | .region _ ops draw,E,kn,_,_=>match ee ops.toList&&keeps C.io ops.toList with
   |true=>(match draw with
    |true=>(match tV ops.toList with
     |some d=>JP C d ops.size E kn
     |none=>wa C ops.toList E.nt ops.toList 0 E [] (fun E' L=>match oS ops.toList L with|true=>kn {gl E' ops.toList with nt:=E.nt+32*ops.size}|false=>none))
    |false=>mA C M ops.toList E.nt (steps M ops.toList) 0 E (fun E'=>kn {gl E' ops.toList with nt:=E.nt+32*ops.size}))
   |false=>none
 | .seq a b,E,kn,ke,kr=>
   match(fx b).bind C.ja with
   |none=>lr C M a E (fun E'=>lr C M b E' kn ke kr) ke kr
   |some n=>aO (fun J=>lr C M a E (fun E'=>match proj n E' with|some t=>J t|none=>none) ke kr) (fun t=>lr C M b (dB C.n n t) kn ke kr)
 | .cond c x y,E,kn,ke,kr=>
   match arg C E.rd none 0 c with
   |some (.d ⟨.bool,b,_⟩)=>if b=true then lr C M x E kn ke kr else lr C M y E kn ke kr
   |_=>none
 | .block id c,E,kn,ke,kr=>lr C M c E kn ((id,kn)::ke) kr
 | .loop c,E,_,ke,kr=>
   match(fx c).bind C.la with
   |none=>none
   |some n=>match proj n E with
    |some t=>az C.k (fun G t=>lr C M c (dB C.n n t) (fun E'=>match proj n E' with|some t=>G t|none=>none) ke kr) t
    |none=>none
 | .exit id,E,_,ke,_=>match ke.lookup id with|some k=>k E|none=>none
 | .ret,E,_,_,kr=>kr E
 |_,_,_,_,_=>none
end
def AE (P:Program) (M:pR):Prop:=∀f m,M f=some m→wx P f m
section
variable {P:Program} {C:Cx} {M:pR} {w0:World} {c0:C0} {U:Nat→Prop} {E:Env} {a:Act} {w:World} {G:Gh} {ops:List Oper} {L:Nat→Prop} {Q:Exit→Act→World→Prop} {ρ:Type}
theorem Cn {o:Oper} {f:FuncId} {m:dE} {s j:Nat} (h:AG M o=some (f,m,s,j)):
 o.guard=none∧M f=some m∧∃c:Call,o.op= .call c∧c.callee= .value (.func f)∧c.args.toList=[.tmp s,.tmp j]:=by
 unfold AG at h
 split at h
 ·rename_i c hg ho
  split at h
  ·rename_i f' s' j' hc ha
   split at h
   ·rename_i m' hm
    cases h
    exact⟨hg,hm,c,ho,hc,ha⟩
   ·cases h
  ·cases h
 ·cases h
theorem Oh {o1 o2 o3:Oper} {f:FuncId} {m:dE} {t:TypeId} {p q d1 d2:Nat} (h:EO M o1 o2 o3=some (f,m,t,p,q,d1,d2)):
 o1.guard=none∧o1.op= .load t (.tmp p)∧o1.dst=some d1∧o2.guard=none∧o2.op= .move (.tmp q)∧o2.dst=some d2∧d1≠d2∧q≠d1∧AG M o3=some (f,m,d1,d2):=by
 unfold EO at h
 split at h
 ·rename_i t' p' d1' q' d2' h1 h2 h3 h4 h5 h6
  split at h
  ·rename_i f' m' s' j' hc
   split at h
   ·rename_i hd
    simp only[decide_eq_true_eq]at hd
    cases h
    obtain⟨rfl,rfl,e1,e2⟩:=hd
    exact⟨h1,h2,h3,h4,h5,h6,e1,e2,hc⟩
   ·cases h
  ·cases h
 ·cases h
theorem FU {o:Oper} {c:Call} {f:FuncId} (ho:o.op= .call c) (hc:c.callee= .value (.func f)) {R:Value→World→Prop} {K:Act→World→Prop} (h:nu P f (c.args.map a.eval) w R)
 (hK:∀v w',R v w'→K (a.put o.dst v) w'):o.wp P a w K Q:=by
 have hrun:(execOp a.eval o).run P w=(callFunc f (c.args.map a.eval)).run P w:=by
  simp only[execOp,ho]
  simp[resolve,hc,Deferred.ofValue,Act.eval,invoke]
 refine kS (R:=R) ?_ hK
 rw[hrun]
 exact h
theorem xC (hI:Inv w0 c0 U E a w G) {j:Nat} {n:Int} {sh:Sh} (h:E.get j= .d ⟨.int .i64,n,sh⟩):a.tmps.getD j undef= .int .i64 n:=by
 have hs:=hI.slots j
 have h':E.s.getD j .no= .d ⟨.int .i64,n,sh⟩:=h
 rw[h']at hs
 obtain⟨cs,h1,h2⟩:=hs
 cases sh with
 |leaf=>rw[h1,show cs=_ from h2];rfl
 |sl m=>exact h2.elim
 |pair a b=>exact h2.elim
theorem MS {L':List qN}:∀s j w act v,(E.mark L').s.getD s .no≠ .g j w act v:=by
 intro s j w act v
 have:=getD_map (L:=E.s) (T:=SV.mark L') rfl s
 show(E.s.map (SV.mark L')).getD s .no≠_
 rw[this]
 exact Uz
theorem FP {E:Env} {d:Option Nat} {sv:SV} (h:∀s j w act v,E.s.getD s .no≠ .g j w act v) (hs:∀j w act v,sv≠ .g j w act v):∀s j w act v,(E.set d sv).s.getD s .no≠ .g j w act v:=by
 intro s j w act v
 cases d with
 |none=>exact h s j w act v
 |some d=>
  simp only[Env.set,dF]
  split
  ·exact hs j w act v
  ·exact h s j w act v
theorem MN (L':List qN):(E.mark L').s.length=E.s.length:=by simp[Env.mark]
theorem Inv.Ul (hI:Inv w0 c0 U E a w G) (d:Option Nat) (n:Int):Inv w0 c0 U (E.set d (vI .i64 n)) (a.put d (.int .i64 n)) w G:=by
 have hm:=MU (U:=U) (G:=G) .i64 n
 exact hI.put d (ok_int .i64 n) hm.1 hm.2.1 hm.2.2 (by rintro _ _ ⟨⟩)
theorem Inv.Qg (hI:Inv w0 c0 U E a w G) (d:Option Nat) (v:Value):Inv w0 c0 U (E.set d .no) (a.put d v) w G:=
 hI.put d (sv:= .no) trivial (by simp[SV.sc]) (by simp[SV.bt]) (by simp[SV.rt]) (by rintro _ _ ⟨⟩)
theorem MQ (d:Option Nat) (v:Value) (s:Nat) (h:d≠some s):(a.put d v).tmps.getD s undef=a.tmps.getD s undef:=by
 cases d with
 |none=>rfl
 |some d=>
  have:d≠s:=fun e=>h (by rw[e])
  simp[Act.put,Array.getD_eq_getD_getElem?,Array.getElem?_setIfInBounds_ne this]
end
end Vg
namespace Vg
open Go
section
variable {P:Program} {C:Cx} {M:pR} {g:Option (Nat×Bool)} {w0:World} {c0:C0} {U:Nat→Prop} {E:Env} {a:Act} {w:World} {G:Gh} {ops:List Oper} {L:Nat→Prop} {Q:Exit→Act→World→Prop} {ρ:Type}
theorem SJ (hC:CxTy P C) (hI:Inv w0 c0 U E a w G) (hR:RI ops E a.tmps) (hg:Gd ops a.tmps g) {tk:Nat} {o:Oper} {t:TypeId} {x y:Operand}
 {gv:List Nat} {b:Nat} {e:Ty} {l':List e.den} {m:Vg.M} (ho:o.op= .store t x y) (hgne:gv≠ []) (h:bm C ops E.rd tk g o=some (.elem gv b e l' m)):
 ∃w' G',(execOp a.eval o).run P w= .ok .skip w'∧Inv w0 c0 U (E.AY gv b e l') a w' G':=by
 simp only[bm,ho]at h
 split at h
 ·split at h
  ·split at h
   ·obtain⟨r,_,h⟩:=Option.map_eq_some_iff.mp h
    cases h
   ·cases h
  ·cases h
 ·rename_i ti b1 e1 i off p τ1 v1 hti harg hv
  split at h
  ·rename_i l hs nd hrow
   obtain⟨hc,h⟩:=Option.ite_none_right_eq_some.mp h
   obtain⟨hno,h⟩:=Option.ite_none_left_eq_some.mp h
   obtain⟨r,hr,h⟩:=Option.map_eq_some_iff.mp h
   simp only[Ef.elem.injEq]at h
   obtain⟨hgv,rfl,rfl,hl',hm⟩:=h
   have hl':=eq_of_heq hl'
   subst hl'
   simp only[Bool.and_eq_true,decide_eq_true_eq]at hc
   obtain⟨⟨⟨hc1,hc2⟩,hc3⟩,hc4⟩:=hc
   obtain⟨h1,_⟩:=en hI hR hg harg
   obtain⟨bk,of,n,cap,hb3,k2,k3,k4,k5⟩:=h1
   obtain⟨⟨vh,hvh⟩,hgood⟩:=hI.dx hrow
   obtain⟨⟨cv,hcv,hvv⟩,hvg,hlive⟩:=fW hI hR hg hv
   have hvh0:vh=G.hdr b1:=hvh.2.1.symm
   have hno':=hno
   simp only[Bool.not_eq_true]at hno'
   obtain⟨q1,q2,q3,B,Bv,hs',nd',hB,hBv,hm',hblk⟩:=NW (τ:=τ1) (gv:=gv) (m:=m) hvh hgood hvv hvg hlive hc3 _ rfl hgv.symm hm.symm hno'
   rw[hvh0,k2]at hB
   rcases hB with⟨⟨ao,hB⟩,_⟩|⟨bk',of',cap',c,el,fz,Bs,hvv',hcap,hheap,hsz,rfl,hl⟩
   ·cases hB;exfalso;have k4':i<((0:Nat):Int):=k4;have k3': @LE.le Int Int.instLEInt 0 i:=k3;omega
   ·simp only[Value.slice.injEq,Option.some.injEq,Addr.mk.injEq,and_true]at hvv'
    obtain⟨⟨rfl,rfl⟩,rfl,rfl⟩:=hvv'
    obtain⟨j1,j2,j3,j4⟩:=hblk bk Bs rfl
    obtain⟨c',el',hfr⟩:=hI.fresh bk (by rw[j1];exact hb3)
    rw[hfr]at hheap
    simp only[Option.some.injEq,Obj.cells.injEq]at hheap
    obtain⟨rfl,rfl,rfl⟩:=hheap
    have hi:i.toNat<l.length:=toNat_lt k3 k4
    have hget:l[i.toNat]?=some (l.getD i.toNat e1.aa):=by
     rw[List.getD_eq_getElem?_getD,List.getElem?_eq_getElem hi];rfl
    obtain⟨B1,Bx,B2,rfl,hx1,hx2,hx3⟩:=bg.get (sz:=e1.sz) (fun x c B h=>aR.len h) hl hget
    obtain⟨Ba,Bo,Bb,rfl,hput,hle⟩:=aR.put hr hx1 hBv
    have hset:=bg.set (sz:=e1.sz) hi hput hx2 hx3
    have hlv:cv.length=v1.τ.sz:=aW.len hvv
    have hmul:(i.toNat+1)*e1.sz≤l.length*e1.sz:=Nat.mul_le_mul_right _ hi
    have hmul2:l.length*e1.sz≤cap*e1.sz:=Nat.mul_le_mul_right _ hcap
    rw[Nat.add_mul,Nat.one_mul]at hmul
    have hO:of+i.toNat*e1.sz+off+cv.length≤c'.size:=by rw[←hc1];omega
    have hrow':=gj bk (el:=el') cv (of+i.toNat*e1.sz+off) w c' hfr hO
    have hT:=(hC.tt t ti hti).1
    have hrun:=uV (P:=P) (t:=t) (τ:=ti.τ) hT hfr (o:=of+i.toNat*e1.sz+off) (cs:=cv) (by rw[←hc4,←hlv];exact hO) (by rw[hlv,hc4]) (aW.one hvv) k5
    have hU:U b1:=(hgood b1 (by simp)).2.1
    have hbx:G.bx b1=false:=(hgood b1 (by simp)).2.2
    have hI1:=hI.map (EN (w:=w) b1) hI.colU (fun b=>⟨fun h=>h,fun _=>rfl,fun _=>rfl⟩)
    have hcol:G.col bk=b1:=j1
    have hother:∀k,G.col k≠b1→(w.setCells bk (of+i.toNat*e1.sz+off) cv).heap[k]?=w.heap[k]?:=fun k hk=>
     bD bk _ _ w k (fun e=>hk (e▸hcol))
    have hBs':=j4 (B1++(Ba++Bv++Bb)++B2) ⟨B1++Ba,Bo,Bb++B2,by simp[List.append_assoc],by simp[List.append_assoc]⟩
    have hnot:bk∉B1++(Ba++Bv++Bb)++B2:=by
     simp only[List.mem_append,not_or]at j2⊢
     exact⟨⟨j2.1.1,⟨j2.1.2.1.1,j3⟩,j2.1.2.2⟩,j2.2⟩
    have hmm:hs'=[b1]∧nd'=true:=by
     have key:∀(own:Option (List Nat)) (mm:Vg.M),own.getD []=gv→(if own.isSome=true then(Vg.M.row b1 [b1] true)else mm)= .row b1 hs' nd'→hs'=[b1]∧nd'=true:=by
      intro own mm h1 h2
      cases own with
      |none=>exact absurd h1.symm hgne
      |some ts=>
       simp only[Option.isSome_some,if_true,Vg.M.row.injEq,true_and]at h2
       exact⟨h2.1.symm,h2.2.symm⟩
     exact key _ _ hgv (hm.trans hm')
    obtain⟨rfl,rfl⟩:=hmm
    have hnew:bW (w.setCells bk (of+i.toNat*e1.sz+off) cv) G e1 (l.set i.toNat r.1) (G.hdr b1) (.row b1 (b1::gv) true):=by
     refine⟨hb3,rfl,bk::(B1++(Ba++Bv++Bb)++B2),?_,?_⟩
     ·refine .inr ⟨bk,of,cap,_,el',(0,0),B1++(Ba++Bv++Bb)++B2,by simp[k2],by simpa using hcap,hrow',by simp;omega,rfl,?_⟩
      have hcells:((eD (of+i.toNat*e1.sz+off) cv c'.toList).drop of).take ((l.set i.toNat r.1).length*e1.sz)=
       ((c'.toList.drop of).take (l.length*e1.sz)).take (i.toNat*e1.sz)++eD (e1.off p) cv ((((c'.toList.drop of).take (l.length*e1.sz)).drop (i.toNat*e1.sz)).take e1.sz)++((c'.toList.drop of).take (l.length*e1.sz)).drop ((i.toNat+1)*e1.sz):=by
       rw[CF (by omega) (by simp;omega),CC (by simp;omega) (by simp;omega)]
       rw[show of+i.toNat*e1.sz+off-of=i.toNat*e1.sz+e1.off p by omega]
       rw[Ca (sz:=e1.sz) hle]
       rw[Nat.add_mul,Nat.one_mul]
       simp
      show bg _ _ (((eD (of+i.toNat*e1.sz+off) cv c'.toList).toArray.toList.drop of).take _) _
      rw[List.toList_toArray,hcells]
      exact bg.world (fun k hk=>bD bk _ _ w k (fun e=>hnot (e▸hk))) hset
     ·rintro h' Bs'' ⟨⟩
      refine⟨hcol,hnot,fun x hx=> ?_,hBs'.2⟩
      have:=hBs'.1 x hx
      split at this
      ·rename_i hin;exact List.mem_cons_of_mem _ hin
      ·simp only[List.mem_singleton]at this;rw[this];simp
    have hI2:=hI1.setRow hnew hbx hb3 hother (fun s=> ?_) (fun c hc=> ?_) (fun k hk=> ?_) (by rw[dY]) (cx _ _ _ w).1 (cx _ _ _ w).2.1 (cx _ _ _ w).2.2
    ·have hI3:=hI2.Th (ts:=gv) (t:=b1) (v:=G.hdr b1) hb3 q1 hU rfl hbx
     refine⟨w.setCells bk (of+i.toNat*e1.sz+off) cv,G.aS gv b1 (G.hdr b1),?_,?_⟩
     ·simp only[execOp,ho,hcv,hc4]
      simp[hrun]
     ·simpa only[Env.AY,List.map_map,Function.comp_def,SV.bO,SV.aS]using hI3
    ·have:=getD_map (L:=E.s) (T:=SV.bO b1) rfl s
     show SV.clear b1 ((List.map (SV.bO b1) E.s).getD s .no)
     rw[this]
     exact SV.dq b1 _
    ·simp only[M.aD,List.mem_cons]at hc
     rcases hc with rfl|rfl|hc
     ·exact hgood _ (by simp)
     ·exact hgood _ (by simp)
     ·exact(q1 c hc).2
    ·by_cases e:k=bk
     ·subst e;exact⟨_,_,hrow'⟩
     ·rw[bD bk _ _ w k e]
      exact hI.fresh k (by rw[hk];exact hb3)
  ·cases h
 ·cases h
theorem M4 {c:Call} {s j:Nat} (h:c.args.toList=[.tmp s,.tmp j]) (a:Act):c.args.map a.eval= #[a.tmps.getD s undef,a.tmps.getD j undef]:=by
 have:c.args= #[.tmp s,.tmp j]:=Array.ext' (by simpa using h)
 rw[this]
 simp[Act.eval]
theorem NK (d:Nat) (v:Value) (h:d<a.tmps.size):(a.put (some d) v).tmps.getD d undef=v:=by
 simp[Act.put,Array.getD_eq_getD_getElem?,h]
theorem SE (hC:lx P C) {i:Nat} {o:Oper} (ho:ops[i]?=some o) (hI:Inv w0 c0 U E a w G) (hR:jg ops L E a.tmps) (hL:∀j w',o.guard=some (j,w')→L j) (hni:¬L i) (hgo:ee ops=true)
 {tk:Nat} (h3:3≤tk) (hU:∀u,tk≤u→u<tk+32→¬U u) {act:Option Bool} {ef:Ef} (hga:guardOf ops E.rd o.guard=some act) (hev:bm C ops E.rd tk o.guard o=some ef)
 {k:Env→Option ρ} {r:ρ} (hap:CZ o act E k ef=some r) {K:Act→World→Prop}
 (hK:∀E' a' w' G',k E'=some r→E'.s.length=E.s.length→Inv w0 c0 (fun u=>U u∨(tk≤u∧u<tk+32)) E' a' w' G'→jg ops (fun j=>L j∨j=i) E' a'.tmps→(∃v,a'=a.put o.dst v)→K a' w'):wpOp P ops.toArray Q i K a w:=by
 have hIm:=hI.mono (U':=fun u=>U u∨(tk≤u∧u<tk+32)) (fun u hu=> .inl hu)
 have old:kX o act E k ef=some r→wpOp P ops.toArray Q i K a w:=by
  intro hap
  rw[Cy,AH,Option.bind_eq_some_iff]at hap
  obtain⟨E',hs,hk⟩:=hap
  have hlen:E'.s.length=E.s.length:=by
   cases ef with
   |val v=>simp only[aZ,Option.some.injEq]at hs;subst hs;exact dR ..
   |chk c v=>
    simp only[aZ]at hs
    split at hs
    ·split at hs
     ·simp only[Option.some.injEq]at hs;subst hs;exact dR ..
     ·cases hs
    ·split at hs
     ·simp only[Option.some.injEq]at hs;subst hs;exact dR ..
     ·cases hs
   |opt α z x f=>
    simp only[aZ,Option.bind_eq_some_iff,Option.some.injEq]at hs
    obtain⟨y,_,hs⟩:=hs;subst hs;exact dR ..
   |put b s v=>
    simp only[aZ]at hs
    split at hs
    ·simp only[Option.some.injEq]at hs;subst hs;simp
    ·cases hs
   |app c kl gv t v=>
    simp only[aZ]at hs
    split at hs
    ·split at hs
     ·simp only[Option.some.injEq]at hs;subst hs;rw[dR,Nu,Ni]
     ·cases hs
    ·cases hs
   |elem gv b e l m=>
    simp only[aZ]at hs
    split at hs
    ·simp only[Option.some.injEq]at hs;subst hs;simp[Env.elem]
    ·cases hs
   |call α x tks f rp=>
    simp only[aZ]at hs
    split at hs
    ·simp only[Option.bind_eq_some_iff,Option.some.injEq]at hs
     obtain⟨y,_,hs⟩:=hs;subst hs;rw[dR,iN,qd]
    ·cases hs
  exact HQ hC ho hI hR hL hni hgo h3 hU hga hev hs (fun a' w' G' g1 g2 g3=>hK E' a' w' G' hk hlen g1 g2 g3)
 unfold CZ at hap
 split at hap
 ·
  rename_i α x tks f rp b
  cases hgd:o.guard with
  |none=>rw[hgd]at hga;simp[guardOf]at hga
  |some p=>
   obtain⟨j,w'⟩:=p
   rw[hgd]at hga hev
   obtain⟨b',hb',hb⟩:=xv hI hga
   cases hb'
   have hj:=hL j w' hgd
   cases b with
   |true=>
    simp only[if_true,Option.bind_eq_some_iff]at hap
    obtain⟨y,hy,hk⟩:=hap
    have hyl:=hb.1 rfl
    have hwant:Region.wanted o (yielded ops.toArray a.tmps)=true:=by simp[Region.wanted,hgd,hyl]
    have hS:=Ir hC hI hR.ri (g:=some (j,w')) (by rintro j1 w1 ⟨⟩;exact hyl) h3 hU hev
    refine dr ho hwant ?_
    refine kS (hS y hy) (fun mv w1 ⟨G',g1,g2,g3,g4⟩=> ?_)
    obtain⟨k1,k2,k3⟩:=PB (j:=j) (w':=w') g2 g3
    rw[hgd]at hk
    refine hK _ _ _ G' hk (by rw[dR,iN,qd]) ?_ ?_ ⟨_,rfl⟩
    ·exact g1.put o.dst k1 k2.1 k2.2.1 k2.2.2 (fun t u e=>absurd e (k3 t u))
    ·refine jg.put (E:={E.bQ tks (rp y)with s:=bq (f y).2 (E.bQ tks (rp y)).s}) (hR.map (fun s j w' act u h=>O6 (Fv h))) ho hgo hni hL (fun j1 w1 act v e=> ?_)
     unfold cY at e
     simp only at e
     split at e
     ·cases e
     ·simp only[SV.g.injEq]at e
      obtain⟨rfl,rfl,rfl,_⟩:=e
      exact⟨⟨fun _=>hyl,fun _=>rfl⟩,hgd⟩
   |false=>
    simp only[Bool.false_eq_true,if_false]at hap
    have hyl:yielded ops.toArray a.tmps j≠some w':=fun h=>by have:=hb.2 h;cases this
    have hwant:Region.wanted o (yielded ops.toArray a.tmps)=false:=by
     simp only[Region.wanted,hgd]
     simpa using hyl
    obtain⟨k1,k2,k3⟩:=Po (w:=w) (G:=G) (U:=fun u=>U u∨(tk≤u∧u<tk+32)) (v:=vB false) (j:=j) (w':=w')
    rw[hgd]at hap
    unfold wpOp
    simp only[List.getElem?_toArray,ho,hwant,Bool.false_eq_true,if_false]
    refine hK _ _ _ G hap (dR ..) ?_ ?_ ⟨_,rfl⟩
    ·exact hIm.put o.dst k1 k2.1 k2.2.1 k2.2.2 (fun t u e=>absurd e (k3 t u))
    ·refine hR.put ho hgo hni hL (fun j1 w1 act v e=> ?_)
     unfold cY at e
     simp only at e
     split at e
     ·cases e
     ·simp only[SV.g.injEq]at e
      obtain⟨rfl,rfl,rfl,_⟩:=e
      exact⟨⟨fun h=>absurd h (by simp),fun h=>absurd h hyl⟩,hgd⟩
 ·
  rename_i g0 gv b e l m
  split at hap
  ·rename_i t x y hd hop
   cases hgd:o.guard with
   |some p=>
    rw[hgd]at hga
    obtain⟨b',hb',_⟩:=xv hI hga
    cases hb'
   |none=>
    rw[hgd]at hev
    have hwant:Region.wanted o (yielded ops.toArray a.tmps)=true:=by simp[Region.wanted,hgd]
    refine dr ho hwant ?_
    obtain⟨w1,G',h1,h2⟩:=SJ hC.toCxTy hI hR.ri (g:=none) (by rintro j w' ⟨⟩) hop (by simp) hev
    unfold Oper.wp
    rw[h1]
    refine hK _ _ _ G' hap (by simp[Env.AY]) ?_ ?_ ⟨undef,rfl⟩
    ·rw[hd];exact h2.mono fun u hu=> .inl hu
    ·rw[hd]
     have:=hR.map (E':=E.AY (g0::gv) b e l) (fun s j w' act u h=>by
      have hh:=getD_map (L:=E.s) (T:=fun s=>((s.bO b).setRow b e l (.row b (b::(g0::gv)) true)).aS (g0::gv) b) rfl s
      simp only[Env.AY]at h
      rw[hh]at h
      obtain⟨v1,h1⟩:=wY h
      obtain⟨v2,h2⟩:=MX h1
      exact wY h2)
     intro s j w' act v hs
     obtain⟨q1,q2,q3⟩:=this s j w' act v hs
     exact⟨q1,.inl q2,q3⟩
  ·cases hap
 ·exact old hap
theorem qc (hC:lx P C) (hM:AE P M) {io:List Nat} (hkp:keeps io ops=true) (hgo:ee ops=true) {nt:Nat} (h3:3≤nt) {k:Env→Option ρ} {r:ρ}:∀ {l:List gq} {i:Nat} {E:Env} {a:Act} {w:World} {G:Gh},ops.drop i=l.flatMap gq.ops→i+(l.flatMap gq.ops).length=ops.length→
 Inv w0 c0 (fun u=>u<nt+32*i) E a w G→jg ops (fun j=>j<i) E a.tmps→mA C M ops nt l i E k=some r→
 (∀E' a' w' G',Inv w0 c0 (fun u=>u<nt+32*ops.length) E' a' w' G'→jg ops (fun j=>j<ops.length) E' a'.tmps→E'.s.length=E.s.length→(∀i∈io,a'.tmps.getD i undef=a.tmps.getD i undef)→k E'=some r→Q .normal a' w')→
 wpOps P ops.toArray Q (List.range' i (l.flatMap gq.ops).length) a w
 | [],i,E,a,w,G,hd,hl,hI,hR,h,hK=>by
   have hi:i=ops.length:=by simpa using hl
   subst hi
   exact hK E a w G hI hR rfl (fun _ _=>rfl) h
 | .one o::l,i,E,a,w,G,hd,hl,hI,hR,h,hK=>by
   simp only[List.flatMap_cons,gq.ops,List.cons_append,List.nil_append]at hd
   simp only[List.flatMap_cons,gq.ops,List.cons_append,List.nil_append,List.length_cons]at hl⊢
   have ho:ops[i]?=some o:=by
    have:=congrArg List.head? hd
    simpa[List.head?_drop]using this
   have hd':ops.drop (i+1)=l.flatMap gq.ops:=by rw[←List.drop_drop,hd];rfl
   simp only[mA]at h
   rw[List.range'_succ,wpOps_cons]
   split at h
   ·rename_i f m s j hc
    obtain⟨hg,hm,c,hop,hcal,hargs⟩:=Cn hc
    split at h
    ·rename_i x sh n hA
     rw[Option.bind_eq_some_iff]at h
     obtain⟨⟨kk,y⟩,hF,h⟩:=h
     unfold Uj at hA
     split at hA
     ·rename_i v n' shn hs hj
      split at hA
      ·rename_i x' ts hx ho'
       cases hA
       have hv:=hI.slots s
       have hgd:=hI.kV s
       have hs':E.s.getD s .no= .d v:=hs
       rw[hs']at hv hgd
       obtain⟨cs,hcs,hvk⟩:=hv
       have e:=cK hx
       rw[e]at hcs hvk hgd ho'
       have hU:=R7 hI (hM f m hm) hvk hgd.1 ho' hF
       have hj':=xC hI hj
       have hwant:Region.wanted o (yielded ops.toArray a.tmps)=true:=by simp[Region.wanted,hg]
       refine dr ho hwant (FU hop hcal (R:=fun mv w'=>mv=Value.int .i64 kk∧∃G',Inv w0 c0 (fun u=>u<nt+32*i) (E.mark (rowsOf m.τ y v.sh)) a w' G') ?_ (fun mv w' hh=> ?_))
       ·rw[M4 hargs,hcs,hj'];exact hU
       ·obtain⟨rfl,G',hI'⟩:=hh
        have hI2:=(hI'.Ul o.dst kk).mono (U':=fun u=>u<nt+32*(i+1)) (fun u hu=>by omega)
        refine qc hC hM hkp hgo h3 (l:=l) (i:=i+1) hd' (by omega) hI2 (fun s j w1 act v he=>absurd he (FP MS (by rintro _ _ _ _ ⟨⟩) s j w1 act v)) h
         (fun E2 a2 w2 G2 g1 g2 g3 g5 g4=>hK E2 a2 w2 G2 g1 g2 (g3.trans ((dR ..).trans (MN _))) (fun j hj=>(g5 j hj).trans (jd hkp (List.mem_of_getElem? ho) hj)) g4)
      ·cases hA
     ·cases hA
    ·cases h
   ·split at h
    ·rename_i hun
     unfold untold at hun
     split at hun
     ·rename_i cv hg hop
      have hwant:Region.wanted o (yielded ops.toArray a.tmps)=true:=by simp[Region.wanted,hg]
      refine dr ho hwant ?_
      have hr1:(execOp a.eval o).run P w= .ok (.value (a.eval (.const cv))) w:=by
       simp only[execOp,hop]
       rfl
      unfold Oper.wp
      rw[hr1]
      show wpOps P ops.toArray Q _ _ _
      have hI2:=(hI.Qg o.dst (a.eval (.const cv))).mono (U':=fun u=>u<nt+32*(i+1)) (fun u hu=>by omega)
      refine qc hC hM hkp hgo h3 (l:=l) (i:=i+1) hd' (by omega) hI2 (fun s j w1 act v he=>by
       obtain⟨q1,q2,q3⟩:=hR.put ho hgo (by omega) (fun j w' hj=>u6 hgo ho hj) (sv:= .no) (mv:=a.eval (.const cv)) (by rintro _ _ _ _ ⟨⟩) s j w1 act v he
       exact⟨q1,by rcases q2 with q2|q2<;>omega,q3⟩) h
       (fun E2 a2 w2 G2 g1 g2 g3 g5 g4=>hK E2 a2 w2 G2 g1 g2 (g3.trans (dR ..)) (fun j hj=>(g5 j hj).trans (jd hkp (List.mem_of_getElem? ho) hj)) g4)
     ·cases hun
    ·split at h
     ·cases h
     ·rename_i act hga
      split at h
      ·cases h
      ·rename_i ef hev
       refine SE hC ho hI hR (fun j w' hj=>u6 hgo ho hj) (by omega) hgo (tk:=nt+32*i) (by omega) (fun u h1 h2 h=>by omega) hga hev h (fun E' a' w' G' hk hlen hI' hR' ⟨v,hav⟩=> ?_)
       refine qc hC hM hkp hgo h3 (l:=l) (i:=i+1) hd' (by omega) (hI'.mono (fun u hu=>by rcases hu with hu|hu<;>omega))
        (fun s j w1 act v he=>by
         obtain⟨q1,q2,q3⟩:=hR' s j w1 act v he
         exact⟨q1,by rcases q2 with q2|q2<;>omega,q3⟩) hk (fun E2 a2 w2 G2 g1 g2 g3 g5 g4=>hK E2 a2 w2 G2 g1 g2 (g3.trans hlen) (fun j hj=>(g5 j hj).trans (by rw[hav];exact jd hkp (List.mem_of_getElem? ho) hj)) g4)
 | .nest o1 o2 o3::l,i,E,a,w,G,hd,hl,hI,hR,h,hK=>by
   simp only[List.flatMap_cons,gq.ops,List.cons_append,List.nil_append]at hd
   simp only[List.flatMap_cons,gq.ops,List.cons_append,List.nil_append,List.length_cons]at hl⊢
   have ho1:ops[i]?=some o1:=by
    have:=congrArg List.head? hd
    simpa[List.head?_drop]using this
   have hd1:ops.drop (i+1)=o2::o3::l.flatMap gq.ops:=by rw[←List.drop_drop,hd];rfl
   have ho2:ops[i+1]?=some o2:=by
    have:=congrArg List.head? hd1
    simpa[List.head?_drop]using this
   have hd2:ops.drop (i+1+1)=o3::l.flatMap gq.ops:=by rw[←List.drop_drop,hd1];rfl
   have ho3:ops[i+1+1]?=some o3:=by
    have:=congrArg List.head? hd2
    simpa[List.head?_drop]using this
   have hd3:ops.drop (i+3)=l.flatMap gq.ops:=by rw[show i+3=i+1+1+1 by omega,←List.drop_drop,hd2];rfl
   simp only[mA]at h
   split at h
   ·rename_i f m t p q d1 d2 hn
    obtain⟨g1,op1,ds1,g2,op2,ds2,hne,hqd,hc3⟩:=Oh hn
    obtain⟨g3,hm,c,op3,hcal,hargs⟩:=Cn hc3
    have three:∀(cs:List Value) (n kk:Int) (L':List qN),a.tmps.getD q undef= .int .i64 n→d1<E.s.length→d2<E.s.length→(execOp a.eval o1).run P w= .ok (.value (bT m.τ cs)) w→
     nu P f #[bT m.τ cs,.int .i64 n] w (fun mv w'=>mv=Value.int .i64 kk∧∃G',Inv w0 c0 (fun u=>u<nt+32*i) (E.mark L') a w' G')→
     mA C M ops nt l (i+3) ((((E.mark L').set (some d1) .no).set (some d2) .no).set o3.dst (vI .i64 kk)) k=some r→
     wpOps P ops.toArray Q (List.range' i ((l.flatMap gq.ops).length+1+1+1)) a w:=by
     intro cs n kk L' hqv hl1 hl2 hr1 hU h
     have hszE:a.tmps.size=E.s.length:=hI.len
     rw[show(l.flatMap gq.ops).length+1+1+1=((l.flatMap gq.ops).length+1+1)+1 from rfl,List.range'_succ,wpOps_cons]
     have hw1:Region.wanted o1 (yielded ops.toArray a.tmps)=true:=by simp[Region.wanted,g1]
     refine dr ho1 hw1 ?_
     unfold Oper.wp
     rw[hr1]
     show wpOps P ops.toArray Q _ _ _
     rw[List.range'_succ,wpOps_cons]
     have hw2:Region.wanted o2 (yielded ops.toArray (a.put o1.dst (bT m.τ cs)).tmps)=true:=by simp[Region.wanted,g2]
     refine dr ho2 hw2 ?_
     have hr2:(execOp (a.put o1.dst (bT m.τ cs)).eval o2).run P w= .ok (.value (.int .i64 n)) w:=by
      have:=MQ (a:=a) (some d1) (bT m.τ cs) q (by simpa using Ne.symm hqd)
      simp only[execOp,op2,Act.eval,ds1,this,hqv]
      rfl
     unfold Oper.wp
     rw[hr2]
     show wpOps P ops.toArray Q _ _ _
     rw[List.range'_succ,wpOps_cons]
     rw[ds1,ds2]
     have hw3:Region.wanted o3 (yielded ops.toArray ((a.put (some d1) (bT m.τ cs)).put (some d2) (.int .i64 n)).tmps)=true:=by simp[Region.wanted,g3]
     refine dr ho3 hw3 (FU op3 hcal (R:=fun mv w'=>mv=Value.int .i64 kk∧∃G',Inv w0 c0 (fun u=>u<nt+32*i) (E.mark L') a w' G') ?_ (fun mv w' hh=> ?_))
     ·rw[M4 hargs,MQ (some d2) _ d1 (by simpa using Ne.symm hne),NK d1 _ (by rw[hszE];exact hl1),NK d2 _ (by rw[ia,hszE];exact hl2)]
      exact hU
     ·obtain⟨rfl,G',hI'⟩:=hh
      have hI2:=(((hI'.Qg (some d1) (bT m.τ cs)).Qg (some d2) (.int .i64 n)).Ul o3.dst kk).mono (U':=fun u=>u<nt+32*(i+3)) (fun u hu=>by omega)
      have hz:=qc hC hM hkp hgo h3 (l:=l) (i:=i+3) hd3 (by omega) hI2 (fun s j w1 act v he=>absurd he (FP (FP (FP MS (by rintro _ _ _ _ ⟨⟩)) (by rintro _ _ _ _ ⟨⟩)) (by rintro _ _ _ _ ⟨⟩) s j w1 act v)) h
       (fun E2 a2 w2 G2 g1 g2 g3 g5 g4=>hK E2 a2 w2 G2 g1 g2 (g3.trans ((dR ..).trans ((dR ..).trans ((dR ..).trans (MN _))))) (fun j hj=>by
        rw[g5 j hj,jd hkp (List.mem_of_getElem? ho3) hj]
        have k2:=jd (a:=a.put (some d1) (bT m.τ cs)) hkp (List.mem_of_getElem? ho2) (v:= .int .i64 n) hj
        have k1:=jd (a:=a) hkp (List.mem_of_getElem? ho1) (v:=bT m.τ cs) hj
        rw[ds2]at k2
        rw[ds1]at k1
        rw[k2,k1]) g4)
      exact hz
    split at h
    ·split at h
     ·rename_i x sh n hA
      rw[Option.bind_eq_some_iff]at h
      obtain⟨⟨kk,y⟩,hF,h⟩:=h
      unfold T8 at hA
      split at hA
      ·rename_i ti b o path τ0 n' shn hti hp hq
       split at hA
       ·rename_i sl v hbox
        split at hA
        ·rename_i rr hcond hsub
         split at hA
         ·rename_i x' ts hx hown
          cases hA
          simp only[Bool.and_eq_true,decide_eq_true_eq]at hcond
          obtain⟨⟨hoff,hτ⟩,hl1,hl2⟩:=hcond
          have hsp:=tO (hI.slots p)
          have hp':cu (E.s.getD p .no)= .ptr b o path τ0:=hp
          rw[hp']at hsp
          obtain⟨bk,hb3,hhdr,hptr⟩:=hsp
          obtain⟨hslot,bk',c',el,q1,q2,q3,q4,q5,q6⟩:=hI.box (E:=E) hbox
          rw[q1]at hhdr
          simp only[Value.pointer.injEq,Option.some.injEq,Addr.mk.injEq,and_true]at hhdr
          subst hhdr
          obtain⟨r1,r2,r3,r4⟩:=aW.sub hsub q5
          have e:=cK hx
          generalize hrs:rr.sh=rsh at e hown h
          rw[e]at r1 r2 r4
          have hlen:=aW.len q5
          simp only[Array.length_toList]at hlen
          have hT:=(hC.tt t ti hti).1
          rw[hτ]at hT
          have hrun:=oC (P:=P) hT q4 (o:=o) (by rw[←hoff,hlen];exact r2)
          have hr1:(execOp a.eval o1).run P w= .ok (.value (bT m.τ ((c'.toList.drop o).take m.τ.sz))) w:=by
           simp only[execOp,op1]
           refine dm ?_
           simp only[Instr.loadAt,Act.eval,hptr,Instr.sureAddr]
           simpa using hrun
          rw[hoff]at r1
          exact three _ n kk _ (xC hI hq) hl1 hl2 hr1 (R7 hI (hM f m hm) r1 (fun c hc=>q6 c (r4 c hc)) hown hF) h
         ·cases hA
        ·cases hA
       ·cases hA
      ·cases hA
     ·cases h
    ·split at h
     ·rename_i d hA
      rw[Option.bind_eq_some_iff]at h
      obtain⟨⟨kk,y⟩,hF,h⟩:=h
      split at h
      ·rename_i yy hput
       unfold Ti at hA
       split at hA
       ·rename_i ti b e ii o path τ0 n shn hti hp hq
        split at hA
        ·rename_i ll hs nd hrow
         split at hA
         ·rename_i rr hcond hsub
          split at hA
          ·rename_i x hx
           cases hA
           simp only[Bool.and_eq_true,decide_eq_true_eq]at hcond
           obtain⟨⟨⟨⟨hnd,hhs⟩,hoff⟩,hτ⟩,hl1,hl2⟩:=hcond
           subst hnd
           have hsp:=hI.slots p
           have hp':E.s.getD p .no= .ept b e ii o path τ0:=hp
           rw[hp']at hsp
           obtain⟨bk,of,nn,cap,hb3,hhdr,hi0,hin,hptr⟩:=hsp
           have hlt:ii.toNat<nn:=toNat_lt hi0 hin
           obtain⟨⟨cc,el,fz,hheap,hsz⟩,hU⟩:=TQ hI (hM f m hm) hrow hhs hhdr hlt hsub hx hF hput
           have hT:=(hC.tt t ti hti).1
           rw[hτ]at hT
           rw[hoff]at hsz hU
           have hrun:=oC (P:=P) hT hheap (o:=of+ii.toNat*e.sz+o) hsz
           have hcell:cellsOf w bk (of+ii.toNat*e.sz+o) m.τ.sz=(cc.toList.drop (of+ii.toNat*e.sz+o)).take m.τ.sz:=by
            unfold cellsOf;rw[hheap]
           rw[hcell]at hU
           have hr1:(execOp a.eval o1).run P w= .ok (.value (bT m.τ ((cc.toList.drop (of+ii.toNat*e.sz+o)).take m.τ.sz))) w:=by
            simp only[execOp,op1]
            refine dm ?_
            simp only[Instr.loadAt,Act.eval,hptr,Instr.sureAddr]
            simpa using hrun
           exact three _ n kk _ (xC hI hq) hl1 hl2 hr1 hU h
          ·cases hA
         ·cases hA
        ·cases hA
       ·cases hA
      ·cases h
     ·cases h
   ·cases h
end
end Vg
namespace Vg
open Go
section
variable {P:Program} {C:Cx} {M:pR} {w0:World} {c0:C0} {U:Nat→Prop} {E:Env} {a:Act} {w:World} {G:Gh} {ops:List Oper} {L:Nat→Prop} {Q:Exit→Act→World→Prop} {ρ:Type}
theorem Q4 (hC:lx P C) (hM:AE P M) {r:ρ} {T:Nat→Value}:∀(c:Code) {E:Env} {a:Act} {w:World} {G:Gh} {kn kr:Env→Option ρ} {ke:List (Nat×(Env→Option ρ))} {Q:Exit→Act→World→Prop},
 Inv w0 c0 (fun u=>u<E.nt) E a w G→qf E.s→E.s.length=C.n→3≤E.nt→(∀i∈C.io,a.tmps.getD i undef=T i)→lr C M c E kn ke kr=some r→FM C w0 c0 T r kn (Q .normal)→(∀id k,ke.lookup id=some k→FM C w0 c0 T r k (Q (.exit id)))→FM C w0 c0 T r kr (Q .ret)→
 c.wp P Q a w:=by
 intro c
 induction c with
 |skip=>intro E a w G kn kr ke Q hI hg hl h3 hT h hn he hr;exact wp_skip (hn E a w G hI hg hl h3 hT h)
 |region id ops draw=>
  intro E a w G kn kr ke Q hI hg hl h3 hT h hn' he hr
  simp only[lr]at h
  split at h
  ·rename_i hc
   simp only[Bool.and_eq_true]at hc
   obtain⟨hgo,hkp⟩:=hc
   have fin:∀E' a' w' G',Inv w0 c0 (fun u=>u<E.nt+32*ops.toList.length) E' a' w' G'→jg ops.toList (fun j=>j<ops.toList.length) E' a'.tmps→E'.s.length=E.s.length→(∀i∈C.io,a'.tmps.getD i undef=a.tmps.getD i undef)→
    kn {gl E' ops.toList with nt:=E.nt+32*ops.size}=some r→Q .normal a' w':=by
    intro E' a' w' G' g1 g2 g3 g5 g4
    obtain⟨k1,k2,k3⟩:=Kq g1 g2
    refine hn' {gl E' ops.toList with nt:=E.nt+32*ops.size} a' w' G' ?_ k2 (by rw[k3,g3,hl]) (by show 3≤E.nt+32*ops.size;omega) (fun i hi=>(g5 i hi).trans (hT i hi)) g4
    simpa using k1
   split at h
   ·split at h
    ·rename_i d hd
     have hn:0<ops.size:=by
      rcases Nat.eq_zero_or_pos ops.size with h0|h0
      ·have:ops= #[]:=Array.eq_empty_of_size_eq_zero h0
       subst this
       simp[tV]at hd
      ·exact h0
     exact QD hC.toCxTy hC.mixed hI hg h3 hd hn hkp h (fun E' a' w' G' g1 g2 g3 g4 g5 g6=>hn' E' a' w' G' g1 g2 (g3.trans hl) g4 (fun i hi=>(g5 i hi).trans (hT i hi)) g6)
    simp only[xp]at h
    exact KI (ops:=ops.toList) hC.mixed hC hkp hgo h3 hI hg (k:=fun E'=>kn {gl E' ops.toList with nt:=E.nt+32*ops.size}) (by
     rw[←h];congr 1;funext E' L;cases oS ops.toList L<;>rfl) fin
   ·refine wp_region ?_
    have hfl:=Au M ops.toList
    have:=qc (Q:=Q) hC hM hkp hgo h3 (l:=steps M ops.toList) (i:=0) (by rw[hfl];simp) (by rw[hfl];simp) (by simpa using hI) (fun s j w1 act v he=>absurd he (hg s j w1 act v)) h fin
    rw[vW]
    rw[hfl]at this
    simpa using this
  ·cases h
 |seq x y ihx ihy=>
  intro E a w G kn kr ke Q hI hg hl h3 hT h hn he hr
  refine wp_seq ?_
  simp only[lr]at h
  split at h
  ·refine ihx (Q:=Exit.then (y.wp P Q) Q) hI hg hl h3 hT h (fun E' a' w' G' g1 g2 g3 g4 gT g5=> ?_) he hr
   exact ihy g1 g2 g3 g4 gT g5 hn he hr
  ·rename_i n _
   simp only[aO]at h
   refine ihx (Q:=Exit.then (y.wp P Q) Q) hI hg hl h3 hT h (fun E' a' w' G' g1 g2 g3 g4 gT g5=> ?_) he hr
   split at g5
   ·rename_i t ht
    obtain⟨G2,k1,k2,k3,k4⟩:=rM g1 g3 ht
    exact ihy k1 k2 k3 k4 gT g5 hn he hr
   ·cases g5
 |cond c x y ihx ihy=>
  intro E a w G kn kr ke Q hI hg hl h3 hT h hn he hr
  simp only[lr]at h
  split at h
  ·rename_i b sh hb
   have hR:RI ([]:List Oper) E a.tmps:=fun s j w1 act v he=>absurd he (hg s j w1 act v)
   obtain⟨⟨cs,h1,h2⟩,_⟩:=en hI hR (g:=none) (by rintro j w' ⟨⟩) hb
   have hev:a.eval c= .bool b:=by
    cases sh with
    |leaf=>rw[h1,show cs=_ from h2];rfl
    |sl m=>exact h2.elim
    |pair a b=>exact h2.elim
   refine wp_cond hev ?_
   split at h
   ·rename_i hb;subst hb;exact ihx hI hg hl h3 hT h hn he hr
   ·rename_i hb
    have:b=false:=by simpa using hb
    subst this
    exact ihy hI hg hl h3 hT h hn he hr
  ·cases h
 |block id c ih=>
  intro E a w G kn kr ke Q hI hg hl h3 hT h hn he hr
  refine wp_block ?_
  simp only[lr]at h
  refine ih (Q:=Exit.inBlock id Q) hI hg hl h3 hT h hn (fun i k hk=> ?_) hr
  rw[rk]at hk
  intro E2 a2 w2 G2 g1 g2 g3 g4 gT g5
  show Exit.inBlock id Q (.exit i) a2 w2
  simp only[Exit.inBlock]
  split at hk
  ·rename_i e
   simp only[Option.some.injEq]at hk
   subst hk
   simp only[e,if_true]
   exact hn E2 a2 w2 G2 g1 g2 g3 g4 gT g5
  ·rename_i e
   simp only[e,if_false]
   exact he i k hk E2 a2 w2 G2 g1 g2 g3 g4 gT g5
 |loop c ih=>
  intro E a w G kn kr ke Q hI hg hl h3 hT h hn he hr
  simp only[lr]at h
  split at h
  ·cases h
  ·rename_i n _
   have hq:∃t,proj n E=some t∧az C.k (fun G t=>lr C M c (dB C.n n t) (fun E'=>match proj n E' with|some t=>G t|none=>none) ke kr) t=some r:=by
    split at h
    ·rename_i t ht;exact⟨t,ht,h⟩
    ·cases h
   obtain⟨t,ht,h⟩:=hq
   obtain⟨G2,k1,k2,k3,k4⟩:=rM hI hl ht
   refine wp_loop_rounds C.k ?_
   have key:∀(m:Nat) (t:aT (jK n.ks)) (a:Act) (w:World) (G:Gh),az m (fun G t=>lr C M c (dB C.n n t) (fun E'=>match proj n E' with|some t=>G t|none=>none) ke kr) t=some r→
    Inv w0 c0 (fun u=>u<(dB C.n n t).nt) (dB C.n n t) a w G→qf (dB C.n n t).s→(dB C.n n t).s.length=C.n→3≤(dB C.n n t).nt→(∀i∈C.io,a.tmps.getD i undef=T i)→Code.rounds P c Q m a w:=by
    intro m
    induction m with
    |zero=>intro t a w G h;simp[az]at h
    |succ m ihm=>
     intro t a w G h g1 g2 g3 g4 gT
     rw[rounds_succ]
     simp only[az]at h
     refine ih (Q:=Exit.then (Code.rounds P c Q m) Q) g1 g2 g3 g4 gT h (fun E' a' w' G' q1 q2 q3 q4 qT q5=> ?_) he hr
     split at q5
     ·rename_i t' ht'
      obtain⟨G3,p1,p2,p3,p4⟩:=rM q1 q3 ht'
      exact ihm t' a' w' G3 q5 p1 p2 p3 p4 qT
     ·cases q5
   exact key C.k t a w G2 h k1 k2 k3 k4 hT
 |exit id=>
  intro E a w G kn kr ke Q hI hg hl h3 hT h hn he hr
  simp only[lr]at h
  split at h
  ·rename_i k hk
   exact wp_exit (he id k hk E a w G hI hg hl h3 hT h)
  ·cases h
 |ret=>intro E a w G kn kr ke Q hI hg hl h3 hT h hn he hr;exact wp_ret (hr E a w G hI hg hl h3 hT h)
 |_=>intro E a w G kn kr ke Q hI hg hl h3 hT h hn he hr;simp[lr]at h
end
end Vg
namespace Vg
open Go
def QE:Value→Value→Bool
 | .int k n,.int k' n'=>k==k'&&n==n'
 | .bool b,.bool b'=>b==b'
 | .string a,.string b=>a.size==0&&b.size==0
 | .slice none l c,.slice none l' c'=>l==l'&&c==c'
 |_,_=>false
def kK:List Value→List Value→Bool
 | [],[]=>true
 |a::l,b::m=>QE a b&&kK l m
 |_,_=>false
def Qu:Ty→Value→Bool
 | .pair a b,.agg cs=>kK cs.toList (Ty.pair a b).zero
 | .pair _ _,_=>false
 |τ,v=>kK [v] τ.zero
theorem Ta {a:ByteArray} (h:a.size=0):a=ByteArray.empty:=by
 cases a with
 |mk d=>
  have:d.size=0:=h
  have:d= #[]:=Array.eq_empty_of_size_eq_zero this
  rw[this];rfl
theorem SL {a b:Value} (h:QE a b=true):a=b:=by
 unfold QE at h
 split at h
 ·simp only[Bool.and_eq_true,beq_iff_eq]at h;rw[h.1,h.2]
 ·simp only[beq_iff_eq]at h;rw[h]
 ·simp only[Bool.and_eq_true,beq_iff_eq]at h;rw[Ta h.1,Ta h.2]
 ·simp only[Bool.and_eq_true,beq_iff_eq]at h;rw[h.1,h.2]
 ·cases h
theorem nR:∀ {l m:List Value},kK l m=true→l=m
 | [],[],_=>rfl
 |a::l,b::m,h=>by
  simp only[kK,Bool.and_eq_true]at h
  rw[SL h.1,nR h.2]
 | [],_::_,h|_::_,[],h=>by simp[kK]at h
theorem Sx {τ:Ty} {v:Value} (h:Qu τ v=true):v=bT τ τ.zero:=by
 cases τ with
 |pair a b=>
  cases v with
  |agg cs=>
   have:=nR (show kK cs.toList (Ty.pair a b).zero=true from h)
   simp only[bT,←this,Array.toArray_toList]
  |_=>simp[Qu]at h
 |int k=>have:=nR (show kK [v] (Ty.int k).zero=true from h);simpa[bT,Ty.zero]using this
 |bool=>have:=nR (show kK [v] Ty.bool.zero=true from h);simpa[bT,Ty.zero]using this
 |str=>have:=nR (show kK [v] Ty.str.zero=true from h);simpa[bT,Ty.zero]using this
 |sl e=>have:=nR (show kK [v] (Ty.sl e).zero=true from h);simpa[bT,Ty.zero]using this
def UE:TypeDesc→Bool
 | .struct _| .array _ _=>true
 |_=>false
def qk (P:Program) (t:TypeId) (τ:Ty):Bool:=
 match P.info? t,P.underlying t with
 |some inf,some d=>inf.size==τ.sz&&(match inf.zero with|some v=>Qu τ v|none=>false)&&decide (inf.bytes≤32768)&&UE d==τ.bJ
 |_,_=>false
theorem qp {P:Program} {t:TypeId} {τ:Ty} (h:qk P t τ=true):eU P t τ:=by
 unfold qk at h
 split at h
 ·rename_i inf d h1 h2
  simp only[Bool.and_eq_true,beq_iff_eq,decide_eq_true_eq]at h
  obtain⟨⟨⟨h3,h4⟩,h5⟩,h6⟩:=h
  refine⟨inf,d,h1,h3,?_,h5,h2,?_⟩
  ·split at h4
   ·rename_i v hv
    rw[hv,Sx h4]
   ·cases h4
  ·rw[←h6]
   cases d<;>rfl
 ·cases h
def MM (P:Program) (τ:Ty) (fs:List TypeId) (j:Nat) (f:Field):Bool:=
 f.offset==τ.off (dv fs.length j)&&fs[j]?==some f.type&&(match τ.sub (dv fs.length j)with|some σ=>qk P f.type σ|none=>false)
theorem RJ {P:Program} {τ:Ty} {fs:List TypeId} {j:Nat} {f:Field} (h:MM P τ fs j f=true):A3 P τ fs j f:=by
 simp only[MM,Bool.and_eq_true,beq_iff_eq]at h
 obtain⟨⟨h1,h2⟩,h3⟩:=h
 refine⟨h1,h2,?_⟩
 split at h3
 ·rename_i σ hs
  exact⟨σ,hs,qp h3⟩
 ·cases h3
def Jf (P:Program) (chk:Ty→TypeId→Bool):Ty→List Field→Nat→Bool
 |τ,[f],off=>f.offset==off&&f.name != "_" &&qk P f.type τ&&chk τ f.type
 | .pair a b,f::g::l,off=>f.offset==off&&f.name != "_" &&qk P f.type a&&chk a f.type&&Jf P chk b (g::l) (off+a.sz)
 |_,_,_=>false
def PF (P:Program):Nat→Ty→TypeId→Bool
 |0,_,_=>false
 |n+1,τ,t=>
  match P.underlying t with
  |some (.int k)=>τ== .int k
  |some .bool=>τ== .bool
  |some .string=>τ== .str
  |some (.struct fs)=>τ.bJ&& !P.stoodInHeld t&&Jf P (PF P n) τ fs.toList 0
  |_=>false
section
variable {P:Program}
theorem tT {w:World} {t:TypeId} {τ:Ty} (h:eU P t τ) {cs:Array Value} {off:Nat} (ho:off+τ.sz≤cs.size):
 (part t cs off).run P w= .ok (bT τ ((cs.toList.drop off).take τ.sz)) w:=by
 unfold part
 rw[Sem.run_bind,qe h,Result.andThen_ok]
 cases hp:τ.bJ with
 |true=>
  cases τ with
  |pair a b=>
   simp[cV h,bT,Array.toList_extract,List.extract]
   apply Array.ext'
   simp[Array.toList_extract,List.extract]
  |_=>simp[Ty.bJ]at hp
 |false=>
  have hsz:τ.sz=1:=by cases τ<;>first|rfl|simp[Ty.bJ]at hp
  rw[hsz]at ho
  have hg:cs[off]?=some cs[off]:=Array.getElem?_eq_getElem (by omega)
  simp only[Bool.false_eq_true,if_false,hg,Sem.run_pure]
  have:(cs.toList.drop off).take τ.sz=[cs[off]]:=by
   rw[hsz,List.take_one,List.head?_drop]
   simp[hg]
  rw[this]
  cases τ<;>first|rfl|simp[Ty.bJ]at hp
theorem Q6 (a b:ByteArray):(a==b)=(a.toList==b.toList):=by
 rw[Bool.eq_iff_iff]
 simp only[beq_iff_eq,ByteArray.toList_eq]
 constructor
 ·intro h
  have:(a.data==b.data)=true:=h
  simp only[beq_iff_eq]at this
  rw[this]
 ·intro h
  have h':a.data=b.data:=by
   have:=congrArg List.toArray h
   simpa using this
  show(a.data==b.data)=true
  simp[h']
theorem KQ {w:World} {chk:Ty→TypeId→Bool} {d:Nat}
 (hchk:∀ {τ:Ty} {t:TypeId} {a b:τ.den} {c1 c2:List Value},chk τ t=true→aR w τ a c1 []→aR w τ b c2 []→(Op.equalIn d t (bT τ c1) (bT τ c2)).run P w= .ok (eqv τ a b) w) {xs ys:Array Value}:
 ∀ {fs:List Field} {τ:Ty} {off:Nat} {a b:τ.den},Jf P chk τ fs off=true→aR w τ a (xs.toList.drop off) []→aR w τ b (ys.toList.drop off) []→
 ∃r,(Sem.run P (forIn fs ((none,()):Option Bool×Unit) fun f __s=>if f.name= "_" then pure (ForInStep.yield (none,()))else do
  let __do_lift←part f.type xs f.offset
  let __do_lift_1←part f.type ys f.offset
  let __do_lift←Op.equalIn d f.type __do_lift __do_lift_1
  if __do_lift=false then pure (ForInStep.done (some false,()))else pure (ForInStep.yield (none,()))) w)= .ok r w∧r=(if eqv τ a b=true then none else some false,())
 | [],τ,_,_,_,h,_,_=>by cases τ<;>simp[Jf]at h
 | [f],τ,off,a,b,h,ha,hb=>by
   have h:(f.offset==off&&f.name != "_" &&qk P f.type τ&&chk τ f.type)=true:=by cases τ<;>exact h
   simp only[Bool.and_eq_true,beq_iff_eq,bne_iff_ne,ne_eq]at h
   obtain⟨⟨⟨h1,h2⟩,h3⟩,h4⟩:=h
   have hf:=qp h3
   have l1:=ha.len
   have l2:=hb.len
   simp only[List.length_drop,Array.length_toList]at l1 l2
   have hpos:=τ.kG
   have e1:(xs.toList.drop off).take τ.sz=xs.toList.drop off:=List.take_of_length_le (by simp;omega)
   have e2:(ys.toList.drop off).take τ.sz=ys.toList.drop off:=List.take_of_length_le (by simp;omega)
   simp only[List.forIn_cons,h2,if_false,h1,Sem.run_bind,tT hf (show off+τ.sz≤xs.size by omega),tT hf (show off+τ.sz≤ys.size by omega),Result.andThen_ok,e1,e2,hchk h4 ha hb]
   cases eqv τ a b<;>simp
 |f::g::l,τ,off,a,b,h,ha,hb=>by
  cases τ with
  |pair τ1 τ2=>
   simp only[Jf,Bool.and_eq_true,beq_iff_eq,bne_iff_ne,ne_eq]at h
   obtain⟨⟨⟨⟨h1,h2⟩,h3⟩,h4⟩,h5⟩:=h
   have hf:=qp h3
   obtain⟨c1,c2,B1,B2,q1,q2,r1,r2⟩:=ha
   obtain⟨d1,d2,D1,D2,p1,p2,s1,s2⟩:=hb
   obtain⟨rfl,rfl⟩:=List.append_eq_nil_iff.1 q2.symm
   obtain⟨rfl,rfl⟩:=List.append_eq_nil_iff.1 p2.symm
   have l1:=r1.len
   have l2:=s1.len
   have t1:(xs.toList.drop off).take τ1.sz=c1:=by rw[q1,←l1,List.take_left]
   have t2:(ys.toList.drop off).take τ1.sz=d1:=by rw[p1,←l2,List.take_left]
   have u1:xs.toList.drop (off+τ1.sz)=c2:=by rw[←List.drop_drop,q1,←l1,List.drop_left]
   have u2:ys.toList.drop (off+τ1.sz)=d2:=by rw[←List.drop_drop,p1,←l2,List.drop_left]
   have z1:off+τ1.sz≤xs.size:=by
    have:=congrArg List.length q1
    simp only[List.length_drop,Array.length_toList,List.length_append,l1]at this
    have:=τ1.kG;omega
   have z2:off+τ1.sz≤ys.size:=by
    have:=congrArg List.length p1
    simp only[List.length_drop,Array.length_toList,List.length_append,l2]at this
    have:=τ1.kG;omega
   obtain⟨r,k1,k2⟩:=KQ hchk (xs:=xs) (ys:=ys) h5 (by rw[u1];exact r2) (by rw[u2];exact s2)
   rw[List.forIn_cons]
   simp only[h2,if_false,h1,Sem.run_bind,tT hf z1,tT hf z2,Result.andThen_ok,t1,t2,hchk h4 r1 s1,eqv]
   rcases Bool.eq_false_or_eq_true (eqv τ1 a.1 b.1)with he|he
   ·simp only[he,Bool.true_eq_false,if_false,Sem.run_pure,Result.andThen_ok,Bool.true_and]
    exact⟨r,k1,k2⟩
   ·simp[he]
  |_=>simp[Jf]at h
theorem UO {w:World}:∀(n d:Nat) {τ:Ty} {t:TypeId} {a b:τ.den} {c1 c2:List Value},n≤d→PF P n τ t=true→aR w τ a c1 []→aR w τ b c2 []→(Op.equalIn d t (bT τ c1) (bT τ c2)).run P w= .ok (eqv τ a b) w:=by
 intro n
 induction n with
 |zero=>intro d τ t a b c1 c2 _ h;simp[PF]at h
 |succ n ih=>
  intro d τ t a b c1 c2 hd h ha hb
  obtain⟨d,rfl⟩:∃e,d=e+1:=⟨d-1,by omega⟩
  simp only[PF]at h
  split at h
  ·rename_i k hu
   simp only[beq_iff_eq]at h
   subst h
   obtain⟨rfl,_⟩:=ha
   obtain⟨rfl,_⟩:=hb
   simp[Op.equalIn,run_underlying hu,bT,eqv]
  ·rename_i hu
   simp only[beq_iff_eq]at h
   subst h
   obtain⟨rfl,_⟩:=ha
   obtain⟨rfl,_⟩:=hb
   simp[Op.equalIn,run_underlying hu,bT,eqv]
  ·rename_i hu
   simp only[beq_iff_eq]at h
   subst h
   obtain⟨rfl,_⟩:=ha
   obtain⟨rfl,_⟩:=hb
   simp[Op.equalIn,run_underlying hu,bT,eqv,Q6]
  ·rename_i fs hu
   simp only[Bool.and_eq_true,Bool.not_eq_true']at h
   obtain⟨⟨hp,hs⟩,hf⟩:=h
   cases τ with
   |pair τ1 τ2=>
    simp only[bT]
    obtain⟨r,k1,k2⟩:=KQ (P:=P) (w:=w) (d:=d) (xs:=c1.toArray) (ys:=c2.toArray) (fun h ha hb=>ih d (by omega) h ha hb) hf (by simpa using ha) (by simpa using hb)
    simp[Op.equalIn,run_underlying hu,hs]
    rw[←Array.forIn_toList,k1,k2,Result.andThen_ok]
    cases eqv (τ1.pair τ2) a b<;>simp
   |_=>simp[Ty.bJ]at hp
  ·cases h
theorem TL {t:TypeId} {τ:Ty} {n:Nat} (hn:n≤10000) (hp:τ.bJ=true) (h:PF P n τ t=true) (hg:P.eqGuardType P.depth t=false):SZ P t τ:=by
 intro w op x y a b c1 c2 hop ha hb
 have he:=UO n Op.maxDepth hn h ha hb
 cases τ with
 |pair τ1 τ2=>
  simp only[bT]at he⊢
  rcases hop with rfl|rfl
  ·simp[eqGuard,hg,binOp,Op.equal,he]
  ·simp[eqGuard,hg,binOp,Op.equal,he]
 |_=>simp[Ty.bJ]at hp
def EK (P:Program) (t:TypeId) (i:TI):Bool:=
 qk P t i.τ&&(match i.τ,P.underlying t with
  | .int k,some (.int k')=>k==k'
  | .bool,some .bool=>true
  | .str,some .string=>true
  | .sl e,some (.slice el)=>el==i.el&&qk P el e&&(if e== .int .u8 then(match P.underlying el with|some (.int .u8)=>true|_=>false)else true)
  | .pair a b,some (.struct fields)=>fields.size==i.fs.length&&fields.toList.zipIdx.all (fun p=>MM P (.pair a b) i.fs p.2 p.1)&&
   (if(Ty.pair a b).flat then PF P 20 (.pair a b) t&& !P.eqGuardType P.depth t else true)
  |_,_=>false)&&(i.τ.bJ||i.fs.isEmpty)
theorem Ew {t:TypeId} {i:TI} (h:EK P t i=true):
 H6 P t i∧(i.τ.bJ=true→i.τ.flat=true→SZ P t i.τ)∧(i.τ.bJ=false→i.fs=[])∧(i.τ= .sl (.int .u8)→P.underlying i.el=some (.int .u8)):=by
 obtain⟨τ,fs,el⟩:=i
 simp only[EK,Bool.and_eq_true,Bool.or_eq_true]at h
 obtain⟨⟨h1,h2⟩,h3⟩:=h
 have hf:=qp h1
 cases τ with
 |int k=>
  cases hu:P.underlying t with
  |none=>rw[hu]at h2;simp at h2
  |some d=>
   rw[hu]at h2
   cases d<;>simp at h2
   subst h2
   exact⟨⟨hf,hu⟩,by simp[Ty.bJ],by simpa[Ty.bJ]using h3,by simp⟩
 |bool=>
  cases hu:P.underlying t with
  |none=>rw[hu]at h2;simp at h2
  |some d=>
   rw[hu]at h2
   cases d<;>simp at h2
   exact⟨⟨hf,hu⟩,by simp[Ty.bJ],by simpa[Ty.bJ]using h3,by simp⟩
 |str=>
  cases hu:P.underlying t with
  |none=>rw[hu]at h2;simp at h2
  |some d=>
   rw[hu]at h2
   cases d<;>simp at h2
   exact⟨⟨hf,hu⟩,by simp[Ty.bJ],by simpa[Ty.bJ]using h3,by simp⟩
 |sl e=>
  cases hu:P.underlying t with
  |none=>rw[hu]at h2;simp at h2
  |some d=>
   rw[hu]at h2
   cases d<;>simp only[Bool.and_eq_true,beq_iff_eq,Bool.false_eq_true]at h2
   obtain⟨⟨rfl,h4⟩,h5⟩:=h2
   refine⟨⟨hf,hu,qp h4⟩,by simp[Ty.bJ],by simpa[Ty.bJ]using h3,fun he=> ?_⟩
   simp only[Ty.sl.injEq]at he
   subst he
   simp only[if_true]at h5
   split at h5
   ·assumption
   ·cases h5
 |pair a b=>
  cases hu:P.underlying t with
  |none=>rw[hu]at h2;simp at h2
  |some d=>
   rw[hu]at h2
   cases d with
   |struct fields=>
    simp only[Bool.and_eq_true,beq_iff_eq]at h2
    obtain⟨⟨h4,h5⟩,h6⟩:=h2
    refine⟨⟨hf,fields,hu,h4,fun j f hj=> ?_⟩,fun _ hfl=> ?_,by simp[Ty.bJ],by simp⟩
    ·rw[List.all_eq_true]at h5
     exact RJ (h5 (f,j) (List.mem_zipIdx_iff_getElem?.2 (by simpa using hj)))
    ·rw[if_pos hfl]at h6
     simp only[Bool.and_eq_true,Bool.not_eq_true']at h6
     exact TL (by omega) rfl h6.1 h6.2
   |_=>simp at h2
theorem u4 {α:Type}:∀ {l:List (Nat×α)} {a:Nat} {b:α},l.lookup a=some b→(a,b)∈l
 | [],_,_,h=>by simp[List.lookup]at h
 |(x,y)::l,a,b,h=>by
  simp only[List.lookup]at h
  split at h
  ·rename_i e
   simp only[beq_iff_eq]at e
   simp only[Option.some.injEq]at h
   subst e h;simp
  ·exact List.mem_cons_of_mem _ (u4 h)
theorem TG {C:Cx} {l:List (Nat×TI)} (hl:l.all (fun p=>EK P p.1 p.2)=true) (hC:C.tt=fun t=>l.lookup t):CxTy P C:=by
 have:∀t i,C.tt t=some i→EK P t i=true:=by
  intro t i h
  rw[hC]at h
  exact List.all_eq_true.1 hl (t,i) (u4 h)
 exact⟨fun t i h=>(Ew (this t i h)).1,fun t i h=>(Ew (this t i h)).2.1,fun t i h=>(Ew (this t i h)).2.2.1,fun t i h=>(Ew (this t i h)).2.2.2⟩
end
end Vg
namespace Vg
open Go
def Qn (tt:List (Nat×TI)) (cts:List (FuncId×aF)) (la ja:Nat→Option aL) (k:Nat):Cx:=
 ⟨fun t=>tt.lookup t,fun f=>cts.lookup f,la,ja,k,0,[]⟩
def ae (P:Program):List (FuncId×aF)→Prop
 | []=>True
 |p::l=>oq P p.1 p.2∧ae P l
theorem ae.mem {P:Program}:∀ {l:List (FuncId×aF)},ae P l→∀p∈l,oq P p.1 p.2
 | [],_,_,h=>by cases h
 |q::l,⟨h1,h2⟩,p,h=>by
  rcases List.mem_cons.1 h with rfl|h
  ·exact h1
  ·exact ae.mem h2 p h
theorem Qc {P:Program} {tt:List (Nat×TI)} (h1:tt.all (fun p=>EK P p.1 p.2)=true) (hm:P.follows .mixedOrders=true) {cts:List (FuncId×aF)} (hc:ae P cts) {la ja:Nat→Option aL} {k:Nat}:
 lx P (Qn tt cts la ja k):=
 ⟨TG h1 rfl,fun f con h=>hc.mem (f,con) (u4 h),hm⟩
def Rv (fn:Func) (n:Nat):Bool:=match fn.name== "runtime.NumGoroutine" with|true=>false|false=>decide (n≤fn.ntmps)
theorem pz {fn:Func} {n:Nat} (h:Rv fn n=true):(fn.name== "runtime.NumGoroutine")=false∧n≤fn.ntmps:=by
 unfold Rv at h
 split at h
 ·cases h
 ·rename_i h1;exact⟨h1,of_decide_eq_true h⟩
theorem ae.ev {P:Program} {tt:List (Nat×TI)} (h1:tt.all (fun p=>EK P p.1 p.2)=true) (hm:P.follows .mixedOrders=true) {t:List (FuncId×aF)} (hc:ae P t) (la ja:Nat→Option aL) (k:Nat)
 {f:FuncId} {fn:Func} (hf:P.funcs[f]?=some fn) {ps:List PK} {rs:List RK} {kp:List (Nat×List Bool)} (hn:Rv fn ps.length=true)
 {F:aT (ps.map PK.ty)→Option (aT (rs.map RK.ty++bh ps))} (hF:∀x,Ql (Qn tt t la ja k) ps rs kp fn x=F x):ae P ((f,⟨ps,rs,F,kp⟩)::t):=
 ⟨UW (Qc h1 hm hc) hf (pz hn).1 (pz hn).2 (fun x _ h=>(SR ..).symm.trans ((hF x).trans h)),hc⟩
end Vg
namespace Vg
open Go
def bS {α β:Type} (x:α) (f:α→β):β:=f x
def eR:Ty→Pt
 | .sl _=> .own
 | .pair a b=> .pair (eR a) (eR b)
 |_=> .leaf
def PV (τ:Ty) (rv:List ResultVar) (E:Env):Option (Int×τ.den):=
 match rv with
 | [.tmp s]=>(match E.get s,E.get 0 with
   | .d ⟨.int .i64,k,_⟩,.d v=>(match ed v τ,mw v.sh with
     |some y,some _=>some (k,y)
     |_,_=>none)
   |_,_=>none)
 |_=>none
def SF (C:Cx) (M:pR) (τ:Ty) (fn:Func) (x:τ.den) (n:Int):Option (Int×τ.den):=
 match fn.body with
 |none=>none
 |some c=>
  let e:=br [.val τ (eR τ),.val (.int .i64) .leaf] (x,n,()) 3
  lr {C with n:=fn.ntmps,io:=[0]} M c ⟨e.1++List.replicate (fn.ntmps-e.1.length) .no,e.2,true⟩ (PV τ fn.results.toList) [] (PV τ fn.results.toList)
def PI (C:Cx) (M:pR) (ps:List PK) (rs:List RK) (kp:List (Nat×List Bool)) (fn:Func) (x:aT (ps.map PK.ty)):Option (aT (rs.map RK.ty++bh ps)):=
 match fn.body with
 |none=>none
 |some c=>
  let e:=br ps x 3
  lr {C with n:=fn.ntmps,io:=fc ps 0} M c ⟨e.1++List.replicate (fn.ntmps-e.1.length) .no,e.2,true⟩ (fin C.tt ps rs kp fn.results.toList e.2) [] (fin C.tt ps rs kp fn.results.toList e.2)
section
variable {P:Program} {C:Cx} {M:pR} {w0:World} {c0:C0} {U:Nat→Prop} {E:Env} {a:Act} {w:World} {G:Gh} {ops:List Oper} {L:Nat→Prop} {Q:Exit→Act→World→Prop} {ρ:Type}
theorem IJ:∀ {τ:Ty} {x:τ.den} {cs:List Value} {B:List Nat} (tk:Nat),3≤tk→aR w τ x cs B→B.Nodup→∃(f:Nat→Nat) (H:Nat→Value),(∀b∈B,tk≤f b∧f b<aH (eR τ) tk)∧
 ∀G1:Gh,(∀b∈B,G1.col b=f b)→(∀u,tk≤u→u<aH (eR τ) tk→G1.hdr u=H u)→aW w G1 τ x (aP (eR τ) tk [1]).1 cs
 | .int _,_,_,_,_,_,h,_=>⟨fun _=>0,fun _=>undef,by rw[h.2];simp,fun _ _ _=>h.1⟩
 | .bool,_,_,_,_,_,h,_=>⟨fun _=>0,fun _=>undef,by rw[h.2];simp,fun _ _ _=>h.1⟩
 | .str,_,_,_,_,_,h,_=>⟨fun _=>0,fun _=>undef,by rw[h.2];simp,fun _ _ _=>h.1⟩
 | .sl e,l,cs,B,tk,h3,h,hn=>by
   obtain⟨v,rfl,hS⟩:=h
   refine⟨fun _=>tk,fun _=>v,fun b _=>⟨Nat.le_refl _,Nat.lt_succ_self _⟩,fun G1 g1 g2=>⟨v,rfl,h3,g2 tk (Nat.le_refl _) (Nat.lt_succ_self _),B,hS,?_⟩⟩
   rintro b Bs rfl
   rw[List.nodup_cons]at hn
   exact⟨g1 b (by simp),hn.1,fun z hz=>by simp[g1 z (by simp[hz])],fun _=>hn.2⟩
 | .pair a b,p,cs,B,tk,h3,h,hn=>by
   obtain⟨c1,c2,B1,B2,rfl,rfl,h1,h2⟩:=h
   rw[List.nodup_append]at hn
   obtain⟨n1,n2,n3⟩:=hn
   have hge:=bj (eR a) tk
   have hge2:=bj (eR b) (aH (eR a) tk)
   obtain⟨f1,H1,j1,k1⟩:=IJ tk h3 h1 n1
   obtain⟨f2,H2,j2,k2⟩:=IJ (aH (eR a) tk) (by omega) h2 n2
   refine⟨fun z=>if z∈B1 then f1 z else f2 z,fun u=>if u<aH (eR a) tk then H1 u else H2 u,fun z hz=> ?_,fun G1 g1 g2=>⟨c1,c2,rfl,?_,?_⟩⟩
   ·simp only[eR,de]
    by_cases hz1:z∈B1
    ·have:=j1 z hz1;simp only[hz1,if_true];omega
    ·have:=j2 z ((List.mem_append.1 hz).resolve_left hz1);simp only[hz1,if_false];omega
   ·exact k1 G1 (fun z hz=>by rw[g1 z (by simp[hz])];simp[hz]) (fun u hu hu2=>(g2 u hu (by simp only[eR,de];omega)).trans (if_pos hu2))
   ·rw[bH]
    exact k2 G1 (fun z hz=>by
     rw[g1 z (by simp[hz])]
     have:z∉B1:=fun h=>n3 z h z hz rfl
     simp[this]) (fun u hu hu2=>(g2 u (by omega) (by simp only[eR,de];omega)).trans (if_neg (by omega)))
theorem Tq {τ:Ty} {x:τ.den} {cs:List Value} {B:List Nat} (n:Int) (h:aR w τ x cs B) (hn:B.Nodup) (hf:∀b∈B,Gp w b):
 ∃G0:Gh,Cu w G0 (br [.val τ (eR τ),.val (.int .i64) .leaf] (x,n,()) 3).1 [bT τ cs,.int .i64 n] (bw [.val τ (eR τ),.val (.int .i64) .leaf] 3)∧
  (∀b,b∉B→G0.col b=0):=by
 obtain⟨f,H,j,k⟩:=IJ 3 (Nat.le_refl _) h hn
 let G0:Gh:=⟨fun b=>if b∈B then f b else 0,H,fun _=>false⟩
 have hcol:∀b∈B,G0.col b=f b:=fun b hb=>by simp[G0,hb]
 have hv:=k G0 hcol (fun _ _ _=>rfl)
 refine⟨G0,⟨rfl,fun i=> ?_,fun i=> ?_,fun i j t v v' h h'=>nI h h',fun b hb=> ?_,fun b hb=> ?_,rfl,fun b=> ?_⟩,fun b hb=>by simp[G0,hb]⟩
 ·match i with
  |0=>exact⟨cs,rfl,hv⟩
  |1=>exact⟨_,rfl,rfl⟩
  |i+2=>trivial
 ·by_cases hi:i<(br [.val τ (eR τ),.val (.int .i64) .leaf] (x,n,()) 3).1.length
  ·have hmem:(br [.val τ (eR τ),.val (.int .i64) .leaf] (x,n,()) 3).1.getD i .no∈(br [.val τ (eR τ),.val (.int .i64) .leaf] (x,n,()) 3).1:=by
    rw[List.getD_eq_getElem?_getD,List.getElem?_eq_getElem hi];simp
   obtain⟨h1,h2,h3⟩:=fN _ hmem
   have hge:=dH [.val τ (eR τ),.val (.int .i64) .leaf] 3
   refine⟨fun c hc=> ?_,fun c hc=> ?_,by rw[h3];simp⟩
   ·rcases h1 c hc with rfl|⟨q1,q2,q3⟩|h
    ·exact⟨by omega,by omega,rfl⟩
    ·exact⟨by omega,q2,rfl⟩
    ·simp[GB]at h
   ·have:=h2 c hc;simp[bR]at this
  ·rw[List.getD_eq_getElem?_getD,List.getElem?_eq_none (by omega)]
   simp[aX,SV.sc,SV.bt,SV.rt]
 ·by_cases hb1:b∈B
  ·rw[hcol b hb1]
   exact⟨(j b hb1).2,aR.bounds h b hb1⟩
  ·simp[G0,hb1]at hb
 ·by_cases hb1:b∈B
  ·exact hf b hb1
  ·simp[G0,hb1]at hb
 ·by_cases hb1:b∈B
  ·rw[hcol b hb1];have:=j b hb1;omega
  ·simp[G0,hb1]
theorem KL (args:List Value) (n i:Nat) (hi:i<args.length):(args.toArray++Array.replicate (n-args.toArray.size) undef).getD i undef=args.getD i undef:=by
 rw[Array.getD_eq_getD_getElem?,List.getD_eq_getElem?_getD,Array.getElem?_append_left (by simpa using hi)]
 simp
theorem UJ (hC:lx P C) (hM:AE P M) {f:FuncId} {fn:Func} {m:dE} (hf:P.funcs[f]?=some fn) (hname:(fn.name== "runtime.NumGoroutine")=false) (hn:2≤fn.ntmps)
 (hF:∀x n y,m.F x n=some y→SF C M m.τ fn x n=some y):wx P f m:=by
 intro w x n k y cs B hy hrep hnd hfr
 have hev:=hF x n (k,y) hy
 unfold SF at hev
 split at hev
 ·cases hev
 ·rename_i c hb
  obtain⟨G0,hlot,hG0⟩:=Tq n hrep hnd hfr
  have hrun:(callFunc f #[bT m.τ cs,.int .i64 n]).run P w= .ok (.enter f #[bT m.τ cs,.int .i64 n]) w:=by
   have hne:fn.name≠ "runtime.NumGoroutine" :=by simpa using hname
   unfold callFunc
   simp[hf,hne,hb]
  unfold nu
  rw[hrun]
  simp only
  refine calls_of_wp hf hb ?_
  have hE:=CO hlot fn.ntmps
  have h30:=dH [.val m.τ (eR m.τ),.val (.int .i64) .leaf] 3
  have hkey:FM {C with n:=fn.ntmps,io:=[0]} w (G0.Cl (bw [.val m.τ (eR m.τ),.val (.int .i64) .leaf] 3)) (fun i=>[bT m.τ cs,Value.int .i64 n].getD i undef) (k,y) (PV m.τ fn.results.toList) (fun a' w'=>
   a'.defers=[]∧∃v,(results fn a'.tmps).run P w'= .ok v w'∧∃v',Ending.returned v=Ending.returned v'∧(v'= .int .i64 k∧∃B',Mm w w' m.τ y cs B B')):=by
   intro E' a' w' G' g1 g2 g3 g4 gT g5
   unfold PV at g5
   split at g5
   ·rename_i s hrv
    split at g5
    ·rename_i k' shk v hs h0
     split at g5
     ·rename_i y' ts hcast hown
      cases g5
      have hk:=xC g1 hs
      have hs0:=g1.slots 0
      have h0':E'.s.getD 0 .no= .d v:=h0
      rw[h0']at hs0
      obtain⟨cs',hcs',hv⟩:=hs0
      have e:=cK hcast
      rw[e]at hcs' hv
      have hT0:=gT 0 (by simp)
      rw[hcs']at hT0
      have hT0':bT m.τ cs'=bT m.τ cs:=hT0
      have hcc:cs'=cs:=by
       have h1:=fh (aW.len hv) (aW.one hv)
       have h2:=fh (aR.len hrep) (aR.one hrep)
       rw[←h1,←h2,hT0']
      subst hcc
      have hsown:=xu hv hown
      obtain⟨B',hB',hn',hc'⟩:=hv.own hsown
      have h3':=Sh.hJ hv hsown
      refine⟨g1.defers,.int .i64 k,?_,.int .i64 k,rfl,rfl,B',⟨hB',hn',fun b hb'=> ?_,fun b hb'=>g1.fresh b (h3' _ (hc' b hb')),fun b hb' hnb=> ?_,g1.size,g1.os,g1.tape,g1.output⟩⟩
      ·have:=Cj (P:=P) (w:=w') (fn:=fn) (tmps:=a'.tmps) (vs:=[a'.tmps.getD s undef]) (by rw[hrv];simp[oG])
       rw[this,hk];rfl
      ·rcases Nat.lt_or_ge b w.heap.size with hlt|hge
       ·left
        refine Classical.byContradiction fun hnb=> ?_
        have:G'.col b=G0.col b:=(g1.frame b hlt (by show G0.col b<3;rw[hG0 b hnb];omega)).1
        rw[hG0 b hnb]at this
        have h4:=h3' _ (hc' b hb')
        omega
       ·exact .inr hge
      ·exact(g1.frame b hb' (by show G0.col b<3;rw[hG0 b hnb];omega)).2
     ·cases g5
    ·cases g5
   ·cases g5
  have hC2:lx P {C with n:=fn.ntmps,io:=[0]}:=⟨⟨hC.tt,hC.eq,hC.fs,hC.u8⟩,hC.ct,hC.mixed⟩
  have hnt:(br [.val m.τ (eR m.τ),.val (.int .i64) .leaf] (x,n,()) 3).2=bw [.val m.τ (eR m.τ),.val (.int .i64) .leaf] 3:=gw _ _ _
  have hln:(br [.val m.τ (eR m.τ),.val (.int .i64) .leaf] (x,n,()) 3).1.length=2:=hZ [.val m.τ (eR m.τ),.val (.int .i64) .leaf] (x,n,()) 3
  refine Q4 (T:=fun i=>[bT m.τ cs,Value.int .i64 n].getD i undef) hC2 hM c (w0:=w) (c0:=G0.Cl (bw [.val m.τ (eR m.τ),.val (.int .i64) .leaf] 3)) (G:=G0) (r:=(k,y)) (hE.mono fun u hu=>Nat.lt_of_lt_of_le hu (Nat.le_of_eq hnt.symm)) (fun s j w1 act v h=> ?_) ?_ ?_ (fun i hi=> ?_) hev hkey (fun id k hk=>by simp[List.lookup]at hk) hkey
  ·rw[fJ]at h;exact CR _ _ _ _ _ h
  ·simp only[List.length_append,List.length_replicate];omega
  ·exact Nat.le_trans h30 (Nat.le_of_eq hnt.symm)
  ·simp only[List.mem_singleton]at hi
   subst hi
   exact KL [bT m.τ cs,Value.int .i64 n] fn.ntmps 0 (by simp)
theorem T2 (hC:lx P C) (hM:AE P M) {f:FuncId} {fn:Func} {con:aF} (hf:P.funcs[f]?=some fn) (hname:(fn.name== "runtime.NumGoroutine")=false) (hn:con.ps.length≤fn.ntmps)
 (hF:∀x y,con.F x=some y→PI C M con.ps con.rs con.kp fn x=some y):oq P f con:=by
 intro w G0 args x y hy hlot
 have hev:=hF x y hy
 unfold PI at hev
 split at hev
 ·cases hev
 ·rename_i c hb
  have hrun:(callFunc f args.toArray).run P w= .ok (.enter f args.toArray) w:=by
   have hne:fn.name≠ "runtime.NumGoroutine" :=by simpa using hname
   unfold callFunc
   simp[hf,hne,hb]
  unfold nu
  rw[hrun]
  simp only
  refine calls_of_wp hf hb ?_
  have hal:args.length=con.ps.length:=by rw[hlot.len,hZ]
  have hE:=CO hlot fn.ntmps
  have h30:=dH con.ps 3
  have hkey:FM {C with n:=fn.ntmps,io:=fc con.ps 0} w (G0.Cl (bw con.ps 3)) (fun i=>args.getD i undef) y (fin C.tt con.ps con.rs con.kp fn.results.toList (br con.ps x 3).2) (fun a' w'=>
   a'.defers=[]∧∃v,(results fn a'.tmps).run P w'= .ok v w'∧∃v',Ending.returned v=Ending.returned v'∧∃G' vs nt,sW con w G0 args y v' w' G' vs nt):=by
   intro E' a' w' G' g1 g2 g3 g4 gT g5
   rw[gw]at g5
   obtain⟨mv,G2,vs,nt,k1,k2⟩:=Sa hC.toCxTy (args:=args) hlot g1 g5 gT
   exact⟨g1.defers,mv,k1,mv,rfl,G2,vs,nt,k2⟩
  have hC2:lx P {C with n:=fn.ntmps,io:=fc con.ps 0}:=⟨⟨hC.tt,hC.eq,hC.fs,hC.u8⟩,hC.ct,hC.mixed⟩
  refine Q4 (T:=fun i=>args.getD i undef) hC2 hM c (w0:=w) (c0:=G0.Cl (bw con.ps 3)) (G:=G0) (r:=y) (by rw[gw];simpa[gw]using hE) (fun s j w1 act v h=> ?_) ?_ ?_ (fun i hi=> ?_) hev hkey (fun id k hk=>by simp[List.lookup]at hk) hkey
  ·rw[fJ]at h;exact CR _ _ _ _ _ h
  ·simp only[List.length_append,List.length_replicate,hZ];omega
  ·rw[gw];exact h30
  ·have:=xG i hi
   exact KL args fn.ntmps i (by omega)
def ck (P:Program):List (FuncId×dE)→Prop
 | []=>True
 |p::l=>wx P p.1 p.2∧ck P l
theorem Ce {f:FuncId} {m:dE}:∀ {l:List (FuncId×dE)},l.lookup f=some m→(f,m)∈l
 | [],h=>by simp[List.lookup]at h
 |(x,y)::l,h=>by
  simp only[List.lookup]at h
  split at h
  ·rename_i e
   simp only[beq_iff_eq]at e
   simp only[Option.some.injEq]at h
   subst e h;simp
  ·exact List.mem_cons_of_mem _ (Ce h)
theorem ck.mem:∀ {l:List (FuncId×dE)},ck P l→∀p∈l,wx P p.1 p.2
 | [],_,_,h=>by cases h
 |q::l,⟨h1,h2⟩,p,h=>by
  rcases List.mem_cons.1 h with rfl|h
  ·exact h1
  ·exact ck.mem h2 p h
theorem ck.UX {l:List (FuncId×dE)} (h:ck P l):AE P (fun f=>l.lookup f):=fun f m hm=>h.mem (f,m) (Ce hm)
theorem ae.lr {tt:List (Nat×TI)} (h1:tt.all (fun p=>EK P p.1 p.2)=true) (hm:P.follows .mixedOrders=true) {t:List (FuncId×aF)} (hc:ae P t) {mts:List (FuncId×dE)} (hmc:ck P mts) (la ja:Nat→Option aL) (k:Nat)
 {f:FuncId} {fn:Func} (hf:P.funcs[f]?=some fn) {ps:List PK} {rs:List RK} {kp:List (Nat×List Bool)} (hn:Rv fn ps.length=true)
 {F:aT (ps.map PK.ty)→Option (aT (rs.map RK.ty++bh ps))} (hF:∀x,PI (Qn tt t la ja k) (fun f=>mts.lookup f) ps rs kp fn x=F x):ae P ((f,⟨ps,rs,F,kp⟩)::t):=
 ⟨T2 (Qc h1 hm hc) hmc.UX hf (pz hn).1 (pz hn).2 (fun x _ h=>(hF x).trans h),hc⟩
theorem ck.ev {tt:List (Nat×TI)} (h1:tt.all (fun p=>EK P p.1 p.2)=true) (hm:P.follows .mixedOrders=true) {t:List (FuncId×aF)} (hc:ae P t) {mts:List (FuncId×dE)} (hmc:ck P mts) (la ja:Nat→Option aL) (k:Nat)
 {f:FuncId} {fn:Func} (hf:P.funcs[f]?=some fn) {τ:Ty} (hn:Rv fn 2=true)
 {F:τ.den→Int→Option (Int×τ.den)} (hF:∀x n,SF (Qn tt t la ja k) (fun f=>mts.lookup f) τ fn x n=F x n):ck P ((f,⟨τ,F⟩)::mts):=
 ⟨UJ (Qc h1 hm hc) hmc.UX hf (pz hn).1 (pz hn).2 (fun x n _ h=>(hF x n).trans h),hmc⟩
end
end Vg
namespace Vg
open Go
theorem wrap64 {n:Int} (h: -9223372036854775808≤n) (h':n<9223372036854775808):IntKind.i64.wrap n=n:=by
 simp only[IntKind.wrap,IntKind.signed,IntKind.bits]
 simp
 omega
theorem fv {σ ρ:Type} {f:(σ→Option ρ)→σ→Option ρ} (g:σ→Option ρ) (m:σ→Nat) (I:σ→Prop)
 (h:∀G s,I s→(∀s',I s'→m s'<m s→G s'=g s')→f G s=g s):∀(k:Nat) (s:σ),I s→m s<k→az k f s=g s
 |0,_,_,hm=>by omega
 |k+1,s,hi,hm=>by
  show f (az k f) s=g s
  exact h _ s hi (fun s' hi' hm'=>fv g m I h k s' hi' (by omega))
theorem MP {σ σ' ρ ρ':Type} {f:(σ→Option ρ)→σ→Option ρ} {f':(σ'→Option ρ')→σ'→Option ρ'} (R:σ→σ'→Prop) (S:Option ρ→Option ρ'→Prop) (h0:S none none)
 (h:∀G G' s s',R s s'→(∀t t',R t t'→S (G t) (G' t'))→S (f G s) (f' G' s')):∀(k:Nat) (s:σ) (s':σ'),R s s'→S (az k f s) (az k f' s')
 |0,_,_,_=>h0
 |k+1,s,s',hr=>h _ _ s s' hr (fun t t' ht=>MP R S h0 h k t t' ht)
theorem zQ {σ ρ:Type} {f:(σ→Option ρ)→σ→Option ρ} (m:σ→Nat) (I:σ→Prop) (P:ρ→Prop)
 (h:∀G s,I s→(∀s',I s'→m s'<m s→∃r,G s'=some r∧P r)→∃r,f G s=some r∧P r):∀(k:Nat) (s:σ),I s→m s<k→∃r,az k f s=some r∧P r
 |0,_,_,hm=>by omega
 |k+1,s,hi,hm=>h _ s hi (fun s' hi' hm'=>zQ m I P h k s' hi' (by omega))
def ag:(τ:Ty)→τ.den→Nat
 | .int _,_=>0
 | .bool,_=>0
 | .str,s=>s.size
 | .sl e,l=>l.length+(l.map (ag e)).sum
 | .pair a b,p=>ag a p.1+ag b p.2
def bG (t:Nat) (left:Int):Int:=if(t:Int)≤left then left-t else-1
theorem wW {t:Nat} {left:Int}:bG t left<0↔¬(t:Int)≤left:=by
 unfold bG
 split<;>omega
theorem dT {t:Nat} {left:Int} (h:0≤left):bG t left≤left:=by
 unfold bG
 split<;>omega
theorem cX {a b:Nat} {left:Int} (h:¬bG a left<0):bG b (bG a left)=bG (a+b) left:=by
 rw[wW]at h
 have h1:(a:Int)≤left:=by omega
 simp only[bG,if_pos h1]
 split<;>split<;>omega
theorem Sp {a b:Nat} {left:Int} (h:bG a left<0):bG (a+b) left= -1:=by
 rw[wW]at h
 unfold bG
 rw[if_neg (by omega)]
theorem cB {t:Nat} {left:Int} (h:¬bG t left<0):0≤bG t left∧(t:Int)≤left:=by
 rw[wW]at h
 have h1:(t:Int)≤left:=by omega
 simp only[bG,if_pos h1]
 omega
theorem AT {s:ByteArray} {left:Int} (hs:s.size≤maxLen) (h0:0≤left) (h1:left≤1048576):decide (IntKind.i64.wrap (left-(s.size:Int))<0)=decide (bG s.size left<0):=by
 unfold maxLen at hs
 rw[wrap64 (by omega) (by omega)]
 unfold bG
 by_cases h:left-(s.size:Int)<0
 ·rw[if_neg (by omega)];simpa using h
 ·rw[if_pos (by omega)]
theorem xJ {s:ByteArray} {left:Int} (hs:s.size≤maxLen) (h0:0≤left) (h1:left≤1048576) (h:¬bG s.size left<0):IntKind.i64.wrap (left-(s.size:Int))=bG s.size left:=by
 unfold maxLen at hs
 rw[wrap64 (by omega) (by omega)]
 rw[wW]at h
 unfold bG
 rw[if_pos (by omega)]
def S6 {α:Type} (k:Nat) (d:α) (S:α×Int×Unit→Option (Int×Unit)) (x:List α×Int×Unit):Option (Int×Unit):=
 if(decide (((IntKind.i64.wrap (x.2.1-((List.length x.1:Nat):Int))):Int)<0))=true then
  some ((-1),())
 else
  az k (fun G1 (t2:List α×Int×Int×Unit)=>
   if(decide ((t2.2.2.1:Int)<((List.length t2.1:Nat):Int)))=true then
    if(decide (0≤t2.2.2.1∧t2.2.2.1<((List.length t2.1:Nat):Int)))=true then
     Option.bind (S (List.getD t2.1 (Int.toNat t2.2.2.1) d,t2.2.1,())) fun(r3:Int×Unit)=>
     if(decide ((r3.1:Int)<0))=true then
      some ((-1),())
     else
      G1 (t2.1,r3.1,IntKind.i64.wrap (t2.2.2.1+1),())
    else
     none
   else
    some (t2.2.1,())) (x.1,IntKind.i64.wrap (x.2.1-((List.length x.1:Nat):Int)),0,())
theorem ch {α:Type} {l:List α} {i:Nat} {d:α} (h:i<l.length):l.getD i d∈l:=by
 rw[List.getD_eq_getElem?_getD,List.getElem?_eq_getElem h];simp
theorem dy {α:Type} {l:List α} {i:Nat} {d:α} (h:i<l.length):l.drop i=l.getD i d::l.drop (i+1):=by
 rw[List.drop_eq_getElem_cons h,List.getD_eq_getElem?_getD,List.getElem?_eq_getElem h];rfl
theorem Pn {α:Type} {k:Nat} {d:α} {S:α×Int×Unit→Option (Int×Unit)} {t:α→Nat} {l:List α} {left:Int} (hk:9223372036854775808≤k) (hl:l.length≤maxLen) (h0:0≤left) (h1:left≤1048576)
 (hS:∀e∈l,∀left,0≤left→left≤1048576→∃r,S (e,left,())=some (r,())∧(r<0↔bG (t e) left<0)∧(¬bG (t e) left<0→r=bG (t e) left)):S6 k d S (l,left,())=some (bG (l.length+(l.map t).sum) left,()):=by
 have hlen:(l.length:Int)<9223372036854775808:=by
  unfold maxLen at hl;omega
 unfold S6
 simp only
 rw[wrap64 (by omega) (by omega)]
 by_cases hneg:left-(l.length:Int)<0
 ·rw[if_pos (by simpa using hneg)]
  unfold bG
  rw[if_neg (by omega)]
 ·rw[if_neg (by simpa using hneg)]
  rw[fv (g:=fun(s:List α×Int×Int×Unit)=>some (bG (((s.1.drop s.2.2.1.toNat).map t).sum) s.2.1,())) (m:=fun(s:List α×Int×Int×Unit)=>s.1.length-s.2.2.1.toNat)
   (I:=fun(s:List α×Int×Int×Unit)=>s.1=l∧0≤s.2.2.1∧s.2.2.1≤(l.length:Int)∧0≤s.2.1∧s.2.1≤1048576)]
  ·simp only[Int.toNat_zero,List.drop_zero]
   unfold bG
   congr 2
   split<;>split<;>omega
  ·rintro G ⟨l',lf,i,u⟩ ⟨he,hi0,hi1,hl0,hl1⟩ hG
   change l'=l at he
   subst he
   simp only at hi0 hi1 hl0 hl1 hG⊢
   by_cases hi:i<(l'.length:Int)
   ·rw[if_pos (by simpa using hi),if_pos (by simpa using⟨hi0,hi⟩)]
    have hin:i.toNat<l'.length:=by omega
    obtain⟨r,hr,hr1,hr2⟩:=hS _ (ch (d:=d) hin) lf hl0 hl1
    rw[hr,Option.bind_some,dy (d:=d) hin]
    simp only[List.map_cons,List.sum_cons]
    by_cases hn:bG (t (l'.getD i.toNat d)) lf<0
    ·rw[if_pos (by simpa using hr1.2 hn),Sp hn]
    ·rw[if_neg (by simpa using fun h=>hn (hr1.1 h)),←cX hn,hr2 hn]
     have hs:=cB hn
     have hle:=dT (t:=t (l'.getD i.toNat d)) hl0
     rw[wrap64 (by omega) (by omega)]
     rw[hG (l',bG (t (l'.getD i.toNat d)) lf,i+1,()) ⟨rfl,by simp only;omega,by simp only;omega,by simp only;omega,by simp only;omega⟩ (by simp only;omega)]
     simp only
     rw[show(i+1).toNat=i.toNat+1 by omega]
   ·rw[if_neg (by simpa using hi)]
    rw[List.drop_eq_nil_of_le (by omega)]
    simp[bG,hl0]
  ·exact⟨rfl,by simp,by simp,by simp only;omega,by simp only;omega⟩
  ·simp only
   omega
theorem nX {α:Type} {k:Nat} {d:α} {S:α×Int×Unit→Option (Int×Unit)} {t:α→Nat} {l:List α} {left:Int} (hk:9223372036854775808≤k) (hl:l.length≤maxLen) (h0:0≤left) (h1:left≤1048576)
 (hS:∀e∈l,∀left,0≤left→left≤1048576→S (e,left,())=some (bG (t e) left,())):S6 k d S (l,left,())=some (bG (l.length+(l.map t).sum) left,()):=
 Pn hk hl h0 h1 (fun e he left a b=>⟨_,hS e he left a b,Iff.rfl,fun _=>rfl⟩)
theorem Uh {k:Nat} {l:List ByteArray} {left:Int} (hk:9223372036854775808≤k) (hx:Fits (.sl .str) l) (h0:0≤left) (h1:left≤1048576):
 S6 k ByteArray.empty (fun z=>some (IntKind.i64.wrap (z.2.1-((ByteArray.size z.1:Nat):Int)),())) (l,left,())=some (bG (ag (.sl .str) l) left,()):=
 Pn (t:=ByteArray.size) hk hx.1 h0 h1 (fun e he lf a b=>⟨_,rfl,by have:=AT (hx.2 e he) a b;simpa using this,fun h=>xJ (hx.2 e he) a b h⟩)
def UY {α:Type} (x:List α×Int×Unit):Option (Int×Unit):=
 if(decide (((IntKind.i64.wrap (x.2.1-((List.length x.1:Nat):Int))):Int)<0))=true then
  some ((-1),())
 else
  some (IntKind.i64.wrap (x.2.1-((List.length x.1:Nat):Int)),())
def Ty.AS:Ty→Bool
 | .int _| .bool=>true
 | .pair a b=>a.AS&&b.AS
 |_=>false
theorem CJ:∀ {τ:Ty} (x:τ.den),τ.AS=true→ag τ x=0
 | .int _,_,_| .bool,_,_=>rfl
 | .pair a b,x,h=>by
   simp only[Ty.AS,Bool.and_eq_true]at h
   simp only[ag,CJ x.1 h.1,CJ x.2 h.2]
 | .str,_,h| .sl _,_,h=>by simp[Ty.AS]at h
theorem QU {e:Ty} {k:Nat} {F:Nat→List e.den×Int×Unit→Option (Int×Unit)} (hF:∀x,F k x=UY x) (hz:e.AS=true) {l:List e.den} {left:Int} (hx:Fits (.sl e) l) (h0:0≤left) (h1:left≤1048576):
 F k (l,left,())=some (bG (ag (.sl e) l) left,()):=by
 have hl:l.length≤maxLen:=hx.1
 unfold maxLen at hl
 have ht:ag (.sl e) l=l.length:=by
  have:∀m:List e.den,(m.map (ag e)).sum=0:=by
   intro m
   induction m with
   |nil=>rfl
   |cons a m ih=>simp only[List.map_cons,List.sum_cons,ih,CJ a hz]
  simp only[ag,this];omega
 rw[hF,ht]
 simp only[UY]
 rw[wrap64 (by omega) (by omega)]
 unfold bG
 by_cases h:left-(l.length:Int)<0
 ·rw[if_pos (by simpa using h),if_neg (by omega)]
 ·rw[if_neg (by simpa using h),if_pos (by omega)]
theorem cp {a t:Nat} {left:Int} (h:bG a left<0) (hle:a≤t):bG t left= -1:=by
 rw[wW]at h
 unfold bG
 rw[if_neg (by omega)]
def Uv {α:Type} (k:Nat) (d:α) (S:α×Unit→Option (α×Unit)) (x:List α×Unit):Option (List α×Unit):=
 if(decide (0≤((List.length x.1:Nat):Int)∧((List.length x.1:Nat):Int)<4294967296∧((List.length x.1:Nat):Int)=((List.length x.1:Nat):Int)))=true then
  az k (fun G1 (t2:List α×List α×Int×Unit)=>
   if(decide ((t2.2.2.1:Int)<((List.length t2.1:Nat):Int)))=true then
    if(decide (0≤t2.2.2.1∧t2.2.2.1<((List.length t2.1:Nat):Int)))=true then
     Option.bind (S (List.getD t2.1 (Int.toNat t2.2.2.1) d,())) fun(r3:α×Unit)=>
     if(decide (0≤t2.2.2.1∧t2.2.2.1<((List.length t2.2.1:Nat):Int)))=true then
      G1 (t2.1,List.set t2.2.1 (Int.toNat t2.2.2.1) r3.1,IntKind.i64.wrap (t2.2.2.1+1),())
     else
      none
    else
     none
   else
    some (t2.2.1,())) (x.1,List.replicate (Int.toNat ((List.length x.1:Nat):Int)) d,0,())
 else
  none
theorem kO {α:Type} {k:Nat} {d:α} {S:α×Unit→Option (α×Unit)} {l:List α} (hk:9223372036854775808≤k) (hl:l.length≤1048576) (hS:∀e∈l,S (e,())=some (e,())):Uv k d S (l,())=some (l,()):=by
 unfold Uv
 simp only
 rw[if_pos (by simp;omega)]
 rw[fv (g:=fun(s:List α×List α×Int×Unit)=>some (l,())) (m:=fun(s:List α×List α×Int×Unit)=>l.length-s.2.2.1.toNat)
  (I:=fun(s:List α×List α×Int×Unit)=>s.1=l∧0≤s.2.2.1∧s.2.2.1≤(l.length:Int)∧s.2.1=l.take s.2.2.1.toNat++List.replicate (l.length-s.2.2.1.toNat) d)]
 ·rintro G ⟨l',o,i,u⟩ ⟨he,hi0,hi1,ho⟩ hG
  change l'=l at he
  subst he
  simp only at hi0 hi1 ho hG⊢
  subst ho
  by_cases hi:i<(l'.length:Int)
  ·have hin:i.toNat<l'.length:=by omega
   rw[if_pos (by simpa using hi),if_pos (by simpa using⟨hi0,hi⟩),hS _ (ch hin),Option.bind_some]
   rw[if_pos (by simp;omega),wrap64 (by omega) (by omega)]
   refine hG (l',_,i+1,()) ⟨rfl,by simp only;omega,by simp only;omega,?_⟩ (by simp only;omega)
   simp only
   have hlt:(l'.take i.toNat).length=i.toNat:=by simp;omega
   rw[List.set_append_right _ _ (by omega),hlt,Nat.sub_self]
   rw[show l'.length-i.toNat=(l'.length-(i+1).toNat)+1 by omega,List.replicate_succ,List.set_cons_zero]
   have ht:l'.take (i.toNat+1)=l'.take i.toNat++[l'[i.toNat]]:=by
    rw[List.take_add_one,List.getElem?_eq_getElem hin];rfl
   rw[show(i+1).toNat=i.toNat+1 by omega,ht,List.getD_eq_getElem?_getD,List.getElem?_eq_getElem hin,List.append_assoc]
   rfl
  ·rw[if_neg (by simpa using hi)]
   have:i.toNat=l'.length:=by omega
   rw[this]
   simp
 ·exact⟨rfl,by simp,by simp,by simp⟩
 ·simp only
  omega
theorem RD {α:Type} {k:Nat} {d:α} {l:List α} (hk:9223372036854775808≤k) (hl:l.length≤1048576):Uv k d (fun z=>some (z.1,())) (l,())=some (l,()):=
 kO hk hl (fun _ _=>rfl)
def Pv {α:Type} (k:Nat) (d:α) (S:α×α×Unit→Option (Bool×Unit)) (x:List α×List α×Unit):Option (Bool×Unit):=
 if((((List.length x.1:Nat):Int):Int) != ((List.length x.2.1:Nat):Int))=true then
  some (false,())
 else
  az k (fun G1 (t2:List α×List α×Int×Unit)=>
   if(decide ((t2.2.2.1:Int)<((List.length t2.1:Nat):Int)))=true then
    if(decide (0≤t2.2.2.1∧t2.2.2.1<((List.length t2.1:Nat):Int)))=true then
     if(decide (0≤t2.2.2.1∧t2.2.2.1<((List.length t2.2.1:Nat):Int)))=true then
      Option.bind (S (List.getD t2.1 (Int.toNat t2.2.2.1) d,List.getD t2.2.1 (Int.toNat t2.2.2.1) d,())) fun(r3:Bool×Unit)=>
      if(!r3.1)=true then
       some (false,())
      else
       G1 (t2.1,t2.2.1,IntKind.i64.wrap (t2.2.2.1+1),())
     else
      none
    else
     none
   else
    some (true,())) (x.1,x.2.1,0,())
theorem jH {α:Type} {k:Nat} {d:α} {S:α×α×Unit→Option (Bool×Unit)} {l:List α} (hk:9223372036854775808≤k) (hl:l.length≤281474976710656) (hS:∀e∈l,S (e,e,())=some (true,())):Pv k d S (l,l,())=some (true,()):=by
 unfold Pv
 simp only
 rw[if_neg (by simp)]
 rw[fv (g:=fun(s:List α×List α×Int×Unit)=>some (true,())) (m:=fun(s:List α×List α×Int×Unit)=>l.length-s.2.2.1.toNat)
  (I:=fun(s:List α×List α×Int×Unit)=>s.1=l∧s.2.1=l∧0≤s.2.2.1∧s.2.2.1≤(l.length:Int))]
 ·rintro G ⟨l',o,i,u⟩ ⟨he,ho,hi0,hi1⟩ hG
  change l'=l at he
  subst he
  simp only at hi0 hi1 ho hG⊢
  subst ho
  by_cases hi:i<(o.length:Int)
  ·have hin:i.toNat<o.length:=by omega
   rw[if_pos (by simpa using hi),if_pos (by simpa using⟨hi0,hi⟩),if_pos (by simpa using⟨hi0,hi⟩),hS _ (ch hin),Option.bind_some]
   rw[if_neg (by simp),wrap64 (by omega) (by omega)]
   exact hG (o,o,i+1,()) ⟨rfl,rfl,by simp only;omega,by simp only;omega⟩ (by simp only;omega)
  ·rw[if_neg (by simpa using hi)]
 ·exact⟨rfl,rfl,by simp,by simp⟩
 ·simp only
  omega
theorem Ux {κ:IntKind} {k:Nat} {l:List (Ty.den (.int κ))} (hk:9223372036854775808≤k) (hl:l.length≤281474976710656):Pv (α:=Int) k 0 (fun z=>some ((z.1:Int)==z.2.1,())) (l,l,())=some (true,()):=
 jH (α:=Int) hk hl (fun e _=>by simp)
theorem T9 {k:Nat} {l:List ByteArray} (hk:9223372036854775808≤k) (hl:l.length≤281474976710656):Pv k ByteArray.empty (fun z=>some (ByteArray.toList z.1==ByteArray.toList z.2.1,())) (l,l,())=some (true,()):=
 jH hk hl (fun e _=>by simp)
def allEq {α:Type} (p:α→α→Bool):List α→List α→Bool
 | [],[]=>true
 |a::l,b::m=>p a b&&allEq p l m
 |_,_=>false
theorem AQ {α:Type} {p:α→α→Bool}:∀ {l m:List α},l.length≠m.length→allEq p l m=false
 | [],[],h=>absurd rfl h
 |a::l,b::m,h=>by
  simp only[allEq]
  rw[AQ (l:=l) (m:=m) (fun e=>h (by simp[e]))]
  simp
 | [],_::_,_|_::_,[],_=>rfl
theorem TK {α:Type} {k:Nat} {d:α} {S:α×α×Unit→Option (Bool×Unit)} {p:α→α→Bool} {l m:List α} (hk:9223372036854775808≤k) (hl:l.length≤281474976710656) (hS:∀a∈l,∀b∈m,S (a,b,())=some (p a b,())):
 Pv k d S (l,m,())=some (allEq p l m,()):=by
 unfold Pv
 simp only
 by_cases hlen:l.length=m.length
 ·rw[if_neg (by simp[hlen])]
  rw[fv (g:=fun(s:List α×List α×Int×Unit)=>some (allEq p (l.drop s.2.2.1.toNat) (m.drop s.2.2.1.toNat),())) (m:=fun(s:List α×List α×Int×Unit)=>l.length-s.2.2.1.toNat)
   (I:=fun(s:List α×List α×Int×Unit)=>s.1=l∧s.2.1=m∧0≤s.2.2.1∧s.2.2.1≤(l.length:Int))]
  ·simp
  ·rintro G ⟨l',m',i,u⟩ ⟨e1,e2,hi0,hi1⟩ hG
   change l'=l at e1
   change m'=m at e2
   subst e1 e2
   simp only at hi0 hi1 hG⊢
   by_cases hi:i<(l'.length:Int)
   ·have h1:i.toNat<l'.length:=by omega
    have h2:i.toNat<m'.length:=by omega
    rw[if_pos (by simpa using hi),if_pos (by simpa using⟨hi0,hi⟩),if_pos (by simpa using⟨hi0,by omega⟩)]
    rw[hS _ (ch h1) _ (ch h2),Option.bind_some,dy (d:=d) h1,dy (d:=d) h2]
    simp only[allEq]
    cases p (l'.getD i.toNat d) (m'.getD i.toNat d)with
    |true=>
     rw[if_neg (by simp),wrap64 (by omega) (by omega),hG (l',m',i+1,()) ⟨rfl,rfl,by simp only;omega,by simp only;omega⟩ (by simp only;omega)]
     simp only[Bool.true_and]
     rw[show(i+1).toNat=i.toNat+1 by omega]
    |false=>rfl
   ·rw[if_neg (by simpa using hi),List.drop_eq_nil_of_le (by omega),List.drop_eq_nil_of_le (by omega)]
    rfl
  ·exact⟨rfl,rfl,by simp,by simp⟩
  ·simp only
   omega
 ·rw[if_pos (by simp;omega),AQ hlen]
def Ub {α:Type} (k:Nat) (d:α) (S:α×α×Unit→Option (Bool×Unit)) (x:List α×List α×Unit):Option (Bool×Unit):=
 if((((List.length x.1:Nat):Int):Int) != ((List.length x.2.1:Nat):Int))=true then
  some (false,())
 else
  az k (fun G1 (t2:List α×List α×Int×Int×Unit)=>
   if(decide ((t2.2.2.2.1:Int)<t2.2.2.1))=true then
    if(decide (0≤t2.2.2.2.1∧t2.2.2.2.1<((List.length t2.1:Nat):Int)))=true then
     if(decide (0≤t2.2.2.2.1∧t2.2.2.2.1<((List.length t2.2.1:Nat):Int)))=true then
      Option.bind (S (List.getD t2.1 (Int.toNat t2.2.2.2.1) d,List.getD t2.2.1 (Int.toNat t2.2.2.2.1) d,())) fun(r3:Bool×Unit)=>
      if(!r3.1)=true then
       some (false,())
      else
       G1 (t2.1,t2.2.1,t2.2.2.1,IntKind.i64.wrap (t2.2.2.2.1+1),())
     else
      none
    else
     none
   else
    some (true,())) (x.1,x.2.1,((List.length x.1:Nat):Int),0,())
theorem PH {α:Type} {k:Nat} {d:α} {S:α×α×Unit→Option (Bool×Unit)} {p:α→α→Bool} {l m:List α} (hk:9223372036854775808≤k) (hl:l.length≤281474976710656) (hS:∀a∈l,∀b∈m,S (a,b,())=some (p a b,())):
 Ub k d S (l,m,())=some (allEq p l m,()):=by
 unfold Ub
 simp only
 by_cases hlen:l.length=m.length
 ·rw[if_neg (by simp[hlen])]
  rw[fv (g:=fun(s:List α×List α×Int×Int×Unit)=>some (allEq p (l.drop s.2.2.2.1.toNat) (m.drop s.2.2.2.1.toNat),())) (m:=fun(s:List α×List α×Int×Int×Unit)=>l.length-s.2.2.2.1.toNat)
   (I:=fun(s:List α×List α×Int×Int×Unit)=>s.1=l∧s.2.1=m∧s.2.2.1=(l.length:Int)∧0≤s.2.2.2.1∧s.2.2.2.1≤(l.length:Int))]
  ·simp
  ·rintro G ⟨l',m',n,i,u⟩ ⟨e1,e2,e3,hi0,hi1⟩ hG
   change l'=l at e1
   change m'=m at e2
   change n=_ at e3
   subst e1 e2 e3
   simp only at hi0 hi1 hG⊢
   by_cases hi:i<(l'.length:Int)
   ·have h1:i.toNat<l'.length:=by omega
    have h2:i.toNat<m'.length:=by omega
    rw[if_pos (by simpa using hi),if_pos (by simpa using⟨hi0,hi⟩),if_pos (by simpa using⟨hi0,by omega⟩)]
    rw[hS _ (ch h1) _ (ch h2),Option.bind_some,dy (d:=d) h1,dy (d:=d) h2]
    simp only[allEq]
    cases p (l'.getD i.toNat d) (m'.getD i.toNat d)with
    |true=>
     rw[if_neg (by simp),wrap64 (by omega) (by omega),hG (l',m',_,i+1,()) ⟨rfl,rfl,rfl,by simp only;omega,by simp only;omega⟩ (by simp only;omega)]
     simp only[Bool.true_and]
     rw[show(i+1).toNat=i.toNat+1 by omega]
    |false=>rfl
   ·rw[if_neg (by simpa using hi),List.drop_eq_nil_of_le (by omega),List.drop_eq_nil_of_le (by omega)]
    rfl
  ·exact⟨rfl,rfl,rfl,by simp,by simp⟩
  ·simp only
   omega
 ·rw[if_pos (by simp;omega),AQ hlen]
theorem bM {α:Type} {c:Prop} [Decidable c] (a b:α):(if c then some a else some b)=some (if c then a else b):=by split<;>rfl
theorem toList_inj {a b:ByteArray} (h:a.toList=b.toList):a=b:=by
 rw[ByteArray.toList_eq,ByteArray.toList_eq]at h
 cases a;cases b
 simp at h
 rw[h]
theorem rO:∀ {τ:Ty} {a b:τ.den},τ.flat=true→(eqv τ a b=true↔a=b)
 | .int _,a,b,_=>by simp[eqv]
 | .bool,a,b,_=>by simp[eqv]
 | .str,a,b,_=>by
   simp only[eqv,beq_iff_eq]
   exact⟨toList_inj,fun h=>by rw[h]⟩
 | .pair x y,a,b,h=>by
   simp only[Ty.flat,Bool.and_eq_true]at h
   simp only[eqv,Bool.and_eq_true,rO h.1,rO h.2]
   exact⟨fun h=>Prod.ext h.1 h.2,fun h=>by rw[h];exact⟨rfl,rfl⟩⟩
 | .sl _,_,_,h=>by simp[Ty.flat]at h
theorem N7 {α:Type} {f:α→Nat}:∀ {l:List α} {x:α},x∈l→f x≤(l.map f).sum
 |y::l,x,h=>by
  simp only[List.map_cons,List.sum_cons]
  rcases List.mem_cons.1 h with rfl|h
  ·omega
  ·have:=N7 (f:=f) h;omega
theorem bo {e:Ty} {l:List e.den} {x:e.den} (hx:x∈l):ag e x≤ag (.sl e) l:=by
 simp only[ag]
 have:=N7 (f:=ag e) hx
 omega
theorem aA {e:Ty} {l:List e.den}:l.length≤ag (.sl e) l:=by simp only[ag];omega
end Vg
namespace Vg
open Go
def bf (a n:Nat) (p:Nat→Bool):Bool:=(List.range' a (n-a)).all p
theorem ei {a n:Nat} {p:Nat→Bool}:bf a n p=true↔∀i,a≤i→i<n→p i=true:=by
 simp only[bf,List.all_eq_true,List.mem_range'_1]
 constructor
 ·intro h i h1 h2;exact h i ⟨h1,by omega⟩
 ·intro h i hi;exact h i hi.1 (by omega)
theorem Ko {a n:Nat} {p:Nat→Bool} (h:a<n):bf a n p=(p a&&bf (a+1) n p):=by
 unfold bf
 rw[show n-a=(n-(a+1))+1 by omega,List.range'_succ]
 rfl
theorem NF {a n:Nat} {p:Nat→Bool} (h:n≤a):bf a n p=true:=by
 unfold bf
 rw[show n-a=0 by omega]
 rfl
theorem DL {a n:Nat} {p q:Nat→Bool}:bf a n (fun i=>p i&&q i)=(bf a n p&&bf a n q):=by
 rw[Bool.eq_iff_iff,Bool.and_eq_true,ei,ei,ei]
 simp only[Bool.and_eq_true]
 exact⟨fun H=>⟨fun i h1 h2=>(H i h1 h2).1,fun i h1 h2=>(H i h1 h2).2⟩,fun H i h1 h2=>⟨H.1 i h1 h2,H.2 i h1 h2⟩⟩
theorem Pc {n m:Nat}:bf 0 n (fun i=>decide (i<m))=decide (n≤m):=by
 rw[Bool.eq_iff_iff,ei]
 simp only[decide_eq_true_eq]
 constructor
 ·intro h
  rcases Nat.lt_or_ge m n with h1|h1
  ·have:=h m (by omega) h1;omega
  ·exact h1
 ·intro h i _ h2;omega
theorem bN {σ ρ:Type} {f:(σ→Option ρ)→σ→Option ρ} (st:Nat→σ) (p:Nat→Bool) (n:Nat) {e no:Option ρ}
 (hstep:∀G i,i<n→f G (st i)=if p i=true then G (st (i+1))else no) (hend:∀G i,n≤i→f G (st i)=e):
 ∀(k a:Nat),n-a<k→az k f (st a)=if bf a n p=true then e else no
 |0,_,h=>by omega
 |k+1,a,h=>by
  show f (az k f) (st a)=_
  by_cases ha:a<n
  ·rw[hstep _ a ha,Ko ha,bN st p n hstep hend k (a+1) (by omega)]
   cases p a<;>simp
  ·rw[hend _ a (by omega),NF (by omega),if_pos rfl]
theorem M5 {σ ρ:Type} {f:(σ→Option ρ)→σ→Option ρ} (st:Nat→σ) (p:Nat→Bool) (n:Nat) {e yes:Option ρ}
 (hstep:∀G i,i<n→f G (st i)=if p i=true then yes else G (st (i+1))) (hend:∀G i,n≤i→f G (st i)=e) (k a:Nat) (hk:n-a<k):
 az k f (st a)=if bf a n (fun i=> !p i)=true then e else yes:=
 bN st (fun i=> !p i) n (fun G i hi=>by rw[hstep G i hi];cases p i<;>rfl) hend k a hk
theorem cD {σ ρ:Type} {f:(σ→Option ρ)→σ→Option ρ} (st:Nat→σ) (n:Nat) {e:Option ρ} (hstep:∀G i,i<n→f G (st i)=G (st (i+1))) (hend:∀G,f G (st n)=e):
 ∀(k a:Nat),a≤n→n-a<k→az k f (st a)=e
 |0,_,_,h=>by omega
 |k+1,a,ha,h=>by
  show f (az k f) (st a)=_
  by_cases hn:a=n
  ·subst hn;exact hend _
  ·rw[hstep _ a (by omega),cD st n hstep hend k (a+1) (by omega) (by omega)]
theorem bd {i:Nat} (h:i<4611686018427387904):IntKind.i64.wrap ((i:Int)+1)=((i+1:Nat):Int):=by
 rw[wrap64 (by omega) (by omega)];rfl
theorem pZ {i:Nat} (h:i<4611686018427387904):IntKind.i64.wrap ((i:Int)-1)=(i:Int)-1:=wrap64 (by omega) (by omega)
theorem aK {i n:Nat} (h:i<n):(decide ((0:Int)≤(i:Int)∧(i:Int)<(n:Int)))=true:=by simp;omega
theorem aw {i n:Nat}:(decide ((i:Int)<(n:Int)))=decide (i<n):=by simp
end Vg
namespace Vg
open Go Go.RowKit
theorem N5 {w:World}:∀ {l:List ByteArray} {cs:List Value} {B:List Nat},bg (aR w .str) l cs B→cs=l.map Value.string
 | [],_,_,h=>h.1
 |x::l,cs,B,h=>by
  obtain⟨c1,c2,B1,B2,rfl,_,h1,h2⟩:=h
  rw[h1.1,N5 h2]
  rfl
theorem Us {l:List ByteArray} {j:Nat} {x:ByteArray} (h:l[j]?=some x):(l.map Value.string)[j]?=some (.string x):=by rw[List.getElem?_map,h];rfl
theorem Qq {ps:List PK} {τ:Ty} {F:aT (ps.map PK.ty)→Option (aT ([RK.val τ .leaf].map RK.ty++bh ps))} {w w':World} {G0:Gh} {args:List Value} {nt:Nat} {L:List SV} (hlot:Cu w G0 L args nt)
 (hio:∀x:aT (bh ps),cm [2,1] ps x (dD ps 0 3)=fun _=>[]) {y:aT ([RK.val τ .leaf].map RK.ty++bh ps)} {mv:Value} (hb:Below w.heap.size w w')
 (hv:bI w' G0 (.d ⟨τ,y.1,.leaf⟩) mv):sW ⟨ps,[.val τ .leaf],F,[]⟩ w G0 args y mv w' G0 [mv] nt where
 val:=rfl
 len:=rfl
 res i:=by
  cases i with
  |zero=>exact hv
  |succ i=>
   have:(aV [RK.val τ .leaf] (bh ps) y (bw ps 3) [2,1]).1.getD (i+1) .no= .no:=by
    show([SV.d ⟨τ,y.1,Sh.leaf⟩]).getD (i+1) .no= .no
    rfl
   rw[this]
   trivial
 ios t i v h:=by rw[hio]at h;cases h
 frame b hbs _:=⟨rfl,hb.block b hbs⟩
 one b h:=⟨(hlot.colU b (by omega)).2,h⟩
 size:=hb.size
 os:=hb.os
 tape:=hb.tape
 output:=hb.output
 lt b h:=Nat.lt_of_lt_of_le (hlot.colU b h).2 hb.size
 fresh b h:=by rw[hb.block b (hlot.colU b (by omega)).2];exact hlot.fresh b h
 kept q hq:=by cases hq
theorem FB {P:Program} {f:FuncId} {fn:Func} (hf:P.funcs[f]?=some fn) (hname:(fn.name== "runtime.NumGoroutine")=false) (hb:fn.body.isSome=true) {w:World} {args:Array Value} {R:Value→World→Prop}
 (h:Calls P f args w (fun e w'=>∃v,e= .returned v∧R v w')):nu P f args w R:=by
 obtain⟨c,hc⟩:=Option.isSome_iff_exists.1 hb
 have hrun:(callFunc f args).run P w= .ok (.enter f args) w:=by
  have hne:fn.name≠ "runtime.NumGoroutine" :=by simpa using hname
  unfold callFunc
  simp[hf,hne,hc]
 unfold nu
 rw[hrun]
 exact h
def oe (l:List ByteArray) (sep:ByteArray):List UInt8:=Lib.join (l.map (·.data.toList)) sep.data.toList
def xz (x:List ByteArray×ByteArray×Unit):Option (ByteArray×Unit):=
 if x.1.length≤140737488355328∧(oe x.1 x.2.1).length≤140737488355328 then some (⟨(oe x.1 x.2.1).toArray⟩,())else none
theorem P5 {P:Program} {f:FuncId} {fn:Func} (hf:P.funcs[f]?=some fn) (hname:(fn.name== "runtime.NumGoroutine")=false) (hb:fn.body.isSome=true)
 (h0:∀(a:Option Addr) (c:Nat) (sep:ByteArray) (w:World),Calls P f #[.slice a 0 c,.string sep] w fun e w'=>e= .returned (.string ⟨#[]⟩)∧w'=w)
 (h1:∀(bk o c:Nat) (xs:List ByteArray) (sep:ByteArray) (w:World),(∀(j:Nat) x,xs[j]?=some x→w.cell? ⟨bk,o+j,none⟩=some (.string x))→bk<w.heap.size→xs.length≤140737488355328→xs.length≤c→
  (Lib.join (xs.map (·.data.toList)) sep.data.toList).length≤140737488355328→
  Calls P f #[.slice (some ⟨bk,o,none⟩) xs.length c,.string sep] w fun e w'=>e= .returned (.string ⟨(Lib.join (xs.map (·.data.toList)) sep.data.toList).toArray⟩)∧Below w.heap.size w w'):
 oq P f ⟨[.val (.sl .str) .shr,.val .str .leaf],[.val .str .leaf],xz,[]⟩:=by
 intro w G0 args x y hy hlot
 obtain⟨l,sep,u⟩:=x
 have hlen:args.length=2:=hlot.len
 obtain⟨v0,v1,rfl⟩:∃v0 v1,args=[v0,v1]:=by
  match args,hlen with
  | [a,b],_=>exact⟨a,b,rfl⟩
 have s0:bI w G0 (.d ⟨.sl .str,l,.sl (.sha [1])⟩) v0:=hlot.slots 0
 have s1:bI w G0 (.d ⟨.str,sep,.leaf⟩) v1:=hlot.slots 1
 obtain⟨cs1,e1,q1⟩:=s1
 have q1':cs1=[.string sep]:=q1
 subst q1'
 have e1':v1= .string sep:=e1
 subst e1'
 obtain⟨cs0,e0,v,rfl,hrow⟩:=s0
 have e0':v0=v:=e0
 subst e0'
 have hy:xz (l,sep,u)=some y:=hy
 unfold xz at hy
 split at hy
 ·rename_i hc
  have hy':=Option.some.inj hy
  subst hy'
  refine FB hf hname hb ?_
  obtain⟨⟨B,hrep,_⟩,_⟩:=hrow
  have fin:∀w',Below w.heap.size w w'→∃G' vs nt,sW ⟨[.val (.sl .str) .shr,.val .str .leaf],[.val .str .leaf],xz,[]⟩ w G0 [v0,.string sep] (⟨(oe l sep).toArray⟩,()) (.string ⟨(oe l sep).toArray⟩) w' G' vs nt:=
   fun w' hbl=>⟨G0,_,_,Qq (ps:=[.val (.sl .str) .shr,.val .str .leaf]) (τ:= .str) (F:=xz) (y:=(⟨(oe l sep).toArray⟩,())) hlot (fun _=>by funext n;rfl) hbl ⟨[.string ⟨(oe l sep).toArray⟩],rfl,rfl⟩⟩
  rcases hrep with⟨⟨ao,rfl⟩,rfl,_⟩|⟨b,off,cap,c,el,fz,Bs,rfl,hcap,hbk,hsz,_,hl⟩
  ·refine(h0 ao 0 sep w).mono fun e w' ⟨he,hw⟩=>⟨_,he,?_⟩
   subst hw
   exact fin _ (Below.refl _ _)
  ·have hcs:=N5 hl
   refine(h1 b off cap l sep w (fun j x hj=> ?_) (lt_of_block hbk) hc.1 hcap hc.2).mono fun e w' ⟨he,hw⟩=>⟨_,he,fin _ hw⟩
   unfold World.cell?
   simp only[hbk,Option.isSome_none,Bool.false_eq_true,if_false]
   have hjl:j<l.length:=(List.getElem?_eq_some_iff.1 hj).1
   have h2:=Us (l:=l) hj
   rw[←hcs]at h2
   simp only[List.getElem?_take,List.getElem?_drop,Ty.sz,Nat.mul_one,hjl,if_true,Array.getElem?_toList]at h2
   exact h2
 ·cases hy
end Vg
namespace Vg
open Go
theorem bY (a b:Int):(a==b)=decide (a=b):=rfl
theorem ir (a b:Int):(a != b)= !decide (a=b):=rfl
theorem Tg:(true==false)=false:=rfl
theorem Td:(false==true)=false:=rfl
theorem fS {α:Type} {l:List α} {i:Nat} (d:α) (h:i<l.length):l.take (i+1)=l.take i++[l.getD i d]:=by
 rw[List.take_succ_eq_append_getElem h,List.getD_eq_getElem?_getD,List.getElem?_eq_getElem h];rfl
theorem map_take {α β:Type} {f:α→β} {l:List α} {i:Nat} (d:α) (h:i<l.length):(l.take (i+1)).map f=(l.take i).map f++[f (l.getD i d)]:=by
 rw[fS d h,List.map_append];rfl
def Uc {α β:Type} (k:Nat) (d:α) (S:α×Unit→Option (β×Unit)) (x:List α×Unit):Option (List β×Unit):=
 az k (fun G1 (t2:List α×List β×Int×Unit)=>
  if(decide ((t2.2.2.1:Int)<((List.length t2.1:Nat):Int)))=true then
   if(decide (0≤t2.2.2.1∧t2.2.2.1<((List.length t2.1:Nat):Int)))=true then
    Option.bind (S (List.getD t2.1 (Int.toNat t2.2.2.1) d,())) fun(r3:β×Unit)=>
    if(decide (List.length t2.2.1+List.length ([r3.1]:List β)<4294967296))=true then
     G1 (t2.1,t2.2.1++([r3.1]:List β),IntKind.i64.wrap (t2.2.2.1+(1:Int)),())
    else
     none
   else
    none
  else
   some (t2.2.1,())) (x.1,([]:List β),(0:Int),())
theorem T5 {α β:Type} {k:Nat} {d:α} {S:α×Unit→Option (β×Unit)} (f:α→β) {l:List α} (hk:9223372036854775808≤k) (hl:l.length≤1073741824) (hS:∀e∈l,S (e,())=some (f e,())):Uc k d S (l,())=some (l.map f,()):=by
 unfold Uc
 refine cD (fun i=>(l,(l.take i).map f,(i:Int),())) l.length (fun G i hi=> ?_) (fun G=> ?_) k 0 (by omega) (by omega)
 ·simp only[aw,aK hi,hi,decide_true,if_true,Int.toNat_natCast]
  rw[hS _ (ch hi),Option.bind_some,if_pos (by simp;omega),bd (by omega),map_take d hi]
 ·simp
def TX {α β:Type} (k:Nat) (d:α) (S:α×Unit→Option (β×Unit)) (x:List α×Unit):Option (List β×Unit):=
 az k (fun G1 (t2:List β×List α×Int×Int×Unit)=>
  if(decide ((t2.2.2.2.1:Int)<t2.2.2.1))=true then
   if(decide (0≤t2.2.2.2.1∧t2.2.2.2.1<((List.length t2.2.1:Nat):Int)))=true then
    Option.bind (S (List.getD t2.2.1 (Int.toNat t2.2.2.2.1) d,())) fun(r3:β×Unit)=>
    if(decide (List.length t2.1+List.length ([r3.1]:List β)<4294967296))=true then
     G1 (t2.1++([r3.1]:List β),t2.2.1,t2.2.2.1,IntKind.i64.wrap (t2.2.2.2.1+(1:Int)),())
    else
     none
   else
    none
  else
   some (t2.1,())) (([]:List β),x.1,((List.length x.1:Nat):Int),(0:Int),())
theorem UF {α β:Type} {k:Nat} {d:α} {S:α×Unit→Option (β×Unit)} (f:α→β) {l:List α} (hk:9223372036854775808≤k) (hl:l.length≤1073741824) (hS:∀e∈l,S (e,())=some (f e,())):TX k d S (l,())=some (l.map f,()):=by
 unfold TX
 refine cD (fun i=>((l.take i).map f,l,(l.length:Int),(i:Int),())) l.length (fun G i hi=> ?_) (fun G=> ?_) k 0 (by omega) (by omega)
 ·simp only[aw,aK hi,hi,decide_true,if_true,Int.toNat_natCast]
  rw[hS _ (ch hi),Option.bind_some,if_pos (by simp;omega),bd (by omega),map_take d hi]
 ·simp
theorem zw {α:Type} {k:Nat} {d:α} {S:α×Unit→Option (α×Unit)} {l:List α} (hk:9223372036854775808≤k) (hl:l.length≤1073741824) (hS:∀e∈l,S (e,())=some (e,())):Uc k d S (l,())=some (l,()):=by
 have:=T5 (d:=d) (fun e=>e) hk hl hS
 rwa [List.map_id']at this
theorem E9 {α:Type} {k:Nat} {d:α} {S:α×Unit→Option (α×Unit)} {l:List α} (hk:9223372036854775808≤k) (hl:l.length≤1073741824) (hS:∀e∈l,S (e,())=some (e,())):TX k d S (l,())=some (l,()):=by
 have:=UF (d:=d) (fun e=>e) hk hl hS
 rwa [List.map_id']at this
theorem JJ {e:Ty} (l m:List e.den):ag (.sl e) (l++m)=ag (.sl e) l+ag (.sl e) m:=by
 simp only[ag,List.length_append,List.map_append,List.sum_append];omega
theorem fy {e:Ty} (x:e.den) (l:List e.den):ag (.sl e) (x::l)=1+ag e x+ag (.sl e) l:=by
 simp only[ag,List.length_cons,List.map_cons,List.sum_cons];omega
theorem PD {e:Ty}:ag (.sl e) ([]:List e.den)=0:=by simp[ag]
theorem PC {e:Ty}:∀(l:List e.den) (i:Nat) (x:e.den),i<l.length→ag (.sl e) (l.set i x)+ag e (l.getD i e.aa)=ag (.sl e) l+ag e x
 | [],i,x,h=>by simp at h
 |y::l,0,x,h=>by rw[List.set_cons_zero,fy,fy];simp;omega
 |y::l,i+1,x,h=>by
  have:=PC l i x (by simpa using h)
  rw[List.set_cons_succ,fy,fy,List.getD_cons_succ]
  omega
theorem gf {e:Ty} (l:List e.den) (i:Nat):ag (.sl e) (l.take i)+ag (.sl e) (l.drop i)=ag (.sl e) l:=by
 rw[←JJ,List.take_append_drop]
def qP (n:Nat) (p:Nat→Bool):Option Nat:=(List.range n).find? p
def pk:Option Nat→Int
 |some i=>(i:Int)
 |none=> -1
theorem ln {n:Nat} {p:Nat→Bool} {i:Nat}:qP n p=some i↔i<n∧p i=true∧∀j,j<i→p j=false:=by
 unfold qP
 rw[List.find?_range_eq_some]
 constructor
 ·rintro⟨h1,h2,h3⟩
  exact⟨List.mem_range.1 h2,h1,fun j hj=>by simpa using h3 j hj⟩
 ·rintro⟨h1,h2,h3⟩
  exact⟨h2,List.mem_range.2 h1,fun j hj=>by simpa using h3 j hj⟩
theorem KN {n:Nat} {p:Nat→Bool}:qP n p=none↔∀i,i<n→p i=false:=by
 unfold qP
 rw[List.find?_range_eq_none]
 constructor
 ·intro h i hi;simpa using h i hi
 ·intro h i hi;simpa using h i hi
theorem uB {σ ρ:Type} {f:(σ→Option ρ)→σ→Option ρ} (st:Nat→σ) (p:Nat→Bool) (n:Nat) {e:Option ρ} (hit:Nat→Option ρ)
 (hstep:∀G i,i<n→f G (st i)=if p i=true then hit i else G (st (i+1))) (hend:∀G,f G (st n)=e) (k:Nat) (hk:n<k):
 az k f (st 0)=match qP n p with|some i=>hit i|none=>e:=by
 have key:∀(k a:Nat),a≤n→n-a<k→(∀j,j<a→p j=false)→az k f (st a)=match qP n p with|some i=>hit i|none=>e:=by
  intro k
  induction k with
  |zero=>intro a _ h;omega
  |succ k ih=>
   intro a ha h hp
   show f (az k f) (st a)=_
   by_cases hn:a=n
   ·subst hn
    rw[hend,(KN (n:=a) (p:=p)).2 hp]
   ·rw[hstep _ a (by omega)]
    cases hpa:p a with
    |true=>rw[if_pos rfl,(ln (i:=a)).2 ⟨by omega,hpa,hp⟩]
    |false=>
     rw[if_neg (by simp),ih (a+1) (by omega) (by omega) (fun j hj=>by
      rcases Nat.lt_or_ge j a with h|h
      ·exact hp j h
      ·obtain rfl:j=a:=by omega
       exact hpa)]
 exact key k 0 (by omega) (by omega) (by omega)
end Vg
namespace Vg
open Go
def ly (a b:ByteArray):Bool:=Op.bytesLess a.toList b.toList
def bV:List (ByteArray×ByteArray)→List (ByteArray×ByteArray)→Bool
 | [],b=> !b.isEmpty
 |_::_,[]=>false
 |a::l,b::m=>if a.1.toList==b.1.toList then(if a.2.toList==b.2.toList then bV l m else ly a.2 b.2)else ly a.1 b.1
def dh {α:Type} (lt:α→α→Bool) (x:α):List α→List α
 | []=>[x]
 |y::r=>if lt x y=true then y::dh lt x r else x::y::r
def eO {α:Type} (lt:α→α→Bool) (l:List α):List α:=(l.foldl (fun r x=>dh lt x r) []).reverse
abbrev cO (a b:List (ByteArray×ByteArray)×Int×Int×ByteArray):Bool:=bV a.1 b.1
def du (l:List (List (ByteArray×ByteArray)×Int×Int×ByteArray)):List (List (ByteArray×ByteArray)×Int×Int×ByteArray):=eO cO l
end Vg
namespace Go.Proofs
open Go.Shelf Go.RowKit Go.Lib Go.Sort
variable {P:Program} {ρ:Ren} {α:Type} [Inhabited α]
set_option maxHeartbeats 1600000 in
set_option maxRecDepth 100000 in
theorem MK (L:LaysGt.n15 P ρ) {enc:α→List Value} {k:Nat} (hk:∀x,(enc x).length=k) (lt:α→α→Bool) {g:Nat} {lb:Array Value} {sf:Nat} {sb:Array Value} {blk off:Nat} {d:Array α} {W:World}
 (eg:∀args w,(callFunc g args).run P w= .ok (.enter g args) w) (hless:LessReadsK P g lb enc k lt blk off d.size W) (hswap:SwapSwapsK P sf sb enc k blk off d.size)
 (hH:HoldsK enc k W blk off d) (hblk:blk<W.heap.size) (h20:d.size<20):
 Calls P (ρ.f 15) #[.agg #[.func (.func g) #[] lb,.func (.func sf) #[] sb],.int .i64 d.size] W fun e w'=>e= .returned (.tuple #[])∧∃n os,w'=sortWorldK enc k W blk off n (Sort.insertionSort lt d 0 d.size) os:=by
 have mixed:=L.mixed;have t0:=L.t0;have a0:=L.a0;have z0:=L.z0;have v0:=L.v0;have t3:=L.t3;have a3:=L.a3;have z3:=L.z3;have v3:=L.v3;have t4:=L.t4;have a4:=L.a4;have z4:=L.z4;have v4:=L.v4;have t26:=L.t26;have a26:=L.a26;have z26:=L.z26;have v26:=L.v26;have t38:=L.t38;have a38:=L.a38;have z38:=L.z38;have v38:=L.v38;have t42:=L.t42;have a42:=L.a42;have z42:=L.z42;have v42:=L.v42;have t47:=L.t47;have a47:=L.a47;have z47:=L.z47;have v47:=L.v47
 have u42:=run_underlying L.t42
 have e29:∀args w,(callFunc (ρ.f 29) args).run P w= .ok (.enter (ρ.f 29) args) w:=enters_of L.f29 (by kernel_rfl) rfl
 have LI:LaysGg.n26 P ρ.viaGt:=({L with}:LaysGt.n29 P ρ).elder
 have hS:=(SWK.start hH).alloc (.cells #[.func (.func g) #[] lb,.func (.func sf) #[] sb] (ρ.t 42))
 have hc:Calls P (ρ.f 29) #[.agg #[.func (.func g) #[] lb,.func (.func sf) #[] sb],.int .i64 (0:Nat),.int .i64 d.size] (W.alloc (.cells #[.func (.func g) #[] lb,.func (.func sf) #[] sb] (ρ.t 42))) fun e w'=>e= .returned (.tuple #[])∧∃n os,w'=sortWorldK enc k (W.alloc (.cells #[.func (.func g) #[] lb,.func (.func sf) #[] sb] (ρ.t 42))) blk off n (Sort.insertionSort lt d 0 d.size) os:=
  Any.insertionSort_func_cells_w LI enc k hk lt g lb sf sb blk off 0 d.size d _ eg (hS.lessReads hless hblk rfl) hswap (hS.holds hblk hH rfl) (hS.lt hblk) (Nat.zero_le _) (Nat.le_refl _) (by omega)
 clear hless hswap hH hS
 go_enter L.f15,BodyGt.n15_ntmps ρ
 go_wp2
 refine wp_loop_rounds 1 ?_
 rw[rounds_succ]
 go_wp2_with (go_at_fn (ρ.f 29);refine hc.mono ?_;rintro e w1 ⟨rfl,n,os,rfl⟩)
 refine wp_loop_rounds 1 ?_
 rw[rounds_succ]
 go_wp2
 all_goals first|(exfalso;omega)|(go_end0;exact⟨rfl,n,_,by unfold sortWorldK;rw[alloc_eq_grow,ahead_grow,putRowK_grow enc k (Sort.ahead W n) _ blk off _ hblk,grow_grow]⟩)
theorem BG (L:LaysGt.n8 P ρ) {t e:TypeId} {i ie:TypeInfo} (hi:P.info? t=some i) (hd:i.desc= .slice e) (hpk:P.packed t=false) (hie:P.info? e=some ie) {ke:Nat} (hke:∀w,(Extern.Rtype.kind e).run P w= .ok ke w)
 {enc:α→List Value} {k:Nat} (hk:∀x,(enc x).length=k) (hs1:ie.size=k) (hagg:∀w,(isAgg e).run P w= .ok true w) (h1:∀x,∀v∈enc x,v.oneCell'=true) (lt:α→α→Bool) {g:Nat} {lb:Array Value}
 (eg:∀args w,(callFunc g args).run P w= .ok (.enter g args) w) {blk off c:Nat} {d:Array α} (h2:2≤d.size) (h20:d.size<20)
 {f:Nat} (hf:P.funcs.findIdx? (·.name== "internal/reflectlite" ++ ".Swapper$" ++toString (swapperK d.size ie ke))=some f)
 (gS:Bool) (hx:∀args W,(callFunc f args).run P W=((Extern.ReflectliteSwapper.swap gS args).run P W).andThen fun v w'=> .ok (.value v) w')
 {w:World} (hless:LessReadsK P g lb enc k lt blk off d.size w) (hH:HoldsK enc k w blk off d) (hblk:blk<w.heap.size):
 Calls P (ρ.f 8) #[.iface t (.slice (some ⟨blk,off,none⟩) d.size c),.func (.func g) #[] lb] w fun e w'=>
  e= .returned (.tuple #[])∧∃n os,w'=grow (putRowK enc k (Sort.ahead w n) blk off (Sort.insertionSort lt d 0 d.size)) os:=by
 refine Any.sort_SliceStable_of_stable L t e i ie hi hd hpk hie ke hke _ d.size c (by omega) f hf (.func g) #[] lb w _ ?_
 have hB:sliceBound P e ie ke (some ⟨blk,off,none⟩) d.size c= #[.slice (some ⟨blk,off,none⟩) d.size c,typeHandle P e]:=by
  unfold sliceBound;rw[if_neg (swapperK_gt _ _ _ h2)]
 obtain⟨os0,hW⟩:∃os0,stableWorld P ρ t (some ⟨blk,off,none⟩) d.size c w=grow w os0:=
  ⟨_,by unfold stableWorld;rw[alloc_eq_grow,alloc_eq_grow,grow_grow]⟩
 rw[hB,hW]
 refine(MK (P:=P) (ρ:=ρ) {L with} hk lt (d:=d) eg (hless.grow hblk os0)
  (swapSwapsK_of_literal gS f hx e ie hie enc k hk hs1 hagg h1 blk off d.size c) (holdsK_grow enc k w _ blk off d hblk hH) (by rw[size_grow];omega) h20).mono ?_
 rintro e w' ⟨rfl,n,os,rfl⟩
 exact⟨rfl,n,_,by unfold sortWorldK;rw[ahead_grow,putRowK_grow enc k (Sort.ahead w n) _ blk off _ hblk,grow_grow]⟩
def JM {α:Type} (enc:α→List Value) (lab:α→List (ByteArray×ByteArray)) (blk:Nat) (w:World):Prop:=
 ∀x:α,∃p c,(enc x)[0]?=some (.slice p (lab x).length c)∧(lab x).length<4611686018427387904∧
  ∀i,i<(lab x).length→∃bk o,p=some ⟨bk,o,none⟩∧bk≠blk∧bk<w.heap.size∧w.cell? ⟨bk,o+i*2,none⟩=some (.string ((lab x).getD i (ByteArray.empty,ByteArray.empty)).1)∧
   w.cell? ⟨bk,o+i*2+1,none⟩=some (.string ((lab x).getD i (ByteArray.empty,ByteArray.empty)).2)
end Go.Proofs
namespace Vg
open Go Go.RowKit
section
variable {α:Type}
theorem Ch (lt:α→α→Bool) (x:α):∀r:List α,(dh lt x r).Perm (x::r)
 | []=>List.Perm.refl _
 |y::r=>by
  unfold dh
  split
  ·exact((Ch lt x r).cons y).trans (List.Perm.swap x y r)
  ·exact List.Perm.refl _
theorem yd (lt:α→α→Bool):∀(l r:List α),(l.foldl (fun r x=>dh lt x r) r).Perm (l++r)
 | [],r=>List.Perm.refl _
 |x::l,r=>by
  rw[List.foldl_cons]
  exact(yd lt l _).trans ((List.Perm.append_left l (Ch lt x r)).trans (List.perm_middle))
theorem Cs (lt:α→α→Bool) (l:List α):(eO lt l).Perm l:=by
 unfold eO
 refine(List.reverse_perm _).trans ?_
 have:=yd lt l []
 rwa [List.append_nil]at this
theorem EE {β:Type} {lt:α→α→Bool} {lt':β→β→Bool} (f:α→β) (h:∀x y,lt x y=lt' (f x) (f y)) (x:α):∀r:List α,(dh lt x r).map f=dh lt' (f x) (r.map f)
 | []=>rfl
 |y::r=>by
  simp only[dh,List.map_cons,h]
  split<;>simp[EE f h x r]
theorem zG {β:Type} {lt:α→α→Bool} {lt':β→β→Bool} (f:α→β) (h:∀x y,lt x y=lt' (f x) (f y)):∀(l r:List α),(l.foldl (fun r x=>dh lt x r) r).map f=(l.map f).foldl (fun r x=>dh lt' x r) (r.map f)
 | [],r=>rfl
 |x::l,r=>by
  rw[List.foldl_cons,List.map_cons,List.foldl_cons,zG f h l,EE f h]
theorem Qa {β:Type} {lt:α→α→Bool} {lt':β→β→Bool} (f:α→β) (h:∀x y,lt x y=lt' (f x) (f y)) (l:List α):(eO lt l).map f=eO lt' (l.map f):=by
 unfold eO
 rw[List.map_reverse,zG f h]
 rfl
variable [Inhabited α]
theorem KR (lt:α→α→Bool):∀(j:Nat) (p:List α) (x:α) (r:List α),p.length=j→Go.Sort.insInner lt 0 j (p++x::r).toArray=((dh lt x p.reverse).reverse++r).toArray
 |0,p,x,r,h=>by
  have:p=[]:=List.length_eq_zero_iff.1 h
  subst this
  rfl
 |j+1,p,x,r,h=>by
  obtain⟨q,y,rfl⟩:∃q y,p=q++[y]:=⟨p.dropLast,p.getLast (by intro e;rw[e]at h;cases h),(List.dropLast_concat_getLast _).symm⟩
  have hq:q.length=j:=by simpa using h
  have e1:(q++[y]++x::r).toArray[j+1]! =x:=by simp[←hq]
  have e0:(q++[y]++x::r).toArray[j]! =y:=by simp[←hq]
  unfold Go.Sort.insInner
  rw[e1,e0]
  by_cases hl:lt x y=true
  ·rw[if_pos (by simp[hl])]
   have e2:Go.Sort.swp (q++[y]++x::r).toArray (j+1) j=(q++x::(y::r)).toArray:=by
    unfold Go.Sort.swp
    rw[e1,e0]
    apply Array.ext'
    simp[←hq]
   rw[e2,KR lt j q x (y::r) hq,List.reverse_append,List.reverse_singleton,List.singleton_append]
   simp[dh,hl]
  ·rw[if_neg (by simp[hl]),List.reverse_append,List.reverse_singleton,List.singleton_append]
   simp[dh,hl]
theorem KM (lt:α→α→Bool) (l:List α):∀(m i:Nat),i+m=l.length→Go.Sort.insOuter lt 0 l.length i (eO lt (l.take i)++l.drop i).toArray=(eO lt l).toArray
 |0,i,h=>by
  unfold Go.Sort.insOuter
  rw[if_neg (by omega),List.drop_eq_nil_of_le (by omega),List.take_of_length_le (by omega),List.append_nil]
 |m+1,i,h=>by
  have hi:i<l.length:=by omega
  unfold Go.Sort.insOuter
  rw[if_pos hi,List.drop_eq_getElem_cons hi]
  have hlen:(eO lt (l.take i)).length=i:=by rw[(Cs lt (l.take i)).length_eq,List.length_take];omega
  rw[KR lt i _ _ _ hlen]
  have:(dh lt l[i] (eO lt (l.take i)).reverse).reverse=eO lt (l.take (i+1)):=by
   unfold eO
   rw[List.reverse_reverse,List.take_succ_eq_append_getElem hi,List.foldl_append]
   rfl
  rw[this]
  exact KM lt l m (i+1) (by omega)
theorem SG (lt:α→α→Bool) (l:List α) (h:1≤l.length):Go.Sort.insertionSort lt l.toArray 0 l.toArray.size=(eO lt l).toArray:=by
 unfold Go.Sort.insertionSort
 have:=KM lt l (l.length-1) 1 (by omega)
 have e:eO lt (l.take 1)++l.drop 1=l:=by
  cases l with
  |nil=>cases h
  |cons x l=>rfl
 rw[e]at this
 simpa using this
theorem HP {enc:α→List Value} {k:Nat} (hk:∀x,(enc x).length=k) (h0:0<k):∀(L:List α) (t:Nat),t<L.length*k→(L.flatMap enc)[t]?=some ((enc L[t/k]!)[t%k]!)
 | [],t,h=>by simp at h
 |x::L,t,h=>by
  rw[List.flatMap_cons]
  by_cases ht:t<k
  ·rw[List.getElem?_append_left (by rw[hk];exact ht),Nat.div_eq_of_lt ht,Nat.mod_eq_of_lt ht]
   have:t<(enc x).length:=by rw[hk];exact ht
   simp[this]
  ·rw[List.getElem?_append_right (by rw[hk];omega),hk,HP hk h0 L (t-k) (by simp only[List.length_cons,Nat.add_mul,Nat.one_mul]at h;omega)]
   have e1:t/k=(t-k)/k+1:=by rw[Nat.div_eq_sub_div h0 (by omega)]
   have e2:t%k=(t-k)%k:=by rw[Nat.mod_eq_sub_mod (by omega)]
   rw[e1,e2]
   rfl
theorem Qs {enc:α→List Value} {k:Nat} (hk:∀x,(enc x).length=k) (h0:0<k) (L:List α):(Go.Sort.flatK enc k L.toArray).toList=L.flatMap enc:=by
 have hl:(L.flatMap enc).length=L.length*k:=by
  induction L with
  |nil=>simp
  |cons x L ih=>rw[List.flatMap_cons,List.length_append,ih,hk,List.length_cons,Nat.add_mul,Nat.one_mul,Nat.add_comm]
 apply List.ext_getElem?
 intro t
 by_cases ht:t<L.length*k
 ·rw[HP hk h0 L t ht]
  have h2:t<(Go.Sort.flatK enc k L.toArray).size:=by simpa using ht
  have h3:=Go.Sort.get_flatK enc k L.toArray t (by simpa using ht)
  rw[getElem!_pos _ t h2]at h3
  rw[Array.getElem?_toList,Array.getElem?_eq_getElem h2,h3]
  simp
 ·rw[List.getElem?_eq_none (by simp;omega),List.getElem?_eq_none (by rw[hl];omega)]
end
theorem EW {β:Type} {R:β→List Value→List Nat→Prop}:∀ {l:List β} {cs:List Value} {B:List Nat},bg R l cs B→
 ∃L:List (β×List Value×List Nat),(∀x∈L,R x.1 x.2.1 x.2.2)∧l=L.map (·.1)∧cs=L.flatMap (·.2.1)∧B=L.flatMap (·.2.2)
 | [],_,_,h=>⟨[],by simp,rfl,h.1,h.2⟩
 |x::l,cs,B,h=>by
  obtain⟨c1,c2,B1,B2,rfl,rfl,h1,h2⟩:=h
  obtain⟨L,a1,rfl,rfl,rfl⟩:=EW h2
  exact⟨(x,c1,B1)::L,(fun y hy=>by rcases List.mem_cons.1 hy with rfl|hy;exact h1;exact a1 y hy),rfl,rfl,rfl⟩
theorem Fj {β:Type} {R:β→List Value→List Nat→Prop}:∀(L:List (β×List Value×List Nat)),(∀x∈L,R x.1 x.2.1 x.2.2)→bg R (L.map (·.1)) (L.flatMap (·.2.1)) (L.flatMap (·.2.2))
 | [],_=>⟨rfl,rfl⟩
 |x::L,h=>⟨x.2.1,_,x.2.2,_,rfl,rfl,h x (by simp),Fj L (fun y hy=>h y (by simp[hy]))⟩
theorem N3 {w:World}:∀ {l:List (ByteArray×ByteArray)} {cs:List Value} {B:List Nat},bg (aR w (.pair .str .str)) l cs B→B=[]∧∀i,i<l.length→cs[i*2]?=some (.string (l.getD i (ByteArray.empty,ByteArray.empty)).1)∧cs[i*2+1]?=some (.string (l.getD i (ByteArray.empty,ByteArray.empty)).2)
 | [],_,_,h=>⟨h.2,fun i hi=>by simp at hi⟩
 |x::l,cs,B,h=>by
  obtain⟨c1,c2,B1,B2,rfl,rfl,⟨d1,d2,C1,C2,rfl,rfl,⟨rfl,rfl⟩,⟨rfl,rfl⟩⟩,h2⟩:=h
  obtain⟨e,q⟩:=N3 h2
  refine⟨by rw[e];rfl,fun i hi=> ?_⟩
  cases i with
  |zero=>exact⟨rfl,rfl⟩
  |succ i=>
   obtain⟨q1,q2⟩:=q i (by simpa using hi)
   have e1:(i+1)*2=i*2+1+1:=by omega
   rw[e1]
   simp only[List.singleton_append,List.cons_append,List.nil_append,List.getElem?_cons_succ,List.getD_cons_succ]
   exact⟨q1,q2⟩
theorem Cg {e:Ty} {F:aT [.sl e]→Option (aT [.sl e])} {w w':World} {G0:Gh} {v:Value} {l l':List e.den}
 (hlot:Cu w G0 (br [.val (.sl e) .own] (l,()) 3).1 [v] 4) {B B':List Nat} (hB:dI w e.sz (aR w e) l v B) (hBo:∀b Bs,B=b::Bs→G0.col b=3∧b∉Bs∧(∀x∈Bs,G0.col x=3)∧Bs.Nodup)
 (hB':dI w' e.sz (aR w' e) l' v B') (hp:∀b Bs,B'=b::Bs→∃Bs0,B=b::Bs0∧Bs.Perm Bs0)
 (hsame:∀b,b<w.heap.size→(∀Bs,B≠b::Bs)→w'.heap[b]?=w.heap[b]?) (hrow:∀b Bs,B=b::Bs→∃c el,w'.heap[b]?=some (.cells c el (0,0)))
 (hsize:w.heap.size≤w'.heap.size) (hos:w'.os=w.os) (htape:w'.tape=w.tape) (hout:w'.output=w.output):
 ∃G' vs nt,sW ⟨[.val (.sl e) .own],[.val (.sl e) .own],F,[]⟩ w G0 [v] (l',()) v w' G' vs nt:=by
 refine⟨⟨fun b=>if G0.col b=3 then 4 else G0.col b,fun t=>if t=4 then v else G0.hdr t,fun _=>false⟩,[v],5,?_⟩
 exact {
  kept:=fun q hq=>by cases hq
  val:=rfl
  len:=rfl
  res:=fun i=>by
   cases i with
   |zero=>
    show bI w' _ (.d ⟨.sl e,l',.sl (.row 4 [4] true)⟩) v
    refine⟨[v],rfl,v,rfl,by omega,rfl,B',hB',fun b Bs he=> ?_⟩
    obtain⟨Bs0,e0,hperm⟩:=hp b Bs he
    obtain⟨q1,q2,q3,q4⟩:=hBo b Bs0 e0
    refine⟨by simp[q1],fun hm=>q2 (hperm.mem_iff.1 hm),fun x hx=> ?_,fun _=>hperm.nodup_iff.2 q4⟩
    have:=q3 x (hperm.mem_iff.1 hx)
    simp[this]
   |succ i=>trivial
  ios:=fun t i x h=>by cases h
  frame:=fun b hb hc=>by
   refine⟨by simp only;rw[if_neg (by omega)],hsame b hb (fun Bs he=> ?_)⟩
   have:=(hBo b Bs he).1
   omega
  one:=fun b h=>by
   simp only at h
   split at h
   ·omega
   ·exact⟨(hlot.colU b (by omega)).2,h⟩
  size:=hsize
  os:=hos
  tape:=htape
  output:=hout
  lt:=fun b h=>by
   simp only at h
   refine Nat.lt_of_lt_of_le (hlot.colU b ?_).2 hsize
   split at h<;>omega
  fresh:=fun b h=>by
   simp only at h
   have h3:3≤G0.col b:=by split at h<;>omega
   obtain⟨c,el,hc⟩:=hlot.fresh b h3
   by_cases hb:∃Bs,B=b::Bs
   ·obtain⟨Bs,he⟩:=hb
    exact hrow b Bs he
   ·rw[hsame b (hlot.colU b (by omega)).2 (fun Bs he=>hb ⟨Bs,he⟩)]
    exact⟨c,el,hc⟩}
end Vg
