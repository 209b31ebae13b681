/- VG, joined: an evaluator of the code over typed values, and its soundness, for any program. -/
import Derived.Test.YteoaddgmjfnhdaaGreatVc
import Derived.KernelRfl
import Derived.Lib.Join
import Derived.Below
import Derived.Shelf.GgSortMore.Stable
import Derived.Shelf.SlSortFuncK.WholeK
import Derived.Lib.SlicesSearch
import Derived.Deep.LoopGhost
set_option linter.unusedSimpArgs false
set_option linter.unusedVariables false
set_option linter.unusedSectionVars false
open Nat renaming le_refl → aiP,lt_or_ge → aiX,one_mul → ajh,add_mul → ajP,mul_le_mul_right → ajW,lt_of_lt_of_le → aj4,add_sub_cancel → aj8,zero_le → akd
open Bool renaming and_eq_true → aiQ,false_eq_true → ai0,not_eq_true' → aji,eq_iff_iff → ajL,true_and → ajZ,not_eq_false' → aj9
open List renaming length → aiR,mem_singleton → aiT,filter_append → aiU,getD_eq_getElem?_getD → aiW,getElem?_eq_getElem → aiZ,append_assoc → ai1,drop_eq_nil_of_le → ai2,mem_of_getElem? → ai3,map_cons → ai4,length_cons → ai5,mem_cons → ai7,flatMap_cons → ai9,range'_succ → ajb,nil_append → ajc,length_append → ajd,getElem?_take → ajf,getElem?_drop → ajg,drop_drop → ajj,singleton_append → ajk,cons_append → ajl,sum_cons → ajm,getElem_range' → ajo,mem_append → ajp,head?_drop → ajq,getD → ajr,mem_cons_self → ajt,filter_cons_of_pos → aju,take_of_length_le → ajv,all_eq_true → ajx,take_succ_eq_append_getElem → ajy,getElem?_eq_none → ajz,mem_cons_of_mem → ajA,replicate → ajC,lookup → ajD,mem_range'_1 → ajG,drop_eq_getElem_cons → ajI,length_drop → ajJ,pairwise_singleton → ajK,map_append → ajM,foldl_cons → ajN,append_nil → ajO,range' → ajQ,append_eq_nil_iff → ajR,reverse_singleton → ajS,filter_eq_nil_iff → ajT,lt_irrefl → ajV,head? → ajX,getD_cons_succ → aj0,reverse_append → aj1,map_map → aj2,set_cons_zero → aj3,mem_map → aj5,pairwise_cons → aj6,length_range' → aj7,ext_getElem? → akb,filter_cons → ake,getElem_map → akf,forIn_cons → akh,mem_filter → akj,take_left → akk,drop_left → akl,mem_range → akm
open Option.some renaming injEq → aiS,inj → aki
open Option renaming bind_eq_some_iff → aiV,bind_some → ai6,isSome_none → ajs,bind → ajw
open Array renaming getElem?_toList → aiY,getElem?_append_left → ai8,getElem?_eq_getElem → aja,length_toList → ajn,eq_empty_of_size_eq_zero → ajB,getD_eq_getD_getElem? → ajE,size_modify → ajH,getElem?_modify → ajU,toList_extract → ajY,size_append → akc,ext' → akg
open Int renaming toNat → aje,toNat_natCast → aka
open List.cons renaming inj → ajF
namespace Vg
open Go
section
variable {P:Program} {C:Cx} {M:tF} {g:Option (Nat×Bool)} {w0:World} {c0:C0} {U:Nat→Prop} {E:Env} {a:Act} {w:World} {G:Gh} {ops:List Oper} {L:Nat→Prop} {Q:Exit→Act→World→Prop} {ρ:Type}
theorem aca (hC:CxTy P C) (hI:Inv w0 c0 U E a w G) (hR:RI ops E a.tmps) (hg:Gd ops a.tmps g) {tk:Nat} {o:Oper} {t:TypeId} {x y:Operand}
 {gv:List Nat} {b:Nat} {e:Ty} {l':List e.den} {m:Vg.M} (ho:o.op= .store t x y) (hgne:gv≠ []) (h0:iK C ops E.rd tk g o=some (.elem gv b e l' m)):
 ∃w' G',(execOp a.eval o).run P w= .ok .skip w'∧Inv w0 c0 U (E.Gj gv b e l') a w' G':=by
 have h:=ZV h0
 simp only[bl,ho]at h
 split at h
 ·split at h
  ·split at h
   ·obtain⟨r,_,h⟩:=Option.map_eq_some_iff.mp h
    cases h
   ·cases h
  ·cases h
 ·rename_i ti b1 e1 i off p τ1 v1 hti harg hv
  split at h
  ·rename_i l hs nd hrow
   obtain⟨hc,h⟩:=Option.ite_none_right_eq_some.mp h
   obtain⟨hno,h⟩:=Option.ite_none_left_eq_some.mp h
   obtain⟨r,hr,h⟩:=Option.map_eq_some_iff.mp h
   simp only[Ef.elem.injEq]at h
   obtain⟨hgv,rfl,rfl,hl',hm⟩:=h
   have hl':=eq_of_heq hl'
   subst hl'
   simp only[aiQ,decide_eq_true_eq]at hc
   obtain⟨⟨⟨hc1,hc2⟩,hc3⟩,hc4⟩:=hc
   obtain⟨h1,_⟩:=eX hI hR hg harg
   obtain⟨bk,of,n,cap,hb3,k2,k3,k4,k5⟩:=h1
   obtain⟨⟨vh,hvh⟩,hgood⟩:=hI.dx hrow
   obtain⟨⟨cv,hcv,hvv⟩,hvg,hlive⟩:=jl hI hR hg hv
   have hvh0:vh=G.hdr b1:=hvh.2.1.symm
   have hno':=hno
   simp only[Bool.not_eq_true]at hno'
   obtain⟨q1,q2,q3,B,Bv,hs',nd',hB,hBv,hm',hblk⟩:=UP (τ:=τ1) (gv:=gv) (m:=m) hvh hgood hvv hvg hlive hc3 _ rfl hgv.symm hm.symm hno'
   rw[hvh0,k2]at hB
   rcases hB with⟨⟨ao,hB⟩,_⟩|⟨bk',of',cap',c,el,fz,Bs,hvv',hcap,hheap,hsz,rfl,hl⟩
   ·cases hB;exfalso;have k4':i<((0:Nat):Int):=k4;have k3': @LE.le Int Int.instLEInt 0 i:=k3;omega
   ·simp only[Value.slice.injEq,aiS,Addr.mk.injEq,and_true]at hvv'
    obtain⟨⟨rfl,rfl⟩,rfl,rfl⟩:=hvv'
    obtain⟨j1,j2,j3,j4⟩:=hblk bk Bs rfl
    obtain⟨c',el',hfr⟩:=hI.fresh bk (by rw[j1];exact hb3)
    rw[hfr]at hheap
    simp only[aiS,Obj.cells.injEq]at hheap
    obtain⟨rfl,rfl,rfl⟩:=hheap
    have hi:i.toNat<l.length:=toNat_lt k3 k4
    have hget:l[i.toNat]?=some (l.getD i.toNat e1.aa):=by
     rw[aiW,aiZ hi];rfl
    obtain⟨B1,Bx,B2,rfl,hx1,hx2,hx3⟩:=aT.get (sz:=e1.sz) (fun x c B h=>aQ.len h) hl hget
    obtain⟨Ba,Bo,Bb,rfl,hput,hle⟩:=aQ.put hr hx1 hBv
    have hset:=aT.set (sz:=e1.sz) hi hput hx2 hx3
    have hlv:cv.length=v1.τ.sz:=bg.len hvv
    have hmul:(i.toNat+1)*e1.sz≤l.length*e1.sz:=ajW _ hi
    have hmul2:l.length*e1.sz≤cap*e1.sz:=ajW _ hcap
    rw[ajP,ajh]at hmul
    have hO:of+i.toNat*e1.sz+off+cv.length≤c'.size:=by rw[←hc1];omega
    have hrow':=fO bk (el:=el') cv (of+i.toNat*e1.sz+off) w c' hfr hO
    have hT:=(hC.tt t ti hti).1
    have hrun:=uj (P:=P) (t:=t) (τ:=ti.τ) hT hfr (o:=of+i.toNat*e1.sz+off) (cs:=cv) (by rw[←hc4,←hlv];exact hO) (by rw[hlv,hc4]) (bg.one hvv) k5
    have hU:U b1:=(hgood b1 (by simp)).2.1
    have hbx:G.bx b1=false:=(hgood b1 (by simp)).2.2
    have hI1:=hI.map (CL (w:=w) b1) hI.colU (fun b=>⟨fun h=>h,fun _=>rfl,fun _=>rfl⟩)
    have hcol:G.col bk=b1:=j1
    have hother:∀k,G.col k≠b1→(w.setCells bk (of+i.toNat*e1.sz+off) cv).heap[k]?=w.heap[k]?:=fun k hk=>
     bC bk _ _ w k (fun e=>hk (e▸hcol))
    have hBs':=j4 (B1++(Ba++Bv++Bb)++B2) ⟨B1++Ba,Bo,Bb++B2,by simp[ai1],by simp[ai1]⟩
    have hnot:bk∉B1++(Ba++Bv++Bb)++B2:=by
     simp only[ajp,not_or]at j2⊢
     exact⟨⟨j2.1.1,⟨j2.1.2.1.1,j3⟩,j2.1.2.2⟩,j2.2⟩
    have hmm:hs'=[b1]∧nd'=true:=by
     have key:∀(own:Option (List Nat)) (mm:Vg.M),own.getD []=gv→(if own.isSome=true then(Vg.M.row b1 [b1] true)else mm)= .row b1 hs' nd'→hs'=[b1]∧nd'=true:=by
      intro own mm h1 h2
      cases own with
      |none=>exact absurd h1.symm hgne
      |some ts=>
       simp only[Option.isSome_some,if_true,Vg.M.row.injEq,true_and]at h2
       exact⟨h2.1.symm,h2.2.symm⟩
     exact key _ _ hgv (hm.trans hm')
    obtain⟨rfl,rfl⟩:=hmm
    have hnew:bJ (w.setCells bk (of+i.toNat*e1.sz+off) cv) G e1 (l.set i.toNat r.1) (G.hdr b1) (.row b1 (b1::gv) true):=by
     refine⟨hb3,rfl,bk::(B1++(Ba++Bv++Bb)++B2),?_,?_⟩
     ·refine .inr ⟨bk,of,cap,_,el',(0,0),B1++(Ba++Bv++Bb)++B2,by simp[k2],by simpa using hcap,hrow',by simp;omega,rfl,?_⟩
      have hcells:((cJ (of+i.toNat*e1.sz+off) cv c'.toList).drop of).take ((l.set i.toNat r.1).length*e1.sz)=
       ((c'.toList.drop of).take (l.length*e1.sz)).take (i.toNat*e1.sz)++cJ (e1.off p) cv ((((c'.toList.drop of).take (l.length*e1.sz)).drop (i.toNat*e1.sz)).take e1.sz)++((c'.toList.drop of).take (l.length*e1.sz)).drop ((i.toNat+1)*e1.sz):=by
       rw[zp (by omega) (by simp;omega),zx (by simp;omega) (by simp;omega)]
       rw[show of+i.toNat*e1.sz+off-of=i.toNat*e1.sz+e1.off p by omega]
       rw[uf (sz:=e1.sz) hle]
       rw[ajP,ajh]
       simp
      show aT _ _ (((cJ (of+i.toNat*e1.sz+off) cv c'.toList).toArray.toList.drop of).take _) _
      rw[List.toList_toArray,hcells]
      exact aT.world (fun k hk=>bC bk _ _ w k (fun e=>hnot (e▸hk))) hset
     ·rintro h' Bs'' ⟨⟩
      refine⟨hcol,hnot,fun x hx=> ?_,hBs'.2⟩
      have:=hBs'.1 x hx
      split at this
      ·rename_i hin;exact ajA _ hin
      ·simp only[aiT]at this;rw[this];simp
    have hI2:=hI1.setRow hnew hbx hb3 hother (fun s=> ?_) (fun c hc=> ?_) (fun k hk=> ?_) (by rw[dY]) (bV _ _ _ w).1 (bV _ _ _ w).2.1 (bV _ _ _ w).2.2
    ·have hI3:=hI2.Yf (ts:=gv) (t:=b1) (v:=G.hdr b1) hb3 q1 hU rfl hbx
     refine⟨w.setCells bk (of+i.toNat*e1.sz+off) cv,G.aS gv b1 (G.hdr b1),?_,?_⟩
     ·simp only[execOp,ho,hcv,hc4]
      simp[hrun]
     ·simpa only[Env.Gj,aj2,Function.comp_def,SV.bw,SV.aS]using hI3
    ·have:=getD_map (L:=E.s) (T:=SV.bw b1) rfl s
     show SV.clear b1 ((List.map (SV.bw b1) E.s).getD s .no)
     rw[this]
     exact SV.dD b1 _
    ·simp only[M.aE,ai7]at hc
     rcases hc with rfl|rfl|hc
     ·exact hgood _ (by simp)
     ·exact hgood _ (by simp)
     ·exact(q1 c hc).2
    ·by_cases e:k=bk
     ·subst e;exact⟨_,_,hrow'⟩
     ·rw[bC bk _ _ w k e]
      exact hI.fresh k (by rw[hk];exact hb3)
  ·cases h
 ·cases h
theorem VE {c:Call} {s j:Nat} (h:c.args.toList=[.tmp s,.tmp j]) (a:Act):c.args.map a.eval= #[a.tmps.getD s undef,a.tmps.getD j undef]:=by
 have:c.args= #[.tmp s,.tmp j]:=akg (by simpa using h)
 rw[this]
 simp[Act.eval]
theorem Vk (d:Nat) (v:Value) (h:d<a.tmps.size):(a.put (some d) v).tmps.getD d undef=v:=by
 simp[Act.put,ajE,h]
theorem abm (hC:n0 P C) {i:Nat} {o:Oper} (ho:ops[i]?=some o) (hI:Inv w0 c0 U E a w G) (hR:lM ops L E a.tmps) (hL:∀j w',o.guard=some (j,w')→L j) (hni:¬L i) (hgo:fq ops=true)
 {tk:Nat} (h3:4≤tk) (hU:∀u,tk≤u→u<tk+32→¬U u) {act:Option Bool} {ef:Ef} (hga:guardOf ops E.rd o.guard=some act) (hev:iK C ops E.rd tk o.guard o=some ef)
 {k:Env→Option ρ} {r:ρ} (hap:I7 o act E k ef=some r) {K:Act→World→Prop}
 (hK:∀E' a' w' G',k E'=some r→E'.s.length=E.s.length→Inv w0 c0 (fun u=>U u∨(tk≤u∧u<tk+32)) E' a' w' G'→lM ops (fun j=>L j∨j=i) E' a'.tmps→(∃v,a'=a.put o.dst v)→K a' w'):wpOp P ops.toArray Q i K a w:=by
 have hIm:=hI.mono (U':=fun u=>U u∨(tk≤u∧u<tk+32)) (fun u hu=> .inl hu)
 have old:mn o act E k ef=some r→wpOp P ops.toArray Q i K a w:=by
  intro hap
  rw[Ht,FD,aiV]at hap
  obtain⟨E',hs,hk⟩:=hap
  have hlen:E'.s.length=E.s.length:=by
   cases ef with
   |val v=>simp only[aY,aiS]at hs;subst hs;exact eo ..
   |chk c v=>
    simp only[aY]at hs
    split at hs
    ·split at hs
     ·simp only[aiS]at hs;subst hs;exact eo ..
     ·cases hs
    ·split at hs
     ·simp only[aiS]at hs;subst hs;exact eo ..
     ·cases hs
   |opt α z x f=>
    simp only[aY,aiV,aiS]at hs
    obtain⟨y,_,hs⟩:=hs;subst hs;exact eo ..
   |put b s v=>
    simp only[aY]at hs
    split at hs
    ·simp only[aiS]at hs;subst hs;simp
    ·cases hs
   |app c kl gv t v=>
    simp only[aY]at hs
    split at hs
    ·split at hs
     ·simp only[aiS]at hs;subst hs;rw[eo,Ug,Vp]
     ·cases hs
    ·cases hs
   |elem gv b e l m=>
    simp only[aY]at hs
    split at hs
    ·simp only[aiS]at hs;subst hs;simp[Env.elem]
    ·cases hs
   |nap c gv b e l m v=>
    simp only[aY]at hs
    split at hs
    ·split at hs
     ·simp only[aiS]at hs;subst hs;rw[eo];simp[Env.elem]
     ·cases hs
    ·cases hs
   |call α x tks f rp=>
    simp only[aY]at hs
    split at hs
    ·simp only[aiV,aiS]at hs
     obtain⟨y,_,hs⟩:=hs;subst hs;rw[eo,ld,uJ]
    ·cases hs
  exact Oi hC ho hI hR hL hni hgo h3 hU hga hev hs (fun a' w' G' g1 g2 g3=>hK E' a' w' G' hk hlen g1 g2 g3)
 unfold I7 at hap
 split at hap
 ·
  rename_i α x tks f rp b
  cases hgd:o.guard with
  |none=>rw[hgd]at hga;simp[guardOf]at hga
  |some p=>
   obtain⟨j,w'⟩:=p
   rw[hgd]at hga hev
   obtain⟨b',hb',hb⟩:=CN hI hga
   cases hb'
   have hj:=hL j w' hgd
   cases b with
   |true=>
    simp only[if_true,aiV]at hap
    obtain⟨y,hy,hk⟩:=hap
    have hyl:=hb.1 rfl
    have hwant:Region.wanted o (yielded ops.toArray a.tmps)=true:=by simp[Region.wanted,hgd,hyl]
    have hS:=QV hC hI hR.ri (g:=some (j,w')) (by rintro j1 w1 ⟨⟩;exact hyl) h3 hU hev
    refine ei ho hwant ?_
    refine nU (hS y hy) (fun mv w1 ⟨G',g1,g2,g3,g4⟩=> ?_)
    obtain⟨k1,k2,k3⟩:=Xu (j:=j) (w':=w') g2 g3
    rw[hgd]at hk
    refine hK _ _ _ G' hk (by rw[eo,ld,uJ]) ?_ ?_ ⟨_,rfl⟩
    ·exact g1.put o.dst k1 k2.1 k2.2.1 k2.2.2 (fun t u e=>absurd e (k3 t u))
    ·refine lM.put (E:={E.bS tks (rp y)with s:=bu (f y).2 (E.bS tks (rp y)).s}) (hR.map (fun s j w' act u h=>Xs (N9 h))) ho hgo hni hL (fun j1 w1 act v e=> ?_)
     unfold dh at e
     simp only at e
     split at e
     ·cases e
     ·simp only[SV.g.injEq]at e
      obtain⟨rfl,rfl,rfl,_⟩:=e
      exact⟨⟨fun _=>hyl,fun _=>rfl⟩,hgd⟩
   |false=>
    simp only[ai0,if_false]at hap
    have hyl:yielded ops.toArray a.tmps j≠some w':=fun h=>by have:=hb.2 h;cases this
    have hwant:Region.wanted o (yielded ops.toArray a.tmps)=false:=by
     simp only[Region.wanted,hgd]
     simpa using hyl
    obtain⟨k1,k2,k3⟩:=Xn (w:=w) (G:=G) (U:=fun u=>U u∨(tk≤u∧u<tk+32)) (v:=vB false) (j:=j) (w':=w')
    rw[hgd]at hap
    unfold wpOp
    simp only[List.getElem?_toArray,ho,hwant,ai0,if_false]
    refine hK _ _ _ G hap (eo ..) ?_ ?_ ⟨_,rfl⟩
    ·exact hIm.put o.dst k1 k2.1 k2.2.1 k2.2.2 (fun t u e=>absurd e (k3 t u))
    ·refine hR.put ho hgo hni hL (fun j1 w1 act v e=> ?_)
     unfold dh at e
     simp only at e
     split at e
     ·cases e
     ·simp only[SV.g.injEq]at e
      obtain⟨rfl,rfl,rfl,_⟩:=e
      exact⟨⟨fun h=>absurd h (by simp),fun h=>absurd h hyl⟩,hgd⟩
 ·
  rename_i g0 gv b e l m
  split at hap
  ·rename_i t x y hd hop
   cases hgd:o.guard with
   |some p=>
    rw[hgd]at hga
    obtain⟨b',hb',_⟩:=CN hI hga
    cases hb'
   |none=>
    rw[hgd]at hev
    have hwant:Region.wanted o (yielded ops.toArray a.tmps)=true:=by simp[Region.wanted,hgd]
    refine ei ho hwant ?_
    obtain⟨w1,G',h1,h2⟩:=aca hC.toCxTy hI hR.ri (g:=none) (by rintro j w' ⟨⟩) hop (by simp) hev
    unfold Oper.wp
    rw[h1]
    refine hK _ _ _ G' hap (by simp[Env.Gj]) ?_ ?_ ⟨undef,rfl⟩
    ·rw[hd];exact h2.mono fun u hu=> .inl hu
    ·rw[hd]
     have:=hR.map (E':=E.Gj (g0::gv) b e l) (fun s j w' act u h=>by
      have hh:=getD_map (L:=E.s) (T:=fun s=>((s.bw b).setRow b e l (.row b (b::(g0::gv)) true)).aS (g0::gv) b) rfl s
      simp only[Env.Gj]at h
      rw[hh]at h
      obtain⟨v1,h1⟩:=BC h
      obtain⟨v2,h2⟩:=Vo h1
      exact BC h2)
     intro s j w' act v hs
     obtain⟨q1,q2,q3⟩:=this s j w' act v hs
     exact⟨q1,.inl q2,q3⟩
  ·cases hap
 ·exact old hap
theorem um (hC:n0 P C) (hM:NR P M) {io:List Nat} (hkp:keeps io ops=true) (hgo:fq ops=true) {nt:Nat} (h3:4≤nt) {k:Env→Option ρ} {r:ρ}:∀ {l:List jF} {i:Nat} {E:Env} {a:Act} {w:World} {G:Gh},ops.drop i=l.flatMap jF.ops→i+(l.flatMap jF.ops).length=ops.length→
 Inv w0 c0 (fun u=>u<nt+32*i) E a w G→lM ops (fun j=>j<i) E a.tmps→qc C M ops nt l i E k=some r→
 (∀E' a' w' G',Inv w0 c0 (fun u=>u<nt+32*ops.length) E' a' w' G'→lM ops (fun j=>j<ops.length) E' a'.tmps→E'.s.length=E.s.length→(∀i∈io,a'.tmps.getD i undef=a.tmps.getD i undef)→k E'=some r→Q .normal a' w')→
 wpOps P ops.toArray Q (ajQ i (l.flatMap jF.ops).length) a w
 | [],i,E,a,w,G,hd,hl,hI,hR,h,hK=>by
   have hi:i=ops.length:=by simpa using hl
   subst hi
   exact hK E a w G hI hR rfl (fun _ _=>rfl) h
 | .one o::l,i,E,a,w,G,hd,hl,hI,hR,h,hK=>by
   simp only[ai9,jF.ops,ajl,ajc]at hd
   simp only[ai9,jF.ops,ajl,ajc,ai5]at hl⊢
   have ho:ops[i]?=some o:=by
    have:=congrArg ajX hd
    simpa[ajq]using this
   have hd':ops.drop (i+1)=l.flatMap jF.ops:=by rw[←ajj,hd];rfl
   simp only[qc]at h
   rw[ajb,wpOps_cons]
   split at h
   ·rename_i f m s j hc
    obtain⟨hg,hm,c,hop,hcal,hargs⟩:=HX hc
    split at h
    ·rename_i x sh n hA
     rw[aiV]at h
     obtain⟨⟨kk,y⟩,hF,h⟩:=h
     unfold ad1 at hA
     split at hA
     ·rename_i v n' shn hs hj
      split at hA
      ·rename_i x' ts hx ho'
       cases hA
       have hv:=hI.slots s
       have hgd:=hI.ow s
       have hs':E.s.getD s .no= .d v:=hs
       rw[hs']at hv hgd
       obtain⟨cs,hcs,hvk⟩:=hv
       have e:=cV hx
       rw[e]at hcs hvk hgd ho'
       have hU:=aat hI (hM f m hm) hvk hgd.1 ho' hF
       have hj':=IC hI hj
       have hwant:Region.wanted o (yielded ops.toArray a.tmps)=true:=by simp[Region.wanted,hg]
       refine ei ho hwant (Mh hop hcal (R:=fun mv w'=>mv=Value.int .i64 kk∧∃G',Inv w0 c0 (fun u=>u<nt+32*i) (E.mark (rowsOf m.τ y v.sh)) a w' G') ?_ (fun mv w' hh=> ?_))
       ·rw[VE hargs,hcs,hj'];exact hU
       ·obtain⟨rfl,G',hI'⟩:=hh
        have hI2:=(hI'.ac7 o.dst kk).mono (U':=fun u=>u<nt+32*(i+1)) (fun u hu=>by omega)
        refine um hC hM hkp hgo h3 (l:=l) (i:=i+1) hd' (by omega) hI2 (fun s j w1 act v he=>absurd he (NS Uc (by rintro _ _ _ _ ⟨⟩) s j w1 act v)) h
         (fun E2 a2 w2 G2 g1 g2 g3 g5 g4=>hK E2 a2 w2 G2 g1 g2 (g3.trans ((eo ..).trans (VL _))) (fun j hj=>(g5 j hj).trans (lK hkp (ai3 ho) hj)) g4)
      ·cases hA
     ·cases hA
    ·cases h
   ·split at h
    ·rename_i hun
     unfold untold at hun
     split at hun
     ·rename_i cv hg hop
      have hwant:Region.wanted o (yielded ops.toArray a.tmps)=true:=by simp[Region.wanted,hg]
      refine ei ho hwant ?_
      have hr1:(execOp a.eval o).run P w= .ok (.value (a.eval (.const cv))) w:=by
       simp only[execOp,hop]
       rfl
      unfold Oper.wp
      rw[hr1]
      show wpOps P ops.toArray Q _ _ _
      have hI2:=(hI.Yq o.dst (a.eval (.const cv))).mono (U':=fun u=>u<nt+32*(i+1)) (fun u hu=>by omega)
      refine um hC hM hkp hgo h3 (l:=l) (i:=i+1) hd' (by omega) hI2 (fun s j w1 act v he=>by
       obtain⟨q1,q2,q3⟩:=hR.put ho hgo (by omega) (fun j w' hj=>zI hgo ho hj) (sv:= .no) (mv:=a.eval (.const cv)) (by rintro _ _ _ _ ⟨⟩) s j w1 act v he
       exact⟨q1,by rcases q2 with q2|q2<;>omega,q3⟩) h
       (fun E2 a2 w2 G2 g1 g2 g3 g5 g4=>hK E2 a2 w2 G2 g1 g2 (g3.trans (eo ..)) (fun j hj=>(g5 j hj).trans (lK hkp (ai3 ho) hj)) g4)
     ·cases hun
    ·split at h
     ·cases h
     ·rename_i act hga
      split at h
      ·cases h
      ·rename_i ef hev
       refine abm hC ho hI hR (fun j w' hj=>zI hgo ho hj) (by omega) hgo (tk:=nt+32*i) (by omega) (fun u h1 h2 h=>by omega) hga hev h (fun E' a' w' G' hk hlen hI' hR' ⟨v,hav⟩=> ?_)
       refine um hC hM hkp hgo h3 (l:=l) (i:=i+1) hd' (by omega) (hI'.mono (fun u hu=>by rcases hu with hu|hu<;>omega))
        (fun s j w1 act v he=>by
         obtain⟨q1,q2,q3⟩:=hR' s j w1 act v he
         exact⟨q1,by rcases q2 with q2|q2<;>omega,q3⟩) hk (fun E2 a2 w2 G2 g1 g2 g3 g5 g4=>hK E2 a2 w2 G2 g1 g2 (g3.trans hlen) (fun j hj=>(g5 j hj).trans (by rw[hav];exact lK hkp (ai3 ho) hj)) g4)
 | .nest o1 o2 o3::l,i,E,a,w,G,hd,hl,hI,hR,h,hK=>by
   simp only[ai9,jF.ops,ajl,ajc]at hd
   simp only[ai9,jF.ops,ajl,ajc,ai5]at hl⊢
   have ho1:ops[i]?=some o1:=by
    have:=congrArg ajX hd
    simpa[ajq]using this
   have hd1:ops.drop (i+1)=o2::o3::l.flatMap jF.ops:=by rw[←ajj,hd];rfl
   have ho2:ops[i+1]?=some o2:=by
    have:=congrArg ajX hd1
    simpa[ajq]using this
   have hd2:ops.drop (i+1+1)=o3::l.flatMap jF.ops:=by rw[←ajj,hd1];rfl
   have ho3:ops[i+1+1]?=some o3:=by
    have:=congrArg ajX hd2
    simpa[ajq]using this
   have hd3:ops.drop (i+3)=l.flatMap jF.ops:=by rw[show i+3=i+1+1+1 by omega,←ajj,hd2];rfl
   simp only[qc]at h
   split at h
   ·rename_i f m t p q d1 d2 hn
    obtain⟨g1,op1,ds1,g2,op2,ds2,hne,hqd,hc3⟩:=WW hn
    obtain⟨g3,hm,c,op3,hcal,hargs⟩:=HX hc3
    have three:∀(cs:List Value) (n kk:Int) (L':List ve),a.tmps.getD q undef= .int .i64 n→d1<E.s.length→d2<E.s.length→(execOp a.eval o1).run P w= .ok (.value (cw m.τ cs)) w→
     sL P f #[cw m.τ cs,.int .i64 n] w (fun mv w'=>mv=Value.int .i64 kk∧∃G',Inv w0 c0 (fun u=>u<nt+32*i) (E.mark L') a w' G')→
     qc C M ops nt l (i+3) ((((E.mark L').set (some d1) .no).set (some d2) .no).set o3.dst (vI .i64 kk)) k=some r→
     wpOps P ops.toArray Q (ajQ i ((l.flatMap jF.ops).length+1+1+1)) a w:=by
     intro cs n kk L' hqv hl1 hl2 hr1 hU h
     have hszE:a.tmps.size=E.s.length:=hI.len
     rw[show(l.flatMap jF.ops).length+1+1+1=((l.flatMap jF.ops).length+1+1)+1 from rfl,ajb,wpOps_cons]
     have hw1:Region.wanted o1 (yielded ops.toArray a.tmps)=true:=by simp[Region.wanted,g1]
     refine ei ho1 hw1 ?_
     unfold Oper.wp
     rw[hr1]
     show wpOps P ops.toArray Q _ _ _
     rw[ajb,wpOps_cons]
     have hw2:Region.wanted o2 (yielded ops.toArray (a.put o1.dst (cw m.τ cs)).tmps)=true:=by simp[Region.wanted,g2]
     refine ei ho2 hw2 ?_
     have hr2:(execOp (a.put o1.dst (cw m.τ cs)).eval o2).run P w= .ok (.value (.int .i64 n)) w:=by
      have:=Ur (a:=a) (some d1) (cw m.τ cs) q (by simpa using Ne.symm hqd)
      simp only[execOp,op2,Act.eval,ds1,this,hqv]
      rfl
     unfold Oper.wp
     rw[hr2]
     show wpOps P ops.toArray Q _ _ _
     rw[ajb,wpOps_cons]
     rw[ds1,ds2]
     have hw3:Region.wanted o3 (yielded ops.toArray ((a.put (some d1) (cw m.τ cs)).put (some d2) (.int .i64 n)).tmps)=true:=by simp[Region.wanted,g3]
     refine ei ho3 hw3 (Mh op3 hcal (R:=fun mv w'=>mv=Value.int .i64 kk∧∃G',Inv w0 c0 (fun u=>u<nt+32*i) (E.mark L') a w' G') ?_ (fun mv w' hh=> ?_))
     ·rw[VE hargs,Ur (some d2) _ d1 (by simpa using Ne.symm hne),Vk d1 _ (by rw[hszE];exact hl1),Vk d2 _ (by rw[kv,hszE];exact hl2)]
      exact hU
     ·obtain⟨rfl,G',hI'⟩:=hh
      have hI2:=(((hI'.Yq (some d1) (cw m.τ cs)).Yq (some d2) (.int .i64 n)).ac7 o3.dst kk).mono (U':=fun u=>u<nt+32*(i+3)) (fun u hu=>by omega)
      have hz:=um hC hM hkp hgo h3 (l:=l) (i:=i+3) hd3 (by omega) hI2 (fun s j w1 act v he=>absurd he (NS (NS (NS Uc (by rintro _ _ _ _ ⟨⟩)) (by rintro _ _ _ _ ⟨⟩)) (by rintro _ _ _ _ ⟨⟩) s j w1 act v)) h
       (fun E2 a2 w2 G2 g1 g2 g3 g5 g4=>hK E2 a2 w2 G2 g1 g2 (g3.trans ((eo ..).trans ((eo ..).trans ((eo ..).trans (VL _))))) (fun j hj=>by
        rw[g5 j hj,lK hkp (ai3 ho3) hj]
        have k2:=lK (a:=a.put (some d1) (cw m.τ cs)) hkp (ai3 ho2) (v:= .int .i64 n) hj
        have k1:=lK (a:=a) hkp (ai3 ho1) (v:=cw m.τ cs) hj
        rw[ds2]at k2
        rw[ds1]at k1
        rw[k2,k1]) g4)
      exact hz
    split at h
    ·split at h
     ·rename_i x sh n hA
      rw[aiV]at h
      obtain⟨⟨kk,y⟩,hF,h⟩:=h
      unfold adR at hA
      split at hA
      ·rename_i ti b o path τ0 n' shn hti hp hq
       split at hA
       ·rename_i sl v hbox
        split at hA
        ·rename_i rr hcond hsub
         split at hA
         ·rename_i x' ts hx hown
          cases hA
          simp only[aiQ,decide_eq_true_eq]at hcond
          obtain⟨⟨hoff,hτ⟩,hl1,hl2⟩:=hcond
          have hsp:=xZ (hI.slots p)
          have hp':bA (E.s.getD p .no)= .ptr b o path τ0:=hp
          rw[hp']at hsp
          obtain⟨bk,hb3,hhdr,hptr⟩:=hsp
          obtain⟨hslot,bk',c',el,q1,q2,q3,q4,q5,q6⟩:=hI.box (E:=E) hbox
          rw[q1]at hhdr
          simp only[Value.pointer.injEq,aiS,Addr.mk.injEq,and_true]at hhdr
          subst hhdr
          obtain⟨r1,r2,r3,r4⟩:=bg.sub hsub q5
          have e:=cV hx
          generalize hrs:rr.sh=rsh at e hown h
          rw[e]at r1 r2 r4
          have hlen:=bg.len q5
          simp only[ajn]at hlen
          have hT:=(hC.tt t ti hti).1
          rw[hτ]at hT
          have hrun:=oq (P:=P) hT q4 (o:=o) (by rw[←hoff,hlen];exact r2)
          have hr1:(execOp a.eval o1).run P w= .ok (.value (cw m.τ ((c'.toList.drop o).take m.τ.sz))) w:=by
           simp only[execOp,op1]
           refine dK ?_
           simp only[Instr.loadAt,Act.eval,hptr,Instr.sureAddr]
           simpa using hrun
          rw[hoff]at r1
          exact three _ n kk _ (IC hI hq) hl1 hl2 hr1 (aat hI (hM f m hm) r1 (fun c hc=>q6 c (r4 c hc)) hown hF) h
         ·cases hA
        ·cases hA
       ·cases hA
      ·cases hA
     ·cases h
    ·split at h
     ·rename_i d hA
      rw[aiV]at h
      obtain⟨⟨kk,y⟩,hF,h⟩:=h
      split at h
      ·rename_i yy hput
       unfold acj at hA
       split at hA
       ·rename_i ti b e ii o path τ0 n shn hti hp hq
        split at hA
        ·rename_i ll hs nd hrow
         split at hA
         ·rename_i rr hcond hsub
          split at hA
          ·rename_i x hx
           cases hA
           simp only[aiQ,decide_eq_true_eq]at hcond
           obtain⟨⟨⟨⟨hnd,hhs⟩,hoff⟩,hτ⟩,hl1,hl2⟩:=hcond
           subst hnd
           have hsp:=hI.slots p
           have hp':E.s.getD p .no= .ept b e ii o path τ0:=hp
           rw[hp']at hsp
           obtain⟨bk,of,nn,cap,hb3,hhdr,hi0,hin,hptr⟩:=hsp
           have hlt:ii.toNat<nn:=toNat_lt hi0 hin
           obtain⟨⟨cc,el,fz,hheap,hsz⟩,hU⟩:=acO hI (hM f m hm) hrow hhs hhdr hlt hsub hx hF hput
           have hT:=(hC.tt t ti hti).1
           rw[hτ]at hT
           rw[hoff]at hsz hU
           have hrun:=oq (P:=P) hT hheap (o:=of+ii.toNat*e.sz+o) hsz
           have hcell:cellsOf w bk (of+ii.toNat*e.sz+o) m.τ.sz=(cc.toList.drop (of+ii.toNat*e.sz+o)).take m.τ.sz:=by
            unfold cellsOf;rw[hheap]
           rw[hcell]at hU
           have hr1:(execOp a.eval o1).run P w= .ok (.value (cw m.τ ((cc.toList.drop (of+ii.toNat*e.sz+o)).take m.τ.sz))) w:=by
            simp only[execOp,op1]
            refine dK ?_
            simp only[Instr.loadAt,Act.eval,hptr,Instr.sureAddr]
            simpa using hrun
           exact three _ n kk _ (IC hI hq) hl1 hl2 hr1 hU h
          ·cases hA
         ·cases hA
        ·cases hA
       ·cases hA
      ·cases h
     ·cases h
   ·cases h
end
section
variable {P:Program} {C:Cx} {M:tF} {w0:World} {c0:C0} {U:Nat→Prop} {E:Env} {a:Act} {w:World} {G:Gh} {ops:List Oper} {L:Nat→Prop} {Q:Exit→Act→World→Prop} {ρ:Type}
theorem ado (hC:n0 P C) (hM:NR P M) {r:ρ} {T:Nat→Value}:∀(c:Code) {E:Env} {a:Act} {w:World} {G:Gh} {kn kr:Env→Option ρ} {ke:List (Nat×(Env→Option ρ))} {Q:Exit→Act→World→Prop},
 Inv w0 c0 (fun u=>u<E.nt) E a w G→ur E.s→E.s.length=C.n→4≤E.nt→(∀i∈C.io,a.tmps.getD i undef=T i)→mF C M c E kn ke kr=some r→Ru C w0 c0 T r kn (Q .normal)→(∀id k,ke.lookup id=some k→Ru C w0 c0 T r k (Q (.exit id)))→Ru C w0 c0 T r kr (Q .ret)→
 c.wp P Q a w:=by
 intro c
 induction c with
 |skip=>intro E a w G kn kr ke Q hI hg hl h3 hT h hn he hr;exact wp_skip (hn E a w G hI hg hl h3 hT h)
 |region id ops draw=>
  intro E a w G kn kr ke Q hI hg hl h3 hT h hn' he hr
  simp only[mF]at h
  split at h
  ·rename_i hc
   simp only[aiQ]at hc
   obtain⟨hgo,hkp⟩:=hc
   have fin:∀E' a' w' G',Inv w0 c0 (fun u=>u<E.nt+32*ops.toList.length) E' a' w' G'→lM ops.toList (fun j=>j<ops.toList.length) E' a'.tmps→E'.s.length=E.s.length→(∀i∈C.io,a'.tmps.getD i undef=a.tmps.getD i undef)→
    kn {jz E' ops.toList with nt:=E.nt+32*ops.size}=some r→Q .normal a' w':=by
    intro E' a' w' G' g1 g2 g3 g5 g4
    obtain⟨k1,k2,k3⟩:=R1 g1 g2
    refine hn' {jz E' ops.toList with nt:=E.nt+32*ops.size} a' w' G' ?_ k2 (by rw[k3,g3,hl]) (by show 4≤E.nt+32*ops.size;omega) (fun i hi=>(g5 i hi).trans (hT i hi)) g4
    simpa using k1
   split at h
   ·split at h
    ·rename_i d hd
     have hn:0<ops.size:=by
      rcases Nat.eq_zero_or_pos ops.size with h0|h0
      ·have:ops= #[]:=ajB h0
       subst this
       simp[xz]at hd
      ·exact h0
     exact Yd hC.toCxTy hC.mixed hI hg h3 hd hn hkp h (fun E' a' w' G' g1 g2 g3 g4 g5 g6=>hn' E' a' w' G' g1 g2 (g3.trans hl) g4 (fun i hi=>(g5 i hi).trans (hT i hi)) g6)
    simp only[CT]at h
    exact RL (ops:=ops.toList) hC.mixed hC hkp hgo h3 hI hg (k:=fun E'=>kn {jz E' ops.toList with nt:=E.nt+32*ops.size}) (by
     rw[←h];congr 1;funext E' L;cases sD ops.toList L<;>rfl) fin
   ·refine wp_region ?_
    have hfl:=EP M ops.toList
    have:=um (Q:=Q) hC hM hkp hgo h3 (l:=steps M ops.toList) (i:=0) (by rw[hfl];simp) (by rw[hfl];simp) (by simpa using hI) (fun s j w1 act v he=>absurd he (hg s j w1 act v)) h fin
    rw[Ax]
    rw[hfl]at this
    simpa using this
  ·cases h
 |seq x y ihx ihy=>
  intro E a w G kn kr ke Q hI hg hl h3 hT h hn he hr
  refine wp_seq ?_
  simp only[mF]at h
  split at h
  ·refine ihx (Q:=Exit.then (y.wp P Q) Q) hI hg hl h3 hT h (fun E' a' w' G' g1 g2 g3 g4 gT g5=> ?_) he hr
   exact ihy g1 g2 g3 g4 gT g5 hn he hr
  ·rename_i n _
   simp only[aL]at h
   refine ihx (Q:=Exit.then (y.wp P Q) Q) hI hg hl h3 hT h (fun E' a' w' G' g1 g2 g3 g4 gT g5=> ?_) he hr
   split at g5
   ·rename_i t ht
    obtain⟨G2,k1,k2,k3,k4⟩:=vU g1 g3 ht
    exact ihy k1 k2 k3 k4 gT g5 hn he hr
   ·cases g5
 |cond c x y ihx ihy=>
  intro E a w G kn kr ke Q hI hg hl h3 hT h hn he hr
  simp only[mF]at h
  split at h
  ·rename_i b sh hb
   have hR:RI ([]:List Oper) E a.tmps:=fun s j w1 act v he=>absurd he (hg s j w1 act v)
   obtain⟨⟨cs,h1,h2⟩,_⟩:=eX hI hR (g:=none) (by rintro j w' ⟨⟩) hb
   have hev:a.eval c= .bool b:=by
    cases sh with
    |leaf=>rw[h1,show cs=_ from h2];rfl
    |sl m=>exact h2.elim
    |pair a b=>exact h2.elim
   refine wp_cond hev ?_
   split at h
   ·rename_i hb;subst hb;exact ihx hI hg hl h3 hT h hn he hr
   ·rename_i hb
    have:b=false:=by simpa using hb
    subst this
    exact ihy hI hg hl h3 hT h hn he hr
  ·cases h
 |block id c ih=>
  intro E a w G kn kr ke Q hI hg hl h3 hT h hn he hr
  refine wp_block ?_
  simp only[mF]at h
  refine ih (Q:=Exit.inBlock id Q) hI hg hl h3 hT h hn (fun i k hk=> ?_) hr
  rw[vm]at hk
  intro E2 a2 w2 G2 g1 g2 g3 g4 gT g5
  show Exit.inBlock id Q (.exit i) a2 w2
  simp only[Exit.inBlock]
  split at hk
  ·rename_i e
   simp only[aiS]at hk
   subst hk
   simp only[e,if_true]
   exact hn E2 a2 w2 G2 g1 g2 g3 g4 gT g5
  ·rename_i e
   simp only[e,if_false]
   exact he i k hk E2 a2 w2 G2 g1 g2 g3 g4 gT g5
 |loop c ih=>
  intro E a w G kn kr ke Q hI hg hl h3 hT h hn he hr
  simp only[mF]at h
  split at h
  ·cases h
  ·rename_i n _
   have hq:∃t,proj n E=some t∧aH C.k (fun G t=>mF C M c (eB C.n n t) (fun E'=>match proj n E' with|some t=>G t|none=>none) ke kr) t=some r:=by
    split at h
    ·rename_i t ht;exact⟨t,ht,h⟩
    ·cases h
   obtain⟨t,ht,h⟩:=hq
   obtain⟨G2,k1,k2,k3,k4⟩:=vU hI hl ht
   refine wp_loop_rounds C.k ?_
   have key:∀(m:Nat) (t:aZ (mL n.ks)) (a:Act) (w:World) (G:Gh),aH m (fun G t=>mF C M c (eB C.n n t) (fun E'=>match proj n E' with|some t=>G t|none=>none) ke kr) t=some r→
    Inv w0 c0 (fun u=>u<(eB C.n n t).nt) (eB C.n n t) a w G→ur (eB C.n n t).s→(eB C.n n t).s.length=C.n→4≤(eB C.n n t).nt→(∀i∈C.io,a.tmps.getD i undef=T i)→Code.rounds P c Q m a w:=by
    intro m
    induction m with
    |zero=>intro t a w G h;simp[aH]at h
    |succ m ihm=>
     intro t a w G h g1 g2 g3 g4 gT
     rw[rounds_succ]
     simp only[aH]at h
     refine ih (Q:=Exit.then (Code.rounds P c Q m) Q) g1 g2 g3 g4 gT h (fun E' a' w' G' q1 q2 q3 q4 qT q5=> ?_) he hr
     split at q5
     ·rename_i t' ht'
      obtain⟨G3,p1,p2,p3,p4⟩:=vU q1 q3 ht'
      exact ihm t' a' w' G3 q5 p1 p2 p3 p4 qT
     ·cases q5
   exact key C.k t a w G2 h k1 k2 k3 k4 hT
 |exit id=>
  intro E a w G kn kr ke Q hI hg hl h3 hT h hn he hr
  simp only[mF]at h
  split at h
  ·rename_i k hk
   exact wp_exit (he id k hk E a w G hI hg hl h3 hT h)
  ·cases h
 |ret=>intro E a w G kn kr ke Q hI hg hl h3 hT h hn he hr;exact wp_ret (hr E a w G hI hg hl h3 hT h)
 |_=>intro E a w G kn kr ke Q hI hg hl h3 hT h hn he hr;simp[mF]at h
end
def Y5:Value→Value→Bool
 | .int k n,.int k' n'=>k==k'&&n==n'
 | .bool b,.bool b'=>b==b'
 | .string a,.string b=>a.size==0&&b.size==0
 | .slice none l c,.slice none l' c'=>l==l'&&c==c'
 |_,_=>false
def nQ:List Value→List Value→Bool
 | [],[]=>true
 |a::l,b::m=>Y5 a b&&nQ l m
 |_,_=>false
def YT:Ty→Value→Bool
 | .pair a b,.agg cs=>nQ cs.toList (Ty.pair a b).zero
 | .pair _ _,_=>false
 |τ,v=>nQ [v] τ.zero
theorem ack {a:ByteArray} (h:a.size=0):a=ByteArray.empty:=by
 cases a with
 |mk d=>
  have:d.size=0:=h
  have:d= #[]:=ajB this
  rw[this];rfl
theorem ab4 {a b:Value} (h:Y5 a b=true):a=b:=by
 unfold Y5 at h
 split at h
 ·simp only[aiQ,beq_iff_eq]at h;rw[h.1,h.2]
 ·simp only[beq_iff_eq]at h;rw[h]
 ·simp only[aiQ,beq_iff_eq]at h;rw[ack h.1,ack h.2]
 ·simp only[aiQ,beq_iff_eq]at h;rw[h.1,h.2]
 ·cases h
theorem rb:∀ {l m:List Value},nQ l m=true→l=m
 | [],[],_=>rfl
 |a::l,b::m,h=>by
  simp only[nQ,aiQ]at h
  rw[ab4 h.1,rb h.2]
 | [],_::_,h|_::_,[],h=>by simp[nQ]at h
theorem abk {τ:Ty} {v:Value} (h:YT τ v=true):v=cw τ τ.zero:=by
 cases τ with
 |pair a b=>
  cases v with
  |agg cs=>
   have:=rb (show nQ cs.toList (Ty.pair a b).zero=true from h)
   simp only[cw,←this,Array.toArray_toList]
  |_=>simp[YT]at h
 |int k=>have:=rb (show nQ [v] (Ty.int k).zero=true from h);simpa[cw,Ty.zero]using this
 |bool=>have:=rb (show nQ [v] Ty.bool.zero=true from h);simpa[cw,Ty.zero]using this
 |str=>have:=rb (show nQ [v] Ty.str.zero=true from h);simpa[cw,Ty.zero]using this
 |sl e=>have:=rb (show nQ [v] (Ty.sl e).zero=true from h);simpa[cw,Ty.zero]using this
def adV:TypeDesc→Bool
 | .struct _| .array _ _=>true
 |_=>false
def uq (P:Program) (t:TypeId) (τ:Ty):Bool:=
 match P.info? t,P.underlying t with
 |some inf,some d=>inf.size==τ.sz&&(match inf.zero with|some v=>YT τ v|none=>false)&&decide (inf.bytes≤32768)&&adV d==τ.bW
 |_,_=>false
theorem uS {P:Program} {t:TypeId} {τ:Ty} (h:uq P t τ=true):gA P t τ:=by
 unfold uq at h
 split at h
 ·rename_i inf d h1 h2
  simp only[aiQ,beq_iff_eq,decide_eq_true_eq]at h
  obtain⟨⟨⟨h3,h4⟩,h5⟩,h6⟩:=h
  refine⟨inf,d,h1,h3,?_,h5,h2,?_⟩
  ·split at h4
   ·rename_i v hv
    rw[hv,abk h4]
   ·cases h4
  ·rw[←h6]
   cases d<;>rfl
 ·cases h
def US (P:Program) (τ:Ty) (fs:List TypeId) (j:Nat) (f:Field):Bool:=
 f.offset==τ.off (cQ fs.length j)&&fs[j]?==some f.type&&(match τ.sub (cQ fs.length j)with|some σ=>uq P f.type σ|none=>false)
theorem ZR {P:Program} {τ:Ty} {fs:List TypeId} {j:Nat} {f:Field} (h:US P τ fs j f=true):Gk P τ fs j f:=by
 simp only[US,aiQ,beq_iff_eq]at h
 obtain⟨⟨h1,h2⟩,h3⟩:=h
 refine⟨h1,h2,?_⟩
 split at h3
 ·rename_i σ hs
  exact⟨σ,hs,uS h3⟩
 ·cases h3
def On (P:Program) (chk:Ty→TypeId→Bool):Ty→List Field→Nat→Bool
 |τ,[f],off=>f.offset==off&&f.name != "_" &&uq P f.type τ&&chk τ f.type
 | .pair a b,f::g::l,off=>f.offset==off&&f.name != "_" &&uq P f.type a&&chk a f.type&&On P chk b (g::l) (off+a.sz)
 |_,_,_=>false
def Xw (P:Program):Nat→Ty→TypeId→Bool
 |0,_,_=>false
 |n+1,τ,t=>
  match P.underlying t with
  |some (.int k)=>τ== .int k
  |some .bool=>τ== .bool
  |some .string=>τ== .str
  |some (.struct fs)=>τ.bW&& !P.stoodInHeld t&&On P (Xw P n) τ fs.toList 0
  |_=>false
section
variable {P:Program}
theorem xF {w:World} {t:TypeId} {τ:Ty} (h:gA P t τ) {cs:Array Value} {off:Nat} (ho:off+τ.sz≤cs.size):
 (part t cs off).run P w= .ok (cw τ ((cs.toList.drop off).take τ.sz)) w:=by
 unfold part
 rw[Sem.run_bind,uP h,Result.andThen_ok]
 cases hp:τ.bW with
 |true=>
  cases τ with
  |pair a b=>
   simp[du h,cw,ajY,List.extract]
   apply akg
   simp[ajY,List.extract]
  |_=>simp[Ty.bW]at hp
 |false=>
  have hsz:τ.sz=1:=by cases τ<;>first|rfl|simp[Ty.bW]at hp
  rw[hsz]at ho
  have hg:cs[off]?=some cs[off]:=aja (by omega)
  simp only[ai0,if_false,hg,Sem.run_pure]
  have:(cs.toList.drop off).take τ.sz=[cs[off]]:=by
   rw[hsz,List.take_one,ajq]
   simp[hg]
  rw[this]
  cases τ<;>first|rfl|simp[Ty.bW]at hp
theorem aaG (a b:ByteArray):(a==b)=(a.toList==b.toList):=by
 rw[ajL]
 simp only[beq_iff_eq,ByteArray.toList_eq]
 constructor
 ·intro h
  have:(a.data==b.data)=true:=h
  simp only[beq_iff_eq]at this
  rw[this]
 ·intro h
  have h':a.data=b.data:=by
   have:=congrArg List.toArray h
   simpa using this
  show(a.data==b.data)=true
  simp[h']
theorem RE {w:World} {chk:Ty→TypeId→Bool} {d:Nat}
 (hchk:∀ {τ:Ty} {t:TypeId} {a b:τ.den} {c1 c2:List Value},chk τ t=true→aQ w τ a c1 []→aQ w τ b c2 []→(Op.equalIn d t (cw τ c1) (cw τ c2)).run P w= .ok (eqv τ a b) w) {xs ys:Array Value}:
 ∀ {fs:List Field} {τ:Ty} {off:Nat} {a b:τ.den},On P chk τ fs off=true→aQ w τ a (xs.toList.drop off) []→aQ w τ b (ys.toList.drop off) []→
 ∃r,(Sem.run P (forIn fs ((none,()):Option Bool×Unit) fun f __s=>if f.name= "_" then pure (ForInStep.yield (none,()))else do
  let __do_lift←part f.type xs f.offset
  let __do_lift_1←part f.type ys f.offset
  let __do_lift←Op.equalIn d f.type __do_lift __do_lift_1
  if __do_lift=false then pure (ForInStep.done (some false,()))else pure (ForInStep.yield (none,()))) w)= .ok r w∧r=(if eqv τ a b=true then none else some false,())
 | [],τ,_,_,_,h,_,_=>by cases τ<;>simp[On]at h
 | [f],τ,off,a,b,h,ha,hb=>by
   have h:(f.offset==off&&f.name != "_" &&uq P f.type τ&&chk τ f.type)=true:=by cases τ<;>exact h
   simp only[aiQ,beq_iff_eq,bne_iff_ne,ne_eq]at h
   obtain⟨⟨⟨h1,h2⟩,h3⟩,h4⟩:=h
   have hf:=uS h3
   have l1:=ha.len
   have l2:=hb.len
   simp only[ajJ,ajn]at l1 l2
   have hpos:=τ.om
   have e1:(xs.toList.drop off).take τ.sz=xs.toList.drop off:=ajv (by simp;omega)
   have e2:(ys.toList.drop off).take τ.sz=ys.toList.drop off:=ajv (by simp;omega)
   simp only[akh,h2,if_false,h1,Sem.run_bind,xF hf (show off+τ.sz≤xs.size by omega),xF hf (show off+τ.sz≤ys.size by omega),Result.andThen_ok,e1,e2,hchk h4 ha hb]
   cases eqv τ a b<;>simp
 |f::g::l,τ,off,a,b,h,ha,hb=>by
  cases τ with
  |pair τ1 τ2=>
   simp only[On,aiQ,beq_iff_eq,bne_iff_ne,ne_eq]at h
   obtain⟨⟨⟨⟨h1,h2⟩,h3⟩,h4⟩,h5⟩:=h
   have hf:=uS h3
   obtain⟨c1,c2,B1,B2,q1,q2,r1,r2⟩:=ha
   obtain⟨d1,d2,D1,D2,p1,p2,s1,s2⟩:=hb
   obtain⟨rfl,rfl⟩:=ajR.1 q2.symm
   obtain⟨rfl,rfl⟩:=ajR.1 p2.symm
   have l1:=r1.len
   have l2:=s1.len
   have t1:(xs.toList.drop off).take τ1.sz=c1:=by rw[q1,←l1,akk]
   have t2:(ys.toList.drop off).take τ1.sz=d1:=by rw[p1,←l2,akk]
   have u1:xs.toList.drop (off+τ1.sz)=c2:=by rw[←ajj,q1,←l1,akl]
   have u2:ys.toList.drop (off+τ1.sz)=d2:=by rw[←ajj,p1,←l2,akl]
   have z1:off+τ1.sz≤xs.size:=by
    have:=congrArg aiR q1
    simp only[ajJ,ajn,ajd,l1]at this
    have:=τ1.om;omega
   have z2:off+τ1.sz≤ys.size:=by
    have:=congrArg aiR p1
    simp only[ajJ,ajn,ajd,l2]at this
    have:=τ1.om;omega
   obtain⟨r,k1,k2⟩:=RE hchk (xs:=xs) (ys:=ys) h5 (by rw[u1];exact r2) (by rw[u2];exact s2)
   rw[akh]
   simp only[h2,if_false,h1,Sem.run_bind,xF hf z1,xF hf z2,Result.andThen_ok,t1,t2,hchk h4 r1 s1,eqv]
   rcases Bool.eq_false_or_eq_true (eqv τ1 a.1 b.1)with he|he
   ·simp only[he,Bool.true_eq_false,if_false,Sem.run_pure,Result.andThen_ok,ajZ]
    exact⟨r,k1,k2⟩
   ·simp[he]
  |_=>simp[On]at h
theorem aee {w:World}:∀(n d:Nat) {τ:Ty} {t:TypeId} {a b:τ.den} {c1 c2:List Value},n≤d→Xw P n τ t=true→aQ w τ a c1 []→aQ w τ b c2 []→(Op.equalIn d t (cw τ c1) (cw τ c2)).run P w= .ok (eqv τ a b) w:=by
 intro n
 induction n with
 |zero=>intro d τ t a b c1 c2 _ h;simp[Xw]at h
 |succ n ih=>
  intro d τ t a b c1 c2 hd h ha hb
  obtain⟨d,rfl⟩:∃e,d=e+1:=⟨d-1,by omega⟩
  simp only[Xw]at h
  split at h
  ·rename_i k hu
   simp only[beq_iff_eq]at h
   subst h
   obtain⟨rfl,_⟩:=ha
   obtain⟨rfl,_⟩:=hb
   simp[Op.equalIn,run_underlying hu,cw,eqv]
  ·rename_i hu
   simp only[beq_iff_eq]at h
   subst h
   obtain⟨rfl,_⟩:=ha
   obtain⟨rfl,_⟩:=hb
   simp[Op.equalIn,run_underlying hu,cw,eqv]
  ·rename_i hu
   simp only[beq_iff_eq]at h
   subst h
   obtain⟨rfl,_⟩:=ha
   obtain⟨rfl,_⟩:=hb
   simp[Op.equalIn,run_underlying hu,cw,eqv,aaG]
  ·rename_i fs hu
   simp only[aiQ,aji]at h
   obtain⟨⟨hp,hs⟩,hf⟩:=h
   cases τ with
   |pair τ1 τ2=>
    simp only[cw]
    obtain⟨r,k1,k2⟩:=RE (P:=P) (w:=w) (d:=d) (xs:=c1.toArray) (ys:=c2.toArray) (fun h ha hb=>ih d (by omega) h ha hb) hf (by simpa using ha) (by simpa using hb)
    simp[Op.equalIn,run_underlying hu,hs]
    rw[←Array.forIn_toList,k1,k2,Result.andThen_ok]
    cases eqv (τ1.pair τ2) a b<;>simp
   |_=>simp[Ty.bW]at hp
  ·cases h
theorem acW {t:TypeId} {τ:Ty} {n:Nat} (hn:n≤10000) (hp:τ.bW=true) (h:Xw P n τ t=true) (hg:P.eqGuardType P.depth t=false):abr P t τ:=by
 intro w op x y a b c1 c2 hop ha hb
 have he:=aee n Op.maxDepth hn h ha hb
 cases τ with
 |pair τ1 τ2=>
  simp only[cw]at he⊢
  rcases hop with rfl|rfl
  ·simp[eqGuard,hg,binOp,Op.equal,he]
  ·simp[eqGuard,hg,binOp,Op.equal,he]
 |_=>simp[Ty.bW]at hp
def HJ (P:Program) (t:TypeId) (i:TI):Bool:=
 uq P t i.τ&&(match i.τ,P.underlying t with
  | .int k,some (.int k')=>k==k'
  | .bool,some .bool=>true
  | .str,some .string=>true
  | .sl e,some (.slice el)=>el==i.el&&uq P el e&&(if e== .int .u8 then(match P.underlying el with|some (.int .u8)=>true|_=>false)else true)
  | .pair a b,some (.struct fields)=>fields.size==i.fs.length&&fields.toList.zipIdx.all (fun p=>US P (.pair a b) i.fs p.2 p.1)&&
   (if(Ty.pair a b).flat then Xw P 20 (.pair a b) t&& !P.eqGuardType P.depth t else true)
  |_,_=>false)&&(i.τ.bW||i.fs.isEmpty)
theorem NL {t:TypeId} {i:TI} (h:HJ P t i=true):
 Pg P t i∧(i.τ.bW=true→i.τ.flat=true→abr P t i.τ)∧(i.τ.bW=false→i.fs=[])∧(i.τ= .sl (.int .u8)→P.underlying i.el=some (.int .u8)):=by
 obtain⟨τ,fs,el⟩:=i
 simp only[HJ,aiQ,Bool.or_eq_true]at h
 obtain⟨⟨h1,h2⟩,h3⟩:=h
 have hf:=uS h1
 cases τ with
 |int k=>
  cases hu:P.underlying t with
  |none=>rw[hu]at h2;simp at h2
  |some d=>
   rw[hu]at h2
   cases d<;>simp at h2
   subst h2
   exact⟨⟨hf,hu⟩,by simp[Ty.bW],by simpa[Ty.bW]using h3,by simp⟩
 |bool=>
  cases hu:P.underlying t with
  |none=>rw[hu]at h2;simp at h2
  |some d=>
   rw[hu]at h2
   cases d<;>simp at h2
   exact⟨⟨hf,hu⟩,by simp[Ty.bW],by simpa[Ty.bW]using h3,by simp⟩
 |str=>
  cases hu:P.underlying t with
  |none=>rw[hu]at h2;simp at h2
  |some d=>
   rw[hu]at h2
   cases d<;>simp at h2
   exact⟨⟨hf,hu⟩,by simp[Ty.bW],by simpa[Ty.bW]using h3,by simp⟩
 |sl e=>
  cases hu:P.underlying t with
  |none=>rw[hu]at h2;simp at h2
  |some d=>
   rw[hu]at h2
   cases d<;>simp only[aiQ,beq_iff_eq,ai0]at h2
   obtain⟨⟨rfl,h4⟩,h5⟩:=h2
   refine⟨⟨hf,hu,uS h4⟩,by simp[Ty.bW],by simpa[Ty.bW]using h3,fun he=> ?_⟩
   simp only[Ty.sl.injEq]at he
   subst he
   simp only[if_true]at h5
   split at h5
   ·assumption
   ·cases h5
 |pair a b=>
  cases hu:P.underlying t with
  |none=>rw[hu]at h2;simp at h2
  |some d=>
   rw[hu]at h2
   cases d with
   |struct fields=>
    simp only[aiQ,beq_iff_eq]at h2
    obtain⟨⟨h4,h5⟩,h6⟩:=h2
    refine⟨⟨hf,fields,hu,h4,fun j f hj=> ?_⟩,fun _ hfl=> ?_,by simp[Ty.bW],by simp⟩
    ·rw[ajx]at h5
     exact ZR (h5 (f,j) (List.mem_zipIdx_iff_getElem?.2 (by simpa using hj)))
    ·rw[if_pos hfl]at h6
     simp only[aiQ,aji]at h6
     exact acW (by omega) rfl h6.1 h6.2
   |_=>simp at h2
theorem zz {α:Type}:∀ {l:List (Nat×α)} {a:Nat} {b:α},l.lookup a=some b→(a,b)∈l
 | [],_,_,h=>by simp[ajD]at h
 |(x,y)::l,a,b,h=>by
  simp only[ajD]at h
  split at h
  ·rename_i e
   simp only[beq_iff_eq]at e
   simp only[aiS]at h
   subst e h;simp
  ·exact ajA _ (zz h)
theorem acX {C:Cx} {l:List (Nat×TI)} (hl:l.all (fun p=>HJ P p.1 p.2)=true) (hC:C.tt=fun t=>l.lookup t):CxTy P C:=by
 have:∀t i,C.tt t=some i→HJ P t i=true:=by
  intro t i h
  rw[hC]at h
  exact ajx.1 hl (t,i) (zz h)
 exact⟨fun t i h=>(NL (this t i h)).1,fun t i h=>(NL (this t i h)).2.1,fun t i h=>(NL (this t i h)).2.2.1,fun t i h=>(NL (this t i h)).2.2.2⟩
end
def UD (tt:List (Nat×TI)) (cts:List (FuncId×rk)) (la ja:Nat→Option xw) (k:Nat):Cx:=
 ⟨fun t=>tt.lookup t,fun f=>cts.lookup f,la,ja,k,0,[]⟩
def ae (P:Program):List (FuncId×rk)→Prop
 | []=>True
 |p::l=>oz P p.1 p.2∧ae P l
theorem ae.mem {P:Program}:∀ {l:List (FuncId×rk)},ae P l→∀p∈l,oz P p.1 p.2
 | [],_,_,h=>by cases h
 |q::l,⟨h1,h2⟩,p,h=>by
  rcases ai7.1 h with rfl|h
  ·exact h1
  ·exact ae.mem h2 p h
theorem acw {P:Program} {tt:List (Nat×TI)} (h1:tt.all (fun p=>HJ P p.1 p.2)=true) (hm:P.follows .mixedOrders=true) {cts:List (FuncId×rk)} (hc:ae P cts) {la ja:Nat→Option xw} {k:Nat}:
 n0 P (UD tt cts la ja k):=
 ⟨acX h1 rfl,fun f con h=>hc.mem (f,con) (zz h),hm⟩
theorem abZ {P:Program} {tt:List (Nat×TI)} (h1:tt.all (fun p=>HJ P p.1 p.2)=true) (hm:P.follows .mixedOrders=true) {cts:List (FuncId×rk)} (hc:ae P cts) {la ja:Nat→Option xw} {k:Nat}
 {f:FuncId} {fn:Func} (hf:P.funcs[f]?=some fn) (hname:(fn.name== "runtime.NumGoroutine")=false) {ps:List PK} {rs:List RK} {kp:List (Nat×List Bool)} (hn:decide (ps.length≤fn.ntmps)=true)
 {F:aZ (ps.map PK.ty)→Option (aZ (rs.map RK.ty++bn ps))} (hF:∀x,TS (UD tt cts la ja k) ps rs kp fn x=F x):oz P f ⟨ps,rs,F,kp⟩:=
 aeh (acw h1 hm hc) hf hname (of_decide_eq_true hn) (fun x _ h=>(abF ..).symm.trans ((hF x).trans h))
def fnB (fn:Func) (n:Nat):Bool:=match fn.name== "runtime.NumGoroutine" with|true=>false|false=>decide (n≤fn.ntmps)
theorem C8 {fn:Func} {n:Nat} (h:fnB fn n=true):(fn.name== "runtime.NumGoroutine")=false∧decide (n≤fn.ntmps)=true:=by
 unfold fnB at h
 split at h
 ·cases h
 ·rename_i hn;exact⟨hn,h⟩
theorem ae.ev {P:Program} {tt:List (Nat×TI)} (h1:tt.all (fun p=>HJ P p.1 p.2)=true) (hm:P.follows .mixedOrders=true) {cts:List (FuncId×rk)} (hc:ae P cts) (la ja:Nat→Option xw) (k:Nat)
 {f:FuncId} {fn:Func} (hf:P.funcs[f]?=some fn) {ps:List PK} (hb:fnB fn ps.length=true) {rs:List RK} {kp:List (Nat×List Bool)}
 {F:aZ (ps.map PK.ty)→Option (aZ (rs.map RK.ty++bn ps))} (hF:∀x,TS (UD tt cts la ja k) ps rs kp fn x=F x):ae P ((f,⟨ps,rs,F,kp⟩)::cts):=
 ⟨abZ h1 hm hc hf (C8 hb).1 (C8 hb).2 hF,hc⟩
def cG {α β:Type} (x:α) (f:α→β):β:=f x
def abg:Ty→Pt
 | .sl _=> .own
 | .pair a b=> .pair (abg a) (abg b)
 |_=> .leaf
def ac4 (τ:Ty) (rv:List ResultVar) (E:Env):Option (Int×τ.den):=
 match rv with
 | [.tmp s]=>(match E.get s,E.get 0 with
   | .d ⟨.int .i64,k,_⟩,.d v=>(match eU v τ,nf v.sh with
     |some y,some _=>some (k,y)
     |_,_=>none)
   |_,_=>none)
 |_=>none
def aeY (C:Cx) (M:tF) (τ:Ty) (fn:Func) (x:τ.den) (n:Int):Option (Int×τ.den):=
 match fn.body with
 |none=>none
 |some c=>
  let e:=bK [.val τ (abg τ),.val (.int .i64) .leaf] (x,n,()) 4
  mF {C with n:=fn.ntmps,io:=[0]} M c ⟨e.1++ajC (fn.ntmps-e.1.length) .no,e.2,true⟩ (ac4 τ fn.results.toList) [] (ac4 τ fn.results.toList)
def TR (C:Cx) (M:tF) (ps:List PK) (rs:List RK) (kp:List (Nat×List Bool)) (fn:Func) (x:aZ (ps.map PK.ty)):Option (aZ (rs.map RK.ty++bn ps)):=
 match fn.body with
 |none=>none
 |some c=>
  let e:=bK ps x 4
  mF {C with n:=fn.ntmps,io:=gH ps 0} M c ⟨e.1++ajC (fn.ntmps-e.1.length) .no,e.2,true⟩ (fin C.tt ps rs kp fn.results.toList e.2) [] (fin C.tt ps rs kp fn.results.toList e.2)
section
variable {P:Program} {C:Cx} {M:tF} {w0:World} {c0:C0} {U:Nat→Prop} {E:Env} {a:Act} {w:World} {G:Gh} {ops:List Oper} {L:Nat→Prop} {Q:Exit→Act→World→Prop} {ρ:Type}
theorem ZA (args:List Value) (n i:Nat) (hi:i<args.length):(args.toArray++Array.replicate (n-args.toArray.size) undef).getD i undef=args.getD i undef:=by
 rw[ajE,aiW,ai8 (by simpa using hi)]
 simp
theorem adz (hC:n0 P C) (hM:NR P M) {f:FuncId} {fn:Func} {con:rk} (hf:P.funcs[f]?=some fn) (hname:(fn.name== "runtime.NumGoroutine")=false) (hn:con.ps.length≤fn.ntmps)
 (hF:∀x y,con.F x=some y→TR C M con.ps con.rs con.kp fn x=some y):oz P f con:=by
 intro w G0 args x y hy hlot
 have hev:=hF x y hy
 unfold TR at hev
 split at hev
 ·cases hev
 ·rename_i c hb
  have hrun:(callFunc f args.toArray).run P w= .ok (.enter f args.toArray) w:=by
   have hne:fn.name≠ "runtime.NumGoroutine" :=by simpa using hname
   unfold callFunc
   simp[hf,hne,hb]
  unfold sL
  rw[hrun]
  simp only
  refine calls_of_wp hf hb ?_
  have hal:args.length=con.ps.length:=by rw[hlot.len,mc]
  have hE:=UM hlot fn.ntmps
  have h30:=fp con.ps 4
  have hkey:Ru {C with n:=fn.ntmps,io:=gH con.ps 0} w (G0.R2 (bI con.ps 4)) (fun i=>args.getD i undef) y (fin C.tt con.ps con.rs con.kp fn.results.toList (bK con.ps x 4).2) (fun a' w'=>
   a'.defers=[]∧∃v,(results fn a'.tmps).run P w'= .ok v w'∧∃v',Ending.returned v=Ending.returned v'∧∃G' vs nt,xc con w G0 args y v' w' G' vs nt):=by
   intro E' a' w' G' g1 g2 g3 g4 gT g5
   rw[lu]at g5
   obtain⟨mv,G2,vs,nt,k1,k2⟩:=aad hC.toCxTy (args:=args) hlot g1 g5 gT
   exact⟨g1.defers,mv,k1,mv,rfl,G2,vs,nt,k2⟩
  have hC2:n0 P {C with n:=fn.ntmps,io:=gH con.ps 0}:=⟨⟨hC.tt,hC.eq,hC.fs,hC.u8⟩,hC.ct,hC.mixed⟩
  refine ado (T:=fun i=>args.getD i undef) hC2 hM c (w0:=w) (c0:=G0.R2 (bI con.ps 4)) (G:=G0) (r:=y) (by rw[lu];simpa[lu]using hE) (fun s j w1 act v h=> ?_) ?_ ?_ (fun i hi=> ?_) hev hkey (fun id k hk=>by simp[ajD]at hk) hkey
  ·rw[ky]at h;exact Vu _ _ _ _ _ h
  ·simp only[ajd,List.length_replicate,mc];omega
  ·rw[lu];exact h30
  ·have:=Cp i hi
   exact ZA args fn.ntmps i (by omega)
def qt (P:Program):List (FuncId×ma)→Prop
 | []=>True
 |p::l=>Gb P p.1 p.2∧qt P l
theorem HE {f:FuncId} {m:ma}:∀ {l:List (FuncId×ma)},l.lookup f=some m→(f,m)∈l
 | [],h=>by simp[ajD]at h
 |(x,y)::l,h=>by
  simp only[ajD]at h
  split at h
  ·rename_i e
   simp only[beq_iff_eq]at e
   simp only[aiS]at h
   subst e h;simp
  ·exact ajA _ (HE h)
theorem qt.mem:∀ {l:List (FuncId×ma)},qt P l→∀p∈l,Gb P p.1 p.2
 | [],_,_,h=>by cases h
 |q::l,⟨h1,h2⟩,p,h=>by
  rcases ai7.1 h with rfl|h
  ·exact h1
  ·exact qt.mem h2 p h
theorem qt.tab {l:List (FuncId×ma)} (h:qt P l):NR P (fun f=>l.lookup f):=fun f m hm=>h.mem (f,m) (HE hm)
theorem ZH {tt:List (Nat×TI)} (h1:tt.all (fun p=>HJ P p.1 p.2)=true) (hm:P.follows .mixedOrders=true) {cts:List (FuncId×rk)} (hc:ae P cts) {mts:List (FuncId×ma)} (hmc:qt P mts) {la ja:Nat→Option xw} {k:Nat}
 {f:FuncId} {fn:Func} (hf:P.funcs[f]?=some fn) (hname:(fn.name== "runtime.NumGoroutine")=false) {ps:List PK} {rs:List RK} {kp:List (Nat×List Bool)} (hn:decide (ps.length≤fn.ntmps)=true)
 {F:aZ (ps.map PK.ty)→Option (aZ (rs.map RK.ty++bn ps))} (hF:∀x,TR (UD tt cts la ja k) (fun f=>mts.lookup f) ps rs kp fn x=F x):oz P f ⟨ps,rs,F,kp⟩:=
 adz (acw h1 hm hc) hmc.tab hf hname (of_decide_eq_true hn) (fun x _ h=>(hF x).trans h)
theorem ae.mF {tt:List (Nat×TI)} (h1:tt.all (fun p=>HJ P p.1 p.2)=true) (hm:P.follows .mixedOrders=true) {cts:List (FuncId×rk)} (hc:ae P cts) {mts:List (FuncId×ma)} (hmc:qt P mts) (la ja:Nat→Option xw) (k:Nat)
 {f:FuncId} {fn:Func} (hf:P.funcs[f]?=some fn) {ps:List PK} (hb:fnB fn ps.length=true) {rs:List RK} {kp:List (Nat×List Bool)}
 {F:aZ (ps.map PK.ty)→Option (aZ (rs.map RK.ty++bn ps))} (hF:∀x,TR (UD tt cts la ja k) (fun f=>mts.lookup f) ps rs kp fn x=F x):ae P ((f,⟨ps,rs,F,kp⟩)::cts):=
 ⟨ZH h1 hm hc hmc hf (C8 hb).1 (C8 hb).2 hF,hc⟩
end
theorem wrap64 {n:Int} (h: -9223372036854775808≤n) (h':n<9223372036854775808):IntKind.i64.wrap n=n:=by
 simp only[IntKind.wrap,IntKind.signed,IntKind.bits]
 simp
 omega
theorem iA {σ ρ:Type} {f:(σ→Option ρ)→σ→Option ρ} (g:σ→Option ρ) (m:σ→Nat) (I:σ→Prop)
 (h:∀G s,I s→(∀s',I s'→m s'<m s→G s'=g s')→f G s=g s):∀(k:Nat) (s:σ),I s→m s<k→aH k f s=g s
 |0,_,_,hm=>by omega
 |k+1,s,hi,hm=>by
  show f (aH k f) s=g s
  exact h _ s hi (fun s' hi' hm'=>iA g m I h k s' hi' (by omega))
theorem T3 {σ σ' ρ ρ':Type} {f:(σ→Option ρ)→σ→Option ρ} {f':(σ'→Option ρ')→σ'→Option ρ'} (R:σ→σ'→Prop) (S:Option ρ→Option ρ'→Prop) (h0:S none none)
 (h:∀G G' s s',R s s'→(∀t t',R t t'→S (G t) (G' t'))→S (f G s) (f' G' s')):∀(k:Nat) (s:σ) (s':σ'),R s s'→S (aH k f s) (aH k f' s')
 |0,_,_,_=>h0
 |k+1,s,s',hr=>h _ _ s s' hr (fun t t' ht=>T3 R S h0 h k t t' ht)
theorem RQ {σ ρ:Type} {f:(σ→Option ρ)→σ→Option ρ} (m:σ→Nat) (I:σ→Prop) (P:ρ→Prop)
 (h:∀G s,I s→(∀s',I s'→m s'<m s→∃r,G s'=some r∧P r)→∃r,f G s=some r∧P r):∀(k:Nat) (s:σ),I s→m s<k→∃r,aH k f s=some r∧P r
 |0,_,_,hm=>by omega
 |k+1,s,hi,hm=>h _ s hi (fun s' hi' hm'=>RQ m I P h k s' hi' (by omega))
def ag:(τ:Ty)→τ.den→Nat
 | .int _,_=>0
 | .bool,_=>0
 | .str,s=>s.size
 | .sl e,l=>l.length+(l.map (ag e)).sum
 | .pair a b,p=>ag a p.1+ag b p.2
def bY (t:Nat) (left:Int):Int:=if(t:Int)≤left then left-t else-1
theorem Ap {t:Nat} {left:Int}:bY t left<0↔¬(t:Int)≤left:=by
 unfold bY
 split<;>omega
theorem fh {t:Nat} {left:Int} (h:0≤left):bY t left≤left:=by
 unfold bY
 split<;>omega
theorem dH {a b:Nat} {left:Int} (h:¬bY a left<0):bY b (bY a left)=bY (a+b) left:=by
 rw[Ap]at h
 have h1:(a:Int)≤left:=by omega
 simp only[bY,if_pos h1]
 split<;>split<;>omega
theorem aa6 {a b:Nat} {left:Int} (h:bY a left<0):bY (a+b) left= -1:=by
 rw[Ap]at h
 unfold bY
 rw[if_neg (by omega)]
theorem cZ {t:Nat} {left:Int} (h:¬bY t left<0):0≤bY t left∧(t:Int)≤left:=by
 rw[Ap]at h
 have h1:(t:Int)≤left:=by omega
 simp only[bY,if_pos h1]
 omega
theorem Gq {s:ByteArray} {left:Int} (hs:s.size≤maxLen) (h0:0≤left) (h1:left≤1048576):decide (IntKind.i64.wrap (left-(s.size:Int))<0)=decide (bY s.size left<0):=by
 unfold maxLen at hs
 rw[wrap64 (by omega) (by omega)]
 unfold bY
 by_cases h:left-(s.size:Int)<0
 ·rw[if_neg (by omega)];simpa using h
 ·rw[if_pos (by omega)]
theorem Cl {s:ByteArray} {left:Int} (hs:s.size≤maxLen) (h0:0≤left) (h1:left≤1048576) (h:¬bY s.size left<0):IntKind.i64.wrap (left-(s.size:Int))=bY s.size left:=by
 unfold maxLen at hs
 rw[wrap64 (by omega) (by omega)]
 rw[Ap]at h
 unfold bY
 rw[if_pos (by omega)]
def szS {α:Type} (k:Nat) (d:α) (S:α×Int×Unit→Option (Int×Unit)) (x:List α×Int×Unit):Option (Int×Unit):=
 if(decide (((IntKind.i64.wrap (x.2.1-((aiR x.1:Nat):Int))):Int)<0))=true then
  some ((-1),())
 else
  aH k (fun G1 (t2:List α×Int×Int×Unit)=>
   if(decide ((t2.2.2.1:Int)<((aiR t2.1:Nat):Int)))=true then
    if(decide (0≤t2.2.2.1∧t2.2.2.1<((aiR t2.1:Nat):Int)))=true then
     ajw (S (ajr t2.1 (aje t2.2.2.1) d,t2.2.1,())) fun(r3:Int×Unit)=>
     if(decide ((r3.1:Int)<0))=true then
      some ((-1),())
     else
      G1 (t2.1,r3.1,IntKind.i64.wrap (t2.2.2.1+1),())
    else
     none
   else
    some (t2.2.1,())) (x.1,IntKind.i64.wrap (x.2.1-((aiR x.1:Nat):Int)),0,())
theorem cj {α:Type} {l:List α} {i:Nat} {d:α} (h:i<l.length):l.getD i d∈l:=by
 rw[aiW,aiZ h];simp
theorem eu {α:Type} {l:List α} {i:Nat} {d:α} (h:i<l.length):l.drop i=l.getD i d::l.drop (i+1):=by
 rw[ajI h,aiW,aiZ h];rfl
theorem Xj {α:Type} {k:Nat} {d:α} {S:α×Int×Unit→Option (Int×Unit)} {t:α→Nat} {l:List α} {left:Int} (hk:9223372036854775808≤k) (hl:l.length≤maxLen) (h0:0≤left) (h1:left≤1048576)
 (hS:∀e∈l,∀left,0≤left→left≤1048576→∃r,S (e,left,())=some (r,())∧(r<0↔bY (t e) left<0)∧(¬bY (t e) left<0→r=bY (t e) left)):szS k d S (l,left,())=some (bY (l.length+(l.map t).sum) left,()):=by
 have hlen:(l.length:Int)<9223372036854775808:=by
  unfold maxLen at hl;omega
 unfold szS
 simp only
 rw[wrap64 (by omega) (by omega)]
 by_cases hneg:left-(l.length:Int)<0
 ·rw[if_pos (by simpa using hneg)]
  unfold bY
  rw[if_neg (by omega)]
 ·rw[if_neg (by simpa using hneg)]
  rw[iA (g:=fun(s:List α×Int×Int×Unit)=>some (bY (((s.1.drop s.2.2.1.toNat).map t).sum) s.2.1,())) (m:=fun(s:List α×Int×Int×Unit)=>s.1.length-s.2.2.1.toNat)
   (I:=fun(s:List α×Int×Int×Unit)=>s.1=l∧0≤s.2.2.1∧s.2.2.1≤(l.length:Int)∧0≤s.2.1∧s.2.1≤1048576)]
  ·simp only[Int.toNat_zero,List.drop_zero]
   unfold bY
   congr 2
   split<;>split<;>omega
  ·rintro G ⟨l',lf,i,u⟩ ⟨he,hi0,hi1,hl0,hl1⟩ hG
   change l'=l at he
   subst he
   simp only at hi0 hi1 hl0 hl1 hG⊢
   by_cases hi:i<(l'.length:Int)
   ·rw[if_pos (by simpa using hi),if_pos (by simpa using⟨hi0,hi⟩)]
    have hin:i.toNat<l'.length:=by omega
    obtain⟨r,hr,hr1,hr2⟩:=hS _ (cj (d:=d) hin) lf hl0 hl1
    rw[hr,ai6,eu (d:=d) hin]
    simp only[ai4,ajm]
    by_cases hn:bY (t (l'.getD i.toNat d)) lf<0
    ·rw[if_pos (by simpa using hr1.2 hn),aa6 hn]
    ·rw[if_neg (by simpa using fun h=>hn (hr1.1 h)),←dH hn,hr2 hn]
     have hs:=cZ hn
     have hle:=fh (t:=t (l'.getD i.toNat d)) hl0
     rw[wrap64 (by omega) (by omega)]
     rw[hG (l',bY (t (l'.getD i.toNat d)) lf,i+1,()) ⟨rfl,by simp only;omega,by simp only;omega,by simp only;omega,by simp only;omega⟩ (by simp only;omega)]
     simp only
     rw[show(i+1).toNat=i.toNat+1 by omega]
   ·rw[if_neg (by simpa using hi)]
    rw[ai2 (by omega)]
    simp[bY,hl0]
  ·exact⟨rfl,by simp,by simp,by simp only;omega,by simp only;omega⟩
  ·simp only
   omega
theorem rY {α:Type} {k:Nat} {d:α} {S:α×Int×Unit→Option (Int×Unit)} {t:α→Nat} {l:List α} {left:Int} (hk:9223372036854775808≤k) (hl:l.length≤maxLen) (h0:0≤left) (h1:left≤1048576)
 (hS:∀e∈l,∀left,0≤left→left≤1048576→S (e,left,())=some (bY (t e) left,())):szS k d S (l,left,())=some (bY (l.length+(l.map t).sum) left,()):=
 Xj hk hl h0 h1 (fun e he left a b=>⟨_,hS e he left a b,Iff.rfl,fun _=>rfl⟩)
theorem adT {k:Nat} {l:List ByteArray} {left:Int} (hk:9223372036854775808≤k) (hx:Fits (.sl .str) l) (h0:0≤left) (h1:left≤1048576):
 szS k ByteArray.empty (fun z=>some (IntKind.i64.wrap (z.2.1-((ByteArray.size z.1:Nat):Int)),())) (l,left,())=some (bY (ag (.sl .str) l) left,()):=
 Xj (t:=ByteArray.size) hk hx.1 h0 h1 (fun e he lf a b=>⟨_,rfl,by have:=Gq (hx.2 e he) a b;simpa using this,fun h=>Cl (hx.2 e he) a b h⟩)
def szZ {α:Type} (x:List α×Int×Unit):Option (Int×Unit):=
 if(decide (((IntKind.i64.wrap (x.2.1-((aiR x.1:Nat):Int))):Int)<0))=true then
  some ((-1),())
 else
  some (IntKind.i64.wrap (x.2.1-((aiR x.1:Nat):Int)),())
def Ty.Gr:Ty→Bool
 | .int _| .bool=>true
 | .pair a b=>a.Gr&&b.Gr
 |_=>false
theorem Iw:∀ {τ:Ty} (x:τ.den),τ.Gr=true→ag τ x=0
 | .int _,_,_| .bool,_,_=>rfl
 | .pair a b,x,h=>by
   simp only[Ty.Gr,aiQ]at h
   simp only[ag,Iw x.1 h.1,Iw x.2 h.2]
 | .str,_,h| .sl _,_,h=>by simp[Ty.Gr]at h
theorem ZJ {e:Ty} {k:Nat} {F:Nat→List e.den×Int×Unit→Option (Int×Unit)} (hF:∀x,F k x=szZ x) (hz:e.Gr=true) {l:List e.den} {left:Int} (hx:Fits (.sl e) l) (h0:0≤left) (h1:left≤1048576):
 F k (l,left,())=some (bY (ag (.sl e) l) left,()):=by
 have hl:l.length≤maxLen:=hx.1
 unfold maxLen at hl
 have ht:ag (.sl e) l=l.length:=by
  have:∀m:List e.den,(m.map (ag e)).sum=0:=by
   intro m
   induction m with
   |nil=>rfl
   |cons a m ih=>simp only[ai4,ajm,ih,Iw a hz]
  simp only[ag,this];omega
 rw[hF,ht]
 simp only[szZ]
 rw[wrap64 (by omega) (by omega)]
 unfold bY
 by_cases h:left-(l.length:Int)<0
 ·rw[if_pos (by simpa using h),if_neg (by omega)]
 ·rw[if_neg (by simpa using h),if_pos (by omega)]
theorem cI {a t:Nat} {left:Int} (h:bY a left<0) (hle:a≤t):bY t left= -1:=by
 rw[Ap]at h
 unfold bY
 rw[if_neg (by omega)]
def toS {α:Type} (k:Nat) (d:α) (S:α×Unit→Option (α×Unit)) (x:List α×Unit):Option (List α×Unit):=
 if(decide (0≤((aiR x.1:Nat):Int)∧((aiR x.1:Nat):Int)<4294967296∧((aiR x.1:Nat):Int)=((aiR x.1:Nat):Int)))=true then
  aH k (fun G1 (t2:List α×List α×Int×Unit)=>
   if(decide ((t2.2.2.1:Int)<((aiR t2.1:Nat):Int)))=true then
    if(decide (0≤t2.2.2.1∧t2.2.2.1<((aiR t2.1:Nat):Int)))=true then
     ajw (S (ajr t2.1 (aje t2.2.2.1) d,())) fun(r3:α×Unit)=>
     if(decide (0≤t2.2.2.1∧t2.2.2.1<((aiR t2.2.1:Nat):Int)))=true then
      G1 (t2.1,List.set t2.2.1 (aje t2.2.2.1) r3.1,IntKind.i64.wrap (t2.2.2.1+1),())
     else
      none
    else
     none
   else
    some (t2.2.1,())) (x.1,ajC (aje ((aiR x.1:Nat):Int)) d,0,())
 else
  none
theorem nZ {α:Type} {k:Nat} {d:α} {S:α×Unit→Option (α×Unit)} {l:List α} (hk:9223372036854775808≤k) (hl:l.length≤1048576) (hS:∀e∈l,S (e,())=some (e,())):toS k d S (l,())=some (l,()):=by
 unfold toS
 simp only
 rw[if_pos (by simp;omega)]
 rw[iA (g:=fun(s:List α×List α×Int×Unit)=>some (l,())) (m:=fun(s:List α×List α×Int×Unit)=>l.length-s.2.2.1.toNat)
  (I:=fun(s:List α×List α×Int×Unit)=>s.1=l∧0≤s.2.2.1∧s.2.2.1≤(l.length:Int)∧s.2.1=l.take s.2.2.1.toNat++ajC (l.length-s.2.2.1.toNat) d)]
 ·rintro G ⟨l',o,i,u⟩ ⟨he,hi0,hi1,ho⟩ hG
  change l'=l at he
  subst he
  simp only at hi0 hi1 ho hG⊢
  subst ho
  by_cases hi:i<(l'.length:Int)
  ·have hin:i.toNat<l'.length:=by omega
   rw[if_pos (by simpa using hi),if_pos (by simpa using⟨hi0,hi⟩),hS _ (cj hin),ai6]
   rw[if_pos (by simp;omega),wrap64 (by omega) (by omega)]
   refine hG (l',_,i+1,()) ⟨rfl,by simp only;omega,by simp only;omega,?_⟩ (by simp only;omega)
   simp only
   have hlt:(l'.take i.toNat).length=i.toNat:=by simp;omega
   rw[List.set_append_right _ _ (by omega),hlt,Nat.sub_self]
   rw[show l'.length-i.toNat=(l'.length-(i+1).toNat)+1 by omega,List.replicate_succ,aj3]
   have ht:l'.take (i.toNat+1)=l'.take i.toNat++[l'[i.toNat]]:=by
    rw[List.take_add_one,aiZ hin];rfl
   rw[show(i+1).toNat=i.toNat+1 by omega,ht,aiW,aiZ hin,ai1]
   rfl
  ·rw[if_neg (by simpa using hi)]
   have:i.toNat=l'.length:=by omega
   rw[this]
   simp
 ·exact⟨rfl,by simp,by simp,by simp⟩
 ·simp only
  omega
theorem aaJ {α:Type} {k:Nat} {d:α} {l:List α} (hk:9223372036854775808≤k) (hl:l.length≤1048576):toS k d (fun z=>some (z.1,())) (l,())=some (l,()):=
 nZ hk hl (fun _ _=>rfl)
def Xy {α:Type} (k:Nat) (d:α) (S:α×α×Unit→Option (Bool×Unit)) (x:List α×List α×Unit):Option (Bool×Unit):=
 if((((aiR x.1:Nat):Int):Int) != ((aiR x.2.1:Nat):Int))=true then
  some (false,())
 else
  aH k (fun G1 (t2:List α×List α×Int×Unit)=>
   if(decide ((t2.2.2.1:Int)<((aiR t2.1:Nat):Int)))=true then
    if(decide (0≤t2.2.2.1∧t2.2.2.1<((aiR t2.1:Nat):Int)))=true then
     if(decide (0≤t2.2.2.1∧t2.2.2.1<((aiR t2.2.1:Nat):Int)))=true then
      ajw (S (ajr t2.1 (aje t2.2.2.1) d,ajr t2.2.1 (aje t2.2.2.1) d,())) fun(r3:Bool×Unit)=>
      if(!r3.1)=true then
       some (false,())
      else
       G1 (t2.1,t2.2.1,IntKind.i64.wrap (t2.2.2.1+1),())
     else
      none
    else
     none
   else
    some (true,())) (x.1,x.2.1,0,())
theorem mG {α:Type} {k:Nat} {d:α} {S:α×α×Unit→Option (Bool×Unit)} {l:List α} (hk:9223372036854775808≤k) (hl:l.length≤281474976710656) (hS:∀e∈l,S (e,e,())=some (true,())):Xy k d S (l,l,())=some (true,()):=by
 unfold Xy
 simp only
 rw[if_neg (by simp)]
 rw[iA (g:=fun(s:List α×List α×Int×Unit)=>some (true,())) (m:=fun(s:List α×List α×Int×Unit)=>l.length-s.2.2.1.toNat)
  (I:=fun(s:List α×List α×Int×Unit)=>s.1=l∧s.2.1=l∧0≤s.2.2.1∧s.2.2.1≤(l.length:Int))]
 ·rintro G ⟨l',o,i,u⟩ ⟨he,ho,hi0,hi1⟩ hG
  change l'=l at he
  subst he
  simp only at hi0 hi1 ho hG⊢
  subst ho
  by_cases hi:i<(o.length:Int)
  ·have hin:i.toNat<o.length:=by omega
   rw[if_pos (by simpa using hi),if_pos (by simpa using⟨hi0,hi⟩),if_pos (by simpa using⟨hi0,hi⟩),hS _ (cj hin),ai6]
   rw[if_neg (by simp),wrap64 (by omega) (by omega)]
   exact hG (o,o,i+1,()) ⟨rfl,rfl,by simp only;omega,by simp only;omega⟩ (by simp only;omega)
  ·rw[if_neg (by simpa using hi)]
 ·exact⟨rfl,rfl,by simp,by simp⟩
 ·simp only
  omega
theorem ad5 {κ:IntKind} {k:Nat} {l:List (Ty.den (.int κ))} (hk:9223372036854775808≤k) (hl:l.length≤281474976710656):Xy (α:=Int) k 0 (fun z=>some ((z.1:Int)==z.2.1,())) (l,l,())=some (true,()):=
 mG (α:=Int) hk hl (fun e _=>by simp)
theorem adB {k:Nat} {l:List ByteArray} (hk:9223372036854775808≤k) (hl:l.length≤281474976710656):Xy k ByteArray.empty (fun z=>some (ByteArray.toList z.1==ByteArray.toList z.2.1,())) (l,l,())=some (true,()):=
 mG hk hl (fun e _=>by simp)
def allEq {α:Type} (p:α→α→Bool):List α→List α→Bool
 | [],[]=>true
 |a::l,b::m=>p a b&&allEq p l m
 |_,_=>false
theorem E6 {α:Type} {p:α→α→Bool}:∀ {l m:List α},l.length≠m.length→allEq p l m=false
 | [],[],h=>absurd rfl h
 |a::l,b::m,h=>by
  simp only[allEq]
  rw[E6 (l:=l) (m:=m) (fun e=>h (by simp[e]))]
  simp
 | [],_::_,_|_::_,[],_=>rfl
theorem acx {α:Type} {k:Nat} {d:α} {S:α×α×Unit→Option (Bool×Unit)} {p:α→α→Bool} {l m:List α} (hk:9223372036854775808≤k) (hl:l.length≤281474976710656) (hS:∀a∈l,∀b∈m,S (a,b,())=some (p a b,())):
 Xy k d S (l,m,())=some (allEq p l m,()):=by
 unfold Xy
 simp only
 by_cases hlen:l.length=m.length
 ·rw[if_neg (by simp[hlen])]
  rw[iA (g:=fun(s:List α×List α×Int×Unit)=>some (allEq p (l.drop s.2.2.1.toNat) (m.drop s.2.2.1.toNat),())) (m:=fun(s:List α×List α×Int×Unit)=>l.length-s.2.2.1.toNat)
   (I:=fun(s:List α×List α×Int×Unit)=>s.1=l∧s.2.1=m∧0≤s.2.2.1∧s.2.2.1≤(l.length:Int))]
  ·simp
  ·rintro G ⟨l',m',i,u⟩ ⟨e1,e2,hi0,hi1⟩ hG
   change l'=l at e1
   change m'=m at e2
   subst e1 e2
   simp only at hi0 hi1 hG⊢
   by_cases hi:i<(l'.length:Int)
   ·have h1:i.toNat<l'.length:=by omega
    have h2:i.toNat<m'.length:=by omega
    rw[if_pos (by simpa using hi),if_pos (by simpa using⟨hi0,hi⟩),if_pos (by simpa using⟨hi0,by omega⟩)]
    rw[hS _ (cj h1) _ (cj h2),ai6,eu (d:=d) h1,eu (d:=d) h2]
    simp only[allEq]
    cases p (l'.getD i.toNat d) (m'.getD i.toNat d)with
    |true=>
     rw[if_neg (by simp),wrap64 (by omega) (by omega),hG (l',m',i+1,()) ⟨rfl,rfl,by simp only;omega,by simp only;omega⟩ (by simp only;omega)]
     simp only[ajZ]
     rw[show(i+1).toNat=i.toNat+1 by omega]
    |false=>rfl
   ·rw[if_neg (by simpa using hi),ai2 (by omega),ai2 (by omega)]
    rfl
  ·exact⟨rfl,rfl,by simp,by simp⟩
  ·simp only
   omega
 ·rw[if_pos (by simp;omega),E6 hlen]
def eqR {α:Type} (k:Nat) (d:α) (S:α×α×Unit→Option (Bool×Unit)) (x:List α×List α×Unit):Option (Bool×Unit):=
 if((((aiR x.1:Nat):Int):Int) != ((aiR x.2.1:Nat):Int))=true then
  some (false,())
 else
  aH k (fun G1 (t2:List α×List α×Int×Int×Unit)=>
   if(decide ((t2.2.2.2.1:Int)<t2.2.2.1))=true then
    if(decide (0≤t2.2.2.2.1∧t2.2.2.2.1<((aiR t2.1:Nat):Int)))=true then
     if(decide (0≤t2.2.2.2.1∧t2.2.2.2.1<((aiR t2.2.1:Nat):Int)))=true then
      ajw (S (ajr t2.1 (aje t2.2.2.2.1) d,ajr t2.2.1 (aje t2.2.2.2.1) d,())) fun(r3:Bool×Unit)=>
      if(!r3.1)=true then
       some (false,())
      else
       G1 (t2.1,t2.2.1,t2.2.2.1,IntKind.i64.wrap (t2.2.2.2.1+1),())
     else
      none
    else
     none
   else
    some (true,())) (x.1,x.2.1,((aiR x.1:Nat):Int),0,())
theorem Xr {α:Type} {k:Nat} {d:α} {S:α×α×Unit→Option (Bool×Unit)} {p:α→α→Bool} {l m:List α} (hk:9223372036854775808≤k) (hl:l.length≤281474976710656) (hS:∀a∈l,∀b∈m,S (a,b,())=some (p a b,())):
 eqR k d S (l,m,())=some (allEq p l m,()):=by
 unfold eqR
 simp only
 by_cases hlen:l.length=m.length
 ·rw[if_neg (by simp[hlen])]
  rw[iA (g:=fun(s:List α×List α×Int×Int×Unit)=>some (allEq p (l.drop s.2.2.2.1.toNat) (m.drop s.2.2.2.1.toNat),())) (m:=fun(s:List α×List α×Int×Int×Unit)=>l.length-s.2.2.2.1.toNat)
   (I:=fun(s:List α×List α×Int×Int×Unit)=>s.1=l∧s.2.1=m∧s.2.2.1=(l.length:Int)∧0≤s.2.2.2.1∧s.2.2.2.1≤(l.length:Int))]
  ·simp
  ·rintro G ⟨l',m',n,i,u⟩ ⟨e1,e2,e3,hi0,hi1⟩ hG
   change l'=l at e1
   change m'=m at e2
   change n=_ at e3
   subst e1 e2 e3
   simp only at hi0 hi1 hG⊢
   by_cases hi:i<(l'.length:Int)
   ·have h1:i.toNat<l'.length:=by omega
    have h2:i.toNat<m'.length:=by omega
    rw[if_pos (by simpa using hi),if_pos (by simpa using⟨hi0,hi⟩),if_pos (by simpa using⟨hi0,by omega⟩)]
    rw[hS _ (cj h1) _ (cj h2),ai6,eu (d:=d) h1,eu (d:=d) h2]
    simp only[allEq]
    cases p (l'.getD i.toNat d) (m'.getD i.toNat d)with
    |true=>
     rw[if_neg (by simp),wrap64 (by omega) (by omega),hG (l',m',_,i+1,()) ⟨rfl,rfl,rfl,by simp only;omega,by simp only;omega⟩ (by simp only;omega)]
     simp only[ajZ]
     rw[show(i+1).toNat=i.toNat+1 by omega]
    |false=>rfl
   ·rw[if_neg (by simpa using hi),ai2 (by omega),ai2 (by omega)]
    rfl
  ·exact⟨rfl,rfl,rfl,by simp,by simp⟩
  ·simp only
   omega
 ·rw[if_pos (by simp;omega),E6 hlen]
theorem cf {α:Type} {c:Prop} [Decidable c] (a b:α):(if c then some a else some b)=some (if c then a else b):=by split<;>rfl
theorem toList_inj {a b:ByteArray} (h:a.toList=b.toList):a=b:=by
 rw[ByteArray.toList_eq,ByteArray.toList_eq]at h
 cases a;cases b
 simp at h
 rw[h]
theorem vO:∀ {τ:Ty} {a b:τ.den},τ.flat=true→(eqv τ a b=true↔a=b)
 | .int _,a,b,_=>by simp[eqv]
 | .bool,a,b,_=>by simp[eqv]
 | .str,a,b,_=>by
   simp only[eqv,beq_iff_eq]
   exact⟨toList_inj,fun h=>by rw[h]⟩
 | .pair x y,a,b,h=>by
   simp only[Ty.flat,aiQ]at h
   simp only[eqv,aiQ,vO h.1,vO h.2]
   exact⟨fun h=>Prod.ext h.1 h.2,fun h=>by rw[h];exact⟨rfl,rfl⟩⟩
 | .sl _,_,_,h=>by simp[Ty.flat]at h
theorem Uh {α:Type} {f:α→Nat}:∀ {l:List α} {x:α},x∈l→f x≤(l.map f).sum
 |y::l,x,h=>by
  simp only[ai4,ajm]
  rcases ai7.1 h with rfl|h
  ·omega
  ·have:=Uh (f:=f) h;omega
theorem bo {e:Ty} {l:List e.den} {x:e.den} (hx:x∈l):ag e x≤ag (.sl e) l:=by
 simp only[ag]
 have:=Uh (f:=ag e) hx
 omega
theorem ar {e:Ty} {l:List e.den}:l.length≤ag (.sl e) l:=by simp only[ag];omega
def bj (a n:Nat) (p:Nat→Bool):Bool:=(ajQ a (n-a)).all p
theorem eN {a n:Nat} {p:Nat→Bool}:bj a n p=true↔∀i,a≤i→i<n→p i=true:=by
 simp only[bj,ajx,ajG]
 constructor
 ·intro h i h1 h2;exact h i ⟨h1,by omega⟩
 ·intro h i hi;exact h i hi.1 (by omega)
theorem Rn {a n:Nat} {p:Nat→Bool} (h:a<n):bj a n p=(p a&&bj (a+1) n p):=by
 unfold bj
 rw[show n-a=(n-(a+1))+1 by omega,ajb]
 rfl
theorem T8 {a n:Nat} {p:Nat→Bool} (h:n≤a):bj a n p=true:=by
 unfold bj
 rw[show n-a=0 by omega]
 rfl
theorem Ig {a n:Nat} {p q:Nat→Bool}:bj a n (fun i=>p i&&q i)=(bj a n p&&bj a n q):=by
 rw[ajL,aiQ,eN,eN,eN]
 simp only[aiQ]
 exact⟨fun H=>⟨fun i h1 h2=>(H i h1 h2).1,fun i h1 h2=>(H i h1 h2).2⟩,fun H i h1 h2=>⟨H.1 i h1 h2,H.2 i h1 h2⟩⟩
theorem Xd {n m:Nat}:bj 0 n (fun i=>decide (i<m))=decide (n≤m):=by
 rw[ajL,eN]
 simp only[decide_eq_true_eq]
 constructor
 ·intro h
  rcases aiX m n with h1|h1
  ·have:=h m (by omega) h1;omega
  ·exact h1
 ·intro h i _ h2;omega
theorem ch {σ ρ:Type} {f:(σ→Option ρ)→σ→Option ρ} (st:Nat→σ) (p:Nat→Bool) (n:Nat) {e no:Option ρ}
 (hstep:∀G i,i<n→f G (st i)=if p i=true then G (st (i+1))else no) (hend:∀G i,n≤i→f G (st i)=e):
 ∀(k a:Nat),n-a<k→aH k f (st a)=if bj a n p=true then e else no
 |0,_,h=>by omega
 |k+1,a,h=>by
  show f (aH k f) (st a)=_
  by_cases ha:a<n
  ·rw[hstep _ a ha,Rn ha,ch st p n hstep hend k (a+1) (by omega)]
   cases p a<;>simp
  ·rw[hend _ a (by omega),T8 (by omega),if_pos rfl]
theorem U8 {σ ρ:Type} {f:(σ→Option ρ)→σ→Option ρ} (st:Nat→σ) (p:Nat→Bool) (n:Nat) {e yes:Option ρ}
 (hstep:∀G i,i<n→f G (st i)=if p i=true then yes else G (st (i+1))) (hend:∀G i,n≤i→f G (st i)=e) (k a:Nat) (hk:n-a<k):
 aH k f (st a)=if bj a n (fun i=> !p i)=true then e else yes:=
 ch st (fun i=> !p i) n (fun G i hi=>by rw[hstep G i hi];cases p i<;>rfl) hend k a hk
theorem bZ {σ ρ:Type} {f:(σ→Option ρ)→σ→Option ρ} (st:Nat→σ) (n:Nat) {e:Option ρ} (hstep:∀G i,i<n→f G (st i)=G (st (i+1))) (hend:∀G,f G (st n)=e):
 ∀(k a:Nat),a≤n→n-a<k→aH k f (st a)=e
 |0,_,_,h=>by omega
 |k+1,a,ha,h=>by
  show f (aH k f) (st a)=_
  by_cases hn:a=n
  ·subst hn;exact hend _
  ·rw[hstep _ a (by omega),bZ st n hstep hend k (a+1) (by omega) (by omega)]
theorem aU {i:Nat} (h:i<4611686018427387904):IntKind.i64.wrap ((i:Int)+1)=((i+1:Nat):Int):=by
 rw[wrap64 (by omega) (by omega)];rfl
theorem rZ {i:Nat} (h:i<4611686018427387904):IntKind.i64.wrap ((i:Int)-1)=(i:Int)-1:=wrap64 (by omega) (by omega)
theorem au {i n:Nat} (h:i<n):(decide ((0:Int)≤(i:Int)∧(i:Int)<(n:Int)))=true:=by simp;omega
theorem aF {i n:Nat}:(decide ((i:Int)<(n:Int)))=decide (i<n):=by simp
end Vg
namespace Vg
open Go Go.RowKit
theorem Uz {w:World}:∀ {l:List ByteArray} {cs:List Value} {B:List Nat},aT (aQ w .str) l cs B→cs=l.map Value.string
 | [],_,_,h=>h.1
 |x::l,cs,B,h=>by
  obtain⟨c1,c2,B1,B2,rfl,_,h1,h2⟩:=h
  rw[h1.1,Uz h2]
  rfl
theorem adb {l:List ByteArray} {j:Nat} {x:ByteArray} (h:l[j]?=some x):(l.map Value.string)[j]?=some (.string x):=by rw[List.getElem?_map,h];rfl
theorem Yj {ps:List PK} {τ:Ty} {F:aZ (ps.map PK.ty)→Option (aZ ([RK.val τ .leaf].map RK.ty++bn ps))} {w w':World} {G0:Gh} {args:List Value} {nt:Nat} {L:List SV} (hlot:M8 w G0 L args nt)
 (hio:∀x:aZ (bn ps),cK [2,1] ps x (eD ps 0 4)=fun _=>[]) {y:aZ ([RK.val τ .leaf].map RK.ty++bn ps)} {mv:Value} (hb:Below w.heap.size w w')
 (hv:bU w' G0 (.d ⟨τ,y.1,.leaf⟩) mv):xc ⟨ps,[.val τ .leaf],F,[]⟩ w G0 args y mv w' G0 [mv] nt where
 val:=rfl
 len:=rfl
 res i:=by
  cases i with
  |zero=>exact hv
  |succ i=>
   have:(bd [RK.val τ .leaf] (bn ps) y (bI ps 4) [2,1]).1.getD (i+1) .no= .no:=by
    show([SV.d ⟨τ,y.1,Sh.leaf⟩]).getD (i+1) .no= .no
    rfl
   rw[this]
   trivial
 ios t i v h:=by rw[hio]at h;cases h
 frame b hbs _:=⟨rfl,hb.block b hbs⟩
 one b h:=⟨(hlot.colU b (by omega)).2,rfl⟩
 size:=hb.size
 os:=hb.os
 tape:=hb.tape
 output:=hb.output
 lt b h:=aj4 (hlot.colU b h).2 hb.size
 fresh b h:=by rw[hb.block b (hlot.colU b (by omega)).2];exact hlot.fresh b h
 kept q hq:=by cases hq
theorem Ll {P:Program} {f:FuncId} {fn:Func} (hf:P.funcs[f]?=some fn) (hname:(fn.name== "runtime.NumGoroutine")=false) (hb:fn.body.isSome=true) {w:World} {args:Array Value} {R:Value→World→Prop}
 (h:Calls P f args w (fun e w'=>∃v,e= .returned v∧R v w')):sL P f args w R:=by
 obtain⟨c,hc⟩:=Option.isSome_iff_exists.1 hb
 have hrun:(callFunc f args).run P w= .ok (.enter f args) w:=by
  have hne:fn.name≠ "runtime.NumGoroutine" :=by simpa using hname
  unfold callFunc
  simp[hf,hne,hc]
 unfold sL
 rw[hrun]
 exact h
def jW (l:List ByteArray) (sep:ByteArray):List UInt8:=Lib.join (l.map (·.data.toList)) sep.data.toList
def Ch (x:List ByteArray×ByteArray×Unit):Option (ByteArray×Unit):=
 if x.1.length≤140737488355328∧(jW x.1 x.2.1).length≤140737488355328 then some (⟨(jW x.1 x.2.1).toArray⟩,())else none
theorem Ys {P:Program} {f:FuncId} {fn:Func} (hf:P.funcs[f]?=some fn) (hname:(fn.name== "runtime.NumGoroutine")=false) (hb:fn.body.isSome=true)
 (h0:∀(a:Option Addr) (c:Nat) (sep:ByteArray) (w:World),Calls P f #[.slice a 0 c,.string sep] w fun e w'=>e= .returned (.string ⟨#[]⟩)∧w'=w)
 (h1:∀(bk o c:Nat) (xs:List ByteArray) (sep:ByteArray) (w:World),(∀(j:Nat) x,xs[j]?=some x→w.cell? ⟨bk,o+j,none⟩=some (.string x))→bk<w.heap.size→xs.length≤140737488355328→xs.length≤c→
  (Lib.join (xs.map (·.data.toList)) sep.data.toList).length≤140737488355328→
  Calls P f #[.slice (some ⟨bk,o,none⟩) xs.length c,.string sep] w fun e w'=>e= .returned (.string ⟨(Lib.join (xs.map (·.data.toList)) sep.data.toList).toArray⟩)∧Below w.heap.size w w'):
 oz P f ⟨[.val (.sl .str) .shr,.val .str .leaf],[.val .str .leaf],Ch,[]⟩:=by
 intro w G0 args x y hy hlot
 obtain⟨l,sep,u⟩:=x
 have hlen:args.length=2:=hlot.len
 obtain⟨v0,v1,rfl⟩:∃v0 v1,args=[v0,v1]:=by
  match args,hlen with
  | [a,b],_=>exact⟨a,b,rfl⟩
 have s0:bU w G0 (.d ⟨.sl .str,l,.sl (.sha [1])⟩) v0:=hlot.slots 0
 have s1:bU w G0 (.d ⟨.str,sep,.leaf⟩) v1:=hlot.slots 1
 obtain⟨cs1,e1,q1⟩:=s1
 have q1':cs1=[.string sep]:=q1
 subst q1'
 have e1':v1= .string sep:=e1
 subst e1'
 obtain⟨cs0,e0,v,rfl,hrow⟩:=s0
 have e0':v0=v:=e0
 subst e0'
 have hy:Ch (l,sep,u)=some y:=hy
 unfold Ch at hy
 split at hy
 ·rename_i hc
  have hy':=aki hy
  subst hy'
  refine Ll hf hname hb ?_
  obtain⟨⟨B,hrep,_⟩,_⟩:=hrow
  have fin:∀w',Below w.heap.size w w'→∃G' vs nt,xc ⟨[.val (.sl .str) .shr,.val .str .leaf],[.val .str .leaf],Ch,[]⟩ w G0 [v0,.string sep] (⟨(jW l sep).toArray⟩,()) (.string ⟨(jW l sep).toArray⟩) w' G' vs nt:=
   fun w' hbl=>⟨G0,_,_,Yj (ps:=[.val (.sl .str) .shr,.val .str .leaf]) (τ:= .str) (F:=Ch) (y:=(⟨(jW l sep).toArray⟩,())) hlot (fun _=>by funext n;rfl) hbl ⟨[.string ⟨(jW l sep).toArray⟩],rfl,rfl⟩⟩
  rcases hrep with⟨⟨ao,rfl⟩,rfl,_⟩|⟨b,off,cap,c,el,fz,Bs,rfl,hcap,hbk,hsz,_,hl⟩
  ·refine(h0 ao 0 sep w).mono fun e w' ⟨he,hw⟩=>⟨_,he,?_⟩
   subst hw
   exact fin _ (Below.refl _ _)
  ·have hcs:=Uz hl
   refine(h1 b off cap l sep w (fun j x hj=> ?_) (lt_of_block hbk) hc.1 hcap hc.2).mono fun e w' ⟨he,hw⟩=>⟨_,he,fin _ hw⟩
   unfold World.cell?
   simp only[hbk,ajs,ai0,if_false]
   have hjl:j<l.length:=(List.getElem?_eq_some_iff.1 hj).1
   have h2:=adb (l:=l) hj
   rw[←hcs]at h2
   simp only[ajf,ajg,Ty.sz,Nat.mul_one,hjl,if_true,aiY]at h2
   exact h2
 ·cases hy
end Vg
namespace Vg
open Go
theorem bP (a b:Int):(a==b)=decide (a=b):=rfl
theorem dT (a b:Int):(a != b)= !decide (a=b):=rfl
theorem tbf:(true==false)=false:=rfl
theorem fbt:(false==true)=false:=rfl
theorem gR {α:Type} {l:List α} {i:Nat} (d:α) (h:i<l.length):l.take (i+1)=l.take i++[l.getD i d]:=by
 rw[ajy h,aiW,aiZ h];rfl
theorem filter_one {α:Type} (p:α→Bool) (a:α):[a].filter p=if p a=true then [a]else []:=by
 cases h:p a<;>simp[List.filter,h]
theorem map_take {α β:Type} {f:α→β} {l:List α} {i:Nat} (d:α) (h:i<l.length):(l.take (i+1)).map f=(l.take i).map f++[f (l.getD i d)]:=by
 rw[gR d h,ajM];rfl
def cpS {α β:Type} (k:Nat) (d:α) (S:α×Unit→Option (β×Unit)) (x:List α×Unit):Option (List β×Unit):=
 aH k (fun G1 (t2:List α×List β×Int×Unit)=>
  if(decide ((t2.2.2.1:Int)<((aiR t2.1:Nat):Int)))=true then
   if(decide (0≤t2.2.2.1∧t2.2.2.1<((aiR t2.1:Nat):Int)))=true then
    ajw (S (ajr t2.1 (aje t2.2.2.1) d,())) fun(r3:β×Unit)=>
    if(decide (aiR t2.2.1+aiR ([r3.1]:List β)<4294967296))=true then
     G1 (t2.1,t2.2.1++([r3.1]:List β),IntKind.i64.wrap (t2.2.2.1+(1:Int)),())
    else
     none
   else
    none
  else
   some (t2.2.1,())) (x.1,([]:List β),(0:Int),())
theorem adA {α β:Type} {k:Nat} {d:α} {S:α×Unit→Option (β×Unit)} (f:α→β) {l:List α} (hk:9223372036854775808≤k) (hl:l.length≤1073741824) (hS:∀e∈l,S (e,())=some (f e,())):cpS k d S (l,())=some (l.map f,()):=by
 unfold cpS
 refine bZ (fun i=>(l,(l.take i).map f,(i:Int),())) l.length (fun G i hi=> ?_) (fun G=> ?_) k 0 (by omega) (by omega)
 ·simp only[aF,au hi,hi,decide_true,if_true,aka]
  rw[hS _ (cj hi),ai6,if_pos (by simp;omega),aU (by omega),map_take d hi]
 ·simp
def cpR {α β:Type} (k:Nat) (d:α) (S:α×Unit→Option (β×Unit)) (x:List α×Unit):Option (List β×Unit):=
 aH k (fun G1 (t2:List β×List α×Int×Int×Unit)=>
  if(decide ((t2.2.2.2.1:Int)<t2.2.2.1))=true then
   if(decide (0≤t2.2.2.2.1∧t2.2.2.2.1<((aiR t2.2.1:Nat):Int)))=true then
    ajw (S (ajr t2.2.1 (aje t2.2.2.2.1) d,())) fun(r3:β×Unit)=>
    if(decide (aiR t2.1+aiR ([r3.1]:List β)<4294967296))=true then
     G1 (t2.1++([r3.1]:List β),t2.2.1,t2.2.2.1,IntKind.i64.wrap (t2.2.2.2.1+(1:Int)),())
    else
     none
   else
    none
  else
   some (t2.1,())) (([]:List β),x.1,((aiR x.1:Nat):Int),(0:Int),())
theorem adF {α β:Type} {k:Nat} {d:α} {S:α×Unit→Option (β×Unit)} (f:α→β) {l:List α} (hk:9223372036854775808≤k) (hl:l.length≤1073741824) (hS:∀e∈l,S (e,())=some (f e,())):cpR k d S (l,())=some (l.map f,()):=by
 unfold cpR
 refine bZ (fun i=>((l.take i).map f,l,(l.length:Int),(i:Int),())) l.length (fun G i hi=> ?_) (fun G=> ?_) k 0 (by omega) (by omega)
 ·simp only[aF,au hi,hi,decide_true,if_true,aka]
  rw[hS _ (cj hi),ai6,if_pos (by simp;omega),aU (by omega),map_take d hi]
 ·simp
theorem E7 {α:Type} {k:Nat} {d:α} {S:α×Unit→Option (α×Unit)} {l:List α} (hk:9223372036854775808≤k) (hl:l.length≤1073741824) (hS:∀e∈l,S (e,())=some (e,())):cpS k d S (l,())=some (l,()):=by
 have:=adA (d:=d) (fun e=>e) hk hl hS
 rwa [List.map_id']at this
theorem MA {α:Type} {k:Nat} {d:α} {S:α×Unit→Option (α×Unit)} {l:List α} (hk:9223372036854775808≤k) (hl:l.length≤1073741824) (hS:∀e∈l,S (e,())=some (e,())):cpR k d S (l,())=some (l,()):=by
 have:=adF (d:=d) (fun e=>e) hk hl hS
 rwa [List.map_id']at this
theorem vD {e:Ty} (p:e.den→Bool):∀(l:List e.den),ag (.sl e) (l.filter p)≤ag (.sl e) l
 | []=>aiP _
 |x::l=>by
  have:=vD p l
  by_cases h:p x=true
  ·rw[aju h];simp only[ag,ai5,ai4,ajm]at this⊢;omega
  ·rw[List.filter_cons_of_neg h];simp only[ag,ai5,ai4,ajm]at this⊢;omega
theorem oN {e:Ty} (l m:List e.den):ag (.sl e) (l++m)=ag (.sl e) l+ag (.sl e) m:=by
 simp only[ag,ajd,ajM,List.sum_append];omega
theorem ez {e:Ty} (x:e.den) (l:List e.den):ag (.sl e) (x::l)=1+ag e x+ag (.sl e) l:=by
 simp only[ag,ai5,ai4,ajm];omega
theorem rj {e:Ty}:ag (.sl e) ([]:List e.den)=0:=by simp[ag]
theorem tI {e:Ty}:∀(l:List e.den) (i:Nat) (x:e.den),i<l.length→ag (.sl e) (l.set i x)+ag e (l.getD i e.aa)=ag (.sl e) l+ag e x
 | [],i,x,h=>by simp at h
 |y::l,0,x,h=>by rw[aj3,ez,ez];simp;omega
 |y::l,i+1,x,h=>by
  have:=tI l i x (by simpa using h)
  rw[List.set_cons_succ,ez,ez,aj0]
  omega
theorem cN {e:Ty} (l:List e.den) (i:Nat):ag (.sl e) (l.take i)+ag (.sl e) (l.drop i)=ag (.sl e) l:=by
 rw[←oN,List.take_append_drop]
def gB (n:Nat) (p:Nat→Bool):Option Nat:=(List.range n).find? p
def cT:Option Nat→Int
 |some i=>(i:Int)
 |none=> -1
theorem bH {n:Nat} {p:Nat→Bool} {i:Nat}:gB n p=some i↔i<n∧p i=true∧∀j,j<i→p j=false:=by
 unfold gB
 rw[List.find?_range_eq_some]
 constructor
 ·rintro⟨h1,h2,h3⟩
  exact⟨akm.1 h2,h1,fun j hj=>by simpa using h3 j hj⟩
 ·rintro⟨h1,h2,h3⟩
  exact⟨h2,akm.2 h1,fun j hj=>by simpa using h3 j hj⟩
theorem y5 {n:Nat} {p:Nat→Bool}:gB n p=none↔∀i,i<n→p i=false:=by
 unfold gB
 rw[List.find?_range_eq_none]
 constructor
 ·intro h i hi;simpa using h i hi
 ·intro h i hi;simpa using h i hi
theorem fa {σ ρ:Type} {f:(σ→Option ρ)→σ→Option ρ} (st:Nat→σ) (p:Nat→Bool) (n:Nat) {e:Option ρ} (hit:Nat→Option ρ)
 (hstep:∀G i,i<n→f G (st i)=if p i=true then hit i else G (st (i+1))) (hend:∀G,f G (st n)=e) (k:Nat) (hk:n<k):
 aH k f (st 0)=match gB n p with|some i=>hit i|none=>e:=by
 have key:∀(k a:Nat),a≤n→n-a<k→(∀j,j<a→p j=false)→aH k f (st a)=match gB n p with|some i=>hit i|none=>e:=by
  intro k
  induction k with
  |zero=>intro a _ h;omega
  |succ k ih=>
   intro a ha h hp
   show f (aH k f) (st a)=_
   by_cases hn:a=n
   ·subst hn
    rw[hend,(y5 (n:=a) (p:=p)).2 hp]
   ·rw[hstep _ a (by omega)]
    cases hpa:p a with
    |true=>rw[if_pos rfl,(bH (i:=a)).2 ⟨by omega,hpa,hp⟩]
    |false=>
     rw[if_neg (by simp),ih (a+1) (by omega) (by omega) (fun j hj=>by
      rcases aiX j a with h|h
      ·exact hp j h
      ·obtain rfl:j=a:=by omega
       exact hpa)]
 exact key k 0 (by omega) (by omega) (by omega)
def nz (a b:ByteArray):Bool:=Op.bytesLess a.toList b.toList
def bD:List (ByteArray×ByteArray)→List (ByteArray×ByteArray)→Bool
 | [],b=> !b.isEmpty
 |_::_,[]=>false
 |a::l,b::m=>if a.1.toList==b.1.toList then(if a.2.toList==b.2.toList then bD l m else nz a.2 b.2)else nz a.1 b.1
def dR {α:Type} (lt:α→α→Bool) (x:α):List α→List α
 | []=>[x]
 |y::r=>if lt x y=true then y::dR lt x r else x::y::r
def gg {α:Type} (lt:α→α→Bool) (l:List α):List α:=(l.foldl (fun r x=>dR lt x r) []).reverse
abbrev db (a b:List (ByteArray×ByteArray)×Int×Int×ByteArray):Bool:=bD a.1 b.1
def dw (l:List (List (ByteArray×ByteArray)×Int×Int×ByteArray)):List (List (ByteArray×ByteArray)×Int×Int×ByteArray):=gg db l
abbrev eE:Ty:= .pair (.sl (.pair .str .str)) (.pair (.int .i64) (.pair (.int .i64) .str))
def uw (x:List eE.den×Unit):Option (List eE.den×Unit):=
 if(decide (x.1.length<1152921504606846976)&&x.1.all fun a=>decide (a.1.length<4611686018427387904))=true then some (dw x.1,())else none
end Vg
namespace Go.Proofs
open Go.Shelf Go.RowKit Go.Lib Go.Sort
variable {P:Program} {ρ:Ren} {α:Type} [Inhabited α]
def Pa {α:Type} (enc:α→List Value) (lab:α→List (ByteArray×ByteArray)) (blk:Nat) (w:World):Prop:=
 ∀x:α,∃p c,(enc x)[0]?=some (.slice p (lab x).length c)∧(lab x).length<4611686018427387904∧
  ∀i,i<(lab x).length→∃bk o,p=some ⟨bk,o,none⟩∧bk≠blk∧bk<w.heap.size∧w.cell? ⟨bk,o+i*2,none⟩=some (.string ((lab x).getD i (ByteArray.empty,ByteArray.empty)).1)∧
   w.cell? ⟨bk,o+i*2+1,none⟩=some (.string ((lab x).getD i (ByteArray.empty,ByteArray.empty)).2)
end Go.Proofs
namespace Vg
open Go Go.RowKit
section
variable {α:Type}
theorem H6 (lt:α→α→Bool) (x:α):∀r:List α,(dR lt x r).Perm (x::r)
 | []=>List.Perm.refl _
 |y::r=>by
  unfold dR
  split
  ·exact((H6 lt x r).cons y).trans (List.Perm.swap x y r)
  ·exact List.Perm.refl _
theorem DR (lt:α→α→Bool):∀(l r:List α),(l.foldl (fun r x=>dR lt x r) r).Perm (l++r)
 | [],r=>List.Perm.refl _
 |x::l,r=>by
  rw[ajN]
  exact(DR lt l _).trans ((List.Perm.append_left l (H6 lt x r)).trans (List.perm_middle))
theorem Hx (lt:α→α→Bool) (l:List α):(gg lt l).Perm l:=by
 unfold gg
 refine(List.reverse_perm _).trans ?_
 have:=DR lt l []
 rwa [ajO]at this
theorem MF {β:Type} {lt:α→α→Bool} {lt':β→β→Bool} (f:α→β) (h:∀x y,lt x y=lt' (f x) (f y)) (x:α):∀r:List α,(dR lt x r).map f=dR lt' (f x) (r.map f)
 | []=>rfl
 |y::r=>by
  simp only[dR,ai4,h]
  split<;>simp[MF f h x r]
theorem F0 {β:Type} {lt:α→α→Bool} {lt':β→β→Bool} (f:α→β) (h:∀x y,lt x y=lt' (f x) (f y)):∀(l r:List α),(l.foldl (fun r x=>dR lt x r) r).map f=(l.map f).foldl (fun r x=>dR lt' x r) (r.map f)
 | [],r=>rfl
 |x::l,r=>by
  rw[ajN,ai4,ajN,F0 f h l,MF f h]
theorem YW {β:Type} {lt:α→α→Bool} {lt':β→β→Bool} (f:α→β) (h:∀x y,lt x y=lt' (f x) (f y)) (l:List α):(gg lt l).map f=gg lt' (l.map f):=by
 unfold gg
 rw[List.map_reverse,F0 f h]
 rfl
variable [Inhabited α]
theorem Rm (lt:α→α→Bool):∀(j:Nat) (p:List α) (x:α) (r:List α),p.length=j→Go.Sort.insInner lt 0 j (p++x::r).toArray=((dR lt x p.reverse).reverse++r).toArray
 |0,p,x,r,h=>by
  have:p=[]:=List.length_eq_zero_iff.1 h
  subst this
  rfl
 |j+1,p,x,r,h=>by
  obtain⟨q,y,rfl⟩:∃q y,p=q++[y]:=⟨p.dropLast,p.getLast (by intro e;rw[e]at h;cases h),(List.dropLast_concat_getLast _).symm⟩
  have hq:q.length=j:=by simpa using h
  have e1:(q++[y]++x::r).toArray[j+1]! =x:=by simp[←hq]
  have e0:(q++[y]++x::r).toArray[j]! =y:=by simp[←hq]
  unfold Go.Sort.insInner
  rw[e1,e0]
  by_cases hl:lt x y=true
  ·rw[if_pos (by simp[hl])]
   have e2:Go.Sort.swp (q++[y]++x::r).toArray (j+1) j=(q++x::(y::r)).toArray:=by
    unfold Go.Sort.swp
    rw[e1,e0]
    apply akg
    simp[←hq]
   rw[e2,Rm lt j q x (y::r) hq,aj1,ajS,ajk]
   simp[dR,hl]
  ·rw[if_neg (by simp[hl]),aj1,ajS,ajk]
   simp[dR,hl]
theorem RJ (lt:α→α→Bool) (l:List α):∀(m i:Nat),i+m=l.length→Go.Sort.insOuter lt 0 l.length i (gg lt (l.take i)++l.drop i).toArray=(gg lt l).toArray
 |0,i,h=>by
  unfold Go.Sort.insOuter
  rw[if_neg (by omega),ai2 (by omega),ajv (by omega),ajO]
 |m+1,i,h=>by
  have hi:i<l.length:=by omega
  unfold Go.Sort.insOuter
  rw[if_pos hi,ajI hi]
  have hlen:(gg lt (l.take i)).length=i:=by rw[(Hx lt (l.take i)).length_eq,List.length_take];omega
  rw[Rm lt i _ _ _ hlen]
  have:(dR lt l[i] (gg lt (l.take i)).reverse).reverse=gg lt (l.take (i+1)):=by
   unfold gg
   rw[List.reverse_reverse,ajy hi,List.foldl_append]
   rfl
  rw[this]
  exact RJ lt l m (i+1) (by omega)
theorem abY (lt:α→α→Bool) (l:List α) (h:1≤l.length):Go.Sort.insertionSort lt l.toArray 0 l.toArray.size=(gg lt l).toArray:=by
 unfold Go.Sort.insertionSort
 have:=RJ lt l (l.length-1) 1 (by omega)
 have e:gg lt (l.take 1)++l.drop 1=l:=by
  cases l with
  |nil=>cases h
  |cons x l=>rfl
 rw[e]at this
 simpa using this
theorem Q1 {enc:α→List Value} {k:Nat} (hk:∀x,(enc x).length=k) (h0:0<k):∀(L:List α) (t:Nat),t<L.length*k→(L.flatMap enc)[t]?=some ((enc L[t/k]!)[t%k]!)
 | [],t,h=>by simp at h
 |x::L,t,h=>by
  rw[ai9]
  by_cases ht:t<k
  ·rw[List.getElem?_append_left (by rw[hk];exact ht),Nat.div_eq_of_lt ht,Nat.mod_eq_of_lt ht]
   have:t<(enc x).length:=by rw[hk];exact ht
   simp[this]
  ·rw[List.getElem?_append_right (by rw[hk];omega),hk,Q1 hk h0 L (t-k) (by simp only[ai5,ajP,ajh]at h;omega)]
   have e1:t/k=(t-k)/k+1:=by rw[Nat.div_eq_sub_div h0 (by omega)]
   have e2:t%k=(t-k)%k:=by rw[Nat.mod_eq_sub_mod (by omega)]
   rw[e1,e2]
   rfl
theorem XW {enc:α→List Value} {k:Nat} (hk:∀x,(enc x).length=k) (h0:0<k) (L:List α):(Go.Sort.flatK enc k L.toArray).toList=L.flatMap enc:=by
 have hl:(L.flatMap enc).length=L.length*k:=by
  induction L with
  |nil=>simp
  |cons x L ih=>rw[ai9,ajd,ih,hk,ai5,ajP,ajh,Nat.add_comm]
 apply akb
 intro t
 by_cases ht:t<L.length*k
 ·rw[Q1 hk h0 L t ht]
  have h2:t<(Go.Sort.flatK enc k L.toArray).size:=by simpa using ht
  have h3:=Go.Sort.get_flatK enc k L.toArray t (by simpa using ht)
  rw[getElem!_pos _ t h2]at h3
  rw[aiY,aja h2,h3]
  simp
 ·rw[ajz (by simp;omega),ajz (by rw[hl];omega)]
end
theorem Nb {β:Type} {R:β→List Value→List Nat→Prop}:∀ {l:List β} {cs:List Value} {B:List Nat},aT R l cs B→
 ∃L:List (β×List Value×List Nat),(∀x∈L,R x.1 x.2.1 x.2.2)∧l=L.map (·.1)∧cs=L.flatMap (·.2.1)∧B=L.flatMap (·.2.2)
 | [],_,_,h=>⟨[],by simp,rfl,h.1,h.2⟩
 |x::l,cs,B,h=>by
  obtain⟨c1,c2,B1,B2,rfl,rfl,h1,h2⟩:=h
  obtain⟨L,a1,rfl,rfl,rfl⟩:=Nb h2
  exact⟨(x,c1,B1)::L,(fun y hy=>by rcases ai7.1 hy with rfl|hy;exact h1;exact a1 y hy),rfl,rfl,rfl⟩
theorem NI {β:Type} {R:β→List Value→List Nat→Prop}:∀(L:List (β×List Value×List Nat)),(∀x∈L,R x.1 x.2.1 x.2.2)→aT R (L.map (·.1)) (L.flatMap (·.2.1)) (L.flatMap (·.2.2))
 | [],_=>⟨rfl,rfl⟩
 |x::L,h=>⟨x.2.1,_,x.2.2,_,rfl,rfl,h x (by simp),NI L (fun y hy=>h y (by simp[hy]))⟩
theorem UU {w:World}:∀ {l:List (ByteArray×ByteArray)} {cs:List Value} {B:List Nat},aT (aQ w (.pair .str .str)) l cs B→B=[]∧∀i,i<l.length→cs[i*2]?=some (.string (l.getD i (ByteArray.empty,ByteArray.empty)).1)∧cs[i*2+1]?=some (.string (l.getD i (ByteArray.empty,ByteArray.empty)).2)
 | [],_,_,h=>⟨h.2,fun i hi=>by simp at hi⟩
 |x::l,cs,B,h=>by
  obtain⟨c1,c2,B1,B2,rfl,rfl,⟨d1,d2,C1,C2,rfl,rfl,⟨rfl,rfl⟩,⟨rfl,rfl⟩⟩,h2⟩:=h
  obtain⟨e,q⟩:=UU h2
  refine⟨by rw[e];rfl,fun i hi=> ?_⟩
  cases i with
  |zero=>exact⟨rfl,rfl⟩
  |succ i=>
   obtain⟨q1,q2⟩:=q i (by simpa using hi)
   have e1:(i+1)*2=i*2+1+1:=by omega
   rw[e1]
   simp only[ajk,ajl,ajc,List.getElem?_cons_succ,aj0]
   exact⟨q1,q2⟩
theorem H8 {e:Ty} {F:aZ [.sl e]→Option (aZ [.sl e])} {w w':World} {G0:Gh} {v:Value} {l l':List e.den}
 (hlot:M8 w G0 (bK [.val (.sl e) .own] (l,()) 4).1 [v] 5) {B B':List Nat} (hB:dp w e.sz (aQ w e) l v B) (hBo:∀b Bs,B=b::Bs→G0.col b=4∧b∉Bs∧(∀x∈Bs,G0.col x=4)∧Bs.Nodup)
 (hB':dp w' e.sz (aQ w' e) l' v B') (hp:∀b Bs,B'=b::Bs→∃Bs0,B=b::Bs0∧Bs.Perm Bs0)
 (hsame:∀b,b<w.heap.size→(∀Bs,B≠b::Bs)→w'.heap[b]?=w.heap[b]?) (hrow:∀b Bs,B=b::Bs→∃c el,w'.heap[b]?=some (.cells c el (0,0)))
 (hsize:w.heap.size≤w'.heap.size) (hos:w'.os=w.os) (htape:w'.tape=w.tape) (hout:w'.output=w.output):
 ∃G' vs nt,xc ⟨[.val (.sl e) .own],[.val (.sl e) .own],F,[]⟩ w G0 [v] (l',()) v w' G' vs nt:=by
 refine⟨⟨fun b=>if G0.col b=4 then 5 else G0.col b,fun t=>if t=5 then v else G0.hdr t,fun _=>false⟩,[v],6,?_⟩
 exact {
  kept:=fun q hq=>by cases hq
  val:=rfl
  len:=rfl
  res:=fun i=>by
   cases i with
   |zero=>
    show bU w' _ (.d ⟨.sl e,l',.sl (.row 5 [5] true)⟩) v
    refine⟨[v],rfl,v,rfl,by omega,rfl,B',hB',fun b Bs he=> ?_⟩
    obtain⟨Bs0,e0,hperm⟩:=hp b Bs he
    obtain⟨q1,q2,q3,q4⟩:=hBo b Bs0 e0
    refine⟨by simp[q1],fun hm=>q2 (hperm.mem_iff.1 hm),fun x hx=> ?_,fun _=>hperm.nodup_iff.2 q4⟩
    have:=q3 x (hperm.mem_iff.1 hx)
    simp[this]
   |succ i=>trivial
  ios:=fun t i x h=>by cases h
  frame:=fun b hb hc=>by
   refine⟨by simp only;rw[if_neg (by omega)],hsame b hb (fun Bs he=> ?_)⟩
   have:=(hBo b Bs he).1
   omega
  one:=fun b h=>by
   simp only at h
   split at h
   ·omega
   ·rename_i hne;exact⟨(hlot.colU b (by omega)).2,by simp only;rw[if_neg hne]⟩
  size:=hsize
  os:=hos
  tape:=htape
  output:=hout
  lt:=fun b h=>by
   simp only at h
   refine aj4 (hlot.colU b ?_).2 hsize
   split at h<;>omega
  fresh:=fun b h=>by
   simp only at h
   have h3:4≤G0.col b:=by split at h<;>omega
   obtain⟨c,el,hc⟩:=hlot.fresh b h3
   by_cases hb:∃Bs,B=b::Bs
   ·obtain⟨Bs,he⟩:=hb
    exact hrow b Bs he
   ·rw[hsame b (hlot.colU b (by omega)).2 (fun Bs he=>hb ⟨Bs,he⟩)]
    exact⟨c,el,hc⟩}
theorem Vl {α:Type} (lt:α→α→Bool):∀ {l:List α},l.length≤1→gg lt l=l
 | [],_=>rfl
 | [x],_=>rfl
 |_::_::_,h=>by simp at h
theorem VN {α:Type} {p:α→Prop}:∀(L:List α),(∀x∈L,p x)→∃LA:List {x//p x},LA.map Subtype.val=L
 | [],_=>⟨[],rfl⟩
 |x::L,h=>by
  obtain⟨LA,e⟩:=VN L (fun y hy=>h y (by simp[hy]))
  exact⟨⟨x,h x (by simp)⟩::LA,by rw[ai4,e]⟩
theorem abd {F c:Array Value} {off:Nat} (h:off+F.size≤c.size):((Go.Sort.putCells id off F c).toList.drop off).take F.size=F.toList:=by
 apply akb
 intro t
 rw[ajf]
 split
 ·rename_i ht
  rw[ajg,aiY]
  unfold Go.Sort.putCells
  rw[Array.getElem?_mapIdx,aja (show off+t<c.size by omega)]
  rw[Option.map_some,if_pos ⟨by omega,by omega⟩,aiY,aja ht,show off+t-off=t by omega,getElem!_pos F t ht]
  rfl
 ·rw[ajz]
  simp
  omega
theorem ab9 (F c:Array Value) (off:Nat):(Go.Sort.putCells id off F c).size=c.size:=by simp[Go.Sort.putCells]
theorem Zw {w:World} {x:eE.den} {cs:List Value} {B:List Nat} (h:aQ w eE x cs B):(∀v∈cs,v.oneCell'=true)∧
 ∃v B1,cs[0]?=some v∧(∀y∈B1,y∈B)∧dp w 2 (aQ w (.pair .str .str)) x.1 v B1:=by
 obtain⟨c1,c2,B1,B2,rfl,rfl,⟨v,rfl,hv⟩,⟨d1,d2,C1,C2,rfl,rfl,⟨rfl,rfl⟩,⟨f1,f2,D1,D2,rfl,rfl,⟨rfl,rfl⟩,⟨rfl,rfl⟩⟩⟩⟩:=h
 refine⟨fun u hu=> ?_,v,B1,rfl,fun y hy=>List.mem_append_left _ hy,hv⟩
 simp only[ajk,ai7,List.not_mem_nil,or_false]at hu
 rcases hu with rfl|rfl|rfl|rfl
 ·exact hv.one
 ·rfl
 ·rfl
 ·rfl
theorem WH {P:Program} {f:FuncId} {fn:Func} (hf:P.funcs[f]?=some fn) (hname:(fn.name== "runtime.NumGoroutine")=false) (hb:fn.body.isSome=true)
 (tiny:∀(p:Option Addr) (n c:Nat),n≤1→∀w:World,Calls P f #[.slice p n c] w fun e w'=>e= .returned (.slice p n c)∧∃os,w'=Go.Sort.grow w os)
 (few:∀ {α:Type} [Inhabited α] (enc:α→List Value) (_:∀x,(enc x).length=4) (_:∀x,∀v∈enc x,v.oneCell'=true) (lab:α→List (ByteArray×ByteArray)) (blk off c:Nat) (d:Array α) (w:World)
  (_:2≤d.size) (_:d.size<1152921504606846976) (_:Go.Sort.HoldsK enc 4 w blk off d) (_:blk<w.heap.size) (_:Go.Proofs.Pa enc lab blk w),
  Calls P f #[.slice (some ⟨blk,off,none⟩) d.size c] w fun e w'=>
   e= .returned (.slice (some ⟨blk,off,none⟩) d.size c)∧∃n os,w'=Go.Sort.grow (Go.Sort.putRowK enc 4 (Go.Sort.ahead w n) blk off (Go.Sort.insertionSort (fun x y=>bD (lab x) (lab y)) d 0 d.size)) os):
 oz P f ⟨[.val (.sl eE) .own],[.val (.sl eE) .own],uw,[]⟩:=by
 intro w G0 args x y hy hlot
 have hlen:args.length=1:=hlot.len
 obtain⟨v,rfl⟩:∃v,args=[v]:=by
  match args,hlen with
  | [a],_=>exact⟨a,rfl⟩
 obtain⟨l,u⟩:=x
 suffices H:∀(l:List eE.den) (y:List eE.den×Unit),uw (l,())=some y→M8 w G0 (bK [.val (.sl eE) .own] (l,()) 4).1 [v] 5→
  sL P f [v].toArray w (fun mv w'=>∃G' vs nt,xc ⟨[.val (.sl eE) .own],[.val (.sl eE) .own],uw,[]⟩ w G0 [v] y mv w' G' vs nt)from H l y hy hlot
 clear hy hlot u y hlen l
 intro l y hy hlot
 have s0:bU w G0 (.d ⟨.sl eE,l,.sl (.row 4 [4] true)⟩) v:=hlot.slots 0
 obtain⟨cs,e0,v',rfl,_,_,B,hB,hBo⟩:=s0
 have e0':v=v':=e0
 subst e0'
 have hB:dp w eE.sz (aQ w eE) l v B:=hB
 have hBo':∀b Bs,B=b::Bs→G0.col b=4∧b∉Bs∧(∀x∈Bs,G0.col x=4)∧Bs.Nodup:=fun b Bs he=>by
  obtain⟨q1,q2,q3,q4⟩:=hBo b Bs he
  exact⟨q1,q2,fun x hx=>by simpa using q3 x hx,q4 rfl⟩
 unfold uw at hy
 split at hy
 rotate_left
 ·cases hy
 rename_i hc
 simp only[aiQ,decide_eq_true_eq,ajx]at hc
 obtain⟨h20,hll⟩:=hc
 have hy':=aki hy
 subst hy'
 refine Ll hf hname hb ?_
 have hshort:l.length≤1→∀os,∃G' vs nt,xc ⟨[.val (.sl eE) .own],[.val (.sl eE) .own],uw,[]⟩ w G0 [v] (dw l,()) v (Go.Sort.grow w os) G' vs nt:=fun h1 os=>by
  have hs:∀b,b<w.heap.size→(Go.Sort.grow w os).heap[b]?=w.heap[b]?:=fun b h=>by
   show(w.heap++os)[b]?=_
   rw[ai8 h]
  have e:dw l=l:=Vl _ h1
  rw[e]
  refine H8 (e:=eE) hlot hB hBo' (B':=B) (hB.mono (fun b hb=>hs b (dp.bounds hB b hb))) (fun b Bs he=>⟨Bs,he,List.Perm.refl _⟩) (fun b h _=>hs b h) (fun b Bs he=> ?_) ?_ rfl rfl rfl
  ·obtain⟨c,el,hc⟩:=hlot.fresh b (by rw[(hBo' b Bs he).1];exact aiP _)
   exact⟨c,el,by rw[hs b (lt_of_block hc)];exact hc⟩
  ·show w.heap.size≤(w.heap++os).size
   rw[akc];omega
 by_cases h1:l.length≤1
 ·obtain⟨p,n,c,hv,hn⟩:∃p n c,v= .slice p n c∧n≤1:=by
   rcases hB with⟨⟨ao,e⟩,_,_⟩|⟨b,off,cap,c,el,fz,Bs,e,_⟩
   ·exact⟨ao,0,0,e,by omega⟩
   ·exact⟨_,_,_,e,h1⟩
  subst hv
  refine(tiny p n c hn w).mono ?_
  rintro e w' ⟨rfl,os,rfl⟩
  exact⟨_,rfl,hshort h1 os⟩
 have hB0:=hB
 rcases hB with⟨_,e,_⟩|⟨b,off,cap,c,el,fz,Bs,rfl,hcap,hbk,hsz,rfl,hl⟩
 ·exact absurd (by rw[e];simp) h1
 obtain⟨q1,q2,q3,q4⟩:=hBo' b Bs rfl
 have hfz:fz=(0,0):=by
  obtain⟨c',el',hc'⟩:=hlot.fresh b (by rw[q1];exact aiP _)
  rw[hbk]at hc'
  simp only[aiS,Obj.cells.injEq]at hc'
  exact hc'.2.2
 subst hfz
 obtain⟨L,hL,hlL,hcs,hBs⟩:=Nb hl
 have hbnd:∀x∈Bs,x<w.heap.size:=fun x hx=>dp.bounds hB0 x (by simp[hx])
 have hLp:∀x∈L,aQ w eE x.1 x.2.1 x.2.2∧b∉x.2.2∧x.1.1.length<4611686018427387904:=fun x hx=>by
  refine⟨hL x hx,fun hm=>q2 (by rw[hBs];exact List.mem_flatMap.2 ⟨x,hx,hm⟩),hll x.1 ?_⟩
  rw[hlL];exact aj5.2 ⟨x,hx,rfl⟩
 obtain⟨LA,hLA⟩:=VN L hLp
 have hlenL:LA.length=l.length:=by rw[hlL,←hLA];simp
 haveI:Inhabited {x:eE.den×List Value×List Nat//aQ w eE x.1 x.2.1 x.2.2∧b∉x.2.2∧x.1.1.length<4611686018427387904}:=⟨LA.head (by intro e;rw[e]at hlenL;simp at hlenL;omega)⟩
 have hk4:∀x:{x:eE.den×List Value×List Nat//aQ w eE x.1 x.2.1 x.2.2∧b∉x.2.2∧x.1.1.length<4611686018427387904},x.val.2.1.length=4:=fun x=>aQ.len x.property.1
 have hflat:∀M:List {x:eE.den×List Value×List Nat//aQ w eE x.1 x.2.1 x.2.2∧b∉x.2.2∧x.1.1.length<4611686018427387904},(M.map Subtype.val).flatMap (fun x=>x.2.1)=M.flatMap (fun x=>x.val.2.1):=fun M=>by
  rw[List.flatMap_map]
 have hcs2:LA.flatMap (fun x=>x.val.2.1)=(c.toList.drop off).take (l.length*4):=by
  rw[←hflat,hLA];exact hcs.symm
 have hH:Go.Sort.HoldsK (fun x:{x:eE.den×List Value×List Nat//aQ w eE x.1 x.2.1 x.2.2∧b∉x.2.2∧x.1.1.length<4611686018427387904}=>x.val.2.1) 4 w b off LA.toArray:=by
  intro j hj
  refine⟨?_,vK hbk _⟩
  rw[Go.Sort.size_flatK]at hj
  have hj2:j<LA.length*4:=by simpa using hj
  rw[Go.Sort.get_flatK _ _ _ _ hj]
  have h2:=Q1 (enc:=fun x:{x:eE.den×List Value×List Nat//aQ w eE x.1 x.2.1 x.2.2∧b∉x.2.2∧x.1.1.length<4611686018427387904}=>x.val.2.1) hk4 (by omega) LA j hj2
  rw[hcs2,ajf,if_pos (by omega),ajg,aiY]at h2
  unfold World.cell?
  simp only[hbk,ajs,ai0,if_false]
  rw[h2]
  simp
 have hlab:Go.Proofs.Pa (fun x:{x:eE.den×List Value×List Nat//aQ w eE x.1 x.2.1 x.2.2∧b∉x.2.2∧x.1.1.length<4611686018427387904}=>x.val.2.1) (fun x=>x.val.1.1) b w:=by
  rintro⟨⟨a,ac,aB⟩,ha,hbn,hal⟩
  obtain⟨_,v1,B1,hv1,hsub,hrep⟩:=Zw ha
  rcases hrep with⟨⟨ao,e1⟩,e2,_⟩|⟨b1,off1,cap1,c1,el1,fz1,Bs1,e1,hcap1,hbk1,hsz1,e2,hl1⟩
  ·have e2':a.1=[]:=e2
   refine⟨ao,0,?_,hal,fun i hi=> ?_⟩
   ·show ac[0]?=some (.slice ao a.1.length 0)
    rw[hv1,e1,e2'];rfl
   ·change i<a.1.length at hi
    rw[e2']at hi;simp at hi
  ·refine⟨some ⟨b1,off1,none⟩,cap1,?_,hal,fun i hi=> ?_⟩
   ·show ac[0]?=some (.slice (some ⟨b1,off1,none⟩) a.1.length cap1)
    rw[hv1,e1]
   ·change i<a.1.length at hi
    obtain⟨_,hq⟩:=UU hl1
    obtain⟨r1,r2⟩:=hq i hi
    refine⟨b1,off1,rfl,fun e=>hbn (hsub b (by rw[e2,e];simp)),lt_of_block hbk1,?_,?_⟩
    ·unfold World.cell?
     simp only[hbk1,ajs,ai0,if_false]
     rw[ajf,if_pos (by show i*2<a.1.length*2;omega),ajg,aiY]at r1
     exact r1
    ·unfold World.cell?
     simp only[hbk1,ajs,ai0,if_false]
     rw[ajf,if_pos (by show i*2+1<a.1.length*2;omega),ajg,aiY]at r2
     exact r2
 have hcall:=few (fun x:{x:eE.den×List Value×List Nat//aQ w eE x.1 x.2.1 x.2.2∧b∉x.2.2∧x.1.1.length<4611686018427387904}=>x.val.2.1) hk4 (fun x=>(Zw x.property.1).1) (fun x=>x.val.1.1) b off cap LA.toArray w
  (by simp;omega) (by simp;omega) hH (lt_of_block hbk) hlab
 rw[abY _ LA (by omega)]at hcall
 have hsz2:LA.toArray.size=l.length:=by simpa using hlenL
 rw[hsz2]at hcall
 refine hcall.mono ?_
 rintro e w' ⟨rfl,n,os,hw⟩
 refine⟨_,rfl,?_⟩
 have hblk:b<w.heap.size:=lt_of_block hbk
 generalize hLS:gg (fun x y:{x:eE.den×List Value×List Nat//aQ w eE x.1 x.2.1 x.2.2∧b∉x.2.2∧x.1.1.length<4611686018427387904}=>bD x.val.1.1 y.val.1.1) LA=LS at hw
 have hperm:LS.Perm LA:=by rw[←hLS];exact Hx _ _
 have hheap:∀k,k<w.heap.size→k≠b→w'.heap[k]?=w.heap[k]?:=fun k hk hne=>by
  rw[hw]
  show((w.heap.modify b _)++os)[k]?=_
  rw[ai8 (by rw[ajH];exact hk),ajU,if_neg (fun h=>hne h.symm)]
 have hrow:w'.heap[b]?=some (.cells (Go.Sort.putCells id off (Go.Sort.flatK (fun x:{x:eE.den×List Value×List Nat//aQ w eE x.1 x.2.1 x.2.2∧b∉x.2.2∧x.1.1.length<4611686018427387904}=>x.val.2.1) 4 LS.toArray) c) el (0,0)):=by
  rw[hw]
  show((w.heap.modify b _)++os)[b]?=_
  rw[ai8 (by rw[ajH];exact hblk),ajU,if_pos rfl,hbk]
  rfl
 have hLSlen:LS.length=l.length:=by rw[hperm.length_eq,hlenL]
 have hFs:(Go.Sort.flatK (fun x:{x:eE.den×List Value×List Nat//aQ w eE x.1 x.2.1 x.2.2∧b∉x.2.2∧x.1.1.length<4611686018427387904}=>x.val.2.1) 4 LS.toArray).size=l.length*4:=by
  rw[Go.Sort.size_flatK];simp[hLSlen]
 have hsz4:off+cap*4≤c.size:=hsz
 have hsortl:dw l=(LS.map Subtype.val).map (·.1):=by
  rw[hlL,←hLA,←hLS,aj2,aj2]
  unfold dw
  exact(YW (lt:=fun x y:{x:eE.den×List Value×List Nat//aQ w eE x.1 x.2.1 x.2.2∧b∉x.2.2∧x.1.1.length<4611686018427387904}=>bD x.val.1.1 y.val.1.1) (lt':=db) ((·.1)∘Subtype.val) (fun _ _=>rfl) LA).symm
 have hpermB:((LS.map Subtype.val).flatMap (·.2.2)).Perm Bs:=by
  rw[hBs,←hLA]
  exact List.Perm.flatMap_right _ (hperm.map _)
 have hB':dp w' eE.sz (aQ w' eE) (dw l) (.slice (some ⟨b,off,none⟩) l.length cap) (b::(LS.map Subtype.val).flatMap (·.2.2)):=by
  have hll':(dw l).length=l.length:=by rw[hsortl];simp[hLSlen]
  refine .inr ⟨b,off,cap,_,el,(0,0),_,by rw[hll'],by rw[hll'];exact hcap,hrow,by rw[ab9];exact hsz,rfl,?_⟩
  have:=NI (R:=aQ w' eE) (LS.map Subtype.val) (fun x hx=>by
   obtain⟨z,hz,rfl⟩:=aj5.1 hx
   refine aQ.mono (fun k hk=> ?_) z.property.1
   refine hheap k (aQ.bounds z.property.1 k hk) (fun e=>z.property.2.1 (e▸hk)))
  rw[hll',hsortl]
  have e2:((Go.Sort.putCells id off (Go.Sort.flatK (fun x:{x:eE.den×List Value×List Nat//aQ w eE x.1 x.2.1 x.2.2∧b∉x.2.2∧x.1.1.length<4611686018427387904}=>x.val.2.1) 4 LS.toArray) c).toList.drop off).take (l.length*eE.sz)=(LS.map Subtype.val).flatMap (fun x=>x.2.1):=by
   have hp:=abd (F:=Go.Sort.flatK (fun x:{x:eE.den×List Value×List Nat//aQ w eE x.1 x.2.1 x.2.2∧b∉x.2.2∧x.1.1.length<4611686018427387904}=>x.val.2.1) 4 LS.toArray) (c:=c) (off:=off) (by rw[hFs];omega)
   rw[hFs]at hp
   rw[hflat,←XW hk4 (by omega) LS]
   exact hp
  rw[e2]
  exact this
 refine H8 (e:=eE) hlot hB0 hBo' hB' (fun b2 Bs2 he=> ?_) (fun k hk hne=>hheap k hk (fun e=>hne Bs (by rw[e]))) (fun b2 Bs2 he=> ?_) ?_ ?_ ?_ ?_
 ·obtain⟨rfl,rfl⟩:=ajF he
  exact⟨Bs,rfl,hpermB⟩
 ·obtain⟨rfl,rfl⟩:=ajF he
  exact⟨_,_,hrow⟩
 ·rw[hw]
  show w.heap.size≤((w.heap.modify b _)++os).size
  rw[akc,ajH];omega
 ·rw[hw];rfl
 ·rw[hw];rfl
 ·rw[hw];rfl
end Vg
namespace Go.Proofs
open Go.Shelf Go.RowKit Go.Lib Go.Sort
variable {P:Program} {ρ:Ren} {α:Type} [Inhabited α]
def kD (d:Array α) (a b:Nat):Nat→Array α
 |0=>d
 |n+1=>swp (kD d a b n) (a+n) (b+n)
@[simp] theorem fi (d:Array α) (a b:Nat):∀n,(kD d a b n).size=d.size
  |0=>rfl
  |n+1=>by rw[kD,size_swp,fi d a b n]
set_option maxHeartbeats 1600000 in
set_option maxRecDepth 1000000 in
theorem WJ (L:LaysGt.n49 P ρ) {enc:α→List Value} {k:Nat} (hk:∀x,(enc x).length=k) (lf:Fn) (la lb:Array Value) (sf:Nat) (sb:Array Value) {blk off:Nat} (a b n:Nat) {d:Array α} {w:World}
 (hswap:SwapSwapsK P sf sb enc k blk off d.size) (hH:HoldsK enc k w blk off d) (hblk:blk<w.heap.size) (ha:a+n≤d.size) (hb:b+n≤d.size) (hsz:d.size<4611686018427387904):
 Calls P (ρ.f 49) #[.agg #[.func lf la lb,.func (.func sf) #[] sb],.int .i64 a,.int .i64 b,.int .i64 n] w fun e w'=>e= .returned (.tuple #[])∧∃m os,w'=sortWorldK enc k w blk off m (kD d a b n) os:=by
 have mixed:=L.mixed;have t0:=L.t0;have a0:=L.a0;have z0:=L.z0;have v0:=L.v0;have t3:=L.t3;have a3:=L.a3;have z3:=L.z3;have v3:=L.v3;have t4:=L.t4;have a4:=L.a4;have z4:=L.z4;have v4:=L.v4;have t26:=L.t26;have a26:=L.a26;have z26:=L.z26;have v26:=L.v26;have t38:=L.t38;have a38:=L.a38;have z38:=L.z38;have v38:=L.v38;have t42:=L.t42;have a42:=L.a42;have z42:=L.z42;have v42:=L.v42
 have u42:=run_underlying L.t42
 have hH1:HoldsK enc k (w.alloc (.cells #[.func lf la lb,.func (.func sf) #[] sb] (ρ.t 42))) blk off d:=by rw[alloc_eq_grow];exact holdsK_grow enc k w _ blk off d hblk hH
 go_enter L.f49,BodyGt.n49_ntmps ρ
 go_wp2
 go_loopg [8] n (fun kx s8 wr=>∃(i:Nat) (m:Nat),s8= .int .i64 i∧i≤n∧n-i≤kx∧wr=putRowK enc k (Sort.ahead (w.alloc (.cells #[.func lf la lb,.func (.func sf) #[] sb] (ρ.t 42))) m) blk off (kD d a b i))
 case atStart=>exact⟨0,0,rfl,by omega,by omega,(putRowK_self enc k _ blk off d hH1).symm⟩
 case round=>
  obtain⟨i,m,rfl,hi,hkx,hwr⟩:=hrel
  by_cases hlt:i<n
  ·have hds:(kD d a b i).size=d.size:=fi d a b i
   have hHk:HoldsK enc k wr blk off (kD d a b i):=by rw[hwr];exact holdsK_putRowK enc k _ blk off d _ (holdsK_ahead enc k _ m blk off d hH1) hds
   have c1:wr.cell? ⟨w.heap.size,1,none⟩=some (.func (.func sf) #[] sb):=by
    rw[hwr,cell?_putRowK_other enc k _ blk off _ _ (by show w.heap.size≠blk;omega)];show((w.alloc (.cells #[.func lf la lb,.func (.func sf) #[] sb] (ρ.t 42)))).cell? _=_;simp
   have hs:=hswap wr _ hHk hds (a+i) (b+i) (by omega) (by omega)
   have A:Aside (wr=putRowK enc k (Sort.ahead (w.alloc (.cells #[.func lf la lb,.func (.func sf) #[] sb] (ρ.t 42))) m) blk off (kD d a b i)):=hwr
   clear hwr hHk hH hH1 hswap
   rw[show(((a+i:Nat):Int))=(a:Int)+i by omega,show(((b+i:Nat):Int))=(b:Int)+i by omega]at hs
   go_wp2
   go_roundg (n-(i+1))
   case measure=>omega
   case rel=>
    exact⟨i+1,m,by simp,by omega,aiP _,by rw[A.out,kD,←putRowK_swp enc k hk _ blk off _ (a+i) (b+i) (by omega) (by omega)]⟩
  ·obtain rfl:i=n:=by omega
   go_wp2
   go_end0
   exact⟨rfl,m,_,sortWorldK_of_alloc enc k w _ blk off m _ hblk⟩
def qK (m:Nat) (d:Array α) (i j:Nat):Array α:=
 if h:0<i∧0<j∧i≠j then
  if j<i then qK m (kD d (m-i) m j) (i-j) j else qK m (kD d (m-i) (m+j-i) i) i (j-i)
 else kD d (m-i) m i
termination_by i+j
decreasing_by all_goals omega
theorem e9 (m:Nat) (d:Array α) (i j:Nat):(qK m d i j).size=d.size:=by
 fun_induction qK m d i j with
 |case1 d i j h1 h2 ih=>rw[ih,fi]
 |case2 d i j h1 h2 ih=>rw[ih,fi]
 |case3 d i j h=>rw[fi]
set_option maxHeartbeats 3200000 in
set_option maxRecDepth 1000000 in
theorem abe (L:LaysGt.n42 P ρ) {enc:α→List Value} {k:Nat} (hk:∀x,(enc x).length=k) (lf:Fn) (la lb:Array Value) (sf:Nat) (sb:Array Value) {blk off:Nat} (a m b:Nat) {d:Array α} {w:World}
 (hswap:SwapSwapsK P sf sb enc k blk off d.size) (hH:HoldsK enc k w blk off d) (hblk:blk<w.heap.size) (ham:a<m) (hmb:m<b) (hb:b≤d.size) (hsz:d.size<4611686018427387904):
 Calls P (ρ.f 42) #[.agg #[.func lf la lb,.func (.func sf) #[] sb],.int .i64 a,.int .i64 m,.int .i64 b] w fun e w'=>e= .returned (.tuple #[])∧∃n os,w'=sortWorldK enc k w blk off n (qK m d (m-a) (b-m)) os:=by
 have mixed:=L.mixed;have t0:=L.t0;have a0:=L.a0;have z0:=L.z0;have v0:=L.v0;have t3:=L.t3;have a3:=L.a3;have z3:=L.z3;have v3:=L.v3;have t4:=L.t4;have a4:=L.a4;have z4:=L.z4;have v4:=L.v4;have t26:=L.t26;have a26:=L.a26;have z26:=L.z26;have v26:=L.v26;have t38:=L.t38;have a38:=L.a38;have z38:=L.z38;have v38:=L.v38;have t42:=L.t42;have a42:=L.a42;have z42:=L.z42;have v42:=L.v42
 have u42:=run_underlying L.t42
 have e49:∀args w,(callFunc (ρ.f 49) args).run P w= .ok (.enter (ρ.f 49) args) w:=enters_of L.f49 (by kernel_rfl) rfl
 have hH1:HoldsK enc k (w.alloc (.cells #[.func lf la lb,.func (.func sf) #[] sb] (ρ.t 42))) blk off d:=by rw[alloc_eq_grow];exact holdsK_grow enc k w _ blk off d hblk hH
 have hb1:blk<(w.alloc (.cells #[.func lf la lb,.func (.func sf) #[] sb] (ρ.t 42))).heap.size:=by rw[alloc_eq_grow,size_grow];omega
 have bx:∀(q:Nat) (v:Value),(w.alloc (.cells #[.func lf la lb,.func (.func sf) #[] sb] (ρ.t 42))).cell? ⟨w.heap.size,q,none⟩=some v→∀n (X:Array α) os,(sortWorldK enc k (w.alloc (.cells #[.func lf la lb,.func (.func sf) #[] sb] (ρ.t 42))) blk off n X os).cell? ⟨w.heap.size,q,none⟩=some v:=fun q v h n X os=>by
  unfold sortWorldK
  rw[cell?_grow _ _ _ (by rw[size_putRowK];show w.heap.size<(w.alloc _).heap.size;rw[alloc_eq_grow,size_grow];simp),cell?_putRowK_other enc k _ blk off _ _ (by show w.heap.size≠blk;omega)];exact h
 have bx0:=bx 0 (.func lf la lb) (by simp)
 have bx1:=bx 1 (.func (.func sf) #[] sb) (by simp)
 have hcall:∀(n:Nat) (X:Array α) os,X.size=d.size→∀x y z:Nat,x+z≤d.size→y+z≤d.size→
  Calls P (ρ.f 49) #[.agg #[.func lf la lb,.func (.func sf) #[] sb],.int .i64 x,.int .i64 y,.int .i64 z] (sortWorldK enc k (w.alloc (.cells #[.func lf la lb,.func (.func sf) #[] sb] (ρ.t 42))) blk off n X os) fun e w'=>
   e= .returned (.tuple #[])∧∃n' os',w'=sortWorldK enc k (w.alloc (.cells #[.func lf la lb,.func (.func sf) #[] sb] (ρ.t 42))) blk off n' (kD X x y z) os':=fun n X os hX x y z h1 h2=>by
  refine(WJ ({L with}:LaysGt.n49 P ρ) hk lf la lb sf sb x y z (d:=X) (by rw[hX];exact hswap) (holdsK_sortWorldK enc k _ blk off n d X os hb1 hH1 hX) ?_ (by omega) (by omega) (by omega)).mono ?_
  ·unfold sortWorldK;rw[size_grow,size_putRowK];show blk<(w.alloc _).heap.size+_;omega
  ·rintro e w' ⟨rfl,n',os',rfl⟩
   exact⟨rfl,_,_,sortWorldK_on enc k _ blk off n n' X _ os os' hb1 (fi ..)⟩
 have hstart:=sortWorldK_start enc k _ blk off d hH1
 have hfin:∀n (X:Array α) os,∃n' os',sortWorldK enc k (w.alloc (.cells #[.func lf la lb,.func (.func sf) #[] sb] (ρ.t 42))) blk off n X os=sortWorldK enc k w blk off n' X os':=fun n X os=>
  ⟨n,_,by unfold sortWorldK;rw[alloc_eq_grow,ahead_grow,putRowK_grow enc k (Sort.ahead w n) _ blk off _ hblk,grow_grow]⟩
 clear bx hswap hH hH1
 generalize hW1:w.alloc (.cells #[.func lf la lb,.func (.func sf) #[] sb] (ρ.t 42))=W1 at*
 go_enter L.f42,BodyGt.n42_ntmps ρ
 go_wp2
 go_loopg [8,9] (b-a) (fun kx s8 s9 wr=>∃(i j:Nat) (n:Nat) (X:Array α) (os:Array Obj),s8= .int .i64 i∧s9= .int .i64 j∧0<i∧0<j∧i≤m∧m+j≤d.size∧i+j≤kx∧X.size=d.size∧
  wr=sortWorldK enc k W1 blk off n X os∧qK m X i j=qK m d (m-a) (b-m))
 case atStart=>exact⟨m-a,b-m,0,d, #[],by congr 1;omega,by congr 1;omega,by omega,by omega,by omega,by omega,by omega,rfl,hstart.symm,rfl⟩
 case round=>
  obtain⟨i,j,n,X,os,rfl,rfl,hi,hj,him,hmj,hkx,hX,hwr,hR⟩:=hrel
  have c0:wr.cell? ⟨w.heap.size,0,none⟩=some (.func lf la lb):=by rw[hwr];exact bx0 n X os
  have c1:wr.cell? ⟨w.heap.size,1,none⟩=some (.func (.func sf) #[] sb):=by rw[hwr];exact bx1 n X os
  have hc:=hcall n X os hX
  rw[←hwr]at hc
  clear hwr hcall bx0 bx1
  rw[qK]at hR
  by_cases heq:i=j
  ·subst heq
   rw[dif_neg (by omega)]at hR
   have hc:=hc (m-i) m i (by omega) (by omega)
   rw[show(((m-i:Nat):Int))=(m:Int)-i by omega]at hc
   go_wp2_with (go_at_fn (ρ.f 49);refine hc.mono ?_;rintro e w1 ⟨rfl,n2,os2,rfl⟩)
   go_end0
   exact⟨rfl,hfin _ _ _⟩
  ·rw[dif_pos ⟨hi,hj,heq⟩]at hR
   by_cases hji:j<i
   ·rw[if_pos hji]at hR
    have hc:=hc (m-i) m j (by omega) (by omega)
    rw[show(((m-i:Nat):Int))=(m:Int)-i by omega]at hc
    go_wp2_with (go_at_fn (ρ.f 49);refine hc.mono ?_;rintro e w1 ⟨rfl,n2,os2,rfl⟩)
    go_roundg (i+j-j)
    case measure=>omega
    case rel=>exact⟨i-j,j,n2,_,os2,by congr 1;omega,rfl,by omega,by omega,by omega,by omega,by omega,by rw[fi];exact hX,rfl,hR⟩
   ·rw[if_neg hji]at hR
    have hc:=hc (m-i) (m+j-i) i (by omega) (by omega)
    rw[show(((m-i:Nat):Int))=(m:Int)-i by omega,show(((m+j-i:Nat):Int))=(m:Int)+j-i by omega]at hc
    go_wp2_with (go_at_fn (ρ.f 49);refine hc.mono ?_;rintro e w1 ⟨rfl,n2,os2,rfl⟩)
    go_roundg (i+j-i)
    case measure=>omega
    case rel=>exact⟨i,j-i,n2,_,os2,rfl,by congr 1;omega,by omega,by omega,by omega,by omega,by omega,by rw[fi];exact hX,rfl,hR⟩
variable {P:Program} {ρ:Ren} {α:Type} [Inhabited α]
def gY (p:Nat→Bool) (i j:Nat):Nat:=
 if h:i<j then(if p ((i+j)/2)then gY p ((i+j)/2+1) j else gY p i ((i+j)/2))else i
termination_by j-i
decreasing_by all_goals omega
def js (d:Array α) (k e:Nat):Array α:=if k<e then js (swp d k (k+1)) (k+1) e else d
termination_by e-k
def fk (d:Array α) (k e:Nat):Array α:=if h:e<k then fk (swp d k (k-1)) (k-1) e else d
termination_by k-e
theorem Fg (p:Nat→Bool) (i j:Nat) (h:i≤j):i≤gY p i j∧gY p i j≤j:=by
 fun_induction gY p i j with
 |case1 i j h1 h2 ih=>have:=ih (by omega);omega
 |case2 i j h1 h2 ih=>have:=ih (by omega);omega
 |case3 i j h1=>omega
theorem W0 (d:Array α) (k e:Nat):(js d k e).size=d.size:=by
 fun_induction js d k e with
 |case1 d k h ih=>rw[ih,size_swp]
 |case2 d k h=>rfl
theorem SY (d:Array α) (k e:Nat):(fk d k e).size=d.size:=by
 fun_induction fk d k e with
 |case1 d k h ih=>rw[ih,size_swp]
 |case2 d k h=>rfl
theorem IL (enc:α→List Value) (k:Nat) (w0:World) (blk off n q:Nat) (dk:Array α) (os:Array Obj):
 (sortWorldK enc k w0 blk off n dk os).drewN q=sortWorldK enc k w0 blk off (n+q) dk os:=by
 unfold sortWorldK;rw[←putRowK_drewN enc k w0 n q blk off dk];rfl
theorem NH {enc:α→List Value} {k:Nat} (hk:∀x,(enc x).length=k) (w0:World) {blk off:Nat} (n:Nat) {dk:Array α} (os:Array Obj) (hblk:blk<w0.heap.size) {i j:Nat} (hi:i<dk.size) (hj:j<dk.size):
 ((sortWorldK enc k w0 blk off n dk os).setCells blk (off+i*k) (enc dk[j]!)).setCells blk (off+j*k) (enc dk[i]!)=sortWorldK enc k w0 blk off n (swp dk i j) os:=by
 unfold sortWorldK
 rw[←putRowK_grow enc k (Sort.ahead w0 n) os blk off dk hblk,putRowK_swp enc k hk _ blk off dk i j hi hj,putRowK_grow enc k (Sort.ahead w0 n) os blk off _ hblk]
structure Yr (P:Program) (enc:α→List Value) (k:Nat) (lt:α→α→Bool) (g:Nat) (lb:Array Value) (sf:Nat) (sb:Array Value) (blk off size hb:Nat) (w W1:World):Prop where
 c0:∀n (X:Array α) os,(sortWorldK enc k W1 blk off n X os).cell? ⟨hb,0,none⟩=some (.func (.func g) #[] lb)
 c1:∀n (X:Array α) os,(sortWorldK enc k W1 blk off n X os).cell? ⟨hb,1,none⟩=some (.func (.func sf) #[] sb)
 less:∀n (X:Array α) os,X.size=size→∀i j:Nat,i<size→j<size→
  Calls P g (#[.int .i64 i,.int .i64 j]++lb) (sortWorldK enc k W1 blk off n X os) fun e w'=>e= .returned (.bool (lt X[i]! X[j]!))∧∃q,w'=sortWorldK enc k W1 blk off (n+q) X os
 swap:∀n (X:Array α) os,X.size=size→∀i j:Nat,i<size→j<size→
  (callFunc sf (#[.int .i64 i,.int .i64 j]++sb)).run P (sortWorldK enc k W1 blk off n X os)= .ok (.value (.tuple #[])) (sortWorldK enc k W1 blk off n (swp X i j) os)
 fin:∀n (X:Array α) os,∃n' os',sortWorldK enc k W1 blk off n X os=sortWorldK enc k w blk off n' X os'
 lt_blk:blk<W1.heap.size
theorem Ci {enc:α→List Value} {k:Nat} (hk:∀x,(enc x).length=k) {lt:α→α→Bool} {g:Nat} {lb:Array Value} {sf:Nat} {sb:Array Value} {blk off:Nat} {d:Array α} {w:World} {t:TypeId}
 (hless:LessReadsK P g lb enc k lt blk off d.size w) (hswap:SwapSwapsK P sf sb enc k blk off d.size) (hH:HoldsK enc k w blk off d) (hblk:blk<w.heap.size):
 Yr P enc k lt g lb sf sb blk off d.size w.heap.size w (w.alloc (.cells #[.func (.func g) #[] lb,.func (.func sf) #[] sb] t))∧
  sortWorldK enc k (w.alloc (.cells #[.func (.func g) #[] lb,.func (.func sf) #[] sb] t)) blk off 0 d #[]=w.alloc (.cells #[.func (.func g) #[] lb,.func (.func sf) #[] sb] t):=by
 have hH1:HoldsK enc k (w.alloc (.cells #[.func (.func g) #[] lb,.func (.func sf) #[] sb] t)) blk off d:=by rw[alloc_eq_grow];exact holdsK_grow enc k w _ blk off d hblk hH
 have hb1:blk<(w.alloc (.cells #[.func (.func g) #[] lb,.func (.func sf) #[] sb] t)).heap.size:=by rw[alloc_eq_grow,size_grow];omega
 have bx:∀(q:Nat) (v:Value),(w.alloc (.cells #[.func (.func g) #[] lb,.func (.func sf) #[] sb] t)).cell? ⟨w.heap.size,q,none⟩=some v→∀n (X:Array α) os,(sortWorldK enc k (w.alloc (.cells #[.func (.func g) #[] lb,.func (.func sf) #[] sb] t)) blk off n X os).cell? ⟨w.heap.size,q,none⟩=some v:=fun q v h n X os=>by
  unfold sortWorldK
  rw[cell?_grow _ _ _ (by rw[size_putRowK];show w.heap.size<(w.alloc _).heap.size;rw[alloc_eq_grow,size_grow];simp),cell?_putRowK_other enc k _ blk off _ _ (by show w.heap.size≠blk;omega)];exact h
 have hl1:LessReadsK P g lb enc k lt blk off d.size (w.alloc (.cells #[.func (.func g) #[] lb,.func (.func sf) #[] sb] t)):=by rw[alloc_eq_grow];exact hless.grow hblk _
 refine⟨⟨bx 0 _ (by simp),bx 1 _ (by simp),fun n X os hX i j hi hj=> ?_,fun n X os hX i j hi hj=> ?_,fun n X os=> ?_,hb1⟩,sortWorldK_start enc k _ blk off d hH1⟩
 ·refine(hl1 n os X hX i j hi hj).mono ?_
  rintro e w' ⟨rfl,q,rfl⟩
  exact⟨rfl,q,IL ..⟩
 ·rw[hswap _ X (holdsK_sortWorldK enc k _ blk off n d X os hb1 hH1 hX) hX i j hi hj,NH hk _ n os hb1 (by omega) (by omega)]
 ·exact⟨n,_,by unfold sortWorldK;rw[alloc_eq_grow,ahead_grow,putRowK_grow enc k (Sort.ahead w n) _ blk off _ hblk,grow_grow]⟩
set_option maxHeartbeats 3200000 in
set_option maxRecDepth 1000000 in
theorem aau (L:LaysGt.n30 P ρ) {enc:α→List Value} {k:Nat} (hk:∀x,(enc x).length=k) (lt:α→α→Bool) {g:Nat} {lb:Array Value} {sf:Nat} {sb:Array Value} {blk off:Nat} (a m b:Nat) {d:Array α} {w:World}
 (eg:∀args w,(callFunc g args).run P w= .ok (.enter g args) w) (hless:LessReadsK P g lb enc k lt blk off d.size w) (hswap:SwapSwapsK P sf sb enc k blk off d.size) (hH:HoldsK enc k w blk off d) (hblk:blk<w.heap.size)
 (ham:a<m) (ham2:m≤a+1) (hmb:m<b) (hb:b≤d.size) (hsz:d.size<4611686018427387904):
 Calls P (ρ.f 30) #[.agg #[.func (.func g) #[] lb,.func (.func sf) #[] sb],.int .i64 a,.int .i64 m,.int .i64 b] w fun e w'=>e= .returned (.tuple #[])∧
  ∃n os,w'=sortWorldK enc k w blk off n (js d a (gY (fun h=>lt d[h]! d[a]!) m b-1)) os:=by
 have mixed:=L.mixed;have t0:=L.t0;have a0:=L.a0;have z0:=L.z0;have v0:=L.v0;have t3:=L.t3;have a3:=L.a3;have z3:=L.z3;have v3:=L.v3;have t4:=L.t4;have a4:=L.a4;have z4:=L.z4;have v4:=L.v4;have t26:=L.t26;have a26:=L.a26;have z26:=L.z26;have v26:=L.v26;have t38:=L.t38;have a38:=L.a38;have z38:=L.z38;have v38:=L.v38;have t42:=L.t42;have a42:=L.a42;have z42:=L.z42;have v42:=L.v42;have t47:=L.t47;have a47:=L.a47;have z47:=L.z47;have v47:=L.v47
 have u42:=run_underlying L.t42
 obtain⟨B,hstart⟩:=Ci (t:=ρ.t 42) hk hless hswap hH hblk
 clear hless hswap hH
 generalize hW1:w.alloc (.cells #[.func (.func g) #[] lb,.func (.func sf) #[] sb] (ρ.t 42))=W1 at*
 have q1:((m:Int)-(a:Int)==1)=true:=by rw[beq_iff_eq];omega
 go_enter L.f30,BodyGt.n30_ntmps ρ
 go_wp2
 go_loopg [8,9] (b-a) (fun kx s8 s9 wr=>∃(i j n:Nat) (os:Array Obj),s8= .int .i64 i∧s9= .int .i64 j∧m≤i∧i≤j∧j≤b∧j-i≤kx∧wr=sortWorldK enc k W1 blk off n d os∧
  gY (fun h=>lt d[h]! d[a]!) i j=gY (fun h=>lt d[h]! d[a]!) m b)
 case atStart=>exact⟨m,b,0, #[],rfl,rfl,by omega,by omega,by omega,by omega,hstart.symm,rfl⟩
 case round=>
  obtain⟨i,j,n,os,rfl,rfl,hai,hij,hjb,hkx,hwr,hbs⟩:=hrel
  have c0:=B.c0 n d os
  have c1:=B.c1 n d os
  rw[←hwr]at c0 c1
  by_cases hlt:i<j
  ·have hl:=B.less n d os rfl ((i+j)/2) a (by omega) (by omega)
   rw[←hwr]at hl
   rw[gY,dif_pos hlt]at hbs
   have HB:Hid _:=hbs
   clear hwr hbs B
   cases hv:lt d[(i+j)/2]! d[a]! with
   |true=>
    rw[hv]at hl HB
    go_wp2_with (go_at_fn g;refine hl.mono ?_;rintro e w' ⟨rfl,q,rfl⟩)
    go_roundg (j-((i+j)/2+1))
    case measure=>omega
    case rel=>exact⟨(i+j)/2+1,j,n+q,os,by go_num,rfl,by omega,by omega,by omega,aiP _,rfl,HB.out⟩
   |false=>
    rw[hv]at hl HB
    go_wp2_with (go_at_fn g;refine hl.mono ?_;rintro e w' ⟨rfl,q,rfl⟩)
    go_roundg ((i+j)/2-i)
    case measure=>omega
    case rel=>exact⟨i,(i+j)/2,n+q,os,rfl,by go_num,by omega,by omega,by omega,aiP _,rfl,HB.out⟩
  ·obtain rfl:i=j:=by omega
   rw[gY,dif_neg hlt]at hbs
   have HB:Hid _:=hbs
   clear hbs
   go_wp2
   go_loopg [11] (i-a) (fun kx s11 wr2=>∃(c n:Nat) (X:Array α) (os:Array Obj),s11= .int .i64 c∧a≤c∧c≤i-1∧i-c≤kx∧X.size=d.size∧wr2=sortWorldK enc k W1 blk off n X os∧
    js X c (i-1)=js d a (i-1))
   case atStart=>exact⟨a,n,d,os,rfl,by omega,by omega,by omega,rfl,(by first|exact hwr|rfl),rfl⟩
   case round=>
    obtain⟨c,n2,X,os2,rfl,hac,hci,hkx2,hX,hwr2,hmv⟩:=hrel
    have c1:=B.c1 n2 X os2
    rw[←hwr2]at c1
    by_cases hlt2:c<i-1
    ·have hs:=B.swap n2 X os2 hX c (c+1) (by omega) (by omega)
     rw[←hwr2,show(((c+1:Nat):Int))=(c:Int)+1 by omega]at hs
     rw[js,if_pos hlt2]at hmv
     have HM:Hid _:=hmv
     clear hmv hwr2 hwr B c0
     go_wp2
     go_roundg (i-(c+1))
     case measure=>omega
     case rel=>exact⟨c+1,n2,_,os2,by go_num,by omega,by omega,aiP _,by rw[size_swp];exact hX,rfl,HM.out⟩
    ·rw[js,if_neg hlt2]at hmv
     have HM:Hid _:=hmv
     have hf:=B.fin n2 X os2
     rw[←hwr2]at hf
     clear hmv hwr2 hwr B c0
     go_wp2
     (try simp only[Exit.inBlock,Exit.then]);refine bodyPost_ret (results_none rfl _ _ _) rfl ?_
     rw[←HB.out,←HM.out]
     exact⟨rfl,hf⟩
variable {P:Program} {ρ:Ren} {α:Type} [Inhabited α]
set_option maxHeartbeats 3200000 in
set_option maxRecDepth 1000000 in
theorem XV (L:LaysGt.n30 P ρ) {enc:α→List Value} {k:Nat} (hk:∀x,(enc x).length=k) (lt:α→α→Bool) {g:Nat} {lb:Array Value} {sf:Nat} {sb:Array Value} {blk off:Nat} (a m b:Nat) {d:Array α} {w:World}
 (eg:∀args w,(callFunc g args).run P w= .ok (.enter g args) w) (hless:LessReadsK P g lb enc k lt blk off d.size w) (hswap:SwapSwapsK P sf sb enc k blk off d.size) (hH:HoldsK enc k w blk off d) (hblk:blk<w.heap.size)
 (ham:a+1<m) (hmb:m<b) (hmb2:b≤m+1) (hb:b≤d.size) (hsz:d.size<4611686018427387904):
 Calls P (ρ.f 30) #[.agg #[.func (.func g) #[] lb,.func (.func sf) #[] sb],.int .i64 a,.int .i64 m,.int .i64 b] w fun e w'=>e= .returned (.tuple #[])∧
  ∃n os,w'=sortWorldK enc k w blk off n (fk d m (gY (fun h=> !lt d[m]! d[h]!) a m)) os:=by
 have mixed:=L.mixed;have t0:=L.t0;have a0:=L.a0;have z0:=L.z0;have v0:=L.v0;have t3:=L.t3;have a3:=L.a3;have z3:=L.z3;have v3:=L.v3;have t4:=L.t4;have a4:=L.a4;have z4:=L.z4;have v4:=L.v4;have t26:=L.t26;have a26:=L.a26;have z26:=L.z26;have v26:=L.v26;have t38:=L.t38;have a38:=L.a38;have z38:=L.z38;have v38:=L.v38;have t42:=L.t42;have a42:=L.a42;have z42:=L.z42;have v42:=L.v42;have t47:=L.t47;have a47:=L.a47;have z47:=L.z47;have v47:=L.v47
 have u42:=run_underlying L.t42
 obtain⟨B,hstart⟩:=Ci (t:=ρ.t 42) hk hless hswap hH hblk
 clear hless hswap hH
 generalize hW1:w.alloc (.cells #[.func (.func g) #[] lb,.func (.func sf) #[] sb] (ρ.t 42))=W1 at*
 have q1:((m:Int)-(a:Int)==1)=false:=by rw[beq_eq_false_iff_ne];omega
 have q2:((b:Int)-(m:Int)==1)=true:=by rw[beq_iff_eq];omega
 go_enter L.f30,BodyGt.n30_ntmps ρ
 go_wp2
 go_loopg [12,13] (b-a) (fun kx s8 s9 wr=>∃(i j n:Nat) (os:Array Obj),s8= .int .i64 i∧s9= .int .i64 j∧a≤i∧i≤j∧j≤m∧j-i≤kx∧wr=sortWorldK enc k W1 blk off n d os∧
  gY (fun h=> !lt d[m]! d[h]!) i j=gY (fun h=> !lt d[m]! d[h]!) a m)
 case atStart=>exact⟨a,m,0, #[],rfl,rfl,by omega,by omega,by omega,by omega,hstart.symm,rfl⟩
 case round=>
  obtain⟨i,j,n,os,rfl,rfl,hai,hij,hjb,hkx,hwr,hbs⟩:=hrel
  have c0:=B.c0 n d os
  have c1:=B.c1 n d os
  rw[←hwr]at c0 c1
  by_cases hlt:i<j
  ·have hl:=B.less n d os rfl m ((i+j)/2) (by omega) (by omega)
   rw[←hwr]at hl
   rw[gY,dif_pos hlt]at hbs
   have HB:Hid _:=hbs
   clear hwr hbs B
   cases hv:lt d[m]! d[(i+j)/2]! with
   |false=>
    rw[hv]at hl HB
    go_wp2_with (go_at_fn g;refine hl.mono ?_;rintro e w' ⟨rfl,q,rfl⟩)
    go_roundg (j-((i+j)/2+1))
    case measure=>omega
    case rel=>exact⟨(i+j)/2+1,j,n+q,os,by go_num,rfl,by omega,by omega,by omega,aiP _,rfl,HB.out⟩
   |true=>
    rw[hv]at hl HB
    go_wp2_with (go_at_fn g;refine hl.mono ?_;rintro e w' ⟨rfl,q,rfl⟩)
    go_roundg ((i+j)/2-i)
    case measure=>omega
    case rel=>exact⟨i,(i+j)/2,n+q,os,rfl,by go_num,by omega,by omega,by omega,aiP _,rfl,HB.out⟩
  ·obtain rfl:i=j:=by omega
   rw[gY,dif_neg hlt]at hbs
   have HB:Hid _:=hbs
   clear hbs
   go_wp2
   go_loopg [15] (m-i) (fun kx s11 wr2=>∃(c n:Nat) (X:Array α) (os:Array Obj),s11= .int .i64 c∧i≤c∧c≤m∧c-i≤kx∧X.size=d.size∧wr2=sortWorldK enc k W1 blk off n X os∧
    fk X c i=fk d m i)
   case atStart=>exact⟨m,n,d,os,rfl,by omega,by omega,by omega,rfl,(by first|exact hwr|rfl),rfl⟩
   case round=>
    obtain⟨c,n2,X,os2,rfl,hac,hci,hkx2,hX,hwr2,hmv⟩:=hrel
    have c1:=B.c1 n2 X os2
    rw[←hwr2]at c1
    by_cases hlt2:i<c
    ·have hs:=B.swap n2 X os2 hX c (c-1) (by omega) (by omega)
     rw[←hwr2,show(((c-1:Nat):Int))=(c:Int)-1 by omega]at hs
     rw[fk,dif_pos hlt2]at hmv
     have HM:Hid _:=hmv
     clear hmv hwr2 hwr B c0
     go_wp2
     go_roundg (c-1-i)
     case measure=>omega
     case rel=>exact⟨c-1,n2,_,os2,by congr 1;omega,by omega,by omega,aiP _,by rw[size_swp];exact hX,rfl,HM.out⟩
    ·rw[fk,dif_neg hlt2]at hmv
     have HM:Hid _:=hmv
     have hf:=B.fin n2 X os2
     rw[←hwr2]at hf
     clear hmv hwr2 hwr B c0
     go_wp2
     (try simp only[Exit.inBlock,Exit.then]);refine bodyPost_ret (results_none rfl _ _ _) rfl ?_
     rw[←HB.out,←HM.out]
     exact⟨rfl,hf⟩
variable {P:Program} {ρ:Ren} {α:Type} [Inhabited α]
def bF (lt:α→α→Bool) (d:Array α) (a m b:Nat):Nat:=
 gY (fun c=> !lt d[(a+b)/2+m-1-c]! d[c]!) (if(a+b)/2<m then(a+b)/2+m-b else a) (if(a+b)/2<m then(a+b)/2 else m)
def dS (lt:α→α→Bool) (d:Array α) (a m b:Nat):Array α:=
 if bF lt d a m b<m∧m<(a+b)/2+m-bF lt d a m b then qK m d (m-bF lt d a m b) ((a+b)/2+m-bF lt d a m b-m)else d
def eY (lt:α→α→Bool) (d:Array α) (a m b:Nat):Array α:=
 if m≤a+1 then js d a (gY (fun h=>lt d[h]! d[a]!) m b-1)
 else if b≤m+1 then fk d m (gY (fun h=> !lt d[m]! d[h]!) a m)
 else
  let s:=bF lt d a m b
  let d2:=if h:a<s∧s<(a+b)/2 then eY lt (dS lt d a m b) a s ((a+b)/2)else dS lt d a m b
  if h:(a+b)/2<(a+b)/2+m-s∧(a+b)/2+m-s<b then eY lt d2 ((a+b)/2) ((a+b)/2+m-s) b else d2
termination_by b-a
decreasing_by all_goals omega
theorem Hm {lt:α→α→Bool} {d:Array α} {a m b:Nat} (ham:a<m) (hmb:m<b):
 a≤bF lt d a m b∧bF lt d a m b≤m∧bF lt d a m b≤(a+b)/2∧(a+b)/2+m-b≤bF lt d a m b:=by
 unfold bF
 split
 ·have:=Fg (fun c=> !lt d[(a+b)/2+m-1-c]! d[c]!) ((a+b)/2+m-b) ((a+b)/2) (by omega)
  omega
 ·have:=Fg (fun c=> !lt d[(a+b)/2+m-1-c]! d[c]!) a m (by omega)
  omega
theorem mW (lt:α→α→Bool) (d:Array α) (a m b:Nat):(dS lt d a m b).size=d.size:=by
 unfold dS;split
 ·rw[e9]
 ·rfl
theorem gV (lt:α→α→Bool):∀(N:Nat) (d:Array α) (a m b:Nat),b-a≤N→(eY lt d a m b).size=d.size
 |N,d,a,m,b,h=>by
  rw[eY]
  split
  ·rw[W0]
  split
  ·rw[SY]
  cases N with
  |zero=>
   dsimp only
   split
   ·rename_i h1;omega
   ·split
    ·rename_i h1;omega
    ·rw[mW]
  |succ N=>
   have key:(if h:a<bF lt d a m b∧bF lt d a m b<(a+b)/2 then eY lt (dS lt d a m b) a (bF lt d a m b) ((a+b)/2)else dS lt d a m b).size=d.size:=by
    split
    ·rw[gV lt N _ _ _ _ (by omega),mW]
    ·rw[mW]
   dsimp only
   split
   ·rw[gV lt N _ _ _ _ (by omega)];exact key
   ·exact key
def fw (lt:α→α→Bool) (d:Array α) (a m b:Nat):Array α:=
 if a<bF lt d a m b∧bF lt d a m b<(a+b)/2 then eY lt (dS lt d a m b) a (bF lt d a m b) ((a+b)/2)else dS lt d a m b
theorem IF {lt:α→α→Bool} {d:Array α} {a m b:Nat} (hl:¬m≤a+1) (hr:¬b≤m+1):
 eY lt d a m b=if(a+b)/2<(a+b)/2+m-bF lt d a m b∧(a+b)/2+m-bF lt d a m b<b then eY lt (fw lt d a m b) ((a+b)/2) ((a+b)/2+m-bF lt d a m b) b else fw lt d a m b:=by
 rw[eY,if_neg hl,if_neg hr]
 simp only[dite_eq_ite]
 rfl
theorem WN (lt:α→α→Bool) (d:Array α) (a m b:Nat):(fw lt d a m b).size=d.size:=by
 unfold fw;split
 ·rw[gV lt _ _ _ _ _ (aiP _),mW]
 ·rw[mW]
variable {P:Program} {ρ:Ren} {α:Type} [Inhabited α]
set_option maxHeartbeats 16000000 in
set_option maxRecDepth 1000000 in
theorem Y6 (L:LaysGt.n30 P ρ) {enc:α→List Value} {k:Nat} (hk:∀x,(enc x).length=k) (lt:α→α→Bool) {g:Nat} {lb:Array Value} {sf:Nat} {sb:Array Value} {blk off:Nat}
 (eg:∀args w,(callFunc g args).run P w= .ok (.enter g args) w):∀(N:Nat) (a m b:Nat) {d:Array α} {w:World},
 b-a≤N→LessReadsK P g lb enc k lt blk off d.size w→SwapSwapsK P sf sb enc k blk off d.size→HoldsK enc k w blk off d→blk<w.heap.size→a<m→m<b→b≤d.size→d.size<4611686018427387904→
 Calls P (ρ.f 30) #[.agg #[.func (.func g) #[] lb,.func (.func sf) #[] sb],.int .i64 a,.int .i64 m,.int .i64 b] w fun e w'=>e= .returned (.tuple #[])∧
  ∃n os,w'=sortWorldK enc k w blk off n (eY lt d a m b) os:=by
 intro N
 induction N with
 |zero=>intro a m b d w hN _ _ _ _ ham hmb;omega
 |succ N ih=>
 intro a m b d w hN hless hswap hH hblk ham hmb hb hsz
 by_cases hl:m≤a+1
 ·rw[eY,if_pos hl]
  exact aau L hk lt a m b eg hless hswap hH hblk ham hl hmb hb hsz
 by_cases hr:b≤m+1
 ·rw[eY,if_neg hl,if_pos hr]
  exact XV L hk lt a m b eg hless hswap hH hblk (by omega) hmb hr hb hsz
 obtain⟨B,hstart⟩:=Ci (t:=ρ.t 42) hk hless hswap hH hblk
 have hSW:∀n (X:Array α) os,SWK enc k w blk off X (sortWorldK enc k (w.alloc (.cells #[.func (.func g) #[] lb,.func (.func sf) #[] sb] (ρ.t 42))) blk off n X os):=fun n X os=>B.fin n X os
 have hrot:∀n (X:Array α) os,X.size=d.size→∀(s e:Nat) (zs ze:Int),zs=s→ze=e→s<m→m<e→e≤d.size→
  Calls P (ρ.f 42) #[.agg #[.func (.func g) #[] lb,.func (.func sf) #[] sb],.int .i64 zs,.int .i64 m,.int .i64 ze] (sortWorldK enc k (w.alloc (.cells #[.func (.func g) #[] lb,.func (.func sf) #[] sb] (ρ.t 42))) blk off n X os) fun e' w'=>
   e'= .returned (.tuple #[])∧∃n' os',w'=sortWorldK enc k (w.alloc (.cells #[.func (.func g) #[] lb,.func (.func sf) #[] sb] (ρ.t 42))) blk off n' (qK m X (m-s) (e-m)) os':=by
  intro n X os hX s e zs ze hs he h1 h2 h3
  subst hs;subst he
  refine(abe ({L with}:LaysGt.n42 P ρ) hk (.func g) #[] lb sf sb s m e (d:=X) (by rw[hX];exact hswap) ((hSW n X os).holds hblk hH hX) ((hSW n X os).lt hblk) h1 h2 (by omega) (by omega)).mono ?_
  rintro e' w' ⟨rfl,n',os',rfl⟩
  exact⟨rfl,_,_,sortWorldK_on enc k _ blk off n n' X _ os os' B.lt_blk (e9 ..)⟩
 have hrec:∀n (X:Array α) os,X.size=d.size→∀(a' m' b':Nat) (za zm zb:Int),za=a'→zm=m'→zb=b'→a'<m'→m'<b'→b'≤d.size→b'-a'≤N→
  Calls P (ρ.f 30) #[.agg #[.func (.func g) #[] lb,.func (.func sf) #[] sb],.int .i64 za,.int .i64 zm,.int .i64 zb] (sortWorldK enc k (w.alloc (.cells #[.func (.func g) #[] lb,.func (.func sf) #[] sb] (ρ.t 42))) blk off n X os) fun e' w'=>
   e'= .returned (.tuple #[])∧∃n' os',w'=sortWorldK enc k (w.alloc (.cells #[.func (.func g) #[] lb,.func (.func sf) #[] sb] (ρ.t 42))) blk off n' (eY lt X a' m' b') os':=by
  intro n X os hX a' m' b' za zm zb ha' hm' hb' h1 h2 h3 h4
  subst ha';subst hm';subst hb'
  refine(ih a' m' b' (d:=X) h4 (by rw[hX];exact(hSW n X os).lessReads hless hblk hX) (by rw[hX];exact hswap) ((hSW n X os).holds hblk hH hX) ((hSW n X os).lt hblk) h1 h2 (by omega) (by omega)).mono ?_
  rintro e' w' ⟨rfl,n',os',rfl⟩
  exact⟨rfl,_,_,sortWorldK_on enc k _ blk off n n' X _ os os' B.lt_blk (gV lt N _ _ _ _ h4)⟩
 have mixed:=L.mixed;have t0:=L.t0;have a0:=L.a0;have z0:=L.z0;have v0:=L.v0;have t3:=L.t3;have a3:=L.a3;have z3:=L.z3;have v3:=L.v3;have t4:=L.t4;have a4:=L.a4;have z4:=L.z4;have v4:=L.v4;have t26:=L.t26;have a26:=L.a26;have z26:=L.z26;have v26:=L.v26;have t38:=L.t38;have a38:=L.a38;have z38:=L.z38;have v38:=L.v38;have t42:=L.t42;have a42:=L.a42;have z42:=L.z42;have v42:=L.v42;have t47:=L.t47;have a47:=L.a47;have z47:=L.z47;have v47:=L.v47
 have u42:=run_underlying L.t42
 have e42:∀args w,(callFunc (ρ.f 42) args).run P w= .ok (.enter (ρ.f 42) args) w:=enters_of L.f42 (by kernel_rfl) rfl
 have e30:∀args w,(callFunc (ρ.f 30) args).run P w= .ok (.enter (ρ.f 30) args) w:=enters_of L.f30 (by kernel_rfl) rfl
 clear hless hswap hH hSW ih
 generalize hW1:w.alloc (.cells #[.func (.func g) #[] lb,.func (.func sf) #[] sb] (ρ.t 42))=W1 at*
 have q1:((m:Int)-(a:Int)==1)=false:=by rw[beq_eq_false_iff_ne];omega
 have q2:((b:Int)-(m:Int)==1)=false:=by rw[beq_eq_false_iff_ne];omega
 have hle:=Hm (lt:=lt) (d:=d) ham hmb
 have hst:bF lt d a m b=gY (fun c=> !lt d[(a+b)/2+m-1-c]! d[c]!) (if(a+b)/2<m then(a+b)/2+m-b else a) (if(a+b)/2<m then(a+b)/2 else m):=rfl
 have c0:=B.c0
 have c1:=B.c1
 have BB:Aside (Yr P enc k lt g lb sf sb blk off d.size w.heap.size w W1):=B
 clear B
 have HR:Aside _:=hrot
 have HC:Aside _:=hrec
 clear hrot hrec
 by_cases hm:(a+b)/2<m
 ·rw[if_pos hm,if_pos hm]at hst
  have q3:decide (((a:Int)+(b:Int))/2<(m:Int))=true:=by simp only[decide_eq_true_eq]<;>omega
  go_enter L.f30,BodyGt.n30_ntmps ρ
  go_wp2
  go_loopg [18,19] (b-a) (fun kx s8 s9 wr=>∃(i j n:Nat) (os:Array Obj),s8= .int .i64 i∧s9= .int .i64 j∧((a+b)/2+m-b)≤i∧i≤j∧j≤((a+b)/2)∧j-i≤kx∧wr=sortWorldK enc k W1 blk off n d os∧
   gY (fun c=> !lt d[(a+b)/2+m-1-c]! d[c]!) i j=bF lt d a m b)
  case atStart=>exact⟨((a+b)/2+m-b),((a+b)/2),0, #[],(by first|rfl|(congr 1;omega)),(by first|rfl|go_num),by omega,by omega,by omega,by omega,hstart.symm,hst.symm⟩
  case round=>
   obtain⟨i,j,n,os,rfl,rfl,hai,hij,hjb,hkx,rfl,hbs⟩:=hrel
   by_cases hlt:i<j
   ·have hl:=BB.less n d os rfl ((a+b)/2+m-1-(i+j)/2) ((i+j)/2) (by omega) (by omega)
    rw[show((((a+b)/2+m-1-(i+j)/2:Nat):Int))=((a:Int)+b)/2+m-1-((i:Int)+j)/2 by omega]at hl
    rw[gY,dif_pos hlt]at hbs
    have HB:Hid _:=hbs
    clear hbs
    cases hv:lt d[(a+b)/2+m-1-(i+j)/2]! d[(i+j)/2]! with
    |false=>
     rw[hv]at hl HB
     go_wp2_with (go_at_fn g;refine hl.mono ?_;rintro e w' ⟨rfl,q,rfl⟩)
     go_roundg (j-((i+j)/2+1))
     case measure=>omega
     case rel=>exact⟨(i+j)/2+1,j,n+q,os,by go_num,rfl,by omega,by omega,by omega,aiP _,rfl,HB.out⟩
    |true=>
     rw[hv]at hl HB
     go_wp2_with (go_at_fn g;refine hl.mono ?_;rintro e w' ⟨rfl,q,rfl⟩)
     go_roundg ((i+j)/2-i)
     case measure=>omega
     case rel=>exact⟨i,(i+j)/2,n+q,os,rfl,by go_num,by omega,by omega,by omega,aiP _,rfl,HB.out⟩
   ·obtain rfl:i=j:=by omega
    rw[gY,dif_neg hlt]at hbs
    rw[←hbs]at hle
    have E1:(i<m∧m<(a+b)/2+m-i∧Hid (dS lt d a m b=qK m d (m-i) ((a+b)/2+m-i-m)))∨(i<m∧¬m<(a+b)/2+m-i∧Hid (dS lt d a m b=d))∨(¬i<m∧Hid (dS lt d a m b=d)):=by
     unfold Hid dS;rw[←hbs]
     by_cases h1:i<m<;>by_cases h2:m<(a+b)/2+m-i<;>simp[h1,h2]
    have E2:(a<i∧i<(a+b)/2∧Hid (fw lt d a m b=eY lt (dS lt d a m b) a i ((a+b)/2)))∨(a<i∧¬i<(a+b)/2∧Hid (fw lt d a m b=dS lt d a m b))∨(¬a<i∧Hid (fw lt d a m b=dS lt d a m b)):=by
     unfold Hid fw;rw[←hbs]
     by_cases h1:a<i<;>by_cases h2:i<(a+b)/2<;>simp[h1,h2]
    have E3:((a+b)/2<(a+b)/2+m-i∧(a+b)/2+m-i<b∧Hid (eY lt d a m b=eY lt (fw lt d a m b) ((a+b)/2) ((a+b)/2+m-i) b))∨((a+b)/2<(a+b)/2+m-i∧¬(a+b)/2+m-i<b∧Hid (eY lt d a m b=fw lt d a m b))∨
     (¬(a+b)/2<(a+b)/2+m-i∧Hid (eY lt d a m b=fw lt d a m b)):=by
     unfold Hid;rw[IF hl hr,←hbs]
     by_cases h1:(a+b)/2<(a+b)/2+m-i<;>by_cases h2:(a+b)/2+m-i<b<;>simp only[h1,h2,and_self,and_true,and_false,true_and,false_and,if_true,if_false,not_true,not_false_iff,or_true,or_false,true_or,false_or]
    clear hbs hst
    rcases E1 with⟨p1,p2,E1⟩|⟨p1,p2,E1⟩|⟨p1,E1⟩<;>rcases E2 with⟨r1,r2,E2⟩|⟨r1,r2,E2⟩|⟨r1,E2⟩<;>rcases E3 with⟨u1,u2,E3⟩|⟨u1,u2,E3⟩|⟨u1,E3⟩
    all_goals
     go_wp2_with (first
      |(go_at_fn (ρ.f 42);refine(HR _ _ _ (by first|rfl|exact e9 ..|(rw[gV lt _ _ _ _ _ (aiP _)];first|rfl|exact e9 ..)) i ((a+b)/2+m-i) _ _ (by omega) (by omega) (by omega) (by omega) (by omega)).mono ?_;rintro e' w' ⟨rfl,n2,os2,rfl⟩)
      |(go_at_fn (ρ.f 30);refine(HC _ _ _ (by first|rfl|exact e9 ..|(rw[gV lt _ _ _ _ _ (aiP _)];first|rfl|exact e9 ..)) a i ((a+b)/2) _ _ _ (by omega) (by omega) (by omega) (by omega) (by omega) (by omega) (by omega)).mono ?_;rintro e' w' ⟨rfl,n3,os3,rfl⟩)
      |(go_at_fn (ρ.f 30);refine(HC _ _ _ (by first|rfl|exact e9 ..|(rw[gV lt _ _ _ _ _ (aiP _)];first|rfl|exact e9 ..)) ((a+b)/2) ((a+b)/2+m-i) b _ _ _ (by omega) (by omega) (by omega) (by omega) (by omega) (by omega) (by omega)).mono ?_;rintro e' w' ⟨rfl,n4,os4,rfl⟩))
    all_goals
     go_end0
     refine⟨rfl,?_⟩
     rw[E3.out,E2.out,E1.out]
     exact BB.fin _ _ _
 ·rw[if_neg hm,if_neg hm]at hst
  have q3:decide (((a:Int)+(b:Int))/2<(m:Int))=false:=by simp only[decide_eq_false_iff_not]<;>omega
  go_enter L.f30,BodyGt.n30_ntmps ρ
  go_wp2
  go_loopg [18,19] (b-a) (fun kx s8 s9 wr=>∃(i j n:Nat) (os:Array Obj),s8= .int .i64 i∧s9= .int .i64 j∧a≤i∧i≤j∧j≤m∧j-i≤kx∧wr=sortWorldK enc k W1 blk off n d os∧
   gY (fun c=> !lt d[(a+b)/2+m-1-c]! d[c]!) i j=bF lt d a m b)
  case atStart=>exact⟨a,m,0, #[],(by first|rfl|(congr 1;omega)),(by first|rfl|go_num),by omega,by omega,by omega,by omega,hstart.symm,hst.symm⟩
  case round=>
   obtain⟨i,j,n,os,rfl,rfl,hai,hij,hjb,hkx,rfl,hbs⟩:=hrel
   by_cases hlt:i<j
   ·have hl:=BB.less n d os rfl ((a+b)/2+m-1-(i+j)/2) ((i+j)/2) (by omega) (by omega)
    rw[show((((a+b)/2+m-1-(i+j)/2:Nat):Int))=((a:Int)+b)/2+m-1-((i:Int)+j)/2 by omega]at hl
    rw[gY,dif_pos hlt]at hbs
    have HB:Hid _:=hbs
    clear hbs
    cases hv:lt d[(a+b)/2+m-1-(i+j)/2]! d[(i+j)/2]! with
    |false=>
     rw[hv]at hl HB
     go_wp2_with (go_at_fn g;refine hl.mono ?_;rintro e w' ⟨rfl,q,rfl⟩)
     go_roundg (j-((i+j)/2+1))
     case measure=>omega
     case rel=>exact⟨(i+j)/2+1,j,n+q,os,by go_num,rfl,by omega,by omega,by omega,aiP _,rfl,HB.out⟩
    |true=>
     rw[hv]at hl HB
     go_wp2_with (go_at_fn g;refine hl.mono ?_;rintro e w' ⟨rfl,q,rfl⟩)
     go_roundg ((i+j)/2-i)
     case measure=>omega
     case rel=>exact⟨i,(i+j)/2,n+q,os,rfl,by go_num,by omega,by omega,by omega,aiP _,rfl,HB.out⟩
   ·obtain rfl:i=j:=by omega
    rw[gY,dif_neg hlt]at hbs
    rw[←hbs]at hle
    have E1:(i<m∧m<(a+b)/2+m-i∧Hid (dS lt d a m b=qK m d (m-i) ((a+b)/2+m-i-m)))∨(i<m∧¬m<(a+b)/2+m-i∧Hid (dS lt d a m b=d))∨(¬i<m∧Hid (dS lt d a m b=d)):=by
     unfold Hid dS;rw[←hbs]
     by_cases h1:i<m<;>by_cases h2:m<(a+b)/2+m-i<;>simp[h1,h2]
    have E2:(a<i∧i<(a+b)/2∧Hid (fw lt d a m b=eY lt (dS lt d a m b) a i ((a+b)/2)))∨(a<i∧¬i<(a+b)/2∧Hid (fw lt d a m b=dS lt d a m b))∨(¬a<i∧Hid (fw lt d a m b=dS lt d a m b)):=by
     unfold Hid fw;rw[←hbs]
     by_cases h1:a<i<;>by_cases h2:i<(a+b)/2<;>simp[h1,h2]
    have E3:((a+b)/2<(a+b)/2+m-i∧(a+b)/2+m-i<b∧Hid (eY lt d a m b=eY lt (fw lt d a m b) ((a+b)/2) ((a+b)/2+m-i) b))∨((a+b)/2<(a+b)/2+m-i∧¬(a+b)/2+m-i<b∧Hid (eY lt d a m b=fw lt d a m b))∨
     (¬(a+b)/2<(a+b)/2+m-i∧Hid (eY lt d a m b=fw lt d a m b)):=by
     unfold Hid;rw[IF hl hr,←hbs]
     by_cases h1:(a+b)/2<(a+b)/2+m-i<;>by_cases h2:(a+b)/2+m-i<b<;>simp only[h1,h2,and_self,and_true,and_false,true_and,false_and,if_true,if_false,not_true,not_false_iff,or_true,or_false,true_or,false_or]
    clear hbs hst
    rcases E1 with⟨p1,p2,E1⟩|⟨p1,p2,E1⟩|⟨p1,E1⟩<;>rcases E2 with⟨r1,r2,E2⟩|⟨r1,r2,E2⟩|⟨r1,E2⟩<;>rcases E3 with⟨u1,u2,E3⟩|⟨u1,u2,E3⟩|⟨u1,E3⟩
    all_goals
     go_wp2_with (first
      |(go_at_fn (ρ.f 42);refine(HR _ _ _ (by first|rfl|exact e9 ..|(rw[gV lt _ _ _ _ _ (aiP _)];first|rfl|exact e9 ..)) i ((a+b)/2+m-i) _ _ (by omega) (by omega) (by omega) (by omega) (by omega)).mono ?_;rintro e' w' ⟨rfl,n2,os2,rfl⟩)
      |(go_at_fn (ρ.f 30);refine(HC _ _ _ (by first|rfl|exact e9 ..|(rw[gV lt _ _ _ _ _ (aiP _)];first|rfl|exact e9 ..)) a i ((a+b)/2) _ _ _ (by omega) (by omega) (by omega) (by omega) (by omega) (by omega) (by omega)).mono ?_;rintro e' w' ⟨rfl,n3,os3,rfl⟩)
      |(go_at_fn (ρ.f 30);refine(HC _ _ _ (by first|rfl|exact e9 ..|(rw[gV lt _ _ _ _ _ (aiP _)];first|rfl|exact e9 ..)) ((a+b)/2) ((a+b)/2+m-i) b _ _ _ (by omega) (by omega) (by omega) (by omega) (by omega) (by omega) (by omega)).mono ?_;rintro e' w' ⟨rfl,n4,os4,rfl⟩))
    all_goals
     go_end0
     refine⟨rfl,?_⟩
     rw[E3.out,E2.out,E1.out]
     exact BB.fin _ _ _
variable {P:Program} {ρ:Ren} {α:Type} [Inhabited α]
def oT (lt:α→α→Bool) (d:Array α) (a n:Nat):Array α:=
 if a+20≤n then oT lt (Sort.insertionSort lt d a (a+20)) (a+20) n else Sort.insertionSort lt d a n
termination_by n-a
def rR (lt:α→α→Bool) (d:Array α) (c a n:Nat):Array α:=
 if h:0<c∧a+2*c≤n then rR lt (eY lt d a (a+c) (a+2*c)) c (a+2*c) n
 else if a+c<n then eY lt d a (a+c) n else d
termination_by n-a
def qo (lt:α→α→Bool) (d:Array α) (c n:Nat):Array α:=
 if h:0<c∧c<n then qo lt (rR lt d c 0 n) (2*c) n else d
termination_by n-c
def lH (lt:α→α→Bool) (d:Array α):Array α:=qo lt (oT lt d 0 d.size) 20 d.size
theorem u3 (lt:α→α→Bool) (a:Nat):∀(j:Nat) (d:Array α),(Sort.insInner lt a j d).size=d.size
 |0,d=>by rw[Sort.insInner]
 |j+1,d=>by
  rw[Sort.insInner];split
  ·rw[u3 lt a j,size_swp]
  ·rfl
theorem SX (lt:α→α→Bool) (a b i:Nat) (d:Array α):(Sort.insOuter lt a b i d).size=d.size:=by
 fun_induction Sort.insOuter lt a b i d with
 |case1 i d h ih=>rw[ih,u3]
 |case2 i d h=>rfl
theorem ey (lt:α→α→Bool) (d:Array α) (a b:Nat):(Sort.insertionSort lt d a b).size=d.size:=SX ..
theorem Mr (lt:α→α→Bool) (d:Array α) (a n:Nat):(oT lt d a n).size=d.size:=by
 fun_induction oT lt d a n with
 |case1 d a h ih=>rw[ih,ey]
 |case2 d a h=>rw[ey]
theorem oK (lt:α→α→Bool) (d:Array α) (a m b:Nat):(eY lt d a m b).size=d.size:=gV lt _ _ _ _ _ (aiP _)
theorem Lq (lt:α→α→Bool) (d:Array α) (c a n:Nat):(rR lt d c a n).size=d.size:=by
 fun_induction rR lt d c a n with
 |case1 d a h ih=>rw[ih,oK]
 |case2 d a h h2=>rw[oK]
 |case3 d a h h2=>rfl
set_option maxHeartbeats 16000000 in
set_option maxRecDepth 1000000 in
theorem ab1 (L:LaysGt.n15 P ρ) {enc:α→List Value} {k:Nat} (hk:∀x,(enc x).length=k) (lt:α→α→Bool) {g:Nat} {lb:Array Value} {sf:Nat} {sb:Array Value} {blk off:Nat} {d:Array α} {w:World}
 (eg:∀args w,(callFunc g args).run P w= .ok (.enter g args) w) (hless:LessReadsK P g lb enc k lt blk off d.size w) (hswap:SwapSwapsK P sf sb enc k blk off d.size)
 (hH:HoldsK enc k w blk off d) (hblk:blk<w.heap.size) (hsz:d.size<1152921504606846976):
 Calls P (ρ.f 15) #[.agg #[.func (.func g) #[] lb,.func (.func sf) #[] sb],.int .i64 d.size] w fun e w'=>e= .returned (.tuple #[])∧∃n os,w'=sortWorldK enc k w blk off n (lH lt d) os:=by
 have LI:LaysGg.n26 P ρ.viaGt:=({L with}:LaysGt.n29 P ρ).elder
 obtain⟨B,hstart⟩:=Ci (t:=ρ.t 42) hk hless hswap hH hblk
 have hSW:∀n (X:Array α) os,SWK enc k w blk off X (sortWorldK enc k (w.alloc (.cells #[.func (.func g) #[] lb,.func (.func sf) #[] sb] (ρ.t 42))) blk off n X os):=fun n X os=>B.fin n X os
 have hins:∀n (X:Array α) os,X.size=d.size→∀(s e:Nat) (zs ze:Int),zs=s→ze=e→s≤e→e≤d.size→
  Calls P (ρ.f 29) #[.agg #[.func (.func g) #[] lb,.func (.func sf) #[] sb],.int .i64 zs,.int .i64 ze] (sortWorldK enc k (w.alloc (.cells #[.func (.func g) #[] lb,.func (.func sf) #[] sb] (ρ.t 42))) blk off n X os) fun e' w'=>
   e'= .returned (.tuple #[])∧∃n' os',w'=sortWorldK enc k (w.alloc (.cells #[.func (.func g) #[] lb,.func (.func sf) #[] sb] (ρ.t 42))) blk off n' (Sort.insertionSort lt X s e) os':=by
  intro n X os hX s e zs ze hs he h1 h2
  subst hs;subst he
  refine(Any.insertionSort_func_cells_w LI enc k hk lt g lb sf sb blk off s e X _ eg (by rw[hX];exact(hSW n X os).lessReads hless hblk hX) (by rw[hX];exact hswap) ((hSW n X os).holds hblk hH hX) ((hSW n X os).lt hblk) h1 (by omega) (by omega)).mono ?_
  rintro e' w' ⟨rfl,n',os',rfl⟩
  exact⟨rfl,_,_,sortWorldK_on enc k _ blk off n n' X _ os os' B.lt_blk (ey ..)⟩
 have hsym:∀n (X:Array α) os,X.size=d.size→∀(a' m' b':Nat) (za zm zb:Int),za=a'→zm=m'→zb=b'→a'<m'→m'<b'→b'≤d.size→
  Calls P (ρ.f 30) #[.agg #[.func (.func g) #[] lb,.func (.func sf) #[] sb],.int .i64 za,.int .i64 zm,.int .i64 zb] (sortWorldK enc k (w.alloc (.cells #[.func (.func g) #[] lb,.func (.func sf) #[] sb] (ρ.t 42))) blk off n X os) fun e' w'=>
   e'= .returned (.tuple #[])∧∃n' os',w'=sortWorldK enc k (w.alloc (.cells #[.func (.func g) #[] lb,.func (.func sf) #[] sb] (ρ.t 42))) blk off n' (eY lt X a' m' b') os':=by
  intro n X os hX a' m' b' za zm zb ha' hm' hb' h1 h2 h3
  subst ha';subst hm';subst hb'
  refine(Y6 ({L with}:LaysGt.n30 P ρ) hk lt eg _ a' m' b' (d:=X) (aiP _) (by rw[hX];exact(hSW n X os).lessReads hless hblk hX) (by rw[hX];exact hswap) ((hSW n X os).holds hblk hH hX) ((hSW n X os).lt hblk) h1 h2 (by omega) (by omega)).mono ?_
  rintro e' w' ⟨rfl,n',os',rfl⟩
  exact⟨rfl,_,_,sortWorldK_on enc k _ blk off n n' X _ os os' B.lt_blk (oK ..)⟩
 have mixed:=L.mixed;have t0:=L.t0;have a0:=L.a0;have z0:=L.z0;have v0:=L.v0;have t3:=L.t3;have a3:=L.a3;have z3:=L.z3;have v3:=L.v3;have t4:=L.t4;have a4:=L.a4;have z4:=L.z4;have v4:=L.v4;have t26:=L.t26;have a26:=L.a26;have z26:=L.z26;have v26:=L.v26;have t38:=L.t38;have a38:=L.a38;have z38:=L.z38;have v38:=L.v38;have t42:=L.t42;have a42:=L.a42;have z42:=L.z42;have v42:=L.v42;have t47:=L.t47;have a47:=L.a47;have z47:=L.z47;have v47:=L.v47
 have u42:=run_underlying L.t42
 have e29:∀args w,(callFunc (ρ.f 29) args).run P w= .ok (.enter (ρ.f 29) args) w:=enters_of L.f29 (by kernel_rfl) rfl
 have e30:∀args w,(callFunc (ρ.f 30) args).run P w= .ok (.enter (ρ.f 30) args) w:=enters_of L.f30 (by kernel_rfl) rfl
 clear hless hswap hH hSW LI
 generalize hW1:w.alloc (.cells #[.func (.func g) #[] lb,.func (.func sf) #[] sb] (ρ.t 42))=W1 at*
 have c0:=B.c0
 have c1:=B.c1
 have BB:Aside (Yr P enc k lt g lb sf sb blk off d.size w.heap.size w W1):=B
 clear B
 have HI:Aside _:=hins
 have HC:Aside _:=hsym
 clear hins hsym
 have hA:lH lt d=qo lt (oT lt d 0 d.size) 20 d.size:=rfl
 generalize hn:d.size=n at*
 go_enter L.f15,BodyGt.n15_ntmps ρ
 go_wp2
 go_loopg [5,6] n (fun kx s5 s6 wr=>∃(i q:Nat) (X:Array α) (os:Array Obj),s5= .int .i64 i∧s6= .int .i64 (i+20:Nat)∧i≤n∧n-i≤kx∧X.size=n∧wr=sortWorldK enc k W1 blk off q X os∧
  oT lt X i n=oT lt d 0 n)
 case atStart=>exact⟨0,0,d, #[],rfl,rfl,by omega,by omega,hn,hstart.symm,rfl⟩
 case round=>
  obtain⟨i,q,X,os,rfl,rfl,hin,hkx,hX,rfl,hs1⟩:=hrel
  by_cases hlt:i+20≤n
  ·rw[oT,if_pos hlt]at hs1
   have H1:Hid _:=hs1
   clear hs1
   go_wp2_with (go_at_fn (ρ.f 29);refine(HI _ _ _ hX i (i+20) _ _ (by omega) (by omega) (by omega) (by omega)).mono ?_;rintro e' w' ⟨rfl,n2,os2,rfl⟩)
   go_roundg (n-(i+20))
   case measure=>omega
   case rel=>exact⟨i+20,n2,_,os2,rfl,by go_num,by omega,aiP _,by rw[ey];exact hX,rfl,H1.out⟩
  ·rw[oT,if_neg hlt]at hs1
   have H1:Hid _:=hs1
   clear hs1
   go_wp2_with (go_at_fn (ρ.f 29);refine(HI _ _ _ hX i n _ _ (by omega) (by omega) (by omega) (by omega)).mono ?_;rintro e' w' ⟨rfl,n2,os2,rfl⟩)
   have hA2:qo lt (Sort.insertionSort lt X i n) 20 n=lH lt d:=by rw[H1.out,hA]
   have HA2:Hid _:=hA2
   clear hA2 hA H1
   go_loopg [4] n (fun kx s4 wr2=>∃(c q:Nat) (X:Array α) (os:Array Obj),s4= .int .i64 c∧20≤c∧c≤3*n+20∧n-c≤kx∧X.size=n∧wr2=sortWorldK enc k W1 blk off q X os∧qo lt X c n=lH lt d)
   case atStart=>exact⟨20,n2,_,os2,by go_num,by omega,by omega,by omega,by rw[ey];exact hX,rfl,HA2.out⟩
   case round=>
    obtain⟨c,q2,X2,os3,rfl,hc20,hcn,hkx2,hX2,rfl,hs3⟩:=hrel
    by_cases hc:c<n
    ·rw[qo,dif_pos ⟨by omega,hc⟩]at hs3
     have H3:Hid _:=hs3
     clear hs3
     go_wp2
     go_loopg [5,6] n (fun kx s5 s6 wr3=>∃(i q:Nat) (X:Array α) (os:Array Obj),s5= .int .i64 i∧s6= .int .i64 (i+2*c:Nat)∧i≤n∧n-i≤kx∧X.size=n∧wr3=sortWorldK enc k W1 blk off q X os∧
      rR lt X c i n=rR lt X2 c 0 n)
     case atStart=>exact⟨0,q2,X2,os3,rfl,by go_num,by omega,by omega,hX2,rfl,rfl⟩
     case round=>
      obtain⟨i3,q3,X3,os4,rfl,rfl,hin3,hkx3,hX3,rfl,hs2⟩:=hrel
      by_cases h2c:i3+2*c≤n
      ·rw[rR,dif_pos ⟨by omega,h2c⟩]at hs2
       have H2:Hid _:=hs2
       clear hs2
       go_wp2_with (go_at_fn (ρ.f 30);refine(HC _ _ _ hX3 i3 (i3+c) (i3+2*c) _ _ _ (by omega) (by omega) (by omega) (by omega) (by omega) (by omega)).mono ?_;rintro e' w' ⟨rfl,n5,os5,rfl⟩)
       go_roundg (n-(i3+2*c))
       case measure=>omega
       case rel=>exact⟨i3+2*c,n5,_,os5,rfl,(by first|rfl|(congr 1;omega)|go_num),by omega,aiP _,by rw[oK];exact hX3,rfl,H2.out⟩
      ·rw[rR,dif_neg (by omega)]at hs2
       by_cases h1c:i3+c<n
       ·rw[if_pos h1c]at hs2
        have H2:Hid _:=hs2
        clear hs2
        go_wp2_with (go_at_fn (ρ.f 30);refine(HC _ _ _ hX3 i3 (i3+c) n _ _ _ (by omega) (by omega) (by omega) (by omega) (by omega) (by omega)).mono ?_;rintro e' w' ⟨rfl,n5,os5,rfl⟩)
        go_roundg (n-2*c)
        case measure=>omega
        case rel=>exact⟨2*c,n5,_,os5,(by first|rfl|(congr 1;omega)|go_num),by omega,by omega,aiP _,by rw[oK];exact hX3,rfl,by rw[H2.out];exact H3.out⟩
       ·rw[if_neg h1c]at hs2
        have H2:Hid _:=hs2
        clear hs2
        go_wp2
        go_roundg (n-2*c)
        case measure=>omega
        case rel=>exact⟨2*c,q3,X3,os4,(by first|rfl|(congr 1;omega)|go_num),by omega,by omega,aiP _,hX3,rfl,by rw[H2.out];exact H3.out⟩
    ·rw[qo,dif_neg (by omega)]at hs3
     have H3:Hid _:=hs3
     clear hs3
     go_wp2
     go_end0
     rw[←H3.out]
     exact⟨rfl,BB.fin _ _ _⟩
variable {α:Type}
def lv (lt:α→α→Bool) (c x:α):Bool:= !lt c x&& !lt x c
def sY (lt:α→α→Bool) (l:List α):Prop:=l.Pairwise fun x y=>lt y x=false
theorem Rl {lt:α→α→Bool} (hO:SWO lt) (x:α):lv lt x x=true:=by simp[lv,hO.irrefl]
theorem nc {lt:α→α→Bool} (hO:SWO lt) {l1 l2:List α} (h:∀c,l1.filter (lv lt c)=l2.filter (lv lt c)) {x:α} (hx:x∈l1):x∈l2:=by
 have:x∈l1.filter (lv lt x):=akj.2 ⟨hx,Rl hO x⟩
 rw[h x]at this
 exact(akj.1 this).1
theorem K7 {lt:α→α→Bool} (hO:SWO lt):∀ {l1 l2:List α},sY lt l1→sY lt l2→(∀c,l1.filter (lv lt c)=l2.filter (lv lt c))→l1=l2
 | [],l2,_,_,h=>by
   cases l2 with
   |nil=>rfl
   |cons y r=>exact absurd (nc hO (fun c=>(h c).symm) (ajt (a:=y) (l:=r))) (by simp)
 |x::r1,[],_,_,h=>absurd (nc hO h (ajt (a:=x) (l:=r1))) (by simp)
 |x::r1,y::r2,h1,h2,h=>by
  have a1:=aj6.1 h1
  have a2:=aj6.1 h2
  have hxy:lt x y=false:=by
   rcases ai7.1 (nc hO h (ajt (a:=x) (l:=r1)))with e|e
   ·rw[e];exact hO.irrefl y
   ·exact a2.1 x e
  have hyx:lt y x=false:=by
   rcases ai7.1 (nc hO (fun c=>(h c).symm) (ajt (a:=y) (l:=r2)))with e|e
   ·rw[e];exact hO.irrefl x
   ·exact a1.1 y e
  have hx:=h x
  rw[aju (Rl hO x),aju (show lv lt x y=true by simp[lv,hxy,hyx])]at hx
  obtain⟨rfl,_⟩:=ajF hx
  congr 1
  refine K7 hO a1.2 a2.2 fun c=> ?_
  have hc:=h c
  rw[ake,ake]at hc
  split at hc
  ·exact(ajF hc).2
  ·exact hc
theorem y6 {lt:α→α→Bool} (hO:SWO lt) {X Y:List α} (h:∀x∈X,∀y∈Y,lt y x=true) (c:α):(X++Y).filter (lv lt c)=(Y++X).filter (lv lt c):=by
 rw[aiU,aiU]
 by_cases hx:∃x∈X,lv lt c x=true
 ·obtain⟨x,hx,hcx⟩:=hx
  have:Y.filter (lv lt c)=[]:=by
   rw[ajT]
   intro y hy hcy
   simp only[lv,aiQ,aji]at hcx hcy
   have h1:=h x hx y hy
   have:=hO.ntrans y c x hcy.2 hcx.1
   rw[h1]at this
   cases this
  rw[this];simp
 ·have:X.filter (lv lt c)=[]:=by
   rw[ajT]
   intro x hx' hcx
   exact hx ⟨x,hx',hcx⟩
  rw[this];simp
variable [Inhabited α]
def bz (d:Array α) (a b:Nat):List α:=(ajQ a (b-a)).map fun t=>d[t]!
theorem eQ (d:Array α) {a b c:Nat} (h1:a≤b) (h2:b≤c):bz d a c=bz d a b++bz d b c:=by
 unfold bz
 rw[←ajM,show c-a=(b-a)+(c-b) by omega,←List.range'_append_1,show a+(b-a)=b by omega]
theorem mU (d:Array α) {a b:Nat} (h:b≤a):bz d a b=[]:=by unfold bz;rw[show b-a=0 by omega];rfl
theorem nS (d:Array α) {a b:Nat} (h:a<b):bz d a b=d[a]! ::bz d (a+1) b:=by
 unfold bz;rw[show b-a=(b-(a+1))+1 by omega,ajb];rfl
theorem aaY (d:Array α) {a b:Nat} (h:a<b):bz d a b=bz d a (b-1)++[d[b-1]!]:=by
 rw[eQ d (show a≤b-1 by omega) (show b-1≤b by omega),nS d (a:=b-1) (b:=b) (by omega),mU d (a:=b-1+1) (b:=b) (by omega)]
theorem mZ {d:Array α} {a b:Nat} {x:α}:x∈bz d a b↔∃t,a≤t∧t<b∧d[t]! =x:=by
 unfold bz
 simp only[aj5,ajG]
 constructor
 ·rintro⟨t,⟨h1,h2⟩,rfl⟩;exact⟨t,h1,by omega,rfl⟩
 ·rintro⟨t,h1,h2,rfl⟩;exact⟨t,⟨h1,by omega⟩,rfl⟩
theorem fX {d d':Array α} {a b:Nat} (h:∀t,a≤t→t<b→d'[t]! =d[t]!):bz d' a b=bz d a b:=by
 unfold bz
 refine List.map_congr_left fun t ht=> ?_
 have:=ajG.1 ht
 exact h t this.1 (by omega)
theorem yg {d d':Array α} {a b s:Nat} (h:∀t,a≤t→t<b→d'[t]! =d[t+s]!):bz d' a b=bz d (a+s) (b+s):=by
 unfold bz
 rw[show b+s-(a+s)=b-a by omega]
 apply List.ext_getElem
 ·simp
 ·intro i h1 h2
  simp only[List.length_map,aj7]at h1
  simp only[akf,ajo,ajh]
  rw[h (a+i) (by omega) (by omega),show a+i+s=a+s+i by omega]
theorem LR (d:Array α) (a b:Nat):(bz d a b).length=b-a:=by simp[bz]
theorem Cd {lt:α→α→Bool} {d:Array α} {a b:Nat}:sY lt (bz d a b)↔∀i j,a≤i→i<j→j<b→lt d[j]! d[i]! =false:=by
 unfold sY bz
 rw[List.pairwise_map,List.pairwise_iff_getElem]
 constructor
 ·intro h i j h1 h2 h3
  have:=h (i-a) (j-a) (by simp;omega) (by simp;omega) (by omega)
  simp only[ajo,ajh]at this
  rwa [show a+(i-a)=i by omega,show a+(j-a)=j by omega]at this
 ·intro h i j h1 h2 h3
  simp only[aj7]at h1 h2
  simp only[ajo,ajh]
  exact h _ _ (by omega) (by omega) (by omega)
variable {α:Type} [Inhabited α]
theorem Gu {d:Array α} {i j t:Nat} (hi:i<d.size) (hj:j<d.size):(swp d i j)[t]! =if t=j then d[i]! else if t=i then d[j]! else d[t]! :=by
 unfold swp
 by_cases ht:t<d.size
 ·simp only[getElem!_pos,ht,hi,hj,Array.size_setIfInBounds,Array.getElem_setIfInBounds]
  by_cases h1:t=j
  ·subst h1;simp
  ·by_cases h2:t=i
   ·subst h2;simp[h1,Ne.symm h1]
   ·simp[h1,h2,Ne.symm h1,Ne.symm h2]
 ·rw[getElem!_neg _ _ (by simpa using ht)]
  rw[if_neg (by omega),if_neg (by omega),getElem!_neg _ _ (by simpa using ht)]
theorem rn {d:Array α} {a b:Nat}:∀(n:Nat),a+n≤b→b+n≤d.size→∀t,(kD d a b n)[t]! =if a≤t∧t<a+n then d[t-a+b]! else if b≤t∧t<b+n then d[t-b+a]! else d[t]!
 |0,_,_,t=>by rw[kD,if_neg (by omega),if_neg (by omega)]
 |n+1,h1,h2,t=>by
  rw[kD,Gu (by rw[fi];omega) (by rw[fi];omega)]
  rw[rn n (by omega) (by omega),rn n (by omega) (by omega),rn n (by omega) (by omega)]
  by_cases e1:t=b+n
  ·subst e1
   rw[if_pos rfl,if_neg (by omega),if_neg (by omega),if_neg (by omega),if_pos (by omega)]
   congr 1;omega
  ·rw[if_neg e1]
   by_cases e2:t=a+n
   ·subst e2
    rw[if_pos rfl,if_neg (by omega),if_neg (by omega),if_pos (by omega)]
    congr 1;omega
   ·rw[if_neg e2]
    by_cases c1:a≤t∧t<a+n
    ·rw[if_pos c1,if_pos (by omega)]
    ·rw[if_neg c1]
     by_cases c2:b≤t∧t<b+n
     ·rw[if_pos c2,if_neg (by omega),if_pos (by omega)]
     ·rw[if_neg c2,if_neg (by omega),if_neg (by omega)]
theorem aby {m:Nat} {d:Array α} {i j:Nat} (hi:0<i) (hj:0<j) (him:i≤m) (hmj:m+j≤d.size) (t:Nat):
 (qK m d i j)[t]! =if m-i≤t∧t<m-i+j then d[t+i]! else if m-i+j≤t∧t<m+j then d[t-j]! else d[t]! :=by
 fun_induction qK m d i j with
 |case1 d i j h1 h2 ih=>
  have g:=fun t=>rn (d:=d) (a:=m-i) (b:=m) j (by omega) (by omega) t
  rw[ih (by omega) (by omega) (by omega) (by rw[fi];omega),g,g,g]
  repeat' split
  all_goals first|rfl|(exfalso;omega)|(congr 1;omega)
 |case2 d i j h1 h2 ih=>
  have g:=fun t=>rn (d:=d) (a:=m-i) (b:=m+j-i) i (by omega) (by omega) t
  rw[ih (by omega) (by omega) (by omega) (by rw[fi];omega),g,g,g]
  repeat' split
  all_goals first|rfl|(exfalso;omega)|(congr 1;omega)
 |case3 d i j h=>
  obtain rfl:i=j:=by omega
  rw[rn (d:=d) (a:=m-i) (b:=m) i (by omega) (by omega) t]
  repeat' split
  all_goals first|rfl|(exfalso;omega)|(congr 1;omega)
theorem YA {d:Array α} {k e:Nat} (hk:k≤e) (he:e<d.size) (t:Nat):(js d k e)[t]! =if k≤t∧t<e then d[t+1]! else if t=e then d[k]! else d[t]! :=by
 fun_induction js d k e with
 |case1 d k h ih=>
  have g:=fun t=>Gu (d:=d) (i:=k) (j:=k+1) (t:=t) (by omega) (by omega)
  rw[ih (by omega) (by rw[size_swp];omega),g,g,g]
  repeat' split
  all_goals first|rfl|(exfalso;omega)|(congr 1;omega)
 |case2 d k h=>
  repeat' split
  all_goals first|rfl|(exfalso;omega)|(congr 1;omega)
theorem Up {d:Array α} {k e:Nat} (hk:e≤k) (he:k<d.size) (t:Nat):(fk d k e)[t]! =if e<t∧t≤k then d[t-1]! else if t=e then d[k]! else d[t]! :=by
 fun_induction fk d k e with
 |case1 d k h ih=>
  have g:=fun t=>Gu (d:=d) (i:=k) (j:=k-1) (t:=t) (by omega) (by omega)
  rw[ih (by omega) (by rw[size_swp];omega),g,g,g]
  repeat' split
  all_goals first|rfl|(exfalso;omega)|(congr 1;omega)
 |case2 d k h=>
  repeat' split
  all_goals first|rfl|(exfalso;omega)|(congr 1;omega)
theorem Ip (p:Nat→Bool) {i j lo hi:Nat} (h:i≤j) (h1:lo<i→p (i-1)=true) (h2:j<hi→p j=false) (hl:lo≤i) (hj:j≤hi):
 (lo<gY p i j→p (gY p i j-1)=true)∧(gY p i j<hi→p (gY p i j)=false):=by
 fun_induction gY p i j with
 |case1 i j hij hp ih=>exact ih (by omega) (fun _=>by rwa [aj8]) h2 (by omega) hj
 |case2 i j hij hp ih=>exact ih (by omega) h1 (fun _=>by simpa using hp) hl (by omega)
 |case3 i j hij=>
  obtain rfl:i=j:=by omega
  exact⟨h1,h2⟩
variable {α:Type} [Inhabited α]
theorem asym {lt:α→α→Bool} (hO:SWO lt) {x y:α} (h:lt x y=true):lt y x=false:=by
 cases hv:lt y x with
 |false=>rfl
 |true=>have:=hO.trans _ _ _ h hv;rw[hO.irrefl]at this;cases this
structure Bw (lt:α→α→Bool) (d r:Array α) (a b:Nat):Prop where
 asc:sY lt (bz r a b)
 same:∀c,(bz r a b).filter (lv lt c)=(bz d a b).filter (lv lt c)
 out:∀t,t<a∨b≤t→r[t]! =d[t]!
theorem oL {lt:α→α→Bool} {l1 l2:List α}:sY lt (l1++l2)↔sY lt l1∧sY lt l2∧∀x∈l1,∀y∈l2,lt y x=false:=List.pairwise_append
theorem PR {lt:α→α→Bool} (hO:SWO lt) {d:Array α} {a b:Nat} (hab:a+1<b) (hb:b≤d.size) (h2:sY lt (bz d (a+1) b)):
 Bw lt d (js d a (gY (fun h=>lt d[h]! d[a]!) (a+1) b-1)) a b:=by
 have hle:=Fg (fun h=>lt d[h]! d[a]!) (a+1) b (by omega)
 have hed:=Ip (fun h=>lt d[h]! d[a]!) (i:=a+1) (j:=b) (lo:=a+1) (hi:=b) (by omega) (fun h=>by omega) (fun h=>by omega) (by omega) (by omega)
 generalize gY (fun h=>lt d[h]! d[a]!) (a+1) b=i at*
 have hs:=Cd.1 h2
 have f1:∀h,a+1≤h→h<i→lt d[h]! d[a]! =true:=fun h g1 g2=>by
  have e:=hed.1 (by omega)
  rcases aiX h (i-1)with g|g
  ·cases hv:lt d[h]! d[a]! with
   |true=>rfl
   |false=>have:=hO.ntrans _ _ _ (hs h (i-1) g1 g (by omega)) hv;rw[e]at this;cases this
  ·rw[show h=i-1 by omega];exact e
 have f2:∀h,i≤h→h<b→lt d[h]! d[a]! =false:=fun h g1 g2=>by
  have e:=hed.2 (by omega)
  rcases aiX i h with g|g
  ·exact hO.ntrans _ _ _ (hs i h (by omega) g g2) e
  ·rw[show h=i by omega];exact e
 have gm:=fun t=>YA (d:=d) (k:=a) (e:=i-1) (by omega) (by omega) t
 have s1:bz (js d a (i-1)) a (i-1)=bz d (a+1) i:=by
  rw[yg (s:=1) (d:=d) (fun t g1 g2=>by rw[gm,if_pos ⟨g1,g2⟩]),show i-1+1=i by omega]
 have s2:bz (js d a (i-1)) i b=bz d i b:=fX fun t g1 g2=>by rw[gm,if_neg (by omega),if_neg (by omega)]
 have s3:bz (js d a (i-1)) a b=bz d (a+1) i++([d[a]!]++bz d i b):=by
  rw[eQ _ (show a≤i-1 by omega) (show i-1≤b by omega),s1,nS _ (show i-1<b by omega),show i-1+1=i by omega,s2,gm,if_neg (by omega),if_pos rfl]
  rfl
 have s0:bz d a b=[d[a]!]++(bz d (a+1) i++bz d i b):=by
  rw[nS _ (show a<b by omega),eQ d (show a+1≤i by omega) (show i≤b by omega)];rfl
 have hsp:=oL.1 (by rw[←eQ d (show a+1≤i by omega) (show i≤b by omega)];exact h2:sY lt (bz d (a+1) i++bz d i b))
 refine⟨?_,fun c=> ?_,fun t ht=>by rw[gm,if_neg (by omega),if_neg (by omega)]⟩
 ·rw[s3,oL,oL]
  refine⟨hsp.1,⟨ajK _ _,hsp.2.1,fun x hx y hy=> ?_⟩,fun x hx y hy=> ?_⟩
  ·obtain rfl:=aiT.1 hx
   obtain⟨t,t1,t2,rfl⟩:=mZ.1 hy
   exact f2 t t1 t2
  ·rcases ajp.1 hy with hy|hy
   ·obtain rfl:=aiT.1 hy
    obtain⟨t,t1,t2,rfl⟩:=mZ.1 hx
    exact asym hO (f1 t t1 t2)
   ·exact hsp.2.2 x hx y hy
 ·rw[s3,s0,←ai1,←ai1,aiU,aiU (l₁:=[d[a]!]++bz d (a+1) i)]
  congr 1
  refine(y6 hO (fun x hx y hy=> ?_) c).symm
  obtain rfl:=aiT.1 hx
  obtain⟨t,t1,t2,rfl⟩:=mZ.1 hy
  exact f1 t t1 t2
theorem Lz {lt:α→α→Bool} (hO:SWO lt) {d:Array α} {a m:Nat} (ham:a<m) (hb:m+1≤d.size) (h1:sY lt (bz d a m)):
 Bw lt d (fk d m (gY (fun h=> !lt d[m]! d[h]!) a m)) a (m+1):=by
 have hle:=Fg (fun h=> !lt d[m]! d[h]!) a m (by omega)
 have hed:=Ip (fun h=> !lt d[m]! d[h]!) (i:=a) (j:=m) (lo:=a) (hi:=m) (by omega) (fun h=>by omega) (fun h=>by omega) (by omega) (by omega)
 generalize gY (fun h=> !lt d[m]! d[h]!) a m=i at*
 simp only[aji,aj9]at hed
 have hs:=Cd.1 h1
 have f1:∀h,a≤h→h<i→lt d[m]! d[h]! =false:=fun h g1 g2=>by
  have e:=hed.1 (by omega)
  rcases aiX h (i-1)with g|g
  ·exact hO.ntrans _ _ _ e (hs h (i-1) g1 g (by omega))
  ·rw[show h=i-1 by omega];exact e
 have f2:∀h,i≤h→h<m→lt d[m]! d[h]! =true:=fun h g1 g2=>by
  have e:=hed.2 (by omega)
  rcases aiX i h with g|g
  ·cases hv:lt d[m]! d[h]! with
   |true=>rfl
   |false=>have:=hO.ntrans _ _ _ hv (hs i h (by omega) g g2);rw[e]at this;cases this
  ·rw[show h=i by omega];exact e
 have gm:=fun t=>Up (d:=d) (k:=m) (e:=i) (by omega) (by omega) t
 have s1:bz (fk d m i) a i=bz d a i:=fX fun t g1 g2=>by rw[gm,if_neg (by omega),if_neg (by omega)]
 have s2:bz d i m=bz (fk d m i) (i+1) (m+1):=yg (s:=1) fun t g1 g2=>by rw[gm,if_pos (by omega)];congr 1
 have s3:bz (fk d m i) a (m+1)=bz d a i++([d[m]!]++bz d i m):=by
  rw[eQ _ (show a≤i by omega) (show i≤m+1 by omega),s1,nS _ (show i<m+1 by omega),←s2,gm,if_neg (by omega),if_pos rfl]
  rfl
 have s0:bz d a (m+1)=bz d a i++(bz d i m++[d[m]!]):=by
  rw[eQ _ (show a≤i by omega) (show i≤m+1 by omega),aaY _ (show i<m+1 by omega),aj8]
 have hsp:=oL.1 (by rw[←eQ d (show a≤i by omega) (show i≤m by omega)];exact h1:sY lt (bz d a i++bz d i m))
 refine⟨?_,fun c=> ?_,fun t ht=>by rw[gm,if_neg (by omega),if_neg (by omega)]⟩
 ·rw[s3,oL,oL]
  refine⟨hsp.1,⟨ajK _ _,hsp.2.1,fun x hx y hy=> ?_⟩,fun x hx y hy=> ?_⟩
  ·obtain rfl:=aiT.1 hx
   obtain⟨t,t1,t2,rfl⟩:=mZ.1 hy
   exact asym hO (f2 t t1 t2)
  ·rcases ajp.1 hy with hy|hy
   ·obtain rfl:=aiT.1 hy
    obtain⟨t,t1,t2,rfl⟩:=mZ.1 hx
    exact f1 t t1 t2
   ·exact hsp.2.2 x hx y hy
 ·rw[s3,s0,aiU,aiU (l₁:=bz d a i)]
  congr 1
  refine(y6 hO (fun x hx y hy=> ?_) c).symm
  obtain rfl:=aiT.1 hy
  obtain⟨t,t1,t2,rfl⟩:=mZ.1 hx
  exact f2 t t1 t2
variable {α:Type} [Inhabited α]
theorem tX {lt:α→α→Bool} (hO:SWO lt):∀(N:Nat) {d:Array α} {a m b:Nat},b-a≤N→a<m→m<b→b≤d.size→sY lt (bz d a m)→sY lt (bz d m b)→Bw lt d (eY lt d a m b) a b
 |0,d,a,m,b,hN,ham,hmb,hb,h1,h2=>by omega
 |N+1,d,a,m,b,hN,ham,hmb,hb,h1,h2=>by
  by_cases hl:m≤a+1
  ·obtain rfl:m=a+1:=by omega
   rw[eY,if_pos hl]
   exact PR hO (by omega) hb h2
  by_cases hr:b≤m+1
  ·obtain rfl:b=m+1:=by omega
   rw[eY,if_neg hl,if_pos (aiP _)]
   exact Lz hO ham hb h1
  rw[IF hl hr]
  have hle:=Hm (lt:=lt) (d:=d) ham hmb
  have hed:(a<bF lt d a m b→(a+b)/2+m-bF lt d a m b<b→lt d[(a+b)/2+m-bF lt d a m b]! d[bF lt d a m b-1]! =false)∧
   (bF lt d a m b<m→m<(a+b)/2+m-bF lt d a m b→lt d[(a+b)/2+m-bF lt d a m b-1]! d[bF lt d a m b]! =true):=by
   unfold bF
   have he:=Ip (fun c=> !lt d[(a+b)/2+m-1-c]! d[c]!) (i:=if(a+b)/2<m then(a+b)/2+m-b else a) (j:=if(a+b)/2<m then(a+b)/2 else m)
    (lo:=if(a+b)/2<m then(a+b)/2+m-b else a) (hi:=if(a+b)/2<m then(a+b)/2 else m) (by split<;>omega) (fun h=>by omega) (fun h=>by omega) (aiP _) (aiP _)
   have hb2:=Fg (fun c=> !lt d[(a+b)/2+m-1-c]! d[c]!) (if(a+b)/2<m then(a+b)/2+m-b else a) (if(a+b)/2<m then(a+b)/2 else m) (by split<;>omega)
   generalize gY (fun c=> !lt d[(a+b)/2+m-1-c]! d[c]!) (if(a+b)/2<m then(a+b)/2+m-b else a) (if(a+b)/2<m then(a+b)/2 else m)=s at*
   simp only[aji,aj9]at he
   refine⟨fun g1 g2=> ?_,fun g1 g2=> ?_⟩
   ·have:=he.1 (by split<;>omega)
    rw[show(a+b)/2+m-1-(s-1)=(a+b)/2+m-s by omega]at this
    exact this
   ·have:=he.2 (by split<;>omega)
    rw[show(a+b)/2+m-1-s=(a+b)/2+m-s-1 by omega]at this
    exact this
  have hRot:dS lt d a m b=if bF lt d a m b<m∧m<(a+b)/2+m-bF lt d a m b then qK m d (m-bF lt d a m b) ((a+b)/2+m-bF lt d a m b-m)else d:=rfl
  have hTwo:fw lt d a m b=if a<bF lt d a m b∧bF lt d a m b<(a+b)/2 then eY lt (dS lt d a m b) a (bF lt d a m b) ((a+b)/2)else dS lt d a m b:=rfl
  have hz1:=mW lt d a m b
  have hz2:=WN lt d a m b
  generalize bF lt d a m b=s at*
  generalize dS lt d a m b=d1 at*
  generalize fw lt d a m b=d2 at*
  obtain⟨hs1,hs2,hs3,hs4⟩:=hle
  obtain⟨e,he⟩:∃e,e=(a+b)/2+m-s:=⟨_,rfl⟩
  rw[←he]at hed hRot⊢
  obtain⟨mid,hmid⟩:∃mid,mid=(a+b)/2:=⟨_,rfl⟩
  rw[←hmid]at he hTwo hs3⊢
  have i1:=oL.1 (by rw[←eQ d hs1 hs2];exact h1:sY lt (bz d a s++bz d s m))
  have i2:=oL.1 (by rw[←eQ d (show m≤e by omega) (show e≤b by omega)];exact h2:sY lt (bz d m e++bz d e b))
  have a1:=Cd.1 h1
  have a2:=Cd.1 h2
  have F1:∀x∈bz d s m,∀y∈bz d m e,lt y x=true:=fun x hx y hy=>by
   obtain⟨t,t1,t2,rfl⟩:=mZ.1 hx
   obtain⟨u,u1,u2,rfl⟩:=mZ.1 hy
   have h0:=hed.2 (by omega) (by omega)
   have q1:lt d[t]! d[s]! =false:=by
    rcases aiX s t with g|g
    ·exact a1 s t hs1 g t2
    ·rw[show t=s by omega];exact hO.irrefl _
   have q2:lt d[e-1]! d[u]! =false:=by
    rcases aiX u (e-1)with g|g
    ·exact a2 u (e-1) u1 g (by omega)
    ·rw[show u=e-1 by omega];exact hO.irrefl _
   cases hv:lt d[u]! d[t]! with
   |true=>rfl
   |false=>
    have:=hO.ntrans _ _ _ (hO.ntrans _ _ _ q2 hv) q1
    rw[h0]at this;cases this
  have F2:∀x∈bz d a s,∀y∈bz d e b,lt y x=false:=fun x hx y hy=>by
   obtain⟨t,t1,t2,rfl⟩:=mZ.1 hx
   obtain⟨u,u1,u2,rfl⟩:=mZ.1 hy
   have h0:=hed.1 (by omega) (by omega)
   have q1:lt d[s-1]! d[t]! =false:=by
    rcases aiX t (s-1)with g|g
    ·exact a1 t (s-1) t1 g (by omega)
    ·rw[show t=s-1 by omega];exact hO.irrefl _
   have q2:lt d[u]! d[e]! =false:=by
    rcases aiX e u with g|g
    ·exact a2 e u (by omega) g u2
    ·rw[show u=e by omega];exact hO.irrefl _
   exact hO.ntrans _ _ _ q2 (hO.ntrans _ _ _ h0 q1)
  have R:bz d1 a s=bz d a s∧bz d1 s mid=bz d m e∧bz d1 mid e=bz d s m∧bz d1 e b=bz d e b∧∀t,t<a∨b≤t→d1[t]! =d[t]! :=by
   by_cases hc:s<m∧m<e
   ·rw[if_pos hc]at hRot
    have g:=fun t=>aby (m:=m) (d:=d) (i:=m-s) (j:=e-m) (by omega) (by omega) (by omega) (by omega) t
    rw[←hRot]at g
    refine⟨fX fun t g1 g2=>by rw[g,if_neg (by omega),if_neg (by omega)],?_,?_,fX fun t g1 g2=>by rw[g,if_neg (by omega),if_neg (by omega)],fun t ht=>by rw[g,if_neg (by omega),if_neg (by omega)]⟩
    ·rw[yg (s:=m-s) (d:=d) fun t g1 g2=>by rw[g,if_pos (by omega)]]
     congr 1<;>omega
    ·have:bz d s m=bz d1 (s+(e-m)) (m+(e-m)):=yg fun t g1 g2=>by rw[g,if_neg (by omega),if_pos (by omega)];congr 1;omega
     rw[this]
     congr 1<;>omega
   ·rw[if_neg hc]at hRot
    subst hRot
    rcases aiX s m with g|g
    ·have g1:e=m:=by omega
     have g2:mid=s:=by omega
     exact⟨rfl,by rw[mU _ (by omega),mU _ (by omega)],by congr 1<;>omega,rfl,fun t ht=>rfl⟩
    ·have g1:s=m:=by omega
     have g2:mid=e:=by omega
     exact⟨rfl,by congr 1,by rw[mU _ (by omega),mU _ (by omega)],rfl,fun t ht=>rfl⟩
  obtain⟨r1,r2,r3,r4,r5⟩:=R
  have T1:Bw lt d1 d2 a mid:=by
   by_cases hc:a<s∧s<mid
   ·rw[if_pos hc]at hTwo
    rw[hTwo]
    exact tX hO N (by omega) hc.1 hc.2 (by omega) (by rw[r1];exact i1.1) (by rw[r2];exact i2.1)
   ·rw[if_neg hc]at hTwo
    subst hTwo
    refine⟨?_,fun c=>rfl,fun t ht=>rfl⟩
    rcases aiX a s with g|g
    ·rw[show mid=s by omega,r1];exact i1.1
    ·rw[show a=s by omega,r2];exact i2.1
  have hms:bz d a b=bz d a s++bz d s m++(bz d m e++bz d e b):=by
   rw[eQ d (show a≤m by omega) (show m≤b by omega),eQ d hs1 hs2,eQ d (show m≤e by omega) (show e≤b by omega)]
  have d1m:bz d1 a mid=bz d a s++bz d m e:=by rw[eQ d1 hs1 hs3,r1,r2]
  have k3:bz d2 mid e=bz d s m:=by rw[←r3];exact fX fun t g1 g2=>T1.out t (by omega)
  have k4:bz d2 e b=bz d e b:=by rw[←r4];exact fX fun t g1 g2=>T1.out t (by omega)
  have d2m:bz d2 mid b=bz d s m++bz d e b:=by rw[eQ d2 (show mid≤e by omega) (show e≤b by omega),k3,k4]
  have T2:Bw lt d2 (if mid<e∧e<b then eY lt d2 mid e b else d2) mid b:=by
   by_cases hc:mid<e∧e<b
   ·rw[if_pos hc]
    exact tX hO N (by omega) hc.1 hc.2 (by omega) (by rw[k3];exact i1.2.1) (by rw[k4];exact i2.2.1)
   ·rw[if_neg hc]
    refine⟨?_,fun c=>rfl,fun t ht=>rfl⟩
    rcases aiX mid e with g|g
    ·rw[d2m,mU d (show b≤e by omega),ajO];exact i1.2.1
    ·rw[d2m,mU d (show m≤s by omega),ajc];exact i2.2.1
  generalize (if mid<e∧e<b then eY lt d2 mid e b else d2)=r at*
  have rA:bz r a mid=bz d2 a mid:=fX fun t g1 g2=>T2.out t (by omega)
  have rs:bz r a b=bz d2 a mid++bz r mid b:=by rw[eQ r (show a≤mid by omega) (show mid≤b by omega),rA]
  have m1:∀x∈bz d2 a mid,x∈bz d a s∨x∈bz d m e:=fun x hx=>by
   have:=nc hO T1.same hx
   rw[d1m]at this
   exact ajp.1 this
  have m2:∀x∈bz r mid b,x∈bz d s m∨x∈bz d e b:=fun x hx=>by
   have:=nc hO T2.same hx
   rw[d2m]at this
   exact ajp.1 this
  refine⟨?_,fun c=> ?_,fun t ht=> ?_⟩
  ·rw[rs,oL]
   refine⟨T1.asc,T2.asc,fun x hx y hy=> ?_⟩
   rcases m1 x hx with hx|hx<;>rcases m2 y hy with hy|hy
   ·exact i1.2.2 x hx y hy
   ·exact F2 x hx y hy
   ·exact asym hO (F1 y hy x hx)
   ·exact i2.2.2 x hx y hy
  ·rw[rs,aiU,T1.same,T2.same,d1m,d2m,hms]
   have:=y6 hO F1 c
   simp only[aiU]at this⊢
   rw[ai1,←ai1 (List.filter (lv lt c) (bz d m e)),←this]
   simp only[ai1]
  ·rw[T2.out t (by omega),T1.out t (by omega),r5 t ht]
variable {α:Type} [Inhabited α]
structure dW (lt:α→α→Bool) (d r:Array α) (a b:Nat):Prop where
 same:∀c,(bz r a b).filter (lv lt c)=(bz d a b).filter (lv lt c)
 out:∀t,t<a∨b≤t→r[t]! =d[t]!
theorem dW.trans {lt:α→α→Bool} {d e r:Array α} {a b:Nat} (h1:dW lt d e a b) (h2:dW lt e r a b):dW lt d r a b:=
 ⟨fun c=>(h2.same c).trans (h1.same c),fun t ht=>(h2.out t ht).trans (h1.out t ht)⟩
theorem dW.KR {lt:α→α→Bool} {d r:Array α} {a b a' b':Nat} (h:dW lt d r a b) (hab:a≤b) (h1:a'≤a) (h2:b≤b'):dW lt d r a' b':=by
 refine⟨fun c=> ?_,fun t ht=>h.out t (by omega)⟩
 rw[eQ r h1 (show a≤b' by omega),eQ r hab h2,eQ d h1 (show a≤b' by omega),eQ d hab h2]
 rw[fX (d:=d) (d':=r) (a:=a') (b:=a) fun t g1 g2=>h.out t (by omega),fX (d:=d) (d':=r) (a:=b) (b:=b') fun t g1 g2=>h.out t (by omega)]
 simp only[aiU,h.same c]
theorem dW.refl {lt:α→α→Bool} (d:Array α) (a b:Nat):dW lt d d a b:=⟨fun _=>rfl,fun _ _=>rfl⟩
theorem abl {lt:α→α→Bool} (hO:SWO lt) {d:Array α} {j:Nat} (hj:j+1<d.size) (h:lt d[j+1]! d[j]! =true):dW lt d (swp d (j+1) j) j (j+2):=by
 have g:=fun t=>Gu (d:=d) (i:=j+1) (j:=j) (t:=t) (by omega) (by omega)
 refine⟨fun c=> ?_,fun t ht=>by rw[g,if_neg (by omega),if_neg (by omega)]⟩
 rw[nS (swp d (j+1) j) (show j<j+2 by omega),nS (swp d (j+1) j) (show j+1<j+2 by omega),mU _ (by omega),nS d (show j<j+2 by omega),nS d (show j+1<j+2 by omega),mU _ (by omega)]
 rw[g,g,if_pos rfl,if_neg (by omega),if_pos rfl]
 refine(y6 (X:=[d[j]!]) (Y:=[d[j+1]!]) hO (fun x hx y hy=> ?_) c).symm
 obtain rfl:=aiT.1 hx
 obtain rfl:=aiT.1 hy
 exact h
theorem DX {lt:α→α→Bool} (hO:SWO lt) {a b:Nat}:∀(j:Nat) {d:Array α},a≤j→j<b→b≤d.size→dW lt d (Sort.insInner lt a j d) a b
 |0,d,h1,h2,h3=>by rw[Sort.insInner];exact dW.refl ..
 |j+1,d,h1,h2,h3=>by
  rw[Sort.insInner]
  split
  ·rename_i hc
   simp only[gt_iff_lt,aiQ,decide_eq_true_eq]at hc
   refine((abl hO (by omega) hc.2).KR (by omega) (by omega) (by omega)).trans (DX hO j (by omega) (by omega) (by rw[size_swp];omega))
  ·exact dW.refl ..
theorem Sd {lt:α→α→Bool} (hO:SWO lt) {a b i:Nat} {d:Array α} (hi:a≤i) (hb:b≤d.size):dW lt d (Sort.insOuter lt a b i d) a b:=by
 fun_induction Sort.insOuter lt a b i d with
 |case1 i d h ih=>exact(DX hO i hi h hb).trans (ih (by omega) (by rw[u3];exact hb))
 |case2 i d h=>exact dW.refl ..
theorem qJ {lt:α→α→Bool} (hO:SWO lt) {d:Array α} {a b:Nat} (hab:a≤b) (hb:b≤d.size):Bw lt d (Sort.insertionSort lt d a b) a b:=by
 have hs:=Sd hO (a:=a) (b:=b) (i:=a+1) (d:=d) (by omega) hb
 refine⟨?_,hs.same,hs.out⟩
 have h:=(insertionSort_holds hO d a b hab hb).2
 rw[Cd]
 exact h
def jt (lt:α→α→Bool) (d:Array α) (c a n:Nat):Prop:=if h:0<c∧a<n then sY lt (bz d a (min (a+c) n))∧jt lt d c (a+c) n else True
termination_by n-a
theorem Yp {lt:α→α→Bool} {d r:Array α} {c a n:Nat} (h:∀t,a≤t→r[t]! =d[t]!) (hb:jt lt d c a n):jt lt r c a n:=by
 fun_induction jt lt d c a n with
 |case1 a hc ih=>
  rw[jt,dif_pos hc]
  exact⟨by rw[fX fun t g1 g2=>h t g1];exact hb.1,ih (fun t ht=>h t (by omega)) hb.2⟩
 |case2 a hc=>rw[jt,dif_neg hc];trivial
theorem abO {lt:α→α→Bool} (hO:SWO lt) {d:Array α} {a n:Nat} (ha:a≤n) (hn:n≤d.size):dW lt d (oT lt d a n) a n∧jt lt (oT lt d a n) 20 a n:=by
 fun_induction oT lt d a n with
 |case1 d a h ih=>
  have m:=qJ hO (d:=d) (a:=a) (b:=a+20) (by omega) (by omega)
  obtain⟨i1,i2⟩:=ih h (by rw[ey];exact hn)
  refine⟨(dW.KR ⟨m.same,m.out⟩ (by omega) (aiP _) h).trans (i1.KR h (by omega) (aiP _)),?_⟩
  rw[jt,dif_pos (by omega)]
  refine⟨?_,i2⟩
  rw[show min (a+20) n=a+20 by omega,fX fun t g1 g2=>i1.out t (by omega)]
  exact m.asc
 |case2 d a h=>
  have m:=qJ hO (d:=d) (a:=a) (b:=n) ha hn
  refine⟨⟨m.same,m.out⟩,?_⟩
  rw[jt]
  split
  ·refine⟨by rw[show min (a+20) n=n by omega];exact m.asc,?_⟩
   rw[jt,dif_neg (by omega)];trivial
  ·trivial
theorem ab7 {lt:α→α→Bool} (hO:SWO lt) {d:Array α} {c a n:Nat} (hc0:0<c) (ha:a≤n) (hn:n≤d.size) (hb:jt lt d c a n):dW lt d (rR lt d c a n) a n∧jt lt (rR lt d c a n) (2*c) a n:=by
 fun_induction rR lt d c a n with
 |case1 d a h ih=>
  rw[jt,dif_pos (by omega),jt,dif_pos (by omega),show min (a+c) n=a+c by omega,show min (a+c+c) n=a+2*c by omega,show a+c+c=a+2*c by omega]at hb
  have m:=tX hO (d:=d) (a:=a) (m:=a+c) (b:=a+2*c) _ (aiP _) (by omega) (by omega) (by omega) hb.1 hb.2.1
  obtain⟨i1,i2⟩:=ih h.2 (by rw[oK];exact hn) (Yp (fun t ht=>m.out t (by omega)) hb.2.2)
  refine⟨(dW.KR ⟨m.same,m.out⟩ (by omega) (aiP _) h.2).trans (i1.KR h.2 (by omega) (aiP _)),?_⟩
  rw[jt,dif_pos (by omega)]
  refine⟨?_,i2⟩
  rw[show min (a+2*c) n=a+2*c by omega,fX fun t g1 g2=>i1.out t (by omega)]
  exact m.asc
 |case2 d a h h2=>
  rw[jt,dif_pos (by omega),jt,dif_pos (by omega),show min (a+c) n=a+c by omega,show min (a+c+c) n=n by omega]at hb
  have m:=tX hO (d:=d) (a:=a) (m:=a+c) (b:=n) _ (aiP _) (by omega) (by omega) (by omega) hb.1 hb.2.1
  refine⟨⟨m.same,m.out⟩,?_⟩
  rw[jt,dif_pos (by omega),show min (a+2*c) n=n by omega]
  refine⟨m.asc,?_⟩
  rw[jt,dif_neg (by omega)];trivial
 |case3 d a h h2=>
  refine⟨dW.refl ..,?_⟩
  rw[jt]at hb⊢
  split
  ·rw[dif_pos (by omega)]at hb
   rw[show min (a+2*c) n=n by omega]
   rw[show min (a+c) n=n by omega]at hb
   refine⟨hb.1,?_⟩
   rw[jt,dif_neg (by omega)];trivial
  ·trivial
theorem abo {lt:α→α→Bool} (hO:SWO lt) {d:Array α} {c n:Nat} (hc0:0<c) (hn:n≤d.size) (hb:jt lt d c 0 n):dW lt d (qo lt d c n) 0 n∧sY lt (bz (qo lt d c n) 0 n):=by
 fun_induction qo lt d c n with
 |case1 d c h ih=>
  obtain⟨i1,i2⟩:=ab7 hO hc0 (akd _) hn hb
  obtain⟨j1,j2⟩:=ih (by omega) (by rw[Lq];exact hn) i2
  exact⟨i1.trans j1,j2⟩
 |case2 d c h=>
  refine⟨dW.refl ..,?_⟩
  rw[jt]at hb
  split at hb
  ·rw[show min (0+c) n=n by omega]at hb;exact hb.1
  ·rw[mU _ (by omega)];exact List.Pairwise.nil
theorem Y4 (lt:α→α→Bool) (d:Array α) (c n:Nat):(qo lt d c n).size=d.size:=by
 fun_induction qo lt d c n with
 |case1 d c h ih=>rw[ih,Lq]
 |case2 d c h=>rfl
theorem XE (d:Array α) {a b i:Nat} (h:i<(bz d a b).length):(bz d a b)[i]=d[a+i]! :=by
 simp only[bz,akf,ajo,ajh]
theorem XX {lt:α→α→Bool} (hO:SWO lt) (d:Array α):lH lt d=Sort.insertionSort lt d 0 d.size:=by
 have h1:=abO hO (d:=d) (a:=0) (n:=d.size) (akd _) (aiP _)
 have h3:=abo hO (d:=oT lt d 0 d.size) (c:=20) (n:=d.size) (by omega) (by rw[Mr];exact aiP _) h1.2
 have hm:=qJ hO (d:=d) (a:=0) (b:=d.size) (akd _) (aiP _)
 have hs:(lH lt d).size=d.size:=by unfold lH;rw[Y4,Mr]
 have e:bz (lH lt d) 0 d.size=bz (Sort.insertionSort lt d 0 d.size) 0 d.size:=
  K7 hO h3.2 hm.asc fun c=>((h1.1.trans h3.1).same c).trans (hm.same c).symm
 apply Array.ext
 ·rw[hs,ey]
 ·intro i hi hi2
  have hi':i<d.size:=by omega
  have h0:i<(bz (lH lt d) 0 d.size).length:=by rw[LR];exact hi'
  have h1:=XE (lH lt d) h0
  have h2:=XE (Sort.insertionSort lt d 0 d.size) (a:=0) (b:=d.size) (i:=i) (by rw[LR];exact hi')
  simp only[e]at h1
  rw[h1,Nat.zero_add,getElem!_pos (lH lt d) i hi,getElem!_pos (Sort.insertionSort lt d 0 d.size) i hi2]at h2
  exact h2
variable {P:Program} {ρ:Ren} {α:Type} [Inhabited α]
theorem SO (L:LaysGt.n8 P ρ) {t e:TypeId} {i ie:TypeInfo} (hi:P.info? t=some i) (hd:i.desc= .slice e) (hpk:P.packed t=false) (hie:P.info? e=some ie) {ke:Nat} (hke:∀w,(Extern.Rtype.kind e).run P w= .ok ke w)
 {enc:α→List Value} {k:Nat} (hk:∀x,(enc x).length=k) (h1:∀x,∀v∈enc x,v.oneCell'=true) (lt:α→α→Bool) (hO:SWO lt) {g:Nat} {lb:Array Value}
 (eg:∀args w,(callFunc g args).run P w= .ok (.enter g args) w) {blk off c:Nat} {d:Array α} (h2:2≤d.size) (hsz:d.size<1152921504606846976)
 {f:Nat} (hf:P.funcs.findIdx? (·.name== "internal/reflectlite" ++ ".Swapper$" ++toString (swapperK d.size ie ke))=some f)
 (hsw:SwapSwapsK P f (sliceBound P e ie ke (some ⟨blk,off,none⟩) d.size c) enc k blk off d.size)
 {w:World} (hless:LessReadsK P g lb enc k lt blk off d.size w) (hH:HoldsK enc k w blk off d) (hblk:blk<w.heap.size):
 Calls P (ρ.f 8) #[.iface t (.slice (some ⟨blk,off,none⟩) d.size c),.func (.func g) #[] lb] w fun e w'=>
  e= .returned (.tuple #[])∧∃n os,w'=grow (putRowK enc k (Sort.ahead w n) blk off (Sort.insertionSort lt d 0 d.size)) os:=by
 refine Any.sort_SliceStable_of_stable L t e i ie hi hd hpk hie ke hke _ d.size c (by omega) f hf (.func g) #[] lb w _ ?_
 obtain⟨os0,hW⟩:∃os0,stableWorld P ρ t (some ⟨blk,off,none⟩) d.size c w=grow w os0:=
  ⟨_,by unfold stableWorld;rw[alloc_eq_grow,alloc_eq_grow,grow_grow]⟩
 rw[hW]
 refine(ab1 (P:=P) (ρ:=ρ) {L with} hk lt (d:=d) eg (hless.grow hblk os0) hsw (holdsK_grow enc k w _ blk off d hblk hH) (by rw[size_grow];omega) hsz).mono ?_
 rintro e w' ⟨rfl,n,os,rfl⟩
 rw[XX hO]
 exact⟨rfl,n,_,by unfold sortWorldK;rw[ahead_grow,putRowK_grow enc k (Sort.ahead w n) _ blk off _ hblk,grow_grow]⟩
theorem Ex (L:LaysGt.n8 P ρ) {t e:TypeId} {i ie:TypeInfo} (hi:P.info? t=some i) (hd:i.desc= .slice e) (hpk:P.packed t=false) (hie:P.info? e=some ie) {ke:Nat} (hke:∀w,(Extern.Rtype.kind e).run P w= .ok ke w)
 {enc:α→List Value} {k:Nat} (hk:∀x,(enc x).length=k) (hs1:ie.size=k) (hagg:∀w,(isAgg e).run P w= .ok true w) (h1:∀x,∀v∈enc x,v.oneCell'=true) (lt:α→α→Bool) (hO:SWO lt) {g:Nat} {lb:Array Value}
 (eg:∀args w,(callFunc g args).run P w= .ok (.enter g args) w) {blk off c:Nat} {d:Array α} (h2:2≤d.size) (hsz:d.size<1152921504606846976)
 {f:Nat} (hf:P.funcs.findIdx? (·.name== "internal/reflectlite" ++ ".Swapper$" ++toString (swapperK d.size ie ke))=some f)
 (gS:Bool) (hx:∀args W,(callFunc f args).run P W=((Extern.ReflectliteSwapper.swap gS args).run P W).andThen fun v w'=> .ok (.value v) w')
 {w:World} (hless:LessReadsK P g lb enc k lt blk off d.size w) (hH:HoldsK enc k w blk off d) (hblk:blk<w.heap.size):
 Calls P (ρ.f 8) #[.iface t (.slice (some ⟨blk,off,none⟩) d.size c),.func (.func g) #[] lb] w fun e w'=>
  e= .returned (.tuple #[])∧∃n os,w'=grow (putRowK enc k (Sort.ahead w n) blk off (Sort.insertionSort lt d 0 d.size)) os:=by
 have hB:sliceBound P e ie ke (some ⟨blk,off,none⟩) d.size c= #[.slice (some ⟨blk,off,none⟩) d.size c,typeHandle P e]:=by
  unfold sliceBound;rw[if_neg (swapperK_gt _ _ _ h2)]
 exact SO L hi hd hpk hie hke hk h1 lt hO eg h2 hsz hf (by rw[hB];exact swapSwapsK_of_literal gS f hx e ie hie enc k hk hs1 hagg h1 blk off d.size c) hless hH hblk
end Go.Proofs
namespace Vg
open Go Go.Proofs Go.Sort
def Ii:List (ByteArray×ByteArray)→List (List UInt8)
 | []=>[]
 |a::l=>a.1.toList::a.2.toList::Ii l
theorem UY (a b:ByteArray):nz a b=decide (a.toList<b.toList):=bytesLess_eq _ _
theorem vH:∀l m:List (ByteArray×ByteArray),bD l m=decide (Ii l<Ii m)
 | [],[]=>by simp[bD,Ii]
 | [],b::m=>by simp[bD,Ii]
 |a::l,[]=>by simp[bD,Ii]
 |a::l,b::m=>by
  rw[bD,vH l m,UY,UY]
  simp only[Ii,List.cons_lt_cons_iff,beq_iff_eq]
  by_cases h1:a.1.toList=b.1.toList
  ·rw[if_pos h1]
   by_cases h2:a.2.toList=b.2.toList
   ·rw[if_pos h2]
    simp[h1,h2,ajV]
   ·rw[if_neg h2]
    simp[h1,h2,ajV]
  ·rw[if_neg h1]
   simp[h1]
theorem zD:SWO bD where
 irrefl x:=by rw[vH];simp[ajV]
 trans x y z h1 h2:=by
  rw[vH,decide_eq_true_eq]at*
  exact List.lt_trans h1 h2
 ntrans x y z h1 h2:=by
  rw[vH,decide_eq_false_iff_not]at*
  exact fun h=>(List.not_le.2 h) (List.le_trans (List.not_lt.1 h2) (List.not_lt.1 h1))
end Vg
namespace Vg
open Go
theorem acs {β:Type} {c:Bool} {a b:β} (h:c=false):(if c=true then a else b)=b:=by rw[h];rfl
end Vg
