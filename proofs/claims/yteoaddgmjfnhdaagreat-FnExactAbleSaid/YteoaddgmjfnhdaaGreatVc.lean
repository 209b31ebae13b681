/- VG, joined: an evaluator of the code over typed values, and its soundness, for any program. -/
import Derived.Test.YteoaddgmjfnhdaaGreatVb
import Derived.LoopN
import Derived.WalkKit
import Derived.ProofKit
import Derived.OpenShut
import Derived.JoinedCond
import Derived.Carry
import Derived.Test.YteoaddgmjfnhdaaGreatVa
set_option linter.unusedSimpArgs false
set_option linter.unusedVariables false
set_option linter.unusedSectionVars false
open List renaming mem_append → ahk,all_eq_true → ahn,mem_cons → aho,getD_eq_getElem?_getD → ahp,getD_cons_succ → ahq,contains_eq_mem → ahr,nodup_append → ahs,getElem?_eq_getElem → aht,mem_cons_of_mem → ahv,mem_map → ahx,mem_singleton → ahA,getElem?_eq_some_iff → ahB,nodup_cons → ahD,getD_cons_zero → ahF,mem_flatMap → ahG,mem_append_right → ahI,not_mem_nil → ahL,map_congr_left → ahM,getElem?_cons_succ → ahN,drop_drop → ahP,getElem?_eq_none → ahQ,length_cons → ahR,mem_append_left → ahT,mem_filterMap → ahV,getElem?_take → ahW,length_append → ahX,append_assoc → ahY,take_of_length_le → ahZ,length_singleton → ah0,take_append_drop → ah1,mem_filter → ah3,pairwise_append → ah4,mem_of_getElem? → ah5,drop_append_of_le_length → ah6,mem_zipIdx_iff_getElem? → ah7,pairwise_cons → ah9,getElem?_drop → aia,filter_congr → aic,isEmpty_iff → aif,map_map → aih,getElem?_cons_zero → aii,map_append → aij,append_nil → aik,lookup → ain,take_take → aio,getElem?_toArray → aip,replicate → aiq,map_cons → ais,mem_cons_self → aiu,getElem?_map → aiw,flatMap_cons → aiz,range' → aiA,any_eq_true → aiB,flatMap_map → aiC,flatMap_def → aiD,range'_succ → aiF,cons_append → aiG,head?_drop → aiI,length_set → aiK,filterMap → aiM,drop_zero → aiN,drop_take → aiO
open Bool renaming and_eq_true → ahl,or_eq_true → ahz,not_eq_true' → ahE,false_eq_true → ah8,eq_iff_iff → aiH
open Option.some renaming injEq → ahm
open Option renaming bind_eq_some_iff → ahu,isSome_iff_exists → ahK,map_eq_some_iff → ahO,bind_assoc → aix,bind_some → aiE
open Nat renaming mul_le_mul_right → ahw,add_mul → ahC,le_refl → ahJ,one_mul → ahU,lt_or_ge → aid,sub_zero → aie,min_eq_left → aim,eq_zero_or_pos → ait,lt_of_lt_of_le → aiv,not_lt → aiJ
open Prod.mk renaming injEq → ahy
open Array renaming getD_eq_getD_getElem? → ahH,getD → ahS,getElem?_setIfInBounds_ne → ah2,getElem?_append_left → aib,replicate → ail,getElem?_toList → air,ext' → aiL
open Int renaming toNat_natCast → aiy
namespace Vg
open Go
theorem CB {a b:List Nat} (h:∀c∈a,c∉b):meets a b=false:=by
 simp only[meets,List.any_eq_false,ahr,decide_eq_true_eq]
 exact h
theorem La (ts X:List Nat):Nt X (M.kill ts) (!ts.contains ·) (fun hs=>if meets hs ts then none else some hs) where
 m m:=by
   unfold M.kill
   split
   ·exact .inr (.inl rfl)
   ·exact .inl rfl
 r hs hs' h:=by
   split at h
   ·cases h
   ·cases h;exact .inl rfl
theorem Kv {ts:List Nat} {v:SV} (h:∀c∈v.dy,c∉ts):v.kill ts=v:=
 SV.stays (X:=ts) (fun m hm=>by unfold M.kill;rw[CB hm];rfl) (fun t ht=>by simpa using ht) (fun hs hh=>by simp[CB hh]) h
theorem Mz {a b:List Nat} (h:meets a b=true):∃c,c∈a∧c∈b:=by
 simp only[meets,aiB,ahr,decide_eq_true_eq]at h
 exact h
theorem BI {ts hs:List Nat} {t:Nat} (h:meets hs ts=true):t∈uo ts t hs:=by
 obtain⟨c,h1,h2⟩:=Mz h
 have:=AQ (ts:=ts) (t:=t) h1
 rwa [if_pos h2]at this
theorem Ma {ts X:List Nat} {t:Nat} (hX:t∈X):Nt X (M.aS ts t) (!ts.contains ·) (fun hs=>some (if meets hs ts then uo ts t hs else hs)) where
 m m:=by
   unfold M.aS
   split
   ·rename_i hm
    right;right
    refine⟨t,hX,?_⟩
    cases m with
    |row u hs nd=>
     simp only[M.vN]
     split
     ·exact BI hm
     ·rename_i hu
      have:meets hs ts=true:=by
       obtain⟨c,h1,h2⟩:=Mz hm
       simp only[M.aE,aho]at h1
       rcases h1 with rfl|h1
       ·simp only[ahr,decide_eq_true_eq]at hu;exact absurd h2 hu
       ·simp only[meets,aiB,ahr,decide_eq_true_eq];exact⟨c,h1,h2⟩
      simp only[M.aE,aho]
      exact .inr (BI this)
    |sha hs=>exact BI hm
    |nst b E i o p fr=>exact BI hm
    |dead=>simp[M.aE,meets]at hm
   ·exact .inl rfl
 r hs hs' h:=by
   simp only[ahm]at h
   subst h
   split
   ·rename_i hm;exact .inr ⟨t,hX,BI hm⟩
   ·exact .inl rfl
theorem N7 {ts:List Nat} {t:Nat} {v:SV} (h:∀c∈v.dy,c∉ts):v.aS ts t=v:=
 SV.stays (X:=ts) (fun m hm=>by unfold M.aS;rw[CB hm];rfl) (fun t ht=>by simpa using ht) (fun hs hh=>by simp[CB hh]) h
theorem TP (b:Nat) (X:List Nat):Nt X (M.bw b) (fun _=>true) (fun hs=>if hs.contains b then none else some hs) where
 m m:=by
   cases m with
   |row u hs nd=>
    simp only[M.bw]
    split
    ·exact .inl rfl
    ·split
     ·exact .inr (.inl rfl)
     ·exact .inl rfl
   |sha hs=>
    simp only[M.bw]
    split
    ·exact .inr (.inl rfl)
    ·exact .inl rfl
   |nst b' E i o p fr=>
    simp only[M.bw]
    split
    ·exact .inr (.inl rfl)
    ·exact .inl rfl
   |dead=>exact .inl rfl
 r hs hs' h:=by
   split at h
   ·cases h
   ·cases h;exact .inl rfl
theorem SR {b:Nat} {v:SV} (h:∀c∈v.dy,c∉ [b]):v.bw b=v:=
 SV.stays (X:=[b]) (fun m hm=>by
  cases m with
  |row u hs nd=>
   simp only[M.bw]
   split
   ·rfl
   ·rw[if_neg]
    simp only[ahr,decide_eq_true_eq]
    intro hb
    exact hm b (by simp[M.aE,hb]) (by simp)
  |sha hs=>
   simp only[M.bw]
   rw[if_neg]
   simp only[ahr,decide_eq_true_eq]
   intro hb
   exact hm b (by simp[M.aE,hb]) (by simp)
  |nst b' E i o p fr=>
   simp only[M.bw]
   rw[if_neg]
   intro hb
   exact hm b (by simp[M.aE,hb]) (by simp)
  |dead=>rfl) (fun _ _=>rfl) (fun hs hh=>by
  rw[if_neg]
  simp only[ahr,decide_eq_true_eq]
  intro hb
  exact hh b hb (by simp)) h
theorem zu {b:Nat} {e:Ty} {y:List e.den} {m:M}:∀ {τ:Ty} {x:τ.den} {sh:Sh},b∉sh.aE→gJ b e y m τ x sh=(x,sh)
 | .sl e',l,.sl (.row u hs nd),h=>by
   have:u≠b:=fun e=>h (by simp[Sh.aE,M.aE,e])
   simp only[gJ,this,if_false]
 | .pair a c,p,.pair s1 s2,h=>by
   simp only[Sh.aE,ahk,not_or]at h
   simp only[gJ,zu h.1,zu h.2]
 | .sl _,_,.sl (.nst _ _ _ _ _ _),_| .sl _,_,.leaf,_| .sl _,_,.pair _ _,_| .sl _,_,.sl (.sha _),_| .sl _,_,.sl .dead,_
 | .int _,_,.leaf,_| .int _,_,.sl _,_| .int _,_,.pair _ _,_| .bool,_,.leaf,_| .bool,_,.sl _,_| .bool,_,.pair _ _,_
 | .str,_,.leaf,_| .str,_,.sl _,_| .str,_,.pair _ _,_| .pair _ _,_,.leaf,_| .pair _ _,_,.sl _,_=>rfl
theorem zC {b:Nat} {e:Ty} {y:List e.den} {m:M} (hm:b∈m.aE):∀ {τ:Ty} {x:τ.den} {sh:Sh},(gJ b e y m τ x sh).2.live=true→b∉(gJ b e y m τ x sh).2.aE→gJ b e y m τ x sh=(x,sh)
 | .sl e',l,.sl (.row u hs nd),hl,hc=>by
   simp only[gJ]at hl hc⊢
   split
   ·rename_i hu
    rw[if_pos hu]at hl hc
    split
    ·rename_i he
     rw[dif_pos he]at hc
     exact absurd hm hc
    ·rename_i he
     rw[dif_neg he]at hl
     cases hl
   ·rfl
 | .pair a c,p,.pair s1 s2,hl,hc=>by
   simp only[gJ,Sh.live,ahl,Sh.aE,ahk,not_or]at hl hc
   simp only[gJ,zC hm hl.1 hc.1,zC hm hl.2 hc.2]
 | .sl _,_,.sl (.nst _ _ _ _ _ _),_,_| .sl _,_,.leaf,_,_| .sl _,_,.pair _ _,_,_| .sl _,_,.sl (.sha _),_,_| .sl _,_,.sl .dead,_,_
 | .int _,_,.leaf,_,_| .int _,_,.sl _,_,_| .int _,_,.pair _ _,_,_| .bool,_,.leaf,_,_| .bool,_,.sl _,_,_| .bool,_,.pair _ _,_,_
 | .str,_,.leaf,_,_| .str,_,.sl _,_,_| .str,_,.pair _ _,_,_| .pair _ _,_,.leaf,_,_| .pair _ _,_,.sl _,_,_=>rfl
theorem TV.kN {b:Nat} {e:Ty} {y:List e.den} {m:M} {v:TV} (h:b∉v.sh.aE):v.setRow b e y m=v:=by
 unfold TV.setRow;rw[zu h]
theorem TV.lD {b:Nat} {e:Ty} {y:List e.den} {m:M} (hm:b∈m.aE) {v:TV} (hl:(v.setRow b e y m).sh.live=true) (hc:b∉(v.setRow b e y m).sh.aE):v.setRow b e y m=v:=by
 unfold TV.setRow at hl hc⊢;rw[zC hm hl hc]
theorem kN {b:Nat} {e:Ty} {y:List e.den} {m:M}:∀ {v:SV},b∉v.dy→v.setRow b e y m=v
 | .no,_| .ptr ..,_| .ept ..,_=>rfl
 | .d v,h=>by simp only[SV.setRow];rw[TV.kN h]
 | .box t v,h=>by simp only[SV.setRow];rw[TV.kN (fun hh=>h (by simp[SV.dy,hh]))]
 | .rdp hs v,h=>by
   simp only[SV.setRow]
   rw[if_neg]
   simpa[SV.dy]using h
 | .tup l,h=>by
   simp only[SV.setRow]
   congr 1
   conv=>rhs;rw[←List.map_id l]
   refine ahM (fun v hv=>TV.kN (fun hh=>h ?_))
   simp only[SV.dy,ahG];exact⟨v,hv,hh⟩
 | .g j w a v,h=>by simp only[SV.setRow];rw[kN (v:=v) h]
theorem lD {b:Nat} {e:Ty} {y:List e.den} {m:M} (hm:b∈m.aE):∀ {v:SV},(v.setRow b e y m).clean=true→b∉(v.setRow b e y m).dy→v.setRow b e y m=v
 | .no,h,_=>by cases h
 | .ptr ..,_,_| .ept ..,_,_=>rfl
 | .d v,h,hc=>by simp only[SV.setRow];rw[TV.lD hm h hc]
 | .box t v,h,hc=>by simp only[SV.setRow];rw[TV.lD hm h (fun hh=>hc (by simp[SV.setRow,SV.dy,hh]))]
 | .rdp hs v,h,hc=>by
   simp only[SV.setRow]at h⊢
   split
   ·rename_i hh;rw[if_pos hh]at h;cases h
   ·rfl
 | .tup l,h,hc=>by
   simp only[SV.setRow]
   congr 1
   conv=>rhs;rw[←List.map_id l]
   refine ahM (fun v hv=> ?_)
   simp only[SV.setRow,SV.clean,List.all_map,ahn,Function.comp_apply]at h
   refine TV.lD hm (h v hv) (fun hh=>hc ?_)
   simp only[SV.setRow,SV.dy,aiC,ahG]
   exact⟨v,hv,hh⟩
 | .g j w a v,h,hc=>by simp only[SV.setRow];rw[lD hm (v:=v) h hc]
theorem Tr.stays {T:Tr} {v:SV} (h:∀c∈v.dy,c∉T.eR):T.sv v=v:=by
 cases T with
 |id=>rfl
 |kg ks gv t=>
  simp only[Tr.eR,aho,ahk,not_or]at h
  simp only[Tr.sv,dL,j0]
  have h1:(if ks.isEmpty=true then v else v.kill ks)=v:=by
   split
   ·rfl
   ·exact Kv (fun c hc=>(h c hc).2.1)
  rw[h1]
  split
  ·rfl
  ·exact N7 (fun c hc=>(h c hc).2.2)
 |el gv b e l m=>
  simp only[Tr.eR,aho,not_or]at h
  simp only[Tr.sv]
  rw[N7 (fun c hc=>(h c hc).2),SR (fun c hc=>by simpa using(h c hc).1),kN (fun hc=>(h b hc).1 rfl)]
 |ki ts rp=>
  simp only[Tr.eR,ahk,not_or]at h
  have hk:(if ts.isEmpty=true then v else v.kill ts)=v:=by
   split
   ·rfl
   ·exact Kv (fun c hc=>(h c hc).1)
  simp only[Tr.sv,dL]
  split
  ·exact hk
  ·cases v with
   |ept b e i o p τ=>
    simp only[SV.bS]
    split
    ·rename_i b' hl
     exact absurd (ahx.2 ⟨(b,b'),fJ hl,rfl⟩) (h b (by simp[SV.dy])).2.1
    ·exact hk
   |_=>exact hk
theorem Tr.kJ {T:Tr} (hT:T.ok=true) {v:SV} (hl:(T.sv v).clean=true) (h:∀c∈(T.sv v).dy,c∉T.eR):T.sv v=v:=by
 cases T with
 |id=>rfl
 |kg ks gv t=>
  simp only[Tr.sv,dL,j0]at hl h⊢
  generalize hv1:(if ks.isEmpty=true then v else v.kill ks)=v1 at hl h⊢
  have e1:(if gv.isEmpty=true then v1 else v1.aS gv t)=v1:=by
   split
   ·rfl
   ·rename_i hg
    rw[if_neg hg]at hl h
    exact SV.kJ (Ma (X:=[t]) (by simp)) hl (fun c hc hx=>h c hc (by simp only[ahA]at hx;simp[Tr.eR,hx]))
  rw[e1]at hl h⊢
  rw[←hv1]at hl h⊢
  split
  ·rfl
  ·rename_i hk
   rw[if_neg hk]at hl h
   exact SV.kJ (La ks []) hl (by simp)
 |el gv b e l m=>
  simp only[Tr.ok,ahr,decide_eq_true_eq]at hT
  simp only[Tr.sv]at hl h⊢
  have e1:=lD hT hl (fun hc=>h b hc (by simp[Tr.eR]))
  rw[e1]at hl h⊢
  have e2:(v.aS gv b).bw b=v.aS gv b:=SV.kJ (TP b []) hl (by simp)
  rw[e2]at hl h⊢
  exact SV.kJ (Ma (X:=[b]) (by simp)) hl (fun c hc hx=>h c hc (by simp only[ahA]at hx;simp[Tr.eR,hx]))
 |ki ts rp=>
  have hk:(if ts.isEmpty=true then v else v.kill ts).clean=true→(if ts.isEmpty=true then v else v.kill ts)=v:=by
   intro hl
   split
   ·rfl
   ·rename_i hk
    rw[if_neg hk]at hl
    exact SV.kJ (La ts []) hl (by simp)
  simp only[Tr.sv,dL]at hl h⊢
  split
  ·rename_i he;rw[if_pos he]at hl;exact hk hl
  ·rename_i he
   rw[if_neg he]at hl h
   cases v with
   |ept b e i o p τ=>
    simp only[SV.bS]at hl h⊢
    split
    ·rename_i b' hlk
     rw[hlk]at h
     exact absurd (by simp only[Tr.eR,ahk,ahx];exact .inr (.inr ⟨(b,b'),fJ hlk,rfl⟩)) (h b' (by simp[SV.dy]))
    ·rename_i hlk
     rw[hlk]at hl
     exact hk hl
   |_=>exact hk hl
theorem mT {T:Tr} (h:T.pM=true) (v:SV):T.sv v=v:=by
 cases T with
 |id=>rfl
 |kg ks gv t=>
  simp only[Tr.pM,ahl]at h
  simp only[Tr.sv,dL,j0,h.1,h.2,if_true]
 |el gv b e l m=>simp[Tr.pM]at h
 |ki ts rp=>simp only[Tr.pM,ahl]at h;simp only[Tr.sv,dL,h.1,h.2,if_true]
theorem acg (T:Tr):T.sv .no= .no:=by
 cases T with
 |id=>rfl
 |kg ks gv t=>simp only[Tr.sv,dL,j0];split<;>split<;>rfl
 |el gv b e l m=>rfl
 |ki ts rp=>simp only[Tr.sv,dL,SV.bS];split<;>split<;>rfl
theorem VI:∀(ws:List (Nat×SV)) (L:List SV),(cO ws L).length=L.length
 | [],_=>rfl
 |p::ws,L=>by
  show(cO ws (L.set p.1 p.2)).length=L.length
  rw[VI ws];simp
theorem Ua:∀(ws:List (Nat×SV)) (L:List SV) (s:Nat),(∀p∈ws,p.1≠s)→(cO ws L).getD s .no=L.getD s .no
 | [],_,_,_=>rfl
 |p::ws,L,s,h=>by
  show(cO ws (L.set p.1 p.2)).getD s .no=L.getD s .no
  rw[Ua ws _ s (fun q hq=>h q (by simp[hq])),dE,if_neg]
  rintro⟨e,_⟩
  exact h p (by simp) e.symm
theorem acC {E:Env} {T:Tr} {ws:List (Nat×SV)} {s:Nat} (h:∀p∈ws,p.1≠s):(E.fE (T,ws)).s.getD s .no=T.sv (E.s.getD s .no):=by
 simp only[Env.fE]
 rw[Ua ws _ s h,getD_map (acg T)]
def ck (t:Nat):SV→Bool
 | .box u _=>u=t
 |_=>false
theorem FV:∀(L:List SV) (t k s:Nat) (v:TV),cW L t k=some (s,v)↔k≤s∧L.getD (s-k) .no= .box t v∧∀j,j<s-k→ck t (L.getD j .no)=false
 | [],t,k,s,v=>by simp[cW]
 |x::L,t,k,s,v=>by
  have step:(∀u,x≠ .box t u)→(cW (x::L) t k=some (s,v)↔cW L t (k+1)=some (s,v)):=by
   intro h
   cases x with
   |box u y=>
    simp only[cW]
    rw[if_neg]
    intro e;exact h y (by rw[e])
   |_=>rfl
  by_cases hx:∃u,x= .box t u
  ·obtain⟨u,rfl⟩:=hx
   simp only[cW,if_true,ahm,ahy]
   constructor
   ·rintro⟨rfl,rfl⟩
    exact⟨ahJ _,by simp,fun j hj=>by omega⟩
   ·rintro⟨h1,h2,h3⟩
    have h0:s-k=0:=by
     rcases ait (s-k)with h|h
     ·exact h
     ·have:=h3 0 h
      simp[ck]at this
    rw[h0]at h2
    simp only[ahF,SV.box.injEq,true_and]at h2
    exact⟨by omega,h2⟩
  ·have hx':∀u,x≠ .box t u:=fun u e=>hx ⟨u,e⟩
   rw[step hx',FV L t (k+1) s v]
   have hb:ck t x=false:=by
    cases x with
    |box u y=>simp only[ck,decide_eq_false_iff_not];intro e;exact hx' y (by rw[e])
    |_=>rfl
   constructor
   ·rintro⟨h1,h2,h3⟩
    refine⟨by omega,?_,fun j hj=> ?_⟩
    ·rw[show s-k=(s-(k+1))+1 by omega,ahq];exact h2
    ·cases j with
     |zero=>simpa using hb
     |succ j=>rw[ahq];exact h3 j (by omega)
   ·rintro⟨h1,h2,h3⟩
    have hs:k+1≤s:=by
     rcases aid k s with h|h
     ·exact h
     ·rw[show s-k=0 by omega]at h2
      simp only[ahF]at h2
      exact absurd h2 (hx' v)
    refine⟨hs,?_,fun j hj=> ?_⟩
    ·rw[show s-k=(s-(k+1))+1 by omega,ahq]at h2;exact h2
    ·have:=h3 (j+1) (by omega)
     rwa [ahq]at this
theorem Vv {L L':List SV} {t s:Nat} {v:TV} (h:cW L t 0=some (s,v)) (hs:L'.getD s .no=L.getD s .no) (hb:∀j,ck t (L'.getD j .no)=ck t (L.getD j .no)):cW L' t 0=some (s,v):=by
 rw[FV]at h⊢
 obtain⟨h1,h2,h3⟩:=h
 simp only[aie]at h2 h3⊢
 exact⟨h1,by rw[hs];exact h2,fun j hj=>by rw[hb];exact h3 j hj⟩
def rowAt (t:Nat) (e:Ty):SV→Option (List e.den×List Nat×Bool)
 | .d v| .box _ v=>ga t e v.τ v.x v.sh
 |_=>none
theorem xf:∀(L:List SV) (t:Nat) (e:Ty) (k s:Nat),dU t e L k=some s↔k≤s∧(rowAt t e (L.getD (s-k) .no)).isSome∧∀j,j<s-k→rowAt t e (L.getD j .no)=none
 | [],t,e,k,s=>by simp[dU,rowAt]
 |x::L,t,e,k,s=>by
  have hdef:dU t e (x::L) k=if(rowAt t e x).isSome then some k else dU t e L (k+1):=by
   cases x<;>rfl
  rw[hdef]
  by_cases hx:(rowAt t e x).isSome=true
  ·rw[if_pos hx]
   simp only[ahm]
   constructor
   ·rintro rfl
    exact⟨ahJ _,by simpa using hx,fun j hj=>by omega⟩
   ·rintro⟨h1,h2,h3⟩
    rcases ait (s-k)with h|h
    ·omega
    ·have:=h3 0 h
     simp only[ahF]at this
     rw[this]at hx;cases hx
  ·rw[if_neg hx,xf L t e (k+1) s]
   have hxn:rowAt t e x=none:=by simpa using hx
   constructor
   ·rintro⟨h1,h2,h3⟩
    refine⟨by omega,?_,fun j hj=> ?_⟩
    ·rw[show s-k=(s-(k+1))+1 by omega,ahq];exact h2
    ·cases j with
     |zero=>simpa using hxn
     |succ j=>rw[ahq];exact h3 j (by omega)
   ·rintro⟨h1,h2,h3⟩
    have hs:k+1≤s:=by
     rcases aid k s with h|h
     ·exact h
     ·rw[show s-k=0 by omega]at h2
      simp only[ahF,hxn]at h2
      cases h2
    refine⟨hs,?_,fun j hj=> ?_⟩
    ·rw[show s-k=(s-(k+1))+1 by omega,ahq]at h2;exact h2
    ·have:=h3 (j+1) (by omega)
     rwa [ahq]at this
theorem wx:∀(L:List SV) (t:Nat) (e:Ty) (k s:Nat),dU t e L k=some s→dx t e L=rowAt t e (L.getD (s-k) .no)
 | [],t,e,k,s,h=>by simp[dU]at h
 |x::L,t,e,k,s,h=>by
  have hdef:dU t e (x::L) k=if(rowAt t e x).isSome then some k else dU t e L (k+1):=by
   cases x<;>rfl
  have hf:dx t e (x::L)=match rowAt t e x with|some r=>some r|none=>dx t e L:=by
   cases x<;>rfl
  rw[hdef]at h
  by_cases hx:(rowAt t e x).isSome=true
  ·rw[if_pos hx]at h
   simp only[ahm]at h
   subst h
   rw[hf]
   obtain⟨r,hr⟩:=ahK.1 hx
   simp[hr]
  ·rw[if_neg hx]at h
   have hxn:rowAt t e x=none:=by simpa using hx
   rw[hf,hxn]
   have hs:=(xf L t e (k+1) s).1 h
   rw[show s-k=(s-(k+1))+1 by omega,ahq]
   exact wx L t e (k+1) s h
theorem Vb {L L':List SV} {t s:Nat} {e:Ty} (h:dU t e L 0=some s) (hs:L'.getD s .no=L.getD s .no) (hb:∀j,j<s→rowAt t e (L.getD j .no)=none→rowAt t e (L'.getD j .no)=none):
 dU t e L' 0=some s∧dx t e L'=dx t e L:=by
 have h':dU t e L' 0=some s:=by
  rw[xf]at h⊢
  obtain⟨h1,h2,h3⟩:=h
  simp only[aie]at h2 h3⊢
  exact⟨h1,by rw[hs];exact h2,fun j hj=>hb j hj (h3 j hj)⟩
 refine⟨h',?_⟩
 rw[wx L' t e 0 s h',wx L t e 0 s h,aie,hs]
structure Gg (b:c9) (E E':Env):Prop where
 get:∀s∈b.rs,E'.get s=E.get s
 ra:∀s∈b.ra,∃t u u',E.get s= .box t u∧E'.get s= .box t u'∧u'.τ=u.τ
 box:∀t∈b.bx,∀j,ck t (E'.get j)=ck t (E.get j)
 row:∀p∈b.rw,∀(e:Ty) (j:Nat),j<p.2→rowAt p.1 e (E.get j)=none→rowAt p.1 e (E'.get j)=none
 dz:∀p∈b.ws,mC (E'.get p.1) p.2=true
 nb:∀p∈b.ws,sameBox (E'.get p.1) p.2=sameBox (E.get p.1) p.2
section
variable {C:Cx} {ops:List Oper} {i:Nat} {o:Oper} {E E':Env} {r:Tr×List (Nat×SV)}
theorem Uv {s:Nat} (h:s∈ji ops o):s∈(eK ops i o E r).rs∨s∈(eK ops i o E r).ra:=by
 simp only[eK,ahk,ah3]
 cases hb:(E.get s).cS with
 |true=>exact .inr ⟨h,rfl⟩
 |false=>exact .inl (.inl (.inl ⟨h,rfl⟩))
theorem Wr {t s:Nat} {v:TV} (hdr:dg o=true) (ht:t∈wY E o) (h:cW E.s t 0=some (s,v)):s∈(eK ops i o E r).rs:=by
 simp only[eK,ahk]
 refine .inl (.inr ?_)
 rw[ahV]
 exact⟨t,by rw[if_pos hdr];exact ht,by rw[h];rfl⟩
theorem MB {t s:Nat} {e:Ty} (hdr:dg o=true) (ht:(t,e)∈vc E o) (h:dU t e E.s 0=some s):(t,s)∈(eK ops i o E r).rw:=by
 simp only[eK]
 rw[ahV]
 exact⟨(t,e),by rw[if_pos hdr];exact ht,by rw[h];rfl⟩
theorem WR {t s:Nat} {e:Ty} (hdr:dg o=true) (ht:(t,e)∈vc E o) (h:dU t e E.s 0=some s):s∈(eK ops i o E r).rs:=by
 have:=MB (ops:=ops) (i:=i) (r:=r) hdr ht h
 simp only[eK,ahk]at this⊢
 refine .inr ?_
 rw[ahx]
 exact⟨(t,s),this,rfl⟩
theorem abX {s b off:Nat} {p:List Bool} {τ:Ty} (hs:s∈tmpsOf o) (h:(E.rd.get s).strip= .ptr b off p τ):b∈wY E o:=by
 unfold wY
 rw[ahV]
 exact⟨s,hs,by rw[h]⟩
theorem abB {s b:Nat} {e:Ty} (hs:s∈tmpsOf o) (h:Vy (E.rd.get s).strip=some (b,e)):(b,e)∈vc E o:=by
 unfold vc
 rw[ahV]
 exact⟨s,hs,h⟩
theorem jn {α β:Type} {f g:α→Option β}:∀ {l:List α},(∀x∈l,f x=g x)→l.filterMap f=l.filterMap g
 | [],_=>rfl
 |x::l,h=>by
  simp only[List.filterMap_cons,h x (by simp),jn (l:=l) (fun y hy=>h y (by simp[hy]))]
theorem Er {α β:Type} {f:α→Option β}:∀ {l:List α},(l.filterMap f).length=l.length→∀x∈l,(f x).isSome=true
 | [],_,x,hx=>by cases hx
 |y::l,h,x,hx=>by
  have hle:=List.length_filterMap_le f l
  cases hf:f y with
  |none=>
   rw[List.filterMap_cons_none hf]at h
   simp at h;omega
  |some z=>
   rw[List.filterMap_cons_some hf]at h
   simp only[ahR,Nat.add_right_cancel_iff]at h
   rcases aho.1 hx with rfl|hx
   ·rw[hf];rfl
   ·exact Er h x hx
theorem Yy (hK:Gg (eK ops i o E r) E E') (hfd:(eK ops i o E r).fd=true) (hdz:(eK ops i o E r).dz=true):
 dW o E.rd E'.rd∧guardOf ops E'.rd o.guard=guardOf ops E.rd o.guard∧eK ops i o E' r=eK ops i o E r:=by
 have hal:∀s∈ji ops o,bA (E'.get s)=bA (E.get s)∧(E'.get s).cS=(E.get s).cS:=fun s hs=>by
  rcases Uv (i:=i) (E:=E) (r:=r) hs with h|h
  ·rw[hK.get s h];exact⟨rfl,rfl⟩
  ·obtain⟨t,u,u',h1,h2,h3⟩:=hK.ra s h
   rw[h1,h2]
   simp only[bA,h3,SV.cS]
   exact⟨trivial,trivial⟩
 have htm:∀s∈tmpsOf o,s∈ji ops o:=fun s hs=>by simp only[ji,ahk];exact .inl hs
 have hrd:∀s∈tmpsOf o,E'.rd.get s=E.rd.get s:=fun s hs=>(hal s (htm s hs)).1
 simp only[eK,ahl,decide_eq_true_eq,ahn]at hfd
 obtain⟨hfr,hfb⟩:=hfd
 have hfr':dg o=true→∀p∈vc E o,(dU p.1 p.2 E.s 0).isSome=true:=by
  intro hdr p hp
  rw[if_pos hdr]at hfr
  have:=Er hfr p hp
  simpa using this
 have hbox:dg o=true→∀t∈wY E o,cW E'.s t 0=cW E.s t 0:=by
  intro hdr t ht
  obtain⟨⟨s,v⟩,hsv⟩:=ahK.1 (hfb t (by rw[if_pos hdr];exact ht))
  rw[hsv]
  exact Vv hsv (hK.get s (Wr hdr ht hsv)) (fun j=>hK.box t (by simp only[eK];rw[if_pos hdr];exact ht) j)
 have hrow:dg o=true→∀p∈vc E o,dU p.1 p.2 E'.s 0=dU p.1 p.2 E.s 0∧dx p.1 p.2 E'.s=dx p.1 p.2 E.s:=by
  rintro hdr ⟨t,e⟩ hp
  obtain⟨s,hs⟩:=ahK.1 (hfr' hdr (t,e) hp)
  have:=Vb hs (hK.get s (WR hdr hp hs)) (fun j hj hn=>hK.row (t,s) (MB hdr hp hs) e j hj hn)
  exact⟨this.1.trans hs.symm,this.2⟩
 refine⟨⟨hrd,fun hdr s hs b off p τ h=>hbox hdr b (abX hs h),fun hdr s hs b e h=>(hrow hdr (b,e) (abB hs h)).2⟩,?_,?_⟩
 ·cases hg:o.guard with
  |none=>rfl
  |some q=>
   obtain⟨j,w⟩:=q
   simp only[guardOf]
   cases hd:(ops[j]?).bind (·.dst)with
   |none=>rfl
   |some s=>
    have hs:s∈ji ops o:=by
     simp only[ji,ahk]
     refine .inr ?_
     rw[hg]
     simp[hd]
    have:E'.rd.get s=E.rd.get s:=(hal s hs).1
    simp only[this]
 ·have hb:wY E' o=wY E o:=jn (fun s hs=>by rw[hrd s hs])
  have hr:vc E' o=vc E o:=jn (fun s hs=>by rw[hrd s hs])
  have hf1:(ji ops o).filter (fun s=>(E'.get s).cS)=(ji ops o).filter (fun s=>(E.get s).cS):=aic (fun s hs=>(hal s hs).2)
  have hf2:(ji ops o).filter (fun s=> !(E'.get s).cS)=(ji ops o).filter (fun s=> !(E.get s).cS):=aic (fun s hs=>by rw[(hal s hs).2])
  have hrw:(if dg o=true then vc E o else []).filterMap (fun p=>(dU p.1 p.2 E'.s 0).map fun s=>(p.1,s))=(if dg o=true then vc E o else []).filterMap (fun p=>(dU p.1 p.2 E.s 0).map fun s=>(p.1,s)):=by
   split
   ·rename_i hdr;exact jn (fun p hp=>by rw[(hrow hdr p hp).1])
   ·rfl
  have hbb:∀t∈(if dg o=true then wY E o else []),cW E'.s t 0=cW E.s t 0:=by
   split
   ·rename_i hdr;exact hbox hdr
   ·intro t ht;cases ht
  have hbs:(if dg o=true then wY E o else []).filterMap (fun t=>(cW E'.s t 0).map (·.1))=(if dg o=true then wY E o else []).filterMap (fun t=>(cW E.s t 0).map (·.1)):=
   jn (fun t ht=>by rw[hbb t ht])
  have hgs:=hK.get
  have hdz':=hK.dz
  simp only[eK]at hgs hdz' hdz
  simp only[eK,hb,hr,hrw,hbs,hf1,hf2,c9.mk.injEq,true_and]
  generalize (ji ops o).filter (fun s=> !(E.get s).cS)++aiM (fun t=>Option.map (fun x=>x.fst) (cW E.s t 0)) (if dg o=true then wY E o else [])++List.map (fun x=>x.snd) (aiM (fun p=>Option.map (fun s=>(p.fst,s)) (dU p.fst p.snd E.s 0)) (if dg o=true then vc E o else []))=rs at hgs⊢
  have hnb:(r.2.filter fun p=> !sameBox (E'.get p.1) p.2)=r.2.filter fun p=> !sameBox (E.get p.1) p.2:=aic (fun p hp=>by rw[hK.nb p (by simpa only[eK]using hp)])
  refine⟨?_,?_,?_,?_,?_,by rw[hnb],trivial⟩
  ·simp only[aiD]
   congr 1
   refine ahM (fun s hs=> ?_)
   rw[hgs s hs]
  ·simp only[aiD]
   congr 1
   refine ahM (fun s hs=> ?_)
   rw[hgs s hs]
  ·rw[aiH,ahn,ahn]
   constructor
   ·intro h s hs;rw[←hgs s hs];exact h s hs
   ·intro h s hs;rw[hgs s hs];exact h s hs
  ·congr 1
   rw[aiH,ahn,ahn]
   constructor
   ·intro h t ht;rw[←hbb t ht];exact h t ht
   ·intro h t ht;rw[hbb t ht];exact h t ht
  ·rw[hdz,ahn]
   exact hdz'
end
def SV.kd:SV→Nat
 | .no=>0
 | .d _=>1
 | .box _ _=>2
 | .ptr _ _ _ _=>3
 | .ept _ _ _ _ _ _=>4
 | .rdp _ _=>5
 | .tup _=>6
 | .g _ _ _ _=>7
def zy (v v':SV):Prop:=v'.kd=v.kd∨((v.kd=4∨v.kd=5)∧v'= .no)
theorem tl {f:M→M} {fe:Nat→Bool} {fr:List Nat→Option (List Nat)} (v:SV):zy v (v.mapM f fe fr):=by
 cases v with
 |ept t e i o p τ=>
  simp only[SV.mapM]
  split
  ·exact .inl rfl
  ·exact .inr ⟨.inl rfl,rfl⟩
 |rdp hs v=>
  simp only[SV.mapM]
  split
  ·exact .inl rfl
  ·exact .inr ⟨.inr rfl,rfl⟩
 |_=>exact .inl rfl
theorem aay {b:Nat} {e:Ty} {y:List e.den} {m:M} (v:SV):zy v (v.setRow b e y m):=by
 cases v with
 |rdp hs v=>
  simp only[SV.setRow]
  split
  ·exact .inr ⟨.inr rfl,rfl⟩
  ·exact .inl rfl
 |_=>exact .inl rfl
theorem zy.refl (v:SV):zy v v:= .inl rfl
theorem zy.trans {a b c:SV} (h:zy a b) (h':zy b c):zy a c:=by
 rcases h with h|⟨h,rfl⟩
 ·rcases h' with h'|⟨h',rfl⟩
  ·exact .inl (h'.trans h)
  ·exact .inr ⟨by rw[←h];exact h',rfl⟩
 ·rcases h' with h'|⟨h',_⟩
  ·refine .inr ⟨h,?_⟩
   cases c<;>simp[SV.kd]at h'⊢
  ·simp[SV.kd]at h'
theorem KP (T:Tr) (v:SV):zy v (T.sv v):=by
 cases T with
 |id=>exact .refl v
 |kg ks gv t=>
  simp only[Tr.sv,dL,j0]
  split<;>split
  ·exact .refl v
  ·exact tl v
  ·exact tl v
  ·exact(tl v).trans (tl _)
 |el gv b e l m=>exact((tl v).trans (tl _)).trans (aay _)
 |ki ts rp=>
  have hk:zy v (if ts.isEmpty=true then v else v.kill ts):=by
   split
   ·exact .refl v
   ·exact tl v
  simp only[Tr.sv,dL]
  split
  ·exact hk
  ·cases v with
   |ept b e i o p τ=>
    simp only[SV.bS]
    split
    ·exact .inl rfl
    ·exact hk
   |_=>exact hk
theorem wA {f:M→M} {fe:Nat→Bool} {fr:List Nat→Option (List Nat)} (t:Nat) (v:SV):ck t (v.mapM f fe fr)=ck t v:=by
 cases v with
 |ept t e i o p τ=>simp only[SV.mapM];split<;>rfl
 |rdp hs v=>simp only[SV.mapM];split<;>rfl
 |_=>rfl
theorem QZ {b:Nat} {e:Ty} {y:List e.den} {m:M} (t:Nat) (v:SV):ck t (v.setRow b e y m)=ck t v:=by
 cases v with
 |rdp hs v=>simp only[SV.setRow];split<;>rfl
 |_=>rfl
theorem pw (T:Tr) (t:Nat) (v:SV):ck t (T.sv v)=ck t v:=by
 cases T with
 |id=>rfl
 |kg ks gv u=>
  simp only[Tr.sv,dL,j0]
  split<;>split<;>simp only[SV.aS,SV.kill,wA]
 |el gv b e l m=>simp only[Tr.sv,QZ,SV.bw,SV.aS,wA]
 |ki ts rp=>
  have hk:ck t (if ts.isEmpty=true then v else v.kill ts)=ck t v:=by
   split<;>simp only[SV.kill,wA]
  simp only[Tr.sv,dL]
  split
  ·exact hk
  ·cases v with
   |ept b e i o p τ=>
    simp only[SV.bS]
    split
    ·rfl
    ·exact hk
   |_=>exact hk
theorem gK {t:Nat} {v:SV} (h:ck t v=true):∃u,v= .box t u:=by
 cases v with
 |box t' u=>simp only[ck,decide_eq_true_eq]at h;subst h;exact⟨u,rfl⟩
 |_=>simp[ck]at h
theorem acM {v q:SV} (h:v.kd=0∨v.kd=4∨v.kd=5):mC v q=true:=by
 cases v<;>first|rfl|simp[SV.kd]at h
theorem CC {v q:SV} (h:v.kd=1∨v.kd=3∨v.kd=6∨v.kd=7):mC v q=(v.clean&&v.dy.isEmpty):=by
 cases v<;>first|rfl|simp[SV.kd]at h
theorem Xt {T:Tr} {v q:SV} (h:mC v q=true):mC (T.sv v) q=true:=by
 have hk:=KP T v
 have helse:v.kd=1∨v.kd=3∨v.kd=6∨v.kd=7→mC (T.sv v) q=true:=by
  intro he
  have h0:=h
  rw[CC he,ahl]at h0
  have:v.dy=[]:=by simpa using h0.2
  rw[Tr.stays (by rw[this];simp)]
  exact h
 have h045:v.kd=0∨v.kd=4∨v.kd=5→mC (T.sv v) q=true:=by
  intro he
  rcases hk with hk|⟨_,hk⟩
  ·exact acM (by rw[hk];exact he)
  ·rw[hk];rfl
 cases v with
 |box t u=>
  obtain⟨u',hu⟩:=gK (t:=t) (v:=T.sv (.box t u)) (by rw[pw];simp[ck])
  rw[hu]
  exact h
 |no=>exact h045 (.inl rfl)
 |ept t e i o p τ=>exact h045 (.inr (.inl rfl))
 |rdp hs v=>exact h045 (.inr (.inr rfl))
 |d v=>exact helse (.inl rfl)
 |ptr t o p τ=>exact helse (.inr (.inl rfl))
 |tup l=>exact helse (.inr (.inr (.inl rfl)))
 |g j w a v=>exact helse (.inr (.inr (.inr rfl)))
theorem Xa {T:Tr} (hT:T.ok=true) {v q:SV} (h:mC (T.sv v) q=true):mC v q=true:=by
 have hk:=KP T v
 have helse:v.kd=1∨v.kd=3∨v.kd=6∨v.kd=7→mC v q=true:=by
  intro he
  rcases hk with hk|⟨hk,_⟩
  ·have h0:=h
   rw[CC (by rw[hk];exact he),ahl]at h0
   have ht:(T.sv v).dy=[]:=by simpa using h0.2
   rw[Tr.kJ hT h0.1 (by rw[ht];simp)]at h
   exact h
  ·omega
 cases v with
 |box t u=>
  obtain⟨u',hu⟩:=gK (t:=t) (v:=T.sv (.box t u)) (by rw[pw];simp[ck])
  rw[hu]at h
  exact h
 |no|ept t e i o p τ|rdp hs v=>rfl
 |d v=>exact helse (.inl rfl)
 |ptr t o p τ=>exact helse (.inr (.inl rfl))
 |tup l=>exact helse (.inr (.inr (.inl rfl)))
 |g j w a v=>exact helse (.inr (.inr (.inr rfl)))
theorem vG {t:Nat} {e:Ty}:∀ {τ:Ty} {x:τ.den} {sh:Sh},t∉sh.aE→ga t e τ x sh=none
 | .sl e',l,.sl (.row u hs nd),h=>by
   have:u≠t:=fun e=>h (by simp[Sh.aE,M.aE,e])
   simp only[ga,this,if_false]
 | .pair a c,p,.pair s1 s2,h=>by
   simp only[Sh.aE,ahk,not_or]at h
   simp only[ga,vG h.1,vG h.2]
 | .sl _,_,.sl (.nst _ _ _ _ _ _),_| .sl _,_,.leaf,_| .sl _,_,.pair _ _,_| .sl _,_,.sl (.sha _),_| .sl _,_,.sl .dead,_
 | .int _,_,.leaf,_| .int _,_,.sl _,_| .int _,_,.pair _ _,_| .bool,_,.leaf,_| .bool,_,.sl _,_| .bool,_,.pair _ _,_
 | .str,_,.leaf,_| .str,_,.sl _,_| .str,_,.pair _ _,_| .pair _ _,_,.leaf,_| .pair _ _,_,.sl _,_=>rfl
theorem HG {t:Nat} {e:Ty} {v:SV} (h:t∉v.dy):rowAt t e v=none:=by
 cases v with
 |d v=>exact vG h
 |box t v=>exact vG (fun hc=>h (by simp[SV.dy,hc]))
 |_=>rfl
theorem KF {t:Nat} {e:Ty} {v:SV} (hb:v.cS=false) (h:t∉v.dy):rowAt t e v=none:=HG h
theorem mS {E:Env} {T:Tr} {ws:List (Nat×SV)} {j:Nat} (h:∀p∈ws,p.1≠j):(E.fE (T,ws)).get j=T.sv (E.get j):=acC h
theorem UE:∀(ws:List (Nat×SV)) (L:List SV) (j:Nat),(cO ws L).getD j .no=L.getD j .no∨∃p∈ws,p.1=j∧(cO ws L).getD j .no=p.2
 | [],_,_=> .inl rfl
 |p::ws,L,j=>by
  rcases UE ws (L.set p.1 p.2) j with h|⟨q,hq,h1,h2⟩
  ·have h':(cO (p::ws) L).getD j .no=(L.set p.1 p.2).getD j .no:=h
   rw[dE]at h'
   split at h'
   ·rename_i hc
    exact .inr ⟨p,by simp,hc.1.symm,h'⟩
   ·exact .inl h'
  ·exact .inr ⟨q,by simp[hq],h1,h2⟩
theorem Nk (E:Env) (T:Tr) (ws:List (Nat×SV)) (j:Nat):(E.fE (T,ws)).get j=T.sv (E.get j)∨∃p∈ws,p.1=j∧(E.fE (T,ws)).get j=p.2:=by
 rcases UE ws (E.s.map T.sv) j with h|h
 ·refine .inl ?_
  have:(E.fE (T,ws)).get j=(E.s.map T.sv).getD j .no:=h
  rw[this,getD_map (acg T)]
  rfl
 ·exact .inr h
structure Za (a b:c9):Prop where
 rs:∀p∈a.ws,p.1∉b.rs
 ra:∀p∈a.ws,p.1∉b.ra
 ws:∀p∈a.ws,∀q∈b.ws,q.1≠p.1
 bx:∀p∈a.ws,∀t u,p.2= .box t u→t∉b.bx
 rw:∀p∈a.ws,∀q∈b.rw,q.2<p.1∨(p.2.cS=false∧q.1∉p.2.dy)
 tr:a.T.pM=true∨(b.rw=[]∧(∀t∈b.tk,t∉a.T.eR)∧(∀t∈b.te,t∉a.T.nK)∧∀p∈b.ws,(∀t∈p.2.yT,t∉a.T.eR)∧∀t∈p.2.tZ,t∉a.T.nK)
structure CI (a b:c9):Prop where
 rs:∀p∈a.ws,p.1∉b.rs
 ra:∀p∈a.ws,p.1∉b.ra
 ws:∀p∈a.ws,∀q∈b.ws,q.1≠p.1
 bx:∀p∈a.ws,∀t u,p.2= .box t u→t∉b.bx
 rw:∀p∈a.ws,∀q∈b.rw,q.2<p.1∨q.1∉p.2.dy
 tr:a.T.pM=true∨((b.rw=[]∨a.T.Yb=true)∧(∀t∈b.tk,t∉a.T.eR)∧(∀t∈b.te,t∉a.T.nK)∧∀p∈b.ws,(∀t∈p.2.yT,t∉a.T.eR)∧∀t∈p.2.tZ,t∉a.T.nK)
theorem Za.toF {a b:c9} (h:Za a b):CI a b:=⟨h.rs,h.ra,h.ws,h.bx,fun p hp q hq=>(h.rw p hp q hq).imp id And.right,h.tr.imp id (fun⟨h1,h2⟩=>⟨.inl h1,h2⟩)⟩
theorem YX {a b:c9} (h:a.X9 b=true):CI a b:=by
 simp only[c9.X9,ahl,ahn,ahz,ahE,ahr,decide_eq_false_iff_not,decide_eq_true_eq,ne_eq,aif]at h
 obtain⟨h1,h2⟩:=h
 refine⟨fun p hp=>(h1 p hp).1.1.1.1,fun p hp=>(h1 p hp).1.1.1.2,fun p hp q hq=>(h1 p hp).1.1.2 q hq,fun p hp t u e=> ?_,fun p hp q hq=> ?_,?_⟩
 ·have:=(h1 p hp).1.2
  rw[e]at this
  simpa using this
 ·rcases(h1 p hp).2 q hq with h|h
  ·exact .inl h
  ·exact .inr h
 ·rcases h2 with h|⟨⟨⟨h,h'⟩,h3⟩,h''⟩
  ·exact .inl h
  ·exact .inr ⟨h,h',h3,h''⟩
theorem yO {t:Nat} {e:Ty} {f:M→M} (hf:∀m u hs nd,f m= .row u hs nd→∃hs' nd',m= .row u hs' nd'):∀ {τ:Ty} {x:τ.den} {sh:Sh},ga t e τ x sh=none→ga t e τ x (sh.map f)=none
 | .int _,_,sh,_| .bool,_,sh,_| .str,_,sh,_=>by cases sh<;>rfl
 | .sl e',l,.sl m,h=>by
   simp only[Sh.map]
   cases hm:f m with
   |row u hs nd=>
    obtain⟨hs',nd',rfl⟩:=hf m u hs nd hm
    simp only[ga]at h⊢
    split
    ·rename_i hu
     rw[if_pos hu]at h
     split
     ·rename_i he;rw[dif_pos he]at h;cases h
     ·rfl
    ·rfl
   |sha hs=>rfl
   |nst=>rfl
   |dead=>rfl
 | .sl e',l,.leaf,_| .sl e',l,.pair _ _,_=>by simp[Sh.map,ga]
 | .pair a b,x,.pair s1 s2,h=>by
   simp only[ga,Sh.map]at h⊢
   cases h1:ga t e a x.1 s1 with
   |some r=>rw[h1]at h;cases h
   |none=>
    rw[h1]at h
    simp only[yO hf h1]
    exact yO hf h
 | .pair a b,x,.leaf,_| .pair a b,x,.sl _,_=>by simp[Sh.map,ga]
theorem aaU (ts:List Nat):∀m u hs nd,M.kill ts m= .row u hs nd→∃hs' nd',m= .row u hs' nd':=by
 intro m u hs nd h
 unfold M.kill at h
 split at h
 ·cases h
 ·exact⟨hs,nd,h⟩
theorem aas (ts:List Nat) (t:Nat):∀m u hs nd,M.aS ts t m= .row u hs nd→∃hs' nd',m= .row u hs' nd':=by
 intro m u hs nd h
 unfold M.aS at h
 split at h
 ·cases m with
  |row u' hs' nd'=>
   simp only[M.vN]at h
   split at h
   ·cases h
   ·simp only[M.row.injEq]at h;obtain⟨rfl,_,_⟩:=h;exact⟨hs',nd',rfl⟩
  |sha hs'=>simp[M.vN]at h
  |nst=>simp[M.vN]at h
  |dead=>simp[M.vN]at h
 ·exact⟨hs,nd,h⟩
theorem Kq {t:Nat} {e:Ty} {f:M→M} (hf:∀m u hs nd,f m= .row u hs nd→∃hs' nd',m= .row u hs' nd') {fe:Nat→Bool} {fr:List Nat→Option (List Nat)} {v:SV} (h:rowAt t e v=none):rowAt t e (v.mapM f fe fr)=none:=by
 cases v with
 |d v=>exact yO hf h
 |box b v=>exact yO hf h
 |ept=>simp only[SV.mapM];split<;>rfl
 |rdp=>simp only[SV.mapM];split<;>rfl
 |_=>rfl
theorem ab8 {T:Tr} (hT:T.Yb=true) {t:Nat} {e:Ty} {v:SV} (h:rowAt t e v=none):rowAt t e (T.sv v)=none:=by
 have hk:∀ {ts:List Nat} {v:SV},rowAt t e v=none→rowAt t e (dL ts v)=none:=by
  intro ts v h
  unfold dL;split
  ·exact h
  ·exact Kq (aaU ts) h
 cases T with
 |id=>exact h
 |kg ks gv u=>
  simp only[Tr.sv,j0]
  split
  ·exact hk h
  ·exact Kq (aas gv u) (hk h)
 |el=>simp[Tr.Yb]at hT
 |ki ts rp=>
  simp only[Tr.sv]
  split
  ·exact hk h
  ·cases v with
   |ept b e' i o p τ=>
    simp only[SV.bS]
    split
    ·rfl
    ·exact hk h
   |_=>exact hk h
theorem free_spec {a b:c9} (h:a.free b=true):Za a b:=by
 simp only[c9.free,ahl,ahn,ahz,ahE,ahr,decide_eq_false_iff_not,decide_eq_true_eq,ne_eq,aif]at h
 obtain⟨h1,h2⟩:=h
 refine⟨fun p hp=>(h1 p hp).1.1.1.1,fun p hp=>(h1 p hp).1.1.1.2,fun p hp q hq=>(h1 p hp).1.1.2 q hq,fun p hp t u e=> ?_,fun p hp q hq=> ?_,?_⟩
 ·have:=(h1 p hp).1.2
  rw[e]at this
  simpa using this
 ·rcases(h1 p hp).2 q hq with h|h
  ·exact .inl h
  ·simp only[Bool.or_eq_false_iff,decide_eq_false_iff_not]at h
   exact .inr h
 ·rcases h2 with h|⟨⟨⟨h,h'⟩,h3⟩,h''⟩
  ·exact .inl h
  ·exact .inr ⟨h,h',h3,h''⟩
section
variable {C:Cx} {ops:List Oper} {nt:Nat} {F F1 F2:Env} {a b:c9}
structure Cr (b:c9) (E:Env):Prop where
 tk:∀s∈b.rs,∀t∈(E.get s).yT,t∈b.tk
 te:∀s∈b.rs,∀t∈(E.get s).tZ,t∈b.te
 cl:b.cl=true→∀s∈b.rs,(E.get s).clean=true
 ra:∀s∈b.ra,(E.get s).cS=true
 dz:b.dz=true→∀p∈b.ws,mC (E.get p.1) p.2=true
 nb:∀p∈b.ws,p.1∈b.nb∨sameBox (E.get p.1) p.2=true
theorem abN {i:Nat} {o:Oper} {r:Tr×List (Nat×SV)} {E:Env} (h:eK ops i o E r=b):Cr b E:=by
 subst h
 refine⟨fun s hs t ht=> ?_,fun s hs t ht=> ?_,fun h s hs=> ?_,fun s hs=> ?_,fun h p hp=> ?_,fun p hp=> ?_⟩
 ·simp only[eK,ahG]
  exact⟨s,hs,ht⟩
 ·simp only[eK,ahG]
  exact⟨s,hs,ht⟩
 ·simp only[eK,ahn]at h
  exact h s hs
 ·simp only[eK,ah3]at hs
  exact hs.2
 ·simp only[eK,ahn]at h
  exact h p hp
 ·simp only[eK,ahx,ah3]at hp⊢
  cases hb:sameBox (E.get p.1) p.2 with
  |true=>exact .inr rfl
  |false=>exact .inl ⟨p,⟨hp,by simp[hb]⟩,rfl⟩
theorem E9 (hf:CI a b) (hd:∀p∈a.ws,mC (F.get p.1) p.2=true) (t:Nat) (ht:t∈b.bx) (j:Nat):ck t ((F.fE (a.T,a.ws)).get j)=ck t (F.get j):=by
 rcases Nk F a.T a.ws j with h|⟨p,hp,rfl,h⟩
 ·rw[h,pw]
 ·rw[h]
  have hn:ck t p.2=false:=by
   cases hb:ck t p.2 with
   |false=>rfl
   |true=>
    obtain⟨u,hu⟩:=gK hb
    exact absurd ht (hf.bx p hp t u hu)
  rw[hn]
  cases hb:ck t (F.get p.1)with
  |false=>rfl
  |true=>
   obtain⟨u,hu⟩:=gK hb
   have:=hd p hp
   rw[hu]at this
   simp only[mC]at this
   split at this
   ·rename_i t' u' e
    simp only[decide_eq_true_eq]at this
    subst this
    exact absurd ht (hf.bx p hp _ _ e)
   ·cases this
theorem Tr.ZC {T:Tr} {t:Nat} {e:Ty} {i:Int} {o:Nat} {p:List Bool} {τ:Ty} (h:t∉T.nK):T.sv (.ept t e i o p τ)= .ept t e i o p τ:=by
 cases T with
 |id=>rfl
 |kg ks gv x=>exact Tr.stays (T:= .kg ks gv x) (fun c hc=>by simp only[SV.dy,ahA]at hc;subst hc;exact h)
 |el gv b e' l m=>
  simp only[Tr.nK]at h
  simp[Tr.sv,SV.aS,SV.bw,SV.mapM,SV.setRow,h]
 |ki ts rp=>exact Tr.stays (T:= .ki ts rp) (fun c hc=>by simp only[SV.dy,ahA]at hc;subst hc;exact h)
theorem Tr.aal {T:Tr} {v:SV} (h:∀c∈v.yT,c∉T.eR) (h2:∀c∈v.tZ,c∉T.nK):T.sv v=v:=by
 cases v with
 |ept t e i o p τ=>exact Tr.ZC (h2 t (by simp[SV.tZ]))
 |_=>exact Tr.stays h
theorem tq {f:M→M} {fe:Nat→Bool} {fr:List Nat→Option (List Nat)} {v:SV} {t:Nat} {e:Ty} {i:Int} {o:Nat} {p:List Bool} {τ:Ty} (h:v.mapM f fe fr= .ept t e i o p τ):v= .ept t e i o p τ:=by
 cases v with
 |ept t' e' i' o' p' τ'=>simp only[SV.mapM]at h;split at h;exact h;cases h
 |rdp hs v=>simp only[SV.mapM]at h;split at h<;>cases h
 |_=>simp[SV.mapM]at h
theorem Zf {b:Nat} {e':Ty} {y:List e'.den} {m:M} {v:SV} {t:Nat} {e:Ty} {i:Int} {o:Nat} {p:List Bool} {τ:Ty} (h:v.setRow b e' y m= .ept t e i o p τ):v= .ept t e i o p τ:=by
 cases v with
 |ept t' e' i' o' p' τ'=>exact h
 |rdp hs v=>simp only[SV.setRow]at h;split at h<;>cases h
 |_=>simp[SV.setRow]at h
theorem Tr.aaT {T:Tr} {v:SV} {t:Nat} {e:Ty} {i:Int} {o:Nat} {p:List Bool} {τ:Ty} (he:T.sv v= .ept t e i o p τ) (h:t∉T.nK):v= .ept t e i o p τ:=by
 cases T with
 |id=>exact he
 |kg ks gv x=>
  simp only[Tr.sv,dL,j0]at he
  split at he
  ·split at he
   ·exact he
   ·exact tq he
  ·have:=tq he
   split at this
   ·exact this
   ·exact tq this
 |el gv b e' l m=>exact tq (tq (Zf he))
 |ki ts rp=>
  have hk:(if ts.isEmpty=true then v else v.kill ts)= .ept t e i o p τ→v= .ept t e i o p τ:=by
   intro hh
   split at hh
   ·exact hh
   ·exact tq hh
  simp only[Tr.sv,dL]at he
  split at he
  ·exact hk he
  ·cases v with
   |ept t' e' i' o' p' τ'=>
    simp only[SV.bS]at he
    split at he
    ·rename_i b' hl
     cases he
     exact absurd (by simp only[Tr.nK,ahk,ahx];exact .inr (.inr ⟨(t',t),fJ hl,rfl⟩)) h
    ·exact hk he
   |_=>exact hk he
theorem Tr.adn {T:Tr} (hT:T.ok=true) {v:SV} (hl:(T.sv v).clean=true) (h:∀c∈(T.sv v).yT,c∉T.eR) (h2:∀c∈(T.sv v).tZ,c∉T.nK):T.sv v=v:=by
 cases he:T.sv v with
 |ept t e i o p τ=>
  rw[he]at h2
  exact(Tr.aaT he (h2 t (by simp[SV.tZ]))).symm
 |_=>
  rw[←he]
  refine Tr.kJ hT hl ?_
  rw[he]at h⊢
  exact h
theorem aek (T:Tr) {t:Nat} {u u':TV} (h:T.sv (.box t u)= .box t u'):u'.τ=u.τ:=by
 cases T with
 |id=>cases h;rfl
 |kg ks gv x=>
  simp only[Tr.sv,dL,j0,SV.kill,SV.aS]at h
  split at h<;>split at h<;>(simp only[SV.mapM,SV.box.injEq,true_and]at h;subst h;rfl)
 |el gv b e l m=>simp only[Tr.sv,SV.aS,SV.bw,SV.mapM,SV.setRow,SV.box.injEq,true_and]at h;subst h;rfl
 |ki ts rp=>
  simp only[Tr.sv,dL,SV.bS,SV.kill]at h
  split at h<;>split at h<;>(simp only[SV.mapM,SV.box.injEq,true_and]at h;subst h;rfl)
theorem K2 (T:Tr) {t:Nat} {u:TV}:∃u',T.sv (.box t u)= .box t u'∧u'.τ=u.τ:=by
 obtain⟨u',hu⟩:=gK (t:=t) (v:=T.sv (.box t u)) (by rw[pw];simp[ck])
 exact⟨u',hu,aek T hu⟩
theorem tC {v:SV} (h:v.cS=true):∃t u,v= .box t u:=by
 cases v with
 |box t u=>exact⟨t,u,rfl⟩
 |_=>simp[SV.cS]at h
theorem LN (T:Tr) (v q:SV):sameBox (T.sv v) q=sameBox v q:=by
 cases hb:v.cS with
 |true=>
  obtain⟨t,u,rfl⟩:=tC hb
  obtain⟨u',h,hτ⟩:=K2 T (t:=t) (u:=u)
  rw[h]
  cases q<;>simp[sameBox,hτ]
 |false=>
  have h1:∀ {x:SV},x.cS=false→sameBox x q=false:=by
   intro x hx
   cases x with
   |box t u=>simp[SV.cS]at hx
   |_=>rfl
  have h2:(T.sv v).cS=false:=by
   cases h:(T.sv v).cS with
   |false=>rfl
   |true=>
    obtain⟨t,u,h'⟩:=tC h
    have:ck t (T.sv v)=true:=by rw[h'];simp[ck]
    rw[pw]at this
    obtain⟨u',h3⟩:=gK this
    rw[h3]at hb;cases hb
  rw[h1 hb,h1 h2]
theorem aax (hf:CI a b) (hd:∀p∈a.ws,mC (F.get p.1) p.2=true) (hb:Cr b F) (hbd:b.dz=true):Gg b F (F.fE (a.T,a.ws)) where
 get s hs:=by
  rw[mS (fun p hp e=>hf.rs p hp (e▸hs))]
  rcases hf.tr with h|⟨_,h,h3,_⟩
  ·exact mT h _
  ·exact Tr.aal (fun c hc=>h c (hb.tk s hs c hc)) (fun c hc=>h3 c (hb.te s hs c hc))
 ra s hs:=by
  obtain⟨t,u,h1⟩:=tC (hb.ra s hs)
  obtain⟨u',h2,h3⟩:=K2 a.T (t:=t) (u:=u)
  refine⟨t,u,u',h1,?_,h3⟩
  rw[mS (fun p hp e=>hf.ra p hp (e▸hs)),h1,h2]
 box t ht j:=E9 hf hd t ht j
 row p hp e j hj hn:=by
  rcases Nk F a.T a.ws j with h|⟨q,hq,rfl,h⟩
  ·rw[h]
   rcases hf.tr with hid|⟨h'|h',_⟩
   ·rw[mT hid];exact hn
   ·rw[h']at hp;cases hp
   ·exact ab8 h' hn
  ·rw[h]
   rcases hf.rw q hq p hp with h'|h2
   ·omega
   ·exact HG h2
 dz p hp:=by
  rw[mS (fun q hq e=>hf.ws q hq p hp e.symm)]
  exact Xt (hb.dz hbd p hp)
 nb p hp:=by rw[mS (fun q hq e=>hf.ws q hq p hp e.symm),LN]
theorem aab (hf:Za a b) (hok:a.T.ok=true) (hcl:a.T.pM=true∨b.cl=true) (hd:∀p∈a.ws,mC (F.get p.1) p.2=true) (hb:Cr b (F.fE (a.T,a.ws))) (hbd:b.dz=true):Gg b (F.fE (a.T,a.ws)) F where
 get s hs:=by
  have he:=mS (E:=F) (T:=a.T) (ws:=a.ws) (j:=s) (fun p hp e=>hf.rs p hp (e▸hs))
  rcases hf.tr with h|⟨_,h,h3,_⟩
  ·rw[he,mT h]
  ·rcases hcl with hi|hcl
   ·rw[he,mT hi]
   ·have h1:=hb.cl hcl s hs
    have h2:=hb.tk s hs
    have h4:=hb.te s hs
    rw[he]at h1 h2 h4⊢
    exact(Tr.adn hok h1 (fun c hc=>h c (h2 c hc)) (fun c hc=>h3 c (h4 c hc))).symm
 ra s hs:=by
  have he:=mS (E:=F) (T:=a.T) (ws:=a.ws) (j:=s) (fun p hp e=>hf.ra p hp (e▸hs))
  obtain⟨t,u,h1⟩:=tC (hb.ra s hs)
  have h4:ck t (F.get s)=true:=by rw[←pw a.T,←he,h1];simp[ck]
  obtain⟨u0,h5⟩:=gK h4
  obtain⟨u',h2,h3⟩:=K2 a.T (t:=t) (u:=u0)
  rw[he,h5,h2]at h1
  simp only[SV.box.injEq,true_and]at h1
  exact⟨t,u',u0,by rw[he,h5,h2],h5,h3.symm⟩
 box t ht j:=(E9 hf.toF hd t ht j).symm
 row p hp e j hj hn:=by
  have hid:a.T.pM=true:=by
   rcases hf.tr with h|⟨h,_⟩
   ·exact h
   ·rw[h]at hp;cases hp
  rcases Nk F a.T a.ws j with h|⟨q,hq,rfl,h⟩
  ·rw[h,mT hid]at hn;exact hn
  ·have hdq:=hd q hq
   cases hv:F.get q.1 with
   |d v=>
    rw[hv]at hdq
    rw[CC (.inl rfl),ahl]at hdq
    have:(SV.d v).dy=[]:=by simpa using hdq.2
    exact KF rfl (by rw[this];simp)
   |box t u=>
    rw[hv]at hdq
    simp only[mC]at hdq
    split at hdq
    ·rename_i t' u' e
     rcases hf.rw q hq p hp with h'|⟨h1,h2⟩
     ·omega
     ·rw[e]at h1;simp[SV.cS]at h1
    ·cases hdq
   |_=>rfl
 dz p hp:=by
  have he:=mS (E:=F) (T:=a.T) (ws:=a.ws) (j:=p.1) (fun q hq e=>hf.ws q hq p hp e.symm)
  have:=hb.dz hbd p hp
  rw[he]at this
  exact Xa hok this
 nb p hp:=by rw[mS (fun q hq e=>hf.ws q hq p hp e.symm),LN]
def uz (C:Cx) (ops:List Oper) (nt:Nat) (E:Env) (b:c9) (E':Env):Prop:=
 ∃o act ef,ops[b.i]?=some o∧guardOf ops E.rd o.guard=some act∧iK C ops E.rd (nt+32*b.i) o.guard o=some ef∧
  iq o act ef=some (b.T,b.ws)∧eK ops b.i o E (b.T,b.ws)=b∧E'=E.fE (b.T,b.ws)
theorem uz.Ze (h:uz C ops nt F b F1) {F':Env} (hK:Gg b F F') (hfd:b.fd=true) (hdz:b.dz=true):uz C ops nt F' b (F'.fE (b.T,b.ws)):=by
 obtain⟨o,act,ef,h1,h2,h3,h4,h5,h6⟩:=h
 have hs:=Yy (ops:=ops) (i:=b.i) (o:=o) (E:=F) (E':=F') (r:=(b.T,b.ws)) (by rw[h5];exact hK) (by rw[h5];exact hfd) (by rw[h5];exact hdz)
 obtain⟨s1,s2,s3⟩:=hs
 exact⟨o,act,ef,h1,by rw[s2];exact h2,by rw[aaS s1];exact h3,h4,by rw[s3];exact h5,rfl⟩
theorem uz.Cv (h:uz C ops nt F b F1):Cr b F:=by
 obtain⟨o,act,ef,h1,h2,h3,h4,h5,h6⟩:=h
 exact abN h5
theorem uz.fE (h:uz C ops nt F b F1):F1=F.fE (b.T,b.ws):=by
 obtain⟨o,act,ef,h1,h2,h3,h4,h5,h6⟩:=h
 exact h6
theorem I4 {f:SV→SV}:∀ {ws:List (Nat×SV)} {L:List SV},(∀p∈ws,f p.2=p.2)→(cO ws L).map f=cO ws (L.map f)
 | [],_,_=>rfl
 |p::ws,L,h=>by
  show(cO ws (L.set p.1 p.2)).map f=cO ws ((L.map f).set p.1 p.2)
  rw[I4 (fun q hq=>h q (by simp[hq])),List.map_set,h p (by simp)]
theorem Kf:∀ {ws:List (Nat×SV)} {L:List SV} {s:Nat} {v:SV},(∀p∈ws,p.1≠s)→(cO ws L).set s v=cO ws (L.set s v)
 | [],_,_,_,_=>rfl
 |p::ws,L,s,v,h=>by
  show(cO ws (L.set p.1 p.2)).set s v=cO ws ((L.set s v).set p.1 p.2)
  rw[Kf (fun q hq=>h q (by simp[hq])),List.set_comm _ _ (h p (by simp))]
theorem RD:∀ {ws vs:List (Nat×SV)} {L:List SV},(∀p∈ws,∀q∈vs,q.1≠p.1)→cO ws (cO vs L)=cO vs (cO ws L)
 | [],_,_,_=>rfl
 |p::ws,vs,L,h=>by
  show cO ws ((cO vs L).set p.1 p.2)=cO vs (cO ws (L.set p.1 p.2))
  rw[Kf (h p (by simp)),RD (fun q hq=>h q (by simp[hq]))]
theorem ab5 (hab:CI a b) (hba:CI b a) (hid:a.T.pM=true∨b.T.pM=true):(F.fE (a.T,a.ws)).fE (b.T,b.ws)=(F.fE (b.T,b.ws)).fE (a.T,a.ws):=by
 have hTv:∀ {c d:c9},CI c d→∀p∈d.ws,c.T.sv p.2=p.2:=by
  intro c d h p hp
  rcases h.tr with h|⟨_,_,_,h⟩
  ·exact mT h _
  ·exact Tr.aal (h p hp).1 (h p hp).2
 refine Env.ext' ?_ rfl
 show cO b.ws ((cO a.ws (F.s.map a.T.sv)).map b.T.sv)=cO a.ws ((cO b.ws (F.s.map b.T.sv)).map a.T.sv)
 rw[I4 (hTv hba),I4 (hTv hab),RD (fun p hp q hq e=>hab.ws q hq p hp e.symm)]
 congr 2
 rw[aih,aih]
 refine ahM (fun v _=> ?_)
 simp only[Function.comp_apply]
 rcases hid with h|h
 ·rw[mT h,mT h]
 ·rw[mT h,mT h]
theorem uz.swap (h1:uz C ops nt F a F1) (h2:uz C ops nt F1 b F2) (hi:a.ind b=true):∃F1',uz C ops nt F b F1'∧uz C ops nt F1' a F2:=by
 simp only[c9.ind,ahl,ahz]at hi
 obtain⟨⟨⟨⟨⟨⟨⟨⟨⟨⟨hab,hba⟩,hid⟩,haok⟩,hbok⟩,hcl⟩,hafd⟩,hbfd⟩,hadz⟩,hbdz⟩,_⟩:=hi
 have hab:=free_spec hab
 have hba:=YX hba
 have la:=h1.Cv
 have lb:=h2.Cv
 have e1:=h1.fE
 have e2:=h2.fE
 rw[e1]at lb
 have had:=la.dz hadz
 have kb:=aab hab haok hcl had lb hbdz
 rw[←e1]at kb
 have g1:=h2.Ze kb hbfd hbdz
 have lb':=g1.Cv
 have ka:=aax hba (lb'.dz hbdz) la hadz
 have g2:=h1.Ze ka hafd hadz
 refine⟨_,g1,?_⟩
 rw[e2,e1,ab5 hab.toF hba hid]
 exact g2
/-copies-/
theorem vJ {f:M→M} {fe:Nat→Bool} {fr:List Nat→Option (List Nat)}:∀(v:SV),bA (v.mapM f fe fr)=(bA v).mapM f fe fr
 | .no| .d _| .box _ _| .ptr ..| .tup _=>rfl
 | .ept ..=>by simp only[SV.mapM,bA];split<;>rfl
 | .rdp hs v=>by simp only[SV.mapM,bA];split<;>rfl
 | .g j w a v=>by simp only[SV.mapM,bA,vJ v]
theorem EY {b:Nat} {e:Ty} {y:List e.den} {m:M}:∀(v:SV),bA (v.setRow b e y m)=(bA v).setRow b e y m
 | .no| .d _| .box _ _| .ptr ..| .tup _| .ept ..=>rfl
 | .rdp hs v=>by simp only[SV.setRow,bA];split<;>rfl
 | .g j w a v=>by simp only[SV.setRow,bA,EY v]
theorem abw (T:Tr) (v:SV):bA (T.sv v)=T.sv (bA v):=by
 cases T with
 |id=>rfl
 |kg ks gv u=>
  simp only[Tr.sv,dL,j0]
  split<;>split<;>simp only[SV.aS,SV.kill,vJ]
 |el gv b e l m=>simp only[Tr.sv,SV.bw,SV.aS,vJ,EY]
 |ki ts rp=>
  have hk:∀v:SV,bA (if ts.isEmpty=true then v else v.kill ts)=if ts.isEmpty=true then bA v else(bA v).kill ts:=by
   intro v;split
   ·rfl
   ·simp only[SV.kill,vJ]
  simp only[Tr.sv,dL]
  split
  ·exact hk v
  ·cases v with
   |ept b e i o p τ=>
    simp only[SV.bS,bA]
    split
    ·rfl
    ·exact hk _
   |_=>exact hk _
theorem ac9 (T:Tr) (j:Nat) (w a:Bool) (v:SV):∃v',T.sv (.g j w a v)= .g j w a v':=by
 cases T with
 |id=>exact⟨v,rfl⟩
 |kg ks gv u=>simp only[Tr.sv,dL,j0];split<;>split<;>simp[SV.aS,SV.kill,SV.mapM]
 |el gv b e l m=>simp[Tr.sv,SV.bw,SV.aS,SV.mapM,SV.setRow]
 |ki ts rp=>simp only[Tr.sv,dL];split<;>(try simp only[SV.bS])<;>split<;>simp[SV.kill,SV.mapM]
def SV.M0:SV→Bool
 | .g _ _ _ _=>true
 |_=>false
theorem aak (v:SV):v.M0=(v.kd==7):=by cases v<;>rfl
theorem ad7 (T:Tr) (v:SV):(T.sv v).M0=v.M0:=by
 rw[aak,aak]
 rcases KP T v with h|⟨h,e⟩
 ·rw[h]
 ·rw[e];rcases h with h|h<;>rw[h]<;>rfl
theorem Zs (T:Tr) (l:List TV):∃f:TV→TV,T.sv (.tup l)= .tup (l.map f)∧∀x,T.sv (.d x)= .d (f x):=by
 cases T with
 |id=>exact⟨fun x=>x,by simp[Tr.sv],fun _=>rfl⟩
 |kg ks gv u=>
  simp only[Tr.sv,dL,j0]
  split<;>split
  ·exact⟨fun x=>x,by simp,fun _=>rfl⟩
  ·exact⟨_,rfl,fun _=>rfl⟩
  ·exact⟨_,rfl,fun _=>rfl⟩
  ·refine⟨_,by simp only[SV.aS,SV.kill,SV.mapM,aih];rfl,fun _=>rfl⟩
 |el gv b e l' m=>
  refine⟨_,by simp only[Tr.sv,SV.bw,SV.aS,SV.mapM,SV.setRow,aih];rfl,fun _=>rfl⟩
 |ki ts rp=>
  simp only[Tr.sv,dL]
  split<;>(try simp only[SV.bS])<;>split
  ·exact⟨fun x=>x,by simp,fun _=>rfl⟩
  ·exact⟨_,rfl,fun _=>rfl⟩
  ·exact⟨fun x=>x,by simp,fun _=>rfl⟩
  ·exact⟨_,rfl,fun _=>rfl⟩
theorem adN (T:Tr) (v:SV):(T.sv v).kd=6↔v.kd=6:=by
 rcases KP T v with h|⟨h,e⟩
 ·rw[h]
 ·rw[e];rcases h with h|h<;>rw[h]<;>decide
theorem ad2 {j:Nat} {v:SV} (h:v.kd≠6):uQ (some j) v=none:=by
 cases v with
 |tup l=>exact absurd rfl h
 |_=>rfl
theorem adw (T:Tr) (j:Option Nat) (v:SV):uQ j (T.sv v)=(uQ j v).map T.sv:=by
 cases j with
 |none=>
  have hg:=ad7 T v
  cases hv:v.M0 with
  |true=>
   cases v with
   |g j w a v=>obtain⟨v',h⟩:=ac9 T j w a v;rw[h];rfl
   |_=>simp[SV.M0]at hv
  |false=>
   rw[hv]at hg
   have h1:∀ {u:SV},u.M0=false→uQ none u=some (bA u):=by
    intro u hu
    cases u with
    |g=>simp[SV.M0]at hu
    |_=>rfl
   rw[h1 hg,h1 hv,abw]
   rfl
 |some j=>
  cases v with
  |tup l=>
   obtain⟨f,h1,h2⟩:=Zs T l
   rw[h1]
   simp only[uQ,aiw]
   cases l[j]? with
   |none=>rfl
   |some x=>simp[h2]
  |_=>
   rw[ad2 (by rw[Ne,adN];simp[SV.kd])]
   rfl
theorem V3:∀(v:SV),(bA v).cS=false
 | .no| .d _| .box _ _| .ptr ..| .tup _| .ept ..| .rdp ..| .g ..=>rfl
theorem Cu {j:Option Nat} {v x:SV} (h:uQ j v=some x):x.cS=false∧x.iP=x:=by
 cases j with
 |none=>
  cases v with
  |g=>simp[uQ]at h
  |_=>simp only[uQ,ahm]at h;subst h;exact⟨V3 _,rfl⟩
 |some j=>
  cases v with
  |tup l=>simp only[uQ,ahO]at h;obtain⟨y,_,rfl⟩:=h;exact⟨rfl,rfl⟩
  |_=>simp[uQ]at h
theorem Cn {t:Nat} {e:Ty}:∀ {τ:Ty} {x:τ.den} {sh:Sh},τ.flat=true→ga t e τ x sh=none
 | .int _,_,sh,_| .bool,_,sh,_| .str,_,sh,_=>by cases sh<;>rfl
 | .sl _,_,_,h=>by simp[Ty.flat]at h
 | .pair a b,x,.pair s1 s2,h=>by
   simp only[Ty.flat,ahl]at h
   simp only[ga,Cn h.1,Cn h.2]
 | .pair a b,x,.leaf,_| .pair a b,x,.sl _,_=>by simp[ga]
theorem aaQ {t:Nat} {e:Ty} {x:SV} (h:HT x=true):rowAt t e x=none:=by
 cases x with
 |d v=>exact Cn h
 |_=>first|rfl|simp[HT]at h
theorem aeE (T:Tr) (v:TV):∃u:TV,T.sv (.d v)= .d u∧u.τ=v.τ:=by
 cases T with
 |id=>exact⟨v,rfl,rfl⟩
 |kg ks gv u=>simp only[Tr.sv,dL,j0];split<;>split<;>exact⟨_,rfl,rfl⟩
 |el gv b e l m=>exact⟨_,rfl,rfl⟩
 |ki ts rp=>simp only[Tr.sv,dL];split<;>(try simp only[SV.bS])<;>split<;>exact⟨_,rfl,rfl⟩
theorem adf (v:SV) (h:v.kd=0∨v.kd=3∨v.kd=4∨v.kd=5):HT v=true:=by
 cases v<;>simp_all[SV.kd,HT]
theorem Z3 (T:Tr) (x:SV):HT (T.sv x)=HT x:=by
 cases x with
 |d v=>obtain⟨u,h1,h2⟩:=aeE T v;rw[h1];simp only[HT,h2]
 |g j w a v=>obtain⟨v',h⟩:=ac9 T j w a v;rw[h];rfl
 |tup l=>obtain⟨f,h,_⟩:=Zs T l;rw[h];rfl
 |box t u=>obtain⟨u',h,_⟩:=K2 T (t:=t) (u:=u);rw[h];rfl
 |_=>
  rw[adf (T.sv _) (by
   rcases KP T _ with h|⟨_,h⟩
   ·rw[h];simp[SV.kd]
   ·rw[h];simp[SV.kd])]
  rfl
def CO (ops:List Oper) (E:Env) (b:c9) (c:Nat×Nat×Option Nat×Bool) (E':Env):Prop:=
 ∃o x,ops[b.i]?=some o∧Uf o=some (c.1,c.2.1,c.2.2.1)∧uQ c.2.2.1 (E.get c.2.1)=some x∧c.2.2.2=HT x∧(b.dz=true→mC (E.get c.1) .no=true)∧E'=E.set (some c.1) x
def qS (C:Cx) (ops:List Oper) (nt:Nat) (E:Env) (b:c9) (E':Env):Prop:=
 match b.cp with
 |none=>uz C ops nt E b E'
 |some c=>CO ops E b c E'
theorem jI (E:Env) (d s:Nat) (x:SV) (h:s≠d):(E.set (some d) x).get s=E.get s:=by
 show(E.s.set d x).getD s .no=E.s.getD s .no
 rw[dE,if_neg (fun e=>h e.1)]
theorem vz (E:Env) (d s:Nat) (x:SV):(E.set (some d) x).get s=E.get s∨(s=d∧(E.set (some d) x).get s=x):=by
 show(E.s.set d x).getD s .no=E.s.getD s .no∨_
 rw[dE]
 by_cases h:s=d∧d<E.s.length
 ·right;refine⟨h.1,?_⟩;show(E.s.set d x).getD s .no=x;rw[dE,if_pos h]
 ·left;rw[if_neg h]
theorem Rq {v:SV} (h:mC v .no=true):v.cS=false:=by
 cases v with
 |box t u=>simp[mC]at h
 |_=>rfl
theorem Z7 {t:Nat} {e:Ty} {v:SV} (h:mC v .no=true):rowAt t e v=none:=by
 cases v with
 |d v=>
  rw[CC (.inl rfl),ahl]at h
  have:(SV.d v).dy=[]:=by simpa using h.2
  exact KF rfl (by rw[this];simp)
 |box t u=>simp[mC]at h
 |_=>rfl
theorem Z9 {d s:Nat} {e z:Bool} {x:SV} (hi:c9.zF d s e z b=true) (hl:Cr b F) (hx:x.cS=false) (he:e=true→HT x=true) (hd0:mC (F.get d) .no=true):Gg b F (F.set (some d) x):=by
 simp only[c9.zF,ahl,ahE,ahr,decide_eq_false_iff_not,ahn,ahz,decide_eq_true_eq,ne_eq,decide_not]at hi
 obtain⟨⟨⟨⟨⟨⟨⟨⟨hz,hrs⟩,hra⟩,hws⟩,hnb⟩,hrw⟩,hfd⟩,hdz⟩,hok⟩:=hi
 have hd:=Rq hd0
 refine⟨fun s hs=>jI _ _ _ _ (fun e=>hrs (e▸hs)),fun s hs=> ?_,fun t ht j=> ?_,fun p hp e' j hj hn=> ?_,fun p hp=> ?_,fun p hp=> ?_⟩
 ·obtain⟨t,u,h1⟩:=tC (hl.ra s hs)
  exact⟨t,u,u,h1,by rw[jI _ _ _ _ (fun e:s=d=>hra (e▸hs)),h1],rfl⟩
 ·rcases vz F d j x with h|⟨rfl,h⟩
  ·rw[h]
  ·rw[h]
   have h1:∀ {v:SV},v.cS=false→ck t v=false:=by
    intro v hv
    cases hb:ck t v with
    |false=>rfl
    |true=>obtain⟨u,hu⟩:=gK hb;rw[hu]at hv;cases hv
   rw[h1 hx,h1 hd]
 ·rcases vz F d j x with h|⟨rfl,h⟩
  ·rw[h];exact hn
  ·rw[h]
   rcases hrw p hp with h'|h'
   ·exact aaQ (he h')
   ·omega
 ·rw[jI _ _ _ _ (by simpa using hws p hp)]
  exact hl.dz hdz p hp
 ·rw[jI _ _ _ _ (by simpa using hws p hp)]
theorem WS {d s:Nat} {e z:Bool} {x:SV} (hi:c9.zF d s e z b=true) (hl:Cr b (F.set (some d) x)) (hx:x.cS=false) (hd0:mC (F.get d) .no=true):Gg b (F.set (some d) x) F:=by
 simp only[c9.zF,ahl,ahE,ahr,decide_eq_false_iff_not,ahn,ahz,decide_eq_true_eq,ne_eq,decide_not]at hi
 obtain⟨⟨⟨⟨⟨⟨⟨⟨hz,hrs⟩,hra⟩,hws⟩,hnb⟩,hrw⟩,hfd⟩,hdz⟩,hok⟩:=hi
 have hd:=Rq hd0
 refine⟨fun s hs=>(jI _ _ _ _ (fun e:s=d=>hrs (e▸hs))).symm,fun s hs=> ?_,fun t ht j=> ?_,fun p hp e' j hj hn=> ?_,fun p hp=> ?_,fun p hp=> ?_⟩
 ·obtain⟨t,u,h1⟩:=tC (hl.ra s hs)
  exact⟨t,u,u,h1,by rw[←h1,jI _ _ _ _ (fun e:s=d=>hra (e▸hs))],rfl⟩
 ·rcases vz F d j x with h|⟨rfl,h⟩
  ·rw[h]
  ·rw[h]
   have h1:∀ {v:SV},v.cS=false→ck t v=false:=by
    intro v hv
    cases hb:ck t v with
    |false=>rfl
    |true=>obtain⟨u,hu⟩:=gK hb;rw[hu]at hv;cases hv
   rw[h1 hx,h1 hd]
 ·rcases vz F d j x with h|⟨rfl,h⟩
  ·rw[←h];exact hn
  ·rcases hrw p hp with h'|h'
   ·exact Z7 hd0
   ·omega
 ·have h2:=hl.dz hdz p hp
  rw[jI _ _ _ _ (by simpa using hws p hp)]at h2
  exact h2
 ·rw[jI _ _ _ _ (by simpa using hws p hp)]
theorem c9.XO {d s:Nat} {e z:Bool} (hi:c9.zF d s e z b=true):z=true∧(∀q∈b.ws,q.1≠d)∧s∉b.nb∧b.fd=true∧b.dz=true∧b.T.ok=true:=by
 simp only[c9.zF,ahl,ahE,ahr,decide_eq_false_iff_not,ahn,ahz,decide_eq_true_eq,ne_eq,decide_not]at hi
 obtain⟨⟨⟨⟨⟨⟨⟨⟨hz,hrs⟩,hra⟩,hws⟩,hnb⟩,hrw⟩,hfd⟩,hdz⟩,hok⟩:=hi
 exact⟨hz,fun q hq=>by simpa using hws q hq,hnb,hfd,hdz,hok⟩
theorem ad3 (T:Tr) {t o:Nat} {p:List Bool} {τ:Ty}:T.sv (.ptr t o p τ)= .ptr t o p τ:=by
 cases T with
 |id=>rfl
 |kg ks gv u=>simp only[Tr.sv,dL,j0];split<;>split<;>rfl
 |el gv b e l m=>rfl
 |ki ts rp=>simp only[Tr.sv,dL];split<;>(try simp only[SV.bS])<;>split<;>rfl
theorem Zq {s:Nat} {j:Option Nat} (hl:Cr b F) (hs:s∉b.nb):uQ j ((F.fE (b.T,b.ws)).get s)=(uQ j (F.get s)).map b.T.sv:=by
 rcases Nk F b.T b.ws s with h|⟨p,hp,rfl,h⟩
 ·rw[h,adw]
 ·rw[h]
  rcases hl.nb p hp with h1|h1
  ·exact absurd h1 hs
  ·cases hv:F.get p.1 with
   |box t u=>
    rw[hv]at h1
    cases hq:p.2 with
    |box t' u'=>
     rw[hq]at h1
     simp only[sameBox,ahl,decide_eq_true_eq]at h1
     obtain⟨rfl,h1⟩:=h1
     cases j with
     |none=>simp only[uQ,bA,Option.map_some,ad3,h1]
     |some j=>rfl
    |_=>rw[hq]at h1;simp[sameBox]at h1
   |_=>rw[hv]at h1;simp[sameBox]at h1
theorem XG {d:Nat} {x:SV} {T:Tr} {ws:List (Nat×SV)} (h:∀q∈ws,q.1≠d):(F.set (some d) x).fE (T,ws)=(F.fE (T,ws)).set (some d) (T.sv x):=by
 refine Env.ext' ?_ rfl
 show cO ws ((F.s.set d x).map T.sv)=(cO ws (F.s.map T.sv)).set d (T.sv x)
 rw[List.map_set,Kf h]
theorem CO.swap {c:Nat×Nat×Option Nat×Bool} (h1:CO ops F a c F1) (h2:uz C ops nt F1 b F2) (hi:c9.zF c.1 c.2.1 c.2.2.2 a.dz b=true):∃F1',uz C ops nt F b F1'∧CO ops F1' a c F2:=by
 obtain⟨o,x,q1,q2,q3,q4,q5,rfl⟩:=h1
 obtain⟨hz,hws,hnb,hfd,hdz,hok⟩:=c9.XO hi
 have hx:=Cu q3
 have hK:=WS hi h2.Cv hx.1 (q5 hz)
 have g1:=h2.Ze hK hfd hdz
 refine⟨_,g1,o,b.T.sv x,q1,q2,?_,by rw[Z3];exact q4,fun _=> ?_,?_⟩
 ·rw[Zq g1.Cv hnb,q3];rfl
 ·rw[mS (fun p hp=>hws p hp)];exact Xt (q5 hz)
 ·rw[h2.fE];exact XG (fun p hp=>hws p hp)
theorem CO.swap' {c:Nat×Nat×Option Nat×Bool} (h1:uz C ops nt F b F1) (h2:CO ops F1 a c F2) (hi:c9.zF c.1 c.2.1 c.2.2.2 a.dz b=true):∃F1',CO ops F a c F1'∧uz C ops nt F1' b F2:=by
 obtain⟨o,x,q1,q2,q3,q4,q5,rfl⟩:=h2
 obtain⟨hz,hws,hnb,hfd,hdz,hok⟩:=c9.XO hi
 rw[h1.fE]at q3 q5
 rw[Zq h1.Cv hnb,ahO]at q3
 obtain⟨x0,q3,rfl⟩:=q3
 have hd:=q5 hz
 rw[mS (fun p hp=>hws p hp)]at hd
 have hd:=Xa hok hd
 rw[Z3]at q4
 have hx:=Cu q3
 have hK:=Z9 hi h1.Cv hx.1 (fun e=>by rw[←q4];exact e) hd
 refine⟨_,⟨o,x0,q1,q2,q3,q4,fun _=>hd,rfl⟩,?_⟩
 have g:=h1.Ze hK hfd hdz
 rw[XG (fun p hp=>hws p hp)]at g
 rw[h1.fE]
 exact g
theorem qS.swap (h1:qS C ops nt F a F1) (h2:qS C ops nt F1 b F2) (hi:a.QX b=true):∃F1',qS C ops nt F b F1'∧qS C ops nt F1' a F2:=by
 unfold qS at h1 h2⊢
 unfold c9.QX at hi
 cases ha:a.cp with
 |none=>
  rw[ha]at h1 hi
  cases hb:b.cp with
  |none=>rw[hb]at h2 hi;exact h1.swap h2 hi
  |some c=>rw[hb]at h2 hi;exact CO.swap' h1 h2 hi
 |some c=>
  rw[ha]at h1 hi
  cases hb:b.cp with
  |none=>rw[hb]at h2 hi;exact CO.swap h1 h2 hi
  |some c'=>
   rw[hb]at h2 hi
   obtain⟨o,x,q1,q2,q3,q4,q5,rfl⟩:=h1
   obtain⟨o',x',r1,r2,r3,r4,r5,rfl⟩:=h2
   simp only[ne_eq,decide_not,ahl,ahE,decide_eq_false_iff_not]at hi
   obtain⟨⟨h3,h4⟩,h5⟩:=hi
   rw[jI _ _ _ _ h5]at r3
   rw[jI _ _ _ _ (Ne.symm h3)]at r5
   refine⟨_,⟨o',x',r1,r2,r3,r4,r5,rfl⟩,o,x,q1,q2,by rw[jI _ _ _ _ h4];exact q3,q4,by rw[jI _ _ _ _ h3];exact q5,?_⟩
   refine Env.ext' ?_ rfl
   show((F.s.set c.1 x).set c'.1 x')=((F.s.set c'.1 x').set c.1 x)
   exact List.set_comm _ _ h3
theorem qS.len (h:qS C ops nt F b F1):F1.s.length=F.s.length:=by
 unfold qS at h
 split at h
 ·rw[h.fE];simp[Env.fE,VI]
 ·obtain⟨o,x,_,_,_,_,_,rfl⟩:=h;simp[Env.set]
theorem Fo {o:Oper} {d s:Nat} {j:Option Nat} (h:Uf o=some (d,s,j)):o.guard=none∧o.dst=some d∧((j=none∧(o.op= .move (.tmp s)∨o.op= .assign (.tmp s)))∨∃i,j=some i∧o.op= .extract (.tmp s) i):=by
 unfold Uf at h
 split at h
 ·rename_i h1 h2
  split at h
  ·rename_i h3;cases h;exact⟨h1,h2,.inl ⟨rfl,.inl h3⟩⟩
  ·rename_i h3;cases h;exact⟨h1,h2,.inl ⟨rfl,.inr h3⟩⟩
  ·rename_i h3;cases h;exact⟨h1,h2,.inr ⟨_,rfl,h3⟩⟩
  ·cases h
 ·cases h
theorem XM {o:Oper} {d s:Nat} {j:Option Nat} (h:Uf o=some (d,s,j)) {E:Env} {tk:Nat}:iK C ops E.rd tk none o=(uQ j (E.get s)).map .val:=by
 obtain⟨_,_,hq⟩:=Fo h
 clear h
 have ha:∀t,arg C E.rd none t (.tmp s)=(bA (E.get s) |> fun v=>if v.M0=true then none else some v):=by
  intro t
  simp only[arg,ff,Env.rd,aiE]
  cases E.get s<;>rfl
 have hn:qa C ops E.rd tk o=none:=by
  unfold qa
  rcases hq with⟨_,hq|hq⟩|⟨i,_,hq⟩<;>rw[hq]
 simp only[iK,hn]
 unfold bl
 rcases hq with⟨rfl,hq|hq⟩|⟨i,rfl,hq⟩
 ·rw[hq];simp only[ha]
  cases E.get s<;>rfl
 ·rw[hq];simp only[ha]
  cases E.get s<;>rfl
 ·rw[hq];simp only[ha]
  cases E.get s with
  |tup l=>simp only[bA,SV.M0,uQ,ah8,if_false,Option.map_map];rfl
  |_=>rfl
theorem qS.run (h:qS C ops nt F b F1):∃o act ef,ops[b.i]?=some o∧guardOf ops F.rd o.guard=some act∧iK C ops F.rd (nt+32*b.i) o.guard o=some ef∧aY o act F some ef=some F1:=by
 unfold qS at h
 split at h
 ·obtain⟨o,act,ef,h1,h2,h3,h4,h5,h6⟩:=h
  refine⟨o,act,ef,h1,h2,h3,?_⟩
  rw[Wn,h4,h6];rfl
 ·obtain⟨o,x,q1,q2,q3,q4,q5,rfl⟩:=h
  obtain⟨g1,g2,_⟩:=Fo q2
  refine⟨o,none,.val x,q1,by rw[g1];rfl,by rw[g1,XM q2,q3];rfl,?_⟩
  simp only[aY,g1,g2,dh,(Cu q3).2]
end
def wU (o:Oper):List Nat:=(o.after.toList.filter (Region.binds .any)).map (·.on)
theorem aaM (acc:List Nat):∀(d:List Nat) (m x:Nat),(d.foldl (fun m j=>m ||| (2^j ||| acc.getD j 0)) m).testBit x=true→m.testBit x=true∨x∈d∨∃j∈d,(acc.getD j 0).testBit x=true
 | [],m,x,h=> .inl h
 |j::d,m,x,h=>by
  rcases aaM acc d _ x h with h|h|⟨k,hk,h⟩
  ·rw[Nat.testBit_or,Nat.testBit_or,Nat.testBit_two_pow]at h
   simp only[ahz,decide_eq_true_eq]at h
   rcases h with h|h|h
   ·exact .inl h
   ·exact .inr (.inl (by rw[h];exact aiu))
   ·exact .inr (.inr ⟨j,aiu,h⟩)
  ·exact .inr (.inl (ahv _ h))
  ·exact .inr (.inr ⟨k,ahv _ hk,h⟩)
theorem Xe:∀(l:List Oper) (acc:List Nat),∃R,l.foldl (fun acc o=>
 acc++[((o.after.toList.filter (Region.binds .any)).map (·.on)).foldl (fun m j=>m ||| (2^j ||| acc.getD j 0)) 0]) acc=R∧R.take acc.length=acc∧
 ∀m o,l[m]?=some o→R.getD (acc.length+m) 0=(wU o).foldl (fun q j=>q ||| (2^j ||| (R.take (acc.length+m)).getD j 0)) 0
 | [],acc=>⟨acc,rfl,by simp,by simp⟩
 |o::l,acc=>by
  obtain⟨R,h1,h2,h3⟩:=Xe l (acc++[(wU o).foldl (fun m j=>m ||| (2^j ||| acc.getD j 0)) 0])
  have h2':R.take acc.length=acc:=by
   have:=congrArg (List.take acc.length) h2
   simpa[aio]using this
  refine⟨R,h1,h2',fun m o' ho=> ?_⟩
  cases m with
  |zero=>
   simp only[aii,ahm]at ho
   subst ho
   simp only[Nat.add_zero]
   rw[h2']
   have hg:R.getD acc.length 0=(R.take (acc.length+1)).getD acc.length 0:=by
    simp[ahp,ahW]
   rw[hg]
   simp only[ahX,ah0]at h2
   rw[h2]
   simp[ahp]
  |succ m=>
   simp only[ahN]at ho
   have:=h3 m o' ho
   simp only[ahX,ah0]at this
   rw[show acc.length+(m+1)=acc.length+1+m by omega]
   exact this
theorem ab3 {ops:List Oper} {i j:Nat} (h:((JH ops).getD i 0).testBit j=true) {o:Oper} (ho:ops[i]?=some o):j∈wU o∨∃k∈wU o,k<i∧((JH ops).getD k 0).testBit j=true:=by
 obtain⟨R,h1,_,h3⟩:=Xe ops []
 have hR:JH ops=R:=h1
 have:=h3 i o ho
 simp only[List.length_nil,Nat.zero_add]at this
 rw[hR,this]at h
 rcases aaM _ _ _ _ h with h|h|⟨k,hk,h⟩
 ·simp at h
 ·exact .inl h
 ·refine .inr ⟨k,hk,?_⟩
  rw[ahp,ahW]at h
  split at h
  ·rename_i hlt
   rw[hR,ahp]
   exact⟨hlt,h⟩
  ·simp at h
section
variable {C:Cx} {ops:List Oper} {nt:Nat}
def rU (C:Cx) (ops:List Oper) (nt:Nat):List c9→Env→Env→Prop
 | [],E,E'=>E=E'
 |b::l,E,E'=>∃F,qS C ops nt E b F∧rU C ops nt l F E'
theorem Z6 {ρ:Type} (o:Oper) (a:Option Bool) (ef:Ef) (k:Tr×List (Nat×SV)→Option ρ):qX o a ef k=(iq o a ef).bind k:=by
 cases ef with
 |val v=>rfl
 |chk c v=>simp only[qX,iq];split<;>split<;>rfl
 |opt α z x f=>simp only[qX,iq,aix];rfl
 |put b s v=>simp only[qX,iq];split<;>rfl
 |app c kl gv t v=>simp only[qX,iq];split<;>(try split)<;>rfl
 |elem gv b e l m=>simp only[qX,iq];split<;>rfl
 |nap c gv b e l m v=>simp only[qX,iq];split<;>(try split)<;>rfl
 |call α x tks f rp=>simp only[qX,iq];split
                     ·simp only[aix];rfl
                     ·rfl
theorem acd {i:Nat} {o:Oper} {E:Env} {r:Tr×List (Nat×SV)}:(wQ ops i o E r).i=i:=by
 unfold wQ;split<;>rfl
theorem acz {i:Nat} {o:Oper} {E:Env} {T:Tr} {ws:List (Nat×SV)} {a:Option Bool} {ef:Ef} (ho:ops[i]?=some o) (ha:guardOf ops E.rd o.guard=some a) (hef:iK C ops E.rd (nt+32*i) o.guard o=some ef)
 (hr:iq o a ef=some (T,ws)):qS C ops nt E (wQ ops i o E (T,ws)) (E.fE (T,ws)):=by
 unfold wQ
 split
 ·rename_i d s j hc
  obtain⟨g1,g2,_⟩:=Fo hc
  rw[g1]at ha hef
  rw[XM hc,ahO]at hef
  obtain⟨x,hx,rfl⟩:=hef
  simp only[guardOf,ahm]at ha
  subst ha
  simp only[iq,g1,g2,dh,wr,(Cu hx).2,ahm,ahy]at hr
  obtain⟨rfl,rfl⟩:=hr
  refine⟨o,x,ho,hc,hx,by rw[hx],fun h=>h,?_⟩
  refine Env.ext' ?_ rfl
  show cO [(d,x)] (E.s.map fun v=>v)=E.s.set d x
  simp[cO]
 ·exact⟨o,a,ef,ho,ha,hef,hr,rfl,rfl⟩
theorem FE {ρ:Type} {k:Env→List c9→Option ρ} {r:ρ}:∀ {l:List Oper} {i:Nat} {E:Env} {L:List c9},ops.drop i=l→vY C ops nt l i E L k=some r→
 ∃bs E',rU C ops nt bs E E'∧bs.map (·.i)=aiA i l.length∧k E' (bs.reverse++L)=some r
 | [],i,E,L,_,h=>⟨[],E,rfl,rfl,h⟩
 |o::l,i,E,L,hd,h=>by
  have ho:ops[i]?=some o:=by
   have:=congrArg List.head? hd
   simpa[aiI]using this
  simp only[vY]at h
  split at h
  ·cases h
  ·rename_i a ha
   split at h
   ·cases h
   ·rename_i ef hef
    rw[Z6,ahu]at h
    obtain⟨⟨T,ws⟩,hr,h⟩:=h
    obtain⟨bs,E',h1,h2,h3⟩:=FE (l:=l) (i:=i+1) (by rw[←ahP,hd];rfl) h
    refine⟨wQ ops i o E (T,ws)::bs,E',⟨_,acz ho ha hef hr,h1⟩,?_,?_⟩
    ·simp only[ais,h2,ahR,aiF,acd]
    ·simpa using h3
theorem rU.front:∀ {pre:List c9} {b:c9} {post:List c9} {E E':Env},rU C ops nt (pre++b::post) E E'→(∀a∈pre,a.QX b=true)→∃F,qS C ops nt E b F∧rU C ops nt (pre++post) F E'
 | [],b,post,E,E',h,_=>h
 |a::pre,b,post,E,E',h,hi=>by
  obtain⟨F,h1,h2⟩:=h
  obtain⟨F2,h3,h4⟩:=rU.front h2 (fun c hc=>hi c (by simp[hc]))
  obtain⟨F1,h5,h6⟩:=h1.swap h3 (hi a (by simp))
  exact⟨F1,h5,F2,h6,h4⟩
end
section
variable {P:Program} {C:Cx} {w0:World} {c0:C0} {E:Env} {a:Act} {w:World} {G:Gh} {ops:List Oper} {Q:Exit→Act→World→Prop}
theorem lK {io:List Nat} (hk:keeps io ops=true) {o:Oper} (ho:o∈ops) {v:Value} {i:Nat} (hi:i∈io):(a.put o.dst v).tmps.getD i undef=a.tmps.getD i undef:=by
 simp only[keeps,ahn]at hk
 have:=hk o ho
 cases hd:o.dst with
 |none=>rfl
 |some d=>
  rw[hd]at this
  simp only[ahE,ahr,decide_eq_false_iff_not]at this
  have hne:d≠i:=fun e=>this (e▸hi)
  simp[Act.put,ahH,ah2 hne]
theorem IY {o:Oper} {j:Nat}:j∈wU o↔∃e∈o.after,Region.binds .any e=true∧e.on=j:=by
 unfold wU
 simp only[ahx,ah3,Array.mem_toList_iff]
 constructor
 ·rintro⟨e,⟨h1,h2⟩,h3⟩;exact⟨e,h1,h2,h3⟩
 ·rintro⟨e,h1,h2,h3⟩;exact⟨e,⟨h1,h2⟩,h3⟩
theorem WC {listed:Array Bool} (hcl:∀i o,ops[i]?=some o→listed.getD i true=true→∀j∈wU o,listed.getD j false=true)
 (hsz:listed.size=ops.length):∀(i:Nat) {o:Oper},ops[i]?=some o→(∀j∈wU o,listed.getD j false=true)→∀j,((JH ops).getD i 0).testBit j=true→listed.getD j false=true:=by
 intro i
 induction i using Nat.strongRecOn with
 |_ i ih=>
  intro o ho hd j hj
  rcases ab3 hj ho with h|⟨k,hk,hki,h⟩
  ·exact hd j h
  ·have hlk:=hd k hk
   have hkn:k<ops.length:=by
    rcases aid k ops.length with h|h
    ·exact h
    ·rw[←hsz]at h
     simp[ahS,aiJ.2 h]at hlk
   have hok:ops[k]?=some ops[k]:=aht hkn
   have hlk':listed.getD k true=true:=by
    have:k<listed.size:=by omega
    simp[ahS,this]at hlk⊢
    exact hlk
   exact ih k hki hok (hcl k _ hok hlk') j h
theorem WO {labs:List c9} (h:sD ops labs=true):
 (∀i o,ops[i]?=some o→∀j w',o.guard=some (j,w')→((JH ops).getD i 0).testBit j=true)∧(∀i o,ops[i]?=some o→∀j∈wU o,j<i)∧
 ∀a∈labs,∀b∈labs,a.i<b.i→((JH ops).getD b.i 0).testBit a.i=true∨a.QX b=true:=by
 simp only[sD,ahl,ahn]at h
 obtain⟨h1,h2⟩:=h
 refine⟨fun i o ho j w' hg=> ?_,fun i o ho j hj=> ?_,fun a ha b hb hlt=> ?_⟩
 ·have:=(h1 (o,i) (ah7.2 ho)).1
  simp only[hg]at this
  simpa using this
 ·have:=(h1 (o,i) (ah7.2 ho)).2
  obtain⟨e,he,hb,rfl⟩:=IY.1 hj
  have:=this e (by simpa using he)
  simpa[hb]using this
 ·have:=h2 b hb a ha
  simp only[ahz,decide_eq_true_eq,ahr]at this
  rcases this with(h|h)|h
  ·omega
  ·exact .inl h
  ·exact .inr h
def acq (nt:Nat) (listed:Array Bool) (u:Nat):Prop:=u<nt∨∃j,listed.getD j false=true∧nt+32*j≤u∧u<nt+32*j+32
theorem abp (hC:n0 P C) {io:List Nat} (hkp:keeps io ops=true) (hgo:fq ops=true) {nt:Nat} (h3:4≤nt) {labs:List c9} (hl:sD ops labs=true) {E':Env} {T:Nat→Value}
 (hQ:∀a' w' G',Inv w0 c0 (fun u=>u<nt+32*ops.length) E' a' w' G'→lM ops (fun j=>j<ops.length) E' a'.tmps→(∀i∈io,a'.tmps.getD i undef=T i)→Q .normal a' w'):
 ∀(fuel:Nat) {bs:List c9} {listed:Array Bool} {E:Env} {a:Act} {w:World} {G:Gh},bs.length≤fuel→rU C ops nt bs E E'→(∀b∈bs,b∈labs)→bs.Pairwise (fun a b=>a.i<b.i)→
 listed.size=ops.length→(∀i,i<ops.length→(listed.getD i true=false↔i∈bs.map (·.i)))→(∀i o,ops[i]?=some o→listed.getD i true=true→∀j∈wU o,listed.getD j false=true)→
 Inv w0 c0 (acq nt listed) E a w G→lM ops (fun j=>listed.getD j false=true) E a.tmps→(∀i∈io,a.tmps.getD i undef=T i)→
 wpAny P .any ops.toArray Q fuel listed a w:=by
 obtain⟨hlg,hld,hlp⟩:=WO hl
 have gd:∀ {listed:Array Bool} {i:Nat},listed.size=ops.length→i<ops.length→listed.getD i true=listed.getD i false:=by
  intro listed i hs hi
  have:i<listed.size:=by omega
  simp[ahS,this]
 have nil:∀ {listed:Array Bool} {E:Env} {a:Act} {w:World} {G:Gh},rU C ops nt [] E E'→listed.size=ops.length→(∀i,i<ops.length→(listed.getD i true=false↔i∈([]:List c9).map (·.i)))→
  Inv w0 c0 (acq nt listed) E a w G→lM ops (fun j=>listed.getD j false=true) E a.tmps→(∀i∈io,a.tmps.getD i undef=T i)→Q .normal a w:=by
  intro listed E a w G hch hsz hls hI hR hT
  have he:E=E':=hch
  subst he
  have hlt:∀j,listed.getD j false=true→j<ops.length:=by
   intro j hj
   rcases aid j ops.length with h|h
   ·exact h
   ·rw[←hsz]at h
    simp[ahS,aiJ.2 h]at hj
  refine hQ a w G (hI.mono (fun u hu=> ?_)) (fun s j w1 act v he=> ?_) hT
  ·rcases hu with hu|⟨j,hj,h1,h2⟩
   ·omega
   ·have:=hlt j hj;omega
  ·obtain⟨q1,q2,q3⟩:=hR s j w1 act v he
   exact⟨q1,hlt j q2,q3⟩
 intro fuel
 induction fuel with
 |zero=>
  intro bs listed E a w G hf hch hin hpw hsz hls hcl hI hR hT
  have hbs:bs=[]:=by cases bs with|nil=>rfl|cons _ _=>simp at hf
  subst hbs
  refine⟨?_,nil hch hsz hls hI hR hT⟩
  rw[List.eq_nil_iff_forall_not_mem]
  intro j hj
  obtain⟨h1,o,ho,_⟩:=mem_ready.1 hj
  have hlt:j<ops.length:=by
   simp only[aip]at ho
   exact(ahB.1 ho).1
  have:=(hls j hlt).1 h1
  simp at this
 |succ fuel ih=>
  intro bs listed E a w G hf hch hin hpw hsz hls hcl hI hR hT
  refine⟨fun hr=> ?_,fun i hi=> ?_⟩
  ·cases bs with
   |nil=>exact nil hch hsz hls hI hR hT
   |cons b bs=>
    exfalso
    obtain⟨F,hs,_⟩:=hch
    obtain⟨o,act,ef,ho,_⟩:=hs.run
    have hlt:=(ahB.1 ho).1
    have:b.i∈Region.ready .any ops.toArray listed:=by
     refine mem_ready.2 ⟨(hls b.i hlt).2 (by simp),o,by simpa using ho,fun e he hb=> ?_⟩
     have hj:=hld b.i o ho e.on (IY.2 ⟨e,he,hb,rfl⟩)
     rw[←gd hsz (by omega)]
     cases hg:listed.getD e.on true with
     |true=>rfl
     |false=>
      have:=(hls e.on (by omega)).1 hg
      simp only[ais,aho,ahx]at this
      rcases this with h|⟨c,hc,h⟩
      ·omega
      ·have:=(ah9.1 hpw).1 c hc
       omega
    rw[hr]at this
    cases this
  ·obtain⟨h1,o,ho,hall⟩:=mem_ready.1 hi
   simp only[aip]at ho
   have hlt:=(ahB.1 ho).1
   have hmem:=(hls i hlt).1 h1
   rw[ahx]at hmem
   obtain⟨b,hb,rfl⟩:=hmem
   obtain⟨pre,post,rfl⟩:=List.append_of_mem hb
   have hdl:∀j∈wU o,listed.getD j false=true:=by
    intro j hj
    obtain⟨e,he,hbd,rfl⟩:=IY.1 hj
    exact hall e he hbd
   have hbl:=WC hcl hsz b.i ho hdl
   have hpre:∀c∈pre,c.QX b=true:=by
    intro c hc
    have hci:c.i<b.i:=by
     rw[ah4]at hpw
     exact hpw.2.2 c hc b (by simp)
    rcases hlp c (hin c (by simp[hc])) b (hin b (by simp)) hci with h|h
    ·have h2:=hbl c.i h
     have:listed.getD c.i true=false:=(hls c.i (by omega)).2 (by simp only[aij,ahk,ahx];exact .inl ⟨c,hc,rfl⟩)
     rw[gd hsz (by omega),h2]at this
     cases this
    ·exact h
   obtain⟨F,hstp,hch'⟩:=hch.front hpre
   obtain⟨o',act,ef,ho',hga,hev,hap⟩:=hstp.run
   have:o'=o:=by rw[ho]at ho';exact(Option.some.inj ho').symm
   subst this
   have hnl:listed.getD b.i false=false:=by rw[←gd hsz hlt];exact h1
   refine Oi (tk:=nt+32*b.i) hC ho hI hR (fun j w' hj=>hbl j (hlg b.i o' ho j w' hj)) (by simp[hnl]) hgo (by omega) (fun u hu1 hu2 hu=> ?_) hga hev hap (fun a' w' G' hI' hR' ⟨v,hav⟩=> ?_)
   ·rcases hu with hu|⟨j,hj,h5,h6⟩
    ·omega
    ·have:j=b.i:=by omega
     subst this
     rw[hnl]at hj
     cases hj
   ·have hset:∀j,(listed.setIfInBounds b.i true).getD j false=true↔listed.getD j false=true∨j=b.i:=by
     intro j
     by_cases hj:b.i=j
     ·subst hj
      have:b.i<listed.size:=by omega
      simp[ahS,this]
     ·rw[getD_set_ne false hj]
      simp[Ne.symm hj]
    refine ih (bs:=pre++post) (by simp at hf⊢;omega) hch' (fun c hc=>hin c (by simp only[ahk,aho]at hc⊢;rcases hc with h|h<;>simp[h])) ?_ (by simpa using hsz) (fun i' hi'=> ?_) (fun i' o'' ho'' hl' j hj=> ?_) (hI'.mono (fun u hu=> ?_)) (fun s j w1 act1 v1 he=> ?_) (fun j hj=> ?_)
    ·rw[ah4]at hpw⊢
     exact⟨hpw.1,(ah9.1 hpw.2.1).2,fun x hx y hy=>hpw.2.2 x hx y (by simp[hy])⟩
    ·by_cases hj:b.i=i'
     ·subst hj
      have:b.i<listed.size:=by omega
      have hno:b.i∉(pre++post).map (·.i):=by
       rw[ah4]at hpw
       simp only[aij,ahk,ahx,not_or,not_exists,not_and]
       refine⟨fun c hc e=> ?_,fun c hc e=> ?_⟩
       ·have:=hpw.2.2 c hc b (by simp);omega
       ·have:=(ah9.1 hpw.2.1).1 c hc;omega
      simp only[hno,iff_false]
      simp[ahS,this]
     ·rw[getD_set_ne true hj,hls i' hi']
      simp only[aij,ais,ahk,aho]
      constructor
      ·rintro(h|h|h)
       ·exact .inl h
       ·exact absurd h.symm hj
       ·exact .inr h
      ·rintro(h|h)
       ·exact .inl h
       ·exact .inr (.inr h)
    ·rw[hset]
     by_cases hj':b.i=i'
     ·subst hj'
      rw[ho]at ho''
      cases ho''
      exact .inl (hdl j hj)
     ·rw[getD_set_ne true hj']at hl'
      exact .inl (hcl i' o'' ho'' hl' j hj)
    ·rcases hu with(hu|⟨j,hj,h5⟩)|hu
     ·exact .inl hu
     ·exact .inr ⟨j,(hset j).2 (.inl hj),h5⟩
     ·exact .inr ⟨b.i,(hset b.i).2 (.inr rfl),hu⟩
    ·obtain⟨q1,q2,q3⟩:=hR' s j w1 act1 v1 he
     exact⟨q1,(hset j).2 q2,q3⟩
    ·rw[hav]
     exact(lK hkp (ah5 ho) hj).trans (hT j hj)
theorem rU.len {nt:Nat}:∀ {bs:List c9} {E E':Env},rU C ops nt bs E E'→E'.s.length=E.s.length
 | [],E,E',h=>by cases (show E=E' from h);rfl
 |b::bs,E,E',⟨F,h1,h2⟩=>by
  rw[rU.len h2,h1.len]
theorem RL {ρ:Type} (hm:P.follows .mixedOrders=true) (hC:n0 P C) {io:List Nat} (hkp:keeps io ops=true) (hgo:fq ops=true) {nt:Nat} (h3:4≤nt) {k:Env→Option ρ} {r:ρ} {id:Nat}
 (hI:Inv w0 c0 (fun u=>u<nt) E a w G) (hR:∀s j w act v,E.s.getD s .no≠ .g j w act v) (h:vY C ops nt ops 0 E [] (fun E' L=>if sD ops L then k E' else none)=some r)
 (hK:∀E' a' w' G',Inv w0 c0 (fun u=>u<nt+32*ops.length) E' a' w' G'→lM ops (fun j=>j<ops.length) E' a'.tmps→E'.s.length=E.s.length→(∀i∈io,a'.tmps.getD i undef=a.tmps.getD i undef)→k E'=some r→Q .normal a' w'):
 (Code.region id ops.toArray true).wp P Q a w:=by
 obtain⟨bs,E',h1,h2,h4⟩:=FE (l:=ops) (by simp) h
 split at h4
 ·rename_i hl
  simp only[aik]at hl
  refine wp_region_any hm ?_
  have hlen:bs.length=ops.length:=by
   have:=congrArg List.length h2
   simpa using this
  refine abp hC hkp hgo h3 hl (E':=E') (T:=fun i=>a.tmps.getD i undef) (fun a' w' G' g1 g2 g3=>hK E' a' w' G' g1 g2 h1.len g3 h4) _ (bs:=bs) (E:=E) (G:=G) (by simp[hlen]) h1 (fun b hb=>by simpa using hb) ?_ (by simp) ?_ ?_ ?_ ?_ (fun _ _=>rfl)
  ·have:(bs.map (·.i)).Pairwise (·<·):=by rw[h2];exact List.pairwise_lt_range'
   rw[List.pairwise_map]at this
   exact this
  ·intro i hi
   rw[h2]
   simp[ahS,hi,List.mem_range'_1]
  ·intro i o ho hl
   have:=(ahB.1 ho).1
   simp[ahS,this]at hl
  ·refine(hI.drawn _).mono (fun u hu=> .inl hu)
  ·intro s j w1 act v he
   exact absurd he (hR s j w1 act v)
 ·cases h4
end
theorem Ax (n:Nat):List.range n=aiA 0 n:=List.range_eq_range'
section
variable {P:Program} {C:Cx} {w0:World} {c0:C0} {U:Nat→Prop} {E:Env} {a:Act} {w:World} {G:Gh} {ops:List Oper} {L:Nat→Prop} {Q:Exit→Act→World→Prop} {ρ:Type}
theorem Zr {nt i:Nat} {o:Oper} {E':Env} (h:Ng C ops nt i o E=some E'):E'.s.length=E.s.length:=by
 unfold Ng at h
 split at h
 ·cases h
 ·split at h
  ·cases h
  ·rename_i ef _
   cases ef with
   |val v=>simp only[aY,ahm]at h;subst h;exact eo ..
   |chk c v=>
    simp only[aY]at h
    split at h
    ·split at h
     ·simp only[ahm]at h;subst h;exact eo ..
     ·cases h
    ·split at h
     ·simp only[ahm]at h;subst h;exact eo ..
     ·cases h
   |opt α z x f=>
    simp only[aY,ahu,ahm]at h
    obtain⟨y,_,h⟩:=h;subst h;exact eo ..
   |put b s v=>
    simp only[aY]at h
    split at h
    ·simp only[ahm]at h;subst h;simp
    ·cases h
   |app c kl gv t v=>
    simp only[aY]at h
    split at h
    ·split at h
     ·simp only[ahm]at h;subst h;rw[eo,Ug,Vp]
     ·cases h
    ·cases h
   |elem gv b e l m=>
    simp only[aY]at h
    split at h
    ·simp only[ahm]at h;subst h;simp[Env.elem]
    ·cases h
   |nap c gv b e l m v=>
    simp only[aY]at h
    split at h
    ·split at h
     ·simp only[ahm]at h;subst h;rw[eo];simp[Env.elem]
     ·cases h
    ·cases h
   |call α x tks f rp=>
    simp only[aY]at h
    split at h
    ·simp only[ahu,ahm]at h
     obtain⟨y,_,h⟩:=h;subst h;rw[eo,ld,uJ]
    ·cases h
theorem U2 (hC:n0 P C) {io:List Nat} (hkp:keeps io ops=true) (hgo:fq ops=true) {nt:Nat} (h3:4≤nt) {k:Env→Option ρ} {r:ρ}:∀ {l:List Oper} {i:Nat} {E:Env} {a:Act} {w:World} {G:Gh},ops.drop i=l→i+l.length=ops.length→
 Inv w0 c0 (fun u=>u<nt+32*i) E a w G→lM ops (fun j=>j<i) E a.tmps→ym C ops nt l i E k=some r→
 (∀E' a' w' G',Inv w0 c0 (fun u=>u<nt+32*ops.length) E' a' w' G'→lM ops (fun j=>j<ops.length) E' a'.tmps→E'.s.length=E.s.length→(∀i∈io,a'.tmps.getD i undef=a.tmps.getD i undef)→k E'=some r→Q .normal a' w')→
 wpOps P ops.toArray Q (aiA i l.length) a w
 | [],i,E,a,w,G,hd,hl,hI,hR,h,hK=>by
   have hi:i=ops.length:=by simpa using hl
   subst hi
   exact hK E a w G hI hR rfl (fun _ _=>rfl) h
 |o::l,i,E,a,w,G,hd,hl,hI,hR,h,hK=>by
  have ho:ops[i]?=some o:=by
   have:=congrArg List.head? hd
   simpa[aiI]using this
  rw[YL,ahu]at h
  obtain⟨E',hs,h⟩:=h
  have hlen:=Zr hs
  unfold Ng at hs
  split at hs
  ·cases hs
  ·rename_i act hga
   split at hs
   ·cases hs
   ·rename_i ef hev
    rw[ahR,aiF,wpOps_cons]
    refine Oi hC ho hI hR (fun j w' hj=>zI hgo ho hj) (by omega) hgo (tk:=nt+32*i) (by omega) (fun u h1 h2 h=>by omega) hga hev hs (fun a' w' G' hI' hR' ⟨v,hav⟩=> ?_)
    refine U2 hC hkp hgo h3 (l:=l) (i:=i+1) (by rw[←ahP,hd];rfl) (by simp at hl⊢;omega) (hI'.mono (fun u hu=>by rcases hu with hu|hu<;>omega))
     (fun s j w1 act v he=>by
      obtain⟨q1,q2,q3⟩:=hR' s j w1 act v he
      exact⟨q1,by rcases q2 with q2|q2<;>omega,q3⟩) h (fun E2 a2 w2 G2 g1 g2 g3 g5 g4=>hK E2 a2 w2 G2 g1 g2 (g3.trans hlen) (fun j hj=>(g5 j hj).trans (by rw[hav];exact lK hkp (ah5 ho) hj)) g4)
theorem R1 {N:Nat} (hI:Inv w0 c0 (fun u=>u<N) E a w G) (hR:lM ops L E a.tmps):Inv w0 c0 (fun u=>u<N) {jz E ops with nt:=N} a w G∧ur (jz E ops).s∧(jz E ops).s.length=E.s.length:=by
 unfold jz
 split
 ·rename_i hn
  refine⟨{hI with},fun s j w act v he=> ?_,rfl⟩
  obtain⟨_,_,o,ho,w',hg⟩:=hR s j w act v he
  rw[ahn]at hn
  have:=hn o ho
  rw[hg]at this
  cases this
 ·have hg:∀s,(E.s.map SV.iP).getD s .no=(E.s.getD s .no).iP:=fun s=>getD_map (T:=SV.iP) rfl s
  have hcase:∀s,(E.s.getD s .no).iP= .no∨(E.s.getD s .no).iP=E.s.getD s .no:=by
   intro s
   cases E.s.getD s .no<;>simp[SV.iP]
  refine⟨{hI with len:=by simpa using hI.len,slots:=fun s=> ?_,sc:=fun s c hc=> ?_,bt:=fun s c hc=> ?_,rt:=fun s c hc=> ?_,uni:=fun s s' t v v' h1 h2=> ?_},fun s j w act v he=> ?_,by simp⟩
  ·simp only[hg]
   rcases hcase s with h|h
   ·rw[h];trivial
   ·rw[h];exact hI.slots s
  ·simp only[hg]at hc
   rcases hcase s with h|h
   ·rw[h]at hc;simp[SV.sc]at hc
   ·rw[h]at hc;exact hI.sc s c hc
  ·simp only[hg]at hc
   rcases hcase s with h|h
   ·rw[h]at hc;simp[SV.bt]at hc
   ·rw[h]at hc;exact hI.bt s c hc
  ·simp only[hg]at hc
   rcases hcase s with h|h
   ·rw[h]at hc;simp[SV.rt]at hc
   ·rw[h]at hc;exact hI.rt s c hc
  ·simp only[hg]at h1 h2
   rcases hcase s with h|h<;>rcases hcase s' with h'|h'
   ·rw[h]at h1;cases h1
   ·rw[h]at h1;cases h1
   ·rw[h']at h2;cases h2
   ·rw[h]at h1;rw[h']at h2;exact hI.uni s s' t v v' h1 h2
  ·simp only[hg]at he
   exact acu he
def Ru (C:Cx) (w0:World) (c0:C0) (T:Nat→Value) (r:ρ) (k:Env→Option ρ) (R:Act→World→Prop):Prop:=
 ∀E a w G,Inv w0 c0 (fun u=>u<E.nt) E a w G→ur E.s→E.s.length=C.n→4≤E.nt→(∀i∈C.io,a.tmps.getD i undef=T i)→k E=some r→R a w
theorem vm {id:Nat} {k:Env→Option ρ} {ke:List (Nat×(Env→Option ρ))} {i:Nat}:ain i ((id,k)::ke)=if i=id then some k else ain i ke:=by
 simp only[ain]
 by_cases h:i=id
 ·simp[h]
 ·have:(i==id)=false:=by simpa using h
  simp[this,h]
theorem aeb (hC:n0 P C) {r:ρ} {T:Nat→Value}:∀(c:Code) {E:Env} {a:Act} {w:World} {G:Gh} {kn kr:Env→Option ρ} {ke:List (Nat×(Env→Option ρ))} {Q:Exit→Act→World→Prop},
 Inv w0 c0 (fun u=>u<E.nt) E a w G→ur E.s→E.s.length=C.n→4≤E.nt→(∀i∈C.io,a.tmps.getD i undef=T i)→ev C c E kn ke kr=some r→Ru C w0 c0 T r kn (Q .normal)→(∀id k,ke.lookup id=some k→Ru C w0 c0 T r k (Q (.exit id)))→Ru C w0 c0 T r kr (Q .ret)→
 c.wp P Q a w:=by
 intro c
 induction c with
 |skip=>intro E a w G kn kr ke Q hI hg hl h3 hT h hn he hr;exact wp_skip (hn E a w G hI hg hl h3 hT h)
 |region id ops draw=>
  intro E a w G kn kr ke Q hI hg hl h3 hT h hn he hr
  simp only[ev]at h
  split at h
  ·rename_i hc
   simp only[ahl]at hc
   obtain⟨hgo,hkp⟩:=hc
   have fin:∀E' a' w' G',Inv w0 c0 (fun u=>u<E.nt+32*ops.toList.length) E' a' w' G'→lM ops.toList (fun j=>j<ops.toList.length) E' a'.tmps→E'.s.length=E.s.length→(∀i∈C.io,a'.tmps.getD i undef=a.tmps.getD i undef)→
    kn {jz E' ops.toList with nt:=E.nt+32*ops.size}=some r→Q .normal a' w':=by
    intro E' a' w' G' g1 g2 g3 g5 g4
    obtain⟨k1,k2,k3⟩:=R1 g1 g2
    refine hn {jz E' ops.toList with nt:=E.nt+32*ops.size} a' w' G' ?_ k2 (by rw[k3,g3,hl]) (by show 4≤E.nt+32*ops.size;omega) (fun i hi=>(g5 i hi).trans (hT i hi)) g4
    simpa using k1
   split at h
   ·rename_i hd
    subst hd
    exact RL (ops:=ops.toList) hC.mixed hC hkp hgo h3 hI hg h fin
   ·rename_i hd
    have hdraw:draw=false:=by simpa using hd
    subst hdraw
    refine wp_region ?_
    have:=U2 (Q:=Q) hC hkp hgo h3 (l:=ops.toList) (i:=0) (by simp) (by simp) (by simpa using hI) (fun s j w1 act v he=>absurd he (hg s j w1 act v)) h fin
    rw[Ax]
    simpa using this
  ·cases h
 |seq x y ihx ihy=>
  intro E a w G kn kr ke Q hI hg hl h3 hT h hn he hr
  refine wp_seq ?_
  simp only[ev]at h
  split at h
  ·refine ihx (Q:=Exit.then (y.wp P Q) Q) hI hg hl h3 hT h (fun E' a' w' G' g1 g2 g3 g4 gT g5=> ?_) he hr
   exact ihy g1 g2 g3 g4 gT g5 hn he hr
  ·rename_i n _
   simp only[aL]at h
   refine ihx (Q:=Exit.then (y.wp P Q) Q) hI hg hl h3 hT h (fun E' a' w' G' g1 g2 g3 g4 gT g5=> ?_) he hr
   rw[ahu]at g5
   obtain⟨t,ht,g5⟩:=g5
   obtain⟨G2,k1,k2,k3,k4⟩:=vU g1 g3 ht
   exact ihy k1 k2 k3 k4 gT g5 hn he hr
 |cond c x y ihx ihy=>
  intro E a w G kn kr ke Q hI hg hl h3 hT h hn he hr
  simp only[ev]at h
  split at h
  ·rename_i b sh hb
   have hR:RI ([]:List Oper) E a.tmps:=fun s j w1 act v he=>absurd he (hg s j w1 act v)
   obtain⟨⟨cs,h1,h2⟩,_⟩:=eX hI hR (g:=none) (by rintro j w' ⟨⟩) hb
   have hev:a.eval c= .bool b:=by
    cases sh with
    |leaf=>rw[h1,show cs=_ from h2];rfl
    |sl m=>exact h2.elim
    |pair a b=>exact h2.elim
   refine wp_cond hev ?_
   split at h
   ·rename_i hb;subst hb;exact ihx hI hg hl h3 hT h hn he hr
   ·rename_i hb
    have:b=false:=by simpa using hb
    subst this
    exact ihy hI hg hl h3 hT h hn he hr
  ·cases h
 |block id c ih=>
  intro E a w G kn kr ke Q hI hg hl h3 hT h hn he hr
  refine wp_block ?_
  simp only[ev]at h
  refine ih (Q:=Exit.inBlock id Q) hI hg hl h3 hT h hn (fun i k hk=> ?_) hr
  rw[vm]at hk
  intro E2 a2 w2 G2 g1 g2 g3 g4 gT g5
  show Exit.inBlock id Q (.exit i) a2 w2
  simp only[Exit.inBlock]
  split at hk
  ·rename_i e
   simp only[ahm]at hk
   subst hk
   simp only[e,if_true]
   exact hn E2 a2 w2 G2 g1 g2 g3 g4 gT g5
  ·rename_i e
   simp only[e,if_false]
   exact he i k hk E2 a2 w2 G2 g1 g2 g3 g4 gT g5
 |loop c ih=>
  intro E a w G kn kr ke Q hI hg hl h3 hT h hn he hr
  simp only[ev]at h
  split at h
  ·cases h
  ·rename_i n _
   rw[ahu]at h
   obtain⟨t,ht,h⟩:=h
   obtain⟨G2,k1,k2,k3,k4⟩:=vU hI hl ht
   refine wp_loop_rounds C.k ?_
   have key:∀(m:Nat) (t:aZ (mL n.ks)) (a:Act) (w:World) (G:Gh),aH m (fun G t=>ev C c (eB C.n n t) (fun E'=>(proj n E').bind G) ke kr) t=some r→
    Inv w0 c0 (fun u=>u<(eB C.n n t).nt) (eB C.n n t) a w G→ur (eB C.n n t).s→(eB C.n n t).s.length=C.n→4≤(eB C.n n t).nt→(∀i∈C.io,a.tmps.getD i undef=T i)→Code.rounds P c Q m a w:=by
    intro m
    induction m with
    |zero=>intro t a w G h;simp[aH]at h
    |succ m ihm=>
     intro t a w G h g1 g2 g3 g4 gT
     rw[rounds_succ]
     simp only[aH]at h
     refine ih (Q:=Exit.then (Code.rounds P c Q m) Q) g1 g2 g3 g4 gT h (fun E' a' w' G' q1 q2 q3 q4 qT q5=> ?_) he hr
     rw[ahu]at q5
     obtain⟨t',ht',q5⟩:=q5
     obtain⟨G3,p1,p2,p3,p4⟩:=vU q1 q3 ht'
     exact ihm t' a' w' G3 q5 p1 p2 p3 p4 qT
   exact key C.k t a w G2 h k1 k2 k3 k4 hT
 |exit id=>
  intro E a w G kn kr ke Q hI hg hl h3 hT h hn he hr
  simp only[ev]at h
  split at h
  ·rename_i k hk
   exact wp_exit (he id k hk E a w G hI hg hl h3 hT h)
  ·cases h
 |ret=>intro E a w G kn kr ke Q hI hg hl h3 hT h hn he hr;exact wp_ret (hr E a w G hI hg hl h3 hT h)
 |_=>intro E a w G kn kr ke Q hI hg hl h3 hT h hn he hr;simp[ev]at h
end
def uE (tmps:Array Value):ResultVar→Sem Value
 | .tmp t=>pure (tmps.getD t undef)
 | .cell a t=>do loadVar t (←asAddr (tmps.getD a undef))
section
variable {P:Program} {C:Cx} {w0:World} {c0:C0} {U:Nat→Prop} {E:Env} {a:Act} {w:World} {G:Gh} {ops:List Oper} {L:Nat→Prop} {Q:Exit→Act→World→Prop} {ρ:Type}
theorem ON (c:Nat):uX c∈[2,1]:=by unfold uX;split<;>simp
theorem JE {p:Pt} {s:Sh} (h:Nz p s=true) {c:Nat} (hc:c∈NX p s):c≠3:=by
 rintro rfl
 simp[Nz,hc]at h
theorem Jj (hC:CxTy P C) (hI:Inv w0 c0 U E a w G):∀ {rs:List RK} {rv:List ResultVar} {tk:Nat} {xs:aZ (rs.map RK.ty)} {rho:List (Nat×Nat)} {tk':Nat},xU C.tt E rs rv tk=some (xs,rho,tk')→4≤tk→
 tk'=di rs tk∧(∀c k,(c,k)∈rho→(k=uX c∧Good U G c∧c≠3)∨(tk≤k∧k<di rs tk∧4≤c)∨(c=3∧k=3))∧
 ∃vs:List Value,vs.length=rs.length∧(rv.mapM (uE a.tmps)).run P w= .ok vs w∧∃H:Nat→Value,∀(rest:List Ty) (y:aZ rest) (G1:Gh),(∀c k,(c,k)∈rho→∀b,G.col b=c→G1.col b=k)→
  (∀u,tk≤u→u<di rs tk→G1.hdr u=H u)→∀i,bU w G1 ((bd rs rest (aZ.app _ _ xs y) tk [2,1]).1.getD i .no) (vs.getD i undef)
 | [],[],tk,xs,rho,tk',h,h3=>by
   simp only[xU,ahm,ahy]at h
   obtain⟨_,rfl,rfl⟩:=h
   exact⟨rfl,by simp,[],rfl,by simp,fun _=>undef,fun rest y G1 _ _ i=>by simp[bd,bU]⟩
 | .val τ p::rs,v::rv,tk,xs,rho,tk',h,h3=>by
   simp only[xU]at h
   have n1:=bq p tk
   have n2:=lS rs (aR p tk)
   split at h
   ·cases h
   ·rename_i t hv
    have hval:∃u cs,(uE a.tmps v).run P w= .ok u w∧u=cw t.τ cs∧bg w G t.τ t.x t.sh cs∧∀c∈t.sh.aE,Good U G c:=by
     cases v with
     |tmp s=>
      simp only[Env.get]at hv
      split at hv
      ·rename_i t' he
       cases hv
       have hs:=hI.slots s
       have hm:=hI.ow s
       rw[he]at hs hm
       obtain⟨cs,h1,h2⟩:=hs
       exact⟨_,cs,by simp[uE],h1,h2,hm.1⟩
      ·cases hv
     |cell s ty=>
      simp only[Env.get]at hv
      split at hv
      ·rename_i b t' i he hi
       split at hv
       ·rename_i hτ
        cases hv
        have hs:=hI.slots s
        have hm:=hI.ow s
        rw[he]at hs hm
        obtain⟨bk,cl,el,h1,h2,h4,h5,h6,h7⟩:=hs
        have hlen:=bg.len h7
        simp only[Array.length_toList]at hlen
        have hT:=(hC.tt ty i hi).1
        have hld:=oq (P:=P) hT h6 (o:=0) (by rw[hτ];omega)
        refine⟨_,cl.toList,?_,rfl,h7,hm.1⟩
        simp only[uE,h1]
        rw[hτ]at hld
        simp only[aiN]at hld
        rw[ahZ (by simp;omega)]at hld
        simpa[asAddr]using hld
       ·cases hv
      ·cases hv
    obtain⟨u,cs,hu,hucs,hvok,hgood⟩:=hval
    split at h
    ·rename_i x xs' rho' tk1 hx hr
     split at h
     ·rename_i hf
      simp only[ahm,ahy]at h
      obtain⟨rfl,rfl,rfl⟩:=h
      rw[ahl]at hf
      obtain⟨hf,ho⟩:=hf
      have e:=cV hx
      rw[e]at hucs hvok hgood hf ho⊢
      obtain⟨i1,i2,vs,i3,i4,H2,i5⟩:=Jj hC hI hr (Nat.le_trans h3 n1)
      obtain⟨H1,k1⟩:=lZ (sm:=uX) (hs:=[2,1]) (tk:=tk) hf hvok h3 (fun c _=>ON c) (by simp)
      have hpn:(aV p tk []).2=aR p tk:=rfl
      refine⟨i1,fun c k hck=> ?_,u::vs,by simp[i3],by simp[hu,i4],fun z=>if z<aR p tk then H1 z else H2 z,fun rest y G1 g1 g2 i=> ?_⟩
      ·rw[rz]
       rcases ahk.1 hck with hck|hck
       ·obtain⟨r1,r2⟩:=kA hvok c k hck
        rcases r2 with⟨r2,r5⟩|⟨r2,r3,r4⟩|r2
        ·exact .inl ⟨r2,hgood c r1,JE ho r5⟩
        ·exact .inr (.inl ⟨r3,by omega,r2⟩)
        ·exact .inr (.inr r2)
       ·rcases i2 c k hck with h|⟨q1,q2,q3⟩|h
        ·exact .inl h
        ·exact .inr (.inl ⟨by omega,q2,q3⟩)
        ·exact .inr (.inr h)
      ·rw[rz]at g2
       cases i with
       |zero=>
        simp only[bd,ahF]
        refine⟨cs,hucs,k1 G1 (fun c k hck=>g1 c k (ahT _ hck)) (fun z hz hz2=>(g2 z hz (by omega)).trans (if_pos hz2))⟩
       |succ i=>
        simp only[bd,ahq,cg]
        exact i5 rest y G1 (fun c k hck=>g1 c k (ahI _ hck)) (fun z hz hz2=>(g2 z (by omega) hz2).trans (if_neg (by omega))) i
     ·cases h
    ·cases h
 | .nbox τ p::rs,.tmp s::rv,tk,xs,rho,tk',h,h3=>by
   simp only[xU]at h
   have n1:=bq p (tk+1)
   have n2:=lS rs (aR p (tk+1))
   split at h
   ·cases h
   ·rename_i b0 s0 t hb
    have hso:bU w G (E.rd.get s) (a.tmps.getD s undef):=xZ (hI.slots s)
    obtain⟨_,bk,c,el,b1,b2,b3,b4,b5,b6,b7,b8,b9⟩:=wW hI hb hso
    split at h
    ·rename_i x xs' rho' tk1 hx hr
     split at h
     ·rename_i hf
      simp only[ahm,ahy]at h
      obtain⟨rfl,rfl,rfl⟩:=h
      rw[ahl]at hf
      obtain⟨hf,ho⟩:=hf
      have e:=cV hx
      rw[e]at hf ho b6 b7⊢
      have hpn:(aV p (tk+1) []).2=aR p (tk+1):=rfl
      obtain⟨i1,i2,vs,i3,i4,H2,i5⟩:=Jj hC hI hr (by omega)
      obtain⟨H1,k1⟩:=lZ (sm:=uX) (hs:=[2,1]) (tk:=tk+1) hf b6 (by omega) (fun c _=>ON c) (by simp)
      refine⟨i1,fun c k hck=> ?_,a.tmps.getD s undef::vs,by simp[i3],by simp[uE,i4],fun z=>if z=tk then a.tmps.getD s undef else if z<aR p (tk+1)then H1 z else H2 z,fun rest y G1 g1 g2 i=> ?_⟩
      ·rw[oJ]
       simp only[aiG,aho,ahy,ahk]at hck
       rcases hck with⟨rfl,rfl⟩|hck|hck
       ·exact .inr (.inl ⟨ahJ _,by omega,b3⟩)
       ·obtain⟨r1,r2⟩:=kA b6 c k hck
        rcases r2 with⟨r2,r5⟩|⟨r2,r3,r4⟩|r2
        ·exact .inl ⟨r2,b7 c r1,JE ho r5⟩
        ·exact .inr (.inl ⟨by omega,by omega,r2⟩)
        ·exact .inr (.inr r2)
       ·rcases i2 c k hck with h|⟨q1,q2,q3⟩|h
        ·exact .inl h
        ·exact .inr (.inl ⟨by omega,q2,q3⟩)
        ·exact .inr (.inr h)
      ·rw[oJ]at g2
       cases i with
       |zero=>
        simp only[bd,ahF]
        refine⟨bk,c,el,b1,h3,(g2 tk (ahJ _) (by omega)).trans (if_pos rfl),g1 b0 tk (by simp) bk b4,b5,k1 G1 (fun c k hck=>g1 c k (by simp[hck])) (fun z hz hz2=> ?_)⟩
        exact((g2 z (by omega) (by omega)).trans (if_neg (by omega))).trans (if_pos hz2)
       |succ i=>
        simp only[bd,ahq,cg]
        exact i5 rest y G1 (fun c k hck=>g1 c k (by simp[hck])) (fun z hz hz2=>((g2 z (by omega) hz2).trans (if_neg (by omega))).trans (if_neg (by omega))) i
     ·cases h
    ·cases h
 | [],_::_,_,_,_,_,h,_| .val _ _::_,[],_,_,_,_,h,_| .nbox _ _::_,[],_,_,_,_,h,_| .nbox _ _::_,.cell _ _::_,_,_,_,_,h,_=>by simp[xU]at h
theorem wT (hI:Inv w0 c0 U E a w G):∀ {ps:List PK} {i te tk:Nat} {ys:aZ (bn ps)} {rho:List (Nat×Nat)},Cy E ps i te tk=some (ys,rho)→4≤tk→4≤te→
 (∀c k,(c,k)∈rho→(k=uX c∧Good U G c∧c≠3)∨(tk≤k∧k<qL ps tk∧4≤c)∨(k=c∧c∈cn ps te)∨(c=3∧k=3))∧
 ∃H:Nat→Value,∀(G1:Gh),(∀c k,(c,k)∈rho→∀b,G.col b=c→G1.col b=k)→(∀u,tk≤u→u<qL ps tk→G1.hdr u=H u)→(∀u∈cn ps te,G1.hdr u=G.hdr u)→
  ∀t j v,(t,j,v)∈cK [2,1] ps ys (eD ps i te) tk→bU w G1 (.box t v) (a.tmps.getD j undef)∧j∈gH ps i
 | [],i,te,tk,ys,rho,h,h3,h4=>by
   simp only[Cy,ahm,ahy]at h
   obtain⟨_,rfl⟩:=h
   exact⟨by simp,fun _=>undef,fun G1 _ _ _ t j v hin=>by simp[cK]at hin⟩
 | .val τ p::ps,i,te,tk,ys,rho,h,h3,h4=>by
   have n1:=bq p te
   have hpn:(aV p te []).2=aR p te:=rfl
   obtain⟨i1,H,i2⟩:=wT hI (ps:=ps) (i:=i+1) h h3 (by omega)
   exact⟨i1,H,i2⟩
 | .rd τ::ps,i,te,tk,ys,rho,h,h3,h4=>by
   obtain⟨i1,H,i2⟩:=wT hI (ps:=ps) (i:=i+1) h h3 h4
   exact⟨i1,H,i2⟩
 | .vx e l::ps,i,te,tk,ys,rho,h,h3,h4=>by
   obtain⟨i1,H,i2⟩:=wT hI (ps:=ps) (i:=i+1) h h3 h4
   exact⟨i1,H,i2⟩
 | .io τ p::ps,i,te,tk,ys,rho,h,h3,h4=>by
   simp only[Cy,Env.get]at h
   have n1:=bq p tk
   have n2:=tw ps (aR p tk)
   have n3:=bq p (te+1)
   have hpn:(aV p (te+1) []).2=aR p (te+1):=rfl
   have hpn2:(aV p tk []).2=aR p tk:=rfl
   split at h
   ·rename_i b v xs rho' he hr
    split at h
    ·rename_i x hx
     split at h
     ·rename_i hc
      simp only[ahl,decide_eq_true_eq]at hc
      obtain⟨⟨hf,ho⟩,rfl⟩:=hc
      simp only[ahm,ahy]at h
      obtain⟨rfl,rfl⟩:=h
      have hs:=hI.slots i
      have hm:=hI.ow i
      rw[he]at hs hm
      obtain⟨bk,c,el,b1,b2,b3,b4,b5,b6⟩:=hs
      have b7:=hm.1
      have e:=cV hx
      rw[e]at hf ho b6 b7
      obtain⟨i1,H2,i2⟩:=wT hI (ps:=ps) (i:=i+1) hr (by omega) (by omega)
      obtain⟨H1,k1⟩:=lZ (sm:=uX) (hs:=[2,1]) (tk:=tk) hf b6 h3 (fun c _=>ON c) (by simp)
      refine⟨fun c k hck=> ?_,fun z=>if z<aR p tk then H1 z else H2 z,fun G1 g1 g2 g3 t j u hin=> ?_⟩
      ·rw[Gs]
       simp only[aiG,aho,ahy,ahk]at hck
       rcases hck with⟨rfl,rfl⟩|hck|hck
       ·exact .inr (.inr (.inl ⟨rfl,by simp[cn]⟩))
       ·obtain⟨r1,r2⟩:=kA b6 c k hck
        rcases r2 with⟨r2,r5⟩|⟨r2,r3,r4⟩|r2
        ·exact .inl ⟨r2,b7 c r1,JE ho r5⟩
        ·exact .inr (.inl ⟨r3,by omega,r2⟩)
        ·exact .inr (.inr (.inr r2))
       ·rcases i1 c k hck with h|⟨q1,q2,q3⟩|⟨q1,q2⟩|h
        ·exact .inl h
        ·exact .inr (.inl ⟨by omega,q2,q3⟩)
        ·exact .inr (.inr (.inl ⟨q1,by simp only[cn];exact ahv _ q2⟩))
        ·exact .inr (.inr (.inr h))
      ·rw[Gs]at g2
       simp only[eD,cK,aho,ahy]at hin
       rcases hin with⟨rfl,rfl,rfl⟩|hin
       ·refine⟨⟨bk,c,el,b1,h4,?_,g1 t t (by simp) bk b4,b5,k1 G1 (fun c k hck=>g1 c k (by simp[hck])) (fun z hz hz2=>(g2 z hz (by omega)).trans (if_pos hz2))⟩,by simp[gH]⟩
        rw[g3 t (by simp[cn])];exact b3
       ·rw[cg]at hin
        have:=i2 G1 (fun c k hck=>g1 c k (by simp[hck])) (fun z hz hz2=>(g2 z (by omega) hz2).trans (if_neg (by omega))) (fun u hu=>g3 u (by simp only[cn];exact ahv _ hu)) t j u hin
        exact⟨this.1,by simp only[gH];exact ahv _ this.2⟩
     ·cases h
    ·cases h
   ·cases h
end
def Gh.R2 (G:Gh) (n:Nat):C0:=⟨G.col,fun t=>if t<n then some (G.hdr t)else none⟩
theorem abn {ps:List PK}:∀ {x:aZ (ps.map PK.ty)} {te i0 j i:Nat} {τ:Ty} {sh:Sh},(rL ps i0 te)[j]?=some (i,τ,sh)→
 ∃te' y,i0≤i∧(bK ps x te).1.getD (i-i0) .no= .box te' ⟨τ,y,sh⟩∧(eD ps i0 te)[j]?=some (te',i)∧(bn ps)[j]?=some τ∧(∀u∈sh.aE,(u=1∨u=3)∨u<bI ps te)∧i∈gH ps i0:=by
 induction ps with
 |nil=>intro x te i0 j i τ sh h;simp[rL]at h
 |cons p ps ih=>
  intro x te i0 j i τ0 sh h
  have key:∀ {te1:Nat} {j:Nat},(rL ps (i0+1) te1)[j]?=some (i,τ0,sh)→∃te' y,i0≤i∧(∀v,(v::(bK ps x.2 te1).1).getD (i-i0) .no= .box te' ⟨τ0,y,sh⟩)∧(eD ps (i0+1) te1)[j]?=some (te',i)∧(bn ps)[j]?=some τ0∧
   (∀u∈sh.aE,(u=1∨u=3)∨u<bI ps te1)∧i∈gH ps (i0+1):=by
   intro te1 j h
   obtain⟨te',y,q1,q2,q3,q4,q5,q6⟩:=ih (x:=x.2) h
   refine⟨te',y,by omega,fun v=> ?_,q3,q4,q5,q6⟩
   rw[show i-i0=(i-(i0+1))+1 by omega,ahq]
   exact q2
  cases p with
  |val τ q=>
   simp only[rL]at h
   obtain⟨te',y,q1,q2,q3,q4,q5,q6⟩:=key h
   exact⟨te',y,q1,by simp only[bK,cg];exact q2 _,q3,q4,q5,q6⟩
  |rd τ=>
   simp only[rL]at h
   obtain⟨te',y,q1,q2,q3,q4,q5,q6⟩:=key h
   exact⟨te',y,q1,by simp only[bK];exact q2 _,q3,q4,q5,q6⟩
  |vx e l=>
   simp only[rL]at h
   obtain⟨te',y,q1,q2,q3,q4,q5,q6⟩:=key h
   exact⟨te',y,q1,by simp only[bK];exact q2 _,q3,q4,q5,q6⟩
  |io τ q=>
   simp only[rL]at h
   cases j with
   |zero=>
    simp only[aii,ahm,ahy]at h
    obtain⟨rfl,rfl,rfl⟩:=h
    refine⟨te,x.1,ahJ _,by simp[bK],by simp[eD],by simp[bn],fun u hu=> ?_,by simp[gH]⟩
    have h2:=fp ps (aR q (te+1))
    rcases od u hu with h|h|h
    ·left;left;simpa using h
    ·right;simp only[bI];omega
    ·left;right;exact h
   |succ j=>
    simp only[ahN]at h
    obtain⟨te',y,q1,q2,q3,q4,q5,q6⟩:=key h
    exact⟨te',y,q1,by simp only[bK,cg];exact q2 _,by simp only[eD,ahN];exact q3,by simp only[bn,ahN];exact q4,q5,by simp only[gH];exact ahv _ q6⟩
section
variable {P:Program} {C:Cx} {w0:World} {c0:C0} {U:Nat→Prop} {E:Env} {a:Act} {w:World} {G:Gh} {ops:List Oper} {L:Nat→Prop} {Q:Exit→Act→World→Prop} {ρ:Type}
theorem WQ {fn:Func} {tmps:Array Value} {vs:List Value} (h:(fn.results.toList.mapM (uE tmps)).run P w= .ok vs w):(results fn tmps).run P w= .ok (wD vs) w:=by
 have e:(fn.results.mapM (uE tmps)).run P w= .ok vs.toArray w:=by
  rw[Array.mapM_eq_mapM_toList]
  simp[h]
 have e2:results fn tmps=(do let vs←fn.results.mapM (uE tmps);pure (if h:vs.size=1 then vs[0]else .tuple vs)):=by
  unfold results
  congr 1
 rw[e2,Sem.run_bind,e]
 simp only[Result.andThen_ok,Sem.run_pure]
 congr 1
 match vs with
 | []=>rfl
 | [v]=>rfl
 |_::_::_=>simp[wD]
theorem wi:∀(rs:List RK) (rest:List Ty) (x:aZ (rs.map RK.ty)) (y:aZ rest) (k:Nat) (hs:List Nat),(bd rs rest (aZ.app _ _ x y) k hs).2.1=y
 | [],_,_,_,_,_=>rfl
 | .val _ _::rs,rest,x,y,_,hs=>wi rs rest x.2 y _ hs
 | .nbox _ _::rs,rest,x,y,_,hs=>wi rs rest x.2 y _ hs
theorem CQ:∀(rs:List RK) (rest:List Ty) (y:aZ (rs.map RK.ty++rest)) (k:Nat) (hs:List Nat),(bd rs rest y k hs).2.2=di rs k
 | [],_,_,_,_=>rfl
 | .val _ p::rs,rest,y,k,hs=>by simp only[bd,cg];exact CQ rs rest y.2 _ hs
 | .nbox _ p::rs,rest,y,k,hs=>by simp only[bd,cg];exact CQ rs rest y.2 _ hs
theorem Cp:∀ {ps:List PK} {i:Nat},∀j∈gH ps i,i≤j∧j<i+ps.length
 | [],_,j,h=>by simp[gH]at h
 | .val _ _::ps,i,j,h| .rd _::ps,i,j,h| .vx _ _::ps,i,j,h=>by have:=Cp (ps:=ps) (i:=i+1) j h;simp only[ahR];omega
 | .io _ _::ps,i,j,h=>by
   simp only[gH,aho]at h
   simp only[ahR]
   rcases h with rfl|h
   ·omega
   ·have:=Cp (ps:=ps) (i:=i+1) j h;omega
theorem aad (hC:CxTy P C) {con:rk} {G0:Gh} {args:List Value} {xx:aZ (con.ps.map PK.ty)} (hlot:M8 w0 G0 (bK con.ps xx 4).1 args (bI con.ps 4)) (hI:Inv w0 (G0.R2 (bI con.ps 4)) U E a w G) {fn:Func} {y:aZ (con.rs.map RK.ty++bn con.ps)}
 (h:fin C.tt con.ps con.rs con.kp fn.results.toList (bI con.ps 4) E=some y) (hT:∀i∈gH con.ps 0,a.tmps.getD i undef=args.getD i undef):
 ∃mv G' vs nt,(results fn a.tmps).run P w= .ok mv w∧xc con w0 G0 args y mv w G' vs nt:=by
 have h30:=fp con.ps 4
 unfold fin at h
 split at h
 ·rename_i xs rho tk hrs
  split at h
  ·rename_i ys rho' hio
   split at h
   ·rename_i hok0
    cases h
    rw[ahl]at hok0
    obtain⟨hok,hkept⟩:=hok0
    obtain⟨rfl,hk1,vs,hvl,hrun,H1,hf1⟩:=Jj hC hI hrs h30
    have hge1:=lS con.rs (bI con.ps 4)
    have hge2:=tw con.ps (di con.rs (bI con.ps 4))
    obtain⟨hk2,H2,hf2⟩:=wT hI hio (by omega) (ahJ _)
    have hlk:∀c k,(c,k)∈rho++rho'→(rho++rho').lookup c=some k:=fun c k hh=>Dd hok hh
    have hkk:∀c k,(c,k)∈rho++rho'→(k=uX c∧Good U G c∧c≠3)∨(4≤k∧4≤c)∨(c=3∧k=3):=by
     intro c k hh
     rcases ahk.1 hh with hh|hh
     ·rcases hk1 c k hh with h|⟨q1,q2,q3⟩|h
      ·exact .inl h
      ·exact .inr (.inl ⟨by omega,q3⟩)
      ·exact .inr (.inr h)
     ·rcases hk2 c k hh with h|⟨q1,q2,q3⟩|⟨q1,q2⟩|h
      ·exact .inl h
      ·exact .inr (.inl ⟨by omega,q3⟩)
      ·have:=dC c q2
       exact .inr (.inl ⟨by omega,this.1⟩)
      ·exact .inr (.inr h)
    let G1:Gh:=⟨fun b=>match(rho++rho').lookup (G.col b)with|some k=>k|none=>if G.col b≤3 then G.col b else 0,
     fun u=>if u<bI con.ps 4 then G.hdr u else if u<di con.rs (bI con.ps 4)then H1 u else H2 u,fun _=>false⟩
    have hcol:∀c k,(c,k)∈rho++rho'→∀b,G.col b=c→G1.col b=k:=by
     intro c k hh b hb
     show(match(rho++rho').lookup (G.col b)with|some k=>k|none=>if G.col b≤3 then G.col b else 0)=k
     rw[hb,hlk c k hh]
    have hcs:∀b,(G.col b≤3∧G1.col b=G.col b)∨(4≤G.col b∧(G1.col b=2∨G1.col b=0∨4≤G1.col b)):=by
     intro b
     have hb0:G1.col b=(match(rho++rho').lookup (G.col b)with|some k=>k|none=>if G.col b≤3 then G.col b else 0):=rfl
     cases hq:(rho++rho').lookup (G.col b)with
     |none=>
      rw[hq]at hb0
      simp only at hb0
      by_cases h2:G.col b≤3
      ·left;rw[if_pos h2]at hb0;exact⟨h2,hb0⟩
      ·right;rw[if_neg h2]at hb0;exact⟨by omega,by omega⟩
     |some k=>
      rw[hq]at hb0
      simp only at hb0
      rcases hkk _ _ (fJ hq)with⟨h1,h2,h33⟩|⟨h1,h2⟩|⟨h1,h2⟩
      rotate_right
      ·left;omega
      ·rw[h1]at hb0
       have h0:=h2.1
       unfold uX at hb0
       by_cases e:G.col b=1
       ·left;rw[if_pos e]at hb0;omega
       ·rw[if_neg e]at hb0
        by_cases e2:G.col b=2
        ·left;omega
        ·right;omega
      ·right;omega
    refine⟨wD vs,G1,vs,0,WQ hrun,⟨rfl,hvl,?_,?_,fun b hb hc=> ?_,fun b hb=> ?_,hI.size,hI.os,hI.tape,hI.output,fun b hb=> ?_,fun b hb=> ?_,fun q hq te i τ hbx hty bk c el c' el' hag hc0 hc1=> ?_⟩⟩
    ·refine hf1 _ ys G1 (fun c k hh=>hcol c k (ahT _ hh)) (fun u h1 h2=> ?_)
     show(if u<bI con.ps 4 then G.hdr u else if u<di con.rs (bI con.ps 4)then H1 u else H2 u)=H1 u
     rw[if_neg (by omega),if_pos h2]
    ·intro t i v hin
     rw[wi,CQ]at hin
     have:=hf2 G1 (fun c k hh=>hcol c k (ahI _ hh)) (fun u h1 h2=>by
      show(if u<bI con.ps 4 then G.hdr u else if u<di con.rs (bI con.ps 4)then H1 u else H2 u)=H2 u
      rw[if_neg (by omega),if_neg (by omega)]) (fun u hu=>by
      have:=dC u hu
      show(if u<bI con.ps 4 then G.hdr u else if u<di con.rs (bI con.ps 4)then H1 u else H2 u)=G.hdr u
      rw[if_pos this.2]) t i v hin
     rw[hT i this.2]at this
     exact this.1
    ·have hf:G.col b=G0.col b∧w.heap[b]?=w0.heap[b]?:=hI.frame b hb hc
     refine⟨?_,hf.2⟩
     rcases hcs b with h|h<;>omega
    ·have h1:G1.col b=G.col b:=by rcases hcs b with h|h<;>omega
     rw[h1]at hb⊢
     exact hI.one b hb
    ·refine hI.lt b ?_
     rcases hcs b with h|h<;>omega
    ·refine hI.fresh b ?_
     rcases hcs b with h|h<;>omega
    ·simp only[ZQ,ahz,ahl,ahn]at hkept
     rcases hkept with hkept|⟨hkp,hkept⟩
     ·rw[aif]at hkept
      rw[hkept]at hq;cases hq
     ·have hq1:=hkept q hq
      split at hq1
      ·rename_i i' τ1 sh hent
       obtain⟨te',y',g1,g2,g3,g4,g5,g6⟩:=abn (x:=xx) hent
       rw[hbx]at g3
       rw[hty]at g4
       cases g3;cases g4
       split at hq1
       ·rename_i t v u hE hu
        simp only[ahl,decide_eq_true_eq,beq_iff_eq]at hq1
        obtain⟨hvτ,hq1⟩:=hq1
        have hs:=hI.slots i
        have hE':E.s.getD i .no= .box t v:=hE
        rw[hE']at hs
        obtain⟨bk2,c2,el2,k1,k2,k3,k4,k5,k6⟩:=hs
        rw[hT i g6,hag]at k1
        simp only[Value.pointer.injEq,ahm,Addr.mk.injEq,and_true]at k1
        subst k1
        rw[hc1]at k5
        cases k5
        have r1:=rf k6 hq1
        have hs0:=hlot.slots i
        rw[aie]at g2
        rw[g2]at hs0
        obtain⟨bk3,c3,el3,j1,j2,j3,j4,j5,j6⟩:=hs0
        rw[hag]at j1
        simp only[Value.pointer.injEq,ahm,Addr.mk.injEq,and_true]at j1
        subst j1
        rw[hc0]at j5
        cases j5
        have r2:=rf j6 hu
        have hτ:v.τ.off q.2=τ.off q.2:=by rw[hvτ]
        rw[←hτ,r1.1,hτ,r2.1]
        have hlt:u<bI con.ps 4:=by
         rcases g5 u r2.2.2 with h|h
         ·have:=r2.2.1;omega
         ·exact h
        rw[(hI.hk hkp u (G0.hdr u) (by simp[Gh.R2,hlt])).2]
       ·cases hq1
      ·cases hq1
   ·cases h
  ·cases h
 ·cases h
theorem ky (l:List SV) (n i:Nat):(l++aiq n SV.no).getD i SV.no=l.getD i SV.no:=by
 rw[ahp,ahp,List.getElem?_append]
 split
 ·rfl
 ·rename_i h
  rw[List.getElem?_replicate,ahQ (by omega)]
  split<;>rfl
theorem UM {ps:List PK} {x:aZ (ps.map PK.ty)} {args:List Value} (h:M8 w G (bK ps x 4).1 args (bI ps 4)) (n:Nat):
 Inv w (G.R2 (bI ps 4)) (fun u=>u<bI ps 4) ⟨(bK ps x 4).1++aiq (n-(bK ps x 4).1.length) .no,(bK ps x 4).2,true⟩ {tmps:=args.toArray++ail (n-args.toArray.size) undef,defers:=[]} w G:=by
 have hlen:=h.len
 have hta:∀i,i<args.length→(args.toArray++ail (n-args.toArray.size) undef).getD i undef=args.getD i undef:=by
  intro i hi
  rw[ahH,ahp,aib (by simpa using hi)]
  simp
 have h30:=fp ps 4
 refine⟨by simp[hlen],fun s=> ?_,fun s=> ?_,fun s=> ?_,fun s=> ?_,fun s s' t v v' h1 h2=> ?_,fun b hb=>(h.colU b hb).1,fun b hb=>(h.colU b hb).2,h.fresh,fun b _ _=>⟨rfl,rfl⟩,fun b hb=>⟨(h.colU b (by omega)).2,rfl⟩,ahJ _,rfl,rfl,rfl,rfl,⟨⟨by show 2<bI ps 4;omega,h.two.1⟩,by show 3<bI ps 4;omega,h.two.2⟩,fun _ t v ht=> ?_⟩
 rotate_right
 ·simp only[Gh.R2]at ht
  split at ht
  ·rename_i hlt;cases ht;exact⟨hlt,rfl⟩
  ·cases ht
 ·simp only[ky]
  by_cases hs:s<args.length
  ·have:=h.slots s
   rw[←hta s hs]at this
   exact this
  ·rw[ahp,ahQ (by omega)];trivial
 ·simp only[ky];exact(h.ow s).1
 ·simp only[ky];exact(h.ow s).2.1
 ·simp only[ky];exact(h.ow s).2.2
 ·simp only[ky]at h1 h2
  exact h.uni s s' t v v' h1 h2
theorem Vu {ps:List PK}:∀ {x:aZ (ps.map PK.ty)} {tk:Nat},ur (bK ps x tk).1:=by
 induction ps with
 |nil=>intro x tk s j w act v h;simp[bK]at h
 |cons p ps ih=>
  intro x tk s j w act v h
  cases p with
  |val τ q=>
   simp only[bK]at h
   cases s with
   |zero=>simp at h
   |succ s=>simp only[ahq]at h;exact ih _ _ _ _ _ h
  |io τ q=>
   simp only[bK]at h
   cases s with
   |zero=>simp at h
   |succ s=>simp only[ahq]at h;exact ih _ _ _ _ _ h
  |rd τ=>
   simp only[bK]at h
   cases s with
   |zero=>simp at h
   |succ s=>simp only[ahq]at h;exact ih _ _ _ _ _ h
  |vx e l=>
   simp only[bK]at h
   cases s with
   |zero=>simp at h
   |succ s=>simp only[ahq]at h;exact ih _ _ _ _ _ h
theorem aeh (hC:n0 P C) {f:FuncId} {fn:Func} {con:rk} (hf:P.funcs[f]?=some fn) (hname:(fn.name== "runtime.NumGoroutine")=false) (hn:con.ps.length≤fn.ntmps)
 (hF:∀x y,con.F x=some y→Zj C con.ps con.rs con.kp fn x=some y):oz P f con:=by
 intro w G0 args x y hy hlot
 have hev:=hF x y hy
 unfold Zj at hev
 split at hev
 ·cases hev
 ·rename_i c hb
  have hrun:(callFunc f args.toArray).run P w= .ok (.enter f args.toArray) w:=by
   have hne:fn.name≠ "runtime.NumGoroutine" :=by simpa using hname
   unfold callFunc
   simp[hf,hne,hb]
  unfold sL
  rw[hrun]
  simp only
  refine calls_of_wp hf hb ?_
  have hal:args.length=con.ps.length:=by rw[hlot.len,mc]
  have hE:=UM hlot fn.ntmps
  have h30:=fp con.ps 4
  have hkey:Ru {C with n:=fn.ntmps,io:=gH con.ps 0} w (G0.R2 (bI con.ps 4)) (fun i=>args.getD i undef) y (fin C.tt con.ps con.rs con.kp fn.results.toList (bK con.ps x 4).2) (fun a' w'=>
   a'.defers=[]∧∃v,(results fn a'.tmps).run P w'= .ok v w'∧∃v',Ending.returned v=Ending.returned v'∧∃G' vs nt,xc con w G0 args y v' w' G' vs nt):=by
   intro E' a' w' G' g1 g2 g3 g4 gT g5
   rw[lu]at g5
   obtain⟨mv,G2,vs,nt,k1,k2⟩:=aad hC.toCxTy (args:=args) hlot g1 g5 gT
   exact⟨g1.defers,mv,k1,mv,rfl,G2,vs,nt,k2⟩
  have hC2:n0 P {C with n:=fn.ntmps,io:=gH con.ps 0}:=⟨⟨hC.tt,hC.eq,hC.fs,hC.u8⟩,hC.ct,hC.mixed⟩
  refine aeb (T:=fun i=>args.getD i undef) hC2 c (w0:=w) (c0:=G0.R2 (bI con.ps 4)) (G:=G0) (r:=y) (by rw[lu];simpa[lu]using hE) (fun s j w1 act v h=> ?_) ?_ ?_ (fun i hi=> ?_) hev hkey (fun id k hk=>by simp[ain]at hk) hkey
  ·rw[ky]at h;exact Vu _ _ _ _ _ h
  ·simp only[ahX,List.length_replicate,mc];omega
  ·rw[lu];exact h30
  ·have:=Cp i hi
   rw[ahH,aib (by simp;omega),ahp]
   simp
end
def Fits:(τ:Ty)→τ.den→Prop
 | .int k,n=>(Lit.int k n).wf=true
 | .bool,_=>True
 | .str,s=>s.size≤maxLen
 | .sl e,l=>l.length≤maxLen∧∀x∈l,Fits e x
 | .pair a b,p=>Fits a p.1∧Fits b p.2
def tR (P:Program) (chk:Ty→TypeId→Bool):Ty→List Field→Nat→Bool
 |τ,[f],off=>f.offset==off&&P.cellsOf f.type==τ.sz&&chk τ f.type
 | .pair a b,f::g::l,off=>f.offset==off&&P.cellsOf f.type==a.sz&&chk a f.type&&tR P chk b (g::l) (off+a.sz)
 |_,_,_=>false
def vL (P:Program):Nat→Ty→TypeId→Bool
 |0,_,_=>false
 |n+1,τ,t=>
  match P.underlying t with
  |some (.int k)=>τ== .int k
  |some .bool=>τ== .bool
  |some .string=>τ== .str
  |some (.slice e)=>(match τ with| .sl τe=>P.cellsOf e==τe.sz&&vL P n τe e|_=>false)
  |some (.struct fs)=>τ.bW&&P.cellsOf t==τ.sz&&tR P (vL P n) τ fs.toList 0
  |_=>false
section
variable {H:Type} {enc:TypeId×Value→H} {P:Program} {w:World} {held:Bool}
theorem cells?_some {a:Addr} {n:Nat} {cs:List Value} (h:w.cells? 0 a n=some cs):cs.length=n∧∀i,i<n→w.cell? (a.add i)=cs[i]?:=by
 unfold World.cells? at h
 rw[if_pos (Nat.zero_le _)]at h
 refine⟨by simpa using mapM_some_length h,fun i hi=> ?_⟩
 exact mapM_some_get h i i (by simp[hi])
theorem aa0 {a:Addr} {v:Value} (h:w.cell? a=some v):∃c el fz,w.heap[a.block]?=some (.cells c el fz)∧a.spot=none∧c[a.off]?=some v:=by
 unfold World.cell? at h
 split at h
 ·rename_i c el fz hb
  split at h
  ·cases h
  ·rename_i hs
   exact⟨c,el,fz,hb,by simpa using hs,h⟩
 ·cases h
theorem MC {b off:Nat} {c:Array Value} {el:TypeId} {fz:Nat×Nat} (hb:w.heap[b]?=some (.cells c el fz)) {n:Nat} {cs:List Value} (h:w.cells? 0 ⟨b,off,none⟩ n=some cs):cs=(c.toList.drop off).take n∧(0<n→off+n≤c.size):=by
 obtain⟨hl,hc⟩:=cells?_some h
 have hget:∀i,i<n→c[off+i]?=cs[i]?:=by
  intro i hi
  have:=hc i hi
  unfold World.cell? at this
  have hadd:(Addr.add ⟨b,off,none⟩ i)=⟨b,off+i,none⟩:=by
   unfold Addr.add
   split
   ·rename_i h;subst h;rfl
   ·rfl
  rw[hadd]at this
  simp only[hb,Option.isSome_none,ah8,if_false]at this
  exact this
 refine⟨List.ext_getElem? (fun i=> ?_),fun hn=> ?_⟩
 ·rw[ahW]
  split
  ·rename_i hi
   rw[aia,←hget i hi,air]
  ·rename_i hi
   exact ahQ (by omega)
 ·have:=hget (n-1) (by omega)
  rw[aht (by omega)]at this
  have:=(Array.getElem?_eq_some_iff.1 this).1
  omega
theorem Nl {chk:Ty→TypeId→Bool} {cs:List Value}
 (hchk:∀ {τ:Ty} {t:TypeId} {fuel:Nat} {c:List Value} {x:DataW H×List MemPlace},chk τ t=true→DataW.trod enc P w 0 (fun _=>true) held fuel t c=some x→∃y B,aQ w τ y c B∧Fits τ y):
 ∀ {fs:List Field} {τ:Ty} {off:Nat},tR P chk τ fs off=true→cs.length=off+τ.sz→
 (∀f∈fs,∃fuel x,DataW.trod enc P w 0 (fun _=>true) held fuel f.type ((cs.drop f.offset).take (P.cellsOf f.type))=some x)→∃y B,aQ w τ y (cs.drop off) B∧Fits τ y
 | [],τ,off,h,_,_=>by cases τ<;>simp[tR]at h
 | [f],τ,off,h,hl,ht=>by
   have h:(f.offset==off&&P.cellsOf f.type==τ.sz&&chk τ f.type)=true:=by
    cases τ<;>exact h
   simp only[ahl,beq_iff_eq]at h
   obtain⟨⟨h1,h2⟩,h3⟩:=h
   obtain⟨fuel,x,hx⟩:=ht f (by simp)
   rw[h1,h2,ahZ (by simp;omega)]at hx
   exact hchk h3 hx
 |f::g::l,τ,off,h,hl,ht=>by
  cases τ with
  |pair a b=>
   simp only[tR,ahl,beq_iff_eq]at h
   obtain⟨⟨⟨h1,h2⟩,h3⟩,h4⟩:=h
   simp only[Ty.sz]at hl
   obtain⟨fuel,x,hx⟩:=ht f (by simp)
   rw[h1,h2]at hx
   obtain⟨y1,B1,r1,f1⟩:=hchk h3 hx
   obtain⟨y2,B2,r2,f2⟩:=Nl hchk h4 (by omega) (fun q hq=>ht q (by simp only[aho]at hq⊢;exact .inr hq))
   refine⟨(y1,y2),B1++B2,⟨_,_,B1,B2,?_,rfl,r1,r2⟩,f1,f2⟩
   rw[←ahP,ah1]
  |_=>simp[tR]at h
theorem RT {τe:Ty} {e:TypeId} {n:Nat} (hsz:P.cellsOf e=τe.sz) {b:Nat} {c:Array Value} {el:TypeId} {fz:Nat×Nat} (hb:w.heap[b]?=some (.cells c el fz))
 (hchk:∀ {c:List Value} {x:DataW H×List MemPlace},DataW.trod enc P w 0 (fun _=>true) held n e c=some x→∃y B,aQ w τe y c B∧Fits τe y):
 ∀(len:Nat) {off:Nat} {elems:List (DataW H×List MemPlace)},elems.length=len→
 (∀i,i<len→(w.cells? 0 (Addr.add ⟨b,off,none⟩ (i*P.cellsOf e)) (P.cellsOf e)).bind (DataW.trod enc P w 0 (fun _=>true) held n e)=elems[i]?)→
 ∃(l:List τe.den) (Bs:List Nat),l.length=len∧aT (aQ w τe) l ((c.toList.drop off).take (len*τe.sz)) Bs∧∀x∈l,Fits τe x
 |0,off,elems,_,_=>⟨[],[],rfl,by simp[aT],by simp⟩
 |len+1,off,elems,hlen,hel=>by
  have h0:=hel 0 (by omega)
  rw[aht (by omega),ahu]at h0
  obtain⟨cs,hcs,hx⟩:=h0
  simp only[Nat.zero_mul,Addr.add,if_true]at hcs
  obtain⟨e1,_⟩:=MC hb hcs
  obtain⟨y,B,hr,hf⟩:=hchk hx
  have hadd:∀i,Addr.add ⟨b,off,none⟩ ((i+1)*P.cellsOf e)=Addr.add ⟨b,off+τe.sz,none⟩ (i*P.cellsOf e):=by
   intro i
   have:=τe.om
   unfold Addr.add
   rw[hsz]
   rw[if_neg (by simp only[ahC];omega)]
   split
   ·rename_i h;simp only[ahC,h];simp
   ·simp only[ahC,Addr.mk.injEq,and_true,true_and];omega
  obtain⟨l,Bs,h1,h2,h3⟩:=RT hsz hb hchk len (off:=off+τe.sz) (elems:=elems.tail) (by simp[hlen]) (fun i hi=>by
   rw[←hadd,hel (i+1) (by omega)]
   cases elems with
   |nil=>simp at hlen
   |cons z zs=>rfl)
  refine⟨y::l,B++Bs,by simp[h1],⟨cs,_,B,Bs,?_,rfl,hr,h2⟩,by simpa using⟨hf,h3⟩⟩
  rw[e1,hsz,ahC,ahU,Nat.add_comm (len*τe.sz),List.take_add,ahP]
theorem V8:∀(n:Nat) {τ:Ty} {t:TypeId} {fuel:Nat} {cs:List Value} {x:DataW H×List MemPlace},vL P n τ t=true→DataW.trod enc P w 0 (fun _=>true) held fuel t cs=some x→∃y B,aQ w τ y cs B∧Fits τ y:=by
 intro n
 induction n with
 |zero=>intro τ t fuel cs x h;simp[vL]at h
 |succ n ih=>
  intro τ t fuel cs x h ht
  simp only[vL]at h
  split at h
  ·rename_i k hu
   simp only[beq_iff_eq]at h
   subst h
   obtain⟨m,rfl,_,hw⟩:=DataW.trod_int hu ht
   exact⟨m,[],⟨rfl,rfl⟩,hw⟩
  ·rename_i hu
   simp only[beq_iff_eq]at h
   subst h
   obtain⟨b,rfl,_⟩:=DataW.trod_bool hu ht
   exact⟨b,[],⟨rfl,rfl⟩,trivial⟩
  ·rename_i hu
   simp only[beq_iff_eq]at h
   subst h
   obtain⟨s,rfl,_,hs⟩:=DataW.trod_string hu ht
   exact⟨s,[],⟨rfl,rfl⟩,hs⟩
  ·rename_i e hu
   split at h
   ·rename_i τe
    simp only[ahl,beq_iff_eq]at h
    obtain⟨hsz,hd⟩:=h
    rcases DataW.trod_slice hu ht with⟨rfl,_⟩|⟨a,len,cap,elems,rest,m,_,rfl,_,_,hlc,hcm,hlen,hel,hsp,_⟩
    ·exact⟨[],[],⟨_,rfl,.inl ⟨⟨_,rfl⟩,rfl,rfl⟩⟩,by simp[Fits]⟩
    ·by_cases hcap:cap=0
     ·subst hcap
      have:len=0:=by omega
      subst this
      exact⟨[],[],⟨_,rfl,.inl ⟨⟨_,rfl⟩,rfl,rfl⟩⟩,by simp[Fits]⟩
     ·obtain⟨hrl,hrest⟩:=hsp rfl
      have hall:∀i,i<cap→∃cs,w.cells? 0 (a.add (i*P.cellsOf e)) (P.cellsOf e)=some cs:=by
       intro i hi
       by_cases hil:i<len
       ·have:=hel i hil
        rw[aht (by omega),ahu]at this
        obtain⟨cs,h1,_⟩:=this
        exact⟨cs,h1⟩
       ·have:=hrest (i-len) (by omega)
        rw[aht (by omega),ahu]at this
        obtain⟨cs,h1,_⟩:=this
        rw[show len+(i-len)=i by omega]at h1
        exact⟨cs,h1⟩
      have hpos:=τe.om
      obtain⟨cs0,h0⟩:=hall 0 (by omega)
      obtain⟨hl0,hc0⟩:=cells?_some h0
      have hc00:=hc0 0 (by omega)
      rw[aht (by omega)]at hc00
      have haa:(a.add (0*P.cellsOf e)).add 0=a:=by simp[Addr.add]
      rw[haa]at hc00
      obtain⟨c,el,fz,hb,hspot,_⟩:=aa0 hc00
      obtain⟨b,off,spot⟩:=a
      simp only at hb hspot
      subst hspot
      obtain⟨l,Bs,h1,h2,h3⟩:=RT (held:=held) (enc:=enc) hsz hb (fun hx=>ih hd hx) len hlen hel
      obtain⟨csl,hcl⟩:=hall (cap-1) (by omega)
      have hadd:Addr.add ⟨b,off,none⟩ ((cap-1)*P.cellsOf e)=⟨b,off+(cap-1)*P.cellsOf e,none⟩:=by
       unfold Addr.add
       split
       ·rename_i h;rw[h];rfl
       ·rfl
      rw[hadd]at hcl
      have hsize:=(MC hb hcl).2 (by omega)
      rw[hsz]at hsize
      have hmul:(cap-1)*τe.sz+τe.sz=cap*τe.sz:=by
       have:cap=cap-1+1:=by omega
       conv=>rhs;rw[this,ahC,ahU]
      refine⟨l,b::Bs,⟨_,rfl,.inr ⟨b,off,cap,c,el,fz,Bs,by rw[h1],by omega,hb,by omega,rfl,by rw[h1];exact h2⟩⟩,by omega,h3⟩
   ·cases h
  ·rename_i fs hu
   simp only[ahl,beq_iff_eq]at h
   obtain⟨⟨hp,hsz⟩,hfo⟩:=h
   obtain⟨xs,m,_,_,hl,hxl,hxs⟩:=DataW.trod_struct hu ht
   have:=Nl (held:=held) (enc:=enc) (cs:=cs) (fun h hx=>ih h hx) hfo (by rw[hl,hsz];omega) (fun f hf=>by
    obtain⟨i,hi,rfl⟩:=List.mem_iff_getElem.1 hf
    have hi':i<fs.size:=by simpa using hi
    have:=hxs i fs[i] (by simp[hi'])
    rw[aht (by omega)]at this
    exact⟨m,_,by simpa using this⟩)
   simpa using this
  ·cases h
end
end Vg
namespace Vg
open Go Go.ChangeShapes Go.WideShapes Go.ChangeAt Go.RowKit
abbrev pO (τs:List Ty):List PK:=τs.map fun τ=> .val τ (mf τ)
def QG:(τs:List Ty)→aZ ((pO τs).map PK.ty)→Prop
 | [],_=>True
 |τ::τs,x=>Fits τ x.1∧QG τs x.2
def Az (P:Program) (n:Nat):List Ty→List TypeId→Bool
 | [],[]=>true
 |τ::τs,t::ts=>vL P n τ t&&Az P n τs ts
 |_,_=>false
section
variable {H:Type} {enc:TypeId×Value→H} {P:Program} {w:World} {G:Gh}
theorem aa8 {n:Nat} {τ:Ty} {t:TypeId} {v:Value} {r:Reach} {b0:Nat} (h:vL P n τ t=true) (hval:Value.okWide P w r b0 t v):v=cw τ v.cells.toList:=by
 cases n with
 |zero=>simp[vL]at h
 |succ n=>
  simp only[vL]at h
  split at h
  ·rename_i k hu
   simp only[beq_iff_eq]at h
   subst h
   obtain⟨m,rfl⟩:=okWide_int hu hval
   rfl
  ·rename_i hu
   simp only[beq_iff_eq]at h
   subst h
   obtain⟨b,rfl⟩:=okWide_bool hu hval
   rfl
  ·rename_i hu
   simp only[beq_iff_eq]at h
   subst h
   obtain⟨s,rfl⟩:=okWide_string hu hval
   rfl
  ·rename_i e hu
   split at h
   ·obtain⟨a,len,cap,rfl⟩:=okWide_slice hu hval
    rfl
   ·cases h
  ·rename_i fs hu
   simp only[ahl]at h
   obtain⟨cs,rfl,_⟩:=okWide_struct hu hval
   cases τ with
   |pair a b=>simp[cw,Value.cells]
   |_=>simp[Ty.bW]at h
  ·cases h
theorem UC (hG:∀b,b<w.heap.size→G.col b=1) {n:Nat} {r:Reach} {b0:Nat}:∀ {τs:List Ty} {ts:List TypeId} {args:List Value} {ds:List (DataW H)} {p:List MemPlace},
 Az P n τs ts=true→DataW.TrodAll enc P w 0 (fun _=>true) true ts args ds p→(∀(j:Nat) t v,ts[j]?=some t→args[j]?=some v→Value.okWide P w r b0 t v)→
 ∃x:aZ ((pO τs).map PK.ty),QG τs x∧args.length=τs.length∧ds.length=τs.length∧∀tk i,bU w G ((bK (pO τs) x tk).1.getD i .no) (args.getD i undef)
 | [],[],args,ds,p,_,ht,_=>by
   obtain⟨rfl,rfl,rfl⟩:=trodAll_nil ht
   exact⟨(),trivial,rfl,rfl,fun tk i=>trivial⟩
 |τ::τs,t::ts,args,ds,p,hd,ht,hv=>by
  simp only[Az,ahl]at hd
  obtain⟨v,vs,d,ds',p',q,rfl,rfl,rfl,h1,h2⟩:=trodAll_cons ht
  obtain⟨x,hx,hl,hl2,hs⟩:=UC hG hd.2 h2 (fun j t v ht hv'=>hv (j+1) t v (by simpa using ht) (by simpa using hv'))
  obtain⟨fuel,hf⟩:=h1
  obtain⟨y,B,hr,hfit⟩:=V8 n hd.1 hf
  refine⟨(y,x),⟨hfit,hx⟩,by simp[hl],by simp[hl2],fun tk i=> ?_⟩
  have hok:=aa8 hd.1 (hv 0 t v rfl rfl)
  cases i with
  |zero=>
   show bU w G (.d ⟨τ,y,(aV (mf τ) tk [1]).1⟩) v
   rw[na]
   exact⟨_,hok,bg.Fu hr (fun b hb=>by simp[hG b (hr.bounds b hb)]) (by simp)⟩
  |succ i=>
   show bU w G ((bK (pO τs) x (aV (mf τ) tk [1]).2).1.getD i .no) (vs.getD i undef)
   exact hs _ i
 | [],_::_,_,_,_,h,_,_|_::_,[],_,_,_,h,_,_=>by simp[Az]at h
end
theorem Fv:∀(τs:List Ty) (tk:Nat),bI (pO τs) tk=tk
 | [],_=>rfl
 |τ::τs,tk=>by
  show bI (pO τs) (aR (mf τ) tk)=tk
  have:aR (mf τ) tk=tk:=by
   rw[←cg (mf τ) tk [1],na]
  rw[this,Fv τs]
theorem Vf:∀τs:List Ty,RV (pO τs)=[]
 | []=>rfl
 |τ::τs=>Vf τs
theorem F8:∀(τs:List Ty) (tk:Nat),cn (pO τs) tk=[]
 | [],_=>rfl
 |_::τs,_=>F8 τs _
section
variable {H:Type} {enc:TypeId×Value→H} {P:Program}
theorem ZI {f:Func} {s:ChangeSpec} {W W':World} {args:Array Value} {v:Value} {ds gs:List (DataW H)} {before:List MemPlace}
 (hW:DataW.Whole enc P f.params.toList s.vars false W args.toList ds gs before)
 (hres:∀(b:Nat) (sp:Nat→Bool) (hd:Bool),DataW.TrodAll enc P W' b sp hd f.resultTypes.toList (v.resultList f.resultTypes.size) (s.fn H (ds++gs)).results [])
 (hargs:∀sp:Nat→Bool,(∀p∈before,sp p.block=true)→DataW.TrodAll enc P W' 0 sp true f.params.toList args.toList (s.fn H (ds++gs)).args before)
 (hvars:s.vars=[]) (hleft:(s.fn H (ds++gs)).vars=[]) (hk:W.keptBut W' (·∈before)) (hh:∀b,b<W.heap.size→W'.heap[b]?=W.heap[b]?)
 (hok:∀(j:Nat) (t:TypeId) (r:Value),f.resultTypes[j]?=some t→(v.resultList f.resultTypes.size)[j]?=some r→Value.okWide P W' .any 0 t r):
 s.post enc P f false true false false W args v W':=by
 have hold:∀p∈before,(fun b=>decide (b<W.heap.size)) p.block=true:=fun p hp=>by simpa using hW.lt p hp
 have hv:∀sp,DataW.TrodVars enc P W' sp s.vars (s.fn H (ds++gs)).vars []:=fun sp=>by rw[hvars,hleft];exact rfl
 refine⟨ds,gs,before,[],before,[],hW,hres _ _ _,hargs _ hold,hv _,World.keptBut_mono (fun p hp=>⟨hp,?_⟩) hk,fun _=> ?_⟩
 ·exact Or.inr (by simpa using hp)
 ·have hlt:=hW.lt
  obtain⟨_,_,_,_,_,hz,_⟩:=hW
  refine⟨hok,_,_,([]++before)++[],⟨[]++before,[],trodAll_append (hargs _ (fun _ _=>rfl)) (hres _ _ _),hv _,rfl,?_,?_⟩,?_⟩
  ·intro b off hp
   have hp':MemPlace.cell b off∈before:=by simpa using hp
   have:=hz b off hp'
   have hb:=hlt _ hp'
   unfold World.frozen? at this⊢
   rw[hh b hb]
   exact this
  ·intro ha;cases ha
  ·intro p hp _
   simpa using hp
theorem DY (hl:laidOutB P=true) {W W':World} {sp:Nat→Bool}:∀ {ts:List TypeId} {vs:List Value} {ds:List (DataW H)} {p:List MemPlace},
 (∀t∈ts,P.readableRec t=true∧t<P.types.size)→DataW.TrodAll enc P W 0 (fun _=>true) true ts vs ds p→(∀x∈p,W.sameAt W' x)→(∀x∈p,sp x.block=true)→DataW.TrodAll enc P W' 0 sp true ts vs ds p
 | [],vs,ds,p,_,h,_,_=>by
   obtain⟨rfl,rfl,rfl⟩:=trodAll_nil h
   exact rfl
 |t::ts,vs,ds,p,hr,h,h1,h2=>by
  obtain⟨v,vs,d,ds',p',q,rfl,rfl,rfl,k1,k2⟩:=trodAll_cons h
  exact trodAll_cons_mk (WideElems.Trod_stays hl (hr t (by simp)).1 (hr t (by simp)).2 k1 (fun x hx=>h1 x (by simp[hx])) (fun x hx=>h2 x (by simp[hx])))
   (DY hl (fun t ht=>hr t (by simp[ht])) k2 (fun x hx=>h1 x (by simp[hx])) (fun x hx=>h2 x (by simp[hx])))
theorem Wq {f:FuncId} {fn:Func} {con:rk} (hm:oz P f con) (hf:P.funcs[f]?=some fn) (hname:(fn.name== "runtime.NumGoroutine")=false) (hb:fn.body.isSome=true)
 {W:World} {G0:Gh} {args:List Value} {x:aZ (con.ps.map PK.ty)} {y:aZ (con.rs.map RK.ty++bn con.ps)} (hF:con.F x=some y) (hlot:M8 W G0 (bK con.ps x 4).1 args (bI con.ps 4)):
 Calls P f args.toArray W (fun e w'=>∃v,e= .returned v∧∃G' vs nt,xc con W G0 args y v w' G' vs nt):=by
 have:=hm W G0 args x y hF hlot
 obtain⟨c,hc⟩:=ahK.1 hb
 have hrun:(callFunc f args.toArray).run P W= .ok (.enter f args.toArray) W:=by
  have hne:fn.name≠ "runtime.NumGoroutine" :=by simpa using hname
  unfold callFunc
  simp[hf,hne,hc]
 unfold sL at this
 rw[hrun]at this
 exact this
theorem VR {f:FuncId} {fn:Func} {τs:List Ty} {F:aZ ((pO τs).map PK.ty)→Option (aZ ([RK.val .bool .leaf].map RK.ty++bn (pO τs)))} {spec:ChangeSpec} {tb:TypeId} {n:Nat}
 (hm:oz P f ⟨pO τs,[.val .bool .leaf],F,[]⟩) (hf:P.funcs[f]?=some fn) (hname:(fn.name== "runtime.NumGoroutine")=false) (hb:fn.body.isSome=true)
 (hd:Az P n τs fn.params.toList=true) (hres:fn.resultTypes= #[tb]) (hub:P.underlying tb=some .bool) (hl:laidOutB P=true)
 (hr:fn.params.toList.all (fun t=>P.readableRec t&&decide (t<P.types.size))=true) (hvars:spec.vars=[])
 (hspec:∀ds:List (DataW H),ds.length=τs.length→spec.fn H ds={results:=[.lit (.bool true)],args:=ds})
 (hF:∀x,QG τs x→∃y,F x=some y∧y.1=true)
 (W:World) (base:Nat) (args:Array Value) (ds gs:List (DataW H)) (before:List MemPlace)
 (hval:∀(j:Nat) t v,fn.params[j]?=some t→args[j]?=some v→Value.okWide P W .any base t v)
 (hW:DataW.Whole enc P fn.params.toList spec.vars false W args.toList ds gs before):
 Calls P f args W fun e W'=>∃v,e= .returned v∧spec.post enc P fn false true false false W args v W':=by
 have hW':=hW
 have hlt:=hW.lt
 obtain⟨p,q,hA,hV,rfl,hfz,hnd⟩:=hW
 rw[hvars]at hV
 obtain⟨rfl,rfl⟩:=trodVars_none hV
 have hA':DataW.TrodAll enc P W 0 (fun _=>true) true fn.params.toList args.toList ds p:=hA
 let G0:Gh:=⟨fun b=>if b<W.heap.size then 1 else 0,fun _=>undef,fun _=>false⟩
 obtain⟨x,hfit,hlen,hdl,hs⟩:=UC (G:=G0) (fun b hb=>if_pos hb) hd hA' (fun j t v h1 h2=>hval j t v (by simpa using h1) (by simpa using h2))
 obtain⟨y,hy,hy1⟩:=hF x hfit
 have hlot:M8 W G0 (bK (pO τs) x 4).1 args.toList (bI (pO τs) 4):=by
  rw[Fv]
  refine⟨by rw[mc,hlen];simp,fun i=>hs 4 i,fun i=> ?_,fun i j t v v' h h'=>tE h h',fun b hb=> ?_,fun b hb=> ?_,⟨rfl,rfl⟩,fun b=> ?_⟩
  ·by_cases hi:i<(bK (pO τs) x 4).1.length
   ·have hmem:(bK (pO τs) x 4).1.getD i .no∈(bK (pO τs) x 4).1:=by
     rw[ahp,aht hi];simp
    obtain⟨h1,h2,h3⟩:=kq _ hmem
    rw[Fv]at h1
    have hbt:=F8 τs 4
    refine⟨fun c hc=> ?_,fun c hc=> ?_,by rw[h3];simp⟩
    ·rcases h1 c hc with h13|⟨q1,q2,q3⟩|h
     ·exact⟨by omega,by omega,rfl⟩
     ·omega
     ·rw[Vf]at h;cases h
    ·have:=h2 c hc
     rw[hbt]at this
     cases this
   ·rw[ahp,ahQ (by omega)]
    simp[bf,SV.sc,SV.bt,SV.rt]
  ·simp only[G0]at hb⊢
   split at hb
   ·rename_i h;exact⟨by rw[if_pos h];omega,h⟩
   ·omega
  ·simp only[G0]at hb
   split at hb<;>omega
  ·simp only[G0]
   split<;>omega
 have hcall:=Wq hm hf hname hb hy hlot
 simp only[Array.toArray_toList]at hcall
 refine hcall.mono fun e W' ⟨v,he,G',vs,nt,hp⟩=>⟨v,he,?_⟩
 have hlen1:=hp.len
 simp only[ah0]at hlen1
 obtain⟨u,rfl⟩:=List.length_eq_one_iff.1 hlen1
 have hv:v= .bool true:=by
  rw[hp.val]
  obtain⟨cs,h1,h2⟩:=hp.res 0
  have h2':cs=[.bool y.1]:=h2
  rw[hy1]at h2'
  subst h2'
  exact h1
 subst hv
 have hh:∀b,b<W.heap.size→W'.heap[b]?=W.heap[b]?:=fun b hb=>(hp.frame b hb (by simp only[G0];split<;>omega)).2
 have hsame:∀z∈p,W.sameAt W' z:=by
  intro z hz
  have hzb:=hlt z (by simpa using hz)
  cases z with
  |cell b off=>
   show W'.cell? ⟨b,off,none⟩=W.cell? ⟨b,off,none⟩
   unfold World.cell?
   simp only
   rw[hh b hzb]
  |map b=>exact hh b hzb
 have hkb:W.keptBut W' (·∈p++[]):=by
  refine⟨hp.os,hp.output,fun i hi=> ?_⟩
  rw[hh i hi]
  cases W.heap[i]? with
  |none=>rfl
  |some ob=>cases ob<;>simp
 have hsp:=hspec (ds++[]) (by simpa using hdl)
 refine ZI hW' (fun b sp hd=> ?_) (fun sp hsp'=> ?_) hvars (by rw[hsp]) hkb hh (ok_one hres rfl (okWide_bool_mk hub _))
 ·rw[hsp,hres]
  exact trodAll_cons_mk (shut_bool hub _) trodAll_mk0
 ·rw[hsp,aik,aik]
  exact DY hl (fun t ht=>by
   have:=ahn.1 hr t ht
   simpa using this) hA' hsame (fun z hz=>hsp' z (by simpa using hz))
end
end Vg
namespace Vg
open Go
structure ma where
 τ:Ty
 F:τ.den→Int→Option (Int×τ.den)
structure ve where
 t:Nat
 e:Ty
 l:List e.den
def nf:Sh→Option (List Nat)
 | .leaf=>some []
 | .sl (.row t hs nd)=>if nd&&hs.all (·==t)then some [t]else none
 | .sl (.sha [])=>some []
 | .sl _=>none
 | .pair a b=>match nf a,nf b with
   |some x,some y=>if x.all (!y.contains ·)then some (x++y)else none
   |_,_=>none
def rowsOf:(τ:Ty)→τ.den→Sh→List ve
 | .sl e,l,.sl (.row t _ _)=>[⟨t,e,l⟩]
 | .pair a b,x,.pair s1 s2=>rowsOf a x.1 s1++rowsOf b x.2 s2
 |_,_,_=>[]
def jy (L:List ve):(τ:Ty)→τ.den→Sh→τ.den×Sh
 | .sl e',l,.sl (.row u hs nd)=>match L.find? (·.t==u)with
   |some p=>if h:p.e=e' then(cast (congrArg (fun τ=>List (Ty.den τ)) h) p.l,.sl (.row u [u] true))else(l,.sl .dead)
   |none=>match meets hs (L.map (·.t))with|true=>(l,.sl .dead)|false=>(l,.sl (.row u hs nd))
 | .sl _,l,.sl (.sha hs)=>match meets hs (L.map (·.t))with|true=>(l,.sl .dead)|false=>(l,.sl (.sha hs))
 | .sl _,l,.sl (.nst _ _ _ _ _ _)=>(l,.sl .dead)
 | .pair a b,x,.pair s1 s2=>(((jy L a x.1 s1).1,(jy L b x.2 s2).1),.pair (jy L a x.1 s1).2 (jy L b x.2 s2).2)
 |_,x,sh=>(x,sh)
def TV.mark (L:List ve) (v:TV):TV:=⟨v.τ,(jy L v.τ v.x v.sh).1,(jy L v.τ v.x v.sh).2⟩
def SV.mark (L:List ve):SV→SV
 | .d v=> .d (v.mark L)
 | .box b v=> .box b (v.mark L)
 | .tup l=> .tup (l.map (TV.mark L))
 | .g _ _ _ _=> .no
 | .rdp _ _=> .no
 |v=>v
def Env.mark (E:Env) (L:List ve):Env:={E with s:=E.s.map (SV.mark L)}
section
variable {P:Program} {C:Cx} {w0:World} {c0:C0} {U:Nat→Prop} {E:Env} {a:Act} {w w':World} {G G':Gh} {L:List ve}
structure Marks (U:Nat→Prop) (G G':Gh) (w w':World) (L:List ve):Prop where
 good:∀p∈L,4≤p.t∧Good U G p.t
 hdr:G'.hdr=G.hdr
 bx:G'.bx=G.bx
 keep:∀b,0<G.col b→G.col b∉L.map (·.t)→w'.heap[b]?=w.heap[b]?∧G'.col b=G.col b
 row:∀p∈L,bJ w' G' p.e p.l (G.hdr p.t) (.row p.t [p.t] true)
theorem WY {u:Nat} (h:L.find? (·.t==u)=none):u∉L.map (·.t):=by
 intro hin
 rw[ahx]at hin
 obtain⟨p,hp,rfl⟩:=hin
 rw[List.find?_eq_none]at h
 exact h p hp (by simp)
theorem Marks.agree (hM:Marks U G G' w w' L) {S T:List Nat} (h:∀c∈S,0<c∧c∉L.map (·.t)):yL S T w w' G G':=
 ⟨fun b hb=>(hM.keep b (h _ hb).1 (h _ hb).2).1,fun b hb=>(hM.keep b (h _ hb).1 (h _ hb).2).2,fun t _=>by rw[hM.hdr]⟩
theorem uO (hM:Marks U G G' w w' L):∀ {τ:Ty} {x:τ.den} {sh:Sh} {cs:List Value},bg w G τ x sh cs→(∀c∈sh.aE,0<c)→
 bg w' G' τ (jy L τ x sh).1 (jy L τ x sh).2 cs
 | .int _,_,.leaf,_,h,_=>h
 | .bool,_,.leaf,_,h,_=>h
 | .str,_,.leaf,_,h,_=>h
 | .sl e',l,.sl (.row u hs nd),cs,h,hp=>by
   obtain⟨v,rfl,hr⟩:=h
   simp only[jy]
   split
   ·rename_i p hfind
    have hpu:p.t=u:=by have:=List.find?_some hfind;simpa using this
    have hin:=List.mem_of_find?_eq_some hfind
    split
    ·rename_i he
     obtain⟨pt,pe,pl⟩:=p
     simp only at hpu he
     subst hpu he
     refine⟨v,rfl,?_⟩
     have:v=G.hdr pt:=hr.2.1.symm
     rw[this]
     exact hM.row _ hin
    ·exact⟨v,rfl,hr.one⟩
   ·rename_i hnone
    have hu:=WY hnone
    split
    ·exact⟨v,rfl,hr.one⟩
    ·rename_i hm
     refine⟨v,rfl,bJ.agree (hM.agree (fun c hc=>⟨hp c hc,?_⟩)) hr⟩
     rcases aho.1 hc with rfl|hc
     ·exact hu
     ·exact pP hm c hc
 | .sl e',l,.sl (.sha hs),cs,h,hp=>by
   obtain⟨v,rfl,hr⟩:=h
   simp only[jy]
   split
   ·exact⟨v,rfl,hr.one⟩
   ·rename_i hm
    exact⟨v,rfl,bJ.agree (hM.agree (fun c hc=>⟨hp c hc,pP hm c hc⟩)) hr⟩
 | .sl e',l,.sl (.nst _ _ _ _ _ _),cs,h,hp=>by
   obtain⟨v,rfl,hr⟩:=h
   exact⟨v,rfl,hr.one⟩
 | .sl e',l,.sl .dead,cs,h,hp=>by
   obtain⟨v,rfl,hr⟩:=h
   exact⟨v,rfl,hr⟩
 | .pair a b',p,.pair s1 s2,cs,h,hp=>by
   obtain⟨c1,c2,rfl,h1,h2⟩:=h
   exact⟨c1,c2,rfl,uO hM h1 (fun c h=>hp c (by simp[Sh.aE,h])),uO hM h2 (fun c h=>hp c (by simp[Sh.aE,h]))⟩
 | .int _,_,.sl _,_,h,_| .int _,_,.pair _ _,_,h,_| .bool,_,.sl _,_,h,_| .bool,_,.pair _ _,_,h,_
 | .str,_,.sl _,_,h,_| .str,_,.pair _ _,_,h,_| .sl _,_,.leaf,_,h,_| .sl _,_,.pair _ _,_,h,_
 | .pair _ _,_,.leaf,_,h,_| .pair _ _,_,.sl _,_,h,_=>h.elim
theorem pT:∀ {τ:Ty} {x:τ.den} {sh:Sh},∀c∈(jy L τ x sh).2.aE,c∈sh.aE
 | .sl e',l,.sl (.row u hs nd),c,h=>by
   simp only[jy]at h
   split at h
   ·split at h
    ·simp only[Sh.aE,M.aE,aho,ahL,or_false,or_self]at h
     subst h;simp[Sh.aE,M.aE]
    ·simp[Sh.aE,M.aE]at h
   ·split at h
    ·simp[Sh.aE,M.aE]at h
    ·exact h
 | .sl _,_,.sl (.sha hs),c,h=>by
   simp only[jy]at h
   split at h
   ·simp[Sh.aE,M.aE]at h
   ·exact h
 | .pair a b',p,.pair s1 s2,c,h=>by
   simp only[jy,Sh.aE,ahk]at h⊢
   rcases h with h|h
   ·exact .inl (pT c h)
   ·exact .inr (pT c h)
 | .sl _,_,.sl (.nst _ _ _ _ _ _),c,h=>by simp[jy,Sh.aE,M.aE]at h
 | .sl _,_,.leaf,_,h| .sl _,_,.pair _ _,_,h| .sl _,_,.sl .dead,_,h
 | .int _,_,.leaf,_,h| .int _,_,.sl _,_,h| .int _,_,.pair _ _,_,h| .bool,_,.leaf,_,h| .bool,_,.sl _,_,h| .bool,_,.pair _ _,_,h
 | .str,_,.leaf,_,h| .str,_,.sl _,_,h| .str,_,.pair _ _,_,h| .pair _ _,_,.leaf,_,h| .pair _ _,_,.sl _,_,h=>h
theorem bU.mark (hM:Marks U G G' w w' L):∀ {s:SV} {mv:Value},bU w G s mv→bf U G s→bU w' G' (s.mark L) mv
 | .no,_,_,_=>trivial
 | .d v,mv,⟨cs,h1,h2⟩,hm=>⟨cs,h1,uO hM h2 (fun c h=>(hm.1 c h).1)⟩
 | .box t v,mv,⟨bk,c,el,h1,h2,h3,h4,h5,h6⟩,hm=>by
   have ht:=hm.2.1 t (by simp[SV.bt])
   have hn:t∉L.map (·.t):=by
    intro hin
    rw[ahx]at hin
    obtain⟨p,hp,e⟩:=hin
    have:=(hM.good p hp).2.2.2
    rw[e,ht.2.2]at this;cases this
   have hk:=hM.keep bk (by rw[h4];exact ht.1) (by rw[h4];exact hn)
   exact⟨bk,c,el,h1,h2,by rw[hM.hdr];exact h3,hk.2.trans h4,hk.1.trans h5,uO hM h6 (fun c h=>(hm.1 c h).1)⟩
 | .ptr t o p τ,mv,⟨bk,h1,h2,h3⟩,_=>⟨bk,h1,by rw[hM.hdr];exact h2,h3⟩
 | .ept t e' i o p τ,mv,⟨b,off,n,cap,h1,h2,h3⟩,_=>⟨b,off,n,cap,h1,by rw[hM.hdr];exact h2,h3⟩
 | .rdp hs v,mv,_,_=>trivial
 | .tup l,mv,⟨vs,h1,h2,h3⟩,hm=>by
   refine⟨vs,h1,by simp[h2],fun i v hi=> ?_⟩
   rw[aiw,ahO]at hi
   obtain⟨v',hi',rfl⟩:=hi
   obtain⟨u,cs,hu,hmv,hv⟩:=h3 i v' hi'
   exact⟨u,cs,hu,hmv,uO hM hv (fun c hcc=>(hm.1 c (ahG.2 ⟨v',ah5 hi',hcc⟩)).1)⟩
 | .g j w2 act v,mv,_,_=>trivial
theorem bf.mark (hM:Marks U G G' w w' L):∀ {s:SV},bf U G s→bf U G' (s.mark L)
 | .no,h| .ptr ..,h| .ept ..,h=>by simpa only[bf,SV.mark,hM.bx]using h
 | .d v,hm=>by rw[SV.mark,bf,hM.bx];exact bf.d fun c hc=>hm.1 c (pT c hc)
 | .box t v,hm=>by
   simp only[SV.mark,bf,hM.bx]
   exact⟨fun c hc=>hm.1 c (pT c hc),hm.2.1,hm.2.2⟩
 | .rdp hs v,hm=>by simp[bf,SV.mark,SV.sc,SV.bt,SV.rt]
 | .tup l,hm=>by
   refine⟨fun c hc=> ?_,by simp[SV.mark,SV.bt],by simp[SV.mark,SV.rt]⟩
   simp only[SV.mark,SV.sc,aiC,ahG]at hc
   obtain⟨v,hv,hc⟩:=hc
   rw[hM.bx]
   exact hm.1 c (ahG.2 ⟨v,hv,pT c hc⟩)
 | .g j w2 act v,hm=>by simp[bf,SV.mark,SV.sc,SV.bt,SV.rt]
theorem U5 {s:SV} {t:Nat} {u:TV} (h:s.mark L= .box t u):∃u',s= .box t u':=by
 cases s with
 |box t' v=>simp only[SV.mark,SV.box.injEq]at h;exact⟨v,by rw[h.1]⟩
 |_=>simp[SV.mark]at h
theorem adq {s:SV} {j:Nat} {w act:Bool} {v:SV}:s.mark L≠ .g j w act v:=by
 cases s<;>simp[SV.mark]
theorem Inv.mark (hI:Inv w0 c0 U E a w G) (hM:Marks U G G' w w' L) (colU:∀b,0<G'.col b→U (G'.col b)) (lt:∀b,0<G'.col b→b<w'.heap.size)
 (fresh:∀b,4≤G'.col b→∃c el,w'.heap[b]?=some (.cells c el (0,0)))
 (frame:∀b,b<w0.heap.size→c0.col b<4→G'.col b=c0.col b∧w'.heap[b]?=w0.heap[b]?)
 (one:∀b,G'.col b=1∨G'.col b=3→G.col b=G'.col b) (size:w.heap.size≤w'.heap.size)
 (os:w'.os=w.os) (tape:w'.tape=w.tape) (output:w'.output=w.output):Inv w0 c0 U (E.mark L) a w' G':=by
 have hg:∀s,(E.mark L).s.getD s .no=(E.s.getD s .no).mark L:=fun s=>getD_map (T:=SV.mark L) rfl s
 have hm:∀s,bf U G' ((E.s.getD s .no).mark L):=fun s=>bf.mark hM (hI.ow s)
 refine⟨by simpa[Env.mark]using hI.len,fun s=> ?_,fun s=> ?_,fun s=> ?_,fun s=> ?_,fun s s' t v v' h1 h2=> ?_,colU,lt,fresh,frame,fun b hb=>by have h:=hI.one b (by rw[one b hb];exact hb);rw[one b hb]at h;exact h,Nat.le_trans hI.size size,os.trans hI.os,tape.trans hI.tape,output.trans hI.output,hI.defers,?_,fun hk t v e=>⟨(hI.hk hk t v e).1,by rw[hM.hdr];exact(hI.hk hk t v e).2⟩⟩
 ·rw[hg];exact bU.mark hM (hI.slots s) (hI.ow s)
 ·rw[hg];exact(hm s).1
 ·rw[hg];exact(hm s).2.1
 ·rw[hg];exact(hm s).2.2
 ·rw[hg]at h1 h2
  obtain⟨u,hu⟩:=U5 h1
  obtain⟨u',hu'⟩:=U5 h2
  exact hI.uni s s' t u u' hu hu'
 ·rw[hM.bx];exact hI.two
end
def Us (w:World) (b:Nat):Prop:=∃c el,w.heap[b]?=some (.cells c el (0,0))
structure Yo (w w':World) (τ:Ty) (y:τ.den) (cs:List Value) (B B':List Nat):Prop where
 rep:aQ w' τ y cs B'
 nd:B'.Nodup
 inn:∀b∈B',b∈B∨w.heap.size≤b
 fresh:∀b∈B',Us w' b
 frame:∀b,b<w.heap.size→b∉B→w'.heap[b]?=w.heap[b]?
 size:w.heap.size≤w'.heap.size
 os:w'.os=w.os
 tape:w'.tape=w.tape
 output:w'.output=w.output
def Gb (P:Program) (f:FuncId) (m:ma):Prop:=
 ∀(w:World) (x:m.τ.den) (n k:Int) (y:m.τ.den) (cs:List Value) (B:List Nat),m.F x n=some (k,y)→aQ w m.τ x cs B→B.Nodup→(∀b∈B,Us w b)→
  sL P f #[cw m.τ cs,.int .i64 n] w (fun mv w'=>mv= .int .i64 k∧∃B',Yo w w' m.τ y cs B B')
section
variable {P:Program} {C:Cx} {w0:World} {c0:C0} {U:Nat→Prop} {E:Env} {a:Act} {w w':World} {G G':Gh} {L:List ve}
theorem Inv.aar (hI:Inv w0 c0 U E a w G) (hgood:∀p∈L,4≤p.t∧Good U G p.t) {B B2:List Nat} (f:Nat→Nat)
 (hB:∀b∈B,G.col b∈L.map (·.t)) (hB2:∀b∈B2,(G.col b∈L.map (·.t)∨w.heap.size≤b)∧f b∈L.map (·.t)∧Us w' b)
 (hframe:∀b,b<w.heap.size→b∉B→w'.heap[b]?=w.heap[b]?) (size:w.heap.size≤w'.heap.size)
 (os:w'.os=w.os) (tape:w'.tape=w.tape) (output:w'.output=w.output)
 (hrow:∀G':Gh,G'.hdr=G.hdr→(∀b∈B2,G'.col b=f b)→∀p∈L,bJ w' G' p.e p.l (G.hdr p.t) (.row p.t [p.t] true)):
 ∃G',Inv w0 c0 U (E.mark L) a w' G'∧G'.hdr=G.hdr∧G'.bx=G.bx:=by
 have h3:∀t∈L.map (·.t),4≤t∧Good U G t:=by
  intro t ht
  rw[ahx]at ht
  obtain⟨p,hp,rfl⟩:=ht
  exact hgood p hp
 let G':Gh:=⟨fun b=>if b∈B2 then f b else if G.col b∈L.map (·.t)then 0 else G.col b,G.hdr,G.bx⟩
 have hin:∀b∈B2,G'.col b=f b:=fun b hb=>by simp[G',hb]
 have hc:∀b,(b∈B2∧G'.col b=f b)∨(b∉B2∧G.col b∈L.map (·.t)∧G'.col b=0)∨(b∉B2∧G.col b∉L.map (·.t)∧G'.col b=G.col b):=by
  intro b
  by_cases h1:b∈B2
  ·exact .inl ⟨h1,hin b h1⟩
  ·by_cases h2:G.col b∈L.map (·.t)
   ·exact .inr (.inl ⟨h1,h2,by simp only[G',h1,h2,if_true,if_false]⟩)
   ·exact .inr (.inr ⟨h1,h2,by simp only[G',h1,h2,if_false]⟩)
 have hnot:∀b,b<w.heap.size→G.col b∉L.map (·.t)→b∉B2∧b∉B:=by
  intro b hb hn
  refine⟨fun h=> ?_,fun h=>hn (hB b h)⟩
  rcases(hB2 b h).1 with h|h
  ·exact hn h
  ·omega
 refine⟨G',hI.mark (G':=G') ⟨hgood,rfl,rfl,fun b hb hn=> ?_,hrow G' rfl hin⟩ (fun b hb=> ?_) (fun b hb=> ?_) (fun b hb=> ?_) (fun b hb hcb=> ?_) (fun b hb=> ?_) size os tape output,rfl,rfl⟩
 ·obtain⟨q1,q2⟩:=hnot b (hI.lt b hb) hn
  refine⟨hframe b (hI.lt b hb) q2,?_⟩
  rcases hc b with⟨h,_⟩|⟨_,h,_⟩|⟨_,_,h⟩
  ·exact absurd h q1
  ·exact absurd h hn
  ·exact h
 ·rcases hc b with⟨h,e⟩|⟨_,h,e⟩|⟨_,_,e⟩
  ·rw[e];exact(h3 _ (hB2 b h).2.1).2.2.1
  ·omega
  ·rw[e]at hb⊢;exact hI.colU b hb
 ·rcases hc b with⟨h,e⟩|⟨_,h,e⟩|⟨_,_,e⟩
  ·obtain⟨c,el,hh⟩:=(hB2 b h).2.2
   exact lt_of_block hh
  ·omega
  ·rw[e]at hb;exact aiv (hI.lt b hb) size
 ·rcases hc b with⟨h,e⟩|⟨_,h,e⟩|⟨_,hn,e⟩
  ·exact(hB2 b h).2.2
  ·omega
  ·rw[e]at hb
   have hl:=hI.lt b (by omega)
   rw[hframe b hl (hnot b hl hn).2]
   exact hI.fresh b hb
 ·have hf:=hI.frame b hb hcb
  have hl:b<w.heap.size:=aiv hb hI.size
  have hn:G.col b∉L.map (·.t):=fun h=>by have:=(h3 _ h).1;omega
  obtain⟨q1,q2⟩:=hnot b hl hn
  refine⟨?_,by rw[hframe b hl q2];exact hf.2⟩
  rcases hc b with⟨h,_⟩|⟨_,h,_⟩|⟨_,_,h⟩
  ·exact absurd h q1
  ·exact absurd h hn
  ·rw[h];exact hf.1
 ·rcases hc b with⟨h,e⟩|⟨_,h,e⟩|⟨_,hn,e⟩
  ·have:=(h3 _ (hB2 b h).2.1).1;omega
  ·omega
  ·exact e.symm
theorem I0:∀ {τ:Ty} {x:τ.den} {sh:Sh} {cs:List Value} {ts:List Nat},bg w G τ x sh cs→nf sh=some ts→sh.own=some ts
 | .int _,_,.leaf,_,ts,_,h| .bool,_,.leaf,_,ts,_,h| .str,_,.leaf,_,ts,_,h=>h
 | .sl e,l,.sl m,cs,ts,h,ho=>by
   obtain⟨v,rfl,hr⟩:=h
   cases m with
   |row t hs nd=>
    have h3:=hr.1
    simp only[nf]at ho
    split at ho
    ·rename_i hc
     simp only[ahl,ahn,beq_iff_eq]at hc
     cases ho
     have hf:hs.filter (·≠t)=[]:=by
      rw[List.filter_eq_nil_iff]
      intro c hcc
      simp[hc.2 c hcc]
     have ha:hs.all (4≤·)=true:=by
      rw[ahn]
      intro c hcc
      simp[hc.2 c hcc,h3]
     simp only[Sh.own,M.own,hc.1,ha,hf,Bool.and_self,if_true]
    ·cases ho
   |sha hs=>
    cases hs with
    |nil=>exact ho
    |cons=>simp[nf]at ho
   |nst=>simp[nf]at ho
   |dead=>simp[nf]at ho
 | .pair a b,p,.pair s1 s2,cs,ts,h,ho=>by
   obtain⟨c1,c2,rfl,h1,h2⟩:=h
   simp only[nf]at ho
   split at ho
   ·rename_i x y hx hy
    simp only[Sh.own,I0 h1 hx,I0 h2 hy]
    exact ho
   ·cases ho
 | .int _,_,.sl _,_,_,h,_| .int _,_,.pair _ _,_,_,h,_| .bool,_,.sl _,_,_,h,_| .bool,_,.pair _ _,_,_,h,_
 | .str,_,.sl _,_,_,h,_| .str,_,.pair _ _,_,_,h,_| .sl _,_,.leaf,_,_,h,_| .sl _,_,.pair _ _,_,_,h,_
 | .pair _ _,_,.leaf,_,_,h,_| .pair _ _,_,.sl _,_,_,h,_=>h.elim
theorem OB:∀ {τ:Ty} {x y:τ.den} {sh:Sh} {cs:List Value} {ts:List Nat} {B':List Nat},bg w G τ x sh cs→nf sh=some ts→aQ w' τ y cs B'→B'.Nodup→
 (rowsOf τ y sh).map (·.t)=ts∧(∀t∈ts,4≤t)∧∃f:Nat→Nat,(∀b∈B',f b∈ts)∧∀G':Gh,G'.hdr=G.hdr→(∀b∈B',G'.col b=f b)→∀p∈rowsOf τ y sh,bJ w' G' p.e p.l (G.hdr p.t) (.row p.t [p.t] true)
 | .int _,_,_,.leaf,_,ts,B',_,h,hr,_=>by
   cases h;cases hr.2;exact⟨rfl,by simp,fun _=>0,by simp,by simp[rowsOf]⟩
 | .bool,_,_,.leaf,_,ts,B',_,h,hr,_=>by
   cases h;cases hr.2;exact⟨rfl,by simp,fun _=>0,by simp,by simp[rowsOf]⟩
 | .str,_,_,.leaf,_,ts,B',_,h,hr,_=>by
   cases h;cases hr.2;exact⟨rfl,by simp,fun _=>0,by simp,by simp[rowsOf]⟩
 | .sl e,l,y,.sl m,cs,ts,B',h,ho,hr,hn=>by
   obtain⟨v,rfl,hrow⟩:=h
   obtain⟨v',hv',hS⟩:=hr
   cases hv'
   cases m with
   |row t hs nd=>
    simp only[nf]at ho
    split at ho
    ·cases ho
     refine⟨rfl,by simpa using hrow.1,fun _=>t,by simp,fun G' h1 h2 p hp=> ?_⟩
     simp only[rowsOf,ahA]at hp
     subst hp
     refine⟨hrow.1,by rw[h1],B',by rw[hrow.2.1];exact hS,?_⟩
     rintro b Bs rfl
     rw[ahD]at hn
     exact⟨h2 b (by simp),hn.1,fun z hz=>by simp[h2 z (by simp[hz])],fun _=>hn.2⟩
    ·cases ho
   |sha hs=>
    cases hs with
    |nil=>
     cases ho
     have hv:=hrow.2 rfl
     have hB:B'=[]:=by
      rcases hS with⟨_,_,hb⟩|⟨b,off,cap,c,el,fz,Bs,hvv,_⟩
      ·exact hb
      ·rw[hv]at hvv;cases hvv
     subst hB
     exact⟨rfl,by simp,fun _=>0,by simp,by simp[rowsOf]⟩
    |cons=>simp[nf]at ho
   |nst=>simp[nf]at ho
   |dead=>simp[nf]at ho
 | .pair a b,p,y,.pair s1 s2,cs,ts,B',h,ho,hr,hn=>by
   obtain⟨c1,c2,rfl,h1,h2⟩:=h
   obtain⟨d1,d2,B1,B2,hcs,rfl,r1,r2⟩:=hr
   have hl1:=bg.len h1
   have hl2:=aQ.len r1
   obtain⟨e1,e2⟩:=List.append_inj hcs (by omega)
   subst e1 e2
   simp only[nf]at ho
   split at ho
   ·rename_i u v hu hv
    split at ho
    ·cases ho
     rw[ahs]at hn
     obtain⟨n1,n2,n3⟩:=hn
     obtain⟨i1,i3,f1,j1,k1⟩:=OB h1 hu r1 n1
     obtain⟨i2,i4,f2,j2,k2⟩:=OB h2 hv r2 n2
     refine⟨by simp[rowsOf,i1,i2],fun t ht=>(ahk.1 ht).elim (i3 t) (i4 t),fun z=>if z∈B1 then f1 z else f2 z,fun z hz=> ?_,fun G' g1 g2 q hq=> ?_⟩
     ·by_cases hz1:z∈B1
      ·simp only[hz1,if_true];exact ahT _ (j1 z hz1)
      ·simp only[hz1,if_false]
       exact ahI _ (j2 z ((ahk.1 hz).resolve_left hz1))
     ·simp only[rowsOf,ahk]at hq
      rcases hq with hq|hq
      ·exact k1 G' g1 (fun z hz=>by rw[g2 z (ahT _ hz)];simp[hz]) q hq
      ·exact k2 G' g1 (fun z hz=>by
        rw[g2 z (ahI _ hz)]
        have:z∉B1:=fun h=>n3 z h z hz rfl
        simp[this]) q hq
    ·cases ho
   ·cases ho
 | .int _,_,_,.sl _,_,_,_,h,_,_,_| .int _,_,_,.pair _ _,_,_,_,h,_,_,_| .bool,_,_,.sl _,_,_,_,h,_,_,_| .bool,_,_,.pair _ _,_,_,_,h,_,_,_
 | .str,_,_,.sl _,_,_,_,h,_,_,_| .str,_,_,.pair _ _,_,_,_,h,_,_,_| .sl _,_,_,.leaf,_,_,_,h,_,_,_| .sl _,_,_,.pair _ _,_,_,_,h,_,_,_
 | .pair _ _,_,_,.leaf,_,_,_,h,_,_,_| .pair _ _,_,_,.sl _,_,_,_,h,_,_,_=>h.elim
theorem aat (hI:Inv w0 c0 U E a w G) {fid:FuncId} {m:ma} (hM:Gb P fid m) {x y:m.τ.den} {sh:Sh} {cs:List Value} {ts:List Nat} (hv:bg w G m.τ x sh cs) (hg:∀c∈sh.aE,Good U G c) (ho:nf sh=some ts)
 {n k:Int} (hF:m.F x n=some (k,y)):
 sL P fid #[cw m.τ cs,.int .i64 n] w (fun mv w'=>mv=Value.int .i64 k∧∃G',Inv w0 c0 U (E.mark (rowsOf m.τ y sh)) a w' G'):=by
 have hown:=I0 hv ho
 obtain⟨B,hB,hn,hc⟩:=hv.own hown
 have h3:=Sh.jT hv hown
 have:=hM w x n k y cs B hF hB hn (fun b hb=>hI.fresh b (h3 _ (hc b hb)))
 unfold sL at this⊢
 have key:∀(mv:Value) (w':World),(mv= .int .i64 k∧∃B',Yo w w' m.τ y cs B B')→(mv= .int .i64 k∧∃G',Inv w0 c0 U (E.mark (rowsOf m.τ y sh)) a w' G'):=by
  rintro mv w' ⟨h1,B',hp⟩
  refine⟨h1,?_⟩
  obtain⟨i1,i2,f,j1,j2⟩:=OB hv ho hp.rep hp.nd
  obtain⟨G',q,_⟩:=hI.aar (L:=rowsOf m.τ y sh) (B:=B) (B2:=B') (w':=w') (fun p hp=>by
   have hin:p.t∈ts:=by rw[←i1];exact List.mem_map_of_mem hp
   exact⟨i2 _ hin,hg _ (Sh.il hown _ hin)⟩) f (fun b hb=>by rw[i1];exact hc b hb)
   (fun b hb=>⟨(hp.inn b hb).imp (fun h=>by rw[i1];exact hc b h) id,by rw[i1];exact j1 b hb,hp.fresh b hb⟩) hp.frame hp.size hp.os hp.tape hp.output j2
  exact⟨G',q⟩
 split at this
 ·exact Calls.mono this (fun e w' ⟨v,h1,h2⟩=>⟨v,h1,key v w' h2⟩)
 ·exact key _ _ this
 ·exact this
theorem aQ.part:∀ {p:List Bool} {τ:Ty} {x:τ.den} {sh:Sh} {cs:List Value} {B:List Nat} {r:TV},eA τ x sh p=some r→aQ w τ x cs B→
 ∃Ba Bo Bb,B=Ba++Bo++Bb∧aQ w r.τ r.x ((cs.drop (τ.off p)).take r.τ.sz) Bo∧τ.off p+r.τ.sz≤τ.sz∧
  ∀(w':World) (v:r.τ.den) (sv:Sh) (Bv:List Nat) (y:τ.den) (s:Sh),(∀b∈Ba++Bb,w'.heap[b]?=w.heap[b]?)→aQ w' r.τ v ((cs.drop (τ.off p)).take r.τ.sz) Bv→
   eL τ x sh p ⟨r.τ,v,sv⟩=some (y,s)→aQ w' τ y cs (Ba++Bv++Bb)
 | [],τ,x,sh,cs,B,r,hr,h=>by
   have:r=⟨τ,x,sh⟩:=by cases τ<;>simp_all[eA]
   subst this
   have hl:=aQ.len h
   have h0:τ.off []=0:=by cases τ<;>rfl
   have hcs:(cs.drop 0).take τ.sz=cs:=by rw[aiN,ahZ (by omega)]
   refine⟨[],B,[],by simp,by rw[h0,hcs];exact h,by rw[h0];simp,fun w' v sv Bv y s _ hv hp=> ?_⟩
   have hp':eU ⟨τ,v,sv⟩ τ=some y:=by
    cases τ<;>(simp only[eL]at hp;split at hp<;>simp_all)
   have e:=cV hp'
   simp only[TV.mk.injEq,heq_eq_eq,true_and]at e
   rw[h0,hcs]at hv
   rw[←e.1]
   simpa using hv
 |false::p,.pair a b,x,.pair s1 s2,cs,B,r,hr,h=>by
  obtain⟨c1,c2,B1,B2,rfl,rfl,h1,h2⟩:=h
  obtain⟨Ba,Bo,Bb,rfl,hq,hle,hk⟩:=aQ.part (p:=p) (by simpa[eA]using hr) h1
  have hl:=aQ.len h1
  have e:((c1++c2).drop (a.off p)).take r.τ.sz=(c1.drop (a.off p)).take r.τ.sz:=by
   rw[ah6 (by omega),List.take_append_of_le_length (by simp;omega)]
  refine⟨Ba,Bo,Bb++B2,by simp,by simp only[Ty.off];rw[e];exact hq,by simp only[Ty.off,Ty.sz];omega,fun w' v sv Bv y s hw hv hp=> ?_⟩
  simp only[Ty.off]at hv
  rw[e]at hv
  simp only[eL]at hp
  split at hp
  ·rename_i y1 s1' hq'
   cases hp
   have:=hk w' v sv Bv y1 s1' (fun b hb=>hw b (by simp only[ahk]at hb⊢;rcases hb with hb|hb<;>simp[hb])) hv hq'
   exact⟨c1,c2,_,B2,rfl,by simp,this,aQ.mono (fun b hb=>hw b (by simp[hb])) h2⟩
  ·cases hp
 |true::p,.pair a b,x,.pair s1 s2,cs,B,r,hr,h=>by
  obtain⟨c1,c2,B1,B2,rfl,rfl,h1,h2⟩:=h
  obtain⟨Ba,Bo,Bb,rfl,hq,hle,hk⟩:=aQ.part (p:=p) (by simpa[eA]using hr) h2
  have hl:=aQ.len h1
  have e:((c1++c2).drop (a.sz+b.off p)).take r.τ.sz=(c2.drop (b.off p)).take r.τ.sz:=by
   rw[←hl,List.drop_append,List.drop_of_length_le (by omega)]
   simp
  refine⟨B1++Ba,Bo,Bb,by simp,by simp only[Ty.off];rw[e];exact hq,by simp only[Ty.off,Ty.sz];omega,fun w' v sv Bv y s hw hv hp=> ?_⟩
  simp only[Ty.off]at hv
  rw[e]at hv
  simp only[eL]at hp
  split at hp
  ·rename_i y1 s1' hq'
   cases hp
   have:=hk w' v sv Bv y1 s1' (fun b hb=>hw b (by simp only[ahk]at hb⊢;rcases hb with hb|hb<;>simp[hb])) hv hq'
   exact⟨c1,c2,B1,_,rfl,by simp,aQ.mono (fun b hb=>hw b (by simp[hb])) h1,this⟩
  ·cases hp
 |b::p,.int _,_,_,_,_,_,hr,_|b::p,.bool,_,_,_,_,_,hr,_|b::p,.str,_,_,_,_,_,hr,_|b::p,.sl _,_,_,_,_,_,hr,_=>by simp[eA]at hr
 |false::p,.pair _ _,_,.leaf,_,_,_,hr,_|false::p,.pair _ _,_,.sl _,_,_,_,hr,_=>by simp[eA]at hr
 |true::p,.pair _ _,_,.leaf,_,_,_,hr,_|true::p,.pair _ _,_,.sl _,_,_,_,hr,_=>by simp[eA]at hr
def cellsOf (w:World) (b o n:Nat):List Value:=match w.heap[b]? with|some (.cells c _ _)=>(c.toList.drop o).take n|_=>[]
theorem acO (hI:Inv w0 c0 U E a w G) {fid:FuncId} {m:ma} (hM:Gb P fid m) {b:Nat} {e:Ty} {l:List e.den} {hs:List Nat} (hrow:E.rd.row b e=some (l,hs,true)) (hhs:hs.all (·==b)=true)
 {bk of n cap:Nat} (hb:G.hdr b= .slice (some ⟨bk,of,none⟩) n cap) {i:Nat} (hi:i<n) {sh0:Sh} {path:List Bool} {r:TV} (hsub:eA e (l.getD i e.aa) sh0 path=some r) {x y:m.τ.den} (hx:eU r m.τ=some x)
 {z k:Int} (hF:m.F x z=some (k,y)) {sv:Sh} {ye:e.den} {se:Sh} (hput:eL e (l.getD i e.aa) sh0 path ⟨m.τ,y,sv⟩=some (ye,se)):
 (∃c el fz,w.heap[bk]?=some (.cells c el fz)∧of+i*e.sz+e.off path+m.τ.sz≤c.size)∧
 sL P fid #[cw m.τ (cellsOf w bk (of+i*e.sz+e.off path) m.τ.sz),.int .i64 z] w (fun mv w'=>mv=Value.int .i64 k∧∃G',Inv w0 c0 U (E.mark [⟨b,e,l.set i ye⟩]) a w' G'):=by
 obtain⟨⟨vh,hvh⟩,hgood⟩:=hI.dx hrow
 have hvh0:vh=G.hdr b:=hvh.2.1.symm
 obtain⟨hb3,hh,B,hB,hc⟩:=hvh
 rw[hvh0,hb]at hB
 have hall:∀h∈hs,h=b:=by
  rw[ahn]at hhs
  intro h hh;simpa using hhs h hh
 rcases hB with⟨⟨ao,hB⟩,hl0,_⟩|⟨bk',of',cap',c,el,fz,Bs,hvv',hcap,hheap,hsz,rfl,hl⟩
 ·cases hB;omega
 ·simp only[Value.slice.injEq,ahm,Addr.mk.injEq,and_true]at hvv'
  obtain⟨⟨rfl,rfl⟩,rfl,rfl⟩:=hvv'
  obtain⟨j1,j2,j3,j4⟩:=hc bk Bs rfl
  have hnd:=j4 rfl
  have hget:l[i]?=some (l.getD i e.aa):=by
   rw[ahp,aht hi];rfl
  obtain⟨B1,Bx,B2,rfl,hx1,hx2,hx3⟩:=aT.get (sz:=e.sz) (fun x c B h=>aQ.len h) hl hget
  obtain⟨Ba,Bo,Bb,rfl,hpr,hle,hk⟩:=aQ.part hsub hx1
  have er:=cV hx
  generalize r.sh=rsh at er
  subst er
  have hmul:(i+1)*e.sz≤l.length*e.sz:=ahw _ hi
  have hmul2:l.length*e.sz≤cap*e.sz:=ahw _ hcap
  rw[ahC,ahU]at hmul
  have hcells:((((c.toList.drop of).take (l.length*e.sz)).drop (i*e.sz)).take e.sz |>.drop (e.off path)).take m.τ.sz=(c.toList.drop (of+i*e.sz+e.off path)).take m.τ.sz:=by
   simp only[aiO,ahP,aio]
   simp only at hle
   rw[aim (by omega)]
  simp only at hpr hle hk
  rw[hcells]at hpr hk
  have hCo:cellsOf w bk (of+i*e.sz+e.off path) m.τ.sz=(c.toList.drop (of+i*e.sz+e.off path)).take m.τ.sz:=by
   unfold cellsOf;rw[hheap]
  refine⟨⟨c,el,fz,hheap,by omega⟩,?_⟩
  have hcolB:∀z∈B1++(Ba++Bo++Bb)++B2,G.col z=b:=fun z hz=>hall _ (j3 z hz)
  have hndo:Bo.Nodup:=by
   rw[ahs,ahs,ahs,ahs]at hnd
   exact hnd.1.2.1.1.2.1
  have hU:=hM w x z k y _ Bo hF hpr hndo (fun q hq=>hI.fresh q (by rw[hcolB q (by simp[hq])];exact hb3))
  rw[hCo]
  have key:∀(mv:Value) (w':World),(mv= .int .i64 k∧∃B',Yo w w' m.τ y ((c.toList.drop (of+i*e.sz+e.off path)).take m.τ.sz) Bo B')→(mv= .int .i64 k∧∃G',Inv w0 c0 U (E.mark [⟨b,e,l.set i ye⟩]) a w' G'):=by
   rintro mv w' ⟨h1,Bv,hp⟩
   refine⟨h1,?_⟩
   have hsame:∀q∈bk::(B1++(Ba++Bo++Bb)++B2),q∉Bo→w'.heap[q]?=w.heap[q]?:=by
    intro q hq hn
    refine hp.frame q (hI.lt q ?_) hn
    rcases aho.1 hq with rfl|hq
    ·rw[j1];omega
    ·rw[hcolB q hq];omega
   have hbkO:bk∉Bo:=fun h=>j2 (by simp[h])
   have hout:∀q,q∈B1∨q∈Ba∨q∈Bb∨q∈B2→q∉Bo:=by
    intro q hq hqo
    rw[ahs,ahs,ahs,ahs]at hnd
    obtain⟨⟨n1,⟨⟨m1,m2,m3⟩,m4,m5⟩,n3⟩,n4,n5⟩:=hnd
    rcases hq with hq|hq|hq|hq
    ·exact n3 q hq q (by simp[hqo]) rfl
    ·exact m3 q hq q hqo rfl
    ·exact m5 q (by simp[hqo]) q hq rfl
    ·exact n5 q (by simp[hqo]) q hq rfl
   have hye:=hk w' y sv Bv ye se (fun q hq=>hsame q (by simp only[ahk]at hq;rcases hq with hq|hq<;>simp[hq]) (hout q (by simp only[ahk]at hq;rcases hq with hq|hq<;>simp[hq]))) hp.rep hput
   have hset:=aT.set (sz:=e.sz) (l:=l) (i:=i) (cs:=(c.toList.drop of).take (l.length*e.sz)) hi hye
    (aT.world (fun q hq=>hsame q (by simp[hq]) (hout q (by simp[hq]))) hx2) (aT.world (fun q hq=>hsame q (by simp[hq]) (hout q (by simp[hq]))) hx3)
   have hjoin:((c.toList.drop of).take (l.length*e.sz)).take (i*e.sz)++(((c.toList.drop of).take (l.length*e.sz)).drop (i*e.sz)).take e.sz++((c.toList.drop of).take (l.length*e.sz)).drop ((i+1)*e.sz)=(c.toList.drop of).take (l.length*e.sz):=by
    rw[ahC,ahU,←ahP,ahY,ah1,ah1]
   rw[hjoin]at hset
   have hheap':w'.heap[bk]?=some (.cells c el fz):=(hsame bk (by simp) hbkO).trans hheap
   have hnew:∀q∈Bv,q∉bk::(B1++(Ba++Bo++Bb)++B2)∨q∈Bo:=by
    intro q hq
    rcases hp.inn q hq with h|h
    ·exact .inr h
    ·refine .inl (fun hin=> ?_)
     have:q<w.heap.size:=hI.lt q (by
      rcases aho.1 hin with rfl|hin
      ·rw[j1];omega
      ·rw[hcolB q hin];omega)
     omega
   have hnd2:(bk::(B1++(Ba++Bv++Bb)++B2)).Nodup:=by
    rw[ahD]
    have hd:∀q∈Bv,q≠bk∧q∉B1∧q∉Ba∧q∉Bb∧q∉B2:=by
     intro q hq
     rcases hnew q hq with h|h
     ·simp only[aho,ahk,not_or]at h
      exact⟨h.1,h.2.1.1,h.2.1.2.1.1,h.2.1.2.2,h.2.2⟩
     ·exact⟨fun e=>hbkO (e▸h),fun hh=>hout q (.inl hh) h,fun hh=>hout q (.inr (.inl hh)) h,fun hh=>hout q (.inr (.inr (.inl hh))) h,fun hh=>hout q (.inr (.inr (.inr hh))) h⟩
    constructor
    ·intro hin
     simp only[ahk,not_or]at hin j2
     rcases hin with(hin|((hin|hin)|hin))|hin
     ·exact j2.1.1 hin
     ·exact j2.1.2.1.1 hin
     ·exact(hd bk hin).1 rfl
     ·exact j2.1.2.2 hin
     ·exact j2.2 hin
    ·rw[ahs,ahs,ahs,ahs]at hnd⊢
     obtain⟨⟨n1,⟨⟨m1,m2,m3⟩,m4,m5⟩,n3⟩,n4,n5⟩:=hnd
     refine⟨⟨n1,⟨⟨m1,hp.nd,fun u hu v hv e=>(hd v hv).2.2.1 (e▸hu)⟩,m4,fun u hu v hv e=> ?_⟩,fun u hu v hv e=> ?_⟩,n4,fun u hu v hv e=> ?_⟩
     ·rcases ahk.1 hu with hu|hu
      ·exact m5 u (by simp[hu]) v hv e
      ·exact(hd u hu).2.2.2.1 (e▸hv)
     ·simp only[ahk]at hv
      rcases hv with(hv|hv)|hv
      ·exact n3 u hu v (by simp[hv]) e
      ·exact(hd v hv).2.1 (e▸hu)
      ·exact n3 u hu v (by simp[hv]) e
     ·simp only[ahk]at hu
      rcases hu with hu|((hu|hu)|hu)
      ·exact n5 u (by simp[hu]) v hv e
      ·exact n5 u (by simp[hu]) v hv e
      ·exact(hd u hu).2.2.2.2 (e▸hv)
      ·exact n5 u (by simp[hu]) v hv e
   obtain⟨G',q,_⟩:=hI.aar (L:=[⟨b,e,l.set i ye⟩]) (B:=Bo) (B2:=bk::(B1++(Ba++Bv++Bb)++B2)) (w':=w') (fun p hp=>by
    simp only[ahA]at hp;subst hp;exact⟨hb3,hgood b (by simp)⟩) (fun _=>b) (fun q hq=>by simp[hcolB q (by simp[hq])])
    (fun q hq=>by
     refine⟨?_,by simp,?_⟩
     ·by_cases hv:q∈Bv
      ·rcases hp.inn q hv with h|h
       ·left;simp[hcolB q (by simp[h])]
       ·exact .inr h
      ·left
       rcases aho.1 hq with rfl|hq
       ·simp[j1]
       ·simp only[ahk]at hq
        have:q∈B1++(Ba++Bo++Bb)++B2:=by
         rcases hq with(h|((h|h)|h))|h
         ·simp[h]
         ·simp[h]
         ·exact absurd h hv
         ·simp[h]
         ·simp[h]
        simp[hcolB q this]
     ·by_cases hv:q∈Bv
      ·exact hp.fresh q hv
      ·have hq':q∈bk::(B1++(Ba++Bo++Bb)++B2)∧q∉Bo:=by
        rcases aho.1 hq with rfl|hq
        ·exact⟨by simp,hbkO⟩
        ·simp only[ahk]at hq
         rcases hq with(h|((h|h)|h))|h
         ·exact⟨by simp[h],hout q (by simp[h])⟩
         ·exact⟨by simp[h],hout q (by simp[h])⟩
         ·exact absurd h hv
         ·exact⟨by simp[h],hout q (by simp[h])⟩
         ·exact⟨by simp[h],hout q (by simp[h])⟩
       obtain⟨c',el',hh'⟩:=hI.fresh q (by
        rcases aho.1 hq'.1 with rfl|hq''
        ·rw[j1];exact hb3
        ·rw[hcolB q hq''];exact hb3)
       exact⟨c',el',(hsame q hq'.1 hq'.2).trans hh'⟩) hp.frame hp.size hp.os hp.tape hp.output
    (fun G' g1 g2 p hp=>by
     simp only[ahA]at hp;subst hp
     rw[ahD]at hnd2
     refine⟨hb3,by rw[g1],bk::(B1++(Ba++Bv++Bb)++B2),.inr ⟨bk,of,cap,c,el,fz,_,by rw[hb];simp,by simpa using hcap,hheap',hsz,rfl,by rw[aiK];exact hset⟩,?_⟩
     rintro h Bs' hBs'
     cases hBs'
     exact⟨g2 bk (by simp),hnd2.1,fun q hq=>by simp[g2 q (ahv _ hq)],fun _=>hnd2.2⟩)
   exact⟨G',q⟩
  unfold sL at hU⊢
  split at hU
  ·exact Calls.mono hU (fun e w' ⟨v,h1,h2⟩=>⟨v,h1,key v w' h2⟩)
  ·exact key _ _ hU
  ·exact hU
end
section
variable {ρ:Type}
def mn (o:Oper) (a:Option Bool) (E:Env) (k:Env→Option ρ):Ef→Option ρ
 | .val v=>k (E.set o.dst (dh o.guard a v))
 | .chk c v=>if(match a with|none=>c|some b=> !b||c)=true then k (E.set o.dst (dh o.guard a v))else none
 | .opt _ z x f=>(match a with|none=>x|some b=>if b=true then x else some z).bind fun r=>k (E.set o.dst (dh o.guard a (f r)))
 | .put b s v=>match a.isNone&&o.dst.isNone with|true=>k {E with s:=E.s.set s (.box b v)}|false=>none
 | .app c kl gv t v=>match a.isNone with|true=>(if c=true then k (((E.kill kl).aS gv t).set o.dst v.iP)else none)|false=>none
 | .elem gv b e l m=>match a.isNone&&o.dst.isNone with|true=>k (E.elem gv b e l m)|false=>none
 | .nap c gv b e l m v=>match a.isNone with|true=>(if c=true then k ((E.elem gv b e l m).set o.dst v.iP)else none)|false=>none
 | .call _ x tks f rp=>match a.isNone with|true=>x.bind fun r=>let E1:=E.bS tks (rp r);k (Env.set {E1 with s:=bu (f r).2 E1.s} o.dst (f r).1.iP)|false=>none
theorem Ht (o:Oper) (a:Option Bool) (E:Env) (k:Env→Option ρ) (ef:Ef):mn o a E k ef=aY o a E k ef:=by
 cases ef with
 |put b s v=>simp only[mn,aY];cases (a.isNone&&o.dst.isNone)<;>rfl
 |app c kl gv t v=>simp only[mn,aY];cases (a.isNone)<;>rfl
 |elem gv b e l m=>simp only[mn,aY];cases (a.isNone&&o.dst.isNone)<;>rfl
 |nap c gv b e l m v=>simp only[mn,aY];cases a.isNone<;>rfl
 |call α x tks f rp=>simp only[mn,aY];cases (a.isNone)<;>rfl
 |_=>rfl
def Ks (C:Cx) (ops:List Oper) (nt:Nat):List Oper→Nat→Env→(Env→Option ρ)→Option ρ
 | [],_,E,k=>k E
 |o::l,i,E,k=>match guardOf ops E.rd o.guard with
  |none=>none
  |some a=>match iK C ops E.rd (nt+32*i) o.guard o with
   |none=>none
   |some ef=>mn o a E (fun E'=>Ks C ops nt l (i+1) E' k) ef
theorem R6 (C:Cx) (ops:List Oper) (nt:Nat) (k:Env→Option ρ):∀(l:List Oper) (i:Nat) (E:Env),Ks C ops nt l i E k=ym C ops nt l i E k
 | [],_,_=>rfl
 |o::l,i,E=>by
  simp only[Ks,ym,Ht]
  cases guardOf ops E.rd o.guard with
  |none=>rfl
  |some a=>
   simp only
   cases iK C ops E.rd (nt+32*i) o.guard o with
   |none=>rfl
   |some ef=>
    simp only
    congr 1
    funext E'
    exact R6 C ops nt k l (i+1) E'
def Cs (o:Oper) (a:Option Bool) (ef:Ef) (k:Tr×List (Nat×SV)→Option ρ):Option ρ:=
 match ef with
 | .val v=>k (.id,wr o.dst (dh o.guard a v))
 | .chk c v=>if(match a with|none=>c|some b=> !b||c)=true then k (.id,wr o.dst (dh o.guard a v))else none
 | .opt _ z x f=>(match a with|none=>x|some b=>if b=true then x else some z).bind fun r=>k (.id,wr o.dst (dh o.guard a (f r)))
 | .put b s v=>match a.isNone&&o.dst.isNone with|true=>k (.id,[(s,.box b v)])|false=>none
 | .app c kl gv t v=>match a.isNone with|true=>(if c=true then k (.kg kl gv t,wr o.dst v.iP)else none)|false=>none
 | .elem gv b e l m=>match a.isNone&&o.dst.isNone with|true=>k (.el gv b e l m,[])|false=>none
 | .nap c gv b e l m v=>match a.isNone with|true=>(if c=true then k (.el gv b e l m,wr o.dst v.iP)else none)|false=>none
 | .call _ x tks f rp=>match a.isNone with|true=>x.bind fun r=>k (.ki tks (rp r),(f r).2.map (fun p=>(p.2.1,SV.box p.1 p.2.2))++wr o.dst (f r).1.iP)|false=>none
theorem abV (o:Oper) (a:Option Bool) (ef:Ef) (k:Tr×List (Nat×SV)→Option ρ):Cs o a ef k=qX o a ef k:=by
 cases ef with
 |put b s v=>simp only[Cs,qX];cases (a.isNone&&o.dst.isNone)<;>rfl
 |app c kl gv t v=>simp only[Cs,qX];cases (a.isNone)<;>rfl
 |elem gv b e l m=>simp only[Cs,qX];cases (a.isNone&&o.dst.isNone)<;>rfl
 |nap c gv b e l m v=>simp only[Cs,qX];cases a.isNone<;>rfl
 |call α x tks f rp=>simp only[Cs,qX];cases (a.isNone)<;>rfl
 |_=>rfl
def Ah (C:Cx) (ops:List Oper) (nt:Nat):List Oper→Nat→Env→List c9→(Env→List c9→Option ρ)→Option ρ
 | [],_,E,L,k=>k E L
 |o::l,i,E,L,k=>match guardOf ops E.rd o.guard with
  |none=>none
  |some a=>match iK C ops E.rd (nt+32*i) o.guard o with
   |none=>none
   |some ef=>Cs o a ef fun r=>Ah C ops nt l (i+1) (E.fE r) (wQ ops i o E r::L) k
theorem CT (C:Cx) (ops:List Oper) (nt:Nat) (k:Env→List c9→Option ρ):∀(l:List Oper) (i:Nat) (E:Env) (L:List c9),Ah C ops nt l i E L k=vY C ops nt l i E L k
 | [],_,_,_=>rfl
 |o::l,i,E,L=>by
  simp only[Ah,vY,abV]
  cases guardOf ops E.rd o.guard with
  |none=>rfl
  |some a=>
   simp only
   cases iK C ops E.rd (nt+32*i) o.guard o with
   |none=>rfl
   |some ef=>
    simp only
    congr 1
    funext r
    exact CT C ops nt k l (i+1) (E.fE r) _
def wg (C:Cx):Code→Env→(Env→Option ρ)→List (Nat×(Env→Option ρ))→(Env→Option ρ)→Option ρ
 | .skip,E,kn,_,_=>kn E
 | .region _ ops draw,E,kn,_,_=>match fq ops.toList&&keeps C.io ops.toList with
   |true=>(match draw with
    |true=>Ah C ops.toList E.nt ops.toList 0 E [] (fun E' L=>match sD ops.toList L with|true=>kn {jz E' ops.toList with nt:=E.nt+32*ops.size}|false=>none)
    |false=>Ks C ops.toList E.nt ops.toList 0 E (fun E'=>kn {jz E' ops.toList with nt:=E.nt+32*ops.size}))
   |false=>none
 | .seq a b,E,kn,ke,kr=>
   match(ix b).bind C.ja with
   |none=>wg C a E (fun E'=>wg C b E' kn ke kr) ke kr
   |some n=>aL (fun J=>wg C a E (fun E'=>match proj n E' with|some t=>J t|none=>none) ke kr) (fun t=>wg C b (eB C.n n t) kn ke kr)
 | .cond c x y,E,kn,ke,kr=>
   match arg C E.rd none 0 c with
   |some (.d ⟨.bool,b,_⟩)=>if b=true then wg C x E kn ke kr else wg C y E kn ke kr
   |_=>none
 | .block id c,E,kn,ke,kr=>wg C c E kn ((id,kn)::ke) kr
 | .loop c,E,_,ke,kr=>
   match(ix c).bind C.la with
   |none=>none
   |some n=>match proj n E with
    |some t=>aH C.k (fun G t=>wg C c (eB C.n n t) (fun E'=>match proj n E' with|some t=>G t|none=>none) ke kr) t
    |none=>none
 | .exit id,E,_,ke,_=>match ke.lookup id with|some k=>k E|none=>none
 | .ret,E,_,_,kr=>kr E
 |_,_,_,_,_=>none
theorem adD (C:Cx):∀(c:Code) (E:Env) (kn:Env→Option ρ) (ke:List (Nat×(Env→Option ρ))) (kr:Env→Option ρ),wg C c E kn ke kr=ev C c E kn ke kr:=by
 intro c
 induction c with
 |region id ops draw=>
  intro E kn ke kr
  simp only[wg,ev]
  cases h:(fq ops.toList&&keeps C.io ops.toList)with
  |false=>rfl
  |true=>
   simp only[if_true]
   cases draw with
   |true=>
    simp only[if_true,CT]
    congr 1
    funext E' L
    cases sD ops.toList L<;>rfl
   |false=>simp only[ah8,if_false,R6]
 |seq a b iha ihb=>
  intro E kn ke kr
  simp only[wg,ev]
  cases (ix b).bind C.ja with
  |none=>simp only[iha,ihb]
  |some n=>
   simp only[iha,ihb]
   congr 1
   funext J
   congr 1
   funext E'
   cases proj n E'<;>rfl
 |cond c x y ihx ihy=>intro E kn ke kr;simp only[wg,ev,ihx,ihy];rfl
 |block id c ih=>intro E kn ke kr;simp only[wg,ev,ih]
 |loop c ih=>
  intro E kn ke kr
  simp only[wg,ev]
  cases (ix c).bind C.la with
  |none=>rfl
  |some n=>
   simp only[ih]
   cases proj n E with
   |none=>rfl
   |some t=>
    simp only[aiE]
    congr 1
    funext G t
    congr 1
    funext E'
    cases proj n E'<;>rfl
 |_=>intros;rfl
end
def TS (C:Cx) (ps:List PK) (rs:List RK) (kp:List (Nat×List Bool)) (fn:Func) (x:aZ (ps.map PK.ty)):Option (aZ (rs.map RK.ty++bn ps)):=
 match fn.body with
 |none=>none
 |some c=>
  let e:=bK ps x 4
  wg {C with n:=fn.ntmps,io:=gH ps 0} c ⟨e.1++aiq (fn.ntmps-e.1.length) .no,e.2,true⟩ (fin C.tt ps rs kp fn.results.toList e.2) [] (fin C.tt ps rs kp fn.results.toList e.2)
theorem abF (C:Cx) (ps:List PK) (rs:List RK) (kp:List (Nat×List Bool)) (fn:Func) (x:aZ (ps.map PK.ty)):TS C ps rs kp fn x=Zj C ps rs kp fn x:=by
 unfold TS Zj
 cases fn.body with
 |none=>rfl
 |some c=>exact adD ..
section
variable {P:Program} {C:Cx} {w0:World} {c0:C0} {U:Nat→Prop} {E:Env} {a:Act} {w:World} {G:Gh} {Q:Exit→Act→World→Prop}
theorem acV {e:Ty} {l:List e.den} {b off cap:Nat} {c:Array Value} {el:TypeId} {Bs:List Nat} {i:Nat} (hi:i<l.length) (hh:w.heap[b]?=some (.cells c el (0,0)))
 (hsz:off+cap*e.sz≤c.size) (hcap:l.length≤cap) (hl:aT (aQ w e) l ((c.toList.drop off).take (l.length*e.sz)) Bs) (hn:(b::Bs).Nodup):
 ∃Bs',dp (w.setCells b (off+i*e.sz) (((c.toList.drop off).take (l.length*e.sz)).drop ((i+1)*e.sz))) e.sz (aQ (w.setCells b (off+i*e.sz) (((c.toList.drop off).take (l.length*e.sz)).drop ((i+1)*e.sz))) e)
  (l.take i++l.drop (i+1)) (.slice (some ⟨b,off,none⟩) (l.length-1) cap) (b::Bs')∧(∀x∈Bs',x∈Bs)∧(b::Bs').Nodup:=by
 have hx:l[i]?=some l[i]:=aht hi
 obtain⟨B1,Bx,B2,rfl,_,h1,h2⟩:=aT.get (sz:=e.sz) (fun x c B h=>aQ.len h) hl hx
 generalize hcs:(c.toList.drop off).take (l.length*e.sz)=cs at*
 have hm1:i*e.sz+e.sz=(i+1)*e.sz:=by rw[ahC,ahU]
 have hm2:(i+1)*e.sz≤l.length*e.sz:=ahw _ hi
 have hm3:l.length*e.sz≤cap*e.sz:=ahw _ hcap
 have hcl:cs.length=l.length*e.sz:=by rw[←hcs];simp;omega
 generalize hys:cs.drop ((i+1)*e.sz)=ys at*
 have hyl:ys.length=l.length*e.sz-(i+1)*e.sz:=by rw[←hys];simp[hcl]
 have hrow:=fO b (el:=el) ys (off+i*e.sz) w c hh (by omega)
 rw[ahD]at hn
 simp only[ahk,not_or,ahY]at hn
 have hne:∀z∈B1++B2,(w.setCells b (off+i*e.sz) ys).heap[z]?=w.heap[z]?:=by
  intro z hz
  refine bC b _ _ w z (fun e=> ?_)
  subst e
  rcases ahk.1 hz with h|h
  ·exact hn.1.1 h
  ·exact hn.1.2.2 h
 refine⟨B1++B2,.inr ⟨b,off,cap,_,el,(0,0),B1++B2,?_,?_,hrow,?_,rfl,?_⟩,?_,?_⟩
 ·simp;omega
 ·simp;omega
 ·simp;omega
 ·have hlen:(l.take i++l.drop (i+1)).length*e.sz=i*e.sz+ys.length:=by
   have:(l.take i++l.drop (i+1)).length=i+(l.length-(i+1)):=by simp;omega
   rw[this,ahC,hyl,Nat.sub_mul]
  have hcells:((c.toList.take (off+i*e.sz)++ys++c.toList.drop (off+i*e.sz+ys.length)).drop off).take ((l.take i++l.drop (i+1)).length*e.sz)=cs.take (i*e.sz)++ys:=by
   have htl:(c.toList.take (off+i*e.sz)).length=off+i*e.sz:=by simp;omega
   have e1:(c.toList.take (off+i*e.sz)).drop off=cs.take (i*e.sz):=by
    rw[←hcs,aio,aim (by omega),aiO]
    congr 1;omega
   rw[ahY,ah6 (by omega),e1,←ahY,hlen]
   have hl2:(cs.take (i*e.sz)++ys).length=i*e.sz+ys.length:=by rw[ahX,List.length_take,hcl,aim (by omega)]
   rw[←hl2,List.take_left]
  have hr:=aT.append h1 h2
  have:=aT.world hne hr
  rw[hcells]
  exact this
 ·intro x hx
  rcases ahk.1 hx with h|h
  ·simp[h]
  ·simp[h]
 ·rw[ahD]
  refine⟨fun h=> ?_,?_⟩
  ·rcases ahk.1 h with h|h
   ·exact hn.1.1 h
   ·exact hn.1.2.2 h
  ·have h2:=hn.2
   rw[ahs]at h2⊢
   obtain⟨q1,q2,q3⟩:=h2
   rw[ahs]at q2
   exact⟨q1,q2.2.1,fun a ha b hb=>q3 a ha b (ahI _ hb)⟩
theorem Inv.del (hI:Inv w0 c0 U E a w G) {e:Ty} {l:List e.den} {v:Value} {m:M} {ts:List Nat} (hr:bJ w G e l v m) (ho:m.own=some ts) (hts:∀c∈ts,4≤c∧Good U G c)
 {i:Nat} (hi:i<l.length) {tk:Nat} (h3:4≤tk) (hU:¬U tk):
 ∃b off cap c el,v= .slice (some ⟨b,off,none⟩) l.length cap∧l.length≤cap∧w.heap[b]?=some (.cells c el (0,0))∧off+cap*e.sz≤c.size∧(∀u∈(c.toList.drop off).take (l.length*e.sz),u.oneCell'=true)∧
  ∃G',Inv w0 c0 (fun u=>U u∨u=tk) (E.kill ts) a (w.setCells b (off+i*e.sz) (((c.toList.drop off).take (l.length*e.sz)).drop ((i+1)*e.sz))) G'∧
   bJ (w.setCells b (off+i*e.sz) (((c.toList.drop off).take (l.length*e.sz)).drop ((i+1)*e.sz))) G' e (l.take i++l.drop (i+1)) (.slice (some ⟨b,off,none⟩) (l.length-1) cap) (.row tk [tk] true)∧G'.bx tk=false:=by
 obtain⟨B,hB,hn,hc⟩:=hr.own ho
 rcases hB with⟨_,rfl,_⟩|⟨b,off,cap,c,el,fz,Bs,hv,hcap,hb,hsz,rfl,hl⟩
 ·simp at hi
 ·have hcb:=hc b (by simp)
  obtain⟨c',el',hf⟩:=hI.fresh b (hts _ hcb).1
  rw[hf]at hb
  simp only[ahm,Obj.cells.injEq]at hb
  obtain⟨rfl,rfl,rfl⟩:=hb
  obtain⟨Bs',r1,r2,r3⟩:=acV hi hf hsz hcap hl hn
  refine⟨b,off,cap,c',el',hv,hcap,hf,hsz,aT.Ya hl,G.aS ts tk (.slice (some ⟨b,off,none⟩) (l.length-1) cap),?_,⟨h3,by simp[Gh.aS],b::Bs',r1,fun b2 Bs2 h2=> ?_⟩,by simp[Gh.aS]⟩
  ·have hm2:(i+1)*e.sz≤l.length*e.sz:=ahw _ hi
   have hm1:i*e.sz+e.sz=(i+1)*e.sz:=by rw[ahC,ahU]
   have hm3:l.length*e.sz≤cap*e.sz:=ahw _ hcap
   generalize hys:((c'.toList.drop off).take (l.length*e.sz)).drop ((i+1)*e.sz)=ys at*
   have hyl:ys.length=l.length*e.sz-(i+1)*e.sz:=by rw[←hys];simp;omega
   have hrow:=fO b (el:=el') ys (off+i*e.sz) w c' hf (by omega)
   refine(hI.kill ts).change (ts:=ts) (W8 hI hts) (fun z _ hz=>⟨bC b _ _ w z (fun e=>hz (e▸hcb)),by simp[Gh.aS,hz]⟩) (fun u hu=> ?_) (fun _ h=> .inl h) (fun z hz=> ?_)
    (fun z hz=> ?_) (fun z hz=> ?_) (fun z hz hc1=> ?_) (fun z hz=> ?_) (by rw[dY];exact ahJ _)
    (bV b _ _ w).1 (bV b _ _ w).2.1 (bV b _ _ w).2.2
   ·have:u≠tk:=fun e=>hU (e▸hu)
    simp[Gh.aS,this]
   ·simp only[Gh.aS]at hz⊢
    split at hz
    ·right;rw[if_pos (by assumption)]
    ·left;rw[if_neg (by assumption)];exact hI.colU z hz
   ·rw[dY]
    simp only[Gh.aS]at hz
    split at hz
    ·rename_i h;exact hI.lt z (by have:=(hts _ h).1;omega)
    ·exact hI.lt z hz
   ·have hz3:4≤G.col z:=by
     simp only[Gh.aS]at hz
     split at hz
     ·rename_i h;exact(hts _ h).1
     ·exact hz
    by_cases e1:z=b
    ·subst e1;exact⟨_,_,hrow⟩
    ·rw[bC b _ _ w z e1];exact hI.fresh z hz3
   ·have hf:=hI.frame z hz hc1
    have hnot:G.col z∉ts:=fun h=>by have:=(hts _ h).1;omega
    refine⟨(if_neg hnot).trans hf.1,?_⟩
    rw[bC b _ _ w z (fun e=>hnot (e▸hcb))]
    exact hf.2
   ·simp only[Gh.aS]at hz⊢
    split at hz
    ·omega
    ·rename_i hne;rw[if_neg hne]
  ·cases h2
   refine⟨by simp[Gh.aS,hcb],(ahD.1 r3).1,fun x hx=> ?_,fun _=>(ahD.1 r3).2⟩
   simp[Gh.aS,hc x (ahv _ (r2 x hx))]
end
def zk (o:Oper):Option (Nat×Nat):=
 match o.guard,o.op,o.dst with
 |none,.move (.tmp x),some d=>some (d,x)
 |_,_,_=>none
def TZ (o:Oper):Option (Nat×Nat):=
 match o.guard,o.op,o.dst with
 |none,.assign (.tmp x),some d=>some (d,x)
 |_,_,_=>none
def YZ (o:Oper):Option (TypeId×Nat×Nat×Nat):=
 match o.guard,o.op,o.dst with
 |none,.slice t (.tmp x) none (some (.tmp h)) none,some d=>some (t,d,x,h)
 |_,_,_=>none
def YQ (o:Oper):Option (TypeId×Nat×Nat×Nat):=
 match o.guard,o.op,o.dst with
 |none,.slice t (.tmp x) (some (.tmp h)) none none,some d=>some (t,d,x,h)
 |_,_,_=>none
def TW (o:Oper):Option (TypeId×Nat×Nat):=
 match o.guard,o.op,o.dst with
 |none,.binOp .add t (.tmp x) (.const (.int .i64 1)) _,some d=>some (t,d,x)
 |_,_,_=>none
def TX (o:Oper):Option (TypeId×Nat×Nat×Nat):=
 match o.guard,o.op,o.dst with
 |none,.call c,some d=>(match c.callee,c.args.toList,c.argTypes.toList with
  | .builtin .append,[.tmp x,.tmp y],[t,u]=>(match decide (t=u)with|true=>some (t,d,x,y)|false=>none)
  |_,_,_=>none)
 |_,_,_=>none
structure nT where
 t:TypeId
 ti:TypeId
 s:Nat
 j:Nat
 d0:Nat
 d1:Nat
 d2:Nat
 d3:Nat
 d4:Nat
 d5:Nat
 d6:Nat
 d7:Nat
def nT.tmps (d:nT):List Nat:=[d.s,d.j,d.d0,d.d1,d.d2,d.d3,d.d4,d.d5,d.d6,d.d7]
def nT.outs (d:nT):List Nat:=[d.s,d.d0,d.d1,d.d2,d.d3,d.d4,d.d5,d.d6,d.d7]
def Vx (n:Nat):Nat→Array Bool
 |0=>ail n false
 |i+1=>(Vx n i).setIfInBounds i true
def U3 (ops:Array Oper):Bool:=
 Region.noSelect ops&&(List.range 7).all (fun i=>Region.free .any ops (Vx 9 i) i&&(Region.ready .any ops (Vx 9 i)).contains i)&&
 decide (Region.ready .any ops (Vx 9 7)=[7])&&decide (Region.ready .any ops (Vx 9 8)=[8])&&decide (Region.ready .any ops (Vx 9 9)=[])
def xz (ops:List Oper):Option nT:=
 match ops with
 | [o0,o1,o2,o3,o4,o5,o6,o7,o8]=>
   match zk o0,zk o1,YZ o2,zk o3,zk o4,TW o5,YQ o6,TX o7,TZ o8 with
   |some (d0,s),some (d1,j),some (t,d2,x2,h2),some (d3,s3),some (d4,j4),some (ti,d5,x5),some (t6,d6,x6,l6),some (t7,d7,x7,y7),some (s8,x8)=>
    match decide (x2=d0∧h2=d1∧s3=s∧j4=j∧x5=d4∧x6=d3∧l6=d5∧x7=d2∧y7=d6∧x8=d7∧s8=s∧t6=t∧t7=t∧([s,j,d0,d1,d2,d3,d4,d5,d6,d7]:List Nat).Nodup)&&U3 #[o0,o1,o2,o3,o4,o5,o6,o7,o8]with
    |true=>some ⟨t,ti,s,j,d0,d1,d2,d3,d4,d5,d6,d7⟩
    |false=>none
   |_,_,_,_,_,_,_,_,_=>none
 |_=>none
section
variable {P:Program} {C:Cx} {w0:World} {c0:C0} {U:Nat→Prop} {E:Env} {a:Act} {w:World} {G:Gh} {Q:Exit→Act→World→Prop}
theorem lO {o:Oper} {d x:Nat} (h:zk o=some (d,x)):o.guard=none∧o.op= .move (.tmp x)∧o.dst=some d:=by
 unfold zk at h
 split at h
 ·rename_i h1 h2 h3;cases h;exact⟨h1,h2,h3⟩
 ·cases h
theorem N4 {o:Oper} {d x:Nat} (h:TZ o=some (d,x)):o.guard=none∧o.op= .assign (.tmp x)∧o.dst=some d:=by
 unfold TZ at h
 split at h
 ·rename_i h1 h2 h3;cases h;exact⟨h1,h2,h3⟩
 ·cases h
theorem RS {o:Oper} {t:TypeId} {d x y:Nat} (h:YZ o=some (t,d,x,y)):o.guard=none∧o.op= .slice t (.tmp x) none (some (.tmp y)) none∧o.dst=some d:=by
 unfold YZ at h
 split at h
 ·rename_i h1 h2 h3;cases h;exact⟨h1,h2,h3⟩
 ·cases h
theorem RP {o:Oper} {t:TypeId} {d x y:Nat} (h:YQ o=some (t,d,x,y)):o.guard=none∧o.op= .slice t (.tmp x) (some (.tmp y)) none none∧o.dst=some d:=by
 unfold YQ at h
 split at h
 ·rename_i h1 h2 h3;cases h;exact⟨h1,h2,h3⟩
 ·cases h
theorem LQ {o:Oper} {t:TypeId} {d x:Nat} (h:TW o=some (t,d,x)):o.guard=none∧(∃u,o.op= .binOp .add t (.tmp x) (.const (.int .i64 1)) u)∧o.dst=some d:=by
 unfold TW at h
 split at h
 ·rename_i h1 h2 h3;cases h;exact⟨h1,⟨_,h2⟩,h3⟩
 ·cases h
theorem Mi {o:Oper} {t:TypeId} {d x y:Nat} (h:TX o=some (t,d,x,y)):o.guard=none∧(∃c:Call,o.op= .call c∧c.callee= .builtin .append∧c.args= #[.tmp x,.tmp y]∧c.argTypes= #[t,t])∧o.dst=some d:=by
 unfold TX at h
 split at h
 ·rename_i c d' h1 h2 h3
  split at h
  ·rename_i x' y' t' u' hc ha ht
   split at h
   ·rename_i e
    simp only[decide_eq_true_eq]at e
    cases h
    subst e
    exact⟨h1,⟨c,h2,hc,aiL (by simpa using ha),aiL (by simpa using ht)⟩,h3⟩
   ·cases h
  ·cases h
 ·cases h
theorem MR {o:Oper} {x:Nat} (h:o.op= .move (.tmp x)):(execOp a.eval o).run P w= .ok (.value (a.tmps.getD x undef)) w:=by
 simp only[execOp,h];rfl
theorem acU {o:Oper} {x:Nat} (h:o.op= .assign (.tmp x)):(execOp a.eval o).run P w= .ok (.value (a.tmps.getD x undef)) w:=by
 simp only[execOp,h];rfl
theorem rK {d s:Nat} {v:Value} (h:d<a.tmps.size):(a.put (some d) v).tmps.getD s undef=if s=d then v else a.tmps.getD s undef:=by
 rw[UT a (some d) v s (by rintro x ⟨⟩;exact h)]
 by_cases e:s=d
 ·subst e;rw[if_pos rfl,if_pos rfl]
 ·rw[if_neg (by simpa using e),if_neg e]
theorem aaw {o:Oper} {t el:TypeId} {e:Ty} {x y n cap b off:Nat} {i:Nat} (hu:P.underlying t=some (.slice el)) (hT:gA P el e) (h:o.op= .slice t (.tmp x) none (some (.tmp y)) none)
 (hx:a.tmps.getD x undef= .slice (some ⟨b,off,none⟩) n cap) (hy:a.tmps.getD y undef= .int .i64 i) (h1:i≤cap):(execOp a.eval o).run P w= .ok (.value (.slice (some ⟨b,off,none⟩) i cap)) w:=by
 simp only[execOp,h]
 refine dK ?_
 have hx':a.eval (.tmp x)= .slice (some ⟨b,off,none⟩) n cap:=hx
 have hy':a.eval (.tmp y)= .int .i64 i:=hy
 have:=iS (P:=P) (w:=w) (k:= .i64) (i:=(i:Int)) (y:=cap) (code:= .sliceAcap) (by omega) (by omega)
 rw[hx']
 simp only[aiy]at this
 by_cases hc:cap=0
 ·rw[hc]at this
  simp[Instr.sliceAt,Instr.slice,Instr.sliceBounds,run_underlying hu,du hT,hy',this,hc]
 ·simp[Instr.sliceAt,Instr.slice,Instr.sliceBounds,run_underlying hu,du hT,hy',this,Addr.add_lit]
theorem Zp {o:Oper} {t el:TypeId} {e:Ty} {x y n cap b off:Nat} {i:Nat} (hu:P.underlying t=some (.slice el)) (hT:gA P el e) (h:o.op= .slice t (.tmp x) (some (.tmp y)) none none)
 (hx:a.tmps.getD x undef= .slice (some ⟨b,off,none⟩) n cap) (hy:a.tmps.getD y undef= .int .i64 i) (h1:i≤n):(execOp a.eval o).run P w= .ok (.value (.slice (some ⟨b,if cap=i then off else off+i*e.sz,none⟩) (n-i) (cap-i))) w:=by
 simp only[execOp,h]
 refine dK ?_
 have hx':a.eval (.tmp x)= .slice (some ⟨b,off,none⟩) n cap:=hx
 have hy':a.eval (.tmp y)= .int .i64 i:=hy
 have:=iS (P:=P) (w:=w) (k:= .i64) (i:=(i:Int)) (y:=n) (code:= .sliceB) (by omega) (by omega)
 rw[hx']
 simp only[aiy]at this
 by_cases hc:cap=i
 ·subst hc
  simp[Instr.sliceAt,Instr.slice,Instr.sliceBounds,run_underlying hu,du hT,hy',this]
 ·simp[Instr.sliceAt,Instr.slice,Instr.sliceBounds,run_underlying hu,du hT,hy',this,hc,Addr.add_lit]
theorem acB {o:Oper} {t u:TypeId} {x:Nat} {i:Nat} (h:o.op= .binOp .add t (.tmp x) (.const (.int .i64 1)) u) (hx:a.tmps.getD x undef= .int .i64 i) (hi:i<4294967296):
 (execOp a.eval o).run P w= .ok (.value (.int .i64 ((i+1:Nat):Int))) w:=by
 simp only[execOp,h]
 refine dK ?_
 have hx':a.eval (.tmp x)= .int .i64 i:=hx
 have h1:a.eval (.const (.int .i64 1))= .int .i64 1:=rfl
 rw[hx',h1]
 have hw:IntKind.i64.wrap ((i:Int)+1)=((i+1:Nat):Int):=by
  simp only[IntKind.wrap,IntKind.signed,IntKind.bits]
  simp
  omega
 have hgd:∀v,eqGuard .add t (.tmp x) (.const (.int .i64 1)) (.int .i64 i) v=pure ():=fun v=>eqGuard_at_int ..
 simp[hgd,binOp,Op.intArith,hw]
theorem aaz (hI:Inv w0 c0 U E a w G) {j:Nat} {n:Int} {sh:Sh} (h:E.get j= .d ⟨.int .i64,n,sh⟩):a.tmps.getD j undef= .int .i64 n:=by
 have hs:=hI.slots j
 have h':E.s.getD j .no= .d ⟨.int .i64,n,sh⟩:=h
 rw[h']at hs
 obtain⟨cs,h1,h2⟩:=hs
 cases sh with
 |leaf=>rw[h1,show cs=_ from h2];rfl
 |sl m=>exact h2.elim
 |pair a b=>exact h2.elim
theorem Inv.uA (hI:Inv w0 c0 U E a w G) (d:Option Nat) (v:Value):Inv w0 c0 U (E.set d .no) (a.put d v) w G:=
 hI.put d (sv:= .no) trivial (by simp[SV.sc]) (by simp[SV.bt]) (by simp[SV.rt]) (by rintro _ _ ⟨⟩)
theorem Nj {ops:Array Oper} {d:nT} (h:xz ops.toList=some d):∃o0 o1 o2 o3 o4 o5 o6 o7 o8,ops= #[o0,o1,o2,o3,o4,o5,o6,o7,o8]∧
 zk o0=some (d.d0,d.s)∧zk o1=some (d.d1,d.j)∧YZ o2=some (d.t,d.d2,d.d0,d.d1)∧zk o3=some (d.d3,d.s)∧zk o4=some (d.d4,d.j)∧TW o5=some (d.ti,d.d5,d.d4)∧
 YQ o6=some (d.t,d.d6,d.d3,d.d5)∧TX o7=some (d.t,d.d7,d.d2,d.d6)∧TZ o8=some (d.s,d.d7)∧d.tmps.Nodup∧U3 ops=true:=by
 unfold xz at h
 split at h
 ·rename_i o0 o1 o2 o3 o4 o5 o6 o7 o8 hops
  split at h
  ·rename_i h0 h1 h2 h3 h4 h5 h6 h7 h8
   split at h
   ·rename_i hc
    simp only[ahl,decide_eq_true_eq]at hc
    obtain⟨⟨rfl,rfl,rfl,rfl,rfl,rfl,rfl,rfl,rfl,rfl,rfl,rfl,rfl,hn⟩,ho⟩:=hc
    cases h
    have he:ops= #[o0,o1,o2,o3,o4,o5,o6,o7,o8]:=aiL hops
    exact⟨o0,o1,o2,o3,o4,o5,o6,o7,o8,he,h0,h1,h2,h3,h4,h5,h6,h7,h8,hn,by rw[he];exact ho⟩
   ·cases h
  ·cases h
 ·cases h
theorem B7 (b:Nat):∀(vs:List Value) (o n:Nat) (w:World),({w with drawn:=n}:World).setCells b o vs={w.setCells b o vs with drawn:=n}
 | [],_,_,_=>rfl
 |v::r,o,n,w=>by
  rw[World.setCells,World.setCells,←B7 b r (o+1) n]
  rfl
def ID (E:Env) (d:nT) (ts:List Nat) (tk:Nat) (e:Ty) (l:List e.den) (i:Nat):Env:=
 ((((((((((E.kill ts).set (some d.d0) .no).set (some d.d1) .no).set (some d.d2) .no).set (some d.d3) .no).set (some d.d4) .no).set (some d.d5) .no).set (some d.d6) .no).set (some d.d7) .no).set (some d.s)
   (.d ⟨.sl e,l.take i++l.drop (i+1),.sl (.row tk [tk] true)⟩))
theorem n7 {ops:Array Oper} {o:Oper} {v:Value} (hg:o.guard=none) (h:∀w,(execOp a.eval o).run P w= .ok (.value v) w):Go.Yields P ops o v a:=
 .inl ⟨by simp[Region.wanted,hg],h⟩
set_option maxHeartbeats 1000000 in
theorem XT (hC:CxTy P C) (hm:P.follows .mixedOrders=true) {N:Nat} (hI:Inv w0 c0 (fun u=>u<N) E a w G) {ops:Array Oper} {d:nT} (hd:xz ops.toList=some d)
 {e:Ty} {l:List e.den} {m:M} {fs:List TypeId} {el:TypeId} (ht:C.tt d.t=some ⟨.sl e,fs,el⟩) (hs:E.s.getD d.s .no= .d ⟨.sl e,l,.sl m⟩) {i:Nat} {sh:Sh} (hj:E.get d.j= .d ⟨.int .i64,(i:Int),sh⟩)
 {ts:List Nat} (ho:m.own=some ts) (hi:i<l.length) (hl:l.length<4294967296) (hsz:∀x∈d.tmps,x<E.s.length) {tk:Nat} (h3:4≤tk) (hN:N≤tk) {id:Nat}
 (hK:∀a' w' G',Inv w0 c0 (fun u=>u<N∨u=tk) (ID E d ts tk e l i) a' w' G'→(∀x,x∉d.outs→a'.tmps.getD x undef=a.tmps.getD x undef)→Q .normal a' w'):
 (Code.region id ops true).wp P Q a w:=by
 obtain⟨o0,o1,o2,o3,o4,o5,o6,o7,o8,rfl,q0,q1,q2,q3,q4,q5,q6,q7,q8,hn,hord⟩:=Nj hd
 obtain⟨g0,p0,t0⟩:=lO q0
 obtain⟨g1,p1,t1⟩:=lO q1
 obtain⟨g2,p2,t2⟩:=RS q2
 obtain⟨g3,p3,t3⟩:=lO q3
 obtain⟨g4,p4,t4⟩:=lO q4
 obtain⟨g5,⟨u5,p5⟩,t5⟩:=LQ q5
 obtain⟨g6,p6,t6⟩:=RP q6
 obtain⟨g7,⟨c7,p7,pc,pa,pt⟩,t7⟩:=Mi q7
 obtain⟨g8,p8,t8⟩:=N4 q8
 have hT:=(hC.tt _ _ ht).2
 obtain⟨hu,hel⟩:=hT
 have hslot:=hI.slots d.s
 have hment:=hI.ow d.s
 rw[hs]at hslot hment
 obtain⟨cs,hmv,hvk⟩:=hslot
 obtain⟨v,rfl,hrow⟩:=hvk
 have hv:a.tmps.getD d.s undef=v:=hmv
 have hjv:=aaz hI hj
 have hts:∀c∈ts,4≤c∧Good (fun u=>u<N) G c:=by
  intro c hc
  have hsub:=M.il ho c hc
  have h1:=hment.1 c hsub
  refine⟨?_,h1⟩
  cases m with
  |row t hs' nd=>
   obtain⟨k1,k2,k3⟩:=M.jT ho
   rcases(k3 c).1 hc with rfl|hc
   ·exact hrow.1
   ·exact k2 c hc
  |sha hs'=>
   cases hs' with
   |nil=>simp[M.own]at ho;subst ho;cases hc
   |cons x y=>simp[M.own]at ho
  |nst=>simp[M.own]at ho
  |dead=>simp[M.own]at ho
 obtain⟨b,off,cap,c,elx,rfl,hcap,hheap,hszc,h1c,hdel⟩:=hI.del hrow ho hts hi h3 (aiJ.2 hN)
 obtain⟨G',hI',hrow',hbx'⟩:=hdel
 change l.length≤cap at hcap
 simp only[nT.tmps,ahD,aho,ahL,or_false,not_or,List.nodup_nil,and_true]at hn
 obtain⟨⟨n0_1,n0_2,n0_3,n0_4,n0_5,n0_6,n0_7,n0_8,n0_9⟩,⟨n1_2,n1_3,n1_4,n1_5,n1_6,n1_7,n1_8,n1_9⟩,⟨n2_3,n2_4,n2_5,n2_6,n2_7,n2_8,n2_9⟩,⟨n3_4,n3_5,n3_6,n3_7,n3_8,n3_9⟩,⟨n4_5,n4_6,n4_7,n4_8,n4_9⟩,⟨n5_6,n5_7,n5_8,n5_9⟩,⟨n6_7,n6_8,n6_9⟩,⟨n7_8,n7_9⟩,n8_9⟩:=hn
 have hlen:a.tmps.size=E.s.length:=hI.len
 simp only[nT.tmps,aho,ahL,or_false,forall_eq_or_imp,forall_eq]at hsz
 rw[←hlen]at hsz
 obtain⟨z0,z1,z2,z3,z4,z5,z6,z7,z8,z9⟩:=hsz
 simp only[U3,ahl,ahn,List.mem_range,decide_eq_true_eq]at hord
 obtain⟨⟨⟨⟨hsel,hfr⟩,hr7⟩,hr8⟩,hr9⟩:=hord
 refine wp_mono (Q:=fun ex a w=>ex= .normal∧Q .normal a w) ?_ (fun ex a w h=>by obtain⟨rfl,h⟩:=h;exact h)
 refine wp_region_any hm ?_
 have hQ:∀(v:Value) (o:Oper) c (a:Act) (w:World),(fun(ex:Exit) (a:Act) (w:World)=>ex= .normal∧Q .normal a w) (.panic c) (a.put o.dst v) w→(fun(ex:Exit) (a:Act) (w:World)=>ex= .normal∧Q .normal a w) (.panic c) a w:=
  fun v o c a w h=>by have:=h.1;cases this
 generalize hw1:({w with drawn:=w.drawn+1}:World)=w1
 show wpAny P .any _ _ 9 (Vx 9 0) a w1
 refine wpAny_take (i:=0) (oi:=o0) (v:= .slice (some ⟨b,off,none⟩) l.length cap) rfl hsel (hfr 0 (by decide)).1 (hfr 0 (by decide)).2 (hQ _ _) (n7 g0 (fun w=>by rw[←hv];exact MR p0)) ?_
 rw[t0]
 generalize ha1:a.put (some d.d0) (.slice (some ⟨b,off,none⟩) l.length cap)=a1
 have s1:a1.tmps.size=a.tmps.size:=by rw[←ha1,kv]
 have f1:∀s,a1.tmps.getD s undef=if s=d.d0 then .slice (some ⟨b,off,none⟩) l.length cap else a.tmps.getD s undef:=fun s=>by rw[←ha1];exact rK z2
 refine wpAny_take (i:=1) (oi:=o1) (v:= .int .i64 i) rfl hsel (hfr 1 (by decide)).1 (hfr 1 (by decide)).2 (hQ _ _) (n7 g1 (fun w=>by
  have:=MR (P:=P) (a:=a1) (w:=w) p1;rw[f1,if_neg n1_2,hjv]at this;exact this)) ?_
 rw[t1]
 generalize ha2:a1.put (some d.d1) (.int .i64 i)=a2
 have s2:a2.tmps.size=a.tmps.size:=by rw[←ha2,kv,s1]
 have f2:∀s,a2.tmps.getD s undef=if s=d.d1 then .int .i64 i else a1.tmps.getD s undef:=fun s=>by rw[←ha2];exact rK (by rw[s1];exact z3)
 refine wpAny_take (i:=2) (oi:=o2) (v:= .slice (some ⟨b,off,none⟩) i cap) rfl hsel (hfr 2 (by decide)).1 (hfr 2 (by decide)).2 (hQ _ _) (n7 g2 (fun w=>
  aaw (n:=l.length) hu hel p2 (by rw[f2,if_neg n2_3,f1,if_pos rfl]) (by rw[f2,if_pos rfl]) (by omega))) ?_
 rw[t2]
 generalize ha3:a2.put (some d.d2) (.slice (some ⟨b,off,none⟩) i cap)=a3
 have s3:a3.tmps.size=a.tmps.size:=by rw[←ha3,kv,s2]
 have f3:∀s,a3.tmps.getD s undef=if s=d.d2 then .slice (some ⟨b,off,none⟩) i cap else a2.tmps.getD s undef:=fun s=>by rw[←ha3];exact rK (by rw[s2];exact z4)
 refine wpAny_take (i:=3) (oi:=o3) (v:= .slice (some ⟨b,off,none⟩) l.length cap) rfl hsel (hfr 3 (by decide)).1 (hfr 3 (by decide)).2 (hQ _ _) (n7 g3 (fun w=>by
  have:=MR (P:=P) (a:=a3) (w:=w) p3;rw[f3,if_neg n0_4,f2,if_neg n0_3,f1,if_neg n0_2,hv]at this;exact this)) ?_
 rw[t3]
 generalize ha4:a3.put (some d.d3) (.slice (some ⟨b,off,none⟩) l.length cap)=a4
 have s4:a4.tmps.size=a.tmps.size:=by rw[←ha4,kv,s3]
 have f4:∀s,a4.tmps.getD s undef=if s=d.d3 then .slice (some ⟨b,off,none⟩) l.length cap else a3.tmps.getD s undef:=fun s=>by rw[←ha4];exact rK (by rw[s3];exact z5)
 refine wpAny_take (i:=4) (oi:=o4) (v:= .int .i64 i) rfl hsel (hfr 4 (by decide)).1 (hfr 4 (by decide)).2 (hQ _ _) (n7 g4 (fun w=>by
  have:=MR (P:=P) (a:=a4) (w:=w) p4;rw[f4,if_neg n1_5,f3,if_neg n1_4,f2,if_neg n1_3,f1,if_neg n1_2,hjv]at this;exact this)) ?_
 rw[t4]
 generalize ha5:a4.put (some d.d4) (.int .i64 i)=a5
 have s5:a5.tmps.size=a.tmps.size:=by rw[←ha5,kv,s4]
 have f5:∀s,a5.tmps.getD s undef=if s=d.d4 then .int .i64 i else a4.tmps.getD s undef:=fun s=>by rw[←ha5];exact rK (by rw[s4];exact z6)
 refine wpAny_take (i:=5) (oi:=o5) (v:= .int .i64 ((i+1:Nat):Int)) rfl hsel (hfr 5 (by decide)).1 (hfr 5 (by decide)).2 (hQ _ _) (n7 g5 (fun w=>
  acB p5 (by rw[f5,if_pos rfl]) (by omega))) ?_
 rw[t5]
 generalize ha6:a5.put (some d.d5) (.int .i64 ((i+1:Nat):Int))=a6
 have s6:a6.tmps.size=a.tmps.size:=by rw[←ha6,kv,s5]
 have f6:∀s,a6.tmps.getD s undef=if s=d.d5 then .int .i64 ((i+1:Nat):Int)else a5.tmps.getD s undef:=fun s=>by rw[←ha6];exact rK (by rw[s5];exact z7)
 refine wpAny_take (i:=6) (oi:=o6) (v:= .slice (some ⟨b,if cap=i+1 then off else off+(i+1)*e.sz,none⟩) (l.length-(i+1)) (cap-(i+1))) rfl hsel (hfr 6 (by decide)).1 (hfr 6 (by decide)).2 (hQ _ _) (n7 g6 (fun w=>
  Zp (n:=l.length) (cap:=cap) (i:=i+1) hu hel p6 (by rw[f6,if_neg n5_7,f5,if_neg n5_6,f4,if_pos rfl]) (by rw[f6,if_pos rfl]) (by omega))) ?_
 rw[t6]
 generalize ha7:a6.put (some d.d6) (.slice (some ⟨b,if cap=i+1 then off else off+(i+1)*e.sz,none⟩) (l.length-(i+1)) (cap-(i+1)))=a7
 have s7:a7.tmps.size=a.tmps.size:=by rw[←ha7,kv,s6]
 have f7:∀s,a7.tmps.getD s undef=if s=d.d6 then .slice (some ⟨b,if cap=i+1 then off else off+(i+1)*e.sz,none⟩) (l.length-(i+1)) (cap-(i+1))else a6.tmps.getD s undef:=fun s=>by rw[←ha7];exact rK (by rw[s6];exact z8)
 refine wpAny_all hr7 (by simp) (fun j hj=> ?_)
 obtain rfl:j=7:=by simpa using hj
 have hm2:(i+1)*e.sz≤l.length*e.sz:=ahw _ hi
 have hm1:i*e.sz+e.sz=(i+1)*e.sz:=by rw[ahC,ahU]
 have hm3:l.length*e.sz≤cap*e.sz:=ahw _ hcap
 have hm4:(l.length-(i+1))*e.sz=l.length*e.sz-(i+1)*e.sz:=Nat.sub_mul ..
 have happ:(execOp a7.eval o7).run P w1= .ok (.value (.slice (some ⟨b,off,none⟩) (l.length-1) cap)) (w1.setCells b (off+i*e.sz) (((c.toList.drop off).take (l.length*e.sz)).drop ((i+1)*e.sz))):=by
  obtain⟨inf,dd,hinf,hsize,hz,hby,_⟩:=hel
  have hheap1:w1.heap[b]?=some (.cells c elx (0,0)):=by rw[←hw1];exact hheap
  have hys:∀k u,(((c.toList.drop off).take (l.length*e.sz)).drop ((i+1)*e.sz))[k]?=some u→c[off+(i+1)*e.sz+k]?=some u:=by
   intro k u hk
   rw[aia,ahW]at hk
   split at hk
   ·rw[aia]at hk
    rw[←air]
    rw[←hk];congr 1;omega
   ·cases hk
  have hyl:(((c.toList.drop off).take (l.length*e.sz)).drop ((i+1)*e.sz)).length=(l.length-(i+1))*e.sz:=by
   simp;omega
  have hr:=run_append_room_cells (P:=P) w1 d.t o7.type el inf hu hinf b off i cap ⟨b,if cap=i+1 then off else off+(i+1)*e.sz,none⟩ (l.length-(i+1)) (cap-(i+1))
   (((c.toList.drop off).take (l.length*e.sz)).drop ((i+1)*e.sz)) (by rw[hsize];exact hyl) (fun k u hk=>by
     have hlt:k<(((c.toList.drop off).take (l.length*e.sz)).drop ((i+1)*e.sz)).length:=(ahB.1 hk).1
     have hne:cap≠i+1:=by
      intro hc
      have:l.length-(i+1)=0:=by omega
      rw[hyl,this]at hlt
      omega
     rw[if_neg hne,Addr.add_lit,ot hheap1]
     exact hys k u hk) (fun u hu=>h1c u (List.mem_of_mem_drop hu)) (by omega)
   (fun k hk=>by rw[ot hheap1,hsize];rw[hyl]at hk;have:off+i*e.sz+k<c.size:=by omega
                 simp[this]) (fun k hk=>vK hheap1 _)
  rw[hsize]at hr
  have e1:a7.eval (.tmp d.d2)= .slice (some ⟨b,off,none⟩) i cap:=by
   show a7.tmps.getD d.d2 undef=_
   rw[f7,if_neg n4_8,f6,if_neg n4_7,f5,if_neg n4_6,f4,if_neg n4_5,f3,if_pos rfl]
  have e2:a7.eval (.tmp d.d6)= .slice (some ⟨b,if cap=i+1 then off else off+(i+1)*e.sz,none⟩) (l.length-(i+1)) (cap-(i+1)):=by
   show a7.tmps.getD d.d6 undef=_
   rw[f7,if_pos rfl]
  have hn1:i+(l.length-(i+1))=l.length-1:=by omega
  rw[hn1]at hr
  simp only[execOp,p7]
  simp[resolve,pc,invoke,builtin,pa,pt,e1,e2,hr]
 refine ei (ops:=[o0,o1,o2,o3,o4,o5,o6,o7,o8]) (i:=7) rfl (by simp[Region.wanted,g7]) ?_
 unfold Oper.wp
 rw[happ]
 rw[Oper.upon_value,t7]
 generalize ha8:a7.put (some d.d7) (.slice (some ⟨b,off,none⟩) (l.length-1) cap)=a8
 have s8:a8.tmps.size=a.tmps.size:=by rw[←ha8,kv,s7]
 have f8:∀s,a8.tmps.getD s undef=if s=d.d7 then .slice (some ⟨b,off,none⟩) (l.length-1) cap else a7.tmps.getD s undef:=fun s=>by rw[←ha8];exact rK (by rw[s7];exact z9)
 refine wpAny_all hr8 (by simp) (fun j hj=> ?_)
 obtain rfl:j=8:=by simpa using hj
 refine ei (ops:=[o0,o1,o2,o3,o4,o5,o6,o7,o8]) (i:=8) rfl (by simp[Region.wanted,g8]) ?_
 unfold Oper.wp
 rw[acU p8,f8,if_pos rfl,Oper.upon_value,t8]
 refine⟨hr9,rfl,?_⟩
 have hw2:w1.setCells b (off+i*e.sz) (((c.toList.drop off).take (l.length*e.sz)).drop ((i+1)*e.sz))={w.setCells b (off+i*e.sz) (((c.toList.drop off).take (l.length*e.sz)).drop ((i+1)*e.sz))with drawn:=w.drawn+1}:=by
  rw[←hw1];exact B7 ..
 rw[hw2]
 have hI2:=hI'.drawn (w.drawn+1)
 have hrow2:bJ {w.setCells b (off+i*e.sz) (((c.toList.drop off).take (l.length*e.sz)).drop ((i+1)*e.sz))with drawn:=w.drawn+1} G' e (l.take i++l.drop (i+1)) (.slice (some ⟨b,off,none⟩) (l.length-1) cap) (.row tk [tk] true):=
  bJ.agree (w:=w.setCells b (off+i*e.sz) (((c.toList.drop off).take (l.length*e.sz)).drop ((i+1)*e.sz))) (G:=G') ⟨fun _ _=>rfl,fun _ _=>rfl,fun _ _=>rfl⟩ hrow'
 have k0:=hI2.uA (some d.d0) (.slice (some ⟨b,off,none⟩) l.length cap)
 rw[ha1]at k0
 have k1:=k0.uA (some d.d1) (.int .i64 i)
 rw[ha2]at k1
 have k2:=k1.uA (some d.d2) (.slice (some ⟨b,off,none⟩) i cap)
 rw[ha3]at k2
 have k3:=k2.uA (some d.d3) (.slice (some ⟨b,off,none⟩) l.length cap)
 rw[ha4]at k3
 have k4:=k3.uA (some d.d4) (.int .i64 i)
 rw[ha5]at k4
 have k5:=k4.uA (some d.d5) (.int .i64 ((i+1:Nat):Int))
 rw[ha6]at k5
 have k6:=k5.uA (some d.d6) (.slice (some ⟨b,if cap=i+1 then off else off+(i+1)*e.sz,none⟩) (l.length-(i+1)) (cap-(i+1)))
 rw[ha7]at k6
 have k7:=k6.uA (some d.d7) (.slice (some ⟨b,off,none⟩) (l.length-1) cap)
 rw[ha8]at k7
 have hgood:∀c'∈(SV.d ⟨.sl e,l.take i++l.drop (i+1),.sl (.row tk [tk] true)⟩).sc,0<c'∧(c'<N∨c'=tk)∧G'.bx c'=false:=by
  intro c' hc'
  simp only[SV.sc,Sh.aE,M.aE,aho,ahL,or_false,or_self]at hc'
  subst hc'
  exact⟨by omega,.inr rfl,hbx'⟩
 have k8:=k7.put (some d.s) (sv:= .d ⟨.sl e,l.take i++l.drop (i+1),.sl (.row tk [tk] true)⟩) (v:= .slice (some ⟨b,off,none⟩) (l.length-1) cap) ⟨[_],rfl,_,rfl,hrow2⟩ hgood (by simp[SV.bt]) (by simp[SV.rt]) (by rintro _ _ ⟨⟩)
 refine hK _ _ _ k8 (fun x hx=> ?_)
 simp only[nT.outs,aho,ahL,or_false,not_or]at hx
 obtain⟨x0,x2,x3,x4,x5,x6,x7,x8,x9⟩:=hx
 rw[rK (by rw[s8];exact z0),if_neg x0,f8,if_neg x9,f7,if_neg x8,f6,if_neg x7,f5,if_neg x6,f4,if_neg x5,f3,if_neg x4,f2,if_neg x3,f1,if_neg x2]
theorem abW {ops:List Oper} {d:nT} (h:xz ops=some d):∀x∈d.outs,∃o∈ops,o.dst=some x:=by
 have h':xz ops.toArray.toList=some d:=by simpa using h
 obtain⟨o0,o1,o2,o3,o4,o5,o6,o7,o8,he,q0,q1,q2,q3,q4,q5,q6,q7,q8,_⟩:=Nj h'
 have he':ops=[o0,o1,o2,o3,o4,o5,o6,o7,o8]:=by
  have:=congrArg Array.toList he
  simpa using this
 subst he'
 intro x hx
 simp only[nT.outs,aho,ahL,or_false]at hx
 rcases hx with rfl|rfl|rfl|rfl|rfl|rfl|rfl|rfl|rfl
 ·exact⟨o8,by simp,(N4 q8).2.2⟩
 ·exact⟨o0,by simp,(lO q0).2.2⟩
 ·exact⟨o1,by simp,(lO q1).2.2⟩
 ·exact⟨o2,by simp,(RS q2).2.2⟩
 ·exact⟨o3,by simp,(lO q3).2.2⟩
 ·exact⟨o4,by simp,(lO q4).2.2⟩
 ·exact⟨o5,by simp,(LQ q5).2.2⟩
 ·exact⟨o6,by simp,(RP q6).2.2⟩
 ·exact⟨o7,by simp,(Mi q7).2.2⟩
theorem abI {io:List Nat} {ops:List Oper} (h:keeps io ops=true) {o:Oper} (ho:o∈ops) {x:Nat} (hx:o.dst=some x):x∉io:=by
 unfold keeps at h
 rw[ahn]at h
 have:=h o ho
 rw[hx]at this
 simpa using this
theorem abE {d:nT} {ts:List Nat} {tk:Nat} {e:Ty} {l:List e.den} {i:Nat}:(ID E d ts tk e l i).s.length=E.s.length:=by
 simp only[ID,Env.set,aiK]
 unfold Env.kill
 split
 ·rfl
 ·simp
theorem Xz {E:Env} {d:Nat} {sv:SV} (h:ur E.s) (hs:∀j w act v,sv≠ .g j w act v):ur (E.set (some d) sv).s:=by
 intro s j w act v
 simp only[Env.set,dE]
 split
 ·exact hs j w act v
 ·exact h s j w act v
theorem abq {d:nT} {ts:List Nat} {tk:Nat} {e:Ty} {l:List e.den} {i:Nat} (h:ur E.s):ur (ID E d ts tk e l i).s:=by
 have h0:ur (E.kill ts).s:=by
  intro s j w act v he
  obtain⟨v',h'⟩:=U6 he
  exact h s j w act v' h'
 unfold ID
 refine Xz ?_ (by rintro _ _ _ _ ⟨⟩)
 iterate 8 refine Xz ?_ (by rintro _ _ _ _ ⟨⟩)
 exact h0
section
variable {ρ:Type}
def OI (C:Cx) (d:nT) (n:Nat) (E:Env) (kn:Env→Option ρ):Option ρ:=
 match C.tt d.t,E.s.getD d.s .no,E.get d.j with
 |some ⟨.sl e,_,_⟩,.d ⟨.sl e',l',.sl m⟩,.d ⟨.int .i64,i,_⟩=>(match eU ⟨.sl e',l',.leaf⟩ (.sl e),m.own with
  |some l,some ts=>if decide (0≤i∧i<(((l:List e.den).length:Nat):Int)∧(l:List e.den).length<4294967296)=true then
   (match d.tmps.all (fun x=>decide (x<E.s.length))with
   |true=>kn {ID E d ts E.nt e l i.toNat with nt:=E.nt+32*n}
   |false=>none)
   else none
  |_,_=>none)
 |_,_,_=>none
end
theorem Yd {ρ:Type} (hC:CxTy P C) (hm:P.follows .mixedOrders=true) (hI:Inv w0 c0 (fun u=>u<E.nt) E a w G) (hg:ur E.s) (h3:4≤E.nt) {ops:Array Oper} {d:nT} (hd:xz ops.toList=some d) (hn:0<ops.size)
 {io:List Nat} (hkp:keeps io ops.toList=true) {kn:Env→Option ρ} {r:ρ} (h:OI C d ops.size E kn=some r) {id:Nat}
 (hK:∀E' a' w' G',Inv w0 c0 (fun u=>u<E'.nt) E' a' w' G'→ur E'.s→E'.s.length=E.s.length→4≤E'.nt→(∀i∈io,a'.tmps.getD i undef=a.tmps.getD i undef)→kn E'=some r→Q .normal a' w'):
 (Code.region id ops true).wp P Q a w:=by
 unfold OI at h
 split at h
 ·rename_i e fs el e' l' m i sh ht hs hj
  split at h
  ·rename_i l ts hcast ho
   have hcv:=cV hcast
   simp only[TV.mk.injEq]at hcv
   obtain⟨he,hl,_⟩:=hcv
   cases he
   cases hl
   split at h
   ·rename_i hc
    obtain⟨hc0',hc1',hc2⟩:=of_decide_eq_true hc
    have hc0: @LE.le Int Int.instLEInt 0 i:=hc0'
    have hc1: @LT.lt Int Int.instLTInt i ((List.length l:Nat):Int):=hc1'
    split at h
    ·rename_i hsz
     rw[ahn]at hsz
     have hi0:((i.toNat:Nat):Int)=i:=Int.toNat_of_nonneg hc0
     refine XT hC hm hI hd ht hs (i:=i.toNat) (sh:=sh) (by rw[hi0];exact hj) ho (by omega) hc2 (fun x hx=>of_decide_eq_true (hsz x hx)) h3 (ahJ _) (fun a' w' G' g1 g2=> ?_)
     refine hK {ID E d ts E.nt _ l i.toNat with nt:=E.nt+32*ops.size} a' w' G' ?_ (abq hg) abE (by show 4≤E.nt+32*ops.size;omega) (fun j hj=>g2 j (fun hin=> ?_)) h
     ·have:=g1.mono (U':=fun u=>u<E.nt+32*ops.size) (fun u hu=>by rcases hu with hu|hu<;>omega)
      exact {this with}
     ·obtain⟨o,ho',hx⟩:=abW hd j hin
      exact abI hkp ho' hx hj
    ·cases h
   ·cases h
  ·cases h
 ·cases h
end
abbrev tF:=FuncId→Option ma
def FA (M:tF) (o:Oper):Option (FuncId×ma×Nat×Nat):=
 match o.guard,o.op with
 |none,.call c=>(match c.callee,c.args.toList with
  | .value (.func f),[.tmp s,.tmp j]=>(match M f with|some m=>some (f,m,s,j)|none=>none)
  |_,_=>none)
 |_,_=>none
def L5 (M:tF) (o1 o2 o3:Oper):Option (FuncId×ma×TypeId×Nat×Nat×Nat×Nat):=
 match o1.guard,o1.op,o1.dst,o2.guard,o2.op,o2.dst with
 |none,.load t (.tmp p),some d1,none,.move (.tmp q),some d2=>(match FA M o3 with
  |some (f,m,s,j)=>(match decide (s=d1∧j=d2∧d1≠d2∧q≠d1)with|true=>some (f,m,t,p,q,d1,d2)|false=>none)
  |none=>none)
 |_,_,_,_,_,_=>none
inductive jF where
 |one (o:Oper)
 |nest (o1 o2 o3:Oper)
def jF.ops:jF→List Oper
 | .one o=>[o]
 | .nest o1 o2 o3=>[o1,o2,o3]
def steps (M:tF):List Oper→List jF
 |o1::o2::o3::l=>match L5 M o1 o2 o3 with
  |some _=> .nest o1 o2 o3::steps M l
  |none=> .one o1::steps M (o2::o3::l)
 | [o1,o2]=>[.one o1,.one o2]
 | [o1]=>[.one o1]
 | []=>[]
theorem EP (M:tF):∀l:List Oper,(steps M l).flatMap jF.ops=l
 |o1::o2::o3::l=>by
  simp only[steps]
  split
  ·simp only[aiz,jF.ops,EP M l];rfl
  ·simp only[aiz,jF.ops,EP M (o2::o3::l)];rfl
 | [_,_]=>rfl
 | [_]=>rfl
 | []=>rfl
def ad1 (m:ma) (s j:Nat) (E:Env):Option (m.τ.den×Sh×Int):=
 match E.get s,E.get j with
 | .d v,.d ⟨.int .i64,n,_⟩=>(match eU v m.τ,nf v.sh with
   |some x,some _=>some (x,v.sh,n)
   |_,_=>none)
 |_,_=>none
structure aed (m:ma) where
 b:Nat
 e:Ty
 l:List e.den
 i:Int
 path:List Bool
 x:m.τ.den
 n:Int
def acj (tt:TypeId→Option TI) (m:ma) (t:TypeId) (p q d1 d2:Nat) (E:Env):Option (aed m):=
 match tt t,E.get p,E.get q with
 |some ti,.ept b e i o path _,.d ⟨.int .i64,n,_⟩=>(match dx b e E.s with
  |some (l,hs,nd)=>(match nd&&hs.all (·==b)&&decide (e.off path=o)&&decide (ti.τ=m.τ)&&decide (d1<E.s.length∧d2<E.s.length),eA e (l.getD i.toNat e.aa) (fD e (.sha [])) path with
   |true,some r=>(match eU r m.τ with|some x=>some ⟨b,e,l,i,path,x,n⟩|none=>none)
   |_,_=>none)
  |none=>none)
 |_,_,_=>none
def adR (tt:TypeId→Option TI) (m:ma) (t:TypeId) (p q d1 d2:Nat) (E:Env):Option (m.τ.den×Sh×Int):=
 match tt t,bA (E.get p),E.get q with
 |some ti,.ptr b o path _,.d ⟨.int .i64,n,_⟩=>(match cW E.s b 0 with
  |some (_,v)=>(match decide (v.τ.off path=o)&&decide (ti.τ=m.τ)&&decide (d1<E.s.length∧d2<E.s.length),eA v.τ v.x v.sh path with
   |true,some r=>(match eU r m.τ,nf r.sh with|some x,some _=>some (x,r.sh,n)|_,_=>none)
   |_,_=>none)
  |none=>none)
 |_,_,_=>none
def aec:SV→Bool
 | .ptr ..=>true
 |_=>false
def untold (C:Cx) (o:Oper):Bool:=
 match o.guard,o.op with
 |none,.assign (.const _)=>(C.tt o.type).isNone
 |_,_=>false
def Env.Gj (E:Env) (gv:List Nat) (b:Nat) (e:Ty) (l:List e.den):Env:=
 {E with s:=E.s.map fun s=>(((s.bw b).setRow b e l (.row b (b::gv) true)).aS gv b)}
section
variable {ρ:Type}
def I7 (o:Oper) (a:Option Bool) (E:Env) (k:Env→Option ρ) (ef:Ef):Option ρ:=
 match ef,a with
 | .call _ x tks f rp,some b=>if b=true then x.bind (fun r=>k (Env.set {E.bS tks (rp r)with s:=bu (f r).2 (E.bS tks (rp r)).s} o.dst (dh o.guard (some true) (f r).1)))else k (E.set o.dst (dh o.guard (some false) (vB false)))
 | .elem (g::gv) b e l _,none=>(match o.dst,o.op with|none,.store _ _ _=>k (E.Gj (g::gv) b e l)|_,_=>none)
 |ef,a=>mn o a E k ef
def qc (C:Cx) (M:tF) (ops:List Oper) (nt:Nat):List jF→Nat→Env→(Env→Option ρ)→Option ρ
 | [],_,E,k=>k E
 | .one o::l,i,E,k=>match FA M o with
   |some (_,m,s,j)=>(match ad1 m s j E with
    |some (x,sh,n)=>(m.F x n).bind fun r=>qc C M ops nt l (i+1) ((E.mark (rowsOf m.τ r.2 sh)).set o.dst (vI .i64 r.1)) k
    |none=>none)
   |none=>match untold C o with
    |true=>qc C M ops nt l (i+1) (E.set o.dst .no) k
    |false=>match guardOf ops E.rd o.guard with
     |none=>none
     |some a=>match iK C ops E.rd (nt+32*i) o.guard o with
      |none=>none
      |some ef=>I7 o a E (fun E'=>qc C M ops nt l (i+1) E' k) ef
 | .nest o1 o2 o3::l,i,E,k=>match L5 M o1 o2 o3 with
   |some (_,m,t,p,q,d1,d2)=>match aec (bA (E.get p))with
    |true=>(match adR C.tt m t p q d1 d2 E with
     |some (x,sh,n)=>(m.F x n).bind fun r=>qc C M ops nt l (i+3) ((((E.mark (rowsOf m.τ r.2 sh)).set (some d1) .no).set (some d2) .no).set o3.dst (vI .i64 r.1)) k
     |none=>none)
    |false=>(match acj C.tt m t p q d1 d2 E with
     |some d=>(m.F d.x d.n).bind fun r=>match eL d.e (d.l.getD d.i.toNat d.e.aa) (fD d.e (.sha [])) d.path ⟨m.τ,r.2,fD m.τ (.sha [])⟩with
      |some y=>qc C M ops nt l (i+3) ((((E.mark [⟨d.b,d.e,d.l.set d.i.toNat y.1⟩]).set (some d1) .no).set (some d2) .no).set o3.dst (vI .i64 r.1)) k
      |none=>none
     |none=>none)
   |none=>none
def mF (C:Cx) (M:tF):Code→Env→(Env→Option ρ)→List (Nat×(Env→Option ρ))→(Env→Option ρ)→Option ρ
 | .skip,E,kn,_,_=>kn E
 | .region _ ops draw,E,kn,_,_=>match fq ops.toList&&keeps C.io ops.toList with
   |true=>(match draw with
    |true=>(match xz ops.toList with
     |some d=>OI C d ops.size E kn
     |none=>Ah C ops.toList E.nt ops.toList 0 E [] (fun E' L=>match sD ops.toList L with|true=>kn {jz E' ops.toList with nt:=E.nt+32*ops.size}|false=>none))
    |false=>qc C M ops.toList E.nt (steps M ops.toList) 0 E (fun E'=>kn {jz E' ops.toList with nt:=E.nt+32*ops.size}))
   |false=>none
 | .seq a b,E,kn,ke,kr=>
   match(ix b).bind C.ja with
   |none=>mF C M a E (fun E'=>mF C M b E' kn ke kr) ke kr
   |some n=>aL (fun J=>mF C M a E (fun E'=>match proj n E' with|some t=>J t|none=>none) ke kr) (fun t=>mF C M b (eB C.n n t) kn ke kr)
 | .cond c x y,E,kn,ke,kr=>
   match arg C E.rd none 0 c with
   |some (.d ⟨.bool,b,_⟩)=>if b=true then mF C M x E kn ke kr else mF C M y E kn ke kr
   |_=>none
 | .block id c,E,kn,ke,kr=>mF C M c E kn ((id,kn)::ke) kr
 | .loop c,E,_,ke,kr=>
   match(ix c).bind C.la with
   |none=>none
   |some n=>match proj n E with
    |some t=>aH C.k (fun G t=>mF C M c (eB C.n n t) (fun E'=>match proj n E' with|some t=>G t|none=>none) ke kr) t
    |none=>none
 | .exit id,E,_,ke,_=>match ke.lookup id with|some k=>k E|none=>none
 | .ret,E,_,_,kr=>kr E
 |_,_,_,_,_=>none
end
def NR (P:Program) (M:tF):Prop:=∀f m,M f=some m→Gb P f m
section
variable {P:Program} {C:Cx} {M:tF} {w0:World} {c0:C0} {U:Nat→Prop} {E:Env} {a:Act} {w:World} {G:Gh} {ops:List Oper} {L:Nat→Prop} {Q:Exit→Act→World→Prop} {ρ:Type}
theorem HX {o:Oper} {f:FuncId} {m:ma} {s j:Nat} (h:FA M o=some (f,m,s,j)):
 o.guard=none∧M f=some m∧∃c:Call,o.op= .call c∧c.callee= .value (.func f)∧c.args.toList=[.tmp s,.tmp j]:=by
 unfold FA at h
 split at h
 ·rename_i c hg ho
  split at h
  ·rename_i f' s' j' hc ha
   split at h
   ·rename_i m' hm
    cases h
    exact⟨hg,hm,c,ho,hc,ha⟩
   ·cases h
  ·cases h
 ·cases h
theorem WW {o1 o2 o3:Oper} {f:FuncId} {m:ma} {t:TypeId} {p q d1 d2:Nat} (h:L5 M o1 o2 o3=some (f,m,t,p,q,d1,d2)):
 o1.guard=none∧o1.op= .load t (.tmp p)∧o1.dst=some d1∧o2.guard=none∧o2.op= .move (.tmp q)∧o2.dst=some d2∧d1≠d2∧q≠d1∧FA M o3=some (f,m,d1,d2):=by
 unfold L5 at h
 split at h
 ·rename_i t' p' d1' q' d2' h1 h2 h3 h4 h5 h6
  split at h
  ·rename_i f' m' s' j' hc
   split at h
   ·rename_i hd
    simp only[decide_eq_true_eq]at hd
    cases h
    obtain⟨rfl,rfl,e1,e2⟩:=hd
    exact⟨h1,h2,h3,h4,h5,h6,e1,e2,hc⟩
   ·cases h
  ·cases h
 ·cases h
theorem Mh {o:Oper} {c:Call} {f:FuncId} (ho:o.op= .call c) (hc:c.callee= .value (.func f)) {R:Value→World→Prop} {K:Act→World→Prop} (h:sL P f (c.args.map a.eval) w R)
 (hK:∀v w',R v w'→K (a.put o.dst v) w'):o.wp P a w K Q:=by
 have hrun:(execOp a.eval o).run P w=(callFunc f (c.args.map a.eval)).run P w:=by
  simp only[execOp,ho]
  simp[resolve,hc,Deferred.ofValue,Act.eval,invoke]
 refine nU (R:=R) ?_ hK
 rw[hrun]
 exact h
theorem IC (hI:Inv w0 c0 U E a w G) {j:Nat} {n:Int} {sh:Sh} (h:E.get j= .d ⟨.int .i64,n,sh⟩):a.tmps.getD j undef= .int .i64 n:=by
 have hs:=hI.slots j
 have h':E.s.getD j .no= .d ⟨.int .i64,n,sh⟩:=h
 rw[h']at hs
 obtain⟨cs,h1,h2⟩:=hs
 cases sh with
 |leaf=>rw[h1,show cs=_ from h2];rfl
 |sl m=>exact h2.elim
 |pair a b=>exact h2.elim
theorem Uc {L':List ve}:∀s j w act v,(E.mark L').s.getD s .no≠ .g j w act v:=by
 intro s j w act v
 have:=getD_map (L:=E.s) (T:=SV.mark L') rfl s
 show(E.s.map (SV.mark L')).getD s .no≠_
 rw[this]
 exact adq
theorem NS {E:Env} {d:Option Nat} {sv:SV} (h:∀s j w act v,E.s.getD s .no≠ .g j w act v) (hs:∀j w act v,sv≠ .g j w act v):∀s j w act v,(E.set d sv).s.getD s .no≠ .g j w act v:=by
 intro s j w act v
 cases d with
 |none=>exact h s j w act v
 |some d=>
  simp only[Env.set,dE]
  split
  ·exact hs j w act v
  ·exact h s j w act v
theorem VL (L':List ve):(E.mark L').s.length=E.s.length:=by simp[Env.mark]
theorem Inv.ac7 (hI:Inv w0 c0 U E a w G) (d:Option Nat) (n:Int):Inv w0 c0 U (E.set d (vI .i64 n)) (a.put d (.int .i64 n)) w G:=by
 have hm:=Uq (U:=U) (G:=G) .i64 n
 exact hI.put d (ok_int .i64 n) hm.1 hm.2.1 hm.2.2 (by rintro _ _ ⟨⟩)
theorem Inv.Yq (hI:Inv w0 c0 U E a w G) (d:Option Nat) (v:Value):Inv w0 c0 U (E.set d .no) (a.put d v) w G:=
 hI.put d (sv:= .no) trivial (by simp[SV.sc]) (by simp[SV.bt]) (by simp[SV.rt]) (by rintro _ _ ⟨⟩)
theorem Ur (d:Option Nat) (v:Value) (s:Nat) (h:d≠some s):(a.put d v).tmps.getD s undef=a.tmps.getD s undef:=by
 cases d with
 |none=>rfl
 |some d=>
  have:d≠s:=fun e=>h (by rw[e])
  simp[Act.put,ahH,ah2 this]
end
end Vg
