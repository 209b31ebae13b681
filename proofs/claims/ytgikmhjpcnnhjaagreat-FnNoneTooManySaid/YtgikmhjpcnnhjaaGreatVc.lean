/- VG, joined: an evaluator of the code over typed values, and its soundness, for any program. -/
import Derived.Test.YtgikmhjpcnnhjaaGreatVb
import Derived.LoopN
import Derived.WalkKit
import Derived.ProofKit
import Derived.OpenShut
import Derived.JoinedCond
import Derived.Carry
import Derived.Test.YtgikmhjpcnnhjaaGreatVa
set_option linter.unusedSimpArgs false
set_option linter.unusedVariables false
set_option linter.unusedSectionVars false
open List renaming mem_append -> l8,all_eq_true -> s_,mem_cons -> si,getD_eq_getElem?_getD -> J4,getD_cons_succ -> F_,contains_eq_mem -> G7,nodup_append -> G8,getElem?_eq_getElem -> VG,mem_cons_of_mem -> ae2,mem_map -> G_,mem_singleton -> ae7,getElem?_eq_some_iff -> ae8,nodup_cons -> afa,getD_cons_zero -> afc,mem_flatMap -> afd,mem_append_right -> aff,not_mem_nil -> afi,map_congr_left -> afj,getElem?_cons_succ -> afk,drop_drop -> afm,getElem?_eq_none -> afn,length_cons -> afo,mem_append_left -> afq,mem_filterMap -> afs,getElem?_take -> aft,length_append -> afu,append_assoc -> afv,take_of_length_le -> afw,length_singleton -> afx,take_append_drop -> afy,mem_filter -> afA,pairwise_append -> afB,mem_of_getElem? -> afC,drop_append_of_le_length -> afD,mem_zipIdx_iff_getElem? -> afE,pairwise_cons -> afG,getElem?_drop -> afH,filter_congr -> afJ,isEmpty_iff -> afM,map_map -> afN,getElem?_cons_zero -> afO,map_append -> afP,append_nil -> afQ,lookup -> afT,take_take -> afU,getElem?_toArray -> afV,replicate -> afW,map_cons -> afY,mem_cons_self -> af1,getElem?_map -> af3,flatMap_cons -> af6,range' -> af7,any_eq_true -> af8,flatMap_map -> af9,flatMap_def -> aga,range'_succ -> agc,cons_append -> agd,head?_drop -> agf,length_set -> agi,filterMap -> agk,drop_zero -> agl,drop_take -> agm
open Bool renaming and_eq_true -> q_,or_eq_true -> ae6,not_eq_true' -> afb,false_eq_true -> afF,eq_iff_iff -> age
open Option.some renaming injEq -> aeT
open Option renaming bind_eq_some_iff -> V_,isSome_iff_exists -> afh,map_eq_some_iff -> afl,bind_assoc -> af4,bind_some -> agb
open Nat renaming mul_le_mul_right -> ae3,add_mul -> N_,le_refl -> afg,one_mul -> afr,lt_or_ge -> afK,sub_zero -> afL,min_eq_left -> afS,eq_zero_or_pos -> af0,lt_of_lt_of_le -> af2,not_lt -> agh
open Prod.mk renaming injEq -> ae5
open Array renaming getD_eq_getD_getElem? -> afe,getD -> afp,getElem?_setIfInBounds_ne -> afz,getElem?_append_left -> afI,replicate -> afR,getElem?_toList -> afX,ext' -> agj
open Function renaming comp_apply -> afZ
open Int renaming toNat_natCast -> af5
namespace Vg
open Go
theorem AJ{a b:List Nat}(h:∀c∈a,c∉b):meets a b=false:=by
 simp only[meets,List.any_eq_false,G7,b_];exact h
theorem Kl(ts X:List Nat):IK X (M.kill ts) (!ts.contains ·) (fun hs=>if meets hs ts then none else some hs) where
 m m:=by
   unfold M.kill;split;exact .inr (.inl rfl);exact .inl rfl
 r hs hs' h:=by
   split at h;cases h;cases h;exact .inl rfl
theorem Is{ts:List Nat}{v:SV}(h:∀c∈v.eE,c∉ts):v.kill ts=v:=
 SV.stays (X:=ts) (fun m hm=>by unfold M.kill;rw[AJ hm];rfl) (fun t d=>by simpa using d) (fun hs e=>by simp[AJ e]) h
theorem IB{a b:List Nat}(h:meets a b=true):∃c,c∈a/\c∈b:=by
 simp only[meets,af8,G7,b_]at h;exact h
theorem yz{ts hs:List Nat}{t:Nat}(h:meets hs ts=true):t∈ub ts t hs:=by
 obtain⟨c,d,e⟩:=IB h;have:=yt (ts:=ts) (t:=t) d;rwa [an e]at this
theorem IH{ts X:List Nat}{t:Nat}(e:t∈X):IK X (M.aO ts t) (!ts.contains ·) (fun hs=>some (if meets hs ts then ub ts t hs else hs)) where
 m m:=by
   unfold M.aO;split;rename_i hm;right;right;refine⟨t,e,?_⟩;cases m with
   |row u hs nd=>
    simp only[M.u4];split;exact yz hm;rename_i hu
    have:meets hs ts=true:=by
     obtain⟨c,d,f⟩:=IB hm;simp only[M.ar,si]at d;rcases d with rfl|d;simp only[G7,b_]at hu;exact absurd f hu;simp only[meets,af8,G7,b_];exact⟨c,d,f⟩
    simp only[M.ar,si];exact .inr (yz this)
   |sha hs=>exact yz hm
   |nst b E i o p fr=>exact yz hm
   |dead=>simp[M.ar,meets]at hm
   exact .inl rfl
 r hs hs' h:=by
   simp only[aeT]at h;subst h;split;rename_i hm;exact .inr ⟨t,e,yz hm⟩;exact .inl rfl
theorem Iz{ts:List Nat}{t:Nat}{v:SV}(h:∀c∈v.eE,c∉ts):v.aO ts t=v:=
 SV.stays (X:=ts) (fun m hm=>by unfold M.aO;rw[AJ hm];rfl) (fun t d=>by simpa using d) (fun hs e=>by simp[AJ e]) h
theorem NR(b:Nat)(X:List Nat):IK X (M.bJ b) (fun _=>true) (fun hs=>if hs.contains b then none else some hs) where
 m m:=by
   cases m with
   |row u hs nd=>
    simp only[M.bJ];split;exact .inl rfl;split;exact .inr (.inl rfl);exact .inl rfl
   |sha hs=>
    simp only[M.bJ];split;exact .inr (.inl rfl);exact .inl rfl
   |nst b' E i o p fr=>
    simp only[M.bJ];split;exact .inr (.inl rfl);exact .inl rfl
   |dead=>exact .inl rfl
 r hs hs' h:=by
   split at h;cases h;cases h;exact .inl rfl
theorem NS{b:Nat}{v:SV}(h:∀c∈v.eE,c∉ [b]):v.bJ b=v:=
 SV.stays (X:=[b]) (fun m hm=>by
  cases m with
  |row u e nd=>
   simp only[M.bJ];split;rfl;rw[a_];simp only[G7,b_];intro d;exact hm b (by simp[M.ar,d]) (by simp)
  |sha e=>
   simp only[M.bJ];rw[a_];simp only[G7,b_];intro d;exact hm b (by simp[M.ar,d]) (by simp)
  |nst b' E i o p fr=>
   simp only[M.bJ];rw[a_];intro d;exact hm b (by simp[M.ar,d]) (by simp)
  |dead=>rfl) (fun _ _=>rfl) (fun e f=>by
  rw[a_];simp only[G7,b_];intro d;exact f b d (by simp)) h
theorem xZ{b:Nat}{e:Ty}{y:List e.den}{m:M}:∀ {τ:Ty} {x:τ.den} {sh:Sh},b∉sh.ar->iE b e y m τ x sh=(x,sh)
 | .sl e',l,.sl (.row u hs nd),h=>by
   have:u≠b:=fun e=>h (by simp[Sh.ar,M.ar,e]);simp only[iE,this,if_false]
 | .pair a c,p,.pair s1 s2,h=>by
   simp only[Sh.ar,l8,not_or]at h;simp only[iE,xZ h.1,xZ h.2]
 | .sl _,_,.sl (.nst _ _ _ _ _ _),_| .sl _,_,.leaf,_| .sl _,_,.pair _ _,_| .sl _,_,.sl (.sha _),_| .sl _,_,.sl .dead,_
 | .int _,_,.leaf,_| .int _,_,.sl _,_| .int _,_,.pair _ _,_| .bool,_,.leaf,_| .bool,_,.sl _,_| .bool,_,.pair _ _,_
 | .str,_,.leaf,_| .str,_,.sl _,_| .str,_,.pair _ _,_| .pair _ _,_,.leaf,_| .pair _ _,_,.sl _,_=>rfl
theorem yb{b:Nat}{e:Ty}{y:List e.den}{m:M}(hm:b∈m.ar):∀ {τ:Ty} {x:τ.den} {sh:Sh},(iE b e y m τ x sh).2.live=true->b∉(iE b e y m τ x sh).2.ar->iE b e y m τ x sh=(x,sh)
 | .sl e',l,.sl (.row u hs nd),hl,hc=>by
   simp only[iE]at hl hc|-;split;rename_i hu;rw[an hu]at hl hc;split;rename_i he;rw[dif_pos he]at hc;exact absurd hm hc;rename_i he;rw[dif_neg he]at hl;cases hl;rfl
 | .pair a c,p,.pair s1 s2,hl,hc=>by
   simp only[iE,Sh.live,q_,Sh.ar,l8,not_or]at hl hc;simp only[iE,yb hm hl.1 hc.1,yb hm hl.2 hc.2]
 | .sl _,_,.sl (.nst _ _ _ _ _ _),_,_| .sl _,_,.leaf,_,_| .sl _,_,.pair _ _,_,_| .sl _,_,.sl (.sha _),_,_| .sl _,_,.sl .dead,_,_
 | .int _,_,.leaf,_,_| .int _,_,.sl _,_,_| .int _,_,.pair _ _,_,_| .bool,_,.leaf,_,_| .bool,_,.sl _,_,_| .bool,_,.pair _ _,_,_
 | .str,_,.leaf,_,_| .str,_,.sl _,_,_| .str,_,.pair _ _,_,_| .pair _ _,_,.leaf,_,_| .pair _ _,_,.sl _,_,_=>rfl
theorem TV.mh{b:Nat}{e:Ty}{y:List e.den}{m:M}{v:TV}(h:b∉v.sh.ar):v.setRow b e y m=v:=by
 unfold TV.setRow;rw[xZ h]
theorem TV.ma{b:Nat}{e:Ty}{y:List e.den}{m:M}(hm:b∈m.ar){v:TV}(h:(v.setRow b e y m).sh.live=true)(hc:b∉(v.setRow b e y m).sh.ar):v.setRow b e y m=v:=by
 unfold TV.setRow at h hc|-;rw[yb hm h hc]
theorem mh{b:Nat}{e:Ty}{y:List e.den}{m:M}:∀ {v:SV},b∉v.eE->v.setRow b e y m=v
 | .no,_| .ptr ..,_| .ept ..,_=>rfl
 | .d v,h=>by simp only[SV.setRow];rw[TV.mh h]
 | .box t v,h=>by simp only[SV.setRow];rw[TV.mh (fun c=>h (by simp[SV.eE,c]))]
 | .rdp hs v,h=>by
   simp only[SV.setRow];rw[a_];simpa[SV.eE]using h
 | .tup l,h=>by
   simp only[SV.setRow];congr 1
   conv=>rhs;rw[<-List.map_id l]
   refine afj (fun v f=>TV.mh (fun c=>h ?_));simp only[SV.eE,afd];exact⟨v,f,c⟩
 | .g j w a v,h=>by simp only[SV.setRow];rw[mh (v:=v) h]
theorem ma{b:Nat}{e:Ty}{y:List e.den}{m:M}(hm:b∈m.ar):∀ {v:SV},(v.setRow b e y m).clean=true->b∉(v.setRow b e y m).eE->v.setRow b e y m=v
 | .no,h,_=>by cases h
 | .ptr ..,_,_| .ept ..,_,_=>rfl
 | .d v,h,hc=>by simp only[SV.setRow];rw[TV.ma hm h hc]
 | .box t v,h,hc=>by simp only[SV.setRow];rw[TV.ma hm h (fun c=>hc (by simp[SV.setRow,SV.eE,c]))]
 | .rdp hs v,h,hc=>by
   simp only[SV.setRow]at h|-;split;rename_i c;rw[an c]at h;cases h;rfl
 | .tup l,h,hc=>by
   simp only[SV.setRow];congr 1
   conv=>rhs;rw[<-List.map_id l]
   refine afj (fun v f=> ?_);simp only[SV.setRow,SV.clean,List.all_map,s_,afZ]at h;refine TV.ma hm (h v f) (fun c=>hc ?_);simp only[SV.setRow,SV.eE,af9,afd];exact⟨v,f,c⟩
 | .g j w a v,h,hc=>by simp only[SV.setRow];rw[ma hm (v:=v) h hc]
theorem Tr.stays{T:Tr}{v:SV}(h:∀c∈v.eE,c∉T.fG):T.sv v=v:=by
 cases T with
 |id=>rfl
 |kg u D t=>
  simp only[Tr.fG,si,l8,not_or]at h;simp only[Tr.sv,eS,ky]
  have B:(if u.isEmpty=true then v else v.kill u)=v:=by
   split;rfl;exact Is (fun c hc=>(h c hc).2.1)
  rw[B];split;rfl;exact Iz (fun c hc=>(h c hc).2.2)
 |el D b e l m=>
  simp only[Tr.fG,si,not_or]at h;simp only[Tr.sv];rw[Iz (fun c hc=>(h c hc).2),NS (fun c hc=>by simpa using(h c hc).1),mh (fun hc=>(h b hc).1 rfl)]
 |ki y rp=>
  simp only[Tr.fG,l8,not_or]at h
  have q:(if y.isEmpty=true then v else v.kill y)=v:=by
   split;rfl;exact Is (fun c hc=>(h c hc).1)
  simp only[Tr.sv,eS];split;exact q;cases v with
  |ept b e i o p τ=>
   simp only[SV.cm];split;rename_i z A;exact absurd (G_.2 ⟨(b,z),gK A,rfl⟩) (h b (by simp[SV.eE])).2.1;exact q
  |_=>exact q
theorem Tr.lp{T:Tr}(N:T.ok=true){v:SV}(q:(T.sv v).clean=true)(h:∀c∈(T.sv v).eE,c∉T.fG):T.sv v=v:=by
 cases T with
 |id=>rfl
 |kg J A t=>
  simp only[Tr.sv,eS,ky]at q h|-;generalize D:(if J.isEmpty=true then v else v.kill J)=v1 at q h|-
  have I:(if A.isEmpty=true then v1 else v1.aO A t)=v1:=by
   split;rfl;rename_i O;rw[a_ O]at q h;exact SV.lp (IH (X:=[t]) (by simp)) q (fun c hc z=>h c hc (by simp only[ae7]at z;simp[Tr.fG,z]))
  rw[I]at q h|-;rw[<-D]at q h|-;split;rfl;rename_i y;rw[a_ y]at q h;exact SV.lp (Kl J []) q (by simp)
 |el A b e l m=>
  simp only[Tr.ok,G7,b_]at N;simp only[Tr.sv]at q h|-;have I:=ma N q (fun hc=>h b hc (by simp[Tr.fG]));rw[I]at q h|-;have R:(v.aO A b).bJ b=v.aO A b:=SV.lp (NR b []) q (by simp);rw[R]at q h|-;exact SV.lp (IH (X:=[b]) (by simp)) q (fun c hc z=>h c hc (by simp only[ae7]at z;simp[Tr.fG,z]))
 |ki B rp=>
  have y:(if B.isEmpty=true then v else v.kill B).clean=true->(if B.isEmpty=true then v else v.kill B)=v:=by
   intro q;split;rfl;rename_i y;rw[a_ y]at q;exact SV.lp (Kl B []) q (by simp)
  simp only[Tr.sv,eS]at q h|-;split;rename_i he;rw[an he]at q;exact y q;rename_i he;rw[a_ he]at q h;cases v with
  |ept b e i o p τ=>
   simp only[SV.cm]at q h|-;split;rename_i K u;rw[u]at h;exact absurd (by simp only[Tr.fG,l8,G_];exact .inr (.inr ⟨(b,K),gK u,rfl⟩)) (h K (by simp[SV.eE]));rename_i u;rw[u]at q;exact y q
  |_=>exact y q
theorem nE{T:Tr}(h:T.pM=true)(v:SV):T.sv v=v:=by
 cases T with
 |id=>rfl
 |kg ks c t=>
  simp only[Tr.pM,q_]at h;simp only[Tr.sv,eS,ky,h.1,h.2,if_true]
 |el c b e l m=>simp[Tr.pM]at h
 |ki ts rp=>simp only[Tr.pM,q_]at h;simp only[Tr.sv,eS,h.1,h.2,if_true]
theorem Y4(T:Tr):T.sv .no= .no:=by
 cases T with
 |id=>rfl
 |kg ks c t=>simp only[Tr.sv,eS,ky];split<;>split<;>rfl
 |el c b e l m=>rfl
 |ki ts rp=>simp only[Tr.sv,eS,SV.cm];split<;>split<;>rfl
theorem QU:∀(ws:List (Nat×SV)) (L:List SV),(cN ws L).length=L.length
 | [],_=>rfl
 |p::ws,L=>by
  show(cN ws (L.set p.1 p.2)).length=L.length;rw[QU ws];simp
theorem PO:∀(ws:List (Nat×SV)) (L:List SV) (s:Nat),(∀p∈ws,p.1≠s)->(cN ws L).getD s .no=L.getD s .no
 | [],_,_,_=>rfl
 |p::ws,L,s,h=>by
  show(cN ws (L.set p.1 p.2)).getD s .no=L.getD s .no;rw[PO ws _ s (fun q c=>h q (by simp[c])),dF,a_];rintro⟨e,_⟩;exact h p (by simp) e.symm
theorem Zp{E:Env}{T:Tr}{ws:List (Nat×SV)}{s:Nat}(h:∀p∈ws,p.1≠s):(E.gE (T,ws)).s.getD s .no=T.sv (E.s.getD s .no):=by
 simp only[Env.gE];rw[PO ws _ s h,getD_map (Y4 T)]
def cE(t:Nat):SV->Bool
 | .box u _=>u=t
 |_=>false
theorem DT:∀(L:List SV) (t k s:Nat) (v:TV),dE L t k=some (s,v)↔k<=s/\L.getD (s-k) .no= .box t v/\∀j,j<s-k->cE t (L.getD j .no)=false
 | [],t,k,s,v=>by simp[dE]
 |x::L,t,k,s,v=>by
  have step:(∀u,x≠ .box t u)->(dE (x::L) t k=some (s,v)↔dE L t (k+1)=some (s,v)):=by
   intro h;cases x with
   |box u y=>
    simp only[dE];rw[a_];intro e;exact h y (by rw[e])
   |_=>rfl
  by_cases l:∃u,x= .box t u;obtain⟨u,rfl⟩:=l;simp only[dE,if_true,aeT,ae5];constructor;rintro⟨rfl,rfl⟩;exact⟨afg _,by simp,fun j g=>by omega⟩;rintro⟨m,c,f⟩
  have n:s-k=0:=by
   rcases af0 (s-k)with h|h;exact h;have:=f 0 h;simp[cE]at this
  rw[n]at c;simp only[afc,SV.box.injEq,true_and]at c;exact⟨by omega,c⟩;have d:∀u,x≠ .box t u:=fun u e=>l ⟨u,e⟩;rw[step d,DT L t (k+1) s v]
  have p:cE t x=false:=by
   cases x with
   |box u y=>simp only[cE,d_];intro e;exact d y (by rw[e])
   |_=>rfl
  constructor;rintro⟨m,c,f⟩;refine⟨by omega,?_,fun j g=> ?_⟩;rw[show s-k=(s-(k+1))+1 by omega,F_];exact c;cases j with
  |zero=>simpa using p
  |succ j=>rw[F_];exact f j (by omega)
  rintro⟨m,c,f⟩
  have q:k+1<=s:=by
   rcases afK k s with h|h;exact h;rw[show s-k=0 by omega]at c;simp only[afc]at c;exact absurd c (d v)
  refine⟨q,?_,fun j g=> ?_⟩;rw[show s-k=(s-(k+1))+1 by omega,F_]at c;exact c;have:=f (j+1) (by omega);rwa [F_]at this
theorem P8{L L':List SV}{t s:Nat}{v:TV}(h:dE L t 0=some (s,v))(hs:L'.getD s .no=L.getD s .no)(f:∀j,cE t (L'.getD j .no)=cE t (L.getD j .no)):dE L' t 0=some (s,v):=by
 rw[DT]at h|-;obtain⟨g,c,d⟩:=h;simp only[afL]at c d|-;exact⟨g,by rw[hs];exact c,fun j e=>by rw[f];exact d j e⟩
def rowAt(t:Nat)(e:Ty):SV->Option (List e.den×List Nat×Bool)
 | .d v| .box _ v=>ik t e v.τ v.x v.sh
 |_=>none
theorem wk:∀(L:List SV) (t:Nat) (e:Ty) (k s:Nat),eZ t e L k=some s↔k<=s/\(rowAt t e (L.getD (s-k) .no)).isSome/\∀j,j<s-k->rowAt t e (L.getD j .no)=none
 | [],t,e,k,s=>by simp[eZ,rowAt]
 |x::L,t,e,k,s=>by
  have f:eZ t e (x::L) k=if(rowAt t e x).isSome then some k else eZ t e L (k+1):=by
   cases x<;>rfl
  rw[f];by_cases d:(rowAt t e x).isSome=true;rw[an d];simp only[aeT];constructor;rintro rfl;exact⟨afg _,by simpa using d,fun j m=>by omega⟩;rintro⟨n,c,l⟩;rcases af0 (s-k)with h|h;omega;have:=l 0 h;simp only[afc]at this;rw[this]at d;cases d;rw[a_ d,wk L t e (k+1) s];have g:rowAt t e x=none:=by simpa using d
  constructor;rintro⟨n,c,l⟩;refine⟨by omega,?_,fun j m=> ?_⟩;rw[show s-k=(s-(k+1))+1 by omega,F_];exact c;cases j with
  |zero=>simpa using g
  |succ j=>rw[F_];exact l j (by omega)
  rintro⟨n,c,l⟩
  have p:k+1<=s:=by
   rcases afK k s with h|h;exact h;rw[show s-k=0 by omega]at c;simp only[afc,g]at c;cases c
  refine⟨p,?_,fun j m=> ?_⟩;rw[show s-k=(s-(k+1))+1 by omega,F_]at c;exact c;have:=l (j+1) (by omega);rwa [F_]at this
theorem wC:∀(L:List SV) (t:Nat) (e:Ty) (k s:Nat),eZ t e L k=some s->eB t e L=rowAt t e (L.getD (s-k) .no)
 | [],t,e,k,s,h=>by simp[eZ]at h
 |x::L,t,e,k,s,h=>by
  have c:eZ t e (x::L) k=if(rowAt t e x).isSome then some k else eZ t e L (k+1):=by
   cases x<;>rfl
  have g:eB t e (x::L)=match rowAt t e x with|some r=>some r|none=>eB t e L:=by
   cases x<;>rfl
  rw[c]at h;by_cases d:(rowAt t e x).isSome=true;rw[an d]at h;simp only[aeT]at h;subst h;rw[g];obtain⟨r,j⟩:=afh.1 d;simp[j];rw[a_ d]at h;have f:rowAt t e x=none:=by simpa using d
  rw[g,f];have hs:=(wk L t e (k+1) s).1 h;rw[show s-k=(s-(k+1))+1 by omega,F_];exact wC L t e (k+1) s h
theorem QO{L L':List SV}{t s:Nat}{e:Ty}(h:eZ t e L 0=some s)(hs:L'.getD s .no=L.getD s .no)(k:∀j,j<s->rowAt t e (L.getD j .no)=none->rowAt t e (L'.getD j .no)=none):
 eZ t e L' 0=some s/\eB t e L'=eB t e L:=by
 have d:eZ t e L' 0=some s:=by
  rw[wk]at h|-;obtain⟨l,f,g⟩:=h;simp only[afL]at f g|-;exact⟨l,by rw[hs];exact f,fun j c=>k j c (g j c)⟩
 refine⟨d,?_⟩;rw[wC L' t e 0 s d,wC L t e 0 s h,afL,hs]
structure EB(b:dJ)(E E':Env):Prop where
 get:∀s∈b.rs,E'.get s=E.get s
 ra:∀s∈b.ra,∃t u u',E.get s= .box t u/\E'.get s= .box t u'/\u'.τ=u.τ
 box:∀t∈b.bx,∀j,cE t (E'.get j)=cE t (E.get j)
 row:∀p∈b.rw,∀(e:Ty) (j:Nat),j<p.2->rowAt p.1 e (E.get j)=none->rowAt p.1 e (E'.get j)=none
 dz:∀p∈b.ws,mW (E'.get p.1) p.2=true
 nb:∀p∈b.ws,sameBox (E'.get p.1) p.2=sameBox (E.get p.1) p.2
section
variable{C:Cx}{ops:List Oper}{i:Nat}{o:Oper}{E E':Env}{r:Tr×List (Nat×SV)}
theorem PN{s:Nat}(h:s∈jH ops o):s∈(fy ops i o E r).rs\/s∈(fy ops i o E r).ra:=by
 simp only[fy,l8,afA];cases hb:(E.get s).du with
 |true=>exact .inr ⟨h,rfl⟩
 |false=>exact .inl (.inl (.inl ⟨h,rfl⟩))
theorem Rh{t s:Nat}{v:TV}(c:dR o=true)(d:t∈vP E o)(h:dE E.s t 0=some (s,v)):s∈(fy ops i o E r).rs:=by
 simp only[fy,l8];refine .inl (.inr ?_);rw[afs];exact⟨t,by rw[an c];exact d,by rw[h];rfl⟩
theorem Ir{t s:Nat}{e:Ty}(c:dR o=true)(d:(t,e)∈uq E o)(h:eZ t e E.s 0=some s):(t,s)∈(fy ops i o E r).rw:=by
 simp only[fy];rw[afs];exact⟨(t,e),by rw[an c];exact d,by rw[h];rfl⟩
theorem Sg{t s:Nat}{e:Ty}(c:dR o=true)(d:(t,e)∈uq E o)(h:eZ t e E.s 0=some s):s∈(fy ops i o E r).rs:=by
 have:=Ir (ops:=ops) (i:=i) (r:=r) c d h;simp only[fy,l8]at this|-;refine .inr ?_;rw[G_];exact⟨(t,s),this,rfl⟩
theorem Xt{s b off:Nat}{p:List Bool}{τ:Ty}(hs:s∈tmpsOf o)(h:(E.rd.get s).strip= .ptr b off p τ):b∈vP E o:=by
 unfold vP;rw[afs];exact⟨s,hs,by rw[h]⟩
theorem Xk{s b:Nat}{e:Ty}(hs:s∈tmpsOf o)(h:Rg (E.rd.get s).strip=some (b,e)):(b,e)∈uq E o:=by
 unfold uq;rw[afs];exact⟨s,hs,h⟩
theorem jY{α β:Type}{f g:α->Option β}:∀ {l:List α},(∀x∈l,f x=g x)->l.filterMap f=l.filterMap g
 | [],_=>rfl
 |x::l,h=>by
  simp only[List.filterMap_cons,h x (by simp),jY (l:=l) (fun y c=>h y (by simp[c]))]
theorem Cn{α β:Type}{f:α->Option β}:∀ {l:List α},(l.filterMap f).length=l.length->∀x∈l,(f x).isSome=true
 | [],_,x,c=>by cases c
 |y::l,h,x,c=>by
  have hle:=List.length_filterMap_le f l;cases d:f y with
  |none=>
   rw[List.filterMap_cons_none d]at h;simp at h;omega
  |some z=>
   rw[List.filterMap_cons_some d]at h;simp only[afo,Nat.add_right_cancel_iff]at h;rcases si.1 c with rfl|c;rw[d];rfl;exact Cn h x c
theorem Tx(l:EB (fy ops i o E r) E E')(I:(fy ops i o E r).fd=true)(J:(fy ops i o E r).dz=true):
 ff o E.rd E'.rd/\guardOf ops E'.rd o.guard=guardOf ops E.rd o.guard/\fy ops i o E' r=fy ops i o E r:=by
 have m:∀s∈jH ops o,bN (E'.get s)=bN (E.get s)/\(E'.get s).du=(E.get s).du:=fun s d=>by
  rcases PN (i:=i) (E:=E) (r:=r) d with h|h;rw[l.get s h];exact⟨rfl,rfl⟩;obtain⟨t,u,u',h1,h2,h3⟩:=l.ra s h;rw[h1,h2];simp only[bN,h3,SV.du];exact⟨trivial,trivial⟩
 have O:∀s∈tmpsOf o,s∈jH ops o:=fun s d=>by simp only[jH,l8];exact .inl d
 have A:∀s∈tmpsOf o,E'.rd.get s=E.rd.get s:=fun s d=>(m s (O s d)).1;simp only[fy,q_,b_,s_]at I;obtain⟨N,X⟩:=I
 have K:dR o=true->∀p∈uq E o,(eZ p.1 p.2 E.s 0).isSome=true:=by
  intro c p k;rw[an c]at N;have:=Cn N p k;simpa using this
 have n:dR o=true->∀t∈vP E o,dE E'.s t 0=dE E.s t 0:=by
  intro c t f;obtain⟨⟨s,v⟩,D⟩:=afh.1 (X t (by rw[an c];exact f));rw[D];exact P8 D (l.get s (Rh c f D)) (fun j=>l.box t (by simp only[fy];rw[an c];exact f) j)
 have y:dR o=true->∀p∈uq E o,eZ p.1 p.2 E'.s 0=eZ p.1 p.2 E.s 0/\eB p.1 p.2 E'.s=eB p.1 p.2 E.s:=by
  rintro c ⟨t,e⟩ k;obtain⟨s,d⟩:=afh.1 (K c (t,e) k);have:=QO d (l.get s (Sg c k d)) (fun j Y Z=>l.row (t,s) (Ir c k d) e j Y Z);exact⟨this.1.trans d.symm,this.2⟩
 refine⟨⟨A,fun c s d b off p τ h=>n c b (Xt d h),fun c s d b e h=>(y c (b,e) (Xk d h)).2⟩,?_,?_⟩;cases hg:o.guard with
 |none=>rfl
 |some q=>
  obtain⟨j,w⟩:=q;simp only[guardOf];cases hd:(ops[j]?).bind (·.dst)with
  |none=>rfl
  |some s=>
   have d:s∈jH ops o:=by
    simp only[jH,l8];refine .inr ?_;rw[hg];simp[hd]
   have:E'.rd.get s=E.rd.get s:=(m s d).1;simp only[this]
 have hb:vP E' o=vP E o:=jY (fun s d=>by rw[A s d]);have hr:uq E' o=uq E o:=jY (fun s d=>by rw[A s d]);have R:(jH ops o).filter (fun s=>(E'.get s).du)=(jH ops o).filter (fun s=>(E.get s).du):=afJ (fun s d=>(m s d).2);have S:(jH ops o).filter (fun s=> !(E'.get s).du)=(jH ops o).filter (fun s=> !(E.get s).du):=afJ (fun s d=>by rw[(m s d).2])
 have T:(if dR o=true then uq E o else []).filterMap (fun p=>(eZ p.1 p.2 E'.s 0).map fun s=>(p.1,s))=(if dR o=true then uq E o else []).filterMap (fun p=>(eZ p.1 p.2 E.s 0).map fun s=>(p.1,s)):=by
  split;rename_i c;exact jY (fun p k=>by rw[(y c p k).1]);rfl
 have B:∀t∈(if dR o=true then vP E o else []),dE E'.s t 0=dE E.s t 0:=by
  split;rename_i c;exact n c;intro t f;cases f
 have V:(if dR o=true then vP E o else []).filterMap (fun t=>(dE E'.s t 0).map (·.1))=(if dR o=true then vP E o else []).filterMap (fun t=>(dE E.s t 0).map (·.1)):=
  jY (fun t f=>by rw[B t f])
 have g:=l.get;have z:=l.dz;simp only[fy]at g z J;simp only[fy,hb,hr,T,V,R,S,dJ.mk.injEq,true_and];generalize (jH ops o).filter (fun s=> !(E.get s).du)++agk (fun t=>Option.map (fun x=>x.fst) (dE E.s t 0)) (if dR o=true then vP E o else [])++List.map (fun x=>x.snd) (agk (fun p=>Option.map (fun s=>(p.fst,s)) (eZ p.fst p.snd E.s 0)) (if dR o=true then uq E o else []))=rs at g|-;have W:(r.2.filter fun p=> !sameBox (E'.get p.1) p.2)=r.2.filter fun p=> !sameBox (E.get p.1) p.2:=afJ (fun p k=>by rw[l.nb p (by simpa only[fy]using k)]);refine⟨?_,?_,?_,?_,?_,by rw[W],trivial⟩;simp only[aga];congr 1;refine afj (fun s d=> ?_);rw[g s d];simp only[aga];congr 1;refine afj (fun s d=> ?_);rw[g s d];rw[age,s_,s_];constructor;intro h s d;rw[<-g s d];exact h s d;intro h s d;rw[g s d];exact h s d;congr 1;rw[age,s_,s_];constructor;intro h t f;rw[<-B t f];exact h t f;intro h t f;rw[B t f];exact h t f;rw[J,s_];exact z
end
def SV.kd:SV->Nat
 | .no=>0
 | .d _=>1
 | .box _ _=>2
 | .ptr _ _ _ _=>3
 | .ept _ _ _ _ _ _=>4
 | .rdp _ _=>5
 | .tup _=>6
 | .g _ _ _ _=>7
def xW(v c:SV):Prop:=c.kd=v.kd\/((v.kd=4\/v.kd=5)/\c= .no)
theorem sM{f:M->M}{c:Nat->Bool}{d:List Nat->Option (List Nat)}(v:SV):xW v (v.mapM f c d):=by
 cases v with
 |ept t e i o p τ=>
  simp only[SV.mapM];split;exact .inl rfl;exact .inr ⟨.inl rfl,rfl⟩
 |rdp hs v=>
  simp only[SV.mapM];split;exact .inl rfl;exact .inr ⟨.inr rfl,rfl⟩
 |_=>exact .inl rfl
theorem Vb{b:Nat}{e:Ty}{y:List e.den}{m:M}(v:SV):xW v (v.setRow b e y m):=by
 cases v with
 |rdp hs v=>
  simp only[SV.setRow];split;exact .inr ⟨.inr rfl,rfl⟩;exact .inl rfl
 |_=>exact .inl rfl
theorem xW.refl(v:SV):xW v v:= .inl rfl
theorem xW.trans{a b c:SV}(h:xW a b)(p:xW b c):xW a c:=by
 rcases h with h|⟨h,rfl⟩;rcases p with p|⟨p,rfl⟩;exact .inl (p.trans h);exact .inr ⟨by rw[<-h];exact p,rfl⟩;rcases p with p|⟨p,_⟩;refine .inr ⟨h,?_⟩;cases c<;>simp[SV.kd]at p|-;simp[SV.kd]at p
theorem Ks(T:Tr)(v:SV):xW v (T.sv v):=by
 cases T with
 |id=>exact .refl v
 |kg ks f t=>
  simp only[Tr.sv,eS,ky];split<;>split;exact .refl v;exact sM v;exact sM v;exact(sM v).trans (sM _)
 |el f b e l m=>exact((sM v).trans (sM _)).trans (Vb _)
 |ki d rp=>
  have c:xW v (if d.isEmpty=true then v else v.kill d):=by
   split;exact .refl v;exact sM v
  simp only[Tr.sv,eS];split;exact c;cases v with
  |ept b e i o p τ=>
   simp only[SV.cm];split;exact .inl rfl;exact c
  |_=>exact c
theorem vF{f:M->M}{c:Nat->Bool}{d:List Nat->Option (List Nat)}(t:Nat)(v:SV):cE t (v.mapM f c d)=cE t v:=by
 cases v with
 |ept t e i o p τ=>simp only[SV.mapM];split<;>rfl
 |rdp hs v=>simp only[SV.mapM];split<;>rfl
 |_=>rfl
theorem LV{b:Nat}{e:Ty}{y:List e.den}{m:M}(t:Nat)(v:SV):cE t (v.setRow b e y m)=cE t v:=by
 cases v with
 |rdp hs v=>simp only[SV.setRow];split<;>rfl
 |_=>rfl
theorem pK(T:Tr)(t:Nat)(v:SV):cE t (T.sv v)=cE t v:=by
 cases T with
 |id=>rfl
 |kg ks f u=>
  simp only[Tr.sv,eS,ky];split<;>split<;>simp only[SV.aO,SV.kill,vF]
 |el f b e l m=>simp only[Tr.sv,LV,SV.bJ,SV.aO,vF]
 |ki d rp=>
  have c:cE t (if d.isEmpty=true then v else v.kill d)=cE t v:=by
   split<;>simp only[SV.kill,vF]
  simp only[Tr.sv,eS];split;exact c;cases v with
  |ept b e i o p τ=>
   simp only[SV.cm];split;rfl;exact c
  |_=>exact c
theorem iH{t:Nat}{v:SV}(h:cE t v=true):∃u,v= .box t u:=by
 cases v with
 |box t' u=>simp only[cE,b_]at h;subst h;exact⟨u,rfl⟩
 |_=>simp[cE]at h
theorem Z1{v q:SV}(h:v.kd=0\/v.kd=4\/v.kd=5):mW v q=true:=by
 cases v<;>first|rfl|simp[SV.kd]at h
theorem AT{v q:SV}(h:v.kd=1\/v.kd=3\/v.kd=6\/v.kd=7):mW v q=(v.clean&&v.eE.isEmpty):=by
 cases v<;>first|rfl|simp[SV.kd]at h
theorem SZ{T:Tr}{v q:SV}(h:mW v q=true):mW (T.sv v) q=true:=by
 have k:=Ks T v
 have c:v.kd=1\/v.kd=3\/v.kd=6\/v.kd=7->mW (T.sv v) q=true:=by
  intro he;have m:=h;rw[AT he,q_]at m;have:v.eE=[]:=by simpa using m.2
  rw[Tr.stays (by rw[this];simp)];exact h
 have f:v.kd=0\/v.kd=4\/v.kd=5->mW (T.sv v) q=true:=by
  intro he;rcases k with k|⟨_,k⟩;exact Z1 (by rw[k];exact he);rw[k];rfl
 cases v with
 |box t u=>
  obtain⟨u',hu⟩:=iH (t:=t) (v:=T.sv (.box t u)) (by rw[pK];simp[cE]);rw[hu];exact h
 |no=>exact f (.inl rfl)
 |ept t e i o p τ=>exact f (.inr (.inl rfl))
 |rdp hs v=>exact f (.inr (.inr rfl))
 |d v=>exact c (.inl rfl)
 |ptr t o p τ=>exact c (.inr (.inl rfl))
 |tup l=>exact c (.inr (.inr (.inl rfl)))
 |g j w a v=>exact c (.inr (.inr (.inr rfl)))
theorem SM{T:Tr}(m:T.ok=true){v q:SV}(h:mW (T.sv v) q=true):mW v q=true:=by
 have f:=Ks T v
 have c:v.kd=1\/v.kd=3\/v.kd=6\/v.kd=7->mW v q=true:=by
  intro he;rcases f with f|⟨f,_⟩;have k:=h;rw[AT (by rw[f];exact he),q_]at k;have n:(T.sv v).eE=[]:=by simpa using k.2
  rw[Tr.lp m k.1 (by rw[n];simp)]at h;exact h;omega
 cases v with
 |box t u=>
  obtain⟨u',hu⟩:=iH (t:=t) (v:=T.sv (.box t u)) (by rw[pK];simp[cE]);rw[hu]at h;exact h
 |no|ept t e i o p τ|rdp hs v=>rfl
 |d v=>exact c (.inl rfl)
 |ptr t o p τ=>exact c (.inr (.inl rfl))
 |tup l=>exact c (.inr (.inr (.inl rfl)))
 |g j w a v=>exact c (.inr (.inr (.inr rfl)))
theorem uS{t:Nat}{e:Ty}:∀ {τ:Ty} {x:τ.den} {sh:Sh},t∉sh.ar->ik t e τ x sh=none
 | .sl e',l,.sl (.row u hs nd),h=>by
   have:u≠t:=fun e=>h (by simp[Sh.ar,M.ar,e]);simp only[ik,this,if_false]
 | .pair a c,p,.pair s1 s2,h=>by
   simp only[Sh.ar,l8,not_or]at h;simp only[ik,uS h.1,uS h.2]
 | .sl _,_,.sl (.nst _ _ _ _ _ _),_| .sl _,_,.leaf,_| .sl _,_,.pair _ _,_| .sl _,_,.sl (.sha _),_| .sl _,_,.sl .dead,_
 | .int _,_,.leaf,_| .int _,_,.sl _,_| .int _,_,.pair _ _,_| .bool,_,.leaf,_| .bool,_,.sl _,_| .bool,_,.pair _ _,_
 | .str,_,.leaf,_| .str,_,.sl _,_| .str,_,.pair _ _,_| .pair _ _,_,.leaf,_| .pair _ _,_,.sl _,_=>rfl
theorem Fa{t:Nat}{e:Ty}{v:SV}(h:t∉v.eE):rowAt t e v=none:=by
 cases v with
 |d v=>exact uS h
 |box t v=>exact uS (fun hc=>h (by simp[SV.eE,hc]))
 |_=>rfl
theorem IL{t:Nat}{e:Ty}{v:SV}(hb:v.du=false)(h:t∉v.eE):rowAt t e v=none:=Fa h
theorem nk{E:Env}{T:Tr}{ws:List (Nat×SV)}{j:Nat}(h:∀p∈ws,p.1≠j):(E.gE (T,ws)).get j=T.sv (E.get j):=Zp h
theorem Pv:∀(ws:List (Nat×SV)) (L:List SV) (j:Nat),(cN ws L).getD j .no=L.getD j .no\/∃p∈ws,p.1=j/\(cN ws L).getD j .no=p.2
 | [],_,_=> .inl rfl
 |p::ws,L,j=>by
  rcases Pv ws (L.set p.1 p.2) j with h|⟨q,d,e,f⟩;have c:(cN (p::ws) L).getD j .no=(L.set p.1 p.2).getD j .no:=h;rw[dF]at c;split at c;rename_i hc;exact .inr ⟨p,by simp,hc.1.symm,c⟩;exact .inl c;exact .inr ⟨q,by simp[d],e,f⟩
theorem Jh(E:Env)(T:Tr)(ws:List (Nat×SV))(j:Nat):(E.gE (T,ws)).get j=T.sv (E.get j)\/∃p∈ws,p.1=j/\(E.gE (T,ws)).get j=p.2:=by
 rcases Pv ws (E.s.map T.sv) j with h|h;refine .inl ?_;have:(E.gE (T,ws)).get j=(E.s.map T.sv).getD j .no:=h;rw[this,getD_map (Y4 T)];rfl;exact .inr h
structure T4(a b:dJ):Prop where
 rs:∀p∈a.ws,p.1∉b.rs
 ra:∀p∈a.ws,p.1∉b.ra
 ws:∀p∈a.ws,∀q∈b.ws,q.1≠p.1
 bx:∀p∈a.ws,∀t u,p.2= .box t u->t∉b.bx
 rw:∀p∈a.ws,∀q∈b.rw,q.2<p.1\/(p.2.du=false/\q.1∉p.2.eE)
 tr:a.T.pM=true\/(b.rw=[]/\(∀t∈b.tk,t∉a.T.fG)/\(∀t∈b.te,t∉a.T.nN)/\∀p∈b.ws,(∀t∈p.2.xG,t∉a.T.fG)/\∀t∈p.2.tJ,t∉a.T.nN)
structure AG(a b:dJ):Prop where
 rs:∀p∈a.ws,p.1∉b.rs
 ra:∀p∈a.ws,p.1∉b.ra
 ws:∀p∈a.ws,∀q∈b.ws,q.1≠p.1
 bx:∀p∈a.ws,∀t u,p.2= .box t u->t∉b.bx
 rw:∀p∈a.ws,∀q∈b.rw,q.2<p.1\/q.1∉p.2.eE
 tr:a.T.pM=true\/((b.rw=[]\/a.T.T3=true)/\(∀t∈b.tk,t∉a.T.fG)/\(∀t∈b.te,t∉a.T.nN)/\∀p∈b.ws,(∀t∈p.2.xG,t∉a.T.fG)/\∀t∈p.2.tJ,t∉a.T.nN)
theorem T4.toF{a b:dJ}(h:T4 a b):AG a b:=⟨h.rs,h.ra,h.ws,h.bx,fun p u q v=>(h.rw p u q v).imp id And.right,h.tr.imp id (fun⟨y,z⟩=>⟨.inl y,z⟩)⟩
theorem UP{a b:dJ}(h:a.T7 b=true):AG a b:=by
 simp only[dJ.T7,q_,s_,ae6,afb,G7,d_,b_,ne_eq,afM]at h;obtain⟨d,j⟩:=h;refine⟨fun p c=>(d p c).1.1.1.1,fun p c=>(d p c).1.1.1.2,fun p c q f=>(d p c).1.1.2 q f,fun p c t u e=> ?_,fun p c q f=> ?_,?_⟩;have:=(d p c).1.2;rw[e]at this;simpa using this;rcases(d p c).2 q f with h|h;exact .inl h;exact .inr h;rcases j with h|⟨⟨⟨h,k⟩,l⟩,g⟩;exact .inl h;exact .inr ⟨h,k,l,g⟩
theorem xl{t:Nat}{e:Ty}{f:M->M}(g:∀m u hs d,f m= .row u hs d->∃hs' c,m= .row u hs' c):∀ {τ:Ty} {x:τ.den} {sh:Sh},ik t e τ x sh=none->ik t e τ x (sh.map f)=none
 | .int _,_,sh,_| .bool,_,sh,_| .str,_,sh,_=>by cases sh<;>rfl
 | .sl e',l,.sl m,h=>by
   simp only[Sh.map];cases hm:f m with
   |row u hs d=>
    obtain⟨hs',c,rfl⟩:=g m u hs d hm;simp only[ik]at h|-;split;rename_i hu;rw[an hu]at h;split;rename_i he;rw[dif_pos he]at h;cases h;rfl;rfl
   |sha hs=>rfl
   |nst=>rfl
   |dead=>rfl
 | .sl e',l,.leaf,_| .sl e',l,.pair _ _,_=>by simp[Sh.map,ik]
 | .pair a b,x,.pair s1 s2,h=>by
   simp only[ik,Sh.map]at h|-;cases j:ik t e a x.1 s1 with
   |some r=>rw[j]at h;cases h
   |none=>
    rw[j]at h;simp only[xl g j];exact xl g h
 | .pair a b,x,.leaf,_| .pair a b,x,.sl _,_=>by simp[Sh.map,ik]
theorem Wh(ts:List Nat):∀m u hs c,M.kill ts m= .row u hs c->∃hs' d,m= .row u hs' d:=by
 intro m u hs c h;unfold M.kill at h;split at h;cases h;exact⟨hs,c,h⟩
theorem Wy(ts:List Nat)(t:Nat):∀m u hs d,M.aO ts t m= .row u hs d->∃hs' c,m= .row u hs' c:=by
 intro m u hs d h;unfold M.aO at h;split at h;cases m with
 |row u' hs' c=>
  simp only[M.u4]at h;split at h;cases h;simp only[M.row.injEq]at h;obtain⟨rfl,_,_⟩:=h;exact⟨hs',c,rfl⟩
 |sha hs'=>simp[M.u4]at h
 |nst=>simp[M.u4]at h
 |dead=>simp[M.u4]at h
 exact⟨hs,d,h⟩
theorem Ia{t:Nat}{e:Ty}{f:M->M}(g:∀m u hs j,f m= .row u hs j->∃hs' c,m= .row u hs' c){k:Nat->Bool}{l:List Nat->Option (List Nat)}{v:SV}(h:rowAt t e v=none):rowAt t e (v.mapM f k l)=none:=by
 cases v with
 |d v=>exact xl g h
 |box b v=>exact xl g h
 |ept=>simp only[SV.mapM];split<;>rfl
 |rdp=>simp only[SV.mapM];split<;>rfl
 |_=>rfl
theorem Xc{T:Tr}(f:T.T3=true){t:Nat}{e:Ty}{v:SV}(h:rowAt t e v=none):rowAt t e (T.sv v)=none:=by
 have c:∀ {d:List Nat} {v:SV},rowAt t e v=none->rowAt t e (eS d v)=none:=by
  intro d v h;unfold eS;split;exact h;exact Ia (Wh d) h
 cases T with
 |id=>exact h
 |kg ks g u=>
  simp only[Tr.sv,ky];split;exact c h;exact Ia (Wy g u) (c h)
 |el=>simp[Tr.T3]at f
 |ki d rp=>
  simp only[Tr.sv];split;exact c h;cases v with
  |ept b e' i o p τ=>
   simp only[SV.cm];split;rfl;exact c h
  |_=>exact c h
theorem free_spec{a b:dJ}(h:a.free b=true):T4 a b:=by
 simp only[dJ.free,q_,s_,ae6,afb,G7,d_,b_,ne_eq,afM]at h;obtain⟨d,j⟩:=h;refine⟨fun p c=>(d p c).1.1.1.1,fun p c=>(d p c).1.1.1.2,fun p c q f=>(d p c).1.1.2 q f,fun p c t u e=> ?_,fun p c q f=> ?_,?_⟩;have:=(d p c).1.2;rw[e]at this;simpa using this;rcases(d p c).2 q f with h|h;exact .inl h;simp only[Bool.or_eq_false_iff,d_]at h;exact .inr h;rcases j with h|⟨⟨⟨h,k⟩,l⟩,g⟩;exact .inl h;exact .inr ⟨h,k,l,g⟩
section
variable{C:Cx}{ops:List Oper}{nt:Nat}{F F1 F2:Env}{a b:dJ}
structure A9(b:dJ)(E:Env):Prop where
 tk:∀s∈b.rs,∀t∈(E.get s).xG,t∈b.tk
 te:∀s∈b.rs,∀t∈(E.get s).tJ,t∈b.te
 cl:b.cl=true->∀s∈b.rs,(E.get s).clean=true
 ra:∀s∈b.ra,(E.get s).du=true
 dz:b.dz=true->∀p∈b.ws,mW (E.get p.1) p.2=true
 nb:∀p∈b.ws,p.1∈b.nb\/sameBox (E.get p.1) p.2=true
theorem XJ{i:Nat}{o:Oper}{r:Tr×List (Nat×SV)}{E:Env}(h:fy ops i o E r=b):A9 b E:=by
 subst h;refine⟨fun s c t e=> ?_,fun s c t e=> ?_,fun h s c=> ?_,fun s c=> ?_,fun h p d=> ?_,fun p d=> ?_⟩;simp only[fy,afd];exact⟨s,c,e⟩;simp only[fy,afd];exact⟨s,c,e⟩;simp only[fy,s_]at h;exact h s c;simp only[fy,afA]at c;exact c.2;simp only[fy,s_]at h;exact h p d;simp only[fy,G_,afA]at d|-;cases f:sameBox (E.get p.1) p.2 with
 |true=>exact .inr rfl
 |false=>exact .inl ⟨p,⟨d,by simp[f]⟩,rfl⟩
theorem Ep(f:AG a b)(k:∀p∈a.ws,mW (F.get p.1) p.2=true)(t:Nat)(g:t∈b.bx)(j:Nat):cE t ((F.gE (a.T,a.ws)).get j)=cE t (F.get j):=by
 rcases Jh F a.T a.ws j with h|⟨p,d,rfl,h⟩;rw[h,pK];rw[h]
 have l:cE t p.2=false:=by
  cases c:cE t p.2 with
  |false=>rfl
  |true=>
   obtain⟨u,hu⟩:=iH c;exact absurd g (f.bx p d t u hu)
 rw[l];cases c:cE t (F.get p.1)with
 |false=>rfl
 |true=>
  obtain⟨u,hu⟩:=iH c;have:=k p d;rw[hu]at this;simp only[mW]at this;split at this;rename_i t' u' e;simp only[b_]at this;subst this;exact absurd g (f.bx p d _ _ e);cases this
theorem Tr.WH{T:Tr}{t:Nat}{e:Ty}{i:Int}{o:Nat}{p:List Bool}{τ:Ty}(h:t∉T.nN):T.sv (.ept t e i o p τ)= .ept t e i o p τ:=by
 cases T with
 |id=>rfl
 |kg u q x=>exact Tr.stays (T:= .kg u q x) (fun c hc=>by simp only[SV.eE,ae7]at hc;subst hc;exact h)
 |el q b e' l m=>
  simp only[Tr.nN]at h;simp[Tr.sv,SV.aO,SV.bJ,SV.mapM,SV.setRow,h]
 |ki v y=>exact Tr.stays (T:= .ki v y) (fun c hc=>by simp only[SV.eE,ae7]at hc;subst hc;exact h)
theorem Tr.Vd{T:Tr}{v:SV}(h:∀c∈v.xG,c∉T.fG)(q:∀c∈v.tJ,c∉T.nN):T.sv v=v:=by
 cases v with
 |ept t e i o p τ=>exact Tr.WH (q t (by simp[SV.tJ]))
 |_=>exact Tr.stays h
theorem sV{f:M->M}{c:Nat->Bool}{d:List Nat->Option (List Nat)}{v:SV}{t:Nat}{e:Ty}{i:Int}{o:Nat}{p:List Bool}{τ:Ty}(h:v.mapM f c d= .ept t e i o p τ):v= .ept t e i o p τ:=by
 cases v with
 |ept t' e' i' o' p' τ'=>simp only[SV.mapM]at h;split at h;exact h;cases h
 |rdp hs v=>simp only[SV.mapM]at h;split at h<;>cases h
 |_=>simp[SV.mapM]at h
theorem UJ{b:Nat}{c:Ty}{y:List c.den}{m:M}{v:SV}{t:Nat}{e:Ty}{i:Int}{o:Nat}{p:List Bool}{τ:Ty}(h:v.setRow b c y m= .ept t e i o p τ):v= .ept t e i o p τ:=by
 cases v with
 |ept t' c i' o' p' τ'=>exact h
 |rdp hs v=>simp only[SV.setRow]at h;split at h<;>cases h
 |_=>simp[SV.setRow]at h
theorem Tr.VO{T:Tr}{v:SV}{t:Nat}{e:Ty}{i:Int}{o:Nat}{p:List Bool}{τ:Ty}(he:T.sv v= .ept t e i o p τ)(h:t∉T.nN):v= .ept t e i o p τ:=by
 cases T with
 |id=>exact he
 |kg ks A x=>
  simp only[Tr.sv,eS,ky]at he;split at he;split at he;exact he;exact sV he;have:=sV he;split at this;exact this;exact sV this
 |el A b B l m=>exact sV (sV (UJ he))
 |ki y rp=>
  have u:(if y.isEmpty=true then v else v.kill y)= .ept t e i o p τ->v= .ept t e i o p τ:=by
   intro q;split at q;exact q;exact sV q
  simp only[Tr.sv,eS]at he;split at he;exact u he;cases v with
  |ept D B i' o' p' τ'=>
   simp only[SV.cm]at he;split at he;rename_i b' z;cases he;exact absurd (by simp only[Tr.nN,l8,G_];exact .inr (.inr ⟨(D,t),gK z,rfl⟩)) h;exact u he
  |_=>exact u he
theorem Tr.aaV{T:Tr}(u:T.ok=true){v:SV}(y:(T.sv v).clean=true)(h:∀c∈(T.sv v).xG,c∉T.fG)(q:∀c∈(T.sv v).tJ,c∉T.nN):T.sv v=v:=by
 cases he:T.sv v with
 |ept t e i o p τ=>
  rw[he]at q;exact(Tr.VO he (q t (by simp[SV.tJ]))).symm
 |_=>
  rw[<-he];refine Tr.lp u y ?_;rw[he]at h|-;exact h
theorem abn(T:Tr){t:Nat}{u c:TV}(h:T.sv (.box t u)= .box t c):c.τ=u.τ:=by
 cases T with
 |id=>cases h;rfl
 |kg ks d x=>
  simp only[Tr.sv,eS,ky,SV.kill,SV.aO]at h;split at h<;>split at h<;>(simp only[SV.mapM,SV.box.injEq,true_and]at h;subst h;rfl)
 |el d b e l m=>simp only[Tr.sv,SV.aO,SV.bJ,SV.mapM,SV.setRow,SV.box.injEq,true_and]at h;subst h;rfl
 |ki ts rp=>
  simp only[Tr.sv,eS,SV.cm,SV.kill]at h;split at h<;>split at h<;>(simp only[SV.mapM,SV.box.injEq,true_and]at h;subst h;rfl)
theorem Jf(T:Tr){t:Nat}{u:TV}:∃c,T.sv (.box t u)= .box t c/\c.τ=u.τ:=by
 obtain⟨c,hu⟩:=iH (t:=t) (v:=T.sv (.box t u)) (by rw[pK];simp[cE]);exact⟨c,hu,abn T hu⟩
theorem sH{v:SV}(h:v.du=true):∃t u,v= .box t u:=by
 cases v with
 |box t u=>exact⟨t,u,rfl⟩
 |_=>simp[SV.du]at h
theorem IN(T:Tr)(v q:SV):sameBox (T.sv v) q=sameBox v q:=by
 cases c:v.du with
 |true=>
  obtain⟨t,u,rfl⟩:=sH c;obtain⟨g,h,j⟩:=Jf T (t:=t) (u:=u);rw[h];cases q<;>simp[sameBox,j]
 |false=>
  have d:∀ {x:SV},x.du=false->sameBox x q=false:=by
   intro x e;cases x with
   |box t u=>simp[SV.du]at e
   |_=>rfl
  have f:(T.sv v).du=false:=by
   cases h:(T.sv v).du with
   |false=>rfl
   |true=>
    obtain⟨t,u,k⟩:=sH h;have:cE t (T.sv v)=true:=by rw[k];simp[cE]
    rw[pK]at this;obtain⟨g,l⟩:=iH this;rw[l]at c;cases c
  rw[d c,d f]
theorem Wl(f:AG a b)(z:∀p∈a.ws,mW (F.get p.1) p.2=true)(k:A9 b F)(m:b.dz=true):EB b F (F.gE (a.T,a.ws)) where
 get s hs:=by
  rw[nk (fun p d e=>f.rs p d (e▸hs))];rcases f.tr with h|⟨_,h,v,_⟩;exact nE h _;exact Tr.Vd (fun c hc=>h c (k.tk s hs c hc)) (fun c hc=>v c (k.te s hs c hc))
 ra s hs:=by
  obtain⟨t,u,y⟩:=sH (k.ra s hs);obtain⟨A,n,v⟩:=Jf a.T (t:=t) (u:=u);refine⟨t,u,A,y,?_,v⟩;rw[nk (fun p d e=>f.ra p d (e▸hs)),y,n]
 box t ht j:=Ep f z t ht j
 row p d e j hj hn:=by
  rcases Jh F a.T a.ws j with h|⟨q,g,rfl,h⟩;rw[h];rcases f.tr with x|⟨l|l,_⟩;rw[nE x];exact hn;rw[l]at d;cases d;exact Xc l hn;rw[h];rcases f.rw q g p d with l|n;omega;exact Fa n
 dz p d:=by
  rw[nk (fun q g e=>f.ws q g p d e.symm)];exact SZ (k.dz m p d)
 nb p d:=by rw[nk (fun q g e=>f.ws q g p d e.symm),IN]
theorem W2(l:T4 a b)(y:a.T.ok=true)(m:a.T.pM=true\/b.cl=true)(N:∀p∈a.ws,mW (F.get p.1) p.2=true)(z:A9 b (F.gE (a.T,a.ws)))(B:b.dz=true):EB b (F.gE (a.T,a.ws)) F where
 get s hs:=by
  have he:=nk (E:=F) (T:=a.T) (ws:=a.ws) (j:=s) (fun p g e=>l.rs p g (e▸hs));rcases l.tr with h|⟨_,h,J,_⟩;rw[he,nE h];rcases m with S|m;rw[he,nE S];have k:=z.cl m s hs;have x:=z.tk s hs;have A:=z.te s hs;rw[he]at k x A|-;exact(Tr.aaV y k (fun c hc=>h c (x c hc)) (fun c hc=>J c (A c hc))).symm
 ra s hs:=by
  have he:=nk (E:=F) (T:=a.T) (ws:=a.ws) (j:=s) (fun p g e=>l.ra p g (e▸hs));obtain⟨t,u,k⟩:=sH (z.ra s hs);have A:cE t (F.get s)=true:=by rw[<-pK a.T,<-he,k];simp[cE]
  obtain⟨R,I⟩:=iH A;obtain⟨K,x,J⟩:=Jf a.T (t:=t) (u:=R);rw[he,I,x]at k;simp only[SV.box.injEq,true_and]at k;exact⟨t,K,R,by rw[he,I,x],I,J.symm⟩
 box t ht j:=(Ep l.toF N t ht j).symm
 row p g e j hj hn:=by
  have D:a.T.pM=true:=by
   rcases l.tr with h|⟨h,_⟩;exact h;rw[h]at g;cases g
  rcases Jh F a.T a.ws j with h|⟨q,n,rfl,h⟩;rw[h,nE D]at hn;exact hn;have f:=N q n;cases O:F.get q.1 with
  |d v=>
   rw[O]at f;rw[AT (.inl rfl),q_]at f;have:(SV.d v).eE=[]:=by simpa using f.2
   exact IL rfl (by rw[this];simp)
  |box t u=>
   rw[O]at f;simp only[mW]at f;split at f;rename_i t' K e;rcases l.rw q n p g with h'|⟨k,x⟩;omega;rw[e]at k;simp[SV.du]at k;cases f
  |_=>rfl
 dz p g:=by
  have he:=nk (E:=F) (T:=a.T) (ws:=a.ws) (j:=p.1) (fun q n e=>l.ws q n p g e.symm);have:=z.dz B p g;rw[he]at this;exact SM y this
 nb p g:=by rw[nk (fun q n e=>l.ws q n p g e.symm),IN]
def tR(C:Cx)(ops:List Oper)(nt:Nat)(E:Env)(b:dJ)(E':Env):Prop:=
 ∃o act c,ops[b.i]?=some o/\guardOf ops E.rd o.guard=some act/\jk C ops E.rd (nt+32*b.i) o.guard o=some c/\
  iV o act c=some (b.T,b.ws)/\fy ops b.i o E (b.T,b.ws)=b/\E'=E.gE (b.T,b.ws)
theorem tR.Tv(h:tR C ops nt F b F1){p:Env}(y:EB b F p)(u:b.fd=true)(v:b.dz=true):tR C ops nt p b (p.gE (b.T,b.ws)):=by
 obtain⟨o,act,A,B,D,I,J,q,h6⟩:=h;have z:=Tx (ops:=ops) (i:=b.i) (o:=o) (E:=F) (E':=p) (r:=(b.T,b.ws)) (by rw[q];exact y) (by rw[q];exact u) (by rw[q];exact v);obtain⟨s1,s2,K⟩:=z;exact⟨o,act,A,B,by rw[s2];exact D,by rw[Va s1];exact I,J,by rw[K];exact q,rfl⟩
theorem tR.Be(h:tR C ops nt F b F1):A9 b F:=by
 obtain⟨o,act,ef,h1,h2,h3,h4,p,h6⟩:=h;exact XJ p
theorem tR.gE(h:tR C ops nt F b F1):F1=F.gE (b.T,b.ws):=by
 obtain⟨o,act,ef,h1,h2,h3,h4,h5,h6⟩:=h;exact h6
theorem FX{f:SV->SV}:∀ {ws:List (Nat×SV)} {L:List SV},(∀p∈ws,f p.2=p.2)->(cN ws L).map f=cN ws (L.map f)
 | [],_,_=>rfl
 |p::ws,L,h=>by
  show(cN ws (L.set p.1 p.2)).map f=cN ws ((L.map f).set p.1 p.2);rw[FX (fun q c=>h q (by simp[c])),List.map_set,h p (by simp)]
theorem Hc:∀ {ws:List (Nat×SV)} {L:List SV} {s:Nat} {v:SV},(∀p∈ws,p.1≠s)->(cN ws L).set s v=cN ws (L.set s v)
 | [],_,_,_,_=>rfl
 |p::ws,L,s,v,h=>by
  show(cN ws (L.set p.1 p.2)).set s v=cN ws ((L.set s v).set p.1 p.2);rw[Hc (fun q c=>h q (by simp[c])),List.set_comm _ _ (h p (by simp))]
theorem Nd:∀ {ws c:List (Nat×SV)} {L:List SV},(∀p∈ws,∀q∈c,q.1≠p.1)->cN ws (cN c L)=cN c (cN ws L)
 | [],_,_,_=>rfl
 |p::ws,c,L,h=>by
  show cN ws ((cN c L).set p.1 p.2)=cN c (cN ws (L.set p.1 p.2));rw[Hc (h p (by simp)),Nd (fun q d=>h q (by simp[d]))]
theorem Yx(f:AG a b)(k:AG b a)(l:a.T.pM=true\/b.T.pM=true):(F.gE (a.T,a.ws)).gE (b.T,b.ws)=(F.gE (b.T,b.ws)).gE (a.T,a.ws):=by
 have g:∀ {c d:dJ},AG c d->∀p∈d.ws,c.T.sv p.2=p.2:=by
  intro c d h p j;rcases h.tr with h|⟨_,_,_,h⟩;exact nE h _;exact Tr.Vd (h p j).1 (h p j).2
 refine Env.ext' ?_ rfl;show cN b.ws ((cN a.ws (F.s.map a.T.sv)).map b.T.sv)=cN a.ws ((cN b.ws (F.s.map b.T.sv)).map a.T.sv);rw[FX (g k),FX (g f),Nd (fun p j q m e=>f.ws q m p j e.symm)];congr 2;rw[afN,afN];refine afj (fun v _=> ?_);simp only[afZ];rcases l with h|h;rw[nE h,nE h];rw[nE h,nE h]
theorem tR.swap(B:tR C ops nt F a F1)(D:tR C ops nt F1 b F2)(hi:a.ind b=true):∃v,tR C ops nt F b v/\tR C ops nt v a F2:=by
 simp only[dJ.ind,q_,ae6]at hi;obtain⟨⟨⟨⟨⟨⟨⟨⟨⟨⟨q,u⟩,N⟩,y⟩,hbok⟩,O⟩,z⟩,A⟩,h⟩,p⟩,_⟩:=hi;have q:=free_spec q;have u:=UP u;have R:=B.Be;have S:=D.Be;have I:=B.gE;have W:=D.gE;rw[I]at S;have J:=R.dz h;have V:=W2 q y O J S p;rw[<-I]at V;have g1:=D.Tv V A p;have K:=g1.Be;have X:=Wl u (K.dz p) R h;have g2:=B.Tv X z h;refine⟨_,g1,?_⟩;rw[W,I,Yx q.toF u N];exact g2
/-copies-/
theorem uR{f:M->M}{c:Nat->Bool}{e:List Nat->Option (List Nat)}:∀(v:SV),bN (v.mapM f c e)=(bN v).mapM f c e
 | .no| .d _| .box _ _| .ptr ..| .tup _=>rfl
 | .ept ..=>by simp only[SV.mapM,bN];split<;>rfl
 | .rdp hs v=>by simp only[SV.mapM,bN];split<;>rfl
 | .g j w a v=>by simp only[SV.mapM,bN,uR v]
theorem C8{b:Nat}{e:Ty}{y:List e.den}{m:M}:∀(v:SV),bN (v.setRow b e y m)=(bN v).setRow b e y m
 | .no| .d _| .box _ _| .ptr ..| .tup _| .ept ..=>rfl
 | .rdp hs v=>by simp only[SV.setRow,bN];split<;>rfl
 | .g j w a v=>by simp only[SV.setRow,bN,C8 v]
theorem XU(T:Tr)(v:SV):bN (T.sv v)=T.sv (bN v):=by
 cases T with
 |id=>rfl
 |kg ks f u=>
  simp only[Tr.sv,eS,ky];split<;>split<;>simp only[SV.aO,SV.kill,uR]
 |el f b e l m=>simp only[Tr.sv,SV.bJ,SV.aO,uR,C8]
 |ki c rp=>
  have d:∀v:SV,bN (if c.isEmpty=true then v else v.kill c)=if c.isEmpty=true then bN v else(bN v).kill c:=by
   intro v;split;rfl;simp only[SV.kill,uR]
  simp only[Tr.sv,eS];split;exact d v;cases v with
  |ept b e i o p τ=>
   simp only[SV.cm,bN];split;rfl;exact d _
  |_=>exact d _
theorem aar(T:Tr)(j:Nat)(w a:Bool)(v:SV):∃c,T.sv (.g j w a v)= .g j w a c:=by
 cases T with
 |id=>exact⟨v,rfl⟩
 |kg ks d u=>simp only[Tr.sv,eS,ky];split<;>split<;>simp[SV.aO,SV.kill,SV.mapM]
 |el d b e l m=>simp[Tr.sv,SV.bJ,SV.aO,SV.mapM,SV.setRow]
 |ki ts rp=>simp only[Tr.sv,eS];split<;>(try simp only[SV.cm])<;>split<;>simp[SV.kill,SV.mapM]
def SV.Km:SV->Bool
 | .g _ _ _ _=>true
 |_=>false
theorem VT(v:SV):v.Km=(v.kd==7):=by cases v<;>rfl
theorem abi(T:Tr)(v:SV):(T.sv v).Km=v.Km:=by
 rw[VT,VT];rcases Ks T v with h|⟨h,e⟩;rw[h];rw[e];rcases h with h|h<;>rw[h]<;>rfl
theorem WC(T:Tr)(l:List TV):∃f:TV->TV,T.sv (.tup l)= .tup (l.map f)/\∀x,T.sv (.d x)= .d (f x):=by
 cases T with
 |id=>exact⟨fun x=>x,by simp[Tr.sv],fun _=>rfl⟩
 |kg ks c u=>
  simp only[Tr.sv,eS,ky];split<;>split;exact⟨fun x=>x,by simp,fun _=>rfl⟩;exact⟨_,rfl,fun _=>rfl⟩;exact⟨_,rfl,fun _=>rfl⟩;refine⟨_,by simp only[SV.aO,SV.kill,SV.mapM,afN];rfl,fun _=>rfl⟩
 |el c b e l' m=>
  refine⟨_,by simp only[Tr.sv,SV.bJ,SV.aO,SV.mapM,SV.setRow,afN];rfl,fun _=>rfl⟩
 |ki ts rp=>
  simp only[Tr.sv,eS];split<;>(try simp only[SV.cm])<;>split;exact⟨fun x=>x,by simp,fun _=>rfl⟩;exact⟨_,rfl,fun _=>rfl⟩;exact⟨fun x=>x,by simp,fun _=>rfl⟩;exact⟨_,rfl,fun _=>rfl⟩
theorem aa1(T:Tr)(v:SV):(T.sv v).kd=6↔v.kd=6:=by
 rcases Ks T v with h|⟨h,e⟩;rw[h];rw[e];rcases h with h|h<;>rw[h]<;>decide
theorem aa5{j:Nat}{v:SV}(h:v.kd≠6):ui (some j) v=none:=by
 cases v with
 |tup l=>exact absurd rfl h
 |_=>rfl
theorem aa3(T:Tr)(j:Option Nat)(v:SV):ui j (T.sv v)=(ui j v).map T.sv:=by
 cases j with
 |none=>
  have e:=abi T v;cases d:v.Km with
  |true=>
   cases v with
   |g j w a v=>obtain⟨v',h⟩:=aar T j w a v;rw[h];rfl
   |_=>simp[SV.Km]at d
  |false=>
   rw[d]at e
   have c:∀ {u:SV},u.Km=false->ui none u=some (bN u):=by
    intro u hu;cases u with
    |g=>simp[SV.Km]at hu
    |_=>rfl
   rw[c e,c d,XU];rfl
 |some j=>
  cases v with
  |tup l=>
   obtain⟨f,c,k⟩:=WC T l;rw[c];simp only[ui,af3];cases l[j]? with
   |none=>rfl
   |some x=>simp[k]
  |_=>
   rw[aa5 (by rw[Ne,aa1];simp[SV.kd])];rfl
theorem RN:∀(v:SV),(bN v).du=false
 | .no| .d _| .box _ _| .ptr ..| .tup _| .ept ..| .rdp ..| .g ..=>rfl
theorem AR{j:Option Nat}{v x:SV}(h:ui j v=some x):x.du=false/\x.jA=x:=by
 cases j with
 |none=>
  cases v with
  |g=>simp[ui]at h
  |_=>simp only[ui,aeT]at h;subst h;exact⟨RN _,rfl⟩
 |some j=>
  cases v with
  |tup l=>simp only[ui,afl]at h;obtain⟨y,_,rfl⟩:=h;exact⟨rfl,rfl⟩
  |_=>simp[ui]at h
theorem Bp{t:Nat}{e:Ty}:∀ {τ:Ty} {x:τ.den} {sh:Sh},τ.flat=true->ik t e τ x sh=none
 | .int _,_,sh,_| .bool,_,sh,_| .str,_,sh,_=>by cases sh<;>rfl
 | .sl _,_,_,h=>by simp[Ty.flat]at h
 | .pair a b,x,.pair s1 s2,h=>by
   simp only[Ty.flat,q_]at h;simp only[ik,Bp h.1,Bp h.2]
 | .pair a b,x,.leaf,_| .pair a b,x,.sl _,_=>by simp[ik]
theorem VZ{t:Nat}{e:Ty}{x:SV}(h:FA x=true):rowAt t e x=none:=by
 cases x with
 |d v=>exact Bp h
 |_=>first|rfl|simp[FA]at h
theorem abL(T:Tr)(v:TV):∃u:TV,T.sv (.d v)= .d u/\u.τ=v.τ:=by
 cases T with
 |id=>exact⟨v,rfl,rfl⟩
 |kg ks c u=>simp only[Tr.sv,eS,ky];split<;>split<;>exact⟨_,rfl,rfl⟩
 |el c b e l m=>exact⟨_,rfl,rfl⟩
 |ki ts rp=>simp only[Tr.sv,eS];split<;>(try simp only[SV.cm])<;>split<;>exact⟨_,rfl,rfl⟩
theorem aab(v:SV)(h:v.kd=0\/v.kd=3\/v.kd=4\/v.kd=5):FA v=true:=by
 cases v<;>simp_all[SV.kd,FA]
theorem VX(T:Tr)(x:SV):FA (T.sv x)=FA x:=by
 cases x with
 |d v=>obtain⟨u,c,e⟩:=abL T v;rw[c];simp only[FA,e]
 |g j w a v=>obtain⟨v',h⟩:=aar T j w a v;rw[h];rfl
 |tup l=>obtain⟨f,h,_⟩:=WC T l;rw[h];rfl
 |box t u=>obtain⟨u',h,_⟩:=Jf T (t:=t) (u:=u);rw[h];rfl
 |_=>
  rw[aab (T.sv _) (by
   rcases Ks T _ with h|⟨_,h⟩;rw[h];simp[SV.kd];rw[h];simp[SV.kd])]
  rfl
def AO(ops:List Oper)(E:Env)(b:dJ)(c:Nat×Nat×Option Nat×Bool)(E':Env):Prop:=
 ∃o x,ops[b.i]?=some o/\Re o=some (c.1,c.2.1,c.2.2.1)/\ui c.2.2.1 (E.get c.2.1)=some x/\c.2.2.2=FA x/\(b.dz=true->mW (E.get c.1) .no=true)/\E'=E.set (some c.1) x
def qH(C:Cx)(ops:List Oper)(nt:Nat)(E:Env)(b:dJ)(E':Env):Prop:=
 match b.cp with
 |none=>tR C ops nt E b E'
 |some c=>AO ops E b c E'
theorem kh(E:Env)(d s:Nat)(x:SV)(h:s≠d):(E.set (some d) x).get s=E.get s:=by
 show(E.s.set d x).getD s .no=E.s.getD s .no;rw[dF,a_ (fun e=>h e.1)]
theorem uP(E:Env)(d s:Nat)(x:SV):(E.set (some d) x).get s=E.get s\/(s=d/\(E.set (some d) x).get s=x):=by
 show(E.s.set d x).getD s .no=E.s.getD s .no\/_;rw[dF];by_cases h:s=d/\d<E.s.length;right;refine⟨h.1,?_⟩;show(E.s.set d x).getD s .no=x;rw[dF,an h];left;rw[a_ h]
theorem M0{v:SV}(h:mW v .no=true):v.du=false:=by
 cases v with
 |box t u=>simp[mW]at h
 |_=>rfl
theorem V3{t:Nat}{e:Ty}{v:SV}(h:mW v .no=true):rowAt t e v=none:=by
 cases v with
 |d v=>
  rw[AT (.inl rfl),q_]at h;have:(SV.d v).eE=[]:=by simpa using h.2
  exact IL rfl (by rw[this];simp)
 |box t u=>simp[mW]at h
 |_=>rfl
theorem U8{d s:Nat}{e z:Bool}{x:SV}(hi:dJ.yo d s e z b=true)(B:A9 b F)(J:x.du=false)(he:e=true->FA x=true)(l:mW (F.get d) .no=true):EB b F (F.set (some d) x):=by
 simp only[dJ.yo,q_,afb,G7,d_,s_,ae6,b_,ne_eq,decide_not]at hi;obtain⟨⟨⟨⟨⟨⟨⟨⟨hz,m⟩,n⟩,g⟩,hnb⟩,q⟩,hfd⟩,y⟩,hok⟩:=hi;have K:=M0 l;refine⟨fun s k=>kh _ _ _ _ (fun e=>m (e▸k)),fun s k=> ?_,fun t ht j=> ?_,fun p c e' j hj I=> ?_,fun p c=> ?_,fun p c=> ?_⟩;obtain⟨t,u,f⟩:=sH (B.ra s k);exact⟨t,u,u,f,by rw[kh _ _ _ _ (fun e:s=d=>n (e▸k)),f],rfl⟩;rcases uP F d j x with h|⟨rfl,h⟩;rw[h];rw[h]
 have f:∀ {v:SV},v.du=false->cE t v=false:=by
  intro v A;cases N:cE t v with
  |false=>rfl
  |true=>obtain⟨u,hu⟩:=iH N;rw[hu]at A;cases A
 rw[f J,f K];rcases uP F d j x with h|⟨rfl,h⟩;rw[h];exact I;rw[h];rcases q p c with D|D;exact VZ (he D);omega;rw[kh _ _ _ _ (by simpa using g p c)];exact B.dz y p c;rw[kh _ _ _ _ (by simpa using g p c)]
theorem Rl{d s:Nat}{e z:Bool}{x:SV}(hi:dJ.yo d s e z b=true)(B:A9 b (F.set (some d) x))(J:x.du=false)(f:mW (F.get d) .no=true):EB b (F.set (some d) x) F:=by
 simp only[dJ.yo,q_,afb,G7,d_,s_,ae6,b_,ne_eq,decide_not]at hi;obtain⟨⟨⟨⟨⟨⟨⟨⟨hz,m⟩,n⟩,k⟩,hnb⟩,q⟩,hfd⟩,y⟩,hok⟩:=hi;have K:=M0 f;refine⟨fun s l=>(kh _ _ _ _ (fun e:s=d=>m (e▸l))).symm,fun s l=> ?_,fun t ht j=> ?_,fun p c e' j hj I=> ?_,fun p c=> ?_,fun p c=> ?_⟩;obtain⟨t,u,g⟩:=sH (B.ra s l);exact⟨t,u,u,g,by rw[<-g,kh _ _ _ _ (fun e:s=d=>n (e▸l))],rfl⟩;rcases uP F d j x with h|⟨rfl,h⟩;rw[h];rw[h]
 have g:∀ {v:SV},v.du=false->cE t v=false:=by
  intro v A;cases N:cE t v with
  |false=>rfl
  |true=>obtain⟨u,hu⟩:=iH N;rw[hu]at A;cases A
 rw[g J,g K];rcases uP F d j x with h|⟨rfl,h⟩;rw[<-h];exact I;rcases q p c with O|O;exact V3 f;omega;have D:=B.dz y p c;rw[kh _ _ _ _ (by simpa using k p c)]at D;exact D;rw[kh _ _ _ _ (by simpa using k p c)]
theorem dJ.S1{d s:Nat}{e z:Bool}(hi:dJ.yo d s e z b=true):z=true/\(∀q∈b.ws,q.1≠d)/\s∉b.nb/\b.fd=true/\b.dz=true/\b.T.ok=true:=by
 simp only[dJ.yo,q_,afb,G7,d_,s_,ae6,b_,ne_eq,decide_not]at hi;obtain⟨⟨⟨⟨⟨⟨⟨⟨B,hrs⟩,hra⟩,h⟩,p⟩,hrw⟩,u⟩,v⟩,y⟩:=hi;exact⟨B,fun q A=>by simpa using h q A,p,u,v,y⟩
theorem abe(T:Tr){t o:Nat}{p:List Bool}{τ:Ty}:T.sv (.ptr t o p τ)= .ptr t o p τ:=by
 cases T with
 |id=>rfl
 |kg ks c u=>simp only[Tr.sv,eS,ky];split<;>split<;>rfl
 |el c b e l m=>rfl
 |ki ts rp=>simp only[Tr.sv,eS];split<;>(try simp only[SV.cm])<;>split<;>rfl
theorem Wv{s:Nat}{j:Option Nat}(f:A9 b F)(hs:s∉b.nb):ui j ((F.gE (b.T,b.ws)).get s)=(ui j (F.get s)).map b.T.sv:=by
 rcases Jh F b.T b.ws s with h|⟨p,g,rfl,h⟩;rw[h,aa3];rw[h];rcases f.nb p g with c|c;exact absurd c hs;cases d:F.get p.1 with
 |box t u=>
  rw[d]at c;cases e:p.2 with
  |box t' u'=>
   rw[e]at c;simp only[sameBox,q_,b_]at c;obtain⟨rfl,c⟩:=c;cases j with
   |none=>simp only[ui,bN,Option.map_some,abe,c]
   |some j=>rfl
  |_=>rw[e]at c;simp[sameBox]at c
 |_=>rw[d]at c;simp[sameBox]at c
theorem S8{d:Nat}{x:SV}{T:Tr}{ws:List (Nat×SV)}(h:∀q∈ws,q.1≠d):(F.set (some d) x).gE (T,ws)=(F.gE (T,ws)).set (some d) (T.sv x):=by
 refine Env.ext' ?_ rfl;show cN ws ((F.s.set d x).map T.sv)=(cN ws (F.s.map T.sv)).set d (T.sv x);rw[List.map_set,Hc h]
theorem AO.swap{c:Nat×Nat×Option Nat×Bool}(D:AO ops F a c F1)(v:tR C ops nt F1 b F2)(hi:dJ.yo c.1 c.2.1 c.2.2.2 a.dz b=true):∃h,tR C ops nt F b h/\AO ops h a c F2:=by
 obtain⟨o,x,q1,q2,q3,q4,q5,rfl⟩:=D;obtain⟨B,q,y,z,A,hok⟩:=dJ.S1 hi;have I:=AR q3;have J:=Rl hi v.Be I.1 (q5 B);have g1:=v.Tv J z A;refine⟨_,g1,o,b.T.sv x,q1,q2,?_,by rw[VX];exact q4,fun _=> ?_,?_⟩
 ·rw[Wv g1.Be y,q3];rfl
 ·rw[nk (fun p u=>q p u)];exact SZ (q5 B)
 ·rw[v.gE];exact S8 (fun p u=>q p u)
theorem AO.swap'{c:Nat×Nat×Option Nat×Bool}(q:tR C ops nt F b F1)(I:AO ops F1 a c F2)(hi:dJ.yo c.1 c.2.1 c.2.2.2 a.dz b=true):∃h,AO ops F a c h/\tR C ops nt h b F2:=by
 obtain⟨o,x,q1,q2,q3,q4,q5,rfl⟩:=I;obtain⟨N,v,z,A,B,D⟩:=dJ.S1 hi;rw[q.gE]at q3 q5;rw[Wv q.Be z,afl]at q3;obtain⟨O,q3,rfl⟩:=q3;have u:=q5 N;rw[nk (fun p y=>v p y)]at u;have u:=SM D u;rw[VX]at q4;have J:=AR q3;have K:=U8 hi q.Be J.1 (fun e=>by rw[<-q4];exact e) u;refine⟨_,⟨o,O,q1,q2,q3,q4,fun _=>u,rfl⟩,?_⟩;have g:=q.Tv K A B;rw[S8 (fun p y=>v p y)]at g;rw[q.gE];exact g
theorem qH.swap(p:qH C ops nt F a F1)(h:qH C ops nt F1 b F2)(hi:a.Mr b=true):∃q,qH C ops nt F b q/\qH C ops nt q a F2:=by
 unfold qH at p h|-;unfold dJ.Mr at hi;cases z:a.cp with
 |none=>
  rw[z]at p hi;cases u:b.cp with
  |none=>rw[u]at h hi;exact p.swap h hi
  |some c=>rw[u]at h hi;exact AO.swap' p h hi
 |some c=>
  rw[z]at p hi;cases u:b.cp with
  |none=>rw[u]at h hi;exact AO.swap p h hi
  |some D=>
   rw[u]at h hi;obtain⟨o,x,q1,q2,q3,q4,q5,rfl⟩:=p;obtain⟨I,v,J,K,A,N,B,rfl⟩:=h;simp only[ne_eq,decide_not,q_,afb,d_]at hi;obtain⟨⟨y,O⟩,R⟩:=hi;rw[kh _ _ _ _ R]at A;rw[kh _ _ _ _ (Ne.symm y)]at B;refine⟨_,⟨I,v,J,K,A,N,B,rfl⟩,o,x,q1,q2,by rw[kh _ _ _ _ O];exact q3,q4,by rw[kh _ _ _ _ y];exact q5,?_⟩;refine Env.ext' ?_ rfl;show((F.s.set c.1 x).set D.1 v)=((F.s.set D.1 v).set c.1 x)
   exact List.set_comm _ _ y
theorem qH.len(h:qH C ops nt F b F1):F1.s.length=F.s.length:=by
 unfold qH at h;split at h;rw[h.gE];simp[Env.gE,QU];obtain⟨o,x,_,_,_,_,_,rfl⟩:=h;simp[Env.set]
theorem Et{o:Oper}{d s:Nat}{j:Option Nat}(h:Re o=some (d,s,j)):o.guard=none/\o.dst=some d/\((j=none/\(o.op= .move (.tmp s)\/o.op= .assign (.tmp s)))\/∃i,j=some i/\o.op= .extract (.tmp s) i):=by
 unfold Re at h;split at h;rename_i e f;split at h;rename_i c;cases h;exact⟨e,f,.inl ⟨rfl,.inl c⟩⟩;rename_i c;cases h;exact⟨e,f,.inl ⟨rfl,.inr c⟩⟩;rename_i c;cases h;exact⟨e,f,.inr ⟨_,rfl,c⟩⟩;cases h;cases h
theorem SS{o:Oper}{d s:Nat}{j:Option Nat}(h:Re o=some (d,s,j)){E:Env}{tk:Nat}:jk C ops E.rd tk none o=(ui j (E.get s)).map .val:=by
 obtain⟨_,_,c⟩:=Et h;clear h
 have e:∀t,arg C E.rd none t (.tmp s)=(bN (E.get s) |> fun v=>if v.Km=true then none else some v):=by
  intro t;simp only[arg,fZ,Env.rd,agb];cases E.get s<;>rfl
 have f:pY C ops E.rd tk o=none:=by
  unfold pY;rcases c with⟨_,c|c⟩|⟨i,_,c⟩<;>rw[c]
 simp only[jk,f];unfold bj;rcases c with⟨rfl,c|c⟩|⟨i,rfl,c⟩;rw[c];simp only[e];cases E.get s<;>rfl;rw[c];simp only[e];cases E.get s<;>rfl;rw[c];simp only[e];cases E.get s with
 |tup l=>simp only[bN,SV.Km,ui,afF,if_false,Option.map_map];rfl
 |_=>rfl
theorem qH.run(h:qH C ops nt F b F1):∃o act p,ops[b.i]?=some o/\guardOf ops F.rd o.guard=some act/\jk C ops F.rd (nt+32*b.i) o.guard o=some p/\bc o act F some p=some F1:=by
 unfold qH at h;split at h;obtain⟨o,act,p,q,u,v,y,h5,h6⟩:=h;refine⟨o,act,p,q,u,v,?_⟩;rw[RU,y,h6];rfl;obtain⟨o,x,q1,q2,q3,q4,q5,rfl⟩:=h;obtain⟨g1,g2,_⟩:=Et q2;refine⟨o,none,.val x,q1,by rw[g1];rfl,by rw[g1,SS q2,q3];rfl,?_⟩;simp only[bc,g1,g2,dO,(AR q3).2]
end
def vT(o:Oper):List Nat:=(o.after.toList.filter (Region.binds .any)).map (·.on)
theorem Wx(acc:List Nat):∀(d:List Nat) (m x:Nat),(d.foldl (fun m j=>m ||| (2^j ||| acc.getD j 0)) m).testBit x=true->m.testBit x=true\/x∈d\/∃j∈d,(acc.getD j 0).testBit x=true
 | [],m,x,h=> .inl h
 |j::d,m,x,h=>by
  rcases Wx acc d _ x h with h|h|⟨k,c,h⟩;rw[Nat.testBit_or,Nat.testBit_or,Nat.testBit_two_pow]at h;simp only[ae6,b_]at h;rcases h with h|h|h;exact .inl h;exact .inr (.inl (by rw[h];exact af1));exact .inr (.inr ⟨j,af1,h⟩);exact .inr (.inl (ae2 _ h));exact .inr (.inr ⟨k,ae2 _ c,h⟩)
theorem S9:∀(l:List Oper) (acc:List Nat),∃R,l.foldl (fun acc o=>
 acc++[((o.after.toList.filter (Region.binds .any)).map (·.on)).foldl (fun m j=>m ||| (2^j ||| acc.getD j 0)) 0]) acc=R/\R.take acc.length=acc/\
 ∀m o,l[m]?=some o->R.getD (acc.length+m) 0=(vT o).foldl (fun q j=>q ||| (2^j ||| (R.take (acc.length+m)).getD j 0)) 0
 | [],acc=>⟨acc,rfl,by simp,by simp⟩
 |o::l,acc=>by
  obtain⟨R,h,e,k⟩:=S9 l (acc++[(vT o).foldl (fun m j=>m ||| (2^j ||| acc.getD j 0)) 0])
  have c:R.take acc.length=acc:=by
   have:=congrArg (List.take acc.length) e;simpa[afU]using this
  refine⟨R,h,c,fun m f d=> ?_⟩;cases m with
  |zero=>
   simp only[afO,aeT]at d;subst d;simp only[Nat.add_zero];rw[c]
   have g:R.getD acc.length 0=(R.take (acc.length+1)).getD acc.length 0:=by
    simp[J4,aft]
   rw[g];simp only[afu,afx]at e;rw[e];simp[J4]
  |succ m=>
   simp only[afk]at d;have:=k m f d;simp only[afu,afx]at this;rw[show acc.length+(m+1)=acc.length+1+m by omega];exact this
theorem Yo{ops:List Oper}{i j:Nat}(h:((Hn ops).getD i 0).testBit j=true){o:Oper}(e:ops[i]?=some o):j∈vT o\/∃k∈vT o,k<i/\((Hn ops).getD k 0).testBit j=true:=by
 obtain⟨R,f,_,g⟩:=S9 ops [];have d:Hn ops=R:=f;have:=g i o e;simp only[List.length_nil,Nat.zero_add]at this;rw[d,this]at h;rcases Wx _ _ _ _ h with h|h|⟨k,l,h⟩;simp at h;exact .inl h;refine .inr ⟨k,l,?_⟩;rw[J4,aft]at h;split at h;rename_i c;rw[d,J4];exact⟨c,h⟩;simp at h
section
variable{C:Cx}{ops:List Oper}{nt:Nat}
def rS(C:Cx)(ops:List Oper)(nt:Nat):List dJ->Env->Env->Prop
 | [],E,E'=>E=E'
 |b::l,E,E'=>∃F,qH C ops nt E b F/\rS C ops nt l F E'
theorem Wr{ρ:Type}(o:Oper)(a:Option Bool)(d:Ef)(k:Tr×List (Nat×SV)->Option ρ):qz o a d k=(iV o a d).bind k:=by
 cases d with
 |val v=>rfl
 |chk c v=>simp only[qz,iV];split<;>split<;>rfl
 |opt α z x f=>simp only[qz,iV,af4];rfl
 |put b s v=>simp only[qz,iV];split<;>rfl
 |app c kl g t v=>simp only[qz,iV];split<;>(try split)<;>rfl
 |elem g b e l m=>simp only[qz,iV];split<;>rfl
 |nap c g b e l m v=>simp only[qz,iV];split<;>(try split)<;>rfl
 |call α x tks f rp=>simp only[qz,iV];split
                     simp only[af4];rfl;rfl
theorem YG{i:Nat}{o:Oper}{E:Env}{r:Tr×List (Nat×SV)}:(wg ops i o E r).i=i:=by
 unfold wg;split<;>rfl
theorem Zh{i:Nat}{o:Oper}{E:Env}{T:Tr}{ws:List (Nat×SV)}{a:Option Bool}{f:Ef}(l:ops[i]?=some o)(e:guardOf ops E.rd o.guard=some a)(c:jk C ops E.rd (nt+32*i) o.guard o=some f)
 (g:iV o a f=some (T,ws)):qH C ops nt E (wg ops i o E (T,ws)) (E.gE (T,ws)):=by
 unfold wg;split;rename_i d s j hc;obtain⟨g1,g2,_⟩:=Et hc;rw[g1]at e c;rw[SS hc,afl]at c;obtain⟨x,k,rfl⟩:=c;simp only[guardOf,aeT]at e;subst e;simp only[iV,g1,g2,dO,wr,(AR k).2,aeT,ae5]at g;obtain⟨rfl,rfl⟩:=g;refine⟨o,x,l,hc,k,by rw[k],fun h=>h,?_⟩;refine Env.ext' ?_ rfl;show cN [(d,x)] (E.s.map fun v=>v)=E.s.set d x;simp[cN];exact⟨o,a,f,l,e,c,g,rfl,rfl⟩
theorem CU{ρ:Type}{k:Env->List dJ->Option ρ}{r:ρ}:∀ {l:List Oper} {i:Nat} {E:Env} {L:List dJ},ops.drop i=l->wx C ops nt l i E L k=some r->
 ∃bs E',rS C ops nt bs E E'/\bs.map (·.i)=af7 i l.length/\k E' (bs.reverse++L)=some r
 | [],i,E,L,_,h=>⟨[],E,rfl,rfl,h⟩
 |o::l,i,E,L,hd,h=>by
  have e:ops[i]?=some o:=by
   have:=congrArg List.head? hd;simpa[agf]using this
  simp only[wx]at h;split at h;cases h;rename_i a d;split at h;cases h;rename_i ef c;rw[Wr,V_]at h;obtain⟨⟨T,ws⟩,f,h⟩:=h;obtain⟨bs,E',g,j,m⟩:=CU (l:=l) (i:=i+1) (by rw[<-afm,hd];rfl) h;refine⟨wg ops i o E (T,ws)::bs,E',⟨_,Zh e d c f,g⟩,?_,?_⟩;simp only[afY,j,afo,agc,YG];simpa using m
theorem rS.front:∀ {pre:List dJ} {b:dJ} {post:List dJ} {E E':Env},rS C ops nt (pre++b::post) E E'->(∀a∈pre,a.Mr b=true)->∃F,qH C ops nt E b F/\rS C ops nt (pre++post) F E'
 | [],b,post,E,E',h,_=>h
 |a::pre,b,post,E,E',h,hi=>by
  obtain⟨F,p,q⟩:=h;obtain⟨F2,u,v⟩:=rS.front q (fun c hc=>hi c (by simp[hc]));obtain⟨F1,y,h6⟩:=p.swap u (hi a (by simp));exact⟨F1,y,F2,h6,v⟩
end
section
variable{P:Program}{C:Cx}{w0:World}{c0:C0}{E:Env}{a:Act}{w:World}{G:Gh}{ops:List Oper}{Q:Exit->Act->World->Prop}
theorem mo{io:List Nat}(f:keeps io ops=true){o:Oper}(g:o∈ops){v:Value}{i:Nat}(hi:i∈io):(a.put o.dst v).tmps.getD i undef=a.tmps.getD i undef:=by
 simp only[keeps,s_]at f;have:=f o g;cases h:o.dst with
 |none=>rfl
 |some d=>
  rw[h]at this;simp only[afb,G7,d_]at this;have c:d≠i:=fun e=>this (e▸hi);simp[Act.put,afe,afz c]
theorem Gw{o:Oper}{j:Nat}:j∈vT o↔∃e∈o.after,Region.binds .any e=true/\e.on=j:=by
 unfold vT;simp only[G_,afA,Array.mem_toList_iff];constructor;rintro⟨e,⟨c,d⟩,f⟩;exact⟨e,c,d,f⟩;rintro⟨e,c,d,f⟩;exact⟨e,⟨c,d⟩,f⟩
theorem Sb{c:Array Bool}(g:∀i o,ops[i]?=some o->c.getD i true=true->∀j∈vT o,c.getD j false=true)
 (l:c.size=ops.length):∀(i:Nat) {o:Oper},ops[i]?=some o->(∀j∈vT o,c.getD j false=true)->∀j,((Hn ops).getD i 0).testBit j=true->c.getD j false=true:=by
 intro i
 induction i using Nat.strongRecOn with
 |_ i t=>
  intro o q p j s;rcases Yo s q with h|⟨k,u,n,h⟩;exact p j h;have d:=p k u
  have m:k<ops.length:=by
   rcases afK k ops.length with h|h;exact h;rw[<-l]at h;simp[afp,agh.2 h]at d
  have e:ops[k]?=some ops[k]:=VG m
  have f:c.getD k true=true:=by
   have:k<c.size:=by omega
   simp[afp,this]at d|-;exact d
  exact t k n e (g k _ e f) j h
theorem RQ{c:List dJ}(h:rE ops c=true):
 (∀i o,ops[i]?=some o->∀j w',o.guard=some (j,w')->((Hn ops).getD i 0).testBit j=true)/\(∀i o,ops[i]?=some o->∀j∈vT o,j<i)/\
 ∀a∈c,∀b∈c,a.i<b.i->((Hn ops).getD b.i 0).testBit a.i=true\/a.Mr b=true:=by
 simp only[rE,q_,s_]at h;obtain⟨g,n⟩:=h;refine⟨fun i o d j w' k=> ?_,fun i o d j l=> ?_,fun a m b f hlt=> ?_⟩;have:=(g (o,i) (afE.2 d)).1;simp only[k]at this;simpa using this;have:=(g (o,i) (afE.2 d)).2;obtain⟨e,he,f,rfl⟩:=Gw.1 l;have:=this e (by simpa using he);simpa[f]using this;have:=n b f a m;simp only[ae6,b_,G7]at this;rcases this with(h|h)|h;omega;exact .inl h;exact .inr h
def Y1(nt:Nat)(c:Array Bool)(u:Nat):Prop:=u<nt\/∃j,c.getD j false=true/\nt+32*j<=u/\u<nt+32*j+32
theorem X8(hC:mR P C){io:List Nat}(ba:keeps io ops=true)(bb:gk ops=true){nt:Nat}(h3:4<=nt){A:List dJ}(hl:rE ops A=true){E':Env}{T:Nat->Value}
 (hQ:∀N w' G',Inv w0 c0 (fun u=>u<nt+32*ops.length) E' N w' G'->mr ops (fun j=>j<ops.length) E' N.tmps->(∀i∈io,N.tmps.getD i undef=T i)->Q .normal N w'):
 ∀(fuel:Nat) {bs:List dJ} {d:Array Bool} {E:Env} {a:Act} {w:World} {G:Gh},bs.length<=fuel->rS C ops nt bs E E'->(∀b∈bs,b∈A)->bs.Pairwise (fun a b=>a.i<b.i)->
 d.size=ops.length->(∀i,i<ops.length->(d.getD i true=false↔i∈bs.map (·.i)))->(∀i o,ops[i]?=some o->d.getD i true=true->∀j∈vT o,d.getD j false=true)->
 Inv w0 c0 (Y1 nt d) E a w G->mr ops (fun j=>d.getD j false=true) E a.tmps->(∀i∈io,a.tmps.getD i undef=T i)->
 wpAny P .any ops.toArray Q fuel d a w:=by
 obtain⟨b0,b1,b2⟩:=RQ hl
 have gd:∀ {d:Array Bool} {i:Nat},d.size=ops.length->i<ops.length->d.getD i true=d.getD i false:=by
  intro d i hs hi;have:i<d.size:=by omega
  simp[afp,this]
 have nil:∀ {d:Array Bool} {E:Env} {a:Act} {w:World} {G:Gh},rS C ops nt [] E E'->d.size=ops.length->(∀i,i<ops.length->(d.getD i true=false↔i∈([]:List dJ).map (·.i)))->
  Inv w0 c0 (Y1 nt d) E a w G->mr ops (fun j=>d.getD j false=true) E a.tmps->(∀i∈io,a.tmps.getD i undef=T i)->Q .normal a w:=by
  intro d E a w G n k l I J K;have he:E=E':=n;subst he
  have m:∀j,d.getD j false=true->j<ops.length:=by
   intro j f;rcases afK j ops.length with h|h;exact h;rw[<-k]at h;simp[afp,agh.2 h]at f
  refine hQ a w G (I.mono (fun u hu=> ?_)) (fun s j w1 act v he=> ?_) K;rcases hu with hu|⟨j,f,h1,h2⟩;omega;have:=m j f;omega;obtain⟨q1,q2,q3⟩:=J s j w1 act v he;exact⟨q1,m j q2,q3⟩
 intro fuel
 induction fuel with
 |zero=>
  intro bs d E a w G hf n z g k l D I J K;have bk:bs=[]:=by cases bs with|nil=>rfl|cons _ _=>simp at hf
  subst bk;refine⟨?_,nil n k l I J K⟩;rw[List.eq_nil_iff_forall_not_mem];intro j f;obtain⟨h1,o,p,_⟩:=mem_ready.1 f
  have m:j<ops.length:=by
   simp only[afV]at p;exact(ae8.1 p).1
  have:=(l j m).1 h1;simp at this
 |succ fuel ih=>
  intro bs d E a w G hf n z g k l D I J K;refine⟨fun hr=> ?_,fun i hi=> ?_⟩;cases bs with
  |nil=>exact nil n k l I J K
  |cons b bs=>
   exfalso;obtain⟨F,hs,_⟩:=n;obtain⟨o,act,ef,p,_⟩:=hs.run;have m:=(ae8.1 p).1
   have:b.i∈Region.ready .any ops.toArray d:=by
    refine mem_ready.2 ⟨(l b.i m).2 (by simp),o,by simpa using p,fun e he hb=> ?_⟩;have f:=b1 b.i o p e.on (Gw.2 ⟨e,he,hb,rfl⟩);rw[<-gd k (by omega)];cases hg:d.getD e.on true with
    |true=>rfl
    |false=>
     have:=(l e.on (by omega)).1 hg;simp only[afY,si,G_]at this;rcases this with h|⟨c,hc,h⟩;omega;have:=(afG.1 g).1 c hc;omega
   rw[hr]at this;cases this
  obtain⟨h1,o,p,ad⟩:=mem_ready.1 hi;simp only[afV]at p;have m:=(ae8.1 p).1;have B:=(l i m).1 h1;rw[G_]at B;obtain⟨b,hb,rfl⟩:=B;obtain⟨pre,post,rfl⟩:=List.append_of_mem hb
  have V:∀j∈vT o,d.getD j false=true:=by
   intro j f;obtain⟨e,he,b3,rfl⟩:=Gw.1 f;exact ad e he b3
  have W:=Sb D k b.i p V
  have X:∀c∈pre,c.Mr b=true:=by
   intro c hc
   have bl:c.i<b.i:=by
    rw[afB]at g;exact g.2.2 c hc b (by simp)
   rcases b2 c (z c (by simp[hc])) b (z b (by simp)) bl with h|h;have h2:=W c.i h;have:d.getD c.i true=false:=(l c.i (by omega)).2 (by simp only[afP,l8,G_];exact .inl ⟨c,hc,rfl⟩);rw[gd k (by omega),h2]at this;cases this;exact h
  obtain⟨F,ao,av⟩:=n.front X;obtain⟨o',act,ef,aB,b4,b5,b6⟩:=ao.run;have:o'=o:=by rw[p]at aB;exact(Option.some.inj aB).symm
  subst this;have Y:d.getD b.i false=false:=by rw[<-gd k m];exact h1
  refine Ma (tk:=nt+32*b.i) hC p I J (fun j w' f=>W j (b0 b.i o' p j w' f)) (by simp[Y]) bb (by omega) (fun u hu1 hu2 hu=> ?_) b4 b5 b6 (fun N w' G' a1 a6 ⟨v,hav⟩=> ?_);rcases hu with hu|⟨j,f,h5,h6⟩;omega;have:j=b.i:=by omega
  subst this;rw[Y]at f;cases f
  have q:∀j,(d.setIfInBounds b.i true).getD j false=true↔d.getD j false=true\/j=b.i:=by
   intro j;by_cases f:b.i=j;subst f;have:b.i<d.size:=by omega
   simp[afp,this];rw[getD_set_ne false f];simp[Ne.symm f]
  refine ih (bs:=pre++post) (by simp at hf|-;omega) av (fun c hc=>z c (by simp only[l8,si]at hc|-;rcases hc with h|h<;>simp[h])) ?_ (by simpa using k) (fun O a7=> ?_) (fun O a8 t R j f=> ?_) (a1.mono (fun u hu=> ?_)) (fun s j w1 S v1 he=> ?_) (fun j f=> ?_);rw[afB]at g|-;exact⟨g.1,(afG.1 g.2.1).2,fun x hx y hy=>g.2.2 x hx y (by simp[hy])⟩;by_cases f:b.i=O;subst f;have:b.i<d.size:=by omega
  have bx:b.i∉(pre++post).map (·.i):=by
   rw[afB]at g;simp only[afP,l8,G_,not_or,not_exists,not_and];refine⟨fun c hc e=> ?_,fun c hc e=> ?_⟩;have:=g.2.2 c hc b (by simp);omega;have:=(afG.1 g.2.1).1 c hc;omega
  simp only[bx,iff_false];simp[afp,this];rw[getD_set_ne true f,l O a7];simp only[afP,afY,l8,si];constructor;rintro(h|h|h);exact .inl h;exact absurd h.symm f;exact .inr h;rintro(h|h);exact .inl h;exact .inr (.inr h);rw[q];by_cases Z:b.i=O;subst Z;rw[p]at t;cases t;exact .inl (V j f);rw[getD_set_ne true Z]at R;exact .inl (D O a8 t R j f);rcases hu with(hu|⟨j,f,h5⟩)|hu;exact .inl hu;exact .inr ⟨j,(q j).2 (.inl f),h5⟩;exact .inr ⟨b.i,(q b.i).2 (.inr rfl),hu⟩;obtain⟨q1,q2,q3⟩:=a6 s j w1 S v1 he;exact⟨q1,(q j).2 q2,q3⟩;rw[hav];exact(mo ba (afC p) f).trans (K j f)
theorem rS.len{nt:Nat}:∀ {bs:List dJ} {E E':Env},rS C ops nt bs E E'->E'.s.length=E.s.length
 | [],E,E',h=>by cases (show E=E' from h);rfl
 |b::bs,E,E',⟨F,h1,h2⟩=>by
  rw[rS.len h2,h1.len]
theorem NL{ρ:Type}(hm:P.follows .mixedOrders=true)(z:mR P C){io:List Nat}(e:keeps io ops=true)(f:gk ops=true){nt:Nat}(A:4<=nt){k:Env->Option ρ}{r:ρ}{id:Nat}
 (B:Inv w0 c0 (fun u=>u<nt) E a w G) (D:∀s j w act v,E.s.getD s .no≠ .g j w act v) (h:wx C ops nt ops 0 E [] (fun E' L=>if rE ops L then k E' else none)=some r)
 (I:∀E' c w' G',Inv w0 c0 (fun u=>u<nt+32*ops.length) E' c w' G'->mr ops (fun j=>j<ops.length) E' c.tmps->E'.s.length=E.s.length->(∀i∈io,c.tmps.getD i undef=a.tmps.getD i undef)->k E'=some r->Q .normal c w'):
 (Code.region id ops.toArray true).wp P Q a w:=by
 obtain⟨bs,E',p,m,n⟩:=CU (l:=ops) (by simp) h;split at n;rename_i d;simp only[afQ]at d;refine wp_region_any hm ?_
 have hlen:bs.length=ops.length:=by
  have:=congrArg List.length m;simpa using this
 refine X8 z e f A d (E':=E') (T:=fun i=>a.tmps.getD i undef) (fun c w' G' g1 g2 g3=>I E' c w' G' g1 g2 p.len g3 n) _ (bs:=bs) (E:=E) (G:=G) (by simp[hlen]) p (fun b q=>by simpa using q) ?_ (by simp) ?_ ?_ ?_ ?_ (fun _ _=>rfl);have:(bs.map (·.i)).Pairwise (·<·):=by rw[m];exact List.pairwise_lt_range'
 rw[List.pairwise_map]at this;exact this;intro i t;rw[m];simp[afp,t,List.mem_range'_1];intro i o x d;have:=(ae8.1 x).1;simp[afp,this]at d;refine(B.drawn _).mono (fun u hu=> .inl hu);intro s j y act v he;exact absurd he (D s j y act v);cases n
end
theorem zR(n:Nat):List.range n=af7 0 n:=List.range_eq_range'
section
variable{P:Program}{C:Cx}{w0:World}{c0:C0}{U:Nat->Prop}{E:Env}{a:Act}{w:World}{G:Gh}{ops:List Oper}{L:Nat->Prop}{Q:Exit->Act->World->Prop}{ρ:Type}
theorem WM{nt i:Nat}{o:Oper}{E':Env}(h:Kk C ops nt i o E=some E'):E'.s.length=E.s.length:=by
 unfold Kk at h;split at h;cases h;split at h;cases h;rename_i g _;cases g with
 |val v=>simp only[bc,aeT]at h;subst h;exact dM ..
 |chk c v=>
  simp only[bc]at h;split at h;split at h;simp only[aeT]at h;subst h;exact dM ..;cases h;split at h;simp only[aeT]at h;subst h;exact dM ..;cases h
 |opt α z x f=>
  simp only[bc,V_,aeT]at h;obtain⟨y,_,h⟩:=h;subst h;exact dM ..
 |put b s v=>
  simp only[bc]at h;split at h;simp only[aeT]at h;subst h;simp;cases h
 |app c kl d t v=>
  simp only[bc]at h;split at h;split at h;simp only[aeT]at h;subst h;rw[dM,QB,Pn];cases h;cases h
 |elem d b e l m=>
  simp only[bc]at h;split at h;simp only[aeT]at h;subst h;simp[Env.elem];cases h
 |nap c d b e l m v=>
  simp only[bc]at h;split at h;split at h;simp only[aeT]at h;subst h;rw[dM];simp[Env.elem];cases h;cases h
 |call α x tks f rp=>
  simp only[bc]at h;split at h;simp only[V_,aeT]at h;obtain⟨y,_,h⟩:=h;subst h;rw[dM,mb,tV];cases h
theorem P9(x:mR P C){io:List Nat}(f:keeps io ops=true)(c:gk ops=true){nt:Nat}(D:4<=nt){k:Env->Option ρ}{r:ρ}:∀ {l:List Oper} {i:Nat} {E:Env} {a:Act} {w:World} {G:Gh},ops.drop i=l->i+l.length=ops.length->
 Inv w0 c0 (fun u=>u<nt+32*i) E a w G->mr ops (fun j=>j<i) E a.tmps->xi C ops nt l i E k=some r->
 (∀E' e w' G',Inv w0 c0 (fun u=>u<nt+32*ops.length) E' e w' G'->mr ops (fun j=>j<ops.length) E' e.tmps->E'.s.length=E.s.length->(∀i∈io,e.tmps.getD i undef=a.tmps.getD i undef)->k E'=some r->Q .normal e w')->
 wpOps P ops.toArray Q (af7 i l.length) a w
 | [],i,E,a,w,G,hd,hl,hI,hR,h,hK=>by
   have I:i=ops.length:=by simpa using hl
   subst I;exact hK E a w G hI hR rfl (fun _ _=>rfl) h
 |o::l,i,E,a,w,G,hd,hl,hI,hR,h,hK=>by
  have t:ops[i]?=some o:=by
   have:=congrArg List.head? hd;simpa[agf]using this
  rw[Tm,V_]at h;obtain⟨E',d,h⟩:=h;have hlen:=WM d;unfold Kk at d;split at d;cases d;rename_i act m;split at d;cases d;rename_i ef n;rw[afo,agc,wpOps_cons];refine Ma x t hI hR (fun j w' g=>xU c t g) (by omega) c (tk:=nt+32*i) (by omega) (fun u h1 h2 h=>by omega) m n d (fun e w' G' p q ⟨v,hav⟩=> ?_)
  refine P9 x f c D (l:=l) (i:=i+1) (by rw[<-afm,hd];rfl) (by simp at hl|-;omega) (p.mono (fun u hu=>by rcases hu with hu|hu<;>omega))
   (fun s j y act v he=>by
    obtain⟨q1,q2,q3⟩:=q s j y act v he;exact⟨q1,by rcases q2 with q2|q2<;>omega,q3⟩) h (fun z a2 A B g1 g2 g3 g5 g4=>hK z a2 A B g1 g2 (g3.trans hlen) (fun j g=>(g5 j g).trans (by rw[hav];exact mo f (afC t) g)) g4)
theorem NN{N:Nat}(e:Inv w0 c0 (fun u=>u<N) E a w G)(q:mr ops L E a.tmps):Inv w0 c0 (fun u=>u<N) {jL E ops with nt:=N} a w G/\sD (jL E ops).s/\(jL E ops).s.length=E.s.length:=by
 unfold jL;split;rename_i m;refine⟨{e with},fun s j w act v he=> ?_,rfl⟩;obtain⟨_,_,o,x,w',f⟩:=q s j w act v he;rw[s_]at m;have:=m o x;rw[f]at this;cases this;have f:∀s,(E.s.map SV.jA).getD s .no=(E.s.getD s .no).jA:=fun s=>getD_map (T:=SV.jA) rfl s
 have d:∀s,(E.s.getD s .no).jA= .no\/(E.s.getD s .no).jA=E.s.getD s .no:=by
  intro s;cases E.s.getD s .no<;>simp[SV.jA]
 refine⟨{e with len:=by simpa using e.len,slots:=fun s=> ?_,sc:=fun s c hc=> ?_,bt:=fun s c hc=> ?_,rt:=fun s c hc=> ?_,uni:=fun s n t v p g k=> ?_},fun s j w act v he=> ?_,by simp⟩;simp only[f];rcases d s with h|h;rw[h];trivial;rw[h];exact e.slots s;simp only[f]at hc;rcases d s with h|h;rw[h]at hc;simp[SV.sc]at hc;rw[h]at hc;exact e.sc s c hc;simp only[f]at hc;rcases d s with h|h;rw[h]at hc;simp[SV.bt]at hc;rw[h]at hc;exact e.bt s c hc;simp only[f]at hc;rcases d s with h|h;rw[h]at hc;simp[SV.rt]at hc;rw[h]at hc;exact e.rt s c hc;simp only[f]at g k;rcases d s with h|h<;>rcases d n with l|l;rw[h]at g;cases g;rw[h]at g;cases g;rw[l]at k;cases k;rw[h]at g;rw[l]at k;exact e.uni s n t v p g k;simp only[f]at he;exact Y7 he
def FM(C:Cx)(w0:World)(c0:C0)(T:Nat->Value)(r:ρ)(k:Env->Option ρ)(R:Act->World->Prop):Prop:=
 ∀E a w G,Inv w0 c0 (fun u=>u<E.nt) E a w G->sD E.s->E.s.length=C.n->4<=E.nt->(∀i∈C.io,a.tmps.getD i undef=T i)->k E=some r->R a w
theorem uM{id:Nat}{k:Env->Option ρ}{ke:List (Nat×(Env->Option ρ))}{i:Nat}:afT i ((id,k)::ke)=if i=id then some k else afT i ke:=by
 simp only[afT];by_cases h:i=id;simp[h];have:(i==id)=false:=by simpa using h
 simp[this,h]
theorem abo(hC:mR P C){r:ρ}{T:Nat->Value}:∀(c:Code) {E:Env} {a:Act} {w:World} {G:Gh} {D I:Env->Option ρ} {ke:List (Nat×(Env->Option ρ))} {Q:Exit->Act->World->Prop},
 Inv w0 c0 (fun u=>u<E.nt) E a w G->sD E.s->E.s.length=C.n->4<=E.nt->(∀i∈C.io,a.tmps.getD i undef=T i)->ev C c E D ke I=some r->FM C w0 c0 T r D (Q .normal)->(∀id k,ke.lookup id=some k->FM C w0 c0 T r k (Q (.exit id)))->FM C w0 c0 T r I (Q .ret)->
 c.wp P Q a w:=by
 intro c
 induction c with
 |skip=>intro E a w G D I ke Q d f p q z h B he A;exact wp_skip (B E a w G d f p q z h)
 |region id ops draw=>
  intro E a w G D I ke Q d f p q z h B he A;simp only[ev]at h;split at h;rename_i hc;simp only[q_]at hc;obtain⟨X,Y⟩:=hc
  have fin:∀E' J w' G',Inv w0 c0 (fun u=>u<E.nt+32*ops.toList.length) E' J w' G'->mr ops.toList (fun j=>j<ops.toList.length) E' J.tmps->E'.s.length=E.s.length->(∀i∈C.io,J.tmps.getD i undef=a.tmps.getD i undef)->
   D {jL E' ops.toList with nt:=E.nt+32*ops.size}=some r->Q .normal J w':=by
   intro E' J w' G' g1 g2 g3 g5 g4;obtain⟨Z,k2,k3⟩:=NN g1 g2;refine B {jL E' ops.toList with nt:=E.nt+32*ops.size} J w' G' ?_ k2 (by rw[k3,g3,p]) (by show 4<=E.nt+32*ops.size;omega) (fun i hi=>(g5 i hi).trans (z i hi)) g4;simpa using Z
  split at h;rename_i hd;subst hd;exact NL (ops:=ops.toList) hC.mixed hC Y X q d f h fin;rename_i hd;have S:draw=false:=by simpa using hd
  subst S;refine wp_region ?_;have:=P9 (Q:=Q) hC Y X q (l:=ops.toList) (i:=0) (by simp) (by simp) (by simpa using d) (fun s j w1 act v he=>absurd he (f s j w1 act v)) h fin;rw[zR];simpa using this;cases h
 |seq x y K N=>
  intro E a w G D I ke Q d f p q z h B he A;refine wp_seq ?_;simp only[ev]at h;split at h;refine K (Q:=Exit.then (y.wp P Q) Q) d f p q z h (fun E' J w' G' g1 g2 g3 g4 O g5=> ?_) he A;exact N g1 g2 g3 g4 O g5 B he A;rename_i n _;simp only[aR]at h;refine K (Q:=Exit.then (y.wp P Q) Q) d f p q z h (fun E' J w' G' g1 g2 g3 g4 O g5=> ?_) he A;rw[V_]at g5;obtain⟨t,ht,g5⟩:=g5;obtain⟨W,Z,k2,k3,k4⟩:=tf g1 g3 ht;exact N Z k2 k3 k4 O g5 B he A
 |cond c x y K N=>
  intro E a w G D I ke Q d f p q z h B he A;simp only[ev]at h;split at h;rename_i b sh V;have hR:RI ([]:List Oper) E a.tmps:=fun s j w1 act v he=>absurd he (f s j w1 act v);obtain⟨⟨cs,h1,h2⟩,_⟩:=fK d hR (g:=none) (by rintro j w' ⟨⟩) V
  have ad:a.eval c= .bool b:=by
   cases sh with
   |leaf=>rw[h1,show cs=_ from h2];rfl
   |sl m=>exact h2.elim
   |pair a b=>exact h2.elim
  refine wp_cond ad ?_;split at h;rename_i V;subst V;exact K d f p q z h B he A;rename_i V;have:b=false:=by simpa using V
  subst this;exact N d f p q z h B he A;cases h
 |block id c ih=>
  intro E a w G D I ke Q d f p q z h B he A;refine wp_block ?_;simp only[ev]at h;refine ih (Q:=Exit.inBlock id Q) d f p q z h B (fun i k R=> ?_) A;rw[uM]at R;intro E2 a2 w2 W g1 g2 g3 g4 O g5;show Exit.inBlock id Q (.exit i) a2 w2;simp only[Exit.inBlock];split at R;rename_i e;simp only[aeT]at R;subst R;simp only[e,if_true];exact B E2 a2 w2 W g1 g2 g3 g4 O g5;rename_i e;simp only[e,if_false];exact he i k R E2 a2 w2 W g1 g2 g3 g4 O g5
 |loop c ih=>
  intro E a w G D I ke Q d f p q z h B he A;simp only[ev]at h;split at h;cases h;rename_i n _;rw[V_]at h;obtain⟨t,ht,h⟩:=h;obtain⟨W,Z,k2,k3,k4⟩:=tf d p ht;refine wp_loop_rounds C.k ?_
  have key:∀(m:Nat) (t:aW (mY n.ks)) (a:Act) (w:World) (G:Gh),aM m (fun G t=>ev C c (dA C.n n t) (fun E'=>(proj n E').bind G) ke I) t=some r->
   Inv w0 c0 (fun u=>u<(dA C.n n t).nt) (dA C.n n t) a w G->sD (dA C.n n t).s->(dA C.n n t).s.length=C.n->4<=(dA C.n n t).nt->(∀i∈C.io,a.tmps.getD i undef=T i)->Code.rounds P c Q m a w:=by
   intro m
   induction m with
   |zero=>intro t a w G h;simp[aM]at h
   |succ m av=>
    intro t a w G h g1 g2 g3 g4 O;rw[rounds_succ];simp only[aM]at h;refine ih (Q:=Exit.then (Code.rounds P c Q m) Q) g1 g2 g3 g4 O h (fun E' J w' G' q1 q2 q3 q4 qT q5=> ?_) he A;rw[V_]at q5;obtain⟨t',ao,q5⟩:=q5;obtain⟨G3,p1,p2,p3,p4⟩:=tf q1 q3 ao;exact av t' J w' G3 q5 p1 p2 p3 p4 qT
  exact key C.k t a w W h Z k2 k3 k4 z
 |exit id=>
  intro E a w G D I ke Q d f p q z h B he A;simp only[ev]at h;split at h;rename_i k R;exact wp_exit (he id k R E a w G d f p q z h);cases h
 |ret=>intro E a w G D I ke Q d f p q z h B he A;exact wp_ret (A E a w G d f p q z h)
 |_=>intro E a w G D I ke Q d f p q z h B he A;simp[ev]at h
end
def uj(tmps:Array Value):ResultVar->Sem Value
 | .tmp t=>pure (tmps.getD t undef)
 | .cell a t=>do loadVar t (<-asAddr (tmps.getD a undef))
section
variable{P:Program}{C:Cx}{w0:World}{c0:C0}{U:Nat->Prop}{E:Env}{a:Act}{w:World}{G:Gh}{ops:List Oper}{L:Nat->Prop}{Q:Exit->Act->World->Prop}{ρ:Type}
theorem KH(c:Nat):uw c∈[2,1]:=by unfold uw;split<;>simp
theorem FU{p:Pt}{s:Sh}(h:I7 p s=true){c:Nat}(hc:c∈Ja p s):c≠3:=by
 rintro rfl;simp[I7,hc]at h
theorem Gs(Z:CxTy P C)(I:Inv w0 c0 U E a w G):∀ {rs:List RK} {T:List ResultVar} {tk:Nat} {xs:aW (rs.map RK.ty)} {j:List (Nat×Nat)} {m:Nat},wR C.tt E rs T tk=some (xs,j,m)->4<=tk->
 m=dT rs tk/\(∀c k,(c,k)∈j->(k=uw c/\Good U G c/\c≠3)\/(tk<=k/\k<dT rs tk/\4<=c)\/(c=3/\k=3))/\
 ∃K:List Value,K.length=rs.length/\(T.mapM (uj a.tmps)).run P w= .ok K w/\∃H:Nat->Value,∀(rest:List Ty) (y:aW rest) (A:Gh),(∀c k,(c,k)∈j->∀b,G.col b=c->A.col b=k)->
  (∀u,tk<=u->u<dT rs tk->A.hdr u=H u)->∀i,ck w A ((bf rs rest (aW.app _ _ xs y) tk [2,1]).1.getD i .no) (K.getD i undef)
 | [],[],tk,xs,j,m,h,h3=>by
   simp only[wR,aeT,ae5]at h;obtain⟨_,rfl,rfl⟩:=h;exact⟨rfl,by simp,[],rfl,by simp,fun _=>undef,fun rest y A _ _ i=>by simp[bf,ck]⟩
 | .val τ p::rs,v::T,tk,xs,j,m,h,h3=>by
   simp only[wR]at h;have n1:=bD p tk;have n2:=mF rs (aL p tk);split at h;cases h;rename_i t B
   have O:∃u cs,(uj a.tmps v).run P w= .ok u w/\u=cT t.τ cs/\bh w G t.τ t.x t.sh cs/\∀c∈t.sh.ar,Good U G c:=by
    cases v with
    |tmp s=>
     simp only[Env.get]at B;split at B;rename_i t' he;cases B;have hs:=I.slots s;have hm:=I.oK s;rw[he]at hs hm;obtain⟨cs,h1,h2⟩:=hs;exact⟨_,cs,by simp[uj],h1,h2,hm.1⟩;cases B
    |cell s ty=>
     simp only[Env.get]at B;split at B;rename_i b t' i he hi;split at B;rename_i hτ;cases B;have hs:=I.slots s;have hm:=I.oK s;rw[he]at hs hm;obtain⟨bk,cl,el,h1,h2,h4,h5,h6,h7⟩:=hs;have hlen:=bh.len h7;simp only[Array.length_toList]at hlen;have hT:=(Z.tt ty i hi).1;have D:=lQ (P:=P) hT h6 (o:=0) (by rw[hτ];omega);refine⟨_,cl.toList,?_,rfl,h7,hm.1⟩;simp only[uj,h1];rw[hτ]at D;simp only[agl]at D;rw[afw (by simp;omega)]at D;simpa[asAddr]using D;cases B;cases B
   obtain⟨u,cs,hu,J,n,q⟩:=O;split at h;rename_i x V N W X Y;split at h;rename_i l;simp only[aeT,ae5]at h;obtain⟨rfl,rfl,rfl⟩:=h;rw[q_]at l;obtain⟨l,R⟩:=l;have e:=dv X;rw[e]at J n q l R|-;obtain⟨i1,i2,K,i3,i4,H2,i5⟩:=Gs Z I Y (Nat.le_trans h3 n1);obtain⟨H1,k1⟩:=mB (sm:=uw) (hs:=[2,1]) (tk:=tk) l n h3 (fun c _=>KH c) (by simp);have ad:(aQ p tk []).2=aL p tk:=rfl;refine⟨i1,fun c k d=> ?_,u::K,by simp[i3],by simp[hu,i4],fun z=>if z<aL p tk then H1 z else H2 z,fun rest y A g1 g2 i=> ?_⟩;rw[qL];rcases l8.1 d with d|d;obtain⟨r1,g⟩:=kS n c k d;rcases g with⟨g,r5⟩|⟨g,r3,r4⟩|g;exact .inl ⟨g,q c r1,FU R r5⟩;exact .inr (.inl ⟨r3,by omega,g⟩);exact .inr (.inr g);rcases i2 c k d with h|⟨q1,q2,q3⟩|h;exact .inl h;exact .inr (.inl ⟨by omega,q2,q3⟩);exact .inr (.inr h);rw[qL]at g2;cases i with
   |zero=>
    simp only[bf,afc];refine⟨cs,J,k1 A (fun c k d=>g1 c k (afq _ d)) (fun z S f=>(g2 z S (by omega)).trans (an f))⟩
   |succ i=>
    simp only[bf,F_,cB];exact i5 rest y A (fun c k d=>g1 c k (aff _ d)) (fun z S f=>(g2 z (by omega) f).trans (a_ (by omega))) i
   cases h;cases h
 | .nbox τ p::rs,.tmp s::T,tk,xs,j,m,h,h3=>by
   simp only[wR]at h;have n1:=bD p (tk+1);have n2:=mF rs (aL p (tk+1));split at h;cases h;rename_i b0 s0 t hb;have ao:ck w G (E.rd.get s) (a.tmps.getD s undef):=xh (I.slots s);obtain⟨_,bk,c,el,b1,b2,b3,b4,b5,b6,b7,b8,b9⟩:=vR I hb ao;split at h;rename_i x V N W X Y;split at h;rename_i l;simp only[aeT,ae5]at h;obtain⟨rfl,rfl,rfl⟩:=h;rw[q_]at l;obtain⟨l,R⟩:=l;have e:=dv X;rw[e]at l R b6 b7|-;have ad:(aQ p (tk+1) []).2=aL p (tk+1):=rfl;obtain⟨i1,i2,K,i3,i4,H2,i5⟩:=Gs Z I Y (by omega);obtain⟨H1,k1⟩:=mB (sm:=uw) (hs:=[2,1]) (tk:=tk+1) l b6 (by omega) (fun c _=>KH c) (by simp);refine⟨i1,fun c k d=> ?_,a.tmps.getD s undef::K,by simp[i3],by simp[uj,i4],fun z=>if z=tk then a.tmps.getD s undef else if z<aL p (tk+1)then H1 z else H2 z,fun rest y A g1 g2 i=> ?_⟩;rw[px];simp only[agd,si,ae5,l8]at d;rcases d with⟨rfl,rfl⟩|d|d;exact .inr (.inl ⟨afg _,by omega,b3⟩);obtain⟨r1,g⟩:=kS b6 c k d;rcases g with⟨g,r5⟩|⟨g,r3,r4⟩|g;exact .inl ⟨g,b7 c r1,FU R r5⟩;exact .inr (.inl ⟨by omega,by omega,g⟩);exact .inr (.inr g);rcases i2 c k d with h|⟨q1,q2,q3⟩|h;exact .inl h;exact .inr (.inl ⟨by omega,q2,q3⟩);exact .inr (.inr h);rw[px]at g2;cases i with
   |zero=>
    simp only[bf,afc];refine⟨bk,c,el,b1,h3,(g2 tk (afg _) (by omega)).trans (an rfl),g1 b0 tk (by simp) bk b4,b5,k1 A (fun c k d=>g1 c k (by simp[d])) (fun z S f=> ?_)⟩;exact((g2 z (by omega) (by omega)).trans (a_ (by omega))).trans (an f)
   |succ i=>
    simp only[bf,F_,cB];exact i5 rest y A (fun c k d=>g1 c k (by simp[d])) (fun z S f=>((g2 z (by omega) f).trans (a_ (by omega))).trans (a_ (by omega))) i
   cases h;cases h
 | [],_::_,_,_,_,_,h,_| .val _ _::_,[],_,_,_,_,h,_| .nbox _ _::_,[],_,_,_,_,h,_| .nbox _ _::_,.cell _ _::_,_,_,_,_,h,_=>by simp[wR]at h
theorem wv(y:Inv w0 c0 U E a w G):∀ {ps:List PK} {i g tk:Nat} {ys:aW (bn ps)} {f:List (Nat×Nat)},Bh E ps i g tk=some (ys,f)->4<=tk->4<=g->
 (∀c k,(c,k)∈f->(k=uw c/\Good U G c/\c≠3)\/(tk<=k/\k<qB ps tk/\4<=c)\/(k=c/\c∈cJ ps g)\/(c=3/\k=3))/\
 ∃H:Nat->Value,∀(n:Gh),(∀c k,(c,k)∈f->∀b,G.col b=c->n.col b=k)->(∀u,tk<=u->u<qB ps tk->n.hdr u=H u)->(∀u∈cJ ps g,n.hdr u=G.hdr u)->
  ∀t j v,(t,j,v)∈db [2,1] ps ys (fp ps i g) tk->ck w n (.box t v) (a.tmps.getD j undef)/\j∈ic ps i
 | [],i,g,tk,ys,f,h,h3,h4=>by
   simp only[Bh,aeT,ae5]at h;obtain⟨_,rfl⟩:=h;exact⟨by simp,fun _=>undef,fun n _ _ _ t j v m=>by simp[db]at m⟩
 | .val τ p::ps,i,g,tk,ys,f,h,h3,h4=>by
   have S:=bD p g;have A:(aQ p g []).2=aL p g:=rfl;obtain⟨i1,H,i2⟩:=wv y (ps:=ps) (i:=i+1) h h3 (by omega);exact⟨i1,H,i2⟩
 | .rd τ::ps,i,g,tk,ys,f,h,h3,h4=>by
   obtain⟨i1,H,i2⟩:=wv y (ps:=ps) (i:=i+1) h h3 h4;exact⟨i1,H,i2⟩
 | .vx e l::ps,i,g,tk,ys,f,h,h3,h4=>by
   obtain⟨i1,H,i2⟩:=wv y (ps:=ps) (i:=i+1) h h3 h4;exact⟨i1,H,i2⟩
 | .io τ p::ps,i,g,tk,ys,f,h,h3,h4=>by
   simp only[Bh,Env.get]at h;have S:=bD p tk;have n2:=th ps (aL p tk);have n3:=bD p (g+1);have A:(aQ p (g+1) []).2=aL p (g+1):=rfl;have hpn2:(aQ p tk []).2=aL p tk:=rfl;split at h;rename_i b v xs rho' he O;split at h;rename_i x R;split at h;rename_i hc;simp only[q_,b_]at hc;obtain⟨⟨J,K⟩,rfl⟩:=hc;simp only[aeT,ae5]at h;obtain⟨rfl,rfl⟩:=h;have hs:=y.slots i;have hm:=y.oK i;rw[he]at hs hm;obtain⟨N,c,el,T,b2,V,W,X,B⟩:=hs;have I:=hm.1;have e:=dv R;rw[e]at J K B I;obtain⟨i1,Y,i2⟩:=wv y (ps:=ps) (i:=i+1) O (by omega) (by omega);obtain⟨H1,Z⟩:=mB (sm:=uw) (hs:=[2,1]) (tk:=tk) J B h3 (fun c _=>KH c) (by simp);refine⟨fun c k d=> ?_,fun z=>if z<aL p tk then H1 z else Y z,fun n g1 g2 g3 t j u m=> ?_⟩;rw[EC];simp only[agd,si,ae5,l8]at d;rcases d with⟨rfl,rfl⟩|d|d;exact .inr (.inr (.inl ⟨rfl,by simp[cJ]⟩));obtain⟨r1,s⟩:=kS B c k d;rcases s with⟨s,r5⟩|⟨s,r3,r4⟩|s;exact .inl ⟨s,I c r1,FU K r5⟩;exact .inr (.inl ⟨r3,by omega,s⟩);exact .inr (.inr (.inr s));rcases i1 c k d with h|⟨q1,q2,q3⟩|⟨q1,q2⟩|h;exact .inl h;exact .inr (.inl ⟨by omega,q2,q3⟩);exact .inr (.inr (.inl ⟨q1,by simp only[cJ];exact ae2 _ q2⟩));exact .inr (.inr (.inr h));rw[EC]at g2;simp only[fp,db,si,ae5]at m;rcases m with⟨rfl,rfl,rfl⟩|m;refine⟨⟨N,c,el,T,h4,?_,g1 t t (by simp) N W,X,Z n (fun c k d=>g1 c k (by simp[d])) (fun z D q=>(g2 z D (by omega)).trans (an q))⟩,by simp[ic]⟩;rw[g3 t (by simp[cJ])];exact V;rw[cB]at m;have:=i2 n (fun c k d=>g1 c k (by simp[d])) (fun z D q=>(g2 z (by omega) q).trans (a_ (by omega))) (fun u hu=>g3 u (by simp only[cJ];exact ae2 _ hu)) t j u m;exact⟨this.1,by simp only[ic];exact ae2 _ this.2⟩;cases h;cases h;cases h
end
def Gh.DK(G:Gh)(n:Nat):C0:=⟨G.col,fun t=>if t<n then some (G.hdr t)else none⟩
theorem XP{ps:List PK}:∀ {x:aW (ps.map PK.ty)} {g i0 j i:Nat} {τ:Ty} {sh:Sh},(rQ ps i0 g)[j]?=some (i,τ,sh)->
 ∃c y,i0<=i/\(bW ps x g).1.getD (i-i0) .no= .box c ⟨τ,y,sh⟩/\(fp ps i0 g)[j]?=some (c,i)/\(bn ps)[j]?=some τ/\(∀u∈sh.ar,(u=1\/u=3)\/u<bP ps g)/\i∈ic ps i0:=by
 induction ps with
 |nil=>intro x g i0 j i τ sh h;simp[rQ]at h
 |cons p ps m=>
  intro x g i0 j i k sh h
  have key:∀ {d:Nat} {j:Nat},(rQ ps (i0+1) d)[j]?=some (i,k,sh)->∃c y,i0<=i/\(∀v,(v::(bW ps x.2 d).1).getD (i-i0) .no= .box c ⟨k,y,sh⟩)/\(fp ps (i0+1) d)[j]?=some (c,i)/\(bn ps)[j]?=some k/\
   (∀u∈sh.ar,(u=1\/u=3)\/u<bP ps d)/\i∈ic ps (i0+1):=by
   intro d j h;obtain⟨c,y,q1,q2,q3,q4,q5,f⟩:=m (x:=x.2) h;refine⟨c,y,by omega,fun v=> ?_,q3,q4,q5,f⟩;rw[show i-i0=(i-(i0+1))+1 by omega,F_];exact q2
  cases p with
  |val τ q=>
   simp only[rQ]at h;obtain⟨c,y,q1,q2,q3,q4,q5,f⟩:=key h;exact⟨c,y,q1,by simp only[bW,cB];exact q2 _,q3,q4,q5,f⟩
  |rd τ=>
   simp only[rQ]at h;obtain⟨c,y,q1,q2,q3,q4,q5,f⟩:=key h;exact⟨c,y,q1,by simp only[bW];exact q2 _,q3,q4,q5,f⟩
  |vx e l=>
   simp only[rQ]at h;obtain⟨c,y,q1,q2,q3,q4,q5,f⟩:=key h;exact⟨c,y,q1,by simp only[bW];exact q2 _,q3,q4,q5,f⟩
  |io τ q=>
   simp only[rQ]at h;cases j with
   |zero=>
    simp only[afO,aeT,ae5]at h;obtain⟨rfl,rfl,rfl⟩:=h;refine⟨g,x.1,afg _,by simp[bW],by simp[fp],by simp[bn],fun u hu=> ?_,by simp[ic]⟩;have h2:=gi ps (aL q (g+1));rcases oH u hu with h|h|h;left;left;simpa using h;right;simp only[bP];omega;left;right;exact h
   |succ j=>
    simp only[afk]at h;obtain⟨c,y,q1,q2,q3,q4,q5,f⟩:=key h;exact⟨c,y,q1,by simp only[bW,cB];exact q2 _,by simp only[fp,afk];exact q3,by simp only[bn,afk];exact q4,q5,by simp only[ic];exact ae2 _ f⟩
section
variable{P:Program}{C:Cx}{w0:World}{c0:C0}{U:Nat->Prop}{E:Env}{a:Act}{w:World}{G:Gh}{ops:List Oper}{L:Nat->Prop}{Q:Exit->Act->World->Prop}{ρ:Type}
theorem Sn{fn:Func}{tmps:Array Value}{c:List Value}(h:(fn.results.toList.mapM (uj tmps)).run P w= .ok c w):(results fn tmps).run P w= .ok (wu c) w:=by
 have e:(fn.results.mapM (uj tmps)).run P w= .ok c.toArray w:=by
  rw[Array.mapM_eq_mapM_toList];simp[h]
 have d:results fn tmps=(do let c<-fn.results.mapM (uj tmps);pure (if h:c.size=1 then c[0]else .tuple c)):=by
  unfold results;congr 1
 rw[d,Sem.run_bind,e];simp only[Result.andThen_ok,Sem.run_pure];congr 1
 match c with
 | []=>rfl
 | [v]=>rfl
 |_::_::_=>simp[wu]
theorem vM:∀(rs:List RK) (rest:List Ty) (x:aW (rs.map RK.ty)) (y:aW rest) (k:Nat) (hs:List Nat),(bf rs rest (aW.app _ _ x y) k hs).2.1=y
 | [],_,_,_,_,_=>rfl
 | .val _ _::rs,rest,x,y,_,hs=>vM rs rest x.2 y _ hs
 | .nbox _ _::rs,rest,x,y,_,hs=>vM rs rest x.2 y _ hs
theorem AI:∀(rs:List RK) (rest:List Ty) (y:aW (rs.map RK.ty++rest)) (k:Nat) (hs:List Nat),(bf rs rest y k hs).2.2=dT rs k
 | [],_,_,_,_=>rfl
 | .val _ p::rs,rest,y,k,hs=>by simp only[bf,cB];exact AI rs rest y.2 _ hs
 | .nbox _ p::rs,rest,y,k,hs=>by simp only[bf,cB];exact AI rs rest y.2 _ hs
theorem Aw:∀ {ps:List PK} {i:Nat},∀j∈ic ps i,i<=j/\j<i+ps.length
 | [],_,j,h=>by simp[ic]at h
 | .val _ _::ps,i,j,h| .rd _::ps,i,j,h| .vx _ _::ps,i,j,h=>by have:=Aw (ps:=ps) (i:=i+1) j h;simp only[afo];omega
 | .io _ _::ps,i,j,h=>by
   simp only[ic,si]at h;simp only[afo];rcases h with rfl|h;omega;have:=Aw (ps:=ps) (i:=i+1) j h;omega
theorem pR(hC:CxTy P C){con:ou}{S:Gh}{args:List Value}{xx:aW (con.ps.map PK.ty)}(T:Jc w0 S (bW con.ps xx 4).1 args (bP con.ps 4))(n:Inv w0 (S.DK (bP con.ps 4)) U E a w G){fn:Func}{y:aW (con.rs.map RK.ty++bn con.ps)}
 (h:fin C.tt con.ps con.rs con.kp fn.results.toList (bP con.ps 4) E=some y) (hT:∀i∈ic con.ps 0,a.tmps.getD i undef=args.getD i undef):
 ∃mv G' Y nt,(results fn a.tmps).run P w= .ok mv w/\uB con w0 S args y mv w G' Y nt:=by
 have Nb:=gi con.ps 4;unfold fin at h;split at h
 ·rename_i xs j tk Z;split at h
  ·rename_i ys f ad;split at h
   ·rename_i B;cases h;rw[q_]at B;obtain⟨bb,d⟩:=B;obtain⟨rfl,bl,Y,bs,W,H1,bx⟩:=Gs hC n Z Nb;have hge1:=mF con.rs (bP con.ps 4);have hge2:=th con.ps (dT con.rs (bP con.ps 4));obtain⟨b0,X,b1⟩:=wv n ad (by omega) (afg _);have a6:∀c k,(c,k)∈j++f->(j++f).lookup c=some k:=fun c k m=>A5 bb m
    have a7:∀c k,(c,k)∈j++f->(k=uw c/\Good U G c/\c≠3)\/(4<=k/\4<=c)\/(c=3/\k=3):=by
     intro c k m;rcases l8.1 m with m|m
     ·rcases bl c k m with h|⟨q1,q2,q3⟩|h
      ·exact .inl h
      ·exact .inr (.inl ⟨by omega,q3⟩)
      ·exact .inr (.inr h)
     ·rcases b0 c k m with h|⟨q1,q2,q3⟩|⟨q1,q2⟩|h
      ·exact .inl h
      ·exact .inr (.inl ⟨by omega,q3⟩)
      ·have:=eI c q2;exact .inr (.inl ⟨by omega,this.1⟩)
      ·exact .inr (.inr h)
    let z:Gh:=⟨fun b=>match(j++f).lookup (G.col b)with|some k=>k|none=>if G.col b<=3 then G.col b else 0,
     fun u=>if u<bP con.ps 4 then G.hdr u else if u<dT con.rs (bP con.ps 4)then H1 u else X u,fun _=>false⟩
    have I:∀c k,(c,k)∈j++f->∀b,G.col b=c->z.col b=k:=by
     intro c k m b D;show(match(j++f).lookup (G.col b)with|some k=>k|none=>if G.col b<=3 then G.col b else 0)=k;rw[D,a6 c k m]
    have A:∀b,(G.col b<=3/\z.col b=G.col b)\/(4<=G.col b/\(z.col b=2\/z.col b=0\/4<=z.col b)):=by
     intro b;have g:z.col b=(match(j++f).lookup (G.col b)with|some k=>k|none=>if G.col b<=3 then G.col b else 0):=rfl;cases J:(j++f).lookup (G.col b)with
     |none=>
      rw[J]at g;simp only at g;by_cases p:G.col b<=3
      ·left;rw[an p]at g;exact⟨p,g⟩
      ·right;rw[a_ p]at g;exact⟨by omega,by omega⟩
     |some k=>
      rw[J]at g;simp only at g;rcases a7 _ _ (gK J)with⟨K,p,h33⟩|⟨K,p⟩|⟨K,p⟩
      rotate_right
      ·left;omega
      ·rw[K]at g;have h0:=p.1;unfold uw at g;by_cases e:G.col b=1
       ·left;rw[an e]at g;omega
       ·rw[a_ e]at g;by_cases e2:G.col b=2
        ·left;omega
        ·right;omega
      ·right;omega
    refine⟨wu Y,z,Y,0,Sn W,⟨rfl,bs,?_,?_,fun b D hc=> ?_,fun b D=> ?_,n.size,n.os,n.tape,n.output,fun b D=> ?_,fun b D=> ?_,fun q J te i τ ao av bk c el c' el' N aB a1=> ?_⟩⟩
    ·refine bx _ ys z (fun c k m=>I c k (afq _ m)) (fun u K p=> ?_);show(if u<bP con.ps 4 then G.hdr u else if u<dT con.rs (bP con.ps 4)then H1 u else X u)=H1 u;rw[a_ (by omega),an p]
    ·intro t i v O;rw[vM,AI]at O
     have:=b1 z (fun c k m=>I c k (aff _ m)) (fun u K p=>by
      show(if u<bP con.ps 4 then G.hdr u else if u<dT con.rs (bP con.ps 4)then H1 u else X u)=X u;rw[a_ (by omega),a_ (by omega)]) (fun u hu=>by
      have:=eI u hu;show(if u<bP con.ps 4 then G.hdr u else if u<dT con.rs (bP con.ps 4)then H1 u else X u)=G.hdr u;rw[an this.2]) t i v O
     rw[hT i this.2]at this;exact this.1
    ·have hf:G.col b=S.col b/\w.heap[b]?=w0.heap[b]?:=n.frame b D hc;refine⟨?_,hf.2⟩;rcases A b with h|h<;>omega
    ·have K:z.col b=G.col b:=by rcases A b with h|h<;>omega
     rw[K]at D|-;exact n.one b D
    ·refine n.lt b ?_;rcases A b with h|h<;>omega
    ·refine n.fresh b ?_;rcases A b with h|h<;>omega
    ·simp only[VR,ae6,q_,s_]at d;rcases d with d|⟨b3,d⟩
     ·rw[afM]at d;rw[d]at J;cases J
     ·have l:=d q J;split at l
      ·rename_i i' τ1 sh R;obtain⟨te',y',g1,g2,g3,g4,g5,g6⟩:=XP (x:=xx) R;rw[ao]at g3;rw[av]at g4;cases g3;cases g4;split at l
       ·rename_i t v u hE hu;simp only[q_,b_,beq_iff_eq]at l;obtain⟨b2,l⟩:=l;have hs:=n.slots i;have a8:E.s.getD i .no= .box t v:=hE;rw[a8]at hs;obtain⟨bk2,c2,el2,k1,k2,k3,k4,k5,k6⟩:=hs;rw[hT i g6,N]at k1;simp only[Value.pointer.injEq,aeT,Addr.mk.injEq,and_true]at k1;subst k1;rw[a1]at k5;cases k5;have r1:=qM k6 l;have V:=T.slots i;rw[afL]at g2;rw[g2]at V;obtain⟨bk3,c3,el3,j1,j2,j3,j4,j5,j6⟩:=V;rw[N]at j1;simp only[Value.pointer.injEq,aeT,Addr.mk.injEq,and_true]at j1;subst j1;rw[aB]at j5;cases j5;have r2:=qM j6 hu;have hτ:v.τ.off q.2=τ.off q.2:=by rw[b2]
        rw[<-hτ,r1.1,hτ,r2.1]
        have ba:u<bP con.ps 4:=by
         rcases g5 u r2.2.2 with h|h
         ·have:=r2.2.1;omega
         ·exact h
        rw[(n.hk b3 u (S.hdr u) (by simp[Gh.DK,ba])).2]
       ·cases l
      ·cases l
   ·cases h
  ·cases h
 ·cases h
theorem jt(l:List SV)(n i:Nat):(l++afW n SV.no).getD i SV.no=l.getD i SV.no:=by
 rw[J4,J4,List.getElem?_append];split;rfl;rename_i h;rw[List.getElem?_replicate,afn (by omega)];split<;>rfl
theorem Gy{ps:List PK}{x:aW (ps.map PK.ty)}{args:List Value}(h:Jc w G (bW ps x 4).1 args (bP ps 4))(n:Nat):
 Inv w (G.DK (bP ps 4)) (fun u=>u<bP ps 4) ⟨(bW ps x 4).1++afW (n-(bW ps x 4).1.length) .no,(bW ps x 4).2,true⟩ {tmps:=args.toArray++afR (n-args.toArray.size) undef,defers:=[]} w G:=by
 have hlen:=h.len
 have f:∀i,i<args.length->(args.toArray++afR (n-args.toArray.size) undef).getD i undef=args.getD i undef:=by
  intro i k;rw[afe,J4,afI (by simpa using k)];simp
 have Nb:=gi ps 4;refine⟨by simp[hlen],fun s=> ?_,fun s=> ?_,fun s=> ?_,fun s=> ?_,fun s l t v m g j=> ?_,fun b c=>(h.colU b c).1,fun b c=>(h.colU b c).2,h.fresh,fun b _ _=>⟨rfl,rfl⟩,fun b c=>⟨(h.colU b (by omega)).2,rfl⟩,afg _,rfl,rfl,rfl,rfl,⟨⟨by show 2<bP ps 4;omega,h.two.1⟩,by show 3<bP ps 4;omega,h.two.2⟩,fun _ t v d=> ?_⟩
 rotate_right
 ·simp only[Gh.DK]at d;split at d
  ·rename_i e;cases d;exact⟨e,rfl⟩
  ·cases d
 ·simp only[jt];by_cases p:s<args.length
  ·have:=h.slots s;rw[<-f s p]at this;exact this
  ·rw[J4,afn (by omega)];trivial
 ·simp only[jt];exact(h.oK s).1
 ·simp only[jt];exact(h.oK s).2.1
 ·simp only[jt];exact(h.oK s).2.2
 ·simp only[jt]at g j;exact h.uni s l t v m g j
theorem Qh{ps:List PK}:∀ {x:aW (ps.map PK.ty)} {tk:Nat},sD (bW ps x tk).1:=by
 induction ps with
 |nil=>intro x tk s j w act v h;simp[bW]at h
 |cons p ps c=>
  intro x tk s j w act v h;cases p with
  |val τ q=>
   simp only[bW]at h;cases s with
   |zero=>simp at h
   |succ s=>simp only[F_]at h;exact c _ _ _ _ _ h
  |io τ q=>
   simp only[bW]at h;cases s with
   |zero=>simp at h
   |succ s=>simp only[F_]at h;exact c _ _ _ _ _ h
  |rd τ=>
   simp only[bW]at h;cases s with
   |zero=>simp at h
   |succ s=>simp only[F_]at h;exact c _ _ _ _ _ h
  |vx e l=>
   simp only[bW]at h;cases s with
   |zero=>simp at h
   |succ s=>simp only[F_]at h;exact c _ _ _ _ _ h
theorem abq(l:mR P C){f:FuncId}{fn:Func}{con:ou}(I:P.funcs[f]?=some fn)(m:(fn.name== "runtime.NumGoroutine")=false)(hn:con.ps.length<=fn.ntmps)
 (S:∀x y,con.F x=some y->TJ C con.ps con.rs con.kp fn x=some y):mz P f con:=by
 intro w q args x y K d;have e:=S x y K;unfold TJ at e;split at e;cases e;rename_i c B
 have p:(callFunc f args.toArray).run P w= .ok (.enter f args.toArray) w:=by
  have z:fn.name≠ "runtime.NumGoroutine" :=by simpa using m
  unfold callFunc;simp[I,z,B]
 unfold qx;rw[p];simp only;refine calls_of_wp I B ?_;have hal:args.length=con.ps.length:=by rw[d.len,mS]
 have V:=Gy d fn.ntmps;have Nb:=gi con.ps 4
 have g:FM {C with n:=fn.ntmps,io:=ic con.ps 0} w (q.DK (bP con.ps 4)) (fun i=>args.getD i undef) y (fin C.tt con.ps con.rs con.kp fn.results.toList (bW con.ps x 4).2) (fun t w'=>
  t.defers=[]/\∃v,(results fn t.tmps).run P w'= .ok v w'/\∃D,Ending.returned v=Ending.returned D/\∃G' u nt,uB con w q args y D w' G' u nt):=by
  intro E' t w' G' g1 g2 g3 g4 N g5;rw[lC]at g5;obtain⟨J,W,u,nt,X,Y⟩:=pR l.toCxTy (args:=args) d g1 g5 N;exact⟨g1.defers,J,X,J,rfl,W,u,nt,Y⟩
 have A:mR P {C with n:=fn.ntmps,io:=ic con.ps 0}:=⟨⟨l.tt,l.eq,l.fs,l.u8⟩,l.ct,l.mixed⟩
 refine abo (T:=fun i=>args.getD i undef) A c (w0:=w) (c0:=q.DK (bP con.ps 4)) (G:=q) (r:=y) (by rw[lC];simpa[lC]using V) (fun s j w1 act v h=> ?_) ?_ ?_ (fun i O=> ?_) e g (fun id k R=>by simp[afT]at R) g;rw[jt]at h;exact Qh _ _ _ _ _ h;simp only[afu,List.length_replicate,mS];omega;rw[lC];exact Nb;have:=Aw i O;rw[afe,afI (by simp;omega),J4];simp
end
def Fits:(τ:Ty)->τ.den->Prop
 | .int k,n=>(Lit.int k n).wf=true
 | .bool,_=>True
 | .str,s=>s.size<=maxLen
 | .sl e,l=>l.length<=maxLen/\∀x∈l,Fits e x
 | .pair a b,p=>Fits a p.1/\Fits b p.2
def sX(P:Program)(c:Ty->TypeId->Bool):Ty->List Field->Nat->Bool
 |τ,[f],off=>f.offset==off&&P.cellsOf f.type==τ.sz&&c τ f.type
 | .pair a b,f::g::l,off=>f.offset==off&&P.cellsOf f.type==a.sz&&c a f.type&&sX P c b (g::l) (off+a.sz)
 |_,_,_=>false
def vc(P:Program):Nat->Ty->TypeId->Bool
 |0,_,_=>false
 |n+1,τ,t=>
  match P.underlying t with
  |some (.int k)=>τ== .int k
  |some .bool=>τ== .bool
  |some .string=>τ== .str
  |some (.slice e)=>(match τ with| .sl τe=>P.cellsOf e==τe.sz&&vc P n τe e|_=>false)
  |some (.struct fs)=>τ.cn&&P.cellsOf t==τ.sz&&sX P (vc P n) τ fs.toList 0
  |_=>false
section
variable{H:Type}{enc:TypeId×Value->H}{P:Program}{w:World}{held:Bool}
theorem cells?_some{a:Addr}{n:Nat}{cs:List Value}(h:w.cells? 0 a n=some cs):cs.length=n/\∀i,i<n->w.cell? (a.add i)=cs[i]?:=by
 unfold World.cells? at h;rw[an (Nat.zero_le _)]at h;refine⟨by simpa using mapM_some_length h,fun i c=> ?_⟩;exact mapM_some_get h i i (by simp[c])
theorem X1{a:Addr}{v:Value}(h:w.cell? a=some v):∃c el d,w.heap[a.block]?=some (.cells c el d)/\a.spot=none/\c[a.off]?=some v:=by
 unfold World.cell? at h;split at h;rename_i c el d e;split at h;cases h;rename_i f;exact⟨c,el,d,e,by simpa using f,h⟩;cases h
theorem HE{b off:Nat}{c:Array Value}{el:TypeId}{g:Nat×Nat}(j:w.heap[b]?=some (.cells c el g)){n:Nat}{cs:List Value}(h:w.cells? 0 ⟨b,off,none⟩ n=some cs):cs=(c.toList.drop off).take n/\(0<n->off+n<=c.size):=by
 obtain⟨hl,hc⟩:=cells?_some h
 have d:∀i,i<n->c[off+i]?=cs[i]?:=by
  intro i f;have:=hc i f;unfold World.cell? at this
  have e:(Addr.add ⟨b,off,none⟩ i)=⟨b,off+i,none⟩:=by
   unfold Addr.add;split;rename_i h;subst h;rfl;rfl
  rw[e]at this;simp only[j,Option.isSome_none,afF,if_false]at this;exact this
 refine⟨List.ext_getElem? (fun i=> ?_),fun hn=> ?_⟩;rw[aft];split;rename_i f;rw[afH,<-d i f,afX];rename_i f;exact afn (by omega);have:=d (n-1) (by omega);rw[VG (by omega)]at this;have:=(Array.getElem?_eq_some_iff.1 this).1;omega
theorem Jn{e:Ty->TypeId->Bool}{cs:List Value}
 (d:∀ {τ:Ty} {t:TypeId} {fuel:Nat} {c:List Value} {x:DataW H×List MemPlace},e τ t=true->DataW.trod enc P w 0 (fun _=>true) held fuel t c=some x->∃y B,aK w τ y c B/\Fits τ y):
 ∀ {s:List Field} {τ:Ty} {off:Nat},sX P e τ s off=true->cs.length=off+τ.sz->
 (∀f∈s,∃fuel x,DataW.trod enc P w 0 (fun _=>true) held fuel f.type ((cs.drop f.offset).take (P.cellsOf f.type))=some x)->∃y B,aK w τ y (cs.drop off) B/\Fits τ y
 | [],τ,off,h,_,_=>by cases τ<;>simp[sX]at h
 | [f],τ,off,h,hl,ht=>by
   have h:(f.offset==off&&P.cellsOf f.type==τ.sz&&e τ f.type)=true:=by
    cases τ<;>exact h
   simp only[q_,beq_iff_eq]at h;obtain⟨⟨k,m⟩,n⟩:=h;obtain⟨fuel,x,j⟩:=ht f (by simp);rw[k,m,afw (by simp;omega)]at j;exact d n j
 |f::g::l,τ,off,h,hl,ht=>by
  cases τ with
  |pair a b=>
   simp only[sX,q_,beq_iff_eq]at h;obtain⟨⟨⟨k,m⟩,n⟩,z⟩:=h;simp only[Ty.sz]at hl;obtain⟨fuel,x,j⟩:=ht f (by simp);rw[k,m]at j;obtain⟨A,u,D,f1⟩:=d n j;obtain⟨I,v,J,f2⟩:=Jn d z (by omega) (fun q p=>ht q (by simp only[si]at p|-;exact .inr p));refine⟨(A,I),u++v,⟨_,_,u,v,?_,rfl,D,J⟩,f1,f2⟩;rw[<-afm,afy]
  |_=>simp[sX]at h
theorem NB{d:Ty}{e:TypeId}{n:Nat}(g:P.cellsOf e=d.sz){b:Nat}{c:Array Value}{el:TypeId}{s:Nat×Nat}(p:w.heap[b]?=some (.cells c el s))
 (f:∀ {c:List Value} {x:DataW H×List MemPlace},DataW.trod enc P w 0 (fun _=>true) held n e c=some x->∃y B,aK w d y c B/\Fits d y):
 ∀(len:Nat) {off:Nat} {elems:List (DataW H×List MemPlace)},elems.length=len->
 (∀i,i<len->(w.cells? 0 (Addr.add ⟨b,off,none⟩ (i*P.cellsOf e)) (P.cellsOf e)).bind (DataW.trod enc P w 0 (fun _=>true) held n e)=elems[i]?)->
 ∃(l:List d.den) (m:List Nat),l.length=len/\aN (aK w d) l ((c.toList.drop off).take (len*d.sz)) m/\∀x∈l,Fits d x
 |0,off,elems,_,_=>⟨[],[],rfl,by simp[aN],by simp⟩
 |len+1,off,elems,hlen,hel=>by
  have q:=hel 0 (by omega);rw[VG (by omega),V_]at q;obtain⟨cs,k,t⟩:=q;simp only[Nat.zero_mul,Addr.add,if_true]at k;obtain⟨u,_⟩:=HE p k;obtain⟨y,B,v,A⟩:=f t
  have j:∀i,Addr.add ⟨b,off,none⟩ ((i+1)*P.cellsOf e)=Addr.add ⟨b,off+d.sz,none⟩ (i*P.cellsOf e):=by
   intro i;have:=d.og;unfold Addr.add;rw[g];rw[a_ (by simp only[N_];omega)];split;rename_i h;simp only[N_,h];simp;simp only[N_,Addr.mk.injEq,and_true,true_and];omega
  obtain⟨l,m,D,I,J⟩:=NB g p f len (off:=off+d.sz) (elems:=elems.tail) (by simp[hlen]) (fun i hi=>by
   rw[<-j,hel (i+1) (by omega)];cases elems with
   |nil=>simp at hlen
   |cons z zs=>rfl)
  refine⟨y::l,B++m,by simp[D],⟨cs,_,B,m,?_,rfl,v,I⟩,by simpa using⟨A,J⟩⟩;rw[u,g,N_,afr,Nat.add_comm (len*d.sz),List.take_add,afm]
theorem RH:∀(n:Nat) {τ:Ty} {t:TypeId} {fuel:Nat} {cs:List Value} {x:DataW H×List MemPlace},vc P n τ t=true->DataW.trod enc P w 0 (fun _=>true) held fuel t cs=some x->∃y B,aK w τ y cs B/\Fits τ y:=by
 intro n
 induction n with
 |zero=>intro τ t fuel cs x h;simp[vc]at h
 |succ n ih=>
  intro τ t fuel cs x h z;simp only[vc]at h;split at h;rename_i k hu;simp only[beq_iff_eq]at h;subst h;obtain⟨m,rfl,_,hw⟩:=DataW.trod_int hu z;exact⟨m,[],⟨rfl,rfl⟩,hw⟩;rename_i hu;simp only[beq_iff_eq]at h;subst h;obtain⟨b,rfl,_⟩:=DataW.trod_bool hu z;exact⟨b,[],⟨rfl,rfl⟩,trivial⟩;rename_i hu;simp only[beq_iff_eq]at h;subst h;obtain⟨s,rfl,_,hs⟩:=DataW.trod_string hu z;exact⟨s,[],⟨rfl,rfl⟩,hs⟩;rename_i e hu;split at h;rename_i K;simp only[q_,beq_iff_eq]at h;obtain⟨j,hd⟩:=h;rcases DataW.trod_slice hu z with⟨rfl,_⟩|⟨a,len,cap,elems,rest,m,_,rfl,_,_,hlc,hcm,hlen,I,V,_⟩;exact⟨[],[],⟨_,rfl,.inl ⟨⟨_,rfl⟩,rfl,rfl⟩⟩,by simp[Fits]⟩;by_cases A:cap=0;subst A;have:len=0:=by omega
  subst this;exact⟨[],[],⟨_,rfl,.inl ⟨⟨_,rfl⟩,rfl,rfl⟩⟩,by simp[Fits]⟩;obtain⟨hrl,u⟩:=V rfl
  have p:∀i,i<cap->∃cs,w.cells? 0 (a.add (i*P.cellsOf e)) (P.cellsOf e)=some cs:=by
   intro i Z;by_cases R:i<len;have:=I i R;rw[VG (by omega),V_]at this;obtain⟨cs,v,_⟩:=this;exact⟨cs,v⟩;have:=u (i-len) (by omega);rw[VG (by omega),V_]at this;obtain⟨cs,v,_⟩:=this;rw[show len+(i-len)=i by omega]at v;exact⟨cs,v⟩
  have hpos:=K.og;obtain⟨cs0,h0⟩:=p 0 (by omega);obtain⟨hl0,W⟩:=cells?_some h0;have d:=W 0 (by omega);rw[VG (by omega)]at d;have S:(a.add (0*P.cellsOf e)).add 0=a:=by simp[Addr.add]
  rw[S]at d;obtain⟨c,el,fz,N,g,_⟩:=X1 d;obtain⟨b,off,spot⟩:=a;simp only at N g;subst g;obtain⟨l,Bs,v,h2,h3⟩:=NB (held:=held) (enc:=enc) j N (fun O=>ih hd O) len hlen I;obtain⟨csl,J⟩:=p (cap-1) (by omega)
  have D:Addr.add ⟨b,off,none⟩ ((cap-1)*P.cellsOf e)=⟨b,off+(cap-1)*P.cellsOf e,none⟩:=by
   unfold Addr.add;split;rename_i h;rw[h];rfl;rfl
  rw[D]at J;have q:=(HE N J).2 (by omega);rw[j]at q
  have hmul:(cap-1)*K.sz+K.sz=cap*K.sz:=by
   have:cap=cap-1+1:=by omega
   conv=>rhs;rw[this,N_,afr]
  refine⟨l,b::Bs,⟨_,rfl,.inr ⟨b,off,cap,c,el,fz,Bs,by rw[v],by omega,N,by omega,rfl,by rw[v];exact h2⟩⟩,by omega,h3⟩;cases h;rename_i fs hu;simp only[q_,beq_iff_eq]at h;obtain⟨⟨hp,j⟩,X⟩:=h;obtain⟨xs,m,_,_,hl,hxl,Y⟩:=DataW.trod_struct hu z
  have:=Jn (held:=held) (enc:=enc) (cs:=cs) (fun h O=>ih h O) X (by rw[hl,j];omega) (fun f hf=>by
   obtain⟨i,Z,rfl⟩:=List.mem_iff_getElem.1 hf;have T:i<fs.size:=by simpa using Z
   have:=Y i fs[i] (by simp[T]);rw[VG (by omega)]at this;exact⟨m,_,by simpa using this⟩)
  simpa using this;cases h
end
end Vg
namespace Vg
open Go Go.ChangeShapes Go.WideShapes Go.ChangeAt Go.RowKit
def zI(P:Program)(n:Nat):List Ty->List TypeId->Bool
 | [],[]=>true
 |τ::τs,t::ts=>vc P n τ t&&zI P n τs ts
 |_,_=>false
section
variable{H:Type}{enc:TypeId×Value->H}{P:Program}{w:World}{G:Gh}
theorem XM{n:Nat}{τ:Ty}{t:TypeId}{v:Value}{r:Reach}{d:Nat}(h:vc P n τ t=true)(c:Value.okWide P w r d t v):v=cT τ v.cells.toList:=by
 cases n with
 |zero=>simp[vc]at h
 |succ n=>
  simp only[vc]at h;split at h;rename_i k hu;simp only[beq_iff_eq]at h;subst h;obtain⟨m,rfl⟩:=okWide_int hu c;rfl;rename_i hu;simp only[beq_iff_eq]at h;subst h;obtain⟨b,rfl⟩:=okWide_bool hu c;rfl;rename_i hu;simp only[beq_iff_eq]at h;subst h;obtain⟨s,rfl⟩:=okWide_string hu c;rfl;rename_i e hu;split at h;obtain⟨a,len,cap,rfl⟩:=okWide_slice hu c;rfl;cases h;rename_i fs hu;simp only[q_]at h;obtain⟨cs,rfl,_⟩:=okWide_struct hu c;cases τ with
  |pair a b=>simp[cT,Value.cells]
  |_=>simp[Ty.cn]at h
  cases h
end
section
variable{H:Type}{enc:TypeId×Value->H}{P:Program}
theorem Wu{f:Func}{s:ChangeSpec}{W g:World}{args:Array Value}{v:Value}{l gs:List (DataW H)}{before:List MemPlace}
 (n:DataW.Whole enc P f.params.toList s.vars false W args.toList l gs before)
 (e:∀(b:Nat) (sp:Nat->Bool) (z:Bool),DataW.TrodAll enc P g b sp z f.resultTypes.toList (v.resultList f.resultTypes.size) (s.fn H (l++gs)).results [])
 (c:∀sp:Nat->Bool,(∀p∈before,sp p.block=true)->DataW.TrodAll enc P g 0 sp true f.params.toList args.toList (s.fn H (l++gs)).args before)
 (h:s.vars=[]) (k:(s.fn H (l++gs)).vars=[]) (A:W.keptBut g (·∈before)) (B:∀b,b<W.heap.size->g.heap[b]?=W.heap[b]?)
 (q:∀(j:Nat) (t:TypeId) (r:Value),f.resultTypes[j]?=some t->(v.resultList f.resultTypes.size)[j]?=some r->Value.okWide P g .any 0 t r):
 s.post enc P f false true false false W args v g:=by
 have hold:∀p∈before,(fun b=>decide (b<W.heap.size)) p.block=true:=fun p d=>by simpa using n.lt p d
 have x:∀sp,DataW.TrodVars enc P g sp s.vars (s.fn H (l++gs)).vars []:=fun sp=>by rw[h,k];exact rfl
 refine⟨l,gs,before,[],before,[],n,e _ _ _,c _ hold,x _,World.keptBut_mono (fun p d=>⟨d,?_⟩) A,fun _=> ?_⟩;exact Or.inr (by simpa using d);have u:=n.lt;obtain⟨_,_,_,_,_,I,_⟩:=n;refine⟨q,_,_,([]++before)++[],⟨[]++before,[],trodAll_append (c _ (fun _ _=>rfl)) (e _ _ _),x _,rfl,?_,?_⟩,?_⟩;intro b off d;have m:MemPlace.cell b off∈before:=by simpa using d
 have:=I b off m;have D:=u _ m;unfold World.frozen? at this|-;rw[B b D];exact this;intro y;cases y;intro p d _;simpa using d
theorem BK(g:laidOutB P=true){W j:World}{sp:Nat->Bool}:∀ {ts:List TypeId} {e:List Value} {f:List (DataW H)} {p:List MemPlace},
 (∀t∈ts,P.readableRec t=true/\t<P.types.size)->DataW.TrodAll enc P W 0 (fun _=>true) true ts e f p->(∀x∈p,W.sameAt j x)->(∀x∈p,sp x.block=true)->DataW.TrodAll enc P j 0 sp true ts e f p
 | [],e,f,p,_,h,_,_=>by
   obtain⟨rfl,rfl,rfl⟩:=trodAll_nil h;exact rfl
 |t::ts,e,f,p,hr,h,h1,h2=>by
  obtain⟨v,e,d,ds',p',q,rfl,rfl,rfl,l,m⟩:=trodAll_cons h
  exact trodAll_cons_mk (WideElems.Trod_stays g (hr t (by simp)).1 (hr t (by simp)).2 l (fun x c=>h1 x (by simp[c])) (fun x c=>h2 x (by simp[c])))
   (BK g (fun t k=>hr t (by simp[k])) m (fun x c=>h1 x (by simp[c])) (fun x c=>h2 x (by simp[c])))
theorem RS{f:FuncId}{fn:Func}{con:ou}(hm:mz P f con)(m:P.funcs[f]?=some fn)(d:(fn.name== "runtime.NumGoroutine")=false)(n:fn.body.isSome=true)
 {W:World} {j:Gh} {args:List Value} {x:aW (con.ps.map PK.ty)} {y:aW (con.rs.map RK.ty++bn con.ps)} (p:con.F x=some y) (g:Jc W j (bW con.ps x 4).1 args (bP con.ps 4)):
 Calls P f args.toArray W (fun e w'=>∃v,e= .returned v/\∃G' l nt,uB con W j args y v w' G' l nt):=by
 have:=hm W j args x y p g;obtain⟨c,hc⟩:=afh.1 n
 have h:(callFunc f args.toArray).run P W= .ok (.enter f args.toArray) W:=by
  have k:fn.name≠ "runtime.NumGoroutine" :=by simpa using d
  unfold callFunc;simp[m,k,hc]
 unfold qx at this;rw[h]at this;exact this
end
def tE:Ty->Pt
 | .sl _=> .rom
 | .pair a b=> .pair (tE a) (tE b)
 |_=> .leaf
theorem tC:∀(τ:Ty) (tk:Nat) (hs:List Nat),aQ (tE τ) tk hs=(fV τ (.sha [3]),tk)
 | .int _,_,_| .bool,_,_| .str,_,_| .sl _,_,_=>rfl
 | .pair a b,tk,hs=>by simp only[tE,aQ,tC a,tC b,fV]
abbrev uJ(τs:List Ty):List PK:=τs.map fun τ=> .val τ (tE τ)
def GP:(τs:List Ty)->aW ((uJ τs).map PK.ty)->Prop
 | [],_=>True
 |τ::τs,x=>Fits τ x.1/\GP τs x.2
section
variable{H:Type}{enc:TypeId×Value->H}{P:Program}{w:World}{G:Gh}
theorem Ng(m:∀b,b<w.heap.size->G.col b=3){n:Nat}{r:Reach}{z:Nat}:∀ {τs:List Ty} {ts:List TypeId} {args:List Value} {f:List (DataW H)} {p:List MemPlace},
 zI P n τs ts=true->DataW.TrodAll enc P w 0 (fun _=>true) true ts args f p->(∀(j:Nat) t v,ts[j]?=some t->args[j]?=some v->Value.okWide P w r z t v)->
 ∃x:aW ((uJ τs).map PK.ty),GP τs x/\args.length=τs.length/\f.length=τs.length/\∀tk i,ck w G ((bW (uJ τs) x tk).1.getD i .no) (args.getD i undef)
 | [],[],args,f,p,_,c,_=>by
   obtain⟨rfl,rfl,rfl⟩:=trodAll_nil c;exact⟨(),trivial,rfl,rfl,fun tk i=>trivial⟩
 |τ::τs,t::ts,args,f,p,hd,c,hv=>by
  simp only[zI,q_]at hd;obtain⟨v,A,d,ds',p',q,rfl,rfl,rfl,D,I⟩:=trodAll_cons c;obtain⟨x,J,K,l,N⟩:=Ng m hd.2 I (fun j t v c g=>hv (j+1) t v (by simpa using c) (by simpa using g));obtain⟨fuel,O⟩:=D;obtain⟨y,B,s,e⟩:=RH n hd.1 O;refine⟨(y,x),⟨e,J⟩,by simp[K],by simp[l],fun tk i=> ?_⟩;have k:=XM hd.1 (hv 0 t v rfl rfl);cases i with
  |zero=>
   show ck w G (.d ⟨τ,y,(aQ (tE τ) tk [1]).1⟩) v;rw[tC];exact⟨_,k,bh.D8 s (fun b u=>by simp[m b (s.bounds b u)]) (by simp)⟩
  |succ i=>
   show ck w G ((bW (uJ τs) x (aQ (tE τ) tk [1]).2).1.getD i .no) (A.getD i undef);exact N _ i
 | [],_::_,_,_,_,h,_,_|_::_,[],_,_,_,h,_,_=>by simp[zI]at h
end
theorem Hm:∀(τs:List Ty) (tk:Nat),bP (uJ τs) tk=tk
 | [],_=>rfl
 |τ::τs,tk=>by
  show bP (uJ τs) (aL (tE τ) tk)=tk
  have:aL (tE τ) tk=tk:=by
   rw[<-cB (tE τ) tk [1],tC]
  rw[this,Hm τs]
theorem S7:∀τs:List Ty,Nz (uJ τs)=[]
 | []=>rfl
 |τ::τs=>S7 τs
theorem FE:∀(τs:List Ty) (tk:Nat),cJ (uJ τs) tk=[]
 | [],_=>rfl
 |_::τs,_=>FE τs _
section
variable{H:Type}{enc:TypeId×Value->H}{P:Program}
theorem OW{f:FuncId}{fn:Func}{τs:List Ty}{F:aW ((uJ τs).map PK.ty)->Option (aW ([RK.val .bool .leaf].map RK.ty++bn (uJ τs)))}{spec:ChangeSpec}{tb:TypeId}{n:Nat}
 (hm:mz P f ⟨uJ τs,[.val .bool .leaf],F,[]⟩) (hf:P.funcs[f]?=some fn) (A:(fn.name== "runtime.NumGoroutine")=false) (d:fn.body.isSome=true)
 (hd:zI P n τs fn.params.toList=true) (m:fn.resultTypes= #[tb]) (S:P.underlying tb=some .bool) (hl:laidOutB P=true)
 (hr:fn.params.toList.all (fun t=>P.readableRec t&&decide (t<P.types.size))=true) (g:spec.vars=[])
 (B:∀s:List (DataW H),s.length=τs.length->spec.fn H s={results:=[.lit (.bool true)],args:=s})
 (hF:∀x,GP τs x->∃y,F x=some y/\y.1=true)
 (W:World) (base:Nat) (args:Array Value) (s gs:List (DataW H)) (before:List MemPlace)
 (T:∀(j:Nat) t v,fn.params[j]?=some t->args[j]?=some v->Value.okWide P W .any base t v)
 (hW:DataW.Whole enc P fn.params.toList spec.vars false W args.toList s gs before):
 Calls P f args W fun e J=>∃v,e= .returned v/\spec.post enc P fn false true false false W args v J:=by
 have av:=hW;have aB:=hW.lt;obtain⟨p,q,hA,hV,rfl,hfz,hnd⟩:=hW;rw[g]at hV;obtain⟨rfl,rfl⟩:=trodVars_none hV;have V:DataW.TrodAll enc P W 0 (fun _=>true) true fn.params.toList args.toList s p:=hA
 let N:Gh:=⟨fun b=>if b<W.heap.size then 3 else 0,fun _=>undef,fun _=>false⟩
 obtain⟨x,ao,hlen,a7,hs⟩:=Ng (G:=N) (fun b d=>an d) hd V (fun j t v K O=>T j t v (by simpa using K) (by simpa using O));obtain⟨y,hy,a8⟩:=hF x ao
 have X:Jc W N (bW (uJ τs) x 4).1 args.toList (bP (uJ τs) 4):=by
  rw[Hm];refine⟨by rw[mS,hlen];simp,fun i=>hs 4 i,fun i=> ?_,fun i j t v v' h h'=>tc h h',fun b d=> ?_,fun b d=> ?_,⟨rfl,rfl⟩,fun b=> ?_⟩;by_cases hi:i<(bW (uJ τs) x 4).1.length
  have Y:(bW (uJ τs) x 4).1.getD i .no∈(bW (uJ τs) x 4).1:=by
   rw[J4,VG hi];simp
  obtain⟨K,O,h3⟩:=kW _ Y;rw[Hm]at K;have a1:=FE τs 4;refine⟨fun c hc=> ?_,fun c hc=> ?_,by rw[h3];simp⟩;rcases K c hc with FF|⟨q1,q2,q3⟩|h;exact⟨by omega,by omega,rfl⟩;omega;rw[S7]at h;cases h;have:=O c hc;rw[a1]at this;cases this;rw[J4,afn (by omega)];simp[bg,SV.sc,SV.bt,SV.rt];simp only[N]at d|-;split at d;rename_i h;exact⟨by rw[an h];omega,h⟩;omega;simp only[N]at d;split at d<;>omega;simp only[N];split<;>omega
 have k:=RS hm hf A d hy X;simp only[Array.toArray_toList]at k;refine k.mono fun e J ⟨v,he,G',vs,nt,hp⟩=>⟨v,he,?_⟩
 have l:=hp.len;simp only[afx]at l;obtain⟨u,rfl⟩:=List.length_eq_one_iff.1 l
 have hv:v= .bool true:=by
  rw[hp.val];obtain⟨cs,K,O⟩:=hp.res 0;have Z:cs=[.bool y.1]:=O;rw[a8]at Z;subst Z;exact K
 subst hv;have hh:∀b,b<W.heap.size->J.heap[b]?=W.heap[b]?:=fun b d=>(hp.frame b d (by simp only[N];split<;>omega)).2
 have D:∀z∈p,W.sameAt J z:=by
  intro z hz;have ad:=aB z (by simpa using hz);cases z with
  |cell b off=>
   show J.cell? ⟨b,off,none⟩=W.cell? ⟨b,off,none⟩;unfold World.cell?;simp only;rw[hh b ad]
  |map b=>exact hh b ad
 have a6:W.keptBut J (·∈p++[]):=by
  refine⟨hp.os,hp.output,fun i hi=> ?_⟩;rw[hh i hi];cases W.heap[i]? with
  |none=>rfl
  |some ob=>cases ob<;>simp
 have I:=B (s++[]) (by simpa using a7);refine Wu av (fun b sp hd=> ?_) (fun sp R=> ?_) g (by rw[I]) a6 hh (ok_one m rfl (okWide_bool_mk S _));rw[I,m];exact trodAll_cons_mk (shut_bool S _) trodAll_mk0;rw[I,afQ,afQ]
 exact BK hl (fun t ht=>by
  have:=s_.1 hr t ht;simpa using this) V D (fun z hz=>R z (by simpa using hz))
end
end Vg
namespace Vg
open Go
structure mf where
 τ:Ty
 F:τ.den->Int->Option (Int×τ.den)
structure uu where
 t:Nat
 e:Ty
 l:List e.den
def mK:Sh->Option (List Nat)
 | .leaf=>some []
 | .sl (.row t hs nd)=>if nd&&hs.all (·==t)then some [t]else none
 | .sl (.sha [])=>some []
 | .sl _=>none
 | .pair a b=>match mK a,mK b with
   |some x,some y=>if x.all (!y.contains ·)then some (x++y)else none
   |_,_=>none
def rowsOf:(τ:Ty)->τ.den->Sh->List uu
 | .sl e,l,.sl (.row t _ _)=>[⟨t,e,l⟩]
 | .pair a b,x,.pair s1 s2=>rowsOf a x.1 s1++rowsOf b x.2 s2
 |_,_,_=>[]
def jS(L:List uu):(τ:Ty)->τ.den->Sh->τ.den×Sh
 | .sl e',l,.sl (.row u hs nd)=>match L.find? (·.t==u)with
   |some p=>if h:p.e=e' then(cast (congrArg (fun τ=>List (Ty.den τ)) h) p.l,.sl (.row u [u] true))else(l,.sl .dead)
   |none=>match meets hs (L.map (·.t))with|true=>(l,.sl .dead)|false=>(l,.sl (.row u hs nd))
 | .sl _,l,.sl (.sha hs)=>match meets hs (L.map (·.t))with|true=>(l,.sl .dead)|false=>(l,.sl (.sha hs))
 | .sl _,l,.sl (.nst _ _ _ _ _ _)=>(l,.sl .dead)
 | .pair a b,x,.pair s1 s2=>(((jS L a x.1 s1).1,(jS L b x.2 s2).1),.pair (jS L a x.1 s1).2 (jS L b x.2 s2).2)
 |_,x,sh=>(x,sh)
def TV.mark(L:List uu)(v:TV):TV:=⟨v.τ,(jS L v.τ v.x v.sh).1,(jS L v.τ v.x v.sh).2⟩
def SV.mark(L:List uu):SV->SV
 | .d v=> .d (v.mark L)
 | .box b v=> .box b (v.mark L)
 | .tup l=> .tup (l.map (TV.mark L))
 | .g _ _ _ _=> .no
 | .rdp _ _=> .no
 |v=>v
def Env.mark(E:Env)(L:List uu):Env:={E with s:=E.s.map (SV.mark L)}
section
variable{P:Program}{C:Cx}{w0:World}{c0:C0}{U:Nat->Prop}{E:Env}{a:Act}{w w':World}{G G':Gh}{L:List uu}
structure Marks(U:Nat->Prop)(G G':Gh)(w w':World)(L:List uu):Prop where
 good:∀p∈L,4<=p.t/\Good U G p.t
 hdr:G'.hdr=G.hdr
 bx:G'.bx=G.bx
 keep:∀b,0<G.col b->G.col b∉L.map (·.t)->w'.heap[b]?=w.heap[b]?/\G'.col b=G.col b
 row:∀p∈L,bV w' G' p.e p.l (G.hdr p.t) (.row p.t [p.t] true)
theorem RM{u:Nat}(h:L.find? (·.t==u)=none):u∉L.map (·.t):=by
 intro c;rw[G_]at c;obtain⟨p,d,rfl⟩:=c;rw[List.find?_eq_none]at h;exact h p d (by simp)
theorem Marks.agree(q:Marks U G G' w w' L){S T:List Nat}(h:∀c∈S,0<c/\c∉L.map (·.t)):xz S T w w' G G':=
 ⟨fun b p=>(q.keep b (h _ p).1 (h _ p).2).1,fun b p=>(q.keep b (h _ p).1 (h _ p).2).2,fun t _=>by rw[q.hdr]⟩
theorem ue(g:Marks U G G' w w' L):∀ {τ:Ty} {x:τ.den} {sh:Sh} {cs:List Value},bh w G τ x sh cs->(∀c∈sh.ar,0<c)->
 bh w' G' τ (jS L τ x sh).1 (jS L τ x sh).2 cs
 | .int _,_,.leaf,_,h,_=>h
 | .bool,_,.leaf,_,h,_=>h
 | .str,_,.leaf,_,h,_=>h
 | .sl e',l,.sl (.row u hs nd),cs,h,hp=>by
   obtain⟨v,rfl,e⟩:=h;simp only[jS];split;rename_i p d;have j:p.t=u:=by have:=List.find?_some d;simpa using this
   have k:=List.mem_of_find?_eq_some d;split;rename_i he;obtain⟨pt,pe,pl⟩:=p;simp only at j he;subst j he;refine⟨v,rfl,?_⟩;have:v=G.hdr pt:=e.2.1.symm;rw[this];exact g.row _ k;exact⟨v,rfl,e.one⟩;rename_i f;have hu:=RM f;split;exact⟨v,rfl,e.one⟩;rename_i hm;refine⟨v,rfl,bV.agree (g.agree (fun c hc=>⟨hp c hc,?_⟩)) e⟩;rcases si.1 hc with rfl|hc;exact hu;exact pZ hm c hc
 | .sl e',l,.sl (.sha hs),cs,h,hp=>by
   obtain⟨v,rfl,e⟩:=h;simp only[jS];split;exact⟨v,rfl,e.one⟩;rename_i hm;exact⟨v,rfl,bV.agree (g.agree (fun c hc=>⟨hp c hc,pZ hm c hc⟩)) e⟩
 | .sl e',l,.sl (.nst _ _ _ _ _ _),cs,h,hp=>by
   obtain⟨v,rfl,e⟩:=h;exact⟨v,rfl,e.one⟩
 | .sl e',l,.sl .dead,cs,h,hp=>by
   obtain⟨v,rfl,e⟩:=h;exact⟨v,rfl,e⟩
 | .pair a b',p,.pair s1 s2,cs,h,hp=>by
   obtain⟨m,n,rfl,q,s⟩:=h;exact⟨m,n,rfl,ue g q (fun c h=>hp c (by simp[Sh.ar,h])),ue g s (fun c h=>hp c (by simp[Sh.ar,h]))⟩
 | .int _,_,.sl _,_,h,_| .int _,_,.pair _ _,_,h,_| .bool,_,.sl _,_,h,_| .bool,_,.pair _ _,_,h,_
 | .str,_,.sl _,_,h,_| .str,_,.pair _ _,_,h,_| .sl _,_,.leaf,_,h,_| .sl _,_,.pair _ _,_,h,_
 | .pair _ _,_,.leaf,_,h,_| .pair _ _,_,.sl _,_,h,_=>h.elim
theorem pS:∀ {τ:Ty} {x:τ.den} {sh:Sh},∀c∈(jS L τ x sh).2.ar,c∈sh.ar
 | .sl e',l,.sl (.row u hs nd),c,h=>by
   simp only[jS]at h;split at h;split at h;simp only[Sh.ar,M.ar,si,afi,or_false,or_self]at h;subst h;simp[Sh.ar,M.ar];simp[Sh.ar,M.ar]at h;split at h;simp[Sh.ar,M.ar]at h;exact h
 | .sl _,_,.sl (.sha hs),c,h=>by
   simp only[jS]at h;split at h;simp[Sh.ar,M.ar]at h;exact h
 | .pair a b',p,.pair s1 s2,c,h=>by
   simp only[jS,Sh.ar,l8]at h|-;rcases h with h|h;exact .inl (pS c h);exact .inr (pS c h)
 | .sl _,_,.sl (.nst _ _ _ _ _ _),c,h=>by simp[jS,Sh.ar,M.ar]at h
 | .sl _,_,.leaf,_,h| .sl _,_,.pair _ _,_,h| .sl _,_,.sl .dead,_,h
 | .int _,_,.leaf,_,h| .int _,_,.sl _,_,h| .int _,_,.pair _ _,_,h| .bool,_,.leaf,_,h| .bool,_,.sl _,_,h| .bool,_,.pair _ _,_,h
 | .str,_,.leaf,_,h| .str,_,.sl _,_,h| .str,_,.pair _ _,_,h| .pair _ _,_,.leaf,_,h| .pair _ _,_,.sl _,_,h=>h
theorem ck.mark(q:Marks U G G' w w' L):∀ {s:SV} {mv:Value},ck w G s mv->bg U G s->ck w' G' (s.mark L) mv
 | .no,_,_,_=>trivial
 | .d v,mv,⟨cs,h1,h2⟩,hm=>⟨cs,h1,ue q h2 (fun c h=>(hm.1 c h).1)⟩
 | .box t v,mv,⟨bk,c,el,h1,h2,h3,h4,h5,h6⟩,hm=>by
   have I:=hm.2.1 t (by simp[SV.bt])
   have N:t∉L.map (·.t):=by
    intro y;rw[G_]at y;obtain⟨p,O,e⟩:=y;have:=(q.good p O).2.2.2;rw[e,I.2.2]at this;cases this
   have J:=q.keep bk (by rw[h4];exact I.1) (by rw[h4];exact N);exact⟨bk,c,el,h1,h2,by rw[q.hdr];exact h3,J.2.trans h4,J.1.trans h5,ue q h6 (fun c h=>(hm.1 c h).1)⟩
 | .ptr t o p τ,mv,⟨bk,h1,h2,h3⟩,_=>⟨bk,h1,by rw[q.hdr];exact h2,h3⟩
 | .ept t e' i o p τ,mv,⟨b,off,n,cap,h1,h2,h3⟩,_=>⟨b,off,n,cap,h1,by rw[q.hdr];exact h2,h3⟩
 | .rdp hs v,mv,_,_=>trivial
 | .tup l,mv,⟨vs,h1,h2,h3⟩,hm=>by
   refine⟨vs,h1,by simp[h2],fun i v D=> ?_⟩;rw[af3,afl]at D;obtain⟨K,z,rfl⟩:=D;obtain⟨u,cs,hu,B,R⟩:=h3 i K z;exact⟨u,cs,hu,B,ue q R (fun c A=>(hm.1 c (afd.2 ⟨K,afC z,A⟩)).1)⟩
 | .g j w2 act v,mv,_,_=>trivial
theorem bg.mark(p:Marks U G G' w w' L):∀ {s:SV},bg U G s->bg U G' (s.mark L)
 | .no,h| .ptr ..,h| .ept ..,h=>by simpa only[bg,SV.mark,p.bx]using h
 | .d v,hm=>by rw[SV.mark,bg,p.bx];exact bg.d fun c hc=>hm.1 c (pS c hc)
 | .box t v,hm=>by
   simp only[SV.mark,bg,p.bx];exact⟨fun c hc=>hm.1 c (pS c hc),hm.2.1,hm.2.2⟩
 | .rdp hs v,hm=>by simp[bg,SV.mark,SV.sc,SV.bt,SV.rt]
 | .tup l,hm=>by
   refine⟨fun c hc=> ?_,by simp[SV.mark,SV.bt],by simp[SV.mark,SV.rt]⟩;simp only[SV.mark,SV.sc,af9,afd]at hc;obtain⟨v,q,hc⟩:=hc;rw[p.bx];exact hm.1 c (afd.2 ⟨v,q,pS c hc⟩)
 | .g j w2 act v,hm=>by simp[bg,SV.mark,SV.sc,SV.bt,SV.rt]
theorem PJ{s:SV}{t:Nat}{u:TV}(h:s.mark L= .box t u):∃c,s= .box t c:=by
 cases s with
 |box t' v=>simp only[SV.mark,SV.box.injEq]at h;exact⟨v,by rw[h.1]⟩
 |_=>simp[SV.mark]at h
theorem aaL{s:SV}{j:Nat}{w act:Bool}{v:SV}:s.mark L≠ .g j w act v:=by
 cases s<;>simp[SV.mark]
theorem Inv.mark(p:Inv w0 c0 U E a w G)(z:Marks U G G' w w' L)(q:∀b,0<G'.col b->U (G'.col b))(lt:∀b,0<G'.col b->b<w'.heap.size)
 (fresh:∀b,4<=G'.col b->∃c el,w'.heap[b]?=some (.cells c el (0,0)))
 (frame:∀b,b<w0.heap.size->c0.col b<4->G'.col b=c0.col b/\w'.heap[b]?=w0.heap[b]?)
 (one:∀b,G'.col b=1\/G'.col b=3->G.col b=G'.col b) (size:w.heap.size<=w'.heap.size)
 (os:w'.os=w.os) (tape:w'.tape=w.tape) (output:w'.output=w.output):Inv w0 c0 U (E.mark L) a w' G':=by
 have y:∀s,(E.mark L).s.getD s .no=(E.s.getD s .no).mark L:=fun s=>getD_map (T:=SV.mark L) rfl s;have hm:∀s,bg U G' ((E.s.getD s .no).mark L):=fun s=>bg.mark z (p.oK s);refine⟨by simpa[Env.mark]using p.len,fun s=> ?_,fun s=> ?_,fun s=> ?_,fun s=> ?_,fun s K t v v' D I=> ?_,q,lt,fresh,frame,fun b A=>by have h:=p.one b (by rw[one b A];exact A);rw[one b A]at h;exact h,Nat.le_trans p.size size,os.trans p.os,tape.trans p.tape,output.trans p.output,p.defers,?_,fun J t v e=>⟨(p.hk J t v e).1,by rw[z.hdr];exact(p.hk J t v e).2⟩⟩;rw[y];exact ck.mark z (p.slots s) (p.oK s);rw[y];exact(hm s).1;rw[y];exact(hm s).2.1;rw[y];exact(hm s).2.2;rw[y]at D I;obtain⟨u,hu⟩:=PJ D;obtain⟨N,B⟩:=PJ I;exact p.uni s K t u N hu B;rw[z.bx];exact p.two
end
def Dv(w:World)(b:Nat):Prop:=∃c el,w.heap[b]?=some (.cells c el (0,0))
structure AW(w w':World)(τ:Ty)(y:τ.den)(cs:List Value)(B B':List Nat):Prop where
 rep:aK w' τ y cs B'
 nd:B'.Nodup
 inn:∀b∈B',b∈B\/w.heap.size<=b
 fresh:∀b∈B',Dv w' b
 frame:∀b,b<w.heap.size->b∉B->w'.heap[b]?=w.heap[b]?
 size:w.heap.size<=w'.heap.size
 os:w'.os=w.os
 tape:w'.tape=w.tape
 output:w'.output=w.output
def DO(P:Program)(f:FuncId)(m:mf):Prop:=
 ∀(w:World) (x:m.τ.den) (n k:Int) (y:m.τ.den) (cs:List Value) (B:List Nat),m.F x n=some (k,y)->aK w m.τ x cs B->B.Nodup->(∀b∈B,Dv w b)->
  qx P f #[cT m.τ cs,.int .i64 n] w (fun mv w'=>mv= .int .i64 k/\∃B',AW w w' m.τ y cs B B')
section
variable{P:Program}{C:Cx}{w0:World}{c0:C0}{U:Nat->Prop}{E:Env}{a:Act}{w w':World}{G G':Gh}{L:List uu}
theorem Inv.Q4(D:Inv w0 c0 U E a w G)(y:∀p∈L,4<=p.t/\Good U G p.t){B B2:List Nat}(f:Nat->Nat)
 (X:∀b∈B,G.col b∈L.map (·.t)) (z:∀b∈B2,(G.col b∈L.map (·.t)\/w.heap.size<=b)/\f b∈L.map (·.t)/\Dv w' b)
 (q:∀b,b<w.heap.size->b∉B->w'.heap[b]?=w.heap[b]?) (size:w.heap.size<=w'.heap.size)
 (os:w'.os=w.os) (tape:w'.tape=w.tape) (output:w'.output=w.output)
 (J:∀G':Gh,G'.hdr=G.hdr->(∀b∈B2,G'.col b=f b)->∀p∈L,bV w' G' p.e p.l (G.hdr p.t) (.row p.t [p.t] true)):
 ∃G',Inv w0 c0 U (E.mark L) a w' G'/\G'.hdr=G.hdr/\G'.bx=G.bx:=by
 have S:∀t∈L.map (·.t),4<=t/\Good U G t:=by
  intro t V;rw[G_]at V;obtain⟨p,Y,rfl⟩:=V;exact y p Y
 let G':Gh:=⟨fun b=>if b∈B2 then f b else if G.col b∈L.map (·.t)then 0 else G.col b,G.hdr,G.bx⟩
 have K:∀b∈B2,G'.col b=f b:=fun b u=>by simp[G',u]
 have hc:∀b,(b∈B2/\G'.col b=f b)\/(b∉B2/\G.col b∈L.map (·.t)/\G'.col b=0)\/(b∉B2/\G.col b∉L.map (·.t)/\G'.col b=G.col b):=by
  intro b;by_cases I:b∈B2;exact .inl ⟨I,K b I⟩;by_cases O:G.col b∈L.map (·.t);exact .inr (.inl ⟨I,O,by simp only[G',I,O,if_true,if_false]⟩);exact .inr (.inr ⟨I,O,by simp only[G',I,O,if_false]⟩)
 have A:∀b,b<w.heap.size->G.col b∉L.map (·.t)->b∉B2/\b∉B:=by
  intro b u v;refine⟨fun h=> ?_,fun h=>v (X b h)⟩;rcases(z b h).1 with h|h;exact v h;omega
 refine⟨G',D.mark (G':=G') ⟨y,rfl,rfl,fun b u v=> ?_,J G' rfl K⟩ (fun b u=> ?_) (fun b u=> ?_) (fun b u=> ?_) (fun b u R=> ?_) (fun b u=> ?_) size os tape output,rfl,rfl⟩;obtain⟨q1,q2⟩:=A b (D.lt b u) v;refine⟨q b (D.lt b u) q2,?_⟩;rcases hc b with⟨h,_⟩|⟨_,h,_⟩|⟨_,_,h⟩;exact absurd h q1;exact absurd h v;exact h;rcases hc b with⟨h,e⟩|⟨_,h,e⟩|⟨_,_,e⟩;rw[e];exact(S _ (z b h).2.1).2.2.1;omega;rw[e]at u|-;exact D.colU b u;rcases hc b with⟨h,e⟩|⟨_,h,e⟩|⟨_,_,e⟩;obtain⟨c,el,Z⟩:=(z b h).2.2;exact lt_of_block Z;omega;rw[e]at u;exact af2 (D.lt b u) size;rcases hc b with⟨h,e⟩|⟨_,h,e⟩|⟨_,v,e⟩;exact(z b h).2.2;omega;rw[e]at u;have N:=D.lt b (by omega);rw[q b N (A b N v).2];exact D.fresh b u;have W:=D.frame b u R;have N:b<w.heap.size:=af2 u D.size;have v:G.col b∉L.map (·.t):=fun h=>by have:=(S _ h).1;omega
 obtain⟨q1,q2⟩:=A b N v;refine⟨?_,by rw[q b N q2];exact W.2⟩;rcases hc b with⟨h,_⟩|⟨_,h,_⟩|⟨_,_,h⟩;exact absurd h q1;exact absurd h v;rw[h];exact W.1;rcases hc b with⟨h,e⟩|⟨_,h,e⟩|⟨_,v,e⟩;have:=(S _ (z b h).2.1).1;omega;omega;exact e.symm
theorem Ak:∀ {τ:Ty} {x:τ.den} {sh:Sh} {cs:List Value} {ts:List Nat},bh w G τ x sh cs->mK sh=some ts->sh.own=some ts
 | .int _,_,.leaf,_,ts,_,h| .bool,_,.leaf,_,ts,_,h| .str,_,.leaf,_,ts,_,h=>h
 | .sl e,l,.sl m,cs,ts,h,ho=>by
   obtain⟨v,rfl,s⟩:=h;cases m with
   |row t f nd=>
    have k:=s.1;simp only[mK]at ho;split at ho;rename_i hc;simp only[q_,s_,beq_iff_eq]at hc;cases ho
    have n:f.filter (·≠t)=[]:=by
     rw[List.filter_eq_nil_iff];intro c d;simp[hc.2 c d]
    have q:f.all (4<=·)=true:=by
     rw[s_];intro c d;simp[hc.2 c d,k]
    simp only[Sh.own,M.own,hc.1,q,n,Bool.and_self,if_true];cases ho
   |sha f=>
    cases f with
    |nil=>exact ho
    |cons=>simp[mK]at ho
   |nst=>simp[mK]at ho
   |dead=>simp[mK]at ho
 | .pair a b,p,.pair s1 s2,cs,ts,h,ho=>by
   obtain⟨c1,c2,rfl,u,z⟩:=h;simp only[mK]at ho;split at ho;rename_i x y g j;simp only[Sh.own,Ak u g,Ak z j];exact ho;cases ho
 | .int _,_,.sl _,_,_,h,_| .int _,_,.pair _ _,_,_,h,_| .bool,_,.sl _,_,_,h,_| .bool,_,.pair _ _,_,_,h,_
 | .str,_,.sl _,_,_,h,_| .str,_,.pair _ _,_,_,h,_| .sl _,_,.leaf,_,_,h,_| .sl _,_,.pair _ _,_,_,h,_
 | .pair _ _,_,.leaf,_,_,h,_| .pair _ _,_,.sl _,_,_,h,_=>h.elim
theorem Ez:∀ {τ:Ty} {x y:τ.den} {sh:Sh} {cs:List Value} {ts:List Nat} {B':List Nat},bh w G τ x sh cs->mK sh=some ts->aK w' τ y cs B'->B'.Nodup->
 (rowsOf τ y sh).map (·.t)=ts/\(∀t∈ts,4<=t)/\∃f:Nat->Nat,(∀b∈B',f b∈ts)/\∀G':Gh,G'.hdr=G.hdr->(∀b∈B',G'.col b=f b)->∀p∈rowsOf τ y sh,bV w' G' p.e p.l (G.hdr p.t) (.row p.t [p.t] true)
 | .int _,_,_,.leaf,_,ts,B',_,h,hr,_=>by
   cases h;cases hr.2;exact⟨rfl,by simp,fun _=>0,by simp,by simp[rowsOf]⟩
 | .bool,_,_,.leaf,_,ts,B',_,h,hr,_=>by
   cases h;cases hr.2;exact⟨rfl,by simp,fun _=>0,by simp,by simp[rowsOf]⟩
 | .str,_,_,.leaf,_,ts,B',_,h,hr,_=>by
   cases h;cases hr.2;exact⟨rfl,by simp,fun _=>0,by simp,by simp[rowsOf]⟩
 | .sl e,l,y,.sl m,cs,ts,B',h,ho,hr,hn=>by
   obtain⟨v,rfl,d⟩:=h;obtain⟨v',D,N⟩:=hr;cases D;cases m with
   |row t R nd=>
    simp only[mK]at ho;split at ho;cases ho;refine⟨rfl,by simpa using d.1,fun _=>t,by simp,fun G' s A p K=> ?_⟩;simp only[rowsOf,ae7]at K;subst K;refine⟨d.1,by rw[s],B',by rw[d.2.1];exact N,?_⟩;rintro b S rfl;rw[afa]at hn;exact⟨A b (by simp),hn.1,fun z g=>by simp[A z (by simp[g])],fun _=>hn.2⟩;cases ho
   |sha R=>
    cases R with
    |nil=>
     cases ho;have B:=d.2 rfl
     have V:B'=[]:=by
      rcases N with⟨_,_,W⟩|⟨b,off,cap,c,el,fz,S,n,_⟩;exact W;rw[B]at n;cases n
     subst V;exact⟨rfl,by simp,fun _=>0,by simp,by simp[rowsOf]⟩
    |cons=>simp[mK]at ho
   |nst=>simp[mK]at ho
   |dead=>simp[mK]at ho
 | .pair a b,p,y,.pair s1 s2,cs,ts,B',h,ho,hr,hn=>by
   obtain⟨c1,c2,rfl,s,A⟩:=h;obtain⟨d1,d2,I,B2,J,rfl,O,X⟩:=hr;have hl1:=bh.len s;have hl2:=aK.len O;obtain⟨Y,Z⟩:=List.append_inj J (by omega);subst Y Z;simp only[mK]at ho;split at ho;rename_i u v hu B;split at ho;cases ho;rw[G8]at hn;obtain⟨n1,n2,n3⟩:=hn;obtain⟨i1,i3,f1,j1,k1⟩:=Ez s hu O n1;obtain⟨i2,i4,f2,j2,k2⟩:=Ez A B X n2;refine⟨by simp[rowsOf,i1,i2],fun t T=>(l8.1 T).elim (i3 t) (i4 t),fun z=>if z∈I then f1 z else f2 z,fun z g=> ?_,fun G' g1 g2 q k=> ?_⟩;by_cases j:z∈I;simp only[j,if_true];exact afq _ (j1 z j);simp only[j,if_false];exact aff _ (j2 z ((l8.1 g).resolve_left j));simp only[rowsOf,l8]at k;rcases k with k|k;exact k1 G' g1 (fun z g=>by rw[g2 z (afq _ g)];simp[g]) q k
   exact k2 G' g1 (fun z g=>by
    rw[g2 z (aff _ g)];have:z∉I:=fun h=>n3 z h z g rfl;simp[this]) q k
   cases ho;cases ho
 | .int _,_,_,.sl _,_,_,_,h,_,_,_| .int _,_,_,.pair _ _,_,_,_,h,_,_,_| .bool,_,_,.sl _,_,_,_,h,_,_,_| .bool,_,_,.pair _ _,_,_,_,h,_,_,_
 | .str,_,_,.sl _,_,_,_,h,_,_,_| .str,_,_,.pair _ _,_,_,_,h,_,_,_| .sl _,_,_,.leaf,_,_,_,h,_,_,_| .sl _,_,_,.pair _ _,_,_,_,h,_,_,_
 | .pair _ _,_,_,.leaf,_,_,_,h,_,_,_| .pair _ _,_,_,.sl _,_,_,_,h,_,_,_=>h.elim
theorem WN(A:Inv w0 c0 U E a w G){l:FuncId}{m:mf}(I:DO P l m){x y:m.τ.den}{sh:Sh}{cs:List Value}{ts:List Nat}(u:bh w G m.τ x sh cs)(J:∀c∈sh.ar,Good U G c)(D:mK sh=some ts)
 {n k:Int} (K:m.F x n=some (k,y)):
 qx P l #[cT m.τ cs,.int .i64 n] w (fun mv w'=>mv=Value.int .i64 k/\∃G',Inv w0 c0 U (E.mark (rowsOf m.τ y sh)) a w' G'):=by
 have g:=Ak u D;obtain⟨B,O,R,hc⟩:=u.own g;have N:=Sh.jM u g;have:=I w x n k y cs B K O R (fun b j=>A.fresh b (N _ (hc b j)));unfold qx at this|-
 have key:∀(mv:Value) (w':World),(mv= .int .i64 k/\∃z,AW w w' m.τ y cs B z)->(mv= .int .i64 k/\∃G',Inv w0 c0 U (E.mark (rowsOf m.τ y sh)) a w' G'):=by
  rintro mv w' ⟨h1,z,d⟩;refine⟨h1,?_⟩;obtain⟨i1,i2,f,S,T⟩:=Ez u D d.rep d.nd
  obtain⟨G',q,_⟩:=A.Q4 (L:=rowsOf m.τ y sh) (B:=B) (B2:=z) (w':=w') (fun p d=>by
   have s:p.t∈ts:=by rw[<-i1];exact List.mem_map_of_mem d
   exact⟨i2 _ s,J _ (Sh.iv g _ s)⟩) f (fun b j=>by rw[i1];exact hc b j)
   (fun b j=>⟨(d.inn b j).imp (fun h=>by rw[i1];exact hc b h) id,by rw[i1];exact S b j,d.fresh b j⟩) d.frame d.size d.os d.tape d.output T
  exact⟨G',q⟩
 split at this;exact Calls.mono this (fun e w' ⟨v,h1,h2⟩=>⟨v,h1,key v w' h2⟩);exact key _ _ this;exact this
theorem aK.part:∀ {p:List Bool} {τ:Ty} {x:τ.den} {sh:Sh} {cs:List Value} {B:List Nat} {r:TV},fm τ x sh p=some r->aK w τ x cs B->
 ∃A Bo D,B=A++Bo++D/\aK w r.τ r.x ((cs.drop (τ.off p)).take r.τ.sz) Bo/\τ.off p+r.τ.sz<=τ.sz/\
  ∀(w':World) (v:r.τ.den) (sv:Sh) (I:List Nat) (y:τ.den) (s:Sh),(∀b∈A++D,w'.heap[b]?=w.heap[b]?)->aK w' r.τ v ((cs.drop (τ.off p)).take r.τ.sz) I->
   fC τ x sh p ⟨r.τ,v,sv⟩=some (y,s)->aK w' τ y cs (A++I++D)
 | [],τ,x,sh,cs,B,r,hr,h=>by
   have:r=⟨τ,x,sh⟩:=by cases τ<;>simp_all[fm]
   subst this;have W:=aK.len h;have X:τ.off []=0:=by cases τ<;>rfl
   have R:(cs.drop 0).take τ.sz=cs:=by rw[agl,afw (by omega)]
   refine⟨[],B,[],by simp,by rw[X,R];exact h,by rw[X];simp,fun w' v sv I y s _ z u=> ?_⟩
   have Y:fJ ⟨τ,v,sv⟩ τ=some y:=by
    cases τ<;>(simp only[fC]at u;split at u<;>simp_all)
   have e:=dv Y;simp only[TV.mk.injEq,heq_eq_eq,true_and]at e;rw[X,R]at z;rw[<-e.1];simpa using z
 |false::p,.pair a b,x,.pair s1 s2,cs,B,r,hr,h=>by
  obtain⟨N,O,Z,B2,rfl,rfl,S,h2⟩:=h;obtain⟨A,Bo,D,rfl,hq,hle,hk⟩:=aK.part (p:=p) (by simpa[fm]using hr) S;have W:=aK.len S
  have e:((N++O).drop (a.off p)).take r.τ.sz=(N.drop (a.off p)).take r.τ.sz:=by
   rw[afD (by omega),List.take_append_of_le_length (by simp;omega)]
  refine⟨A,Bo,D++B2,by simp,by simp only[Ty.off];rw[e];exact hq,by simp only[Ty.off,Ty.sz];omega,fun w' v sv I y s hw z u=> ?_⟩;simp only[Ty.off]at z;rw[e]at z;simp only[fC]at u;split at u;rename_i V J K;cases u;have:=hk w' v sv I V J (fun b q=>hw b (by simp only[l8]at q|-;rcases q with q|q<;>simp[q])) z K;exact⟨N,O,_,B2,rfl,by simp,this,aK.mono (fun b q=>hw b (by simp[q])) h2⟩;cases u
 |true::p,.pair a b,x,.pair s1 s2,cs,B,r,hr,h=>by
  obtain⟨N,O,Z,B2,rfl,rfl,S,h2⟩:=h;obtain⟨A,Bo,D,rfl,hq,hle,hk⟩:=aK.part (p:=p) (by simpa[fm]using hr) h2;have W:=aK.len S
  have e:((N++O).drop (a.sz+b.off p)).take r.τ.sz=(O.drop (b.off p)).take r.τ.sz:=by
   rw[<-W,List.drop_append,List.drop_of_length_le (by omega)];simp
  refine⟨Z++A,Bo,D,by simp,by simp only[Ty.off];rw[e];exact hq,by simp only[Ty.off,Ty.sz];omega,fun w' v sv I y s hw z u=> ?_⟩;simp only[Ty.off]at z;rw[e]at z;simp only[fC]at u;split at u;rename_i V J K;cases u;have:=hk w' v sv I V J (fun b q=>hw b (by simp only[l8]at q|-;rcases q with q|q<;>simp[q])) z K;exact⟨N,O,Z,_,rfl,by simp,aK.mono (fun b q=>hw b (by simp[q])) S,this⟩;cases u
 |b::p,.int _,_,_,_,_,_,hr,_|b::p,.bool,_,_,_,_,_,hr,_|b::p,.str,_,_,_,_,_,hr,_|b::p,.sl _,_,_,_,_,_,hr,_=>by simp[fm]at hr
 |false::p,.pair _ _,_,.leaf,_,_,_,hr,_|false::p,.pair _ _,_,.sl _,_,_,_,hr,_=>by simp[fm]at hr
 |true::p,.pair _ _,_,.leaf,_,_,_,hr,_|true::p,.pair _ _,_,.sl _,_,_,_,hr,_=>by simp[fm]at hr
def cellsOf(w:World)(b o n:Nat):List Value:=match w.heap[b]? with|some (.cells c _ _)=>(c.toList.drop o).take n|_=>[]
theorem Zk(hI:Inv w0 c0 U E a w G){bb:FuncId}{m:mf}(hM:DO P bb m){b:Nat}{e:Ty}{l:List e.den}{hs:List Nat}(bl:E.rd.row b e=some (l,hs,true))(bs:hs.all (·==b)=true)
 {A of n cap:Nat} (hb:G.hdr b= .slice (some ⟨A,of,none⟩) n cap) {i:Nat} (hi:i<n) {bx:Sh} {path:List Bool} {r:TV} (b0:fm e (l.getD i e.aa) bx path=some r) {x y:m.τ.den} (hx:fJ r m.τ=some x)
 {z k:Int} (hF:m.F x z=some (k,y)) {sv:Sh} {ye:e.den} {se:Sh} (b1:fC e (l.getD i e.aa) bx path ⟨m.τ,y,sv⟩=some (ye,se)):
 (∃c el fz,w.heap[A]?=some (.cells c el fz)/\of+i*e.sz+e.off path+m.τ.sz<=c.size)/\
 qx P bb #[cT m.τ (cellsOf w A (of+i*e.sz+e.off path) m.τ.sz),.int .i64 z] w (fun mv w'=>mv=Value.int .i64 k/\∃G',Inv w0 c0 U (E.mark [⟨b,e,l.set i ye⟩]) a w' G'):=by
 obtain⟨⟨vh,b7⟩,a7⟩:=hI.eB bl;have b2:vh=G.hdr b:=b7.2.1.symm;obtain⟨R,S,B,hB,hc⟩:=b7;rw[b2,hb]at hB
 have b3:∀h∈hs,h=b:=by
  rw[s_]at bs;intro h S;simpa using bs h S
 rcases hB with⟨⟨ao,hB⟩,hl0,_⟩|⟨bk',of',cap',c,el,fz,Bs,av,aB,I,cb,rfl,hl⟩;cases hB;omega;simp only[Value.slice.injEq,aeT,Addr.mk.injEq,and_true]at av;obtain⟨⟨rfl,rfl⟩,rfl,rfl⟩:=av;obtain⟨j1,j2,j3,j4⟩:=hc A Bs rfl;have K:=j4 rfl
 have b4:l[i]?=some (l.getD i e.aa):=by
  rw[J4,VG hi];rfl
 obtain⟨T,Bx,B2,rfl,cc,cd,cf⟩:=aN.get (sz:=e.sz) (fun x c B h=>aK.len h) hl b4;obtain⟨V,J,W,rfl,a8,hle,hk⟩:=aK.part b0 cc;have er:=dv hx;generalize r.sh=rsh at er;subst er;have hmul:(i+1)*e.sz<=l.length*e.sz:=ae3 _ hi;have hmul2:l.length*e.sz<=cap*e.sz:=ae3 _ aB;rw[N_,afr]at hmul
 have Y:((((c.toList.drop of).take (l.length*e.sz)).drop (i*e.sz)).take e.sz |>.drop (e.off path)).take m.τ.sz=(c.toList.drop (of+i*e.sz+e.off path)).take m.τ.sz:=by
  simp only[agm,afm,afU];simp only at hle;rw[afS (by omega)]
 simp only at a8 hle hk;rw[Y]at a8 hk
 have b9:cellsOf w A (of+i*e.sz+e.off path) m.τ.sz=(c.toList.drop (of+i*e.sz+e.off path)).take m.τ.sz:=by
  unfold cellsOf;rw[I]
 refine⟨⟨c,el,fz,I,by omega⟩,?_⟩;have j:∀z∈T++(V++J++W)++B2,G.col z=b:=fun z hz=>b3 _ (j3 z hz)
 have b5:J.Nodup:=by
  rw[G8,G8,G8,G8]at K;exact K.1.2.1.1.2.1
 have hU:=hM w x z k y _ J hF a8 b5 (fun q d=>hI.fresh q (by rw[j q (by simp[d])];exact R));rw[b9]
 have key:∀(mv:Value) (w':World),(mv= .int .i64 k/\∃B',AW w w' m.τ y ((c.toList.drop (of+i*e.sz+e.off path)).take m.τ.sz) J B')->(mv= .int .i64 k/\∃G',Inv w0 c0 U (E.mark [⟨b,e,l.set i ye⟩]) a w' G'):=by
  rintro mv w' ⟨h1,Bv,D⟩;refine⟨h1,?_⟩
  have t:∀q∈A::(T++(V++J++W)++B2),q∉J->w'.heap[q]?=w.heap[q]?:=by
   intro q d hn;refine D.frame q (hI.lt q ?_) hn;rcases si.1 d with rfl|d;rw[j1];omega;rw[j q d];omega
  have N:A∉J:=fun h=>j2 (by simp[h])
  have f:∀q,q∈T\/q∈V\/q∈W\/q∈B2->q∉J:=by
   intro q d X;rw[G8,G8,G8,G8]at K;obtain⟨⟨n1,⟨⟨m1,m2,m3⟩,m4,m5⟩,n3⟩,n4,n5⟩:=K;rcases d with d|d|d|d;exact n3 q d q (by simp[X]) rfl;exact m3 q d q X rfl;exact m5 q (by simp[X]) q d rfl;exact n5 q (by simp[X]) q d rfl
  have ca:=hk w' y sv Bv ye se (fun q d=>t q (by simp only[l8]at d;rcases d with d|d<;>simp[d]) (f q (by simp only[l8]at d;rcases d with d|d<;>simp[d]))) D.rep b1
  have ad:=aN.set (sz:=e.sz) (l:=l) (i:=i) (cs:=(c.toList.drop of).take (l.length*e.sz)) hi ca
   (aN.world (fun q d=>t q (by simp[d]) (f q (by simp[d]))) cd) (aN.world (fun q d=>t q (by simp[d]) (f q (by simp[d]))) cf)
  have a1:((c.toList.drop of).take (l.length*e.sz)).take (i*e.sz)++(((c.toList.drop of).take (l.length*e.sz)).drop (i*e.sz)).take e.sz++((c.toList.drop of).take (l.length*e.sz)).drop ((i+1)*e.sz)=(c.toList.drop of).take (l.length*e.sz):=by
   rw[N_,afr,<-afm,afv,afy,afy]
  rw[a1]at ad;have Z:w'.heap[A]?=some (.cells c el fz):=(t A (by simp) N).trans I
  have b6:∀q∈Bv,q∉A::(T++(V++J++W)++B2)\/q∈J:=by
   intro q d;rcases D.inn q d with h|h;exact .inr h;refine .inl (fun g=> ?_)
   have:q<w.heap.size:=hI.lt q (by
    rcases si.1 g with rfl|g;rw[j1];omega;rw[j q g];omega)
   omega
  have O:(A::(T++(V++Bv++W)++B2)).Nodup:=by
   rw[afa]
   have hd:∀q∈Bv,q≠A/\q∉T/\q∉V/\q∉W/\q∉B2:=by
    intro q d;rcases b6 q d with h|h;simp only[si,l8,not_or]at h;exact⟨h.1,h.2.1.1,h.2.1.2.1.1,h.2.1.2.2,h.2.2⟩;exact⟨fun e=>N (e▸h),fun S=>f q (.inl S) h,fun S=>f q (.inr (.inl S)) h,fun S=>f q (.inr (.inr (.inl S))) h,fun S=>f q (.inr (.inr (.inr S))) h⟩
   constructor;intro g;simp only[l8,not_or]at g j2;rcases g with(g|((g|g)|g))|g;exact j2.1.1 g;exact j2.1.2.1.1 g;exact(hd A g).1 rfl;exact j2.1.2.2 g;exact j2.2 g;rw[G8,G8,G8,G8]at K|-;obtain⟨⟨n1,⟨⟨m1,m2,m3⟩,m4,m5⟩,n3⟩,n4,n5⟩:=K;refine⟨⟨n1,⟨⟨m1,D.nd,fun u hu v s e=>(hd v s).2.2.1 (e▸hu)⟩,m4,fun u hu v s e=> ?_⟩,fun u hu v s e=> ?_⟩,n4,fun u hu v s e=> ?_⟩;rcases l8.1 hu with hu|hu;exact m5 u (by simp[hu]) v s e;exact(hd u hu).2.2.2.1 (e▸s);simp only[l8]at s;rcases s with(s|s)|s;exact n3 u hu v (by simp[s]) e;exact(hd v s).2.1 (e▸hu);exact n3 u hu v (by simp[s]) e;simp only[l8]at hu;rcases hu with hu|((hu|hu)|hu);exact n5 u (by simp[hu]) v s e;exact n5 u (by simp[hu]) v s e;exact(hd u hu).2.2.2.2 (e▸s);exact n5 u (by simp[hu]) v s e
  obtain⟨G',q,_⟩:=hI.Q4 (L:=[⟨b,e,l.set i ye⟩]) (B:=J) (B2:=A::(T++(V++Bv++W)++B2)) (w':=w') (fun p D=>by
   simp only[ae7]at D;subst D;exact⟨R,a7 b (by simp)⟩) (fun _=>b) (fun q d=>by simp[j q (by simp[d])])
   (fun q d=>by
    refine⟨?_,by simp,?_⟩;by_cases s:q∈Bv;rcases D.inn q s with h|h;left;simp[j q (by simp[h])];exact .inr h;left;rcases si.1 d with rfl|d;simp[j1];simp only[l8]at d
    have:q∈T++(V++J++W)++B2:=by
     rcases d with(h|((h|h)|h))|h;simp[h];simp[h];exact absurd h s;simp[h];simp[h]
    simp[j q this];by_cases s:q∈Bv;exact D.fresh q s
    have a6:q∈A::(T++(V++J++W)++B2)/\q∉J:=by
     rcases si.1 d with rfl|d;exact⟨by simp,N⟩;simp only[l8]at d;rcases d with(h|((h|h)|h))|h;exact⟨by simp[h],f q (by simp[h])⟩;exact⟨by simp[h],f q (by simp[h])⟩;exact absurd h s;exact⟨by simp[h],f q (by simp[h])⟩;exact⟨by simp[h],f q (by simp[h])⟩
    obtain⟨c',cg,ch⟩:=hI.fresh q (by
     rcases si.1 a6.1 with rfl|b8;rw[j1];exact R;rw[j q b8];exact R)
    exact⟨c',cg,(t q a6.1 a6.2).trans ch⟩) D.frame D.size D.os D.tape D.output
   (fun G' g1 g2 p D=>by
    simp only[ae7]at D;subst D;rw[afa]at O;refine⟨R,by rw[g1],A::(T++(V++Bv++W)++B2),.inr ⟨A,of,cap,c,el,fz,_,by rw[hb];simp,by simpa using aB,Z,cb,rfl,by rw[agi];exact ad⟩,?_⟩;rintro h Bs' ba;cases ba;exact⟨g2 A (by simp),O.1,fun q d=>by simp[g2 q (ae2 _ d)],fun _=>O.2⟩)
  exact⟨G',q⟩
 unfold qx at hU|-;split at hU;exact Calls.mono hU (fun e w' ⟨v,h1,h2⟩=>⟨v,h1,key v w' h2⟩);exact key _ _ hU;exact hU
end
section
variable{ρ:Type}
def mw(o:Oper)(a:Option Bool)(E:Env)(k:Env->Option ρ):Ef->Option ρ
 | .val v=>k (E.set o.dst (dO o.guard a v))
 | .chk c v=>if(match a with|none=>c|some b=> !b||c)=true then k (E.set o.dst (dO o.guard a v))else none
 | .opt _ z x f=>(match a with|none=>x|some b=>if b=true then x else some z).bind fun r=>k (E.set o.dst (dO o.guard a (f r)))
 | .put b s v=>match a.isNone&&o.dst.isNone with|true=>k {E with s:=E.s.set s (.box b v)}|false=>none
 | .app c kl gv t v=>match a.isNone with|true=>(if c=true then k (((E.kill kl).aO gv t).set o.dst v.jA)else none)|false=>none
 | .elem gv b e l m=>match a.isNone&&o.dst.isNone with|true=>k (E.elem gv b e l m)|false=>none
 | .nap c gv b e l m v=>match a.isNone with|true=>(if c=true then k ((E.elem gv b e l m).set o.dst v.jA)else none)|false=>none
 | .call _ x tks f rp=>match a.isNone with|true=>x.bind fun r=>let E1:=E.cm tks (rp r);k (Env.set {E1 with s:=bK (f r).2 E1.s} o.dst (f r).1.jA)|false=>none
theorem Ff(o:Oper)(a:Option Bool)(E:Env)(k:Env->Option ρ)(d:Ef):mw o a E k d=bc o a E k d:=by
 cases d with
 |put b s v=>simp only[mw,bc];cases (a.isNone&&o.dst.isNone)<;>rfl
 |app c kl g t v=>simp only[mw,bc];cases (a.isNone)<;>rfl
 |elem g b e l m=>simp only[mw,bc];cases (a.isNone&&o.dst.isNone)<;>rfl
 |nap c g b e l m v=>simp only[mw,bc];cases a.isNone<;>rfl
 |call α x tks f rp=>simp only[mw,bc];cases (a.isNone)<;>rfl
 |_=>rfl
def Ku(C:Cx)(ops:List Oper)(nt:Nat):List Oper->Nat->Env->(Env->Option ρ)->Option ρ
 | [],_,E,k=>k E
 |o::l,i,E,k=>match guardOf ops E.rd o.guard with
  |none=>none
  |some a=>match jk C ops E.rd (nt+32*i) o.guard o with
   |none=>none
   |some c=>mw o a E (fun E'=>Ku C ops nt l (i+1) E' k) c
theorem Nh(C:Cx)(ops:List Oper)(nt:Nat)(k:Env->Option ρ):∀(l:List Oper) (i:Nat) (E:Env),Ku C ops nt l i E k=xi C ops nt l i E k
 | [],_,_=>rfl
 |o::l,i,E=>by
  simp only[Ku,xi,Ff];cases guardOf ops E.rd o.guard with
  |none=>rfl
  |some a=>
   simp only;cases jk C ops E.rd (nt+32*i) o.guard o with
   |none=>rfl
   |some ef=>
    simp only;congr 1;funext E';exact Nh C ops nt k l (i+1) E'
def AQ(o:Oper)(a:Option Bool)(d:Ef)(k:Tr×List (Nat×SV)->Option ρ):Option ρ:=
 match d with
 | .val v=>k (.id,wr o.dst (dO o.guard a v))
 | .chk c v=>if(match a with|none=>c|some b=> !b||c)=true then k (.id,wr o.dst (dO o.guard a v))else none
 | .opt _ z x f=>(match a with|none=>x|some b=>if b=true then x else some z).bind fun r=>k (.id,wr o.dst (dO o.guard a (f r)))
 | .put b s v=>match a.isNone&&o.dst.isNone with|true=>k (.id,[(s,.box b v)])|false=>none
 | .app c kl gv t v=>match a.isNone with|true=>(if c=true then k (.kg kl gv t,wr o.dst v.jA)else none)|false=>none
 | .elem gv b e l m=>match a.isNone&&o.dst.isNone with|true=>k (.el gv b e l m,[])|false=>none
 | .nap c gv b e l m v=>match a.isNone with|true=>(if c=true then k (.el gv b e l m,wr o.dst v.jA)else none)|false=>none
 | .call _ x tks f rp=>match a.isNone with|true=>x.bind fun r=>k (.ki tks (rp r),(f r).2.map (fun p=>(p.2.1,SV.box p.1 p.2.2))++wr o.dst (f r).1.jA)|false=>none
theorem Xr(o:Oper)(a:Option Bool)(d:Ef)(k:Tr×List (Nat×SV)->Option ρ):AQ o a d k=qz o a d k:=by
 cases d with
 |put b s v=>simp only[AQ,qz];cases (a.isNone&&o.dst.isNone)<;>rfl
 |app c kl g t v=>simp only[AQ,qz];cases (a.isNone)<;>rfl
 |elem g b e l m=>simp only[AQ,qz];cases (a.isNone&&o.dst.isNone)<;>rfl
 |nap c g b e l m v=>simp only[AQ,qz];cases a.isNone<;>rfl
 |call α x tks f rp=>simp only[AQ,qz];cases (a.isNone)<;>rfl
 |_=>rfl
def zL(C:Cx)(ops:List Oper)(nt:Nat):List Oper->Nat->Env->List dJ->(Env->List dJ->Option ρ)->Option ρ
 | [],_,E,L,k=>k E L
 |o::l,i,E,L,k=>match guardOf ops E.rd o.guard with
  |none=>none
  |some a=>match jk C ops E.rd (nt+32*i) o.guard o with
   |none=>none
   |some c=>AQ o a c fun r=>zL C ops nt l (i+1) (E.gE r) (wg ops i o E r::L) k
theorem AU(C:Cx)(ops:List Oper)(nt:Nat)(k:Env->List dJ->Option ρ):∀(l:List Oper) (i:Nat) (E:Env) (L:List dJ),zL C ops nt l i E L k=wx C ops nt l i E L k
 | [],_,_,_=>rfl
 |o::l,i,E,L=>by
  simp only[zL,wx,Xr];cases guardOf ops E.rd o.guard with
  |none=>rfl
  |some a=>
   simp only;cases jk C ops E.rd (nt+32*i) o.guard o with
   |none=>rfl
   |some ef=>
    simp only;congr 1;funext r;exact AU C ops nt k l (i+1) (E.gE r) _
def wh(C:Cx):Code->Env->(Env->Option ρ)->List (Nat×(Env->Option ρ))->(Env->Option ρ)->Option ρ
 | .skip,E,kn,_,_=>kn E
 | .region _ ops draw,E,kn,_,_=>match gk ops.toList&&keeps C.io ops.toList with
   |true=>(match draw with
    |true=>zL C ops.toList E.nt ops.toList 0 E [] (fun E' L=>match rE ops.toList L with|true=>kn {jL E' ops.toList with nt:=E.nt+32*ops.size}|false=>none)
    |false=>Ku C ops.toList E.nt ops.toList 0 E (fun E'=>kn {jL E' ops.toList with nt:=E.nt+32*ops.size}))
   |false=>none
 | .seq a b,E,kn,ke,kr=>
   match(jd b).bind C.ja with
   |none=>wh C a E (fun E'=>wh C b E' kn ke kr) ke kr
   |some n=>aR (fun J=>wh C a E (fun E'=>match proj n E' with|some t=>J t|none=>none) ke kr) (fun t=>wh C b (dA C.n n t) kn ke kr)
 | .cond c x y,E,kn,ke,kr=>
   match arg C E.rd none 0 c with
   |some (.d ⟨.bool,b,_⟩)=>if b=true then wh C x E kn ke kr else wh C y E kn ke kr
   |_=>none
 | .block id c,E,kn,ke,kr=>wh C c E kn ((id,kn)::ke) kr
 | .loop c,E,_,ke,kr=>
   match(jd c).bind C.la with
   |none=>none
   |some n=>match proj n E with
    |some t=>aM C.k (fun G t=>wh C c (dA C.n n t) (fun E'=>match proj n E' with|some t=>G t|none=>none) ke kr) t
    |none=>none
 | .exit id,E,_,ke,_=>match ke.lookup id with|some k=>k E|none=>none
 | .ret,E,_,_,kr=>kr E
 |_,_,_,_,_=>none
theorem aaG(C:Cx):∀(c:Code) (E:Env) (d:Env->Option ρ) (ke:List (Nat×(Env->Option ρ))) (e:Env->Option ρ),wh C c E d ke e=ev C c E d ke e:=by
 intro c
 induction c with
 |region id ops draw=>
  intro E d ke e;simp only[wh,ev];cases h:(gk ops.toList&&keeps C.io ops.toList)with
  |false=>rfl
  |true=>
   simp only[if_true];cases draw with
   |true=>
    simp only[if_true,AU];congr 1;funext E' L;cases rE ops.toList L<;>rfl
   |false=>simp only[afF,if_false,Nh]
 |seq a b f g=>
  intro E d ke e;simp only[wh,ev];cases (jd b).bind C.ja with
  |none=>simp only[f,g]
  |some n=>
   simp only[f,g];congr 1;funext J;congr 1;funext E';cases proj n E'<;>rfl
 |cond c x y j k=>intro E d ke e;simp only[wh,ev,j,k];rfl
 |block id c l=>intro E d ke e;simp only[wh,ev,l]
 |loop c l=>
  intro E d ke e;simp only[wh,ev];cases (jd c).bind C.la with
  |none=>rfl
  |some n=>
   simp only[l];cases proj n E with
   |none=>rfl
   |some t=>
    simp only[agb];congr 1;funext G t;congr 1;funext E';cases proj n E'<;>rfl
 |_=>intros;rfl
end
def IF(C:Cx)(ps:List PK)(rs:List RK)(d:List (Nat×List Bool))(fn:Func)(x:aW (ps.map PK.ty)):Option (aW (rs.map RK.ty++bn ps)):=
 match fn.body with
 |none=>none
 |some c=>
  let e:=bW ps x 4
  wh {C with n:=fn.ntmps,io:=ic ps 0} c ⟨e.1++afW (fn.ntmps-e.1.length) .no,e.2,true⟩ (fin C.tt ps rs d fn.results.toList e.2) [] (fin C.tt ps rs d fn.results.toList e.2)
theorem X5(C:Cx)(ps:List PK)(rs:List RK)(d:List (Nat×List Bool))(fn:Func)(x:aW (ps.map PK.ty)):IF C ps rs d fn x=TJ C ps rs d fn x:=by
 unfold IF TJ;cases fn.body with
 |none=>rfl
 |some c=>exact aaG ..
section
variable{P:Program}{C:Cx}{w0:World}{c0:C0}{U:Nat->Prop}{E:Env}{a:Act}{w:World}{G:Gh}{Q:Exit->Act->World->Prop}
theorem ZS{e:Ty}{l:List e.den}{b off cap:Nat}{c:Array Value}{el:TypeId}{s:List Nat}{i:Nat}(hi:i<l.length)(N:w.heap[b]?=some (.cells c el (0,0)))
 (hsz:off+cap*e.sz<=c.size) (j:l.length<=cap) (O:aN (aK w e) l ((c.toList.drop off).take (l.length*e.sz)) s) (g:(b::s).Nodup):
 ∃f,di (w.setCells b (off+i*e.sz) (((c.toList.drop off).take (l.length*e.sz)).drop ((i+1)*e.sz))) e.sz (aK (w.setCells b (off+i*e.sz) (((c.toList.drop off).take (l.length*e.sz)).drop ((i+1)*e.sz))) e)
  (l.take i++l.drop (i+1)) (.slice (some ⟨b,off,none⟩) (l.length-1) cap) (b::f)/\(∀x∈f,x∈s)/\(b::f).Nodup:=by
 have q:l[i]?=some l[i]:=VG hi;obtain⟨A,Bx,D,rfl,_,T,p⟩:=aN.get (sz:=e.sz) (fun x c B h=>aK.len h) O q;generalize k:(c.toList.drop off).take (l.length*e.sz)=cs at*
 have hm1:i*e.sz+e.sz=(i+1)*e.sz:=by rw[N_,afr]
 have hm2:(i+1)*e.sz<=l.length*e.sz:=ae3 _ hi;have hm3:l.length*e.sz<=cap*e.sz:=ae3 _ j;have m:cs.length=l.length*e.sz:=by rw[<-k];simp;omega
 generalize t:cs.drop ((i+1)*e.sz)=ys at*
 have u:ys.length=l.length*e.sz-(i+1)*e.sz:=by rw[<-t];simp[m]
 have n:=gG b (el:=el) ys (off+i*e.sz) w c N (by omega);rw[afa]at g;simp only[l8,not_or,afv]at g
 have v:∀z∈A++D,(w.setCells b (off+i*e.sz) ys).heap[z]?=w.heap[z]?:=by
  intro z I;refine bQ b _ _ w z (fun e=> ?_);subst e;rcases l8.1 I with h|h;exact g.1.1 h;exact g.1.2.2 h
 refine⟨A++D,.inr ⟨b,off,cap,_,el,(0,0),A++D,?_,?_,n,?_,rfl,?_⟩,?_,?_⟩;simp;omega;simp;omega;simp;omega
 have hlen:(l.take i++l.drop (i+1)).length*e.sz=i*e.sz+ys.length:=by
  have:(l.take i++l.drop (i+1)).length=i+(l.length-(i+1)):=by simp;omega
  rw[this,N_,u,Nat.sub_mul]
 have d:((c.toList.take (off+i*e.sz)++ys++c.toList.drop (off+i*e.sz+ys.length)).drop off).take ((l.take i++l.drop (i+1)).length*e.sz)=cs.take (i*e.sz)++ys:=by
  have htl:(c.toList.take (off+i*e.sz)).length=off+i*e.sz:=by simp;omega
  have R:(c.toList.take (off+i*e.sz)).drop off=cs.take (i*e.sz):=by
   rw[<-k,afU,afS (by omega),agm];congr 1;omega
  rw[afv,afD (by omega),R,<-afv,hlen];have y:(cs.take (i*e.sz)++ys).length=i*e.sz+ys.length:=by rw[afu,List.length_take,m,afS (by omega)]
  rw[<-y,List.take_left]
 have S:=aN.append T p;have:=aN.world v S;rw[d];exact this;intro x q;rcases l8.1 q with h|h;simp[h];simp[h];rw[afa];refine⟨fun h=> ?_,?_⟩;rcases l8.1 h with h|h;exact g.1.1 h;exact g.1.2.2 h;have p:=g.2;rw[G8]at p|-;obtain⟨q1,q2,q3⟩:=p;rw[G8]at q2;exact⟨q1,q2.2.1,fun a J b K=>q3 a J b (aff _ K)⟩
theorem Inv.del(D:Inv w0 c0 U E a w G){e:Ty}{l:List e.den}{v:Value}{m:M}{ts:List Nat}(hr:bV w G e l v m)(ho:m.own=some ts)(q:∀c∈ts,4<=c/\Good U G c)
 {i:Nat} (hi:i<l.length) {tk:Nat} (h3:4<=tk) (hU:¬U tk):
 ∃b off cap c el,v= .slice (some ⟨b,off,none⟩) l.length cap/\l.length<=cap/\w.heap[b]?=some (.cells c el (0,0))/\off+cap*e.sz<=c.size/\(∀u∈(c.toList.drop off).take (l.length*e.sz),u.oneCell'=true)/\
  ∃G',Inv w0 c0 (fun u=>U u\/u=tk) (E.kill ts) a (w.setCells b (off+i*e.sz) (((c.toList.drop off).take (l.length*e.sz)).drop ((i+1)*e.sz))) G'/\
   bV (w.setCells b (off+i*e.sz) (((c.toList.drop off).take (l.length*e.sz)).drop ((i+1)*e.sz))) G' e (l.take i++l.drop (i+1)) (.slice (some ⟨b,off,none⟩) (l.length-1) cap) (.row tk [tk] true)/\G'.bx tk=false:=by
 obtain⟨B,hB,hn,hc⟩:=hr.own ho;rcases hB with⟨_,rfl,_⟩|⟨b,off,cap,c,el,fz,Bs,hv,y,X,N,rfl,hl⟩;simp at hi;have A:=hc b (by simp);obtain⟨Y,O,J⟩:=D.fresh b (q _ A).1;rw[J]at X;simp only[aeT,Obj.cells.injEq]at X;obtain⟨rfl,rfl,rfl⟩:=X;obtain⟨Z,r1,r2,r3⟩:=ZS hi J N y hl hn;refine⟨b,off,cap,Y,O,hv,y,J,N,aN.UY hl,G.aO ts tk (.slice (some ⟨b,off,none⟩) (l.length-1) cap),?_,⟨h3,by simp[Gh.aO],b::Z,r1,fun b2 Bs2 h2=> ?_⟩,by simp[Gh.aO]⟩;have hm2:(i+1)*e.sz<=l.length*e.sz:=ae3 _ hi;have hm1:i*e.sz+e.sz=(i+1)*e.sz:=by rw[N_,afr]
 have hm3:l.length*e.sz<=cap*e.sz:=ae3 _ y;generalize V:((Y.toList.drop off).take (l.length*e.sz)).drop ((i+1)*e.sz)=ys at*
 have hyl:ys.length=l.length*e.sz-(i+1)*e.sz:=by rw[<-V];simp;omega
 have K:=gG b (el:=O) ys (off+i*e.sz) w Y J (by omega)
 refine(D.kill ts).change (ts:=ts) (S6 D q) (fun z _ p=>⟨bQ b _ _ w z (fun e=>p (e▸A)),by simp[Gh.aO,p]⟩) (fun u hu=> ?_) (fun _ h=> .inl h) (fun z p=> ?_)
  (fun z p=> ?_) (fun z p=> ?_) (fun z p R=> ?_) (fun z p=> ?_) (by rw[fh];exact afg _)
  (cq b _ _ w).1 (cq b _ _ w).2.1 (cq b _ _ w).2.2
 have:u≠tk:=fun e=>hU (e▸hu);simp[Gh.aO,this];simp only[Gh.aO]at p|-;split at p;right;rw[an (by assumption)];left;rw[a_ (by assumption)];exact D.colU z p;rw[fh];simp only[Gh.aO]at p;split at p;rename_i h;exact D.lt z (by have:=(q _ h).1;omega);exact D.lt z p
 have W:4<=G.col z:=by
  simp only[Gh.aO]at p;split at p;rename_i h;exact(q _ h).1;exact p
 by_cases e1:z=b;subst e1;exact⟨_,_,K⟩;rw[bQ b _ _ w z e1];exact D.fresh z W;have J:=D.frame z p R;have I:G.col z∉ts:=fun h=>by have:=(q _ h).1;omega
 refine⟨(a_ I).trans J.1,?_⟩;rw[bQ b _ _ w z (fun e=>I (e▸A))];exact J.2;simp only[Gh.aO]at p|-;split at p;omega;rename_i S;rw[a_ S];cases h2;refine⟨by simp[Gh.aO,A],(afa.1 r3).1,fun x hx=> ?_,fun _=>(afa.1 r3).2⟩;simp[Gh.aO,hc x (ae2 _ (r2 x hx))]
end
def yn(o:Oper):Option (Nat×Nat):=
 match o.guard,o.op,o.dst with
 |none,.move (.tmp x),some d=>some (d,x)
 |_,_,_=>none
def Pe(o:Oper):Option (Nat×Nat):=
 match o.guard,o.op,o.dst with
 |none,.assign (.tmp x),some d=>some (d,x)
 |_,_,_=>none
def Uy(o:Oper):Option (TypeId×Nat×Nat×Nat):=
 match o.guard,o.op,o.dst with
 |none,.slice t (.tmp x) none (some (.tmp h)) none,some d=>some (t,d,x,h)
 |_,_,_=>none
def TZ(o:Oper):Option (TypeId×Nat×Nat×Nat):=
 match o.guard,o.op,o.dst with
 |none,.slice t (.tmp x) (some (.tmp h)) none none,some d=>some (t,d,x,h)
 |_,_,_=>none
def Pf(o:Oper):Option (TypeId×Nat×Nat):=
 match o.guard,o.op,o.dst with
 |none,.binOp .add t (.tmp x) (.const (.int .i64 1)) _,some d=>some (t,d,x)
 |_,_,_=>none
def Pb(o:Oper):Option (TypeId×Nat×Nat×Nat):=
 match o.guard,o.op,o.dst with
 |none,.call c,some d=>(match c.callee,c.args.toList,c.argTypes.toList with
  | .builtin .append,[.tmp x,.tmp y],[t,u]=>(match decide (t=u)with|true=>some (t,d,x,y)|false=>none)
  |_,_,_=>none)
 |_,_,_=>none
structure oj where
 t:TypeId
 ti:TypeId
 s:Nat
 j:Nat
 d0:Nat
 d1:Nat
 d2:Nat
 d3:Nat
 d4:Nat
 d5:Nat
 d6:Nat
 d7:Nat
def oj.tmps(d:oj):List Nat:=[d.s,d.j,d.d0,d.d1,d.d2,d.d3,d.d4,d.d5,d.d6,d.d7]
def oj.outs(d:oj):List Nat:=[d.s,d.d0,d.d1,d.d2,d.d3,d.d4,d.d5,d.d6,d.d7]
def Pk(n:Nat):Nat->Array Bool
 |0=>afR n false
 |i+1=>(Pk n i).setIfInBounds i true
def QP(ops:Array Oper):Bool:=
 Region.noSelect ops&&(List.range 7).all (fun i=>Region.free .any ops (Pk 9 i) i&&(Region.ready .any ops (Pk 9 i)).contains i)&&
 decide (Region.ready .any ops (Pk 9 7)=[7])&&decide (Region.ready .any ops (Pk 9 8)=[8])&&decide (Region.ready .any ops (Pk 9 9)=[])
def wX(ops:List Oper):Option oj:=
 match ops with
 | [o0,o1,o2,o3,o4,o5,o6,o7,o8]=>
   match yn o0,yn o1,Uy o2,yn o3,yn o4,Pf o5,TZ o6,Pb o7,Pe o8 with
   |some (d0,s),some (d1,j),some (t,d2,x2,h2),some (d3,s3),some (d4,j4),some (ti,d5,x5),some (t6,d6,x6,l6),some (t7,d7,x7,y7),some (s8,x8)=>
    match decide (x2=d0/\h2=d1/\s3=s/\j4=j/\x5=d4/\x6=d3/\l6=d5/\x7=d2/\y7=d6/\x8=d7/\s8=s/\t6=t/\t7=t/\([s,j,d0,d1,d2,d3,d4,d5,d6,d7]:List Nat).Nodup)&&QP #[o0,o1,o2,o3,o4,o5,o6,o7,o8]with
    |true=>some ⟨t,ti,s,j,d0,d1,d2,d3,d4,d5,d6,d7⟩
    |false=>none
   |_,_,_,_,_,_,_,_,_=>none
 |_=>none
section
variable{P:Program}{C:Cx}{w0:World}{c0:C0}{U:Nat->Prop}{E:Env}{a:Act}{w:World}{G:Gh}{Q:Exit->Act->World->Prop}
theorem mn{o:Oper}{d x:Nat}(h:yn o=some (d,x)):o.guard=none/\o.op= .move (.tmp x)/\o.dst=some d:=by
 unfold yn at h;split at h;rename_i c e f;cases h;exact⟨c,e,f⟩;cases h
theorem IV{o:Oper}{d x:Nat}(h:Pe o=some (d,x)):o.guard=none/\o.op= .assign (.tmp x)/\o.dst=some d:=by
 unfold Pe at h;split at h;rename_i c e f;cases h;exact⟨c,e,f⟩;cases h
theorem MW{o:Oper}{t:TypeId}{d x y:Nat}(h:Uy o=some (t,d,x,y)):o.guard=none/\o.op= .slice t (.tmp x) none (some (.tmp y)) none/\o.dst=some d:=by
 unfold Uy at h;split at h;rename_i c e f;cases h;exact⟨c,e,f⟩;cases h
theorem MZ{o:Oper}{t:TypeId}{d x y:Nat}(h:TZ o=some (t,d,x,y)):o.guard=none/\o.op= .slice t (.tmp x) (some (.tmp y)) none none/\o.dst=some d:=by
 unfold TZ at h;split at h;rename_i c e f;cases h;exact⟨c,e,f⟩;cases h
theorem Kr{o:Oper}{t:TypeId}{d x:Nat}(h:Pf o=some (t,d,x)):o.guard=none/\(∃u,o.op= .binOp .add t (.tmp x) (.const (.int .i64 1)) u)/\o.dst=some d:=by
 unfold Pf at h;split at h;rename_i c e f;cases h;exact⟨c,⟨_,e⟩,f⟩;cases h
theorem Ju{o:Oper}{t:TypeId}{d x y:Nat}(h:Pb o=some (t,d,x,y)):o.guard=none/\(∃c:Call,o.op= .call c/\c.callee= .builtin .append/\c.args= #[.tmp x,.tmp y]/\c.argTypes= #[t,t])/\o.dst=some d:=by
 unfold Pb at h;split at h;rename_i c d' f g j;split at h;rename_i x' y' t' u' hc k l;split at h;rename_i e;simp only[b_]at e;cases h;subst e;exact⟨f,⟨c,g,hc,agj (by simpa using k),agj (by simpa using l)⟩,j⟩;cases h;cases h;cases h
theorem It{o:Oper}{x:Nat}(h:o.op= .move (.tmp x)):(execOp a.eval o).run P w= .ok (.value (a.tmps.getD x undef)) w:=by
 simp only[execOp,h];rfl
theorem ZL{o:Oper}{x:Nat}(h:o.op= .assign (.tmp x)):(execOp a.eval o).run P w= .ok (.value (a.tmps.getD x undef)) w:=by
 simp only[execOp,h];rfl
theorem rB{d s:Nat}{v:Value}(h:d<a.tmps.size):(a.put (some d) v).tmps.getD s undef=if s=d then v else a.tmps.getD s undef:=by
 rw[Qg a (some d) v s (by rintro x ⟨⟩;exact h)];by_cases e:s=d;subst e;rw[an rfl,an rfl];rw[a_ (by simpa using e),a_ e]
theorem Vt{o:Oper}{t el:TypeId}{e:Ty}{x y n cap b off:Nat}{i:Nat}(hu:P.underlying t=some (.slice el))(f:gA P el e)(h:o.op= .slice t (.tmp x) none (some (.tmp y)) none)
 (g:a.tmps.getD x undef= .slice (some ⟨b,off,none⟩) n cap) (j:a.tmps.getD y undef= .int .i64 i) (h1:i<=cap):(execOp a.eval o).run P w= .ok (.value (.slice (some ⟨b,off,none⟩) i cap)) w:=by
 simp only[execOp,h];refine dP ?_;have d:a.eval (.tmp x)= .slice (some ⟨b,off,none⟩) n cap:=g;have c:a.eval (.tmp y)= .int .i64 i:=j;have:=jv (P:=P) (w:=w) (k:= .i64) (i:=(i:Int)) (y:=cap) (code:= .sliceAcap) (by omega) (by omega);rw[d];simp only[af5]at this;by_cases hc:cap=0;rw[hc]at this;simp[Instr.sliceAt,Instr.slice,Instr.sliceBounds,run_underlying hu,dX f,c,this,hc];simp[Instr.sliceAt,Instr.slice,Instr.sliceBounds,run_underlying hu,dX f,c,this,Addr.add_lit]
theorem Ve{o:Oper}{t el:TypeId}{e:Ty}{x y n cap b off:Nat}{i:Nat}(hu:P.underlying t=some (.slice el))(f:gA P el e)(h:o.op= .slice t (.tmp x) (some (.tmp y)) none none)
 (g:a.tmps.getD x undef= .slice (some ⟨b,off,none⟩) n cap) (j:a.tmps.getD y undef= .int .i64 i) (h1:i<=n):(execOp a.eval o).run P w= .ok (.value (.slice (some ⟨b,if cap=i then off else off+i*e.sz,none⟩) (n-i) (cap-i))) w:=by
 simp only[execOp,h];refine dP ?_;have d:a.eval (.tmp x)= .slice (some ⟨b,off,none⟩) n cap:=g;have c:a.eval (.tmp y)= .int .i64 i:=j;have:=jv (P:=P) (w:=w) (k:= .i64) (i:=(i:Int)) (y:=n) (code:= .sliceB) (by omega) (by omega);rw[d];simp only[af5]at this;by_cases hc:cap=i;subst hc;simp[Instr.sliceAt,Instr.slice,Instr.sliceBounds,run_underlying hu,dX f,c,this];simp[Instr.sliceAt,Instr.slice,Instr.sliceBounds,run_underlying hu,dX f,c,this,hc,Addr.add_lit]
theorem ZD{o:Oper}{t u:TypeId}{x:Nat}{i:Nat}(h:o.op= .binOp .add t (.tmp x) (.const (.int .i64 1)) u)(e:a.tmps.getD x undef= .int .i64 i)(hi:i<4294967296):
 (execOp a.eval o).run P w= .ok (.value (.int .i64 ((i+1:Nat):Int))) w:=by
 simp only[execOp,h];refine dP ?_;have c:a.eval (.tmp x)= .int .i64 i:=e;have f:a.eval (.const (.int .i64 1))= .int .i64 1:=rfl;rw[c,f]
 have hw:IntKind.i64.wrap ((i:Int)+1)=((i+1:Nat):Int):=by
  simp only[IntKind.wrap,IntKind.signed,IntKind.bits];simp;omega
 have d:∀v,eqGuard .add t (.tmp x) (.const (.int .i64 1)) (.int .i64 i) v=pure ():=fun v=>eqGuard_at_int ..;simp[d,binOp,Op.intArith,hw]
theorem WD(f:Inv w0 c0 U E a w G){j:Nat}{n:Int}{sh:Sh}(h:E.get j= .d ⟨.int .i64,n,sh⟩):a.tmps.getD j undef= .int .i64 n:=by
 have e:=f.slots j;have g:E.s.getD j .no= .d ⟨.int .i64,n,sh⟩:=h;rw[g]at e;obtain⟨cs,k,c⟩:=e;cases sh with
 |leaf=>rw[k,show cs=_ from c];rfl
 |sl m=>exact c.elim
 |pair a b=>exact c.elim
theorem Inv.mX(h:Inv w0 c0 U E a w G)(d:Option Nat)(v:Value):Inv w0 c0 U (E.set d .no) (a.put d v) w G:=
 h.put d (sv:= .no) trivial (by simp[SV.sc]) (by simp[SV.bt]) (by simp[SV.rt]) (by rintro _ _ ⟨⟩)
theorem I3{ops:Array Oper}{d:oj}(h:wX ops.toList=some d):∃o0 o1 o2 o3 c e f g k,ops= #[o0,o1,o2,o3,c,e,f,g,k]/\
 yn o0=some (d.d0,d.s)/\yn o1=some (d.d1,d.j)/\Uy o2=some (d.t,d.d2,d.d0,d.d1)/\yn o3=some (d.d3,d.s)/\yn c=some (d.d4,d.j)/\Pf e=some (d.ti,d.d5,d.d4)/\
 TZ f=some (d.t,d.d6,d.d3,d.d5)/\Pb g=some (d.t,d.d7,d.d2,d.d6)/\Pe k=some (d.s,d.d7)/\d.tmps.Nodup/\QP ops=true:=by
 unfold wX at h;split at h;rename_i o0 o1 o2 o3 c e f g k l;split at h;rename_i m n p q u v h6 h7 h8;split at h;rename_i hc;simp only[q_,b_]at hc;obtain⟨⟨rfl,rfl,rfl,rfl,rfl,rfl,rfl,rfl,rfl,rfl,rfl,rfl,rfl,x⟩,y⟩:=hc;cases h;have he:ops= #[o0,o1,o2,o3,c,e,f,g,k]:=agj l;exact⟨o0,o1,o2,o3,c,e,f,g,k,he,m,n,p,q,u,v,h6,h7,h8,x,by rw[he];exact y⟩;cases h;cases h;cases h
theorem zo(b:Nat):∀(c:List Value) (o n:Nat) (w:World),({w with drawn:=n}:World).setCells b o c={w.setCells b o c with drawn:=n}
 | [],_,_,_=>rfl
 |v::r,o,n,w=>by
  rw[World.setCells,World.setCells,<-zo b r (o+1) n];rfl
def Hf(E:Env)(d:oj)(ts:List Nat)(tk:Nat)(e:Ty)(l:List e.den)(i:Nat):Env:=
 ((((((((((E.kill ts).set (some d.d0) .no).set (some d.d1) .no).set (some d.d2) .no).set (some d.d3) .no).set (some d.d4) .no).set (some d.d5) .no).set (some d.d6) .no).set (some d.d7) .no).set (some d.s)
   (.d ⟨.sl e,l.take i++l.drop (i+1),.sl (.row tk [tk] true)⟩))
theorem ow{ops:Array Oper}{o:Oper}{v:Value}(c:o.guard=none)(h:∀w,(execOp a.eval o).run P w= .ok (.value v) w):Go.Yields P ops o v a:=
 .inl ⟨by simp[Region.wanted,c],h⟩
set_option maxHeartbeats 1000000 in
theorem Tk(hC:CxTy P C)(hm:P.follows .mixedOrders=true){N:Nat}(hI:Inv w0 c0 (fun u=>u<N) E a w G){ops:Array Oper}{d:oj}(hd:wX ops.toList=some d)
 {e:Ty} {l:List e.den} {m:M} {fs:List TypeId} {el:TypeId} (ht:C.tt d.t=some ⟨.sl e,fs,el⟩) (hs:E.s.getD d.s .no= .d ⟨.sl e,l,.sl m⟩) {i:Nat} {sh:Sh} (hj:E.get d.j= .d ⟨.int .i64,(i:Int),sh⟩)
 {ts:List Nat} (D:m.own=some ts) (hi:i<l.length) (hl:l.length<4294967296) (R:∀x∈d.tmps,x<E.s.length) {tk:Nat} (h3:4<=tk) (hN:N<=tk) {id:Nat}
 (hK:∀a' w' G',Inv w0 c0 (fun u=>u<N\/u=tk) (Hf E d ts tk e l i) a' w' G'->(∀x,x∉d.outs->a'.tmps.getD x undef=a.tmps.getD x undef)->Q .normal a' w'):
 (Code.region id ops true).wp P Q a w:=by
 obtain⟨o0,o1,o2,o3,o4,o5,o6,o7,o8,rfl,q0,q1,q2,q3,q4,q5,q6,q7,q8,hn,I⟩:=I3 hd;obtain⟨g0,p0,t0⟩:=mn q0;obtain⟨g1,p1,t1⟩:=mn q1;obtain⟨g2,p2,t2⟩:=MW q2;obtain⟨g3,p3,t3⟩:=mn q3;obtain⟨g4,p4,t4⟩:=mn q4;obtain⟨g5,⟨u5,p5⟩,t5⟩:=Kr q5;obtain⟨g6,p6,t6⟩:=MZ q6;obtain⟨g7,⟨c7,p7,pc,pa,pt⟩,t7⟩:=Ju q7;obtain⟨g8,p8,t8⟩:=IV q8;have hT:=(hC.tt _ _ ht).2;obtain⟨hu,bb⟩:=hT;have A:=hI.slots d.s;have B:=hI.oK d.s;rw[hs]at A B;obtain⟨cs,c4,c5⟩:=A;obtain⟨v,rfl,J⟩:=c5;have hv:a.tmps.getD d.s undef=v:=c4;have b0:=WD hI hj
 have cy:∀c∈ts,4<=c/\Good (fun u=>u<N) G c:=by
  intro c hc;have b1:=M.iv D c hc;have h1:=B.1 c b1;refine⟨?_,h1⟩;cases m with
  |row t cv nd=>
   obtain⟨k1,k2,k3⟩:=M.jM D;rcases(k3 c).1 hc with rfl|hc;exact J.1;exact k2 c hc
  |sha cv=>
   cases cv with
   |nil=>simp[M.own]at D;subst D;cases hc
   |cons x y=>simp[M.own]at D
  |nst=>simp[M.own]at D
  |dead=>simp[M.own]at D
 obtain⟨b,off,cap,c,c6,rfl,K,bk,hszc,c8,b4⟩:=hI.del J D cy hi h3 (agh.2 hN);obtain⟨G',c9,bl,b5⟩:=b4;change l.length<=cap at K;simp only[oj.tmps,afa,si,afi,or_false,not_or,List.nodup_nil,and_true]at hn;obtain⟨⟨n0_1,b6,b7,b8,n0_5,n0_6,n0_7,n0_8,n0_9⟩,⟨O,b9,ca,cb,n1_6,n1_7,n1_8,n1_9⟩,⟨cc,n2_4,n2_5,n2_6,n2_7,n2_8,n2_9⟩,⟨n3_4,n3_5,n3_6,n3_7,n3_8,n3_9⟩,⟨cd,cf,cg,ch,n4_9⟩,⟨cl,cp,n5_8,n5_9⟩,⟨n6_7,n6_8,n6_9⟩,⟨n7_8,n7_9⟩,n8_9⟩:=hn;have hlen:a.tmps.size=E.s.length:=hI.len;simp only[oj.tmps,si,afi,or_false,forall_eq_or_imp,forall_eq]at R;rw[<-hlen]at R;obtain⟨z0,z1,z2,z3,z4,z5,z6,z7,z8,z9⟩:=R;simp only[QP,q_,s_,List.mem_range,b_]at I;obtain⟨⟨⟨⟨g,f⟩,de⟩,dk⟩,ds⟩:=I;refine wp_mono (Q:=fun ex a w=>ex= .normal/\Q .normal a w) ?_ (fun ex a w h=>by obtain⟨rfl,h⟩:=h;exact h);refine wp_region_any hm ?_
 have S:∀(v:Value) (o:Oper) c (a:Act) (w:World),(fun(ex:Exit) (a:Act) (w:World)=>ex= .normal/\Q .normal a w) (.panic c) (a.put o.dst v) w->(fun(ex:Exit) (a:Act) (w:World)=>ex= .normal/\Q .normal a w) (.panic c) a w:=
  fun v o c a w h=>by have:=h.1;cases this
 generalize b2:({w with drawn:=w.drawn+1}:World)=w1;show wpAny P .any _ _ 9 (Pk 9 0) a w1;refine wpAny_take (i:=0) (oi:=o0) (v:= .slice (some ⟨b,off,none⟩) l.length cap) rfl g (f 0 (by decide)).1 (f 0 (by decide)).2 (S _ _) (ow g0 (fun w=>by rw[<-hv];exact It p0)) ?_;rw[t0];generalize T:a.put (some d.d0) (.slice (some ⟨b,off,none⟩) l.length cap)=a1;have s1:a1.tmps.size=a.tmps.size:=by rw[<-T,kX]
 have f1:∀s,a1.tmps.getD s undef=if s=d.d0 then .slice (some ⟨b,off,none⟩) l.length cap else a.tmps.getD s undef:=fun s=>by rw[<-T];exact rB z2
 refine wpAny_take (i:=1) (oi:=o1) (v:= .int .i64 i) rfl g (f 1 (by decide)).1 (f 1 (by decide)).2 (S _ _) (ow g1 (fun w=>by
  have:=It (P:=P) (a:=a1) (w:=w) p1;rw[f1,a_ O,b0]at this;exact this)) ?_
 rw[t1];generalize V:a1.put (some d.d1) (.int .i64 i)=a2;have s2:a2.tmps.size=a.tmps.size:=by rw[<-V,kX,s1]
 have f2:∀s,a2.tmps.getD s undef=if s=d.d1 then .int .i64 i else a1.tmps.getD s undef:=fun s=>by rw[<-V];exact rB (by rw[s1];exact z3)
 refine wpAny_take (i:=2) (oi:=o2) (v:= .slice (some ⟨b,off,none⟩) i cap) rfl g (f 2 (by decide)).1 (f 2 (by decide)).2 (S _ _) (ow g2 (fun w=>
  Vt (n:=l.length) hu bb p2 (by rw[f2,a_ cc,f1,an rfl]) (by rw[f2,an rfl]) (by omega))) ?_
 rw[t2];generalize W:a2.put (some d.d2) (.slice (some ⟨b,off,none⟩) i cap)=a3;have s3:a3.tmps.size=a.tmps.size:=by rw[<-W,kX,s2]
 have f3:∀s,a3.tmps.getD s undef=if s=d.d2 then .slice (some ⟨b,off,none⟩) i cap else a2.tmps.getD s undef:=fun s=>by rw[<-W];exact rB (by rw[s2];exact z4)
 refine wpAny_take (i:=3) (oi:=o3) (v:= .slice (some ⟨b,off,none⟩) l.length cap) rfl g (f 3 (by decide)).1 (f 3 (by decide)).2 (S _ _) (ow g3 (fun w=>by
  have:=It (P:=P) (a:=a3) (w:=w) p3;rw[f3,a_ b8,f2,a_ b7,f1,a_ b6,hv]at this;exact this)) ?_
 rw[t3];generalize X:a3.put (some d.d3) (.slice (some ⟨b,off,none⟩) l.length cap)=a4;have s4:a4.tmps.size=a.tmps.size:=by rw[<-X,kX,s3]
 have f4:∀s,a4.tmps.getD s undef=if s=d.d3 then .slice (some ⟨b,off,none⟩) l.length cap else a3.tmps.getD s undef:=fun s=>by rw[<-X];exact rB (by rw[s3];exact z5)
 refine wpAny_take (i:=4) (oi:=o4) (v:= .int .i64 i) rfl g (f 4 (by decide)).1 (f 4 (by decide)).2 (S _ _) (ow g4 (fun w=>by
  have:=It (P:=P) (a:=a4) (w:=w) p4;rw[f4,a_ cb,f3,a_ ca,f2,a_ b9,f1,a_ O,b0]at this;exact this)) ?_
 rw[t4];generalize Y:a4.put (some d.d4) (.int .i64 i)=a5;have s5:a5.tmps.size=a.tmps.size:=by rw[<-Y,kX,s4]
 have f5:∀s,a5.tmps.getD s undef=if s=d.d4 then .int .i64 i else a4.tmps.getD s undef:=fun s=>by rw[<-Y];exact rB (by rw[s4];exact z6)
 refine wpAny_take (i:=5) (oi:=o5) (v:= .int .i64 ((i+1:Nat):Int)) rfl g (f 5 (by decide)).1 (f 5 (by decide)).2 (S _ _) (ow g5 (fun w=>
  ZD p5 (by rw[f5,an rfl]) (by omega))) ?_
 rw[t5];generalize Z:a5.put (some d.d5) (.int .i64 ((i+1:Nat):Int))=a6;have s6:a6.tmps.size=a.tmps.size:=by rw[<-Z,kX,s5]
 have f6:∀s,a6.tmps.getD s undef=if s=d.d5 then .int .i64 ((i+1:Nat):Int)else a5.tmps.getD s undef:=fun s=>by rw[<-Z];exact rB (by rw[s5];exact z7)
 refine wpAny_take (i:=6) (oi:=o6) (v:= .slice (some ⟨b,if cap=i+1 then off else off+(i+1)*e.sz,none⟩) (l.length-(i+1)) (cap-(i+1))) rfl g (f 6 (by decide)).1 (f 6 (by decide)).2 (S _ _) (ow g6 (fun w=>
  Ve (n:=l.length) (cap:=cap) (i:=i+1) hu bb p6 (by rw[f6,a_ cp,f5,a_ cl,f4,an rfl]) (by rw[f6,an rfl]) (by omega))) ?_
 rw[t6];generalize ad:a6.put (some d.d6) (.slice (some ⟨b,if cap=i+1 then off else off+(i+1)*e.sz,none⟩) (l.length-(i+1)) (cap-(i+1)))=a7;have s7:a7.tmps.size=a.tmps.size:=by rw[<-ad,kX,s6]
 have f7:∀s,a7.tmps.getD s undef=if s=d.d6 then .slice (some ⟨b,if cap=i+1 then off else off+(i+1)*e.sz,none⟩) (l.length-(i+1)) (cap-(i+1))else a6.tmps.getD s undef:=fun s=>by rw[<-ad];exact rB (by rw[s6];exact z8)
 refine wpAny_all de (by simp) (fun j hj=> ?_);obtain rfl:j=7:=by simpa using hj
 have hm2:(i+1)*e.sz<=l.length*e.sz:=ae3 _ hi;have hm1:i*e.sz+e.sz=(i+1)*e.sz:=by rw[N_,afr]
 have hm3:l.length*e.sz<=cap*e.sz:=ae3 _ K;have hm4:(l.length-(i+1))*e.sz=l.length*e.sz-(i+1)*e.sz:=Nat.sub_mul ..
 have b3:(execOp a7.eval o7).run P w1= .ok (.value (.slice (some ⟨b,off,none⟩) (l.length-1) cap)) (w1.setCells b (off+i*e.sz) (((c.toList.drop off).take (l.length*e.sz)).drop ((i+1)*e.sz))):=by
  obtain⟨inf,dd,ct,q,hz,hby,_⟩:=bb;have p:w1.heap[b]?=some (.cells c c6 (0,0)):=by rw[<-b2];exact bk
  have cz:∀k u,(((c.toList.drop off).take (l.length*e.sz)).drop ((i+1)*e.sz))[k]?=some u->c[off+(i+1)*e.sz+k]?=some u:=by
   intro k u z;rw[afH,aft]at z;split at z;rw[afH]at z;rw[<-afX];rw[<-z];congr 1;omega;cases z
  have ao:(((c.toList.drop off).take (l.length*e.sz)).drop ((i+1)*e.sz)).length=(l.length-(i+1))*e.sz:=by
   simp;omega
  have hr:=run_append_room_cells (P:=P) w1 d.t o7.type el inf hu ct b off i cap ⟨b,if cap=i+1 then off else off+(i+1)*e.sz,none⟩ (l.length-(i+1)) (cap-(i+1))
   (((c.toList.drop off).take (l.length*e.sz)).drop ((i+1)*e.sz)) (by rw[q];exact ao) (fun k u z=>by
     have cL:k<(((c.toList.drop off).take (l.length*e.sz)).drop ((i+1)*e.sz)).length:=(ae8.1 z).1
     have cO:cap≠i+1:=by
      intro hc;have:l.length-(i+1)=0:=by omega
      rw[ao,this]at cL;omega
     rw[a_ cO,Addr.add_lit,oD p];exact cz k u z) (fun u hu=>c8 u (List.mem_of_mem_drop hu)) (by omega)
   (fun k z=>by rw[oD p,q];rw[ao]at z;have:off+i*e.sz+k<c.size:=by omega
                simp[this]) (fun k z=>rZ p _)
  rw[q]at hr
  have e1:a7.eval (.tmp d.d2)= .slice (some ⟨b,off,none⟩) i cap:=by
   show a7.tmps.getD d.d2 undef=_;rw[f7,a_ ch,f6,a_ cg,f5,a_ cf,f4,a_ cd,f3,an rfl]
  have e2:a7.eval (.tmp d.d6)= .slice (some ⟨b,if cap=i+1 then off else off+(i+1)*e.sz,none⟩) (l.length-(i+1)) (cap-(i+1)):=by
   show a7.tmps.getD d.d6 undef=_;rw[f7,an rfl]
  have c1:i+(l.length-(i+1))=l.length-1:=by omega
  rw[c1]at hr;simp only[execOp,p7];simp[resolve,pc,invoke,builtin,pa,pt,e1,e2,hr]
 refine dh (ops:=[o0,o1,o2,o3,o4,o5,o6,o7,o8]) (i:=7) rfl (by simp[Region.wanted,g7]) ?_;unfold Oper.wp;rw[b3];rw[Oper.upon_value,t7];generalize av:a7.put (some d.d7) (.slice (some ⟨b,off,none⟩) (l.length-1) cap)=a8;have s8:a8.tmps.size=a.tmps.size:=by rw[<-av,kX,s7]
 have f8:∀s,a8.tmps.getD s undef=if s=d.d7 then .slice (some ⟨b,off,none⟩) (l.length-1) cap else a7.tmps.getD s undef:=fun s=>by rw[<-av];exact rB (by rw[s7];exact z9)
 refine wpAny_all dk (by simp) (fun j hj=> ?_);obtain rfl:j=8:=by simpa using hj
 refine dh (ops:=[o0,o1,o2,o3,o4,o5,o6,o7,o8]) (i:=8) rfl (by simp[Region.wanted,g8]) ?_;unfold Oper.wp;rw[ZL p8,f8,an rfl,Oper.upon_value,t8];refine⟨ds,rfl,?_⟩
 have c2:w1.setCells b (off+i*e.sz) (((c.toList.drop off).take (l.length*e.sz)).drop ((i+1)*e.sz))={w.setCells b (off+i*e.sz) (((c.toList.drop off).take (l.length*e.sz)).drop ((i+1)*e.sz))with drawn:=w.drawn+1}:=by
  rw[<-b2];exact zo ..
 rw[c2];have c3:=c9.drawn (w.drawn+1)
 have aB:bV {w.setCells b (off+i*e.sz) (((c.toList.drop off).take (l.length*e.sz)).drop ((i+1)*e.sz))with drawn:=w.drawn+1} G' e (l.take i++l.drop (i+1)) (.slice (some ⟨b,off,none⟩) (l.length-1) cap) (.row tk [tk] true):=
  bV.agree (w:=w.setCells b (off+i*e.sz) (((c.toList.drop off).take (l.length*e.sz)).drop ((i+1)*e.sz))) (G:=G') ⟨fun _ _=>rfl,fun _ _=>rfl,fun _ _=>rfl⟩ bl
 have k0:=c3.mX (some d.d0) (.slice (some ⟨b,off,none⟩) l.length cap);rw[T]at k0;have k1:=k0.mX (some d.d1) (.int .i64 i);rw[V]at k1;have k2:=k1.mX (some d.d2) (.slice (some ⟨b,off,none⟩) i cap);rw[W]at k2;have k3:=k2.mX (some d.d3) (.slice (some ⟨b,off,none⟩) l.length cap);rw[X]at k3;have k4:=k3.mX (some d.d4) (.int .i64 i);rw[Y]at k4;have k5:=k4.mX (some d.d5) (.int .i64 ((i+1:Nat):Int));rw[Z]at k5;have k6:=k5.mX (some d.d6) (.slice (some ⟨b,if cap=i+1 then off else off+(i+1)*e.sz,none⟩) (l.length-(i+1)) (cap-(i+1)));rw[ad]at k6;have k7:=k6.mX (some d.d7) (.slice (some ⟨b,off,none⟩) (l.length-1) cap);rw[av]at k7
 have ba:∀c'∈(SV.d ⟨.sl e,l.take i++l.drop (i+1),.sl (.row tk [tk] true)⟩).sc,0<c'/\(c'<N\/c'=tk)/\G'.bx c'=false:=by
  intro c' bs;simp only[SV.sc,Sh.ar,M.ar,si,afi,or_false,or_self]at bs;subst bs;exact⟨by omega,.inr rfl,b5⟩
 have k8:=k7.put (some d.s) (sv:= .d ⟨.sl e,l.take i++l.drop (i+1),.sl (.row tk [tk] true)⟩) (v:= .slice (some ⟨b,off,none⟩) (l.length-1) cap) ⟨[_],rfl,_,rfl,aB⟩ ba (by simp[SV.bt]) (by simp[SV.rt]) (by rintro _ _ ⟨⟩);refine hK _ _ _ k8 (fun x hx=> ?_);simp only[oj.outs,si,afi,or_false,not_or]at hx;obtain⟨x0,x2,x3,x4,x5,x6,x7,x8,x9⟩:=hx;rw[rB (by rw[s8];exact z0),a_ x0,f8,a_ x9,f7,a_ x8,f6,a_ x7,f5,a_ x6,f4,a_ x5,f3,a_ x4,f2,a_ x3,f1,a_ x2]
theorem Yr{ops:List Oper}{d:oj}(h:wX ops=some d):∀x∈d.outs,∃o∈ops,o.dst=some x:=by
 have s:wX ops.toArray.toList=some d:=by simpa using h
 obtain⟨f,g,j,k,l,m,n,p,q,he,q0,q1,q2,q3,q4,q5,t,u,v,_⟩:=I3 s
 have c:ops=[f,g,j,k,l,m,n,p,q]:=by
  have:=congrArg Array.toList he;simpa using this
 subst c;intro x e;simp only[oj.outs,si,afi,or_false]at e;rcases e with rfl|rfl|rfl|rfl|rfl|rfl|rfl|rfl|rfl;exact⟨q,by simp,(IV v).2.2⟩;exact⟨f,by simp,(mn q0).2.2⟩;exact⟨g,by simp,(mn q1).2.2⟩;exact⟨j,by simp,(MW q2).2.2⟩;exact⟨k,by simp,(mn q3).2.2⟩;exact⟨l,by simp,(mn q4).2.2⟩;exact⟨m,by simp,(Kr q5).2.2⟩;exact⟨n,by simp,(MZ t).2.2⟩;exact⟨p,by simp,(Ju u).2.2⟩
theorem Yv{io:List Nat}{ops:List Oper}(h:keeps io ops=true){o:Oper}(c:o∈ops){x:Nat}(d:o.dst=some x):x∉io:=by
 unfold keeps at h;rw[s_]at h;have:=h o c;rw[d]at this;simpa using this
theorem X4{d:oj}{ts:List Nat}{tk:Nat}{e:Ty}{l:List e.den}{i:Nat}:(Hf E d ts tk e l i).s.length=E.s.length:=by
 simp only[Hf,Env.set,agi];unfold Env.kill;split;rfl;simp
theorem SD{E:Env}{d:Nat}{sv:SV}(h:sD E.s)(hs:∀j w act v,sv≠ .g j w act v):sD (E.set (some d) sv).s:=by
 intro s j w act v;simp only[Env.set,dF];split;exact hs j w act v;exact h s j w act v
theorem Xx{d:oj}{ts:List Nat}{tk:Nat}{e:Ty}{l:List e.den}{i:Nat}(h:sD E.s):sD (Hf E d ts tk e l i).s:=by
 have c:sD (E.kill ts).s:=by
  intro s j w act v he;obtain⟨f,g⟩:=PH he;exact h s j w act f g
 unfold Hf;refine SD ?_ (by rintro _ _ _ _ ⟨⟩)
 iterate 8 refine SD ?_ (by rintro _ _ _ _ ⟨⟩)
 exact c
section
variable{ρ:Type}
def Mt(C:Cx)(d:oj)(n:Nat)(E:Env)(c:Env->Option ρ):Option ρ:=
 match C.tt d.t,E.s.getD d.s .no,E.get d.j with
 |some ⟨.sl e,_,_⟩,.d ⟨.sl e',l',.sl m⟩,.d ⟨.int .i64,i,_⟩=>(match fJ ⟨.sl e',l',.leaf⟩ (.sl e),m.own with
  |some l,some ts=>if decide (0<=i/\i<(((l:List e.den).length:Nat):Int)/\(l:List e.den).length<4294967296)=true then
   (match d.tmps.all (fun x=>decide (x<E.s.length))with
   |true=>c {Hf E d ts E.nt e l i.toNat with nt:=E.nt+32*n}
   |false=>none)
   else none
  |_,_=>none)
 |_,_,_=>none
end
theorem Uw{ρ:Type}(S:CxTy P C)(hm:P.follows .mixedOrders=true)(T:Inv w0 c0 (fun u=>u<E.nt) E a w G)(V:sD E.s)(W:4<=E.nt){ops:Array Oper}{d:oj}(I:wX ops.toList=some d)(hn:0<ops.size)
 {io:List Nat} (y:keeps io ops.toList=true) {J:Env->Option ρ} {r:ρ} (h:Mt C d ops.size E J=some r) {id:Nat}
 (X:∀E' f w' G',Inv w0 c0 (fun u=>u<E'.nt) E' f w' G'->sD E'.s->E'.s.length=E.s.length->4<=E'.nt->(∀i∈io,f.tmps.getD i undef=a.tmps.getD i undef)->J E'=some r->Q .normal f w'):
 (Code.region id ops true).wp P Q a w:=by
 unfold Mt at h;split at h;rename_i e fs el e' l' m i sh K N q;split at h;rename_i l O c R;have k:=dv c;simp only[TV.mk.injEq]at k;obtain⟨he,Y,_⟩:=k;cases he;cases Y;split at h;rename_i hc;obtain⟨n,p,B⟩:=e_ hc;have z: @LE.le Int Int.instLEInt 0 i:=n;have hc1: @LT.lt Int Int.instLTInt i ((List.length l:Nat):Int):=p;split at h;rename_i g;rw[s_]at g;have A:((i.toNat:Nat):Int)=i:=Int.toNat_of_nonneg z;refine Tk S hm T I K N (i:=i.toNat) (sh:=sh) (by rw[A];exact q) R (by omega) B (fun x t=>e_ (g x t)) W (afg _) (fun f w' G' g1 g2=> ?_);refine X {Hf E d O E.nt _ l i.toNat with nt:=E.nt+32*ops.size} f w' G' ?_ (Xx V) X4 (by show 4<=E.nt+32*ops.size;omega) (fun j q=>g2 j (fun v=> ?_)) h;have:=g1.mono (U':=fun u=>u<E.nt+32*ops.size) (fun u hu=>by rcases hu with hu|hu<;>omega);exact {this with};obtain⟨o,D,t⟩:=Yr I j v;exact Yv y D t q;cases h;cases h;cases h;cases h
end
abbrev qy:=FuncId->Option mf
def C6(M:qy)(o:Oper):Option (FuncId×mf×Nat×Nat):=
 match o.guard,o.op with
 |none,.call c=>(match c.callee,c.args.toList with
  | .value (.func f),[.tmp s,.tmp j]=>(match M f with|some m=>some (f,m,s,j)|none=>none)
  |_,_=>none)
 |_,_=>none
def JR(M:qy)(o1 o2 o3:Oper):Option (FuncId×mf×TypeId×Nat×Nat×Nat×Nat):=
 match o1.guard,o1.op,o1.dst,o2.guard,o2.op,o2.dst with
 |none,.load t (.tmp p),some d1,none,.move (.tmp q),some d2=>(match C6 M o3 with
  |some (f,m,s,j)=>(match decide (s=d1/\j=d2/\d1≠d2/\q≠d1)with|true=>some (f,m,t,p,q,d1,d2)|false=>none)
  |none=>none)
 |_,_,_,_,_,_=>none
inductive kc where
 |one (o:Oper)
 |nest (o1 o2 o3:Oper)
def kc.ops:kc->List Oper
 | .one o=>[o]
 | .nest o1 o2 o3=>[o1,o2,o3]
def steps(M:qy):List Oper->List kc
 |o1::o2::o3::l=>match JR M o1 o2 o3 with
  |some _=> .nest o1 o2 o3::steps M l
  |none=> .one o1::steps M (o2::o3::l)
 | [o1,o2]=>[.one o1,.one o2]
 | [o1]=>[.one o1]
 | []=>[]
theorem Dc(M:qy):∀l:List Oper,(steps M l).flatMap kc.ops=l
 |o1::c::o3::l=>by
  simp only[steps];split;simp only[af6,kc.ops,Dc M l];rfl;simp only[af6,kc.ops,Dc M (c::o3::l)];rfl
 | [_,_]=>rfl
 | [_]=>rfl
 | []=>rfl
def aaK(m:mf)(s j:Nat)(E:Env):Option (m.τ.den×Sh×Int):=
 match E.get s,E.get j with
 | .d v,.d ⟨.int .i64,n,_⟩=>(match fJ v m.τ,mK v.sh with
   |some x,some _=>some (x,v.sh,n)
   |_,_=>none)
 |_,_=>none
structure abA(m:mf) where
 b:Nat
 e:Ty
 l:List e.den
 i:Int
 path:List Bool
 x:m.τ.den
 n:Int
def Y6(c:TypeId->Option TI)(m:mf)(t:TypeId)(p q d1 d2:Nat)(E:Env):Option (abA m):=
 match c t,E.get p,E.get q with
 |some ti,.ept b e i o path _,.d ⟨.int .i64,n,_⟩=>(match eB b e E.s with
  |some (l,hs,nd)=>(match nd&&hs.all (·==b)&&decide (e.off path=o)&&decide (ti.τ=m.τ)&&decide (d1<E.s.length/\d2<E.s.length),fm e (l.getD i.toNat e.aa) (fV e (.sha [])) path with
   |true,some r=>(match fJ r m.τ with|some x=>some ⟨b,e,l,i,path,x,n⟩|none=>none)
   |_,_=>none)
  |none=>none)
 |_,_,_=>none
def aaX(c:TypeId->Option TI)(m:mf)(t:TypeId)(p q d1 d2:Nat)(E:Env):Option (m.τ.den×Sh×Int):=
 match c t,bN (E.get p),E.get q with
 |some ti,.ptr b o path _,.d ⟨.int .i64,n,_⟩=>(match dE E.s b 0 with
  |some (_,v)=>(match decide (v.τ.off path=o)&&decide (ti.τ=m.τ)&&decide (d1<E.s.length/\d2<E.s.length),fm v.τ v.x v.sh path with
   |true,some r=>(match fJ r m.τ,mK r.sh with|some x,some _=>some (x,r.sh,n)|_,_=>none)
   |_,_=>none)
  |none=>none)
 |_,_,_=>none
def abk:SV->Bool
 | .ptr ..=>true
 |_=>false
def untold(C:Cx)(o:Oper):Bool:=
 match o.guard,o.op with
 |none,.assign (.const _)=>(C.tt o.type).isNone
 |_,_=>false
def Env.EF(E:Env)(gv:List Nat)(b:Nat)(e:Ty)(l:List e.den):Env:=
 {E with s:=E.s.map fun s=>(((s.bJ b).setRow b e l (.row b (b::gv) true)).aO gv b)}
section
variable{ρ:Type}
def GU(o:Oper)(a:Option Bool)(E:Env)(k:Env->Option ρ)(c:Ef):Option ρ:=
 match c,a with
 | .call _ x tks f rp,some b=>if b=true then x.bind (fun r=>k (Env.set {E.cm tks (rp r)with s:=bK (f r).2 (E.cm tks (rp r)).s} o.dst (dO o.guard (some true) (f r).1)))else k (E.set o.dst (dO o.guard (some false) (vB false)))
 | .elem (g::gv) b e l _,none=>(match o.dst,o.op with|none,.store _ _ _=>k (E.EF (g::gv) b e l)|_,_=>none)
 |c,a=>mw o a E k c
def p9(C:Cx)(M:qy)(ops:List Oper)(nt:Nat):List kc->Nat->Env->(Env->Option ρ)->Option ρ
 | [],_,E,k=>k E
 | .one o::l,i,E,k=>match C6 M o with
   |some (_,m,s,j)=>(match aaK m s j E with
    |some (x,sh,n)=>(m.F x n).bind fun r=>p9 C M ops nt l (i+1) ((E.mark (rowsOf m.τ r.2 sh)).set o.dst (vI .i64 r.1)) k
    |none=>none)
   |none=>match untold C o with
    |true=>p9 C M ops nt l (i+1) (E.set o.dst .no) k
    |false=>match guardOf ops E.rd o.guard with
     |none=>none
     |some a=>match jk C ops E.rd (nt+32*i) o.guard o with
      |none=>none
      |some c=>GU o a E (fun E'=>p9 C M ops nt l (i+1) E' k) c
 | .nest o1 o2 o3::l,i,E,k=>match JR M o1 o2 o3 with
   |some (_,m,t,p,q,d1,d2)=>match abk (bN (E.get p))with
    |true=>(match aaX C.tt m t p q d1 d2 E with
     |some (x,sh,n)=>(m.F x n).bind fun r=>p9 C M ops nt l (i+3) ((((E.mark (rowsOf m.τ r.2 sh)).set (some d1) .no).set (some d2) .no).set o3.dst (vI .i64 r.1)) k
     |none=>none)
    |false=>(match Y6 C.tt m t p q d1 d2 E with
     |some d=>(m.F d.x d.n).bind fun r=>match fC d.e (d.l.getD d.i.toNat d.e.aa) (fV d.e (.sha [])) d.path ⟨m.τ,r.2,fV m.τ (.sha [])⟩with
      |some y=>p9 C M ops nt l (i+3) ((((E.mark [⟨d.b,d.e,d.l.set d.i.toNat y.1⟩]).set (some d1) .no).set (some d2) .no).set o3.dst (vI .i64 r.1)) k
      |none=>none
     |none=>none)
   |none=>none
def mu(C:Cx)(M:qy):Code->Env->(Env->Option ρ)->List (Nat×(Env->Option ρ))->(Env->Option ρ)->Option ρ
 | .skip,E,kn,_,_=>kn E
 | .region _ ops draw,E,kn,_,_=>match gk ops.toList&&keeps C.io ops.toList with
   |true=>(match draw with
    |true=>(match wX ops.toList with
     |some d=>Mt C d ops.size E kn
     |none=>zL C ops.toList E.nt ops.toList 0 E [] (fun E' L=>match rE ops.toList L with|true=>kn {jL E' ops.toList with nt:=E.nt+32*ops.size}|false=>none))
    |false=>p9 C M ops.toList E.nt (steps M ops.toList) 0 E (fun E'=>kn {jL E' ops.toList with nt:=E.nt+32*ops.size}))
   |false=>none
 | .seq a b,E,kn,ke,kr=>
   match(jd b).bind C.ja with
   |none=>mu C M a E (fun E'=>mu C M b E' kn ke kr) ke kr
   |some n=>aR (fun J=>mu C M a E (fun E'=>match proj n E' with|some t=>J t|none=>none) ke kr) (fun t=>mu C M b (dA C.n n t) kn ke kr)
 | .cond c x y,E,kn,ke,kr=>
   match arg C E.rd none 0 c with
   |some (.d ⟨.bool,b,_⟩)=>if b=true then mu C M x E kn ke kr else mu C M y E kn ke kr
   |_=>none
 | .block id c,E,kn,ke,kr=>mu C M c E kn ((id,kn)::ke) kr
 | .loop c,E,_,ke,kr=>
   match(jd c).bind C.la with
   |none=>none
   |some n=>match proj n E with
    |some t=>aM C.k (fun G t=>mu C M c (dA C.n n t) (fun E'=>match proj n E' with|some t=>G t|none=>none) ke kr) t
    |none=>none
 | .exit id,E,_,ke,_=>match ke.lookup id with|some k=>k E|none=>none
 | .ret,E,_,_,kr=>kr E
 |_,_,_,_,_=>none
end
def Eg(P:Program)(M:qy):Prop:=∀f m,M f=some m->DO P f m
section
variable{P:Program}{C:Cx}{M:qy}{w0:World}{c0:C0}{U:Nat->Prop}{E:Env}{a:Act}{w:World}{G:Gh}{ops:List Oper}{L:Nat->Prop}{Q:Exit->Act->World->Prop}{ρ:Type}
theorem FH{o:Oper}{f:FuncId}{m:mf}{s j:Nat}(h:C6 M o=some (f,m,s,j)):
 o.guard=none/\M f=some m/\∃c:Call,o.op= .call c/\c.callee= .value (.func f)/\c.args.toList=[.tmp s,.tmp j]:=by
 unfold C6 at h;split at h;rename_i c d e;split at h;rename_i f' s' j' hc g;split at h;rename_i m' hm;cases h;exact⟨d,hm,c,e,hc,g⟩;cases h;cases h;cases h
theorem R7{o1 o2 o3:Oper}{f:FuncId}{m:mf}{t:TypeId}{p q d1 d2:Nat}(h:JR M o1 o2 o3=some (f,m,t,p,q,d1,d2)):
 o1.guard=none/\o1.op= .load t (.tmp p)/\o1.dst=some d1/\o2.guard=none/\o2.op= .move (.tmp q)/\o2.dst=some d2/\d1≠d2/\q≠d1/\C6 M o3=some (f,m,d1,d2):=by
 unfold JR at h;split at h;rename_i t' p' d1' q' d2' d e g j k h6;split at h;rename_i f' m' s' j' hc;split at h;rename_i c;simp only[b_]at c;cases h;obtain⟨rfl,rfl,l,n⟩:=c;exact⟨d,e,g,j,k,h6,l,n,hc⟩;cases h;cases h;cases h
theorem AB{o:Oper}{c:Call}{f:FuncId}(e:o.op= .call c)(hc:c.callee= .value (.func f)){R:Value->World->Prop}{K:Act->World->Prop}(h:qx P f (c.args.map a.eval) w R)
 (g:∀v w',R v w'->K (a.put o.dst v) w'):o.wp P a w K Q:=by
 have d:(execOp a.eval o).run P w=(callFunc f (c.args.map a.eval)).run P w:=by
  simp only[execOp,e];simp[resolve,hc,Deferred.ofValue,Act.eval,invoke]
 refine oA (R:=R) ?_ g;rw[d];exact h
theorem GO(f:Inv w0 c0 U E a w G){j:Nat}{n:Int}{sh:Sh}(h:E.get j= .d ⟨.int .i64,n,sh⟩):a.tmps.getD j undef= .int .i64 n:=by
 have e:=f.slots j;have g:E.s.getD j .no= .d ⟨.int .i64,n,sh⟩:=h;rw[g]at e;obtain⟨cs,k,c⟩:=e;cases sh with
 |leaf=>rw[k,show cs=_ from c];rfl
 |sl m=>exact c.elim
 |pair a b=>exact c.elim
theorem Gm{L':List uu}:∀s j w act v,(E.mark L').s.getD s .no≠ .g j w act v:=by
 intro s j w act v;have:=getD_map (L:=E.s) (T:=SV.mark L') rfl s;show(E.s.map (SV.mark L')).getD s .no≠_;rw[this];exact aaL
theorem Dk{E:Env}{d:Option Nat}{sv:SV}(h:∀s j w act v,E.s.getD s .no≠ .g j w act v)(hs:∀j w act v,sv≠ .g j w act v):∀s j w act v,(E.set d sv).s.getD s .no≠ .g j w act v:=by
 intro s j w act v;cases d with
 |none=>exact h s j w act v
 |some d=>
  simp only[Env.set,dF];split;exact hs j w act v;exact h s j w act v
theorem Gn(L':List uu):(E.mark L').s.length=E.s.length:=by simp[Env.mark]
theorem Inv.abg(h:Inv w0 c0 U E a w G)(d:Option Nat)(n:Int):Inv w0 c0 U (E.set d (vI .i64 n)) (a.put d (.int .i64 n)) w G:=by
 have hm:=QW (U:=U) (G:=G) .i64 n;exact h.put d (ok_int .i64 n) hm.1 hm.2.1 hm.2.2 (by rintro _ _ ⟨⟩)
theorem Inv.Tp(h:Inv w0 c0 U E a w G)(d:Option Nat)(v:Value):Inv w0 c0 U (E.set d .no) (a.put d v) w G:=
 h.put d (sv:= .no) trivial (by simp[SV.sc]) (by simp[SV.bt]) (by simp[SV.rt]) (by rintro _ _ ⟨⟩)
theorem vq(d:Option Nat)(v:Value)(s:Nat)(h:d≠some s):(a.put d v).tmps.getD s undef=a.tmps.getD s undef:=by
 cases d with
 |none=>rfl
 |some d=>
  have:d≠s:=fun e=>h (by rw[e]);simp[Act.put,afe,afz this]
end
end Vg
