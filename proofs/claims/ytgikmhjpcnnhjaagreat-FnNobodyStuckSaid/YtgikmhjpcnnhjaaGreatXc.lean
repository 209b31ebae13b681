/- VG, joined: an evaluator of the code over typed values, and its soundness, for any program. -/
import Derived.Test.YtgikmhjpcnnhjaaGreatXb
import Derived.LoopN
import Derived.WalkKit
import Derived.ProofKit
import Derived.OpenShut
import Derived.JoinedCond
import Derived.Carry
import Derived.Test.YtgikmhjpcnnhjaaGreatXa
set_option linter.unusedSimpArgs false
set_option linter.unusedVariables false
set_option linter.unusedSectionVars false
set_option linter.defProp false
open List renaming mem_append -> g',all_eq_true -> s_,mem_cons -> p_,getD_eq_getElem?_getD -> anM,getD_cons_succ -> N',contains_eq_mem -> R_,getElem?_eq_getElem -> anP,nodup_append -> S_,mem_cons_of_mem -> anT,mem_of_getElem? -> anU,mem_map -> X',mem_singleton -> anW,drop_drop -> an0,getElem?_eq_some_iff -> an1,nodup_cons -> an2,getD_cons_zero -> an4,mem_flatMap -> an5,mem_append_right -> an7,append_assoc -> an8,flatMap_cons -> an9,length_cons -> aod,cons_append -> aoe,not_mem_nil -> aof,map_congr_left -> aog,getElem?_cons_succ -> aoh,getElem?_eq_none -> aoj,range'_succ -> aok,mem_append_left -> aom,head?_drop -> aon,mem_filterMap -> aoo,getElem?_take -> aoq,take_of_length_le -> aor,length_singleton -> aos,getElem?_toArray -> aot,take_append_drop -> aou,mem_filter -> aow,map_map -> aoz,pairwise_append -> aoA,nil_append -> aoB,drop_append_of_le_length -> aoC,mem_zipIdx_iff_getElem? -> aoD,length_append -> aoF,pairwise_cons -> aoG,getElem?_drop -> aoH,filter_congr -> aoI,head? -> aoJ,isEmpty_iff -> aoM,getElem?_cons_zero -> aoN,map_append -> aoO,append_nil -> aoP,range' -> aoS,take_take -> aoT,map_cons -> aoW,mem_cons_self -> aoZ,getElem?_map -> ao1,lookup -> ao4,any_eq_true -> ao5,flatMap_map -> ao6,flatMap_def -> ao7,length_set -> apa,filterMap -> apb,drop_zero -> apc,replicate -> apd,drop_take -> ape
open Bool renaming and_eq_true -> i_,or_eq_true -> anZ,not_eq_true' -> an3,false_eq_true -> aop,eq_iff_iff -> ao8
open Option.some renaming injEq -> anJ
open Option renaming bind_eq_some_iff -> anR,isSome_iff_exists -> aoc,map_eq_some_iff -> aoi,bind_assoc -> ao2
open Nat renaming mul_le_mul_right -> anS,add_mul -> Y_,le_refl -> aoa,one_mul -> aob,eq_zero_or_pos -> aoE,lt_or_ge -> aoK,sub_zero -> aoL,min_eq_left -> aoR,lt_of_lt_of_le -> ao0,not_lt -> ao9
open Prod.mk renaming injEq -> anX
open Array renaming getD_eq_getD_getElem? -> an6,getD -> aol,getElem?_setIfInBounds_ne -> aov,replicate -> aoQ,getElem?_toList -> aoU,ext' -> aoV,length_toList -> aoY
open Function renaming comp_apply -> aoX
open Int renaming toNat_natCast -> ao3
namespace Vg
open Go
def UG{a b:List Nat}(h:∀c∈a,c∉b):meets a b=false:=by
 simp only[meets,List.any_eq_false,R_,b_];exact h
theorem Zn(ts X:List Nat):Y4 X (M.kill ts) (!ts.contains ·) (fun hs=>if meets hs ts then none else some hs) where
 m m:=by
   unfold M.kill;split;exact .inr (.inl rfl);exact .inl rfl
 r hs hs' h:=by
   split at h;cases h;cases h;exact .inl rfl
theorem Yc{ts:List Nat}{v:SV}(h:∀c∈v.og,c∉ts):v.kill ts=v:=
 SV.stays (X:=ts) (fun m d=>by unfold M.kill;rw[UG d];rfl) (fun t e=>by simpa using e) (fun hs f=>by simp[UG f]) h
def YG{a b:List Nat}(h:meets a b=true):∃c,c∈a/\c∈b:=by
 simp only[meets,ao5,R_,b_]at h;exact h
def Tj{ts hs:List Nat}{t:Nat}(h:meets hs ts=true):t∈O9 ts t hs:=by
 obtain⟨c,d,e⟩:=YG h;have:=SN (ts:=ts) (t:=t) d;rwa [an e]at this
theorem YE{ts X:List Nat}{t:Nat}(j:t∈X):Y4 X (M.cu ts t) (!ts.contains ·) (fun hs=>some (if meets hs ts then O9 ts t hs else hs)) where
 m m:=by
   unfold M.cu;split;rename_i d;right;right;refine⟨t,j,?_⟩;cases m with
   |row u hs nd=>
    simp only[M.PV];split;exact Tj d;rename_i f
    have:meets hs ts=true:=by
     obtain⟨c,e,k⟩:=YG d;simp only[M.bc,p_]at e;rcases e with rfl|e;simp only[R_,b_]at f;exact absurd k f;simp only[meets,ao5,R_,b_];exact⟨c,e,k⟩
    simp only[M.bc,p_];exact .inr (Tj this)
   |sha hs=>exact Tj d
   |nst b E i o p fr=>exact Tj d
   |dead=>simp[M.bc,meets]at d
   exact .inl rfl
 r hs hs' h:=by
   simp only[anJ]at h;subst h;split;rename_i d;exact .inr ⟨t,j,Tj d⟩;exact .inl rfl
theorem Zx{ts:List Nat}{t:Nat}{v:SV}(h:∀c∈v.og,c∉ts):v.cu ts t=v:=
 SV.stays (X:=ts) (fun m d=>by unfold M.cu;rw[UG d];rfl) (fun t e=>by simpa using e) (fun hs f=>by simp[UG f]) h
theorem abi(b:Nat)(X:List Nat):Y4 X (M.fD b) (fun _=>true) (fun hs=>if hs.contains b then none else some hs) where
 m m:=by
   cases m with
   |row u hs nd=>
    simp only[M.fD];split;exact .inl rfl;split;exact .inr (.inl rfl);exact .inl rfl
   |sha hs=>
    simp only[M.fD];split;exact .inr (.inl rfl);exact .inl rfl
   |nst b' E i o p fr=>
    simp only[M.fD];split;exact .inr (.inl rfl);exact .inl rfl
   |dead=>exact .inl rfl
 r hs hs' h:=by
   split at h;cases h;cases h;exact .inl rfl
theorem abf{b:Nat}{v:SV}(h:∀c∈v.og,c∉ [b]):v.fD b=v:=
 SV.stays (X:=[b]) (fun m e=>by
  cases m with
  |row u f nd=>
   simp only[M.fD];split;rfl;rw[a_];simp only[R_,b_];intro d;exact e b (by simp[M.bc,d]) (by simp)
  |sha f=>
   simp only[M.fD];rw[a_];simp only[R_,b_];intro d;exact e b (by simp[M.bc,d]) (by simp)
  |nst b' E i o p fr=>
   simp only[M.fD];rw[a_];intro d;exact e b (by simp[M.bc,d]) (by simp)
  |dead=>rfl) (fun _ _=>rfl) (fun f j=>by
  rw[a_];simp only[R_,b_];intro d;exact j b d (by simp)) h
theorem Sd{b:Nat}{e:Ty}{y:List e.den}{m:M}:∀ {τ:Ty} {x:τ.den} {sh:Sh},b∉sh.bc->xr b e y m τ x sh=(x,sh)
 | .sl e',l,.sl (.row u hs nd),h=>by
   have:u≠b:=fun e=>h (by simp[Sh.bc,M.bc,e]);simp only[xr,this,if_false]
 | .pair a c,p,.pair s1 s2,h=>by
   simp only[Sh.bc,g',not_or]at h;simp only[xr,Sd h.1,Sd h.2]
 | .sl _,_,.sl (.nst _ _ _ _ _ _),_| .sl _,_,.leaf,_| .sl _,_,.pair _ _,_| .sl _,_,.sl (.sha _),_| .sl _,_,.sl .dead,_
 | .int _,_,.leaf,_| .int _,_,.sl _,_| .int _,_,.pair _ _,_| .bool,_,.leaf,_| .bool,_,.sl _,_| .bool,_,.pair _ _,_
 | .str,_,.leaf,_| .str,_,.sl _,_| .str,_,.pair _ _,_| .pair _ _,_,.leaf,_| .pair _ _,_,.sl _,_=>rfl
theorem Se{b:Nat}{e:Ty}{y:List e.den}{m:M}(f:b∈m.bc):∀ {τ:Ty} {x:τ.den} {sh:Sh},(xr b e y m τ x sh).2.live=true->b∉(xr b e y m τ x sh).2.bc->xr b e y m τ x sh=(x,sh)
 | .sl e',l,.sl (.row u hs nd),hl,hc=>by
   simp only[xr]at hl hc|-;split;rename_i h;rw[an h]at hl hc;split;rename_i d;rw[dif_pos d]at hc;exact absurd f hc;rename_i d;rw[dif_neg d]at hl;cases hl;rfl
 | .pair a c,p,.pair s1 s2,hl,hc=>by
   simp only[xr,Sh.live,i_,Sh.bc,g',not_or]at hl hc;simp only[xr,Se f hl.1 hc.1,Se f hl.2 hc.2]
 | .sl _,_,.sl (.nst _ _ _ _ _ _),_,_| .sl _,_,.leaf,_,_| .sl _,_,.pair _ _,_,_| .sl _,_,.sl (.sha _),_,_| .sl _,_,.sl .dead,_,_
 | .int _,_,.leaf,_,_| .int _,_,.sl _,_,_| .int _,_,.pair _ _,_,_| .bool,_,.leaf,_,_| .bool,_,.sl _,_,_| .bool,_,.pair _ _,_,_
 | .str,_,.leaf,_,_| .str,_,.sl _,_,_| .str,_,.pair _ _,_,_| .pair _ _,_,.leaf,_,_| .pair _ _,_,.sl _,_,_=>rfl
theorem TV.FA{b:Nat}{e:Ty}{y:List e.den}{m:M}{v:TV}(h:b∉v.sh.bc):v.setRow b e y m=v:=by
 unfold TV.setRow;rw[Sd h]
theorem TV.FK{b:Nat}{e:Ty}{y:List e.den}{m:M}(p:b∈m.bc){v:TV}(h:(v.setRow b e y m).sh.live=true)(hc:b∉(v.setRow b e y m).sh.bc):v.setRow b e y m=v:=by
 unfold TV.setRow at h hc|-;rw[Se p h hc]
theorem FA{b:Nat}{e:Ty}{y:List e.den}{m:M}:∀ {v:SV},b∉v.og->v.setRow b e y m=v
 | .no,_| .ptr ..,_| .ept ..,_=>rfl
 | .d v,h=>by simp only[SV.setRow];rw[TV.FA h]
 | .box t v,h=>by simp only[SV.setRow];rw[TV.FA (fun c=>h (by simp[SV.og,c]))]
 | .rdp hs v,h=>by
   simp only[SV.setRow];rw[a_];simpa[SV.og]using h
 | .tup l,h=>by
   simp only[SV.setRow];congr 1
   conv=>rhs;rw[<-List.map_id l]
   refine aog (fun v f=>TV.FA (fun c=>h ?_));simp only[SV.og,an5];exact⟨v,f,c⟩
 | .g j w a v,h=>by simp only[SV.setRow];rw[FA (v:=v) h]
theorem FK{b:Nat}{e:Ty}{y:List e.den}{m:M}(f:b∈m.bc):∀ {v:SV},(v.setRow b e y m).clean=true->b∉(v.setRow b e y m).og->v.setRow b e y m=v
 | .no,h,_=>by cases h
 | .ptr ..,_,_| .ept ..,_,_=>rfl
 | .d v,h,hc=>by simp only[SV.setRow];rw[TV.FK f h hc]
 | .box t v,h,hc=>by simp only[SV.setRow];rw[TV.FK f h (fun c=>hc (by simp[SV.setRow,SV.og,c]))]
 | .rdp hs v,h,hc=>by
   simp only[SV.setRow]at h|-;split;rename_i c;rw[an c]at h;cases h;rfl
 | .tup l,h,hc=>by
   simp only[SV.setRow];congr 1
   conv=>rhs;rw[<-List.map_id l]
   refine aog (fun v k=> ?_);simp only[SV.setRow,SV.clean,List.all_map,s_,aoX]at h;refine TV.FK f (h v k) (fun c=>hc ?_);simp only[SV.setRow,SV.og,ao6,an5];exact⟨v,k,c⟩
 | .g j w a v,h,hc=>by simp only[SV.setRow];rw[FK f (v:=v) h hc]
theorem Tr.stays{T:Tr}{v:SV}(h:∀c∈v.og,c∉T.qU):T.sv v=v:=by
 cases T with
 |id=>rfl
 |kg u I t=>
  simp only[Tr.qU,p_,g',not_or]at h;simp only[Tr.sv,oP,Du]
  have D:(if u.isEmpty=true then v else v.kill u)=v:=by
   split;rfl;exact Yc (fun c hc=>(h c hc).2.1)
  rw[D];split;rfl;exact Zx (fun c hc=>(h c hc).2.2)
 |el I b e l m=>
  simp only[Tr.qU,p_,not_or]at h;simp only[Tr.sv];rw[Zx (fun c hc=>(h c hc).2),abf (fun c hc=>by simpa using(h c hc).1),FA (fun hc=>(h b hc).1 rfl)]
 |ki y rp=>
  simp only[Tr.qU,g',not_or]at h
  have q:(if y.isEmpty=true then v else v.kill y)=v:=by
   split;rfl;exact Yc (fun c hc=>(h c hc).1)
  simp only[Tr.sv,oP];split;exact q;cases v with
  |ept b e i o p τ=>
   simp only[SV.ib];split;rename_i z B;exact absurd (X'.2 ⟨(b,z),vO B,rfl⟩) (h b (by simp[SV.og])).2.1;exact q
  |_=>exact q
theorem Tr.Ec{T:Tr}(S:T.ok=true){v:SV}(q:(T.sv v).clean=true)(h:∀c∈(T.sv v).og,c∉T.qU):T.sv v=v:=by
 cases T with
 |id=>rfl
 |kg N B t=>
  simp only[Tr.sv,oP,Du]at q h|-;generalize J:(if N.isEmpty=true then v else v.kill N)=v1 at q h|-
  have K:(if B.isEmpty=true then v1 else v1.cu B t)=v1:=by
   split;rfl;rename_i W;rw[a_ W]at q h;exact SV.Ec (YE (X:=[t]) (by simp)) q (fun c hc z=>h c hc (by simp only[anW]at z;simp[Tr.qU,z]))
  rw[K]at q h|-;rw[<-J]at q h|-;split;rfl;rename_i y;rw[a_ y]at q h;exact SV.Ec (Zn N []) q (by simp)
 |el B b e l m=>
  simp only[Tr.ok,R_,b_]at S;simp only[Tr.sv]at q h|-;have K:=FK S q (fun hc=>h b hc (by simp[Tr.qU]));rw[K]at q h|-;have Y:(v.cu B b).fD b=v.cu B b:=SV.Ec (abi b []) q (by simp);rw[Y]at q h|-;exact SV.Ec (YE (X:=[b]) (by simp)) q (fun c hc z=>h c hc (by simp only[anW]at z;simp[Tr.qU,z]))
 |ki D rp=>
  have y:(if D.isEmpty=true then v else v.kill D).clean=true->(if D.isEmpty=true then v else v.kill D)=v:=by
   intro q;split;rfl;rename_i y;rw[a_ y]at q;exact SV.Ec (Zn D []) q (by simp)
  simp only[Tr.sv,oP]at q h|-;split;rename_i I;rw[an I]at q;exact y q;rename_i I;rw[a_ I]at q h;cases v with
  |ept b e i o p τ=>
   simp only[SV.ib]at q h|-;split;rename_i R u;rw[u]at h;exact absurd (by simp only[Tr.qU,g',X'];exact .inr (.inr ⟨(b,R),vO u,rfl⟩)) (h R (by simp[SV.og]));rename_i u;rw[u]at q;exact y q
  |_=>exact y q
def Iz{T:Tr}(h:T.KS=true)(v:SV):T.sv v=v:=by
 cases T with
 |id=>rfl
 |kg ks c t=>
  simp only[Tr.KS,i_]at h;simp only[Tr.sv,oP,Du,h.1,h.2,if_true]
 |el c b e l m=>simp[Tr.KS]at h
 |ki ts rp=>simp only[Tr.KS,i_]at h;simp only[Tr.sv,oP,h.1,h.2,if_true]
def ajv(T:Tr):T.sv .no= .no:=by
 cases T with
 |id=>rfl
 |kg ks c t=>simp only[Tr.sv,oP,Du];split<;>split<;>rfl
 |el c b e l m=>rfl
 |ki ts rp=>simp only[Tr.sv,oP,SV.ib];split<;>split<;>rfl
theorem ab1:∀(ws:List (Nat×SV)) (L:List SV),(pw ws L).length=L.length
 | [],_=>rfl
 |p::ws,L=>by
  show(pw ws (L.set p.1 p.2)).length=L.length;rw[ab1 ws];simp
theorem abL:∀(ws:List (Nat×SV)) (L:List SV) (s:Nat),(∀p∈ws,p.1≠s)->(pw ws L).getD s .no=L.getD s .no
 | [],_,_,_=>rfl
 |p::ws,L,s,h=>by
  show(pw ws (L.set p.1 p.2)).getD s .no=L.getD s .no;rw[abL ws _ s (fun q c=>h q (by simp[c])),mY,a_];rintro⟨e,_⟩;exact h p (by simp) e.symm
def ajI{E:Env}{T:Tr}{ws:List (Nat×SV)}{s:Nat}(h:∀p∈ws,p.1≠s):(E.vf (T,ws)).s.getD s .no=T.sv (E.s.getD s .no):=by
 simp only[Env.vf];rw[abL ws _ s h,getD_map (ajv T)]
def ju(t:Nat):SV->Bool
 | .box u _=>u=t
 |_=>false
theorem Vm:∀(L:List SV) (t k s:Nat) (v:TV),mX L t k=some (s,v)↔k<=s/\L.getD (s-k) .no= .box t v/\∀j,j<s-k->ju t (L.getD j .no)=false
 | [],t,k,s,v=>by simp[mX]
 |x::L,t,k,s,v=>by
  have step:(∀u,x≠ .box t u)->(mX (x::L) t k=some (s,v)↔mX L t (k+1)=some (s,v)):=by
   intro h;cases x with
   |box u y=>
    simp only[mX];rw[a_];intro e;exact h y (by rw[e])
   |_=>rfl
  by_cases m:∃u,x= .box t u;obtain⟨u,rfl⟩:=m;simp only[mX,if_true,anJ,anX];constructor;rintro⟨rfl,rfl⟩;exact⟨aoa _,by simp,fun j l=>by omega⟩;rintro⟨n,c,f⟩
  have p:s-k=0:=by
   rcases aoE (s-k)with h|h;exact h;have:=f 0 h;simp[ju]at this
  rw[p]at c;simp only[an4,SV.box.injEq,true_and]at c;exact⟨by omega,c⟩;have d:∀u,x≠ .box t u:=fun u e=>m ⟨u,e⟩;rw[step d,Vm L t (k+1) s v]
  have q:ju t x=false:=by
   cases x with
   |box u y=>simp only[ju,d_];intro e;exact d y (by rw[e])
   |_=>rfl
  constructor;rintro⟨n,c,f⟩;refine⟨by omega,?_,fun j l=> ?_⟩;rw[show s-k=(s-(k+1))+1 by omega,N'];exact c;cases j with
  |zero=>simpa using q
  |succ j=>rw[N'];exact f j (by omega)
  rintro⟨n,c,f⟩
  have z:k+1<=s:=by
   rcases aoK k s with h|h;exact h;rw[show s-k=0 by omega]at c;simp only[an4]at c;exact absurd c (d v)
  refine⟨z,?_,fun j l=> ?_⟩;rw[show s-k=(s-(k+1))+1 by omega,N']at c;exact c;have:=f (j+1) (by omega);rwa [N']at this
def acq{L L':List SV}{t s:Nat}{v:TV}(h:mX L t 0=some (s,v))(hs:L'.getD s .no=L.getD s .no)(f:∀j,ju t (L'.getD j .no)=ju t (L.getD j .no)):mX L' t 0=some (s,v):=by
 rw[Vm]at h|-;obtain⟨k,c,d⟩:=h;simp only[aoL]at c d|-;exact⟨k,by rw[hs];exact c,fun j e=>by rw[f];exact d j e⟩
def rowAt(t:Nat)(e:Ty):SV->Option (List e.den×List Nat×Bool)
 | .d v| .box _ v=>xc t e v.τ v.x v.sh
 |_=>none
theorem Q9:∀(L:List SV) (t:Nat) (e:Ty) (k s:Nat),pr t e L k=some s↔k<=s/\(rowAt t e (L.getD (s-k) .no)).isSome/\∀j,j<s-k->rowAt t e (L.getD j .no)=none
 | [],t,e,k,s=>by simp[pr,rowAt]
 |x::L,t,e,k,s=>by
  have f:pr t e (x::L) k=if(rowAt t e x).isSome then some k else pr t e L (k+1):=by
   cases x<;>rfl
  rw[f];by_cases d:(rowAt t e x).isSome=true;rw[an d];simp only[anJ];constructor;rintro rfl;exact⟨aoa _,by simpa using d,fun j n=>by omega⟩;rintro⟨p,c,m⟩;rcases aoE (s-k)with h|h;omega;have:=m 0 h;simp only[an4]at this;rw[this]at d;cases d;rw[a_ d,Q9 L t e (k+1) s];have l:rowAt t e x=none:=by simpa using d
  constructor;rintro⟨p,c,m⟩;refine⟨by omega,?_,fun j n=> ?_⟩;rw[show s-k=(s-(k+1))+1 by omega,N'];exact c;cases j with
  |zero=>simpa using l
  |succ j=>rw[N'];exact m j (by omega)
  rintro⟨p,c,m⟩
  have q:k+1<=s:=by
   rcases aoK k s with h|h;exact h;rw[show s-k=0 by omega]at c;simp only[an4,l]at c;cases c
  refine⟨q,?_,fun j n=> ?_⟩;rw[show s-k=(s-(k+1))+1 by omega,N']at c;exact c;have:=m (j+1) (by omega);rwa [N']at this
theorem Qq:∀(L:List SV) (t:Nat) (e:Ty) (k s:Nat),pr t e L k=some s->od t e L=rowAt t e (L.getD (s-k) .no)
 | [],t,e,k,s,h=>by simp[pr]at h
 |x::L,t,e,k,s,h=>by
  have c:pr t e (x::L) k=if(rowAt t e x).isSome then some k else pr t e L (k+1):=by
   cases x<;>rfl
  have j:od t e (x::L)=match rowAt t e x with|some r=>some r|none=>od t e L:=by
   cases x<;>rfl
  rw[c]at h;by_cases d:(rowAt t e x).isSome=true;rw[an d]at h;simp only[anJ]at h;subst h;rw[j];obtain⟨r,l⟩:=aoc.1 d;simp[l];rw[a_ d]at h;have f:rowAt t e x=none:=by simpa using d
  rw[j,f];have hs:=(Q9 L t e (k+1) s).1 h;rw[show s-k=(s-(k+1))+1 by omega,N'];exact Qq L t e (k+1) s h
def adF{L L':List SV}{t s:Nat}{e:Ty}(h:pr t e L 0=some s)(hs:L'.getD s .no=L.getD s .no)(l:∀j,j<s->rowAt t e (L.getD j .no)=none->rowAt t e (L'.getD j .no)=none):
 pr t e L' 0=some s/\od t e L'=od t e L:=by
 have d:pr t e L' 0=some s:=by
  rw[Q9]at h|-;obtain⟨m,f,k⟩:=h;simp only[aoL]at f k|-;exact⟨m,by rw[hs];exact f,fun j c=>l j c (k j c)⟩
 refine⟨d,?_⟩;rw[Qq L' t e 0 s d,Qq L t e 0 s h,aoL,hs]
structure Wj(b:nh)(E E':Env):Prop where
 get:∀s∈b.rs,E'.get s=E.get s
 ra:∀s∈b.ra,∃t u u',E.get s= .box t u/\E'.get s= .box t u'/\u'.τ=u.τ
 box:∀t∈b.bx,∀j,ju t (E'.get j)=ju t (E.get j)
 row:∀p∈b.rw,∀(e:Ty) (j:Nat),j<p.2->rowAt p.1 e (E.get j)=none->rowAt p.1 e (E'.get j)=none
 dz:∀p∈b.ws,HJ (E'.get p.1) p.2=true
 nb:∀p∈b.ws,sameBox (E'.get p.1) p.2=sameBox (E.get p.1) p.2
section
variable{C:Cx}{ops:List Oper}{i:Nat}{o:Oper}{E E':Env}{r:Tr×List (Nat×SV)}
def abZ{s:Nat}(h:s∈Ae ops o):s∈(qm ops i o E r).rs\/s∈(qm ops i o E r).ra:=by
 simp only[qm,g',aow];cases hb:(E.get s).mq with
 |true=>exact .inr ⟨h,rfl⟩
 |false=>exact .inl (.inl (.inl ⟨h,rfl⟩))
def aee{t s:Nat}{v:TV}(c:nK o=true)(d:t∈Qz E o)(h:mX E.s t 0=some (s,v)):s∈(qm ops i o E r).rs:=by
 simp only[qm,g'];refine .inl (.inr ?_);rw[aoo];exact⟨t,by rw[an c];exact d,by rw[h];rfl⟩
def Yy{t s:Nat}{e:Ty}(c:nK o=true)(d:(t,e)∈PF E o)(h:pr t e E.s 0=some s):(t,s)∈(qm ops i o E r).rw:=by
 simp only[qm];rw[aoo];exact⟨(t,e),by rw[an c];exact d,by rw[h];rfl⟩
def ad9{t s:Nat}{e:Ty}(c:nK o=true)(d:(t,e)∈PF E o)(h:pr t e E.s 0=some s):s∈(qm ops i o E r).rs:=by
 have:=Yy (ops:=ops) (i:=i) (r:=r) c d h;simp only[qm,g']at this|-;refine .inr ?_;rw[X'];exact⟨(t,s),this,rfl⟩
def aiz{s b off:Nat}{p:List Bool}{τ:Ty}(hs:s∈tmpsOf o)(h:(E.rd.get s).strip= .ptr b off p τ):b∈Qz E o:=by
 unfold Qz;rw[aoo];exact⟨s,hs,by rw[h]⟩
def aiB{s b:Nat}{e:Ty}(hs:s∈tmpsOf o)(h:acy (E.rd.get s).strip=some (b,e)):(b,e)∈PF E o:=by
 unfold PF;rw[aoo];exact⟨s,hs,h⟩
theorem AX{α β:Type}{f g:α->Option β}:∀ {l:List α},(∀x∈l,f x=g x)->l.filterMap f=l.filterMap g
 | [],_=>rfl
 |x::l,h=>by
  simp only[List.filterMap_cons,h x (by simp),AX (l:=l) (fun y c=>h y (by simp[c]))]
theorem UX{α β:Type}{f:α->Option β}:∀ {l:List α},(l.filterMap f).length=l.length->∀x∈l,(f x).isSome=true
 | [],_,x,c=>by cases c
 |y::l,h,x,c=>by
  have hle:=List.length_filterMap_le f l;cases d:f y with
  |none=>
   rw[List.filterMap_cons_none d]at h;simp at h;omega
  |some z=>
   rw[List.filterMap_cons_some d]at h;simp only[aod,Nat.add_right_cancel_iff]at h;rcases p_.1 c with rfl|c;rw[d];rfl;exact UX h x c
def afG(m:Wj (qm ops i o E r) E E')(K:(qm ops i o E r).fd=true)(N:(qm ops i o E r).dz=true):
 pG o E.rd E'.rd/\guardOf ops E'.rd o.guard=guardOf ops E.rd o.guard/\qm ops i o E' r=qm ops i o E r:=by
 have n:∀s∈Ae ops o,fJ (E'.get s)=fJ (E.get s)/\(E'.get s).mq=(E.get s).mq:=fun s d=>by
  rcases abZ (i:=i) (E:=E) (r:=r) d with h|h;rw[m.get s h];exact⟨rfl,rfl⟩;obtain⟨t,u,u',h1,h2,h3⟩:=m.ra s h;rw[h1,h2];simp only[fJ,h3,SV.mq];exact⟨trivial,trivial⟩
 have W:∀s∈tmpsOf o,s∈Ae ops o:=fun s d=>by simp only[Ae,g'];exact .inl d
 have D:∀s∈tmpsOf o,E'.rd.get s=E.rd.get s:=fun s d=>(n s (W s d)).1;simp only[qm,i_,b_,s_]at K;obtain⟨S,j0⟩:=K
 have R:nK o=true->∀p∈PF E o,(pr p.1 p.2 E.s 0).isSome=true:=by
  intro c p l;rw[an c]at S;have:=UX S p l;simpa using this
 have y:nK o=true->∀t∈Qz E o,mX E'.s t 0=mX E.s t 0:=by
  intro c t f;obtain⟨⟨s,v⟩,J⟩:=aoc.1 (j0 t (by rw[an c];exact f));rw[J];exact acq J (m.get s (aee c f J)) (fun j=>m.box t (by simp only[qm];rw[an c];exact f) j)
 have z:nK o=true->∀p∈PF E o,pr p.1 p.2 E'.s 0=pr p.1 p.2 E.s 0/\od p.1 p.2 E'.s=od p.1 p.2 E.s:=by
  rintro c ⟨t,e⟩ l;obtain⟨s,d⟩:=aoc.1 (R c (t,e) l);have:=adF d (m.get s (ad9 c l d)) (fun j hj hn=>m.row (t,s) (Yy c l d) e j hj hn);exact⟨this.1.trans d.symm,this.2⟩
 refine⟨⟨D,fun c s d b off p τ h=>y c b (aiz d h),fun c s d b e h=>(z c (b,e) (aiB d h)).2⟩,?_,?_⟩;cases hg:o.guard with
 |none=>rfl
 |some q=>
  obtain⟨j,w⟩:=q;simp only[guardOf];cases hd:(ops[j]?).bind (·.dst)with
  |none=>rfl
  |some s=>
   have d:s∈Ae ops o:=by
    simp only[Ae,g'];refine .inr ?_;rw[hg];simp[hd]
   have:E'.rd.get s=E.rd.get s:=(n s d).1;simp only[this]
 have hb:Qz E' o=Qz E o:=AX (fun s d=>by rw[D s d]);have hr:PF E' o=PF E o:=AX (fun s d=>by rw[D s d]);have X:(Ae ops o).filter (fun s=>(E'.get s).mq)=(Ae ops o).filter (fun s=>(E.get s).mq):=aoI (fun s d=>(n s d).2);have Y:(Ae ops o).filter (fun s=> !(E'.get s).mq)=(Ae ops o).filter (fun s=> !(E.get s).mq):=aoI (fun s d=>by rw[(n s d).2])
 have b0:(if nK o=true then PF E o else []).filterMap (fun p=>(pr p.1 p.2 E'.s 0).map fun s=>(p.1,s))=(if nK o=true then PF E o else []).filterMap (fun p=>(pr p.1 p.2 E.s 0).map fun s=>(p.1,s)):=by
  split;rename_i c;exact AX (fun p l=>by rw[(z c p l).1]);rfl
 have I:∀t∈(if nK o=true then Qz E o else []),mX E'.s t 0=mX E.s t 0:=by
  split;rename_i c;exact y c;intro t f;cases f
 have e0:(if nK o=true then Qz E o else []).filterMap (fun t=>(mX E'.s t 0).map (·.1))=(if nK o=true then Qz E o else []).filterMap (fun t=>(mX E.s t 0).map (·.1)):=
  AX (fun t f=>by rw[I t f])
 have k:=m.get;have B:=m.dz;simp only[qm]at k B N;simp only[qm,hb,hr,b0,e0,X,Y,nh.mk.injEq,true_and];generalize (Ae ops o).filter (fun s=> !(E.get s).mq)++apb (fun t=>Option.map (fun x=>x.fst) (mX E.s t 0)) (if nK o=true then Qz E o else [])++List.map (fun x=>x.snd) (apb (fun p=>Option.map (fun s=>(p.fst,s)) (pr p.fst p.snd E.s 0)) (if nK o=true then PF E o else []))=rs at k|-;have h0:(r.2.filter fun p=> !sameBox (E'.get p.1) p.2)=r.2.filter fun p=> !sameBox (E.get p.1) p.2:=aoI (fun p l=>by rw[m.nb p (by simpa only[qm]using l)]);refine⟨?_,?_,?_,?_,?_,by rw[h0],trivial⟩;simp only[ao7];congr 1;refine aog (fun s d=> ?_);rw[k s d];simp only[ao7];congr 1;refine aog (fun s d=> ?_);rw[k s d];rw[ao8,s_,s_];constructor;intro h s d;rw[<-k s d];exact h s d;intro h s d;rw[k s d];exact h s d;congr 1;rw[ao8,s_,s_];constructor;intro h t f;rw[<-I t f];exact h t f;intro h t f;rw[I t f];exact h t f;rw[N,s_];exact B
end
def SV.kd:SV->Nat
 | .no=>0
 | .d _=>1
 | .box _ _=>2
 | .ptr _ _ _ _=>3
 | .ept _ _ _ _ _ _=>4
 | .rdp _ _=>5
 | .tup _=>6
 | .g _ _ _ _=>7
def Sj(v c:SV):Prop:=c.kd=v.kd\/((v.kd=4\/v.kd=5)/\c= .no)
def NX{f:M->M}{c:Nat->Bool}{d:List Nat->Option (List Nat)}(v:SV):Sj v (v.mapM f c d):=by
 cases v with
 |ept t e i o p τ=>
  simp only[SV.mapM];split;exact .inl rfl;exact .inr ⟨.inl rfl,rfl⟩
 |rdp hs v=>
  simp only[SV.mapM];split;exact .inl rfl;exact .inr ⟨.inr rfl,rfl⟩
 |_=>exact .inl rfl
def agA{b:Nat}{e:Ty}{y:List e.den}{m:M}(v:SV):Sj v (v.setRow b e y m):=by
 cases v with
 |rdp hs v=>
  simp only[SV.setRow];split;exact .inr ⟨.inr rfl,rfl⟩;exact .inl rfl
 |_=>exact .inl rfl
theorem Sj.refl(v:SV):Sj v v:= .inl rfl
theorem Sj.trans{a b c:SV}(h:Sj a b)(p:Sj b c):Sj a c:=by
 rcases h with h|⟨h,rfl⟩;rcases p with p|⟨p,rfl⟩;exact .inl (p.trans h);exact .inr ⟨by rw[<-h];exact p,rfl⟩;rcases p with p|⟨p,_⟩;refine .inr ⟨h,?_⟩;cases c<;>simp[SV.kd]at p|-;simp[SV.kd]at p
def Zv(T:Tr)(v:SV):Sj v (T.sv v):=by
 cases T with
 |id=>exact .refl v
 |kg ks f t=>
  simp only[Tr.sv,oP,Du];split<;>split;exact .refl v;exact NX v;exact NX v;exact(NX v).trans (NX _)
 |el f b e l m=>exact((NX v).trans (NX _)).trans (agA _)
 |ki d rp=>
  have c:Sj v (if d.isEmpty=true then v else v.kill d):=by
   split;exact .refl v;exact NX v
  simp only[Tr.sv,oP];split;exact c;cases v with
  |ept b e i o p τ=>
   simp only[SV.ib];split;exact .inl rfl;exact c
  |_=>exact c
def Qv{f:M->M}{c:Nat->Bool}{d:List Nat->Option (List Nat)}(t:Nat)(v:SV):ju t (v.mapM f c d)=ju t v:=by
 cases v with
 |ept t e i o p τ=>simp only[SV.mapM];split<;>rfl
 |rdp hs v=>simp only[SV.mapM];split<;>rfl
 |_=>rfl
def aab{b:Nat}{e:Ty}{y:List e.den}{m:M}(t:Nat)(v:SV):ju t (v.setRow b e y m)=ju t v:=by
 cases v with
 |rdp hs v=>simp only[SV.setRow];split<;>rfl
 |_=>rfl
def KE(T:Tr)(t:Nat)(v:SV):ju t (T.sv v)=ju t v:=by
 cases T with
 |id=>rfl
 |kg ks f u=>
  simp only[Tr.sv,oP,Du];split<;>split<;>simp only[SV.cu,SV.kill,Qv]
 |el f b e l m=>simp only[Tr.sv,aab,SV.fD,SV.cu,Qv]
 |ki d rp=>
  have c:ju t (if d.isEmpty=true then v else v.kill d)=ju t v:=by
   split<;>simp only[SV.kill,Qv]
  simp only[Tr.sv,oP];split;exact c;cases v with
  |ept b e i o p τ=>
   simp only[SV.ib];split;rfl;exact c
  |_=>exact c
def xz{t:Nat}{v:SV}(h:ju t v=true):∃u,v= .box t u:=by
 cases v with
 |box t' u=>simp only[ju,b_]at h;subst h;exact⟨u,rfl⟩
 |_=>simp[ju]at h
def ajV{v q:SV}(h:v.kd=0\/v.kd=4\/v.kd=5):HJ v q=true:=by
 cases v<;>first|rfl|simp[SV.kd]at h
def TP{v q:SV}(h:v.kd=1\/v.kd=3\/v.kd=6\/v.kd=7):HJ v q=(v.clean&&v.og.isEmpty):=by
 cases v<;>first|rfl|simp[SV.kd]at h
def afn{T:Tr}{v q:SV}(h:HJ v q=true):HJ (T.sv v) q=true:=by
 have k:=Zv T v
 have c:v.kd=1\/v.kd=3\/v.kd=6\/v.kd=7->HJ (T.sv v) q=true:=by
  intro m;have n:=h;rw[TP m,i_]at n;have:v.og=[]:=by simpa using n.2
  rw[Tr.stays (by rw[this];simp)];exact h
 have f:v.kd=0\/v.kd=4\/v.kd=5->HJ (T.sv v) q=true:=by
  intro m;rcases k with k|⟨_,k⟩;exact ajV (by rw[k];exact m);rw[k];rfl
 cases v with
 |box t u=>
  obtain⟨u',s⟩:=xz (t:=t) (v:=T.sv (.box t u)) (by rw[KE];simp[ju]);rw[s];exact h
 |no=>exact f (.inl rfl)
 |ept t e i o p τ=>exact f (.inr (.inl rfl))
 |rdp hs v=>exact f (.inr (.inr rfl))
 |d v=>exact c (.inl rfl)
 |ptr t o p τ=>exact c (.inr (.inl rfl))
 |tup l=>exact c (.inr (.inr (.inl rfl)))
 |g j w a v=>exact c (.inr (.inr (.inr rfl)))
def ae4{T:Tr}(n:T.ok=true){v q:SV}(h:HJ (T.sv v) q=true):HJ v q=true:=by
 have f:=Zv T v
 have c:v.kd=1\/v.kd=3\/v.kd=6\/v.kd=7->HJ v q=true:=by
  intro m;rcases f with f|⟨f,_⟩;have k:=h;rw[TP (by rw[f];exact m),i_]at k;have s:(T.sv v).og=[]:=by simpa using k.2
  rw[Tr.Ec n k.1 (by rw[s];simp)]at h;exact h;omega
 cases v with
 |box t u=>
  obtain⟨u',x⟩:=xz (t:=t) (v:=T.sv (.box t u)) (by rw[KE];simp[ju]);rw[x]at h;exact h
 |no|ept t e i o p τ|rdp hs v=>rfl
 |d v=>exact c (.inl rfl)
 |ptr t o p τ=>exact c (.inr (.inl rfl))
 |tup l=>exact c (.inr (.inr (.inl rfl)))
 |g j w a v=>exact c (.inr (.inr (.inr rfl)))
theorem PS{t:Nat}{e:Ty}:∀ {τ:Ty} {x:τ.den} {sh:Sh},t∉sh.bc->xc t e τ x sh=none
 | .sl e',l,.sl (.row u hs nd),h=>by
   have:u≠t:=fun e=>h (by simp[Sh.bc,M.bc,e]);simp only[xc,this,if_false]
 | .pair a c,p,.pair s1 s2,h=>by
   simp only[Sh.bc,g',not_or]at h;simp only[xc,PS h.1,PS h.2]
 | .sl _,_,.sl (.nst _ _ _ _ _ _),_| .sl _,_,.leaf,_| .sl _,_,.pair _ _,_| .sl _,_,.sl (.sha _),_| .sl _,_,.sl .dead,_
 | .int _,_,.leaf,_| .int _,_,.sl _,_| .int _,_,.pair _ _,_| .bool,_,.leaf,_| .bool,_,.sl _,_| .bool,_,.pair _ _,_
 | .str,_,.leaf,_| .str,_,.sl _,_| .str,_,.pair _ _,_| .pair _ _,_,.leaf,_| .pair _ _,_,.sl _,_=>rfl
def Wx{t:Nat}{e:Ty}{v:SV}(h:t∉v.og):rowAt t e v=none:=by
 cases v with
 |d v=>exact PS h
 |box t v=>exact PS (fun hc=>h (by simp[SV.og,hc]))
 |_=>rfl
def YQ{t:Nat}{e:Ty}{v:SV}(hb:v.mq=false)(h:t∉v.og):rowAt t e v=none:=Wx h
def IB{E:Env}{T:Tr}{ws:List (Nat×SV)}{j:Nat}(h:∀p∈ws,p.1≠j):(E.vf (T,ws)).get j=T.sv (E.get j):=ajI h
theorem adM:∀(ws:List (Nat×SV)) (L:List SV) (j:Nat),(pw ws L).getD j .no=L.getD j .no\/∃p∈ws,p.1=j/\(pw ws L).getD j .no=p.2
 | [],_,_=> .inl rfl
 |p::ws,L,j=>by
  rcases adM ws (L.set p.1 p.2) j with h|⟨q,d,e,f⟩;have c:(pw (p::ws) L).getD j .no=(L.set p.1 p.2).getD j .no:=h;rw[mY]at c;split at c;rename_i hc;exact .inr ⟨p,by simp,hc.1.symm,c⟩;exact .inl c;exact .inr ⟨q,by simp[d],e,f⟩
def ZC(E:Env)(T:Tr)(ws:List (Nat×SV))(j:Nat):(E.vf (T,ws)).get j=T.sv (E.get j)\/∃p∈ws,p.1=j/\(E.vf (T,ws)).get j=p.2:=by
 rcases adM ws (E.s.map T.sv) j with h|h;refine .inl ?_;have:(E.vf (T,ws)).get j=(E.s.map T.sv).getD j .no:=h;rw[this,getD_map (ajv T)];rfl;exact .inr h
structure afy(a b:nh):Prop where
 rs:∀p∈a.ws,p.1∉b.rs
 ra:∀p∈a.ws,p.1∉b.ra
 ws:∀p∈a.ws,∀q∈b.ws,q.1≠p.1
 bx:∀p∈a.ws,∀t u,p.2= .box t u->t∉b.bx
 rw:∀p∈a.ws,∀q∈b.rw,q.2<p.1\/(p.2.mq=false/\q.1∉p.2.og)
 tr:a.T.KS=true\/(b.rw=[]/\(∀t∈b.tk,t∉a.T.qU)/\(∀t∈b.te,t∉a.T.IX)/\∀p∈b.ws,(∀t∈p.2.RR,t∉a.T.qU)/\∀t∈p.2.Og,t∉a.T.IX)
structure TG(a b:nh):Prop where
 rs:∀p∈a.ws,p.1∉b.rs
 ra:∀p∈a.ws,p.1∉b.ra
 ws:∀p∈a.ws,∀q∈b.ws,q.1≠p.1
 bx:∀p∈a.ws,∀t u,p.2= .box t u->t∉b.bx
 rw:∀p∈a.ws,∀q∈b.rw,q.2<p.1\/q.1∉p.2.og
 tr:a.T.KS=true\/((b.rw=[]\/a.T.afH=true)/\(∀t∈b.tk,t∉a.T.qU)/\(∀t∈b.te,t∉a.T.IX)/\∀p∈b.ws,(∀t∈p.2.RR,t∉a.T.qU)/\∀t∈p.2.Og,t∉a.T.IX)
theorem afy.toF{a b:nh}(h:afy a b):TG a b:=⟨h.rs,h.ra,h.ws,h.bx,fun p u q v=>(h.rw p u q v).imp id And.right,h.tr.imp id (fun⟨y,z⟩=>⟨.inl y,z⟩)⟩
def afI{a b:nh}(h:a.afw b=true):TG a b:=by
 simp only[nh.afw,i_,s_,anZ,an3,R_,d_,b_,ne_eq,aoM]at h;obtain⟨d,k⟩:=h;refine⟨fun p c=>(d p c).1.1.1.1,fun p c=>(d p c).1.1.1.2,fun p c q f=>(d p c).1.1.2 q f,fun p c t u e=> ?_,fun p c q f=> ?_,?_⟩;have:=(d p c).1.2;rw[e]at this;simpa using this;rcases(d p c).2 q f with h|h;exact .inl h;exact .inr h;rcases k with h|⟨⟨⟨h,l⟩,m⟩,j⟩;exact .inl h;exact .inr ⟨h,l,m,j⟩
theorem R1{t:Nat}{e:Ty}{f:M->M}(j:∀m u hs d,f m= .row u hs d->∃hs' c,m= .row u hs' c):∀ {τ:Ty} {x:τ.den} {sh:Sh},xc t e τ x sh=none->xc t e τ x (sh.map f)=none
 | .int _,_,sh,_| .bool,_,sh,_| .str,_,sh,_=>by cases sh<;>rfl
 | .sl e',l,.sl m,h=>by
   simp only[Sh.map];cases q:f m with
   |row u hs d=>
    obtain⟨hs',c,rfl⟩:=j m u hs d q;simp only[xc]at h|-;split;rename_i n;rw[an n]at h;split;rename_i p;rw[dif_pos p]at h;cases h;rfl;rfl
   |sha hs=>rfl
   |nst=>rfl
   |dead=>rfl
 | .sl e',l,.leaf,_| .sl e',l,.pair _ _,_=>by simp[Sh.map,xc]
 | .pair a b,x,.pair s1 s2,h=>by
   simp only[xc,Sh.map]at h|-;cases k:xc t e a x.1 s1 with
   |some r=>rw[k]at h;cases h
   |none=>
    rw[k]at h;simp only[R1 j k];exact R1 j h
 | .pair a b,x,.leaf,_| .pair a b,x,.sl _,_=>by simp[Sh.map,xc]
theorem ahJ(ts:List Nat):∀m u hs c,M.kill ts m= .row u hs c->∃hs' d,m= .row u hs' d:=by
 intro m u hs c h;unfold M.kill at h;split at h;cases h;exact⟨hs,c,h⟩
theorem ag0(ts:List Nat)(t:Nat):∀m u hs d,M.cu ts t m= .row u hs d->∃hs' c,m= .row u hs' c:=by
 intro m u hs d h;unfold M.cu at h;split at h;cases m with
 |row u' hs' c=>
  simp only[M.PV]at h;split at h;cases h;simp only[M.row.injEq]at h;obtain⟨rfl,_,_⟩:=h;exact⟨hs',c,rfl⟩
 |sha hs'=>simp[M.PV]at h
 |nst=>simp[M.PV]at h
 |dead=>simp[M.PV]at h
 exact⟨hs,d,h⟩
def ZK{t:Nat}{e:Ty}{f:M->M}(j:∀m u hs k,f m= .row u hs k->∃hs' c,m= .row u hs' c){l:Nat->Bool}{n:List Nat->Option (List Nat)}{v:SV}(h:rowAt t e v=none):rowAt t e (v.mapM f l n)=none:=by
 cases v with
 |d v=>exact R1 j h
 |box b v=>exact R1 j h
 |ept=>simp only[SV.mapM];split<;>rfl
 |rdp=>simp only[SV.mapM];split<;>rfl
 |_=>rfl
def ahX{T:Tr}(f:T.afH=true){t:Nat}{e:Ty}{v:SV}(h:rowAt t e v=none):rowAt t e (T.sv v)=none:=by
 have c:∀ {d:List Nat} {v:SV},rowAt t e v=none->rowAt t e (oP d v)=none:=by
  intro d v h;unfold oP;split;exact h;exact ZK (ahJ d) h
 cases T with
 |id=>exact h
 |kg ks j u=>
  simp only[Tr.sv,Du];split;exact c h;exact ZK (ag0 j u) (c h)
 |el=>simp[Tr.afH]at f
 |ki d rp=>
  simp only[Tr.sv];split;exact c h;cases v with
  |ept b e' i o p τ=>
   simp only[SV.ib];split;rfl;exact c h
  |_=>exact c h
def free_spec{a b:nh}(h:a.free b=true):afy a b:=by
 simp only[nh.free,i_,s_,anZ,an3,R_,d_,b_,ne_eq,aoM]at h;obtain⟨d,k⟩:=h;refine⟨fun p c=>(d p c).1.1.1.1,fun p c=>(d p c).1.1.1.2,fun p c q f=>(d p c).1.1.2 q f,fun p c t u e=> ?_,fun p c q f=> ?_,?_⟩;have:=(d p c).1.2;rw[e]at this;simpa using this;rcases(d p c).2 q f with h|h;exact .inl h;simp only[Bool.or_eq_false_iff,d_]at h;exact .inr h;rcases k with h|⟨⟨⟨h,l⟩,m⟩,j⟩;exact .inl h;exact .inr ⟨h,l,m,j⟩
section
variable{C:Cx}{ops:List Oper}{nt:Nat}{F F1 F2:Env}{a b:nh}
structure TK(b:nh)(E:Env):Prop where
 tk:∀s∈b.rs,∀t∈(E.get s).RR,t∈b.tk
 te:∀s∈b.rs,∀t∈(E.get s).Og,t∈b.te
 cl:b.cl=true->∀s∈b.rs,(E.get s).clean=true
 ra:∀s∈b.ra,(E.get s).mq=true
 dz:b.dz=true->∀p∈b.ws,HJ (E.get p.1) p.2=true
 nb:∀p∈b.ws,p.1∈b.nb\/sameBox (E.get p.1) p.2=true
def ahU{i:Nat}{o:Oper}{r:Tr×List (Nat×SV)}{E:Env}(h:qm ops i o E r=b):TK b E:=by
 subst h;refine⟨fun s c t e=> ?_,fun s c t e=> ?_,fun h s c=> ?_,fun s c=> ?_,fun h p d=> ?_,fun p d=> ?_⟩;simp only[qm,an5];exact⟨s,c,e⟩;simp only[qm,an5];exact⟨s,c,e⟩;simp only[qm,s_]at h;exact h s c;simp only[qm,aow]at c;exact c.2;simp only[qm,s_]at h;exact h p d;simp only[qm,X',aow]at d|-;cases f:sameBox (E.get p.1) p.2 with
 |true=>exact .inr rfl
 |false=>exact .inl ⟨p,⟨d,by simp[f]⟩,rfl⟩
def Vc(k:TG a b)(m:∀p∈a.ws,HJ (F.get p.1) p.2=true)(t:Nat)(l:t∈b.bx)(j:Nat):ju t ((F.vf (a.T,a.ws)).get j)=ju t (F.get j):=by
 rcases ZC F a.T a.ws j with h|⟨p,f,rfl,h⟩;rw[h,KE];rw[h]
 have n:ju t p.2=false:=by
  cases c:ju t p.2 with
  |false=>rfl
  |true=>
   obtain⟨u,d⟩:=xz c;exact absurd l (k.bx p f t u d)
 rw[n];cases c:ju t (F.get p.1)with
 |false=>rfl
 |true=>
  obtain⟨u,d⟩:=xz c;have:=m p f;rw[d]at this;simp only[HJ]at this;split at this;rename_i t' u' e;simp only[b_]at this;subst this;exact absurd l (k.bx p f _ _ e);cases this
theorem Tr.agi{T:Tr}{t:Nat}{e:Ty}{i:Int}{o:Nat}{p:List Bool}{τ:Ty}(h:t∉T.IX):T.sv (.ept t e i o p τ)= .ept t e i o p τ:=by
 cases T with
 |id=>rfl
 |kg u q x=>exact Tr.stays (T:= .kg u q x) (fun c hc=>by simp only[SV.og,anW]at hc;subst hc;exact h)
 |el q b e' l m=>
  simp only[Tr.IX]at h;simp[Tr.sv,SV.cu,SV.fD,SV.mapM,SV.setRow,h]
 |ki v y=>exact Tr.stays (T:= .ki v y) (fun c hc=>by simp only[SV.og,anW]at hc;subst hc;exact h)
theorem Tr.ag3{T:Tr}{v:SV}(h:∀c∈v.RR,c∉T.qU)(q:∀c∈v.Og,c∉T.IX):T.sv v=v:=by
 cases v with
 |ept t e i o p τ=>exact Tr.agi (q t (by simp[SV.Og]))
 |_=>exact Tr.stays h
def N9{f:M->M}{c:Nat->Bool}{d:List Nat->Option (List Nat)}{v:SV}{t:Nat}{e:Ty}{i:Int}{o:Nat}{p:List Bool}{τ:Ty}(h:v.mapM f c d= .ept t e i o p τ):v= .ept t e i o p τ:=by
 cases v with
 |ept t' e' i' o' p' τ'=>simp only[SV.mapM]at h;split at h;exact h;cases h
 |rdp hs v=>simp only[SV.mapM]at h;split at h<;>cases h
 |_=>simp[SV.mapM]at h
def aft{b:Nat}{c:Ty}{y:List c.den}{m:M}{v:SV}{t:Nat}{e:Ty}{i:Int}{o:Nat}{p:List Bool}{τ:Ty}(h:v.setRow b c y m= .ept t e i o p τ):v= .ept t e i o p τ:=by
 cases v with
 |ept t' c i' o' p' τ'=>exact h
 |rdp hs v=>simp only[SV.setRow]at h;split at h<;>cases h
 |_=>simp[SV.setRow]at h
theorem Tr.ahL{T:Tr}{v:SV}{t:Nat}{e:Ty}{i:Int}{o:Nat}{p:List Bool}{τ:Ty}(q:T.sv v= .ept t e i o p τ)(h:t∉T.IX):v= .ept t e i o p τ:=by
 cases T with
 |id=>exact q
 |kg ks D x=>
  simp only[Tr.sv,oP,Du]at q;split at q;split at q;exact q;exact N9 q;have:=N9 q;split at this;exact this;exact N9 this
 |el D b I l m=>exact N9 (N9 (aft q))
 |ki z rp=>
  have y:(if z.isEmpty=true then v else v.kill z)= .ept t e i o p τ->v= .ept t e i o p τ:=by
   intro u;split at u;exact u;exact N9 u
  simp only[Tr.sv,oP]at q;split at q;exact y q;cases v with
  |ept J I i' o' p' τ'=>
   simp only[SV.ib]at q;split at q;rename_i b' B;cases q;exact absurd (by simp only[Tr.IX,g',X'];exact .inr (.inr ⟨(J,t),vO B,rfl⟩)) h;exact y q
  |_=>exact y q
theorem Tr.akn{T:Tr}(y:T.ok=true){v:SV}(z:(T.sv v).clean=true)(h:∀c∈(T.sv v).RR,c∉T.qU)(u:∀c∈(T.sv v).Og,c∉T.IX):T.sv v=v:=by
 cases q:T.sv v with
 |ept t e i o p τ=>
  rw[q]at u;exact(Tr.ahL q (u t (by simp[SV.Og]))).symm
 |_=>
  rw[<-q];refine Tr.Ec y z ?_;rw[q]at h|-;exact h
def alb(T:Tr){t:Nat}{u c:TV}(h:T.sv (.box t u)= .box t c):c.τ=u.τ:=by
 cases T with
 |id=>cases h;rfl
 |kg ks d x=>
  simp only[Tr.sv,oP,Du,SV.kill,SV.cu]at h;split at h<;>split at h<;>(simp only[SV.mapM,SV.box.injEq,true_and]at h;subst h;rfl)
 |el d b e l m=>simp only[Tr.sv,SV.cu,SV.fD,SV.mapM,SV.setRow,SV.box.injEq,true_and]at h;subst h;rfl
 |ki ts rp=>
  simp only[Tr.sv,oP,SV.ib,SV.kill]at h;split at h<;>split at h<;>(simp only[SV.mapM,SV.box.injEq,true_and]at h;subst h;rfl)
def YM(T:Tr){t:Nat}{u:TV}:∃c,T.sv (.box t u)= .box t c/\c.τ=u.τ:=by
 obtain⟨c,d⟩:=xz (t:=t) (v:=T.sv (.box t u)) (by rw[KE];simp[ju]);exact⟨c,d,alb T d⟩
def N2{v:SV}(h:v.mq=true):∃t u,v= .box t u:=by
 cases v with
 |box t u=>exact⟨t,u,rfl⟩
 |_=>simp[SV.mq]at h
def Yp(T:Tr)(v q:SV):sameBox (T.sv v) q=sameBox v q:=by
 cases c:v.mq with
 |true=>
  obtain⟨t,u,rfl⟩:=N2 c;obtain⟨j,h,k⟩:=YM T (t:=t) (u:=u);rw[h];cases q<;>simp[sameBox,k]
 |false=>
  have d:∀ {x:SV},x.mq=false->sameBox x q=false:=by
   intro x e;cases x with
   |box t u=>simp[SV.mq]at e
   |_=>rfl
  have f:(T.sv v).mq=false:=by
   cases h:(T.sv v).mq with
   |false=>rfl
   |true=>
    obtain⟨t,u,l⟩:=N2 h;have:ju t (T.sv v)=true:=by rw[l];simp[ju]
    rw[KE]at this;obtain⟨j,m⟩:=xz this;rw[m]at c;cases c
  rw[d c,d f]
def ahn(f:TG a b)(B:∀p∈a.ws,HJ (F.get p.1) p.2=true)(l:TK b F)(n:b.dz=true):Wj b F (F.vf (a.T,a.ws)) where
 get s hs:=by
  rw[IB (fun p d e=>f.rs p d (e▸hs))];rcases f.tr with h|⟨_,h,x,_⟩;exact Iz h _;exact Tr.ag3 (fun c hc=>h c (l.tk s hs c hc)) (fun c hc=>x c (l.te s hs c hc))
 ra s hs:=by
  obtain⟨t,u,z⟩:=N2 (l.ra s hs);obtain⟨D,v,x⟩:=YM a.T (t:=t) (u:=u);refine⟨t,u,D,z,?_,x⟩;rw[IB (fun p d e=>f.ra p d (e▸hs)),z,v]
 box t ht j:=Vc f B t ht j
 row p d e j hj hn:=by
  rcases ZC F a.T a.ws j with h|⟨q,k,rfl,h⟩;rw[h];rcases f.tr with y|⟨m|m,_⟩;rw[Iz y];exact hn;rw[m]at d;cases d;exact ahX m hn;rw[h];rcases f.rw q k p d with m|v;omega;exact Wx v
 dz p d:=by
  rw[IB (fun q k e=>f.ws q k p d e.symm)];exact afn (l.dz n p d)
 nb p d:=by rw[IB (fun q k e=>f.ws q k p d e.symm),Yp]
def ahe(n:afy a b)(B:a.T.ok=true)(x:a.T.KS=true\/b.cl=true)(W:∀p∈a.ws,HJ (F.get p.1) p.2=true)(D:TK b (F.vf (a.T,a.ws)))(J:b.dz=true):Wj b (F.vf (a.T,a.ws)) F where
 get s hs:=by
  have l:=IB (E:=F) (T:=a.T) (ws:=a.ws) (j:=s) (fun p k e=>n.rs p k (e▸hs));rcases n.tr with h|⟨_,h,R,_⟩;rw[l,Iz h];rcases x with hi|x;rw[l,Iz hi];have m:=D.cl x s hs;have z:=D.tk s hs;have I:=D.te s hs;rw[l]at m z I|-;exact(Tr.akn B m (fun c hc=>h c (z c hc)) (fun c hc=>R c (I c hc))).symm
 ra s hs:=by
  have l:=IB (E:=F) (T:=a.T) (ws:=a.ws) (j:=s) (fun p k e=>n.ra p k (e▸hs));obtain⟨t,u,m⟩:=N2 (D.ra s hs);have I:ju t (F.get s)=true:=by rw[<-KE a.T,<-l,m];simp[ju]
  obtain⟨Y,N⟩:=xz I;obtain⟨S,z,R⟩:=YM a.T (t:=t) (u:=Y);rw[l,N,z]at m;simp only[SV.box.injEq,true_and]at m;exact⟨t,S,Y,by rw[l,N,z],N,R.symm⟩
 box t ht j:=(Vc n.toF W t ht j).symm
 row p k e j hj hn:=by
  have K:a.T.KS=true:=by
   rcases n.tr with h|⟨h,_⟩;exact h;rw[h]at k;cases k
  rcases ZC F a.T a.ws j with h|⟨q,y,rfl,h⟩;rw[h,Iz K]at hn;exact hn;have f:=W q y;cases X:F.get q.1 with
  |d v=>
   rw[X]at f;rw[TP (.inl rfl),i_]at f;have:(SV.d v).og=[]:=by simpa using f.2
   exact YQ rfl (by rw[this];simp)
  |box t u=>
   rw[X]at f;simp only[HJ]at f;split at f;rename_i t' S e;rcases n.rw q y p k with h'|⟨m,z⟩;omega;rw[e]at m;simp[SV.mq]at m;cases f
  |_=>rfl
 dz p k:=by
  have l:=IB (E:=F) (T:=a.T) (ws:=a.ws) (j:=p.1) (fun q y e=>n.ws q y p k e.symm);have:=D.dz J p k;rw[l]at this;exact ae4 B this
 nb p k:=by rw[IB (fun q y e=>n.ws q y p k e.symm),Yp]
def Pa(C:Cx)(ops:List Oper)(nt:Nat)(E:Env)(b:nh)(E':Env):Prop:=
 ∃o act c,ops[b.i]?=some o/\guardOf ops E.rd o.guard=some act/\D3 C ops E.rd (nt+32*b.i) o.guard o=some c/\
  yS o act c=some (b.T,b.ws)/\qm ops b.i o E (b.T,b.ws)=b/\E'=E.vf (b.T,b.ws)
theorem Pa.af7(h:Pa C ops nt F b F1){p:Env}(y:Wj b F p)(u:b.fd=true)(v:b.dz=true):Pa C ops nt p b (p.vf (b.T,b.ws)):=by
 obtain⟨o,act,B,D,I,J,K,q,h6⟩:=h;have z:=afG (ops:=ops) (i:=b.i) (o:=o) (E:=F) (E':=p) (r:=(b.T,b.ws)) (by rw[q];exact y) (by rw[q];exact u) (by rw[q];exact v);obtain⟨N,R,S⟩:=z;exact⟨o,act,B,D,by rw[R];exact I,by rw[ahM N];exact J,K,by rw[S];exact q,rfl⟩
theorem Pa.Ur(h:Pa C ops nt F b F1):TK b F:=by
 obtain⟨o,act,ef,h1,h2,h3,h4,p,h6⟩:=h;exact ahU p
theorem Pa.vf(h:Pa C ops nt F b F1):F1=F.vf (b.T,b.ws):=by
 obtain⟨o,act,ef,h1,h2,h3,h4,h5,h6⟩:=h;exact h6
theorem Xf{f:SV->SV}:∀ {ws:List (Nat×SV)} {L:List SV},(∀p∈ws,f p.2=p.2)->(pw ws L).map f=pw ws (L.map f)
 | [],_,_=>rfl
 |p::ws,L,h=>by
  show(pw ws (L.set p.1 p.2)).map f=pw ws ((L.map f).set p.1 p.2);rw[Xf (fun q c=>h q (by simp[c])),List.map_set,h p (by simp)]
theorem W8:∀ {ws:List (Nat×SV)} {L:List SV} {s:Nat} {v:SV},(∀p∈ws,p.1≠s)->(pw ws L).set s v=pw ws (L.set s v)
 | [],_,_,_,_=>rfl
 |p::ws,L,s,v,h=>by
  show(pw ws (L.set p.1 p.2)).set s v=pw ws ((L.set s v).set p.1 p.2);rw[W8 (fun q c=>h q (by simp[c])),List.set_comm _ _ (h p (by simp))]
theorem aaC:∀ {ws c:List (Nat×SV)} {L:List SV},(∀p∈ws,∀q∈c,q.1≠p.1)->pw ws (pw c L)=pw c (pw ws L)
 | [],_,_,_=>rfl
 |p::ws,c,L,h=>by
  show pw ws ((pw c L).set p.1 p.2)=pw c (pw ws (L.set p.1 p.2));rw[W8 (h p (by simp)),aaC (fun q d=>h q (by simp[d]))]
def aiE(f:TG a b)(l:TG b a)(m:a.T.KS=true\/b.T.KS=true):(F.vf (a.T,a.ws)).vf (b.T,b.ws)=(F.vf (b.T,b.ws)).vf (a.T,a.ws):=by
 have j:∀ {c d:nh},TG c d->∀p∈d.ws,c.T.sv p.2=p.2:=by
  intro c d h p k;rcases h.tr with h|⟨_,_,_,h⟩;exact Iz h _;exact Tr.ag3 (h p k).1 (h p k).2
 refine Env.ext' ?_ rfl;show pw b.ws ((pw a.ws (F.s.map a.T.sv)).map b.T.sv)=pw a.ws ((pw b.ws (F.s.map b.T.sv)).map a.T.sv);rw[Xf (j l),Xf (j f),aaC (fun p k q n e=>f.ws q n p k e.symm)];congr 2;rw[aoz,aoz];refine aog (fun v _=> ?_);simp only[aoX];rcases m with h|h;rw[Iz h,Iz h];rw[Iz h,Iz h]
theorem Pa.swap(D:Pa C ops nt F a F1)(I:Pa C ops nt F1 b F2)(hi:a.ind b=true):∃v,Pa C ops nt F b v/\Pa C ops nt v a F2:=by
 simp only[nh.ind,i_,anZ]at hi;obtain⟨⟨⟨⟨⟨⟨⟨⟨⟨⟨q,u⟩,R⟩,y⟩,hbok⟩,S⟩,z⟩,B⟩,h⟩,p⟩,_⟩:=hi;have q:=free_spec q;have u:=afI u;have W:=D.Ur;have X:=I.Ur;have J:=D.vf;have e2:=I.vf;rw[J]at X;have K:=W.dz h;have Y:=ahe q y S K X p;rw[<-J]at Y;have g1:=I.af7 Y B p;have N:=g1.Ur;have ka:=ahn u (N.dz p) W h;have g2:=D.af7 ka z h;refine⟨_,g1,?_⟩;rw[e2,J,aiE q.toF u R];exact g2
/-copies-/
theorem PW{f:M->M}{c:Nat->Bool}{e:List Nat->Option (List Nat)}:∀(v:SV),fJ (v.mapM f c e)=(fJ v).mapM f c e
 | .no| .d _| .box _ _| .ptr ..| .tup _=>rfl
 | .ept ..=>by simp only[SV.mapM,fJ];split<;>rfl
 | .rdp hs v=>by simp only[SV.mapM,fJ];split<;>rfl
 | .g j w a v=>by simp only[SV.mapM,fJ,PW v]
theorem Vj{b:Nat}{e:Ty}{y:List e.den}{m:M}:∀(v:SV),fJ (v.setRow b e y m)=(fJ v).setRow b e y m
 | .no| .d _| .box _ _| .ptr ..| .tup _| .ept ..=>rfl
 | .rdp hs v=>by simp only[SV.setRow,fJ];split<;>rfl
 | .g j w a v=>by simp only[SV.setRow,fJ,Vj v]
def aiu(T:Tr)(v:SV):fJ (T.sv v)=T.sv (fJ v):=by
 cases T with
 |id=>rfl
 |kg ks f u=>
  simp only[Tr.sv,oP,Du];split<;>split<;>simp only[SV.cu,SV.kill,PW]
 |el f b e l m=>simp only[Tr.sv,SV.fD,SV.cu,PW,Vj]
 |ki c rp=>
  have d:∀v:SV,fJ (if c.isEmpty=true then v else v.kill c)=if c.isEmpty=true then fJ v else(fJ v).kill c:=by
   intro v;split;rfl;simp only[SV.kill,PW]
  simp only[Tr.sv,oP];split;exact d v;cases v with
  |ept b e i o p τ=>
   simp only[SV.ib,fJ];split;rfl;exact d _
  |_=>exact d _
def akG(T:Tr)(j:Nat)(w a:Bool)(v:SV):∃c,T.sv (.g j w a v)= .g j w a c:=by
 cases T with
 |id=>exact⟨v,rfl⟩
 |kg ks d u=>simp only[Tr.sv,oP,Du];split<;>split<;>simp[SV.cu,SV.kill,SV.mapM]
 |el d b e l m=>simp[Tr.sv,SV.fD,SV.cu,SV.mapM,SV.setRow]
 |ki ts rp=>simp only[Tr.sv,oP];split<;>(try simp only[SV.ib])<;>split<;>simp[SV.kill,SV.mapM]
def SV.YV:SV->Bool
 | .g _ _ _ _=>true
 |_=>false
def ago(v:SV):v.YV=(v.kd==7):=by cases v<;>rfl
def akL(T:Tr)(v:SV):(T.sv v).YV=v.YV:=by
 rw[ago,ago];rcases Zv T v with h|⟨h,e⟩;rw[h];rw[e];rcases h with h|h<;>rw[h]<;>rfl
def agr(T:Tr)(l:List TV):∃f:TV->TV,T.sv (.tup l)= .tup (l.map f)/\∀x,T.sv (.d x)= .d (f x):=by
 cases T with
 |id=>exact⟨fun x=>x,by simp[Tr.sv],fun _=>rfl⟩
 |kg ks c u=>
  simp only[Tr.sv,oP,Du];split<;>split;exact⟨fun x=>x,by simp,fun _=>rfl⟩;exact⟨_,rfl,fun _=>rfl⟩;exact⟨_,rfl,fun _=>rfl⟩;refine⟨_,by simp only[SV.cu,SV.kill,SV.mapM,aoz];rfl,fun _=>rfl⟩
 |el c b e l' m=>
  refine⟨_,by simp only[Tr.sv,SV.fD,SV.cu,SV.mapM,SV.setRow,aoz];rfl,fun _=>rfl⟩
 |ki ts rp=>
  simp only[Tr.sv,oP];split<;>(try simp only[SV.ib])<;>split;exact⟨fun x=>x,by simp,fun _=>rfl⟩;exact⟨_,rfl,fun _=>rfl⟩;exact⟨fun x=>x,by simp,fun _=>rfl⟩;exact⟨_,rfl,fun _=>rfl⟩
def aka(T:Tr)(v:SV):(T.sv v).kd=6↔v.kd=6:=by
 rcases Zv T v with h|⟨h,e⟩;rw[h];rw[e];rcases h with h|h<;>rw[h]<;>decide
def akP{j:Nat}{v:SV}(h:v.kd≠6):OM (some j) v=none:=by
 cases v with
 |tup l=>exact absurd rfl h
 |_=>rfl
def akI(T:Tr)(j:Option Nat)(v:SV):OM j (T.sv v)=(OM j v).map T.sv:=by
 cases j with
 |none=>
  have e:=akL T v;cases d:v.YV with
  |true=>
   cases v with
   |g j w a v=>obtain⟨v',h⟩:=akG T j w a v;rw[h];rfl
   |_=>simp[SV.YV]at d
  |false=>
   rw[d]at e
   have c:∀ {u:SV},u.YV=false->OM none u=some (fJ u):=by
    intro u k;cases u with
    |g=>simp[SV.YV]at k
    |_=>rfl
   rw[c e,c d,aiu];rfl
 |some j=>
  cases v with
  |tup l=>
   obtain⟨f,c,m⟩:=agr T l;rw[c];simp only[OM,ao1];cases l[j]? with
   |none=>rfl
   |some x=>simp[m]
  |_=>
   rw[akP (by rw[Ne,aka];simp[SV.kd])];rfl
def aey:∀(v:SV),(fJ v).mq=false
 | .no| .d _| .box _ _| .ptr ..| .tup _| .ept ..| .rdp ..| .g ..=>rfl
def Uz{j:Option Nat}{v x:SV}(h:OM j v=some x):x.mq=false/\x.zZ=x:=by
 cases j with
 |none=>
  cases v with
  |g=>simp[OM]at h
  |_=>simp only[OM,anJ]at h;subst h;exact⟨aey _,rfl⟩
 |some j=>
  cases v with
  |tup l=>simp only[OM,aoi]at h;obtain⟨y,_,rfl⟩:=h;exact⟨rfl,rfl⟩
  |_=>simp[OM]at h
theorem T9{t:Nat}{e:Ty}:∀ {τ:Ty} {x:τ.den} {sh:Sh},τ.flat=true->xc t e τ x sh=none
 | .int _,_,sh,_| .bool,_,sh,_| .str,_,sh,_=>by cases sh<;>rfl
 | .sl _,_,_,h=>by simp[Ty.flat]at h
 | .pair a b,x,.pair s1 s2,h=>by
   simp only[Ty.flat,i_]at h;simp only[xc,T9 h.1,T9 h.2]
 | .pair a b,x,.leaf,_| .pair a b,x,.sl _,_=>by simp[xc]
def agj{t:Nat}{e:Ty}{x:SV}(h:WK x=true):rowAt t e x=none:=by
 cases x with
 |d v=>exact T9 h
 |_=>first|rfl|simp[WK]at h
def al6(T:Tr)(v:TV):∃u:TV,T.sv (.d v)= .d u/\u.τ=v.τ:=by
 cases T with
 |id=>exact⟨v,rfl,rfl⟩
 |kg ks c u=>simp only[Tr.sv,oP,Du];split<;>split<;>exact⟨_,rfl,rfl⟩
 |el c b e l m=>exact⟨_,rfl,rfl⟩
 |ki ts rp=>simp only[Tr.sv,oP];split<;>(try simp only[SV.ib])<;>split<;>exact⟨_,rfl,rfl⟩
def akX(v:SV)(h:v.kd=0\/v.kd=3\/v.kd=4\/v.kd=5):WK v=true:=by
 cases v<;>simp_all[SV.kd,WK]
def ahk(T:Tr)(x:SV):WK (T.sv x)=WK x:=by
 cases x with
 |d v=>obtain⟨u,c,e⟩:=al6 T v;rw[c];simp only[WK,e]
 |g j w a v=>obtain⟨v',h⟩:=akG T j w a v;rw[h];rfl
 |tup l=>obtain⟨f,h,_⟩:=agr T l;rw[h];rfl
 |box t u=>obtain⟨u',h,_⟩:=YM T (t:=t) (u:=u);rw[h];rfl
 |_=>
  rw[akX (T.sv _) (by
   rcases Zv T _ with h|⟨_,h⟩;rw[h];simp[SV.kd];rw[h];simp[SV.kd])]
  rfl
def UB(ops:List Oper)(E:Env)(b:nh)(c:Nat×Nat×Option Nat×Bool)(E':Env):Prop:=
 ∃o x,ops[b.i]?=some o/\acD o=some (c.1,c.2.1,c.2.2.1)/\OM c.2.2.1 (E.get c.2.1)=some x/\c.2.2.2=WK x/\(b.dz=true->HJ (E.get c.1) .no=true)/\E'=E.set (some c.1) x
def LZ(C:Cx)(ops:List Oper)(nt:Nat)(E:Env)(b:nh)(E':Env):Prop:=
 match b.cp with
 |none=>Pa C ops nt E b E'
 |some c=>UB ops E b c E'
def BP(E:Env)(d s:Nat)(x:SV)(h:s≠d):(E.set (some d) x).get s=E.get s:=by
 show(E.s.set d x).getD s .no=E.s.getD s .no;rw[mY,a_ (fun e=>h e.1)]
def PR(E:Env)(d s:Nat)(x:SV):(E.set (some d) x).get s=E.get s\/(s=d/\(E.set (some d) x).get s=x):=by
 show(E.s.set d x).getD s .no=E.s.getD s .no\/_;rw[mY];by_cases h:s=d/\d<E.s.length;right;refine⟨h.1,?_⟩;show(E.s.set d x).getD s .no=x;rw[mY,an h];left;rw[a_ h]
def aa4{v:SV}(h:HJ v .no=true):v.mq=false:=by
 cases v with
 |box t u=>simp[HJ]at h
 |_=>rfl
def agu{t:Nat}{e:Ty}{v:SV}(h:HJ v .no=true):rowAt t e v=none:=by
 cases v with
 |d v=>
  rw[TP (.inl rfl),i_]at h;have:(SV.d v).og=[]:=by simpa using h.2
  exact YQ rfl (by rw[this];simp)
 |box t u=>simp[HJ]at h
 |_=>rfl
def ahl{d s:Nat}{e z:Bool}{x:SV}(hi:nh.St d s e z b=true)(I:TK b F)(N:x.mq=false)(R:e=true->WK x=true)(m:HJ (F.get d) .no=true):Wj b F (F.set (some d) x):=by
 simp only[nh.St,i_,an3,R_,d_,s_,anZ,b_,ne_eq,decide_not]at hi;obtain⟨⟨⟨⟨⟨⟨⟨⟨hz,n⟩,q⟩,k⟩,hnb⟩,y⟩,hfd⟩,B⟩,hok⟩:=hi;have S:=aa4 m;refine⟨fun s l=>BP _ _ _ _ (fun e=>n (e▸l)),fun s l=> ?_,fun t ht j=> ?_,fun p c e' j hj K=> ?_,fun p c=> ?_,fun p c=> ?_⟩;obtain⟨t,u,f⟩:=N2 (I.ra s l);exact⟨t,u,u,f,by rw[BP _ _ _ _ (fun e:s=d=>q (e▸l)),f],rfl⟩;rcases PR F d j x with h|⟨rfl,h⟩;rw[h];rw[h]
 have f:∀ {v:SV},v.mq=false->ju t v=false:=by
  intro v D;cases W:ju t v with
  |false=>rfl
  |true=>obtain⟨u,X⟩:=xz W;rw[X]at D;cases D
 rw[f N,f S];rcases PR F d j x with h|⟨rfl,h⟩;rw[h];exact K;rw[h];rcases y p c with J|J;exact agj (R J);omega;rw[BP _ _ _ _ (by simpa using k p c)];exact I.dz B p c;rw[BP _ _ _ _ (by simpa using k p c)]
def aec{d s:Nat}{e z:Bool}{x:SV}(hi:nh.St d s e z b=true)(I:TK b (F.set (some d) x))(N:x.mq=false)(f:HJ (F.get d) .no=true):Wj b (F.set (some d) x) F:=by
 simp only[nh.St,i_,an3,R_,d_,s_,anZ,b_,ne_eq,decide_not]at hi;obtain⟨⟨⟨⟨⟨⟨⟨⟨hz,n⟩,q⟩,l⟩,hnb⟩,y⟩,hfd⟩,B⟩,hok⟩:=hi;have R:=aa4 f;refine⟨fun s m=>(BP _ _ _ _ (fun e:s=d=>n (e▸m))).symm,fun s m=> ?_,fun t ht j=> ?_,fun p c e' j hj K=> ?_,fun p c=> ?_,fun p c=> ?_⟩;obtain⟨t,u,k⟩:=N2 (I.ra s m);exact⟨t,u,u,k,by rw[<-k,BP _ _ _ _ (fun e:s=d=>q (e▸m))],rfl⟩;rcases PR F d j x with h|⟨rfl,h⟩;rw[h];rw[h]
 have k:∀ {v:SV},v.mq=false->ju t v=false:=by
  intro v D;cases S:ju t v with
  |false=>rfl
  |true=>obtain⟨u,W⟩:=xz S;rw[W]at D;cases D
 rw[k N,k R];rcases PR F d j x with h|⟨rfl,h⟩;rw[<-h];exact K;rcases y p c with X|X;exact agu f;omega;have J:=I.dz B p c;rw[BP _ _ _ _ (by simpa using l p c)]at J;exact J;rw[BP _ _ _ _ (by simpa using l p c)]
theorem nh.ae7{d s:Nat}{e z:Bool}(hi:nh.St d s e z b=true):z=true/\(∀q∈b.ws,q.1≠d)/\s∉b.nb/\b.fd=true/\b.dz=true/\b.T.ok=true:=by
 simp only[nh.St,i_,an3,R_,d_,s_,anZ,b_,ne_eq,decide_not]at hi;obtain⟨⟨⟨⟨⟨⟨⟨⟨D,hrs⟩,hra⟩,h⟩,p⟩,hrw⟩,u⟩,v⟩,y⟩:=hi;exact⟨D,fun q B=>by simpa using h q B,p,u,v,y⟩
def ak1(T:Tr){t o:Nat}{p:List Bool}{τ:Ty}:T.sv (.ptr t o p τ)= .ptr t o p τ:=by
 cases T with
 |id=>rfl
 |kg ks c u=>simp only[Tr.sv,oP,Du];split<;>split<;>rfl
 |el c b e l m=>rfl
 |ki ts rp=>simp only[Tr.sv,oP];split<;>(try simp only[SV.ib])<;>split<;>rfl
def ahD{s:Nat}{j:Option Nat}(f:TK b F)(hs:s∉b.nb):OM j ((F.vf (b.T,b.ws)).get s)=(OM j (F.get s)).map b.T.sv:=by
 rcases ZC F b.T b.ws s with h|⟨p,k,rfl,h⟩;rw[h,akI];rw[h];rcases f.nb p k with c|c;exact absurd c hs;cases d:F.get p.1 with
 |box t u=>
  rw[d]at c;cases e:p.2 with
  |box t' u'=>
   rw[e]at c;simp only[sameBox,i_,b_]at c;obtain⟨rfl,c⟩:=c;cases j with
   |none=>simp only[OM,fJ,Option.map_some,ak1,c]
   |some j=>rfl
  |_=>rw[e]at c;simp[sameBox]at c
 |_=>rw[d]at c;simp[sameBox]at c
def afa{d:Nat}{x:SV}{T:Tr}{ws:List (Nat×SV)}(h:∀q∈ws,q.1≠d):(F.set (some d) x).vf (T,ws)=(F.vf (T,ws)).set (some d) (T.sv x):=by
 refine Env.ext' ?_ rfl;show pw ws ((F.s.set d x).map T.sv)=(pw ws (F.s.map T.sv)).set d (T.sv x);rw[List.map_set,W8 h]
theorem UB.swap{c:Nat×Nat×Option Nat×Bool}(J:UB ops F a c F1)(v:Pa C ops nt F1 b F2)(hi:nh.St c.1 c.2.1 c.2.2.2 a.dz b=true):∃h,Pa C ops nt F b h/\UB ops h a c F2:=by
 obtain⟨o,x,q1,q2,q3,q4,q5,rfl⟩:=J;obtain⟨I,q,y,z,B,hok⟩:=nh.ae7 hi;have K:=Uz q3;have N:=aec hi v.Ur K.1 (q5 I);have D:=v.af7 N z B;refine⟨_,D,o,b.T.sv x,q1,q2,?_,by rw[ahk];exact q4,fun _=> ?_,?_⟩
 ·rw[ahD D.Ur y,q3];rfl
 ·rw[IB (fun p u=>q p u)];exact afn (q5 I)
 ·rw[v.vf];exact afa (fun p u=>q p u)
theorem UB.swap'{c:Nat×Nat×Option Nat×Bool}(q:Pa C ops nt F b F1)(J:UB ops F1 a c F2)(hi:nh.St c.1 c.2.1 c.2.2.2 a.dz b=true):∃h,UB ops F a c h/\Pa C ops nt h b F2:=by
 obtain⟨o,x,q1,q2,q3,q4,q5,rfl⟩:=J;obtain⟨R,v,z,B,D,I⟩:=nh.ae7 hi;rw[q.vf]at q3 q5;rw[ahD q.Ur z,aoi]at q3;obtain⟨S,q3,rfl⟩:=q3;have u:=q5 R;rw[IB (fun p y=>v p y)]at u;have u:=ae4 I u;rw[ahk]at q4;have K:=Uz q3;have N:=ahl hi q.Ur K.1 (fun e=>by rw[<-q4];exact e) u;refine⟨_,⟨o,S,q1,q2,q3,q4,fun _=>u,rfl⟩,?_⟩;have g:=q.af7 N B D;rw[afa (fun p y=>v p y)]at g;rw[q.vf];exact g
theorem LZ.swap(p:LZ C ops nt F a F1)(h:LZ C ops nt F1 b F2)(hi:a.aar b=true):∃q,LZ C ops nt F b q/\LZ C ops nt q a F2:=by
 unfold LZ at p h|-;unfold nh.aar at hi;cases z:a.cp with
 |none=>
  rw[z]at p hi;cases u:b.cp with
  |none=>rw[u]at h hi;exact p.swap h hi
  |some c=>rw[u]at h hi;exact UB.swap' p h hi
 |some c=>
  rw[z]at p hi;cases u:b.cp with
  |none=>rw[u]at h hi;exact UB.swap p h hi
  |some I=>
   rw[u]at h hi;obtain⟨o,x,q1,q2,q3,q4,q5,rfl⟩:=p;obtain⟨J,v,K,N,B,R,D,rfl⟩:=h;simp only[ne_eq,decide_not,i_,an3,d_]at hi;obtain⟨⟨y,S⟩,W⟩:=hi;rw[BP _ _ _ _ W]at B;rw[BP _ _ _ _ (Ne.symm y)]at D;refine⟨_,⟨J,v,K,N,B,R,D,rfl⟩,o,x,q1,q2,by rw[BP _ _ _ _ S];exact q3,q4,by rw[BP _ _ _ _ y];exact q5,?_⟩;refine Env.ext' ?_ rfl;show((F.s.set c.1 x).set I.1 v)=((F.s.set I.1 v).set c.1 x)
   exact List.set_comm _ _ y
theorem LZ.len(h:LZ C ops nt F b F1):F1.s.length=F.s.length:=by
 unfold LZ at h;split at h;rw[h.vf];simp[Env.vf,ab1];obtain⟨o,x,_,_,_,_,_,rfl⟩:=h;simp[Env.set]
def Vp{o:Oper}{d s:Nat}{j:Option Nat}(h:acD o=some (d,s,j)):o.guard=none/\o.dst=some d/\((j=none/\(o.op= .move (.tmp s)\/o.op= .assign (.tmp s)))\/∃i,j=some i/\o.op= .extract (.tmp s) i):=by
 unfold acD at h;split at h;rename_i e f;split at h;rename_i c;cases h;exact⟨e,f,.inl ⟨rfl,.inl c⟩⟩;rename_i c;cases h;exact⟨e,f,.inl ⟨rfl,.inr c⟩⟩;rename_i c;cases h;exact⟨e,f,.inr ⟨_,rfl,c⟩⟩;cases h;cases h
def aeX{o:Oper}{d s:Nat}{j:Option Nat}(h:acD o=some (d,s,j)){E:Env}{tk:Nat}:D3 C ops E.rd tk none o=(OM j (E.get s)).map .val:=by
 obtain⟨_,_,c⟩:=Vp h;clear h
 have e:∀t,arg C E.rd none t (.tmp s)=(fJ (E.get s) |> fun v=>if v.YV=true then none else some v):=by
  intro t;simp only[arg,sO,Env.rd,Option.bind_some];cases E.get s<;>rfl
 have f:Ly C ops E.rd tk o=none:=by
  unfold Ly;rcases c with⟨_,c|c⟩|⟨i,_,c⟩<;>rw[c]
 simp only[D3,f];unfold dY;rcases c with⟨rfl,c|c⟩|⟨i,rfl,c⟩;rw[c];simp only[e];cases E.get s<;>rfl;rw[c];simp only[e];cases E.get s<;>rfl;rw[c];simp only[e];cases E.get s with
 |tup l=>simp only[fJ,SV.YV,OM,aop,if_false,Option.map_map];rfl
 |_=>rfl
theorem LZ.run(h:LZ C ops nt F b F1):∃o act p,ops[b.i]?=some o/\guardOf ops F.rd o.guard=some act/\D3 C ops F.rd (nt+32*b.i) o.guard o=some p/\dT o act F some p=some F1:=by
 unfold LZ at h;split at h;obtain⟨o,act,p,u,v,y,z,h5,h6⟩:=h;refine⟨o,act,p,u,v,y,?_⟩;rw[aea,z,h6];rfl;obtain⟨o,x,q1,q2,q3,q4,q5,rfl⟩:=h;obtain⟨q,B,_⟩:=Vp q2;refine⟨o,none,.val x,q1,by rw[q];rfl,by rw[q,aeX q2,q3];rfl,?_⟩;simp only[dT,q,B,nE,(Uz q3).2]
end
def QH(o:Oper):List Nat:=(o.after.toList.filter (Region.binds .any)).map (·.on)
theorem ahf(acc:List Nat):∀(d:List Nat) (m x:Nat),(d.foldl (fun m j=>m ||| (2^j ||| acc.getD j 0)) m).testBit x=true->m.testBit x=true\/x∈d\/∃j∈d,(acc.getD j 0).testBit x=true
 | [],m,x,h=> .inl h
 |j::d,m,x,h=>by
  rcases ahf acc d _ x h with h|h|⟨k,c,h⟩;rw[Nat.testBit_or,Nat.testBit_or,Nat.testBit_two_pow]at h;simp only[anZ,b_]at h;rcases h with h|h|h;exact .inl h;exact .inr (.inl (by rw[h];exact aoZ));exact .inr (.inr ⟨j,aoZ,h⟩);exact .inr (.inl (anT _ h));exact .inr (.inr ⟨k,anT _ c,h⟩)
theorem afm:∀(l:List Oper) (acc:List Nat),∃R,l.foldl (fun acc o=>
 acc++[((o.after.toList.filter (Region.binds .any)).map (·.on)).foldl (fun m j=>m ||| (2^j ||| acc.getD j 0)) 0]) acc=R/\R.take acc.length=acc/\
 ∀m o,l[m]?=some o->R.getD (acc.length+m) 0=(QH o).foldl (fun q j=>q ||| (2^j ||| (R.take (acc.length+m)).getD j 0)) 0
 | [],acc=>⟨acc,rfl,by simp,by simp⟩
 |o::l,acc=>by
  obtain⟨R,k,e,n⟩:=afm l (acc++[(QH o).foldl (fun m j=>m ||| (2^j ||| acc.getD j 0)) 0])
  have c:R.take acc.length=acc:=by
   have:=congrArg (List.take acc.length) e;simpa[aoT]using this
  refine⟨R,k,c,fun m f d=> ?_⟩;cases m with
  |zero=>
   simp only[aoN,anJ]at d;subst d;simp only[Nat.add_zero];rw[c]
   have h:R.getD acc.length 0=(R.take (acc.length+1)).getD acc.length 0:=by
    simp[anM,aoq]
   rw[h];simp only[aoF,aos]at e;rw[e];simp[anM]
  |succ m=>
   simp only[aoh]at d;have:=n m f d;simp only[aoF,aos]at this;rw[show acc.length+(m+1)=acc.length+1+m by omega];exact this
def aji{ops:List Oper}{i j:Nat}(h:((Xi ops).getD i 0).testBit j=true){o:Oper}(e:ops[i]?=some o):j∈QH o\/∃k∈QH o,k<i/\((Xi ops).getD k 0).testBit j=true:=by
 obtain⟨R,f,_,l⟩:=afm ops [];have d:Xi ops=R:=f;have:=l i o e;simp only[List.length_nil,Nat.zero_add]at this;rw[d,this]at h;rcases ahf _ _ _ _ h with h|h|⟨k,m,h⟩;simp at h;exact .inl h;refine .inr ⟨k,m,?_⟩;rw[anM,aoq]at h;split at h;rename_i c;rw[d,anM];exact⟨c,h⟩;simp at h
section
variable{C:Cx}{ops:List Oper}{nt:Nat}
def MI(C:Cx)(ops:List Oper)(nt:Nat):List nh->Env->Env->Prop
 | [],E,E'=>E=E'
 |b::l,E,E'=>∃F,LZ C ops nt E b F/\MI C ops nt l F E'
def agR{ρ:Type}(o:Oper)(a:Option Bool)(d:Ef)(k:Tr×List (Nat×SV)->Option ρ):LV o a d k=(yS o a d).bind k:=by
 cases d with
 |val v=>rfl
 |chk c v=>simp only[LV,yS];split<;>split<;>rfl
 |opt α z x f=>simp only[LV,yS,ao2];rfl
 |put b s v=>simp only[LV,yS];split<;>rfl
 |app c kl h t v=>simp only[LV,yS];split<;>(try split)<;>rfl
 |elem h b e l m=>simp only[LV,yS];split<;>rfl
 |nap c h b e l m v=>simp only[LV,yS];split<;>(try split)<;>rfl
 |call α x tks f rp=>simp only[LV,yS];split
                     simp only[ao2];rfl;rfl
def aiy{i:Nat}{o:Oper}{E:Env}{r:Tr×List (Nat×SV)}:(QL ops i o E r).i=i:=by
 unfold QL;split<;>rfl
def ajF{i:Nat}{o:Oper}{E:Env}{T:Tr}{ws:List (Nat×SV)}{a:Option Bool}{f:Ef}(m:ops[i]?=some o)(e:guardOf ops E.rd o.guard=some a)(c:D3 C ops E.rd (nt+32*i) o.guard o=some f)
 (k:yS o a f=some (T,ws)):LZ C ops nt E (QL ops i o E (T,ws)) (E.vf (T,ws)):=by
 unfold QL;split;rename_i d s j hc;obtain⟨n,p,_⟩:=Vp hc;rw[n]at e c;rw[aeX hc,aoi]at c;obtain⟨x,l,rfl⟩:=c;simp only[guardOf,anJ]at e;subst e;simp only[yS,n,p,nE,wr,(Uz l).2,anJ,anX]at k;obtain⟨rfl,rfl⟩:=k;refine⟨o,x,m,hc,l,by rw[l],fun h=>h,?_⟩;refine Env.ext' ?_ rfl;show pw [(d,x)] (E.s.map fun v=>v)=E.s.set d x;simp[pw];exact⟨o,a,f,m,e,c,k,rfl,rfl⟩
theorem VW{ρ:Type}{k:Env->List nh->Option ρ}{r:ρ}:∀ {l:List Oper} {i:Nat} {E:Env} {L:List nh},ops.drop i=l->SJ C ops nt l i E L k=some r->
 ∃bs E',MI C ops nt bs E E'/\bs.map (·.i)=aoS i l.length/\k E' (bs.reverse++L)=some r
 | [],i,E,L,_,h=>⟨[],E,rfl,rfl,h⟩
 |o::l,i,E,L,hd,h=>by
  have e:ops[i]?=some o:=by
   have:=congrArg aoJ hd;simpa[aon]using this
  simp only[SJ]at h;split at h;cases h;rename_i a d;split at h;cases h;rename_i ef c;rw[agR,anR]at h;obtain⟨⟨T,ws⟩,f,h⟩:=h;obtain⟨bs,E',j,m,n⟩:=VW (l:=l) (i:=i+1) (by rw[<-an0,hd];rfl) h;refine⟨QL ops i o E (T,ws)::bs,E',⟨_,ajF e d c f,j⟩,?_,?_⟩;simp only[aoW,m,aod,aok,aiy];simpa using n
theorem MI.front:∀ {pre:List nh} {b:nh} {post:List nh} {E E':Env},MI C ops nt (pre++b::post) E E'->(∀a∈pre,a.aar b=true)->∃F,LZ C ops nt E b F/\MI C ops nt (pre++post) F E'
 | [],b,post,E,E',h,_=>h
 |a::pre,b,post,E,E',h,hi=>by
  obtain⟨F,p,q⟩:=h;obtain⟨F2,u,v⟩:=MI.front q (fun c hc=>hi c (by simp[hc]));obtain⟨F1,y,h6⟩:=p.swap u (hi a (by simp));exact⟨F1,y,F2,h6,v⟩
end
section
variable{P:Program}{C:Cx}{w0:World}{c0:C0}{E:Env}{a:Act}{w:World}{G:Gh}{ops:List Oper}{Q:Exit->Act->World->Prop}
def DA{io:List Nat}(f:keeps io ops=true){o:Oper}(h:o∈ops){v:Value}{i:Nat}(hi:i∈io):(a.put o.dst v).tmps.getD i undef=a.tmps.getD i undef:=by
 simp only[keeps,s_]at f;have:=f o h;cases j:o.dst with
 |none=>rfl
 |some d=>
  rw[j]at this;simp only[an3,R_,d_]at this;have c:d≠i:=fun e=>this (e▸hi);simp[Act.put,an6,aov c]
def XU{o:Oper}{j:Nat}:j∈QH o↔∃e∈o.after,Region.binds .any e=true/\e.on=j:=by
 unfold QH;simp only[X',aow,Array.mem_toList_iff];constructor;rintro⟨e,⟨c,d⟩,f⟩;exact⟨e,c,d,f⟩;rintro⟨e,c,d,f⟩;exact⟨e,⟨c,d⟩,f⟩
def aeI{c:Array Bool}(l:∀i o,ops[i]?=some o->c.getD i true=true->∀j∈QH o,c.getD j false=true)
 (m:c.size=ops.length):∀(i:Nat) {o:Oper},ops[i]?=some o->(∀j∈QH o,c.getD j false=true)->∀j,((Xi ops).getD i 0).testBit j=true->c.getD j false=true:=by
 intro i
 induction i using Nat.strongRecOn with
 |_ i u=>
  intro o s q j t;rcases aji t s with h|⟨k,v,p,h⟩;exact q j h;have d:=q k v
  have n:k<ops.length:=by
   rcases aoK k ops.length with h|h;exact h;rw[<-m]at h;simp[aol,ao9.2 h]at d
  have e:ops[k]?=some ops[k]:=anP n
  have f:c.getD k true=true:=by
   have:k<c.size:=by omega
   simp[aol,this]at d|-;exact d
  exact u k p e (l k _ e f) j h
def aen{c:List nh}(h:OH ops c=true):
 (∀i o,ops[i]?=some o->∀j w',o.guard=some (j,w')->((Xi ops).getD i 0).testBit j=true)/\(∀i o,ops[i]?=some o->∀j∈QH o,j<i)/\
 ∀a∈c,∀b∈c,a.i<b.i->((Xi ops).getD b.i 0).testBit a.i=true\/a.aar b=true:=by
 simp only[OH,i_,s_]at h;obtain⟨k,p⟩:=h;refine⟨fun i o d j w' l=> ?_,fun i o d j m=> ?_,fun a n b f hlt=> ?_⟩;have:=(k (o,i) (aoD.2 d)).1;simp only[l]at this;simpa using this;have:=(k (o,i) (aoD.2 d)).2;obtain⟨e,q,f,rfl⟩:=XU.1 m;have:=this e (by simpa using q);simpa[f]using this;have:=p b f a n;simp only[anZ,b_,R_]at this;rcases this with(h|h)|h;omega;exact .inl h;exact .inr h
def ajq(nt:Nat)(c:Array Bool)(u:Nat):Prop:=u<nt\/∃j,c.getD j false=true/\nt+32*j<=u/\u<nt+32*j+32
def aiD(hC:JR P C){io:List Nat}(R0:keeps io ops=true)(a1:xo ops=true){nt:Nat}(h3:4<=nt){J:List nh}(hl:OH ops J=true){E':Env}{T:Nat->Value}
 (hQ:∀X w' G',Inv w0 c0 (fun u=>u<nt+32*ops.length) E' X w' G'->Gq ops (fun j=>j<ops.length) E' X.tmps->(∀i∈io,X.tmps.getD i undef=T i)->Q .normal X w'):
 ∀(fuel:Nat) {bs:List nh} {d:Array Bool} {E:Env} {a:Act} {w:World} {G:Gh},bs.length<=fuel->MI C ops nt bs E E'->(∀b∈bs,b∈J)->bs.Pairwise (fun a b=>a.i<b.i)->
 d.size=ops.length->(∀i,i<ops.length->(d.getD i true=false↔i∈bs.map (·.i)))->(∀i o,ops[i]?=some o->d.getD i true=true->∀j∈QH o,d.getD j false=true)->
 Inv w0 c0 (ajq nt d) E a w G->Gq ops (fun j=>d.getD j false=true) E a.tmps->(∀i∈io,a.tmps.getD i undef=T i)->
 wpAny P .any ops.toArray Q fuel d a w:=by
 obtain⟨j1,k1,l1⟩:=aen hl
 have gd:∀ {d:Array Bool} {i:Nat},d.size=ops.length->i<ops.length->d.getD i true=d.getD i false:=by
  intro d i hs hi;have:i<d.size:=by omega
  simp[aol,this]
 have nil:∀ {d:Array Bool} {E:Env} {a:Act} {w:World} {G:Gh},MI C ops nt [] E E'->d.size=ops.length->(∀i,i<ops.length->(d.getD i true=false↔i∈([]:List nh).map (·.i)))->
  Inv w0 c0 (ajq nt d) E a w G->Gq ops (fun j=>d.getD j false=true) E a.tmps->(∀i∈io,a.tmps.getD i undef=T i)->Q .normal a w:=by
  intro d E a w G p l m R S W;have D:E=E':=p;subst D
  have n:∀j,d.getD j false=true->j<ops.length:=by
   intro j f;rcases aoK j ops.length with h|h;exact h;rw[<-l]at h;simp[aol,ao9.2 h]at f
  refine hQ a w G (R.mono (fun u z=> ?_)) (fun s j w1 act v D=> ?_) W;rcases z with z|⟨j,f,h1,h2⟩;omega;have:=n j f;omega;obtain⟨q1,q2,q3⟩:=S s j w1 act v D;exact⟨q1,n j q2,q3⟩
 intro fuel
 induction fuel with
 |zero=>
  intro bs d E a w G hf p I k l m N R S W;have b1:bs=[]:=by cases bs with|nil=>rfl|cons _ _=>simp at hf
  subst b1;refine⟨?_,nil p l m R S W⟩;rw[List.eq_nil_iff_forall_not_mem];intro j f;obtain⟨h1,o,q,_⟩:=mem_ready.1 f
  have n:j<ops.length:=by
   simp only[aot]at q;exact(an1.1 q).1
  have:=(m j n).1 h1;simp at this
 |succ fuel ih=>
  intro bs d E a w G hf p I k l m N R S W;refine⟨fun hr=> ?_,fun i hi=> ?_⟩;cases bs with
  |nil=>exact nil p l m R S W
  |cons b bs=>
   exfalso;obtain⟨F,hs,_⟩:=p;obtain⟨o,act,ef,q,_⟩:=hs.run;have n:=(an1.1 q).1
   have:b.i∈Region.ready .any ops.toArray d:=by
    refine mem_ready.2 ⟨(m b.i n).2 (by simp),o,by simpa using q,fun e D hb=> ?_⟩;have f:=k1 b.i o q e.on (XU.2 ⟨e,D,hb,rfl⟩);rw[<-gd l (by omega)];cases hg:d.getD e.on true with
    |true=>rfl
    |false=>
     have:=(m e.on (by omega)).1 hg;simp only[aoW,p_,X']at this;rcases this with h|⟨c,hc,h⟩;omega;have:=(aoG.1 k).1 c hc;omega
   rw[hr]at this;cases this
  obtain⟨h1,o,q,p0⟩:=mem_ready.1 hi;simp only[aot]at q;have n:=(an1.1 q).1;have K:=(m i n).1 h1;rw[X']at K;obtain⟨b,hb,rfl⟩:=K;obtain⟨pre,post,rfl⟩:=List.append_of_mem hb
  have h0:∀j∈QH o,d.getD j false=true:=by
   intro j f;obtain⟨e,D,n1,rfl⟩:=XU.1 f;exact p0 e D n1
  have j0:=aeI N l b.i q h0
  have k0:∀c∈pre,c.aar b=true:=by
   intro c hc
   have c1:c.i<b.i:=by
    rw[aoA]at k;exact k.2.2 c hc b (by simp)
   rcases l1 c (I c (by simp[hc])) b (I b (by simp)) c1 with h|h;have h2:=j0 c.i h;have:d.getD c.i true=false:=(m c.i (by omega)).2 (by simp only[aoO,g',X'];exact .inl ⟨c,hc,rfl⟩);rw[gd l (by omega),h2]at this;cases this;exact h
  obtain⟨F,r0,s0⟩:=p.front k0;obtain⟨o',act,ef,u0,o1,p1,r1⟩:=r0.run;have:o'=o:=by rw[q]at u0;exact(Option.some.inj u0).symm
  subst this;have n0:d.getD b.i false=false:=by rw[<-gd l n];exact h1
  refine afb (tk:=nt+32*b.i) hC q R S (fun j w' f=>j0 j (j1 b.i o' q j w' f)) (by simp[n0]) a1 (by omega) (fun u hu1 hu2 z=> ?_) o1 p1 r1 (fun X w' G' x0 E0 ⟨v,hav⟩=> ?_);rcases z with z|⟨j,f,h5,h6⟩;omega;have:j=b.i:=by omega
  subst this;rw[n0]at f;cases f
  have t:∀j,(d.setIfInBounds b.i true).getD j false=true↔d.getD j false=true\/j=b.i:=by
   intro j;by_cases f:b.i=j;subst f;have:b.i<d.size:=by omega
   simp[aol,this];rw[getD_set_ne false f];simp[Ne.symm f]
  refine ih (bs:=pre++post) (by simp at hf|-;omega) s0 (fun c hc=>I c (by simp only[g',p_]at hc|-;rcases hc with h|h<;>simp[h])) ?_ (by simpa using l) (fun Y G0=> ?_) (fun Y L0 B b0 j f=> ?_) (x0.mono (fun u z=> ?_)) (fun s j w1 e0 v1 D=> ?_) (fun j f=> ?_);rw[aoA]at k|-;exact⟨k.1,(aoG.1 k.2.1).2,fun x hx y hy=>k.2.2 x hx y (by simp[hy])⟩;by_cases f:b.i=Y;subst f;have:b.i<d.size:=by omega
  have e1:b.i∉(pre++post).map (·.i):=by
   rw[aoA]at k;simp only[aoO,g',X',not_or,not_exists,not_and];refine⟨fun c hc e=> ?_,fun c hc e=> ?_⟩;have:=k.2.2 c hc b (by simp);omega;have:=(aoG.1 k.2.1).1 c hc;omega
  simp only[e1,iff_false];simp[aol,this];rw[getD_set_ne true f,m Y G0];simp only[aoO,aoW,g',p_];constructor;rintro(h|h|h);exact .inl h;exact absurd h.symm f;exact .inr h;rintro(h|h);exact .inl h;exact .inr (.inr h);rw[t];by_cases o0:b.i=Y;subst o0;rw[q]at B;cases B;exact .inl (h0 j f);rw[getD_set_ne true o0]at b0;exact .inl (N Y L0 B b0 j f);rcases z with(z|⟨j,f,h5⟩)|z;exact .inl z;exact .inr ⟨j,(t j).2 (.inl f),h5⟩;exact .inr ⟨b.i,(t b.i).2 (.inr rfl),z⟩;obtain⟨q1,q2,q3⟩:=E0 s j w1 e0 v1 D;exact⟨q1,(t j).2 q2,q3⟩;rw[hav];exact(DA R0 (anU q) f).trans (W j f)
theorem MI.len{nt:Nat}:∀ {bs:List nh} {E E':Env},MI C ops nt bs E E'->E'.s.length=E.s.length
 | [],E,E',h=>by cases (show E=E' from h);rfl
 |b::bs,E,E',⟨F,h1,h2⟩=>by
  rw[MI.len h2,h1.len]
def aaM{ρ:Type}(K:P.follows .mixedOrders=true)(N:JR P C){io:List Nat}(e:keeps io ops=true)(f:xo ops=true){nt:Nat}(R:4<=nt){k:Env->Option ρ}{r:ρ}{id:Nat}
 (S:Inv w0 c0 (fun u=>u<nt) E a w G) (W:∀s j w act v,E.s.getD s .no≠ .g j w act v) (h:SJ C ops nt ops 0 E [] (fun E' L=>if OH ops L then k E' else none)=some r)
 (X:∀E' c w' G',Inv w0 c0 (fun u=>u<nt+32*ops.length) E' c w' G'->Gq ops (fun j=>j<ops.length) E' c.tmps->E'.s.length=E.s.length->(∀i∈io,c.tmps.getD i undef=a.tmps.getD i undef)->k E'=some r->Q .normal c w'):
 (Code.region id ops.toArray true).wp P Q a w:=by
 obtain⟨bs,E',p,m,n⟩:=VW (l:=ops) (by simp) h;split at n;rename_i d;simp only[aoP]at d;refine wp_region_any K ?_
 have hlen:bs.length=ops.length:=by
  have:=congrArg List.length m;simpa using this
 refine aiD N e f R d (E':=E') (T:=fun i=>a.tmps.getD i undef) (fun c w' G' q t x=>X E' c w' G' q t p.len x n) _ (bs:=bs) (E:=E) (G:=G) (by simp[hlen]) p (fun b y=>by simpa using y) ?_ (by simp) ?_ ?_ ?_ ?_ (fun _ _=>rfl);have:(bs.map (·.i)).Pairwise (·<·):=by rw[m];exact List.pairwise_lt_range'
 rw[List.pairwise_map]at this;exact this;intro i z;rw[m];simp[aol,z,List.mem_range'_1];intro i o B d;have:=(an1.1 B).1;simp[aol,this]at d;refine(S.drawn _).mono (fun u D=> .inl D);intro s j I act v J;exact absurd J (W s j I act v);cases n
end
def S4(n:Nat):List.range n=aoS 0 n:=List.range_eq_range'
section
variable{P:Program}{C:Cx}{w0:World}{c0:C0}{U:Nat->Prop}{E:Env}{a:Act}{w:World}{G:Gh}{ops:List Oper}{L:Nat->Prop}{Q:Exit->Act->World->Prop}{ρ:Type}
def aaz{N:Nat}(e:Inv w0 c0 (fun u=>u<N) E a w G)(y:Gq ops L E a.tmps):Inv w0 c0 (fun u=>u<N) {CU E ops with nt:=N} a w G/\NR (CU E ops).s/\(CU E ops).s.length=E.s.length:=by
 unfold CU;split;rename_i p;refine⟨{e with},fun s j w act v m=> ?_,rfl⟩;obtain⟨_,_,o,z,w',f⟩:=y s j w act v m;rw[s_]at p;have:=p o z;rw[f]at this;cases this;have f:∀s,(E.s.map SV.zZ).getD s .no=(E.s.getD s .no).zZ:=fun s=>getD_map (T:=SV.zZ) rfl s
 have d:∀s,(E.s.getD s .no).zZ= .no\/(E.s.getD s .no).zZ=E.s.getD s .no:=by
  intro s;cases E.s.getD s .no<;>simp[SV.zZ]
 refine⟨{e with len:=by simpa using e.len,slots:=fun s=> ?_,sc:=fun s c hc=> ?_,bt:=fun s c hc=> ?_,rt:=fun s c hc=> ?_,uni:=fun s q t v x k l=> ?_},fun s j w act v m=> ?_,by simp⟩;simp only[f];rcases d s with h|h;rw[h];trivial;rw[h];exact e.slots s;simp only[f]at hc;rcases d s with h|h;rw[h]at hc;simp[SV.sc]at hc;rw[h]at hc;exact e.sc s c hc;simp only[f]at hc;rcases d s with h|h;rw[h]at hc;simp[SV.bt]at hc;rw[h]at hc;exact e.bt s c hc;simp only[f]at hc;rcases d s with h|h;rw[h]at hc;simp[SV.rt]at hc;rw[h]at hc;exact e.rt s c hc;simp only[f]at k l;rcases d s with h|h<;>rcases d q with n|n;rw[h]at k;cases k;rw[h]at k;cases k;rw[n]at l;cases l;rw[h]at k;rw[n]at l;exact e.uni s q t v x k l;simp only[f]at m;exact ajr m
def Zf(C:Cx)(w0:World)(c0:C0)(T:Nat->Value)(r:ρ)(k:Env->Option ρ)(R:Act->World->Prop):Prop:=
 ∀E a w G,Inv w0 c0 (fun u=>u<E.nt) E a w G->NR E.s->E.s.length=C.n->4<=E.nt->(∀i∈C.io,a.tmps.getD i undef=T i)->k E=some r->R a w
def PL{id:Nat}{k:Env->Option ρ}{ke:List (Nat×(Env->Option ρ))}{i:Nat}:ao4 i ((id,k)::ke)=if i=id then some k else ao4 i ke:=by
 simp only[ao4];by_cases h:i=id;simp[h];have:(i==id)=false:=by simpa using h
 simp[this,h]
end
def OY(tmps:Array Value):ResultVar->Sem Value
 | .tmp t=>pure (tmps.getD t undef)
 | .cell a t=>do loadVar t (<-asAddr (tmps.getD a undef))
section
variable{P:Program}{C:Cx}{w0:World}{c0:C0}{U:Nat->Prop}{E:Env}{a:Act}{w:World}{G:Gh}{ops:List Oper}{L:Nat->Prop}{Q:Exit->Act->World->Prop}{ρ:Type}
def aaa(c:Nat):Pz c∈[2,1]:=by unfold Pz;split<;>simp
def X9{p:Pt}{s:Sh}(h:ZB p s=true){c:Nat}(hc:c∈YH p s):c≠3:=by
 rintro rfl;simp[ZB,hc]at h
theorem Xy(hC:CxTy P C)(N:Inv w0 c0 U E a w G):∀ {rs:List RK} {rv:List ResultVar} {tk:Nat} {xs:du (rs.map RK.ty)} {l:List (Nat×Nat)} {n:Nat},RF C.tt E rs rv tk=some (xs,l,n)->4<=tk->
 n=nu rs tk/\(∀c k,(c,k)∈l->(k=Pz c/\Good U G c/\c≠3)\/(tk<=k/\k<nu rs tk/\4<=c)\/(c=3/\k=3))/\
 ∃S:List Value,S.length=rs.length/\(rv.mapM (OY a.tmps)).run P w= .ok S w/\∃H:Nat->Value,∀(rest:List Ty) (y:du rest) (D:Gh),(∀c k,(c,k)∈l->∀b,G.col b=c->D.col b=k)->
  (∀u,tk<=u->u<nu rs tk->D.hdr u=H u)->∀i,gQ w D ((dE rs rest (du.app _ _ xs y) tk [2,1]).1.getD i .no) (S.getD i undef)
 | [],[],tk,xs,l,n,h,h3=>by
   simp only[RF,anJ,anX]at h;obtain⟨_,rfl,rfl⟩:=h;exact⟨rfl,by simp,[],rfl,by simp,fun _=>undef,fun rest y D _ _ i=>by simp[dE,gQ]⟩
 | .val τ p::rs,v::rv,tk,xs,l,n,h,h3=>by
   simp only[RF]at h;have n1:=fa p tk;have n2:=GK rs (bZ p tk);split at h;cases h;rename_i t I
   have e0:∃u W,(OY a.tmps v).run P w= .ok u w/\u=kE t.τ W/\dJ w G t.τ t.x t.sh W/\∀c∈t.sh.bc,Good U G c:=by
    cases v with
    |tmp s=>
     simp only[Env.get]at I;split at I;rename_i t' he;cases I;have hs:=N.slots s;have hm:=N.Kt s;rw[he]at hs hm;obtain⟨W,h1,h2⟩:=hs;exact⟨_,W,by simp[OY],h1,h2,hm.1⟩;cases I
    |cell s ty=>
     simp only[Env.get]at I;split at I;rename_i b t' i he hi;split at I;rename_i hτ;cases I;have hs:=N.slots s;have hm:=N.Kt s;rw[he]at hs hm;obtain⟨bk,cl,el,h1,h2,h4,h5,h6,h7⟩:=hs;have hlen:=dJ.len h7;simp only[aoY]at hlen;have hT:=(hC.tt ty i hi).1;have J:=Fq (P:=P) hT h6 (o:=0) (by rw[hτ];omega);refine⟨_,cl.toList,?_,rfl,h7,hm.1⟩;simp only[OY,h1];rw[hτ]at J;simp only[apc]at J;rw[aor (by simp;omega)]at J;simpa[asAddr]using J;cases I;cases I
   obtain⟨u,W,hu,R,q,B⟩:=e0;split at h;rename_i x h0 Y j0 hx hr;split at h;rename_i m;simp only[anJ,anX]at h;obtain⟨rfl,rfl,rfl⟩:=h;rw[i_]at m;obtain⟨m,ho⟩:=m;have e:=mR hx;rw[e]at R q B m ho|-;obtain⟨i1,i2,S,i3,i4,H2,i5⟩:=Xy hC N hr (Nat.le_trans h3 n1);obtain⟨H1,k1⟩:=GG (sm:=Pz) (hs:=[2,1]) (tk:=tk) m q h3 (fun c _=>aaa c) (by simp);have k0:(cI p tk []).2=bZ p tk:=rfl;refine⟨i1,fun c k d=> ?_,u::S,by simp[i3],by simp[hu,i4],fun z=>if z<bZ p tk then H1 z else H2 z,fun rest y D X K i=> ?_⟩;rw[Mp];rcases g'.1 d with d|d;obtain⟨r1,j⟩:=DT q c k d;rcases j with⟨j,r5⟩|⟨j,r3,r4⟩|j;exact .inl ⟨j,B c r1,X9 ho r5⟩;exact .inr (.inl ⟨r3,by omega,j⟩);exact .inr (.inr j);rcases i2 c k d with h|⟨q1,q2,q3⟩|h;exact .inl h;exact .inr (.inl ⟨by omega,q2,q3⟩);exact .inr (.inr h);rw[Mp]at K;cases i with
   |zero=>
    simp only[dE,an4];refine⟨W,R,k1 D (fun c k d=>X c k (aom _ d)) (fun z hz f=>(K z hz (by omega)).trans (an f))⟩
   |succ i=>
    simp only[dE,N',iU];exact i5 rest y D (fun c k d=>X c k (an7 _ d)) (fun z hz f=>(K z (by omega) f).trans (a_ (by omega))) i
   cases h;cases h
 | .nbox τ p::rs,.tmp s::rv,tk,xs,l,n,h,h3=>by
   simp only[RF]at h;have n1:=fa p (tk+1);have n2:=GK rs (bZ p (tk+1));split at h;cases h;rename_i b0 s0 t hb;have n0:gQ w G (E.rd.get s) (a.tmps.getD s undef):=RQ (N.slots s);obtain⟨_,bk,c,el,b1,b2,b3,b4,b5,b6,b7,b8,b9⟩:=QS N hb n0;split at h;rename_i x h0 Y j0 hx hr;split at h;rename_i m;simp only[anJ,anX]at h;obtain⟨rfl,rfl,rfl⟩:=h;rw[i_]at m;obtain⟨m,ho⟩:=m;have e:=mR hx;rw[e]at m ho b6 b7|-;have k0:(cI p (tk+1) []).2=bZ p (tk+1):=rfl;obtain⟨i1,i2,S,i3,i4,H2,i5⟩:=Xy hC N hr (by omega);obtain⟨H1,k1⟩:=GG (sm:=Pz) (hs:=[2,1]) (tk:=tk+1) m b6 (by omega) (fun c _=>aaa c) (by simp);refine⟨i1,fun c k d=> ?_,a.tmps.getD s undef::S,by simp[i3],by simp[OY,i4],fun z=>if z=tk then a.tmps.getD s undef else if z<bZ p (tk+1)then H1 z else H2 z,fun rest y D X K i=> ?_⟩;rw[KJ];simp only[aoe,p_,anX,g']at d;rcases d with⟨rfl,rfl⟩|d|d;exact .inr (.inl ⟨aoa _,by omega,b3⟩);obtain⟨r1,j⟩:=DT b6 c k d;rcases j with⟨j,r5⟩|⟨j,r3,r4⟩|j;exact .inl ⟨j,b7 c r1,X9 ho r5⟩;exact .inr (.inl ⟨by omega,by omega,j⟩);exact .inr (.inr j);rcases i2 c k d with h|⟨q1,q2,q3⟩|h;exact .inl h;exact .inr (.inl ⟨by omega,q2,q3⟩);exact .inr (.inr h);rw[KJ]at K;cases i with
   |zero=>
    simp only[dE,an4];refine⟨bk,c,el,b1,h3,(K tk (aoa _) (by omega)).trans (an rfl),X b0 tk (by simp) bk b4,b5,k1 D (fun c k d=>X c k (by simp[d])) (fun z hz f=> ?_)⟩;exact((K z (by omega) (by omega)).trans (a_ (by omega))).trans (an f)
   |succ i=>
    simp only[dE,N',iU];exact i5 rest y D (fun c k d=>X c k (by simp[d])) (fun z hz f=>((K z (by omega) f).trans (a_ (by omega))).trans (a_ (by omega))) i
   cases h;cases h
 | [],_::_,_,_,_,_,h,_| .val _ _::_,[],_,_,_,_,h,_| .nbox _ _::_,[],_,_,_,_,h,_| .nbox _ _::_,.cell _ _::_,_,_,_,_,h,_=>by simp[RF]at h
theorem QN(I:Inv w0 c0 U E a w G):∀ {ps:List PK} {i m tk:Nat} {ys:du (eM ps)} {f:List (Nat×Nat)},UH E ps i m tk=some (ys,f)->4<=tk->4<=m->
 (∀c k,(c,k)∈f->(k=Pz c/\Good U G c/\c≠3)\/(tk<=k/\k<LQ ps tk/\4<=c)\/(k=c/\c∈jM ps m)\/(c=3/\k=3))/\
 ∃H:Nat->Value,∀(q:Gh),(∀c k,(c,k)∈f->∀b,G.col b=c->q.col b=k)->(∀u,tk<=u->u<LQ ps tk->q.hdr u=H u)->(∀u∈jM ps m,q.hdr u=G.hdr u)->
  ∀t j v,(t,j,v)∈lA [2,1] ps ys (qc ps i m) tk->gQ w q (.box t v) (a.tmps.getD j undef)/\j∈BF ps i
 | [],i,m,tk,ys,f,h,h3,h4=>by
   simp only[UH,anJ,anX]at h;obtain⟨_,rfl⟩:=h;exact⟨by simp,fun _=>undef,fun q _ _ _ t j v n=>by simp[lA]at n⟩
 | .val τ p::ps,i,m,tk,ys,f,h,h3,h4=>by
   have n1:=fa p m;have N:(cI p m []).2=bZ p m:=rfl;obtain⟨y,H,B⟩:=QN I (ps:=ps) (i:=i+1) h h3 (by omega);exact⟨y,H,B⟩
 | .rd τ::ps,i,m,tk,ys,f,h,h3,h4=>by
   obtain⟨y,H,B⟩:=QN I (ps:=ps) (i:=i+1) h h3 h4;exact⟨y,H,B⟩
 | .vx e l::ps,i,m,tk,ys,f,h,h3,h4=>by
   obtain⟨y,H,B⟩:=QN I (ps:=ps) (i:=i+1) h h3 h4;exact⟨y,H,B⟩
 | .io τ p::ps,i,m,tk,ys,f,h,h3,h4=>by
   simp only[UH,Env.get]at h;have n1:=fa p tk;have n2:=N6 ps (bZ p tk);have n3:=fa p (m+1);have N:(cI p (m+1) []).2=bZ p (m+1):=rfl;have hpn2:(cI p tk []).2=bZ p tk:=rfl;split at h;rename_i b v xs rho' he hr;split at h;rename_i x hx;split at h;rename_i hc;simp only[i_,b_]at hc;obtain⟨⟨hf,ho⟩,rfl⟩:=hc;simp only[anJ,anX]at h;obtain⟨rfl,rfl⟩:=h;have hs:=I.slots i;have X:=I.Kt i;rw[he]at hs X;obtain⟨bk,c,el,b1,b2,b3,b4,b5,R⟩:=hs;have Y:=X.1;have e:=mR hx;rw[e]at hf ho R Y;obtain⟨y,H2,B⟩:=QN I (ps:=ps) (i:=i+1) hr (by omega) (by omega);obtain⟨H1,k1⟩:=GG (sm:=Pz) (hs:=[2,1]) (tk:=tk) hf R h3 (fun c _=>aaa c) (by simp);refine⟨fun c k d=> ?_,fun z=>if z<bZ p tk then H1 z else H2 z,fun q J K S t j u n=> ?_⟩;rw[Wf];simp only[aoe,p_,anX,g']at d;rcases d with⟨rfl,rfl⟩|d|d;exact .inr (.inr (.inl ⟨rfl,by simp[jM]⟩));obtain⟨r1,D⟩:=DT R c k d;rcases D with⟨D,r5⟩|⟨D,r3,r4⟩|D;exact .inl ⟨D,Y c r1,X9 ho r5⟩;exact .inr (.inl ⟨r3,by omega,D⟩);exact .inr (.inr (.inr D));rcases y c k d with h|⟨q1,q2,q3⟩|⟨q1,q2⟩|h;exact .inl h;exact .inr (.inl ⟨by omega,q2,q3⟩);exact .inr (.inr (.inl ⟨q1,by simp only[jM];exact anT _ q2⟩));exact .inr (.inr (.inr h));rw[Wf]at K;simp only[qc,lA,p_,anX]at n;rcases n with⟨rfl,rfl,rfl⟩|n;refine⟨⟨bk,c,el,b1,h4,?_,J t t (by simp) bk b4,b5,k1 q (fun c k d=>J c k (by simp[d])) (fun z W s=>(K z W (by omega)).trans (an s))⟩,by simp[BF]⟩;rw[S t (by simp[jM])];exact b3;rw[iU]at n;have:=B q (fun c k d=>J c k (by simp[d])) (fun z W s=>(K z (by omega) s).trans (a_ (by omega))) (fun u hu=>S u (by simp only[jM];exact anT _ hu)) t j u n;exact⟨this.1,by simp only[BF];exact anT _ this.2⟩;cases h;cases h;cases h
end
def Gh.Yn(G:Gh)(n:Nat):C0:=⟨G.col,fun t=>if t<n then some (G.hdr t)else none⟩
def aie{ps:List PK}:∀ {x:du (ps.map PK.ty)} {k i0 j i:Nat} {τ:Ty} {sh:Sh},(MD ps i0 k)[j]?=some (i,τ,sh)->
 ∃c y,i0<=i/\(gU ps x k).1.getD (i-i0) .no= .box c ⟨τ,y,sh⟩/\(qc ps i0 k)[j]?=some (c,i)/\(eM ps)[j]?=some τ/\(∀u∈sh.bc,(u=1\/u=3)\/u<fV ps k)/\i∈BF ps i0:=by
 induction ps with
 |nil=>intro x k i0 j i τ sh h;simp[MD]at h
 |cons p ps s=>
  intro x k i0 j i m sh h
  have key:∀ {d:Nat} {j:Nat},(MD ps (i0+1) d)[j]?=some (i,m,sh)->∃c y,i0<=i/\(∀v,(v::(gU ps x.2 d).1).getD (i-i0) .no= .box c ⟨m,y,sh⟩)/\(qc ps (i0+1) d)[j]?=some (c,i)/\(eM ps)[j]?=some m/\
   (∀u∈sh.bc,(u=1\/u=3)\/u<fV ps d)/\i∈BF ps (i0+1):=by
   intro d j h;obtain⟨c,y,q1,q2,q3,q4,q5,f⟩:=s (x:=x.2) h;refine⟨c,y,by omega,fun v=> ?_,q3,q4,q5,f⟩;rw[show i-i0=(i-(i0+1))+1 by omega,N'];exact q2
  cases p with
  |val τ q=>
   simp only[MD]at h;obtain⟨c,y,q1,q2,q3,q4,q5,f⟩:=key h;exact⟨c,y,q1,by simp only[gU,iU];exact q2 _,q3,q4,q5,f⟩
  |rd τ=>
   simp only[MD]at h;obtain⟨c,y,q1,q2,q3,q4,q5,f⟩:=key h;exact⟨c,y,q1,by simp only[gU];exact q2 _,q3,q4,q5,f⟩
  |vx e l=>
   simp only[MD]at h;obtain⟨c,y,q1,q2,q3,q4,q5,f⟩:=key h;exact⟨c,y,q1,by simp only[gU];exact q2 _,q3,q4,q5,f⟩
  |io τ q=>
   simp only[MD]at h;cases j with
   |zero=>
    simp only[aoN,anJ,anX]at h;obtain⟨rfl,rfl,rfl⟩:=h;refine⟨k,x.1,aoa _,by simp[gU],by simp[qc],by simp[eM],fun u n=> ?_,by simp[BF]⟩;have h2:=vt ps (bZ q (k+1));rcases Jb u n with h|h|h;left;left;simpa using h;right;simp only[fV];omega;left;right;exact h
   |succ j=>
    simp only[aoh]at h;obtain⟨c,y,q1,q2,q3,q4,q5,f⟩:=key h;exact⟨c,y,q1,by simp only[gU,iU];exact q2 _,by simp only[qc,aoh];exact q3,by simp only[eM,aoh];exact q4,q5,by simp only[BF];exact anT _ f⟩
section
variable{P:Program}{C:Cx}{w0:World}{c0:C0}{U:Nat->Prop}{E:Env}{a:Act}{w:World}{G:Gh}{ops:List Oper}{L:Nat->Prop}{Q:Exit->Act->World->Prop}{ρ:Type}
def ad8{fn:Func}{tmps:Array Value}{c:List Value}(h:(fn.results.toList.mapM (OY tmps)).run P w= .ok c w):(results fn tmps).run P w= .ok (Rg c) w:=by
 have e:(fn.results.mapM (OY tmps)).run P w= .ok c.toArray w:=by
  rw[Array.mapM_eq_mapM_toList];simp[h]
 have d:results fn tmps=(do let c<-fn.results.mapM (OY tmps);pure (if h:c.size=1 then c[0]else .tuple c)):=by
  unfold results;congr 1
 rw[d,Sem.run_bind,e];simp only[Result.andThen_ok,Sem.run_pure];congr 1
 match c with
 | []=>rfl
 | [v]=>rfl
 |_::_::_=>simp[Rg]
theorem QX:∀(rs:List RK) (rest:List Ty) (x:du (rs.map RK.ty)) (y:du rest) (k:Nat) (hs:List Nat),(dE rs rest (du.app _ _ x y) k hs).2.1=y
 | [],_,_,_,_,_=>rfl
 | .val _ _::rs,rest,x,y,_,hs=>QX rs rest x.2 y _ hs
 | .nbox _ _::rs,rest,x,y,_,hs=>QX rs rest x.2 y _ hs
theorem TE:∀(rs:List RK) (rest:List Ty) (y:du (rs.map RK.ty++rest)) (k:Nat) (hs:List Nat),(dE rs rest y k hs).2.2=nu rs k
 | [],_,_,_,_=>rfl
 | .val _ p::rs,rest,y,k,hs=>by simp only[dE,iU];exact TE rs rest y.2 _ hs
 | .nbox _ p::rs,rest,y,k,hs=>by simp only[dE,iU];exact TE rs rest y.2 _ hs
theorem Xc:∀ {ps:List PK} {i:Nat},∀j∈BF ps i,i<=j/\j<i+ps.length
 | [],_,j,h=>by simp[BF]at h
 | .val _ _::ps,i,j,h| .rd _::ps,i,j,h| .vx _ _::ps,i,j,h=>by have:=Xc (ps:=ps) (i:=i+1) j h;simp only[aod];omega
 | .io _ _::ps,i,j,h=>by
   simp only[BF,p_]at h;simp only[aod];rcases h with rfl|h;omega;have:=Xc (ps:=ps) (i:=i+1) j h;omega
def agL(hC:CxTy P C){con:BJ}{Y:Gh}{args:List Value}{xx:du (con.ps.map PK.ty)}(b0:Y6 w0 Y (gU con.ps xx 4).1 args (fV con.ps 4))(p:Inv w0 (Y.Yn (fV con.ps 4)) U E a w G){fn:Func}{y:du (con.rs.map RK.ty++eM con.ps)}
 (h:fin C.tt con.ps con.rs con.kp fn.results.toList (fV con.ps 4) E=some y) (hT:∀i∈BF con.ps 0,a.tmps.getD i undef=args.getD i undef):
 ∃mv G' vs nt,(results fn a.tmps).run P w= .ok mv w/\QB con w0 Y args y mv w G' vs nt:=by
 have WI:=vt con.ps 4;unfold fin at h;split at h
 ·rename_i xs l tk k0;split at h
  ·rename_i ys f n0;split at h
   ·rename_i I;cases h;rw[i_]at I;obtain⟨R0,d⟩:=I;obtain⟨rfl,a1,vs,b1,j0,H1,c1⟩:=Xy hC p k0 WI;have hge1:=GK con.rs (fV con.ps 4);have hge2:=N6 con.ps (nu con.rs (fV con.ps 4));obtain⟨e1,H2,l1⟩:=QN p n0 (by omega) (aoa _);have u0:∀c k,(c,k)∈l++f->(l++f).lookup c=some k:=fun c k n=>TH R0 n
    have x0:∀c k,(c,k)∈l++f->(k=Pz c/\Good U G c/\c≠3)\/(4<=k/\4<=c)\/(c=3/\k=3):=by
     intro c k n;rcases g'.1 n with n|n
     ·rcases a1 c k n with h|⟨q1,q2,q3⟩|h
      ·exact .inl h
      ·exact .inr (.inl ⟨by omega,q3⟩)
      ·exact .inr (.inr h)
     ·rcases e1 c k n with h|⟨q1,q2,q3⟩|⟨q1,q2⟩|h
      ·exact .inl h
      ·exact .inr (.inl ⟨by omega,q3⟩)
      ·have:=om c q2;exact .inr (.inl ⟨by omega,this.1⟩)
      ·exact .inr (.inr h)
    let B:Gh:=⟨fun b=>match(l++f).lookup (G.col b)with|some k=>k|none=>if G.col b<=3 then G.col b else 0,
     fun u=>if u<fV con.ps 4 then G.hdr u else if u<nu con.rs (fV con.ps 4)then H1 u else H2 u,fun _=>false⟩
    have K:∀c k,(c,k)∈l++f->∀b,G.col b=c->B.col b=k:=by
     intro c k n b J;show(match(l++f).lookup (G.col b)with|some k=>k|none=>if G.col b<=3 then G.col b else 0)=k;rw[J,u0 c k n]
    have D:∀b,(G.col b<=3/\B.col b=G.col b)\/(4<=G.col b/\(B.col b=2\/B.col b=0\/4<=B.col b)):=by
     intro b;have j:B.col b=(match(l++f).lookup (G.col b)with|some k=>k|none=>if G.col b<=3 then G.col b else 0):=rfl;cases N:(l++f).lookup (G.col b)with
     |none=>
      rw[N]at j;simp only at j;by_cases z:G.col b<=3
      ·left;rw[an z]at j;exact⟨z,j⟩
      ·right;rw[a_ z]at j;exact⟨by omega,by omega⟩
     |some k=>
      rw[N]at j;simp only at j;rcases x0 _ _ (vO N)with⟨R,z,h33⟩|⟨R,z⟩|⟨R,z⟩
      rotate_right
      ·left;omega
      ·rw[R]at j;have h0:=z.1;unfold Pz at j;by_cases e:G.col b=1
       ·left;rw[an e]at j;omega
       ·rw[a_ e]at j;by_cases e2:G.col b=2
        ·left;omega
        ·right;omega
      ·right;omega
    refine⟨Rg vs,B,vs,0,ad8 j0,⟨rfl,b1,?_,?_,fun b J hc=> ?_,fun b J=> ?_,p.size,p.os,p.tape,p.output,fun b J=> ?_,fun b J=> ?_,fun q N te i τ o0 p0 bk c el c' el' S r0 s0=> ?_⟩⟩
    ·refine c1 _ ys B (fun c k n=>K c k (aom _ n)) (fun u R z=> ?_);show(if u<fV con.ps 4 then G.hdr u else if u<nu con.rs (fV con.ps 4)then H1 u else H2 u)=H1 u;rw[a_ (by omega),an z]
    ·intro t i v W;rw[QX,TE]at W
     have:=l1 B (fun c k n=>K c k (an7 _ n)) (fun u R z=>by
      show(if u<fV con.ps 4 then G.hdr u else if u<nu con.rs (fV con.ps 4)then H1 u else H2 u)=H2 u;rw[a_ (by omega),a_ (by omega)]) (fun u hu=>by
      have:=om u hu;show(if u<fV con.ps 4 then G.hdr u else if u<nu con.rs (fV con.ps 4)then H1 u else H2 u)=G.hdr u;rw[an this.2]) t i v W
     rw[hT i this.2]at this;exact this.1
    ·have hf:G.col b=Y.col b/\w.heap[b]?=w0.heap[b]?:=p.frame b J hc;refine⟨?_,hf.2⟩;rcases D b with h|h<;>omega
    ·have R:B.col b=G.col b:=by rcases D b with h|h<;>omega
     rw[R]at J|-;exact p.one b J
    ·refine p.lt b ?_;rcases D b with h|h<;>omega
    ·refine p.fresh b ?_;rcases D b with h|h<;>omega
    ·simp only[ag4,anZ,i_,s_]at d;rcases d with d|⟨o1,d⟩
     ·rw[aoM]at d;rw[d]at N;cases N
     ·have m:=d q N;split at m
      ·rename_i i' τ1 sh X;obtain⟨te',y',g1,g2,g3,g4,g5,g6⟩:=aie (x:=xx) X;rw[o0]at g3;rw[p0]at g4;cases g3;cases g4;split at m
       ·rename_i t v u hE hu;simp only[i_,b_,beq_iff_eq]at m;obtain⟨n1,m⟩:=m;have hs:=p.slots i;have E0:E.s.getD i .no= .box t v:=hE;rw[E0]at hs;obtain⟨bk2,c2,el2,k1,k2,k3,k4,k5,k6⟩:=hs;rw[hT i g6,S]at k1;simp only[Value.pointer.injEq,anJ,Addr.mk.injEq,and_true]at k1;subst k1;rw[s0]at k5;cases k5;have r1:=L9 k6 m;have e0:=b0.slots i;rw[aoL]at g2;rw[g2]at e0;obtain⟨bk3,c3,el3,j1,j2,j3,j4,j5,j6⟩:=e0;rw[S]at j1;simp only[Value.pointer.injEq,anJ,Addr.mk.injEq,and_true]at j1;subst j1;rw[r0]at j5;cases j5;have r2:=L9 j6 hu;have hτ:v.τ.off q.2=τ.off q.2:=by rw[n1]
        rw[<-hτ,r1.1,hτ,r2.1]
        have L0:u<fV con.ps 4:=by
         rcases g5 u r2.2.2 with h|h
         ·have:=r2.2.1;omega
         ·exact h
        rw[(p.hk o1 u (Y.hdr u) (by simp[Gh.Yn,L0])).2]
       ·cases m
      ·cases m
   ·cases h
  ·cases h
 ·cases h
def DR(l:List SV)(n i:Nat):(l++apd n SV.no).getD i SV.no=l.getD i SV.no:=by
 rw[anM,anM,List.getElem?_append];split;rfl;rename_i h;rw[List.getElem?_replicate,aoj (by omega)];split<;>rfl
def ad5{ps:List PK}{x:du (ps.map PK.ty)}{args:List Value}(h:Y6 w G (gU ps x 4).1 args (fV ps 4))(n:Nat):
 Inv w (G.Yn (fV ps 4)) (fun u=>u<fV ps 4) ⟨(gU ps x 4).1++apd (n-(gU ps x 4).1.length) .no,(gU ps x 4).2,true⟩ {tmps:=args.toArray++aoQ (n-args.toArray.size) undef,defers:=[]} w G:=by
 have hlen:=h.len
 have f:∀i,i<args.length->(args.toArray++aoQ (n-args.toArray.size) undef).getD i undef=args.getD i undef:=by
  intro i l;rw[an6,anM,Array.getElem?_append_left (by simpa using l)];simp
 have WI:=vt ps 4;refine⟨by simp[hlen],fun s=> ?_,fun s=> ?_,fun s=> ?_,fun s=> ?_,fun s m t v p j k=> ?_,fun b c=>(h.colU b c).1,fun b c=>(h.colU b c).2,h.fresh,fun b _ _=>⟨rfl,rfl⟩,fun b c=>⟨(h.colU b (by omega)).2,rfl⟩,aoa _,rfl,rfl,rfl,rfl,⟨⟨by show 2<fV ps 4;omega,h.two.1⟩,by show 3<fV ps 4;omega,h.two.2⟩,fun _ t v d=> ?_⟩
 rotate_right
 ·simp only[Gh.Yn]at d;split at d
  ·rename_i e;cases d;exact⟨e,rfl⟩
  ·cases d
 ·simp only[DR];by_cases q:s<args.length
  ·have:=h.slots s;rw[<-f s q]at this;exact this
  ·rw[anM,aoj (by omega)];trivial
 ·simp only[DR];exact(h.Kt s).1
 ·simp only[DR];exact(h.Kt s).2.1
 ·simp only[DR];exact(h.Kt s).2.2
 ·simp only[DR]at j k;exact h.uni s m t v p j k
def ain{ps:List PK}:∀ {x:du (ps.map PK.ty)} {tk:Nat},NR (gU ps x tk).1:=by
 induction ps with
 |nil=>intro x tk s j w act v h;simp[gU]at h
 |cons p ps c=>
  intro x tk s j w act v h;cases p with
  |val τ q=>
   simp only[gU]at h;cases s with
   |zero=>simp at h
   |succ s=>simp only[N']at h;exact c _ _ _ _ _ h
  |io τ q=>
   simp only[gU]at h;cases s with
   |zero=>simp at h
   |succ s=>simp only[N']at h;exact c _ _ _ _ _ h
  |rd τ=>
   simp only[gU]at h;cases s with
   |zero=>simp at h
   |succ s=>simp only[N']at h;exact c _ _ _ _ _ h
  |vx e l=>
   simp only[gU]at h;cases s with
   |zero=>simp at h
   |succ s=>simp only[N']at h;exact c _ _ _ _ _ h
end
def Fits:(τ:Ty)->τ.den->Prop
 | .int k,n=>(Lit.int k n).wf=true
 | .bool,_=>True
 | .str,s=>s.size<=maxLen
 | .sl e,l=>l.length<=maxLen/\∀x∈l,Fits e x
 | .pair a b,p=>Fits a p.1/\Fits b p.2
def N8(P:Program)(c:Ty->TypeId->Bool):Ty->List Field->Nat->Bool
 |τ,[f],off=>f.offset==off&&P.cellsOf f.type==τ.sz&&c τ f.type
 | .pair a b,f::g::l,off=>f.offset==off&&P.cellsOf f.type==a.sz&&c a f.type&&N8 P c b (g::l) (off+a.sz)
 |_,_,_=>false
def PT(P:Program):Nat->Ty->TypeId->Bool
 |0,_,_=>false
 |n+1,τ,t=>
  match P.underlying t with
  |some (.int k)=>τ== .int k
  |some .bool=>τ== .bool
  |some .string=>τ== .str
  |some (.slice e)=>(match τ with| .sl τe=>P.cellsOf e==τe.sz&&PT P n τe e|_=>false)
  |some (.struct fs)=>τ.iu&&P.cellsOf t==τ.sz&&N8 P (PT P n) τ fs.toList 0
  |_=>false
section
variable{H:Type}{enc:TypeId×Value->H}{P:Program}{w:World}{held:Bool}
def cells?_some{a:Addr}{n:Nat}{cs:List Value}(h:w.cells? 0 a n=some cs):cs.length=n/\∀i,i<n->w.cell? (a.add i)=cs[i]?:=by
 unfold World.cells? at h;rw[an (Nat.zero_le _)]at h;refine⟨by simpa using mapM_some_length h,fun i c=> ?_⟩;exact mapM_some_get h i i (by simp[c])
def aix{a:Addr}{v:Value}(h:w.cell? a=some v):∃c el d,w.heap[a.block]?=some (.cells c el d)/\a.spot=none/\c[a.off]?=some v:=by
 unfold World.cell? at h;split at h;rename_i c el d e;split at h;cases h;rename_i f;exact⟨c,el,d,e,by simpa using f,h⟩;cases h
def Zd{b off:Nat}{c:Array Value}{el:TypeId}{j:Nat×Nat}(k:w.heap[b]?=some (.cells c el j)){n:Nat}{cs:List Value}(h:w.cells? 0 ⟨b,off,none⟩ n=some cs):cs=(c.toList.drop off).take n/\(0<n->off+n<=c.size):=by
 obtain⟨hl,hc⟩:=cells?_some h
 have d:∀i,i<n->c[off+i]?=cs[i]?:=by
  intro i f;have:=hc i f;unfold World.cell? at this
  have e:(Addr.add ⟨b,off,none⟩ i)=⟨b,off+i,none⟩:=by
   unfold Addr.add;split;rename_i h;subst h;rfl;rfl
  rw[e]at this;simp only[k,Option.isSome_none,aop,if_false]at this;exact this
 refine⟨List.ext_getElem? (fun i=> ?_),fun hn=> ?_⟩;rw[aoq];split;rename_i f;rw[aoH,<-d i f,aoU];rename_i f;exact aoj (by omega);have:=d (n-1) (by omega);rw[anP (by omega)]at this;have:=(Array.getElem?_eq_some_iff.1 this).1;omega
theorem Zl{e:Ty->TypeId->Bool}{cs:List Value}
 (d:∀ {τ:Ty} {t:TypeId} {fuel:Nat} {c:List Value} {x:DataW H×List MemPlace},e τ t=true->DataW.trod enc P w 0 (fun _=>true) held fuel t c=some x->∃y B,bP w τ y c B/\Fits τ y):
 ∀ {s:List Field} {τ:Ty} {off:Nat},N8 P e τ s off=true->cs.length=off+τ.sz->
 (∀f∈s,∃fuel x,DataW.trod enc P w 0 (fun _=>true) held fuel f.type ((cs.drop f.offset).take (P.cellsOf f.type))=some x)->∃y B,bP w τ y (cs.drop off) B/\Fits τ y
 | [],τ,off,h,_,_=>by cases τ<;>simp[N8]at h
 | [f],τ,off,h,hl,ht=>by
   have h:(f.offset==off&&P.cellsOf f.type==τ.sz&&e τ f.type)=true:=by
    cases τ<;>exact h
   simp only[i_,beq_iff_eq]at h;obtain⟨⟨k,m⟩,n⟩:=h;obtain⟨fuel,x,j⟩:=ht f (by simp);rw[k,m,aor (by simp;omega)]at j;exact d n j
 |f::g::l,τ,off,h,hl,ht=>by
  cases τ with
  |pair a b=>
   simp only[N8,i_,beq_iff_eq]at h;obtain⟨⟨⟨k,m⟩,n⟩,z⟩:=h;simp only[Ty.sz]at hl;obtain⟨fuel,x,j⟩:=ht f (by simp);rw[k,m]at j;obtain⟨D,u,I,J⟩:=d n j;obtain⟨K,v,N,R⟩:=Zl d z (by omega) (fun q p=>ht q (by simp only[p_]at p|-;exact .inr p));refine⟨(D,K),u++v,⟨_,_,u,v,?_,rfl,I,N⟩,J,R⟩;rw[<-an0,aou]
  |_=>simp[N8]at h
theorem aaD{d:Ty}{e:TypeId}{n:Nat}(j:P.cellsOf e=d.sz){b:Nat}{c:Array Value}{el:TypeId}{t:Nat×Nat}(q:w.heap[b]?=some (.cells c el t))
 (f:∀ {c:List Value} {x:DataW H×List MemPlace},DataW.trod enc P w 0 (fun _=>true) held n e c=some x->∃y B,bP w d y c B/\Fits d y):
 ∀(len:Nat) {off:Nat} {elems:List (DataW H×List MemPlace)},elems.length=len->
 (∀i,i<len->(w.cells? 0 (Addr.add ⟨b,off,none⟩ (i*P.cellsOf e)) (P.cellsOf e)).bind (DataW.trod enc P w 0 (fun _=>true) held n e)=elems[i]?)->
 ∃(l:List d.den) (p:List Nat),l.length=len/\cr (bP w d) l ((c.toList.drop off).take (len*d.sz)) p/\∀x∈l,Fits d x
 |0,off,elems,_,_=>⟨[],[],rfl,by simp[cr],by simp⟩
 |len+1,off,elems,hlen,hel=>by
  have s:=hel 0 (by omega);rw[anP (by omega),anR]at s;obtain⟨u,m,v⟩:=s;simp only[Nat.zero_mul,Addr.add,if_true]at m;obtain⟨D,_⟩:=Zd q m;obtain⟨y,B,I,J⟩:=f v
  have k:∀i,Addr.add ⟨b,off,none⟩ ((i+1)*P.cellsOf e)=Addr.add ⟨b,off+d.sz,none⟩ (i*P.cellsOf e):=by
   intro i;have:=d.JX;unfold Addr.add;rw[j];rw[a_ (by simp only[Y_];omega)];split;rename_i h;simp only[Y_,h];simp;simp only[Y_,Addr.mk.injEq,and_true,true_and];omega
  obtain⟨l,p,K,N,R⟩:=aaD j q f len (off:=off+d.sz) (elems:=elems.tail) (by simp[hlen]) (fun i hi=>by
   rw[<-k,hel (i+1) (by omega)];cases elems with
   |nil=>simp at hlen
   |cons z zs=>rfl)
  refine⟨y::l,B++p,by simp[K],⟨u,_,B,p,?_,rfl,I,N⟩,by simpa using⟨J,R⟩⟩;rw[D,j,Y_,aob,Nat.add_comm (len*d.sz),List.take_add,an0]
def aeC:∀(n:Nat) {τ:Ty} {t:TypeId} {fuel:Nat} {cs:List Value} {x:DataW H×List MemPlace},PT P n τ t=true->DataW.trod enc P w 0 (fun _=>true) held fuel t cs=some x->∃y B,bP w τ y cs B/\Fits τ y:=by
 intro n
 induction n with
 |zero=>intro τ t fuel cs x h;simp[PT]at h
 |succ n ih=>
  intro τ t fuel cs x h I;simp only[PT]at h;split at h;rename_i k p;simp only[beq_iff_eq]at h;subst h;obtain⟨m,rfl,_,hw⟩:=DataW.trod_int p I;exact⟨m,[],⟨rfl,rfl⟩,hw⟩;rename_i p;simp only[beq_iff_eq]at h;subst h;obtain⟨b,rfl,_⟩:=DataW.trod_bool p I;exact⟨b,[],⟨rfl,rfl⟩,trivial⟩;rename_i p;simp only[beq_iff_eq]at h;subst h;obtain⟨s,rfl,_,hs⟩:=DataW.trod_string p I;exact⟨s,[],⟨rfl,rfl⟩,hs⟩;rename_i e p;split at h;rename_i S;simp only[i_,beq_iff_eq]at h;obtain⟨q,hd⟩:=h;rcases DataW.trod_slice p I with⟨rfl,_⟩|⟨a,len,cap,elems,rest,m,_,rfl,_,_,hlc,hcm,hlen,N,j0,_⟩;exact⟨[],[],⟨_,rfl,.inl ⟨⟨_,rfl⟩,rfl,rfl⟩⟩,by simp[Fits]⟩;by_cases J:cap=0;subst J;have:len=0:=by omega
  subst this;exact⟨[],[],⟨_,rfl,.inl ⟨⟨_,rfl⟩,rfl,rfl⟩⟩,by simp[Fits]⟩;obtain⟨hrl,z⟩:=j0 rfl
  have u:∀i,i<cap->∃cs,w.cells? 0 (a.add (i*P.cellsOf e)) (P.cellsOf e)=some cs:=by
   intro i hi;by_cases Y:i<len;have:=N i Y;rw[anP (by omega),anR]at this;obtain⟨cs,D,_⟩:=this;exact⟨cs,D⟩;have:=z (i-len) (by omega);rw[anP (by omega),anR]at this;obtain⟨cs,D,_⟩:=this;rw[show len+(i-len)=i by omega]at D;exact⟨cs,D⟩
  have hpos:=S.JX;obtain⟨cs0,h0⟩:=u 0 (by omega);obtain⟨hl0,k0⟩:=cells?_some h0;have d:=k0 0 (by omega);rw[anP (by omega)]at d;have b0:(a.add (0*P.cellsOf e)).add 0=a:=by simp[Addr.add]
  rw[b0]at d;obtain⟨c,el,fz,W,j,_⟩:=aix d;obtain⟨b,off,spot⟩:=a;simp only at W j;subst j;obtain⟨l,Bs,D,h2,h3⟩:=aaD (held:=held) (enc:=enc) q W (fun X=>ih hd X) len hlen N;obtain⟨csl,R⟩:=u (cap-1) (by omega)
  have K:Addr.add ⟨b,off,none⟩ ((cap-1)*P.cellsOf e)=⟨b,off+(cap-1)*P.cellsOf e,none⟩:=by
   unfold Addr.add;split;rename_i h;rw[h];rfl;rfl
  rw[K]at R;have v:=(Zd W R).2 (by omega);rw[q]at v
  have hmul:(cap-1)*S.sz+S.sz=cap*S.sz:=by
   have:cap=cap-1+1:=by omega
   conv=>rhs;rw[this,Y_,aob]
  refine⟨l,b::Bs,⟨_,rfl,.inr ⟨b,off,cap,c,el,fz,Bs,by rw[D],by omega,W,by omega,rfl,by rw[D];exact h2⟩⟩,by omega,h3⟩;cases h;rename_i fs p;simp only[i_,beq_iff_eq]at h;obtain⟨⟨hp,q⟩,n0⟩:=h;obtain⟨xs,m,_,_,hl,hxl,o0⟩:=DataW.trod_struct p I
  have:=Zl (held:=held) (enc:=enc) (cs:=cs) (fun h X=>ih h X) n0 (by rw[hl,q];omega) (fun f hf=>by
   obtain⟨i,hi,rfl⟩:=List.mem_iff_getElem.1 hf;have e0:i<fs.size:=by simpa using hi
   have:=o0 i fs[i] (by simp[e0]);rw[anP (by omega)]at this;exact⟨m,_,by simpa using this⟩)
  simpa using this;cases h
end
end Vg
namespace Vg
open Go Go.ChangeShapes Go.WideShapes Go.ChangeAt Go.RowKit
def S3(P:Program)(n:Nat):List Ty->List TypeId->Bool
 | [],[]=>true
 |τ::τs,t::ts=>PT P n τ t&&S3 P n τs ts
 |_,_=>false
section
variable{H:Type}{enc:TypeId×Value->H}{P:Program}{w:World}{G:Gh}
def ah8{n:Nat}{τ:Ty}{t:TypeId}{v:Value}{r:Reach}{f:Nat}(h:PT P n τ t=true)(c:Value.okWide P w r f t v):v=kE τ v.cells.toList:=by
 cases n with
 |zero=>simp[PT]at h
 |succ n=>
  simp only[PT]at h;split at h;rename_i k d;simp only[beq_iff_eq]at h;subst h;obtain⟨m,rfl⟩:=okWide_int d c;rfl;rename_i d;simp only[beq_iff_eq]at h;subst h;obtain⟨b,rfl⟩:=okWide_bool d c;rfl;rename_i d;simp only[beq_iff_eq]at h;subst h;obtain⟨s,rfl⟩:=okWide_string d c;rfl;rename_i e d;split at h;obtain⟨a,len,cap,rfl⟩:=okWide_slice d c;rfl;cases h;rename_i fs d;simp only[i_]at h;obtain⟨cs,rfl,_⟩:=okWide_struct d c;cases τ with
  |pair a b=>simp[kE,Value.cells]
  |_=>simp[Ty.iu]at h
  cases h
end
section
variable{H:Type}{enc:TypeId×Value->H}{P:Program}
def agh{f:Func}{s:ChangeSpec}{W h:World}{args:Array Value}{v:Value}{m gs:List (DataW H)}{before:List MemPlace}
 (q:DataW.Whole enc P f.params.toList s.vars false W args.toList m gs before)
 (e:∀(b:Nat) (sp:Nat->Bool) (B:Bool),DataW.TrodAll enc P h b sp B f.resultTypes.toList (v.resultList f.resultTypes.size) (s.fn H (m++gs)).results [])
 (c:∀sp:Nat->Bool,(∀p∈before,sp p.block=true)->DataW.TrodAll enc P h 0 sp true f.params.toList args.toList (s.fn H (m++gs)).args before)
 (k:s.vars=[]) (l:(s.fn H (m++gs)).vars=[]) (D:W.keptBut h (·∈before)) (I:∀b,b<W.heap.size->h.heap[b]?=W.heap[b]?)
 (u:∀(j:Nat) (t:TypeId) (r:Value),f.resultTypes[j]?=some t->(v.resultList f.resultTypes.size)[j]?=some r->Value.okWide P h .any 0 t r):
 s.post enc P f false true false false W args v h:=by
 have hold:∀p∈before,(fun b=>decide (b<W.heap.size)) p.block=true:=fun p d=>by simpa using q.lt p d
 have y:∀sp,DataW.TrodVars enc P h sp s.vars (s.fn H (m++gs)).vars []:=fun sp=>by rw[k,l];exact rfl
 refine⟨m,gs,before,[],before,[],q,e _ _ _,c _ hold,y _,World.keptBut_mono (fun p d=>⟨d,?_⟩) D,fun _=> ?_⟩;exact Or.inr (by simpa using d);have x:=q.lt;obtain⟨_,_,_,_,_,K,_⟩:=q;refine⟨u,_,_,([]++before)++[],⟨[]++before,[],trodAll_append (c _ (fun _ _=>rfl)) (e _ _ _),y _,rfl,?_,?_⟩,?_⟩;intro b off d;have n:MemPlace.cell b off∈before:=by simpa using d
 have:=K b off n;have J:=x _ n;unfold World.frozen? at this|-;rw[I b J];exact this;intro z;cases z;intro p d _;simpa using d
theorem UW(j:laidOutB P=true){W k:World}{sp:Nat->Bool}:∀ {ts:List TypeId} {e:List Value} {f:List (DataW H)} {p:List MemPlace},
 (∀t∈ts,P.readableRec t=true/\t<P.types.size)->DataW.TrodAll enc P W 0 (fun _=>true) true ts e f p->(∀x∈p,W.sameAt k x)->(∀x∈p,sp x.block=true)->DataW.TrodAll enc P k 0 sp true ts e f p
 | [],e,f,p,_,h,_,_=>by
   obtain⟨rfl,rfl,rfl⟩:=trodAll_nil h;exact rfl
 |t::ts,e,f,p,hr,h,h1,h2=>by
  obtain⟨v,e,d,ds',p',q,rfl,rfl,rfl,m,n⟩:=trodAll_cons h
  exact trodAll_cons_mk (WideElems.Trod_stays j (hr t (by simp)).1 (hr t (by simp)).2 m (fun x c=>h1 x (by simp[c])) (fun x c=>h2 x (by simp[c])))
   (UW j (fun t l=>hr t (by simp[l])) n (fun x c=>h1 x (by simp[c])) (fun x c=>h2 x (by simp[c])))
def aed{f:FuncId}{fn:Func}{con:BJ}(n:BH P f con)(p:P.funcs[f]?=some fn)(d:(fn.name== "runtime.NumGoroutine")=false)(q:fn.body.isSome=true)
 {W:World} {k:Gh} {args:List Value} {x:du (con.ps.map PK.ty)} {y:du (con.rs.map RK.ty++eM con.ps)} (s:con.F x=some y) (h:Y6 W k (gU con.ps x 4).1 args (fV con.ps 4)):
 Calls P f args.toArray W (fun e w'=>∃v,e= .returned v/\∃G' m nt,QB con W k args y v w' G' m nt):=by
 have:=n W k args x y s h;obtain⟨c,hc⟩:=aoc.1 q
 have j:(callFunc f args.toArray).run P W= .ok (.enter f args.toArray) W:=by
  have l:fn.name≠ "runtime.NumGoroutine" :=by simpa using d
  unfold callFunc;simp[p,l,hc]
 unfold NB at this;rw[j]at this;exact this
end
def Oi:Ty->Pt
 | .sl _=> .rom
 | .pair a b=> .pair (Oi a) (Oi b)
 |_=> .leaf
theorem Ob:∀(τ:Ty) (tk:Nat) (hs:List Nat),cI (Oi τ) tk hs=(sR τ (.sha [3]),tk)
 | .int _,_,_| .bool,_,_| .str,_,_| .sl _,_,_=>rfl
 | .pair a b,tk,hs=>by simp only[Oi,cI,Ob a,Ob b,sR]
abbrev PI(τs:List Ty):List PK:=τs.map fun τ=> .val τ (Oi τ)
def Xl:(τs:List Ty)->du ((PI τs).map PK.ty)->Prop
 | [],_=>True
 |τ::τs,x=>Fits τ x.1/\Xl τs x.2
section
variable{H:Type}{enc:TypeId×Value->H}{P:Program}{w:World}{G:Gh}
theorem aaG(s:∀b,b<w.heap.size->G.col b=3){n:Nat}{r:Reach}{D:Nat}:∀ {τs:List Ty} {ts:List TypeId} {args:List Value} {f:List (DataW H)} {p:List MemPlace},
 S3 P n τs ts=true->DataW.TrodAll enc P w 0 (fun _=>true) true ts args f p->(∀(j:Nat) t v,ts[j]?=some t->args[j]?=some v->Value.okWide P w r D t v)->
 ∃x:du ((PI τs).map PK.ty),Xl τs x/\args.length=τs.length/\f.length=τs.length/\∀tk i,gQ w G ((gU (PI τs) x tk).1.getD i .no) (args.getD i undef)
 | [],[],args,f,p,_,c,_=>by
   obtain⟨rfl,rfl,rfl⟩:=trodAll_nil c;exact⟨(),trivial,rfl,rfl,fun tk i=>trivial⟩
 |τ::τs,t::ts,args,f,p,hd,c,hv=>by
  simp only[S3,i_]at hd;obtain⟨v,I,d,ds',p',q,rfl,rfl,rfl,J,K⟩:=trodAll_cons c;obtain⟨x,N,R,m,S⟩:=aaG s hd.2 K (fun j t v c k=>hv (j+1) t v (by simpa using c) (by simpa using k));obtain⟨fuel,W⟩:=J;obtain⟨y,B,u,e⟩:=aeC n hd.1 W;refine⟨(y,x),⟨e,N⟩,by simp[R],by simp[m],fun tk i=> ?_⟩;have l:=ah8 hd.1 (hv 0 t v rfl rfl);cases i with
  |zero=>
   show gQ w G (.d ⟨τ,y,(cI (Oi τ) tk [1]).1⟩) v;rw[Ob];exact⟨_,l,dJ.VQ u (fun b z=>by simp[s b (u.bounds b z)]) (by simp)⟩
  |succ i=>
   show gQ w G ((gU (PI τs) x (cI (Oi τ) tk [1]).2).1.getD i .no) (I.getD i undef);exact S _ i
 | [],_::_,_,_,_,h,_,_|_::_,[],_,_,_,h,_,_=>by simp[S3]at h
end
theorem Xu:∀(τs:List Ty) (tk:Nat),fV (PI τs) tk=tk
 | [],_=>rfl
 |τ::τs,tk=>by
  show fV (PI τs) (bZ (Oi τ) tk)=tk
  have:bZ (Oi τ) tk=tk:=by
   rw[<-iU (Oi τ) tk [1],Ob]
  rw[this,Xu τs]
theorem aeM:∀τs:List Ty,vxs (PI τs)=[]
 | []=>rfl
 |τ::τs=>aeM τs
theorem WD:∀(τs:List Ty) (tk:Nat),jM (PI τs) tk=[]
 | [],_=>rfl
 |_::τs,_=>WD τs _
section
variable{H:Type}{enc:TypeId×Value->H}{P:Program}
def PA{f:FuncId}{fn:Func}{τs:List Ty}{F:du ((PI τs).map PK.ty)->Option (du ([RK.val .bool .leaf].map RK.ty++eM (PI τs)))}{spec:ChangeSpec}{tb:TypeId}{n:Nat}
 (hm:BH P f ⟨PI τs,[.val .bool .leaf],F,[]⟩) (hf:P.funcs[f]?=some fn) (D:(fn.name== "runtime.NumGoroutine")=false) (d:fn.body.isSome=true)
 (hd:S3 P n τs fn.params.toList=true) (s:fn.resultTypes= #[tb]) (b0:P.underlying tb=some .bool) (hl:laidOutB P=true)
 (hr:fn.params.toList.all (fun t=>P.readableRec t&&decide (t<P.types.size))=true) (k:spec.vars=[])
 (I:∀B:List (DataW H),B.length=τs.length->spec.fn H B={results:=[.lit (.bool true)],args:=B})
 (hF:∀x,Xl τs x->∃y,F x=some y/\y.1=true)
 (W:World) (base:Nat) (args:Array Value) (B gs:List (DataW H)) (before:List MemPlace)
 (e0:∀(j:Nat) t v,fn.params[j]?=some t->args[j]?=some v->Value.okWide P W .any base t v)
 (hW:DataW.Whole enc P fn.params.toList spec.vars false W args.toList B gs before):
 Calls P f args W fun e N=>∃v,e= .returned v/\spec.post enc P fn false true false false W args v N:=by
 have r0:=hW;have s0:=hW.lt;obtain⟨p,q,hA,hV,rfl,hfz,hnd⟩:=hW;rw[k]at hV;obtain⟨rfl,rfl⟩:=trodVars_none hV;have h0:DataW.TrodAll enc P W 0 (fun _=>true) true fn.params.toList args.toList B p:=hA
 let S:Gh:=⟨fun b=>if b<W.heap.size then 3 else 0,fun _=>undef,fun _=>false⟩
 obtain⟨x,p0,hlen,E0,hs⟩:=aaG (G:=S) (fun b d=>an d) hd h0 (fun j t v R X=>e0 j t v (by simpa using R) (by simpa using X));obtain⟨y,hy,L0⟩:=hF x p0
 have j0:Y6 W S (gU (PI τs) x 4).1 args.toList (fV (PI τs) 4):=by
  rw[Xu];refine⟨by rw[L2,hlen];simp,fun i=>hs 4 i,fun i=> ?_,fun i j t v v' h h'=>NV h h',fun b d=> ?_,fun b d=> ?_,⟨rfl,rfl⟩,fun b=> ?_⟩;by_cases hi:i<(gU (PI τs) x 4).1.length
  have k0:(gU (PI τs) x 4).1.getD i .no∈(gU (PI τs) x 4).1:=by
   rw[anM,anP hi];simp
  obtain⟨R,X,h3⟩:=DW _ k0;rw[Xu]at R;have u0:=WD τs 4;refine⟨fun c hc=> ?_,fun c hc=> ?_,by rw[h3];simp⟩;rcases R c hc with Dc|⟨q1,q2,q3⟩|h;exact⟨by omega,by omega,rfl⟩;omega;rw[aeM]at h;cases h;have:=X c hc;rw[u0]at this;cases this;rw[anM,aoj (by omega)];simp[dH,SV.sc,SV.bt,SV.rt];simp only[S]at d|-;split at d;rename_i h;exact⟨by rw[an h];omega,h⟩;omega;simp only[S]at d;split at d<;>omega;simp only[S];split<;>omega
 have l:=aed hm hf D d hy j0;simp only[Array.toArray_toList]at l;refine l.mono fun e N ⟨v,he,G',vs,nt,hp⟩=>⟨v,he,?_⟩
 have m:=hp.len;simp only[aos]at m;obtain⟨u,rfl⟩:=List.length_eq_one_iff.1 m
 have hv:v= .bool true:=by
  rw[hp.val];obtain⟨cs,R,X⟩:=hp.res 0;have n0:cs=[.bool y.1]:=X;rw[L0]at n0;subst n0;exact R
 subst hv;have hh:∀b,b<W.heap.size->N.heap[b]?=W.heap[b]?:=fun b d=>(hp.frame b d (by simp only[S];split<;>omega)).2
 have J:∀z∈p,W.sameAt N z:=by
  intro z hz;have o0:=s0 z (by simpa using hz);cases z with
  |cell b off=>
   show N.cell? ⟨b,off,none⟩=W.cell? ⟨b,off,none⟩;unfold World.cell?;simp only;rw[hh b o0]
  |map b=>exact hh b o0
 have x0:W.keptBut N (·∈p++[]):=by
  refine⟨hp.os,hp.output,fun i hi=> ?_⟩;rw[hh i hi];cases W.heap[i]? with
  |none=>rfl
  |some ob=>cases ob<;>simp
 have K:=I (B++[]) (by simpa using E0);refine agh r0 (fun b sp hd=> ?_) (fun sp Y=> ?_) k (by rw[K]) x0 hh (ok_one s rfl (okWide_bool_mk b0 _));rw[K,s];exact trodAll_cons_mk (shut_bool b0 _) trodAll_mk0;rw[K,aoP,aoP]
 exact UW hl (fun t ht=>by
  have:=s_.1 hr t ht;simpa using this) h0 J (fun z hz=>Y z (by simpa using hz))
end
end Vg
namespace Vg
open Go
structure Px where
 τ:Ty
 F:τ.den->Int->Option (Int×τ.den)
structure Pv where
 t:Nat
 e:Ty
 l:List e.den
def IE:Sh->Option (List Nat)
 | .leaf=>some []
 | .sl (.row t hs nd)=>if nd&&hs.all (·==t)then some [t]else none
 | .sl (.sha [])=>some []
 | .sl _=>none
 | .pair a b=>match IE a,IE b with
   |some x,some y=>if x.all (!y.contains ·)then some (x++y)else none
   |_,_=>none
def rowsOf:(τ:Ty)->τ.den->Sh->List Pv
 | .sl e,l,.sl (.row t _ _)=>[⟨t,e,l⟩]
 | .pair a b,x,.pair s1 s2=>rowsOf a x.1 s1++rowsOf b x.2 s2
 |_,_,_=>[]
def Am(L:List Pv):(τ:Ty)->τ.den->Sh->τ.den×Sh
 | .sl e',l,.sl (.row u hs nd)=>match L.find? (·.t==u)with
   |some p=>if h:p.e=e' then(cast (congrArg (fun τ=>List (Ty.den τ)) h) p.l,.sl (.row u [u] true))else(l,.sl .dead)
   |none=>match meets hs (L.map (·.t))with|true=>(l,.sl .dead)|false=>(l,.sl (.row u hs nd))
 | .sl _,l,.sl (.sha hs)=>match meets hs (L.map (·.t))with|true=>(l,.sl .dead)|false=>(l,.sl (.sha hs))
 | .sl _,l,.sl (.nst _ _ _ _ _ _)=>(l,.sl .dead)
 | .pair a b,x,.pair s1 s2=>(((Am L a x.1 s1).1,(Am L b x.2 s2).1),.pair (Am L a x.1 s1).2 (Am L b x.2 s2).2)
 |_,x,sh=>(x,sh)
def TV.mark(L:List Pv)(v:TV):TV:=⟨v.τ,(Am L v.τ v.x v.sh).1,(Am L v.τ v.x v.sh).2⟩
def SV.mark(L:List Pv):SV->SV
 | .d v=> .d (v.mark L)
 | .box b v=> .box b (v.mark L)
 | .tup l=> .tup (l.map (TV.mark L))
 | .g _ _ _ _=> .no
 | .rdp _ _=> .no
 |v=>v
def Env.mark(E:Env)(L:List Pv):Env:={E with s:=E.s.map (SV.mark L)}
section
variable{P:Program}{C:Cx}{w0:World}{c0:C0}{U:Nat->Prop}{E:Env}{a:Act}{w w':World}{G G':Gh}{L:List Pv}
structure Marks(U:Nat->Prop)(G G':Gh)(w w':World)(L:List Pv):Prop where
 good:∀p∈L,4<=p.t/\Good U G p.t
 hdr:G'.hdr=G.hdr
 bx:G'.bx=G.bx
 keep:∀b,0<G.col b->G.col b∉L.map (·.t)->w'.heap[b]?=w.heap[b]?/\G'.col b=G.col b
 row:∀p∈L,gq w' G' p.e p.l (G.hdr p.t) (.row p.t [p.t] true)
def aez{u:Nat}(h:L.find? (·.t==u)=none):u∉L.map (·.t):=by
 intro c;rw[X']at c;obtain⟨p,d,rfl⟩:=c;rw[List.find?_eq_none]at h;exact h p d (by simp)
theorem Marks.agree(q:Marks U G G' w w' L){S T:List Nat}(h:∀c∈S,0<c/\c∉L.map (·.t)):RG S T w w' G G':=
 ⟨fun b p=>(q.keep b (h _ p).1 (h _ p).2).1,fun b p=>(q.keep b (h _ p).1 (h _ p).2).2,fun t _=>by rw[q.hdr]⟩
theorem O3(j:Marks U G G' w w' L):∀ {τ:Ty} {x:τ.den} {sh:Sh} {cs:List Value},dJ w G τ x sh cs->(∀c∈sh.bc,0<c)->
 dJ w' G' τ (Am L τ x sh).1 (Am L τ x sh).2 cs
 | .int _,_,.leaf,_,h,_=>h
 | .bool,_,.leaf,_,h,_=>h
 | .str,_,.leaf,_,h,_=>h
 | .sl e',l,.sl (.row u hs nd),cs,h,hp=>by
   obtain⟨v,rfl,e⟩:=h;simp only[Am];split;rename_i p d;have k:p.t=u:=by have:=List.find?_some d;simpa using this
   have n:=List.mem_of_find?_eq_some d;split;rename_i q;obtain⟨pt,pe,pl⟩:=p;simp only at k q;subst k q;refine⟨v,rfl,?_⟩;have:v=G.hdr pt:=e.2.1.symm;rw[this];exact j.row _ n;exact⟨v,rfl,e.one⟩;rename_i f;have s:=aez f;split;exact⟨v,rfl,e.one⟩;rename_i m;refine⟨v,rfl,gq.agree (j.agree (fun c hc=>⟨hp c hc,?_⟩)) e⟩;rcases p_.1 hc with rfl|hc;exact s;exact Lj m c hc
 | .sl e',l,.sl (.sha hs),cs,h,hp=>by
   obtain⟨v,rfl,e⟩:=h;simp only[Am];split;exact⟨v,rfl,e.one⟩;rename_i m;exact⟨v,rfl,gq.agree (j.agree (fun c hc=>⟨hp c hc,Lj m c hc⟩)) e⟩
 | .sl e',l,.sl (.nst _ _ _ _ _ _),cs,h,hp=>by
   obtain⟨v,rfl,e⟩:=h;exact⟨v,rfl,e.one⟩
 | .sl e',l,.sl .dead,cs,h,hp=>by
   obtain⟨v,rfl,e⟩:=h;exact⟨v,rfl,e⟩
 | .pair a b',p,.pair s1 s2,cs,h,hp=>by
   obtain⟨y,z,rfl,B,D⟩:=h;exact⟨y,z,rfl,O3 j B (fun c h=>hp c (by simp[Sh.bc,h])),O3 j D (fun c h=>hp c (by simp[Sh.bc,h]))⟩
 | .int _,_,.sl _,_,h,_| .int _,_,.pair _ _,_,h,_| .bool,_,.sl _,_,h,_| .bool,_,.pair _ _,_,h,_
 | .str,_,.sl _,_,h,_| .str,_,.pair _ _,_,h,_| .sl _,_,.leaf,_,h,_| .sl _,_,.pair _ _,_,h,_
 | .pair _ _,_,.leaf,_,h,_| .pair _ _,_,.sl _,_,h,_=>h.elim
theorem LF:∀ {τ:Ty} {x:τ.den} {sh:Sh},∀c∈(Am L τ x sh).2.bc,c∈sh.bc
 | .sl e',l,.sl (.row u hs nd),c,h=>by
   simp only[Am]at h;split at h;split at h;simp only[Sh.bc,M.bc,p_,aof,or_false,or_self]at h;subst h;simp[Sh.bc,M.bc];simp[Sh.bc,M.bc]at h;split at h;simp[Sh.bc,M.bc]at h;exact h
 | .sl _,_,.sl (.sha hs),c,h=>by
   simp only[Am]at h;split at h;simp[Sh.bc,M.bc]at h;exact h
 | .pair a b',p,.pair s1 s2,c,h=>by
   simp only[Am,Sh.bc,g']at h|-;rcases h with h|h;exact .inl (LF c h);exact .inr (LF c h)
 | .sl _,_,.sl (.nst _ _ _ _ _ _),c,h=>by simp[Am,Sh.bc,M.bc]at h
 | .sl _,_,.leaf,_,h| .sl _,_,.pair _ _,_,h| .sl _,_,.sl .dead,_,h
 | .int _,_,.leaf,_,h| .int _,_,.sl _,_,h| .int _,_,.pair _ _,_,h| .bool,_,.leaf,_,h| .bool,_,.sl _,_,h| .bool,_,.pair _ _,_,h
 | .str,_,.leaf,_,h| .str,_,.sl _,_,h| .str,_,.pair _ _,_,h| .pair _ _,_,.leaf,_,h| .pair _ _,_,.sl _,_,h=>h
theorem gQ.mark(q:Marks U G G' w w' L):∀ {s:SV} {mv:Value},gQ w G s mv->dH U G s->gQ w' G' (s.mark L) mv
 | .no,_,_,_=>trivial
 | .d v,mv,⟨D,h1,h2⟩,hm=>⟨D,h1,O3 q h2 (fun c h=>(hm.1 c h).1)⟩
 | .box t v,mv,⟨bk,c,el,h1,h2,h3,h4,h5,h6⟩,hm=>by
   have K:=hm.2.1 t (by simp[SV.bt])
   have S:t∉L.map (·.t):=by
    intro y;rw[X']at y;obtain⟨p,W,e⟩:=y;have:=(q.good p W).2.2.2;rw[e,K.2.2]at this;cases this
   have N:=q.keep bk (by rw[h4];exact K.1) (by rw[h4];exact S);exact⟨bk,c,el,h1,h2,by rw[q.hdr];exact h3,N.2.trans h4,N.1.trans h5,O3 q h6 (fun c h=>(hm.1 c h).1)⟩
 | .ptr t o p τ,mv,⟨bk,h1,h2,h3⟩,_=>⟨bk,h1,by rw[q.hdr];exact h2,h3⟩
 | .ept t e' i o p τ,mv,⟨b,off,n,cap,h1,h2,h3⟩,_=>⟨b,off,n,cap,h1,by rw[q.hdr];exact h2,h3⟩
 | .rdp hs v,mv,_,_=>trivial
 | .tup l,mv,⟨vs,h1,h2,h3⟩,hm=>by
   refine⟨vs,h1,by simp[h2],fun i v J=> ?_⟩;rw[ao1,aoi]at J;obtain⟨R,z,rfl⟩:=J;obtain⟨u,D,X,I,Y⟩:=h3 i R z;exact⟨u,D,X,I,O3 q Y (fun c B=>(hm.1 c (an5.2 ⟨R,anU z,B⟩)).1)⟩
 | .g j w2 act v,mv,_,_=>trivial
theorem dH.mark(p:Marks U G G' w w' L):∀ {s:SV},dH U G s->dH U G' (s.mark L)
 | .no,h| .ptr ..,h| .ept ..,h=>by simpa only[dH,SV.mark,p.bx]using h
 | .d v,hm=>by rw[SV.mark,dH,p.bx];exact dH.d fun c hc=>hm.1 c (LF c hc)
 | .box t v,hm=>by
   simp only[SV.mark,dH,p.bx];exact⟨fun c hc=>hm.1 c (LF c hc),hm.2.1,hm.2.2⟩
 | .rdp hs v,hm=>by simp[dH,SV.mark,SV.sc,SV.bt,SV.rt]
 | .tup l,hm=>by
   refine⟨fun c hc=> ?_,by simp[SV.mark,SV.bt],by simp[SV.mark,SV.rt]⟩;simp only[SV.mark,SV.sc,ao6,an5]at hc;obtain⟨v,q,hc⟩:=hc;rw[p.bx];exact hm.1 c (an5.2 ⟨v,q,LF c hc⟩)
 | .g j w2 act v,hm=>by simp[dH,SV.mark,SV.sc,SV.bt,SV.rt]
def acu{s:SV}{t:Nat}{u:TV}(h:s.mark L= .box t u):∃c,s= .box t c:=by
 cases s with
 |box t' v=>simp only[SV.mark,SV.box.injEq]at h;exact⟨v,by rw[h.1]⟩
 |_=>simp[SV.mark]at h
def aj6{s:SV}{j:Nat}{w act:Bool}{v:SV}:s.mark L≠ .g j w act v:=by
 cases s<;>simp[SV.mark]
theorem Inv.mark(p:Inv w0 c0 U E a w G)(z:Marks U G G' w w' L)(q:∀b,0<G'.col b->U (G'.col b))(lt:∀b,0<G'.col b->b<w'.heap.size)
 (fresh:∀b,4<=G'.col b->∃c el,w'.heap[b]?=some (.cells c el (0,0)))
 (frame:∀b,b<w0.heap.size->c0.col b<4->G'.col b=c0.col b/\w'.heap[b]?=w0.heap[b]?)
 (one:∀b,G'.col b=1\/G'.col b=3->G.col b=G'.col b) (size:w.heap.size<=w'.heap.size)
 (S:w'.os=w.os) (tape:w'.tape=w.tape) (output:w'.output=w.output):Inv w0 c0 U (E.mark L) a w' G':=by
 have y:∀s,(E.mark L).s.getD s .no=(E.s.getD s .no).mark L:=fun s=>getD_map (T:=SV.mark L) rfl s;have D:∀s,dH U G' ((E.s.getD s .no).mark L):=fun s=>dH.mark z (p.Kt s);refine⟨by simpa[Env.mark]using p.len,fun s=> ?_,fun s=> ?_,fun s=> ?_,fun s=> ?_,fun s R t v v' J K=> ?_,q,lt,fresh,frame,fun b B=>by have h:=p.one b (by rw[one b B];exact B);rw[one b B]at h;exact h,Nat.le_trans p.size size,S.trans p.os,tape.trans p.tape,output.trans p.output,p.defers,?_,fun N t v e=>⟨(p.hk N t v e).1,by rw[z.hdr];exact(p.hk N t v e).2⟩⟩;rw[y];exact gQ.mark z (p.slots s) (p.Kt s);rw[y];exact(D s).1;rw[y];exact(D s).2.1;rw[y];exact(D s).2.2;rw[y]at J K;obtain⟨u,W⟩:=acu J;obtain⟨X,I⟩:=acu K;exact p.uni s R t u X W I;rw[z.bx];exact p.two
end
def VD(w:World)(b:Nat):Prop:=∃c el,w.heap[b]?=some (.cells c el (0,0))
structure Ut(w w':World)(τ:Ty)(y:τ.den)(cs:List Value)(B B':List Nat):Prop where
 rep:bP w' τ y cs B'
 nd:B'.Nodup
 inn:∀b∈B',b∈B\/w.heap.size<=b
 fresh:∀b∈B',VD w' b
 frame:∀b,b<w.heap.size->b∉B->w'.heap[b]?=w.heap[b]?
 size:w.heap.size<=w'.heap.size
 os:w'.os=w.os
 tape:w'.tape=w.tape
 output:w'.output=w.output
def acQ(P:Program)(f:FuncId)(m:Px):Prop:=
 ∀(w:World) (x:m.τ.den) (n k:Int) (y:m.τ.den) (cs:List Value) (B:List Nat),m.F x n=some (k,y)->bP w m.τ x cs B->B.Nodup->(∀b∈B,VD w b)->
  NB P f #[kE m.τ cs,.int .i64 n] w (fun mv w'=>mv= .int .i64 k/\∃B',Ut w w' m.τ y cs B B')
section
variable{P:Program}{C:Cx}{w0:World}{c0:C0}{U:Nat->Prop}{E:Env}{a:Act}{w w':World}{G G':Gh}{L:List Pv}
theorem Inv.abM(I:Inv w0 c0 U E a w G)(y:∀p∈L,4<=p.t/\Good U G p.t){B B2:List Nat}(f:Nat->Nat)
 (hB:∀b∈B,G.col b∈L.map (·.t)) (z:∀b∈B2,(G.col b∈L.map (·.t)\/w.heap.size<=b)/\f b∈L.map (·.t)/\VD w' b)
 (q:∀b,b<w.heap.size->b∉B->w'.heap[b]?=w.heap[b]?) (size:w.heap.size<=w'.heap.size)
 (os:w'.os=w.os) (tape:w'.tape=w.tape) (output:w'.output=w.output)
 (K:∀G':Gh,G'.hdr=G.hdr->(∀b∈B2,G'.col b=f b)->∀p∈L,gq w' G' p.e p.l (G.hdr p.t) (.row p.t [p.t] true)):
 ∃G',Inv w0 c0 U (E.mark L) a w' G'/\G'.hdr=G.hdr/\G'.bx=G.bx:=by
 have X:∀t∈L.map (·.t),4<=t/\Good U G t:=by
  intro t Y;rw[X']at Y;obtain⟨p,hp,rfl⟩:=Y;exact y p hp
 let G':Gh:=⟨fun b=>if b∈B2 then f b else if G.col b∈L.map (·.t)then 0 else G.col b,G.hdr,G.bx⟩
 have N:∀b∈B2,G'.col b=f b:=fun b u=>by simp[G',u]
 have hc:∀b,(b∈B2/\G'.col b=f b)\/(b∉B2/\G.col b∈L.map (·.t)/\G'.col b=0)\/(b∉B2/\G.col b∉L.map (·.t)/\G'.col b=G.col b):=by
  intro b;by_cases J:b∈B2;exact .inl ⟨J,N b J⟩;by_cases S:G.col b∈L.map (·.t);exact .inr (.inl ⟨J,S,by simp only[G',J,S,if_true,if_false]⟩);exact .inr (.inr ⟨J,S,by simp only[G',J,S,if_false]⟩)
 have D:∀b,b<w.heap.size->G.col b∉L.map (·.t)->b∉B2/\b∉B:=by
  intro b u v;refine⟨fun h=> ?_,fun h=>v (hB b h)⟩;rcases(z b h).1 with h|h;exact v h;omega
 refine⟨G',I.mark (G':=G') ⟨y,rfl,rfl,fun b u v=> ?_,K G' rfl N⟩ (fun b u=> ?_) (fun b u=> ?_) (fun b u=> ?_) (fun b u W=> ?_) (fun b u=> ?_) size os tape output,rfl,rfl⟩;obtain⟨q1,q2⟩:=D b (I.lt b u) v;refine⟨q b (I.lt b u) q2,?_⟩;rcases hc b with⟨h,_⟩|⟨_,h,_⟩|⟨_,_,h⟩;exact absurd h q1;exact absurd h v;exact h;rcases hc b with⟨h,e⟩|⟨_,h,e⟩|⟨_,_,e⟩;rw[e];exact(X _ (z b h).2.1).2.2.1;omega;rw[e]at u|-;exact I.colU b u;rcases hc b with⟨h,e⟩|⟨_,h,e⟩|⟨_,_,e⟩;obtain⟨c,el,hh⟩:=(z b h).2.2;exact lt_of_block hh;omega;rw[e]at u;exact ao0 (I.lt b u) size;rcases hc b with⟨h,e⟩|⟨_,h,e⟩|⟨_,v,e⟩;exact(z b h).2.2;omega;rw[e]at u;have R:=I.lt b (by omega);rw[q b R (D b R v).2];exact I.fresh b u;have hf:=I.frame b u W;have R:b<w.heap.size:=ao0 u I.size;have v:G.col b∉L.map (·.t):=fun h=>by have:=(X _ h).1;omega
 obtain⟨q1,q2⟩:=D b R v;refine⟨?_,by rw[q b R q2];exact hf.2⟩;rcases hc b with⟨h,_⟩|⟨_,h,_⟩|⟨_,_,h⟩;exact absurd h q1;exact absurd h v;rw[h];exact hf.1;rcases hc b with⟨h,e⟩|⟨_,h,e⟩|⟨_,v,e⟩;have:=(X _ (z b h).2.1).1;omega;omega;exact e.symm
theorem T4:∀ {τ:Ty} {x:τ.den} {sh:Sh} {cs:List Value} {ts:List Nat},dJ w G τ x sh cs->IE sh=some ts->sh.own=some ts
 | .int _,_,.leaf,_,ts,_,h| .bool,_,.leaf,_,ts,_,h| .str,_,.leaf,_,ts,_,h=>h
 | .sl e,l,.sl m,cs,ts,h,ho=>by
   obtain⟨v,rfl,u⟩:=h;cases m with
   |row t f nd=>
    have n:=u.1;simp only[IE]at ho;split at ho;rename_i hc;simp only[i_,s_,beq_iff_eq]at hc;cases ho
    have q:f.filter (·≠t)=[]:=by
     rw[List.filter_eq_nil_iff];intro c d;simp[hc.2 c d]
    have s:f.all (4<=·)=true:=by
     rw[s_];intro c d;simp[hc.2 c d,n]
    simp only[Sh.own,M.own,hc.1,s,q,Bool.and_self,if_true];cases ho
   |sha f=>
    cases f with
    |nil=>exact ho
    |cons=>simp[IE]at ho
   |nst=>simp[IE]at ho
   |dead=>simp[IE]at ho
 | .pair a b,p,.pair s1 s2,cs,ts,h,ho=>by
   obtain⟨c1,c2,rfl,z,B⟩:=h;simp only[IE]at ho;split at ho;rename_i x y j k;simp only[Sh.own,T4 z j,T4 B k];exact ho;cases ho
 | .int _,_,.sl _,_,_,h,_| .int _,_,.pair _ _,_,_,h,_| .bool,_,.sl _,_,_,h,_| .bool,_,.pair _ _,_,_,h,_
 | .str,_,.sl _,_,_,h,_| .str,_,.pair _ _,_,_,h,_| .sl _,_,.leaf,_,_,h,_| .sl _,_,.pair _ _,_,_,h,_
 | .pair _ _,_,.leaf,_,_,h,_| .pair _ _,_,.sl _,_,_,h,_=>h.elim
theorem Wa:∀ {τ:Ty} {x y:τ.den} {sh:Sh} {cs:List Value} {ts:List Nat} {B':List Nat},dJ w G τ x sh cs->IE sh=some ts->bP w' τ y cs B'->B'.Nodup->
 (rowsOf τ y sh).map (·.t)=ts/\(∀t∈ts,4<=t)/\∃f:Nat->Nat,(∀b∈B',f b∈ts)/\∀G':Gh,G'.hdr=G.hdr->(∀b∈B',G'.col b=f b)->∀p∈rowsOf τ y sh,gq w' G' p.e p.l (G.hdr p.t) (.row p.t [p.t] true)
 | .int _,_,_,.leaf,_,ts,B',_,h,hr,_=>by
   cases h;cases hr.2;exact⟨rfl,by simp,fun _=>0,by simp,by simp[rowsOf]⟩
 | .bool,_,_,.leaf,_,ts,B',_,h,hr,_=>by
   cases h;cases hr.2;exact⟨rfl,by simp,fun _=>0,by simp,by simp[rowsOf]⟩
 | .str,_,_,.leaf,_,ts,B',_,h,hr,_=>by
   cases h;cases hr.2;exact⟨rfl,by simp,fun _=>0,by simp,by simp[rowsOf]⟩
 | .sl e,l,y,.sl m,cs,ts,B',h,ho,hr,hn=>by
   obtain⟨v,rfl,d⟩:=h;obtain⟨v',J,X⟩:=hr;cases J;cases m with
   |row t hs nd=>
    simp only[IE]at ho;split at ho;cases ho;refine⟨rfl,by simpa using d.1,fun _=>t,by simp,fun G' B D p R=> ?_⟩;simp only[rowsOf,anW]at R;subst R;refine⟨d.1,by rw[B],B',by rw[d.2.1];exact X,?_⟩;rintro b Bs rfl;rw[an2]at hn;exact⟨D b (by simp),hn.1,fun z j=>by simp[D z (by simp[j])],fun _=>hn.2⟩;cases ho
   |sha hs=>
    cases hs with
    |nil=>
     cases ho;have I:=d.2 rfl
     have hB:B'=[]:=by
      rcases X with⟨_,_,hb⟩|⟨b,off,cap,c,el,fz,Bs,s,_⟩;exact hb;rw[I]at s;cases s
     subst hB;exact⟨rfl,by simp,fun _=>0,by simp,by simp[rowsOf]⟩
    |cons=>simp[IE]at ho
   |nst=>simp[IE]at ho
   |dead=>simp[IE]at ho
 | .pair a b,p,y,.pair s1 s2,cs,ts,B',h,ho,hr,hn=>by
   obtain⟨c1,c2,rfl,B,D⟩:=h;obtain⟨d1,d2,K,B2,N,rfl,Y,r2⟩:=hr;have hl1:=dJ.len B;have hl2:=bP.len Y;obtain⟨e1,e2⟩:=List.append_inj N (by omega);subst e1 e2;simp only[IE]at ho;split at ho;rename_i u v hu I;split at ho;cases ho;rw[S_]at hn;obtain⟨n1,n2,n3⟩:=hn;obtain⟨i1,i3,f1,j1,k1⟩:=Wa B hu Y n1;obtain⟨i2,i4,f2,j2,k2⟩:=Wa D I r2 n2;refine⟨by simp[rowsOf,i1,i2],fun t ht=>(g'.1 ht).elim (i3 t) (i4 t),fun z=>if z∈K then f1 z else f2 z,fun z j=> ?_,fun G' S W q n=> ?_⟩;by_cases k:z∈K;simp only[k,if_true];exact aom _ (j1 z k);simp only[k,if_false];exact an7 _ (j2 z ((g'.1 j).resolve_left k));simp only[rowsOf,g']at n;rcases n with n|n;exact k1 G' S (fun z j=>by rw[W z (aom _ j)];simp[j]) q n
   exact k2 G' S (fun z j=>by
    rw[W z (an7 _ j)];have:z∉K:=fun h=>n3 z h z j rfl;simp[this]) q n
   cases ho;cases ho
 | .int _,_,_,.sl _,_,_,_,h,_,_,_| .int _,_,_,.pair _ _,_,_,_,h,_,_,_| .bool,_,_,.sl _,_,_,_,h,_,_,_| .bool,_,_,.pair _ _,_,_,_,h,_,_,_
 | .str,_,_,.sl _,_,_,_,h,_,_,_| .str,_,_,.pair _ _,_,_,_,h,_,_,_| .sl _,_,_,.leaf,_,_,_,h,_,_,_| .sl _,_,_,.pair _ _,_,_,_,h,_,_,_
 | .pair _ _,_,_,.leaf,_,_,_,h,_,_,_| .pair _ _,_,_,.sl _,_,_,_,h,_,_,_=>h.elim
def agY(J:Inv w0 c0 U E a w G){s:FuncId}{m:Px}(N:acQ P s m){x y:m.τ.den}{sh:Sh}{cs:List Value}{ts:List Nat}(z:dJ w G m.τ x sh cs)(R:∀c∈sh.bc,Good U G c)(K:IE sh=some ts)
 {n k:Int} (S:m.F x n=some (k,y)):
 NB P s #[kE m.τ cs,.int .i64 n] w (fun mv w'=>mv=Value.int .i64 k/\∃G',Inv w0 c0 U (E.mark (rowsOf m.τ y sh)) a w' G'):=by
 have j:=T4 z K;obtain⟨B,X,Y,hc⟩:=z.own j;have W:=Sh.AT z j;have:=N w x n k y cs B S X Y (fun b l=>J.fresh b (W _ (hc b l)));unfold NB at this|-
 have key:∀(mv:Value) (w':World),(mv= .int .i64 k/\∃I,Ut w w' m.τ y cs B I)->(mv= .int .i64 k/\∃G',Inv w0 c0 U (E.mark (rowsOf m.τ y sh)) a w' G'):=by
  rintro mv w' ⟨h1,I,d⟩;refine⟨h1,?_⟩;obtain⟨D,i2,f,j1,j2⟩:=Wa z K d.rep d.nd
  obtain⟨G',q,_⟩:=J.abM (L:=rowsOf m.τ y sh) (B:=B) (B2:=I) (w':=w') (fun p d=>by
   have u:p.t∈ts:=by rw[<-D];exact List.mem_map_of_mem d
   exact⟨i2 _ u,R _ (Sh.xn j _ u)⟩) f (fun b l=>by rw[D];exact hc b l)
   (fun b l=>⟨(d.inn b l).imp (fun h=>by rw[D];exact hc b h) id,by rw[D];exact j1 b l,d.fresh b l⟩) d.frame d.size d.os d.tape d.output j2
  exact⟨G',q⟩
 split at this;exact Calls.mono this (fun e w' ⟨v,h1,h2⟩=>⟨v,h1,key v w' h2⟩);exact key _ _ this;exact this
theorem bP.part:∀ {p:List Bool} {τ:Ty} {x:τ.den} {sh:Sh} {cs:List Value} {B:List Nat} {r:TV},pY τ x sh p=some r->bP w τ x cs B->
 ∃D Bo I,B=D++Bo++I/\bP w r.τ r.x ((cs.drop (τ.off p)).take r.τ.sz) Bo/\τ.off p+r.τ.sz<=τ.sz/\
  ∀(w':World) (v:r.τ.den) (sv:Sh) (J:List Nat) (y:τ.den) (s:Sh),(∀b∈D++I,w'.heap[b]?=w.heap[b]?)->bP w' r.τ v ((cs.drop (τ.off p)).take r.τ.sz) J->
   qJ τ x sh p ⟨r.τ,v,sv⟩=some (y,s)->bP w' τ y cs (D++J++I)
 | [],τ,x,sh,cs,B,r,hr,h=>by
   have:r=⟨τ,x,sh⟩:=by cases τ<;>simp_all[pY]
   subst this;have hl:=bP.len h;have h0:τ.off []=0:=by cases τ<;>rfl
   have X:(cs.drop 0).take τ.sz=cs:=by rw[apc,aor (by omega)]
   refine⟨[],B,[],by simp,by rw[h0,X];exact h,by rw[h0];simp,fun w' v sv J y s _ z u=> ?_⟩
   have b0:rE ⟨τ,v,sv⟩ τ=some y:=by
    cases τ<;>(simp only[qJ]at u;split at u<;>simp_all)
   have e:=mR b0;simp only[TV.mk.injEq,heq_eq_eq,true_and]at e;rw[h0,X]at z;rw[<-e.1];simpa using z
 |false::p,.pair a b,x,.pair s1 s2,cs,B,r,hr,h=>by
  obtain⟨R,S,B1,B2,rfl,rfl,Y,h2⟩:=h;obtain⟨D,Bo,I,rfl,hq,hle,hk⟩:=bP.part (p:=p) (by simpa[pY]using hr) Y;have hl:=bP.len Y
  have e:((R++S).drop (a.off p)).take r.τ.sz=(R.drop (a.off p)).take r.τ.sz:=by
   rw[aoC (by omega),List.take_append_of_le_length (by simp;omega)]
  refine⟨D,Bo,I++B2,by simp,by simp only[Ty.off];rw[e];exact hq,by simp only[Ty.off,Ty.sz];omega,fun w' v sv J y s W z u=> ?_⟩;simp only[Ty.off]at z;rw[e]at z;simp only[qJ]at u;split at u;rename_i y1 K N;cases u;have:=hk w' v sv J y1 K (fun b q=>W b (by simp only[g']at q|-;rcases q with q|q<;>simp[q])) z N;exact⟨R,S,_,B2,rfl,by simp,this,bP.mono (fun b q=>W b (by simp[q])) h2⟩;cases u
 |true::p,.pair a b,x,.pair s1 s2,cs,B,r,hr,h=>by
  obtain⟨R,S,B1,B2,rfl,rfl,Y,h2⟩:=h;obtain⟨D,Bo,I,rfl,hq,hle,hk⟩:=bP.part (p:=p) (by simpa[pY]using hr) h2;have hl:=bP.len Y
  have e:((R++S).drop (a.sz+b.off p)).take r.τ.sz=(S.drop (b.off p)).take r.τ.sz:=by
   rw[<-hl,List.drop_append,List.drop_of_length_le (by omega)];simp
  refine⟨B1++D,Bo,I,by simp,by simp only[Ty.off];rw[e];exact hq,by simp only[Ty.off,Ty.sz];omega,fun w' v sv J y s W z u=> ?_⟩;simp only[Ty.off]at z;rw[e]at z;simp only[qJ]at u;split at u;rename_i y1 K N;cases u;have:=hk w' v sv J y1 K (fun b q=>W b (by simp only[g']at q|-;rcases q with q|q<;>simp[q])) z N;exact⟨R,S,B1,_,rfl,by simp,bP.mono (fun b q=>W b (by simp[q])) Y,this⟩;cases u
 |b::p,.int _,_,_,_,_,_,hr,_|b::p,.bool,_,_,_,_,_,hr,_|b::p,.str,_,_,_,_,_,hr,_|b::p,.sl _,_,_,_,_,_,hr,_=>by simp[pY]at hr
 |false::p,.pair _ _,_,.leaf,_,_,_,hr,_|false::p,.pair _ _,_,.sl _,_,_,_,hr,_=>by simp[pY]at hr
 |true::p,.pair _ _,_,.leaf,_,_,_,hr,_|true::p,.pair _ _,_,.sl _,_,_,_,hr,_=>by simp[pY]at hr
def cellsOf(w:World)(b o n:Nat):List Value:=match w.heap[b]? with|some (.cells c _ _)=>(c.toList.drop o).take n|_=>[]
def ajL(hI:Inv w0 c0 U E a w G){x0:FuncId}{m:Px}(hM:acQ P x0 m){b:Nat}{e:Ty}{l:List e.den}{hs:List Nat}(E0:E.rd.row b e=some (l,hs,true))(G0:hs.all (·==b)=true)
 {J of n cap:Nat} (hb:G.hdr b= .slice (some ⟨J,of,none⟩) n cap) {i:Nat} (hi:i<n) {L0:Sh} {path:List Bool} {r:TV} (R0:pY e (l.getD i e.aa) L0 path=some r) {x y:m.τ.den} (hx:rE r m.τ=some x)
 {z k:Int} (hF:m.F x z=some (k,y)) {sv:Sh} {ye:e.den} {se:Sh} (a1:qJ e (l.getD i e.aa) L0 path ⟨m.τ,y,sv⟩=some (ye,se)):
 (∃c el fz,w.heap[J]?=some (.cells c el fz)/\of+i*e.sz+e.off path+m.τ.sz<=c.size)/\
 NB P x0 #[kE m.τ (cellsOf w J (of+i*e.sz+e.off path) m.τ.sz),.int .i64 z] w (fun mv w'=>mv=Value.int .i64 k/\∃G',Inv w0 c0 U (E.mark [⟨b,e,l.set i ye⟩]) a w' G'):=by
 obtain⟨⟨vh,o1⟩,r0⟩:=hI.od E0;have b1:vh=G.hdr b:=o1.2.1.symm;obtain⟨Y,hh,B,hB,hc⟩:=o1;rw[b1,hb]at hB
 have c1:∀h∈hs,h=b:=by
  rw[s_]at G0;intro h hh;simpa using G0 h hh
 rcases hB with⟨⟨ao,hB⟩,hl0,_⟩|⟨bk',of',cap',c,el,fz,Bs,k0,n0,N,w1,rfl,hl⟩;cases hB;omega;simp only[Value.slice.injEq,anJ,Addr.mk.injEq,and_true]at k0;obtain⟨⟨rfl,rfl⟩,rfl,rfl⟩:=k0;obtain⟨j1,j2,j3,j4⟩:=hc J Bs rfl;have S:=j4 rfl
 have e1:l[i]?=some (l.getD i e.aa):=by
  rw[anM,anP hi];rfl
 obtain⟨B1,Bx,B2,rfl,x1,y1,z1⟩:=cr.get (sz:=e.sz) (fun x c B h=>bP.len h) hl e1;obtain⟨Ba,R,Bb,rfl,s0,hle,hk⟩:=bP.part R0 x1;have er:=mR hx;generalize r.sh=rsh at er;subst er;have hmul:(i+1)*e.sz<=l.length*e.sz:=anS _ hi;have hmul2:l.length*e.sz<=cap*e.sz:=anS _ n0;rw[Y_,aob]at hmul
 have e0:((((c.toList.drop of).take (l.length*e.sz)).drop (i*e.sz)).take e.sz |>.drop (e.off path)).take m.τ.sz=(c.toList.drop (of+i*e.sz+e.off path)).take m.τ.sz:=by
  simp only[ape,an0,aoT];simp only at hle;rw[aoR (by omega)]
 simp only at s0 hle hk;rw[e0]at s0 hk
 have r1:cellsOf w J (of+i*e.sz+e.off path) m.τ.sz=(c.toList.drop (of+i*e.sz+e.off path)).take m.τ.sz:=by
  unfold cellsOf;rw[N]
 refine⟨⟨c,el,fz,N,by omega⟩,?_⟩;have s:∀z∈B1++(Ba++R++Bb)++B2,G.col z=b:=fun z hz=>c1 _ (j3 z hz)
 have k1:R.Nodup:=by
  rw[S_,S_,S_,S_]at S;exact S.1.2.1.1.2.1
 have hU:=hM w x z k y _ R hF s0 k1 (fun q d=>hI.fresh q (by rw[s q (by simp[d])];exact Y));rw[r1]
 have key:∀(mv:Value) (w':World),(mv= .int .i64 k/\∃B',Ut w w' m.τ y ((c.toList.drop (of+i*e.sz+e.off path)).take m.τ.sz) R B')->(mv= .int .i64 k/\∃G',Inv w0 c0 U (E.mark [⟨b,e,l.set i ye⟩]) a w' G'):=by
  rintro mv w' ⟨h1,Bv,K⟩;refine⟨h1,?_⟩
  have D:∀q∈J::(B1++(Ba++R++Bb)++B2),q∉R->w'.heap[q]?=w.heap[q]?:=by
   intro q d hn;refine K.frame q (hI.lt q ?_) hn;rcases p_.1 d with rfl|d;rw[j1];omega;rw[s q d];omega
  have W:J∉R:=fun h=>j2 (by simp[h])
  have f:∀q,q∈B1\/q∈Ba\/q∈Bb\/q∈B2->q∉R:=by
   intro q d b0;rw[S_,S_,S_,S_]at S;obtain⟨⟨n1,⟨⟨m1,m2,m3⟩,m4,m5⟩,n3⟩,n4,n5⟩:=S;rcases d with d|d|d|d;exact n3 q d q (by simp[b0]) rfl;exact m3 q d q b0 rfl;exact m5 q (by simp[b0]) q d rfl;exact n5 q (by simp[b0]) q d rfl
  have u1:=hk w' y sv Bv ye se (fun q d=>D q (by simp only[g']at d;rcases d with d|d<;>simp[d]) (f q (by simp only[g']at d;rcases d with d|d<;>simp[d]))) K.rep a1
  have j0:=cr.set (sz:=e.sz) (l:=l) (i:=i) (cs:=(c.toList.drop of).take (l.length*e.sz)) hi u1
   (cr.world (fun q d=>D q (by simp[d]) (f q (by simp[d]))) y1) (cr.world (fun q d=>D q (by simp[d]) (f q (by simp[d]))) z1)
  have o0:((c.toList.drop of).take (l.length*e.sz)).take (i*e.sz)++(((c.toList.drop of).take (l.length*e.sz)).drop (i*e.sz)).take e.sz++((c.toList.drop of).take (l.length*e.sz)).drop ((i+1)*e.sz)=(c.toList.drop of).take (l.length*e.sz):=by
   rw[Y_,aob,<-an0,an8,aou,aou]
  rw[o0]at j0;have h0:w'.heap[J]?=some (.cells c el fz):=(D J (by simp) W).trans N
  have l1:∀q∈Bv,q∉J::(B1++(Ba++R++Bb)++B2)\/q∈R:=by
   intro q d;rcases K.inn q d with h|h;exact .inr h;refine .inl (fun j=> ?_)
   have:q<w.heap.size:=hI.lt q (by
    rcases p_.1 j with rfl|j;rw[j1];omega;rw[s q j];omega)
   omega
  have X:(J::(B1++(Ba++Bv++Bb)++B2)).Nodup:=by
   rw[an2]
   have hd:∀q∈Bv,q≠J/\q∉B1/\q∉Ba/\q∉Bb/\q∉B2:=by
    intro q d;rcases l1 q d with h|h;simp only[p_,g',not_or]at h;exact⟨h.1,h.2.1.1,h.2.1.2.1.1,h.2.1.2.2,h.2.2⟩;exact⟨fun e=>W (e▸h),fun hh=>f q (.inl hh) h,fun hh=>f q (.inr (.inl hh)) h,fun hh=>f q (.inr (.inr (.inl hh))) h,fun hh=>f q (.inr (.inr (.inr hh))) h⟩
   constructor;intro j;simp only[g',not_or]at j j2;rcases j with(j|((j|j)|j))|j;exact j2.1.1 j;exact j2.1.2.1.1 j;exact(hd J j).1 rfl;exact j2.1.2.2 j;exact j2.2 j;rw[S_,S_,S_,S_]at S|-;obtain⟨⟨n1,⟨⟨m1,m2,m3⟩,m4,m5⟩,n3⟩,n4,n5⟩:=S;refine⟨⟨n1,⟨⟨m1,K.nd,fun u I v t e=>(hd v t).2.2.1 (e▸I)⟩,m4,fun u I v t e=> ?_⟩,fun u I v t e=> ?_⟩,n4,fun u I v t e=> ?_⟩;rcases g'.1 I with I|I;exact m5 u (by simp[I]) v t e;exact(hd u I).2.2.2.1 (e▸t);simp only[g']at t;rcases t with(t|t)|t;exact n3 u I v (by simp[t]) e;exact(hd v t).2.1 (e▸I);exact n3 u I v (by simp[t]) e;simp only[g']at I;rcases I with I|((I|I)|I);exact n5 u (by simp[I]) v t e;exact n5 u (by simp[I]) v t e;exact(hd u I).2.2.2.2 (e▸t);exact n5 u (by simp[I]) v t e
  obtain⟨G',q,_⟩:=hI.abM (L:=[⟨b,e,l.set i ye⟩]) (B:=R) (B2:=J::(B1++(Ba++Bv++Bb)++B2)) (w':=w') (fun p K=>by
   simp only[anW]at K;subst K;exact⟨Y,r0 b (by simp)⟩) (fun _=>b) (fun q d=>by simp[s q (by simp[d])])
   (fun q d=>by
    refine⟨?_,by simp,?_⟩;by_cases t:q∈Bv;rcases K.inn q t with h|h;left;simp[s q (by simp[h])];exact .inr h;left;rcases p_.1 d with rfl|d;simp[j1];simp only[g']at d
    have:q∈B1++(Ba++R++Bb)++B2:=by
     rcases d with(h|((h|h)|h))|h;simp[h];simp[h];exact absurd h t;simp[h];simp[h]
    simp[s q this];by_cases t:q∈Bv;exact K.fresh q t
    have p0:q∈J::(B1++(Ba++R++Bb)++B2)/\q∉R:=by
     rcases p_.1 d with rfl|d;exact⟨by simp,W⟩;simp only[g']at d;rcases d with(h|((h|h)|h))|h;exact⟨by simp[h],f q (by simp[h])⟩;exact⟨by simp[h],f q (by simp[h])⟩;exact absurd h t;exact⟨by simp[h],f q (by simp[h])⟩;exact⟨by simp[h],f q (by simp[h])⟩
    obtain⟨c',A1,C1⟩:=hI.fresh q (by
     rcases p_.1 p0.1 with rfl|p1;rw[j1];exact Y;rw[s q p1];exact Y)
    exact⟨c',A1,(D q p0.1 p0.2).trans C1⟩) K.frame K.size K.os K.tape K.output
   (fun G' g1 g2 p K=>by
    simp only[anW]at K;subst K;rw[an2]at X;refine⟨Y,by rw[g1],J::(B1++(Ba++Bv++Bb)++B2),.inr ⟨J,of,cap,c,el,fz,_,by rw[hb];simp,by simpa using n0,h0,w1,rfl,by rw[apa];exact j0⟩,?_⟩;rintro h Bs' u0;cases u0;exact⟨g2 J (by simp),X.1,fun q d=>by simp[g2 q (anT _ d)],fun _=>X.2⟩)
  exact⟨G',q⟩
 unfold NB at hU|-;split at hU;exact Calls.mono hU (fun e w' ⟨v,h1,h2⟩=>⟨v,h1,key v w' h2⟩);exact key _ _ hU;exact hU
end
section
variable{ρ:Type}
def GR(o:Oper)(a:Option Bool)(E:Env)(k:Env->Option ρ):Ef->Option ρ
 | .val v=>k (E.set o.dst (nE o.guard a v))
 | .chk c v=>if(match a with|none=>c|some b=> !b||c)=true then k (E.set o.dst (nE o.guard a v))else none
 | .opt _ z x f=>(match a with|none=>x|some b=>if b=true then x else some z).bind fun r=>k (E.set o.dst (nE o.guard a (f r)))
 | .put b s v=>match a.isNone&&o.dst.isNone with|true=>k {E with s:=E.s.set s (.box b v)}|false=>none
 | .app c kl gv t v=>match a.isNone with|true=>(if c=true then k (((E.kill kl).cu gv t).set o.dst v.zZ)else none)|false=>none
 | .elem gv b e l m=>match a.isNone&&o.dst.isNone with|true=>k (E.elem gv b e l m)|false=>none
 | .nap c gv b e l m v=>match a.isNone with|true=>(if c=true then k ((E.elem gv b e l m).set o.dst v.zZ)else none)|false=>none
 | .call _ x tks f rp=>match a.isNone with|true=>x.bind fun r=>let E1:=E.ib tks (rp r);k (Env.set {E1 with s:=fB (f r).2 E1.s} o.dst (f r).1.zZ)|false=>none
def aeE(o:Oper)(a:Option Bool)(E:Env)(k:Env->Option ρ)(d:Ef):GR o a E k d=dT o a E k d:=by
 cases d with
 |put b s v=>simp only[GR,dT];cases (a.isNone&&o.dst.isNone)<;>rfl
 |app c kl h t v=>simp only[GR,dT];cases (a.isNone)<;>rfl
 |elem h b e l m=>simp only[GR,dT];cases (a.isNone&&o.dst.isNone)<;>rfl
 |nap c h b e l m v=>simp only[GR,dT];cases a.isNone<;>rfl
 |call α x tks f rp=>simp only[GR,dT];cases (a.isNone)<;>rfl
 |_=>rfl
def akx(C:Cx)(ops:List Oper)(nt:Nat):List Oper->Nat->Env->(Env->Option ρ)->Option ρ
 | [],_,E,k=>k E
 |o::l,i,E,k=>match guardOf ops E.rd o.guard with
  |none=>none
  |some a=>match D3 C ops E.rd (nt+32*i) o.guard o with
   |none=>none
   |some c=>GR o a E (fun E'=>akx C ops nt l (i+1) E' k) c
def Ue(o:Oper)(a:Option Bool)(d:Ef)(k:Tr×List (Nat×SV)->Option ρ):Option ρ:=
 match d with
 | .val v=>k (.id,wr o.dst (nE o.guard a v))
 | .chk c v=>if(match a with|none=>c|some b=> !b||c)=true then k (.id,wr o.dst (nE o.guard a v))else none
 | .opt _ z x f=>(match a with|none=>x|some b=>if b=true then x else some z).bind fun r=>k (.id,wr o.dst (nE o.guard a (f r)))
 | .put b s v=>match a.isNone&&o.dst.isNone with|true=>k (.id,[(s,.box b v)])|false=>none
 | .app c kl gv t v=>match a.isNone with|true=>(if c=true then k (.kg kl gv t,wr o.dst v.zZ)else none)|false=>none
 | .elem gv b e l m=>match a.isNone&&o.dst.isNone with|true=>k (.el gv b e l m,[])|false=>none
 | .nap c gv b e l m v=>match a.isNone with|true=>(if c=true then k (.el gv b e l m,wr o.dst v.zZ)else none)|false=>none
 | .call _ x tks f rp=>match a.isNone with|true=>x.bind fun r=>k (.ki tks (rp r),(f r).2.map (fun p=>(p.2.1,SV.box p.1 p.2.2))++wr o.dst (f r).1.zZ)|false=>none
def aiG(o:Oper)(a:Option Bool)(d:Ef)(k:Tr×List (Nat×SV)->Option ρ):Ue o a d k=LV o a d k:=by
 cases d with
 |put b s v=>simp only[Ue,LV];cases (a.isNone&&o.dst.isNone)<;>rfl
 |app c kl h t v=>simp only[Ue,LV];cases (a.isNone)<;>rfl
 |elem h b e l m=>simp only[Ue,LV];cases (a.isNone&&o.dst.isNone)<;>rfl
 |nap c h b e l m v=>simp only[Ue,LV];cases a.isNone<;>rfl
 |call α x tks f rp=>simp only[Ue,LV];cases (a.isNone)<;>rfl
 |_=>rfl
def SS(C:Cx)(ops:List Oper)(nt:Nat):List Oper->Nat->Env->List nh->(Env->List nh->Option ρ)->Option ρ
 | [],_,E,L,k=>k E L
 |o::l,i,E,L,k=>match guardOf ops E.rd o.guard with
  |none=>none
  |some a=>match D3 C ops E.rd (nt+32*i) o.guard o with
   |none=>none
   |some c=>Ue o a c fun r=>SS C ops nt l (i+1) (E.vf r) (QL ops i o E r::L) k
theorem Ub(C:Cx)(ops:List Oper)(nt:Nat)(k:Env->List nh->Option ρ):∀(l:List Oper) (i:Nat) (E:Env) (L:List nh),SS C ops nt l i E L k=SJ C ops nt l i E L k
 | [],_,_,_=>rfl
 |o::l,i,E,L=>by
  simp only[SS,SJ,aiG];cases guardOf ops E.rd o.guard with
  |none=>rfl
  |some a=>
   simp only;cases D3 C ops E.rd (nt+32*i) o.guard o with
   |none=>rfl
   |some ef=>
    simp only;congr 1;funext r;exact Ub C ops nt k l (i+1) (E.vf r) _
end
section
variable{P:Program}{C:Cx}{w0:World}{c0:C0}{U:Nat->Prop}{E:Env}{a:Act}{w:World}{G:Gh}{Q:Exit->Act->World->Prop}
def ajG{e:Ty}{l:List e.den}{b off cap:Nat}{c:Array Value}{el:TypeId}{t:List Nat}{i:Nat}(hi:i<l.length)(S:w.heap[b]?=some (.cells c el (0,0)))
 (hsz:off+cap*e.sz<=c.size) (k:l.length<=cap) (W:cr (bP w e) l ((c.toList.drop off).take (l.length*e.sz)) t) (j:(b::t).Nodup):
 ∃f,me (w.setCells b (off+i*e.sz) (((c.toList.drop off).take (l.length*e.sz)).drop ((i+1)*e.sz))) e.sz (bP (w.setCells b (off+i*e.sz) (((c.toList.drop off).take (l.length*e.sz)).drop ((i+1)*e.sz))) e)
  (l.take i++l.drop (i+1)) (.slice (some ⟨b,off,none⟩) (l.length-1) cap) (b::f)/\(∀x∈f,x∈t)/\(b::f).Nodup:=by
 have s:l[i]?=some l[i]:=anP hi;obtain⟨I,Bx,J,rfl,_,h1,q⟩:=cr.get (sz:=e.sz) (fun x c B h=>bP.len h) W s;generalize m:(c.toList.drop off).take (l.length*e.sz)=cs at*
 have hm1:i*e.sz+e.sz=(i+1)*e.sz:=by rw[Y_,aob]
 have hm2:(i+1)*e.sz<=l.length*e.sz:=anS _ hi;have hm3:l.length*e.sz<=cap*e.sz:=anS _ k;have n:cs.length=l.length*e.sz:=by rw[<-m];simp;omega
 generalize u:cs.drop ((i+1)*e.sz)=ys at*
 have v:ys.length=l.length*e.sz-(i+1)*e.sz:=by rw[<-u];simp[n]
 have p:=vL b (el:=el) ys (off+i*e.sz) w c S (by omega);rw[an2]at j;simp only[g',not_or,an8]at j
 have y:∀z∈I++J,(w.setCells b (off+i*e.sz) ys).heap[z]?=w.heap[z]?:=by
  intro z K;refine fN b _ _ w z (fun e=> ?_);subst e;rcases g'.1 K with h|h;exact j.1.1 h;exact j.1.2.2 h
 refine⟨I++J,.inr ⟨b,off,cap,_,el,(0,0),I++J,?_,?_,p,?_,rfl,?_⟩,?_,?_⟩;simp;omega;simp;omega;simp;omega
 have hlen:(l.take i++l.drop (i+1)).length*e.sz=i*e.sz+ys.length:=by
  have:(l.take i++l.drop (i+1)).length=i+(l.length-(i+1)):=by simp;omega
  rw[this,Y_,v,Nat.sub_mul]
 have d:((c.toList.take (off+i*e.sz)++ys++c.toList.drop (off+i*e.sz+ys.length)).drop off).take ((l.take i++l.drop (i+1)).length*e.sz)=cs.take (i*e.sz)++ys:=by
  have htl:(c.toList.take (off+i*e.sz)).length=off+i*e.sz:=by simp;omega
  have X:(c.toList.take (off+i*e.sz)).drop off=cs.take (i*e.sz):=by
   rw[<-m,aoT,aoR (by omega),ape];congr 1;omega
  rw[an8,aoC (by omega),X,<-an8,hlen];have D:(cs.take (i*e.sz)++ys).length=i*e.sz+ys.length:=by rw[aoF,List.length_take,n,aoR (by omega)]
  rw[<-D,List.take_left]
 have Y:=cr.append h1 q;have:=cr.world y Y;rw[d];exact this;intro x s;rcases g'.1 s with h|h;simp[h];simp[h];rw[an2];refine⟨fun h=> ?_,?_⟩;rcases g'.1 h with h|h;exact j.1.1 h;exact j.1.2.2 h;have q:=j.2;rw[S_]at q|-;obtain⟨q1,q2,q3⟩:=q;rw[S_]at q2;exact⟨q1,q2.2.1,fun a N b R=>q3 a N b (an7 _ R)⟩
theorem Inv.del(I:Inv w0 c0 U E a w G){e:Ty}{l:List e.den}{v:Value}{m:M}{ts:List Nat}(hr:gq w G e l v m)(ho:m.own=some ts)(q:∀c∈ts,4<=c/\Good U G c)
 {i:Nat} (hi:i<l.length) {tk:Nat} (h3:4<=tk) (hU:¬U tk):
 ∃b off cap c el,v= .slice (some ⟨b,off,none⟩) l.length cap/\l.length<=cap/\w.heap[b]?=some (.cells c el (0,0))/\off+cap*e.sz<=c.size/\(∀u∈(c.toList.drop off).take (l.length*e.sz),u.oneCell'=true)/\
  ∃G',Inv w0 c0 (fun u=>U u\/u=tk) (E.kill ts) a (w.setCells b (off+i*e.sz) (((c.toList.drop off).take (l.length*e.sz)).drop ((i+1)*e.sz))) G'/\
   gq (w.setCells b (off+i*e.sz) (((c.toList.drop off).take (l.length*e.sz)).drop ((i+1)*e.sz))) G' e (l.take i++l.drop (i+1)) (.slice (some ⟨b,off,none⟩) (l.length-1) cap) (.row tk [tk] true)/\G'.bx tk=false:=by
 obtain⟨B,hB,hn,hc⟩:=hr.own ho;rcases hB with⟨_,rfl,_⟩|⟨b,off,cap,c,el,fz,Bs,hv,y,hb,R,rfl,hl⟩;simp at hi;have D:=hc b (by simp);obtain⟨c',S,K⟩:=I.fresh b (q _ D).1;rw[K]at hb;simp only[anJ,Obj.cells.injEq]at hb;obtain⟨rfl,rfl,rfl⟩:=hb;obtain⟨e0,r1,r2,r3⟩:=ajG hi K R y hl hn;refine⟨b,off,cap,c',S,hv,y,K,R,cr.afM hl,G.cu ts tk (.slice (some ⟨b,off,none⟩) (l.length-1) cap),?_,⟨h3,by simp[Gh.cu],b::e0,r1,fun b2 Bs2 h2=> ?_⟩,by simp[Gh.cu]⟩;have hm2:(i+1)*e.sz<=l.length*e.sz:=anS _ hi;have hm1:i*e.sz+e.sz=(i+1)*e.sz:=by rw[Y_,aob]
 have hm3:l.length*e.sz<=cap*e.sz:=anS _ y;generalize Y:((c'.toList.drop off).take (l.length*e.sz)).drop ((i+1)*e.sz)=ys at*
 have hyl:ys.length=l.length*e.sz-(i+1)*e.sz:=by rw[<-Y];simp;omega
 have N:=vL b (el:=S) ys (off+i*e.sz) w c' K (by omega)
 refine(I.kill ts).change (ts:=ts) (aeN I q) (fun z _ p=>⟨fN b _ _ w z (fun e=>p (e▸D)),by simp[Gh.cu,p]⟩) (fun u hu=> ?_) (fun _ h=> .inl h) (fun z p=> ?_)
  (fun z p=> ?_) (fun z p=> ?_) (fun z p W=> ?_) (fun z p=> ?_) (by rw[pC];exact aoa _)
  (ir b _ _ w).1 (ir b _ _ w).2.1 (ir b _ _ w).2.2
 have:u≠tk:=fun e=>hU (e▸hu);simp[Gh.cu,this];simp only[Gh.cu]at p|-;split at p;right;rw[an (by assumption)];left;rw[a_ (by assumption)];exact I.colU z p;rw[pC];simp only[Gh.cu]at p;split at p;rename_i h;exact I.lt z (by have:=(q _ h).1;omega);exact I.lt z p
 have b0:4<=G.col z:=by
  simp only[Gh.cu]at p;split at p;rename_i h;exact(q _ h).1;exact p
 by_cases e1:z=b;subst e1;exact⟨_,_,N⟩;rw[fN b _ _ w z e1];exact I.fresh z b0;have K:=I.frame z p W;have J:G.col z∉ts:=fun h=>by have:=(q _ h).1;omega
 refine⟨(a_ J).trans K.1,?_⟩;rw[fN b _ _ w z (fun e=>J (e▸D))];exact K.2;simp only[Gh.cu]at p|-;split at p;omega;rename_i X;rw[a_ X];cases h2;refine⟨by simp[Gh.cu,D],(an2.1 r3).1,fun x hx=> ?_,fun _=>(an2.1 r3).2⟩;simp[Gh.cu,hc x (anT _ (r2 x hx))]
end
def R6(o:Oper):Option (Nat×Nat):=
 match o.guard,o.op,o.dst with
 |none,.move (.tmp x),some d=>some (d,x)
 |_,_,_=>none
def abw(o:Oper):Option (Nat×Nat):=
 match o.guard,o.op,o.dst with
 |none,.assign (.tmp x),some d=>some (d,x)
 |_,_,_=>none
def afs(o:Oper):Option (TypeId×Nat×Nat×Nat):=
 match o.guard,o.op,o.dst with
 |none,.slice t (.tmp x) none (some (.tmp h)) none,some d=>some (t,d,x,h)
 |_,_,_=>none
def afV(o:Oper):Option (TypeId×Nat×Nat×Nat):=
 match o.guard,o.op,o.dst with
 |none,.slice t (.tmp x) (some (.tmp h)) none none,some d=>some (t,d,x,h)
 |_,_,_=>none
def abA(o:Oper):Option (TypeId×Nat×Nat):=
 match o.guard,o.op,o.dst with
 |none,.binOp .add t (.tmp x) (.const (.int .i64 1)) _,some d=>some (t,d,x)
 |_,_,_=>none
def abz(o:Oper):Option (TypeId×Nat×Nat×Nat):=
 match o.guard,o.op,o.dst with
 |none,.call c,some d=>(match c.callee,c.args.toList,c.argTypes.toList with
  | .builtin .append,[.tmp x,.tmp y],[t,u]=>(match decide (t=u)with|true=>some (t,d,x,y)|false=>none)
  |_,_,_=>none)
 |_,_,_=>none
structure Js where
 t:TypeId
 ti:TypeId
 s:Nat
 j:Nat
 d0:Nat
 d1:Nat
 d2:Nat
 d3:Nat
 d4:Nat
 d5:Nat
 d6:Nat
 d7:Nat
def Js.tmps(d:Js):List Nat:=[d.s,d.j,d.d0,d.d1,d.d2,d.d3,d.d4,d.d5,d.d6,d.d7]
def Js.outs(d:Js):List Nat:=[d.s,d.d0,d.d1,d.d2,d.d3,d.d4,d.d5,d.d6,d.d7]
def lst(n:Nat):Nat->Array Bool
 |0=>aoQ n false
 |i+1=>(lst n i).setIfInBounds i true
def adY(ops:Array Oper):Bool:=
 Region.noSelect ops&&(List.range 7).all (fun i=>Region.free .any ops (lst 9 i) i&&(Region.ready .any ops (lst 9 i)).contains i)&&
 decide (Region.ready .any ops (lst 9 7)=[7])&&decide (Region.ready .any ops (lst 9 8)=[8])&&decide (Region.ready .any ops (lst 9 9)=[])
def Om(ops:List Oper):Option Js:=
 match ops with
 | [o0,o1,o2,o3,o4,o5,o6,o7,o8]=>
   match R6 o0,R6 o1,afs o2,R6 o3,R6 o4,abA o5,afV o6,abz o7,abw o8 with
   |some (d0,s),some (d1,j),some (t,d2,x2,h2),some (d3,s3),some (d4,j4),some (ti,d5,x5),some (t6,d6,x6,l6),some (t7,d7,x7,y7),some (s8,x8)=>
    match decide (x2=d0/\h2=d1/\s3=s/\j4=j/\x5=d4/\x6=d3/\l6=d5/\x7=d2/\y7=d6/\x8=d7/\s8=s/\t6=t/\t7=t/\([s,j,d0,d1,d2,d3,d4,d5,d6,d7]:List Nat).Nodup)&&adY #[o0,o1,o2,o3,o4,o5,o6,o7,o8]with
    |true=>some ⟨t,ti,s,j,d0,d1,d2,d3,d4,d5,d6,d7⟩
    |false=>none
   |_,_,_,_,_,_,_,_,_=>none
 |_=>none
section
variable{P:Program}{C:Cx}{w0:World}{c0:C0}{U:Nat->Prop}{E:Env}{a:Act}{w:World}{G:Gh}{Q:Exit->Act->World->Prop}
def Gs{o:Oper}{d x:Nat}(h:R6 o=some (d,x)):o.guard=none/\o.op= .move (.tmp x)/\o.dst=some d:=by
 unfold R6 at h;split at h;rename_i c e f;cases h;exact⟨c,e,f⟩;cases h
def YY{o:Oper}{d x:Nat}(h:abw o=some (d,x)):o.guard=none/\o.op= .assign (.tmp x)/\o.dst=some d:=by
 unfold abw at h;split at h;rename_i c e f;cases h;exact⟨c,e,f⟩;cases h
def aaX{o:Oper}{t:TypeId}{d x y:Nat}(h:afs o=some (t,d,x,y)):o.guard=none/\o.op= .slice t (.tmp x) none (some (.tmp y)) none/\o.dst=some d:=by
 unfold afs at h;split at h;rename_i c e f;cases h;exact⟨c,e,f⟩;cases h
def aaH{o:Oper}{t:TypeId}{d x y:Nat}(h:afV o=some (t,d,x,y)):o.guard=none/\o.op= .slice t (.tmp x) (some (.tmp y)) none none/\o.dst=some d:=by
 unfold afV at h;split at h;rename_i c e f;cases h;exact⟨c,e,f⟩;cases h
def YD{o:Oper}{t:TypeId}{d x:Nat}(h:abA o=some (t,d,x)):o.guard=none/\(∃u,o.op= .binOp .add t (.tmp x) (.const (.int .i64 1)) u)/\o.dst=some d:=by
 unfold abA at h;split at h;rename_i c e f;cases h;exact⟨c,⟨_,e⟩,f⟩;cases h
def Zr{o:Oper}{t:TypeId}{d x y:Nat}(h:abz o=some (t,d,x,y)):o.guard=none/\(∃c:Call,o.op= .call c/\c.callee= .builtin .append/\c.args= #[.tmp x,.tmp y]/\c.argTypes= #[t,t])/\o.dst=some d:=by
 unfold abz at h;split at h;rename_i c d' f j k;split at h;rename_i x' y' t' u' hc l m;split at h;rename_i e;simp only[b_]at e;cases h;subst e;exact⟨f,⟨c,j,hc,aoV (by simpa using l),aoV (by simpa using m)⟩,k⟩;cases h;cases h;cases h
def Yx{o:Oper}{x:Nat}(h:o.op= .move (.tmp x)):(execOp a.eval o).run P w= .ok (.value (a.tmps.getD x undef)) w:=by
 simp only[execOp,h];rfl
def ajH{o:Oper}{x:Nat}(h:o.op= .assign (.tmp x)):(execOp a.eval o).run P w= .ok (.value (a.tmps.getD x undef)) w:=by
 simp only[execOp,h];rfl
def Nj{d s:Nat}{v:Value}(h:d<a.tmps.size):(a.put (some d) v).tmps.getD s undef=if s=d then v else a.tmps.getD s undef:=by
 rw[aco a (some d) v s (by rintro x ⟨⟩;exact h)];by_cases e:s=d;subst e;rw[an rfl,an rfl];rw[a_ (by simpa using e),a_ e]
def aho{o:Oper}{t el:TypeId}{e:Ty}{x y n cap b off:Nat}{i:Nat}(f:P.underlying t=some (.slice el))(j:tQ P el e)(h:o.op= .slice t (.tmp x) none (some (.tmp y)) none)
 (l:a.tmps.getD x undef= .slice (some ⟨b,off,none⟩) n cap) (m:a.tmps.getD y undef= .int .i64 i) (h1:i<=cap):(execOp a.eval o).run P w= .ok (.value (.slice (some ⟨b,off,none⟩) i cap)) w:=by
 simp only[execOp,h];refine nV ?_;have d:a.eval (.tmp x)= .slice (some ⟨b,off,none⟩) n cap:=l;have c:a.eval (.tmp y)= .int .i64 i:=m;have:=zG (P:=P) (w:=w) (k:= .i64) (i:=(i:Int)) (y:=cap) (code:= .sliceAcap) (by omega) (by omega);rw[d];simp only[ao3]at this;by_cases hc:cap=0;rw[hc]at this;simp[Instr.sliceAt,Instr.slice,Instr.sliceBounds,run_underlying f,n7 j,c,this,hc];simp[Instr.sliceAt,Instr.slice,Instr.sliceBounds,run_underlying f,n7 j,c,this,Addr.add_lit]
def ag5{o:Oper}{t el:TypeId}{e:Ty}{x y n cap b off:Nat}{i:Nat}(f:P.underlying t=some (.slice el))(j:tQ P el e)(h:o.op= .slice t (.tmp x) (some (.tmp y)) none none)
 (l:a.tmps.getD x undef= .slice (some ⟨b,off,none⟩) n cap) (m:a.tmps.getD y undef= .int .i64 i) (h1:i<=n):(execOp a.eval o).run P w= .ok (.value (.slice (some ⟨b,if cap=i then off else off+i*e.sz,none⟩) (n-i) (cap-i))) w:=by
 simp only[execOp,h];refine nV ?_;have d:a.eval (.tmp x)= .slice (some ⟨b,off,none⟩) n cap:=l;have c:a.eval (.tmp y)= .int .i64 i:=m;have:=zG (P:=P) (w:=w) (k:= .i64) (i:=(i:Int)) (y:=n) (code:= .sliceB) (by omega) (by omega);rw[d];simp only[ao3]at this;by_cases hc:cap=i;subst hc;simp[Instr.sliceAt,Instr.slice,Instr.sliceBounds,run_underlying f,n7 j,c,this];simp[Instr.sliceAt,Instr.slice,Instr.sliceBounds,run_underlying f,n7 j,c,this,hc,Addr.add_lit]
def ajB{o:Oper}{t u:TypeId}{x:Nat}{i:Nat}(h:o.op= .binOp .add t (.tmp x) (.const (.int .i64 1)) u)(e:a.tmps.getD x undef= .int .i64 i)(hi:i<4294967296):
 (execOp a.eval o).run P w= .ok (.value (.int .i64 ((i+1:Nat):Int))) w:=by
 simp only[execOp,h];refine nV ?_;have c:a.eval (.tmp x)= .int .i64 i:=e;have f:a.eval (.const (.int .i64 1))= .int .i64 1:=rfl;rw[c,f]
 have j:IntKind.i64.wrap ((i:Int)+1)=((i+1:Nat):Int):=by
  simp only[IntKind.wrap,IntKind.signed,IntKind.bits];simp;omega
 have d:∀v,eqGuard .add t (.tmp x) (.const (.int .i64 1)) (.int .i64 i) v=pure ():=fun v=>eqGuard_at_int ..;simp[d,binOp,Op.intArith,j]
def agH(f:Inv w0 c0 U E a w G){j:Nat}{n:Int}{sh:Sh}(h:E.get j= .d ⟨.int .i64,n,sh⟩):a.tmps.getD j undef= .int .i64 n:=by
 have e:=f.slots j;have k:E.s.getD j .no= .d ⟨.int .i64,n,sh⟩:=h;rw[k]at e;obtain⟨l,p,c⟩:=e;cases sh with
 |leaf=>rw[p,show l=_ from c];rfl
 |sl m=>exact c.elim
 |pair a b=>exact c.elim
theorem Inv.Hz(h:Inv w0 c0 U E a w G)(d:Option Nat)(v:Value):Inv w0 c0 U (E.set d .no) (a.put d v) w G:=
 h.put d (sv:= .no) trivial (by simp[SV.sc]) (by simp[SV.bt]) (by simp[SV.rt]) (by rintro _ _ ⟨⟩)
def Y2{ops:Array Oper}{d:Js}(h:Om ops.toList=some d):∃o0 o1 o2 o3 c e f k l,ops= #[o0,o1,o2,o3,c,e,f,k,l]/\
 R6 o0=some (d.d0,d.s)/\R6 o1=some (d.d1,d.j)/\afs o2=some (d.t,d.d2,d.d0,d.d1)/\R6 o3=some (d.d3,d.s)/\R6 c=some (d.d4,d.j)/\abA e=some (d.ti,d.d5,d.d4)/\
 afV f=some (d.t,d.d6,d.d3,d.d5)/\abz k=some (d.t,d.d7,d.d2,d.d6)/\abw l=some (d.s,d.d7)/\d.tmps.Nodup/\adY ops=true:=by
 unfold Om at h;split at h;rename_i o0 o1 o2 o3 c e f k l m;split at h;rename_i p q u v x y h6 h7 h8;split at h;rename_i hc;simp only[i_,b_]at hc;obtain⟨⟨rfl,rfl,rfl,rfl,rfl,rfl,rfl,rfl,rfl,rfl,rfl,rfl,rfl,z⟩,B⟩:=hc;cases h;have n:ops= #[o0,o1,o2,o3,c,e,f,k,l]:=aoV m;exact⟨o0,o1,o2,o3,c,e,f,k,l,n,p,q,u,v,x,y,h6,h7,h8,z,by rw[n];exact B⟩;cases h;cases h;cases h
theorem SP(b:Nat):∀(c:List Value) (o n:Nat) (w:World),({w with drawn:=n}:World).setCells b o c={w.setCells b o c with drawn:=n}
 | [],_,_,_=>rfl
 |v::r,o,n,w=>by
  rw[World.setCells,World.setCells,<-SP b r (o+1) n];rfl
def XF(E:Env)(d:Js)(ts:List Nat)(tk:Nat)(e:Ty)(l:List e.den)(i:Nat):Env:=
 ((((((((((E.kill ts).set (some d.d0) .no).set (some d.d1) .no).set (some d.d2) .no).set (some d.d3) .no).set (some d.d4) .no).set (some d.d5) .no).set (some d.d6) .no).set (some d.d7) .no).set (some d.s)
   (.d ⟨.sl e,l.take i++l.drop (i+1),.sl (.row tk [tk] true)⟩))
def JO{ops:Array Oper}{o:Oper}{v:Value}(c:o.guard=none)(h:∀w,(execOp a.eval o).run P w= .ok (.value v) w):Go.Yields P ops o v a:=
 .inl ⟨by simp[Region.wanted,c],h⟩
set_option maxHeartbeats 1000000 in
theorem afO(hC:CxTy P C)(hm:P.follows .mixedOrders=true){N:Nat}(hI:Inv w0 c0 (fun u=>u<N) E a w G){ops:Array Oper}{d:Js}(hd:Om ops.toList=some d)
 {e:Ty} {l:List e.den} {m:M} {fs:List TypeId} {el:TypeId} (ht:C.tt d.t=some ⟨.sl e,fs,el⟩) (hs:E.s.getD d.s .no= .d ⟨.sl e,l,.sl m⟩) {i:Nat} {sh:Sh} (hj:E.get d.j= .d ⟨.int .i64,(i:Int),sh⟩)
 {ts:List Nat} (J:m.own=some ts) (hi:i<l.length) (hl:l.length<4294967296) (X:∀x∈d.tmps,x<E.s.length) {tk:Nat} (h3:4<=tk) (hN:N<=tk) {id:Nat}
 (hK:∀a' w' G',Inv w0 c0 (fun u=>u<N\/u=tk) (XF E d ts tk e l i) a' w' G'->(∀x,x∉d.outs->a'.tmps.getD x undef=a.tmps.getD x undef)->Q .normal a' w'):
 (Code.region id ops true).wp P Q a w:=by
 obtain⟨o0,o1,o2,o3,o4,o5,o6,o7,o8,rfl,q0,q1,q2,q3,q4,q5,q6,q7,q8,hn,K⟩:=Y2 hd;obtain⟨g0,p0,t0⟩:=Gs q0;obtain⟨g1,p1,t1⟩:=Gs q1;obtain⟨g2,p2,t2⟩:=aaX q2;obtain⟨g3,p3,t3⟩:=Gs q3;obtain⟨g4,p4,t4⟩:=Gs q4;obtain⟨g5,⟨u5,p5⟩,t5⟩:=YD q5;obtain⟨g6,p6,t6⟩:=aaH q6;obtain⟨g7,⟨c7,p7,pc,pa,pt⟩,t7⟩:=Zr q7;obtain⟨g8,p8,t8⟩:=YY q8;have hT:=(hC.tt _ _ ht).2;obtain⟨hu,R0⟩:=hT;have D:=hI.slots d.s;have I:=hI.Kt d.s;rw[hs]at D I;obtain⟨cs,D2,E2⟩:=D;obtain⟨v,rfl,R⟩:=E2;have hv:a.tmps.getD d.s undef=v:=D2;have l1:=agH hI hj
 have r2:∀c∈ts,4<=c/\Good (fun u=>u<N) G c:=by
  intro c hc;have n1:=M.xn J c hc;have h1:=I.1 c n1;refine⟨?_,h1⟩;cases m with
  |row t n2 nd=>
   obtain⟨k1,k2,k3⟩:=M.AT J;rcases(k3 c).1 hc with rfl|hc;exact R.1;exact k2 c hc
  |sha n2=>
   cases n2 with
   |nil=>simp[M.own]at J;subst J;cases hc
   |cons x y=>simp[M.own]at J
  |nst=>simp[M.own]at J
  |dead=>simp[M.own]at J
 obtain⟨b,off,cap,c,G2,rfl,S,b1,hszc,H2,x1⟩:=hI.del R J r2 hi h3 (ao9.2 hN);obtain⟨G',J2,c1,y1⟩:=x1;change l.length<=cap at S;simp only[Js.tmps,an2,p_,aof,or_false,not_or,List.nodup_nil,and_true]at hn;obtain⟨⟨n0_1,A1,B1,C1,n0_5,n0_6,n0_7,n0_8,n0_9⟩,⟨W,D1,E1,G1,n1_6,n1_7,n1_8,n1_9⟩,⟨J1,n2_4,n2_5,n2_6,n2_7,n2_8,n2_9⟩,⟨n3_4,n3_5,n3_6,n3_7,n3_8,n3_9⟩,⟨T1,W1,b2,c2,n4_9⟩,⟨h2,j2,n5_8,n5_9⟩,⟨n6_7,n6_8,n6_9⟩,⟨n7_8,n7_9⟩,n8_9⟩:=hn;have hlen:a.tmps.size=E.s.length:=hI.len;simp only[Js.tmps,p_,aof,or_false,forall_eq_or_imp,forall_eq]at X;rw[<-hlen]at X;obtain⟨z0,z1,z2,z3,z4,z5,z6,z7,z8,z9⟩:=X;simp only[adY,i_,s_,List.mem_range,b_]at K;obtain⟨⟨⟨⟨p,f⟩,T2⟩,X2⟩,b3⟩:=K;refine wp_mono (Q:=fun ex a w=>ex= .normal/\Q .normal a w) ?_ (fun ex a w h=>by obtain⟨rfl,h⟩:=h;exact h);refine wp_region_any hm ?_
 have Y:∀(v:Value) (o:Oper) c (a:Act) (w:World),(fun(ex:Exit) (a:Act) (w:World)=>ex= .normal/\Q .normal a w) (.panic c) (a.put o.dst v) w->(fun(ex:Exit) (a:Act) (w:World)=>ex= .normal/\Q .normal a w) (.panic c) a w:=
  fun v o c a w h=>by have:=h.1;cases this
 generalize r1:({w with drawn:=w.drawn+1}:World)=w1;show wpAny P .any _ _ 9 (lst 9 0) a w1;refine wpAny_take (i:=0) (oi:=o0) (v:= .slice (some ⟨b,off,none⟩) l.length cap) rfl p (f 0 (by decide)).1 (f 0 (by decide)).2 (Y _ _) (JO g0 (fun w=>by rw[<-hv];exact Yx p0)) ?_;rw[t0];generalize b0:a.put (some d.d0) (.slice (some ⟨b,off,none⟩) l.length cap)=a1;have s1:a1.tmps.size=a.tmps.size:=by rw[<-b0,DZ]
 have f1:∀s,a1.tmps.getD s undef=if s=d.d0 then .slice (some ⟨b,off,none⟩) l.length cap else a.tmps.getD s undef:=fun s=>by rw[<-b0];exact Nj z2
 refine wpAny_take (i:=1) (oi:=o1) (v:= .int .i64 i) rfl p (f 1 (by decide)).1 (f 1 (by decide)).2 (Y _ _) (JO g1 (fun w=>by
  have:=Yx (P:=P) (a:=a1) (w:=w) p1;rw[f1,a_ W,l1]at this;exact this)) ?_
 rw[t1];generalize e0:a1.put (some d.d1) (.int .i64 i)=a2;have s2:a2.tmps.size=a.tmps.size:=by rw[<-e0,DZ,s1]
 have f2:∀s,a2.tmps.getD s undef=if s=d.d1 then .int .i64 i else a1.tmps.getD s undef:=fun s=>by rw[<-e0];exact Nj (by rw[s1];exact z3)
 refine wpAny_take (i:=2) (oi:=o2) (v:= .slice (some ⟨b,off,none⟩) i cap) rfl p (f 2 (by decide)).1 (f 2 (by decide)).2 (Y _ _) (JO g2 (fun w=>
  aho (n:=l.length) hu R0 p2 (by rw[f2,a_ J1,f1,an rfl]) (by rw[f2,an rfl]) (by omega))) ?_
 rw[t2];generalize h0:a2.put (some d.d2) (.slice (some ⟨b,off,none⟩) i cap)=a3;have s3:a3.tmps.size=a.tmps.size:=by rw[<-h0,DZ,s2]
 have f3:∀s,a3.tmps.getD s undef=if s=d.d2 then .slice (some ⟨b,off,none⟩) i cap else a2.tmps.getD s undef:=fun s=>by rw[<-h0];exact Nj (by rw[s2];exact z4)
 refine wpAny_take (i:=3) (oi:=o3) (v:= .slice (some ⟨b,off,none⟩) l.length cap) rfl p (f 3 (by decide)).1 (f 3 (by decide)).2 (Y _ _) (JO g3 (fun w=>by
  have:=Yx (P:=P) (a:=a3) (w:=w) p3;rw[f3,a_ C1,f2,a_ B1,f1,a_ A1,hv]at this;exact this)) ?_
 rw[t3];generalize j0:a3.put (some d.d3) (.slice (some ⟨b,off,none⟩) l.length cap)=a4;have s4:a4.tmps.size=a.tmps.size:=by rw[<-j0,DZ,s3]
 have f4:∀s,a4.tmps.getD s undef=if s=d.d3 then .slice (some ⟨b,off,none⟩) l.length cap else a3.tmps.getD s undef:=fun s=>by rw[<-j0];exact Nj (by rw[s3];exact z5)
 refine wpAny_take (i:=4) (oi:=o4) (v:= .int .i64 i) rfl p (f 4 (by decide)).1 (f 4 (by decide)).2 (Y _ _) (JO g4 (fun w=>by
  have:=Yx (P:=P) (a:=a4) (w:=w) p4;rw[f4,a_ G1,f3,a_ E1,f2,a_ D1,f1,a_ W,l1]at this;exact this)) ?_
 rw[t4];generalize n0:a4.put (some d.d4) (.int .i64 i)=a5;have s5:a5.tmps.size=a.tmps.size:=by rw[<-n0,DZ,s4]
 have f5:∀s,a5.tmps.getD s undef=if s=d.d4 then .int .i64 i else a4.tmps.getD s undef:=fun s=>by rw[<-n0];exact Nj (by rw[s4];exact z6)
 refine wpAny_take (i:=5) (oi:=o5) (v:= .int .i64 ((i+1:Nat):Int)) rfl p (f 5 (by decide)).1 (f 5 (by decide)).2 (Y _ _) (JO g5 (fun w=>
  ajB p5 (by rw[f5,an rfl]) (by omega))) ?_
 rw[t5];generalize r0:a5.put (some d.d5) (.int .i64 ((i+1:Nat):Int))=a6;have s6:a6.tmps.size=a.tmps.size:=by rw[<-r0,DZ,s5]
 have f6:∀s,a6.tmps.getD s undef=if s=d.d5 then .int .i64 ((i+1:Nat):Int)else a5.tmps.getD s undef:=fun s=>by rw[<-r0];exact Nj (by rw[s5];exact z7)
 refine wpAny_take (i:=6) (oi:=o6) (v:= .slice (some ⟨b,if cap=i+1 then off else off+(i+1)*e.sz,none⟩) (l.length-(i+1)) (cap-(i+1))) rfl p (f 6 (by decide)).1 (f 6 (by decide)).2 (Y _ _) (JO g6 (fun w=>
  ag5 (n:=l.length) (cap:=cap) (i:=i+1) hu R0 p6 (by rw[f6,a_ j2,f5,a_ h2,f4,an rfl]) (by rw[f6,an rfl]) (by omega))) ?_
 rw[t6];generalize s0:a6.put (some d.d6) (.slice (some ⟨b,if cap=i+1 then off else off+(i+1)*e.sz,none⟩) (l.length-(i+1)) (cap-(i+1)))=a7;have s7:a7.tmps.size=a.tmps.size:=by rw[<-s0,DZ,s6]
 have f7:∀s,a7.tmps.getD s undef=if s=d.d6 then .slice (some ⟨b,if cap=i+1 then off else off+(i+1)*e.sz,none⟩) (l.length-(i+1)) (cap-(i+1))else a6.tmps.getD s undef:=fun s=>by rw[<-s0];exact Nj (by rw[s6];exact z8)
 refine wpAny_all T2 (by simp) (fun j hj=> ?_);obtain rfl:j=7:=by simpa using hj
 have hm2:(i+1)*e.sz<=l.length*e.sz:=anS _ hi;have hm1:i*e.sz+e.sz=(i+1)*e.sz:=by rw[Y_,aob]
 have hm3:l.length*e.sz<=cap*e.sz:=anS _ S;have hm4:(l.length-(i+1))*e.sz=l.length*e.sz-(i+1)*e.sz:=Nat.sub_mul ..
 have u1:(execOp a7.eval o7).run P w1= .ok (.value (.slice (some ⟨b,off,none⟩) (l.length-1) cap)) (w1.setCells b (off+i*e.sz) (((c.toList.drop off).take (l.length*e.sz)).drop ((i+1)*e.sz))):=by
  obtain⟨inf,dd,l2,z,hz,hby,_⟩:=R0;have q:w1.heap[b]?=some (.cells c G2 (0,0)):=by rw[<-r1];exact b1
  have u2:∀k u,(((c.toList.drop off).take (l.length*e.sz)).drop ((i+1)*e.sz))[k]?=some u->c[off+(i+1)*e.sz+k]?=some u:=by
   intro k u B;rw[aoH,aoq]at B;split at B;rw[aoH]at B;rw[<-aoU];rw[<-B];congr 1;omega;cases B
  have u0:(((c.toList.drop off).take (l.length*e.sz)).drop ((i+1)*e.sz)).length=(l.length-(i+1))*e.sz:=by
   simp;omega
  have hr:=run_append_room_cells (P:=P) w1 d.t o7.type el inf hu l2 b off i cap ⟨b,if cap=i+1 then off else off+(i+1)*e.sz,none⟩ (l.length-(i+1)) (cap-(i+1))
   (((c.toList.drop off).take (l.length*e.sz)).drop ((i+1)*e.sz)) (by rw[z];exact u0) (fun k u B=>by
     have w2:k<(((c.toList.drop off).take (l.length*e.sz)).drop ((i+1)*e.sz)).length:=(an1.1 B).1
     have y2:cap≠i+1:=by
      intro hc;have:l.length-(i+1)=0:=by omega
      rw[u0,this]at w2;omega
     rw[a_ y2,Addr.add_lit,JG q];exact u2 k u B) (fun u hu=>H2 u (List.mem_of_mem_drop hu)) (by omega)
   (fun k B=>by rw[JG q,z];rw[u0]at B;have:off+i*e.sz+k<c.size:=by omega
                simp[this]) (fun k B=>Nf q _)
  rw[z]at hr
  have e1:a7.eval (.tmp d.d2)= .slice (some ⟨b,off,none⟩) i cap:=by
   show a7.tmps.getD d.d2 undef=_;rw[f7,a_ c2,f6,a_ b2,f5,a_ W1,f4,a_ T1,f3,an rfl]
  have e2:a7.eval (.tmp d.d6)= .slice (some ⟨b,if cap=i+1 then off else off+(i+1)*e.sz,none⟩) (l.length-(i+1)) (cap-(i+1)):=by
   show a7.tmps.getD d.d6 undef=_;rw[f7,an rfl]
  have A2:i+(l.length-(i+1))=l.length-1:=by omega
  rw[A2]at hr;simp only[execOp,p7];simp[resolve,pc,invoke,builtin,pa,pt,e1,e2,hr]
 refine kZ (ops:=[o0,o1,o2,o3,o4,o5,o6,o7,o8]) (i:=7) rfl (by simp[Region.wanted,g7]) ?_;unfold Oper.wp;rw[u1];rw[Oper.upon_value,t7];generalize E0:a7.put (some d.d7) (.slice (some ⟨b,off,none⟩) (l.length-1) cap)=a8;have s8:a8.tmps.size=a.tmps.size:=by rw[<-E0,DZ,s7]
 have f8:∀s,a8.tmps.getD s undef=if s=d.d7 then .slice (some ⟨b,off,none⟩) (l.length-1) cap else a7.tmps.getD s undef:=fun s=>by rw[<-E0];exact Nj (by rw[s7];exact z9)
 refine wpAny_all X2 (by simp) (fun j hj=> ?_);obtain rfl:j=8:=by simpa using hj
 refine kZ (ops:=[o0,o1,o2,o3,o4,o5,o6,o7,o8]) (i:=8) rfl (by simp[Region.wanted,g8]) ?_;unfold Oper.wp;rw[ajH p8,f8,an rfl,Oper.upon_value,t8];refine⟨b3,rfl,?_⟩
 have B2:w1.setCells b (off+i*e.sz) (((c.toList.drop off).take (l.length*e.sz)).drop ((i+1)*e.sz))={w.setCells b (off+i*e.sz) (((c.toList.drop off).take (l.length*e.sz)).drop ((i+1)*e.sz))with drawn:=w.drawn+1}:=by
  rw[<-r1];exact SP ..
 rw[B2];have C2:=J2.drawn (w.drawn+1)
 have G0:gq {w.setCells b (off+i*e.sz) (((c.toList.drop off).take (l.length*e.sz)).drop ((i+1)*e.sz))with drawn:=w.drawn+1} G' e (l.take i++l.drop (i+1)) (.slice (some ⟨b,off,none⟩) (l.length-1) cap) (.row tk [tk] true):=
  gq.agree (w:=w.setCells b (off+i*e.sz) (((c.toList.drop off).take (l.length*e.sz)).drop ((i+1)*e.sz))) (G:=G') ⟨fun _ _=>rfl,fun _ _=>rfl,fun _ _=>rfl⟩ c1
 have k0:=C2.Hz (some d.d0) (.slice (some ⟨b,off,none⟩) l.length cap);rw[b0]at k0;have k1:=k0.Hz (some d.d1) (.int .i64 i);rw[e0]at k1;have k2:=k1.Hz (some d.d2) (.slice (some ⟨b,off,none⟩) i cap);rw[h0]at k2;have k3:=k2.Hz (some d.d3) (.slice (some ⟨b,off,none⟩) l.length cap);rw[j0]at k3;have k4:=k3.Hz (some d.d4) (.int .i64 i);rw[n0]at k4;have k5:=k4.Hz (some d.d5) (.int .i64 ((i+1:Nat):Int));rw[r0]at k5;have k6:=k5.Hz (some d.d6) (.slice (some ⟨b,if cap=i+1 then off else off+(i+1)*e.sz,none⟩) (l.length-(i+1)) (cap-(i+1)));rw[s0]at k6;have k7:=k6.Hz (some d.d7) (.slice (some ⟨b,off,none⟩) (l.length-1) cap);rw[E0]at k7
 have L0:∀c'∈(SV.d ⟨.sl e,l.take i++l.drop (i+1),.sl (.row tk [tk] true)⟩).sc,0<c'/\(c'<N\/c'=tk)/\G'.bx c'=false:=by
  intro c' j1;simp only[SV.sc,Sh.bc,M.bc,p_,aof,or_false,or_self]at j1;subst j1;exact⟨by omega,.inr rfl,y1⟩
 have k8:=k7.put (some d.s) (sv:= .d ⟨.sl e,l.take i++l.drop (i+1),.sl (.row tk [tk] true)⟩) (v:= .slice (some ⟨b,off,none⟩) (l.length-1) cap) ⟨[_],rfl,_,rfl,G0⟩ L0 (by simp[SV.bt]) (by simp[SV.rt]) (by rintro _ _ ⟨⟩);refine hK _ _ _ k8 (fun x hx=> ?_);simp only[Js.outs,p_,aof,or_false,not_or]at hx;obtain⟨x0,x2,x3,x4,x5,x6,x7,x8,x9⟩:=hx;rw[Nj (by rw[s8];exact z0),a_ x0,f8,a_ x9,f7,a_ x8,f6,a_ x7,f5,a_ x6,f4,a_ x5,f3,a_ x4,f2,a_ x3,f1,a_ x2]
def ajj{ops:List Oper}{d:Js}(h:Om ops=some d):∀x∈d.outs,∃o∈ops,o.dst=some x:=by
 have t:Om ops.toArray.toList=some d:=by simpa using h
 obtain⟨f,j,k,l,m,n,p,q,s,u,q0,q1,q2,q3,q4,q5,v,y,z,_⟩:=Y2 t
 have c:ops=[f,j,k,l,m,n,p,q,s]:=by
  have:=congrArg Array.toList u;simpa using this
 subst c;intro x e;simp only[Js.outs,p_,aof,or_false]at e;rcases e with rfl|rfl|rfl|rfl|rfl|rfl|rfl|rfl|rfl;exact⟨s,by simp,(YY z).2.2⟩;exact⟨f,by simp,(Gs q0).2.2⟩;exact⟨j,by simp,(Gs q1).2.2⟩;exact⟨k,by simp,(aaX q2).2.2⟩;exact⟨l,by simp,(Gs q3).2.2⟩;exact⟨m,by simp,(Gs q4).2.2⟩;exact⟨n,by simp,(YD q5).2.2⟩;exact⟨p,by simp,(aaH v).2.2⟩;exact⟨q,by simp,(Zr y).2.2⟩
def aio{io:List Nat}{ops:List Oper}(h:keeps io ops=true){o:Oper}(c:o∈ops){x:Nat}(d:o.dst=some x):x∉io:=by
 unfold keeps at h;rw[s_]at h;have:=h o c;rw[d]at this;simpa using this
def ai6{d:Js}{ts:List Nat}{tk:Nat}{e:Ty}{l:List e.den}{i:Nat}:(XF E d ts tk e l i).s.length=E.s.length:=by
 simp only[XF,Env.set,apa];unfold Env.kill;split;rfl;simp
def aeV{E:Env}{d:Nat}{sv:SV}(h:NR E.s)(hs:∀j w act v,sv≠ .g j w act v):NR (E.set (some d) sv).s:=by
 intro s j w act v;simp only[Env.set,mY];split;exact hs j w act v;exact h s j w act v
def aim{d:Js}{ts:List Nat}{tk:Nat}{e:Ty}{l:List e.den}{i:Nat}(h:NR E.s):NR (XF E d ts tk e l i).s:=by
 have f:NR (E.kill ts).s:=by
  intro s j w act v c;obtain⟨k,m⟩:=abU c;exact h s j w act k m
 unfold XF;refine aeV ?_ (by rintro _ _ _ _ ⟨⟩)
 iterate 8 refine aeV ?_ (by rintro _ _ _ _ ⟨⟩)
 exact f
section
variable{ρ:Type}
def V7(C:Cx)(d:Js)(n:Nat)(E:Env)(c:Env->Option ρ):Option ρ:=
 match C.tt d.t,E.s.getD d.s .no,E.get d.j with
 |some ⟨.sl e,_,_⟩,.d ⟨.sl e',l',.sl m⟩,.d ⟨.int .i64,i,_⟩=>(match rE ⟨.sl e',l',.leaf⟩ (.sl e),m.own with
  |some l,some ts=>if decide (0<=i/\i<(((l:List e.den).length:Nat):Int)/\(l:List e.den).length<4294967296)=true then
   (match d.tmps.all (fun x=>decide (x<E.s.length))with
   |true=>c {XF E d ts E.nt e l i.toNat with nt:=E.nt+32*n}
   |false=>none)
   else none
  |_,_=>none)
 |_,_,_=>none
end
def Yk{ρ:Type}(hC:CxTy P C)(hm:P.follows .mixedOrders=true)(hI:Inv w0 c0 (fun u=>u<E.nt) E a w G)(hg:NR E.s)(h3:4<=E.nt){ops:Array Oper}{d:Js}(N:Om ops.toList=some d)(hn:0<ops.size)
 {io:List Nat} (B:keeps io ops.toList=true) {R:Env->Option ρ} {r:ρ} (h:V7 C d ops.size E R=some r) {id:Nat}
 (hK:∀E' f w' G',Inv w0 c0 (fun u=>u<E'.nt) E' f w' G'->NR E'.s->E'.s.length=E.s.length->4<=E'.nt->(∀i∈io,f.tmps.getD i undef=a.tmps.getD i undef)->R E'=some r->Q .normal f w'):
 (Code.region id ops true).wp P Q a w:=by
 unfold V7 at h;split at h;rename_i e fs el e' l' m i sh S W t;split at h;rename_i l X c Y;have n:=mR c;simp only[TV.mk.injEq]at n;obtain⟨he,hl,_⟩:=n;cases he;cases hl;split at h;rename_i hc;obtain⟨p,q,J⟩:=e_ hc;have D: @LE.le Int Int.instLEInt 0 i:=p;have hc1: @LT.lt Int Int.instLTInt i ((List.length l:Nat):Int):=q;split at h;rename_i k;rw[s_]at k;have I:((i.toNat:Nat):Int)=i:=Int.toNat_of_nonneg D;refine afO hC hm hI N S W (i:=i.toNat) (sh:=sh) (by rw[I];exact t) Y (by omega) J (fun x v=>e_ (k x v)) h3 (aoa _) (fun f w' G' g1 g2=> ?_);refine hK {XF E d X E.nt _ l i.toNat with nt:=E.nt+32*ops.size} f w' G' ?_ (aim hg) ai6 (by show 4<=E.nt+32*ops.size;omega) (fun j t=>g2 j (fun y=> ?_)) h;have:=g1.mono (U':=fun u=>u<E.nt+32*ops.size) (fun u z=>by rcases z with z|z<;>omega);exact {this with};obtain⟨o,K,v⟩:=ajj N j y;exact aio B K v t;cases h;cases h;cases h;cases h
end
abbrev NU:=FuncId->Option Px
def Vf(M:NU)(o:Oper):Option (FuncId×Px×Nat×Nat):=
 match o.guard,o.op with
 |none,.call c=>(match c.callee,c.args.toList with
  | .value (.func f),[.tmp s,.tmp j]=>(match M f with|some m=>some (f,m,s,j)|none=>none)
  |_,_=>none)
 |_,_=>none
def Yh(M:NU)(o1 o2 o3:Oper):Option (FuncId×Px×TypeId×Nat×Nat×Nat×Nat):=
 match o1.guard,o1.op,o1.dst,o2.guard,o2.op,o2.dst with
 |none,.load t (.tmp p),some d1,none,.move (.tmp q),some d2=>(match Vf M o3 with
  |some (f,m,s,j)=>(match decide (s=d1/\j=d2/\d1≠d2/\q≠d1)with|true=>some (f,m,t,p,q,d1,d2)|false=>none)
  |none=>none)
 |_,_,_,_,_,_=>none
inductive BO where
 |one (o:Oper)
 |nest (o1 o2 o3:Oper)
def BO.ops:BO->List Oper
 | .one o=>[o]
 | .nest o1 o2 o3=>[o1,o2,o3]
def steps(M:NU):List Oper->List BO
 |o1::o2::o3::l=>match Yh M o1 o2 o3 with
  |some _=> .nest o1 o2 o3::steps M l
  |none=> .one o1::steps M (o2::o3::l)
 | [o1,o2]=>[.one o1,.one o2]
 | [o1]=>[.one o1]
 | []=>[]
theorem VY(M:NU):∀l:List Oper,(steps M l).flatMap BO.ops=l
 |o1::c::o3::l=>by
  simp only[steps];split;simp only[an9,BO.ops,VY M l];rfl;simp only[an9,BO.ops,VY M (c::o3::l)];rfl
 | [_,_]=>rfl
 | [_]=>rfl
 | []=>rfl
def akp(m:Px)(s j:Nat)(E:Env):Option (m.τ.den×Sh×Int):=
 match E.get s,E.get j with
 | .d v,.d ⟨.int .i64,n,_⟩=>(match rE v m.τ,IE v.sh with
   |some x,some _=>some (x,v.sh,n)
   |_,_=>none)
 |_,_=>none
structure ak7(m:Px) where
 b:Nat
 e:Ty
 l:List e.den
 i:Int
 path:List Bool
 x:m.τ.den
 n:Int
def ajp(c:TypeId->Option TI)(m:Px)(t:TypeId)(p q d1 d2:Nat)(E:Env):Option (ak7 m):=
 match c t,E.get p,E.get q with
 |some ti,.ept b e i o path _,.d ⟨.int .i64,n,_⟩=>(match od b e E.s with
  |some (l,hs,nd)=>(match nd&&hs.all (·==b)&&decide (e.off path=o)&&decide (ti.τ=m.τ)&&decide (d1<E.s.length/\d2<E.s.length),pY e (l.getD i.toNat e.aa) (sR e (.sha [])) path with
   |true,some r=>(match rE r m.τ with|some x=>some ⟨b,e,l,i,path,x,n⟩|none=>none)
   |_,_=>none)
  |none=>none)
 |_,_,_=>none
def aj9(c:TypeId->Option TI)(m:Px)(t:TypeId)(p q d1 d2:Nat)(E:Env):Option (m.τ.den×Sh×Int):=
 match c t,fJ (E.get p),E.get q with
 |some ti,.ptr b o path _,.d ⟨.int .i64,n,_⟩=>(match mX E.s b 0 with
  |some (_,v)=>(match decide (v.τ.off path=o)&&decide (ti.τ=m.τ)&&decide (d1<E.s.length/\d2<E.s.length),pY v.τ v.x v.sh path with
   |true,some r=>(match rE r m.τ,IE r.sh with|some x,some _=>some (x,r.sh,n)|_,_=>none)
   |_,_=>none)
  |none=>none)
 |_,_,_=>none
def ak9:SV->Bool
 | .ptr ..=>true
 |_=>false
def untold(C:Cx)(o:Oper):Bool:=
 match o.guard,o.op with
 |none,.assign (.const _)=>(C.tt o.type).isNone
 |_,_=>false
def Env.Wd(E:Env)(gv:List Nat)(b:Nat)(e:Ty)(l:List e.den):Env:=
 {E with s:=E.s.map fun s=>(((s.fD b).setRow b e l (.row b (b::gv) true)).cu gv b)}
section
variable{ρ:Type}
def Us(o:Oper)(a:Option Bool)(E:Env)(k:Env->Option ρ)(c:Ef):Option ρ:=
 match c,a with
 | .call _ x tks f rp,some b=>if b=true then x.bind (fun r=>k (Env.set {E.ib tks (rp r)with s:=fB (f r).2 (E.ib tks (rp r)).s} o.dst (nE o.guard (some true) (f r).1)))else k (E.set o.dst (nE o.guard (some false) (vB false)))
 | .elem (g::gv) b e l _,none=>(match o.dst,o.op with|none,.store _ _ _=>k (E.Wd (g::gv) b e l)|_,_=>none)
 |c,a=>GR o a E k c
def Lb(C:Cx)(M:NU)(ops:List Oper)(nt:Nat):List BO->Nat->Env->(Env->Option ρ)->Option ρ
 | [],_,E,k=>k E
 | .one o::l,i,E,k=>match Vf M o with
   |some (_,m,s,j)=>(match akp m s j E with
    |some (x,sh,n)=>(m.F x n).bind fun r=>Lb C M ops nt l (i+1) ((E.mark (rowsOf m.τ r.2 sh)).set o.dst (vI .i64 r.1)) k
    |none=>none)
   |none=>match untold C o with
    |true=>Lb C M ops nt l (i+1) (E.set o.dst .no) k
    |false=>match guardOf ops E.rd o.guard with
     |none=>none
     |some a=>match D3 C ops E.rd (nt+32*i) o.guard o with
      |none=>none
      |some c=>Us o a E (fun E'=>Lb C M ops nt l (i+1) E' k) c
 | .nest o1 o2 o3::l,i,E,k=>match Yh M o1 o2 o3 with
   |some (_,m,t,p,q,d1,d2)=>match ak9 (fJ (E.get p))with
    |true=>(match aj9 C.tt m t p q d1 d2 E with
     |some (x,sh,n)=>(m.F x n).bind fun r=>Lb C M ops nt l (i+3) ((((E.mark (rowsOf m.τ r.2 sh)).set (some d1) .no).set (some d2) .no).set o3.dst (vI .i64 r.1)) k
     |none=>none)
    |false=>(match ajp C.tt m t p q d1 d2 E with
     |some d=>(m.F d.x d.n).bind fun r=>match qJ d.e (d.l.getD d.i.toNat d.e.aa) (sR d.e (.sha [])) d.path ⟨m.τ,r.2,sR m.τ (.sha [])⟩with
      |some y=>Lb C M ops nt l (i+3) ((((E.mark [⟨d.b,d.e,d.l.set d.i.toNat y.1⟩]).set (some d1) .no).set (some d2) .no).set o3.dst (vI .i64 r.1)) k
      |none=>none
     |none=>none)
   |none=>none
def KP(C:Cx)(M:NU):Code->Env->(Env->Option ρ)->List (Nat×(Env->Option ρ))->(Env->Option ρ)->Option ρ
 | .skip,E,kn,_,_=>kn E
 | .region _ ops draw,E,kn,_,_=>match xo ops.toList&&keeps C.io ops.toList with
   |true=>(match draw with
    |true=>(match Om ops.toList with
     |some d=>V7 C d ops.size E kn
     |none=>SS C ops.toList E.nt ops.toList 0 E [] (fun E' L=>match OH ops.toList L with|true=>kn {CU E' ops.toList with nt:=E.nt+32*ops.size}|false=>none))
    |false=>Lb C M ops.toList E.nt (steps M ops.toList) 0 E (fun E'=>kn {CU E' ops.toList with nt:=E.nt+32*ops.size}))
   |false=>none
 | .seq a b,E,kn,ke,kr=>
   match(Jy b).bind C.ja with
   |none=>KP C M a E (fun E'=>KP C M b E' kn ke kr) ke kr
   |some n=>aN (fun J=>KP C M a E (fun E'=>match proj n E' with|some t=>J t|none=>none) ke kr) (fun t=>KP C M b (nc C.n n t) kn ke kr)
 | .cond c x y,E,kn,ke,kr=>
   match arg C E.rd none 0 c with
   |some (.d ⟨.bool,b,_⟩)=>if b=true then KP C M x E kn ke kr else KP C M y E kn ke kr
   |_=>none
 | .block id c,E,kn,ke,kr=>KP C M c E kn ((id,kn)::ke) kr
 | .loop c,E,_,ke,kr=>
   match(Jy c).bind C.la with
   |none=>none
   |some n=>match proj n E with
    |some t=>aM C.k (fun G t=>KP C M c (nc C.n n t) (fun E'=>match proj n E' with|some t=>G t|none=>none) ke kr) t
    |none=>none
 | .exit id,E,_,ke,_=>match ke.lookup id with|some k=>k E|none=>none
 | .ret,E,_,_,kr=>kr E
 |_,_,_,_,_=>none
end
def acJ(P:Program)(M:NU):Prop:=∀f m,M f=some m->acQ P f m
section
variable{P:Program}{C:Cx}{M:NU}{w0:World}{c0:C0}{U:Nat->Prop}{E:Env}{a:Act}{w:World}{G:Gh}{ops:List Oper}{L:Nat->Prop}{Q:Exit->Act->World->Prop}{ρ:Type}
def WA{o:Oper}{f:FuncId}{m:Px}{s j:Nat}(h:Vf M o=some (f,m,s,j)):
 o.guard=none/\M f=some m/\∃c:Call,o.op= .call c/\c.callee= .value (.func f)/\c.args.toList=[.tmp s,.tmp j]:=by
 unfold Vf at h;split at h;rename_i c d e;split at h;rename_i f' s' j' hc k;split at h;rename_i m' l;cases h;exact⟨d,l,c,e,hc,k⟩;cases h;cases h;cases h
def aep{o1 o2 o3:Oper}{f:FuncId}{m:Px}{t:TypeId}{p q d1 d2:Nat}(h:Yh M o1 o2 o3=some (f,m,t,p,q,d1,d2)):
 o1.guard=none/\o1.op= .load t (.tmp p)/\o1.dst=some d1/\o2.guard=none/\o2.op= .move (.tmp q)/\o2.dst=some d2/\d1≠d2/\q≠d1/\Vf M o3=some (f,m,d1,d2):=by
 unfold Yh at h;split at h;rename_i t' p' d1' q' d2' d e j k l h6;split at h;rename_i f' m' s' j' hc;split at h;rename_i c;simp only[b_]at c;cases h;obtain⟨rfl,rfl,n,s⟩:=c;exact⟨d,e,j,k,l,h6,n,s,hc⟩;cases h;cases h;cases h
def Uy{o:Oper}{c:Call}{f:FuncId}(e:o.op= .call c)(hc:c.callee= .value (.func f)){R:Value->World->Prop}{K:Act->World->Prop}(h:NB P f (c.args.map a.eval) w R)
 (j:∀v w',R v w'->K (a.put o.dst v) w'):o.wp P a w K Q:=by
 have d:(execOp a.eval o).run P w=(callFunc f (c.args.map a.eval)).run P w:=by
  simp only[execOp,e];simp[resolve,hc,Deferred.ofValue,Act.eval,invoke]
 refine Ka (R:=R) ?_ j;rw[d];exact h
def X7(f:Inv w0 c0 U E a w G){j:Nat}{n:Int}{sh:Sh}(h:E.get j= .d ⟨.int .i64,n,sh⟩):a.tmps.getD j undef= .int .i64 n:=by
 have e:=f.slots j;have k:E.s.getD j .no= .d ⟨.int .i64,n,sh⟩:=h;rw[k]at e;obtain⟨l,p,c⟩:=e;cases sh with
 |leaf=>rw[p,show l=_ from c];rfl
 |sl m=>exact c.elim
 |pair a b=>exact c.elim
def X1{L':List Pv}:∀s j w act v,(E.mark L').s.getD s .no≠ .g j w act v:=by
 intro s j w act v;have:=getD_map (L:=E.s) (T:=SV.mark L') rfl s;show(E.s.map (SV.mark L')).getD s .no≠_;rw[this];exact aj6
def VS{E:Env}{d:Option Nat}{sv:SV}(h:∀s j w act v,E.s.getD s .no≠ .g j w act v)(hs:∀j w act v,sv≠ .g j w act v):∀s j w act v,(E.set d sv).s.getD s .no≠ .g j w act v:=by
 intro s j w act v;cases d with
 |none=>exact h s j w act v
 |some d=>
  simp only[Env.set,mY];split;exact hs j w act v;exact h s j w act v
def Xb(L':List Pv):(E.mark L').s.length=E.s.length:=by simp[Env.mark]
theorem Inv.akb(p:Inv w0 c0 U E a w G)(d:Option Nat)(n:Int):Inv w0 c0 U (E.set d (vI .i64 n)) (a.put d (.int .i64 n)) w G:=by
 have h:=ab4 (U:=U) (G:=G) .i64 n;exact p.put d (ok_int .i64 n) h.1 h.2.1 h.2.2 (by rintro _ _ ⟨⟩)
theorem Inv.abx(h:Inv w0 c0 U E a w G)(d:Option Nat)(v:Value):Inv w0 c0 U (E.set d .no) (a.put d v) w G:=
 h.put d (sv:= .no) trivial (by simp[SV.sc]) (by simp[SV.bt]) (by simp[SV.rt]) (by rintro _ _ ⟨⟩)
def Qo(d:Option Nat)(v:Value)(s:Nat)(h:d≠some s):(a.put d v).tmps.getD s undef=a.tmps.getD s undef:=by
 cases d with
 |none=>rfl
 |some d=>
  have:d≠s:=fun e=>h (by rw[e]);simp[Act.put,an6,aov this]
end
section
variable{P:Program}{C:Cx}{M:NU}{g:Option (Nat×Bool)}{w0:World}{c0:C0}{U:Nat->Prop}{E:Env}{a:Act}{w:World}{G:Gh}{ops:List Oper}{L:Nat->Prop}{Q:Exit->Act->World->Prop}{ρ:Type}
theorem aiw(hC:CxTy P C)(hI:Inv w0 c0 U E a w G)(hR:RI ops E a.tmps)(hg:Gd ops a.tmps g){tk:Nat}{o:Oper}{t:TypeId}{x y:Operand}
 {gv:List Nat} {b:Nat} {e:Ty} {l':List e.den} {m:Vg.M} (ho:o.op= .store t x y) (u0:gv≠ []) (h0:D3 C ops E.rd tk g o=some (.elem gv b e l' m)):
 ∃w' G',(execOp a.eval o).run P w= .ok .skip w'/\Inv w0 c0 U (E.Wd gv b e l') a w' G':=by
 have h:=ahQ h0;simp only[dY,ho]at h;split at h;split at h;split at h;obtain⟨r,_,h⟩:=aoi.mp h;cases h;cases h;cases h;rename_i ti f d i off p τ1 v1 r1 r0 hv;split at h;rename_i l hs nd s0;obtain⟨hc,h⟩:=Option.ite_none_right_eq_some.mp h;obtain⟨A1,h⟩:=Option.ite_none_left_eq_some.mp h;obtain⟨r,hr,h⟩:=aoi.mp h;simp only[Ef.elem.injEq]at h;obtain⟨k1,rfl,rfl,b0,hm⟩:=h;have b0:=eq_of_heq b0;subst b0;simp only[i_,b_]at hc;obtain⟨⟨⟨C1,hc2⟩,D1⟩,e0⟩:=hc;obtain⟨h1,_⟩:=rb hI hR hg r0;obtain⟨u,of,n,cap,D,k2,k3,k4,k5⟩:=h1;obtain⟨⟨vh,l1⟩,j⟩:=hI.od s0;obtain⟨⟨I,E1,j0⟩,G1,k0⟩:=Ag hI hR hg hv;have x0:vh=G.hdr f:=l1.2.1.symm;have N:=A1;simp only[Bool.not_eq_true]at N;obtain⟨q1,q2,q3,B,Bv,n0,o0,hB,J1,T1,n1⟩:=ab8 (τ:=τ1) (gv:=gv) (m:=m) l1 j j0 G1 k0 D1 _ rfl k1.symm hm.symm N;rw[x0,k2]at hB;rcases hB with⟨⟨ao,hB⟩,_⟩|⟨bk',of',cap',c,el,fz,Bs,X,Y,q,hsz,rfl,hl⟩;cases hB;exfalso;have k4':i<((0:Nat):Int):=k4;have k3': @LE.le Int Int.instLEInt 0 i:=k3;omega;simp only[Value.slice.injEq,anJ,Addr.mk.injEq,and_true]at X;obtain⟨⟨rfl,rfl⟩,rfl,rfl⟩:=X;obtain⟨j1,j2,j3,j4⟩:=n1 u Bs rfl;obtain⟨c',o1,p0⟩:=hI.fresh u (by rw[j1];exact D);rw[p0]at q;simp only[anJ,Obj.cells.injEq]at q;obtain⟨rfl,rfl,rfl⟩:=q;have hi:i.toNat<l.length:=toNat_lt k3 k4
 have E0:l[i.toNat]?=some (l.getD i.toNat d.aa):=by
  rw[anM,anP hi];rfl
 obtain⟨B1,Bx,B2,rfl,W1,b2,c2⟩:=cr.get (sz:=d.sz) (fun x c B h=>bP.len h) hl E0;obtain⟨Ba,Bo,Bb,rfl,p1,hle⟩:=bP.put hr W1 J1;have G0:=cr.set (sz:=d.sz) hi p1 b2 c2;have L0:I.length=v1.τ.sz:=dJ.len j0;have hmul:(i.toNat+1)*d.sz<=l.length*d.sz:=anS _ hi;have hmul2:l.length*d.sz<=cap*d.sz:=anS _ Y;rw[Y_,aob]at hmul;have hO:of+i.toNat*d.sz+off+I.length<=c'.size:=by rw[<-C1];omega
 have z:=vL u (el:=o1) I (of+i.toNat*d.sz+off) w c' p0 hO;have hT:=(hC.tt t ti r1).1;have R0:=Oj (P:=P) (t:=t) (τ:=ti.τ) hT p0 (o:=of+i.toNat*d.sz+off) (cs:=I) (by rw[<-e0,<-L0];exact hO) (by rw[L0,e0]) (dJ.one j0) k5;have hU:U f:=(j f (by simp)).2.1;have a1:G.bx f=false:=(j f (by simp)).2.2;have w1:=hI.map (T8 (w:=w) f) hI.colU (fun b=>⟨fun h=>h,fun _=>rfl,fun _=>rfl⟩);have R:G.col u=f:=j1
 have J:∀k,G.col k≠f->(w.setCells u (of+i.toNat*d.sz+off) I).heap[k]?=w.heap[k]?:=fun k hk=>
  fN u _ _ w k (fun e=>hk (e▸R))
 have S:=j4 (B1++(Ba++Bv++Bb)++B2) ⟨B1++Ba,Bo,Bb++B2,by simp[an8],by simp[an8]⟩
 have W:u∉B1++(Ba++Bv++Bb)++B2:=by
  simp only[g',not_or]at j2|-;exact⟨⟨j2.1.1,⟨j2.1.2.1.1,j3⟩,j2.1.2.2⟩,j2.2⟩
 have x1:n0=[f]/\o0=true:=by
  have key:∀(own:Option (List Nat)) (mm:Vg.M),own.getD []=gv->(if own.isSome=true then(Vg.M.row f [f] true)else mm)= .row f n0 o0->n0=[f]/\o0=true:=by
   intro own mm h1 h2;cases own with
   |none=>exact absurd h1.symm u0
   |some ts=>
    simp only[Option.isSome_some,if_true,Vg.M.row.injEq,true_and]at h2;exact⟨h2.1.symm,h2.2.symm⟩
  exact key _ _ k1 (hm.trans T1)
 obtain⟨rfl,rfl⟩:=x1
 have c1:gq (w.setCells u (of+i.toNat*d.sz+off) I) G d (l.set i.toNat r.1) (G.hdr f) (.row f (f::gv) true):=by
  refine⟨D,rfl,u::(B1++(Ba++Bv++Bb)++B2),?_,?_⟩;refine .inr ⟨u,of,cap,_,o1,(0,0),B1++(Ba++Bv++Bb)++B2,by simp[k2],by simpa using Y,z,by simp;omega,rfl,?_⟩
  have K:((lQ (of+i.toNat*d.sz+off) I c'.toList).drop of).take ((l.set i.toNat r.1).length*d.sz)=
   ((c'.toList.drop of).take (l.length*d.sz)).take (i.toNat*d.sz)++lQ (d.off p) I ((((c'.toList.drop of).take (l.length*d.sz)).drop (i.toNat*d.sz)).take d.sz)++((c'.toList.drop of).take (l.length*d.sz)).drop ((i.toNat+1)*d.sz):=by
   rw[R7 (by omega) (by simp;omega),Sn (by simp;omega) (by simp;omega)];rw[show of+i.toNat*d.sz+off-of=i.toNat*d.sz+d.off p by omega];rw[Oc (sz:=d.sz) hle];rw[Y_,aob];simp
  show cr _ _ (((lQ (of+i.toNat*d.sz+off) I c'.toList).toArray.toList.drop of).take _) _;rw[List.toList_toArray,K];exact cr.world (fun k hk=>fN u _ _ w k (fun e=>W (e▸hk))) G0;rintro h' Bs'' ⟨⟩;refine⟨R,W,fun x hx=> ?_,S.2⟩;have:=S.1 x hx;split at this;rename_i u1;exact anT _ u1;simp only[anW]at this;rw[this];simp
 have y1:=w1.setRow c1 a1 D J (fun s=> ?_) (fun c hc=> ?_) (fun k hk=> ?_) (by rw[pC]) (ir _ _ _ w).1 (ir _ _ _ w).2.1 (ir _ _ _ w).2.2;have z1:=y1.afX (ts:=gv) (t:=f) (v:=G.hdr f) D q1 hU rfl a1;refine⟨w.setCells u (of+i.toNat*d.sz+off) I,G.cu gv f (G.hdr f),?_,?_⟩;simp only[execOp,ho,E1,e0];simp[R0];simpa only[Env.Wd,aoz,Function.comp_def,SV.fD,SV.cu]using z1;have:=getD_map (L:=E.s) (T:=SV.fD f) rfl s;show SV.clear f ((List.map (SV.fD f) E.s).getD s .no);rw[this];exact SV.ot f _;simp only[M.bc,p_]at hc;rcases hc with rfl|rfl|hc;exact j _ (by simp);exact j _ (by simp);exact(q1 c hc).2;by_cases e:k=u;subst e;exact⟨_,_,z⟩;rw[fN u _ _ w k e];exact hI.fresh k (by rw[hk];exact D);cases h;cases h
def acd{c:Call}{s j:Nat}(h:c.args.toList=[.tmp s,.tmp j])(a:Act):c.args.map a.eval= #[a.tmps.getD s undef,a.tmps.getD j undef]:=by
 have:c.args= #[.tmp s,.tmp j]:=aoV (by simpa using h);rw[this];simp[Act.eval]
def Q7(d:Nat)(v:Value)(h:d<a.tmps.size):(a.put (some d) v).tmps.getD d undef=v:=by
 simp[Act.put,an6,h]
def acL(hC:JR P C){i:Nat}{o:Oper}(ho:ops[i]?=some o)(hI:Inv w0 c0 U E a w G)(hR:Gq ops L E a.tmps)(hL:∀j w',o.guard=some (j,w')->L j)(R:¬L i)(S:xo ops=true)
 {tk:Nat} (h3:4<=tk) (hU:∀u,tk<=u->u<tk+32->¬U u) {act:Option Bool} {ef:Ef} (D:guardOf ops E.rd o.guard=some act) (J:D3 C ops E.rd tk o.guard o=some ef)
 {k:Env->Option ρ} {r:ρ} (n:Us o act E k ef=some r) {K:Act->World->Prop}
 (hK:∀E' Y w' G',k E'=some r->E'.s.length=E.s.length->Inv w0 c0 (fun u=>U u\/(tk<=u/\u<tk+32)) E' Y w' G'->Gq ops (fun j=>L j\/j=i) E' Y.tmps->(∃v,Y=a.put o.dst v)->K Y w'):wpOp P ops.toArray Q i K a w:=by
 have e0:=hI.mono (U':=fun u=>U u\/(tk<=u/\u<tk+32)) (fun u hu=> .inl hu)
 have h0:GR o act E k ef=some r->wpOp P ops.toArray Q i K a w:=by
  intro n;rw[aeE,adS,anR]at n;obtain⟨E',d,hk⟩:=n
  have hlen:E'.s.length=E.s.length:=by
   cases ef with
   |val v=>simp only[dT,anJ]at d;subst d;exact qV ..
   |chk c v=>
    simp only[dT]at d;split at d;split at d;simp only[anJ]at d;subst d;exact qV ..;cases d;split at d;simp only[anJ]at d;subst d;exact qV ..;cases d
   |opt α z x f=>
    simp only[dT,anR,anJ]at d;obtain⟨y,_,d⟩:=d;subst d;exact qV ..
   |put b s v=>
    simp only[dT]at d;split at d;simp only[anJ]at d;subst d;simp;cases d
   |app c kl gv t v=>
    simp only[dT]at d;split at d;split at d;simp only[anJ]at d;subst d;rw[qV,aiv,aiq];cases d;cases d
   |elem gv b e l m=>
    simp only[dT]at d;split at d;simp only[anJ]at d;subst d;simp[Env.elem];cases d
   |nap c gv b e l m v=>
    simp only[dT]at d;split at d;split at d;simp only[anJ]at d;subst d;rw[qV];simp[Env.elem];cases d;cases d
   |call α x N f rp=>
    simp only[dT]at d;split at d;simp only[anR,anJ]at d;obtain⟨y,_,d⟩:=d;subst d;rw[qV,JZ,Rr];cases d
  exact afb hC ho hI hR hL R S h3 hU D J d (fun Y w' G' g1 g2 g3=>hK E' Y w' G' hk hlen g1 g2 g3)
 unfold Us at n;split at n
 rename_i α x N f rp b;cases q:o.guard with
 |none=>rw[q]at D;simp[guardOf]at D
 |some p=>
  obtain⟨j,w'⟩:=p;rw[q]at D J;obtain⟨b',W,hb⟩:=Un hI D;cases W;have hj:=hL j w' q;cases b with
  |true=>
   simp only[if_true,anR]at n;obtain⟨y,hy,hk⟩:=n;have I:=hb.1 rfl;have B:Region.wanted o (yielded ops.toArray a.tmps)=true:=by simp[Region.wanted,q,I]
   have hS:=ZM hC hI hR.ri (g:=some (j,w')) (by rintro j1 w1 ⟨⟩;exact I) h3 hU J;refine kZ ho B ?_;refine Ka (hS y hy) (fun mv w1 ⟨G',g1,g2,g3,g4⟩=> ?_);obtain⟨k1,X,k3⟩:=afk (j:=j) (w':=w') g2 g3;rw[q]at hk;refine hK _ _ _ G' hk (by rw[qV,JZ,Rr]) ?_ ?_ ⟨_,rfl⟩;exact g1.put o.dst k1 X.1 X.2.1 X.2.2 (fun t u e=>absurd e (k3 t u));refine Gq.put (E:={E.ib N (rp y)with s:=fB (f y).2 (E.ib N (rp y)).s}) (hR.map (fun s j w' act u h=>afh (Yr h))) ho S R hL (fun j1 w1 act v e=> ?_);unfold nE at e;simp only at e;split at e;cases e;simp only[SV.g.injEq]at e;obtain⟨rfl,rfl,rfl,_⟩:=e;exact⟨⟨fun _=>I,fun _=>rfl⟩,q⟩
  |false=>
   simp only[aop,if_false]at n;have I:yielded ops.toArray a.tmps j≠some w':=fun h=>by have:=hb.2 h;cases this
   have B:Region.wanted o (yielded ops.toArray a.tmps)=false:=by
    simp only[Region.wanted,q];simpa using I
   obtain⟨k1,X,k3⟩:=ae2 (w:=w) (G:=G) (U:=fun u=>U u\/(tk<=u/\u<tk+32)) (v:=vB false) (j:=j) (w':=w');rw[q]at n;unfold wpOp;simp only[aot,ho,B,aop,if_false];refine hK _ _ _ G n (qV ..) ?_ ?_ ⟨_,rfl⟩;exact e0.put o.dst k1 X.1 X.2.1 X.2.2 (fun t u e=>absurd e (k3 t u));refine hR.put ho S R hL (fun j1 w1 act v e=> ?_);unfold nE at e;simp only at e;split at e;cases e;simp only[SV.g.injEq]at e;obtain⟨rfl,rfl,rfl,_⟩:=e;exact⟨⟨fun h=>absurd h (by simp),fun h=>absurd h I⟩,q⟩
 rename_i g0 gv b e l m;split at n;rename_i t x y hd b0;cases q:o.guard with
 |some p=>
  rw[q]at D;obtain⟨b',W,_⟩:=Un hI D;cases W
 |none=>
  rw[q]at J;have B:Region.wanted o (yielded ops.toArray a.tmps)=true:=by simp[Region.wanted,q]
  refine kZ ho B ?_;obtain⟨w1,G',h1,h2⟩:=aiw hC.toCxTy hI hR.ri (g:=none) (by rintro j w' ⟨⟩) b0 (by simp) J;unfold Oper.wp;rw[h1];refine hK _ _ _ G' n (by simp[Env.Wd]) ?_ ?_ ⟨undef,rfl⟩;rw[hd];exact h2.mono fun u hu=> .inl hu;rw[hd]
  have:=hR.map (E':=E.Wd (g0::gv) b e l) (fun s j w' act u h=>by
   have hh:=getD_map (L:=E.s) (T:=fun s=>((s.fD b).setRow b e l (.row b (b::(g0::gv)) true)).cu (g0::gv) b) rfl s;simp only[Env.Wd]at h;rw[hh]at h;obtain⟨v1,h1⟩:=Tq h;obtain⟨v2,h2⟩:=ac9 h1;exact Tq h2)
  intro s j w' act v d;obtain⟨q1,q2,q3⟩:=this s j w' act v d;exact⟨q1,.inl q2,q3⟩
 cases n;exact h0 n
theorem OF(hC:JR P C)(hM:acJ P M){io:List Nat}(D:keeps io ops=true)(J:xo ops=true){nt:Nat}(h3:4<=nt){k:Env->Option ρ}{r:ρ}:∀ {l:List BO} {i:Nat} {E:Env} {a:Act} {w:World} {G:Gh},ops.drop i=l.flatMap BO.ops->i+(l.flatMap BO.ops).length=ops.length->
 Inv w0 c0 (fun u=>u<nt+32*i) E a w G->Gq ops (fun j=>j<i) E a.tmps->Lb C M ops nt l i E k=some r->
 (∀E' a' w' G',Inv w0 c0 (fun u=>u<nt+32*ops.length) E' a' w' G'->Gq ops (fun j=>j<ops.length) E' a'.tmps->E'.s.length=E.s.length->(∀i∈io,a'.tmps.getD i undef=a.tmps.getD i undef)->k E'=some r->Q .normal a' w')->
 wpOps P ops.toArray Q (aoS i (l.flatMap BO.ops).length) a w
 | [],i,E,a,w,G,hd,hl,hI,hR,h,hK=>by
   have hi:i=ops.length:=by simpa using hl
   subst hi;exact hK E a w G hI hR rfl (fun _ _=>rfl) h
 | .one o::l,i,E,a,w,G,hd,hl,hI,hR,h,hK=>by
   simp only[an9,BO.ops,aoe,aoB]at hd;simp only[an9,BO.ops,aoe,aoB,aod]at hl|-
   have ho:ops[i]?=some o:=by
    have:=congrArg aoJ hd;simpa[aon]using this
   have R0:ops.drop (i+1)=l.flatMap BO.ops:=by rw[<-an0,hd];rfl
   simp only[Lb]at h;rw[aok,wpOps_cons];split at h;rename_i f m s j hc;obtain⟨hg,hm,c,G0,p0,W⟩:=WA hc;split at h;rename_i x sh n z;rw[anR]at h;obtain⟨⟨Y,y⟩,hF,h⟩:=h;unfold akp at z;split at z;rename_i v n' j1 hs I;split at z;rename_i x' ts hx l1;cases z;have hv:=hI.slots s;have a1:=hI.Kt s;have e2:E.s.getD s .no= .d v:=hs;rw[e2]at hv a1;obtain⟨cs,C1,D1⟩:=hv;have e:=mR hx;rw[e]at C1 D1 a1 l1;have hU:=agY hI (hM f m hm) D1 a1.1 l1 hF;have j2:=X7 hI I;have S:Region.wanted o (yielded ops.toArray a.tmps)=true:=by simp[Region.wanted,hg]
   refine kZ ho S (Uy G0 p0 (R:=fun mv w'=>mv=Value.int .i64 Y/\∃G',Inv w0 c0 (fun u=>u<nt+32*i) (E.mark (rowsOf m.τ y v.sh)) a w' G') ?_ (fun mv w' hh=> ?_));rw[acd W,C1,j2];exact hU;obtain⟨rfl,G',b0⟩:=hh;have k0:=(b0.akb o.dst Y).mono (U':=fun u=>u<nt+32*(i+1)) (fun u hu=>by omega)
   refine OF hC hM D J h3 (l:=l) (i:=i+1) R0 (by omega) k0 (fun s j w1 act v he=>absurd he (VS X1 (by rintro _ _ _ _ ⟨⟩) s j w1 act v)) h
    (fun E2 a2 w2 G2 g1 g2 g3 g5 g4=>hK E2 a2 w2 G2 g1 g2 (g3.trans ((qV ..).trans (Xb _))) (fun j I=>(g5 j I).trans (DA D (anU ho) I)) g4)
   cases z;cases z;cases h;split at h;rename_i E0;unfold untold at E0;split at E0;rename_i cv hg G0;have S:Region.wanted o (yielded ops.toArray a.tmps)=true:=by simp[Region.wanted,hg]
   refine kZ ho S ?_
   have N:(execOp a.eval o).run P w= .ok (.value (a.eval (.const cv))) w:=by
    simp only[execOp,G0];rfl
   unfold Oper.wp;rw[N];show wpOps P ops.toArray Q _ _ _;have k0:=(hI.abx o.dst (a.eval (.const cv))).mono (U':=fun u=>u<nt+32*(i+1)) (fun u hu=>by omega)
   refine OF hC hM D J h3 (l:=l) (i:=i+1) R0 (by omega) k0 (fun s j w1 act v he=>by
    obtain⟨q1,q2,q3⟩:=hR.put ho J (by omega) (fun j w' I=>Ol J ho I) (sv:= .no) (mv:=a.eval (.const cv)) (by rintro _ _ _ _ ⟨⟩) s j w1 act v he;exact⟨q1,by rcases q2 with q2|q2<;>omega,q3⟩) h
    (fun E2 a2 w2 G2 g1 g2 g3 g5 g4=>hK E2 a2 w2 G2 g1 g2 (g3.trans (qV ..)) (fun j I=>(g5 j I).trans (DA D (anU ho) I)) g4)
   cases E0;split at h;cases h;rename_i act T1;split at h;cases h;rename_i ef W1;refine acL hC ho hI hR (fun j w' I=>Ol J ho I) (by omega) J (tk:=nt+32*i) (by omega) (fun u h1 h2 h=>by omega) T1 W1 h (fun E' a' w' G' hk hlen b0 b2 ⟨v,hav⟩=> ?_)
   refine OF hC hM D J h3 (l:=l) (i:=i+1) R0 (by omega) (b0.mono (fun u hu=>by rcases hu with hu|hu<;>omega))
    (fun s j w1 act v he=>by
     obtain⟨q1,q2,q3⟩:=b2 s j w1 act v he;exact⟨q1,by rcases q2 with q2|q2<;>omega,q3⟩) hk (fun E2 a2 w2 G2 g1 g2 g3 g5 g4=>hK E2 a2 w2 G2 g1 g2 (g3.trans hlen) (fun j I=>(g5 j I).trans (by rw[hav];exact DA D (anU ho) I)) g4)
 | .nest o1 o2 o3::l,i,E,a,w,G,hd,hl,hI,hR,h,hK=>by
   simp only[an9,BO.ops,aoe,aoB]at hd;simp only[an9,BO.ops,aoe,aoB,aod]at hl|-
   have x1:ops[i]?=some o1:=by
    have:=congrArg aoJ hd;simpa[aon]using this
   have y1:ops.drop (i+1)=o2::o3::l.flatMap BO.ops:=by rw[<-an0,hd];rfl
   have z1:ops[i+1]?=some o2:=by
    have:=congrArg aoJ y1;simpa[aon]using this
   have A1:ops.drop (i+1+1)=o3::l.flatMap BO.ops:=by rw[<-an0,y1];rfl
   have B1:ops[i+1+1]?=some o3:=by
    have:=congrArg aoJ A1;simpa[aon]using this
   have l2:ops.drop (i+3)=l.flatMap BO.ops:=by rw[show i+3=i+1+1+1 by omega,<-an0,A1];rfl
   simp only[Lb]at h;split at h;rename_i f m t p q d1 d2 hn;obtain⟨g1,E1,e1,g2,A2,G1,B2,C2,D2⟩:=aep hn;obtain⟨g3,hm,c,H2,p0,W⟩:=WA D2
   have three:∀(cs:List Value) (n Y:Int) (L':List Pv),a.tmps.getD q undef= .int .i64 n->d1<E.s.length->d2<E.s.length->(execOp a.eval o1).run P w= .ok (.value (kE m.τ cs)) w->
    NB P f #[kE m.τ cs,.int .i64 n] w (fun mv w'=>mv=Value.int .i64 Y/\∃G',Inv w0 c0 (fun u=>u<nt+32*i) (E.mark L') a w' G')->
    Lb C M ops nt l (i+3) ((((E.mark L').set (some d1) .no).set (some d2) .no).set o3.dst (vI .i64 Y)) k=some r->
    wpOps P ops.toArray Q (aoS i ((l.flatMap BO.ops).length+1+1+1)) a w:=by
    intro cs n Y L' c2 e0 h0 N hU h;have x0:a.tmps.size=E.s.length:=hI.len;rw[show(l.flatMap BO.ops).length+1+1+1=((l.flatMap BO.ops).length+1+1)+1 from rfl,aok,wpOps_cons];have n2:Region.wanted o1 (yielded ops.toArray a.tmps)=true:=by simp[Region.wanted,g1]
    refine kZ x1 n2 ?_;unfold Oper.wp;rw[N];show wpOps P ops.toArray Q _ _ _;rw[aok,wpOps_cons];have p2:Region.wanted o2 (yielded ops.toArray (a.put o1.dst (kE m.τ cs)).tmps)=true:=by simp[Region.wanted,g2]
    refine kZ z1 p2 ?_
    have u2:(execOp (a.put o1.dst (kE m.τ cs)).eval o2).run P w= .ok (.value (.int .i64 n)) w:=by
     have:=Qo (a:=a) (some d1) (kE m.τ cs) q (by simpa using Ne.symm C2);simp only[execOp,A2,Act.eval,e1,this,c2];rfl
    unfold Oper.wp;rw[u2];show wpOps P ops.toArray Q _ _ _;rw[aok,wpOps_cons];rw[e1,G1];have x2:Region.wanted o3 (yielded ops.toArray ((a.put (some d1) (kE m.τ cs)).put (some d2) (.int .i64 n)).tmps)=true:=by simp[Region.wanted,g3]
    refine kZ B1 x2 (Uy H2 p0 (R:=fun mv w'=>mv=Value.int .i64 Y/\∃G',Inv w0 c0 (fun u=>u<nt+32*i) (E.mark L') a w' G') ?_ (fun mv w' hh=> ?_));rw[acd W,Qo (some d2) _ d1 (by simpa using Ne.symm B2),Q7 d1 _ (by rw[x0];exact e0),Q7 d2 _ (by rw[DZ,x0];exact h0)];exact hU;obtain⟨rfl,G',b0⟩:=hh;have k0:=(((b0.abx (some d1) (kE m.τ cs)).abx (some d2) (.int .i64 n)).akb o3.dst Y).mono (U':=fun u=>u<nt+32*(i+3)) (fun u hu=>by omega)
    have hz:=OF hC hM D J h3 (l:=l) (i:=i+3) l2 (by omega) k0 (fun s j w1 act v he=>absurd he (VS (VS (VS X1 (by rintro _ _ _ _ ⟨⟩)) (by rintro _ _ _ _ ⟨⟩)) (by rintro _ _ _ _ ⟨⟩) s j w1 act v)) h
     (fun E2 a2 w2 G2 g1 g2 g3 g5 g4=>hK E2 a2 w2 G2 g1 g2 (g3.trans ((qV ..).trans ((qV ..).trans ((qV ..).trans (Xb _))))) (fun j I=>by
      rw[g5 j I,DA D (anU B1) I];have k2:=DA (a:=a.put (some d1) (kE m.τ cs)) D (anU z1) (v:= .int .i64 n) I;have k1:=DA (a:=a) D (anU x1) (v:=kE m.τ cs) I;rw[G1]at k2;rw[e1]at k1;rw[k2,k1]) g4)
    exact hz
   split at h;split at h;rename_i x sh n z;rw[anR]at h;obtain⟨⟨Y,y⟩,hF,h⟩:=h;unfold aj9 at z;split at z;rename_i ti b o path τ0 n' j1 L0 hp hq;split at z;rename_i sl v n1;split at z;rename_i rr B j0;split at z;rename_i x' ts hx u0;cases z;simp only[i_,b_]at B;obtain⟨⟨X,hτ⟩,e0,h0⟩:=B;have n0:=RQ (hI.slots p);have b1:fJ (E.s.getD p .no)= .ptr b o path τ0:=hp;rw[b1]at n0;obtain⟨bk,J2,K,r0⟩:=n0;obtain⟨hslot,bk',c',el,q1,q2,q3,q4,q5,q6⟩:=hI.box (E:=E) n1;rw[q1]at K;simp only[Value.pointer.injEq,anJ,Addr.mk.injEq,and_true]at K;subst K;obtain⟨r1,r2,r3,r4⟩:=dJ.sub j0 q5;have e:=mR hx;generalize hrs:rr.sh=rsh at e u0 h;rw[e]at r1 r2 r4;have hlen:=dJ.len q5;simp only[aoY]at hlen;have hT:=(hC.tt t ti L0).1;rw[hτ]at hT;have o0:=Fq (P:=P) hT q4 (o:=o) (by rw[<-X,hlen];exact r2)
   have N:(execOp a.eval o1).run P w= .ok (.value (kE m.τ ((c'.toList.drop o).take m.τ.sz))) w:=by
    simp only[execOp,E1];refine nV ?_;simp only[Instr.loadAt,Act.eval,r0,Instr.sureAddr];simpa using o0
   rw[X]at r1;exact three _ n Y _ (X7 hI hq) e0 h0 N (agY hI (hM f m hm) r1 (fun c hc=>q6 c (r4 c hc)) u0 hF) h;cases z;cases z;cases z;cases z;cases h;split at h;rename_i d z;rw[anR]at h;obtain⟨⟨Y,y⟩,hF,h⟩:=h;split at h;rename_i yy p1;unfold ajp at z;split at z;rename_i ti b e ii o path τ0 n j1 L0 hp hq;split at z;rename_i ll hs nd u1;split at z;rename_i rr B j0;split at z;rename_i x hx;cases z;simp only[i_,b_]at B;obtain⟨⟨⟨⟨T2,X2⟩,X⟩,hτ⟩,e0,h0⟩:=B;subst T2;have n0:=hI.slots p;have b1:E.s.getD p .no= .ept b e ii o path τ0:=hp;rw[b1]at n0;obtain⟨bk,of,nn,cap,J2,K,b3,c3,r0⟩:=n0;have y2:ii.toNat<nn:=toNat_lt b3 c3;obtain⟨⟨cc,el,fz,s0,J1⟩,hU⟩:=ajL hI (hM f m hm) u1 X2 K y2 j0 hx hF p1;have hT:=(hC.tt t ti L0).1;rw[hτ]at hT;rw[X]at J1 hU;have o0:=Fq (P:=P) hT s0 (o:=of+ii.toNat*e.sz+o) J1
   have c1:cellsOf w bk (of+ii.toNat*e.sz+o) m.τ.sz=(cc.toList.drop (of+ii.toNat*e.sz+o)).take m.τ.sz:=by
    unfold cellsOf;rw[s0]
   rw[c1]at hU
   have N:(execOp a.eval o1).run P w= .ok (.value (kE m.τ ((cc.toList.drop (of+ii.toNat*e.sz+o)).take m.τ.sz))) w:=by
    simp only[execOp,E1];refine nV ?_;simp only[Instr.loadAt,Act.eval,r0,Instr.sureAddr];simpa using o0
   exact three _ n Y _ (X7 hI hq) e0 h0 N hU h;cases z;cases z;cases z;cases z;cases h;cases h;cases h
end
section
variable{P:Program}{C:Cx}{M:NU}{w0:World}{c0:C0}{U:Nat->Prop}{E:Env}{a:Act}{w:World}{G:Gh}{ops:List Oper}{L:Nat->Prop}{Q:Exit->Act->World->Prop}{ρ:Type}
def Y1(hC:JR P C)(hM:acJ P M){r:ρ}{T:Nat->Value}:∀(c:Code) {E:Env} {a:Act} {w:World} {G:Gh} {K N:Env->Option ρ} {ke:List (Nat×(Env->Option ρ))} {Q:Exit->Act->World->Prop},
 Inv w0 c0 (fun u=>u<E.nt) E a w G->NR E.s->E.s.length=C.n->4<=E.nt->(∀i∈C.io,a.tmps.getD i undef=T i)->KP C M c E K ke N=some r->Zf C w0 c0 T r K (Q .normal)->(∀id k,ke.lookup id=some k->Zf C w0 c0 T r k (Q (.exit id)))->Zf C w0 c0 T r N (Q .ret)->
 c.wp P Q a w:=by
 intro c
 induction c with
 |skip=>intro E a w G K N ke Q f q z B D h J p I;exact wp_skip (J E a w G f q z B D h)
 |region id ops draw=>
  intro E a w G K N ke Q f q z B D h n0 p I;simp only[KP]at h;split at h;rename_i hc;simp only[i_]at hc;obtain⟨o0,k0⟩:=hc
  have fin:∀E' R w' G',Inv w0 c0 (fun u=>u<E.nt+32*ops.toList.length) E' R w' G'->Gq ops.toList (fun j=>j<ops.toList.length) E' R.tmps->E'.s.length=E.s.length->(∀i∈C.io,R.tmps.getD i undef=a.tmps.getD i undef)->
   K {CU E' ops.toList with nt:=E.nt+32*ops.size}=some r->Q .normal R w':=by
   intro E' R w' G' S Y W X g4;obtain⟨k1,k2,k3⟩:=aaz S Y;refine n0 {CU E' ops.toList with nt:=E.nt+32*ops.size} R w' G' ?_ k2 (by rw[k3,W,z]) (by show 4<=E.nt+32*ops.size;omega) (fun i hi=>(X i hi).trans (D i hi)) g4;simpa using k1
  split at h;split at h;rename_i d hd
  have J:0<ops.size:=by
   rcases aoE ops.size with h0|h0;have:ops= #[]:=Array.eq_empty_of_size_eq_zero h0;subst this;simp[Om]at hd;exact h0
  exact Yk hC.toCxTy hC.mixed f q B hd J k0 h (fun E' R w' G' S Y W g4 X g6=>n0 E' R w' G' S Y (W.trans z) g4 (fun i hi=>(X i hi).trans (D i hi)) g6);simp only[Ub]at h
  exact aaM (ops:=ops.toList) hC.mixed hC k0 o0 B f q (k:=fun E'=>K {CU E' ops.toList with nt:=E.nt+32*ops.size}) (by
   rw[<-h];congr 1;funext E' L;cases OH ops.toList L<;>rfl) fin
  refine wp_region ?_;have j0:=VY M ops.toList;have:=OF (Q:=Q) hC hM k0 o0 B (l:=steps M ops.toList) (i:=0) (by rw[j0];simp) (by rw[j0];simp) (by simpa using f) (fun s j w1 act v p=>absurd p (q s j w1 act v)) h fin;rw[S4];rw[j0]at this;simpa using this;cases h
 |seq x y b0 e0=>
  intro E a w G K N ke Q f q z B D h J p I;refine wp_seq ?_;simp only[KP]at h;split at h;refine b0 (Q:=Exit.then (y.wp P Q) Q) f q z B D h (fun E' R w' G' S Y W g4 gT X=> ?_) p I;exact e0 S Y W g4 gT X J p I;rename_i n _;simp only[aN]at h;refine b0 (Q:=Exit.then (y.wp P Q) Q) f q z B D h (fun E' R w' G' S Y W g4 gT X=> ?_) p I;split at X;rename_i t ht;obtain⟨G2,k1,k2,k3,k4⟩:=NW S W ht;exact e0 k1 k2 k3 k4 gT X J p I;cases X
 |cond c x y b0 e0=>
  intro E a w G K N ke Q f q z B D h J p I;simp only[KP]at h;split at h;rename_i b sh hb;have hR:RI ([]:List Oper) E a.tmps:=fun s j w1 act v p=>absurd p (q s j w1 act v);obtain⟨⟨cs,h1,h2⟩,_⟩:=rb f hR (g:=none) (by rintro j w' ⟨⟩) hb
  have r0:a.eval c= .bool b:=by
   cases sh with
   |leaf=>rw[h1,show cs=_ from h2];rfl
   |sl m=>exact h2.elim
   |pair a b=>exact h2.elim
  refine wp_cond r0 ?_;split at h;rename_i hb;subst hb;exact b0 f q z B D h J p I;rename_i hb;have:b=false:=by simpa using hb
  subst this;exact e0 f q z B D h J p I;cases h
 |block id c ih=>
  intro E a w G K N ke Q f q z B D h J p I;refine wp_block ?_;simp only[KP]at h;refine ih (Q:=Exit.inBlock id Q) f q z B D h J (fun i k hk=> ?_) I;rw[PL]at hk;intro E2 a2 w2 G2 S Y W g4 gT X;show Exit.inBlock id Q (.exit i) a2 w2;simp only[Exit.inBlock];split at hk;rename_i e;simp only[anJ]at hk;subst hk;simp only[e,if_true];exact J E2 a2 w2 G2 S Y W g4 gT X;rename_i e;simp only[e,if_false];exact p i k hk E2 a2 w2 G2 S Y W g4 gT X
 |loop c ih=>
  intro E a w G K N ke Q f q z B D h J p I;simp only[KP]at h;split at h;cases h;rename_i n _
  have hq:∃t,proj n E=some t/\aM C.k (fun G t=>KP C M c (nc C.n n t) (fun E'=>match proj n E' with|some t=>G t|none=>none) ke N) t=some r:=by
   split at h;rename_i t ht;exact⟨t,ht,h⟩;cases h
  obtain⟨t,ht,h⟩:=hq;obtain⟨G2,k1,k2,k3,k4⟩:=NW f z ht;refine wp_loop_rounds C.k ?_
  have key:∀(m:Nat) (t:du (Hc n.ks)) (a:Act) (w:World) (G:Gh),aM m (fun G t=>KP C M c (nc C.n n t) (fun E'=>match proj n E' with|some t=>G t|none=>none) ke N) t=some r->
   Inv w0 c0 (fun u=>u<(nc C.n n t).nt) (nc C.n n t) a w G->NR (nc C.n n t).s->(nc C.n n t).s.length=C.n->4<=(nc C.n n t).nt->(∀i∈C.io,a.tmps.getD i undef=T i)->Code.rounds P c Q m a w:=by
   intro m
   induction m with
   |zero=>intro t a w G h;simp[aM]at h
   |succ m s0=>
    intro t a w G h S Y W g4 gT;rw[rounds_succ];simp only[aM]at h;refine ih (Q:=Exit.then (Code.rounds P c Q m) Q) S Y W g4 gT h (fun E' R w' G' q1 q2 q3 q4 qT q5=> ?_) p I;split at q5;rename_i t' p0;obtain⟨G3,p1,p2,p3,p4⟩:=NW q1 q3 p0;exact s0 t' R w' G3 q5 p1 p2 p3 p4 qT;cases q5
  exact key C.k t a w G2 h k1 k2 k3 k4 D
 |exit id=>
  intro E a w G K N ke Q f q z B D h J p I;simp only[KP]at h;split at h;rename_i k hk;exact wp_exit (p id k hk E a w G f q z B D h);cases h
 |ret=>intro E a w G K N ke Q f q z B D h J p I;exact wp_ret (I E a w G f q z B D h)
 |_=>intro E a w G K N ke Q f q z B D h J p I;simp[KP]at h
end
end Vg
