/- VG, joined: an evaluator of the code over typed values, and its soundness, for any program. -/
import Derived.Test.YtgikmhjpcnnhjaaGreatVb
import Derived.LoopN
import Derived.WalkKit
import Derived.ProofKit
import Derived.OpenShut
import Derived.JoinedCond
import Derived.Carry
import Derived.Test.YtgikmhjpcnnhjaaGreatVa
import Derived.KernelRfl
import Derived.Lib.Join
import Derived.Below
import Derived.Shelf.GgSortMore.Stable
import Derived.Shelf.SlSortFuncK.WholeK
set_option linter.unusedSimpArgs false
set_option linter.unusedVariables false
set_option linter.unusedSectionVars false
set_option linter.defProp false
open Bool renaming and_eq_true -> k_,not_eq_true' -> ar6,or_eq_true -> ar7,false_eq_true -> asb,eq_iff_iff -> asB,true_and -> atk
open Option.some renaming injEq -> C_,inj -> atw
open List renaming all_eq_true -> J9,getD_eq_getElem?_getD -> arW,mem_append -> J_,getD_cons_succ -> arY,getElem?_eq_getElem -> arZ,contains_eq_mem -> ar0,mem_cons -> T_,length -> Q',mem_cons_of_mem -> ar4,getElem?_eq_some_iff -> ar8,length_cons -> asa,length_append -> asc,mem_map -> asf,getD_cons_zero -> asi,map_congr_left -> asj,getElem?_cons_succ -> asl,map_cons -> asm,mem_singleton -> asn,getElem?_take -> aso,take_of_length_le -> asp,drop_eq_nil_of_le -> asq,append_assoc -> asr,drop_drop -> ass,mem_zipIdx_iff_getElem? -> ast,getElem?_eq_none -> asu,not_mem_nil -> asy,map_append -> asC,nodup_cons -> asD,mem_filterMap -> asF,getElem?_drop -> asG,lookup -> asJ,mem_flatMap -> asK,length_singleton -> asL,getElem?_toArray -> asM,mem_append_right -> asN,mem_filter -> asP,map_map -> asQ,pairwise_append -> asR,mem_of_getElem? -> asS,pairwise_cons -> asW,getD -> asX,sum_cons -> as0,filter_congr -> as1,isEmpty_iff -> as3,range'_succ -> as4,length_drop -> as5,getElem?_cons_zero -> as6,head?_drop -> as7,append_nil -> as8,range' -> as9,append_eq_nil_iff -> ata,replicate -> atc,take_append_drop -> atd,take_left -> ate,mem_range -> atf,mem_append_left -> atg,mem_cons_self -> atm,getElem?_map -> ato,mem_range'_1 -> atq,nodup_append -> atr,any_eq_true -> ats,flatMap_def -> att,cons_append -> atu,range -> atx,forIn_cons -> atz,filterMap -> atA,take_take -> atB,drop_left -> atD
open Option renaming bind_eq_some_iff -> ar3,isSome_iff_exists -> asg,bind_some -> asw,map_eq_some_iff -> asI,bind -> atb,isSome_none -> atn,bind_assoc -> atp
open Nat renaming mul_le_mul_right -> ar5,le_refl -> asd,add_mul -> ase,one_mul -> asz,lt_or_ge -> asE,eq_zero_or_pos -> asV,sub_zero -> as2,not_lt -> atv,min_eq_left -> aty
open Prod.mk renaming injEq -> ar9
open Array renaming getD_eq_getD_getElem? -> asv,getD -> asx,length_toList -> asA,getElem?_toList -> asO,replicate -> asT,eq_empty_of_size_eq_zero -> asU,getElem?_append_left -> asZ,toArray_toList -> ath,ext' -> ati,toList_extract -> atj
open Int renaming toNat_natCast -> asH,toNat -> asY
open Function renaming comp_apply -> atl
open Go.IntKind renaming signed -> atC,wrap -> atE,bits -> atF
namespace Vg
open Go
def acQ{a b:List Nat}(h:∀c∈a,c∉b):meets a b=false:=by
 simp only[meets,List.any_eq_false,ar0,b_];exact h
theorem ahj(ts X:List Nat):agT X (M.kill ts) (!ts.contains ·) (fun hs=>if meets hs ts then none else some hs) where
 m m:=by
   unfold M.kill;split;exact .inr (.inl rfl);exact .inl rfl
 r hs hs' h:=by
   split at h;cases h;cases h;exact .inl rfl
theorem afK{ts:List Nat}{v:SV}(h:∀c∈v.Br,c∉ts):v.kill ts=v:=
 SV.stays (X:=ts) (fun m d=>by unfold M.kill;rw[acQ d];rfl) (fun t e=>by simpa using e) (fun hs f=>by simp[acQ f]) h
def agn{a b:List Nat}(h:meets a b=true):∃c,c∈a/\c∈b:=by
 simp only[meets,ats,ar0,b_]at h;exact h
def aaz{ts hs:List Nat}{t:Nat}(h:meets hs ts=true):t∈X2 ts t hs:=by
 obtain⟨c,d,e⟩:=agn h;have:=aam (ts:=ts) (t:=t) d;rwa [an e]at this
theorem agk{ts X:List Nat}{t:Nat}(j:t∈X):agT X (M.fv ts t) (!ts.contains ·) (fun hs=>some (if meets hs ts then X2 ts t hs else hs)) where
 m m:=by
   unfold M.fv;split;rename_i d;right;right;refine⟨t,j,?_⟩;cases m with
   |row u hs nd=>
    simp only[M.YD];split;exact aaz d;rename_i f
    have:meets hs ts=true:=by
     obtain⟨c,e,k⟩:=agn d;simp only[M.cO,T_]at e;rcases e with rfl|e;simp only[ar0,b_]at f;exact absurd k f;simp only[meets,ats,ar0,b_];exact⟨c,e,k⟩
    simp only[M.cO,T_];exact .inr (aaz this)
   |sha hs=>exact aaz d
   |nst b E i o p fr=>exact aaz d
   |dead=>simp[M.cO,meets]at d
   exact .inl rfl
 r hs hs' h:=by
   simp only[C_]at h;subst h;split;rename_i d;exact .inr ⟨t,j,aaz d⟩;exact .inl rfl
theorem ahy{ts:List Nat}{t:Nat}{v:SV}(h:∀c∈v.Br,c∉ts):v.fv ts t=v:=
 SV.stays (X:=ts) (fun m d=>by unfold M.fv;rw[acQ d];rfl) (fun t e=>by simpa using e) (fun hs f=>by simp[acQ f]) h
theorem ajj(b:Nat)(X:List Nat):agT X (M.og b) (fun _=>true) (fun hs=>if hs.contains b then none else some hs) where
 m m:=by
   cases m with
   |row u hs nd=>
    simp only[M.og];split;exact .inl rfl;split;exact .inr (.inl rfl);exact .inl rfl
   |sha hs=>
    simp only[M.og];split;exact .inr (.inl rfl);exact .inl rfl
   |nst b' E i o p fr=>
    simp only[M.og];split;exact .inr (.inl rfl);exact .inl rfl
   |dead=>exact .inl rfl
 r hs hs' h:=by
   split at h;cases h;cases h;exact .inl rfl
theorem ajh{b:Nat}{v:SV}(h:∀c∈v.Br,c∉ [b]):v.og b=v:=
 SV.stays (X:=[b]) (fun m e=>by
  cases m with
  |row u f nd=>
   simp only[M.og];split;rfl;rw[a_];simp only[ar0,b_];intro d;exact e b (by simp[M.cO,d]) (by simp)
  |sha f=>
   simp only[M.og];rw[a_];simp only[ar0,b_];intro d;exact e b (by simp[M.cO,d]) (by simp)
  |nst b' E i o p fr=>
   simp only[M.og];rw[a_];intro d;exact e b (by simp[M.cO,d]) (by simp)
  |dead=>rfl) (fun _ _=>rfl) (fun f j=>by
  rw[a_];simp only[ar0,b_];intro d;exact j b d (by simp)) h
theorem ZZ{b:Nat}{e:Ty}{y:List e.den}{m:M}:∀ {τ:Ty} {x:τ.den} {sh:Sh},b∉sh.cO->ON b e y m τ x sh=(x,sh)
 | .sl e',l,.sl (.row u hs nd),h=>by
   have:u≠b:=fun e=>h (by simp[Sh.cO,M.cO,e]);simp only[ON,this,if_false]
 | .pair a c,p,.pair s1 s2,h=>by
   simp only[Sh.cO,J_,not_or]at h;simp only[ON,ZZ h.1,ZZ h.2]
 | .sl _,_,.sl (.nst _ _ _ _ _ _),_| .sl _,_,.leaf,_| .sl _,_,.pair _ _,_| .sl _,_,.sl (.sha _),_| .sl _,_,.sl .dead,_
 | .int _,_,.leaf,_| .int _,_,.sl _,_| .int _,_,.pair _ _,_| .bool,_,.leaf,_| .bool,_,.sl _,_| .bool,_,.pair _ _,_
 | .str,_,.leaf,_| .str,_,.sl _,_| .str,_,.pair _ _,_| .pair _ _,_,.leaf,_| .pair _ _,_,.sl _,_=>rfl
theorem Z0{b:Nat}{e:Ty}{y:List e.den}{m:M}(f:b∈m.cO):∀ {τ:Ty} {x:τ.den} {sh:Sh},(ON b e y m τ x sh).2.live=true->b∉(ON b e y m τ x sh).2.cO->ON b e y m τ x sh=(x,sh)
 | .sl e',l,.sl (.row u hs nd),hl,hc=>by
   simp only[ON]at hl hc|-;split;rename_i h;rw[an h]at hl hc;split;rename_i d;rw[dif_pos d]at hc;exact absurd f hc;rename_i d;rw[dif_neg d]at hl;cases hl;rfl
 | .pair a c,p,.pair s1 s2,hl,hc=>by
   simp only[ON,Sh.live,k_,Sh.cO,J_,not_or]at hl hc;simp only[ON,Z0 f hl.1 hc.1,Z0 f hl.2 hc.2]
 | .sl _,_,.sl (.nst _ _ _ _ _ _),_,_| .sl _,_,.leaf,_,_| .sl _,_,.pair _ _,_,_| .sl _,_,.sl (.sha _),_,_| .sl _,_,.sl .dead,_,_
 | .int _,_,.leaf,_,_| .int _,_,.sl _,_,_| .int _,_,.pair _ _,_,_| .bool,_,.leaf,_,_| .bool,_,.sl _,_,_| .bool,_,.pair _ _,_,_
 | .str,_,.leaf,_,_| .str,_,.sl _,_,_| .str,_,.pair _ _,_,_| .pair _ _,_,.leaf,_,_| .pair _ _,_,.sl _,_,_=>rfl
theorem TV.S3{b:Nat}{e:Ty}{y:List e.den}{m:M}{v:TV}(h:b∉v.sh.cO):v.setRow b e y m=v:=by
 unfold TV.setRow;rw[ZZ h]
theorem TV.S5{b:Nat}{e:Ty}{y:List e.den}{m:M}(h:b∈m.cO){v:TV}(c:(v.setRow b e y m).sh.live=true)(hc:b∉(v.setRow b e y m).sh.cO):v.setRow b e y m=v:=by
 unfold TV.setRow at c hc|-;rw[Z0 h c hc]
theorem S3{b:Nat}{e:Ty}{y:List e.den}{m:M}:∀ {v:SV},b∉v.Br->v.setRow b e y m=v
 | .no,_| .ptr ..,_| .ept ..,_=>rfl
 | .d v,h=>by simp only[SV.setRow];rw[TV.S3 h]
 | .box t v,h=>by simp only[SV.setRow];rw[TV.S3 (fun c=>h (by simp[SV.Br,c]))]
 | .rdp hs v,h=>by
   simp only[SV.setRow];rw[a_];simpa[SV.Br]using h
 | .tup l,h=>by
   simp only[SV.setRow];congr 1
   conv=>rhs;rw[<-List.map_id l]
   refine asj (fun v f=>TV.S3 (fun c=>h ?_));simp only[SV.Br,asK];exact⟨v,f,c⟩
 | .g j w a v,h=>by simp only[SV.setRow];rw[S3 (v:=v) h]
theorem S5{b:Nat}{e:Ty}{y:List e.den}{m:M}(f:b∈m.cO):∀ {v:SV},(v.setRow b e y m).clean=true->b∉(v.setRow b e y m).Br->v.setRow b e y m=v
 | .no,h,_=>by cases h
 | .ptr ..,_,_| .ept ..,_,_=>rfl
 | .d v,h,hc=>by simp only[SV.setRow];rw[TV.S5 f h hc]
 | .box t v,h,hc=>by simp only[SV.setRow];rw[TV.S5 f h (fun c=>hc (by simp[SV.setRow,SV.Br,c]))]
 | .rdp hs v,h,hc=>by
   simp only[SV.setRow]at h|-;split;rename_i c;rw[an c]at h;cases h;rfl
 | .tup l,h,hc=>by
   simp only[SV.setRow];congr 1
   conv=>rhs;rw[<-List.map_id l]
   refine asj (fun v k=> ?_);simp only[SV.setRow,SV.clean,List.all_map,J9,atl]at h;refine TV.S5 f (h v k) (fun c=>hc ?_);simp only[SV.setRow,SV.Br,List.flatMap_map,asK];exact⟨v,k,c⟩
 | .g j w a v,h,hc=>by simp only[SV.setRow];rw[S5 f (v:=v) h hc]
theorem Tr.stays{T:Tr}{v:SV}(h:∀c∈v.Br,c∉T.IF):T.sv v=v:=by
 cases T with
 |id=>rfl
 |kg u I t=>
  simp only[Tr.IF,T_,J_,not_or]at h;simp only[Tr.sv,CE,Sk]
  have D:(if u.isEmpty=true then v else v.kill u)=v:=by
   split;rfl;exact afK (fun c hc=>(h c hc).2.1)
  rw[D];split;rfl;exact ahy (fun c hc=>(h c hc).2.2)
 |el I b e l m=>
  simp only[Tr.IF,T_,not_or]at h;simp only[Tr.sv];rw[ahy (fun c hc=>(h c hc).2),ajh (fun c hc=>by simpa using(h c hc).1),S3 (fun hc=>(h b hc).1 rfl)]
 |ki y rp=>
  simp only[Tr.IF,J_,not_or]at h
  have q:(if y.isEmpty=true then v else v.kill y)=v:=by
   split;rfl;exact afK (fun c hc=>(h c hc).1)
  simp only[Tr.sv,CE];split;exact q;cases v with
  |ept b e i o p τ=>
   simp only[SV.qn];split;rename_i z B;exact absurd (asf.2 ⟨(b,z),N4 B,rfl⟩) (h b (by simp[SV.Br])).2.1;exact q
  |_=>exact q
theorem Tr.SQ{T:Tr}(S:T.ok=true){v:SV}(q:(T.sv v).clean=true)(h:∀c∈(T.sv v).Br,c∉T.IF):T.sv v=v:=by
 cases T with
 |id=>rfl
 |kg N B t=>
  simp only[Tr.sv,CE,Sk]at q h|-;generalize J:(if N.isEmpty=true then v else v.kill N)=v1 at q h|-
  have K:(if B.isEmpty=true then v1 else v1.fv B t)=v1:=by
   split;rfl;rename_i W;rw[a_ W]at q h;exact SV.SQ (agk (X:=[t]) (by simp)) q (fun c hc z=>h c hc (by simp only[asn]at z;simp[Tr.IF,z]))
  rw[K]at q h|-;rw[<-J]at q h|-;split;rfl;rename_i y;rw[a_ y]at q h;exact SV.SQ (ahj N []) q (by simp)
 |el B b e l m=>
  simp only[Tr.ok,ar0,b_]at S;simp only[Tr.sv]at q h|-;have K:=S5 S q (fun hc=>h b hc (by simp[Tr.IF]));rw[K]at q h|-;have Y:(v.fv B b).og b=v.fv B b:=SV.SQ (ajj b []) q (by simp);rw[Y]at q h|-;exact SV.SQ (agk (X:=[b]) (by simp)) q (fun c hc z=>h c hc (by simp only[asn]at z;simp[Tr.IF,z]))
 |ki D rp=>
  have y:(if D.isEmpty=true then v else v.kill D).clean=true->(if D.isEmpty=true then v else v.kill D)=v:=by
   intro q;split;rfl;rename_i y;rw[a_ y]at q;exact SV.SQ (ahj D []) q (by simp)
  simp only[Tr.sv,CE]at q h|-;split;rename_i I;rw[an I]at q;exact y q;rename_i I;rw[a_ I]at q h;cases v with
  |ept b e i o p τ=>
   simp only[SV.qn]at q h|-;split;rename_i R u;rw[u]at h;exact absurd (by simp only[Tr.IF,J_,asf];exact .inr (.inr ⟨(b,R),N4 u,rfl⟩)) (h R (by simp[SV.Br]));rename_i u;rw[u]at q;exact y q
  |_=>exact y q
def Ug{T:Tr}(h:T.VV=true)(v:SV):T.sv v=v:=by
 cases T with
 |id=>rfl
 |kg ks c t=>
  simp only[Tr.VV,k_]at h;simp only[Tr.sv,CE,Sk,h.1,h.2,if_true]
 |el c b e l m=>simp[Tr.VV]at h
 |ki ts rp=>simp only[Tr.VV,k_]at h;simp only[Tr.sv,CE,h.1,h.2,if_true]
def aoI(T:Tr):T.sv .no= .no:=by
 cases T with
 |id=>rfl
 |kg ks c t=>simp only[Tr.sv,CE,Sk];split<;>split<;>rfl
 |el c b e l m=>rfl
 |ki ts rp=>simp only[Tr.sv,CE,SV.qn];split<;>split<;>rfl
theorem ajL:∀(ws:List (Nat×SV)) (L:List SV),(C6 ws L).length=L.length
 | [],_=>rfl
 |p::ws,L=>by
  show(C6 ws (L.set p.1 p.2)).length=L.length;rw[ajL ws];simp
theorem ajD:∀(ws:List (Nat×SV)) (L:List SV) (s:Nat),(∀p∈ws,p.1≠s)->(C6 ws L).getD s .no=L.getD s .no
 | [],_,_,_=>rfl
 |p::ws,L,s,h=>by
  show(C6 ws (L.set p.1 p.2)).getD s .no=L.getD s .no;rw[ajD ws _ s (fun q c=>h q (by simp[c])),CS,a_];rintro⟨e,_⟩;exact h p (by simp) e.symm
def aoW{E:Env}{T:Tr}{ws:List (Nat×SV)}{s:Nat}(h:∀p∈ws,p.1≠s):(E.MQ (T,ws)).s.getD s .no=T.sv (E.s.getD s .no):=by
 simp only[Env.MQ];rw[ajD ws _ s h,getD_map (aoI T)]
def rX(t:Nat):SV->Bool
 | .box u _=>u=t
 |_=>false
theorem adC:∀(L:List SV) (t k s:Nat) (v:TV),zG L t k=some (s,v)↔k<=s/\L.getD (s-k) .no= .box t v/\∀j,j<s-k->rX t (L.getD j .no)=false
 | [],t,k,s,v=>by simp[zG]
 |x::L,t,k,s,v=>by
  have step:(∀u,x≠ .box t u)->(zG (x::L) t k=some (s,v)↔zG L t (k+1)=some (s,v)):=by
   intro h;cases x with
   |box u y=>
    simp only[zG];rw[a_];intro e;exact h y (by rw[e])
   |_=>rfl
  by_cases m:∃u,x= .box t u;obtain⟨u,rfl⟩:=m;simp only[zG,if_true,C_,ar9];constructor;rintro⟨rfl,rfl⟩;exact⟨asd _,by simp,fun j l=>by omega⟩;rintro⟨n,c,f⟩
  have p:s-k=0:=by
   rcases asV (s-k)with h|h;exact h;have:=f 0 h;simp[rX]at this
  rw[p]at c;simp only[asi,SV.box.injEq,true_and]at c;exact⟨by omega,c⟩;have d:∀u,x≠ .box t u:=fun u e=>m ⟨u,e⟩;rw[step d,adC L t (k+1) s v]
  have q:rX t x=false:=by
   cases x with
   |box u y=>simp only[rX,d_];intro e;exact d y (by rw[e])
   |_=>rfl
  constructor;rintro⟨n,c,f⟩;refine⟨by omega,?_,fun j l=> ?_⟩;rw[show s-k=(s-(k+1))+1 by omega,arY];exact c;cases j with
  |zero=>simpa using q
  |succ j=>rw[arY];exact f j (by omega)
  rintro⟨n,c,f⟩
  have z:k+1<=s:=by
   rcases asE k s with h|h;exact h;rw[show s-k=0 by omega]at c;simp only[asi]at c;exact absurd c (d v)
  refine⟨z,?_,fun j l=> ?_⟩;rw[show s-k=(s-(k+1))+1 by omega,arY]at c;exact c;have:=f (j+1) (by omega);rwa [arY]at this
def ajW{L L':List SV}{t s:Nat}{v:TV}(h:zG L t 0=some (s,v))(hs:L'.getD s .no=L.getD s .no)(f:∀j,rX t (L'.getD j .no)=rX t (L.getD j .no)):zG L' t 0=some (s,v):=by
 rw[adC]at h|-;obtain⟨k,c,d⟩:=h;simp only[as2]at c d|-;exact⟨k,by rw[hs];exact c,fun j e=>by rw[f];exact d j e⟩
def rowAt(t:Nat)(e:Ty):SV->Option (List e.den×List Nat×Bool)
 | .d v| .box _ v=>OA t e v.τ v.x v.sh
 |_=>none
theorem Y7:∀(L:List SV) (t:Nat) (e:Ty) (k s:Nat),CR t e L k=some s↔k<=s/\(rowAt t e (L.getD (s-k) .no)).isSome/\∀j,j<s-k->rowAt t e (L.getD j .no)=none
 | [],t,e,k,s=>by simp[CR,rowAt]
 |x::L,t,e,k,s=>by
  have f:CR t e (x::L) k=if(rowAt t e x).isSome then some k else CR t e L (k+1):=by
   cases x<;>rfl
  rw[f];by_cases d:(rowAt t e x).isSome=true;rw[an d];simp only[C_];constructor;rintro rfl;exact⟨asd _,by simpa using d,fun j n=>by omega⟩;rintro⟨p,c,m⟩;rcases asV (s-k)with h|h;omega;have:=m 0 h;simp only[asi]at this;rw[this]at d;cases d;rw[a_ d,Y7 L t e (k+1) s];have l:rowAt t e x=none:=by simpa using d
  constructor;rintro⟨p,c,m⟩;refine⟨by omega,?_,fun j n=> ?_⟩;rw[show s-k=(s-(k+1))+1 by omega,arY];exact c;cases j with
  |zero=>simpa using l
  |succ j=>rw[arY];exact m j (by omega)
  rintro⟨p,c,m⟩
  have q:k+1<=s:=by
   rcases asE k s with h|h;exact h;rw[show s-k=0 by omega]at c;simp only[asi,l]at c;cases c
  refine⟨q,?_,fun j n=> ?_⟩;rw[show s-k=(s-(k+1))+1 by omega,arY]at c;exact c;have:=m (j+1) (by omega);rwa [arY]at this
theorem YL:∀(L:List SV) (t:Nat) (e:Ty) (k s:Nat),CR t e L k=some s->CT t e L=rowAt t e (L.getD (s-k) .no)
 | [],t,e,k,s,h=>by simp[CR]at h
 |x::L,t,e,k,s,h=>by
  have c:CR t e (x::L) k=if(rowAt t e x).isSome then some k else CR t e L (k+1):=by
   cases x<;>rfl
  have j:CT t e (x::L)=match rowAt t e x with|some r=>some r|none=>CT t e L:=by
   cases x<;>rfl
  rw[c]at h;by_cases d:(rowAt t e x).isSome=true;rw[an d]at h;simp only[C_]at h;subst h;rw[j];obtain⟨r,l⟩:=asg.1 d;simp[l];rw[a_ d]at h;have f:rowAt t e x=none:=by simpa using d
  rw[j,f];have hs:=(Y7 L t e (k+1) s).1 h;rw[show s-k=(s-(k+1))+1 by omega,arY];exact YL L t e (k+1) s h
def akl{L L':List SV}{t s:Nat}{e:Ty}(h:CR t e L 0=some s)(hs:L'.getD s .no=L.getD s .no)(l:∀j,j<s->rowAt t e (L.getD j .no)=none->rowAt t e (L'.getD j .no)=none):
 CR t e L' 0=some s/\CT t e L'=CT t e L:=by
 have d:CR t e L' 0=some s:=by
  rw[Y7]at h|-;obtain⟨m,f,k⟩:=h;simp only[as2]at f k|-;exact⟨m,by rw[hs];exact f,fun j c=>l j c (k j c)⟩
 refine⟨d,?_⟩;rw[YL L' t e 0 s d,YL L t e 0 s h,as2,hs]
structure aev(b:zF)(E E':Env):Prop where
 get:∀s∈b.rs,E'.get s=E.get s
 ra:∀s∈b.ra,∃t u u',E.get s= .box t u/\E'.get s= .box t u'/\u'.τ=u.τ
 box:∀t∈b.bx,∀j,rX t (E'.get j)=rX t (E.get j)
 row:∀p∈b.rw,∀(e:Ty) (j:Nat),j<p.2->rowAt p.1 e (E.get j)=none->rowAt p.1 e (E'.get j)=none
 dz:∀p∈b.ws,Ud (E'.get p.1) p.2=true
 nb:∀p∈b.ws,sameBox (E'.get p.1) p.2=sameBox (E.get p.1) p.2
section
variable{C:Cx}{ops:List Oper}{i:Nat}{o:Oper}{E E':Env}{r:Tr×List (Nat×SV)}
def ajJ{s:Nat}(h:s∈Q8 ops o):s∈(Hq ops i o E r).rs\/s∈(Hq ops i o E r).ra:=by
 simp only[Hq,J_,asP];cases hb:(E.get s).ye with
 |true=>exact .inr ⟨h,rfl⟩
 |false=>exact .inl (.inl (.inl ⟨h,rfl⟩))
def akI{t s:Nat}{v:TV}(c:AB o=true)(d:t∈YS E o)(h:zG E.s t 0=some (s,v)):s∈(Hq ops i o E r).rs:=by
 simp only[Hq,J_];refine .inl (.inr ?_);rw[asF];exact⟨t,by rw[an c];exact d,by rw[h];rfl⟩
def af6{t s:Nat}{e:Ty}(c:AB o=true)(d:(t,e)∈Yl E o)(h:CR t e E.s 0=some s):(t,s)∈(Hq ops i o E r).rw:=by
 simp only[Hq];rw[asF];exact⟨(t,e),by rw[an c];exact d,by rw[h];rfl⟩
def akC{t s:Nat}{e:Ty}(c:AB o=true)(d:(t,e)∈Yl E o)(h:CR t e E.s 0=some s):s∈(Hq ops i o E r).rs:=by
 have:=af6 (ops:=ops) (i:=i) (r:=r) c d h;simp only[Hq,J_]at this|-;refine .inr ?_;rw[asf];exact⟨(t,s),this,rfl⟩
def anZ{s b off:Nat}{p:List Bool}{τ:Ty}(hs:s∈tmpsOf o)(h:(E.rd.get s).strip= .ptr b off p τ):b∈YS E o:=by
 unfold YS;rw[asF];exact⟨s,hs,by rw[h]⟩
def an1{s b:Nat}{e:Ty}(hs:s∈tmpsOf o)(h:ajX (E.rd.get s).strip=some (b,e)):(b,e)∈Yl E o:=by
 unfold Yl;rw[asF];exact⟨s,hs,h⟩
theorem Ri{α β:Type}{f g:α->Option β}:∀ {l:List α},(∀x∈l,f x=g x)->l.filterMap f=l.filterMap g
 | [],_=>rfl
 |x::l,h=>by
  simp only[List.filterMap_cons,h x (by simp),Ri (l:=l) (fun y c=>h y (by simp[c]))]
theorem adf{α β:Type}{f:α->Option β}:∀ {l:List α},(l.filterMap f).length=l.length->∀x∈l,(f x).isSome=true
 | [],_,x,c=>by cases c
 |y::l,h,x,c=>by
  have hle:=List.length_filterMap_le f l;cases d:f y with
  |none=>
   rw[List.filterMap_cons_none d]at h;simp at h;omega
  |some z=>
   rw[List.filterMap_cons_some d]at h;simp only[asa,Nat.add_right_cancel_iff]at h;rcases T_.1 c with rfl|c;rw[d];rfl;exact adf h x c
def al4(m:aev (Hq ops i o E r) E E')(K:(Hq ops i o E r).fd=true)(N:(Hq ops i o E r).dz=true):
 We o E.rd E'.rd/\guardOf ops E'.rd o.guard=guardOf ops E.rd o.guard/\Hq ops i o E' r=Hq ops i o E r:=by
 have n:∀s∈Q8 ops o,pr (E'.get s)=pr (E.get s)/\(E'.get s).ye=(E.get s).ye:=fun s d=>by
  rcases ajJ (i:=i) (E:=E) (r:=r) d with h|h;rw[m.get s h];exact⟨rfl,rfl⟩;obtain⟨t,u,u',h1,h2,h3⟩:=m.ra s h;rw[h1,h2];simp only[pr,h3,SV.ye];exact⟨trivial,trivial⟩
 have W:∀s∈tmpsOf o,s∈Q8 ops o:=fun s d=>by simp only[Q8,J_];exact .inl d
 have D:∀s∈tmpsOf o,E'.rd.get s=E.rd.get s:=fun s d=>(n s (W s d)).1;simp only[Hq,k_,b_,J9]at K;obtain⟨S,j0⟩:=K
 have R:AB o=true->∀p∈Yl E o,(CR p.1 p.2 E.s 0).isSome=true:=by
  intro c p l;rw[an c]at S;have:=adf S p l;simpa using this
 have y:AB o=true->∀t∈YS E o,zG E'.s t 0=zG E.s t 0:=by
  intro c t f;obtain⟨⟨s,v⟩,J⟩:=asg.1 (j0 t (by rw[an c];exact f));rw[J];exact ajW J (m.get s (akI c f J)) (fun j=>m.box t (by simp only[Hq];rw[an c];exact f) j)
 have z:AB o=true->∀p∈Yl E o,CR p.1 p.2 E'.s 0=CR p.1 p.2 E.s 0/\CT p.1 p.2 E'.s=CT p.1 p.2 E.s:=by
  rintro c ⟨t,e⟩ l;obtain⟨s,d⟩:=asg.1 (R c (t,e) l);have:=akl d (m.get s (akC c l d)) (fun j hj hn=>m.row (t,s) (af6 c l d) e j hj hn);exact⟨this.1.trans d.symm,this.2⟩
 refine⟨⟨D,fun c s d b off p τ h=>y c b (anZ d h),fun c s d b e h=>(z c (b,e) (an1 d h)).2⟩,?_,?_⟩;cases hg:o.guard with
 |none=>rfl
 |some q=>
  obtain⟨j,w⟩:=q;simp only[guardOf];cases hd:(ops[j]?).bind (·.dst)with
  |none=>rfl
  |some s=>
   have d:s∈Q8 ops o:=by
    simp only[Q8,J_];refine .inr ?_;rw[hg];simp[hd]
   have:E'.rd.get s=E.rd.get s:=(n s d).1;simp only[this]
 have hb:YS E' o=YS E o:=Ri (fun s d=>by rw[D s d]);have hr:Yl E' o=Yl E o:=Ri (fun s d=>by rw[D s d]);have X:(Q8 ops o).filter (fun s=>(E'.get s).ye)=(Q8 ops o).filter (fun s=>(E.get s).ye):=as1 (fun s d=>(n s d).2);have Y:(Q8 ops o).filter (fun s=> !(E'.get s).ye)=(Q8 ops o).filter (fun s=> !(E.get s).ye):=as1 (fun s d=>by rw[(n s d).2])
 have b0:(if AB o=true then Yl E o else []).filterMap (fun p=>(CR p.1 p.2 E'.s 0).map fun s=>(p.1,s))=(if AB o=true then Yl E o else []).filterMap (fun p=>(CR p.1 p.2 E.s 0).map fun s=>(p.1,s)):=by
  split;rename_i c;exact Ri (fun p l=>by rw[(z c p l).1]);rfl
 have I:∀t∈(if AB o=true then YS E o else []),zG E'.s t 0=zG E.s t 0:=by
  split;rename_i c;exact y c;intro t f;cases f
 have e0:(if AB o=true then YS E o else []).filterMap (fun t=>(zG E'.s t 0).map (·.1))=(if AB o=true then YS E o else []).filterMap (fun t=>(zG E.s t 0).map (·.1)):=
  Ri (fun t f=>by rw[I t f])
 have k:=m.get;have B:=m.dz;simp only[Hq]at k B N;simp only[Hq,hb,hr,b0,e0,X,Y,zF.mk.injEq,true_and];generalize (Q8 ops o).filter (fun s=> !(E.get s).ye)++atA (fun t=>Option.map (fun x=>x.fst) (zG E.s t 0)) (if AB o=true then YS E o else [])++List.map (fun x=>x.snd) (atA (fun p=>Option.map (fun s=>(p.fst,s)) (CR p.fst p.snd E.s 0)) (if AB o=true then Yl E o else []))=rs at k|-;have h0:(r.2.filter fun p=> !sameBox (E'.get p.1) p.2)=r.2.filter fun p=> !sameBox (E.get p.1) p.2:=as1 (fun p l=>by rw[m.nb p (by simpa only[Hq]using l)]);refine⟨?_,?_,?_,?_,?_,by rw[h0],trivial⟩;simp only[att];congr 1;refine asj (fun s d=> ?_);rw[k s d];simp only[att];congr 1;refine asj (fun s d=> ?_);rw[k s d];rw[asB,J9,J9];constructor;intro h s d;rw[<-k s d];exact h s d;intro h s d;rw[k s d];exact h s d;congr 1;rw[asB,J9,J9];constructor;intro h t f;rw[<-I t f];exact h t f;intro h t f;rw[I t f];exact h t f;rw[N,J9];exact B
end
def SV.kd:SV->Nat
 | .no=>0
 | .d _=>1
 | .box _ _=>2
 | .ptr _ _ _ _=>3
 | .ept _ _ _ _ _ _=>4
 | .rdp _ _=>5
 | .tup _=>6
 | .g _ _ _ _=>7
def Z5(v c:SV):Prop:=c.kd=v.kd\/((v.kd=4\/v.kd=5)/\c= .no)
def Xm{f:M->M}{c:Nat->Bool}{d:List Nat->Option (List Nat)}(v:SV):Z5 v (v.mapM f c d):=by
 cases v with
 |ept t e i o p τ=>
  simp only[SV.mapM];split;exact .inl rfl;exact .inr ⟨.inl rfl,rfl⟩
 |rdp hs v=>
  simp only[SV.mapM];split;exact .inl rfl;exact .inr ⟨.inr rfl,rfl⟩
 |_=>exact .inl rfl
def amL{b:Nat}{e:Ty}{y:List e.den}{m:M}(v:SV):Z5 v (v.setRow b e y m):=by
 cases v with
 |rdp hs v=>
  simp only[SV.setRow];split;exact .inr ⟨.inr rfl,rfl⟩;exact .inl rfl
 |_=>exact .inl rfl
theorem Z5.refl(v:SV):Z5 v v:= .inl rfl
theorem Z5.trans{a b c:SV}(h:Z5 a b)(e:Z5 b c):Z5 a c:=by
 rcases h with h|⟨h,rfl⟩;rcases e with e|⟨e,rfl⟩;exact .inl (e.trans h);exact .inr ⟨by rw[<-h];exact e,rfl⟩;rcases e with e|⟨e,_⟩;refine .inr ⟨h,?_⟩;cases c<;>simp[SV.kd]at e|-;simp[SV.kd]at e
def ahu(T:Tr)(v:SV):Z5 v (T.sv v):=by
 cases T with
 |id=>exact .refl v
 |kg ks f t=>
  simp only[Tr.sv,CE,Sk];split<;>split;exact .refl v;exact Xm v;exact Xm v;exact(Xm v).trans (Xm _)
 |el f b e l m=>exact((Xm v).trans (Xm _)).trans (amL _)
 |ki d rp=>
  have c:Z5 v (if d.isEmpty=true then v else v.kill d):=by
   split;exact .refl v;exact Xm v
  simp only[Tr.sv,CE];split;exact c;cases v with
  |ept b e i o p τ=>
   simp only[SV.qn];split;exact .inl rfl;exact c
  |_=>exact c
def YN{f:M->M}{c:Nat->Bool}{d:List Nat->Option (List Nat)}(t:Nat)(v:SV):rX t (v.mapM f c d)=rX t v:=by
 cases v with
 |ept t e i o p τ=>simp only[SV.mapM];split<;>rfl
 |rdp hs v=>simp only[SV.mapM];split<;>rfl
 |_=>rfl
def air{b:Nat}{e:Ty}{y:List e.den}{m:M}(t:Nat)(v:SV):rX t (v.setRow b e y m)=rX t v:=by
 cases v with
 |rdp hs v=>simp only[SV.setRow];split<;>rfl
 |_=>rfl
def Vt(T:Tr)(t:Nat)(v:SV):rX t (T.sv v)=rX t v:=by
 cases T with
 |id=>rfl
 |kg ks f u=>
  simp only[Tr.sv,CE,Sk];split<;>split<;>simp only[SV.fv,SV.kill,YN]
 |el f b e l m=>simp only[Tr.sv,air,SV.og,SV.fv,YN]
 |ki d rp=>
  have c:rX t (if d.isEmpty=true then v else v.kill d)=rX t v:=by
   split<;>simp only[SV.kill,YN]
  simp only[Tr.sv,CE];split;exact c;cases v with
  |ept b e i o p τ=>
   simp only[SV.qn];split;rfl;exact c
  |_=>exact c
def OZ{t:Nat}{v:SV}(h:rX t v=true):∃u,v= .box t u:=by
 cases v with
 |box t' u=>simp only[rX,b_]at h;subst h;exact⟨u,rfl⟩
 |_=>simp[rX]at h
def ao9{v q:SV}(h:v.kd=0\/v.kd=4\/v.kd=5):Ud v q=true:=by
 cases v<;>first|rfl|simp[SV.kd]at h
def aaX{v q:SV}(h:v.kd=1\/v.kd=3\/v.kd=6\/v.kd=7):Ud v q=(v.clean&&v.Br.isEmpty):=by
 cases v<;>first|rfl|simp[SV.kd]at h
def alL{T:Tr}{v q:SV}(h:Ud v q=true):Ud (T.sv v) q=true:=by
 have k:=ahu T v
 have c:v.kd=1\/v.kd=3\/v.kd=6\/v.kd=7->Ud (T.sv v) q=true:=by
  intro m;have n:=h;rw[aaX m,k_]at n;have:v.Br=[]:=by simpa using n.2
  rw[Tr.stays (by rw[this];simp)];exact h
 have f:v.kd=0\/v.kd=4\/v.kd=5->Ud (T.sv v) q=true:=by
  intro m;rcases k with k|⟨_,k⟩;exact ao9 (by rw[k];exact m);rw[k];rfl
 cases v with
 |box t u=>
  obtain⟨u',s⟩:=OZ (t:=t) (v:=T.sv (.box t u)) (by rw[Vt];simp[rX]);rw[s];exact h
 |no=>exact f (.inl rfl)
 |ept t e i o p τ=>exact f (.inr (.inl rfl))
 |rdp hs v=>exact f (.inr (.inr rfl))
 |d v=>exact c (.inl rfl)
 |ptr t o p τ=>exact c (.inr (.inl rfl))
 |tup l=>exact c (.inr (.inr (.inl rfl)))
 |g j w a v=>exact c (.inr (.inr (.inr rfl)))
def alw{T:Tr}(n:T.ok=true){v q:SV}(h:Ud (T.sv v) q=true):Ud v q=true:=by
 have f:=ahu T v
 have c:v.kd=1\/v.kd=3\/v.kd=6\/v.kd=7->Ud v q=true:=by
  intro m;rcases f with f|⟨f,_⟩;have k:=h;rw[aaX (by rw[f];exact m),k_]at k;have s:(T.sv v).Br=[]:=by simpa using k.2
  rw[Tr.SQ n k.1 (by rw[s];simp)]at h;exact h;omega
 cases v with
 |box t u=>
  obtain⟨u',x⟩:=OZ (t:=t) (v:=T.sv (.box t u)) (by rw[Vt];simp[rX]);rw[x]at h;exact h
 |no|ept t e i o p τ|rdp hs v=>rfl
 |d v=>exact c (.inl rfl)
 |ptr t o p τ=>exact c (.inr (.inl rfl))
 |tup l=>exact c (.inr (.inr (.inl rfl)))
 |g j w a v=>exact c (.inr (.inr (.inr rfl)))
theorem Yu{t:Nat}{e:Ty}:∀ {τ:Ty} {x:τ.den} {sh:Sh},t∉sh.cO->OA t e τ x sh=none
 | .sl e',l,.sl (.row u hs nd),h=>by
   have:u≠t:=fun e=>h (by simp[Sh.cO,M.cO,e]);simp only[OA,this,if_false]
 | .pair a c,p,.pair s1 s2,h=>by
   simp only[Sh.cO,J_,not_or]at h;simp only[OA,Yu h.1,Yu h.2]
 | .sl _,_,.sl (.nst _ _ _ _ _ _),_| .sl _,_,.leaf,_| .sl _,_,.pair _ _,_| .sl _,_,.sl (.sha _),_| .sl _,_,.sl .dead,_
 | .int _,_,.leaf,_| .int _,_,.sl _,_| .int _,_,.pair _ _,_| .bool,_,.leaf,_| .bool,_,.sl _,_| .bool,_,.pair _ _,_
 | .str,_,.leaf,_| .str,_,.sl _,_| .str,_,.pair _ _,_| .pair _ _,_,.leaf,_| .pair _ _,_,.sl _,_=>rfl
def aeD{t:Nat}{e:Ty}{v:SV}(h:t∉v.Br):rowAt t e v=none:=by
 cases v with
 |d v=>exact Yu h
 |box t v=>exact Yu (fun hc=>h (by simp[SV.Br,hc]))
 |_=>rfl
def agA{t:Nat}{e:Ty}{v:SV}(hb:v.ye=false)(h:t∉v.Br):rowAt t e v=none:=aeD h
def Uj{E:Env}{T:Tr}{ws:List (Nat×SV)}{j:Nat}(h:∀p∈ws,p.1≠j):(E.MQ (T,ws)).get j=T.sv (E.get j):=aoW h
theorem akq:∀(ws:List (Nat×SV)) (L:List SV) (j:Nat),(C6 ws L).getD j .no=L.getD j .no\/∃p∈ws,p.1=j/\(C6 ws L).getD j .no=p.2
 | [],_,_=> .inl rfl
 |p::ws,L,j=>by
  rcases akq ws (L.set p.1 p.2) j with h|⟨q,d,e,f⟩;have c:(C6 (p::ws) L).getD j .no=(L.set p.1 p.2).getD j .no:=h;rw[CS]at c;split at c;rename_i hc;exact .inr ⟨p,by simp,hc.1.symm,c⟩;exact .inl c;exact .inr ⟨q,by simp[d],e,f⟩
def ahG(E:Env)(T:Tr)(ws:List (Nat×SV))(j:Nat):(E.MQ (T,ws)).get j=T.sv (E.get j)\/∃p∈ws,p.1=j/\(E.MQ (T,ws)).get j=p.2:=by
 rcases akq ws (E.s.map T.sv) j with h|h;refine .inl ?_;have:(E.MQ (T,ws)).get j=(E.s.map T.sv).getD j .no:=h;rw[this,getD_map (aoI T)];rfl;exact .inr h
structure alX(a b:zF):Prop where
 rs:∀p∈a.ws,p.1∉b.rs
 ra:∀p∈a.ws,p.1∉b.ra
 ws:∀p∈a.ws,∀q∈b.ws,q.1≠p.1
 bx:∀p∈a.ws,∀t u,p.2= .box t u->t∉b.bx
 rw:∀p∈a.ws,∀q∈b.rw,q.2<p.1\/(p.2.ye=false/\q.1∉p.2.Br)
 tr:a.T.VV=true\/(b.rw=[]/\(∀t∈b.tk,t∉a.T.IF)/\(∀t∈b.te,t∉a.T.UI)/\∀p∈b.ws,(∀t∈p.2.Zz,t∉a.T.IF)/\∀t∈p.2.XH,t∉a.T.UI)
structure aaJ(a b:zF):Prop where
 rs:∀p∈a.ws,p.1∉b.rs
 ra:∀p∈a.ws,p.1∉b.ra
 ws:∀p∈a.ws,∀q∈b.ws,q.1≠p.1
 bx:∀p∈a.ws,∀t u,p.2= .box t u->t∉b.bx
 rw:∀p∈a.ws,∀q∈b.rw,q.2<p.1\/q.1∉p.2.Br
 tr:a.T.VV=true\/((b.rw=[]\/a.T.al5=true)/\(∀t∈b.tk,t∉a.T.IF)/\(∀t∈b.te,t∉a.T.UI)/\∀p∈b.ws,(∀t∈p.2.Zz,t∉a.T.IF)/\∀t∈p.2.XH,t∉a.T.UI)
theorem alX.toF{a b:zF}(h:alX a b):aaJ a b:=⟨h.rs,h.ra,h.ws,h.bx,fun p c q e=>(h.rw p c q e).imp id And.right,h.tr.imp id (fun⟨l,u⟩=>⟨.inl l,u⟩)⟩
def al6{a b:zF}(h:a.alW b=true):aaJ a b:=by
 simp only[zF.alW,k_,J9,ar7,ar6,ar0,d_,b_,ne_eq,as3]at h;obtain⟨d,k⟩:=h;refine⟨fun p c=>(d p c).1.1.1.1,fun p c=>(d p c).1.1.1.2,fun p c q f=>(d p c).1.1.2 q f,fun p c t u e=> ?_,fun p c q f=> ?_,?_⟩;have:=(d p c).1.2;rw[e]at this;simpa using this;rcases(d p c).2 q f with h|h;exact .inl h;exact .inr h;rcases k with h|⟨⟨⟨h,l⟩,m⟩,j⟩;exact .inl h;exact .inr ⟨h,l,m,j⟩
theorem ZK{t:Nat}{e:Ty}{f:M->M}(j:∀m u hs d,f m= .row u hs d->∃hs' c,m= .row u hs' c):∀ {τ:Ty} {x:τ.den} {sh:Sh},OA t e τ x sh=none->OA t e τ x (sh.map f)=none
 | .int _,_,sh,_| .bool,_,sh,_| .str,_,sh,_=>by cases sh<;>rfl
 | .sl e',l,.sl m,h=>by
   simp only[Sh.map];cases q:f m with
   |row u hs d=>
    obtain⟨hs',c,rfl⟩:=j m u hs d q;simp only[OA]at h|-;split;rename_i n;rw[an n]at h;split;rename_i p;rw[dif_pos p]at h;cases h;rfl;rfl
   |sha hs=>rfl
   |nst=>rfl
   |dead=>rfl
 | .sl e',l,.leaf,_| .sl e',l,.pair _ _,_=>by simp[Sh.map,OA]
 | .pair a b,x,.pair s1 s2,h=>by
   simp only[OA,Sh.map]at h|-;cases k:OA t e a x.1 s1 with
   |some r=>rw[k]at h;cases h
   |none=>
    rw[k]at h;simp only[ZK j k];exact ZK j h
 | .pair a b,x,.leaf,_| .pair a b,x,.sl _,_=>by simp[Sh.map,OA]
theorem ano(ts:List Nat):∀m u hs c,M.kill ts m= .row u hs c->∃hs' d,m= .row u hs' d:=by
 intro m u hs c h;unfold M.kill at h;split at h;cases h;exact⟨hs,c,h⟩
theorem amY(ts:List Nat)(t:Nat):∀m u hs d,M.fv ts t m= .row u hs d->∃hs' c,m= .row u hs' c:=by
 intro m u hs d h;unfold M.fv at h;split at h;cases m with
 |row u' hs' c=>
  simp only[M.YD]at h;split at h;cases h;simp only[M.row.injEq]at h;obtain⟨rfl,_,_⟩:=h;exact⟨hs',c,rfl⟩
 |sha hs'=>simp[M.YD]at h
 |nst=>simp[M.YD]at h
 |dead=>simp[M.YD]at h
 exact⟨hs,d,h⟩
def ahT{t:Nat}{e:Ty}{f:M->M}(j:∀m u hs k,f m= .row u hs k->∃hs' c,m= .row u hs' c){l:Nat->Bool}{n:List Nat->Option (List Nat)}{v:SV}(h:rowAt t e v=none):rowAt t e (v.mapM f l n)=none:=by
 cases v with
 |d v=>exact ZK j h
 |box b v=>exact ZK j h
 |ept=>simp only[SV.mapM];split<;>rfl
 |rdp=>simp only[SV.mapM];split<;>rfl
 |_=>rfl
def anv{T:Tr}(f:T.al5=true){t:Nat}{e:Ty}{v:SV}(h:rowAt t e v=none):rowAt t e (T.sv v)=none:=by
 have c:∀ {d:List Nat} {v:SV},rowAt t e v=none->rowAt t e (CE d v)=none:=by
  intro d v h;unfold CE;split;exact h;exact ahT (ano d) h
 cases T with
 |id=>exact h
 |kg ks j u=>
  simp only[Tr.sv,Sk];split;exact c h;exact ahT (amY j u) (c h)
 |el=>simp[Tr.al5]at f
 |ki d rp=>
  simp only[Tr.sv];split;exact c h;cases v with
  |ept b e' i o p τ=>
   simp only[SV.qn];split;rfl;exact c h
  |_=>exact c h
def free_spec{a b:zF}(h:a.free b=true):alX a b:=by
 simp only[zF.free,k_,J9,ar7,ar6,ar0,d_,b_,ne_eq,as3]at h;obtain⟨d,k⟩:=h;refine⟨fun p c=>(d p c).1.1.1.1,fun p c=>(d p c).1.1.1.2,fun p c q f=>(d p c).1.1.2 q f,fun p c t u e=> ?_,fun p c q f=> ?_,?_⟩;have:=(d p c).1.2;rw[e]at this;simpa using this;rcases(d p c).2 q f with h|h;exact .inl h;simp only[Bool.or_eq_false_iff,d_]at h;exact .inr h;rcases k with h|⟨⟨⟨h,l⟩,m⟩,j⟩;exact .inl h;exact .inr ⟨h,l,m,j⟩
section
variable{C:Cx}{ops:List Oper}{nt:Nat}{F F1 F2:Env}{a b:zF}
structure aaQ(b:zF)(E:Env):Prop where
 tk:∀s∈b.rs,∀t∈(E.get s).Zz,t∈b.tk
 te:∀s∈b.rs,∀t∈(E.get s).XH,t∈b.te
 cl:b.cl=true->∀s∈b.rs,(E.get s).clean=true
 ra:∀s∈b.ra,(E.get s).ye=true
 dz:b.dz=true->∀p∈b.ws,Ud (E.get p.1) p.2=true
 nb:∀p∈b.ws,p.1∈b.nb\/sameBox (E.get p.1) p.2=true
def anu{i:Nat}{o:Oper}{r:Tr×List (Nat×SV)}{E:Env}(h:Hq ops i o E r=b):aaQ b E:=by
 subst h;refine⟨fun s c t e=> ?_,fun s c t e=> ?_,fun h s c=> ?_,fun s c=> ?_,fun h p d=> ?_,fun p d=> ?_⟩;simp only[Hq,asK];exact⟨s,c,e⟩;simp only[Hq,asK];exact⟨s,c,e⟩;simp only[Hq,J9]at h;exact h s c;simp only[Hq,asP]at c;exact c.2;simp only[Hq,J9]at h;exact h p d;simp only[Hq,asf,asP]at d|-;cases f:sameBox (E.get p.1) p.2 with
 |true=>exact .inr rfl
 |false=>exact .inl ⟨p,⟨d,by simp[f]⟩,rfl⟩
def ads(k:aaJ a b)(m:∀p∈a.ws,Ud (F.get p.1) p.2=true)(t:Nat)(l:t∈b.bx)(j:Nat):rX t ((F.MQ (a.T,a.ws)).get j)=rX t (F.get j):=by
 rcases ahG F a.T a.ws j with h|⟨p,f,rfl,h⟩;rw[h,Vt];rw[h]
 have n:rX t p.2=false:=by
  cases c:rX t p.2 with
  |false=>rfl
  |true=>
   obtain⟨u,d⟩:=OZ c;exact absurd l (k.bx p f t u d)
 rw[n];cases c:rX t (F.get p.1)with
 |false=>rfl
 |true=>
  obtain⟨u,d⟩:=OZ c;have:=m p f;rw[d]at this;simp only[Ud]at this;split at this;rename_i t' u' e;simp only[b_]at this;subst this;exact absurd l (k.bx p f _ _ e);cases this
theorem Tr.amz{T:Tr}{t:Nat}{e:Ty}{i:Int}{o:Nat}{p:List Bool}{τ:Ty}(h:t∉T.UI):T.sv (.ept t e i o p τ)= .ept t e i o p τ:=by
 cases T with
 |id=>rfl
 |kg u q x=>exact Tr.stays (T:= .kg u q x) (fun c hc=>by simp only[SV.Br,asn]at hc;subst hc;exact h)
 |el q b e' l m=>
  simp only[Tr.UI]at h;simp[Tr.sv,SV.fv,SV.og,SV.mapM,SV.setRow,h]
 |ki v y=>exact Tr.stays (T:= .ki v y) (fun c hc=>by simp only[SV.Br,asn]at hc;subst hc;exact h)
theorem Tr.am0{T:Tr}{v:SV}(h:∀c∈v.Zz,c∉T.IF)(l:∀c∈v.XH,c∉T.UI):T.sv v=v:=by
 cases v with
 |ept t e i o p τ=>exact Tr.amz (l t (by simp[SV.XH]))
 |_=>exact Tr.stays h
def XB{f:M->M}{c:Nat->Bool}{d:List Nat->Option (List Nat)}{v:SV}{t:Nat}{e:Ty}{i:Int}{o:Nat}{p:List Bool}{τ:Ty}(h:v.mapM f c d= .ept t e i o p τ):v= .ept t e i o p τ:=by
 cases v with
 |ept t' e' i' o' p' τ'=>simp only[SV.mapM]at h;split at h;exact h;cases h
 |rdp hs v=>simp only[SV.mapM]at h;split at h<;>cases h
 |_=>simp[SV.mapM]at h
def alQ{b:Nat}{c:Ty}{y:List c.den}{m:M}{v:SV}{t:Nat}{e:Ty}{i:Int}{o:Nat}{p:List Bool}{τ:Ty}(h:v.setRow b c y m= .ept t e i o p τ):v= .ept t e i o p τ:=by
 cases v with
 |ept t' c i' o' p' τ'=>exact h
 |rdp hs v=>simp only[SV.setRow]at h;split at h<;>cases h
 |_=>simp[SV.setRow]at h
theorem Tr.anp{T:Tr}{v:SV}{t:Nat}{e:Ty}{i:Int}{o:Nat}{p:List Bool}{τ:Ty}(c:T.sv v= .ept t e i o p τ)(h:t∉T.UI):v= .ept t e i o p τ:=by
 cases T with
 |id=>exact c
 |kg ks B x=>
  simp only[Tr.sv,CE,Sk]at c;split at c;split at c;exact c;exact XB c;have:=XB c;split at this;exact this;exact XB this
 |el B b D l m=>exact XB (XB (alQ c))
 |ki y rp=>
  have u:(if y.isEmpty=true then v else v.kill y)= .ept t e i o p τ->v= .ept t e i o p τ:=by
   intro q;split at q;exact q;exact XB q
  simp only[Tr.sv,CE]at c;split at c;exact u c;cases v with
  |ept I D i' o' p' τ'=>
   simp only[SV.qn]at c;split at c;rename_i b' z;cases c;exact absurd (by simp only[Tr.UI,J_,asf];exact .inr (.inr ⟨(I,t),N4 z,rfl⟩)) h;exact u c
  |_=>exact u c
theorem Tr.aps{T:Tr}(u:T.ok=true){v:SV}(y:(T.sv v).clean=true)(h:∀c∈(T.sv v).Zz,c∉T.IF)(q:∀c∈(T.sv v).XH,c∉T.UI):T.sv v=v:=by
 cases l:T.sv v with
 |ept t e i o p τ=>
  rw[l]at q;exact(Tr.anp l (q t (by simp[SV.XH]))).symm
 |_=>
  rw[<-l];refine Tr.SQ u y ?_;rw[l]at h|-;exact h
def apY(T:Tr){t:Nat}{u c:TV}(h:T.sv (.box t u)= .box t c):c.τ=u.τ:=by
 cases T with
 |id=>cases h;rfl
 |kg ks d x=>
  simp only[Tr.sv,CE,Sk,SV.kill,SV.fv]at h;split at h<;>split at h<;>(simp only[SV.mapM,SV.box.injEq,true_and]at h;subst h;rfl)
 |el d b e l m=>simp only[Tr.sv,SV.fv,SV.og,SV.mapM,SV.setRow,SV.box.injEq,true_and]at h;subst h;rfl
 |ki ts rp=>
  simp only[Tr.sv,CE,SV.qn,SV.kill]at h;split at h<;>split at h<;>(simp only[SV.mapM,SV.box.injEq,true_and]at h;subst h;rfl)
def agw(T:Tr){t:Nat}{u:TV}:∃c,T.sv (.box t u)= .box t c/\c.τ=u.τ:=by
 obtain⟨c,d⟩:=OZ (t:=t) (v:=T.sv (.box t u)) (by rw[Vt];simp[rX]);exact⟨c,d,apY T d⟩
def Xr{v:SV}(h:v.ye=true):∃t u,v= .box t u:=by
 cases v with
 |box t u=>exact⟨t,u,rfl⟩
 |_=>simp[SV.ye]at h
def afT(T:Tr)(v q:SV):sameBox (T.sv v) q=sameBox v q:=by
 cases c:v.ye with
 |true=>
  obtain⟨t,u,rfl⟩:=Xr c;obtain⟨j,h,k⟩:=agw T (t:=t) (u:=u);rw[h];cases q<;>simp[sameBox,k]
 |false=>
  have d:∀ {x:SV},x.ye=false->sameBox x q=false:=by
   intro x e;cases x with
   |box t u=>simp[SV.ye]at e
   |_=>rfl
  have f:(T.sv v).ye=false:=by
   cases h:(T.sv v).ye with
   |false=>rfl
   |true=>
    obtain⟨t,u,l⟩:=Xr h;have:rX t (T.sv v)=true:=by rw[l];simp[rX]
    rw[Vt]at this;obtain⟨j,m⟩:=OZ this;rw[m]at c;cases c
  rw[d c,d f]
def anf(f:aaJ a b)(B:∀p∈a.ws,Ud (F.get p.1) p.2=true)(l:aaQ b F)(n:b.dz=true):aev b F (F.MQ (a.T,a.ws)) where
 get s hs:=by
  rw[Uj (fun p d e=>f.rs p d (e▸hs))];rcases f.tr with h|⟨_,h,x,_⟩;exact Ug h _;exact Tr.am0 (fun c hc=>h c (l.tk s hs c hc)) (fun c hc=>x c (l.te s hs c hc))
 ra s hs:=by
  obtain⟨t,u,z⟩:=Xr (l.ra s hs);obtain⟨D,v,x⟩:=agw a.T (t:=t) (u:=u);refine⟨t,u,D,z,?_,x⟩;rw[Uj (fun p d e=>f.ra p d (e▸hs)),z,v]
 box t ht j:=ads f B t ht j
 row p d e j hj hn:=by
  rcases ahG F a.T a.ws j with h|⟨q,k,rfl,h⟩;rw[h];rcases f.tr with y|⟨m|m,_⟩;rw[Ug y];exact hn;rw[m]at d;cases d;exact anv m hn;rw[h];rcases f.rw q k p d with m|v;omega;exact aeD v
 dz p d:=by
  rw[Uj (fun q k e=>f.ws q k p d e.symm)];exact alL (l.dz n p d)
 nb p d:=by rw[Uj (fun q k e=>f.ws q k p d e.symm),afT]
def am5(n:alX a b)(B:a.T.ok=true)(x:a.T.VV=true\/b.cl=true)(W:∀p∈a.ws,Ud (F.get p.1) p.2=true)(D:aaQ b (F.MQ (a.T,a.ws)))(J:b.dz=true):aev b (F.MQ (a.T,a.ws)) F where
 get s hs:=by
  have l:=Uj (E:=F) (T:=a.T) (ws:=a.ws) (j:=s) (fun p k e=>n.rs p k (e▸hs));rcases n.tr with h|⟨_,h,R,_⟩;rw[l,Ug h];rcases x with hi|x;rw[l,Ug hi];have m:=D.cl x s hs;have z:=D.tk s hs;have I:=D.te s hs;rw[l]at m z I|-;exact(Tr.aps B m (fun c hc=>h c (z c hc)) (fun c hc=>R c (I c hc))).symm
 ra s hs:=by
  have l:=Uj (E:=F) (T:=a.T) (ws:=a.ws) (j:=s) (fun p k e=>n.ra p k (e▸hs));obtain⟨t,u,m⟩:=Xr (D.ra s hs);have I:rX t (F.get s)=true:=by rw[<-Vt a.T,<-l,m];simp[rX]
  obtain⟨Y,N⟩:=OZ I;obtain⟨S,z,R⟩:=agw a.T (t:=t) (u:=Y);rw[l,N,z]at m;simp only[SV.box.injEq,true_and]at m;exact⟨t,S,Y,by rw[l,N,z],N,R.symm⟩
 box t ht j:=(ads n.toF W t ht j).symm
 row p k e j hj hn:=by
  have K:a.T.VV=true:=by
   rcases n.tr with h|⟨h,_⟩;exact h;rw[h]at k;cases k
  rcases ahG F a.T a.ws j with h|⟨q,y,rfl,h⟩;rw[h,Ug K]at hn;exact hn;have f:=W q y;cases X:F.get q.1 with
  |d v=>
   rw[X]at f;rw[aaX (.inl rfl),k_]at f;have:(SV.d v).Br=[]:=by simpa using f.2
   exact agA rfl (by rw[this];simp)
  |box t u=>
   rw[X]at f;simp only[Ud]at f;split at f;rename_i t' S e;rcases n.rw q y p k with h'|⟨m,z⟩;omega;rw[e]at m;simp[SV.ye]at m;cases f
  |_=>rfl
 dz p k:=by
  have l:=Uj (E:=F) (T:=a.T) (ws:=a.ws) (j:=p.1) (fun q y e=>n.ws q y p k e.symm);have:=D.dz J p k;rw[l]at this;exact alw B this
 nb p k:=by rw[Uj (fun q y e=>n.ws q y p k e.symm),afT]
def X3(C:Cx)(ops:List Oper)(nt:Nat)(E:Env)(b:zF)(E':Env):Prop:=
 ∃o act c,ops[b.i]?=some o/\guardOf ops E.rd o.guard=some act/\S7 C ops E.rd (nt+32*b.i) o.guard o=some c/\
  PG o act c=some (b.T,b.ws)/\Hq ops b.i o E (b.T,b.ws)=b/\E'=E.MQ (b.T,b.ws)
theorem X3.amt(h:X3 C ops nt F b F1){c:Env}(q:aev b F c)(l:b.fd=true)(p:b.dz=true):X3 C ops nt c b (c.MQ (b.T,b.ws)):=by
 obtain⟨o,act,v,y,z,B,D,e,h6⟩:=h;have u:=al4 (ops:=ops) (i:=b.i) (o:=o) (E:=F) (E':=c) (r:=(b.T,b.ws)) (by rw[e];exact q) (by rw[e];exact l) (by rw[e];exact p);obtain⟨I,J,K⟩:=u;exact⟨o,act,v,y,by rw[J];exact z,by rw[anq I];exact B,D,by rw[K];exact e,rfl⟩
theorem X3.ab5(h:X3 C ops nt F b F1):aaQ b F:=by
 obtain⟨o,act,ef,h1,h2,h3,h4,c,h6⟩:=h;exact anu c
theorem X3.MQ(h:X3 C ops nt F b F1):F1=F.MQ (b.T,b.ws):=by
 obtain⟨o,act,ef,h1,h2,h3,h4,h5,h6⟩:=h;exact h6
theorem ae3{f:SV->SV}:∀ {ws:List (Nat×SV)} {L:List SV},(∀p∈ws,f p.2=p.2)->(C6 ws L).map f=C6 ws (L.map f)
 | [],_,_=>rfl
 |p::ws,L,h=>by
  show(C6 ws (L.set p.1 p.2)).map f=C6 ws ((L.map f).set p.1 p.2);rw[ae3 (fun q c=>h q (by simp[c])),List.map_set,h p (by simp)]
theorem ae0:∀ {ws:List (Nat×SV)} {L:List SV} {s:Nat} {v:SV},(∀p∈ws,p.1≠s)->(C6 ws L).set s v=C6 ws (L.set s v)
 | [],_,_,_,_=>rfl
 |p::ws,L,s,v,h=>by
  show(C6 ws (L.set p.1 p.2)).set s v=C6 ws ((L.set s v).set p.1 p.2);rw[ae0 (fun q c=>h q (by simp[c])),List.set_comm _ _ (h p (by simp))]
theorem aiM:∀ {ws c:List (Nat×SV)} {L:List SV},(∀p∈ws,∀q∈c,q.1≠p.1)->C6 ws (C6 c L)=C6 c (C6 ws L)
 | [],_,_,_=>rfl
 |p::ws,c,L,h=>by
  show C6 ws ((C6 c L).set p.1 p.2)=C6 c (C6 ws (L.set p.1 p.2));rw[ae0 (h p (by simp)),aiM (fun q d=>h q (by simp[d]))]
def an3(f:aaJ a b)(l:aaJ b a)(m:a.T.VV=true\/b.T.VV=true):(F.MQ (a.T,a.ws)).MQ (b.T,b.ws)=(F.MQ (b.T,b.ws)).MQ (a.T,a.ws):=by
 have j:∀ {c d:zF},aaJ c d->∀p∈d.ws,c.T.sv p.2=p.2:=by
  intro c d h p k;rcases h.tr with h|⟨_,_,_,h⟩;exact Ug h _;exact Tr.am0 (h p k).1 (h p k).2
 refine Env.ext' ?_ rfl;show C6 b.ws ((C6 a.ws (F.s.map a.T.sv)).map b.T.sv)=C6 a.ws ((C6 b.ws (F.s.map b.T.sv)).map a.T.sv);rw[ae3 (j l),ae3 (j f),aiM (fun p k q n e=>f.ws q n p k e.symm)];congr 2;rw[asQ,asQ];refine asj (fun v _=> ?_);simp only[atl];rcases m with h|h;rw[Ug h,Ug h];rw[Ug h,Ug h]
theorem X3.swap(y:X3 C ops nt F a F1)(z:X3 C ops nt F1 b F2)(N:a.ind b=true):∃p,X3 C ops nt F b p/\X3 C ops nt p a F2:=by
 simp only[zF.ind,k_,ar7]at N;obtain⟨⟨⟨⟨⟨⟨⟨⟨⟨⟨h,l⟩,J⟩,q⟩,hbok⟩,K⟩,u⟩,v⟩,c⟩,e⟩,_⟩:=N;have h:=free_spec h;have l:=al6 l;have R:=y.ab5;have S:=z.ab5;have B:=y.MQ;have Y:=z.MQ;rw[B]at S;have D:=R.dz c;have W:=am5 h q K D S e;rw[<-B]at W;have X:=z.amt W v e;have I:=X.ab5;have ka:=anf l (I.dz e) R c;have g2:=y.amt ka u c;refine⟨_,X,?_⟩;rw[Y,B,an3 h.toF l J];exact g2
/-copies-/
theorem YE{f:M->M}{c:Nat->Bool}{e:List Nat->Option (List Nat)}:∀(v:SV),pr (v.mapM f c e)=(pr v).mapM f c e
 | .no| .d _| .box _ _| .ptr ..| .tup _=>rfl
 | .ept ..=>by simp only[SV.mapM,pr];split<;>rfl
 | .rdp hs v=>by simp only[SV.mapM,pr];split<;>rfl
 | .g j w a v=>by simp only[SV.mapM,pr,YE v]
theorem adz{b:Nat}{e:Ty}{y:List e.den}{m:M}:∀(v:SV),pr (v.setRow b e y m)=(pr v).setRow b e y m
 | .no| .d _| .box _ _| .ptr ..| .tup _| .ept ..=>rfl
 | .rdp hs v=>by simp only[SV.setRow,pr];split<;>rfl
 | .g j w a v=>by simp only[SV.setRow,pr,adz v]
def anU(T:Tr)(v:SV):pr (T.sv v)=T.sv (pr v):=by
 cases T with
 |id=>rfl
 |kg ks f u=>
  simp only[Tr.sv,CE,Sk];split<;>split<;>simp only[SV.fv,SV.kill,YE]
 |el f b e l m=>simp only[Tr.sv,SV.og,SV.fv,YE,adz]
 |ki c rp=>
  have d:∀v:SV,pr (if c.isEmpty=true then v else v.kill c)=if c.isEmpty=true then pr v else(pr v).kill c:=by
   intro v;split;rfl;simp only[SV.kill,YE]
  simp only[Tr.sv,CE];split;exact d v;cases v with
  |ept b e i o p τ=>
   simp only[SV.qn,pr];split;rfl;exact d _
  |_=>exact d _
def apB(T:Tr)(j:Nat)(w a:Bool)(v:SV):∃c,T.sv (.g j w a v)= .g j w a c:=by
 cases T with
 |id=>exact⟨v,rfl⟩
 |kg ks d u=>simp only[Tr.sv,CE,Sk];split<;>split<;>simp[SV.fv,SV.kill,SV.mapM]
 |el d b e l m=>simp[Tr.sv,SV.og,SV.fv,SV.mapM,SV.setRow]
 |ki ts rp=>simp only[Tr.sv,CE];split<;>(try simp only[SV.qn])<;>split<;>simp[SV.kill,SV.mapM]
def SV.isG:SV->Bool
 | .g _ _ _ _=>true
 |_=>false
def amG(v:SV):v.isG=(v.kd==7):=by cases v<;>rfl
def apE(T:Tr)(v:SV):(T.sv v).isG=v.isG:=by
 rw[amG,amG];rcases ahu T v with h|⟨h,e⟩;rw[h];rw[e];rcases h with h|h<;>rw[h]<;>rfl
def amH(T:Tr)(l:List TV):∃f:TV->TV,T.sv (.tup l)= .tup (l.map f)/\∀x,T.sv (.d x)= .d (f x):=by
 cases T with
 |id=>exact⟨fun x=>x,by simp[Tr.sv],fun _=>rfl⟩
 |kg ks c u=>
  simp only[Tr.sv,CE,Sk];split<;>split;exact⟨fun x=>x,by simp,fun _=>rfl⟩;exact⟨_,rfl,fun _=>rfl⟩;exact⟨_,rfl,fun _=>rfl⟩;refine⟨_,by simp only[SV.fv,SV.kill,SV.mapM,asQ];rfl,fun _=>rfl⟩
 |el c b e l' m=>
  refine⟨_,by simp only[Tr.sv,SV.og,SV.fv,SV.mapM,SV.setRow,asQ];rfl,fun _=>rfl⟩
 |ki ts rp=>
  simp only[Tr.sv,CE];split<;>(try simp only[SV.qn])<;>split;exact⟨fun x=>x,by simp,fun _=>rfl⟩;exact⟨_,rfl,fun _=>rfl⟩;exact⟨fun x=>x,by simp,fun _=>rfl⟩;exact⟨_,rfl,fun _=>rfl⟩
def apj(T:Tr)(v:SV):(T.sv v).kd=6↔v.kd=6:=by
 rcases ahu T v with h|⟨h,e⟩;rw[h];rw[e];rcases h with h|h<;>rw[h]<;>decide
def apF{j:Nat}{v:SV}(h:v.kd≠6):XS (some j) v=none:=by
 cases v with
 |tup l=>exact absurd rfl h
 |_=>rfl
def apC(T:Tr)(j:Option Nat)(v:SV):XS j (T.sv v)=(XS j v).map T.sv:=by
 cases j with
 |none=>
  have e:=apE T v;cases d:v.isG with
  |true=>
   cases v with
   |g j w a v=>obtain⟨v',h⟩:=apB T j w a v;rw[h];rfl
   |_=>simp[SV.isG]at d
  |false=>
   rw[d]at e
   have c:∀ {u:SV},u.isG=false->XS none u=some (pr u):=by
    intro u k;cases u with
    |g=>simp[SV.isG]at k
    |_=>rfl
   rw[c e,c d,anU];rfl
 |some j=>
  cases v with
  |tup l=>
   obtain⟨f,c,m⟩:=amH T l;rw[c];simp only[XS,ato];cases l[j]? with
   |none=>rfl
   |some x=>simp[m]
  |_=>
   rw[apF (by rw[Ne,apj];simp[SV.kd])];rfl
def ak1:∀(v:SV),(pr v).ye=false
 | .no| .d _| .box _ _| .ptr ..| .tup _| .ept ..| .rdp ..| .g ..=>rfl
def acD{j:Option Nat}{v x:SV}(h:XS j v=some x):x.ye=false/\x.Q6=x:=by
 cases j with
 |none=>
  cases v with
  |g=>simp[XS]at h
  |_=>simp only[XS,C_]at h;subst h;exact⟨ak1 _,rfl⟩
 |some j=>
  cases v with
  |tup l=>simp only[XS,asI]at h;obtain⟨y,_,rfl⟩:=h;exact⟨rfl,rfl⟩
  |_=>simp[XS]at h
theorem abu{t:Nat}{e:Ty}:∀ {τ:Ty} {x:τ.den} {sh:Sh},τ.flat=true->OA t e τ x sh=none
 | .int _,_,sh,_| .bool,_,sh,_| .str,_,sh,_=>by cases sh<;>rfl
 | .sl _,_,_,h=>by simp[Ty.flat]at h
 | .pair a b,x,.pair s1 s2,h=>by
   simp only[Ty.flat,k_]at h;simp only[OA,abu h.1,abu h.2]
 | .pair a b,x,.leaf,_| .pair a b,x,.sl _,_=>by simp[OA]
def amA{t:Nat}{e:Ty}{x:SV}(h:cpE x=true):rowAt t e x=none:=by
 cases x with
 |d v=>exact abu h
 |_=>first|rfl|simp[cpE]at h
def aqj(T:Tr)(v:TV):∃u:TV,T.sv (.d v)= .d u/\u.τ=v.τ:=by
 cases T with
 |id=>exact⟨v,rfl,rfl⟩
 |kg ks c u=>simp only[Tr.sv,CE,Sk];split<;>split<;>exact⟨_,rfl,rfl⟩
 |el c b e l m=>exact⟨_,rfl,rfl⟩
 |ki ts rp=>simp only[Tr.sv,CE];split<;>(try simp only[SV.qn])<;>split<;>exact⟨_,rfl,rfl⟩
def apL(v:SV)(h:v.kd=0\/v.kd=3\/v.kd=4\/v.kd=5):cpE v=true:=by
 cases v<;>simp_all[SV.kd,cpE]
def anb(T:Tr)(x:SV):cpE (T.sv x)=cpE x:=by
 cases x with
 |d v=>obtain⟨u,c,e⟩:=aqj T v;rw[c];simp only[cpE,e]
 |g j w a v=>obtain⟨v',h⟩:=apB T j w a v;rw[h];rfl
 |tup l=>obtain⟨f,h,_⟩:=amH T l;rw[h];rfl
 |box t u=>obtain⟨u',h,_⟩:=agw T (t:=t) (u:=u);rw[h];rfl
 |_=>
  rw[apL (T.sv _) (by
   rcases ahu T _ with h|⟨_,h⟩;rw[h];simp[SV.kd];rw[h];simp[SV.kd])]
  rfl
def acH(ops:List Oper)(E:Env)(b:zF)(c:Nat×Nat×Option Nat×Bool)(E':Env):Prop:=
 ∃o x,ops[b.i]?=some o/\ajZ o=some (c.1,c.2.1,c.2.2.1)/\XS c.2.2.1 (E.get c.2.1)=some x/\c.2.2.2=cpE x/\(b.dz=true->Ud (E.get c.1) .no=true)/\E'=E.set (some c.1) x
def Wk(C:Cx)(ops:List Oper)(nt:Nat)(E:Env)(b:zF)(E':Env):Prop:=
 match b.cp with
 |none=>X3 C ops nt E b E'
 |some c=>acH ops E b c E'
def Rs(E:Env)(d s:Nat)(x:SV)(h:s≠d):(E.set (some d) x).get s=E.get s:=by
 show(E.s.set d x).getD s .no=E.s.getD s .no;rw[CS,a_ (fun e=>h e.1)]
def Yp(E:Env)(d s:Nat)(x:SV):(E.set (some d) x).get s=E.get s\/(s=d/\(E.set (some d) x).get s=x):=by
 show(E.s.set d x).getD s .no=E.s.getD s .no\/_;rw[CS];by_cases h:s=d/\d<E.s.length;right;refine⟨h.1,?_⟩;show(E.s.set d x).getD s .no=x;rw[CS,an h];left;rw[a_ h]
def ai4{v:SV}(h:Ud v .no=true):v.ye=false:=by
 cases v with
 |box t u=>simp[Ud]at h
 |_=>rfl
def amJ{t:Nat}{e:Ty}{v:SV}(h:Ud v .no=true):rowAt t e v=none:=by
 cases v with
 |d v=>
  rw[aaX (.inl rfl),k_]at h;have:(SV.d v).Br=[]:=by simpa using h.2
  exact agA rfl (by rw[this];simp)
 |box t u=>simp[Ud]at h
 |_=>rfl
def anc{d s:Nat}{e z:Bool}{x:SV}(I:zF.aac d s e z b=true)(J:aaQ b F)(R:x.ye=false)(S:e=true->cpE x=true)(m:Ud (F.get d) .no=true):aev b F (F.set (some d) x):=by
 simp only[zF.aac,k_,ar6,ar0,d_,J9,ar7,b_,ne_eq,decide_not]at I;obtain⟨⟨⟨⟨⟨⟨⟨⟨hz,n⟩,q⟩,k⟩,hnb⟩,y⟩,hfd⟩,B⟩,hok⟩:=I;have W:=ai4 m;refine⟨fun s l=>Rs _ _ _ _ (fun e=>n (e▸l)),fun s l=> ?_,fun t ht j=> ?_,fun p c e' j hj N=> ?_,fun p c=> ?_,fun p c=> ?_⟩;obtain⟨t,u,f⟩:=Xr (J.ra s l);exact⟨t,u,u,f,by rw[Rs _ _ _ _ (fun e:s=d=>q (e▸l)),f],rfl⟩;rcases Yp F d j x with h|⟨rfl,h⟩;rw[h];rw[h]
 have f:∀ {v:SV},v.ye=false->rX t v=false:=by
  intro v D;cases X:rX t v with
  |false=>rfl
  |true=>obtain⟨u,Y⟩:=OZ X;rw[Y]at D;cases D
 rw[f R,f W];rcases Yp F d j x with h|⟨rfl,h⟩;rw[h];exact N;rw[h];rcases y p c with K|K;exact amA (S K);omega;rw[Rs _ _ _ _ (by simpa using k p c)];exact J.dz B p c;rw[Rs _ _ _ _ (by simpa using k p c)]
def akF{d s:Nat}{e z:Bool}{x:SV}(I:zF.aac d s e z b=true)(J:aaQ b (F.set (some d) x))(R:x.ye=false)(f:Ud (F.get d) .no=true):aev b (F.set (some d) x) F:=by
 simp only[zF.aac,k_,ar6,ar0,d_,J9,ar7,b_,ne_eq,decide_not]at I;obtain⟨⟨⟨⟨⟨⟨⟨⟨hz,n⟩,q⟩,l⟩,hnb⟩,y⟩,hfd⟩,B⟩,hok⟩:=I;have S:=ai4 f;refine⟨fun s m=>(Rs _ _ _ _ (fun e:s=d=>n (e▸m))).symm,fun s m=> ?_,fun t ht j=> ?_,fun p c e' j hj N=> ?_,fun p c=> ?_,fun p c=> ?_⟩;obtain⟨t,u,k⟩:=Xr (J.ra s m);exact⟨t,u,u,k,by rw[<-k,Rs _ _ _ _ (fun e:s=d=>q (e▸m))],rfl⟩;rcases Yp F d j x with h|⟨rfl,h⟩;rw[h];rw[h]
 have k:∀ {v:SV},v.ye=false->rX t v=false:=by
  intro v D;cases W:rX t v with
  |false=>rfl
  |true=>obtain⟨u,X⟩:=OZ W;rw[X]at D;cases D
 rw[k R,k S];rcases Yp F d j x with h|⟨rfl,h⟩;rw[<-h];exact N;rcases y p c with Y|Y;exact amJ f;omega;have K:=J.dz B p c;rw[Rs _ _ _ _ (by simpa using l p c)]at K;exact K;rw[Rs _ _ _ _ (by simpa using l p c)]
theorem zF.aly{d s:Nat}{e z:Bool}(v:zF.aac d s e z b=true):z=true/\(∀q∈b.ws,q.1≠d)/\s∉b.nb/\b.fd=true/\b.dz=true/\b.T.ok=true:=by
 simp only[zF.aac,k_,ar6,ar0,d_,J9,ar7,b_,ne_eq,decide_not]at v;obtain⟨⟨⟨⟨⟨⟨⟨⟨B,hrs⟩,hra⟩,c⟩,h⟩,hrw⟩,l⟩,p⟩,u⟩:=v;exact⟨B,fun q y=>by simpa using c q y,h,l,p,u⟩
def apP(T:Tr){t o:Nat}{p:List Bool}{τ:Ty}:T.sv (.ptr t o p τ)= .ptr t o p τ:=by
 cases T with
 |id=>rfl
 |kg ks c u=>simp only[Tr.sv,CE,Sk];split<;>split<;>rfl
 |el c b e l m=>rfl
 |ki ts rp=>simp only[Tr.sv,CE];split<;>(try simp only[SV.qn])<;>split<;>rfl
def anm{s:Nat}{j:Option Nat}(f:aaQ b F)(hs:s∉b.nb):XS j ((F.MQ (b.T,b.ws)).get s)=(XS j (F.get s)).map b.T.sv:=by
 rcases ahG F b.T b.ws s with h|⟨p,k,rfl,h⟩;rw[h,apC];rw[h];rcases f.nb p k with c|c;exact absurd c hs;cases d:F.get p.1 with
 |box t u=>
  rw[d]at c;cases e:p.2 with
  |box t' u'=>
   rw[e]at c;simp only[sameBox,k_,b_]at c;obtain⟨rfl,c⟩:=c;cases j with
   |none=>simp only[XS,pr,Option.map_some,apP,c]
   |some j=>rfl
  |_=>rw[e]at c;simp[sameBox]at c
 |_=>rw[d]at c;simp[sameBox]at c
def alA{d:Nat}{x:SV}{T:Tr}{ws:List (Nat×SV)}(h:∀q∈ws,q.1≠d):(F.set (some d) x).MQ (T,ws)=(F.MQ (T,ws)).set (some d) (T.sv x):=by
 refine Env.ext' ?_ rfl;show C6 ws ((F.s.set d x).map T.sv)=(C6 ws (F.s.map T.sv)).set d (T.sv x);rw[List.map_set,ae0 h]
theorem acH.swap{c:Nat×Nat×Option Nat×Bool}(I:acH ops F a c F1)(q:X3 C ops nt F1 b F2)(z:zF.aac c.1 c.2.1 c.2.2.2 a.dz b=true):∃e,X3 C ops nt F b e/\acH ops e a c F2:=by
 obtain⟨o,x,q1,q2,q3,q4,q5,rfl⟩:=I;obtain⟨D,h,u,v,y,hok⟩:=zF.aly z;have J:=acD q3;have K:=akF z q.ab5 J.1 (q5 D);have B:=q.amt K v y;refine⟨_,B,o,b.T.sv x,q1,q2,?_,by rw[anb];exact q4,fun _=> ?_,?_⟩
 ·rw[anm B.ab5 u,q3];rfl
 ·rw[Uj (fun p l=>h p l)];exact alL (q5 D)
 ·rw[q.MQ];exact alA (fun p l=>h p l)
theorem acH.swap'{c:Nat×Nat×Option Nat×Bool}(l:X3 C ops nt F b F1)(J:acH ops F1 a c F2)(I:zF.aac c.1 c.2.1 c.2.2.2 a.dz b=true):∃h,acH ops F a c h/\X3 C ops nt h b F2:=by
 obtain⟨o,x,q1,q2,q3,q4,q5,rfl⟩:=J;obtain⟨R,u,y,z,B,D⟩:=zF.aly I;rw[l.MQ]at q3 q5;rw[anm l.ab5 y,asI]at q3;obtain⟨S,q3,rfl⟩:=q3;have q:=q5 R;rw[Uj (fun p v=>u p v)]at q;have q:=alw D q;rw[anb]at q4;have K:=acD q3;have N:=anc I l.ab5 K.1 (fun e=>by rw[<-q4];exact e) q;refine⟨_,⟨o,S,q1,q2,q3,q4,fun _=>q,rfl⟩,?_⟩;have g:=l.amt N z B;rw[alA (fun p v=>u p v)]at g;rw[l.MQ];exact g
theorem Wk.swap(l:Wk C ops nt F a F1)(h:Wk C ops nt F1 b F2)(e:a.aiD b=true):∃p,Wk C ops nt F b p/\Wk C ops nt p a F2:=by
 unfold Wk at l h|-;unfold zF.aiD at e;cases y:a.cp with
 |none=>
  rw[y]at l e;cases q:b.cp with
  |none=>rw[q]at h e;exact l.swap h e
  |some c=>rw[q]at h e;exact acH.swap' l h e
 |some c=>
  rw[y]at l e;cases q:b.cp with
  |none=>rw[q]at h e;exact acH.swap l h e
  |some D=>
   rw[q]at h e;obtain⟨o,x,q1,q2,q3,q4,q5,rfl⟩:=l;obtain⟨I,u,J,K,z,N,B,rfl⟩:=h;simp only[ne_eq,decide_not,k_,ar6,d_]at e;obtain⟨⟨v,R⟩,S⟩:=e;rw[Rs _ _ _ _ S]at z;rw[Rs _ _ _ _ (Ne.symm v)]at B;refine⟨_,⟨I,u,J,K,z,N,B,rfl⟩,o,x,q1,q2,by rw[Rs _ _ _ _ R];exact q3,q4,by rw[Rs _ _ _ _ v];exact q5,?_⟩;refine Env.ext' ?_ rfl;show((F.s.set c.1 x).set D.1 u)=((F.s.set D.1 u).set c.1 x)
   exact List.set_comm _ _ v
theorem Wk.len(h:Wk C ops nt F b F1):F1.s.length=F.s.length:=by
 unfold Wk at h;split at h;rw[h.MQ];simp[Env.MQ,ajL];obtain⟨o,x,_,_,_,_,_,rfl⟩:=h;simp[Env.set]
def adG{o:Oper}{d s:Nat}{j:Option Nat}(h:ajZ o=some (d,s,j)):o.guard=none/\o.dst=some d/\((j=none/\(o.op= .move (.tmp s)\/o.op= .assign (.tmp s)))\/∃i,j=some i/\o.op= .extract (.tmp s) i):=by
 unfold ajZ at h;split at h;rename_i e f;split at h;rename_i c;cases h;exact⟨e,f,.inl ⟨rfl,.inl c⟩⟩;rename_i c;cases h;exact⟨e,f,.inl ⟨rfl,.inr c⟩⟩;rename_i c;cases h;exact⟨e,f,.inr ⟨_,rfl,c⟩⟩;cases h;cases h
def alq{o:Oper}{d s:Nat}{j:Option Nat}(h:ajZ o=some (d,s,j)){E:Env}{tk:Nat}:S7 C ops E.rd tk none o=(XS j (E.get s)).map .val:=by
 obtain⟨_,_,c⟩:=adG h;clear h
 have e:∀t,arg C E.rd none t (.tmp s)=(pr (E.get s) |> fun v=>if v.isG=true then none else some v):=by
  intro t;simp only[arg,KR,Env.rd,asw];cases E.get s<;>rfl
 have f:V4 C ops E.rd tk o=none:=by
  unfold V4;rcases c with⟨_,c|c⟩|⟨i,_,c⟩<;>rw[c]
 simp only[S7,f];unfold kH;rcases c with⟨rfl,c|c⟩|⟨i,rfl,c⟩;rw[c];simp only[e];cases E.get s<;>rfl;rw[c];simp only[e];cases E.get s<;>rfl;rw[c];simp only[e];cases E.get s with
 |tup l=>simp only[pr,SV.isG,XS,asb,if_false,Option.map_map];rfl
 |_=>rfl
theorem Wk.run(h:Wk C ops nt F b F1):∃o act c,ops[b.i]?=some o/\guardOf ops F.rd o.guard=some act/\S7 C ops F.rd (nt+32*b.i) o.guard o=some c/\kc o act F some c=some F1:=by
 unfold Wk at h;split at h;obtain⟨o,act,c,l,p,q,u,h5,h6⟩:=h;refine⟨o,act,c,l,p,q,?_⟩;rw[akD,u,h6];rfl;obtain⟨o,x,q1,q2,q3,q4,q5,rfl⟩:=h;obtain⟨e,v,_⟩:=adG q2;refine⟨o,none,.val x,q1,by rw[e];rfl,by rw[e,alq q2,q3];rfl,?_⟩;simp only[kc,e,v,Ap,(acD q3).2]
end
def YV(o:Oper):List Nat:=(o.after.toList.filter (Region.binds .any)).map (·.on)
theorem am6(acc:List Nat):∀(d:List Nat) (m x:Nat),(d.foldl (fun m j=>m ||| (2^j ||| acc.getD j 0)) m).testBit x=true->m.testBit x=true\/x∈d\/∃j∈d,(acc.getD j 0).testBit x=true
 | [],m,x,h=> .inl h
 |j::d,m,x,h=>by
  rcases am6 acc d _ x h with h|h|⟨k,c,h⟩;rw[Nat.testBit_or,Nat.testBit_or,Nat.testBit_two_pow]at h;simp only[ar7,b_]at h;rcases h with h|h|h;exact .inl h;exact .inr (.inl (by rw[h];exact atm));exact .inr (.inr ⟨j,atm,h⟩);exact .inr (.inl (ar4 _ h));exact .inr (.inr ⟨k,ar4 _ c,h⟩)
theorem alK:∀(l:List Oper) (acc:List Nat),∃R,l.foldl (fun acc o=>
 acc++[((o.after.toList.filter (Region.binds .any)).map (·.on)).foldl (fun m j=>m ||| (2^j ||| acc.getD j 0)) 0]) acc=R/\R.take acc.length=acc/\
 ∀m o,l[m]?=some o->R.getD (acc.length+m) 0=(YV o).foldl (fun q j=>q ||| (2^j ||| (R.take (acc.length+m)).getD j 0)) 0
 | [],acc=>⟨acc,rfl,by simp,by simp⟩
 |o::l,acc=>by
  obtain⟨R,k,e,n⟩:=alK l (acc++[(YV o).foldl (fun m j=>m ||| (2^j ||| acc.getD j 0)) 0])
  have c:R.take acc.length=acc:=by
   have:=congrArg (List.take acc.length) e;simpa[atB]using this
  refine⟨R,k,c,fun m f d=> ?_⟩;cases m with
  |zero=>
   simp only[as6,C_]at d;subst d;simp only[Nat.add_zero];rw[c]
   have h:R.getD acc.length 0=(R.take (acc.length+1)).getD acc.length 0:=by
    simp[arW,aso]
   rw[h];simp only[asc,asL]at e;rw[e];simp[arW]
  |succ m=>
   simp only[asl]at d;have:=n m f d;simp only[asc,asL]at this;rw[show acc.length+(m+1)=acc.length+1+m by omega];exact this
def aok{ops:List Oper}{i j:Nat}(h:((ae4 ops).getD i 0).testBit j=true){o:Oper}(e:ops[i]?=some o):j∈YV o\/∃k∈YV o,k<i/\((ae4 ops).getD k 0).testBit j=true:=by
 obtain⟨R,f,_,l⟩:=alK ops [];have d:ae4 ops=R:=f;have:=l i o e;simp only[List.length_nil,Nat.zero_add]at this;rw[d,this]at h;rcases am6 _ _ _ _ h with h|h|⟨k,m,h⟩;simp at h;exact .inl h;refine .inr ⟨k,m,?_⟩;rw[arW,aso]at h;split at h;rename_i c;rw[d,arW];exact⟨c,h⟩;simp at h
section
variable{C:Cx}{ops:List Oper}{nt:Nat}
def WD(C:Cx)(ops:List Oper)(nt:Nat):List zF->Env->Env->Prop
 | [],E,E'=>E=E'
 |b::l,E,E'=>∃F,Wk C ops nt E b F/\WD C ops nt l F E'
def amV{ρ:Type}(o:Oper)(a:Option Bool)(d:Ef)(k:Tr×List (Nat×SV)->Option ρ):Wf o a d k=(PG o a d).bind k:=by
 cases d with
 |val v=>rfl
 |chk c v=>simp only[Wf,PG];split<;>split<;>rfl
 |opt α z x f=>simp only[Wf,PG,atp];rfl
 |put b s v=>simp only[Wf,PG];split<;>rfl
 |app c kl h t v=>simp only[Wf,PG];split<;>(try split)<;>rfl
 |elem h b e l m=>simp only[Wf,PG];split<;>rfl
 |nap c h b e l m v=>simp only[Wf,PG];split<;>(try split)<;>rfl
 |call α x tks f rp=>simp only[Wf,PG];split
                     simp only[atp];rfl;rfl
def anY{i:Nat}{o:Oper}{E:Env}{r:Tr×List (Nat×SV)}:(YX ops i o E r).i=i:=by
 unfold YX;split<;>rfl
def aoT{i:Nat}{o:Oper}{E:Env}{T:Tr}{ws:List (Nat×SV)}{a:Option Bool}{f:Ef}(m:ops[i]?=some o)(e:guardOf ops E.rd o.guard=some a)(c:S7 C ops E.rd (nt+32*i) o.guard o=some f)
 (k:PG o a f=some (T,ws)):Wk C ops nt E (YX ops i o E (T,ws)) (E.MQ (T,ws)):=by
 unfold YX;split;rename_i d s j hc;obtain⟨n,p,_⟩:=adG hc;rw[n]at e c;rw[alq hc,asI]at c;obtain⟨x,l,rfl⟩:=c;simp only[guardOf,C_]at e;subst e;simp only[PG,n,p,Ap,wr,(acD l).2,C_,ar9]at k;obtain⟨rfl,rfl⟩:=k;refine⟨o,x,m,hc,l,by rw[l],fun h=>h,?_⟩;refine Env.ext' ?_ rfl;show C6 [(d,x)] (E.s.map fun v=>v)=E.s.set d x;simp[C6];exact⟨o,a,f,m,e,c,k,rfl,rfl⟩
theorem ad8{ρ:Type}{k:Env->List zF->Option ρ}{r:ρ}:∀ {l:List Oper} {i:Nat} {E:Env} {L:List zF},ops.drop i=l->aal C ops nt l i E L k=some r->
 ∃bs E',WD C ops nt bs E E'/\bs.map (·.i)=as9 i l.length/\k E' (bs.reverse++L)=some r
 | [],i,E,L,_,h=>⟨[],E,rfl,rfl,h⟩
 |o::l,i,E,L,hd,h=>by
  have e:ops[i]?=some o:=by
   have:=congrArg List.head? hd;simpa[as7]using this
  simp only[aal]at h;split at h;cases h;rename_i a d;split at h;cases h;rename_i ef c;rw[amV,ar3]at h;obtain⟨⟨T,ws⟩,f,h⟩:=h;obtain⟨bs,E',j,m,n⟩:=ad8 (l:=l) (i:=i+1) (by rw[<-ass,hd];rfl) h;refine⟨YX ops i o E (T,ws)::bs,E',⟨_,aoT e d c f,j⟩,?_,?_⟩;simp only[asm,m,asa,as4,anY];simpa using n
theorem WD.front:∀ {pre:List zF} {b:zF} {post:List zF} {E E':Env},WD C ops nt (pre++b::post) E E'->(∀a∈pre,a.aiD b=true)->∃F,Wk C ops nt E b F/\WD C ops nt (pre++post) F E'
 | [],b,post,E,E',h,_=>h
 |a::pre,b,post,E,E',h,hi=>by
  obtain⟨F,e,l⟩:=h;obtain⟨F2,p,q⟩:=WD.front l (fun c hc=>hi c (by simp[hc]));obtain⟨F1,u,h6⟩:=e.swap p (hi a (by simp));exact⟨F1,u,F2,h6,q⟩
end
section
variable{P:Program}{C:Cx}{w0:World}{c0:C0}{E:Env}{a:Act}{w:World}{G:Gh}{ops:List Oper}{Q:Exit->Act->World->Prop}
def aei{io:List Nat}(f:keeps io ops=true){o:Oper}(h:o∈ops){v:Value}{i:Nat}(j:i∈io):(a.put o.dst v).tmps.getD i undef=a.tmps.getD i undef:=by
 simp only[keeps,J9]at f;have:=f o h;cases k:o.dst with
 |none=>rfl
 |some d=>
  rw[k]at this;simp only[ar6,ar0,d_]at this;have c:d≠i:=fun e=>this (e▸j);simp[Act.put,asv,Array.getElem?_setIfInBounds_ne c]
def aft{o:Oper}{j:Nat}:j∈YV o↔∃e∈o.after,Region.binds .any e=true/\e.on=j:=by
 unfold YV;simp only[asf,asP,Array.mem_toList_iff];constructor;rintro⟨e,⟨c,d⟩,f⟩;exact⟨e,c,d,f⟩;rintro⟨e,c,d,f⟩;exact⟨e,⟨c,d⟩,f⟩
def ala{c:Array Bool}(l:∀i o,ops[i]?=some o->c.getD i true=true->∀j∈YV o,c.getD j false=true)
 (m:c.size=ops.length):∀(i:Nat) {o:Oper},ops[i]?=some o->(∀j∈YV o,c.getD j false=true)->∀j,((ae4 ops).getD i 0).testBit j=true->c.getD j false=true:=by
 intro i
 induction i using Nat.strongRecOn with
 |_ i u=>
  intro o s q j t;rcases aok t s with h|⟨k,v,p,h⟩;exact q j h;have d:=q k v
  have n:k<ops.length:=by
   rcases asE k ops.length with h|h;exact h;rw[<-m]at h;simp[asx,atv.2 h]at d
  have e:ops[k]?=some ops[k]:=arZ n
  have f:c.getD k true=true:=by
   have:k<c.size:=by omega
   simp[asx,this]at d|-;exact d
  exact u k p e (l k _ e f) j h
def akV{c:List zF}(h:aar ops c=true):
 (∀i o,ops[i]?=some o->∀j w',o.guard=some (j,w')->((ae4 ops).getD i 0).testBit j=true)/\(∀i o,ops[i]?=some o->∀j∈YV o,j<i)/\
 ∀a∈c,∀b∈c,a.i<b.i->((ae4 ops).getD b.i 0).testBit a.i=true\/a.aiD b=true:=by
 simp only[aar,k_,J9]at h;obtain⟨k,p⟩:=h;refine⟨fun i o d j w' l=> ?_,fun i o d j m=> ?_,fun a n b f hlt=> ?_⟩;have:=(k (o,i) (ast.2 d)).1;simp only[l]at this;simpa using this;have:=(k (o,i) (ast.2 d)).2;obtain⟨e,q,f,rfl⟩:=aft.1 m;have:=this e (by simpa using q);simpa[f]using this;have:=p b f a n;simp only[ar7,b_,ar0]at this;rcases this with(h|h)|h;omega;exact .inl h;exact .inr h
def aov(nt:Nat)(c:Array Bool)(u:Nat):Prop:=u<nt\/∃j,c.getD j false=true/\nt+32*j<=u/\u<nt+32*j+32
def an2(hC:Xq P C){io:List Nat}(a1:keeps io ops=true)(b1:Rh ops=true){nt:Nat}(h3:4<=nt){J:List zF}(hl:aar ops J=true){E':Env}{T:Nat->Value}
 (hQ:∀X w' G',Inv w0 c0 (fun u=>u<nt+32*ops.length) E' X w' G'->UP ops (fun j=>j<ops.length) E' X.tmps->(∀i∈io,X.tmps.getD i undef=T i)->Q .normal X w'):
 ∀(fuel:Nat) {bs:List zF} {d:Array Bool} {E:Env} {a:Act} {w:World} {G:Gh},bs.length<=fuel->WD C ops nt bs E E'->(∀b∈bs,b∈J)->bs.Pairwise (fun a b=>a.i<b.i)->
 d.size=ops.length->(∀i,i<ops.length->(d.getD i true=false↔i∈bs.map (·.i)))->(∀i o,ops[i]?=some o->d.getD i true=true->∀j∈YV o,d.getD j false=true)->
 Inv w0 c0 (aov nt d) E a w G->UP ops (fun j=>d.getD j false=true) E a.tmps->(∀i∈io,a.tmps.getD i undef=T i)->
 wpAny P .any ops.toArray Q fuel d a w:=by
 obtain⟨k1,l1,n1⟩:=akV hl
 have gd:∀ {d:Array Bool} {i:Nat},d.size=ops.length->i<ops.length->d.getD i true=d.getD i false:=by
  intro d i hs hi;have:i<d.size:=by omega
  simp[asx,this]
 have nil:∀ {d:Array Bool} {E:Env} {a:Act} {w:World} {G:Gh},WD C ops nt [] E E'->d.size=ops.length->(∀i,i<ops.length->(d.getD i true=false↔i∈([]:List zF).map (·.i)))->
  Inv w0 c0 (aov nt d) E a w G->UP ops (fun j=>d.getD j false=true) E a.tmps->(∀i∈io,a.tmps.getD i undef=T i)->Q .normal a w:=by
  intro d E a w G p l m R S W;have D:E=E':=p;subst D
  have n:∀j,d.getD j false=true->j<ops.length:=by
   intro j f;rcases asE j ops.length with h|h;exact h;rw[<-l]at h;simp[asx,atv.2 h]at f
  refine hQ a w G (R.mono (fun u z=> ?_)) (fun s j w1 act v D=> ?_) W;rcases z with z|⟨j,f,h1,h2⟩;omega;have:=n j f;omega;obtain⟨q1,q2,q3⟩:=S s j w1 act v D;exact⟨q1,n j q2,q3⟩
 intro fuel
 induction fuel with
 |zero=>
  intro bs d E a w G hf p I k l m N R S W;have c1:bs=[]:=by cases bs with|nil=>rfl|cons _ _=>simp at hf
  subst c1;refine⟨?_,nil p l m R S W⟩;rw[List.eq_nil_iff_forall_not_mem];intro j f;obtain⟨h1,o,q,_⟩:=mem_ready.1 f
  have n:j<ops.length:=by
   simp only[asM]at q;exact(ar8.1 q).1
  have:=(m j n).1 h1;simp at this
 |succ fuel ih=>
  intro bs d E a w G hf p I k l m N R S W;refine⟨fun hr=> ?_,fun i hi=> ?_⟩;cases bs with
  |nil=>exact nil p l m R S W
  |cons b bs=>
   exfalso;obtain⟨F,hs,_⟩:=p;obtain⟨o,act,ef,q,_⟩:=hs.run;have n:=(ar8.1 q).1
   have:b.i∈Region.ready .any ops.toArray d:=by
    refine mem_ready.2 ⟨(m b.i n).2 (by simp),o,by simpa using q,fun e D hb=> ?_⟩;have f:=l1 b.i o q e.on (aft.2 ⟨e,D,hb,rfl⟩);rw[<-gd l (by omega)];cases hg:d.getD e.on true with
    |true=>rfl
    |false=>
     have:=(m e.on (by omega)).1 hg;simp only[asm,T_,asf]at this;rcases this with h|⟨c,hc,h⟩;omega;have:=(asW.1 k).1 c hc;omega
   rw[hr]at this;cases this
  obtain⟨h1,o,q,r0⟩:=mem_ready.1 hi;simp only[asM]at q;have n:=(ar8.1 q).1;have K:=(m i n).1 h1;rw[asf]at K;obtain⟨b,hb,rfl⟩:=K;obtain⟨pre,post,rfl⟩:=List.append_of_mem hb
  have h0:∀j∈YV o,d.getD j false=true:=by
   intro j f;obtain⟨e,D,o1,rfl⟩:=aft.1 f;exact r0 e D o1
  have j0:=ala N l b.i q h0
  have k0:∀c∈pre,c.aiD b=true:=by
   intro c hc
   have e1:c.i<b.i:=by
    rw[asR]at k;exact k.2.2 c hc b (by simp)
   rcases n1 c (I c (by simp[hc])) b (I b (by simp)) e1 with h|h;have h2:=j0 c.i h;have:d.getD c.i true=false:=(m c.i (by omega)).2 (by simp only[asC,J_,asf];exact .inl ⟨c,hc,rfl⟩);rw[gd l (by omega),h2]at this;cases this;exact h
  obtain⟨F,s0,u0⟩:=p.front k0;obtain⟨o',act,ef,x0,p1,r1,u1⟩:=s0.run;have:o'=o:=by rw[q]at x0;exact(atw x0).symm
  subst this;have o0:d.getD b.i false=false:=by rw[<-gd l n];exact h1
  refine alB (tk:=nt+32*b.i) hC q R S (fun j w' f=>j0 j (k1 b.i o' q j w' f)) (by simp[o0]) b1 (by omega) (fun u hu1 hu2 z=> ?_) p1 r1 u1 (fun X w' G' E0 G0 ⟨v,hav⟩=> ?_);rcases z with z|⟨j,f,h5,h6⟩;omega;have:j=b.i:=by omega
  subst this;rw[o0]at f;cases f
  have t:∀j,(d.setIfInBounds b.i true).getD j false=true↔d.getD j false=true\/j=b.i:=by
   intro j;by_cases f:b.i=j;subst f;have:b.i<d.size:=by omega
   simp[asx,this];rw[getD_set_ne false f];simp[Ne.symm f]
  refine ih (bs:=pre++post) (by simp at hf|-;omega) u0 (fun c hc=>I c (by simp only[J_,T_]at hc|-;rcases hc with h|h<;>simp[h])) ?_ (by simpa using l) (fun Y L0=> ?_) (fun Y R0 B b0 j f=> ?_) (E0.mono (fun u z=> ?_)) (fun s j w1 e0 v1 D=> ?_) (fun j f=> ?_);rw[asR]at k|-;exact⟨k.1,(asW.1 k.2.1).2,fun x hx y hy=>k.2.2 x hx y (by simp[hy])⟩;by_cases f:b.i=Y;subst f;have:b.i<d.size:=by omega
  have j1:b.i∉(pre++post).map (·.i):=by
   rw[asR]at k;simp only[asC,J_,asf,not_or,not_exists,not_and];refine⟨fun c hc e=> ?_,fun c hc e=> ?_⟩;have:=k.2.2 c hc b (by simp);omega;have:=(asW.1 k.2.1).1 c hc;omega
  simp only[j1,iff_false];simp[asx,this];rw[getD_set_ne true f,m Y L0];simp only[asC,asm,J_,T_];constructor;rintro(h|h|h);exact .inl h;exact absurd h.symm f;exact .inr h;rintro(h|h);exact .inl h;exact .inr (.inr h);rw[t];by_cases p0:b.i=Y;subst p0;rw[q]at B;cases B;exact .inl (h0 j f);rw[getD_set_ne true p0]at b0;exact .inl (N Y R0 B b0 j f);rcases z with(z|⟨j,f,h5⟩)|z;exact .inl z;exact .inr ⟨j,(t j).2 (.inl f),h5⟩;exact .inr ⟨b.i,(t b.i).2 (.inr rfl),z⟩;obtain⟨q1,q2,q3⟩:=G0 s j w1 e0 v1 D;exact⟨q1,(t j).2 q2,q3⟩;rw[hav];exact(aei a1 (asS q) f).trans (W j f)
theorem WD.len{nt:Nat}:∀ {bs:List zF} {E E':Env},WD C ops nt bs E E'->E'.s.length=E.s.length
 | [],E,E',h=>by cases (show E=E' from h);rfl
 |b::bs,E,E',⟨F,h1,h2⟩=>by
  rw[WD.len h2,h1.len]
def amU{ρ:Type}(K:P.follows .mixedOrders=true)(N:Xq P C){io:List Nat}(e:keeps io ops=true)(f:Rh ops=true){nt:Nat}(R:4<=nt){k:Env->Option ρ}{r:ρ}{id:Nat}
 (S:Inv w0 c0 (fun u=>u<nt) E a w G) (W:∀s j w act v,E.s.getD s .no≠ .g j w act v) (h:aal C ops nt ops 0 E [] (fun E' L=>if aar ops L then k E' else none)=some r)
 (X:∀E' c w' G',Inv w0 c0 (fun u=>u<nt+32*ops.length) E' c w' G'->UP ops (fun j=>j<ops.length) E' c.tmps->E'.s.length=E.s.length->(∀i∈io,c.tmps.getD i undef=a.tmps.getD i undef)->k E'=some r->Q .normal c w'):
 (Code.region id ops.toArray true).wp P Q a w:=by
 obtain⟨bs,E',p,m,n⟩:=ad8 (l:=ops) (by simp) h;split at n;rename_i d;simp only[as8]at d;refine wp_region_any K ?_
 have hlen:bs.length=ops.length:=by
  have:=congrArg Q' m;simpa using this
 refine an2 N e f R d (E':=E') (T:=fun i=>a.tmps.getD i undef) (fun c w' G' q t x=>X E' c w' G' q t p.len x n) _ (bs:=bs) (E:=E) (G:=G) (by simp[hlen]) p (fun b y=>by simpa using y) ?_ (by simp) ?_ ?_ ?_ ?_ (fun _ _=>rfl);have:(bs.map (·.i)).Pairwise (·<·):=by rw[m];exact List.pairwise_lt_range'
 rw[List.pairwise_map]at this;exact this;intro i z;rw[m];simp[asx,z,atq];intro i o B d;have:=(ar8.1 B).1;simp[asx,this]at d;refine(S.drawn _).mono (fun u D=> .inl D);intro s j I act v J;exact absurd J (W s j I act v);cases n
end
def aio(n:Nat):atx n=as9 0 n:=List.range_eq_range'
section
variable{P:Program}{C:Cx}{w0:World}{c0:C0}{U:Nat->Prop}{E:Env}{a:Act}{w:World}{G:Gh}{ops:List Oper}{L:Nat->Prop}{Q:Exit->Act->World->Prop}{ρ:Type}
def amB{N:Nat}(e:Inv w0 c0 (fun u=>u<N) E a w G)(y:UP ops L E a.tmps):Inv w0 c0 (fun u=>u<N) {WX E ops with nt:=N} a w G/\Y1 (WX E ops).s/\(WX E ops).s.length=E.s.length:=by
 unfold WX;split;rename_i p;refine⟨{e with},fun s j w act v m=> ?_,rfl⟩;obtain⟨_,_,o,z,w',f⟩:=y s j w act v m;rw[J9]at p;have:=p o z;rw[f]at this;cases this;have f:∀s,(E.s.map SV.Q6).getD s .no=(E.s.getD s .no).Q6:=fun s=>getD_map (T:=SV.Q6) rfl s
 have d:∀s,(E.s.getD s .no).Q6= .no\/(E.s.getD s .no).Q6=E.s.getD s .no:=by
  intro s;cases E.s.getD s .no<;>simp[SV.Q6]
 refine⟨{e with len:=by simpa using e.len,slots:=fun s=> ?_,sc:=fun s c hc=> ?_,bt:=fun s c hc=> ?_,rt:=fun s c hc=> ?_,uni:=fun s q t v x k l=> ?_},fun s j w act v m=> ?_,by simp⟩;simp only[f];rcases d s with h|h;rw[h];trivial;rw[h];exact e.slots s;simp only[f]at hc;rcases d s with h|h;rw[h]at hc;simp[SV.sc]at hc;rw[h]at hc;exact e.sc s c hc;simp only[f]at hc;rcases d s with h|h;rw[h]at hc;simp[SV.bt]at hc;rw[h]at hc;exact e.bt s c hc;simp only[f]at hc;rcases d s with h|h;rw[h]at hc;simp[SV.rt]at hc;rw[h]at hc;exact e.rt s c hc;simp only[f]at k l;rcases d s with h|h<;>rcases d q with n|n;rw[h]at k;cases k;rw[h]at k;cases k;rw[n]at l;cases l;rw[h]at k;rw[n]at l;exact e.uni s q t v x k l;simp only[f]at m;exact aoA m
def KOk(C:Cx)(w0:World)(c0:C0)(T:Nat->Value)(r:ρ)(k:Env->Option ρ)(R:Act->World->Prop):Prop:=
 ∀E a w G,Inv w0 c0 (fun u=>u<E.nt) E a w G->Y1 E.s->E.s.length=C.n->4<=E.nt->(∀i∈C.io,a.tmps.getD i undef=T i)->k E=some r->R a w
def aew{id:Nat}{k:Env->Option ρ}{ke:List (Nat×(Env->Option ρ))}{i:Nat}:asJ i ((id,k)::ke)=if i=id then some k else asJ i ke:=by
 simp only[asJ];by_cases h:i=id;simp[h];have:(i==id)=false:=by simpa using h
 simp[this,h]
end
def XW(tmps:Array Value):ResultVar->Sem Value
 | .tmp t=>pure (tmps.getD t undef)
 | .cell a t=>do loadVar t (<-asAddr (tmps.getD a undef))
section
variable{P:Program}{C:Cx}{w0:World}{c0:C0}{U:Nat->Prop}{E:Env}{a:Act}{w:World}{G:Gh}{ops:List Oper}{L:Nat->Prop}{Q:Exit->Act->World->Prop}{ρ:Type}
def aiq(c:Nat):Yd c∈[2,1]:=by unfold Yd;split<;>simp
def afD{p:Pt}{s:Sh}(h:ahE p s=true){c:Nat}(hc:c∈ago p s):c≠3:=by
 rintro rfl;simp[ahE,hc]at h
theorem afg(hC:CxTy P C)(N:Inv w0 c0 U E a w G):∀ {rs:List RK} {rv:List ResultVar} {tk:Nat} {xs:iF (rs.map RK.ty)} {l:List (Nat×Nat)} {n:Nat},Zr C.tt E rs rv tk=some (xs,l,n)->4<=tk->
 n=zX rs tk/\(∀c k,(c,k)∈l->(k=Yd c/\Good U G c/\c≠3)\/(tk<=k/\k<zX rs tk/\4<=c)\/(c=3/\k=3))/\
 ∃S:List Value,S.length=rs.length/\(rv.mapM (XW a.tmps)).run P w= .ok S w/\∃H:Nat->Value,∀(rest:List Ty) (y:iF rest) (D:Gh),(∀c k,(c,k)∈l->∀b,G.col b=c->D.col b=k)->
  (∀u,tk<=u->u<zX rs tk->D.hdr u=H u)->∀i,rn w D ((jh rs rest (iF.app _ _ xs y) tk [2,1]).1.getD i .no) (S.getD i undef)
 | [],[],tk,xs,l,n,h,h3=>by
   simp only[Zr,C_,ar9]at h;obtain⟨_,rfl,rfl⟩:=h;exact⟨rfl,by simp,[],rfl,by simp,fun _=>undef,fun rest y D _ _ i=>by simp[jh,rn]⟩
 | .val τ p::rs,v::rv,tk,xs,l,n,h,h3=>by
   simp only[Zr]at h;have n1:=mL p tk;have n2:=Ts rs (eV p tk);split at h;cases h;rename_i t I
   have e0:∃u W,(XW a.tmps v).run P w= .ok u w/\u=zE t.τ W/\kE w G t.τ t.x t.sh W/\∀c∈t.sh.cO,Good U G c:=by
    cases v with
    |tmp s=>
     simp only[Env.get]at I;split at I;rename_i t' he;cases I;have hs:=N.slots s;have hm:=N.Xe s;rw[he]at hs hm;obtain⟨W,h1,h2⟩:=hs;exact⟨_,W,by simp[XW],h1,h2,hm.1⟩;cases I
    |cell s ty=>
     simp only[Env.get]at I;split at I;rename_i b t' i he hi;split at I;rename_i hτ;cases I;have hs:=N.slots s;have hm:=N.Xe s;rw[he]at hs hm;obtain⟨bk,cl,el,h1,h2,h4,h5,h6,h7⟩:=hs;have hlen:=kE.len h7;simp only[asA]at hlen;have hT:=(hC.tt ty i hi).1;have J:=YT (P:=P) hT h6 (o:=0) (by rw[hτ];omega);refine⟨_,cl.toList,?_,rfl,h7,hm.1⟩;simp only[XW,h1];rw[hτ]at J;simp only[List.drop_zero]at J;rw[asp (by simp;omega)]at J;simpa[asAddr]using J;cases I;cases I
   obtain⟨u,W,hu,R,q,B⟩:=e0;split at h;rename_i x h0 Y j0 hx hr;split at h;rename_i m;simp only[C_,ar9]at h;obtain⟨rfl,rfl,rfl⟩:=h;rw[k_]at m;obtain⟨m,ho⟩:=m;have e:=Ea hx;rw[e]at R q B m ho|-;obtain⟨i1,i2,S,i3,i4,H2,i5⟩:=afg hC N hr (Nat.le_trans h3 n1);obtain⟨H1,k1⟩:=Tg (sm:=Yd) (hs:=[2,1]) (tk:=tk) m q h3 (fun c _=>aiq c) (by simp);have k0:(fQ p tk []).2=eV p tk:=rfl;refine⟨i1,fun c k d=> ?_,u::S,by simp[i3],by simp[hu,i4],fun z=>if z<eV p tk then H1 z else H2 z,fun rest y D X K i=> ?_⟩;rw[Wv];rcases J_.1 d with d|d;obtain⟨r1,j⟩:=SE q c k d;rcases j with⟨j,r5⟩|⟨j,r3,r4⟩|j;exact .inl ⟨j,B c r1,afD ho r5⟩;exact .inr (.inl ⟨r3,by omega,j⟩);exact .inr (.inr j);rcases i2 c k d with h|⟨q1,q2,q3⟩|h;exact .inl h;exact .inr (.inl ⟨by omega,q2,q3⟩);exact .inr (.inr h);rw[Wv]at K;cases i with
   |zero=>
    simp only[jh,asi];refine⟨W,R,k1 D (fun c k d=>X c k (atg _ d)) (fun z hz f=>(K z hz (by omega)).trans (an f))⟩
   |succ i=>
    simp only[jh,arY,rh];exact i5 rest y D (fun c k d=>X c k (asN _ d)) (fun z hz f=>(K z (by omega) f).trans (a_ (by omega))) i
   cases h;cases h
 | .nbox τ p::rs,.tmp s::rv,tk,xs,l,n,h,h3=>by
   simp only[Zr]at h;have n1:=mL p (tk+1);have n2:=Ts rs (eV p (tk+1));split at h;cases h;rename_i b0 s0 t hb;have o0:rn w G (E.rd.get s) (a.tmps.getD s undef):=ad3 (N.slots s);obtain⟨_,bk,c,el,b1,b2,b3,b4,b5,b6,b7,b8,b9⟩:=YZ N hb o0;split at h;rename_i x h0 Y j0 hx hr;split at h;rename_i m;simp only[C_,ar9]at h;obtain⟨rfl,rfl,rfl⟩:=h;rw[k_]at m;obtain⟨m,ho⟩:=m;have e:=Ea hx;rw[e]at m ho b6 b7|-;have k0:(fQ p (tk+1) []).2=eV p (tk+1):=rfl;obtain⟨i1,i2,S,i3,i4,H2,i5⟩:=afg hC N hr (by omega);obtain⟨H1,k1⟩:=Tg (sm:=Yd) (hs:=[2,1]) (tk:=tk+1) m b6 (by omega) (fun c _=>aiq c) (by simp);refine⟨i1,fun c k d=> ?_,a.tmps.getD s undef::S,by simp[i3],by simp[XW,i4],fun z=>if z=tk then a.tmps.getD s undef else if z<eV p (tk+1)then H1 z else H2 z,fun rest y D X K i=> ?_⟩;rw[VE];simp only[atu,T_,ar9,J_]at d;rcases d with⟨rfl,rfl⟩|d|d;exact .inr (.inl ⟨asd _,by omega,b3⟩);obtain⟨r1,j⟩:=SE b6 c k d;rcases j with⟨j,r5⟩|⟨j,r3,r4⟩|j;exact .inl ⟨j,b7 c r1,afD ho r5⟩;exact .inr (.inl ⟨by omega,by omega,j⟩);exact .inr (.inr j);rcases i2 c k d with h|⟨q1,q2,q3⟩|h;exact .inl h;exact .inr (.inl ⟨by omega,q2,q3⟩);exact .inr (.inr h);rw[VE]at K;cases i with
   |zero=>
    simp only[jh,asi];refine⟨bk,c,el,b1,h3,(K tk (asd _) (by omega)).trans (an rfl),X b0 tk (by simp) bk b4,b5,k1 D (fun c k d=>X c k (by simp[d])) (fun z hz f=> ?_)⟩;exact((K z (by omega) (by omega)).trans (a_ (by omega))).trans (an f)
   |succ i=>
    simp only[jh,arY,rh];exact i5 rest y D (fun c k d=>X c k (by simp[d])) (fun z hz f=>((K z (by omega) f).trans (a_ (by omega))).trans (a_ (by omega))) i
   cases h;cases h
 | [],_::_,_,_,_,_,h,_| .val _ _::_,[],_,_,_,_,h,_| .nbox _ _::_,[],_,_,_,_,h,_| .nbox _ _::_,.cell _ _::_,_,_,_,_,h,_=>by simp[Zr]at h
theorem YY(I:Inv w0 c0 U E a w G):∀ {ps:List PK} {i m tk:Nat} {ys:iF (lu ps)} {f:List (Nat×Nat)},acT E ps i m tk=some (ys,f)->4<=tk->4<=m->
 (∀c k,(c,k)∈f->(k=Yd c/\Good U G c/\c≠3)\/(tk<=k/\k<Wc ps tk/\4<=c)\/(k=c/\c∈sr ps m)\/(c=3/\k=3))/\
 ∃H:Nat->Value,∀(q:Gh),(∀c k,(c,k)∈f->∀b,G.col b=c->q.col b=k)->(∀u,tk<=u->u<Wc ps tk->q.hdr u=H u)->(∀u∈sr ps m,q.hdr u=G.hdr u)->
  ∀t j v,(t,j,v)∈vC [2,1] ps ys (Gf ps i m) tk->rn w q (.box t v) (a.tmps.getD j undef)/\j∈RB ps i
 | [],i,m,tk,ys,f,h,h3,h4=>by
   simp only[acT,C_,ar9]at h;obtain⟨_,rfl⟩:=h;exact⟨by simp,fun _=>undef,fun q _ _ _ t j v n=>by simp[vC]at n⟩
 | .val τ p::ps,i,m,tk,ys,f,h,h3,h4=>by
   have n1:=mL p m;have N:(fQ p m []).2=eV p m:=rfl;obtain⟨y,H,B⟩:=YY I (ps:=ps) (i:=i+1) h h3 (by omega);exact⟨y,H,B⟩
 | .rd τ::ps,i,m,tk,ys,f,h,h3,h4=>by
   obtain⟨y,H,B⟩:=YY I (ps:=ps) (i:=i+1) h h3 h4;exact⟨y,H,B⟩
 | .vx e l::ps,i,m,tk,ys,f,h,h3,h4=>by
   obtain⟨y,H,B⟩:=YY I (ps:=ps) (i:=i+1) h h3 h4;exact⟨y,H,B⟩
 | .io τ p::ps,i,m,tk,ys,f,h,h3,h4=>by
   simp only[acT,Env.get]at h;have n1:=mL p tk;have n2:=Xz ps (eV p tk);have n3:=mL p (m+1);have N:(fQ p (m+1) []).2=eV p (m+1):=rfl;have hpn2:(fQ p tk []).2=eV p tk:=rfl;split at h;rename_i b v xs rho' he hr;split at h;rename_i x hx;split at h;rename_i hc;simp only[k_,b_]at hc;obtain⟨⟨hf,ho⟩,rfl⟩:=hc;simp only[C_,ar9]at h;obtain⟨rfl,rfl⟩:=h;have hs:=I.slots i;have X:=I.Xe i;rw[he]at hs X;obtain⟨bk,c,el,b1,b2,b3,b4,b5,R⟩:=hs;have Y:=X.1;have e:=Ea hx;rw[e]at hf ho R Y;obtain⟨y,H2,B⟩:=YY I (ps:=ps) (i:=i+1) hr (by omega) (by omega);obtain⟨H1,k1⟩:=Tg (sm:=Yd) (hs:=[2,1]) (tk:=tk) hf R h3 (fun c _=>aiq c) (by simp);refine⟨fun c k d=> ?_,fun z=>if z<eV p tk then H1 z else H2 z,fun q J K S t j u n=> ?_⟩;rw[aes];simp only[atu,T_,ar9,J_]at d;rcases d with⟨rfl,rfl⟩|d|d;exact .inr (.inr (.inl ⟨rfl,by simp[sr]⟩));obtain⟨r1,D⟩:=SE R c k d;rcases D with⟨D,r5⟩|⟨D,r3,r4⟩|D;exact .inl ⟨D,Y c r1,afD ho r5⟩;exact .inr (.inl ⟨r3,by omega,D⟩);exact .inr (.inr (.inr D));rcases y c k d with h|⟨q1,q2,q3⟩|⟨q1,q2⟩|h;exact .inl h;exact .inr (.inl ⟨by omega,q2,q3⟩);exact .inr (.inr (.inl ⟨q1,by simp only[sr];exact ar4 _ q2⟩));exact .inr (.inr (.inr h));rw[aes]at K;simp only[Gf,vC,T_,ar9]at n;rcases n with⟨rfl,rfl,rfl⟩|n;refine⟨⟨bk,c,el,b1,h4,?_,J t t (by simp) bk b4,b5,k1 q (fun c k d=>J c k (by simp[d])) (fun z W s=>(K z W (by omega)).trans (an s))⟩,by simp[RB]⟩;rw[S t (by simp[sr])];exact b3;rw[rh]at n;have:=B q (fun c k d=>J c k (by simp[d])) (fun z W s=>(K z (by omega) s).trans (a_ (by omega))) (fun u hu=>S u (by simp only[sr];exact ar4 _ hu)) t j u n;exact⟨this.1,by simp only[RB];exact ar4 _ this.2⟩;cases h;cases h;cases h
end
def Gh.beg(G:Gh)(n:Nat):C0:=⟨G.col,fun t=>if t<n then some (G.hdr t)else none⟩
def anH{ps:List PK}:∀ {x:iF (ps.map PK.ty)} {k i0 j i:Nat} {τ:Ty} {sh:Sh},(WA ps i0 k)[j]?=some (i,τ,sh)->
 ∃c y,i0<=i/\(ql ps x k).1.getD (i-i0) .no= .box c ⟨τ,y,sh⟩/\(Gf ps i0 k)[j]?=some (c,i)/\(lu ps)[j]?=some τ/\(∀u∈sh.cO,(u=1\/u=3)\/u<qa ps k)/\i∈RB ps i0:=by
 induction ps with
 |nil=>intro x k i0 j i τ sh h;simp[WA]at h
 |cons p ps s=>
  intro x k i0 j i m sh h
  have key:∀ {d:Nat} {j:Nat},(WA ps (i0+1) d)[j]?=some (i,m,sh)->∃c y,i0<=i/\(∀v,(v::(ql ps x.2 d).1).getD (i-i0) .no= .box c ⟨m,y,sh⟩)/\(Gf ps (i0+1) d)[j]?=some (c,i)/\(lu ps)[j]?=some m/\
   (∀u∈sh.cO,(u=1\/u=3)\/u<qa ps d)/\i∈RB ps (i0+1):=by
   intro d j h;obtain⟨c,y,q1,q2,q3,q4,q5,f⟩:=s (x:=x.2) h;refine⟨c,y,by omega,fun v=> ?_,q3,q4,q5,f⟩;rw[show i-i0=(i-(i0+1))+1 by omega,arY];exact q2
  cases p with
  |val τ q=>
   simp only[WA]at h;obtain⟨c,y,q1,q2,q3,q4,q5,f⟩:=key h;exact⟨c,y,q1,by simp only[ql,rh];exact q2 _,q3,q4,q5,f⟩
  |rd τ=>
   simp only[WA]at h;obtain⟨c,y,q1,q2,q3,q4,q5,f⟩:=key h;exact⟨c,y,q1,by simp only[ql];exact q2 _,q3,q4,q5,f⟩
  |vx e l=>
   simp only[WA]at h;obtain⟨c,y,q1,q2,q3,q4,q5,f⟩:=key h;exact⟨c,y,q1,by simp only[ql];exact q2 _,q3,q4,q5,f⟩
  |io τ q=>
   simp only[WA]at h;cases j with
   |zero=>
    simp only[as6,C_,ar9]at h;obtain⟨rfl,rfl,rfl⟩:=h;refine⟨k,x.1,asd _,by simp[ql],by simp[Gf],by simp[lu],fun u n=> ?_,by simp[RB]⟩;have h2:=Nl ps (eV q (k+1));rcases UM u n with h|h|h;left;left;simpa using h;right;simp only[qa];omega;left;right;exact h
   |succ j=>
    simp only[asl]at h;obtain⟨c,y,q1,q2,q3,q4,q5,f⟩:=key h;exact⟨c,y,q1,by simp only[ql,rh];exact q2 _,by simp only[Gf,asl];exact q3,by simp only[lu,asl];exact q4,q5,by simp only[RB];exact ar4 _ f⟩
section
variable{P:Program}{C:Cx}{w0:World}{c0:C0}{U:Nat->Prop}{E:Env}{a:Act}{w:World}{G:Gh}{ops:List Oper}{L:Nat->Prop}{Q:Exit->Act->World->Prop}{ρ:Type}
def akA{fn:Func}{tmps:Array Value}{c:List Value}(h:(fn.results.toList.mapM (XW tmps)).run P w= .ok c w):(results fn tmps).run P w= .ok (Y8 c) w:=by
 have e:(fn.results.mapM (XW tmps)).run P w= .ok c.toArray w:=by
  rw[Array.mapM_eq_mapM_toList];simp[h]
 have d:results fn tmps=(do let c<-fn.results.mapM (XW tmps);pure (if h:c.size=1 then c[0]else .tuple c)):=by
  unfold results;congr 1
 rw[d,Sem.run_bind,e];simp only[Result.andThen_ok,Sem.run_pure];congr 1
 match c with
 | []=>rfl
 | [v]=>rfl
 |_::_::_=>simp[Y8]
theorem Y3:∀(rs:List RK) (rest:List Ty) (x:iF (rs.map RK.ty)) (y:iF rest) (k:Nat) (hs:List Nat),(jh rs rest (iF.app _ _ x y) k hs).2.1=y
 | [],_,_,_,_,_=>rfl
 | .val _ _::rs,rest,x,y,_,hs=>Y3 rs rest x.2 y _ hs
 | .nbox _ _::rs,rest,x,y,_,hs=>Y3 rs rest x.2 y _ hs
theorem aaH:∀(rs:List RK) (rest:List Ty) (y:iF (rs.map RK.ty++rest)) (k:Nat) (hs:List Nat),(jh rs rest y k hs).2.2=zX rs k
 | [],_,_,_,_=>rfl
 | .val _ p::rs,rest,y,k,hs=>by simp only[jh,rh];exact aaH rs rest y.2 _ hs
 | .nbox _ p::rs,rest,y,k,hs=>by simp only[jh,rh];exact aaH rs rest y.2 _ hs
theorem ae1:∀ {ps:List PK} {i:Nat},∀j∈RB ps i,i<=j/\j<i+ps.length
 | [],_,j,h=>by simp[RB]at h
 | .val _ _::ps,i,j,h| .rd _::ps,i,j,h| .vx _ _::ps,i,j,h=>by have:=ae1 (ps:=ps) (i:=i+1) j h;simp only[asa];omega
 | .io _ _::ps,i,j,h=>by
   simp only[RB,T_]at h;simp only[asa];rcases h with rfl|h;omega;have:=ae1 (ps:=ps) (i:=i+1) j h;omega
def apt(hC:CxTy P C){d:Ou}{G0:Gh}{args:List Value}{xx:iF (d.ps.map PK.ty)}(b0:Lot w0 G0 (ql d.ps xx 4).1 args (qa d.ps 4))(z:Inv w0 (G0.beg (qa d.ps 4)) U E a w G){fn:Func}{y:iF (d.rs.map RK.ty++lu d.ps)}
 (h:fin C.tt d.ps d.rs d.kp fn.results.toList (qa d.ps 4) E=some y) (hT:∀i∈RB d.ps 0,a.tmps.getD i undef=args.getD i undef):
 ∃mv G' vs nt,(results fn a.tmps).run P w= .ok mv w/\Z1 d w0 G0 args y mv w G' vs nt:=by
 have Zy:=Nl d.ps 4;unfold fin at h;split at h
 ·rename_i xs m tk k0;split at h
  ·rename_i ys j o0;split at h
   ·rename_i J;cases h;rw[k_]at J;obtain⟨a1,f⟩:=J;obtain⟨rfl,b1,vs,c1,j0,H1,e1⟩:=afg hC z k0 Zy;have hge1:=Ts d.rs (qa d.ps 4);have hge2:=Xz d.ps (zX d.rs (qa d.ps 4));obtain⟨l1,H2,n1⟩:=YY z o0 (by omega) (asd _);have x0:∀c k,(c,k)∈m++j->(m++j).lookup c=some k:=fun c k p=>aaO a1 p
    have E0:∀c k,(c,k)∈m++j->(k=Yd c/\Good U G c/\c≠3)\/(4<=k/\4<=c)\/(c=3/\k=3):=by
     intro c k p;rcases J_.1 p with p|p
     ·rcases b1 c k p with h|⟨q1,q2,q3⟩|h
      ·exact .inl h
      ·exact .inr (.inl ⟨by omega,q3⟩)
      ·exact .inr (.inr h)
     ·rcases l1 c k p with h|⟨q1,q2,q3⟩|⟨q1,q2⟩|h
      ·exact .inl h
      ·exact .inr (.inl ⟨by omega,q3⟩)
      ·have:=BP c q2;exact .inr (.inl ⟨by omega,this.1⟩)
      ·exact .inr (.inr h)
    let D:Gh:=⟨fun b=>match(m++j).lookup (G.col b)with|some k=>k|none=>if G.col b<=3 then G.col b else 0,
     fun u=>if u<qa d.ps 4 then G.hdr u else if u<zX d.rs (qa d.ps 4)then H1 u else H2 u,fun _=>false⟩
    have N:∀c k,(c,k)∈m++j->∀b,G.col b=c->D.col b=k:=by
     intro c k p b K;show(match(m++j).lookup (G.col b)with|some k=>k|none=>if G.col b<=3 then G.col b else 0)=k;rw[K,x0 c k p]
    have I:∀b,(G.col b<=3/\D.col b=G.col b)\/(4<=G.col b/\(D.col b=2\/D.col b=0\/4<=D.col b)):=by
     intro b;have l:D.col b=(match(m++j).lookup (G.col b)with|some k=>k|none=>if G.col b<=3 then G.col b else 0):=rfl;cases R:(m++j).lookup (G.col b)with
     |none=>
      rw[R]at l;simp only at l;by_cases B:G.col b<=3
      ·left;rw[an B]at l;exact⟨B,l⟩
      ·right;rw[a_ B]at l;exact⟨by omega,by omega⟩
     |some k=>
      rw[R]at l;simp only at l;rcases E0 _ _ (N4 R)with⟨S,B,Wn⟩|⟨S,B⟩|⟨S,B⟩
      rotate_right
      ·left;omega
      ·rw[S]at l;have h0:=B.1;unfold Yd at l;by_cases e:G.col b=1
       ·left;rw[an e]at l;omega
       ·rw[a_ e]at l;by_cases e2:G.col b=2
        ·left;omega
        ·right;omega
      ·right;omega
    refine⟨Y8 vs,D,vs,0,akA j0,⟨rfl,c1,?_,?_,fun b K hc=> ?_,fun b K=> ?_,z.size,z.os,z.tape,z.output,fun b K=> ?_,fun b K=> ?_,fun q R te i τ p0 r0 bk c el c' el' W s0 u0=> ?_⟩⟩
    ·refine e1 _ ys D (fun c k p=>N c k (atg _ p)) (fun u S B=> ?_);show(if u<qa d.ps 4 then G.hdr u else if u<zX d.rs (qa d.ps 4)then H1 u else H2 u)=H1 u;rw[a_ (by omega),an B]
    ·intro t i v X;rw[Y3,aaH]at X
     have:=n1 D (fun c k p=>N c k (asN _ p)) (fun u S B=>by
      show(if u<qa d.ps 4 then G.hdr u else if u<zX d.rs (qa d.ps 4)then H1 u else H2 u)=H2 u;rw[a_ (by omega),a_ (by omega)]) (fun u hu=>by
      have:=BP u hu;show(if u<qa d.ps 4 then G.hdr u else if u<zX d.rs (qa d.ps 4)then H1 u else H2 u)=G.hdr u;rw[an this.2]) t i v X
     rw[hT i this.2]at this;exact this.1
    ·have hf:G.col b=G0.col b/\w.heap[b]?=w0.heap[b]?:=z.frame b K hc;refine⟨?_,hf.2⟩;rcases I b with h|h<;>omega
    ·have S:D.col b=G.col b:=by rcases I b with h|h<;>omega
     rw[S]at K|-;exact z.one b K
    ·refine z.lt b ?_;rcases I b with h|h<;>omega
    ·refine z.fresh b ?_;rcases I b with h|h<;>omega
    ·simp only[am1,ar7,k_,J9]at f;rcases f with f|⟨p1,f⟩
     ·rw[as3]at f;rw[f]at R;cases R
     ·have n:=f q R;split at n
      ·rename_i i' τ1 sh Y;obtain⟨te',y',g1,g2,g3,g4,g5,g6⟩:=anH (x:=xx) Y;rw[p0]at g3;rw[r0]at g4;cases g3;cases g4;split at n
       ·rename_i t v u hE hu;simp only[k_,b_,beq_iff_eq]at n;obtain⟨o1,n⟩:=n;have hs:=z.slots i;have L0:E.s.getD i .no= .box t v:=hE;rw[L0]at hs;obtain⟨bk2,c2,el2,k1,k2,k3,k4,k5,k6⟩:=hs;rw[hT i g6,W]at k1;simp only[Value.pointer.injEq,C_,Addr.mk.injEq,and_true]at k1;subst k1;rw[u0]at k5;cases k5;have r1:=Wp k6 n;have e0:=b0.slots i;rw[as2]at g2;rw[g2]at e0;obtain⟨bk3,c3,el3,j1,j2,j3,j4,j5,j6⟩:=e0;rw[W]at j1;simp only[Value.pointer.injEq,C_,Addr.mk.injEq,and_true]at j1;subst j1;rw[s0]at j5;cases j5;have r2:=Wp j6 hu;have hτ:v.τ.off q.2=τ.off q.2:=by rw[o1]
        rw[<-hτ,r1.1,hτ,r2.1]
        have R0:u<qa d.ps 4:=by
         rcases g5 u r2.2.2 with h|h
         ·have:=r2.2.1;omega
         ·exact h
        rw[(z.hk p1 u (G0.hdr u) (by simp[Gh.beg,R0])).2]
       ·cases n
      ·cases n
   ·cases h
  ·cases h
 ·cases h
def Uf(l:List SV)(n i:Nat):(l++atc n SV.no).getD i SV.no=l.getD i SV.no:=by
 rw[arW,arW,List.getElem?_append];split;rfl;rename_i h;rw[List.getElem?_replicate,asu (by omega)];split<;>rfl
def aom{ps:List PK}{x:iF (ps.map PK.ty)}{args:List Value}(h:Lot w G (ql ps x 4).1 args (qa ps 4))(n:Nat):
 Inv w (G.beg (qa ps 4)) (fun u=>u<qa ps 4) ⟨(ql ps x 4).1++atc (n-(ql ps x 4).1.length) .no,(ql ps x 4).2,true⟩ {tmps:=args.toArray++asT (n-args.toArray.size) undef,defers:=[]} w G:=by
 have hlen:=h.len
 have f:∀i,i<args.length->(args.toArray++asT (n-args.toArray.size) undef).getD i undef=args.getD i undef:=by
  intro i l;rw[asv,arW,asZ (by simpa using l)];simp
 have Zy:=Nl ps 4;refine⟨by simp[hlen],fun s=> ?_,fun s=> ?_,fun s=> ?_,fun s=> ?_,fun s m t v p j k=> ?_,fun b c=>(h.colU b c).1,fun b c=>(h.colU b c).2,h.fresh,fun b _ _=>⟨rfl,rfl⟩,fun b c=>⟨(h.colU b (by omega)).2,rfl⟩,asd _,rfl,rfl,rfl,rfl,⟨⟨by show 2<qa ps 4;omega,h.two.1⟩,by show 3<qa ps 4;omega,h.two.2⟩,fun _ t v d=> ?_⟩
 rotate_right
 ·simp only[Gh.beg]at d;split at d
  ·rename_i e;cases d;exact⟨e,rfl⟩
  ·cases d
 ·simp only[Uf];by_cases q:s<args.length
  ·have:=h.slots s;rw[<-f s q]at this;exact this
  ·rw[arW,asu (by omega)];trivial
 ·simp only[Uf];exact(h.Xe s).1
 ·simp only[Uf];exact(h.Xe s).2.1
 ·simp only[Uf];exact(h.Xe s).2.2
 ·simp only[Uf]at j k;exact h.uni s m t v p j k
def anN{ps:List PK}:∀ {x:iF (ps.map PK.ty)} {tk:Nat},Y1 (ql ps x tk).1:=by
 induction ps with
 |nil=>intro x tk s j w act v h;simp[ql]at h
 |cons p ps c=>
  intro x tk s j w act v h;cases p with
  |val τ q=>
   simp only[ql]at h;cases s with
   |zero=>simp at h
   |succ s=>simp only[arY]at h;exact c _ _ _ _ _ h
  |io τ q=>
   simp only[ql]at h;cases s with
   |zero=>simp at h
   |succ s=>simp only[arY]at h;exact c _ _ _ _ _ h
  |rd τ=>
   simp only[ql]at h;cases s with
   |zero=>simp at h
   |succ s=>simp only[arY]at h;exact c _ _ _ _ _ h
  |vx e l=>
   simp only[ql]at h;cases s with
   |zero=>simp at h
   |succ s=>simp only[arY]at h;exact c _ _ _ _ _ h
end
def Fits:(τ:Ty)->τ.den->Prop
 | .int k,n=>(Lit.int k n).wf=true
 | .bool,_=>True
 | .str,s=>s.size<=maxLen
 | .sl e,l=>l.length<=maxLen/\∀x∈l,Fits e x
 | .pair a b,p=>Fits a p.1/\Fits b p.2
def XA(P:Program)(c:Ty->TypeId->Bool):Ty->List Field->Nat->Bool
 |τ,[f],off=>f.offset==off&&P.cellsOf f.type==τ.sz&&c τ f.type
 | .pair a b,f::g::l,off=>f.offset==off&&P.cellsOf f.type==a.sz&&c a f.type&&XA P c b (g::l) (off+a.sz)
 |_,_,_=>false
def Yy(P:Program):Nat->Ty->TypeId->Bool
 |0,_,_=>false
 |n+1,τ,t=>
  match P.underlying t with
  |some (.int k)=>τ== .int k
  |some .bool=>τ== .bool
  |some .string=>τ== .str
  |some (.slice e)=>(match τ with| .sl τe=>P.cellsOf e==τe.sz&&Yy P n τe e|_=>false)
  |some (.struct fs)=>τ.qH&&P.cellsOf t==τ.sz&&XA P (Yy P n) τ fs.toList 0
  |_=>false
section
variable{H:Type}{enc:TypeId×Value->H}{P:Program}{w:World}{held:Bool}
def cells?_some{a:Addr}{n:Nat}{cs:List Value}(h:w.cells? 0 a n=some cs):cs.length=n/\∀i,i<n->w.cell? (a.add i)=cs[i]?:=by
 unfold World.cells? at h;rw[an (Nat.zero_le _)]at h;refine⟨by simpa using mapM_some_length h,fun i c=> ?_⟩;exact mapM_some_get h i i (by simp[c])
def anX{a:Addr}{v:Value}(h:w.cell? a=some v):∃c el d,w.heap[a.block]?=some (.cells c el d)/\a.spot=none/\c[a.off]?=some v:=by
 unfold World.cell? at h;split at h;rename_i c el d e;split at h;cases h;rename_i f;exact⟨c,el,d,e,by simpa using f,h⟩;cases h
def ag3{b off:Nat}{c:Array Value}{el:TypeId}{j:Nat×Nat}(k:w.heap[b]?=some (.cells c el j)){n:Nat}{cs:List Value}(h:w.cells? 0 ⟨b,off,none⟩ n=some cs):cs=(c.toList.drop off).take n/\(0<n->off+n<=c.size):=by
 obtain⟨hl,hc⟩:=cells?_some h
 have d:∀i,i<n->c[off+i]?=cs[i]?:=by
  intro i f;have:=hc i f;unfold World.cell? at this
  have e:(Addr.add ⟨b,off,none⟩ i)=⟨b,off+i,none⟩:=by
   unfold Addr.add;split;rename_i h;subst h;rfl;rfl
  rw[e]at this;simp only[k,atn,asb,if_false]at this;exact this
 refine⟨List.ext_getElem? (fun i=> ?_),fun hn=> ?_⟩;rw[aso];split;rename_i f;rw[asG,<-d i f,asO];rename_i f;exact asu (by omega);have:=d (n-1) (by omega);rw[arZ (by omega)]at this;have:=(Array.getElem?_eq_some_iff.1 this).1;omega
theorem ahg{e:Ty->TypeId->Bool}{cs:List Value}
 (d:∀ {τ:Ty} {t:TypeId} {fuel:Nat} {c:List Value} {x:DataW H×List MemPlace},e τ t=true->DataW.trod enc P w 0 (fun _=>true) held fuel t c=some x->∃y B,fl w τ y c B/\Fits τ y):
 ∀ {s:List Field} {τ:Ty} {off:Nat},XA P e τ s off=true->cs.length=off+τ.sz->
 (∀f∈s,∃fuel x,DataW.trod enc P w 0 (fun _=>true) held fuel f.type ((cs.drop f.offset).take (P.cellsOf f.type))=some x)->∃y B,fl w τ y (cs.drop off) B/\Fits τ y
 | [],τ,off,h,_,_=>by cases τ<;>simp[XA]at h
 | [f],τ,off,h,hl,ht=>by
   have h:(f.offset==off&&P.cellsOf f.type==τ.sz&&e τ f.type)=true:=by
    cases τ<;>exact h
   simp only[k_,beq_iff_eq]at h;obtain⟨⟨k,m⟩,n⟩:=h;obtain⟨fuel,x,j⟩:=ht f (by simp);rw[k,m,asp (by simp;omega)]at j;exact d n j
 |f::g::l,τ,off,h,hl,ht=>by
  cases τ with
  |pair a b=>
   simp only[XA,k_,beq_iff_eq]at h;obtain⟨⟨⟨k,m⟩,n⟩,z⟩:=h;simp only[Ty.sz]at hl;obtain⟨fuel,x,j⟩:=ht f (by simp);rw[k,m]at j;obtain⟨D,u,I,J⟩:=d n j;obtain⟨K,v,N,R⟩:=ahg d z (by omega) (fun q p=>ht q (by simp only[T_]at p|-;exact .inr p));refine⟨(D,K),u++v,⟨_,_,u,v,?_,rfl,I,N⟩,J,R⟩;rw[<-ass,atd]
  |_=>simp[XA]at h
theorem aiN{d:Ty}{e:TypeId}{n:Nat}(j:P.cellsOf e=d.sz){b:Nat}{c:Array Value}{el:TypeId}{t:Nat×Nat}(q:w.heap[b]?=some (.cells c el t))
 (f:∀ {c:List Value} {x:DataW H×List MemPlace},DataW.trod enc P w 0 (fun _=>true) held n e c=some x->∃y B,fl w d y c B/\Fits d y):
 ∀(len:Nat) {off:Nat} {elems:List (DataW H×List MemPlace)},elems.length=len->
 (∀i,i<len->(w.cells? 0 (Addr.add ⟨b,off,none⟩ (i*P.cellsOf e)) (P.cellsOf e)).bind (DataW.trod enc P w 0 (fun _=>true) held n e)=elems[i]?)->
 ∃(l:List d.den) (p:List Nat),l.length=len/\fN (fl w d) l ((c.toList.drop off).take (len*d.sz)) p/\∀x∈l,Fits d x
 |0,off,elems,_,_=>⟨[],[],rfl,by simp[fN],by simp⟩
 |len+1,off,elems,hlen,hel=>by
  have s:=hel 0 (by omega);rw[arZ (by omega),ar3]at s;obtain⟨u,m,v⟩:=s;simp only[Nat.zero_mul,Addr.add,if_true]at m;obtain⟨D,_⟩:=ag3 q m;obtain⟨y,B,I,J⟩:=f v
  have k:∀i,Addr.add ⟨b,off,none⟩ ((i+1)*P.cellsOf e)=Addr.add ⟨b,off+d.sz,none⟩ (i*P.cellsOf e):=by
   intro i;have:=d.UY;unfold Addr.add;rw[j];rw[a_ (by simp only[ase];omega)];split;rename_i h;simp only[ase,h];simp;simp only[ase,Addr.mk.injEq,and_true,true_and];omega
  obtain⟨l,p,K,N,R⟩:=aiN j q f len (off:=off+d.sz) (elems:=elems.tail) (by simp[hlen]) (fun i hi=>by
   rw[<-k,hel (i+1) (by omega)];cases elems with
   |nil=>simp at hlen
   |cons z zs=>rfl)
  refine⟨y::l,B++p,by simp[K],⟨u,_,B,p,?_,rfl,I,N⟩,by simpa using⟨J,R⟩⟩;rw[D,j,ase,asz,Nat.add_comm (len*d.sz),List.take_add,ass]
def ak3:∀(n:Nat) {τ:Ty} {t:TypeId} {fuel:Nat} {cs:List Value} {x:DataW H×List MemPlace},Yy P n τ t=true->DataW.trod enc P w 0 (fun _=>true) held fuel t cs=some x->∃y B,fl w τ y cs B/\Fits τ y:=by
 intro n
 induction n with
 |zero=>intro τ t fuel cs x h;simp[Yy]at h
 |succ n ih=>
  intro τ t fuel cs x h I;simp only[Yy]at h;split at h;rename_i k p;simp only[beq_iff_eq]at h;subst h;obtain⟨m,rfl,_,hw⟩:=DataW.trod_int p I;exact⟨m,[],⟨rfl,rfl⟩,hw⟩;rename_i p;simp only[beq_iff_eq]at h;subst h;obtain⟨b,rfl,_⟩:=DataW.trod_bool p I;exact⟨b,[],⟨rfl,rfl⟩,trivial⟩;rename_i p;simp only[beq_iff_eq]at h;subst h;obtain⟨s,rfl,_,hs⟩:=DataW.trod_string p I;exact⟨s,[],⟨rfl,rfl⟩,hs⟩;rename_i e p;split at h;rename_i S;simp only[k_,beq_iff_eq]at h;obtain⟨q,hd⟩:=h;rcases DataW.trod_slice p I with⟨rfl,_⟩|⟨a,len,cap,elems,rest,m,_,rfl,_,_,hlc,hcm,hlen,N,j0,_⟩;exact⟨[],[],⟨_,rfl,.inl ⟨⟨_,rfl⟩,rfl,rfl⟩⟩,by simp[Fits]⟩;by_cases J:cap=0;subst J;have:len=0:=by omega
  subst this;exact⟨[],[],⟨_,rfl,.inl ⟨⟨_,rfl⟩,rfl,rfl⟩⟩,by simp[Fits]⟩;obtain⟨hrl,z⟩:=j0 rfl
  have u:∀i,i<cap->∃cs,w.cells? 0 (a.add (i*P.cellsOf e)) (P.cellsOf e)=some cs:=by
   intro i hi;by_cases Y:i<len;have:=N i Y;rw[arZ (by omega),ar3]at this;obtain⟨cs,D,_⟩:=this;exact⟨cs,D⟩;have:=z (i-len) (by omega);rw[arZ (by omega),ar3]at this;obtain⟨cs,D,_⟩:=this;rw[show len+(i-len)=i by omega]at D;exact⟨cs,D⟩
  have hpos:=S.UY;obtain⟨cs0,h0⟩:=u 0 (by omega);obtain⟨hl0,k0⟩:=cells?_some h0;have d:=k0 0 (by omega);rw[arZ (by omega)]at d;have b0:(a.add (0*P.cellsOf e)).add 0=a:=by simp[Addr.add]
  rw[b0]at d;obtain⟨c,el,fz,W,j,_⟩:=anX d;obtain⟨b,off,spot⟩:=a;simp only at W j;subst j;obtain⟨l,Bs,D,h2,h3⟩:=aiN (held:=held) (enc:=enc) q W (fun X=>ih hd X) len hlen N;obtain⟨csl,R⟩:=u (cap-1) (by omega)
  have K:Addr.add ⟨b,off,none⟩ ((cap-1)*P.cellsOf e)=⟨b,off+(cap-1)*P.cellsOf e,none⟩:=by
   unfold Addr.add;split;rename_i h;rw[h];rfl;rfl
  rw[K]at R;have v:=(ag3 W R).2 (by omega);rw[q]at v
  have hmul:(cap-1)*S.sz+S.sz=cap*S.sz:=by
   have:cap=cap-1+1:=by omega
   conv=>rhs;rw[this,ase,asz]
  refine⟨l,b::Bs,⟨_,rfl,.inr ⟨b,off,cap,c,el,fz,Bs,by rw[D],by omega,W,by omega,rfl,by rw[D];exact h2⟩⟩,by omega,h3⟩;cases h;rename_i fs p;simp only[k_,beq_iff_eq]at h;obtain⟨⟨hp,q⟩,o0⟩:=h;obtain⟨xs,m,_,_,hl,hxl,p0⟩:=DataW.trod_struct p I
  have:=ahg (held:=held) (enc:=enc) (cs:=cs) (fun h X=>ih h X) o0 (by rw[hl,q];omega) (fun f hf=>by
   obtain⟨i,hi,rfl⟩:=List.mem_iff_getElem.1 hf;have e0:i<fs.size:=by simpa using hi
   have:=p0 i fs[i] (by simp[e0]);rw[arZ (by omega)]at this;exact⟨m,_,by simpa using this⟩)
  simpa using this;cases h
end
end Vg
namespace Vg
open Go Go.ChangeShapes Go.WideShapes Go.ChangeAt Go.RowKit
def aat(P:Program)(n:Nat):List Ty->List TypeId->Bool
 | [],[]=>true
 |τ::τs,t::ts=>Yy P n τ t&&aat P n τs ts
 |_,_=>false
section
variable{H:Type}{enc:TypeId×Value->H}{P:Program}{w:World}{G:Gh}
def anD{n:Nat}{τ:Ty}{t:TypeId}{v:Value}{r:Reach}{f:Nat}(h:Yy P n τ t=true)(c:Value.okWide P w r f t v):v=zE τ v.cells.toList:=by
 cases n with
 |zero=>simp[Yy]at h
 |succ n=>
  simp only[Yy]at h;split at h;rename_i k d;simp only[beq_iff_eq]at h;subst h;obtain⟨m,rfl⟩:=okWide_int d c;rfl;rename_i d;simp only[beq_iff_eq]at h;subst h;obtain⟨b,rfl⟩:=okWide_bool d c;rfl;rename_i d;simp only[beq_iff_eq]at h;subst h;obtain⟨s,rfl⟩:=okWide_string d c;rfl;rename_i e d;split at h;obtain⟨a,len,cap,rfl⟩:=okWide_slice d c;rfl;cases h;rename_i fs d;simp only[k_]at h;obtain⟨cs,rfl,_⟩:=okWide_struct d c;cases τ with
  |pair a b=>simp[zE,Value.cells]
  |_=>simp[Ty.qH]at h
  cases h
end
section
variable{H:Type}{enc:TypeId×Value->H}{P:Program}
def amy{f:Func}{s:ChangeSpec}{W h:World}{args:Array Value}{v:Value}{m gs:List (DataW H)}{before:List MemPlace}
 (q:DataW.Whole enc P f.params.toList s.vars false W args.toList m gs before)
 (e:∀(b:Nat) (sp:Nat->Bool) (B:Bool),DataW.TrodAll enc P h b sp B f.resultTypes.toList (v.resultList f.resultTypes.size) (s.fn H (m++gs)).results [])
 (c:∀sp:Nat->Bool,(∀p∈before,sp p.block=true)->DataW.TrodAll enc P h 0 sp true f.params.toList args.toList (s.fn H (m++gs)).args before)
 (k:s.vars=[]) (l:(s.fn H (m++gs)).vars=[]) (D:W.keptBut h (·∈before)) (I:∀b,b<W.heap.size->h.heap[b]?=W.heap[b]?)
 (u:∀(j:Nat) (t:TypeId) (r:Value),f.resultTypes[j]?=some t->(v.resultList f.resultTypes.size)[j]?=some r->Value.okWide P h .any 0 t r):
 s.post enc P f false true false false W args v h:=by
 have hold:∀p∈before,(fun b=>decide (b<W.heap.size)) p.block=true:=fun p d=>by simpa using q.lt p d
 have y:∀sp,DataW.TrodVars enc P h sp s.vars (s.fn H (m++gs)).vars []:=fun sp=>by rw[k,l];exact rfl
 refine⟨m,gs,before,[],before,[],q,e _ _ _,c _ hold,y _,World.keptBut_mono (fun p d=>⟨d,?_⟩) D,fun _=> ?_⟩;exact Or.inr (by simpa using d);have x:=q.lt;obtain⟨_,_,_,_,_,K,_⟩:=q;refine⟨u,_,_,([]++before)++[],⟨[]++before,[],trodAll_append (c _ (fun _ _=>rfl)) (e _ _ _),y _,rfl,?_,?_⟩,?_⟩;intro b off d;have n:MemPlace.cell b off∈before:=by simpa using d
 have:=K b off n;have J:=x _ n;unfold World.frozen? at this|-;rw[I b J];exact this;intro z;cases z;intro p d _;simpa using d
theorem ade(j:laidOutB P=true){W k:World}{sp:Nat->Bool}:∀ {ts:List TypeId} {e:List Value} {f:List (DataW H)} {p:List MemPlace},
 (∀t∈ts,P.readableRec t=true/\t<P.types.size)->DataW.TrodAll enc P W 0 (fun _=>true) true ts e f p->(∀x∈p,W.sameAt k x)->(∀x∈p,sp x.block=true)->DataW.TrodAll enc P k 0 sp true ts e f p
 | [],e,f,p,_,h,_,_=>by
   obtain⟨rfl,rfl,rfl⟩:=trodAll_nil h;exact rfl
 |t::ts,e,f,p,hr,h,h1,h2=>by
  obtain⟨v,e,d,ds',p',q,rfl,rfl,rfl,m,n⟩:=trodAll_cons h
  exact trodAll_cons_mk (WideElems.Trod_stays j (hr t (by simp)).1 (hr t (by simp)).2 m (fun x c=>h1 x (by simp[c])) (fun x c=>h2 x (by simp[c])))
   (ade j (fun t l=>hr t (by simp[l])) n (fun x c=>h1 x (by simp[c])) (fun x c=>h2 x (by simp[c])))
def akG{f:FuncId}{fn:Func}{d:Ou}(p:Qq P f d)(q:P.funcs[f]?=some fn)(h:(fn.name== "runtime.NumGoroutine")=false)(s:fn.body.isSome=true)
 {W:World} {l:Gh} {args:List Value} {x:iF (d.ps.map PK.ty)} {y:iF (d.rs.map RK.ty++lu d.ps)} (t:d.F x=some y) (j:Lot W l (ql d.ps x 4).1 args (qa d.ps 4)):
 Calls P f args.toArray W (fun e w'=>∃v,e= .returned v/\∃G' n nt,Z1 d W l args y v w' G' n nt):=by
 have:=p W l args x y t j;obtain⟨c,hc⟩:=asg.1 s
 have k:(callFunc f args.toArray).run P W= .ok (.enter f args.toArray) W:=by
  have m:fn.name≠ "runtime.NumGoroutine" :=by simpa using h
  unfold callFunc;simp[q,m,hc]
 unfold aiB at this;rw[k]at this;exact this
end
def XK:Ty->Pt
 | .sl _=> .rom
 | .pair a b=> .pair (XK a) (XK b)
 |_=> .leaf
theorem XE:∀(τ:Ty) (tk:Nat) (hs:List Nat),fQ (XK τ) tk hs=(NU τ (.sha [3]),tk)
 | .int _,_,_| .bool,_,_| .str,_,_| .sl _,_,_=>rfl
 | .pair a b,tk,hs=>by simp only[XK,fQ,XE a,XE b,NU]
abbrev Ym(τs:List Ty):List PK:=τs.map fun τ=> .val τ (XK τ)
def ae7:(τs:List Ty)->iF ((Ym τs).map PK.ty)->Prop
 | [],_=>True
 |τ::τs,x=>Fits τ x.1/\ae7 τs x.2
section
variable{H:Type}{enc:TypeId×Value->H}{P:Program}{w:World}{G:Gh}
theorem aiQ(s:∀b,b<w.heap.size->G.col b=3){n:Nat}{r:Reach}{D:Nat}:∀ {τs:List Ty} {ts:List TypeId} {args:List Value} {f:List (DataW H)} {p:List MemPlace},
 aat P n τs ts=true->DataW.TrodAll enc P w 0 (fun _=>true) true ts args f p->(∀(j:Nat) t v,ts[j]?=some t->args[j]?=some v->Value.okWide P w r D t v)->
 ∃x:iF ((Ym τs).map PK.ty),ae7 τs x/\args.length=τs.length/\f.length=τs.length/\∀tk i,rn w G ((ql (Ym τs) x tk).1.getD i .no) (args.getD i undef)
 | [],[],args,f,p,_,c,_=>by
   obtain⟨rfl,rfl,rfl⟩:=trodAll_nil c;exact⟨(),trivial,rfl,rfl,fun tk i=>trivial⟩
 |τ::τs,t::ts,args,f,p,hd,c,hv=>by
  simp only[aat,k_]at hd;obtain⟨v,I,d,ds',p',q,rfl,rfl,rfl,J,K⟩:=trodAll_cons c;obtain⟨x,N,R,m,S⟩:=aiQ s hd.2 K (fun j t v c k=>hv (j+1) t v (by simpa using c) (by simpa using k));obtain⟨fuel,W⟩:=J;obtain⟨y,B,u,e⟩:=ak3 n hd.1 W;refine⟨(y,x),⟨e,N⟩,by simp[R],by simp[m],fun tk i=> ?_⟩;have l:=anD hd.1 (hv 0 t v rfl rfl);cases i with
  |zero=>
   show rn w G (.d ⟨τ,y,(fQ (XK τ) tk [1]).1⟩) v;rw[XE];exact⟨_,l,kE.ad4 u (fun b z=>by simp[s b (u.bounds b z)]) (by simp)⟩
  |succ i=>
   show rn w G ((ql (Ym τs) x (fQ (XK τ) tk [1]).2).1.getD i .no) (I.getD i undef);exact S _ i
 | [],_::_,_,_,_,h,_,_|_::_,[],_,_,_,h,_,_=>by simp[aat]at h
end
theorem afe:∀(τs:List Ty) (tk:Nat),qa (Ym τs) tk=tk
 | [],_=>rfl
 |τ::τs,tk=>by
  show qa (Ym τs) (eV (XK τ) tk)=tk
  have:eV (XK τ) tk=tk:=by
   rw[<-rh (XK τ) tk [1],XE]
  rw[this,afe τs]
theorem alg:∀τs:List Ty,vxs (Ym τs)=[]
 | []=>rfl
 |τ::τs=>alg τs
theorem aeH:∀(τs:List Ty) (tk:Nat),sr (Ym τs) tk=[]
 | [],_=>rfl
 |_::τs,_=>aeH τs _
section
variable{H:Type}{enc:TypeId×Value->H}{P:Program}
def Ub{f:FuncId}{fn:Func}{τs:List Ty}{F:iF ((Ym τs).map PK.ty)->Option (iF ([RK.val .bool .leaf].map RK.ty++lu (Ym τs)))}{spec:ChangeSpec}{tb:TypeId}{n:Nat}
 (hm:Qq P f ⟨Ym τs,[.val .bool .leaf],F,[]⟩) (hf:P.funcs[f]?=some fn) (D:(fn.name== "runtime.NumGoroutine")=false) (d:fn.body.isSome=true)
 (hd:aat P n τs fn.params.toList=true) (s:fn.resultTypes= #[tb]) (b0:P.underlying tb=some .bool) (hl:laidOutB P=true)
 (hr:fn.params.toList.all (fun t=>P.readableRec t&&decide (t<P.types.size))=true) (k:spec.vars=[])
 (I:∀B:List (DataW H),B.length=τs.length->spec.fn H B={results:=[.lit (.bool true)],args:=B})
 (hF:∀x,ae7 τs x->∃y,F x=some y/\y.1=true)
 (W:World) (base:Nat) (args:Array Value) (B gs:List (DataW H)) (before:List MemPlace)
 (e0:∀(j:Nat) t v,fn.params[j]?=some t->args[j]?=some v->Value.okWide P W .any base t v)
 (hW:DataW.Whole enc P fn.params.toList spec.vars false W args.toList B gs before):
 Calls P f args W fun e N=>∃v,e= .returned v/\spec.post enc P fn false true false false W args v N:=by
 have s0:=hW;have u0:=hW.lt;obtain⟨p,q,hA,hV,rfl,hfz,hnd⟩:=hW;rw[k]at hV;obtain⟨rfl,rfl⟩:=trodVars_none hV;have h0:DataW.TrodAll enc P W 0 (fun _=>true) true fn.params.toList args.toList B p:=hA
 let S:Gh:=⟨fun b=>if b<W.heap.size then 3 else 0,fun _=>undef,fun _=>false⟩
 obtain⟨x,r0,hlen,L0,hs⟩:=aiQ (G:=S) (fun b d=>an d) hd h0 (fun j t v R X=>e0 j t v (by simpa using R) (by simpa using X));obtain⟨y,hy,R0⟩:=hF x r0
 have j0:Lot W S (ql (Ym τs) x 4).1 args.toList (qa (Ym τs) 4):=by
  rw[afe];refine⟨by rw[Wl,hlen];simp,fun i=>hs 4 i,fun i=> ?_,fun i j t v v' h h'=>Xk h h',fun b d=> ?_,fun b d=> ?_,⟨rfl,rfl⟩,fun b=> ?_⟩;by_cases hi:i<(ql (Ym τs) x 4).1.length
  have k0:(ql (Ym τs) x 4).1.getD i .no∈(ql (Ym τs) x 4).1:=by
   rw[arW,arZ hi];simp
  obtain⟨R,X,h3⟩:=SG _ k0;rw[afe]at R;have x0:=aeH τs 4;refine⟨fun c hc=> ?_,fun c hc=> ?_,by rw[h3];simp⟩;rcases R c hc with vq|⟨q1,q2,q3⟩|h;exact⟨by omega,by omega,rfl⟩;omega;rw[alg]at h;cases h;have:=X c hc;rw[x0]at this;cases this;rw[arW,asu (by omega)];simp[lg,SV.sc,SV.bt,SV.rt];simp only[S]at d|-;split at d;rename_i h;exact⟨by rw[an h];omega,h⟩;omega;simp only[S]at d;split at d<;>omega;simp only[S];split<;>omega
 have l:=akG hm hf D d hy j0;simp only[ath]at l;refine l.mono fun e N ⟨v,he,G',vs,nt,hp⟩=>⟨v,he,?_⟩
 have m:=hp.len;simp only[asL]at m;obtain⟨u,rfl⟩:=List.length_eq_one_iff.1 m
 have hv:v= .bool true:=by
  rw[hp.val];obtain⟨cs,R,X⟩:=hp.res 0;have o0:cs=[.bool y.1]:=X;rw[R0]at o0;subst o0;exact R
 subst hv;have hh:∀b,b<W.heap.size->N.heap[b]?=W.heap[b]?:=fun b d=>(hp.frame b d (by simp only[S];split<;>omega)).2
 have J:∀z∈p,W.sameAt N z:=by
  intro z hz;have p0:=u0 z (by simpa using hz);cases z with
  |cell b off=>
   show N.cell? ⟨b,off,none⟩=W.cell? ⟨b,off,none⟩;unfold World.cell?;simp only;rw[hh b p0]
  |map b=>exact hh b p0
 have E0:W.keptBut N (·∈p++[]):=by
  refine⟨hp.os,hp.output,fun i hi=> ?_⟩;rw[hh i hi];cases W.heap[i]? with
  |none=>rfl
  |some ob=>cases ob<;>simp
 have K:=I (B++[]) (by simpa using L0);refine amy s0 (fun b sp hd=> ?_) (fun sp Y=> ?_) k (by rw[K]) E0 hh (ok_one s rfl (okWide_bool_mk b0 _));rw[K,s];exact trodAll_cons_mk (shut_bool b0 _) trodAll_mk0;rw[K,as8,as8]
 exact ade hl (fun t ht=>by
  have:=J9.1 hr t ht;simpa using this) h0 J (fun z hz=>Y z (by simpa using hz))
end
end Vg
namespace Vg
open Go
structure anK where
 τ:Ty
 F:τ.den->Int->Option (Int×τ.den)
structure ap3 where
 t:Nat
 e:Ty
 l:List e.den
section
variable{P:Program}{C:Cx}{w0:World}{c0:C0}{U:Nat->Prop}{E:Env}{a:Act}{w w':World}{G G':Gh}{L:List ap3}
end
section
variable{ρ:Type}
def T4(o:Oper)(a:Option Bool)(E:Env)(k:Env->Option ρ):Ef->Option ρ
 | .val v=>k (E.set o.dst (Ap o.guard a v))
 | .chk c v=>if(match a with|none=>c|some b=> !b||c)=true then k (E.set o.dst (Ap o.guard a v))else none
 | .opt _ z x f=>(match a with|none=>x|some b=>if b=true then x else some z).bind fun r=>k (E.set o.dst (Ap o.guard a (f r)))
 | .put b s v=>match a.isNone&&o.dst.isNone with|true=>k {E with s:=E.s.set s (.box b v)}|false=>none
 | .app c kl gv t v=>match a.isNone with|true=>(if c=true then k (((E.kill kl).fv gv t).set o.dst v.Q6)else none)|false=>none
 | .elem gv b e l m=>match a.isNone&&o.dst.isNone with|true=>k (E.elem gv b e l m)|false=>none
 | .nap c gv b e l m v=>match a.isNone with|true=>(if c=true then k ((E.elem gv b e l m).set o.dst v.Q6)else none)|false=>none
 | .call _ x tks f rp=>match a.isNone with|true=>x.bind fun r=>let E1:=E.qn tks (rp r);k (Env.set {E1 with s:=od (f r).2 E1.s} o.dst (f r).1.Q6)|false=>none
def ak5(o:Oper)(a:Option Bool)(E:Env)(k:Env->Option ρ)(d:Ef):T4 o a E k d=kc o a E k d:=by
 cases d with
 |put b s v=>simp only[T4,kc];cases (a.isNone&&o.dst.isNone)<;>rfl
 |app c kl h t v=>simp only[T4,kc];cases (a.isNone)<;>rfl
 |elem h b e l m=>simp only[T4,kc];cases (a.isNone&&o.dst.isNone)<;>rfl
 |nap c h b e l m v=>simp only[T4,kc];cases a.isNone<;>rfl
 |call α x tks f rp=>simp only[T4,kc];cases (a.isNone)<;>rfl
 |_=>rfl
def apv(C:Cx)(ops:List Oper)(nt:Nat):List Oper->Nat->Env->(Env->Option ρ)->Option ρ
 | [],_,E,k=>k E
 |o::l,i,E,k=>match guardOf ops E.rd o.guard with
  |none=>none
  |some a=>match S7 C ops E.rd (nt+32*i) o.guard o with
   |none=>none
   |some c=>T4 o a E (fun E'=>apv C ops nt l (i+1) E' k) c
def abG(o:Oper)(a:Option Bool)(d:Ef)(k:Tr×List (Nat×SV)->Option ρ):Option ρ:=
 match d with
 | .val v=>k (.id,wr o.dst (Ap o.guard a v))
 | .chk c v=>if(match a with|none=>c|some b=> !b||c)=true then k (.id,wr o.dst (Ap o.guard a v))else none
 | .opt _ z x f=>(match a with|none=>x|some b=>if b=true then x else some z).bind fun r=>k (.id,wr o.dst (Ap o.guard a (f r)))
 | .put b s v=>match a.isNone&&o.dst.isNone with|true=>k (.id,[(s,.box b v)])|false=>none
 | .app c kl gv t v=>match a.isNone with|true=>(if c=true then k (.kg kl gv t,wr o.dst v.Q6)else none)|false=>none
 | .elem gv b e l m=>match a.isNone&&o.dst.isNone with|true=>k (.el gv b e l m,[])|false=>none
 | .nap c gv b e l m v=>match a.isNone with|true=>(if c=true then k (.el gv b e l m,wr o.dst v.Q6)else none)|false=>none
 | .call _ x tks f rp=>match a.isNone with|true=>x.bind fun r=>k (.ki tks (rp r),(f r).2.map (fun p=>(p.2.1,SV.box p.1 p.2.2))++wr o.dst (f r).1.Q6)|false=>none
def an4(o:Oper)(a:Option Bool)(d:Ef)(k:Tr×List (Nat×SV)->Option ρ):abG o a d k=Wf o a d k:=by
 cases d with
 |put b s v=>simp only[abG,Wf];cases (a.isNone&&o.dst.isNone)<;>rfl
 |app c kl h t v=>simp only[abG,Wf];cases (a.isNone)<;>rfl
 |elem h b e l m=>simp only[abG,Wf];cases (a.isNone&&o.dst.isNone)<;>rfl
 |nap c h b e l m v=>simp only[abG,Wf];cases a.isNone<;>rfl
 |call α x tks f rp=>simp only[abG,Wf];cases (a.isNone)<;>rfl
 |_=>rfl
def aeq(C:Cx)(ops:List Oper)(nt:Nat):List Oper->Nat->Env->List zF->(Env->List zF->Option ρ)->Option ρ
 | [],_,E,L,k=>k E L
 |o::l,i,E,L,k=>match guardOf ops E.rd o.guard with
  |none=>none
  |some a=>match S7 C ops E.rd (nt+32*i) o.guard o with
   |none=>none
   |some c=>abG o a c fun r=>aeq C ops nt l (i+1) (E.MQ r) (YX ops i o E r::L) k
theorem agz(C:Cx)(ops:List Oper)(nt:Nat)(k:Env->List zF->Option ρ):∀(l:List Oper) (i:Nat) (E:Env) (L:List zF),aeq C ops nt l i E L k=aal C ops nt l i E L k
 | [],_,_,_=>rfl
 |o::l,i,E,L=>by
  simp only[aeq,aal,an4];cases guardOf ops E.rd o.guard with
  |none=>rfl
  |some a=>
   simp only;cases S7 C ops E.rd (nt+32*i) o.guard o with
   |none=>rfl
   |some ef=>
    simp only;congr 1;funext r;exact agz C ops nt k l (i+1) (E.MQ r) _
end
section
variable{P:Program}{C:Cx}{w0:World}{c0:C0}{U:Nat->Prop}{E:Env}{a:Act}{w:World}{G:Gh}{Q:Exit->Act->World->Prop}
def aoU{e:Ty}{l:List e.den}{b off cap:Nat}{c:Array Value}{el:TypeId}{t:List Nat}{i:Nat}(K:i<l.length)(W:w.heap[b]?=some (.cells c el (0,0)))
 (hsz:off+cap*e.sz<=c.size) (k:l.length<=cap) (X:fN (fl w e) l ((c.toList.drop off).take (l.length*e.sz)) t) (j:(b::t).Nodup):
 ∃f,Bk (w.setCells b (off+i*e.sz) (((c.toList.drop off).take (l.length*e.sz)).drop ((i+1)*e.sz))) e.sz (fl (w.setCells b (off+i*e.sz) (((c.toList.drop off).take (l.length*e.sz)).drop ((i+1)*e.sz))) e)
  (l.take i++l.drop (i+1)) (.slice (some ⟨b,off,none⟩) (l.length-1) cap) (b::f)/\(∀x∈f,x∈t)/\(b::f).Nodup:=by
 have s:l[i]?=some l[i]:=arZ K;obtain⟨I,Bx,J,rfl,_,h1,q⟩:=fN.get (sz:=e.sz) (fun x c B h=>fl.len h) X s;generalize m:(c.toList.drop off).take (l.length*e.sz)=cs at*
 have hm1:i*e.sz+e.sz=(i+1)*e.sz:=by rw[ase,asz]
 have hm2:(i+1)*e.sz<=l.length*e.sz:=ar5 _ K;have hm3:l.length*e.sz<=cap*e.sz:=ar5 _ k;have n:cs.length=l.length*e.sz:=by rw[<-m];simp;omega
 generalize u:cs.drop ((i+1)*e.sz)=ys at*
 have v:ys.length=l.length*e.sz-(i+1)*e.sz:=by rw[<-u];simp[n]
 have p:=NY b (el:=el) ys (off+i*e.sz) w c W (by omega);rw[asD]at j;simp only[J_,not_or,asr]at j
 have y:∀z∈I++J,(w.setCells b (off+i*e.sz) ys).heap[z]?=w.heap[z]?:=by
  intro z N;refine oU b _ _ w z (fun e=> ?_);subst e;rcases J_.1 N with h|h;exact j.1.1 h;exact j.1.2.2 h
 refine⟨I++J,.inr ⟨b,off,cap,_,el,(0,0),I++J,?_,?_,p,?_,rfl,?_⟩,?_,?_⟩;simp;omega;simp;omega;simp;omega
 have hlen:(l.take i++l.drop (i+1)).length*e.sz=i*e.sz+ys.length:=by
  have:(l.take i++l.drop (i+1)).length=i+(l.length-(i+1)):=by simp;omega
  rw[this,ase,v,Nat.sub_mul]
 have d:((c.toList.take (off+i*e.sz)++ys++c.toList.drop (off+i*e.sz+ys.length)).drop off).take ((l.take i++l.drop (i+1)).length*e.sz)=cs.take (i*e.sz)++ys:=by
  have htl:(c.toList.take (off+i*e.sz)).length=off+i*e.sz:=by simp;omega
  have Y:(c.toList.take (off+i*e.sz)).drop off=cs.take (i*e.sz):=by
   rw[<-m,atB,aty (by omega),List.drop_take];congr 1;omega
  rw[asr,List.drop_append_of_le_length (by omega),Y,<-asr,hlen];have D:(cs.take (i*e.sz)++ys).length=i*e.sz+ys.length:=by rw[asc,List.length_take,n,aty (by omega)]
  rw[<-D,ate]
 have hr:=fN.append h1 q;have:=fN.world y hr;rw[d];exact this;intro x s;rcases J_.1 s with h|h;simp[h];simp[h];rw[asD];refine⟨fun h=> ?_,?_⟩;rcases J_.1 h with h|h;exact j.1.1 h;exact j.1.2.2 h;have q:=j.2;rw[atr]at q|-;obtain⟨q1,q2,q3⟩:=q;rw[atr]at q2;exact⟨q1,q2.2.1,fun a R b S=>q3 a R b (asN _ S)⟩
theorem Inv.del(I:Inv w0 c0 U E a w G){e:Ty}{l:List e.den}{v:Value}{m:M}{ts:List Nat}(hr:qs w G e l v m)(ho:m.own=some ts)(q:∀c∈ts,4<=c/\Good U G c)
 {i:Nat} (Y:i<l.length) {tk:Nat} (h3:4<=tk) (hU:¬U tk):
 ∃b off cap c el,v= .slice (some ⟨b,off,none⟩) l.length cap/\l.length<=cap/\w.heap[b]?=some (.cells c el (0,0))/\off+cap*e.sz<=c.size/\(∀u∈(c.toList.drop off).take (l.length*e.sz),u.oneCell'=true)/\
  ∃G',Inv w0 c0 (fun u=>U u\/u=tk) (E.kill ts) a (w.setCells b (off+i*e.sz) (((c.toList.drop off).take (l.length*e.sz)).drop ((i+1)*e.sz))) G'/\
   qs (w.setCells b (off+i*e.sz) (((c.toList.drop off).take (l.length*e.sz)).drop ((i+1)*e.sz))) G' e (l.take i++l.drop (i+1)) (.slice (some ⟨b,off,none⟩) (l.length-1) cap) (.row tk [tk] true)/\G'.bx tk=false:=by
 obtain⟨B,hB,hn,hc⟩:=hr.own ho;rcases hB with⟨_,rfl,_⟩|⟨b,off,cap,c,el,fz,Bs,hv,y,hb,R,rfl,hl⟩;simp at Y;have D:=hc b (by simp);obtain⟨c',S,K⟩:=I.fresh b (q _ D).1;rw[K]at hb;simp only[C_,Obj.cells.injEq]at hb;obtain⟨rfl,rfl,rfl⟩:=hb;obtain⟨h0,r1,r2,r3⟩:=aoU Y K R y hl hn;refine⟨b,off,cap,c',S,hv,y,K,R,fN.ama hl,G.fv ts tk (.slice (some ⟨b,off,none⟩) (l.length-1) cap),?_,⟨h3,by simp[Gh.fv],b::h0,r1,fun b2 Bs2 h2=> ?_⟩,by simp[Gh.fv]⟩;have hm2:(i+1)*e.sz<=l.length*e.sz:=ar5 _ Y;have hm1:i*e.sz+e.sz=(i+1)*e.sz:=by rw[ase,asz]
 have hm3:l.length*e.sz<=cap*e.sz:=ar5 _ y;generalize b0:((c'.toList.drop off).take (l.length*e.sz)).drop ((i+1)*e.sz)=ys at*
 have hyl:ys.length=l.length*e.sz-(i+1)*e.sz:=by rw[<-b0];simp;omega
 have N:=NY b (el:=S) ys (off+i*e.sz) w c' K (by omega)
 refine(I.kill ts).change (ts:=ts) (ali I q) (fun z _ p=>⟨oU b _ _ w z (fun e=>p (e▸D)),by simp[Gh.fv,p]⟩) (fun u hu=> ?_) (fun _ h=> .inl h) (fun z p=> ?_)
  (fun z p=> ?_) (fun z p=> ?_) (fun z p W=> ?_) (fun z p=> ?_) (by rw[Eu];exact asd _)
  (qG b _ _ w).1 (qG b _ _ w).2.1 (qG b _ _ w).2.2
 have:u≠tk:=fun e=>hU (e▸hu);simp[Gh.fv,this];simp only[Gh.fv]at p|-;split at p;right;rw[an (by assumption)];left;rw[a_ (by assumption)];exact I.colU z p;rw[Eu];simp only[Gh.fv]at p;split at p;rename_i h;exact I.lt z (by have:=(q _ h).1;omega);exact I.lt z p
 have e0:4<=G.col z:=by
  simp only[Gh.fv]at p;split at p;rename_i h;exact(q _ h).1;exact p
 by_cases e1:z=b;subst e1;exact⟨_,_,N⟩;rw[oU b _ _ w z e1];exact I.fresh z e0;have K:=I.frame z p W;have J:G.col z∉ts:=fun h=>by have:=(q _ h).1;omega
 refine⟨(a_ J).trans K.1,?_⟩;rw[oU b _ _ w z (fun e=>J (e▸D))];exact K.2;simp only[Gh.fv]at p|-;split at p;omega;rename_i X;rw[a_ X];cases h2;refine⟨by simp[Gh.fv,D],(asD.1 r3).1,fun x hx=> ?_,fun _=>(asD.1 r3).2⟩;simp[Gh.fv,hc x (ar4 _ (r2 x hx))]
end
def ZQ(o:Oper):Option (Nat×Nat):=
 match o.guard,o.op,o.dst with
 |none,.move (.tmp x),some d=>some (d,x)
 |_,_,_=>none
def aju(o:Oper):Option (Nat×Nat):=
 match o.guard,o.op,o.dst with
 |none,.assign (.tmp x),some d=>some (d,x)
 |_,_,_=>none
def alP(o:Oper):Option (TypeId×Nat×Nat×Nat):=
 match o.guard,o.op,o.dst with
 |none,.slice t (.tmp x) none (some (.tmp h)) none,some d=>some (t,d,x,h)
 |_,_,_=>none
def amh(o:Oper):Option (TypeId×Nat×Nat×Nat):=
 match o.guard,o.op,o.dst with
 |none,.slice t (.tmp x) (some (.tmp h)) none none,some d=>some (t,d,x,h)
 |_,_,_=>none
def ajy(o:Oper):Option (TypeId×Nat×Nat):=
 match o.guard,o.op,o.dst with
 |none,.binOp .add t (.tmp x) (.const (.int .i64 1)) _,some d=>some (t,d,x)
 |_,_,_=>none
def ajx(o:Oper):Option (TypeId×Nat×Nat×Nat):=
 match o.guard,o.op,o.dst with
 |none,.call c,some d=>(match c.callee,c.args.toList,c.argTypes.toList with
  | .builtin .append,[.tmp x,.tmp y],[t,u]=>(match decide (t=u)with|true=>some (t,d,x,y)|false=>none)
  |_,_,_=>none)
 |_,_,_=>none
structure UQ where
 t:TypeId
 ti:TypeId
 s:Nat
 j:Nat
 d0:Nat
 d1:Nat
 d2:Nat
 d3:Nat
 d4:Nat
 d5:Nat
 d6:Nat
 d7:Nat
def UQ.tmps(d:UQ):List Nat:=[d.s,d.j,d.d0,d.d1,d.d2,d.d3,d.d4,d.d5,d.d6,d.d7]
def UQ.outs(d:UQ):List Nat:=[d.s,d.d0,d.d1,d.d2,d.d3,d.d4,d.d5,d.d6,d.d7]
def lst(n:Nat):Nat->Array Bool
 |0=>asT n false
 |i+1=>(lst n i).setIfInBounds i true
def akx(ops:Array Oper):Bool:=
 Region.noSelect ops&&(atx 7).all (fun i=>Region.free .any ops (lst 9 i) i&&(Region.ready .any ops (lst 9 i)).contains i)&&
 decide (Region.ready .any ops (lst 9 7)=[7])&&decide (Region.ready .any ops (lst 9 8)=[8])&&decide (Region.ready .any ops (lst 9 9)=[])
def ZC(ops:List Oper):Option UQ:=
 match ops with
 | [o0,o1,o2,o3,o4,o5,o6,o7,o8]=>
   match ZQ o0,ZQ o1,alP o2,ZQ o3,ZQ o4,ajy o5,amh o6,ajx o7,aju o8 with
   |some (d0,s),some (d1,j),some (t,d2,x2,h2),some (d3,s3),some (d4,j4),some (ti,d5,x5),some (t6,d6,x6,l6),some (t7,d7,x7,y7),some (s8,x8)=>
    match decide (x2=d0/\h2=d1/\s3=s/\j4=j/\x5=d4/\x6=d3/\l6=d5/\x7=d2/\y7=d6/\x8=d7/\s8=s/\t6=t/\t7=t/\([s,j,d0,d1,d2,d3,d4,d5,d6,d7]:List Nat).Nodup)&&akx #[o0,o1,o2,o3,o4,o5,o6,o7,o8]with
    |true=>some ⟨t,ti,s,j,d0,d1,d2,d3,d4,d5,d6,d7⟩
    |false=>none
   |_,_,_,_,_,_,_,_,_=>none
 |_=>none
section
variable{P:Program}{C:Cx}{w0:World}{c0:C0}{U:Nat->Prop}{E:Env}{a:Act}{w:World}{G:Gh}{Q:Exit->Act->World->Prop}
def S9{o:Oper}{d x:Nat}(h:ZQ o=some (d,x)):o.guard=none/\o.op= .move (.tmp x)/\o.dst=some d:=by
 unfold ZQ at h;split at h;rename_i c e f;cases h;exact⟨c,e,f⟩;cases h
def agM{o:Oper}{d x:Nat}(h:aju o=some (d,x)):o.guard=none/\o.op= .assign (.tmp x)/\o.dst=some d:=by
 unfold aju at h;split at h;rename_i c e f;cases h;exact⟨c,e,f⟩;cases h
def ai0{o:Oper}{t:TypeId}{d x y:Nat}(h:alP o=some (t,d,x,y)):o.guard=none/\o.op= .slice t (.tmp x) none (some (.tmp y)) none/\o.dst=some d:=by
 unfold alP at h;split at h;rename_i c e f;cases h;exact⟨c,e,f⟩;cases h
def aiR{o:Oper}{t:TypeId}{d x y:Nat}(h:amh o=some (t,d,x,y)):o.guard=none/\o.op= .slice t (.tmp x) (some (.tmp y)) none none/\o.dst=some d:=by
 unfold amh at h;split at h;rename_i c e f;cases h;exact⟨c,e,f⟩;cases h
def agh{o:Oper}{t:TypeId}{d x:Nat}(h:ajy o=some (t,d,x)):o.guard=none/\(∃u,o.op= .binOp .add t (.tmp x) (.const (.int .i64 1)) u)/\o.dst=some d:=by
 unfold ajy at h;split at h;rename_i c e f;cases h;exact⟨c,⟨_,e⟩,f⟩;cases h
def ahp{o:Oper}{t:TypeId}{d x y:Nat}(h:ajx o=some (t,d,x,y)):o.guard=none/\(∃c:Call,o.op= .call c/\c.callee= .builtin .append/\c.args= #[.tmp x,.tmp y]/\c.argTypes= #[t,t])/\o.dst=some d:=by
 unfold ajx at h;split at h;rename_i c d' f j k;split at h;rename_i x' y' t' u' hc l m;split at h;rename_i e;simp only[b_]at e;cases h;subst e;exact⟨f,⟨c,j,hc,ati (by simpa using l),ati (by simpa using m)⟩,k⟩;cases h;cases h;cases h
def af5{o:Oper}{x:Nat}(h:o.op= .move (.tmp x)):(execOp a.eval o).run P w= .ok (.value (a.tmps.getD x undef)) w:=by
 simp only[execOp,h];rfl
def aoV{o:Oper}{x:Nat}(h:o.op= .assign (.tmp x)):(execOp a.eval o).run P w= .ok (.value (a.tmps.getD x undef)) w:=by
 simp only[execOp,h];rfl
def W0{d s:Nat}{v:Value}(h:d<a.tmps.size):(a.put (some d) v).tmps.getD s undef=if s=d then v else a.tmps.getD s undef:=by
 rw[ajU a (some d) v s (by rintro x ⟨⟩;exact h)];by_cases e:s=d;subst e;rw[an rfl,an rfl];rw[a_ (by simpa using e),a_ e]
def ang{o:Oper}{t el:TypeId}{e:Ty}{x y n cap b off:Nat}{i:Nat}(f:P.underlying t=some (.slice el))(j:OB P el e)(h:o.op= .slice t (.tmp x) none (some (.tmp y)) none)
 (l:a.tmps.getD x undef= .slice (some ⟨b,off,none⟩) n cap) (m:a.tmps.getD y undef= .int .i64 i) (h1:i<=cap):(execOp a.eval o).run P w= .ok (.value (.slice (some ⟨b,off,none⟩) i cap)) w:=by
 simp only[execOp,h];refine ED ?_;have d:a.eval (.tmp x)= .slice (some ⟨b,off,none⟩) n cap:=l;have c:a.eval (.tmp y)= .int .i64 i:=m;have:=QY (P:=P) (w:=w) (k:= .i64) (i:=(i:Int)) (y:=cap) (code:= .sliceAcap) (by omega) (by omega);rw[d];simp only[asH]at this;by_cases hc:cap=0;rw[hc]at this;simp[Instr.sliceAt,Instr.slice,Instr.sliceBounds,run_underlying f,Bl j,c,this,hc];simp[Instr.sliceAt,Instr.slice,Instr.sliceBounds,run_underlying f,Bl j,c,this,Addr.add_lit]
def am2{o:Oper}{t el:TypeId}{e:Ty}{x y n cap b off:Nat}{i:Nat}(f:P.underlying t=some (.slice el))(j:OB P el e)(h:o.op= .slice t (.tmp x) (some (.tmp y)) none none)
 (l:a.tmps.getD x undef= .slice (some ⟨b,off,none⟩) n cap) (m:a.tmps.getD y undef= .int .i64 i) (h1:i<=n):(execOp a.eval o).run P w= .ok (.value (.slice (some ⟨b,if cap=i then off else off+i*e.sz,none⟩) (n-i) (cap-i))) w:=by
 simp only[execOp,h];refine ED ?_;have d:a.eval (.tmp x)= .slice (some ⟨b,off,none⟩) n cap:=l;have c:a.eval (.tmp y)= .int .i64 i:=m;have:=QY (P:=P) (w:=w) (k:= .i64) (i:=(i:Int)) (y:=n) (code:= .sliceB) (by omega) (by omega);rw[d];simp only[asH]at this;by_cases hc:cap=i;subst hc;simp[Instr.sliceAt,Instr.slice,Instr.sliceBounds,run_underlying f,Bl j,c,this];simp[Instr.sliceAt,Instr.slice,Instr.sliceBounds,run_underlying f,Bl j,c,this,hc,Addr.add_lit]
def aoO{o:Oper}{t u:TypeId}{x:Nat}{i:Nat}(h:o.op= .binOp .add t (.tmp x) (.const (.int .i64 1)) u)(e:a.tmps.getD x undef= .int .i64 i)(hi:i<4294967296):
 (execOp a.eval o).run P w= .ok (.value (.int .i64 ((i+1:Nat):Int))) w:=by
 simp only[execOp,h];refine ED ?_;have c:a.eval (.tmp x)= .int .i64 i:=e;have f:a.eval (.const (.int .i64 1))= .int .i64 1:=rfl;rw[c,f]
 have j:IntKind.i64.wrap ((i:Int)+1)=((i+1:Nat):Int):=by
  simp only[atE,atC,atF];simp;omega
 have d:∀v,eqGuard .add t (.tmp x) (.const (.int .i64 1)) (.int .i64 i) v=pure ():=fun v=>eqGuard_at_int ..;simp[d,binOp,Op.intArith,j]
def amO(f:Inv w0 c0 U E a w G){j:Nat}{n:Int}{sh:Sh}(h:E.get j= .d ⟨.int .i64,n,sh⟩):a.tmps.getD j undef= .int .i64 n:=by
 have e:=f.slots j;have k:E.s.getD j .no= .d ⟨.int .i64,n,sh⟩:=h;rw[k]at e;obtain⟨l,p,c⟩:=e;cases sh with
 |leaf=>rw[p,show l=_ from c];rfl
 |sl m=>exact c.elim
 |pair a b=>exact c.elim
theorem Inv.XV(c:Inv w0 c0 U E a w G)(d:Option Nat)(v:Value):Inv w0 c0 U (E.set d .no) (a.put d v) w G:=
 c.put d (sv:= .no) trivial (by simp[SV.sc]) (by simp[SV.bt]) (by simp[SV.rt]) (by rintro _ _ ⟨⟩)
def agQ{ops:Array Oper}{d:UQ}(h:ZC ops.toList=some d):∃c e f k l m n p q,ops= #[c,e,f,k,l,m,n,p,q]/\
 ZQ c=some (d.d0,d.s)/\ZQ e=some (d.d1,d.j)/\alP f=some (d.t,d.d2,d.d0,d.d1)/\ZQ k=some (d.d3,d.s)/\ZQ l=some (d.d4,d.j)/\ajy m=some (d.ti,d.d5,d.d4)/\
 amh n=some (d.t,d.d6,d.d3,d.d5)/\ajx p=some (d.t,d.d7,d.d2,d.d6)/\aju q=some (d.s,d.d7)/\d.tmps.Nodup/\akx ops=true:=by
 unfold ZC at h;split at h;rename_i c e f k l m n p q u;split at h;rename_i x y z B D I h6 h7 h8;split at h;rename_i hc;simp only[k_,b_]at hc;obtain⟨⟨rfl,rfl,rfl,rfl,rfl,rfl,rfl,rfl,rfl,rfl,rfl,rfl,rfl,J⟩,K⟩:=hc;cases h;have v:ops= #[c,e,f,k,l,m,n,p,q]:=ati u;exact⟨c,e,f,k,l,m,n,p,q,v,x,y,z,B,D,I,h6,h7,h8,J,by rw[v];exact K⟩;cases h;cases h;cases h
theorem aao(b:Nat):∀(c:List Value) (o n:Nat) (w:World),({w with drawn:=n}:World).setCells b o c={w.setCells b o c with drawn:=n}
 | [],_,_,_=>rfl
 |v::r,o,n,w=>by
  rw[World.setCells,World.setCells,<-aao b r (o+1) n];rfl
def afm(E:Env)(d:UQ)(ts:List Nat)(tk:Nat)(e:Ty)(l:List e.den)(i:Nat):Env:=
 ((((((((((E.kill ts).set (some d.d0) .no).set (some d.d1) .no).set (some d.d2) .no).set (some d.d3) .no).set (some d.d4) .no).set (some d.d5) .no).set (some d.d6) .no).set (some d.d7) .no).set (some d.s)
   (.d ⟨.sl e,l.take i++l.drop (i+1),.sl (.row tk [tk] true)⟩))
def UW{ops:Array Oper}{o:Oper}{v:Value}(c:o.guard=none)(h:∀w,(execOp a.eval o).run P w= .ok (.value v) w):Go.Yields P ops o v a:=
 .inl ⟨by simp[Region.wanted,c],h⟩
set_option maxHeartbeats 1000000 in
theorem amb(hC:CxTy P C)(hm:P.follows .mixedOrders=true){N:Nat}(hI:Inv w0 c0 (fun u=>u<N) E a w G){ops:Array Oper}{d:UQ}(hd:ZC ops.toList=some d)
 {e:Ty} {l:List e.den} {m:M} {fs:List TypeId} {el:TypeId} (ht:C.tt d.t=some ⟨.sl e,fs,el⟩) (hs:E.s.getD d.s .no= .d ⟨.sl e,l,.sl m⟩) {i:Nat} {sh:Sh} (hj:E.get d.j= .d ⟨.int .i64,(i:Int),sh⟩)
 {ts:List Nat} (J:m.own=some ts) (hi:i<l.length) (hl:l.length<4294967296) (X:∀x∈d.tmps,x<E.s.length) {tk:Nat} (h3:4<=tk) (hN:N<=tk) {id:Nat}
 (hK:∀a' w' G',Inv w0 c0 (fun u=>u<N\/u=tk) (afm E d ts tk e l i) a' w' G'->(∀x,x∉d.outs->a'.tmps.getD x undef=a.tmps.getD x undef)->Q .normal a' w'):
 (Code.region id ops true).wp P Q a w:=by
 obtain⟨o0,o1,o2,o3,o4,o5,o6,o7,o8,rfl,q0,q1,q2,q3,q4,q5,q6,q7,q8,hn,K⟩:=agQ hd;obtain⟨g0,p0,t0⟩:=S9 q0;obtain⟨g1,p1,t1⟩:=S9 q1;obtain⟨g2,p2,t2⟩:=ai0 q2;obtain⟨g3,p3,t3⟩:=S9 q3;obtain⟨g4,p4,t4⟩:=S9 q4;obtain⟨g5,⟨u5,p5⟩,t5⟩:=agh q5;obtain⟨g6,p6,t6⟩:=aiR q6;obtain⟨g7,⟨c7,p7,pc,pa,pt⟩,t7⟩:=ahp q7;obtain⟨g8,p8,t8⟩:=agM q8;have hT:=(hC.tt _ _ ht).2;obtain⟨hu,b1⟩:=hT;have D:=hI.slots d.s;have I:=hI.Xe d.s;rw[hs]at D I;obtain⟨cs,D2,E2⟩:=D;obtain⟨v,rfl,R⟩:=E2;have hv:a.tmps.getD d.s undef=v:=D2;have n1:=amO hI hj
 have r2:∀c∈ts,4<=c/\Good (fun u=>u<N) G c:=by
  intro c hc;have r1:=M.Ra J c hc;have h1:=I.1 c r1;refine⟨?_,h1⟩;cases m with
  |row t n2 nd=>
   obtain⟨k1,k2,k3⟩:=M.S1 J;rcases(k3 c).1 hc with rfl|hc;exact R.1;exact k2 c hc
  |sha n2=>
   cases n2 with
   |nil=>simp[M.own]at J;subst J;cases hc
   |cons x y=>simp[M.own]at J
  |nst=>simp[M.own]at J
  |dead=>simp[M.own]at J
 obtain⟨b,off,cap,c,G2,rfl,S,c1,hszc,H2,y1⟩:=hI.del R J r2 hi h3 (atv.2 hN);obtain⟨G',J2,j1,A1⟩:=y1;change l.length<=cap at S;simp only[UQ.tmps,asD,T_,asy,or_false,not_or,List.nodup_nil,and_true]at hn;obtain⟨⟨n0_1,B1,C1,D1,n0_5,n0_6,n0_7,n0_8,n0_9⟩,⟨W,E1,G1,J1,n1_6,n1_7,n1_8,n1_9⟩,⟨L1,n2_4,n2_5,n2_6,n2_7,n2_8,n2_9⟩,⟨n3_4,n3_5,n3_6,n3_7,n3_8,n3_9⟩,⟨M1,X1,b2,c2,n4_9⟩,⟨h2,j2,n5_8,n5_9⟩,⟨n6_7,n6_8,n6_9⟩,⟨n7_8,n7_9⟩,n8_9⟩:=hn;have hlen:a.tmps.size=E.s.length:=hI.len;simp only[UQ.tmps,T_,asy,or_false,forall_eq_or_imp,forall_eq]at X;rw[<-hlen]at X;obtain⟨z0,z1,z2,z3,z4,z5,z6,z7,z8,z9⟩:=X;simp only[akx,k_,J9,atf,b_]at K;obtain⟨⟨⟨⟨p,f⟩,L2⟩,b3⟩,c3⟩:=K;refine wp_mono (Q:=fun ex a w=>ex= .normal/\Q .normal a w) ?_ (fun ex a w h=>by obtain⟨rfl,h⟩:=h;exact h);refine wp_region_any hm ?_
 have Y:∀(v:Value) (o:Oper) c (a:Act) (w:World),(fun(ex:Exit) (a:Act) (w:World)=>ex= .normal/\Q .normal a w) (.panic c) (a.put o.dst v) w->(fun(ex:Exit) (a:Act) (w:World)=>ex= .normal/\Q .normal a w) (.panic c) a w:=
  fun v o c a w h=>by have:=h.1;cases this
 generalize u1:({w with drawn:=w.drawn+1}:World)=w1;show wpAny P .any _ _ 9 (lst 9 0) a w1;refine wpAny_take (i:=0) (oi:=o0) (v:= .slice (some ⟨b,off,none⟩) l.length cap) rfl p (f 0 (by decide)).1 (f 0 (by decide)).2 (Y _ _) (UW g0 (fun w=>by rw[<-hv];exact af5 p0)) ?_;rw[t0];generalize b0:a.put (some d.d0) (.slice (some ⟨b,off,none⟩) l.length cap)=a1;have s1:a1.tmps.size=a.tmps.size:=by rw[<-b0,TZ]
 have f1:∀s,a1.tmps.getD s undef=if s=d.d0 then .slice (some ⟨b,off,none⟩) l.length cap else a.tmps.getD s undef:=fun s=>by rw[<-b0];exact W0 z2
 refine wpAny_take (i:=1) (oi:=o1) (v:= .int .i64 i) rfl p (f 1 (by decide)).1 (f 1 (by decide)).2 (Y _ _) (UW g1 (fun w=>by
  have:=af5 (P:=P) (a:=a1) (w:=w) p1;rw[f1,a_ W,n1]at this;exact this)) ?_
 rw[t1];generalize e0:a1.put (some d.d1) (.int .i64 i)=a2;have s2:a2.tmps.size=a.tmps.size:=by rw[<-e0,TZ,s1]
 have f2:∀s,a2.tmps.getD s undef=if s=d.d1 then .int .i64 i else a1.tmps.getD s undef:=fun s=>by rw[<-e0];exact W0 (by rw[s1];exact z3)
 refine wpAny_take (i:=2) (oi:=o2) (v:= .slice (some ⟨b,off,none⟩) i cap) rfl p (f 2 (by decide)).1 (f 2 (by decide)).2 (Y _ _) (UW g2 (fun w=>
  ang (n:=l.length) hu b1 p2 (by rw[f2,a_ L1,f1,an rfl]) (by rw[f2,an rfl]) (by omega))) ?_
 rw[t2];generalize h0:a2.put (some d.d2) (.slice (some ⟨b,off,none⟩) i cap)=a3;have s3:a3.tmps.size=a.tmps.size:=by rw[<-h0,TZ,s2]
 have f3:∀s,a3.tmps.getD s undef=if s=d.d2 then .slice (some ⟨b,off,none⟩) i cap else a2.tmps.getD s undef:=fun s=>by rw[<-h0];exact W0 (by rw[s2];exact z4)
 refine wpAny_take (i:=3) (oi:=o3) (v:= .slice (some ⟨b,off,none⟩) l.length cap) rfl p (f 3 (by decide)).1 (f 3 (by decide)).2 (Y _ _) (UW g3 (fun w=>by
  have:=af5 (P:=P) (a:=a3) (w:=w) p3;rw[f3,a_ D1,f2,a_ C1,f1,a_ B1,hv]at this;exact this)) ?_
 rw[t3];generalize j0:a3.put (some d.d3) (.slice (some ⟨b,off,none⟩) l.length cap)=a4;have s4:a4.tmps.size=a.tmps.size:=by rw[<-j0,TZ,s3]
 have f4:∀s,a4.tmps.getD s undef=if s=d.d3 then .slice (some ⟨b,off,none⟩) l.length cap else a3.tmps.getD s undef:=fun s=>by rw[<-j0];exact W0 (by rw[s3];exact z5)
 refine wpAny_take (i:=4) (oi:=o4) (v:= .int .i64 i) rfl p (f 4 (by decide)).1 (f 4 (by decide)).2 (Y _ _) (UW g4 (fun w=>by
  have:=af5 (P:=P) (a:=a4) (w:=w) p4;rw[f4,a_ J1,f3,a_ G1,f2,a_ E1,f1,a_ W,n1]at this;exact this)) ?_
 rw[t4];generalize r0:a4.put (some d.d4) (.int .i64 i)=a5;have s5:a5.tmps.size=a.tmps.size:=by rw[<-r0,TZ,s4]
 have f5:∀s,a5.tmps.getD s undef=if s=d.d4 then .int .i64 i else a4.tmps.getD s undef:=fun s=>by rw[<-r0];exact W0 (by rw[s4];exact z6)
 refine wpAny_take (i:=5) (oi:=o5) (v:= .int .i64 ((i+1:Nat):Int)) rfl p (f 5 (by decide)).1 (f 5 (by decide)).2 (Y _ _) (UW g5 (fun w=>
  aoO p5 (by rw[f5,an rfl]) (by omega))) ?_
 rw[t5];generalize s0:a5.put (some d.d5) (.int .i64 ((i+1:Nat):Int))=a6;have s6:a6.tmps.size=a.tmps.size:=by rw[<-s0,TZ,s5]
 have f6:∀s,a6.tmps.getD s undef=if s=d.d5 then .int .i64 ((i+1:Nat):Int)else a5.tmps.getD s undef:=fun s=>by rw[<-s0];exact W0 (by rw[s5];exact z7)
 refine wpAny_take (i:=6) (oi:=o6) (v:= .slice (some ⟨b,if cap=i+1 then off else off+(i+1)*e.sz,none⟩) (l.length-(i+1)) (cap-(i+1))) rfl p (f 6 (by decide)).1 (f 6 (by decide)).2 (Y _ _) (UW g6 (fun w=>
  am2 (n:=l.length) (cap:=cap) (i:=i+1) hu b1 p6 (by rw[f6,a_ j2,f5,a_ h2,f4,an rfl]) (by rw[f6,an rfl]) (by omega))) ?_
 rw[t6];generalize u0:a6.put (some d.d6) (.slice (some ⟨b,if cap=i+1 then off else off+(i+1)*e.sz,none⟩) (l.length-(i+1)) (cap-(i+1)))=a7;have s7:a7.tmps.size=a.tmps.size:=by rw[<-u0,TZ,s6]
 have f7:∀s,a7.tmps.getD s undef=if s=d.d6 then .slice (some ⟨b,if cap=i+1 then off else off+(i+1)*e.sz,none⟩) (l.length-(i+1)) (cap-(i+1))else a6.tmps.getD s undef:=fun s=>by rw[<-u0];exact W0 (by rw[s6];exact z8)
 refine wpAny_all L2 (by simp) (fun j hj=> ?_);obtain rfl:j=7:=by simpa using hj
 have hm2:(i+1)*e.sz<=l.length*e.sz:=ar5 _ hi;have hm1:i*e.sz+e.sz=(i+1)*e.sz:=by rw[ase,asz]
 have hm3:l.length*e.sz<=cap*e.sz:=ar5 _ S;have hm4:(l.length-(i+1))*e.sz=l.length*e.sz-(i+1)*e.sz:=Nat.sub_mul ..
 have x1:(execOp a7.eval o7).run P w1= .ok (.value (.slice (some ⟨b,off,none⟩) (l.length-1) cap)) (w1.setCells b (off+i*e.sz) (((c.toList.drop off).take (l.length*e.sz)).drop ((i+1)*e.sz))):=by
  obtain⟨inf,dd,l2,z,hz,hby,_⟩:=b1;have q:w1.heap[b]?=some (.cells c G2 (0,0)):=by rw[<-u1];exact c1
  have u2:∀k u,(((c.toList.drop off).take (l.length*e.sz)).drop ((i+1)*e.sz))[k]?=some u->c[off+(i+1)*e.sz+k]?=some u:=by
   intro k u B;rw[asG,aso]at B;split at B;rw[asG]at B;rw[<-asO];rw[<-B];congr 1;omega;cases B
  have E0:(((c.toList.drop off).take (l.length*e.sz)).drop ((i+1)*e.sz)).length=(l.length-(i+1))*e.sz:=by
   simp;omega
  have hr:=run_append_room_cells (P:=P) w1 d.t o7.type el inf hu l2 b off i cap ⟨b,if cap=i+1 then off else off+(i+1)*e.sz,none⟩ (l.length-(i+1)) (cap-(i+1))
   (((c.toList.drop off).take (l.length*e.sz)).drop ((i+1)*e.sz)) (by rw[z];exact E0) (fun k u B=>by
     have w2:k<(((c.toList.drop off).take (l.length*e.sz)).drop ((i+1)*e.sz)).length:=(ar8.1 B).1
     have y2:cap≠i+1:=by
      intro hc;have:l.length-(i+1)=0:=by omega
      rw[E0,this]at w2;omega
     rw[a_ y2,Addr.add_lit,UT q];exact u2 k u B) (fun u hu=>H2 u (List.mem_of_mem_drop hu)) (by omega)
   (fun k B=>by rw[UT q,z];rw[E0]at B;have:off+i*e.sz+k<c.size:=by omega
                simp[this]) (fun k B=>YB q _)
  rw[z]at hr
  have e1:a7.eval (.tmp d.d2)= .slice (some ⟨b,off,none⟩) i cap:=by
   show a7.tmps.getD d.d2 undef=_;rw[f7,a_ c2,f6,a_ b2,f5,a_ X1,f4,a_ M1,f3,an rfl]
  have e2:a7.eval (.tmp d.d6)= .slice (some ⟨b,if cap=i+1 then off else off+(i+1)*e.sz,none⟩) (l.length-(i+1)) (cap-(i+1)):=by
   show a7.tmps.getD d.d6 undef=_;rw[f7,an rfl]
  have A2:i+(l.length-(i+1))=l.length-1:=by omega
  rw[A2]at hr;simp only[execOp,p7];simp[resolve,pc,invoke,builtin,pa,pt,e1,e2,hr]
 refine PQ (ops:=[o0,o1,o2,o3,o4,o5,o6,o7,o8]) (i:=7) rfl (by simp[Region.wanted,g7]) ?_;unfold Oper.wp;rw[x1];rw[Oper.upon_value,t7];generalize G0:a7.put (some d.d7) (.slice (some ⟨b,off,none⟩) (l.length-1) cap)=a8;have s8:a8.tmps.size=a.tmps.size:=by rw[<-G0,TZ,s7]
 have f8:∀s,a8.tmps.getD s undef=if s=d.d7 then .slice (some ⟨b,off,none⟩) (l.length-1) cap else a7.tmps.getD s undef:=fun s=>by rw[<-G0];exact W0 (by rw[s7];exact z9)
 refine wpAny_all b3 (by simp) (fun j hj=> ?_);obtain rfl:j=8:=by simpa using hj
 refine PQ (ops:=[o0,o1,o2,o3,o4,o5,o6,o7,o8]) (i:=8) rfl (by simp[Region.wanted,g8]) ?_;unfold Oper.wp;rw[aoV p8,f8,an rfl,Oper.upon_value,t8];refine⟨c3,rfl,?_⟩
 have B2:w1.setCells b (off+i*e.sz) (((c.toList.drop off).take (l.length*e.sz)).drop ((i+1)*e.sz))={w.setCells b (off+i*e.sz) (((c.toList.drop off).take (l.length*e.sz)).drop ((i+1)*e.sz))with drawn:=w.drawn+1}:=by
  rw[<-u1];exact aao ..
 rw[B2];have C2:=J2.drawn (w.drawn+1)
 have L0:qs {w.setCells b (off+i*e.sz) (((c.toList.drop off).take (l.length*e.sz)).drop ((i+1)*e.sz))with drawn:=w.drawn+1} G' e (l.take i++l.drop (i+1)) (.slice (some ⟨b,off,none⟩) (l.length-1) cap) (.row tk [tk] true):=
  qs.agree (w:=w.setCells b (off+i*e.sz) (((c.toList.drop off).take (l.length*e.sz)).drop ((i+1)*e.sz))) (G:=G') ⟨fun _ _=>rfl,fun _ _=>rfl,fun _ _=>rfl⟩ j1
 have k0:=C2.XV (some d.d0) (.slice (some ⟨b,off,none⟩) l.length cap);rw[b0]at k0;have k1:=k0.XV (some d.d1) (.int .i64 i);rw[e0]at k1;have k2:=k1.XV (some d.d2) (.slice (some ⟨b,off,none⟩) i cap);rw[h0]at k2;have k3:=k2.XV (some d.d3) (.slice (some ⟨b,off,none⟩) l.length cap);rw[j0]at k3;have k4:=k3.XV (some d.d4) (.int .i64 i);rw[r0]at k4;have k5:=k4.XV (some d.d5) (.int .i64 ((i+1:Nat):Int));rw[s0]at k5;have k6:=k5.XV (some d.d6) (.slice (some ⟨b,if cap=i+1 then off else off+(i+1)*e.sz,none⟩) (l.length-(i+1)) (cap-(i+1)));rw[u0]at k6;have k7:=k6.XV (some d.d7) (.slice (some ⟨b,off,none⟩) (l.length-1) cap);rw[G0]at k7
 have R0:∀c'∈(SV.d ⟨.sl e,l.take i++l.drop (i+1),.sl (.row tk [tk] true)⟩).sc,0<c'/\(c'<N\/c'=tk)/\G'.bx c'=false:=by
  intro c' l1;simp only[SV.sc,Sh.cO,M.cO,T_,asy,or_false,or_self]at l1;subst l1;exact⟨by omega,.inr rfl,A1⟩
 have k8:=k7.put (some d.s) (sv:= .d ⟨.sl e,l.take i++l.drop (i+1),.sl (.row tk [tk] true)⟩) (v:= .slice (some ⟨b,off,none⟩) (l.length-1) cap) ⟨[_],rfl,_,rfl,L0⟩ R0 (by simp[SV.bt]) (by simp[SV.rt]) (by rintro _ _ ⟨⟩);refine hK _ _ _ k8 (fun x hx=> ?_);simp only[UQ.outs,T_,asy,or_false,not_or]at hx;obtain⟨x0,x2,x3,x4,x5,x6,x7,x8,x9⟩:=hx;rw[W0 (by rw[s8];exact z0),a_ x0,f8,a_ x9,f7,a_ x8,f6,a_ x7,f5,a_ x6,f4,a_ x5,f3,a_ x4,f2,a_ x3,f1,a_ x2]
def aol{ops:List Oper}{d:UQ}(h:ZC ops=some d):∀x∈d.outs,∃o∈ops,o.dst=some x:=by
 have t:ZC ops.toArray.toList=some d:=by simpa using h
 obtain⟨f,j,k,l,m,n,p,q,s,u,q0,q1,q2,q3,q4,q5,v,y,z,_⟩:=agQ t
 have c:ops=[f,j,k,l,m,n,p,q,s]:=by
  have:=congrArg Array.toList u;simpa using this
 subst c;intro x e;simp only[UQ.outs,T_,asy,or_false]at e;rcases e with rfl|rfl|rfl|rfl|rfl|rfl|rfl|rfl|rfl;exact⟨s,by simp,(agM z).2.2⟩;exact⟨f,by simp,(S9 q0).2.2⟩;exact⟨j,by simp,(S9 q1).2.2⟩;exact⟨k,by simp,(ai0 q2).2.2⟩;exact⟨l,by simp,(S9 q3).2.2⟩;exact⟨m,by simp,(S9 q4).2.2⟩;exact⟨n,by simp,(agh q5).2.2⟩;exact⟨p,by simp,(aiR v).2.2⟩;exact⟨q,by simp,(ahp y).2.2⟩
def anO{io:List Nat}{ops:List Oper}(h:keeps io ops=true){o:Oper}(c:o∈ops){x:Nat}(d:o.dst=some x):x∉io:=by
 unfold keeps at h;rw[J9]at h;have:=h o c;rw[d]at this;simpa using this
def aoe{d:UQ}{ts:List Nat}{tk:Nat}{e:Ty}{l:List e.den}{i:Nat}:(afm E d ts tk e l i).s.length=E.s.length:=by
 simp only[afm,Env.set,List.length_set];unfold Env.kill;split;rfl;simp
def alo{E:Env}{d:Nat}{sv:SV}(h:Y1 E.s)(hs:∀j w act v,sv≠ .g j w act v):Y1 (E.set (some d) sv).s:=by
 intro s j w act v;simp only[Env.set,CS];split;exact hs j w act v;exact h s j w act v
def anM{d:UQ}{ts:List Nat}{tk:Nat}{e:Ty}{l:List e.den}{i:Nat}(h:Y1 E.s):Y1 (afm E d ts tk e l i).s:=by
 have f:Y1 (E.kill ts).s:=by
  intro s j w act v c;obtain⟨k,m⟩:=ajG c;exact h s j w act k m
 unfold afm;refine alo ?_ (by rintro _ _ _ _ ⟨⟩)
 iterate 8 refine alo ?_ (by rintro _ _ _ _ ⟨⟩)
 exact f
section
variable{ρ:Type}
def ahV(C:Cx)(d:UQ)(n:Nat)(E:Env)(c:Env->Option ρ):Option ρ:=
 match C.tt d.t,E.s.getD d.s .no,E.get d.j with
 |some ⟨.sl e,_,_⟩,.d ⟨.sl e',l',.sl m⟩,.d ⟨.int .i64,i,_⟩=>(match OP ⟨.sl e',l',.leaf⟩ (.sl e),m.own with
  |some l,some ts=>if decide (0<=i/\i<(((l:List e.den).length:Nat):Int)/\(l:List e.den).length<4294967296)=true then
   (match d.tmps.all (fun x=>decide (x<E.s.length))with
   |true=>c {afm E d ts E.nt e l i.toNat with nt:=E.nt+32*n}
   |false=>none)
   else none
  |_,_=>none)
 |_,_,_=>none
end
def alS{ρ:Type}(hC:CxTy P C)(hm:P.follows .mixedOrders=true)(hI:Inv w0 c0 (fun u=>u<E.nt) E a w G)(hg:Y1 E.s)(h3:4<=E.nt){ops:Array Oper}{d:UQ}(N:ZC ops.toList=some d)(hn:0<ops.size)
 {io:List Nat} (B:keeps io ops.toList=true) {R:Env->Option ρ} {r:ρ} (h:ahV C d ops.size E R=some r) {id:Nat}
 (hK:∀E' f w' G',Inv w0 c0 (fun u=>u<E'.nt) E' f w' G'->Y1 E'.s->E'.s.length=E.s.length->4<=E'.nt->(∀i∈io,f.tmps.getD i undef=a.tmps.getD i undef)->R E'=some r->Q .normal f w'):
 (Code.region id ops true).wp P Q a w:=by
 unfold ahV at h;split at h;rename_i e fs el e' l' m i sh S W t;split at h;rename_i l X c Y;have n:=Ea c;simp only[TV.mk.injEq]at n;obtain⟨he,hl,_⟩:=n;cases he;cases hl;split at h;rename_i hc;obtain⟨p,q,J⟩:=e_ hc;have D: @LE.le Int Int.instLEInt 0 i:=p;have hc1: @LT.lt Int Int.instLTInt i ((Q' l:Nat):Int):=q;split at h;rename_i k;rw[J9]at k;have I:((i.toNat:Nat):Int)=i:=Int.toNat_of_nonneg D;refine amb hC hm hI N S W (i:=i.toNat) (sh:=sh) (by rw[I];exact t) Y (by omega) J (fun x v=>e_ (k x v)) h3 (asd _) (fun f w' G' g1 g2=> ?_);refine hK {afm E d X E.nt _ l i.toNat with nt:=E.nt+32*ops.size} f w' G' ?_ (anM hg) aoe (by show 4<=E.nt+32*ops.size;omega) (fun j t=>g2 j (fun y=> ?_)) h;have:=g1.mono (U':=fun u=>u<E.nt+32*ops.size) (fun u z=>by rcases z with z|z<;>omega);exact {this with};obtain⟨o,K,v⟩:=aol N j y;exact anO B K v t;cases h;cases h;cases h;cases h
end
abbrev ajA:=FuncId->Option anK
def api(M:ajA)(o:Oper):Option (FuncId×anK×Nat×Nat):=
 match o.guard,o.op with
 |none,.call c=>(match c.callee,c.args.toList with
  | .value (.func f),[.tmp s,.tmp j]=>(match M f with|some m=>some (f,m,s,j)|none=>none)
  |_,_=>none)
 |_,_=>none
def aql(M:ajA)(c d e:Oper):Option (FuncId×anK×TypeId×Nat×Nat×Nat×Nat):=
 match c.guard,c.op,c.dst,d.guard,d.op,d.dst with
 |none,.load t (.tmp p),some d1,none,.move (.tmp q),some d2=>(match api M e with
  |some (f,m,s,j)=>(match decide (s=d1/\j=d2/\d1≠d2/\q≠d1)with|true=>some (f,m,t,p,q,d1,d2)|false=>none)
  |none=>none)
 |_,_,_,_,_,_=>none
def untold(C:Cx)(o:Oper):Bool:=
 match o.guard,o.op with
 |none,.assign (.const _)=>(C.tt o.type).isNone
 |_,_=>false
def Env.aer(E:Env)(gv:List Nat)(b:Nat)(e:Ty)(l:List e.den):Env:=
 {E with s:=E.s.map fun s=>(((s.og b).setRow b e l (.row b (b::gv) true)).fv gv b)}
section
variable{ρ:Type}
def afo(o:Oper)(a:Option Bool)(E:Env)(k:Env->Option ρ)(c:Ef):Option ρ:=
 match c,a with
 | .call _ x tks f rp,some b=>if b=true then x.bind (fun r=>k (Env.set {E.qn tks (rp r)with s:=od (f r).2 (E.qn tks (rp r)).s} o.dst (Ap o.guard (some true) (f r).1)))else k (E.set o.dst (Ap o.guard (some false) (vB false)))
 | .elem (g::gv) b e l _,none=>(match o.dst,o.op with|none,.store _ _ _=>k (E.aer (g::gv) b e l)|_,_=>none)
 |c,a=>T4 o a E k c
end
section
variable{P:Program}{C:Cx}{M:ajA}{w0:World}{c0:C0}{U:Nat->Prop}{E:Env}{a:Act}{w:World}{G:Gh}{ops:List Oper}{L:Nat->Prop}{Q:Exit->Act->World->Prop}{ρ:Type}
theorem Inv.apW(c:Inv w0 c0 U E a w G)(d:Option Nat)(v:Value):Inv w0 c0 U (E.set d .no) (a.put d v) w G:=
 c.put d (sv:= .no) trivial (by simp[SV.sc]) (by simp[SV.bt]) (by simp[SV.rt]) (by rintro _ _ ⟨⟩)
end
section
variable{P:Program}{C:Cx}{M:ajA}{g:Option (Nat×Bool)}{w0:World}{c0:C0}{U:Nat->Prop}{E:Env}{a:Act}{w:World}{G:Gh}{ops:List Oper}{L:Nat->Prop}{Q:Exit->Act->World->Prop}{ρ:Type}
theorem anW(hC:CxTy P C)(hI:Inv w0 c0 U E a w G)(hR:RI ops E a.tmps)(hg:Gd ops a.tmps g){tk:Nat}{o:Oper}{t:TypeId}{x y:Operand}
 {gv:List Nat} {b:Nat} {e:Ty} {l':List e.den} {m:Vg.M} (ho:o.op= .store t x y) (x0:gv≠ []) (h0:S7 C ops E.rd tk g o=some (.elem gv b e l' m)):
 ∃w' G',(execOp a.eval o).run P w= .ok .skip w'/\Inv w0 c0 U (E.aer gv b e l') a w' G':=by
 have h:=ant h0;simp only[kH,ho]at h;split at h;split at h;split at h;obtain⟨r,_,h⟩:=asI.mp h;cases h;cases h;cases h;rename_i ti f d i off p τ1 v1 u1 s0 hv;split at h;rename_i l hs nd u0;obtain⟨hc,h⟩:=Option.ite_none_right_eq_some.mp h;obtain⟨C1,h⟩:=Option.ite_none_left_eq_some.mp h;obtain⟨r,hr,h⟩:=asI.mp h;simp only[Ef.elem.injEq]at h;obtain⟨l1,rfl,rfl,b0,hm⟩:=h;have b0:=eq_of_heq b0;subst b0;simp only[k_,b_]at hc;obtain⟨⟨⟨D1,hc2⟩,E1⟩,e0⟩:=hc;obtain⟨h1,_⟩:=KM hI hR hg s0;obtain⟨u,of,n,cap,D,k2,k3,k4,k5⟩:=h1;obtain⟨⟨vh,n1⟩,j⟩:=hI.CT u0;obtain⟨⟨I,G1,j0⟩,J1,k0⟩:=Q9 hI hR hg hv;have E0:vh=G.hdr f:=n1.2.1.symm;have N:=C1;simp only[Bool.not_eq_true]at N;obtain⟨q1,q2,q3,B,Bv,o0,p0,hB,L1,M1,o1⟩:=ajP (τ:=τ1) (gv:=gv) (m:=m) n1 j j0 J1 k0 E1 _ rfl l1.symm hm.symm N;rw[E0,k2]at hB;rcases hB with⟨⟨ao,hB⟩,_⟩|⟨bk',of',cap',c,el,fz,Bs,X,Y,q,hsz,rfl,hl⟩;cases hB;exfalso;have k4':i<((0:Nat):Int):=k4;have k3': @LE.le Int Int.instLEInt 0 i:=k3;omega;simp only[Value.slice.injEq,C_,Addr.mk.injEq,and_true]at X;obtain⟨⟨rfl,rfl⟩,rfl,rfl⟩:=X;obtain⟨j1,j2,j3,j4⟩:=o1 u Bs rfl;obtain⟨c',p1,r0⟩:=hI.fresh u (by rw[j1];exact D);rw[r0]at q;simp only[C_,Obj.cells.injEq]at q;obtain⟨rfl,rfl,rfl⟩:=q;have hi:i.toNat<l.length:=toNat_lt k3 k4
 have G0:l[i.toNat]?=some (l.getD i.toNat d.aa):=by
  rw[arW,arZ hi];rfl
 obtain⟨B1,Bx,B2,rfl,X1,b2,c2⟩:=fN.get (sz:=d.sz) (fun x c B h=>fl.len h) hl G0;obtain⟨Ba,Bo,Bb,rfl,r1,hle⟩:=fl.put hr X1 L1;have L0:=fN.set (sz:=d.sz) hi r1 b2 c2;have R0:I.length=v1.τ.sz:=kE.len j0;have hmul:(i.toNat+1)*d.sz<=l.length*d.sz:=ar5 _ hi;have hmul2:l.length*d.sz<=cap*d.sz:=ar5 _ Y;rw[ase,asz]at hmul;have hO:of+i.toNat*d.sz+off+I.length<=c'.size:=by rw[<-D1];omega
 have z:=NY u (el:=p1) I (of+i.toNat*d.sz+off) w c' r0 hO;have hT:=(hC.tt t ti u1).1;have a1:=XL (P:=P) (t:=t) (τ:=ti.τ) hT r0 (o:=of+i.toNat*d.sz+off) (cs:=I) (by rw[<-e0,<-R0];exact hO) (by rw[R0,e0]) (kE.one j0) k5;have hU:U f:=(j f (by simp)).2.1;have c1:G.bx f=false:=(j f (by simp)).2.2;have x1:=hI.map (abt (w:=w) f) hI.colU (fun b=>⟨fun h=>h,fun _=>rfl,fun _=>rfl⟩);have R:G.col u=f:=j1
 have J:∀k,G.col k≠f->(w.setCells u (of+i.toNat*d.sz+off) I).heap[k]?=w.heap[k]?:=fun k hk=>
  oU u _ _ w k (fun e=>hk (e▸R))
 have S:=j4 (B1++(Ba++Bv++Bb)++B2) ⟨B1++Ba,Bo,Bb++B2,by simp[asr],by simp[asr]⟩
 have W:u∉B1++(Ba++Bv++Bb)++B2:=by
  simp only[J_,not_or]at j2|-;exact⟨⟨j2.1.1,⟨j2.1.2.1.1,j3⟩,j2.1.2.2⟩,j2.2⟩
 have y1:o0=[f]/\p0=true:=by
  have key:∀(own:Option (List Nat)) (mm:Vg.M),own.getD []=gv->(if own.isSome=true then(Vg.M.row f [f] true)else mm)= .row f o0 p0->o0=[f]/\p0=true:=by
   intro own mm h1 h2;cases own with
   |none=>exact absurd h1.symm x0
   |some ts=>
    simp only[Option.isSome_some,if_true,Vg.M.row.injEq,true_and]at h2;exact⟨h2.1.symm,h2.2.symm⟩
  exact key _ _ l1 (hm.trans M1)
 obtain⟨rfl,rfl⟩:=y1
 have k1:qs (w.setCells u (of+i.toNat*d.sz+off) I) G d (l.set i.toNat r.1) (G.hdr f) (.row f (f::gv) true):=by
  refine⟨D,rfl,u::(B1++(Ba++Bv++Bb)++B2),?_,?_⟩;refine .inr ⟨u,of,cap,_,p1,(0,0),B1++(Ba++Bv++Bb)++B2,by simp[k2],by simpa using Y,z,by simp;omega,rfl,?_⟩
  have K:((wJ (of+i.toNat*d.sz+off) I c'.toList).drop of).take ((l.set i.toNat r.1).length*d.sz)=
   ((c'.toList.drop of).take (l.length*d.sz)).take (i.toNat*d.sz)++wJ (d.off p) I ((((c'.toList.drop of).take (l.length*d.sz)).drop (i.toNat*d.sz)).take d.sz)++((c'.toList.drop of).take (l.length*d.sz)).drop ((i.toNat+1)*d.sz):=by
   rw[ZR (by omega) (by simp;omega),Z6 (by simp;omega) (by simp;omega)];rw[show of+i.toNat*d.sz+off-of=i.toNat*d.sz+d.off p by omega];rw[XF (sz:=d.sz) hle];rw[ase,asz];simp
  show fN _ _ (((wJ (of+i.toNat*d.sz+off) I c'.toList).toArray.toList.drop of).take _) _;rw[List.toList_toArray,K];exact fN.world (fun k hk=>oU u _ _ w k (fun e=>W (e▸hk))) L0;rintro h' Bs'' ⟨⟩;refine⟨R,W,fun x hx=> ?_,S.2⟩;have:=S.1 x hx;split at this;rename_i w1;exact ar4 _ w1;simp only[asn]at this;rw[this];simp
 have z1:=x1.setRow k1 c1 D J (fun s=> ?_) (fun c hc=> ?_) (fun k hk=> ?_) (by rw[Eu]) (qG _ _ _ w).1 (qG _ _ _ w).2.1 (qG _ _ _ w).2.2;have A1:=z1.amj (ts:=gv) (t:=f) (v:=G.hdr f) D q1 hU rfl c1;refine⟨w.setCells u (of+i.toNat*d.sz+off) I,G.fv gv f (G.hdr f),?_,?_⟩;simp only[execOp,ho,G1,e0];simp[a1];simpa only[Env.aer,asQ,Function.comp_def,SV.og,SV.fv]using A1;have:=getD_map (L:=E.s) (T:=SV.og f) rfl s;show SV.clear f ((List.map (SV.og f) E.s).getD s .no);rw[this];exact SV.B9 f _;simp only[M.cO,T_]at hc;rcases hc with rfl|rfl|hc;exact j _ (by simp);exact j _ (by simp);exact(q1 c hc).2;by_cases e:k=u;subst e;exact⟨_,_,z⟩;rw[oU u _ _ w k e];exact hI.fresh k (by rw[hk];exact D);cases h;cases h
def anT(hC:Xq P C){i:Nat}{o:Oper}(ho:ops[i]?=some o)(hI:Inv w0 c0 U E a w G)(hR:UP ops L E a.tmps)(hL:∀j w',o.guard=some (j,w')->L j)(R:¬L i)(S:Rh ops=true)
 {tk:Nat} (h3:4<=tk) (hU:∀u,tk<=u->u<tk+32->¬U u) {act:Option Bool} {ef:Ef} (D:guardOf ops E.rd o.guard=some act) (J:S7 C ops E.rd tk o.guard o=some ef)
 {k:Env->Option ρ} {r:ρ} (n:afo o act E k ef=some r) {K:Act->World->Prop}
 (hK:∀E' Y w' G',k E'=some r->E'.s.length=E.s.length->Inv w0 c0 (fun u=>U u\/(tk<=u/\u<tk+32)) E' Y w' G'->UP ops (fun j=>L j\/j=i) E' Y.tmps->(∃v,Y=a.put o.dst v)->K Y w'):wpOp P ops.toArray Q i K a w:=by
 have e0:=hI.mono (U':=fun u=>U u\/(tk<=u/\u<tk+32)) (fun u hu=> .inl hu)
 have h0:T4 o act E k ef=some r->wpOp P ops.toArray Q i K a w:=by
  intro n;rw[ak5,akt,ar3]at n;obtain⟨E',d,hk⟩:=n
  have hlen:E'.s.length=E.s.length:=by
   cases ef with
   |val v=>simp only[kc,C_]at d;subst d;exact Uh ..
   |chk c v=>
    simp only[kc]at d;split at d;split at d;simp only[C_]at d;subst d;exact Uh ..;cases d;split at d;simp only[C_]at d;subst d;exact Uh ..;cases d
   |opt α z x f=>
    simp only[kc,ar3,C_]at d;obtain⟨y,_,d⟩:=d;subst d;exact Uh ..
   |put b s v=>
    simp only[kc]at d;split at d;simp only[C_]at d;subst d;simp;cases d
   |app c kl gv t v=>
    simp only[kc]at d;split at d;split at d;simp only[C_]at d;subst d;rw[Uh,anV,anQ];cases d;cases d
   |elem gv b e l m=>
    simp only[kc]at d;split at d;simp only[C_]at d;subst d;simp[Env.elem];cases d
   |nap c gv b e l m v=>
    simp only[kc]at d;split at d;split at d;simp only[C_]at d;subst d;rw[Uh];simp[Env.elem];cases d;cases d
   |call α x N f rp=>
    simp only[kc]at d;split at d;simp only[ar3,C_]at d;obtain⟨y,_,d⟩:=d;subst d;rw[Uh,UZ,Zd];cases d
  exact alB hC ho hI hR hL R S h3 hU D J d (fun Y w' G' g1 g2 g3=>hK E' Y w' G' hk hlen g1 g2 g3)
 unfold afo at n;split at n
 rename_i α x N f rp b;cases q:o.guard with
 |none=>rw[q]at D;simp[guardOf]at D
 |some p=>
  obtain⟨j,w'⟩:=p;rw[q]at D J;obtain⟨b',W,hb⟩:=abS hI D;cases W;have hj:=hL j w' q;cases b with
  |true=>
   simp only[if_true,ar3]at n;obtain⟨y,hy,hk⟩:=n;have I:=hb.1 rfl;have B:Region.wanted o (yielded ops.toArray a.tmps)=true:=by simp[Region.wanted,q,I]
   have hS:=ahX hC hI hR.ri (g:=some (j,w')) (by rintro j1 w1 ⟨⟩;exact I) h3 hU J;refine PQ ho B ?_;refine W5 (hS y hy) (fun mv w1 ⟨G',g1,g2,g3,g4⟩=> ?_);obtain⟨k1,X,k3⟩:=alI (j:=j) (w':=w') g2 g3;rw[q]at hk;refine hK _ _ _ G' hk (by rw[Uh,UZ,Zd]) ?_ ?_ ⟨_,rfl⟩;exact g1.put o.dst k1 X.1 X.2.1 X.2.2 (fun t u e=>absurd e (k3 t u));refine UP.put (E:={E.qn N (rp y)with s:=od (f y).2 (E.qn N (rp y)).s}) (hR.map (fun s j w' act u h=>alG (afV h))) ho S R hL (fun j1 w1 act v e=> ?_);unfold Ap at e;simp only at e;split at e;cases e;simp only[SV.g.injEq]at e;obtain⟨rfl,rfl,rfl,_⟩:=e;exact⟨⟨fun _=>I,fun _=>rfl⟩,q⟩
  |false=>
   simp only[asb,if_false]at n;have I:yielded ops.toArray a.tmps j≠some w':=fun h=>by have:=hb.2 h;cases this
   have B:Region.wanted o (yielded ops.toArray a.tmps)=false:=by
    simp only[Region.wanted,q];simpa using I
   obtain⟨k1,X,k3⟩:=alu (w:=w) (G:=G) (U:=fun u=>U u\/(tk<=u/\u<tk+32)) (v:=vB false) (j:=j) (w':=w');rw[q]at n;unfold wpOp;simp only[asM,ho,B,asb,if_false];refine hK _ _ _ G n (Uh ..) ?_ ?_ ⟨_,rfl⟩;exact e0.put o.dst k1 X.1 X.2.1 X.2.2 (fun t u e=>absurd e (k3 t u));refine hR.put ho S R hL (fun j1 w1 act v e=> ?_);unfold Ap at e;simp only at e;split at e;cases e;simp only[SV.g.injEq]at e;obtain⟨rfl,rfl,rfl,_⟩:=e;exact⟨⟨fun h=>absurd h (by simp),fun h=>absurd h I⟩,q⟩
 rename_i g0 gv b e l m;split at n;rename_i t x y hd b0;cases q:o.guard with
 |some p=>
  rw[q]at D;obtain⟨b',W,_⟩:=abS hI D;cases W
 |none=>
  rw[q]at J;have B:Region.wanted o (yielded ops.toArray a.tmps)=true:=by simp[Region.wanted,q]
  refine PQ ho B ?_;obtain⟨w1,G',h1,h2⟩:=anW hC.toCxTy hI hR.ri (g:=none) (by rintro j w' ⟨⟩) b0 (by simp) J;unfold Oper.wp;rw[h1];refine hK _ _ _ G' n (by simp[Env.aer]) ?_ ?_ ⟨undef,rfl⟩;rw[hd];exact h2.mono fun u hu=> .inl hu;rw[hd]
  have:=hR.map (E':=E.aer (g0::gv) b e l) (fun s j w' act u h=>by
   have hh:=getD_map (L:=E.s) (T:=fun s=>((s.og b).setRow b e l (.row b (b::(g0::gv)) true)).fv (g0::gv) b) rfl s;simp only[Env.aer]at h;rw[hh]at h;obtain⟨v1,h1⟩:=aaD h;obtain⟨v2,h2⟩:=aj6 h1;exact aaD h2)
  intro s j w' act v d;obtain⟨q1,q2,q3⟩:=this s j w' act v d;exact⟨q1,.inl q2,q3⟩
 cases n;exact h0 n
end
def alM:Value->Value->Bool
 | .int k n,.int k' n'=>k==k'&&n==n'
 | .bool b,.bool b'=>b==b'
 | .string a,.string b=>a.size==0&&b.size==0
 | .slice none l c,.slice none l' c'=>l==l'&&c==c'
 |_,_=>false
def UN:List Value->List Value->Bool
 | [],[]=>true
 |a::l,b::m=>alM a b&&UN l m
 |_,_=>false
def al7:Ty->Value->Bool
 | .pair a b,.agg cs=>UN cs.toList (Ty.pair a b).zero
 | .pair _ _,_=>false
 |τ,v=>UN [v] τ.zero
def aoE{a:ByteArray}(h:a.size=0):a=ByteArray.empty:=by
 cases a with
 |mk d=>
  have:d.size=0:=h;have:d= #[]:=asU this;rw[this];rfl
def anB{a b:Value}(h:alM a b=true):a=b:=by
 unfold alM at h;split at h;simp only[k_,beq_iff_eq]at h;rw[h.1,h.2];simp only[beq_iff_eq]at h;rw[h];simp only[k_,beq_iff_eq]at h;rw[aoE h.1,aoE h.2];simp only[k_,beq_iff_eq]at h;rw[h.1,h.2];cases h
theorem Wr:∀ {l m:List Value},UN l m=true->l=m
 | [],[],_=>rfl
 |a::l,b::m,h=>by
  simp only[UN,k_]at h;rw[anB h.1,Wr h.2]
 | [],_::_,h|_::_,[],h=>by simp[UN]at h
def aob{τ:Ty}{v:Value}(h:al7 τ v=true):v=zE τ τ.zero:=by
 cases τ with
 |pair a b=>
  cases v with
  |agg c=>
   have:=Wr (show UN c.toList (Ty.pair a b).zero=true from h);simp only[zE,<-this,ath]
  |_=>simp[al7]at h
 |int k=>have:=Wr (show UN [v] (Ty.int k).zero=true from h);simpa[zE,Ty.zero]using this
 |bool=>have:=Wr (show UN [v] Ty.bool.zero=true from h);simpa[zE,Ty.zero]using this
 |str=>have:=Wr (show UN [v] Ty.str.zero=true from h);simpa[zE,Ty.zero]using this
 |sl e=>have:=Wr (show UN [v] (Ty.sl e).zero=true from h);simpa[zE,Ty.zero]using this
def apR:TypeDesc->Bool
 | .struct _| .array _ _=>true
 |_=>false
def X5(P:Program)(t:TypeId)(τ:Ty):Bool:=
 match P.info? t,P.underlying t with
 |some inf,some d=>inf.size==τ.sz&&(match inf.zero with|some v=>al7 τ v|none=>false)&&decide (inf.bytes<=32768)&&apR d==τ.qH
 |_,_=>false
def XU{P:Program}{t:TypeId}{τ:Ty}(h:X5 P t τ=true):OB P t τ:=by
 unfold X5 at h;split at h;rename_i inf d e f;simp only[k_,beq_iff_eq,b_]at h;obtain⟨⟨⟨k,c⟩,l⟩,h6⟩:=h;refine⟨inf,d,e,k,?_,l,f,?_⟩;split at c;rename_i v j;rw[j,aob c];cases c;rw[<-h6];cases d<;>rfl;cases h
def akf(P:Program)(τ:Ty)(c:List TypeId)(j:Nat)(f:Field):Bool:=
 f.offset==τ.off (nu c.length j)&&c[j]?==some f.type&&(match τ.sub (nu c.length j)with|some σ=>X5 P f.type σ|none=>false)
def anl{P:Program}{τ:Ty}{d:List TypeId}{j:Nat}{f:Field}(h:akf P τ d j f=true):aep P τ d j f:=by
 simp only[akf,k_,beq_iff_eq]at h;obtain⟨⟨k,l⟩,c⟩:=h;refine⟨k,l,?_⟩;split at c;rename_i σ e;exact⟨σ,e,XU c⟩;cases c
def ah7(P:Program)(c:Ty->TypeId->Bool):Ty->List Field->Nat->Bool
 |τ,[f],off=>f.offset==off&&f.name != "_" &&X5 P f.type τ&&c τ f.type
 | .pair a b,f::g::l,off=>f.offset==off&&f.name != "_" &&X5 P f.type a&&c a f.type&&ah7 P c b (g::l) (off+a.sz)
 |_,_,_=>false
def eqN(P:Program):Nat->Ty->TypeId->Bool
 |0,_,_=>false
 |n+1,τ,t=>
  match P.underlying t with
  |some (.int k)=>τ== .int k
  |some .bool=>τ== .bool
  |some .string=>τ== .str
  |some (.struct fs)=>τ.qH&& !P.stoodInHeld t&&ah7 P (eqN P n) τ fs.toList 0
  |_=>false
section
variable{P:Program}
def ZH{w:World}{t:TypeId}{τ:Ty}(h:OB P t τ){cs:Array Value}{off:Nat}(f:off+τ.sz<=cs.size):
 (part t cs off).run P w= .ok (zE τ ((cs.toList.drop off).take τ.sz)) w:=by
 unfold part;rw[Sem.run_bind,XY h,Result.andThen_ok];cases d:τ.qH with
 |true=>
  cases τ with
  |pair a b=>
   simp[Bl h,zE,atj,List.extract];apply ati;simp[atj,List.extract]
  |_=>simp[Ty.qH]at d
 |false=>
  have c:τ.sz=1:=by cases τ<;>first|rfl|simp[Ty.qH]at d
  rw[c]at f;have e:cs[off]?=some cs[off]:=Array.getElem?_eq_getElem (by omega);simp only[asb,if_false,e,Sem.run_pure]
  have:(cs.toList.drop off).take τ.sz=[cs[off]]:=by
   rw[c,List.take_one,as7];simp[e]
  rw[this];cases τ<;>first|rfl|simp[Ty.qH]at d
def ann(a b:ByteArray):(a==b)=(a.toList==b.toList):=by
 rw[asB];simp only[beq_iff_eq,ByteArray.toList_eq];constructor;intro h;have:(a.data==b.data)=true:=h;simp only[beq_iff_eq]at this;rw[this];intro h
 have c:a.data=b.data:=by
  have:=congrArg List.toArray h;simpa using this
 show(a.data==b.data)=true;simp[c]
theorem aiL{w:World}{j:Ty->TypeId->Bool}{d:Nat}
 (c:∀ {τ:Ty} {t:TypeId} {a b:τ.den} {c1 p:List Value},j τ t=true->fl w τ a c1 []->fl w τ b p []->(Op.equalIn d t (zE τ c1) (zE τ p)).run P w= .ok (eqv τ a b) w) {xs ys:Array Value}:
 ∀ {y:List Field} {τ:Ty} {off:Nat} {a b:τ.den},ah7 P j τ y off=true->fl w τ a (xs.toList.drop off) []->fl w τ b (ys.toList.drop off) []->
 ∃r,(Sem.run P (forIn y ((none,()):Option Bool×Unit) fun f __s=>if f.name= "_" then pure (ForInStep.yield (none,()))else do
  let __do_lift<-part f.type xs f.offset
  let __do_lift_1<-part f.type ys f.offset
  let __do_lift<-Op.equalIn d f.type __do_lift __do_lift_1
  if __do_lift=false then pure (ForInStep.done (some false,()))else pure (ForInStep.yield (none,()))) w)= .ok r w/\r=(if eqv τ a b=true then none else some false,())
 | [],τ,_,_,_,h,_,_=>by cases τ<;>simp[ah7]at h
 | [f],τ,off,a,b,h,ha,hb=>by
   have h:(f.offset==off&&f.name != "_" &&X5 P f.type τ&&j τ f.type)=true:=by cases τ<;>exact h
   simp only[k_,beq_iff_eq,bne_iff_ne,ne_eq]at h;obtain⟨⟨⟨q,s⟩,u⟩,v⟩:=h;have k:=XU u;have m:=ha.len;have n:=hb.len;simp only[as5,asA]at m n;have hpos:=τ.UY;have D:(xs.toList.drop off).take τ.sz=xs.toList.drop off:=asp (by simp;omega);have I:(ys.toList.drop off).take τ.sz=ys.toList.drop off:=asp (by simp;omega);simp only[atz,s,if_false,q,Sem.run_bind,ZH k (show off+τ.sz<=xs.size by omega),ZH k (show off+τ.sz<=ys.size by omega),Result.andThen_ok,D,I,c v ha hb];cases eqv τ a b<;>simp
 |f::g::l,τ,off,a,b,h,ha,hb=>by
  cases τ with
  |pair e τ2=>
   simp only[ah7,k_,beq_iff_eq,bne_iff_ne,ne_eq]at h;obtain⟨⟨⟨⟨q,s⟩,u⟩,v⟩,X⟩:=h;have k:=XU u;obtain⟨c1,p,B1,B2,q1,q2,z,Y⟩:=ha;obtain⟨d1,d2,D1,D2,x,p2,B,s2⟩:=hb;obtain⟨rfl,rfl⟩:=ata.1 q2.symm;obtain⟨rfl,rfl⟩:=ata.1 p2.symm;have m:=z.len;have n:=B.len;have J:(xs.toList.drop off).take e.sz=c1:=by rw[q1,<-m,ate]
   have K:(ys.toList.drop off).take e.sz=d1:=by rw[x,<-n,ate]
   have N:xs.toList.drop (off+e.sz)=p:=by rw[<-ass,q1,<-m,atD]
   have R:ys.toList.drop (off+e.sz)=d2:=by rw[<-ass,x,<-n,atD]
   have S:off+e.sz<=xs.size:=by
    have:=congrArg Q' q1;simp only[as5,asA,asc,m]at this;have:=e.UY;omega
   have W:off+e.sz<=ys.size:=by
    have:=congrArg Q' x;simp only[as5,asA,asc,n]at this;have:=e.UY;omega
   obtain⟨r,k1,k2⟩:=aiL c (xs:=xs) (ys:=ys) X (by rw[N];exact Y) (by rw[R];exact s2);rw[atz];simp only[s,if_false,q,Sem.run_bind,ZH k S,ZH k W,Result.andThen_ok,J,K,c v z B,eqv];rcases Bool.eq_false_or_eq_true (eqv e a.1 b.1)with he|he;simp only[he,Bool.true_eq_false,if_false,Sem.run_pure,Result.andThen_ok,atk];exact⟨r,k1,k2⟩;simp[he]
  |_=>simp[ah7]at h
def apU{w:World}:∀(n d:Nat) {τ:Ty} {t:TypeId} {a b:τ.den} {c1 l:List Value},n<=d->eqN P n τ t=true->fl w τ a c1 []->fl w τ b l []->(Op.equalIn d t (zE τ c1) (zE τ l)).run P w= .ok (eqv τ a b) w:=by
 intro n
 induction n with
 |zero=>intro d τ t a b c1 l _ h;simp[eqN]at h
 |succ n v=>
  intro d τ t a b c1 l hd h f j;obtain⟨d,rfl⟩:∃e,d=e+1:=⟨d-1,by omega⟩
  simp only[eqN]at h;split at h;rename_i k c;simp only[beq_iff_eq]at h;subst h;obtain⟨rfl,_⟩:=f;obtain⟨rfl,_⟩:=j;simp[Op.equalIn,run_underlying c,zE,eqv];rename_i c;simp only[beq_iff_eq]at h;subst h;obtain⟨rfl,_⟩:=f;obtain⟨rfl,_⟩:=j;simp[Op.equalIn,run_underlying c,zE,eqv];rename_i c;simp only[beq_iff_eq]at h;subst h;obtain⟨rfl,_⟩:=f;obtain⟨rfl,_⟩:=j;simp[Op.equalIn,run_underlying c,zE,eqv,ann];rename_i fs c;simp only[k_,ar6]at h;obtain⟨⟨m,p⟩,q⟩:=h;cases τ with
  |pair x y=>
   simp only[zE];obtain⟨r,s,u⟩:=aiL (P:=P) (w:=w) (d:=d) (xs:=c1.toArray) (ys:=l.toArray) (fun h f j=>v d (by omega) h f j) q (by simpa using f) (by simpa using j);simp[Op.equalIn,run_underlying c,p];rw[<-Array.forIn_toList,s,u,Result.andThen_ok];cases eqv (x.pair y) a b<;>simp
  |_=>simp[Ty.qH]at m
  cases h
def aoJ{t:TypeId}{τ:Ty}{n:Nat}(k:n<=10000)(l:τ.qH=true)(h:eqN P n τ t=true)(e:P.eqGuardType P.depth t=false):aod P t τ:=by
 intro w op x y a b c1 c2 c f j;have d:=apU n Op.maxDepth k h f j;cases τ with
 |pair τ1 τ2=>
  simp only[zE]at d|-;rcases c with rfl|rfl;simp[eqGuard,e,binOp,Op.equal,d];simp[eqGuard,e,binOp,Op.equal,d]
 |_=>simp[Ty.qH]at l
def tyB(P:Program)(t:TypeId)(i:TI):Bool:=
 X5 P t i.τ&&(match i.τ,P.underlying t with
  | .int k,some (.int k')=>k==k'
  | .bool,some .bool=>true
  | .str,some .string=>true
  | .sl e,some (.slice el)=>el==i.el&&X5 P el e&&(if e== .int .u8 then(match P.underlying el with|some (.int .u8)=>true|_=>false)else true)
  | .pair a b,some (.struct fields)=>fields.size==i.fs.length&&fields.toList.zipIdx.all (fun p=>akf P (.pair a b) i.fs p.2 p.1)&&
   (if(Ty.pair a b).flat then eqN P 20 (.pair a b) t&& !P.eqGuardType P.depth t else true)
  |_,_=>false)&&(i.τ.qH||i.fs.isEmpty)
def ahq{t:TypeId}{i:TI}(h:tyB P t i=true):
 aia P t i/\(i.τ.qH=true->i.τ.flat=true->aod P t i.τ)/\(i.τ.qH=false->i.fs=[])/\(i.τ= .sl (.int .u8)->P.underlying i.el=some (.int .u8)):=by
 obtain⟨τ,fs,el⟩:=i;simp only[tyB,k_,ar7]at h;obtain⟨⟨x,c⟩,p⟩:=h;have n:=XU x;cases τ with
 |int k=>
  cases l:P.underlying t with
  |none=>rw[l]at c;simp at c
  |some d=>
   rw[l]at c;cases d<;>simp at c;subst c;exact⟨⟨n,l⟩,by simp[Ty.qH],by simpa[Ty.qH]using p,by simp⟩
 |bool=>
  cases l:P.underlying t with
  |none=>rw[l]at c;simp at c
  |some d=>
   rw[l]at c;cases d<;>simp at c;exact⟨⟨n,l⟩,by simp[Ty.qH],by simpa[Ty.qH]using p,by simp⟩
 |str=>
  cases l:P.underlying t with
  |none=>rw[l]at c;simp at c
  |some d=>
   rw[l]at c;cases d<;>simp at c;exact⟨⟨n,l⟩,by simp[Ty.qH],by simpa[Ty.qH]using p,by simp⟩
 |sl e=>
  cases l:P.underlying t with
  |none=>rw[l]at c;simp at c
  |some d=>
   rw[l]at c;cases d<;>simp only[k_,beq_iff_eq,asb]at c;obtain⟨⟨rfl,s⟩,m⟩:=c;refine⟨⟨n,l,XU s⟩,by simp[Ty.qH],by simpa[Ty.qH]using p,fun u=> ?_⟩;simp only[Ty.sl.injEq]at u;subst u;simp only[if_true]at m;split at m
   assumption
   cases m
 |pair a b=>
  cases l:P.underlying t with
  |none=>rw[l]at c;simp at c
  |some d=>
   rw[l]at c;cases d with
   |struct fields=>
    simp only[k_,beq_iff_eq]at c;obtain⟨⟨s,m⟩,h6⟩:=c;refine⟨⟨n,fields,l,s,fun j f v=> ?_⟩,fun _ q=> ?_,by simp[Ty.qH],by simp⟩;rw[J9]at m;exact anl (m (f,j) (ast.2 (by simpa using v)));rw[an q]at h6;simp only[k_,ar6]at h6;exact aoJ (by omega) rfl h6.1 h6.2
   |_=>simp at c
theorem Z7{α:Type}:∀ {l:List (Nat×α)} {a:Nat} {b:α},l.lookup a=some b->(a,b)∈l
 | [],_,_,h=>by simp[asJ]at h
 |(x,y)::l,a,b,h=>by
  simp only[asJ]at h;split at h;rename_i e;simp only[beq_iff_eq]at e;simp only[C_]at h;subst e h;simp;exact ar4 _ (Z7 h)
def ao3{C:Cx}{l:List (Nat×TI)}(c:l.all (fun p=>tyB P p.1 p.2)=true)(d:C.tt=fun t=>l.lookup t):CxTy P C:=by
 have:∀t i,C.tt t=some i->tyB P t i=true:=by
  intro t i h;rw[d]at h;exact J9.1 c (t,i) (Z7 h)
 exact⟨fun t i h=>(ahq (this t i h)).1,fun t i h=>(ahq (this t i h)).2.1,fun t i h=>(ahq (this t i h)).2.2.1,fun t i h=>(ahq (this t i h)).2.2.2⟩
end
def adr(d:List (Nat×TI))(c:List (FuncId×Ou))(e h:Nat->Option Ua)(k:Nat):Cx:=
 ⟨fun t=>d.lookup t,fun f=>c.lookup f,e,h,k,0,[]⟩
def aG(P:Program):List (FuncId×Ou)->Prop
 | []=>True
 |p::l=>Qq P p.1 p.2/\aG P l
theorem aG.mem{P:Program}:∀ {l:List (FuncId×Ou)},aG P l->∀p∈l,Qq P p.1 p.2
 | [],_,_,h=>by cases h
 |q::l,⟨h1,h2⟩,p,h=>by
  rcases T_.1 h with rfl|h;exact h1;exact aG.mem h2 p h
def apV{P:Program}{e:List (Nat×TI)}(j:e.all (fun p=>tyB P p.1 p.2)=true)(l:P.follows .mixedOrders=true){c:List (FuncId×Ou)}(hc:aG P c){m n:Nat->Option Ua}{k:Nat}:
 Xq P (adr e c m n k):=
 ⟨ao3 j rfl,fun f d h=>hc.mem (f,d) (Z7 h),l⟩
def fnB(fn:Func)(n:Nat):Bool:=match fn.name== "runtime.NumGoroutine" with|true=>false|false=>decide (n<=fn.ntmps)
def aj9{fn:Func}{n:Nat}(h:fnB fn n=true):(fn.name== "runtime.NumGoroutine")=false/\decide (n<=fn.ntmps)=true:=by
 unfold fnB at h;split at h;cases h;rename_i c;exact⟨c,h⟩
def fu{α β:Type}(x:α)(f:α->β):β:=f x
section
variable{P:Program}{C:Cx}{M:ajA}{w0:World}{c0:C0}{U:Nat->Prop}{E:Env}{a:Act}{w:World}{G:Gh}{ops:List Oper}{L:Nat->Prop}{Q:Exit->Act->World->Prop}{ρ:Type}
def amX(args:List Value)(n i:Nat)(c:i<args.length):(args.toArray++asT (n-args.toArray.size) undef).getD i undef=args.getD i undef:=by
 rw[asv,arW,asZ (by simpa using c)];simp
end
section
variable{ρ:Type}
def ad9(C:Cx)(ops:List Oper)(nt:Nat):List Oper->Nat->Env->(Env->Option ρ)->Option ρ
 | [],_,E,k=>k E
 |o::l,i,E,k=>match untold C o with
  |true=>ad9 C ops nt l (i+1) (E.set o.dst .no) k
  |false=>match guardOf ops E.rd o.guard with
   |none=>none
   |some a=>match S7 C ops E.rd (nt+32*i) o.guard o with
    |none=>none
    |some c=>afo o a E (fun E'=>ad9 C ops nt l (i+1) E' k) c
def Uc(C:Cx):Code->Env->(Env->Option ρ)->List (Nat×(Env->Option ρ))->(Env->Option ρ)->Option ρ
 | .skip,E,kn,_,_=>kn E
 | .region _ ops draw,E,kn,_,_=>match Rh ops.toList&&keeps C.io ops.toList with
   |true=>(match draw with
    |true=>(match ZC ops.toList with
     |some d=>ahV C d ops.size E kn
     |none=>aeq C ops.toList E.nt ops.toList 0 E [] (fun E' L=>match aar ops.toList L with|true=>kn {WX E' ops.toList with nt:=E.nt+32*ops.size}|false=>none))
    |false=>ad9 C ops.toList E.nt ops.toList 0 E (fun E'=>kn {WX E' ops.toList with nt:=E.nt+32*ops.size}))
   |false=>none
 | .seq a b,E,kn,ke,kr=>
   match(Xn b).bind C.ja with
   |none=>Uc C a E (fun E'=>Uc C b E' kn ke kr) ke kr
   |some n=>aN (fun J=>Uc C a E (fun E'=>match proj n E' with|some t=>J t|none=>none) ke kr) (fun t=>Uc C b (R1 C.n n t) kn ke kr)
 | .cond c x y,E,kn,ke,kr=>
   match arg C E.rd none 0 c with
   |some (.d ⟨.bool,b,_⟩)=>if b=true then Uc C x E kn ke kr else Uc C y E kn ke kr
   |_=>none
 | .block id c,E,kn,ke,kr=>Uc C c E kn ((id,kn)::ke) kr
 | .loop c,E,_,ke,kr=>
   match(Xn c).bind C.la with
   |none=>none
   |some n=>match proj n E with
    |some t=>aM C.k (fun G t=>Uc C c (R1 C.n n t) (fun E'=>match proj n E' with|some t=>G t|none=>none) ke kr) t
    |none=>none
 | .exit id,E,_,ke,_=>match ke.lookup id with|some k=>k E|none=>none
 | .ret,E,_,_,kr=>kr E
 |_,_,_,_,_=>none
end
def Yr(C:Cx)(ps:List PK)(rs:List RK)(d:List (Nat×List Bool))(fn:Func)(x:iF (ps.map PK.ty)):Option (iF (rs.map RK.ty++lu ps)):=
 match fn.body with
 |none=>none
 |some c=>
  let e:=ql ps x 4
  Uc {C with n:=fn.ntmps,io:=RB ps 0} c ⟨e.1++atc (fn.ntmps-e.1.length) .no,e.2,true⟩ (fin C.tt ps rs d fn.results.toList e.2) [] (fin C.tt ps rs d fn.results.toList e.2)
section
variable{P:Program}{C:Cx}{w0:World}{c0:C0}{U:Nat->Prop}{E:Env}{a:Act}{w:World}{G:Gh}{ops:List Oper}{L:Nat->Prop}{Q:Exit->Act->World->Prop}{ρ:Type}
theorem adR(hC:Xq P C){io:List Nat}(e:keeps io ops=true)(c:Rh ops=true){nt:Nat}(h3:4<=nt){k:Env->Option ρ}{r:ρ}:∀ {l:List Oper} {i:Nat} {E:Env} {a:Act} {w:World} {G:Gh},ops.drop i=l->i+l.length=ops.length->
 Inv w0 c0 (fun u=>u<nt+32*i) E a w G->UP ops (fun j=>j<i) E a.tmps->ad9 C ops nt l i E k=some r->
 (∀E' p w' G',Inv w0 c0 (fun u=>u<nt+32*ops.length) E' p w' G'->UP ops (fun j=>j<ops.length) E' p.tmps->E'.s.length=E.s.length->(∀i∈io,p.tmps.getD i undef=a.tmps.getD i undef)->k E'=some r->Q .normal p w')->
 wpOps P ops.toArray Q (as9 i l.length) a w
 | [],i,E,a,w,G,hd,hl,hI,hR,h,hK=>by
   have hi:i=ops.length:=by simpa using hl
   subst hi;exact hK E a w G hI hR rfl (fun _ _=>rfl) h
 |o::l,i,E,a,w,G,hd,hl,hI,hR,h,hK=>by
  simp only[asa]at hl|-
  have m:ops[i]?=some o:=by
   have:=congrArg List.head? hd;simpa[as7]using this
  have q:ops.drop (i+1)=l:=by rw[<-ass,hd];rfl
  simp only[ad9]at h;rw[as4,wpOps_cons];split at h;rename_i f;unfold untold at f;split at f;rename_i x hg y;have n:Region.wanted o (yielded ops.toArray a.tmps)=true:=by simp[Region.wanted,hg]
  refine PQ m n ?_
  have j0:(execOp a.eval o).run P w= .ok (.value (a.eval (.const x))) w:=by
   simp only[execOp,y];rfl
  unfold Oper.wp;rw[j0];show wpOps P ops.toArray Q _ _ _;have k0:=(hI.apW o.dst (a.eval (.const x))).mono (U':=fun u=>u<nt+32*(i+1)) (fun u t=>by omega)
  refine adR hC e c h3 (l:=l) (i:=i+1) q (by omega) k0 (fun s j z act v B=>by
   obtain⟨q1,q2,q3⟩:=hR.put m c (by omega) (fun j w' d=>aeJ c m d) (sv:= .no) (mv:=a.eval (.const x)) (by rintro _ _ _ _ ⟨⟩) s j z act v B;exact⟨q1,by rcases q2 with q2|q2<;>omega,q3⟩) h
   (fun D I J K N R S W X=>hK D I J K N R (S.trans (Uh ..)) (fun j d=>(W j d).trans (aei e (asS m) d)) X)
  cases f;split at h;cases h;rename_i act Y;split at h;cases h;rename_i ef b0;refine anT hC m hI hR (fun j w' d=>aeJ c m d) (by omega) c (tk:=nt+32*i) (by omega) (fun u h1 h2 h=>by omega) Y b0 h (fun E' p w' G' hk hlen e0 h0 ⟨v,hav⟩=> ?_)
  refine adR hC e c h3 (l:=l) (i:=i+1) q (by omega) (e0.mono (fun u t=>by rcases t with t|t<;>omega))
   (fun s j z act v B=>by
    obtain⟨q1,q2,q3⟩:=h0 s j z act v B;exact⟨q1,by rcases q2 with q2|q2<;>omega,q3⟩) hk (fun D I J K N R S W X=>hK D I J K N R (S.trans hlen) (fun j d=>(W j d).trans (by rw[hav];exact aei e (asS m) d)) X)
def apA(hC:Xq P C){r:ρ}{T:Nat->Value}:∀(c:Code) {E:Env} {a:Act} {w:World} {G:Gh} {K N:Env->Option ρ} {ke:List (Nat×(Env->Option ρ))} {Q:Exit->Act->World->Prop},
 Inv w0 c0 (fun u=>u<E.nt) E a w G->Y1 E.s->E.s.length=C.n->4<=E.nt->(∀i∈C.io,a.tmps.getD i undef=T i)->Uc C c E K ke N=some r->KOk C w0 c0 T r K (Q .normal)->(∀id k,ke.lookup id=some k->KOk C w0 c0 T r k (Q (.exit id)))->KOk C w0 c0 T r N (Q .ret)->
 c.wp P Q a w:=by
 intro c
 induction c with
 |skip=>intro E a w G K N ke Q f q z B D h J p I;exact wp_skip (J E a w G f q z B D h)
 |region id ops draw=>
  intro E a w G K N ke Q f q z B D h k0 p I;simp only[Uc]at h;split at h;rename_i hc;simp only[k_]at hc;obtain⟨o0,j0⟩:=hc
  have fin:∀E' R w' G',Inv w0 c0 (fun u=>u<E.nt+32*ops.toList.length) E' R w' G'->UP ops.toList (fun j=>j<ops.toList.length) E' R.tmps->E'.s.length=E.s.length->(∀i∈C.io,R.tmps.getD i undef=a.tmps.getD i undef)->
   K {WX E' ops.toList with nt:=E.nt+32*ops.size}=some r->Q .normal R w':=by
   intro E' R w' G' S Y W X g4;obtain⟨k1,k2,k3⟩:=amB S Y;refine k0 {WX E' ops.toList with nt:=E.nt+32*ops.size} R w' G' ?_ k2 (by rw[k3,W,z]) (by show 4<=E.nt+32*ops.size;omega) (fun i hi=>(X i hi).trans (D i hi)) g4;simpa using k1
  split at h;split at h;rename_i d hd
  have J:0<ops.size:=by
   rcases asV ops.size with h0|h0;have:ops= #[]:=asU h0;subst this;simp[ZC]at hd;exact h0
  exact alS hC.toCxTy hC.mixed f q B hd J j0 h (fun E' R w' G' S Y W g4 X g6=>k0 E' R w' G' S Y (W.trans z) g4 (fun i hi=>(X i hi).trans (D i hi)) g6);simp only[agz]at h
  exact amU (ops:=ops.toList) hC.mixed hC j0 o0 B f q (k:=fun E'=>K {WX E' ops.toList with nt:=E.nt+32*ops.size}) (by
   rw[<-h];congr 1;funext E' L;cases aar ops.toList L<;>rfl) fin
  refine wp_region ?_;have:=adR (Q:=Q) hC j0 o0 B (l:=ops.toList) (i:=0) (by simp) (by simp) (by simpa using f) (fun s j w1 act v p=>absurd p (q s j w1 act v)) h fin;rw[aio];simpa using this;cases h
 |seq x y b0 e0=>
  intro E a w G K N ke Q f q z B D h J p I;refine wp_seq ?_;simp only[Uc]at h;split at h;refine b0 (Q:=Exit.then (y.wp P Q) Q) f q z B D h (fun E' R w' G' S Y W g4 gT X=> ?_) p I;exact e0 S Y W g4 gT X J p I;rename_i n _;simp only[aN]at h;refine b0 (Q:=Exit.then (y.wp P Q) Q) f q z B D h (fun E' R w' G' S Y W g4 gT X=> ?_) p I;split at X;rename_i t ht;obtain⟨G2,k1,k2,k3,k4⟩:=aib S W ht;exact e0 k1 k2 k3 k4 gT X J p I;cases X
 |cond c x y b0 e0=>
  intro E a w G K N ke Q f q z B D h J p I;simp only[Uc]at h;split at h;rename_i b sh hb;have hR:RI ([]:List Oper) E a.tmps:=fun s j w1 act v p=>absurd p (q s j w1 act v);obtain⟨⟨cs,h1,h2⟩,_⟩:=KM f hR (g:=none) (by rintro j w' ⟨⟩) hb
  have r0:a.eval c= .bool b:=by
   cases sh with
   |leaf=>rw[h1,show cs=_ from h2];rfl
   |sl m=>exact h2.elim
   |pair a b=>exact h2.elim
  refine wp_cond r0 ?_;split at h;rename_i hb;subst hb;exact b0 f q z B D h J p I;rename_i hb;have:b=false:=by simpa using hb
  subst this;exact e0 f q z B D h J p I;cases h
 |block id c ih=>
  intro E a w G K N ke Q f q z B D h J p I;refine wp_block ?_;simp only[Uc]at h;refine ih (Q:=Exit.inBlock id Q) f q z B D h J (fun i k hk=> ?_) I;rw[aew]at hk;intro E2 a2 w2 G2 S Y W g4 gT X;show Exit.inBlock id Q (.exit i) a2 w2;simp only[Exit.inBlock];split at hk;rename_i e;simp only[C_]at hk;subst hk;simp only[e,if_true];exact J E2 a2 w2 G2 S Y W g4 gT X;rename_i e;simp only[e,if_false];exact p i k hk E2 a2 w2 G2 S Y W g4 gT X
 |loop c ih=>
  intro E a w G K N ke Q f q z B D h J p I;simp only[Uc]at h;split at h;cases h;rename_i n _
  have hq:∃t,proj n E=some t/\aM C.k (fun G t=>Uc C c (R1 C.n n t) (fun E'=>match proj n E' with|some t=>G t|none=>none) ke N) t=some r:=by
   split at h;rename_i t ht;exact⟨t,ht,h⟩;cases h
  obtain⟨t,ht,h⟩:=hq;obtain⟨G2,k1,k2,k3,k4⟩:=aib f z ht;refine wp_loop_rounds C.k ?_
  have key:∀(m:Nat) (t:iF (UL n.ks)) (a:Act) (w:World) (G:Gh),aM m (fun G t=>Uc C c (R1 C.n n t) (fun E'=>match proj n E' with|some t=>G t|none=>none) ke N) t=some r->
   Inv w0 c0 (fun u=>u<(R1 C.n n t).nt) (R1 C.n n t) a w G->Y1 (R1 C.n n t).s->(R1 C.n n t).s.length=C.n->4<=(R1 C.n n t).nt->(∀i∈C.io,a.tmps.getD i undef=T i)->Code.rounds P c Q m a w:=by
   intro m
   induction m with
   |zero=>intro t a w G h;simp[aM]at h
   |succ m s0=>
    intro t a w G h S Y W g4 gT;rw[rounds_succ];simp only[aM]at h;refine ih (Q:=Exit.then (Code.rounds P c Q m) Q) S Y W g4 gT h (fun E' R w' G' q1 q2 q3 q4 qT q5=> ?_) p I;split at q5;rename_i t' p0;obtain⟨G3,p1,p2,p3,p4⟩:=aib q1 q3 p0;exact s0 t' R w' G3 q5 p1 p2 p3 p4 qT;cases q5
  exact key C.k t a w G2 h k1 k2 k3 k4 D
 |exit id=>
  intro E a w G K N ke Q f q z B D h J p I;simp only[Uc]at h;split at h;rename_i k hk;exact wp_exit (p id k hk E a w G f q z B D h);cases h
 |ret=>intro E a w G K N ke Q f q z B D h J p I;exact wp_ret (I E a w G f q z B D h)
 |_=>intro E a w G K N ke Q f q z B D h J p I;simp[Uc]at h
def apz(p:Xq P C){f:FuncId}{fn:Func}{d:Ou}(S:P.funcs[f]?=some fn)(q:(fn.name== "runtime.NumGoroutine")=false)(hn:d.ps.length<=fn.ntmps)
 (hF:∀x y,d.F x=some y->Yr C d.ps d.rs d.kp fn x=some y):Qq P f d:=by
 intro w u args x y X e;have l:=hF x y X;unfold Yr at l;split at l;cases l;rename_i c J
 have t:(callFunc f args.toArray).run P w= .ok (.enter f args.toArray) w:=by
  have D:fn.name≠ "runtime.NumGoroutine" :=by simpa using q
  unfold callFunc;simp[S,D,J]
 unfold aiB;rw[t];simp only;refine calls_of_wp S J ?_;have hal:args.length=d.ps.length:=by rw[e.len,Wl]
 have hE:=aom e fn.ntmps;have Zy:=Nl d.ps 4
 have m:KOk {C with n:=fn.ntmps,io:=RB d.ps 0} w (u.beg (qa d.ps 4)) (fun i=>args.getD i undef) y (fin C.tt d.ps d.rs d.kp fn.results.toList (ql d.ps x 4).2) (fun z w'=>
  z.defers=[]/\∃v,(results fn z.tmps).run P w'= .ok v w'/\∃K,Ending.returned v=Ending.returned K/\∃G' B nt,Z1 d w u args y K w' G' B nt):=by
  intro E' z w' G' N g2 g3 g4 Y R;rw[Xo]at R;obtain⟨W,G2,B,nt,k1,k2⟩:=apt p.toCxTy (args:=args) e N R Y;exact⟨N.defers,W,k1,W,rfl,G2,B,nt,k2⟩
 have I:Xq P {C with n:=fn.ntmps,io:=RB d.ps 0}:=⟨⟨p.tt,p.eq,p.fs,p.u8⟩,p.ct,p.mixed⟩
 refine apA (T:=fun i=>args.getD i undef) I c (w0:=w) (c0:=u.beg (qa d.ps 4)) (G:=u) (r:=y) (by rw[Xo];simpa[Xo]using hE) (fun s j w1 act v h=> ?_) ?_ ?_ (fun i hi=> ?_) l m (fun id k hk=>by simp[asJ]at hk) m;rw[Uf]at h;exact anN _ _ _ _ _ h;simp only[asc,List.length_replicate,Wl];omega;rw[Xo];exact Zy;have:=ae1 i hi;exact amX args fn.ntmps i (by omega)
def amT{e:List (Nat×TI)}(l:e.all (fun p=>tyB P p.1 p.2)=true)(m:P.follows .mixedOrders=true){d:List (FuncId×Ou)}(hc:aG P d){n q:Nat->Option Ua}{k:Nat}
 {f:FuncId} {fn:Func} (s:P.funcs[f]?=some fn) (c:(fn.name== "runtime.NumGoroutine")=false) {ps:List PK} {rs:List RK} {j:List (Nat×List Bool)} (t:decide (ps.length<=fn.ntmps)=true)
 {F:iF (ps.map PK.ty)->Option (iF (rs.map RK.ty++lu ps))} (u:∀x,Yr (adr e d n q k) ps rs j fn x=F x):Qq P f ⟨ps,rs,F,j⟩:=
 apz (apV l m hc) s c (e_ t) (fun x _ h=>(u x).trans h)
theorem aG.Uc{e:List (Nat×TI)}(q:e.all (fun p=>tyB P p.1 p.2)=true)(u:P.follows .mixedOrders=true){c:List (FuncId×Ou)}(hc:aG P c)(v y:Nat->Option Ua)(k:Nat)
 {f:FuncId} {fn:Func} (z:P.funcs[f]?=some fn) {ps:List PK} (h:fnB fn ps.length=true) {rs:List RK} {l:List (Nat×List Bool)}
 {F:iF (ps.map PK.ty)->Option (iF (rs.map RK.ty++lu ps))} (B:∀x,Yr (adr e c v y k) ps rs l fn x=F x):aG P ((f,⟨ps,rs,F,l⟩)::c):=
 ⟨amT q u hc z (aj9 h).1 (aj9 h).2 B,hc⟩
end
def wrap64{n:Int}(h: -9223372036854775808<=n)(h':n<9223372036854775808):IntKind.i64.wrap n=n:=by
 simp only[atE,atC,atF];simp;omega
theorem qS{σ ρ:Type}{f:(σ->Option ρ)->σ->Option ρ}(g:σ->Option ρ)(m:σ->Nat)(I:σ->Prop)
 (h:∀G s,I s->(∀c,I c->m c<m s->G c=g c)->f G s=g s):∀(k:Nat) (s:σ),I s->m s<k->aM k f s=g s
 |0,_,_,hm=>by omega
 |k+1,s,hi,hm=>by
  show f (aM k f) s=g s;exact h _ s hi (fun c d hm'=>qS g m I h k c d (by omega))
theorem Xy{σ d ρ e:Type}{f:(σ->Option ρ)->σ->Option ρ}{j:(d->Option e)->d->Option e}(R:σ->d->Prop)(S:Option ρ->Option e->Prop)(l:S none none)
 (h:∀G G' s c,R s c->(∀t t',R t t'->S (G t) (G' t'))->S (f G s) (j G' c)):∀(k:Nat) (s:σ) (c:d),R s c->S (aM k f s) (aM k j c)
 |0,_,_,_=>l
 |k+1,s,c,hr=>h _ _ s c hr (fun t t' m=>Xy R S l h k t t' m)
theorem UR{σ ρ:Type}{f:(σ->Option ρ)->σ->Option ρ}(m:σ->Nat)(I:σ->Prop)(P:ρ->Prop)
 (h:∀G s,I s->(∀c,I c->m c<m s->∃r,G c=some r/\P r)->∃r,f G s=some r/\P r):∀(k:Nat) (s:σ),I s->m s<k->∃r,aM k f s=some r/\P r
 |0,_,_,hm=>by omega
 |k+1,s,hi,hm=>h _ s hi (fun c d hm'=>UR m I P h k c d (by omega))
def af:(τ:Ty)->τ.den->Nat
 | .int _,_=>0
 | .bool,_=>0
 | .str,s=>s.size
 | .sl e,l=>l.length+(l.map (af e)).sum
 | .pair a b,p=>af a p.1+af b p.2
def cT{α:Type}{l:List α}{i:Nat}{d:α}(h:i<l.length):l.getD i d∈l:=by
 rw[arW,arZ h];simp
def gz{α:Type}{l:List α}{i:Nat}{d:α}(h:i<l.length):l.drop i=l.getD i d::l.drop (i+1):=by
 rw[List.drop_eq_getElem_cons h,arW,arZ h];rfl
def eqS{α:Type}(k:Nat)(d:α)(S:α×α×Unit->Option (Bool×Unit))(x:List α×List α×Unit):Option (Bool×Unit):=
 if((((Q' x.1:Nat):Int):Int) != ((Q' x.2.1:Nat):Int))=true then
  some (false,())
 else
  aM k (fun e (c:List α×List α×Int×Unit)=>
   if(decide ((c.2.2.1:Int)<((Q' c.1:Nat):Int)))=true then
    if(decide (0<=c.2.2.1/\c.2.2.1<((Q' c.1:Nat):Int)))=true then
     if(decide (0<=c.2.2.1/\c.2.2.1<((Q' c.2.1:Nat):Int)))=true then
      atb (S (asX c.1 (asY c.2.2.1) d,asX c.2.1 (asY c.2.2.1) d,())) fun(r3:Bool×Unit)=>
      if(!r3.1)=true then
       some (false,())
      else
       e (c.1,c.2.1,IntKind.i64.wrap (c.2.2.1+1),())
     else
      none
    else
     none
   else
    some (true,())) (x.1,x.2.1,0,())
def allEq{α:Type}(p:α->α->Bool):List α->List α->Bool
 | [],[]=>true
 |a::l,b::m=>p a b&&allEq p l m
 |_,_=>false
theorem ad1{α:Type}{p:α->α->Bool}:∀ {l m:List α},l.length≠m.length->allEq p l m=false
 | [],[],h=>absurd rfl h
 |a::l,b::m,h=>by
  simp only[allEq];rw[ad1 (l:=l) (m:=m) (fun e=>h (by simp[e]))];simp
 | [],_::_,_|_::_,[],_=>rfl
def aah{α:Type}{k:Nat}{d:α}{S:α×α×Unit->Option (Bool×Unit)}{p:α->α->Bool}{l m:List α}(hk:9223372036854775808<=k)(hl:l.length<=281474976710656)(h:∀a∈l,∀b∈m,S (a,b,())=some (p a b,())):
 eqS k d S (l,m,())=some (allEq p l m,()):=by
 unfold eqS;simp only;by_cases hlen:l.length=m.length;rw[a_ (by simp[hlen])]
 rw[qS (g:=fun(s:List α×List α×Int×Unit)=>some (allEq p (l.drop s.2.2.1.toNat) (m.drop s.2.2.1.toNat),())) (m:=fun(s:List α×List α×Int×Unit)=>l.length-s.2.2.1.toNat)
  (I:=fun(s:List α×List α×Int×Unit)=>s.1=l/\s.2.1=m/\0<=s.2.2.1/\s.2.2.1<=(l.length:Int))]
 simp;rintro G ⟨l',m',i,u⟩ ⟨e1,e2,hi0,hi1⟩ hG;change l'=l at e1;change m'=m at e2;subst e1 e2;simp only at hi0 hi1 hG|-;by_cases c:i<(l'.length:Int);have e:i.toNat<l'.length:=by omega
 have f:i.toNat<m'.length:=by omega
 rw[an (by simpa using c),an (by simpa using⟨hi0,c⟩),an (by simpa using⟨hi0,by omega⟩)];rw[h _ (cT e) _ (cT f),asw,gz (d:=d) e,gz (d:=d) f];simp only[allEq];cases p (l'.getD i.toNat d) (m'.getD i.toNat d)with
 |true=>
  rw[a_ (by simp),wrap64 (by omega) (by omega),hG (l',m',i+1,()) ⟨rfl,rfl,by simp only;omega,by simp only;omega⟩ (by simp only;omega)];simp only[atk];rw[show(i+1).toNat=i.toNat+1 by omega]
 |false=>rfl
 rw[a_ (by simpa using c),asq (by omega),asq (by omega)];rfl;exact⟨rfl,rfl,by simp,by simp⟩;simp only;omega;rw[an (by simp;omega),ad1 hlen]
def eqR{α:Type}(k:Nat)(d:α)(S:α×α×Unit->Option (Bool×Unit))(x:List α×List α×Unit):Option (Bool×Unit):=
 if((((Q' x.1:Nat):Int):Int) != ((Q' x.2.1:Nat):Int))=true then
  some (false,())
 else
  aM k (fun e (c:List α×List α×Int×Int×Unit)=>
   if(decide ((c.2.2.2.1:Int)<c.2.2.1))=true then
    if(decide (0<=c.2.2.2.1/\c.2.2.2.1<((Q' c.1:Nat):Int)))=true then
     if(decide (0<=c.2.2.2.1/\c.2.2.2.1<((Q' c.2.1:Nat):Int)))=true then
      atb (S (asX c.1 (asY c.2.2.2.1) d,asX c.2.1 (asY c.2.2.2.1) d,())) fun(r3:Bool×Unit)=>
      if(!r3.1)=true then
       some (false,())
      else
       e (c.1,c.2.1,c.2.2.1,IntKind.i64.wrap (c.2.2.2.1+1),())
     else
      none
    else
     none
   else
    some (true,())) (x.1,x.2.1,((Q' x.1:Nat):Int),0,())
def Uk{α:Type}{k:Nat}{d:α}{S:α×α×Unit->Option (Bool×Unit)}{p:α->α->Bool}{l m:List α}(hk:9223372036854775808<=k)(hl:l.length<=281474976710656)(h:∀a∈l,∀b∈m,S (a,b,())=some (p a b,())):
 eqR k d S (l,m,())=some (allEq p l m,()):=by
 unfold eqR;simp only;by_cases hlen:l.length=m.length;rw[a_ (by simp[hlen])]
 rw[qS (g:=fun(s:List α×List α×Int×Int×Unit)=>some (allEq p (l.drop s.2.2.2.1.toNat) (m.drop s.2.2.2.1.toNat),())) (m:=fun(s:List α×List α×Int×Int×Unit)=>l.length-s.2.2.2.1.toNat)
  (I:=fun(s:List α×List α×Int×Int×Unit)=>s.1=l/\s.2.1=m/\s.2.2.1=(l.length:Int)/\0<=s.2.2.2.1/\s.2.2.2.1<=(l.length:Int))]
 simp;rintro G ⟨l',m',n,i,u⟩ ⟨e1,e2,e3,hi0,hi1⟩ hG;change l'=l at e1;change m'=m at e2;change n=_ at e3;subst e1 e2 e3;simp only at hi0 hi1 hG|-;by_cases c:i<(l'.length:Int);have e:i.toNat<l'.length:=by omega
 have f:i.toNat<m'.length:=by omega
 rw[an (by simpa using c),an (by simpa using⟨hi0,c⟩),an (by simpa using⟨hi0,by omega⟩)];rw[h _ (cT e) _ (cT f),asw,gz (d:=d) e,gz (d:=d) f];simp only[allEq];cases p (l'.getD i.toNat d) (m'.getD i.toNat d)with
 |true=>
  rw[a_ (by simp),wrap64 (by omega) (by omega),hG (l',m',_,i+1,()) ⟨rfl,rfl,rfl,by simp only;omega,by simp only;omega⟩ (by simp only;omega)];simp only[atk];rw[show(i+1).toNat=i.toNat+1 by omega]
 |false=>rfl
 rw[a_ (by simpa using c),asq (by omega),asq (by omega)];rfl;exact⟨rfl,rfl,rfl,by simp,by simp⟩;simp only;omega;rw[an (by simp;omega),ad1 hlen]
def bZ{α:Type}{c:Prop}[Decidable c](a b:α):(if c then some a else some b)=some (if c then a else b):=by split<;>rfl
def toList_inj{a b:ByteArray}(h:a.toList=b.toList):a=b:=by
 rw[ByteArray.toList_eq,ByteArray.toList_eq]at h;cases a;cases b;simp at h;rw[h]
theorem yc:∀ {τ:Ty} {a b:τ.den},τ.flat=true->(eqv τ a b=true↔a=b)
 | .int _,a,b,_=>by simp[eqv]
 | .bool,a,b,_=>by simp[eqv]
 | .str,a,b,_=>by
   simp only[eqv,beq_iff_eq];exact⟨toList_inj,fun h=>by rw[h]⟩
 | .pair x y,a,b,h=>by
   simp only[Ty.flat,k_]at h;simp only[eqv,k_,yc h.1,yc h.2];exact⟨fun h=>Prod.ext h.1 h.2,fun h=>by rw[h];exact⟨rfl,rfl⟩⟩
 | .sl _,_,_,h=>by simp[Ty.flat]at h
theorem YG{α:Type}{f:α->Nat}:∀ {l:List α} {x:α},x∈l->f x<=(l.map f).sum
 |y::l,x,h=>by
  simp only[asm,as0];rcases T_.1 h with rfl|h;omega;have:=YG (f:=f) h;omega
def cI{e:Ty}{l:List e.den}{x:e.den}(c:x∈l):af e x<=af (.sl e) l:=by
 simp only[af];have:=YG (f:=af e) c;omega
def ay{e:Ty}{l:List e.den}:l.length<=af (.sl e) l:=by simp only[af];omega
def bA(a n:Nat)(p:Nat->Bool):Bool:=(as9 a (n-a)).all p
def ck{a n:Nat}{p:Nat->Bool}:bA a n p=true↔∀i,a<=i->i<n->p i=true:=by
 simp only[bA,J9,atq];constructor;intro h i c h2;exact h i ⟨c,by omega⟩;intro h i d;exact h i d.1 (by omega)
def Wu{a n:Nat}{p:Nat->Bool}(h:a<n):bA a n p=(p a&&bA (a+1) n p):=by
 unfold bA;rw[show n-a=(n-(a+1))+1 by omega,as4];rfl
def lX{a n:Nat}{p:Nat->Bool}(h:n<=a):bA a n p=true:=by
 unfold bA;rw[show n-a=0 by omega];rfl
def jH{a n:Nat}{p q:Nat->Bool}:bA a n (fun i=>p i&&q i)=(bA a n p&&bA a n q):=by
 rw[asB,k_,ck,ck,ck];simp only[k_];exact⟨fun H=>⟨fun i c d=>(H i c d).1,fun i c d=>(H i c d).2⟩,fun H i c d=>⟨H.1 i c d,H.2 i c d⟩⟩
def Ul{n m:Nat}:bA 0 n (fun i=>decide (i<m))=decide (n<=m):=by
 rw[asB,ck];simp only[b_];constructor;intro h;rcases asE m n with c|c;have:=h m (by omega) c;omega;exact c;intro h i _ h2;omega
theorem cr{σ ρ:Type}{f:(σ->Option ρ)->σ->Option ρ}(st:Nat->σ)(p:Nat->Bool)(n:Nat){e no:Option ρ}
 (c:∀G i,i<n->f G (st i)=if p i=true then G (st (i+1))else no) (d:∀G i,n<=i->f G (st i)=e):
 ∀(k a:Nat),n-a<k->aM k f (st a)=if bA a n p=true then e else no
 |0,_,h=>by omega
 |k+1,a,h=>by
  show f (aM k f) (st a)=_;by_cases j:a<n;rw[c _ a j,Wu j,cr st p n c d k (a+1) (by omega)];cases p a<;>simp;rw[d _ a (by omega),lX (by omega),an rfl]
def SJ{σ ρ:Type}{f:(σ->Option ρ)->σ->Option ρ}(st:Nat->σ)(p:Nat->Bool)(n:Nat){e yes:Option ρ}
 (c:∀G i,i<n->f G (st i)=if p i=true then yes else G (st (i+1))) (d:∀G i,n<=i->f G (st i)=e) (k a:Nat) (j:n-a<k):
 aM k f (st a)=if bA a n (fun i=> !p i)=true then e else yes:=
 cr st (fun i=> !p i) n (fun G i h=>by rw[c G i h];cases p i<;>rfl) d k a j
theorem bG{σ ρ:Type}{f:(σ->Option ρ)->σ->Option ρ}(st:Nat->σ)(n:Nat){e:Option ρ}(c:∀G i,i<n->f G (st i)=G (st (i+1)))(d:∀G,f G (st n)=e):
 ∀(k a:Nat),a<=n->n-a<k->aM k f (st a)=e
 |0,_,_,h=>by omega
 |k+1,a,ha,h=>by
  show f (aM k f) (st a)=_;by_cases j:a=n;subst j;exact d _;rw[c _ a (by omega),bG st n c d k (a+1) (by omega) (by omega)]
def aV{i:Nat}(h:i<4611686018427387904):IntKind.i64.wrap ((i:Int)+1)=((i+1:Nat):Int):=by
 rw[wrap64 (by omega) (by omega)];rfl
def tR{i:Nat}(h:i<4611686018427387904):IntKind.i64.wrap ((i:Int)-1)=(i:Int)-1:=wrap64 (by omega) (by omega)
def aA{i n:Nat}(h:i<n):(decide ((0:Int)<=(i:Int)/\(i:Int)<(n:Int)))=true:=by simp;omega
def aH{i n:Nat}:(decide ((i:Int)<(n:Int)))=decide (i<n):=by simp
end Vg
namespace Vg
open Go Go.RowKit
theorem ajR{w:World}:∀ {l:List ByteArray} {cs:List Value} {B:List Nat},fN (fl w .str) l cs B->cs=l.map Value.string
 | [],_,_,h=>h.1
 |x::l,cs,B,h=>by
  obtain⟨c1,c2,B1,B2,rfl,_,c,d⟩:=h;rw[c.1,ajR d];rfl
def apJ{l:List ByteArray}{j:Nat}{x:ByteArray}(h:l[j]?=some x):(l.map Value.string)[j]?=some (.string x):=by rw[ato,h];rfl
def ami{ps:List PK}{τ:Ty}{F:iF (ps.map PK.ty)->Option (iF ([RK.val τ .leaf].map RK.ty++lu ps))}{w w':World}{f:Gh}{args:List Value}{nt:Nat}{L:List SV}(c:Lot w f L args nt)
 (j:∀x:iF (lu ps),vC [2,1] ps x (Gf ps 0 4)=fun _=>[]) {y:iF ([RK.val τ .leaf].map RK.ty++lu ps)} {mv:Value} (e:Below w.heap.size w w')
 (k:rn w' f (.d ⟨τ,y.1,.leaf⟩) mv):Z1 ⟨ps,[.val τ .leaf],F,[]⟩ w f args y mv w' f [mv] nt where
 val:=rfl
 len:=rfl
 res i:=by
  cases i with
  |zero=>exact k
  |succ i=>
   have:(jh [RK.val τ .leaf] (lu ps) y (qa ps 4) [2,1]).1.getD (i+1) .no= .no:=by
    show([SV.d ⟨τ,y.1,Sh.leaf⟩]).getD (i+1) .no= .no;rfl
   rw[this];trivial
 ios t i v h:=by rw[j]at h;cases h
 frame b hbs _:=⟨rfl,e.block b hbs⟩
 one b h:=⟨(c.colU b (by omega)).2,rfl⟩
 size:=e.size
 os:=e.os
 tape:=e.tape
 output:=e.output
 lt b h:=Nat.lt_of_lt_of_le (c.colU b h).2 e.size
 fresh b h:=by rw[e.block b (c.colU b (by omega)).2];exact c.fresh b h
 kept q hq:=by cases hq
def agq{P:Program}{f:FuncId}{fn:Func}(l:P.funcs[f]?=some fn)(d:(fn.name== "runtime.NumGoroutine")=false)(m:fn.body.isSome=true){w:World}{args:Array Value}{R:Value->World->Prop}
 (h:Calls P f args w (fun e w'=>∃v,e= .returned v/\R v w')):aiB P f args w R:=by
 obtain⟨c,hc⟩:=asg.1 m
 have j:(callFunc f args).run P w= .ok (.enter f args) w:=by
  have k:fn.name≠ "runtime.NumGoroutine" :=by simpa using d
  unfold callFunc;simp[l,k,hc]
 unfold aiB;rw[j];exact h
def CV(l:List ByteArray)(sep:ByteArray):List UInt8:=Lib.join (l.map (·.data.toList)) sep.data.toList
def Tw(x:List ByteArray×ByteArray×Unit):Option (ByteArray×Unit):=
 if x.1.length<=140737488355328/\(CV x.1 x.2.1).length<=140737488355328 then some (⟨(CV x.1 x.2.1).toArray⟩,())else none
def WM{P:Program}{f:FuncId}{fn:Func}(hf:P.funcs[f]?=some fn)(k:(fn.name== "runtime.NumGoroutine")=false)(hb:fn.body.isSome=true)
 (h0:∀(a:Option Addr) (c:Nat) (sep:ByteArray) (w:World),Calls P f #[.slice a 0 c,.string sep] w fun e w'=>e= .returned (.string ⟨#[]⟩)/\w'=w)
 (h1:∀(K o c:Nat) (xs:List ByteArray) (sep:ByteArray) (w:World),(∀(j:Nat) x,xs[j]?=some x->w.cell? ⟨K,o+j,none⟩=some (.string x))->K<w.heap.size->xs.length<=140737488355328->xs.length<=c->
  (Lib.join (xs.map (·.data.toList)) sep.data.toList).length<=140737488355328->
  Calls P f #[.slice (some ⟨K,o,none⟩) xs.length c,.string sep] w fun e w'=>e= .returned (.string ⟨(Lib.join (xs.map (·.data.toList)) sep.data.toList).toArray⟩)/\Below w.heap.size w w'):
 Qq P f ⟨[.val (.sl .str) .shr,.val .str .leaf],[.val .str .leaf],Tw,[]⟩:=by
 intro w D args x y m h;obtain⟨l,sep,u⟩:=x;have hlen:args.length=2:=h.len
 obtain⟨p,I,rfl⟩:∃p I,args=[p,I]:=by
  match args,hlen with
  | [a,b],_=>exact⟨a,b,rfl⟩
 have s0:rn w D (.d ⟨.sl .str,l,.sl (.sha [1])⟩) p:=h.slots 0;have s1:rn w D (.d ⟨.str,sep,.leaf⟩) I:=h.slots 1;obtain⟨b0,e1,q1⟩:=s1;have N:b0=[.string sep]:=q1;subst N;have R:I= .string sep:=e1;subst R;obtain⟨cs0,e0,v,rfl,q⟩:=s0;have S:p=v:=e0;subst S;have m:Tw (l,sep,u)=some y:=m;unfold Tw at m;split at m;rename_i hc;have W:=atw m;subst W;refine agq hf k hb ?_;obtain⟨⟨B,s,_⟩,_⟩:=q
 have fin:∀w',Below w.heap.size w w'->∃G' vs nt,Z1 ⟨[.val (.sl .str) .shr,.val .str .leaf],[.val .str .leaf],Tw,[]⟩ w D [p,.string sep] (⟨(CV l sep).toArray⟩,()) (.string ⟨(CV l sep).toArray⟩) w' G' vs nt:=
  fun w' J=>⟨D,_,_,ami (ps:=[.val (.sl .str) .shr,.val .str .leaf]) (τ:= .str) (F:=Tw) (y:=(⟨(CV l sep).toArray⟩,())) h (fun _=>by funext n;rfl) J ⟨[.string ⟨(CV l sep).toArray⟩],rfl,rfl⟩⟩
 rcases s with⟨⟨ao,rfl⟩,rfl,_⟩|⟨b,off,cap,c,el,fz,Bs,rfl,t,z,hsz,_,hl⟩;refine(h0 ao 0 sep w).mono fun e w' ⟨he,hw⟩=>⟨_,he,?_⟩
 subst hw;exact fin _ (Below.refl _ _);have X:=ajR hl;refine(h1 b off cap l sep w (fun j x hj=> ?_) (lt_of_block z) hc.1 t hc.2).mono fun e w' ⟨he,hw⟩=>⟨_,he,fin _ hw⟩
 unfold World.cell?;simp only[z,atn,asb,if_false];have Y:j<l.length:=(ar8.1 hj).1;have h2:=apJ (l:=l) hj;rw[<-X]at h2;simp only[aso,asG,Ty.sz,Nat.mul_one,Y,if_true,asO]at h2;exact h2;cases m
end Vg
namespace Vg
open Go
def cj(a b:Int):(a==b)=decide (a=b):=rfl
def fq(a b:Int):(a != b)= !decide (a=b):=rfl
def Ws:(true==false)=false:=rfl
def Wq:(false==true)=false:=rfl
def jU{α:Type}{l:List α}{i:Nat}(d:α)(h:i<l.length):l.take (i+1)=l.take i++[l.getD i d]:=by
 rw[List.take_succ_eq_append_getElem h,arW,arZ h];rfl
def filter_one{α:Type}(p:α->Bool)(a:α):[a].filter p=if p a=true then [a]else []:=by
 cases h:p a<;>simp[List.filter,h]
def map_take{α β:Type}{f:α->β}{l:List α}{i:Nat}(d:α)(h:i<l.length):(l.take (i+1)).map f=(l.take i).map f++[f (l.getD i d)]:=by
 rw[jU d h,asC];rfl
def cpS{α β:Type}(k:Nat)(d:α)(S:α×Unit->Option (β×Unit))(x:List α×Unit):Option (List β×Unit):=
 aM k (fun f (c:List α×List β×Int×Unit)=>
  if(decide ((c.2.2.1:Int)<((Q' c.1:Nat):Int)))=true then
   if(decide (0<=c.2.2.1/\c.2.2.1<((Q' c.1:Nat):Int)))=true then
    atb (S (asX c.1 (asY c.2.2.1) d,())) fun(e:β×Unit)=>
    if(decide (Q' c.2.1+Q' ([e.1]:List β)<4294967296))=true then
     f (c.1,c.2.1++([e.1]:List β),IntKind.i64.wrap (c.2.2.1+(1:Int)),())
    else
     none
   else
    none
  else
   some (c.2.1,())) (x.1,([]:List β),(0:Int),())
def apM{α β:Type}{k:Nat}{d:α}{S:α×Unit->Option (β×Unit)}(f:α->β){l:List α}(hk:9223372036854775808<=k)(hl:l.length<=1073741824)(h:∀e∈l,S (e,())=some (f e,())):cpS k d S (l,())=some (l.map f,()):=by
 unfold cpS;refine bG (fun i=>(l,(l.take i).map f,(i:Int),())) l.length (fun G i c=> ?_) (fun G=> ?_) k 0 (by omega) (by omega);simp only[aH,aA c,c,decide_true,if_true,asH];rw[h _ (cT c),asw,an (by simp;omega),aV (by omega),map_take d c];simp
def cpR{α β:Type}(k:Nat)(d:α)(S:α×Unit->Option (β×Unit))(x:List α×Unit):Option (List β×Unit):=
 aM k (fun f (c:List β×List α×Int×Int×Unit)=>
  if(decide ((c.2.2.2.1:Int)<c.2.2.1))=true then
   if(decide (0<=c.2.2.2.1/\c.2.2.2.1<((Q' c.2.1:Nat):Int)))=true then
    atb (S (asX c.2.1 (asY c.2.2.2.1) d,())) fun(e:β×Unit)=>
    if(decide (Q' c.1+Q' ([e.1]:List β)<4294967296))=true then
     f (c.1++([e.1]:List β),c.2.1,c.2.2.1,IntKind.i64.wrap (c.2.2.2.1+(1:Int)),())
    else
     none
   else
    none
  else
   some (c.1,())) (([]:List β),x.1,((Q' x.1:Nat):Int),(0:Int),())
def apO{α β:Type}{k:Nat}{d:α}{S:α×Unit->Option (β×Unit)}(f:α->β){l:List α}(hk:9223372036854775808<=k)(hl:l.length<=1073741824)(h:∀e∈l,S (e,())=some (f e,())):cpR k d S (l,())=some (l.map f,()):=by
 unfold cpR;refine bG (fun i=>((l.take i).map f,l,(l.length:Int),(i:Int),())) l.length (fun G i c=> ?_) (fun G=> ?_) k 0 (by omega) (by omega);simp only[aH,aA c,c,decide_true,if_true,asH];rw[h _ (cT c),asw,an (by simp;omega),aV (by omega),map_take d c];simp
def EA{α:Type}{k:Nat}{d:α}{S:α×Unit->Option (α×Unit)}{l:List α}(c:9223372036854775808<=k)(f:l.length<=1073741824)(h:∀e∈l,S (e,())=some (e,())):cpS k d S (l,())=some (l,()):=by
 have:=apM (d:=d) (fun e=>e) c f h;rwa [List.map_id']at this
def Pw{α:Type}{k:Nat}{d:α}{S:α×Unit->Option (α×Unit)}{l:List α}(c:9223372036854775808<=k)(f:l.length<=1073741824)(h:∀e∈l,S (e,())=some (e,())):cpR k d S (l,())=some (l,()):=by
 have:=apO (d:=d) (fun e=>e) c f h;rwa [List.map_id']at this
theorem vn{e:Ty}(p:e.den->Bool):∀(l:List e.den),af (.sl e) (l.filter p)<=af (.sl e) l
 | []=>asd _
 |x::l=>by
  have:=vn p l;by_cases h:p x=true;rw[List.filter_cons_of_pos h];simp only[af,asa,asm,as0]at this|-;omega;rw[List.filter_cons_of_neg h];simp only[af,asa,asm,as0]at this|-;omega
def dP{e:Ty}(l m:List e.den):af (.sl e) (l++m)=af (.sl e) l+af (.sl e) m:=by
 simp only[af,asc,asC,List.sum_append];omega
def bS{e:Ty}(x:e.den)(l:List e.den):af (.sl e) (x::l)=1+af e x+af (.sl e) l:=by
 simp only[af,asa,asm,as0];omega
def aX{e:Ty}:af (.sl e) ([]:List e.den)=0:=by simp[af]
theorem ij{e:Ty}:∀(l:List e.den) (i:Nat) (x:e.den),i<l.length->af (.sl e) (l.set i x)+af e (l.getD i e.aa)=af (.sl e) l+af e x
 | [],i,x,h=>by simp at h
 |y::l,0,x,h=>by rw[List.set_cons_zero,bS,bS];simp;omega
 |y::l,i+1,x,h=>by
  have:=ij l i x (by simpa using h);rw[List.set_cons_succ,bS,bS,arY];omega
def cN{e:Ty}(l:List e.den)(i:Nat):af (.sl e) (l.take i)+af (.sl e) (l.drop i)=af (.sl e) l:=by
 rw[<-dP,atd]
def gO(n:Nat)(p:Nat->Bool):Option Nat:=(atx n).find? p
def eZ:Option Nat->Int
 |some i=>(i:Int)
 |none=> -1
def aZ{n:Nat}{p:Nat->Bool}{i:Nat}:gO n p=some i↔i<n/\p i=true/\∀j,j<i->p j=false:=by
 unfold gO;rw[List.find?_range_eq_some];constructor;rintro⟨d,e,f⟩;exact⟨atf.1 e,d,fun j c=>by simpa using f j c⟩;rintro⟨d,e,f⟩;exact⟨e,atf.2 d,fun j c=>by simpa using f j c⟩
def iR{n:Nat}{p:Nat->Bool}:gO n p=none↔∀i,i<n->p i=false:=by
 unfold gO;rw[List.find?_range_eq_none];constructor;intro h i c;simpa using h i c;intro h i c;simpa using h i c
def iZ{σ ρ:Type}{f:(σ->Option ρ)->σ->Option ρ}(st:Nat->σ)(p:Nat->Bool)(n:Nat){e:Option ρ}(c:Nat->Option ρ)
 (d:∀G i,i<n->f G (st i)=if p i=true then c i else G (st (i+1))) (l:∀G,f G (st n)=e) (k:Nat) (hk:n<k):
 aM k f (st 0)=match gO n p with|some i=>c i|none=>e:=by
 have key:∀(k a:Nat),a<=n->n-a<k->(∀j,j<a->p j=false)->aM k f (st a)=match gO n p with|some i=>c i|none=>e:=by
  intro k
  induction k with
  |zero=>intro a _ h;omega
  |succ k t=>
   intro a ha h q;show f (aM k f) (st a)=_;by_cases s:a=n;subst s;rw[l,(iR (n:=a) (p:=p)).2 q];rw[d _ a (by omega)];cases m:p a with
   |true=>rw[an rfl,(aZ (i:=a)).2 ⟨by omega,m,q⟩]
   |false=>
    rw[a_ (by simp),t (a+1) (by omega) (by omega) (fun j hj=>by
     rcases asE j a with h|h;exact q j h;obtain rfl:j=a:=by omega
     exact m)]
 exact key k 0 (by omega) (by omega) (by omega)
def nU(a b:ByteArray):Bool:=Op.bytesLess a.toList b.toList
def bI:List (ByteArray×ByteArray)->List (ByteArray×ByteArray)->Bool
 | [],b=> !b.isEmpty
 |_::_,[]=>false
 |a::l,b::m=>if a.1.toList==b.1.toList then(if a.2.toList==b.2.toList then bI l m else nU a.2 b.2)else nU a.1 b.1
def eo{α:Type}(lt:α->α->Bool)(x:α):List α->List α
 | []=>[x]
 |y::r=>if lt x y=true then y::eo lt x r else x::y::r
def iX{α:Type}(lt:α->α->Bool)(l:List α):List α:=(l.foldl (fun r x=>eo lt x r) []).reverse
abbrev dG(a b:List (ByteArray×ByteArray)×Int×Int×ByteArray):Bool:=bI a.1 b.1
def dE(l:List (List (ByteArray×ByteArray)×Int×Int×ByteArray)):List (List (ByteArray×ByteArray)×Int×Int×ByteArray):=iX dG l
abbrev Ey:Ty:= .pair (.sl (.pair .str .str)) (.pair (.int .i64) (.pair (.int .i64) .str))
def On(N:Nat)(x:List Ey.den×Unit):Option (List Ey.den×Unit):=
 if(decide (x.1.length<N)&&x.1.all fun a=>decide (a.1.length<4611686018427387904))=true then some (dE x.1,())else none
def ael(x:List Ey.den×Unit):Option (List Ey.den×Unit):=On 1152921504606846976 x
end Vg
namespace Go.Proofs
open Go.Shelf Go.RowKit Go.Lib Go.Sort
variable{P:Program}{ρ:Ren}{α:Type}[Inhabited α]
set_option maxHeartbeats 1600000 in
set_option maxRecDepth 100000 in
def ajN(L:LaysGt.n15 P ρ){enc:α->List Value}{k:Nat}(hk:∀x,(enc x).length=k)(lt:α->α->Bool){g:Nat}{lb:Array Value}{sf:Nat}{sb:Array Value}{blk off:Nat}{d:Array α}{W:World}
 (eg:∀args w,(callFunc g args).run P w= .ok (.enter g args) w) (hless:LessReadsK P g lb enc k lt blk off d.size W) (hswap:SwapSwapsK P sf sb enc k blk off d.size)
 (hH:HoldsK enc k W blk off d) (hblk:blk<W.heap.size) (SO:d.size<20):
 Calls P (ρ.f 15) #[.agg #[.func (.func g) #[] lb,.func (.func sf) #[] sb],.int .i64 d.size] W fun e w'=>e= .returned (.tuple #[])/\∃n os,w'=sortWorldK enc k W blk off n (Sort.insertionSort lt d 0 d.size) os:=by
 have mixed:=L.mixed;have t0:=L.t0;have a0:=L.a0;have z0:=L.z0;have v0:=L.v0;have t3:=L.t3;have a3:=L.a3;have z3:=L.z3;have v3:=L.v3;have t4:=L.t4;have a4:=L.a4;have z4:=L.z4;have v4:=L.v4;have t26:=L.t26;have a26:=L.a26;have z26:=L.z26;have v26:=L.v26;have t38:=L.t38;have a38:=L.a38;have z38:=L.z38;have v38:=L.v38;have t42:=L.t42;have a42:=L.a42;have z42:=L.z42;have v42:=L.v42;have t47:=L.t47;have a47:=L.a47;have z47:=L.z47;have v47:=L.v47;have u42:=run_underlying L.t42;have e29:∀args w,(callFunc (ρ.f 29) args).run P w= .ok (.enter (ρ.f 29) args) w:=enters_of L.f29 (by kernel_rfl) rfl;have LI:LaysGg.n26 P ρ.viaGt:=({L with}:LaysGt.n29 P ρ).elder;have hS:=(SWK.start hH).alloc (.cells #[.func (.func g) #[] lb,.func (.func sf) #[] sb] (ρ.t 42))
 have hc:Calls P (ρ.f 29) #[.agg #[.func (.func g) #[] lb,.func (.func sf) #[] sb],.int .i64 (0:Nat),.int .i64 d.size] (W.alloc (.cells #[.func (.func g) #[] lb,.func (.func sf) #[] sb] (ρ.t 42))) fun e w'=>e= .returned (.tuple #[])/\∃n os,w'=sortWorldK enc k (W.alloc (.cells #[.func (.func g) #[] lb,.func (.func sf) #[] sb] (ρ.t 42))) blk off n (Sort.insertionSort lt d 0 d.size) os:=
  Any.insertionSort_func_cells_w LI enc k hk lt g lb sf sb blk off 0 d.size d _ eg (hS.lessReads hless hblk rfl) hswap (hS.holds hblk hH rfl) (hS.lt hblk) (Nat.zero_le _) (asd _) (by omega)
 clear hless hswap hH hS
 go_enter L.f15,BodyGt.n15_ntmps ρ
 go_wp2
 refine wp_loop_rounds 1 ?_;rw[rounds_succ]
 go_wp2_with (go_at_fn (ρ.f 29);refine hc.mono ?_;rintro e w1 ⟨rfl,n,os,rfl⟩)
 refine wp_loop_rounds 1 ?_;rw[rounds_succ]
 go_wp2
 all_goals first|(exfalso;omega)|(go_end0;exact⟨rfl,n,_,by unfold sortWorldK;rw[alloc_eq_grow,ahead_grow,putRowK_grow enc k (Sort.ahead W n) _ blk off _ hblk,grow_grow]⟩)
def PX(L:LaysGt.n8 P ρ){t e:TypeId}{i ie:TypeInfo}(I:P.info? t=some i)(J:i.desc= .slice e)(s:P.packed t=false)(p:P.info? e=some ie){ke:Nat}(u:∀w,(Extern.Rtype.kind e).run P w= .ok ke w)
 {enc:α->List Value} {k:Nat} (D:∀x,(enc x).length=k) (y:ie.size=k) (q:∀w,(isAgg e).run P w= .ok true w) (K:∀x,∀v∈enc x,v.oneCell'=true) (lt:α->α->Bool) {g:Nat} {z:Array Value}
 (N:∀args w,(callFunc g args).run P w= .ok (.enter g args) w) {h off c:Nat} {d:Array α} (R:2<=d.size) (SO:d.size<20)
 {f:Nat} (S:P.funcs.findIdx? (·.name== "internal/reflectlite" ++ ".Swapper$" ++toString (swapperK d.size ie ke))=some f)
 (gS:Bool) (X:∀args W,(callFunc f args).run P W=((Extern.ReflectliteSwapper.swap gS args).run P W).andThen fun v w'=> .ok (.value v) w')
 {w:World} (m:LessReadsK P g z enc k lt h off d.size w) (Y:HoldsK enc k w h off d) (j:h<w.heap.size):
 Calls P (ρ.f 8) #[.iface t (.slice (some ⟨h,off,none⟩) d.size c),.func (.func g) #[] z] w fun e w'=>
  e= .returned (.tuple #[])/\∃n B,w'=grow (putRowK enc k (Sort.ahead w n) h off (Sort.insertionSort lt d 0 d.size)) B:=by
 refine Any.sort_SliceStable_of_stable L t e i ie I J s p ke u _ d.size c (by omega) f S (.func g) #[] z w _ ?_
 have hB:sliceBound P e ie ke (some ⟨h,off,none⟩) d.size c= #[.slice (some ⟨h,off,none⟩) d.size c,typeHandle P e]:=by
  unfold sliceBound;rw[a_ (swapperK_gt _ _ _ R)]
 obtain⟨l,hW⟩:∃l,stableWorld P ρ t (some ⟨h,off,none⟩) d.size c w=grow w l:=
  ⟨_,by unfold stableWorld;rw[alloc_eq_grow,alloc_eq_grow,grow_grow]⟩
 rw[hB,hW]
 refine(ajN (P:=P) (ρ:=ρ) {L with} D lt (d:=d) N (m.grow j l)
  (swapSwapsK_of_literal gS f X e ie p enc k D y q K h off d.size c) (holdsK_grow enc k w _ h off d j Y) (by rw[size_grow];omega) SO).mono ?_
 rintro e w' ⟨rfl,n,B,rfl⟩;exact⟨rfl,n,_,by unfold sortWorldK;rw[ahead_grow,putRowK_grow enc k (Sort.ahead w n) _ h off _ j,grow_grow]⟩
def Xw{α:Type}(enc:α->List Value)(d:α->List (ByteArray×ByteArray))(f:Nat)(w:World):Prop:=
 ∀x:α,∃p c,(enc x)[0]?=some (.slice p (d x).length c)/\(d x).length<4611686018427387904/\
  ∀i,i<(d x).length->∃e o,p=some ⟨e,o,none⟩/\e≠f/\e<w.heap.size/\w.cell? ⟨e,o+i*2,none⟩=some (.string ((d x).getD i (ByteArray.empty,ByteArray.empty)).1)/\
   w.cell? ⟨e,o+i*2+1,none⟩=some (.string ((d x).getD i (ByteArray.empty,ByteArray.empty)).2)
end Go.Proofs
