/- VG, joined: an evaluator of the code over typed values, and its soundness, for any program. -/
import Derived.Test.YtgikmhjpcnnhjaaGreatZb
import Derived.LoopN
import Derived.WalkKit
import Derived.ProofKit
import Derived.OpenShut
import Derived.JoinedCond
import Derived.Carry
import Derived.Test.YtgikmhjpcnnhjaaGreatZa
import Derived.KernelRfl
import Derived.Lib.Join
import Derived.Below
import Derived.Shelf.GgSortMore.Stable
import Derived.Shelf.SlSortFuncK.WholeK
set_option linter.unusedSimpArgs false
set_option linter.unusedVariables false
set_option linter.unusedSectionVars false
set_option linter.defProp false
open Bool renaming and_eq_true -> en,not_eq_true' -> aq6,or_eq_true -> T_,false_eq_true -> arb,eq_iff_iff -> arC,true_and -> aso
open Option.some renaming injEq -> hJ,inj -> asA
open List renaming all_eq_true -> kb,getD_eq_getElem?_getD -> D_,mem_append -> k_,getD_cons_succ -> t_,getElem?_eq_getElem -> H_,contains_eq_mem -> D',mem_cons -> n_,length -> l9,mem_cons_of_mem -> aq4,getElem?_eq_some_iff -> aq8,length_cons -> ara,length_append -> arc,mem_map -> T',getD_cons_zero -> ari,map_congr_left -> arj,getElem?_cons_succ -> ark,map_cons -> arl,mem_singleton -> arn,getElem?_take -> aro,take_of_length_le -> arp,drop_eq_nil_of_le -> arq,append_assoc -> ars,drop_drop -> art,mem_zipIdx_iff_getElem? -> aru,getElem?_eq_none -> arv,not_mem_nil -> arz,map_append -> arD,nodup_cons -> arE,mem_filterMap -> arG,getElem?_drop -> arH,lookup -> arK,mem_flatMap -> arL,length_singleton -> arM,getElem?_toArray -> arN,mem_append_right -> arO,mem_filter -> arQ,map_map -> arR,pairwise_append -> arS,mem_of_getElem? -> arT,pairwise_cons -> arX,getD -> arY,sum_cons -> ar1,filter_congr -> ar2,isEmpty_iff -> ar4,range'_succ -> ar5,length_drop -> ar6,getElem?_cons_zero -> ar7,head?_drop -> ar8,append_nil -> ar9,range' -> asa,append_eq_nil_iff -> asb,replicate -> ase,take_append_drop -> asf,take_left -> asg,mem_range -> asi,mem_append_left -> asj,mem_cons_self -> asq,getElem?_map -> ass,mem_range'_1 -> asu,nodup_append -> asv,any_eq_true -> asw,flatMap_def -> asx,cons_append -> asy,range -> asB,forIn_cons -> asD,filterMap -> asE,take_take -> asF,drop_left -> asH
open Option renaming bind_eq_some_iff -> aq3,isSome_iff_exists -> arh,bind_some -> arx,map_eq_some_iff -> arJ,bind -> asd,isSome_none -> asr,bind_assoc -> ast
open Nat renaming mul_le_mul_right -> aq5,le_refl -> N_,add_mul -> N',one_mul -> arA,lt_or_ge -> arF,eq_zero_or_pos -> arW,sub_zero -> ar3,not_lt -> asz,min_eq_left -> asC
open Prod.mk renaming injEq -> aq9
open Array renaming getD_eq_getD_getElem? -> arw,getD -> ary,length_toList -> arB,getElem?_toList -> arP,replicate -> arU,eq_empty_of_size_eq_zero -> arV,getElem?_append_left -> ar0,toArray_toList -> asl,ext' -> asm,toList_extract -> asn
open Int renaming toNat_natCast -> arI,toNat -> arZ
open Function renaming comp_apply -> asp
open Go.IntKind renaming signed -> asG,wrap -> asI,bits -> asJ
namespace Vg
open Go
def Fg{a b:List Nat}(h:∀c∈a,c∉b):meets a b=false:=by
 simp only[meets,List.any_eq_false,D',b_];exact h
theorem PN(ts X:List Nat):Pc X (M.kill ts) (!ts.contains ·) (λhs=>if meets hs ts then none else some hs) where
 m m:=by
   unfold M.kill;split;exact .inr (.inl rfl);exact .inl rfl
 r hs hs' h:=by
   split at h;cases h;cases h;exact .inl rfl
theorem MY{ts:List Nat}{v:SV}(h:∀c∈v.fg,c∉ts):v.kill ts=v:=
 SV.stays (X:=ts) (λm d=>by unfold M.kill;rw[Fg d];rfl) (λt e=>by simpa using e) (λhs f=>by simp[Fg f]) h
def Oh{a b:List Nat}(h:meets a b=true):∃c,c∈a/\c∈b:=by
 simp only[meets,asw,D',b_]at h;exact h
def DH{ts hs:List Nat}{t:Nat}(h:meets hs ts=true):t∈xH ts t hs:=by
 obtain⟨c,d,e⟩:=Oh h;have:=CM (ts:=ts) (t:=t) d;rwa [an e]at this
theorem Od{ts X:List Nat}{t:Nat}(j:t∈X):Pc X (M.aX ts t) (!ts.contains ·) (λhs=>some (if meets hs ts then xH ts t hs else hs)) where
 m m:=by
   unfold M.aX;split;rename_i d;right;right;refine⟨t,j,?_⟩;cases m with
   |row u hs nd=>
    simp only[M.yC];split;exact DH d;rename_i f
    have:meets hs ts=true:=by
     obtain⟨c,e,k⟩:=Oh d;simp only[M.aJ,n_]at e;rcases e with rfl|e;simp only[D',b_]at f;exact absurd k f;simp only[meets,asw,D',b_];exact⟨c,e,k⟩
    simp only[M.aJ,n_];exact .inr (DH this)
   |sha hs=>exact DH d
   |nst b E i o p fr=>exact DH d
   |dead=>simp[M.aJ,meets]at d
   exact .inl rfl
 r hs hs' h:=by
   simp only[hJ]at h;subst h;split;rename_i d;exact .inr ⟨t,j,DH d⟩;exact .inl rfl
theorem P9{ts:List Nat}{t:Nat}{v:SV}(h:∀c∈v.fg,c∉ts):v.aX ts t=v:=
 SV.stays (X:=ts) (λm d=>by unfold M.aX;rw[Fg d];rfl) (λt e=>by simpa using e) (λhs f=>by simp[Fg f]) h
theorem VR(b:Nat)(X:List Nat):Pc X (M.cj b) (λ_=>true) (λhs=>if hs.contains b then none else some hs) where
 m m:=by
   cases m with
   |row u hs nd=>
    simp only[M.cj];split;exact .inl rfl;split;exact .inr (.inl rfl);exact .inl rfl
   |sha hs=>
    simp only[M.cj];split;exact .inr (.inl rfl);exact .inl rfl
   |nst b' E i o p fr=>
    simp only[M.cj];split;exact .inr (.inl rfl);exact .inl rfl
   |dead=>exact .inl rfl
 r hs hs' h:=by
   split at h;cases h;cases h;exact .inl rfl
theorem VC{b:Nat}{v:SV}(h:∀c∈v.fg,c∉ [b]):v.cj b=v:=
 SV.stays (X:=[b]) (λm e=>by
  cases m with
  |row u f nd=>
   simp only[M.cj];split;rfl;rw[a_];simp only[D',b_];intro d;exact e b (by simp[M.aJ,d]) (by simp)
  |sha f=>
   simp only[M.cj];rw[a_];simp only[D',b_];intro d;exact e b (by simp[M.aJ,d]) (by simp)
  |nst b' E i o p fr=>
   simp only[M.cj];rw[a_];intro d;exact e b (by simp[M.aJ,d]) (by simp)
  |dead=>rfl) (λ_ _=>rfl) (λf j=>by
  rw[a_];simp only[D',b_];intro d;exact j b d (by simp)) h
theorem BV{b:Nat}{e:Ty}{y:List e.den}{m:M}:∀ {τ:Ty} {x:τ.den} {sh:Sh},b∉sh.aJ->jD b e y m τ x sh=(x,sh)
 | .sl e',l,.sl (.row u hs nd),h=>by
   have:u≠b:=λe=>h (by simp[Sh.aJ,M.aJ,e]);simp only[jD,this,if_false]
 | .pair a c,p,.pair s1 s2,h=>by
   simp only[Sh.aJ,k_,not_or]at h;simp only[jD,BV h.1,BV h.2]
 | .sl _,_,.sl (.nst _ _ _ _ _ _),_| .sl _,_,.leaf,_| .sl _,_,.pair _ _,_| .sl _,_,.sl (.sha _),_| .sl _,_,.sl .dead,_
 | .int _,_,.leaf,_| .int _,_,.sl _,_| .int _,_,.pair _ _,_| .bool,_,.leaf,_| .bool,_,.sl _,_| .bool,_,.pair _ _,_
 | .str,_,.leaf,_| .str,_,.sl _,_| .str,_,.pair _ _,_| .pair _ _,_,.leaf,_| .pair _ _,_,.sl _,_=>rfl
theorem BW{b:Nat}{e:Ty}{y:List e.den}{m:M}(f:b∈m.aJ):∀ {τ:Ty} {x:τ.den} {sh:Sh},(jD b e y m τ x sh).2.live=true->b∉(jD b e y m τ x sh).2.aJ->jD b e y m τ x sh=(x,sh)
 | .sl e',l,.sl (.row u hs nd),hl,hc=>by
   simp only[jD]at hl hc|-;split;rename_i h;rw[an h]at hl hc;split;rename_i d;rw[dif_pos d]at hc;exact absurd f hc;rename_i d;rw[dif_neg d]at hl;cases hl;rfl
 | .pair a c,p,.pair s1 s2,hl,hc=>by
   simp only[jD,Sh.live,en,Sh.aJ,k_,not_or]at hl hc;simp only[jD,BW f hl.1 hc.1,BW f hl.2 hc.2]
 | .sl _,_,.sl (.nst _ _ _ _ _ _),_,_| .sl _,_,.leaf,_,_| .sl _,_,.pair _ _,_,_| .sl _,_,.sl (.sha _),_,_| .sl _,_,.sl .dead,_,_
 | .int _,_,.leaf,_,_| .int _,_,.sl _,_,_| .int _,_,.pair _ _,_,_| .bool,_,.leaf,_,_| .bool,_,.sl _,_,_| .bool,_,.pair _ _,_,_
 | .str,_,.leaf,_,_| .str,_,.sl _,_,_| .str,_,.pair _ _,_,_| .pair _ _,_,.leaf,_,_| .pair _ _,_,.sl _,_,_=>rfl
theorem TV.nU{b:Nat}{e:Ty}{y:List e.den}{m:M}{v:TV}(h:b∉v.sh.aJ):v.setRow b e y m=v:=by
 unfold TV.setRow;rw[BV h]
theorem TV.nZ{b:Nat}{e:Ty}{y:List e.den}{m:M}(h:b∈m.aJ){v:TV}(c:(v.setRow b e y m).sh.live=true)(hc:b∉(v.setRow b e y m).sh.aJ):v.setRow b e y m=v:=by
 unfold TV.setRow at c hc|-;rw[BW h c hc]
theorem nU{b:Nat}{e:Ty}{y:List e.den}{m:M}:∀ {v:SV},b∉v.fg->v.setRow b e y m=v
 | .no,_| .ptr ..,_| .ept ..,_=>rfl
 | .d v,h=>by simp only[SV.setRow];rw[TV.nU h]
 | .box t v,h=>by simp only[SV.setRow];rw[TV.nU (λc=>h (by simp[SV.fg,c]))]
 | .rdp hs v,h=>by
   simp only[SV.setRow];rw[a_];simpa[SV.fg]using h
 | .tup l,h=>by
   simp only[SV.setRow];congr 1
   conv=>rhs;rw[<-List.map_id l]
   refine arj (λv f=>TV.nU (λc=>h ?_));simp only[SV.fg,arL];exact⟨v,f,c⟩
 | .g j w a v,h=>by simp only[SV.setRow];rw[nU (v:=v) h]
theorem nZ{b:Nat}{e:Ty}{y:List e.den}{m:M}(f:b∈m.aJ):∀ {v:SV},(v.setRow b e y m).clean=true->b∉(v.setRow b e y m).fg->v.setRow b e y m=v
 | .no,h,_=>by cases h
 | .ptr ..,_,_| .ept ..,_,_=>rfl
 | .d v,h,hc=>by simp only[SV.setRow];rw[TV.nZ f h hc]
 | .box t v,h,hc=>by simp only[SV.setRow];rw[TV.nZ f h (λc=>hc (by simp[SV.setRow,SV.fg,c]))]
 | .rdp hs v,h,hc=>by
   simp only[SV.setRow]at h|-;split;rename_i c;rw[an c]at h;cases h;rfl
 | .tup l,h,hc=>by
   simp only[SV.setRow];congr 1
   conv=>rhs;rw[<-List.map_id l]
   refine arj (λv k=> ?_);simp only[SV.setRow,SV.clean,List.all_map,kb,asp]at h;refine TV.nZ f (h v k) (λc=>hc ?_);simp only[SV.setRow,SV.fg,List.flatMap_map,arL];exact⟨v,k,c⟩
 | .g j w a v,h,hc=>by simp only[SV.setRow];rw[nZ f (v:=v) h hc]
theorem Tr.stays{T:Tr}{v:SV}(h:∀c∈v.fg,c∉T.gz):T.sv v=v:=by
 cases T with
 |id=>rfl
 |kg u J t=>
  simp only[Tr.gz,n_,k_,not_or]at h;simp only[Tr.sv,fq,mP]
  have I:(if u.isEmpty=true then v else v.kill u)=v:=by
   split;rfl;exact MY (λc hc=>(h c hc).2.1)
  rw[I];split;rfl;exact P9 (λc hc=>(h c hc).2.2)
 |el J b e l m=>
  simp only[Tr.gz,n_,not_or]at h;simp only[Tr.sv];rw[P9 (λc hc=>(h c hc).2),VC (λc hc=>by simpa using(h c hc).1),nU (λhc=>(h b hc).1 rfl)]
 |ki y rp=>
  simp only[Tr.gz,k_,not_or]at h
  have q:(if y.isEmpty=true then v else v.kill y)=v:=by
   split;rfl;exact MY (λc hc=>(h c hc).1)
  simp only[Tr.sv,fq];split;exact q;cases v with
  |ept b e i o p τ=>
   simp only[SV.cK];split;rename_i z B;exact absurd (T'.2 ⟨(b,z),iP B,rfl⟩) (h b (by simp[SV.fg])).2.1;exact q
  |_=>exact q
theorem Tr.nm{T:Tr}(W:T.ok=true){v:SV}(q:(T.sv v).clean=true)(h:∀c∈(T.sv v).fg,c∉T.gz):T.sv v=v:=by
 cases T with
 |id=>rfl
 |kg R B t=>
  simp only[Tr.sv,fq,mP]at q h|-;generalize K:(if R.isEmpty=true then v else v.kill R)=v1 at q h|-
  have N:(if B.isEmpty=true then v1 else v1.aX B t)=v1:=by
   split;rfl;rename_i Y;rw[a_ Y]at q h;exact SV.nm (Od (X:=[t]) (by simp)) q (λc hc z=>h c hc (by simp only[arn]at z;simp[Tr.gz,z]))
  rw[N]at q h|-;rw[<-K]at q h|-;split;rfl;rename_i y;rw[a_ y]at q h;exact SV.nm (PN R []) q (by simp)
 |el B b e l m=>
  simp only[Tr.ok,D',b_]at W;simp only[Tr.sv]at q h|-;have N:=nZ W q (λhc=>h b hc (by simp[Tr.gz]));rw[N]at q h|-;have e2:(v.aX B b).cj b=v.aX B b:=SV.nm (VR b []) q (by simp);rw[e2]at q h|-;exact SV.nm (Od (X:=[b]) (by simp)) q (λc hc z=>h c hc (by simp only[arn]at z;simp[Tr.gz,z]))
 |ki I rp=>
  have y:(if I.isEmpty=true then v else v.kill I).clean=true->(if I.isEmpty=true then v else v.kill I)=v:=by
   intro q;split;rfl;rename_i y;rw[a_ y]at q;exact SV.nm (PN I []) q (by simp)
  simp only[Tr.sv,fq]at q h|-;split;rename_i J;rw[an J]at q;exact y q;rename_i J;rw[a_ J]at q h;cases v with
  |ept b e i o p τ=>
   simp only[SV.cK]at q h|-;split;rename_i S u;rw[u]at h;exact absurd (by simp only[Tr.gz,k_,T'];exact .inr (.inr ⟨(b,S),iP u,rfl⟩)) (h S (by simp[SV.fg]));rename_i u;rw[u]at q;exact y q
  |_=>exact y q
def pF{T:Tr}(h:T.sD=true)(v:SV):T.sv v=v:=by
 cases T with
 |id=>rfl
 |kg ks c t=>
  simp only[Tr.sD,en]at h;simp only[Tr.sv,fq,mP,h.1,h.2,if_true]
 |el c b e l m=>simp[Tr.sD]at h
 |ki ts rp=>simp only[Tr.sD,en]at h;simp only[Tr.sv,fq,h.1,h.2,if_true]
def ahM(T:Tr):T.sv .no= .no:=by
 cases T with
 |id=>rfl
 |kg ks c t=>simp only[Tr.sv,fq,mP];split<;>split<;>rfl
 |el c b e l m=>rfl
 |ki ts rp=>simp only[Tr.sv,fq,SV.cK];split<;>split<;>rfl
theorem Xd:∀(ws:List (Nat×SV)) (L:List SV),(fC ws L).length=L.length
 | [],_=>rfl
 |p::ws,L=>by
  show(fC ws (L.set p.1 p.2)).length=L.length;rw[Xd ws];simp
theorem WT:∀(ws:List (Nat×SV)) (L:List SV) (s:Nat),(∀p∈ws,p.1≠s)->(fC ws L).getD s .no=L.getD s .no
 | [],_,_,_=>rfl
 |p::ws,L,s,h=>by
  show(fC ws (L.set p.1 p.2)).getD s .no=L.getD s .no;rw[WT ws _ s (λq c=>h q (by simp[c])),fA,a_];rintro⟨e,_⟩;exact h p (by simp) e.symm
def aif{E:Env}{T:Tr}{ws:List (Nat×SV)}{s:Nat}(h:∀p∈ws,p.1≠s):(E.iD (T,ws)).s.getD s .no=T.sv (E.s.getD s .no):=by
 simp only[Env.iD];rw[WT ws _ s h,getD_map (ahM T)]
def da(t:Nat):SV->Bool
 | .box u _=>u=t
 |_=>false
theorem Hl:∀(L:List SV) (t k s:Nat) (v:TV),eK L t k=some (s,v)↔k<=s/\L.getD (s-k) .no= .box t v/\∀j,j<s-k->da t (L.getD j .no)=false
 | [],t,k,s,v=>by simp[eK]
 |x::L,t,k,s,v=>by
  have step:(∀u,x≠ .box t u)->(eK (x::L) t k=some (s,v)↔eK L t (k+1)=some (s,v)):=by
   intro h;cases x with
   |box u y=>
    simp only[eK];rw[a_];intro e;exact h y (by rw[e])
   |_=>rfl
  by_cases m:∃u,x= .box t u;obtain⟨u,rfl⟩:=m;simp only[eK,if_true,hJ,aq9];constructor;rintro⟨rfl,rfl⟩;exact⟨N_ _,by simp,λj l=>by omega⟩;rintro⟨n,c,f⟩
  have p:s-k=0:=by
   rcases arW (s-k)with h|h;exact h;have:=f 0 h;simp[da]at this
  rw[p]at c;simp only[ari,SV.box.injEq,true_and]at c;exact⟨by omega,c⟩;have d:∀u,x≠ .box t u:=λu e=>m ⟨u,e⟩;rw[step d,Hl L t (k+1) s v]
  have q:da t x=false:=by
   cases x with
   |box u y=>simp only[da,d_];intro e;exact d y (by rw[e])
   |_=>rfl
  constructor;rintro⟨n,c,f⟩;refine⟨by omega,?_,λj l=> ?_⟩;rw[show s-k=(s-(k+1))+1 by omega,t_];exact c;cases j with
  |zero=>simpa using q
  |succ j=>rw[t_];exact f j (by omega)
  rintro⟨n,c,f⟩
  have z:k+1<=s:=by
   rcases arF k s with h|h;exact h;rw[show s-k=0 by omega]at c;simp only[ari]at c;exact absurd c (d v)
  refine⟨z,?_,λj l=> ?_⟩;rw[show s-k=(s-(k+1))+1 by omega,t_]at c;exact c;have:=f (j+1) (by omega);rwa [t_]at this
def XD{L L':List SV}{t s:Nat}{v:TV}(h:eK L t 0=some (s,v))(hs:L'.getD s .no=L.getD s .no)(f:∀j,da t (L'.getD j .no)=da t (L.getD j .no)):eK L' t 0=some (s,v):=by
 rw[Hl]at h|-;obtain⟨k,c,d⟩:=h;simp only[ar3]at c d|-;exact⟨k,by rw[hs];exact c,λj e=>by rw[f];exact d j e⟩
def rowAt(t:Nat)(e:Ty):SV->Option (List e.den×List Nat×Bool)
 | .d v| .box _ v=>je t e v.τ v.x v.sh
 |_=>none
theorem zY:∀(L:List SV) (t:Nat) (e:Ty) (k s:Nat),fy t e L k=some s↔k<=s/\(rowAt t e (L.getD (s-k) .no)).isSome/\∀j,j<s-k->rowAt t e (L.getD j .no)=none
 | [],t,e,k,s=>by simp[fy,rowAt]
 |x::L,t,e,k,s=>by
  have f:fy t e (x::L) k=if(rowAt t e x).isSome then some k else fy t e L (k+1):=by
   cases x<;>rfl
  rw[f];by_cases d:(rowAt t e x).isSome=true;rw[an d];simp only[hJ];constructor;rintro rfl;exact⟨N_ _,by simpa using d,λj n=>by omega⟩;rintro⟨p,c,m⟩;rcases arW (s-k)with h|h;omega;have:=m 0 h;simp only[ari]at this;rw[this]at d;cases d;rw[a_ d,zY L t e (k+1) s];have l:rowAt t e x=none:=by simpa using d
  constructor;rintro⟨p,c,m⟩;refine⟨by omega,?_,λj n=> ?_⟩;rw[show s-k=(s-(k+1))+1 by omega,t_];exact c;cases j with
  |zero=>simpa using l
  |succ j=>rw[t_];exact m j (by omega)
  rintro⟨p,c,m⟩
  have q:k+1<=s:=by
   rcases arF k s with h|h;exact h;rw[show s-k=0 by omega]at c;simp only[ari,l]at c;cases c
  refine⟨q,?_,λj n=> ?_⟩;rw[show s-k=(s-(k+1))+1 by omega,t_]at c;exact c;have:=m (j+1) (by omega);rwa [t_]at this
theorem zf:∀(L:List SV) (t:Nat) (e:Ty) (k s:Nat),fy t e L k=some s->fB t e L=rowAt t e (L.getD (s-k) .no)
 | [],t,e,k,s,h=>by simp[fy]at h
 |x::L,t,e,k,s,h=>by
  have c:fy t e (x::L) k=if(rowAt t e x).isSome then some k else fy t e L (k+1):=by
   cases x<;>rfl
  have j:fB t e (x::L)=match rowAt t e x with|some r=>some r|none=>fB t e L:=by
   cases x<;>rfl
  rw[c]at h;by_cases d:(rowAt t e x).isSome=true;rw[an d]at h;simp only[hJ]at h;subst h;rw[j];obtain⟨r,l⟩:=arh.1 d;simp[l];rw[a_ d]at h;have f:rowAt t e x=none:=by simpa using d
  rw[j,f];have hs:=(zY L t e (k+1) s).1 h;rw[show s-k=(s-(k+1))+1 by omega,t_];exact zf L t e (k+1) s h
def YF{L L':List SV}{t s:Nat}{e:Ty}(h:fy t e L 0=some s)(hs:L'.getD s .no=L.getD s .no)(l:∀j,j<s->rowAt t e (L.getD j .no)=none->rowAt t e (L'.getD j .no)=none):
 fy t e L' 0=some s/\fB t e L'=fB t e L:=by
 have d:fy t e L' 0=some s:=by
  rw[zY]at h|-;obtain⟨m,f,k⟩:=h;simp only[ar3]at f k|-;exact⟨m,by rw[hs];exact f,λj c=>l j c (k j c)⟩
 refine⟨d,?_⟩;rw[zf L' t e 0 s d,zf L t e 0 s h,ar3,hs]
structure Jg(b:eG)(E E':Env):Prop where
 get:∀s∈b.rs,E'.get s=E.get s
 ra:∀s∈b.ra,∃t u u',E.get s= .box t u/\E'.get s= .box t u'/\u'.τ=u.τ
 box:∀t∈b.bx,∀j,da t (E'.get j)=da t (E.get j)
 row:∀p∈b.rw,∀(e:Ty) (j:Nat),j<p.2->rowAt p.1 e (E.get j)=none->rowAt p.1 e (E'.get j)=none
 dz:∀p∈b.ws,pf (E'.get p.1) p.2=true
 nb:∀p∈b.ws,sameBox (E'.get p.1) p.2=sameBox (E.get p.1) p.2
section
variable{C:Cx}{ops:List Oper}{i:Nat}{o:Oper}{E E':Env}{r:Tr×List (Nat×SV)}
def Xb{s:Nat}(h:s∈kW ops o):s∈(ga ops i o E r).rs\/s∈(ga ops i o E r).ra:=by
 simp only[ga,k_,arQ];cases hb:(E.get s).dV with
 |true=>exact .inr ⟨h,rfl⟩
 |false=>exact .inl (.inl (.inl ⟨h,rfl⟩))
def Zz{t s:Nat}{v:TV}(c:eR o=true)(d:t∈zv E o)(h:eK E.s t 0=some (s,v)):s∈(ga ops i o E r).rs:=by
 simp only[ga,k_];refine .inl (.inr ?_);rw[arG];exact⟨t,by rw[an c];exact d,by rw[h];rfl⟩
def NV{t s:Nat}{e:Ty}(c:eR o=true)(d:(t,e)∈xY E o)(h:fy t e E.s 0=some s):(t,s)∈(ga ops i o E r).rw:=by
 simp only[ga];rw[arG];exact⟨(t,e),by rw[an c];exact d,by rw[h];rfl⟩
def Zk{t s:Nat}{e:Ty}(c:eR o=true)(d:(t,e)∈xY E o)(h:fy t e E.s 0=some s):s∈(ga ops i o E r).rs:=by
 have:=NV (ops:=ops) (i:=i) (r:=r) c d h;simp only[ga,k_]at this|-;refine .inr ?_;rw[T'];exact⟨(t,s),this,rfl⟩
def agk{s b off:Nat}{p:List Bool}{τ:Ty}(hs:s∈tmpsOf o)(h:(E.rd.get s).strip= .ptr b off p τ):b∈zv E o:=by
 unfold zv;rw[arG];exact⟨s,hs,by rw[h]⟩
def agm{s b:Nat}{e:Ty}(hs:s∈tmpsOf o)(h:XK (E.rd.get s).strip=some (b,e)):(b,e)∈xY E o:=by
 unfold xY;rw[arG];exact⟨s,hs,h⟩
theorem lD{α β:Type}{f g:α->Option β}:∀ {l:List α},(∀x∈l,f x=g x)->l.filterMap f=l.filterMap g
 | [],_=>rfl
 |x::l,h=>by
  simp only[List.filterMap_cons,h x (by simp),lD (l:=l) (λy c=>h y (by simp[c]))]
theorem Gn{α β:Type}{f:α->Option β}:∀ {l:List α},(l.filterMap f).length=l.length->∀x∈l,(f x).isSome=true
 | [],_,x,c=>by cases c
 |y::l,h,x,c=>by
  have hle:=List.length_filterMap_le f l;cases d:f y with
  |none=>
   rw[List.filterMap_cons_none d]at h;simp at h;omega
  |some z=>
   rw[List.filterMap_cons_some d]at h;simp only[ara,Nat.add_right_cancel_iff]at h;rcases n_.1 c with rfl|c;rw[d];rfl;exact Gn h x c
def abK(m:Jg (ga ops i o E r) E E')(N:(ga ops i o E r).fd=true)(R:(ga ops i o E r).dz=true):
 fI o E.rd E'.rd/\guardOf ops E'.rd o.guard=guardOf ops E.rd o.guard/\ga ops i o E' r=ga ops i o E r:=by
 have n:∀s∈kW ops o,cA (E'.get s)=cA (E.get s)/\(E'.get s).dV=(E.get s).dV:=λs d=>by
  rcases Xb (i:=i) (E:=E) (r:=r) d with h|h;rw[m.get s h];exact⟨rfl,rfl⟩;obtain⟨t,u,u',h1,h2,h3⟩:=m.ra s h;rw[h1,h2];simp only[cA,h3,SV.dV];exact⟨trivial,trivial⟩
 have X:∀s∈tmpsOf o,s∈kW ops o:=λs d=>by simp only[kW,k_];exact .inl d
 have I:∀s∈tmpsOf o,E'.rd.get s=E.rd.get s:=λs d=>(n s (X s d)).1;simp only[ga,en,b_,kb]at N;obtain⟨W,o0⟩:=N
 have S:eR o=true->∀p∈xY E o,(fy p.1 p.2 E.s 0).isSome=true:=by
  intro c p l;rw[an c]at W;have:=Gn W p l;simpa using this
 have y:eR o=true->∀t∈zv E o,eK E'.s t 0=eK E.s t 0:=by
  intro c t f;obtain⟨⟨s,v⟩,K⟩:=arh.1 (o0 t (by rw[an c];exact f));rw[K];exact XD K (m.get s (Zz c f K)) (λj=>m.box t (by simp only[ga];rw[an c];exact f) j)
 have z:eR o=true->∀p∈xY E o,fy p.1 p.2 E'.s 0=fy p.1 p.2 E.s 0/\fB p.1 p.2 E'.s=fB p.1 p.2 E.s:=by
  rintro c ⟨t,e⟩ l;obtain⟨s,d⟩:=arh.1 (S c (t,e) l);have:=YF d (m.get s (Zk c l d)) (λj hj hn=>m.row (t,s) (NV c l d) e j hj hn);exact⟨this.1.trans d.symm,this.2⟩
 refine⟨⟨I,λc s d b off p τ h=>y c b (agk d h),λc s d b e h=>(z c (b,e) (agm d h)).2⟩,?_,?_⟩;cases hg:o.guard with
 |none=>rfl
 |some q=>
  obtain⟨j,w⟩:=q;simp only[guardOf];cases hd:(ops[j]?).bind (·.dst)with
  |none=>rfl
  |some s=>
   have d:s∈kW ops o:=by
    simp only[kW,k_];refine .inr ?_;rw[hg];simp[hd]
   have:E'.rd.get s=E.rd.get s:=(n s d).1;simp only[this]
 have hb:zv E' o=zv E o:=lD (λs d=>by rw[I s d]);have hr:xY E' o=xY E o:=lD (λs d=>by rw[I s d]);have Y:(kW ops o).filter (λs=>(E'.get s).dV)=(kW ops o).filter (λs=>(E.get s).dV):=ar2 (λs d=>(n s d).2);have b0:(kW ops o).filter (λs=> !(E'.get s).dV)=(kW ops o).filter (λs=> !(E.get s).dV):=ar2 (λs d=>by rw[(n s d).2])
 have e0:(if eR o=true then xY E o else []).filterMap (λp=>(fy p.1 p.2 E'.s 0).map λs=>(p.1,s))=(if eR o=true then xY E o else []).filterMap (λp=>(fy p.1 p.2 E.s 0).map λs=>(p.1,s)):=by
  split;rename_i c;exact lD (λp l=>by rw[(z c p l).1]);rfl
 have J:∀t∈(if eR o=true then zv E o else []),eK E'.s t 0=eK E.s t 0:=by
  split;rename_i c;exact y c;intro t f;cases f
 have h0:(if eR o=true then zv E o else []).filterMap (λt=>(eK E'.s t 0).map (·.1))=(if eR o=true then zv E o else []).filterMap (λt=>(eK E.s t 0).map (·.1)):=
  lD (λt f=>by rw[J t f])
 have k:=m.get;have B:=m.dz;simp only[ga]at k B R;simp only[ga,hb,hr,e0,h0,Y,b0,eG.mk.injEq,true_and];generalize (kW ops o).filter (λs=> !(E.get s).dV)++asE (λt=>Option.map (λx=>x.fst) (eK E.s t 0)) (if eR o=true then zv E o else [])++List.map (λx=>x.snd) (asE (λp=>Option.map (λs=>(p.fst,s)) (fy p.fst p.snd E.s 0)) (if eR o=true then xY E o else []))=rs at k|-;have k0:(r.2.filter λp=> !sameBox (E'.get p.1) p.2)=r.2.filter λp=> !sameBox (E.get p.1) p.2:=ar2 (λp l=>by rw[m.nb p (by simpa only[ga]using l)]);refine⟨?_,?_,?_,?_,?_,by rw[k0],trivial⟩;simp only[asx];congr 1;refine arj (λs d=> ?_);rw[k s d];simp only[asx];congr 1;refine arj (λs d=> ?_);rw[k s d];rw[arC,kb,kb];constructor;intro h s d;rw[<-k s d];exact h s d;intro h s d;rw[k s d];exact h s d;congr 1;rw[arC,kb,kb];constructor;intro h t f;rw[<-J t f];exact h t f;intro h t f;rw[J t f];exact h t f;rw[R,kb];exact B
end
def SV.kd:SV->Nat
 | .no=>0
 | .d _=>1
 | .box _ _=>2
 | .ptr _ _ _ _=>3
 | .ept _ _ _ _ _ _=>4
 | .rdp _ _=>5
 | .tup _=>6
 | .g _ _ _ _=>7
def B5(v c:SV):Prop:=c.kd=v.kd\/((v.kd=4\/v.kd=5)/\c= .no)
def wz{f:M->M}{c:Nat->Bool}{d:List Nat->Option (List Nat)}(v:SV):B5 v (v.mapM f c d):=by
 cases v with
 |ept t e i o p τ=>
  simp only[SV.mapM];split;exact .inl rfl;exact .inr ⟨.inl rfl,rfl⟩
 |rdp hs v=>
  simp only[SV.mapM];split;exact .inl rfl;exact .inr ⟨.inr rfl,rfl⟩
 |_=>exact .inl rfl
def ad4{b:Nat}{e:Ty}{y:List e.den}{m:M}(v:SV):B5 v (v.setRow b e y m):=by
 cases v with
 |rdp hs v=>
  simp only[SV.setRow];split;exact .inr ⟨.inr rfl,rfl⟩;exact .inl rfl
 |_=>exact .inl rfl
theorem B5.refl(v:SV):B5 v v:= .inl rfl
theorem B5.trans{a b c:SV}(h:B5 a b)(e:B5 b c):B5 a c:=by
 rcases h with h|⟨h,rfl⟩;rcases e with e|⟨e,rfl⟩;exact .inl (e.trans h);exact .inr ⟨by rw[<-h];exact e,rfl⟩;rcases e with e|⟨e,_⟩;refine .inr ⟨h,?_⟩;cases c<;>simp[SV.kd]at e|-;simp[SV.kd]at e
def P5(T:Tr)(v:SV):B5 v (T.sv v):=by
 cases T with
 |id=>exact .refl v
 |kg ks f t=>
  simp only[Tr.sv,fq,mP];split<;>split;exact .refl v;exact wz v;exact wz v;exact(wz v).trans (wz _)
 |el f b e l m=>exact((wz v).trans (wz _)).trans (ad4 _)
 |ki d rp=>
  have c:B5 v (if d.isEmpty=true then v else v.kill d):=by
   split;exact .refl v;exact wz v
  simp only[Tr.sv,fq];split;exact c;cases v with
  |ept b e i o p τ=>
   simp only[SV.cK];split;exact .inl rfl;exact c
  |_=>exact c
def zr{f:M->M}{c:Nat->Bool}{d:List Nat->Option (List Nat)}(t:Nat)(v:SV):da t (v.mapM f c d)=da t v:=by
 cases v with
 |ept t e i o p τ=>simp only[SV.mapM];split<;>rfl
 |rdp hs v=>simp only[SV.mapM];split<;>rfl
 |_=>rfl
def Sr{b:Nat}{e:Ty}{y:List e.den}{m:M}(t:Nat)(v:SV):da t (v.setRow b e y m)=da t v:=by
 cases v with
 |rdp hs v=>simp only[SV.setRow];split<;>rfl
 |_=>rfl
def rH(T:Tr)(t:Nat)(v:SV):da t (T.sv v)=da t v:=by
 cases T with
 |id=>rfl
 |kg ks f u=>
  simp only[Tr.sv,fq,mP];split<;>split<;>simp only[SV.aX,SV.kill,zr]
 |el f b e l m=>simp only[Tr.sv,Sr,SV.cj,SV.aX,zr]
 |ki d rp=>
  have c:da t (if d.isEmpty=true then v else v.kill d)=da t v:=by
   split<;>simp only[SV.kill,zr]
  simp only[Tr.sv,fq];split;exact c;cases v with
  |ept b e i o p τ=>
   simp only[SV.cK];split;rfl;exact c
  |_=>exact c
def jI{t:Nat}{v:SV}(h:da t v=true):∃u,v= .box t u:=by
 cases v with
 |box t' u=>simp only[da,b_]at h;subst h;exact⟨u,rfl⟩
 |_=>simp[da]at h
def aiD{v q:SV}(h:v.kd=0\/v.kd=4\/v.kd=5):pf v q=true:=by
 cases v<;>first|rfl|simp[SV.kd]at h
def En{v q:SV}(h:v.kd=1\/v.kd=3\/v.kd=6\/v.kd=7):pf v q=(v.clean&&v.fg.isEmpty):=by
 cases v<;>first|rfl|simp[SV.kd]at h
def aa7{T:Tr}{v q:SV}(h:pf v q=true):pf (T.sv v) q=true:=by
 have k:=P5 T v
 have c:v.kd=1\/v.kd=3\/v.kd=6\/v.kd=7->pf (T.sv v) q=true:=by
  intro m;have n:=h;rw[En m,en]at n;have:v.fg=[]:=by simpa using n.2
  rw[Tr.stays (by rw[this];simp)];exact h
 have f:v.kd=0\/v.kd=4\/v.kd=5->pf (T.sv v) q=true:=by
  intro m;rcases k with k|⟨_,k⟩;exact aiD (by rw[k];exact m);rw[k];rfl
 cases v with
 |box t u=>
  obtain⟨u',s⟩:=jI (t:=t) (v:=T.sv (.box t u)) (by rw[rH];simp[da]);rw[s];exact h
 |no=>exact f (.inl rfl)
 |ept t e i o p τ=>exact f (.inr (.inl rfl))
 |rdp hs v=>exact f (.inr (.inr rfl))
 |d v=>exact c (.inl rfl)
 |ptr t o p τ=>exact c (.inr (.inl rfl))
 |tup l=>exact c (.inr (.inr (.inl rfl)))
 |g j w a v=>exact c (.inr (.inr (.inr rfl)))
def aaI{T:Tr}(n:T.ok=true){v q:SV}(h:pf (T.sv v) q=true):pf v q=true:=by
 have f:=P5 T v
 have c:v.kd=1\/v.kd=3\/v.kd=6\/v.kd=7->pf v q=true:=by
  intro m;rcases f with f|⟨f,_⟩;have k:=h;rw[En (by rw[f];exact m),en]at k;have s:(T.sv v).fg=[]:=by simpa using k.2
  rw[Tr.nm n k.1 (by rw[s];simp)]at h;exact h;omega
 cases v with
 |box t u=>
  obtain⟨u',x⟩:=jI (t:=t) (v:=T.sv (.box t u)) (by rw[rH];simp[da]);rw[x]at h;exact h
 |no|ept t e i o p τ|rdp hs v=>rfl
 |d v=>exact c (.inl rfl)
 |ptr t o p τ=>exact c (.inr (.inl rfl))
 |tup l=>exact c (.inr (.inr (.inl rfl)))
 |g j w a v=>exact c (.inr (.inr (.inr rfl)))
theorem yu{t:Nat}{e:Ty}:∀ {τ:Ty} {x:τ.den} {sh:Sh},t∉sh.aJ->je t e τ x sh=none
 | .sl e',l,.sl (.row u hs nd),h=>by
   have:u≠t:=λe=>h (by simp[Sh.aJ,M.aJ,e]);simp only[je,this,if_false]
 | .pair a c,p,.pair s1 s2,h=>by
   simp only[Sh.aJ,k_,not_or]at h;simp only[je,yu h.1,yu h.2]
 | .sl _,_,.sl (.nst _ _ _ _ _ _),_| .sl _,_,.leaf,_| .sl _,_,.pair _ _,_| .sl _,_,.sl (.sha _),_| .sl _,_,.sl .dead,_
 | .int _,_,.leaf,_| .int _,_,.sl _,_| .int _,_,.pair _ _,_| .bool,_,.leaf,_| .bool,_,.sl _,_| .bool,_,.pair _ _,_
 | .str,_,.leaf,_| .str,_,.sl _,_| .str,_,.pair _ _,_| .pair _ _,_,.leaf,_| .pair _ _,_,.sl _,_=>rfl
def JY{t:Nat}{e:Ty}{v:SV}(h:t∉v.fg):rowAt t e v=none:=by
 cases v with
 |d v=>exact yu h
 |box t v=>exact yu (λhc=>h (by simp[SV.fg,hc]))
 |_=>rfl
def OG{t:Nat}{e:Ty}{v:SV}(hb:v.dV=false)(h:t∉v.fg):rowAt t e v=none:=JY h
def pI{E:Env}{T:Tr}{ws:List (Nat×SV)}{j:Nat}(h:∀p∈ws,p.1≠j):(E.iD (T,ws)).get j=T.sv (E.get j):=aif h
theorem YP:∀(ws:List (Nat×SV)) (L:List SV) (j:Nat),(fC ws L).getD j .no=L.getD j .no\/∃p∈ws,p.1=j/\(fC ws L).getD j .no=p.2
 | [],_,_=> .inl rfl
 |p::ws,L,j=>by
  rcases YP ws (L.set p.1 p.2) j with h|⟨q,d,e,f⟩;have c:(fC (p::ws) L).getD j .no=(L.set p.1 p.2).getD j .no:=h;rw[fA]at c;split at c;rename_i hc;exact .inr ⟨p,by simp,hc.1.symm,c⟩;exact .inl c;exact .inr ⟨q,by simp[d],e,f⟩
def Qp(E:Env)(T:Tr)(ws:List (Nat×SV))(j:Nat):(E.iD (T,ws)).get j=T.sv (E.get j)\/∃p∈ws,p.1=j/\(E.iD (T,ws)).get j=p.2:=by
 rcases YP ws (E.s.map T.sv) j with h|h;refine .inl ?_;have:(E.iD (T,ws)).get j=(E.s.map T.sv).getD j .no:=h;rw[this,getD_map (ahM T)];rfl;exact .inr h
structure abA(a b:eG):Prop where
 rs:∀p∈a.ws,p.1∉b.rs
 ra:∀p∈a.ws,p.1∉b.ra
 ws:∀p∈a.ws,∀q∈b.ws,q.1≠p.1
 bx:∀p∈a.ws,∀t u,p.2= .box t u->t∉b.bx
 rw:∀p∈a.ws,∀q∈b.rw,q.2<p.1\/(p.2.dV=false/\q.1∉p.2.fg)
 tr:a.T.sD=true\/(b.rw=[]/\(∀t∈b.tk,t∉a.T.gz)/\(∀t∈b.te,t∉a.T.qs)/\∀p∈b.ws,(∀t∈p.2.Be,t∉a.T.gz)/\∀t∈p.2.xc,t∉a.T.qs)
structure Eg(a b:eG):Prop where
 rs:∀p∈a.ws,p.1∉b.rs
 ra:∀p∈a.ws,p.1∉b.ra
 ws:∀p∈a.ws,∀q∈b.ws,q.1≠p.1
 bx:∀p∈a.ws,∀t u,p.2= .box t u->t∉b.bx
 rw:∀p∈a.ws,∀q∈b.rw,q.2<p.1\/q.1∉p.2.fg
 tr:a.T.sD=true\/((b.rw=[]\/a.T.abQ=true)/\(∀t∈b.tk,t∉a.T.gz)/\(∀t∈b.te,t∉a.T.qs)/\∀p∈b.ws,(∀t∈p.2.Be,t∉a.T.gz)/\∀t∈p.2.xc,t∉a.T.qs)
theorem abA.toF{a b:eG}(h:abA a b):Eg a b:=⟨h.rs,h.ra,h.ws,h.bx,λp c q e=>(h.rw p c q e).imp id And.right,h.tr.imp id (λ⟨l,u⟩=>⟨.inl l,u⟩)⟩
def abT{a b:eG}(h:a.abz b=true):Eg a b:=by
 simp only[eG.abz,en,kb,T_,aq6,D',d_,b_,ne_eq,ar4]at h;obtain⟨d,k⟩:=h;refine⟨λp c=>(d p c).1.1.1.1,λp c=>(d p c).1.1.1.2,λp c q f=>(d p c).1.1.2 q f,λp c t u e=> ?_,λp c q f=> ?_,?_⟩;have:=(d p c).1.2;rw[e]at this;simpa using this;rcases(d p c).2 q f with h|h;exact .inl h;exact .inr h;rcases k with h|⟨⟨⟨h,l⟩,m⟩,j⟩;exact .inl h;exact .inr ⟨h,l,m,j⟩
theorem BE{t:Nat}{e:Ty}{f:M->M}(j:∀m u hs d,f m= .row u hs d->∃hs' c,m= .row u hs' c):∀ {τ:Ty} {x:τ.den} {sh:Sh},je t e τ x sh=none->je t e τ x (sh.map f)=none
 | .int _,_,sh,_| .bool,_,sh,_| .str,_,sh,_=>by cases sh<;>rfl
 | .sl e',l,.sl m,h=>by
   simp only[Sh.map];cases q:f m with
   |row u hs d=>
    obtain⟨hs',c,rfl⟩:=j m u hs d q;simp only[je]at h|-;split;rename_i n;rw[an n]at h;split;rename_i p;rw[dif_pos p]at h;cases h;rfl;rfl
   |sha hs=>rfl
   |nst=>rfl
   |dead=>rfl
 | .sl e',l,.leaf,_| .sl e',l,.pair _ _,_=>by simp[Sh.map,je]
 | .pair a b,x,.pair s1 s2,h=>by
   simp only[je,Sh.map]at h|-;cases k:je t e a x.1 s1 with
   |some r=>rw[k]at h;cases h
   |none=>
    rw[k]at h;simp only[BE j k];exact BE j h
 | .pair a b,x,.leaf,_| .pair a b,x,.sl _,_=>by simp[Sh.map,je]
theorem afc(ts:List Nat):∀m u hs c,M.kill ts m= .row u hs c->∃hs' d,m= .row u hs' d:=by
 intro m u hs c h;unfold M.kill at h;split at h;cases h;exact⟨hs,c,h⟩
theorem aet(ts:List Nat)(t:Nat):∀m u hs d,M.aX ts t m= .row u hs d->∃hs' c,m= .row u hs' c:=by
 intro m u hs d h;unfold M.aX at h;split at h;cases m with
 |row u' hs' c=>
  simp only[M.yC]at h;split at h;cases h;simp only[M.row.injEq]at h;obtain⟨rfl,_,_⟩:=h;exact⟨hs',c,rfl⟩
 |sha hs'=>simp[M.yC]at h
 |nst=>simp[M.yC]at h
 |dead=>simp[M.yC]at h
 exact⟨hs,d,h⟩
def QG{t:Nat}{e:Ty}{f:M->M}(j:∀m u hs k,f m= .row u hs k->∃hs' c,m= .row u hs' c){l:Nat->Bool}{n:List Nat->Option (List Nat)}{v:SV}(h:rowAt t e v=none):rowAt t e (v.mapM f l n)=none:=by
 cases v with
 |d v=>exact BE j h
 |box b v=>exact BE j h
 |ept=>simp only[SV.mapM];split<;>rfl
 |rdp=>simp only[SV.mapM];split<;>rfl
 |_=>rfl
def afw{T:Tr}(f:T.abQ=true){t:Nat}{e:Ty}{v:SV}(h:rowAt t e v=none):rowAt t e (T.sv v)=none:=by
 have c:∀ {d:List Nat} {v:SV},rowAt t e v=none->rowAt t e (fq d v)=none:=by
  intro d v h;unfold fq;split;exact h;exact QG (afc d) h
 cases T with
 |id=>exact h
 |kg ks j u=>
  simp only[Tr.sv,mP];split;exact c h;exact QG (aet j u) (c h)
 |el=>simp[Tr.abQ]at f
 |ki d rp=>
  simp only[Tr.sv];split;exact c h;cases v with
  |ept b e' i o p τ=>
   simp only[SV.cK];split;rfl;exact c h
  |_=>exact c h
def free_spec{a b:eG}(h:a.free b=true):abA a b:=by
 simp only[eG.free,en,kb,T_,aq6,D',d_,b_,ne_eq,ar4]at h;obtain⟨d,k⟩:=h;refine⟨λp c=>(d p c).1.1.1.1,λp c=>(d p c).1.1.1.2,λp c q f=>(d p c).1.1.2 q f,λp c t u e=> ?_,λp c q f=> ?_,?_⟩;have:=(d p c).1.2;rw[e]at this;simpa using this;rcases(d p c).2 q f with h|h;exact .inl h;simp only[Bool.or_eq_false_iff,d_]at h;exact .inr h;rcases k with h|⟨⟨⟨h,l⟩,m⟩,j⟩;exact .inl h;exact .inr ⟨h,l,m,j⟩
section
variable{C:Cx}{ops:List Oper}{nt:Nat}{F F1 F2:Env}{a b:eG}
structure Ei(b:eG)(E:Env):Prop where
 tk:∀s∈b.rs,∀t∈(E.get s).Be,t∈b.tk
 te:∀s∈b.rs,∀t∈(E.get s).xc,t∈b.te
 cl:b.cl=true->∀s∈b.rs,(E.get s).clean=true
 ra:∀s∈b.ra,(E.get s).dV=true
 dz:b.dz=true->∀p∈b.ws,pf (E.get p.1) p.2=true
 nb:∀p∈b.ws,p.1∈b.nb\/sameBox (E.get p.1) p.2=true
def afs{i:Nat}{o:Oper}{r:Tr×List (Nat×SV)}{E:Env}(h:ga ops i o E r=b):Ei b E:=by
 subst h;refine⟨λs c t e=> ?_,λs c t e=> ?_,λh s c=> ?_,λs c=> ?_,λh p d=> ?_,λp d=> ?_⟩;simp only[ga,arL];exact⟨s,c,e⟩;simp only[ga,arL];exact⟨s,c,e⟩;simp only[ga,kb]at h;exact h s c;simp only[ga,arQ]at c;exact c.2;simp only[ga,kb]at h;exact h p d;simp only[ga,T',arQ]at d|-;cases f:sameBox (E.get p.1) p.2 with
 |true=>exact .inr rfl
 |false=>exact .inl ⟨p,⟨d,by simp[f]⟩,rfl⟩
def GV(k:Eg a b)(m:∀p∈a.ws,pf (F.get p.1) p.2=true)(t:Nat)(l:t∈b.bx)(j:Nat):da t ((F.iD (a.T,a.ws)).get j)=da t (F.get j):=by
 rcases Qp F a.T a.ws j with h|⟨p,f,rfl,h⟩;rw[h,rH];rw[h]
 have n:da t p.2=false:=by
  cases c:da t p.2 with
  |false=>rfl
  |true=>
   obtain⟨u,d⟩:=jI c;exact absurd l (k.bx p f t u d)
 rw[n];cases c:da t (F.get p.1)with
 |false=>rfl
 |true=>
  obtain⟨u,d⟩:=jI c;have:=m p f;rw[d]at this;simp only[pf]at this;split at this;rename_i t' u' e;simp only[b_]at this;subst this;exact absurd l (k.bx p f _ _ e);cases this
theorem Tr.adv{T:Tr}{t:Nat}{e:Ty}{i:Int}{o:Nat}{p:List Bool}{τ:Ty}(h:t∉T.qs):T.sv (.ept t e i o p τ)= .ept t e i o p τ:=by
 cases T with
 |id=>rfl
 |kg u q x=>exact Tr.stays (T:= .kg u q x) (λc hc=>by simp only[SV.fg,arn]at hc;subst hc;exact h)
 |el q b e' l m=>
  simp only[Tr.qs]at h;simp[Tr.sv,SV.aX,SV.cj,SV.mapM,SV.setRow,h]
 |ki v y=>exact Tr.stays (T:= .ki v y) (λc hc=>by simp only[SV.fg,arn]at hc;subst hc;exact h)
theorem Tr.aex{T:Tr}{v:SV}(h:∀c∈v.Be,c∉T.gz)(l:∀c∈v.xc,c∉T.qs):T.sv v=v:=by
 cases v with
 |ept t e i o p τ=>exact Tr.adv (l t (by simp[SV.xc]))
 |_=>exact Tr.stays h
def wT{f:M->M}{c:Nat->Bool}{d:List Nat->Option (List Nat)}{v:SV}{t:Nat}{e:Ty}{i:Int}{o:Nat}{p:List Bool}{τ:Ty}(h:v.mapM f c d= .ept t e i o p τ):v= .ept t e i o p τ:=by
 cases v with
 |ept t' e' i' o' p' τ'=>simp only[SV.mapM]at h;split at h;exact h;cases h
 |rdp hs v=>simp only[SV.mapM]at h;split at h<;>cases h
 |_=>simp[SV.mapM]at h
def abg{b:Nat}{c:Ty}{y:List c.den}{m:M}{v:SV}{t:Nat}{e:Ty}{i:Int}{o:Nat}{p:List Bool}{τ:Ty}(h:v.setRow b c y m= .ept t e i o p τ):v= .ept t e i o p τ:=by
 cases v with
 |ept t' c i' o' p' τ'=>exact h
 |rdp hs v=>simp only[SV.setRow]at h;split at h<;>cases h
 |_=>simp[SV.setRow]at h
theorem Tr.afe{T:Tr}{v:SV}{t:Nat}{e:Ty}{i:Int}{o:Nat}{p:List Bool}{τ:Ty}(c:T.sv v= .ept t e i o p τ)(h:t∉T.qs):v= .ept t e i o p τ:=by
 cases T with
 |id=>exact c
 |kg ks B x=>
  simp only[Tr.sv,fq,mP]at c;split at c;split at c;exact c;exact wT c;have:=wT c;split at this;exact this;exact wT this
 |el B b I l m=>exact wT (wT (abg c))
 |ki y rp=>
  have u:(if y.isEmpty=true then v else v.kill y)= .ept t e i o p τ->v= .ept t e i o p τ:=by
   intro q;split at q;exact q;exact wT q
  simp only[Tr.sv,fq]at c;split at c;exact u c;cases v with
  |ept J I i' o' p' τ'=>
   simp only[SV.cK]at c;split at c;rename_i b' z;cases c;exact absurd (by simp only[Tr.qs,k_,T'];exact .inr (.inr ⟨(J,t),iP z,rfl⟩)) h;exact u c
  |_=>exact u c
theorem Tr.ajy{T:Tr}(u:T.ok=true){v:SV}(y:(T.sv v).clean=true)(h:∀c∈(T.sv v).Be,c∉T.gz)(q:∀c∈(T.sv v).xc,c∉T.qs):T.sv v=v:=by
 cases l:T.sv v with
 |ept t e i o p τ=>
  rw[l]at q;exact(Tr.afe l (q t (by simp[SV.xc]))).symm
 |_=>
  rw[<-l];refine Tr.nm u y ?_;rw[l]at h|-;exact h
def ak8(T:Tr){t:Nat}{u c:TV}(h:T.sv (.box t u)= .box t c):c.τ=u.τ:=by
 cases T with
 |id=>cases h;rfl
 |kg ks d x=>
  simp only[Tr.sv,fq,mP,SV.kill,SV.aX]at h;split at h<;>split at h<;>(simp only[SV.mapM,SV.box.injEq,true_and]at h;subst h;rfl)
 |el d b e l m=>simp only[Tr.sv,SV.aX,SV.cj,SV.mapM,SV.setRow,SV.box.injEq,true_and]at h;subst h;rfl
 |ki ts rp=>
  simp only[Tr.sv,fq,SV.cK,SV.kill]at h;split at h<;>split at h<;>(simp only[SV.mapM,SV.box.injEq,true_and]at h;subst h;rfl)
def Oz(T:Tr){t:Nat}{u:TV}:∃c,T.sv (.box t u)= .box t c/\c.τ=u.τ:=by
 obtain⟨c,d⟩:=jI (t:=t) (v:=T.sv (.box t u)) (by rw[rH];simp[da]);exact⟨c,d,ak8 T d⟩
def wI{v:SV}(h:v.dV=true):∃t u,v= .box t u:=by
 cases v with
 |box t u=>exact⟨t,u,rfl⟩
 |_=>simp[SV.dV]at h
def Nx(T:Tr)(v q:SV):sameBox (T.sv v) q=sameBox v q:=by
 cases c:v.dV with
 |true=>
  obtain⟨t,u,rfl⟩:=wI c;obtain⟨j,h,k⟩:=Oz T (t:=t) (u:=u);rw[h];cases q<;>simp[sameBox,k]
 |false=>
  have d:∀ {x:SV},x.dV=false->sameBox x q=false:=by
   intro x e;cases x with
   |box t u=>simp[SV.dV]at e
   |_=>rfl
  have f:(T.sv v).dV=false:=by
   cases h:(T.sv v).dV with
   |false=>rfl
   |true=>
    obtain⟨t,u,l⟩:=wI h;have:da t (T.sv v)=true:=by rw[l];simp[da]
    rw[rH]at this;obtain⟨j,m⟩:=jI this;rw[m]at c;cases c
  rw[d c,d f]
def aeV(f:Eg a b)(B:∀p∈a.ws,pf (F.get p.1) p.2=true)(l:Ei b F)(n:b.dz=true):Jg b F (F.iD (a.T,a.ws)) where
 get s hs:=by
  rw[pI (λp d e=>f.rs p d (e▸hs))];rcases f.tr with h|⟨_,h,x,_⟩;exact pF h _;exact Tr.aex (λc hc=>h c (l.tk s hs c hc)) (λc hc=>x c (l.te s hs c hc))
 ra s hs:=by
  obtain⟨t,u,z⟩:=wI (l.ra s hs);obtain⟨I,v,x⟩:=Oz a.T (t:=t) (u:=u);refine⟨t,u,I,z,?_,x⟩;rw[pI (λp d e=>f.ra p d (e▸hs)),z,v]
 box t ht j:=GV f B t ht j
 row p d e j hj hn:=by
  rcases Qp F a.T a.ws j with h|⟨q,k,rfl,h⟩;rw[h];rcases f.tr with y|⟨m|m,_⟩;rw[pF y];exact hn;rw[m]at d;cases d;exact afw m hn;rw[h];rcases f.rw q k p d with m|v;omega;exact JY v
 dz p d:=by
  rw[pI (λq k e=>f.ws q k p d e.symm)];exact aa7 (l.dz n p d)
 nb p d:=by rw[pI (λq k e=>f.ws q k p d e.symm),Nx]
def aeL(n:abA a b)(B:a.T.ok=true)(x:a.T.sD=true\/b.cl=true)(X:∀p∈a.ws,pf (F.get p.1) p.2=true)(I:Ei b (F.iD (a.T,a.ws)))(K:b.dz=true):Jg b (F.iD (a.T,a.ws)) F where
 get s hs:=by
  have l:=pI (E:=F) (T:=a.T) (ws:=a.ws) (j:=s) (λp k e=>n.rs p k (e▸hs));rcases n.tr with h|⟨_,h,S,_⟩;rw[l,pF h];rcases x with hi|x;rw[l,pF hi];have m:=I.cl x s hs;have z:=I.tk s hs;have J:=I.te s hs;rw[l]at m z J|-;exact(Tr.ajy B m (λc hc=>h c (z c hc)) (λc hc=>S c (J c hc))).symm
 ra s hs:=by
  have l:=pI (E:=F) (T:=a.T) (ws:=a.ws) (j:=s) (λp k e=>n.ra p k (e▸hs));obtain⟨t,u,m⟩:=wI (I.ra s hs);have J:da t (F.get s)=true:=by rw[<-rH a.T,<-l,m];simp[da]
  obtain⟨u0,R⟩:=jI J;obtain⟨W,z,S⟩:=Oz a.T (t:=t) (u:=u0);rw[l,R,z]at m;simp only[SV.box.injEq,true_and]at m;exact⟨t,W,u0,by rw[l,R,z],R,S.symm⟩
 box t ht j:=(GV n.toF X t ht j).symm
 row p k e j hj hn:=by
  have N:a.T.sD=true:=by
   rcases n.tr with h|⟨h,_⟩;exact h;rw[h]at k;cases k
  rcases Qp F a.T a.ws j with h|⟨q,y,rfl,h⟩;rw[h,pF N]at hn;exact hn;have f:=X q y;cases Y:F.get q.1 with
  |d v=>
   rw[Y]at f;rw[En (.inl rfl),en]at f;have:(SV.d v).fg=[]:=by simpa using f.2
   exact OG rfl (by rw[this];simp)
  |box t u=>
   rw[Y]at f;simp only[pf]at f;split at f;rename_i t' W e;rcases n.rw q y p k with h'|⟨m,z⟩;omega;rw[e]at m;simp[SV.dV]at m;cases f
  |_=>rfl
 dz p k:=by
  have l:=pI (E:=F) (T:=a.T) (ws:=a.ws) (j:=p.1) (λq y e=>n.ws q y p k e.symm);have:=I.dz K p k;rw[l]at this;exact aaI B this
 nb p k:=by rw[pI (λq y e=>n.ws q y p k e.symm),Nx]
def xI(C:Cx)(ops:List Oper)(nt:Nat)(E:Env)(b:eG)(E':Env):Prop:=
 ∃o act c,ops[b.i]?=some o/\guardOf ops E.rd o.guard=some act/\oj C ops E.rd (nt+32*b.i) o.guard o=some c/\
  kj o act c=some (b.T,b.ws)/\ga ops b.i o E (b.T,b.ws)=b/\E'=E.iD (b.T,b.ws)
theorem xI.adb(h:xI C ops nt F b F1){c:Env}(q:Jg b F c)(l:b.fd=true)(p:b.dz=true):xI C ops nt c b (c.iD (b.T,b.ws)):=by
 obtain⟨o,act,v,y,z,B,I,e,h6⟩:=h;have u:=abK (ops:=ops) (i:=b.i) (o:=o) (E:=F) (E':=c) (r:=(b.T,b.ws)) (by rw[e];exact q) (by rw[e];exact l) (by rw[e];exact p);obtain⟨J,K,N⟩:=u;exact⟨o,act,v,y,by rw[K];exact z,by rw[aff J];exact B,I,by rw[N];exact e,rfl⟩
theorem xI.EU(h:xI C ops nt F b F1):Ei b F:=by
 obtain⟨o,act,ef,h1,h2,h3,h4,c,h6⟩:=h;exact afs c
theorem xI.iD(h:xI C ops nt F b F1):F1=F.iD (b.T,b.ws):=by
 obtain⟨o,act,ef,h1,h2,h3,h4,h5,h6⟩:=h;exact h6
theorem Lf{f:SV->SV}:∀ {ws:List (Nat×SV)} {L:List SV},(∀p∈ws,f p.2=p.2)->(fC ws L).map f=fC ws (L.map f)
 | [],_,_=>rfl
 |p::ws,L,h=>by
  show(fC ws (L.set p.1 p.2)).map f=fC ws ((L.map f).set p.1 p.2);rw[Lf (λq c=>h q (by simp[c])),List.map_set,h p (by simp)]
theorem K8:∀ {ws:List (Nat×SV)} {L:List SV} {s:Nat} {v:SV},(∀p∈ws,p.1≠s)->(fC ws L).set s v=fC ws (L.set s v)
 | [],_,_,_,_=>rfl
 |p::ws,L,s,v,h=>by
  show(fC ws (L.set p.1 p.2)).set s v=fC ws ((L.set s v).set p.1 p.2);rw[K8 (λq c=>h q (by simp[c])),List.set_comm _ _ (h p (by simp))]
theorem TY:∀ {ws c:List (Nat×SV)} {L:List SV},(∀p∈ws,∀q∈c,q.1≠p.1)->fC ws (fC c L)=fC c (fC ws L)
 | [],_,_,_=>rfl
 |p::ws,c,L,h=>by
  show fC ws ((fC c L).set p.1 p.2)=fC c (fC ws (L.set p.1 p.2));rw[K8 (h p (by simp)),TY (λq d=>h q (by simp[d]))]
def agr(f:Eg a b)(l:Eg b a)(m:a.T.sD=true\/b.T.sD=true):(F.iD (a.T,a.ws)).iD (b.T,b.ws)=(F.iD (b.T,b.ws)).iD (a.T,a.ws):=by
 have j:∀ {c d:eG},Eg c d->∀p∈d.ws,c.T.sv p.2=p.2:=by
  intro c d h p k;rcases h.tr with h|⟨_,_,_,h⟩;exact pF h _;exact Tr.aex (h p k).1 (h p k).2
 refine Env.ext' ?_ rfl;show fC b.ws ((fC a.ws (F.s.map a.T.sv)).map b.T.sv)=fC a.ws ((fC b.ws (F.s.map b.T.sv)).map a.T.sv);rw[Lf (j l),Lf (j f),TY (λp k q n e=>f.ws q n p k e.symm)];congr 2;rw[arR,arR];refine arj (λv _=> ?_);simp only[asp];rcases m with h|h;rw[pF h,pF h];rw[pF h,pF h]
theorem xI.swap(y:xI C ops nt F a F1)(z:xI C ops nt F1 b F2)(hi:a.ind b=true):∃p,xI C ops nt F b p/\xI C ops nt p a F2:=by
 simp only[eG.ind,en,T_]at hi;obtain⟨⟨⟨⟨⟨⟨⟨⟨⟨⟨h,l⟩,K⟩,q⟩,hbok⟩,N⟩,u⟩,v⟩,c⟩,e⟩,_⟩:=hi;have h:=free_spec h;have l:=abT l;have R:=y.EU;have S:=z.EU;have B:=y.iD;have Y:=z.iD;rw[B]at S;have I:=R.dz c;have W:=aeL h q N I S e;rw[<-B]at W;have X:=z.adb W v e;have J:=X.EU;have ka:=aeV l (J.dz e) R c;have g2:=y.adb ka u c;refine⟨_,X,?_⟩;rw[Y,B,agr h.toF l K];exact g2
/-copies-/
theorem yE{f:M->M}{c:Nat->Bool}{e:List Nat->Option (List Nat)}:∀(v:SV),cA (v.mapM f c e)=(cA v).mapM f c e
 | .no| .d _| .box _ _| .ptr ..| .tup _=>rfl
 | .ept ..=>by simp only[SV.mapM,cA];split<;>rfl
 | .rdp hs v=>by simp only[SV.mapM,cA];split<;>rfl
 | .g j w a v=>by simp only[SV.mapM,cA,yE v]
theorem Hi{b:Nat}{e:Ty}{y:List e.den}{m:M}:∀(v:SV),cA (v.setRow b e y m)=(cA v).setRow b e y m
 | .no| .d _| .box _ _| .ptr ..| .tup _| .ept ..=>rfl
 | .rdp hs v=>by simp only[SV.setRow,cA];split<;>rfl
 | .g j w a v=>by simp only[SV.setRow,cA,Hi v]
def agc(T:Tr)(v:SV):cA (T.sv v)=T.sv (cA v):=by
 cases T with
 |id=>rfl
 |kg ks f u=>
  simp only[Tr.sv,fq,mP];split<;>split<;>simp only[SV.aX,SV.kill,yE]
 |el f b e l m=>simp only[Tr.sv,SV.cj,SV.aX,yE,Hi]
 |ki c rp=>
  have d:∀v:SV,cA (if c.isEmpty=true then v else v.kill c)=if c.isEmpty=true then cA v else(cA v).kill c:=by
   intro v;split;rfl;simp only[SV.kill,yE]
  simp only[Tr.sv,fq];split;exact d v;cases v with
  |ept b e i o p τ=>
   simp only[SV.cK,cA];split;rfl;exact d _
  |_=>exact d _
def aka(T:Tr)(j:Nat)(w a:Bool)(v:SV):∃c,T.sv (.g j w a v)= .g j w a c:=by
 cases T with
 |id=>exact⟨v,rfl⟩
 |kg ks d u=>simp only[Tr.sv,fq,mP];split<;>split<;>simp[SV.aX,SV.kill,SV.mapM]
 |el d b e l m=>simp[Tr.sv,SV.cj,SV.aX,SV.mapM,SV.setRow]
 |ki ts rp=>simp only[Tr.sv,fq];split<;>(try simp only[SV.cK])<;>split<;>simp[SV.kill,SV.mapM]
def SV.O1:SV->Bool
 | .g _ _ _ _=>true
 |_=>false
def adN(v:SV):v.O1=(v.kd==7):=by cases v<;>rfl
def aki(T:Tr)(v:SV):(T.sv v).O1=v.O1:=by
 rw[adN,adN];rcases P5 T v with h|⟨h,e⟩;rw[h];rw[e];rcases h with h|h<;>rw[h]<;>rfl
def adW(T:Tr)(l:List TV):∃f:TV->TV,T.sv (.tup l)= .tup (l.map f)/\∀x,T.sv (.d x)= .d (f x):=by
 cases T with
 |id=>exact⟨λx=>x,by simp[Tr.sv],λ_=>rfl⟩
 |kg ks c u=>
  simp only[Tr.sv,fq,mP];split<;>split;exact⟨λx=>x,by simp,λ_=>rfl⟩;exact⟨_,rfl,λ_=>rfl⟩;exact⟨_,rfl,λ_=>rfl⟩;refine⟨_,by simp only[SV.aX,SV.kill,SV.mapM,arR];rfl,λ_=>rfl⟩
 |el c b e l' m=>
  refine⟨_,by simp only[Tr.sv,SV.cj,SV.aX,SV.mapM,SV.setRow,arR];rfl,λ_=>rfl⟩
 |ki ts rp=>
  simp only[Tr.sv,fq];split<;>(try simp only[SV.cK])<;>split;exact⟨λx=>x,by simp,λ_=>rfl⟩;exact⟨_,rfl,λ_=>rfl⟩;exact⟨λx=>x,by simp,λ_=>rfl⟩;exact⟨_,rfl,λ_=>rfl⟩
def ai6(T:Tr)(v:SV):(T.sv v).kd=6↔v.kd=6:=by
 rcases P5 T v with h|⟨h,e⟩;rw[h];rw[e];rcases h with h|h<;>rw[h]<;>decide
def akl{j:Nat}{v:SV}(h:v.kd≠6):xy (some j) v=none:=by
 cases v with
 |tup l=>exact absurd rfl h
 |_=>rfl
def akd(T:Tr)(j:Option Nat)(v:SV):xy j (T.sv v)=(xy j v).map T.sv:=by
 cases j with
 |none=>
  have e:=aki T v;cases d:v.O1 with
  |true=>
   cases v with
   |g j w a v=>obtain⟨v',h⟩:=aka T j w a v;rw[h];rfl
   |_=>simp[SV.O1]at d
  |false=>
   rw[d]at e
   have c:∀ {u:SV},u.O1=false->xy none u=some (cA u):=by
    intro u k;cases u with
    |g=>simp[SV.O1]at k
    |_=>rfl
   rw[c e,c d,agc];rfl
 |some j=>
  cases v with
  |tup l=>
   obtain⟨f,c,m⟩:=adW T l;rw[c];simp only[xy,ass];cases l[j]? with
   |none=>rfl
   |some x=>simp[m]
  |_=>
   rw[akl (by rw[Ne,ai6];simp[SV.kd])];rfl
def Z2:∀(v:SV),(cA v).dV=false
 | .no| .d _| .box _ _| .ptr ..| .tup _| .ept ..| .rdp ..| .g ..=>rfl
def Fa{j:Option Nat}{v x:SV}(h:xy j v=some x):x.dV=false/\x.kT=x:=by
 cases j with
 |none=>
  cases v with
  |g=>simp[xy]at h
  |_=>simp only[xy,hJ]at h;subst h;exact⟨Z2 _,rfl⟩
 |some j=>
  cases v with
  |tup l=>simp only[xy,arJ]at h;obtain⟨y,_,rfl⟩:=h;exact⟨rfl,rfl⟩
  |_=>simp[xy]at h
theorem ED{t:Nat}{e:Ty}:∀ {τ:Ty} {x:τ.den} {sh:Sh},τ.flat=true->je t e τ x sh=none
 | .int _,_,sh,_| .bool,_,sh,_| .str,_,sh,_=>by cases sh<;>rfl
 | .sl _,_,_,h=>by simp[Ty.flat]at h
 | .pair a b,x,.pair s1 s2,h=>by
   simp only[Ty.flat,en]at h;simp only[je,ED h.1,ED h.2]
 | .pair a b,x,.leaf,_| .pair a b,x,.sl _,_=>by simp[je]
def adB{t:Nat}{e:Ty}{x:SV}(h:Kt x=true):rowAt t e x=none:=by
 cases x with
 |d v=>exact ED h
 |_=>first|rfl|simp[Kt]at h
def an3(T:Tr)(v:TV):∃u:TV,T.sv (.d v)= .d u/\u.τ=v.τ:=by
 cases T with
 |id=>exact⟨v,rfl,rfl⟩
 |kg ks c u=>simp only[Tr.sv,fq,mP];split<;>split<;>exact⟨_,rfl,rfl⟩
 |el c b e l m=>exact⟨_,rfl,rfl⟩
 |ki ts rp=>simp only[Tr.sv,fq];split<;>(try simp only[SV.cK])<;>split<;>exact⟨_,rfl,rfl⟩
def akB(v:SV)(h:v.kd=0\/v.kd=3\/v.kd=4\/v.kd=5):Kt v=true:=by
 cases v<;>simp_all[SV.kd,Kt]
def aeT(T:Tr)(x:SV):Kt (T.sv x)=Kt x:=by
 cases x with
 |d v=>obtain⟨u,c,e⟩:=an3 T v;rw[c];simp only[Kt,e]
 |g j w a v=>obtain⟨v',h⟩:=aka T j w a v;rw[h];rfl
 |tup l=>obtain⟨f,h,_⟩:=adW T l;rw[h];rfl
 |box t u=>obtain⟨u',h,_⟩:=Oz T (t:=t) (u:=u);rw[h];rfl
 |_=>
  rw[akB (T.sv _) (by
   rcases P5 T _ with h|⟨_,h⟩;rw[h];simp[SV.kd];rw[h];simp[SV.kd])]
  rfl
def Fb(ops:List Oper)(E:Env)(b:eG)(c:Nat×Nat×Option Nat×Bool)(E':Env):Prop:=
 ∃o x,ops[b.i]?=some o/\XM o=some (c.1,c.2.1,c.2.2.1)/\xy c.2.2.1 (E.get c.2.1)=some x/\c.2.2.2=Kt x/\(b.dz=true->pf (E.get c.1) .no=true)/\E'=E.set (some c.1) x
def ur(C:Cx)(ops:List Oper)(nt:Nat)(E:Env)(b:eG)(E':Env):Prop:=
 match b.cp with
 |none=>xI C ops nt E b E'
 |some c=>Fb ops E b c E'
def l0(E:Env)(d s:Nat)(x:SV)(h:s≠d):(E.set (some d) x).get s=E.get s:=by
 show(E.s.set d x).getD s .no=E.s.getD s .no;rw[fA,a_ (λe=>h e.1)]
def yt(E:Env)(d s:Nat)(x:SV):(E.set (some d) x).get s=E.get s\/(s=d/\(E.set (some d) x).get s=x):=by
 show(E.s.set d x).getD s .no=E.s.getD s .no\/_;rw[fA];by_cases h:s=d/\d<E.s.length;right;refine⟨h.1,?_⟩;show(E.s.set d x).getD s .no=x;rw[fA,an h];left;rw[a_ h]
def UN{v:SV}(h:pf v .no=true):v.dV=false:=by
 cases v with
 |box t u=>simp[pf]at h
 |_=>rfl
def adZ{t:Nat}{e:Ty}{v:SV}(h:pf v .no=true):rowAt t e v=none:=by
 cases v with
 |d v=>
  rw[En (.inl rfl),en]at h;have:(SV.d v).fg=[]:=by simpa using h.2
  exact OG rfl (by rw[this];simp)
 |box t u=>simp[pf]at h
 |_=>rfl
def aeU{d s:Nat}{e z:Bool}{x:SV}(hi:eG.Ca d s e z b=true)(J:Ei b F)(R:x.dV=false)(S:e=true->Kt x=true)(m:pf (F.get d) .no=true):Jg b F (F.set (some d) x):=by
 simp only[eG.Ca,en,aq6,D',d_,kb,T_,b_,ne_eq,decide_not]at hi;obtain⟨⟨⟨⟨⟨⟨⟨⟨hz,n⟩,q⟩,k⟩,hnb⟩,y⟩,hfd⟩,B⟩,hok⟩:=hi;have W:=UN m;refine⟨λs l=>l0 _ _ _ _ (λe=>n (e▸l)),λs l=> ?_,λt ht j=> ?_,λp c e' j hj N=> ?_,λp c=> ?_,λp c=> ?_⟩;obtain⟨t,u,f⟩:=wI (J.ra s l);exact⟨t,u,u,f,by rw[l0 _ _ _ _ (λe:s=d=>q (e▸l)),f],rfl⟩;rcases yt F d j x with h|⟨rfl,h⟩;rw[h];rw[h]
 have f:∀ {v:SV},v.dV=false->da t v=false:=by
  intro v I;cases X:da t v with
  |false=>rfl
  |true=>obtain⟨u,Y⟩:=jI X;rw[Y]at I;cases I
 rw[f R,f W];rcases yt F d j x with h|⟨rfl,h⟩;rw[h];exact N;rw[h];rcases y p c with K|K;exact adB (S K);omega;rw[l0 _ _ _ _ (by simpa using k p c)];exact J.dz B p c;rw[l0 _ _ _ _ (by simpa using k p c)]
def Zu{d s:Nat}{e z:Bool}{x:SV}(hi:eG.Ca d s e z b=true)(J:Ei b (F.set (some d) x))(R:x.dV=false)(f:pf (F.get d) .no=true):Jg b (F.set (some d) x) F:=by
 simp only[eG.Ca,en,aq6,D',d_,kb,T_,b_,ne_eq,decide_not]at hi;obtain⟨⟨⟨⟨⟨⟨⟨⟨hz,n⟩,q⟩,l⟩,hnb⟩,y⟩,hfd⟩,B⟩,hok⟩:=hi;have S:=UN f;refine⟨λs m=>(l0 _ _ _ _ (λe:s=d=>n (e▸m))).symm,λs m=> ?_,λt ht j=> ?_,λp c e' j hj N=> ?_,λp c=> ?_,λp c=> ?_⟩;obtain⟨t,u,k⟩:=wI (J.ra s m);exact⟨t,u,u,k,by rw[<-k,l0 _ _ _ _ (λe:s=d=>q (e▸m))],rfl⟩;rcases yt F d j x with h|⟨rfl,h⟩;rw[h];rw[h]
 have k:∀ {v:SV},v.dV=false->da t v=false:=by
  intro v I;cases W:da t v with
  |false=>rfl
  |true=>obtain⟨u,X⟩:=jI W;rw[X]at I;cases I
 rw[k R,k S];rcases yt F d j x with h|⟨rfl,h⟩;rw[<-h];exact N;rcases y p c with Y|Y;exact adZ f;omega;have K:=J.dz B p c;rw[l0 _ _ _ _ (by simpa using l p c)]at K;exact K;rw[l0 _ _ _ _ (by simpa using l p c)]
theorem eG.aaK{d s:Nat}{e z:Bool}(hi:eG.Ca d s e z b=true):z=true/\(∀q∈b.ws,q.1≠d)/\s∉b.nb/\b.fd=true/\b.dz=true/\b.T.ok=true:=by
 simp only[eG.Ca,en,aq6,D',d_,kb,T_,b_,ne_eq,decide_not]at hi;obtain⟨⟨⟨⟨⟨⟨⟨⟨y,hrs⟩,hra⟩,c⟩,h⟩,hrw⟩,l⟩,p⟩,u⟩:=hi;exact⟨y,λq v=>by simpa using c q v,h,l,p,u⟩
def akP(T:Tr){t o:Nat}{p:List Bool}{τ:Ty}:T.sv (.ptr t o p τ)= .ptr t o p τ:=by
 cases T with
 |id=>rfl
 |kg ks c u=>simp only[Tr.sv,fq,mP];split<;>split<;>rfl
 |el c b e l m=>rfl
 |ki ts rp=>simp only[Tr.sv,fq];split<;>(try simp only[SV.cK])<;>split<;>rfl
def ae7{s:Nat}{j:Option Nat}(f:Ei b F)(hs:s∉b.nb):xy j ((F.iD (b.T,b.ws)).get s)=(xy j (F.get s)).map b.T.sv:=by
 rcases Qp F b.T b.ws s with h|⟨p,k,rfl,h⟩;rw[h,akd];rw[h];rcases f.nb p k with c|c;exact absurd c hs;cases d:F.get p.1 with
 |box t u=>
  rw[d]at c;cases e:p.2 with
  |box t' u'=>
   rw[e]at c;simp only[sameBox,en,b_]at c;obtain⟨rfl,c⟩:=c;cases j with
   |none=>simp only[xy,cA,Option.map_some,akP,c]
   |some j=>rfl
  |_=>rw[e]at c;simp[sameBox]at c
 |_=>rw[d]at c;simp[sameBox]at c
def aaN{d:Nat}{x:SV}{T:Tr}{ws:List (Nat×SV)}(h:∀q∈ws,q.1≠d):(F.set (some d) x).iD (T,ws)=(F.iD (T,ws)).set (some d) (T.sv x):=by
 refine Env.ext' ?_ rfl;show fC ws ((F.s.set d x).map T.sv)=(fC ws (F.s.map T.sv)).set d (T.sv x);rw[List.map_set,K8 h]
theorem Fb.swap{c:Nat×Nat×Option Nat×Bool}(I:Fb ops F a c F1)(q:xI C ops nt F1 b F2)(hi:eG.Ca c.1 c.2.1 c.2.2.2 a.dz b=true):∃e,xI C ops nt F b e/\Fb ops e a c F2:=by
 obtain⟨o,x,q1,q2,q3,q4,q5,rfl⟩:=I;obtain⟨B,h,u,v,y,hok⟩:=eG.aaK hi;have J:=Fa q3;have K:=Zu hi q.EU J.1 (q5 B);have z:=q.adb K v y;refine⟨_,z,o,b.T.sv x,q1,q2,?_,by rw[aeT];exact q4,λ_=> ?_,?_⟩
 ·rw[ae7 z.EU u,q3];rfl
 ·rw[pI (λp l=>h p l)];exact aa7 (q5 B)
 ·rw[q.iD];exact aaN (λp l=>h p l)
theorem Fb.swap'{c:Nat×Nat×Option Nat×Bool}(l:xI C ops nt F b F1)(J:Fb ops F1 a c F2)(hi:eG.Ca c.1 c.2.1 c.2.2.2 a.dz b=true):∃h,Fb ops F a c h/\xI C ops nt h b F2:=by
 obtain⟨o,x,q1,q2,q3,q4,q5,rfl⟩:=J;obtain⟨R,u,y,z,B,I⟩:=eG.aaK hi;rw[l.iD]at q3 q5;rw[ae7 l.EU y,arJ]at q3;obtain⟨S,q3,rfl⟩:=q3;have q:=q5 R;rw[pI (λp v=>u p v)]at q;have q:=aaI I q;rw[aeT]at q4;have K:=Fa q3;have N:=aeU hi l.EU K.1 (λe=>by rw[<-q4];exact e) q;refine⟨_,⟨o,S,q1,q2,q3,q4,λ_=>q,rfl⟩,?_⟩;have g:=l.adb N z B;rw[aaN (λp v=>u p v)]at g;rw[l.iD];exact g
theorem ur.swap(h:ur C ops nt F a F1)(e:ur C ops nt F1 b F2)(hi:a.Tw b=true):∃l,ur C ops nt F b l/\ur C ops nt l a F2:=by
 unfold ur at h e|-;unfold eG.Tw at hi;cases v:a.cp with
 |none=>
  rw[v]at h hi;cases p:b.cp with
  |none=>rw[p]at e hi;exact h.swap e hi
  |some c=>rw[p]at e hi;exact Fb.swap' h e hi
 |some c=>
  rw[v]at h hi;cases p:b.cp with
  |none=>rw[p]at e hi;exact Fb.swap h e hi
  |some B=>
   rw[p]at e hi;obtain⟨o,x,q1,q2,q3,q4,q5,rfl⟩:=h;obtain⟨I,q,J,K,y,N,z,rfl⟩:=e;simp only[ne_eq,decide_not,en,aq6,d_]at hi;obtain⟨⟨u,R⟩,S⟩:=hi;rw[l0 _ _ _ _ S]at y;rw[l0 _ _ _ _ (Ne.symm u)]at z;refine⟨_,⟨I,q,J,K,y,N,z,rfl⟩,o,x,q1,q2,by rw[l0 _ _ _ _ R];exact q3,q4,by rw[l0 _ _ _ _ u];exact q5,?_⟩;refine Env.ext' ?_ rfl;show((F.s.set c.1 x).set B.1 q)=((F.s.set B.1 q).set c.1 x)
   exact List.set_comm _ _ u
theorem ur.len(h:ur C ops nt F b F1):F1.s.length=F.s.length:=by
 unfold ur at h;split at h;rw[h.iD];simp[Env.iD,Xd];obtain⟨o,x,_,_,_,_,_,rfl⟩:=h;simp[Env.set]
def Hu{o:Oper}{d s:Nat}{j:Option Nat}(h:XM o=some (d,s,j)):o.guard=none/\o.dst=some d/\((j=none/\(o.op= .move (.tmp s)\/o.op= .assign (.tmp s)))\/∃i,j=some i/\o.op= .extract (.tmp s) i):=by
 unfold XM at h;split at h;rename_i e f;split at h;rename_i c;cases h;exact⟨e,f,.inl ⟨rfl,.inl c⟩⟩;rename_i c;cases h;exact⟨e,f,.inl ⟨rfl,.inr c⟩⟩;rename_i c;cases h;exact⟨e,f,.inr ⟨_,rfl,c⟩⟩;cases h;cases h
def aaB{o:Oper}{d s:Nat}{j:Option Nat}(h:XM o=some (d,s,j)){E:Env}{tk:Nat}:oj C ops E.rd tk none o=(xy j (E.get s)).map .val:=by
 obtain⟨_,_,c⟩:=Hu h;clear h
 have e:∀t,arg C E.rd none t (.tmp s)=(cA (E.get s) |> λv=>if v.O1=true then none else some v):=by
  intro t;simp only[arg,gR,Env.rd,arx];cases E.get s<;>rfl
 have f:sX C ops E.rd tk o=none:=by
  unfold sX;rcases c with⟨_,c|c⟩|⟨i,_,c⟩<;>rw[c]
 simp only[oj,f];unfold bK;rcases c with⟨rfl,c|c⟩|⟨i,rfl,c⟩;rw[c];simp only[e];cases E.get s<;>rfl;rw[c];simp only[e];cases E.get s<;>rfl;rw[c];simp only[e];cases E.get s with
 |tup l=>simp only[cA,SV.O1,xy,arb,if_false,Option.map_map];rfl
 |_=>rfl
theorem ur.run(h:ur C ops nt F b F1):∃o act c,ops[b.i]?=some o/\guardOf ops F.rd o.guard=some act/\oj C ops F.rd (nt+32*b.i) o.guard o=some c/\bH o act F some c=some F1:=by
 unfold ur at h;split at h;obtain⟨o,act,c,l,p,q,u,h5,h6⟩:=h;refine⟨o,act,c,l,p,q,?_⟩;rw[Zr,u,h6];rfl;obtain⟨o,x,q1,q2,q3,q4,q5,rfl⟩:=h;obtain⟨e,v,_⟩:=Hu q2;refine⟨o,none,.val x,q1,by rw[e];rfl,by rw[e,aaB q2,q3];rfl,?_⟩;simp only[bH,e,v,eQ,(Fa q3).2]
end
def zG(o:Oper):List Nat:=(o.after.toList.filter (Region.binds .any)).map (·.on)
theorem aeM(acc:List Nat):∀(d:List Nat) (m x:Nat),(d.foldl (λm j=>m ||| (2^j ||| acc.getD j 0)) m).testBit x=true->m.testBit x=true\/x∈d\/∃j∈d,(acc.getD j 0).testBit x=true
 | [],m,x,h=> .inl h
 |j::d,m,x,h=>by
  rcases aeM acc d _ x h with h|h|⟨k,c,h⟩;rw[Nat.testBit_or,Nat.testBit_or,Nat.testBit_two_pow]at h;simp only[T_,b_]at h;rcases h with h|h|h;exact .inl h;exact .inr (.inl (by rw[h];exact asq));exact .inr (.inr ⟨j,asq,h⟩);exact .inr (.inl (aq4 _ h));exact .inr (.inr ⟨k,aq4 _ c,h⟩)
theorem aa6:∀(l:List Oper) (acc:List Nat),∃R,l.foldl (λacc o=>
 acc++[((o.after.toList.filter (Region.binds .any)).map (·.on)).foldl (λm j=>m ||| (2^j ||| acc.getD j 0)) 0]) acc=R/\R.take acc.length=acc/\
 ∀m o,l[m]?=some o->R.getD (acc.length+m) 0=(zG o).foldl (λq j=>q ||| (2^j ||| (R.take (acc.length+m)).getD j 0)) 0
 | [],acc=>⟨acc,rfl,by simp,by simp⟩
 |o::l,acc=>by
  obtain⟨R,k,e,n⟩:=aa6 l (acc++[(zG o).foldl (λm j=>m ||| (2^j ||| acc.getD j 0)) 0])
  have c:R.take acc.length=acc:=by
   have:=congrArg (List.take acc.length) e;simpa[asF]using this
  refine⟨R,k,c,λm f d=> ?_⟩;cases m with
  |zero=>
   simp only[ar7,hJ]at d;subst d;simp only[Nat.add_zero];rw[c]
   have h:R.getD acc.length 0=(R.take (acc.length+1)).getD acc.length 0:=by
    simp[D_,aro]
   rw[h];simp only[arc,arM]at e;rw[e];simp[D_]
  |succ m=>
   simp only[ark]at d;have:=n m f d;simp only[arc,arM]at this;rw[show acc.length+(m+1)=acc.length+1+m by omega];exact this
def ahn{ops:List Oper}{i j:Nat}(h:((Lk ops).getD i 0).testBit j=true){o:Oper}(e:ops[i]?=some o):j∈zG o\/∃k∈zG o,k<i/\((Lk ops).getD k 0).testBit j=true:=by
 obtain⟨R,f,_,l⟩:=aa6 ops [];have d:Lk ops=R:=f;have:=l i o e;simp only[List.length_nil,Nat.zero_add]at this;rw[d,this]at h;rcases aeM _ _ _ _ h with h|h|⟨k,m,h⟩;simp at h;exact .inl h;refine .inr ⟨k,m,?_⟩;rw[D_,aro]at h;split at h;rename_i c;rw[d,D_];exact⟨c,h⟩;simp at h
section
variable{C:Cx}{ops:List Oper}{nt:Nat}
def uR(C:Cx)(ops:List Oper)(nt:Nat):List eG->Env->Env->Prop
 | [],E,E'=>E=E'
 |b::l,E,E'=>∃F,ur C ops nt E b F/\uR C ops nt l F E'
def aem{ρ:Type}(o:Oper)(a:Option Bool)(d:Ef)(k:Tr×List (Nat×SV)->Option ρ):ud o a d k=(kj o a d).bind k:=by
 cases d with
 |val v=>rfl
 |chk c v=>simp only[ud,kj];split<;>split<;>rfl
 |opt α z x f=>simp only[ud,kj,ast];rfl
 |put b s v=>simp only[ud,kj];split<;>rfl
 |app c kl h t v=>simp only[ud,kj];split<;>(try split)<;>rfl
 |elem h b e l m=>simp only[ud,kj];split<;>rfl
 |nap c h b e l m v=>simp only[ud,kj];split<;>(try split)<;>rfl
 |call α x tks f rp=>simp only[ud,kj];split
                     simp only[ast];rfl;rfl
def agi{i:Nat}{o:Oper}{E:Env}{r:Tr×List (Nat×SV)}:(zK ops i o E r).i=i:=by
 unfold zK;split<;>rfl
def aia{i:Nat}{o:Oper}{E:Env}{T:Tr}{ws:List (Nat×SV)}{a:Option Bool}{f:Ef}(m:ops[i]?=some o)(e:guardOf ops E.rd o.guard=some a)(c:oj C ops E.rd (nt+32*i) o.guard o=some f)
 (k:kj o a f=some (T,ws)):ur C ops nt E (zK ops i o E (T,ws)) (E.iD (T,ws)):=by
 unfold zK;split;rename_i d s j hc;obtain⟨n,p,_⟩:=Hu hc;rw[n]at e c;rw[aaB hc,arJ]at c;obtain⟨x,l,rfl⟩:=c;simp only[guardOf,hJ]at e;subst e;simp only[kj,n,p,eQ,wr,(Fa l).2,hJ,aq9]at k;obtain⟨rfl,rfl⟩:=k;refine⟨o,x,m,hc,l,by rw[l],λh=>h,?_⟩;refine Env.ext' ?_ rfl;show fC [(d,x)] (E.s.map λv=>v)=E.s.set d x;simp[fC];exact⟨o,a,f,m,e,c,k,rfl,rfl⟩
theorem IE{ρ:Type}{k:Env->List eG->Option ρ}{r:ρ}:∀ {l:List Oper} {i:Nat} {E:Env} {L:List eG},ops.drop i=l->CJ C ops nt l i E L k=some r->
 ∃bs E',uR C ops nt bs E E'/\bs.map (·.i)=asa i l.length/\k E' (bs.reverse++L)=some r
 | [],i,E,L,_,h=>⟨[],E,rfl,rfl,h⟩
 |o::l,i,E,L,hd,h=>by
  have e:ops[i]?=some o:=by
   have:=congrArg List.head? hd;simpa[ar8]using this
  simp only[CJ]at h;split at h;cases h;rename_i a d;split at h;cases h;rename_i ef c;rw[aem,aq3]at h;obtain⟨⟨T,ws⟩,f,h⟩:=h;obtain⟨bs,E',j,m,n⟩:=IE (l:=l) (i:=i+1) (by rw[<-art,hd];rfl) h;refine⟨zK ops i o E (T,ws)::bs,E',⟨_,aia e d c f,j⟩,?_,?_⟩;simp only[arl,m,ara,ar5,agi];simpa using n
theorem uR.front:∀ {pre:List eG} {b:eG} {post:List eG} {E E':Env},uR C ops nt (pre++b::post) E E'->(∀a∈pre,a.Tw b=true)->∃F,ur C ops nt E b F/\uR C ops nt (pre++post) F E'
 | [],b,post,E,E',h,_=>h
 |a::pre,b,post,E,E',h,hi=>by
  obtain⟨F,e,l⟩:=h;obtain⟨F2,p,q⟩:=uR.front l (λc hc=>hi c (by simp[hc]));obtain⟨F1,u,h6⟩:=e.swap p (hi a (by simp));exact⟨F1,u,F2,h6,q⟩
end
section
variable{P:Program}{C:Cx}{w0:World}{c0:C0}{E:Env}{a:Act}{w:World}{G:Gh}{ops:List Oper}{Q:Exit->Act->World->Prop}
def IW{io:List Nat}(f:keeps io ops=true){o:Oper}(h:o∈ops){v:Value}{i:Nat}(hi:i∈io):(a.put o.dst v).tmps.getD i undef=a.tmps.getD i undef:=by
 simp only[keeps,kb]at f;have:=f o h;cases j:o.dst with
 |none=>rfl
 |some d=>
  rw[j]at this;simp only[aq6,D',d_]at this;have c:d≠i:=λe=>this (e▸hi);simp[Act.put,arw,Array.getElem?_setIfInBounds_ne c]
def Mz{o:Oper}{j:Nat}:j∈zG o↔∃e∈o.after,Region.binds .any e=true/\e.on=j:=by
 unfold zG;simp only[T',arQ,Array.mem_toList_iff];constructor;rintro⟨e,⟨c,d⟩,f⟩;exact⟨e,c,d,f⟩;rintro⟨e,c,d,f⟩;exact⟨e,⟨c,d⟩,f⟩
def aam{c:Array Bool}(l:∀i o,ops[i]?=some o->c.getD i true=true->∀j∈zG o,c.getD j false=true)
 (m:c.size=ops.length):∀(i:Nat) {o:Oper},ops[i]?=some o->(∀j∈zG o,c.getD j false=true)->∀j,((Lk ops).getD i 0).testBit j=true->c.getD j false=true:=by
 intro i
 induction i using Nat.strongRecOn with
 |_ i u=>
  intro o s q j t;rcases ahn t s with h|⟨k,v,p,h⟩;exact q j h;have d:=q k v
  have n:k<ops.length:=by
   rcases arF k ops.length with h|h;exact h;rw[<-m]at h;simp[ary,asz.2 h]at d
  have e:ops[k]?=some ops[k]:=H_ n
  have f:c.getD k true=true:=by
   have:k<c.size:=by omega
   simp[ary,this]at d|-;exact d
  exact u k p e (l k _ e f) j h
def ZQ{c:List eG}(h:CZ ops c=true):
 (∀i o,ops[i]?=some o->∀j w',o.guard=some (j,w')->((Lk ops).getD i 0).testBit j=true)/\(∀i o,ops[i]?=some o->∀j∈zG o,j<i)/\
 ∀a∈c,∀b∈c,a.i<b.i->((Lk ops).getD b.i 0).testBit a.i=true\/a.Tw b=true:=by
 simp only[CZ,en,kb]at h;obtain⟨k,p⟩:=h;refine⟨λi o d j w' l=> ?_,λi o d j m=> ?_,λa n b f hlt=> ?_⟩;have:=(k (o,i) (aru.2 d)).1;simp only[l]at this;simpa using this;have:=(k (o,i) (aru.2 d)).2;obtain⟨e,q,f,rfl⟩:=Mz.1 m;have:=this e (by simpa using q);simpa[f]using this;have:=p b f a n;simp only[T_,b_,D']at this;rcases this with(h|h)|h;omega;exact .inl h;exact .inr h
def ahy(nt:Nat)(c:Array Bool)(u:Nat):Prop:=u<nt\/∃j,c.getD j false=true/\nt+32*j<=u/\u<nt+32*j+32
def ago(hC:wH P C){io:List Nat}(b1:keeps io ops=true)(c1:lC ops=true){nt:Nat}(h3:4<=nt){K:List eG}(hl:CZ ops K=true){E':Env}{T:Nat->Value}
 (hQ:∀Y w' G',Inv w0 c0 (λu=>u<nt+32*ops.length) E' Y w' G'->qA ops (λj=>j<ops.length) E' Y.tmps->(∀i∈io,Y.tmps.getD i undef=T i)->Q .normal Y w'):
 ∀(fuel:Nat) {bs:List eG} {d:Array Bool} {E:Env} {a:Act} {w:World} {G:Gh},bs.length<=fuel->uR C ops nt bs E E'->(∀b∈bs,b∈K)->bs.Pairwise (λa b=>a.i<b.i)->
 d.size=ops.length->(∀i,i<ops.length->(d.getD i true=false↔i∈bs.map (·.i)))->(∀i o,ops[i]?=some o->d.getD i true=true->∀j∈zG o,d.getD j false=true)->
 Inv w0 c0 (ahy nt d) E a w G->qA ops (λj=>d.getD j false=true) E a.tmps->(∀i∈io,a.tmps.getD i undef=T i)->
 wpAny P .any ops.toArray Q fuel d a w:=by
 obtain⟨l1,n1,o1⟩:=ZQ hl
 have gd:∀ {d:Array Bool} {i:Nat},d.size=ops.length->i<ops.length->d.getD i true=d.getD i false:=by
  intro d i hs hi;have:i<d.size:=by omega
  simp[ary,this]
 have nil:∀ {d:Array Bool} {E:Env} {a:Act} {w:World} {G:Gh},uR C ops nt [] E E'->d.size=ops.length->(∀i,i<ops.length->(d.getD i true=false↔i∈([]:List eG).map (·.i)))->
  Inv w0 c0 (ahy nt d) E a w G->qA ops (λj=>d.getD j false=true) E a.tmps->(∀i∈io,a.tmps.getD i undef=T i)->Q .normal a w:=by
  intro d E a w G p l m S W X;have I:E=E':=p;subst I
  have n:∀j,d.getD j false=true->j<ops.length:=by
   intro j f;rcases arF j ops.length with h|h;exact h;rw[<-l]at h;simp[ary,asz.2 h]at f
  refine hQ a w G (S.mono (λu z=> ?_)) (λs j w1 act v I=> ?_) X;rcases z with z|⟨j,f,h1,h2⟩;omega;have:=n j f;omega;obtain⟨q1,q2,q3⟩:=W s j w1 act v I;exact⟨q1,n j q2,q3⟩
 intro fuel
 induction fuel with
 |zero=>
  intro bs d E a w G hf p J k l m R S W X;have e1:bs=[]:=by cases bs with|nil=>rfl|cons _ _=>simp at hf
  subst e1;refine⟨?_,nil p l m S W X⟩;rw[List.eq_nil_iff_forall_not_mem];intro j f;obtain⟨h1,o,q,_⟩:=mem_ready.1 f
  have n:j<ops.length:=by
   simp only[arN]at q;exact(aq8.1 q).1
  have:=(m j n).1 h1;simp at this
 |succ fuel ih=>
  intro bs d E a w G hf p J k l m R S W X;refine⟨λhr=> ?_,λi hi=> ?_⟩;cases bs with
  |nil=>exact nil p l m S W X
  |cons b bs=>
   exfalso;obtain⟨F,hs,_⟩:=p;obtain⟨o,act,ef,q,_⟩:=hs.run;have n:=(aq8.1 q).1
   have:b.i∈Region.ready .any ops.toArray d:=by
    refine mem_ready.2 ⟨(m b.i n).2 (by simp),o,by simpa using q,λe I hb=> ?_⟩;have f:=n1 b.i o q e.on (Mz.2 ⟨e,I,hb,rfl⟩);rw[<-gd l (by omega)];cases hg:d.getD e.on true with
    |true=>rfl
    |false=>
     have:=(m e.on (by omega)).1 hg;simp only[arl,n_,T']at this;rcases this with h|⟨c,hc,h⟩;omega;have:=(arX.1 k).1 c hc;omega
   rw[hr]at this;cases this
  obtain⟨h1,o,q,s0⟩:=mem_ready.1 hi;simp only[arN]at q;have n:=(aq8.1 q).1;have N:=(m i n).1 h1;rw[T']at N;obtain⟨b,hb,rfl⟩:=N;obtain⟨pre,post,rfl⟩:=List.append_of_mem hb
  have h0:∀j∈zG o,d.getD j false=true:=by
   intro j f;obtain⟨e,I,p1,rfl⟩:=Mz.1 f;exact s0 e I p1
  have k0:=aam R l b.i q h0
  have o0:∀c∈pre,c.Tw b=true:=by
   intro c hc
   have j1:c.i<b.i:=by
    rw[arS]at k;exact k.2.2 c hc b (by simp)
   rcases o1 c (J c (by simp[hc])) b (J b (by simp)) j1 with h|h;have h2:=k0 c.i h;have:d.getD c.i true=false:=(m c.i (by omega)).2 (by simp only[arD,k_,T'];exact .inl ⟨c,hc,rfl⟩);rw[gd l (by omega),h2]at this;cases this;exact h
  obtain⟨F,u0,x0⟩:=p.front o0;obtain⟨o',act,ef,E0,r1,u1,x1⟩:=u0.run;have:o'=o:=by rw[q]at E0;exact(asA E0).symm
  subst this;have p0:d.getD b.i false=false:=by rw[<-gd l n];exact h1
  refine aaO (tk:=nt+32*b.i) hC q S W (λj w' f=>k0 j (l1 b.i o' q j w' f)) (by simp[p0]) c1 (by omega) (λu hu1 hu2 z=> ?_) r1 u1 x1 (λY w' G' G0 L0 ⟨v,hav⟩=> ?_);rcases z with z|⟨j,f,h5,h6⟩;omega;have:j=b.i:=by omega
  subst this;rw[p0]at f;cases f
  have t:∀j,(d.setIfInBounds b.i true).getD j false=true↔d.getD j false=true\/j=b.i:=by
   intro j;by_cases f:b.i=j;subst f;have:b.i<d.size:=by omega
   simp[ary,this];rw[getD_set_ne false f];simp[Ne.symm f]
  refine ih (bs:=pre++post) (by simp at hf|-;omega) x0 (λc hc=>J c (by simp only[k_,n_]at hc|-;rcases hc with h|h<;>simp[h])) ?_ (by simpa using l) (λi' R0=> ?_) (λi' a1 B b0 j f=> ?_) (G0.mono (λu z=> ?_)) (λs j w1 e0 v1 I=> ?_) (λj f=> ?_);rw[arS]at k|-;exact⟨k.1,(arX.1 k.2.1).2,λx hx y hy=>k.2.2 x hx y (by simp[hy])⟩;by_cases f:b.i=i';subst f;have:b.i<d.size:=by omega
  have k1:b.i∉(pre++post).map (·.i):=by
   rw[arS]at k;simp only[arD,k_,T',not_or,not_exists,not_and];refine⟨λc hc e=> ?_,λc hc e=> ?_⟩;have:=k.2.2 c hc b (by simp);omega;have:=(arX.1 k.2.1).1 c hc;omega
  simp only[k1,iff_false];simp[ary,this];rw[getD_set_ne true f,m i' R0];simp only[arD,arl,k_,n_];constructor;rintro(h|h|h);exact .inl h;exact absurd h.symm f;exact .inr h;rintro(h|h);exact .inl h;exact .inr (.inr h);rw[t];by_cases r0:b.i=i';subst r0;rw[q]at B;cases B;exact .inl (h0 j f);rw[getD_set_ne true r0]at b0;exact .inl (R i' a1 B b0 j f);rcases z with(z|⟨j,f,h5⟩)|z;exact .inl z;exact .inr ⟨j,(t j).2 (.inl f),h5⟩;exact .inr ⟨b.i,(t b.i).2 (.inr rfl),z⟩;obtain⟨q1,q2,q3⟩:=L0 s j w1 e0 v1 I;exact⟨q1,(t j).2 q2,q3⟩;rw[hav];exact(IW b1 (arT q) f).trans (X j f)
theorem uR.len{nt:Nat}:∀ {bs:List eG} {E E':Env},uR C ops nt bs E E'->E'.s.length=E.s.length
 | [],E,E',h=>by cases (show E=E' from h);rfl
 |b::bs,E,E',⟨F,h1,h2⟩=>by
  rw[uR.len h2,h1.len]
def ael{ρ:Type}(N:P.follows .mixedOrders=true)(R:wH P C){io:List Nat}(e:keeps io ops=true)(f:lC ops=true){nt:Nat}(S:4<=nt){k:Env->Option ρ}{r:ρ}{id:Nat}
 (W:Inv w0 c0 (λu=>u<nt) E a w G) (X:∀s j w act v,E.s.getD s .no≠ .g j w act v) (h:CJ C ops nt ops 0 E [] (λE' L=>if CZ ops L then k E' else none)=some r)
 (Y:∀E' c w' G',Inv w0 c0 (λu=>u<nt+32*ops.length) E' c w' G'->qA ops (λj=>j<ops.length) E' c.tmps->E'.s.length=E.s.length->(∀i∈io,c.tmps.getD i undef=a.tmps.getD i undef)->k E'=some r->Q .normal c w'):
 (Code.region id ops.toArray true).wp P Q a w:=by
 obtain⟨bs,E',p,m,n⟩:=IE (l:=ops) (by simp) h;split at n;rename_i d;simp only[ar9]at d;refine wp_region_any N ?_
 have hlen:bs.length=ops.length:=by
  have:=congrArg l9 m;simpa using this
 refine ago R e f S d (E':=E') (T:=λi=>a.tmps.getD i undef) (λc w' G' q t x=>Y E' c w' G' q t p.len x n) _ (bs:=bs) (E:=E) (G:=G) (by simp[hlen]) p (λb y=>by simpa using y) ?_ (by simp) ?_ ?_ ?_ ?_ (λ_ _=>rfl);have:(bs.map (·.i)).Pairwise (·<·):=by rw[m];exact List.pairwise_lt_range'
 rw[List.pairwise_map]at this;exact this;intro i z;rw[m];simp[ary,z,asu];intro i o B d;have:=(aq8.1 B).1;simp[ary,this]at d;refine(W.drawn _).mono (λu I=> .inl I);intro s j J act v K;exact absurd K (X s j J act v);cases n
end
def Sj(n:Nat):asB n=asa 0 n:=List.range_eq_range'
section
variable{P:Program}{C:Cx}{w0:World}{c0:C0}{U:Nat->Prop}{E:Env}{a:Act}{w:World}{G:Gh}{ops:List Oper}{L:Nat->Prop}{Q:Exit->Act->World->Prop}{ρ:Type}
def adE{N:Nat}(e:Inv w0 c0 (λu=>u<N) E a w G)(y:qA ops L E a.tmps):Inv w0 c0 (λu=>u<N) {vo E ops with nt:=N} a w G/\zQ (vo E ops).s/\(vo E ops).s.length=E.s.length:=by
 unfold vo;split;rename_i p;refine⟨{e with},λs j w act v m=> ?_,rfl⟩;obtain⟨_,_,o,z,w',f⟩:=y s j w act v m;rw[kb]at p;have:=p o z;rw[f]at this;cases this;have f:∀s,(E.s.map SV.kT).getD s .no=(E.s.getD s .no).kT:=λs=>getD_map (T:=SV.kT) rfl s
 have d:∀s,(E.s.getD s .no).kT= .no\/(E.s.getD s .no).kT=E.s.getD s .no:=by
  intro s;cases E.s.getD s .no<;>simp[SV.kT]
 refine⟨{e with len:=by simpa using e.len,slots:=λs=> ?_,sc:=λs c hc=> ?_,bt:=λs c hc=> ?_,rt:=λs c hc=> ?_,uni:=λs q t v x k l=> ?_},λs j w act v m=> ?_,by simp⟩;simp only[f];rcases d s with h|h;rw[h];trivial;rw[h];exact e.slots s;simp only[f]at hc;rcases d s with h|h;rw[h]at hc;simp[SV.sc]at hc;rw[h]at hc;exact e.sc s c hc;simp only[f]at hc;rcases d s with h|h;rw[h]at hc;simp[SV.bt]at hc;rw[h]at hc;exact e.bt s c hc;simp only[f]at hc;rcases d s with h|h;rw[h]at hc;simp[SV.rt]at hc;rw[h]at hc;exact e.rt s c hc;simp only[f]at k l;rcases d s with h|h<;>rcases d q with n|n;rw[h]at k;cases k;rw[h]at k;cases k;rw[n]at l;cases l;rw[h]at k;rw[n]at l;exact e.uni s q t v x k l;simp only[f]at m;exact ahA m
def KOk(C:Cx)(w0:World)(c0:C0)(T:Nat->Value)(r:ρ)(k:Env->Option ρ)(R:Act->World->Prop):Prop:=
 ∀E a w G,Inv w0 c0 (λu=>u<E.nt) E a w G->zQ E.s->E.s.length=C.n->4<=E.nt->(∀i∈C.io,a.tmps.getD i undef=T i)->k E=some r->R a w
def Jn{id:Nat}{k:Env->Option ρ}{ke:List (Nat×(Env->Option ρ))}{i:Nat}:arK i ((id,k)::ke)=if i=id then some k else arK i ke:=by
 simp only[arK];by_cases h:i=id;simp[h];have:(i==id)=false:=by simpa using h
 simp[this,h]
end
def xC(tmps:Array Value):ResultVar->Sem Value
 | .tmp t=>pure (tmps.getD t undef)
 | .cell a t=>do loadVar t (<-asAddr (tmps.getD a undef))
section
variable{P:Program}{C:Cx}{w0:World}{c0:C0}{U:Nat->Prop}{E:Env}{a:Act}{w:World}{G:Gh}{ops:List Oper}{L:Nat->Prop}{Q:Exit->Act->World->Prop}{ρ:Type}
def Sq(c:Nat):xS c∈[2,1]:=by unfold xS;split<;>simp
def MS{p:Pt}{s:Sh}(h:Qo p s=true){c:Nat}(hc:c∈Oj p s):c≠3:=by
 rintro rfl;simp[Qo,hc]at h
theorem L6(hC:CxTy P C)(R:Inv w0 c0 U E a w G):∀ {rs:List RK} {rv:List ResultVar} {tk:Nat} {xs:bu (rs.map RK.ty)} {l:List (Nat×Nat)} {n:Nat},AQ C.tt E rs rv tk=some (xs,l,n)->4<=tk->
 n=eO rs tk/\(∀c k,(c,k)∈l->(k=xS c/\Good U G c/\c≠3)\/(tk<=k/\k<eO rs tk/\4<=c)\/(c=3/\k=3))/\
 ∃W:List Value,W.length=rs.length/\(rv.mapM (xC a.tmps)).run P w= .ok W w/\∃H:Nat->Value,∀(rest:List Ty) (y:bu rest) (I:Gh),(∀c k,(c,k)∈l->∀b,G.col b=c->I.col b=k)->
  (∀u,tk<=u->u<eO rs tk->I.hdr u=H u)->∀i,cU w I ((bz rs rest (bu.app _ _ xs y) tk [2,1]).1.getD i .no) (W.getD i undef)
 | [],[],tk,xs,l,n,h,h3=>by
   simp only[AQ,hJ,aq9]at h;obtain⟨_,rfl,rfl⟩:=h;exact⟨rfl,by simp,[],rfl,by simp,λ_=>undef,λrest y I _ _ i=>by simp[bz,cU]⟩
 | .val τ p::rs,v::rv,tk,xs,l,n,h,h3=>by
   simp only[AQ]at h;have n1:=bU p tk;have n2:=oD rs (aU p tk);split at h;cases h;rename_i t J
   have h0:∃u X,(xC a.tmps v).run P w= .ok u w/\u=eF t.τ X/\bJ w G t.τ t.x t.sh X/\∀c∈t.sh.aJ,Good U G c:=by
    cases v with
    |tmp s=>
     simp only[Env.get]at J;split at J;rename_i t' he;cases J;have hs:=R.slots s;have hm:=R.wc s;rw[he]at hs hm;obtain⟨X,h1,h2⟩:=hs;exact⟨_,X,by simp[xC],h1,h2,hm.1⟩;cases J
    |cell s ty=>
     simp only[Env.get]at J;split at J;rename_i b t' i he hi;split at J;rename_i hτ;cases J;have hs:=R.slots s;have hm:=R.wc s;rw[he]at hs hm;obtain⟨bk,cl,el,h1,h2,h4,h5,h6,h7⟩:=hs;have hlen:=bJ.len h7;simp only[arB]at hlen;have hT:=(hC.tt ty i hi).1;have K:=zC (P:=P) hT h6 (o:=0) (by rw[hτ];omega);refine⟨_,cl.toList,?_,rfl,h7,hm.1⟩;simp only[xC,h1];rw[hτ]at K;simp only[List.drop_zero]at K;rw[arp (by simp;omega)]at K;simpa[asAddr]using K;cases J;cases J
   obtain⟨u,X,hu,S,q,B⟩:=h0;split at h;rename_i x k0 e0 o0 hx hr;split at h;rename_i m;simp only[hJ,aq9]at h;obtain⟨rfl,rfl,rfl⟩:=h;rw[en]at m;obtain⟨m,ho⟩:=m;have e:=fG hx;rw[e]at S q B m ho|-;obtain⟨i1,i2,W,i3,i4,H2,i5⟩:=L6 hC R hr (Nat.le_trans h3 n1);obtain⟨H1,k1⟩:=ot (sm:=xS) (hs:=[2,1]) (tk:=tk) m q h3 (λc _=>Sq c) (by simp);have p0:(bc p tk []).2=aU p tk:=rfl;refine⟨i1,λc k d=> ?_,u::W,by simp[i3],by simp[hu,i4],λz=>if z<aU p tk then H1 z else H2 z,λrest y I Y N i=> ?_⟩;rw[uK];rcases k_.1 d with d|d;obtain⟨r1,j⟩:=mX q c k d;rcases j with⟨j,r5⟩|⟨j,r3,r4⟩|j;exact .inl ⟨j,B c r1,MS ho r5⟩;exact .inr (.inl ⟨r3,by omega,j⟩);exact .inr (.inr j);rcases i2 c k d with h|⟨q1,q2,q3⟩|h;exact .inl h;exact .inr (.inl ⟨by omega,q2,q3⟩);exact .inr (.inr h);rw[uK]at N;cases i with
   |zero=>
    simp only[bz,ari];refine⟨X,S,k1 I (λc k d=>Y c k (asj _ d)) (λz hz f=>(N z hz (by omega)).trans (an f))⟩
   |succ i=>
    simp only[bz,t_,cS];exact i5 rest y I (λc k d=>Y c k (arO _ d)) (λz hz f=>(N z (by omega) f).trans (a_ (by omega))) i
   cases h;cases h
 | .nbox τ p::rs,.tmp s::rv,tk,xs,l,n,h,h3=>by
   simp only[AQ]at h;have n1:=bU p (tk+1);have n2:=oD rs (aU p (tk+1));split at h;cases h;rename_i b0 s0 t hb;have r0:cU w G (E.rd.get s) (a.tmps.getD s undef):=Iu (R.slots s);obtain⟨_,bk,c,el,b1,b2,b3,b4,b5,b6,b7,b8,b9⟩:=zO R hb r0;split at h;rename_i x k0 e0 o0 hx hr;split at h;rename_i m;simp only[hJ,aq9]at h;obtain⟨rfl,rfl,rfl⟩:=h;rw[en]at m;obtain⟨m,ho⟩:=m;have e:=fG hx;rw[e]at m ho b6 b7|-;have p0:(bc p (tk+1) []).2=aU p (tk+1):=rfl;obtain⟨i1,i2,W,i3,i4,H2,i5⟩:=L6 hC R hr (by omega);obtain⟨H1,k1⟩:=ot (sm:=xS) (hs:=[2,1]) (tk:=tk+1) m b6 (by omega) (λc _=>Sq c) (by simp);refine⟨i1,λc k d=> ?_,a.tmps.getD s undef::W,by simp[i3],by simp[xC,i4],λz=>if z=tk then a.tmps.getD s undef else if z<aU p (tk+1)then H1 z else H2 z,λrest y I Y N i=> ?_⟩;rw[rU];simp only[asy,n_,aq9,k_]at d;rcases d with⟨rfl,rfl⟩|d|d;exact .inr (.inl ⟨N_ _,by omega,b3⟩);obtain⟨r1,j⟩:=mX b6 c k d;rcases j with⟨j,r5⟩|⟨j,r3,r4⟩|j;exact .inl ⟨j,b7 c r1,MS ho r5⟩;exact .inr (.inl ⟨by omega,by omega,j⟩);exact .inr (.inr j);rcases i2 c k d with h|⟨q1,q2,q3⟩|h;exact .inl h;exact .inr (.inl ⟨by omega,q2,q3⟩);exact .inr (.inr h);rw[rU]at N;cases i with
   |zero=>
    simp only[bz,ari];refine⟨bk,c,el,b1,h3,(N tk (N_ _) (by omega)).trans (an rfl),Y b0 tk (by simp) bk b4,b5,k1 I (λc k d=>Y c k (by simp[d])) (λz hz f=> ?_)⟩;exact((N z (by omega) (by omega)).trans (a_ (by omega))).trans (an f)
   |succ i=>
    simp only[bz,t_,cS];exact i5 rest y I (λc k d=>Y c k (by simp[d])) (λz hz f=>((N z (by omega) f).trans (a_ (by omega))).trans (a_ (by omega))) i
   cases h;cases h
 | [],_::_,_,_,_,_,h,_| .val _ _::_,[],_,_,_,_,h,_| .nbox _ _::_,[],_,_,_,_,h,_| .nbox _ _::_,.cell _ _::_,_,_,_,_,h,_=>by simp[AQ]at h
theorem zL(J:Inv w0 c0 U E a w G):∀ {ps:List PK} {i m tk:Nat} {ys:bu (bR ps)} {f:List (Nat×Nat)},Fh E ps i m tk=some (ys,f)->4<=tk->4<=m->
 (∀c k,(c,k)∈f->(k=xS c/\Good U G c/\c≠3)\/(tk<=k/\k<tX ps tk/\4<=c)\/(k=c/\c∈dg ps m)\/(c=3/\k=3))/\
 ∃H:Nat->Value,∀(q:Gh),(∀c k,(c,k)∈f->∀b,G.col b=c->q.col b=k)->(∀u,tk<=u->u<tX ps tk->q.hdr u=H u)->(∀u∈dg ps m,q.hdr u=G.hdr u)->
  ∀t j v,(t,j,v)∈dK [2,1] ps ys (fW ps i m) tk->cU w q (.box t v) (a.tmps.getD j undef)/\j∈mq ps i
 | [],i,m,tk,ys,f,h,h3,h4=>by
   simp only[Fh,hJ,aq9]at h;obtain⟨_,rfl⟩:=h;exact⟨by simp,λ_=>undef,λq _ _ _ t j v n=>by simp[dK]at n⟩
 | .val τ p::ps,i,m,tk,ys,f,h,h3,h4=>by
   have n1:=bU p m;have R:(bc p m []).2=aU p m:=rfl;obtain⟨y,H,B⟩:=zL J (ps:=ps) (i:=i+1) h h3 (by omega);exact⟨y,H,B⟩
 | .rd τ::ps,i,m,tk,ys,f,h,h3,h4=>by
   obtain⟨y,H,B⟩:=zL J (ps:=ps) (i:=i+1) h h3 h4;exact⟨y,H,B⟩
 | .vx e l::ps,i,m,tk,ys,f,h,h3,h4=>by
   obtain⟨y,H,B⟩:=zL J (ps:=ps) (i:=i+1) h h3 h4;exact⟨y,H,B⟩
 | .io τ p::ps,i,m,tk,ys,f,h,h3,h4=>by
   simp only[Fh,Env.get]at h;have n1:=bU p tk;have n2:=wR ps (aU p tk);have n3:=bU p (m+1);have R:(bc p (m+1) []).2=aU p (m+1):=rfl;have hpn2:(bc p tk []).2=aU p tk:=rfl;split at h;rename_i b v xs rho' he hr;split at h;rename_i x hx;split at h;rename_i hc;simp only[en,b_]at hc;obtain⟨⟨hf,ho⟩,rfl⟩:=hc;simp only[hJ,aq9]at h;obtain⟨rfl,rfl⟩:=h;have hs:=J.slots i;have Y:=J.wc i;rw[he]at hs Y;obtain⟨bk,c,el,b1,b2,b3,b4,b5,S⟩:=hs;have b7:=Y.1;have e:=fG hx;rw[e]at hf ho S b7;obtain⟨y,H2,B⟩:=zL J (ps:=ps) (i:=i+1) hr (by omega) (by omega);obtain⟨H1,k1⟩:=ot (sm:=xS) (hs:=[2,1]) (tk:=tk) hf S h3 (λc _=>Sq c) (by simp);refine⟨λc k d=> ?_,λz=>if z<aU p tk then H1 z else H2 z,λq K N W t j u n=> ?_⟩;rw[Jd];simp only[asy,n_,aq9,k_]at d;rcases d with⟨rfl,rfl⟩|d|d;exact .inr (.inr (.inl ⟨rfl,by simp[dg]⟩));obtain⟨r1,I⟩:=mX S c k d;rcases I with⟨I,r5⟩|⟨I,r3,r4⟩|I;exact .inl ⟨I,b7 c r1,MS ho r5⟩;exact .inr (.inl ⟨r3,by omega,I⟩);exact .inr (.inr (.inr I));rcases y c k d with h|⟨q1,q2,q3⟩|⟨q1,q2⟩|h;exact .inl h;exact .inr (.inl ⟨by omega,q2,q3⟩);exact .inr (.inr (.inl ⟨q1,by simp only[dg];exact aq4 _ q2⟩));exact .inr (.inr (.inr h));rw[Jd]at N;simp only[fW,dK,n_,aq9]at n;rcases n with⟨rfl,rfl,rfl⟩|n;refine⟨⟨bk,c,el,b1,h4,?_,K t t (by simp) bk b4,b5,k1 q (λc k d=>K c k (by simp[d])) (λz X s=>(N z X (by omega)).trans (an s))⟩,by simp[mq]⟩;rw[W t (by simp[dg])];exact b3;rw[cS]at n;have:=B q (λc k d=>K c k (by simp[d])) (λz X s=>(N z (by omega) s).trans (a_ (by omega))) (λu hu=>W u (by simp only[dg];exact aq4 _ hu)) t j u n;exact⟨this.1,by simp only[mq];exact aq4 _ this.2⟩;cases h;cases h;cases h
end
def Gh.beg(G:Gh)(n:Nat):C0:=⟨G.col,λt=>if t<n then some (G.hdr t)else none⟩
def afV{ps:List PK}:∀ {x:bu (ps.map PK.ty)} {k i0 j i:Nat} {τ:Ty} {sh:Sh},(uQ ps i0 k)[j]?=some (i,τ,sh)->
 ∃c y,i0<=i/\(cI ps x k).1.getD (i-i0) .no= .box c ⟨τ,y,sh⟩/\(fW ps i0 k)[j]?=some (c,i)/\(bR ps)[j]?=some τ/\(∀u∈sh.aJ,(u=1\/u=3)\/u<cE ps k)/\i∈mq ps i0:=by
 induction ps with
 |nil=>intro x k i0 j i τ sh h;simp[uQ]at h
 |cons p ps s=>
  intro x k i0 j i m sh h
  have key:∀ {d:Nat} {j:Nat},(uQ ps (i0+1) d)[j]?=some (i,m,sh)->∃c y,i0<=i/\(∀v,(v::(cI ps x.2 d).1).getD (i-i0) .no= .box c ⟨m,y,sh⟩)/\(fW ps (i0+1) d)[j]?=some (c,i)/\(bR ps)[j]?=some m/\
   (∀u∈sh.aJ,(u=1\/u=3)\/u<cE ps d)/\i∈mq ps (i0+1):=by
   intro d j h;obtain⟨c,y,q1,q2,q3,q4,q5,f⟩:=s (x:=x.2) h;refine⟨c,y,by omega,λv=> ?_,q3,q4,q5,f⟩;rw[show i-i0=(i-(i0+1))+1 by omega,t_];exact q2
  cases p with
  |val τ q=>
   simp only[uQ]at h;obtain⟨c,y,q1,q2,q3,q4,q5,f⟩:=key h;exact⟨c,y,q1,by simp only[cI,cS];exact q2 _,q3,q4,q5,f⟩
  |rd τ=>
   simp only[uQ]at h;obtain⟨c,y,q1,q2,q3,q4,q5,f⟩:=key h;exact⟨c,y,q1,by simp only[cI];exact q2 _,q3,q4,q5,f⟩
  |vx e l=>
   simp only[uQ]at h;obtain⟨c,y,q1,q2,q3,q4,q5,f⟩:=key h;exact⟨c,y,q1,by simp only[cI];exact q2 _,q3,q4,q5,f⟩
  |io τ q=>
   simp only[uQ]at h;cases j with
   |zero=>
    simp only[ar7,hJ,aq9]at h;obtain⟨rfl,rfl,rfl⟩:=h;refine⟨k,x.1,N_ _,by simp[cI],by simp[fW],by simp[bR],λu n=> ?_,by simp[mq]⟩;have h2:=iG ps (aU q (k+1));rcases qx u n with h|h|h;left;left;simpa using h;right;simp only[cE];omega;left;right;exact h
   |succ j=>
    simp only[ark]at h;obtain⟨c,y,q1,q2,q3,q4,q5,f⟩:=key h;exact⟨c,y,q1,by simp only[cI,cS];exact q2 _,by simp only[fW,ark];exact q3,by simp only[bR,ark];exact q4,q5,by simp only[mq];exact aq4 _ f⟩
section
variable{P:Program}{C:Cx}{w0:World}{c0:C0}{U:Nat->Prop}{E:Env}{a:Act}{w:World}{G:Gh}{ops:List Oper}{L:Nat->Prop}{Q:Exit->Act->World->Prop}{ρ:Type}
def Zg{fn:Func}{tmps:Array Value}{c:List Value}(h:(fn.results.toList.mapM (xC tmps)).run P w= .ok c w):(results fn tmps).run P w= .ok (Aa c) w:=by
 have e:(fn.results.mapM (xC tmps)).run P w= .ok c.toArray w:=by
  rw[Array.mapM_eq_mapM_toList];simp[h]
 have d:results fn tmps=(do let c<-fn.results.mapM (xC tmps);pure (if h:c.size=1 then c[0]else .tuple c)):=by
  unfold results;congr 1
 rw[d,Sem.run_bind,e];simp only[Result.andThen_ok,Sem.run_pure];congr 1
 match c with
 | []=>rfl
 | [v]=>rfl
 |_::_::_=>simp[Aa]
theorem zS:∀(rs:List RK) (rest:List Ty) (x:bu (rs.map RK.ty)) (y:bu rest) (k:Nat) (hs:List Nat),(bz rs rest (bu.app _ _ x y) k hs).2.1=y
 | [],_,_,_,_,_=>rfl
 | .val _ _::rs,rest,x,y,_,hs=>zS rs rest x.2 y _ hs
 | .nbox _ _::rs,rest,x,y,_,hs=>zS rs rest x.2 y _ hs
theorem Ec:∀(rs:List RK) (rest:List Ty) (y:bu (rs.map RK.ty++rest)) (k:Nat) (hs:List Nat),(bz rs rest y k hs).2.2=eO rs k
 | [],_,_,_,_=>rfl
 | .val _ p::rs,rest,y,k,hs=>by simp only[bz,cS];exact Ec rs rest y.2 _ hs
 | .nbox _ p::rs,rest,y,k,hs=>by simp only[bz,cS];exact Ec rs rest y.2 _ hs
theorem Ld:∀ {ps:List PK} {i:Nat},∀j∈mq ps i,i<=j/\j<i+ps.length
 | [],_,j,h=>by simp[mq]at h
 | .val _ _::ps,i,j,h| .rd _::ps,i,j,h| .vx _ _::ps,i,j,h=>by have:=Ld (ps:=ps) (i:=i+1) j h;simp only[ara];omega
 | .io _ _::ps,i,j,h=>by
   simp only[mq,n_]at h;simp only[ara];rcases h with rfl|h;omega;have:=Ld (ps:=ps) (i:=i+1) j h;omega
def ajC(hC:CxTy P C){d:wj}{G0:Gh}{args:List Value}{xx:bu (d.ps.map PK.ty)}(e0:Pd w0 G0 (cI d.ps xx 4).1 args (cE d.ps 4))(z:Inv w0 (G0.beg (cE d.ps 4)) U E a w G){fn:Func}{y:bu (d.rs.map RK.ty++bR d.ps)}
 (h:fin C.tt d.ps d.rs d.kp fn.results.toList (cE d.ps 4) E=some y) (hT:∀i∈mq d.ps 0,a.tmps.getD i undef=args.getD i undef):
 ∃mv G' vs nt,(results fn a.tmps).run P w= .ok mv w/\BX d w0 G0 args y mv w G' vs nt:=by
 have h30:=iG d.ps 4;unfold fin at h;split at h
 ·rename_i xs m tk p0;split at h
  ·rename_i ys j r0;split at h
   ·rename_i K;cases h;rw[en]at K;obtain⟨c1,f⟩:=K;obtain⟨rfl,e1,vs,l1,o0,H1,n1⟩:=L6 hC z p0 h30;have hge1:=oD d.rs (cE d.ps 4);have hge2:=wR d.ps (eO d.rs (cE d.ps 4));obtain⟨o1,H2,p1⟩:=zL z r0 (by omega) (N_ _);have L0:∀c k,(c,k)∈m++j->(m++j).lookup c=some k:=λc k p=>Eh c1 p
    have R0:∀c k,(c,k)∈m++j->(k=xS c/\Good U G c/\c≠3)\/(4<=k/\4<=c)\/(c=3/\k=3):=by
     intro c k p;rcases k_.1 p with p|p
     ·rcases e1 c k p with h|⟨q1,q2,q3⟩|h
      ·exact .inl h
      ·exact .inr (.inl ⟨by omega,q3⟩)
      ·exact .inr (.inr h)
     ·rcases o1 c k p with h|⟨q1,q2,q3⟩|⟨q1,q2⟩|h
      ·exact .inl h
      ·exact .inr (.inl ⟨by omega,q3⟩)
      ·have:=fi c q2;exact .inr (.inl ⟨by omega,this.1⟩)
      ·exact .inr (.inr h)
    let I:Gh:=⟨λb=>match(m++j).lookup (G.col b)with|some k=>k|none=>if G.col b<=3 then G.col b else 0,
     λu=>if u<cE d.ps 4 then G.hdr u else if u<eO d.rs (cE d.ps 4)then H1 u else H2 u,λ_=>false⟩
    have R:∀c k,(c,k)∈m++j->∀b,G.col b=c->I.col b=k:=by
     intro c k p b N;show(match(m++j).lookup (G.col b)with|some k=>k|none=>if G.col b<=3 then G.col b else 0)=k;rw[N,L0 c k p]
    have J:∀b,(G.col b<=3/\I.col b=G.col b)\/(4<=G.col b/\(I.col b=2\/I.col b=0\/4<=I.col b)):=by
     intro b;have l:I.col b=(match(m++j).lookup (G.col b)with|some k=>k|none=>if G.col b<=3 then G.col b else 0):=rfl;cases S:(m++j).lookup (G.col b)with
     |none=>
      rw[S]at l;simp only at l;by_cases B:G.col b<=3
      ·left;rw[an B]at l;exact⟨B,l⟩
      ·right;rw[a_ B]at l;exact⟨by omega,by omega⟩
     |some k=>
      rw[S]at l;simp only at l;rcases R0 _ _ (iP S)with⟨W,B,h33⟩|⟨W,B⟩|⟨W,B⟩
      rotate_right
      ·left;omega
      ·rw[W]at l;have h0:=B.1;unfold xS at l;by_cases e:G.col b=1
       ·left;rw[an e]at l;omega
       ·rw[a_ e]at l;by_cases e2:G.col b=2
        ·left;omega
        ·right;omega
      ·right;omega
    refine⟨Aa vs,I,vs,0,Zg o0,⟨rfl,l1,?_,?_,λb N hc=> ?_,λb N=> ?_,z.size,z.os,z.tape,z.output,λb N=> ?_,λb N=> ?_,λq S te i τ s0 u0 bk c el c' el' X x0 E0=> ?_⟩⟩
    ·refine n1 _ ys I (λc k p=>R c k (asj _ p)) (λu W B=> ?_);show(if u<cE d.ps 4 then G.hdr u else if u<eO d.rs (cE d.ps 4)then H1 u else H2 u)=H1 u;rw[a_ (by omega),an B]
    ·intro t i v Y;rw[zS,Ec]at Y
     have:=p1 I (λc k p=>R c k (arO _ p)) (λu W B=>by
      show(if u<cE d.ps 4 then G.hdr u else if u<eO d.rs (cE d.ps 4)then H1 u else H2 u)=H2 u;rw[a_ (by omega),a_ (by omega)]) (λu hu=>by
      have:=fi u hu;show(if u<cE d.ps 4 then G.hdr u else if u<eO d.rs (cE d.ps 4)then H1 u else H2 u)=G.hdr u;rw[an this.2]) t i v Y
     rw[hT i this.2]at this;exact this.1
    ·have hf:G.col b=G0.col b/\w.heap[b]?=w0.heap[b]?:=z.frame b N hc;refine⟨?_,hf.2⟩;rcases J b with h|h<;>omega
    ·have W:I.col b=G.col b:=by rcases J b with h|h<;>omega
     rw[W]at N|-;exact z.one b N
    ·refine z.lt b ?_;rcases J b with h|h<;>omega
    ·refine z.fresh b ?_;rcases J b with h|h<;>omega
    ·simp only[aez,T_,en,kb]at f;rcases f with f|⟨w1,f⟩
     ·rw[ar4]at f;rw[f]at S;cases S
     ·have n:=f q S;split at n
      ·rename_i i' τ1 sh b0;obtain⟨te',y',g1,g2,g3,g4,g5,g6⟩:=afV (x:=xx) b0;rw[s0]at g3;rw[u0]at g4;cases g3;cases g4;split at n
       ·rename_i t v u hE hu;simp only[en,b_,beq_iff_eq]at n;obtain⟨u1,n⟩:=n;have hs:=z.slots i;have a1:E.s.getD i .no= .box t v:=hE;rw[a1]at hs;obtain⟨bk2,c2,el2,k1,k2,k3,k4,k5,k6⟩:=hs;rw[hT i g6,X]at k1;simp only[Value.pointer.injEq,hJ,Addr.mk.injEq,and_true]at k1;subst k1;rw[E0]at k5;cases k5;have r1:=uA k6 n;have k0:=e0.slots i;rw[ar3]at g2;rw[g2]at k0;obtain⟨bk3,c3,el3,j1,j2,j3,j4,j5,j6⟩:=k0;rw[X]at j1;simp only[Value.pointer.injEq,hJ,Addr.mk.injEq,and_true]at j1;subst j1;rw[x0]at j5;cases j5;have r2:=uA j6 hu;have hτ:v.τ.off q.2=τ.off q.2:=by rw[u1]
        rw[<-hτ,r1.1,hτ,r2.1]
        have b1:u<cE d.ps 4:=by
         rcases g5 u r2.2.2 with h|h
         ·have:=r2.2.1;omega
         ·exact h
        rw[(z.hk w1 u (G0.hdr u) (by simp[Gh.beg,b1])).2]
       ·cases n
      ·cases n
   ·cases h
  ·cases h
 ·cases h
def pD(l:List SV)(n i:Nat):(l++ase n SV.no).getD i SV.no=l.getD i SV.no:=by
 rw[D_,D_,List.getElem?_append];split;rfl;rename_i h;rw[List.getElem?_replicate,arv (by omega)];split<;>rfl
def ahr{ps:List PK}{x:bu (ps.map PK.ty)}{args:List Value}(h:Pd w G (cI ps x 4).1 args (cE ps 4))(n:Nat):
 Inv w (G.beg (cE ps 4)) (λu=>u<cE ps 4) ⟨(cI ps x 4).1++ase (n-(cI ps x 4).1.length) .no,(cI ps x 4).2,true⟩ {tmps:=args.toArray++arU (n-args.toArray.size) undef,defers:=[]} w G:=by
 have hlen:=h.len
 have f:∀i,i<args.length->(args.toArray++arU (n-args.toArray.size) undef).getD i undef=args.getD i undef:=by
  intro i l;rw[arw,D_,ar0 (by simpa using l)];simp
 have h30:=iG ps 4;refine⟨by simp[hlen],λs=> ?_,λs=> ?_,λs=> ?_,λs=> ?_,λs m t v p j k=> ?_,λb c=>(h.colU b c).1,λb c=>(h.colU b c).2,h.fresh,λb _ _=>⟨rfl,rfl⟩,λb c=>⟨(h.colU b (by omega)).2,rfl⟩,N_ _,rfl,rfl,rfl,rfl,⟨⟨by show 2<cE ps 4;omega,h.two.1⟩,by show 3<cE ps 4;omega,h.two.2⟩,λ_ t v d=> ?_⟩
 rotate_right
 ·simp only[Gh.beg]at d;split at d
  ·rename_i e;cases d;exact⟨e,rfl⟩
  ·cases d
 ·simp only[pD];by_cases q:s<args.length
  ·have:=h.slots s;rw[<-f s q]at this;exact this
  ·rw[D_,arv (by omega)];trivial
 ·simp only[pD];exact(h.wc s).1
 ·simp only[pD];exact(h.wc s).2.1
 ·simp only[pD];exact(h.wc s).2.2
 ·simp only[pD]at j k;exact h.uni s m t v p j k
def af3{ps:List PK}:∀ {x:bu (ps.map PK.ty)} {tk:Nat},zQ (cI ps x tk).1:=by
 induction ps with
 |nil=>intro x tk s j w act v h;simp[cI]at h
 |cons p ps c=>
  intro x tk s j w act v h;cases p with
  |val τ q=>
   simp only[cI]at h;cases s with
   |zero=>simp at h
   |succ s=>simp only[t_]at h;exact c _ _ _ _ _ h
  |io τ q=>
   simp only[cI]at h;cases s with
   |zero=>simp at h
   |succ s=>simp only[t_]at h;exact c _ _ _ _ _ h
  |rd τ=>
   simp only[cI]at h;cases s with
   |zero=>simp at h
   |succ s=>simp only[t_]at h;exact c _ _ _ _ _ h
  |vx e l=>
   simp only[cI]at h;cases s with
   |zero=>simp at h
   |succ s=>simp only[t_]at h;exact c _ _ _ _ _ h
end
def Fits:(τ:Ty)->τ.den->Prop
 | .int k,n=>(Lit.int k n).wf=true
 | .bool,_=>True
 | .str,s=>s.size<=maxLen
 | .sl e,l=>l.length<=maxLen/\∀x∈l,Fits e x
 | .pair a b,p=>Fits a p.1/\Fits b p.2
def wS(P:Program)(c:Ty->TypeId->Bool):Ty->List Field->Nat->Bool
 |τ,[f],off=>f.offset==off&&P.cellsOf f.type==τ.sz&&c τ f.type
 | .pair a b,f::g::l,off=>f.offset==off&&P.cellsOf f.type==a.sz&&c a f.type&&wS P c b (g::l) (off+a.sz)
 |_,_,_=>false
def yv(P:Program):Nat->Ty->TypeId->Bool
 |0,_,_=>false
 |n+1,τ,t=>
  match P.underlying t with
  |some (.int k)=>τ== .int k
  |some .bool=>τ== .bool
  |some .string=>τ== .str
  |some (.slice e)=>(match τ with| .sl τe=>P.cellsOf e==τe.sz&&yv P n τe e|_=>false)
  |some (.struct fs)=>τ.cQ&&P.cellsOf t==τ.sz&&wS P (yv P n) τ fs.toList 0
  |_=>false
section
variable{H:Type}{enc:TypeId×Value->H}{P:Program}{w:World}{held:Bool}
def cells?_some{a:Addr}{n:Nat}{cs:List Value}(h:w.cells? 0 a n=some cs):cs.length=n/\∀i,i<n->w.cell? (a.add i)=cs[i]?:=by
 unfold World.cells? at h;rw[an (Nat.zero_le _)]at h;refine⟨by simpa using mapM_some_length h,λi c=> ?_⟩;exact mapM_some_get h i i (by simp[c])
def agf{a:Addr}{v:Value}(h:w.cell? a=some v):∃c el d,w.heap[a.block]?=some (.cells c el d)/\a.spot=none/\c[a.off]?=some v:=by
 unfold World.cell? at h;split at h;rename_i c el d e;split at h;cases h;rename_i f;exact⟨c,el,d,e,by simpa using f,h⟩;cases h
def Ps{b off:Nat}{c:Array Value}{el:TypeId}{j:Nat×Nat}(k:w.heap[b]?=some (.cells c el j)){n:Nat}{cs:List Value}(h:w.cells? 0 ⟨b,off,none⟩ n=some cs):cs=(c.toList.drop off).take n/\(0<n->off+n<=c.size):=by
 obtain⟨hl,hc⟩:=cells?_some h
 have d:∀i,i<n->c[off+i]?=cs[i]?:=by
  intro i f;have:=hc i f;unfold World.cell? at this
  have e:(Addr.add ⟨b,off,none⟩ i)=⟨b,off+i,none⟩:=by
   unfold Addr.add;split;rename_i h;subst h;rfl;rfl
  rw[e]at this;simp only[k,asr,arb,if_false]at this;exact this
 refine⟨List.ext_getElem? (λi=> ?_),λhn=> ?_⟩;rw[aro];split;rename_i f;rw[arH,<-d i f,arP];rename_i f;exact arv (by omega);have:=d (n-1) (by omega);rw[H_ (by omega)]at this;have:=(Array.getElem?_eq_some_iff.1 this).1;omega
theorem PG{e:Ty->TypeId->Bool}{cs:List Value}
 (d:∀ {τ:Ty} {t:TypeId} {fuel:Nat} {c:List Value} {x:DataW H×List MemPlace},e τ t=true->DataW.trod enc P w 0 (λ_=>true) held fuel t c=some x->∃y B,aW w τ y c B/\Fits τ y):
 ∀ {s:List Field} {τ:Ty} {off:Nat},wS P e τ s off=true->cs.length=off+τ.sz->
 (∀f∈s,∃fuel x,DataW.trod enc P w 0 (λ_=>true) held fuel f.type ((cs.drop f.offset).take (P.cellsOf f.type))=some x)->∃y B,aW w τ y (cs.drop off) B/\Fits τ y
 | [],τ,off,h,_,_=>by cases τ<;>simp[wS]at h
 | [f],τ,off,h,hl,ht=>by
   have h:(f.offset==off&&P.cellsOf f.type==τ.sz&&e τ f.type)=true:=by
    cases τ<;>exact h
   simp only[en,beq_iff_eq]at h;obtain⟨⟨k,m⟩,n⟩:=h;obtain⟨fuel,x,j⟩:=ht f (by simp);rw[k,m,arp (by simp;omega)]at j;exact d n j
 |f::g::l,τ,off,h,hl,ht=>by
  cases τ with
  |pair a b=>
   simp only[wS,en,beq_iff_eq]at h;obtain⟨⟨⟨k,m⟩,n⟩,z⟩:=h;simp only[Ty.sz]at hl;obtain⟨fuel,x,j⟩:=ht f (by simp);rw[k,m]at j;obtain⟨I,u,J,K⟩:=d n j;obtain⟨N,v,R,S⟩:=PG d z (by omega) (λq p=>ht q (by simp only[n_]at p|-;exact .inr p));refine⟨(I,N),u++v,⟨_,_,u,v,?_,rfl,J,R⟩,K,S⟩;rw[<-art,asf]
  |_=>simp[wS]at h
theorem T0{d:Ty}{e:TypeId}{n:Nat}(j:P.cellsOf e=d.sz){b:Nat}{c:Array Value}{el:TypeId}{t:Nat×Nat}(q:w.heap[b]?=some (.cells c el t))
 (f:∀ {c:List Value} {x:DataW H×List MemPlace},DataW.trod enc P w 0 (λ_=>true) held n e c=some x->∃y B,aW w d y c B/\Fits d y):
 ∀(len:Nat) {off:Nat} {elems:List (DataW H×List MemPlace)},elems.length=len->
 (∀i,i<len->(w.cells? 0 (Addr.add ⟨b,off,none⟩ (i*P.cellsOf e)) (P.cellsOf e)).bind (DataW.trod enc P w 0 (λ_=>true) held n e)=elems[i]?)->
 ∃(l:List d.den) (p:List Nat),l.length=len/\aZ (aW w d) l ((c.toList.drop off).take (len*d.sz)) p/\∀x∈l,Fits d x
 |0,off,elems,_,_=>⟨[],[],rfl,by simp[aZ],by simp⟩
 |len+1,off,elems,hlen,hel=>by
  have s:=hel 0 (by omega);rw[H_ (by omega),aq3]at s;obtain⟨u,m,v⟩:=s;simp only[Nat.zero_mul,Addr.add,if_true]at m;obtain⟨I,_⟩:=Ps q m;obtain⟨y,B,J,K⟩:=f v
  have k:∀i,Addr.add ⟨b,off,none⟩ ((i+1)*P.cellsOf e)=Addr.add ⟨b,off+d.sz,none⟩ (i*P.cellsOf e):=by
   intro i;have:=d.qO;unfold Addr.add;rw[j];rw[a_ (by simp only[N'];omega)];split;rename_i h;simp only[N',h];simp;simp only[N',Addr.mk.injEq,and_true,true_and];omega
  obtain⟨l,p,N,R,S⟩:=T0 j q f len (off:=off+d.sz) (elems:=elems.tail) (by simp[hlen]) (λi hi=>by
   rw[<-k,hel (i+1) (by omega)];cases elems with
   |nil=>simp at hlen
   |cons z zs=>rfl)
  refine⟨y::l,B++p,by simp[N],⟨u,_,B,p,?_,rfl,J,R⟩,by simpa using⟨K,S⟩⟩;rw[I,j,N',arA,Nat.add_comm (len*d.sz),List.take_add,art]
def Z7:∀(n:Nat) {τ:Ty} {t:TypeId} {fuel:Nat} {cs:List Value} {x:DataW H×List MemPlace},yv P n τ t=true->DataW.trod enc P w 0 (λ_=>true) held fuel t cs=some x->∃y B,aW w τ y cs B/\Fits τ y:=by
 intro n
 induction n with
 |zero=>intro τ t fuel cs x h;simp[yv]at h
 |succ n ih=>
  intro τ t fuel cs x h J;simp only[yv]at h;split at h;rename_i k p;simp only[beq_iff_eq]at h;subst h;obtain⟨m,rfl,_,hw⟩:=DataW.trod_int p J;exact⟨m,[],⟨rfl,rfl⟩,hw⟩;rename_i p;simp only[beq_iff_eq]at h;subst h;obtain⟨b,rfl,_⟩:=DataW.trod_bool p J;exact⟨b,[],⟨rfl,rfl⟩,trivial⟩;rename_i p;simp only[beq_iff_eq]at h;subst h;obtain⟨s,rfl,_,hs⟩:=DataW.trod_string p J;exact⟨s,[],⟨rfl,rfl⟩,hs⟩;rename_i e p;split at h;rename_i W;simp only[en,beq_iff_eq]at h;obtain⟨q,hd⟩:=h;rcases DataW.trod_slice p J with⟨rfl,_⟩|⟨a,len,cap,elems,rest,m,_,rfl,_,_,hlc,hcm,hlen,R,o0,_⟩;exact⟨[],[],⟨_,rfl,.inl ⟨⟨_,rfl⟩,rfl,rfl⟩⟩,by simp[Fits]⟩;by_cases K:cap=0;subst K;have:len=0:=by omega
  subst this;exact⟨[],[],⟨_,rfl,.inl ⟨⟨_,rfl⟩,rfl,rfl⟩⟩,by simp[Fits]⟩;obtain⟨hrl,z⟩:=o0 rfl
  have u:∀i,i<cap->∃cs,w.cells? 0 (a.add (i*P.cellsOf e)) (P.cellsOf e)=some cs:=by
   intro i hi;by_cases b0:i<len;have:=R i b0;rw[H_ (by omega),aq3]at this;obtain⟨cs,I,_⟩:=this;exact⟨cs,I⟩;have:=z (i-len) (by omega);rw[H_ (by omega),aq3]at this;obtain⟨cs,I,_⟩:=this;rw[show len+(i-len)=i by omega]at I;exact⟨cs,I⟩
  have hpos:=W.qO;obtain⟨cs0,h0⟩:=u 0 (by omega);obtain⟨hl0,p0⟩:=cells?_some h0;have d:=p0 0 (by omega);rw[H_ (by omega)]at d;have e0:(a.add (0*P.cellsOf e)).add 0=a:=by simp[Addr.add]
  rw[e0]at d;obtain⟨c,el,fz,X,j,_⟩:=agf d;obtain⟨b,off,spot⟩:=a;simp only at X j;subst j;obtain⟨l,Bs,I,h2,h3⟩:=T0 (held:=held) (enc:=enc) q X (λY=>ih hd Y) len hlen R;obtain⟨csl,S⟩:=u (cap-1) (by omega)
  have N:Addr.add ⟨b,off,none⟩ ((cap-1)*P.cellsOf e)=⟨b,off+(cap-1)*P.cellsOf e,none⟩:=by
   unfold Addr.add;split;rename_i h;rw[h];rfl;rfl
  rw[N]at S;have v:=(Ps X S).2 (by omega);rw[q]at v
  have hmul:(cap-1)*W.sz+W.sz=cap*W.sz:=by
   have:cap=cap-1+1:=by omega
   conv=>rhs;rw[this,N',arA]
  refine⟨l,b::Bs,⟨_,rfl,.inr ⟨b,off,cap,c,el,fz,Bs,by rw[I],by omega,X,by omega,rfl,by rw[I];exact h2⟩⟩,by omega,h3⟩;cases h;rename_i fs p;simp only[en,beq_iff_eq]at h;obtain⟨⟨hp,q⟩,r0⟩:=h;obtain⟨xs,m,_,_,hl,hxl,s0⟩:=DataW.trod_struct p J
  have:=PG (held:=held) (enc:=enc) (cs:=cs) (λh Y=>ih h Y) r0 (by rw[hl,q];omega) (λf hf=>by
   obtain⟨i,hi,rfl⟩:=List.mem_iff_getElem.1 hf;have k0:i<fs.size:=by simpa using hi
   have:=s0 i fs[i] (by simp[k0]);rw[H_ (by omega)]at this;exact⟨m,_,by simpa using this⟩)
  simpa using this;cases h
end
end Vg
namespace Vg
open Go Go.ChangeShapes Go.WideShapes Go.ChangeAt Go.RowKit
def Dd(P:Program)(n:Nat):List Ty->List TypeId->Bool
 | [],[]=>true
 |τ::τs,t::ts=>yv P n τ t&&Dd P n τs ts
 |_,_=>false
section
variable{H:Type}{enc:TypeId×Value->H}{P:Program}{w:World}{G:Gh}
def afN{n:Nat}{τ:Ty}{t:TypeId}{v:Value}{r:Reach}{f:Nat}(h:yv P n τ t=true)(c:Value.okWide P w r f t v):v=eF τ v.cells.toList:=by
 cases n with
 |zero=>simp[yv]at h
 |succ n=>
  simp only[yv]at h;split at h;rename_i k d;simp only[beq_iff_eq]at h;subst h;obtain⟨m,rfl⟩:=okWide_int d c;rfl;rename_i d;simp only[beq_iff_eq]at h;subst h;obtain⟨b,rfl⟩:=okWide_bool d c;rfl;rename_i d;simp only[beq_iff_eq]at h;subst h;obtain⟨s,rfl⟩:=okWide_string d c;rfl;rename_i e d;split at h;obtain⟨a,len,cap,rfl⟩:=okWide_slice d c;rfl;cases h;rename_i fs d;simp only[en]at h;obtain⟨cs,rfl,_⟩:=okWide_struct d c;cases τ with
  |pair a b=>simp[eF,Value.cells]
  |_=>simp[Ty.cQ]at h
  cases h
end
section
variable{H:Type}{enc:TypeId×Value->H}{P:Program}
def adu{f:Func}{s:ChangeSpec}{W h:World}{args:Array Value}{v:Value}{m gs:List (DataW H)}{before:List MemPlace}
 (q:DataW.Whole enc P f.params.toList s.vars false W args.toList m gs before)
 (e:∀(b:Nat) (sp:Nat->Bool) (B:Bool),DataW.TrodAll enc P h b sp B f.resultTypes.toList (v.resultList f.resultTypes.size) (s.fn H (m++gs)).results [])
 (c:∀sp:Nat->Bool,(∀p∈before,sp p.block=true)->DataW.TrodAll enc P h 0 sp true f.params.toList args.toList (s.fn H (m++gs)).args before)
 (k:s.vars=[]) (l:(s.fn H (m++gs)).vars=[]) (I:W.keptBut h (·∈before)) (J:∀b,b<W.heap.size->h.heap[b]?=W.heap[b]?)
 (u:∀(j:Nat) (t:TypeId) (r:Value),f.resultTypes[j]?=some t->(v.resultList f.resultTypes.size)[j]?=some r->Value.okWide P h .any 0 t r):
 s.post enc P f false true false false W args v h:=by
 have hold:∀p∈before,(λb=>decide (b<W.heap.size)) p.block=true:=λp d=>by simpa using q.lt p d
 have y:∀sp,DataW.TrodVars enc P h sp s.vars (s.fn H (m++gs)).vars []:=λsp=>by rw[k,l];exact rfl
 refine⟨m,gs,before,[],before,[],q,e _ _ _,c _ hold,y _,World.keptBut_mono (λp d=>⟨d,?_⟩) I,λ_=> ?_⟩;exact Or.inr (by simpa using d);have x:=q.lt;obtain⟨_,_,_,_,_,N,_⟩:=q;refine⟨u,_,_,([]++before)++[],⟨[]++before,[],trodAll_append (c _ (λ_ _=>rfl)) (e _ _ _),y _,rfl,?_,?_⟩,?_⟩;intro b off d;have n:MemPlace.cell b off∈before:=by simpa using d
 have:=N b off n;have K:=x _ n;unfold World.frozen? at this|-;rw[J b K];exact this;intro z;cases z;intro p d _;simpa using d
theorem Gm(j:laidOutB P=true){W k:World}{sp:Nat->Bool}:∀ {ts:List TypeId} {e:List Value} {f:List (DataW H)} {p:List MemPlace},
 (∀t∈ts,P.readableRec t=true/\t<P.types.size)->DataW.TrodAll enc P W 0 (λ_=>true) true ts e f p->(∀x∈p,W.sameAt k x)->(∀x∈p,sp x.block=true)->DataW.TrodAll enc P k 0 sp true ts e f p
 | [],e,f,p,_,h,_,_=>by
   obtain⟨rfl,rfl,rfl⟩:=trodAll_nil h;exact rfl
 |t::ts,e,f,p,hr,h,h1,h2=>by
  obtain⟨v,e,d,ds',p',q,rfl,rfl,rfl,m,n⟩:=trodAll_cons h
  exact trodAll_cons_mk (WideElems.Trod_stays j (hr t (by simp)).1 (hr t (by simp)).2 m (λx c=>h1 x (by simp[c])) (λx c=>h2 x (by simp[c])))
   (Gm j (λt l=>hr t (by simp[l])) n (λx c=>h1 x (by simp[c])) (λx c=>h2 x (by simp[c])))
def Zw{f:FuncId}{fn:Func}{d:wj}(p:vd P f d)(q:P.funcs[f]?=some fn)(h:(fn.name== "runtime.NumGoroutine")=false)(s:fn.body.isSome=true)
 {W:World} {l:Gh} {args:List Value} {x:bu (d.ps.map PK.ty)} {y:bu (d.rs.map RK.ty++bR d.ps)} (t:d.F x=some y) (j:Pd W l (cI d.ps x 4).1 args (cE d.ps 4)):
 Calls P f args.toArray W (λe w'=>∃v,e= .returned v/\∃G' n nt,BX d W l args y v w' G' n nt):=by
 have:=p W l args x y t j;obtain⟨c,hc⟩:=arh.1 s
 have k:(callFunc f args.toArray).run P W= .ok (.enter f args.toArray) W:=by
  have m:fn.name≠ "runtime.NumGoroutine" :=by simpa using h
  unfold callFunc;simp[q,m,hc]
 unfold Ts at this;rw[k]at this;exact this
end
def xe:Ty->Pt
 | .sl _=> .rom
 | .pair a b=> .pair (xe a) (xe b)
 |_=> .leaf
theorem wZ:∀(τ:Ty) (tk:Nat) (hs:List Nat),bc (xe τ) tk hs=(iM τ (.sha [3]),tk)
 | .int _,_,_| .bool,_,_| .str,_,_| .sl _,_,_=>rfl
 | .pair a b,tk,hs=>by simp only[xe,bc,wZ a,wZ b,iM]
abbrev yc(τs:List Ty):List PK:=τs.map λτ=> .val τ (xe τ)
def Lu:(τs:List Ty)->bu ((yc τs).map PK.ty)->Prop
 | [],_=>True
 |τ::τs,x=>Fits τ x.1/\Lu τs x.2
section
variable{H:Type}{enc:TypeId×Value->H}{P:Program}{w:World}{G:Gh}
theorem T8(s:∀b,b<w.heap.size->G.col b=3){n:Nat}{r:Reach}{I:Nat}:∀ {τs:List Ty} {ts:List TypeId} {args:List Value} {f:List (DataW H)} {p:List MemPlace},
 Dd P n τs ts=true->DataW.TrodAll enc P w 0 (λ_=>true) true ts args f p->(∀(j:Nat) t v,ts[j]?=some t->args[j]?=some v->Value.okWide P w r I t v)->
 ∃x:bu ((yc τs).map PK.ty),Lu τs x/\args.length=τs.length/\f.length=τs.length/\∀tk i,cU w G ((cI (yc τs) x tk).1.getD i .no) (args.getD i undef)
 | [],[],args,f,p,_,c,_=>by
   obtain⟨rfl,rfl,rfl⟩:=trodAll_nil c;exact⟨(),trivial,rfl,rfl,λtk i=>trivial⟩
 |τ::τs,t::ts,args,f,p,hd,c,hv=>by
  simp only[Dd,en]at hd;obtain⟨v,J,d,ds',p',q,rfl,rfl,rfl,K,N⟩:=trodAll_cons c;obtain⟨x,R,S,m,W⟩:=T8 s hd.2 N (λj t v c k=>hv (j+1) t v (by simpa using c) (by simpa using k));obtain⟨fuel,X⟩:=K;obtain⟨y,B,u,e⟩:=Z7 n hd.1 X;refine⟨(y,x),⟨e,R⟩,by simp[S],by simp[m],λtk i=> ?_⟩;have l:=afN hd.1 (hv 0 t v rfl rfl);cases i with
  |zero=>
   show cU w G (.d ⟨τ,y,(bc (xe τ) tk [1]).1⟩) v;rw[wZ];exact⟨_,l,bJ.Iv u (λb z=>by simp[s b (u.bounds b z)]) (by simp)⟩
  |succ i=>
   show cU w G ((cI (yc τs) x (bc (xe τ) tk [1]).2).1.getD i .no) (J.getD i undef);exact W _ i
 | [],_::_,_,_,_,h,_,_|_::_,[],_,_,_,h,_,_=>by simp[Dd]at h
end
theorem LV:∀(τs:List Ty) (tk:Nat),cE (yc τs) tk=tk
 | [],_=>rfl
 |τ::τs,tk=>by
  show cE (yc τs) (aU (xe τ) tk)=tk
  have:aU (xe τ) tk=tk:=by
   rw[<-cS (xe τ) tk [1],wZ]
  rw[this,LV τs]
theorem aaq:∀τs:List Ty,UM (yc τs)=[]
 | []=>rfl
 |τ::τs=>aaq τs
theorem Kh:∀(τs:List Ty) (tk:Nat),dg (yc τs) tk=[]
 | [],_=>rfl
 |_::τs,_=>Kh τs _
section
variable{H:Type}{enc:TypeId×Value->H}{P:Program}
def VA{f:FuncId}{fn:Func}{τs:List Ty}{F:bu ((yc τs).map PK.ty)->Option (bu ([RK.val .bool .leaf].map RK.ty++bR (yc τs)))}{spec:ChangeSpec}{tb:TypeId}{n:Nat}
 (hm:vd P f ⟨yc τs,[.val .bool .leaf],F,[]⟩) (hf:P.funcs[f]?=some fn) (I:(fn.name== "runtime.NumGoroutine")=false) (d:fn.body.isSome=true)
 (hd:Dd P n τs fn.params.toList=true) (s:fn.resultTypes= #[tb]) (e0:P.underlying tb=some .bool) (hl:laidOutB P=true)
 (hr:fn.params.toList.all (λt=>P.readableRec t&&decide (t<P.types.size))=true) (k:spec.vars=[])
 (J:∀B:List (DataW H),B.length=τs.length->spec.fn H B={results:=[.lit (.bool true)],args:=B})
 (hF:∀x,Lu τs x->∃y,F x=some y/\y.1=true)
 (W:World) (base:Nat) (args:Array Value) (B gs:List (DataW H)) (before:List MemPlace)
 (h0:∀(j:Nat) t v,fn.params[j]?=some t->args[j]?=some v->Value.okWide P W .any base t v)
 (hW:DataW.Whole enc P fn.params.toList spec.vars false W args.toList B gs before):
 Calls P f args W λe R=>∃v,e= .returned v/\spec.post enc P fn false true false false W args v R:=by
 have x0:=hW;have E0:=hW.lt;obtain⟨p,q,hA,hV,rfl,hfz,hnd⟩:=hW;rw[k]at hV;obtain⟨rfl,rfl⟩:=trodVars_none hV;have k0:DataW.TrodAll enc P W 0 (λ_=>true) true fn.params.toList args.toList B p:=hA
 let X:Gh:=⟨λb=>if b<W.heap.size then 3 else 0,λ_=>undef,λ_=>false⟩
 obtain⟨x,u0,hlen,a1,hs⟩:=T8 (G:=X) (λb d=>an d) hd k0 (λj t v S Y=>h0 j t v (by simpa using S) (by simpa using Y));obtain⟨y,hy,b1⟩:=hF x u0
 have o0:Pd W X (cI (yc τs) x 4).1 args.toList (cE (yc τs) 4):=by
  rw[LV];refine⟨by rw[uu,hlen];simp,λi=>hs 4 i,λi=> ?_,λi j t v v' h h'=>wx h h',λb d=> ?_,λb d=> ?_,⟨rfl,rfl⟩,λb=> ?_⟩;by_cases hi:i<(cI (yc τs) x 4).1.length
  have p0:(cI (yc τs) x 4).1.getD i .no∈(cI (yc τs) x 4).1:=by
   rw[D_,H_ hi];simp
  obtain⟨S,Y,h3⟩:=mZ _ p0;rw[LV]at S;have L0:=Kh τs 4;refine⟨λc hc=> ?_,λc hc=> ?_,by rw[h3];simp⟩;rcases S c hc with zM|⟨q1,q2,q3⟩|h;exact⟨by omega,by omega,rfl⟩;omega;rw[aaq]at h;cases h;have:=Y c hc;rw[L0]at this;cases this;rw[D_,arv (by omega)];simp[bM,SV.sc,SV.bt,SV.rt];simp only[X]at d|-;split at d;rename_i h;exact⟨by rw[an h];omega,h⟩;omega;simp only[X]at d;split at d<;>omega;simp only[X];split<;>omega
 have l:=Zw hm hf I d hy o0;simp only[asl]at l;refine l.mono λe R ⟨v,he,G',vs,nt,hp⟩=>⟨v,he,?_⟩
 have m:=hp.len;simp only[arM]at m;obtain⟨u,rfl⟩:=List.length_eq_one_iff.1 m
 have hv:v= .bool true:=by
  rw[hp.val];obtain⟨cs,S,Y⟩:=hp.res 0;have r0:cs=[.bool y.1]:=Y;rw[b1]at r0;subst r0;exact S
 subst hv;have hh:∀b,b<W.heap.size->R.heap[b]?=W.heap[b]?:=λb d=>(hp.frame b d (by simp only[X];split<;>omega)).2
 have K:∀z∈p,W.sameAt R z:=by
  intro z hz;have s0:=E0 z (by simpa using hz);cases z with
  |cell b off=>
   show R.cell? ⟨b,off,none⟩=W.cell? ⟨b,off,none⟩;unfold World.cell?;simp only;rw[hh b s0]
  |map b=>exact hh b s0
 have R0:W.keptBut R (·∈p++[]):=by
  refine⟨hp.os,hp.output,λi hi=> ?_⟩;rw[hh i hi];cases W.heap[i]? with
  |none=>rfl
  |some ob=>cases ob<;>simp
 have N:=J (B++[]) (by simpa using a1);refine adu x0 (λb sp hd=> ?_) (λsp b0=> ?_) k (by rw[N]) R0 hh (ok_one s rfl (okWide_bool_mk e0 _));rw[N,s];exact trodAll_cons_mk (shut_bool e0 _) trodAll_mk0;rw[N,ar9,ar9]
 exact Gm hl (λt ht=>by
  have:=kb.1 hr t ht;simpa using this) k0 K (λz hz=>b0 z (by simpa using hz))
end
end Vg
namespace Vg
open Go
structure af0 where
 τ:Ty
 F:τ.den->Int->Option (Int×τ.den)
structure alA where
 t:Nat
 e:Ty
 l:List e.den
section
variable{P:Program}{C:Cx}{w0:World}{c0:C0}{U:Nat->Prop}{E:Env}{a:Act}{w w':World}{G G':Gh}{L:List alA}
end
section
variable{ρ:Type}
def oV(o:Oper)(a:Option Bool)(E:Env)(k:Env->Option ρ):Ef->Option ρ
 | .val v=>k (E.set o.dst (eQ o.guard a v))
 | .chk c v=>if(match a with|none=>c|some b=> !b||c)=true then k (E.set o.dst (eQ o.guard a v))else none
 | .opt _ z x f=>(match a with|none=>x|some b=>if b=true then x else some z).bind λr=>k (E.set o.dst (eQ o.guard a (f r)))
 | .put b s v=>match a.isNone&&o.dst.isNone with|true=>k {E with s:=E.s.set s (.box b v)}|false=>none
 | .app c kl gv t v=>match a.isNone with|true=>(if c=true then k (((E.kill kl).aX gv t).set o.dst v.kT)else none)|false=>none
 | .elem gv b e l m=>match a.isNone&&o.dst.isNone with|true=>k (E.elem gv b e l m)|false=>none
 | .nap c gv b e l m v=>match a.isNone with|true=>(if c=true then k ((E.elem gv b e l m).set o.dst v.kT)else none)|false=>none
 | .call _ x tks f rp=>match a.isNone with|true=>x.bind λr=>let E1:=E.cK tks (rp r);k (Env.set {E1 with s:=cg (f r).2 E1.s} o.dst (f r).1.kT)|false=>none
def aae(o:Oper)(a:Option Bool)(E:Env)(k:Env->Option ρ)(d:Ef):oV o a E k d=bH o a E k d:=by
 cases d with
 |put b s v=>simp only[oV,bH];cases (a.isNone&&o.dst.isNone)<;>rfl
 |app c kl h t v=>simp only[oV,bH];cases (a.isNone)<;>rfl
 |elem h b e l m=>simp only[oV,bH];cases (a.isNone&&o.dst.isNone)<;>rfl
 |nap c h b e l m v=>simp only[oV,bH];cases a.isNone<;>rfl
 |call α x tks f rp=>simp only[oV,bH];cases (a.isNone)<;>rfl
 |_=>rfl
def ajM(C:Cx)(ops:List Oper)(nt:Nat):List Oper->Nat->Env->(Env->Option ρ)->Option ρ
 | [],_,E,k=>k E
 |o::l,i,E,k=>match guardOf ops E.rd o.guard with
  |none=>none
  |some a=>match oj C ops E.rd (nt+32*i) o.guard o with
   |none=>none
   |some c=>oV o a E (λE'=>ajM C ops nt l (i+1) E' k) c
def EL(o:Oper)(a:Option Bool)(d:Ef)(k:Tr×List (Nat×SV)->Option ρ):Option ρ:=
 match d with
 | .val v=>k (.id,wr o.dst (eQ o.guard a v))
 | .chk c v=>if(match a with|none=>c|some b=> !b||c)=true then k (.id,wr o.dst (eQ o.guard a v))else none
 | .opt _ z x f=>(match a with|none=>x|some b=>if b=true then x else some z).bind λr=>k (.id,wr o.dst (eQ o.guard a (f r)))
 | .put b s v=>match a.isNone&&o.dst.isNone with|true=>k (.id,[(s,.box b v)])|false=>none
 | .app c kl gv t v=>match a.isNone with|true=>(if c=true then k (.kg kl gv t,wr o.dst v.kT)else none)|false=>none
 | .elem gv b e l m=>match a.isNone&&o.dst.isNone with|true=>k (.el gv b e l m,[])|false=>none
 | .nap c gv b e l m v=>match a.isNone with|true=>(if c=true then k (.el gv b e l m,wr o.dst v.kT)else none)|false=>none
 | .call _ x tks f rp=>match a.isNone with|true=>x.bind λr=>k (.ki tks (rp r),(f r).2.map (λp=>(p.2.1,SV.box p.1 p.2.2))++wr o.dst (f r).1.kT)|false=>none
def ags(o:Oper)(a:Option Bool)(d:Ef)(k:Tr×List (Nat×SV)->Option ρ):EL o a d k=ud o a d k:=by
 cases d with
 |put b s v=>simp only[EL,ud];cases (a.isNone&&o.dst.isNone)<;>rfl
 |app c kl h t v=>simp only[EL,ud];cases (a.isNone)<;>rfl
 |elem h b e l m=>simp only[EL,ud];cases (a.isNone&&o.dst.isNone)<;>rfl
 |nap c h b e l m v=>simp only[EL,ud];cases a.isNone<;>rfl
 |call α x tks f rp=>simp only[EL,ud];cases (a.isNone)<;>rfl
 |_=>rfl
def Jb(C:Cx)(ops:List Oper)(nt:Nat):List Oper->Nat->Env->List eG->(Env->List eG->Option ρ)->Option ρ
 | [],_,E,L,k=>k E L
 |o::l,i,E,L,k=>match guardOf ops E.rd o.guard with
  |none=>none
  |some a=>match oj C ops E.rd (nt+32*i) o.guard o with
   |none=>none
   |some c=>EL o a c λr=>Jb C ops nt l (i+1) (E.iD r) (zK ops i o E r::L) k
theorem OC(C:Cx)(ops:List Oper)(nt:Nat)(k:Env->List eG->Option ρ):∀(l:List Oper) (i:Nat) (E:Env) (L:List eG),Jb C ops nt l i E L k=CJ C ops nt l i E L k
 | [],_,_,_=>rfl
 |o::l,i,E,L=>by
  simp only[Jb,CJ,ags];cases guardOf ops E.rd o.guard with
  |none=>rfl
  |some a=>
   simp only;cases oj C ops E.rd (nt+32*i) o.guard o with
   |none=>rfl
   |some ef=>
    simp only;congr 1;funext r;exact OC C ops nt k l (i+1) (E.iD r) _
end
section
variable{P:Program}{C:Cx}{w0:World}{c0:C0}{U:Nat->Prop}{E:Env}{a:Act}{w:World}{G:Gh}{Q:Exit->Act->World->Prop}
def aic{e:Ty}{l:List e.den}{b off cap:Nat}{c:Array Value}{el:TypeId}{t:List Nat}{i:Nat}(hi:i<l.length)(W:w.heap[b]?=some (.cells c el (0,0)))
 (hsz:off+cap*e.sz<=c.size) (k:l.length<=cap) (X:aZ (aW w e) l ((c.toList.drop off).take (l.length*e.sz)) t) (j:(b::t).Nodup):
 ∃f,eX (w.setCells b (off+i*e.sz) (((c.toList.drop off).take (l.length*e.sz)).drop ((i+1)*e.sz))) e.sz (aW (w.setCells b (off+i*e.sz) (((c.toList.drop off).take (l.length*e.sz)).drop ((i+1)*e.sz))) e)
  (l.take i++l.drop (i+1)) (.slice (some ⟨b,off,none⟩) (l.length-1) cap) (b::f)/\(∀x∈f,x∈t)/\(b::f).Nodup:=by
 have s:l[i]?=some l[i]:=H_ hi;obtain⟨J,Bx,K,rfl,_,h1,q⟩:=aZ.get (sz:=e.sz) (λx c B h=>aW.len h) X s;generalize m:(c.toList.drop off).take (l.length*e.sz)=cs at*
 have hm1:i*e.sz+e.sz=(i+1)*e.sz:=by rw[N',arA]
 have hm2:(i+1)*e.sz<=l.length*e.sz:=aq5 _ hi;have hm3:l.length*e.sz<=cap*e.sz:=aq5 _ k;have n:cs.length=l.length*e.sz:=by rw[<-m];simp;omega
 generalize u:cs.drop ((i+1)*e.sz)=ys at*
 have v:ys.length=l.length*e.sz-(i+1)*e.sz:=by rw[<-u];simp[n]
 have p:=iN b (el:=el) ys (off+i*e.sz) w c W (by omega);rw[arE]at j;simp only[k_,not_or,ars]at j
 have y:∀z∈J++K,(w.setCells b (off+i*e.sz) ys).heap[z]?=w.heap[z]?:=by
  intro z N;refine cr b _ _ w z (λe=> ?_);subst e;rcases k_.1 N with h|h;exact j.1.1 h;exact j.1.2.2 h
 refine⟨J++K,.inr ⟨b,off,cap,_,el,(0,0),J++K,?_,?_,p,?_,rfl,?_⟩,?_,?_⟩;simp;omega;simp;omega;simp;omega
 have hlen:(l.take i++l.drop (i+1)).length*e.sz=i*e.sz+ys.length:=by
  have:(l.take i++l.drop (i+1)).length=i+(l.length-(i+1)):=by simp;omega
  rw[this,N',v,Nat.sub_mul]
 have d:((c.toList.take (off+i*e.sz)++ys++c.toList.drop (off+i*e.sz+ys.length)).drop off).take ((l.take i++l.drop (i+1)).length*e.sz)=cs.take (i*e.sz)++ys:=by
  have htl:(c.toList.take (off+i*e.sz)).length=off+i*e.sz:=by simp;omega
  have Y:(c.toList.take (off+i*e.sz)).drop off=cs.take (i*e.sz):=by
   rw[<-m,asF,asC (by omega),List.drop_take];congr 1;omega
  rw[ars,List.drop_append_of_le_length (by omega),Y,<-ars,hlen];have I:(cs.take (i*e.sz)++ys).length=i*e.sz+ys.length:=by rw[arc,List.length_take,n,asC (by omega)]
  rw[<-I,asg]
 have hr:=aZ.append h1 q;have:=aZ.world y hr;rw[d];exact this;intro x s;rcases k_.1 s with h|h;simp[h];simp[h];rw[arE];refine⟨λh=> ?_,?_⟩;rcases k_.1 h with h|h;exact j.1.1 h;exact j.1.2.2 h;have q:=j.2;rw[asv]at q|-;obtain⟨q1,q2,q3⟩:=q;rw[asv]at q2;exact⟨q1,q2.2.1,λa R b S=>q3 a R b (arO _ S)⟩
theorem Inv.del(J:Inv w0 c0 U E a w G){e:Ty}{l:List e.den}{v:Value}{m:M}{ts:List Nat}(hr:cL w G e l v m)(ho:m.own=some ts)(q:∀c∈ts,4<=c/\Good U G c)
 {i:Nat} (hi:i<l.length) {tk:Nat} (h3:4<=tk) (hU:¬U tk):
 ∃b off cap c el,v= .slice (some ⟨b,off,none⟩) l.length cap/\l.length<=cap/\w.heap[b]?=some (.cells c el (0,0))/\off+cap*e.sz<=c.size/\(∀u∈(c.toList.drop off).take (l.length*e.sz),u.oneCell'=true)/\
  ∃G',Inv w0 c0 (λu=>U u\/u=tk) (E.kill ts) a (w.setCells b (off+i*e.sz) (((c.toList.drop off).take (l.length*e.sz)).drop ((i+1)*e.sz))) G'/\
   cL (w.setCells b (off+i*e.sz) (((c.toList.drop off).take (l.length*e.sz)).drop ((i+1)*e.sz))) G' e (l.take i++l.drop (i+1)) (.slice (some ⟨b,off,none⟩) (l.length-1) cap) (.row tk [tk] true)/\G'.bx tk=false:=by
 obtain⟨B,hB,hn,hc⟩:=hr.own ho;rcases hB with⟨_,rfl,_⟩|⟨b,off,cap,c,el,fz,Bs,hv,y,hb,S,rfl,hl⟩;simp at hi;have I:=hc b (by simp);obtain⟨c',W,N⟩:=J.fresh b (q _ I).1;rw[N]at hb;simp only[hJ,Obj.cells.injEq]at hb;obtain⟨rfl,rfl,rfl⟩:=hb;obtain⟨h0,r1,r2,r3⟩:=aic hi N S y hl hn;refine⟨b,off,cap,c',W,hv,y,N,S,aZ.ab3 hl,G.aX ts tk (.slice (some ⟨b,off,none⟩) (l.length-1) cap),?_,⟨h3,by simp[Gh.aX],b::h0,r1,λb2 Bs2 h2=> ?_⟩,by simp[Gh.aX]⟩;have hm2:(i+1)*e.sz<=l.length*e.sz:=aq5 _ hi;have hm1:i*e.sz+e.sz=(i+1)*e.sz:=by rw[N',arA]
 have hm3:l.length*e.sz<=cap*e.sz:=aq5 _ y;generalize b0:((c'.toList.drop off).take (l.length*e.sz)).drop ((i+1)*e.sz)=ys at*
 have hyl:ys.length=l.length*e.sz-(i+1)*e.sz:=by rw[<-b0];simp;omega
 have R:=iN b (el:=W) ys (off+i*e.sz) w c' N (by omega)
 refine(J.kill ts).change (ts:=ts) (aas J q) (λz _ p=>⟨cr b _ _ w z (λe=>p (e▸I)),by simp[Gh.aX,p]⟩) (λu hu=> ?_) (λ_ h=> .inl h) (λz p=> ?_)
  (λz p=> ?_) (λz p=> ?_) (λz p X=> ?_) (λz p=> ?_) (by rw[fH];exact N_ _)
  (cP b _ _ w).1 (cP b _ _ w).2.1 (cP b _ _ w).2.2
 have:u≠tk:=λe=>hU (e▸hu);simp[Gh.aX,this];simp only[Gh.aX]at p|-;split at p;right;rw[an (by assumption)];left;rw[a_ (by assumption)];exact J.colU z p;rw[fH];simp only[Gh.aX]at p;split at p;rename_i h;exact J.lt z (by have:=(q _ h).1;omega);exact J.lt z p
 have e0:4<=G.col z:=by
  simp only[Gh.aX]at p;split at p;rename_i h;exact(q _ h).1;exact p
 by_cases e1:z=b;subst e1;exact⟨_,_,R⟩;rw[cr b _ _ w z e1];exact J.fresh z e0;have N:=J.frame z p X;have K:G.col z∉ts:=λh=>by have:=(q _ h).1;omega
 refine⟨(a_ K).trans N.1,?_⟩;rw[cr b _ _ w z (λe=>K (e▸I))];exact N.2;simp only[Gh.aX]at p|-;split at p;omega;rename_i Y;rw[a_ Y];cases h2;refine⟨by simp[Gh.aX,I],(arE.1 r3).1,λx hx=> ?_,λ_=>(arE.1 r3).2⟩;simp[Gh.aX,hc x (aq4 _ (r2 x hx))]
end
def BM(o:Oper):Option (Nat×Nat):=
 match o.guard,o.op,o.dst with
 |none,.move (.tmp x),some d=>some (d,x)
 |_,_,_=>none
def WG(o:Oper):Option (Nat×Nat):=
 match o.guard,o.op,o.dst with
 |none,.assign (.tmp x),some d=>some (d,x)
 |_,_,_=>none
def abe(o:Oper):Option (TypeId×Nat×Nat×Nat):=
 match o.guard,o.op,o.dst with
 |none,.slice t (.tmp x) none (some (.tmp h)) none,some d=>some (t,d,x,h)
 |_,_,_=>none
def acm(o:Oper):Option (TypeId×Nat×Nat×Nat):=
 match o.guard,o.op,o.dst with
 |none,.slice t (.tmp x) (some (.tmp h)) none none,some d=>some (t,d,x,h)
 |_,_,_=>none
def WJ(o:Oper):Option (TypeId×Nat×Nat):=
 match o.guard,o.op,o.dst with
 |none,.binOp .add t (.tmp x) (.const (.int .i64 1)) _,some d=>some (t,d,x)
 |_,_,_=>none
def WI(o:Oper):Option (TypeId×Nat×Nat×Nat):=
 match o.guard,o.op,o.dst with
 |none,.call c,some d=>(match c.callee,c.args.toList,c.argTypes.toList with
  | .builtin .append,[.tmp x,.tmp y],[t,u]=>(match decide (t=u)with|true=>some (t,d,x,y)|false=>none)
  |_,_,_=>none)
 |_,_,_=>none
structure qB where
 t:TypeId
 ti:TypeId
 s:Nat
 j:Nat
 d0:Nat
 d1:Nat
 d2:Nat
 d3:Nat
 d4:Nat
 d5:Nat
 d6:Nat
 d7:Nat
def qB.tmps(d:qB):List Nat:=[d.s,d.j,d.d0,d.d1,d.d2,d.d3,d.d4,d.d5,d.d6,d.d7]
def qB.outs(d:qB):List Nat:=[d.s,d.d0,d.d1,d.d2,d.d3,d.d4,d.d5,d.d6,d.d7]
def Yr(n:Nat):Nat->Array Bool
 |0=>arU n false
 |i+1=>(Yr n i).setIfInBounds i true
def YZ(ops:Array Oper):Bool:=
 Region.noSelect ops&&(asB 7).all (λi=>Region.free .any ops (Yr 9 i) i&&(Region.ready .any ops (Yr 9 i)).contains i)&&
 decide (Region.ready .any ops (Yr 9 7)=[7])&&decide (Region.ready .any ops (Yr 9 8)=[8])&&decide (Region.ready .any ops (Yr 9 9)=[])
def Bp(ops:List Oper):Option qB:=
 match ops with
 | [o0,o1,o2,o3,o4,o5,o6,o7,o8]=>
   match BM o0,BM o1,abe o2,BM o3,BM o4,WJ o5,acm o6,WI o7,WG o8 with
   |some (d0,s),some (d1,j),some (t,d2,x2,h2),some (d3,s3),some (d4,j4),some (ti,d5,x5),some (t6,d6,x6,l6),some (t7,d7,x7,y7),some (s8,x8)=>
    match decide (x2=d0/\h2=d1/\s3=s/\j4=j/\x5=d4/\x6=d3/\l6=d5/\x7=d2/\y7=d6/\x8=d7/\s8=s/\t6=t/\t7=t/\([s,j,d0,d1,d2,d3,d4,d5,d6,d7]:List Nat).Nodup)&&YZ #[o0,o1,o2,o3,o4,o5,o6,o7,o8]with
    |true=>some ⟨t,ti,s,j,d0,d1,d2,d3,d4,d5,d6,d7⟩
    |false=>none
   |_,_,_,_,_,_,_,_,_=>none
 |_=>none
section
variable{P:Program}{C:Cx}{w0:World}{c0:C0}{U:Nat->Prop}{E:Env}{a:Act}{w:World}{G:Gh}{Q:Exit->Act->World->Prop}
def om{o:Oper}{d x:Nat}(h:BM o=some (d,x)):o.guard=none/\o.op= .move (.tmp x)/\o.dst=some d:=by
 unfold BM at h;split at h;rename_i c e f;cases h;exact⟨c,e,f⟩;cases h
def O4{o:Oper}{d x:Nat}(h:WG o=some (d,x)):o.guard=none/\o.op= .assign (.tmp x)/\o.dst=some d:=by
 unfold WG at h;split at h;rename_i c e f;cases h;exact⟨c,e,f⟩;cases h
def UC{o:Oper}{t:TypeId}{d x y:Nat}(h:abe o=some (t,d,x,y)):o.guard=none/\o.op= .slice t (.tmp x) none (some (.tmp y)) none/\o.dst=some d:=by
 unfold abe at h;split at h;rename_i c e f;cases h;exact⟨c,e,f⟩;cases h
def T9{o:Oper}{t:TypeId}{d x y:Nat}(h:acm o=some (t,d,x,y)):o.guard=none/\o.op= .slice t (.tmp x) (some (.tmp y)) none none/\o.dst=some d:=by
 unfold acm at h;split at h;rename_i c e f;cases h;exact⟨c,e,f⟩;cases h
def N8{o:Oper}{t:TypeId}{d x:Nat}(h:WJ o=some (t,d,x)):o.guard=none/\(∃u,o.op= .binOp .add t (.tmp x) (.const (.int .i64 1)) u)/\o.dst=some d:=by
 unfold WJ at h;split at h;rename_i c e f;cases h;exact⟨c,⟨_,e⟩,f⟩;cases h
def PX{o:Oper}{t:TypeId}{d x y:Nat}(h:WI o=some (t,d,x,y)):o.guard=none/\(∃c:Call,o.op= .call c/\c.callee= .builtin .append/\c.args= #[.tmp x,.tmp y]/\c.argTypes= #[t,t])/\o.dst=some d:=by
 unfold WI at h;split at h;rename_i c d' f j k;split at h;rename_i x' y' t' u' hc l m;split at h;rename_i e;simp only[b_]at e;cases h;subst e;exact⟨f,⟨c,j,hc,asm (by simpa using l),asm (by simpa using m)⟩,k⟩;cases h;cases h;cases h
def NT{o:Oper}{x:Nat}(h:o.op= .move (.tmp x)):(execOp a.eval o).run P w= .ok (.value (a.tmps.getD x undef)) w:=by
 simp only[execOp,h];rfl
def aid{o:Oper}{x:Nat}(h:o.op= .assign (.tmp x)):(execOp a.eval o).run P w= .ok (.value (a.tmps.getD x undef)) w:=by
 simp only[execOp,h];rfl
def vv{d s:Nat}{v:Value}(h:d<a.tmps.size):(a.put (some d) v).tmps.getD s undef=if s=d then v else a.tmps.getD s undef:=by
 rw[Xz a (some d) v s (by rintro x ⟨⟩;exact h)];by_cases e:s=d;subst e;rw[an rfl,an rfl];rw[a_ (by simpa using e),a_ e]
def aeW{o:Oper}{t el:TypeId}{e:Ty}{x y n cap b off:Nat}{i:Nat}(f:P.underlying t=some (.slice el))(j:jk P el e)(h:o.op= .slice t (.tmp x) none (some (.tmp y)) none)
 (l:a.tmps.getD x undef= .slice (some ⟨b,off,none⟩) n cap) (m:a.tmps.getD y undef= .int .i64 i) (h1:i<=cap):(execOp a.eval o).run P w= .ok (.value (.slice (some ⟨b,off,none⟩) i cap)) w:=by
 simp only[execOp,h];refine fM ?_;have d:a.eval (.tmp x)= .slice (some ⟨b,off,none⟩) n cap:=l;have c:a.eval (.tmp y)= .int .i64 i:=m;have:=kO (P:=P) (w:=w) (k:= .i64) (i:=(i:Int)) (y:=cap) (code:= .sliceAcap) (by omega) (by omega);rw[d];simp only[arI]at this;by_cases hc:cap=0;rw[hc]at this;simp[Instr.sliceAt,Instr.slice,Instr.sliceBounds,run_underlying f,eY j,c,this,hc];simp[Instr.sliceAt,Instr.slice,Instr.sliceBounds,run_underlying f,eY j,c,this,Addr.add_lit]
def aeA{o:Oper}{t el:TypeId}{e:Ty}{x y n cap b off:Nat}{i:Nat}(f:P.underlying t=some (.slice el))(j:jk P el e)(h:o.op= .slice t (.tmp x) (some (.tmp y)) none none)
 (l:a.tmps.getD x undef= .slice (some ⟨b,off,none⟩) n cap) (m:a.tmps.getD y undef= .int .i64 i) (h1:i<=n):(execOp a.eval o).run P w= .ok (.value (.slice (some ⟨b,if cap=i then off else off+i*e.sz,none⟩) (n-i) (cap-i))) w:=by
 simp only[execOp,h];refine fM ?_;have d:a.eval (.tmp x)= .slice (some ⟨b,off,none⟩) n cap:=l;have c:a.eval (.tmp y)= .int .i64 i:=m;have:=kO (P:=P) (w:=w) (k:= .i64) (i:=(i:Int)) (y:=n) (code:= .sliceB) (by omega) (by omega);rw[d];simp only[arI]at this;by_cases hc:cap=i;subst hc;simp[Instr.sliceAt,Instr.slice,Instr.sliceBounds,run_underlying f,eY j,c,this];simp[Instr.sliceAt,Instr.slice,Instr.sliceBounds,run_underlying f,eY j,c,this,hc,Addr.add_lit]
def ahW{o:Oper}{t u:TypeId}{x:Nat}{i:Nat}(h:o.op= .binOp .add t (.tmp x) (.const (.int .i64 1)) u)(e:a.tmps.getD x undef= .int .i64 i)(hi:i<4294967296):
 (execOp a.eval o).run P w= .ok (.value (.int .i64 ((i+1:Nat):Int))) w:=by
 simp only[execOp,h];refine fM ?_;have c:a.eval (.tmp x)= .int .i64 i:=e;have f:a.eval (.const (.int .i64 1))= .int .i64 1:=rfl;rw[c,f]
 have j:IntKind.i64.wrap ((i:Int)+1)=((i+1:Nat):Int):=by
  simp only[asI,asG,asJ];simp;omega
 have d:∀v,eqGuard .add t (.tmp x) (.const (.int .i64 1)) (.int .i64 i) v=pure ():=λv=>eqGuard_at_int ..;simp[d,binOp,Op.intArith,j]
def ad9(f:Inv w0 c0 U E a w G){j:Nat}{n:Int}{sh:Sh}(h:E.get j= .d ⟨.int .i64,n,sh⟩):a.tmps.getD j undef= .int .i64 n:=by
 have e:=f.slots j;have k:E.s.getD j .no= .d ⟨.int .i64,n,sh⟩:=h;rw[k]at e;obtain⟨l,p,c⟩:=e;cases sh with
 |leaf=>rw[p,show l=_ from c];rfl
 |sl m=>exact c.elim
 |pair a b=>exact c.elim
theorem Inv.xA(c:Inv w0 c0 U E a w G)(d:Option Nat)(v:Value):Inv w0 c0 U (E.set d .no) (a.put d v) w G:=
 c.put d (sv:= .no) trivial (by simp[SV.sc]) (by simp[SV.bt]) (by simp[SV.rt]) (by rintro _ _ ⟨⟩)
def O9{ops:Array Oper}{d:qB}(h:Bp ops.toList=some d):∃c e f k l m n p q,ops= #[c,e,f,k,l,m,n,p,q]/\
 BM c=some (d.d0,d.s)/\BM e=some (d.d1,d.j)/\abe f=some (d.t,d.d2,d.d0,d.d1)/\BM k=some (d.d3,d.s)/\BM l=some (d.d4,d.j)/\WJ m=some (d.ti,d.d5,d.d4)/\
 acm n=some (d.t,d.d6,d.d3,d.d5)/\WI p=some (d.t,d.d7,d.d2,d.d6)/\WG q=some (d.s,d.d7)/\d.tmps.Nodup/\YZ ops=true:=by
 unfold Bp at h;split at h;rename_i c e f k l m n p q u;split at h;rename_i x y z B I J h6 h7 h8;split at h;rename_i hc;simp only[en,b_]at hc;obtain⟨⟨rfl,rfl,rfl,rfl,rfl,rfl,rfl,rfl,rfl,rfl,rfl,rfl,rfl,K⟩,N⟩:=hc;cases h;have v:ops= #[c,e,f,k,l,m,n,p,q]:=asm u;exact⟨c,e,f,k,l,m,n,p,q,v,x,y,z,B,I,J,h6,h7,h8,K,by rw[v];exact N⟩;cases h;cases h;cases h
theorem CN(b:Nat):∀(c:List Value) (o n:Nat) (w:World),({w with drawn:=n}:World).setCells b o c={w.setCells b o c with drawn:=n}
 | [],_,_,_=>rfl
 |v::r,o,n,w=>by
  rw[World.setCells,World.setCells,<-CN b r (o+1) n];rfl
def Mh(E:Env)(d:qB)(ts:List Nat)(tk:Nat)(e:Ty)(l:List e.den)(i:Nat):Env:=
 ((((((((((E.kill ts).set (some d.d0) .no).set (some d.d1) .no).set (some d.d2) .no).set (some d.d3) .no).set (some d.d4) .no).set (some d.d5) .no).set (some d.d6) .no).set (some d.d7) .no).set (some d.s)
   (.d ⟨.sl e,l.take i++l.drop (i+1),.sl (.row tk [tk] true)⟩))
def qM{ops:Array Oper}{o:Oper}{v:Value}(c:o.guard=none)(h:∀w,(execOp a.eval o).run P w= .ok (.value v) w):Go.Yields P ops o v a:=
 .inl ⟨by simp[Region.wanted,c],h⟩
set_option maxHeartbeats 1000000 in
theorem ab6(hC:CxTy P C)(hm:P.follows .mixedOrders=true){N:Nat}(hI:Inv w0 c0 (λu=>u<N) E a w G){ops:Array Oper}{d:qB}(hd:Bp ops.toList=some d)
 {e:Ty} {l:List e.den} {m:M} {fs:List TypeId} {el:TypeId} (ht:C.tt d.t=some ⟨.sl e,fs,el⟩) (hs:E.s.getD d.s .no= .d ⟨.sl e,l,.sl m⟩) {i:Nat} {sh:Sh} (hj:E.get d.j= .d ⟨.int .i64,(i:Int),sh⟩)
 {ts:List Nat} (K:m.own=some ts) (hi:i<l.length) (hl:l.length<4294967296) (Y:∀x∈d.tmps,x<E.s.length) {tk:Nat} (h3:4<=tk) (hN:N<=tk) {id:Nat}
 (hK:∀a' w' G',Inv w0 c0 (λu=>u<N\/u=tk) (Mh E d ts tk e l i) a' w' G'->(∀x,x∉d.outs->a'.tmps.getD x undef=a.tmps.getD x undef)->Q .normal a' w'):
 (Code.region id ops true).wp P Q a w:=by
 obtain⟨o0,o1,o2,o3,o4,o5,o6,o7,o8,rfl,q0,q1,q2,q3,q4,q5,q6,q7,q8,hn,R⟩:=O9 hd;obtain⟨g0,p0,t0⟩:=om q0;obtain⟨g1,p1,t1⟩:=om q1;obtain⟨g2,p2,t2⟩:=UC q2;obtain⟨g3,p3,t3⟩:=om q3;obtain⟨g4,p4,t4⟩:=om q4;obtain⟨g5,⟨u5,p5⟩,t5⟩:=N8 q5;obtain⟨g6,p6,t6⟩:=T9 q6;obtain⟨g7,⟨c7,p7,pc,pa,pt⟩,t7⟩:=PX q7;obtain⟨g8,p8,t8⟩:=O4 q8;have hT:=(hC.tt _ _ ht).2;obtain⟨hu,c1⟩:=hT;have I:=hI.slots d.s;have J:=hI.wc d.s;rw[hs]at I J;obtain⟨cs,D2,E2⟩:=I;obtain⟨v,rfl,S⟩:=E2;have hv:a.tmps.getD d.s undef=v:=D2;have r1:=ad9 hI hj
 have r2:∀c∈ts,4<=c/\Good (λu=>u<N) G c:=by
  intro c hc;have u1:=M.k9 K c hc;have h1:=J.1 c u1;refine⟨?_,h1⟩;cases m with
  |row t n2 nd=>
   obtain⟨k1,k2,k3⟩:=M.nN K;rcases(k3 c).1 hc with rfl|hc;exact S.1;exact k2 c hc
  |sha n2=>
   cases n2 with
   |nil=>simp[M.own]at K;subst K;cases hc
   |cons x y=>simp[M.own]at K
  |nst=>simp[M.own]at K
  |dead=>simp[M.own]at K
 obtain⟨b,off,cap,c,G2,rfl,W,j1,hszc,H2,A1⟩:=hI.del S K r2 hi h3 (asz.2 hN);obtain⟨G',J2,l1,B1⟩:=A1;change l.length<=cap at W;simp only[qB.tmps,arE,n_,arz,or_false,not_or,List.nodup_nil,and_true]at hn;obtain⟨⟨n0_1,C1,D1,E1,n0_5,n0_6,n0_7,n0_8,n0_9⟩,⟨X,G1,J1,L1,n1_6,n1_7,n1_8,n1_9⟩,⟨T1,n2_4,n2_5,n2_6,n2_7,n2_8,n2_9⟩,⟨n3_4,n3_5,n3_6,n3_7,n3_8,n3_9⟩,⟨W1,X1,b2,c2,n4_9⟩,⟨h2,j2,n5_8,n5_9⟩,⟨n6_7,n6_8,n6_9⟩,⟨n7_8,n7_9⟩,n8_9⟩:=hn;have hlen:a.tmps.size=E.s.length:=hI.len;simp only[qB.tmps,n_,arz,or_false,forall_eq_or_imp,forall_eq]at Y;rw[<-hlen]at Y;obtain⟨z0,z1,z2,z3,z4,z5,z6,z7,z8,z9⟩:=Y;simp only[YZ,en,kb,asi,b_]at R;obtain⟨⟨⟨⟨p,f⟩,L2⟩,T2⟩,X2⟩:=R;refine wp_mono (Q:=λex a w=>ex= .normal/\Q .normal a w) ?_ (λex a w h=>by obtain⟨rfl,h⟩:=h;exact h);refine wp_region_any hm ?_
 have hQ:∀(v:Value) (o:Oper) c (a:Act) (w:World),(λ(ex:Exit) (a:Act) (w:World)=>ex= .normal/\Q .normal a w) (.panic c) (a.put o.dst v) w->(λ(ex:Exit) (a:Act) (w:World)=>ex= .normal/\Q .normal a w) (.panic c) a w:=
  λv o c a w h=>by have:=h.1;cases this
 generalize x1:({w with drawn:=w.drawn+1}:World)=w1;show wpAny P .any _ _ 9 (Yr 9 0) a w1;refine wpAny_take (i:=0) (oi:=o0) (v:= .slice (some ⟨b,off,none⟩) l.length cap) rfl p (f 0 (by decide)).1 (f 0 (by decide)).2 (hQ _ _) (qM g0 (λw=>by rw[<-hv];exact NT p0)) ?_;rw[t0];generalize b0:a.put (some d.d0) (.slice (some ⟨b,off,none⟩) l.length cap)=a1;have s1:a1.tmps.size=a.tmps.size:=by rw[<-b0,oU]
 have f1:∀s,a1.tmps.getD s undef=if s=d.d0 then .slice (some ⟨b,off,none⟩) l.length cap else a.tmps.getD s undef:=λs=>by rw[<-b0];exact vv z2
 refine wpAny_take (i:=1) (oi:=o1) (v:= .int .i64 i) rfl p (f 1 (by decide)).1 (f 1 (by decide)).2 (hQ _ _) (qM g1 (λw=>by
  have:=NT (P:=P) (a:=a1) (w:=w) p1;rw[f1,a_ X,r1]at this;exact this)) ?_
 rw[t1];generalize e0:a1.put (some d.d1) (.int .i64 i)=a2;have s2:a2.tmps.size=a.tmps.size:=by rw[<-e0,oU,s1]
 have f2:∀s,a2.tmps.getD s undef=if s=d.d1 then .int .i64 i else a1.tmps.getD s undef:=λs=>by rw[<-e0];exact vv (by rw[s1];exact z3)
 refine wpAny_take (i:=2) (oi:=o2) (v:= .slice (some ⟨b,off,none⟩) i cap) rfl p (f 2 (by decide)).1 (f 2 (by decide)).2 (hQ _ _) (qM g2 (λw=>
  aeW (n:=l.length) hu c1 p2 (by rw[f2,a_ T1,f1,an rfl]) (by rw[f2,an rfl]) (by omega))) ?_
 rw[t2];generalize h0:a2.put (some d.d2) (.slice (some ⟨b,off,none⟩) i cap)=a3;have s3:a3.tmps.size=a.tmps.size:=by rw[<-h0,oU,s2]
 have f3:∀s,a3.tmps.getD s undef=if s=d.d2 then .slice (some ⟨b,off,none⟩) i cap else a2.tmps.getD s undef:=λs=>by rw[<-h0];exact vv (by rw[s2];exact z4)
 refine wpAny_take (i:=3) (oi:=o3) (v:= .slice (some ⟨b,off,none⟩) l.length cap) rfl p (f 3 (by decide)).1 (f 3 (by decide)).2 (hQ _ _) (qM g3 (λw=>by
  have:=NT (P:=P) (a:=a3) (w:=w) p3;rw[f3,a_ E1,f2,a_ D1,f1,a_ C1,hv]at this;exact this)) ?_
 rw[t3];generalize r0:a3.put (some d.d3) (.slice (some ⟨b,off,none⟩) l.length cap)=a4;have s4:a4.tmps.size=a.tmps.size:=by rw[<-r0,oU,s3]
 have f4:∀s,a4.tmps.getD s undef=if s=d.d3 then .slice (some ⟨b,off,none⟩) l.length cap else a3.tmps.getD s undef:=λs=>by rw[<-r0];exact vv (by rw[s3];exact z5)
 refine wpAny_take (i:=4) (oi:=o4) (v:= .int .i64 i) rfl p (f 4 (by decide)).1 (f 4 (by decide)).2 (hQ _ _) (qM g4 (λw=>by
  have:=NT (P:=P) (a:=a4) (w:=w) p4;rw[f4,a_ L1,f3,a_ J1,f2,a_ G1,f1,a_ X,r1]at this;exact this)) ?_
 rw[t4];generalize s0:a4.put (some d.d4) (.int .i64 i)=a5;have s5:a5.tmps.size=a.tmps.size:=by rw[<-s0,oU,s4]
 have f5:∀s,a5.tmps.getD s undef=if s=d.d4 then .int .i64 i else a4.tmps.getD s undef:=λs=>by rw[<-s0];exact vv (by rw[s4];exact z6)
 refine wpAny_take (i:=5) (oi:=o5) (v:= .int .i64 ((i+1:Nat):Int)) rfl p (f 5 (by decide)).1 (f 5 (by decide)).2 (hQ _ _) (qM g5 (λw=>
  ahW p5 (by rw[f5,an rfl]) (by omega))) ?_
 rw[t5];generalize u0:a5.put (some d.d5) (.int .i64 ((i+1:Nat):Int))=a6;have s6:a6.tmps.size=a.tmps.size:=by rw[<-u0,oU,s5]
 have f6:∀s,a6.tmps.getD s undef=if s=d.d5 then .int .i64 ((i+1:Nat):Int)else a5.tmps.getD s undef:=λs=>by rw[<-u0];exact vv (by rw[s5];exact z7)
 refine wpAny_take (i:=6) (oi:=o6) (v:= .slice (some ⟨b,if cap=i+1 then off else off+(i+1)*e.sz,none⟩) (l.length-(i+1)) (cap-(i+1))) rfl p (f 6 (by decide)).1 (f 6 (by decide)).2 (hQ _ _) (qM g6 (λw=>
  aeA (n:=l.length) (cap:=cap) (i:=i+1) hu c1 p6 (by rw[f6,a_ j2,f5,a_ h2,f4,an rfl]) (by rw[f6,an rfl]) (by omega))) ?_
 rw[t6];generalize E0:a6.put (some d.d6) (.slice (some ⟨b,if cap=i+1 then off else off+(i+1)*e.sz,none⟩) (l.length-(i+1)) (cap-(i+1)))=a7;have s7:a7.tmps.size=a.tmps.size:=by rw[<-E0,oU,s6]
 have f7:∀s,a7.tmps.getD s undef=if s=d.d6 then .slice (some ⟨b,if cap=i+1 then off else off+(i+1)*e.sz,none⟩) (l.length-(i+1)) (cap-(i+1))else a6.tmps.getD s undef:=λs=>by rw[<-E0];exact vv (by rw[s6];exact z8)
 refine wpAny_all L2 (by simp) (λj hj=> ?_);obtain rfl:j=7:=by simpa using hj
 have hm2:(i+1)*e.sz<=l.length*e.sz:=aq5 _ hi;have hm1:i*e.sz+e.sz=(i+1)*e.sz:=by rw[N',arA]
 have hm3:l.length*e.sz<=cap*e.sz:=aq5 _ W;have hm4:(l.length-(i+1))*e.sz=l.length*e.sz-(i+1)*e.sz:=Nat.sub_mul ..
 have y1:(execOp a7.eval o7).run P w1= .ok (.value (.slice (some ⟨b,off,none⟩) (l.length-1) cap)) (w1.setCells b (off+i*e.sz) (((c.toList.drop off).take (l.length*e.sz)).drop ((i+1)*e.sz))):=by
  obtain⟨inf,dd,l2,z,hz,hby,_⟩:=c1;have q:w1.heap[b]?=some (.cells c G2 (0,0)):=by rw[<-x1];exact j1
  have u2:∀k u,(((c.toList.drop off).take (l.length*e.sz)).drop ((i+1)*e.sz))[k]?=some u->c[off+(i+1)*e.sz+k]?=some u:=by
   intro k u B;rw[arH,aro]at B;split at B;rw[arH]at B;rw[<-arP];rw[<-B];congr 1;omega;cases B
  have G0:(((c.toList.drop off).take (l.length*e.sz)).drop ((i+1)*e.sz)).length=(l.length-(i+1))*e.sz:=by
   simp;omega
  have hr:=run_append_room_cells (P:=P) w1 d.t o7.type el inf hu l2 b off i cap ⟨b,if cap=i+1 then off else off+(i+1)*e.sz,none⟩ (l.length-(i+1)) (cap-(i+1))
   (((c.toList.drop off).take (l.length*e.sz)).drop ((i+1)*e.sz)) (by rw[z];exact G0) (λk u B=>by
     have w2:k<(((c.toList.drop off).take (l.length*e.sz)).drop ((i+1)*e.sz)).length:=(aq8.1 B).1
     have y2:cap≠i+1:=by
      intro hc;have:l.length-(i+1)=0:=by omega
      rw[G0,this]at w2;omega
     rw[a_ y2,Addr.add_lit,qK q];exact u2 k u B) (λu hu=>H2 u (List.mem_of_mem_drop hu)) (by omega)
   (λk B=>by rw[qK q,z];rw[G0]at B;have:off+i*e.sz+k<c.size:=by omega
             simp[this]) (λk B=>yA q _)
  rw[z]at hr
  have e1:a7.eval (.tmp d.d2)= .slice (some ⟨b,off,none⟩) i cap:=by
   show a7.tmps.getD d.d2 undef=_;rw[f7,a_ c2,f6,a_ b2,f5,a_ X1,f4,a_ W1,f3,an rfl]
  have e2:a7.eval (.tmp d.d6)= .slice (some ⟨b,if cap=i+1 then off else off+(i+1)*e.sz,none⟩) (l.length-(i+1)) (cap-(i+1)):=by
   show a7.tmps.getD d.d6 undef=_;rw[f7,an rfl]
  have A2:i+(l.length-(i+1))=l.length-1:=by omega
  rw[A2]at hr;simp only[execOp,p7];simp[resolve,pc,invoke,builtin,pa,pt,e1,e2,hr]
 refine ku (ops:=[o0,o1,o2,o3,o4,o5,o6,o7,o8]) (i:=7) rfl (by simp[Region.wanted,g7]) ?_;unfold Oper.wp;rw[y1];rw[Oper.upon_value,t7];generalize L0:a7.put (some d.d7) (.slice (some ⟨b,off,none⟩) (l.length-1) cap)=a8;have s8:a8.tmps.size=a.tmps.size:=by rw[<-L0,oU,s7]
 have f8:∀s,a8.tmps.getD s undef=if s=d.d7 then .slice (some ⟨b,off,none⟩) (l.length-1) cap else a7.tmps.getD s undef:=λs=>by rw[<-L0];exact vv (by rw[s7];exact z9)
 refine wpAny_all T2 (by simp) (λj hj=> ?_);obtain rfl:j=8:=by simpa using hj
 refine ku (ops:=[o0,o1,o2,o3,o4,o5,o6,o7,o8]) (i:=8) rfl (by simp[Region.wanted,g8]) ?_;unfold Oper.wp;rw[aid p8,f8,an rfl,Oper.upon_value,t8];refine⟨X2,rfl,?_⟩
 have B2:w1.setCells b (off+i*e.sz) (((c.toList.drop off).take (l.length*e.sz)).drop ((i+1)*e.sz))={w.setCells b (off+i*e.sz) (((c.toList.drop off).take (l.length*e.sz)).drop ((i+1)*e.sz))with drawn:=w.drawn+1}:=by
  rw[<-x1];exact CN ..
 rw[B2];have C2:=J2.drawn (w.drawn+1)
 have R0:cL {w.setCells b (off+i*e.sz) (((c.toList.drop off).take (l.length*e.sz)).drop ((i+1)*e.sz))with drawn:=w.drawn+1} G' e (l.take i++l.drop (i+1)) (.slice (some ⟨b,off,none⟩) (l.length-1) cap) (.row tk [tk] true):=
  cL.agree (w:=w.setCells b (off+i*e.sz) (((c.toList.drop off).take (l.length*e.sz)).drop ((i+1)*e.sz))) (G:=G') ⟨λ_ _=>rfl,λ_ _=>rfl,λ_ _=>rfl⟩ l1
 have k0:=C2.xA (some d.d0) (.slice (some ⟨b,off,none⟩) l.length cap);rw[b0]at k0;have k1:=k0.xA (some d.d1) (.int .i64 i);rw[e0]at k1;have k2:=k1.xA (some d.d2) (.slice (some ⟨b,off,none⟩) i cap);rw[h0]at k2;have k3:=k2.xA (some d.d3) (.slice (some ⟨b,off,none⟩) l.length cap);rw[r0]at k3;have k4:=k3.xA (some d.d4) (.int .i64 i);rw[s0]at k4;have k5:=k4.xA (some d.d5) (.int .i64 ((i+1:Nat):Int));rw[u0]at k5;have k6:=k5.xA (some d.d6) (.slice (some ⟨b,if cap=i+1 then off else off+(i+1)*e.sz,none⟩) (l.length-(i+1)) (cap-(i+1)));rw[E0]at k6;have k7:=k6.xA (some d.d7) (.slice (some ⟨b,off,none⟩) (l.length-1) cap);rw[L0]at k7
 have b1:∀c'∈(SV.d ⟨.sl e,l.take i++l.drop (i+1),.sl (.row tk [tk] true)⟩).sc,0<c'/\(c'<N\/c'=tk)/\G'.bx c'=false:=by
  intro c' n1;simp only[SV.sc,Sh.aJ,M.aJ,n_,arz,or_false,or_self]at n1;subst n1;exact⟨by omega,.inr rfl,B1⟩
 have k8:=k7.put (some d.s) (sv:= .d ⟨.sl e,l.take i++l.drop (i+1),.sl (.row tk [tk] true)⟩) (v:= .slice (some ⟨b,off,none⟩) (l.length-1) cap) ⟨[_],rfl,_,rfl,R0⟩ b1 (by simp[SV.bt]) (by simp[SV.rt]) (by rintro _ _ ⟨⟩);refine hK _ _ _ k8 (λx hx=> ?_);simp only[qB.outs,n_,arz,or_false,not_or]at hx;obtain⟨x0,x2,x3,x4,x5,x6,x7,x8,x9⟩:=hx;rw[vv (by rw[s8];exact z0),a_ x0,f8,a_ x9,f7,a_ x8,f6,a_ x7,f5,a_ x6,f4,a_ x5,f3,a_ x4,f2,a_ x3,f1,a_ x2]
def aho{ops:List Oper}{d:qB}(h:Bp ops=some d):∀x∈d.outs,∃o∈ops,o.dst=some x:=by
 have t:Bp ops.toArray.toList=some d:=by simpa using h
 obtain⟨f,j,k,l,m,n,p,q,s,u,q0,q1,q2,q3,q4,q5,v,y,z,_⟩:=O9 t
 have c:ops=[f,j,k,l,m,n,p,q,s]:=by
  have:=congrArg Array.toList u;simpa using this
 subst c;intro x e;simp only[qB.outs,n_,arz,or_false]at e;rcases e with rfl|rfl|rfl|rfl|rfl|rfl|rfl|rfl|rfl;exact⟨s,by simp,(O4 z).2.2⟩;exact⟨f,by simp,(om q0).2.2⟩;exact⟨j,by simp,(om q1).2.2⟩;exact⟨k,by simp,(UC q2).2.2⟩;exact⟨l,by simp,(om q3).2.2⟩;exact⟨m,by simp,(om q4).2.2⟩;exact⟨n,by simp,(N8 q5).2.2⟩;exact⟨p,by simp,(T9 v).2.2⟩;exact⟨q,by simp,(PX y).2.2⟩
def af4{io:List Nat}{ops:List Oper}(h:keeps io ops=true){o:Oper}(c:o∈ops){x:Nat}(d:o.dst=some x):x∉io:=by
 unfold keeps at h;rw[kb]at h;have:=h o c;rw[d]at this;simpa using this
def ag6{d:qB}{ts:List Nat}{tk:Nat}{e:Ty}{l:List e.den}{i:Nat}:(Mh E d ts tk e l i).s.length=E.s.length:=by
 simp only[Mh,Env.set,List.length_set];unfold Env.kill;split;rfl;simp
def aaz{E:Env}{d:Nat}{sv:SV}(h:zQ E.s)(hs:∀j w act v,sv≠ .g j w act v):zQ (E.set (some d) sv).s:=by
 intro s j w act v;simp only[Env.set,fA];split;exact hs j w act v;exact h s j w act v
def af2{d:qB}{ts:List Nat}{tk:Nat}{e:Ty}{l:List e.den}{i:Nat}(h:zQ E.s):zQ (Mh E d ts tk e l i).s:=by
 have f:zQ (E.kill ts).s:=by
  intro s j w act v c;obtain⟨k,m⟩:=W6 c;exact h s j w act k m
 unfold Mh;refine aaz ?_ (by rintro _ _ _ _ ⟨⟩)
 iterate 8 refine aaz ?_ (by rintro _ _ _ _ ⟨⟩)
 exact f
section
variable{ρ:Type}
def QP(C:Cx)(d:qB)(n:Nat)(E:Env)(c:Env->Option ρ):Option ρ:=
 match C.tt d.t,E.s.getD d.s .no,E.get d.j with
 |some ⟨.sl e,_,_⟩,.d ⟨.sl e',l',.sl m⟩,.d ⟨.int .i64,i,_⟩=>(match jE ⟨.sl e',l',.leaf⟩ (.sl e),m.own with
  |some l,some ts=>if decide (0<=i/\i<(((l:List e.den).length:Nat):Int)/\(l:List e.den).length<4294967296)=true then
   (match d.tmps.all (λx=>decide (x<E.s.length))with
   |true=>c {Mh E d ts E.nt e l i.toNat with nt:=E.nt+32*n}
   |false=>none)
   else none
  |_,_=>none)
 |_,_,_=>none
end
def abl{ρ:Type}(hC:CxTy P C)(hm:P.follows .mixedOrders=true)(hI:Inv w0 c0 (λu=>u<E.nt) E a w G)(hg:zQ E.s)(h3:4<=E.nt){ops:Array Oper}{d:qB}(R:Bp ops.toList=some d)(hn:0<ops.size)
 {io:List Nat} (B:keeps io ops.toList=true) {S:Env->Option ρ} {r:ρ} (h:QP C d ops.size E S=some r) {id:Nat}
 (hK:∀E' f w' G',Inv w0 c0 (λu=>u<E'.nt) E' f w' G'->zQ E'.s->E'.s.length=E.s.length->4<=E'.nt->(∀i∈io,f.tmps.getD i undef=a.tmps.getD i undef)->S E'=some r->Q .normal f w'):
 (Code.region id ops true).wp P Q a w:=by
 unfold QP at h;split at h;rename_i e fs el e' l' m i sh W X t;split at h;rename_i l Y c ho;have n:=fG c;simp only[TV.mk.injEq]at n;obtain⟨he,hl,_⟩:=n;cases he;cases hl;split at h;rename_i hc;obtain⟨p,q,K⟩:=e_ hc;have I: @LE.le Int Int.instLEInt 0 i:=p;have hc1: @LT.lt Int Int.instLTInt i ((l9 l:Nat):Int):=q;split at h;rename_i k;rw[kb]at k;have J:((i.toNat:Nat):Int)=i:=Int.toNat_of_nonneg I;refine ab6 hC hm hI R W X (i:=i.toNat) (sh:=sh) (by rw[J];exact t) ho (by omega) K (λx v=>e_ (k x v)) h3 (N_ _) (λf w' G' g1 g2=> ?_);refine hK {Mh E d Y E.nt _ l i.toNat with nt:=E.nt+32*ops.size} f w' G' ?_ (af2 hg) ag6 (by show 4<=E.nt+32*ops.size;omega) (λj t=>g2 j (λy=> ?_)) h;have:=g1.mono (U':=λu=>u<E.nt+32*ops.size) (λu z=>by rcases z with z|z<;>omega);exact {this with};obtain⟨o,N,v⟩:=aho R j y;exact af4 B N v t;cases h;cases h;cases h;cases h
end
abbrev WN:=FuncId->Option af0
def ai5(M:WN)(o:Oper):Option (FuncId×af0×Nat×Nat):=
 match o.guard,o.op with
 |none,.call c=>(match c.callee,c.args.toList with
  | .value (.func f),[.tmp s,.tmp j]=>(match M f with|some m=>some (f,m,s,j)|none=>none)
  |_,_=>none)
 |_,_=>none
def aoe(M:WN)(c d e:Oper):Option (FuncId×af0×TypeId×Nat×Nat×Nat×Nat):=
 match c.guard,c.op,c.dst,d.guard,d.op,d.dst with
 |none,.load t (.tmp p),some d1,none,.move (.tmp q),some d2=>(match ai5 M e with
  |some (f,m,s,j)=>(match decide (s=d1/\j=d2/\d1≠d2/\q≠d1)with|true=>some (f,m,t,p,q,d1,d2)|false=>none)
  |none=>none)
 |_,_,_,_,_,_=>none
def untold(C:Cx)(o:Oper):Bool:=
 match o.guard,o.op with
 |none,.assign (.const _)=>(C.tt o.type).isNone
 |_,_=>false
def Env.Jc(E:Env)(gv:List Nat)(b:Nat)(e:Ty)(l:List e.den):Env:=
 {E with s:=E.s.map λs=>(((s.cj b).setRow b e l (.row b (b::gv) true)).aX gv b)}
section
variable{ρ:Type}
def Mm(o:Oper)(a:Option Bool)(E:Env)(k:Env->Option ρ)(c:Ef):Option ρ:=
 match c,a with
 | .call _ x tks f rp,some b=>if b=true then x.bind (λr=>k (Env.set {E.cK tks (rp r)with s:=cg (f r).2 (E.cK tks (rp r)).s} o.dst (eQ o.guard (some true) (f r).1)))else k (E.set o.dst (eQ o.guard (some false) (vB false)))
 | .elem (g::gv) b e l _,none=>(match o.dst,o.op with|none,.store _ _ _=>k (E.Jc (g::gv) b e l)|_,_=>none)
 |c,a=>oV o a E k c
end
section
variable{P:Program}{C:Cx}{M:WN}{w0:World}{c0:C0}{U:Nat->Prop}{E:Env}{a:Act}{w:World}{G:Gh}{ops:List Oper}{L:Nat->Prop}{Q:Exit->Act->World->Prop}{ρ:Type}
theorem Inv.ak1(c:Inv w0 c0 U E a w G)(d:Option Nat)(v:Value):Inv w0 c0 U (E.set d .no) (a.put d v) w G:=
 c.put d (sv:= .no) trivial (by simp[SV.sc]) (by simp[SV.bt]) (by simp[SV.rt]) (by rintro _ _ ⟨⟩)
end
section
variable{P:Program}{C:Cx}{M:WN}{g:Option (Nat×Bool)}{w0:World}{c0:C0}{U:Nat->Prop}{E:Env}{a:Act}{w:World}{G:Gh}{ops:List Oper}{L:Nat->Prop}{Q:Exit->Act->World->Prop}{ρ:Type}
theorem age(hC:CxTy P C)(hI:Inv w0 c0 U E a w G)(hR:RI ops E a.tmps)(hg:Gd ops a.tmps g){tk:Nat}{o:Oper}{t:TypeId}{x y:Operand}
 {gv:List Nat} {b:Nat} {e:Ty} {l':List e.den} {m:Vg.M} (ho:o.op= .store t x y) (G0:gv≠ []) (h0:oj C ops E.rd tk g o=some (.elem gv b e l' m)):
 ∃w' G',(execOp a.eval o).run P w= .ok .skip w'/\Inv w0 c0 U (E.Jc gv b e l') a w' G':=by
 have h:=afl h0;simp only[bK,ho]at h;split at h;split at h;split at h;obtain⟨r,_,h⟩:=arJ.mp h;cases h;cases h;cases h;rename_i ti f d i off p τ1 v1 x1 x0 hv;split at h;rename_i l hs nd E0;obtain⟨hc,h⟩:=Option.ite_none_right_eq_some.mp h;obtain⟨E1,h⟩:=Option.ite_none_left_eq_some.mp h;obtain⟨r,hr,h⟩:=arJ.mp h;simp only[Ef.elem.injEq]at h;obtain⟨o1,rfl,rfl,e0,hm⟩:=h;have e0:=eq_of_heq e0;subst e0;simp only[en,b_]at hc;obtain⟨⟨⟨G1,hc2⟩,J1⟩,k0⟩:=hc;obtain⟨h1,_⟩:=gP hI hR hg x0;obtain⟨u,of,n,cap,I,k2,k3,k4,k5⟩:=h1;obtain⟨⟨vh,p1⟩,j⟩:=hI.fB E0;obtain⟨⟨J,L1,o0⟩,T1,p0⟩:=kZ hI hR hg hv;have L0:vh=G.hdr f:=p1.2.1.symm;have R:=E1;simp only[Bool.not_eq_true]at R;obtain⟨q1,q2,q3,B,Bv,r0,s0,hB,W1,X1,r1⟩:=Xl (τ:=τ1) (gv:=gv) (m:=m) p1 j o0 T1 p0 J1 _ rfl o1.symm hm.symm R;rw[L0,k2]at hB;rcases hB with⟨⟨ao,hB⟩,_⟩|⟨bk',of',cap',c,el,fz,Bs,Y,b0,q,hsz,rfl,hl⟩;cases hB;exfalso;have k4':i<((0:Nat):Int):=k4;have k3': @LE.le Int Int.instLEInt 0 i:=k3;omega;simp only[Value.slice.injEq,hJ,Addr.mk.injEq,and_true]at Y;obtain⟨⟨rfl,rfl⟩,rfl,rfl⟩:=Y;obtain⟨j1,j2,j3,j4⟩:=r1 u Bs rfl;obtain⟨c',u1,u0⟩:=hI.fresh u (by rw[j1];exact I);rw[u0]at q;simp only[hJ,Obj.cells.injEq]at q;obtain⟨rfl,rfl,rfl⟩:=q;have hi:i.toNat<l.length:=toNat_lt k3 k4
 have R0:l[i.toNat]?=some (l.getD i.toNat d.aa):=by
  rw[D_,H_ hi];rfl
 obtain⟨B1,Bx,B2,rfl,b2,c2,e2⟩:=aZ.get (sz:=d.sz) (λx c B h=>aW.len h) hl R0;obtain⟨Ba,Bo,Bb,rfl,w1,hle⟩:=aW.put hr b2 W1;have a1:=aZ.set (sz:=d.sz) hi w1 c2 e2;have c1:J.length=v1.τ.sz:=bJ.len o0;have hmul:(i.toNat+1)*d.sz<=l.length*d.sz:=aq5 _ hi;have hmul2:l.length*d.sz<=cap*d.sz:=aq5 _ b0;rw[N',arA]at hmul;have hO:of+i.toNat*d.sz+off+J.length<=c'.size:=by rw[<-G1];omega
 have z:=iN u (el:=u1) J (of+i.toNat*d.sz+off) w c' u0 hO;have hT:=(hC.tt t ti x1).1;have k1:=xf (P:=P) (t:=t) (τ:=ti.τ) hT u0 (o:=of+i.toNat*d.sz+off) (cs:=J) (by rw[<-k0,<-c1];exact hO) (by rw[c1,k0]) (bJ.one o0) k5;have hU:U f:=(j f (by simp)).2.1;have l1:G.bx f=false:=(j f (by simp)).2.2;have z1:=hI.map (EC (w:=w) f) hI.colU (λb=>⟨λh=>h,λ_=>rfl,λ_=>rfl⟩);have S:G.col u=f:=j1
 have K:∀k,G.col k≠f->(w.setCells u (of+i.toNat*d.sz+off) J).heap[k]?=w.heap[k]?:=λk hk=>
  cr u _ _ w k (λe=>hk (e▸S))
 have W:=j4 (B1++(Ba++Bv++Bb)++B2) ⟨B1++Ba,Bo,Bb++B2,by simp[ars],by simp[ars]⟩
 have X:u∉B1++(Ba++Bv++Bb)++B2:=by
  simp only[k_,not_or]at j2|-;exact⟨⟨j2.1.1,⟨j2.1.2.1.1,j3⟩,j2.1.2.2⟩,j2.2⟩
 have A1:r0=[f]/\s0=true:=by
  have key:∀(own:Option (List Nat)) (mm:Vg.M),own.getD []=gv->(if own.isSome=true then(Vg.M.row f [f] true)else mm)= .row f r0 s0->r0=[f]/\s0=true:=by
   intro own mm h1 h2;cases own with
   |none=>exact absurd h1.symm G0
   |some ts=>
    simp only[Option.isSome_some,if_true,Vg.M.row.injEq,true_and]at h2;exact⟨h2.1.symm,h2.2.symm⟩
  exact key _ _ o1 (hm.trans X1)
 obtain⟨rfl,rfl⟩:=A1
 have n1:cL (w.setCells u (of+i.toNat*d.sz+off) J) G d (l.set i.toNat r.1) (G.hdr f) (.row f (f::gv) true):=by
  refine⟨I,rfl,u::(B1++(Ba++Bv++Bb)++B2),?_,?_⟩;refine .inr ⟨u,of,cap,_,u1,(0,0),B1++(Ba++Bv++Bb)++B2,by simp[k2],by simpa using b0,z,by simp;omega,rfl,?_⟩
  have N:((dL (of+i.toNat*d.sz+off) J c'.toList).drop of).take ((l.set i.toNat r.1).length*d.sz)=
   ((c'.toList.drop of).take (l.length*d.sz)).take (i.toNat*d.sz)++dL (d.off p) J ((((c'.toList.drop of).take (l.length*d.sz)).drop (i.toNat*d.sz)).take d.sz)++((c'.toList.drop of).take (l.length*d.sz)).drop ((i.toNat+1)*d.sz):=by
   rw[BO (by omega) (by simp;omega),B6 (by simp;omega) (by simp;omega)];rw[show of+i.toNat*d.sz+off-of=i.toNat*d.sz+d.off p by omega];rw[xa (sz:=d.sz) hle];rw[N',arA];simp
  show aZ _ _ (((dL (of+i.toNat*d.sz+off) J c'.toList).toArray.toList.drop of).take _) _;rw[List.toList_toArray,N];exact aZ.world (λk hk=>cr u _ _ w k (λe=>X (e▸hk))) a1;rintro h' Bs'' ⟨⟩;refine⟨S,X,λx hx=> ?_,W.2⟩;have:=W.1 x hx;split at this;rename_i y1;exact aq4 _ y1;simp only[arn]at this;rw[this];simp
 have C1:=z1.setRow n1 l1 I K (λs=> ?_) (λc hc=> ?_) (λk hk=> ?_) (by rw[fH]) (cP _ _ _ w).1 (cP _ _ _ w).2.1 (cP _ _ _ w).2.2;have D1:=C1.acB (ts:=gv) (t:=f) (v:=G.hdr f) I q1 hU rfl l1;refine⟨w.setCells u (of+i.toNat*d.sz+off) J,G.aX gv f (G.hdr f),?_,?_⟩;simp only[execOp,ho,L1,k0];simp[k1];simpa only[Env.Jc,arR,Function.comp_def,SV.cj,SV.aX]using D1;have:=getD_map (L:=E.s) (T:=SV.cj f) rfl s;show SV.clear f ((List.map (SV.cj f) E.s).getD s .no);rw[this];exact SV.fl f _;simp only[M.aJ,n_]at hc;rcases hc with rfl|rfl|hc;exact j _ (by simp);exact j _ (by simp);exact(q1 c hc).2;by_cases e:k=u;subst e;exact⟨_,_,z⟩;rw[cr u _ _ w k e];exact hI.fresh k (by rw[hk];exact I);cases h;cases h
def aga(hC:wH P C){i:Nat}{o:Oper}(ho:ops[i]?=some o)(hI:Inv w0 c0 U E a w G)(hR:qA ops L E a.tmps)(hL:∀j w',o.guard=some (j,w')->L j)(S:¬L i)(W:lC ops=true)
 {tk:Nat} (h3:4<=tk) (hU:∀u,tk<=u->u<tk+32->¬U u) {act:Option Bool} {ef:Ef} (I:guardOf ops E.rd o.guard=some act) (N:oj C ops E.rd tk o.guard o=some ef)
 {k:Env->Option ρ} {r:ρ} (n:Mm o act E k ef=some r) {K:Act->World->Prop}
 (hK:∀E' a' w' G',k E'=some r->E'.s.length=E.s.length->Inv w0 c0 (λu=>U u\/(tk<=u/\u<tk+32)) E' a' w' G'->qA ops (λj=>L j\/j=i) E' a'.tmps->(∃v,a'=a.put o.dst v)->K a' w'):wpOp P ops.toArray Q i K a w:=by
 have e0:=hI.mono (U':=λu=>U u\/(tk<=u/\u<tk+32)) (λu hu=> .inl hu)
 have h0:oV o act E k ef=some r->wpOp P ops.toArray Q i K a w:=by
  intro n;rw[aae,YU,aq3]at n;obtain⟨E',d,hk⟩:=n
  have hlen:E'.s.length=E.s.length:=by
   cases ef with
   |val v=>simp only[bH,hJ]at d;subst d;exact pG ..
   |chk c v=>
    simp only[bH]at d;split at d;split at d;simp only[hJ]at d;subst d;exact pG ..;cases d;split at d;simp only[hJ]at d;subst d;exact pG ..;cases d
   |opt α z x f=>
    simp only[bH,aq3,hJ]at d;obtain⟨y,_,d⟩:=d;subst d;exact pG ..
   |put b s v=>
    simp only[bH]at d;split at d;simp only[hJ]at d;subst d;simp;cases d
   |app c kl gv t v=>
    simp only[bH]at d;split at d;split at d;simp only[hJ]at d;subst d;rw[pG,agd,af5];cases d;cases d
   |elem gv b e l m=>
    simp only[bH]at d;split at d;simp only[hJ]at d;subst d;simp[Env.elem];cases d
   |nap c gv b e l m v=>
    simp only[bH]at d;split at d;split at d;simp only[hJ]at d;subst d;rw[pG];simp[Env.elem];cases d;cases d
   |call α x R f rp=>
    simp only[bH]at d;split at d;simp only[aq3,hJ]at d;obtain⟨y,_,d⟩:=d;subst d;rw[pG,qQ,Aj];cases d
  exact aaO hC ho hI hR hL S W h3 hU I N d (λa' w' G' g1 g2 g3=>hK E' a' w' G' hk hlen g1 g2 g3)
 unfold Mm at n;split at n
 rename_i α x R f rp b;cases q:o.guard with
 |none=>rw[q]at I;simp[guardOf]at I
 |some p=>
  obtain⟨j,w'⟩:=p;rw[q]at I N;obtain⟨b',X,hb⟩:=ES hI I;cases X;have hj:=hL j w' q;cases b with
  |true=>
   simp only[if_true,aq3]at n;obtain⟨y,hy,hk⟩:=n;have J:=hb.1 rfl;have B:Region.wanted o (yielded ops.toArray a.tmps)=true:=by simp[Region.wanted,q,J]
   have hS:=QS hC hI hR.ri (g:=some (j,w')) (by rintro j1 w1 ⟨⟩;exact J) h3 hU N;refine ku ho B ?_;refine vP (hS y hy) (λmv w1 ⟨G',g1,g2,g3,g4⟩=> ?_);obtain⟨k1,Y,k3⟩:=aa0 (j:=j) (w':=w') g2 g3;rw[q]at hk;refine hK _ _ _ G' hk (by rw[pG,qQ,Aj]) ?_ ?_ ⟨_,rfl⟩;exact g1.put o.dst k1 Y.1 Y.2.1 Y.2.2 (λt u e=>absurd e (k3 t u));refine qA.put (E:={E.cK R (rp y)with s:=cg (f y).2 (E.cK R (rp y)).s}) (hR.map (λs j w' act u h=>aaY (NC h))) ho W S hL (λj1 w1 act v e=> ?_);unfold eQ at e;simp only at e;split at e;cases e;simp only[SV.g.injEq]at e;obtain⟨rfl,rfl,rfl,_⟩:=e;exact⟨⟨λ_=>J,λ_=>rfl⟩,q⟩
  |false=>
   simp only[arb,if_false]at n;have J:yielded ops.toArray a.tmps j≠some w':=λh=>by have:=hb.2 h;cases this
   have B:Region.wanted o (yielded ops.toArray a.tmps)=false:=by
    simp only[Region.wanted,q];simpa using J
   obtain⟨k1,Y,k3⟩:=aaG (w:=w) (G:=G) (U:=λu=>U u\/(tk<=u/\u<tk+32)) (v:=vB false) (j:=j) (w':=w');rw[q]at n;unfold wpOp;simp only[arN,ho,B,arb,if_false];refine hK _ _ _ G n (pG ..) ?_ ?_ ⟨_,rfl⟩;exact e0.put o.dst k1 Y.1 Y.2.1 Y.2.2 (λt u e=>absurd e (k3 t u));refine hR.put ho W S hL (λj1 w1 act v e=> ?_);unfold eQ at e;simp only at e;split at e;cases e;simp only[SV.g.injEq]at e;obtain⟨rfl,rfl,rfl,_⟩:=e;exact⟨⟨λh=>absurd h (by simp),λh=>absurd h J⟩,q⟩
 rename_i g0 gv b e l m;split at n;rename_i t x y hd b0;cases q:o.guard with
 |some p=>
  rw[q]at I;obtain⟨b',X,_⟩:=ES hI I;cases X
 |none=>
  rw[q]at N;have B:Region.wanted o (yielded ops.toArray a.tmps)=true:=by simp[Region.wanted,q]
  refine ku ho B ?_;obtain⟨w1,G',h1,h2⟩:=age hC.toCxTy hI hR.ri (g:=none) (by rintro j w' ⟨⟩) b0 (by simp) N;unfold Oper.wp;rw[h1];refine hK _ _ _ G' n (by simp[Env.Jc]) ?_ ?_ ⟨undef,rfl⟩;rw[hd];exact h2.mono λu hu=> .inl hu;rw[hd]
  have:=hR.map (E':=E.Jc (g0::gv) b e l) (λs j w' act u h=>by
   have hh:=getD_map (L:=E.s) (T:=λs=>((s.cj b).setRow b e l (.row b (b::(g0::gv)) true)).aX (g0::gv) b) rfl s;simp only[Env.Jc]at h;rw[hh]at h;obtain⟨v1,h1⟩:=DX h;obtain⟨v2,h2⟩:=Ye h1;exact DX h2)
  intro s j w' act v d;obtain⟨q1,q2,q3⟩:=this s j w' act v d;exact⟨q1,.inl q2,q3⟩
 cases n;exact h0 n
end
def aa8:Value->Value->Bool
 | .int k n,.int k' n'=>k==k'&&n==n'
 | .bool b,.bool b'=>b==b'
 | .string a,.string b=>a.size==0&&b.size==0
 | .slice none l c,.slice none l' c'=>l==l'&&c==c'
 |_,_=>false
def qz:List Value->List Value->Bool
 | [],[]=>true
 |a::l,b::m=>aa8 a b&&qz l m
 |_,_=>false
def abU:Ty->Value->Bool
 | .pair a b,.agg cs=>qz cs.toList (Ty.pair a b).zero
 | .pair _ _,_=>false
 |τ,v=>qz [v] τ.zero
def ahE{a:ByteArray}(h:a.size=0):a=ByteArray.empty:=by
 cases a with
 |mk d=>
  have:d.size=0:=h;have:d= #[]:=arV this;rw[this];rfl
def afI{a b:Value}(h:aa8 a b=true):a=b:=by
 unfold aa8 at h;split at h;simp only[en,beq_iff_eq]at h;rw[h.1,h.2];simp only[beq_iff_eq]at h;rw[h];simp only[en,beq_iff_eq]at h;rw[ahE h.1,ahE h.2];simp only[en,beq_iff_eq]at h;rw[h.1,h.2];cases h
theorem uF:∀ {l m:List Value},qz l m=true->l=m
 | [],[],_=>rfl
 |a::l,b::m,h=>by
  simp only[qz,en]at h;rw[afI h.1,uF h.2]
 | [],_::_,h|_::_,[],h=>by simp[qz]at h
def agX{τ:Ty}{v:Value}(h:abU τ v=true):v=eF τ τ.zero:=by
 cases τ with
 |pair a b=>
  cases v with
  |agg c=>
   have:=uF (show qz c.toList (Ty.pair a b).zero=true from h);simp only[eF,<-this,asl]
  |_=>simp[abU]at h
 |int k=>have:=uF (show qz [v] (Ty.int k).zero=true from h);simpa[eF,Ty.zero]using this
 |bool=>have:=uF (show qz [v] Ty.bool.zero=true from h);simpa[eF,Ty.zero]using this
 |str=>have:=uF (show qz [v] Ty.str.zero=true from h);simpa[eF,Ty.zero]using this
 |sl e=>have:=uF (show qz [v] (Ty.sl e).zero=true from h);simpa[eF,Ty.zero]using this
def akT:TypeDesc->Bool
 | .struct _| .array _ _=>true
 |_=>false
def xJ(P:Program)(t:TypeId)(τ:Ty):Bool:=
 match P.info? t,P.underlying t with
 |some inf,some d=>inf.size==τ.sz&&(match inf.zero with|some v=>abU τ v|none=>false)&&decide (inf.bytes<=32768)&&akT d==τ.cQ
 |_,_=>false
def xz{P:Program}{t:TypeId}{τ:Ty}(h:xJ P t τ=true):jk P t τ:=by
 unfold xJ at h;split at h;rename_i inf d e f;simp only[en,beq_iff_eq,b_]at h;obtain⟨⟨⟨k,c⟩,l⟩,h6⟩:=h;refine⟨inf,d,e,k,?_,l,f,?_⟩;split at c;rename_i v j;rw[j,agX c];cases c;rw[<-h6];cases d<;>rfl;cases h
def Yv(P:Program)(τ:Ty)(c:List TypeId)(j:Nat)(f:Field):Bool:=
 f.offset==τ.off (dZ c.length j)&&c[j]?==some f.type&&(match τ.sub (dZ c.length j)with|some σ=>xJ P f.type σ|none=>false)
def ae6{P:Program}{τ:Ty}{d:List TypeId}{j:Nat}{f:Field}(h:Yv P τ d j f=true):I8 P τ d j f:=by
 simp only[Yv,en,beq_iff_eq]at h;obtain⟨⟨k,l⟩,c⟩:=h;refine⟨k,l,?_⟩;split at c;rename_i σ e;exact⟨σ,e,xz c⟩;cases c
def Re(P:Program)(c:Ty->TypeId->Bool):Ty->List Field->Nat->Bool
 |τ,[f],off=>f.offset==off&&f.name != "_" &&xJ P f.type τ&&c τ f.type
 | .pair a b,f::g::l,off=>f.offset==off&&f.name != "_" &&xJ P f.type a&&c a f.type&&Re P c b (g::l) (off+a.sz)
 |_,_,_=>false
def eqN(P:Program):Nat->Ty->TypeId->Bool
 |0,_,_=>false
 |n+1,τ,t=>
  match P.underlying t with
  |some (.int k)=>τ== .int k
  |some .bool=>τ== .bool
  |some .string=>τ== .str
  |some (.struct fs)=>τ.cQ&& !P.stoodInHeld t&&Re P (eqN P n) τ fs.toList 0
  |_=>false
section
variable{P:Program}
def BA{w:World}{t:TypeId}{τ:Ty}(h:jk P t τ){cs:Array Value}{off:Nat}(f:off+τ.sz<=cs.size):
 (part t cs off).run P w= .ok (eF τ ((cs.toList.drop off).take τ.sz)) w:=by
 unfold part;rw[Sem.run_bind,xE h,Result.andThen_ok];cases d:τ.cQ with
 |true=>
  cases τ with
  |pair a b=>
   simp[eY h,eF,asn,List.extract];apply asm;simp[asn,List.extract]
  |_=>simp[Ty.cQ]at d
 |false=>
  have c:τ.sz=1:=by cases τ<;>first|rfl|simp[Ty.cQ]at d
  rw[c]at f;have e:cs[off]?=some cs[off]:=Array.getElem?_eq_getElem (by omega);simp only[arb,if_false,e,Sem.run_pure]
  have:(cs.toList.drop off).take τ.sz=[cs[off]]:=by
   rw[c,List.take_one,ar8];simp[e]
  rw[this];cases τ<;>first|rfl|simp[Ty.cQ]at d
def ae8(a b:ByteArray):(a==b)=(a.toList==b.toList):=by
 rw[arC];simp only[beq_iff_eq,ByteArray.toList_eq];constructor;intro h;have:(a.data==b.data)=true:=h;simp only[beq_iff_eq]at this;rw[this];intro h
 have c:a.data=b.data:=by
  have:=congrArg List.toArray h;simpa using this
 show(a.data==b.data)=true;simp[c]
theorem TX{w:World}{j:Ty->TypeId->Bool}{d:Nat}
 (c:∀ {τ:Ty} {t:TypeId} {a b:τ.den} {c1 p:List Value},j τ t=true->aW w τ a c1 []->aW w τ b p []->(Op.equalIn d t (eF τ c1) (eF τ p)).run P w= .ok (eqv τ a b) w) {xs ys:Array Value}:
 ∀ {y:List Field} {τ:Ty} {off:Nat} {a b:τ.den},Re P j τ y off=true->aW w τ a (xs.toList.drop off) []->aW w τ b (ys.toList.drop off) []->
 ∃r,(Sem.run P (forIn y ((none,()):Option Bool×Unit) λf __s=>if f.name= "_" then pure (ForInStep.yield (none,()))else do
  let __do_lift<-part f.type xs f.offset
  let __do_lift_1<-part f.type ys f.offset
  let __do_lift<-Op.equalIn d f.type __do_lift __do_lift_1
  if __do_lift=false then pure (ForInStep.done (some false,()))else pure (ForInStep.yield (none,()))) w)= .ok r w/\r=(if eqv τ a b=true then none else some false,())
 | [],τ,_,_,_,h,_,_=>by cases τ<;>simp[Re]at h
 | [f],τ,off,a,b,h,ha,hb=>by
   have h:(f.offset==off&&f.name != "_" &&xJ P f.type τ&&j τ f.type)=true:=by cases τ<;>exact h
   simp only[en,beq_iff_eq,bne_iff_ne,ne_eq]at h;obtain⟨⟨⟨q,s⟩,u⟩,v⟩:=h;have k:=xz u;have m:=ha.len;have n:=hb.len;simp only[ar6,arB]at m n;have hpos:=τ.qO;have I:(xs.toList.drop off).take τ.sz=xs.toList.drop off:=arp (by simp;omega);have J:(ys.toList.drop off).take τ.sz=ys.toList.drop off:=arp (by simp;omega);simp only[asD,s,if_false,q,Sem.run_bind,BA k (show off+τ.sz<=xs.size by omega),BA k (show off+τ.sz<=ys.size by omega),Result.andThen_ok,I,J,c v ha hb];cases eqv τ a b<;>simp
 |f::g::l,τ,off,a,b,h,ha,hb=>by
  cases τ with
  |pair e τ2=>
   simp only[Re,en,beq_iff_eq,bne_iff_ne,ne_eq]at h;obtain⟨⟨⟨⟨q,s⟩,u⟩,v⟩,Y⟩:=h;have k:=xz u;obtain⟨c1,p,B1,B2,q1,q2,z,r2⟩:=ha;obtain⟨d1,d2,D1,D2,x,p2,B,s2⟩:=hb;obtain⟨rfl,rfl⟩:=asb.1 q2.symm;obtain⟨rfl,rfl⟩:=asb.1 p2.symm;have m:=z.len;have n:=B.len;have K:(xs.toList.drop off).take e.sz=c1:=by rw[q1,<-m,asg]
   have N:(ys.toList.drop off).take e.sz=d1:=by rw[x,<-n,asg]
   have R:xs.toList.drop (off+e.sz)=p:=by rw[<-art,q1,<-m,asH]
   have S:ys.toList.drop (off+e.sz)=d2:=by rw[<-art,x,<-n,asH]
   have W:off+e.sz<=xs.size:=by
    have:=congrArg l9 q1;simp only[ar6,arB,arc,m]at this;have:=e.qO;omega
   have X:off+e.sz<=ys.size:=by
    have:=congrArg l9 x;simp only[ar6,arB,arc,n]at this;have:=e.qO;omega
   obtain⟨r,k1,k2⟩:=TX c (xs:=xs) (ys:=ys) Y (by rw[R];exact r2) (by rw[S];exact s2);rw[asD];simp only[s,if_false,q,Sem.run_bind,BA k W,BA k X,Result.andThen_ok,K,N,c v z B,eqv];rcases Bool.eq_false_or_eq_true (eqv e a.1 b.1)with he|he;simp only[he,Bool.true_eq_false,if_false,Sem.run_pure,Result.andThen_ok,aso];exact⟨r,k1,k2⟩;simp[he]
  |_=>simp[Re]at h
def akZ{w:World}:∀(n d:Nat) {τ:Ty} {t:TypeId} {a b:τ.den} {c1 l:List Value},n<=d->eqN P n τ t=true->aW w τ a c1 []->aW w τ b l []->(Op.equalIn d t (eF τ c1) (eF τ l)).run P w= .ok (eqv τ a b) w:=by
 intro n
 induction n with
 |zero=>intro d τ t a b c1 l _ h;simp[eqN]at h
 |succ n v=>
  intro d τ t a b c1 l hd h f j;obtain⟨d,rfl⟩:∃e,d=e+1:=⟨d-1,by omega⟩
  simp only[eqN]at h;split at h;rename_i k c;simp only[beq_iff_eq]at h;subst h;obtain⟨rfl,_⟩:=f;obtain⟨rfl,_⟩:=j;simp[Op.equalIn,run_underlying c,eF,eqv];rename_i c;simp only[beq_iff_eq]at h;subst h;obtain⟨rfl,_⟩:=f;obtain⟨rfl,_⟩:=j;simp[Op.equalIn,run_underlying c,eF,eqv];rename_i c;simp only[beq_iff_eq]at h;subst h;obtain⟨rfl,_⟩:=f;obtain⟨rfl,_⟩:=j;simp[Op.equalIn,run_underlying c,eF,eqv,ae8];rename_i fs c;simp only[en,aq6]at h;obtain⟨⟨m,p⟩,q⟩:=h;cases τ with
  |pair x y=>
   simp only[eF];obtain⟨r,s,u⟩:=TX (P:=P) (w:=w) (d:=d) (xs:=c1.toArray) (ys:=l.toArray) (λh f j=>v d (by omega) h f j) q (by simpa using f) (by simpa using j);simp[Op.equalIn,run_underlying c,p];rw[<-Array.forIn_toList,s,u,Result.andThen_ok];cases eqv (x.pair y) a b<;>simp
  |_=>simp[Ty.cQ]at m
  cases h
def ahO{t:TypeId}{τ:Ty}{n:Nat}(k:n<=10000)(l:τ.cQ=true)(h:eqN P n τ t=true)(e:P.eqGuardType P.depth t=false):ag0 P t τ:=by
 intro w op x y a b c1 c2 c f j;have d:=akZ n Op.maxDepth k h f j;cases τ with
 |pair τ1 τ2=>
  simp only[eF]at d|-;rcases c with rfl|rfl;simp[eqGuard,e,binOp,Op.equal,d];simp[eqGuard,e,binOp,Op.equal,d]
 |_=>simp[Ty.cQ]at l
def T4(P:Program)(t:TypeId)(i:TI):Bool:=
 xJ P t i.τ&&(match i.τ,P.underlying t with
  | .int k,some (.int k')=>k==k'
  | .bool,some .bool=>true
  | .str,some .string=>true
  | .sl e,some (.slice el)=>el==i.el&&xJ P el e&&(if e== .int .u8 then(match P.underlying el with|some (.int .u8)=>true|_=>false)else true)
  | .pair a b,some (.struct fields)=>fields.size==i.fs.length&&fields.toList.zipIdx.all (λp=>Yv P (.pair a b) i.fs p.2 p.1)&&
   (if(Ty.pair a b).flat then eqN P 20 (.pair a b) t&& !P.eqGuardType P.depth t else true)
  |_,_=>false)&&(i.τ.cQ||i.fs.isEmpty)
def P1{t:TypeId}{i:TI}(h:T4 P t i=true):
 Rp P t i/\(i.τ.cQ=true->i.τ.flat=true->ag0 P t i.τ)/\(i.τ.cQ=false->i.fs=[])/\(i.τ= .sl (.int .u8)->P.underlying i.el=some (.int .u8)):=by
 obtain⟨τ,fs,el⟩:=i;simp only[T4,en,T_]at h;obtain⟨⟨x,c⟩,p⟩:=h;have n:=xz x;cases τ with
 |int k=>
  cases l:P.underlying t with
  |none=>rw[l]at c;simp at c
  |some d=>
   rw[l]at c;cases d<;>simp at c;subst c;exact⟨⟨n,l⟩,by simp[Ty.cQ],by simpa[Ty.cQ]using p,by simp⟩
 |bool=>
  cases l:P.underlying t with
  |none=>rw[l]at c;simp at c
  |some d=>
   rw[l]at c;cases d<;>simp at c;exact⟨⟨n,l⟩,by simp[Ty.cQ],by simpa[Ty.cQ]using p,by simp⟩
 |str=>
  cases l:P.underlying t with
  |none=>rw[l]at c;simp at c
  |some d=>
   rw[l]at c;cases d<;>simp at c;exact⟨⟨n,l⟩,by simp[Ty.cQ],by simpa[Ty.cQ]using p,by simp⟩
 |sl e=>
  cases l:P.underlying t with
  |none=>rw[l]at c;simp at c
  |some d=>
   rw[l]at c;cases d<;>simp only[en,beq_iff_eq,arb]at c;obtain⟨⟨rfl,s⟩,m⟩:=c;refine⟨⟨n,l,xz s⟩,by simp[Ty.cQ],by simpa[Ty.cQ]using p,λu=> ?_⟩;simp only[Ty.sl.injEq]at u;subst u;simp only[if_true]at m;split at m
   assumption
   cases m
 |pair a b=>
  cases l:P.underlying t with
  |none=>rw[l]at c;simp at c
  |some d=>
   rw[l]at c;cases d with
   |struct fields=>
    simp only[en,beq_iff_eq]at c;obtain⟨⟨s,m⟩,h6⟩:=c;refine⟨⟨n,fields,l,s,λj f v=> ?_⟩,λ_ q=> ?_,by simp[Ty.cQ],by simp⟩;rw[kb]at m;exact ae6 (m (f,j) (aru.2 (by simpa using v)));rw[an q]at h6;simp only[en,aq6]at h6;exact ahO (by omega) rfl h6.1 h6.2
   |_=>simp at c
theorem B8{α:Type}:∀ {l:List (Nat×α)} {a:Nat} {b:α},l.lookup a=some b->(a,b)∈l
 | [],_,_,h=>by simp[arK]at h
 |(x,y)::l,a,b,h=>by
  simp only[arK]at h;split at h;rename_i e;simp only[beq_iff_eq]at e;simp only[hJ]at h;subst e h;simp;exact aq4 _ (B8 h)
def aiv{C:Cx}{l:List (Nat×TI)}(c:l.all (λp=>T4 P p.1 p.2)=true)(d:C.tt=λt=>l.lookup t):CxTy P C:=by
 have:∀t i,C.tt t=some i->T4 P t i=true:=by
  intro t i h;rw[d]at h;exact kb.1 c (t,i) (B8 h)
 exact⟨λt i h=>(P1 (this t i h)).1,λt i h=>(P1 (this t i h)).2.1,λt i h=>(P1 (this t i h)).2.2.1,λt i h=>(P1 (this t i h)).2.2.2⟩
end
def abh(d:List (Nat×TI))(c:List (FuncId×wj))(e h:Nat->Option C5)(k:Nat):Cx:=
 ⟨λt=>d.lookup t,λf=>c.lookup f,e,h,k,0,[]⟩
def aC(P:Program):List (FuncId×wj)->Prop
 | []=>True
 |p::l=>vd P p.1 p.2/\aC P l
theorem aC.mem{P:Program}:∀ {l:List (FuncId×wj)},aC P l->∀p∈l,vd P p.1 p.2
 | [],_,_,h=>by cases h
 |q::l,⟨h1,h2⟩,p,h=>by
  rcases n_.1 h with rfl|h;exact h1;exact aC.mem h2 p h
def ak0{P:Program}{e:List (Nat×TI)}(j:e.all (λp=>T4 P p.1 p.2)=true)(l:P.follows .mixedOrders=true){c:List (FuncId×wj)}(hc:aC P c){m n:Nat->Option C5}{k:Nat}:
 wH P (abh e c m n k):=
 ⟨aiv j rfl,λf d h=>hc.mem (f,d) (B8 h),l⟩
def fnB(fn:Func)(n:Nat):Bool:=match fn.name== "runtime.NumGoroutine" with|true=>false|false=>decide (n<=fn.ntmps)
def Yl{fn:Func}{n:Nat}(h:fnB fn n=true):(fn.name== "runtime.NumGoroutine")=false/\decide (n<=fn.ntmps)=true:=by
 unfold fnB at h;split at h;cases h;rename_i c;exact⟨c,h⟩
def fu{α β:Type}(x:α)(f:α->β):β:=f x
section
variable{P:Program}{C:Cx}{M:WN}{w0:World}{c0:C0}{U:Nat->Prop}{E:Env}{a:Act}{w:World}{G:Gh}{ops:List Oper}{L:Nat->Prop}{Q:Exit->Act->World->Prop}{ρ:Type}
def aeq(args:List Value)(n i:Nat)(hi:i<args.length):(args.toArray++arU (n-args.toArray.size) undef).getD i undef=args.getD i undef:=by
 rw[arw,D_,ar0 (by simpa using hi)];simp
end
section
variable{ρ:Type}
def IG(C:Cx)(ops:List Oper)(nt:Nat):List Oper->Nat->Env->(Env->Option ρ)->Option ρ
 | [],_,E,k=>k E
 |o::l,i,E,k=>match untold C o with
  |true=>IG C ops nt l (i+1) (E.set o.dst .no) k
  |false=>match guardOf ops E.rd o.guard with
   |none=>none
   |some a=>match oj C ops E.rd (nt+32*i) o.guard o with
    |none=>none
    |some c=>Mm o a E (λE'=>IG C ops nt l (i+1) E' k) c
def sQ(C:Cx):Code->Env->(Env->Option ρ)->List (Nat×(Env->Option ρ))->(Env->Option ρ)->Option ρ
 | .skip,E,kn,_,_=>kn E
 | .region _ ops draw,E,kn,_,_=>match lC ops.toList&&keeps C.io ops.toList with
   |true=>(match draw with
    |true=>(match Bp ops.toList with
     |some d=>QP C d ops.size E kn
     |none=>Jb C ops.toList E.nt ops.toList 0 E [] (λE' L=>match CZ ops.toList L with|true=>kn {vo E' ops.toList with nt:=E.nt+32*ops.size}|false=>none))
    |false=>IG C ops.toList E.nt ops.toList 0 E (λE'=>kn {vo E' ops.toList with nt:=E.nt+32*ops.size}))
   |false=>none
 | .seq a b,E,kn,ke,kr=>
   match(wA b).bind C.ja with
   |none=>sQ C a E (λE'=>sQ C b E' kn ke kr) ke kr
   |some n=>aO (λJ=>sQ C a E (λE'=>match proj n E' with|some t=>J t|none=>none) ke kr) (λt=>sQ C b (mE C.n n t) kn ke kr)
 | .cond c x y,E,kn,ke,kr=>
   match arg C E.rd none 0 c with
   |some (.d ⟨.bool,b,_⟩)=>if b=true then sQ C x E kn ke kr else sQ C y E kn ke kr
   |_=>none
 | .block id c,E,kn,ke,kr=>sQ C c E kn ((id,kn)::ke) kr
 | .loop c,E,_,ke,kr=>
   match(wA c).bind C.la with
   |none=>none
   |some n=>match proj n E with
    |some t=>aM C.k (λG t=>sQ C c (mE C.n n t) (λE'=>match proj n E' with|some t=>G t|none=>none) ke kr) t
    |none=>none
 | .exit id,E,_,ke,_=>match ke.lookup id with|some k=>k E|none=>none
 | .ret,E,_,_,kr=>kr E
 |_,_,_,_,_=>none
end
def Nl(C:Cx)(ps:List PK)(rs:List RK)(d:List (Nat×List Bool))(fn:Func)(x:bu (ps.map PK.ty)):Option (bu (rs.map RK.ty++bR ps)):=
 match fn.body with
 |none=>none
 |some c=>
  let e:=cI ps x 4
  sQ {C with n:=fn.ntmps,io:=mq ps 0} c ⟨e.1++ase (fn.ntmps-e.1.length) .no,e.2,true⟩ (fin C.tt ps rs d fn.results.toList e.2) [] (fin C.tt ps rs d fn.results.toList e.2)
section
variable{P:Program}{C:Cx}{w0:World}{c0:C0}{U:Nat->Prop}{E:Env}{a:Act}{w:World}{G:Gh}{ops:List Oper}{L:Nat->Prop}{Q:Exit->Act->World->Prop}{ρ:Type}
theorem H4(hC:wH P C){io:List Nat}(e:keeps io ops=true)(c:lC ops=true){nt:Nat}(h3:4<=nt){k:Env->Option ρ}{r:ρ}:∀ {l:List Oper} {i:Nat} {E:Env} {a:Act} {w:World} {G:Gh},ops.drop i=l->i+l.length=ops.length->
 Inv w0 c0 (λu=>u<nt+32*i) E a w G->qA ops (λj=>j<i) E a.tmps->IG C ops nt l i E k=some r->
 (∀E' p w' G',Inv w0 c0 (λu=>u<nt+32*ops.length) E' p w' G'->qA ops (λj=>j<ops.length) E' p.tmps->E'.s.length=E.s.length->(∀i∈io,p.tmps.getD i undef=a.tmps.getD i undef)->k E'=some r->Q .normal p w')->
 wpOps P ops.toArray Q (asa i l.length) a w
 | [],i,E,a,w,G,hd,hl,hI,hR,h,hK=>by
   have hi:i=ops.length:=by simpa using hl
   subst hi;exact hK E a w G hI hR rfl (λ_ _=>rfl) h
 |o::l,i,E,a,w,G,hd,hl,hI,hR,h,hK=>by
  simp only[ara]at hl|-
  have m:ops[i]?=some o:=by
   have:=congrArg List.head? hd;simpa[ar8]using this
  have q:ops.drop (i+1)=l:=by rw[<-art,hd];rfl
  simp only[IG]at h;rw[ar5,wpOps_cons];split at h;rename_i f;unfold untold at f;split at f;rename_i x hg y;have n:Region.wanted o (yielded ops.toArray a.tmps)=true:=by simp[Region.wanted,hg]
  refine ku m n ?_
  have o0:(execOp a.eval o).run P w= .ok (.value (a.eval (.const x))) w:=by
   simp only[execOp,y];rfl
  unfold Oper.wp;rw[o0];show wpOps P ops.toArray Q _ _ _;have p0:=(hI.ak1 o.dst (a.eval (.const x))).mono (U':=λu=>u<nt+32*(i+1)) (λu t=>by omega)
  refine H4 hC e c h3 (l:=l) (i:=i+1) q (by omega) p0 (λs j z act v B=>by
   obtain⟨q1,q2,q3⟩:=hR.put m c (by omega) (λj w' d=>Ks c m d) (sv:= .no) (mv:=a.eval (.const x)) (by rintro _ _ _ _ ⟨⟩) s j z act v B;exact⟨q1,by rcases q2 with q2|q2<;>omega,q3⟩) h
   (λI J K N R S W X Y=>hK I J K N R S (W.trans (pG ..)) (λj d=>(X j d).trans (IW e (arT m) d)) Y)
  cases f;split at h;cases h;rename_i act b0;split at h;cases h;rename_i ef e0;refine aga hC m hI hR (λj w' d=>Ks c m d) (by omega) c (tk:=nt+32*i) (by omega) (λu h1 h2 h=>by omega) b0 e0 h (λE' p w' G' hk hlen h0 k0 ⟨v,hav⟩=> ?_)
  refine H4 hC e c h3 (l:=l) (i:=i+1) q (by omega) (h0.mono (λu t=>by rcases t with t|t<;>omega))
   (λs j z act v B=>by
    obtain⟨q1,q2,q3⟩:=k0 s j z act v B;exact⟨q1,by rcases q2 with q2|q2<;>omega,q3⟩) hk (λI J K N R S W X Y=>hK I J K N R S (W.trans hlen) (λj d=>(X j d).trans (by rw[hav];exact IW e (arT m) d)) Y)
def aj4(hC:wH P C){r:ρ}{T:Nat->Value}:∀(c:Code) {E:Env} {a:Act} {w:World} {G:Gh} {N R:Env->Option ρ} {ke:List (Nat×(Env->Option ρ))} {Q:Exit->Act->World->Prop},
 Inv w0 c0 (λu=>u<E.nt) E a w G->zQ E.s->E.s.length=C.n->4<=E.nt->(∀i∈C.io,a.tmps.getD i undef=T i)->sQ C c E N ke R=some r->KOk C w0 c0 T r N (Q .normal)->(∀id k,ke.lookup id=some k->KOk C w0 c0 T r k (Q (.exit id)))->KOk C w0 c0 T r R (Q .ret)->
 c.wp P Q a w:=by
 intro c
 induction c with
 |skip=>intro E a w G N R ke Q f q z B I h K p J;exact wp_skip (K E a w G f q z B I h)
 |region id ops draw=>
  intro E a w G N R ke Q f q z B I h o0 p J;simp only[sQ]at h;split at h;rename_i hc;simp only[en]at hc;obtain⟨p0,k0⟩:=hc
  have fin:∀E' S w' G',Inv w0 c0 (λu=>u<E.nt+32*ops.toList.length) E' S w' G'->qA ops.toList (λj=>j<ops.toList.length) E' S.tmps->E'.s.length=E.s.length->(∀i∈C.io,S.tmps.getD i undef=a.tmps.getD i undef)->
   N {vo E' ops.toList with nt:=E.nt+32*ops.size}=some r->Q .normal S w':=by
   intro E' S w' G' W g2 X Y g4;obtain⟨k1,k2,k3⟩:=adE W g2;refine o0 {vo E' ops.toList with nt:=E.nt+32*ops.size} S w' G' ?_ k2 (by rw[k3,X,z]) (by show 4<=E.nt+32*ops.size;omega) (λi hi=>(Y i hi).trans (I i hi)) g4;simpa using k1
  split at h;split at h;rename_i d hd
  have K:0<ops.size:=by
   rcases arW ops.size with h0|h0;have:ops= #[]:=arV h0;subst this;simp[Bp]at hd;exact h0
  exact abl hC.toCxTy hC.mixed f q B hd K k0 h (λE' S w' G' W g2 X g4 Y g6=>o0 E' S w' G' W g2 (X.trans z) g4 (λi hi=>(Y i hi).trans (I i hi)) g6);simp only[OC]at h
  exact ael (ops:=ops.toList) hC.mixed hC k0 p0 B f q (k:=λE'=>N {vo E' ops.toList with nt:=E.nt+32*ops.size}) (by
   rw[<-h];congr 1;funext E' L;cases CZ ops.toList L<;>rfl) fin
  refine wp_region ?_;have:=H4 (Q:=Q) hC k0 p0 B (l:=ops.toList) (i:=0) (by simp) (by simp) (by simpa using f) (λs j w1 act v p=>absurd p (q s j w1 act v)) h fin;rw[Sj];simpa using this;cases h
 |seq x y b0 e0=>
  intro E a w G N R ke Q f q z B I h K p J;refine wp_seq ?_;simp only[sQ]at h;split at h;refine b0 (Q:=Exit.then (y.wp P Q) Q) f q z B I h (λE' S w' G' W g2 X g4 gT Y=> ?_) p J;exact e0 W g2 X g4 gT Y K p J;rename_i n _;simp only[aO]at h;refine b0 (Q:=Exit.then (y.wp P Q) Q) f q z B I h (λE' S w' G' W g2 X g4 gT Y=> ?_) p J;split at Y;rename_i t ht;obtain⟨G2,k1,k2,k3,k4⟩:=Ru W X ht;exact e0 k1 k2 k3 k4 gT Y K p J;cases Y
 |cond c x y b0 e0=>
  intro E a w G N R ke Q f q z B I h K p J;simp only[sQ]at h;split at h;rename_i b sh hb;have hR:RI ([]:List Oper) E a.tmps:=λs j w1 act v p=>absurd p (q s j w1 act v);obtain⟨⟨cs,h1,h2⟩,_⟩:=gP f hR (g:=none) (by rintro j w' ⟨⟩) hb
  have s0:a.eval c= .bool b:=by
   cases sh with
   |leaf=>rw[h1,show cs=_ from h2];rfl
   |sl m=>exact h2.elim
   |pair a b=>exact h2.elim
  refine wp_cond s0 ?_;split at h;rename_i hb;subst hb;exact b0 f q z B I h K p J;rename_i hb;have:b=false:=by simpa using hb
  subst this;exact e0 f q z B I h K p J;cases h
 |block id c ih=>
  intro E a w G N R ke Q f q z B I h K p J;refine wp_block ?_;simp only[sQ]at h;refine ih (Q:=Exit.inBlock id Q) f q z B I h K (λi k hk=> ?_) J;rw[Jn]at hk;intro E2 a2 w2 G2 W g2 X g4 gT Y;show Exit.inBlock id Q (.exit i) a2 w2;simp only[Exit.inBlock];split at hk;rename_i e;simp only[hJ]at hk;subst hk;simp only[e,if_true];exact K E2 a2 w2 G2 W g2 X g4 gT Y;rename_i e;simp only[e,if_false];exact p i k hk E2 a2 w2 G2 W g2 X g4 gT Y
 |loop c ih=>
  intro E a w G N R ke Q f q z B I h K p J;simp only[sQ]at h;split at h;cases h;rename_i n _
  have hq:∃t,proj n E=some t/\aM C.k (λG t=>sQ C c (mE C.n n t) (λE'=>match proj n E' with|some t=>G t|none=>none) ke R) t=some r:=by
   split at h;rename_i t ht;exact⟨t,ht,h⟩;cases h
  obtain⟨t,ht,h⟩:=hq;obtain⟨G2,k1,k2,k3,k4⟩:=Ru f z ht;refine wp_loop_rounds C.k ?_
  have key:∀(m:Nat) (t:bu (qw n.ks)) (a:Act) (w:World) (G:Gh),aM m (λG t=>sQ C c (mE C.n n t) (λE'=>match proj n E' with|some t=>G t|none=>none) ke R) t=some r->
   Inv w0 c0 (λu=>u<(mE C.n n t).nt) (mE C.n n t) a w G->zQ (mE C.n n t).s->(mE C.n n t).s.length=C.n->4<=(mE C.n n t).nt->(∀i∈C.io,a.tmps.getD i undef=T i)->Code.rounds P c Q m a w:=by
   intro m
   induction m with
   |zero=>intro t a w G h;simp[aM]at h
   |succ m u0=>
    intro t a w G h W g2 X g4 gT;rw[rounds_succ];simp only[aM]at h;refine ih (Q:=Exit.then (Code.rounds P c Q m) Q) W g2 X g4 gT h (λE' S w' G' q1 q2 q3 q4 qT q5=> ?_) p J;split at q5;rename_i t' r0;obtain⟨G3,p1,p2,p3,p4⟩:=Ru q1 q3 r0;exact u0 t' S w' G3 q5 p1 p2 p3 p4 qT;cases q5
  exact key C.k t a w G2 h k1 k2 k3 k4 I
 |exit id=>
  intro E a w G N R ke Q f q z B I h K p J;simp only[sQ]at h;split at h;rename_i k hk;exact wp_exit (p id k hk E a w G f q z B I h);cases h
 |ret=>intro E a w G N R ke Q f q z B I h K p J;exact wp_ret (J E a w G f q z B I h)
 |_=>intro E a w G N R ke Q f q z B I h K p J;simp[sQ]at h
def aj3(p:wH P C){f:FuncId}{fn:Func}{d:wj}(W:P.funcs[f]?=some fn)(q:(fn.name== "runtime.NumGoroutine")=false)(hn:d.ps.length<=fn.ntmps)
 (hF:∀x y,d.F x=some y->Nl C d.ps d.rs d.kp fn x=some y):vd P f d:=by
 intro w u args x y Y e;have l:=hF x y Y;unfold Nl at l;split at l;cases l;rename_i c K
 have t:(callFunc f args.toArray).run P w= .ok (.enter f args.toArray) w:=by
  have I:fn.name≠ "runtime.NumGoroutine" :=by simpa using q
  unfold callFunc;simp[W,I,K]
 unfold Ts;rw[t];simp only;refine calls_of_wp W K ?_;have hal:args.length=d.ps.length:=by rw[e.len,uu]
 have hE:=ahr e fn.ntmps;have h30:=iG d.ps 4
 have m:KOk {C with n:=fn.ntmps,io:=mq d.ps 0} w (u.beg (cE d.ps 4)) (λi=>args.getD i undef) y (fin C.tt d.ps d.rs d.kp fn.results.toList (cI d.ps x 4).2) (λz w'=>
  z.defers=[]/\∃v,(results fn z.tmps).run P w'= .ok v w'/\∃N,Ending.returned v=Ending.returned N/\∃G' B nt,BX d w u args y N w' G' B nt):=by
  intro E' z w' G' R g2 g3 g4 gT S;rw[wF]at S;obtain⟨X,G2,B,nt,k1,k2⟩:=ajC p.toCxTy (args:=args) e R S gT;exact⟨R.defers,X,k1,X,rfl,G2,B,nt,k2⟩
 have J:wH P {C with n:=fn.ntmps,io:=mq d.ps 0}:=⟨⟨p.tt,p.eq,p.fs,p.u8⟩,p.ct,p.mixed⟩
 refine aj4 (T:=λi=>args.getD i undef) J c (w0:=w) (c0:=u.beg (cE d.ps 4)) (G:=u) (r:=y) (by rw[wF];simpa[wF]using hE) (λs j w1 act v h=> ?_) ?_ ?_ (λi hi=> ?_) l m (λid k hk=>by simp[arK]at hk) m;rw[pD]at h;exact af3 _ _ _ _ _ h;simp only[arc,List.length_replicate,uu];omega;rw[wF];exact h30;have:=Ld i hi;exact aeq args fn.ntmps i (by omega)
def aeg{e:List (Nat×TI)}(l:e.all (λp=>T4 P p.1 p.2)=true)(m:P.follows .mixedOrders=true){d:List (FuncId×wj)}(hc:aC P d){n q:Nat->Option C5}{k:Nat}
 {f:FuncId} {fn:Func} (s:P.funcs[f]?=some fn) (c:(fn.name== "runtime.NumGoroutine")=false) {ps:List PK} {rs:List RK} {j:List (Nat×List Bool)} (t:decide (ps.length<=fn.ntmps)=true)
 {F:bu (ps.map PK.ty)->Option (bu (rs.map RK.ty++bR ps))} (u:∀x,Nl (abh e d n q k) ps rs j fn x=F x):vd P f ⟨ps,rs,F,j⟩:=
 aj3 (ak0 l m hc) s c (e_ t) (λx _ h=>(u x).trans h)
theorem aC.sQ{e:List (Nat×TI)}(q:e.all (λp=>T4 P p.1 p.2)=true)(u:P.follows .mixedOrders=true){c:List (FuncId×wj)}(hc:aC P c)(v y:Nat->Option C5)(k:Nat)
 {f:FuncId} {fn:Func} (z:P.funcs[f]?=some fn) {ps:List PK} (h:fnB fn ps.length=true) {rs:List RK} {l:List (Nat×List Bool)}
 {F:bu (ps.map PK.ty)->Option (bu (rs.map RK.ty++bR ps))} (B:∀x,Nl (abh e c v y k) ps rs l fn x=F x):aC P ((f,⟨ps,rs,F,l⟩)::c):=
 ⟨aeg q u hc z (Yl h).1 (Yl h).2 B,hc⟩
end
def wrap64{n:Int}(h: -9223372036854775808<=n)(h':n<9223372036854775808):IntKind.i64.wrap n=n:=by
 simp only[asI,asG,asJ];simp;omega
theorem oY{σ ρ:Type}{f:(σ->Option ρ)->σ->Option ρ}(g:σ->Option ρ)(m:σ->Nat)(I:σ->Prop)
 (h:∀G s,I s->(∀c,I c->m c<m s->G c=g c)->f G s=g s):∀(k:Nat) (s:σ),I s->m s<k->aM k f s=g s
 |0,_,_,hm=>by omega
 |k+1,s,hi,hm=>by
  show f (aM k f) s=g s;exact h _ s hi (λc d hm'=>oY g m I h k c d (by omega))
theorem Y2{σ d ρ e:Type}{f:(σ->Option ρ)->σ->Option ρ}{j:(d->Option e)->d->Option e}(R:σ->d->Prop)(S:Option ρ->Option e->Prop)(l:S none none)
 (h:∀G G' s c,R s c->(∀t t',R t t'->S (G t) (G' t'))->S (f G s) (j G' c)):∀(k:Nat) (s:σ) (c:d),R s c->S (aM k f s) (aM k j c)
 |0,_,_,_=>l
 |k+1,s,c,hr=>h _ _ s c hr (λt t' m=>Y2 R S l h k t t' m)
theorem H0{σ ρ:Type}{f:(σ->Option ρ)->σ->Option ρ}(m:σ->Nat)(I:σ->Prop)(P:ρ->Prop)
 (h:∀G s,I s->(∀c,I c->m c<m s->∃r,G c=some r/\P r)->∃r,f G s=some r/\P r):∀(k:Nat) (s:σ),I s->m s<k->∃r,aM k f s=some r/\P r
 |0,_,_,hm=>by omega
 |k+1,s,hi,hm=>h _ s hi (λc d hm'=>H0 m I P h k c d (by omega))
def ag:(τ:Ty)->τ.den->Nat
 | .int _,_=>0
 | .bool,_=>0
 | .str,s=>s.size
 | .sl e,l=>l.length+(l.map (ag e)).sum
 | .pair a b,p=>ag a p.1+ag b p.2
def cY{α:Type}{l:List α}{i:Nat}{d:α}(h:i<l.length):l.getD i d∈l:=by
 rw[D_,H_ h];simp
def gk{α:Type}{l:List α}{i:Nat}{d:α}(h:i<l.length):l.drop i=l.getD i d::l.drop (i+1):=by
 rw[List.drop_eq_getElem_cons h,D_,H_ h];rfl
def eqS{α:Type}(k:Nat)(d:α)(S:α×α×Unit->Option (Bool×Unit))(x:List α×List α×Unit):Option (Bool×Unit):=
 if((((l9 x.1:Nat):Int):Int) != ((l9 x.2.1:Nat):Int))=true then
  some (false,())
 else
  aM k (λe (c:List α×List α×Int×Unit)=>
   if(decide ((c.2.2.1:Int)<((l9 c.1:Nat):Int)))=true then
    if(decide (0<=c.2.2.1/\c.2.2.1<((l9 c.1:Nat):Int)))=true then
     if(decide (0<=c.2.2.1/\c.2.2.1<((l9 c.2.1:Nat):Int)))=true then
      asd (S (arY c.1 (arZ c.2.2.1) d,arY c.2.1 (arZ c.2.2.1) d,())) λ(r3:Bool×Unit)=>
      if(!r3.1)=true then
       some (false,())
      else
       e (c.1,c.2.1,IntKind.i64.wrap (c.2.2.1+1),())
     else
      none
    else
     none
   else
    some (true,())) (x.1,x.2.1,0,())
def allEq{α:Type}(p:α->α->Bool):List α->List α->Bool
 | [],[]=>true
 |a::l,b::m=>p a b&&allEq p l m
 |_,_=>false
theorem It{α:Type}{p:α->α->Bool}:∀ {l m:List α},l.length≠m.length->allEq p l m=false
 | [],[],h=>absurd rfl h
 |a::l,b::m,h=>by
  simp only[allEq];rw[It (l:=l) (m:=m) (λe=>h (by simp[e]))];simp
 | [],_::_,_|_::_,[],_=>rfl
def ahN{α:Type}{k:Nat}{d:α}{S:α×α×Unit->Option (Bool×Unit)}{p:α->α->Bool}{l m:List α}(hk:9223372036854775808<=k)(hl:l.length<=281474976710656)(h:∀a∈l,∀b∈m,S (a,b,())=some (p a b,())):
 eqS k d S (l,m,())=some (allEq p l m,()):=by
 unfold eqS;simp only;by_cases hlen:l.length=m.length;rw[a_ (by simp[hlen])]
 rw[oY (g:=λ(s:List α×List α×Int×Unit)=>some (allEq p (l.drop s.2.2.1.toNat) (m.drop s.2.2.1.toNat),())) (m:=λ(s:List α×List α×Int×Unit)=>l.length-s.2.2.1.toNat)
  (I:=λ(s:List α×List α×Int×Unit)=>s.1=l/\s.2.1=m/\0<=s.2.2.1/\s.2.2.1<=(l.length:Int))]
 simp;rintro G ⟨l',m',i,u⟩ ⟨e1,e2,hi0,hi1⟩ hG;change l'=l at e1;change m'=m at e2;subst e1 e2;simp only at hi0 hi1 hG|-;by_cases c:i<(l'.length:Int);have e:i.toNat<l'.length:=by omega
 have f:i.toNat<m'.length:=by omega
 rw[an (by simpa using c),an (by simpa using⟨hi0,c⟩),an (by simpa using⟨hi0,by omega⟩)];rw[h _ (cY e) _ (cY f),arx,gk (d:=d) e,gk (d:=d) f];simp only[allEq];cases p (l'.getD i.toNat d) (m'.getD i.toNat d)with
 |true=>
  rw[a_ (by simp),wrap64 (by omega) (by omega),hG (l',m',i+1,()) ⟨rfl,rfl,by simp only;omega,by simp only;omega⟩ (by simp only;omega)];simp only[aso];rw[show(i+1).toNat=i.toNat+1 by omega]
 |false=>rfl
 rw[a_ (by simpa using c),arq (by omega),arq (by omega)];rfl;exact⟨rfl,rfl,by simp,by simp⟩;simp only;omega;rw[an (by simp;omega),It hlen]
def eqR{α:Type}(k:Nat)(d:α)(S:α×α×Unit->Option (Bool×Unit))(x:List α×List α×Unit):Option (Bool×Unit):=
 if((((l9 x.1:Nat):Int):Int) != ((l9 x.2.1:Nat):Int))=true then
  some (false,())
 else
  aM k (λe (c:List α×List α×Int×Int×Unit)=>
   if(decide ((c.2.2.2.1:Int)<c.2.2.1))=true then
    if(decide (0<=c.2.2.2.1/\c.2.2.2.1<((l9 c.1:Nat):Int)))=true then
     if(decide (0<=c.2.2.2.1/\c.2.2.2.1<((l9 c.2.1:Nat):Int)))=true then
      asd (S (arY c.1 (arZ c.2.2.2.1) d,arY c.2.1 (arZ c.2.2.2.1) d,())) λ(r3:Bool×Unit)=>
      if(!r3.1)=true then
       some (false,())
      else
       e (c.1,c.2.1,c.2.2.1,IntKind.i64.wrap (c.2.2.2.1+1),())
     else
      none
    else
     none
   else
    some (true,())) (x.1,x.2.1,((l9 x.1:Nat):Int),0,())
def aaM{α:Type}{k:Nat}{d:α}{S:α×α×Unit->Option (Bool×Unit)}{p:α->α->Bool}{l m:List α}(hk:9223372036854775808<=k)(hl:l.length<=281474976710656)(h:∀a∈l,∀b∈m,S (a,b,())=some (p a b,())):
 eqR k d S (l,m,())=some (allEq p l m,()):=by
 unfold eqR;simp only;by_cases hlen:l.length=m.length;rw[a_ (by simp[hlen])]
 rw[oY (g:=λ(s:List α×List α×Int×Int×Unit)=>some (allEq p (l.drop s.2.2.2.1.toNat) (m.drop s.2.2.2.1.toNat),())) (m:=λ(s:List α×List α×Int×Int×Unit)=>l.length-s.2.2.2.1.toNat)
  (I:=λ(s:List α×List α×Int×Int×Unit)=>s.1=l/\s.2.1=m/\s.2.2.1=(l.length:Int)/\0<=s.2.2.2.1/\s.2.2.2.1<=(l.length:Int))]
 simp;rintro G ⟨l',m',n,i,u⟩ ⟨e1,e2,e3,hi0,hi1⟩ hG;change l'=l at e1;change m'=m at e2;change n=_ at e3;subst e1 e2 e3;simp only at hi0 hi1 hG|-;by_cases c:i<(l'.length:Int);have e:i.toNat<l'.length:=by omega
 have f:i.toNat<m'.length:=by omega
 rw[an (by simpa using c),an (by simpa using⟨hi0,c⟩),an (by simpa using⟨hi0,by omega⟩)];rw[h _ (cY e) _ (cY f),arx,gk (d:=d) e,gk (d:=d) f];simp only[allEq];cases p (l'.getD i.toNat d) (m'.getD i.toNat d)with
 |true=>
  rw[a_ (by simp),wrap64 (by omega) (by omega),hG (l',m',_,i+1,()) ⟨rfl,rfl,rfl,by simp only;omega,by simp only;omega⟩ (by simp only;omega)];simp only[aso];rw[show(i+1).toNat=i.toNat+1 by omega]
 |false=>rfl
 rw[a_ (by simpa using c),arq (by omega),arq (by omega)];rfl;exact⟨rfl,rfl,rfl,by simp,by simp⟩;simp only;omega;rw[an (by simp;omega),It hlen]
def cN{α:Type}{c:Prop}[Decidable c](a b:α):(if c then some a else some b)=some (if c then a else b):=by split<;>rfl
def toList_inj{a b:ByteArray}(h:a.toList=b.toList):a=b:=by
 rw[ByteArray.toList_eq,ByteArray.toList_eq]at h;cases a;cases b;simp at h;rw[h]
theorem wM:∀ {τ:Ty} {a b:τ.den},τ.flat=true->(eqv τ a b=true↔a=b)
 | .int _,a,b,_=>by simp[eqv]
 | .bool,a,b,_=>by simp[eqv]
 | .str,a,b,_=>by
   simp only[eqv,beq_iff_eq];exact⟨toList_inj,λh=>by rw[h]⟩
 | .pair x y,a,b,h=>by
   simp only[Ty.flat,en]at h;simp only[eqv,en,wM h.1,wM h.2];exact⟨λh=>Prod.ext h.1 h.2,λh=>by rw[h];exact⟨rfl,rfl⟩⟩
 | .sl _,_,_,h=>by simp[Ty.flat]at h
theorem WX{α:Type}{f:α->Nat}:∀ {l:List α} {x:α},x∈l->f x<=(l.map f).sum
 |y::l,x,h=>by
  simp only[arl,ar1];rcases n_.1 h with rfl|h;omega;have:=WX (f:=f) h;omega
def df{e:Ty}{l:List e.den}{x:e.den}(c:x∈l):ag e x<=ag (.sl e) l:=by
 simp only[ag];have:=WX (f:=ag e) c;omega
def au{e:Ty}{l:List e.den}:l.length<=ag (.sl e) l:=by simp only[ag];omega
def bF(a n:Nat)(p:Nat->Bool):Bool:=(asa a (n-a)).all p
def cH{a n:Nat}{p:Nat->Bool}:bF a n p=true↔∀i,a<=i->i<n->p i=true:=by
 simp only[bF,kb,asu];constructor;intro h i c h2;exact h i ⟨c,by omega⟩;intro h i d;exact h i d.1 (by omega)
def UB{a n:Nat}{p:Nat->Bool}(h:a<n):bF a n p=(p a&&bF (a+1) n p):=by
 unfold bF;rw[show n-a=(n-(a+1))+1 by omega,ar5];rfl
def ng{a n:Nat}{p:Nat->Bool}(h:n<=a):bF a n p=true:=by
 unfold bF;rw[show n-a=0 by omega];rfl
def lz{a n:Nat}{p q:Nat->Bool}:bF a n (λi=>p i&&q i)=(bF a n p&&bF a n q):=by
 rw[arC,en,cH,cH,cH];simp only[en];exact⟨λH=>⟨λi c d=>(H i c d).1,λi c d=>(H i c d).2⟩,λH i c d=>⟨H.1 i c d,H.2 i c d⟩⟩
def aaU{n m:Nat}:bF 0 n (λi=>decide (i<m))=decide (n<=m):=by
 rw[arC,cH];simp only[b_];constructor;intro h;rcases arF m n with c|c;have:=h m (by omega) c;omega;exact c;intro h i _ h2;omega
theorem cV{σ ρ:Type}{f:(σ->Option ρ)->σ->Option ρ}(st:Nat->σ)(p:Nat->Bool)(n:Nat){e no:Option ρ}
 (c:∀G i,i<n->f G (st i)=if p i=true then G (st (i+1))else no) (d:∀G i,n<=i->f G (st i)=e):
 ∀(k a:Nat),n-a<k->aM k f (st a)=if bF a n p=true then e else no
 |0,_,h=>by omega
 |k+1,a,h=>by
  show f (aM k f) (st a)=_;by_cases j:a<n;rw[c _ a j,UB j,cV st p n c d k (a+1) (by omega)];cases p a<;>simp;rw[d _ a (by omega),ng (by omega),an rfl]
def Yz{σ ρ:Type}{f:(σ->Option ρ)->σ->Option ρ}(st:Nat->σ)(p:Nat->Bool)(n:Nat){e yes:Option ρ}
 (c:∀G i,i<n->f G (st i)=if p i=true then yes else G (st (i+1))) (d:∀G i,n<=i->f G (st i)=e) (k a:Nat) (j:n-a<k):
 aM k f (st a)=if bF a n (λi=> !p i)=true then e else yes:=
 cV st (λi=> !p i) n (λG i h=>by rw[c G i h];cases p i<;>rfl) d k a j
theorem bV{σ ρ:Type}{f:(σ->Option ρ)->σ->Option ρ}(st:Nat->σ)(n:Nat){e:Option ρ}(c:∀G i,i<n->f G (st i)=G (st (i+1)))(d:∀G,f G (st n)=e):
 ∀(k a:Nat),a<=n->n-a<k->aM k f (st a)=e
 |0,_,_,h=>by omega
 |k+1,a,ha,h=>by
  show f (aM k f) (st a)=_;by_cases j:a=n;subst j;exact d _;rw[c _ a (by omega),bV st n c d k (a+1) (by omega) (by omega)]
def aY{i:Nat}(h:i<4611686018427387904):IntKind.i64.wrap ((i:Int)+1)=((i+1:Nat):Int):=by
 rw[wrap64 (by omega) (by omega)];rfl
def wU{i:Nat}(h:i<4611686018427387904):IntKind.i64.wrap ((i:Int)-1)=(i:Int)-1:=wrap64 (by omega) (by omega)
def ax{i n:Nat}(h:i<n):(decide ((0:Int)<=(i:Int)/\(i:Int)<(n:Int)))=true:=by simp;omega
def aG{i n:Nat}:(decide ((i:Int)<(n:Int)))=decide (i<n):=by simp
end Vg
namespace Vg
open Go Go.RowKit
theorem Xu{w:World}:∀ {l:List ByteArray} {cs:List Value} {B:List Nat},aZ (aW w .str) l cs B->cs=l.map Value.string
 | [],_,_,h=>h.1
 |x::l,cs,B,h=>by
  obtain⟨c1,c2,B1,B2,rfl,_,c,d⟩:=h;rw[c.1,Xu d];rfl
def akv{l:List ByteArray}{j:Nat}{x:ByteArray}(h:l[j]?=some x):(l.map Value.string)[j]?=some (.string x):=by rw[ass,h];rfl
def acy{ps:List PK}{τ:Ty}{F:bu (ps.map PK.ty)->Option (bu ([RK.val τ .leaf].map RK.ty++bR ps))}{w w':World}{f:Gh}{args:List Value}{nt:Nat}{L:List SV}(c:Pd w f L args nt)
 (j:∀x:bu (bR ps),dK [2,1] ps x (fW ps 0 4)=λ_=>[]) {y:bu ([RK.val τ .leaf].map RK.ty++bR ps)} {mv:Value} (e:Below w.heap.size w w')
 (k:cU w' f (.d ⟨τ,y.1,.leaf⟩) mv):BX ⟨ps,[.val τ .leaf],F,[]⟩ w f args y mv w' f [mv] nt where
 val:=rfl
 len:=rfl
 res i:=by
  cases i with
  |zero=>exact k
  |succ i=>
   have:(bz [RK.val τ .leaf] (bR ps) y (cE ps 4) [2,1]).1.getD (i+1) .no= .no:=by
    show([SV.d ⟨τ,y.1,Sh.leaf⟩]).getD (i+1) .no= .no;rfl
   rw[this];trivial
 ios t i v h:=by rw[j]at h;cases h
 frame b hbs _:=⟨rfl,e.block b hbs⟩
 one b h:=⟨(c.colU b (by omega)).2,rfl⟩
 size:=e.size
 os:=e.os
 tape:=e.tape
 output:=e.output
 lt b h:=Nat.lt_of_lt_of_le (c.colU b h).2 e.size
 fresh b h:=by rw[e.block b (c.colU b (by omega)).2];exact c.fresh b h
 kept q hq:=by cases hq
def On{P:Program}{f:FuncId}{fn:Func}(l:P.funcs[f]?=some fn)(d:(fn.name== "runtime.NumGoroutine")=false)(m:fn.body.isSome=true){w:World}{args:Array Value}{R:Value->World->Prop}
 (h:Calls P f args w (λe w'=>∃v,e= .returned v/\R v w')):Ts P f args w R:=by
 obtain⟨c,hc⟩:=arh.1 m
 have j:(callFunc f args).run P w= .ok (.enter f args) w:=by
  have k:fn.name≠ "runtime.NumGoroutine" :=by simpa using d
  unfold callFunc;simp[l,k,hc]
 unfold Ts;rw[j];exact h
def uM(l:List ByteArray)(sep:ByteArray):List UInt8:=Lib.join (l.map (·.data.toList)) sep.data.toList
def EE(x:List ByteArray×ByteArray×Unit):Option (ByteArray×Unit):=
 if x.1.length<=140737488355328/\(uM x.1 x.2.1).length<=140737488355328 then some (⟨(uM x.1 x.2.1).toArray⟩,())else none
def abJ{P:Program}{f:FuncId}{fn:Func}(hf:P.funcs[f]?=some fn)(k:(fn.name== "runtime.NumGoroutine")=false)(hb:fn.body.isSome=true)
 (h0:∀(a:Option Addr) (c:Nat) (sep:ByteArray) (w:World),Calls P f #[.slice a 0 c,.string sep] w λe w'=>e= .returned (.string ⟨#[]⟩)/\w'=w)
 (h1:∀(N o c:Nat) (xs:List ByteArray) (sep:ByteArray) (w:World),(∀(j:Nat) x,xs[j]?=some x->w.cell? ⟨N,o+j,none⟩=some (.string x))->N<w.heap.size->xs.length<=140737488355328->xs.length<=c->
  (Lib.join (xs.map (·.data.toList)) sep.data.toList).length<=140737488355328->
  Calls P f #[.slice (some ⟨N,o,none⟩) xs.length c,.string sep] w λe w'=>e= .returned (.string ⟨(Lib.join (xs.map (·.data.toList)) sep.data.toList).toArray⟩)/\Below w.heap.size w w'):
 vd P f ⟨[.val (.sl .str) .shr,.val .str .leaf],[.val .str .leaf],EE,[]⟩:=by
 intro w I args x y m h;obtain⟨l,sep,u⟩:=x;have hlen:args.length=2:=h.len
 obtain⟨p,J,rfl⟩:∃p J,args=[p,J]:=by
  match args,hlen with
  | [a,b],_=>exact⟨a,b,rfl⟩
 have s0:cU w I (.d ⟨.sl .str,l,.sl (.sha [1])⟩) p:=h.slots 0;have s1:cU w I (.d ⟨.str,sep,.leaf⟩) J:=h.slots 1;obtain⟨k0,e1,q1⟩:=s1;have R:k0=[.string sep]:=q1;subst R;have S:J= .string sep:=e1;subst S;obtain⟨cs0,e0,v,rfl,q⟩:=s0;have W:p=v:=e0;subst W;have m:EE (l,sep,u)=some y:=m;unfold EE at m;split at m;rename_i hc;have X:=asA m;subst X;refine On hf k hb ?_;obtain⟨⟨B,s,_⟩,_⟩:=q
 have fin:∀w',Below w.heap.size w w'->∃G' vs nt,BX ⟨[.val (.sl .str) .shr,.val .str .leaf],[.val .str .leaf],EE,[]⟩ w I [p,.string sep] (⟨(uM l sep).toArray⟩,()) (.string ⟨(uM l sep).toArray⟩) w' G' vs nt:=
  λw' K=>⟨I,_,_,acy (ps:=[.val (.sl .str) .shr,.val .str .leaf]) (τ:= .str) (F:=EE) (y:=(⟨(uM l sep).toArray⟩,())) h (λ_=>by funext n;rfl) K ⟨[.string ⟨(uM l sep).toArray⟩],rfl,rfl⟩⟩
 rcases s with⟨⟨ao,rfl⟩,rfl,_⟩|⟨b,off,cap,c,el,fz,Bs,rfl,t,z,hsz,_,hl⟩;refine(h0 ao 0 sep w).mono λe w' ⟨he,hw⟩=>⟨_,he,?_⟩
 subst hw;exact fin _ (Below.refl _ _);have Y:=Xu hl;refine(h1 b off cap l sep w (λj x hj=> ?_) (lt_of_block z) hc.1 t hc.2).mono λe w' ⟨he,hw⟩=>⟨_,he,fin _ hw⟩
 unfold World.cell?;simp only[z,asr,arb,if_false];have b0:j<l.length:=(aq8.1 hj).1;have h2:=akv (l:=l) hj;rw[<-Y]at h2;simp only[aro,arH,Ty.sz,Nat.mul_one,b0,if_true,arP]at h2;exact h2;cases m
end Vg
namespace Vg
open Go
def cF(a b:Int):(a==b)=decide (a=b):=rfl
def gC(a b:Int):(a != b)= !decide (a=b):=rfl
def tbf:(true==false)=false:=rfl
def fbt:(false==true)=false:=rfl
def j9{α:Type}{l:List α}{i:Nat}(d:α)(h:i<l.length):l.take (i+1)=l.take i++[l.getD i d]:=by
 rw[List.take_succ_eq_append_getElem h,D_,H_ h];rfl
def filter_one{α:Type}(p:α->Bool)(a:α):[a].filter p=if p a=true then [a]else []:=by
 cases h:p a<;>simp[List.filter,h]
def map_take{α β:Type}{f:α->β}{l:List α}{i:Nat}(d:α)(h:i<l.length):(l.take (i+1)).map f=(l.take i).map f++[f (l.getD i d)]:=by
 rw[j9 d h,arD];rfl
def cpS{α β:Type}(k:Nat)(d:α)(S:α×Unit->Option (β×Unit))(x:List α×Unit):Option (List β×Unit):=
 aM k (λf (c:List α×List β×Int×Unit)=>
  if(decide ((c.2.2.1:Int)<((l9 c.1:Nat):Int)))=true then
   if(decide (0<=c.2.2.1/\c.2.2.1<((l9 c.1:Nat):Int)))=true then
    asd (S (arY c.1 (arZ c.2.2.1) d,())) λ(e:β×Unit)=>
    if(decide (l9 c.2.1+l9 ([e.1]:List β)<4294967296))=true then
     f (c.1,c.2.1++([e.1]:List β),IntKind.i64.wrap (c.2.2.1+(1:Int)),())
    else
     none
   else
    none
  else
   some (c.2.1,())) (x.1,([]:List β),(0:Int),())
def akC{α β:Type}{k:Nat}{d:α}{S:α×Unit->Option (β×Unit)}(f:α->β){l:List α}(hk:9223372036854775808<=k)(hl:l.length<=1073741824)(h:∀e∈l,S (e,())=some (f e,())):cpS k d S (l,())=some (l.map f,()):=by
 unfold cpS;refine bV (λi=>(l,(l.take i).map f,(i:Int),())) l.length (λG i c=> ?_) (λG=> ?_) k 0 (by omega) (by omega);simp only[aG,ax c,c,decide_true,if_true,arI];rw[h _ (cY c),arx,an (by simp;omega),aY (by omega),map_take d c];simp
def cpR{α β:Type}(k:Nat)(d:α)(S:α×Unit->Option (β×Unit))(x:List α×Unit):Option (List β×Unit):=
 aM k (λf (c:List β×List α×Int×Int×Unit)=>
  if(decide ((c.2.2.2.1:Int)<c.2.2.1))=true then
   if(decide (0<=c.2.2.2.1/\c.2.2.2.1<((l9 c.2.1:Nat):Int)))=true then
    asd (S (arY c.2.1 (arZ c.2.2.2.1) d,())) λ(e:β×Unit)=>
    if(decide (l9 c.1+l9 ([e.1]:List β)<4294967296))=true then
     f (c.1++([e.1]:List β),c.2.1,c.2.2.1,IntKind.i64.wrap (c.2.2.2.1+(1:Int)),())
    else
     none
   else
    none
  else
   some (c.1,())) (([]:List β),x.1,((l9 x.1:Nat):Int),(0:Int),())
def akH{α β:Type}{k:Nat}{d:α}{S:α×Unit->Option (β×Unit)}(f:α->β){l:List α}(hk:9223372036854775808<=k)(hl:l.length<=1073741824)(h:∀e∈l,S (e,())=some (f e,())):cpR k d S (l,())=some (l.map f,()):=by
 unfold cpR;refine bV (λi=>((l.take i).map f,l,(l.length:Int),(i:Int),())) l.length (λG i c=> ?_) (λG=> ?_) k 0 (by omega) (by omega);simp only[aG,ax c,c,decide_true,if_true,arI];rw[h _ (cY c),arx,an (by simp;omega),aY (by omega),map_take d c];simp
def IT{α:Type}{k:Nat}{d:α}{S:α×Unit->Option (α×Unit)}{l:List α}(c:9223372036854775808<=k)(f:l.length<=1073741824)(h:∀e∈l,S (e,())=some (e,())):cpS k d S (l,())=some (l,()):=by
 have:=akC (d:=d) (λe=>e) c f h;rwa [List.map_id']at this
def Ow{α:Type}{k:Nat}{d:α}{S:α×Unit->Option (α×Unit)}{l:List α}(c:9223372036854775808<=k)(f:l.length<=1073741824)(h:∀e∈l,S (e,())=some (e,())):cpR k d S (l,())=some (l,()):=by
 have:=akH (d:=d) (λe=>e) c f h;rwa [List.map_id']at this
theorem vU{e:Ty}(p:e.den->Bool):∀(l:List e.den),ag (.sl e) (l.filter p)<=ag (.sl e) l
 | []=>N_ _
 |x::l=>by
  have:=vU p l;by_cases h:p x=true;rw[List.filter_cons_of_pos h];simp only[ag,ara,arl,ar1]at this|-;omega;rw[List.filter_cons_of_neg h];simp only[ag,ara,arl,ar1]at this|-;omega
def fa{e:Ty}(l m:List e.den):ag (.sl e) (l++m)=ag (.sl e) l+ag (.sl e) m:=by
 simp only[ag,arc,arD,List.sum_append];omega
def ck{e:Ty}(x:e.den)(l:List e.den):ag (.sl e) (x::l)=1+ag e x+ag (.sl e) l:=by
 simp only[ag,ara,arl,ar1];omega
def bf{e:Ty}:ag (.sl e) ([]:List e.den)=0:=by simp[ag]
theorem iT{e:Ty}:∀(l:List e.den) (i:Nat) (x:e.den),i<l.length->ag (.sl e) (l.set i x)+ag e (l.getD i e.aa)=ag (.sl e) l+ag e x
 | [],i,x,h=>by simp at h
 |y::l,0,x,h=>by rw[List.set_cons_zero,ck,ck];simp;omega
 |y::l,i+1,x,h=>by
  have:=iT l i x (by simpa using h);rw[List.set_cons_succ,ck,ck,t_];omega
def dH{e:Ty}(l:List e.den)(i:Nat):ag (.sl e) (l.take i)+ag (.sl e) (l.drop i)=ag (.sl e) l:=by
 rw[<-fa,asf]
def iB(n:Nat)(p:Nat->Bool):Option Nat:=(asB n).find? p
def iC:Option Nat->Int
 |some i=>(i:Int)
 |none=> -1
def bl{n:Nat}{p:Nat->Bool}{i:Nat}:iB n p=some i↔i<n/\p i=true/\∀j,j<i->p j=false:=by
 unfold iB;rw[List.find?_range_eq_some];constructor;rintro⟨d,e,f⟩;exact⟨asi.1 e,d,λj c=>by simpa using f j c⟩;rintro⟨d,e,f⟩;exact⟨e,asi.2 d,λj c=>by simpa using f j c⟩
def jP{n:Nat}{p:Nat->Bool}:iB n p=none↔∀i,i<n->p i=false:=by
 unfold iB;rw[List.find?_range_eq_none];constructor;intro h i c;simpa using h i c;intro h i c;simpa using h i c
def mT{σ ρ:Type}{f:(σ->Option ρ)->σ->Option ρ}(st:Nat->σ)(p:Nat->Bool)(n:Nat){e:Option ρ}(c:Nat->Option ρ)
 (d:∀G i,i<n->f G (st i)=if p i=true then c i else G (st (i+1))) (l:∀G,f G (st n)=e) (k:Nat) (hk:n<k):
 aM k f (st 0)=match iB n p with|some i=>c i|none=>e:=by
 have key:∀(k a:Nat),a<=n->n-a<k->(∀j,j<a->p j=false)->aM k f (st a)=match iB n p with|some i=>c i|none=>e:=by
  intro k
  induction k with
  |zero=>intro a _ h;omega
  |succ k t=>
   intro a ha h q;show f (aM k f) (st a)=_;by_cases s:a=n;subst s;rw[l,(jP (n:=a) (p:=p)).2 q];rw[d _ a (by omega)];cases m:p a with
   |true=>rw[an rfl,(bl (i:=a)).2 ⟨by omega,m,q⟩]
   |false=>
    rw[a_ (by simp),t (a+1) (by omega) (by omega) (λj hj=>by
     rcases arF j a with h|h;exact q j h;obtain rfl:j=a:=by omega
     exact m)]
 exact key k 0 (by omega) (by omega) (by omega)
def ny(a b:ByteArray):Bool:=Op.bytesLess a.toList b.toList
def bN:List (ByteArray×ByteArray)->List (ByteArray×ByteArray)->Bool
 | [],b=> !b.isEmpty
 |_::_,[]=>false
 |a::l,b::m=>if a.1.toList==b.1.toList then(if a.2.toList==b.2.toList then bN l m else ny a.2 b.2)else ny a.1 b.1
def dG{α:Type}(lt:α->α->Bool)(x:α):List α->List α
 | []=>[x]
 |y::r=>if lt x y=true then y::dG lt x r else x::y::r
def fc{α:Type}(lt:α->α->Bool)(l:List α):List α:=(l.foldl (λr x=>dG lt x r) []).reverse
abbrev ee(a b:List (ByteArray×ByteArray)×Int×Int×ByteArray):Bool:=bN a.1 b.1
def dp(l:List (List (ByteArray×ByteArray)×Int×Int×ByteArray)):List (List (ByteArray×ByteArray)×Int×Int×ByteArray):=fc ee l
abbrev fJ:Ty:= .pair (.sl (.pair .str .str)) (.pair (.int .i64) (.pair (.int .i64) .str))
def uJ(N:Nat)(x:List fJ.den×Unit):Option (List fJ.den×Unit):=
 if(decide (x.1.length<N)&&x.1.all λa=>decide (a.1.length<4611686018427387904))=true then some (dp x.1,())else none
def YY(x:List fJ.den×Unit):Option (List fJ.den×Unit):=uJ 1152921504606846976 x
end Vg
namespace Go.Proofs
open Go.Shelf Go.RowKit Go.Lib Go.Sort
variable{P:Program}{ρ:Ren}{α:Type}[Inhabited α]
set_option maxHeartbeats 1600000 in
set_option maxRecDepth 100000 in
def Xh(L:LaysGt.n15 P ρ){enc:α->List Value}{k:Nat}(hk:∀x,(enc x).length=k)(lt:α->α->Bool){g:Nat}{lb:Array Value}{sf:Nat}{sb:Array Value}{blk off:Nat}{d:Array α}{W:World}
 (eg:∀args w,(callFunc g args).run P w= .ok (.enter g args) w) (hless:LessReadsK P g lb enc k lt blk off d.size W) (hswap:SwapSwapsK P sf sb enc k blk off d.size)
 (hH:HoldsK enc k W blk off d) (hblk:blk<W.heap.size) (UD:d.size<20):
 Calls P (ρ.f 15) #[.agg #[.func (.func g) #[] lb,.func (.func sf) #[] sb],.int .i64 d.size] W λe w'=>e= .returned (.tuple #[])/\∃n os,w'=sortWorldK enc k W blk off n (Sort.insertionSort lt d 0 d.size) os:=by
 have mixed:=L.mixed;have t0:=L.t0;have a0:=L.a0;have z0:=L.z0;have v0:=L.v0;have t3:=L.t3;have a3:=L.a3;have z3:=L.z3;have v3:=L.v3;have t4:=L.t4;have a4:=L.a4;have z4:=L.z4;have v4:=L.v4;have t26:=L.t26;have a26:=L.a26;have z26:=L.z26;have v26:=L.v26;have t38:=L.t38;have a38:=L.a38;have z38:=L.z38;have v38:=L.v38;have t42:=L.t42;have a42:=L.a42;have z42:=L.z42;have v42:=L.v42;have t47:=L.t47;have a47:=L.a47;have z47:=L.z47;have v47:=L.v47;have u42:=run_underlying L.t42;have e29:∀args w,(callFunc (ρ.f 29) args).run P w= .ok (.enter (ρ.f 29) args) w:=enters_of L.f29 (by kernel_rfl) rfl;have LI:LaysGg.n26 P ρ.viaGt:=({L with}:LaysGt.n29 P ρ).elder;have hS:=(SWK.start hH).alloc (.cells #[.func (.func g) #[] lb,.func (.func sf) #[] sb] (ρ.t 42))
 have hc:Calls P (ρ.f 29) #[.agg #[.func (.func g) #[] lb,.func (.func sf) #[] sb],.int .i64 (0:Nat),.int .i64 d.size] (W.alloc (.cells #[.func (.func g) #[] lb,.func (.func sf) #[] sb] (ρ.t 42))) λe w'=>e= .returned (.tuple #[])/\∃n os,w'=sortWorldK enc k (W.alloc (.cells #[.func (.func g) #[] lb,.func (.func sf) #[] sb] (ρ.t 42))) blk off n (Sort.insertionSort lt d 0 d.size) os:=
  Any.insertionSort_func_cells_w LI enc k hk lt g lb sf sb blk off 0 d.size d _ eg (hS.lessReads hless hblk rfl) hswap (hS.holds hblk hH rfl) (hS.lt hblk) (Nat.zero_le _) (N_ _) (by omega)
 clear hless hswap hH hS
 go_enter L.f15,BodyGt.n15_ntmps ρ
 go_wp2
 refine wp_loop_rounds 1 ?_;rw[rounds_succ]
 go_wp2_with (go_at_fn (ρ.f 29);refine hc.mono ?_;rintro e w1 ⟨rfl,n,os,rfl⟩)
 refine wp_loop_rounds 1 ?_;rw[rounds_succ]
 go_wp2
 all_goals first|(exfalso;omega)|(go_end0;exact⟨rfl,n,_,by unfold sortWorldK;rw[alloc_eq_grow,ahead_grow,putRowK_grow enc k (Sort.ahead W n) _ blk off _ hblk,grow_grow]⟩)
def afp(L:LaysGt.n8 P ρ){t e:TypeId}{i ie:TypeInfo}(hi:P.info? t=some i)(J:i.desc= .slice e)(s:P.packed t=false)(p:P.info? e=some ie){ke:Nat}(u:∀w,(Extern.Rtype.kind e).run P w= .ok ke w)
 {enc:α->List Value} {k:Nat} (I:∀x,(enc x).length=k) (y:ie.size=k) (q:∀w,(isAgg e).run P w= .ok true w) (K:∀x,∀v∈enc x,v.oneCell'=true) (lt:α->α->Bool) {g:Nat} {z:Array Value}
 (N:∀args w,(callFunc g args).run P w= .ok (.enter g args) w) {h off c:Nat} {d:Array α} (R:2<=d.size) (UD:d.size<20)
 {f:Nat} (S:P.funcs.findIdx? (·.name== "internal/reflectlite" ++ ".Swapper$" ++toString (swapperK d.size ie ke))=some f)
 (gS:Bool) (X:∀args W,(callFunc f args).run P W=((Extern.ReflectliteSwapper.swap gS args).run P W).andThen λv w'=> .ok (.value v) w')
 {w:World} (m:LessReadsK P g z enc k lt h off d.size w) (Y:HoldsK enc k w h off d) (j:h<w.heap.size):
 Calls P (ρ.f 8) #[.iface t (.slice (some ⟨h,off,none⟩) d.size c),.func (.func g) #[] z] w λe w'=>
  e= .returned (.tuple #[])/\∃n B,w'=grow (putRowK enc k (Sort.ahead w n) h off (Sort.insertionSort lt d 0 d.size)) B:=by
 refine Any.sort_SliceStable_of_stable L t e i ie hi J s p ke u _ d.size c (by omega) f S (.func g) #[] z w _ ?_
 have hB:sliceBound P e ie ke (some ⟨h,off,none⟩) d.size c= #[.slice (some ⟨h,off,none⟩) d.size c,typeHandle P e]:=by
  unfold sliceBound;rw[a_ (swapperK_gt _ _ _ R)]
 obtain⟨l,hW⟩:∃l,stableWorld P ρ t (some ⟨h,off,none⟩) d.size c w=grow w l:=
  ⟨_,by unfold stableWorld;rw[alloc_eq_grow,alloc_eq_grow,grow_grow]⟩
 rw[hB,hW]
 refine(Xh (P:=P) (ρ:=ρ) {L with} I lt (d:=d) N (m.grow j l)
  (swapSwapsK_of_literal gS f X e ie p enc k I y q K h off d.size c) (holdsK_grow enc k w _ h off d j Y) (by rw[size_grow];omega) UD).mono ?_
 rintro e w' ⟨rfl,n,B,rfl⟩;exact⟨rfl,n,_,by unfold sortWorldK;rw[ahead_grow,putRowK_grow enc k (Sort.ahead w n) _ h off _ j,grow_grow]⟩
def Tp{α:Type}(enc:α->List Value)(d:α->List (ByteArray×ByteArray))(f:Nat)(w:World):Prop:=
 ∀x:α,∃p c,(enc x)[0]?=some (.slice p (d x).length c)/\(d x).length<4611686018427387904/\
  ∀i,i<(d x).length->∃e o,p=some ⟨e,o,none⟩/\e≠f/\e<w.heap.size/\w.cell? ⟨e,o+i*2,none⟩=some (.string ((d x).getD i (ByteArray.empty,ByteArray.empty)).1)/\
   w.cell? ⟨e,o+i*2+1,none⟩=some (.string ((d x).getD i (ByteArray.empty,ByteArray.empty)).2)
end Go.Proofs
