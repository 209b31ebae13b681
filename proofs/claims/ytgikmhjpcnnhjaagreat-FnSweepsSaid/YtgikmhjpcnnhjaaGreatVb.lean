/- VG, joined: an evaluator of the code over typed values, and its soundness, for any program. -/
import Derived.Test.YtgikmhjpcnnhjaaGreatVa
import Derived.Orders
set_option linter.unusedSimpArgs false
set_option linter.unusedVariables false
set_option linter.unusedSectionVars false
set_option linter.defProp false
open Option.some renaming injEq -> aoz
open List renaming getD_eq_getElem?_getD -> l9,mem_cons -> i_,mem_append -> l8,contains_eq_mem -> W',mem_cons_of_mem -> aqm,getD_cons_zero -> aqs,all_eq_true -> aqt,getElem?_eq_getElem -> aqu,mem_map -> aqv,getD_cons_succ -> aqw,mem_append_right -> aqy,drop_append_of_le_length -> aqz,not_mem_nil -> aqB,append_assoc -> aqC,nodup_append -> aqE,take_append_of_le_length -> aqF,drop_take -> aqH,mem_filter -> aqJ,take_of_length_le -> aqK,drop_of_length_le -> aqL,mem_of_getElem? -> aqO,nodup_cons -> aqP,drop_drop -> aqQ,take_take -> aqR,mem_singleton -> aqT,getElem?_eq_none -> aqV,getElem?_toArray -> aqW,mem_flatMap -> aqX,getElem?_cons_succ -> aqY,mem_eraseDups -> aq0,mem_zipIdx_iff_getElem? -> aq2,mem_append_left -> aq3,toList_toArray -> aq5,getElem?_eq_some_iff -> aq6,length_append -> aq8,length_eq_zero_iff -> aq9,drop_append -> ara,nil_append -> arc,drop_zero -> are,replicate -> arf,drop_eq_getElem_cons -> arn,take_append -> arp,length_cons -> aru,getElem?_cons_zero -> arv,append_nil -> arw,take_append_drop -> arx,length_singleton -> ary,mem_of_mem_drop -> arz,map_congr_left -> arB,pairwise_cons -> arD,mem_filterMap -> arE,any_eq_false -> arF,drop_sublist -> arG,lookup -> arJ,flatMap_map -> arK,cons_append -> arM,append_inj -> arO,take_zero -> arQ,take_left -> arR
open Prod.mk renaming injEq -> apc
open Nat renaming le_refl -> r_,add_comm -> F_,lt_succ_self -> X_,mul_le_mul_right -> aqD,le_trans -> aqM,min_eq_left -> aqN,add_mul -> aqS,one_mul -> aq4,zero_add -> aq7,lt_of_lt_of_le -> arh,add_assoc -> arj,lt_irrefl -> ark,sub_self -> ars,add_zero -> art,le_succ -> arI
open Bool renaming and_eq_true -> Q_,not_eq_true' -> aqA,false_eq_true -> aqZ,or_eq_true -> ard,true_and -> arA
open Option renaming map_eq_some_iff -> aqx,getD_some -> aqG,bind_eq_some_iff -> aqI,isNone_none -> aqU,map_some -> aq1,bind_some -> arb,isNone_iff_eq_none -> aro,isSome_iff_exists -> arq,isSome_none -> arC,bind_assoc -> arH,getD_none -> arL
open Array renaming getD_eq_getD_getElem? -> ari,ext' -> arN
open Function renaming comp_def -> arl
open List.cons renaming injEq -> arP
open Prod renaming ext -> arS
namespace Vg
open Go
def ZR{k o:Nat}{b c:List Value}(h:k<=o)(hc:o<=c.length):(wJ o b c).drop k=wJ (o-k) b (c.drop k):=by
 unfold wJ;rw[aqC,aqz (by simp;omega),aqH,aqC,aqQ];congr 3;omega
def Z6{n o:Nat}{b c:List Value}(h:o+b.length<=n)(hn:n<=c.length):(wJ o b c).take n=wJ o b (c.take n):=by
 unfold wJ;have d:(c.take o++b).length=o+b.length:=by simp;omega
 rw[arp,d,aqK (by omega),aqR,aqN (by omega),aqH]
def XF{k b sz:Nat}{d c:List Value}(h:b+d.length<=sz):
 wJ (k+b) d c=c.take k++wJ b d ((c.drop k).take sz)++c.drop (k+sz):=by
 unfold wJ;rw[aqR,aqN (by omega),aqH,aqQ];have e:c.take (k+b)=c.take k++(c.drop k).take b:=by rw[List.take_add]
 have i:c.drop (k+b+d.length)=((c.drop (k+(b+d.length))).take (sz-(b+d.length)))++c.drop (k+sz):=by
  have:=(arx (sz-(b+d.length)) (c.drop (k+(b+d.length)))).symm;rw[aqQ]at this;rw[show k+b+d.length=k+(b+d.length) by omega];rw[show k+sz=k+(b+d.length)+(sz-(b+d.length)) by omega];exact this
 rw[e,i];simp[aqC]
section
variable{P:Program}{C:Cx}{w0:World}{c0:C0}{U:Nat->Prop}{E:Env}{a:Act}{w:World}{G:Gh}{ops:List Oper}{g:Option (Nat×Bool)}
theorem fl.put:∀ {p:List Bool} {τ:Ty} {x:τ.den} {sh:Sh} {cs:List Value} {v:TV} {y:τ.den} {s:Sh} {cv:List Value} {B u:List Nat},
 N3 τ x sh p v=some (y,s)->fl w τ x cs B->fl w v.τ v.x cv u->
 ∃c q l,B=c++q++l/\fl w τ y (wJ (τ.off p) cv cs) (c++u++l)/\τ.off p+cv.length<=τ.sz
 | [],τ,x,sh,cs,v,y,s,cv,B,u,hp,h,hv=>by
   have J:OP v τ=some y:=by
    cases τ<;>(simp only[N3]at hp;split at hp<;>simp_all)
   have e:=Ea J;have K:=fl.len h;have h0:τ.off []=0:=by cases τ<;>rfl
   have z:=fl.len hv;have hτ:v.τ=τ:=by rw[e]
   refine⟨[],B,[],by simp,?_,by rw[h0,z,hτ];omega⟩;unfold wJ;rw[h0,z,hτ,arQ,arc,aq7,aqL (by omega),arw];rw[e]at hv;simpa using hv
 |false::p,.pair a b,x,.pair s1 s2,cs,v,y,s,cv,B,u,hp,h,hv=>by
  obtain⟨c1,c2,N,S,rfl,rfl,D,W⟩:=h;simp only[N3]at hp;split at hp;rename_i y1 H I;cases hp;obtain⟨c,q,l,rfl,Y,hle⟩:=fl.put I D hv;have K:=fl.len D;refine⟨c,q,l++S,by simp,⟨_,c2,_,S,?_,by simp,Y,W⟩,by simp only[Ty.off,Ty.sz];omega⟩;simp only[Ty.off,wJ];rw[aqF (by omega),aqz (by omega)];simp;cases hp
 |true::p,.pair a b,x,.pair s1 s2,cs,v,y,s,cv,B,u,hp,h,hv=>by
  obtain⟨c1,c2,N,S,rfl,rfl,D,W⟩:=h;simp only[N3]at hp;split at hp;rename_i y1 H I;cases hp;obtain⟨c,q,l,rfl,Y,hle⟩:=fl.put I W hv;have K:=fl.len D;refine⟨N++c,q,l,by simp,⟨c1,_,N,_,?_,by simp,D,Y⟩,by simp only[Ty.off,Ty.sz];omega⟩;simp only[Ty.off,wJ];rw[<-K,arp,aqK (by omega),ara,aqL (by omega)];simp[arj];cases hp
 |b::p,.int _,_,_,_,_,_,_,_,_,_,hp,_,_|b::p,.bool,_,_,_,_,_,_,_,_,_,hp,_,_|b::p,.str,_,_,_,_,_,_,_,_,_,hp,_,_|b::p,.sl _,_,_,_,_,_,_,_,_,_,hp,_,_=>by simp[N3]at hp
 |false::p,.pair _ _,_,.leaf,_,_,_,_,_,_,_,hp,_,_|false::p,.pair _ _,_,.sl _,_,_,_,_,_,_,_,hp,_,_=>by simp[N3]at hp
 |true::p,.pair _ _,_,.leaf,_,_,_,_,_,_,_,hp,_,_|true::p,.pair _ _,_,.sl _,_,_,_,_,_,_,_,hp,_,_=>by simp[N3]at hp
def M.clear(b:Nat):M->Prop
 | .row u hs _=>u=b\/b∉hs
 | .sha hs=>b∉hs
 | .nst b' _ _ _ _ _=>b'≠b
 | .dead=>True
def Sh.clear(b:Nat):Sh->Prop
 | .leaf=>True
 | .sl m=>m.clear b
 | .pair x y=>x.clear b/\y.clear b
def B9(b:Nat)(m:M):(m.og b).clear b:=by
 cases m with
 |row u hs nd=>
  simp only[M.og];split;rename_i h;exact .inl h;split;trivial;rename_i h;right;simpa using h
 |sha hs=>
  simp only[M.og];split;trivial;rename_i h;simpa[M.clear]using h
 |nst b' e i o p fr=>
  simp only[M.og];split;trivial;rename_i h;exact h
 |dead=>trivial
theorem Sh.B9(b:Nat):∀sh:Sh,(sh.map (M.og b)).clear b
 | .leaf=>trivial
 | .sl m=>Vg.B9 b m
 | .pair x y=>⟨Sh.B9 b x,Sh.B9 b y⟩
def aj1(b:Nat)(m:M):∀c∈(m.og b).cO,c∈m.cO:=by
 intro c hc;cases m with
 |row u hs nd=>
  simp only[M.og]at hc;split at hc;exact hc;split at hc;simp[M.cO]at hc;exact hc
 |sha hs=>
  simp only[M.og]at hc;split at hc;simp[M.cO]at hc;exact hc
 |nst b' e i o p fr=>
  simp only[M.og]at hc;split at hc;simp[M.cO]at hc;exact hc
 |dead=>exact hc
theorem abt(b:Nat):ZO w U G U G (M.og b) (fun _=>true) (fun hs=>if hs.contains b then none else some hs) where
 row e l v m h _:=by
  cases m with
  |row u hs nd=>
   simp only[M.og];split;exact h;split;exact h.one;exact h
  |sha hs=>
   simp only[M.og];split;exact h.one;exact h
  |nst b' E i o p fr=>
   simp only[M.og];split;exact h.one;exact h
  |dead=>exact h
 good m h c hc:=h c (aj1 b m c hc)
 rd hs hs' h hg:=by
  split at h;cases h;cases h;exact⟨hg,fun b d=>d⟩
 hdr _ _:=rfl
 bx t _ d:=⟨d,fun _ h=>h⟩
 ru _ _ h:=h
 mono _ h:=h
theorem Y5{b:Nat}{e:Ty}{y:List e.den}{m:M}{w':World}(j:qs w' G e y (G.hdr b) m)(q:∀k,0<G.col k->G.col k≠b->w'.heap[k]?=w.heap[k]?):
 ∀ {τ:Ty} {x:τ.den} {sh:Sh} {cs:List Value},kE w G τ x sh cs->sh.clear b->(∀c∈sh.cO,0<c)->
   kE w' G τ (ON b e y m τ x sh).1 (ON b e y m τ x sh).2 cs
 | .int _,_,.leaf,_,h,_,_=>h
 | .bool,_,.leaf,_,h,_,_=>h
 | .str,_,.leaf,_,h,_,_=>h
 | .sl e',l,.sl (.row u hs nd),cs,h,hc,hp=>by
   obtain⟨v,rfl,r⟩:=h;simp only[ON];split;rename_i t;subst t;split;rename_i z;subst z;refine⟨v,rfl,?_⟩;have:v=G.hdr u:=r.2.1.symm;rw[this];exact j;exact⟨v,rfl,r.one⟩;rename_i t;refine⟨v,rfl,qs.agree ⟨fun k d=>q k (hp _ d) (fun s=> ?_),fun _ _=>rfl,fun _ _=>rfl⟩ r⟩;simp only[M.cO,i_]at d;rcases hc with hc|hc;exact t hc;rcases d with d|d;exact t (d.symm.trans s);exact hc (s▸d)
 | .sl e',l,.sl (.sha hs),cs,h,hc,hp=>by
   obtain⟨v,rfl,r⟩:=h;refine⟨v,rfl,qs.agree ⟨fun k d=>q k (hp _ d) (fun s=> ?_),fun _ _=>rfl,fun _ _=>rfl⟩ r⟩;exact hc (s▸d)
 | .sl e',l,.sl (.nst b' E i o p fr),cs,h,hc,hp=>by
   obtain⟨v,rfl,r⟩:=h;refine⟨v,rfl,qs.agree ⟨fun k d=>q k (hp _ d) (fun s=> ?_),fun _ _=>rfl,fun _ _=>rfl⟩ r⟩;simp only[M.cO,aqT]at d;exact hc (d.symm.trans s)
 | .sl e',l,.sl .dead,cs,h,hc,hp=>by
   obtain⟨v,rfl,r⟩:=h;exact⟨v,rfl,r⟩
 | .pair a b',p,.pair s1 s2,cs,h,hc,hp=>by
   obtain⟨B,D,rfl,F,H⟩:=h;exact⟨B,D,rfl,Y5 j q F hc.1 (fun c h=>hp c (by simp[Sh.cO,h])),Y5 j q H hc.2 (fun c h=>hp c (by simp[Sh.cO,h]))⟩
 | .int _,_,.sl _,_,h,_,_| .int _,_,.pair _ _,_,h,_,_| .bool,_,.sl _,_,h,_,_| .bool,_,.pair _ _,_,h,_,_
 | .str,_,.sl _,_,h,_,_| .str,_,.pair _ _,_,h,_,_| .sl _,_,.leaf,_,h,_,_| .sl _,_,.pair _ _,_,h,_,_
 | .pair _ _,_,.leaf,_,h,_,_| .pair _ _,_,.sl _,_,h,_,_=>h.elim
theorem WH{b:Nat}{e:Ty}{y:List e.den}{m:M}:∀ {τ:Ty} {x:τ.den} {sh:Sh},∀c∈(ON b e y m τ x sh).2.cO,c∈sh.cO\/c∈m.cO
 | .sl e',l,.sl (.row u hs nd),c,h=>by
   simp only[ON]at h;split at h;split at h;exact .inr h;simp[Sh.cO,M.cO]at h;exact .inl h
 | .pair a b',p,.pair s1 s2,c,h=>by
   simp only[ON,Sh.cO,l8]at h|-;rcases h with h|h;exact(WH c h).imp .inl id;exact(WH c h).imp .inr id
 | .sl _,_,.sl (.nst _ _ _ _ _ _),_,h| .sl _,_,.leaf,_,h| .sl _,_,.pair _ _,_,h| .sl _,_,.sl (.sha _),_,h| .sl _,_,.sl .dead,_,h
 | .int _,_,.leaf,_,h| .int _,_,.sl _,_,h| .int _,_,.pair _ _,_,h| .bool,_,.leaf,_,h| .bool,_,.sl _,_,h| .bool,_,.pair _ _,_,h
 | .str,_,.leaf,_,h| .str,_,.sl _,_,h| .str,_,.pair _ _,_,h| .pair _ _,_,.leaf,_,h| .pair _ _,_,.sl _,_,h=> .inl h
def SV.clear(b:Nat):SV->Prop
 | .d v| .box _ v=>v.sh.clear b
 | .tup l=>∀v∈l,v.sh.clear b
 | .g _ _ _ v=>v.clear b
 |_=>True
theorem SV.B9(b:Nat):∀s:SV,(s.og b).clear b
 | .no| .ptr ..=>trivial
 | .d v=>Sh.B9 b v.sh
 | .box t v=>Sh.B9 b v.sh
 | .ept ..=>by simp only[SV.og,SV.mapM];split<;>trivial
 | .rdp hs v=>by simp only[SV.og,SV.mapM];split<;>trivial
 | .tup l=>by
   intro v c;simp only[aqv]at c;obtain⟨u,_,rfl⟩:=c;exact Sh.B9 b u.sh
 | .g j w' act v=>SV.B9 b v
theorem rn.setRow{b:Nat}{e:Ty}{y:List e.den}{m:M}{w':World}(q:qs w' G e y (G.hdr b) m)(Y:G.bx b=false)(z:∀k,0<G.col k->G.col k≠b->w'.heap[k]?=w.heap[k]?):
 ∀ {s:SV} {mv:Value},rn w G s mv->s.clear b->lg U G s->rn w' G (s.setRow b e y m) mv
 | .no,_,_,_,_=>trivial
 | .d v,mv,⟨N,h1,h2⟩,hc,hm=>⟨N,h1,Y5 q z h2 hc (fun c h=>(hm.1 c h).1)⟩
 | .box t v,mv,⟨bk,c,el,h1,h2,h3,h4,h5,h6⟩,hc,hm=>by
   have J:=hm.2.1 t (by simp[SV.bt]);refine⟨bk,c,el,h1,h2,h3,h4,?_,Y5 q z h6 hc (fun c h=>(hm.1 c h).1)⟩;rw[z bk (by rw[h4];exact J.1) (fun e=> ?_)];exact h5;rw[h4]at e;rw[e,Y]at J;cases J.2.2
 | .ptr t o p τ,mv,h,_,_=>h
 | .ept t e' i o p τ,mv,h,_,_=>h
 | .rdp hs v,mv,⟨bk,o,c,el,fz,h1,h2,h3,h4,h5⟩,_,hm=>by
   simp only[SV.setRow];split;trivial;rename_i D;simp only[W',b_,l8,not_or]at D
   have ha:∀k,G.col k∈hs++v.sh.cO->w'.heap[k]?=w.heap[k]?:=fun k B=>z k (hm.1 _ B).1 (fun e=>by
    rw[e]at B;rcases l8.1 B with B|B;exact D.1 B;exact D.2 B)
   exact⟨bk,o,c,el,fz,h1,(ha bk (by simp[h4])).trans h2,h3,h4,kE.agree ⟨fun k B=>ha k (by simp[B]),fun _ _=>rfl,fun _ _=>rfl⟩ h5⟩
 | .tup l,mv,⟨vs,h1,h2,h3⟩,hc,hm=>by
   refine⟨vs,h1,by simp[h2],fun i v W=> ?_⟩;rw[List.getElem?_map,aqx]at W;obtain⟨K,H,rfl⟩:=W;obtain⟨u,N,hu,S,hv⟩:=h3 i K H;exact⟨u,N,hu,S,Y5 q z hv (hc K (aqO H)) (fun c I=>(hm.1 c (aqX.2 ⟨K,aqO H,I⟩)).1)⟩
 | .g j w2 false v,mv,⟨h1,h2⟩,hc,hm=>⟨fun e=>absurd e (by simp),h2⟩
 | .g j w2 true v,mv,⟨h1,h2⟩,hc,hm=>⟨fun e=>⟨by
  have:=(h1 e).1;cases v with
  |box t v=>simp[SV.ye]at this
  |rdp hs v=>simp only[SV.setRow];split<;>rfl
  |_=>rfl,rn.setRow (s:=v) q Y z (h1 e).2 hc (by simpa[lg,SV.sc,SV.bt,SV.rt]using hm)⟩,h2⟩
theorem lg.setRow{b:Nat}{e:Ty}{y:List e.den}{m:M}(p:∀c∈m.cO,Good U G c):∀ {s:SV},lg U G s->lg U G (s.setRow b e y m)
 | .no,h| .ptr ..,h| .ept ..,h=>h
 | .d v,hm=>lg.d fun c hc=>(WH c hc).elim (hm.1 c) (p c)
 | .box t v,hm=>⟨fun c hc=>(WH c hc).elim (hm.1 c) (p c),hm.2.1,hm.2.2⟩
 | .rdp hs v,hm=>by
   simp only[SV.setRow];split;simp[lg,SV.sc,SV.bt,SV.rt];exact hm
 | .tup l,hm=>by
   refine⟨fun c hc=> ?_,by simp[SV.setRow,SV.bt],by simp[SV.setRow,SV.rt]⟩;simp only[SV.setRow,SV.sc,arK,aqX]at hc;obtain⟨v,q,hc⟩:=hc;exact(WH c hc).elim (fun h=>hm.1 c (aqX.2 ⟨v,q,h⟩)) (p c)
 | .g j w2 true v,hm=>by
   have:=lg.setRow (b:=b) (e:=e) (y:=y) (s:=v) p (by simpa[lg,SV.sc,SV.bt,SV.rt]using hm);simpa[lg,SV.setRow,SV.sc,SV.bt,SV.rt]using this
 | .g j w2 false v,hm=>by simp[lg,SV.setRow,SV.sc,SV.bt,SV.rt]
def agG{b:Nat}{e:Ty}{y:List e.den}{m:M}{s:SV}{t:Nat}{u:TV}(h:s.setRow b e y m= .box t u):∃c,s= .box t c:=by
 cases s with
 |box t' v=>simp only[SV.setRow,SV.box.injEq]at h;exact⟨v,by rw[h.1]⟩
 |rdp hs v=>simp only[SV.setRow]at h;split at h<;>cases h
 |_=>simp[SV.setRow]at h
theorem Inv.setRow(h:Inv w0 c0 U E a w G){b:Nat}{e:Ty}{y:List e.den}{m:M}{w':World}(q:qs w' G e y (G.hdr b) m)(W:G.bx b=false)(hb3:4<=b)
 (p:∀k,G.col k≠b->w'.heap[k]?=w.heap[k]?) (B:∀s,(E.s.getD s .no).clear b) (D:∀c∈m.cO,Good U G c)
 (fresh:∀k,G.col k=b->∃c el,w'.heap[k]?=some (.cells c el (0,0))) (size:w.heap.size=w'.heap.size)
 (Y:w'.os=w.os) (tape:w'.tape=w.tape) (output:w'.output=w.output):Inv w0 c0 U {E with s:=E.s.map (SV.setRow b e y m)} a w' G:=by
 have z:∀s,({E with s:=E.s.map (SV.setRow b e y m)}:Env).s.getD s .no=(E.s.getD s .no).setRow b e y m:=fun s=>getD_map (T:=SV.setRow b e y m) rfl s;have H:∀s,lg U G ((E.s.getD s .no).setRow b e y m):=fun s=>lg.setRow D (h.Xe s);refine⟨by simpa using h.len,fun s=> ?_,fun s=> ?_,fun s=> ?_,fun s=> ?_,fun s S t v v' J K=> ?_,h.colU,fun k l=>by rw[<-size];exact h.lt k l,fun k l=> ?_,fun k l hc=> ?_,h.one,by rw[<-size];exact h.size,Y.trans h.os,tape.trans h.tape,output.trans h.output,h.defers,h.two,h.hk⟩;rw[z];exact rn.setRow q W (fun k _ l=>p k l) (h.slots s) (B s) (h.Xe s);rw[z];exact(H s).1;rw[z];exact(H s).2.1;rw[z];exact(H s).2.2;rw[z]at J K;obtain⟨u,hu⟩:=agG J;obtain⟨u',I⟩:=agG K;exact h.uni s S t u u' hu I;by_cases e:G.col k=b;exact fresh k e;rw[p k e];exact h.fresh k l;have N:=h.frame k l hc;exact⟨N.1,by rw[p k (by omega)];exact N.2⟩
theorem Sh.S1:∀ {τ:Ty} {x:τ.den} {sh:Sh} {cs:List Value} {ts:List Nat},kE w G τ x sh cs->sh.own=some ts->∀c∈ts,4<=c
 | .int _,_,.leaf,_,ts,_,h,c,hc| .bool,_,.leaf,_,ts,_,h,c,hc| .str,_,.leaf,_,ts,_,h,c,hc=>by
   simp only[Sh.own,aoz]at h;subst h;simp at hc
 | .sl e,l,.sl m,cs,ts,h,ho,c,hc=>by
   obtain⟨v,rfl,z⟩:=h;simp only[Sh.own]at ho;cases m with
   |row t hs nd=>
    obtain⟨_,B,D⟩:=M.S1 ho;rcases(D c).1 hc with rfl|hc;exact z.1;exact B c hc
   |sha hs=>cases hs with
    |nil=>simp only[M.own,aoz]at ho;subst ho;simp at hc
    |cons=>simp[M.own]at ho
   |nst b E i o p fr=>simp[M.own]at ho
   |dead=>simp[M.own]at ho
 | .pair a b,p,.pair s1 s2,cs,ts,h,ho,c,hc=>by
   obtain⟨c1,c2,rfl,H,I⟩:=h;simp only[Sh.own]at ho;split at ho;rename_i x y q u;split at ho;simp only[aoz]at ho;subst ho;rcases l8.1 hc with hc|hc;exact Sh.S1 H q c hc;exact Sh.S1 I u c hc;cases ho;cases ho
 | .int _,_,.sl _,_,_,h,_,_,_| .int _,_,.pair _ _,_,_,h,_,_,_| .bool,_,.sl _,_,_,h,_,_,_| .bool,_,.pair _ _,_,_,h,_,_,_
 | .str,_,.sl _,_,_,h,_,_,_| .str,_,.pair _ _,_,_,h,_,_,_| .sl _,_,.leaf,_,_,h,_,_,_| .sl _,_,.pair _ _,_,_,h,_,_,_
 | .pair _ _,_,.leaf,_,_,h,_,_,_| .pair _ _,_,.sl _,_,_,h,_,_,_=>h.elim
theorem ajP{τ:Ty}{b:Nat}{hs:List Nat}{nd:Bool}{v:TV}{cv:List Value}{e:Ty}{l:List e.den}{hv:Value}{gv:List Nat}{m:M}
 (hr:qs w G e l hv (.row b hs nd)) (hg:∀c∈b::hs,Good U G c) (I:kE w G v.τ v.x v.sh cv) (e0:∀c∈v.sh.cO,Good U G c) (hl:v.sh.live=true) (hτ:v.τ=τ)
 (own:Option (List Nat)) (i:own=if τ.flat then none else match(M.row b hs nd).own,v.sh.own with
  |some a,some c=>if c.all (!a.contains ·)then some ((a++c).filter (·≠b))else none
  |_,_=>none)
 (k:gv=own.getD []) (N:m=if own.isSome then .row b [b] true else if τ.flat then .row b hs nd else .row b (hs++v.sh.cO).eraseDups false)
 (S:(own.isNone&&v.sh.cO.contains b)=false):
 (∀c∈gv,4<=c/\Good U G c)/\b∉gv/\(∀c∈m.cO,Good U G c)/\
 ∃B F hs' b0,Bk w e.sz (fl w e) l hv B/\fl w v.τ v.x cv F/\m= .row b hs' b0/\
  ∀h H,B=h::H->G.col h=b/\h∉H/\h∉F/\∀q,(∃A Bo D,H=A++Bo++D/\q=A++F++D)->
   (∀x∈q,(if G.col x∈gv then b else G.col x)∈hs')/\(b0=true->q.Nodup):=by
 obtain⟨s0,hh,B,hB,hc⟩:=hr;by_cases hf:τ.flat=true;rw[an hf]at i;subst i;simp only[arL]at k;subst k;simp only[arC,aqZ,if_false,hf,if_true]at N;subst N;obtain⟨F,s,_⟩:=I.rep hl;have:F=[]:=fl.flat (by rw[hτ];exact hf) s;subst this;refine⟨by simp,by simp,fun c j=>hg c j,B,[],hs,nd,hB,s,rfl,fun h H t=> ?_⟩;obtain⟨Y,k2,k3,k4⟩:=hc h H t;refine⟨Y,k2,by simp,?_⟩;rintro q ⟨A,Bo,D,rfl,rfl⟩;refine⟨fun x d=> ?_,fun hn=> ?_⟩;simp only[aqB,if_false];exact k3 x (by simp at d|-;rcases d with d|d<;>simp[d])
 exact(k4 hn).sublist (by
  simp only[arw];exact List.Sublist.append (List.sublist_append_left ..) (List.Sublist.refl _))
 rw[a_ hf]at i;cases ho:own with
 |some ts=>
  rw[ho]at i k N;simp only[aqG]at k;simp only[Option.isSome_some,if_true]at N;subst k N;split at i;rename_i a' c o0 r;split at i;rename_i K;cases i;obtain⟨u0,h3,J⟩:=M.S1 o0
  have h0:∀z∈c,z∉a':=by
   simp only[aqt,aqA,W',d_]at K;exact K
  obtain⟨F,s,x0,u⟩:=I.own r;have p0:∀z∈c,4<=z:=Sh.S1 I r;refine⟨fun z hz=> ?_,by simp,by simp only[M.cO];intro z hz;simp only[i_,aqB,or_false,or_self]at hz;subst hz;exact hg z (by simp),B,F,[b],true,hB,s,rfl,fun h H t=> ?_⟩;simp only[aqJ,l8]at hz;rcases hz.1 with h|h;refine⟨?_,hg z ?_⟩;rcases(J z).1 h with rfl|h;exact s0;exact h3 z h;rcases(J z).1 h with rfl|h;simp;simp[h];exact⟨p0 z h,e0 z (Sh.Ra r z h)⟩;obtain⟨Y,k2,k3,k4⟩:=hc h H t;refine⟨Y,k2,fun p=> ?_,?_⟩;have:=u h p;rw[Y]at this;exact h0 b this ((J b).2 (.inl rfl));rintro q ⟨A,Bo,D,rfl,rfl⟩;have hn:=k4 u0;have W:∀x∈A++Bo++D,G.col x∈a':=fun x d=>(J _).2 (.inr (k3 x d));refine⟨fun x d=> ?_,fun _=> ?_⟩
  have r0:G.col x∈a'\/G.col x∈c:=by
   simp only[l8]at d;rcases d with(d|d)|d;exact .inl (W x (by simp[d]));exact .inr (u x d);exact .inl (W x (by simp[d]))
  by_cases e:G.col x=b;simp[e]
  have p:G.col x∈(a'++c).filter (·≠b):=by
   simp only[aqJ,l8,ne_eq,decide_not,aqA,d_];exact⟨r0,e⟩
  rw[an p];simp;have j0:∀x∈F,x∉A++Bo++D:=fun x d p=>h0 _ (u x d) (W x p);rw[aqE,aqE]at hn;obtain⟨⟨n1,n2,n3⟩,n4,n5⟩:=hn;rw[aqE,aqE];refine⟨⟨n1,x0,fun x d y hy e=>j0 y hy (by subst e;simp[d])⟩,n4,fun x d y hy e=> ?_⟩;rcases l8.1 d with d|d;exact n5 x (by simp[d]) y hy e;exact j0 x d (by subst e;simp[hy]);cases i;cases i
 |none=>
  rw[ho]at k N S;simp only[arL]at k;subst k;simp only[arC,aqZ,if_false,hf]at N;subst N;simp only[aqU,arA,W',d_]at S;obtain⟨F,s,r⟩:=I.rep hl;refine⟨by simp,by simp,fun c j=> ?_,B,F,_,false,hB,s,rfl,fun h H t=> ?_⟩;simp only[M.cO,i_,aq0,l8]at j;rcases j with rfl|j|j;exact hg c (by simp);exact hg c (by simp[j]);exact e0 c j;obtain⟨Y,k2,k3,k4⟩:=hc h H t;refine⟨Y,k2,fun p=> ?_,?_⟩;have:=r h p;rw[Y]at this;exact S this;rintro q ⟨A,Bo,D,rfl,rfl⟩;refine⟨fun x d=> ?_,by simp⟩;simp only[aqB,if_false,aq0,l8];simp only[l8]at d;rcases d with(d|d)|d;exact .inl (k3 x (by simp[d]));exact .inr (r x d);exact .inl (k3 x (by simp[d]))
theorem Inv.amj(q:Inv w0 c0 U E a w G){ts:List Nat}{t:Nat}{v:Value}(u:4<=t)(p:∀c∈ts,4<=c/\Good U G c)(y:U t)(z:v=G.hdr t)(l:G.bx t=false):
 Inv w0 c0 U {E with s:=E.s.map (SV.fv ts t)} a w (G.fv ts t v):=by
 refine(q.map (f:=M.fv ts t) (ain (w:=w) (v:=v) u p (fun _=>⟨z,l⟩)) ?_ ?_).mono (U':=U) (fun c hc=>hc.elim id (fun e=>e▸y));intro b l;simp only[Gh.fv]at l|-;split;exact .inr rfl;rename_i h;rw[a_ h]at l;exact .inl (q.colU b l);intro b;simp only[Gh.fv];by_cases h:G.col b∈ts;have:=(p _ h).1;simp only[h,if_true];omega;simp[h]
def aoZ(hC:CxTy P C)(hI:Inv w0 c0 U E a w G)(hR:RI ops E a.tmps)(hg:Gd ops a.tmps g){tk:Nat}{o:Oper}{t:TypeId}{x y:Operand}
 {gv:List Nat} {b:Nat} {e:Ty} {l':List e.den} {m:M} (ho:o.op= .store t x y) (h:kH C ops E.rd tk g o=some (.elem gv b e l' m)):
 ∃w' G',(execOp a.eval o).run P w= .ok .skip w'/\Inv w0 c0 U (E.elem gv b e l' m) a w' G':=by
 simp only[kH,ho]at h;split at h;split at h;split at h;obtain⟨r,_,h⟩:=aqx.mp h;cases h;cases h;cases h;rename_i ti j d i off p τ1 v1 o1 r0 hv;split at h;rename_i l hs nd s0;obtain⟨hc,h⟩:=Option.ite_none_right_eq_some.mp h;obtain⟨x1,h⟩:=Option.ite_none_left_eq_some.mp h;obtain⟨r,hr,h⟩:=aqx.mp h;simp only[Ef.elem.injEq]at h;obtain⟨y1,rfl,rfl,e0,hm⟩:=h;have e0:=eq_of_heq e0;subst e0;simp only[Q_,b_]at hc;obtain⟨⟨⟨z1,hc2⟩,A1⟩,h0⟩:=hc;obtain⟨h1,_⟩:=KM hI hR hg r0;obtain⟨z,of,n,cap,F,k2,k3,k4,k5⟩:=h1;obtain⟨⟨vh,c1⟩,q⟩:=hI.CT s0;obtain⟨⟨H,C1,j0⟩,D1,o0⟩:=Q9 hI hR hg hv;have u0:vh=G.hdr j:=c1.2.1.symm;have K:=x1;simp only[Bool.not_eq_true]at K;obtain⟨q1,q2,q3,B,Bv,hs',nd',hB,E1,F1,k1⟩:=ajP (τ:=τ1) (gv:=gv) (m:=m) c1 q j0 D1 o0 A1 _ rfl y1.symm hm.symm K;rw[u0,k2]at hB;rcases hB with⟨⟨ao,hB⟩,_⟩|⟨bk',of',cap',c,el,fz,Bs,Y,b0,u,hsz,rfl,hl⟩;cases hB;exfalso;have k4':i<((0:Nat):Int):=k4;have k3': @LE.le Int Int.instLEInt 0 i:=k3;omega;simp only[Value.slice.injEq,aoz,Addr.mk.injEq,and_true]at Y;obtain⟨⟨rfl,rfl⟩,rfl,rfl⟩:=Y;obtain⟨j1,j2,j3,j4⟩:=k1 z Bs rfl;obtain⟨c',l1,p0⟩:=hI.fresh z (by rw[j1];exact F);rw[p0]at u;simp only[aoz,Obj.cells.injEq]at u;obtain⟨rfl,rfl,rfl⟩:=u;have hi:i.toNat<l.length:=toNat_lt k3 k4
 have x0:l[i.toNat]?=some (l.getD i.toNat d.aa):=by
  rw[l9,aqu hi];rfl
 obtain⟨B1,Bx,B2,rfl,G1,J1,L1⟩:=fN.get (sz:=d.sz) (fun x c B h=>fl.len h) hl x0;obtain⟨Ba,Bo,Bb,rfl,n1,hle⟩:=fl.put hr G1 E1;have E0:=fN.set (sz:=d.sz) hi n1 J1 L1;have G0:H.length=v1.τ.sz:=kE.len j0;have hmul:(i.toNat+1)*d.sz<=l.length*d.sz:=aqD _ hi;have hmul2:l.length*d.sz<=cap*d.sz:=aqD _ b0;rw[aqS,aq4]at hmul;have hO:of+i.toNat*d.sz+off+H.length<=c'.size:=by rw[<-z1];omega
 have D:=NY z (el:=l1) H (of+i.toNat*d.sz+off) w c' p0 hO;have hT:=(hC.tt t ti o1).1;have L0:=XL (P:=P) (t:=t) (τ:=ti.τ) hT p0 (o:=of+i.toNat*d.sz+off) (cs:=H) (by rw[<-h0,<-G0];exact hO) (by rw[G0,h0]) (kE.one j0) k5;have hU:U j:=(q j (by simp)).2.1;have r1:G.bx j=false:=(q j (by simp)).2.2;have R0:=hI.amj (ts:=gv) (t:=j) (v:=G.hdr j) F q1 hU rfl r1;have u1:=R0.map (abt (w:=w) j) R0.colU (fun b=>⟨fun h=>h,fun _=>rfl,fun _=>rfl⟩);have N:(G.fv gv j (G.hdr j)).col z=j:=by simp[Gh.fv,j1,q2]
 have I:∀k,(G.fv gv j (G.hdr j)).col k≠j->(w.setCells z (of+i.toNat*d.sz+off) H).heap[k]?=w.heap[k]?:=fun k hk=>
  oU z _ _ w k (fun e=>hk (e▸N))
 have S:=j4 (B1++(Ba++Bv++Bb)++B2) ⟨B1++Ba,Bo,Bb++B2,by simp[aqC],by simp[aqC]⟩
 have W:z∉B1++(Ba++Bv++Bb)++B2:=by
  simp only[l8,not_or]at j2|-;exact⟨⟨j2.1.1,⟨j2.1.2.1.1,j3⟩,j2.1.2.2⟩,j2.2⟩
 have a1:qs (w.setCells z (of+i.toNat*d.sz+off) H) (G.fv gv j (G.hdr j)) d (l.set i.toNat r.1) ((G.fv gv j (G.hdr j)).hdr j) m:=by
  rw[F1];refine⟨F,rfl,z::(B1++(Ba++Bv++Bb)++B2),?_,?_⟩;refine .inr ⟨z,of,cap,_,l1,(0,0),B1++(Ba++Bv++Bb)++B2,by simp[Gh.fv,k2],by simpa using b0,D,by simp;omega,rfl,?_⟩
  have J:((wJ (of+i.toNat*d.sz+off) H c'.toList).drop of).take ((l.set i.toNat r.1).length*d.sz)=
   ((c'.toList.drop of).take (l.length*d.sz)).take (i.toNat*d.sz)++wJ (d.off p) H ((((c'.toList.drop of).take (l.length*d.sz)).drop (i.toNat*d.sz)).take d.sz)++((c'.toList.drop of).take (l.length*d.sz)).drop ((i.toNat+1)*d.sz):=by
   rw[ZR (by omega) (by simp;omega),Z6 (by simp;omega) (by simp;omega)];rw[show of+i.toNat*d.sz+off-of=i.toNat*d.sz+d.off p by omega];rw[XF (sz:=d.sz) hle];rw[aqS,aq4];simp
  show fN _ _ (((wJ (of+i.toNat*d.sz+off) H c'.toList).toArray.toList.drop of).take _) _;rw[aq5,J];exact fN.world (fun k hk=>oU z _ _ w k (fun e=>W (e▸hk))) E0;rintro h' Bs'' ⟨⟩;exact⟨N,W,S.1,S.2⟩
 have w1:=u1.setRow a1 (by simp[Gh.fv]) F I (fun s=> ?_) (fun c hc=> ?_) (fun k hk=> ?_) (by rw[Eu]) (qG _ _ _ w).1 (qG _ _ _ w).2.1 (qG _ _ _ w).2.2;refine⟨w.setCells z (of+i.toNat*d.sz+off) H,G.fv gv j (G.hdr j),?_,?_⟩;simp only[execOp,ho,C1,h0];simp[L0];simpa only[Env.elem,List.map_map,arl,SV.og,SV.fv]using w1;have:=getD_map (L:=E.s.map (SV.fv gv j)) (T:=SV.og j) rfl s;show SV.clear j ((List.map (SV.og j) (E.s.map (SV.fv gv j))).getD s .no);rw[this];exact SV.B9 j _;obtain⟨p1,p2,p3⟩:=q3 c hc;refine⟨p1,p2,?_⟩;simp only[Gh.fv];split;rfl;exact p3;by_cases e:k=z;subst e;exact⟨_,_,D⟩;rw[oU z _ _ w k e];refine hI.fresh k ?_;simp only[Gh.fv]at hk;split at hk;rename_i h;exact(q1 _ h).1;rw[hk];exact F;cases h;cases h
end
theorem abz:∀(p:Pt) (tk:Nat) (hs:List Nat),(fQ p tk hs).2=(fQ p tk []).2
 | .leaf,_,_| .own,_,_| .shr,_,_| .hd,_,_| .pv,_,_| .rom,_,_=>rfl
 | .pair a b,tk,hs=>by simp only[fQ];rw[abz a tk hs,abz b _ hs]
def rh(p:Pt)(tk:Nat)(hs:List Nat):(fQ p tk hs).2=eV p tk:=abz p tk hs
theorem mL:∀(p:Pt) (tk:Nat),tk<=eV p tk
 | .leaf,_| .shr,_| .rom,_=>r_ _
 | .own,_| .hd,_| .pv,_=>arI _
 | .pair a b,tk=>by
   have c:=mL a tk;have d:=mL b (eV a tk);exact aqM c d
def KO(a b:Pt)(tk:Nat):eV (.pair a b) tk=eV b (eV a tk):=rfl
theorem XM:∀(τ:Ty) (tk:Nat) (hs:List Nat),fQ (Yo τ) tk hs=(NU τ (.sha hs),tk)
 | .int _,_,_| .bool,_,_| .str,_,_| .sl _,_,_=>rfl
 | .pair a b,tk,hs=>by simp only[Yo,fQ,XM a,XM b,NU]
def afQ(τ:Ty)(tk:Nat):eV (Yo τ) tk=tk:=by rw[<-rh (Yo τ) tk [1],XM]
theorem UM:∀ {p:Pt} {tk:Nat} {hs:List Nat},∀c∈(fQ p tk hs).1.cO,c∈hs\/(tk<=c/\c<eV p tk)\/c=3
 | .leaf,tk,hs,c,h=>by simp[fQ,Sh.cO]at h
 | .rom,tk,hs,c,h=>by
   simp only[fQ,Sh.cO,M.cO,aqT]at h;exact .inr (.inr h)
 | .own,tk,hs,c,h=>by
   simp only[fQ,Sh.cO,M.cO,i_,aqB,or_false,or_self]at h;subst h;exact .inr (.inl ⟨r_ _,X_ _⟩)
 | .pv,tk,hs,c,h=>by
   simp only[fQ,Sh.cO,M.cO,i_,aqB,or_false,or_self]at h;subst h;exact .inr (.inl ⟨r_ _,X_ _⟩)
 | .hd,tk,hs,c,h=>by
   simp only[fQ,Sh.cO,M.cO,i_]at h;rcases h with rfl|rfl|h;exact .inr (.inl ⟨r_ _,X_ _⟩);exact .inr (.inl ⟨r_ _,X_ _⟩);exact .inl h
 | .shr,tk,hs,c,h=> .inl h
 | .pair a b,tk,hs,c,h=>by
   simp only[fQ,Sh.cO,l8]at h;have h1:=mL a tk;have h2:=mL b (eV a tk);rw[KO];rcases h with h|h;rcases UM c h with h|h;exact .inl h;right;omega;rw[rh]at h;rcases UM c h with h|h;exact .inl h;right;omega
theorem SR:∀ {p:Pt} {tk:Nat} {hs:List Nat},∀c∈(fQ p tk hs).1.cO,(c∈hs/\p.Xb=true)\/(tk<=c/\c<eV p tk)\/c=3
 | .leaf,tk,hs,c,h=>by simp[fQ,Sh.cO]at h
 | .rom,tk,hs,c,h=>by
   simp only[fQ,Sh.cO,M.cO,aqT]at h;exact .inr (.inr h)
 | .own,tk,hs,c,h=>by
   simp only[fQ,Sh.cO,M.cO,i_,aqB,or_false,or_self]at h;subst h;exact .inr (.inl ⟨r_ _,X_ _⟩)
 | .pv,tk,hs,c,h=>by
   simp only[fQ,Sh.cO,M.cO,i_,aqB,or_false,or_self]at h;subst h;exact .inr (.inl ⟨r_ _,X_ _⟩)
 | .hd,tk,hs,c,h=>by
   simp only[fQ,Sh.cO,M.cO,i_]at h;rcases h with rfl|rfl|h;exact .inr (.inl ⟨r_ _,X_ _⟩);exact .inr (.inl ⟨r_ _,X_ _⟩);exact .inl ⟨h,rfl⟩
 | .shr,tk,hs,c,h=> .inl ⟨h,rfl⟩
 | .pair a b,tk,hs,c,h=>by
   simp only[fQ,Sh.cO,l8]at h;have h1:=mL a tk;have h2:=mL b (eV a tk);rw[KO];simp only[Pt.Xb,ard];rcases h with h|h;rcases SR c h with h|h;exact .inl ⟨h.1,.inl h.2⟩;right;omega;rw[rh]at h;rcases SR c h with h|h;exact .inl ⟨h.1,.inr h.2⟩;right;omega
section
variable{P:Program}{C:Cx}{w0:World}{c0:C0}{U:Nat->Prop}{E:Env}{a:Act}{w:World}{G:Gh}{ops:List Oper}{g:Option (Nat×Bool)}
theorem Tg{sm:Nat->Nat}{hs:List Nat}:∀ {p:Pt} {τ:Ty} {x:τ.den} {sh:Sh} {cs:List Value} {tk:Nat},PZ p sh=true->kE w G τ x sh cs->4<=tk->(∀c∈sh.cO,sm c∈hs)->hs≠ []->
 ∃H:Nat->Value,∀d:Gh,(∀c k,(c,k)∈DN sm p sh tk->∀b,G.col b=c->d.col b=k)->(∀u,tk<=u->u<eV p tk->d.hdr u=H u)->kE w d τ x (fQ p tk hs).1 cs
 | .leaf,.int _,x,.leaf,cs,tk,_,h,_,_,_=>⟨fun _=>undef,fun _ _ _=>h⟩
 | .leaf,.bool,x,.leaf,cs,tk,_,h,_,_,_=>⟨fun _=>undef,fun _ _ _=>h⟩
 | .leaf,.str,x,.leaf,cs,tk,_,h,_,_,_=>⟨fun _=>undef,fun _ _ _=>h⟩
 | .own,.sl e,l,.sl m,cs,tk,hf,h,h3,_,_=>by
   obtain⟨v,rfl,s⟩:=h;simp only[PZ,arq]at hf;obtain⟨ts,K⟩:=hf;obtain⟨B,r,W,hc⟩:=s.own K;refine⟨fun _=>v,fun d i j=>⟨v,rfl,h3,j tk (r_ _) (X_ _),B,r,?_⟩⟩;have J:∀b∈B,d.col b=tk:=fun b z=>i (G.col b) tk (by simp only[DN,K,aqG,aqv];exact⟨_,hc b z,rfl⟩) b rfl;rintro b F rfl;rw[aqP]at W;exact⟨J b (by simp),W.1,fun x I=>by simp[J x (by simp[I])],fun _=>W.2⟩
 | .shr,.sl e,l,.sl m,cs,tk,hf,h,h3,hsm,hne=>by
   obtain⟨v,rfl,s⟩:=h;simp only[PZ,ne_eq,decide_not,aqA,d_]at hf;obtain⟨B,r,hc⟩:=s.rep hf;refine⟨fun _=>v,fun d i j=>⟨v,rfl,⟨B,r,fun b z=> ?_⟩,fun e=>absurd e hne⟩⟩;rw[i (G.col b) (sm (G.col b)) (by simp only[DN,aqv];exact⟨_,hc b z,rfl⟩) b rfl];exact hsm _ (hc b z)
 | .rom,.sl e,l,.sl m,cs,tk,hf,h,h3,_,_=>by
   obtain⟨v,rfl,s⟩:=h;simp only[PZ,ne_eq,decide_not,Q_,aqA,d_,aqt,b_]at hf;obtain⟨B,r,hc⟩:=s.rep hf.1;refine⟨fun _=>v,fun d i j=>⟨v,rfl,⟨B,r,fun b z=> ?_⟩,fun e=>absurd e (by simp)⟩⟩;have e3:=hf.2 _ (hc b z);rw[i 3 3 (by simp only[DN,aqv,aqJ,b_];exact⟨3,⟨e3▸hc b z,rfl⟩,rfl⟩) b e3];simp
 | .pv,.sl e,l,.sl m,cs,tk,hf,h,h3,_,_=>by
   obtain⟨v,rfl,s⟩:=h;simp only[PZ,arq]at hf;obtain⟨ts,K⟩:=hf;rcases M.aiK K with⟨t,N,nd,rfl,S,Y⟩|⟨rfl,rfl⟩;obtain⟨_,_,B,r,hc⟩:=s;refine⟨fun _=>v,fun d i j=>⟨v,rfl,h3,j tk (r_ _) (X_ _),B,r,?_⟩⟩;rintro b F rfl;obtain⟨q1,q2,q3,_⟩:=hc b F rfl;have J:∀c,c=t\/c∈N->∀b,G.col b=c->d.col b=tk:=fun c hc=>i c tk (by simp only[DN,K,aqG,aqv];exact⟨c,(Y c).2 hc,rfl⟩);exact⟨J t (.inl rfl) b q1,q2,fun x I=>by simp[J _ (.inr (q3 x I)) x rfl],by simp⟩;obtain⟨_,B,r,rfl⟩:=s.nil;exact⟨fun _=>v,fun d i j=>⟨v,rfl,h3,j tk (r_ _) (X_ _),[],r,by rintro b F ⟨⟩⟩⟩
 | .hd,.sl e,l,.sl (.row t N nd),cs,tk,hf,h,h3,hsm,hne=>by
   obtain⟨v,rfl,_,_,B,r,hc⟩:=h;refine⟨fun _=>v,fun d i j=>⟨v,rfl,h3,j tk (r_ _) (X_ _),B,r,?_⟩⟩;rintro b F rfl;obtain⟨q1,q2,q3,_⟩:=hc b F rfl;refine⟨i t tk (by simp[DN]) b q1,q2,fun x I=> ?_,by simp⟩;by_cases e:G.col x=t;rw[i t tk (by simp[DN]) x e];simp;rw[i (G.col x) (sm (G.col x)) (by simp only[DN,i_,aqv,aqJ];exact .inr ⟨_,⟨q3 x I,by simpa using e⟩,rfl⟩) x rfl];exact aqm _ (hsm _ (by simp[Sh.cO,M.cO,q3 x I]))
 | .hd,.sl e,l,.sl (.sha []),cs,tk,hf,h,h3,hsm,hne=>by
   obtain⟨v,rfl,s⟩:=h;obtain⟨_,B,r,rfl⟩:=qs.nil s;exact⟨fun _=>v,fun d i j=>⟨v,rfl,h3,j tk (r_ _) (X_ _),[],r,by rintro b F ⟨⟩⟩⟩
 | .pair p q,.pair a b,x,.pair s1 s2,cs,tk,hf,h,h3,hsm,hne=>by
   obtain⟨c1,c2,rfl,i,j⟩:=h;simp only[PZ,Q_]at hf;have S:=mL p tk;obtain⟨H1,k1⟩:=Tg hf.1 i h3 (fun c hc=>hsm c (by simp[Sh.cO,hc])) hne;obtain⟨H2,k2⟩:=Tg (tk:=eV p tk) hf.2 j (by omega) (fun c hc=>hsm c (by simp[Sh.cO,hc])) hne;refine⟨fun u=>if u<eV p tk then H1 u else H2 u,fun d g1 g2=>⟨c1,c2,rfl,?_,?_⟩⟩;refine k1 d (fun c k D=>g1 c k (by simp only[DN,l8];exact .inl D)) (fun u hu y=> ?_);exact(g2 u hu (by rw[KO];exact arh y (mL _ _))).trans (an y);rw[rh];refine k2 d (fun c k D=>g1 c k (by simp only[DN,l8];exact .inr D)) (fun u hu y=> ?_);exact(g2 u (by omega) (by rw[KO];exact y)).trans (a_ (by omega))
 | .hd,_,_,.sl (.sha (_::_)),_,_,hf,_,_,_,_| .hd,_,_,.sl .dead,_,_,hf,_,_,_,_| .hd,_,_,.leaf,_,_,hf,_,_,_,_| .hd,_,_,.pair _ _,_,_,hf,_,_,_,_
 | .pv,_,_,.leaf,_,_,hf,_,_,_,_| .pv,_,_,.pair _ _,_,_,hf,_,_,_,_| .rom,_,_,.leaf,_,_,hf,_,_,_,_| .rom,_,_,.pair _ _,_,_,hf,_,_,_,_
 | .leaf,_,_,.sl _,_,_,hf,_,_,_,_| .leaf,_,_,.pair _ _,_,_,hf,_,_,_,_| .own,_,_,.leaf,_,_,hf,_,_,_,_| .own,_,_,.pair _ _,_,_,hf,_,_,_,_
 | .shr,_,_,.leaf,_,_,hf,_,_,_,_| .shr,_,_,.pair _ _,_,_,hf,_,_,_,_| .pair _ _,_,_,.leaf,_,_,hf,_,_,_,_| .pair _ _,_,_,.sl _,_,_,hf,_,_,_,_=>by simp[PZ]at hf
 | .hd,.int _,_,.sl (.row _ _ _),_,_,_,h,_,_,_| .hd,.bool,_,.sl (.row _ _ _),_,_,_,h,_,_,_| .hd,.str,_,.sl (.row _ _ _),_,_,_,h,_,_,_| .hd,.pair _ _,_,.sl (.row _ _ _),_,_,_,h,_,_,_
 | .hd,.int _,_,.sl (.sha []),_,_,_,h,_,_,_| .hd,.bool,_,.sl (.sha []),_,_,_,h,_,_,_| .hd,.str,_,.sl (.sha []),_,_,_,h,_,_,_| .hd,.pair _ _,_,.sl (.sha []),_,_,_,h,_,_,_
 | .rom,.int _,_,.sl _,_,_,_,h,_,_,_| .rom,.bool,_,.sl _,_,_,_,h,_,_,_| .rom,.str,_,.sl _,_,_,_,h,_,_,_| .rom,.pair _ _,_,.sl _,_,_,_,h,_,_,_
 | .pv,.int _,_,.sl _,_,_,_,h,_,_,_| .pv,.bool,_,.sl _,_,_,_,h,_,_,_| .pv,.str,_,.sl _,_,_,_,h,_,_,_| .pv,.pair _ _,_,.sl _,_,_,_,h,_,_,_
 | .leaf,.sl _,_,.leaf,_,_,_,h,_,_,_| .leaf,.pair _ _,_,.leaf,_,_,_,h,_,_,_| .own,.int _,_,.sl _,_,_,_,h,_,_,_| .own,.bool,_,.sl _,_,_,_,h,_,_,_| .own,.str,_,.sl _,_,_,_,h,_,_,_| .own,.pair _ _,_,.sl _,_,_,_,h,_,_,_
 | .shr,.int _,_,.sl _,_,_,_,h,_,_,_| .shr,.bool,_,.sl _,_,_,_,h,_,_,_| .shr,.str,_,.sl _,_,_,_,h,_,_,_| .shr,.pair _ _,_,.sl _,_,_,_,h,_,_,_
 | .pair _ _,.int _,_,.pair _ _,_,_,_,h,_,_,_| .pair _ _,.bool,_,.pair _ _,_,_,_,h,_,_,_| .pair _ _,.str,_,.pair _ _,_,_,_,h,_,_,_| .pair _ _,.sl _,_,.pair _ _,_,_,_,h,_,_,_=>h.elim
theorem afb{s G2:Gh}{hs hs':List Nat}:∀ {p:Pt} {τ:Ty} {x:τ.den} {cs:List Value} {k k':Nat},kE w s τ x (fQ p k hs).1 cs->4<=k'->
 (∀u,k<=u->u<eV p k->G2.hdr (k'+(u-k))=s.hdr u/\∀b,s.col b=u->G2.col b=k'+(u-k))->(∀b,s.col b∈hs->G2.col b∈hs')->(∀b,s.col b=3->G2.col b=3)->hs'≠ []->
 kE w G2 τ x (fQ p k' hs').1 cs/\eV p k'-k'=eV p k-k
 | .leaf,.int _,x,cs,k,k',h,_,_,_,_,_=>⟨h,by simp[eV,fQ]⟩
 | .leaf,.bool,x,cs,k,k',h,_,_,_,_,_=>⟨h,by simp[eV,fQ]⟩
 | .leaf,.str,x,cs,k,k',h,_,_,_,_,_=>⟨h,by simp[eV,fQ]⟩
 | .rom,.sl e,l,cs,k,k',h,_,_,_,hrom,_=>by
   obtain⟨v,rfl,⟨B,i,hc⟩,_⟩:=h;exact⟨⟨v,rfl,⟨B,i,fun b d=>by simp[hrom b (by simpa using hc b d)]⟩,fun e=>absurd e (by simp)⟩,by simp[eV,fQ]⟩
 | .own,.sl e,l,cs,k,k',h,h3,hk,_,_,_=>by
   obtain⟨v,rfl,D,t,B,i,hc⟩:=h;obtain⟨j,c⟩:=hk k (r_ _) (X_ _);simp only[ars,art]at j c;refine⟨⟨v,rfl,h3,j.trans t,B,i,fun b m d=> ?_⟩,by simp[eV,fQ]⟩;obtain⟨q1,q2,q3,q4⟩:=hc b m d;exact⟨c b q1,q2,fun x r=>by simp[c x (by simpa using q3 x r)],q4⟩
 | .pv,.sl e,l,cs,k,k',h,h3,hk,_,_,_=>by
   obtain⟨v,rfl,D,t,B,i,hc⟩:=h;obtain⟨j,c⟩:=hk k (r_ _) (X_ _);simp only[ars,art]at j c;refine⟨⟨v,rfl,h3,j.trans t,B,i,fun b m d=> ?_⟩,by simp[eV,fQ]⟩;obtain⟨q1,q2,q3,q4⟩:=hc b m d;exact⟨c b q1,q2,fun x r=>by simp[c x (by simpa using q3 x r)],q4⟩
 | .hd,.sl e,l,cs,k,k',h,h3,hk,hh,_,hne=>by
   obtain⟨v,rfl,D,t,B,i,hc⟩:=h;obtain⟨j,c⟩:=hk k (r_ _) (X_ _);simp only[ars,art]at j c;refine⟨⟨v,rfl,h3,j.trans t,B,i,fun b m d=> ?_⟩,by simp[eV,fQ]⟩;obtain⟨q1,q2,q3,q4⟩:=hc b m d;refine⟨c b q1,q2,fun x r=> ?_,q4⟩;rcases i_.1 (q3 x r)with h|h;rw[c x h];simp;exact aqm _ (hh x h)
 | .shr,.sl e,l,cs,k,k',h,_,_,hh,_,hne=>by
   obtain⟨v,rfl,⟨B,i,hc⟩,_⟩:=h;exact⟨⟨v,rfl,⟨B,i,fun b d=>hh b (hc b d)⟩,fun e=>absurd e hne⟩,by simp[eV,fQ]⟩
 | .pair p q,.pair a b,x,cs,k,k',h,h3,hk,hh,hrom,hne=>by
   obtain⟨H,I,rfl,J,F⟩:=h;have n1:=mL p k;have n2:=mL q (eV p k);have n3:=mL p k';rw[rh]at F;obtain⟨K,d1⟩:=afb J h3 (fun u z y=>hk u z (by rw[KO];omega)) hh hrom hne
   obtain⟨N,d2⟩:=afb (k':=eV p k') F (by omega) (fun u z y=>by
    have:=hk u (by omega) (by rw[KO];omega);rw[show eV p k'+(u-eV p k)=k'+(u-k) by omega];exact this) hh hrom hne
   refine⟨⟨H,I,rfl,K,?_⟩,?_⟩;rw[rh];exact N;rw[KO,KO];have:=mL q (eV p k');omega
 | .hd,.int _,_,_,_,_,h,_,_,_,_,_| .hd,.bool,_,_,_,_,h,_,_,_,_,_| .hd,.str,_,_,_,_,h,_,_,_,_,_| .hd,.pair _ _,_,_,_,_,h,_,_,_,_,_
 | .rom,.int _,_,_,_,_,h,_,_,_,_,_| .rom,.bool,_,_,_,_,h,_,_,_,_,_| .rom,.str,_,_,_,_,h,_,_,_,_,_| .rom,.pair _ _,_,_,_,_,h,_,_,_,_,_
 | .pv,.int _,_,_,_,_,h,_,_,_,_,_| .pv,.bool,_,_,_,_,h,_,_,_,_,_| .pv,.str,_,_,_,_,h,_,_,_,_,_| .pv,.pair _ _,_,_,_,_,h,_,_,_,_,_
 | .leaf,.sl _,_,_,_,_,h,_,_,_,_,_| .leaf,.pair _ _,_,_,_,_,h,_,_,_,_,_| .own,.int _,_,_,_,_,h,_,_,_,_,_| .own,.bool,_,_,_,_,h,_,_,_,_,_| .own,.str,_,_,_,_,h,_,_,_,_,_| .own,.pair _ _,_,_,_,_,h,_,_,_,_,_
 | .shr,.int _,_,_,_,_,h,_,_,_,_,_| .shr,.bool,_,_,_,_,h,_,_,_,_,_| .shr,.str,_,_,_,_,h,_,_,_,_,_| .shr,.pair _ _,_,_,_,_,h,_,_,_,_,_
 | .pair _ _,.int _,_,_,_,_,h,_,_,_,_,_| .pair _ _,.bool,_,_,_,_,h,_,_,_,_,_| .pair _ _,.str,_,_,_,_,h,_,_,_,_,_| .pair _ _,.sl _,_,_,_,_,h,_,_,_,_,_=>h.elim
end
theorem Nl:∀(ps:List PK) (tk:Nat),tk<=qa ps tk
 | [],_=>r_ _
 | .val _ p::ps,tk=>aqM (mL p tk) (Nl ps _)
 | .io _ p::ps,tk=>aqM (aqM (arI _) (mL p (tk+1))) (Nl ps _)
 | .rd _::ps,tk| .vx _ _::ps,tk=>Nl ps tk
theorem Xo:∀(ps:List PK) (x:iF (ps.map PK.ty)) (tk:Nat),(ql ps x tk).2=qa ps tk
 | [],_,_=>rfl
 | .val _ p::ps,x,tk=>by simp only[ql,qa];rw[rh];exact Xo ps x.2 _
 | .io _ p::ps,x,tk=>by simp only[ql,qa];rw[rh];exact Xo ps x.2 _
 | .rd _::ps,x,tk| .vx _ _::ps,x,tk=>by simp only[ql,qa];exact Xo ps x.2 _
theorem Wl:∀(ps:List PK) (x:iF (ps.map PK.ty)) (tk:Nat),(ql ps x tk).1.length=ps.length
 | [],_,_=>rfl
 | .val _ p::ps,x,tk=>by simp only[ql,aru];rw[Wl ps x.2]
 | .io _ p::ps,x,tk=>by simp only[ql,aru];rw[Wl ps x.2]
 | .rd _::ps,x,tk| .vx _ _::ps,x,tk=>by simp only[ql,aru];rw[Wl ps x.2]
theorem BP:∀ {ps:List PK} {tk:Nat},∀c∈sr ps tk,tk<=c/\c<qa ps tk
 | [],_,c,h=>by simp[sr]at h
 | .val _ p::ps,tk,c,h=>by
   have:=BP (ps:=ps) (tk:=eV p tk) c h;have b:=mL p tk;exact⟨by omega,this.2⟩
 | .io _ p::ps,tk,c,h=>by
   have b:=mL p (tk+1);have h2:=Nl ps (eV p (tk+1));simp only[sr,i_]at h;simp only[qa];rcases h with rfl|h;omega;have:=BP (ps:=ps) (tk:=eV p (tk+1)) c h;omega
 | .rd _::ps,tk,c,h| .vx _ _::ps,tk,c,h=>BP (ps:=ps) (tk:=tk) c h
theorem SG:∀ {ps:List PK} {x:iF (ps.map PK.ty)} {tk:Nat},∀sv∈(ql ps x tk).1,
 (∀c∈sv.sc,(c=1\/c=3)\/(tk<=c/\c<qa ps tk/\c∉sr ps tk)\/c∈vxs ps)/\(∀c∈sv.bt,c∈sr ps tk)/\sv.rt=[]
 | .val τ p::ps,x,tk,sv,h=>by
   have q:=mL p tk;have r:=Nl ps (eV p tk);simp only[ql,i_]at h;rcases h with rfl|h
   ·refine⟨fun c hc=> ?_,by simp[SV.bt],rfl⟩;rcases UM c hc with h|h|h
    ·left;left;simpa using h
    rotate_left
    ·left;right;exact h
    ·right;left;simp only[qa,sr];exact⟨h.1,by omega,fun b=>by have:=BP (ps:=ps) (tk:=eV p tk) c b;omega⟩
   ·rw[rh]at h;obtain⟨d,i,j⟩:=SG sv h;refine⟨fun c hc=> ?_,i,j⟩;rcases d c hc with h|⟨s,k,m⟩|h
    ·exact .inl h
    ·exact .inr (.inl ⟨by omega,k,m⟩)
    ·exact .inr (.inr h)
 | .io τ p::ps,x,tk,sv,h=>by
   have q:=mL p (tk+1);have r:=Nl ps (eV p (tk+1));simp only[ql,i_]at h;rcases h with rfl|h
   ·refine⟨fun c hc=> ?_,by simp[SV.bt,sr],rfl⟩;rcases UM c hc with h|h|h
    ·left;left;simpa using h
    rotate_left
    ·left;right;exact h
    ·right;left;simp only[qa,sr,i_,not_or];exact⟨by omega,by omega,by omega,fun b=>by have:=BP (ps:=ps) (tk:=eV p (tk+1)) c b;omega⟩
   ·rw[rh]at h;obtain⟨d,i,j⟩:=SG sv h;refine⟨fun c hc=> ?_,fun c hc=>by simp[sr,i c hc],j⟩;rcases d c hc with h|⟨s,k,m⟩|h
    ·exact .inl h
    ·refine .inr (.inl ⟨by omega,k,?_⟩);simp only[sr,i_,not_or];exact⟨by omega,m⟩
    ·exact .inr (.inr h)
 | .rd τ::ps,x,tk,sv,h=>by
   simp only[ql,i_]at h;rcases h with rfl|h
   ·refine⟨fun c hc=> ?_,by simp[SV.bt],rfl⟩;simp only[SV.sc,l8]at hc;rcases hc with hc|hc
    ·left;left;simpa using hc
    ·rw[XM]at hc;left;left;simpa[M.cO]using U6 _ _ c hc
   ·obtain⟨d,i,j⟩:=SG sv h;exact⟨d,i,j⟩
 | .vx e l::ps,x,tk,sv,h=>by
   simp only[ql,i_]at h;rcases h with rfl|h
   ·refine⟨fun c hc=> ?_,by simp[SV.bt],rfl⟩;simp only[SV.sc,Sh.cO,M.cO,i_]at hc;rcases hc with hc|hc
    ·exact .inl (.inl hc)
    ·exact .inr (.inr (by simp[vxs,hc]))
   ·obtain⟨d,i,j⟩:=SG sv h;exact⟨fun c hc=>(d c hc).imp id (Or.imp id fun h=>by simp[vxs,h]),i,j⟩
theorem Xk:∀ {ps:List PK} {x:iF (ps.map PK.ty)} {tk:Nat} {i j t:Nat} {v b:TV},
 (ql ps x tk).1.getD i .no= .box t v->(ql ps x tk).1.getD j .no= .box t b->i=j
 | [],_,_,_,_,_,_,_,h,_=>by simp[ql]at h
 | .val τ p::ps,x,tk,i,j,t,v,b,h,h'=>by
   simp only[ql]at h h';cases i with
   |zero=>simp at h
   |succ i=>
    cases j with
    |zero=>simp at h'
    |succ j=>
     simp only[aqw]at h h';rw[Xk h h']
 | .io τ p::ps,x,tk,i,j,t,v,b,h,h'=>by
   have n1:=mL p (tk+1)
   have key:∀ {n:Nat} {u:TV},(ql ps x.2 (eV p (tk+1))).1.getD n .no≠ .box tk u:=by
    intro n u e
    have c:SV.box tk u∈(ql ps x.2 (eV p (tk+1))).1:=by
     rw[l9]at e;cases d:(ql ps x.2 (eV p (tk+1))).1[n]? with
     |none=>rw[d]at e;simp at e
     |some z=>rw[d]at e;simp at e;rw[<-e];exact aqO d
    have:=BP tk ((SG _ c).2.1 tk (by simp[SV.bt]));omega
   simp only[ql]at h h';rw[rh]at h h';cases i with
   |zero=>
    cases j with
    |zero=>rfl
    |succ j=>
     simp only[aqs,SV.box.injEq]at h;simp only[aqw]at h';rw[<-h.1]at h';exact absurd h' key
   |succ i=>
    cases j with
    |zero=>
     simp only[aqs,SV.box.injEq]at h';simp only[aqw]at h;rw[<-h'.1]at h;exact absurd h key
    |succ j=>
     simp only[aqw]at h h';rw[Xk h h']
 | .rd τ::ps,x,tk,i,j,t,v,b,h,h'=>by
   simp only[ql]at h h';cases i with
   |zero=>simp at h
   |succ i=>
    cases j with
    |zero=>simp at h'
    |succ j=>
     simp only[aqw]at h h';rw[Xk h h']
 | .vx e l::ps,x,tk,i,j,t,v,b,h,h'=>by
   simp only[ql]at h h';cases i with
   |zero=>simp at h
   |succ i=>
    cases j with
    |zero=>simp at h'
    |succ j=>
     simp only[aqw]at h h';rw[Xk h h']
structure Lot(w:World)(G:Gh)(L:List SV)(vs:List Value)(nt:Nat):Prop where
 len:vs.length=L.length
 slots:∀i,rn w G (L.getD i .no) (vs.getD i undef)
 Xe:∀i,lg (fun u=>u<nt) G (L.getD i .no)
 uni:∀i j t v v',L.getD i .no= .box t v->L.getD j .no= .box t v'->i=j
 colU:∀b,0<G.col b->G.col b<nt/\b<w.heap.size
 fresh:∀b,4<=G.col b->∃c el,w.heap[b]?=some (.cells c el (0,0))
 two:G.bx 2=false/\G.bx 3=false
 ent:∀b,G.col b≠2
section
variable{P:Program}{C:Cx}{w0:World}{c0:C0}{U:Nat->Prop}{E:Env}{a:Act}{w:World}{G:Gh}{ops:List Oper}{g:Option (Nat×Bool)}
theorem SE{sm:Nat->Nat}:∀ {p:Pt} {τ:Ty} {x:τ.den} {sh:Sh} {cs:List Value} {tk:Nat},kE w G τ x sh cs->∀c k,(c,k)∈DN sm p sh tk->
 c∈sh.cO/\((k=sm c/\c∈ago p sh)\/(4<=c/\tk<=k/\k<eV p tk)\/(c=3/\k=3))
 | .leaf,_,_,_,_,_,_,c,k,d=>by simp[DN]at d
 | .own,.sl e,l,.sl m,cs,tk,h,c,k,d=>by
   simp only[DN,aqv,apc]at d;obtain⟨s,hc,rfl,rfl⟩:=d;cases i:m.own with
   |none=>rw[i]at hc;simp at hc
   |some I=>
    rw[i]at hc;have j:=Sh.S1 (sh:= .sl m) h i _ hc;exact⟨M.Ra i _ hc,.inr (.inl ⟨j,r_ _,X_ _⟩)⟩
 | .shr,.sl e,l,.sl m,cs,tk,h,c,k,d=>by
   simp only[DN,aqv,apc]at d;obtain⟨s,hc,rfl,rfl⟩:=d;exact⟨hc,.inl ⟨rfl,hc⟩⟩
 | .rom,_,_,.sl m,cs,tk,h,c,k,d=>by
   simp only[DN,aqv,aqJ,apc,b_]at d;obtain⟨s,⟨hc,rfl⟩,rfl,rfl⟩:=d;exact⟨hc,.inr (.inr ⟨rfl,rfl⟩)⟩
 | .pv,.sl e,l,.sl m,cs,tk,h,c,k,d=>by
   simp only[DN,aqv,apc]at d;obtain⟨s,hc,rfl,rfl⟩:=d;cases i:m.acx with
   |none=>rw[i]at hc;simp at hc
   |some I=>
    rw[i]at hc;simp only[aqG]at hc;rcases M.aiK i with⟨t,u,D,rfl,v,y⟩|⟨rfl,rfl⟩;obtain⟨_,_,j,_⟩:=h;rcases(y _).1 hc with rfl|hc;exact⟨by simp[Sh.cO,M.cO],.inr (.inl ⟨j,r_ _,X_ _⟩)⟩;exact⟨by simp[Sh.cO,M.cO,hc],.inr (.inl ⟨v _ hc,r_ _,X_ _⟩)⟩;cases hc
 | .hd,.sl e,l,.sl (.row t u D),cs,tk,h,c,k,d=>by
   obtain⟨_,_,j,_⟩:=h;simp only[DN,i_,apc,aqv,aqJ]at d;rcases d with⟨rfl,rfl⟩|⟨s,⟨hc,_⟩,rfl,rfl⟩;exact⟨by simp[Sh.cO,M.cO],.inr (.inl ⟨j,r_ _,X_ _⟩)⟩;exact⟨by simp[Sh.cO,M.cO,hc],.inl ⟨rfl,hc⟩⟩
 | .pair p q,.pair a b,x,.pair s1 s2,cs,tk,h,c,k,d=>by
   obtain⟨c1,c2,rfl,F,H⟩:=h;have n1:=mL p tk;have n2:=mL q (eV p tk);simp only[DN,l8]at d;rw[KO];rcases d with d|d;obtain⟨z,B⟩:=SE F c k d;exact⟨by simp[Sh.cO,z],B.imp (fun h=>⟨h.1,aq3 _ h.2⟩) (fun r=>r.imp (fun⟨q1,q2,q3⟩=>⟨q1,q2,by omega⟩) id)⟩;obtain⟨z,B⟩:=SE H c k d;exact⟨by simp[Sh.cO,z],B.imp (fun h=>⟨h.1,aqy _ h.2⟩) (fun r=>r.imp (fun⟨q1,q2,q3⟩=>⟨q1,by have:(fQ p tk []).2=eV p tk:=rfl;omega,q3⟩) id)⟩
 | .rom,_,_,.leaf,_,_,_,c,k,d| .rom,_,_,.pair _ _,_,_,_,c,k,d
 | .pv,_,_,.leaf,_,_,_,c,k,d| .pv,_,_,.pair _ _,_,_,_,c,k,d| .hd,_,_,.leaf,_,_,_,c,k,d| .hd,_,_,.pair _ _,_,_,_,c,k,d| .hd,_,_,.sl (.sha _),_,_,_,c,k,d| .hd,_,_,.sl .dead,_,_,_,c,k,d
 | .own,_,_,.leaf,_,_,_,c,k,d| .own,_,_,.pair _ _,_,_,_,c,k,d| .shr,_,_,.leaf,_,_,_,c,k,d| .shr,_,_,.pair _ _,_,_,_,c,k,d
 | .pair _ _,_,_,.leaf,_,_,_,c,k,d| .pair _ _,_,_,.sl _,_,_,_,c,k,d=>by simp[DN]at d
 | .pv,.int _,_,.sl _,_,_,h,_,_,_| .pv,.bool,_,.sl _,_,_,h,_,_,_| .pv,.str,_,.sl _,_,_,h,_,_,_| .pv,.pair _ _,_,.sl _,_,_,h,_,_,_
 | .hd,.int _,_,.sl (.row _ _ _),_,_,h,_,_,_| .hd,.bool,_,.sl (.row _ _ _),_,_,h,_,_,_| .hd,.str,_,.sl (.row _ _ _),_,_,h,_,_,_| .hd,.pair _ _,_,.sl (.row _ _ _),_,_,h,_,_,_
 | .own,.int _,_,.sl _,_,_,h,_,_,_| .own,.bool,_,.sl _,_,_,h,_,_,_| .own,.str,_,.sl _,_,_,h,_,_,_| .own,.pair _ _,_,.sl _,_,_,h,_,_,_
 | .shr,.int _,_,.sl _,_,_,h,_,_,_| .shr,.bool,_,.sl _,_,_,h,_,_,_| .shr,.str,_,.sl _,_,_,h,_,_,_| .shr,.pair _ _,_,.sl _,_,_,h,_,_,_
 | .pair _ _,.int _,_,.pair _ _,_,_,h,_,_,_| .pair _ _,.bool,_,.pair _ _,_,_,h,_,_,_| .pair _ _,.str,_,.pair _ _,_,_,h,_,_,_| .pair _ _,.sl _,_,.pair _ _,_,_,h,_,_,_=>h.elim
def YZ(e:Inv w0 c0 U E a w G){sv:SV}{mv:Value}{t s:Nat}{v:TV}(h:Vk E.rd sv=some (t,s,v))(hs:rn w G sv mv):
 E.s.getD s .no= .box t v/\∃b c el,mv= .pointer (some ⟨b,0,none⟩)/\G.hdr t=mv/\4<=t/\G.col b=t/\w.heap[b]?=some (.cells c el (0,0))/\kE w G v.τ v.x v.sh c.toList/\
  (∀c∈v.sh.cO,Good U G c)/\U t/\G.bx t=true:=by
 unfold Vk at h;split at h;rename_i m τ;rw[aqx]at h;obtain⟨r,p,h⟩:=h;simp only[apc]at h;obtain⟨rfl,rfl,rfl⟩:=h;obtain⟨j,b,c,el,k,q,u,y,z,B⟩:=e.box p;obtain⟨bk',_,d,l⟩:=hs;rw[k]at d;simp only[Value.pointer.injEq,aoz,Addr.mk.injEq,and_true]at d;subst d;have i:=e.bt r.1 m (by rw[j];simp[SV.bt]);exact⟨j,b,c,el,l,k.trans l.symm,q,u,y,z,B,i.2.1,i.2.2⟩;cases h
def apy(r0:List (Nat×Nat))(l:List Nat)(c:Nat):vxC r0 l c∈1::l:=by
 unfold vxC;split;split;rename_i h;simp only[W',b_]at h;exact aqm _ h;simp;simp
theorem aeM:∀ {l:List (Nat×Nat)} {a b:Nat},l.lookup a=some b->(a,b)∈l
 |(x,y)::l,a,b,h=>by
  simp only[arJ]at h;split at h;rename_i e;simp only[beq_iff_eq]at e;cases h;simp[e];exact aqm _ (aeM h)
def apI(r0:List (Nat×Nat))(l:List Nat)(c:Nat):vxC r0 l c=1\/((c,vxC r0 l c)∈r0/\vxC r0 l c∈l):=by
 unfold vxC;split;rename_i k b;split;rename_i h;simp only[W',b_]at h;exact .inr ⟨aeM b,h⟩;exact .inl rfl;exact .inl rfl
def ajw(U:Nat->Prop)(G:Gh)(ps:List PK)(tk:Nat)(bs:List (Nat×Nat))(c k:Nat):Prop:=
 (k=1/\0<c/\U c/\(G.bx c=false\/afO ps=true))\/(tk<=k/\k<qa ps tk/\4<=c/\((Good U G c/\k∉sr ps tk)\/(k∈sr ps tk/\U c/\G.bx c=true/\∃s,(c,s)∈bs)))\/(c=3/\k=3)
theorem Wt(hI:Inv w0 c0 U E a w G):∀ {ps:List PK} {as:List SV} {vals:List Value} {tk:Nat} {r0:List (Nat×Nat)} {xs:iF (ps.map PK.ty)} {B bs:List (Nat×Nat)},
 nP E.rd ps as tk r0=some (xs,B,bs)->(∀i,rn w G (as.getD i .no) (vals.getD i undef)/\lg U G (as.getD i .no))->4<=tk->
 as.length=ps.length/\
 (∃H:Nat->Value,∀D:Gh,(∀c k,(c,k)∈B->∀b,G.col b=c->D.col b=k)->(∀u,tk<=u->u<qa ps tk->D.hdr u=H u)->
  ∀i,rn w D ((ql ps xs tk).1.getD i .no) (vals.getD i undef))/\
 (∀c k,(c,k)∈B->ajw U G ps tk bs c k\/((c,k)∈r0/\k≠1))
 | [],[],vals,tk,r0,xs,B,bs,h,hs,h3=>by
   simp only[nP,aoz]at h;obtain⟨rfl,rfl,rfl⟩:=h;exact⟨rfl,⟨fun _=>undef,fun D _ _ i=>by simp[ql,rn]⟩,by simp⟩
 | .val τ p::ps,.d v::as,vals,tk,r0,xs,B,bs,h,hs,h3=>by
   simp only[nP]at h;split at h
   ·rename_i x h0 J b0 hx hg;split at h
    ·rename_i K;simp only[aoz,apc]at h;obtain⟨rfl,rfl,rfl⟩:=h;have n1:=mL p tk;have n2:=Nl ps (eV p tk);have z:=hs 0;simp only[aqs]at z;obtain⟨⟨cs,S,N⟩,hm⟩:=z;have e:=Ea hx;rw[e]at S N K hm|-;obtain⟨hl,⟨H2,k2⟩,hr⟩:=Wt hI (vals:=vals.drop 1) hg (fun i=>by have:=hs (i+1);simpa[l9,F_]using this) (by exact aqM h3 n1);obtain⟨H1,k1⟩:=Tg (sm:=fun _=>1) (hs:=[1]) (tk:=tk) K N h3 (by simp) (by simp);refine⟨by simp[hl],⟨fun u=>if u<eV p tk then H1 u else H2 u,fun D I W i=> ?_⟩,fun c k j=> ?_⟩
     ·cases i with
      |zero=>
       simp only[ql,aqs];exact⟨cs,S,k1 D (fun c k j=>I c k (aq3 _ j)) (fun u Y y=>(W u Y (by simp only[qa];omega)).trans (an y))⟩
      |succ i=>
       simp only[ql,aqw];rw[rh];have:=k2 D (fun c k j=>I c k (aqy _ j)) (fun u Y y=>(W u (by have:(fQ p tk []).2=eV p tk:=rfl;omega) y).trans (a_ (by have:(fQ p tk []).2=eV p tk:=rfl;omega))) i;have e0:(fQ p tk []).2=eV p tk:=rfl;rw[e0]at this;simpa[l9,F_]using this
     ·rcases l8.1 j with j|j
      ·obtain⟨r1,q⟩:=SE N c k j;have m:Good U G c:=hm.1 c r1;left;rcases q with⟨q,_⟩|⟨q,r3,r4⟩|q
       ·exact .inl ⟨q,m.1,m.2.1,.inl m.2.2⟩
       ·refine .inr (.inl ⟨r3,by simp only[qa];omega,q,.inl ⟨m,fun r=> ?_⟩⟩);have:=BP (ps:=ps) (tk:=eV p tk) k r;omega
       ·exact .inr (.inr q)
      ·rcases hr c k j with(h|⟨q1,q2,q3,q4⟩|h)|⟨h,F⟩
       ·exact .inl (.inl h)
       ·exact .inl (.inr (.inl ⟨aqM n1 q1,q2,q3,q4⟩))
       ·exact .inl (.inr (.inr h))
       ·rcases l8.1 h with h|h
        ·exact .inr ⟨h,F⟩
        ·obtain⟨r1,q⟩:=SE N c k h;have m:Good U G c:=hm.1 c r1;left;rcases q with⟨q,_⟩|⟨q,r3,r4⟩|q
         ·exact absurd q F
         ·refine .inr (.inl ⟨r3,by simp only[qa];omega,q,.inl ⟨m,fun r=> ?_⟩⟩);have:=BP (ps:=ps) (tk:=eV p tk) k r;omega
         ·exact .inr (.inr q)
    ·cases h
   ·cases h
 | .io τ p::ps,sv::as,vals,tk,r0,xs,B,bs,h,hs,h3=>by
   simp only[nP]at h;split at h
   ·rename_i t s v hb;split at h
    ·rename_i x h0 J b0 hx hg;split at h
     ·rename_i K;simp only[aoz,apc]at h;obtain⟨rfl,rfl,rfl⟩:=h;have n1:=mL p (tk+1);have n2:=Nl ps (eV p (tk+1));have z:=hs 0;simp only[aqs]at z;obtain⟨j0,bk,c,el,b1,b2,b3,b4,b5,b6,b7,b8,b9⟩:=YZ hI hb z.1;have e:=Ea hx;rw[e]at K b6 b7|-;obtain⟨hl,⟨H2,k2⟩,hr⟩:=Wt hI (vals:=vals.drop 1) hg (fun i=>by have:=hs (i+1);simpa[l9,F_]using this) (by have:(fQ p (tk+1) []).2=eV p (tk+1):=rfl;omega);obtain⟨H1,k1⟩:=Tg (sm:=fun _=>1) (hs:=[1]) (tk:=tk+1) K b6 (by omega) (by simp) (by simp);refine⟨by simp[hl],⟨fun u=>if u=tk then vals.getD 0 undef else if u<eV p (tk+1)then H1 u else H2 u,fun D I W i=> ?_⟩,fun c k j=> ?_⟩
      ·cases i with
       |zero=>
        simp only[ql,aqs];refine⟨bk,c,el,b1,h3,?_,I t tk (by simp) bk b4,b5,k1 D (fun c k j=>I c k (by simp[j])) (fun u Y y=> ?_)⟩
        ·exact(W tk (r_ _) (by simp only[qa];omega)).trans (an rfl)
        ·exact((W u (by omega) (by simp only[qa];omega)).trans (a_ (by omega))).trans (an y)
       |succ i=>
        simp only[ql,aqw];rw[rh];have e0:(fQ p (tk+1) []).2=eV p (tk+1):=rfl;have:=k2 D (fun c k j=>I c k (by simp[j])) (fun u Y y=>((W u (by omega) y).trans (a_ (by omega))).trans (a_ (by omega))) i;rw[e0]at this;simpa[l9,F_]using this
      ·have key:(c,k)=(t,tk)\/(c,k)∈DN (fun _=>1) p v.sh (tk+1)->ajw U G (.io τ p::ps) tk ((t,s)::b0) c k:=by
        intro j;rcases j with j|j
        ·simp only[apc]at j;obtain⟨rfl,rfl⟩:=j;exact .inr (.inl ⟨r_ _,by simp only[qa];omega,b3,.inr ⟨by simp[sr],b8,b9,s,by simp⟩⟩)
        ·obtain⟨r1,q⟩:=SE b6 c k j;have m:Good U G c:=b7 c r1;rcases q with⟨q,_⟩|⟨q,r3,r4⟩|q
         ·exact .inl ⟨q,m.1,m.2.1,.inl m.2.2⟩
         ·refine .inr (.inl ⟨by omega,by simp only[qa];omega,q,.inl ⟨m,fun r=> ?_⟩⟩);simp only[sr,i_]at r;rcases r with r|r
          ·omega
          ·have:=BP (ps:=ps) (tk:=eV p (tk+1)) k r;omega
         ·exact .inr (.inr q)
       rw[arM,i_,l8,<-or_assoc]at j;rcases j with j|j
       ·exact .inl (key j)
       ·rcases hr c k j with(h|⟨q1,q2,q3,q4⟩|h)|⟨h,F⟩
        ·exact .inl (.inl h)
        ·have e0:(fQ p (tk+1) []).2=eV p (tk+1):=rfl;refine .inl (.inr (.inl ⟨by omega,q2,q3,?_⟩));rcases q4 with⟨q4,q5⟩|⟨q4,q5,q6,s',q7⟩
         ·refine .inl ⟨q4,fun r=> ?_⟩;simp only[sr,i_]at r;rcases r with r|r
          ·omega
          ·exact q5 r
         ·exact .inr ⟨by simp only[sr];exact aqm _ q4,q5,q6,s',by simp[q7]⟩
        ·exact .inl (.inr (.inr h))
        ·rw[l8,i_]at h;rcases h with h|h
         ·exact .inr ⟨h,F⟩
         ·exact .inl (key h)
     ·cases h
    ·cases h
   ·cases h
 | .rd τ::ps,sv::as,vals,tk,r0,xs,B,bs,h,hs,h3=>by
   simp only[nP]at h;split at h
   ·rename_i t s v hb;split at h
    ·rename_i x h0 J b0 hx hg;split at h
     ·rename_i K;simp only[aoz,apc]at h;obtain⟨rfl,rfl,rfl⟩:=h;have z:=hs 0;simp only[aqs]at z;obtain⟨j0,bk,c,el,b1,b2,b3,b4,b5,b6,b7,b8,b9⟩:=YZ hI hb z.1;have e:=Ea hx;rw[e]at K b6 b7|-;obtain⟨hl,⟨H2,k2⟩,hr⟩:=Wt hI (vals:=vals.drop 1) hg (fun i=>by have:=hs (i+1);simpa[l9,F_]using this) h3;obtain⟨H1,k1⟩:=Tg (sm:=fun _=>1) (hs:=[1]) (tk:=tk) K b6 (by omega) (by simp) (by simp);refine⟨by simp[hl],⟨H2,fun D I W i=> ?_⟩,fun c k j=> ?_⟩
      ·cases i with
       |zero=>
        simp only[ql,aqs];have N:=k1 D (fun c k j=>I c k (by simp[j])) (fun u Y y=>by rw[afQ]at y;omega);have hlen:c.toList.length=τ.sz:=kE.len N;refine⟨bk,0,c,el,(0,0),b1,b5,by simp only[Array.length_toList]at hlen;simp[hlen],?_,?_⟩
        ·simp[I t 1 (by simp) bk b4]
        ·simp only[are];rw[aqK (Nat.le_of_eq hlen)];exact N
       |succ i=>
        simp only[ql,aqw];have:=k2 D (fun c k j=>I c k (by simp[j])) (fun u Y y=>W u Y y) i;simpa[l9,F_]using this
      ·rw[arM,i_,l8]at j;rcases j with j|j|j
       ·simp only[apc]at j;obtain⟨rfl,rfl⟩:=j;exact .inl (.inl ⟨rfl,by omega,b8,.inr rfl⟩)
       ·obtain⟨r1,q⟩:=SE b6 c k j;have m:Good U G c:=b7 c r1;rw[afQ]at q;rcases q with⟨q,_⟩|⟨q,r3,r4⟩|q
        ·exact .inl (.inl ⟨q,m.1,m.2.1,.inr rfl⟩)
        ·omega
        ·exact .inl (.inr (.inr q))
       ·rcases hr c k j with(h|⟨q1,q2,q3,q4⟩|h)|h
        ·exact .inl (.inl ⟨h.1,h.2.1,h.2.2.1,.inr rfl⟩)
        ·exact .inl (.inr (.inl ⟨q1,q2,q3,q4⟩))
        ·exact .inl (.inr (.inr h))
        ·exact .inr h
     ·cases h
    ·cases h
   ·cases h
 | .vx e l::ps,.d v::as,vals,tk,r0,xs,B,bs,h,hs,h3=>by
   simp only[nP]at h;split at h
   ·rename_i x h0 J b0 hx hg;split at h
    ·rename_i K;simp only[aoz,apc]at h;obtain⟨rfl,rfl,rfl⟩:=h;have z:=hs 0;simp only[aqs]at z;obtain⟨⟨cs,S,N⟩,hm⟩:=z;have e:=Ea hx;rw[e]at S N K hm|-;obtain⟨hl,⟨H2,k2⟩,hr⟩:=Wt hI (vals:=vals.drop 1) hg (fun i=>by have:=hs (i+1);simpa[l9,F_]using this) h3;obtain⟨H1,k1⟩:=Tg (sm:=vxC r0 l) (hs:=1::l) (tk:=tk) K N h3 (fun c _=>apy r0 l c) (by simp);refine⟨by simp[hl],⟨H2,fun D I W i=> ?_⟩,fun c k j=> ?_⟩
     ·cases i with
      |zero=>
       simp only[ql,aqs]
       exact⟨cs,S,k1 D (fun c k j=>I c k (aq3 _ j)) (fun u Y y=>by
        have:eV .shr tk=tk:=rfl;omega)⟩
      |succ i=>
       simp only[ql,aqw];have:=k2 D (fun c k j=>I c k (aqy _ j)) (fun u Y y=>W u Y y) i;simpa[l9,F_]using this
     ·rcases l8.1 j with j|j
      ·obtain⟨r1,q⟩:=SE N c k j;have m:Good U G c:=hm.1 c r1;rcases q with⟨q,_⟩|⟨q,r3,r4⟩|q;rotate_left 2
       ·exact .inl (.inr (.inr q))
       ·rcases apI r0 l c with h|⟨h,h1⟩
        ·exact .inl (.inl ⟨q.trans h,m.1,m.2.1,.inl m.2.2⟩)
        ·rw[<-q]at h h1;by_cases F:k=1
         ·exact .inl (.inl ⟨F,m.1,m.2.1,.inl m.2.2⟩)
         ·exact .inr ⟨h,F⟩
       ·have:eV .shr tk=tk:=rfl;omega
      ·rcases hr c k j with(h|⟨q1,q2,q3,q4⟩|h)|h
       ·exact .inl (.inl h)
       ·exact .inl (.inr (.inl ⟨q1,q2,q3,q4⟩))
       ·exact .inl (.inr (.inr h))
       ·exact .inr h
    ·cases h
   ·cases h
 | [],_::_,_,_,_,_,_,_,h,_,_| .val _ _::_,[],_,_,_,_,_,_,h,_,_| .io _ _::_,[],_,_,_,_,_,_,h,_,_| .rd _::_,[],_,_,_,_,_,_,h,_,_| .vx _ _::_,[],_,_,_,_,_,_,h,_,_=>by simp[nP]at h
 | .vx _ _::_,.no::_,_,_,_,_,_,_,h,_,_| .vx _ _::_,.box _ _::_,_,_,_,_,_,_,h,_,_| .vx _ _::_,.ptr ..::_,_,_,_,_,_,_,h,_,_| .vx _ _::_,.ept ..::_,_,_,_,_,_,_,h,_,_
 | .vx _ _::_,.rdp ..::_,_,_,_,_,_,_,h,_,_| .vx _ _::_,.tup _::_,_,_,_,_,_,_,h,_,_| .vx _ _::_,.g ..::_,_,_,_,_,_,_,h,_,_=>by simp[nP]at h
 | .val _ _::_,.no::_,_,_,_,_,_,_,h,_,_| .val _ _::_,.box _ _::_,_,_,_,_,_,_,h,_,_| .val _ _::_,.ptr ..::_,_,_,_,_,_,_,h,_,_| .val _ _::_,.ept ..::_,_,_,_,_,_,_,h,_,_
 | .val _ _::_,.rdp ..::_,_,_,_,_,_,_,h,_,_| .val _ _::_,.tup _::_,_,_,_,_,_,_,h,_,_| .val _ _::_,.g ..::_,_,_,_,_,_,_,h,_,_=>by simp[nP]at h
end
theorem N4:∀ {l:List (Nat×Nat)} {a b:Nat},l.lookup a=some b->(a,b)∈l
 | [],_,_,h=>by simp[arJ]at h
 |(x,y)::l,a,b,h=>by
  simp only[arJ]at h;split at h;rename_i e;simp only[beq_iff_eq]at e;simp only[aoz]at h;subst e h;simp;exact aqm _ (N4 h)
def aaO{r:List (Nat×Nat)}(h:aeo r=true){c k:Nat}(hc:(c,k)∈r):r.lookup c=some k:=by
 simp only[aeo,aqt,beq_iff_eq]at h;exact h (c,k) hc
def Gf:List PK->Nat->Nat->List (Nat×Nat)
 | [],_,_=>[]
 | .val _ p::ps,i,te=>Gf ps (i+1) (eV p te)
 | .io _ p::ps,i,te=>(te,i)::Gf ps (i+1) (eV p (te+1))
 | .rd _::ps,i,te| .vx _ _::ps,i,te=>Gf ps (i+1) te
def Y8:List Value->Value
 | [v]=>v
 |l=> .tuple l.toArray
structure Z1(con:Ou)(w:World)(G0:Gh)(args:List Value)(y:iF (con.rs.map RK.ty++lu con.ps))(mv:Value)(w':World)(G':Gh)(vs:List Value)(nt:Nat):Prop where
 val:mv=Y8 vs
 len:vs.length=con.rs.length
 res:∀i,rn w' G' ((jh con.rs (lu con.ps) y (qa con.ps 4) [2,1]).1.getD i .no) (vs.getD i undef)
 ios:∀t i v,(t,i,v)∈vC [2,1] con.ps (jh con.rs (lu con.ps) y (qa con.ps 4) [2,1]).2.1 (Gf con.ps 0 4) (jh con.rs (lu con.ps) y (qa con.ps 4) [2,1]).2.2->
  rn w' G' (.box t v) (args.getD i undef)
 frame:∀b,b<w.heap.size->G0.col b<4->G'.col b=G0.col b/\w'.heap[b]?=w.heap[b]?
 one:∀b,G'.col b=1\/G'.col b=3->b<w.heap.size/\G0.col b=G'.col b
 size:w.heap.size<=w'.heap.size
 os:w'.os=w.os
 tape:w'.tape=w.tape
 output:w'.output=w.output
 lt:∀b,0<G'.col b->b<w'.heap.size
 fresh:∀b,4<=G'.col b->∃c el,w'.heap[b]?=some (.cells c el (0,0))
 kept:∀q∈con.kp,∀te i τ,(Gf con.ps 0 4)[q.1]?=some (te,i)->(lu con.ps)[q.1]?=some τ->∀bk c el c' el',args.getD i undef= .pointer (some ⟨bk,0,none⟩)->
  w.heap[bk]?=some (.cells c el (0,0))->w'.heap[bk]?=some (.cells c' el' (0,0))->c'.toList[τ.off q.2]?=c.toList[τ.off q.2]?
def aiB(P:Program)(f:FuncId)(args:Array Value)(w:World)(R:Value->World->Prop):Prop:=
 match(callFunc f args).run P w with
 | .ok (.enter f' args') w1=>Calls P f' args' w1 (fun e w'=>∃v,e= .returned v/\R v w')
 | .ok (.value v) w1=>R v w1
 |_=>False
def Qq(P:Program)(f:FuncId)(b:Ou):Prop:=
 ∀(w:World) (c:Gh) (args:List Value) (x:iF (b.ps.map PK.ty)) (y:iF (b.rs.map RK.ty++lu b.ps)),b.F x=some y->
  Lot w c (ql b.ps x 4).1 args (qa b.ps 4)->aiB P f args.toArray w (fun mv w'=>∃G' d e,Z1 b w c args y mv w' G' d e)
section
variable{P:Program}{C:Cx}{w0:World}{c0:C0}{U:Nat->Prop}{E:Env}{a:Act}{w:World}{G:Gh}{ops:List Oper}{g:Option (Nat×Bool)}
def apb(q:Inv w0 c0 U E a w G){ps:List PK}{as:List SV}{vals:List Value}{xs:iF (ps.map PK.ty)}{d bs:List (Nat×Nat)}
 (h:nP E.rd ps as 4 []=some (xs,d,bs)) (hs:∀i,rn w G (as.getD i .no) (vals.getD i undef)/\lg U G (as.getD i .no)) (hlen:vals.length=as.length) (F:aeo d=true)
 (y:∀c∈vxs ps,4<=c/\c<qa ps 4/\c∉sr ps 4):
 ∃B:Gh,Lot w B (ql ps xs 4).1 vals (qa ps 4)/\(∀b,B.col b=(d.lookup (G.col b)).getD 0):=by
 obtain⟨J,⟨H,k⟩,s⟩:=Wt q h hs (r_ _);have l:∀c k,(c,k)∈d->ajw U G ps 4 bs c k:=fun c k h=>(s c k h).resolve_right (by simp);have hnt:=Nl ps 4;refine⟨⟨fun b=>(d.lookup (G.col b)).getD 0,H,fun u=>(sr ps 4).contains u⟩,⟨?_,?_,?_,?_,?_,?_,?_,?_⟩,fun b=>rfl⟩;rw[Wl,<-J,hlen];intro i;refine k _ (fun c k x b e=> ?_) (fun u _ _=>rfl) i;simp only[e,aaO F x,aqG];intro i;by_cases I:i<(ql ps xs 4).1.length
 have r:(ql ps xs 4).1.getD i .no∈(ql ps xs 4).1:=by
  rw[l9,aqu I];simp
 obtain⟨K,p,N⟩:=SG _ r;refine⟨fun c hc=> ?_,fun c hc=> ?_,by rw[N];simp⟩;rcases K c hc with vq|⟨q1,q2,q3⟩|z;refine⟨by omega,by omega,?_⟩;simp only[W',d_];intro l;have:=BP c l;omega;exact⟨by omega,q2,by simp only[W',d_];exact q3⟩;obtain⟨q1,q2,q3⟩:=y c z;exact⟨by omega,q2,by simp only[W',d_];exact q3⟩;have:=BP c (p c hc);exact⟨by omega,this.2,by simp only[W',b_];exact p c hc⟩;rw[l9,aqV (by omega)];simp[lg,SV.sc,SV.bt,SV.rt];intro i j t v v' h D;exact Xk h D;intro b e;simp only at e|-;cases m:d.lookup (G.col b)with
 |none=>rw[m]at e;simp at e
 |some k=>
  simp only[aqG];rcases l _ _ (N4 m)with⟨rfl,S⟩|⟨q1,q2,q3,_⟩|⟨q1,q2⟩;exact⟨by omega,q.lt b S.1⟩;exact⟨q2,q.lt b (by omega)⟩;exact⟨by omega,q.lt b (by omega)⟩
 intro b e;simp only at e;cases m:d.lookup (G.col b)with
 |none=>rw[m]at e;simp at e
 |some k=>
  rw[m]at e;simp only[aqG]at e;rcases l _ _ (N4 m)with⟨rfl,_⟩|⟨q1,q2,q3,_⟩|⟨q1,q2⟩;omega;exact q.fresh b q3;omega
 simp only[W',d_];exact⟨fun p=>by have:=BP 2 p;omega,fun p=>by have:=BP 3 p;omega⟩;intro b;simp only;cases m:d.lookup (G.col b)with
 |none=>simp
 |some k=>
  simp only[aqG];rcases l _ _ (N4 m)with⟨rfl,_⟩|⟨q1,q2,q3,_⟩|⟨q1,q2⟩<;>omega
end
theorem Cg:∀(p:Pt) (k d:Nat),eV p (k+d)=eV p k+d
 | .leaf,_,_| .shr,_,_| .rom,_,_=>rfl
 | .own,k,d| .hd,k,d| .pv,k,d=>by simp only[eV,fQ];omega
 | .pair a b,k,d=>by rw[KO,KO,Cg a,Cg b]
def Wv(τ:Ty)(p:Pt)(rs:List RK)(k:Nat):zX (.val τ p::rs) k=zX rs (eV p k):=rfl
def VE(τ:Ty)(p:Pt)(rs:List RK)(k:Nat):zX (.nbox τ p::rs) k=zX rs (eV p (k+1)):=rfl
def aes(τ:Ty)(p:Pt)(ps:List PK)(k:Nat):Wc (.io τ p::ps) k=Wc ps (eV p k):=rfl
theorem XD:∀(rs:List RK) (k d:Nat),zX rs (k+d)=zX rs k+d
 | [],_,_=>rfl
 | .val _ p::rs,k,d=>by rw[Wv,Wv,Cg,XD rs]
 | .nbox _ p::rs,k,d=>by rw[VE,VE,show k+d+1=k+1+d by omega,Cg,XD rs]
theorem aaU:∀(ps:List PK) (k d:Nat),Wc ps (k+d)=Wc ps k+d
 | [],_,_=>rfl
 | .val _ _::ps,k,d| .rd _::ps,k,d| .vx _ _::ps,k,d=>aaU ps k d
 | .io _ p::ps,k,d=>by rw[aes,aes,Cg,aaU ps]
theorem Ts:∀(rs:List RK) (k:Nat),k<=zX rs k
 | [],_=>r_ _
 | .val _ p::rs,k=>aqM (mL p k) (Ts rs _)
 | .nbox _ p::rs,k=>aqM (aqM (arI _) (mL p (k+1))) (Ts rs _)
theorem Xz:∀(ps:List PK) (k:Nat),k<=Wc ps k
 | [],_=>r_ _
 | .val _ p::ps,k=>Xz ps k
 | .rd _::ps,k| .vx _ _::ps,k=>Xz ps k
 | .io _ p::ps,k=>aqM (mL p k) (Xz ps _)
def P0:List RK->Nat->List Nat
 | [],_=>[]
 | .val _ p::rs,k=>P0 rs (eV p k)
 | .nbox _ p::rs,k=>k::P0 rs (eV p (k+1))
theorem XZ:∀ {rs:List RK} {k:Nat},∀c∈P0 rs k,k<=c/\c<zX rs k
 | [],_,c,h=>by simp[P0]at h
 | .val _ p::rs,k,c,h=>by
   have:=XZ (rs:=rs) (k:=eV p k) c h;have b:=mL p k;rw[Wv];omega
 | .nbox _ p::rs,k,c,h=>by
   have b:=mL p (k+1);have h2:=Ts rs (eV p (k+1));rw[VE];simp only[P0,i_]at h;rcases h with rfl|h;omega;have:=XZ (rs:=rs) (k:=eV p (k+1)) c h;omega
structure amc(G' G2:Gh)(k0 n tk:Nat)(hs:List Nat):Prop where
 own:∀u,k0<=u->u<n->G2.hdr (tk+(u-k0))=G'.hdr u/\∀b,G'.col b=u->G2.col b=tk+(u-k0)
 shr:∀b,G'.col b∈[2,1]->G2.col b∈hs
 rom:∀b,G'.col b=3->G2.col b=3
 ne:hs≠ []
section
variable{w':World}{G' G2:Gh}{k0 n tk:Nat}{hs:List Nat}
def aeU(h:amc G' G2 k0 n tk hs)(h3:4<=tk){p:Pt}{τ:Ty}{x:τ.den}{cs:List Value}{k:Nat}(hk:k0<=k)(hn:eV p k<=n)(b:kE w' G' τ x (fQ p k [2,1]).1 cs):
 kE w' G2 τ x (fQ p (tk+(k-k0)) hs).1 cs:=by
 refine(afb b (by omega) (fun u hu hu2=> ?_) h.shr h.rom h.ne).1;have:=h.own u (by omega) (by omega);rw[show tk+(k-k0)+(u-k)=tk+(u-k0) by omega];exact this
theorem aby(u:4<=tk):∀ {rs:List RK} {rest:List Ty} {y:iF (rs.map RK.ty++rest)} {k:Nat},k0<=k->∀(hs':List Nat),
 (jh rs rest y (tk+(k-k0)) hs').2.1=(jh rs rest y k [2,1]).2.1/\(jh rs rest y (tk+(k-k0)) hs').2.2=tk+(zX rs k-k0)/\(jh rs rest y k [2,1]).2.2=zX rs k/\
 (jh rs rest y (tk+(k-k0)) hs').1.length=rs.length/\
 (amc G' G2 k0 n tk hs'->zX rs k<=n->∀(e:List Value),(∀i,rn w' G' ((jh rs rest y k [2,1]).1.getD i .no) (e.getD i undef))->∀i,rn w' G2 ((jh rs rest y (tk+(k-k0)) hs').1.getD i .no) (e.getD i undef))/\
 (∀sv∈(jh rs rest y (tk+(k-k0)) hs').1,(∀c∈sv.sc,((c∈hs'/\rs.any (fun r=>r.pt.Xb)=true)\/c=3)\/(tk+(k-k0)<=c/\c<tk+(zX rs k-k0)/\c∉P0 rs (tk+(k-k0))))/\(∀c∈sv.bt,c∈P0 rs (tk+(k-k0)))/\sv.rt=[])
 | [],rest,y,k,hk,hs'=>⟨rfl,rfl,rfl,rfl,fun _ _ e _ i=>by simp[jh,rn],by simp[jh]⟩
 | .val τ p::rs,rest,y,k,hk,hs'=>by
   have W:=mL p k;have Y:=Ts rs (eV p k);obtain⟨x,z,B,D,F,H⟩:=aby u (rs:=rs) (rest:=rest) (y:=y.2) (k:=eV p k) (by omega) hs'
   have s:(fQ p (tk+(k-k0)) hs').2=tk+(eV p k-k0):=by
    rw[rh,show tk+(k-k0)=(k-k0)+tk by omega,Cg];have:=Cg p (k-k0) k0;rw[show k-k0+k0=k by omega]at this;omega
   have l:eV p (tk+(k-k0))=tk+(eV p k-k0):=(rh p _ hs').symm.trans s;simp only[jh,s,rh p k [2,1],Wv];refine⟨x,z,B,by simp[D],fun m v e q i=> ?_,fun sv d=> ?_⟩
   ·cases i with
    |zero=>
     have:=q 0;simp only[aqs]at this|-;obtain⟨cs,I,J⟩:=this;exact⟨cs,I,aeU m u hk (by omega) J⟩
    |succ i=>
     simp only[aqw];have:=F m v (e.drop 1) (fun j=>by have:=q (j+1);simpa[l9,F_]using this) i;simpa[l9,F_]using this
   ·simp only[i_]at d;rcases d with rfl|d
    ·refine⟨fun c hc=> ?_,by simp[SV.bt],rfl⟩;rcases SR c hc with h|h|h
     ·exact .inl (.inl ⟨h.1,by simp[RK.pt,h.2]⟩)
     rotate_left
     ·exact .inl (.inr h)
     ·rw[l]at h;refine .inr ⟨h.1,by omega,fun b=> ?_⟩;simp only[P0]at b;rw[l]at b;have:=XZ c b;omega
    ·obtain⟨q1,q2,q3⟩:=H sv d;simp only[P0];rw[l];exact⟨fun c hc=>(q1 c hc).imp (fun h=>h.imp (fun h=>⟨h.1,by simp only[List.any_cons,h.2,Bool.or_true]⟩) id) (fun⟨K,t,N⟩=>⟨by omega,t,N⟩),q2,q3⟩
 | .nbox τ p::rs,rest,y,k,hk,hs'=>by
   have W:=mL p (k+1);have Y:=Ts rs (eV p (k+1));obtain⟨x,z,B,D,F,H⟩:=aby u (rs:=rs) (rest:=rest) (y:=y.2) (k:=eV p (k+1)) (by omega) hs'
   have s:(fQ p (tk+(k-k0)+1) hs').2=tk+(eV p (k+1)-k0):=by
    rw[rh,show tk+(k-k0)+1=(k+1-k0)+tk by omega,Cg];have:=Cg p (k+1-k0) k0;rw[show k+1-k0+k0=k+1 by omega]at this;omega
   have l:eV p (tk+(k-k0)+1)=tk+(eV p (k+1)-k0):=(rh p _ hs').symm.trans s;simp only[jh,s,rh p (k+1) [2,1],VE];refine⟨x,z,B,by simp[D],fun m v e q i=> ?_,fun sv d=> ?_⟩
   ·cases i with
    |zero=>
     have:=q 0;simp only[aqs]at this|-;obtain⟨S,c,el,g1,g2,g3,g4,g5,g6⟩:=this;obtain⟨K,t⟩:=m.own k hk (by omega);refine⟨S,c,el,g1,by omega,K.trans g3,t S g4,g5,?_⟩;have:=aeU m u (k:=k+1) (by omega) (by omega) g6;rw[show tk+(k+1-k0)=tk+(k-k0)+1 by omega]at this;exact this
    |succ i=>
     simp only[aqw];have:=F m v (e.drop 1) (fun j=>by have:=q (j+1);simpa[l9,F_]using this) i;simpa[l9,F_]using this
   ·simp only[i_]at d;rcases d with rfl|d
    ·refine⟨fun c hc=> ?_,by simp[SV.bt,P0],rfl⟩;rcases SR c hc with h|h|h
     ·exact .inl (.inl ⟨h.1,by simp[RK.pt,h.2]⟩)
     rotate_left
     ·exact .inl (.inr h)
     ·rw[l]at h;refine .inr ⟨by omega,by omega,fun b=> ?_⟩;simp only[P0,i_]at b;rw[l]at b;rcases b with b|b
      ·omega
      ·have:=XZ c b;omega
    ·obtain⟨q1,q2,q3⟩:=H sv d;simp only[P0];rw[l];refine⟨fun c hc=>(q1 c hc).imp (fun h=>h.imp (fun h=>⟨h.1,by simp only[List.any_cons,h.2,Bool.or_true]⟩) id) (fun⟨K,t,N⟩=>⟨by omega,t,?_⟩),fun c hc=>by simp[q2 c hc],q3⟩;simp only[i_,not_or];exact⟨by omega,N⟩
end
theorem UZ:∀(l:List (Nat×Nat×TV)) (L:List SV),(od l L).length=L.length
 | [],_=>rfl
 |(t,s,v)::l,L=>by simp only[od];rw[UZ l];simp
theorem Y4:∀(l:List (Nat×Nat×TV)) (L:List SV) (j:Nat),(od l L).getD j .no=L.getD j .no\/∃t v,(t,j,v)∈l/\(od l L).getD j .no= .box t v
 | [],_,_=> .inl rfl
 |(t,s,v)::l,L,j=>by
  simp only[od];rcases Y4 l (L.set s (.box t v)) j with h|⟨b,c,d,i⟩;rw[h,CS];split;rename_i e;obtain⟨rfl,_⟩:=e;exact .inr ⟨t,v,by simp,rfl⟩;exact .inl rfl;exact .inr ⟨b,c,by simp[d],i⟩
def MM:List (Nat×Nat×TV)->List SV->List SV
 | [],L=>L
 |(_,s,_)::l,L=>MM l (L.set s .no)
theorem aaw:∀(l:List (Nat×Nat×TV)) {L L':List SV},L.length=L'.length->(∀j,(∀t v,(t,j,v)∉l)->L.getD j .no=L'.getD j .no)->od l L=od l L'
 | [],L,L',hl,h=>by
   refine List.ext_getElem hl (fun i c d=> ?_);have:=h i (by simp);rw[l9,l9]at this;simp only[od]at c d|-;rw[aqu c,aqu d]at this;simpa using this
 |(t,s,v)::l,L,L',hl,h=>by
  simp only[od];refine aaw l (by simpa using hl) (fun j m=> ?_);rw[CS,CS,hl];by_cases e:j=s/\s<L'.length;rw[an e,an e];rw[a_ e,a_ e];by_cases k:j=s;subst k;have hlt:¬j<L'.length:=fun p=>e ⟨rfl,p⟩;rw[l9,l9,aqV (by omega),aqV (by omega)];refine h j (fun q r b=> ?_);simp only[i_,apc]at b;rcases b with⟨_,b,_⟩|b;exact k b;exact m q r b
theorem ac8:∀(l:List (Nat×Nat×TV)) (L:List SV),(MM l L).length=L.length
 | [],_=>rfl
 |(t,s,v)::l,L=>by simp only[MM];rw[ac8 l];simp
theorem V8:∀(l:List (Nat×Nat×TV)) (L:List SV) (j:Nat),(∀t v,(t,j,v)∉l)->(MM l L).getD j .no=L.getD j .no
 | [],_,_,_=>rfl
 |(t,s,v)::l,L,j,h=>by
  simp only[MM];rw[V8 l _ j (fun c d b=>h c d (by simp[b])),CS,a_];rintro⟨rfl,_⟩;exact h t v (by simp)
theorem Xc:∀(l:List (Nat×Nat×TV)) (L:List SV) (j:Nat),(∃t v,(t,j,v)∈l)->(MM l L).getD j .no= .no/\True
 |(t,s,v)::l,L,j,⟨t',v',h⟩=>by
  simp only[MM];by_cases b:∃t v,(t,j,v)∈l;exact Xc l _ j b;refine⟨?_,trivial⟩;rw[V8 l _ j (fun t v h=>b ⟨t,v,h⟩),CS];simp only[i_,apc]at h;rcases h with⟨_,rfl,_⟩|h;split;rfl;rename_i e;rw[l9,aqV (by simp at e;omega)];rfl;exact absurd ⟨t',v',h⟩ b
def anA(l:List (Nat×Nat×TV))(L:List SV):od l (MM l L)=od l L:=
 aaw l (ac8 l L) (fun j b=>V8 l L j b)
section
variable{P:Program}{C:Cx}{w0:World}{c0:C0}{U:Nat->Prop}{E:Env}{a:Act}{w:World}{G:Gh}{ops:List Oper}{g:Option (Nat×Bool)}
theorem Inv.alf:∀(l:List (Nat×Nat×TV)) {E:Env},Inv w0 c0 U E a w G->Inv w0 c0 U {E with s:=MM l E.s} a w G
 | [],_,h=>h
 |(_,s,_)::l,E,h=>Inv.alf l (E:={E with s:=E.s.set s .no}) (h.drop s)
theorem Inv.amK:∀(l:List (Nat×Nat×TV)) {E:Env},Inv w0 c0 U E a w G->(∀t s v,(t,s,v)∈l->rn w G (.box t v) (a.tmps.getD s undef)/\lg U G (.box t v))->
 (l.map (·.1)).Pairwise (·≠·)->(∀t s v,(t,s,v)∈l->∀c u,E.s.getD c .no≠ .box t u)->Inv w0 c0 U {E with s:=od l E.s} a w G
 | [],_,h,_,_,_=>h
 |(t,s,v)::l,E,h,h1,h2,h3=>by
  simp only[List.map_cons,arD]at h2;obtain⟨z,B⟩:=h1 t s v (by simp);refine Inv.amK l (E:={E with s:=E.s.set s (.box t v)}) (h.anS s z B ?_) (fun p c q b=>h1 p c q (by simp[b])) h2.2 (fun p c q b y u e=> ?_);rintro p u ⟨rfl,rfl⟩ c u' _ e;exact h3 t s v (by simp) c u' e;simp only[CS]at e;split at e;simp only[SV.box.injEq]at e;exact h2.1 p (aqv.2 ⟨(p,c,q),b,rfl⟩) e.1;exact h3 p c q (by simp[b]) y u e
theorem aaC(hI:Inv w0 c0 U E a w G){k0 tk:Nat}{hs':List Nat}:∀ {ps:List PK} {as:List SV} {vals:List Value} {B i0:Nat} {r0:List (Nat×Nat)} {xs:iF (ps.map PK.ty)} {q bs:List (Nat×Nat)},
 nP E.rd ps as B r0=some (xs,q,bs)->(∀i,rn w G (as.getD i .no) (vals.getD i undef))->∀(R:iF (lu ps)) (k:Nat),k0<=k->
 (∀t s m,(t,s,m)∈vC hs' ps R bs (tk+(k-k0))->∃j i y p r z,(j,i0+i,y)∈vC [2,1] ps R (Gf ps i0 B) k/\(t,j)∈q/\j∈sr ps B/\
  E.s.getD s .no= .box t z/\vals.getD i undef=G.hdr t/\k<=r/\eV p r<=Wc ps k/\y=⟨m.τ,m.x,(fQ p r [2,1]).1⟩/\m.sh=(fQ p (tk+(r-k0)) hs').1/\(p.Xb=true->acA ps=true))/\
 (∀t s,(t,s)∈bs->∃m,(t,s,m)∈vC hs' ps R bs (tk+(k-k0)))
 | [],[],vals,B,i0,r0,xs,q,bs,h,hs,R,k,hk=>by
   simp only[nP,aoz,apc]at h;obtain⟨_,rfl,rfl⟩:=h;simp[vC]
 | .val τ p::ps,.d v::as,vals,B,i0,r0,xs,q,bs,h,hs,R,k,hk=>by
   simp only[nP]at h;split at h;rename_i x F u H hx I;split at h;simp only[aoz,apc]at h;obtain⟨_,rfl,rfl⟩:=h;obtain⟨J,K⟩:=aaC hI (k0:=k0) (tk:=tk) (hs':=hs') (i0:=i0+1) (vals:=vals.drop 1) I (fun i=>by have:=hs (i+1);simpa[l9,F_]using this) R k hk;refine⟨fun t s m b=> ?_,fun t s b=>K t s b⟩;obtain⟨j,i,y,N,r,z,q1,q2,q3,q4,q5,q6,S,W,D⟩:=J t s m b
   exact⟨j,i+1,y,N,r,z,by simp only[Gf,vC];rw[show i0+(i+1)=i0+1+i by omega];exact q1,aqy _ q2,q3,q4,
    by rw[<-q5];simp[l9,F_],q6,S,W,D⟩
   cases h;cases h
 | .io τ p::ps,sv::as,vals,B,i0,r0,xs,q,bs,h,hs,R,k,hk=>by
   simp only[nP]at h;split at h;rename_i t0 s0 v hb;split at h;rename_i x F u H hx I;split at h;simp only[aoz,apc]at h;obtain⟨_,rfl,rfl⟩:=h;have n1:=mL p k
   have e1:(fQ p (tk+(k-k0)) hs').2=tk+(eV p k-k0):=by
    rw[rh,show tk+(k-k0)=(k-k0)+tk by omega,Cg];have:=Cg p (k-k0) k0;rw[show k-k0+k0=k by omega]at this;omega
   obtain⟨J,K⟩:=aaC hI (k0:=k0) (tk:=tk) (hs':=hs') (i0:=i0+1) (vals:=vals.drop 1) I (fun i=>by have:=hs (i+1);simpa[l9,F_]using this) R.2 (eV p k) (by omega);have b0:=hs 0;simp only[aqs]at b0;obtain⟨Y,bk,c,el,b1,b2,_⟩:=YZ hI hb b0;refine⟨fun t s m b=> ?_,fun t s b=> ?_⟩;simp only[vC,i_,apc]at b;rcases b with⟨rfl,rfl,rfl⟩|b;refine⟨B,0,_,p,k,_,by simp only[Gf,vC];exact List.mem_cons_self ..,by simp,by simp[sr],Y,b2.symm,r_ _,Xz ps _,rfl,rfl,fun h=>by simp[acA,h]⟩;rw[e1]at b;obtain⟨j,i,y,N,r,z,q1,q2,q3,q4,q5,q6,S,W,D⟩:=J t s m b
   refine⟨j,i+1,y,N,r,z,?_,by simp[q2],by simp only[sr];exact aqm _ q3,q4,
    by rw[<-q5];simp[l9,F_],by omega,S,W,D.1,fun h=>by simp[acA,D.2 h]⟩
   simp only[Gf,vC,rh];rw[show i0+(i+1)=i0+1+i by omega];exact aqm _ q1;simp only[i_,apc]at b;simp only[vC,e1,i_,apc];rcases b with⟨rfl,rfl⟩|b;exact⟨_,.inl ⟨rfl,rfl,rfl⟩⟩;obtain⟨m,e0⟩:=K t s b;exact⟨m,.inr e0⟩;cases h;cases h;cases h
 | .rd τ::ps,sv::as,vals,B,i0,r0,xs,q,bs,h,hs,R,k,hk=>by
   simp only[nP]at h;split at h;split at h;rename_i x F u H hx I;split at h;simp only[aoz,apc]at h;obtain⟨_,rfl,rfl⟩:=h;obtain⟨J,K⟩:=aaC hI (k0:=k0) (tk:=tk) (hs':=hs') (i0:=i0+1) (vals:=vals.drop 1) I (fun i=>by have:=hs (i+1);simpa[l9,F_]using this) R k hk;refine⟨fun t s m b=> ?_,fun t s b=>K t s b⟩;obtain⟨j,i,y,N,r,z,q1,q2,q3,q4,q5,q6,S,W,D⟩:=J t s m b
   exact⟨j,i+1,y,N,r,z,by simp only[Gf,vC];rw[show i0+(i+1)=i0+1+i by omega];exact q1,aqy _ q2,q3,q4,
    by rw[<-q5];simp[l9,F_],q6,S,W,D⟩
   cases h;cases h;cases h
 | .vx e l::ps,.d v::as,vals,B,i0,r0,xs,q,bs,h,hs,R,k,hk=>by
   simp only[nP]at h;split at h;rename_i x F u H hx I;split at h;simp only[aoz,apc]at h;obtain⟨_,rfl,rfl⟩:=h;obtain⟨J,K⟩:=aaC hI (k0:=k0) (tk:=tk) (hs':=hs') (i0:=i0+1) (vals:=vals.drop 1) I (fun i=>by have:=hs (i+1);simpa[l9,F_]using this) R k hk;refine⟨fun t s m b=> ?_,fun t s b=>K t s b⟩;obtain⟨j,i,y,N,r,z,q1,q2,q3,q4,q5,q6,S,W,D⟩:=J t s m b
   exact⟨j,i+1,y,N,r,z,by simp only[Gf,vC];rw[show i0+(i+1)=i0+1+i by omega];exact q1,aqy _ q2,q3,q4,
    by rw[<-q5];simp[l9,F_],q6,S,W,D⟩
   cases h;cases h
 | [],_::_,_,_,_,_,_,_,_,h,_,_,_,_| .val _ _::_,[],_,_,_,_,_,_,_,h,_,_,_,_| .io _ _::_,[],_,_,_,_,_,_,_,h,_,_,_,_| .rd _::_,[],_,_,_,_,_,_,_,h,_,_,_,_
 | .vx _ _::_,[],_,_,_,_,_,_,_,h,_,_,_,_=>by simp[nP]at h
 | .val _ _::_,.no::_,_,_,_,_,_,_,_,h,_,_,_,_| .val _ _::_,.box _ _::_,_,_,_,_,_,_,_,h,_,_,_,_| .val _ _::_,.ptr ..::_,_,_,_,_,_,_,_,h,_,_,_,_| .val _ _::_,.ept ..::_,_,_,_,_,_,_,_,h,_,_,_,_
 | .val _ _::_,.rdp ..::_,_,_,_,_,_,_,_,h,_,_,_,_| .val _ _::_,.tup _::_,_,_,_,_,_,_,_,h,_,_,_,_| .val _ _::_,.g ..::_,_,_,_,_,_,_,_,h,_,_,_,_=>by simp[nP]at h
 | .vx _ _::_,.no::_,_,_,_,_,_,_,_,h,_,_,_,_| .vx _ _::_,.box _ _::_,_,_,_,_,_,_,_,h,_,_,_,_| .vx _ _::_,.ptr ..::_,_,_,_,_,_,_,_,h,_,_,_,_| .vx _ _::_,.ept ..::_,_,_,_,_,_,_,_,h,_,_,_,_
 | .vx _ _::_,.rdp ..::_,_,_,_,_,_,_,_,h,_,_,_,_| .vx _ _::_,.tup _::_,_,_,_,_,_,_,_,h,_,_,_,_| .vx _ _::_,.g ..::_,_,_,_,_,_,_,_,h,_,_,_,_=>by simp[nP]at h
theorem UJ{rhoT:List (Nat×Nat)}{hs':List Nat}{H:Rd}:∀ {ps:List PK} {as:List SV} {i:Nat} {r0:List (Nat×Nat)} {xs:iF (ps.map PK.ty)} {b bs:List (Nat×Nat)},
 nP H ps as i r0=some (xs,b,bs)->(∀c k,(c,k)∈b->rhoT.lookup c=some k)->∀(R:iF (lu ps)) (k':Nat),
 ((vC hs' ps R bs k').map (·.1)).Pairwise (·≠·)/\∀t∈(vC hs' ps R bs k').map (·.1),∃u,i<=u/\rhoT.lookup t=some u
 | [],[],i,r0,xs,b,bs,h,hr,R,k'=>by
   simp only[nP,aoz,apc]at h;obtain⟨_,rfl,rfl⟩:=h;simp[vC]
 | .val τ p::ps,.d v::as,i,r0,xs,b,bs,h,hr,R,k'=>by
   simp only[nP]at h;split at h;rename_i x m j q z r;split at h;simp only[aoz,apc]at h;obtain⟨_,rfl,rfl⟩:=h;obtain⟨B,y⟩:=UJ r (fun c k h=>hr c k (aqy _ h)) R k';exact⟨B,fun t s=>by obtain⟨u,q1,q2⟩:=y t s;exact⟨u,aqM (mL p i) q1,q2⟩⟩;cases h;cases h
 | .io τ p::ps,sv::as,i,r0,xs,b,bs,h,hr,R,k'=>by
   simp only[nP]at h;split at h;rename_i F s0 v hb;split at h;rename_i x m j q z r;split at h;simp only[aoz,apc]at h;obtain⟨_,rfl,rfl⟩:=h;have n1:=mL p (i+1);have hpn:(fQ p (i+1) []).2=eV p (i+1):=rfl;obtain⟨B,y⟩:=UJ r (fun c k h=>hr c k (by simp[h])) R.2 (fQ p k' hs').2;have D:=hr F i (by simp);simp only[vC,List.map_cons,arD,i_];refine⟨⟨fun t s e=> ?_,B⟩,fun t s=> ?_⟩;obtain⟨u,q1,q2⟩:=y t s;rw[<-e,D]at q2;simp only[aoz]at q2;omega;rcases s with rfl|s;exact⟨i,r_ _,D⟩;obtain⟨u,q1,q2⟩:=y t s;exact⟨u,by omega,q2⟩;cases h;cases h;cases h
 | .rd τ::ps,sv::as,i,r0,xs,b,bs,h,hr,R,k'=>by
   simp only[nP]at h;split at h;split at h;rename_i x m j q z r;split at h;simp only[aoz,apc]at h;obtain⟨_,rfl,rfl⟩:=h;exact UJ r (fun c k h=>hr c k (aqy _ h)) R k';cases h;cases h;cases h
 | .vx e l::ps,.d v::as,i,r0,xs,b,bs,h,hr,R,k'=>by
   simp only[nP]at h;split at h;rename_i x m j q z r;split at h;simp only[aoz,apc]at h;obtain⟨_,rfl,rfl⟩:=h;exact UJ r (fun c k h=>hr c k (aqy _ h)) R k';cases h;cases h
 | [],_::_,_,_,_,_,_,h,_,_,_| .val _ _::_,[],_,_,_,_,_,h,_,_,_| .io _ _::_,[],_,_,_,_,_,h,_,_,_| .rd _::_,[],_,_,_,_,_,h,_,_,_| .vx _ _::_,[],_,_,_,_,_,h,_,_,_=>by simp[nP]at h
 | .val _ _::_,.no::_,_,_,_,_,_,h,_,_,_| .val _ _::_,.box _ _::_,_,_,_,_,_,h,_,_,_| .val _ _::_,.ptr ..::_,_,_,_,_,_,h,_,_,_| .val _ _::_,.ept ..::_,_,_,_,_,_,h,_,_,_
 | .val _ _::_,.rdp ..::_,_,_,_,_,_,h,_,_,_| .val _ _::_,.tup _::_,_,_,_,_,_,h,_,_,_| .val _ _::_,.g ..::_,_,_,_,_,_,h,_,_,_=>by simp[nP]at h
 | .vx _ _::_,.no::_,_,_,_,_,_,h,_,_,_| .vx _ _::_,.box _ _::_,_,_,_,_,_,h,_,_,_| .vx _ _::_,.ptr ..::_,_,_,_,_,_,h,_,_,_| .vx _ _::_,.ept ..::_,_,_,_,_,_,h,_,_,_
 | .vx _ _::_,.rdp ..::_,_,_,_,_,_,h,_,_,_| .vx _ _::_,.tup _::_,_,_,_,_,_,h,_,_,_| .vx _ _::_,.g ..::_,_,_,_,_,_,h,_,_,_=>by simp[nP]at h
theorem WN(N:Inv w0 c0 U E a w G){hs':List Nat}:∀ {ps:List PK} {as:List SV} {vals:List Value} {B i0:Nat} {r0:List (Nat×Nat)} {xs:iF (ps.map PK.ty)} {m bs:List (Nat×Nat)},
 nP E.rd ps as B r0=some (xs,m,bs)->(∀i,rn w G (as.getD i .no) (vals.getD i undef))->∀(R:iF (lu ps)) (k:Nat) (j:Nat) (t s:Nat),bs[j]?=some (t,s)->
 ∃b i u y τ,(Gf ps i0 B)[j]?=some (b,i0+i)/\(lu ps)[j]?=some τ/\(vC hs' ps R bs k)[j]?=some (t,s,y)/\y.τ=τ/\E.rd.box t=some (s,u)/\u.τ=τ/\vals.getD i undef=G.hdr t
 | [],[],vals,B,i0,r0,xs,m,bs,h,hs,R,k,j,t,s,hj=>by
   simp only[nP,aoz,apc]at h;obtain⟨_,rfl,rfl⟩:=h;simp at hj
 | .val τ p::ps,.d v::as,vals,B,i0,r0,xs,m,bs,h,hs,R,k,j,t,s,hj=>by
   simp only[nP]at h;split at h;rename_i x D q F Y H;split at h;simp only[aoz,apc]at h;obtain⟨_,rfl,rfl⟩:=h;obtain⟨b,i,u,y,I,q1,q2,q3,q4,q5,J,K⟩:=WN N (hs':=hs') (i0:=i0+1) (vals:=vals.drop 1) H (fun i=>by have:=hs (i+1);simpa[l9,F_]using this) R k j t s hj;exact⟨b,i+1,u,y,I,by simp only[Gf];rw[show i0+(i+1)=i0+1+i by omega];exact q1,q2,q3,q4,q5,J,by rw[<-K];simp[l9,F_]⟩;cases h;cases h
 | .io τ p::ps,sv::as,vals,B,i0,r0,xs,m,bs,h,hs,R,k,j,t,s,hj=>by
   simp only[nP]at h;split at h;rename_i t0 s0 v z;split at h;rename_i x D q F Y H;split at h;simp only[aoz,apc]at h;obtain⟨_,rfl,rfl⟩:=h;have S:=hs 0;simp only[aqs]at S;obtain⟨hslot,bk,c,el,b1,b2,_⟩:=YZ N z S
   have W:E.rd.box t0=some (s0,v):=by
    unfold Vk at z;split at z;rw[aqx]at z;obtain⟨r,hr,z⟩:=z;simp only[apc]at z;obtain⟨rfl,rfl,rfl⟩:=z;exact hr;cases z
   have hτ:v.τ=τ:=by
    have e:=Ea Y;rw[e]
   cases j with
   |zero=>
    simp only[arv,aoz,apc]at hj;obtain⟨rfl,rfl⟩:=hj;exact⟨B,0,v,⟨τ,R.1,(fQ p k hs').1⟩,τ,by simp[Gf],by simp[lu],by simp only[vC,arv],rfl,W,hτ,b2.symm⟩
   |succ j=>
    simp only[aqY]at hj;obtain⟨b,i,u,y,I,q1,q2,q3,q4,q5,J,K⟩:=WN N (hs':=hs') (i0:=i0+1) (vals:=vals.drop 1) H (fun i=>by have:=hs (i+1);simpa[l9,F_]using this) R.2 (fQ p k hs').2 j t s hj
    exact⟨b,i+1,u,y,I,by simp only[Gf,aqY];rw[show i0+(i+1)=i0+1+i by omega];exact q1,by simp only[lu,aqY];exact q2,
     by simp only[vC,aqY];exact q3,q4,q5,J,by rw[<-K];simp[l9,F_]⟩
   cases h;cases h;cases h
 | .rd τ::ps,sv::as,vals,B,i0,r0,xs,m,bs,h,hs,R,k,j,t,s,hj=>by
   simp only[nP]at h;split at h;split at h;rename_i x D q F Y H;split at h;simp only[aoz,apc]at h;obtain⟨_,rfl,rfl⟩:=h;obtain⟨b,i,u,y,I,q1,q2,q3,q4,q5,J,K⟩:=WN N (hs':=hs') (i0:=i0+1) (vals:=vals.drop 1) H (fun i=>by have:=hs (i+1);simpa[l9,F_]using this) R k j t s hj;exact⟨b,i+1,u,y,I,by simp only[Gf];rw[show i0+(i+1)=i0+1+i by omega];exact q1,q2,q3,q4,q5,J,by rw[<-K];simp[l9,F_]⟩;cases h;cases h;cases h
 | .vx e l::ps,.d v::as,vals,B,i0,r0,xs,m,bs,h,hs,R,k,j,t,s,hj=>by
   simp only[nP]at h;split at h;rename_i x D q F Y H;split at h;simp only[aoz,apc]at h;obtain⟨_,rfl,rfl⟩:=h;obtain⟨b,i,u,y,I,q1,q2,q3,q4,q5,J,K⟩:=WN N (hs':=hs') (i0:=i0+1) (vals:=vals.drop 1) H (fun i=>by have:=hs (i+1);simpa[l9,F_]using this) R k j t s hj;exact⟨b,i+1,u,y,I,by simp only[Gf];rw[show i0+(i+1)=i0+1+i by omega];exact q1,q2,q3,q4,q5,J,by rw[<-K];simp[l9,F_]⟩;cases h;cases h
 | [],_::_,_,_,_,_,_,_,_,h,_,_,_,_,_,_,_| .val _ _::_,[],_,_,_,_,_,_,_,h,_,_,_,_,_,_,_| .io _ _::_,[],_,_,_,_,_,_,_,h,_,_,_,_,_,_,_| .rd _::_,[],_,_,_,_,_,_,_,h,_,_,_,_,_,_,_
 | .vx _ _::_,[],_,_,_,_,_,_,_,h,_,_,_,_,_,_,_=>by simp[nP]at h
 | .val _ _::_,.no::_,_,_,_,_,_,_,_,h,_,_,_,_,_,_,_| .val _ _::_,.box _ _::_,_,_,_,_,_,_,_,h,_,_,_,_,_,_,_| .val _ _::_,.ptr ..::_,_,_,_,_,_,_,_,h,_,_,_,_,_,_,_
 | .val _ _::_,.ept ..::_,_,_,_,_,_,_,_,h,_,_,_,_,_,_,_| .val _ _::_,.rdp ..::_,_,_,_,_,_,_,_,h,_,_,_,_,_,_,_| .val _ _::_,.tup _::_,_,_,_,_,_,_,_,h,_,_,_,_,_,_,_
 | .val _ _::_,.g ..::_,_,_,_,_,_,_,_,h,_,_,_,_,_,_,_| .vx _ _::_,.no::_,_,_,_,_,_,_,_,h,_,_,_,_,_,_,_| .vx _ _::_,.box _ _::_,_,_,_,_,_,_,_,h,_,_,_,_,_,_,_
 | .vx _ _::_,.ptr ..::_,_,_,_,_,_,_,_,h,_,_,_,_,_,_,_| .vx _ _::_,.ept ..::_,_,_,_,_,_,_,_,h,_,_,_,_,_,_,_| .vx _ _::_,.rdp ..::_,_,_,_,_,_,_,_,h,_,_,_,_,_,_,_
 | .vx _ _::_,.tup _::_,_,_,_,_,_,_,_,h,_,_,_,_,_,_,_| .vx _ _::_,.g ..::_,_,_,_,_,_,_,_,h,_,_,_,_,_,_,_=>by simp[nP]at h
theorem Wp:∀ {τ:Ty} {x:τ.den} {sh:Sh} {cs:List Value} {p:List Bool} {t:Nat},kE w G τ x sh cs->Sq sh p=some t->cs[τ.off p]?=some (G.hdr t)/\4<=t/\t∈sh.cO
 | .sl e,l,.sl (.row u hs nd),cs,[],t,h,hr=>by
   simp only[Sq,aoz]at hr;subst hr;obtain⟨v,rfl,j,k,_⟩:=h;exact⟨by simp[Ty.off,k],j,by simp[Sh.cO,M.cO]⟩
 | .pair a b,x,.pair s1 s2,cs,false::p,t,h,hr=>by
   obtain⟨c,m,rfl,d,i⟩:=h;simp only[Sq]at hr;obtain⟨q1,q2,q3⟩:=Wp d hr;refine⟨?_,q2,by simp[Sh.cO,q3]⟩;simp only[Ty.off];rw[List.getElem?_append_left];exact q1;rcases Nat.lt_or_ge (a.off p) c.length with h|h;exact h;rw[aqV h]at q1;cases q1
 | .pair a b,x,.pair s1 s2,cs,true::p,t,h,hr=>by
   obtain⟨c,m,rfl,d,i⟩:=h;simp only[Sq]at hr;obtain⟨q1,q2,q3⟩:=Wp i hr;refine⟨?_,q2,by simp[Sh.cO,q3]⟩;have hl:c.length=a.sz:=kE.len d;simp only[Ty.off];rw[List.getElem?_append_right (by omega),show a.sz+b.off p-c.length=b.off p by omega];exact q1
 | .int _,_,.sl _,_,_,_,h,_| .bool,_,.sl _,_,_,_,h,_| .str,_,.sl _,_,_,_,h,_| .pair _ _,_,.sl _,_,_,_,h,_| .int _,_,.pair _ _,_,_,_,h,_| .bool,_,.pair _ _,_,_,_,h,_
 | .str,_,.pair _ _,_,_,_,h,_| .sl _,_,.pair _ _,_,_,_,h,_=>h.elim
 |_,_,.leaf,_,_,_,_,h=>by simp[Sq]at h
 |_,_,.sl (.sha _),_,_,_,_,h|_,_,.sl .dead,_,_,_,_,h=>by simp[Sq]at h
 |_,_,.sl (.row _ _ _),_,_::_,_,_,h=>by simp[Sq]at h
 |_,_,.pair _ _,_,[],_,_,h=>by simp[Sq]at h
end
theorem aiS:∀ {L:List SV} {b:List TV},Wa L=some b->L.length=b.length/\∀i v,b[i]?=some v->L.getD i .no= .d v
 | [],b,h=>by simp only[Wa,aoz]at h;subst h;simp
 | .d v::L,b,h=>by
   simp only[Wa,aqx]at h;obtain⟨vs',j,rfl⟩:=h;obtain⟨k,l⟩:=aiS j;refine⟨by simp[k],fun i e c=> ?_⟩;cases i with
   |zero=>simp at c|-;exact c
   |succ i=>simp at c;simpa using l i e c
 | .no::_,_,h| .box _ _::_,_,h| .ptr ..::_,_,h| .ept ..::_,_,h| .rdp ..::_,_,h| .tup _::_,_,h| .g ..::_,_,h=>by simp[Wa]at h
theorem aiI:∀ {L:List SV} {c:List TV},Wa L=some c->∀v∈c,SV.d v∈L
 | [],c,h,v,b=>by simp only[Wa,aoz]at h;subst h;simp at b
 | .d u::L,c,h,v,b=>by
   simp only[Wa,aqx]at h;obtain⟨vs',e,rfl⟩:=h;simp only[i_]at b;rcases b with rfl|b;simp;exact aqm _ (aiI e v b)
 | .no::_,_,h,_,_| .box _ _::_,_,h,_,_| .ptr ..::_,_,h,_,_| .ept ..::_,_,h,_,_| .rdp ..::_,_,h,_,_| .tup _::_,_,h,_,_| .g ..::_,_,h,_,_=>by simp[Wa]at h
section
variable{P:Program}{C:Cx}{w0:World}{c0:C0}{U:Nat->Prop}{E:Env}{a:Act}{w:World}{G:Gh}{ops:List Oper}{g:Option (Nat×Bool)}
def aff(L:List SV):(∃sv,L=[sv]/\Tu L=sv)\/(∀sv,L≠ [sv])/\((∃b,Wa L=some b/\Tu L= .tup b)\/Tu L= .no):=by
 match L with
 | [sv]=>exact .inl ⟨sv,rfl,rfl⟩
 | []=>exact .inr ⟨by simp,.inl ⟨[],rfl,rfl⟩⟩
 |x::y::l=>
  refine .inr ⟨by simp,?_⟩;cases h:Wa (x::y::l)with
  |none=>right;simp[Tu,h]
  |some b=>left;exact⟨b,rfl,by simp[Tu,h]⟩
def ans{b:List Value}(h:∀v,b≠ [v]):Y8 b= .tuple b.toArray:=by
 match b,h with
 | [],_=>rfl
 | [v],h=>exact absurd rfl (h v)
 |_::_::_,_=>rfl
def an5{L:List SV}{b:List Value}(d:b.length=L.length)(h:∀i,rn w G (L.getD i .no) (b.getD i undef)):rn w G (Tu L) (Y8 b):=by
 rcases aff L with⟨sv,rfl,e⟩|⟨m,⟨ts,p,e⟩|e⟩;rw[e];have:=h 0
 match b,d with
 | [v],_=>simpa[Y8]using this
 rw[e,ans (fun v l=>by
  subst l;simp only[ary]at d
  match L,d with
  | [sv],_=>exact m sv rfl)]
 obtain⟨g1,q⟩:=aiS p;refine⟨b,rfl,by omega,fun i v j=> ?_⟩;have hs:=h i;rw[q i v j]at hs;obtain⟨r,k,s⟩:=hs
 have c:i<b.length:=by
  have:=(aq6.1 j).1;omega
 rw[l9,aqu c]at k;exact⟨_,r,aqu c,k,s⟩;rw[e];trivial
def amw{L:List SV}(h:∀sv∈L,lg U G sv):lg U G (Tu L):=by
 rcases aff L with⟨sv,rfl,e⟩|⟨_,⟨ts,b,e⟩|e⟩;rw[e];exact h sv (by simp);rw[e];refine⟨fun c hc=> ?_,by simp[SV.bt],by simp[SV.rt]⟩;simp only[SV.sc,aqX]at hc;obtain⟨v,d,hc⟩:=hc;exact(h _ (aiI b v d)).1 c hc;rw[e];simp[lg,SV.sc,SV.bt,SV.rt]
def Wi(G c G':Gh)(n k0 tk:Nat)(d:List Nat):Gh:=
 ⟨fun b=>if 4<=G'.col b then(if k0<=G'.col b/\G'.col b<k0+32 then tk+(G'.col b-k0)else if b<n then G.col b else 0)
  else if G'.col b=2 then 2 else if G'.col b=1\/G'.col b=3 then G.col b else if b<n/\c.col b=0 then G.col b else 0,
  fun u=>if tk<=u/\u<tk+32 then G'.hdr (k0+(u-tk))else G.hdr u,
  fun u=>if tk<=u/\u<tk+32 then d.contains u else G.bx u⟩
def alY(G c G':Gh)(n k0 tk:Nat)(d:List Nat)(b:Nat):
 (k0<=G'.col b/\G'.col b<k0+32/\4<=G'.col b/\(Wi G c G' n k0 tk d).col b=tk+(G'.col b-k0))\/
 (4<=G'.col b/\b<n/\(Wi G c G' n k0 tk d).col b=G.col b/\¬(k0<=G'.col b/\G'.col b<k0+32))\/
 (4<=G'.col b/\(Wi G c G' n k0 tk d).col b=0)\/(G'.col b=2/\(Wi G c G' n k0 tk d).col b=2)\/((G'.col b=1\/G'.col b=3)/\(Wi G c G' n k0 tk d).col b=G.col b)\/
 (G'.col b=0/\b<n/\c.col b=0/\(Wi G c G' n k0 tk d).col b=G.col b)\/(G'.col b=0/\(Wi G c G' n k0 tk d).col b=0/\¬(b<n/\c.col b=0)):=by
 simp only[Wi];by_cases j:4<=G'.col b;simp only[j,if_true,true_and];by_cases h:k0<=G'.col b/\G'.col b<k0+32;simp only[h,and_self,if_true];left;trivial;simp only[h,if_false];by_cases e:b<n;right;left;simp[e];right;right;left;simp[e];simp only[j,if_false,false_and,and_false,false_or];by_cases l:G'.col b=2;simp[l];by_cases i:G'.col b=1\/G'.col b=3;rcases i with i|i<;>simp[i];have k:G'.col b=0:=by omega
 have h1':¬(0=1\/0=3):=by omega
 by_cases e:b<n/\c.col b=0;simp[k,e];simp[k,e]
def apK(D:Inv w0 c0 U E a w G){j:Ou}{as:List SV}{vals:List Value}{xs:iF (j.ps.map PK.ty)}{J bs:List (Nat×Nat)}
 (R0:ajz j.ps j.rs=true) (hg:nP E.rd j.ps as 4 []=some (xs,J,bs)) (hs:∀i,rn w G (as.getD i .no) (vals.getD i undef)/\lg U G (as.getD i .no)) (hr:aeo J=true)
 {G1:Gh} (w2:∀b,G1.col b=(J.lookup (G.col b)).getD 0) {y:iF (j.rs.map RK.ty++lu j.ps)} {mv:Value} {w':World} {G':Gh} {vs:List Value} {nt:Nat} (F:Z1 j w G1 vals y mv w' G' vs nt)
 {tk:Nat} (h3:4<=tk) (hU:∀u,tk<=u->u<tk+32->¬U u) (h32:Wc j.ps (zX j.rs 0)<=32) {hs' l:List Nat}
 (x1:hs'=(2::(J.filter (·.2=1)).map (·.1)).eraseDups) (b1:l=((J.filter (4<=·.2)).map (·.1)).filter fun c=> !bs.any (·.1=c)):
 ∃G2,Inv w0 c0 (fun u=>U u\/(tk<=u/\u<tk+32)) {E.kill l with s:=od (vC hs' j.ps (jh j.rs (lu j.ps) y tk hs').2.1 bs (jh j.rs (lu j.ps) y tk hs').2.2) (E.kill l).s} a w' G2/\
  rn w' G2 (Tu (jh j.rs (lu j.ps) y tk hs').1) mv/\lg (fun u=>U u\/(tk<=u/\u<tk+32)) G2 (Tu (jh j.rs (lu j.ps) y tk hs').1)/\
  (∀t u,Tu (jh j.rs (lu j.ps) y tk hs').1= .box t u->∀s u',
   (od (vC hs' j.ps (jh j.rs (lu j.ps) y tk hs').2.1 bs (jh j.rs (lu j.ps) y tk hs').2.2) (E.kill l).s).getD s .no≠ .box t u')/\
  (∀u u',(u,u')∈ZU E.rd bs (vC hs' j.ps (jh j.rs (lu j.ps) y tk hs').2.1 bs (jh j.rs (lu j.ps) y tk hs').2.2) j.kp->
   G2.hdr u'=G.hdr u/\4<=u'/\Good (fun u=>U u\/(tk<=u/\u<tk+32)) G2 u')/\
  (∀t s v,(t,s,v)∈vC hs' j.ps (jh j.rs (lu j.ps) y tk hs').2.1 bs (jh j.rs (lu j.ps) y tk hs').2.2->∃v0,E.s.getD s .no= .box t v0):=by
 obtain⟨hl,_,o2⟩:=Wt D hg hs (r_ _);have y2:∀c k,(c,k)∈J->ajw U G j.ps 4 bs c k:=fun c k h=>(o2 c k h).resolve_right (by simp);have A2:=Nl j.ps 4;generalize hk:qa j.ps 4=k0 at A2
 have p0:∀c k,(c,k)∈J->(k=1/\0<c/\U c/\(G.bx c=false\/afO j.ps=true))\/(4<=k/\k<k0/\4<=c/\((Good U G c/\k∉sr j.ps 4)\/(k∈sr j.ps 4/\U c/\G.bx c=true/\∃s,(c,s)∈bs)))\/(c=3/\k=3):=by
  intro c k h;have:=y2 c k h;rw[<-hk];exact this
 generalize Y:Wi G G1 G' w.heap.size k0 tk (P0 j.rs tk)=G2;have K:=fun b=>alY G G1 G' w.heap.size k0 tk (P0 j.rs tk) b;rw[Y]at K;have F1:=aby (w':=w') (G':=G') (G2:=G2) (k0:=k0) (n:=k0+32) h3 (rs:=j.rs) (rest:=lu j.ps) (y:=y) (k:=k0) (r_ _) hs';simp only[ars,art]at F1;obtain⟨c3,k3,l3,n3,o3,p2⟩:=F1;have J1:zX j.rs k0=zX j.rs 0+k0:=by have:=XD j.rs 0 k0;rwa [aq7]at this
 have hnt2:Wc j.ps (zX j.rs k0)=Wc j.ps (zX j.rs 0)+k0:=by rw[J1];exact aaU _ _ _
 have hge1:=Xz j.ps (zX j.rs k0);have L1:=Ts j.rs k0;have l1:∀u,U u->¬(tk<=u/\u<tk+32):=fun u W h=>hU u h.1 h.2 W;have n1:∀u,U u->G2.hdr u=G.hdr u:=fun u W=>by rw[<-Y];exact a_ (l1 u W)
 have b0:∀u,U u->G2.bx u=G.bx u:=fun u W=>by rw[<-Y];exact a_ (l1 u W)
 have N:∀b,(G1.col b=0)\/(G1.col b=1/\(G.col b,1)∈J)\/(4<=G1.col b/\G1.col b<k0/\(G.col b,G1.col b)∈J/\4<=G.col b)\/(G1.col b=3/\G.col b=3):=by
  intro b;rw[w2 b];cases hq:J.lookup (G.col b)with
  |none=>left;simp
  |some k=>
   simp only[aqG];have hm:=N4 hq;rcases p0 _ _ hm with⟨rfl,_⟩|⟨q1,q2,q3,_⟩|⟨q1,q2⟩
   ·exact .inr (.inl ⟨rfl,hm⟩)
   ·exact .inr (.inr (.inl ⟨q1,q2,hm,q3⟩))
   ·exact .inr (.inr (.inr ⟨q2,q1⟩))
 have o1:amc G' G2 k0 (k0+32) tk hs':=by
  refine⟨fun u W hu2=>⟨?_,fun b x=> ?_⟩,fun b x=> ?_,fun b x=> ?_,fun e=> ?_⟩
  rotate_right
  ·have m:2∈hs':=by rw[x1,aq0];simp
   rw[e]at m;simp at m
  ·rw[<-Y];simp only[Wi];rw[an (by omega)];congr 1;omega
  ·rcases K b with⟨_,_,_,h⟩|⟨q1,q2,q3,q4⟩|⟨q1,q2⟩|h|h|h|h
   ·rw[h,x]
   ·omega
   ·rw[<-Y];simp only[Wi];rw[an q1,an (by omega),x]
   ·omega
   ·omega
   ·omega
   ·omega
  ·rw[x1,aq0];simp only[i_,aqB,or_false]at x;rcases x with x|x
   ·have:G2.col b=2:=by
     rcases K b with h|h|h|h|h|h|h<;>omega
    simp[this]
   ·have H:=(F.one b (.inl x)).2
    have:G2.col b=G.col b:=by
     rcases K b with h|h|h|h|h|h|h<;>omega
    rw[this];rcases N b with h|⟨_,h⟩|h|h
    ·omega
    ·refine aqm _ (aqv.2 ⟨(G.col b,1),?_,rfl⟩);simp[h]
    ·omega
    ·omega
  ·have H:=(F.one b (.inr x)).2;rcases N b with h|h|h|h
   ·omega
   ·omega
   ·omega
   ·rcases K b with h'|h'|h'|h'|h'|h'|h'<;>omega
 have B2:∀c,c∈l->Good U G c/\4<=c/\∀s,(c,s)∉bs:=by
  intro c hc;rw[b1]at hc;simp only[aqJ,aqv,aqA,arF,b_]at hc;obtain⟨⟨⟨c',k⟩,⟨H,m⟩,rfl⟩,h4⟩:=hc;have M1:∀s,(c',s)∉bs:=fun s h=>h4 (c',s) h rfl;rcases p0 _ _ H with⟨rfl,_⟩|⟨_,_,h5,⟨h6,_⟩|⟨_,_,_,s,h6⟩⟩|⟨_,rfl⟩
  rotate_right
  ·simp at m
  ·simp at m
  ·exact⟨h6,h5,M1⟩
  ·exact absurd h6 (M1 s)
 have G0:∀b,4<=G1.col b->G.col b∈l\/∃s,(G.col b,s)∈bs:=by
  intro b x;rcases N b with h|⟨h,_⟩|⟨_,_,h,_⟩|⟨h,_⟩
  rotate_right
  ·omega
  ·omega
  ·omega
  ·by_cases r0:∃s,(G.col b,s)∈bs
   ·exact .inr r0
   ·left;rw[b1];simp only[aqJ,aqv,aqA,arF,b_];refine⟨⟨(G.col b,G1.col b),⟨h,x⟩,rfl⟩,fun p F e=>r0 ⟨p.2,?_⟩⟩;rw[<-e];exact F
 obtain⟨S,E0⟩:=aaC D (k0:=k0) (tk:=tk) (hs':=hs') (i0:=0) hg (fun i=>(hs i).1) (jh j.rs (lu j.ps) y k0 [2,1]).2.1 (zX j.rs k0) L1;have X1:=(UJ (hs':=hs') (rhoT:=J) hg (fun c k h=>aaO hr h) (jh j.rs (lu j.ps) y k0 [2,1]).2.1 (tk+(zX j.rs k0-k0))).1;rw[c3,k3];generalize C2:vC hs' j.ps (jh j.rs (lu j.ps) y k0 [2,1]).2.1 bs (tk+(zX j.rs k0-k0))=Io2 at S E0 X1|-
 have r0:∀t s,(t,s)∈bs->∃v0,E.s.getD s .no= .box t v0:=by
  intro t s h;obtain⟨v2,m⟩:=E0 t s h;obtain⟨h0,i,v1,p,k1,v0,_,_,_,q4,_⟩:=S t s v2 m;exact⟨v0,q4⟩
 have hK:=D.kill l;have hD:=hK.alf Io2
 have s0:∀s,(MM Io2 (E.kill l).s).getD s .no=(E.kill l).s.getD s .no\/(MM Io2 (E.kill l).s).getD s .no= .no:=by
  intro s;by_cases h:∃t v,(t,s,v)∈Io2
  ·exact .inr (Xc Io2 _ s h).1
  ·exact .inl (V8 Io2 _ s (fun t v hh=>h ⟨t,v,hh⟩))
 have D2:∀s,∀c∈((MM Io2 (E.kill l).s).getD s .no).hc,c∉l++bs.map (·.1):=by
  intro s c hc B
  have E2:(MM Io2 (E.kill l).s).getD s .no=(E.kill l).s.getD s .no:=by
   rcases s0 s with h|h
   ·exact h
   ·rw[h]at hc;simp[SV.hc,SV.sc]at hc
  have F2:∀t v,(t,s,v)∉Io2:=by
   intro t v h;have:=(Xc Io2 (E.kill l).s s ⟨t,v,h⟩).1;rw[this]at hc;simp[SV.hc,SV.sc]at hc
  rw[E2]at hc
  have p1:c∈((E.kill l).s.getD s .no).sc->False:=by
   intro h;rcases l8.1 B with m|m
   ·exact(Env.aax E l s c h).2 m
   ·simp only[aqv]at m;obtain⟨⟨t,s2⟩,m,rfl⟩:=m;obtain⟨v0,h4⟩:=r0 t s2 m;have h5:=D.bt s2 t (by rw[h4];simp[SV.bt]);have h6:=hK.sc s t h;rw[h6.2.2]at h5;simp at h5
  cases I:(E.kill l).s.getD s .no with
  |box t v=>
   rw[I]at hc;rcases i_.1 hc with rfl|hc
   ·have h5:=hK.bt s c (by rw[I];simp[SV.bt]);rcases l8.1 B with m|m
    ·rw[(B2 c m).1.2.2]at h5;simp at h5
    ·simp only[aqv]at m;obtain⟨⟨t,s2⟩,m,rfl⟩:=m;obtain⟨v2,h7⟩:=E0 t s2 m;obtain⟨v0,h4⟩:=r0 t s2 m
     have h8:∃v',E.s.getD s .no= .box t v':=by
      rw[Env.ac0]at I;split at I
      ·exact⟨v,I⟩
      ·exact aaI I
     obtain⟨v',h8⟩:=h8;have:=D.uni s s2 t v' v0 h8 h4;subst this;exact F2 t v2 h7
   ·exact p1 (by rw[I];exact hc)
  |_=>rw[I]at hc;exact p1 (by rw[I];exact hc)
 have y1:∀b,0<G.col b->G.col b∉l++bs.map (·.1)->w'.heap[b]?=w.heap[b]?/\G2.col b=G.col b:=by
  intro b x hn;have u0:=D.lt b x
  have H:G1.col b<4:=by
   rcases Nat.lt_or_ge (G1.col b) 4 with h|h
   ·exact h
   ·exfalso;rcases G0 b h with h|⟨s,h⟩
    ·exact hn (aq3 _ h)
    ·exact hn (aqy _ (aqv.2 ⟨_,h,rfl⟩))
  have hf:=F.frame b u0 H;refine⟨hf.2,?_⟩;have m:G1.col b≠2:=by rcases N b with h|h|h|h<;>omega
  rcases K b with h|h|h|h|h|h|h<;>omega
 have L0:∀b,b<w0.heap.size->c0.col b<4->G2.col b=c0.col b/\w'.heap[b]?=w0.heap[b]?:=by
  intro b x hc;have hf:=D.frame b x hc;have u0:b<w.heap.size:=arh x D.size;have H:G1.col b<4/\G1.col b≠2:=by rcases N b with h|h|h|h<;>omega
  have H2:=F.frame b u0 H.1;refine⟨?_,H2.2.trans hf.2⟩;rw[<-hf.1];rcases K b with h|h|h|h|h|h|h<;>omega
 have hC:=hD.change (U':=fun u=>U u\/(tk<=u/\u<tk+32)) (w':=w') (G':=G2) D2 y1 (fun t ht=>⟨n1 t ht,b0 t ht⟩) (fun c hc=> .inl hc)
  (fun b x=>by
   rcases K b with h|⟨_,_,h,_⟩|h|⟨_,h⟩|⟨_,h⟩|⟨_,_,_,h⟩|h
   ·right;omega
   ·rw[h]at x|-;exact .inl (D.colU b x)
   ·omega
   ·rw[h];exact .inl D.two.1.1
   ·rw[h]at x|-;exact .inl (D.colU b x)
   ·rw[h]at x|-;exact .inl (D.colU b x)
   ·omega)
  (fun b x=>by
   rcases K b with h|h|h|h|h|h|h
   ·exact F.lt b (by omega)
   ·exact F.lt b (by omega)
   ·exact F.lt b (by omega)
   ·exact F.lt b (by omega)
   ·exact F.lt b (by omega)
   ·exact arh h.2.1 F.size
   ·omega)
  (fun b x=>by
   rcases K b with h|h|h|h|h|h|h
   ·exact F.fresh b (by omega)
   ·exact F.fresh b (by omega)
   ·exact F.fresh b (by omega)
   ·omega
   ·have H:=F.one b h.1;rw[(F.frame b H.1 (by omega)).2];exact D.fresh b (by omega)
   ·rw[(F.frame b h.2.1 (by omega)).2];exact D.fresh b (by omega)
   ·omega)
  L0
  (fun b x=>by
   rcases K b with h|h|h|h|h|h|h<;>omega)
  F.size F.os F.tape F.output
 have e0:((j.rs.any fun r=>r.pt.Xb)=true\/acA j.ps=true)->∀c∈hs',Good (fun u=>U u\/(tk<=u/\u<tk+32)) G2 c:=by
  intro u2 c hc
  have J2:afO j.ps=false:=by
   simp only[ajz,Q_,ard,aqA,Bool.or_eq_false_iff]at R0;rcases R0.2 with h|⟨H,m⟩
   ·exact h
   ·rcases u2 with h|h
    ·rw[h]at H;cases H
    ·rw[h]at m;cases m
  rw[x1,aq0,i_]at hc;rcases hc with rfl|hc
  ·exact⟨by omega,.inl D.two.1.1,(b0 2 D.two.1.1).trans D.two.1.2⟩
  ·simp only[aqv,aqJ,b_]at hc;obtain⟨⟨c',k⟩,⟨H,m⟩,rfl⟩:=hc;simp only at m;subst m;rcases p0 _ _ H with⟨_,q1,q2,q3⟩|h|h
   ·exact⟨q1,.inl q2,(b0 c' q2).trans (q3.resolve_right (by simp[J2]))⟩
   ·omega
   ·omega
 have b2:Good (fun u=>U u\/(tk<=u/\u<tk+32)) G2 3:=⟨by omega,.inl D.two.2.1,(b0 3 D.two.2.1).trans D.two.2.2⟩
 have j0:∀c∈P0 j.rs tk,tk<=c/\c<tk+(zX j.rs k0-k0):=by
  intro c hc;have H:=XZ c hc;have m:=XD j.rs 0 tk;rw[aq7]at m;omega
 have u1:∀t s v,(t,s,v)∈Io2->rn w' G2 (.box t v) (a.tmps.getD s undef)/\lg (fun u=>U u\/(tk<=u/\u<tk+32)) G2 (.box t v):=by
  rintro t s ⟨τ2,x2,sh2⟩ B;obtain⟨h0,i,v1,p,k1,v0,q1,q2,q3,q4,q5,q6,q7,rfl,q9,p3⟩:=S t s _ B;simp only at q9;subst q9
  have c2:=F.ios h0 i ⟨τ2,x2,(fQ p k1 [2,1]).1⟩ (by
   rw[hk,l3];rw[aq7]at q1;exact q1)
  obtain⟨bk,c,el,e1,e2,e3,e4,e5,e6⟩:=c2;have x0:=D.slots s;rw[q4]at x0;obtain⟨C1,c',el',f1,f2,f3,f4,_⟩:=x0;rw[q5,f3,f1]at e1;simp only[Value.pointer.injEq,aoz,Addr.mk.injEq,and_true]at e1;subst e1;have L2:=BP h0 q3;rw[hk]at L2;have z1:=(D.bt s t (by rw[q4];simp[SV.bt])).2.1;have u0:=D.lt C1 (by omega);refine⟨⟨C1,c,el,f1,f2,(n1 t z1).trans f3,?_,e5,?_⟩,fun d hd=> ?_,fun d hd=> ?_,by simp[SV.rt]⟩
  ·rw[<-Y];simp only[Wi];rw[an (by omega),a_ (by omega),an u0];exact f4
  ·exact aeU o1 h3 (by omega) (by omega) e6
  ·rcases SR d hd with h|⟨H,m⟩|rfl
   ·exact e0 (.inr (p3 h.2)) d h.1
   rotate_left
   ·exact b2
   ·have e7:eV p (tk+(k1-k0))=tk+(eV p k1-k0):=by
     rw[show tk+(k1-k0)=(k1-k0)+tk by omega,Cg];have:=Cg p (k1-k0) k0;rw[show k1-k0+k0=k1 by omega]at this;have:=mL p k1;omega
    have h5:d<tk+32:=by omega
    refine⟨by omega,.inr ⟨by omega,h5⟩,?_⟩;rw[<-Y];simp only[Wi];rw[an (by omega)];simp only[W',d_];intro E1;have:=j0 d E1;omega
  ·simp only[SV.bt,aqT]at hd;subst hd;have h:=D.bt s d (by rw[q4];simp[SV.bt]);exact⟨h.1,.inl h.2.1,(b0 d h.2.1).trans h.2.2⟩
 have b3:∀ {s t v},(E.kill l).s.getD s .no= .box t v->∃v',E.s.getD s .no= .box t v':=by
  intro s t v h;rw[Env.ac0]at h;split at h
  ·exact⟨v,h⟩
  ·exact aaI h
 have hF:=hC.amK Io2 u1 X1 (fun t s v B s' u he=>by
  obtain⟨h0,i,v1,p,k1,v0,_,_,_,q4,_⟩:=S t s v B
  have H:(E.kill l).s.getD s' .no= .box t u:=by
   rcases s0 s' with h|h
   ·exact h.symm.trans he
   ·have:SV.no= .box t u:=h.symm.trans he;cases this
  obtain⟨v',m⟩:=b3 H;have:=D.uni s' s t v' v0 m q4;subst this;have h3:SV.no= .box t u:=(Xc Io2 (E.kill l).s s' ⟨t,v,B⟩).1.symm.trans he;cases h3)
 simp only[anA]at hF;have k2:=o3 o1 (by omega) vs (fun i=>by have:=F.res i;rw[hk]at this;exact this)
 have A1:∀u u',(u,u')∈ZU E.rd bs Io2 j.kp->G2.hdr u'=G.hdr u/\4<=u'/\Good (fun u=>U u\/(tk<=u/\u<tk+32)) G2 u':=by
  intro u u' W;unfold ZU at W;simp only[arE]at W;obtain⟨q,hq,W⟩:=W;split at W
  ·rename_i b z x hz;split at W
   ·rename_i rr w1;split at W
    ·rename_i a1 a2 e1 e2;simp only[aoz,apc]at W;obtain⟨rfl,rfl⟩:=W;obtain⟨h0,i,v0,v2,τ,g1,g2,g3,g4,g5,g6,g7⟩:=WN D (hs':=hs') (i0:=0) hg (fun i=>(hs i).1) (jh j.rs (lu j.ps) y k0 [2,1]).2.1 (tk+(zX j.rs k0-k0)) q.1 b.1 b.2 x;rw[C2]at g3;rw[hz]at g3;simp only[aoz]at g3;subst g3;rw[g5]at w1;simp only[aoz]at w1;subst w1;have l2:=aqO hz;have n2:=u1 b.1 b.2 v2 l2;obtain⟨H,bk,c,el,f1,f2,f3,f4,f5⟩:=D.box g5;have x0:=D.slots b.2;rw[H]at x0;obtain⟨C1,r3,s3,D1,k2',u3,k4',w3,x3⟩:=x0;obtain⟨B3,c1,G3,j1,j2,j3,j4,j5,j6⟩:=n2.1;rw[j1]at D1;simp only[Value.pointer.injEq,aoz,Addr.mk.injEq,and_true]at D1;subst D1;have r1:=Wp x3 e1;have r2:=Wp j6 e2;have B1:=F.kept q hq h0 (0+i) τ g1 g2 B3 r3 s3 c1 G3 (by rw[aq7,g7,u3,j1]) w3 j5;rw[g4]at r2;simp only[g6]at r1;rw[r1.1,r2.1]at B1;simp only[aoz]at B1;exact⟨B1,r2.2.1,n2.2.1 _ r2.2.2⟩
    ·cases W
   ·cases W
  ·cases W
 refine⟨G2,hF,?_,?_,fun t u he s u' o0=> ?_,A1,fun t s v B=> ?_⟩
 rotate_right
 ·obtain⟨h0,i,v1,p,k1,v0,_,_,_,q4,_⟩:=S t s v B;exact⟨v0,q4⟩
 ·rw[F.val];exact an5 (by rw[F.len,n3]) k2
 ·refine amw (fun sv I=> ?_);obtain⟨H,m,h4⟩:=p2 sv I;refine⟨fun c hc=> ?_,fun c hc=> ?_,by rw[h4];simp⟩
  ·rcases H c hc with(h|rfl)|⟨q1,q2,q3⟩
   ·exact e0 (.inl h.2) c h.1
   ·exact b2
   ·refine⟨by omega,.inr ⟨q1,by omega⟩,?_⟩;rw[<-Y];simp only[Wi];rw[an (by omega)];simpa using q3
  ·have x:=j0 c (m c hc);refine⟨by omega,.inr ⟨x.1,by omega⟩,?_⟩;rw[<-Y];simp only[Wi];rw[an (by omega)];simpa using m c hc
 ·have ht:t∈P0 j.rs tk:=by
   rcases aff (jh j.rs (lu j.ps) y tk hs').1 with⟨sv,hL,e⟩|⟨_,⟨ts,_,e⟩|e⟩
   ·rw[e]at he;subst he;exact(p2 (.box t u) (by rw[hL];simp)).2.1 t (by simp[SV.bt])
   ·rw[e]at he;cases he
   ·rw[e]at he;cases he
  have x:=j0 t ht
  have z1:U t:=by
   rcases Y4 Io2 (E.kill l).s s with h|⟨t',v',H,m⟩
   ·rw[h]at o0;exact(hK.bt s t (by rw[o0];simp[SV.bt])).2.1
   ·rw[m]at o0;simp only[SV.box.injEq]at o0;obtain⟨h0,i,v1,p,k1,v0,_,_,_,q4,_⟩:=S t' s v' H;rw[<-o0.1];exact(D.bt s t' (by rw[q4];simp[SV.bt])).2.1
  exact hU t x.1 (by omega) z1
theorem Z3(s:Nat):∀(l:List (Nat×Nat×TV)) {L L':List SV},L.length=L'.length->(od l L).getD s .no=(od l L').getD s .no\/((od l L).getD s .no=L.getD s .no/\(od l L').getD s .no=L'.getD s .no)
 | [],_,_,_=> .inr ⟨rfl,rfl⟩
 |(t,s0,v)::l,L,L',hl=>by
  simp only[od];rcases Z3 s l (L:=L.set s0 (.box t v)) (L':=L'.set s0 (.box t v)) (by simpa using hl)with h|⟨h1,h2⟩;exact .inl h;rw[h1,h2,CS,CS,hl];by_cases e:s=s0/\s0<L'.length;left;rw[an e,an e];right;rw[a_ e,a_ e];exact⟨rfl,rfl⟩
def Zd(E:Env)(ts:List Nat)(b:List (Nat×Nat)):(E.qn ts b).s.length=E.s.length:=by
 unfold Env.qn;split;unfold Env.kill;split<;>simp;simp
def ad0(E:Env)(ts:List Nat)(c:List (Nat×Nat))(s:Nat):(E.qn ts c).s.getD s .no=(E.kill ts).s.getD s .no\/
 ∃b d e i o p τ,E.s.getD s .no= .ept b e i o p τ/\c.lookup b=some d/\(E.qn ts c).s.getD s .no= .ept d e i o p τ:=by
 unfold Env.qn;split;exact .inl rfl;have j:SV.qn ts c .no= .no:=by simp only[SV.qn];split<;>rfl
 simp only[getD_map j]
 have k:(E.kill ts).s.getD s .no=if ts.isEmpty then E.s.getD s .no else(E.s.getD s .no).kill ts:=by
  unfold Env.kill;split;rfl;exact getD_map (T:=SV.kill ts) rfl s
 rw[k];cases hs:E.s.getD s .no with
 |ept b e i o p τ=>
  cases h:c.lookup b with
  |none=>left;simp only[SV.qn,h]
  |some d=>right;exact⟨b,d,e,i,o,p,τ,rfl,h,by simp only[SV.qn,h]⟩
 |_=>left;simp only[SV.qn]
theorem Inv.upd{c:Env}(b:Inv w0 c0 U E a w G)(B:c.s.length=E.s.length)(hk:c.kp=E.kp)
 (h:∀s,c.s.getD s .no=E.s.getD s .no\/(rn w G (c.s.getD s .no) (a.tmps.getD s undef)/\lg U G (c.s.getD s .no)/\∀t v,c.s.getD s .no≠ .box t v)):Inv w0 c0 U c a w G:=by
 refine {b with len:=b.len.trans B.symm,slots:=fun s=> ?_,sc:=fun s=> ?_,bt:=fun s=> ?_,rt:=fun s=> ?_,uni:=fun s y t u z e l=> ?_,hk:=by rw[hk];exact b.hk};rcases h s with h|h;rw[h];exact b.slots s;exact h.1;rcases h s with h|h;rw[h];exact b.sc s;exact h.2.1.1;rcases h s with h|h;rw[h];exact b.bt s;exact h.2.1.2.1;rcases h s with h|h;rw[h];exact b.rt s;exact h.2.1.2.2;rcases h s with p|p;rcases h y with q|q;rw[p]at e;rw[q]at l;exact b.uni s y t u z e l;exact absurd l (q.2.2 t z);exact absurd e (p.2.2 t u)
def alv(E:Env)(ts:List Nat):(E.kill ts).kp=E.kp:=by unfold Env.kill;split<;>rfl
def anz(E:Env)(ts:List Nat)(b:List (Nat×Nat)):(E.qn ts b).kp=E.kp:=by
 unfold Env.qn;split;exact alv E ts;rfl
theorem Inv.rep{y:C0}{z:World}{U':Nat->Prop}{w':World}{G2:Gh}{ts:List Nat}{l:List (Nat×Nat)}{Io2:List (Nat×Nat×TV)}
 (I:Inv w0 c0 U' {E.kill ts with s:=od Io2 (E.kill ts).s} a w' G2) (J:Inv z y U E a w G)
 (B:∀u q,(u,q)∈l->G2.hdr q=G.hdr u/\4<=q/\Good U' G2 q):
 Inv w0 c0 U' {E.qn ts l with s:=od Io2 (E.qn ts l).s} a w' G2:=by
 have D:(E.qn ts l).s.length=(E.kill ts).s.length:=by rw[Zd];unfold Env.kill;split<;>simp
 refine I.upd (by show(od Io2 (E.qn ts l).s).length=(od Io2 (E.kill ts).s).length;rw[UZ,UZ,D]) (by show(E.qn ts l).kp=(E.kill ts).kp;rw[alv,anz]) (fun s=> ?_);show(od Io2 (E.qn ts l).s).getD s .no=(od Io2 (E.kill ts).s).getD s .no\/_;rcases Z3 s Io2 D with h|⟨H,h2⟩;exact .inl h;rcases ad0 E ts l s with h|⟨b,b',e,i,o,p,τ,h3,h4,h5⟩;left;rw[H,h2,h];right;show rn w' G2 ((od Io2 (E.qn ts l).s).getD s .no) _/\lg U' G2 ((od Io2 (E.qn ts l).s).getD s .no)/\∀t v,(od Io2 (E.qn ts l).s).getD s .no≠ .box t v;rw[H,h5];have hs:=J.slots s;rw[h3]at hs;obtain⟨K,off,n,cap,k1,N,S,W,Y⟩:=hs;obtain⟨g1,g2,g3⟩:=B b b' (N4 h4);exact⟨⟨K,off,n,cap,g2,g1.trans N,S,W,Y⟩,⟨by simp[SV.sc],by simp[SV.bt],by simp only[SV.rt,aqT];rintro c rfl;exact g3⟩,by simp⟩
end
def Enters(P:Program)(r:Result Next)(R:Value->World->Prop):Prop:=
 match r with
 | .ok (.enter f args) w1=>Calls P f args w1 (fun e w'=>∃v,e= .returned v/\R v w')
 | .ok (.value v) w1=>R v w1
 |_=>False
theorem Enters.mono{P:Program}{r:Result Next}{R R':Value->World->Prop}(h:Enters P r R)(l:∀v w,R v w->R' v w):Enters P r R':=by
 unfold Enters at*
 split;rename_i f args w1;exact Calls.mono h (fun e w' ⟨v,b,c⟩=>⟨v,b,l v w' c⟩);exact l _ _ h;rename_i b c;split at h;exact b _ _ _ rfl;exact c _ _ rfl;exact h
structure Xq(P:Program)(C:Cx):Prop extends CxTy P C where
 ct:∀f con,C.ct f=some con->Qq P f con
 mixed:P.follows .mixedOrders=true
section
variable{P:Program}{C:Cx}{w0:World}{c0:C0}{U:Nat->Prop}{E:Env}{a:Act}{w:World}{G:Gh}{ops:List Oper}{g:Option (Nat×Bool)}
theorem alH(b:Inv w0 c0 U E a w G)(c:RI ops E a.tmps)(d:Gd ops a.tmps g):∀ {xs:List Operand} {ts:List TypeId} {as:List SV},Us C E.rd g xs ts=some as->
 as.length=xs.length/\∀i,rn w G (as.getD i .no) ((xs.map a.eval).getD i undef)/\lg U G (as.getD i .no)
 | [],[],as,h=>by
   simp only[Us,aoz]at h;subst h;exact⟨rfl,fun i=>⟨trivial,by simp[lg,SV.sc,SV.bt,SV.rt]⟩⟩
 |x::xs,t::ts,as,h=>by
  simp only[Us]at h;split at h;rename_i v vs e j;cases h;obtain⟨k,l⟩:=alH b c d j;refine⟨by simp[k],fun i=> ?_⟩;cases i with
  |zero=>simpa using KM b c d e
  |succ i=>simpa using l i
  cases h
 | [],_::_,_,h|_::_,[],_,h=>by simp[Us]at h
def EfS(P:Program)(w0:World)(c0:C0)(U:Nat->Prop)(E:Env)(a:Act)(r:Result Next):Ef->Prop
 | .val v=>Yields w0 c0 U E a r v
 | .chk c v=>c=true->Yields w0 c0 U E a r v
 | .put b s v=>∃w' G',r= .ok .skip w'/\Inv w0 c0 U {E with s:=E.s.set s (.box b v)} a w' G'
 | .app c kl gv t v=>c=true->Yields w0 c0 U ((E.kill kl).fv gv t) a r v
 | .elem gv b e l m=>∃w' G',r= .ok .skip w'/\Inv w0 c0 U (E.elem gv b e l m) a w' G'
 | .nap c gv b e l m v=>c=true->Yields w0 c0 U (E.elem gv b e l m) a r v\/(v= .no/\∃w' G',r= .ok .skip w'/\Inv w0 c0 U (E.elem gv b e l m) a w' G')
 | .opt _ _ x f=>∀y,x=some y->Enters P r (fun mv w'=>∃G',Inv w0 c0 U E a w' G'/\rn w' G' (f y) mv/\lg U G' (f y)/\(∀t u,f y= .box t u->∀s d,E.s.getD s .no≠ .box t d))
 | .call _ x tks f rp=>∀y,x=some y->Enters P r (fun mv w'=>∃G',Inv w0 c0 U {E.qn tks (rp y)with s:=od (f y).2 (E.qn tks (rp y)).s} a w' G'/\rn w' G' (f y).1 mv/\lg U G' (f y).1/\
  (∀t u,(f y).1= .box t u->∀s d,(od (f y).2 (E.qn tks (rp y)).s).getD s .no≠ .box t d))
theorem EfS.ana{r:Result Next}{b:Ef}(h:SN w0 c0 U E a r b):EfS P w0 c0 U E a r b:=by
 cases b<;>first|exact h|exact h.elim
theorem adF(hs:List Nat):∀(ps:List PK) (r:iF (lu ps)) (k:Nat),vC hs ps r [] k=[]
 | [],_,_=>rfl
 | .val _ _::ps,r,k=>adF hs ps r k
 | .io _ _::_,_,_=>rfl
 | .rd _::ps,r,k| .vx _ _::ps,r,k=>adF hs ps r k
def aoY(hC:Xq P C)(S:Inv w0 c0 U E a w G)(hR:RI ops E a.tmps)(hg:Gd ops a.tmps g){tk:Nat}(h3:4<=tk)(hU:∀u,tk<=u->u<tk+32->¬U u){o:Oper}{c:Call}{f:FuncId}{ef:Ef}
 (ho:o.op= .call c) (hb:c.callee= .value (.func f)) (h:kH C ops E.rd tk g o=some ef):
 EfS P w0 c0 (fun u=>U u\/(tk<=u/\u<tk+32)) E a ((execOp a.eval o).run P w) ef:=by
 have I:(execOp a.eval o).run P w=(callFunc f (c.args.toList.map a.eval).toArray).run P w:=by
  have e:(c.args.toList.map a.eval).toArray=c.args.map a.eval:=arN (by simp);rw[e];simp only[execOp,ho];simp[resolve,hb,Deferred.ofValue,Act.eval,invoke]
 simp only[kH,ho,hb]at h;unfold adu at h;split at h;cases h;rename_i d W;have hM:=hC.ct f d W;split at h;cases h;rename_i as has;obtain⟨hlen,l⟩:=alH S hR hg has;split at h;cases h;rename_i xs j q D;split at h;rename_i k;simp only[Q_,b_]at k;obtain⟨⟨hr,h32⟩,m⟩:=k
 obtain⟨G1,J,b0⟩:=apb S D l (by simp[hlen]) hr (fun c hc=>by
  simp only[ajz,Q_,aqt,b_,aqA,W',d_]at m;have:=m.1 c hc;exact⟨this.1.1,this.1.2,this.2⟩)
 have key:∀y,d.F xs=some y->Enters P ((execOp a.eval o).run P w) (fun N w'=>∃G2,
  Inv w0 c0 (fun u=>U u\/(tk<=u/\u<tk+32)) {E.kill (((j.filter (4<=·.2)).map (·.1)).filter fun c=> !q.any (·.1=c))with
   s:=od (vC (2::(j.filter (·.2=1)).map (·.1)).eraseDups d.ps (jh d.rs (lu d.ps) y tk (2::(j.filter (·.2=1)).map (·.1)).eraseDups).2.1 q (jh d.rs (lu d.ps) y tk (2::(j.filter (·.2=1)).map (·.1)).eraseDups).2.2) (E.kill (((j.filter (4<=·.2)).map (·.1)).filter fun c=> !q.any (·.1=c))).s} a w' G2/\
  rn w' G2 (Tu (jh d.rs (lu d.ps) y tk (2::(j.filter (·.2=1)).map (·.1)).eraseDups).1) N/\lg (fun u=>U u\/(tk<=u/\u<tk+32)) G2 (Tu (jh d.rs (lu d.ps) y tk (2::(j.filter (·.2=1)).map (·.1)).eraseDups).1)/\
  (∀t u,Tu (jh d.rs (lu d.ps) y tk (2::(j.filter (·.2=1)).map (·.1)).eraseDups).1= .box t u->∀s r,
   (od (vC (2::(j.filter (·.2=1)).map (·.1)).eraseDups d.ps (jh d.rs (lu d.ps) y tk (2::(j.filter (·.2=1)).map (·.1)).eraseDups).2.1 q (jh d.rs (lu d.ps) y tk (2::(j.filter (·.2=1)).map (·.1)).eraseDups).2.2) (E.kill (((j.filter (4<=·.2)).map (·.1)).filter fun c=> !q.any (·.1=c))).s).getD s .no≠ .box t r)/\
  (∀u r,(u,r)∈ZU E.rd q (vC (2::(j.filter (·.2=1)).map (·.1)).eraseDups d.ps (jh d.rs (lu d.ps) y tk (2::(j.filter (·.2=1)).map (·.1)).eraseDups).2.1 q (jh d.rs (lu d.ps) y tk (2::(j.filter (·.2=1)).map (·.1)).eraseDups).2.2) d.kp->
   G2.hdr r=G.hdr u/\4<=r/\Good (fun u=>U u\/(tk<=u/\u<tk+32)) G2 r)/\
  (∀t s v,(t,s,v)∈vC (2::(j.filter (·.2=1)).map (·.1)).eraseDups d.ps (jh d.rs (lu d.ps) y tk (2::(j.filter (·.2=1)).map (·.1)).eraseDups).2.1 q (jh d.rs (lu d.ps) y tk (2::(j.filter (·.2=1)).map (·.1)).eraseDups).2.2->∃v0,E.s.getD s .no= .box t v0)):=by
  intro y H;rw[I];have:=hM w G1 (c.args.toList.map a.eval) xs y H J;exact Enters.mono (show Enters P _ _ from this) (fun N w' ⟨G',vs,nt,hp⟩=>apK S m D l hr b0 hp h3 hU h32 rfl rfl)
 simp only at h;split at h;rename_i x;cases h;simp only[Q_,List.isEmpty_iff]at x;obtain⟨e1,e2⟩:=x;intro y H;refine(key y H).mono (fun N w' Y=> ?_);obtain⟨G2,K,k2,k3,B,_⟩:=Y;rw[e2]at K B;subst e1;simp only[adF,od,Env.kill,List.isEmpty_nil,if_true]at K B;exact⟨G2,K,k2,k3,B⟩;cases h;intro y H;refine(key y H).mono (fun N w' Y=> ?_);obtain⟨G2,K,k2,k3,B,k5,k6⟩:=Y;refine⟨G2,K.rep S k5,k2,k3,fun t u he s r z=> ?_⟩
 have hl:(E.qn (((j.filter (4<=·.2)).map (·.1)).filter fun c=> !q.any (·.1=c)) (ZU E.rd q (vC (2::(j.filter (·.2=1)).map (·.1)).eraseDups d.ps (jh d.rs (lu d.ps) y tk (2::(j.filter (·.2=1)).map (·.1)).eraseDups).2.1 q (jh d.rs (lu d.ps) y tk (2::(j.filter (·.2=1)).map (·.1)).eraseDups).2.2) d.kp)).s.length=(E.kill (((j.filter (4<=·.2)).map (·.1)).filter fun c=> !q.any (·.1=c))).s.length:=by
  rw[Zd];unfold Env.kill;split<;>simp
 rcases Z3 s (vC (2::(j.filter (·.2=1)).map (·.1)).eraseDups d.ps (jh d.rs (lu d.ps) y tk (2::(j.filter (·.2=1)).map (·.1)).eraseDups).2.1 q (jh d.rs (lu d.ps) y tk (2::(j.filter (·.2=1)).map (·.1)).eraseDups).2.2) hl with h|⟨h1,h2⟩;exact B t u he s r (h.symm.trans z);rcases ad0 E (((j.filter (4<=·.2)).map (·.1)).filter fun c=> !q.any (·.1=c)) (ZU E.rd q (vC (2::(j.filter (·.2=1)).map (·.1)).eraseDups d.ps (jh d.rs (lu d.ps) y tk (2::(j.filter (·.2=1)).map (·.1)).eraseDups).2.1 q (jh d.rs (lu d.ps) y tk (2::(j.filter (·.2=1)).map (·.1)).eraseDups).2.2) d.kp) s with h|⟨b,b',e,i,o,p,τ,h3,h4,h5⟩;exact B t u he s r (h2.trans (h.symm.trans (h1.symm.trans z)));have:=h5.symm.trans (h1.symm.trans z);cases this;cases h
def ajT(hC:Xq P C)(q:Inv w0 c0 U E a w G)(B:RI ops E a.tmps)(D:Gd ops a.tmps g){tk:Nat}(S:4<=tk)(hU:∀u,tk<=u->u<tk+32->¬U u){o:Oper}{N:Ef}
 (h:kH C ops E.rd tk g o=some N):EfS P w0 c0 (fun u=>U u\/(tk<=u/\u<tk+32)) E a ((execOp a.eval o).run P w) N:=by
 have i:=hC.toCxTy;have F:SN w0 c0 U E a ((execOp a.eval o).run P w) N->EfS P w0 c0 (fun u=>U u\/(tk<=u/\u<tk+32)) E a ((execOp a.eval o).run P w) N:=fun h=> .ana (h.mono fun u J=> .inl J)
 have m1:SN w0 c0 (fun u=>U u\/u=tk) E a ((execOp a.eval o).run P w) N->EfS P w0 c0 (fun u=>U u\/(tk<=u/\u<tk+32)) E a ((execOp a.eval o).run P w) N:=
  fun h=> .ana (h.mono fun u J=>J.imp id fun e=>by omega)
 have I:=hU tk (r_ _) (by omega);cases k:o.op with
 |move x=>
  have p:=h;simp only[kH,k,aqx]at p;obtain⟨sv,hs,rfl⟩:=p;exact F (alk q B D hs (by simp[execOp,k]))
 |assign x=>
  have p:=h;simp only[kH,k,aqx]at p;obtain⟨sv,hs,rfl⟩:=p;exact F (alk q B D hs (by simp[execOp,k]))
 |pick c x y=>exact F (ao8 q B D k h)
 |alloc t=>exact m1 (anx i q S I k h)
 |box t x=>exact m1 (ape q B D S I k h)
 |build t ps=>exact F (apN i q B D k h)
 |buildSlice t n ps=>exact m1 (ajc i q B D S I k h)
 |load t x=>exact F (ao5 i q B D k h)
 |nilCheck x=>exact F (akM q B D k h)
 |binOp op t x y u=>exact F (apm i q B D k h)
 |unOp op t x=>exact F (apT q B D k h)
 |convert s d x=>exact F (aoK i q B D k h)
 |makeSlice t n c=>exact m1 (akk i q B D S I k h)
 |slice t x lo hi mx=>exact F (anF i q B D k h)
 |fieldAddr s x j=>exact F (akc i q B D k h)
 |field s x j=>exact F (aoh i q B D k h)
 |indexAddr t x n=>exact F (ake i q B D k h)
 |index t x n=>exact F (aoi i q B D k h)
 |extract x j=>exact F (alN q B D k h)
 |store t x y=>
  have key:∀e,kH C ops E.rd tk g o=some e->(∃b s v,e= .put b s v)\/∃Y b e' l m,e= .elem Y b e' l m:=by
   intro e H;simp only[kH,k]at H;split at H;split at H;obtain⟨r,_,rfl⟩:=aqx.mp (Option.ite_none_right_eq_some.mp H).2;exact .inl ⟨_,_,_,rfl⟩;cases H;split at H;obtain⟨_,H⟩:=Option.ite_none_right_eq_some.mp H;obtain⟨_,H⟩:=Option.ite_none_left_eq_some.mp H;obtain⟨r,_,rfl⟩:=aqx.mp H;exact .inr ⟨_,_,_,_,_,rfl⟩;cases H;cases H
  rcases key _ h with⟨b,s,v,rfl⟩|⟨Y,b,e',l,m,rfl⟩;obtain⟨w',h1,h2⟩:=apk i q B D k h;exact⟨w',G,h1,h2.mono fun u J=> .inl J⟩;obtain⟨w',G',h1,h2⟩:=aoZ i q B D k h;exact⟨w',G',h1,h2.mono fun u J=> .inl J⟩
 |call c=>
  cases W:c.callee with
  |builtin b=>
   by_cases K:∃cd kl Y t v,N= .app cd kl Y t v;obtain⟨cd,kl,Y,t,v,rfl⟩:=K
   have e0:b= .append:=by
    have p:=h;simp only[kH,k,W]at p;unfold UU at p;split at p;exfalso;split at p;cases p;split at p;split at p<;>cases p;split at p<;>cases p;cases p;exfalso;split at p;split at p<;>cases p;cases p;exfalso;split at p;split at p<;>cases p;cases p;rfl;cases p
   subst e0;intro b0;obtain⟨rfl,hy⟩:=apG i q B D S I k W h b0;exact hy.mono fun u J=>J.imp id fun e=>by omega
   exact F (apr i q B D k W (fun x y z u v e=>K ⟨x,y,z,u,v,e⟩) h)
  |value x=>
   cases x with
   |func f=>exact aoY hC q B D S hU k W h
   |_=>simp[kH,k,W]at h
  |invoke r m=>simp[kH,k,W]at h
 |_=>simp[kH,k]at h
end
theorem fN.det{α:Type}{R R':α->List Value->List Nat->Prop}{sz:Nat}(q:∀x c B,R x c B->c.length=sz)(b:∀x c B,R' x c B->c.length=sz)
 (u:∀x p c B B',R x c B->R' p c B'->x=p):∀ {l e:List α} {cs:List Value} {B B':List Nat},fN R l cs B->fN R' e cs B'->l.length=e.length->l=e
 | [],[],_,_,_,_,_,_=>rfl
 |x::l,y::e,cs,B,B',h,h',hn=>by
  obtain⟨H,c2,B1,B2,rfl,rfl,v,I⟩:=h;obtain⟨J,d2,D1,D2,K,rfl,z,N⟩:=h';have D:H.length=J.length:=by rw[q _ _ _ v,b _ _ _ z]
  obtain⟨rfl,rfl⟩:=arO K D;rw[u _ _ _ _ _ v z,fN.det q b u I N (by simpa using hn)]
 | [],_::_,_,_,_,_,_,hn|_::_,[],_,_,_,_,_,hn=>by simp at hn
theorem fl.det{w:World}:∀ {τ:Ty} {x u:τ.den} {cs:List Value} {B B':List Nat},fl w τ x cs B->fl w τ u cs B'->x=u
 | .int _,x,u,cs,_,_,h,p=>by have:=h.1.symm.trans p.1;simpa using this
 | .bool,x,u,cs,_,_,h,p=>by have:=h.1.symm.trans p.1;simpa using this
 | .str,x,u,cs,_,_,h,p=>by have:=h.1.symm.trans p.1;simpa using this
 | .pair a b,x,u,cs,_,_,h,p=>by
   obtain⟨c1,c2,B1,B2,rfl,rfl,J,W⟩:=h;obtain⟨d1,d2,D1,D2,Y,rfl,K,k2⟩:=p;obtain⟨rfl,rfl⟩:=arO Y (by rw[fl.len J,fl.len K]);exact arS (fl.det J K) (fl.det W k2)
 | .sl e,l,l',cs,_,_,h,p=>by
   obtain⟨v,rfl,h⟩:=h;obtain⟨v',N,p⟩:=p;simp only[arP,and_true]at N;subst N;rcases h with⟨⟨ao,I⟩,z,_⟩|⟨b,off,cap,c,el,fz,Bs,I,hcap,hb,hsz,_,hl⟩<;>rcases p with⟨⟨ao',q⟩,D,_⟩|⟨b',off',cap',c',el',fz',Bs',q,hcap',y,hsz',_,H⟩;rw[z,D];rw[I]at q;simp only[Value.slice.injEq]at q;rw[z,aq9.1 q.2.1.symm];rw[I]at q;simp only[Value.slice.injEq]at q;rw[D,aq9.1 q.2.1];rw[I]at q;simp only[Value.slice.injEq,aoz,Addr.mk.injEq,and_true]at q;obtain⟨⟨rfl,rfl⟩,S,rfl⟩:=q;rw[hb]at y;simp only[aoz,Obj.cells.injEq]at y;obtain⟨rfl,_,_⟩:=y;rw[<-S]at H;exact fN.det (sz:=e.sz) (fun x c B h=>fl.len h) (fun x c B h=>fl.len h) (fun x u c B B' h p=>fl.det h p) hl H S
def aik(τ:Ty):τ.sub []=some τ:=by cases τ<;>rfl
def aas(τ:Ty):τ.off []=0:=by cases τ<;>rfl
theorem fl.place{w:World}:∀ {p:List Bool} {τ σ:Ty} {x:τ.den} {cs:List Value} {B:List Nat},fl w τ x cs B->τ.sub p=some σ->
 ∃(f:σ.den->τ.den) (z:σ.den) (u y v:List Nat),f z=x/\B=u++y++v/\fl w σ z ((cs.drop (τ.off p)).take σ.sz) y/\τ.off p+σ.sz<=τ.sz/\
  ∀(w':World) (e:σ.den) (l:List Value) (B':List Nat),(∀k∈u++v,w'.heap[k]?=w.heap[k]?)->fl w' σ e l B'->fl w' τ (f e) (wJ (τ.off p) l cs) (u++B'++v)
 | [],τ,σ,x,cs,B,h,hs=>by
   rw[aik]at hs;cases hs;have H:=fl.len h;refine⟨id,x,[],B,[],rfl,by simp,?_,by rw[aas];omega,fun w' e l B' _ q=> ?_⟩;rw[aas,are,aqK (by omega)];exact h;rw[aas];unfold wJ;rw[arQ,arc,aq7,aqL (by rw[H,fl.len q];exact r_ _),arw];simpa using q
 |false::p,.pair a b,σ,x,cs,B,h,hs=>by
  obtain⟨J,W,K,N,rfl,rfl,I,S⟩:=h;simp only[Ty.sub]at hs;obtain⟨f,z,u,y,v,q1,rfl,q3,q4,q5⟩:=fl.place I hs;have H:=fl.len I;refine⟨fun e=>(f e,x.2),z,u,y,v++N,arS q1 rfl,by simp,?_,by simp only[Ty.off,Ty.sz];omega,fun w' e l B' D q=> ?_⟩;simp only[Ty.off];rw[aqz (by omega),aqF (by simp;omega)];exact q3;have hlz:=fl.len q;refine⟨_,W,_,N,?_,by simp,q5 w' e l B' (fun k c=>D k (by simp only[l8]at c|-;rcases c with h|h<;>simp[h])) q,fl.mono (fun k c=>D k (by simp[c])) S⟩;simp only[Ty.off,wJ];rw[aqF (by omega),aqz (by omega)];simp
 |true::p,.pair a b,σ,x,cs,B,h,hs=>by
  obtain⟨J,W,K,N,rfl,rfl,I,S⟩:=h;simp only[Ty.sub]at hs;obtain⟨f,z,u,y,v,q1,rfl,q3,q4,q5⟩:=fl.place S hs;have H:=fl.len I;refine⟨fun e=>(x.1,f e),z,K++u,y,v,arS rfl q1,by simp,?_,by simp only[Ty.off,Ty.sz];omega,fun w' e l B' D q=> ?_⟩;simp only[Ty.off];rw[<-H,ara,aqL (by omega),arc,show J.length+b.off p-J.length=b.off p by omega];exact q3;refine⟨J,_,K,_,?_,by simp,fl.mono (fun k c=>D k (by simp[c])) I,q5 w' e l B' (fun k c=>D k (by simp only[l8]at c|-;rcases c with h|h<;>simp[h])) q⟩;simp only[Ty.off,wJ];rw[<-H,arp,aqK (by omega),ara,aqL (by omega)];simp[arj]
 |b::p,.int _,_,_,_,_,_,hs|b::p,.bool,_,_,_,_,_,hs|b::p,.str,_,_,_,_,_,hs|b::p,.sl _,_,_,_,_,_,hs=>by simp[Ty.sub]at hs
theorem fN.am4{e:Ty}{w w':World}{l:List e.den}{cs:List Value}{B:List Nat}(c:∀b∈B,w'.heap[b]?=w.heap[b]?)(h:fN (fl w e) l cs B):fN (fl w' e) l cs B:=fN.world c h
theorem aai:∀ {p:List Bool} {τ σ:Ty},τ.sub p=some σ->τ.off p+σ.sz<=τ.sz
 | [],τ,σ,h=>by rw[aik]at h;cases h;rw[aas];omega
 |false::p,.pair a b,σ,h=>by have:=aai (τ:=a) h;simp only[Ty.off,Ty.sz];omega
 |true::p,.pair a b,σ,h=>by have:=aai (τ:=b) h;simp only[Ty.off,Ty.sz];omega
 |b::p,.int _,_,hs|b::p,.bool,_,hs|b::p,.str,_,hs|b::p,.sl _,_,hs=>by simp[Ty.sub]at hs
theorem abN:∀ {p:List Bool} {τ:Ty} {x:τ.den} {sh:Sh} {r:TV},OI τ x sh p=some r->τ.sub p=some r.τ
 | [],τ,x,sh,r,h=>by
   have:r=⟨τ,x,sh⟩:=by cases τ<;>(simp only[OI,aoz]at h;exact h.symm)
   rw[aik,this]
 |false::p,.pair a b,x,.pair s1 s2,r,h=>by simp only[OI]at h;simp only[Ty.sub];exact abN h
 |true::p,.pair a b,x,.pair s1 s2,r,h=>by simp only[OI]at h;simp only[Ty.sub];exact abN h
 |b::p,.int _,_,_,_,h|b::p,.bool,_,_,_,h|b::p,.str,_,_,_,h|b::p,.sl _,_,_,_,h=>by simp[OI]at h
 |b::p,.pair _ _,_,.leaf,_,h|b::p,.pair _ _,_,.sl _,_,h=>by cases b<;>simp[OI]at h
theorem afh{w:World}:∀ {p:List Bool} {τ:Ty} {x:τ.den} {sh:Sh} {r:TV} {cs:List Value} {B:List Nat},OI τ x sh p=some r->fl w τ x cs B->
 ∃B',fl w r.τ r.x ((cs.drop (τ.off p)).take r.τ.sz) B'
 | [],τ,x,sh,r,cs,B,h,hr=>by
   have:r=⟨τ,x,sh⟩:=by cases τ<;>(simp only[OI,aoz]at h;exact h.symm)
   subst this;rw[aas,are,aqK (by rw[fl.len hr];exact r_ _)];exact⟨B,hr⟩
 |false::p,.pair a b,x,.pair s1 s2,r,cs,B,h,hr=>by
  obtain⟨d,k,l,m,rfl,rfl,c,j⟩:=hr;simp only[OI]at h;obtain⟨B',e⟩:=afh h c;have hso:=aai (abN h);have i:=fl.len c;refine⟨B',?_⟩;simp only[Ty.off];rw[aqz (by omega),aqF (by simp;omega)];exact e
 |true::p,.pair a b,x,.pair s1 s2,r,cs,B,h,hr=>by
  obtain⟨d,k,l,m,rfl,rfl,c,j⟩:=hr;simp only[OI]at h;obtain⟨B',e⟩:=afh h j;have i:=fl.len c;refine⟨B',?_⟩;simp only[Ty.off];rw[<-i,ara,aqL (by omega),arc,show d.length+b.off p-d.length=b.off p by omega];exact e
 |b::p,.int _,_,_,_,_,_,h,_|b::p,.bool,_,_,_,_,_,h,_|b::p,.str,_,_,_,_,_,h,_|b::p,.sl _,_,_,_,_,_,h,_=>by simp[OI]at h
 |b::p,.pair _ _,_,.leaf,_,_,_,h,_|b::p,.pair _ _,_,.sl _,_,_,_,h,_=>by cases b<;>simp[OI]at h
theorem fN.place{w:World}{τ σ:Ty}{l:List τ.den}{cs:List Value}{B:List Nat}(h:fN (fl w τ) l cs B){i:Nat}(I:i<l.length){p:List Bool}(hs:τ.sub p=some σ):
 ∃(f:σ.den->List τ.den) (z:σ.den) (q D u:List Nat),f z=l/\B=q++D++u/\fl w σ z ((cs.drop (i*τ.sz+τ.off p)).take σ.sz) D/\i*τ.sz+τ.off p+σ.sz<=l.length*τ.sz/\(∀e,(f e).length=l.length)/\
  ∀(w':World) (e:σ.den) (y:List Value) (B':List Nat),(∀k∈q++u,w'.heap[k]?=w.heap[k]?)->fl w' σ e y B'->fN (fl w' τ) (f e) (wJ (i*τ.sz+τ.off p) y cs) (q++B'++u):=by
 have N:l[i]?=some l[i]:=aqu I;obtain⟨S,Bx,W,rfl,Y,h2,h3⟩:=fN.get (sz:=τ.sz) (fun x c B h=>fl.len h) h N;obtain⟨f,z,q,D,u,q1,rfl,q3,q4,q5⟩:=fl.place Y hs;have hl:=fN.len (sz:=τ.sz) (fun x c B h=>fl.len h) h;have hmul:(i+1)*τ.sz<=l.length*τ.sz:=aqD _ I;rw[aqS,aq4]at hmul;refine⟨fun e=>l.set i (f e),z,S++q,D,u++W,by show l.set i (f z)=l;rw[q1];simp,by simp,?_,by omega,fun e=>by simp,fun w' e y B' H K=> ?_⟩;rw[aqH,aqR,aqQ,aqN (by omega)]at q3;exact q3;have J:=q5 w' e y B' (fun k b=>H k (by simp only[l8]at b|-;rcases b with h|h<;>simp[h])) K;have v:=fN.set (sz:=τ.sz) (l:=l) (cs:=cs) I J (fN.am4 (fun k b=>H k (by simp[b])) h2) (fN.am4 (fun k b=>H k (by simp[b])) h3);rw[XF (sz:=τ.sz) (by have:=fl.len K;omega),show i*τ.sz+τ.sz=(i+1)*τ.sz by rw[aqS,aq4]];simpa[aqC]using v
section
variable{P:Program}{C:Cx}{w0:World}{c0:C0}{U:Nat->Prop}{E:Env}{a:Act}{w:World}{G:Gh}{ops:List Oper}{g:Option (Nat×Bool)}
theorem Inv.apS(c:Inv w0 c0 U E a w G){tk:Nat}(q:¬U tk):Inv w0 c0 (fun u=>U u\/u=tk) E a w {G with bx:=fun u=>if u=tk then false else G.bx u}:=by
 refine c.change (ts:=[]) (fun _ _ _=>by simp) (fun b _ _=>⟨rfl,rfl⟩) (fun t l=>⟨rfl,a_ (fun e:t=tk=>q (e▸l))⟩) (fun _ h=> .inl h) (fun b p=> .inl (c.colU b p)) c.lt c.fresh c.frame (fun _ _=>rfl) (r_ _) rfl rfl rfl
theorem Inv.aor(K:Inv w0 c0 U E a w G){ts:List Nat}{b:Nat}{e:Ty}{l:List e.den}{m:M}{w':World}(p:4<=b)(z:∀c∈ts,4<=c/\Good U G c)(J:Good U G b)(N:∀c∈m.cO,Good U G c)
 (q:qs w' (G.fv ts b (G.hdr b)) e l (G.hdr b) m) (B:∀k,(G.fv ts b (G.hdr b)).col k≠b->w'.heap[k]?=w.heap[k]?)
 (D:∀k,(G.fv ts b (G.hdr b)).col k=b->∃c el,w'.heap[k]?=some (.cells c el (0,0))) (size:w.heap.size=w'.heap.size) (S:w'.os=w.os) (tape:w'.tape=w.tape) (output:w'.output=w.output):
 Inv w0 c0 U (E.elem ts b e l m) a w' (G.fv ts b (G.hdr b)):=by
 have u:=K.amj (ts:=ts) (t:=b) (v:=G.hdr b) p z J.2.1 rfl J.2.2;have H:=u.map (abt (w:=w) b) u.colU (fun b=>⟨fun h=>h,fun _=>rfl,fun _=>rfl⟩);have I:=H.setRow (m:=m) (y:=l) (w':=w') (e:=e) (b:=b) (by simpa[Gh.fv]using q) (by simp[Gh.fv]) p B (fun s=> ?_) (fun c hc=> ?_) D size S tape output;simpa only[Env.elem,List.map_map,arl,SV.og,SV.fv]using I;have:=getD_map (L:=E.s.map (SV.fv ts b)) (T:=SV.og b) rfl s;show SV.clear b ((List.map (SV.og b) (E.s.map (SV.fv ts b))).getD s .no);rw[this];exact SV.B9 b _;obtain⟨W,Y,p3⟩:=N c hc;refine⟨W,Y,?_⟩;simp only[Gh.fv];split;rfl;exact p3
def aeu{e:Ty}{l:List e.den}{v:Value}{b:Nat}{hs:List Nat}(h:qs w G e l v (.row b hs true))(j:hs.all (·=b)=true){m of n cap:Nat}(r:v= .slice (some ⟨m,of,none⟩) n cap)(hn:0<n):
 n=l.length/\l.length<=cap/\∃c el p i,w.heap[m]?=some (.cells c el p)/\of+cap*e.sz<=c.size/\fN (fl w e) l ((c.toList.drop of).take (l.length*e.sz)) i/\(m::i).Nodup/\G.col m=b/\∀x∈i,G.col x=b:=by
 obtain⟨_,_,B,t,hc⟩:=h;rcases t with⟨⟨ao,d⟩,hl0,_⟩|⟨b',of',cap',c,el,p,i,d,k,u,q,rfl,y⟩;rw[r]at d;cases d;omega;rw[r]at d;simp only[Value.slice.injEq,aoz,Addr.mk.injEq,and_true]at d;obtain⟨⟨rfl,rfl⟩,rfl,rfl⟩:=d;obtain⟨z,D,F,H⟩:=hc _ _ rfl;simp only[aqt,b_]at j;exact⟨rfl,k,c,el,p,i,u,q,y,aqP.2 ⟨D,H rfl⟩,z,fun x s=>j _ (F x s)⟩
def akY{q:Nat}{cs:List Value}{v:Value}(h:cs[q]?=some v):wJ q [v] cs=cs:=by
 obtain⟨b,rfl⟩:=aq6.1 h;unfold wJ;simp only[ary,aqC,List.singleton_append];rw[<-arn b,arx]
def amf{e σ:Ty}{l:List e.den}{b:Nat}{hs:List Nat}{y of n cap:Nat}{i:Int}{p:List Bool}(h:qs w G e l (G.hdr b) (.row b hs true))(D:hs.all (·=b)=true)(K:G.hdr b= .slice (some ⟨y,of,none⟩) n cap)
 (Y:0<=i) (hn:i<n) (hs:e.sub p=some (.sl σ)) (hI:Inv w0 c0 U E a w G):
 ∃c el z v,w.heap[y]?=some (.cells c el (0,0))/\of+i.toNat*e.sz+e.off p+1<=c.size/\(c.toList.drop (of+i.toNat*e.sz+e.off p)).take 1=[v]/\qs w G σ z v (.nst b e i (e.off p) p true):=by
 obtain⟨rfl,j,c,el,fz,Bs,F,H,N,I,r,s⟩:=aeu h D K (by omega);obtain⟨J,t,k⟩:=hI.fresh y (by rw[r];exact h.1);rw[k]at F;simp only[aoz,Obj.cells.injEq]at F;obtain⟨rfl,rfl,rfl⟩:=F;have hi:i.toNat<l.length:=by omega
 obtain⟨f,z,Ba,S,Bb,q1,rfl,q3,q4,q5,q6⟩:=fN.place N hi hs;have hmul:l.length*e.sz<=cap*e.sz:=aqD _ j;have hlen:=fN.len (sz:=e.sz) (fun x c B h=>fl.len h) N;simp only[Ty.sz]at q3 q4;obtain⟨v,m,u⟩:=q3
 have q:((J.toList.drop of).take (l.length*e.sz))[i.toNat*e.sz+e.off p]?=some v:=by
  have:=congrArg List.head? m;rw[List.head?_take,List.head?_drop]at this;simpa using this
 have d:=q6 w z [v] S (fun _ _=>rfl) ⟨v,rfl,u⟩;rw[q1]at d;refine⟨J,t,z,v,k,by omega,?_,⟨S,u,fun x W=>s x (by simp[W])⟩,hs,rfl,h.1,Y,y,of,l.length,cap,J,t,l,_,K,j,r,k,H,hn,?_,rfl,d,I,s,fun _=>q⟩;rw[aqH,aqR,aqQ,aqN (by omega)]at m;rw[show of+i.toNat*e.sz+e.off p=of+(i.toNat*e.sz+e.off p) by omega];exact m;have hp:=aai hs;simpa only[Ty.sz]using hp
def aog{d e:Ty}{L:List d.den}{l:List e.den}{b:Nat}{hs:List Nat}{i:Int}{off:Nat}{p:List Bool}{v:Value}(hx:qs w G e l v (.nst b d i off p true))(F:qs w G d L (G.hdr b) (.row b hs true)):
 4<=b/\∃(j of n cap:Nat) (c:Array Value) (el:TypeId) (f:List e.den->List d.den) (y H D:List Nat),G.hdr b= .slice (some ⟨j,of,none⟩) n cap/\n<=cap/\G.col j=b/\w.heap[j]?=some (.cells c el (0,0))/\of+cap*d.sz<=c.size/\
  (j::(y++H++D)).Nodup/\(∀x∈y++H++D,G.col x=b)/\Bk w e.sz (fl w e) l v H/\f l=L/\L.length=n/\
  (∀(w':World) (r:List e.den) (u:Value) (B':List Nat),(∀k∈y++D,w'.heap[k]?=w.heap[k]?)->Bk w' e.sz (fl w' e) r u B'->
   fN (fl w' d) (f r) (wJ (i.toNat*d.sz+off) [u] ((c.toList.drop of).take (n*d.sz))) (y++B'++D))/\(∀r,(f r).length=n)/\
  wJ (i.toNat*d.sz+off) [v] ((c.toList.drop of).take (n*d.sz))=(c.toList.drop of).take (n*d.sz)/\i<n/\0<=i/\off+1<=d.sz/\d.sub p=some (.sl e)/\d.off p=off:=by
 obtain⟨⟨B,hB,hc⟩,s,t,h3,Y,j,of,n,cap,c,el,L0,Bs,g1,g2,g3,g4,g5,g6,g7,g8,g9,b0,h0,I⟩:=hx;have m:=akY (I rfl);rw[m]at g9
 have q:L.length=n/\fN (fl w d) L ((c.toList.drop of).take (n*d.sz)) Bs:=by
  obtain⟨_,_,B',J,_⟩:=F;rw[g1]at J;rcases J with⟨⟨ao,N⟩,hl0,_⟩|⟨b',of',cap',c',el',fz,Bs',N,hcap,hh,hsz,_,hl⟩;cases N;omega;simp only[Value.slice.injEq,aoz,Addr.mk.injEq,and_true]at N;obtain⟨⟨rfl,rfl⟩,rfl,rfl⟩:=N;rw[g4]at hh;simp only[aoz,Obj.cells.injEq]at hh;obtain⟨rfl,rfl,rfl⟩:=hh;have:=fN.det (sz:=d.sz) (fun x c B h=>fl.len h) (fun x c B h=>fl.len h) (fun x x' c B B' h h'=>fl.det h h') g9 hl (by omega);subst this;exact⟨rfl,g9⟩
 obtain⟨q,j0⟩:=q;obtain⟨f,z,y,H,D,q1,rfl,q3,q4,q5,q6⟩:=fN.place j0 (i:=i.toNat) (by omega) s;simp only[Ty.sz]at q3 q4;rw[t]at q3 q6
 have W:(((c.toList.drop of).take (n*d.sz)).drop (i.toNat*d.sz+off)).take 1=[v]:=by
  obtain⟨hq,hv⟩:=aq6.1 (I rfl);rw[arn hq,hv];rfl
 rw[W]at q3;have hz:z=l:=fl.det q3 (show fl w (.sl e) l [v] B from⟨v,rfl,hB⟩);subst hz;obtain⟨u,K,hS⟩:=q3;simp only[arP,and_true]at K;subst K;exact⟨h3,j,of,n,cap,c,el,f,y,H,D,g1,g2,g3,g4,g5,b0,h0,hS,q1,q,fun w' r u B' hk S=>q6 w' r [u] B' hk ⟨u,rfl,S⟩,fun r=>(q5 r).trans q,m,g6,Y,g7,s,t⟩
theorem aoN(hC:CxTy P C)(hI:Inv w0 c0 U E a w G){tk:Nat}(h3:4<=tk)(hU:¬U tk){o:Oper}{c:Call}
 (ho:o.op= .call c) (hb:c.callee= .builtin .append) {x y:Operand} {t:TypeId} (b2:c.args= #[x,y]) (E2:c.argTypes= #[t,t]) {ti:TI} (k4:C.tt t=some ti) {e e0:Ty} (hτ:ti.τ= .sl e)
 {l l2:List e.den} {L:List e0.den} {b:Nat} {hs ys:List Nat} {i:Int} {off:Nat} {p:List Bool} {m':M}
 (W:qs w G e l (a.eval x) (.nst b e0 i off p true)) (hy:qs w G e l2 (a.eval y) m') (l4:∀c∈m'.cO,Good U G c) (e2:m'.own=some ys) (j2:b∉ys)
 (F2:qs w G e0 L (G.hdr b) (.row b hs true)) (R0:Good U G b) (hlen:l.length+l2.length<4294967296):
 Yields w0 c0 (fun u=>U u\/u=tk) (E.elem (tk::ys) b e0 L (.row b [b] true)) a ((execOp a.eval o).run P w) (.d ⟨.sl e,l++l2,.sl (.nst b e0 i off p false)⟩):=by
 obtain⟨a1,B,of,n,cap,cc,el,f,Ba,D,Bb,q1,q2,q3,q4,q5,q6,q7,D1,q8,q9,u3,r4,s4,w4,x4,B4,G4,J4⟩:=aog W F2;have hT:=(hC.tt _ ti k4).2;rw[hτ]at hT;obtain⟨hu,L4⟩:=hT;obtain⟨By,r2,M4,w3⟩:=hy.own e2;have H2:∀c∈ys,4<=c:=fun c hc=>Sh.S1 (τ:= .sl e) (x:=l2) (sh:= .sl m') (cs:=[a.eval y]) ⟨_,rfl,hy⟩ e2 c hc;have F1:∀c∈ys,Good U G c:=fun c hc=>l4 c (M.Ra e2 c hc);have J2:b≠tk:=fun e=>hU (e▸R0.2.1);have hytk:∀c∈ys,c≠tk:=fun c hc e=>hU (e▸(F1 c hc).2.1)
 have j1:∀ {v':Value} {w':World},((Builtin.append_ #[t,t] o.type #[a.eval x,a.eval y]).run P w= .ok v' w')->(execOp a.eval o).run P w= .ok (.value v') w':=by
  intro v' w' hr;simp only[execOp,ho];simp[resolve,hb,invoke,builtin,b2,E2,hr]
 obtain⟨xs,u2,x3,B3⟩:=D1.cells;obtain⟨s,u1,w2,_⟩:=r2.cells;have k1:∀z∈D,G.col z=b:=fun z q=>q7 z (by simp[q])
 have L2:∀ad k cap,a.eval x= .slice (some ad) k cap->0<cap->∃b off,ad=⟨b,off,none⟩/\∃c M1,w.heap[b]?=some (.cells c M1 (0,0))/\off+cap*e.sz<=c.size:=by
  intro ad k cap hv z1;obtain⟨b',G3,x1,hB,_,c',M1,fz,hh,L0,_⟩:=B3 ad k cap hv z1;obtain⟨c2,E1,hf⟩:=hI.fresh b' (by rw[k1 b' (by rw[hB];simp)];exact a1);rw[hf]at hh;cases hh;exact⟨b',G3,x1,_,_,hf,L0⟩
 have j0:∀z∈By,z≠B/\z∉Ba++D++Bb:=fun z q=>by
  have C1:=w3 z q;refine⟨fun e=>j2 (by rw[e,q3]at C1;exact C1),fun r=>j2 (by rw[q7 z r]at C1;exact C1)⟩
 have N:∀z∈D.drop 1,z∈D:=fun z q=>arz q;have F:∀z∈By.drop 1,z∈By:=fun z q=>arz q;rw[aqP]at q6;obtain⟨o0,x2⟩:=q6;have b3:=x2;rw[aqE,aqE]at b3;obtain⟨⟨nA,nO,J3⟩,nB,y1⟩:=b3
 have l1:∀h:Nat,h∉Ba++Bb->h≠B->h∉D.drop 1->h∉By.drop 1->(B::(Ba++(h::(D.drop 1++By.drop 1))++Bb)).Nodup:=by
  intro h h1 h2 h4 h5;simp only[l8,not_or]at h1;have c3:(D.drop 1).Nodup:=nO.sublist (arG _ _);have e3:(By.drop 1).Nodup:=M4.sublist (arG _ _);rw[aqP,aqE,aqE,aqP,aqE];refine⟨?_,⟨nA,⟨fun r=>(l8.1 r).elim h4 h5,c3,e3,fun x W y hy e=> ?_⟩,fun x W y hy e=> ?_⟩,nB,fun x W y hy e=> ?_⟩;simp only[l8,i_,not_or]at o0|-;exact⟨⟨o0.1.1,fun e=>h2 e.symm,fun r=>o0.1.2 (N _ r),fun r=>(j0 _ (F _ r)).1 rfl⟩,o0.2⟩;subst e;exact(j0 x (F x hy)).2 (by simp[N x W]);subst e;rcases i_.1 hy with rfl|hy;exact h1.1 W;rcases l8.1 hy with hy|hy;exact J3 x W x (N x hy) rfl;exact(j0 x (F x hy)).2 (by simp[W]);subst e;rcases l8.1 W with W|W;exact y1 x (by simp[W]) x hy rfl;rcases i_.1 W with rfl|W;exact h1.2 hy;rcases l8.1 W with W|W;exact y1 x (by simp[N x W]) x hy rfl;exact(j0 x (F x W)).2 (by simp[hy])
 have fin:∀ {G0:Gh} {w1 w':World} {v':Value} {Bn:List Nat},Inv w0 c0 (fun u=>U u\/u=tk) E a w1 G0->(∀c,U c->G0.hdr c=G.hdr c/\G0.bx c=G.bx c)->G0.bx tk=false->(∀z,z<w.heap.size->G0.col z=G.col z)->
  (execOp a.eval o).run P w= .ok (.value v') w'->w1.heap.size=w'.heap.size->w'.os=w1.os->w'.tape=w1.tape->w'.output=w1.output->
  (∀k,k∉D->w'.heap[k]?=w1.heap[k]?)->(∀k∈B::(Ba++Bb),w'.heap[k]?=w.heap[k]?)->(∀k∈D,∃c el,w'.heap[k]?=some (.cells c el (0,0)))->Bk w' e.sz (fl w' e) l (a.eval x) D->
  Bk w' e.sz (fl w' e) (l++l2) v' Bn->(B::(Ba++Bn++Bb)).Nodup->(∀z∈Bn,z∈D\/z∈By\/G0.col z=tk)->
  Yields w0 c0 (fun u=>U u\/u=tk) (E.elem (tk::ys) b e0 L (.row b [b] true)) a ((execOp a.eval o).run P w) (.d ⟨.sl e,l++l2,.sl (.nst b e0 i off p false)⟩):=by
  intro G0 w1 w' v' Bn A1 X1 A2 b1 hr L0 M3 b4 B2 C2 c1 B1 c4 D2 e4 j4;have u0:Good (fun u=>U u\/u=tk) G0 b:=⟨R0.1,.inl R0.2.1,by rw[(X1 b R0.2.1).2];exact R0.2.2⟩
  have j3:∀c∈tk::ys,4<=c/\Good (fun u=>U u\/u=tk) G0 c:=by
   intro c hc;rcases i_.1 hc with rfl|hc;exact⟨h3,by omega,.inr rfl,A2⟩;have:=F1 c hc;exact⟨H2 c hc,this.1,.inl this.2.1,by rw[(X1 c this.2.1).2];exact this.2.2⟩
  have n1:G0.hdr b=G.hdr b:=(X1 b R0.2.1).1
  have H:∀z∈B::(Ba++D++Bb),z<w.heap.size:=by
   intro z q
   have k2:G.col z=b:=by
    rcases i_.1 q with rfl|q;exact q3;exact q7 z q
   exact hI.lt z (by omega)
  have x0:∀z∈By,z<w.heap.size:=r2.bounds;have n4:b∉tk::ys:=by simp[J2,j2]
  have K:∀z∈B::(Ba++D++Bb),(G0.fv (tk::ys) b (G0.hdr b)).col z=b:=by
   intro z q
   have k2:G.col z=b:=by
    rcases i_.1 q with rfl|q;exact q3;exact q7 z q
   simp only[Gh.fv,b1 z (H z q),k2];rw[a_ n4]
  have o1:∀z∈Bn,(G0.fv (tk::ys) b (G0.hdr b)).col z=b:=by
   intro z q;rcases j4 z q with h|h|h;exact K z (by simp[h]);simp only[Gh.fv,b1 z (x0 z h)];rw[an (aqm _ (w3 z h))];simp only[Gh.fv,h];rw[an (by simp)]
  have k3:∀k∈Ba++Bb,w'.heap[k]?=w.heap[k]?:=fun k v=>c1 k (aqm _ v);have G1:w'.heap[B]?=some (.cells cc el (0,0)):=(c1 B (by simp)).trans q4
  have n2:fN (fl w' e0) L ((cc.toList.drop of).take (n*e0.sz)) (Ba++D++Bb):=by
   have:=u3 w' l (a.eval x) D k3 c4;rw[q8,s4]at this;exact this
  have o4:=A1.aor (ts:=tk::ys) (b:=b) (e:=e0) (l:=L) (m:= .row b [b] true) (w':=w') a1 j3 u0 (fun c hc=>by simp only[M.cO,i_,aqB,or_false,or_self]at hc;subst hc;exact u0) ?_ ?_ ?_ L0 M3 b4 B2;refine⟨v',w',_,hr,o4,⟨[v'],rfl,v',rfl,⟨Bn,D2,o1⟩,G4,J4,a1,x4,B,of,n,cap,cc,el,f (l++l2),Ba++Bn++Bb,by simp[Gh.fv,n1,q1],q2,K B (by simp),G1,q5,w4,B4,r4 _,u3 w' (l++l2) v' Bn k3 D2,e4,fun z q=> ?_,by simp⟩,lg.d (fun c hc=> ?_),by rintro _ _ ⟨⟩⟩;simp only[l8]at q;rcases q with(q|q)|q;exact K z (by simp[q]);exact o1 z q;exact K z (by simp[q]);simp only[Sh.cO,M.cO,i_,aqB,or_false]at hc;subst hc;exact⟨u0.1,u0.2.1,by simp[Gh.fv]⟩;rw[n1];refine⟨a1,by simp[Gh.fv],B::(Ba++D++Bb),?_,?_⟩;rw[q1];refine .inr ⟨B,of,cap,cc,el,(0,0),Ba++D++Bb,by rw[q9],by rw[q9];exact q2,G1,q5,rfl,by rw[q9];exact n2⟩;rintro h Bs ⟨⟩;have Y:=K;rw[n1]at Y;exact⟨Y B (by simp),o0,fun z q=>by simp[Y z (aqm _ q)],fun _=>x2⟩;intro k v;by_cases r:k∈D;exact absurd (K k (by simp[r])) v;exact C2 k r;intro k v;by_cases r:k∈D;exact B1 k r;rw[C2 k r];refine A1.fresh k ?_;simp only[Gh.fv]at v;split at v;rename_i h;exact(j3 _ h).1;rw[v];exact a1
 have p0:∀k∈D,∃c el,w.heap[k]?=some (.cells c el (0,0)):=fun k v=>hI.fresh k (by rw[k1 k v];exact a1);have l3:=hI.apS (tk:=tk) hU;rcases alE (ty:=o.type) hu L4 u2 u1 (fN.ama w2) hlen L2 with⟨b5,hr⟩|⟨h,j,J,hv,E0,z1,hr⟩|⟨J,rest,E0,L0,hr⟩
 have p4:l2=[]:=aq9.1 b5;subst p4;refine fin (Bn:=D) l3 (fun c hc=>⟨rfl,a_ (fun e:c=tk=>hU (e▸hc))⟩) (by simp) (fun _ _=>rfl) (j1 hr) rfl rfl rfl rfl (fun _ _=>rfl) (fun _ _=>rfl) p0 D1 (by simpa using D1) (aqP.2 ⟨o0,x2⟩) (fun z q=> .inl q)
 obtain⟨h0,off0,x1,c2,E1,hh,L0⟩:=L2 _ _ J hv z1;cases x1;obtain⟨h1,off1,x1,hB,_,c',M1,fz,L3,_,y2⟩:=B3 _ _ J hv z1;cases x1;rw[hh]at L3;cases L3;have o2:=u1.1;have p2:=u2.1;have hmul:(l.length+l2.length)*e.sz<=J*e.sz:=aqD _ E0;rw[aqS]at hmul;have r0:=NY h (el:=E1) s (j+l.length*e.sz) w c2 hh (by omega);have S:h∈D:=by rw[hB];simp
 have n3:h∉D.drop 1:=by
  have:=nO;rw[hB,aqP]at this;exact this.1
 have J1:h∉Ba++Bb:=by
  intro r;rcases l8.1 r with r|r;exact J3 h r h S rfl;exact y1 h (by simp[S]) h r rfl
 have p1:h≠B:=by
  rintro rfl;simp only[l8,not_or]at o0;exact o0.1.2 S
 have o3:h∉By:=fun r=>(j0 h r).2 (by simp[S]);have r1:h∉By.drop 1:=fun r=>o3 (F h r);have I:∀k,k≠h->(w.setCells h (j+l.length*e.sz) s).heap[k]?=w.heap[k]?:=fun k v=>oU h _ _ w k v;have htl:(c2.toList.take (j+l.length*e.sz)).length=j+l.length*e.sz:=by simp;omega
 have p3:((c2.toList.take (j+l.length*e.sz)++s++c2.toList.drop (j+l.length*e.sz+s.length)).drop j).take (l.length*e.sz)=xs:=by
  rw[aqC,aqz (by omega),aqF (by simp;omega),aqH,y2,aqR,aqN (by omega)]
 have b0:((c2.toList.take (j+l.length*e.sz)++s++c2.toList.drop (j+l.length*e.sz+s.length)).drop j).take ((l++l2).length*e.sz)=xs++s:=by
  rw[aqC,aqz (by omega),aqH,y2];rw[show j+l.length*e.sz-j=l.length*e.sz by omega];rw[<-aqC]
  have s0:(List.take (l.length*e.sz) (List.drop j c2.toList)++s).length=(l++l2).length*e.sz:=by
   rw[aq8,o2,<-y2,p2,aq8,aqS]
  rw[<-s0,arR]
 have L1:fN (fl (w.setCells h (j+l.length*e.sz) s) e) l xs (D.drop 1):=fN.world (fun z q=>I z (fun e=>n3 (e▸q))) x3;have r3:fN (fl (w.setCells h (j+l.length*e.sz) s) e) l2 s (By.drop 1):=fN.world (fun z q=>I z (fun e=>r1 (e▸q))) w2
 refine fin (Bn:=h::(D.drop 1++By.drop 1)) l3 (fun c hc=>⟨rfl,a_ (fun e:c=tk=>hU (e▸hc))⟩) (by simp) (fun _ _=>rfl) (j1 hr) (by rw[Eu]) (qG h _ _ w).1 (qG h _ _ w).2.1 (qG h _ _ w).2.2
  (fun k v=>I k (fun e=>v (e▸S))) (fun k v=>I k (fun e=> ?_)) (fun k v=> ?_) ?_ ?_ (l1 h J1 p1 n3 r1) (fun z q=> ?_)
 subst e;rcases i_.1 v with v|v;exact p1 v;exact J1 v;by_cases e1:k=h;subst e1;exact⟨_,_,r0⟩;rw[I k e1];exact p0 k v;rw[hv];refine .inr ⟨h,j,J,_,E1,(0,0),D.drop 1,rfl,by omega,r0,?_,hB,?_⟩;simp;omega;show fN _ _ ((((c2.toList.take (j+l.length*e.sz)++s++c2.toList.drop (j+l.length*e.sz+s.length)).toArray.toList.drop j).take (l.length*e.sz))) _;rw[aq5,p3];exact L1;refine .inr ⟨h,j,J,_,E1,(0,0),D.drop 1++By.drop 1,by simp,by simpa using E0,r0,?_,rfl,?_⟩;simp;omega;show fN _ _ ((((c2.toList.take (j+l.length*e.sz)++s++c2.toList.drop (j+l.length*e.sz+s.length)).toArray.toList.drop j).take ((l++l2).length*e.sz))) _;rw[aq5,b0];exact fN.append L1 r3;rcases i_.1 q with rfl|q;exact .inl S;rcases l8.1 q with q|q;exact .inl (N z q);exact .inr (.inl (F z q))
 have A1:=(hI.drawn (w.drawn+1)).alloc h3 hU (xs++s++rest).toArray ti.el (.slice (some ⟨w.heap.size,0,none⟩) (l.length+l2.length) J) false
 have s3:∀z,z<w.heap.size->(G.add w.heap.size tk (.slice (some ⟨w.heap.size,0,none⟩) (l.length+l2.length) J) false).col z=G.col z:=fun z q=>by
  simp[Gh.add,Nat.ne_of_lt q]
 have hold:∀k,k<w.heap.size->(w.drew.alloc (.cells (xs++s++rest).toArray ti.el)).heap[k]?=w.heap[k]?:=fun k v=>heap_alloc_old w.drew _ k v
 have H:∀z∈B::(Ba++D++Bb),z<w.heap.size:=by
  intro z q
  have k2:G.col z=b:=by
   rcases i_.1 q with rfl|q;exact q3;exact q7 z q
  exact hI.lt z (by omega)
 have x0:∀z∈By,z<w.heap.size:=r2.bounds;have hnin:∀ {z:Nat},z<w.heap.size->z≠w.heap.size:=fun h=>Nat.ne_of_lt h;refine fin (Bn:=w.heap.size::(D.drop 1++By.drop 1)) A1 (fun c hc=> ?_) (by simp[Gh.add]) s3 (j1 hr) rfl rfl rfl rfl (fun _ _=>rfl) (fun k v=>hold k (H k ?_)) (fun k v=> ?_) ?_ ?_ (l1 _ ?_ ?_ ?_ ?_) (fun z q=> ?_);have:c≠tk:=fun e=>hU (e▸hc);simp[Gh.add,this];simp only[i_,l8]at v|-;rcases v with v|v|v<;>simp[v];rw[hold k (H k (by simp[v]))];exact p0 k v;exact Bk.mono (fun z q=>hold z (H z (by simp[q]))) D1;refine .inr ⟨w.heap.size,0,J,_,ti.el,(0,0),D.drop 1++By.drop 1,by simp,by simpa using E0,heap_alloc_new _ _,by simpa using L0,rfl,?_⟩;have p2:=u2.1;have o2:=u1.1
 have b0:(((xs++s++rest).toArray.toList.drop 0).take ((l++l2).length*e.sz))=xs++s:=by
  have s0:(xs++s).length=(l++l2).length*e.sz:=by rw[aq8,o2,p2,aq8,aqS]
  simp only[are];rw[<-s0,arR]
 rw[b0];exact fN.append (fN.world (w:=w) (fun z q=>hold z (H z (by simp[N z q]))) x3) (fN.world (w:=w) (fun z q=>hold z (x0 z (F z q))) w2);intro r;exact ark _ (H _ (by simp only[i_,l8]at r|-;rcases r with h|h<;>simp[h]));exact fun e=>ark _ (H _ (by simp[e]));exact fun r=>ark _ (H _ (by simp[N _ r]));exact fun r=>ark _ (x0 _ (F _ r));rcases i_.1 q with rfl|q;exact .inr (.inr (by simp[Gh.add]));rcases l8.1 q with q|q;exact .inl (N z q);exact .inr (.inl (F z q))
theorem amC(hC:CxTy P C)(hI:Inv w0 c0 U E a w G){o:Oper}{t:TypeId}{x y:Operand}(ho:o.op= .store t x y){ti:TI}(h0:C.tt t=some ti){σ e:Ty}(hτ:ti.τ= .sl σ)
 {l:List e.den} {z:List σ.den} {b:Nat} {hs:List Nat} {i:Int} {off:Nat} {p:List Bool} {fr:Bool} {s of n cap:Nat} {r:e.den×Sh}
 (hx:qs w G σ z (a.eval y) (.nst b e i off p fr)) (S:qs w G e l (G.hdr b) (.row b hs true)) (j0:hs.all (·=b)=true) (W:Good U G b)
 (k2:G.hdr b= .slice (some ⟨s,of,none⟩) n cap) (k5:a.eval x= .pointer (some ⟨s,of+i.toNat*e.sz+off,none⟩))
 (hr:N3 e (l.getD i.toNat e.aa) (NU e (.sha [])) p ⟨.sl σ,z,.sl (.sha [])⟩=some r):
 ∃w' G',(execOp a.eval o).run P w= .ok .skip w'/\Inv w0 c0 U (E.elem [] b e (l.set i.toNat r.1) (.row b [b] true)) a w' G':=by
 obtain⟨⟨B,hB,hc⟩,hsub,e0,h3,hi0,blk,of',n',cap',c,el,L0,Bs,g1,g2,g3,g4,g5,g6,g7,g8,g9,D,s0,g12⟩:=hx;rw[k2]at g1;simp only[Value.slice.injEq,aoz,Addr.mk.injEq,and_true]at g1;obtain⟨⟨rfl,rfl⟩,rfl,rfl⟩:=g1;obtain⟨hn,J,c',el',fz,Bs0,hh,hsz,hl,hnd,hcb,hcB⟩:=aeu S j0 k2 (by omega);rw[g4]at hh;simp only[aoz,Obj.cells.injEq]at hh;obtain⟨rfl,rfl,rfl⟩:=hh;have hi:i.toNat<l.length:=by omega
 have Y:l[i.toNat]?=some (l.getD i.toNat e.aa):=by
  rw[l9,aqu hi];rfl
 obtain⟨B1,Bx,B2,rfl,u0,x0,E0⟩:=fN.get (sz:=e.sz) (fun x c B h=>fl.len h) hl Y;obtain⟨Ba,Bo,Bb,rfl,K,hle⟩:=fl.put (v:=⟨.sl σ,z,.sl (.sha [])⟩) (cv:=[a.eval y]) hr u0 (show fl w (.sl σ) z [a.eval y] B from⟨_,rfl,hB⟩);have j:=fN.set (sz:=e.sz) hi K x0 E0;have hmul:(i.toNat+1)*e.sz<=l.length*e.sz:=aqD _ hi;have hmul2:l.length*e.sz<=cap*e.sz:=aqD _ J;rw[aqS,aq4]at hmul;rw[e0]at K j hle
 have o0:wJ (i.toNat*e.sz+off) [a.eval y] ((c.toList.drop of).take (l.length*e.sz))=
  ((c.toList.drop of).take (l.length*e.sz)).take (i.toNat*e.sz)++wJ off [a.eval y] ((((c.toList.drop of).take (l.length*e.sz)).drop (i.toNat*e.sz)).take e.sz)++((c.toList.drop of).take (l.length*e.sz)).drop ((i.toNat+1)*e.sz):=by
  rw[XF (sz:=e.sz) (by simpa using g7),aqS,aq4]
 rw[<-o0]at j;rw[<-hn]at j;have hL:L0=l.set i.toNat r.1:=fN.det (sz:=e.sz) (fun x c B h=>fl.len h) (fun x c B h=>fl.len h) (fun x x' c B B' h h'=>fl.det h h') g9 j (by simp;omega);subst hL;have hO:of+i.toNat*e.sz+off+1<=c.size:=by omega
 have q:=NY s (el:=el) [a.eval y] (of+i.toNat*e.sz+off) w c g4 (by simpa using hO);have hT:=(hC.tt t ti h0).1;have b0:(a.eval y).oneCell'=true:=hB.one;have H:=XL (P:=P) (t:=t) (τ:=ti.τ) hT g4 (o:=of+i.toNat*e.sz+off) (cs:=[a.eval y]) (by rw[hτ];simpa[Ty.sz]using hO) (by rw[hτ];rfl) (by simpa using b0) k5;have d:∀k,k≠s->(w.setCells s (of+i.toNat*e.sz+off) [a.eval y]).heap[k]?=w.heap[k]?:=fun k F=>oU s _ _ w k F;rw[aqP]at D;have I:∀k,(G.fv [] b (G.hdr b)).col k=G.col k:=fun k=>by simp[Gh.fv]
 have p0:=hI.aor (ts:=[]) (b:=b) (e:=e) (l:=l.set i.toNat r.1) (m:= .row b [b] true) (w':=w.setCells s (of+i.toNat*e.sz+off) [a.eval y]) h3 (by simp) W
  (fun c hc=>by simp only[M.cO,i_,aqB,or_false,or_self]at hc;subst hc;exact W) ?_ (fun k F=>d k (fun N=>F (by rw[I,N,g3]))) (fun k F=> ?_)
  (by rw[Eu]) (qG _ _ _ w).1 (qG _ _ _ w).2.1 (qG _ _ _ w).2.2
 refine⟨_,_,?_,p0⟩;simp only[execOp,ho];have r0:zE ti.τ [a.eval y]=a.eval y:=by rw[hτ];rfl
 rw[r0]at H;simp[H];rw[k2];refine⟨h3,by simp[Gh.fv],s::Bs,.inr ⟨s,of,cap,_,el,(0,0),Bs,by simp[hn],by simpa using J,q,by simp;omega,rfl,?_⟩,?_⟩;show fN _ _ ((((c.toList.take (of+i.toNat*e.sz+off)++[a.eval y]++c.toList.drop (of+i.toNat*e.sz+off+ [a.eval y].length)).toArray.toList.drop of).take ((l.set i.toNat r.1).length*e.sz))) _;rw[aq5]
 have u:((wJ (of+i.toNat*e.sz+off) [a.eval y] c.toList).drop of).take ((l.set i.toNat r.1).length*e.sz)=wJ (i.toNat*e.sz+off) [a.eval y] ((c.toList.drop of).take (n*e.sz)):=by
  rw[ZR (by omega) (by simp;omega),Z6 (by simp;omega) (by simp;omega),show of+i.toNat*e.sz+off-of=i.toNat*e.sz+off by omega];simp[hn]
 show fN _ _ (((wJ (of+i.toNat*e.sz+off) [a.eval y] c.toList).drop of).take ((l.set i.toNat r.1).length*e.sz)) _;rw[u];exact fN.world (fun k F=>d k (fun N=>D.1 (N▸F))) g9;rintro h Bs' ⟨⟩;exact⟨by simp[Gh.fv,g3],D.1,fun x hx=>by simp[Gh.fv,s0 x hx],fun _=>D.2⟩;by_cases N:k=s;subst N;exact⟨_,_,q⟩;rw[d k N];rw[I]at F;exact hI.fresh k (by rw[F];exact h3)
theorem amM(hC:Xq P C)(I:Inv w0 c0 U E a w G)(hR:RI ops E a.tmps){tk:Nat}(h3:4<=tk)(hU:∀u,tk<=u->u<tk+32->¬U u){o:Oper}{ef:Ef}
 (h:V4 C ops E.rd tk o=some ef):EfS P w0 c0 (fun u=>U u\/(tk<=u/\u<tk+32)) E a ((execOp a.eval o).run P w) ef:=by
 have e0:=hC.toCxTy;have hg:Gd ops a.tmps none:=by rintro j w' ⟨⟩
 unfold V4 at h;split at h
 rename_i t x ho;split at h;rename_i ti b e i off p τ J K;split at h;rename_i l hs nd s;obtain⟨hc,h⟩:=Option.ite_none_right_eq_some.mp h;split at h;rename_i σ z sh Y;simp only[aoz]at h;subst h;simp only[Q_,b_]at hc;obtain⟨⟨⟨⟨rfl,F⟩,_⟩,rfl⟩,H⟩:=hc;obtain⟨h1,_⟩:=KM I hR hg K;obtain⟨bk,of,n,cap,L0,k2,k3,k4,k5⟩:=h1;obtain⟨⟨vh,k⟩,q⟩:=I.CT s;have D:vh=G.hdr b:=k.2.1.symm;rw[D]at k
 have N:ti.τ= .sl σ:=by
  have:=abN Y;rw[H]at this;simpa using this
 rw[N]at H;obtain⟨c,el,z',v,g1,g2,g3,g4⟩:=amf k F k2 k3 k4 H I;have hT:=(e0.tt t ti J).1
 have j0:(execOp a.eval o).run P w= .ok (.value v) w:=by
  have hl:=YT hT g1 (o:=of+i.toNat*e.sz+e.off p) (by rw[N];exact g2);rw[N,show(Ty.sl σ).sz=1 from rfl,g3,show zE (.sl σ) [v]=v from rfl]at hl;simp only[execOp,ho];refine ED ?_;simp only[Instr.loadAt,k5,Instr.sureAddr];simpa using hl
 have hz:z'=z:=by
  obtain⟨_,hcap,c2,el2,fz,Bs,hh,hsz,hl,_⟩:=aeu k F k2 (by omega);rw[g1]at hh;simp only[aoz,Obj.cells.injEq]at hh;obtain⟨rfl,rfl,rfl⟩:=hh;have hi:i.toNat<l.length:=toNat_lt k3 (by obtain⟨hn,_⟩:=aeu k F k2 (by omega);rw[<-hn];exact k4);obtain⟨f,z2,Ba,Bo,Bb,q1,_,q3,q4,_,_⟩:=fN.place hl hi H;simp only[Ty.sz]at q3 q4;rw[aqH,aqR,aqQ,aqN (by omega),<-arj,g3]at q3
  have o0:l[i.toNat]?=some (l.getD i.toNat e.aa):=by
   rw[l9,aqu hi];rfl
  obtain⟨B1,Bx,B2,_,R0,_,_⟩:=fN.get (sz:=e.sz) (fun x c B h=>fl.len h) hl o0;have S:=afh Y R0;obtain⟨Bv,S⟩:=S;have hmul:(i.toNat+1)*e.sz<=l.length*e.sz:=aqD _ hi;rw[aqS,aq4]at hmul;have x0:=aai H;simp only[Ty.sz]at S x0;rw[aqH,aqR,aqQ,aqN (by omega),aqH,aqR,aqQ,aqN (by omega),<-arj,g3]at S;obtain⟨⟨B4,g4,_⟩,_⟩:=g4;exact fl.det (show fl w (.sl σ) z' [v] B4 from⟨v,rfl,g4⟩) S
 subst hz
 exact tM (I.mono (fun u hu=> .inl hu)) j0 ⟨[v],rfl,v,rfl,g4⟩ (lg.d (fun c hc=>by
  simp only[Sh.cO,M.cO,aqT]at hc;subst hc;have:=q c (by simp);exact⟨this.1,.inl this.2.1,this.2.2⟩)) (by rintro _ _ ⟨⟩)
 cases h;cases h;cases h
 rename_i t x y ho;split at h;rename_i ti b e i off p τ σ z b' e' i' off' p' fr J K hv;split at h;rename_i l hs nd s;obtain⟨hc,h⟩:=Option.ite_none_right_eq_some.mp h;obtain⟨r,hr,h⟩:=aqx.mp h;subst h;simp only[Q_,b_]at hc;obtain⟨⟨⟨⟨⟨⟨⟨⟨⟨rfl,F⟩,rfl⟩,rfl⟩,rfl⟩,rfl⟩,hoff⟩,H⟩,a1⟩,hτ⟩:=hc;intro b0;have G0:i=i':=e_ b0;subst G0;obtain⟨h1,_⟩:=KM I hR hg K;obtain⟨bk,of,n,cap,L0,k2,k3,k4,k5⟩:=h1;obtain⟨⟨vh,k⟩,q⟩:=I.CT s;have D:vh=G.hdr b':=k.2.1.symm;rw[D]at k;obtain⟨m,hm,hx,_,_⟩:=Rb I hR hg hv;cases hm;obtain⟨w',G',q1,q2⟩:=amC e0 I ho J (hτ.symm.trans a1.symm) hx k F (q b' (by simp)) k2 k5 hr;exact .inr ⟨rfl,w',G',q1,q2.mono fun u hu=> .inl hu⟩;cases h;cases h
 rename_i c ho;split at h;rename_i x y t u hb ha r0;have h0:c.args= #[x,y]:=arN (by simpa using ha);have p0:c.argTypes= #[t,u]:=arN (by simpa using r0);split at h;rename_i ti e l b E0 i off p e' l' m' J hx hy;split at h;rename_i l2 L hs nd ys s0 s u0;have W:=Ea s0;simp only[TV.mk.injEq]at W;obtain⟨he,hl,_⟩:=W;cases he;cases hl;obtain⟨hc,h⟩:=Option.ite_none_right_eq_some.mp h;simp only[aoz]at h;subst h;simp only[Q_,b_,aqA,W',d_]at hc;obtain⟨⟨⟨⟨rfl,F⟩,b1⟩,hτ⟩,rfl⟩:=hc;intro b0;have hlen:l.length+l2.length<4294967296:=e_ b0;obtain⟨mx,c1,e1,_,_⟩:=Rb I hR hg hx;cases c1;obtain⟨my,j1,k1,_,l1⟩:=Rb I hR hg hy;cases j1;obtain⟨⟨vh,k⟩,q⟩:=I.CT s;have D:vh=G.hdr b:=k.2.1.symm;rw[D]at k;exact .inl ((aoN e0 I h3 (hU tk (r_ _) (by omega)) ho hb h0 p0 J hτ e1 k1 l1 u0 b1 k (q b (by simp)) hlen).mono fun u hu=>hu.imp id fun e=>by omega);cases h;cases h;cases h;cases h
def akQ{R:Rd}{tk:Nat}{o:Oper}{gv:List Nat}{b:Nat}{e:Ty}{l:List e.den}{m:M}(h:V4 C ops R tk o=some (.elem gv b e l m)):False:=by
 unfold V4 at h;split at h;split at h;split at h;obtain⟨_,h⟩:=Option.ite_none_right_eq_some.mp h;split at h<;>cases h;cases h;cases h;split at h;split at h;obtain⟨_,h⟩:=Option.ite_none_right_eq_some.mp h;obtain⟨r,_,h⟩:=aqx.mp h;cases h;cases h;cases h;split at h;split at h;split at h;obtain⟨_,h⟩:=Option.ite_none_right_eq_some.mp h;cases h;cases h;cases h;cases h;cases h
def ant{R:Rd}{tk:Nat}{o:Oper}{gv:List Nat}{b:Nat}{e:Ty}{l:List e.den}{m:M}(h:S7 C ops R tk g o=some (.elem gv b e l m)):kH C ops R tk g o=some (.elem gv b e l m):=by
 unfold S7 at h;split at h;split at h;rename_i ef c;cases h;exact(akQ c).elim;exact h;exact h
def ahX(b:Xq P C)(c:Inv w0 c0 U E a w G)(d:RI ops E a.tmps)(j:Gd ops a.tmps g){tk:Nat}(e:4<=tk)(i:∀u,tk<=u->u<tk+32->¬U u){o:Oper}{k:Ef}
 (h:S7 C ops E.rd tk g o=some k):EfS P w0 c0 (fun u=>U u\/(tk<=u/\u<tk+32)) E a ((execOp a.eval o).run P w) k:=by
 unfold S7 at h;split at h;split at h;rename_i ef' l;cases h;exact amM b c d e i l;exact ajT b c d j e i h;exact ajT b c d j e i h
end
section
variable{P:Program}{C:Cx}{w0:World}{c0:C0}{U:Nat->Prop}{E:Env}{a:Act}{w:World}{G:Gh}{ops:List Oper}{g:Option (Nat×Bool)}{L:Nat->Prop}
def UP(ops:List Oper)(L:Nat->Prop)(E:Env)(tmps:Array Value):Prop:=
 ∀s j w act v,E.s.getD s .no= .g j w act v->(act=true↔yielded ops.toArray tmps j=some w)/\L j/\∃o∈ops,∃w',o.guard=some (j,w')
theorem UP.ri{tmps:Array Value}(h:UP ops L E tmps):RI ops E tmps:=fun s j w act v hs=>(h s j w act v hs).1
theorem UP.map{tmps:Array Value}(h:UP ops L E tmps){E':Env}(c:∀s j w act v,E'.s.getD s .no= .g j w act v->∃b,E.s.getD s .no= .g j w act b):UP ops L E' tmps:=by
 intro s j w act v hs;obtain⟨b,e⟩:=c s j w act v hs;exact h s j w act b e
def aaD{f:M->M}{fe:Nat->Bool}{fr:List Nat->Option (List Nat)}{s:SV}{j:Nat}{w act:Bool}{v:SV}(h:s.mapM f fe fr= .g j w act v):∃b,s= .g j w act b:=by
 cases s with
 |g j' w' act' u=>simp only[SV.mapM,SV.g.injEq]at h;obtain⟨rfl,rfl,rfl,_⟩:=h;exact⟨u,rfl⟩
 |ept t' e i o p τ=>simp only[SV.mapM]at h;split at h<;>cases h
 |rdp hs v=>simp only[SV.mapM]at h;split at h<;>cases h
 |_=>simp[SV.mapM]at h
def aj6{b:Nat}{e:Ty}{y:List e.den}{m:M}{s:SV}{j:Nat}{w act:Bool}{v:SV}(h:s.setRow b e y m= .g j w act v):∃c,s= .g j w act c:=by
 cases s with
 |g j' w' act' u=>simp only[SV.setRow,SV.g.injEq]at h;obtain⟨rfl,rfl,rfl,_⟩:=h;exact⟨u,rfl⟩
 |rdp hs v=>simp only[SV.setRow]at h;split at h<;>cases h
 |_=>simp[SV.setRow]at h
def ajG{ts:List Nat}{s j:Nat}{w act:Bool}{v:SV}(h:(E.kill ts).s.getD s .no= .g j w act v):∃b,E.s.getD s .no= .g j w act b:=by
 rw[Env.ac0]at h;split at h;exact⟨v,h⟩;exact aaD h
def alG{ts:List Nat}{d:List (Nat×Nat)}{s j:Nat}{w act:Bool}{v:SV}(h:(E.qn ts d).s.getD s .no= .g j w act v):∃k,E.s.getD s .no= .g j w act k:=by
 rcases ad0 E ts d s with c|⟨b,b',e,i,o,p,τ,_,_,c⟩;rw[c]at h;exact ajG h;have:=c.symm.trans h;cases this
def apH{ts:List Nat}{t s j:Nat}{w act:Bool}{v:SV}(h:(E.fv ts t).s.getD s .no= .g j w act v):∃b,E.s.getD s .no= .g j w act b:=by
 unfold Env.fv at h;split at h;exact⟨v,h⟩;have:=getD_map (L:=E.s) (T:=SV.fv ts t) rfl s;rw[this]at h;exact aaD h
def ajV{gv:List Nat}{b:Nat}{e:Ty}{l:List e.den}{m:M}{s j:Nat}{w act:Bool}{v:SV}(h:(E.elem gv b e l m).s.getD s .no= .g j w act v):∃c,E.s.getD s .no= .g j w act c:=by
 have:=getD_map (L:=E.s) (T:=fun s=>((s.fv gv b).og b).setRow b e l m) rfl s;simp only[Env.elem]at h;rw[this]at h;obtain⟨v1,d⟩:=aj6 h;obtain⟨v2,i⟩:=aaD d;exact aaD i
def afV{l:List (Nat×Nat×TV)}{K:List SV}{s j:Nat}{w act:Bool}{v:SV}(h:(od l K).getD s .no= .g j w act v):K.getD s .no= .g j w act v:=by
 rcases Y4 l K s with b|⟨t,u,_,b⟩;rw[<-b];exact h;rw[b]at h;cases h
def akN{a:Act}{d:Option Nat}{v:Value}{j:Nat}(h:∀x,d=some x->(ops[j]?).bind (·.dst)≠some x):
 yielded ops.toArray (a.put d v).tmps j=yielded ops.toArray a.tmps j:=by
 cases d with
 |none=>rfl
 |some d=>
  unfold yielded;simp only[aqW];cases c:(ops[j]?).bind (·.dst)with
  |none=>rfl
  |some s=>
   have b:d≠s:=fun e=>h d rfl (by rw[c,e]);simp[Act.put,Array.getElem?_setIfInBounds_ne b]
def aji(h:Rh ops=true){o:Oper}(q:o∈ops){j:Nat}{w:Bool}(r:o.guard=some (j,w)){i:Nat}{b:Oper}(s:ops[i]?=some b)(c:i≠j):
 ∀x,b.dst=some x->(ops[j]?).bind (·.dst)≠some x:=by
 intro x m;unfold Rh at h;rw[aqt]at h;obtain⟨k,t,rfl⟩:=List.mem_iff_getElem.1 q;have:=h (ops[k],k) (aq2.2 (aqu t));simp only[r,Q_]at this;obtain⟨_,this⟩:=this;split at this;cases this;rename_i d p;rw[aqt]at this;have l:=this (b,i) (aq2.2 s);simp only[ard,b_,c,false_or]at l;intro e;rw[p]at e;cases e;exact l m
def aeJ(h:Rh ops=true){i:Nat}{o:Oper}(b:ops[i]?=some o){j:Nat}{w:Bool}(c:o.guard=some (j,w)):j<i:=by
 unfold Rh at h;rw[aqt]at h;have:=h (o,i) (aq2.2 b);simp only[c,Q_,b_]at this;exact this.1
def abS(F:Inv w0 c0 U E a w G){j:Nat}{w':Bool}{act:Option Bool}(h:guardOf ops E.rd (some (j,w'))=some act):
 ∃b,act=some b/\(b=true↔yielded ops.toArray a.tmps j=some w'):=by
 simp only[guardOf]at h;split at h;cases h;rename_i s hs;have e:=F.slots s
 have l:∀x:Bool,a.tmps.getD s undef= .bool x->yielded ops.toArray a.tmps j=some x:=by
  intro x c;unfold yielded;simp only[aqW,hs,arb];rw[ari]at c;cases p:a.tmps[s]? with
  |none=>rw[p]at c;cases c
  |some v=>rw[p]at c;simp at c;rw[c]
 have q:a.tmps.getD s undef=undef->yielded ops.toArray a.tmps j=none:=by
  intro c;unfold yielded;simp only[aqW,hs,arb];rw[ari]at c;cases p:a.tmps[s]? with
  |none=>rfl
  |some v=>rw[p]at c;simp at c;rw[c];rfl
 have i:∀ {x:Bool} {k:Sh} {u:Value},rn w G (.d ⟨.bool,x,k⟩) u->u= .bool x:=by
  intro x k u r;obtain⟨H,I,z⟩:=r;cases k with
  |leaf=>rw[I,show H=_ from z];rfl
  |sl m=>exact z.elim
  |pair a b=>exact z.elim
 split at h;rename_i x k c;cases h
 have r:E.s.getD s .no= .d ⟨.bool,x,k⟩:=by
  have:pr (E.s.getD s .no)= .d ⟨.bool,x,k⟩:=c;cases p:E.s.getD s .no with
  |d v=>rw[p]at this;exact this
  |_=>rw[p]at this;simp[pr]at this
 rw[r]at e;refine⟨_,rfl,?_⟩;rw[l x (i e)];simp;rename_i j' w'' t x k c;cases h;obtain⟨B,r,D⟩:=alJ (sv:=E.s.getD s .no) c
 have y:B= .d ⟨.bool,x,k⟩:=by
  cases B with
  |d v=>exact D.symm
  |_=>simp[pr]at D
 subst y;rw[r]at e;refine⟨_,rfl,?_⟩;cases t with
 |true=>
  rw[l x (i (e.1 rfl).2)];simp
 |false=>
  rw[q (e.2 rfl)];simp
 cases h
def acM(v:SV)(o:Option (Nat×Bool)):Ap o none v=v.Q6:=by
 unfold Ap;split<;>simp_all
def apn{v:SV}{mv:Value}(hs:rn w G v mv)(b:lg U G v):rn w G v.Q6 mv/\lg U G v.Q6:=by
 cases v with
 |g=>exact⟨trivial,by simp[lg,SV.Q6,SV.sc,SV.bt,SV.rt]⟩
 |_=>exact⟨hs,b⟩
def aoS{v:SV}{t:Nat}{u:TV}(h:v.Q6= .box t u):v= .box t u:=by
 cases v with
 |g=>cases h
 |_=>exact h
def aoA{v u:SV}{j:Nat}{w act:Bool}:v.Q6≠ .g j w act u:=by
 cases v<;>simp[SV.Q6]
def alI{v:SV}{mv:Value}{j:Nat}{w':Bool}(hs:rn w G v mv)(c:lg U G v):rn w G (Ap (some (j,w')) (some true) v) mv/\lg U G (Ap (some (j,w')) (some true) v)/\∀t u,Ap (some (j,w')) (some true) v≠ .box t u:=by
 unfold Ap;cases b:v.ye with
 |true=>simp only[b,if_true];exact⟨trivial,by simp[lg,SV.sc,SV.bt,SV.rt],by simp⟩
 |false=>
  simp only[b,aqZ,if_false];exact⟨⟨fun _=>⟨b,hs⟩,fun e=>absurd e (by simp)⟩,by simpa[lg,SV.sc,SV.bt,SV.rt]using c,by simp⟩
def alu{v:SV}{j:Nat}{w':Bool}:rn w G (Ap (some (j,w')) (some false) v) undef/\lg U G (Ap (some (j,w')) (some false) v)/\∀t u,Ap (some (j,w')) (some false) v≠ .box t u:=by
 unfold Ap;cases b:v.ye with
 |true=>simp only[b,if_true];exact⟨trivial,by simp[lg,SV.sc,SV.bt,SV.rt],by simp⟩
 |false=>
  simp only[b,aqZ,if_false];exact⟨⟨fun e=>absurd e (by simp),fun _=>rfl⟩,by simp[lg,SV.sc,SV.bt,SV.rt],by simp⟩
end
section
variable{P:Program}{C:Cx}{w0:World}{c0:C0}{U:Nat->Prop}{E:Env}{a:Act}{w:World}{G:Gh}{ops:List Oper}{L:Nat->Prop}{Q:Exit->Act->World->Prop}
theorem UP.put(h:UP ops L E a.tmps){i:Nat}{o:Oper}(D:ops[i]?=some o)(y:Rh ops=true)(z:¬L i)(H:∀j w',o.guard=some (j,w')->L j){sv:SV}{mv:Value}
 (K:∀j w' act v,sv= .g j w' act v->(act=true↔yielded ops.toArray a.tmps j=some w')/\o.guard=some (j,w')):
 UP ops (fun j=>L j\/j=i) (E.set o.dst sv) (a.put o.dst mv).tmps:=by
 have p:o∈ops:=aqO D
 have b:∀j,L j->(∃u∈ops,∃w',u.guard=some (j,w'))->yielded ops.toArray (a.put o.dst mv).tmps j=yielded ops.toArray a.tmps j:=by
  rintro j J ⟨u,ho',w',hw'⟩;exact akN (aji y ho' hw' D (fun e=>z (e▸J)))
 intro s j w' act v hs
 have c:E.s.getD s .no= .g j w' act v\/sv= .g j w' act v:=by
  cases I:o.dst with
  |none=>rw[I]at hs;exact .inl hs
  |some d=>
   rw[I]at hs;simp only[Env.set,CS]at hs;split at hs;exact .inr hs;exact .inl hs
 rcases c with hs|hs;obtain⟨B,l,q⟩:=h s j w' act v hs;rw[b j l q];exact⟨B,.inl l,q⟩;obtain⟨B,l⟩:=K j w' act v hs;have q:∃u∈ops,∃w',u.guard=some (j,w'):=⟨o,p,w',l⟩
 rw[b j (H j w' l) q];exact⟨B,.inl (H j w' l),q⟩
def PQ{i:Nat}{o:Oper}(b:ops[i]?=some o){K:Act->World->Prop}(c:Region.wanted o (yielded ops.toArray a.tmps)=true)(h:o.wp P a w K Q):wpOp P ops.toArray Q i K a w:=by
 unfold wpOp;simp only[aqW,b,c,if_true];exact .inl h
def W5{o:Oper}{K:Act->World->Prop}{R:Value->World->Prop}(h:Enters P ((execOp a.eval o).run P w) R)(c:∀v w',R v w'->K (a.put o.dst v) w'):o.wp P a w K Q:=by
 unfold Oper.wp;unfold Enters at h;split at h;rename_i f args d b;rw[b];exact Calls.mono h (fun e w' ⟨v,h1,h2⟩=>by subst h1;exact c v w' h2);rename_i v d b;rw[b];exact c _ _ h;exact h.elim
def S6{E':Env}{o:Oper}{K:Act->World->Prop}{sv:SV}(h:Yields w0 c0 U E' a ((execOp a.eval o).run P w) sv)
 (c:∀v w' G',Inv w0 c0 U E' a w' G'->rn w' G' sv v->lg U G' sv->(∀t u,sv= .box t u->∀s b,E'.s.getD s .no≠ .box t b)->K (a.put o.dst v) w'):o.wp P a w K Q:=by
 obtain⟨d,w',G',e,i,j,k,l⟩:=h;unfold Oper.wp;rw[e];exact c d w' G' i j k l
def alB(hC:Xq P C){i:Nat}{o:Oper}(ho:ops[i]?=some o)(hI:Inv w0 c0 U E a w G)(H:UP ops L E a.tmps)(hL:∀j w',o.guard=some (j,w')->L j)(e0:¬L i)(h0:Rh ops=true)
 {tk:Nat} (h3:4<=tk) (hU:∀u,tk<=u->u<tk+32->¬U u) {act:Option Bool} {ef:Ef} (S:guardOf ops E.rd o.guard=some act) (Y:S7 C ops E.rd tk o.guard o=some ef)
 {E':Env} (d:kc o act E some ef=some E') {K:Act->World->Prop}
 (hK:∀a' w' G',Inv w0 c0 (fun u=>U u\/(tk<=u/\u<tk+32)) E' a' w' G'->UP ops (fun j=>L j\/j=i) E' a'.tmps->(∃v,a'=a.put o.dst v)->K a' w'):wpOp P ops.toArray Q i K a w:=by
 have j0:=hI.mono (U':=fun u=>U u\/(tk<=u/\u<tk+32)) (fun u hu=> .inl hu);cases k:o.guard with
 |none=>
  rw[k]at S Y;simp only[guardOf,aoz]at S;subst S;have r:Region.wanted o (yielded ops.toArray a.tmps)=true:=by simp[Region.wanted,k]
  have J:=ahX hC hI H.ri (g:=none) (by rintro j w' ⟨⟩) h3 hU Y;refine PQ ho r ?_
  have fin:∀ {E1:Env} {sv:SV} {mv:Value} {w':World} {G':Gh},UP ops L E1 a.tmps->E'=E1.set o.dst sv.Q6->Inv w0 c0 (fun u=>U u\/(tk<=u/\u<tk+32)) E1 a w' G'->rn w' G' sv mv->
   lg (fun u=>U u\/(tk<=u/\u<tk+32)) G' sv->(∀t u,sv= .box t u->∀s u',E1.s.getD s .no≠ .box t u')->K (a.put o.dst mv) w':=by
   intro E1 sv mv w' G' r1 N q B D F;obtain⟨k1,W⟩:=apn B D;refine hK _ _ G' ?_ ?_ ⟨_,rfl⟩;rw[N];exact q.put o.dst k1 W.1 W.2.1 W.2.2 (fun t u e=>F t u (aoS e));rw[N];exact r1.put ho h0 e0 hL (fun j w' act v e=>absurd e aoA)
  have skip:∀ {E1:Env} {w':World} {G':Gh},UP ops L E1 a.tmps->E'=E1->o.dst=none->Inv w0 c0 (fun u=>U u\/(tk<=u/\u<tk+32)) E1 a w' G'->K (a.put o.dst undef) w':=by
   intro E1 w' G' r1 N hd q;refine hK _ _ G' ?_ ?_ ⟨_,rfl⟩;rw[N,hd];exact q;rw[N,hd];intro s j w' act v hs;obtain⟨q1,q2,q3⟩:=r1 s j w' act v hs;exact⟨q1,.inl q2,q3⟩
  cases ef with
  |val v=>
   simp only[kc,aoz]at d;rw[acM]at d;exact S6 J (fun mv w' G' q B D F=>fin H d.symm q B D F)
  |chk c v=>
   simp only[kc]at d;split at d;rename_i hc;simp only[aoz]at d;rw[acM]at d;exact S6 (J hc) (fun mv w' G' q B D F=>fin H d.symm q B D F);cases d
  |opt α z x f=>
   simp only[kc,aqI,aoz]at d;obtain⟨y,I,d⟩:=d;rw[acM]at d;exact W5 (J y I) (fun mv w' ⟨G',q,B,D,F⟩=>fin H d.symm q B D F)
  |put b s v=>
   simp only[kc]at d;split at d;rename_i hc;simp only[aoz]at d;simp only[aqU,arA,aro]at hc;obtain⟨w',G',h1,h2⟩:=J;unfold Oper.wp;rw[h1];refine skip (E1:={E with s:=E.s.set s (.box b v)}) (H.map (fun s' j w' act u h=> ?_)) d.symm hc h2;simp only[CS]at h;split at h;cases h;exact⟨u,h⟩;cases d
  |app c kl gv t v=>
   simp only[kc,aqU,if_true]at d;split at d;rename_i hc;simp only[aoz]at d
   exact S6 (J hc) (fun mv w' G' q B D F=>fin (H.map (fun s j w' act u h=>by
    obtain⟨v1,h1⟩:=apH h;exact ajG h1)) d.symm q B D F)
   cases d
  |elem gv b e l m=>
   simp only[kc]at d;split at d;rename_i hc;simp only[aoz]at d;simp only[aqU,arA,aro]at hc;obtain⟨w',G',h1,h2⟩:=J;unfold Oper.wp;rw[h1];exact skip (H.map (fun s j w' act u h=>ajV h)) d.symm hc h2;cases d
  |nap c gv b e l m v=>
   simp only[kc,aqU,if_true]at d;split at d;rename_i hc;simp only[aoz]at d;rcases J hc with hY|⟨rfl,w',G',h1,h2⟩;exact S6 hY (fun mv w' G' q B D F=>fin (H.map (fun s j w' act u h=>ajV h)) d.symm q B D F);unfold Oper.wp;rw[h1];exact fin (sv:= .no) (mv:=undef) (H.map (fun s j w' act u h=>ajV h)) d.symm h2 trivial (by simp[lg,SV.sc,SV.bt,SV.rt]) (by rintro _ _ ⟨⟩);cases d
  |call α x b0 f rp=>
   simp only[kc,aqU,if_true,aqI,aoz]at d;obtain⟨y,I,d⟩:=d;exact W5 (J y I) (fun mv w' ⟨G',q,B,D,F⟩=>fin (E1:={E.qn b0 (rp y)with s:=od (f y).2 (E.qn b0 (rp y)).s}) (H.map (fun s j w' act u h=>alG (afV h))) d.symm q B D F)
 |some p=>
  obtain⟨j,w'⟩:=p;rw[k]at S Y;obtain⟨b,rfl,hb⟩:=abS hI S;have hj:=hL j w' k;cases b with
  |true=>
   have I:=hb.1 rfl;have r:Region.wanted o (yielded ops.toArray a.tmps)=true:=by simp[Region.wanted,k,I]
   have J:=ahX hC hI H.ri (g:=some (j,w')) (by rintro j1 w1 ⟨⟩;exact I) h3 hU Y;refine PQ ho r ?_
   have fin:∀ {sv:SV} {mv:Value} {w1:World} {G':Gh},E'=E.set o.dst (Ap (some (j,w')) (some true) sv)->Inv w0 c0 (fun u=>U u\/(tk<=u/\u<tk+32)) E a w1 G'->rn w1 G' sv mv->
    lg (fun u=>U u\/(tk<=u/\u<tk+32)) G' sv->K (a.put o.dst mv) w1:=by
    intro sv mv w1 G' N q B D;obtain⟨k1,W,k3⟩:=alI (j:=j) (w':=w') B D;refine hK _ _ G' ?_ ?_ ⟨_,rfl⟩;rw[N];exact q.put o.dst k1 W.1 W.2.1 W.2.2 (fun t u e=>absurd e (k3 t u));rw[N];refine H.put ho h0 e0 hL (fun j1 w1 act v e=> ?_);unfold Ap at e;simp only at e;split at e;cases e;simp only[SV.g.injEq]at e;obtain⟨rfl,rfl,rfl,_⟩:=e;exact⟨⟨fun _=>I,fun _=>rfl⟩,k⟩
   cases ef with
   |val v=>
    simp only[kc,aoz]at d;rw[k]at d;exact S6 J (fun mv w' G' q B D _=>fin d.symm q B D)
   |chk c v=>
    simp only[kc]at d;split at d;rename_i hc;simp only[aoz]at d;rw[k]at d;exact S6 (J (by simpa using hc)) (fun mv w' G' q B D _=>fin d.symm q B D);cases d
   |opt α z x f=>
    simp only[kc,if_true,aqI,aoz]at d;obtain⟨y,I,d⟩:=d;rw[k]at d;exact W5 (J y I) (fun mv w' ⟨G',q,B,D,F⟩=>fin d.symm q B D)
   |put b s v=>simp[kc]at d
   |app c kl gv t v=>simp[kc]at d
   |elem gv b e l m=>simp[kc]at d
   |nap c gv b e l m v=>simp[kc]at d
   |call α x b0 f rp=>simp[kc]at d
  |false=>
   have I:yielded ops.toArray a.tmps j≠some w':=fun h=>by have:=hb.2 h;cases this
   have r:Region.wanted o (yielded ops.toArray a.tmps)=false:=by
    simp only[Region.wanted,k];simpa using I
   have fin:∀ {sv:SV},E'=E.set o.dst (Ap (some (j,w')) (some false) sv)->K (a.put o.dst undef) w:=by
    intro sv N;obtain⟨k1,W,k3⟩:=alu (w:=w) (G:=G) (U:=fun u=>U u\/(tk<=u/\u<tk+32)) (v:=sv) (j:=j) (w':=w');refine hK _ _ G ?_ ?_ ⟨_,rfl⟩;rw[N];exact j0.put o.dst k1 W.1 W.2.1 W.2.2 (fun t u e=>absurd e (k3 t u));rw[N];refine H.put ho h0 e0 hL (fun j1 w1 act v e=> ?_);unfold Ap at e;simp only at e;split at e;cases e;simp only[SV.g.injEq]at e;obtain⟨rfl,rfl,rfl,_⟩:=e;exact⟨⟨fun h=>absurd h (by simp),fun h=>absurd h I⟩,k⟩
   unfold wpOp;simp only[aqW,ho,r,aqZ,if_false];cases ef with
   |val v=>
    simp only[kc,aoz]at d;rw[k]at d;exact fin d.symm
   |chk c v=>
    simp only[kc]at d;split at d;simp only[aoz]at d;rw[k]at d;exact fin d.symm;cases d
   |opt α z x f=>
    simp only[kc,aqI,aoz]at d;obtain⟨y,I,d⟩:=d;rw[k]at d;exact fin d.symm
   |put b s v=>simp[kc]at d
   |app c kl gv t v=>simp[kc]at d
   |elem gv b e l m=>simp[kc]at d
   |nap c gv b e l m v=>simp[kc]at d
   |call α x b0 f rp=>simp[kc]at d
def akt{ρ:Type}(o:Oper)(a:Option Bool)(E:Env)(k:Env->Option ρ)(d:Ef):kc o a E k d=(kc o a E some d).bind k:=by
 cases d with
 |val v=>rfl
 |chk c v=>simp only[kc];split<;>split<;>rfl
 |opt α z x f=>simp only[kc,arH];rfl
 |put b s v=>simp only[kc];split<;>rfl
 |app c kl h t v=>simp only[kc];split<;>(try split)<;>rfl
 |elem h b e l m=>simp only[kc];split<;>rfl
 |nap c h b e l m v=>simp only[kc];split<;>(try split)<;>rfl
 |call α x tks f rp=>simp only[kc];split
                     simp only[arH];rfl;rfl
end
theorem iF.alx:∀(a b:List Ty) (x:iF a) (y:iF b),iF.fst a b (iF.app a b x y)=x
 | [],_,_,_=>rfl
 |_::a,b,x,y=>by
  show(x.1,iF.fst a b (iF.app a b x.2 y))=x;rw[iF.alx a b x.2 y];rfl
theorem iF.alm:∀(a b:List Ty) (x:iF a) (y:iF b),iF.snd a b (iF.app a b x y)=y
 | [],_,_,_=>rfl
 |_::a,b,x,y=>iF.alm a b x.2 y
def QH{r:Ren}{b:Nat}(h:Zv r b=true){t c:Nat}(d:r.lookup t=some c):4<=c/\c<b/\r.find? (·.2=c)=some (t,c):=by
 have e:=N4 d;simp only[Zv,aqt,Q_,b_,beq_iff_eq]at h;obtain⟨⟨i,j⟩,k⟩:=h (t,c) e;exact⟨i,j,k⟩
def als{r:Ren}{t c:Nat}(h3:4<=t)(h:r.lookup t=some c):S0 r t=c:=by
 unfold S0;rw[a_ (by omega),h];rfl
def U2(G:Gh)(r:Ren)(bs:List Nat):Gh:=
 ⟨fun b=>S0 r (G.col b),fun c=>match r.find? (·.2=c)with|some p=>if 1000000000<=p.1 then .slice none 0 0 else G.hdr p.1|none=>undef,fun c=>bs.contains c⟩
section
variable{P:Program}{C:Cx}{w0:World}{c0:C0}{U:Nat->Prop}{E:Env}{a:Act}{w:World}{G:Gh}{ops:List Oper}{L:Nat->Prop}{Q:Exit->Act->World->Prop}
def abr{r:Ren}{b:Nat}(d:Zv r b=true){bs:List Nat}{t c:Nat}(e:r.lookup t=some c)(ht:t<1000000000):(U2 G r bs).hdr c=G.hdr t:=by
 obtain⟨_,_,h⟩:=QH d e;simp only[U2,h];rw[a_ (by omega)]
def aoL{r:Ren}{N:Nat}(s:Zv r N=true){bs:List Nat}{e:Ty}{l:List e.den}{v:Value}{m u:M}(h:qs w G e l v m)(d:okM r m u=true)(S:∀c∈m.cO,c<1000000000):
 qs w (U2 G r bs) e l v u:=by
 cases u with
 |dead=>exact h.one
 |row c hc nd'=>
  cases m with
  |row t hs nd=>
   simp only[okM,Q_,ard,aqA,aqt,W',b_]at d;obtain⟨⟨z,D⟩,F⟩:=d;obtain⟨Y,hh,B,k,i⟩:=h;obtain⟨H,g2,I⟩:=QH s z;refine⟨H,(abr s z (S t (by simp[M.cO]))).trans hh,B,k,fun b J p=> ?_⟩;obtain⟨k1,k2,k3,k4⟩:=i b J p;refine⟨by simp only[U2,k1];exact als Y z,k2,fun x K=>F _ (k3 x K),fun q=> ?_⟩;subst q;rcases D with h|h;cases h;exact k4 h
  |sha hs=>
   cases hs with
   |nil=>
    simp only[okM,b_]at d;obtain⟨H,g2,I⟩:=QH s d;obtain⟨⟨B,k,i⟩,j⟩:=h
    have y:B=[]:=by
     cases B with
     |nil=>rfl
     |cons x l=>exact absurd (i x (by simp)) (by simp)
    subst y;have W:v= .slice none 0 0:=j rfl;refine⟨H,?_,[],k,by simp⟩;simp only[U2,I];rw[an (by simp[ajH]),W]
   |cons x l=>simp[okM]at d
  |nst=>simp[okM]at d
  |dead=>simp[okM]at d
 |nst=>cases m<;>simp[okM]at d
 |sha hc=>
  cases m with
  |row t hs nd=>
   simp only[okM,aqt,W',b_]at d;obtain⟨B,k,i⟩:=h.rep (by simp);refine⟨⟨B,k,fun b p=>d _ (i b p)⟩,fun e=> ?_⟩;have:=d t (by simp);rw[e]at this;simp at this
  |sha hs=>
   simp only[okM,aqt,W',b_]at d;obtain⟨⟨B,k,i⟩,j⟩:=h;refine⟨⟨B,k,fun b p=>d _ (i b p)⟩,fun e=> ?_⟩;cases hs with
   |nil=>exact j rfl
   |cons x l=>have:=d x (by simp);rw[e]at this;simp at this
  |nst=>simp[okM]at d
  |dead=>simp[okM]at d
theorem kE.cut{r:Ren}{y:Nat}(u:Zv r y=true){bs:List Nat}:∀ {τ:Ty} {x:τ.den} {sh q:Sh} {cs:List Value},kE w G τ x sh cs->aef r sh q=true->(∀c∈sh.cO,c<1000000000)->
 kE w (U2 G r bs) τ x q cs
 | .int _,_,.leaf,.leaf,_,h,_,_| .bool,_,.leaf,.leaf,_,h,_,_| .str,_,.leaf,.leaf,_,h,_,_=>h
 | .sl e,l,.sl m,.sl m',cs,h,ho,hn=>by
   obtain⟨v,rfl,h⟩:=h;exact⟨v,rfl,aoL u h ho hn⟩
 | .pair a b,p,.pair s1 s2,.pair s1' s2',cs,h,ho,hn=>by
   obtain⟨z,B,rfl,D,H⟩:=h;simp only[aef,Q_]at ho;exact⟨z,B,rfl,kE.cut u D ho.1 (fun c h=>hn c (by simp[Sh.cO,h])),kE.cut u H ho.2 (fun c h=>hn c (by simp[Sh.cO,h]))⟩
 |_,_,.leaf,.sl _,_,_,ho,_|_,_,.leaf,.pair _ _,_,_,ho,_|_,_,.sl _,.leaf,_,_,ho,_|_,_,.sl _,.pair _ _,_,_,ho,_|_,_,.pair _ _,.leaf,_,_,ho,_|_,_,.pair _ _,.sl _,_,_,ho,_=>by simp[aef]at ho
 | .sl _,_,.leaf,.leaf,_,h,_,_| .pair _ _,_,.leaf,.leaf,_,h,_,_| .int _,_,.sl _,.sl _,_,h,_,_| .bool,_,.sl _,.sl _,_,h,_,_| .str,_,.sl _,.sl _,_,h,_,_| .pair _ _,_,.sl _,.sl _,_,h,_,_
 | .int _,_,.pair _ _,.pair _ _,_,h,_,_| .bool,_,.pair _ _,.pair _ _,_,h,_,_| .str,_,.pair _ _,.pair _ _,_,h,_,_| .sl _,_,.pair _ _,.pair _ _,_,h,_,_=>h.elim
def amR(W:Inv w0 c0 U E a w G)(D:∀u,U u->u<1000000000){r:Ren}{nt:Nat}(q:Zv r nt=true){bs:List Nat}{s:Nat}{k:AK}{x:iF k.tys}(h:YF E r s k=some x):
 rn w (U2 G r bs) (VX k x) (a.tmps.getD s undef)/\(∀c v,VX k x= .box c v->∃t u,E.s.getD s .no= .box t u/\r.lookup t=some c):=by
 have hs:=W.slots s;have j:=W.Xe s;cases k with
 |val τ sh=>
  simp only[YF,Env.get]at h;split at h;rename_i v l;split at h;rename_i d;split at h;rename_i y hc;cases h;rw[l]at hs j;obtain⟨cs,z,m⟩:=hs;have e:=Ea hc;rw[e]at z m d j;refine⟨⟨cs,z,kE.cut q m d (fun c hc=>D c (j.1 c hc).2.1)⟩,?_⟩;rintro c u ⟨⟩;cases h;cases h;cases h
 |box c τ sh=>
  simp only[YF,Env.get]at h;split at h;rename_i t v l;split at h;rename_i d;simp only[Q_,b_]at d;split at h;rename_i y hc;cases h;rw[l]at hs j;obtain⟨I,N,el,z,m,B,J,F,h6⟩:=hs;have e:=Ea hc;rw[e]at h6 d j;obtain⟨K,Y,g3⟩:=QH q d.2;refine⟨⟨I,N,el,z,K,(abr q d.2 (D t (j.2.1 t (by simp[SV.bt])).2.1)).trans B,?_,F,kE.cut q h6 d.1 (fun c hc=>D c (j.1 c hc).2.1)⟩,?_⟩;simp only[U2,J];exact als m d.2;rintro S u ⟨⟩;exact⟨t,v,l,d.2⟩;cases h;cases h;cases h
 |ptr c o p τ=>
  simp only[YF,Env.get]at h;split at h;rename_i t o' p' τ' l;split at h;rename_i d;simp only[Q_,b_]at d;obtain⟨⟨⟨d,rfl⟩,_⟩,_⟩:=d;rw[l]at hs j;obtain⟨I,z,m,B⟩:=hs;obtain⟨K,Y,g3⟩:=QH q d;refine⟨⟨I,K,(abr q d (D t (j.2.1 t (by simp[SV.bt])).2.1)).trans m,B⟩,?_⟩;rintro S u ⟨⟩;cases h;cases h
 |ept c e o p τ=>
  simp only[YF,Env.get]at h;split at h;rename_i t e' i o' p' τ' l;split at h;rename_i d;simp only[Q_,b_]at d;obtain⟨⟨⟨⟨d,rfl⟩,rfl⟩,_⟩,_⟩:=d;cases h;rw[l]at hs j;obtain⟨b,off,n,cap,z,m,B,J,F⟩:=hs;obtain⟨K,Y,g3⟩:=QH q d;refine⟨⟨b,off,n,cap,K,(abr q d (D t (j.2.2 t (by simp[SV.rt])).2.1)).trans m,B,J,F⟩,?_⟩;rintro S u ⟨⟩;cases h;cases h
 |rdp hc τ sh=>
  simp only[YF,Env.get]at h;split at h;rename_i hs' v l;split at h;rename_i d;simp only[Q_,aqt,W',b_]at d;split at h;rename_i y H;cases h;rw[l]at hs j;obtain⟨I,o,N,el,fz,z,m,B,J,F⟩:=hs;have e:=Ea H;rw[e]at B F d j;refine⟨⟨I,o,N,el,fz,z,m,B,d.2 _ J,kE.cut q F d.1 (fun c hc=>D c (j.1 c (by simp[SV.sc,hc])).2.1)⟩,?_⟩;rintro c u ⟨⟩;cases h;cases h;cases h
def amD{k:AK}{x:iF k.tys}{G':Gh}{U':Nat->Prop}(hs:∀c∈k.sc,0<c/\U' c/\G'.bx c=false)(b:∀c∈k.bt,0<c/\U' c/\G'.bx c=true):lg U' G' (VX k x):=by
 cases k with
 |val τ d=>exact⟨hs,by simp[VX,SV.bt],by simp[VX,SV.rt]⟩
 |box c τ d=>exact⟨hs,b,by simp[VX,SV.rt]⟩
 |ptr c o p τ=>exact⟨by simp[VX,SV.sc],b,by simp[VX,SV.rt]⟩
 |ept c e o p τ=>exact⟨by simp[VX,SV.sc],by simp[VX,SV.bt],hs⟩
 |rdp hc τ d=>exact⟨hs,by simp[VX,SV.bt],by simp[VX,SV.rt]⟩
def apg{k:AK}{x:iF k.tys}{j:Nat}{w act:Bool}{v:SV}:VX k x≠ .g j w act v:=by
 cases k<;>simp[VX]
def Y1(L:List SV):Prop:=∀s j w act v,L.getD s .no≠ .g j w act v
theorem agE(i:Inv w0 c0 U E a w G)(m:∀u,U u->u<1000000000){r:Ren}{D:Nat}(q:Zv r D=true){bs:List Nat}{U':Nat->Prop}:
 ∀ {l:List (Nat×AK)} {t:iF (UL l)} {K:List SV},aet E r l=some t->(∀c∈l.flatMap (fun p=>p.2.sc),0<c/\U' c/\(U2 G r bs).bx c=false)->(∀c∈l.flatMap (fun p=>p.2.bt),0<c/\U' c/\(U2 G r bs).bx c=true)->
 (∀s,rn w (U2 G r bs) (K.getD s .no) (a.tmps.getD s undef)/\lg U' (U2 G r bs) (K.getD s .no))->(∀s c v,K.getD s .no= .box c v->∃t u,E.s.getD s .no= .box t u/\r.lookup t=some c)->Y1 K->
 (Ui l t K).length=K.length/\(∀s,rn w (U2 G r bs) ((Ui l t K).getD s .no) (a.tmps.getD s undef)/\lg U' (U2 G r bs) ((Ui l t K).getD s .no))/\
  (∀s c v,(Ui l t K).getD s .no= .box c v->∃t u,E.s.getD s .no= .box t u/\r.lookup t=some c)/\Y1 (Ui l t K)
 | [],t,K,_,_,_,h1,h2,h3=>⟨rfl,h1,h2,h3⟩
 |(s,k)::l,t,K,h,hs,hb,h1,h2,h3=>by
  simp only[aet]at h;split at h;rename_i x y z B;cases h;obtain⟨F,H⟩:=amR (bs:=bs) i m q z;simp only[List.flatMap_cons,l8]at hs hb;simp only[Ui];rw[iF.alx,iF.alm]
  obtain⟨q1,q2⟩:=agE i m q (K:=K.set s (VX k x)) B (fun c hc=>hs c (.inr hc)) (fun c hc=>hb c (.inr hc)) (fun d=>by
   rw[CS];split;rename_i e;rw[e.1];exact⟨F,amD (fun c hc=>hs c (.inl hc)) (fun c hc=>hb c (.inl hc))⟩;exact h1 d) (fun d c v b=>by
   rw[CS]at b;split at b;rename_i e;rw[e.1];exact H c v b;exact h2 d c v b) (fun d j w act v b=>by
   rw[CS]at b;split at b;exact apg b;exact h3 d j w act v b)
  exact⟨by rw[q1];simp,q2⟩;cases h
def aib(i:Inv w0 c0 (fun u=>u<E.nt) E a w G){n:Ua}{N:Nat}(hN:E.s.length=N){t:iF (UL n.ks)}(h:proj n E=some t):
 ∃G',Inv w0 c0 (fun u=>u<(R1 N n t).nt) (R1 N n t) a w G'/\Y1 (R1 N n t).s/\(R1 N n t).s.length=N/\4<=(R1 N n t).nt:=by
 unfold proj at h;split at h;rename_i r m;split at h;rename_i hc;simp only[Q_,b_]at hc;obtain⟨⟨hnt,y⟩,F⟩:=hc;simp only[aoH,Q_,aqt,b_,aqA,W',d_]at y;obtain⟨⟨⟨I,x⟩,z⟩,_⟩:=y
 have l:∀s,(arf N SV.no).getD s .no= .no:=by
  intro s;rw[l9,List.getElem?_replicate];split<;>rfl
 obtain⟨q1,q2,q3,q4⟩:=agE (bs:=n.ks.flatMap fun(p:Nat×AK)=>p.2.bt) (U':=fun u=>u<n.nt) (K:=arf N .no) i (fun u hu=>by omega) F h
  (fun c hc=>⟨(z c hc).1.1,(z c hc).1.2,by simpa[U2]using(z c hc).2⟩)
  (fun c hc=>⟨(x c hc).1.1.1,(x c hc).1.1.2,by simpa[U2]using hc⟩)
  (fun s=>by rw[l];exact⟨trivial,by simp[lg,SV.sc,SV.bt,SV.rt]⟩) (fun s c v B=>by rw[l]at B;cases B) (fun s j w act v B=>by rw[l]at B;cases B)
 have d:∀b,(S0 r (G.col b)=G.col b/\G.col b<=3)\/(4<=G.col b/\S0 r (G.col b)=2)\/(4<=G.col b/\4<=S0 r (G.col b)/\S0 r (G.col b)<n.nt):=by
  intro b;unfold S0;split;rename_i h;exact .inl ⟨rfl,h⟩;rename_i h;cases hl:r.lookup (G.col b)with
  |none=>right;left;exact⟨by omega,rfl⟩
  |some k=>
   obtain⟨k1,k2,_⟩:=QH F hl;right;right;exact⟨by omega,k1,k2⟩
 refine⟨U2 G r (n.ks.flatMap fun(p:Nat×AK)=>p.2.bt),⟨?_,fun s=>(q2 s).1,fun s=>(q2 s).2.1,fun s=>(q2 s).2.2.1,fun s=>(q2 s).2.2.2,?_,fun b m=> ?_,fun b m=> ?_,fun b m=> ?_,fun b m hc=> ?_,fun b m=> ?_,i.size,i.os,i.tape,i.output,i.defers,?_,fun S=>by cases S⟩,q4,by
  show(Ui n.ks t (arf N .no)).length=N;rw[q1];simp,I⟩
 show a.tmps.size=(Ui n.ks t (arf N .no)).length;rw[q1,i.len,hN];simp;intro s J c v W Y D;obtain⟨t1,u1,e1,l1⟩:=q3 s c v Y;obtain⟨t2,u2,e2,l2⟩:=q3 J c W D;have f1:=(QH F l1).2.2;have H:=(QH F l2).2.2;rw[f1]at H;simp only[aoz,apc,and_true]at H;subst H;exact i.uni s J t1 u1 u2 e1 e2;have:S0 r (G.col b)<n.nt:=by rcases d b with h|h|h<;>omega
 exact this;have q:0<S0 r (G.col b):=m;refine i.lt b ?_;rcases d b with h|h|h<;>omega;have q:4<=S0 r (G.col b):=m;refine i.fresh b ?_;rcases d b with h|h|h<;>omega;have hf:=i.frame b m hc;refine⟨?_,hf.2⟩;show S0 r (G.col b)=c0.col b;rcases d b with h|h|h<;>omega;have q:S0 r (G.col b)=1\/S0 r (G.col b)=3:=m;show b<_/\c0.col b=S0 r (G.col b);have e:S0 r (G.col b)=G.col b:=by rcases d b with h|h|h<;>omega
 rw[e]at q|-;exact i.one b q;refine⟨⟨by show 2<n.nt;omega,?_⟩,by show 3<n.nt;omega,?_⟩;show List.contains _ 2=false;simp only[W',d_];intro D;have:=(x 2 D).1.2;simp at this;show List.contains _ 3=false;simp only[W',d_];intro D;have:=(x 3 D).2;simp at this;cases h;cases h
end
def Uh(E:Env)(d:Option Nat)(v:SV):(E.set d v).s.length=E.s.length:=by cases d<;>simp[Env.set]
def afM(E:Env)(d:Option Nat)(v:SV):(E.set d v).nt=E.nt:=by cases d<;>rfl
def anQ(E:Env)(ts:List Nat):(E.kill ts).s.length=E.s.length:=by unfold Env.kill;split<;>simp
def anV(E:Env)(ts:List Nat)(t:Nat):(E.fv ts t).s.length=E.s.length:=by unfold Env.fv;split<;>simp
structure We(o:Oper)(R R':Rd):Prop where
 get:∀s∈tmpsOf o,R'.get s=R.get s
 box:AB o=true->∀s∈tmpsOf o,∀b off p τ,(R.get s).strip= .ptr b off p τ->R'.box b=R.box b
 row:AB o=true->∀s∈tmpsOf o,∀b e,ajX (R.get s).strip=some (b,e)->R'.row b e=R.row b e
section
variable{C:Cx}{R R':Rd}{o:Oper}{ops:List Oper}{tk:Nat}{g:Option (Nat×Bool)}
def Yz{s:Nat}(h:Operand.tmp s∈o.op.operands.toList):s∈tmpsOf o:=by
 unfold tmpsOf;exact arE.2 ⟨.tmp s,h,rfl⟩
def aiT(h:We o R R'){t:TypeId}{x:Operand}(b:x∈o.op.operands.toList):KR C R' t x=KR C R t x:=by
 cases x with
 |tmp s=>simp only[KR];rw[h.get s (Yz b)]
 |_=>rfl
def aaY(h:We o R R'){t:TypeId}{x:Operand}(b:x∈o.op.operands.toList):arg C R' g t x=arg C R g t x:=by
 simp only[arg,aiT h b]
def Pq(h:We o R R'){t:TypeId}{x:Operand}(b:x∈o.op.operands.toList):vr C R' g t x=vr C R g t x:=by
 simp only[vr,aaY h b]
def aiW{t:TypeId}{x:Operand}{sv:SV}(h:arg C R g t x=some sv)(k:(∃b off p τ,sv= .ptr b off p τ)\/∃b e i off p τ,sv= .ept b e i off p τ):
 ∃s,x= .tmp s/\(R.get s).strip=sv:=by
 simp only[arg,aqI]at h;obtain⟨l,c,d⟩:=h;cases x with
 |tmp s=>
  simp only[KR,aoz]at c;refine⟨s,rfl,?_⟩;rw[c];cases l with
  |g j w a v=>simp only[Zo]at d;split at d<;>simp_all[SV.strip]
  |_=>simp only[Zo,aoz]at d;subst d;rfl
 |const v=>
  exfalso;simp only[KR]at c;split at c;rw[aqx]at c;obtain⟨r,_,rfl⟩:=c;simp only[Zo,aoz]at d;subst d;rcases k with⟨_,_,_,_,h⟩|⟨_,_,_,_,_,_,h⟩<;>cases h;cases c
 |global x=>simp[KR]at c
 |func x=>simp[KR]at c
def aeY(h:We o R R')(c:AB o=true){t:TypeId}{x:Operand}(d:x∈o.op.operands.toList){b off:Nat}{p:List Bool}{τ:Ty}(e:arg C R g t x=some (.ptr b off p τ)):R'.box b=R.box b:=by
 obtain⟨s,rfl,hs⟩:=aiW e (.inl ⟨_,_,_,_,rfl⟩);exact h.box c s (Yz d) b off p τ hs
def amu{τ σ:Ty}{v:Value}{z:σ.den}{b off:Nat}{e:Ty}{i:Int}{p:List Bool}{fr:Bool}(h:adn τ v=some ⟨σ,z,.sl (.nst b e i off p fr)⟩):False:=by
 have hs:∀τ:Ty,NU τ (.sha [])≠ .sl (.nst b e i off p fr):=by intro τ;cases τ<;>simp[NU]
 unfold adn at h;split at h;split at h;simp only[aoz,TV.mk.injEq]at h;obtain⟨rfl,_,h⟩:=h;exact hs _ h;cases h;cases h;split at h;simp only[aoz,TV.mk.injEq]at h;obtain⟨rfl,_,h⟩:=h;exact hs _ h;cases h
def abh(h:We o R R')(c:AB o=true){t:TypeId}{x:Operand}(d:x∈o.op.operands.toList){b off:Nat}{e:Ty}{i:Int}{p:List Bool}{τ:Ty}(j:arg C R g t x=some (.ept b e i off p τ)):R'.row b e=R.row b e:=by
 obtain⟨s,rfl,hs⟩:=aiW j (.inr ⟨_,_,_,_,_,_,rfl⟩);exact h.row c s (Yz d) b e (by rw[hs];rfl)
def amZ(h:We o R R')(y:AB o=true){t:TypeId}{x:Operand}(B:x∈o.op.operands.toList){b off:Nat}{e:Ty}{i:Int}{p:List Bool}{fr:Bool}{τ:Ty}{z:τ.den}
 (k:vr C R none t x=some ⟨τ,z,.sl (.nst b e i off p fr)⟩):R'.row b e=R.row b e:=by
 simp only[vr]at k;split at k;rename_i u c;split at k;cases k;cases x with
 |tmp s=>
  refine h.row y s (Yz B) b e ?_;simp only[arg,KR,arb]at c;cases m:R.get s with
  |g j w a v=>rw[m]at c;simp[Zo]at c
  |d v=>
   rw[m]at c;simp only[Zo,aoz,SV.d.injEq]at c;subst c;rfl
  |_=>rw[m]at c;simp[Zo]at c
 |const v=>
  exfalso;simp only[arg,KR]at c;split at c;rename_i i' _;rw[aqI]at c;obtain⟨u',l,q⟩:=c;rw[aqx]at l;obtain⟨r,l,rfl⟩:=l;simp only[Zo,aoz,SV.d.injEq]at q;subst q;exact amu l;simp at c
 |global x=>simp[arg,KR]at c
 |func f=>simp[arg,KR]at c
 cases k;cases k
theorem adZ(h:We o R R'){i:TI}:∀ {l:List (Nat×Operand)} {x:i.τ.den} {sh:Sh},(∀p∈l,p.2∈o.op.operands.toList)->Ww C R' g i l x sh=Ww C R g i l x sh
 | [],_,_,_=>rfl
 |(j,y)::l,x,sh,hl=>by
  simp only[Ww,Pq h (hl (j,y) (by simp))];cases i.fs[j]? with
  |none=>rfl
  |some c=>
   simp only;cases vr C R g c y with
   |none=>rfl
   |some v=>
    simp only;cases N3 i.τ x sh (nu i.fs.length j) v with
    |none=>rfl
    |some r=>exact adZ h (fun p b=>hl p (by simp[b]))
theorem aeI(h:We o R R'){el:TypeId}{e:Ty}:∀ {l:List (Nat×Operand)} {n:Nat},(∀p∈l,p.2∈o.op.operands.toList)->X6 C R' g el e n l=X6 C R g el e n l
 | [],_,_=>rfl
 |(j,y)::l,n,hl=>by
  simp only[X6,Pq h (hl (j,y) (by simp)),aeI h (l:=l) (n:=n+1) (fun p b=>hl p (by simp[b]))]
theorem ai5(h:We o R R'):∀ {l:List Operand} {ts:List TypeId},(∀p∈l,p∈o.op.operands.toList)->Us C R' g l ts=Us C R g l ts
 | [],[],_=>rfl
 | [],_::_,_=>rfl
 |_::_,[],_=>rfl
 |y::l,t::ts,hl=>by
  simp only[Us,aaY h (hl y (by simp)),ai5 h (l:=l) (ts:=ts) (fun p b=>hl p (by simp[b]))]
def akU{ps:List PK}:∀ {as:List SV} {k:Nat} {r0:List (Nat×Nat)},(∀sv∈as,∀b off p τ,sv= .ptr b off p τ->R'.box b=R.box b)->nP R' ps as k r0=nP R ps as k r0:=by
 induction ps with
 |nil=>intro as k r0 _;cases as<;>rfl
 |cons p ps m=>
  intro as k r0 h;cases as with
  |nil=>cases p<;>rfl
  |cons a as=>
   have c:=fun k r0=>m (as:=as) (k:=k) (r0:=r0) (fun sv i=>h sv (by simp[i]));cases p with
   |val τ q=>cases a<;>simp only[nP,c]
   |io τ q=>
    have d:Vk R' a=Vk R a:=by
     unfold Vk;split;rename_i t j;rw[h _ (by simp) t 0 [] j rfl];rfl
    simp only[nP,d,c]
   |rd τ=>
    have d:Vk R' a=Vk R a:=by
     unfold Vk;split;rename_i t j;rw[h _ (by simp) t 0 [] j rfl];rfl
    simp only[nP,d,c]
   |vx e l=>cases a<;>simp only[nP,c]
def am7{ps:List PK}:∀ {as:List SV} {k:Nat} {r0:List (Nat×Nat)} {xs:iF (ps.map PK.ty)} {i bs:List (Nat×Nat)},nP R ps as k r0=some (xs,i,bs)->
 ∀b∈bs,∃τ,SV.ptr b.1 0 [] τ∈as:=by
 induction ps with
 |nil=>
  intro as k r0 xs i bs h b d;cases as with
  |nil=>simp only[nP,aoz]at h;cases h;cases d
  |cons _ _=>simp[nP]at h
 |cons p ps m=>
  intro as k r0 xs i bs h b d;cases as with
  |nil=>cases p<;>simp[nP]at h
  |cons a as=>
   cases p with
   |val τ q=>
    cases a<;>simp only[nP]at h<;>try cases h
    split at h;rename_i j;split at h;simp only[aoz,apc]at h;obtain⟨_,_,rfl⟩:=h;obtain⟨τ,h⟩:=m j b d;exact⟨τ,aqm _ h⟩;cases h;cases h
   |vx e l=>
    cases a<;>simp only[nP]at h<;>try cases h
    split at h;rename_i j;split at h;simp only[aoz,apc]at h;obtain⟨_,_,rfl⟩:=h;obtain⟨τ,h⟩:=m j b d;exact⟨τ,aqm _ h⟩;cases h;cases h
   |rd τ=>
    simp only[nP]at h;split at h;split at h;rename_i j;split at h;simp only[aoz,apc]at h;obtain⟨_,_,rfl⟩:=h;obtain⟨τ,h⟩:=m j b d;exact⟨τ,aqm _ h⟩;cases h;cases h;cases h
   |io τ q=>
    simp only[nP]at h;split at h;rename_i t s v c;split at h;rename_i j;split at h;simp only[aoz,apc]at h;obtain⟨_,_,rfl⟩:=h;rcases i_.1 d with rfl|d;unfold Vk at c;split at c;rename_i t' u;rw[aqx]at c;obtain⟨r,_,c⟩:=c;simp only[apc]at c;obtain⟨rfl,_,_⟩:=c;exact⟨u,by simp⟩;cases c;obtain⟨τ,h⟩:=m j b d;exact⟨τ,aqm _ h⟩;cases h;cases h;cases h
def aiF(h:We o R R'){b:Builtin}{args:List Operand}{ts:List TypeId}(c:∀x∈args,x∈o.op.operands.toList):UU C R' tk g b args ts=UU C R tk g b args ts:=by
 unfold UU;split;rename_i x t;simp only[Pq h (c x (by simp))];rename_i x y t u;simp only[Pq h (c x (by simp)),Pq h (c y (by simp))];rename_i x y t u;simp only[Pq h (c x (by simp)),Pq h (c y (by simp))];rename_i x y t u;simp only[Pq h (c x (by simp)),Pq h (c y (by simp))];rfl
def ak4(h:We o R R')(k:AB o=true){f:FuncId}{args:List Operand}{ts:List TypeId}(m:∀x∈args,x∈o.op.operands.toList):adu C R' tk g f args ts=adu C R tk g f args ts:=by
 unfold adu;rw[ai5 h m];cases C.ct f with
 |none=>rfl
 |some c=>
  simp only;cases has:Us C R g args ts with
  |none=>rfl
  |some as=>
   simp only;have e:∀sv∈as,∀b off p τ,sv=SV.ptr b off p τ->R'.box b=R.box b:= ?_;rw[akU (R:=R) (R':=R') e];cases r:nP R c.ps as 4 []with
   |none=>rfl
   |some z=>
    obtain⟨xs,rho,u⟩:=z
    have s:∀Io2,ZU R' u Io2 c.kp=ZU R u Io2 c.kp:=by
     intro Io2;unfold ZU;congr 1;funext q;cases K:u[q.1]? with
     |none=>rfl
     |some b=>
      cases hz:Io2[q.1]? with
      |none=>rfl
      |some z=>
       obtain⟨τ,B⟩:=am7 r b (aqO K);simp only[e _ B b.1 0 [] τ rfl]
    simp only[s]
   intro sv j b off p τ D;subst D
   have:∀ {args:List Operand} {ts:List TypeId} {as:List SV},(∀x∈args,x∈o.op.operands.toList)->Us C R g args ts=some as->SV.ptr b off p τ∈as->∃x∈args,∃t,arg C R g t x=some (.ptr b off p τ):=by
    intro args
    induction args with
    |nil=>intro ts as _ d i;cases ts<;>simp[Us]at d;subst d;simp at i
    |cons y l N=>
     intro ts as F d i;cases ts with
     |nil=>simp[Us]at d
     |cons t ts=>
      simp only[Us]at d;split at d;rename_i v vs H I;cases d;simp only[i_]at i;rcases i with rfl|i;exact⟨y,by simp,t,H⟩;obtain⟨x,q1,q2⟩:=N (fun x J=>F x (by simp[J])) I i;exact⟨x,by simp[q1],q2⟩;cases d
   obtain⟨x,q1,t,q2⟩:=this m has j;exact aeY h k (m x q1) q2
def ahm(h:We o R R'):kH C ops R' tk g o=kH C ops R tk g o:=by
 have B:∀ {x:Operand},x∈o.op.operands.toList->∀ {t:TypeId},arg C R' g t x=arg C R g t x:=fun z=>aaY h z;have q:∀ {x:Operand},x∈o.op.operands.toList->∀ {t:TypeId},vr C R' g t x=vr C R g t x:=fun z=>Pq h z;have H:∀ {x:Operand},x∈o.op.operands.toList->∀ {t:TypeId},KR C R' t x=KR C R t x:=fun z=>aiT h z;cases k:o.op with
 |move x=>rw[k]at B;simp only[kH,k,B (x:=x) (by simp[Op.operands])]
 |assign x=>rw[k]at B;simp only[kH,k,B (x:=x) (by simp[Op.operands])]
 |pick c a b=>
  rw[k]at B H;simp only[kH,k,B (x:=c) (by simp[Op.operands]),H (x:=a) (by simp[Op.operands]),H (x:=b) (by simp[Op.operands])]
 |alloc t=>simp only[kH,k]
 |box t x=>rw[k]at q;simp only[kH,k,q (x:=x) (by simp[Op.operands])]
 |build t I=>
  simp only[kH,k];cases C.tt t with
  |none=>rfl
  |some i=>simp only[adZ h (l:=I.toList) (fun p F=>by rw[k];simp[Op.operands];exact⟨p.1,by simpa using F⟩)]
 |buildSlice t n I=>
  simp only[kH,k];split;rename_i e _ el _;simp only[aeI h (l:=I.toList) (fun p F=>by rw[k];simp[Op.operands];exact⟨p.1,by simpa using F⟩)];rfl
 |load t a=>
  have z:a∈o.op.operands.toList:=by rw[k];simp[Op.operands]
  simp only[kH,k,B z];cases C.tt t with
  |none=>rfl
  |some ti=>
   simp only;cases D:arg C R g 0 a with
   |none=>rfl
   |some sv=>
    cases sv with
    |ptr b off p τ=>simp only[aeY h (by simp[AB,k]) z D]
    |ept b e i off p τ=>simp only[abh h (by simp[AB,k]) z D]
    |_=>rfl
 |store t a x=>
  have z:a∈o.op.operands.toList:=by rw[k];simp[Op.operands]
  have N:x∈o.op.operands.toList:=by rw[k];simp[Op.operands]
  simp only[kH,k,B z,q N];cases C.tt t with
  |none=>rfl
  |some ti=>
   cases D:arg C R g 0 a with
   |none=>rfl
   |some sv=>
    cases sv with
    |ptr b off p τ=>
     cases vr C R g t x with
     |none=>rfl
     |some v=>simp only[aeY h (by simp[AB,k]) z D]
    |ept b e i off p τ=>
     cases vr C R g t x with
     |none=>rfl
     |some v=>simp only[abh h (by simp[AB,k]) z D]
    |_=>rfl
 |nilCheck x=>rw[k]at B;simp only[kH,k,B (x:=x) (by simp[Op.operands])]
 |binOp op t x y u=>rw[k]at q;simp only[kH,k,q (x:=x) (by simp[Op.operands]),q (x:=y) (by simp[Op.operands])]
 |unOp op t x=>rw[k]at q;simp only[kH,k,q (x:=x) (by simp[Op.operands])]
 |convert s d x=>rw[k]at q;simp only[kH,k,q (x:=x) (by simp[Op.operands])]
 |makeSlice t n c=>rw[k]at q;simp only[kH,k,q (x:=n) (by simp[Op.operands]),q (x:=c) (by simp[Op.operands])]
 |slice t x J K mx=>
  rw[k]at q;have S:∀ {t},vr C R' g t x=vr C R g t x:=q (by simp[Op.operands])
  have W:J.map (vr C R' g 3)=J.map (vr C R g 3):=by
   cases J with
   |none=>rfl
   |some l=>simp only[aq1];rw[q (by simp[Op.operands])]
  have Y:K.map (vr C R' g 3)=K.map (vr C R g 3):=by
   cases K with
   |none=>rfl
   |some l=>simp only[aq1];rw[q (by simp[Op.operands])]
  simp only[kH,k,S,W,Y]
 |fieldAddr s x j=>rw[k]at B;simp only[kH,k,B (x:=x) (by simp[Op.operands])]
 |field s x j=>rw[k]at q;simp only[kH,k,q (x:=x) (by simp[Op.operands])]
 |indexAddr t x n=>rw[k]at q;simp only[kH,k,q (x:=x) (by simp[Op.operands]),q (x:=n) (by simp[Op.operands])]
 |index t x n=>rw[k]at q;simp only[kH,k,q (x:=x) (by simp[Op.operands]),q (x:=n) (by simp[Op.operands])]
 |extract x j=>rw[k]at B;simp only[kH,k,B (x:=x) (by simp[Op.operands])]
 |call c=>
  have hc:∀x∈c.args.toList,x∈o.op.operands.toList:=by
   intro x z;rw[k];simp only[Op.operands,Call.operands];cases c.callee<;>simp_all
  simp only[kH,k];cases hb:c.callee with
  |builtin b=>simp only[aiF h hc]
  |value f=>
   cases f with
   |func f=>simp only[ak4 h (by simp[AB,k]) hc]
   |_=>rfl
  |invoke r m=>rfl
 |_=>simp only[kH,k]
def akO(h:We o R R'):V4 C ops R' tk o=V4 C ops R tk o:=by
 have H:∀ {x:Operand},x∈o.op.operands.toList->∀ {t:TypeId},arg C R' none t x=arg C R none t x:=fun j=>aaY h j;have r:∀ {x:Operand},x∈o.op.operands.toList->∀ {t:TypeId},vr C R' none t x=vr C R none t x:=fun j=>Pq h j;unfold V4;cases d:o.op with
 |load t a=>
  have j:a∈o.op.operands.toList:=by rw[d];simp[Op.operands]
  simp only[H j];cases C.tt t with
  |none=>rfl
  |some F=>
   cases k:arg C R none 0 a with
   |none=>rfl
   |some sv=>
    cases sv with
    |ept b e i off p τ=>simp only[abh h (by simp[AB,d]) j k]
    |_=>rfl
 |store t a x=>
  have j:a∈o.op.operands.toList:=by rw[d];simp[Op.operands]
  have s:x∈o.op.operands.toList:=by rw[d];simp[Op.operands]
  simp only[H j,r s];cases C.tt t with
  |none=>rfl
  |some F=>
   cases k:arg C R none 0 a with
   |none=>rfl
   |some sv=>
    cases sv with
    |ept b e i off p τ=>
     have z:=abh h (by simp[AB,d]) j k;cases vr C R none t x with
     |none=>rfl
     |some v=>
      obtain⟨B,xv,D⟩:=v;cases D with
      |sl m=>
       cases m with
       |nst b' I i' off' p' fr=>
        cases B with
        |sl σ=>simp only[z]
        |_=>rfl
       |_=>cases B<;>rfl
      |_=>cases B<;>rfl
    |_=>rfl
 |call c=>
  have hc:∀x∈c.args.toList,x∈o.op.operands.toList:=by
   intro x j;rw[d];simp only[Op.operands,Call.operands];cases c.callee<;>simp_all
  simp only;split;rename_i x y t u hb k hts;have j:x∈o.op.operands.toList:=hc x (by rw[k];simp);have s:y∈o.op.operands.toList:=hc y (by rw[k];simp);simp only[r j,r s];split;rename_i F e l b E0 i off p I l' m' hti q hvy;simp only[amZ h (by simp[AB,d]) j q];rfl;rfl
 |_=>rfl
def anq(h:We o R R'):S7 C ops R' tk g o=S7 C ops R tk g o:=by
 unfold S7;cases g with
 |none=>simp only[akO h,ahm h]
 |some g=>exact ahm h
end
def akR(a b:List (Nat×SV))(L:List SV):C6 (a++b) L=C6 b (C6 a L):=List.foldl_append ..
def agN(E:Env)(d:Option Nat)(v:SV):(E.set d v).s=C6 (wr d v) E.s:=by cases d<;>rfl
theorem adb:∀(l:List (Nat×Nat×TV)) (L:List SV),od l L=C6 (l.map (fun p=>(p.2.1,SV.box p.1 p.2.2))) L
 | [],_=>rfl
 |(_,_,_)::l,_=>adb l _
def aiP(E:Env)(ts:List Nat):(E.kill ts).s=E.s.map (CE ts):=by
 unfold Env.kill CE;split;simp;rfl
def am3(E:Env)(ts:List Nat)(t:Nat):(E.fv ts t).s=E.s.map (Sk ts t):=by
 unfold Env.fv Sk;split;simp;rfl
def alz(E:Env)(ts:List Nat):(E.kill ts).nt=E.nt:=by unfold Env.kill;split<;>rfl
def aoP(E:Env)(ts:List Nat)(t:Nat):(E.fv ts t).nt=E.nt:=by unfold Env.fv;split<;>rfl
theorem Env.ext'{E E':Env}(h:E.s=E'.s)(hn:E.nt=E'.nt)(hk:E.kp=E'.kp:=by rfl):E=E':=by cases E;cases E';simp_all
def agp(E:Env)(d:Option Nat)(v:SV):(E.set d v).kp=E.kp:=by cases d<;>rfl
def apa(E:Env)(ts:List Nat)(t:Nat):(E.fv ts t).kp=E.kp:=by unfold Env.fv;split<;>rfl
def akw(E:Env)(ts:List Nat):(E.kill ts).kp=E.kp:=by unfold Env.kill;split<;>rfl
def amI(E:Env)(ts:List Nat)(b:List (Nat×Nat)):(E.qn ts b).kp=E.kp:=by unfold Env.qn;split;exact akw E ts;rfl
def anJ(E:Env)(ts:List Nat)(b:List (Nat×Nat)):(E.qn ts b).nt=E.nt:=by unfold Env.qn;split;exact alz E ts;rfl
def amP(E:Env)(ts:List Nat)(b:List (Nat×Nat)):(E.qn ts b).s=E.s.map (Tr.ki ts b).sv:=by
 unfold Env.qn;simp only[Tr.sv];split;exact aiP E ts;rfl
def akD(o:Oper)(a:Option Bool)(E:Env)(j:Ef):kc o a E some j=(PG o a j).map E.MQ:=by
 have h:∀(d:Option Nat) (v:SV),E.set d v=E.MQ (.id,wr d v):=by
  intro d v;refine Env.ext' ?_ (by rw[afM];rfl) (by rw[agp];rfl);rw[agN];simp[Env.MQ,Tr.sv]
 cases j with
 |val v=>simp only[kc,PG,aq1,h]
 |chk c v=>simp only[kc,PG,h];split<;>split<;>rfl
 |opt α z x f=>
  simp only[kc,PG,h];rw[Option.map_bind];rfl
 |put b s v=>
  simp only[kc,PG];split;simp[Env.MQ,Tr.sv,C6];rfl
 |app c kl k t v=>
  simp only[kc,PG];split;split;simp only[aq1,aoz];refine Env.ext' ?_ (by rw[afM,aoP,alz];rfl) (by rw[agp,apa,akw];rfl);rw[agN,am3,aiP];simp[Env.MQ,Tr.sv,arl];rfl;rfl
 |elem k b e l m=>
  simp only[kc,PG];split;simp[Env.MQ,Tr.sv,C6,Env.elem];rfl
 |nap c k b e l m v=>
  simp only[kc,PG];split;split;simp only[aq1,aoz];refine Env.ext' ?_ (by rw[afM];rfl) (by rw[agp];rfl);rw[agN];simp[Env.MQ,Tr.sv,Env.elem];rfl;rfl
 |call α x i f p=>
  simp only[kc,PG];split;cases x with
  |none=>rfl
  |some r=>
   simp only[arb,aq1,aoz];refine Env.ext' ?_ (by rw[afM];exact anJ E i (p r)) (by rw[agp];exact amI E i (p r));rw[agN];simp only[Env.MQ,akR,adb,amP]
  rfl
structure agT(X:List Nat)(f:M->M)(fe:Nat->Bool)(fr:List Nat->Option (List Nat)):Prop where
 m:∀m,f m=m\/f m= .dead\/∃x∈X,x∈(f m).cO
 r:∀hs hs',fr hs=some hs'->hs'=hs\/∃x∈X,x∈hs'
section
variable{X:List Nat}{f:M->M}{fe:Nat->Bool}{fr:List Nat->Option (List Nat)}
theorem Sh.SQ(h:agT X f fe fr):∀ {sh:Sh},(sh.map f).live=true->(∀c∈(sh.map f).cO,c∉X)->sh.map f=sh
 | .leaf,_,_=>rfl
 | .sl m,hl,hc=>by
   rcases h.m m with e|e|⟨x,q,p⟩;simp only[Sh.map,e];simp only[Sh.map,e,Sh.live]at hl;cases hl;exact absurd q (hc x p)
 | .pair a b,hl,hc=>by
   simp only[Sh.map,Sh.live,Q_]at hl;simp only[Sh.map,Sh.cO,l8]at hc;simp only[Sh.map];rw[Sh.SQ h hl.1 (fun c l=>hc c (.inl l)),Sh.SQ h hl.2 (fun c l=>hc c (.inr l))]
def XQ(v:TV)(sh:Sh)(h:sh=v.sh):({v with sh:=sh}:TV)=v:=by subst h;rfl
theorem SV.SQ(h:agT X f fe fr):∀ {v:SV},(v.mapM f fe fr).clean=true->(∀c∈(v.mapM f fe fr).Br,c∉X)->v.mapM f fe fr=v
 | .no,hl,_=>by simp[SV.mapM,SV.clean]at hl
 | .d v,hl,hc=>by simp only[SV.mapM];rw[XQ v _ (Sh.SQ h hl hc)]
 | .box t v,hl,hc=>by
   simp only[SV.mapM];rw[XQ v _ (Sh.SQ h hl (fun c b=>hc c (by simp[SV.mapM,SV.Br,b])))]
 | .ptr ..,_,_=>rfl
 | .ept t e i o p τ,hl,hc=>by
   simp only[SV.mapM]at hl|-;split;rfl;rename_i B;rw[a_ B]at hl;cases hl
 | .rdp hs v,hl,hc=>by
   simp only[SV.mapM]at hl hc|-;cases q:fr hs with
   |none=>rw[q]at hl;cases hl
   |some u=>
    rw[q]at hl hc;simp only at hl hc|-;rcases h.r hs u q with e|⟨x,D,y⟩;rw[e,XQ v _ (Sh.SQ h hl (fun c b=>hc c (by simp[SV.Br,b])))];exact absurd D (hc x (by simp[SV.Br,y]))
 | .tup l,hl,hc=>by
   simp only[SV.mapM];congr 1
   have:∀v∈l,({v with sh:=v.sh.map f}:TV)=v:=by
    intro v z;simp only[SV.mapM,SV.clean,List.all_map,aqt,Function.comp_apply]at hl
    exact XQ v _ (Sh.SQ h (hl v z) (fun c b=>hc c (by
     simp only[SV.mapM,SV.Br,arK,aqX];exact⟨v,z,b⟩)))
   conv=>rhs;rw[<-List.map_id l]
   exact arB this
 | .g j w a v,hl,hc=>by
   simp only[SV.mapM];rw[SV.SQ (v:=v) h hl hc]
theorem Sh.stays(h:∀m:M,(∀c∈m.cO,c∉X)->f m=m):∀ {sh:Sh},(∀c∈sh.cO,c∉X)->sh.map f=sh
 | .leaf,_=>rfl
 | .sl m,hc=>by simp only[Sh.map];rw[h m hc]
 | .pair a b,hc=>by
   simp only[Sh.cO,l8]at hc;simp only[Sh.map];rw[Sh.stays h (fun c e=>hc c (.inl e)),Sh.stays h (fun c e=>hc c (.inr e))]
theorem SV.stays(h:∀m:M,(∀c∈m.cO,c∉X)->f m=m)(q:∀t,t∉X->fe t=true)(u:∀hs,(∀c∈hs,c∉X)->fr hs=some hs):∀ {v:SV},(∀c∈v.Br,c∉X)->v.mapM f fe fr=v
 | .no,_| .ptr ..,_=>rfl
 | .d v,hc=>by simp only[SV.mapM];rw[XQ v _ (Sh.stays h hc)]
 | .box t v,hc=>by
   simp only[SV.mapM];rw[XQ v _ (Sh.stays h (fun c b=>hc c (by simp[SV.Br,b])))]
 | .ept t e i o p τ,hc=>by simp only[SV.mapM];rw[an (q t (hc t (by simp[SV.Br])))]
 | .rdp hs v,hc=>by
   simp only[SV.mapM,u hs (fun c b=>hc c (by simp[SV.Br,b]))];rw[XQ v _ (Sh.stays h (fun c b=>hc c (by simp[SV.Br,b])))]
 | .tup l,hc=>by
   simp only[SV.mapM];congr 1
   have:∀v∈l,({v with sh:=v.sh.map f}:TV)=v:=fun v y=>
    XQ v _ (Sh.stays h (fun c b=>hc c (by simp only[SV.Br,aqX];exact⟨v,y,b⟩)))
   conv=>rhs;rw[<-List.map_id l]
   exact arB this
 | .g j w a v,hc=>by simp only[SV.mapM];rw[SV.stays h q u (v:=v) hc]
end
end Vg
