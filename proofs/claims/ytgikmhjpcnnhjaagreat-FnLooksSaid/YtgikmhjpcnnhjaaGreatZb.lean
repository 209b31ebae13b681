/- VG, joined: an evaluator of the code over typed values, and its soundness, for any program. -/
import Derived.Test.YtgikmhjpcnnhjaaGreatZa
import Derived.Orders
set_option linter.unusedSimpArgs false
set_option linter.unusedVariables false
set_option linter.unusedSectionVars false
set_option linter.defProp false
open Option.some renaming injEq -> aoW
open List renaming getD_eq_getElem?_getD -> ew,mem_cons -> ec,mem_append -> ev,contains_eq_mem -> po,mem_cons_of_mem -> s_,getD_cons_zero -> G7,all_eq_true -> C',getElem?_eq_getElem -> Q_,mem_map -> q_,getD_cons_succ -> J5,mem_append_right -> Q',drop_append_of_le_length -> apC,not_mem_nil -> L_,append_assoc -> R_,nodup_append -> apH,take_append_of_le_length -> apI,drop_take -> S_,mem_filter -> apM,take_of_length_le -> apN,drop_of_length_le -> apO,mem_of_getElem? -> apR,nodup_cons -> apS,drop_drop -> apT,take_take -> apU,mem_singleton -> apW,getElem?_eq_none -> apY,getElem?_toArray -> apZ,mem_flatMap -> ap0,getElem?_cons_succ -> ap1,mem_eraseDups -> ap3,mem_zipIdx_iff_getElem? -> ap5,mem_append_left -> ap6,toList_toArray -> ap8,getElem?_eq_some_iff -> ap9,length_append -> aqb,length_eq_zero_iff -> aqc,drop_append -> aqd,nil_append -> aqf,drop_zero -> aqh,replicate -> aqi,drop_eq_getElem_cons -> aqo,take_append -> aqq,length_cons -> aqu,getElem?_cons_zero -> aqv,append_nil -> aqw,take_append_drop -> aqx,length_singleton -> aqy,mem_of_mem_drop -> aqz,map_congr_left -> aqB,pairwise_cons -> aqD,mem_filterMap -> aqE,any_eq_false -> aqF,drop_sublist -> aqG,lookup -> aqJ,flatMap_map -> aqK,cons_append -> aqM,append_inj -> aqO,take_zero -> aqQ,take_left -> aqR
open Prod.mk renaming injEq -> ao0
open Nat renaming le_refl -> gh,add_comm -> i_,lt_succ_self -> py,mul_le_mul_right -> apG,le_trans -> M_,min_eq_left -> apQ,add_mul -> S',one_mul -> ap7,zero_add -> aqa,lt_of_lt_of_le -> aqj,add_assoc -> aql,lt_irrefl -> aqm,sub_self -> aqs,add_zero -> aqt,le_succ -> aqI
open Bool renaming and_eq_true -> l8,not_eq_true' -> M',false_eq_true -> ap2,or_eq_true -> aqg,true_and -> aqA
open Option renaming map_eq_some_iff -> B_,getD_some -> apJ,bind_eq_some_iff -> apL,isNone_none -> apX,map_some -> ap4,bind_some -> aqe,isNone_iff_eq_none -> aqp,isSome_iff_exists -> aqr,isSome_none -> aqC,bind_assoc -> aqH,getD_none -> aqL
open Array renaming getD_eq_getD_getElem? -> aqk,ext' -> aqN
open Function renaming comp_def -> aqn
open List.cons renaming injEq -> aqP
open Prod renaming ext -> aqS
namespace Vg
open Go
def BO{k o:Nat}{b c:List Value}(h:k<=o)(hc:o<=c.length):(dL o b c).drop k=dL (o-k) b (c.drop k):=by
 unfold dL;rw[R_,apC (by simp;omega),S_,R_,apT];congr 3;omega
def B6{n o:Nat}{b c:List Value}(h:o+b.length<=n)(hn:n<=c.length):(dL o b c).take n=dL o b (c.take n):=by
 unfold dL;have d:(c.take o++b).length=o+b.length:=by simp;omega
 rw[aqq,d,apN (by omega),apU,apQ (by omega),S_]
def xa{k b sz:Nat}{d c:List Value}(h:b+d.length<=sz):
 dL (k+b) d c=c.take k++dL b d ((c.drop k).take sz)++c.drop (k+sz):=by
 unfold dL;rw[apU,apQ (by omega),S_,apT];have e:c.take (k+b)=c.take k++(c.drop k).take b:=by rw[List.take_add]
 have i:c.drop (k+b+d.length)=((c.drop (k+(b+d.length))).take (sz-(b+d.length)))++c.drop (k+sz):=by
  have:=(aqx (sz-(b+d.length)) (c.drop (k+(b+d.length)))).symm;rw[apT]at this;rw[show k+b+d.length=k+(b+d.length) by omega];rw[show k+sz=k+(b+d.length)+(sz-(b+d.length)) by omega];exact this
 rw[e,i];simp[R_]
section
variable{P:Program}{C:Cx}{w0:World}{c0:C0}{U:Nat->Prop}{E:Env}{a:Act}{w:World}{G:Gh}{ops:List Oper}{g:Option (Nat×Bool)}
theorem aW.put:∀ {p:List Bool} {τ:Ty} {x:τ.den} {sh:Sh} {cs:List Value} {v:TV} {y:τ.den} {s:Sh} {cv:List Value} {B u:List Nat},
 iO τ x sh p v=some (y,s)->aW w τ x cs B->aW w v.τ v.x cv u->
 ∃c q l,B=c++q++l/\aW w τ y (dL (τ.off p) cv cs) (c++u++l)/\τ.off p+cv.length<=τ.sz
 | [],τ,x,sh,cs,v,y,s,cv,B,u,hp,h,hv=>by
   have K:jE v τ=some y:=by
    cases τ<;>(simp only[iO]at hp;split at hp<;>simp_all)
   have e:=fG K;have N:=aW.len h;have h0:τ.off []=0:=by cases τ<;>rfl
   have z:=aW.len hv;have hτ:v.τ=τ:=by rw[e]
   refine⟨[],B,[],by simp,?_,by rw[h0,z,hτ];omega⟩;unfold dL;rw[h0,z,hτ,aqQ,aqf,aqa,apO (by omega),aqw];rw[e]at hv;simpa using hv
 |false::p,.pair a b,x,.pair s1 s2,cs,v,y,s,cv,B,u,hp,h,hv=>by
  obtain⟨c1,c2,S,W,rfl,rfl,H,Y⟩:=h;simp only[iO]at hp;split at hp;rename_i y1 I J;cases hp;obtain⟨c,q,l,rfl,hr,hle⟩:=aW.put J H hv;have N:=aW.len H;refine⟨c,q,l++W,by simp,⟨_,c2,_,W,?_,by simp,hr,Y⟩,by simp only[Ty.off,Ty.sz];omega⟩;simp only[Ty.off,dL];rw[apI (by omega),apC (by omega)];simp;cases hp
 |true::p,.pair a b,x,.pair s1 s2,cs,v,y,s,cv,B,u,hp,h,hv=>by
  obtain⟨c1,c2,S,W,rfl,rfl,H,Y⟩:=h;simp only[iO]at hp;split at hp;rename_i y1 I J;cases hp;obtain⟨c,q,l,rfl,hr,hle⟩:=aW.put J Y hv;have N:=aW.len H;refine⟨S++c,q,l,by simp,⟨c1,_,S,_,?_,by simp,H,hr⟩,by simp only[Ty.off,Ty.sz];omega⟩;simp only[Ty.off,dL];rw[<-N,aqq,apN (by omega),aqd,apO (by omega)];simp[aql];cases hp
 |b::p,.int _,_,_,_,_,_,_,_,_,_,hp,_,_|b::p,.bool,_,_,_,_,_,_,_,_,_,hp,_,_|b::p,.str,_,_,_,_,_,_,_,_,_,hp,_,_|b::p,.sl _,_,_,_,_,_,_,_,_,_,hp,_,_=>by simp[iO]at hp
 |false::p,.pair _ _,_,.leaf,_,_,_,_,_,_,_,hp,_,_|false::p,.pair _ _,_,.sl _,_,_,_,_,_,_,_,hp,_,_=>by simp[iO]at hp
 |true::p,.pair _ _,_,.leaf,_,_,_,_,_,_,_,hp,_,_|true::p,.pair _ _,_,.sl _,_,_,_,_,_,_,_,hp,_,_=>by simp[iO]at hp
def M.clear(b:Nat):M->Prop
 | .row u hs _=>u=b\/b∉hs
 | .sha hs=>b∉hs
 | .nst b' _ _ _ _ _=>b'≠b
 | .dead=>True
def Sh.clear(b:Nat):Sh->Prop
 | .leaf=>True
 | .sl m=>m.clear b
 | .pair x y=>x.clear b/\y.clear b
def fl(b:Nat)(m:M):(m.cj b).clear b:=by
 cases m with
 |row u hs nd=>
  simp only[M.cj];split;rename_i h;exact .inl h;split;trivial;rename_i h;right;simpa using h
 |sha hs=>
  simp only[M.cj];split;trivial;rename_i h;simpa[M.clear]using h
 |nst b' e i o p fr=>
  simp only[M.cj];split;trivial;rename_i h;exact h
 |dead=>trivial
theorem Sh.fl(b:Nat):∀sh:Sh,(sh.map (M.cj b)).clear b
 | .leaf=>trivial
 | .sl m=>Vg.fl b m
 | .pair x y=>⟨Sh.fl b x,Sh.fl b y⟩
def XQ(b:Nat)(m:M):∀c∈(m.cj b).aJ,c∈m.aJ:=by
 intro c hc;cases m with
 |row u hs nd=>
  simp only[M.cj]at hc;split at hc;exact hc;split at hc;simp[M.aJ]at hc;exact hc
 |sha hs=>
  simp only[M.cj]at hc;split at hc;simp[M.aJ]at hc;exact hc
 |nst b' e i o p fr=>
  simp only[M.cj]at hc;split at hc;simp[M.aJ]at hc;exact hc
 |dead=>exact hc
theorem EC(b:Nat):BK w U G U G (M.cj b) (λ_=>true) (λhs=>if hs.contains b then none else some hs) where
 row e l v m h _:=by
  cases m with
  |row u hs nd=>
   simp only[M.cj];split;exact h;split;exact h.one;exact h
  |sha hs=>
   simp only[M.cj];split;exact h.one;exact h
  |nst b' E i o p fr=>
   simp only[M.cj];split;exact h.one;exact h
  |dead=>exact h
 good m h c hc:=h c (XQ b m c hc)
 rd hs hs' h hg:=by
  split at h;cases h;cases h;exact⟨hg,λb d=>d⟩
 hdr _ _:=rfl
 bx t _ d:=⟨d,λ_ h=>h⟩
 ru _ _ h:=h
 mono _ h:=h
theorem zV{b:Nat}{e:Ty}{y:List e.den}{m:M}{w':World}(j:cL w' G e y (G.hdr b) m)(q:∀k,0<G.col k->G.col k≠b->w'.heap[k]?=w.heap[k]?):
 ∀ {τ:Ty} {x:τ.den} {sh:Sh} {cs:List Value},bJ w G τ x sh cs->sh.clear b->(∀c∈sh.aJ,0<c)->
   bJ w' G τ (jD b e y m τ x sh).1 (jD b e y m τ x sh).2 cs
 | .int _,_,.leaf,_,h,_,_=>h
 | .bool,_,.leaf,_,h,_,_=>h
 | .str,_,.leaf,_,h,_,_=>h
 | .sl e',l,.sl (.row u hs nd),cs,h,hc,hp=>by
   obtain⟨v,rfl,r⟩:=h;simp only[jD];split;rename_i t;subst t;split;rename_i z;subst z;refine⟨v,rfl,?_⟩;have:v=G.hdr u:=r.2.1.symm;rw[this];exact j;exact⟨v,rfl,r.one⟩;rename_i t;refine⟨v,rfl,cL.agree ⟨λk d=>q k (hp _ d) (λs=> ?_),λ_ _=>rfl,λ_ _=>rfl⟩ r⟩;simp only[M.aJ,ec]at d;rcases hc with hc|hc;exact t hc;rcases d with d|d;exact t (d.symm.trans s);exact hc (s▸d)
 | .sl e',l,.sl (.sha hs),cs,h,hc,hp=>by
   obtain⟨v,rfl,r⟩:=h;refine⟨v,rfl,cL.agree ⟨λk d=>q k (hp _ d) (λs=> ?_),λ_ _=>rfl,λ_ _=>rfl⟩ r⟩;exact hc (s▸d)
 | .sl e',l,.sl (.nst b' E i o p fr),cs,h,hc,hp=>by
   obtain⟨v,rfl,r⟩:=h;refine⟨v,rfl,cL.agree ⟨λk d=>q k (hp _ d) (λs=> ?_),λ_ _=>rfl,λ_ _=>rfl⟩ r⟩;simp only[M.aJ,apW]at d;exact hc (d.symm.trans s)
 | .sl e',l,.sl .dead,cs,h,hc,hp=>by
   obtain⟨v,rfl,r⟩:=h;exact⟨v,rfl,r⟩
 | .pair a b',p,.pair s1 s2,cs,h,hc,hp=>by
   obtain⟨B,F,rfl,H,I⟩:=h;exact⟨B,F,rfl,zV j q H hc.1 (λc h=>hp c (by simp[Sh.aJ,h])),zV j q I hc.2 (λc h=>hp c (by simp[Sh.aJ,h]))⟩
 | .int _,_,.sl _,_,h,_,_| .int _,_,.pair _ _,_,h,_,_| .bool,_,.sl _,_,h,_,_| .bool,_,.pair _ _,_,h,_,_
 | .str,_,.sl _,_,h,_,_| .str,_,.pair _ _,_,h,_,_| .sl _,_,.leaf,_,h,_,_| .sl _,_,.pair _ _,_,h,_,_
 | .pair _ _,_,.leaf,_,h,_,_| .pair _ _,_,.sl _,_,h,_,_=>h.elim
theorem uV{b:Nat}{e:Ty}{y:List e.den}{m:M}:∀ {τ:Ty} {x:τ.den} {sh:Sh},∀c∈(jD b e y m τ x sh).2.aJ,c∈sh.aJ\/c∈m.aJ
 | .sl e',l,.sl (.row u hs nd),c,h=>by
   simp only[jD]at h;split at h;split at h;exact .inr h;simp[Sh.aJ,M.aJ]at h;exact .inl h
 | .pair a b',p,.pair s1 s2,c,h=>by
   simp only[jD,Sh.aJ,ev]at h|-;rcases h with h|h;exact(uV c h).imp .inl id;exact(uV c h).imp .inr id
 | .sl _,_,.sl (.nst _ _ _ _ _ _),_,h| .sl _,_,.leaf,_,h| .sl _,_,.pair _ _,_,h| .sl _,_,.sl (.sha _),_,h| .sl _,_,.sl .dead,_,h
 | .int _,_,.leaf,_,h| .int _,_,.sl _,_,h| .int _,_,.pair _ _,_,h| .bool,_,.leaf,_,h| .bool,_,.sl _,_,h| .bool,_,.pair _ _,_,h
 | .str,_,.leaf,_,h| .str,_,.sl _,_,h| .str,_,.pair _ _,_,h| .pair _ _,_,.leaf,_,h| .pair _ _,_,.sl _,_,h=> .inl h
def SV.clear(b:Nat):SV->Prop
 | .d v| .box _ v=>v.sh.clear b
 | .tup l=>∀v∈l,v.sh.clear b
 | .g _ _ _ v=>v.clear b
 |_=>True
theorem SV.fl(b:Nat):∀s:SV,(s.cj b).clear b
 | .no| .ptr ..=>trivial
 | .d v=>Sh.fl b v.sh
 | .box t v=>Sh.fl b v.sh
 | .ept ..=>by simp only[SV.cj,SV.mapM];split<;>trivial
 | .rdp hs v=>by simp only[SV.cj,SV.mapM];split<;>trivial
 | .tup l=>by
   intro v c;simp only[q_]at c;obtain⟨u,_,rfl⟩:=c;exact Sh.fl b u.sh
 | .g j w' act v=>SV.fl b v
theorem cU.setRow{b:Nat}{e:Ty}{y:List e.den}{m:M}{w':World}(q:cL w' G e y (G.hdr b) m)(hb:G.bx b=false)(z:∀k,0<G.col k->G.col k≠b->w'.heap[k]?=w.heap[k]?):
 ∀ {s:SV} {mv:Value},cU w G s mv->s.clear b->bM U G s->cU w' G (s.setRow b e y m) mv
 | .no,_,_,_,_=>trivial
 | .d v,mv,⟨S,h1,h2⟩,hc,hm=>⟨S,h1,zV q z h2 hc (λc h=>(hm.1 c h).1)⟩
 | .box t v,mv,⟨bk,c,el,h1,h2,h3,h4,h5,h6⟩,hc,hm=>by
   have K:=hm.2.1 t (by simp[SV.bt]);refine⟨bk,c,el,h1,h2,h3,h4,?_,zV q z h6 hc (λc h=>(hm.1 c h).1)⟩;rw[z bk (by rw[h4];exact K.1) (λe=> ?_)];exact h5;rw[h4]at e;rw[e,hb]at K;cases K.2.2
 | .ptr t o p τ,mv,h,_,_=>h
 | .ept t e' i o p τ,mv,h,_,_=>h
 | .rdp hs v,mv,⟨bk,o,c,el,fz,h1,h2,h3,h4,h5⟩,_,hm=>by
   simp only[SV.setRow];split;trivial;rename_i H;simp only[po,b_,ev,not_or]at H
   have ha:∀k,G.col k∈hs++v.sh.aJ->w'.heap[k]?=w.heap[k]?:=λk B=>z k (hm.1 _ B).1 (λe=>by
    rw[e]at B;rcases ev.1 B with B|B;exact H.1 B;exact H.2 B)
   exact⟨bk,o,c,el,fz,h1,(ha bk (by simp[h4])).trans h2,h3,h4,bJ.agree ⟨λk B=>ha k (by simp[B]),λ_ _=>rfl,λ_ _=>rfl⟩ h5⟩
 | .tup l,mv,⟨vs,h1,h2,h3⟩,hc,hm=>by
   refine⟨vs,h1,by simp[h2],λi v Y=> ?_⟩;rw[List.getElem?_map,B_]at Y;obtain⟨N,I,rfl⟩:=Y;obtain⟨u,S,hu,W,hv⟩:=h3 i N I;exact⟨u,S,hu,W,zV q z hv (hc N (apR I)) (λc J=>(hm.1 c (ap0.2 ⟨N,apR I,J⟩)).1)⟩
 | .g j w2 false v,mv,⟨h1,h2⟩,hc,hm=>⟨λe=>absurd e (by simp),h2⟩
 | .g j w2 true v,mv,⟨h1,h2⟩,hc,hm=>⟨λe=>⟨by
  have:=(h1 e).1;cases v with
  |box t v=>simp[SV.dV]at this
  |rdp hs v=>simp only[SV.setRow];split<;>rfl
  |_=>rfl,cU.setRow (s:=v) q hb z (h1 e).2 hc (by simpa[bM,SV.sc,SV.bt,SV.rt]using hm)⟩,h2⟩
theorem bM.setRow{b:Nat}{e:Ty}{y:List e.den}{m:M}(p:∀c∈m.aJ,Good U G c):∀ {s:SV},bM U G s->bM U G (s.setRow b e y m)
 | .no,h| .ptr ..,h| .ept ..,h=>h
 | .d v,hm=>bM.d λc hc=>(uV c hc).elim (hm.1 c) (p c)
 | .box t v,hm=>⟨λc hc=>(uV c hc).elim (hm.1 c) (p c),hm.2.1,hm.2.2⟩
 | .rdp hs v,hm=>by
   simp only[SV.setRow];split;simp[bM,SV.sc,SV.bt,SV.rt];exact hm
 | .tup l,hm=>by
   refine⟨λc hc=> ?_,by simp[SV.setRow,SV.bt],by simp[SV.setRow,SV.rt]⟩;simp only[SV.setRow,SV.sc,aqK,ap0]at hc;obtain⟨v,q,hc⟩:=hc;exact(uV c hc).elim (λh=>hm.1 c (ap0.2 ⟨v,q,h⟩)) (p c)
 | .g j w2 true v,hm=>by
   have:=bM.setRow (b:=b) (e:=e) (y:=y) (s:=v) p (by simpa[bM,SV.sc,SV.bt,SV.rt]using hm);simpa[bM,SV.setRow,SV.sc,SV.bt,SV.rt]using this
 | .g j w2 false v,hm=>by simp[bM,SV.setRow,SV.sc,SV.bt,SV.rt]
def OQ{b:Nat}{e:Ty}{y:List e.den}{m:M}{s:SV}{t:Nat}{u:TV}(h:s.setRow b e y m= .box t u):∃c,s= .box t c:=by
 cases s with
 |box t' v=>simp only[SV.setRow,SV.box.injEq]at h;exact⟨v,by rw[h.1]⟩
 |rdp hs v=>simp only[SV.setRow]at h;split at h<;>cases h
 |_=>simp[SV.setRow]at h
theorem Inv.setRow(h:Inv w0 c0 U E a w G){b:Nat}{e:Ty}{y:List e.den}{m:M}{w':World}(q:cL w' G e y (G.hdr b) m)(Y:G.bx b=false)(hb3:4<=b)
 (p:∀k,G.col k≠b->w'.heap[k]?=w.heap[k]?) (B:∀s,(E.s.getD s .no).clear b) (H:∀c∈m.aJ,Good U G c)
 (fresh:∀k,G.col k=b->∃c el,w'.heap[k]?=some (.cells c el (0,0))) (size:w.heap.size=w'.heap.size)
 (os:w'.os=w.os) (tape:w'.tape=w.tape) (output:w'.output=w.output):Inv w0 c0 U {E with s:=E.s.map (SV.setRow b e y m)} a w' G:=by
 have z:∀s,({E with s:=E.s.map (SV.setRow b e y m)}:Env).s.getD s .no=(E.s.getD s .no).setRow b e y m:=λs=>getD_map (T:=SV.setRow b e y m) rfl s;have I:∀s,bM U G ((E.s.getD s .no).setRow b e y m):=λs=>bM.setRow H (h.wc s);refine⟨by simpa using h.len,λs=> ?_,λs=> ?_,λs=> ?_,λs=> ?_,λs W t v v' K N=> ?_,h.colU,λk l=>by rw[<-size];exact h.lt k l,λk l=> ?_,λk l hc=> ?_,h.one,by rw[<-size];exact h.size,os.trans h.os,tape.trans h.tape,output.trans h.output,h.defers,h.two,h.hk⟩;rw[z];exact cU.setRow q Y (λk _ l=>p k l) (h.slots s) (B s) (h.wc s);rw[z];exact(I s).1;rw[z];exact(I s).2.1;rw[z];exact(I s).2.2;rw[z]at K N;obtain⟨u,hu⟩:=OQ K;obtain⟨u',J⟩:=OQ N;exact h.uni s W t u u' hu J;by_cases e:G.col k=b;exact fresh k e;rw[p k e];exact h.fresh k l;have S:=h.frame k l hc;exact⟨S.1,by rw[p k (by omega)];exact S.2⟩
theorem Sh.nN:∀ {τ:Ty} {x:τ.den} {sh:Sh} {cs:List Value} {ts:List Nat},bJ w G τ x sh cs->sh.own=some ts->∀c∈ts,4<=c
 | .int _,_,.leaf,_,ts,_,h,c,hc| .bool,_,.leaf,_,ts,_,h,c,hc| .str,_,.leaf,_,ts,_,h,c,hc=>by
   simp only[Sh.own,aoW]at h;subst h;simp at hc
 | .sl e,l,.sl m,cs,ts,h,ho,c,hc=>by
   obtain⟨v,rfl,z⟩:=h;simp only[Sh.own]at ho;cases m with
   |row t hs nd=>
    obtain⟨_,B,H⟩:=M.nN ho;rcases(H c).1 hc with rfl|hc;exact z.1;exact B c hc
   |sha hs=>cases hs with
    |nil=>simp only[M.own,aoW]at ho;subst ho;simp at hc
    |cons=>simp[M.own]at ho
   |nst b E i o p fr=>simp[M.own]at ho
   |dead=>simp[M.own]at ho
 | .pair a b,p,.pair s1 s2,cs,ts,h,ho,c,hc=>by
   obtain⟨c1,c2,rfl,I,J⟩:=h;simp only[Sh.own]at ho;split at ho;rename_i x y q u;split at ho;simp only[aoW]at ho;subst ho;rcases ev.1 hc with hc|hc;exact Sh.nN I q c hc;exact Sh.nN J u c hc;cases ho;cases ho
 | .int _,_,.sl _,_,_,h,_,_,_| .int _,_,.pair _ _,_,_,h,_,_,_| .bool,_,.sl _,_,_,h,_,_,_| .bool,_,.pair _ _,_,_,h,_,_,_
 | .str,_,.sl _,_,_,h,_,_,_| .str,_,.pair _ _,_,_,h,_,_,_| .sl _,_,.leaf,_,_,h,_,_,_| .sl _,_,.pair _ _,_,_,h,_,_,_
 | .pair _ _,_,.leaf,_,_,h,_,_,_| .pair _ _,_,.sl _,_,_,h,_,_,_=>h.elim
theorem Xl{τ:Ty}{b:Nat}{hs:List Nat}{nd:Bool}{v:TV}{cv:List Value}{e:Ty}{l:List e.den}{hv:Value}{gv:List Nat}{m:M}
 (hr:cL w G e l hv (.row b hs nd)) (hg:∀c∈b::hs,Good U G c) (I:bJ w G v.τ v.x v.sh cv) (e0:∀c∈v.sh.aJ,Good U G c) (hl:v.sh.live=true) (hτ:v.τ=τ)
 (own:Option (List Nat)) (i:own=if τ.flat then none else match(M.row b hs nd).own,v.sh.own with
  |some a,some c=>if c.all (!a.contains ·)then some ((a++c).filter (·≠b))else none
  |_,_=>none)
 (k:gv=own.getD []) (N:m=if own.isSome then .row b [b] true else if τ.flat then .row b hs nd else .row b (hs++v.sh.aJ).eraseDups false)
 (S:(own.isNone&&v.sh.aJ.contains b)=false):
 (∀c∈gv,4<=c/\Good U G c)/\b∉gv/\(∀c∈m.aJ,Good U G c)/\
 ∃B F hs' b0,eX w e.sz (aW w e) l hv B/\aW w v.τ v.x cv F/\m= .row b hs' b0/\
  ∀h H,B=h::H->G.col h=b/\h∉H/\h∉F/\∀q,(∃A Bo D,H=A++Bo++D/\q=A++F++D)->
   (∀x∈q,(if G.col x∈gv then b else G.col x)∈hs')/\(b0=true->q.Nodup):=by
 obtain⟨u0,hh,B,hB,hc⟩:=hr;by_cases hf:τ.flat=true;rw[an hf]at i;subst i;simp only[aqL]at k;subst k;simp only[aqC,ap2,if_false,hf,if_true]at N;subst N;obtain⟨F,s,_⟩:=I.rep hl;have:F=[]:=aW.flat (by rw[hτ];exact hf) s;subst this;refine⟨by simp,by simp,λc j=>hg c j,B,[],hs,nd,hB,s,rfl,λh H t=> ?_⟩;obtain⟨Y,k2,k3,k4⟩:=hc h H t;refine⟨Y,k2,by simp,?_⟩;rintro q ⟨A,Bo,D,rfl,rfl⟩;refine⟨λx d=> ?_,λhn=> ?_⟩;simp only[L_,if_false];exact k3 x (by simp at d|-;rcases d with d|d<;>simp[d])
 exact(k4 hn).sublist (by
  simp only[aqw];exact List.Sublist.append (List.sublist_append_left ..) (List.Sublist.refl _))
 rw[a_ hf]at i;cases ho:own with
 |some ts=>
  rw[ho]at i k N;simp only[apJ]at k;simp only[Option.isSome_some,if_true]at N;subst k N;split at i;rename_i a' c p0 r;split at i;rename_i K;cases i;obtain⟨x0,h3,J⟩:=M.nN p0
  have h0:∀z∈c,z∉a':=by
   simp only[C',M',po,d_]at K;exact K
  obtain⟨F,s,E0,u⟩:=I.own r;have r0:∀z∈c,4<=z:=Sh.nN I r;refine⟨λz hz=> ?_,by simp,by simp only[M.aJ];intro z hz;simp only[ec,L_,or_false,or_self]at hz;subst hz;exact hg z (by simp),B,F,[b],true,hB,s,rfl,λh H t=> ?_⟩;simp only[apM,ev]at hz;rcases hz.1 with h|h;refine⟨?_,hg z ?_⟩;rcases(J z).1 h with rfl|h;exact u0;exact h3 z h;rcases(J z).1 h with rfl|h;simp;simp[h];exact⟨r0 z h,e0 z (Sh.k9 r z h)⟩;obtain⟨Y,k2,k3,k4⟩:=hc h H t;refine⟨Y,k2,λp=> ?_,?_⟩;have:=u h p;rw[Y]at this;exact h0 b this ((J b).2 (.inl rfl));rintro q ⟨A,Bo,D,rfl,rfl⟩;have hn:=k4 x0;have W:∀x∈A++Bo++D,G.col x∈a':=λx d=>(J _).2 (.inr (k3 x d));refine⟨λx d=> ?_,λ_=> ?_⟩
  have s0:G.col x∈a'\/G.col x∈c:=by
   simp only[ev]at d;rcases d with(d|d)|d;exact .inl (W x (by simp[d]));exact .inr (u x d);exact .inl (W x (by simp[d]))
  by_cases e:G.col x=b;simp[e]
  have p:G.col x∈(a'++c).filter (·≠b):=by
   simp only[apM,ev,ne_eq,decide_not,M',d_];exact⟨s0,e⟩
  rw[an p];simp;have o0:∀x∈F,x∉A++Bo++D:=λx d p=>h0 _ (u x d) (W x p);rw[apH,apH]at hn;obtain⟨⟨n1,n2,n3⟩,n4,n5⟩:=hn;rw[apH,apH];refine⟨⟨n1,E0,λx d y hy e=>o0 y hy (by subst e;simp[d])⟩,n4,λx d y hy e=> ?_⟩;rcases ev.1 d with d|d;exact n5 x (by simp[d]) y hy e;exact o0 x d (by subst e;simp[hy]);cases i;cases i
 |none=>
  rw[ho]at k N S;simp only[aqL]at k;subst k;simp only[aqC,ap2,if_false,hf]at N;subst N;simp only[apX,aqA,po,d_]at S;obtain⟨F,s,r⟩:=I.rep hl;refine⟨by simp,by simp,λc j=> ?_,B,F,_,false,hB,s,rfl,λh H t=> ?_⟩;simp only[M.aJ,ec,ap3,ev]at j;rcases j with rfl|j|j;exact hg c (by simp);exact hg c (by simp[j]);exact e0 c j;obtain⟨Y,k2,k3,k4⟩:=hc h H t;refine⟨Y,k2,λp=> ?_,?_⟩;have:=r h p;rw[Y]at this;exact S this;rintro q ⟨A,Bo,D,rfl,rfl⟩;refine⟨λx d=> ?_,by simp⟩;simp only[L_,if_false,ap3,ev];simp only[ev]at d;rcases d with(d|d)|d;exact .inl (k3 x (by simp[d]));exact .inr (r x d);exact .inl (k3 x (by simp[d]))
theorem Inv.acB(q:Inv w0 c0 U E a w G){ts:List Nat}{t:Nat}{v:Value}(u:4<=t)(p:∀c∈ts,4<=c/\Good U G c)(y:U t)(z:v=G.hdr t)(l:G.bx t=false):
 Inv w0 c0 U {E with s:=E.s.map (SV.aX ts t)} a w (G.aX ts t v):=by
 refine(q.map (f:=M.aX ts t) (Sf (w:=w) (v:=v) u p (λ_=>⟨z,l⟩)) ?_ ?_).mono (U':=U) (λc hc=>hc.elim id (λe=>e▸y));intro b l;simp only[Gh.aX]at l|-;split;exact .inr rfl;rename_i h;rw[a_ h]at l;exact .inl (q.colU b l);intro b;simp only[Gh.aX];by_cases h:G.col b∈ts;have:=(p _ h).1;simp only[h,if_true];omega;simp[h]
def ain(hC:CxTy P C)(hI:Inv w0 c0 U E a w G)(hR:RI ops E a.tmps)(hg:Gd ops a.tmps g){tk:Nat}{o:Oper}{t:TypeId}{x y:Operand}
 {gv:List Nat} {b:Nat} {e:Ty} {l':List e.den} {m:M} (ho:o.op= .store t x y) (h:bK C ops E.rd tk g o=some (.elem gv b e l' m)):
 ∃w' G',(execOp a.eval o).run P w= .ok .skip w'/\Inv w0 c0 U (E.elem gv b e l' m) a w' G':=by
 simp only[bK,ho]at h;split at h;split at h;split at h;obtain⟨r,_,h⟩:=B_.mp h;cases h;cases h;cases h;rename_i ti j d i off p τ1 v1 u1 u0 hv;split at h;rename_i l hs nd x0;obtain⟨hc,h⟩:=Option.ite_none_right_eq_some.mp h;obtain⟨z1,h⟩:=Option.ite_none_left_eq_some.mp h;obtain⟨r,hr,h⟩:=B_.mp h;simp only[Ef.elem.injEq]at h;obtain⟨A1,rfl,rfl,h0,hm⟩:=h;have h0:=eq_of_heq h0;subst h0;simp only[l8,b_]at hc;obtain⟨⟨⟨C1,hc2⟩,D1⟩,o0⟩:=hc;obtain⟨h1,_⟩:=gP hI hR hg u0;obtain⟨z,of,n,cap,H,k2,k3,k4,k5⟩:=h1;obtain⟨⟨vh,l1⟩,q⟩:=hI.fB x0;obtain⟨⟨I,E1,p0⟩,F1,r0⟩:=kZ hI hR hg hv;have E0:vh=G.hdr j:=l1.2.1.symm;have N:=z1;simp only[Bool.not_eq_true]at N;obtain⟨q1,q2,q3,B,Bv,hs',nd',hB,G1,J1,n1⟩:=Xl (τ:=τ1) (gv:=gv) (m:=m) l1 q p0 F1 r0 D1 _ rfl A1.symm hm.symm N;rw[E0,k2]at hB;rcases hB with⟨⟨ao,hB⟩,_⟩|⟨bk',of',cap',c,el,fz,Bs,b0,e0,u,hsz,rfl,hl⟩;cases hB;exfalso;have k4':i<((0:Nat):Int):=k4;have k3': @LE.le Int Int.instLEInt 0 i:=k3;omega;simp only[Value.slice.injEq,aoW,Addr.mk.injEq,and_true]at b0;obtain⟨⟨rfl,rfl⟩,rfl,rfl⟩:=b0;obtain⟨j1,j2,j3,j4⟩:=n1 z Bs rfl;obtain⟨c',o1,s0⟩:=hI.fresh z (by rw[j1];exact H);rw[s0]at u;simp only[aoW,Obj.cells.injEq]at u;obtain⟨rfl,rfl,rfl⟩:=u;have hi:i.toNat<l.length:=toNat_lt k3 k4
 have G0:l[i.toNat]?=some (l.getD i.toNat d.aa):=by
  rw[ew,Q_ hi];rfl
 obtain⟨B1,Bx,B2,rfl,L1,T1,W1⟩:=aZ.get (sz:=d.sz) (λx c B h=>aW.len h) hl G0;obtain⟨Ba,Bo,Bb,rfl,r1,hle⟩:=aW.put hr L1 G1;have L0:=aZ.set (sz:=d.sz) hi r1 T1 W1;have R0:I.length=v1.τ.sz:=bJ.len p0;have hmul:(i.toNat+1)*d.sz<=l.length*d.sz:=apG _ hi;have hmul2:l.length*d.sz<=cap*d.sz:=apG _ e0;rw[S',ap7]at hmul;have hO:of+i.toNat*d.sz+off+I.length<=c'.size:=by rw[<-C1];omega
 have F:=iN z (el:=o1) I (of+i.toNat*d.sz+off) w c' s0 hO;have hT:=(hC.tt t ti u1).1;have a1:=xf (P:=P) (t:=t) (τ:=ti.τ) hT s0 (o:=of+i.toNat*d.sz+off) (cs:=I) (by rw[<-o0,<-R0];exact hO) (by rw[R0,o0]) (bJ.one p0) k5;have hU:U j:=(q j (by simp)).2.1;have w1:G.bx j=false:=(q j (by simp)).2.2;have c1:=hI.acB (ts:=gv) (t:=j) (v:=G.hdr j) H q1 hU rfl w1;have x1:=c1.map (EC (w:=w) j) c1.colU (λb=>⟨λh=>h,λ_=>rfl,λ_=>rfl⟩);have S:(G.aX gv j (G.hdr j)).col z=j:=by simp[Gh.aX,j1,q2]
 have J:∀k,(G.aX gv j (G.hdr j)).col k≠j->(w.setCells z (of+i.toNat*d.sz+off) I).heap[k]?=w.heap[k]?:=λk hk=>
  cr z _ _ w k (λe=>hk (e▸S))
 have W:=j4 (B1++(Ba++Bv++Bb)++B2) ⟨B1++Ba,Bo,Bb++B2,by simp[R_],by simp[R_]⟩
 have Y:z∉B1++(Ba++Bv++Bb)++B2:=by
  simp only[ev,not_or]at j2|-;exact⟨⟨j2.1.1,⟨j2.1.2.1.1,j3⟩,j2.1.2.2⟩,j2.2⟩
 have k1:cL (w.setCells z (of+i.toNat*d.sz+off) I) (G.aX gv j (G.hdr j)) d (l.set i.toNat r.1) ((G.aX gv j (G.hdr j)).hdr j) m:=by
  rw[J1];refine⟨H,rfl,z::(B1++(Ba++Bv++Bb)++B2),?_,?_⟩;refine .inr ⟨z,of,cap,_,o1,(0,0),B1++(Ba++Bv++Bb)++B2,by simp[Gh.aX,k2],by simpa using e0,F,by simp;omega,rfl,?_⟩
  have K:((dL (of+i.toNat*d.sz+off) I c'.toList).drop of).take ((l.set i.toNat r.1).length*d.sz)=
   ((c'.toList.drop of).take (l.length*d.sz)).take (i.toNat*d.sz)++dL (d.off p) I ((((c'.toList.drop of).take (l.length*d.sz)).drop (i.toNat*d.sz)).take d.sz)++((c'.toList.drop of).take (l.length*d.sz)).drop ((i.toNat+1)*d.sz):=by
   rw[BO (by omega) (by simp;omega),B6 (by simp;omega) (by simp;omega)];rw[show of+i.toNat*d.sz+off-of=i.toNat*d.sz+d.off p by omega];rw[xa (sz:=d.sz) hle];rw[S',ap7];simp
  show aZ _ _ (((dL (of+i.toNat*d.sz+off) I c'.toList).toArray.toList.drop of).take _) _;rw[ap8,K];exact aZ.world (λk hk=>cr z _ _ w k (λe=>Y (e▸hk))) L0;rintro h' Bs'' ⟨⟩;exact⟨S,Y,W.1,W.2⟩
 have y1:=x1.setRow k1 (by simp[Gh.aX]) H J (λs=> ?_) (λc hc=> ?_) (λk hk=> ?_) (by rw[fH]) (cP _ _ _ w).1 (cP _ _ _ w).2.1 (cP _ _ _ w).2.2;refine⟨w.setCells z (of+i.toNat*d.sz+off) I,G.aX gv j (G.hdr j),?_,?_⟩;simp only[execOp,ho,E1,o0];simp[a1];simpa only[Env.elem,List.map_map,aqn,SV.cj,SV.aX]using y1;have:=getD_map (L:=E.s.map (SV.aX gv j)) (T:=SV.cj j) rfl s;show SV.clear j ((List.map (SV.cj j) (E.s.map (SV.aX gv j))).getD s .no);rw[this];exact SV.fl j _;obtain⟨p1,p2,p3⟩:=q3 c hc;refine⟨p1,p2,?_⟩;simp only[Gh.aX];split;rfl;exact p3;by_cases e:k=z;subst e;exact⟨_,_,F⟩;rw[cr z _ _ w k e];refine hI.fresh k ?_;simp only[Gh.aX]at hk;split at hk;rename_i h;exact(q1 _ h).1;rw[hk];exact H;cases h;cases h
end
theorem EK:∀(p:Pt) (tk:Nat) (hs:List Nat),(bc p tk hs).2=(bc p tk []).2
 | .leaf,_,_| .own,_,_| .shr,_,_| .hd,_,_| .pv,_,_| .rom,_,_=>rfl
 | .pair a b,tk,hs=>by simp only[bc];rw[EK a tk hs,EK b _ hs]
def cS(p:Pt)(tk:Nat)(hs:List Nat):(bc p tk hs).2=aU p tk:=EK p tk hs
theorem bU:∀(p:Pt) (tk:Nat),tk<=aU p tk
 | .leaf,_| .shr,_| .rom,_=>gh _
 | .own,_| .hd,_| .pv,_=>aqI _
 | .pair a b,tk=>by
   have c:=bU a tk;have d:=bU b (aU a tk);exact M_ c d
def gQ(a b:Pt)(tk:Nat):aU (.pair a b) tk=aU b (aU a tk):=rfl
theorem xg:∀(τ:Ty) (tk:Nat) (hs:List Nat),bc (yr τ) tk hs=(iM τ (.sha hs),tk)
 | .int _,_,_| .bool,_,_| .str,_,_| .sl _,_,_=>rfl
 | .pair a b,tk,hs=>by simp only[yr,bc,xg a,xg b,iM]
def Nr(τ:Ty)(tk:Nat):aU (yr τ) tk=tk:=by rw[<-cS (yr τ) tk [1],xg]
theorem qx:∀ {p:Pt} {tk:Nat} {hs:List Nat},∀c∈(bc p tk hs).1.aJ,c∈hs\/(tk<=c/\c<aU p tk)\/c=3
 | .leaf,tk,hs,c,h=>by simp[bc,Sh.aJ]at h
 | .rom,tk,hs,c,h=>by
   simp only[bc,Sh.aJ,M.aJ,apW]at h;exact .inr (.inr h)
 | .own,tk,hs,c,h=>by
   simp only[bc,Sh.aJ,M.aJ,ec,L_,or_false,or_self]at h;subst h;exact .inr (.inl ⟨gh _,py _⟩)
 | .pv,tk,hs,c,h=>by
   simp only[bc,Sh.aJ,M.aJ,ec,L_,or_false,or_self]at h;subst h;exact .inr (.inl ⟨gh _,py _⟩)
 | .hd,tk,hs,c,h=>by
   simp only[bc,Sh.aJ,M.aJ,ec]at h;rcases h with rfl|rfl|h;exact .inr (.inl ⟨gh _,py _⟩);exact .inr (.inl ⟨gh _,py _⟩);exact .inl h
 | .shr,tk,hs,c,h=> .inl h
 | .pair a b,tk,hs,c,h=>by
   simp only[bc,Sh.aJ,ev]at h;have h1:=bU a tk;have h2:=bU b (aU a tk);rw[gQ];rcases h with h|h;rcases qx c h with h|h;exact .inl h;right;omega;rw[cS]at h;rcases qx c h with h|h;exact .inl h;right;omega
theorem nz:∀ {p:Pt} {tk:Nat} {hs:List Nat},∀c∈(bc p tk hs).1.aJ,(c∈hs/\p.vX=true)\/(tk<=c/\c<aU p tk)\/c=3
 | .leaf,tk,hs,c,h=>by simp[bc,Sh.aJ]at h
 | .rom,tk,hs,c,h=>by
   simp only[bc,Sh.aJ,M.aJ,apW]at h;exact .inr (.inr h)
 | .own,tk,hs,c,h=>by
   simp only[bc,Sh.aJ,M.aJ,ec,L_,or_false,or_self]at h;subst h;exact .inr (.inl ⟨gh _,py _⟩)
 | .pv,tk,hs,c,h=>by
   simp only[bc,Sh.aJ,M.aJ,ec,L_,or_false,or_self]at h;subst h;exact .inr (.inl ⟨gh _,py _⟩)
 | .hd,tk,hs,c,h=>by
   simp only[bc,Sh.aJ,M.aJ,ec]at h;rcases h with rfl|rfl|h;exact .inr (.inl ⟨gh _,py _⟩);exact .inr (.inl ⟨gh _,py _⟩);exact .inl ⟨h,rfl⟩
 | .shr,tk,hs,c,h=> .inl ⟨h,rfl⟩
 | .pair a b,tk,hs,c,h=>by
   simp only[bc,Sh.aJ,ev]at h;have h1:=bU a tk;have h2:=bU b (aU a tk);rw[gQ];simp only[Pt.vX,aqg];rcases h with h|h;rcases nz c h with h|h;exact .inl ⟨h.1,.inl h.2⟩;right;omega;rw[cS]at h;rcases nz c h with h|h;exact .inl ⟨h.1,.inr h.2⟩;right;omega
section
variable{P:Program}{C:Cx}{w0:World}{c0:C0}{U:Nat->Prop}{E:Env}{a:Act}{w:World}{G:Gh}{ops:List Oper}{g:Option (Nat×Bool)}
theorem ot{sm:Nat->Nat}{hs:List Nat}:∀ {p:Pt} {τ:Ty} {x:τ.den} {sh:Sh} {cs:List Value} {tk:Nat},kF p sh=true->bJ w G τ x sh cs->4<=tk->(∀c∈sh.aJ,sm c∈hs)->hs≠ []->
 ∃H:Nat->Value,∀d:Gh,(∀c k,(c,k)∈fE sm p sh tk->∀b,G.col b=c->d.col b=k)->(∀u,tk<=u->u<aU p tk->d.hdr u=H u)->bJ w d τ x (bc p tk hs).1 cs
 | .leaf,.int _,x,.leaf,cs,tk,_,h,_,_,_=>⟨λ_=>undef,λ_ _ _=>h⟩
 | .leaf,.bool,x,.leaf,cs,tk,_,h,_,_,_=>⟨λ_=>undef,λ_ _ _=>h⟩
 | .leaf,.str,x,.leaf,cs,tk,_,h,_,_,_=>⟨λ_=>undef,λ_ _ _=>h⟩
 | .own,.sl e,l,.sl m,cs,tk,hf,h,h3,_,_=>by
   obtain⟨v,rfl,s⟩:=h;simp only[kF,aqr]at hf;obtain⟨ts,N⟩:=hf;obtain⟨B,r,Y,hc⟩:=s.own N;refine⟨λ_=>v,λd i j=>⟨v,rfl,h3,j tk (gh _) (py _),B,r,?_⟩⟩;have K:∀b∈B,d.col b=tk:=λb z=>i (G.col b) tk (by simp only[fE,N,apJ,q_];exact⟨_,hc b z,rfl⟩) b rfl;rintro b I rfl;rw[apS]at Y;exact⟨K b (by simp),Y.1,λx J=>by simp[K x (by simp[J])],λ_=>Y.2⟩
 | .shr,.sl e,l,.sl m,cs,tk,hf,h,h3,hsm,hne=>by
   obtain⟨v,rfl,s⟩:=h;simp only[kF,ne_eq,decide_not,M',d_]at hf;obtain⟨B,r,hc⟩:=s.rep hf;refine⟨λ_=>v,λd i j=>⟨v,rfl,⟨B,r,λb z=> ?_⟩,λe=>absurd e hne⟩⟩;rw[i (G.col b) (sm (G.col b)) (by simp only[fE,q_];exact⟨_,hc b z,rfl⟩) b rfl];exact hsm _ (hc b z)
 | .rom,.sl e,l,.sl m,cs,tk,hf,h,h3,_,_=>by
   obtain⟨v,rfl,s⟩:=h;simp only[kF,ne_eq,decide_not,l8,M',d_,C',b_]at hf;obtain⟨B,r,hc⟩:=s.rep hf.1;refine⟨λ_=>v,λd i j=>⟨v,rfl,⟨B,r,λb z=> ?_⟩,λe=>absurd e (by simp)⟩⟩;have e3:=hf.2 _ (hc b z);rw[i 3 3 (by simp only[fE,q_,apM,b_];exact⟨3,⟨e3▸hc b z,rfl⟩,rfl⟩) b e3];simp
 | .pv,.sl e,l,.sl m,cs,tk,hf,h,h3,_,_=>by
   obtain⟨v,rfl,s⟩:=h;simp only[kF,aqr]at hf;obtain⟨ts,N⟩:=hf;rcases M.TS N with⟨t,S,nd,rfl,W,b0⟩|⟨rfl,rfl⟩;obtain⟨_,_,B,r,hc⟩:=s;refine⟨λ_=>v,λd i j=>⟨v,rfl,h3,j tk (gh _) (py _),B,r,?_⟩⟩;rintro b I rfl;obtain⟨q1,q2,q3,_⟩:=hc b I rfl;have K:∀c,c=t\/c∈S->∀b,G.col b=c->d.col b=tk:=λc hc=>i c tk (by simp only[fE,N,apJ,q_];exact⟨c,(b0 c).2 hc,rfl⟩);exact⟨K t (.inl rfl) b q1,q2,λx J=>by simp[K _ (.inr (q3 x J)) x rfl],by simp⟩;obtain⟨_,B,r,rfl⟩:=s.nil;exact⟨λ_=>v,λd i j=>⟨v,rfl,h3,j tk (gh _) (py _),[],r,by rintro b I ⟨⟩⟩⟩
 | .hd,.sl e,l,.sl (.row t S nd),cs,tk,hf,h,h3,hsm,hne=>by
   obtain⟨v,rfl,_,_,B,r,hc⟩:=h;refine⟨λ_=>v,λd i j=>⟨v,rfl,h3,j tk (gh _) (py _),B,r,?_⟩⟩;rintro b I rfl;obtain⟨q1,q2,q3,_⟩:=hc b I rfl;refine⟨i t tk (by simp[fE]) b q1,q2,λx J=> ?_,by simp⟩;by_cases e:G.col x=t;rw[i t tk (by simp[fE]) x e];simp;rw[i (G.col x) (sm (G.col x)) (by simp only[fE,ec,q_,apM];exact .inr ⟨_,⟨q3 x J,by simpa using e⟩,rfl⟩) x rfl];exact s_ _ (hsm _ (by simp[Sh.aJ,M.aJ,q3 x J]))
 | .hd,.sl e,l,.sl (.sha []),cs,tk,hf,h,h3,hsm,hne=>by
   obtain⟨v,rfl,s⟩:=h;obtain⟨_,B,r,rfl⟩:=cL.nil s;exact⟨λ_=>v,λd i j=>⟨v,rfl,h3,j tk (gh _) (py _),[],r,by rintro b I ⟨⟩⟩⟩
 | .pair p q,.pair a b,x,.pair s1 s2,cs,tk,hf,h,h3,hsm,hne=>by
   obtain⟨c1,c2,rfl,i,j⟩:=h;simp only[kF,l8]at hf;have W:=bU p tk;obtain⟨H1,k1⟩:=ot hf.1 i h3 (λc hc=>hsm c (by simp[Sh.aJ,hc])) hne;obtain⟨H2,k2⟩:=ot (tk:=aU p tk) hf.2 j (by omega) (λc hc=>hsm c (by simp[Sh.aJ,hc])) hne;refine⟨λu=>if u<aU p tk then H1 u else H2 u,λd g1 g2=>⟨c1,c2,rfl,?_,?_⟩⟩;refine k1 d (λc k F=>g1 c k (by simp only[fE,ev];exact .inl F)) (λu hu y=> ?_);exact(g2 u hu (by rw[gQ];exact aqj y (bU _ _))).trans (an y);rw[cS];refine k2 d (λc k F=>g1 c k (by simp only[fE,ev];exact .inr F)) (λu hu y=> ?_);exact(g2 u (by omega) (by rw[gQ];exact y)).trans (a_ (by omega))
 | .hd,_,_,.sl (.sha (_::_)),_,_,hf,_,_,_,_| .hd,_,_,.sl .dead,_,_,hf,_,_,_,_| .hd,_,_,.leaf,_,_,hf,_,_,_,_| .hd,_,_,.pair _ _,_,_,hf,_,_,_,_
 | .pv,_,_,.leaf,_,_,hf,_,_,_,_| .pv,_,_,.pair _ _,_,_,hf,_,_,_,_| .rom,_,_,.leaf,_,_,hf,_,_,_,_| .rom,_,_,.pair _ _,_,_,hf,_,_,_,_
 | .leaf,_,_,.sl _,_,_,hf,_,_,_,_| .leaf,_,_,.pair _ _,_,_,hf,_,_,_,_| .own,_,_,.leaf,_,_,hf,_,_,_,_| .own,_,_,.pair _ _,_,_,hf,_,_,_,_
 | .shr,_,_,.leaf,_,_,hf,_,_,_,_| .shr,_,_,.pair _ _,_,_,hf,_,_,_,_| .pair _ _,_,_,.leaf,_,_,hf,_,_,_,_| .pair _ _,_,_,.sl _,_,_,hf,_,_,_,_=>by simp[kF]at hf
 | .hd,.int _,_,.sl (.row _ _ _),_,_,_,h,_,_,_| .hd,.bool,_,.sl (.row _ _ _),_,_,_,h,_,_,_| .hd,.str,_,.sl (.row _ _ _),_,_,_,h,_,_,_| .hd,.pair _ _,_,.sl (.row _ _ _),_,_,_,h,_,_,_
 | .hd,.int _,_,.sl (.sha []),_,_,_,h,_,_,_| .hd,.bool,_,.sl (.sha []),_,_,_,h,_,_,_| .hd,.str,_,.sl (.sha []),_,_,_,h,_,_,_| .hd,.pair _ _,_,.sl (.sha []),_,_,_,h,_,_,_
 | .rom,.int _,_,.sl _,_,_,_,h,_,_,_| .rom,.bool,_,.sl _,_,_,_,h,_,_,_| .rom,.str,_,.sl _,_,_,_,h,_,_,_| .rom,.pair _ _,_,.sl _,_,_,_,h,_,_,_
 | .pv,.int _,_,.sl _,_,_,_,h,_,_,_| .pv,.bool,_,.sl _,_,_,_,h,_,_,_| .pv,.str,_,.sl _,_,_,_,h,_,_,_| .pv,.pair _ _,_,.sl _,_,_,_,h,_,_,_
 | .leaf,.sl _,_,.leaf,_,_,_,h,_,_,_| .leaf,.pair _ _,_,.leaf,_,_,_,h,_,_,_| .own,.int _,_,.sl _,_,_,_,h,_,_,_| .own,.bool,_,.sl _,_,_,_,h,_,_,_| .own,.str,_,.sl _,_,_,_,h,_,_,_| .own,.pair _ _,_,.sl _,_,_,_,h,_,_,_
 | .shr,.int _,_,.sl _,_,_,_,h,_,_,_| .shr,.bool,_,.sl _,_,_,_,h,_,_,_| .shr,.str,_,.sl _,_,_,_,h,_,_,_| .shr,.pair _ _,_,.sl _,_,_,_,h,_,_,_
 | .pair _ _,.int _,_,.pair _ _,_,_,_,h,_,_,_| .pair _ _,.bool,_,.pair _ _,_,_,_,h,_,_,_| .pair _ _,.str,_,.pair _ _,_,_,_,h,_,_,_| .pair _ _,.sl _,_,.pair _ _,_,_,_,h,_,_,_=>h.elim
theorem LM{s G2:Gh}{hs hs':List Nat}:∀ {p:Pt} {τ:Ty} {x:τ.den} {cs:List Value} {k k':Nat},bJ w s τ x (bc p k hs).1 cs->4<=k'->
 (∀u,k<=u->u<aU p k->G2.hdr (k'+(u-k))=s.hdr u/\∀b,s.col b=u->G2.col b=k'+(u-k))->(∀b,s.col b∈hs->G2.col b∈hs')->(∀b,s.col b=3->G2.col b=3)->hs'≠ []->
 bJ w G2 τ x (bc p k' hs').1 cs/\aU p k'-k'=aU p k-k
 | .leaf,.int _,x,cs,k,k',h,_,_,_,_,_=>⟨h,by simp[aU,bc]⟩
 | .leaf,.bool,x,cs,k,k',h,_,_,_,_,_=>⟨h,by simp[aU,bc]⟩
 | .leaf,.str,x,cs,k,k',h,_,_,_,_,_=>⟨h,by simp[aU,bc]⟩
 | .rom,.sl e,l,cs,k,k',h,_,_,_,hrom,_=>by
   obtain⟨v,rfl,⟨B,i,hc⟩,_⟩:=h;exact⟨⟨v,rfl,⟨B,i,λb d=>by simp[hrom b (by simpa using hc b d)]⟩,λe=>absurd e (by simp)⟩,by simp[aU,bc]⟩
 | .own,.sl e,l,cs,k,k',h,h3,hk,_,_,_=>by
   obtain⟨v,rfl,F,t,B,i,hc⟩:=h;obtain⟨j,c⟩:=hk k (gh _) (py _);simp only[aqs,aqt]at j c;refine⟨⟨v,rfl,h3,j.trans t,B,i,λb m d=> ?_⟩,by simp[aU,bc]⟩;obtain⟨q1,q2,q3,q4⟩:=hc b m d;exact⟨c b q1,q2,λx r=>by simp[c x (by simpa using q3 x r)],q4⟩
 | .pv,.sl e,l,cs,k,k',h,h3,hk,_,_,_=>by
   obtain⟨v,rfl,F,t,B,i,hc⟩:=h;obtain⟨j,c⟩:=hk k (gh _) (py _);simp only[aqs,aqt]at j c;refine⟨⟨v,rfl,h3,j.trans t,B,i,λb m d=> ?_⟩,by simp[aU,bc]⟩;obtain⟨q1,q2,q3,q4⟩:=hc b m d;exact⟨c b q1,q2,λx r=>by simp[c x (by simpa using q3 x r)],q4⟩
 | .hd,.sl e,l,cs,k,k',h,h3,hk,hh,_,hne=>by
   obtain⟨v,rfl,F,t,B,i,hc⟩:=h;obtain⟨j,c⟩:=hk k (gh _) (py _);simp only[aqs,aqt]at j c;refine⟨⟨v,rfl,h3,j.trans t,B,i,λb m d=> ?_⟩,by simp[aU,bc]⟩;obtain⟨q1,q2,q3,q4⟩:=hc b m d;refine⟨c b q1,q2,λx r=> ?_,q4⟩;rcases ec.1 (q3 x r)with h|h;rw[c x h];simp;exact s_ _ (hh x h)
 | .shr,.sl e,l,cs,k,k',h,_,_,hh,_,hne=>by
   obtain⟨v,rfl,⟨B,i,hc⟩,_⟩:=h;exact⟨⟨v,rfl,⟨B,i,λb d=>hh b (hc b d)⟩,λe=>absurd e hne⟩,by simp[aU,bc]⟩
 | .pair p q,.pair a b,x,cs,k,k',h,h3,hk,hh,hrom,hne=>by
   obtain⟨I,J,rfl,K,H⟩:=h;have n1:=bU p k;have n2:=bU q (aU p k);have n3:=bU p k';rw[cS]at H;obtain⟨N,d1⟩:=LM K h3 (λu z y=>hk u z (by rw[gQ];omega)) hh hrom hne
   obtain⟨S,d2⟩:=LM (k':=aU p k') H (by omega) (λu z y=>by
    have:=hk u (by omega) (by rw[gQ];omega);rw[show aU p k'+(u-aU p k)=k'+(u-k) by omega];exact this) hh hrom hne
   refine⟨⟨I,J,rfl,N,?_⟩,?_⟩;rw[cS];exact S;rw[gQ,gQ];have:=bU q (aU p k');omega
 | .hd,.int _,_,_,_,_,h,_,_,_,_,_| .hd,.bool,_,_,_,_,h,_,_,_,_,_| .hd,.str,_,_,_,_,h,_,_,_,_,_| .hd,.pair _ _,_,_,_,_,h,_,_,_,_,_
 | .rom,.int _,_,_,_,_,h,_,_,_,_,_| .rom,.bool,_,_,_,_,h,_,_,_,_,_| .rom,.str,_,_,_,_,h,_,_,_,_,_| .rom,.pair _ _,_,_,_,_,h,_,_,_,_,_
 | .pv,.int _,_,_,_,_,h,_,_,_,_,_| .pv,.bool,_,_,_,_,h,_,_,_,_,_| .pv,.str,_,_,_,_,h,_,_,_,_,_| .pv,.pair _ _,_,_,_,_,h,_,_,_,_,_
 | .leaf,.sl _,_,_,_,_,h,_,_,_,_,_| .leaf,.pair _ _,_,_,_,_,h,_,_,_,_,_| .own,.int _,_,_,_,_,h,_,_,_,_,_| .own,.bool,_,_,_,_,h,_,_,_,_,_| .own,.str,_,_,_,_,h,_,_,_,_,_| .own,.pair _ _,_,_,_,_,h,_,_,_,_,_
 | .shr,.int _,_,_,_,_,h,_,_,_,_,_| .shr,.bool,_,_,_,_,h,_,_,_,_,_| .shr,.str,_,_,_,_,h,_,_,_,_,_| .shr,.pair _ _,_,_,_,_,h,_,_,_,_,_
 | .pair _ _,.int _,_,_,_,_,h,_,_,_,_,_| .pair _ _,.bool,_,_,_,_,h,_,_,_,_,_| .pair _ _,.str,_,_,_,_,h,_,_,_,_,_| .pair _ _,.sl _,_,_,_,_,h,_,_,_,_,_=>h.elim
end
theorem iG:∀(ps:List PK) (tk:Nat),tk<=cE ps tk
 | [],_=>gh _
 | .val _ p::ps,tk=>M_ (bU p tk) (iG ps _)
 | .io _ p::ps,tk=>M_ (M_ (aqI _) (bU p (tk+1))) (iG ps _)
 | .rd _::ps,tk| .vx _ _::ps,tk=>iG ps tk
theorem wF:∀(ps:List PK) (x:bu (ps.map PK.ty)) (tk:Nat),(cI ps x tk).2=cE ps tk
 | [],_,_=>rfl
 | .val _ p::ps,x,tk=>by simp only[cI,cE];rw[cS];exact wF ps x.2 _
 | .io _ p::ps,x,tk=>by simp only[cI,cE];rw[cS];exact wF ps x.2 _
 | .rd _::ps,x,tk| .vx _ _::ps,x,tk=>by simp only[cI,cE];exact wF ps x.2 _
theorem uu:∀(ps:List PK) (x:bu (ps.map PK.ty)) (tk:Nat),(cI ps x tk).1.length=ps.length
 | [],_,_=>rfl
 | .val _ p::ps,x,tk=>by simp only[cI,aqu];rw[uu ps x.2]
 | .io _ p::ps,x,tk=>by simp only[cI,aqu];rw[uu ps x.2]
 | .rd _::ps,x,tk| .vx _ _::ps,x,tk=>by simp only[cI,aqu];rw[uu ps x.2]
theorem fi:∀ {ps:List PK} {tk:Nat},∀c∈dg ps tk,tk<=c/\c<cE ps tk
 | [],_,c,h=>by simp[dg]at h
 | .val _ p::ps,tk,c,h=>by
   have:=fi (ps:=ps) (tk:=aU p tk) c h;have b:=bU p tk;exact⟨by omega,this.2⟩
 | .io _ p::ps,tk,c,h=>by
   have b:=bU p (tk+1);have h2:=iG ps (aU p (tk+1));simp only[dg,ec]at h;simp only[cE];rcases h with rfl|h;omega;have:=fi (ps:=ps) (tk:=aU p (tk+1)) c h;omega
 | .rd _::ps,tk,c,h| .vx _ _::ps,tk,c,h=>fi (ps:=ps) (tk:=tk) c h
theorem mZ:∀ {ps:List PK} {x:bu (ps.map PK.ty)} {tk:Nat},∀sv∈(cI ps x tk).1,
 (∀c∈sv.sc,(c=1\/c=3)\/(tk<=c/\c<cE ps tk/\c∉dg ps tk)\/c∈UM ps)/\(∀c∈sv.bt,c∈dg ps tk)/\sv.rt=[]
 | .val τ p::ps,x,tk,sv,h=>by
   have q:=bU p tk;have r:=iG ps (aU p tk);simp only[cI,ec]at h;rcases h with rfl|h
   ·refine⟨λc hc=> ?_,by simp[SV.bt],rfl⟩;rcases qx c hc with h|h|h
    ·left;left;simpa using h
    rotate_left
    ·left;right;exact h
    ·right;left;simp only[cE,dg];exact⟨h.1,by omega,λb=>by have:=fi (ps:=ps) (tk:=aU p tk) c b;omega⟩
   ·rw[cS]at h;obtain⟨d,i,j⟩:=mZ sv h;refine⟨λc hc=> ?_,i,j⟩;rcases d c hc with h|⟨s,k,m⟩|h
    ·exact .inl h
    ·exact .inr (.inl ⟨by omega,k,m⟩)
    ·exact .inr (.inr h)
 | .io τ p::ps,x,tk,sv,h=>by
   have q:=bU p (tk+1);have r:=iG ps (aU p (tk+1));simp only[cI,ec]at h;rcases h with rfl|h
   ·refine⟨λc hc=> ?_,by simp[SV.bt,dg],rfl⟩;rcases qx c hc with h|h|h
    ·left;left;simpa using h
    rotate_left
    ·left;right;exact h
    ·right;left;simp only[cE,dg,ec,not_or];exact⟨by omega,by omega,by omega,λb=>by have:=fi (ps:=ps) (tk:=aU p (tk+1)) c b;omega⟩
   ·rw[cS]at h;obtain⟨d,i,j⟩:=mZ sv h;refine⟨λc hc=> ?_,λc hc=>by simp[dg,i c hc],j⟩;rcases d c hc with h|⟨s,k,m⟩|h
    ·exact .inl h
    ·refine .inr (.inl ⟨by omega,k,?_⟩);simp only[dg,ec,not_or];exact⟨by omega,m⟩
    ·exact .inr (.inr h)
 | .rd τ::ps,x,tk,sv,h=>by
   simp only[cI,ec]at h;rcases h with rfl|h
   ·refine⟨λc hc=> ?_,by simp[SV.bt],rfl⟩;simp only[SV.sc,ev]at hc;rcases hc with hc|hc
    ·left;left;simpa using hc
    ·rw[xg]at hc;left;left;simpa[M.aJ]using qY _ _ c hc
   ·obtain⟨d,i,j⟩:=mZ sv h;exact⟨d,i,j⟩
 | .vx e l::ps,x,tk,sv,h=>by
   simp only[cI,ec]at h;rcases h with rfl|h
   ·refine⟨λc hc=> ?_,by simp[SV.bt],rfl⟩;simp only[SV.sc,Sh.aJ,M.aJ,ec]at hc;rcases hc with hc|hc
    ·exact .inl (.inl hc)
    ·exact .inr (.inr (by simp[UM,hc]))
   ·obtain⟨d,i,j⟩:=mZ sv h;exact⟨λc hc=>(d c hc).imp id (Or.imp id λh=>by simp[UM,h]),i,j⟩
theorem wx:∀ {ps:List PK} {x:bu (ps.map PK.ty)} {tk:Nat} {i j t:Nat} {v b:TV},
 (cI ps x tk).1.getD i .no= .box t v->(cI ps x tk).1.getD j .no= .box t b->i=j
 | [],_,_,_,_,_,_,_,h,_=>by simp[cI]at h
 | .val τ p::ps,x,tk,i,j,t,v,b,h,h'=>by
   simp only[cI]at h h';cases i with
   |zero=>simp at h
   |succ i=>
    cases j with
    |zero=>simp at h'
    |succ j=>
     simp only[J5]at h h';rw[wx h h']
 | .io τ p::ps,x,tk,i,j,t,v,b,h,h'=>by
   have n1:=bU p (tk+1)
   have key:∀ {n:Nat} {u:TV},(cI ps x.2 (aU p (tk+1))).1.getD n .no≠ .box tk u:=by
    intro n u e
    have c:SV.box tk u∈(cI ps x.2 (aU p (tk+1))).1:=by
     rw[ew]at e;cases d:(cI ps x.2 (aU p (tk+1))).1[n]? with
     |none=>rw[d]at e;simp at e
     |some z=>rw[d]at e;simp at e;rw[<-e];exact apR d
    have:=fi tk ((mZ _ c).2.1 tk (by simp[SV.bt]));omega
   simp only[cI]at h h';rw[cS]at h h';cases i with
   |zero=>
    cases j with
    |zero=>rfl
    |succ j=>
     simp only[G7,SV.box.injEq]at h;simp only[J5]at h';rw[<-h.1]at h';exact absurd h' key
   |succ i=>
    cases j with
    |zero=>
     simp only[G7,SV.box.injEq]at h';simp only[J5]at h;rw[<-h'.1]at h;exact absurd h key
    |succ j=>
     simp only[J5]at h h';rw[wx h h']
 | .rd τ::ps,x,tk,i,j,t,v,b,h,h'=>by
   simp only[cI]at h h';cases i with
   |zero=>simp at h
   |succ i=>
    cases j with
    |zero=>simp at h'
    |succ j=>
     simp only[J5]at h h';rw[wx h h']
 | .vx e l::ps,x,tk,i,j,t,v,b,h,h'=>by
   simp only[cI]at h h';cases i with
   |zero=>simp at h
   |succ i=>
    cases j with
    |zero=>simp at h'
    |succ j=>
     simp only[J5]at h h';rw[wx h h']
structure Pd(w:World)(G:Gh)(L:List SV)(vs:List Value)(nt:Nat):Prop where
 len:vs.length=L.length
 slots:∀i,cU w G (L.getD i .no) (vs.getD i undef)
 wc:∀i,bM (λu=>u<nt) G (L.getD i .no)
 uni:∀i j t v v',L.getD i .no= .box t v->L.getD j .no= .box t v'->i=j
 colU:∀b,0<G.col b->G.col b<nt/\b<w.heap.size
 fresh:∀b,4<=G.col b->∃c el,w.heap[b]?=some (.cells c el (0,0))
 two:G.bx 2=false/\G.bx 3=false
 ent:∀b,G.col b≠2
section
variable{P:Program}{C:Cx}{w0:World}{c0:C0}{U:Nat->Prop}{E:Env}{a:Act}{w:World}{G:Gh}{ops:List Oper}{g:Option (Nat×Bool)}
theorem mX{sm:Nat->Nat}:∀ {p:Pt} {τ:Ty} {x:τ.den} {sh:Sh} {cs:List Value} {tk:Nat},bJ w G τ x sh cs->∀c k,(c,k)∈fE sm p sh tk->
 c∈sh.aJ/\((k=sm c/\c∈Oj p sh)\/(4<=c/\tk<=k/\k<aU p tk)\/(c=3/\k=3))
 | .leaf,_,_,_,_,_,_,c,k,d=>by simp[fE]at d
 | .own,.sl e,l,.sl m,cs,tk,h,c,k,d=>by
   simp only[fE,q_,ao0]at d;obtain⟨s,hc,rfl,rfl⟩:=d;cases i:m.own with
   |none=>rw[i]at hc;simp at hc
   |some J=>
    rw[i]at hc;have j:=Sh.nN (sh:= .sl m) h i _ hc;exact⟨M.k9 i _ hc,.inr (.inl ⟨j,gh _,py _⟩)⟩
 | .shr,.sl e,l,.sl m,cs,tk,h,c,k,d=>by
   simp only[fE,q_,ao0]at d;obtain⟨s,hc,rfl,rfl⟩:=d;exact⟨hc,.inl ⟨rfl,hc⟩⟩
 | .rom,_,_,.sl m,cs,tk,h,c,k,d=>by
   simp only[fE,q_,apM,ao0,b_]at d;obtain⟨s,⟨hc,rfl⟩,rfl,rfl⟩:=d;exact⟨hc,.inr (.inr ⟨rfl,rfl⟩)⟩
 | .pv,.sl e,l,.sl m,cs,tk,h,c,k,d=>by
   simp only[fE,q_,ao0]at d;obtain⟨s,hc,rfl,rfl⟩:=d;cases i:m.E6 with
   |none=>rw[i]at hc;simp at hc
   |some J=>
    rw[i]at hc;simp only[apJ]at hc;rcases M.TS i with⟨t,u,F,rfl,v,y⟩|⟨rfl,rfl⟩;obtain⟨_,_,j,_⟩:=h;rcases(y _).1 hc with rfl|hc;exact⟨by simp[Sh.aJ,M.aJ],.inr (.inl ⟨j,gh _,py _⟩)⟩;exact⟨by simp[Sh.aJ,M.aJ,hc],.inr (.inl ⟨v _ hc,gh _,py _⟩)⟩;cases hc
 | .hd,.sl e,l,.sl (.row t u F),cs,tk,h,c,k,d=>by
   obtain⟨_,_,j,_⟩:=h;simp only[fE,ec,ao0,q_,apM]at d;rcases d with⟨rfl,rfl⟩|⟨s,⟨hc,_⟩,rfl,rfl⟩;exact⟨by simp[Sh.aJ,M.aJ],.inr (.inl ⟨j,gh _,py _⟩)⟩;exact⟨by simp[Sh.aJ,M.aJ,hc],.inl ⟨rfl,hc⟩⟩
 | .pair p q,.pair a b,x,.pair s1 s2,cs,tk,h,c,k,d=>by
   obtain⟨c1,c2,rfl,H,I⟩:=h;have n1:=bU p tk;have n2:=bU q (aU p tk);simp only[fE,ev]at d;rw[gQ];rcases d with d|d;obtain⟨z,B⟩:=mX H c k d;exact⟨by simp[Sh.aJ,z],B.imp (λh=>⟨h.1,ap6 _ h.2⟩) (λr=>r.imp (λ⟨q1,q2,q3⟩=>⟨q1,q2,by omega⟩) id)⟩;obtain⟨z,B⟩:=mX I c k d;exact⟨by simp[Sh.aJ,z],B.imp (λh=>⟨h.1,Q' _ h.2⟩) (λr=>r.imp (λ⟨q1,q2,q3⟩=>⟨q1,by have:(bc p tk []).2=aU p tk:=rfl;omega,q3⟩) id)⟩
 | .rom,_,_,.leaf,_,_,_,c,k,d| .rom,_,_,.pair _ _,_,_,_,c,k,d
 | .pv,_,_,.leaf,_,_,_,c,k,d| .pv,_,_,.pair _ _,_,_,_,c,k,d| .hd,_,_,.leaf,_,_,_,c,k,d| .hd,_,_,.pair _ _,_,_,_,c,k,d| .hd,_,_,.sl (.sha _),_,_,_,c,k,d| .hd,_,_,.sl .dead,_,_,_,c,k,d
 | .own,_,_,.leaf,_,_,_,c,k,d| .own,_,_,.pair _ _,_,_,_,c,k,d| .shr,_,_,.leaf,_,_,_,c,k,d| .shr,_,_,.pair _ _,_,_,_,c,k,d
 | .pair _ _,_,_,.leaf,_,_,_,c,k,d| .pair _ _,_,_,.sl _,_,_,_,c,k,d=>by simp[fE]at d
 | .pv,.int _,_,.sl _,_,_,h,_,_,_| .pv,.bool,_,.sl _,_,_,h,_,_,_| .pv,.str,_,.sl _,_,_,h,_,_,_| .pv,.pair _ _,_,.sl _,_,_,h,_,_,_
 | .hd,.int _,_,.sl (.row _ _ _),_,_,h,_,_,_| .hd,.bool,_,.sl (.row _ _ _),_,_,h,_,_,_| .hd,.str,_,.sl (.row _ _ _),_,_,h,_,_,_| .hd,.pair _ _,_,.sl (.row _ _ _),_,_,h,_,_,_
 | .own,.int _,_,.sl _,_,_,h,_,_,_| .own,.bool,_,.sl _,_,_,h,_,_,_| .own,.str,_,.sl _,_,_,h,_,_,_| .own,.pair _ _,_,.sl _,_,_,h,_,_,_
 | .shr,.int _,_,.sl _,_,_,h,_,_,_| .shr,.bool,_,.sl _,_,_,h,_,_,_| .shr,.str,_,.sl _,_,_,h,_,_,_| .shr,.pair _ _,_,.sl _,_,_,h,_,_,_
 | .pair _ _,.int _,_,.pair _ _,_,_,h,_,_,_| .pair _ _,.bool,_,.pair _ _,_,_,h,_,_,_| .pair _ _,.str,_,.pair _ _,_,_,h,_,_,_| .pair _ _,.sl _,_,.pair _ _,_,_,h,_,_,_=>h.elim
def zO(e:Inv w0 c0 U E a w G){sv:SV}{mv:Value}{t s:Nat}{v:TV}(h:rB E.rd sv=some (t,s,v))(hs:cU w G sv mv):
 E.s.getD s .no= .box t v/\∃b c el,mv= .pointer (some ⟨b,0,none⟩)/\G.hdr t=mv/\4<=t/\G.col b=t/\w.heap[b]?=some (.cells c el (0,0))/\bJ w G v.τ v.x v.sh c.toList/\
  (∀c∈v.sh.aJ,Good U G c)/\U t/\G.bx t=true:=by
 unfold rB at h;split at h;rename_i m τ;rw[B_]at h;obtain⟨r,p,h⟩:=h;simp only[ao0]at h;obtain⟨rfl,rfl,rfl⟩:=h;obtain⟨j,b,c,el,k,q,u,y,z,B⟩:=e.box p;obtain⟨bk',_,d,l⟩:=hs;rw[k]at d;simp only[Value.pointer.injEq,aoW,Addr.mk.injEq,and_true]at d;subst d;have i:=e.bt r.1 m (by rw[j];simp[SV.bt]);exact⟨j,b,c,el,l,k.trans l.symm,q,u,y,z,B,i.2.1,i.2.2⟩;cases h
def aj0(r0:List (Nat×Nat))(l:List Nat)(c:Nat):UH r0 l c∈1::l:=by
 unfold UH;split;split;rename_i h;simp only[po,b_]at h;exact s_ _ h;simp;simp
theorem Ky:∀ {l:List (Nat×Nat)} {a b:Nat},l.lookup a=some b->(a,b)∈l
 |(x,y)::l,a,b,h=>by
  simp only[aqJ]at h;split at h;rename_i e;simp only[beq_iff_eq]at e;cases h;simp[e];exact s_ _ (Ky h)
def akp(r0:List (Nat×Nat))(l:List Nat)(c:Nat):UH r0 l c=1\/((c,UH r0 l c)∈r0/\UH r0 l c∈l):=by
 unfold UH;split;rename_i k b;split;rename_i h;simp only[po,b_]at h;exact .inr ⟨Ky b,h⟩;exact .inl rfl;exact .inl rfl
def WH(U:Nat->Prop)(G:Gh)(ps:List PK)(tk:Nat)(bs:List (Nat×Nat))(c k:Nat):Prop:=
 (k=1/\0<c/\U c/\(G.bx c=false\/M8 ps=true))\/(tk<=k/\k<cE ps tk/\4<=c/\((Good U G c/\k∉dg ps tk)\/(k∈dg ps tk/\U c/\G.bx c=true/\∃s,(c,s)∈bs)))\/(c=3/\k=3)
theorem uH(hI:Inv w0 c0 U E a w G):∀ {ps:List PK} {as:List SV} {vals:List Value} {tk:Nat} {r0:List (Nat×Nat)} {xs:bu (ps.map PK.ty)} {B bs:List (Nat×Nat)},
 bW E.rd ps as tk r0=some (xs,B,bs)->(∀i,cU w G (as.getD i .no) (vals.getD i undef)/\bM U G (as.getD i .no))->4<=tk->
 as.length=ps.length/\
 (∃H:Nat->Value,∀F:Gh,(∀c k,(c,k)∈B->∀b,G.col b=c->F.col b=k)->(∀u,tk<=u->u<cE ps tk->F.hdr u=H u)->
  ∀i,cU w F ((cI ps xs tk).1.getD i .no) (vals.getD i undef))/\
 (∀c k,(c,k)∈B->WH U G ps tk bs c k\/((c,k)∈r0/\k≠1))
 | [],[],vals,tk,r0,xs,B,bs,h,hs,h3=>by
   simp only[bW,aoW]at h;obtain⟨rfl,rfl,rfl⟩:=h;exact⟨rfl,⟨λ_=>undef,λF _ _ i=>by simp[cI,cU]⟩,by simp⟩
 | .val τ p::ps,.d v::as,vals,tk,r0,xs,B,bs,h,hs,h3=>by
   simp only[bW]at h;split at h
   ·rename_i x h0 K b0 hx hg;split at h
    ·rename_i N;simp only[aoW,ao0]at h;obtain⟨rfl,rfl,rfl⟩:=h;have n1:=bU p tk;have n2:=iG ps (aU p tk);have z:=hs 0;simp only[G7]at z;obtain⟨⟨cs,W,S⟩,hm⟩:=z;have e:=fG hx;rw[e]at W S N hm|-;obtain⟨hl,⟨H2,k2⟩,hr⟩:=uH hI (vals:=vals.drop 1) hg (λi=>by have:=hs (i+1);simpa[ew,i_]using this) (by exact M_ h3 n1);obtain⟨H1,k1⟩:=ot (sm:=λ_=>1) (hs:=[1]) (tk:=tk) N S h3 (by simp) (by simp);refine⟨by simp[hl],⟨λu=>if u<aU p tk then H1 u else H2 u,λF J Y i=> ?_⟩,λc k j=> ?_⟩
     ·cases i with
      |zero=>
       simp only[cI,G7];exact⟨cs,W,k1 F (λc k j=>J c k (ap6 _ j)) (λu hu y=>(Y u hu (by simp only[cE];omega)).trans (an y))⟩
      |succ i=>
       simp only[cI,J5];rw[cS];have:=k2 F (λc k j=>J c k (Q' _ j)) (λu hu y=>(Y u (by have:(bc p tk []).2=aU p tk:=rfl;omega) y).trans (a_ (by have:(bc p tk []).2=aU p tk:=rfl;omega))) i;have e0:(bc p tk []).2=aU p tk:=rfl;rw[e0]at this;simpa[ew,i_]using this
     ·rcases ev.1 j with j|j
      ·obtain⟨r1,q⟩:=mX S c k j;have m:Good U G c:=hm.1 c r1;left;rcases q with⟨q,_⟩|⟨q,r3,r4⟩|q
       ·exact .inl ⟨q,m.1,m.2.1,.inl m.2.2⟩
       ·refine .inr (.inl ⟨r3,by simp only[cE];omega,q,.inl ⟨m,λr=> ?_⟩⟩);have:=fi (ps:=ps) (tk:=aU p tk) k r;omega
       ·exact .inr (.inr q)
      ·rcases hr c k j with(h|⟨q1,q2,q3,q4⟩|h)|⟨h,I⟩
       ·exact .inl (.inl h)
       ·exact .inl (.inr (.inl ⟨M_ n1 q1,q2,q3,q4⟩))
       ·exact .inl (.inr (.inr h))
       ·rcases ev.1 h with h|h
        ·exact .inr ⟨h,I⟩
        ·obtain⟨r1,q⟩:=mX S c k h;have m:Good U G c:=hm.1 c r1;left;rcases q with⟨q,_⟩|⟨q,r3,r4⟩|q
         ·exact absurd q I
         ·refine .inr (.inl ⟨r3,by simp only[cE];omega,q,.inl ⟨m,λr=> ?_⟩⟩);have:=fi (ps:=ps) (tk:=aU p tk) k r;omega
         ·exact .inr (.inr q)
    ·cases h
   ·cases h
 | .io τ p::ps,sv::as,vals,tk,r0,xs,B,bs,h,hs,h3=>by
   simp only[bW]at h;split at h
   ·rename_i t s v hb;split at h
    ·rename_i x h0 K b0 hx hg;split at h
     ·rename_i N;simp only[aoW,ao0]at h;obtain⟨rfl,rfl,rfl⟩:=h;have n1:=bU p (tk+1);have n2:=iG ps (aU p (tk+1));have z:=hs 0;simp only[G7]at z;obtain⟨o0,bk,c,el,b1,b2,b3,b4,b5,b6,b7,b8,b9⟩:=zO hI hb z.1;have e:=fG hx;rw[e]at N b6 b7|-;obtain⟨hl,⟨H2,k2⟩,hr⟩:=uH hI (vals:=vals.drop 1) hg (λi=>by have:=hs (i+1);simpa[ew,i_]using this) (by have:(bc p (tk+1) []).2=aU p (tk+1):=rfl;omega);obtain⟨H1,k1⟩:=ot (sm:=λ_=>1) (hs:=[1]) (tk:=tk+1) N b6 (by omega) (by simp) (by simp);refine⟨by simp[hl],⟨λu=>if u=tk then vals.getD 0 undef else if u<aU p (tk+1)then H1 u else H2 u,λF J Y i=> ?_⟩,λc k j=> ?_⟩
      ·cases i with
       |zero=>
        simp only[cI,G7];refine⟨bk,c,el,b1,h3,?_,J t tk (by simp) bk b4,b5,k1 F (λc k j=>J c k (by simp[j])) (λu hu y=> ?_)⟩
        ·exact(Y tk (gh _) (by simp only[cE];omega)).trans (an rfl)
        ·exact((Y u (by omega) (by simp only[cE];omega)).trans (a_ (by omega))).trans (an y)
       |succ i=>
        simp only[cI,J5];rw[cS];have e0:(bc p (tk+1) []).2=aU p (tk+1):=rfl;have:=k2 F (λc k j=>J c k (by simp[j])) (λu hu y=>((Y u (by omega) y).trans (a_ (by omega))).trans (a_ (by omega))) i;rw[e0]at this;simpa[ew,i_]using this
      ·have key:(c,k)=(t,tk)\/(c,k)∈fE (λ_=>1) p v.sh (tk+1)->WH U G (.io τ p::ps) tk ((t,s)::b0) c k:=by
        intro j;rcases j with j|j
        ·simp only[ao0]at j;obtain⟨rfl,rfl⟩:=j;exact .inr (.inl ⟨gh _,by simp only[cE];omega,b3,.inr ⟨by simp[dg],b8,b9,s,by simp⟩⟩)
        ·obtain⟨r1,q⟩:=mX b6 c k j;have m:Good U G c:=b7 c r1;rcases q with⟨q,_⟩|⟨q,r3,r4⟩|q
         ·exact .inl ⟨q,m.1,m.2.1,.inl m.2.2⟩
         ·refine .inr (.inl ⟨by omega,by simp only[cE];omega,q,.inl ⟨m,λr=> ?_⟩⟩);simp only[dg,ec]at r;rcases r with r|r
          ·omega
          ·have:=fi (ps:=ps) (tk:=aU p (tk+1)) k r;omega
         ·exact .inr (.inr q)
       rw[aqM,ec,ev,<-or_assoc]at j;rcases j with j|j
       ·exact .inl (key j)
       ·rcases hr c k j with(h|⟨q1,q2,q3,q4⟩|h)|⟨h,I⟩
        ·exact .inl (.inl h)
        ·have e0:(bc p (tk+1) []).2=aU p (tk+1):=rfl;refine .inl (.inr (.inl ⟨by omega,q2,q3,?_⟩));rcases q4 with⟨q4,q5⟩|⟨q4,q5,q6,s',q7⟩
         ·refine .inl ⟨q4,λr=> ?_⟩;simp only[dg,ec]at r;rcases r with r|r
          ·omega
          ·exact q5 r
         ·exact .inr ⟨by simp only[dg];exact s_ _ q4,q5,q6,s',by simp[q7]⟩
        ·exact .inl (.inr (.inr h))
        ·rw[ev,ec]at h;rcases h with h|h
         ·exact .inr ⟨h,I⟩
         ·exact .inl (key h)
     ·cases h
    ·cases h
   ·cases h
 | .rd τ::ps,sv::as,vals,tk,r0,xs,B,bs,h,hs,h3=>by
   simp only[bW]at h;split at h
   ·rename_i t s v hb;split at h
    ·rename_i x h0 K b0 hx hg;split at h
     ·rename_i N;simp only[aoW,ao0]at h;obtain⟨rfl,rfl,rfl⟩:=h;have z:=hs 0;simp only[G7]at z;obtain⟨o0,bk,c,el,b1,b2,b3,b4,b5,b6,b7,b8,b9⟩:=zO hI hb z.1;have e:=fG hx;rw[e]at N b6 b7|-;obtain⟨hl,⟨H2,k2⟩,hr⟩:=uH hI (vals:=vals.drop 1) hg (λi=>by have:=hs (i+1);simpa[ew,i_]using this) h3;obtain⟨H1,k1⟩:=ot (sm:=λ_=>1) (hs:=[1]) (tk:=tk) N b6 (by omega) (by simp) (by simp);refine⟨by simp[hl],⟨H2,λF J Y i=> ?_⟩,λc k j=> ?_⟩
      ·cases i with
       |zero=>
        simp only[cI,G7];have S:=k1 F (λc k j=>J c k (by simp[j])) (λu hu y=>by rw[Nr]at y;omega);have hlen:c.toList.length=τ.sz:=bJ.len S;refine⟨bk,0,c,el,(0,0),b1,b5,by simp only[Array.length_toList]at hlen;simp[hlen],?_,?_⟩
        ·simp[J t 1 (by simp) bk b4]
        ·simp only[aqh];rw[apN (Nat.le_of_eq hlen)];exact S
       |succ i=>
        simp only[cI,J5];have:=k2 F (λc k j=>J c k (by simp[j])) (λu hu y=>Y u hu y) i;simpa[ew,i_]using this
      ·rw[aqM,ec,ev]at j;rcases j with j|j|j
       ·simp only[ao0]at j;obtain⟨rfl,rfl⟩:=j;exact .inl (.inl ⟨rfl,by omega,b8,.inr rfl⟩)
       ·obtain⟨r1,q⟩:=mX b6 c k j;have m:Good U G c:=b7 c r1;rw[Nr]at q;rcases q with⟨q,_⟩|⟨q,r3,r4⟩|q
        ·exact .inl (.inl ⟨q,m.1,m.2.1,.inr rfl⟩)
        ·omega
        ·exact .inl (.inr (.inr q))
       ·rcases hr c k j with(h|⟨q1,q2,q3,q4⟩|h)|h
        ·exact .inl (.inl ⟨h.1,h.2.1,h.2.2.1,.inr rfl⟩)
        ·exact .inl (.inr (.inl ⟨q1,q2,q3,q4⟩))
        ·exact .inl (.inr (.inr h))
        ·exact .inr h
     ·cases h
    ·cases h
   ·cases h
 | .vx e l::ps,.d v::as,vals,tk,r0,xs,B,bs,h,hs,h3=>by
   simp only[bW]at h;split at h
   ·rename_i x h0 K b0 hx hg;split at h
    ·rename_i N;simp only[aoW,ao0]at h;obtain⟨rfl,rfl,rfl⟩:=h;have z:=hs 0;simp only[G7]at z;obtain⟨⟨cs,W,S⟩,hm⟩:=z;have e:=fG hx;rw[e]at W S N hm|-;obtain⟨hl,⟨H2,k2⟩,hr⟩:=uH hI (vals:=vals.drop 1) hg (λi=>by have:=hs (i+1);simpa[ew,i_]using this) h3;obtain⟨H1,k1⟩:=ot (sm:=UH r0 l) (hs:=1::l) (tk:=tk) N S h3 (λc _=>aj0 r0 l c) (by simp);refine⟨by simp[hl],⟨H2,λF J Y i=> ?_⟩,λc k j=> ?_⟩
     ·cases i with
      |zero=>
       simp only[cI,G7]
       exact⟨cs,W,k1 F (λc k j=>J c k (ap6 _ j)) (λu hu y=>by
        have:aU .shr tk=tk:=rfl;omega)⟩
      |succ i=>
       simp only[cI,J5];have:=k2 F (λc k j=>J c k (Q' _ j)) (λu hu y=>Y u hu y) i;simpa[ew,i_]using this
     ·rcases ev.1 j with j|j
      ·obtain⟨r1,q⟩:=mX S c k j;have m:Good U G c:=hm.1 c r1;rcases q with⟨q,_⟩|⟨q,r3,r4⟩|q;rotate_left 2
       ·exact .inl (.inr (.inr q))
       ·rcases akp r0 l c with h|⟨h,h1⟩
        ·exact .inl (.inl ⟨q.trans h,m.1,m.2.1,.inl m.2.2⟩)
        ·rw[<-q]at h h1;by_cases I:k=1
         ·exact .inl (.inl ⟨I,m.1,m.2.1,.inl m.2.2⟩)
         ·exact .inr ⟨h,I⟩
       ·have:aU .shr tk=tk:=rfl;omega
      ·rcases hr c k j with(h|⟨q1,q2,q3,q4⟩|h)|h
       ·exact .inl (.inl h)
       ·exact .inl (.inr (.inl ⟨q1,q2,q3,q4⟩))
       ·exact .inl (.inr (.inr h))
       ·exact .inr h
    ·cases h
   ·cases h
 | [],_::_,_,_,_,_,_,_,h,_,_| .val _ _::_,[],_,_,_,_,_,_,h,_,_| .io _ _::_,[],_,_,_,_,_,_,h,_,_| .rd _::_,[],_,_,_,_,_,_,h,_,_| .vx _ _::_,[],_,_,_,_,_,_,h,_,_=>by simp[bW]at h
 | .vx _ _::_,.no::_,_,_,_,_,_,_,h,_,_| .vx _ _::_,.box _ _::_,_,_,_,_,_,_,h,_,_| .vx _ _::_,.ptr ..::_,_,_,_,_,_,_,h,_,_| .vx _ _::_,.ept ..::_,_,_,_,_,_,_,h,_,_
 | .vx _ _::_,.rdp ..::_,_,_,_,_,_,_,h,_,_| .vx _ _::_,.tup _::_,_,_,_,_,_,_,h,_,_| .vx _ _::_,.g ..::_,_,_,_,_,_,_,h,_,_=>by simp[bW]at h
 | .val _ _::_,.no::_,_,_,_,_,_,_,h,_,_| .val _ _::_,.box _ _::_,_,_,_,_,_,_,h,_,_| .val _ _::_,.ptr ..::_,_,_,_,_,_,_,h,_,_| .val _ _::_,.ept ..::_,_,_,_,_,_,_,h,_,_
 | .val _ _::_,.rdp ..::_,_,_,_,_,_,_,h,_,_| .val _ _::_,.tup _::_,_,_,_,_,_,_,h,_,_| .val _ _::_,.g ..::_,_,_,_,_,_,_,h,_,_=>by simp[bW]at h
end
theorem iP:∀ {l:List (Nat×Nat)} {a b:Nat},l.lookup a=some b->(a,b)∈l
 | [],_,_,h=>by simp[aqJ]at h
 |(x,y)::l,a,b,h=>by
  simp only[aqJ]at h;split at h;rename_i e;simp only[beq_iff_eq]at e;simp only[aoW]at h;subst e h;simp;exact s_ _ (iP h)
def Eh{r:List (Nat×Nat)}(h:I7 r=true){c k:Nat}(hc:(c,k)∈r):r.lookup c=some k:=by
 simp only[I7,C',beq_iff_eq]at h;exact h (c,k) hc
def fW:List PK->Nat->Nat->List (Nat×Nat)
 | [],_,_=>[]
 | .val _ p::ps,i,te=>fW ps (i+1) (aU p te)
 | .io _ p::ps,i,te=>(te,i)::fW ps (i+1) (aU p (te+1))
 | .rd _::ps,i,te| .vx _ _::ps,i,te=>fW ps (i+1) te
def Aa:List Value->Value
 | [v]=>v
 |l=> .tuple l.toArray
structure BX(con:wj)(w:World)(G0:Gh)(args:List Value)(y:bu (con.rs.map RK.ty++bR con.ps))(mv:Value)(w':World)(G':Gh)(vs:List Value)(nt:Nat):Prop where
 val:mv=Aa vs
 len:vs.length=con.rs.length
 res:∀i,cU w' G' ((bz con.rs (bR con.ps) y (cE con.ps 4) [2,1]).1.getD i .no) (vs.getD i undef)
 ios:∀t i v,(t,i,v)∈dK [2,1] con.ps (bz con.rs (bR con.ps) y (cE con.ps 4) [2,1]).2.1 (fW con.ps 0 4) (bz con.rs (bR con.ps) y (cE con.ps 4) [2,1]).2.2->
  cU w' G' (.box t v) (args.getD i undef)
 frame:∀b,b<w.heap.size->G0.col b<4->G'.col b=G0.col b/\w'.heap[b]?=w.heap[b]?
 one:∀b,G'.col b=1\/G'.col b=3->b<w.heap.size/\G0.col b=G'.col b
 size:w.heap.size<=w'.heap.size
 os:w'.os=w.os
 tape:w'.tape=w.tape
 output:w'.output=w.output
 lt:∀b,0<G'.col b->b<w'.heap.size
 fresh:∀b,4<=G'.col b->∃c el,w'.heap[b]?=some (.cells c el (0,0))
 kept:∀q∈con.kp,∀te i τ,(fW con.ps 0 4)[q.1]?=some (te,i)->(bR con.ps)[q.1]?=some τ->∀bk c el c' el',args.getD i undef= .pointer (some ⟨bk,0,none⟩)->
  w.heap[bk]?=some (.cells c el (0,0))->w'.heap[bk]?=some (.cells c' el' (0,0))->c'.toList[τ.off q.2]?=c.toList[τ.off q.2]?
def Ts(P:Program)(f:FuncId)(args:Array Value)(w:World)(R:Value->World->Prop):Prop:=
 match(callFunc f args).run P w with
 | .ok (.enter f' args') w1=>Calls P f' args' w1 (λe w'=>∃v,e= .returned v/\R v w')
 | .ok (.value v) w1=>R v w1
 |_=>False
def vd(P:Program)(f:FuncId)(b:wj):Prop:=
 ∀(w:World) (c:Gh) (args:List Value) (x:bu (b.ps.map PK.ty)) (y:bu (b.rs.map RK.ty++bR b.ps)),b.F x=some y->
  Pd w c (cI b.ps x 4).1 args (cE b.ps 4)->Ts P f args.toArray w (λmv w'=>∃G' d e,BX b w c args y mv w' G' d e)
section
variable{P:Program}{C:Cx}{w0:World}{c0:C0}{U:Nat->Prop}{E:Env}{a:Act}{w:World}{G:Gh}{ops:List Oper}{g:Option (Nat×Bool)}
def aiR(q:Inv w0 c0 U E a w G){ps:List PK}{as:List SV}{vals:List Value}{xs:bu (ps.map PK.ty)}{d bs:List (Nat×Nat)}
 (h:bW E.rd ps as 4 []=some (xs,d,bs)) (hs:∀i,cU w G (as.getD i .no) (vals.getD i undef)/\bM U G (as.getD i .no)) (hlen:vals.length=as.length) (I:I7 d=true)
 (y:∀c∈UM ps,4<=c/\c<cE ps 4/\c∉dg ps 4):
 ∃B:Gh,Pd w B (cI ps xs 4).1 vals (cE ps 4)/\(∀b,B.col b=(d.lookup (G.col b)).getD 0):=by
 obtain⟨K,⟨H,k⟩,s⟩:=uH q h hs (gh _);have l:∀c k,(c,k)∈d->WH U G ps 4 bs c k:=λc k h=>(s c k h).resolve_right (by simp);have hnt:=iG ps 4;refine⟨⟨λb=>(d.lookup (G.col b)).getD 0,H,λu=>(dg ps 4).contains u⟩,⟨?_,?_,?_,?_,?_,?_,?_,?_⟩,λb=>rfl⟩;rw[uu,<-K,hlen];intro i;refine k _ (λc k x b e=> ?_) (λu _ _=>rfl) i;simp only[e,Eh I x,apJ];intro i;by_cases J:i<(cI ps xs 4).1.length
 have r:(cI ps xs 4).1.getD i .no∈(cI ps xs 4).1:=by
  rw[ew,Q_ J];simp
 obtain⟨N,p,S⟩:=mZ _ r;refine⟨λc hc=> ?_,λc hc=> ?_,by rw[S];simp⟩;rcases N c hc with zM|⟨q1,q2,q3⟩|z;refine⟨by omega,by omega,?_⟩;simp only[po,d_];intro l;have:=fi c l;omega;exact⟨by omega,q2,by simp only[po,d_];exact q3⟩;obtain⟨q1,q2,q3⟩:=y c z;exact⟨by omega,q2,by simp only[po,d_];exact q3⟩;have:=fi c (p c hc);exact⟨by omega,this.2,by simp only[po,b_];exact p c hc⟩;rw[ew,apY (by omega)];simp[bM,SV.sc,SV.bt,SV.rt];intro i j t v v' h F;exact wx h F;intro b e;simp only at e|-;cases m:d.lookup (G.col b)with
 |none=>rw[m]at e;simp at e
 |some k=>
  simp only[apJ];rcases l _ _ (iP m)with⟨rfl,W⟩|⟨q1,q2,q3,_⟩|⟨q1,q2⟩;exact⟨by omega,q.lt b W.1⟩;exact⟨q2,q.lt b (by omega)⟩;exact⟨by omega,q.lt b (by omega)⟩
 intro b e;simp only at e;cases m:d.lookup (G.col b)with
 |none=>rw[m]at e;simp at e
 |some k=>
  rw[m]at e;simp only[apJ]at e;rcases l _ _ (iP m)with⟨rfl,_⟩|⟨q1,q2,q3,_⟩|⟨q1,q2⟩;omega;exact q.fresh b q3;omega
 simp only[po,d_];exact⟨λp=>by have:=fi 2 p;omega,λp=>by have:=fi 3 p;omega⟩;intro b;simp only;cases m:d.lookup (G.col b)with
 |none=>simp
 |some k=>
  simp only[apJ];rcases l _ _ (iP m)with⟨rfl,_⟩|⟨q1,q2,q3,_⟩|⟨q1,q2⟩<;>omega
end
theorem fp:∀(p:Pt) (k d:Nat),aU p (k+d)=aU p k+d
 | .leaf,_,_| .shr,_,_| .rom,_,_=>rfl
 | .own,k,d| .hd,k,d| .pv,k,d=>by simp only[aU,bc];omega
 | .pair a b,k,d=>by rw[gQ,gQ,fp a,fp b]
def uK(τ:Ty)(p:Pt)(rs:List RK)(k:Nat):eO (.val τ p::rs) k=eO rs (aU p k):=rfl
def rU(τ:Ty)(p:Pt)(rs:List RK)(k:Nat):eO (.nbox τ p::rs) k=eO rs (aU p (k+1)):=rfl
def Jd(τ:Ty)(p:Pt)(ps:List PK)(k:Nat):tX (.io τ p::ps) k=tX ps (aU p k):=rfl
theorem wW:∀(rs:List RK) (k d:Nat),eO rs (k+d)=eO rs k+d
 | [],_,_=>rfl
 | .val _ p::rs,k,d=>by rw[uK,uK,fp,wW rs]
 | .nbox _ p::rs,k,d=>by rw[rU,rU,show k+d+1=k+1+d by omega,fp,wW rs]
theorem Em:∀(ps:List PK) (k d:Nat),tX ps (k+d)=tX ps k+d
 | [],_,_=>rfl
 | .val _ _::ps,k,d| .rd _::ps,k,d| .vx _ _::ps,k,d=>Em ps k d
 | .io _ p::ps,k,d=>by rw[Jd,Jd,fp,Em ps]
theorem oD:∀(rs:List RK) (k:Nat),k<=eO rs k
 | [],_=>gh _
 | .val _ p::rs,k=>M_ (bU p k) (oD rs _)
 | .nbox _ p::rs,k=>M_ (M_ (aqI _) (bU p (k+1))) (oD rs _)
theorem wR:∀(ps:List PK) (k:Nat),k<=tX ps k
 | [],_=>gh _
 | .val _ p::ps,k=>wR ps k
 | .rd _::ps,k| .vx _ _::ps,k=>wR ps k
 | .io _ p::ps,k=>M_ (bU p k) (wR ps _)
def kG:List RK->Nat->List Nat
 | [],_=>[]
 | .val _ p::rs,k=>kG rs (aU p k)
 | .nbox _ p::rs,k=>k::kG rs (aU p (k+1))
theorem xF:∀ {rs:List RK} {k:Nat},∀c∈kG rs k,k<=c/\c<eO rs k
 | [],_,c,h=>by simp[kG]at h
 | .val _ p::rs,k,c,h=>by
   have:=xF (rs:=rs) (k:=aU p k) c h;have b:=bU p k;rw[uK];omega
 | .nbox _ p::rs,k,c,h=>by
   have b:=bU p (k+1);have h2:=oD rs (aU p (k+1));rw[rU];simp only[kG,ec]at h;rcases h with rfl|h;omega;have:=xF (rs:=rs) (k:=aU p (k+1)) c h;omega
structure ab8(G' G2:Gh)(k0 n tk:Nat)(hs:List Nat):Prop where
 own:∀u,k0<=u->u<n->G2.hdr (tk+(u-k0))=G'.hdr u/\∀b,G'.col b=u->G2.col b=tk+(u-k0)
 shr:∀b,G'.col b∈[2,1]->G2.col b∈hs
 rom:∀b,G'.col b=3->G2.col b=3
 ne:hs≠ []
section
variable{w':World}{G' G2:Gh}{k0 n tk:Nat}{hs:List Nat}
def KT(h:ab8 G' G2 k0 n tk hs)(h3:4<=tk){p:Pt}{τ:Ty}{x:τ.den}{cs:List Value}{k:Nat}(hk:k0<=k)(hn:aU p k<=n)(b:bJ w' G' τ x (bc p k [2,1]).1 cs):
 bJ w' G2 τ x (bc p (tk+(k-k0)) hs).1 cs:=by
 refine(LM b (by omega) (λu hu hu2=> ?_) h.shr h.rom h.ne).1;have:=h.own u (by omega) (by omega);rw[show tk+(k-k0)+(u-k)=tk+(u-k0) by omega];exact this
theorem EI(u:4<=tk):∀ {rs:List RK} {rest:List Ty} {y:bu (rs.map RK.ty++rest)} {k:Nat},k0<=k->∀(hs':List Nat),
 (bz rs rest y (tk+(k-k0)) hs').2.1=(bz rs rest y k [2,1]).2.1/\(bz rs rest y (tk+(k-k0)) hs').2.2=tk+(eO rs k-k0)/\(bz rs rest y k [2,1]).2.2=eO rs k/\
 (bz rs rest y (tk+(k-k0)) hs').1.length=rs.length/\
 (ab8 G' G2 k0 n tk hs'->eO rs k<=n->∀(e:List Value),(∀i,cU w' G' ((bz rs rest y k [2,1]).1.getD i .no) (e.getD i undef))->∀i,cU w' G2 ((bz rs rest y (tk+(k-k0)) hs').1.getD i .no) (e.getD i undef))/\
 (∀sv∈(bz rs rest y (tk+(k-k0)) hs').1,(∀c∈sv.sc,((c∈hs'/\rs.any (λr=>r.pt.vX)=true)\/c=3)\/(tk+(k-k0)<=c/\c<tk+(eO rs k-k0)/\c∉kG rs (tk+(k-k0))))/\(∀c∈sv.bt,c∈kG rs (tk+(k-k0)))/\sv.rt=[])
 | [],rest,y,k,hk,hs'=>⟨rfl,rfl,rfl,rfl,λ_ _ e _ i=>by simp[bz,cU],by simp[bz]⟩
 | .val τ p::rs,rest,y,k,hk,hs'=>by
   have Y:=bU p k;have n2:=oD rs (aU p k);obtain⟨x,z,B,F,H,I⟩:=EI u (rs:=rs) (rest:=rest) (y:=y.2) (k:=aU p k) (by omega) hs'
   have s:(bc p (tk+(k-k0)) hs').2=tk+(aU p k-k0):=by
    rw[cS,show tk+(k-k0)=(k-k0)+tk by omega,fp];have:=fp p (k-k0) k0;rw[show k-k0+k0=k by omega]at this;omega
   have l:aU p (tk+(k-k0))=tk+(aU p k-k0):=(cS p _ hs').symm.trans s;simp only[bz,s,cS p k [2,1],uK];refine⟨x,z,B,by simp[F],λm v e q i=> ?_,λsv d=> ?_⟩
   ·cases i with
    |zero=>
     have:=q 0;simp only[G7]at this|-;obtain⟨cs,J,K⟩:=this;exact⟨cs,J,KT m u hk (by omega) K⟩
    |succ i=>
     simp only[J5];have:=H m v (e.drop 1) (λj=>by have:=q (j+1);simpa[ew,i_]using this) i;simpa[ew,i_]using this
   ·simp only[ec]at d;rcases d with rfl|d
    ·refine⟨λc hc=> ?_,by simp[SV.bt],rfl⟩;rcases nz c hc with h|h|h
     ·exact .inl (.inl ⟨h.1,by simp[RK.pt,h.2]⟩)
     rotate_left
     ·exact .inl (.inr h)
     ·rw[l]at h;refine .inr ⟨h.1,by omega,λb=> ?_⟩;simp only[kG]at b;rw[l]at b;have:=xF c b;omega
    ·obtain⟨q1,q2,q3⟩:=I sv d;simp only[kG];rw[l];exact⟨λc hc=>(q1 c hc).imp (λh=>h.imp (λh=>⟨h.1,by simp only[List.any_cons,h.2,Bool.or_true]⟩) id) (λ⟨N,t,S⟩=>⟨by omega,t,S⟩),q2,q3⟩
 | .nbox τ p::rs,rest,y,k,hk,hs'=>by
   have Y:=bU p (k+1);have n2:=oD rs (aU p (k+1));obtain⟨x,z,B,F,H,I⟩:=EI u (rs:=rs) (rest:=rest) (y:=y.2) (k:=aU p (k+1)) (by omega) hs'
   have s:(bc p (tk+(k-k0)+1) hs').2=tk+(aU p (k+1)-k0):=by
    rw[cS,show tk+(k-k0)+1=(k+1-k0)+tk by omega,fp];have:=fp p (k+1-k0) k0;rw[show k+1-k0+k0=k+1 by omega]at this;omega
   have l:aU p (tk+(k-k0)+1)=tk+(aU p (k+1)-k0):=(cS p _ hs').symm.trans s;simp only[bz,s,cS p (k+1) [2,1],rU];refine⟨x,z,B,by simp[F],λm v e q i=> ?_,λsv d=> ?_⟩
   ·cases i with
    |zero=>
     have:=q 0;simp only[G7]at this|-;obtain⟨W,c,el,g1,g2,g3,g4,g5,g6⟩:=this;obtain⟨N,t⟩:=m.own k hk (by omega);refine⟨W,c,el,g1,by omega,N.trans g3,t W g4,g5,?_⟩;have:=KT m u (k:=k+1) (by omega) (by omega) g6;rw[show tk+(k+1-k0)=tk+(k-k0)+1 by omega]at this;exact this
    |succ i=>
     simp only[J5];have:=H m v (e.drop 1) (λj=>by have:=q (j+1);simpa[ew,i_]using this) i;simpa[ew,i_]using this
   ·simp only[ec]at d;rcases d with rfl|d
    ·refine⟨λc hc=> ?_,by simp[SV.bt,kG],rfl⟩;rcases nz c hc with h|h|h
     ·exact .inl (.inl ⟨h.1,by simp[RK.pt,h.2]⟩)
     rotate_left
     ·exact .inl (.inr h)
     ·rw[l]at h;refine .inr ⟨by omega,by omega,λb=> ?_⟩;simp only[kG,ec]at b;rw[l]at b;rcases b with b|b
      ·omega
      ·have:=xF c b;omega
    ·obtain⟨q1,q2,q3⟩:=I sv d;simp only[kG];rw[l];refine⟨λc hc=>(q1 c hc).imp (λh=>h.imp (λh=>⟨h.1,by simp only[List.any_cons,h.2,Bool.or_true]⟩) id) (λ⟨N,t,S⟩=>⟨by omega,t,?_⟩),λc hc=>by simp[q2 c hc],q3⟩;simp only[ec,not_or];exact⟨by omega,S⟩
end
theorem qQ:∀(l:List (Nat×Nat×TV)) (L:List SV),(cg l L).length=L.length
 | [],_=>rfl
 |(t,s,v)::l,L=>by simp only[cg];rw[qQ l];simp
theorem zU:∀(l:List (Nat×Nat×TV)) (L:List SV) (j:Nat),(cg l L).getD j .no=L.getD j .no\/∃t v,(t,j,v)∈l/\(cg l L).getD j .no= .box t v
 | [],_,_=> .inl rfl
 |(t,s,v)::l,L,j=>by
  simp only[cg];rcases zU l (L.set s (.box t v)) j with h|⟨b,c,d,i⟩;rw[h,fA];split;rename_i e;obtain⟨rfl,_⟩:=e;exact .inr ⟨t,v,by simp,rfl⟩;exact .inl rfl;exact .inr ⟨b,c,by simp[d],i⟩
def iz:List (Nat×Nat×TV)->List SV->List SV
 | [],L=>L
 |(_,s,_)::l,L=>iz l (L.set s .no)
theorem Dn:∀(l:List (Nat×Nat×TV)) {L L':List SV},L.length=L'.length->(∀j,(∀t v,(t,j,v)∉l)->L.getD j .no=L'.getD j .no)->cg l L=cg l L'
 | [],L,L',hl,h=>by
   refine List.ext_getElem hl (λi c d=> ?_);have:=h i (by simp);rw[ew,ew]at this;simp only[cg]at c d|-;rw[Q_ c,Q_ d]at this;simpa using this
 |(t,s,v)::l,L,L',hl,h=>by
  simp only[cg];refine Dn l (by simpa using hl) (λj m=> ?_);rw[fA,fA,hl];by_cases e:j=s/\s<L'.length;rw[an e,an e];rw[a_ e,a_ e];by_cases k:j=s;subst k;have hlt:¬j<L'.length:=λp=>e ⟨rfl,p⟩;rw[ew,ew,apY (by omega),apY (by omega)];refine h j (λq r b=> ?_);simp only[ec,ao0]at b;rcases b with⟨_,b,_⟩|b;exact k b;exact m q r b
theorem FO:∀(l:List (Nat×Nat×TV)) (L:List SV),(iz l L).length=L.length
 | [],_=>rfl
 |(t,s,v)::l,L=>by simp only[iz];rw[FO l];simp
theorem tp:∀(l:List (Nat×Nat×TV)) (L:List SV) (j:Nat),(∀t v,(t,j,v)∉l)->(iz l L).getD j .no=L.getD j .no
 | [],_,_,_=>rfl
 |(t,s,v)::l,L,j,h=>by
  simp only[iz];rw[tp l _ j (λc d b=>h c d (by simp[b])),fA,a_];rintro⟨rfl,_⟩;exact h t v (by simp)
theorem wb:∀(l:List (Nat×Nat×TV)) (L:List SV) (j:Nat),(∃t v,(t,j,v)∈l)->(iz l L).getD j .no= .no/\True
 |(t,s,v)::l,L,j,⟨t',v',h⟩=>by
  simp only[iz];by_cases b:∃t v,(t,j,v)∈l;exact wb l _ j b;refine⟨?_,trivial⟩;rw[tp l _ j (λt v h=>b ⟨t,v,h⟩),fA];simp only[ec,ao0]at h;rcases h with⟨_,rfl,_⟩|h;split;rfl;rename_i e;rw[ew,apY (by simp at e;omega)];rfl;exact absurd ⟨t',v',h⟩ b
def afG(l:List (Nat×Nat×TV))(L:List SV):cg l (iz l L)=cg l L:=
 Dn l (FO l L) (λj b=>tp l L j b)
section
variable{P:Program}{C:Cx}{w0:World}{c0:C0}{U:Nat->Prop}{E:Env}{a:Act}{w:World}{G:Gh}{ops:List Oper}{g:Option (Nat×Bool)}
theorem Inv.aap:∀(l:List (Nat×Nat×TV)) {E:Env},Inv w0 c0 U E a w G->Inv w0 c0 U {E with s:=iz l E.s} a w G
 | [],_,h=>h
 |(_,s,_)::l,E,h=>Inv.aap l (E:={E with s:=E.s.set s .no}) (h.drop s)
theorem Inv.ad2:∀(l:List (Nat×Nat×TV)) {E:Env},Inv w0 c0 U E a w G->(∀t s v,(t,s,v)∈l->cU w G (.box t v) (a.tmps.getD s undef)/\bM U G (.box t v))->
 (l.map (·.1)).Pairwise (·≠·)->(∀t s v,(t,s,v)∈l->∀c u,E.s.getD c .no≠ .box t u)->Inv w0 c0 U {E with s:=cg l E.s} a w G
 | [],_,h,_,_,_=>h
 |(t,s,v)::l,E,h,h1,h2,h3=>by
  simp only[List.map_cons,aqD]at h2;obtain⟨z,B⟩:=h1 t s v (by simp);refine Inv.ad2 l (E:={E with s:=E.s.set s (.box t v)}) (h.af7 s z B ?_) (λp c q b=>h1 p c q (by simp[b])) h2.2 (λp c q b y u e=> ?_);rintro p u ⟨rfl,rfl⟩ c u' _ e;exact h3 t s v (by simp) c u' e;simp only[fA]at e;split at e;simp only[SV.box.injEq]at e;exact h2.1 p (q_.2 ⟨(p,c,q),b,rfl⟩) e.1;exact h3 p c q (by simp[b]) y u e
theorem DS(hI:Inv w0 c0 U E a w G){k0 tk:Nat}{hs':List Nat}:∀ {ps:List PK} {as:List SV} {vals:List Value} {B i0:Nat} {r0:List (Nat×Nat)} {xs:bu (ps.map PK.ty)} {q bs:List (Nat×Nat)},
 bW E.rd ps as B r0=some (xs,q,bs)->(∀i,cU w G (as.getD i .no) (vals.getD i undef))->∀(R:bu (bR ps)) (k:Nat),k0<=k->
 (∀t s m,(t,s,m)∈dK hs' ps R bs (tk+(k-k0))->∃j i y p r z,(j,i0+i,y)∈dK [2,1] ps R (fW ps i0 B) k/\(t,j)∈q/\j∈dg ps B/\
  E.s.getD s .no= .box t z/\vals.getD i undef=G.hdr t/\k<=r/\aU p r<=tX ps k/\y=⟨m.τ,m.x,(bc p r [2,1]).1⟩/\m.sh=(bc p (tk+(r-k0)) hs').1/\(p.vX=true->E8 ps=true))/\
 (∀t s,(t,s)∈bs->∃m,(t,s,m)∈dK hs' ps R bs (tk+(k-k0)))
 | [],[],vals,B,i0,r0,xs,q,bs,h,hs,R,k,hk=>by
   simp only[bW,aoW,ao0]at h;obtain⟨_,rfl,rfl⟩:=h;simp[dK]
 | .val τ p::ps,.d v::as,vals,B,i0,r0,xs,q,bs,h,hs,R,k,hk=>by
   simp only[bW]at h;split at h;rename_i x H u I hx J;split at h;simp only[aoW,ao0]at h;obtain⟨_,rfl,rfl⟩:=h;obtain⟨K,N⟩:=DS hI (k0:=k0) (tk:=tk) (hs':=hs') (i0:=i0+1) (vals:=vals.drop 1) J (λi=>by have:=hs (i+1);simpa[ew,i_]using this) R k hk;refine⟨λt s m b=> ?_,λt s b=>N t s b⟩;obtain⟨j,i,y,S,r,z,q1,q2,q3,q4,q5,q6,W,Y,F⟩:=K t s m b
   exact⟨j,i+1,y,S,r,z,by simp only[fW,dK];rw[show i0+(i+1)=i0+1+i by omega];exact q1,Q' _ q2,q3,q4,
    by rw[<-q5];simp[ew,i_],q6,W,Y,F⟩
   cases h;cases h
 | .io τ p::ps,sv::as,vals,B,i0,r0,xs,q,bs,h,hs,R,k,hk=>by
   simp only[bW]at h;split at h;rename_i t0 s0 v hb;split at h;rename_i x H u I hx J;split at h;simp only[aoW,ao0]at h;obtain⟨_,rfl,rfl⟩:=h;have n1:=bU p k
   have e1:(bc p (tk+(k-k0)) hs').2=tk+(aU p k-k0):=by
    rw[cS,show tk+(k-k0)=(k-k0)+tk by omega,fp];have:=fp p (k-k0) k0;rw[show k-k0+k0=k by omega]at this;omega
   obtain⟨K,N⟩:=DS hI (k0:=k0) (tk:=tk) (hs':=hs') (i0:=i0+1) (vals:=vals.drop 1) J (λi=>by have:=hs (i+1);simpa[ew,i_]using this) R.2 (aU p k) (by omega);have e0:=hs 0;simp only[G7]at e0;obtain⟨b0,bk,c,el,b1,b2,_⟩:=zO hI hb e0;refine⟨λt s m b=> ?_,λt s b=> ?_⟩;simp only[dK,ec,ao0]at b;rcases b with⟨rfl,rfl,rfl⟩|b;refine⟨B,0,_,p,k,_,by simp only[fW,dK];exact List.mem_cons_self ..,by simp,by simp[dg],b0,b2.symm,gh _,wR ps _,rfl,rfl,λh=>by simp[E8,h]⟩;rw[e1]at b;obtain⟨j,i,y,S,r,z,q1,q2,q3,q4,q5,q6,W,Y,F⟩:=K t s m b
   refine⟨j,i+1,y,S,r,z,?_,by simp[q2],by simp only[dg];exact s_ _ q3,q4,
    by rw[<-q5];simp[ew,i_],by omega,W,Y,F.1,λh=>by simp[E8,F.2 h]⟩
   simp only[fW,dK,cS];rw[show i0+(i+1)=i0+1+i by omega];exact s_ _ q1;simp only[ec,ao0]at b;simp only[dK,e1,ec,ao0];rcases b with⟨rfl,rfl⟩|b;exact⟨_,.inl ⟨rfl,rfl,rfl⟩⟩;obtain⟨m,h0⟩:=N t s b;exact⟨m,.inr h0⟩;cases h;cases h;cases h
 | .rd τ::ps,sv::as,vals,B,i0,r0,xs,q,bs,h,hs,R,k,hk=>by
   simp only[bW]at h;split at h;split at h;rename_i x H u I hx J;split at h;simp only[aoW,ao0]at h;obtain⟨_,rfl,rfl⟩:=h;obtain⟨K,N⟩:=DS hI (k0:=k0) (tk:=tk) (hs':=hs') (i0:=i0+1) (vals:=vals.drop 1) J (λi=>by have:=hs (i+1);simpa[ew,i_]using this) R k hk;refine⟨λt s m b=> ?_,λt s b=>N t s b⟩;obtain⟨j,i,y,S,r,z,q1,q2,q3,q4,q5,q6,W,Y,F⟩:=K t s m b
   exact⟨j,i+1,y,S,r,z,by simp only[fW,dK];rw[show i0+(i+1)=i0+1+i by omega];exact q1,Q' _ q2,q3,q4,
    by rw[<-q5];simp[ew,i_],q6,W,Y,F⟩
   cases h;cases h;cases h
 | .vx e l::ps,.d v::as,vals,B,i0,r0,xs,q,bs,h,hs,R,k,hk=>by
   simp only[bW]at h;split at h;rename_i x H u I hx J;split at h;simp only[aoW,ao0]at h;obtain⟨_,rfl,rfl⟩:=h;obtain⟨K,N⟩:=DS hI (k0:=k0) (tk:=tk) (hs':=hs') (i0:=i0+1) (vals:=vals.drop 1) J (λi=>by have:=hs (i+1);simpa[ew,i_]using this) R k hk;refine⟨λt s m b=> ?_,λt s b=>N t s b⟩;obtain⟨j,i,y,S,r,z,q1,q2,q3,q4,q5,q6,W,Y,F⟩:=K t s m b
   exact⟨j,i+1,y,S,r,z,by simp only[fW,dK];rw[show i0+(i+1)=i0+1+i by omega];exact q1,Q' _ q2,q3,q4,
    by rw[<-q5];simp[ew,i_],q6,W,Y,F⟩
   cases h;cases h
 | [],_::_,_,_,_,_,_,_,_,h,_,_,_,_| .val _ _::_,[],_,_,_,_,_,_,_,h,_,_,_,_| .io _ _::_,[],_,_,_,_,_,_,_,h,_,_,_,_| .rd _::_,[],_,_,_,_,_,_,_,h,_,_,_,_
 | .vx _ _::_,[],_,_,_,_,_,_,_,h,_,_,_,_=>by simp[bW]at h
 | .val _ _::_,.no::_,_,_,_,_,_,_,_,h,_,_,_,_| .val _ _::_,.box _ _::_,_,_,_,_,_,_,_,h,_,_,_,_| .val _ _::_,.ptr ..::_,_,_,_,_,_,_,_,h,_,_,_,_| .val _ _::_,.ept ..::_,_,_,_,_,_,_,_,h,_,_,_,_
 | .val _ _::_,.rdp ..::_,_,_,_,_,_,_,_,h,_,_,_,_| .val _ _::_,.tup _::_,_,_,_,_,_,_,_,h,_,_,_,_| .val _ _::_,.g ..::_,_,_,_,_,_,_,_,h,_,_,_,_=>by simp[bW]at h
 | .vx _ _::_,.no::_,_,_,_,_,_,_,_,h,_,_,_,_| .vx _ _::_,.box _ _::_,_,_,_,_,_,_,_,h,_,_,_,_| .vx _ _::_,.ptr ..::_,_,_,_,_,_,_,_,h,_,_,_,_| .vx _ _::_,.ept ..::_,_,_,_,_,_,_,_,h,_,_,_,_
 | .vx _ _::_,.rdp ..::_,_,_,_,_,_,_,_,h,_,_,_,_| .vx _ _::_,.tup _::_,_,_,_,_,_,_,_,h,_,_,_,_| .vx _ _::_,.g ..::_,_,_,_,_,_,_,_,h,_,_,_,_=>by simp[bW]at h
theorem qu{rhoT:List (Nat×Nat)}{hs':List Nat}{I:Rd}:∀ {ps:List PK} {as:List SV} {i:Nat} {r0:List (Nat×Nat)} {xs:bu (ps.map PK.ty)} {b bs:List (Nat×Nat)},
 bW I ps as i r0=some (xs,b,bs)->(∀c k,(c,k)∈b->rhoT.lookup c=some k)->∀(R:bu (bR ps)) (k':Nat),
 ((dK hs' ps R bs k').map (·.1)).Pairwise (·≠·)/\∀t∈(dK hs' ps R bs k').map (·.1),∃u,i<=u/\rhoT.lookup t=some u
 | [],[],i,r0,xs,b,bs,h,hr,R,k'=>by
   simp only[bW,aoW,ao0]at h;obtain⟨_,rfl,rfl⟩:=h;simp[dK]
 | .val τ p::ps,.d v::as,i,r0,xs,b,bs,h,hr,R,k'=>by
   simp only[bW]at h;split at h;rename_i x m j q z r;split at h;simp only[aoW,ao0]at h;obtain⟨_,rfl,rfl⟩:=h;obtain⟨B,y⟩:=qu r (λc k h=>hr c k (Q' _ h)) R k';exact⟨B,λt s=>by obtain⟨u,q1,q2⟩:=y t s;exact⟨u,M_ (bU p i) q1,q2⟩⟩;cases h;cases h
 | .io τ p::ps,sv::as,i,r0,xs,b,bs,h,hr,R,k'=>by
   simp only[bW]at h;split at h;rename_i H s0 v hb;split at h;rename_i x m j q z r;split at h;simp only[aoW,ao0]at h;obtain⟨_,rfl,rfl⟩:=h;have n1:=bU p (i+1);have hpn:(bc p (i+1) []).2=aU p (i+1):=rfl;obtain⟨B,y⟩:=qu r (λc k h=>hr c k (by simp[h])) R.2 (bc p k' hs').2;have F:=hr H i (by simp);simp only[dK,List.map_cons,aqD,ec];refine⟨⟨λt s e=> ?_,B⟩,λt s=> ?_⟩;obtain⟨u,q1,q2⟩:=y t s;rw[<-e,F]at q2;simp only[aoW]at q2;omega;rcases s with rfl|s;exact⟨i,gh _,F⟩;obtain⟨u,q1,q2⟩:=y t s;exact⟨u,by omega,q2⟩;cases h;cases h;cases h
 | .rd τ::ps,sv::as,i,r0,xs,b,bs,h,hr,R,k'=>by
   simp only[bW]at h;split at h;split at h;rename_i x m j q z r;split at h;simp only[aoW,ao0]at h;obtain⟨_,rfl,rfl⟩:=h;exact qu r (λc k h=>hr c k (Q' _ h)) R k';cases h;cases h;cases h
 | .vx e l::ps,.d v::as,i,r0,xs,b,bs,h,hr,R,k'=>by
   simp only[bW]at h;split at h;rename_i x m j q z r;split at h;simp only[aoW,ao0]at h;obtain⟨_,rfl,rfl⟩:=h;exact qu r (λc k h=>hr c k (Q' _ h)) R k';cases h;cases h
 | [],_::_,_,_,_,_,_,h,_,_,_| .val _ _::_,[],_,_,_,_,_,h,_,_,_| .io _ _::_,[],_,_,_,_,_,h,_,_,_| .rd _::_,[],_,_,_,_,_,h,_,_,_| .vx _ _::_,[],_,_,_,_,_,h,_,_,_=>by simp[bW]at h
 | .val _ _::_,.no::_,_,_,_,_,_,h,_,_,_| .val _ _::_,.box _ _::_,_,_,_,_,_,h,_,_,_| .val _ _::_,.ptr ..::_,_,_,_,_,_,h,_,_,_| .val _ _::_,.ept ..::_,_,_,_,_,_,h,_,_,_
 | .val _ _::_,.rdp ..::_,_,_,_,_,_,h,_,_,_| .val _ _::_,.tup _::_,_,_,_,_,_,h,_,_,_| .val _ _::_,.g ..::_,_,_,_,_,_,h,_,_,_=>by simp[bW]at h
 | .vx _ _::_,.no::_,_,_,_,_,_,h,_,_,_| .vx _ _::_,.box _ _::_,_,_,_,_,_,h,_,_,_| .vx _ _::_,.ptr ..::_,_,_,_,_,_,h,_,_,_| .vx _ _::_,.ept ..::_,_,_,_,_,_,h,_,_,_
 | .vx _ _::_,.rdp ..::_,_,_,_,_,_,h,_,_,_| .vx _ _::_,.tup _::_,_,_,_,_,_,h,_,_,_| .vx _ _::_,.g ..::_,_,_,_,_,_,h,_,_,_=>by simp[bW]at h
theorem u9(S:Inv w0 c0 U E a w G){hs':List Nat}:∀ {ps:List PK} {as:List SV} {vals:List Value} {B i0:Nat} {r0:List (Nat×Nat)} {xs:bu (ps.map PK.ty)} {m bs:List (Nat×Nat)},
 bW E.rd ps as B r0=some (xs,m,bs)->(∀i,cU w G (as.getD i .no) (vals.getD i undef))->∀(R:bu (bR ps)) (k:Nat) (j:Nat) (t s:Nat),bs[j]?=some (t,s)->
 ∃b i u y τ,(fW ps i0 B)[j]?=some (b,i0+i)/\(bR ps)[j]?=some τ/\(dK hs' ps R bs k)[j]?=some (t,s,y)/\y.τ=τ/\E.rd.box t=some (s,u)/\u.τ=τ/\vals.getD i undef=G.hdr t
 | [],[],vals,B,i0,r0,xs,m,bs,h,hs,R,k,j,t,s,hj=>by
   simp only[bW,aoW,ao0]at h;obtain⟨_,rfl,rfl⟩:=h;simp at hj
 | .val τ p::ps,.d v::as,vals,B,i0,r0,xs,m,bs,h,hs,R,k,j,t,s,hj=>by
   simp only[bW]at h;split at h;rename_i x F q H hx I;split at h;simp only[aoW,ao0]at h;obtain⟨_,rfl,rfl⟩:=h;obtain⟨b,i,u,y,J,q1,q2,q3,q4,q5,K,N⟩:=u9 S (hs':=hs') (i0:=i0+1) (vals:=vals.drop 1) I (λi=>by have:=hs (i+1);simpa[ew,i_]using this) R k j t s hj;exact⟨b,i+1,u,y,J,by simp only[fW];rw[show i0+(i+1)=i0+1+i by omega];exact q1,q2,q3,q4,q5,K,by rw[<-N];simp[ew,i_]⟩;cases h;cases h
 | .io τ p::ps,sv::as,vals,B,i0,r0,xs,m,bs,h,hs,R,k,j,t,s,hj=>by
   simp only[bW]at h;split at h;rename_i t0 s0 v z;split at h;rename_i x F q H hx I;split at h;simp only[aoW,ao0]at h;obtain⟨_,rfl,rfl⟩:=h;have W:=hs 0;simp only[G7]at W;obtain⟨hslot,bk,c,el,b1,b2,_⟩:=zO S z W
   have Y:E.rd.box t0=some (s0,v):=by
    unfold rB at z;split at z;rw[B_]at z;obtain⟨r,hr,z⟩:=z;simp only[ao0]at z;obtain⟨rfl,rfl,rfl⟩:=z;exact hr;cases z
   have hτ:v.τ=τ:=by
    have e:=fG hx;rw[e]
   cases j with
   |zero=>
    simp only[aqv,aoW,ao0]at hj;obtain⟨rfl,rfl⟩:=hj;exact⟨B,0,v,⟨τ,R.1,(bc p k hs').1⟩,τ,by simp[fW],by simp[bR],by simp only[dK,aqv],rfl,Y,hτ,b2.symm⟩
   |succ j=>
    simp only[ap1]at hj;obtain⟨b,i,u,y,J,q1,q2,q3,q4,q5,K,N⟩:=u9 S (hs':=hs') (i0:=i0+1) (vals:=vals.drop 1) I (λi=>by have:=hs (i+1);simpa[ew,i_]using this) R.2 (bc p k hs').2 j t s hj
    exact⟨b,i+1,u,y,J,by simp only[fW,ap1];rw[show i0+(i+1)=i0+1+i by omega];exact q1,by simp only[bR,ap1];exact q2,
     by simp only[dK,ap1];exact q3,q4,q5,K,by rw[<-N];simp[ew,i_]⟩
   cases h;cases h;cases h
 | .rd τ::ps,sv::as,vals,B,i0,r0,xs,m,bs,h,hs,R,k,j,t,s,hj=>by
   simp only[bW]at h;split at h;split at h;rename_i x F q H hx I;split at h;simp only[aoW,ao0]at h;obtain⟨_,rfl,rfl⟩:=h;obtain⟨b,i,u,y,J,q1,q2,q3,q4,q5,K,N⟩:=u9 S (hs':=hs') (i0:=i0+1) (vals:=vals.drop 1) I (λi=>by have:=hs (i+1);simpa[ew,i_]using this) R k j t s hj;exact⟨b,i+1,u,y,J,by simp only[fW];rw[show i0+(i+1)=i0+1+i by omega];exact q1,q2,q3,q4,q5,K,by rw[<-N];simp[ew,i_]⟩;cases h;cases h;cases h
 | .vx e l::ps,.d v::as,vals,B,i0,r0,xs,m,bs,h,hs,R,k,j,t,s,hj=>by
   simp only[bW]at h;split at h;rename_i x F q H hx I;split at h;simp only[aoW,ao0]at h;obtain⟨_,rfl,rfl⟩:=h;obtain⟨b,i,u,y,J,q1,q2,q3,q4,q5,K,N⟩:=u9 S (hs':=hs') (i0:=i0+1) (vals:=vals.drop 1) I (λi=>by have:=hs (i+1);simpa[ew,i_]using this) R k j t s hj;exact⟨b,i+1,u,y,J,by simp only[fW];rw[show i0+(i+1)=i0+1+i by omega];exact q1,q2,q3,q4,q5,K,by rw[<-N];simp[ew,i_]⟩;cases h;cases h
 | [],_::_,_,_,_,_,_,_,_,h,_,_,_,_,_,_,_| .val _ _::_,[],_,_,_,_,_,_,_,h,_,_,_,_,_,_,_| .io _ _::_,[],_,_,_,_,_,_,_,h,_,_,_,_,_,_,_| .rd _::_,[],_,_,_,_,_,_,_,h,_,_,_,_,_,_,_
 | .vx _ _::_,[],_,_,_,_,_,_,_,h,_,_,_,_,_,_,_=>by simp[bW]at h
 | .val _ _::_,.no::_,_,_,_,_,_,_,_,h,_,_,_,_,_,_,_| .val _ _::_,.box _ _::_,_,_,_,_,_,_,_,h,_,_,_,_,_,_,_| .val _ _::_,.ptr ..::_,_,_,_,_,_,_,_,h,_,_,_,_,_,_,_
 | .val _ _::_,.ept ..::_,_,_,_,_,_,_,_,h,_,_,_,_,_,_,_| .val _ _::_,.rdp ..::_,_,_,_,_,_,_,_,h,_,_,_,_,_,_,_| .val _ _::_,.tup _::_,_,_,_,_,_,_,_,h,_,_,_,_,_,_,_
 | .val _ _::_,.g ..::_,_,_,_,_,_,_,_,h,_,_,_,_,_,_,_| .vx _ _::_,.no::_,_,_,_,_,_,_,_,h,_,_,_,_,_,_,_| .vx _ _::_,.box _ _::_,_,_,_,_,_,_,_,h,_,_,_,_,_,_,_
 | .vx _ _::_,.ptr ..::_,_,_,_,_,_,_,_,h,_,_,_,_,_,_,_| .vx _ _::_,.ept ..::_,_,_,_,_,_,_,_,h,_,_,_,_,_,_,_| .vx _ _::_,.rdp ..::_,_,_,_,_,_,_,_,h,_,_,_,_,_,_,_
 | .vx _ _::_,.tup _::_,_,_,_,_,_,_,_,h,_,_,_,_,_,_,_| .vx _ _::_,.g ..::_,_,_,_,_,_,_,_,h,_,_,_,_,_,_,_=>by simp[bW]at h
theorem uA:∀ {τ:Ty} {x:τ.den} {sh:Sh} {cs:List Value} {p:List Bool} {t:Nat},bJ w G τ x sh cs->mS sh p=some t->cs[τ.off p]?=some (G.hdr t)/\4<=t/\t∈sh.aJ
 | .sl e,l,.sl (.row u hs nd),cs,[],t,h,hr=>by
   simp only[mS,aoW]at hr;subst hr;obtain⟨v,rfl,j,k,_⟩:=h;exact⟨by simp[Ty.off,k],j,by simp[Sh.aJ,M.aJ]⟩
 | .pair a b,x,.pair s1 s2,cs,false::p,t,h,hr=>by
   obtain⟨c,m,rfl,d,i⟩:=h;simp only[mS]at hr;obtain⟨q1,q2,q3⟩:=uA d hr;refine⟨?_,q2,by simp[Sh.aJ,q3]⟩;simp only[Ty.off];rw[List.getElem?_append_left];exact q1;rcases Nat.lt_or_ge (a.off p) c.length with h|h;exact h;rw[apY h]at q1;cases q1
 | .pair a b,x,.pair s1 s2,cs,true::p,t,h,hr=>by
   obtain⟨c,m,rfl,d,i⟩:=h;simp only[mS]at hr;obtain⟨q1,q2,q3⟩:=uA i hr;refine⟨?_,q2,by simp[Sh.aJ,q3]⟩;have hl:c.length=a.sz:=bJ.len d;simp only[Ty.off];rw[List.getElem?_append_right (by omega),show a.sz+b.off p-c.length=b.off p by omega];exact q1
 | .int _,_,.sl _,_,_,_,h,_| .bool,_,.sl _,_,_,_,h,_| .str,_,.sl _,_,_,_,h,_| .pair _ _,_,.sl _,_,_,_,h,_| .int _,_,.pair _ _,_,_,_,h,_| .bool,_,.pair _ _,_,_,_,h,_
 | .str,_,.pair _ _,_,_,_,h,_| .sl _,_,.pair _ _,_,_,_,h,_=>h.elim
 |_,_,.leaf,_,_,_,_,h=>by simp[mS]at h
 |_,_,.sl (.sha _),_,_,_,_,h|_,_,.sl .dead,_,_,_,_,h=>by simp[mS]at h
 |_,_,.sl (.row _ _ _),_,_::_,_,_,h=>by simp[mS]at h
 |_,_,.pair _ _,_,[],_,_,h=>by simp[mS]at h
end
theorem Uc:∀ {L:List SV} {b:List TV},tS L=some b->L.length=b.length/\∀i v,b[i]?=some v->L.getD i .no= .d v
 | [],b,h=>by simp only[tS,aoW]at h;subst h;simp
 | .d v::L,b,h=>by
   simp only[tS,B_]at h;obtain⟨vs',j,rfl⟩:=h;obtain⟨k,l⟩:=Uc j;refine⟨by simp[k],λi e c=> ?_⟩;cases i with
   |zero=>simp at c|-;exact c
   |succ i=>simp at c;simpa using l i e c
 | .no::_,_,h| .box _ _::_,_,h| .ptr ..::_,_,h| .ept ..::_,_,h| .rdp ..::_,_,h| .tup _::_,_,h| .g ..::_,_,h=>by simp[tS]at h
theorem TQ:∀ {L:List SV} {c:List TV},tS L=some c->∀v∈c,SV.d v∈L
 | [],c,h,v,b=>by simp only[tS,aoW]at h;subst h;simp at b
 | .d u::L,c,h,v,b=>by
   simp only[tS,B_]at h;obtain⟨vs',e,rfl⟩:=h;simp only[ec]at b;rcases b with rfl|b;simp;exact s_ _ (TQ e v b)
 | .no::_,_,h,_,_| .box _ _::_,_,h,_,_| .ptr ..::_,_,h,_,_| .ept ..::_,_,h,_,_| .rdp ..::_,_,h,_,_| .tup _::_,_,h,_,_| .g ..::_,_,h,_,_=>by simp[tS]at h
section
variable{P:Program}{C:Cx}{w0:World}{c0:C0}{U:Nat->Prop}{E:Env}{a:Act}{w:World}{G:Gh}{ops:List Oper}{g:Option (Nat×Bool)}
def LW(L:List SV):(∃sv,L=[sv]/\oG L=sv)\/(∀sv,L≠ [sv])/\((∃b,tS L=some b/\oG L= .tup b)\/oG L= .no):=by
 match L with
 | [sv]=>exact .inl ⟨sv,rfl,rfl⟩
 | []=>exact .inr ⟨by simp,.inl ⟨[],rfl,rfl⟩⟩
 |x::y::l=>
  refine .inr ⟨by simp,?_⟩;cases h:tS (x::y::l)with
  |none=>right;simp[oG,h]
  |some b=>left;exact⟨b,rfl,by simp[oG,h]⟩
def afk{b:List Value}(h:∀v,b≠ [v]):Aa b= .tuple b.toArray:=by
 match b,h with
 | [],_=>rfl
 | [v],h=>exact absurd rfl (h v)
 |_::_::_,_=>rfl
def agA{L:List SV}{b:List Value}(d:b.length=L.length)(h:∀i,cU w G (L.getD i .no) (b.getD i undef)):cU w G (oG L) (Aa b):=by
 rcases LW L with⟨sv,rfl,e⟩|⟨m,⟨ts,p,e⟩|e⟩;rw[e];have:=h 0
 match b,d with
 | [v],_=>simpa[Aa]using this
 rw[e,afk (λv l=>by
  subst l;simp only[aqy]at d
  match L,d with
  | [sv],_=>exact m sv rfl)]
 obtain⟨g1,q⟩:=Uc p;refine⟨b,rfl,by omega,λi v j=> ?_⟩;have hs:=h i;rw[q i v j]at hs;obtain⟨r,k,s⟩:=hs
 have c:i<b.length:=by
  have:=(ap9.1 j).1;omega
 rw[ew,Q_ c]at k;exact⟨_,r,Q_ c,k,s⟩;rw[e];trivial
def adm{L:List SV}(h:∀sv∈L,bM U G sv):bM U G (oG L):=by
 rcases LW L with⟨sv,rfl,e⟩|⟨_,⟨ts,b,e⟩|e⟩;rw[e];exact h sv (by simp);rw[e];refine⟨λc hc=> ?_,by simp[SV.bt],by simp[SV.rt]⟩;simp only[SV.sc,ap0]at hc;obtain⟨v,d,hc⟩:=hc;exact(h _ (TQ b v d)).1 c hc;rw[e];simp[bM,SV.sc,SV.bt,SV.rt]
def uo(G c G':Gh)(n k0 tk:Nat)(d:List Nat):Gh:=
 ⟨λb=>if 4<=G'.col b then(if k0<=G'.col b/\G'.col b<k0+32 then tk+(G'.col b-k0)else if b<n then G.col b else 0)
  else if G'.col b=2 then 2 else if G'.col b=1\/G'.col b=3 then G.col b else if b<n/\c.col b=0 then G.col b else 0,
  λu=>if tk<=u/\u<tk+32 then G'.hdr (k0+(u-tk))else G.hdr u,
  λu=>if tk<=u/\u<tk+32 then d.contains u else G.bx u⟩
def abE(G c G':Gh)(n k0 tk:Nat)(d:List Nat)(b:Nat):
 (k0<=G'.col b/\G'.col b<k0+32/\4<=G'.col b/\(uo G c G' n k0 tk d).col b=tk+(G'.col b-k0))\/
 (4<=G'.col b/\b<n/\(uo G c G' n k0 tk d).col b=G.col b/\¬(k0<=G'.col b/\G'.col b<k0+32))\/
 (4<=G'.col b/\(uo G c G' n k0 tk d).col b=0)\/(G'.col b=2/\(uo G c G' n k0 tk d).col b=2)\/((G'.col b=1\/G'.col b=3)/\(uo G c G' n k0 tk d).col b=G.col b)\/
 (G'.col b=0/\b<n/\c.col b=0/\(uo G c G' n k0 tk d).col b=G.col b)\/(G'.col b=0/\(uo G c G' n k0 tk d).col b=0/\¬(b<n/\c.col b=0)):=by
 simp only[uo];by_cases j:4<=G'.col b;simp only[j,if_true,true_and];by_cases h:k0<=G'.col b/\G'.col b<k0+32;simp only[h,and_self,if_true];left;trivial;simp only[h,if_false];by_cases e:b<n;right;left;simp[e];right;right;left;simp[e];simp only[j,if_false,false_and,and_false,false_or];by_cases l:G'.col b=2;simp[l];by_cases i:G'.col b=1\/G'.col b=3;rcases i with i|i<;>simp[i];have k:G'.col b=0:=by omega
 have h1':¬(0=1\/0=3):=by omega
 by_cases e:b<n/\c.col b=0;simp[k,e];simp[k,e]
def aky(F:Inv w0 c0 U E a w G){j:wj}{as:List SV}{vals:List Value}{xs:bu (j.ps.map PK.ty)}{K bs:List (Nat×Nat)}
 (l1:WK j.ps j.rs=true) (hg:bW E.rd j.ps as 4 []=some (xs,K,bs)) (hs:∀i,cU w G (as.getD i .no) (vals.getD i undef)/\bM U G (as.getD i .no)) (hr:I7 K=true)
 {G1:Gh} (y2:∀b,G1.col b=(K.lookup (G.col b)).getD 0) {y:bu (j.rs.map RK.ty++bR j.ps)} {mv:Value} {w':World} {G':Gh} {vs:List Value} {nt:Nat} (H:BX j w G1 vals y mv w' G' vs nt)
 {tk:Nat} (h3:4<=tk) (hU:∀u,tk<=u->u<tk+32->¬U u) (h32:tX j.ps (eO j.rs 0)<=32) {hs' l:List Nat}
 (z1:hs'=(2::(K.filter (·.2=1)).map (·.1)).eraseDups) (n1:l=((K.filter (4<=·.2)).map (·.1)).filter λc=> !bs.any (·.1=c)):
 ∃G2,Inv w0 c0 (λu=>U u\/(tk<=u/\u<tk+32)) {E.kill l with s:=cg (dK hs' j.ps (bz j.rs (bR j.ps) y tk hs').2.1 bs (bz j.rs (bR j.ps) y tk hs').2.2) (E.kill l).s} a w' G2/\
  cU w' G2 (oG (bz j.rs (bR j.ps) y tk hs').1) mv/\bM (λu=>U u\/(tk<=u/\u<tk+32)) G2 (oG (bz j.rs (bR j.ps) y tk hs').1)/\
  (∀t u,oG (bz j.rs (bR j.ps) y tk hs').1= .box t u->∀s u',
   (cg (dK hs' j.ps (bz j.rs (bR j.ps) y tk hs').2.1 bs (bz j.rs (bR j.ps) y tk hs').2.2) (E.kill l).s).getD s .no≠ .box t u')/\
  (∀u u',(u,u')∈BQ E.rd bs (dK hs' j.ps (bz j.rs (bR j.ps) y tk hs').2.1 bs (bz j.rs (bR j.ps) y tk hs').2.2) j.kp->
   G2.hdr u'=G.hdr u/\4<=u'/\Good (λu=>U u\/(tk<=u/\u<tk+32)) G2 u')/\
  (∀t s v,(t,s,v)∈dK hs' j.ps (bz j.rs (bR j.ps) y tk hs').2.1 bs (bz j.rs (bR j.ps) y tk hs').2.2->∃v0,E.s.getD s .no= .box t v0):=by
 obtain⟨hl,_,p2⟩:=uH F hg hs (gh _);have A2:∀c k,(c,k)∈K->WH U G j.ps 4 bs c k:=λc k h=>(p2 c k h).resolve_right (by simp);have B2:=iG j.ps 4;generalize hk:cE j.ps 4=k0 at B2
 have s0:∀c k,(c,k)∈K->(k=1/\0<c/\U c/\(G.bx c=false\/M8 j.ps=true))\/(4<=k/\k<k0/\4<=c/\((Good U G c/\k∉dg j.ps 4)\/(k∈dg j.ps 4/\U c/\G.bx c=true/\∃s,(c,s)∈bs)))\/(c=3/\k=3):=by
  intro c k h;have:=A2 c k h;rw[<-hk];exact this
 generalize b0:uo G G1 G' w.heap.size k0 tk (kG j.rs tk)=G2;have N:=λb=>abE G G1 G' w.heap.size k0 tk (kG j.rs tk) b;rw[b0]at N;have L1:=EI (w':=w') (G':=G') (G2:=G2) (k0:=k0) (n:=k0+32) h3 (rs:=j.rs) (rest:=bR j.ps) (y:=y) (k:=k0) (gh _) hs';simp only[aqs,aqt]at L1;obtain⟨b3,c3,k3,l3,n3,u2⟩:=L1;have T1:eO j.rs k0=eO j.rs 0+k0:=by have:=wW j.rs 0 k0;rwa [aqa]at this
 have hnt2:tX j.ps (eO j.rs k0)=tX j.ps (eO j.rs 0)+k0:=by rw[T1];exact Em _ _ _
 have hge1:=wR j.ps (eO j.rs k0);have W1:=oD j.rs k0;have o1:∀u,U u->¬(tk<=u/\u<tk+32):=λu Y h=>hU u h.1 h.2 Y;have p1:∀u,U u->G2.hdr u=G.hdr u:=λu Y=>by rw[<-b0];exact a_ (o1 u Y)
 have e0:∀u,U u->G2.bx u=G.bx u:=λu Y=>by rw[<-b0];exact a_ (o1 u Y)
 have S:∀b,(G1.col b=0)\/(G1.col b=1/\(G.col b,1)∈K)\/(4<=G1.col b/\G1.col b<k0/\(G.col b,G1.col b)∈K/\4<=G.col b)\/(G1.col b=3/\G.col b=3):=by
  intro b;rw[y2 b];cases hq:K.lookup (G.col b)with
  |none=>left;simp
  |some k=>
   simp only[apJ];have hm:=iP hq;rcases s0 _ _ hm with⟨rfl,_⟩|⟨q1,q2,q3,_⟩|⟨q1,q2⟩
   ·exact .inr (.inl ⟨rfl,hm⟩)
   ·exact .inr (.inr (.inl ⟨q1,q2,hm,q3⟩))
   ·exact .inr (.inr (.inr ⟨q2,q1⟩))
 have u1:ab8 G' G2 k0 (k0+32) tk hs':=by
  refine⟨λu Y hu2=>⟨?_,λb x=> ?_⟩,λb x=> ?_,λb x=> ?_,λe=> ?_⟩
  rotate_right
  ·have m:2∈hs':=by rw[z1,ap3];simp
   rw[e]at m;simp at m
  ·rw[<-b0];simp only[uo];rw[an (by omega)];congr 1;omega
  ·rcases N b with⟨_,_,_,h⟩|⟨q1,q2,q3,q4⟩|⟨q1,q2⟩|h|h|h|h
   ·rw[h,x]
   ·omega
   ·rw[<-b0];simp only[uo];rw[an q1,an (by omega),x]
   ·omega
   ·omega
   ·omega
   ·omega
  ·rw[z1,ap3];simp only[ec,L_,or_false]at x;rcases x with x|x
   ·have:G2.col b=2:=by
     rcases N b with h|h|h|h|h|h|h<;>omega
    simp[this]
   ·have I:=(H.one b (.inl x)).2
    have:G2.col b=G.col b:=by
     rcases N b with h|h|h|h|h|h|h<;>omega
    rw[this];rcases S b with h|⟨_,h⟩|h|h
    ·omega
    ·refine s_ _ (q_.2 ⟨(G.col b,1),?_,rfl⟩);simp[h]
    ·omega
    ·omega
  ·have I:=(H.one b (.inr x)).2;rcases S b with h|h|h|h
   ·omega
   ·omega
   ·omega
   ·rcases N b with h'|h'|h'|h'|h'|h'|h'<;>omega
 have C2:∀c,c∈l->Good U G c/\4<=c/\∀s,(c,s)∉bs:=by
  intro c hc;rw[n1]at hc;simp only[apM,q_,M',aqF,b_]at hc;obtain⟨⟨⟨c',k⟩,⟨I,m⟩,rfl⟩,h4⟩:=hc;have X1:∀s,(c',s)∉bs:=λs h=>h4 (c',s) h rfl;rcases s0 _ _ I with⟨rfl,_⟩|⟨_,_,h5,⟨h6,_⟩|⟨_,_,_,s,h6⟩⟩|⟨_,rfl⟩
  rotate_right
  ·simp at m
  ·simp at m
  ·exact⟨h6,h5,X1⟩
  ·exact absurd h6 (X1 s)
 have R0:∀b,4<=G1.col b->G.col b∈l\/∃s,(G.col b,s)∈bs:=by
  intro b x;rcases S b with h|⟨h,_⟩|⟨_,_,h,_⟩|⟨h,_⟩
  rotate_right
  ·omega
  ·omega
  ·omega
  ·by_cases u0:∃s,(G.col b,s)∈bs
   ·exact .inr u0
   ·left;rw[n1];simp only[apM,q_,M',aqF,b_];refine⟨⟨(G.col b,G1.col b),⟨h,x⟩,rfl⟩,λp H e=>u0 ⟨p.2,?_⟩⟩;rw[<-e];exact H
 obtain⟨W,L0⟩:=DS F (k0:=k0) (tk:=tk) (hs':=hs') (i0:=0) hg (λi=>(hs i).1) (bz j.rs (bR j.ps) y k0 [2,1]).2.1 (eO j.rs k0) W1;have b2:=(qu (hs':=hs') (rhoT:=K) hg (λc k h=>Eh hr h) (bz j.rs (bR j.ps) y k0 [2,1]).2.1 (tk+(eO j.rs k0-k0))).1;rw[b3,c3];generalize D2:dK hs' j.ps (bz j.rs (bR j.ps) y k0 [2,1]).2.1 bs (tk+(eO j.rs k0-k0))=Io2 at W L0 b2|-
 have u0:∀t s,(t,s)∈bs->∃v0,E.s.getD s .no= .box t v0:=by
  intro t s h;obtain⟨v2,m⟩:=L0 t s h;obtain⟨o0,i,v1,p,k1,v0,_,_,_,q4,_⟩:=W t s v2 m;exact⟨v0,q4⟩
 have hK:=F.kill l;have hD:=hK.aap Io2
 have x0:∀s,(iz Io2 (E.kill l).s).getD s .no=(E.kill l).s.getD s .no\/(iz Io2 (E.kill l).s).getD s .no= .no:=by
  intro s;by_cases h:∃t v,(t,s,v)∈Io2
  ·exact .inr (wb Io2 _ s h).1
  ·exact .inl (tp Io2 _ s (λt v hh=>h ⟨t,v,hh⟩))
 have E2:∀s,∀c∈((iz Io2 (E.kill l).s).getD s .no).hc,c∉l++bs.map (·.1):=by
  intro s c hc B
  have F2:(iz Io2 (E.kill l).s).getD s .no=(E.kill l).s.getD s .no:=by
   rcases x0 s with h|h
   ·exact h
   ·rw[h]at hc;simp[SV.hc,SV.sc]at hc
  have H2:∀t v,(t,s,v)∉Io2:=by
   intro t v h;have:=(wb Io2 (E.kill l).s s ⟨t,v,h⟩).1;rw[this]at hc;simp[SV.hc,SV.sc]at hc
  rw[F2]at hc
  have w1:c∈((E.kill l).s.getD s .no).sc->False:=by
   intro h;rcases ev.1 B with m|m
   ·exact(Env.Du E l s c h).2 m
   ·simp only[q_]at m;obtain⟨⟨t,s2⟩,m,rfl⟩:=m;obtain⟨v0,h4⟩:=u0 t s2 m;have h5:=F.bt s2 t (by rw[h4];simp[SV.bt]);have h6:=hK.sc s t h;rw[h6.2.2]at h5;simp at h5
  cases J:(E.kill l).s.getD s .no with
  |box t v=>
   rw[J]at hc;rcases ec.1 hc with rfl|hc
   ·have h5:=hK.bt s c (by rw[J];simp[SV.bt]);rcases ev.1 B with m|m
    ·rw[(C2 c m).1.2.2]at h5;simp at h5
    ·simp only[q_]at m;obtain⟨⟨t,s2⟩,m,rfl⟩:=m;obtain⟨v2,h7⟩:=L0 t s2 m;obtain⟨v0,h4⟩:=u0 t s2 m
     have h8:∃v',E.s.getD s .no= .box t v':=by
      rw[Env.Fk]at J;split at J
      ·exact⟨v,J⟩
      ·exact Ee J
     obtain⟨v',h8⟩:=h8;have:=F.uni s s2 t v' v0 h8 h4;subst this;exact H2 t v2 h7
   ·exact w1 (by rw[J];exact hc)
  |_=>rw[J]at hc;exact w1 (by rw[J];exact hc)
 have A1:∀b,0<G.col b->G.col b∉l++bs.map (·.1)->w'.heap[b]?=w.heap[b]?/\G2.col b=G.col b:=by
  intro b x hn;have E0:=F.lt b x
  have I:G1.col b<4:=by
   rcases Nat.lt_or_ge (G1.col b) 4 with h|h
   ·exact h
   ·exfalso;rcases R0 b h with h|⟨s,h⟩
    ·exact hn (ap6 _ h)
    ·exact hn (Q' _ (q_.2 ⟨_,h,rfl⟩))
  have hf:=H.frame b E0 I;refine⟨hf.2,?_⟩;have m:G1.col b≠2:=by rcases S b with h|h|h|h<;>omega
  rcases N b with h|h|h|h|h|h|h<;>omega
 have b1:∀b,b<w0.heap.size->c0.col b<4->G2.col b=c0.col b/\w'.heap[b]?=w0.heap[b]?:=by
  intro b x hc;have hf:=F.frame b x hc;have E0:b<w.heap.size:=aqj x F.size;have I:G1.col b<4/\G1.col b≠2:=by rcases S b with h|h|h|h<;>omega
  have J2:=H.frame b E0 I.1;refine⟨?_,J2.2.trans hf.2⟩;rw[<-hf.1];rcases N b with h|h|h|h|h|h|h<;>omega
 have hC:=hD.change (U':=λu=>U u\/(tk<=u/\u<tk+32)) (w':=w') (G':=G2) E2 A1 (λt ht=>⟨p1 t ht,e0 t ht⟩) (λc hc=> .inl hc)
  (λb x=>by
   rcases N b with h|⟨_,_,h,_⟩|h|⟨_,h⟩|⟨_,h⟩|⟨_,_,_,h⟩|h
   ·right;omega
   ·rw[h]at x|-;exact .inl (F.colU b x)
   ·omega
   ·rw[h];exact .inl F.two.1.1
   ·rw[h]at x|-;exact .inl (F.colU b x)
   ·rw[h]at x|-;exact .inl (F.colU b x)
   ·omega)
  (λb x=>by
   rcases N b with h|h|h|h|h|h|h
   ·exact H.lt b (by omega)
   ·exact H.lt b (by omega)
   ·exact H.lt b (by omega)
   ·exact H.lt b (by omega)
   ·exact H.lt b (by omega)
   ·exact aqj h.2.1 H.size
   ·omega)
  (λb x=>by
   rcases N b with h|h|h|h|h|h|h
   ·exact H.fresh b (by omega)
   ·exact H.fresh b (by omega)
   ·exact H.fresh b (by omega)
   ·omega
   ·have I:=H.one b h.1;rw[(H.frame b I.1 (by omega)).2];exact F.fresh b (by omega)
   ·rw[(H.frame b h.2.1 (by omega)).2];exact F.fresh b (by omega)
   ·omega)
  b1
  (λb x=>by
   rcases N b with h|h|h|h|h|h|h<;>omega)
  H.size H.os H.tape H.output
 have h0:((j.rs.any λr=>r.pt.vX)=true\/E8 j.ps=true)->∀c∈hs',Good (λu=>U u\/(tk<=u/\u<tk+32)) G2 c:=by
  intro w2 c hc
  have L2:M8 j.ps=false:=by
   simp only[WK,l8,aqg,M',Bool.or_eq_false_iff]at l1;rcases l1.2 with h|⟨I,m⟩
   ·exact h
   ·rcases w2 with h|h
    ·rw[h]at I;cases I
    ·rw[h]at m;cases m
  rw[z1,ap3,ec]at hc;rcases hc with rfl|hc
  ·exact⟨by omega,.inl F.two.1.1,(e0 2 F.two.1.1).trans F.two.1.2⟩
  ·simp only[q_,apM,b_]at hc;obtain⟨⟨c',k⟩,⟨I,m⟩,rfl⟩:=hc;simp only at m;subst m;rcases s0 _ _ I with⟨_,q1,q2,q3⟩|h|h
   ·exact⟨q1,.inl q2,(e0 c' q2).trans (q3.resolve_right (by simp[L2]))⟩
   ·omega
   ·omega
 have c2:Good (λu=>U u\/(tk<=u/\u<tk+32)) G2 3:=⟨by omega,.inl F.two.2.1,(e0 3 F.two.2.1).trans F.two.2.2⟩
 have p0:∀c∈kG j.rs tk,tk<=c/\c<tk+(eO j.rs k0-k0):=by
  intro c hc;have I:=xF c hc;have m:=wW j.rs 0 tk;rw[aqa]at m;omega
 have x1:∀t s v,(t,s,v)∈Io2->cU w' G2 (.box t v) (a.tmps.getD s undef)/\bM (λu=>U u\/(tk<=u/\u<tk+32)) G2 (.box t v):=by
  rintro t s ⟨τ2,x2,sh2⟩ B;obtain⟨o0,i,v1,p,k1,v0,q1,q2,q3,q4,q5,q6,q7,rfl,q9,o3⟩:=W t s _ B;simp only at q9;subst q9
  have k2:=H.ios o0 i ⟨τ2,x2,(bc p k1 [2,1]).1⟩ (by
   rw[hk,k3];rw[aqa]at q1;exact q1)
  obtain⟨bk,c,el,e1,e2,e3,e4,e5,e6⟩:=k2;have G0:=F.slots s;rw[q4]at G0;obtain⟨E1,c',el',f1,f2,f3,f4,_⟩:=G0;rw[q5,f3,f1]at e1;simp only[Value.pointer.injEq,aoW,Addr.mk.injEq,and_true]at e1;subst e1;have T2:=fi o0 q3;rw[hk]at T2;have B1:=(F.bt s t (by rw[q4];simp[SV.bt])).2.1;have E0:=F.lt E1 (by omega);refine⟨⟨E1,c,el,f1,f2,(p1 t B1).trans f3,?_,e5,?_⟩,λd hd=> ?_,λd hd=> ?_,by simp[SV.rt]⟩
  ·rw[<-b0];simp only[uo];rw[an (by omega),a_ (by omega),an E0];exact f4
  ·exact KT u1 h3 (by omega) (by omega) e6
  ·rcases nz d hd with h|⟨I,m⟩|rfl
   ·exact h0 (.inr (o3 h.2)) d h.1
   rotate_left
   ·exact c2
   ·have e7:aU p (tk+(k1-k0))=tk+(aU p k1-k0):=by
     rw[show tk+(k1-k0)=(k1-k0)+tk by omega,fp];have:=fp p (k1-k0) k0;rw[show k1-k0+k0=k1 by omega]at this;have:=bU p k1;omega
    have h5:d<tk+32:=by omega
    refine⟨by omega,.inr ⟨by omega,h5⟩,?_⟩;rw[<-b0];simp only[uo];rw[an (by omega)];simp only[po,d_];intro J1;have:=p0 d J1;omega
  ·simp only[SV.bt,apW]at hd;subst hd;have h:=F.bt s d (by rw[q4];simp[SV.bt]);exact⟨h.1,.inl h.2.1,(e0 d h.2.1).trans h.2.2⟩
 have X2:∀ {s t v},(E.kill l).s.getD s .no= .box t v->∃v',E.s.getD s .no= .box t v':=by
  intro s t v h;rw[Env.Fk]at h;split at h
  ·exact⟨v,h⟩
  ·exact Ee h
 have hF:=hC.ad2 Io2 x1 b2 (λt s v B s' u he=>by
  obtain⟨o0,i,v1,p,k1,v0,_,_,_,q4,_⟩:=W t s v B
  have I:(E.kill l).s.getD s' .no= .box t u:=by
   rcases x0 s' with h|h
   ·exact h.symm.trans he
   ·have:SV.no= .box t u:=h.symm.trans he;cases this
  obtain⟨v',m⟩:=X2 I;have:=F.uni s' s t v' v0 m q4;subst this;have h3:SV.no= .box t u:=(wb Io2 (E.kill l).s s' ⟨t,v,B⟩).1.symm.trans he;cases h3)
 simp only[afG]at hF;have l2:=n3 u1 (by omega) vs (λi=>by have:=H.res i;rw[hk]at this;exact this)
 have C1:∀u u',(u,u')∈BQ E.rd bs Io2 j.kp->G2.hdr u'=G.hdr u/\4<=u'/\Good (λu=>U u\/(tk<=u/\u<tk+32)) G2 u':=by
  intro u u' Y;unfold BQ at Y;simp only[aqE]at Y;obtain⟨q,hq,Y⟩:=Y;split at Y
  ·rename_i b z x hz;split at Y
   ·rename_i rr y1;split at Y
    ·rename_i a1 a2 e1 e2;simp only[aoW,ao0]at Y;obtain⟨rfl,rfl⟩:=Y;obtain⟨o0,i,v0,v2,τ,g1,g2,g3,g4,g5,g6,g7⟩:=u9 F (hs':=hs') (i0:=0) hg (λi=>(hs i).1) (bz j.rs (bR j.ps) y k0 [2,1]).2.1 (tk+(eO j.rs k0-k0)) q.1 b.1 b.2 x;rw[D2]at g3;rw[hz]at g3;simp only[aoW]at g3;subst g3;rw[g5]at y1;simp only[aoW]at y1;subst y1;have n2:=apR hz;have o2:=x1 b.1 b.2 v2 n2;obtain⟨I,bk,c,el,f1,f2,f3,f4,f5⟩:=F.box g5;have G0:=F.slots b.2;rw[I]at G0;obtain⟨E1,p3,r3,F1,k2',s3,k4',u3,w3⟩:=G0;obtain⟨x3,c1,B3,j1,j2,j3,j4,j5,j6⟩:=o2.1;rw[j1]at F1;simp only[Value.pointer.injEq,aoW,Addr.mk.injEq,and_true]at F1;subst F1;have r1:=uA w3 e1;have r2:=uA j6 e2;have D1:=H.kept q hq o0 (0+i) τ g1 g2 x3 p3 r3 c1 B3 (by rw[aqa,g7,s3,j1]) u3 j5;rw[g4]at r2;simp only[g6]at r1;rw[r1.1,r2.1]at D1;simp only[aoW]at D1;exact⟨D1,r2.2.1,o2.2.1 _ r2.2.2⟩
    ·cases Y
   ·cases Y
  ·cases Y
 refine⟨G2,hF,?_,?_,λt u he s u' r0=> ?_,C1,λt s v B=> ?_⟩
 rotate_right
 ·obtain⟨o0,i,v1,p,k1,v0,_,_,_,q4,_⟩:=W t s v B;exact⟨v0,q4⟩
 ·rw[H.val];exact agA (by rw[H.len,l3]) l2
 ·refine adm (λsv J=> ?_);obtain⟨I,m,h4⟩:=u2 sv J;refine⟨λc hc=> ?_,λc hc=> ?_,by rw[h4];simp⟩
  ·rcases I c hc with(h|rfl)|⟨q1,q2,q3⟩
   ·exact h0 (.inl h.2) c h.1
   ·exact c2
   ·refine⟨by omega,.inr ⟨q1,by omega⟩,?_⟩;rw[<-b0];simp only[uo];rw[an (by omega)];simpa using q3
  ·have x:=p0 c (m c hc);refine⟨by omega,.inr ⟨x.1,by omega⟩,?_⟩;rw[<-b0];simp only[uo];rw[an (by omega)];simpa using m c hc
 ·have ht:t∈kG j.rs tk:=by
   rcases LW (bz j.rs (bR j.ps) y tk hs').1 with⟨sv,hL,e⟩|⟨_,⟨ts,_,e⟩|e⟩
   ·rw[e]at he;subst he;exact(u2 (.box t u) (by rw[hL];simp)).2.1 t (by simp[SV.bt])
   ·rw[e]at he;cases he
   ·rw[e]at he;cases he
  have x:=p0 t ht
  have B1:U t:=by
   rcases zU Io2 (E.kill l).s s with h|⟨t',v',I,m⟩
   ·rw[h]at r0;exact(hK.bt s t (by rw[r0];simp[SV.bt])).2.1
   ·rw[m]at r0;simp only[SV.box.injEq]at r0;obtain⟨o0,i,v1,p,k1,v0,_,_,_,q4,_⟩:=W t' s v' I;rw[<-r0.1];exact(F.bt s t' (by rw[q4];simp[SV.bt])).2.1
  exact hU t x.1 (by omega) B1
theorem B0(s:Nat):∀(l:List (Nat×Nat×TV)) {L L':List SV},L.length=L'.length->(cg l L).getD s .no=(cg l L').getD s .no\/((cg l L).getD s .no=L.getD s .no/\(cg l L').getD s .no=L'.getD s .no)
 | [],_,_,_=> .inr ⟨rfl,rfl⟩
 |(t,s0,v)::l,L,L',hl=>by
  simp only[cg];rcases B0 s l (L:=L.set s0 (.box t v)) (L':=L'.set s0 (.box t v)) (by simpa using hl)with h|⟨h1,h2⟩;exact .inl h;rw[h1,h2,fA,fA,hl];by_cases e:s=s0/\s0<L'.length;left;rw[an e,an e];right;rw[a_ e,a_ e];exact⟨rfl,rfl⟩
def Aj(E:Env)(ts:List Nat)(b:List (Nat×Nat)):(E.cK ts b).s.length=E.s.length:=by
 unfold Env.cK;split;unfold Env.kill;split<;>simp;simp
def Ip(E:Env)(ts:List Nat)(c:List (Nat×Nat))(s:Nat):(E.cK ts c).s.getD s .no=(E.kill ts).s.getD s .no\/
 ∃b d e i o p τ,E.s.getD s .no= .ept b e i o p τ/\c.lookup b=some d/\(E.cK ts c).s.getD s .no= .ept d e i o p τ:=by
 unfold Env.cK;split;exact .inl rfl;have j:SV.cK ts c .no= .no:=by simp only[SV.cK];split<;>rfl
 simp only[getD_map j]
 have k:(E.kill ts).s.getD s .no=if ts.isEmpty then E.s.getD s .no else(E.s.getD s .no).kill ts:=by
  unfold Env.kill;split;rfl;exact getD_map (T:=SV.kill ts) rfl s
 rw[k];cases hs:E.s.getD s .no with
 |ept b e i o p τ=>
  cases h:c.lookup b with
  |none=>left;simp only[SV.cK,h]
  |some d=>right;exact⟨b,d,e,i,o,p,τ,rfl,h,by simp only[SV.cK,h]⟩
 |_=>left;simp only[SV.cK]
theorem Inv.upd{c:Env}(b:Inv w0 c0 U E a w G)(B:c.s.length=E.s.length)(hk:c.kp=E.kp)
 (h:∀s,c.s.getD s .no=E.s.getD s .no\/(cU w G (c.s.getD s .no) (a.tmps.getD s undef)/\bM U G (c.s.getD s .no)/\∀t v,c.s.getD s .no≠ .box t v)):Inv w0 c0 U c a w G:=by
 refine {b with len:=b.len.trans B.symm,slots:=λs=> ?_,sc:=λs=> ?_,bt:=λs=> ?_,rt:=λs=> ?_,uni:=λs y t u z e l=> ?_,hk:=by rw[hk];exact b.hk};rcases h s with h|h;rw[h];exact b.slots s;exact h.1;rcases h s with h|h;rw[h];exact b.sc s;exact h.2.1.1;rcases h s with h|h;rw[h];exact b.bt s;exact h.2.1.2.1;rcases h s with h|h;rw[h];exact b.rt s;exact h.2.1.2.2;rcases h s with p|p;rcases h y with q|q;rw[p]at e;rw[q]at l;exact b.uni s y t u z e l;exact absurd l (q.2.2 t z);exact absurd e (p.2.2 t u)
def aaH(E:Env)(ts:List Nat):(E.kill ts).kp=E.kp:=by unfold Env.kill;split<;>rfl
def afE(E:Env)(ts:List Nat)(b:List (Nat×Nat)):(E.cK ts b).kp=E.kp:=by
 unfold Env.cK;split;exact aaH E ts;rfl
theorem Inv.rep{y:C0}{z:World}{U':Nat->Prop}{w':World}{G2:Gh}{ts:List Nat}{l:List (Nat×Nat)}{Io2:List (Nat×Nat×TV)}
 (J:Inv w0 c0 U' {E.kill ts with s:=cg Io2 (E.kill ts).s} a w' G2) (K:Inv z y U E a w G)
 (B:∀u q,(u,q)∈l->G2.hdr q=G.hdr u/\4<=q/\Good U' G2 q):
 Inv w0 c0 U' {E.cK ts l with s:=cg Io2 (E.cK ts l).s} a w' G2:=by
 have H:(E.cK ts l).s.length=(E.kill ts).s.length:=by rw[Aj];unfold Env.kill;split<;>simp
 refine J.upd (by show(cg Io2 (E.cK ts l).s).length=(cg Io2 (E.kill ts).s).length;rw[qQ,qQ,H]) (by show(E.cK ts l).kp=(E.kill ts).kp;rw[aaH,afE]) (λs=> ?_);show(cg Io2 (E.cK ts l).s).getD s .no=(cg Io2 (E.kill ts).s).getD s .no\/_;rcases B0 s Io2 H with h|⟨I,h2⟩;exact .inl h;rcases Ip E ts l s with h|⟨b,b',e,i,o,p,τ,h3,h4,h5⟩;left;rw[I,h2,h];right;show cU w' G2 ((cg Io2 (E.cK ts l).s).getD s .no) _/\bM U' G2 ((cg Io2 (E.cK ts l).s).getD s .no)/\∀t v,(cg Io2 (E.cK ts l).s).getD s .no≠ .box t v;rw[I,h5];have hs:=K.slots s;rw[h3]at hs;obtain⟨N,off,n,cap,k1,S,W,Y,k5⟩:=hs;obtain⟨g1,g2,g3⟩:=B b b' (iP h4);exact⟨⟨N,off,n,cap,g2,g1.trans S,W,Y,k5⟩,⟨by simp[SV.sc],by simp[SV.bt],by simp only[SV.rt,apW];rintro c rfl;exact g3⟩,by simp⟩
end
def Enters(P:Program)(r:Result Next)(R:Value->World->Prop):Prop:=
 match r with
 | .ok (.enter f args) w1=>Calls P f args w1 (λe w'=>∃v,e= .returned v/\R v w')
 | .ok (.value v) w1=>R v w1
 |_=>False
theorem Enters.mono{P:Program}{r:Result Next}{R R':Value->World->Prop}(h:Enters P r R)(l:∀v w,R v w->R' v w):Enters P r R':=by
 unfold Enters at*
 split;rename_i f args w1;exact Calls.mono h (λe w' ⟨v,b,c⟩=>⟨v,b,l v w' c⟩);exact l _ _ h;rename_i b c;split at h;exact b _ _ _ rfl;exact c _ _ rfl;exact h
structure wH(P:Program)(C:Cx):Prop extends CxTy P C where
 ct:∀f con,C.ct f=some con->vd P f con
 mixed:P.follows .mixedOrders=true
section
variable{P:Program}{C:Cx}{w0:World}{c0:C0}{U:Nat->Prop}{E:Env}{a:Act}{w:World}{G:Gh}{ops:List Oper}{g:Option (Nat×Bool)}
theorem aaZ(b:Inv w0 c0 U E a w G)(c:RI ops E a.tmps)(d:Gd ops a.tmps g):∀ {xs:List Operand} {ts:List TypeId} {as:List SV},pU C E.rd g xs ts=some as->
 as.length=xs.length/\∀i,cU w G (as.getD i .no) ((xs.map a.eval).getD i undef)/\bM U G (as.getD i .no)
 | [],[],as,h=>by
   simp only[pU,aoW]at h;subst h;exact⟨rfl,λi=>⟨trivial,by simp[bM,SV.sc,SV.bt,SV.rt]⟩⟩
 |x::xs,t::ts,as,h=>by
  simp only[pU]at h;split at h;rename_i v vs e j;cases h;obtain⟨k,l⟩:=aaZ b c d j;refine⟨by simp[k],λi=> ?_⟩;cases i with
  |zero=>simpa using gP b c d e
  |succ i=>simpa using l i
  cases h
 | [],_::_,_,h|_::_,[],_,h=>by simp[pU]at h
def Us(P:Program)(w0:World)(c0:C0)(U:Nat->Prop)(E:Env)(a:Act)(r:Result Next):Ef->Prop
 | .val v=>Yields w0 c0 U E a r v
 | .chk c v=>c=true->Yields w0 c0 U E a r v
 | .put b s v=>∃w' G',r= .ok .skip w'/\Inv w0 c0 U {E with s:=E.s.set s (.box b v)} a w' G'
 | .app c kl gv t v=>c=true->Yields w0 c0 U ((E.kill kl).aX gv t) a r v
 | .elem gv b e l m=>∃w' G',r= .ok .skip w'/\Inv w0 c0 U (E.elem gv b e l m) a w' G'
 | .nap c gv b e l m v=>c=true->Yields w0 c0 U (E.elem gv b e l m) a r v\/(v= .no/\∃w' G',r= .ok .skip w'/\Inv w0 c0 U (E.elem gv b e l m) a w' G')
 | .opt _ _ x f=>∀y,x=some y->Enters P r (λmv w'=>∃G',Inv w0 c0 U E a w' G'/\cU w' G' (f y) mv/\bM U G' (f y)/\(∀t u,f y= .box t u->∀s d,E.s.getD s .no≠ .box t d))
 | .call _ x tks f rp=>∀y,x=some y->Enters P r (λmv w'=>∃G',Inv w0 c0 U {E.cK tks (rp y)with s:=cg (f y).2 (E.cK tks (rp y)).s} a w' G'/\cU w' G' (f y).1 mv/\bM U G' (f y).1/\
  (∀t u,(f y).1= .box t u->∀s d,(cg (f y).2 (E.cK tks (rp y)).s).getD s .no≠ .box t d))
theorem Us.aeS{r:Result Next}{b:Ef}(h:nh w0 c0 U E a r b):Us P w0 c0 U E a r b:=by
 cases b<;>first|exact h|exact h.elim
theorem Hs(hs:List Nat):∀(ps:List PK) (r:bu (bR ps)) (k:Nat),dK hs ps r [] k=[]
 | [],_,_=>rfl
 | .val _ _::ps,r,k=>Hs hs ps r k
 | .io _ _::_,_,_=>rfl
 | .rd _::ps,r,k| .vx _ _::ps,r,k=>Hs hs ps r k
def ail(hC:wH P C)(W:Inv w0 c0 U E a w G)(hR:RI ops E a.tmps)(hg:Gd ops a.tmps g){tk:Nat}(h3:4<=tk)(hU:∀u,tk<=u->u<tk+32->¬U u){o:Oper}{c:Call}{f:FuncId}{ef:Ef}
 (ho:o.op= .call c) (hb:c.callee= .value (.func f)) (h:bK C ops E.rd tk g o=some ef):
 Us P w0 c0 (λu=>U u\/(tk<=u/\u<tk+32)) E a ((execOp a.eval o).run P w) ef:=by
 have J:(execOp a.eval o).run P w=(callFunc f (c.args.toList.map a.eval).toArray).run P w:=by
  have e:(c.args.toList.map a.eval).toArray=c.args.map a.eval:=aqN (by simp);rw[e];simp only[execOp,ho];simp[resolve,hb,Deferred.ofValue,Act.eval,invoke]
 simp only[bK,ho,hb]at h;unfold GY at h;split at h;cases h;rename_i d Y;have hM:=hC.ct f d Y;split at h;cases h;rename_i as has;obtain⟨hlen,l⟩:=aaZ W hR hg has;split at h;cases h;rename_i xs j q H;split at h;rename_i k;simp only[l8,b_]at k;obtain⟨⟨hr,h32⟩,m⟩:=k
 obtain⟨G1,K,b0⟩:=aiR W H l (by simp[hlen]) hr (λc hc=>by
  simp only[WK,l8,C',b_,M',po,d_]at m;have:=m.1 c hc;exact⟨this.1.1,this.1.2,this.2⟩)
 have key:∀y,d.F xs=some y->Enters P ((execOp a.eval o).run P w) (λS w'=>∃G2,
  Inv w0 c0 (λu=>U u\/(tk<=u/\u<tk+32)) {E.kill (((j.filter (4<=·.2)).map (·.1)).filter λc=> !q.any (·.1=c))with
   s:=cg (dK (2::(j.filter (·.2=1)).map (·.1)).eraseDups d.ps (bz d.rs (bR d.ps) y tk (2::(j.filter (·.2=1)).map (·.1)).eraseDups).2.1 q (bz d.rs (bR d.ps) y tk (2::(j.filter (·.2=1)).map (·.1)).eraseDups).2.2) (E.kill (((j.filter (4<=·.2)).map (·.1)).filter λc=> !q.any (·.1=c))).s} a w' G2/\
  cU w' G2 (oG (bz d.rs (bR d.ps) y tk (2::(j.filter (·.2=1)).map (·.1)).eraseDups).1) S/\bM (λu=>U u\/(tk<=u/\u<tk+32)) G2 (oG (bz d.rs (bR d.ps) y tk (2::(j.filter (·.2=1)).map (·.1)).eraseDups).1)/\
  (∀t u,oG (bz d.rs (bR d.ps) y tk (2::(j.filter (·.2=1)).map (·.1)).eraseDups).1= .box t u->∀s r,
   (cg (dK (2::(j.filter (·.2=1)).map (·.1)).eraseDups d.ps (bz d.rs (bR d.ps) y tk (2::(j.filter (·.2=1)).map (·.1)).eraseDups).2.1 q (bz d.rs (bR d.ps) y tk (2::(j.filter (·.2=1)).map (·.1)).eraseDups).2.2) (E.kill (((j.filter (4<=·.2)).map (·.1)).filter λc=> !q.any (·.1=c))).s).getD s .no≠ .box t r)/\
  (∀u r,(u,r)∈BQ E.rd q (dK (2::(j.filter (·.2=1)).map (·.1)).eraseDups d.ps (bz d.rs (bR d.ps) y tk (2::(j.filter (·.2=1)).map (·.1)).eraseDups).2.1 q (bz d.rs (bR d.ps) y tk (2::(j.filter (·.2=1)).map (·.1)).eraseDups).2.2) d.kp->
   G2.hdr r=G.hdr u/\4<=r/\Good (λu=>U u\/(tk<=u/\u<tk+32)) G2 r)/\
  (∀t s v,(t,s,v)∈dK (2::(j.filter (·.2=1)).map (·.1)).eraseDups d.ps (bz d.rs (bR d.ps) y tk (2::(j.filter (·.2=1)).map (·.1)).eraseDups).2.1 q (bz d.rs (bR d.ps) y tk (2::(j.filter (·.2=1)).map (·.1)).eraseDups).2.2->∃v0,E.s.getD s .no= .box t v0)):=by
  intro y I;rw[J];have:=hM w G1 (c.args.toList.map a.eval) xs y I K;exact Enters.mono (show Enters P _ _ from this) (λS w' ⟨G',vs,nt,hp⟩=>aky W m H l hr b0 hp h3 hU h32 rfl rfl)
 simp only at h;split at h;rename_i x;cases h;simp only[l8,List.isEmpty_iff]at x;obtain⟨e1,e2⟩:=x;intro y I;refine(key y I).mono (λS w' hh=> ?_);obtain⟨G2,N,k2,k3,B,_⟩:=hh;rw[e2]at N B;subst e1;simp only[Hs,cg,Env.kill,List.isEmpty_nil,if_true]at N B;exact⟨G2,N,k2,k3,B⟩;cases h;intro y I;refine(key y I).mono (λS w' hh=> ?_);obtain⟨G2,N,k2,k3,B,k5,k6⟩:=hh;refine⟨G2,N.rep W k5,k2,k3,λt u he s r z=> ?_⟩
 have hl:(E.cK (((j.filter (4<=·.2)).map (·.1)).filter λc=> !q.any (·.1=c)) (BQ E.rd q (dK (2::(j.filter (·.2=1)).map (·.1)).eraseDups d.ps (bz d.rs (bR d.ps) y tk (2::(j.filter (·.2=1)).map (·.1)).eraseDups).2.1 q (bz d.rs (bR d.ps) y tk (2::(j.filter (·.2=1)).map (·.1)).eraseDups).2.2) d.kp)).s.length=(E.kill (((j.filter (4<=·.2)).map (·.1)).filter λc=> !q.any (·.1=c))).s.length:=by
  rw[Aj];unfold Env.kill;split<;>simp
 rcases B0 s (dK (2::(j.filter (·.2=1)).map (·.1)).eraseDups d.ps (bz d.rs (bR d.ps) y tk (2::(j.filter (·.2=1)).map (·.1)).eraseDups).2.1 q (bz d.rs (bR d.ps) y tk (2::(j.filter (·.2=1)).map (·.1)).eraseDups).2.2) hl with h|⟨h1,h2⟩;exact B t u he s r (h.symm.trans z);rcases Ip E (((j.filter (4<=·.2)).map (·.1)).filter λc=> !q.any (·.1=c)) (BQ E.rd q (dK (2::(j.filter (·.2=1)).map (·.1)).eraseDups d.ps (bz d.rs (bR d.ps) y tk (2::(j.filter (·.2=1)).map (·.1)).eraseDups).2.1 q (bz d.rs (bR d.ps) y tk (2::(j.filter (·.2=1)).map (·.1)).eraseDups).2.2) d.kp) s with h|⟨b,b',e,i,o,p,τ,h3,h4,h5⟩;exact B t u he s r (h2.trans (h.symm.trans (h1.symm.trans z)));have:=h5.symm.trans (h1.symm.trans z);cases this;cases h
def Xv(hC:wH P C)(q:Inv w0 c0 U E a w G)(B:RI ops E a.tmps)(F:Gd ops a.tmps g){tk:Nat}(W:4<=tk)(hU:∀u,tk<=u->u<tk+32->¬U u){o:Oper}{S:Ef}
 (h:bK C ops E.rd tk g o=some S):Us P w0 c0 (λu=>U u\/(tk<=u/\u<tk+32)) E a ((execOp a.eval o).run P w) S:=by
 have i:=hC.toCxTy;have H:nh w0 c0 U E a ((execOp a.eval o).run P w) S->Us P w0 c0 (λu=>U u\/(tk<=u/\u<tk+32)) E a ((execOp a.eval o).run P w) S:=λh=> .aeS (h.mono λu K=> .inl K)
 have m1:nh w0 c0 (λu=>U u\/u=tk) E a ((execOp a.eval o).run P w) S->Us P w0 c0 (λu=>U u\/(tk<=u/\u<tk+32)) E a ((execOp a.eval o).run P w) S:=
  λh=> .aeS (h.mono λu K=>K.imp id λe=>by omega)
 have J:=hU tk (gh _) (by omega);cases k:o.op with
 |move x=>
  have p:=h;simp only[bK,k,B_]at p;obtain⟨sv,hs,rfl⟩:=p;exact H (aav q B F hs (by simp[execOp,k]))
 |assign x=>
  have p:=h;simp only[bK,k,B_]at p;obtain⟨sv,hs,rfl⟩:=p;exact H (aav q B F hs (by simp[execOp,k]))
 |pick c x y=>exact H (aiA q B F k h)
 |alloc t=>exact m1 (afC i q W J k h)
 |box t x=>exact m1 (aiV q B F W J k h)
 |build t ps=>exact H (akD i q B F k h)
 |buildSlice t n ps=>exact m1 (Vh i q B F W J k h)
 |load t x=>exact H (aiw i q B F k h)
 |nilCheck x=>exact H (ZE q B F k h)
 |binOp op t x y u=>exact H (ajk i q B F k h)
 |unOp op t x=>exact H (akW q B F k h)
 |convert s d x=>exact H (ahQ i q B F k h)
 |makeSlice t n c=>exact m1 (YE i q B F W J k h)
 |slice t x lo hi mx=>exact H (afS i q B F k h)
 |fieldAddr s x j=>exact H (Ys i q B F k h)
 |field s x j=>exact H (ahf i q B F k h)
 |indexAddr t x n=>exact H (Yu i q B F k h)
 |index t x n=>exact H (ahi i q B F k h)
 |extract x j=>exact H (aa9 q B F k h)
 |store t x y=>
  have key:∀e,bK C ops E.rd tk g o=some e->(∃b s v,e= .put b s v)\/∃gv b e' l m,e= .elem gv b e' l m:=by
   intro e I;simp only[bK,k]at I;split at I;split at I;obtain⟨r,_,rfl⟩:=B_.mp (Option.ite_none_right_eq_some.mp I).2;exact .inl ⟨_,_,_,rfl⟩;cases I;split at I;obtain⟨_,I⟩:=Option.ite_none_right_eq_some.mp I;obtain⟨_,I⟩:=Option.ite_none_left_eq_some.mp I;obtain⟨r,_,rfl⟩:=B_.mp I;exact .inr ⟨_,_,_,_,_,rfl⟩;cases I;cases I
  rcases key _ h with⟨b,s,v,rfl⟩|⟨gv,b,e',l,m,rfl⟩;obtain⟨w',h1,h2⟩:=aje i q B F k h;exact⟨w',G,h1,h2.mono λu K=> .inl K⟩;obtain⟨w',G',h1,h2⟩:=ain i q B F k h;exact⟨w',G',h1,h2.mono λu K=> .inl K⟩
 |call c=>
  cases Y:c.callee with
  |builtin b=>
   by_cases N:∃cd kl gv t v,S= .app cd kl gv t v;obtain⟨cd,kl,gv,t,v,rfl⟩:=N
   have e0:b= .append:=by
    have p:=h;simp only[bK,k,Y]at p;unfold qL at p;split at p;exfalso;split at p;cases p;split at p;split at p<;>cases p;split at p<;>cases p;cases p;exfalso;split at p;split at p<;>cases p;cases p;exfalso;split at p;split at p<;>cases p;cases p;rfl;cases p
   subst e0;intro b0;obtain⟨rfl,hy⟩:=akm i q B F W J k Y h b0;exact hy.mono λu K=>K.imp id λe=>by omega
   exact H (ajx i q B F k Y (λx y z u v e=>N ⟨x,y,z,u,v,e⟩) h)
  |value x=>
   cases x with
   |func f=>exact ail hC q B F W hU k Y h
   |_=>simp[bK,k,Y]at h
  |invoke r m=>simp[bK,k,Y]at h
 |_=>simp[bK,k]at h
end
theorem aZ.FE{α:Type}{R R':α->List Value->List Nat->Prop}{sz:Nat}(q:∀x c B,R x c B->c.length=sz)(b:∀x c B,R' x c B->c.length=sz)
 (u:∀x p c B B',R x c B->R' p c B'->x=p):∀ {l e:List α} {cs:List Value} {B B':List Nat},aZ R l cs B->aZ R' e cs B'->l.length=e.length->l=e
 | [],[],_,_,_,_,_,_=>rfl
 |x::l,y::e,cs,B,B',h,h',hn=>by
  obtain⟨I,c2,B1,B2,rfl,rfl,v,J⟩:=h;obtain⟨K,d2,D1,D2,N,rfl,z,S⟩:=h';have H:I.length=K.length:=by rw[q _ _ _ v,b _ _ _ z]
  obtain⟨rfl,rfl⟩:=aqO N H;rw[u _ _ _ _ _ v z,aZ.FE q b u J S (by simpa using hn)]
 | [],_::_,_,_,_,_,_,hn|_::_,[],_,_,_,_,_,hn=>by simp at hn
theorem aW.FE{w:World}:∀ {τ:Ty} {x u:τ.den} {cs:List Value} {B B':List Nat},aW w τ x cs B->aW w τ u cs B'->x=u
 | .int _,x,u,cs,_,_,h,p=>by have:=h.1.symm.trans p.1;simpa using this
 | .bool,x,u,cs,_,_,h,p=>by have:=h.1.symm.trans p.1;simpa using this
 | .str,x,u,cs,_,_,h,p=>by have:=h.1.symm.trans p.1;simpa using this
 | .pair a b,x,u,cs,_,_,h,p=>by
   obtain⟨c1,c2,B1,B2,rfl,rfl,K,Y⟩:=h;obtain⟨d1,d2,D1,D2,he,rfl,N,k2⟩:=p;obtain⟨rfl,rfl⟩:=aqO he (by rw[aW.len K,aW.len N]);exact aqS (aW.FE K N) (aW.FE Y k2)
 | .sl e,l,l',cs,_,_,h,p=>by
   obtain⟨v,rfl,h⟩:=h;obtain⟨v',S,p⟩:=p;simp only[aqP,and_true]at S;subst S;rcases h with⟨⟨ao,J⟩,z,_⟩|⟨b,off,cap,c,el,fz,Bs,J,hcap,hb,hsz,_,hl⟩<;>rcases p with⟨⟨ao',q⟩,H,_⟩|⟨b',off',cap',c',el',fz',Bs',q,hcap',y,hsz',_,I⟩;rw[z,H];rw[J]at q;simp only[Value.slice.injEq]at q;rw[z,aqc.1 q.2.1.symm];rw[J]at q;simp only[Value.slice.injEq]at q;rw[H,aqc.1 q.2.1];rw[J]at q;simp only[Value.slice.injEq,aoW,Addr.mk.injEq,and_true]at q;obtain⟨⟨rfl,rfl⟩,W,rfl⟩:=q;rw[hb]at y;simp only[aoW,Obj.cells.injEq]at y;obtain⟨rfl,_,_⟩:=y;rw[<-W]at I;exact aZ.FE (sz:=e.sz) (λx c B h=>aW.len h) (λx c B h=>aW.len h) (λx u c B B' h p=>aW.FE h p) hl I W
def RZ(τ:Ty):τ.sub []=some τ:=by cases τ<;>rfl
def Dc(τ:Ty):τ.off []=0:=by cases τ<;>rfl
theorem aW.place{w:World}:∀ {p:List Bool} {τ σ:Ty} {x:τ.den} {cs:List Value} {B:List Nat},aW w τ x cs B->τ.sub p=some σ->
 ∃(f:σ.den->τ.den) (z:σ.den) (u y v:List Nat),f z=x/\B=u++y++v/\aW w σ z ((cs.drop (τ.off p)).take σ.sz) y/\τ.off p+σ.sz<=τ.sz/\
  ∀(w':World) (e:σ.den) (l:List Value) (B':List Nat),(∀k∈u++v,w'.heap[k]?=w.heap[k]?)->aW w' σ e l B'->aW w' τ (f e) (dL (τ.off p) l cs) (u++B'++v)
 | [],τ,σ,x,cs,B,h,hs=>by
   rw[RZ]at hs;cases hs;have I:=aW.len h;refine⟨id,x,[],B,[],rfl,by simp,?_,by rw[Dc];omega,λw' e l B' _ q=> ?_⟩;rw[Dc,aqh,apN (by omega)];exact h;rw[Dc];unfold dL;rw[aqQ,aqf,aqa,apO (by rw[I,aW.len q];exact gh _),aqw];simpa using q
 |false::p,.pair a b,σ,x,cs,B,h,hs=>by
  obtain⟨K,Y,N,S,rfl,rfl,J,W⟩:=h;simp only[Ty.sub]at hs;obtain⟨f,z,u,y,v,q1,rfl,q3,q4,q5⟩:=aW.place J hs;have I:=aW.len J;refine⟨λe=>(f e,x.2),z,u,y,v++S,aqS q1 rfl,by simp,?_,by simp only[Ty.off,Ty.sz];omega,λw' e l B' H q=> ?_⟩;simp only[Ty.off];rw[apC (by omega),apI (by simp;omega)];exact q3;have hlz:=aW.len q;refine⟨_,Y,_,S,?_,by simp,q5 w' e l B' (λk c=>H k (by simp only[ev]at c|-;rcases c with h|h<;>simp[h])) q,aW.mono (λk c=>H k (by simp[c])) W⟩;simp only[Ty.off,dL];rw[apI (by omega),apC (by omega)];simp
 |true::p,.pair a b,σ,x,cs,B,h,hs=>by
  obtain⟨K,Y,N,S,rfl,rfl,J,W⟩:=h;simp only[Ty.sub]at hs;obtain⟨f,z,u,y,v,q1,rfl,q3,q4,q5⟩:=aW.place W hs;have I:=aW.len J;refine⟨λe=>(x.1,f e),z,N++u,y,v,aqS rfl q1,by simp,?_,by simp only[Ty.off,Ty.sz];omega,λw' e l B' H q=> ?_⟩;simp only[Ty.off];rw[<-I,aqd,apO (by omega),aqf,show K.length+b.off p-K.length=b.off p by omega];exact q3;refine⟨K,_,N,_,?_,by simp,aW.mono (λk c=>H k (by simp[c])) J,q5 w' e l B' (λk c=>H k (by simp only[ev]at c|-;rcases c with h|h<;>simp[h])) q⟩;simp only[Ty.off,dL];rw[<-I,aqq,apN (by omega),aqd,apO (by omega)];simp[aql]
 |b::p,.int _,_,_,_,_,_,hs|b::p,.bool,_,_,_,_,_,hs|b::p,.str,_,_,_,_,_,hs|b::p,.sl _,_,_,_,_,_,hs=>by simp[Ty.sub]at hs
theorem aZ.aeF{e:Ty}{w w':World}{l:List e.den}{cs:List Value}{B:List Nat}(c:∀b∈B,w'.heap[b]?=w.heap[b]?)(h:aZ (aW w e) l cs B):aZ (aW w' e) l cs B:=aZ.world c h
theorem Ck:∀ {p:List Bool} {τ σ:Ty},τ.sub p=some σ->τ.off p+σ.sz<=τ.sz
 | [],τ,σ,h=>by rw[RZ]at h;cases h;rw[Dc];omega
 |false::p,.pair a b,σ,h=>by have:=Ck (τ:=a) h;simp only[Ty.off,Ty.sz];omega
 |true::p,.pair a b,σ,h=>by have:=Ck (τ:=b) h;simp only[Ty.off,Ty.sz];omega
 |b::p,.int _,_,hs|b::p,.bool,_,hs|b::p,.str,_,hs|b::p,.sl _,_,hs=>by simp[Ty.sub]at hs
theorem EP:∀ {p:List Bool} {τ:Ty} {x:τ.den} {sh:Sh} {r:TV},jw τ x sh p=some r->τ.sub p=some r.τ
 | [],τ,x,sh,r,h=>by
   have:r=⟨τ,x,sh⟩:=by cases τ<;>(simp only[jw,aoW]at h;exact h.symm)
   rw[RZ,this]
 |false::p,.pair a b,x,.pair s1 s2,r,h=>by simp only[jw]at h;simp only[Ty.sub];exact EP h
 |true::p,.pair a b,x,.pair s1 s2,r,h=>by simp only[jw]at h;simp only[Ty.sub];exact EP h
 |b::p,.int _,_,_,_,h|b::p,.bool,_,_,_,h|b::p,.str,_,_,_,h|b::p,.sl _,_,_,_,h=>by simp[jw]at h
 |b::p,.pair _ _,_,.leaf,_,h|b::p,.pair _ _,_,.sl _,_,h=>by cases b<;>simp[jw]at h
theorem L7{w:World}:∀ {p:List Bool} {τ:Ty} {x:τ.den} {sh:Sh} {r:TV} {cs:List Value} {B:List Nat},jw τ x sh p=some r->aW w τ x cs B->
 ∃B',aW w r.τ r.x ((cs.drop (τ.off p)).take r.τ.sz) B'
 | [],τ,x,sh,r,cs,B,h,hr=>by
   have:r=⟨τ,x,sh⟩:=by cases τ<;>(simp only[jw,aoW]at h;exact h.symm)
   subst this;rw[Dc,aqh,apN (by rw[aW.len hr];exact gh _)];exact⟨B,hr⟩
 |false::p,.pair a b,x,.pair s1 s2,r,cs,B,h,hr=>by
  obtain⟨d,k,l,m,rfl,rfl,c,j⟩:=hr;simp only[jw]at h;obtain⟨B',e⟩:=L7 h c;have hso:=Ck (EP h);have i:=aW.len c;refine⟨B',?_⟩;simp only[Ty.off];rw[apC (by omega),apI (by simp;omega)];exact e
 |true::p,.pair a b,x,.pair s1 s2,r,cs,B,h,hr=>by
  obtain⟨d,k,l,m,rfl,rfl,c,j⟩:=hr;simp only[jw]at h;obtain⟨B',e⟩:=L7 h j;have i:=aW.len c;refine⟨B',?_⟩;simp only[Ty.off];rw[<-i,aqd,apO (by omega),aqf,show d.length+b.off p-d.length=b.off p by omega];exact e
 |b::p,.int _,_,_,_,_,_,h,_|b::p,.bool,_,_,_,_,_,h,_|b::p,.str,_,_,_,_,_,h,_|b::p,.sl _,_,_,_,_,_,h,_=>by simp[jw]at h
 |b::p,.pair _ _,_,.leaf,_,_,_,h,_|b::p,.pair _ _,_,.sl _,_,_,_,h,_=>by cases b<;>simp[jw]at h
theorem aZ.place{w:World}{τ σ:Ty}{l:List τ.den}{cs:List Value}{B:List Nat}(h:aZ (aW w τ) l cs B){i:Nat}(hi:i<l.length){p:List Bool}(hs:τ.sub p=some σ):
 ∃(f:σ.den->List τ.den) (z:σ.den) (q H u:List Nat),f z=l/\B=q++H++u/\aW w σ z ((cs.drop (i*τ.sz+τ.off p)).take σ.sz) H/\i*τ.sz+τ.off p+σ.sz<=l.length*τ.sz/\(∀e,(f e).length=l.length)/\
  ∀(w':World) (e:σ.den) (y:List Value) (B':List Nat),(∀k∈q++u,w'.heap[k]?=w.heap[k]?)->aW w' σ e y B'->aZ (aW w' τ) (f e) (dL (i*τ.sz+τ.off p) y cs) (q++B'++u):=by
 have N:l[i]?=some l[i]:=Q_ hi;obtain⟨S,Bx,W,rfl,Y,h2,h3⟩:=aZ.get (sz:=τ.sz) (λx c B h=>aW.len h) h N;obtain⟨f,z,q,H,u,q1,rfl,q3,q4,q5⟩:=aW.place Y hs;have hl:=aZ.len (sz:=τ.sz) (λx c B h=>aW.len h) h;have hmul:(i+1)*τ.sz<=l.length*τ.sz:=apG _ hi;rw[S',ap7]at hmul;refine⟨λe=>l.set i (f e),z,S++q,H,u++W,by show l.set i (f z)=l;rw[q1];simp,by simp,?_,by omega,λe=>by simp,λw' e y B' I K=> ?_⟩;rw[S_,apU,apT,apQ (by omega)]at q3;exact q3;have J:=q5 w' e y B' (λk b=>I k (by simp only[ev]at b|-;rcases b with h|h<;>simp[h])) K;have v:=aZ.set (sz:=τ.sz) (l:=l) (cs:=cs) hi J (aZ.aeF (λk b=>I k (by simp[b])) h2) (aZ.aeF (λk b=>I k (by simp[b])) h3);rw[xa (sz:=τ.sz) (by have:=aW.len K;omega),show i*τ.sz+τ.sz=(i+1)*τ.sz by rw[S',ap7]];simpa[R_]using v
section
variable{P:Program}{C:Cx}{w0:World}{c0:C0}{U:Nat->Prop}{E:Env}{a:Act}{w:World}{G:Gh}{ops:List Oper}{g:Option (Nat×Bool)}
theorem Inv.akV(c:Inv w0 c0 U E a w G){tk:Nat}(q:¬U tk):Inv w0 c0 (λu=>U u\/u=tk) E a w {G with bx:=λu=>if u=tk then false else G.bx u}:=by
 refine c.change (ts:=[]) (λ_ _ _=>by simp) (λb _ _=>⟨rfl,rfl⟩) (λt l=>⟨rfl,a_ (λe:t=tk=>q (e▸l))⟩) (λ_ h=> .inl h) (λb p=> .inl (c.colU b p)) c.lt c.fresh c.frame (λ_ _=>rfl) (gh _) rfl rfl rfl
theorem Inv.ahw(N:Inv w0 c0 U E a w G){ts:List Nat}{b:Nat}{e:Ty}{l:List e.den}{m:M}{w':World}(p:4<=b)(z:∀c∈ts,4<=c/\Good U G c)(K:Good U G b)(S:∀c∈m.aJ,Good U G c)
 (q:cL w' (G.aX ts b (G.hdr b)) e l (G.hdr b) m) (B:∀k,(G.aX ts b (G.hdr b)).col k≠b->w'.heap[k]?=w.heap[k]?)
 (H:∀k,(G.aX ts b (G.hdr b)).col k=b->∃c el,w'.heap[k]?=some (.cells c el (0,0))) (size:w.heap.size=w'.heap.size) (W:w'.os=w.os) (tape:w'.tape=w.tape) (output:w'.output=w.output):
 Inv w0 c0 U (E.elem ts b e l m) a w' (G.aX ts b (G.hdr b)):=by
 have u:=N.acB (ts:=ts) (t:=b) (v:=G.hdr b) p z K.2.1 rfl K.2.2;have I:=u.map (EC (w:=w) b) u.colU (λb=>⟨λh=>h,λ_=>rfl,λ_=>rfl⟩);have J:=I.setRow (m:=m) (y:=l) (w':=w') (e:=e) (b:=b) (by simpa[Gh.aX]using q) (by simp[Gh.aX]) p B (λs=> ?_) (λc hc=> ?_) H size W tape output;simpa only[Env.elem,List.map_map,aqn,SV.cj,SV.aX]using J;have:=getD_map (L:=E.s.map (SV.aX ts b)) (T:=SV.cj b) rfl s;show SV.clear b ((List.map (SV.cj b) (E.s.map (SV.aX ts b))).getD s .no);rw[this];exact SV.fl b _;obtain⟨Y,p2,p3⟩:=S c hc;refine⟨Y,p2,?_⟩;simp only[Gh.aX];split;rfl;exact p3
def Jf{e:Ty}{l:List e.den}{v:Value}{b:Nat}{hs:List Nat}(h:cL w G e l v (.row b hs true))(j:hs.all (·=b)=true){m of n cap:Nat}(r:v= .slice (some ⟨m,of,none⟩) n cap)(hn:0<n):
 n=l.length/\l.length<=cap/\∃c el p i,w.heap[m]?=some (.cells c el p)/\of+cap*e.sz<=c.size/\aZ (aW w e) l ((c.toList.drop of).take (l.length*e.sz)) i/\(m::i).Nodup/\G.col m=b/\∀x∈i,G.col x=b:=by
 obtain⟨_,_,B,t,hc⟩:=h;rcases t with⟨⟨ao,d⟩,hl0,_⟩|⟨b',of',cap',c,el,p,i,d,k,u,q,rfl,y⟩;rw[r]at d;cases d;omega;rw[r]at d;simp only[Value.slice.injEq,aoW,Addr.mk.injEq,and_true]at d;obtain⟨⟨rfl,rfl⟩,rfl,rfl⟩:=d;obtain⟨z,F,H,I⟩:=hc _ _ rfl;simp only[C',b_]at j;exact⟨rfl,k,c,el,p,i,u,q,y,apS.2 ⟨F,I rfl⟩,z,λx s=>j _ (H x s)⟩
def ZY{q:Nat}{cs:List Value}{v:Value}(h:cs[q]?=some v):dL q [v] cs=cs:=by
 obtain⟨b,rfl⟩:=ap9.1 h;unfold dL;simp only[aqy,R_,List.singleton_append];rw[<-aqo b,aqx]
def ace{e σ:Ty}{l:List e.den}{b:Nat}{hs:List Nat}{y of n cap:Nat}{i:Int}{p:List Bool}(h:cL w G e l (G.hdr b) (.row b hs true))(F:hs.all (·=b)=true)(N:G.hdr b= .slice (some ⟨y,of,none⟩) n cap)
 (h0:0<=i) (hn:i<n) (hs:e.sub p=some (.sl σ)) (hI:Inv w0 c0 U E a w G):
 ∃c el z v,w.heap[y]?=some (.cells c el (0,0))/\of+i.toNat*e.sz+e.off p+1<=c.size/\(c.toList.drop (of+i.toNat*e.sz+e.off p)).take 1=[v]/\cL w G σ z v (.nst b e i (e.off p) p true):=by
 obtain⟨rfl,j,c,el,fz,Bs,H,I,S,J,r,s⟩:=Jf h F N (by omega);obtain⟨K,t,k⟩:=hI.fresh y (by rw[r];exact h.1);rw[k]at H;simp only[aoW,Obj.cells.injEq]at H;obtain⟨rfl,rfl,rfl⟩:=H;have hi:i.toNat<l.length:=by omega
 obtain⟨f,z,Ba,W,Bb,q1,rfl,q3,q4,q5,q6⟩:=aZ.place S hi hs;have hmul:l.length*e.sz<=cap*e.sz:=apG _ j;have hlen:=aZ.len (sz:=e.sz) (λx c B h=>aW.len h) S;simp only[Ty.sz]at q3 q4;obtain⟨v,m,u⟩:=q3
 have q:((K.toList.drop of).take (l.length*e.sz))[i.toNat*e.sz+e.off p]?=some v:=by
  have:=congrArg List.head? m;rw[List.head?_take,List.head?_drop]at this;simpa using this
 have d:=q6 w z [v] W (λ_ _=>rfl) ⟨v,rfl,u⟩;rw[q1]at d;refine⟨K,t,z,v,k,by omega,?_,⟨W,u,λx Y=>s x (by simp[Y])⟩,hs,rfl,h.1,h0,y,of,l.length,cap,K,t,l,_,N,j,r,k,I,hn,?_,rfl,d,J,s,λ_=>q⟩;rw[S_,apU,apT,apQ (by omega)]at m;rw[show of+i.toNat*e.sz+e.off p=of+(i.toNat*e.sz+e.off p) by omega];exact m;have hp:=Ck hs;simpa only[Ty.sz]using hp
def ahe{d e:Ty}{L:List d.den}{l:List e.den}{b:Nat}{hs:List Nat}{i:Int}{off:Nat}{p:List Bool}{v:Value}(hx:cL w G e l v (.nst b d i off p true))(H:cL w G d L (G.hdr b) (.row b hs true)):
 4<=b/\∃(j of n cap:Nat) (c:Array Value) (el:TypeId) (f:List e.den->List d.den) (y I F:List Nat),G.hdr b= .slice (some ⟨j,of,none⟩) n cap/\n<=cap/\G.col j=b/\w.heap[j]?=some (.cells c el (0,0))/\of+cap*d.sz<=c.size/\
  (j::(y++I++F)).Nodup/\(∀x∈y++I++F,G.col x=b)/\eX w e.sz (aW w e) l v I/\f l=L/\L.length=n/\
  (∀(w':World) (r:List e.den) (u:Value) (B':List Nat),(∀k∈y++F,w'.heap[k]?=w.heap[k]?)->eX w' e.sz (aW w' e) r u B'->
   aZ (aW w' d) (f r) (dL (i.toNat*d.sz+off) [u] ((c.toList.drop of).take (n*d.sz))) (y++B'++F))/\(∀r,(f r).length=n)/\
  dL (i.toNat*d.sz+off) [v] ((c.toList.drop of).take (n*d.sz))=(c.toList.drop of).take (n*d.sz)/\i<n/\0<=i/\off+1<=d.sz/\d.sub p=some (.sl e)/\d.off p=off:=by
 obtain⟨⟨B,hB,hc⟩,s,t,h3,b0,j,of,n,cap,c,el,L0,Bs,g1,g2,g3,g4,g5,g6,g7,g8,g9,h0,o0,J⟩:=hx;have m:=ZY (J rfl);rw[m]at g9
 have q:L.length=n/\aZ (aW w d) L ((c.toList.drop of).take (n*d.sz)) Bs:=by
  obtain⟨_,_,B',K,_⟩:=H;rw[g1]at K;rcases K with⟨⟨ao,S⟩,hl0,_⟩|⟨b',of',cap',c',el',fz,Bs',S,hcap,hh,hsz,_,hl⟩;cases S;omega;simp only[Value.slice.injEq,aoW,Addr.mk.injEq,and_true]at S;obtain⟨⟨rfl,rfl⟩,rfl,rfl⟩:=S;rw[g4]at hh;simp only[aoW,Obj.cells.injEq]at hh;obtain⟨rfl,rfl,rfl⟩:=hh;have:=aZ.FE (sz:=d.sz) (λx c B h=>aW.len h) (λx c B h=>aW.len h) (λx x' c B B' h h'=>aW.FE h h') g9 hl (by omega);subst this;exact⟨rfl,g9⟩
 obtain⟨q,p0⟩:=q;obtain⟨f,z,y,I,F,q1,rfl,q3,q4,q5,q6⟩:=aZ.place p0 (i:=i.toNat) (by omega) s;simp only[Ty.sz]at q3 q4;rw[t]at q3 q6
 have Y:(((c.toList.drop of).take (n*d.sz)).drop (i.toNat*d.sz+off)).take 1=[v]:=by
  obtain⟨hq,hv⟩:=ap9.1 (J rfl);rw[aqo hq,hv];rfl
 rw[Y]at q3;have hz:z=l:=aW.FE q3 (show aW w (.sl e) l [v] B from⟨v,rfl,hB⟩);subst hz;obtain⟨u,N,hS⟩:=q3;simp only[aqP,and_true]at N;subst N;exact⟨h3,j,of,n,cap,c,el,f,y,I,F,g1,g2,g3,g4,g5,h0,o0,hS,q1,q,λw' r u B' hk W=>q6 w' r [u] B' hk ⟨u,rfl,W⟩,λr=>(q5 r).trans q,m,g6,b0,g7,s,t⟩
theorem ahV(hC:CxTy P C)(hI:Inv w0 c0 U E a w G){tk:Nat}(h3:4<=tk)(hU:¬U tk){o:Oper}{c:Call}
 (ho:o.op= .call c) (hb:c.callee= .builtin .append) {x y:Operand} {t:TypeId} (e2:c.args= #[x,y]) (F2:c.argTypes= #[t,t]) {ti:TI} (c4:C.tt t=some ti) {e e0:Ty} (hτ:ti.τ= .sl e)
 {l l2:List e.den} {L:List e0.den} {b:Nat} {hs ys:List Nat} {i:Int} {off:Nat} {p:List Bool} {m':M}
 (Y:cL w G e l (a.eval x) (.nst b e0 i off p true)) (hy:cL w G e l2 (a.eval y) m') (e4:∀c∈m'.aJ,Good U G c) (j2:m'.own=some ys) (k2:b∉ys)
 (H2:cL w G e0 L (G.hdr b) (.row b hs true)) (b1:Good U G b) (hlen:l.length+l2.length<4294967296):
 Yields w0 c0 (λu=>U u\/u=tk) (E.elem (tk::ys) b e0 L (.row b [b] true)) a ((execOp a.eval o).run P w) (.d ⟨.sl e,l++l2,.sl (.nst b e0 i off p false)⟩):=by
 obtain⟨c1,B,of,n,cap,cc,el,f,Ba,F,Bb,q1,q2,q3,q4,q5,q6,q7,F1,q8,q9,s3,n4,o4,p4,r4,s4,w4,x4⟩:=ahe Y H2;have hT:=(hC.tt _ ti c4).2;rw[hτ]at hT;obtain⟨hu,B4⟩:=hT;obtain⟨By,u2,G4,u3⟩:=hy.own j2;have J2:∀c∈ys,4<=c:=λc hc=>Sh.nN (τ:= .sl e) (x:=l2) (sh:= .sl m') (cs:=[a.eval y]) ⟨_,rfl,hy⟩ j2 c hc;have J1:∀c∈ys,Good U G c:=λc hc=>e4 c (M.k9 j2 c hc);have L2:b≠tk:=λe=>hU (e▸b1.2.1);have hytk:∀c∈ys,c≠tk:=λc hc e=>hU (e▸(J1 c hc).2.1)
 have l1:∀ {v':Value} {w':World},((Builtin.append_ #[t,t] o.type #[a.eval x,a.eval y]).run P w= .ok v' w')->(execOp a.eval o).run P w= .ok (.value v') w':=by
  intro v' w' hr;simp only[execOp,ho];simp[resolve,hb,invoke,builtin,e2,F2,hr]
 obtain⟨xs,w2,w3,x3⟩:=F1.cells;obtain⟨s,y1,x2,_⟩:=u2.cells;have n1:∀z∈F,G.col z=b:=λz q=>q7 z (by simp[q])
 have T2:∀ad k cap,a.eval x= .slice (some ad) k cap->0<cap->∃b off,ad=⟨b,off,none⟩/\∃c X1,w.heap[b]?=some (.cells c X1 (0,0))/\off+cap*e.sz<=c.size:=by
  intro ad k cap hv B1;obtain⟨b',B3,z1,hB,_,c',X1,fz,hh,a1,_⟩:=x3 ad k cap hv B1;obtain⟨c2,G1,hf⟩:=hI.fresh b' (by rw[n1 b' (by rw[hB];simp)];exact c1);rw[hf]at hh;cases hh;exact⟨b',B3,z1,_,_,hf,a1⟩
 have p0:∀z∈By,z≠B/\z∉Ba++F++Bb:=λz q=>by
  have E1:=u3 z q;refine⟨λe=>k2 (by rw[e,q3]at E1;exact E1),λr=>k2 (by rw[q7 z r]at E1;exact E1)⟩
 have S:∀z∈F.drop 1,z∈F:=λz q=>aqz q;have H:∀z∈By.drop 1,z∈By:=λz q=>aqz q;rw[apS]at q6;obtain⟨r0,y2⟩:=q6;have X2:=y2;rw[apH,apH]at X2;obtain⟨⟨nA,nO,E3⟩,nB,A1⟩:=X2
 have o1:∀h:Nat,h∉Ba++Bb->h≠B->h∉F.drop 1->h∉By.drop 1->(B::(Ba++(h::(F.drop 1++By.drop 1))++Bb)).Nodup:=by
  intro h h1 h2 h4 h5;simp only[ev,not_or]at h1;have b3:(F.drop 1).Nodup:=nO.sublist (aqG _ _);have c3:(By.drop 1).Nodup:=G4.sublist (aqG _ _);rw[apS,apH,apH,apS,apH];refine⟨?_,⟨nA,⟨λr=>(ev.1 r).elim h4 h5,b3,c3,λx Y y hy e=> ?_⟩,λx Y y hy e=> ?_⟩,nB,λx Y y hy e=> ?_⟩;simp only[ev,ec,not_or]at r0|-;exact⟨⟨r0.1.1,λe=>h2 e.symm,λr=>r0.1.2 (S _ r),λr=>(p0 _ (H _ r)).1 rfl⟩,r0.2⟩;subst e;exact(p0 x (H x hy)).2 (by simp[S x Y]);subst e;rcases ec.1 hy with rfl|hy;exact h1.1 Y;rcases ev.1 hy with hy|hy;exact E3 x Y x (S x hy) rfl;exact(p0 x (H x hy)).2 (by simp[Y]);subst e;rcases ev.1 Y with Y|Y;exact A1 x (by simp[Y]) x hy rfl;rcases ec.1 Y with rfl|Y;exact h1.2 hy;rcases ev.1 Y with Y|Y;exact A1 x (by simp[S x Y]) x hy rfl;exact(p0 x (H x Y)).2 (by simp[hy])
 have fin:∀ {G0:Gh} {w1 w':World} {v':Value} {Bn:List Nat},Inv w0 c0 (λu=>U u\/u=tk) E a w1 G0->(∀c,U c->G0.hdr c=G.hdr c/\G0.bx c=G.bx c)->G0.bx tk=false->(∀z,z<w.heap.size->G0.col z=G.col z)->
  (execOp a.eval o).run P w= .ok (.value v') w'->w1.heap.size=w'.heap.size->w'.os=w1.os->w'.tape=w1.tape->w'.output=w1.output->
  (∀k,k∉F->w'.heap[k]?=w1.heap[k]?)->(∀k∈B::(Ba++Bb),w'.heap[k]?=w.heap[k]?)->(∀k∈F,∃c el,w'.heap[k]?=some (.cells c el (0,0)))->eX w' e.sz (aW w' e) l (a.eval x) F->
  eX w' e.sz (aW w' e) (l++l2) v' Bn->(B::(Ba++Bn++Bb)).Nodup->(∀z∈Bn,z∈F\/z∈By\/G0.col z=tk)->
  Yields w0 c0 (λu=>U u\/u=tk) (E.elem (tk::ys) b e0 L (.row b [b] true)) a ((execOp a.eval o).run P w) (.d ⟨.sl e,l++l2,.sl (.nst b e0 i off p false)⟩):=by
  intro G0 w1 w' v' Bn C1 b2 B2 j1 hr a1 H3 J3 C2 D2 k1 D1 L3 E2 X3 b4;have E0:Good (λu=>U u\/u=tk) G0 b:=⟨b1.1,.inl b1.2.1,by rw[(b2 b b1.2.1).2];exact b1.2.2⟩
  have e3:∀c∈tk::ys,4<=c/\Good (λu=>U u\/u=tk) G0 c:=by
   intro c hc;rcases ec.1 hc with rfl|hc;exact⟨h3,by omega,.inr rfl,B2⟩;have:=J1 c hc;exact⟨J2 c hc,this.1,.inl this.2.1,by rw[(b2 c this.2.1).2];exact this.2.2⟩
  have p1:G0.hdr b=G.hdr b:=(b2 b b1.2.1).1
  have I:∀z∈B::(Ba++F++Bb),z<w.heap.size:=by
   intro z q
   have n2:G.col z=b:=by
    rcases ec.1 q with rfl|q;exact q3;exact q7 z q
   exact hI.lt z (by omega)
  have L0:∀z∈By,z<w.heap.size:=u2.bounds;have j4:b∉tk::ys:=by simp[L2,k2]
  have N:∀z∈B::(Ba++F++Bb),(G0.aX (tk::ys) b (G0.hdr b)).col z=b:=by
   intro z q
   have n2:G.col z=b:=by
    rcases ec.1 q with rfl|q;exact q3;exact q7 z q
   simp only[Gh.aX,j1 z (I z q),n2];rw[a_ j4]
  have r1:∀z∈Bn,(G0.aX (tk::ys) b (G0.hdr b)).col z=b:=by
   intro z q;rcases b4 z q with h|h|h;exact N z (by simp[h]);simp only[Gh.aX,j1 z (L0 z h)];rw[an (s_ _ (u3 z h))];simp only[Gh.aX,h];rw[an (by simp)]
  have j3:∀k∈Ba++Bb,w'.heap[k]?=w.heap[k]?:=λk v=>k1 k (s_ _ v);have L1:w'.heap[B]?=some (.cells cc el (0,0)):=(k1 B (by simp)).trans q4
  have o2:aZ (aW w' e0) L ((cc.toList.drop of).take (n*e0.sz)) (Ba++F++Bb):=by
   have:=s3 w' l (a.eval x) F j3 L3;rw[q8,o4]at this;exact this
  have k4:=C1.ahw (ts:=tk::ys) (b:=b) (e:=e0) (l:=L) (m:= .row b [b] true) (w':=w') c1 e3 E0 (λc hc=>by simp only[M.aJ,ec,L_,or_false,or_self]at hc;subst hc;exact E0) ?_ ?_ ?_ a1 H3 J3 C2;refine⟨v',w',_,hr,k4,⟨[v'],rfl,v',rfl,⟨Bn,E2,r1⟩,w4,x4,c1,r4,B,of,n,cap,cc,el,f (l++l2),Ba++Bn++Bb,by simp[Gh.aX,p1,q1],q2,N B (by simp),L1,q5,p4,s4,n4 _,s3 w' (l++l2) v' Bn j3 E2,X3,λz q=> ?_,by simp⟩,bM.d (λc hc=> ?_),by rintro _ _ ⟨⟩⟩;simp only[ev]at q;rcases q with(q|q)|q;exact N z (by simp[q]);exact r1 z q;exact N z (by simp[q]);simp only[Sh.aJ,M.aJ,ec,L_,or_false]at hc;subst hc;exact⟨E0.1,E0.2.1,by simp[Gh.aX]⟩;rw[p1];refine⟨c1,by simp[Gh.aX],B::(Ba++F++Bb),?_,?_⟩;rw[q1];refine .inr ⟨B,of,cap,cc,el,(0,0),Ba++F++Bb,by rw[q9],by rw[q9];exact q2,L1,q5,rfl,by rw[q9];exact o2⟩;rintro h Bs ⟨⟩;have b0:=N;rw[p1]at b0;exact⟨b0 B (by simp),r0,λz q=>by simp[b0 z (s_ _ q)],λ_=>y2⟩;intro k v;by_cases r:k∈F;exact absurd (N k (by simp[r])) v;exact D2 k r;intro k v;by_cases r:k∈F;exact D1 k r;rw[D2 k r];refine C1.fresh k ?_;simp only[Gh.aX]at v;split at v;rename_i h;exact(e3 _ h).1;rw[v];exact c1
 have s0:∀k∈F,∃c el,w.heap[k]?=some (.cells c el (0,0)):=λk v=>hI.fresh k (by rw[n1 k v];exact c1);have k3:=hI.akV (tk:=tk) hU;rcases aaW (ty:=o.type) hu B4 w2 y1 (aZ.ab3 x2) hlen T2 with⟨J4,hr⟩|⟨h,j,K,hv,R0,B1,hr⟩|⟨K,rest,R0,a1,hr⟩
 have l4:l2=[]:=aqc.1 J4;subst l4;refine fin (Bn:=F) k3 (λc hc=>⟨rfl,a_ (λe:c=tk=>hU (e▸hc))⟩) (by simp) (λ_ _=>rfl) (l1 hr) rfl rfl rfl rfl (λ_ _=>rfl) (λ_ _=>rfl) s0 F1 (by simpa using F1) (apS.2 ⟨r0,y2⟩) (λz q=> .inl q)
 obtain⟨h0,off0,z1,c2,G1,hh,a1⟩:=T2 _ _ K hv B1;cases z1;obtain⟨h1,off1,z1,hB,_,c',X1,fz,G3,_,A2⟩:=x3 _ _ K hv B1;cases z1;rw[hh]at G3;cases G3;have p2:=y1.1;have r2:=w2.1;have hmul:(l.length+l2.length)*e.sz<=K*e.sz:=apG _ R0;rw[S']at hmul;have u0:=iN h (el:=G1) s (j+l.length*e.sz) w c2 hh (by omega);have W:h∈F:=by rw[hB];simp
 have l3:h∉F.drop 1:=by
  have:=nO;rw[hB,apS]at this;exact this.1
 have T1:h∉Ba++Bb:=by
  intro r;rcases ev.1 r with r|r;exact E3 h r h W rfl;exact A1 h (by simp[W]) h r rfl
 have u1:h≠B:=by
  rintro rfl;simp only[ev,not_or]at r0;exact r0.1.2 W
 have n3:h∉By:=λr=>(p0 h r).2 (by simp[W]);have x1:h∉By.drop 1:=λr=>n3 (H h r);have J:∀k,k≠h->(w.setCells h (j+l.length*e.sz) s).heap[k]?=w.heap[k]?:=λk v=>cr h _ _ w k v;have htl:(c2.toList.take (j+l.length*e.sz)).length=j+l.length*e.sz:=by simp;omega
 have o3:((c2.toList.take (j+l.length*e.sz)++s++c2.toList.drop (j+l.length*e.sz+s.length)).drop j).take (l.length*e.sz)=xs:=by
  rw[R_,apC (by omega),apI (by simp;omega),S_,A2,apU,apQ (by omega)]
 have o0:((c2.toList.take (j+l.length*e.sz)++s++c2.toList.drop (j+l.length*e.sz+s.length)).drop j).take ((l++l2).length*e.sz)=xs++s:=by
  rw[R_,apC (by omega),S_,A2];rw[show j+l.length*e.sz-j=l.length*e.sz by omega];rw[<-R_]
  have x0:(List.take (l.length*e.sz) (List.drop j c2.toList)++s).length=(l++l2).length*e.sz:=by
   rw[aqb,p2,<-A2,r2,aqb,S']
  rw[<-x0,aqR]
 have W1:aZ (aW (w.setCells h (j+l.length*e.sz) s) e) l xs (F.drop 1):=aZ.world (λz q=>J z (λe=>l3 (e▸q))) w3;have p3:aZ (aW (w.setCells h (j+l.length*e.sz) s) e) l2 s (By.drop 1):=aZ.world (λz q=>J z (λe=>x1 (e▸q))) x2
 refine fin (Bn:=h::(F.drop 1++By.drop 1)) k3 (λc hc=>⟨rfl,a_ (λe:c=tk=>hU (e▸hc))⟩) (by simp) (λ_ _=>rfl) (l1 hr) (by rw[fH]) (cP h _ _ w).1 (cP h _ _ w).2.1 (cP h _ _ w).2.2
  (λk v=>J k (λe=>v (e▸W))) (λk v=>J k (λe=> ?_)) (λk v=> ?_) ?_ ?_ (o1 h T1 u1 l3 x1) (λz q=> ?_)
 subst e;rcases ec.1 v with v|v;exact u1 v;exact T1 v;by_cases e1:k=h;subst e1;exact⟨_,_,u0⟩;rw[J k e1];exact s0 k v;rw[hv];refine .inr ⟨h,j,K,_,G1,(0,0),F.drop 1,rfl,by omega,u0,?_,hB,?_⟩;simp;omega;show aZ _ _ ((((c2.toList.take (j+l.length*e.sz)++s++c2.toList.drop (j+l.length*e.sz+s.length)).toArray.toList.drop j).take (l.length*e.sz))) _;rw[ap8,o3];exact W1;refine .inr ⟨h,j,K,_,G1,(0,0),F.drop 1++By.drop 1,by simp,by simpa using R0,u0,?_,rfl,?_⟩;simp;omega;show aZ _ _ ((((c2.toList.take (j+l.length*e.sz)++s++c2.toList.drop (j+l.length*e.sz+s.length)).toArray.toList.drop j).take ((l++l2).length*e.sz))) _;rw[ap8,o0];exact aZ.append W1 p3;rcases ec.1 q with rfl|q;exact .inl W;rcases ev.1 q with q|q;exact .inl (S z q);exact .inr (.inl (H z q))
 have C1:=(hI.drawn (w.drawn+1)).alloc h3 hU (xs++s++rest).toArray ti.el (.slice (some ⟨w.heap.size,0,none⟩) (l.length+l2.length) K) false
 have r3:∀z,z<w.heap.size->(G.add w.heap.size tk (.slice (some ⟨w.heap.size,0,none⟩) (l.length+l2.length) K) false).col z=G.col z:=λz q=>by
  simp[Gh.add,Nat.ne_of_lt q]
 have hold:∀k,k<w.heap.size->(w.drew.alloc (.cells (xs++s++rest).toArray ti.el)).heap[k]?=w.heap[k]?:=λk v=>heap_alloc_old w.drew _ k v
 have I:∀z∈B::(Ba++F++Bb),z<w.heap.size:=by
  intro z q
  have n2:G.col z=b:=by
   rcases ec.1 q with rfl|q;exact q3;exact q7 z q
  exact hI.lt z (by omega)
 have L0:∀z∈By,z<w.heap.size:=u2.bounds;have hnin:∀ {z:Nat},z<w.heap.size->z≠w.heap.size:=λh=>Nat.ne_of_lt h;refine fin (Bn:=w.heap.size::(F.drop 1++By.drop 1)) C1 (λc hc=> ?_) (by simp[Gh.add]) r3 (l1 hr) rfl rfl rfl rfl (λ_ _=>rfl) (λk v=>hold k (I k ?_)) (λk v=> ?_) ?_ ?_ (o1 _ ?_ ?_ ?_ ?_) (λz q=> ?_);have:c≠tk:=λe=>hU (e▸hc);simp[Gh.add,this];simp only[ec,ev]at v|-;rcases v with v|v|v<;>simp[v];rw[hold k (I k (by simp[v]))];exact s0 k v;exact eX.mono (λz q=>hold z (I z (by simp[q]))) F1;refine .inr ⟨w.heap.size,0,K,_,ti.el,(0,0),F.drop 1++By.drop 1,by simp,by simpa using R0,heap_alloc_new _ _,by simpa using a1,rfl,?_⟩;have r2:=w2.1;have p2:=y1.1
 have o0:(((xs++s++rest).toArray.toList.drop 0).take ((l++l2).length*e.sz))=xs++s:=by
  have x0:(xs++s).length=(l++l2).length*e.sz:=by rw[aqb,p2,r2,aqb,S']
  simp only[aqh];rw[<-x0,aqR]
 rw[o0];exact aZ.append (aZ.world (w:=w) (λz q=>hold z (I z (by simp[S z q]))) w3) (aZ.world (w:=w) (λz q=>hold z (L0 z (H z q))) x2);intro r;exact aqm _ (I _ (by simp only[ec,ev]at r|-;rcases r with h|h<;>simp[h]));exact λe=>aqm _ (I _ (by simp[e]));exact λr=>aqm _ (I _ (by simp[S _ r]));exact λr=>aqm _ (L0 _ (H _ r));rcases ec.1 q with rfl|q;exact .inr (.inr (by simp[Gh.add]));rcases ev.1 q with q|q;exact .inl (S z q);exact .inr (.inl (H z q))
theorem adF(hC:CxTy P C)(hI:Inv w0 c0 U E a w G){o:Oper}{t:TypeId}{x y:Operand}(ho:o.op= .store t x y){ti:TI}(o0:C.tt t=some ti){σ e:Ty}(hτ:ti.τ= .sl σ)
 {l:List e.den} {z:List σ.den} {b:Nat} {hs:List Nat} {i:Int} {off:Nat} {p:List Bool} {fr:Bool} {s of n cap:Nat} {r:e.den×Sh}
 (hx:cL w G σ z (a.eval y) (.nst b e i off p fr)) (W:cL w G e l (G.hdr b) (.row b hs true)) (p0:hs.all (·=b)=true) (Y:Good U G b)
 (k2:G.hdr b= .slice (some ⟨s,of,none⟩) n cap) (k5:a.eval x= .pointer (some ⟨s,of+i.toNat*e.sz+off,none⟩))
 (hr:iO e (l.getD i.toNat e.aa) (iM e (.sha [])) p ⟨.sl σ,z,.sl (.sha [])⟩=some r):
 ∃w' G',(execOp a.eval o).run P w= .ok .skip w'/\Inv w0 c0 U (E.elem [] b e (l.set i.toNat r.1) (.row b [b] true)) a w' G':=by
 obtain⟨⟨B,hB,hc⟩,hsub,h0,h3,hi0,blk,of',n',cap',c,el,L0,Bs,g1,g2,g3,g4,g5,g6,g7,g8,g9,F,x0,g12⟩:=hx;rw[k2]at g1;simp only[Value.slice.injEq,aoW,Addr.mk.injEq,and_true]at g1;obtain⟨⟨rfl,rfl⟩,rfl,rfl⟩:=g1;obtain⟨hn,K,c',el',fz,Bs0,hh,hsz,hl,hnd,hcb,hcB⟩:=Jf W p0 k2 (by omega);rw[g4]at hh;simp only[aoW,Obj.cells.injEq]at hh;obtain⟨rfl,rfl,rfl⟩:=hh;have hi:i.toNat<l.length:=by omega
 have b0:l[i.toNat]?=some (l.getD i.toNat e.aa):=by
  rw[ew,Q_ hi];rfl
 obtain⟨B1,Bx,B2,rfl,E0,G0,R0⟩:=aZ.get (sz:=e.sz) (λx c B h=>aW.len h) hl b0;obtain⟨Ba,Bo,Bb,rfl,N,hle⟩:=aW.put (v:=⟨.sl σ,z,.sl (.sha [])⟩) (cv:=[a.eval y]) hr E0 (show aW w (.sl σ) z [a.eval y] B from⟨_,rfl,hB⟩);have j:=aZ.set (sz:=e.sz) hi N G0 R0;have hmul:(i.toNat+1)*e.sz<=l.length*e.sz:=apG _ hi;have hmul2:l.length*e.sz<=cap*e.sz:=apG _ K;rw[S',ap7]at hmul;rw[h0]at N j hle
 have r0:dL (i.toNat*e.sz+off) [a.eval y] ((c.toList.drop of).take (l.length*e.sz))=
  ((c.toList.drop of).take (l.length*e.sz)).take (i.toNat*e.sz)++dL off [a.eval y] ((((c.toList.drop of).take (l.length*e.sz)).drop (i.toNat*e.sz)).take e.sz)++((c.toList.drop of).take (l.length*e.sz)).drop ((i.toNat+1)*e.sz):=by
  rw[xa (sz:=e.sz) (by simpa using g7),S',ap7]
 rw[<-r0]at j;rw[<-hn]at j;have hL:L0=l.set i.toNat r.1:=aZ.FE (sz:=e.sz) (λx c B h=>aW.len h) (λx c B h=>aW.len h) (λx x' c B B' h h'=>aW.FE h h') g9 j (by simp;omega);subst hL;have hO:of+i.toNat*e.sz+off+1<=c.size:=by omega
 have q:=iN s (el:=el) [a.eval y] (of+i.toNat*e.sz+off) w c g4 (by simpa using hO);have hT:=(hC.tt t ti o0).1;have e0:(a.eval y).oneCell'=true:=hB.one;have I:=xf (P:=P) (t:=t) (τ:=ti.τ) hT g4 (o:=of+i.toNat*e.sz+off) (cs:=[a.eval y]) (by rw[hτ];simpa[Ty.sz]using hO) (by rw[hτ];rfl) (by simpa using e0) k5;have d:∀k,k≠s->(w.setCells s (of+i.toNat*e.sz+off) [a.eval y]).heap[k]?=w.heap[k]?:=λk H=>cr s _ _ w k H;rw[apS]at F;have J:∀k,(G.aX [] b (G.hdr b)).col k=G.col k:=λk=>by simp[Gh.aX]
 have s0:=hI.ahw (ts:=[]) (b:=b) (e:=e) (l:=l.set i.toNat r.1) (m:= .row b [b] true) (w':=w.setCells s (of+i.toNat*e.sz+off) [a.eval y]) h3 (by simp) Y
  (λc hc=>by simp only[M.aJ,ec,L_,or_false,or_self]at hc;subst hc;exact Y) ?_ (λk H=>d k (λS=>H (by rw[J,S,g3]))) (λk H=> ?_)
  (by rw[fH]) (cP _ _ _ w).1 (cP _ _ _ w).2.1 (cP _ _ _ w).2.2
 refine⟨_,_,?_,s0⟩;simp only[execOp,ho];have u0:eF ti.τ [a.eval y]=a.eval y:=by rw[hτ];rfl
 rw[u0]at I;simp[I];rw[k2];refine⟨h3,by simp[Gh.aX],s::Bs,.inr ⟨s,of,cap,_,el,(0,0),Bs,by simp[hn],by simpa using K,q,by simp;omega,rfl,?_⟩,?_⟩;show aZ _ _ ((((c.toList.take (of+i.toNat*e.sz+off)++[a.eval y]++c.toList.drop (of+i.toNat*e.sz+off+ [a.eval y].length)).toArray.toList.drop of).take ((l.set i.toNat r.1).length*e.sz))) _;rw[ap8]
 have u:((dL (of+i.toNat*e.sz+off) [a.eval y] c.toList).drop of).take ((l.set i.toNat r.1).length*e.sz)=dL (i.toNat*e.sz+off) [a.eval y] ((c.toList.drop of).take (n*e.sz)):=by
  rw[BO (by omega) (by simp;omega),B6 (by simp;omega) (by simp;omega),show of+i.toNat*e.sz+off-of=i.toNat*e.sz+off by omega];simp[hn]
 show aZ _ _ (((dL (of+i.toNat*e.sz+off) [a.eval y] c.toList).drop of).take ((l.set i.toNat r.1).length*e.sz)) _;rw[u];exact aZ.world (λk H=>d k (λS=>F.1 (S▸H))) g9;rintro h Bs' ⟨⟩;exact⟨by simp[Gh.aX,g3],F.1,λx hx=>by simp[Gh.aX,x0 x hx],λ_=>F.2⟩;by_cases S:k=s;subst S;exact⟨_,_,q⟩;rw[d k S];rw[J]at H;exact hI.fresh k (by rw[H];exact h3)
theorem ad5(hC:wH P C)(J:Inv w0 c0 U E a w G)(hR:RI ops E a.tmps){tk:Nat}(h3:4<=tk)(hU:∀u,tk<=u->u<tk+32->¬U u){o:Oper}{ef:Ef}
 (h:sX C ops E.rd tk o=some ef):Us P w0 c0 (λu=>U u\/(tk<=u/\u<tk+32)) E a ((execOp a.eval o).run P w) ef:=by
 have h0:=hC.toCxTy;have hg:Gd ops a.tmps none:=by rintro j w' ⟨⟩
 unfold sX at h;split at h
 rename_i t x ho;split at h;rename_i ti b e i off p τ K N;split at h;rename_i l hs nd s;obtain⟨hc,h⟩:=Option.ite_none_right_eq_some.mp h;split at h;rename_i σ z sh b0;simp only[aoW]at h;subst h;simp only[l8,b_]at hc;obtain⟨⟨⟨⟨rfl,H⟩,_⟩,rfl⟩,I⟩:=hc;obtain⟨h1,_⟩:=gP J hR hg N;obtain⟨bk,of,n,cap,a1,k2,k3,k4,k5⟩:=h1;obtain⟨⟨vh,k⟩,q⟩:=J.fB s;have F:vh=G.hdr b:=k.2.1.symm;rw[F]at k
 have S:ti.τ= .sl σ:=by
  have:=EP b0;rw[I]at this;simpa using this
 rw[S]at I;obtain⟨c,el,z',v,g1,g2,g3,g4⟩:=ace k H k2 k3 k4 I J;have hT:=(h0.tt t ti K).1
 have p0:(execOp a.eval o).run P w= .ok (.value v) w:=by
  have hl:=zC hT g1 (o:=of+i.toNat*e.sz+e.off p) (by rw[S];exact g2);rw[S,show(Ty.sl σ).sz=1 from rfl,g3,show eF (.sl σ) [v]=v from rfl]at hl;simp only[execOp,ho];refine fM ?_;simp only[Instr.loadAt,k5,Instr.sureAddr];simpa using hl
 have hz:z'=z:=by
  obtain⟨_,hcap,c2,el2,fz,Bs,hh,hsz,hl,_⟩:=Jf k H k2 (by omega);rw[g1]at hh;simp only[aoW,Obj.cells.injEq]at hh;obtain⟨rfl,rfl,rfl⟩:=hh;have hi:i.toNat<l.length:=toNat_lt k3 (by obtain⟨hn,_⟩:=Jf k H k2 (by omega);rw[<-hn];exact k4);obtain⟨f,z2,Ba,Bo,Bb,q1,_,q3,q4,_,_⟩:=aZ.place hl hi I;simp only[Ty.sz]at q3 q4;rw[S_,apU,apT,apQ (by omega),<-aql,g3]at q3
  have r0:l[i.toNat]?=some (l.getD i.toNat e.aa):=by
   rw[ew,Q_ hi];rfl
  obtain⟨B1,Bx,B2,_,b1,_,_⟩:=aZ.get (sz:=e.sz) (λx c B h=>aW.len h) hl r0;have W:=L7 b0 b1;obtain⟨Bv,W⟩:=W;have hmul:(i.toNat+1)*e.sz<=l.length*e.sz:=apG _ hi;rw[S',ap7]at hmul;have L0:=Ck I;simp only[Ty.sz]at W L0;rw[S_,apU,apT,apQ (by omega),S_,apU,apT,apQ (by omega),<-aql,g3]at W;obtain⟨⟨B4,g4,_⟩,_⟩:=g4;exact aW.FE (show aW w (.sl σ) z' [v] B4 from⟨v,rfl,g4⟩) W
 subst hz
 exact dw (J.mono (λu hu=> .inl hu)) p0 ⟨[v],rfl,v,rfl,g4⟩ (bM.d (λc hc=>by
  simp only[Sh.aJ,M.aJ,apW]at hc;subst hc;have:=q c (by simp);exact⟨this.1,.inl this.2.1,this.2.2⟩)) (by rintro _ _ ⟨⟩)
 cases h;cases h;cases h
 rename_i t x y ho;split at h;rename_i ti b e i off p τ σ z b' e' i' off' p' fr K N hv;split at h;rename_i l hs nd s;obtain⟨hc,h⟩:=Option.ite_none_right_eq_some.mp h;obtain⟨r,hr,h⟩:=B_.mp h;subst h;simp only[l8,b_]at hc;obtain⟨⟨⟨⟨⟨⟨⟨⟨⟨rfl,H⟩,rfl⟩,rfl⟩,rfl⟩,rfl⟩,hoff⟩,I⟩,c1⟩,hτ⟩:=hc;intro e0;have R0:i=i':=e_ e0;subst R0;obtain⟨h1,_⟩:=gP J hR hg N;obtain⟨bk,of,n,cap,a1,k2,k3,k4,k5⟩:=h1;obtain⟨⟨vh,k⟩,q⟩:=J.fB s;have F:vh=G.hdr b':=k.2.1.symm;rw[F]at k;obtain⟨m,hm,hx,_,_⟩:=ll J hR hg hv;cases hm;obtain⟨w',G',q1,q2⟩:=adF h0 J ho K (hτ.symm.trans c1.symm) hx k H (q b' (by simp)) k2 k5 hr;exact .inr ⟨rfl,w',G',q1,q2.mono λu hu=> .inl hu⟩;cases h;cases h
 rename_i c ho;split at h;rename_i x y t u hb ha u0;have o0:c.args= #[x,y]:=aqN (by simpa using ha);have s0:c.argTypes= #[t,u]:=aqN (by simpa using u0);split at h;rename_i ti e l b E0 i off p e' l' m' K hx hy;split at h;rename_i l2 L hs nd ys x0 s G0;have Y:=fG x0;simp only[TV.mk.injEq]at Y;obtain⟨he,hl,_⟩:=Y;cases he;cases hl;obtain⟨hc,h⟩:=Option.ite_none_right_eq_some.mp h;simp only[aoW]at h;subst h;simp only[l8,b_,M',po,d_]at hc;obtain⟨⟨⟨⟨rfl,H⟩,e1⟩,hτ⟩,rfl⟩:=hc;intro e0;have hlen:l.length+l2.length<4294967296:=e_ e0;obtain⟨mx,j1,k1,_,_⟩:=ll J hR hg hx;cases j1;obtain⟨my,l1,n1,_,o1⟩:=ll J hR hg hy;cases l1;obtain⟨⟨vh,k⟩,q⟩:=J.fB s;have F:vh=G.hdr b:=k.2.1.symm;rw[F]at k;exact .inl ((ahV h0 J h3 (hU tk (gh _) (by omega)) ho hb o0 s0 K hτ k1 n1 o1 G0 e1 k (q b (by simp)) hlen).mono λu hu=>hu.imp id λe=>by omega);cases h;cases h;cases h;cases h
def ZJ{R:Rd}{tk:Nat}{o:Oper}{gv:List Nat}{b:Nat}{e:Ty}{l:List e.den}{m:M}(h:sX C ops R tk o=some (.elem gv b e l m)):False:=by
 unfold sX at h;split at h;split at h;split at h;obtain⟨_,h⟩:=Option.ite_none_right_eq_some.mp h;split at h<;>cases h;cases h;cases h;split at h;split at h;obtain⟨_,h⟩:=Option.ite_none_right_eq_some.mp h;obtain⟨r,_,h⟩:=B_.mp h;cases h;cases h;cases h;split at h;split at h;split at h;obtain⟨_,h⟩:=Option.ite_none_right_eq_some.mp h;cases h;cases h;cases h;cases h;cases h
def afl{R:Rd}{tk:Nat}{o:Oper}{gv:List Nat}{b:Nat}{e:Ty}{l:List e.den}{m:M}(h:oj C ops R tk g o=some (.elem gv b e l m)):bK C ops R tk g o=some (.elem gv b e l m):=by
 unfold oj at h;split at h;split at h;rename_i ef c;cases h;exact(ZJ c).elim;exact h;exact h
def QS(b:wH P C)(c:Inv w0 c0 U E a w G)(d:RI ops E a.tmps)(j:Gd ops a.tmps g){tk:Nat}(e:4<=tk)(i:∀u,tk<=u->u<tk+32->¬U u){o:Oper}{k:Ef}
 (h:oj C ops E.rd tk g o=some k):Us P w0 c0 (λu=>U u\/(tk<=u/\u<tk+32)) E a ((execOp a.eval o).run P w) k:=by
 unfold oj at h;split at h;split at h;rename_i ef' l;cases h;exact ad5 b c d e i l;exact Xv b c d j e i h;exact Xv b c d j e i h
end
section
variable{P:Program}{C:Cx}{w0:World}{c0:C0}{U:Nat->Prop}{E:Env}{a:Act}{w:World}{G:Gh}{ops:List Oper}{g:Option (Nat×Bool)}{L:Nat->Prop}
def qA(ops:List Oper)(L:Nat->Prop)(E:Env)(tmps:Array Value):Prop:=
 ∀s j w act v,E.s.getD s .no= .g j w act v->(act=true↔yielded ops.toArray tmps j=some w)/\L j/\∃o∈ops,∃w',o.guard=some (j,w')
theorem qA.ri{tmps:Array Value}(h:qA ops L E tmps):RI ops E tmps:=λs j w act v hs=>(h s j w act v hs).1
theorem qA.map{tmps:Array Value}(h:qA ops L E tmps){E':Env}(c:∀s j w act v,E'.s.getD s .no= .g j w act v->∃b,E.s.getD s .no= .g j w act b):qA ops L E' tmps:=by
 intro s j w act v hs;obtain⟨b,e⟩:=c s j w act v hs;exact h s j w act b e
def DX{f:M->M}{fe:Nat->Bool}{fr:List Nat->Option (List Nat)}{s:SV}{j:Nat}{w act:Bool}{v:SV}(h:s.mapM f fe fr= .g j w act v):∃b,s= .g j w act b:=by
 cases s with
 |g j' w' act' u=>simp only[SV.mapM,SV.g.injEq]at h;obtain⟨rfl,rfl,rfl,_⟩:=h;exact⟨u,rfl⟩
 |ept t' e i o p τ=>simp only[SV.mapM]at h;split at h<;>cases h
 |rdp hs v=>simp only[SV.mapM]at h;split at h<;>cases h
 |_=>simp[SV.mapM]at h
def Ye{b:Nat}{e:Ty}{y:List e.den}{m:M}{s:SV}{j:Nat}{w act:Bool}{v:SV}(h:s.setRow b e y m= .g j w act v):∃c,s= .g j w act c:=by
 cases s with
 |g j' w' act' u=>simp only[SV.setRow,SV.g.injEq]at h;obtain⟨rfl,rfl,rfl,_⟩:=h;exact⟨u,rfl⟩
 |rdp hs v=>simp only[SV.setRow]at h;split at h<;>cases h
 |_=>simp[SV.setRow]at h
def W6{ts:List Nat}{s j:Nat}{w act:Bool}{v:SV}(h:(E.kill ts).s.getD s .no= .g j w act v):∃b,E.s.getD s .no= .g j w act b:=by
 rw[Env.Fk]at h;split at h;exact⟨v,h⟩;exact DX h
def aaY{ts:List Nat}{d:List (Nat×Nat)}{s j:Nat}{w act:Bool}{v:SV}(h:(E.cK ts d).s.getD s .no= .g j w act v):∃k,E.s.getD s .no= .g j w act k:=by
 rcases Ip E ts d s with c|⟨b,b',e,i,o,p,τ,_,_,c⟩;rw[c]at h;exact W6 h;have:=c.symm.trans h;cases this
def akn{ts:List Nat}{t s j:Nat}{w act:Bool}{v:SV}(h:(E.aX ts t).s.getD s .no= .g j w act v):∃b,E.s.getD s .no= .g j w act b:=by
 unfold Env.aX at h;split at h;exact⟨v,h⟩;have:=getD_map (L:=E.s) (T:=SV.aX ts t) rfl s;rw[this]at h;exact DX h
def XA{gv:List Nat}{b:Nat}{e:Ty}{l:List e.den}{m:M}{s j:Nat}{w act:Bool}{v:SV}(h:(E.elem gv b e l m).s.getD s .no= .g j w act v):∃c,E.s.getD s .no= .g j w act c:=by
 have:=getD_map (L:=E.s) (T:=λs=>((s.aX gv b).cj b).setRow b e l m) rfl s;simp only[Env.elem]at h;rw[this]at h;obtain⟨v1,d⟩:=Ye h;obtain⟨v2,i⟩:=DX d;exact DX i
def NC{l:List (Nat×Nat×TV)}{K:List SV}{s j:Nat}{w act:Bool}{v:SV}(h:(cg l K).getD s .no= .g j w act v):K.getD s .no= .g j w act v:=by
 rcases zU l K s with b|⟨t,u,_,b⟩;rw[<-b];exact h;rw[b]at h;cases h
def ZF{a:Act}{d:Option Nat}{v:Value}{j:Nat}(h:∀x,d=some x->(ops[j]?).bind (·.dst)≠some x):
 yielded ops.toArray (a.put d v).tmps j=yielded ops.toArray a.tmps j:=by
 cases d with
 |none=>rfl
 |some d=>
  unfold yielded;simp only[apZ];cases c:(ops[j]?).bind (·.dst)with
  |none=>rfl
  |some s=>
   have b:d≠s:=λe=>h d rfl (by rw[c,e]);simp[Act.put,Array.getElem?_setIfInBounds_ne b]
def VO(h:lC ops=true){o:Oper}(q:o∈ops){j:Nat}{w:Bool}(r:o.guard=some (j,w)){i:Nat}{b:Oper}(hi:ops[i]?=some b)(c:i≠j):
 ∀x,b.dst=some x->(ops[j]?).bind (·.dst)≠some x:=by
 intro x m;unfold lC at h;rw[C']at h;obtain⟨k,s,rfl⟩:=List.mem_iff_getElem.1 q;have:=h (ops[k],k) (ap5.2 (Q_ s));simp only[r,l8]at this;obtain⟨_,this⟩:=this;split at this;cases this;rename_i d p;rw[C']at this;have l:=this (b,i) (ap5.2 hi);simp only[aqg,b_,c,false_or]at l;intro e;rw[p]at e;cases e;exact l m
def Ks(h:lC ops=true){i:Nat}{o:Oper}(hi:ops[i]?=some o){j:Nat}{w:Bool}(b:o.guard=some (j,w)):j<i:=by
 unfold lC at h;rw[C']at h;have:=h (o,i) (ap5.2 hi);simp only[b,l8,b_]at this;exact this.1
def ES(H:Inv w0 c0 U E a w G){j:Nat}{w':Bool}{act:Option Bool}(h:guardOf ops E.rd (some (j,w'))=some act):
 ∃b,act=some b/\(b=true↔yielded ops.toArray a.tmps j=some w'):=by
 simp only[guardOf]at h;split at h;cases h;rename_i s hs;have e:=H.slots s
 have l:∀x:Bool,a.tmps.getD s undef= .bool x->yielded ops.toArray a.tmps j=some x:=by
  intro x c;unfold yielded;simp only[apZ,hs,aqe];rw[aqk]at c;cases p:a.tmps[s]? with
  |none=>rw[p]at c;cases c
  |some v=>rw[p]at c;simp at c;rw[c]
 have q:a.tmps.getD s undef=undef->yielded ops.toArray a.tmps j=none:=by
  intro c;unfold yielded;simp only[apZ,hs,aqe];rw[aqk]at c;cases p:a.tmps[s]? with
  |none=>rfl
  |some v=>rw[p]at c;simp at c;rw[c];rfl
 have i:∀ {x:Bool} {k:Sh} {u:Value},cU w G (.d ⟨.bool,x,k⟩) u->u= .bool x:=by
  intro x k u r;obtain⟨I,J,z⟩:=r;cases k with
  |leaf=>rw[J,show I=_ from z];rfl
  |sl m=>exact z.elim
  |pair a b=>exact z.elim
 split at h;rename_i x k c;cases h
 have r:E.s.getD s .no= .d ⟨.bool,x,k⟩:=by
  have:cA (E.s.getD s .no)= .d ⟨.bool,x,k⟩:=c;cases p:E.s.getD s .no with
  |d v=>rw[p]at this;exact this
  |_=>rw[p]at this;simp[cA]at this
 rw[r]at e;refine⟨_,rfl,?_⟩;rw[l x (i e)];simp;rename_i j' w'' t x k c;cases h;obtain⟨B,r,F⟩:=aa3 (sv:=E.s.getD s .no) c
 have y:B= .d ⟨.bool,x,k⟩:=by
  cases B with
  |d v=>exact F.symm
  |_=>simp[cA]at F
 subst y;rw[r]at e;refine⟨_,rfl,?_⟩;cases t with
 |true=>
  rw[l x (i (e.1 rfl).2)];simp
 |false=>
  rw[q (e.2 rfl)];simp
 cases h
def Fc(v:SV)(o:Option (Nat×Bool)):eQ o none v=v.kT:=by
 unfold eQ;split<;>simp_all
def ajn{v:SV}{mv:Value}(hs:cU w G v mv)(b:bM U G v):cU w G v.kT mv/\bM U G v.kT:=by
 cases v with
 |g=>exact⟨trivial,by simp[bM,SV.kT,SV.sc,SV.bt,SV.rt]⟩
 |_=>exact⟨hs,b⟩
def ah3{v:SV}{t:Nat}{u:TV}(h:v.kT= .box t u):v= .box t u:=by
 cases v with
 |g=>cases h
 |_=>exact h
def ahA{v u:SV}{j:Nat}{w act:Bool}:v.kT≠ .g j w act u:=by
 cases v<;>simp[SV.kT]
def aa0{v:SV}{mv:Value}{j:Nat}{w':Bool}(hs:cU w G v mv)(c:bM U G v):cU w G (eQ (some (j,w')) (some true) v) mv/\bM U G (eQ (some (j,w')) (some true) v)/\∀t u,eQ (some (j,w')) (some true) v≠ .box t u:=by
 unfold eQ;cases b:v.dV with
 |true=>simp only[b,if_true];exact⟨trivial,by simp[bM,SV.sc,SV.bt,SV.rt],by simp⟩
 |false=>
  simp only[b,ap2,if_false];exact⟨⟨λ_=>⟨b,hs⟩,λe=>absurd e (by simp)⟩,by simpa[bM,SV.sc,SV.bt,SV.rt]using c,by simp⟩
def aaG{v:SV}{j:Nat}{w':Bool}:cU w G (eQ (some (j,w')) (some false) v) undef/\bM U G (eQ (some (j,w')) (some false) v)/\∀t u,eQ (some (j,w')) (some false) v≠ .box t u:=by
 unfold eQ;cases b:v.dV with
 |true=>simp only[b,if_true];exact⟨trivial,by simp[bM,SV.sc,SV.bt,SV.rt],by simp⟩
 |false=>
  simp only[b,ap2,if_false];exact⟨⟨λe=>absurd e (by simp),λ_=>rfl⟩,by simp[bM,SV.sc,SV.bt,SV.rt],by simp⟩
end
section
variable{P:Program}{C:Cx}{w0:World}{c0:C0}{U:Nat->Prop}{E:Env}{a:Act}{w:World}{G:Gh}{ops:List Oper}{L:Nat->Prop}{Q:Exit->Act->World->Prop}
theorem qA.put(h:qA ops L E a.tmps){i:Nat}{o:Oper}(hi:ops[i]?=some o)(y:lC ops=true)(z:¬L i)(H:∀j w',o.guard=some (j,w')->L j){sv:SV}{mv:Value}
 (K:∀j w' act v,sv= .g j w' act v->(act=true↔yielded ops.toArray a.tmps j=some w')/\o.guard=some (j,w')):
 qA ops (λj=>L j\/j=i) (E.set o.dst sv) (a.put o.dst mv).tmps:=by
 have p:o∈ops:=apR hi
 have b:∀j,L j->(∃u∈ops,∃w',u.guard=some (j,w'))->yielded ops.toArray (a.put o.dst mv).tmps j=yielded ops.toArray a.tmps j:=by
  rintro j J ⟨u,ho',w',hw'⟩;exact ZF (VO y ho' hw' hi (λe=>z (e▸J)))
 intro s j w' act v hs
 have c:E.s.getD s .no= .g j w' act v\/sv= .g j w' act v:=by
  cases I:o.dst with
  |none=>rw[I]at hs;exact .inl hs
  |some d=>
   rw[I]at hs;simp only[Env.set,fA]at hs;split at hs;exact .inr hs;exact .inl hs
 rcases c with hs|hs;obtain⟨B,l,q⟩:=h s j w' act v hs;rw[b j l q];exact⟨B,.inl l,q⟩;obtain⟨B,l⟩:=K j w' act v hs;have q:∃u∈ops,∃w',u.guard=some (j,w'):=⟨o,p,w',l⟩
 rw[b j (H j w' l) q];exact⟨B,.inl (H j w' l),q⟩
def ku{i:Nat}{o:Oper}(b:ops[i]?=some o){K:Act->World->Prop}(c:Region.wanted o (yielded ops.toArray a.tmps)=true)(h:o.wp P a w K Q):wpOp P ops.toArray Q i K a w:=by
 unfold wpOp;simp only[apZ,b,c,if_true];exact .inl h
def vP{o:Oper}{K:Act->World->Prop}{R:Value->World->Prop}(h:Enters P ((execOp a.eval o).run P w) R)(c:∀v w',R v w'->K (a.put o.dst v) w'):o.wp P a w K Q:=by
 unfold Oper.wp;unfold Enters at h;split at h;rename_i f args d b;rw[b];exact Calls.mono h (λe w' ⟨v,h1,h2⟩=>by subst h1;exact c v w' h2);rename_i v d b;rw[b];exact c _ _ h;exact h.elim
def oh{E':Env}{o:Oper}{K:Act->World->Prop}{sv:SV}(h:Yields w0 c0 U E' a ((execOp a.eval o).run P w) sv)
 (c:∀v w' G',Inv w0 c0 U E' a w' G'->cU w' G' sv v->bM U G' sv->(∀t u,sv= .box t u->∀s b,E'.s.getD s .no≠ .box t b)->K (a.put o.dst v) w'):o.wp P a w K Q:=by
 obtain⟨d,w',G',e,i,j,k,l⟩:=h;unfold Oper.wp;rw[e];exact c d w' G' i j k l
def aaO(hC:wH P C){i:Nat}{o:Oper}(ho:ops[i]?=some o)(hI:Inv w0 c0 U E a w G)(I:qA ops L E a.tmps)(hL:∀j w',o.guard=some (j,w')->L j)(h0:¬L i)(o0:lC ops=true)
 {tk:Nat} (h3:4<=tk) (hU:∀u,tk<=u->u<tk+32->¬U u) {act:Option Bool} {ef:Ef} (W:guardOf ops E.rd o.guard=some act) (b0:oj C ops E.rd tk o.guard o=some ef)
 {E':Env} (d:bH o act E some ef=some E') {K:Act->World->Prop}
 (hK:∀a' w' G',Inv w0 c0 (λu=>U u\/(tk<=u/\u<tk+32)) E' a' w' G'->qA ops (λj=>L j\/j=i) E' a'.tmps->(∃v,a'=a.put o.dst v)->K a' w'):wpOp P ops.toArray Q i K a w:=by
 have p0:=hI.mono (U':=λu=>U u\/(tk<=u/\u<tk+32)) (λu hu=> .inl hu);cases k:o.guard with
 |none=>
  rw[k]at W b0;simp only[guardOf,aoW]at W;subst W;have r:Region.wanted o (yielded ops.toArray a.tmps)=true:=by simp[Region.wanted,k]
  have N:=QS hC hI I.ri (g:=none) (by rintro j w' ⟨⟩) h3 hU b0;refine ku ho r ?_
  have fin:∀ {E1:Env} {sv:SV} {mv:Value} {w':World} {G':Gh},qA ops L E1 a.tmps->E'=E1.set o.dst sv.kT->Inv w0 c0 (λu=>U u\/(tk<=u/\u<tk+32)) E1 a w' G'->cU w' G' sv mv->
   bM (λu=>U u\/(tk<=u/\u<tk+32)) G' sv->(∀t u,sv= .box t u->∀s u',E1.s.getD s .no≠ .box t u')->K (a.put o.dst mv) w':=by
   intro E1 sv mv w' G' r1 S q B F H;obtain⟨k1,Y⟩:=ajn B F;refine hK _ _ G' ?_ ?_ ⟨_,rfl⟩;rw[S];exact q.put o.dst k1 Y.1 Y.2.1 Y.2.2 (λt u e=>H t u (ah3 e));rw[S];exact r1.put ho o0 h0 hL (λj w' act v e=>absurd e ahA)
  have skip:∀ {E1:Env} {w':World} {G':Gh},qA ops L E1 a.tmps->E'=E1->o.dst=none->Inv w0 c0 (λu=>U u\/(tk<=u/\u<tk+32)) E1 a w' G'->K (a.put o.dst undef) w':=by
   intro E1 w' G' r1 S hd q;refine hK _ _ G' ?_ ?_ ⟨_,rfl⟩;rw[S,hd];exact q;rw[S,hd];intro s j w' act v hs;obtain⟨q1,q2,q3⟩:=r1 s j w' act v hs;exact⟨q1,.inl q2,q3⟩
  cases ef with
  |val v=>
   simp only[bH,aoW]at d;rw[Fc]at d;exact oh N (λmv w' G' q B F H=>fin I d.symm q B F H)
  |chk c v=>
   simp only[bH]at d;split at d;rename_i hc;simp only[aoW]at d;rw[Fc]at d;exact oh (N hc) (λmv w' G' q B F H=>fin I d.symm q B F H);cases d
  |opt α z x f=>
   simp only[bH,apL,aoW]at d;obtain⟨y,J,d⟩:=d;rw[Fc]at d;exact vP (N y J) (λmv w' ⟨G',q,B,F,H⟩=>fin I d.symm q B F H)
  |put b s v=>
   simp only[bH]at d;split at d;rename_i hc;simp only[aoW]at d;simp only[apX,aqA,aqp]at hc;obtain⟨w',G',h1,h2⟩:=N;unfold Oper.wp;rw[h1];refine skip (E1:={E with s:=E.s.set s (.box b v)}) (I.map (λs' j w' act u h=> ?_)) d.symm hc h2;simp only[fA]at h;split at h;cases h;exact⟨u,h⟩;cases d
  |app c kl gv t v=>
   simp only[bH,apX,if_true]at d;split at d;rename_i hc;simp only[aoW]at d
   exact oh (N hc) (λmv w' G' q B F H=>fin (I.map (λs j w' act u h=>by
    obtain⟨v1,h1⟩:=akn h;exact W6 h1)) d.symm q B F H)
   cases d
  |elem gv b e l m=>
   simp only[bH]at d;split at d;rename_i hc;simp only[aoW]at d;simp only[apX,aqA,aqp]at hc;obtain⟨w',G',h1,h2⟩:=N;unfold Oper.wp;rw[h1];exact skip (I.map (λs j w' act u h=>XA h)) d.symm hc h2;cases d
  |nap c gv b e l m v=>
   simp only[bH,apX,if_true]at d;split at d;rename_i hc;simp only[aoW]at d;rcases N hc with hY|⟨rfl,w',G',h1,h2⟩;exact oh hY (λmv w' G' q B F H=>fin (I.map (λs j w' act u h=>XA h)) d.symm q B F H);unfold Oper.wp;rw[h1];exact fin (sv:= .no) (mv:=undef) (I.map (λs j w' act u h=>XA h)) d.symm h2 trivial (by simp[bM,SV.sc,SV.bt,SV.rt]) (by rintro _ _ ⟨⟩);cases d
  |call α x e0 f rp=>
   simp only[bH,apX,if_true,apL,aoW]at d;obtain⟨y,J,d⟩:=d;exact vP (N y J) (λmv w' ⟨G',q,B,F,H⟩=>fin (E1:={E.cK e0 (rp y)with s:=cg (f y).2 (E.cK e0 (rp y)).s}) (I.map (λs j w' act u h=>aaY (NC h))) d.symm q B F H)
 |some p=>
  obtain⟨j,w'⟩:=p;rw[k]at W b0;obtain⟨b,rfl,hb⟩:=ES hI W;have hj:=hL j w' k;cases b with
  |true=>
   have J:=hb.1 rfl;have r:Region.wanted o (yielded ops.toArray a.tmps)=true:=by simp[Region.wanted,k,J]
   have N:=QS hC hI I.ri (g:=some (j,w')) (by rintro j1 w1 ⟨⟩;exact J) h3 hU b0;refine ku ho r ?_
   have fin:∀ {sv:SV} {mv:Value} {w1:World} {G':Gh},E'=E.set o.dst (eQ (some (j,w')) (some true) sv)->Inv w0 c0 (λu=>U u\/(tk<=u/\u<tk+32)) E a w1 G'->cU w1 G' sv mv->
    bM (λu=>U u\/(tk<=u/\u<tk+32)) G' sv->K (a.put o.dst mv) w1:=by
    intro sv mv w1 G' S q B F;obtain⟨k1,Y,k3⟩:=aa0 (j:=j) (w':=w') B F;refine hK _ _ G' ?_ ?_ ⟨_,rfl⟩;rw[S];exact q.put o.dst k1 Y.1 Y.2.1 Y.2.2 (λt u e=>absurd e (k3 t u));rw[S];refine I.put ho o0 h0 hL (λj1 w1 act v e=> ?_);unfold eQ at e;simp only at e;split at e;cases e;simp only[SV.g.injEq]at e;obtain⟨rfl,rfl,rfl,_⟩:=e;exact⟨⟨λ_=>J,λ_=>rfl⟩,k⟩
   cases ef with
   |val v=>
    simp only[bH,aoW]at d;rw[k]at d;exact oh N (λmv w' G' q B F _=>fin d.symm q B F)
   |chk c v=>
    simp only[bH]at d;split at d;rename_i hc;simp only[aoW]at d;rw[k]at d;exact oh (N (by simpa using hc)) (λmv w' G' q B F _=>fin d.symm q B F);cases d
   |opt α z x f=>
    simp only[bH,if_true,apL,aoW]at d;obtain⟨y,J,d⟩:=d;rw[k]at d;exact vP (N y J) (λmv w' ⟨G',q,B,F,H⟩=>fin d.symm q B F)
   |put b s v=>simp[bH]at d
   |app c kl gv t v=>simp[bH]at d
   |elem gv b e l m=>simp[bH]at d
   |nap c gv b e l m v=>simp[bH]at d
   |call α x e0 f rp=>simp[bH]at d
  |false=>
   have J:yielded ops.toArray a.tmps j≠some w':=λh=>by have:=hb.2 h;cases this
   have r:Region.wanted o (yielded ops.toArray a.tmps)=false:=by
    simp only[Region.wanted,k];simpa using J
   have fin:∀ {sv:SV},E'=E.set o.dst (eQ (some (j,w')) (some false) sv)->K (a.put o.dst undef) w:=by
    intro sv S;obtain⟨k1,Y,k3⟩:=aaG (w:=w) (G:=G) (U:=λu=>U u\/(tk<=u/\u<tk+32)) (v:=sv) (j:=j) (w':=w');refine hK _ _ G ?_ ?_ ⟨_,rfl⟩;rw[S];exact p0.put o.dst k1 Y.1 Y.2.1 Y.2.2 (λt u e=>absurd e (k3 t u));rw[S];refine I.put ho o0 h0 hL (λj1 w1 act v e=> ?_);unfold eQ at e;simp only at e;split at e;cases e;simp only[SV.g.injEq]at e;obtain⟨rfl,rfl,rfl,_⟩:=e;exact⟨⟨λh=>absurd h (by simp),λh=>absurd h J⟩,k⟩
   unfold wpOp;simp only[apZ,ho,r,ap2,if_false];cases ef with
   |val v=>
    simp only[bH,aoW]at d;rw[k]at d;exact fin d.symm
   |chk c v=>
    simp only[bH]at d;split at d;simp only[aoW]at d;rw[k]at d;exact fin d.symm;cases d
   |opt α z x f=>
    simp only[bH,apL,aoW]at d;obtain⟨y,J,d⟩:=d;rw[k]at d;exact fin d.symm
   |put b s v=>simp[bH]at d
   |app c kl gv t v=>simp[bH]at d
   |elem gv b e l m=>simp[bH]at d
   |nap c gv b e l m v=>simp[bH]at d
   |call α x e0 f rp=>simp[bH]at d
def YU{ρ:Type}(o:Oper)(a:Option Bool)(E:Env)(k:Env->Option ρ)(d:Ef):bH o a E k d=(bH o a E some d).bind k:=by
 cases d with
 |val v=>rfl
 |chk c v=>simp only[bH];split<;>split<;>rfl
 |opt α z x f=>simp only[bH,aqH];rfl
 |put b s v=>simp only[bH];split<;>rfl
 |app c kl h t v=>simp only[bH];split<;>(try split)<;>rfl
 |elem h b e l m=>simp only[bH];split<;>rfl
 |nap c h b e l m v=>simp only[bH];split<;>(try split)<;>rfl
 |call α x tks f rp=>simp only[bH];split
                     simp only[aqH];rfl;rfl
end
theorem bu.aaJ:∀(a b:List Ty) (x:bu a) (y:bu b),bu.fst a b (bu.app a b x y)=x
 | [],_,_,_=>rfl
 |_::a,b,x,y=>by
  show(x.1,bu.fst a b (bu.app a b x.2 y))=x;rw[bu.aaJ a b x.2 y];rfl
theorem bu.aaw:∀(a b:List Ty) (x:bu a) (y:bu b),bu.snd a b (bu.app a b x y)=y
 | [],_,_,_=>rfl
 |_::a,b,x,y=>bu.aaw a b x.2 y
def kL{r:Ren}{b:Nat}(h:A0 r b=true){t c:Nat}(d:r.lookup t=some c):4<=c/\c<b/\r.find? (·.2=c)=some (t,c):=by
 have e:=iP d;simp only[A0,C',l8,b_,beq_iff_eq]at h;obtain⟨⟨i,j⟩,k⟩:=h (t,c) e;exact⟨i,j,k⟩
def aaF{r:Ren}{t c:Nat}(h3:4<=t)(h:r.lookup t=some c):nK r t=c:=by
 unfold nK;rw[a_ (by omega),h];rfl
def qS(G:Gh)(r:Ren)(bs:List Nat):Gh:=
 ⟨λb=>nK r (G.col b),λc=>match r.find? (·.2=c)with|some p=>if 1000000000<=p.1 then .slice none 0 0 else G.hdr p.1|none=>undef,λc=>bs.contains c⟩
section
variable{P:Program}{C:Cx}{w0:World}{c0:C0}{U:Nat->Prop}{E:Env}{a:Act}{w:World}{G:Gh}{ops:List Oper}{L:Nat->Prop}{Q:Exit->Act->World->Prop}
def EB{r:Ren}{b:Nat}(d:A0 r b=true){bs:List Nat}{t c:Nat}(e:r.lookup t=some c)(ht:t<1000000000):(qS G r bs).hdr c=G.hdr t:=by
 obtain⟨_,_,h⟩:=kL d e;simp only[qS,h];rw[a_ (by omega)]
def ahR{r:Ren}{S:Nat}(s:A0 r S=true){bs:List Nat}{e:Ty}{l:List e.den}{v:Value}{m u:M}(h:cL w G e l v m)(d:FC r m u=true)(W:∀c∈m.aJ,c<1000000000):
 cL w (qS G r bs) e l v u:=by
 cases u with
 |dead=>exact h.one
 |row c hc nd'=>
  cases m with
  |row t hs nd=>
   simp only[FC,l8,aqg,M',C',po,b_]at d;obtain⟨⟨z,F⟩,H⟩:=d;obtain⟨h3,hh,B,k,i⟩:=h;obtain⟨I,g2,J⟩:=kL s z;refine⟨I,(EB s z (W t (by simp[M.aJ]))).trans hh,B,k,λb K p=> ?_⟩;obtain⟨k1,k2,k3,k4⟩:=i b K p;refine⟨by simp only[qS,k1];exact aaF h3 z,k2,λx N=>H _ (k3 x N),λq=> ?_⟩;subst q;rcases F with h|h;cases h;exact k4 h
  |sha hs=>
   cases hs with
   |nil=>
    simp only[FC,b_]at d;obtain⟨I,g2,J⟩:=kL s d;obtain⟨⟨B,k,i⟩,j⟩:=h
    have y:B=[]:=by
     cases B with
     |nil=>rfl
     |cons x l=>exact absurd (i x (by simp)) (by simp)
    subst y;have Y:v= .slice none 0 0:=j rfl;refine⟨I,?_,[],k,by simp⟩;simp only[qS,J];rw[an (by simp[W8]),Y]
   |cons x l=>simp[FC]at d
  |nst=>simp[FC]at d
  |dead=>simp[FC]at d
 |nst=>cases m<;>simp[FC]at d
 |sha hc=>
  cases m with
  |row t hs nd=>
   simp only[FC,C',po,b_]at d;obtain⟨B,k,i⟩:=h.rep (by simp);refine⟨⟨B,k,λb p=>d _ (i b p)⟩,λe=> ?_⟩;have:=d t (by simp);rw[e]at this;simp at this
  |sha hs=>
   simp only[FC,C',po,b_]at d;obtain⟨⟨B,k,i⟩,j⟩:=h;refine⟨⟨B,k,λb p=>d _ (i b p)⟩,λe=> ?_⟩;cases hs with
   |nil=>exact j rfl
   |cons x l=>have:=d x (by simp);rw[e]at this;simp at this
  |nst=>simp[FC]at d
  |dead=>simp[FC]at d
theorem bJ.cut{r:Ren}{y:Nat}(u:A0 r y=true){bs:List Nat}:∀ {τ:Ty} {x:τ.den} {sh q:Sh} {cs:List Value},bJ w G τ x sh cs->IP r sh q=true->(∀c∈sh.aJ,c<1000000000)->
 bJ w (qS G r bs) τ x q cs
 | .int _,_,.leaf,.leaf,_,h,_,_| .bool,_,.leaf,.leaf,_,h,_,_| .str,_,.leaf,.leaf,_,h,_,_=>h
 | .sl e,l,.sl m,.sl m',cs,h,ho,hn=>by
   obtain⟨v,rfl,h⟩:=h;exact⟨v,rfl,ahR u h ho hn⟩
 | .pair a b,p,.pair s1 s2,.pair s1' s2',cs,h,ho,hn=>by
   obtain⟨z,B,rfl,H,I⟩:=h;simp only[IP,l8]at ho;exact⟨z,B,rfl,bJ.cut u H ho.1 (λc h=>hn c (by simp[Sh.aJ,h])),bJ.cut u I ho.2 (λc h=>hn c (by simp[Sh.aJ,h]))⟩
 |_,_,.leaf,.sl _,_,_,ho,_|_,_,.leaf,.pair _ _,_,_,ho,_|_,_,.sl _,.leaf,_,_,ho,_|_,_,.sl _,.pair _ _,_,_,ho,_|_,_,.pair _ _,.leaf,_,_,ho,_|_,_,.pair _ _,.sl _,_,_,ho,_=>by simp[IP]at ho
 | .sl _,_,.leaf,.leaf,_,h,_,_| .pair _ _,_,.leaf,.leaf,_,h,_,_| .int _,_,.sl _,.sl _,_,h,_,_| .bool,_,.sl _,.sl _,_,h,_,_| .str,_,.sl _,.sl _,_,h,_,_| .pair _ _,_,.sl _,.sl _,_,h,_,_
 | .int _,_,.pair _ _,.pair _ _,_,h,_,_| .bool,_,.pair _ _,.pair _ _,_,h,_,_| .str,_,.pair _ _,.pair _ _,_,h,_,_| .sl _,_,.pair _ _,.pair _ _,_,h,_,_=>h.elim
def aed(Y:Inv w0 c0 U E a w G)(F:∀u,U u->u<1000000000){r:Ren}{nt:Nat}(q:A0 r nt=true){bs:List Nat}{s:Nat}{k:AK}{x:bu k.OZ}(h:yN E r s k=some x):
 cU w (qS G r bs) (sE k x) (a.tmps.getD s undef)/\(∀c v,sE k x= .box c v->∃t u,E.s.getD s .no= .box t u/\r.lookup t=some c):=by
 have hs:=Y.slots s;have j:=Y.wc s;cases k with
 |val τ sh=>
  simp only[yN,Env.get]at h;split at h;rename_i v l;split at h;rename_i d;split at h;rename_i y hc;cases h;rw[l]at hs j;obtain⟨cs,z,m⟩:=hs;have e:=fG hc;rw[e]at z m d j;refine⟨⟨cs,z,bJ.cut q m d (λc hc=>F c (j.1 c hc).2.1)⟩,?_⟩;rintro c u ⟨⟩;cases h;cases h;cases h
 |box c τ sh=>
  simp only[yN,Env.get]at h;split at h;rename_i t v l;split at h;rename_i d;simp only[l8,b_]at d;split at h;rename_i y hc;cases h;rw[l]at hs j;obtain⟨J,S,el,z,m,B,K,H,h6⟩:=hs;have e:=fG hc;rw[e]at h6 d j;obtain⟨N,g2,g3⟩:=kL q d.2;refine⟨⟨J,S,el,z,N,(EB q d.2 (F t (j.2.1 t (by simp[SV.bt])).2.1)).trans B,?_,H,bJ.cut q h6 d.1 (λc hc=>F c (j.1 c hc).2.1)⟩,?_⟩;simp only[qS,K];exact aaF m d.2;rintro W u ⟨⟩;exact⟨t,v,l,d.2⟩;cases h;cases h;cases h
 |ptr c o p τ=>
  simp only[yN,Env.get]at h;split at h;rename_i t o' p' τ' l;split at h;rename_i d;simp only[l8,b_]at d;obtain⟨⟨⟨d,rfl⟩,_⟩,_⟩:=d;rw[l]at hs j;obtain⟨J,z,m,B⟩:=hs;obtain⟨N,g2,g3⟩:=kL q d;refine⟨⟨J,N,(EB q d (F t (j.2.1 t (by simp[SV.bt])).2.1)).trans m,B⟩,?_⟩;rintro W u ⟨⟩;cases h;cases h
 |ept c e o p τ=>
  simp only[yN,Env.get]at h;split at h;rename_i t e' i o' p' τ' l;split at h;rename_i d;simp only[l8,b_]at d;obtain⟨⟨⟨⟨d,rfl⟩,rfl⟩,_⟩,_⟩:=d;cases h;rw[l]at hs j;obtain⟨b,off,n,cap,z,m,B,K,H⟩:=hs;obtain⟨N,g2,g3⟩:=kL q d;refine⟨⟨b,off,n,cap,N,(EB q d (F t (j.2.2 t (by simp[SV.rt])).2.1)).trans m,B,K,H⟩,?_⟩;rintro W u ⟨⟩;cases h;cases h
 |rdp hc τ sh=>
  simp only[yN,Env.get]at h;split at h;rename_i hs' v l;split at h;rename_i d;simp only[l8,C',po,b_]at d;split at h;rename_i y I;cases h;rw[l]at hs j;obtain⟨J,o,S,el,fz,z,m,B,K,H⟩:=hs;have e:=fG I;rw[e]at B H d j;refine⟨⟨J,o,S,el,fz,z,m,B,d.2 _ K,bJ.cut q H d.1 (λc hc=>F c (j.1 c (by simp[SV.sc,hc])).2.1)⟩,?_⟩;rintro c u ⟨⟩;cases h;cases h;cases h
def adH{k:AK}{x:bu k.OZ}{G':Gh}{U':Nat->Prop}(hs:∀c∈k.sc,0<c/\U' c/\G'.bx c=false)(b:∀c∈k.bt,0<c/\U' c/\G'.bx c=true):bM U' G' (sE k x):=by
 cases k with
 |val τ d=>exact⟨hs,by simp[sE,SV.bt],by simp[sE,SV.rt]⟩
 |box c τ d=>exact⟨hs,b,by simp[sE,SV.rt]⟩
 |ptr c o p τ=>exact⟨by simp[sE,SV.sc],b,by simp[sE,SV.rt]⟩
 |ept c e o p τ=>exact⟨by simp[sE,SV.sc],by simp[sE,SV.bt],hs⟩
 |rdp hc τ d=>exact⟨hs,by simp[sE,SV.bt],by simp[sE,SV.rt]⟩
def ai0{k:AK}{x:bu k.OZ}{j:Nat}{w act:Bool}{v:SV}:sE k x≠ .g j w act v:=by
 cases k<;>simp[sE]
def zQ(L:List SV):Prop:=∀s j w act v,L.getD s .no≠ .g j w act v
theorem OL(i:Inv w0 c0 U E a w G)(m:∀u,U u->u<1000000000){r:Ren}{F:Nat}(q:A0 r F=true){bs:List Nat}{U':Nat->Prop}:
 ∀ {l:List (Nat×AK)} {t:bu (qw l)} {K:List SV},Je E r l=some t->(∀c∈l.flatMap (λp=>p.2.sc),0<c/\U' c/\(qS G r bs).bx c=false)->(∀c∈l.flatMap (λp=>p.2.bt),0<c/\U' c/\(qS G r bs).bx c=true)->
 (∀s,cU w (qS G r bs) (K.getD s .no) (a.tmps.getD s undef)/\bM U' (qS G r bs) (K.getD s .no))->(∀s c v,K.getD s .no= .box c v->∃t u,E.s.getD s .no= .box t u/\r.lookup t=some c)->zQ K->
 (pH l t K).length=K.length/\(∀s,cU w (qS G r bs) ((pH l t K).getD s .no) (a.tmps.getD s undef)/\bM U' (qS G r bs) ((pH l t K).getD s .no))/\
  (∀s c v,(pH l t K).getD s .no= .box c v->∃t u,E.s.getD s .no= .box t u/\r.lookup t=some c)/\zQ (pH l t K)
 | [],t,K,_,_,_,h1,h2,h3=>⟨rfl,h1,h2,h3⟩
 |(s,k)::l,t,K,h,hs,hb,h1,h2,h3=>by
  simp only[Je]at h;split at h;rename_i x y z B;cases h;obtain⟨H,I⟩:=aed (bs:=bs) i m q z;simp only[List.flatMap_cons,ev]at hs hb;simp only[pH];rw[bu.aaJ,bu.aaw]
  obtain⟨q1,q2⟩:=OL i m q (K:=K.set s (sE k x)) B (λc hc=>hs c (.inr hc)) (λc hc=>hb c (.inr hc)) (λd=>by
   rw[fA];split;rename_i e;rw[e.1];exact⟨H,adH (λc hc=>hs c (.inl hc)) (λc hc=>hb c (.inl hc))⟩;exact h1 d) (λd c v b=>by
   rw[fA]at b;split at b;rename_i e;rw[e.1];exact I c v b;exact h2 d c v b) (λd j w act v b=>by
   rw[fA]at b;split at b;exact ai0 b;exact h3 d j w act v b)
  exact⟨by rw[q1];simp,q2⟩;cases h
def Ru(i:Inv w0 c0 (λu=>u<E.nt) E a w G){n:C5}{N:Nat}(hN:E.s.length=N){t:bu (qw n.ks)}(h:proj n E=some t):
 ∃G',Inv w0 c0 (λu=>u<(mE N n t).nt) (mE N n t) a w G'/\zQ (mE N n t).s/\(mE N n t).s.length=N/\4<=(mE N n t).nt:=by
 unfold proj at h;split at h;rename_i r m;split at h;rename_i hc;simp only[l8,b_]at hc;obtain⟨⟨hnt,y⟩,H⟩:=hc;simp only[ahJ,l8,C',b_,M',po,d_]at y;obtain⟨⟨⟨J,x⟩,z⟩,_⟩:=y
 have l:∀s,(aqi N SV.no).getD s .no= .no:=by
  intro s;rw[ew,List.getElem?_replicate];split<;>rfl
 obtain⟨q1,q2,q3,q4⟩:=OL (bs:=n.ks.flatMap λ(p:Nat×AK)=>p.2.bt) (U':=λu=>u<n.nt) (K:=aqi N .no) i (λu hu=>by omega) H h
  (λc hc=>⟨(z c hc).1.1,(z c hc).1.2,by simpa[qS]using(z c hc).2⟩)
  (λc hc=>⟨(x c hc).1.1.1,(x c hc).1.1.2,by simpa[qS]using hc⟩)
  (λs=>by rw[l];exact⟨trivial,by simp[bM,SV.sc,SV.bt,SV.rt]⟩) (λs c v B=>by rw[l]at B;cases B) (λs j w act v B=>by rw[l]at B;cases B)
 have d:∀b,(nK r (G.col b)=G.col b/\G.col b<=3)\/(4<=G.col b/\nK r (G.col b)=2)\/(4<=G.col b/\4<=nK r (G.col b)/\nK r (G.col b)<n.nt):=by
  intro b;unfold nK;split;rename_i h;exact .inl ⟨rfl,h⟩;rename_i h;cases hl:r.lookup (G.col b)with
  |none=>right;left;exact⟨by omega,rfl⟩
  |some k=>
   obtain⟨k1,k2,_⟩:=kL H hl;right;right;exact⟨by omega,k1,k2⟩
 refine⟨qS G r (n.ks.flatMap λ(p:Nat×AK)=>p.2.bt),⟨?_,λs=>(q2 s).1,λs=>(q2 s).2.1,λs=>(q2 s).2.2.1,λs=>(q2 s).2.2.2,?_,λb m=> ?_,λb m=> ?_,λb m=> ?_,λb m hc=> ?_,λb m=> ?_,i.size,i.os,i.tape,i.output,i.defers,?_,λW=>by cases W⟩,q4,by
  show(pH n.ks t (aqi N .no)).length=N;rw[q1];simp,J⟩
 show a.tmps.size=(pH n.ks t (aqi N .no)).length;rw[q1,i.len,hN];simp;intro s S c v Y h1 F;obtain⟨t1,u1,e1,l1⟩:=q3 s c v h1;obtain⟨t2,u2,e2,l2⟩:=q3 S c Y F;have f1:=(kL H l1).2.2;have I:=(kL H l2).2.2;rw[f1]at I;simp only[aoW,ao0,and_true]at I;subst I;exact i.uni s S t1 u1 u2 e1 e2;have:nK r (G.col b)<n.nt:=by rcases d b with h|h|h<;>omega
 exact this;have q:0<nK r (G.col b):=m;refine i.lt b ?_;rcases d b with h|h|h<;>omega;have q:4<=nK r (G.col b):=m;refine i.fresh b ?_;rcases d b with h|h|h<;>omega;have hf:=i.frame b m hc;refine⟨?_,hf.2⟩;show nK r (G.col b)=c0.col b;rcases d b with h|h|h<;>omega;have q:nK r (G.col b)=1\/nK r (G.col b)=3:=m;show b<_/\c0.col b=nK r (G.col b);have e:nK r (G.col b)=G.col b:=by rcases d b with h|h|h<;>omega
 rw[e]at q|-;exact i.one b q;refine⟨⟨by show 2<n.nt;omega,?_⟩,by show 3<n.nt;omega,?_⟩;show List.contains _ 2=false;simp only[po,d_];intro F;have:=(x 2 F).1.2;simp at this;show List.contains _ 3=false;simp only[po,d_];intro F;have:=(x 3 F).2;simp at this;cases h;cases h
end
def pG(E:Env)(d:Option Nat)(v:SV):(E.set d v).s.length=E.s.length:=by cases d<;>simp[Env.set]
def M5(E:Env)(d:Option Nat)(v:SV):(E.set d v).nt=E.nt:=by cases d<;>rfl
def af5(E:Env)(ts:List Nat):(E.kill ts).s.length=E.s.length:=by unfold Env.kill;split<;>simp
def agd(E:Env)(ts:List Nat)(t:Nat):(E.aX ts t).s.length=E.s.length:=by unfold Env.aX;split<;>simp
structure fI(o:Oper)(R R':Rd):Prop where
 get:∀s∈tmpsOf o,R'.get s=R.get s
 box:eR o=true->∀s∈tmpsOf o,∀b off p τ,(R.get s).strip= .ptr b off p τ->R'.box b=R.box b
 row:eR o=true->∀s∈tmpsOf o,∀b e,XK (R.get s).strip=some (b,e)->R'.row b e=R.row b e
section
variable{C:Cx}{R R':Rd}{o:Oper}{ops:List Oper}{tk:Nat}{g:Option (Nat×Bool)}
def yz{s:Nat}(h:Operand.tmp s∈o.op.operands.toList):s∈tmpsOf o:=by
 unfold tmpsOf;exact aqE.2 ⟨.tmp s,h,rfl⟩
def Uf(h:fI o R R'){t:TypeId}{x:Operand}(b:x∈o.op.operands.toList):gR C R' t x=gR C R t x:=by
 cases x with
 |tmp s=>simp only[gR];rw[h.get s (yz b)]
 |_=>rfl
def Ep(h:fI o R R'){t:TypeId}{x:Operand}(b:x∈o.op.operands.toList):arg C R' g t x=arg C R g t x:=by
 simp only[arg,Uf h b]
def jO(h:fI o R R'){t:TypeId}{x:Operand}(b:x∈o.op.operands.toList):dJ C R' g t x=dJ C R g t x:=by
 simp only[dJ,Ep h b]
def Ux{t:TypeId}{x:Operand}{sv:SV}(h:arg C R g t x=some sv)(k:(∃b off p τ,sv= .ptr b off p τ)\/∃b e i off p τ,sv= .ept b e i off p τ):
 ∃s,x= .tmp s/\(R.get s).strip=sv:=by
 simp only[arg,apL]at h;obtain⟨l,c,d⟩:=h;cases x with
 |tmp s=>
  simp only[gR,aoW]at c;refine⟨s,rfl,?_⟩;rw[c];cases l with
  |g j w a v=>simp only[AN]at d;split at d<;>simp_all[SV.strip]
  |_=>simp only[AN,aoW]at d;subst d;rfl
 |const v=>
  exfalso;simp only[gR]at c;split at c;rw[B_]at c;obtain⟨r,_,rfl⟩:=c;simp only[AN,aoW]at d;subst d;rcases k with⟨_,_,_,_,h⟩|⟨_,_,_,_,_,_,h⟩<;>cases h;cases c
 |global x=>simp[gR]at c
 |func x=>simp[gR]at c
def K3(h:fI o R R')(c:eR o=true){t:TypeId}{x:Operand}(d:x∈o.op.operands.toList){b off:Nat}{p:List Bool}{τ:Ty}(e:arg C R g t x=some (.ptr b off p τ)):R'.box b=R.box b:=by
 obtain⟨s,rfl,hs⟩:=Ux e (.inl ⟨_,_,_,_,rfl⟩);exact h.box c s (yz d) b off p τ hs
def adj{τ σ:Ty}{v:Value}{z:σ.den}{b off:Nat}{e:Ty}{i:Int}{p:List Bool}{fr:Bool}(h:GP τ v=some ⟨σ,z,.sl (.nst b e i off p fr)⟩):False:=by
 have hs:∀τ:Ty,iM τ (.sha [])≠ .sl (.nst b e i off p fr):=by intro τ;cases τ<;>simp[iM]
 unfold GP at h;split at h;split at h;simp only[aoW,TV.mk.injEq]at h;obtain⟨rfl,_,h⟩:=h;exact hs _ h;cases h;cases h;split at h;simp only[aoW,TV.mk.injEq]at h;obtain⟨rfl,_,h⟩:=h;exact hs _ h;cases h
def Ew(h:fI o R R')(c:eR o=true){t:TypeId}{x:Operand}(d:x∈o.op.operands.toList){b off:Nat}{e:Ty}{i:Int}{p:List Bool}{τ:Ty}(j:arg C R g t x=some (.ept b e i off p τ)):R'.row b e=R.row b e:=by
 obtain⟨s,rfl,hs⟩:=Ux j (.inr ⟨_,_,_,_,_,_,rfl⟩);exact h.row c s (yz d) b e (by rw[hs];rfl)
def aev(h:fI o R R')(y:eR o=true){t:TypeId}{x:Operand}(B:x∈o.op.operands.toList){b off:Nat}{e:Ty}{i:Int}{p:List Bool}{fr:Bool}{τ:Ty}{z:τ.den}
 (k:dJ C R none t x=some ⟨τ,z,.sl (.nst b e i off p fr)⟩):R'.row b e=R.row b e:=by
 simp only[dJ]at k;split at k;rename_i u c;split at k;cases k;cases x with
 |tmp s=>
  refine h.row y s (yz B) b e ?_;simp only[arg,gR,aqe]at c;cases m:R.get s with
  |g j w a v=>rw[m]at c;simp[AN]at c
  |d v=>
   rw[m]at c;simp only[AN,aoW,SV.d.injEq]at c;subst c;rfl
  |_=>rw[m]at c;simp[AN]at c
 |const v=>
  exfalso;simp only[arg,gR]at c;split at c;rename_i i' _;rw[apL]at c;obtain⟨u',l,q⟩:=c;rw[B_]at l;obtain⟨r,l,rfl⟩:=l;simp only[AN,aoW,SV.d.injEq]at q;subst q;exact adj l;simp at c
 |global x=>simp[arg,gR]at c
 |func f=>simp[arg,gR]at c
 cases k;cases k
theorem Ik(h:fI o R R'){i:TI}:∀ {l:List (Nat×Operand)} {x:i.τ.den} {sh:Sh},(∀p∈l,p.2∈o.op.operands.toList)->uL C R' g i l x sh=uL C R g i l x sh
 | [],_,_,_=>rfl
 |(j,y)::l,x,sh,hl=>by
  simp only[uL,jO h (hl (j,y) (by simp))];cases i.fs[j]? with
  |none=>rfl
  |some c=>
   simp only;cases dJ C R g c y with
   |none=>rfl
   |some v=>
    simp only;cases iO i.τ x sh (dZ i.fs.length j) v with
    |none=>rfl
    |some r=>exact Ik h (λp b=>hl p (by simp[b]))
theorem Kj(h:fI o R R'){el:TypeId}{e:Ty}:∀ {l:List (Nat×Operand)} {n:Nat},(∀p∈l,p.2∈o.op.operands.toList)->xK C R' g el e n l=xK C R g el e n l
 | [],_,_=>rfl
 |(j,y)::l,n,hl=>by
  simp only[xK,jO h (hl (j,y) (by simp)),Kj h (l:=l) (n:=n+1) (λp b=>hl p (by simp[b]))]
theorem UQ(h:fI o R R'):∀ {l:List Operand} {ts:List TypeId},(∀p∈l,p∈o.op.operands.toList)->pU C R' g l ts=pU C R g l ts
 | [],[],_=>rfl
 | [],_::_,_=>rfl
 |_::_,[],_=>rfl
 |y::l,t::ts,hl=>by
  simp only[pU,Ep h (hl y (by simp)),UQ h (l:=l) (ts:=ts) (λp b=>hl p (by simp[b]))]
def ZP{ps:List PK}:∀ {as:List SV} {k:Nat} {r0:List (Nat×Nat)},(∀sv∈as,∀b off p τ,sv= .ptr b off p τ->R'.box b=R.box b)->bW R' ps as k r0=bW R ps as k r0:=by
 induction ps with
 |nil=>intro as k r0 _;cases as<;>rfl
 |cons p ps m=>
  intro as k r0 h;cases as with
  |nil=>cases p<;>rfl
  |cons a as=>
   have c:=λk r0=>m (as:=as) (k:=k) (r0:=r0) (λsv i=>h sv (by simp[i]));cases p with
   |val τ q=>cases a<;>simp only[bW,c]
   |io τ q=>
    have d:rB R' a=rB R a:=by
     unfold rB;split;rename_i t j;rw[h _ (by simp) t 0 [] j rfl];rfl
    simp only[bW,d,c]
   |rd τ=>
    have d:rB R' a=rB R a:=by
     unfold rB;split;rename_i t j;rw[h _ (by simp) t 0 [] j rfl];rfl
    simp only[bW,d,c]
   |vx e l=>cases a<;>simp only[bW,c]
def aeN{ps:List PK}:∀ {as:List SV} {k:Nat} {r0:List (Nat×Nat)} {xs:bu (ps.map PK.ty)} {i bs:List (Nat×Nat)},bW R ps as k r0=some (xs,i,bs)->
 ∀b∈bs,∃τ,SV.ptr b.1 0 [] τ∈as:=by
 induction ps with
 |nil=>
  intro as k r0 xs i bs h b d;cases as with
  |nil=>simp only[bW,aoW]at h;cases h;cases d
  |cons _ _=>simp[bW]at h
 |cons p ps m=>
  intro as k r0 xs i bs h b d;cases as with
  |nil=>cases p<;>simp[bW]at h
  |cons a as=>
   cases p with
   |val τ q=>
    cases a<;>simp only[bW]at h<;>try cases h
    split at h;rename_i j;split at h;simp only[aoW,ao0]at h;obtain⟨_,_,rfl⟩:=h;obtain⟨τ,h⟩:=m j b d;exact⟨τ,s_ _ h⟩;cases h;cases h
   |vx e l=>
    cases a<;>simp only[bW]at h<;>try cases h
    split at h;rename_i j;split at h;simp only[aoW,ao0]at h;obtain⟨_,_,rfl⟩:=h;obtain⟨τ,h⟩:=m j b d;exact⟨τ,s_ _ h⟩;cases h;cases h
   |rd τ=>
    simp only[bW]at h;split at h;split at h;rename_i j;split at h;simp only[aoW,ao0]at h;obtain⟨_,_,rfl⟩:=h;obtain⟨τ,h⟩:=m j b d;exact⟨τ,s_ _ h⟩;cases h;cases h;cases h
   |io τ q=>
    simp only[bW]at h;split at h;rename_i t s v c;split at h;rename_i j;split at h;simp only[aoW,ao0]at h;obtain⟨_,_,rfl⟩:=h;rcases ec.1 d with rfl|d;unfold rB at c;split at c;rename_i t' u;rw[B_]at c;obtain⟨r,_,c⟩:=c;simp only[ao0]at c;obtain⟨rfl,_,_⟩:=c;exact⟨u,by simp⟩;cases c;obtain⟨τ,h⟩:=m j b d;exact⟨τ,s_ _ h⟩;cases h;cases h;cases h
def TD(h:fI o R R'){b:Builtin}{args:List Operand}{ts:List TypeId}(c:∀x∈args,x∈o.op.operands.toList):qL C R' tk g b args ts=qL C R tk g b args ts:=by
 unfold qL;split;rename_i x t;simp only[jO h (c x (by simp))];rename_i x y t u;simp only[jO h (c x (by simp)),jO h (c y (by simp))];rename_i x y t u;simp only[jO h (c x (by simp)),jO h (c y (by simp))];rename_i x y t u;simp only[jO h (c x (by simp)),jO h (c y (by simp))];rfl
def aac(h:fI o R R')(k:eR o=true){f:FuncId}{args:List Operand}{ts:List TypeId}(m:∀x∈args,x∈o.op.operands.toList):GY C R' tk g f args ts=GY C R tk g f args ts:=by
 unfold GY;rw[UQ h m];cases C.ct f with
 |none=>rfl
 |some c=>
  simp only;cases has:pU C R g args ts with
  |none=>rfl
  |some as=>
   simp only;have e:∀sv∈as,∀b off p τ,sv=SV.ptr b off p τ->R'.box b=R.box b:= ?_;rw[ZP (R:=R) (R':=R') e];cases r:bW R c.ps as 4 []with
   |none=>rfl
   |some z=>
    obtain⟨xs,rho,u⟩:=z
    have s:∀Io2,BQ R' u Io2 c.kp=BQ R u Io2 c.kp:=by
     intro Io2;unfold BQ;congr 1;funext q;cases N:u[q.1]? with
     |none=>rfl
     |some b=>
      cases hz:Io2[q.1]? with
      |none=>rfl
      |some z=>
       obtain⟨τ,B⟩:=aeN r b (apR N);simp only[e _ B b.1 0 [] τ rfl]
    simp only[s]
   intro sv j b off p τ F;subst F
   have:∀ {args:List Operand} {ts:List TypeId} {as:List SV},(∀x∈args,x∈o.op.operands.toList)->pU C R g args ts=some as->SV.ptr b off p τ∈as->∃x∈args,∃t,arg C R g t x=some (.ptr b off p τ):=by
    intro args
    induction args with
    |nil=>intro ts as _ d i;cases ts<;>simp[pU]at d;subst d;simp at i
    |cons y l S=>
     intro ts as H d i;cases ts with
     |nil=>simp[pU]at d
     |cons t ts=>
      simp only[pU]at d;split at d;rename_i v vs I J;cases d;simp only[ec]at i;rcases i with rfl|i;exact⟨y,by simp,t,I⟩;obtain⟨x,q1,q2⟩:=S (λx K=>H x (by simp[K])) J i;exact⟨x,by simp[q1],q2⟩;cases d
   obtain⟨x,q1,t,q2⟩:=this m has j;exact K3 h k (m x q1) q2
def PR(h:fI o R R'):bK C ops R' tk g o=bK C ops R tk g o:=by
 have B:∀ {x:Operand},x∈o.op.operands.toList->∀ {t:TypeId},arg C R' g t x=arg C R g t x:=λz=>Ep h z;have q:∀ {x:Operand},x∈o.op.operands.toList->∀ {t:TypeId},dJ C R' g t x=dJ C R g t x:=λz=>jO h z;have I:∀ {x:Operand},x∈o.op.operands.toList->∀ {t:TypeId},gR C R' t x=gR C R t x:=λz=>Uf h z;cases k:o.op with
 |move x=>rw[k]at B;simp only[bK,k,B (x:=x) (by simp[Op.operands])]
 |assign x=>rw[k]at B;simp only[bK,k,B (x:=x) (by simp[Op.operands])]
 |pick c a b=>
  rw[k]at B I;simp only[bK,k,B (x:=c) (by simp[Op.operands]),I (x:=a) (by simp[Op.operands]),I (x:=b) (by simp[Op.operands])]
 |alloc t=>simp only[bK,k]
 |box t x=>rw[k]at q;simp only[bK,k,q (x:=x) (by simp[Op.operands])]
 |build t J=>
  simp only[bK,k];cases C.tt t with
  |none=>rfl
  |some i=>simp only[Ik h (l:=J.toList) (λp H=>by rw[k];simp[Op.operands];exact⟨p.1,by simpa using H⟩)]
 |buildSlice t n J=>
  simp only[bK,k];split;rename_i e _ el _;simp only[Kj h (l:=J.toList) (λp H=>by rw[k];simp[Op.operands];exact⟨p.1,by simpa using H⟩)];rfl
 |load t a=>
  have z:a∈o.op.operands.toList:=by rw[k];simp[Op.operands]
  simp only[bK,k,B z];cases C.tt t with
  |none=>rfl
  |some ti=>
   simp only;cases F:arg C R g 0 a with
   |none=>rfl
   |some sv=>
    cases sv with
    |ptr b off p τ=>simp only[K3 h (by simp[eR,k]) z F]
    |ept b e i off p τ=>simp only[Ew h (by simp[eR,k]) z F]
    |_=>rfl
 |store t a x=>
  have z:a∈o.op.operands.toList:=by rw[k];simp[Op.operands]
  have S:x∈o.op.operands.toList:=by rw[k];simp[Op.operands]
  simp only[bK,k,B z,q S];cases C.tt t with
  |none=>rfl
  |some ti=>
   cases F:arg C R g 0 a with
   |none=>rfl
   |some sv=>
    cases sv with
    |ptr b off p τ=>
     cases dJ C R g t x with
     |none=>rfl
     |some v=>simp only[K3 h (by simp[eR,k]) z F]
    |ept b e i off p τ=>
     cases dJ C R g t x with
     |none=>rfl
     |some v=>simp only[Ew h (by simp[eR,k]) z F]
    |_=>rfl
 |nilCheck x=>rw[k]at B;simp only[bK,k,B (x:=x) (by simp[Op.operands])]
 |binOp op t x y u=>rw[k]at q;simp only[bK,k,q (x:=x) (by simp[Op.operands]),q (x:=y) (by simp[Op.operands])]
 |unOp op t x=>rw[k]at q;simp only[bK,k,q (x:=x) (by simp[Op.operands])]
 |convert s d x=>rw[k]at q;simp only[bK,k,q (x:=x) (by simp[Op.operands])]
 |makeSlice t n c=>rw[k]at q;simp only[bK,k,q (x:=n) (by simp[Op.operands]),q (x:=c) (by simp[Op.operands])]
 |slice t x K N mx=>
  rw[k]at q;have W:∀ {t},dJ C R' g t x=dJ C R g t x:=q (by simp[Op.operands])
  have Y:K.map (dJ C R' g 3)=K.map (dJ C R g 3):=by
   cases K with
   |none=>rfl
   |some l=>simp only[ap4];rw[q (by simp[Op.operands])]
  have e3:N.map (dJ C R' g 3)=N.map (dJ C R g 3):=by
   cases N with
   |none=>rfl
   |some l=>simp only[ap4];rw[q (by simp[Op.operands])]
  simp only[bK,k,W,Y,e3]
 |fieldAddr s x j=>rw[k]at B;simp only[bK,k,B (x:=x) (by simp[Op.operands])]
 |field s x j=>rw[k]at q;simp only[bK,k,q (x:=x) (by simp[Op.operands])]
 |indexAddr t x n=>rw[k]at q;simp only[bK,k,q (x:=x) (by simp[Op.operands]),q (x:=n) (by simp[Op.operands])]
 |index t x n=>rw[k]at q;simp only[bK,k,q (x:=x) (by simp[Op.operands]),q (x:=n) (by simp[Op.operands])]
 |extract x j=>rw[k]at B;simp only[bK,k,B (x:=x) (by simp[Op.operands])]
 |call c=>
  have hc:∀x∈c.args.toList,x∈o.op.operands.toList:=by
   intro x z;rw[k];simp only[Op.operands,Call.operands];cases c.callee<;>simp_all
  simp only[bK,k];cases hb:c.callee with
  |builtin b=>simp only[TD h hc]
  |value f=>
   cases f with
   |func f=>simp only[aac h (by simp[eR,k]) hc]
   |_=>rfl
  |invoke r m=>rfl
 |_=>simp only[bK,k]
def ZG(h:fI o R R'):sX C ops R' tk o=sX C ops R tk o:=by
 have I:∀ {x:Operand},x∈o.op.operands.toList->∀ {t:TypeId},arg C R' none t x=arg C R none t x:=λj=>Ep h j;have r:∀ {x:Operand},x∈o.op.operands.toList->∀ {t:TypeId},dJ C R' none t x=dJ C R none t x:=λj=>jO h j;unfold sX;cases d:o.op with
 |load t a=>
  have j:a∈o.op.operands.toList:=by rw[d];simp[Op.operands]
  simp only[I j];cases C.tt t with
  |none=>rfl
  |some H=>
   cases k:arg C R none 0 a with
   |none=>rfl
   |some sv=>
    cases sv with
    |ept b e i off p τ=>simp only[Ew h (by simp[eR,d]) j k]
    |_=>rfl
 |store t a x=>
  have j:a∈o.op.operands.toList:=by rw[d];simp[Op.operands]
  have s:x∈o.op.operands.toList:=by rw[d];simp[Op.operands]
  simp only[I j,r s];cases C.tt t with
  |none=>rfl
  |some H=>
   cases k:arg C R none 0 a with
   |none=>rfl
   |some sv=>
    cases sv with
    |ept b e i off p τ=>
     have z:=Ew h (by simp[eR,d]) j k;cases dJ C R none t x with
     |none=>rfl
     |some v=>
      obtain⟨B,xv,F⟩:=v;cases F with
      |sl m=>
       cases m with
       |nst b' J i' off' p' fr=>
        cases B with
        |sl σ=>simp only[z]
        |_=>rfl
       |_=>cases B<;>rfl
      |_=>cases B<;>rfl
    |_=>rfl
 |call c=>
  have hc:∀x∈c.args.toList,x∈o.op.operands.toList:=by
   intro x j;rw[d];simp only[Op.operands,Call.operands];cases c.callee<;>simp_all
  simp only;split;rename_i x y t u hb k hts;have j:x∈o.op.operands.toList:=hc x (by rw[k];simp);have s:y∈o.op.operands.toList:=hc y (by rw[k];simp);simp only[r j,r s];split;rename_i H e l b E0 i off p J l' m' hti q hvy;simp only[aev h (by simp[eR,d]) j q];rfl;rfl
 |_=>rfl
def aff(h:fI o R R'):oj C ops R' tk g o=oj C ops R tk g o:=by
 unfold oj;cases g with
 |none=>simp only[ZG h,PR h]
 |some g=>exact PR h
end
def ZM(a b:List (Nat×SV))(L:List SV):fC (a++b) L=fC b (fC a L):=List.foldl_append ..
def O5(E:Env)(d:Option Nat)(v:SV):(E.set d v).s=fC (wr d v) E.s:=by cases d<;>rfl
theorem Gl:∀(l:List (Nat×Nat×TV)) (L:List SV),cg l L=fC (l.map (λp=>(p.2.1,SV.box p.1 p.2.2))) L
 | [],_=>rfl
 |(_,_,_)::l,_=>Gl l _
def T5(E:Env)(ts:List Nat):(E.kill ts).s=E.s.map (fq ts):=by
 unfold Env.kill fq;split;simp;rfl
def aeC(E:Env)(ts:List Nat)(t:Nat):(E.aX ts t).s=E.s.map (mP ts t):=by
 unfold Env.aX mP;split;simp;rfl
def aaL(E:Env)(ts:List Nat):(E.kill ts).nt=E.nt:=by unfold Env.kill;split<;>rfl
def ahX(E:Env)(ts:List Nat)(t:Nat):(E.aX ts t).nt=E.nt:=by unfold Env.aX;split<;>rfl
theorem Env.ext'{E E':Env}(h:E.s=E'.s)(hn:E.nt=E'.nt)(hk:E.kp=E'.kp:=by rfl):E=E':=by cases E;cases E';simp_all
def Om(E:Env)(d:Option Nat)(v:SV):(E.set d v).kp=E.kp:=by cases d<;>rfl
def aiI(E:Env)(ts:List Nat)(t:Nat):(E.aX ts t).kp=E.kp:=by unfold Env.aX;split<;>rfl
def YX(E:Env)(ts:List Nat):(E.kill ts).kp=E.kp:=by unfold Env.kill;split<;>rfl
def adY(E:Env)(ts:List Nat)(b:List (Nat×Nat)):(E.cK ts b).kp=E.kp:=by unfold Env.cK;split;exact YX E ts;rfl
def afY(E:Env)(ts:List Nat)(b:List (Nat×Nat)):(E.cK ts b).nt=E.nt:=by unfold Env.cK;split;exact aaL E ts;rfl
def aeb(E:Env)(ts:List Nat)(b:List (Nat×Nat)):(E.cK ts b).s=E.s.map (Tr.ki ts b).sv:=by
 unfold Env.cK;simp only[Tr.sv];split;exact T5 E ts;rfl
def Zr(o:Oper)(a:Option Bool)(E:Env)(j:Ef):bH o a E some j=(kj o a j).map E.iD:=by
 have h:∀(d:Option Nat) (v:SV),E.set d v=E.iD (.id,wr d v):=by
  intro d v;refine Env.ext' ?_ (by rw[M5];rfl) (by rw[Om];rfl);rw[O5];simp[Env.iD,Tr.sv]
 cases j with
 |val v=>simp only[bH,kj,ap4,h]
 |chk c v=>simp only[bH,kj,h];split<;>split<;>rfl
 |opt α z x f=>
  simp only[bH,kj,h];rw[Option.map_bind];rfl
 |put b s v=>
  simp only[bH,kj];split;simp[Env.iD,Tr.sv,fC];rfl
 |app c kl k t v=>
  simp only[bH,kj];split;split;simp only[ap4,aoW];refine Env.ext' ?_ (by rw[M5,ahX,aaL];rfl) (by rw[Om,aiI,YX];rfl);rw[O5,aeC,T5];simp[Env.iD,Tr.sv,aqn];rfl;rfl
 |elem k b e l m=>
  simp only[bH,kj];split;simp[Env.iD,Tr.sv,fC,Env.elem];rfl
 |nap c k b e l m v=>
  simp only[bH,kj];split;split;simp only[ap4,aoW];refine Env.ext' ?_ (by rw[M5];rfl) (by rw[Om];rfl);rw[O5];simp[Env.iD,Tr.sv,Env.elem];rfl;rfl
 |call α x i f p=>
  simp only[bH,kj];split;cases x with
  |none=>rfl
  |some r=>
   simp only[aqe,ap4,aoW];refine Env.ext' ?_ (by rw[M5];exact afY E i (p r)) (by rw[Om];exact adY E i (p r));rw[O5];simp only[Env.iD,ZM,Gl,aeb]
  rfl
structure Pc(X:List Nat)(f:M->M)(fe:Nat->Bool)(fr:List Nat->Option (List Nat)):Prop where
 m:∀m,f m=m\/f m= .dead\/∃x∈X,x∈(f m).aJ
 r:∀hs hs',fr hs=some hs'->hs'=hs\/∃x∈X,x∈hs'
section
variable{X:List Nat}{f:M->M}{fe:Nat->Bool}{fr:List Nat->Option (List Nat)}
theorem Sh.nm(h:Pc X f fe fr):∀ {sh:Sh},(sh.map f).live=true->(∀c∈(sh.map f).aJ,c∉X)->sh.map f=sh
 | .leaf,_,_=>rfl
 | .sl m,hl,hc=>by
   rcases h.m m with e|e|⟨x,q,p⟩;simp only[Sh.map,e];simp only[Sh.map,e,Sh.live]at hl;cases hl;exact absurd q (hc x p)
 | .pair a b,hl,hc=>by
   simp only[Sh.map,Sh.live,l8]at hl;simp only[Sh.map,Sh.aJ,ev]at hc;simp only[Sh.map];rw[Sh.nm h hl.1 (λc l=>hc c (.inl l)),Sh.nm h hl.2 (λc l=>hc c (.inr l))]
def xo(v:TV)(sh:Sh)(h:sh=v.sh):({v with sh:=sh}:TV)=v:=by subst h;rfl
theorem SV.nm(h:Pc X f fe fr):∀ {v:SV},(v.mapM f fe fr).clean=true->(∀c∈(v.mapM f fe fr).fg,c∉X)->v.mapM f fe fr=v
 | .no,hl,_=>by simp[SV.mapM,SV.clean]at hl
 | .d v,hl,hc=>by simp only[SV.mapM];rw[xo v _ (Sh.nm h hl hc)]
 | .box t v,hl,hc=>by
   simp only[SV.mapM];rw[xo v _ (Sh.nm h hl (λc b=>hc c (by simp[SV.mapM,SV.fg,b])))]
 | .ptr ..,_,_=>rfl
 | .ept t e i o p τ,hl,hc=>by
   simp only[SV.mapM]at hl|-;split;rfl;rename_i B;rw[a_ B]at hl;cases hl
 | .rdp hs v,hl,hc=>by
   simp only[SV.mapM]at hl hc|-;cases q:fr hs with
   |none=>rw[q]at hl;cases hl
   |some u=>
    rw[q]at hl hc;simp only at hl hc|-;rcases h.r hs u q with e|⟨x,H,y⟩;rw[e,xo v _ (Sh.nm h hl (λc b=>hc c (by simp[SV.fg,b])))];exact absurd H (hc x (by simp[SV.fg,y]))
 | .tup l,hl,hc=>by
   simp only[SV.mapM];congr 1
   have:∀v∈l,({v with sh:=v.sh.map f}:TV)=v:=by
    intro v z;simp only[SV.mapM,SV.clean,List.all_map,C',Function.comp_apply]at hl
    exact xo v _ (Sh.nm h (hl v z) (λc b=>hc c (by
     simp only[SV.mapM,SV.fg,aqK,ap0];exact⟨v,z,b⟩)))
   conv=>rhs;rw[<-List.map_id l]
   exact aqB this
 | .g j w a v,hl,hc=>by
   simp only[SV.mapM];rw[SV.nm (v:=v) h hl hc]
theorem Sh.stays(h:∀m:M,(∀c∈m.aJ,c∉X)->f m=m):∀ {sh:Sh},(∀c∈sh.aJ,c∉X)->sh.map f=sh
 | .leaf,_=>rfl
 | .sl m,hc=>by simp only[Sh.map];rw[h m hc]
 | .pair a b,hc=>by
   simp only[Sh.aJ,ev]at hc;simp only[Sh.map];rw[Sh.stays h (λc e=>hc c (.inl e)),Sh.stays h (λc e=>hc c (.inr e))]
theorem SV.stays(h:∀m:M,(∀c∈m.aJ,c∉X)->f m=m)(q:∀t,t∉X->fe t=true)(u:∀hs,(∀c∈hs,c∉X)->fr hs=some hs):∀ {v:SV},(∀c∈v.fg,c∉X)->v.mapM f fe fr=v
 | .no,_| .ptr ..,_=>rfl
 | .d v,hc=>by simp only[SV.mapM];rw[xo v _ (Sh.stays h hc)]
 | .box t v,hc=>by
   simp only[SV.mapM];rw[xo v _ (Sh.stays h (λc b=>hc c (by simp[SV.fg,b])))]
 | .ept t e i o p τ,hc=>by simp only[SV.mapM];rw[an (q t (hc t (by simp[SV.fg])))]
 | .rdp hs v,hc=>by
   simp only[SV.mapM,u hs (λc b=>hc c (by simp[SV.fg,b]))];rw[xo v _ (Sh.stays h (λc b=>hc c (by simp[SV.fg,b])))]
 | .tup l,hc=>by
   simp only[SV.mapM];congr 1
   have:∀v∈l,({v with sh:=v.sh.map f}:TV)=v:=λv y=>
    xo v _ (Sh.stays h (λc b=>hc c (by simp only[SV.fg,ap0];exact⟨v,y,b⟩)))
   conv=>rhs;rw[<-List.map_id l]
   exact aqB this
 | .g j w a v,hc=>by simp only[SV.mapM];rw[SV.stays h q u (v:=v) hc]
end
end Vg
