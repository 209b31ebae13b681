/- VG, joined: an evaluator of the code over typed values, and its soundness, for any program. -/
import Derived.Test.YtgikmhjpcnnhjaaGreatXa
import Derived.Orders
set_option linter.unusedSimpArgs false
set_option linter.unusedVariables false
set_option linter.unusedSectionVars false
set_option linter.defProp false
open Option.some renaming injEq -> akK
open List renaming getD_eq_getElem?_getD -> f_,mem_cons -> et,mem_append -> e8,contains_eq_mem -> F_,mem_cons_of_mem -> I',getD_cons_zero -> W_,all_eq_true -> Q',getElem?_eq_getElem -> ali,mem_map -> G8,getD_cons_succ -> ame,mem_append_right -> amg,drop_append_of_le_length -> amh,not_mem_nil -> amj,append_assoc -> amk,nodup_append -> amm,take_append_of_le_length -> amn,drop_take -> amp,mem_filter -> amr,take_of_length_le -> amz,drop_of_length_le -> amA,mem_of_getElem? -> amD,nodup_cons -> amE,drop_drop -> amF,take_take -> amG,mem_singleton -> amI,getElem?_eq_none -> amK,getElem?_toArray -> amL,mem_flatMap -> amM,getElem?_cons_succ -> amN,mem_eraseDups -> amP,mem_zipIdx_iff_getElem? -> amR,mem_append_left -> amS,toList_toArray -> amU,getElem?_eq_some_iff -> amV,length_append -> amX,length_eq_zero_iff -> amY,drop_append -> amZ,nil_append -> am1,drop_zero -> am3,replicate -> am4,drop_eq_getElem_cons -> ana,take_append -> anc,length_cons -> anh,getElem?_cons_zero -> ani,append_nil -> anj,take_append_drop -> ank,length_singleton -> anl,mem_of_mem_drop -> anm,map_congr_left -> ano,pairwise_cons -> anq,mem_filterMap -> anr,any_eq_false -> ans,drop_sublist -> ant,lookup -> anw,flatMap_map -> anx,cons_append -> anA,append_inj -> anC,take_zero -> anE,take_left -> anF
open Prod.mk renaming injEq -> akU
open Nat renaming le_refl -> j_,add_comm -> l7,lt_succ_self -> F',mul_le_mul_right -> aml,le_trans -> amB,min_eq_left -> amC,add_mul -> amH,one_mul -> amT,zero_add -> amW,lt_of_lt_of_le -> am5,add_assoc -> am7,lt_irrefl -> am8,sub_self -> anf,add_zero -> ang,le_succ -> anv
open Bool renaming and_eq_true -> y_,not_eq_true' -> ami,false_eq_true -> amO,or_eq_true -> am2,true_and -> ann
open Option renaming map_eq_some_iff -> N_,getD_some -> amo,bind_eq_some_iff -> amq,isNone_none -> amJ,map_some -> amQ,bind_some -> am0,isNone_iff_eq_none -> anb,isSome_iff_exists -> ane,isSome_none -> anp,bind_assoc -> anu,getD_none -> anz
open Array renaming getD_eq_getD_getElem? -> am6,ext' -> anB
open Function renaming comp_def -> am9
open List.cons renaming injEq -> anD
open Prod renaming ext -> anG
namespace Vg
open Go
def R7{k o:Nat}{b c:List Value}(h:k<=o)(hc:o<=c.length):(lQ o b c).drop k=lQ (o-k) b (c.drop k):=by
 unfold lQ;rw[amk,amh (by simp;omega),amp,amk,amF];congr 3;omega
def Sn{n o:Nat}{b c:List Value}(h:o+b.length<=n)(hn:n<=c.length):(lQ o b c).take n=lQ o b (c.take n):=by
 unfold lQ;have d:(c.take o++b).length=o+b.length:=by simp;omega
 rw[anc,d,amz (by omega),amG,amC (by omega),amp]
def Oc{k b sz:Nat}{d c:List Value}(h:b+d.length<=sz):
 lQ (k+b) d c=c.take k++lQ b d ((c.drop k).take sz)++c.drop (k+sz):=by
 unfold lQ;rw[amG,amC (by omega),amp,amF];have e:c.take (k+b)=c.take k++(c.drop k).take b:=by rw[List.take_add]
 have i:c.drop (k+b+d.length)=((c.drop (k+(b+d.length))).take (sz-(b+d.length)))++c.drop (k+sz):=by
  have:=(ank (sz-(b+d.length)) (c.drop (k+(b+d.length)))).symm;rw[amF]at this;rw[show k+b+d.length=k+(b+d.length) by omega];rw[show k+sz=k+(b+d.length)+(sz-(b+d.length)) by omega];exact this
 rw[e,i];simp[amk]
section
variable{P:Program}{C:Cx}{w0:World}{c0:C0}{U:Nat->Prop}{E:Env}{a:Act}{w:World}{G:Gh}{ops:List Oper}{g:Option (Nat×Bool)}
theorem bP.put:∀ {p:List Bool} {τ:Ty} {x:τ.den} {sh:Sh} {cs:List Value} {v:TV} {y:τ.den} {s:Sh} {cv:List Value} {B z:List Nat},
 qJ τ x sh p v=some (y,s)->bP w τ x cs B->bP w v.τ v.x cv z->
 ∃q Bo u,B=q++Bo++u/\bP w τ y (lQ (τ.off p) cv cs) (q++z++u)/\τ.off p+cv.length<=τ.sz
 | [],τ,x,sh,cs,v,y,s,cv,B,z,hp,h,hv=>by
   have K:rE v τ=some y:=by
    cases τ<;>(simp only[qJ]at hp;split at hp<;>simp_all)
   have e:=mR K;have N:=bP.len h;have h0:τ.off []=0:=by cases τ<;>rfl
   have D:=bP.len hv;have hτ:v.τ=τ:=by rw[e]
   refine⟨[],B,[],by simp,?_,by rw[h0,D,hτ];omega⟩;unfold lQ;rw[h0,D,hτ,anE,am1,amW,amA (by omega),anj];rw[e]at hv;simpa using hv
 |false::p,.pair a b,x,.pair s1 s2,cs,v,y,s,cv,B,z,hp,h,hv=>by
  obtain⟨c1,c2,S,W,rfl,rfl,H,Y⟩:=h;simp only[qJ]at hp;split at hp;rename_i y1 I J;cases hp;obtain⟨q,Bo,u,rfl,hr,hle⟩:=bP.put J H hv;have N:=bP.len H;refine⟨q,Bo,u++W,by simp,⟨_,c2,_,W,?_,by simp,hr,Y⟩,by simp only[Ty.off,Ty.sz];omega⟩;simp only[Ty.off,lQ];rw[amn (by omega),amh (by omega)];simp;cases hp
 |true::p,.pair a b,x,.pair s1 s2,cs,v,y,s,cv,B,z,hp,h,hv=>by
  obtain⟨c1,c2,S,W,rfl,rfl,H,Y⟩:=h;simp only[qJ]at hp;split at hp;rename_i y1 I J;cases hp;obtain⟨q,Bo,u,rfl,hr,hle⟩:=bP.put J Y hv;have N:=bP.len H;refine⟨S++q,Bo,u,by simp,⟨c1,_,S,_,?_,by simp,H,hr⟩,by simp only[Ty.off,Ty.sz];omega⟩;simp only[Ty.off,lQ];rw[<-N,anc,amz (by omega),amZ,amA (by omega)];simp[am7];cases hp
 |b::p,.int _,_,_,_,_,_,_,_,_,_,hp,_,_|b::p,.bool,_,_,_,_,_,_,_,_,_,hp,_,_|b::p,.str,_,_,_,_,_,_,_,_,_,hp,_,_|b::p,.sl _,_,_,_,_,_,_,_,_,_,hp,_,_=>by simp[qJ]at hp
 |false::p,.pair _ _,_,.leaf,_,_,_,_,_,_,_,hp,_,_|false::p,.pair _ _,_,.sl _,_,_,_,_,_,_,_,hp,_,_=>by simp[qJ]at hp
 |true::p,.pair _ _,_,.leaf,_,_,_,_,_,_,_,hp,_,_|true::p,.pair _ _,_,.sl _,_,_,_,_,_,_,_,hp,_,_=>by simp[qJ]at hp
def M.clear(b:Nat):M->Prop
 | .row u hs _=>u=b\/b∉hs
 | .sha hs=>b∉hs
 | .nst b' _ _ _ _ _=>b'≠b
 | .dead=>True
def Sh.clear(b:Nat):Sh->Prop
 | .leaf=>True
 | .sl m=>m.clear b
 | .pair x y=>x.clear b/\y.clear b
def ot(b:Nat)(m:M):(m.fD b).clear b:=by
 cases m with
 |row u hs nd=>
  simp only[M.fD];split;rename_i h;exact .inl h;split;trivial;rename_i h;right;simpa using h
 |sha hs=>
  simp only[M.fD];split;trivial;rename_i h;simpa[M.clear]using h
 |nst b' e i o p fr=>
  simp only[M.fD];split;trivial;rename_i h;exact h
 |dead=>trivial
theorem Sh.ot(b:Nat):∀sh:Sh,(sh.map (M.fD b)).clear b
 | .leaf=>trivial
 | .sl m=>Vg.ot b m
 | .pair x y=>⟨Sh.ot b x,Sh.ot b y⟩
def acH(b:Nat)(m:M):∀c∈(m.fD b).bc,c∈m.bc:=by
 intro c hc;cases m with
 |row u hs nd=>
  simp only[M.fD]at hc;split at hc;exact hc;split at hc;simp[M.bc]at hc;exact hc
 |sha hs=>
  simp only[M.fD]at hc;split at hc;simp[M.bc]at hc;exact hc
 |nst b' e i o p fr=>
  simp only[M.fD]at hc;split at hc;simp[M.bc]at hc;exact hc
 |dead=>exact hc
theorem T8(b:Nat):R5 w U G U G (M.fD b) (fun _=>true) (fun hs=>if hs.contains b then none else some hs) where
 row e l v m h _:=by
  cases m with
  |row u hs nd=>
   simp only[M.fD];split;exact h;split;exact h.one;exact h
  |sha hs=>
   simp only[M.fD];split;exact h.one;exact h
  |nst b' E i o p fr=>
   simp only[M.fD];split;exact h.one;exact h
  |dead=>exact h
 good m h c hc:=h c (acH b m c hc)
 rd hs hs' h hg:=by
  split at h;cases h;cases h;exact⟨hg,fun b d=>d⟩
 hdr _ _:=rfl
 bx t _ d:=⟨d,fun _ h=>h⟩
 ru _ _ h:=h
 mono _ h:=h
theorem QZ{b:Nat}{e:Ty}{y:List e.den}{m:M}{w':World}(j:gq w' G e y (G.hdr b) m)(q:∀k,0<G.col k->G.col k≠b->w'.heap[k]?=w.heap[k]?):
 ∀ {τ:Ty} {x:τ.den} {sh:Sh} {cs:List Value},dJ w G τ x sh cs->sh.clear b->(∀c∈sh.bc,0<c)->
   dJ w' G τ (xr b e y m τ x sh).1 (xr b e y m τ x sh).2 cs
 | .int _,_,.leaf,_,h,_,_=>h
 | .bool,_,.leaf,_,h,_,_=>h
 | .str,_,.leaf,_,h,_,_=>h
 | .sl e',l,.sl (.row u hs nd),cs,h,hc,hp=>by
   obtain⟨v,rfl,r⟩:=h;simp only[xr];split;rename_i t;subst t;split;rename_i z;subst z;refine⟨v,rfl,?_⟩;have:v=G.hdr u:=r.2.1.symm;rw[this];exact j;exact⟨v,rfl,r.one⟩;rename_i t;refine⟨v,rfl,gq.agree ⟨fun k d=>q k (hp _ d) (fun s=> ?_),fun _ _=>rfl,fun _ _=>rfl⟩ r⟩;simp only[M.bc,et]at d;rcases hc with hc|hc;exact t hc;rcases d with d|d;exact t (d.symm.trans s);exact hc (s▸d)
 | .sl e',l,.sl (.sha hs),cs,h,hc,hp=>by
   obtain⟨v,rfl,r⟩:=h;refine⟨v,rfl,gq.agree ⟨fun k d=>q k (hp _ d) (fun s=> ?_),fun _ _=>rfl,fun _ _=>rfl⟩ r⟩;exact hc (s▸d)
 | .sl e',l,.sl (.nst b' E i o p fr),cs,h,hc,hp=>by
   obtain⟨v,rfl,r⟩:=h;refine⟨v,rfl,gq.agree ⟨fun k d=>q k (hp _ d) (fun s=> ?_),fun _ _=>rfl,fun _ _=>rfl⟩ r⟩;simp only[M.bc,amI]at d;exact hc (d.symm.trans s)
 | .sl e',l,.sl .dead,cs,h,hc,hp=>by
   obtain⟨v,rfl,r⟩:=h;exact⟨v,rfl,r⟩
 | .pair a b',p,.pair s1 s2,cs,h,hc,hp=>by
   obtain⟨B,D,rfl,F,H⟩:=h;exact⟨B,D,rfl,QZ j q F hc.1 (fun c h=>hp c (by simp[Sh.bc,h])),QZ j q H hc.2 (fun c h=>hp c (by simp[Sh.bc,h]))⟩
 | .int _,_,.sl _,_,h,_,_| .int _,_,.pair _ _,_,h,_,_| .bool,_,.sl _,_,h,_,_| .bool,_,.pair _ _,_,h,_,_
 | .str,_,.sl _,_,h,_,_| .str,_,.pair _ _,_,h,_,_| .sl _,_,.leaf,_,h,_,_| .sl _,_,.pair _ _,_,h,_,_
 | .pair _ _,_,.leaf,_,h,_,_| .pair _ _,_,.sl _,_,h,_,_=>h.elim
theorem MM{b:Nat}{e:Ty}{y:List e.den}{m:M}:∀ {τ:Ty} {x:τ.den} {sh:Sh},∀c∈(xr b e y m τ x sh).2.bc,c∈sh.bc\/c∈m.bc
 | .sl e',l,.sl (.row u hs nd),c,h=>by
   simp only[xr]at h;split at h;split at h;exact .inr h;simp[Sh.bc,M.bc]at h;exact .inl h
 | .pair a b',p,.pair s1 s2,c,h=>by
   simp only[xr,Sh.bc,e8]at h|-;rcases h with h|h;exact(MM c h).imp .inl id;exact(MM c h).imp .inr id
 | .sl _,_,.sl (.nst _ _ _ _ _ _),_,h| .sl _,_,.leaf,_,h| .sl _,_,.pair _ _,_,h| .sl _,_,.sl (.sha _),_,h| .sl _,_,.sl .dead,_,h
 | .int _,_,.leaf,_,h| .int _,_,.sl _,_,h| .int _,_,.pair _ _,_,h| .bool,_,.leaf,_,h| .bool,_,.sl _,_,h| .bool,_,.pair _ _,_,h
 | .str,_,.leaf,_,h| .str,_,.sl _,_,h| .str,_,.pair _ _,_,h| .pair _ _,_,.leaf,_,h| .pair _ _,_,.sl _,_,h=> .inl h
def SV.clear(b:Nat):SV->Prop
 | .d v| .box _ v=>v.sh.clear b
 | .tup l=>∀v∈l,v.sh.clear b
 | .g _ _ _ v=>v.clear b
 |_=>True
theorem SV.ot(b:Nat):∀s:SV,(s.fD b).clear b
 | .no| .ptr ..=>trivial
 | .d v=>Sh.ot b v.sh
 | .box t v=>Sh.ot b v.sh
 | .ept ..=>by simp only[SV.fD,SV.mapM];split<;>trivial
 | .rdp hs v=>by simp only[SV.fD,SV.mapM];split<;>trivial
 | .tup l=>by
   intro v h;simp only[G8]at h;obtain⟨u,_,rfl⟩:=h;exact Sh.ot b u.sh
 | .g j w' act v=>SV.ot b v
theorem gQ.setRow{b:Nat}{e:Ty}{y:List e.den}{m:M}{w':World}(q:gq w' G e y (G.hdr b) m)(Y:G.bx b=false)(z:∀k,0<G.col k->G.col k≠b->w'.heap[k]?=w.heap[k]?):
 ∀ {s:SV} {mv:Value},gQ w G s mv->s.clear b->dH U G s->gQ w' G (s.setRow b e y m) mv
 | .no,_,_,_,_=>trivial
 | .d v,mv,⟨N,h1,h2⟩,hc,hm=>⟨N,h1,QZ q z h2 hc (fun c h=>(hm.1 c h).1)⟩
 | .box t v,mv,⟨bk,c,el,h1,h2,h3,h4,h5,h6⟩,hc,hm=>by
   have J:=hm.2.1 t (by simp[SV.bt]);refine⟨bk,c,el,h1,h2,h3,h4,?_,QZ q z h6 hc (fun c h=>(hm.1 c h).1)⟩;rw[z bk (by rw[h4];exact J.1) (fun e=> ?_)];exact h5;rw[h4]at e;rw[e,Y]at J;cases J.2.2
 | .ptr t o p τ,mv,h,_,_=>h
 | .ept t e' i o p τ,mv,h,_,_=>h
 | .rdp hs v,mv,⟨bk,o,c,el,fz,h1,h2,h3,h4,h5⟩,_,hm=>by
   simp only[SV.setRow];split;trivial;rename_i D;simp only[F_,b_,e8,not_or]at D
   have ha:∀k,G.col k∈hs++v.sh.bc->w'.heap[k]?=w.heap[k]?:=fun k B=>z k (hm.1 _ B).1 (fun e=>by
    rw[e]at B;rcases e8.1 B with B|B;exact D.1 B;exact D.2 B)
   exact⟨bk,o,c,el,fz,h1,(ha bk (by simp[h4])).trans h2,h3,h4,dJ.agree ⟨fun k B=>ha k (by simp[B]),fun _ _=>rfl,fun _ _=>rfl⟩ h5⟩
 | .tup l,mv,⟨vs,h1,h2,h3⟩,hc,hm=>by
   refine⟨vs,h1,by simp[h2],fun i v W=> ?_⟩;rw[List.getElem?_map,N_]at W;obtain⟨K,H,rfl⟩:=W;obtain⟨u,N,hu,S,hv⟩:=h3 i K H;exact⟨u,N,hu,S,QZ q z hv (hc K (amD H)) (fun c I=>(hm.1 c (amM.2 ⟨K,amD H,I⟩)).1)⟩
 | .g j w2 false v,mv,⟨h1,h2⟩,hc,hm=>⟨fun e=>absurd e (by simp),h2⟩
 | .g j w2 true v,mv,⟨h1,h2⟩,hc,hm=>⟨fun e=>⟨by
  have:=(h1 e).1;cases v with
  |box t v=>simp[SV.mq]at this
  |rdp hs v=>simp only[SV.setRow];split<;>rfl
  |_=>rfl,gQ.setRow (s:=v) q Y z (h1 e).2 hc (by simpa[dH,SV.sc,SV.bt,SV.rt]using hm)⟩,h2⟩
theorem dH.setRow{b:Nat}{e:Ty}{y:List e.den}{m:M}(p:∀c∈m.bc,Good U G c):∀ {s:SV},dH U G s->dH U G (s.setRow b e y m)
 | .no,h| .ptr ..,h| .ept ..,h=>h
 | .d v,hm=>dH.d fun c hc=>(MM c hc).elim (hm.1 c) (p c)
 | .box t v,hm=>⟨fun c hc=>(MM c hc).elim (hm.1 c) (p c),hm.2.1,hm.2.2⟩
 | .rdp hs v,hm=>by
   simp only[SV.setRow];split;simp[dH,SV.sc,SV.bt,SV.rt];exact hm
 | .tup l,hm=>by
   refine⟨fun c hc=> ?_,by simp[SV.setRow,SV.bt],by simp[SV.setRow,SV.rt]⟩;simp only[SV.setRow,SV.sc,anx,amM]at hc;obtain⟨v,q,hc⟩:=hc;exact(MM c hc).elim (fun h=>hm.1 c (amM.2 ⟨v,q,h⟩)) (p c)
 | .g j w2 true v,hm=>by
   have:=dH.setRow (b:=b) (e:=e) (y:=y) (s:=v) p (by simpa[dH,SV.sc,SV.bt,SV.rt]using hm);simpa[dH,SV.setRow,SV.sc,SV.bt,SV.rt]using this
 | .g j w2 false v,hm=>by simp[dH,SV.setRow,SV.sc,SV.bt,SV.rt]
def YT{b:Nat}{e:Ty}{y:List e.den}{m:M}{s:SV}{t:Nat}{u:TV}(h:s.setRow b e y m= .box t u):∃c,s= .box t c:=by
 cases s with
 |box t' v=>simp only[SV.setRow,SV.box.injEq]at h;exact⟨v,by rw[h.1]⟩
 |rdp hs v=>simp only[SV.setRow]at h;split at h<;>cases h
 |_=>simp[SV.setRow]at h
theorem Inv.setRow(h:Inv w0 c0 U E a w G){b:Nat}{e:Ty}{y:List e.den}{m:M}{w':World}(z:gq w' G e y (G.hdr b) m)(Y:G.bx b=false)(hb3:4<=b)
 (q:∀k,G.col k≠b->w'.heap[k]?=w.heap[k]?) (D:∀s,(E.s.getD s .no).clear b) (H:∀c∈m.bc,Good U G c)
 (fresh:∀k,G.col k=b->∃c el,w'.heap[k]?=some (.cells c el (0,0))) (size:w.heap.size=w'.heap.size)
 (os:w'.os=w.os) (tape:w'.tape=w.tape) (output:w'.output=w.output):Inv w0 c0 U {E with s:=E.s.map (SV.setRow b e y m)} a w' G:=by
 have B:∀s,({E with s:=E.s.map (SV.setRow b e y m)}:Env).s.getD s .no=(E.s.getD s .no).setRow b e y m:=fun s=>getD_map (T:=SV.setRow b e y m) rfl s;have I:∀s,dH U G ((E.s.getD s .no).setRow b e y m):=fun s=>dH.setRow H (h.Kt s);refine⟨by simpa using h.len,fun s=> ?_,fun s=> ?_,fun s=> ?_,fun s=> ?_,fun s W t v v' K N=> ?_,h.colU,fun k p=>by rw[<-size];exact h.lt k p,fun k p=> ?_,fun k p hc=> ?_,h.one,by rw[<-size];exact h.size,os.trans h.os,tape.trans h.tape,output.trans h.output,h.defers,h.two,h.hk⟩;rw[B];exact gQ.setRow z Y (fun k _ p=>q k p) (h.slots s) (D s) (h.Kt s);rw[B];exact(I s).1;rw[B];exact(I s).2.1;rw[B];exact(I s).2.2;rw[B]at K N;obtain⟨u,hu⟩:=YT K;obtain⟨u',J⟩:=YT N;exact h.uni s W t u u' hu J;by_cases e:G.col k=b;exact fresh k e;rw[q k e];exact h.fresh k p;have S:=h.frame k p hc;exact⟨S.1,by rw[q k (by omega)];exact S.2⟩
theorem Sh.AT:∀ {τ:Ty} {x:τ.den} {sh:Sh} {cs:List Value} {ts:List Nat},dJ w G τ x sh cs->sh.own=some ts->∀c∈ts,4<=c
 | .int _,_,.leaf,_,ts,_,h,c,hc| .bool,_,.leaf,_,ts,_,h,c,hc| .str,_,.leaf,_,ts,_,h,c,hc=>by
   simp only[Sh.own,akK]at h;subst h;simp at hc
 | .sl e,l,.sl m,cs,ts,h,ho,c,hc=>by
   obtain⟨v,rfl,z⟩:=h;simp only[Sh.own]at ho;cases m with
   |row t hs nd=>
    obtain⟨_,B,D⟩:=M.AT ho;rcases(D c).1 hc with rfl|hc;exact z.1;exact B c hc
   |sha hs=>cases hs with
    |nil=>simp only[M.own,akK]at ho;subst ho;simp at hc
    |cons=>simp[M.own]at ho
   |nst b E i o p fr=>simp[M.own]at ho
   |dead=>simp[M.own]at ho
 | .pair a b,p,.pair s1 s2,cs,ts,h,ho,c,hc=>by
   obtain⟨c1,c2,rfl,H,I⟩:=h;simp only[Sh.own]at ho;split at ho;rename_i x y q u;split at ho;simp only[akK]at ho;subst ho;rcases e8.1 hc with hc|hc;exact Sh.AT H q c hc;exact Sh.AT I u c hc;cases ho;cases ho
 | .int _,_,.sl _,_,_,h,_,_,_| .int _,_,.pair _ _,_,_,h,_,_,_| .bool,_,.sl _,_,_,h,_,_,_| .bool,_,.pair _ _,_,_,h,_,_,_
 | .str,_,.sl _,_,_,h,_,_,_| .str,_,.pair _ _,_,_,h,_,_,_| .sl _,_,.leaf,_,_,h,_,_,_| .sl _,_,.pair _ _,_,_,h,_,_,_
 | .pair _ _,_,.leaf,_,_,h,_,_,_| .pair _ _,_,.sl _,_,_,h,_,_,_=>h.elim
theorem ab8{τ:Ty}{b:Nat}{hs:List Nat}{nd:Bool}{v:TV}{cv:List Value}{e:Ty}{l:List e.den}{hv:Value}{gv:List Nat}{m:M}
 (hr:gq w G e l hv (.row b hs nd)) (hg:∀c∈b::hs,Good U G c) (I:dJ w G v.τ v.x v.sh cv) (e0:∀c∈v.sh.bc,Good U G c) (hl:v.sh.live=true) (hτ:v.τ=τ)
 (own:Option (List Nat)) (i:own=if τ.flat then none else match(M.row b hs nd).own,v.sh.own with
  |some a,some c=>if c.all (!a.contains ·)then some ((a++c).filter (·≠b))else none
  |_,_=>none)
 (k:gv=own.getD []) (N:m=if own.isSome then .row b [b] true else if τ.flat then .row b hs nd else .row b (hs++v.sh.bc).eraseDups false)
 (S:(own.isNone&&v.sh.bc.contains b)=false):
 (∀c∈gv,4<=c/\Good U G c)/\b∉gv/\(∀c∈m.bc,Good U G c)/\
 ∃B F hs' b0,me w e.sz (bP w e) l hv B/\bP w v.τ v.x cv F/\m= .row b hs' b0/\
  ∀h H,B=h::H->G.col h=b/\h∉H/\h∉F/\∀q,(∃A Bo D,H=A++Bo++D/\q=A++F++D)->
   (∀x∈q,(if G.col x∈gv then b else G.col x)∈hs')/\(b0=true->q.Nodup):=by
 obtain⟨r0,hh,B,hB,hc⟩:=hr;by_cases hf:τ.flat=true;rw[an hf]at i;subst i;simp only[anz]at k;subst k;simp only[anp,amO,if_false,hf,if_true]at N;subst N;obtain⟨F,s,_⟩:=I.rep hl;have:F=[]:=bP.flat (by rw[hτ];exact hf) s;subst this;refine⟨by simp,by simp,fun c j=>hg c j,B,[],hs,nd,hB,s,rfl,fun h H t=> ?_⟩;obtain⟨Y,k2,k3,k4⟩:=hc h H t;refine⟨Y,k2,by simp,?_⟩;rintro q ⟨A,Bo,D,rfl,rfl⟩;refine⟨fun x d=> ?_,fun hn=> ?_⟩;simp only[amj,if_false];exact k3 x (by simp at d|-;rcases d with d|d<;>simp[d])
 exact(k4 hn).sublist (by
  simp only[anj];exact List.Sublist.append (List.sublist_append_left ..) (List.Sublist.refl _))
 rw[a_ hf]at i;cases ho:own with
 |some ts=>
  rw[ho]at i k N;simp only[amo]at k;simp only[Option.isSome_some,if_true]at N;subst k N;split at i;rename_i a' c n0 r;split at i;rename_i K;cases i;obtain⟨s0,h3,J⟩:=M.AT n0
  have h0:∀z∈c,z∉a':=by
   simp only[Q',ami,F_,d_]at K;exact K
  obtain⟨F,s,u0,u⟩:=I.own r;have o0:∀z∈c,4<=z:=Sh.AT I r;refine⟨fun z hz=> ?_,by simp,by simp only[M.bc];intro z hz;simp only[et,amj,or_false,or_self]at hz;subst hz;exact hg z (by simp),B,F,[b],true,hB,s,rfl,fun h H t=> ?_⟩;simp only[amr,e8]at hz;rcases hz.1 with h|h;refine⟨?_,hg z ?_⟩;rcases(J z).1 h with rfl|h;exact r0;exact h3 z h;rcases(J z).1 h with rfl|h;simp;simp[h];exact⟨o0 z h,e0 z (Sh.xn r z h)⟩;obtain⟨Y,k2,k3,k4⟩:=hc h H t;refine⟨Y,k2,fun p=> ?_,?_⟩;have:=u h p;rw[Y]at this;exact h0 b this ((J b).2 (.inl rfl));rintro q ⟨A,Bo,D,rfl,rfl⟩;have hn:=k4 s0;have W:∀x∈A++Bo++D,G.col x∈a':=fun x d=>(J _).2 (.inr (k3 x d));refine⟨fun x d=> ?_,fun _=> ?_⟩
  have p0:G.col x∈a'\/G.col x∈c:=by
   simp only[e8]at d;rcases d with(d|d)|d;exact .inl (W x (by simp[d]));exact .inr (u x d);exact .inl (W x (by simp[d]))
  by_cases e:G.col x=b;simp[e]
  have p:G.col x∈(a'++c).filter (·≠b):=by
   simp only[amr,e8,ne_eq,decide_not,ami,d_];exact⟨p0,e⟩
  rw[an p];simp;have j0:∀x∈F,x∉A++Bo++D:=fun x d p=>h0 _ (u x d) (W x p);rw[amm,amm]at hn;obtain⟨⟨n1,n2,n3⟩,n4,n5⟩:=hn;rw[amm,amm];refine⟨⟨n1,u0,fun x d y hy e=>j0 y hy (by subst e;simp[d])⟩,n4,fun x d y hy e=> ?_⟩;rcases e8.1 d with d|d;exact n5 x (by simp[d]) y hy e;exact j0 x d (by subst e;simp[hy]);cases i;cases i
 |none=>
  rw[ho]at k N S;simp only[anz]at k;subst k;simp only[anp,amO,if_false,hf]at N;subst N;simp only[amJ,ann,F_,d_]at S;obtain⟨F,s,r⟩:=I.rep hl;refine⟨by simp,by simp,fun c j=> ?_,B,F,_,false,hB,s,rfl,fun h H t=> ?_⟩;simp only[M.bc,et,amP,e8]at j;rcases j with rfl|j|j;exact hg c (by simp);exact hg c (by simp[j]);exact e0 c j;obtain⟨Y,k2,k3,k4⟩:=hc h H t;refine⟨Y,k2,fun p=> ?_,?_⟩;have:=r h p;rw[Y]at this;exact S this;rintro q ⟨A,Bo,D,rfl,rfl⟩;refine⟨fun x d=> ?_,by simp⟩;simp only[amj,if_false,amP,e8];simp only[e8]at d;rcases d with(d|d)|d;exact .inl (k3 x (by simp[d]));exact .inr (r x d);exact .inl (k3 x (by simp[d]))
theorem Inv.afX(u:Inv w0 c0 U E a w G){ts:List Nat}{t:Nat}{v:Value}(y:4<=t)(q:∀c∈ts,4<=c/\Good U G c)(z:U t)(B:v=G.hdr t)(p:G.bx t=false):
 Inv w0 c0 U {E with s:=E.s.map (SV.cu ts t)} a w (G.cu ts t v):=by
 refine(u.map (f:=M.cu ts t) (Z9 (w:=w) (v:=v) y q (fun _=>⟨B,p⟩)) ?_ ?_).mono (U':=U) (fun c hc=>hc.elim id (fun e=>e▸z));intro b p;simp only[Gh.cu]at p|-;split;exact .inr rfl;rename_i h;rw[a_ h]at p;exact .inl (u.colU b p);intro b;simp only[Gh.cu];by_cases h:G.col b∈ts;have:=(q _ h).1;simp only[h,if_true];omega;simp[h]
def ajK(hC:CxTy P C)(hI:Inv w0 c0 U E a w G)(hR:RI ops E a.tmps)(hg:Gd ops a.tmps g){tk:Nat}{o:Oper}{t:TypeId}{x y:Operand}
 {gv:List Nat} {b:Nat} {e:Ty} {l':List e.den} {m:M} (ho:o.op= .store t x y) (h:dY C ops E.rd tk g o=some (.elem gv b e l' m)):
 ∃w' G',(execOp a.eval o).run P w= .ok .skip w'/\Inv w0 c0 U (E.elem gv b e l' m) a w' G':=by
 simp only[dY,ho]at h;split at h;split at h;split at h;obtain⟨r,_,h⟩:=N_.mp h;cases h;cases h;cases h;rename_i ti j d i off p τ1 v1 n1 p0 hv;split at h;rename_i l hs nd r0;obtain⟨hc,h⟩:=Option.ite_none_right_eq_some.mp h;obtain⟨w1,h⟩:=Option.ite_none_left_eq_some.mp h;obtain⟨r,hr,h⟩:=N_.mp h;simp only[Ef.elem.injEq]at h;obtain⟨x1,rfl,rfl,e0,hm⟩:=h;have e0:=eq_of_heq e0;subst e0;simp only[y_,b_]at hc;obtain⟨⟨⟨y1,hc2⟩,z1⟩,h0⟩:=hc;obtain⟨h1,_⟩:=rb hI hR hg p0;obtain⟨z,of,n,cap,F,k2,k3,k4,k5⟩:=h1;obtain⟨⟨vh,a1⟩,q⟩:=hI.od r0;obtain⟨⟨H,A1,j0⟩,C1,n0⟩:=Ag hI hR hg hv;have s0:vh=G.hdr j:=a1.2.1.symm;have K:=w1;simp only[Bool.not_eq_true]at K;obtain⟨q1,q2,q3,B,Bv,hs',nd',hB,D1,E1,c1⟩:=ab8 (τ:=τ1) (gv:=gv) (m:=m) a1 q j0 C1 n0 z1 _ rfl x1.symm hm.symm K;rw[s0,k2]at hB;rcases hB with⟨⟨ao,hB⟩,_⟩|⟨bk',of',cap',c,el,fz,Bs,Y,b0,u,hsz,rfl,hl⟩;cases hB;exfalso;have k4':i<((0:Nat):Int):=k4;have k3': @LE.le Int Int.instLEInt 0 i:=k3;omega;simp only[Value.slice.injEq,akK,Addr.mk.injEq,and_true]at Y;obtain⟨⟨rfl,rfl⟩,rfl,rfl⟩:=Y;obtain⟨j1,j2,j3,j4⟩:=c1 z Bs rfl;obtain⟨c',k1,o0⟩:=hI.fresh z (by rw[j1];exact F);rw[o0]at u;simp only[akK,Obj.cells.injEq]at u;obtain⟨rfl,rfl,rfl⟩:=u;have hi:i.toNat<l.length:=toNat_lt k3 k4
 have u0:l[i.toNat]?=some (l.getD i.toNat d.aa):=by
  rw[f_,ali hi];rfl
 obtain⟨B1,Bx,B2,rfl,F1,G1,J1⟩:=cr.get (sz:=d.sz) (fun x c B h=>bP.len h) hl u0;obtain⟨Ba,Bo,Bb,rfl,l1,hle⟩:=bP.put hr F1 D1;have x0:=cr.set (sz:=d.sz) hi l1 G1 J1;have E0:H.length=v1.τ.sz:=dJ.len j0;have hmul:(i.toNat+1)*d.sz<=l.length*d.sz:=aml _ hi;have hmul2:l.length*d.sz<=cap*d.sz:=aml _ b0;rw[amH,amT]at hmul;have hO:of+i.toNat*d.sz+off+H.length<=c'.size:=by rw[<-y1];omega
 have D:=vL z (el:=k1) H (of+i.toNat*d.sz+off) w c' o0 hO;have hT:=(hC.tt t ti n1).1;have G0:=Oj (P:=P) (t:=t) (τ:=ti.τ) hT o0 (o:=of+i.toNat*d.sz+off) (cs:=H) (by rw[<-h0,<-E0];exact hO) (by rw[E0,h0]) (dJ.one j0) k5;have hU:U j:=(q j (by simp)).2.1;have o1:G.bx j=false:=(q j (by simp)).2.2;have L0:=hI.afX (ts:=gv) (t:=j) (v:=G.hdr j) F q1 hU rfl o1;have r1:=L0.map (T8 (w:=w) j) L0.colU (fun b=>⟨fun h=>h,fun _=>rfl,fun _=>rfl⟩);have N:(G.cu gv j (G.hdr j)).col z=j:=by simp[Gh.cu,j1,q2]
 have I:∀k,(G.cu gv j (G.hdr j)).col k≠j->(w.setCells z (of+i.toNat*d.sz+off) H).heap[k]?=w.heap[k]?:=fun k hk=>
  fN z _ _ w k (fun e=>hk (e▸N))
 have S:=j4 (B1++(Ba++Bv++Bb)++B2) ⟨B1++Ba,Bo,Bb++B2,by simp[amk],by simp[amk]⟩
 have W:z∉B1++(Ba++Bv++Bb)++B2:=by
  simp only[e8,not_or]at j2|-;exact⟨⟨j2.1.1,⟨j2.1.2.1.1,j3⟩,j2.1.2.2⟩,j2.2⟩
 have R0:gq (w.setCells z (of+i.toNat*d.sz+off) H) (G.cu gv j (G.hdr j)) d (l.set i.toNat r.1) ((G.cu gv j (G.hdr j)).hdr j) m:=by
  rw[E1];refine⟨F,rfl,z::(B1++(Ba++Bv++Bb)++B2),?_,?_⟩;refine .inr ⟨z,of,cap,_,k1,(0,0),B1++(Ba++Bv++Bb)++B2,by simp[Gh.cu,k2],by simpa using b0,D,by simp;omega,rfl,?_⟩
  have J:((lQ (of+i.toNat*d.sz+off) H c'.toList).drop of).take ((l.set i.toNat r.1).length*d.sz)=
   ((c'.toList.drop of).take (l.length*d.sz)).take (i.toNat*d.sz)++lQ (d.off p) H ((((c'.toList.drop of).take (l.length*d.sz)).drop (i.toNat*d.sz)).take d.sz)++((c'.toList.drop of).take (l.length*d.sz)).drop ((i.toNat+1)*d.sz):=by
   rw[R7 (by omega) (by simp;omega),Sn (by simp;omega) (by simp;omega)];rw[show of+i.toNat*d.sz+off-of=i.toNat*d.sz+d.off p by omega];rw[Oc (sz:=d.sz) hle];rw[amH,amT];simp
  show cr _ _ (((lQ (of+i.toNat*d.sz+off) H c'.toList).toArray.toList.drop of).take _) _;rw[amU,J];exact cr.world (fun k hk=>fN z _ _ w k (fun e=>W (e▸hk))) x0;rintro h' Bs'' ⟨⟩;exact⟨N,W,S.1,S.2⟩
 have u1:=r1.setRow R0 (by simp[Gh.cu]) F I (fun s=> ?_) (fun c hc=> ?_) (fun k hk=> ?_) (by rw[pC]) (ir _ _ _ w).1 (ir _ _ _ w).2.1 (ir _ _ _ w).2.2;refine⟨w.setCells z (of+i.toNat*d.sz+off) H,G.cu gv j (G.hdr j),?_,?_⟩;simp only[execOp,ho,A1,h0];simp[G0];simpa only[Env.elem,List.map_map,am9,SV.fD,SV.cu]using u1;have:=getD_map (L:=E.s.map (SV.cu gv j)) (T:=SV.fD j) rfl s;show SV.clear j ((List.map (SV.fD j) (E.s.map (SV.cu gv j))).getD s .no);rw[this];exact SV.ot j _;obtain⟨p1,p2,p3⟩:=q3 c hc;refine⟨p1,p2,?_⟩;simp only[Gh.cu];split;rfl;exact p3;by_cases e:k=z;subst e;exact⟨_,_,D⟩;rw[fN z _ _ w k e];refine hI.fresh k ?_;simp only[Gh.cu]at hk;split at hk;rename_i h;exact(q1 _ h).1;rw[hk];exact F;cases h;cases h
end
theorem Uc:∀(p:Pt) (tk:Nat) (hs:List Nat),(cI p tk hs).2=(cI p tk []).2
 | .leaf,_,_| .own,_,_| .shr,_,_| .hd,_,_| .pv,_,_| .rom,_,_=>rfl
 | .pair a b,tk,hs=>by simp only[cI];rw[Uc a tk hs,Uc b _ hs]
def iU(p:Pt)(tk:Nat)(hs:List Nat):(cI p tk hs).2=bZ p tk:=Uc p tk hs
theorem fa:∀(p:Pt) (tk:Nat),tk<=bZ p tk
 | .leaf,_| .shr,_| .rom,_=>j_ _
 | .own,_| .hd,_| .pv,_=>anv _
 | .pair a b,tk=>by
   have c:=fa a tk;have d:=fa b (bZ a tk);exact amB c d
def sN(a b:Pt)(tk:Nat):bZ (.pair a b) tk=bZ b (bZ a tk):=rfl
theorem On:∀(τ:Ty) (tk:Nat) (hs:List Nat),cI (PQ τ) tk hs=(sR τ (.sha hs),tk)
 | .int _,_,_| .bool,_,_| .str,_,_| .sl _,_,_=>rfl
 | .pair a b,tk,hs=>by simp only[PQ,cI,On a,On b,sR]
def Ym(τ:Ty)(tk:Nat):bZ (PQ τ) tk=tk:=by rw[<-iU (PQ τ) tk [1],On]
theorem Jb:∀ {p:Pt} {tk:Nat} {hs:List Nat},∀c∈(cI p tk hs).1.bc,c∈hs\/(tk<=c/\c<bZ p tk)\/c=3
 | .leaf,tk,hs,c,h=>by simp[cI,Sh.bc]at h
 | .rom,tk,hs,c,h=>by
   simp only[cI,Sh.bc,M.bc,amI]at h;exact .inr (.inr h)
 | .own,tk,hs,c,h=>by
   simp only[cI,Sh.bc,M.bc,et,amj,or_false,or_self]at h;subst h;exact .inr (.inl ⟨j_ _,F' _⟩)
 | .pv,tk,hs,c,h=>by
   simp only[cI,Sh.bc,M.bc,et,amj,or_false,or_self]at h;subst h;exact .inr (.inl ⟨j_ _,F' _⟩)
 | .hd,tk,hs,c,h=>by
   simp only[cI,Sh.bc,M.bc,et]at h;rcases h with rfl|rfl|h;exact .inr (.inl ⟨j_ _,F' _⟩);exact .inr (.inl ⟨j_ _,F' _⟩);exact .inl h
 | .shr,tk,hs,c,h=> .inl h
 | .pair a b,tk,hs,c,h=>by
   simp only[cI,Sh.bc,e8]at h;have h1:=fa a tk;have h2:=fa b (bZ a tk);rw[sN];rcases h with h|h;rcases Jb c h with h|h;exact .inl h;right;omega;rw[iU]at h;rcases Jb c h with h|h;exact .inl h;right;omega
theorem Ee:∀ {p:Pt} {tk:Nat} {hs:List Nat},∀c∈(cI p tk hs).1.bc,(c∈hs/\p.NF=true)\/(tk<=c/\c<bZ p tk)\/c=3
 | .leaf,tk,hs,c,h=>by simp[cI,Sh.bc]at h
 | .rom,tk,hs,c,h=>by
   simp only[cI,Sh.bc,M.bc,amI]at h;exact .inr (.inr h)
 | .own,tk,hs,c,h=>by
   simp only[cI,Sh.bc,M.bc,et,amj,or_false,or_self]at h;subst h;exact .inr (.inl ⟨j_ _,F' _⟩)
 | .pv,tk,hs,c,h=>by
   simp only[cI,Sh.bc,M.bc,et,amj,or_false,or_self]at h;subst h;exact .inr (.inl ⟨j_ _,F' _⟩)
 | .hd,tk,hs,c,h=>by
   simp only[cI,Sh.bc,M.bc,et]at h;rcases h with rfl|rfl|h;exact .inr (.inl ⟨j_ _,F' _⟩);exact .inr (.inl ⟨j_ _,F' _⟩);exact .inl ⟨h,rfl⟩
 | .shr,tk,hs,c,h=> .inl ⟨h,rfl⟩
 | .pair a b,tk,hs,c,h=>by
   simp only[cI,Sh.bc,e8]at h;have h1:=fa a tk;have h2:=fa b (bZ a tk);rw[sN];simp only[Pt.NF,am2];rcases h with h|h;rcases Ee c h with h|h;exact .inl ⟨h.1,.inl h.2⟩;right;omega;rw[iU]at h;rcases Ee c h with h|h;exact .inl ⟨h.1,.inr h.2⟩;right;omega
section
variable{P:Program}{C:Cx}{w0:World}{c0:C0}{U:Nat->Prop}{E:Env}{a:Act}{w:World}{G:Gh}{ops:List Oper}{g:Option (Nat×Bool)}
theorem GG{sm:Nat->Nat}{hs:List Nat}:∀ {p:Pt} {τ:Ty} {x:τ.den} {sh:Sh} {cs:List Value} {tk:Nat},zq p sh=true->dJ w G τ x sh cs->4<=tk->(∀c∈sh.bc,sm c∈hs)->hs≠ []->
 ∃H:Nat->Value,∀d:Gh,(∀c k,(c,k)∈py sm p sh tk->∀b,G.col b=c->d.col b=k)->(∀u,tk<=u->u<bZ p tk->d.hdr u=H u)->dJ w d τ x (cI p tk hs).1 cs
 | .leaf,.int _,x,.leaf,cs,tk,_,h,_,_,_=>⟨fun _=>undef,fun _ _ _=>h⟩
 | .leaf,.bool,x,.leaf,cs,tk,_,h,_,_,_=>⟨fun _=>undef,fun _ _ _=>h⟩
 | .leaf,.str,x,.leaf,cs,tk,_,h,_,_,_=>⟨fun _=>undef,fun _ _ _=>h⟩
 | .own,.sl e,l,.sl m,cs,tk,hf,h,h3,_,_=>by
   obtain⟨v,rfl,s⟩:=h;simp only[zq,ane]at hf;obtain⟨ts,K⟩:=hf;obtain⟨B,r,W,hc⟩:=s.own K;refine⟨fun _=>v,fun d i j=>⟨v,rfl,h3,j tk (j_ _) (F' _),B,r,?_⟩⟩;have J:∀b∈B,d.col b=tk:=fun b z=>i (G.col b) tk (by simp only[py,K,amo,G8];exact⟨_,hc b z,rfl⟩) b rfl;rintro b F rfl;rw[amE]at W;exact⟨J b (by simp),W.1,fun x I=>by simp[J x (by simp[I])],fun _=>W.2⟩
 | .shr,.sl e,l,.sl m,cs,tk,hf,h,h3,hsm,hne=>by
   obtain⟨v,rfl,s⟩:=h;simp only[zq,ne_eq,decide_not,ami,d_]at hf;obtain⟨B,r,hc⟩:=s.rep hf;refine⟨fun _=>v,fun d i j=>⟨v,rfl,⟨B,r,fun b z=> ?_⟩,fun e=>absurd e hne⟩⟩;rw[i (G.col b) (sm (G.col b)) (by simp only[py,G8];exact⟨_,hc b z,rfl⟩) b rfl];exact hsm _ (hc b z)
 | .rom,.sl e,l,.sl m,cs,tk,hf,h,h3,_,_=>by
   obtain⟨v,rfl,s⟩:=h;simp only[zq,ne_eq,decide_not,y_,ami,d_,Q',b_]at hf;obtain⟨B,r,hc⟩:=s.rep hf.1;refine⟨fun _=>v,fun d i j=>⟨v,rfl,⟨B,r,fun b z=> ?_⟩,fun e=>absurd e (by simp)⟩⟩;have e3:=hf.2 _ (hc b z);rw[i 3 3 (by simp only[py,G8,amr,b_];exact⟨3,⟨e3▸hc b z,rfl⟩,rfl⟩) b e3];simp
 | .pv,.sl e,l,.sl m,cs,tk,hf,h,h3,_,_=>by
   obtain⟨v,rfl,s⟩:=h;simp only[zq,ane]at hf;obtain⟨ts,K⟩:=hf;rcases M.aay K with⟨t,N,nd,rfl,S,Y⟩|⟨rfl,rfl⟩;obtain⟨_,_,B,r,hc⟩:=s;refine⟨fun _=>v,fun d i j=>⟨v,rfl,h3,j tk (j_ _) (F' _),B,r,?_⟩⟩;rintro b F rfl;obtain⟨q1,q2,q3,_⟩:=hc b F rfl;have J:∀c,c=t\/c∈N->∀b,G.col b=c->d.col b=tk:=fun c hc=>i c tk (by simp only[py,K,amo,G8];exact⟨c,(Y c).2 hc,rfl⟩);exact⟨J t (.inl rfl) b q1,q2,fun x I=>by simp[J _ (.inr (q3 x I)) x rfl],by simp⟩;obtain⟨_,B,r,rfl⟩:=s.nil;exact⟨fun _=>v,fun d i j=>⟨v,rfl,h3,j tk (j_ _) (F' _),[],r,by rintro b F ⟨⟩⟩⟩
 | .hd,.sl e,l,.sl (.row t N nd),cs,tk,hf,h,h3,hsm,hne=>by
   obtain⟨v,rfl,_,_,B,r,hc⟩:=h;refine⟨fun _=>v,fun d i j=>⟨v,rfl,h3,j tk (j_ _) (F' _),B,r,?_⟩⟩;rintro b F rfl;obtain⟨q1,q2,q3,_⟩:=hc b F rfl;refine⟨i t tk (by simp[py]) b q1,q2,fun x I=> ?_,by simp⟩;by_cases e:G.col x=t;rw[i t tk (by simp[py]) x e];simp;rw[i (G.col x) (sm (G.col x)) (by simp only[py,et,G8,amr];exact .inr ⟨_,⟨q3 x I,by simpa using e⟩,rfl⟩) x rfl];exact I' _ (hsm _ (by simp[Sh.bc,M.bc,q3 x I]))
 | .hd,.sl e,l,.sl (.sha []),cs,tk,hf,h,h3,hsm,hne=>by
   obtain⟨v,rfl,s⟩:=h;obtain⟨_,B,r,rfl⟩:=gq.nil s;exact⟨fun _=>v,fun d i j=>⟨v,rfl,h3,j tk (j_ _) (F' _),[],r,by rintro b F ⟨⟩⟩⟩
 | .pair p q,.pair a b,x,.pair s1 s2,cs,tk,hf,h,h3,hsm,hne=>by
   obtain⟨c1,c2,rfl,i,j⟩:=h;simp only[zq,y_]at hf;have S:=fa p tk;obtain⟨H1,k1⟩:=GG hf.1 i h3 (fun c hc=>hsm c (by simp[Sh.bc,hc])) hne;obtain⟨H2,k2⟩:=GG (tk:=bZ p tk) hf.2 j (by omega) (fun c hc=>hsm c (by simp[Sh.bc,hc])) hne;refine⟨fun u=>if u<bZ p tk then H1 u else H2 u,fun d g1 g2=>⟨c1,c2,rfl,?_,?_⟩⟩;refine k1 d (fun c k D=>g1 c k (by simp only[py,e8];exact .inl D)) (fun u hu y=> ?_);exact(g2 u hu (by rw[sN];exact am5 y (fa _ _))).trans (an y);rw[iU];refine k2 d (fun c k D=>g1 c k (by simp only[py,e8];exact .inr D)) (fun u hu y=> ?_);exact(g2 u (by omega) (by rw[sN];exact y)).trans (a_ (by omega))
 | .hd,_,_,.sl (.sha (_::_)),_,_,hf,_,_,_,_| .hd,_,_,.sl .dead,_,_,hf,_,_,_,_| .hd,_,_,.leaf,_,_,hf,_,_,_,_| .hd,_,_,.pair _ _,_,_,hf,_,_,_,_
 | .pv,_,_,.leaf,_,_,hf,_,_,_,_| .pv,_,_,.pair _ _,_,_,hf,_,_,_,_| .rom,_,_,.leaf,_,_,hf,_,_,_,_| .rom,_,_,.pair _ _,_,_,hf,_,_,_,_
 | .leaf,_,_,.sl _,_,_,hf,_,_,_,_| .leaf,_,_,.pair _ _,_,_,hf,_,_,_,_| .own,_,_,.leaf,_,_,hf,_,_,_,_| .own,_,_,.pair _ _,_,_,hf,_,_,_,_
 | .shr,_,_,.leaf,_,_,hf,_,_,_,_| .shr,_,_,.pair _ _,_,_,hf,_,_,_,_| .pair _ _,_,_,.leaf,_,_,hf,_,_,_,_| .pair _ _,_,_,.sl _,_,_,hf,_,_,_,_=>by simp[zq]at hf
 | .hd,.int _,_,.sl (.row _ _ _),_,_,_,h,_,_,_| .hd,.bool,_,.sl (.row _ _ _),_,_,_,h,_,_,_| .hd,.str,_,.sl (.row _ _ _),_,_,_,h,_,_,_| .hd,.pair _ _,_,.sl (.row _ _ _),_,_,_,h,_,_,_
 | .hd,.int _,_,.sl (.sha []),_,_,_,h,_,_,_| .hd,.bool,_,.sl (.sha []),_,_,_,h,_,_,_| .hd,.str,_,.sl (.sha []),_,_,_,h,_,_,_| .hd,.pair _ _,_,.sl (.sha []),_,_,_,h,_,_,_
 | .rom,.int _,_,.sl _,_,_,_,h,_,_,_| .rom,.bool,_,.sl _,_,_,_,h,_,_,_| .rom,.str,_,.sl _,_,_,_,h,_,_,_| .rom,.pair _ _,_,.sl _,_,_,_,h,_,_,_
 | .pv,.int _,_,.sl _,_,_,_,h,_,_,_| .pv,.bool,_,.sl _,_,_,_,h,_,_,_| .pv,.str,_,.sl _,_,_,_,h,_,_,_| .pv,.pair _ _,_,.sl _,_,_,_,h,_,_,_
 | .leaf,.sl _,_,.leaf,_,_,_,h,_,_,_| .leaf,.pair _ _,_,.leaf,_,_,_,h,_,_,_| .own,.int _,_,.sl _,_,_,_,h,_,_,_| .own,.bool,_,.sl _,_,_,_,h,_,_,_| .own,.str,_,.sl _,_,_,_,h,_,_,_| .own,.pair _ _,_,.sl _,_,_,_,h,_,_,_
 | .shr,.int _,_,.sl _,_,_,_,h,_,_,_| .shr,.bool,_,.sl _,_,_,_,h,_,_,_| .shr,.str,_,.sl _,_,_,_,h,_,_,_| .shr,.pair _ _,_,.sl _,_,_,_,h,_,_,_
 | .pair _ _,.int _,_,.pair _ _,_,_,_,h,_,_,_| .pair _ _,.bool,_,.pair _ _,_,_,_,h,_,_,_| .pair _ _,.str,_,.pair _ _,_,_,_,h,_,_,_| .pair _ _,.sl _,_,.pair _ _,_,_,_,h,_,_,_=>h.elim
theorem Xr{s G2:Gh}{hs hs':List Nat}:∀ {p:Pt} {τ:Ty} {x:τ.den} {cs:List Value} {k k':Nat},dJ w s τ x (cI p k hs).1 cs->4<=k'->
 (∀u,k<=u->u<bZ p k->G2.hdr (k'+(u-k))=s.hdr u/\∀b,s.col b=u->G2.col b=k'+(u-k))->(∀b,s.col b∈hs->G2.col b∈hs')->(∀b,s.col b=3->G2.col b=3)->hs'≠ []->
 dJ w G2 τ x (cI p k' hs').1 cs/\bZ p k'-k'=bZ p k-k
 | .leaf,.int _,x,cs,k,k',h,_,_,_,_,_=>⟨h,by simp[bZ,cI]⟩
 | .leaf,.bool,x,cs,k,k',h,_,_,_,_,_=>⟨h,by simp[bZ,cI]⟩
 | .leaf,.str,x,cs,k,k',h,_,_,_,_,_=>⟨h,by simp[bZ,cI]⟩
 | .rom,.sl e,l,cs,k,k',h,_,_,_,hrom,_=>by
   obtain⟨v,rfl,⟨B,i,hc⟩,_⟩:=h;exact⟨⟨v,rfl,⟨B,i,fun b d=>by simp[hrom b (by simpa using hc b d)]⟩,fun e=>absurd e (by simp)⟩,by simp[bZ,cI]⟩
 | .own,.sl e,l,cs,k,k',h,h3,hk,_,_,_=>by
   obtain⟨v,rfl,D,t,B,i,hc⟩:=h;obtain⟨j,c⟩:=hk k (j_ _) (F' _);simp only[anf,ang]at j c;refine⟨⟨v,rfl,h3,j.trans t,B,i,fun b m d=> ?_⟩,by simp[bZ,cI]⟩;obtain⟨q1,q2,q3,q4⟩:=hc b m d;exact⟨c b q1,q2,fun x r=>by simp[c x (by simpa using q3 x r)],q4⟩
 | .pv,.sl e,l,cs,k,k',h,h3,hk,_,_,_=>by
   obtain⟨v,rfl,D,t,B,i,hc⟩:=h;obtain⟨j,c⟩:=hk k (j_ _) (F' _);simp only[anf,ang]at j c;refine⟨⟨v,rfl,h3,j.trans t,B,i,fun b m d=> ?_⟩,by simp[bZ,cI]⟩;obtain⟨q1,q2,q3,q4⟩:=hc b m d;exact⟨c b q1,q2,fun x r=>by simp[c x (by simpa using q3 x r)],q4⟩
 | .hd,.sl e,l,cs,k,k',h,h3,hk,hh,_,hne=>by
   obtain⟨v,rfl,D,t,B,i,hc⟩:=h;obtain⟨j,c⟩:=hk k (j_ _) (F' _);simp only[anf,ang]at j c;refine⟨⟨v,rfl,h3,j.trans t,B,i,fun b m d=> ?_⟩,by simp[bZ,cI]⟩;obtain⟨q1,q2,q3,q4⟩:=hc b m d;refine⟨c b q1,q2,fun x r=> ?_,q4⟩;rcases et.1 (q3 x r)with h|h;rw[c x h];simp;exact I' _ (hh x h)
 | .shr,.sl e,l,cs,k,k',h,_,_,hh,_,hne=>by
   obtain⟨v,rfl,⟨B,i,hc⟩,_⟩:=h;exact⟨⟨v,rfl,⟨B,i,fun b d=>hh b (hc b d)⟩,fun e=>absurd e hne⟩,by simp[bZ,cI]⟩
 | .pair p q,.pair a b,x,cs,k,k',h,h3,hk,hh,hrom,hne=>by
   obtain⟨H,I,rfl,J,F⟩:=h;have n1:=fa p k;have n2:=fa q (bZ p k);have n3:=fa p k';rw[iU]at F;obtain⟨K,d1⟩:=Xr J h3 (fun u z y=>hk u z (by rw[sN];omega)) hh hrom hne
   obtain⟨N,d2⟩:=Xr (k':=bZ p k') F (by omega) (fun u z y=>by
    have:=hk u (by omega) (by rw[sN];omega);rw[show bZ p k'+(u-bZ p k)=k'+(u-k) by omega];exact this) hh hrom hne
   refine⟨⟨H,I,rfl,K,?_⟩,?_⟩;rw[iU];exact N;rw[sN,sN];have:=fa q (bZ p k');omega
 | .hd,.int _,_,_,_,_,h,_,_,_,_,_| .hd,.bool,_,_,_,_,h,_,_,_,_,_| .hd,.str,_,_,_,_,h,_,_,_,_,_| .hd,.pair _ _,_,_,_,_,h,_,_,_,_,_
 | .rom,.int _,_,_,_,_,h,_,_,_,_,_| .rom,.bool,_,_,_,_,h,_,_,_,_,_| .rom,.str,_,_,_,_,h,_,_,_,_,_| .rom,.pair _ _,_,_,_,_,h,_,_,_,_,_
 | .pv,.int _,_,_,_,_,h,_,_,_,_,_| .pv,.bool,_,_,_,_,h,_,_,_,_,_| .pv,.str,_,_,_,_,h,_,_,_,_,_| .pv,.pair _ _,_,_,_,_,h,_,_,_,_,_
 | .leaf,.sl _,_,_,_,_,h,_,_,_,_,_| .leaf,.pair _ _,_,_,_,_,h,_,_,_,_,_| .own,.int _,_,_,_,_,h,_,_,_,_,_| .own,.bool,_,_,_,_,h,_,_,_,_,_| .own,.str,_,_,_,_,h,_,_,_,_,_| .own,.pair _ _,_,_,_,_,h,_,_,_,_,_
 | .shr,.int _,_,_,_,_,h,_,_,_,_,_| .shr,.bool,_,_,_,_,h,_,_,_,_,_| .shr,.str,_,_,_,_,h,_,_,_,_,_| .shr,.pair _ _,_,_,_,_,h,_,_,_,_,_
 | .pair _ _,.int _,_,_,_,_,h,_,_,_,_,_| .pair _ _,.bool,_,_,_,_,h,_,_,_,_,_| .pair _ _,.str,_,_,_,_,h,_,_,_,_,_| .pair _ _,.sl _,_,_,_,_,h,_,_,_,_,_=>h.elim
end
theorem vt:∀(ps:List PK) (tk:Nat),tk<=fV ps tk
 | [],_=>j_ _
 | .val _ p::ps,tk=>amB (fa p tk) (vt ps _)
 | .io _ p::ps,tk=>amB (amB (anv _) (fa p (tk+1))) (vt ps _)
 | .rd _::ps,tk| .vx _ _::ps,tk=>vt ps tk
theorem N0:∀(ps:List PK) (x:du (ps.map PK.ty)) (tk:Nat),(gU ps x tk).2=fV ps tk
 | [],_,_=>rfl
 | .val _ p::ps,x,tk=>by simp only[gU,fV];rw[iU];exact N0 ps x.2 _
 | .io _ p::ps,x,tk=>by simp only[gU,fV];rw[iU];exact N0 ps x.2 _
 | .rd _::ps,x,tk| .vx _ _::ps,x,tk=>by simp only[gU,fV];exact N0 ps x.2 _
theorem L2:∀(ps:List PK) (x:du (ps.map PK.ty)) (tk:Nat),(gU ps x tk).1.length=ps.length
 | [],_,_=>rfl
 | .val _ p::ps,x,tk=>by simp only[gU,anh];rw[L2 ps x.2]
 | .io _ p::ps,x,tk=>by simp only[gU,anh];rw[L2 ps x.2]
 | .rd _::ps,x,tk| .vx _ _::ps,x,tk=>by simp only[gU,anh];rw[L2 ps x.2]
theorem om:∀ {ps:List PK} {tk:Nat},∀c∈jM ps tk,tk<=c/\c<fV ps tk
 | [],_,c,h=>by simp[jM]at h
 | .val _ p::ps,tk,c,h=>by
   have:=om (ps:=ps) (tk:=bZ p tk) c h;have b:=fa p tk;exact⟨by omega,this.2⟩
 | .io _ p::ps,tk,c,h=>by
   have b:=fa p (tk+1);have h2:=vt ps (bZ p (tk+1));simp only[jM,et]at h;simp only[fV];rcases h with rfl|h;omega;have:=om (ps:=ps) (tk:=bZ p (tk+1)) c h;omega
 | .rd _::ps,tk,c,h| .vx _ _::ps,tk,c,h=>om (ps:=ps) (tk:=tk) c h
theorem DW:∀ {ps:List PK} {x:du (ps.map PK.ty)} {tk:Nat},∀sv∈(gU ps x tk).1,
 (∀c∈sv.sc,(c=1\/c=3)\/(tk<=c/\c<fV ps tk/\c∉jM ps tk)\/c∈vxs ps)/\(∀c∈sv.bt,c∈jM ps tk)/\sv.rt=[]
 | .val τ p::ps,x,tk,sv,h=>by
   have q:=fa p tk;have r:=vt ps (bZ p tk);simp only[gU,et]at h;rcases h with rfl|h
   ·refine⟨fun c hc=> ?_,by simp[SV.bt],rfl⟩;rcases Jb c hc with h|h|h
    ·left;left;simpa using h
    rotate_left
    ·left;right;exact h
    ·right;left;simp only[fV,jM];exact⟨h.1,by omega,fun b=>by have:=om (ps:=ps) (tk:=bZ p tk) c b;omega⟩
   ·rw[iU]at h;obtain⟨d,i,j⟩:=DW sv h;refine⟨fun c hc=> ?_,i,j⟩;rcases d c hc with h|⟨s,k,m⟩|h
    ·exact .inl h
    ·exact .inr (.inl ⟨by omega,k,m⟩)
    ·exact .inr (.inr h)
 | .io τ p::ps,x,tk,sv,h=>by
   have q:=fa p (tk+1);have r:=vt ps (bZ p (tk+1));simp only[gU,et]at h;rcases h with rfl|h
   ·refine⟨fun c hc=> ?_,by simp[SV.bt,jM],rfl⟩;rcases Jb c hc with h|h|h
    ·left;left;simpa using h
    rotate_left
    ·left;right;exact h
    ·right;left;simp only[fV,jM,et,not_or];exact⟨by omega,by omega,by omega,fun b=>by have:=om (ps:=ps) (tk:=bZ p (tk+1)) c b;omega⟩
   ·rw[iU]at h;obtain⟨d,i,j⟩:=DW sv h;refine⟨fun c hc=> ?_,fun c hc=>by simp[jM,i c hc],j⟩;rcases d c hc with h|⟨s,k,m⟩|h
    ·exact .inl h
    ·refine .inr (.inl ⟨by omega,k,?_⟩);simp only[jM,et,not_or];exact⟨by omega,m⟩
    ·exact .inr (.inr h)
 | .rd τ::ps,x,tk,sv,h=>by
   simp only[gU,et]at h;rcases h with rfl|h
   ·refine⟨fun c hc=> ?_,by simp[SV.bt],rfl⟩;simp only[SV.sc,e8]at hc;rcases hc with hc|hc
    ·left;left;simpa using hc
    ·rw[On]at hc;left;left;simpa[M.bc]using Kp _ _ c hc
   ·obtain⟨d,i,j⟩:=DW sv h;exact⟨d,i,j⟩
 | .vx e l::ps,x,tk,sv,h=>by
   simp only[gU,et]at h;rcases h with rfl|h
   ·refine⟨fun c hc=> ?_,by simp[SV.bt],rfl⟩;simp only[SV.sc,Sh.bc,M.bc,et]at hc;rcases hc with hc|hc
    ·exact .inl (.inl hc)
    ·exact .inr (.inr (by simp[vxs,hc]))
   ·obtain⟨d,i,j⟩:=DW sv h;exact⟨fun c hc=>(d c hc).imp id (Or.imp id fun h=>by simp[vxs,h]),i,j⟩
theorem NV:∀ {ps:List PK} {x:du (ps.map PK.ty)} {tk:Nat} {i j t:Nat} {v b:TV},
 (gU ps x tk).1.getD i .no= .box t v->(gU ps x tk).1.getD j .no= .box t b->i=j
 | [],_,_,_,_,_,_,_,h,_=>by simp[gU]at h
 | .val τ p::ps,x,tk,i,j,t,v,b,h,h'=>by
   simp only[gU]at h h';cases i with
   |zero=>simp at h
   |succ i=>
    cases j with
    |zero=>simp at h'
    |succ j=>
     simp only[ame]at h h';rw[NV h h']
 | .io τ p::ps,x,tk,i,j,t,v,b,h,h'=>by
   have n1:=fa p (tk+1)
   have key:∀ {n:Nat} {u:TV},(gU ps x.2 (bZ p (tk+1))).1.getD n .no≠ .box tk u:=by
    intro n u e
    have c:SV.box tk u∈(gU ps x.2 (bZ p (tk+1))).1:=by
     rw[f_]at e;cases d:(gU ps x.2 (bZ p (tk+1))).1[n]? with
     |none=>rw[d]at e;simp at e
     |some z=>rw[d]at e;simp at e;rw[<-e];exact amD d
    have:=om tk ((DW _ c).2.1 tk (by simp[SV.bt]));omega
   simp only[gU]at h h';rw[iU]at h h';cases i with
   |zero=>
    cases j with
    |zero=>rfl
    |succ j=>
     simp only[W_,SV.box.injEq]at h;simp only[ame]at h';rw[<-h.1]at h';exact absurd h' key
   |succ i=>
    cases j with
    |zero=>
     simp only[W_,SV.box.injEq]at h';simp only[ame]at h;rw[<-h'.1]at h;exact absurd h key
    |succ j=>
     simp only[ame]at h h';rw[NV h h']
 | .rd τ::ps,x,tk,i,j,t,v,b,h,h'=>by
   simp only[gU]at h h';cases i with
   |zero=>simp at h
   |succ i=>
    cases j with
    |zero=>simp at h'
    |succ j=>
     simp only[ame]at h h';rw[NV h h']
 | .vx e l::ps,x,tk,i,j,t,v,b,h,h'=>by
   simp only[gU]at h h';cases i with
   |zero=>simp at h
   |succ i=>
    cases j with
    |zero=>simp at h'
    |succ j=>
     simp only[ame]at h h';rw[NV h h']
structure Y6(w:World)(G:Gh)(L:List SV)(vs:List Value)(nt:Nat):Prop where
 len:vs.length=L.length
 slots:∀i,gQ w G (L.getD i .no) (vs.getD i undef)
 Kt:∀i,dH (fun u=>u<nt) G (L.getD i .no)
 uni:∀i j t v v',L.getD i .no= .box t v->L.getD j .no= .box t v'->i=j
 colU:∀b,0<G.col b->G.col b<nt/\b<w.heap.size
 fresh:∀b,4<=G.col b->∃c el,w.heap[b]?=some (.cells c el (0,0))
 two:G.bx 2=false/\G.bx 3=false
 ent:∀b,G.col b≠2
section
variable{P:Program}{C:Cx}{w0:World}{c0:C0}{U:Nat->Prop}{E:Env}{a:Act}{w:World}{G:Gh}{ops:List Oper}{g:Option (Nat×Bool)}
theorem DT{sm:Nat->Nat}:∀ {p:Pt} {τ:Ty} {x:τ.den} {sh:Sh} {cs:List Value} {tk:Nat},dJ w G τ x sh cs->∀c k,(c,k)∈py sm p sh tk->
 c∈sh.bc/\((k=sm c/\c∈YH p sh)\/(4<=c/\tk<=k/\k<bZ p tk)\/(c=3/\k=3))
 | .leaf,_,_,_,_,_,_,c,k,d=>by simp[py]at d
 | .own,.sl e,l,.sl m,cs,tk,h,c,k,d=>by
   simp only[py,G8,akU]at d;obtain⟨s,hc,rfl,rfl⟩:=d;cases i:m.own with
   |none=>rw[i]at hc;simp at hc
   |some I=>
    rw[i]at hc;have j:=Sh.AT (sh:= .sl m) h i _ hc;exact⟨M.xn i _ hc,.inr (.inl ⟨j,j_ _,F' _⟩)⟩
 | .shr,.sl e,l,.sl m,cs,tk,h,c,k,d=>by
   simp only[py,G8,akU]at d;obtain⟨s,hc,rfl,rfl⟩:=d;exact⟨hc,.inl ⟨rfl,hc⟩⟩
 | .rom,_,_,.sl m,cs,tk,h,c,k,d=>by
   simp only[py,G8,amr,akU,b_]at d;obtain⟨s,⟨hc,rfl⟩,rfl,rfl⟩:=d;exact⟨hc,.inr (.inr ⟨rfl,rfl⟩)⟩
 | .pv,.sl e,l,.sl m,cs,tk,h,c,k,d=>by
   simp only[py,G8,akU]at d;obtain⟨s,hc,rfl,rfl⟩:=d;cases i:m.Uw with
   |none=>rw[i]at hc;simp at hc
   |some I=>
    rw[i]at hc;simp only[amo]at hc;rcases M.aay i with⟨t,u,D,rfl,v,y⟩|⟨rfl,rfl⟩;obtain⟨_,_,j,_⟩:=h;rcases(y _).1 hc with rfl|hc;exact⟨by simp[Sh.bc,M.bc],.inr (.inl ⟨j,j_ _,F' _⟩)⟩;exact⟨by simp[Sh.bc,M.bc,hc],.inr (.inl ⟨v _ hc,j_ _,F' _⟩)⟩;cases hc
 | .hd,.sl e,l,.sl (.row t u D),cs,tk,h,c,k,d=>by
   obtain⟨_,_,j,_⟩:=h;simp only[py,et,akU,G8,amr]at d;rcases d with⟨rfl,rfl⟩|⟨s,⟨hc,_⟩,rfl,rfl⟩;exact⟨by simp[Sh.bc,M.bc],.inr (.inl ⟨j,j_ _,F' _⟩)⟩;exact⟨by simp[Sh.bc,M.bc,hc],.inl ⟨rfl,hc⟩⟩
 | .pair p q,.pair a b,x,.pair s1 s2,cs,tk,h,c,k,d=>by
   obtain⟨c1,c2,rfl,F,H⟩:=h;have n1:=fa p tk;have n2:=fa q (bZ p tk);simp only[py,e8]at d;rw[sN];rcases d with d|d;obtain⟨z,B⟩:=DT F c k d;exact⟨by simp[Sh.bc,z],B.imp (fun h=>⟨h.1,amS _ h.2⟩) (fun r=>r.imp (fun⟨q1,q2,q3⟩=>⟨q1,q2,by omega⟩) id)⟩;obtain⟨z,B⟩:=DT H c k d;exact⟨by simp[Sh.bc,z],B.imp (fun h=>⟨h.1,amg _ h.2⟩) (fun r=>r.imp (fun⟨q1,q2,q3⟩=>⟨q1,by have:(cI p tk []).2=bZ p tk:=rfl;omega,q3⟩) id)⟩
 | .rom,_,_,.leaf,_,_,_,c,k,d| .rom,_,_,.pair _ _,_,_,_,c,k,d
 | .pv,_,_,.leaf,_,_,_,c,k,d| .pv,_,_,.pair _ _,_,_,_,c,k,d| .hd,_,_,.leaf,_,_,_,c,k,d| .hd,_,_,.pair _ _,_,_,_,c,k,d| .hd,_,_,.sl (.sha _),_,_,_,c,k,d| .hd,_,_,.sl .dead,_,_,_,c,k,d
 | .own,_,_,.leaf,_,_,_,c,k,d| .own,_,_,.pair _ _,_,_,_,c,k,d| .shr,_,_,.leaf,_,_,_,c,k,d| .shr,_,_,.pair _ _,_,_,_,c,k,d
 | .pair _ _,_,_,.leaf,_,_,_,c,k,d| .pair _ _,_,_,.sl _,_,_,_,c,k,d=>by simp[py]at d
 | .pv,.int _,_,.sl _,_,_,h,_,_,_| .pv,.bool,_,.sl _,_,_,h,_,_,_| .pv,.str,_,.sl _,_,_,h,_,_,_| .pv,.pair _ _,_,.sl _,_,_,h,_,_,_
 | .hd,.int _,_,.sl (.row _ _ _),_,_,h,_,_,_| .hd,.bool,_,.sl (.row _ _ _),_,_,h,_,_,_| .hd,.str,_,.sl (.row _ _ _),_,_,h,_,_,_| .hd,.pair _ _,_,.sl (.row _ _ _),_,_,h,_,_,_
 | .own,.int _,_,.sl _,_,_,h,_,_,_| .own,.bool,_,.sl _,_,_,h,_,_,_| .own,.str,_,.sl _,_,_,h,_,_,_| .own,.pair _ _,_,.sl _,_,_,h,_,_,_
 | .shr,.int _,_,.sl _,_,_,h,_,_,_| .shr,.bool,_,.sl _,_,_,h,_,_,_| .shr,.str,_,.sl _,_,_,h,_,_,_| .shr,.pair _ _,_,.sl _,_,_,h,_,_,_
 | .pair _ _,.int _,_,.pair _ _,_,_,h,_,_,_| .pair _ _,.bool,_,.pair _ _,_,_,h,_,_,_| .pair _ _,.str,_,.pair _ _,_,_,h,_,_,_| .pair _ _,.sl _,_,.pair _ _,_,_,h,_,_,_=>h.elim
def QS(e:Inv w0 c0 U E a w G){sv:SV}{mv:Value}{t s:Nat}{v:TV}(h:KB E.rd sv=some (t,s,v))(hs:gQ w G sv mv):
 E.s.getD s .no= .box t v/\∃b c el,mv= .pointer (some ⟨b,0,none⟩)/\G.hdr t=mv/\4<=t/\G.col b=t/\w.heap[b]?=some (.cells c el (0,0))/\dJ w G v.τ v.x v.sh c.toList/\
  (∀c∈v.sh.bc,Good U G c)/\U t/\G.bx t=true:=by
 unfold KB at h;split at h;rename_i m τ;rw[N_]at h;obtain⟨r,p,h⟩:=h;simp only[akU]at h;obtain⟨rfl,rfl,rfl⟩:=h;obtain⟨j,b,c,el,k,q,u,y,z,B⟩:=e.box p;obtain⟨bk',_,d,l⟩:=hs;rw[k]at d;simp only[Value.pointer.injEq,akK,Addr.mk.injEq,and_true]at d;subst d;have i:=e.bt r.1 m (by rw[j];simp[SV.bt]);exact⟨j,b,c,el,l,k.trans l.symm,q,u,y,z,B,i.2.1,i.2.2⟩;cases h
def akB(r0:List (Nat×Nat))(l:List Nat)(c:Nat):vxC r0 l c∈1::l:=by
 unfold vxC;split;split;rename_i h;simp only[F_,b_]at h;exact I' _ h;simp;simp
theorem WN:∀ {l:List (Nat×Nat)} {a b:Nat},l.lookup a=some b->(a,b)∈l
 |(x,y)::l,a,b,h=>by
  simp only[anw]at h;split at h;rename_i e;simp only[beq_iff_eq]at e;cases h;simp[e];exact I' _ (WN h)
def akS(r0:List (Nat×Nat))(l:List Nat)(c:Nat):vxC r0 l c=1\/((c,vxC r0 l c)∈r0/\vxC r0 l c∈l):=by
 unfold vxC;split;rename_i k b;split;rename_i h;simp only[F_,b_]at h;exact .inr ⟨WN b,h⟩;exact .inl rfl;exact .inl rfl
def aby(U:Nat->Prop)(G:Gh)(ps:List PK)(tk:Nat)(bs:List (Nat×Nat))(c k:Nat):Prop:=
 (k=1/\0<c/\U c/\(G.bx c=false\/Yg ps=true))\/(tk<=k/\k<fV ps tk/\4<=c/\((Good U G c/\k∉jM ps tk)\/(k∈jM ps tk/\U c/\G.bx c=true/\∃s,(c,s)∈bs)))\/(c=3/\k=3)
theorem Mk(hI:Inv w0 c0 U E a w G):∀ {ps:List PK} {as:List SV} {vals:List Value} {tk:Nat} {r0:List (Nat×Nat)} {xs:du (ps.map PK.ty)} {B bs:List (Nat×Nat)},
 fl E.rd ps as tk r0=some (xs,B,bs)->(∀i,gQ w G (as.getD i .no) (vals.getD i undef)/\dH U G (as.getD i .no))->4<=tk->
 as.length=ps.length/\
 (∃H:Nat->Value,∀D:Gh,(∀c k,(c,k)∈B->∀b,G.col b=c->D.col b=k)->(∀u,tk<=u->u<fV ps tk->D.hdr u=H u)->
  ∀i,gQ w D ((gU ps xs tk).1.getD i .no) (vals.getD i undef))/\
 (∀c k,(c,k)∈B->aby U G ps tk bs c k\/((c,k)∈r0/\k≠1))
 | [],[],vals,tk,r0,xs,B,bs,h,hs,h3=>by
   simp only[fl,akK]at h;obtain⟨rfl,rfl,rfl⟩:=h;exact⟨rfl,⟨fun _=>undef,fun D _ _ i=>by simp[gU,gQ]⟩,by simp⟩
 | .val τ p::ps,.d v::as,vals,tk,r0,xs,B,bs,h,hs,h3=>by
   simp only[fl]at h;split at h
   ·rename_i x h0 J b0 hx hg;split at h
    ·rename_i K;simp only[akK,akU]at h;obtain⟨rfl,rfl,rfl⟩:=h;have n1:=fa p tk;have n2:=vt ps (bZ p tk);have z:=hs 0;simp only[W_]at z;obtain⟨⟨cs,S,N⟩,hm⟩:=z;have e:=mR hx;rw[e]at S N K hm|-;obtain⟨hl,⟨H2,k2⟩,hr⟩:=Mk hI (vals:=vals.drop 1) hg (fun i=>by have:=hs (i+1);simpa[f_,l7]using this) (by exact amB h3 n1);obtain⟨H1,k1⟩:=GG (sm:=fun _=>1) (hs:=[1]) (tk:=tk) K N h3 (by simp) (by simp);refine⟨by simp[hl],⟨fun u=>if u<bZ p tk then H1 u else H2 u,fun D I W i=> ?_⟩,fun c k j=> ?_⟩
     ·cases i with
      |zero=>
       simp only[gU,W_];exact⟨cs,S,k1 D (fun c k j=>I c k (amS _ j)) (fun u Y y=>(W u Y (by simp only[fV];omega)).trans (an y))⟩
      |succ i=>
       simp only[gU,ame];rw[iU];have:=k2 D (fun c k j=>I c k (amg _ j)) (fun u Y y=>(W u (by have:(cI p tk []).2=bZ p tk:=rfl;omega) y).trans (a_ (by have:(cI p tk []).2=bZ p tk:=rfl;omega))) i;have e0:(cI p tk []).2=bZ p tk:=rfl;rw[e0]at this;simpa[f_,l7]using this
     ·rcases e8.1 j with j|j
      ·obtain⟨r1,q⟩:=DT N c k j;have m:Good U G c:=hm.1 c r1;left;rcases q with⟨q,_⟩|⟨q,r3,r4⟩|q
       ·exact .inl ⟨q,m.1,m.2.1,.inl m.2.2⟩
       ·refine .inr (.inl ⟨r3,by simp only[fV];omega,q,.inl ⟨m,fun r=> ?_⟩⟩);have:=om (ps:=ps) (tk:=bZ p tk) k r;omega
       ·exact .inr (.inr q)
      ·rcases hr c k j with(h|⟨q1,q2,q3,q4⟩|h)|⟨h,F⟩
       ·exact .inl (.inl h)
       ·exact .inl (.inr (.inl ⟨amB n1 q1,q2,q3,q4⟩))
       ·exact .inl (.inr (.inr h))
       ·rcases e8.1 h with h|h
        ·exact .inr ⟨h,F⟩
        ·obtain⟨r1,q⟩:=DT N c k h;have m:Good U G c:=hm.1 c r1;left;rcases q with⟨q,_⟩|⟨q,r3,r4⟩|q
         ·exact absurd q F
         ·refine .inr (.inl ⟨r3,by simp only[fV];omega,q,.inl ⟨m,fun r=> ?_⟩⟩);have:=om (ps:=ps) (tk:=bZ p tk) k r;omega
         ·exact .inr (.inr q)
    ·cases h
   ·cases h
 | .io τ p::ps,sv::as,vals,tk,r0,xs,B,bs,h,hs,h3=>by
   simp only[fl]at h;split at h
   ·rename_i t s v hb;split at h
    ·rename_i x h0 J b0 hx hg;split at h
     ·rename_i K;simp only[akK,akU]at h;obtain⟨rfl,rfl,rfl⟩:=h;have n1:=fa p (tk+1);have n2:=vt ps (bZ p (tk+1));have z:=hs 0;simp only[W_]at z;obtain⟨j0,bk,c,el,b1,b2,b3,b4,b5,b6,b7,b8,b9⟩:=QS hI hb z.1;have e:=mR hx;rw[e]at K b6 b7|-;obtain⟨hl,⟨H2,k2⟩,hr⟩:=Mk hI (vals:=vals.drop 1) hg (fun i=>by have:=hs (i+1);simpa[f_,l7]using this) (by have:(cI p (tk+1) []).2=bZ p (tk+1):=rfl;omega);obtain⟨H1,k1⟩:=GG (sm:=fun _=>1) (hs:=[1]) (tk:=tk+1) K b6 (by omega) (by simp) (by simp);refine⟨by simp[hl],⟨fun u=>if u=tk then vals.getD 0 undef else if u<bZ p (tk+1)then H1 u else H2 u,fun D I W i=> ?_⟩,fun c k j=> ?_⟩
      ·cases i with
       |zero=>
        simp only[gU,W_];refine⟨bk,c,el,b1,h3,?_,I t tk (by simp) bk b4,b5,k1 D (fun c k j=>I c k (by simp[j])) (fun u Y y=> ?_)⟩
        ·exact(W tk (j_ _) (by simp only[fV];omega)).trans (an rfl)
        ·exact((W u (by omega) (by simp only[fV];omega)).trans (a_ (by omega))).trans (an y)
       |succ i=>
        simp only[gU,ame];rw[iU];have e0:(cI p (tk+1) []).2=bZ p (tk+1):=rfl;have:=k2 D (fun c k j=>I c k (by simp[j])) (fun u Y y=>((W u (by omega) y).trans (a_ (by omega))).trans (a_ (by omega))) i;rw[e0]at this;simpa[f_,l7]using this
      ·have key:(c,k)=(t,tk)\/(c,k)∈py (fun _=>1) p v.sh (tk+1)->aby U G (.io τ p::ps) tk ((t,s)::b0) c k:=by
        intro j;rcases j with j|j
        ·simp only[akU]at j;obtain⟨rfl,rfl⟩:=j;exact .inr (.inl ⟨j_ _,by simp only[fV];omega,b3,.inr ⟨by simp[jM],b8,b9,s,by simp⟩⟩)
        ·obtain⟨r1,q⟩:=DT b6 c k j;have m:Good U G c:=b7 c r1;rcases q with⟨q,_⟩|⟨q,r3,r4⟩|q
         ·exact .inl ⟨q,m.1,m.2.1,.inl m.2.2⟩
         ·refine .inr (.inl ⟨by omega,by simp only[fV];omega,q,.inl ⟨m,fun r=> ?_⟩⟩);simp only[jM,et]at r;rcases r with r|r
          ·omega
          ·have:=om (ps:=ps) (tk:=bZ p (tk+1)) k r;omega
         ·exact .inr (.inr q)
       rw[anA,et,e8,<-or_assoc]at j;rcases j with j|j
       ·exact .inl (key j)
       ·rcases hr c k j with(h|⟨q1,q2,q3,q4⟩|h)|⟨h,F⟩
        ·exact .inl (.inl h)
        ·have e0:(cI p (tk+1) []).2=bZ p (tk+1):=rfl;refine .inl (.inr (.inl ⟨by omega,q2,q3,?_⟩));rcases q4 with⟨q4,q5⟩|⟨q4,q5,q6,s',q7⟩
         ·refine .inl ⟨q4,fun r=> ?_⟩;simp only[jM,et]at r;rcases r with r|r
          ·omega
          ·exact q5 r
         ·exact .inr ⟨by simp only[jM];exact I' _ q4,q5,q6,s',by simp[q7]⟩
        ·exact .inl (.inr (.inr h))
        ·rw[e8,et]at h;rcases h with h|h
         ·exact .inr ⟨h,F⟩
         ·exact .inl (key h)
     ·cases h
    ·cases h
   ·cases h
 | .rd τ::ps,sv::as,vals,tk,r0,xs,B,bs,h,hs,h3=>by
   simp only[fl]at h;split at h
   ·rename_i t s v hb;split at h
    ·rename_i x h0 J b0 hx hg;split at h
     ·rename_i K;simp only[akK,akU]at h;obtain⟨rfl,rfl,rfl⟩:=h;have z:=hs 0;simp only[W_]at z;obtain⟨j0,bk,c,el,b1,b2,b3,b4,b5,b6,b7,b8,b9⟩:=QS hI hb z.1;have e:=mR hx;rw[e]at K b6 b7|-;obtain⟨hl,⟨H2,k2⟩,hr⟩:=Mk hI (vals:=vals.drop 1) hg (fun i=>by have:=hs (i+1);simpa[f_,l7]using this) h3;obtain⟨H1,k1⟩:=GG (sm:=fun _=>1) (hs:=[1]) (tk:=tk) K b6 (by omega) (by simp) (by simp);refine⟨by simp[hl],⟨H2,fun D I W i=> ?_⟩,fun c k j=> ?_⟩
      ·cases i with
       |zero=>
        simp only[gU,W_];have N:=k1 D (fun c k j=>I c k (by simp[j])) (fun u Y y=>by rw[Ym]at y;omega);have hlen:c.toList.length=τ.sz:=dJ.len N;refine⟨bk,0,c,el,(0,0),b1,b5,by simp only[Array.length_toList]at hlen;simp[hlen],?_,?_⟩
        ·simp[I t 1 (by simp) bk b4]
        ·simp only[am3];rw[amz (Nat.le_of_eq hlen)];exact N
       |succ i=>
        simp only[gU,ame];have:=k2 D (fun c k j=>I c k (by simp[j])) (fun u Y y=>W u Y y) i;simpa[f_,l7]using this
      ·rw[anA,et,e8]at j;rcases j with j|j|j
       ·simp only[akU]at j;obtain⟨rfl,rfl⟩:=j;exact .inl (.inl ⟨rfl,by omega,b8,.inr rfl⟩)
       ·obtain⟨r1,q⟩:=DT b6 c k j;have m:Good U G c:=b7 c r1;rw[Ym]at q;rcases q with⟨q,_⟩|⟨q,r3,r4⟩|q
        ·exact .inl (.inl ⟨q,m.1,m.2.1,.inr rfl⟩)
        ·omega
        ·exact .inl (.inr (.inr q))
       ·rcases hr c k j with(h|⟨q1,q2,q3,q4⟩|h)|h
        ·exact .inl (.inl ⟨h.1,h.2.1,h.2.2.1,.inr rfl⟩)
        ·exact .inl (.inr (.inl ⟨q1,q2,q3,q4⟩))
        ·exact .inl (.inr (.inr h))
        ·exact .inr h
     ·cases h
    ·cases h
   ·cases h
 | .vx e l::ps,.d v::as,vals,tk,r0,xs,B,bs,h,hs,h3=>by
   simp only[fl]at h;split at h
   ·rename_i x h0 J b0 hx hg;split at h
    ·rename_i K;simp only[akK,akU]at h;obtain⟨rfl,rfl,rfl⟩:=h;have z:=hs 0;simp only[W_]at z;obtain⟨⟨cs,S,N⟩,hm⟩:=z;have e:=mR hx;rw[e]at S N K hm|-;obtain⟨hl,⟨H2,k2⟩,hr⟩:=Mk hI (vals:=vals.drop 1) hg (fun i=>by have:=hs (i+1);simpa[f_,l7]using this) h3;obtain⟨H1,k1⟩:=GG (sm:=vxC r0 l) (hs:=1::l) (tk:=tk) K N h3 (fun c _=>akB r0 l c) (by simp);refine⟨by simp[hl],⟨H2,fun D I W i=> ?_⟩,fun c k j=> ?_⟩
     ·cases i with
      |zero=>
       simp only[gU,W_]
       exact⟨cs,S,k1 D (fun c k j=>I c k (amS _ j)) (fun u Y y=>by
        have:bZ .shr tk=tk:=rfl;omega)⟩
      |succ i=>
       simp only[gU,ame];have:=k2 D (fun c k j=>I c k (amg _ j)) (fun u Y y=>W u Y y) i;simpa[f_,l7]using this
     ·rcases e8.1 j with j|j
      ·obtain⟨r1,q⟩:=DT N c k j;have m:Good U G c:=hm.1 c r1;rcases q with⟨q,_⟩|⟨q,r3,r4⟩|q;rotate_left 2
       ·exact .inl (.inr (.inr q))
       ·rcases akS r0 l c with h|⟨h,h1⟩
        ·exact .inl (.inl ⟨q.trans h,m.1,m.2.1,.inl m.2.2⟩)
        ·rw[<-q]at h h1;by_cases F:k=1
         ·exact .inl (.inl ⟨F,m.1,m.2.1,.inl m.2.2⟩)
         ·exact .inr ⟨h,F⟩
       ·have:bZ .shr tk=tk:=rfl;omega
      ·rcases hr c k j with(h|⟨q1,q2,q3,q4⟩|h)|h
       ·exact .inl (.inl h)
       ·exact .inl (.inr (.inl ⟨q1,q2,q3,q4⟩))
       ·exact .inl (.inr (.inr h))
       ·exact .inr h
    ·cases h
   ·cases h
 | [],_::_,_,_,_,_,_,_,h,_,_| .val _ _::_,[],_,_,_,_,_,_,h,_,_| .io _ _::_,[],_,_,_,_,_,_,h,_,_| .rd _::_,[],_,_,_,_,_,_,h,_,_| .vx _ _::_,[],_,_,_,_,_,_,h,_,_=>by simp[fl]at h
 | .vx _ _::_,.no::_,_,_,_,_,_,_,h,_,_| .vx _ _::_,.box _ _::_,_,_,_,_,_,_,h,_,_| .vx _ _::_,.ptr ..::_,_,_,_,_,_,_,h,_,_| .vx _ _::_,.ept ..::_,_,_,_,_,_,_,h,_,_
 | .vx _ _::_,.rdp ..::_,_,_,_,_,_,_,h,_,_| .vx _ _::_,.tup _::_,_,_,_,_,_,_,h,_,_| .vx _ _::_,.g ..::_,_,_,_,_,_,_,h,_,_=>by simp[fl]at h
 | .val _ _::_,.no::_,_,_,_,_,_,_,h,_,_| .val _ _::_,.box _ _::_,_,_,_,_,_,_,h,_,_| .val _ _::_,.ptr ..::_,_,_,_,_,_,_,h,_,_| .val _ _::_,.ept ..::_,_,_,_,_,_,_,h,_,_
 | .val _ _::_,.rdp ..::_,_,_,_,_,_,_,h,_,_| .val _ _::_,.tup _::_,_,_,_,_,_,_,h,_,_| .val _ _::_,.g ..::_,_,_,_,_,_,_,h,_,_=>by simp[fl]at h
end
theorem vO:∀ {l:List (Nat×Nat)} {a b:Nat},l.lookup a=some b->(a,b)∈l
 | [],_,_,h=>by simp[anw]at h
 |(x,y)::l,a,b,h=>by
  simp only[anw]at h;split at h;rename_i e;simp only[beq_iff_eq]at e;simp only[akK]at h;subst e h;simp;exact I' _ (vO h)
def TH{r:List (Nat×Nat)}(h:V8 r=true){c k:Nat}(hc:(c,k)∈r):r.lookup c=some k:=by
 simp only[V8,Q',beq_iff_eq]at h;exact h (c,k) hc
def qc:List PK->Nat->Nat->List (Nat×Nat)
 | [],_,_=>[]
 | .val _ p::ps,i,te=>qc ps (i+1) (bZ p te)
 | .io _ p::ps,i,te=>(te,i)::qc ps (i+1) (bZ p (te+1))
 | .rd _::ps,i,te| .vx _ _::ps,i,te=>qc ps (i+1) te
def Rg:List Value->Value
 | [v]=>v
 |l=> .tuple l.toArray
structure QB(con:BJ)(w:World)(G0:Gh)(args:List Value)(y:du (con.rs.map RK.ty++eM con.ps))(mv:Value)(w':World)(G':Gh)(vs:List Value)(nt:Nat):Prop where
 val:mv=Rg vs
 len:vs.length=con.rs.length
 res:∀i,gQ w' G' ((dE con.rs (eM con.ps) y (fV con.ps 4) [2,1]).1.getD i .no) (vs.getD i undef)
 ios:∀t i v,(t,i,v)∈lA [2,1] con.ps (dE con.rs (eM con.ps) y (fV con.ps 4) [2,1]).2.1 (qc con.ps 0 4) (dE con.rs (eM con.ps) y (fV con.ps 4) [2,1]).2.2->
  gQ w' G' (.box t v) (args.getD i undef)
 frame:∀b,b<w.heap.size->G0.col b<4->G'.col b=G0.col b/\w'.heap[b]?=w.heap[b]?
 one:∀b,G'.col b=1\/G'.col b=3->b<w.heap.size/\G0.col b=G'.col b
 size:w.heap.size<=w'.heap.size
 os:w'.os=w.os
 tape:w'.tape=w.tape
 output:w'.output=w.output
 lt:∀b,0<G'.col b->b<w'.heap.size
 fresh:∀b,4<=G'.col b->∃c el,w'.heap[b]?=some (.cells c el (0,0))
 kept:∀q∈con.kp,∀te i τ,(qc con.ps 0 4)[q.1]?=some (te,i)->(eM con.ps)[q.1]?=some τ->∀bk c el c' el',args.getD i undef= .pointer (some ⟨bk,0,none⟩)->
  w.heap[bk]?=some (.cells c el (0,0))->w'.heap[bk]?=some (.cells c' el' (0,0))->c'.toList[τ.off q.2]?=c.toList[τ.off q.2]?
def NB(P:Program)(f:FuncId)(args:Array Value)(w:World)(R:Value->World->Prop):Prop:=
 match(callFunc f args).run P w with
 | .ok (.enter f' args') w1=>Calls P f' args' w1 (fun e w'=>∃v,e= .returned v/\R v w')
 | .ok (.value v) w1=>R v w1
 |_=>False
def BH(P:Program)(f:FuncId)(con:BJ):Prop:=
 ∀(w:World) (b:Gh) (args:List Value) (x:du (con.ps.map PK.ty)) (y:du (con.rs.map RK.ty++eM con.ps)),con.F x=some y->
  Y6 w b (gU con.ps x 4).1 args (fV con.ps 4)->NB P f args.toArray w (fun mv w'=>∃G' c d,QB con w b args y mv w' G' c d)
section
variable{P:Program}{C:Cx}{w0:World}{c0:C0}{U:Nat->Prop}{E:Env}{a:Act}{w:World}{G:Gh}{ops:List Oper}{g:Option (Nat×Bool)}
def ajZ(q:Inv w0 c0 U E a w G){ps:List PK}{as:List SV}{vals:List Value}{xs:du (ps.map PK.ty)}{d bs:List (Nat×Nat)}
 (h:fl E.rd ps as 4 []=some (xs,d,bs)) (hs:∀i,gQ w G (as.getD i .no) (vals.getD i undef)/\dH U G (as.getD i .no)) (hlen:vals.length=as.length) (F:V8 d=true)
 (y:∀c∈vxs ps,4<=c/\c<fV ps 4/\c∉jM ps 4):
 ∃B:Gh,Y6 w B (gU ps xs 4).1 vals (fV ps 4)/\(∀b,B.col b=(d.lookup (G.col b)).getD 0):=by
 obtain⟨J,⟨H,k⟩,s⟩:=Mk q h hs (j_ _);have l:∀c k,(c,k)∈d->aby U G ps 4 bs c k:=fun c k h=>(s c k h).resolve_right (by simp);have hnt:=vt ps 4;refine⟨⟨fun b=>(d.lookup (G.col b)).getD 0,H,fun u=>(jM ps 4).contains u⟩,⟨?_,?_,?_,?_,?_,?_,?_,?_⟩,fun b=>rfl⟩;rw[L2,<-J,hlen];intro i;refine k _ (fun c k x b e=> ?_) (fun u _ _=>rfl) i;simp only[e,TH F x,amo];intro i;by_cases I:i<(gU ps xs 4).1.length
 have r:(gU ps xs 4).1.getD i .no∈(gU ps xs 4).1:=by
  rw[f_,ali I];simp
 obtain⟨K,p,N⟩:=DW _ r;refine⟨fun c hc=> ?_,fun c hc=> ?_,by rw[N];simp⟩;rcases K c hc with Dc|⟨q1,q2,q3⟩|z;refine⟨by omega,by omega,?_⟩;simp only[F_,d_];intro l;have:=om c l;omega;exact⟨by omega,q2,by simp only[F_,d_];exact q3⟩;obtain⟨q1,q2,q3⟩:=y c z;exact⟨by omega,q2,by simp only[F_,d_];exact q3⟩;have:=om c (p c hc);exact⟨by omega,this.2,by simp only[F_,b_];exact p c hc⟩;rw[f_,amK (by omega)];simp[dH,SV.sc,SV.bt,SV.rt];intro i j t v v' h D;exact NV h D;intro b e;simp only at e|-;cases m:d.lookup (G.col b)with
 |none=>rw[m]at e;simp at e
 |some k=>
  simp only[amo];rcases l _ _ (vO m)with⟨rfl,S⟩|⟨q1,q2,q3,_⟩|⟨q1,q2⟩;exact⟨by omega,q.lt b S.1⟩;exact⟨q2,q.lt b (by omega)⟩;exact⟨by omega,q.lt b (by omega)⟩
 intro b e;simp only at e;cases m:d.lookup (G.col b)with
 |none=>rw[m]at e;simp at e
 |some k=>
  rw[m]at e;simp only[amo]at e;rcases l _ _ (vO m)with⟨rfl,_⟩|⟨q1,q2,q3,_⟩|⟨q1,q2⟩;omega;exact q.fresh b q3;omega
 simp only[F_,d_];exact⟨fun p=>by have:=om 2 p;omega,fun p=>by have:=om 3 p;omega⟩;intro b;simp only;cases m:d.lookup (G.col b)with
 |none=>simp
 |some k=>
  simp only[amo];rcases l _ _ (vO m)with⟨rfl,_⟩|⟨q1,q2,q3,_⟩|⟨q1,q2⟩<;>omega
end
theorem oF:∀(p:Pt) (k d:Nat),bZ p (k+d)=bZ p k+d
 | .leaf,_,_| .shr,_,_| .rom,_,_=>rfl
 | .own,k,d| .hd,k,d| .pv,k,d=>by simp only[bZ,cI];omega
 | .pair a b,k,d=>by rw[sN,sN,oF a,oF b]
def Mp(τ:Ty)(p:Pt)(rs:List RK)(k:Nat):nu (.val τ p::rs) k=nu rs (bZ p k):=rfl
def KJ(τ:Ty)(p:Pt)(rs:List RK)(k:Nat):nu (.nbox τ p::rs) k=nu rs (bZ p (k+1)):=rfl
def Wf(τ:Ty)(p:Pt)(ps:List PK)(k:Nat):LQ (.io τ p::ps) k=LQ ps (bZ p k):=rfl
theorem Oa:∀(rs:List RK) (k d:Nat),nu rs (k+d)=nu rs k+d
 | [],_,_=>rfl
 | .val _ p::rs,k,d=>by rw[Mp,Mp,oF,Oa rs]
 | .nbox _ p::rs,k,d=>by rw[KJ,KJ,show k+d+1=k+1+d by omega,oF,Oa rs]
theorem TM:∀(ps:List PK) (k d:Nat),LQ ps (k+d)=LQ ps k+d
 | [],_,_=>rfl
 | .val _ _::ps,k,d| .rd _::ps,k,d| .vx _ _::ps,k,d=>TM ps k d
 | .io _ p::ps,k,d=>by rw[Wf,Wf,oF,TM ps]
theorem GK:∀(rs:List RK) (k:Nat),k<=nu rs k
 | [],_=>j_ _
 | .val _ p::rs,k=>amB (fa p k) (GK rs _)
 | .nbox _ p::rs,k=>amB (amB (anv _) (fa p (k+1))) (GK rs _)
theorem N6:∀(ps:List PK) (k:Nat),k<=LQ ps k
 | [],_=>j_ _
 | .val _ p::ps,k=>N6 ps k
 | .rd _::ps,k| .vx _ _::ps,k=>N6 ps k
 | .io _ p::ps,k=>amB (fa p k) (N6 ps _)
def zr:List RK->Nat->List Nat
 | [],_=>[]
 | .val _ p::rs,k=>zr rs (bZ p k)
 | .nbox _ p::rs,k=>k::zr rs (bZ p (k+1))
theorem O4:∀ {rs:List RK} {k:Nat},∀c∈zr rs k,k<=c/\c<nu rs k
 | [],_,c,h=>by simp[zr]at h
 | .val _ p::rs,k,c,h=>by
   have:=O4 (rs:=rs) (k:=bZ p k) c h;have b:=fa p k;rw[Mp];omega
 | .nbox _ p::rs,k,c,h=>by
   have b:=fa p (k+1);have h2:=GK rs (bZ p (k+1));rw[KJ];simp only[zr,et]at h;rcases h with rfl|h;omega;have:=O4 (rs:=rs) (k:=bZ p (k+1)) c h;omega
structure afP(G' G2:Gh)(k0 n tk:Nat)(hs:List Nat):Prop where
 own:∀u,k0<=u->u<n->G2.hdr (tk+(u-k0))=G'.hdr u/\∀b,G'.col b=u->G2.col b=tk+(u-k0)
 shr:∀b,G'.col b∈[2,1]->G2.col b∈hs
 rom:∀b,G'.col b=3->G2.col b=3
 ne:hs≠ []
section
variable{w':World}{G' G2:Gh}{k0 n tk:Nat}{hs:List Nat}
def WZ(h:afP G' G2 k0 n tk hs)(h3:4<=tk){p:Pt}{τ:Ty}{x:τ.den}{cs:List Value}{k:Nat}(hk:k0<=k)(hn:bZ p k<=n)(b:dJ w' G' τ x (cI p k [2,1]).1 cs):
 dJ w' G2 τ x (cI p (tk+(k-k0)) hs).1 cs:=by
 refine(Xr b (by omega) (fun u hu hu2=> ?_) h.shr h.rom h.ne).1;have:=h.own u (by omega) (by omega);rw[show tk+(k-k0)+(u-k)=tk+(u-k0) by omega];exact this
theorem Ua(u:4<=tk):∀ {rs:List RK} {rest:List Ty} {y:du (rs.map RK.ty++rest)} {k:Nat},k0<=k->∀(hs':List Nat),
 (dE rs rest y (tk+(k-k0)) hs').2.1=(dE rs rest y k [2,1]).2.1/\(dE rs rest y (tk+(k-k0)) hs').2.2=tk+(nu rs k-k0)/\(dE rs rest y k [2,1]).2.2=nu rs k/\
 (dE rs rest y (tk+(k-k0)) hs').1.length=rs.length/\
 (afP G' G2 k0 n tk hs'->nu rs k<=n->∀(e:List Value),(∀i,gQ w' G' ((dE rs rest y k [2,1]).1.getD i .no) (e.getD i undef))->∀i,gQ w' G2 ((dE rs rest y (tk+(k-k0)) hs').1.getD i .no) (e.getD i undef))/\
 (∀sv∈(dE rs rest y (tk+(k-k0)) hs').1,(∀c∈sv.sc,((c∈hs'/\rs.any (fun r=>r.pt.NF)=true)\/c=3)\/(tk+(k-k0)<=c/\c<tk+(nu rs k-k0)/\c∉zr rs (tk+(k-k0))))/\(∀c∈sv.bt,c∈zr rs (tk+(k-k0)))/\sv.rt=[])
 | [],rest,y,k,hk,hs'=>⟨rfl,rfl,rfl,rfl,fun _ _ e _ i=>by simp[dE,gQ],by simp[dE]⟩
 | .val τ p::rs,rest,y,k,hk,hs'=>by
   have W:=fa p k;have Y:=GK rs (bZ p k);obtain⟨x,z,B,D,F,H⟩:=Ua u (rs:=rs) (rest:=rest) (y:=y.2) (k:=bZ p k) (by omega) hs'
   have s:(cI p (tk+(k-k0)) hs').2=tk+(bZ p k-k0):=by
    rw[iU,show tk+(k-k0)=(k-k0)+tk by omega,oF];have:=oF p (k-k0) k0;rw[show k-k0+k0=k by omega]at this;omega
   have l:bZ p (tk+(k-k0))=tk+(bZ p k-k0):=(iU p _ hs').symm.trans s;simp only[dE,s,iU p k [2,1],Mp];refine⟨x,z,B,by simp[D],fun m v e q i=> ?_,fun sv d=> ?_⟩
   ·cases i with
    |zero=>
     have:=q 0;simp only[W_]at this|-;obtain⟨cs,I,J⟩:=this;exact⟨cs,I,WZ m u hk (by omega) J⟩
    |succ i=>
     simp only[ame];have:=F m v (e.drop 1) (fun j=>by have:=q (j+1);simpa[f_,l7]using this) i;simpa[f_,l7]using this
   ·simp only[et]at d;rcases d with rfl|d
    ·refine⟨fun c hc=> ?_,by simp[SV.bt],rfl⟩;rcases Ee c hc with h|h|h
     ·exact .inl (.inl ⟨h.1,by simp[RK.pt,h.2]⟩)
     rotate_left
     ·exact .inl (.inr h)
     ·rw[l]at h;refine .inr ⟨h.1,by omega,fun b=> ?_⟩;simp only[zr]at b;rw[l]at b;have:=O4 c b;omega
    ·obtain⟨q1,q2,q3⟩:=H sv d;simp only[zr];rw[l];exact⟨fun c hc=>(q1 c hc).imp (fun h=>h.imp (fun h=>⟨h.1,by simp only[List.any_cons,h.2,Bool.or_true]⟩) id) (fun⟨K,t,N⟩=>⟨by omega,t,N⟩),q2,q3⟩
 | .nbox τ p::rs,rest,y,k,hk,hs'=>by
   have W:=fa p (k+1);have Y:=GK rs (bZ p (k+1));obtain⟨x,z,B,D,F,H⟩:=Ua u (rs:=rs) (rest:=rest) (y:=y.2) (k:=bZ p (k+1)) (by omega) hs'
   have s:(cI p (tk+(k-k0)+1) hs').2=tk+(bZ p (k+1)-k0):=by
    rw[iU,show tk+(k-k0)+1=(k+1-k0)+tk by omega,oF];have:=oF p (k+1-k0) k0;rw[show k+1-k0+k0=k+1 by omega]at this;omega
   have l:bZ p (tk+(k-k0)+1)=tk+(bZ p (k+1)-k0):=(iU p _ hs').symm.trans s;simp only[dE,s,iU p (k+1) [2,1],KJ];refine⟨x,z,B,by simp[D],fun m v e q i=> ?_,fun sv d=> ?_⟩
   ·cases i with
    |zero=>
     have:=q 0;simp only[W_]at this|-;obtain⟨S,c,el,g1,g2,g3,g4,g5,g6⟩:=this;obtain⟨K,t⟩:=m.own k hk (by omega);refine⟨S,c,el,g1,by omega,K.trans g3,t S g4,g5,?_⟩;have:=WZ m u (k:=k+1) (by omega) (by omega) g6;rw[show tk+(k+1-k0)=tk+(k-k0)+1 by omega]at this;exact this
    |succ i=>
     simp only[ame];have:=F m v (e.drop 1) (fun j=>by have:=q (j+1);simpa[f_,l7]using this) i;simpa[f_,l7]using this
   ·simp only[et]at d;rcases d with rfl|d
    ·refine⟨fun c hc=> ?_,by simp[SV.bt,zr],rfl⟩;rcases Ee c hc with h|h|h
     ·exact .inl (.inl ⟨h.1,by simp[RK.pt,h.2]⟩)
     rotate_left
     ·exact .inl (.inr h)
     ·rw[l]at h;refine .inr ⟨by omega,by omega,fun b=> ?_⟩;simp only[zr,et]at b;rw[l]at b;rcases b with b|b
      ·omega
      ·have:=O4 c b;omega
    ·obtain⟨q1,q2,q3⟩:=H sv d;simp only[zr];rw[l];refine⟨fun c hc=>(q1 c hc).imp (fun h=>h.imp (fun h=>⟨h.1,by simp only[List.any_cons,h.2,Bool.or_true]⟩) id) (fun⟨K,t,N⟩=>⟨by omega,t,?_⟩),fun c hc=>by simp[q2 c hc],q3⟩;simp only[et,not_or];exact⟨by omega,N⟩
end
theorem JZ:∀(l:List (Nat×Nat×TV)) (L:List SV),(fB l L).length=L.length
 | [],_=>rfl
 |(t,s,v)::l,L=>by simp only[fB];rw[JZ l];simp
theorem QY:∀(l:List (Nat×Nat×TV)) (L:List SV) (j:Nat),(fB l L).getD j .no=L.getD j .no\/∃t v,(t,j,v)∈l/\(fB l L).getD j .no= .box t v
 | [],_,_=> .inl rfl
 |(t,s,v)::l,L,j=>by
  simp only[fB];rcases QY l (L.set s (.box t v)) j with h|⟨b,c,d,i⟩;rw[h,mY];split;rename_i e;obtain⟨rfl,_⟩:=e;exact .inr ⟨t,v,by simp,rfl⟩;exact .inl rfl;exact .inr ⟨b,c,by simp[d],i⟩
def uN:List (Nat×Nat×TV)->List SV->List SV
 | [],L=>L
 |(_,s,_)::l,L=>uN l (L.set s .no)
theorem Tc:∀(l:List (Nat×Nat×TV)) {L L':List SV},L.length=L'.length->(∀j,(∀t v,(t,j,v)∉l)->L.getD j .no=L'.getD j .no)->fB l L=fB l L'
 | [],L,L',hl,h=>by
   refine List.ext_getElem hl (fun i c d=> ?_);have:=h i (by simp);rw[f_,f_]at this;simp only[fB]at c d|-;rw[ali c,ali d]at this;simpa using this
 |(t,s,v)::l,L,L',hl,h=>by
  simp only[fB];refine Tc l (by simpa using hl) (fun j m=> ?_);rw[mY,mY,hl];by_cases e:j=s/\s<L'.length;rw[an e,an e];rw[a_ e,a_ e];by_cases k:j=s;subst k;have hlt:¬j<L'.length:=fun p=>e ⟨rfl,p⟩;rw[f_,f_,amK (by omega),amK (by omega)];refine h j (fun q r b=> ?_);simp only[et,akU]at b;rcases b with⟨_,b,_⟩|b;exact k b;exact m q r b
theorem UQ:∀(l:List (Nat×Nat×TV)) (L:List SV),(uN l L).length=L.length
 | [],_=>rfl
 |(t,s,v)::l,L=>by simp only[uN];rw[UQ l];simp
theorem LL:∀(l:List (Nat×Nat×TV)) (L:List SV) (j:Nat),(∀t v,(t,j,v)∉l)->(uN l L).getD j .no=L.getD j .no
 | [],_,_,_=>rfl
 |(t,s,v)::l,L,j,h=>by
  simp only[uN];rw[LL l _ j (fun c d b=>h c d (by simp[b])),mY,a_];rintro⟨rfl,_⟩;exact h t v (by simp)
theorem NI:∀(l:List (Nat×Nat×TV)) (L:List SV) (j:Nat),(∃t v,(t,j,v)∈l)->(uN l L).getD j .no= .no/\True
 |(t,s,v)::l,L,j,⟨t',v',h⟩=>by
  simp only[uN];by_cases b:∃t v,(t,j,v)∈l;exact NI l _ j b;refine⟨?_,trivial⟩;rw[LL l _ j (fun t v h=>b ⟨t,v,h⟩),mY];simp only[et,akU]at h;rcases h with⟨_,rfl,_⟩|h;split;rfl;rename_i e;rw[f_,amK (by simp at e;omega)];rfl;exact absurd ⟨t',v',h⟩ b
def ah3(l:List (Nat×Nat×TV))(L:List SV):fB l (uN l L)=fB l L:=
 Tc l (UQ l L) (fun j b=>LL l L j b)
section
variable{P:Program}{C:Cx}{w0:World}{c0:C0}{U:Nat->Prop}{E:Env}{a:Act}{w:World}{G:Gh}{ops:List Oper}{g:Option (Nat×Bool)}
theorem Inv.aeL:∀(l:List (Nat×Nat×TV)) {E:Env},Inv w0 c0 U E a w G->Inv w0 c0 U {E with s:=uN l E.s} a w G
 | [],_,h=>h
 |(_,s,_)::l,E,h=>Inv.aeL l (E:={E with s:=E.s.set s .no}) (h.drop s)
theorem Inv.agw:∀(l:List (Nat×Nat×TV)) {E:Env},Inv w0 c0 U E a w G->(∀t s v,(t,s,v)∈l->gQ w G (.box t v) (a.tmps.getD s undef)/\dH U G (.box t v))->
 (l.map (·.1)).Pairwise (·≠·)->(∀t s v,(t,s,v)∈l->∀q u,E.s.getD q .no≠ .box t u)->Inv w0 c0 U {E with s:=fB l E.s} a w G
 | [],_,h,_,_,_=>h
 |(t,s,v)::l,E,h,h1,h2,h3=>by
  simp only[List.map_cons,anq]at h2;obtain⟨H,I⟩:=h1 t s v (by simp);refine Inv.agw l (E:={E with s:=E.s.set s (.box t v)}) (h.ais s H I ?_) (fun z q B p=>h1 z q B (by simp[p])) h2.2 (fun z q B p D u y=> ?_);rintro z u ⟨rfl,rfl⟩ q u' _ y;exact h3 t s v (by simp) q u' y;simp only[mY]at y;split at y;simp only[SV.box.injEq]at y;exact h2.1 z (G8.2 ⟨(z,q,B),p,rfl⟩) y.1;exact h3 z q B (by simp[p]) D u y
theorem To(hI:Inv w0 c0 U E a w G){k0 tk:Nat}{hs':List Nat}:∀ {ps:List PK} {as:List SV} {vals:List Value} {B i0:Nat} {r0:List (Nat×Nat)} {xs:du (ps.map PK.ty)} {q bs:List (Nat×Nat)},
 fl E.rd ps as B r0=some (xs,q,bs)->(∀i,gQ w G (as.getD i .no) (vals.getD i undef))->∀(R:du (eM ps)) (k:Nat),k0<=k->
 (∀t s m,(t,s,m)∈lA hs' ps R bs (tk+(k-k0))->∃j i y p r z,(j,i0+i,y)∈lA [2,1] ps R (qc ps i0 B) k/\(t,j)∈q/\j∈jM ps B/\
  E.s.getD s .no= .box t z/\vals.getD i undef=G.hdr t/\k<=r/\bZ p r<=LQ ps k/\y=⟨m.τ,m.x,(cI p r [2,1]).1⟩/\m.sh=(cI p (tk+(r-k0)) hs').1/\(p.NF=true->Ux ps=true))/\
 (∀t s,(t,s)∈bs->∃m,(t,s,m)∈lA hs' ps R bs (tk+(k-k0)))
 | [],[],vals,B,i0,r0,xs,q,bs,h,hs,R,k,hk=>by
   simp only[fl,akK,akU]at h;obtain⟨_,rfl,rfl⟩:=h;simp[lA]
 | .val τ p::ps,.d v::as,vals,B,i0,r0,xs,q,bs,h,hs,R,k,hk=>by
   simp only[fl]at h;split at h;rename_i x F u H hx I;split at h;simp only[akK,akU]at h;obtain⟨_,rfl,rfl⟩:=h;obtain⟨J,K⟩:=To hI (k0:=k0) (tk:=tk) (hs':=hs') (i0:=i0+1) (vals:=vals.drop 1) I (fun i=>by have:=hs (i+1);simpa[f_,l7]using this) R k hk;refine⟨fun t s m b=> ?_,fun t s b=>K t s b⟩;obtain⟨j,i,y,N,r,z,q1,q2,q3,q4,q5,q6,S,W,D⟩:=J t s m b
   exact⟨j,i+1,y,N,r,z,by simp only[qc,lA];rw[show i0+(i+1)=i0+1+i by omega];exact q1,amg _ q2,q3,q4,
    by rw[<-q5];simp[f_,l7],q6,S,W,D⟩
   cases h;cases h
 | .io τ p::ps,sv::as,vals,B,i0,r0,xs,q,bs,h,hs,R,k,hk=>by
   simp only[fl]at h;split at h;rename_i t0 s0 v hb;split at h;rename_i x F u H hx I;split at h;simp only[akK,akU]at h;obtain⟨_,rfl,rfl⟩:=h;have n1:=fa p k
   have e1:(cI p (tk+(k-k0)) hs').2=tk+(bZ p k-k0):=by
    rw[iU,show tk+(k-k0)=(k-k0)+tk by omega,oF];have:=oF p (k-k0) k0;rw[show k-k0+k0=k by omega]at this;omega
   obtain⟨J,K⟩:=To hI (k0:=k0) (tk:=tk) (hs':=hs') (i0:=i0+1) (vals:=vals.drop 1) I (fun i=>by have:=hs (i+1);simpa[f_,l7]using this) R.2 (bZ p k) (by omega);have b0:=hs 0;simp only[W_]at b0;obtain⟨Y,bk,c,el,b1,b2,_⟩:=QS hI hb b0;refine⟨fun t s m b=> ?_,fun t s b=> ?_⟩;simp only[lA,et,akU]at b;rcases b with⟨rfl,rfl,rfl⟩|b;refine⟨B,0,_,p,k,_,by simp only[qc,lA];exact List.mem_cons_self ..,by simp,by simp[jM],Y,b2.symm,j_ _,N6 ps _,rfl,rfl,fun h=>by simp[Ux,h]⟩;rw[e1]at b;obtain⟨j,i,y,N,r,z,q1,q2,q3,q4,q5,q6,S,W,D⟩:=J t s m b
   refine⟨j,i+1,y,N,r,z,?_,by simp[q2],by simp only[jM];exact I' _ q3,q4,
    by rw[<-q5];simp[f_,l7],by omega,S,W,D.1,fun h=>by simp[Ux,D.2 h]⟩
   simp only[qc,lA,iU];rw[show i0+(i+1)=i0+1+i by omega];exact I' _ q1;simp only[et,akU]at b;simp only[lA,e1,et,akU];rcases b with⟨rfl,rfl⟩|b;exact⟨_,.inl ⟨rfl,rfl,rfl⟩⟩;obtain⟨m,e0⟩:=K t s b;exact⟨m,.inr e0⟩;cases h;cases h;cases h
 | .rd τ::ps,sv::as,vals,B,i0,r0,xs,q,bs,h,hs,R,k,hk=>by
   simp only[fl]at h;split at h;split at h;rename_i x F u H hx I;split at h;simp only[akK,akU]at h;obtain⟨_,rfl,rfl⟩:=h;obtain⟨J,K⟩:=To hI (k0:=k0) (tk:=tk) (hs':=hs') (i0:=i0+1) (vals:=vals.drop 1) I (fun i=>by have:=hs (i+1);simpa[f_,l7]using this) R k hk;refine⟨fun t s m b=> ?_,fun t s b=>K t s b⟩;obtain⟨j,i,y,N,r,z,q1,q2,q3,q4,q5,q6,S,W,D⟩:=J t s m b
   exact⟨j,i+1,y,N,r,z,by simp only[qc,lA];rw[show i0+(i+1)=i0+1+i by omega];exact q1,amg _ q2,q3,q4,
    by rw[<-q5];simp[f_,l7],q6,S,W,D⟩
   cases h;cases h;cases h
 | .vx e l::ps,.d v::as,vals,B,i0,r0,xs,q,bs,h,hs,R,k,hk=>by
   simp only[fl]at h;split at h;rename_i x F u H hx I;split at h;simp only[akK,akU]at h;obtain⟨_,rfl,rfl⟩:=h;obtain⟨J,K⟩:=To hI (k0:=k0) (tk:=tk) (hs':=hs') (i0:=i0+1) (vals:=vals.drop 1) I (fun i=>by have:=hs (i+1);simpa[f_,l7]using this) R k hk;refine⟨fun t s m b=> ?_,fun t s b=>K t s b⟩;obtain⟨j,i,y,N,r,z,q1,q2,q3,q4,q5,q6,S,W,D⟩:=J t s m b
   exact⟨j,i+1,y,N,r,z,by simp only[qc,lA];rw[show i0+(i+1)=i0+1+i by omega];exact q1,amg _ q2,q3,q4,
    by rw[<-q5];simp[f_,l7],q6,S,W,D⟩
   cases h;cases h
 | [],_::_,_,_,_,_,_,_,_,h,_,_,_,_| .val _ _::_,[],_,_,_,_,_,_,_,h,_,_,_,_| .io _ _::_,[],_,_,_,_,_,_,_,h,_,_,_,_| .rd _::_,[],_,_,_,_,_,_,_,h,_,_,_,_
 | .vx _ _::_,[],_,_,_,_,_,_,_,h,_,_,_,_=>by simp[fl]at h
 | .val _ _::_,.no::_,_,_,_,_,_,_,_,h,_,_,_,_| .val _ _::_,.box _ _::_,_,_,_,_,_,_,_,h,_,_,_,_| .val _ _::_,.ptr ..::_,_,_,_,_,_,_,_,h,_,_,_,_| .val _ _::_,.ept ..::_,_,_,_,_,_,_,_,h,_,_,_,_
 | .val _ _::_,.rdp ..::_,_,_,_,_,_,_,_,h,_,_,_,_| .val _ _::_,.tup _::_,_,_,_,_,_,_,_,h,_,_,_,_| .val _ _::_,.g ..::_,_,_,_,_,_,_,_,h,_,_,_,_=>by simp[fl]at h
 | .vx _ _::_,.no::_,_,_,_,_,_,_,_,h,_,_,_,_| .vx _ _::_,.box _ _::_,_,_,_,_,_,_,_,h,_,_,_,_| .vx _ _::_,.ptr ..::_,_,_,_,_,_,_,_,h,_,_,_,_| .vx _ _::_,.ept ..::_,_,_,_,_,_,_,_,h,_,_,_,_
 | .vx _ _::_,.rdp ..::_,_,_,_,_,_,_,_,h,_,_,_,_| .vx _ _::_,.tup _::_,_,_,_,_,_,_,_,h,_,_,_,_| .vx _ _::_,.g ..::_,_,_,_,_,_,_,_,h,_,_,_,_=>by simp[fl]at h
theorem I1{rhoT:List (Nat×Nat)}{hs':List Nat}{H:Rd}:∀ {ps:List PK} {as:List SV} {i:Nat} {r0:List (Nat×Nat)} {xs:du (ps.map PK.ty)} {b bs:List (Nat×Nat)},
 fl H ps as i r0=some (xs,b,bs)->(∀c k,(c,k)∈b->rhoT.lookup c=some k)->∀(R:du (eM ps)) (k':Nat),
 ((lA hs' ps R bs k').map (·.1)).Pairwise (·≠·)/\∀t∈(lA hs' ps R bs k').map (·.1),∃u,i<=u/\rhoT.lookup t=some u
 | [],[],i,r0,xs,b,bs,h,hr,R,k'=>by
   simp only[fl,akK,akU]at h;obtain⟨_,rfl,rfl⟩:=h;simp[lA]
 | .val τ p::ps,.d v::as,i,r0,xs,b,bs,h,hr,R,k'=>by
   simp only[fl]at h;split at h;rename_i x m j q z r;split at h;simp only[akK,akU]at h;obtain⟨_,rfl,rfl⟩:=h;obtain⟨B,y⟩:=I1 r (fun c k h=>hr c k (amg _ h)) R k';exact⟨B,fun t s=>by obtain⟨u,q1,q2⟩:=y t s;exact⟨u,amB (fa p i) q1,q2⟩⟩;cases h;cases h
 | .io τ p::ps,sv::as,i,r0,xs,b,bs,h,hr,R,k'=>by
   simp only[fl]at h;split at h;rename_i F s0 v hb;split at h;rename_i x m j q z r;split at h;simp only[akK,akU]at h;obtain⟨_,rfl,rfl⟩:=h;have n1:=fa p (i+1);have hpn:(cI p (i+1) []).2=bZ p (i+1):=rfl;obtain⟨B,y⟩:=I1 r (fun c k h=>hr c k (by simp[h])) R.2 (cI p k' hs').2;have D:=hr F i (by simp);simp only[lA,List.map_cons,anq,et];refine⟨⟨fun t s e=> ?_,B⟩,fun t s=> ?_⟩;obtain⟨u,q1,q2⟩:=y t s;rw[<-e,D]at q2;simp only[akK]at q2;omega;rcases s with rfl|s;exact⟨i,j_ _,D⟩;obtain⟨u,q1,q2⟩:=y t s;exact⟨u,by omega,q2⟩;cases h;cases h;cases h
 | .rd τ::ps,sv::as,i,r0,xs,b,bs,h,hr,R,k'=>by
   simp only[fl]at h;split at h;split at h;rename_i x m j q z r;split at h;simp only[akK,akU]at h;obtain⟨_,rfl,rfl⟩:=h;exact I1 r (fun c k h=>hr c k (amg _ h)) R k';cases h;cases h;cases h
 | .vx e l::ps,.d v::as,i,r0,xs,b,bs,h,hr,R,k'=>by
   simp only[fl]at h;split at h;rename_i x m j q z r;split at h;simp only[akK,akU]at h;obtain⟨_,rfl,rfl⟩:=h;exact I1 r (fun c k h=>hr c k (amg _ h)) R k';cases h;cases h
 | [],_::_,_,_,_,_,_,h,_,_,_| .val _ _::_,[],_,_,_,_,_,h,_,_,_| .io _ _::_,[],_,_,_,_,_,h,_,_,_| .rd _::_,[],_,_,_,_,_,h,_,_,_| .vx _ _::_,[],_,_,_,_,_,h,_,_,_=>by simp[fl]at h
 | .val _ _::_,.no::_,_,_,_,_,_,h,_,_,_| .val _ _::_,.box _ _::_,_,_,_,_,_,h,_,_,_| .val _ _::_,.ptr ..::_,_,_,_,_,_,h,_,_,_| .val _ _::_,.ept ..::_,_,_,_,_,_,h,_,_,_
 | .val _ _::_,.rdp ..::_,_,_,_,_,_,h,_,_,_| .val _ _::_,.tup _::_,_,_,_,_,_,h,_,_,_| .val _ _::_,.g ..::_,_,_,_,_,_,h,_,_,_=>by simp[fl]at h
 | .vx _ _::_,.no::_,_,_,_,_,_,h,_,_,_| .vx _ _::_,.box _ _::_,_,_,_,_,_,h,_,_,_| .vx _ _::_,.ptr ..::_,_,_,_,_,_,h,_,_,_| .vx _ _::_,.ept ..::_,_,_,_,_,_,h,_,_,_
 | .vx _ _::_,.rdp ..::_,_,_,_,_,_,h,_,_,_| .vx _ _::_,.tup _::_,_,_,_,_,_,h,_,_,_| .vx _ _::_,.g ..::_,_,_,_,_,_,h,_,_,_=>by simp[fl]at h
theorem MZ(N:Inv w0 c0 U E a w G){hs':List Nat}:∀ {ps:List PK} {as:List SV} {vals:List Value} {B i0:Nat} {r0:List (Nat×Nat)} {xs:du (ps.map PK.ty)} {m bs:List (Nat×Nat)},
 fl E.rd ps as B r0=some (xs,m,bs)->(∀i,gQ w G (as.getD i .no) (vals.getD i undef))->∀(R:du (eM ps)) (k:Nat) (j:Nat) (t s:Nat),bs[j]?=some (t,s)->
 ∃b i u y τ,(qc ps i0 B)[j]?=some (b,i0+i)/\(eM ps)[j]?=some τ/\(lA hs' ps R bs k)[j]?=some (t,s,y)/\y.τ=τ/\E.rd.box t=some (s,u)/\u.τ=τ/\vals.getD i undef=G.hdr t
 | [],[],vals,B,i0,r0,xs,m,bs,h,hs,R,k,j,t,s,hj=>by
   simp only[fl,akK,akU]at h;obtain⟨_,rfl,rfl⟩:=h;simp at hj
 | .val τ p::ps,.d v::as,vals,B,i0,r0,xs,m,bs,h,hs,R,k,j,t,s,hj=>by
   simp only[fl]at h;split at h;rename_i x D q F Y H;split at h;simp only[akK,akU]at h;obtain⟨_,rfl,rfl⟩:=h;obtain⟨b,i,u,y,I,q1,q2,q3,q4,q5,J,K⟩:=MZ N (hs':=hs') (i0:=i0+1) (vals:=vals.drop 1) H (fun i=>by have:=hs (i+1);simpa[f_,l7]using this) R k j t s hj;exact⟨b,i+1,u,y,I,by simp only[qc];rw[show i0+(i+1)=i0+1+i by omega];exact q1,q2,q3,q4,q5,J,by rw[<-K];simp[f_,l7]⟩;cases h;cases h
 | .io τ p::ps,sv::as,vals,B,i0,r0,xs,m,bs,h,hs,R,k,j,t,s,hj=>by
   simp only[fl]at h;split at h;rename_i t0 s0 v z;split at h;rename_i x D q F Y H;split at h;simp only[akK,akU]at h;obtain⟨_,rfl,rfl⟩:=h;have S:=hs 0;simp only[W_]at S;obtain⟨hslot,bk,c,el,b1,b2,_⟩:=QS N z S
   have W:E.rd.box t0=some (s0,v):=by
    unfold KB at z;split at z;rw[N_]at z;obtain⟨r,hr,z⟩:=z;simp only[akU]at z;obtain⟨rfl,rfl,rfl⟩:=z;exact hr;cases z
   have hτ:v.τ=τ:=by
    have e:=mR Y;rw[e]
   cases j with
   |zero=>
    simp only[ani,akK,akU]at hj;obtain⟨rfl,rfl⟩:=hj;exact⟨B,0,v,⟨τ,R.1,(cI p k hs').1⟩,τ,by simp[qc],by simp[eM],by simp only[lA,ani],rfl,W,hτ,b2.symm⟩
   |succ j=>
    simp only[amN]at hj;obtain⟨b,i,u,y,I,q1,q2,q3,q4,q5,J,K⟩:=MZ N (hs':=hs') (i0:=i0+1) (vals:=vals.drop 1) H (fun i=>by have:=hs (i+1);simpa[f_,l7]using this) R.2 (cI p k hs').2 j t s hj
    exact⟨b,i+1,u,y,I,by simp only[qc,amN];rw[show i0+(i+1)=i0+1+i by omega];exact q1,by simp only[eM,amN];exact q2,
     by simp only[lA,amN];exact q3,q4,q5,J,by rw[<-K];simp[f_,l7]⟩
   cases h;cases h;cases h
 | .rd τ::ps,sv::as,vals,B,i0,r0,xs,m,bs,h,hs,R,k,j,t,s,hj=>by
   simp only[fl]at h;split at h;split at h;rename_i x D q F Y H;split at h;simp only[akK,akU]at h;obtain⟨_,rfl,rfl⟩:=h;obtain⟨b,i,u,y,I,q1,q2,q3,q4,q5,J,K⟩:=MZ N (hs':=hs') (i0:=i0+1) (vals:=vals.drop 1) H (fun i=>by have:=hs (i+1);simpa[f_,l7]using this) R k j t s hj;exact⟨b,i+1,u,y,I,by simp only[qc];rw[show i0+(i+1)=i0+1+i by omega];exact q1,q2,q3,q4,q5,J,by rw[<-K];simp[f_,l7]⟩;cases h;cases h;cases h
 | .vx e l::ps,.d v::as,vals,B,i0,r0,xs,m,bs,h,hs,R,k,j,t,s,hj=>by
   simp only[fl]at h;split at h;rename_i x D q F Y H;split at h;simp only[akK,akU]at h;obtain⟨_,rfl,rfl⟩:=h;obtain⟨b,i,u,y,I,q1,q2,q3,q4,q5,J,K⟩:=MZ N (hs':=hs') (i0:=i0+1) (vals:=vals.drop 1) H (fun i=>by have:=hs (i+1);simpa[f_,l7]using this) R k j t s hj;exact⟨b,i+1,u,y,I,by simp only[qc];rw[show i0+(i+1)=i0+1+i by omega];exact q1,q2,q3,q4,q5,J,by rw[<-K];simp[f_,l7]⟩;cases h;cases h
 | [],_::_,_,_,_,_,_,_,_,h,_,_,_,_,_,_,_| .val _ _::_,[],_,_,_,_,_,_,_,h,_,_,_,_,_,_,_| .io _ _::_,[],_,_,_,_,_,_,_,h,_,_,_,_,_,_,_| .rd _::_,[],_,_,_,_,_,_,_,h,_,_,_,_,_,_,_
 | .vx _ _::_,[],_,_,_,_,_,_,_,h,_,_,_,_,_,_,_=>by simp[fl]at h
 | .val _ _::_,.no::_,_,_,_,_,_,_,_,h,_,_,_,_,_,_,_| .val _ _::_,.box _ _::_,_,_,_,_,_,_,_,h,_,_,_,_,_,_,_| .val _ _::_,.ptr ..::_,_,_,_,_,_,_,_,h,_,_,_,_,_,_,_
 | .val _ _::_,.ept ..::_,_,_,_,_,_,_,_,h,_,_,_,_,_,_,_| .val _ _::_,.rdp ..::_,_,_,_,_,_,_,_,h,_,_,_,_,_,_,_| .val _ _::_,.tup _::_,_,_,_,_,_,_,_,h,_,_,_,_,_,_,_
 | .val _ _::_,.g ..::_,_,_,_,_,_,_,_,h,_,_,_,_,_,_,_| .vx _ _::_,.no::_,_,_,_,_,_,_,_,h,_,_,_,_,_,_,_| .vx _ _::_,.box _ _::_,_,_,_,_,_,_,_,h,_,_,_,_,_,_,_
 | .vx _ _::_,.ptr ..::_,_,_,_,_,_,_,_,h,_,_,_,_,_,_,_| .vx _ _::_,.ept ..::_,_,_,_,_,_,_,_,h,_,_,_,_,_,_,_| .vx _ _::_,.rdp ..::_,_,_,_,_,_,_,_,h,_,_,_,_,_,_,_
 | .vx _ _::_,.tup _::_,_,_,_,_,_,_,_,h,_,_,_,_,_,_,_| .vx _ _::_,.g ..::_,_,_,_,_,_,_,_,h,_,_,_,_,_,_,_=>by simp[fl]at h
theorem L9:∀ {τ:Ty} {x:τ.den} {sh:Sh} {cs:List Value} {p:List Bool} {t:Nat},dJ w G τ x sh cs->DG sh p=some t->cs[τ.off p]?=some (G.hdr t)/\4<=t/\t∈sh.bc
 | .sl e,l,.sl (.row u hs nd),cs,[],t,h,hr=>by
   simp only[DG,akK]at hr;subst hr;obtain⟨v,rfl,j,k,_⟩:=h;exact⟨by simp[Ty.off,k],j,by simp[Sh.bc,M.bc]⟩
 | .pair a b,x,.pair s1 s2,cs,false::p,t,h,hr=>by
   obtain⟨c,m,rfl,d,i⟩:=h;simp only[DG]at hr;obtain⟨q1,q2,q3⟩:=L9 d hr;refine⟨?_,q2,by simp[Sh.bc,q3]⟩;simp only[Ty.off];rw[List.getElem?_append_left];exact q1;rcases Nat.lt_or_ge (a.off p) c.length with h|h;exact h;rw[amK h]at q1;cases q1
 | .pair a b,x,.pair s1 s2,cs,true::p,t,h,hr=>by
   obtain⟨c,m,rfl,d,i⟩:=h;simp only[DG]at hr;obtain⟨q1,q2,q3⟩:=L9 i hr;refine⟨?_,q2,by simp[Sh.bc,q3]⟩;have hl:c.length=a.sz:=dJ.len d;simp only[Ty.off];rw[List.getElem?_append_right (by omega),show a.sz+b.off p-c.length=b.off p by omega];exact q1
 | .int _,_,.sl _,_,_,_,h,_| .bool,_,.sl _,_,_,_,h,_| .str,_,.sl _,_,_,_,h,_| .pair _ _,_,.sl _,_,_,_,h,_| .int _,_,.pair _ _,_,_,_,h,_| .bool,_,.pair _ _,_,_,_,h,_
 | .str,_,.pair _ _,_,_,_,h,_| .sl _,_,.pair _ _,_,_,_,h,_=>h.elim
 |_,_,.leaf,_,_,_,_,h=>by simp[DG]at h
 |_,_,.sl (.sha _),_,_,_,_,h|_,_,.sl .dead,_,_,_,_,h=>by simp[DG]at h
 |_,_,.sl (.row _ _ _),_,_::_,_,_,h=>by simp[DG]at h
 |_,_,.pair _ _,_,[],_,_,h=>by simp[DG]at h
end
theorem aaJ:∀ {L:List SV} {b:List TV},LN L=some b->L.length=b.length/\∀i v,b[i]?=some v->L.getD i .no= .d v
 | [],b,h=>by simp only[LN,akK]at h;subst h;simp
 | .d v::L,b,h=>by
   simp only[LN,N_]at h;obtain⟨vs',j,rfl⟩:=h;obtain⟨k,l⟩:=aaJ j;refine⟨by simp[k],fun i e c=> ?_⟩;cases i with
   |zero=>simp at c|-;exact c
   |succ i=>simp at c;simpa using l i e c
 | .no::_,_,h| .box _ _::_,_,h| .ptr ..::_,_,h| .ept ..::_,_,h| .rdp ..::_,_,h| .tup _::_,_,h| .g ..::_,_,h=>by simp[LN]at h
theorem aaw:∀ {L:List SV} {c:List TV},LN L=some c->∀v∈c,SV.d v∈L
 | [],c,h,v,b=>by simp only[LN,akK]at h;subst h;simp at b
 | .d u::L,c,h,v,b=>by
   simp only[LN,N_]at h;obtain⟨vs',e,rfl⟩:=h;simp only[et]at b;rcases b with rfl|b;simp;exact I' _ (aaw e v b)
 | .no::_,_,h,_,_| .box _ _::_,_,h,_,_| .ptr ..::_,_,h,_,_| .ept ..::_,_,h,_,_| .rdp ..::_,_,h,_,_| .tup _::_,_,h,_,_| .g ..::_,_,h,_,_=>by simp[LN]at h
section
variable{P:Program}{C:Cx}{w0:World}{c0:C0}{U:Nat->Prop}{E:Env}{a:Act}{w:World}{G:Gh}{ops:List Oper}{g:Option (Nat×Bool)}
def Xv(L:List SV):(∃sv,L=[sv]/\GM L=sv)\/(∀sv,L≠ [sv])/\((∃b,LN L=some b/\GM L= .tup b)\/GM L= .no):=by
 match L with
 | [sv]=>exact .inl ⟨sv,rfl,rfl⟩
 | []=>exact .inr ⟨by simp,.inl ⟨[],rfl,rfl⟩⟩
 |x::y::l=>
  refine .inr ⟨by simp,?_⟩;cases h:LN (x::y::l)with
  |none=>right;simp[GM,h]
  |some b=>left;exact⟨b,rfl,by simp[GM,h]⟩
def ahP{b:List Value}(h:∀v,b≠ [v]):Rg b= .tuple b.toArray:=by
 match b,h with
 | [],_=>rfl
 | [v],h=>exact absurd rfl (h v)
 |_::_::_,_=>rfl
def aiM{L:List SV}{b:List Value}(d:b.length=L.length)(h:∀i,gQ w G (L.getD i .no) (b.getD i undef)):gQ w G (GM L) (Rg b):=by
 rcases Xv L with⟨sv,rfl,e⟩|⟨m,⟨ts,p,e⟩|e⟩;rw[e];have:=h 0
 match b,d with
 | [v],_=>simpa[Rg]using this
 rw[e,ahP (fun v l=>by
  subst l;simp only[anl]at d
  match L,d with
  | [sv],_=>exact m sv rfl)]
 obtain⟨g1,q⟩:=aaJ p;refine⟨b,rfl,by omega,fun i v j=> ?_⟩;have hs:=h i;rw[q i v j]at hs;obtain⟨r,k,s⟩:=hs
 have c:i<b.length:=by
  have:=(amV.1 j).1;omega
 rw[f_,ali c]at k;exact⟨_,r,ali c,k,s⟩;rw[e];trivial
def agc{L:List SV}(h:∀sv∈L,dH U G sv):dH U G (GM L):=by
 rcases Xv L with⟨sv,rfl,e⟩|⟨_,⟨ts,b,e⟩|e⟩;rw[e];exact h sv (by simp);rw[e];refine⟨fun c hc=> ?_,by simp[SV.bt],by simp[SV.rt]⟩;simp only[SV.sc,amM]at hc;obtain⟨v,d,hc⟩:=hc;exact(h _ (aaw b v d)).1 c hc;rw[e];simp[dH,SV.sc,SV.bt,SV.rt]
def LY(G c G':Gh)(n k0 tk:Nat)(d:List Nat):Gh:=
 ⟨fun b=>if 4<=G'.col b then(if k0<=G'.col b/\G'.col b<k0+32 then tk+(G'.col b-k0)else if b<n then G.col b else 0)
  else if G'.col b=2 then 2 else if G'.col b=1\/G'.col b=3 then G.col b else if b<n/\c.col b=0 then G.col b else 0,
  fun u=>if tk<=u/\u<tk+32 then G'.hdr (k0+(u-tk))else G.hdr u,
  fun u=>if tk<=u/\u<tk+32 then d.contains u else G.bx u⟩
def afA(G c G':Gh)(n k0 tk:Nat)(d:List Nat)(b:Nat):
 (k0<=G'.col b/\G'.col b<k0+32/\4<=G'.col b/\(LY G c G' n k0 tk d).col b=tk+(G'.col b-k0))\/
 (4<=G'.col b/\b<n/\(LY G c G' n k0 tk d).col b=G.col b/\¬(k0<=G'.col b/\G'.col b<k0+32))\/
 (4<=G'.col b/\(LY G c G' n k0 tk d).col b=0)\/(G'.col b=2/\(LY G c G' n k0 tk d).col b=2)\/((G'.col b=1\/G'.col b=3)/\(LY G c G' n k0 tk d).col b=G.col b)\/
 (G'.col b=0/\b<n/\c.col b=0/\(LY G c G' n k0 tk d).col b=G.col b)\/(G'.col b=0/\(LY G c G' n k0 tk d).col b=0/\¬(b<n/\c.col b=0)):=by
 simp only[LY];by_cases j:4<=G'.col b;simp only[j,if_true,true_and];by_cases h:k0<=G'.col b/\G'.col b<k0+32;simp only[h,and_self,if_true];left;trivial;simp only[h,if_false];by_cases e:b<n;right;left;simp[e];right;right;left;simp[e];simp only[j,if_false,false_and,and_false,false_or];by_cases l:G'.col b=2;simp[l];by_cases i:G'.col b=1\/G'.col b=3;rcases i with i|i<;>simp[i];have k:G'.col b=0:=by omega
 have h1':¬(0=1\/0=3):=by omega
 by_cases e:b<n/\c.col b=0;simp[k,e];simp[k,e]
def akW(B:Inv w0 c0 U E a w G){con:BJ}{as:List SV}{vals:List Value}{xs:du (con.ps.map PK.ty)}{I bs:List (Nat×Nat)}
 (L0:abC con.ps con.rs=true) (hg:fl E.rd con.ps as 4 []=some (xs,I,bs)) (hs:∀i,gQ w G (as.getD i .no) (vals.getD i undef)/\dH U G (as.getD i .no)) (hr:V8 I=true)
 {Y:Gh} (w2:∀b,Y.col b=(I.lookup (G.col b)).getD 0) {y:du (con.rs.map RK.ty++eM con.ps)} {mv:Value} {w':World} {G':Gh} {vs:List Value} {nt:Nat} (D:QB con w Y vals y mv w' G' vs nt)
 {tk:Nat} (h3:4<=tk) (hU:∀u,tk<=u->u<tk+32->¬U u) (h32:LQ con.ps (nu con.rs 0)<=32) {hs' j:List Nat}
 (w1:hs'=(2::(I.filter (·.2=1)).map (·.1)).eraseDups) (R0:j=((I.filter (4<=·.2)).map (·.1)).filter fun c=> !bs.any (·.1=c)):
 ∃G2,Inv w0 c0 (fun u=>U u\/(tk<=u/\u<tk+32)) {E.kill j with s:=fB (lA hs' con.ps (dE con.rs (eM con.ps) y tk hs').2.1 bs (dE con.rs (eM con.ps) y tk hs').2.2) (E.kill j).s} a w' G2/\
  gQ w' G2 (GM (dE con.rs (eM con.ps) y tk hs').1) mv/\dH (fun u=>U u\/(tk<=u/\u<tk+32)) G2 (GM (dE con.rs (eM con.ps) y tk hs').1)/\
  (∀t u,GM (dE con.rs (eM con.ps) y tk hs').1= .box t u->∀s u',
   (fB (lA hs' con.ps (dE con.rs (eM con.ps) y tk hs').2.1 bs (dE con.rs (eM con.ps) y tk hs').2.2) (E.kill j).s).getD s .no≠ .box t u')/\
  (∀u u',(u,u')∈R9 E.rd bs (lA hs' con.ps (dE con.rs (eM con.ps) y tk hs').2.1 bs (dE con.rs (eM con.ps) y tk hs').2.2) con.kp->
   G2.hdr u'=G.hdr u/\4<=u'/\Good (fun u=>U u\/(tk<=u/\u<tk+32)) G2 u')/\
  (∀t s v,(t,s,v)∈lA hs' con.ps (dE con.rs (eM con.ps) y tk hs').2.1 bs (dE con.rs (eM con.ps) y tk hs').2.2->∃v0,E.s.getD s .no= .box t v0):=by
 obtain⟨hl,_,o2⟩:=Mk B hg hs (j_ _);have y2:∀c k,(c,k)∈I->aby U G con.ps 4 bs c k:=fun c k h=>(o2 c k h).resolve_right (by simp);have A2:=vt con.ps 4;generalize hk:fV con.ps 4=k0 at A2
 have o0:∀c k,(c,k)∈I->(k=1/\0<c/\U c/\(G.bx c=false\/Yg con.ps=true))\/(4<=k/\k<k0/\4<=c/\((Good U G c/\k∉jM con.ps 4)\/(k∈jM con.ps 4/\U c/\G.bx c=true/\∃s,(c,s)∈bs)))\/(c=3/\k=3):=by
  intro c k h;have:=y2 c k h;rw[<-hk];exact this
 generalize W:LY G Y G' w.heap.size k0 tk (zr con.rs tk)=G2;have J:=fun b=>afA G Y G' w.heap.size k0 tk (zr con.rs tk) b;rw[W]at J;have E1:=Ua (w':=w') (G':=G') (G2:=G2) (k0:=k0) (n:=k0+32) h3 (rs:=con.rs) (rest:=eM con.ps) (y:=y) (k:=k0) (j_ _) hs';simp only[anf,ang]at E1;obtain⟨b3,c3,k3,l3,n3,p2⟩:=E1;have F1:nu con.rs k0=nu con.rs 0+k0:=by have:=Oa con.rs 0 k0;rwa [amW]at this
 have hnt2:LQ con.ps (nu con.rs k0)=LQ con.ps (nu con.rs 0)+k0:=by rw[F1];exact TM _ _ _
 have hge1:=N6 con.ps (nu con.rs k0);have J1:=GK con.rs k0;have b1:∀u,U u->¬(tk<=u/\u<tk+32):=fun u S h=>hU u h.1 h.2 S;have l1:∀u,U u->G2.hdr u=G.hdr u:=fun u S=>by rw[<-W];exact a_ (b1 u S)
 have b0:∀u,U u->G2.bx u=G.bx u:=fun u S=>by rw[<-W];exact a_ (b1 u S)
 have K:∀b,(Y.col b=0)\/(Y.col b=1/\(G.col b,1)∈I)\/(4<=Y.col b/\Y.col b<k0/\(G.col b,Y.col b)∈I/\4<=G.col b)\/(Y.col b=3/\G.col b=3):=by
  intro b;rw[w2 b];cases hq:I.lookup (G.col b)with
  |none=>left;simp
  |some k=>
   simp only[amo];have hm:=vO hq;rcases o0 _ _ hm with⟨rfl,_⟩|⟨q1,q2,q3,_⟩|⟨q1,q2⟩
   ·exact .inr (.inl ⟨rfl,hm⟩)
   ·exact .inr (.inr (.inl ⟨q1,q2,hm,q3⟩))
   ·exact .inr (.inr (.inr ⟨q2,q1⟩))
 have n1:afP G' G2 k0 (k0+32) tk hs':=by
  refine⟨fun u S hu2=>⟨?_,fun b m=> ?_⟩,fun b m=> ?_,fun b m=> ?_,fun e=> ?_⟩
  rotate_right
  ·have l:2∈hs':=by rw[w1,amP];simp
   rw[e]at l;simp at l
  ·rw[<-W];simp only[LY];rw[an (by omega)];congr 1;omega
  ·rcases J b with⟨_,_,_,h⟩|⟨q1,q2,q3,q4⟩|⟨q1,q2⟩|h|h|h|h
   ·rw[h,m]
   ·omega
   ·rw[<-W];simp only[LY];rw[an q1,an (by omega),m]
   ·omega
   ·omega
   ·omega
   ·omega
  ·rw[w1,amP];simp only[et,amj,or_false]at m;rcases m with m|m
   ·have:G2.col b=2:=by
     rcases J b with h|h|h|h|h|h|h<;>omega
    simp[this]
   ·have F:=(D.one b (.inl m)).2
    have:G2.col b=G.col b:=by
     rcases J b with h|h|h|h|h|h|h<;>omega
    rw[this];rcases K b with h|⟨_,h⟩|h|h
    ·omega
    ·refine I' _ (G8.2 ⟨(G.col b,1),?_,rfl⟩);simp[h]
    ·omega
    ·omega
  ·have F:=(D.one b (.inr m)).2;rcases K b with h|h|h|h
   ·omega
   ·omega
   ·omega
   ·rcases J b with h'|h'|h'|h'|h'|h'|h'<;>omega
 have B2:∀c,c∈j->Good U G c/\4<=c/\∀s,(c,s)∉bs:=by
  intro c hc;rw[R0]at hc;simp only[amr,G8,ami,ans,b_]at hc;obtain⟨⟨⟨c',k⟩,⟨F,l⟩,rfl⟩,h4⟩:=hc;have T1:∀s,(c',s)∉bs:=fun s h=>h4 (c',s) h rfl;rcases o0 _ _ F with⟨rfl,_⟩|⟨_,_,h5,⟨h6,_⟩|⟨_,_,_,s,h6⟩⟩|⟨_,rfl⟩
  rotate_right
  ·simp at l
  ·simp at l
  ·exact⟨h6,h5,T1⟩
  ·exact absurd h6 (T1 s)
 have E0:∀b,4<=Y.col b->G.col b∈j\/∃s,(G.col b,s)∈bs:=by
  intro b m;rcases K b with h|⟨h,_⟩|⟨_,_,h,_⟩|⟨h,_⟩
  rotate_right
  ·omega
  ·omega
  ·omega
  ·by_cases p0:∃s,(G.col b,s)∈bs
   ·exact .inr p0
   ·left;rw[R0];simp only[amr,G8,ami,ans,b_];refine⟨⟨(G.col b,Y.col b),⟨h,m⟩,rfl⟩,fun p D e=>p0 ⟨p.2,?_⟩⟩;rw[<-e];exact D
 obtain⟨N,x0⟩:=To B (k0:=k0) (tk:=tk) (hs':=hs') (i0:=0) hg (fun i=>(hs i).1) (dE con.rs (eM con.ps) y k0 [2,1]).2.1 (nu con.rs k0) J1;have W1:=(I1 (hs':=hs') (rhoT:=I) hg (fun c k h=>TH hr h) (dE con.rs (eM con.ps) y k0 [2,1]).2.1 (tk+(nu con.rs k0-k0))).1;rw[b3,c3];generalize C2:lA hs' con.ps (dE con.rs (eM con.ps) y k0 [2,1]).2.1 bs (tk+(nu con.rs k0-k0))=Io2 at N x0 W1|-
 have p0:∀t s,(t,s)∈bs->∃v0,E.s.getD s .no= .box t v0:=by
  intro t s h;obtain⟨v2,l⟩:=x0 t s h;obtain⟨h0,i,v1,p,k1,v0,_,_,_,q4,_⟩:=N t s v2 l;exact⟨v0,q4⟩
 have hK:=B.kill j;have hD:=hK.aeL Io2
 have r0:∀s,(uN Io2 (E.kill j).s).getD s .no=(E.kill j).s.getD s .no\/(uN Io2 (E.kill j).s).getD s .no= .no:=by
  intro s;by_cases h:∃t v,(t,s,v)∈Io2
  ·exact .inr (NI Io2 _ s h).1
  ·exact .inl (LL Io2 _ s (fun t v hh=>h ⟨t,v,hh⟩))
 have D2:∀s,∀c∈((uN Io2 (E.kill j).s).getD s .no).hc,c∉j++bs.map (·.1):=by
  intro s c hc x
  have E2:(uN Io2 (E.kill j).s).getD s .no=(E.kill j).s.getD s .no:=by
   rcases r0 s with h|h
   ·exact h
   ·rw[h]at hc;simp[SV.hc,SV.sc]at hc
  have F2:∀t v,(t,s,v)∉Io2:=by
   intro t v h;have:=(NI Io2 (E.kill j).s s ⟨t,v,h⟩).1;rw[this]at hc;simp[SV.hc,SV.sc]at hc
  rw[E2]at hc
  have o1:c∈((E.kill j).s.getD s .no).sc->False:=by
   intro h;rcases e8.1 x with l|l
   ·exact(Env.Te E j s c h).2 l
   ·simp only[G8]at l;obtain⟨⟨t,s2⟩,l,rfl⟩:=l;obtain⟨v0,h4⟩:=p0 t s2 l;have h5:=B.bt s2 t (by rw[h4];simp[SV.bt]);have h6:=hK.sc s t h;rw[h6.2.2]at h5;simp at h5
  cases H:(E.kill j).s.getD s .no with
  |box t v=>
   rw[H]at hc;rcases et.1 hc with rfl|hc
   ·have h5:=hK.bt s c (by rw[H];simp[SV.bt]);rcases e8.1 x with l|l
    ·rw[(B2 c l).1.2.2]at h5;simp at h5
    ·simp only[G8]at l;obtain⟨⟨t,s2⟩,l,rfl⟩:=l;obtain⟨v2,h7⟩:=x0 t s2 l;obtain⟨v0,h4⟩:=p0 t s2 l
     have h8:∃v',E.s.getD s .no= .box t v':=by
      rw[Env.UJ]at H;split at H
      ·exact⟨v,H⟩
      ·exact TF H
     obtain⟨v',h8⟩:=h8;have:=B.uni s s2 t v' v0 h8 h4;subst this;exact F2 t v2 h7
   ·exact o1 (by rw[H];exact hc)
  |_=>rw[H]at hc;exact o1 (by rw[H];exact hc)
 have x1:∀b,0<G.col b->G.col b∉j++bs.map (·.1)->w'.heap[b]?=w.heap[b]?/\G2.col b=G.col b:=by
  intro b m hn;have s0:=B.lt b m
  have F:Y.col b<4:=by
   rcases Nat.lt_or_ge (Y.col b) 4 with h|h
   ·exact h
   ·exfalso;rcases E0 b h with h|⟨s,h⟩
    ·exact hn (amS _ h)
    ·exact hn (amg _ (G8.2 ⟨_,h,rfl⟩))
  have hf:=D.frame b s0 F;refine⟨hf.2,?_⟩;have l:Y.col b≠2:=by rcases K b with h|h|h|h<;>omega
  rcases J b with h|h|h|h|h|h|h<;>omega
 have G0:∀b,b<w0.heap.size->c0.col b<4->G2.col b=c0.col b/\w'.heap[b]?=w0.heap[b]?:=by
  intro b m hc;have hf:=B.frame b m hc;have s0:b<w.heap.size:=am5 m B.size;have F:Y.col b<4/\Y.col b≠2:=by rcases K b with h|h|h|h<;>omega
  have H2:=D.frame b s0 F.1;refine⟨?_,H2.2.trans hf.2⟩;rw[<-hf.1];rcases J b with h|h|h|h|h|h|h<;>omega
 have hC:=hD.change (U':=fun u=>U u\/(tk<=u/\u<tk+32)) (w':=w') (G':=G2) D2 x1 (fun t ht=>⟨l1 t ht,b0 t ht⟩) (fun c hc=> .inl hc)
  (fun b m=>by
   rcases J b with h|⟨_,_,h,_⟩|h|⟨_,h⟩|⟨_,h⟩|⟨_,_,_,h⟩|h
   ·right;omega
   ·rw[h]at m|-;exact .inl (B.colU b m)
   ·omega
   ·rw[h];exact .inl B.two.1.1
   ·rw[h]at m|-;exact .inl (B.colU b m)
   ·rw[h]at m|-;exact .inl (B.colU b m)
   ·omega)
  (fun b m=>by
   rcases J b with h|h|h|h|h|h|h
   ·exact D.lt b (by omega)
   ·exact D.lt b (by omega)
   ·exact D.lt b (by omega)
   ·exact D.lt b (by omega)
   ·exact D.lt b (by omega)
   ·exact am5 h.2.1 D.size
   ·omega)
  (fun b m=>by
   rcases J b with h|h|h|h|h|h|h
   ·exact D.fresh b (by omega)
   ·exact D.fresh b (by omega)
   ·exact D.fresh b (by omega)
   ·omega
   ·have F:=D.one b h.1;rw[(D.frame b F.1 (by omega)).2];exact B.fresh b (by omega)
   ·rw[(D.frame b h.2.1 (by omega)).2];exact B.fresh b (by omega)
   ·omega)
  G0
  (fun b m=>by
   rcases J b with h|h|h|h|h|h|h<;>omega)
  D.size D.os D.tape D.output
 have e0:((con.rs.any fun r=>r.pt.NF)=true\/Ux con.ps=true)->∀c∈hs',Good (fun u=>U u\/(tk<=u/\u<tk+32)) G2 c:=by
  intro u2 c hc
  have J2:Yg con.ps=false:=by
   simp only[abC,y_,am2,ami,Bool.or_eq_false_iff]at L0;rcases L0.2 with h|⟨F,l⟩
   ·exact h
   ·rcases u2 with h|h
    ·rw[h]at F;cases F
    ·rw[h]at l;cases l
  rw[w1,amP,et]at hc;rcases hc with rfl|hc
  ·exact⟨by omega,.inl B.two.1.1,(b0 2 B.two.1.1).trans B.two.1.2⟩
  ·simp only[G8,amr,b_]at hc;obtain⟨⟨c',k⟩,⟨F,l⟩,rfl⟩:=hc;simp only at l;subst l;rcases o0 _ _ F with⟨_,q1,q2,q3⟩|h|h
   ·exact⟨q1,.inl q2,(b0 c' q2).trans (q3.resolve_right (by simp[J2]))⟩
   ·omega
   ·omega
 have b2:Good (fun u=>U u\/(tk<=u/\u<tk+32)) G2 3:=⟨by omega,.inl B.two.2.1,(b0 3 B.two.2.1).trans B.two.2.2⟩
 have j0:∀c∈zr con.rs tk,tk<=c/\c<tk+(nu con.rs k0-k0):=by
  intro c hc;have F:=O4 c hc;have l:=Oa con.rs 0 tk;rw[amW]at l;omega
 have p1:∀t s v,(t,s,v)∈Io2->gQ w' G2 (.box t v) (a.tmps.getD s undef)/\dH (fun u=>U u\/(tk<=u/\u<tk+32)) G2 (.box t v):=by
  rintro t s ⟨τ2,x2,sh2⟩ x;obtain⟨h0,i,v1,p,k1,v0,q1,q2,q3,q4,q5,q6,q7,rfl,q9,o3⟩:=N t s _ x;simp only at q9;subst q9
  have c2:=D.ios h0 i ⟨τ2,x2,(cI p k1 [2,1]).1⟩ (by
   rw[hk,k3];rw[amW]at q1;exact q1)
  obtain⟨bk,c,el,e1,e2,e3,e4,e5,e6⟩:=c2;have u0:=B.slots s;rw[q4]at u0;obtain⟨B1,c',el',f1,f2,f3,f4,_⟩:=u0;rw[q5,f3,f1]at e1;simp only[Value.pointer.injEq,akK,Addr.mk.injEq,and_true]at e1;subst e1;have T2:=om h0 q3;rw[hk]at T2;have y1:=(B.bt s t (by rw[q4];simp[SV.bt])).2.1;have s0:=B.lt B1 (by omega);refine⟨⟨B1,c,el,f1,f2,(l1 t y1).trans f3,?_,e5,?_⟩,fun d hd=> ?_,fun d hd=> ?_,by simp[SV.rt]⟩
  ·rw[<-W];simp only[LY];rw[an (by omega),a_ (by omega),an s0];exact f4
  ·exact WZ n1 h3 (by omega) (by omega) e6
  ·rcases Ee d hd with h|⟨F,l⟩|rfl
   ·exact e0 (.inr (o3 h.2)) d h.1
   rotate_left
   ·exact b2
   ·have e7:bZ p (tk+(k1-k0))=tk+(bZ p k1-k0):=by
     rw[show tk+(k1-k0)=(k1-k0)+tk by omega,oF];have:=oF p (k1-k0) k0;rw[show k1-k0+k0=k1 by omega]at this;have:=fa p k1;omega
    have h5:d<tk+32:=by omega
    refine⟨by omega,.inr ⟨by omega,h5⟩,?_⟩;rw[<-W];simp only[LY];rw[an (by omega)];simp only[F_,d_];intro D1;have:=j0 d D1;omega
  ·simp only[SV.bt,amI]at hd;subst hd;have h:=B.bt s d (by rw[q4];simp[SV.bt]);exact⟨h.1,.inl h.2.1,(b0 d h.2.1).trans h.2.2⟩
 have X2:∀ {s t v},(E.kill j).s.getD s .no= .box t v->∃v',E.s.getD s .no= .box t v':=by
  intro s t v h;rw[Env.UJ]at h;split at h
  ·exact⟨v,h⟩
  ·exact TF h
 have hF:=hC.agw Io2 p1 W1 (fun t s v x s' u he=>by
  obtain⟨h0,i,v1,p,k1,v0,_,_,_,q4,_⟩:=N t s v x
  have F:(E.kill j).s.getD s' .no= .box t u:=by
   rcases r0 s' with h|h
   ·exact h.symm.trans he
   ·have:SV.no= .box t u:=h.symm.trans he;cases this
  obtain⟨v',l⟩:=X2 F;have:=B.uni s' s t v' v0 l q4;subst this;have h3:SV.no= .box t u:=(NI Io2 (E.kill j).s s' ⟨t,v,x⟩).1.symm.trans he;cases h3)
 simp only[ah3]at hF;have k2:=n3 n1 (by omega) vs (fun i=>by have:=D.res i;rw[hk]at this;exact this)
 have z1:∀u u',(u,u')∈R9 E.rd bs Io2 con.kp->G2.hdr u'=G.hdr u/\4<=u'/\Good (fun u=>U u\/(tk<=u/\u<tk+32)) G2 u':=by
  intro u u' S;unfold R9 at S;simp only[anr]at S;obtain⟨q,hq,S⟩:=S;split at S
  ·rename_i b z m hz;split at S
   ·rename_i rr u1;split at S
    ·rename_i a1 a2 e1 e2;simp only[akK,akU]at S;obtain⟨rfl,rfl⟩:=S;obtain⟨h0,i,v0,v2,τ,g1,g2,g3,g4,g5,g6,g7⟩:=MZ B (hs':=hs') (i0:=0) hg (fun i=>(hs i).1) (dE con.rs (eM con.ps) y k0 [2,1]).2.1 (tk+(nu con.rs k0-k0)) q.1 b.1 b.2 m;rw[C2]at g3;rw[hz]at g3;simp only[akK]at g3;subst g3;rw[g5]at u1;simp only[akK]at u1;subst u1;have l2:=amD hz;have n2:=p1 b.1 b.2 v2 l2;obtain⟨F,bk,c,el,f1,f2,f3,f4,f5⟩:=B.box g5;have u0:=B.slots b.2;rw[F]at u0;obtain⟨B1,p3,r3,C1,k2',s3,k4',u3,w3⟩:=u0;obtain⟨x3,c1,B3,j1,j2,j3,j4,j5,j6⟩:=n2.1;rw[j1]at C1;simp only[Value.pointer.injEq,akK,Addr.mk.injEq,and_true]at C1;subst C1;have r1:=L9 w3 e1;have r2:=L9 j6 e2;have A1:=D.kept q hq h0 (0+i) τ g1 g2 x3 p3 r3 c1 B3 (by rw[amW,g7,s3,j1]) u3 j5;rw[g4]at r2;simp only[g6]at r1;rw[r1.1,r2.1]at A1;simp only[akK]at A1;exact⟨A1,r2.2.1,n2.2.1 _ r2.2.2⟩
    ·cases S
   ·cases S
  ·cases S
 refine⟨G2,hF,?_,?_,fun t u he s u' n0=> ?_,z1,fun t s v x=> ?_⟩
 rotate_right
 ·obtain⟨h0,i,v1,p,k1,v0,_,_,_,q4,_⟩:=N t s v x;exact⟨v0,q4⟩
 ·rw[D.val];exact aiM (by rw[D.len,l3]) k2
 ·refine agc (fun sv H=> ?_);obtain⟨F,l,h4⟩:=p2 sv H;refine⟨fun c hc=> ?_,fun c hc=> ?_,by rw[h4];simp⟩
  ·rcases F c hc with(h|rfl)|⟨q1,q2,q3⟩
   ·exact e0 (.inl h.2) c h.1
   ·exact b2
   ·refine⟨by omega,.inr ⟨q1,by omega⟩,?_⟩;rw[<-W];simp only[LY];rw[an (by omega)];simpa using q3
  ·have m:=j0 c (l c hc);refine⟨by omega,.inr ⟨m.1,by omega⟩,?_⟩;rw[<-W];simp only[LY];rw[an (by omega)];simpa using l c hc
 ·have ht:t∈zr con.rs tk:=by
   rcases Xv (dE con.rs (eM con.ps) y tk hs').1 with⟨sv,hL,e⟩|⟨_,⟨ts,_,e⟩|e⟩
   ·rw[e]at he;subst he;exact(p2 (.box t u) (by rw[hL];simp)).2.1 t (by simp[SV.bt])
   ·rw[e]at he;cases he
   ·rw[e]at he;cases he
  have m:=j0 t ht
  have y1:U t:=by
   rcases QY Io2 (E.kill j).s s with h|⟨t',v',F,l⟩
   ·rw[h]at n0;exact(hK.bt s t (by rw[n0];simp[SV.bt])).2.1
   ·rw[l]at n0;simp only[SV.box.injEq]at n0;obtain⟨h0,i,v1,p,k1,v0,_,_,_,q4,_⟩:=N t' s v' F;rw[<-n0.1];exact(B.bt s t' (by rw[q4];simp[SV.bt])).2.1
  exact hU t m.1 (by omega) y1
theorem Sg(s:Nat):∀(l:List (Nat×Nat×TV)) {L L':List SV},L.length=L'.length->(fB l L).getD s .no=(fB l L').getD s .no\/((fB l L).getD s .no=L.getD s .no/\(fB l L').getD s .no=L'.getD s .no)
 | [],_,_,_=> .inr ⟨rfl,rfl⟩
 |(t,s0,v)::l,L,L',hl=>by
  simp only[fB];rcases Sg s l (L:=L.set s0 (.box t v)) (L':=L'.set s0 (.box t v)) (by simpa using hl)with h|⟨h1,h2⟩;exact .inl h;rw[h1,h2,mY,mY,hl];by_cases e:s=s0/\s0<L'.length;left;rw[an e,an e];right;rw[a_ e,a_ e];exact⟨rfl,rfl⟩
def Rr(E:Env)(ts:List Nat)(b:List (Nat×Nat)):(E.ib ts b).s.length=E.s.length:=by
 unfold Env.ib;split;unfold Env.kill;split<;>simp;simp
def VK(E:Env)(ts:List Nat)(c:List (Nat×Nat))(s:Nat):(E.ib ts c).s.getD s .no=(E.kill ts).s.getD s .no\/
 ∃b d e i o p τ,E.s.getD s .no= .ept b e i o p τ/\c.lookup b=some d/\(E.ib ts c).s.getD s .no= .ept d e i o p τ:=by
 unfold Env.ib;split;exact .inl rfl;have j:SV.ib ts c .no= .no:=by simp only[SV.ib];split<;>rfl
 simp only[getD_map j]
 have k:(E.kill ts).s.getD s .no=if ts.isEmpty then E.s.getD s .no else(E.s.getD s .no).kill ts:=by
  unfold Env.kill;split;rfl;exact getD_map (T:=SV.kill ts) rfl s
 rw[k];cases hs:E.s.getD s .no with
 |ept b e i o p τ=>
  cases h:c.lookup b with
  |none=>left;simp only[SV.ib,h]
  |some d=>right;exact⟨b,d,e,i,o,p,τ,rfl,h,by simp only[SV.ib,h]⟩
 |_=>left;simp only[SV.ib]
theorem Inv.upd{q:Env}(p:Inv w0 c0 U E a w G)(J:q.s.length=E.s.length)(hk:q.kp=E.kp)
 (h:∀s,q.s.getD s .no=E.s.getD s .no\/(gQ w G (q.s.getD s .no) (a.tmps.getD s undef)/\dH U G (q.s.getD s .no)/\∀t v,q.s.getD s .no≠ .box t v)):Inv w0 c0 U q a w G:=by
 refine {p with len:=p.len.trans J.symm,slots:=fun s=> ?_,sc:=fun s=> ?_,bt:=fun s=> ?_,rt:=fun s=> ?_,uni:=fun s H t u I y z=> ?_,hk:=by rw[hk];exact p.hk};rcases h s with h|h;rw[h];exact p.slots s;exact h.1;rcases h s with h|h;rw[h];exact p.sc s;exact h.2.1.1;rcases h s with h|h;rw[h];exact p.bt s;exact h.2.1.2.1;rcases h s with h|h;rw[h];exact p.rt s;exact h.2.1.2.2;rcases h s with B|B;rcases h H with D|D;rw[B]at y;rw[D]at z;exact p.uni s H t u I y z;exact absurd z (D.2.2 t I);exact absurd y (B.2.2 t u)
def ae3(E:Env)(ts:List Nat):(E.kill ts).kp=E.kp:=by unfold Env.kill;split<;>rfl
def ah1(E:Env)(ts:List Nat)(b:List (Nat×Nat)):(E.ib ts b).kp=E.kp:=by
 unfold Env.ib;split;exact ae3 E ts;rfl
theorem Inv.rep{z:C0}{B:World}{U':Nat->Prop}{w':World}{G2:Gh}{ts:List Nat}{q:List (Nat×Nat)}{Io2:List (Nat×Nat×TV)}
 (J:Inv w0 c0 U' {E.kill ts with s:=fB Io2 (E.kill ts).s} a w' G2) (K:Inv B z U E a w G)
 (D:∀u y,(u,y)∈q->G2.hdr y=G.hdr u/\4<=y/\Good U' G2 y):
 Inv w0 c0 U' {E.ib ts q with s:=fB Io2 (E.ib ts q).s} a w' G2:=by
 have H:(E.ib ts q).s.length=(E.kill ts).s.length:=by rw[Rr];unfold Env.kill;split<;>simp
 refine J.upd (by show(fB Io2 (E.ib ts q).s).length=(fB Io2 (E.kill ts).s).length;rw[JZ,JZ,H]) (by show(E.ib ts q).kp=(E.kill ts).kp;rw[ae3,ah1]) (fun s=> ?_);show(fB Io2 (E.ib ts q).s).getD s .no=(fB Io2 (E.kill ts).s).getD s .no\/_;rcases Sg s Io2 H with h|⟨I,h2⟩;exact .inl h;rcases VK E ts q s with h|⟨b,b',e,i,o,p,τ,h3,h4,h5⟩;left;rw[I,h2,h];right;show gQ w' G2 ((fB Io2 (E.ib ts q).s).getD s .no) _/\dH U' G2 ((fB Io2 (E.ib ts q).s).getD s .no)/\∀t v,(fB Io2 (E.ib ts q).s).getD s .no≠ .box t v;rw[I,h5];have hs:=K.slots s;rw[h3]at hs;obtain⟨N,off,n,cap,k1,S,W,Y,k5⟩:=hs;obtain⟨g1,g2,g3⟩:=D b b' (vO h4);exact⟨⟨N,off,n,cap,g2,g1.trans S,W,Y,k5⟩,⟨by simp[SV.sc],by simp[SV.bt],by simp only[SV.rt,amI];rintro c rfl;exact g3⟩,by simp⟩
end
def Enters(P:Program)(r:Result Next)(R:Value->World->Prop):Prop:=
 match r with
 | .ok (.enter f args) w1=>Calls P f args w1 (fun e w'=>∃v,e= .returned v/\R v w')
 | .ok (.value v) w1=>R v w1
 |_=>False
theorem Enters.mono{P:Program}{r:Result Next}{R R':Value->World->Prop}(h:Enters P r R)(u:∀v w,R v w->R' v w):Enters P r R':=by
 unfold Enters at*
 split;rename_i f args w1;exact Calls.mono h (fun e w' ⟨v,p,q⟩=>⟨v,p,u v w' q⟩);exact u _ _ h;rename_i p q;split at h;exact p _ _ _ rfl;exact q _ _ rfl;exact h
structure JR(P:Program)(C:Cx):Prop extends CxTy P C where
 ct:∀f con,C.ct f=some con->BH P f con
 mixed:P.follows .mixedOrders=true
section
variable{P:Program}{C:Cx}{w0:World}{c0:C0}{U:Nat->Prop}{E:Env}{a:Act}{w:World}{G:Gh}{ops:List Oper}{g:Option (Nat×Bool)}
theorem afj(b:Inv w0 c0 U E a w G)(c:RI ops E a.tmps)(d:Gd ops a.tmps g):∀ {xs:List Operand} {ts:List TypeId} {as:List SV},IL C E.rd g xs ts=some as->
 as.length=xs.length/\∀i,gQ w G (as.getD i .no) ((xs.map a.eval).getD i undef)/\dH U G (as.getD i .no)
 | [],[],as,h=>by
   simp only[IL,akK]at h;subst h;exact⟨rfl,fun i=>⟨trivial,by simp[dH,SV.sc,SV.bt,SV.rt]⟩⟩
 |x::xs,t::ts,as,h=>by
  simp only[IL]at h;split at h;rename_i v vs e j;cases h;obtain⟨k,l⟩:=afj b c d j;refine⟨by simp[k],fun i=> ?_⟩;cases i with
  |zero=>simpa using rb b c d e
  |succ i=>simpa using l i
  cases h
 | [],_::_,_,h|_::_,[],_,h=>by simp[IL]at h
def EfS(P:Program)(w0:World)(c0:C0)(U:Nat->Prop)(E:Env)(a:Act)(r:Result Next):Ef->Prop
 | .val v=>Yields w0 c0 U E a r v
 | .chk c v=>c=true->Yields w0 c0 U E a r v
 | .put b s v=>∃w' G',r= .ok .skip w'/\Inv w0 c0 U {E with s:=E.s.set s (.box b v)} a w' G'
 | .app c kl gv t v=>c=true->Yields w0 c0 U ((E.kill kl).cu gv t) a r v
 | .elem gv b e l m=>∃w' G',r= .ok .skip w'/\Inv w0 c0 U (E.elem gv b e l m) a w' G'
 | .nap c gv b e l m v=>c=true->Yields w0 c0 U (E.elem gv b e l m) a r v\/(v= .no/\∃w' G',r= .ok .skip w'/\Inv w0 c0 U (E.elem gv b e l m) a w' G')
 | .opt _ _ x f=>∀y,x=some y->Enters P r (fun mv w'=>∃G',Inv w0 c0 U E a w' G'/\gQ w' G' (f y) mv/\dH U G' (f y)/\(∀t u,f y= .box t u->∀s d,E.s.getD s .no≠ .box t d))
 | .call _ x tks f rp=>∀y,x=some y->Enters P r (fun mv w'=>∃G',Inv w0 c0 U {E.ib tks (rp y)with s:=fB (f y).2 (E.ib tks (rp y)).s} a w' G'/\gQ w' G' (f y).1 mv/\dH U G' (f y).1/\
  (∀t u,(f y).1= .box t u->∀s d,(fB (f y).2 (E.ib tks (rp y)).s).getD s .no≠ .box t d))
theorem EfS.ahj{r:Result Next}{p:Ef}(h:D6 w0 c0 U E a r p):EfS P w0 c0 U E a r p:=by
 cases p<;>first|exact h|exact h.elim
theorem Vo(hs:List Nat):∀(ps:List PK) (r:du (eM ps)) (k:Nat),lA hs ps r [] k=[]
 | [],_,_=>rfl
 | .val _ _::ps,r,k=>Vo hs ps r k
 | .io _ _::_,_,_=>rfl
 | .rd _::ps,r,k| .vx _ _::ps,r,k=>Vo hs ps r k
def ajJ(hC:JR P C)(S:Inv w0 c0 U E a w G)(hR:RI ops E a.tmps)(hg:Gd ops a.tmps g){tk:Nat}(h3:4<=tk)(hU:∀u,tk<=u->u<tk+32->¬U u){o:Oper}{c:Call}{f:FuncId}{ef:Ef}
 (ho:o.op= .call c) (hb:c.callee= .value (.func f)) (h:dY C ops E.rd tk g o=some ef):
 EfS P w0 c0 (fun u=>U u\/(tk<=u/\u<tk+32)) E a ((execOp a.eval o).run P w) ef:=by
 have I:(execOp a.eval o).run P w=(callFunc f (c.args.toList.map a.eval).toArray).run P w:=by
  have e:(c.args.toList.map a.eval).toArray=c.args.map a.eval:=anB (by simp);rw[e];simp only[execOp,ho];simp[resolve,hb,Deferred.ofValue,Act.eval,invoke]
 simp only[dY,ho,hb]at h;unfold Vd at h;split at h;cases h;rename_i d W;have hM:=hC.ct f d W;split at h;cases h;rename_i as has;obtain⟨hlen,l⟩:=afj S hR hg has;split at h;cases h;rename_i xs j q D;split at h;rename_i k;simp only[y_,b_]at k;obtain⟨⟨hr,h32⟩,m⟩:=k
 obtain⟨G1,J,b0⟩:=ajZ S D l (by simp[hlen]) hr (fun c hc=>by
  simp only[abC,y_,Q',b_,ami,F_,d_]at m;have:=m.1 c hc;exact⟨this.1.1,this.1.2,this.2⟩)
 have key:∀y,d.F xs=some y->Enters P ((execOp a.eval o).run P w) (fun N w'=>∃G2,
  Inv w0 c0 (fun u=>U u\/(tk<=u/\u<tk+32)) {E.kill (((j.filter (4<=·.2)).map (·.1)).filter fun c=> !q.any (·.1=c))with
   s:=fB (lA (2::(j.filter (·.2=1)).map (·.1)).eraseDups d.ps (dE d.rs (eM d.ps) y tk (2::(j.filter (·.2=1)).map (·.1)).eraseDups).2.1 q (dE d.rs (eM d.ps) y tk (2::(j.filter (·.2=1)).map (·.1)).eraseDups).2.2) (E.kill (((j.filter (4<=·.2)).map (·.1)).filter fun c=> !q.any (·.1=c))).s} a w' G2/\
  gQ w' G2 (GM (dE d.rs (eM d.ps) y tk (2::(j.filter (·.2=1)).map (·.1)).eraseDups).1) N/\dH (fun u=>U u\/(tk<=u/\u<tk+32)) G2 (GM (dE d.rs (eM d.ps) y tk (2::(j.filter (·.2=1)).map (·.1)).eraseDups).1)/\
  (∀t u,GM (dE d.rs (eM d.ps) y tk (2::(j.filter (·.2=1)).map (·.1)).eraseDups).1= .box t u->∀s r,
   (fB (lA (2::(j.filter (·.2=1)).map (·.1)).eraseDups d.ps (dE d.rs (eM d.ps) y tk (2::(j.filter (·.2=1)).map (·.1)).eraseDups).2.1 q (dE d.rs (eM d.ps) y tk (2::(j.filter (·.2=1)).map (·.1)).eraseDups).2.2) (E.kill (((j.filter (4<=·.2)).map (·.1)).filter fun c=> !q.any (·.1=c))).s).getD s .no≠ .box t r)/\
  (∀u r,(u,r)∈R9 E.rd q (lA (2::(j.filter (·.2=1)).map (·.1)).eraseDups d.ps (dE d.rs (eM d.ps) y tk (2::(j.filter (·.2=1)).map (·.1)).eraseDups).2.1 q (dE d.rs (eM d.ps) y tk (2::(j.filter (·.2=1)).map (·.1)).eraseDups).2.2) d.kp->
   G2.hdr r=G.hdr u/\4<=r/\Good (fun u=>U u\/(tk<=u/\u<tk+32)) G2 r)/\
  (∀t s v,(t,s,v)∈lA (2::(j.filter (·.2=1)).map (·.1)).eraseDups d.ps (dE d.rs (eM d.ps) y tk (2::(j.filter (·.2=1)).map (·.1)).eraseDups).2.1 q (dE d.rs (eM d.ps) y tk (2::(j.filter (·.2=1)).map (·.1)).eraseDups).2.2->∃v0,E.s.getD s .no= .box t v0)):=by
  intro y H;rw[I];have:=hM w G1 (c.args.toList.map a.eval) xs y H J;exact Enters.mono (show Enters P _ _ from this) (fun N w' ⟨G',vs,nt,hp⟩=>akW S m D l hr b0 hp h3 hU h32 rfl rfl)
 simp only at h;split at h;rename_i x;cases h;simp only[y_,List.isEmpty_iff]at x;obtain⟨e1,e2⟩:=x;intro y H;refine(key y H).mono (fun N w' Y=> ?_);obtain⟨G2,K,k2,k3,B,_⟩:=Y;rw[e2]at K B;subst e1;simp only[Vo,fB,Env.kill,List.isEmpty_nil,if_true]at K B;exact⟨G2,K,k2,k3,B⟩;cases h;intro y H;refine(key y H).mono (fun N w' Y=> ?_);obtain⟨G2,K,k2,k3,B,k5,k6⟩:=Y;refine⟨G2,K.rep S k5,k2,k3,fun t u he s r z=> ?_⟩
 have hl:(E.ib (((j.filter (4<=·.2)).map (·.1)).filter fun c=> !q.any (·.1=c)) (R9 E.rd q (lA (2::(j.filter (·.2=1)).map (·.1)).eraseDups d.ps (dE d.rs (eM d.ps) y tk (2::(j.filter (·.2=1)).map (·.1)).eraseDups).2.1 q (dE d.rs (eM d.ps) y tk (2::(j.filter (·.2=1)).map (·.1)).eraseDups).2.2) d.kp)).s.length=(E.kill (((j.filter (4<=·.2)).map (·.1)).filter fun c=> !q.any (·.1=c))).s.length:=by
  rw[Rr];unfold Env.kill;split<;>simp
 rcases Sg s (lA (2::(j.filter (·.2=1)).map (·.1)).eraseDups d.ps (dE d.rs (eM d.ps) y tk (2::(j.filter (·.2=1)).map (·.1)).eraseDups).2.1 q (dE d.rs (eM d.ps) y tk (2::(j.filter (·.2=1)).map (·.1)).eraseDups).2.2) hl with h|⟨h1,h2⟩;exact B t u he s r (h.symm.trans z);rcases VK E (((j.filter (4<=·.2)).map (·.1)).filter fun c=> !q.any (·.1=c)) (R9 E.rd q (lA (2::(j.filter (·.2=1)).map (·.1)).eraseDups d.ps (dE d.rs (eM d.ps) y tk (2::(j.filter (·.2=1)).map (·.1)).eraseDups).2.1 q (dE d.rs (eM d.ps) y tk (2::(j.filter (·.2=1)).map (·.1)).eraseDups).2.2) d.kp) s with h|⟨b,b',e,i,o,p,τ,h3,h4,h5⟩;exact B t u he s r (h2.trans (h.symm.trans (h1.symm.trans z)));have:=h5.symm.trans (h1.symm.trans z);cases this;cases h
def acj(hC:JR P C)(q:Inv w0 c0 U E a w G)(B:RI ops E a.tmps)(D:Gd ops a.tmps g){tk:Nat}(S:4<=tk)(hU:∀u,tk<=u->u<tk+32->¬U u){o:Oper}{N:Ef}
 (h:dY C ops E.rd tk g o=some N):EfS P w0 c0 (fun u=>U u\/(tk<=u/\u<tk+32)) E a ((execOp a.eval o).run P w) N:=by
 have i:=hC.toCxTy;have F:D6 w0 c0 U E a ((execOp a.eval o).run P w) N->EfS P w0 c0 (fun u=>U u\/(tk<=u/\u<tk+32)) E a ((execOp a.eval o).run P w) N:=fun h=> .ahj (h.mono fun u J=> .inl J)
 have m1:D6 w0 c0 (fun u=>U u\/u=tk) E a ((execOp a.eval o).run P w) N->EfS P w0 c0 (fun u=>U u\/(tk<=u/\u<tk+32)) E a ((execOp a.eval o).run P w) N:=
  fun h=> .ahj (h.mono fun u J=>J.imp id fun e=>by omega)
 have I:=hU tk (j_ _) (by omega);cases k:o.op with
 |move x=>
  have p:=h;simp only[dY,k,N_]at p;obtain⟨sv,hs,rfl⟩:=p;exact F (aeS q B D hs (by simp[execOp,k]))
 |assign x=>
  have p:=h;simp only[dY,k,N_]at p;obtain⟨sv,hs,rfl⟩:=p;exact F (aeS q B D hs (by simp[execOp,k]))
 |pick c x y=>exact F (ajU q B D k h)
 |alloc t=>exact m1 (ah0 i q S I k h)
 |box t x=>exact m1 (aj1 q B D S I k h)
 |build t ps=>exact F (akZ i q B D k h)
 |buildSlice t n ps=>exact m1 (abb i q B D S I k h)
 |load t x=>exact F (ajQ i q B D k h)
 |nilCheck x=>exact F (aeh q B D k h)
 |binOp op t x y u=>exact F (ake i q B D k h)
 |unOp op t x=>exact F (ak6 q B D k h)
 |convert s d x=>exact F (ajx i q B D k h)
 |makeSlice t n c=>exact m1 (adE i q B D S I k h)
 |slice t x lo hi mx=>exact F (aia i q B D k h)
 |fieldAddr s x j=>exact F (ado i q B D k h)
 |field s x j=>exact F (ajg i q B D k h)
 |indexAddr t x n=>exact F (adt i q B D k h)
 |index t x n=>exact F (ajh i q B D k h)
 |extract x j=>exact F (afp q B D k h)
 |store t x y=>
  have key:∀e,dY C ops E.rd tk g o=some e->(∃b s v,e= .put b s v)\/∃Y b e' l m,e= .elem Y b e' l m:=by
   intro e H;simp only[dY,k]at H;split at H;split at H;obtain⟨r,_,rfl⟩:=N_.mp (Option.ite_none_right_eq_some.mp H).2;exact .inl ⟨_,_,_,rfl⟩;cases H;split at H;obtain⟨_,H⟩:=Option.ite_none_right_eq_some.mp H;obtain⟨_,H⟩:=Option.ite_none_left_eq_some.mp H;obtain⟨r,_,rfl⟩:=N_.mp H;exact .inr ⟨_,_,_,_,_,rfl⟩;cases H;cases H
  rcases key _ h with⟨b,s,v,rfl⟩|⟨Y,b,e',l,m,rfl⟩;obtain⟨w',h1,h2⟩:=akc i q B D k h;exact⟨w',G,h1,h2.mono fun u J=> .inl J⟩;obtain⟨w',G',h1,h2⟩:=ajK i q B D k h;exact⟨w',G',h1,h2.mono fun u J=> .inl J⟩
 |call c=>
  cases W:c.callee with
  |builtin b=>
   by_cases K:∃cd kl Y t v,N= .app cd kl Y t v;obtain⟨cd,kl,Y,t,v,rfl⟩:=K
   have e0:b= .append:=by
    have p:=h;simp only[dY,k,W]at p;unfold JM at p;split at p;exfalso;split at p;cases p;split at p;split at p<;>cases p;split at p<;>cases p;cases p;exfalso;split at p;split at p<;>cases p;cases p;exfalso;split at p;split at p<;>cases p;cases p;rfl;cases p
   subst e0;intro b0;obtain⟨rfl,hy⟩:=akQ i q B D S I k W h b0;exact hy.mono fun u J=>J.imp id fun e=>by omega
   exact F (akm i q B D k W (fun x y z u v e=>K ⟨x,y,z,u,v,e⟩) h)
  |value x=>
   cases x with
   |func f=>exact ajJ hC q B D S hU k W h
   |_=>simp[dY,k,W]at h
  |invoke r m=>simp[dY,k,W]at h
 |_=>simp[dY,k]at h
end
theorem cr.UN{α:Type}{R R':α->List Value->List Nat->Prop}{sz:Nat}(v:∀x c B,R x c B->c.length=sz)(p:∀x c B,R' x c B->c.length=sz)
 (z:∀x u c B B',R x c B->R' u c B'->x=u):∀ {l q:List α} {cs:List Value} {B B':List Nat},cr R l cs B->cr R' q cs B'->l.length=q.length->l=q
 | [],[],_,_,_,_,_,_=>rfl
 |x::l,y::q,cs,B,B',h,h',hn=>by
  obtain⟨J,c2,B1,B2,rfl,rfl,D,K⟩:=h;obtain⟨N,d2,D1,D2,S,rfl,H,W⟩:=h';have I:J.length=N.length:=by rw[v _ _ _ D,p _ _ _ H]
  obtain⟨rfl,rfl⟩:=anC S I;rw[z _ _ _ _ _ D H,cr.UN v p z K W (by simpa using hn)]
 | [],_::_,_,_,_,_,_,hn|_::_,[],_,_,_,_,_,hn=>by simp at hn
theorem bP.UN{w:World}:∀ {τ:Ty} {x u:τ.den} {cs:List Value} {B B':List Nat},bP w τ x cs B->bP w τ u cs B'->x=u
 | .int _,x,u,cs,_,_,h,p=>by have:=h.1.symm.trans p.1;simpa using this
 | .bool,x,u,cs,_,_,h,p=>by have:=h.1.symm.trans p.1;simpa using this
 | .str,x,u,cs,_,_,h,p=>by have:=h.1.symm.trans p.1;simpa using this
 | .pair a b,x,u,cs,_,_,h,p=>by
   obtain⟨c1,c2,B1,B2,rfl,rfl,J,W⟩:=h;obtain⟨d1,d2,D1,D2,Y,rfl,K,k2⟩:=p;obtain⟨rfl,rfl⟩:=anC Y (by rw[bP.len J,bP.len K]);exact anG (bP.UN J K) (bP.UN W k2)
 | .sl e,l,l',cs,_,_,h,p=>by
   obtain⟨v,rfl,h⟩:=h;obtain⟨v',N,p⟩:=p;simp only[anD,and_true]at N;subst N;rcases h with⟨⟨ao,I⟩,z,_⟩|⟨b,off,cap,c,el,fz,Bs,I,hcap,hb,hsz,_,hl⟩<;>rcases p with⟨⟨ao',q⟩,D,_⟩|⟨b',off',cap',c',el',fz',Bs',q,hcap',y,hsz',_,H⟩;rw[z,D];rw[I]at q;simp only[Value.slice.injEq]at q;rw[z,amY.1 q.2.1.symm];rw[I]at q;simp only[Value.slice.injEq]at q;rw[D,amY.1 q.2.1];rw[I]at q;simp only[Value.slice.injEq,akK,Addr.mk.injEq,and_true]at q;obtain⟨⟨rfl,rfl⟩,S,rfl⟩:=q;rw[hb]at y;simp only[akK,Obj.cells.injEq]at y;obtain⟨rfl,_,_⟩:=y;rw[<-S]at H;exact cr.UN (sz:=e.sz) (fun x c B h=>bP.len h) (fun x c B h=>bP.len h) (fun x u c B B' h p=>bP.UN h p) hl H S
def Z6(τ:Ty):τ.sub []=some τ:=by cases τ<;>rfl
def S2(τ:Ty):τ.off []=0:=by cases τ<;>rfl
theorem bP.place{w:World}:∀ {p:List Bool} {τ σ:Ty} {x:τ.den} {cs:List Value} {B:List Nat},bP w τ x cs B->τ.sub p=some σ->
 ∃(f:σ.den->τ.den) (z:σ.den) (D Bo H:List Nat),f z=x/\B=D++Bo++H/\bP w σ z ((cs.drop (τ.off p)).take σ.sz) Bo/\τ.off p+σ.sz<=τ.sz/\
  ∀(w':World) (u:σ.den) (v:List Value) (B':List Nat),(∀k∈D++H,w'.heap[k]?=w.heap[k]?)->bP w' σ u v B'->bP w' τ (f u) (lQ (τ.off p) v cs) (D++B'++H)
 | [],τ,σ,x,cs,B,h,hs=>by
   rw[Z6]at hs;cases hs;have J:=bP.len h;refine⟨id,x,[],B,[],rfl,by simp,?_,by rw[S2];omega,fun w' u v B' _ y=> ?_⟩;rw[S2,am3,amz (by omega)];exact h;rw[S2];unfold lQ;rw[anE,am1,amW,amA (by rw[J,bP.len y];exact j_ _),anj];simpa using y
 |false::p,.pair a b,σ,x,cs,B,h,hs=>by
  obtain⟨N,c2,S,W,rfl,rfl,K,Y⟩:=h;simp only[Ty.sub]at hs;obtain⟨f,z,D,Bo,H,q1,rfl,q3,q4,q5⟩:=bP.place K hs;have J:=bP.len K;refine⟨fun u=>(f u,x.2),z,D,Bo,H++W,anG q1 rfl,by simp,?_,by simp only[Ty.off,Ty.sz];omega,fun w' u v B' I y=> ?_⟩;simp only[Ty.off];rw[amh (by omega),amn (by simp;omega)];exact q3;have hlz:=bP.len y;refine⟨_,c2,_,W,?_,by simp,q5 w' u v B' (fun k q=>I k (by simp only[e8]at q|-;rcases q with h|h<;>simp[h])) y,bP.mono (fun k q=>I k (by simp[q])) Y⟩;simp only[Ty.off,lQ];rw[amn (by omega),amh (by omega)];simp
 |true::p,.pair a b,σ,x,cs,B,h,hs=>by
  obtain⟨N,c2,S,W,rfl,rfl,K,Y⟩:=h;simp only[Ty.sub]at hs;obtain⟨f,z,D,Bo,H,q1,rfl,q3,q4,q5⟩:=bP.place Y hs;have J:=bP.len K;refine⟨fun u=>(x.1,f u),z,S++D,Bo,H,anG rfl q1,by simp,?_,by simp only[Ty.off,Ty.sz];omega,fun w' u v B' I y=> ?_⟩;simp only[Ty.off];rw[<-J,amZ,amA (by omega),am1,show N.length+b.off p-N.length=b.off p by omega];exact q3;refine⟨N,_,S,_,?_,by simp,bP.mono (fun k q=>I k (by simp[q])) K,q5 w' u v B' (fun k q=>I k (by simp only[e8]at q|-;rcases q with h|h<;>simp[h])) y⟩;simp only[Ty.off,lQ];rw[<-J,anc,amz (by omega),amZ,amA (by omega)];simp[am7]
 |b::p,.int _,_,_,_,_,_,hs|b::p,.bool,_,_,_,_,_,hs|b::p,.str,_,_,_,_,_,hs|b::p,.sl _,_,_,_,_,_,hs=>by simp[Ty.sub]at hs
theorem cr.aha{e:Ty}{w w':World}{l:List e.den}{cs:List Value}{B:List Nat}(p:∀b∈B,w'.heap[b]?=w.heap[b]?)(h:cr (bP w e) l cs B):cr (bP w' e) l cs B:=cr.world p h
theorem SA:∀ {p:List Bool} {τ σ:Ty},τ.sub p=some σ->τ.off p+σ.sz<=τ.sz
 | [],τ,σ,h=>by rw[Z6]at h;cases h;rw[S2];omega
 |false::p,.pair a b,σ,h=>by have:=SA (τ:=a) h;simp only[Ty.off,Ty.sz];omega
 |true::p,.pair a b,σ,h=>by have:=SA (τ:=b) h;simp only[Ty.off,Ty.sz];omega
 |b::p,.int _,_,hs|b::p,.bool,_,hs|b::p,.str,_,hs|b::p,.sl _,_,hs=>by simp[Ty.sub]at hs
theorem Uj:∀ {p:List Bool} {τ:Ty} {x:τ.den} {sh:Sh} {r:TV},pY τ x sh p=some r->τ.sub p=some r.τ
 | [],τ,x,sh,r,h=>by
   have:r=⟨τ,x,sh⟩:=by cases τ<;>(simp only[pY,akK]at h;exact h.symm)
   rw[Z6,this]
 |false::p,.pair a b,x,.pair s1 s2,r,h=>by simp only[pY]at h;simp only[Ty.sub];exact Uj h
 |true::p,.pair a b,x,.pair s1 s2,r,h=>by simp only[pY]at h;simp only[Ty.sub];exact Uj h
 |b::p,.int _,_,_,_,h|b::p,.bool,_,_,_,h|b::p,.str,_,_,_,h|b::p,.sl _,_,_,_,h=>by simp[pY]at h
 |b::p,.pair _ _,_,.leaf,_,h|b::p,.pair _ _,_,.sl _,_,h=>by cases b<;>simp[pY]at h
theorem Xz{w:World}:∀ {p:List Bool} {τ:Ty} {x:τ.den} {sh:Sh} {r:TV} {cs:List Value} {B:List Nat},pY τ x sh p=some r->bP w τ x cs B->
 ∃B',bP w r.τ r.x ((cs.drop (τ.off p)).take r.τ.sz) B'
 | [],τ,x,sh,r,cs,B,h,hr=>by
   have:r=⟨τ,x,sh⟩:=by cases τ<;>(simp only[pY,akK]at h;exact h.symm)
   subst this;rw[S2,am3,amz (by rw[bP.len hr];exact j_ _)];exact⟨B,hr⟩
 |false::p,.pair a b,x,.pair s1 s2,r,cs,B,h,hr=>by
  obtain⟨d,k,l,m,rfl,rfl,c,j⟩:=hr;simp only[pY]at h;obtain⟨B',e⟩:=Xz h c;have hso:=SA (Uj h);have i:=bP.len c;refine⟨B',?_⟩;simp only[Ty.off];rw[amh (by omega),amn (by simp;omega)];exact e
 |true::p,.pair a b,x,.pair s1 s2,r,cs,B,h,hr=>by
  obtain⟨d,k,l,m,rfl,rfl,c,j⟩:=hr;simp only[pY]at h;obtain⟨B',e⟩:=Xz h j;have i:=bP.len c;refine⟨B',?_⟩;simp only[Ty.off];rw[<-i,amZ,amA (by omega),am1,show d.length+b.off p-d.length=b.off p by omega];exact e
 |b::p,.int _,_,_,_,_,_,h,_|b::p,.bool,_,_,_,_,_,h,_|b::p,.str,_,_,_,_,_,h,_|b::p,.sl _,_,_,_,_,_,h,_=>by simp[pY]at h
 |b::p,.pair _ _,_,.leaf,_,_,_,h,_|b::p,.pair _ _,_,.sl _,_,_,_,h,_=>by cases b<;>simp[pY]at h
theorem cr.place{w:World}{τ σ:Ty}{l:List τ.den}{cs:List Value}{B:List Nat}(h:cr (bP w τ) l cs B){i:Nat}(hi:i<l.length){p:List Bool}(hs:τ.sub p=some σ):
 ∃(f:σ.den->List τ.den) (z:σ.den) (v Bo y:List Nat),f z=l/\B=v++Bo++y/\bP w σ z ((cs.drop (i*τ.sz+τ.off p)).take σ.sz) Bo/\i*τ.sz+τ.off p+σ.sz<=l.length*τ.sz/\(∀u,(f u).length=l.length)/\
  ∀(w':World) (u:σ.den) (H:List Value) (B':List Nat),(∀k∈v++y,w'.heap[k]?=w.heap[k]?)->bP w' σ u H B'->cr (bP w' τ) (f u) (lQ (i*τ.sz+τ.off p) H cs) (v++B'++y):=by
 have N:l[i]?=some l[i]:=ali hi;obtain⟨S,Bx,W,rfl,Y,h2,h3⟩:=cr.get (sz:=τ.sz) (fun x c B h=>bP.len h) h N;obtain⟨f,z,v,Bo,y,q1,rfl,q3,q4,q5⟩:=bP.place Y hs;have hl:=cr.len (sz:=τ.sz) (fun x c B h=>bP.len h) h;have hmul:(i+1)*τ.sz<=l.length*τ.sz:=aml _ hi;rw[amH,amT]at hmul;refine⟨fun u=>l.set i (f u),z,S++v,Bo,y++W,by show l.set i (f z)=l;rw[q1];simp,by simp,?_,by omega,fun u=>by simp,fun w' u H B' I K=> ?_⟩;rw[amp,amG,amF,amC (by omega)]at q3;exact q3;have J:=q5 w' u H B' (fun k q=>I k (by simp only[e8]at q|-;rcases q with h|h<;>simp[h])) K;have D:=cr.set (sz:=τ.sz) (l:=l) (cs:=cs) hi J (cr.aha (fun k q=>I k (by simp[q])) h2) (cr.aha (fun k q=>I k (by simp[q])) h3);rw[Oc (sz:=τ.sz) (by have:=bP.len K;omega),show i*τ.sz+τ.sz=(i+1)*τ.sz by rw[amH,amT]];simpa[amk]using D
section
variable{P:Program}{C:Cx}{w0:World}{c0:C0}{U:Nat->Prop}{E:Env}{a:Act}{w:World}{G:Gh}{ops:List Oper}{g:Option (Nat×Bool)}
theorem Inv.ak5(p:Inv w0 c0 U E a w G){tk:Nat}(y:¬U tk):Inv w0 c0 (fun u=>U u\/u=tk) E a w {G with bx:=fun u=>if u=tk then false else G.bx u}:=by
 refine p.change (ts:=[]) (fun _ _ _=>by simp) (fun b _ _=>⟨rfl,rfl⟩) (fun t q=>⟨rfl,a_ (fun e:t=tk=>y (e▸q))⟩) (fun _ h=> .inl h) (fun b v=> .inl (p.colU b v)) p.lt p.fresh p.frame (fun _ _=>rfl) (j_ _) rfl rfl rfl
theorem Inv.ajo(K:Inv w0 c0 U E a w G){ts:List Nat}{b:Nat}{e:Ty}{l:List e.den}{m:M}{w':World}(p:4<=b)(z:∀c∈ts,4<=c/\Good U G c)(J:Good U G b)(N:∀c∈m.bc,Good U G c)
 (q:gq w' (G.cu ts b (G.hdr b)) e l (G.hdr b) m) (B:∀k,(G.cu ts b (G.hdr b)).col k≠b->w'.heap[k]?=w.heap[k]?)
 (D:∀k,(G.cu ts b (G.hdr b)).col k=b->∃c el,w'.heap[k]?=some (.cells c el (0,0))) (size:w.heap.size=w'.heap.size) (S:w'.os=w.os) (tape:w'.tape=w.tape) (output:w'.output=w.output):
 Inv w0 c0 U (E.elem ts b e l m) a w' (G.cu ts b (G.hdr b)):=by
 have u:=K.afX (ts:=ts) (t:=b) (v:=G.hdr b) p z J.2.1 rfl J.2.2;have H:=u.map (T8 (w:=w) b) u.colU (fun b=>⟨fun h=>h,fun _=>rfl,fun _=>rfl⟩);have I:=H.setRow (m:=m) (y:=l) (w':=w') (e:=e) (b:=b) (by simpa[Gh.cu]using q) (by simp[Gh.cu]) p B (fun s=> ?_) (fun c hc=> ?_) D size S tape output;simpa only[Env.elem,List.map_map,am9,SV.fD,SV.cu]using I;have:=getD_map (L:=E.s.map (SV.cu ts b)) (T:=SV.fD b) rfl s;show SV.clear b ((List.map (SV.fD b) (E.s.map (SV.cu ts b))).getD s .no);rw[this];exact SV.ot b _;obtain⟨W,Y,p3⟩:=N c hc;refine⟨W,Y,?_⟩;simp only[Gh.cu];split;rfl;exact p3
def Wi{e:Ty}{l:List e.den}{v:Value}{b:Nat}{hs:List Nat}(h:gq w G e l v (.row b hs true))(j:hs.all (·=b)=true){m of n cap:Nat}(r:v= .slice (some ⟨m,of,none⟩) n cap)(hn:0<n):
 n=l.length/\l.length<=cap/\∃c el p i,w.heap[m]?=some (.cells c el p)/\of+cap*e.sz<=c.size/\cr (bP w e) l ((c.toList.drop of).take (l.length*e.sz)) i/\(m::i).Nodup/\G.col m=b/\∀x∈i,G.col x=b:=by
 obtain⟨_,_,B,t,hc⟩:=h;rcases t with⟨⟨ao,d⟩,hl0,_⟩|⟨b',of',cap',c,el,p,i,d,k,u,q,rfl,y⟩;rw[r]at d;cases d;omega;rw[r]at d;simp only[Value.slice.injEq,akK,Addr.mk.injEq,and_true]at d;obtain⟨⟨rfl,rfl⟩,rfl,rfl⟩:=d;obtain⟨z,D,F,H⟩:=hc _ _ rfl;simp only[Q',b_]at j;exact⟨rfl,k,c,el,p,i,u,q,y,amE.2 ⟨D,H rfl⟩,z,fun x s=>j _ (F x s)⟩
def aev{q:Nat}{cs:List Value}{v:Value}(h:cs[q]?=some v):lQ q [v] cs=cs:=by
 obtain⟨b,rfl⟩:=amV.1 h;unfold lQ;simp only[anl,amk,List.singleton_append];rw[<-ana b,ank]
def afS{e σ:Ty}{l:List e.den}{b:Nat}{hs:List Nat}{y of n cap:Nat}{i:Int}{p:List Bool}(h:gq w G e l (G.hdr b) (.row b hs true))(D:hs.all (·=b)=true)(K:G.hdr b= .slice (some ⟨y,of,none⟩) n cap)
 (Y:0<=i) (hn:i<n) (hs:e.sub p=some (.sl σ)) (hI:Inv w0 c0 U E a w G):
 ∃c el z v,w.heap[y]?=some (.cells c el (0,0))/\of+i.toNat*e.sz+e.off p+1<=c.size/\(c.toList.drop (of+i.toNat*e.sz+e.off p)).take 1=[v]/\gq w G σ z v (.nst b e i (e.off p) p true):=by
 obtain⟨rfl,j,c,el,fz,Bs,F,H,N,I,r,s⟩:=Wi h D K (by omega);obtain⟨J,t,k⟩:=hI.fresh y (by rw[r];exact h.1);rw[k]at F;simp only[akK,Obj.cells.injEq]at F;obtain⟨rfl,rfl,rfl⟩:=F;have hi:i.toNat<l.length:=by omega
 obtain⟨f,z,Ba,S,Bb,q1,rfl,q3,q4,q5,q6⟩:=cr.place N hi hs;have hmul:l.length*e.sz<=cap*e.sz:=aml _ j;have hlen:=cr.len (sz:=e.sz) (fun x c B h=>bP.len h) N;simp only[Ty.sz]at q3 q4;obtain⟨v,m,u⟩:=q3
 have q:((J.toList.drop of).take (l.length*e.sz))[i.toNat*e.sz+e.off p]?=some v:=by
  have:=congrArg List.head? m;rw[List.head?_take,List.head?_drop]at this;simpa using this
 have d:=q6 w z [v] S (fun _ _=>rfl) ⟨v,rfl,u⟩;rw[q1]at d;refine⟨J,t,z,v,k,by omega,?_,⟨S,u,fun x W=>s x (by simp[W])⟩,hs,rfl,h.1,Y,y,of,l.length,cap,J,t,l,_,K,j,r,k,H,hn,?_,rfl,d,I,s,fun _=>q⟩;rw[amp,amG,amF,amC (by omega)]at m;rw[show of+i.toNat*e.sz+e.off p=of+(i.toNat*e.sz+e.off p) by omega];exact m;have hp:=SA hs;simpa only[Ty.sz]using hp
def aje{d e:Ty}{L:List d.den}{l:List e.den}{b:Nat}{hs:List Nat}{i:Int}{off:Nat}{p:List Bool}{v:Value}(hx:gq w G e l v (.nst b d i off p true))(F:gq w G d L (G.hdr b) (.row b hs true)):
 4<=b/\∃(j of n cap:Nat) (c:Array Value) (el:TypeId) (f:List e.den->List d.den) (y Bo D:List Nat),G.hdr b= .slice (some ⟨j,of,none⟩) n cap/\n<=cap/\G.col j=b/\w.heap[j]?=some (.cells c el (0,0))/\of+cap*d.sz<=c.size/\
  (j::(y++Bo++D)).Nodup/\(∀x∈y++Bo++D,G.col x=b)/\me w e.sz (bP w e) l v Bo/\f l=L/\L.length=n/\
  (∀(w':World) (r:List e.den) (u:Value) (B':List Nat),(∀k∈y++D,w'.heap[k]?=w.heap[k]?)->me w' e.sz (bP w' e) r u B'->
   cr (bP w' d) (f r) (lQ (i.toNat*d.sz+off) [u] ((c.toList.drop of).take (n*d.sz))) (y++B'++D))/\(∀r,(f r).length=n)/\
  lQ (i.toNat*d.sz+off) [v] ((c.toList.drop of).take (n*d.sz))=(c.toList.drop of).take (n*d.sz)/\i<n/\0<=i/\off+1<=d.sz/\d.sub p=some (.sl e)/\d.off p=off:=by
 obtain⟨⟨B,hB,hc⟩,s,t,h3,W,j,of,n,cap,c,el,L0,Bs,g1,g2,g3,g4,g5,g6,g7,g8,Y,b0,h0,H⟩:=hx;have m:=aev (H rfl);rw[m]at Y
 have q:L.length=n/\cr (bP w d) L ((c.toList.drop of).take (n*d.sz)) Bs:=by
  obtain⟨_,_,B',I,_⟩:=F;rw[g1]at I;rcases I with⟨⟨ao,K⟩,hl0,_⟩|⟨b',of',cap',c',el',fz,Bs',K,hcap,hh,hsz,_,hl⟩;cases K;omega;simp only[Value.slice.injEq,akK,Addr.mk.injEq,and_true]at K;obtain⟨⟨rfl,rfl⟩,rfl,rfl⟩:=K;rw[g4]at hh;simp only[akK,Obj.cells.injEq]at hh;obtain⟨rfl,rfl,rfl⟩:=hh;have:=cr.UN (sz:=d.sz) (fun x c B h=>bP.len h) (fun x c B h=>bP.len h) (fun x x' c B B' h h'=>bP.UN h h') Y hl (by omega);subst this;exact⟨rfl,Y⟩
 obtain⟨q,j0⟩:=q;obtain⟨f,z,y,Bo,D,q1,rfl,q3,q4,q5,q6⟩:=cr.place j0 (i:=i.toNat) (by omega) s;simp only[Ty.sz]at q3 q4;rw[t]at q3 q6
 have S:(((c.toList.drop of).take (n*d.sz)).drop (i.toNat*d.sz+off)).take 1=[v]:=by
  obtain⟨hq,hv⟩:=amV.1 (H rfl);rw[ana hq,hv];rfl
 rw[S]at q3;have hz:z=l:=bP.UN q3 (show bP w (.sl e) l [v] B from⟨v,rfl,hB⟩);subst hz;obtain⟨u,J,hS⟩:=q3;simp only[anD,and_true]at J;subst J;exact⟨h3,j,of,n,cap,c,el,f,y,Bo,D,g1,g2,g3,g4,g5,b0,h0,hS,q1,q,fun w' r u B' hk N=>q6 w' r [u] B' hk ⟨u,rfl,N⟩,fun r=>(q5 r).trans q,m,g6,W,g7,s,t⟩
theorem ajA(hC:CxTy P C)(hI:Inv w0 c0 U E a w G){tk:Nat}(h3:4<=tk)(hU:¬U tk){o:Oper}{c:Call}
 (ho:o.op= .call c) (hb:c.callee= .builtin .append) {x y:Operand} {t:TypeId} (b2:c.args= #[x,y]) (E2:c.argTypes= #[t,t]) {ti:TI} (e4:C.tt t=some ti) {e e0:Ty} (hτ:ti.τ= .sl e)
 {l l2:List e.den} {L:List e0.den} {b:Nat} {hs ys:List Nat} {i:Int} {off:Nat} {p:List Bool} {m':M}
 (W:gq w G e l (a.eval x) (.nst b e0 i off p true)) (hy:gq w G e l2 (a.eval y) m') (j4:∀c∈m'.bc,Good U G c) (e2:m'.own=some ys) (j2:b∉ys)
 (F2:gq w G e0 L (G.hdr b) (.row b hs true)) (L0:Good U G b) (hlen:l.length+l2.length<4294967296):
 Yields w0 c0 (fun u=>U u\/u=tk) (E.elem (tk::ys) b e0 L (.row b [b] true)) a ((execOp a.eval o).run P w) (.d ⟨.sl e,l++l2,.sl (.nst b e0 i off p false)⟩):=by
 obtain⟨R0,B,of,n,cap,cc,el,f,Ba,D,Bb,q1,q2,q3,q4,q5,q6,q7,C1,q8,q9,s3,o4,p4,r4,s4,w4,x4,B4⟩:=aje W F2;have hT:=(hC.tt _ ti e4).2;rw[hτ]at hT;obtain⟨hu,G4⟩:=hT;obtain⟨By,r2,J4,u3⟩:=hy.own e2;have H2:∀c∈ys,4<=c:=fun c hc=>Sh.AT (τ:= .sl e) (x:=l2) (sh:= .sl m') (cs:=[a.eval y]) ⟨_,rfl,hy⟩ e2 c hc;have E1:∀c∈ys,Good U G c:=fun c hc=>j4 c (M.xn e2 c hc);have J2:b≠tk:=fun e=>hU (e▸L0.2.1);have hytk:∀c∈ys,c≠tk:=fun c hc e=>hU (e▸(E1 c hc).2.1)
 have c1:∀ {v':Value} {w':World},((Builtin.append_ #[t,t] o.type #[a.eval x,a.eval y]).run P w= .ok v' w')->(execOp a.eval o).run P w= .ok (.value v') w':=by
  intro v' w' hr;simp only[execOp,ho];simp[resolve,hb,invoke,builtin,b2,E2,hr]
 obtain⟨xs,u2,w3,x3⟩:=C1.cells;obtain⟨s,r1,w2,_⟩:=r2.cells;have j1:∀z∈D,G.col z=b:=fun z q=>q7 z (by simp[q])
 have T2:∀ad k cap,a.eval x= .slice (some ad) k cap->0<cap->∃b off,ad=⟨b,off,none⟩/\∃c T1,w.heap[b]?=some (.cells c T1 (0,0))/\off+cap*e.sz<=c.size:=by
  intro ad k cap hv y1;obtain⟨b',B3,u1,hB,_,c',T1,fz,hh,E0,_⟩:=x3 ad k cap hv y1;obtain⟨c2,D1,hf⟩:=hI.fresh b' (by rw[j1 b' (by rw[hB];simp)];exact R0);rw[hf]at hh;cases hh;exact⟨b',B3,u1,_,_,hf,E0⟩
 have j0:∀z∈By,z≠B/\z∉Ba++D++Bb:=fun z q=>by
  have B1:=u3 z q;refine⟨fun e=>j2 (by rw[e,q3]at B1;exact B1),fun r=>j2 (by rw[q7 z r]at B1;exact B1)⟩
 have N:∀z∈D.drop 1,z∈D:=fun z q=>anm q;have F:∀z∈By.drop 1,z∈By:=fun z q=>anm q;rw[amE]at q6;obtain⟨n0,x2⟩:=q6;have X2:=x2;rw[amm,amm]at X2;obtain⟨⟨nA,nO,E3⟩,nB,x1⟩:=X2
 have k1:∀h:Nat,h∉Ba++Bb->h≠B->h∉D.drop 1->h∉By.drop 1->(B::(Ba++(h::(D.drop 1++By.drop 1))++Bb)).Nodup:=by
  intro h h1 h2 h4 h5;simp only[e8,not_or]at h1;have b3:(D.drop 1).Nodup:=nO.sublist (ant _ _);have c3:(By.drop 1).Nodup:=J4.sublist (ant _ _);rw[amE,amm,amm,amE,amm];refine⟨?_,⟨nA,⟨fun r=>(e8.1 r).elim h4 h5,b3,c3,fun x W y hy e=> ?_⟩,fun x W y hy e=> ?_⟩,nB,fun x W y hy e=> ?_⟩;simp only[e8,et,not_or]at n0|-;exact⟨⟨n0.1.1,fun e=>h2 e.symm,fun r=>n0.1.2 (N _ r),fun r=>(j0 _ (F _ r)).1 rfl⟩,n0.2⟩;subst e;exact(j0 x (F x hy)).2 (by simp[N x W]);subst e;rcases et.1 hy with rfl|hy;exact h1.1 W;rcases e8.1 hy with hy|hy;exact E3 x W x (N x hy) rfl;exact(j0 x (F x hy)).2 (by simp[W]);subst e;rcases e8.1 W with W|W;exact x1 x (by simp[W]) x hy rfl;rcases et.1 W with rfl|W;exact h1.2 hy;rcases e8.1 W with W|W;exact x1 x (by simp[N x W]) x hy rfl;exact(j0 x (F x W)).2 (by simp[hy])
 have fin:∀ {G0:Gh} {w1 w':World} {v':Value} {Bn:List Nat},Inv w0 c0 (fun u=>U u\/u=tk) E a w1 G0->(∀c,U c->G0.hdr c=G.hdr c/\G0.bx c=G.bx c)->G0.bx tk=false->(∀z,z<w.heap.size->G0.col z=G.col z)->
  (execOp a.eval o).run P w= .ok (.value v') w'->w1.heap.size=w'.heap.size->w'.os=w1.os->w'.tape=w1.tape->w'.output=w1.output->
  (∀k,k∉D->w'.heap[k]?=w1.heap[k]?)->(∀k∈B::(Ba++Bb),w'.heap[k]?=w.heap[k]?)->(∀k∈D,∃c el,w'.heap[k]?=some (.cells c el (0,0)))->me w' e.sz (bP w' e) l (a.eval x) D->
  me w' e.sz (bP w' e) (l++l2) v' Bn->(B::(Ba++Bn++Bb)).Nodup->(∀z∈Bn,z∈D\/z∈By\/G0.col z=tk)->
  Yields w0 c0 (fun u=>U u\/u=tk) (E.elem (tk::ys) b e0 L (.row b [b] true)) a ((execOp a.eval o).run P w) (.d ⟨.sl e,l++l2,.sl (.nst b e0 i off p false)⟩):=by
  intro G0 w1 w' v' Bn z1 W1 A2 a1 hr E0 H3 J3 B2 C2 b1 A1 X3 D2 b4 c4;have s0:Good (fun u=>U u\/u=tk) G0 b:=⟨L0.1,.inl L0.2.1,by rw[(W1 b L0.2.1).2];exact L0.2.2⟩
  have e3:∀c∈tk::ys,4<=c/\Good (fun u=>U u\/u=tk) G0 c:=by
   intro c hc;rcases et.1 hc with rfl|hc;exact⟨h3,by omega,.inr rfl,A2⟩;have:=E1 c hc;exact⟨H2 c hc,this.1,.inl this.2.1,by rw[(W1 c this.2.1).2];exact this.2.2⟩
  have l1:G0.hdr b=G.hdr b:=(W1 b L0.2.1).1
  have H:∀z∈B::(Ba++D++Bb),z<w.heap.size:=by
   intro z q
   have k2:G.col z=b:=by
    rcases et.1 q with rfl|q;exact q3;exact q7 z q
   exact hI.lt z (by omega)
  have u0:∀z∈By,z<w.heap.size:=r2.bounds;have k4:b∉tk::ys:=by simp[J2,j2]
  have K:∀z∈B::(Ba++D++Bb),(G0.cu (tk::ys) b (G0.hdr b)).col z=b:=by
   intro z q
   have k2:G.col z=b:=by
    rcases et.1 q with rfl|q;exact q3;exact q7 z q
   simp only[Gh.cu,a1 z (H z q),k2];rw[a_ k4]
  have n1:∀z∈Bn,(G0.cu (tk::ys) b (G0.hdr b)).col z=b:=by
   intro z q;rcases c4 z q with h|h|h;exact K z (by simp[h]);simp only[Gh.cu,a1 z (u0 z h)];rw[an (I' _ (u3 z h))];simp only[Gh.cu,h];rw[an (by simp)]
  have j3:∀k∈Ba++Bb,w'.heap[k]?=w.heap[k]?:=fun k v=>b1 k (I' _ v);have F1:w'.heap[B]?=some (.cells cc el (0,0)):=(b1 B (by simp)).trans q4
  have n2:cr (bP w' e0) L ((cc.toList.drop of).take (n*e0.sz)) (Ba++D++Bb):=by
   have:=s3 w' l (a.eval x) D j3 X3;rw[q8,p4]at this;exact this
  have l4:=z1.ajo (ts:=tk::ys) (b:=b) (e:=e0) (l:=L) (m:= .row b [b] true) (w':=w') R0 e3 s0 (fun c hc=>by simp only[M.bc,et,amj,or_false,or_self]at hc;subst hc;exact s0) ?_ ?_ ?_ E0 H3 J3 B2;refine⟨v',w',_,hr,l4,⟨[v'],rfl,v',rfl,⟨Bn,D2,n1⟩,x4,B4,R0,s4,B,of,n,cap,cc,el,f (l++l2),Ba++Bn++Bb,by simp[Gh.cu,l1,q1],q2,K B (by simp),F1,q5,r4,w4,o4 _,s3 w' (l++l2) v' Bn j3 D2,b4,fun z q=> ?_,by simp⟩,dH.d (fun c hc=> ?_),by rintro _ _ ⟨⟩⟩;simp only[e8]at q;rcases q with(q|q)|q;exact K z (by simp[q]);exact n1 z q;exact K z (by simp[q]);simp only[Sh.bc,M.bc,et,amj,or_false]at hc;subst hc;exact⟨s0.1,s0.2.1,by simp[Gh.cu]⟩;rw[l1];refine⟨R0,by simp[Gh.cu],B::(Ba++D++Bb),?_,?_⟩;rw[q1];refine .inr ⟨B,of,cap,cc,el,(0,0),Ba++D++Bb,by rw[q9],by rw[q9];exact q2,F1,q5,rfl,by rw[q9];exact n2⟩;rintro h Bs ⟨⟩;have Y:=K;rw[l1]at Y;exact⟨Y B (by simp),n0,fun z q=>by simp[Y z (I' _ q)],fun _=>x2⟩;intro k v;by_cases r:k∈D;exact absurd (K k (by simp[r])) v;exact C2 k r;intro k v;by_cases r:k∈D;exact A1 k r;rw[C2 k r];refine z1.fresh k ?_;simp only[Gh.cu]at v;split at v;rename_i h;exact(e3 _ h).1;rw[v];exact R0
 have o0:∀k∈D,∃c el,w.heap[k]?=some (.cells c el (0,0)):=fun k v=>hI.fresh k (by rw[j1 k v];exact R0);have k3:=hI.ak5 (tk:=tk) hU;rcases afg (ty:=o.type) hu G4 u2 r1 (cr.afM w2) hlen T2 with⟨b5,hr⟩|⟨h,j,J,hv,x0,y1,hr⟩|⟨J,rest,x0,E0,hr⟩
 have n4:l2=[]:=amY.1 b5;subst n4;refine fin (Bn:=D) k3 (fun c hc=>⟨rfl,a_ (fun e:c=tk=>hU (e▸hc))⟩) (by simp) (fun _ _=>rfl) (c1 hr) rfl rfl rfl rfl (fun _ _=>rfl) (fun _ _=>rfl) o0 C1 (by simpa using C1) (amE.2 ⟨n0,x2⟩) (fun z q=> .inl q)
 obtain⟨h0,off0,u1,c2,D1,hh,E0⟩:=T2 _ _ J hv y1;cases u1;obtain⟨h1,off1,u1,hB,_,c',T1,fz,G3,_,y2⟩:=x3 _ _ J hv y1;cases u1;rw[hh]at G3;cases G3;have o2:=r1.1;have p2:=u2.1;have hmul:(l.length+l2.length)*e.sz<=J*e.sz:=aml _ x0;rw[amH]at hmul;have p0:=vL h (el:=D1) s (j+l.length*e.sz) w c2 hh (by omega);have S:h∈D:=by rw[hB];simp
 have l3:h∉D.drop 1:=by
  have:=nO;rw[hB,amE]at this;exact this.1
 have G1:h∉Ba++Bb:=by
  intro r;rcases e8.1 r with r|r;exact E3 h r h S rfl;exact x1 h (by simp[S]) h r rfl
 have o1:h≠B:=by
  rintro rfl;simp only[e8,not_or]at n0;exact n0.1.2 S
 have n3:h∉By:=fun r=>(j0 h r).2 (by simp[S]);have p1:h∉By.drop 1:=fun r=>n3 (F h r);have I:∀k,k≠h->(w.setCells h (j+l.length*e.sz) s).heap[k]?=w.heap[k]?:=fun k v=>fN h _ _ w k v;have htl:(c2.toList.take (j+l.length*e.sz)).length=j+l.length*e.sz:=by simp;omega
 have o3:((c2.toList.take (j+l.length*e.sz)++s++c2.toList.drop (j+l.length*e.sz+s.length)).drop j).take (l.length*e.sz)=xs:=by
  rw[amk,amh (by omega),amn (by simp;omega),amp,y2,amG,amC (by omega)]
 have b0:((c2.toList.take (j+l.length*e.sz)++s++c2.toList.drop (j+l.length*e.sz+s.length)).drop j).take ((l++l2).length*e.sz)=xs++s:=by
  rw[amk,amh (by omega),amp,y2];rw[show j+l.length*e.sz-j=l.length*e.sz by omega];rw[<-amk]
  have r0:(List.take (l.length*e.sz) (List.drop j c2.toList)++s).length=(l++l2).length*e.sz:=by
   rw[amX,o2,<-y2,p2,amX,amH]
  rw[<-r0,anF]
 have J1:cr (bP (w.setCells h (j+l.length*e.sz) s) e) l xs (D.drop 1):=cr.world (fun z q=>I z (fun e=>l3 (e▸q))) w3;have p3:cr (bP (w.setCells h (j+l.length*e.sz) s) e) l2 s (By.drop 1):=cr.world (fun z q=>I z (fun e=>p1 (e▸q))) w2
 refine fin (Bn:=h::(D.drop 1++By.drop 1)) k3 (fun c hc=>⟨rfl,a_ (fun e:c=tk=>hU (e▸hc))⟩) (by simp) (fun _ _=>rfl) (c1 hr) (by rw[pC]) (ir h _ _ w).1 (ir h _ _ w).2.1 (ir h _ _ w).2.2
  (fun k v=>I k (fun e=>v (e▸S))) (fun k v=>I k (fun e=> ?_)) (fun k v=> ?_) ?_ ?_ (k1 h G1 o1 l3 p1) (fun z q=> ?_)
 subst e;rcases et.1 v with v|v;exact o1 v;exact G1 v;by_cases e1:k=h;subst e1;exact⟨_,_,p0⟩;rw[I k e1];exact o0 k v;rw[hv];refine .inr ⟨h,j,J,_,D1,(0,0),D.drop 1,rfl,by omega,p0,?_,hB,?_⟩;simp;omega;show cr _ _ ((((c2.toList.take (j+l.length*e.sz)++s++c2.toList.drop (j+l.length*e.sz+s.length)).toArray.toList.drop j).take (l.length*e.sz))) _;rw[amU,o3];exact J1;refine .inr ⟨h,j,J,_,D1,(0,0),D.drop 1++By.drop 1,by simp,by simpa using x0,p0,?_,rfl,?_⟩;simp;omega;show cr _ _ ((((c2.toList.take (j+l.length*e.sz)++s++c2.toList.drop (j+l.length*e.sz+s.length)).toArray.toList.drop j).take ((l++l2).length*e.sz))) _;rw[amU,b0];exact cr.append J1 p3;rcases et.1 q with rfl|q;exact .inl S;rcases e8.1 q with q|q;exact .inl (N z q);exact .inr (.inl (F z q))
 have z1:=(hI.drawn (w.drawn+1)).alloc h3 hU (xs++s++rest).toArray ti.el (.slice (some ⟨w.heap.size,0,none⟩) (l.length+l2.length) J) false
 have r3:∀z,z<w.heap.size->(G.add w.heap.size tk (.slice (some ⟨w.heap.size,0,none⟩) (l.length+l2.length) J) false).col z=G.col z:=fun z q=>by
  simp[Gh.add,Nat.ne_of_lt q]
 have hold:∀k,k<w.heap.size->(w.drew.alloc (.cells (xs++s++rest).toArray ti.el)).heap[k]?=w.heap[k]?:=fun k v=>heap_alloc_old w.drew _ k v
 have H:∀z∈B::(Ba++D++Bb),z<w.heap.size:=by
  intro z q
  have k2:G.col z=b:=by
   rcases et.1 q with rfl|q;exact q3;exact q7 z q
  exact hI.lt z (by omega)
 have u0:∀z∈By,z<w.heap.size:=r2.bounds;have hnin:∀ {z:Nat},z<w.heap.size->z≠w.heap.size:=fun h=>Nat.ne_of_lt h;refine fin (Bn:=w.heap.size::(D.drop 1++By.drop 1)) z1 (fun c hc=> ?_) (by simp[Gh.add]) r3 (c1 hr) rfl rfl rfl rfl (fun _ _=>rfl) (fun k v=>hold k (H k ?_)) (fun k v=> ?_) ?_ ?_ (k1 _ ?_ ?_ ?_ ?_) (fun z q=> ?_);have:c≠tk:=fun e=>hU (e▸hc);simp[Gh.add,this];simp only[et,e8]at v|-;rcases v with v|v|v<;>simp[v];rw[hold k (H k (by simp[v]))];exact o0 k v;exact me.mono (fun z q=>hold z (H z (by simp[q]))) C1;refine .inr ⟨w.heap.size,0,J,_,ti.el,(0,0),D.drop 1++By.drop 1,by simp,by simpa using x0,heap_alloc_new _ _,by simpa using E0,rfl,?_⟩;have p2:=u2.1;have o2:=r1.1
 have b0:(((xs++s++rest).toArray.toList.drop 0).take ((l++l2).length*e.sz))=xs++s:=by
  have r0:(xs++s).length=(l++l2).length*e.sz:=by rw[amX,o2,p2,amX,amH]
  simp only[am3];rw[<-r0,anF]
 rw[b0];exact cr.append (cr.world (w:=w) (fun z q=>hold z (H z (by simp[N z q]))) w3) (cr.world (w:=w) (fun z q=>hold z (u0 z (F z q))) w2);intro r;exact am8 _ (H _ (by simp only[et,e8]at r|-;rcases r with h|h<;>simp[h]));exact fun e=>am8 _ (H _ (by simp[e]));exact fun r=>am8 _ (H _ (by simp[N _ r]));exact fun r=>am8 _ (u0 _ (F _ r));rcases et.1 q with rfl|q;exact .inr (.inr (by simp[Gh.add]));rcases e8.1 q with q|q;exact .inl (N z q);exact .inr (.inl (F z q))
theorem agk(hC:CxTy P C)(hI:Inv w0 c0 U E a w G){o:Oper}{t:TypeId}{x y:Operand}(ho:o.op= .store t x y){ti:TI}(h0:C.tt t=some ti){σ e:Ty}(hτ:ti.τ= .sl σ)
 {l:List e.den} {z:List σ.den} {b:Nat} {hs:List Nat} {i:Int} {off:Nat} {p:List Bool} {fr:Bool} {s of n cap:Nat} {r:e.den×Sh}
 (hx:gq w G σ z (a.eval y) (.nst b e i off p fr)) (S:gq w G e l (G.hdr b) (.row b hs true)) (j0:hs.all (·=b)=true) (W:Good U G b)
 (k2:G.hdr b= .slice (some ⟨s,of,none⟩) n cap) (k5:a.eval x= .pointer (some ⟨s,of+i.toNat*e.sz+off,none⟩))
 (hr:qJ e (l.getD i.toNat e.aa) (sR e (.sha [])) p ⟨.sl σ,z,.sl (.sha [])⟩=some r):
 ∃w' G',(execOp a.eval o).run P w= .ok .skip w'/\Inv w0 c0 U (E.elem [] b e (l.set i.toNat r.1) (.row b [b] true)) a w' G':=by
 obtain⟨⟨B,hB,hc⟩,hsub,e0,h3,hi0,blk,of',n',cap',c,el,L0,Bs,g1,g2,g3,g4,g5,g6,g7,g8,g9,D,r0,g12⟩:=hx;rw[k2]at g1;simp only[Value.slice.injEq,akK,Addr.mk.injEq,and_true]at g1;obtain⟨⟨rfl,rfl⟩,rfl,rfl⟩:=g1;obtain⟨hn,J,c',el',fz,Bs0,hh,hsz,hl,hnd,hcb,hcB⟩:=Wi S j0 k2 (by omega);rw[g4]at hh;simp only[akK,Obj.cells.injEq]at hh;obtain⟨rfl,rfl,rfl⟩:=hh;have hi:i.toNat<l.length:=by omega
 have Y:l[i.toNat]?=some (l.getD i.toNat e.aa):=by
  rw[f_,ali hi];rfl
 obtain⟨B1,Bx,B2,rfl,s0,u0,x0⟩:=cr.get (sz:=e.sz) (fun x c B h=>bP.len h) hl Y;obtain⟨Ba,Bo,Bb,rfl,K,hle⟩:=bP.put (v:=⟨.sl σ,z,.sl (.sha [])⟩) (cv:=[a.eval y]) hr s0 (show bP w (.sl σ) z [a.eval y] B from⟨_,rfl,hB⟩);have j:=cr.set (sz:=e.sz) hi K u0 x0;have hmul:(i.toNat+1)*e.sz<=l.length*e.sz:=aml _ hi;have hmul2:l.length*e.sz<=cap*e.sz:=aml _ J;rw[amH,amT]at hmul;rw[e0]at K j hle
 have n0:lQ (i.toNat*e.sz+off) [a.eval y] ((c.toList.drop of).take (l.length*e.sz))=
  ((c.toList.drop of).take (l.length*e.sz)).take (i.toNat*e.sz)++lQ off [a.eval y] ((((c.toList.drop of).take (l.length*e.sz)).drop (i.toNat*e.sz)).take e.sz)++((c.toList.drop of).take (l.length*e.sz)).drop ((i.toNat+1)*e.sz):=by
  rw[Oc (sz:=e.sz) (by simpa using g7),amH,amT]
 rw[<-n0]at j;rw[<-hn]at j;have hL:L0=l.set i.toNat r.1:=cr.UN (sz:=e.sz) (fun x c B h=>bP.len h) (fun x c B h=>bP.len h) (fun x x' c B B' h h'=>bP.UN h h') g9 j (by simp;omega);subst hL;have hO:of+i.toNat*e.sz+off+1<=c.size:=by omega
 have q:=vL s (el:=el) [a.eval y] (of+i.toNat*e.sz+off) w c g4 (by simpa using hO);have hT:=(hC.tt t ti h0).1;have b0:(a.eval y).oneCell'=true:=hB.one;have H:=Oj (P:=P) (t:=t) (τ:=ti.τ) hT g4 (o:=of+i.toNat*e.sz+off) (cs:=[a.eval y]) (by rw[hτ];simpa[Ty.sz]using hO) (by rw[hτ];rfl) (by simpa using b0) k5;have d:∀k,k≠s->(w.setCells s (of+i.toNat*e.sz+off) [a.eval y]).heap[k]?=w.heap[k]?:=fun k F=>fN s _ _ w k F;rw[amE]at D;have I:∀k,(G.cu [] b (G.hdr b)).col k=G.col k:=fun k=>by simp[Gh.cu]
 have o0:=hI.ajo (ts:=[]) (b:=b) (e:=e) (l:=l.set i.toNat r.1) (m:= .row b [b] true) (w':=w.setCells s (of+i.toNat*e.sz+off) [a.eval y]) h3 (by simp) W
  (fun c hc=>by simp only[M.bc,et,amj,or_false,or_self]at hc;subst hc;exact W) ?_ (fun k F=>d k (fun N=>F (by rw[I,N,g3]))) (fun k F=> ?_)
  (by rw[pC]) (ir _ _ _ w).1 (ir _ _ _ w).2.1 (ir _ _ _ w).2.2
 refine⟨_,_,?_,o0⟩;simp only[execOp,ho];have p0:kE ti.τ [a.eval y]=a.eval y:=by rw[hτ];rfl
 rw[p0]at H;simp[H];rw[k2];refine⟨h3,by simp[Gh.cu],s::Bs,.inr ⟨s,of,cap,_,el,(0,0),Bs,by simp[hn],by simpa using J,q,by simp;omega,rfl,?_⟩,?_⟩;show cr _ _ ((((c.toList.take (of+i.toNat*e.sz+off)++[a.eval y]++c.toList.drop (of+i.toNat*e.sz+off+ [a.eval y].length)).toArray.toList.drop of).take ((l.set i.toNat r.1).length*e.sz))) _;rw[amU]
 have u:((lQ (of+i.toNat*e.sz+off) [a.eval y] c.toList).drop of).take ((l.set i.toNat r.1).length*e.sz)=lQ (i.toNat*e.sz+off) [a.eval y] ((c.toList.drop of).take (n*e.sz)):=by
  rw[R7 (by omega) (by simp;omega),Sn (by simp;omega) (by simp;omega),show of+i.toNat*e.sz+off-of=i.toNat*e.sz+off by omega];simp[hn]
 show cr _ _ (((lQ (of+i.toNat*e.sz+off) [a.eval y] c.toList).drop of).take ((l.set i.toNat r.1).length*e.sz)) _;rw[u];exact cr.world (fun k F=>d k (fun N=>D.1 (N▸F))) g9;rintro h Bs' ⟨⟩;exact⟨by simp[Gh.cu,g3],D.1,fun x hx=>by simp[Gh.cu,r0 x hx],fun _=>D.2⟩;by_cases N:k=s;subst N;exact⟨_,_,q⟩;rw[d k N];rw[I]at F;exact hI.fresh k (by rw[F];exact h3)
theorem agD(hC:JR P C)(I:Inv w0 c0 U E a w G)(hR:RI ops E a.tmps){tk:Nat}(h3:4<=tk)(hU:∀u,tk<=u->u<tk+32->¬U u){o:Oper}{ef:Ef}
 (h:Ly C ops E.rd tk o=some ef):EfS P w0 c0 (fun u=>U u\/(tk<=u/\u<tk+32)) E a ((execOp a.eval o).run P w) ef:=by
 have e0:=hC.toCxTy;have hg:Gd ops a.tmps none:=by rintro j w' ⟨⟩
 unfold Ly at h;split at h
 rename_i t x ho;split at h;rename_i ti b e i off p τ J K;split at h;rename_i l hs nd s;obtain⟨hc,h⟩:=Option.ite_none_right_eq_some.mp h;split at h;rename_i σ z sh Y;simp only[akK]at h;subst h;simp only[y_,b_]at hc;obtain⟨⟨⟨⟨rfl,F⟩,_⟩,rfl⟩,H⟩:=hc;obtain⟨h1,_⟩:=rb I hR hg K;obtain⟨bk,of,n,cap,G0,k2,k3,k4,k5⟩:=h1;obtain⟨⟨vh,k⟩,q⟩:=I.od s;have D:vh=G.hdr b:=k.2.1.symm;rw[D]at k
 have N:ti.τ= .sl σ:=by
  have:=Uj Y;rw[H]at this;simpa using this
 rw[N]at H;obtain⟨c,el,z',v,g1,g2,g3,g4⟩:=afS k F k2 k3 k4 H I;have hT:=(e0.tt t ti J).1
 have j0:(execOp a.eval o).run P w= .ok (.value v) w:=by
  have hl:=Fq hT g1 (o:=of+i.toNat*e.sz+e.off p) (by rw[N];exact g2);rw[N,show(Ty.sl σ).sz=1 from rfl,g3,show kE (.sl σ) [v]=v from rfl]at hl;simp only[execOp,ho];refine nV ?_;simp only[Instr.loadAt,k5,Instr.sureAddr];simpa using hl
 have hz:z'=z:=by
  obtain⟨_,hcap,c2,el2,fz,Bs,hh,hsz,hl,_⟩:=Wi k F k2 (by omega);rw[g1]at hh;simp only[akK,Obj.cells.injEq]at hh;obtain⟨rfl,rfl,rfl⟩:=hh;have hi:i.toNat<l.length:=toNat_lt k3 (by obtain⟨hn,_⟩:=Wi k F k2 (by omega);rw[<-hn];exact k4);obtain⟨f,z2,Ba,Bo,Bb,q1,_,q3,q4,_,_⟩:=cr.place hl hi H;simp only[Ty.sz]at q3 q4;rw[amp,amG,amF,amC (by omega),<-am7,g3]at q3
  have n0:l[i.toNat]?=some (l.getD i.toNat e.aa):=by
   rw[f_,ali hi];rfl
  obtain⟨B1,Bx,B2,_,L0,_,_⟩:=cr.get (sz:=e.sz) (fun x c B h=>bP.len h) hl n0;have S:=Xz Y L0;obtain⟨Bv,S⟩:=S;have hmul:(i.toNat+1)*e.sz<=l.length*e.sz:=aml _ hi;rw[amH,amT]at hmul;have u0:=SA H;simp only[Ty.sz]at S u0;rw[amp,amG,amF,amC (by omega),amp,amG,amF,amC (by omega),<-am7,g3]at S;obtain⟨⟨B4,g4,_⟩,_⟩:=g4;exact bP.UN (show bP w (.sl σ) z' [v] B4 from⟨v,rfl,g4⟩) S
 subst hz
 exact kB (I.mono (fun u hu=> .inl hu)) j0 ⟨[v],rfl,v,rfl,g4⟩ (dH.d (fun c hc=>by
  simp only[Sh.bc,M.bc,amI]at hc;subst hc;have:=q c (by simp);exact⟨this.1,.inl this.2.1,this.2.2⟩)) (by rintro _ _ ⟨⟩)
 cases h;cases h;cases h
 rename_i t x y ho;split at h;rename_i ti b e i off p τ σ z b' e' i' off' p' fr J K hv;split at h;rename_i l hs nd s;obtain⟨hc,h⟩:=Option.ite_none_right_eq_some.mp h;obtain⟨r,hr,h⟩:=N_.mp h;subst h;simp only[y_,b_]at hc;obtain⟨⟨⟨⟨⟨⟨⟨⟨⟨rfl,F⟩,rfl⟩,rfl⟩,rfl⟩,rfl⟩,hoff⟩,H⟩,R0⟩,hτ⟩:=hc;intro b0;have x0:i=i':=e_ b0;subst x0;obtain⟨h1,_⟩:=rb I hR hg K;obtain⟨bk,of,n,cap,G0,k2,k3,k4,k5⟩:=h1;obtain⟨⟨vh,k⟩,q⟩:=I.od s;have D:vh=G.hdr b':=k.2.1.symm;rw[D]at k;obtain⟨m,hm,hx,_,_⟩:=Ai I hR hg hv;cases hm;obtain⟨w',G',q1,q2⟩:=agk e0 I ho J (hτ.symm.trans R0.symm) hx k F (q b' (by simp)) k2 k5 hr;exact .inr ⟨rfl,w',G',q1,q2.mono fun u hu=> .inl hu⟩;cases h;cases h
 rename_i c ho;split at h;rename_i x y t u hb ha p0;have h0:c.args= #[x,y]:=anB (by simpa using ha);have o0:c.argTypes= #[t,u]:=anB (by simpa using p0);split at h;rename_i ti e l b E0 i off p e' l' m' J hx hy;split at h;rename_i l2 L hs nd ys r0 s s0;have W:=mR r0;simp only[TV.mk.injEq]at W;obtain⟨he,hl,_⟩:=W;cases he;cases hl;obtain⟨hc,h⟩:=Option.ite_none_right_eq_some.mp h;simp only[akK]at h;subst h;simp only[y_,b_,ami,F_,d_]at hc;obtain⟨⟨⟨⟨rfl,F⟩,a1⟩,hτ⟩,rfl⟩:=hc;intro b0;have hlen:l.length+l2.length<4294967296:=e_ b0;obtain⟨mx,b1,c1,_,_⟩:=Ai I hR hg hx;cases b1;obtain⟨my,e1,j1,_,k1⟩:=Ai I hR hg hy;cases e1;obtain⟨⟨vh,k⟩,q⟩:=I.od s;have D:vh=G.hdr b:=k.2.1.symm;rw[D]at k;exact .inl ((ajA e0 I h3 (hU tk (j_ _) (by omega)) ho hb h0 o0 J hτ c1 j1 k1 s0 a1 k (q b (by simp)) hlen).mono fun u hu=>hu.imp id fun e=>by omega);cases h;cases h;cases h;cases h
def aek{R:Rd}{tk:Nat}{o:Oper}{gv:List Nat}{b:Nat}{e:Ty}{l:List e.den}{m:M}(h:Ly C ops R tk o=some (.elem gv b e l m)):False:=by
 unfold Ly at h;split at h;split at h;split at h;obtain⟨_,h⟩:=Option.ite_none_right_eq_some.mp h;split at h<;>cases h;cases h;cases h;split at h;split at h;obtain⟨_,h⟩:=Option.ite_none_right_eq_some.mp h;obtain⟨r,_,h⟩:=N_.mp h;cases h;cases h;cases h;split at h;split at h;split at h;obtain⟨_,h⟩:=Option.ite_none_right_eq_some.mp h;cases h;cases h;cases h;cases h;cases h
def ahQ{R:Rd}{tk:Nat}{o:Oper}{gv:List Nat}{b:Nat}{e:Ty}{l:List e.den}{m:M}(h:D3 C ops R tk g o=some (.elem gv b e l m)):dY C ops R tk g o=some (.elem gv b e l m):=by
 unfold D3 at h;split at h;split at h;rename_i ef c;cases h;exact(aek c).elim;exact h;exact h
def ZM(b:JR P C)(c:Inv w0 c0 U E a w G)(d:RI ops E a.tmps)(j:Gd ops a.tmps g){tk:Nat}(e:4<=tk)(i:∀u,tk<=u->u<tk+32->¬U u){o:Oper}{k:Ef}
 (h:D3 C ops E.rd tk g o=some k):EfS P w0 c0 (fun u=>U u\/(tk<=u/\u<tk+32)) E a ((execOp a.eval o).run P w) k:=by
 unfold D3 at h;split at h;split at h;rename_i ef' l;cases h;exact agD b c d e i l;exact acj b c d j e i h;exact acj b c d j e i h
end
section
variable{P:Program}{C:Cx}{w0:World}{c0:C0}{U:Nat->Prop}{E:Env}{a:Act}{w:World}{G:Gh}{ops:List Oper}{g:Option (Nat×Bool)}{L:Nat->Prop}
def Gq(ops:List Oper)(L:Nat->Prop)(E:Env)(tmps:Array Value):Prop:=
 ∀s j w act v,E.s.getD s .no= .g j w act v->(act=true↔yielded ops.toArray tmps j=some w)/\L j/\∃o∈ops,∃w',o.guard=some (j,w')
theorem Gq.ri{tmps:Array Value}(h:Gq ops L E tmps):RI ops E tmps:=fun s j w act v hs=>(h s j w act v hs).1
theorem Gq.map{tmps:Array Value}(h:Gq ops L E tmps){E':Env}(q:∀s j w act v,E'.s.getD s .no= .g j w act v->∃p,E.s.getD s .no= .g j w act p):Gq ops L E' tmps:=by
 intro s j w act v hs;obtain⟨p,u⟩:=q s j w act v hs;exact h s j w act p u
def Tq{f:M->M}{fe:Nat->Bool}{fr:List Nat->Option (List Nat)}{s:SV}{j:Nat}{w act:Bool}{v:SV}(h:s.mapM f fe fr= .g j w act v):∃b,s= .g j w act b:=by
 cases s with
 |g j' w' act' u=>simp only[SV.mapM,SV.g.injEq]at h;obtain⟨rfl,rfl,rfl,_⟩:=h;exact⟨u,rfl⟩
 |ept t' e i o p τ=>simp only[SV.mapM]at h;split at h<;>cases h
 |rdp hs v=>simp only[SV.mapM]at h;split at h<;>cases h
 |_=>simp[SV.mapM]at h
def ac9{b:Nat}{e:Ty}{y:List e.den}{m:M}{s:SV}{j:Nat}{w act:Bool}{v:SV}(h:s.setRow b e y m= .g j w act v):∃c,s= .g j w act c:=by
 cases s with
 |g j' w' act' u=>simp only[SV.setRow,SV.g.injEq]at h;obtain⟨rfl,rfl,rfl,_⟩:=h;exact⟨u,rfl⟩
 |rdp hs v=>simp only[SV.setRow]at h;split at h<;>cases h
 |_=>simp[SV.setRow]at h
def abU{ts:List Nat}{s j:Nat}{w act:Bool}{v:SV}(h:(E.kill ts).s.getD s .no= .g j w act v):∃b,E.s.getD s .no= .g j w act b:=by
 rw[Env.UJ]at h;split at h;exact⟨v,h⟩;exact Tq h
def afh{ts:List Nat}{d:List (Nat×Nat)}{s j:Nat}{w act:Bool}{v:SV}(h:(E.ib ts d).s.getD s .no= .g j w act v):∃k,E.s.getD s .no= .g j w act k:=by
 rcases VK E ts d s with c|⟨b,b',e,i,o,p,τ,_,_,c⟩;rw[c]at h;exact abU h;have:=c.symm.trans h;cases this
def akR{ts:List Nat}{t s j:Nat}{w act:Bool}{v:SV}(h:(E.cu ts t).s.getD s .no= .g j w act v):∃b,E.s.getD s .no= .g j w act b:=by
 unfold Env.cu at h;split at h;exact⟨v,h⟩;have:=getD_map (L:=E.s) (T:=SV.cu ts t) rfl s;rw[this]at h;exact Tq h
def acp{gv:List Nat}{b:Nat}{e:Ty}{l:List e.den}{m:M}{s j:Nat}{w act:Bool}{v:SV}(h:(E.elem gv b e l m).s.getD s .no= .g j w act v):∃c,E.s.getD s .no= .g j w act c:=by
 have:=getD_map (L:=E.s) (T:=fun s=>((s.cu gv b).fD b).setRow b e l m) rfl s;simp only[Env.elem]at h;rw[this]at h;obtain⟨v1,d⟩:=ac9 h;obtain⟨v2,i⟩:=Tq d;exact Tq i
def Yr{l:List (Nat×Nat×TV)}{K:List SV}{s j:Nat}{w act:Bool}{v:SV}(h:(fB l K).getD s .no= .g j w act v):K.getD s .no= .g j w act v:=by
 rcases QY l K s with b|⟨t,u,_,b⟩;rw[<-b];exact h;rw[b]at h;cases h
def aei{a:Act}{d:Option Nat}{v:Value}{j:Nat}(h:∀x,d=some x->(ops[j]?).bind (·.dst)≠some x):
 yielded ops.toArray (a.put d v).tmps j=yielded ops.toArray a.tmps j:=by
 cases d with
 |none=>rfl
 |some d=>
  unfold yielded;simp only[amL];cases c:(ops[j]?).bind (·.dst)with
  |none=>rfl
  |some s=>
   have b:d≠s:=fun e=>h d rfl (by rw[c,e]);simp[Act.put,Array.getElem?_setIfInBounds_ne b]
def abh(h:xo ops=true){o:Oper}(q:o∈ops){j:Nat}{w:Bool}(r:o.guard=some (j,w)){i:Nat}{b:Oper}(hi:ops[i]?=some b)(c:i≠j):
 ∀x,b.dst=some x->(ops[j]?).bind (·.dst)≠some x:=by
 intro x m;unfold xo at h;rw[Q']at h;obtain⟨k,s,rfl⟩:=List.mem_iff_getElem.1 q;have:=h (ops[k],k) (amR.2 (ali s));simp only[r,y_]at this;obtain⟨_,this⟩:=this;split at this;cases this;rename_i d p;rw[Q']at this;have l:=this (b,i) (amR.2 hi);simp only[am2,b_,c,false_or]at l;intro e;rw[p]at e;cases e;exact l m
def Ol(h:xo ops=true){i:Nat}{o:Oper}(hi:ops[i]?=some o){j:Nat}{w:Bool}(b:o.guard=some (j,w)):j<i:=by
 unfold xo at h;rw[Q']at h;have:=h (o,i) (amR.2 hi);simp only[b,y_,b_]at this;exact this.1
def Un(F:Inv w0 c0 U E a w G){j:Nat}{w':Bool}{act:Option Bool}(h:guardOf ops E.rd (some (j,w'))=some act):
 ∃b,act=some b/\(b=true↔yielded ops.toArray a.tmps j=some w'):=by
 simp only[guardOf]at h;split at h;cases h;rename_i s hs;have e:=F.slots s
 have l:∀x:Bool,a.tmps.getD s undef= .bool x->yielded ops.toArray a.tmps j=some x:=by
  intro x c;unfold yielded;simp only[amL,hs,am0];rw[am6]at c;cases p:a.tmps[s]? with
  |none=>rw[p]at c;cases c
  |some v=>rw[p]at c;simp at c;rw[c]
 have q:a.tmps.getD s undef=undef->yielded ops.toArray a.tmps j=none:=by
  intro c;unfold yielded;simp only[amL,hs,am0];rw[am6]at c;cases p:a.tmps[s]? with
  |none=>rfl
  |some v=>rw[p]at c;simp at c;rw[c];rfl
 have i:∀ {x:Bool} {k:Sh} {u:Value},gQ w G (.d ⟨.bool,x,k⟩) u->u= .bool x:=by
  intro x k u r;obtain⟨H,I,z⟩:=r;cases k with
  |leaf=>rw[I,show H=_ from z];rfl
  |sl m=>exact z.elim
  |pair a b=>exact z.elim
 split at h;rename_i x k c;cases h
 have r:E.s.getD s .no= .d ⟨.bool,x,k⟩:=by
  have:fJ (E.s.getD s .no)= .d ⟨.bool,x,k⟩:=c;cases p:E.s.getD s .no with
  |d v=>rw[p]at this;exact this
  |_=>rw[p]at this;simp[fJ]at this
 rw[r]at e;refine⟨_,rfl,?_⟩;rw[l x (i e)];simp;rename_i j' w'' t x k c;cases h;obtain⟨B,r,D⟩:=afl (sv:=E.s.getD s .no) c
 have y:B= .d ⟨.bool,x,k⟩:=by
  cases B with
  |d v=>exact D.symm
  |_=>simp[fJ]at D
 subst y;rw[r]at e;refine⟨_,rfl,?_⟩;cases t with
 |true=>
  rw[l x (i (e.1 rfl).2)];simp
 |false=>
  rw[q (e.2 rfl)];simp
 cases h
def UE(v:SV)(o:Option (Nat×Bool)):nE o none v=v.zZ:=by
 unfold nE;split<;>simp_all
def akh{v:SV}{mv:Value}(hs:gQ w G v mv)(b:dH U G v):gQ w G v.zZ mv/\dH U G v.zZ:=by
 cases v with
 |g=>exact⟨trivial,by simp[dH,SV.zZ,SV.sc,SV.bt,SV.rt]⟩
 |_=>exact⟨hs,b⟩
def ajE{v:SV}{t:Nat}{u:TV}(h:v.zZ= .box t u):v= .box t u:=by
 cases v with
 |g=>cases h
 |_=>exact h
def ajr{v u:SV}{j:Nat}{w act:Bool}:v.zZ≠ .g j w act u:=by
 cases v<;>simp[SV.zZ]
def afk{v:SV}{mv:Value}{j:Nat}{w':Bool}(hs:gQ w G v mv)(c:dH U G v):gQ w G (nE (some (j,w')) (some true) v) mv/\dH U G (nE (some (j,w')) (some true) v)/\∀t u,nE (some (j,w')) (some true) v≠ .box t u:=by
 unfold nE;cases b:v.mq with
 |true=>simp only[b,if_true];exact⟨trivial,by simp[dH,SV.sc,SV.bt,SV.rt],by simp⟩
 |false=>
  simp only[b,amO,if_false];exact⟨⟨fun _=>⟨b,hs⟩,fun e=>absurd e (by simp)⟩,by simpa[dH,SV.sc,SV.bt,SV.rt]using c,by simp⟩
def ae2{v:SV}{j:Nat}{w':Bool}:gQ w G (nE (some (j,w')) (some false) v) undef/\dH U G (nE (some (j,w')) (some false) v)/\∀t u,nE (some (j,w')) (some false) v≠ .box t u:=by
 unfold nE;cases b:v.mq with
 |true=>simp only[b,if_true];exact⟨trivial,by simp[dH,SV.sc,SV.bt,SV.rt],by simp⟩
 |false=>
  simp only[b,amO,if_false];exact⟨⟨fun e=>absurd e (by simp),fun _=>rfl⟩,by simp[dH,SV.sc,SV.bt,SV.rt],by simp⟩
end
section
variable{P:Program}{C:Cx}{w0:World}{c0:C0}{U:Nat->Prop}{E:Env}{a:Act}{w:World}{G:Gh}{ops:List Oper}{L:Nat->Prop}{Q:Exit->Act->World->Prop}
theorem Gq.put(h:Gq ops L E a.tmps){i:Nat}{o:Oper}(hi:ops[i]?=some o)(D:xo ops=true)(H:¬L i)(J:∀j w',o.guard=some (j,w')->L j){sv:SV}{mv:Value}
 (S:∀j w' act v,sv= .g j w' act v->(act=true↔yielded ops.toArray a.tmps j=some w')/\o.guard=some (j,w')):
 Gq ops (fun j=>L j\/j=i) (E.set o.dst sv) (a.put o.dst mv).tmps:=by
 have y:o∈ops:=amD hi
 have p:∀j,L j->(∃B∈ops,∃w',B.guard=some (j,w'))->yielded ops.toArray (a.put o.dst mv).tmps j=yielded ops.toArray a.tmps j:=by
  rintro j N ⟨B,ho',w',hw'⟩;exact aei (abh D ho' hw' hi (fun e=>H (e▸N)))
 intro s j w' act v hs
 have q:E.s.getD s .no= .g j w' act v\/sv= .g j w' act v:=by
  cases K:o.dst with
  |none=>rw[K]at hs;exact .inl hs
  |some d=>
   rw[K]at hs;simp only[Env.set,mY]at hs;split at hs;exact .inr hs;exact .inl hs
 rcases q with hs|hs;obtain⟨I,u,z⟩:=h s j w' act v hs;rw[p j u z];exact⟨I,.inl u,z⟩;obtain⟨I,u⟩:=S j w' act v hs;have z:∃B∈ops,∃w',B.guard=some (j,w'):=⟨o,y,w',u⟩
 rw[p j (J j w' u) z];exact⟨I,.inl (J j w' u),z⟩
def kZ{i:Nat}{o:Oper}(b:ops[i]?=some o){K:Act->World->Prop}(c:Region.wanted o (yielded ops.toArray a.tmps)=true)(h:o.wp P a w K Q):wpOp P ops.toArray Q i K a w:=by
 unfold wpOp;simp only[amL,b,c,if_true];exact .inl h
def Ka{o:Oper}{K:Act->World->Prop}{R:Value->World->Prop}(h:Enters P ((execOp a.eval o).run P w) R)(c:∀v w',R v w'->K (a.put o.dst v) w'):o.wp P a w K Q:=by
 unfold Oper.wp;unfold Enters at h;split at h;rename_i f args d b;rw[b];exact Calls.mono h (fun e w' ⟨v,h1,h2⟩=>by subst h1;exact c v w' h2);rename_i v d b;rw[b];exact c _ _ h;exact h.elim
def F4{E':Env}{o:Oper}{K:Act->World->Prop}{sv:SV}(h:Yields w0 c0 U E' a ((execOp a.eval o).run P w) sv)
 (c:∀v w' G',Inv w0 c0 U E' a w' G'->gQ w' G' sv v->dH U G' sv->(∀t u,sv= .box t u->∀s b,E'.s.getD s .no≠ .box t b)->K (a.put o.dst v) w'):o.wp P a w K Q:=by
 obtain⟨d,w',G',e,i,j,k,l⟩:=h;unfold Oper.wp;rw[e];exact c d w' G' i j k l
def afb(hC:JR P C){i:Nat}{o:Oper}(ho:ops[i]?=some o)(hI:Inv w0 c0 U E a w G)(H:Gq ops L E a.tmps)(hL:∀j w',o.guard=some (j,w')->L j)(e0:¬L i)(h0:xo ops=true)
 {tk:Nat} (h3:4<=tk) (hU:∀u,tk<=u->u<tk+32->¬U u) {act:Option Bool} {ef:Ef} (S:guardOf ops E.rd o.guard=some act) (Y:D3 C ops E.rd tk o.guard o=some ef)
 {E':Env} (d:dT o act E some ef=some E') {K:Act->World->Prop}
 (hK:∀a' w' G',Inv w0 c0 (fun u=>U u\/(tk<=u/\u<tk+32)) E' a' w' G'->Gq ops (fun j=>L j\/j=i) E' a'.tmps->(∃v,a'=a.put o.dst v)->K a' w'):wpOp P ops.toArray Q i K a w:=by
 have j0:=hI.mono (U':=fun u=>U u\/(tk<=u/\u<tk+32)) (fun u hu=> .inl hu);cases k:o.guard with
 |none=>
  rw[k]at S Y;simp only[guardOf,akK]at S;subst S;have r:Region.wanted o (yielded ops.toArray a.tmps)=true:=by simp[Region.wanted,k]
  have J:=ZM hC hI H.ri (g:=none) (by rintro j w' ⟨⟩) h3 hU Y;refine kZ ho r ?_
  have fin:∀ {E1:Env} {sv:SV} {mv:Value} {w':World} {G':Gh},Gq ops L E1 a.tmps->E'=E1.set o.dst sv.zZ->Inv w0 c0 (fun u=>U u\/(tk<=u/\u<tk+32)) E1 a w' G'->gQ w' G' sv mv->
   dH (fun u=>U u\/(tk<=u/\u<tk+32)) G' sv->(∀t u,sv= .box t u->∀s u',E1.s.getD s .no≠ .box t u')->K (a.put o.dst mv) w':=by
   intro E1 sv mv w' G' r1 N q B D F;obtain⟨k1,W⟩:=akh B D;refine hK _ _ G' ?_ ?_ ⟨_,rfl⟩;rw[N];exact q.put o.dst k1 W.1 W.2.1 W.2.2 (fun t u e=>F t u (ajE e));rw[N];exact r1.put ho h0 e0 hL (fun j w' act v e=>absurd e ajr)
  have skip:∀ {E1:Env} {w':World} {G':Gh},Gq ops L E1 a.tmps->E'=E1->o.dst=none->Inv w0 c0 (fun u=>U u\/(tk<=u/\u<tk+32)) E1 a w' G'->K (a.put o.dst undef) w':=by
   intro E1 w' G' r1 N hd q;refine hK _ _ G' ?_ ?_ ⟨_,rfl⟩;rw[N,hd];exact q;rw[N,hd];intro s j w' act v hs;obtain⟨q1,q2,q3⟩:=r1 s j w' act v hs;exact⟨q1,.inl q2,q3⟩
  cases ef with
  |val v=>
   simp only[dT,akK]at d;rw[UE]at d;exact F4 J (fun mv w' G' q B D F=>fin H d.symm q B D F)
  |chk c v=>
   simp only[dT]at d;split at d;rename_i hc;simp only[akK]at d;rw[UE]at d;exact F4 (J hc) (fun mv w' G' q B D F=>fin H d.symm q B D F);cases d
  |opt α z x f=>
   simp only[dT,amq,akK]at d;obtain⟨y,I,d⟩:=d;rw[UE]at d;exact Ka (J y I) (fun mv w' ⟨G',q,B,D,F⟩=>fin H d.symm q B D F)
  |put b s v=>
   simp only[dT]at d;split at d;rename_i hc;simp only[akK]at d;simp only[amJ,ann,anb]at hc;obtain⟨w',G',h1,h2⟩:=J;unfold Oper.wp;rw[h1];refine skip (E1:={E with s:=E.s.set s (.box b v)}) (H.map (fun s' j w' act u h=> ?_)) d.symm hc h2;simp only[mY]at h;split at h;cases h;exact⟨u,h⟩;cases d
  |app c kl gv t v=>
   simp only[dT,amJ,if_true]at d;split at d;rename_i hc;simp only[akK]at d
   exact F4 (J hc) (fun mv w' G' q B D F=>fin (H.map (fun s j w' act u h=>by
    obtain⟨v1,h1⟩:=akR h;exact abU h1)) d.symm q B D F)
   cases d
  |elem gv b e l m=>
   simp only[dT]at d;split at d;rename_i hc;simp only[akK]at d;simp only[amJ,ann,anb]at hc;obtain⟨w',G',h1,h2⟩:=J;unfold Oper.wp;rw[h1];exact skip (H.map (fun s j w' act u h=>acp h)) d.symm hc h2;cases d
  |nap c gv b e l m v=>
   simp only[dT,amJ,if_true]at d;split at d;rename_i hc;simp only[akK]at d;rcases J hc with hY|⟨rfl,w',G',h1,h2⟩;exact F4 hY (fun mv w' G' q B D F=>fin (H.map (fun s j w' act u h=>acp h)) d.symm q B D F);unfold Oper.wp;rw[h1];exact fin (sv:= .no) (mv:=undef) (H.map (fun s j w' act u h=>acp h)) d.symm h2 trivial (by simp[dH,SV.sc,SV.bt,SV.rt]) (by rintro _ _ ⟨⟩);cases d
  |call α x b0 f rp=>
   simp only[dT,amJ,if_true,amq,akK]at d;obtain⟨y,I,d⟩:=d;exact Ka (J y I) (fun mv w' ⟨G',q,B,D,F⟩=>fin (E1:={E.ib b0 (rp y)with s:=fB (f y).2 (E.ib b0 (rp y)).s}) (H.map (fun s j w' act u h=>afh (Yr h))) d.symm q B D F)
 |some p=>
  obtain⟨j,w'⟩:=p;rw[k]at S Y;obtain⟨b,rfl,hb⟩:=Un hI S;have hj:=hL j w' k;cases b with
  |true=>
   have I:=hb.1 rfl;have r:Region.wanted o (yielded ops.toArray a.tmps)=true:=by simp[Region.wanted,k,I]
   have J:=ZM hC hI H.ri (g:=some (j,w')) (by rintro j1 w1 ⟨⟩;exact I) h3 hU Y;refine kZ ho r ?_
   have fin:∀ {sv:SV} {mv:Value} {w1:World} {G':Gh},E'=E.set o.dst (nE (some (j,w')) (some true) sv)->Inv w0 c0 (fun u=>U u\/(tk<=u/\u<tk+32)) E a w1 G'->gQ w1 G' sv mv->
    dH (fun u=>U u\/(tk<=u/\u<tk+32)) G' sv->K (a.put o.dst mv) w1:=by
    intro sv mv w1 G' N q B D;obtain⟨k1,W,k3⟩:=afk (j:=j) (w':=w') B D;refine hK _ _ G' ?_ ?_ ⟨_,rfl⟩;rw[N];exact q.put o.dst k1 W.1 W.2.1 W.2.2 (fun t u e=>absurd e (k3 t u));rw[N];refine H.put ho h0 e0 hL (fun j1 w1 act v e=> ?_);unfold nE at e;simp only at e;split at e;cases e;simp only[SV.g.injEq]at e;obtain⟨rfl,rfl,rfl,_⟩:=e;exact⟨⟨fun _=>I,fun _=>rfl⟩,k⟩
   cases ef with
   |val v=>
    simp only[dT,akK]at d;rw[k]at d;exact F4 J (fun mv w' G' q B D _=>fin d.symm q B D)
   |chk c v=>
    simp only[dT]at d;split at d;rename_i hc;simp only[akK]at d;rw[k]at d;exact F4 (J (by simpa using hc)) (fun mv w' G' q B D _=>fin d.symm q B D);cases d
   |opt α z x f=>
    simp only[dT,if_true,amq,akK]at d;obtain⟨y,I,d⟩:=d;rw[k]at d;exact Ka (J y I) (fun mv w' ⟨G',q,B,D,F⟩=>fin d.symm q B D)
   |put b s v=>simp[dT]at d
   |app c kl gv t v=>simp[dT]at d
   |elem gv b e l m=>simp[dT]at d
   |nap c gv b e l m v=>simp[dT]at d
   |call α x b0 f rp=>simp[dT]at d
  |false=>
   have I:yielded ops.toArray a.tmps j≠some w':=fun h=>by have:=hb.2 h;cases this
   have r:Region.wanted o (yielded ops.toArray a.tmps)=false:=by
    simp only[Region.wanted,k];simpa using I
   have fin:∀ {sv:SV},E'=E.set o.dst (nE (some (j,w')) (some false) sv)->K (a.put o.dst undef) w:=by
    intro sv N;obtain⟨k1,W,k3⟩:=ae2 (w:=w) (G:=G) (U:=fun u=>U u\/(tk<=u/\u<tk+32)) (v:=sv) (j:=j) (w':=w');refine hK _ _ G ?_ ?_ ⟨_,rfl⟩;rw[N];exact j0.put o.dst k1 W.1 W.2.1 W.2.2 (fun t u e=>absurd e (k3 t u));rw[N];refine H.put ho h0 e0 hL (fun j1 w1 act v e=> ?_);unfold nE at e;simp only at e;split at e;cases e;simp only[SV.g.injEq]at e;obtain⟨rfl,rfl,rfl,_⟩:=e;exact⟨⟨fun h=>absurd h (by simp),fun h=>absurd h I⟩,k⟩
   unfold wpOp;simp only[amL,ho,r,amO,if_false];cases ef with
   |val v=>
    simp only[dT,akK]at d;rw[k]at d;exact fin d.symm
   |chk c v=>
    simp only[dT]at d;split at d;simp only[akK]at d;rw[k]at d;exact fin d.symm;cases d
   |opt α z x f=>
    simp only[dT,amq,akK]at d;obtain⟨y,I,d⟩:=d;rw[k]at d;exact fin d.symm
   |put b s v=>simp[dT]at d
   |app c kl gv t v=>simp[dT]at d
   |elem gv b e l m=>simp[dT]at d
   |nap c gv b e l m v=>simp[dT]at d
   |call α x b0 f rp=>simp[dT]at d
def adS{ρ:Type}(o:Oper)(a:Option Bool)(E:Env)(k:Env->Option ρ)(d:Ef):dT o a E k d=(dT o a E some d).bind k:=by
 cases d with
 |val v=>rfl
 |chk c v=>simp only[dT];split<;>split<;>rfl
 |opt α z x f=>simp only[dT,anu];rfl
 |put b s v=>simp only[dT];split<;>rfl
 |app c kl h t v=>simp only[dT];split<;>(try split)<;>rfl
 |elem h b e l m=>simp only[dT];split<;>rfl
 |nap c h b e l m v=>simp only[dT];split<;>(try split)<;>rfl
 |call α x tks f rp=>simp only[dT];split
                     simp only[anu];rfl;rfl
end
theorem du.ae6:∀(a b:List Ty) (x:du a) (y:du b),du.fst a b (du.app a b x y)=x
 | [],_,_,_=>rfl
 |_::a,b,x,y=>by
  show(x.1,du.fst a b (du.app a b x.2 y))=x;rw[du.ae6 a b x.2 y];rfl
theorem du.aeT:∀(a b:List Ty) (x:du a) (y:du b),du.snd a b (du.app a b x y)=y
 | [],_,_,_=>rfl
 |_::a,b,x,y=>du.aeT a b x.2 y
def zE{r:Ren}{b:Nat}(h:RN r b=true){t c:Nat}(d:r.lookup t=some c):4<=c/\c<b/\r.find? (·.2=c)=some (t,c):=by
 have e:=vO d;simp only[RN,Q',y_,b_,beq_iff_eq]at h;obtain⟨⟨i,j⟩,k⟩:=h (t,c) e;exact⟨i,j,k⟩
def ae0{r:Ren}{t c:Nat}(h3:4<=t)(h:r.lookup t=some c):Fg r t=c:=by
 unfold Fg;rw[a_ (by omega),h];rfl
def Kh(G:Gh)(r:Ren)(bs:List Nat):Gh:=
 ⟨fun b=>Fg r (G.col b),fun c=>match r.find? (·.2=c)with|some p=>if 1000000000<=p.1 then .slice none 0 0 else G.hdr p.1|none=>undef,fun c=>bs.contains c⟩
section
variable{P:Program}{C:Cx}{w0:World}{c0:C0}{U:Nat->Prop}{E:Env}{a:Act}{w:World}{G:Gh}{ops:List Oper}{L:Nat->Prop}{Q:Exit->Act->World->Prop}
def T7{r:Ren}{b:Nat}(d:RN r b=true){bs:List Nat}{t c:Nat}(e:r.lookup t=some c)(ht:t<1000000000):(Kh G r bs).hdr c=G.hdr t:=by
 obtain⟨_,_,h⟩:=zE d e;simp only[Kh,h];rw[a_ (by omega)]
def ajy{r:Ren}{N:Nat}(s:RN r N=true){bs:List Nat}{e:Ty}{l:List e.den}{v:Value}{m u:M}(h:gq w G e l v m)(d:UM r m u=true)(S:∀c∈m.bc,c<1000000000):
 gq w (Kh G r bs) e l v u:=by
 cases u with
 |dead=>exact h.one
 |row c hc nd'=>
  cases m with
  |row t hs nd=>
   simp only[UM,y_,am2,ami,Q',F_,b_]at d;obtain⟨⟨z,D⟩,F⟩:=d;obtain⟨Y,hh,B,k,i⟩:=h;obtain⟨H,g2,I⟩:=zE s z;refine⟨H,(T7 s z (S t (by simp[M.bc]))).trans hh,B,k,fun b J p=> ?_⟩;obtain⟨k1,k2,k3,k4⟩:=i b J p;refine⟨by simp only[Kh,k1];exact ae0 Y z,k2,fun x K=>F _ (k3 x K),fun q=> ?_⟩;subst q;rcases D with h|h;cases h;exact k4 h
  |sha hs=>
   cases hs with
   |nil=>
    simp only[UM,b_]at d;obtain⟨H,g2,I⟩:=zE s d;obtain⟨⟨B,k,i⟩,j⟩:=h
    have y:B=[]:=by
     cases B with
     |nil=>rfl
     |cons x l=>exact absurd (i x (by simp)) (by simp)
    subst y;have W:v= .slice none 0 0:=j rfl;refine⟨H,?_,[],k,by simp⟩;simp only[Kh,I];rw[an (by simp[abX]),W]
   |cons x l=>simp[UM]at d
  |nst=>simp[UM]at d
  |dead=>simp[UM]at d
 |nst=>cases m<;>simp[UM]at d
 |sha hc=>
  cases m with
  |row t hs nd=>
   simp only[UM,Q',F_,b_]at d;obtain⟨B,k,i⟩:=h.rep (by simp);refine⟨⟨B,k,fun b p=>d _ (i b p)⟩,fun e=> ?_⟩;have:=d t (by simp);rw[e]at this;simp at this
  |sha hs=>
   simp only[UM,Q',F_,b_]at d;obtain⟨⟨B,k,i⟩,j⟩:=h;refine⟨⟨B,k,fun b p=>d _ (i b p)⟩,fun e=> ?_⟩;cases hs with
   |nil=>exact j rfl
   |cons x l=>have:=d x (by simp);rw[e]at this;simp at this
  |nst=>simp[UM]at d
  |dead=>simp[UM]at d
theorem dJ.cut{r:Ren}{y:Nat}(u:RN r y=true){bs:List Nat}:∀ {τ:Ty} {x:τ.den} {sh q:Sh} {cs:List Value},dJ w G τ x sh cs->V3 r sh q=true->(∀c∈sh.bc,c<1000000000)->
 dJ w (Kh G r bs) τ x q cs
 | .int _,_,.leaf,.leaf,_,h,_,_| .bool,_,.leaf,.leaf,_,h,_,_| .str,_,.leaf,.leaf,_,h,_,_=>h
 | .sl e,l,.sl m,.sl m',cs,h,ho,hn=>by
   obtain⟨v,rfl,h⟩:=h;exact⟨v,rfl,ajy u h ho hn⟩
 | .pair a b,p,.pair s1 s2,.pair s1' s2',cs,h,ho,hn=>by
   obtain⟨z,B,rfl,D,H⟩:=h;simp only[V3,y_]at ho;exact⟨z,B,rfl,dJ.cut u D ho.1 (fun c h=>hn c (by simp[Sh.bc,h])),dJ.cut u H ho.2 (fun c h=>hn c (by simp[Sh.bc,h]))⟩
 |_,_,.leaf,.sl _,_,_,ho,_|_,_,.leaf,.pair _ _,_,_,ho,_|_,_,.sl _,.leaf,_,_,ho,_|_,_,.sl _,.pair _ _,_,_,ho,_|_,_,.pair _ _,.leaf,_,_,ho,_|_,_,.pair _ _,.sl _,_,_,ho,_=>by simp[V3]at ho
 | .sl _,_,.leaf,.leaf,_,h,_,_| .pair _ _,_,.leaf,.leaf,_,h,_,_| .int _,_,.sl _,.sl _,_,h,_,_| .bool,_,.sl _,.sl _,_,h,_,_| .str,_,.sl _,.sl _,_,h,_,_| .pair _ _,_,.sl _,.sl _,_,h,_,_
 | .int _,_,.pair _ _,.pair _ _,_,h,_,_| .bool,_,.pair _ _,.pair _ _,_,h,_,_| .str,_,.pair _ _,.pair _ _,_,h,_,_| .sl _,_,.pair _ _,.pair _ _,_,h,_,_=>h.elim
def agK(W:Inv w0 c0 U E a w G)(D:∀u,U u->u<1000000000){r:Ren}{nt:Nat}(q:RN r nt=true){bs:List Nat}{s:Nat}{k:AK}{x:du k.YU}(h:P3 E r s k=some x):
 gQ w (Kh G r bs) (KV k x) (a.tmps.getD s undef)/\(∀c v,KV k x= .box c v->∃t u,E.s.getD s .no= .box t u/\r.lookup t=some c):=by
 have hs:=W.slots s;have j:=W.Kt s;cases k with
 |val τ sh=>
  simp only[P3,Env.get]at h;split at h;rename_i v l;split at h;rename_i d;split at h;rename_i y hc;cases h;rw[l]at hs j;obtain⟨cs,z,m⟩:=hs;have e:=mR hc;rw[e]at z m d j;refine⟨⟨cs,z,dJ.cut q m d (fun c hc=>D c (j.1 c hc).2.1)⟩,?_⟩;rintro c u ⟨⟩;cases h;cases h;cases h
 |box c τ sh=>
  simp only[P3,Env.get]at h;split at h;rename_i t v l;split at h;rename_i d;simp only[y_,b_]at d;split at h;rename_i y hc;cases h;rw[l]at hs j;obtain⟨I,N,el,z,m,B,J,F,h6⟩:=hs;have e:=mR hc;rw[e]at h6 d j;obtain⟨K,Y,g3⟩:=zE q d.2;refine⟨⟨I,N,el,z,K,(T7 q d.2 (D t (j.2.1 t (by simp[SV.bt])).2.1)).trans B,?_,F,dJ.cut q h6 d.1 (fun c hc=>D c (j.1 c hc).2.1)⟩,?_⟩;simp only[Kh,J];exact ae0 m d.2;rintro S u ⟨⟩;exact⟨t,v,l,d.2⟩;cases h;cases h;cases h
 |ptr c o p τ=>
  simp only[P3,Env.get]at h;split at h;rename_i t o' p' τ' l;split at h;rename_i d;simp only[y_,b_]at d;obtain⟨⟨⟨d,rfl⟩,_⟩,_⟩:=d;rw[l]at hs j;obtain⟨I,z,m,B⟩:=hs;obtain⟨K,Y,g3⟩:=zE q d;refine⟨⟨I,K,(T7 q d (D t (j.2.1 t (by simp[SV.bt])).2.1)).trans m,B⟩,?_⟩;rintro S u ⟨⟩;cases h;cases h
 |ept c e o p τ=>
  simp only[P3,Env.get]at h;split at h;rename_i t e' i o' p' τ' l;split at h;rename_i d;simp only[y_,b_]at d;obtain⟨⟨⟨⟨d,rfl⟩,rfl⟩,_⟩,_⟩:=d;cases h;rw[l]at hs j;obtain⟨b,off,n,cap,z,m,B,J,F⟩:=hs;obtain⟨K,Y,g3⟩:=zE q d;refine⟨⟨b,off,n,cap,K,(T7 q d (D t (j.2.2 t (by simp[SV.rt])).2.1)).trans m,B,J,F⟩,?_⟩;rintro S u ⟨⟩;cases h;cases h
 |rdp hc τ sh=>
  simp only[P3,Env.get]at h;split at h;rename_i hs' v l;split at h;rename_i d;simp only[y_,Q',F_,b_]at d;split at h;rename_i y H;cases h;rw[l]at hs j;obtain⟨I,o,N,el,fz,z,m,B,J,F⟩:=hs;have e:=mR H;rw[e]at B F d j;refine⟨⟨I,o,N,el,fz,z,m,B,d.2 _ J,dJ.cut q F d.1 (fun c hc=>D c (j.1 c (by simp[SV.sc,hc])).2.1)⟩,?_⟩;rintro c u ⟨⟩;cases h;cases h;cases h
def agl{k:AK}{x:du k.YU}{G':Gh}{U':Nat->Prop}(hs:∀c∈k.sc,0<c/\U' c/\G'.bx c=false)(b:∀c∈k.bt,0<c/\U' c/\G'.bx c=true):dH U' G' (KV k x):=by
 cases k with
 |val τ d=>exact⟨hs,by simp[KV,SV.bt],by simp[KV,SV.rt]⟩
 |box c τ d=>exact⟨hs,b,by simp[KV,SV.rt]⟩
 |ptr c o p τ=>exact⟨by simp[KV,SV.sc],b,by simp[KV,SV.rt]⟩
 |ept c e o p τ=>exact⟨by simp[KV,SV.sc],by simp[KV,SV.bt],hs⟩
 |rdp hc τ d=>exact⟨hs,by simp[KV,SV.bt],by simp[KV,SV.rt]⟩
def aj3{k:AK}{x:du k.YU}{j:Nat}{w act:Bool}{v:SV}:KV k x≠ .g j w act v:=by
 cases k<;>simp[KV]
def NR(L:List SV):Prop:=∀s j w act v,L.getD s .no≠ .g j w act v
theorem YS(i:Inv w0 c0 U E a w G)(m:∀u,U u->u<1000000000){r:Ren}{D:Nat}(q:RN r D=true){bs:List Nat}{U':Nat->Prop}:
 ∀ {l:List (Nat×AK)} {t:du (Hc l)} {K:List SV},Wg E r l=some t->(∀c∈l.flatMap (fun p=>p.2.sc),0<c/\U' c/\(Kh G r bs).bx c=false)->(∀c∈l.flatMap (fun p=>p.2.bt),0<c/\U' c/\(Kh G r bs).bx c=true)->
 (∀s,gQ w (Kh G r bs) (K.getD s .no) (a.tmps.getD s undef)/\dH U' (Kh G r bs) (K.getD s .no))->(∀s c v,K.getD s .no= .box c v->∃t u,E.s.getD s .no= .box t u/\r.lookup t=some c)->NR K->
 (IA l t K).length=K.length/\(∀s,gQ w (Kh G r bs) ((IA l t K).getD s .no) (a.tmps.getD s undef)/\dH U' (Kh G r bs) ((IA l t K).getD s .no))/\
  (∀s c v,(IA l t K).getD s .no= .box c v->∃t u,E.s.getD s .no= .box t u/\r.lookup t=some c)/\NR (IA l t K)
 | [],t,K,_,_,_,h1,h2,h3=>⟨rfl,h1,h2,h3⟩
 |(s,k)::l,t,K,h,hs,hb,h1,h2,h3=>by
  simp only[Wg]at h;split at h;rename_i x y z B;cases h;obtain⟨F,H⟩:=agK (bs:=bs) i m q z;simp only[List.flatMap_cons,e8]at hs hb;simp only[IA];rw[du.ae6,du.aeT]
  obtain⟨q1,q2⟩:=YS i m q (K:=K.set s (KV k x)) B (fun c hc=>hs c (.inr hc)) (fun c hc=>hb c (.inr hc)) (fun d=>by
   rw[mY];split;rename_i e;rw[e.1];exact⟨F,agl (fun c hc=>hs c (.inl hc)) (fun c hc=>hb c (.inl hc))⟩;exact h1 d) (fun d c v b=>by
   rw[mY]at b;split at b;rename_i e;rw[e.1];exact H c v b;exact h2 d c v b) (fun d j w act v b=>by
   rw[mY]at b;split at b;exact aj3 b;exact h3 d j w act v b)
  exact⟨by rw[q1];simp,q2⟩;cases h
def NW(i:Inv w0 c0 (fun u=>u<E.nt) E a w G){n:KO}{N:Nat}(hN:E.s.length=N){t:du (Hc n.ks)}(h:proj n E=some t):
 ∃G',Inv w0 c0 (fun u=>u<(nc N n t).nt) (nc N n t) a w G'/\NR (nc N n t).s/\(nc N n t).s.length=N/\4<=(nc N n t).nt:=by
 unfold proj at h;split at h;rename_i r m;split at h;rename_i hc;simp only[y_,b_]at hc;obtain⟨⟨hnt,y⟩,F⟩:=hc;simp only[aju,y_,Q',b_,ami,F_,d_]at y;obtain⟨⟨⟨I,x⟩,z⟩,_⟩:=y
 have l:∀s,(am4 N SV.no).getD s .no= .no:=by
  intro s;rw[f_,List.getElem?_replicate];split<;>rfl
 obtain⟨q1,q2,q3,q4⟩:=YS (bs:=n.ks.flatMap fun(p:Nat×AK)=>p.2.bt) (U':=fun u=>u<n.nt) (K:=am4 N .no) i (fun u hu=>by omega) F h
  (fun c hc=>⟨(z c hc).1.1,(z c hc).1.2,by simpa[Kh]using(z c hc).2⟩)
  (fun c hc=>⟨(x c hc).1.1.1,(x c hc).1.1.2,by simpa[Kh]using hc⟩)
  (fun s=>by rw[l];exact⟨trivial,by simp[dH,SV.sc,SV.bt,SV.rt]⟩) (fun s c v B=>by rw[l]at B;cases B) (fun s j w act v B=>by rw[l]at B;cases B)
 have d:∀b,(Fg r (G.col b)=G.col b/\G.col b<=3)\/(4<=G.col b/\Fg r (G.col b)=2)\/(4<=G.col b/\4<=Fg r (G.col b)/\Fg r (G.col b)<n.nt):=by
  intro b;unfold Fg;split;rename_i h;exact .inl ⟨rfl,h⟩;rename_i h;cases hl:r.lookup (G.col b)with
  |none=>right;left;exact⟨by omega,rfl⟩
  |some k=>
   obtain⟨k1,k2,_⟩:=zE F hl;right;right;exact⟨by omega,k1,k2⟩
 refine⟨Kh G r (n.ks.flatMap fun(p:Nat×AK)=>p.2.bt),⟨?_,fun s=>(q2 s).1,fun s=>(q2 s).2.1,fun s=>(q2 s).2.2.1,fun s=>(q2 s).2.2.2,?_,fun b m=> ?_,fun b m=> ?_,fun b m=> ?_,fun b m hc=> ?_,fun b m=> ?_,i.size,i.os,i.tape,i.output,i.defers,?_,fun S=>by cases S⟩,q4,by
  show(IA n.ks t (am4 N .no)).length=N;rw[q1];simp,I⟩
 show a.tmps.size=(IA n.ks t (am4 N .no)).length;rw[q1,i.len,hN];simp;intro s J c v W Y D;obtain⟨t1,u1,e1,l1⟩:=q3 s c v Y;obtain⟨t2,u2,e2,l2⟩:=q3 J c W D;have f1:=(zE F l1).2.2;have H:=(zE F l2).2.2;rw[f1]at H;simp only[akK,akU,and_true]at H;subst H;exact i.uni s J t1 u1 u2 e1 e2;have:Fg r (G.col b)<n.nt:=by rcases d b with h|h|h<;>omega
 exact this;have q:0<Fg r (G.col b):=m;refine i.lt b ?_;rcases d b with h|h|h<;>omega;have q:4<=Fg r (G.col b):=m;refine i.fresh b ?_;rcases d b with h|h|h<;>omega;have hf:=i.frame b m hc;refine⟨?_,hf.2⟩;show Fg r (G.col b)=c0.col b;rcases d b with h|h|h<;>omega;have q:Fg r (G.col b)=1\/Fg r (G.col b)=3:=m;show b<_/\c0.col b=Fg r (G.col b);have e:Fg r (G.col b)=G.col b:=by rcases d b with h|h|h<;>omega
 rw[e]at q|-;exact i.one b q;refine⟨⟨by show 2<n.nt;omega,?_⟩,by show 3<n.nt;omega,?_⟩;show List.contains _ 2=false;simp only[F_,d_];intro D;have:=(x 2 D).1.2;simp at this;show List.contains _ 3=false;simp only[F_,d_];intro D;have:=(x 3 D).2;simp at this;cases h;cases h
end
def qV(E:Env)(d:Option Nat)(v:SV):(E.set d v).s.length=E.s.length:=by cases d<;>simp[Env.set]
def Ye(E:Env)(d:Option Nat)(v:SV):(E.set d v).nt=E.nt:=by cases d<;>rfl
def aiq(E:Env)(ts:List Nat):(E.kill ts).s.length=E.s.length:=by unfold Env.kill;split<;>simp
def aiv(E:Env)(ts:List Nat)(t:Nat):(E.cu ts t).s.length=E.s.length:=by unfold Env.cu;split<;>simp
structure pG(o:Oper)(R R':Rd):Prop where
 get:∀s∈tmpsOf o,R'.get s=R.get s
 box:nK o=true->∀s∈tmpsOf o,∀b off p τ,(R.get s).strip= .ptr b off p τ->R'.box b=R.box b
 row:nK o=true->∀s∈tmpsOf o,∀b e,acy (R.get s).strip=some (b,e)->R'.row b e=R.row b e
section
variable{C:Cx}{R R':Rd}{o:Oper}{ops:List Oper}{tk:Nat}{g:Option (Nat×Bool)}
def PU{s:Nat}(h:Operand.tmp s∈o.op.operands.toList):s∈tmpsOf o:=by
 unfold tmpsOf;exact anr.2 ⟨.tmp s,h,rfl⟩
def aaK(h:pG o R R'){t:TypeId}{x:Operand}(b:x∈o.op.operands.toList):sO C R' t x=sO C R t x:=by
 cases x with
 |tmp s=>simp only[sO];rw[h.get s (PU b)]
 |_=>rfl
def TQ(h:pG o R R'){t:TypeId}{x:Operand}(b:x∈o.op.operands.toList):arg C R' g t x=arg C R g t x:=by
 simp only[arg,aaK h b]
def xQ(h:pG o R R'){t:TypeId}{x:Operand}(b:x∈o.op.operands.toList):lr C R' g t x=lr C R g t x:=by
 simp only[lr,TQ h b]
def aaT{t:TypeId}{x:Operand}{sv:SV}(h:arg C R g t x=some sv)(k:(∃b off p τ,sv= .ptr b off p τ)\/∃b e i off p τ,sv= .ept b e i off p τ):
 ∃s,x= .tmp s/\(R.get s).strip=sv:=by
 simp only[arg,amq]at h;obtain⟨l,c,d⟩:=h;cases x with
 |tmp s=>
  simp only[sO,akK]at c;refine⟨s,rfl,?_⟩;rw[c];cases l with
  |g j w a v=>simp only[RD]at d;split at d<;>simp_all[SV.strip]
  |_=>simp only[RD,akK]at d;subst d;rfl
 |const v=>
  exfalso;simp only[sO]at c;split at c;rw[N_]at c;obtain⟨r,_,rfl⟩:=c;simp only[RD,akK]at d;subst d;rcases k with⟨_,_,_,_,h⟩|⟨_,_,_,_,_,_,h⟩<;>cases h;cases c
 |global x=>simp[sO]at c
 |func x=>simp[sO]at c
def W5(h:pG o R R')(c:nK o=true){t:TypeId}{x:Operand}(d:x∈o.op.operands.toList){b off:Nat}{p:List Bool}{τ:Ty}(e:arg C R g t x=some (.ptr b off p τ)):R'.box b=R.box b:=by
 obtain⟨s,rfl,hs⟩:=aaT e (.inl ⟨_,_,_,_,rfl⟩);exact h.box c s (PU d) b off p τ hs
def aga{τ σ:Ty}{v:Value}{z:σ.den}{b off:Nat}{e:Ty}{i:Int}{p:List Bool}{fr:Bool}(h:U6 τ v=some ⟨σ,z,.sl (.nst b e i off p fr)⟩):False:=by
 have hs:∀τ:Ty,sR τ (.sha [])≠ .sl (.nst b e i off p fr):=by intro τ;cases τ<;>simp[sR]
 unfold U6 at h;split at h;split at h;simp only[akK,TV.mk.injEq]at h;obtain⟨rfl,_,h⟩:=h;exact hs _ h;cases h;cases h;split at h;simp only[akK,TV.mk.injEq]at h;obtain⟨rfl,_,h⟩:=h;exact hs _ h;cases h
def T0(h:pG o R R')(c:nK o=true){t:TypeId}{x:Operand}(d:x∈o.op.operands.toList){b off:Nat}{e:Ty}{i:Int}{p:List Bool}{τ:Ty}(j:arg C R g t x=some (.ept b e i off p τ)):R'.row b e=R.row b e:=by
 obtain⟨s,rfl,hs⟩:=aaT j (.inr ⟨_,_,_,_,_,_,rfl⟩);exact h.row c s (PU d) b e (by rw[hs];rfl)
def ag2(h:pG o R R')(y:nK o=true){t:TypeId}{x:Operand}(B:x∈o.op.operands.toList){b off:Nat}{e:Ty}{i:Int}{p:List Bool}{fr:Bool}{τ:Ty}{z:τ.den}
 (k:lr C R none t x=some ⟨τ,z,.sl (.nst b e i off p fr)⟩):R'.row b e=R.row b e:=by
 simp only[lr]at k;split at k;rename_i u c;split at k;cases k;cases x with
 |tmp s=>
  refine h.row y s (PU B) b e ?_;simp only[arg,sO,am0]at c;cases m:R.get s with
  |g j w a v=>rw[m]at c;simp[RD]at c
  |d v=>
   rw[m]at c;simp only[RD,akK,SV.d.injEq]at c;subst c;rfl
  |_=>rw[m]at c;simp[RD]at c
 |const v=>
  exfalso;simp only[arg,sO]at c;split at c;rename_i i' _;rw[amq]at c;obtain⟨u',l,q⟩:=c;rw[N_]at l;obtain⟨r,l,rfl⟩:=l;simp only[RD,akK,SV.d.injEq]at q;subst q;exact aga l;simp at c
 |global x=>simp[arg,sO]at c
 |func f=>simp[arg,sO]at c
 cases k;cases k
theorem VI(h:pG o R R'){i:TI}:∀ {l:List (Nat×Operand)} {x:i.τ.den} {sh:Sh},(∀p∈l,p.2∈o.op.operands.toList)->Mq C R' g i l x sh=Mq C R g i l x sh
 | [],_,_,_=>rfl
 |(j,y)::l,x,sh,hl=>by
  simp only[Mq,xQ h (hl (j,y) (by simp))];cases i.fs[j]? with
  |none=>rfl
  |some c=>
   simp only;cases lr C R g c y with
   |none=>rfl
   |some v=>
    simp only;cases qJ i.τ x sh (jd i.fs.length j) v with
    |none=>rfl
    |some r=>exact VI h (fun p b=>hl p (by simp[b]))
theorem WE(h:pG o R R'){el:TypeId}{e:Ty}:∀ {l:List (Nat×Operand)} {n:Nat},(∀p∈l,p.2∈o.op.operands.toList)->Ph C R' g el e n l=Ph C R g el e n l
 | [],_,_=>rfl
 |(j,y)::l,n,hl=>by
  simp only[Ph,xQ h (hl (j,y) (by simp)),WE h (l:=l) (n:=n+1) (fun p b=>hl p (by simp[b]))]
theorem aa6(h:pG o R R'):∀ {l:List Operand} {ts:List TypeId},(∀p∈l,p∈o.op.operands.toList)->IL C R' g l ts=IL C R g l ts
 | [],[],_=>rfl
 | [],_::_,_=>rfl
 |_::_,[],_=>rfl
 |y::l,t::ts,hl=>by
  simp only[IL,TQ h (hl y (by simp)),aa6 h (l:=l) (ts:=ts) (fun p b=>hl p (by simp[b]))]
def aem{ps:List PK}:∀ {as:List SV} {k:Nat} {r0:List (Nat×Nat)},(∀sv∈as,∀b off p τ,sv= .ptr b off p τ->R'.box b=R.box b)->fl R' ps as k r0=fl R ps as k r0:=by
 induction ps with
 |nil=>intro as k r0 _;cases as<;>rfl
 |cons p ps m=>
  intro as k r0 h;cases as with
  |nil=>cases p<;>rfl
  |cons a as=>
   have c:=fun k r0=>m (as:=as) (k:=k) (r0:=r0) (fun sv i=>h sv (by simp[i]));cases p with
   |val τ q=>cases a<;>simp only[fl,c]
   |io τ q=>
    have d:KB R' a=KB R a:=by
     unfold KB;split;rename_i t j;rw[h _ (by simp) t 0 [] j rfl];rfl
    simp only[fl,d,c]
   |rd τ=>
    have d:KB R' a=KB R a:=by
     unfold KB;split;rename_i t j;rw[h _ (by simp) t 0 [] j rfl];rfl
    simp only[fl,d,c]
   |vx e l=>cases a<;>simp only[fl,c]
def ahi{ps:List PK}:∀ {as:List SV} {k:Nat} {r0:List (Nat×Nat)} {xs:du (ps.map PK.ty)} {i bs:List (Nat×Nat)},fl R ps as k r0=some (xs,i,bs)->
 ∀b∈bs,∃τ,SV.ptr b.1 0 [] τ∈as:=by
 induction ps with
 |nil=>
  intro as k r0 xs i bs h b d;cases as with
  |nil=>simp only[fl,akK]at h;cases h;cases d
  |cons _ _=>simp[fl]at h
 |cons p ps m=>
  intro as k r0 xs i bs h b d;cases as with
  |nil=>cases p<;>simp[fl]at h
  |cons a as=>
   cases p with
   |val τ q=>
    cases a<;>simp only[fl]at h<;>try cases h
    split at h;rename_i j;split at h;simp only[akK,akU]at h;obtain⟨_,_,rfl⟩:=h;obtain⟨τ,h⟩:=m j b d;exact⟨τ,I' _ h⟩;cases h;cases h
   |vx e l=>
    cases a<;>simp only[fl]at h<;>try cases h
    split at h;rename_i j;split at h;simp only[akK,akU]at h;obtain⟨_,_,rfl⟩:=h;obtain⟨τ,h⟩:=m j b d;exact⟨τ,I' _ h⟩;cases h;cases h
   |rd τ=>
    simp only[fl]at h;split at h;split at h;rename_i j;split at h;simp only[akK,akU]at h;obtain⟨_,_,rfl⟩:=h;obtain⟨τ,h⟩:=m j b d;exact⟨τ,I' _ h⟩;cases h;cases h;cases h
   |io τ q=>
    simp only[fl]at h;split at h;rename_i t s v c;split at h;rename_i j;split at h;simp only[akK,akU]at h;obtain⟨_,_,rfl⟩:=h;rcases et.1 d with rfl|d;unfold KB at c;split at c;rename_i t' u;rw[N_]at c;obtain⟨r,_,c⟩:=c;simp only[akU]at c;obtain⟨rfl,_,_⟩:=c;exact⟨u,by simp⟩;cases c;obtain⟨τ,h⟩:=m j b d;exact⟨τ,I' _ h⟩;cases h;cases h;cases h
def aat(h:pG o R R'){b:Builtin}{args:List Operand}{ts:List TypeId}(c:∀x∈args,x∈o.op.operands.toList):JM C R' tk g b args ts=JM C R tk g b args ts:=by
 unfold JM;split;rename_i x t;simp only[xQ h (c x (by simp))];rename_i x y t u;simp only[xQ h (c x (by simp)),xQ h (c y (by simp))];rename_i x y t u;simp only[xQ h (c x (by simp)),xQ h (c y (by simp))];rename_i x y t u;simp only[xQ h (c x (by simp)),xQ h (c y (by simp))];rfl
def aeD(h:pG o R R')(k:nK o=true){f:FuncId}{args:List Operand}{ts:List TypeId}(m:∀x∈args,x∈o.op.operands.toList):Vd C R' tk g f args ts=Vd C R tk g f args ts:=by
 unfold Vd;rw[aa6 h m];cases C.ct f with
 |none=>rfl
 |some c=>
  simp only;cases has:IL C R g args ts with
  |none=>rfl
  |some as=>
   simp only;have e:∀sv∈as,∀b off p τ,sv=SV.ptr b off p τ->R'.box b=R.box b:= ?_;rw[aem (R:=R) (R':=R') e];cases r:fl R c.ps as 4 []with
   |none=>rfl
   |some z=>
    obtain⟨xs,rho,u⟩:=z
    have s:∀Io2,R9 R' u Io2 c.kp=R9 R u Io2 c.kp:=by
     intro Io2;unfold R9;congr 1;funext q;cases K:u[q.1]? with
     |none=>rfl
     |some b=>
      cases hz:Io2[q.1]? with
      |none=>rfl
      |some z=>
       obtain⟨τ,B⟩:=ahi r b (amD K);simp only[e _ B b.1 0 [] τ rfl]
    simp only[s]
   intro sv j b off p τ D;subst D
   have:∀ {args:List Operand} {ts:List TypeId} {as:List SV},(∀x∈args,x∈o.op.operands.toList)->IL C R g args ts=some as->SV.ptr b off p τ∈as->∃x∈args,∃t,arg C R g t x=some (.ptr b off p τ):=by
    intro args
    induction args with
    |nil=>intro ts as _ d i;cases ts<;>simp[IL]at d;subst d;simp at i
    |cons y l N=>
     intro ts as F d i;cases ts with
     |nil=>simp[IL]at d
     |cons t ts=>
      simp only[IL]at d;split at d;rename_i v vs H I;cases d;simp only[et]at i;rcases i with rfl|i;exact⟨y,by simp,t,H⟩;obtain⟨x,q1,q2⟩:=N (fun x J=>F x (by simp[J])) I i;exact⟨x,by simp[q1],q2⟩;cases d
   obtain⟨x,q1,t,q2⟩:=this m has j;exact W5 h k (m x q1) q2
def Zp(h:pG o R R'):dY C ops R' tk g o=dY C ops R tk g o:=by
 have B:∀ {x:Operand},x∈o.op.operands.toList->∀ {t:TypeId},arg C R' g t x=arg C R g t x:=fun z=>TQ h z;have q:∀ {x:Operand},x∈o.op.operands.toList->∀ {t:TypeId},lr C R' g t x=lr C R g t x:=fun z=>xQ h z;have H:∀ {x:Operand},x∈o.op.operands.toList->∀ {t:TypeId},sO C R' t x=sO C R t x:=fun z=>aaK h z;cases k:o.op with
 |move x=>rw[k]at B;simp only[dY,k,B (x:=x) (by simp[Op.operands])]
 |assign x=>rw[k]at B;simp only[dY,k,B (x:=x) (by simp[Op.operands])]
 |pick c a b=>
  rw[k]at B H;simp only[dY,k,B (x:=c) (by simp[Op.operands]),H (x:=a) (by simp[Op.operands]),H (x:=b) (by simp[Op.operands])]
 |alloc t=>simp only[dY,k]
 |box t x=>rw[k]at q;simp only[dY,k,q (x:=x) (by simp[Op.operands])]
 |build t I=>
  simp only[dY,k];cases C.tt t with
  |none=>rfl
  |some i=>simp only[VI h (l:=I.toList) (fun p F=>by rw[k];simp[Op.operands];exact⟨p.1,by simpa using F⟩)]
 |buildSlice t n I=>
  simp only[dY,k];split;rename_i e _ el _;simp only[WE h (l:=I.toList) (fun p F=>by rw[k];simp[Op.operands];exact⟨p.1,by simpa using F⟩)];rfl
 |load t a=>
  have z:a∈o.op.operands.toList:=by rw[k];simp[Op.operands]
  simp only[dY,k,B z];cases C.tt t with
  |none=>rfl
  |some ti=>
   simp only;cases D:arg C R g 0 a with
   |none=>rfl
   |some sv=>
    cases sv with
    |ptr b off p τ=>simp only[W5 h (by simp[nK,k]) z D]
    |ept b e i off p τ=>simp only[T0 h (by simp[nK,k]) z D]
    |_=>rfl
 |store t a x=>
  have z:a∈o.op.operands.toList:=by rw[k];simp[Op.operands]
  have N:x∈o.op.operands.toList:=by rw[k];simp[Op.operands]
  simp only[dY,k,B z,q N];cases C.tt t with
  |none=>rfl
  |some ti=>
   cases D:arg C R g 0 a with
   |none=>rfl
   |some sv=>
    cases sv with
    |ptr b off p τ=>
     cases lr C R g t x with
     |none=>rfl
     |some v=>simp only[W5 h (by simp[nK,k]) z D]
    |ept b e i off p τ=>
     cases lr C R g t x with
     |none=>rfl
     |some v=>simp only[T0 h (by simp[nK,k]) z D]
    |_=>rfl
 |nilCheck x=>rw[k]at B;simp only[dY,k,B (x:=x) (by simp[Op.operands])]
 |binOp op t x y u=>rw[k]at q;simp only[dY,k,q (x:=x) (by simp[Op.operands]),q (x:=y) (by simp[Op.operands])]
 |unOp op t x=>rw[k]at q;simp only[dY,k,q (x:=x) (by simp[Op.operands])]
 |convert s d x=>rw[k]at q;simp only[dY,k,q (x:=x) (by simp[Op.operands])]
 |makeSlice t n c=>rw[k]at q;simp only[dY,k,q (x:=n) (by simp[Op.operands]),q (x:=c) (by simp[Op.operands])]
 |slice t x J K mx=>
  rw[k]at q;have S:∀ {t},lr C R' g t x=lr C R g t x:=q (by simp[Op.operands])
  have W:J.map (lr C R' g 3)=J.map (lr C R g 3):=by
   cases J with
   |none=>rfl
   |some l=>simp only[amQ];rw[q (by simp[Op.operands])]
  have Y:K.map (lr C R' g 3)=K.map (lr C R g 3):=by
   cases K with
   |none=>rfl
   |some l=>simp only[amQ];rw[q (by simp[Op.operands])]
  simp only[dY,k,S,W,Y]
 |fieldAddr s x j=>rw[k]at B;simp only[dY,k,B (x:=x) (by simp[Op.operands])]
 |field s x j=>rw[k]at q;simp only[dY,k,q (x:=x) (by simp[Op.operands])]
 |indexAddr t x n=>rw[k]at q;simp only[dY,k,q (x:=x) (by simp[Op.operands]),q (x:=n) (by simp[Op.operands])]
 |index t x n=>rw[k]at q;simp only[dY,k,q (x:=x) (by simp[Op.operands]),q (x:=n) (by simp[Op.operands])]
 |extract x j=>rw[k]at B;simp only[dY,k,B (x:=x) (by simp[Op.operands])]
 |call c=>
  have hc:∀x∈c.args.toList,x∈o.op.operands.toList:=by
   intro x z;rw[k];simp only[Op.operands,Call.operands];cases c.callee<;>simp_all
  simp only[dY,k];cases hb:c.callee with
  |builtin b=>simp only[aat h hc]
  |value f=>
   cases f with
   |func f=>simp only[aeD h (by simp[nK,k]) hc]
   |_=>rfl
  |invoke r m=>rfl
 |_=>simp only[dY,k]
def aej(h:pG o R R'):Ly C ops R' tk o=Ly C ops R tk o:=by
 have H:∀ {x:Operand},x∈o.op.operands.toList->∀ {t:TypeId},arg C R' none t x=arg C R none t x:=fun j=>TQ h j;have r:∀ {x:Operand},x∈o.op.operands.toList->∀ {t:TypeId},lr C R' none t x=lr C R none t x:=fun j=>xQ h j;unfold Ly;cases d:o.op with
 |load t a=>
  have j:a∈o.op.operands.toList:=by rw[d];simp[Op.operands]
  simp only[H j];cases C.tt t with
  |none=>rfl
  |some F=>
   cases k:arg C R none 0 a with
   |none=>rfl
   |some sv=>
    cases sv with
    |ept b e i off p τ=>simp only[T0 h (by simp[nK,d]) j k]
    |_=>rfl
 |store t a x=>
  have j:a∈o.op.operands.toList:=by rw[d];simp[Op.operands]
  have s:x∈o.op.operands.toList:=by rw[d];simp[Op.operands]
  simp only[H j,r s];cases C.tt t with
  |none=>rfl
  |some F=>
   cases k:arg C R none 0 a with
   |none=>rfl
   |some sv=>
    cases sv with
    |ept b e i off p τ=>
     have z:=T0 h (by simp[nK,d]) j k;cases lr C R none t x with
     |none=>rfl
     |some v=>
      obtain⟨B,xv,D⟩:=v;cases D with
      |sl m=>
       cases m with
       |nst b' I i' off' p' fr=>
        cases B with
        |sl σ=>simp only[z]
        |_=>rfl
       |_=>cases B<;>rfl
      |_=>cases B<;>rfl
    |_=>rfl
 |call c=>
  have hc:∀x∈c.args.toList,x∈o.op.operands.toList:=by
   intro x j;rw[d];simp only[Op.operands,Call.operands];cases c.callee<;>simp_all
  simp only;split;rename_i x y t u hb k hts;have j:x∈o.op.operands.toList:=hc x (by rw[k];simp);have s:y∈o.op.operands.toList:=hc y (by rw[k];simp);simp only[r j,r s];split;rename_i F e l b E0 i off p I l' m' hti q hvy;simp only[ag2 h (by simp[nK,d]) j q];rfl;rfl
 |_=>rfl
def ahM(h:pG o R R'):D3 C ops R' tk g o=D3 C ops R tk g o:=by
 unfold D3;cases g with
 |none=>simp only[aej h,Zp h]
 |some g=>exact Zp h
end
def ael(a b:List (Nat×SV))(L:List SV):pw (a++b) L=pw b (pw a L):=List.foldl_append ..
def YZ(E:Env)(d:Option Nat)(v:SV):(E.set d v).s=pw (wr d v) E.s:=by cases d<;>rfl
theorem UU:∀(l:List (Nat×Nat×TV)) (L:List SV),fB l L=pw (l.map (fun p=>(p.2.1,SV.box p.1 p.2.2))) L
 | [],_=>rfl
 |(_,_,_)::l,_=>UU l _
def aaF(E:Env)(ts:List Nat):(E.kill ts).s=E.s.map (oP ts):=by
 unfold Env.kill oP;split;simp;rfl
def ag7(E:Env)(ts:List Nat)(t:Nat):(E.cu ts t).s=E.s.map (Du ts t):=by
 unfold Env.cu Du;split;simp;rfl
def ae8(E:Env)(ts:List Nat):(E.kill ts).nt=E.nt:=by unfold Env.kill;split<;>rfl
def ajC(E:Env)(ts:List Nat)(t:Nat):(E.cu ts t).nt=E.nt:=by unfold Env.cu;split<;>rfl
theorem Env.ext'{E E':Env}(h:E.s=E'.s)(hn:E.nt=E'.nt)(hk:E.kp=E'.kp:=by rfl):E=E':=by cases E;cases E';simp_all
def YI(E:Env)(d:Option Nat)(v:SV):(E.set d v).kp=E.kp:=by cases d<;>rfl
def ajY(E:Env)(ts:List Nat)(t:Nat):(E.cu ts t).kp=E.kp:=by unfold Env.cu;split<;>rfl
def adX(E:Env)(ts:List Nat):(E.kill ts).kp=E.kp:=by unfold Env.kill;split<;>rfl
def agt(E:Env)(ts:List Nat)(b:List (Nat×Nat)):(E.ib ts b).kp=E.kp:=by unfold Env.ib;split;exact adX E ts;rfl
def aii(E:Env)(ts:List Nat)(b:List (Nat×Nat)):(E.ib ts b).nt=E.nt:=by unfold Env.ib;split;exact ae8 E ts;rfl
def agI(E:Env)(ts:List Nat)(b:List (Nat×Nat)):(E.ib ts b).s=E.s.map (Tr.ki ts b).sv:=by
 unfold Env.ib;simp only[Tr.sv];split;exact aaF E ts;rfl
def aea(o:Oper)(a:Option Bool)(E:Env)(j:Ef):dT o a E some j=(yS o a j).map E.vf:=by
 have h:∀(d:Option Nat) (v:SV),E.set d v=E.vf (.id,wr d v):=by
  intro d v;refine Env.ext' ?_ (by rw[Ye];rfl) (by rw[YI];rfl);rw[YZ];simp[Env.vf,Tr.sv]
 cases j with
 |val v=>simp only[dT,yS,amQ,h]
 |chk c v=>simp only[dT,yS,h];split<;>split<;>rfl
 |opt α z x f=>
  simp only[dT,yS,h];rw[Option.map_bind];rfl
 |put b s v=>
  simp only[dT,yS];split;simp[Env.vf,Tr.sv,pw];rfl
 |app c kl k t v=>
  simp only[dT,yS];split;split;simp only[amQ,akK];refine Env.ext' ?_ (by rw[Ye,ajC,ae8];rfl) (by rw[YI,ajY,adX];rfl);rw[YZ,ag7,aaF];simp[Env.vf,Tr.sv,am9];rfl;rfl
 |elem k b e l m=>
  simp only[dT,yS];split;simp[Env.vf,Tr.sv,pw,Env.elem];rfl
 |nap c k b e l m v=>
  simp only[dT,yS];split;split;simp only[amQ,akK];refine Env.ext' ?_ (by rw[Ye];rfl) (by rw[YI];rfl);rw[YZ];simp[Env.vf,Tr.sv,Env.elem];rfl;rfl
 |call α x i f p=>
  simp only[dT,yS];split;cases x with
  |none=>rfl
  |some r=>
   simp only[am0,amQ,akK];refine Env.ext' ?_ (by rw[Ye];exact aii E i (p r)) (by rw[YI];exact agt E i (p r));rw[YZ];simp only[Env.vf,ael,UU,agI]
  rfl
structure Y4(X:List Nat)(f:M->M)(fe:Nat->Bool)(fr:List Nat->Option (List Nat)):Prop where
 m:∀m,f m=m\/f m= .dead\/∃x∈X,x∈(f m).bc
 r:∀hs hs',fr hs=some hs'->hs'=hs\/∃x∈X,x∈hs'
section
variable{X:List Nat}{f:M->M}{fe:Nat->Bool}{fr:List Nat->Option (List Nat)}
theorem Sh.Ec(h:Y4 X f fe fr):∀ {sh:Sh},(sh.map f).live=true->(∀c∈(sh.map f).bc,c∉X)->sh.map f=sh
 | .leaf,_,_=>rfl
 | .sl m,hl,hc=>by
   rcases h.m m with e|e|⟨x,u,q⟩;simp only[Sh.map,e];simp only[Sh.map,e,Sh.live]at hl;cases hl;exact absurd u (hc x q)
 | .pair a b,hl,hc=>by
   simp only[Sh.map,Sh.live,y_]at hl;simp only[Sh.map,Sh.bc,e8]at hc;simp only[Sh.map];rw[Sh.Ec h hl.1 (fun c p=>hc c (.inl p)),Sh.Ec h hl.2 (fun c p=>hc c (.inr p))]
def Ov(v:TV)(sh:Sh)(h:sh=v.sh):({v with sh:=sh}:TV)=v:=by subst h;rfl
theorem SV.Ec(h:Y4 X f fe fr):∀ {v:SV},(v.mapM f fe fr).clean=true->(∀c∈(v.mapM f fe fr).og,c∉X)->v.mapM f fe fr=v
 | .no,hl,_=>by simp[SV.mapM,SV.clean]at hl
 | .d v,hl,hc=>by simp only[SV.mapM];rw[Ov v _ (Sh.Ec h hl hc)]
 | .box t v,hl,hc=>by
   simp only[SV.mapM];rw[Ov v _ (Sh.Ec h hl (fun c q=>hc c (by simp[SV.mapM,SV.og,q])))]
 | .ptr ..,_,_=>rfl
 | .ept t e i o p τ,hl,hc=>by
   simp only[SV.mapM]at hl|-;split;rfl;rename_i D;rw[a_ D]at hl;cases hl
 | .rdp hs v,hl,hc=>by
   simp only[SV.mapM]at hl hc|-;cases u:fr hs with
   |none=>rw[u]at hl;cases hl
   |some y=>
    rw[u]at hl hc;simp only at hl hc|-;rcases h.r hs y u with e|⟨x,H,z⟩;rw[e,Ov v _ (Sh.Ec h hl (fun c q=>hc c (by simp[SV.og,q])))];exact absurd H (hc x (by simp[SV.og,z]))
 | .tup l,hl,hc=>by
   simp only[SV.mapM];congr 1
   have:∀v∈l,({v with sh:=v.sh.map f}:TV)=v:=by
    intro v B;simp only[SV.mapM,SV.clean,List.all_map,Q',Function.comp_apply]at hl
    exact Ov v _ (Sh.Ec h (hl v B) (fun c q=>hc c (by
     simp only[SV.mapM,SV.og,anx,amM];exact⟨v,B,q⟩)))
   conv=>rhs;rw[<-List.map_id l]
   exact ano this
 | .g j w a v,hl,hc=>by
   simp only[SV.mapM];rw[SV.Ec (v:=v) h hl hc]
theorem Sh.stays(p:∀m:M,(∀c∈m.bc,c∉X)->f m=m):∀ {sh:Sh},(∀c∈sh.bc,c∉X)->sh.map f=sh
 | .leaf,_=>rfl
 | .sl m,hc=>by simp only[Sh.map];rw[p m hc]
 | .pair a b,hc=>by
   simp only[Sh.bc,e8]at hc;simp only[Sh.map];rw[Sh.stays p (fun c h=>hc c (.inl h)),Sh.stays p (fun c h=>hc c (.inr h))]
theorem SV.stays(q:∀m:M,(∀c∈m.bc,c∉X)->f m=m)(u:∀t,t∉X->fe t=true)(y:∀hs,(∀c∈hs,c∉X)->fr hs=some hs):∀ {v:SV},(∀c∈v.og,c∉X)->v.mapM f fe fr=v
 | .no,_| .ptr ..,_=>rfl
 | .d v,hc=>by simp only[SV.mapM];rw[Ov v _ (Sh.stays q hc)]
 | .box t v,hc=>by
   simp only[SV.mapM];rw[Ov v _ (Sh.stays q (fun c h=>hc c (by simp[SV.og,h])))]
 | .ept t e i o p τ,hc=>by simp only[SV.mapM];rw[an (u t (hc t (by simp[SV.og])))]
 | .rdp hs v,hc=>by
   simp only[SV.mapM,y hs (fun c h=>hc c (by simp[SV.og,h]))];rw[Ov v _ (Sh.stays q (fun c h=>hc c (by simp[SV.og,h])))]
 | .tup l,hc=>by
   simp only[SV.mapM];congr 1
   have:∀v∈l,({v with sh:=v.sh.map f}:TV)=v:=fun v z=>
    Ov v _ (Sh.stays q (fun c h=>hc c (by simp only[SV.og,amM];exact⟨v,z,h⟩)))
   conv=>rhs;rw[<-List.map_id l]
   exact ano this
 | .g j w a v,hc=>by simp only[SV.mapM];rw[SV.stays q u y (v:=v) hc]
end
end Vg
