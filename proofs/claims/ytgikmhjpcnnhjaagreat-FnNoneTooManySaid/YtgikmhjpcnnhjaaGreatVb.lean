/- VG, joined: an evaluator of the code over typed values, and its soundness, for any program. -/
import Derived.Test.YtgikmhjpcnnhjaaGreatVa
import Derived.Orders
set_option linter.unusedSimpArgs false
set_option linter.unusedVariables false
set_option linter.unusedSectionVars false
open Option.some renaming injEq -> adg
open List renaming getD_eq_getElem?_getD -> lk,mem_cons -> kb,mem_append -> kT,contains_eq_mem -> v_,mem_cons_of_mem -> B_,getD_cons_zero -> G9,all_eq_true -> G6,getElem?_eq_getElem -> T1,mem_map -> z_,getD_cons_succ -> J3,mem_append_right -> T2,drop_append_of_le_length -> adA,not_mem_nil -> L_,append_assoc -> T_,nodup_append -> adF,take_append_of_le_length -> adG,drop_take -> T',mem_filter -> adK,take_of_length_le -> adL,drop_of_length_le -> adM,mem_of_getElem? -> adP,nodup_cons -> adQ,drop_drop -> adR,take_take -> adS,mem_singleton -> adU,getElem?_eq_none -> adW,getElem?_toArray -> adX,mem_flatMap -> adY,getElem?_cons_succ -> adZ,mem_eraseDups -> ad1,mem_zipIdx_iff_getElem? -> ad3,mem_append_left -> ad4,toList_toArray -> ad6,getElem?_eq_some_iff -> ad7,length_append -> ad9,length_eq_zero_iff -> aea,drop_append -> aeb,nil_append -> aed,drop_zero -> aef,replicate -> aeg,drop_eq_getElem_cons -> aem,take_append -> aeo,length_cons -> aes,getElem?_cons_zero -> aet,append_nil -> aeu,take_append_drop -> aev,length_singleton -> aew,mem_of_mem_drop -> aex,map_congr_left -> aez,pairwise_cons -> aeB,mem_filterMap -> aeC,any_eq_false -> aeD,drop_sublist -> aeE,lookup -> aeH,flatMap_map -> aeI,cons_append -> aeK,append_inj -> aeM,take_zero -> aeO,take_left -> aeP
open Prod.mk renaming injEq -> adk
open Nat renaming le_refl -> po,add_comm -> r_,lt_succ_self -> w_,mul_le_mul_right -> adE,le_trans -> M_,min_eq_left -> adO,add_mul -> U_,one_mul -> ad5,zero_add -> ad8,lt_of_lt_of_le -> aeh,add_assoc -> aej,lt_irrefl -> aek,sub_self -> aeq,add_zero -> aer,le_succ -> aeG
open Bool renaming and_eq_true -> u_,not_eq_true' -> M',false_eq_true -> ad0,or_eq_true -> aee,true_and -> aey
open Option renaming map_eq_some_iff -> E_,getD_some -> adH,bind_eq_some_iff -> adJ,isNone_none -> adV,map_some -> ad2,bind_some -> aec,isNone_iff_eq_none -> aen,isSome_iff_exists -> aep,isSome_none -> aeA,bind_assoc -> aeF,getD_none -> aeJ
open Array renaming getD_eq_getD_getElem? -> aei,ext' -> aeL
open Function renaming comp_def -> ael
open List.cons renaming injEq -> aeN
open Prod renaming ext -> aeQ
namespace Vg
open Go
theorem yk{k o:Nat}{b c:List Value}(h:k<=o)(hc:o<=c.length):(df o b c).drop k=df (o-k) b (c.drop k):=by
 unfold df;rw[T_,adA (by simp;omega),T',T_,adR];congr 3;omega
theorem xX{n o:Nat}{b c:List Value}(h:o+b.length<=n)(hn:n<=c.length):(df o b c).take n=df o b (c.take n):=by
 unfold df;have d:(c.take o++b).length=o+b.length:=by simp;omega
 rw[aeo,d,adL (by omega),adS,adO (by omega),T']
theorem tv{k b sz:Nat}{d c:List Value}(h:b+d.length<=sz):
 df (k+b) d c=c.take k++df b d ((c.drop k).take sz)++c.drop (k+sz):=by
 unfold df;rw[adS,adO (by omega),T',adR];have e:c.take (k+b)=c.take k++(c.drop k).take b:=by rw[List.take_add]
 have i:c.drop (k+b+d.length)=((c.drop (k+(b+d.length))).take (sz-(b+d.length)))++c.drop (k+sz):=by
  have:=(aev (sz-(b+d.length)) (c.drop (k+(b+d.length)))).symm;rw[adR]at this;rw[show k+b+d.length=k+(b+d.length) by omega];rw[show k+sz=k+(b+d.length)+(sz-(b+d.length)) by omega];exact this
 rw[e,i];simp[T_]
section
variable{P:Program}{C:Cx}{w0:World}{c0:C0}{U:Nat->Prop}{E:Env}{a:Act}{w:World}{G:Gh}{ops:List Oper}{g:Option (Nat×Bool)}
theorem aK.put:∀ {p:List Bool} {τ:Ty} {x:τ.den} {sh:Sh} {cs:List Value} {v:TV} {y:τ.den} {s:Sh} {cv:List Value} {B z:List Nat},
 fC τ x sh p v=some (y,s)->aK w τ x cs B->aK w v.τ v.x cv z->
 ∃q Bo u,B=q++Bo++u/\aK w τ y (df (τ.off p) cv cs) (q++z++u)/\τ.off p+cv.length<=τ.sz
 | [],τ,x,sh,cs,v,y,s,cv,B,z,hp,h,hv=>by
   have J:fJ v τ=some y:=by
    cases τ<;>(simp only[fC]at hp;split at hp<;>simp_all)
   have e:=dv J;have K:=aK.len h;have W:τ.off []=0:=by cases τ<;>rfl
   have A:=aK.len hv;have Y:v.τ=τ:=by rw[e]
   refine⟨[],B,[],by simp,?_,by rw[W,A,Y];omega⟩;unfold df;rw[W,A,Y,aeO,aed,ad8,adM (by omega),aeu];rw[e]at hv;simpa using hv
 |false::p,.pair a b,x,.pair s1 s2,cs,v,y,s,cv,B,z,hp,h,hv=>by
  obtain⟨Z,c2,N,O,rfl,rfl,D,S⟩:=h;simp only[fC]at hp;split at hp;rename_i y1 H I;cases hp;obtain⟨q,Bo,u,rfl,V,hle⟩:=aK.put I D hv;have K:=aK.len D;refine⟨q,Bo,u++O,by simp,⟨_,c2,_,O,?_,by simp,V,S⟩,by simp only[Ty.off,Ty.sz];omega⟩;simp only[Ty.off,df];rw[adG (by omega),adA (by omega)];simp;cases hp
 |true::p,.pair a b,x,.pair s1 s2,cs,v,y,s,cv,B,z,hp,h,hv=>by
  obtain⟨Z,c2,N,O,rfl,rfl,D,S⟩:=h;simp only[fC]at hp;split at hp;rename_i y1 H I;cases hp;obtain⟨q,Bo,u,rfl,V,hle⟩:=aK.put I S hv;have K:=aK.len D;refine⟨N++q,Bo,u,by simp,⟨Z,_,N,_,?_,by simp,D,V⟩,by simp only[Ty.off,Ty.sz];omega⟩;simp only[Ty.off,df];rw[<-K,aeo,adL (by omega),aeb,adM (by omega)];simp[aej];cases hp
 |b::p,.int _,_,_,_,_,_,_,_,_,_,hp,_,_|b::p,.bool,_,_,_,_,_,_,_,_,_,hp,_,_|b::p,.str,_,_,_,_,_,_,_,_,_,hp,_,_|b::p,.sl _,_,_,_,_,_,_,_,_,_,hp,_,_=>by simp[fC]at hp
 |false::p,.pair _ _,_,.leaf,_,_,_,_,_,_,_,hp,_,_|false::p,.pair _ _,_,.sl _,_,_,_,_,_,_,_,hp,_,_=>by simp[fC]at hp
 |true::p,.pair _ _,_,.leaf,_,_,_,_,_,_,_,hp,_,_|true::p,.pair _ _,_,.sl _,_,_,_,_,_,_,_,hp,_,_=>by simp[fC]at hp
def M.clear(b:Nat):M->Prop
 | .row u hs _=>u=b\/b∉hs
 | .sha hs=>b∉hs
 | .nst b' _ _ _ _ _=>b'≠b
 | .dead=>True
def Sh.clear(b:Nat):Sh->Prop
 | .leaf=>True
 | .sl m=>m.clear b
 | .pair x y=>x.clear b/\y.clear b
theorem eM(b:Nat)(m:M):(m.bJ b).clear b:=by
 cases m with
 |row u hs nd=>
  simp only[M.bJ];split;rename_i h;exact .inl h;split;trivial;rename_i h;right;simpa using h
 |sha hs=>
  simp only[M.bJ];split;trivial;rename_i h;simpa[M.clear]using h
 |nst b' e i o p fr=>
  simp only[M.bJ];split;trivial;rename_i h;exact h
 |dead=>trivial
theorem Sh.eM(b:Nat):∀sh:Sh,(sh.map (M.bJ b)).clear b
 | .leaf=>trivial
 | .sl m=>Vg.eM b m
 | .pair x y=>⟨Sh.eM b x,Sh.eM b y⟩
theorem QS(b:Nat)(m:M):∀c∈(m.bJ b).ar,c∈m.ar:=by
 intro c hc;cases m with
 |row u hs nd=>
  simp only[M.bJ]at hc;split at hc;exact hc;split at hc;simp[M.ar]at hc;exact hc
 |sha hs=>
  simp only[M.bJ]at hc;split at hc;simp[M.ar]at hc;exact hc
 |nst b' e i o p fr=>
  simp only[M.bJ]at hc;split at hc;simp[M.ar]at hc;exact hc
 |dead=>exact hc
theorem Ay(b:Nat):xI w U G U G (M.bJ b) (fun _=>true) (fun hs=>if hs.contains b then none else some hs) where
 row e l v m h _:=by
  cases m with
  |row u hs nd=>
   simp only[M.bJ];split;exact h;split;exact h.one;exact h
  |sha hs=>
   simp only[M.bJ];split;exact h.one;exact h
  |nst b' E i o p fr=>
   simp only[M.bJ];split;exact h.one;exact h
  |dead=>exact h
 good m h c hc:=h c (QS b m c hc)
 rd hs hs' h hg:=by
  split at h;cases h;cases h;exact⟨hg,fun b d=>d⟩
 hdr _ _:=rfl
 bx t _ d:=⟨d,fun _ h=>h⟩
 ru _ _ h:=h
 mono _ h:=h
theorem vX{b:Nat}{e:Ty}{y:List e.den}{m:M}{w':World}(j:bV w' G e y (G.hdr b) m)(q:∀k,0<G.col k->G.col k≠b->w'.heap[k]?=w.heap[k]?):
 ∀ {τ:Ty} {x:τ.den} {sh:Sh} {cs:List Value},bh w G τ x sh cs->sh.clear b->(∀c∈sh.ar,0<c)->
   bh w' G τ (iE b e y m τ x sh).1 (iE b e y m τ x sh).2 cs
 | .int _,_,.leaf,_,h,_,_=>h
 | .bool,_,.leaf,_,h,_,_=>h
 | .str,_,.leaf,_,h,_,_=>h
 | .sl e',l,.sl (.row u hs nd),cs,h,hc,hp=>by
   obtain⟨v,rfl,r⟩:=h;simp only[iE];split;rename_i hu;subst hu;split;rename_i he;subst he;refine⟨v,rfl,?_⟩;have:v=G.hdr u:=r.2.1.symm;rw[this];exact j;exact⟨v,rfl,r.one⟩;rename_i hu;refine⟨v,rfl,bV.agree ⟨fun k d=>q k (hp _ d) (fun s=> ?_),fun _ _=>rfl,fun _ _=>rfl⟩ r⟩;simp only[M.ar,kb]at d;rcases hc with hc|hc;exact hu hc;rcases d with d|d;exact hu (d.symm.trans s);exact hc (s▸d)
 | .sl e',l,.sl (.sha hs),cs,h,hc,hp=>by
   obtain⟨v,rfl,r⟩:=h;refine⟨v,rfl,bV.agree ⟨fun k d=>q k (hp _ d) (fun s=> ?_),fun _ _=>rfl,fun _ _=>rfl⟩ r⟩;exact hc (s▸d)
 | .sl e',l,.sl (.nst b' E i o p fr),cs,h,hc,hp=>by
   obtain⟨v,rfl,r⟩:=h;refine⟨v,rfl,bV.agree ⟨fun k d=>q k (hp _ d) (fun s=> ?_),fun _ _=>rfl,fun _ _=>rfl⟩ r⟩;simp only[M.ar,adU]at d;exact hc (d.symm.trans s)
 | .sl e',l,.sl .dead,cs,h,hc,hp=>by
   obtain⟨v,rfl,r⟩:=h;exact⟨v,rfl,r⟩
 | .pair a b',p,.pair s1 s2,cs,h,hc,hp=>by
   obtain⟨t,z,rfl,A,B⟩:=h;exact⟨t,z,rfl,vX j q A hc.1 (fun c h=>hp c (by simp[Sh.ar,h])),vX j q B hc.2 (fun c h=>hp c (by simp[Sh.ar,h]))⟩
 | .int _,_,.sl _,_,h,_,_| .int _,_,.pair _ _,_,h,_,_| .bool,_,.sl _,_,h,_,_| .bool,_,.pair _ _,_,h,_,_
 | .str,_,.sl _,_,h,_,_| .str,_,.pair _ _,_,h,_,_| .sl _,_,.leaf,_,h,_,_| .sl _,_,.pair _ _,_,h,_,_
 | .pair _ _,_,.leaf,_,h,_,_| .pair _ _,_,.sl _,_,h,_,_=>h.elim
theorem rU{b:Nat}{e:Ty}{y:List e.den}{m:M}:∀ {τ:Ty} {x:τ.den} {sh:Sh},∀c∈(iE b e y m τ x sh).2.ar,c∈sh.ar\/c∈m.ar
 | .sl e',l,.sl (.row u hs nd),c,h=>by
   simp only[iE]at h;split at h;split at h;exact .inr h;simp[Sh.ar,M.ar]at h;exact .inl h
 | .pair a b',p,.pair s1 s2,c,h=>by
   simp only[iE,Sh.ar,kT]at h|-;rcases h with h|h;exact(rU c h).imp .inl id;exact(rU c h).imp .inr id
 | .sl _,_,.sl (.nst _ _ _ _ _ _),_,h| .sl _,_,.leaf,_,h| .sl _,_,.pair _ _,_,h| .sl _,_,.sl (.sha _),_,h| .sl _,_,.sl .dead,_,h
 | .int _,_,.leaf,_,h| .int _,_,.sl _,_,h| .int _,_,.pair _ _,_,h| .bool,_,.leaf,_,h| .bool,_,.sl _,_,h| .bool,_,.pair _ _,_,h
 | .str,_,.leaf,_,h| .str,_,.sl _,_,h| .str,_,.pair _ _,_,h| .pair _ _,_,.leaf,_,h| .pair _ _,_,.sl _,_,h=> .inl h
def SV.clear(b:Nat):SV->Prop
 | .d v| .box _ v=>v.sh.clear b
 | .tup l=>∀v∈l,v.sh.clear b
 | .g _ _ _ v=>v.clear b
 |_=>True
theorem SV.eM(b:Nat):∀s:SV,(s.bJ b).clear b
 | .no| .ptr ..=>trivial
 | .d v=>Sh.eM b v.sh
 | .box t v=>Sh.eM b v.sh
 | .ept ..=>by simp only[SV.bJ,SV.mapM];split<;>trivial
 | .rdp hs v=>by simp only[SV.bJ,SV.mapM];split<;>trivial
 | .tup l=>by
   intro v h;simp only[z_]at h;obtain⟨u,_,rfl⟩:=h;exact Sh.eM b u.sh
 | .g j w' act v=>SV.eM b v
theorem ck.setRow{b:Nat}{e:Ty}{y:List e.den}{m:M}{w':World}(q:bV w' G e y (G.hdr b) m)(O:G.bx b=false)(z:∀k,0<G.col k->G.col k≠b->w'.heap[k]?=w.heap[k]?):
 ∀ {s:SV} {mv:Value},ck w G s mv->s.clear b->bg U G s->ck w' G (s.setRow b e y m) mv
 | .no,_,_,_,_=>trivial
 | .d v,mv,⟨cs,h1,h2⟩,hc,hm=>⟨cs,h1,vX q z h2 hc (fun c h=>(hm.1 c h).1)⟩
 | .box t v,mv,⟨bk,c,el,h1,h2,h3,h4,h5,h6⟩,hc,hm=>by
   have I:=hm.2.1 t (by simp[SV.bt]);refine⟨bk,c,el,h1,h2,h3,h4,?_,vX q z h6 hc (fun c h=>(hm.1 c h).1)⟩;rw[z bk (by rw[h4];exact I.1) (fun e=> ?_)];exact h5;rw[h4]at e;rw[e,O]at I;cases I.2.2
 | .ptr t o p τ,mv,h,_,_=>h
 | .ept t e' i o p τ,mv,h,_,_=>h
 | .rdp hs v,mv,⟨bk,o,c,el,fz,h1,h2,h3,h4,h5⟩,_,hm=>by
   simp only[SV.setRow];split;trivial;rename_i B;simp only[v_,b_,kT,not_or]at B
   have S:∀k,G.col k∈hs++v.sh.ar->w'.heap[k]?=w.heap[k]?:=fun k A=>z k (hm.1 _ A).1 (fun e=>by
    rw[e]at A;rcases kT.1 A with A|A;exact B.1 A;exact B.2 A)
   exact⟨bk,o,c,el,fz,h1,(S bk (by simp[h4])).trans h2,h3,h4,bh.agree ⟨fun k A=>S k (by simp[A]),fun _ _=>rfl,fun _ _=>rfl⟩ h5⟩
 | .tup l,mv,⟨vs,h1,h2,h3⟩,hc,hm=>by
   refine⟨vs,h1,by simp[h2],fun i v N=> ?_⟩;rw[List.getElem?_map,E_]at N;obtain⟨J,D,rfl⟩:=N;obtain⟨u,cs,hu,K,V⟩:=h3 i J D;exact⟨u,cs,hu,K,vX q z V (hc J (adP D)) (fun c H=>(hm.1 c (adY.2 ⟨J,adP D,H⟩)).1)⟩
 | .g j w2 false v,mv,⟨h1,h2⟩,hc,hm=>⟨fun e=>absurd e (by simp),h2⟩
 | .g j w2 true v,mv,⟨h1,h2⟩,hc,hm=>⟨fun e=>⟨by
  have:=(h1 e).1;cases v with
  |box t v=>simp[SV.du]at this
  |rdp hs v=>simp only[SV.setRow];split<;>rfl
  |_=>rfl,ck.setRow (s:=v) q O z (h1 e).2 hc (by simpa[bg,SV.sc,SV.bt,SV.rt]using hm)⟩,h2⟩
theorem bg.setRow{b:Nat}{e:Ty}{y:List e.den}{m:M}(p:∀c∈m.ar,Good U G c):∀ {s:SV},bg U G s->bg U G (s.setRow b e y m)
 | .no,h| .ptr ..,h| .ept ..,h=>h
 | .d v,hm=>bg.d fun c hc=>(rU c hc).elim (hm.1 c) (p c)
 | .box t v,hm=>⟨fun c hc=>(rU c hc).elim (hm.1 c) (p c),hm.2.1,hm.2.2⟩
 | .rdp hs v,hm=>by
   simp only[SV.setRow];split;simp[bg,SV.sc,SV.bt,SV.rt];exact hm
 | .tup l,hm=>by
   refine⟨fun c hc=> ?_,by simp[SV.setRow,SV.bt],by simp[SV.setRow,SV.rt]⟩;simp only[SV.setRow,SV.sc,aeI,adY]at hc;obtain⟨v,q,hc⟩:=hc;exact(rU c hc).elim (fun h=>hm.1 c (adY.2 ⟨v,q,h⟩)) (p c)
 | .g j w2 true v,hm=>by
   have:=bg.setRow (b:=b) (e:=e) (y:=y) (s:=v) p (by simpa[bg,SV.sc,SV.bt,SV.rt]using hm);simpa[bg,SV.setRow,SV.sc,SV.bt,SV.rt]using this
 | .g j w2 false v,hm=>by simp[bg,SV.setRow,SV.sc,SV.bt,SV.rt]
theorem JV{b:Nat}{e:Ty}{y:List e.den}{m:M}{s:SV}{t:Nat}{u:TV}(h:s.setRow b e y m= .box t u):∃c,s= .box t c:=by
 cases s with
 |box t' v=>simp only[SV.setRow,SV.box.injEq]at h;exact⟨v,by rw[h.1]⟩
 |rdp hs v=>simp only[SV.setRow]at h;split at h<;>cases h
 |_=>simp[SV.setRow]at h
theorem Inv.setRow(h:Inv w0 c0 U E a w G){b:Nat}{e:Ty}{y:List e.den}{m:M}{w':World}(z:bV w' G e y (G.hdr b) m)(O:G.bx b=false)(hb3:4<=b)
 (q:∀k,G.col k≠b->w'.heap[k]?=w.heap[k]?) (B:∀s,(E.s.getD s .no).clear b) (D:∀c∈m.ar,Good U G c)
 (fresh:∀k,G.col k=b->∃c el,w'.heap[k]?=some (.cells c el (0,0))) (size:w.heap.size=w'.heap.size)
 (os:w'.os=w.os) (tape:w'.tape=w.tape) (output:w'.output=w.output):Inv w0 c0 U {E with s:=E.s.map (SV.setRow b e y m)} a w' G:=by
 have A:∀s,({E with s:=E.s.map (SV.setRow b e y m)}:Env).s.getD s .no=(E.s.getD s .no).setRow b e y m:=fun s=>getD_map (T:=SV.setRow b e y m) rfl s;have hm:∀s,bg U G ((E.s.getD s .no).setRow b e y m):=fun s=>bg.setRow D (h.oK s);refine⟨by simpa using h.len,fun s=> ?_,fun s=> ?_,fun s=> ?_,fun s=> ?_,fun s N t v v' I J=> ?_,h.colU,fun k p=>by rw[<-size];exact h.lt k p,fun k p=> ?_,fun k p hc=> ?_,h.one,by rw[<-size];exact h.size,os.trans h.os,tape.trans h.tape,output.trans h.output,h.defers,h.two,h.hk⟩;rw[A];exact ck.setRow z O (fun k _ p=>q k p) (h.slots s) (B s) (h.oK s);rw[A];exact(hm s).1;rw[A];exact(hm s).2.1;rw[A];exact(hm s).2.2;rw[A]at I J;obtain⟨u,hu⟩:=JV I;obtain⟨S,H⟩:=JV J;exact h.uni s N t u S hu H;by_cases e:G.col k=b;exact fresh k e;rw[q k e];exact h.fresh k p;have K:=h.frame k p hc;exact⟨K.1,by rw[q k (by omega)];exact K.2⟩
theorem Sh.jM:∀ {τ:Ty} {x:τ.den} {sh:Sh} {cs:List Value} {ts:List Nat},bh w G τ x sh cs->sh.own=some ts->∀c∈ts,4<=c
 | .int _,_,.leaf,_,ts,_,h,c,hc| .bool,_,.leaf,_,ts,_,h,c,hc| .str,_,.leaf,_,ts,_,h,c,hc=>by
   simp only[Sh.own,adg]at h;subst h;simp at hc
 | .sl e,l,.sl m,cs,ts,h,ho,c,hc=>by
   obtain⟨v,rfl,z⟩:=h;simp only[Sh.own]at ho;cases m with
   |row t hs nd=>
    obtain⟨_,g3,A⟩:=M.jM ho;rcases(A c).1 hc with rfl|hc;exact z.1;exact g3 c hc
   |sha hs=>cases hs with
    |nil=>simp only[M.own,adg]at ho;subst ho;simp at hc
    |cons=>simp[M.own]at ho
   |nst b E i o p fr=>simp[M.own]at ho
   |dead=>simp[M.own]at ho
 | .pair a b,p,.pair s1 s2,cs,ts,h,ho,c,hc=>by
   obtain⟨c1,c2,rfl,B,D⟩:=h;simp only[Sh.own]at ho;split at ho;rename_i x y q u;split at ho;simp only[adg]at ho;subst ho;rcases kT.1 hc with hc|hc;exact Sh.jM B q c hc;exact Sh.jM D u c hc;cases ho;cases ho
 | .int _,_,.sl _,_,_,h,_,_,_| .int _,_,.pair _ _,_,_,h,_,_,_| .bool,_,.sl _,_,_,h,_,_,_| .bool,_,.pair _ _,_,_,h,_,_,_
 | .str,_,.sl _,_,_,h,_,_,_| .str,_,.pair _ _,_,_,h,_,_,_| .sl _,_,.leaf,_,_,h,_,_,_| .sl _,_,.pair _ _,_,_,h,_,_,_
 | .pair _ _,_,.leaf,_,_,h,_,_,_| .pair _ _,_,.sl _,_,_,h,_,_,_=>h.elim
theorem QE{τ:Ty}{b:Nat}{hs:List Nat}{nd:Bool}{v:TV}{cv:List Value}{e:Ty}{l:List e.den}{hv:Value}{gv:List Nat}{m:M}
 (hr:bV w G e l hv (.row b hs nd)) (Y:∀c∈b::hs,Good U G c) (I:bh w G v.τ v.x v.sh cv) (Z:∀c∈v.sh.ar,Good U G c) (hl:v.sh.live=true) (hτ:v.τ=τ)
 (own:Option (List Nat)) (i:own=if τ.flat then none else match(M.row b hs nd).own,v.sh.own with
  |some a,some c=>if c.all (!a.contains ·)then some ((a++c).filter (·≠b))else none
  |_,_=>none)
 (k:gv=own.getD []) (hm:m=if own.isSome then .row b [b] true else if τ.flat then .row b hs nd else .row b (hs++v.sh.ar).eraseDups false)
 (N:(own.isNone&&v.sh.ar.contains b)=false):
 (∀c∈gv,4<=c/\Good U G c)/\b∉gv/\(∀c∈m.ar,Good U G c)/\
 ∃B F hs' V,di w e.sz (aK w e) l hv B/\aK w v.τ v.x cv F/\m= .row b hs' V/\
  ∀h H,B=h::H->G.col h=b/\h∉H/\h∉F/\∀q,(∃A Bo D,H=A++Bo++D/\q=A++F++D)->
   (∀x∈q,(if G.col x∈gv then b else G.col x)∈hs')/\(V=true->q.Nodup):=by
 obtain⟨a6,hh,B,hB,hc⟩:=hr;by_cases hf:τ.flat=true;rw[an hf]at i;subst i;simp only[aeJ]at k;subst k;simp only[aeA,ad0,if_false,hf,if_true]at hm;subst hm;obtain⟨F,s,_⟩:=I.rep hl;have:F=[]:=aK.flat (by rw[hτ];exact hf) s;subst this;refine⟨by simp,by simp,fun c j=>Y c j,B,[],hs,nd,hB,s,rfl,fun h H t=> ?_⟩;obtain⟨S,k2,T,k4⟩:=hc h H t;refine⟨S,k2,by simp,?_⟩;rintro q ⟨A,Bo,D,rfl,rfl⟩;refine⟨fun x d=> ?_,fun hn=> ?_⟩;simp only[L_,if_false];exact T x (by simp at d|-;rcases d with d|d<;>simp[d])
 exact(k4 hn).sublist (by
  simp only[aeu];exact List.Sublist.append (List.sublist_append_left ..) (List.Sublist.refl _))
 rw[a_ hf]at i;cases ho:own with
 |some ts=>
  rw[ho]at i k hm;simp only[adH]at k;simp only[Option.isSome_some,if_true]at hm;subst k hm;split at i;rename_i a' c av r;split at i;rename_i K;cases i;obtain⟨a7,h3,J⟩:=M.jM av
  have ad:∀z∈c,z∉a':=by
   simp only[G6,M',v_,d_]at K;exact K
  obtain⟨F,s,a8,u⟩:=I.own r;have aB:∀z∈c,4<=z:=Sh.jM I r;refine⟨fun z W=> ?_,by simp,by simp only[M.ar];intro z W;simp only[kb,L_,or_false,or_self]at W;subst W;exact Y z (by simp),B,F,[b],true,hB,s,rfl,fun h H t=> ?_⟩;simp only[adK,kT]at W;rcases W.1 with h|h;refine⟨?_,Y z ?_⟩;rcases(J z).1 h with rfl|h;exact a6;exact h3 z h;rcases(J z).1 h with rfl|h;simp;simp[h];exact⟨aB z h,Z z (Sh.iv r z h)⟩;obtain⟨S,k2,T,k4⟩:=hc h H t;refine⟨S,k2,fun p=> ?_,?_⟩;have:=u h p;rw[S]at this;exact ad b this ((J b).2 (.inl rfl));rintro q ⟨A,Bo,D,rfl,rfl⟩;have hn:=k4 a7;have O:∀x∈A++Bo++D,G.col x∈a':=fun x d=>(J _).2 (.inr (T x d));refine⟨fun x d=> ?_,fun _=> ?_⟩
  have a1:G.col x∈a'\/G.col x∈c:=by
   simp only[kT]at d;rcases d with(d|d)|d;exact .inl (O x (by simp[d]));exact .inr (u x d);exact .inl (O x (by simp[d]))
  by_cases e:G.col x=b;simp[e]
  have p:G.col x∈(a'++c).filter (·≠b):=by
   simp only[adK,kT,ne_eq,decide_not,M',d_];exact⟨a1,e⟩
  rw[an p];simp;have ao:∀x∈F,x∉A++Bo++D:=fun x d p=>ad _ (u x d) (O x p);rw[adF,adF]at hn;obtain⟨⟨n1,n2,n3⟩,n4,n5⟩:=hn;rw[adF,adF];refine⟨⟨n1,a8,fun x d y hy e=>ao y hy (by subst e;simp[d])⟩,n4,fun x d y hy e=> ?_⟩;rcases kT.1 d with d|d;exact n5 x (by simp[d]) y hy e;exact ao x d (by subst e;simp[hy]);cases i;cases i
 |none=>
  rw[ho]at k hm N;simp only[aeJ]at k;subst k;simp only[aeA,ad0,if_false,hf]at hm;subst hm;simp only[adV,aey,v_,d_]at N;obtain⟨F,s,r⟩:=I.rep hl;refine⟨by simp,by simp,fun c j=> ?_,B,F,_,false,hB,s,rfl,fun h H t=> ?_⟩;simp only[M.ar,kb,ad1,kT]at j;rcases j with rfl|j|j;exact Y c (by simp);exact Y c (by simp[j]);exact Z c j;obtain⟨S,k2,T,k4⟩:=hc h H t;refine⟨S,k2,fun p=> ?_,?_⟩;have:=r h p;rw[S]at this;exact N this;rintro q ⟨A,Bo,D,rfl,rfl⟩;refine⟨fun x d=> ?_,by simp⟩;simp only[L_,if_false,ad1,kT];simp only[kT]at d;rcases d with(d|d)|d;exact .inl (T x (by simp[d]));exact .inr (r x d);exact .inl (T x (by simp[d]))
theorem Inv.TL(u:Inv w0 c0 U E a w G){ts:List Nat}{t:Nat}{v:Value}(y:4<=t)(q:∀c∈ts,4<=c/\Good U G c)(z:U t)(A:v=G.hdr t)(p:G.bx t=false):
 Inv w0 c0 U {E with s:=E.s.map (SV.aO ts t)} a w (G.aO ts t v):=by
 refine(u.map (f:=M.aO ts t) (Lx (w:=w) (v:=v) y q (fun _=>⟨A,p⟩)) ?_ ?_).mono (U':=U) (fun c hc=>hc.elim id (fun e=>e▸z));intro b p;simp only[Gh.aO]at p|-;split;exact .inr rfl;rename_i h;rw[a_ h]at p;exact .inl (u.colU b p);intro b;simp only[Gh.aO];by_cases h:G.col b∈ts;have:=(q _ h).1;simp only[h,if_true];omega;simp[h]
theorem ZJ(hC:CxTy P C)(hI:Inv w0 c0 U E a w G)(hR:RI ops E a.tmps)(hg:Gd ops a.tmps g){tk:Nat}{o:Oper}{t:TypeId}{x y:Operand}
 {gv:List Nat} {b:Nat} {e:Ty} {l':List e.den} {m:M} (ho:o.op= .store t x y) (h:bj C ops E.rd tk g o=some (.elem gv b e l' m)):
 ∃w' G',(execOp a.eval o).run P w= .ok .skip w'/\Inv w0 c0 U (E.elem gv b e l' m) a w' G':=by
 simp only[bj,ho]at h;split at h;split at h;split at h;obtain⟨r,_,h⟩:=E_.mp h;cases h;cases h;cases h;rename_i ti j d i off p τ1 v1 b6 a1 hv;split at h;rename_i l hs nd a6;obtain⟨hc,h⟩:=Option.ite_none_right_eq_some.mp h;obtain⟨ca,h⟩:=Option.ite_none_left_eq_some.mp h;obtain⟨r,hr,h⟩:=E_.mp h;simp only[Ef.elem.injEq]at h;obtain⟨cb,rfl,rfl,Y,hm⟩:=h;have Y:=eq_of_heq Y;subst Y;simp only[u_,b_]at hc;obtain⟨⟨⟨cc,hc2⟩,cd⟩,Z⟩:=hc;obtain⟨h1,_⟩:=fK hI hR hg a1;obtain⟨z,of,n,cap,D,k2,k3,k4,k5⟩:=h1;obtain⟨⟨vh,b2⟩,q⟩:=hI.eB a6;obtain⟨⟨F,cf,ad⟩,cg,av⟩:=jD hI hR hg hv;have a7:vh=G.hdr j:=b2.2.1.symm;have J:=ca;simp only[Bool.not_eq_true]at J;obtain⟨q1,q2,q3,B,Bv,hs',nd',hB,ch,cl,b3⟩:=QE (τ:=τ1) (gv:=gv) (m:=m) b2 q ad cg av cd _ rfl cb.symm hm.symm J;rw[a7,k2]at hB;rcases hB with⟨⟨ao,hB⟩,_⟩|⟨bk',of',cap',c,el,fz,Bs,S,V,u,hsz,rfl,hl⟩;cases hB;exfalso;have k4':i<((0:Nat):Int):=k4;have k3': @LE.le Int Int.instLEInt 0 i:=k3;omega;simp only[Value.slice.injEq,adg,Addr.mk.injEq,and_true]at S;obtain⟨⟨rfl,rfl⟩,rfl,rfl⟩:=S;obtain⟨j1,j2,j3,j4⟩:=b3 z Bs rfl;obtain⟨c',b4,aB⟩:=hI.fresh z (by rw[j1];exact D);rw[aB]at u;simp only[adg,Obj.cells.injEq]at u;obtain⟨rfl,rfl,rfl⟩:=u;have hi:i.toNat<l.length:=toNat_lt k3 k4
 have a8:l[i.toNat]?=some (l.getD i.toNat d.aa):=by
  rw[lk,T1 hi];rfl
 obtain⟨B1,Bx,B2,rfl,cp,ct,cy⟩:=aN.get (sz:=d.sz) (fun x c B h=>aK.len h) hl a8;obtain⟨Ba,Bo,Bb,rfl,b5,hle⟩:=aK.put hr cp ch;have ba:=aN.set (sz:=d.sz) hi b5 ct cy;have bb:F.length=v1.τ.sz:=bh.len ad;have hmul:(i.toNat+1)*d.sz<=l.length*d.sz:=adE _ hi;have hmul2:l.length*d.sz<=cap*d.sz:=adE _ V;rw[U_,ad5]at hmul;have hO:of+i.toNat*d.sz+off+F.length<=c'.size:=by rw[<-cc];omega
 have A:=gG z (el:=b4) F (of+i.toNat*d.sz+off) w c' aB hO;have hT:=(hC.tt t ti b6).1;have bl:=tF (P:=P) (t:=t) (τ:=ti.τ) hT aB (o:=of+i.toNat*d.sz+off) (cs:=F) (by rw[<-Z,<-bb];exact hO) (by rw[bb,Z]) (bh.one ad) k5;have hU:U j:=(q j (by simp)).2.1;have b7:G.bx j=false:=(q j (by simp)).2.2;have bs:=hI.TL (ts:=gv) (t:=j) (v:=G.hdr j) D q1 hU rfl b7;have b8:=bs.map (Ay (w:=w) j) bs.colU (fun b=>⟨fun h=>h,fun _=>rfl,fun _=>rfl⟩);have K:(G.aO gv j (G.hdr j)).col z=j:=by simp[Gh.aO,j1,q2]
 have H:∀k,(G.aO gv j (G.hdr j)).col k≠j->(w.setCells z (of+i.toNat*d.sz+off) F).heap[k]?=w.heap[k]?:=fun k W=>
  bQ z _ _ w k (fun e=>W (e▸K))
 have N:=j4 (B1++(Ba++Bv++Bb)++B2) ⟨B1++Ba,Bo,Bb++B2,by simp[T_],by simp[T_]⟩
 have O:z∉B1++(Ba++Bv++Bb)++B2:=by
  simp only[kT,not_or]at j2|-;exact⟨⟨j2.1.1,⟨j2.1.2.1.1,j3⟩,j2.1.2.2⟩,j2.2⟩
 have b0:bV (w.setCells z (of+i.toNat*d.sz+off) F) (G.aO gv j (G.hdr j)) d (l.set i.toNat r.1) ((G.aO gv j (G.hdr j)).hdr j) m:=by
  rw[cl];refine⟨D,rfl,z::(B1++(Ba++Bv++Bb)++B2),?_,?_⟩;refine .inr ⟨z,of,cap,_,b4,(0,0),B1++(Ba++Bv++Bb)++B2,by simp[Gh.aO,k2],by simpa using V,A,by simp;omega,rfl,?_⟩
  have I:((df (of+i.toNat*d.sz+off) F c'.toList).drop of).take ((l.set i.toNat r.1).length*d.sz)=
   ((c'.toList.drop of).take (l.length*d.sz)).take (i.toNat*d.sz)++df (d.off p) F ((((c'.toList.drop of).take (l.length*d.sz)).drop (i.toNat*d.sz)).take d.sz)++((c'.toList.drop of).take (l.length*d.sz)).drop ((i.toNat+1)*d.sz):=by
   rw[yk (by omega) (by simp;omega),xX (by simp;omega) (by simp;omega)];rw[show of+i.toNat*d.sz+off-of=i.toNat*d.sz+d.off p by omega];rw[tv (sz:=d.sz) hle];rw[U_,ad5];simp
  show aN _ _ (((df (of+i.toNat*d.sz+off) F c'.toList).toArray.toList.drop of).take _) _;rw[ad6,I];exact aN.world (fun k W=>bQ z _ _ w k (fun e=>O (e▸W))) ba;rintro h' Bs'' ⟨⟩;exact⟨K,O,N.1,N.2⟩
 have b9:=b8.setRow b0 (by simp[Gh.aO]) D H (fun s=> ?_) (fun c hc=> ?_) (fun k W=> ?_) (by rw[fh]) (cq _ _ _ w).1 (cq _ _ _ w).2.1 (cq _ _ _ w).2.2;refine⟨w.setCells z (of+i.toNat*d.sz+off) F,G.aO gv j (G.hdr j),?_,?_⟩;simp only[execOp,ho,cf,Z];simp[bl];simpa only[Env.elem,List.map_map,ael,SV.bJ,SV.aO]using b9;have:=getD_map (L:=E.s.map (SV.aO gv j)) (T:=SV.bJ j) rfl s;show SV.clear j ((List.map (SV.bJ j) (E.s.map (SV.aO gv j))).getD s .no);rw[this];exact SV.eM j _;obtain⟨p1,p2,p3⟩:=q3 c hc;refine⟨p1,p2,?_⟩;simp only[Gh.aO];split;rfl;exact p3;by_cases e:k=z;subst e;exact⟨_,_,A⟩;rw[bQ z _ _ w k e];refine hI.fresh k ?_;simp only[Gh.aO]at W;split at W;rename_i h;exact(q1 _ h).1;rw[W];exact D;cases h;cases h
end
theorem A3:∀(p:Pt) (tk:Nat) (hs:List Nat),(aQ p tk hs).2=(aQ p tk []).2
 | .leaf,_,_| .own,_,_| .shr,_,_| .hd,_,_| .pv,_,_| .rom,_,_=>rfl
 | .pair a b,tk,hs=>by simp only[aQ];rw[A3 a tk hs,A3 b _ hs]
theorem cB(p:Pt)(tk:Nat)(hs:List Nat):(aQ p tk hs).2=aL p tk:=A3 p tk hs
theorem bD:∀(p:Pt) (tk:Nat),tk<=aL p tk
 | .leaf,_| .shr,_| .rom,_=>po _
 | .own,_| .hd,_| .pv,_=>aeG _
 | .pair a b,tk=>by
   have c:=bD a tk;have d:=bD b (aL a tk);exact M_ c d
theorem ga(a b:Pt)(tk:Nat):aL (.pair a b) tk=aL b (aL a tk):=rfl
theorem tq:∀(τ:Ty) (tk:Nat) (hs:List Nat),aQ (uU τ) tk hs=(fV τ (.sha hs),tk)
 | .int _,_,_| .bool,_,_| .str,_,_| .sl _,_,_=>rfl
 | .pair a b,tk,hs=>by simp only[uU,aQ,tq a,tq b,fV]
theorem H8(τ:Ty)(tk:Nat):aL (uU τ) tk=tk:=by rw[<-cB (uU τ) tk [1],tq]
theorem oH:∀ {p:Pt} {tk:Nat} {hs:List Nat},∀c∈(aQ p tk hs).1.ar,c∈hs\/(tk<=c/\c<aL p tk)\/c=3
 | .leaf,tk,hs,c,h=>by simp[aQ,Sh.ar]at h
 | .rom,tk,hs,c,h=>by
   simp only[aQ,Sh.ar,M.ar,adU]at h;exact .inr (.inr h)
 | .own,tk,hs,c,h=>by
   simp only[aQ,Sh.ar,M.ar,kb,L_,or_false,or_self]at h;subst h;exact .inr (.inl ⟨po _,w_ _⟩)
 | .pv,tk,hs,c,h=>by
   simp only[aQ,Sh.ar,M.ar,kb,L_,or_false,or_self]at h;subst h;exact .inr (.inl ⟨po _,w_ _⟩)
 | .hd,tk,hs,c,h=>by
   simp only[aQ,Sh.ar,M.ar,kb]at h;rcases h with rfl|rfl|h;exact .inr (.inl ⟨po _,w_ _⟩);exact .inr (.inl ⟨po _,w_ _⟩);exact .inl h
 | .shr,tk,hs,c,h=> .inl h
 | .pair a b,tk,hs,c,h=>by
   simp only[aQ,Sh.ar,kT]at h;have h1:=bD a tk;have h2:=bD b (aL a tk);rw[ga];rcases h with h|h;rcases oH c h with h|h;exact .inl h;right;omega;rw[cB]at h;rcases oH c h with h|h;exact .inl h;right;omega
theorem lM:∀ {p:Pt} {tk:Nat} {hs:List Nat},∀c∈(aQ p tk hs).1.ar,(c∈hs/\p.rK=true)\/(tk<=c/\c<aL p tk)\/c=3
 | .leaf,tk,hs,c,h=>by simp[aQ,Sh.ar]at h
 | .rom,tk,hs,c,h=>by
   simp only[aQ,Sh.ar,M.ar,adU]at h;exact .inr (.inr h)
 | .own,tk,hs,c,h=>by
   simp only[aQ,Sh.ar,M.ar,kb,L_,or_false,or_self]at h;subst h;exact .inr (.inl ⟨po _,w_ _⟩)
 | .pv,tk,hs,c,h=>by
   simp only[aQ,Sh.ar,M.ar,kb,L_,or_false,or_self]at h;subst h;exact .inr (.inl ⟨po _,w_ _⟩)
 | .hd,tk,hs,c,h=>by
   simp only[aQ,Sh.ar,M.ar,kb]at h;rcases h with rfl|rfl|h;exact .inr (.inl ⟨po _,w_ _⟩);exact .inr (.inl ⟨po _,w_ _⟩);exact .inl ⟨h,rfl⟩
 | .shr,tk,hs,c,h=> .inl ⟨h,rfl⟩
 | .pair a b,tk,hs,c,h=>by
   simp only[aQ,Sh.ar,kT]at h;have h1:=bD a tk;have h2:=bD b (aL a tk);rw[ga];simp only[Pt.rK,aee];rcases h with h|h;rcases lM c h with h|h;exact .inl ⟨h.1,.inl h.2⟩;right;omega;rw[cB]at h;rcases lM c h with h|h;exact .inl ⟨h.1,.inr h.2⟩;right;omega
section
variable{P:Program}{C:Cx}{w0:World}{c0:C0}{U:Nat->Prop}{E:Env}{a:Act}{w:World}{G:Gh}{ops:List Oper}{g:Option (Nat×Bool)}
theorem mB{sm:Nat->Nat}{hs:List Nat}:∀ {p:Pt} {τ:Ty} {x:τ.den} {sh:Sh} {cs:List Value} {tk:Nat},jf p sh=true->bh w G τ x sh cs->4<=tk->(∀c∈sh.ar,sm c∈hs)->hs≠ []->
 ∃H:Nat->Value,∀d:Gh,(∀c k,(c,k)∈fb sm p sh tk->∀b,G.col b=c->d.col b=k)->(∀u,tk<=u->u<aL p tk->d.hdr u=H u)->bh w d τ x (aQ p tk hs).1 cs
 | .leaf,.int _,x,.leaf,cs,tk,_,h,_,_,_=>⟨fun _=>undef,fun _ _ _=>h⟩
 | .leaf,.bool,x,.leaf,cs,tk,_,h,_,_,_=>⟨fun _=>undef,fun _ _ _=>h⟩
 | .leaf,.str,x,.leaf,cs,tk,_,h,_,_,_=>⟨fun _=>undef,fun _ _ _=>h⟩
 | .own,.sl e,l,.sl m,cs,tk,hf,h,h3,_,_=>by
   obtain⟨v,rfl,s⟩:=h;simp only[jf,aep]at hf;obtain⟨V,J⟩:=hf;obtain⟨B,r,O,hc⟩:=s.own J;refine⟨fun _=>v,fun d i j=>⟨v,rfl,h3,j tk (po _) (w_ _),B,r,?_⟩⟩;have I:∀b∈B,d.col b=tk:=fun b z=>i (G.col b) tk (by simp only[fb,J,adH,z_];exact⟨_,hc b z,rfl⟩) b rfl;rintro b D rfl;rw[adQ]at O;exact⟨I b (by simp),O.1,fun x F=>by simp[I x (by simp[F])],fun _=>O.2⟩
 | .shr,.sl e,l,.sl m,cs,tk,hf,h,h3,hsm,hne=>by
   obtain⟨v,rfl,s⟩:=h;simp only[jf,ne_eq,decide_not,M',d_]at hf;obtain⟨B,r,hc⟩:=s.rep hf;refine⟨fun _=>v,fun d i j=>⟨v,rfl,⟨B,r,fun b z=> ?_⟩,fun e=>absurd e hne⟩⟩;rw[i (G.col b) (sm (G.col b)) (by simp only[fb,z_];exact⟨_,hc b z,rfl⟩) b rfl];exact hsm _ (hc b z)
 | .rom,.sl e,l,.sl m,cs,tk,hf,h,h3,_,_=>by
   obtain⟨v,rfl,s⟩:=h;simp only[jf,ne_eq,decide_not,u_,M',d_,G6,b_]at hf;obtain⟨B,r,hc⟩:=s.rep hf.1;refine⟨fun _=>v,fun d i j=>⟨v,rfl,⟨B,r,fun b z=> ?_⟩,fun e=>absurd e (by simp)⟩⟩;have T:=hf.2 _ (hc b z);rw[i 3 3 (by simp only[fb,z_,adK,b_];exact⟨3,⟨T▸hc b z,rfl⟩,rfl⟩) b T];simp
 | .pv,.sl e,l,.sl m,cs,tk,hf,h,h3,_,_=>by
   obtain⟨v,rfl,s⟩:=h;simp only[jf,aep]at hf;obtain⟨V,J⟩:=hf;rcases M.NK J with⟨t,K,W,rfl,N,S⟩|⟨rfl,rfl⟩;obtain⟨_,_,B,r,hc⟩:=s;refine⟨fun _=>v,fun d i j=>⟨v,rfl,h3,j tk (po _) (w_ _),B,r,?_⟩⟩;rintro b D rfl;obtain⟨q1,q2,q3,_⟩:=hc b D rfl;have I:∀c,c=t\/c∈K->∀b,G.col b=c->d.col b=tk:=fun c hc=>i c tk (by simp only[fb,J,adH,z_];exact⟨c,(S c).2 hc,rfl⟩);exact⟨I t (.inl rfl) b q1,q2,fun x F=>by simp[I _ (.inr (q3 x F)) x rfl],by simp⟩;obtain⟨_,B,r,rfl⟩:=s.nil;exact⟨fun _=>v,fun d i j=>⟨v,rfl,h3,j tk (po _) (w_ _),[],r,by rintro b D ⟨⟩⟩⟩
 | .hd,.sl e,l,.sl (.row t K W),cs,tk,hf,h,h3,hsm,hne=>by
   obtain⟨v,rfl,_,_,B,r,hc⟩:=h;refine⟨fun _=>v,fun d i j=>⟨v,rfl,h3,j tk (po _) (w_ _),B,r,?_⟩⟩;rintro b D rfl;obtain⟨q1,q2,q3,_⟩:=hc b D rfl;refine⟨i t tk (by simp[fb]) b q1,q2,fun x F=> ?_,by simp⟩;by_cases e:G.col x=t;rw[i t tk (by simp[fb]) x e];simp;rw[i (G.col x) (sm (G.col x)) (by simp only[fb,kb,z_,adK];exact .inr ⟨_,⟨q3 x F,by simpa using e⟩,rfl⟩) x rfl];exact B_ _ (hsm _ (by simp[Sh.ar,M.ar,q3 x F]))
 | .hd,.sl e,l,.sl (.sha []),cs,tk,hf,h,h3,hsm,hne=>by
   obtain⟨v,rfl,s⟩:=h;obtain⟨_,B,r,rfl⟩:=bV.nil s;exact⟨fun _=>v,fun d i j=>⟨v,rfl,h3,j tk (po _) (w_ _),[],r,by rintro b D ⟨⟩⟩⟩
 | .pair p q,.pair a b,x,.pair s1 s2,cs,tk,hf,h,h3,hsm,hne=>by
   obtain⟨Y,Z,rfl,i,j⟩:=h;simp only[jf,u_]at hf;have N:=bD p tk;obtain⟨H1,k1⟩:=mB hf.1 i h3 (fun c hc=>hsm c (by simp[Sh.ar,hc])) hne;obtain⟨H2,k2⟩:=mB (tk:=aL p tk) hf.2 j (by omega) (fun c hc=>hsm c (by simp[Sh.ar,hc])) hne;refine⟨fun u=>if u<aL p tk then H1 u else H2 u,fun d g1 g2=>⟨Y,Z,rfl,?_,?_⟩⟩;refine k1 d (fun c k A=>g1 c k (by simp only[fb,kT];exact .inl A)) (fun u hu y=> ?_);exact(g2 u hu (by rw[ga];exact aeh y (bD _ _))).trans (an y);rw[cB];refine k2 d (fun c k A=>g1 c k (by simp only[fb,kT];exact .inr A)) (fun u hu y=> ?_);exact(g2 u (by omega) (by rw[ga];exact y)).trans (a_ (by omega))
 | .hd,_,_,.sl (.sha (_::_)),_,_,hf,_,_,_,_| .hd,_,_,.sl .dead,_,_,hf,_,_,_,_| .hd,_,_,.leaf,_,_,hf,_,_,_,_| .hd,_,_,.pair _ _,_,_,hf,_,_,_,_
 | .pv,_,_,.leaf,_,_,hf,_,_,_,_| .pv,_,_,.pair _ _,_,_,hf,_,_,_,_| .rom,_,_,.leaf,_,_,hf,_,_,_,_| .rom,_,_,.pair _ _,_,_,hf,_,_,_,_
 | .leaf,_,_,.sl _,_,_,hf,_,_,_,_| .leaf,_,_,.pair _ _,_,_,hf,_,_,_,_| .own,_,_,.leaf,_,_,hf,_,_,_,_| .own,_,_,.pair _ _,_,_,hf,_,_,_,_
 | .shr,_,_,.leaf,_,_,hf,_,_,_,_| .shr,_,_,.pair _ _,_,_,hf,_,_,_,_| .pair _ _,_,_,.leaf,_,_,hf,_,_,_,_| .pair _ _,_,_,.sl _,_,_,hf,_,_,_,_=>by simp[jf]at hf
 | .hd,.int _,_,.sl (.row _ _ _),_,_,_,h,_,_,_| .hd,.bool,_,.sl (.row _ _ _),_,_,_,h,_,_,_| .hd,.str,_,.sl (.row _ _ _),_,_,_,h,_,_,_| .hd,.pair _ _,_,.sl (.row _ _ _),_,_,_,h,_,_,_
 | .hd,.int _,_,.sl (.sha []),_,_,_,h,_,_,_| .hd,.bool,_,.sl (.sha []),_,_,_,h,_,_,_| .hd,.str,_,.sl (.sha []),_,_,_,h,_,_,_| .hd,.pair _ _,_,.sl (.sha []),_,_,_,h,_,_,_
 | .rom,.int _,_,.sl _,_,_,_,h,_,_,_| .rom,.bool,_,.sl _,_,_,_,h,_,_,_| .rom,.str,_,.sl _,_,_,_,h,_,_,_| .rom,.pair _ _,_,.sl _,_,_,_,h,_,_,_
 | .pv,.int _,_,.sl _,_,_,_,h,_,_,_| .pv,.bool,_,.sl _,_,_,_,h,_,_,_| .pv,.str,_,.sl _,_,_,_,h,_,_,_| .pv,.pair _ _,_,.sl _,_,_,_,h,_,_,_
 | .leaf,.sl _,_,.leaf,_,_,_,h,_,_,_| .leaf,.pair _ _,_,.leaf,_,_,_,h,_,_,_| .own,.int _,_,.sl _,_,_,_,h,_,_,_| .own,.bool,_,.sl _,_,_,_,h,_,_,_| .own,.str,_,.sl _,_,_,_,h,_,_,_| .own,.pair _ _,_,.sl _,_,_,_,h,_,_,_
 | .shr,.int _,_,.sl _,_,_,_,h,_,_,_| .shr,.bool,_,.sl _,_,_,_,h,_,_,_| .shr,.str,_,.sl _,_,_,_,h,_,_,_| .shr,.pair _ _,_,.sl _,_,_,_,h,_,_,_
 | .pair _ _,.int _,_,.pair _ _,_,_,_,h,_,_,_| .pair _ _,.bool,_,.pair _ _,_,_,_,h,_,_,_| .pair _ _,.str,_,.pair _ _,_,_,_,h,_,_,_| .pair _ _,.sl _,_,.pair _ _,_,_,_,h,_,_,_=>h.elim
theorem GF{s G2:Gh}{hs hs':List Nat}:∀ {p:Pt} {τ:Ty} {x:τ.den} {cs:List Value} {k k':Nat},bh w s τ x (aQ p k hs).1 cs->4<=k'->
 (∀u,k<=u->u<aL p k->G2.hdr (k'+(u-k))=s.hdr u/\∀b,s.col b=u->G2.col b=k'+(u-k))->(∀b,s.col b∈hs->G2.col b∈hs')->(∀b,s.col b=3->G2.col b=3)->hs'≠ []->
 bh w G2 τ x (aQ p k' hs').1 cs/\aL p k'-k'=aL p k-k
 | .leaf,.int _,x,cs,k,k',h,_,_,_,_,_=>⟨h,by simp[aL,aQ]⟩
 | .leaf,.bool,x,cs,k,k',h,_,_,_,_,_=>⟨h,by simp[aL,aQ]⟩
 | .leaf,.str,x,cs,k,k',h,_,_,_,_,_=>⟨h,by simp[aL,aQ]⟩
 | .rom,.sl e,l,cs,k,k',h,_,_,_,hrom,_=>by
   obtain⟨v,rfl,⟨B,i,hc⟩,_⟩:=h;exact⟨⟨v,rfl,⟨B,i,fun b d=>by simp[hrom b (by simpa using hc b d)]⟩,fun e=>absurd e (by simp)⟩,by simp[aL,aQ]⟩
 | .own,.sl e,l,cs,k,k',h,h3,hk,_,_,_=>by
   obtain⟨v,rfl,g1,g2,B,i,hc⟩:=h;obtain⟨j,c⟩:=hk k (po _) (w_ _);simp only[aeq,aer]at j c;refine⟨⟨v,rfl,h3,j.trans g2,B,i,fun b m d=> ?_⟩,by simp[aL,aQ]⟩;obtain⟨q1,q2,q3,q4⟩:=hc b m d;exact⟨c b q1,q2,fun x r=>by simp[c x (by simpa using q3 x r)],q4⟩
 | .pv,.sl e,l,cs,k,k',h,h3,hk,_,_,_=>by
   obtain⟨v,rfl,g1,g2,B,i,hc⟩:=h;obtain⟨j,c⟩:=hk k (po _) (w_ _);simp only[aeq,aer]at j c;refine⟨⟨v,rfl,h3,j.trans g2,B,i,fun b m d=> ?_⟩,by simp[aL,aQ]⟩;obtain⟨q1,q2,q3,q4⟩:=hc b m d;exact⟨c b q1,q2,fun x r=>by simp[c x (by simpa using q3 x r)],q4⟩
 | .hd,.sl e,l,cs,k,k',h,h3,hk,hh,_,hne=>by
   obtain⟨v,rfl,g1,g2,B,i,hc⟩:=h;obtain⟨j,c⟩:=hk k (po _) (w_ _);simp only[aeq,aer]at j c;refine⟨⟨v,rfl,h3,j.trans g2,B,i,fun b m d=> ?_⟩,by simp[aL,aQ]⟩;obtain⟨q1,q2,q3,q4⟩:=hc b m d;refine⟨c b q1,q2,fun x r=> ?_,q4⟩;rcases kb.1 (q3 x r)with h|h;rw[c x h];simp;exact B_ _ (hh x h)
 | .shr,.sl e,l,cs,k,k',h,_,_,hh,_,hne=>by
   obtain⟨v,rfl,⟨B,i,hc⟩,_⟩:=h;exact⟨⟨v,rfl,⟨B,i,fun b d=>hh b (hc b d)⟩,fun e=>absurd e hne⟩,by simp[aL,aQ]⟩
 | .pair p q,.pair a b,x,cs,k,k',h,h3,hk,hh,hrom,hne=>by
   obtain⟨z,A,rfl,D,y⟩:=h;have n1:=bD p k;have n2:=bD q (aL p k);have n3:=bD p k';rw[cB]at y;obtain⟨F,d1⟩:=GF D h3 (fun u hu t=>hk u hu (by rw[ga];omega)) hh hrom hne
   obtain⟨H,d2⟩:=GF (k':=aL p k') y (by omega) (fun u hu t=>by
    have:=hk u (by omega) (by rw[ga];omega);rw[show aL p k'+(u-aL p k)=k'+(u-k) by omega];exact this) hh hrom hne
   refine⟨⟨z,A,rfl,F,?_⟩,?_⟩;rw[cB];exact H;rw[ga,ga];have:=bD q (aL p k');omega
 | .hd,.int _,_,_,_,_,h,_,_,_,_,_| .hd,.bool,_,_,_,_,h,_,_,_,_,_| .hd,.str,_,_,_,_,h,_,_,_,_,_| .hd,.pair _ _,_,_,_,_,h,_,_,_,_,_
 | .rom,.int _,_,_,_,_,h,_,_,_,_,_| .rom,.bool,_,_,_,_,h,_,_,_,_,_| .rom,.str,_,_,_,_,h,_,_,_,_,_| .rom,.pair _ _,_,_,_,_,h,_,_,_,_,_
 | .pv,.int _,_,_,_,_,h,_,_,_,_,_| .pv,.bool,_,_,_,_,h,_,_,_,_,_| .pv,.str,_,_,_,_,h,_,_,_,_,_| .pv,.pair _ _,_,_,_,_,h,_,_,_,_,_
 | .leaf,.sl _,_,_,_,_,h,_,_,_,_,_| .leaf,.pair _ _,_,_,_,_,h,_,_,_,_,_| .own,.int _,_,_,_,_,h,_,_,_,_,_| .own,.bool,_,_,_,_,h,_,_,_,_,_| .own,.str,_,_,_,_,h,_,_,_,_,_| .own,.pair _ _,_,_,_,_,h,_,_,_,_,_
 | .shr,.int _,_,_,_,_,h,_,_,_,_,_| .shr,.bool,_,_,_,_,h,_,_,_,_,_| .shr,.str,_,_,_,_,h,_,_,_,_,_| .shr,.pair _ _,_,_,_,_,h,_,_,_,_,_
 | .pair _ _,.int _,_,_,_,_,h,_,_,_,_,_| .pair _ _,.bool,_,_,_,_,h,_,_,_,_,_| .pair _ _,.str,_,_,_,_,h,_,_,_,_,_| .pair _ _,.sl _,_,_,_,_,h,_,_,_,_,_=>h.elim
end
theorem gi:∀(ps:List PK) (tk:Nat),tk<=bP ps tk
 | [],_=>po _
 | .val _ p::ps,tk=>M_ (bD p tk) (gi ps _)
 | .io _ p::ps,tk=>M_ (M_ (aeG _) (bD p (tk+1))) (gi ps _)
 | .rd _::ps,tk| .vx _ _::ps,tk=>gi ps tk
theorem lC:∀(ps:List PK) (x:aW (ps.map PK.ty)) (tk:Nat),(bW ps x tk).2=bP ps tk
 | [],_,_=>rfl
 | .val _ p::ps,x,tk=>by simp only[bW,bP];rw[cB];exact lC ps x.2 _
 | .io _ p::ps,x,tk=>by simp only[bW,bP];rw[cB];exact lC ps x.2 _
 | .rd _::ps,x,tk| .vx _ _::ps,x,tk=>by simp only[bW,bP];exact lC ps x.2 _
theorem mS:∀(ps:List PK) (x:aW (ps.map PK.ty)) (tk:Nat),(bW ps x tk).1.length=ps.length
 | [],_,_=>rfl
 | .val _ p::ps,x,tk=>by simp only[bW,aes];rw[mS ps x.2]
 | .io _ p::ps,x,tk=>by simp only[bW,aes];rw[mS ps x.2]
 | .rd _::ps,x,tk| .vx _ _::ps,x,tk=>by simp only[bW,aes];rw[mS ps x.2]
theorem eI:∀ {ps:List PK} {tk:Nat},∀c∈cJ ps tk,tk<=c/\c<bP ps tk
 | [],_,c,h=>by simp[cJ]at h
 | .val _ p::ps,tk,c,h=>by
   have:=eI (ps:=ps) (tk:=aL p tk) c h;have b:=bD p tk;exact⟨by omega,this.2⟩
 | .io _ p::ps,tk,c,h=>by
   have b:=bD p (tk+1);have h2:=gi ps (aL p (tk+1));simp only[cJ,kb]at h;simp only[bP];rcases h with rfl|h;omega;have:=eI (ps:=ps) (tk:=aL p (tk+1)) c h;omega
 | .rd _::ps,tk,c,h| .vx _ _::ps,tk,c,h=>eI (ps:=ps) (tk:=tk) c h
theorem kW:∀ {ps:List PK} {x:aW (ps.map PK.ty)} {tk:Nat},∀sv∈(bW ps x tk).1,
 (∀c∈sv.sc,(c=1\/c=3)\/(tk<=c/\c<bP ps tk/\c∉cJ ps tk)\/c∈Nz ps)/\(∀c∈sv.bt,c∈cJ ps tk)/\sv.rt=[]
 | .val τ p::ps,x,tk,sv,h=>by
   have q:=bD p tk;have r:=gi ps (aL p tk);simp only[bW,kb]at h;rcases h with rfl|h
   ·refine⟨fun c hc=> ?_,by simp[SV.bt],rfl⟩;rcases oH c hc with h|h|h
    ·left;left;simpa using h
    rotate_left
    ·left;right;exact h
    ·right;left;simp only[bP,cJ];exact⟨h.1,by omega,fun b=>by have:=eI (ps:=ps) (tk:=aL p tk) c b;omega⟩
   ·rw[cB]at h;obtain⟨d,i,j⟩:=kW sv h;refine⟨fun c hc=> ?_,i,j⟩;rcases d c hc with h|⟨s,k,m⟩|h
    ·exact .inl h
    ·exact .inr (.inl ⟨by omega,k,m⟩)
    ·exact .inr (.inr h)
 | .io τ p::ps,x,tk,sv,h=>by
   have q:=bD p (tk+1);have r:=gi ps (aL p (tk+1));simp only[bW,kb]at h;rcases h with rfl|h
   ·refine⟨fun c hc=> ?_,by simp[SV.bt,cJ],rfl⟩;rcases oH c hc with h|h|h
    ·left;left;simpa using h
    rotate_left
    ·left;right;exact h
    ·right;left;simp only[bP,cJ,kb,not_or];exact⟨by omega,by omega,by omega,fun b=>by have:=eI (ps:=ps) (tk:=aL p (tk+1)) c b;omega⟩
   ·rw[cB]at h;obtain⟨d,i,j⟩:=kW sv h;refine⟨fun c hc=> ?_,fun c hc=>by simp[cJ,i c hc],j⟩;rcases d c hc with h|⟨s,k,m⟩|h
    ·exact .inl h
    ·refine .inr (.inl ⟨by omega,k,?_⟩);simp only[cJ,kb,not_or];exact⟨by omega,m⟩
    ·exact .inr (.inr h)
 | .rd τ::ps,x,tk,sv,h=>by
   simp only[bW,kb]at h;rcases h with rfl|h
   ·refine⟨fun c hc=> ?_,by simp[SV.bt],rfl⟩;simp only[SV.sc,kT]at hc;rcases hc with hc|hc
    ·left;left;simpa using hc
    ·rw[tq]at hc;left;left;simpa[M.ar]using oE _ _ c hc
   ·obtain⟨d,i,j⟩:=kW sv h;exact⟨d,i,j⟩
 | .vx e l::ps,x,tk,sv,h=>by
   simp only[bW,kb]at h;rcases h with rfl|h
   ·refine⟨fun c hc=> ?_,by simp[SV.bt],rfl⟩;simp only[SV.sc,Sh.ar,M.ar,kb]at hc;rcases hc with hc|hc
    ·exact .inl (.inl hc)
    ·exact .inr (.inr (by simp[Nz,hc]))
   ·obtain⟨d,i,j⟩:=kW sv h;exact⟨fun c hc=>(d c hc).imp id (Or.imp id fun h=>by simp[Nz,h]),i,j⟩
theorem tc:∀ {ps:List PK} {x:aW (ps.map PK.ty)} {tk:Nat} {i j t:Nat} {v b:TV},
 (bW ps x tk).1.getD i .no= .box t v->(bW ps x tk).1.getD j .no= .box t b->i=j
 | [],_,_,_,_,_,_,_,h,_=>by simp[bW]at h
 | .val τ p::ps,x,tk,i,j,t,v,b,h,h'=>by
   simp only[bW]at h h';cases i with
   |zero=>simp at h
   |succ i=>
    cases j with
    |zero=>simp at h'
    |succ j=>
     simp only[J3]at h h';rw[tc h h']
 | .io τ p::ps,x,tk,i,j,t,v,b,h,h'=>by
   have n1:=bD p (tk+1)
   have key:∀ {n:Nat} {u:TV},(bW ps x.2 (aL p (tk+1))).1.getD n .no≠ .box tk u:=by
    intro n u e
    have c:SV.box tk u∈(bW ps x.2 (aL p (tk+1))).1:=by
     rw[lk]at e;cases d:(bW ps x.2 (aL p (tk+1))).1[n]? with
     |none=>rw[d]at e;simp at e
     |some z=>rw[d]at e;simp at e;rw[<-e];exact adP d
    have:=eI tk ((kW _ c).2.1 tk (by simp[SV.bt]));omega
   simp only[bW]at h h';rw[cB]at h h';cases i with
   |zero=>
    cases j with
    |zero=>rfl
    |succ j=>
     simp only[G9,SV.box.injEq]at h;simp only[J3]at h';rw[<-h.1]at h';exact absurd h' key
   |succ i=>
    cases j with
    |zero=>
     simp only[G9,SV.box.injEq]at h';simp only[J3]at h;rw[<-h'.1]at h;exact absurd h key
    |succ j=>
     simp only[J3]at h h';rw[tc h h']
 | .rd τ::ps,x,tk,i,j,t,v,b,h,h'=>by
   simp only[bW]at h h';cases i with
   |zero=>simp at h
   |succ i=>
    cases j with
    |zero=>simp at h'
    |succ j=>
     simp only[J3]at h h';rw[tc h h']
 | .vx e l::ps,x,tk,i,j,t,v,b,h,h'=>by
   simp only[bW]at h h';cases i with
   |zero=>simp at h
   |succ i=>
    cases j with
    |zero=>simp at h'
    |succ j=>
     simp only[J3]at h h';rw[tc h h']
structure Jc(w:World)(G:Gh)(L:List SV)(vs:List Value)(nt:Nat):Prop where
 len:vs.length=L.length
 slots:∀i,ck w G (L.getD i .no) (vs.getD i undef)
 oK:∀i,bg (fun u=>u<nt) G (L.getD i .no)
 uni:∀i j t v v',L.getD i .no= .box t v->L.getD j .no= .box t v'->i=j
 colU:∀b,0<G.col b->G.col b<nt/\b<w.heap.size
 fresh:∀b,4<=G.col b->∃c el,w.heap[b]?=some (.cells c el (0,0))
 two:G.bx 2=false/\G.bx 3=false
 ent:∀b,G.col b≠2
section
variable{P:Program}{C:Cx}{w0:World}{c0:C0}{U:Nat->Prop}{E:Env}{a:Act}{w:World}{G:Gh}{ops:List Oper}{g:Option (Nat×Bool)}
theorem kS{sm:Nat->Nat}:∀ {p:Pt} {τ:Ty} {x:τ.den} {sh:Sh} {cs:List Value} {tk:Nat},bh w G τ x sh cs->∀c k,(c,k)∈fb sm p sh tk->
 c∈sh.ar/\((k=sm c/\c∈Ja p sh)\/(4<=c/\tk<=k/\k<aL p tk)\/(c=3/\k=3))
 | .leaf,_,_,_,_,_,_,c,k,d=>by simp[fb]at d
 | .own,.sl e,l,.sl m,cs,tk,h,c,k,d=>by
   simp only[fb,z_,adk]at d;obtain⟨s,hc,rfl,rfl⟩:=d;cases i:m.own with
   |none=>rw[i]at hc;simp at hc
   |some H=>
    rw[i]at hc;have j:=Sh.jM (sh:= .sl m) h i _ hc;exact⟨M.iv i _ hc,.inr (.inl ⟨j,po _,w_ _⟩)⟩
 | .shr,.sl e,l,.sl m,cs,tk,h,c,k,d=>by
   simp only[fb,z_,adk]at d;obtain⟨s,hc,rfl,rfl⟩:=d;exact⟨hc,.inl ⟨rfl,hc⟩⟩
 | .rom,_,_,.sl m,cs,tk,h,c,k,d=>by
   simp only[fb,z_,adK,adk,b_]at d;obtain⟨s,⟨hc,rfl⟩,rfl,rfl⟩:=d;exact⟨hc,.inr (.inr ⟨rfl,rfl⟩)⟩
 | .pv,.sl e,l,.sl m,cs,tk,h,c,k,d=>by
   simp only[fb,z_,adk]at d;obtain⟨s,hc,rfl,rfl⟩:=d;cases i:m.AA with
   |none=>rw[i]at hc;simp at hc
   |some H=>
    rw[i]at hc;simp only[adH]at hc;rcases M.NK i with⟨t,u,B,rfl,v,y⟩|⟨rfl,rfl⟩;obtain⟨_,_,j,_⟩:=h;rcases(y _).1 hc with rfl|hc;exact⟨by simp[Sh.ar,M.ar],.inr (.inl ⟨j,po _,w_ _⟩)⟩;exact⟨by simp[Sh.ar,M.ar,hc],.inr (.inl ⟨v _ hc,po _,w_ _⟩)⟩;cases hc
 | .hd,.sl e,l,.sl (.row t u B),cs,tk,h,c,k,d=>by
   obtain⟨_,_,j,_⟩:=h;simp only[fb,kb,adk,z_,adK]at d;rcases d with⟨rfl,rfl⟩|⟨s,⟨hc,_⟩,rfl,rfl⟩;exact⟨by simp[Sh.ar,M.ar],.inr (.inl ⟨j,po _,w_ _⟩)⟩;exact⟨by simp[Sh.ar,M.ar,hc],.inl ⟨rfl,hc⟩⟩
 | .pair p q,.pair a b,x,.pair s1 s2,cs,tk,h,c,k,d=>by
   obtain⟨c1,c2,rfl,D,F⟩:=h;have n1:=bD p tk;have n2:=bD q (aL p tk);simp only[fb,kT]at d;rw[ga];rcases d with d|d;obtain⟨z,A⟩:=kS D c k d;exact⟨by simp[Sh.ar,z],A.imp (fun h=>⟨h.1,ad4 _ h.2⟩) (fun r=>r.imp (fun⟨q1,q2,q3⟩=>⟨q1,q2,by omega⟩) id)⟩;obtain⟨z,A⟩:=kS F c k d;exact⟨by simp[Sh.ar,z],A.imp (fun h=>⟨h.1,T2 _ h.2⟩) (fun r=>r.imp (fun⟨q1,q2,q3⟩=>⟨q1,by have:(aQ p tk []).2=aL p tk:=rfl;omega,q3⟩) id)⟩
 | .rom,_,_,.leaf,_,_,_,c,k,d| .rom,_,_,.pair _ _,_,_,_,c,k,d
 | .pv,_,_,.leaf,_,_,_,c,k,d| .pv,_,_,.pair _ _,_,_,_,c,k,d| .hd,_,_,.leaf,_,_,_,c,k,d| .hd,_,_,.pair _ _,_,_,_,c,k,d| .hd,_,_,.sl (.sha _),_,_,_,c,k,d| .hd,_,_,.sl .dead,_,_,_,c,k,d
 | .own,_,_,.leaf,_,_,_,c,k,d| .own,_,_,.pair _ _,_,_,_,c,k,d| .shr,_,_,.leaf,_,_,_,c,k,d| .shr,_,_,.pair _ _,_,_,_,c,k,d
 | .pair _ _,_,_,.leaf,_,_,_,c,k,d| .pair _ _,_,_,.sl _,_,_,_,c,k,d=>by simp[fb]at d
 | .pv,.int _,_,.sl _,_,_,h,_,_,_| .pv,.bool,_,.sl _,_,_,h,_,_,_| .pv,.str,_,.sl _,_,_,h,_,_,_| .pv,.pair _ _,_,.sl _,_,_,h,_,_,_
 | .hd,.int _,_,.sl (.row _ _ _),_,_,h,_,_,_| .hd,.bool,_,.sl (.row _ _ _),_,_,h,_,_,_| .hd,.str,_,.sl (.row _ _ _),_,_,h,_,_,_| .hd,.pair _ _,_,.sl (.row _ _ _),_,_,h,_,_,_
 | .own,.int _,_,.sl _,_,_,h,_,_,_| .own,.bool,_,.sl _,_,_,h,_,_,_| .own,.str,_,.sl _,_,_,h,_,_,_| .own,.pair _ _,_,.sl _,_,_,h,_,_,_
 | .shr,.int _,_,.sl _,_,_,h,_,_,_| .shr,.bool,_,.sl _,_,_,h,_,_,_| .shr,.str,_,.sl _,_,_,h,_,_,_| .shr,.pair _ _,_,.sl _,_,_,h,_,_,_
 | .pair _ _,.int _,_,.pair _ _,_,_,h,_,_,_| .pair _ _,.bool,_,.pair _ _,_,_,h,_,_,_| .pair _ _,.str,_,.pair _ _,_,_,h,_,_,_| .pair _ _,.sl _,_,.pair _ _,_,_,h,_,_,_=>h.elim
theorem vR(e:Inv w0 c0 U E a w G){sv:SV}{mv:Value}{t s:Nat}{v:TV}(h:pj E.rd sv=some (t,s,v))(hs:ck w G sv mv):
 E.s.getD s .no= .box t v/\∃b c el,mv= .pointer (some ⟨b,0,none⟩)/\G.hdr t=mv/\4<=t/\G.col b=t/\w.heap[b]?=some (.cells c el (0,0))/\bh w G v.τ v.x v.sh c.toList/\
  (∀c∈v.sh.ar,Good U G c)/\U t/\G.bx t=true:=by
 unfold pj at h;split at h;rename_i l τ;rw[E_]at h;obtain⟨r,m,h⟩:=h;simp only[adk]at h;obtain⟨rfl,rfl,rfl⟩:=h;obtain⟨j,b,c,el,g1,g2,g3,g4,g5,g6⟩:=e.box m;obtain⟨bk',_,d,k⟩:=hs;rw[g1]at d;simp only[Value.pointer.injEq,adg,Addr.mk.injEq,and_true]at d;subst d;have i:=e.bt r.1 l (by rw[j];simp[SV.bt]);exact⟨j,b,c,el,k,g1.trans k.symm,g2,g3,g4,g5,g6,i.2.1,i.2.2⟩;cases h
theorem aaq(r0:List (Nat×Nat))(l:List Nat)(c:Nat):M8 r0 l c∈1::l:=by
 unfold M8;split;split;rename_i h;simp only[v_,b_]at h;exact B_ _ h;simp;simp
theorem Fh:∀ {l:List (Nat×Nat)} {a b:Nat},l.lookup a=some b->(a,b)∈l
 |(x,y)::l,a,b,h=>by
  simp only[aeH]at h;split at h;rename_i e;simp only[beq_iff_eq]at e;cases h;simp[e];exact B_ _ (Fh h)
theorem aaF(r0:List (Nat×Nat))(l:List Nat)(c:Nat):M8 r0 l c=1\/((c,M8 r0 l c)∈r0/\M8 r0 l c∈l):=by
 unfold M8;split;rename_i k b;split;rename_i h;simp only[v_,b_]at h;exact .inr ⟨Fh b,h⟩;exact .inl rfl;exact .inl rfl
def Pg(U:Nat->Prop)(G:Gh)(ps:List PK)(tk:Nat)(bs:List (Nat×Nat))(c k:Nat):Prop:=
 (k=1/\0<c/\U c/\(G.bx c=false\/Kb ps=true))\/(tk<=k/\k<bP ps tk/\4<=c/\((Good U G c/\k∉cJ ps tk)\/(k∈cJ ps tk/\U c/\G.bx c=true/\∃s,(c,s)∈bs)))\/(c=3/\k=3)
theorem qU(hI:Inv w0 c0 U E a w G):∀ {ps:List PK} {as:List SV} {vals:List Value} {tk:Nat} {r0:List (Nat×Nat)} {xs:aW (ps.map PK.ty)} {A bs:List (Nat×Nat)},
 bH E.rd ps as tk r0=some (xs,A,bs)->(∀i,ck w G (as.getD i .no) (vals.getD i undef)/\bg U G (as.getD i .no))->4<=tk->
 as.length=ps.length/\
 (∃H:Nat->Value,∀B:Gh,(∀c k,(c,k)∈A->∀b,G.col b=c->B.col b=k)->(∀u,tk<=u->u<bP ps tk->B.hdr u=H u)->
  ∀i,ck w B ((bW ps xs tk).1.getD i .no) (vals.getD i undef))/\
 (∀c k,(c,k)∈A->Pg U G ps tk bs c k\/((c,k)∈r0/\k≠1))
 | [],[],vals,tk,r0,xs,A,bs,h,hs,h3=>by
   simp only[bH,adg]at h;obtain⟨rfl,rfl,rfl⟩:=h;exact⟨rfl,⟨fun _=>undef,fun B _ _ i=>by simp[bW,ck]⟩,by simp⟩
 | .val τ p::ps,.d v::as,vals,tk,r0,xs,A,bs,h,hs,h3=>by
   simp only[bH]at h;split at h
   ·rename_i x T F N V W;split at h
    ·rename_i I;simp only[adg,adk]at h;obtain⟨rfl,rfl,rfl⟩:=h;have n1:=bD p tk;have n2:=gi ps (aL p tk);have z:=hs 0;simp only[G9]at z;obtain⟨⟨cs,K,J⟩,hm⟩:=z;have e:=dv V;rw[e]at K J I hm|-;obtain⟨Y,⟨Z,k2⟩,hr⟩:=qU hI (vals:=vals.drop 1) W (fun i=>by have:=hs (i+1);simpa[lk,r_]using this) (by exact M_ h3 n1);obtain⟨H1,k1⟩:=mB (sm:=fun _=>1) (hs:=[1]) (tk:=tk) I J h3 (by simp) (by simp);refine⟨by simp[Y],⟨fun u=>if u<aL p tk then H1 u else Z u,fun B g1 g2 i=> ?_⟩,fun c k j=> ?_⟩
     ·cases i with
      |zero=>
       simp only[bW,G9];exact⟨cs,K,k1 B (fun c k j=>g1 c k (ad4 _ j)) (fun u hu y=>(g2 u hu (by simp only[bP];omega)).trans (an y))⟩
      |succ i=>
       simp only[bW,J3];rw[cB];have:=k2 B (fun c k j=>g1 c k (T2 _ j)) (fun u hu y=>(g2 u (by have:(aQ p tk []).2=aL p tk:=rfl;omega) y).trans (a_ (by have:(aQ p tk []).2=aL p tk:=rfl;omega))) i;have O:(aQ p tk []).2=aL p tk:=rfl;rw[O]at this;simpa[lk,r_]using this
     ·rcases kT.1 j with j|j
      ·obtain⟨S,q⟩:=kS J c k j;have m:Good U G c:=hm.1 c S;left;rcases q with⟨q,_⟩|⟨q,r3,r4⟩|q
       ·exact .inl ⟨q,m.1,m.2.1,.inl m.2.2⟩
       ·refine .inr (.inl ⟨r3,by simp only[bP];omega,q,.inl ⟨m,fun r=> ?_⟩⟩);have:=eI (ps:=ps) (tk:=aL p tk) k r;omega
       ·exact .inr (.inr q)
      ·rcases hr c k j with(h|⟨q1,q2,q3,q4⟩|h)|⟨h,D⟩
       ·exact .inl (.inl h)
       ·exact .inl (.inr (.inl ⟨M_ n1 q1,q2,q3,q4⟩))
       ·exact .inl (.inr (.inr h))
       ·rcases kT.1 h with h|h
        ·exact .inr ⟨h,D⟩
        ·obtain⟨S,q⟩:=kS J c k h;have m:Good U G c:=hm.1 c S;left;rcases q with⟨q,_⟩|⟨q,r3,r4⟩|q
         ·exact absurd q D
         ·refine .inr (.inl ⟨r3,by simp only[bP];omega,q,.inl ⟨m,fun r=> ?_⟩⟩);have:=eI (ps:=ps) (tk:=aL p tk) k r;omega
         ·exact .inr (.inr q)
    ·cases h
   ·cases h
 | .io τ p::ps,sv::as,vals,tk,r0,xs,A,bs,h,hs,h3=>by
   simp only[bH]at h;split at h
   ·rename_i t s v hb;split at h
    ·rename_i x T F N V W;split at h
     ·rename_i I;simp only[adg,adk]at h;obtain⟨rfl,rfl,rfl⟩:=h;have n1:=bD p (tk+1);have n2:=gi ps (aL p (tk+1));have z:=hs 0;simp only[G9]at z;obtain⟨ad,bk,c,el,b1,b2,b3,b4,b5,b6,b7,b8,b9⟩:=vR hI hb z.1;have e:=dv V;rw[e]at I b6 b7|-;obtain⟨Y,⟨Z,k2⟩,hr⟩:=qU hI (vals:=vals.drop 1) W (fun i=>by have:=hs (i+1);simpa[lk,r_]using this) (by have:(aQ p (tk+1) []).2=aL p (tk+1):=rfl;omega);obtain⟨H1,k1⟩:=mB (sm:=fun _=>1) (hs:=[1]) (tk:=tk+1) I b6 (by omega) (by simp) (by simp);refine⟨by simp[Y],⟨fun u=>if u=tk then vals.getD 0 undef else if u<aL p (tk+1)then H1 u else Z u,fun B g1 g2 i=> ?_⟩,fun c k j=> ?_⟩
      ·cases i with
       |zero=>
        simp only[bW,G9];refine⟨bk,c,el,b1,h3,?_,g1 t tk (by simp) bk b4,b5,k1 B (fun c k j=>g1 c k (by simp[j])) (fun u hu y=> ?_)⟩
        ·exact(g2 tk (po _) (by simp only[bP];omega)).trans (an rfl)
        ·exact((g2 u (by omega) (by simp only[bP];omega)).trans (a_ (by omega))).trans (an y)
       |succ i=>
        simp only[bW,J3];rw[cB];have O:(aQ p (tk+1) []).2=aL p (tk+1):=rfl;have:=k2 B (fun c k j=>g1 c k (by simp[j])) (fun u hu y=>((g2 u (by omega) y).trans (a_ (by omega))).trans (a_ (by omega))) i;rw[O]at this;simpa[lk,r_]using this
      ·have key:(c,k)=(t,tk)\/(c,k)∈fb (fun _=>1) p v.sh (tk+1)->Pg U G (.io τ p::ps) tk ((t,s)::N) c k:=by
        intro j;rcases j with j|j
        ·simp only[adk]at j;obtain⟨rfl,rfl⟩:=j;exact .inr (.inl ⟨po _,by simp only[bP];omega,b3,.inr ⟨by simp[cJ],b8,b9,s,by simp⟩⟩)
        ·obtain⟨S,q⟩:=kS b6 c k j;have m:Good U G c:=b7 c S;rcases q with⟨q,_⟩|⟨q,r3,r4⟩|q
         ·exact .inl ⟨q,m.1,m.2.1,.inl m.2.2⟩
         ·refine .inr (.inl ⟨by omega,by simp only[bP];omega,q,.inl ⟨m,fun r=> ?_⟩⟩);simp only[cJ,kb]at r;rcases r with r|r
          ·omega
          ·have:=eI (ps:=ps) (tk:=aL p (tk+1)) k r;omega
         ·exact .inr (.inr q)
       rw[aeK,kb,kT,<-or_assoc]at j;rcases j with j|j
       ·exact .inl (key j)
       ·rcases hr c k j with(h|⟨q1,q2,q3,q4⟩|h)|⟨h,D⟩
        ·exact .inl (.inl h)
        ·have O:(aQ p (tk+1) []).2=aL p (tk+1):=rfl;refine .inl (.inr (.inl ⟨by omega,q2,q3,?_⟩));rcases q4 with⟨q4,q5⟩|⟨q4,q5,q6,s',q7⟩
         ·refine .inl ⟨q4,fun r=> ?_⟩;simp only[cJ,kb]at r;rcases r with r|r
          ·omega
          ·exact q5 r
         ·exact .inr ⟨by simp only[cJ];exact B_ _ q4,q5,q6,s',by simp[q7]⟩
        ·exact .inl (.inr (.inr h))
        ·rw[kT,kb]at h;rcases h with h|h
         ·exact .inr ⟨h,D⟩
         ·exact .inl (key h)
     ·cases h
    ·cases h
   ·cases h
 | .rd τ::ps,sv::as,vals,tk,r0,xs,A,bs,h,hs,h3=>by
   simp only[bH]at h;split at h
   ·rename_i t s v hb;split at h
    ·rename_i x T F N V W;split at h
     ·rename_i I;simp only[adg,adk]at h;obtain⟨rfl,rfl,rfl⟩:=h;have z:=hs 0;simp only[G9]at z;obtain⟨ad,bk,c,el,b1,b2,b3,b4,b5,b6,b7,b8,b9⟩:=vR hI hb z.1;have e:=dv V;rw[e]at I b6 b7|-;obtain⟨Y,⟨Z,k2⟩,hr⟩:=qU hI (vals:=vals.drop 1) W (fun i=>by have:=hs (i+1);simpa[lk,r_]using this) h3;obtain⟨H1,k1⟩:=mB (sm:=fun _=>1) (hs:=[1]) (tk:=tk) I b6 (by omega) (by simp) (by simp);refine⟨by simp[Y],⟨Z,fun B g1 g2 i=> ?_⟩,fun c k j=> ?_⟩
      ·cases i with
       |zero=>
        simp only[bW,G9];have J:=k1 B (fun c k j=>g1 c k (by simp[j])) (fun u hu y=>by rw[H8]at y;omega);have hlen:c.toList.length=τ.sz:=bh.len J;refine⟨bk,0,c,el,(0,0),b1,b5,by simp only[Array.length_toList]at hlen;simp[hlen],?_,?_⟩
        ·simp[g1 t 1 (by simp) bk b4]
        ·simp only[aef];rw[adL (Nat.le_of_eq hlen)];exact J
       |succ i=>
        simp only[bW,J3];have:=k2 B (fun c k j=>g1 c k (by simp[j])) (fun u hu y=>g2 u hu y) i;simpa[lk,r_]using this
      ·rw[aeK,kb,kT]at j;rcases j with j|j|j
       ·simp only[adk]at j;obtain⟨rfl,rfl⟩:=j;exact .inl (.inl ⟨rfl,by omega,b8,.inr rfl⟩)
       ·obtain⟨S,q⟩:=kS b6 c k j;have m:Good U G c:=b7 c S;rw[H8]at q;rcases q with⟨q,_⟩|⟨q,r3,r4⟩|q
        ·exact .inl (.inl ⟨q,m.1,m.2.1,.inr rfl⟩)
        ·omega
        ·exact .inl (.inr (.inr q))
       ·rcases hr c k j with(h|⟨q1,q2,q3,q4⟩|h)|h
        ·exact .inl (.inl ⟨h.1,h.2.1,h.2.2.1,.inr rfl⟩)
        ·exact .inl (.inr (.inl ⟨q1,q2,q3,q4⟩))
        ·exact .inl (.inr (.inr h))
        ·exact .inr h
     ·cases h
    ·cases h
   ·cases h
 | .vx e l::ps,.d v::as,vals,tk,r0,xs,A,bs,h,hs,h3=>by
   simp only[bH]at h;split at h
   ·rename_i x T F N V W;split at h
    ·rename_i I;simp only[adg,adk]at h;obtain⟨rfl,rfl,rfl⟩:=h;have z:=hs 0;simp only[G9]at z;obtain⟨⟨cs,K,J⟩,hm⟩:=z;have e:=dv V;rw[e]at K J I hm|-;obtain⟨Y,⟨Z,k2⟩,hr⟩:=qU hI (vals:=vals.drop 1) W (fun i=>by have:=hs (i+1);simpa[lk,r_]using this) h3;obtain⟨H1,k1⟩:=mB (sm:=M8 r0 l) (hs:=1::l) (tk:=tk) I J h3 (fun c _=>aaq r0 l c) (by simp);refine⟨by simp[Y],⟨Z,fun B g1 g2 i=> ?_⟩,fun c k j=> ?_⟩
     ·cases i with
      |zero=>
       simp only[bW,G9]
       exact⟨cs,K,k1 B (fun c k j=>g1 c k (ad4 _ j)) (fun u hu y=>by
        have:aL .shr tk=tk:=rfl;omega)⟩
      |succ i=>
       simp only[bW,J3];have:=k2 B (fun c k j=>g1 c k (T2 _ j)) (fun u hu y=>g2 u hu y) i;simpa[lk,r_]using this
     ·rcases kT.1 j with j|j
      ·obtain⟨S,q⟩:=kS J c k j;have m:Good U G c:=hm.1 c S;rcases q with⟨q,_⟩|⟨q,r3,r4⟩|q;rotate_left 2
       ·exact .inl (.inr (.inr q))
       ·rcases aaF r0 l c with h|⟨h,h1⟩
        ·exact .inl (.inl ⟨q.trans h,m.1,m.2.1,.inl m.2.2⟩)
        ·rw[<-q]at h h1;by_cases D:k=1
         ·exact .inl (.inl ⟨D,m.1,m.2.1,.inl m.2.2⟩)
         ·exact .inr ⟨h,D⟩
       ·have:aL .shr tk=tk:=rfl;omega
      ·rcases hr c k j with(h|⟨q1,q2,q3,q4⟩|h)|h
       ·exact .inl (.inl h)
       ·exact .inl (.inr (.inl ⟨q1,q2,q3,q4⟩))
       ·exact .inl (.inr (.inr h))
       ·exact .inr h
    ·cases h
   ·cases h
 | [],_::_,_,_,_,_,_,_,h,_,_| .val _ _::_,[],_,_,_,_,_,_,h,_,_| .io _ _::_,[],_,_,_,_,_,_,h,_,_| .rd _::_,[],_,_,_,_,_,_,h,_,_| .vx _ _::_,[],_,_,_,_,_,_,h,_,_=>by simp[bH]at h
 | .vx _ _::_,.no::_,_,_,_,_,_,_,h,_,_| .vx _ _::_,.box _ _::_,_,_,_,_,_,_,h,_,_| .vx _ _::_,.ptr ..::_,_,_,_,_,_,_,h,_,_| .vx _ _::_,.ept ..::_,_,_,_,_,_,_,h,_,_
 | .vx _ _::_,.rdp ..::_,_,_,_,_,_,_,h,_,_| .vx _ _::_,.tup _::_,_,_,_,_,_,_,h,_,_| .vx _ _::_,.g ..::_,_,_,_,_,_,_,h,_,_=>by simp[bH]at h
 | .val _ _::_,.no::_,_,_,_,_,_,_,h,_,_| .val _ _::_,.box _ _::_,_,_,_,_,_,_,h,_,_| .val _ _::_,.ptr ..::_,_,_,_,_,_,_,h,_,_| .val _ _::_,.ept ..::_,_,_,_,_,_,_,h,_,_
 | .val _ _::_,.rdp ..::_,_,_,_,_,_,_,h,_,_| .val _ _::_,.tup _::_,_,_,_,_,_,_,h,_,_| .val _ _::_,.g ..::_,_,_,_,_,_,_,h,_,_=>by simp[bH]at h
end
theorem gK:∀ {l:List (Nat×Nat)} {a b:Nat},l.lookup a=some b->(a,b)∈l
 | [],_,_,h=>by simp[aeH]at h
 |(x,y)::l,a,b,h=>by
  simp only[aeH]at h;split at h;rename_i e;simp only[beq_iff_eq]at e;simp only[adg]at h;subst e h;simp;exact B_ _ (gK h)
theorem A5{r:List (Nat×Nat)}(h:Ey r=true){c k:Nat}(hc:(c,k)∈r):r.lookup c=some k:=by
 simp only[Ey,G6,beq_iff_eq]at h;exact h (c,k) hc
def fp:List PK->Nat->Nat->List (Nat×Nat)
 | [],_,_=>[]
 | .val _ p::ps,i,te=>fp ps (i+1) (aL p te)
 | .io _ p::ps,i,te=>(te,i)::fp ps (i+1) (aL p (te+1))
 | .rd _::ps,i,te| .vx _ _::ps,i,te=>fp ps (i+1) te
def wu:List Value->Value
 | [v]=>v
 |l=> .tuple l.toArray
structure uB(con:ou)(w:World)(G0:Gh)(args:List Value)(y:aW (con.rs.map RK.ty++bn con.ps))(mv:Value)(w':World)(G':Gh)(vs:List Value)(nt:Nat):Prop where
 val:mv=wu vs
 len:vs.length=con.rs.length
 res:∀i,ck w' G' ((bf con.rs (bn con.ps) y (bP con.ps 4) [2,1]).1.getD i .no) (vs.getD i undef)
 ios:∀t i v,(t,i,v)∈db [2,1] con.ps (bf con.rs (bn con.ps) y (bP con.ps 4) [2,1]).2.1 (fp con.ps 0 4) (bf con.rs (bn con.ps) y (bP con.ps 4) [2,1]).2.2->
  ck w' G' (.box t v) (args.getD i undef)
 frame:∀b,b<w.heap.size->G0.col b<4->G'.col b=G0.col b/\w'.heap[b]?=w.heap[b]?
 one:∀b,G'.col b=1\/G'.col b=3->b<w.heap.size/\G0.col b=G'.col b
 size:w.heap.size<=w'.heap.size
 os:w'.os=w.os
 tape:w'.tape=w.tape
 output:w'.output=w.output
 lt:∀b,0<G'.col b->b<w'.heap.size
 fresh:∀b,4<=G'.col b->∃c el,w'.heap[b]?=some (.cells c el (0,0))
 kept:∀q∈con.kp,∀te i τ,(fp con.ps 0 4)[q.1]?=some (te,i)->(bn con.ps)[q.1]?=some τ->∀bk c el c' el',args.getD i undef= .pointer (some ⟨bk,0,none⟩)->
  w.heap[bk]?=some (.cells c el (0,0))->w'.heap[bk]?=some (.cells c' el' (0,0))->c'.toList[τ.off q.2]?=c.toList[τ.off q.2]?
def qx(P:Program)(f:FuncId)(args:Array Value)(w:World)(R:Value->World->Prop):Prop:=
 match(callFunc f args).run P w with
 | .ok (.enter f' args') w1=>Calls P f' args' w1 (fun e w'=>∃v,e= .returned v/\R v w')
 | .ok (.value v) w1=>R v w1
 |_=>False
def mz(P:Program)(f:FuncId)(con:ou):Prop:=
 ∀(w:World) (b:Gh) (args:List Value) (x:aW (con.ps.map PK.ty)) (y:aW (con.rs.map RK.ty++bn con.ps)),con.F x=some y->
  Jc w b (bW con.ps x 4).1 args (bP con.ps 4)->qx P f args.toArray w (fun mv w'=>∃G' c d,uB con w b args y mv w' G' c d)
section
variable{P:Program}{C:Cx}{w0:World}{c0:C0}{U:Nat->Prop}{E:Env}{a:Act}{w:World}{G:Gh}{ops:List Oper}{g:Option (Nat×Bool)}
theorem abd(q:Inv w0 c0 U E a w G){ps:List PK}{as:List SV}{vals:List Value}{xs:aW (ps.map PK.ty)}{d bs:List (Nat×Nat)}
 (h:bH E.rd ps as 4 []=some (xs,d,bs)) (hs:∀i,ck w G (as.getD i .no) (vals.getD i undef)/\bg U G (as.getD i .no)) (hlen:vals.length=as.length) (D:Ey d=true)
 (y:∀c∈Nz ps,4<=c/\c<bP ps 4/\c∉cJ ps 4):
 ∃A:Gh,Jc w A (bW ps xs 4).1 vals (bP ps 4)/\(∀b,A.col b=(d.lookup (G.col b)).getD 0):=by
 obtain⟨I,⟨H,k⟩,s⟩:=qU q h hs (po _);have l:∀c k,(c,k)∈d->Pg U G ps 4 bs c k:=fun c k h=>(s c k h).resolve_right (by simp);have hnt:=gi ps 4;refine⟨⟨fun b=>(d.lookup (G.col b)).getD 0,H,fun u=>(cJ ps 4).contains u⟩,⟨?_,?_,?_,?_,?_,?_,?_,?_⟩,fun b=>rfl⟩;rw[mS,<-I,hlen];intro i;refine k _ (fun c k x b e=> ?_) (fun u _ _=>rfl) i;simp only[e,A5 D x,adH];intro i;by_cases F:i<(bW ps xs 4).1.length
 have r:(bW ps xs 4).1.getD i .no∈(bW ps xs 4).1:=by
  rw[lk,T1 F];simp
 obtain⟨J,p,K⟩:=kW _ r;refine⟨fun c hc=> ?_,fun c hc=> ?_,by rw[K];simp⟩;rcases J c hc with FF|⟨q1,q2,q3⟩|z;refine⟨by omega,by omega,?_⟩;simp only[v_,d_];intro l;have:=eI c l;omega;exact⟨by omega,q2,by simp only[v_,d_];exact q3⟩;obtain⟨q1,q2,q3⟩:=y c z;exact⟨by omega,q2,by simp only[v_,d_];exact q3⟩;have:=eI c (p c hc);exact⟨by omega,this.2,by simp only[v_,b_];exact p c hc⟩;rw[lk,adW (by omega)];simp[bg,SV.sc,SV.bt,SV.rt];intro i j t v v' h B;exact tc h B;intro b e;simp only at e|-;cases m:d.lookup (G.col b)with
 |none=>rw[m]at e;simp at e
 |some k=>
  simp only[adH];rcases l _ _ (gK m)with⟨rfl,N⟩|⟨q1,q2,q3,_⟩|⟨q1,q2⟩;exact⟨by omega,q.lt b N.1⟩;exact⟨q2,q.lt b (by omega)⟩;exact⟨by omega,q.lt b (by omega)⟩
 intro b e;simp only at e;cases m:d.lookup (G.col b)with
 |none=>rw[m]at e;simp at e
 |some k=>
  rw[m]at e;simp only[adH]at e;rcases l _ _ (gK m)with⟨rfl,_⟩|⟨q1,q2,q3,_⟩|⟨q1,q2⟩;omega;exact q.fresh b q3;omega
 simp only[v_,d_];exact⟨fun p=>by have:=eI 2 p;omega,fun p=>by have:=eI 3 p;omega⟩;intro b;simp only;cases m:d.lookup (G.col b)with
 |none=>simp
 |some k=>
  simp only[adH];rcases l _ _ (gK m)with⟨rfl,_⟩|⟨q1,q2,q3,_⟩|⟨q1,q2⟩<;>omega
end
theorem eR:∀(p:Pt) (k d:Nat),aL p (k+d)=aL p k+d
 | .leaf,_,_| .shr,_,_| .rom,_,_=>rfl
 | .own,k,d| .hd,k,d| .pv,k,d=>by simp only[aL,aQ];omega
 | .pair a b,k,d=>by rw[ga,ga,eR a,eR b]
theorem qL(τ:Ty)(p:Pt)(rs:List RK)(k:Nat):dT (.val τ p::rs) k=dT rs (aL p k):=rfl
theorem px(τ:Ty)(p:Pt)(rs:List RK)(k:Nat):dT (.nbox τ p::rs) k=dT rs (aL p (k+1)):=rfl
theorem EC(τ:Ty)(p:Pt)(ps:List PK)(k:Nat):qB (.io τ p::ps) k=qB ps (aL p k):=rfl
theorem tK:∀(rs:List RK) (k d:Nat),dT rs (k+d)=dT rs k+d
 | [],_,_=>rfl
 | .val _ p::rs,k,d=>by rw[qL,qL,eR,tK rs]
 | .nbox _ p::rs,k,d=>by rw[px,px,show k+d+1=k+1+d by omega,eR,tK rs]
theorem AV:∀(ps:List PK) (k d:Nat),qB ps (k+d)=qB ps k+d
 | [],_,_=>rfl
 | .val _ _::ps,k,d| .rd _::ps,k,d| .vx _ _::ps,k,d=>AV ps k d
 | .io _ p::ps,k,d=>by rw[EC,EC,eR,AV ps]
theorem mF:∀(rs:List RK) (k:Nat),k<=dT rs k
 | [],_=>po _
 | .val _ p::rs,k=>M_ (bD p k) (mF rs _)
 | .nbox _ p::rs,k=>M_ (M_ (aeG _) (bD p (k+1))) (mF rs _)
theorem th:∀(ps:List PK) (k:Nat),k<=qB ps k
 | [],_=>po _
 | .val _ p::ps,k=>th ps k
 | .rd _::ps,k| .vx _ _::ps,k=>th ps k
 | .io _ p::ps,k=>M_ (bD p k) (th ps _)
def jh:List RK->Nat->List Nat
 | [],_=>[]
 | .val _ p::rs,k=>jh rs (aL p k)
 | .nbox _ p::rs,k=>k::jh rs (aL p (k+1))
theorem tQ:∀ {rs:List RK} {k:Nat},∀c∈jh rs k,k<=c/\c<dT rs k
 | [],_,c,h=>by simp[jh]at h
 | .val _ p::rs,k,c,h=>by
   have:=tQ (rs:=rs) (k:=aL p k) c h;have b:=bD p k;rw[qL];omega
 | .nbox _ p::rs,k,c,h=>by
   have b:=bD p (k+1);have h2:=mF rs (aL p (k+1));rw[px];simp only[jh,kb]at h;rcases h with rfl|h;omega;have:=tQ (rs:=rs) (k:=aL p (k+1)) c h;omega
structure U1(G' G2:Gh)(k0 n tk:Nat)(hs:List Nat):Prop where
 own:∀u,k0<=u->u<n->G2.hdr (tk+(u-k0))=G'.hdr u/\∀b,G'.col b=u->G2.col b=tk+(u-k0)
 shr:∀b,G'.col b∈[2,1]->G2.col b∈hs
 rom:∀b,G'.col b=3->G2.col b=3
 ne:hs≠ []
section
variable{w':World}{G' G2:Gh}{k0 n tk:Nat}{hs:List Nat}
theorem Hh(h:U1 G' G2 k0 n tk hs)(h3:4<=tk){p:Pt}{τ:Ty}{x:τ.den}{cs:List Value}{k:Nat}(hk:k0<=k)(hn:aL p k<=n)(b:bh w' G' τ x (aQ p k [2,1]).1 cs):
 bh w' G2 τ x (aQ p (tk+(k-k0)) hs).1 cs:=by
 refine(GF b (by omega) (fun u hu hu2=> ?_) h.shr h.rom h.ne).1;have:=h.own u (by omega) (by omega);rw[show tk+(k-k0)+(u-k)=tk+(u-k0) by omega];exact this
theorem Ao(u:4<=tk):∀ {rs:List RK} {rest:List Ty} {y:aW (rs.map RK.ty++rest)} {k:Nat},k0<=k->∀(hs':List Nat),
 (bf rs rest y (tk+(k-k0)) hs').2.1=(bf rs rest y k [2,1]).2.1/\(bf rs rest y (tk+(k-k0)) hs').2.2=tk+(dT rs k-k0)/\(bf rs rest y k [2,1]).2.2=dT rs k/\
 (bf rs rest y (tk+(k-k0)) hs').1.length=rs.length/\
 (U1 G' G2 k0 n tk hs'->dT rs k<=n->∀(e:List Value),(∀i,ck w' G' ((bf rs rest y k [2,1]).1.getD i .no) (e.getD i undef))->∀i,ck w' G2 ((bf rs rest y (tk+(k-k0)) hs').1.getD i .no) (e.getD i undef))/\
 (∀sv∈(bf rs rest y (tk+(k-k0)) hs').1,(∀c∈sv.sc,((c∈hs'/\rs.any (fun r=>r.pt.rK)=true)\/c=3)\/(tk+(k-k0)<=c/\c<tk+(dT rs k-k0)/\c∉jh rs (tk+(k-k0))))/\(∀c∈sv.bt,c∈jh rs (tk+(k-k0)))/\sv.rt=[])
 | [],rest,y,k,hk,hs'=>⟨rfl,rfl,rfl,rfl,fun _ _ e _ i=>by simp[bf,ck],by simp[bf]⟩
 | .val τ p::rs,rest,y,k,hk,hs'=>by
   have F:=bD p k;have H:=mF rs (aL p k);obtain⟨i1,i2,i3,i4,i5,i6⟩:=Ao u (rs:=rs) (rest:=rest) (y:=y.2) (k:=aL p k) (by omega) hs'
   have s:(aQ p (tk+(k-k0)) hs').2=tk+(aL p k-k0):=by
    rw[cB,show tk+(k-k0)=(k-k0)+tk by omega,eR];have:=eR p (k-k0) k0;rw[show k-k0+k0=k by omega]at this;omega
   have l:aL p (tk+(k-k0))=tk+(aL p k-k0):=(cB p _ hs').symm.trans s;simp only[bf,s,cB p k [2,1],qL];refine⟨i1,i2,i3,by simp[i4],fun m v e q i=> ?_,fun sv d=> ?_⟩
   ·cases i with
    |zero=>
     have:=q 0;simp only[G9]at this|-;obtain⟨cs,x,z⟩:=this;exact⟨cs,x,Hh m u hk (by omega) z⟩
    |succ i=>
     simp only[J3];have:=i5 m v (e.drop 1) (fun j=>by have:=q (j+1);simpa[lk,r_]using this) i;simpa[lk,r_]using this
   ·simp only[kb]at d;rcases d with rfl|d
    ·refine⟨fun c hc=> ?_,by simp[SV.bt],rfl⟩;rcases lM c hc with h|h|h
     ·exact .inl (.inl ⟨h.1,by simp[RK.pt,h.2]⟩)
     rotate_left
     ·exact .inl (.inr h)
     ·rw[l]at h;refine .inr ⟨h.1,by omega,fun b=> ?_⟩;simp only[jh]at b;rw[l]at b;have:=tQ c b;omega
    ·obtain⟨q1,q2,q3⟩:=i6 sv d;simp only[jh];rw[l];exact⟨fun c hc=>(q1 c hc).imp (fun h=>h.imp (fun h=>⟨h.1,by simp only[List.any_cons,h.2,Bool.or_true]⟩) id) (fun⟨A,t,B⟩=>⟨by omega,t,B⟩),q2,q3⟩
 | .nbox τ p::rs,rest,y,k,hk,hs'=>by
   have F:=bD p (k+1);have H:=mF rs (aL p (k+1));obtain⟨i1,i2,i3,i4,i5,i6⟩:=Ao u (rs:=rs) (rest:=rest) (y:=y.2) (k:=aL p (k+1)) (by omega) hs'
   have s:(aQ p (tk+(k-k0)+1) hs').2=tk+(aL p (k+1)-k0):=by
    rw[cB,show tk+(k-k0)+1=(k+1-k0)+tk by omega,eR];have:=eR p (k+1-k0) k0;rw[show k+1-k0+k0=k+1 by omega]at this;omega
   have l:aL p (tk+(k-k0)+1)=tk+(aL p (k+1)-k0):=(cB p _ hs').symm.trans s;simp only[bf,s,cB p (k+1) [2,1],px];refine⟨i1,i2,i3,by simp[i4],fun m v e q i=> ?_,fun sv d=> ?_⟩
   ·cases i with
    |zero=>
     have:=q 0;simp only[G9]at this|-;obtain⟨D,c,el,g1,g2,g3,g4,g5,g6⟩:=this;obtain⟨A,t⟩:=m.own k hk (by omega);refine⟨D,c,el,g1,by omega,A.trans g3,t D g4,g5,?_⟩;have:=Hh m u (k:=k+1) (by omega) (by omega) g6;rw[show tk+(k+1-k0)=tk+(k-k0)+1 by omega]at this;exact this
    |succ i=>
     simp only[J3];have:=i5 m v (e.drop 1) (fun j=>by have:=q (j+1);simpa[lk,r_]using this) i;simpa[lk,r_]using this
   ·simp only[kb]at d;rcases d with rfl|d
    ·refine⟨fun c hc=> ?_,by simp[SV.bt,jh],rfl⟩;rcases lM c hc with h|h|h
     ·exact .inl (.inl ⟨h.1,by simp[RK.pt,h.2]⟩)
     rotate_left
     ·exact .inl (.inr h)
     ·rw[l]at h;refine .inr ⟨by omega,by omega,fun b=> ?_⟩;simp only[jh,kb]at b;rw[l]at b;rcases b with b|b
      ·omega
      ·have:=tQ c b;omega
    ·obtain⟨q1,q2,q3⟩:=i6 sv d;simp only[jh];rw[l];refine⟨fun c hc=>(q1 c hc).imp (fun h=>h.imp (fun h=>⟨h.1,by simp only[List.any_cons,h.2,Bool.or_true]⟩) id) (fun⟨A,t,B⟩=>⟨by omega,t,?_⟩),fun c hc=>by simp[q2 c hc],q3⟩;simp only[kb,not_or];exact⟨by omega,B⟩
end
theorem mb:∀(l:List (Nat×Nat×TV)) (L:List SV),(bK l L).length=L.length
 | [],_=>rfl
 |(t,s,v)::l,L=>by simp only[bK];rw[mb l];simp
theorem wa:∀(l:List (Nat×Nat×TV)) (L:List SV) (j:Nat),(bK l L).getD j .no=L.getD j .no\/∃t v,(t,j,v)∈l/\(bK l L).getD j .no= .box t v
 | [],_,_=> .inl rfl
 |(t,s,v)::l,L,j=>by
  simp only[bK];rcases wa l (L.set s (.box t v)) j with h|⟨b,c,d,i⟩;rw[h,dF];split;rename_i e;obtain⟨rfl,_⟩:=e;exact .inr ⟨t,v,by simp,rfl⟩;exact .inl rfl;exact .inr ⟨b,c,by simp[d],i⟩
def gy:List (Nat×Nat×TV)->List SV->List SV
 | [],L=>L
 |(_,s,_)::l,L=>gy l (L.set s .no)
theorem yO:∀(l:List (Nat×Nat×TV)) {L L':List SV},L.length=L'.length->(∀j,(∀t v,(t,j,v)∉l)->L.getD j .no=L'.getD j .no)->bK l L=bK l L'
 | [],L,L',hl,h=>by
   refine List.ext_getElem hl (fun i c d=> ?_);have:=h i (by simp);rw[lk,lk]at this;simp only[bK]at c d|-;rw[T1 c,T1 d]at this;simpa using this
 |(t,s,v)::l,L,L',hl,h=>by
  simp only[bK];refine yO l (by simpa using hl) (fun j m=> ?_);rw[dF,dF,hl];by_cases e:j=s/\s<L'.length;rw[an e,an e];rw[a_ e,a_ e];by_cases k:j=s;subst k;have hlt:¬j<L'.length:=fun p=>e ⟨rfl,p⟩;rw[lk,lk,adW (by omega),adW (by omega)];refine h j (fun q r b=> ?_);simp only[kb,adk]at b;rcases b with⟨_,b,_⟩|b;exact k b;exact m q r b
theorem Ce:∀(l:List (Nat×Nat×TV)) (L:List SV),(gy l L).length=L.length
 | [],_=>rfl
 |(t,s,v)::l,L=>by simp only[gy];rw[Ce l];simp
theorem qo:∀(l:List (Nat×Nat×TV)) (L:List SV) (j:Nat),(∀t v,(t,j,v)∉l)->(gy l L).getD j .no=L.getD j .no
 | [],_,_,_=>rfl
 |(t,s,v)::l,L,j,h=>by
  simp only[gy];rw[qo l _ j (fun c d b=>h c d (by simp[b])),dF,a_];rintro⟨rfl,_⟩;exact h t v (by simp)
theorem sj:∀(l:List (Nat×Nat×TV)) (L:List SV) (j:Nat),(∃t v,(t,j,v)∈l)->(gy l L).getD j .no= .no/\True
 |(t,s,v)::l,L,j,⟨t',v',h⟩=>by
  simp only[gy];by_cases b:∃t v,(t,j,v)∈l;exact sj l _ j b;refine⟨?_,trivial⟩;rw[qo l _ j (fun t v h=>b ⟨t,v,h⟩),dF];simp only[kb,adk]at h;rcases h with⟨_,rfl,_⟩|h;split;rfl;rename_i e;rw[lk,adW (by simp at e;omega)];rfl;exact absurd ⟨t',v',h⟩ b
theorem Ym(l:List (Nat×Nat×TV))(L:List SV):bK l (gy l L)=bK l L:=
 yO l (Ce l L) (fun j b=>qo l L j b)
section
variable{P:Program}{C:Cx}{w0:World}{c0:C0}{U:Nat->Prop}{E:Env}{a:Act}{w:World}{G:Gh}{ops:List Oper}{g:Option (Nat×Bool)}
theorem Inv.S4:∀(l:List (Nat×Nat×TV)) {E:Env},Inv w0 c0 U E a w G->Inv w0 c0 U {E with s:=gy l E.s} a w G
 | [],_,h=>h
 |(_,s,_)::l,E,h=>Inv.S4 l (E:={E with s:=E.s.set s .no}) (h.drop s)
theorem Inv.Vo:∀(l:List (Nat×Nat×TV)) {E:Env},Inv w0 c0 U E a w G->(∀t s v,(t,s,v)∈l->ck w G (.box t v) (a.tmps.getD s undef)/\bg U G (.box t v))->
 (l.map (·.1)).Pairwise (·≠·)->(∀t s v,(t,s,v)∈l->∀q u,E.s.getD q .no≠ .box t u)->Inv w0 c0 U {E with s:=bK l E.s} a w G
 | [],_,h,_,_,_=>h
 |(t,s,v)::l,E,h,h1,h2,h3=>by
  simp only[List.map_cons,aeB]at h2;obtain⟨g1,g2⟩:=h1 t s v (by simp);refine Inv.Vo l (E:={E with s:=E.s.set s (.box t v)}) (h.Xs s g1 g2 ?_) (fun y q z p=>h1 y q z (by simp[p])) h2.2 (fun y q z p A u he=> ?_);rintro y u ⟨rfl,rfl⟩ q u' _ he;exact h3 t s v (by simp) q u' he;simp only[dF]at he;split at he;simp only[SV.box.injEq]at he;exact h2.1 y (z_.2 ⟨(y,q,z),p,rfl⟩) he.1;exact h3 y q z (by simp[p]) A u he
theorem zW(O:Inv w0 c0 U E a w G){k0 tk:Nat}{hs':List Nat}:∀ {ps:List PK} {as:List SV} {vals:List Value} {u i0:Nat} {r0:List (Nat×Nat)} {xs:aW (ps.map PK.ty)} {m bs:List (Nat×Nat)},
 bH E.rd ps as u r0=some (xs,m,bs)->(∀i,ck w G (as.getD i .no) (vals.getD i undef))->∀(R:aW (bn ps)) (k:Nat),k0<=k->
 (∀t s v2,(t,s,v2)∈db hs' ps R bs (tk+(k-k0))->∃j i v1 p q v0,(j,i0+i,v1)∈db [2,1] ps R (fp ps i0 u) k/\(t,j)∈m/\j∈cJ ps u/\
  E.s.getD s .no= .box t v0/\vals.getD i undef=G.hdr t/\k<=q/\aL p q<=qB ps k/\v1=⟨v2.τ,v2.x,(aQ p q [2,1]).1⟩/\v2.sh=(aQ p (tk+(q-k0)) hs').1/\(p.rK=true->A0 ps=true))/\
 (∀t s,(t,s)∈bs->∃v2,(t,s,v2)∈db hs' ps R bs (tk+(k-k0)))
 | [],[],vals,u,i0,r0,xs,m,bs,h,hs,R,k,hk=>by
   simp only[bH,adg,adk]at h;obtain⟨_,rfl,rfl⟩:=h;simp[db]
 | .val τ p::ps,.d v::as,vals,u,i0,r0,xs,m,bs,h,hs,R,k,hk=>by
   simp only[bH]at h;split at h;rename_i x z r A T B;split at h;simp only[adg,adk]at h;obtain⟨_,rfl,rfl⟩:=h;obtain⟨D,F⟩:=zW O (k0:=k0) (tk:=tk) (hs':=hs') (i0:=i0+1) (vals:=vals.drop 1) B (fun i=>by have:=hs (i+1);simpa[lk,r_]using this) R k hk;refine⟨fun t s v2 b=> ?_,fun t s b=>F t s b⟩;obtain⟨j,i,v1,H,q,v0,q1,q2,q3,q4,q5,N,I,J,y⟩:=D t s v2 b
   exact⟨j,i+1,v1,H,q,v0,by simp only[fp,db];rw[show i0+(i+1)=i0+1+i by omega];exact q1,T2 _ q2,q3,q4,
    by rw[<-q5];simp[lk,r_],N,I,J,y⟩
   cases h;cases h
 | .io τ p::ps,sv::as,vals,u,i0,r0,xs,m,bs,h,hs,R,k,hk=>by
   simp only[bH]at h;split at h;rename_i t0 s0 v Y;split at h;rename_i x z r A T B;split at h;simp only[adg,adk]at h;obtain⟨_,rfl,rfl⟩:=h;have n1:=bD p k
   have W:(aQ p (tk+(k-k0)) hs').2=tk+(aL p k-k0):=by
    rw[cB,show tk+(k-k0)=(k-k0)+tk by omega,eR];have:=eR p (k-k0) k0;rw[show k-k0+k0=k by omega]at this;omega
   obtain⟨D,F⟩:=zW O (k0:=k0) (tk:=tk) (hs':=hs') (i0:=i0+1) (vals:=vals.drop 1) B (fun i=>by have:=hs (i+1);simpa[lk,r_]using this) R.2 (aL p k) (by omega);have S:=hs 0;simp only[G9]at S;obtain⟨K,bk,c,el,b1,Z,_⟩:=vR O Y S;refine⟨fun t s v2 b=> ?_,fun t s b=> ?_⟩;simp only[db,kb,adk]at b;rcases b with⟨rfl,rfl,rfl⟩|b;refine⟨u,0,_,p,k,_,by simp only[fp,db];exact List.mem_cons_self ..,by simp,by simp[cJ],K,Z.symm,po _,th ps _,rfl,rfl,fun h=>by simp[A0,h]⟩;rw[W]at b;obtain⟨j,i,v1,H,q,v0,q1,q2,q3,q4,q5,N,I,J,y⟩:=D t s v2 b
   refine⟨j,i+1,v1,H,q,v0,?_,by simp[q2],by simp only[cJ];exact B_ _ q3,q4,
    by rw[<-q5];simp[lk,r_],by omega,I,J,y.1,fun h=>by simp[A0,y.2 h]⟩
   simp only[fp,db,cB];rw[show i0+(i+1)=i0+1+i by omega];exact B_ _ q1;simp only[kb,adk]at b;simp only[db,W,kb,adk];rcases b with⟨rfl,rfl⟩|b;exact⟨_,.inl ⟨rfl,rfl,rfl⟩⟩;obtain⟨v2,V⟩:=F t s b;exact⟨v2,.inr V⟩;cases h;cases h;cases h
 | .rd τ::ps,sv::as,vals,u,i0,r0,xs,m,bs,h,hs,R,k,hk=>by
   simp only[bH]at h;split at h;split at h;rename_i x z r A T B;split at h;simp only[adg,adk]at h;obtain⟨_,rfl,rfl⟩:=h;obtain⟨D,F⟩:=zW O (k0:=k0) (tk:=tk) (hs':=hs') (i0:=i0+1) (vals:=vals.drop 1) B (fun i=>by have:=hs (i+1);simpa[lk,r_]using this) R k hk;refine⟨fun t s v2 b=> ?_,fun t s b=>F t s b⟩;obtain⟨j,i,v1,H,q,v0,q1,q2,q3,q4,q5,N,I,J,y⟩:=D t s v2 b
   exact⟨j,i+1,v1,H,q,v0,by simp only[fp,db];rw[show i0+(i+1)=i0+1+i by omega];exact q1,T2 _ q2,q3,q4,
    by rw[<-q5];simp[lk,r_],N,I,J,y⟩
   cases h;cases h;cases h
 | .vx e l::ps,.d v::as,vals,u,i0,r0,xs,m,bs,h,hs,R,k,hk=>by
   simp only[bH]at h;split at h;rename_i x z r A T B;split at h;simp only[adg,adk]at h;obtain⟨_,rfl,rfl⟩:=h;obtain⟨D,F⟩:=zW O (k0:=k0) (tk:=tk) (hs':=hs') (i0:=i0+1) (vals:=vals.drop 1) B (fun i=>by have:=hs (i+1);simpa[lk,r_]using this) R k hk;refine⟨fun t s v2 b=> ?_,fun t s b=>F t s b⟩;obtain⟨j,i,v1,H,q,v0,q1,q2,q3,q4,q5,N,I,J,y⟩:=D t s v2 b
   exact⟨j,i+1,v1,H,q,v0,by simp only[fp,db];rw[show i0+(i+1)=i0+1+i by omega];exact q1,T2 _ q2,q3,q4,
    by rw[<-q5];simp[lk,r_],N,I,J,y⟩
   cases h;cases h
 | [],_::_,_,_,_,_,_,_,_,h,_,_,_,_| .val _ _::_,[],_,_,_,_,_,_,_,h,_,_,_,_| .io _ _::_,[],_,_,_,_,_,_,_,h,_,_,_,_| .rd _::_,[],_,_,_,_,_,_,_,h,_,_,_,_
 | .vx _ _::_,[],_,_,_,_,_,_,_,h,_,_,_,_=>by simp[bH]at h
 | .val _ _::_,.no::_,_,_,_,_,_,_,_,h,_,_,_,_| .val _ _::_,.box _ _::_,_,_,_,_,_,_,_,h,_,_,_,_| .val _ _::_,.ptr ..::_,_,_,_,_,_,_,_,h,_,_,_,_| .val _ _::_,.ept ..::_,_,_,_,_,_,_,_,h,_,_,_,_
 | .val _ _::_,.rdp ..::_,_,_,_,_,_,_,_,h,_,_,_,_| .val _ _::_,.tup _::_,_,_,_,_,_,_,_,h,_,_,_,_| .val _ _::_,.g ..::_,_,_,_,_,_,_,_,h,_,_,_,_=>by simp[bH]at h
 | .vx _ _::_,.no::_,_,_,_,_,_,_,_,h,_,_,_,_| .vx _ _::_,.box _ _::_,_,_,_,_,_,_,_,h,_,_,_,_| .vx _ _::_,.ptr ..::_,_,_,_,_,_,_,_,h,_,_,_,_| .vx _ _::_,.ept ..::_,_,_,_,_,_,_,_,h,_,_,_,_
 | .vx _ _::_,.rdp ..::_,_,_,_,_,_,_,_,h,_,_,_,_| .vx _ _::_,.tup _::_,_,_,_,_,_,_,_,h,_,_,_,_| .vx _ _::_,.g ..::_,_,_,_,_,_,_,_,h,_,_,_,_=>by simp[bH]at h
theorem oL{rhoT:List (Nat×Nat)}{hs':List Nat}{D:Rd}:∀ {ps:List PK} {as:List SV} {i:Nat} {r0:List (Nat×Nat)} {xs:aW (ps.map PK.ty)} {b bs:List (Nat×Nat)},
 bH D ps as i r0=some (xs,b,bs)->(∀c k,(c,k)∈b->rhoT.lookup c=some k)->∀(R:aW (bn ps)) (k':Nat),
 ((db hs' ps R bs k').map (·.1)).Pairwise (·≠·)/\∀t∈(db hs' ps R bs k').map (·.1),∃u,i<=u/\rhoT.lookup t=some u
 | [],[],i,r0,xs,b,bs,h,hr,R,k'=>by
   simp only[bH,adg,adk]at h;obtain⟨_,rfl,rfl⟩:=h;simp[db]
 | .val τ p::ps,.d v::as,i,r0,xs,b,bs,h,hr,R,k'=>by
   simp only[bH]at h;split at h;rename_i x m j q z r;split at h;simp only[adg,adk]at h;obtain⟨_,rfl,rfl⟩:=h;obtain⟨A,y⟩:=oL r (fun c k h=>hr c k (T2 _ h)) R k';exact⟨A,fun t s=>by obtain⟨u,q1,q2⟩:=y t s;exact⟨u,M_ (bD p i) q1,q2⟩⟩;cases h;cases h
 | .io τ p::ps,sv::as,i,r0,xs,b,bs,h,hr,R,k'=>by
   simp only[bH]at h;split at h;rename_i t0 s0 v hb;split at h;rename_i x m j q z r;split at h;simp only[adg,adk]at h;obtain⟨_,rfl,rfl⟩:=h;have n1:=bD p (i+1);have hpn:(aQ p (i+1) []).2=aL p (i+1):=rfl;obtain⟨A,y⟩:=oL r (fun c k h=>hr c k (by simp[h])) R.2 (aQ p k' hs').2;have B:=hr t0 i (by simp);simp only[db,List.map_cons,aeB,kb];refine⟨⟨fun t s e=> ?_,A⟩,fun t s=> ?_⟩;obtain⟨u,q1,q2⟩:=y t s;rw[<-e,B]at q2;simp only[adg]at q2;omega;rcases s with rfl|s;exact⟨i,po _,B⟩;obtain⟨u,q1,q2⟩:=y t s;exact⟨u,by omega,q2⟩;cases h;cases h;cases h
 | .rd τ::ps,sv::as,i,r0,xs,b,bs,h,hr,R,k'=>by
   simp only[bH]at h;split at h;split at h;rename_i x m j q z r;split at h;simp only[adg,adk]at h;obtain⟨_,rfl,rfl⟩:=h;exact oL r (fun c k h=>hr c k (T2 _ h)) R k';cases h;cases h;cases h
 | .vx e l::ps,.d v::as,i,r0,xs,b,bs,h,hr,R,k'=>by
   simp only[bH]at h;split at h;rename_i x m j q z r;split at h;simp only[adg,adk]at h;obtain⟨_,rfl,rfl⟩:=h;exact oL r (fun c k h=>hr c k (T2 _ h)) R k';cases h;cases h
 | [],_::_,_,_,_,_,_,h,_,_,_| .val _ _::_,[],_,_,_,_,_,h,_,_,_| .io _ _::_,[],_,_,_,_,_,h,_,_,_| .rd _::_,[],_,_,_,_,_,h,_,_,_| .vx _ _::_,[],_,_,_,_,_,h,_,_,_=>by simp[bH]at h
 | .val _ _::_,.no::_,_,_,_,_,_,h,_,_,_| .val _ _::_,.box _ _::_,_,_,_,_,_,h,_,_,_| .val _ _::_,.ptr ..::_,_,_,_,_,_,h,_,_,_| .val _ _::_,.ept ..::_,_,_,_,_,_,h,_,_,_
 | .val _ _::_,.rdp ..::_,_,_,_,_,_,h,_,_,_| .val _ _::_,.tup _::_,_,_,_,_,_,h,_,_,_| .val _ _::_,.g ..::_,_,_,_,_,_,h,_,_,_=>by simp[bH]at h
 | .vx _ _::_,.no::_,_,_,_,_,_,h,_,_,_| .vx _ _::_,.box _ _::_,_,_,_,_,_,h,_,_,_| .vx _ _::_,.ptr ..::_,_,_,_,_,_,h,_,_,_| .vx _ _::_,.ept ..::_,_,_,_,_,_,h,_,_,_
 | .vx _ _::_,.rdp ..::_,_,_,_,_,_,h,_,_,_| .vx _ _::_,.tup _::_,_,_,_,_,_,h,_,_,_| .vx _ _::_,.g ..::_,_,_,_,_,_,h,_,_,_=>by simp[bH]at h
theorem sr(I:Inv w0 c0 U E a w G){hs':List Nat}:∀ {ps:List PK} {as:List SV} {vals:List Value} {y i0:Nat} {r0:List (Nat×Nat)} {xs:aW (ps.map PK.ty)} {m bs:List (Nat×Nat)},
 bH E.rd ps as y r0=some (xs,m,bs)->(∀i,ck w G (as.getD i .no) (vals.getD i undef))->∀(R:aW (bn ps)) (k:Nat) (j:Nat) (t s:Nat),bs[j]?=some (t,s)->
 ∃b i v0 v2 τ,(fp ps i0 y)[j]?=some (b,i0+i)/\(bn ps)[j]?=some τ/\(db hs' ps R bs k)[j]?=some (t,s,v2)/\v2.τ=τ/\E.rd.box t=some (s,v0)/\v0.τ=τ/\vals.getD i undef=G.hdr t
 | [],[],vals,y,i0,r0,xs,m,bs,h,hs,R,k,j,t,s,hj=>by
   simp only[bH,adg,adk]at h;obtain⟨_,rfl,rfl⟩:=h;simp at hj
 | .val τ p::ps,.d v::as,vals,y,i0,r0,xs,m,bs,h,hs,R,k,j,t,s,hj=>by
   simp only[bH]at h;split at h;rename_i x z q A N B;split at h;simp only[adg,adk]at h;obtain⟨_,rfl,rfl⟩:=h;obtain⟨b,i,v0,v2,D,q1,q2,q3,q4,q5,F,H⟩:=sr I (hs':=hs') (i0:=i0+1) (vals:=vals.drop 1) B (fun i=>by have:=hs (i+1);simpa[lk,r_]using this) R k j t s hj;exact⟨b,i+1,v0,v2,D,by simp only[fp];rw[show i0+(i+1)=i0+1+i by omega];exact q1,q2,q3,q4,q5,F,by rw[<-H];simp[lk,r_]⟩;cases h;cases h
 | .io τ p::ps,sv::as,vals,y,i0,r0,xs,m,bs,h,hs,R,k,j,t,s,hj=>by
   simp only[bH]at h;split at h;rename_i t0 O v u;split at h;rename_i x z q A N B;split at h;simp only[adg,adk]at h;obtain⟨_,rfl,rfl⟩:=h;have J:=hs 0;simp only[G9]at J;obtain⟨hslot,bk,c,el,b1,T,_⟩:=vR I u J
   have K:E.rd.box t0=some (O,v):=by
    unfold pj at u;split at u;rw[E_]at u;obtain⟨r,V,u⟩:=u;simp only[adk]at u;obtain⟨rfl,rfl,rfl⟩:=u;exact V;cases u
   have S:v.τ=τ:=by
    have e:=dv N;rw[e]
   cases j with
   |zero=>
    simp only[aet,adg,adk]at hj;obtain⟨rfl,rfl⟩:=hj;exact⟨y,0,v,⟨τ,R.1,(aQ p k hs').1⟩,τ,by simp[fp],by simp[bn],by simp only[db,aet],rfl,K,S,T.symm⟩
   |succ j=>
    simp only[adZ]at hj;obtain⟨b,i,v0,v2,D,q1,q2,q3,q4,q5,F,H⟩:=sr I (hs':=hs') (i0:=i0+1) (vals:=vals.drop 1) B (fun i=>by have:=hs (i+1);simpa[lk,r_]using this) R.2 (aQ p k hs').2 j t s hj
    exact⟨b,i+1,v0,v2,D,by simp only[fp,adZ];rw[show i0+(i+1)=i0+1+i by omega];exact q1,by simp only[bn,adZ];exact q2,
     by simp only[db,adZ];exact q3,q4,q5,F,by rw[<-H];simp[lk,r_]⟩
   cases h;cases h;cases h
 | .rd τ::ps,sv::as,vals,y,i0,r0,xs,m,bs,h,hs,R,k,j,t,s,hj=>by
   simp only[bH]at h;split at h;split at h;rename_i x z q A N B;split at h;simp only[adg,adk]at h;obtain⟨_,rfl,rfl⟩:=h;obtain⟨b,i,v0,v2,D,q1,q2,q3,q4,q5,F,H⟩:=sr I (hs':=hs') (i0:=i0+1) (vals:=vals.drop 1) B (fun i=>by have:=hs (i+1);simpa[lk,r_]using this) R k j t s hj;exact⟨b,i+1,v0,v2,D,by simp only[fp];rw[show i0+(i+1)=i0+1+i by omega];exact q1,q2,q3,q4,q5,F,by rw[<-H];simp[lk,r_]⟩;cases h;cases h;cases h
 | .vx e l::ps,.d v::as,vals,y,i0,r0,xs,m,bs,h,hs,R,k,j,t,s,hj=>by
   simp only[bH]at h;split at h;rename_i x z q A N B;split at h;simp only[adg,adk]at h;obtain⟨_,rfl,rfl⟩:=h;obtain⟨b,i,v0,v2,D,q1,q2,q3,q4,q5,F,H⟩:=sr I (hs':=hs') (i0:=i0+1) (vals:=vals.drop 1) B (fun i=>by have:=hs (i+1);simpa[lk,r_]using this) R k j t s hj;exact⟨b,i+1,v0,v2,D,by simp only[fp];rw[show i0+(i+1)=i0+1+i by omega];exact q1,q2,q3,q4,q5,F,by rw[<-H];simp[lk,r_]⟩;cases h;cases h
 | [],_::_,_,_,_,_,_,_,_,h,_,_,_,_,_,_,_| .val _ _::_,[],_,_,_,_,_,_,_,h,_,_,_,_,_,_,_| .io _ _::_,[],_,_,_,_,_,_,_,h,_,_,_,_,_,_,_| .rd _::_,[],_,_,_,_,_,_,_,h,_,_,_,_,_,_,_
 | .vx _ _::_,[],_,_,_,_,_,_,_,h,_,_,_,_,_,_,_=>by simp[bH]at h
 | .val _ _::_,.no::_,_,_,_,_,_,_,_,h,_,_,_,_,_,_,_| .val _ _::_,.box _ _::_,_,_,_,_,_,_,_,h,_,_,_,_,_,_,_| .val _ _::_,.ptr ..::_,_,_,_,_,_,_,_,h,_,_,_,_,_,_,_
 | .val _ _::_,.ept ..::_,_,_,_,_,_,_,_,h,_,_,_,_,_,_,_| .val _ _::_,.rdp ..::_,_,_,_,_,_,_,_,h,_,_,_,_,_,_,_| .val _ _::_,.tup _::_,_,_,_,_,_,_,_,h,_,_,_,_,_,_,_
 | .val _ _::_,.g ..::_,_,_,_,_,_,_,_,h,_,_,_,_,_,_,_| .vx _ _::_,.no::_,_,_,_,_,_,_,_,h,_,_,_,_,_,_,_| .vx _ _::_,.box _ _::_,_,_,_,_,_,_,_,h,_,_,_,_,_,_,_
 | .vx _ _::_,.ptr ..::_,_,_,_,_,_,_,_,h,_,_,_,_,_,_,_| .vx _ _::_,.ept ..::_,_,_,_,_,_,_,_,h,_,_,_,_,_,_,_| .vx _ _::_,.rdp ..::_,_,_,_,_,_,_,_,h,_,_,_,_,_,_,_
 | .vx _ _::_,.tup _::_,_,_,_,_,_,_,_,h,_,_,_,_,_,_,_| .vx _ _::_,.g ..::_,_,_,_,_,_,_,_,h,_,_,_,_,_,_,_=>by simp[bH]at h
theorem qM:∀ {τ:Ty} {x:τ.den} {sh:Sh} {cs:List Value} {p:List Bool} {t:Nat},bh w G τ x sh cs->kQ sh p=some t->cs[τ.off p]?=some (G.hdr t)/\4<=t/\t∈sh.ar
 | .sl e,l,.sl (.row u hs nd),cs,[],t,h,hr=>by
   simp only[kQ,adg]at hr;subst hr;obtain⟨v,rfl,j,k,_⟩:=h;exact⟨by simp[Ty.off,k],j,by simp[Sh.ar,M.ar]⟩
 | .pair a b,x,.pair s1 s2,cs,false::p,t,h,hr=>by
   obtain⟨c,m,rfl,d,i⟩:=h;simp only[kQ]at hr;obtain⟨q1,q2,q3⟩:=qM d hr;refine⟨?_,q2,by simp[Sh.ar,q3]⟩;simp only[Ty.off];rw[List.getElem?_append_left];exact q1;rcases Nat.lt_or_ge (a.off p) c.length with h|h;exact h;rw[adW h]at q1;cases q1
 | .pair a b,x,.pair s1 s2,cs,true::p,t,h,hr=>by
   obtain⟨c,m,rfl,d,i⟩:=h;simp only[kQ]at hr;obtain⟨q1,q2,q3⟩:=qM i hr;refine⟨?_,q2,by simp[Sh.ar,q3]⟩;have hl:c.length=a.sz:=bh.len d;simp only[Ty.off];rw[List.getElem?_append_right (by omega),show a.sz+b.off p-c.length=b.off p by omega];exact q1
 | .int _,_,.sl _,_,_,_,h,_| .bool,_,.sl _,_,_,_,h,_| .str,_,.sl _,_,_,_,h,_| .pair _ _,_,.sl _,_,_,_,h,_| .int _,_,.pair _ _,_,_,_,h,_| .bool,_,.pair _ _,_,_,_,h,_
 | .str,_,.pair _ _,_,_,_,h,_| .sl _,_,.pair _ _,_,_,_,h,_=>h.elim
 |_,_,.leaf,_,_,_,_,h=>by simp[kQ]at h
 |_,_,.sl (.sha _),_,_,_,_,h|_,_,.sl .dead,_,_,_,_,h=>by simp[kQ]at h
 |_,_,.sl (.row _ _ _),_,_::_,_,_,h=>by simp[kQ]at h
 |_,_,.pair _ _,_,[],_,_,h=>by simp[kQ]at h
end
theorem M9:∀ {L:List SV} {b:List TV},qb L=some b->L.length=b.length/\∀i v,b[i]?=some v->L.getD i .no= .d v
 | [],b,h=>by simp only[qb,adg]at h;subst h;simp
 | .d v::L,b,h=>by
   simp only[qb,E_]at h;obtain⟨vs',j,rfl⟩:=h;obtain⟨g1,g2⟩:=M9 j;refine⟨by simp[g1],fun i e c=> ?_⟩;cases i with
   |zero=>simp at c|-;exact c
   |succ i=>simp at c;simpa using g2 i e c
 | .no::_,_,h| .box _ _::_,_,h| .ptr ..::_,_,h| .ept ..::_,_,h| .rdp ..::_,_,h| .tup _::_,_,h| .g ..::_,_,h=>by simp[qb]at h
theorem M1:∀ {L:List SV} {c:List TV},qb L=some c->∀v∈c,SV.d v∈L
 | [],c,h,v,b=>by simp only[qb,adg]at h;subst h;simp at b
 | .d u::L,c,h,v,b=>by
   simp only[qb,E_]at h;obtain⟨vs',e,rfl⟩:=h;simp only[kb]at b;rcases b with rfl|b;simp;exact B_ _ (M1 e v b)
 | .no::_,_,h,_,_| .box _ _::_,_,h,_,_| .ptr ..::_,_,h,_,_| .ept ..::_,_,h,_,_| .rdp ..::_,_,h,_,_| .tup _::_,_,h,_,_| .g ..::_,_,h,_,_=>by simp[qb]at h
section
variable{P:Program}{C:Cx}{w0:World}{c0:C0}{U:Nat->Prop}{E:Env}{a:Act}{w:World}{G:Gh}{ops:List Oper}{g:Option (Nat×Bool)}
theorem GM(L:List SV):(∃sv,L=[sv]/\mU L=sv)\/(∀sv,L≠ [sv])/\((∃b,qb L=some b/\mU L= .tup b)\/mU L= .no):=by
 match L with
 | [sv]=>exact .inl ⟨sv,rfl,rfl⟩
 | []=>exact .inr ⟨by simp,.inl ⟨[],rfl,rfl⟩⟩
 |x::y::l=>
  refine .inr ⟨by simp,?_⟩;cases h:qb (x::y::l)with
  |none=>right;simp[mU,h]
  |some b=>left;exact⟨b,rfl,by simp[mU,h]⟩
theorem Vs{b:List Value}(h:∀v,b≠ [v]):wu b= .tuple b.toArray:=by
 match b,h with
 | [],_=>rfl
 | [v],h=>exact absurd rfl (h v)
 |_::_::_,_=>rfl
theorem W8{L:List SV}{b:List Value}(d:b.length=L.length)(h:∀i,ck w G (L.getD i .no) (b.getD i undef)):ck w G (mU L) (wu b):=by
 rcases GM L with⟨sv,rfl,e⟩|⟨m,⟨ts,p,e⟩|e⟩;rw[e];have:=h 0
 match b,d with
 | [v],_=>simpa[wu]using this
 rw[e,Vs (fun v l=>by
  subst l;simp only[aew]at d
  match L,d with
  | [sv],_=>exact m sv rfl)]
 obtain⟨g1,g2⟩:=M9 p;refine⟨b,rfl,by omega,fun i v j=> ?_⟩;have hs:=h i;rw[g2 i v j]at hs;obtain⟨cs,k,q⟩:=hs
 have c:i<b.length:=by
  have:=(ad7.1 j).1;omega
 rw[lk,T1 c]at k;exact⟨_,cs,T1 c,k,q⟩;rw[e];trivial
theorem Ud{L:List SV}(h:∀sv∈L,bg U G sv):bg U G (mU L):=by
 rcases GM L with⟨sv,rfl,e⟩|⟨_,⟨ts,b,e⟩|e⟩;rw[e];exact h sv (by simp);rw[e];refine⟨fun c hc=> ?_,by simp[SV.bt],by simp[SV.rt]⟩;simp only[SV.sc,adY]at hc;obtain⟨v,d,hc⟩:=hc;exact(h _ (M1 b v d)).1 c hc;rw[e];simp[bg,SV.sc,SV.bt,SV.rt]
def qJ(G c G':Gh)(n k0 tk:Nat)(d:List Nat):Gh:=
 ⟨fun b=>if 4<=G'.col b then(if k0<=G'.col b/\G'.col b<k0+32 then tk+(G'.col b-k0)else if b<n then G.col b else 0)
  else if G'.col b=2 then 2 else if G'.col b=1\/G'.col b=3 then G.col b else if b<n/\c.col b=0 then G.col b else 0,
  fun u=>if tk<=u/\u<tk+32 then G'.hdr (k0+(u-tk))else G.hdr u,
  fun u=>if tk<=u/\u<tk+32 then d.contains u else G.bx u⟩
theorem Uo(G c G':Gh)(n k0 tk:Nat)(d:List Nat)(b:Nat):
 (k0<=G'.col b/\G'.col b<k0+32/\4<=G'.col b/\(qJ G c G' n k0 tk d).col b=tk+(G'.col b-k0))\/
 (4<=G'.col b/\b<n/\(qJ G c G' n k0 tk d).col b=G.col b/\¬(k0<=G'.col b/\G'.col b<k0+32))\/
 (4<=G'.col b/\(qJ G c G' n k0 tk d).col b=0)\/(G'.col b=2/\(qJ G c G' n k0 tk d).col b=2)\/((G'.col b=1\/G'.col b=3)/\(qJ G c G' n k0 tk d).col b=G.col b)\/
 (G'.col b=0/\b<n/\c.col b=0/\(qJ G c G' n k0 tk d).col b=G.col b)\/(G'.col b=0/\(qJ G c G' n k0 tk d).col b=0/\¬(b<n/\c.col b=0)):=by
 simp only[qJ];by_cases j:4<=G'.col b;simp only[j,if_true,true_and];by_cases h:k0<=G'.col b/\G'.col b<k0+32;simp only[h,and_self,if_true];left;trivial;simp only[h,if_false];by_cases e:b<n;right;left;simp[e];right;right;left;simp[e];simp only[j,if_false,false_and,and_false,false_or];by_cases l:G'.col b=2;simp[l];by_cases i:G'.col b=1\/G'.col b=3;rcases i with i|i<;>simp[i];have k:G'.col b=0:=by omega
 have h1':¬(0=1\/0=3):=by omega
 by_cases e:b<n/\c.col b=0;simp[k,e];simp[k,e]
theorem aak(A:Inv w0 c0 U E a w G){con:ou}{as:List SV}{vals:List Value}{xs:aW (con.ps.map PK.ty)}{H bs:List (Nat×Nat)}
 (bl:O9 con.ps con.rs=true) (hg:bH E.rd con.ps as 4 []=some (xs,H,bs)) (hs:∀i,ck w G (as.getD i .no) (vals.getD i undef)/\bg U G (as.getD i .no)) (hr:Ey H=true)
 {O:Gh} (c5:∀b,O.col b=(H.lookup (G.col b)).getD 0) {y:aW (con.rs.map RK.ty++bn con.ps)} {mv:Value} {w':World} {G':Gh} {vs:List Value} {nt:Nat} (B:uB con w O vals y mv w' G' vs nt)
 {tk:Nat} (h3:4<=tk) (hU:∀u,tk<=u->u<tk+32->¬U u) (Y5:qB con.ps (dT con.rs 0)<=32) {hs' j:List Nat}
 (b7:hs'=(2::(H.filter (·.2=1)).map (·.1)).eraseDups) (b0:j=((H.filter (4<=·.2)).map (·.1)).filter fun c=> !bs.any (·.1=c)):
 ∃G2,Inv w0 c0 (fun u=>U u\/(tk<=u/\u<tk+32)) {E.kill j with s:=bK (db hs' con.ps (bf con.rs (bn con.ps) y tk hs').2.1 bs (bf con.rs (bn con.ps) y tk hs').2.2) (E.kill j).s} a w' G2/\
  ck w' G2 (mU (bf con.rs (bn con.ps) y tk hs').1) mv/\bg (fun u=>U u\/(tk<=u/\u<tk+32)) G2 (mU (bf con.rs (bn con.ps) y tk hs').1)/\
  (∀t u,mU (bf con.rs (bn con.ps) y tk hs').1= .box t u->∀s Y,
   (bK (db hs' con.ps (bf con.rs (bn con.ps) y tk hs').2.1 bs (bf con.rs (bn con.ps) y tk hs').2.2) (E.kill j).s).getD s .no≠ .box t Y)/\
  (∀u Y,(u,Y)∈ym E.rd bs (db hs' con.ps (bf con.rs (bn con.ps) y tk hs').2.1 bs (bf con.rs (bn con.ps) y tk hs').2.2) con.kp->
   G2.hdr Y=G.hdr u/\4<=Y/\Good (fun u=>U u\/(tk<=u/\u<tk+32)) G2 Y)/\
  (∀t s v,(t,s,v)∈db hs' con.ps (bf con.rs (bn con.ps) y tk hs').2.1 bs (bf con.rs (bn con.ps) y tk hs').2.2->∃v0,E.s.getD s .no= .box t v0):=by
 obtain⟨hl,_,c2⟩:=qU A hg hs (po _);have c6:∀c k,(c,k)∈H->Pg U G con.ps 4 bs c k:=fun c k h=>(c2 c k h).resolve_right (by simp);have c7:=gi con.ps 4;generalize hk:bP con.ps 4=k0 at c7
 have ao:∀c k,(c,k)∈H->(k=1/\0<c/\U c/\(G.bx c=false\/Kb con.ps=true))\/(4<=k/\k<k0/\4<=c/\((Good U G c/\k∉cJ con.ps 4)\/(k∈cJ con.ps 4/\U c/\G.bx c=true/\∃s,(c,s)∈bs)))\/(c=3/\k=3):=by
  intro c k h;have:=c6 c k h;rw[<-hk];exact this
 generalize N:qJ G O G' w.heap.size k0 tk (jh con.rs tk)=G2;have I:=fun b=>Uo G O G' w.heap.size k0 tk (jh con.rs tk) b;rw[N]at I;have cg:=Ao (w':=w') (G':=G') (G2:=G2) (k0:=k0) (n:=k0+32) h3 (rs:=con.rs) (rest:=bn con.ps) (y:=y) (k:=k0) (po _) hs';simp only[aeq,aer]at cg;obtain⟨ec,ed,ee,ef,eg,c3⟩:=cg;have ch:dT con.rs k0=dT con.rs 0+k0:=by have:=tK con.rs 0 k0;rwa [ad8]at this
 have hnt2:qB con.ps (dT con.rs k0)=qB con.ps (dT con.rs 0)+k0:=by rw[ch];exact AV _ _ _
 have hge1:=th con.ps (dT con.rs k0);have cl:=mF con.rs k0;have b1:∀u,U u->¬(tk<=u/\u<tk+32):=fun u hu h=>hU u h.1 h.2 hu;have b2:∀u,U u->G2.hdr u=G.hdr u:=fun u hu=>by rw[<-N];exact a_ (b1 u hu)
 have S:∀u,U u->G2.bx u=G.bx u:=fun u hu=>by rw[<-N];exact a_ (b1 u hu)
 have J:∀b,(O.col b=0)\/(O.col b=1/\(G.col b,1)∈H)\/(4<=O.col b/\O.col b<k0/\(G.col b,O.col b)∈H/\4<=G.col b)\/(O.col b=3/\G.col b=3):=by
  intro b;rw[c5 b];cases hq:H.lookup (G.col b)with
  |none=>left;simp
  |some k=>
   simp only[adH];have hm:=gK hq;rcases ao _ _ hm with⟨rfl,_⟩|⟨q1,q2,q3,_⟩|⟨q1,q2⟩
   ·exact .inr (.inl ⟨rfl,hm⟩)
   ·exact .inr (.inr (.inl ⟨q1,q2,hm,q3⟩))
   ·exact .inr (.inr (.inr ⟨q2,q1⟩))
 have b3:U1 G' G2 k0 (k0+32) tk hs':=by
  refine⟨fun u hu hu2=>⟨?_,fun b m=> ?_⟩,fun b m=> ?_,fun b m=> ?_,fun e=> ?_⟩
  rotate_right
  ·have l:2∈hs':=by rw[b7,ad1];simp
   rw[e]at l;simp at l
  ·rw[<-N];simp only[qJ];rw[an (by omega)];congr 1;omega
  ·rcases I b with⟨_,_,_,h⟩|⟨q1,q2,q3,q4⟩|⟨q1,q2⟩|h|h|h|h
   ·rw[h,m]
   ·omega
   ·rw[<-N];simp only[qJ];rw[an q1,an (by omega),m]
   ·omega
   ·omega
   ·omega
   ·omega
  ·rw[b7,ad1];simp only[kb,L_,or_false]at m;rcases m with m|m
   ·have:G2.col b=2:=by
     rcases I b with h|h|h|h|h|h|h<;>omega
    simp[this]
   ·have D:=(B.one b (.inl m)).2
    have:G2.col b=G.col b:=by
     rcases I b with h|h|h|h|h|h|h<;>omega
    rw[this];rcases J b with h|⟨_,h⟩|h|h
    ·omega
    ·refine B_ _ (z_.2 ⟨(G.col b,1),?_,rfl⟩);simp[h]
    ·omega
    ·omega
  ·have D:=(B.one b (.inr m)).2;rcases J b with h|h|h|h
   ·omega
   ·omega
   ·omega
   ·rcases I b with h'|h'|h'|h'|h'|h'|h'<;>omega
 have c8:∀c,c∈j->Good U G c/\4<=c/\∀s,(c,s)∉bs:=by
  intro c hc;rw[b0]at hc;simp only[adK,z_,M',aeD,b_]at hc;obtain⟨⟨⟨c',k⟩,⟨D,l⟩,rfl⟩,h4⟩:=hc;have cp:∀s,(c',s)∉bs:=fun s h=>h4 (c',s) h rfl;rcases ao _ _ D with⟨rfl,_⟩|⟨_,_,h5,⟨h6,_⟩|⟨_,_,_,s,h6⟩⟩|⟨_,rfl⟩
  rotate_right
  ·simp at l
  ·simp at l
  ·exact⟨h6,h5,cp⟩
  ·exact absurd h6 (cp s)
 have ba:∀b,4<=O.col b->G.col b∈j\/∃s,(G.col b,s)∈bs:=by
  intro b m;rcases J b with h|⟨h,_⟩|⟨_,_,h,_⟩|⟨h,_⟩
  rotate_right
  ·omega
  ·omega
  ·omega
  ·by_cases av:∃s,(G.col b,s)∈bs
   ·exact .inr av
   ·left;rw[b0];simp only[adK,z_,M',aeD,b_];refine⟨⟨(G.col b,O.col b),⟨h,m⟩,rfl⟩,fun p B e=>av ⟨p.2,?_⟩⟩;rw[<-e];exact B
 obtain⟨K,a8⟩:=zW A (k0:=k0) (tk:=tk) (hs':=hs') (i0:=0) hg (fun i=>(hs i).1) (bf con.rs (bn con.ps) y k0 [2,1]).2.1 (dT con.rs k0) cl;have ct:=(oL (hs':=hs') (rhoT:=H) hg (fun c k h=>A5 hr h) (bf con.rs (bn con.ps) y k0 [2,1]).2.1 (tk+(dT con.rs k0-k0))).1;rw[ec,ed];generalize c9:db hs' con.ps (bf con.rs (bn con.ps) y k0 [2,1]).2.1 bs (tk+(dT con.rs k0-k0))=IO at K a8 ct|-
 have av:∀t s,(t,s)∈bs->∃v0,E.s.getD s .no= .box t v0:=by
  intro t s h;obtain⟨v2,l⟩:=a8 t s h;obtain⟨V,i,v1,p,Z,v0,_,_,_,q4,_⟩:=K t s v2 l;exact⟨v0,q4⟩
 have hK:=A.kill j;have hD:=hK.S4 IO
 have aB:∀s,(gy IO (E.kill j).s).getD s .no=(E.kill j).s.getD s .no\/(gy IO (E.kill j).s).getD s .no= .no:=by
  intro s;by_cases h:∃t v,(t,s,v)∈IO
  ·exact .inr (sj IO _ s h).1
  ·exact .inl (qo IO _ s (fun t v hh=>h ⟨t,v,hh⟩))
 have dd:∀s,∀c∈((gy IO (E.kill j).s).getD s .no).hc,c∉j++bs.map (·.1):=by
  intro s c hc x
  have de:(gy IO (E.kill j).s).getD s .no=(E.kill j).s.getD s .no:=by
   rcases aB s with h|h
   ·exact h
   ·rw[h]at hc;simp[SV.hc,SV.sc]at hc
  have dk:∀t v,(t,s,v)∉IO:=by
   intro t v h;have:=(sj IO (E.kill j).s s ⟨t,v,h⟩).1;rw[this]at hc;simp[SV.hc,SV.sc]at hc
  rw[de]at hc
  have b4:c∈((E.kill j).s.getD s .no).sc->False:=by
   intro h;rcases kT.1 x with l|l
   ·exact(Env.yU E j s c h).2 l
   ·simp only[z_]at l;obtain⟨⟨t,s2⟩,l,rfl⟩:=l;obtain⟨v0,h4⟩:=av t s2 l;have h5:=A.bt s2 t (by rw[h4];simp[SV.bt]);have h6:=hK.sc s t h;rw[h6.2.2]at h5;simp at h5
  cases F:(E.kill j).s.getD s .no with
  |box t v=>
   rw[F]at hc;rcases kb.1 hc with rfl|hc
   ·have h5:=hK.bt s c (by rw[F];simp[SV.bt]);rcases kT.1 x with l|l
    ·rw[(c8 c l).1.2.2]at h5;simp at h5
    ·simp only[z_]at l;obtain⟨⟨t,s2⟩,l,rfl⟩:=l;obtain⟨v2,h7⟩:=a8 t s2 l;obtain⟨v0,h4⟩:=av t s2 l
     have h8:∃v',E.s.getD s .no= .box t v':=by
      rw[Env.Al]at F;split at F
      ·exact⟨v,F⟩
      ·exact Ai F
     obtain⟨v',h8⟩:=h8;have:=A.uni s s2 t v' v0 h8 h4;subst this;exact dk t v2 h7
   ·exact b4 (by rw[F];exact hc)
  |_=>rw[F]at hc;exact b4 (by rw[F];exact hc)
 have b8:∀b,0<G.col b->G.col b∉j++bs.map (·.1)->w'.heap[b]?=w.heap[b]?/\G2.col b=G.col b:=by
  intro b m hn;have a6:=A.lt b m
  have D:O.col b<4:=by
   rcases Nat.lt_or_ge (O.col b) 4 with h|h
   ·exact h
   ·exfalso;rcases ba b h with h|⟨s,h⟩
    ·exact hn (ad4 _ h)
    ·exact hn (T2 _ (z_.2 ⟨_,h,rfl⟩))
  have hf:=B.frame b a6 D;refine⟨hf.2,?_⟩;have l:O.col b≠2:=by rcases J b with h|h|h|h<;>omega
  rcases I b with h|h|h|h|h|h|h<;>omega
 have bb:∀b,b<w0.heap.size->c0.col b<4->G2.col b=c0.col b/\w'.heap[b]?=w0.heap[b]?:=by
  intro b m hc;have hf:=A.frame b m hc;have a6:b<w.heap.size:=aeh m A.size;have D:O.col b<4/\O.col b≠2:=by rcases J b with h|h|h|h<;>omega
  have ds:=B.frame b a6 D.1;refine⟨?_,ds.2.trans hf.2⟩;rw[<-hf.1];rcases I b with h|h|h|h|h|h|h<;>omega
 have hC:=hD.change (U':=fun u=>U u\/(tk<=u/\u<tk+32)) (w':=w') (G':=G2) dd b8 (fun t ht=>⟨b2 t ht,S t ht⟩) (fun c hc=> .inl hc)
  (fun b m=>by
   rcases I b with h|⟨_,_,h,_⟩|h|⟨_,h⟩|⟨_,h⟩|⟨_,_,_,h⟩|h
   ·right;omega
   ·rw[h]at m|-;exact .inl (A.colU b m)
   ·omega
   ·rw[h];exact .inl A.two.1.1
   ·rw[h]at m|-;exact .inl (A.colU b m)
   ·rw[h]at m|-;exact .inl (A.colU b m)
   ·omega)
  (fun b m=>by
   rcases I b with h|h|h|h|h|h|h
   ·exact B.lt b (by omega)
   ·exact B.lt b (by omega)
   ·exact B.lt b (by omega)
   ·exact B.lt b (by omega)
   ·exact B.lt b (by omega)
   ·exact aeh h.2.1 B.size
   ·omega)
  (fun b m=>by
   rcases I b with h|h|h|h|h|h|h
   ·exact B.fresh b (by omega)
   ·exact B.fresh b (by omega)
   ·exact B.fresh b (by omega)
   ·omega
   ·have D:=B.one b h.1;rw[(B.frame b D.1 (by omega)).2];exact A.fresh b (by omega)
   ·rw[(B.frame b h.2.1 (by omega)).2];exact A.fresh b (by omega)
   ·omega)
  bb
  (fun b m=>by
   rcases I b with h|h|h|h|h|h|h<;>omega)
  B.size B.os B.tape B.output
 have T:((con.rs.any fun r=>r.pt.rK)=true\/A0 con.ps=true)->∀c∈hs',Good (fun u=>U u\/(tk<=u/\u<tk+32)) G2 c:=by
  intro c4 c hc
  have dz:Kb con.ps=false:=by
   simp only[O9,u_,aee,M',Bool.or_eq_false_iff]at bl;rcases bl.2 with h|⟨D,l⟩
   ·exact h
   ·rcases c4 with h|h
    ·rw[h]at D;cases D
    ·rw[h]at l;cases l
  rw[b7,ad1,kb]at hc;rcases hc with rfl|hc
  ·exact⟨by omega,.inl A.two.1.1,(S 2 A.two.1.1).trans A.two.1.2⟩
  ·simp only[z_,adK,b_]at hc;obtain⟨⟨c',k⟩,⟨D,l⟩,rfl⟩:=hc;simp only at l;subst l;rcases ao _ _ D with⟨_,q1,q2,q3⟩|h|h
   ·exact⟨q1,.inl q2,(S c' q2).trans (q3.resolve_right (by simp[dz]))⟩
   ·omega
   ·omega
 have cv:Good (fun u=>U u\/(tk<=u/\u<tk+32)) G2 3:=⟨by omega,.inl A.two.2.1,(S 3 A.two.2.1).trans A.two.2.2⟩
 have W:∀c∈jh con.rs tk,tk<=c/\c<tk+(dT con.rs k0-k0):=by
  intro c hc;have D:=tQ c hc;have l:=tK con.rs 0 tk;rw[ad8]at l;omega
 have b5:∀t s v,(t,s,v)∈IO->ck w' G2 (.box t v) (a.tmps.getD s undef)/\bg (fun u=>U u\/(tk<=u/\u<tk+32)) G2 (.box t v):=by
  rintro t s ⟨τ2,x2,sh2⟩ x;obtain⟨V,i,v1,p,Z,v0,q1,q2,q3,q4,q5,q6,q7,rfl,q9,eh⟩:=K t s _ x;simp only at q9;subst q9
  have cy:=B.ios V i ⟨τ2,x2,(aQ p Z [2,1]).1⟩ (by
   rw[hk,ee];rw[ad8]at q1;exact q1)
  obtain⟨bk,c,el,e1,e2,e3,e4,e5,e6⟩:=cy;have a7:=A.slots s;rw[q4]at a7;obtain⟨cc,c',el',f1,f2,f3,f4,_⟩:=a7;rw[q5,f3,f1]at e1;simp only[Value.pointer.injEq,adg,Addr.mk.injEq,and_true]at e1;subst e1;have ea:=eI V q3;rw[hk]at ea;have b9:=(A.bt s t (by rw[q4];simp[SV.bt])).2.1;have a6:=A.lt cc (by omega);refine⟨⟨cc,c,el,f1,f2,(b2 t b9).trans f3,?_,e5,?_⟩,fun d hd=> ?_,fun d hd=> ?_,by simp[SV.rt]⟩
  ·rw[<-N];simp only[qJ];rw[an (by omega),a_ (by omega),an a6];exact f4
  ·exact Hh b3 h3 (by omega) (by omega) e6
  ·rcases lM d hd with h|⟨D,l⟩|rfl
   ·exact T (.inr (eh h.2)) d h.1
   rotate_left
   ·exact cv
   ·have e7:aL p (tk+(Z-k0))=tk+(aL p Z-k0):=by
     rw[show tk+(Z-k0)=(Z-k0)+tk by omega,eR];have:=eR p (Z-k0) k0;rw[show Z-k0+k0=Z by omega]at this;have:=bD p Z;omega
    have h5:d<tk+32:=by omega
    refine⟨by omega,.inr ⟨by omega,h5⟩,?_⟩;rw[<-N];simp only[qJ];rw[an (by omega)];simp only[v_,d_];intro cf;have:=W d cf;omega
  ·simp only[SV.bt,adU]at hd;subst hd;have h:=A.bt s d (by rw[q4];simp[SV.bt]);exact⟨h.1,.inl h.2.1,(S d h.2.1).trans h.2.2⟩
 have eb:∀ {s t v},(E.kill j).s.getD s .no= .box t v->∃v',E.s.getD s .no= .box t v':=by
  intro s t v h;rw[Env.Al]at h;split at h
  ·exact⟨v,h⟩
  ·exact Ai h
 have hF:=hC.Vo IO b5 ct (fun t s v x s' u he=>by
  obtain⟨V,i,v1,p,Z,v0,_,_,_,q4,_⟩:=K t s v x
  have D:(E.kill j).s.getD s' .no= .box t u:=by
   rcases aB s' with h|h
   ·exact h.symm.trans he
   ·have:SV.no= .box t u:=h.symm.trans he;cases this
  obtain⟨v',l⟩:=eb D;have:=A.uni s' s t v' v0 l q4;subst this;have h3:SV.no= .box t u:=(sj IO (E.kill j).s s' ⟨t,v,x⟩).1.symm.trans he;cases h3)
 simp only[Ym]at hF;have cz:=eg b3 (by omega) vs (fun i=>by have:=B.res i;rw[hk]at this;exact this)
 have ca:∀u Y,(u,Y)∈ym E.rd bs IO con.kp->G2.hdr Y=G.hdr u/\4<=Y/\Good (fun u=>U u\/(tk<=u/\u<tk+32)) G2 Y:=by
  intro u Y hu;unfold ym at hu;simp only[aeC]at hu;obtain⟨q,hq,hu⟩:=hu;split at hu
  ·rename_i b z m hz;split at hu
   ·rename_i rr b6;split at hu
    ·rename_i a1 a2 e1 e2;simp only[adg,adk]at hu;obtain⟨rfl,rfl⟩:=hu;obtain⟨V,i,v0,v2,τ,g1,g2,g3,g4,g5,g6,g7⟩:=sr A (hs':=hs') (i0:=0) hg (fun i=>(hs i).1) (bf con.rs (bn con.ps) y k0 [2,1]).2.1 (tk+(dT con.rs k0-k0)) q.1 b.1 b.2 m;rw[c9]at g3;rw[hz]at g3;simp only[adg]at g3;subst g3;rw[g5]at b6;simp only[adg]at b6;subst b6;have cL:=adP hz;have cO:=b5 b.1 b.2 v2 cL;obtain⟨D,bk,c,el,f1,f2,f3,f4,f5⟩:=A.box g5;have a7:=A.slots b.2;rw[D]at a7;obtain⟨cc,ej,en,cd,k2',ep,k4',er,et⟩:=a7;obtain⟨ew,c1,ez,j1,j2,j3,j4,j5,j6⟩:=cO.1;rw[j1]at cd;simp only[Value.pointer.injEq,adg,Addr.mk.injEq,and_true]at cd;subst cd;have r1:=qM et e1;have r2:=qM j6 e2;have cb:=B.kept q hq V (0+i) τ g1 g2 ew ej en c1 ez (by rw[ad8,g7,ep,j1]) er j5;rw[g4]at r2;simp only[g6]at r1;rw[r1.1,r2.1]at cb;simp only[adg]at cb;exact⟨cb,r2.2.1,cO.2.1 _ r2.2.2⟩
    ·cases hu
   ·cases hu
  ·cases hu
 refine⟨G2,hF,?_,?_,fun t u he s Y ad=> ?_,ca,fun t s v x=> ?_⟩
 rotate_right
 ·obtain⟨V,i,v1,p,Z,v0,_,_,_,q4,_⟩:=K t s v x;exact⟨v0,q4⟩
 ·rw[B.val];exact W8 (by rw[B.len,ef]) cz
 ·refine Ud (fun sv F=> ?_);obtain⟨D,l,h4⟩:=c3 sv F;refine⟨fun c hc=> ?_,fun c hc=> ?_,by rw[h4];simp⟩
  ·rcases D c hc with(h|rfl)|⟨q1,q2,q3⟩
   ·exact T (.inl h.2) c h.1
   ·exact cv
   ·refine⟨by omega,.inr ⟨q1,by omega⟩,?_⟩;rw[<-N];simp only[qJ];rw[an (by omega)];simpa using q3
  ·have m:=W c (l c hc);refine⟨by omega,.inr ⟨m.1,by omega⟩,?_⟩;rw[<-N];simp only[qJ];rw[an (by omega)];simpa using l c hc
 ·have ht:t∈jh con.rs tk:=by
   rcases GM (bf con.rs (bn con.ps) y tk hs').1 with⟨sv,hL,e⟩|⟨_,⟨ts,_,e⟩|e⟩
   ·rw[e]at he;subst he;exact(c3 (.box t u) (by rw[hL];simp)).2.1 t (by simp[SV.bt])
   ·rw[e]at he;cases he
   ·rw[e]at he;cases he
  have m:=W t ht
  have b9:U t:=by
   rcases wa IO (E.kill j).s s with h|⟨t',v',D,l⟩
   ·rw[h]at ad;exact(hK.bt s t (by rw[ad];simp[SV.bt])).2.1
   ·rw[l]at ad;simp only[SV.box.injEq]at ad;obtain⟨V,i,v1,p,Z,v0,_,_,_,q4,_⟩:=K t' s v' D;rw[<-ad.1];exact(A.bt s t' (by rw[q4];simp[SV.bt])).2.1
  exact hU t m.1 (by omega) b9
theorem yh(s:Nat):∀(l:List (Nat×Nat×TV)) {L L':List SV},L.length=L'.length->(bK l L).getD s .no=(bK l L').getD s .no\/((bK l L).getD s .no=L.getD s .no/\(bK l L').getD s .no=L'.getD s .no)
 | [],_,_,_=> .inr ⟨rfl,rfl⟩
 |(t,s0,v)::l,L,L',hl=>by
  simp only[bK];rcases yh s l (L:=L.set s0 (.box t v)) (L':=L'.set s0 (.box t v)) (by simpa using hl)with h|⟨h1,h2⟩;exact .inl h;rw[h1,h2,dF,dF,hl];by_cases e:s=s0/\s0<L'.length;left;rw[an e,an e];right;rw[a_ e,a_ e];exact⟨rfl,rfl⟩
theorem tV(E:Env)(ts:List Nat)(b:List (Nat×Nat)):(E.cm ts b).s.length=E.s.length:=by
 unfold Env.cm;split;unfold Env.kill;split<;>simp;simp
theorem CS(E:Env)(ts:List Nat)(c:List (Nat×Nat))(s:Nat):(E.cm ts c).s.getD s .no=(E.kill ts).s.getD s .no\/
 ∃b d e i o p τ,E.s.getD s .no= .ept b e i o p τ/\c.lookup b=some d/\(E.cm ts c).s.getD s .no= .ept d e i o p τ:=by
 unfold Env.cm;split;exact .inl rfl;have j:SV.cm ts c .no= .no:=by simp only[SV.cm];split<;>rfl
 simp only[getD_map j]
 have k:(E.kill ts).s.getD s .no=if ts.isEmpty then E.s.getD s .no else(E.s.getD s .no).kill ts:=by
  unfold Env.kill;split;rfl;exact getD_map (T:=SV.kill ts) rfl s
 rw[k];cases hs:E.s.getD s .no with
 |ept b e i o p τ=>
  cases h:c.lookup b with
  |none=>left;simp only[SV.cm,h]
  |some d=>right;exact⟨b,d,e,i,o,p,τ,rfl,h,by simp only[SV.cm,h]⟩
 |_=>left;simp only[SV.cm]
theorem Inv.upd{q:Env}(p:Inv w0 c0 U E a w G)(I:q.s.length=E.s.length)(hk:q.kp=E.kp)
 (h:∀s,q.s.getD s .no=E.s.getD s .no\/(ck w G (q.s.getD s .no) (a.tmps.getD s undef)/\bg U G (q.s.getD s .no)/\∀t v,q.s.getD s .no≠ .box t v)):Inv w0 c0 U q a w G:=by
 refine {p with len:=p.len.trans I.symm,slots:=fun s=> ?_,sc:=fun s=> ?_,bt:=fun s=> ?_,rt:=fun s=> ?_,uni:=fun s D t u H y z=> ?_,hk:=by rw[hk];exact p.hk};rcases h s with h|h;rw[h];exact p.slots s;exact h.1;rcases h s with h|h;rw[h];exact p.sc s;exact h.2.1.1;rcases h s with h|h;rw[h];exact p.bt s;exact h.2.1.2.1;rcases h s with h|h;rw[h];exact p.rt s;exact h.2.1.2.2;rcases h s with A|A;rcases h D with B|B;rw[A]at y;rw[B]at z;exact p.uni s D t u H y z;exact absurd z (B.2.2 t H);exact absurd y (A.2.2 t u)
theorem SL(E:Env)(ts:List Nat):(E.kill ts).kp=E.kp:=by unfold Env.kill;split<;>rfl
theorem Xj(E:Env)(ts:List Nat)(b:List (Nat×Nat)):(E.cm ts b).kp=E.kp:=by
 unfold Env.cm;split;exact SL E ts;rfl
theorem Inv.rep{z:C0}{A:World}{U':Nat->Prop}{w':World}{G2:Gh}{ts:List Nat}{q:List (Nat×Nat)}{IO:List (Nat×Nat×TV)}
 (I:Inv w0 c0 U' {E.kill ts with s:=bK IO (E.kill ts).s} a w' G2) (J:Inv A z U E a w G)
 (B:∀u y,(u,y)∈q->G2.hdr y=G.hdr u/\4<=y/\Good U' G2 y):
 Inv w0 c0 U' {E.cm ts q with s:=bK IO (E.cm ts q).s} a w' G2:=by
 have D:(E.cm ts q).s.length=(E.kill ts).s.length:=by rw[tV];unfold Env.kill;split<;>simp
 refine I.upd (by show(bK IO (E.cm ts q).s).length=(bK IO (E.kill ts).s).length;rw[mb,mb,D]) (by show(E.cm ts q).kp=(E.kill ts).kp;rw[SL,Xj]) (fun s=> ?_);show(bK IO (E.cm ts q).s).getD s .no=(bK IO (E.kill ts).s).getD s .no\/_;rcases yh s IO D with h|⟨H,W⟩;exact .inl h;rcases CS E ts q s with h|⟨b,Y,e,i,o,p,τ,Z,h4,h5⟩;left;rw[H,W,h];right;show ck w' G2 ((bK IO (E.cm ts q).s).getD s .no) _/\bg U' G2 ((bK IO (E.cm ts q).s).getD s .no)/\∀t v,(bK IO (E.cm ts q).s).getD s .no≠ .box t v;rw[H,h5];have hs:=J.slots s;rw[Z]at hs;obtain⟨K,off,n,cap,k1,N,O,S,V⟩:=hs;obtain⟨g1,g2,g3⟩:=B b Y (gK h4);exact⟨⟨K,off,n,cap,g2,g1.trans N,O,S,V⟩,⟨by simp[SV.sc],by simp[SV.bt],by simp only[SV.rt,adU];rintro c rfl;exact g3⟩,by simp⟩
end
def Enters(P:Program)(r:Result Next)(R:Value->World->Prop):Prop:=
 match r with
 | .ok (.enter f args) w1=>Calls P f args w1 (fun e w'=>∃v,e= .returned v/\R v w')
 | .ok (.value v) w1=>R v w1
 |_=>False
theorem Enters.mono{P:Program}{r:Result Next}{R R':Value->World->Prop}(h:Enters P r R)(u:∀v w,R v w->R' v w):Enters P r R':=by
 unfold Enters at*
 split;rename_i f args w1;exact Calls.mono h (fun e w' ⟨v,p,q⟩=>⟨v,p,u v w' q⟩);exact u _ _ h;rename_i p q;split at h;exact p _ _ _ rfl;exact q _ _ rfl;exact h
structure mR(P:Program)(C:Cx):Prop extends CxTy P C where
 ct:∀f con,C.ct f=some con->mz P f con
 mixed:P.follows .mixedOrders=true
section
variable{P:Program}{C:Cx}{w0:World}{c0:C0}{U:Nat->Prop}{E:Env}{a:Act}{w:World}{G:Gh}{ops:List Oper}{g:Option (Nat×Bool)}
theorem SX(b:Inv w0 c0 U E a w G)(c:RI ops E a.tmps)(d:Gd ops a.tmps g):∀ {xs:List Operand} {ts:List TypeId} {as:List SV},nX C E.rd g xs ts=some as->
 as.length=xs.length/\∀i,ck w G (as.getD i .no) ((xs.map a.eval).getD i undef)/\bg U G (as.getD i .no)
 | [],[],as,h=>by
   simp only[nX,adg]at h;subst h;exact⟨rfl,fun i=>⟨trivial,by simp[bg,SV.sc,SV.bt,SV.rt]⟩⟩
 |x::xs,t::ts,as,h=>by
  simp only[nX]at h;split at h;rename_i v vs e j;cases h;obtain⟨g1,g2⟩:=SX b c d j;refine⟨by simp[g1],fun i=> ?_⟩;cases i with
  |zero=>simpa using fK b c d e
  |succ i=>simpa using g2 i
  cases h
 | [],_::_,_,h|_::_,[],_,h=>by simp[nX]at h
def M6(P:Program)(w0:World)(c0:C0)(U:Nat->Prop)(E:Env)(a:Act)(r:Result Next):Ef->Prop
 | .val v=>Yields w0 c0 U E a r v
 | .chk c v=>c=true->Yields w0 c0 U E a r v
 | .put b s v=>∃w' G',r= .ok .skip w'/\Inv w0 c0 U {E with s:=E.s.set s (.box b v)} a w' G'
 | .app c kl gv t v=>c=true->Yields w0 c0 U ((E.kill kl).aO gv t) a r v
 | .elem gv b e l m=>∃w' G',r= .ok .skip w'/\Inv w0 c0 U (E.elem gv b e l m) a w' G'
 | .nap c gv b e l m v=>c=true->Yields w0 c0 U (E.elem gv b e l m) a r v\/(v= .no/\∃w' G',r= .ok .skip w'/\Inv w0 c0 U (E.elem gv b e l m) a w' G')
 | .opt _ _ x f=>∀y,x=some y->Enters P r (fun mv w'=>∃G',Inv w0 c0 U E a w' G'/\ck w' G' (f y) mv/\bg U G' (f y)/\(∀t u,f y= .box t u->∀s d,E.s.getD s .no≠ .box t d))
 | .call _ x tks f rp=>∀y,x=some y->Enters P r (fun mv w'=>∃G',Inv w0 c0 U {E.cm tks (rp y)with s:=bK (f y).2 (E.cm tks (rp y)).s} a w' G'/\ck w' G' (f y).1 mv/\bg U G' (f y).1/\
  (∀t u,(f y).1= .box t u->∀s d,(bK (f y).2 (E.cm tks (rp y)).s).getD s .no≠ .box t d))
theorem M6.Vq{r:Result Next}{p:Ef}(h:lg w0 c0 U E a r p):M6 P w0 c0 U E a r p:=by
 cases p<;>first|exact h|exact h.elim
theorem Ed(hs:List Nat):∀(ps:List PK) (r:aW (bn ps)) (k:Nat),db hs ps r [] k=[]
 | [],_,_=>rfl
 | .val _ _::ps,r,k=>Ed hs ps r k
 | .io _ _::_,_,_=>rfl
 | .rd _::ps,r,k| .vx _ _::ps,r,k=>Ed hs ps r k
theorem Zg(hC:mR P C)(N:Inv w0 c0 U E a w G)(hR:RI ops E a.tmps)(hg:Gd ops a.tmps g){tk:Nat}(Y:4<=tk)(hU:∀u,tk<=u->u<tk+32->¬U u){o:Oper}{c:Call}{f:FuncId}{Z:Ef}
 (ho:o.op= .call c) (hb:c.callee= .value (.func f)) (h:bj C ops E.rd tk g o=some Z):
 M6 P w0 c0 (fun u=>U u\/(tk<=u/\u<tk+32)) E a ((execOp a.eval o).run P w) Z:=by
 have H:(execOp a.eval o).run P w=(callFunc f (c.args.toList.map a.eval).toArray).run P w:=by
  have e:(c.args.toList.map a.eval).toArray=c.args.map a.eval:=aeL (by simp);rw[e];simp only[execOp,ho];simp[resolve,hb,Deferred.ofValue,Act.eval,invoke]
 simp only[bj,ho,hb]at h;unfold CI at h;split at h;cases h;rename_i d O;have hM:=hC.ct f d O;split at h;cases h;rename_i as has;obtain⟨hlen,l⟩:=SX N hR hg has;split at h;cases h;rename_i xs j q B;split at h;rename_i k;simp only[u_,b_]at k;obtain⟨⟨hr,Y5⟩,m⟩:=k
 obtain⟨G1,I,T⟩:=abd N B l (by simp[hlen]) hr (fun c hc=>by
  simp only[O9,u_,G6,b_,M',v_,d_]at m;have:=m.1 c hc;exact⟨this.1.1,this.1.2,this.2⟩)
 have key:∀y,d.F xs=some y->Enters P ((execOp a.eval o).run P w) (fun K w'=>∃G2,
  Inv w0 c0 (fun u=>U u\/(tk<=u/\u<tk+32)) {E.kill (((j.filter (4<=·.2)).map (·.1)).filter fun c=> !q.any (·.1=c))with
   s:=bK (db (2::(j.filter (·.2=1)).map (·.1)).eraseDups d.ps (bf d.rs (bn d.ps) y tk (2::(j.filter (·.2=1)).map (·.1)).eraseDups).2.1 q (bf d.rs (bn d.ps) y tk (2::(j.filter (·.2=1)).map (·.1)).eraseDups).2.2) (E.kill (((j.filter (4<=·.2)).map (·.1)).filter fun c=> !q.any (·.1=c))).s} a w' G2/\
  ck w' G2 (mU (bf d.rs (bn d.ps) y tk (2::(j.filter (·.2=1)).map (·.1)).eraseDups).1) K/\bg (fun u=>U u\/(tk<=u/\u<tk+32)) G2 (mU (bf d.rs (bn d.ps) y tk (2::(j.filter (·.2=1)).map (·.1)).eraseDups).1)/\
  (∀t u,mU (bf d.rs (bn d.ps) y tk (2::(j.filter (·.2=1)).map (·.1)).eraseDups).1= .box t u->∀s r,
   (bK (db (2::(j.filter (·.2=1)).map (·.1)).eraseDups d.ps (bf d.rs (bn d.ps) y tk (2::(j.filter (·.2=1)).map (·.1)).eraseDups).2.1 q (bf d.rs (bn d.ps) y tk (2::(j.filter (·.2=1)).map (·.1)).eraseDups).2.2) (E.kill (((j.filter (4<=·.2)).map (·.1)).filter fun c=> !q.any (·.1=c))).s).getD s .no≠ .box t r)/\
  (∀u r,(u,r)∈ym E.rd q (db (2::(j.filter (·.2=1)).map (·.1)).eraseDups d.ps (bf d.rs (bn d.ps) y tk (2::(j.filter (·.2=1)).map (·.1)).eraseDups).2.1 q (bf d.rs (bn d.ps) y tk (2::(j.filter (·.2=1)).map (·.1)).eraseDups).2.2) d.kp->
   G2.hdr r=G.hdr u/\4<=r/\Good (fun u=>U u\/(tk<=u/\u<tk+32)) G2 r)/\
  (∀t s v,(t,s,v)∈db (2::(j.filter (·.2=1)).map (·.1)).eraseDups d.ps (bf d.rs (bn d.ps) y tk (2::(j.filter (·.2=1)).map (·.1)).eraseDups).2.1 q (bf d.rs (bn d.ps) y tk (2::(j.filter (·.2=1)).map (·.1)).eraseDups).2.2->∃v0,E.s.getD s .no= .box t v0)):=by
  intro y D;rw[H];have:=hM w G1 (c.args.toList.map a.eval) xs y D I;exact Enters.mono (show Enters P _ _ from this) (fun K w' ⟨G',vs,nt,hp⟩=>aak N m B l hr T hp Y hU Y5 rfl rfl)
 simp only at h;split at h;rename_i x;cases h;simp only[u_,List.isEmpty_iff]at x;obtain⟨e1,e2⟩:=x;intro y D;refine(key y D).mono (fun K w' S=> ?_);obtain⟨G2,J,V,W,A,_⟩:=S;rw[e2]at J A;subst e1;simp only[Ed,bK,Env.kill,List.isEmpty_nil,if_true]at J A;exact⟨G2,J,V,W,A⟩;cases h;intro y D;refine(key y D).mono (fun K w' S=> ?_);obtain⟨G2,J,V,W,A,k5,k6⟩:=S;refine⟨G2,J.rep N k5,V,W,fun t u he s r z=> ?_⟩
 have hl:(E.cm (((j.filter (4<=·.2)).map (·.1)).filter fun c=> !q.any (·.1=c)) (ym E.rd q (db (2::(j.filter (·.2=1)).map (·.1)).eraseDups d.ps (bf d.rs (bn d.ps) y tk (2::(j.filter (·.2=1)).map (·.1)).eraseDups).2.1 q (bf d.rs (bn d.ps) y tk (2::(j.filter (·.2=1)).map (·.1)).eraseDups).2.2) d.kp)).s.length=(E.kill (((j.filter (4<=·.2)).map (·.1)).filter fun c=> !q.any (·.1=c))).s.length:=by
  rw[tV];unfold Env.kill;split<;>simp
 rcases yh s (db (2::(j.filter (·.2=1)).map (·.1)).eraseDups d.ps (bf d.rs (bn d.ps) y tk (2::(j.filter (·.2=1)).map (·.1)).eraseDups).2.1 q (bf d.rs (bn d.ps) y tk (2::(j.filter (·.2=1)).map (·.1)).eraseDups).2.2) hl with h|⟨h1,h2⟩;exact A t u he s r (h.symm.trans z);rcases CS E (((j.filter (4<=·.2)).map (·.1)).filter fun c=> !q.any (·.1=c)) (ym E.rd q (db (2::(j.filter (·.2=1)).map (·.1)).eraseDups d.ps (bf d.rs (bn d.ps) y tk (2::(j.filter (·.2=1)).map (·.1)).eraseDups).2.1 q (bf d.rs (bn d.ps) y tk (2::(j.filter (·.2=1)).map (·.1)).eraseDups).2.2) d.kp) s with h|⟨b,b',e,i,o,p,τ,Y,h4,h5⟩;exact A t u he s r (h2.trans (h.symm.trans (h1.symm.trans z)));have:=h5.symm.trans (h1.symm.trans z);cases this;cases h
theorem Pr(Z:mR P C)(q:Inv w0 c0 U E a w G)(A:RI ops E a.tmps)(B:Gd ops a.tmps g){tk:Nat}(I:4<=tk)(hU:∀u,tk<=u->u<tk+32->¬U u){o:Oper}{H:Ef}
 (h:bj C ops E.rd tk g o=some H):M6 P w0 c0 (fun u=>U u\/(tk<=u/\u<tk+32)) E a ((execOp a.eval o).run P w) H:=by
 have i:=Z.toCxTy;have m0:lg w0 c0 U E a ((execOp a.eval o).run P w) H->M6 P w0 c0 (fun u=>U u\/(tk<=u/\u<tk+32)) E a ((execOp a.eval o).run P w) H:=fun h=> .Vq (h.mono fun u hu=> .inl hu)
 have m1:lg w0 c0 (fun u=>U u\/u=tk) E a ((execOp a.eval o).run P w) H->M6 P w0 c0 (fun u=>U u\/(tk<=u/\u<tk+32)) E a ((execOp a.eval o).run P w) H:=
  fun h=> .Vq (h.mono fun u hu=>hu.imp id fun e=>by omega)
 have D:=hU tk (po _) (by omega);cases k:o.op with
 |move x=>
  have p:=h;simp only[bj,k,E_]at p;obtain⟨sv,hs,rfl⟩:=p;exact m0 (S2 q A B hs (by simp[execOp,k]))
 |assign x=>
  have p:=h;simp only[bj,k,E_]at p;obtain⟨sv,hs,rfl⟩:=p;exact m0 (S2 q A B hs (by simp[execOp,k]))
 |pick c x y=>exact m0 (Zf q A B k h)
 |alloc t=>exact m1 (Yy i q I D k h)
 |box t x=>exact m1 (aao q A B I D k h)
 |build t ps=>exact m0 (aas i q A B k h)
 |buildSlice t n ps=>exact m1 (NW i q A B I D k h)
 |load t x=>exact m0 (ZA i q A B k h)
 |nilCheck x=>exact m0 (R4 q A B k h)
 |binOp op t x y u=>exact m0 (aa0 i q A B k h)
 |unOp op t x=>exact m0 (abr q A B k h)
 |convert s d x=>exact m0 (ZQ i q A B k h)
 |makeSlice t n c=>exact m1 (Q9 i q A B I D k h)
 |slice t x lo hi mx=>exact m0 (Yg i q A B k h)
 |fieldAddr s x j=>exact m0 (Qo i q A B k h)
 |field s x j=>exact m0 (Yd i q A B k h)
 |indexAddr t x n=>exact m0 (Px i q A B k h)
 |index t x n=>exact m0 (YC i q A B k h)
 |extract x j=>exact m0 (Uu q A B k h)
 |store t x y=>
  have key:∀e,bj C ops E.rd tk g o=some e->(∃b s v,e= .put b s v)\/∃K b V l m,e= .elem K b V l m:=by
   intro e he;simp only[bj,k]at he;split at he;split at he;obtain⟨r,_,rfl⟩:=E_.mp (Option.ite_none_right_eq_some.mp he).2;exact .inl ⟨_,_,_,rfl⟩;cases he;split at he;obtain⟨_,he⟩:=Option.ite_none_right_eq_some.mp he;obtain⟨_,he⟩:=Option.ite_none_left_eq_some.mp he;obtain⟨r,_,rfl⟩:=E_.mp he;exact .inr ⟨_,_,_,_,_,rfl⟩;cases he;cases he
  rcases key _ h with⟨b,s,v,rfl⟩|⟨K,b,V,l,m,rfl⟩;obtain⟨w',S,T⟩:=aaA i q A B k h;exact⟨w',G,S,T.mono fun u hu=> .inl hu⟩;obtain⟨w',G',S,T⟩:=ZJ i q A B k h;exact⟨w',G',S,T.mono fun u hu=> .inl hu⟩
 |call c=>
  cases J:c.callee with
  |builtin b=>
   by_cases F:∃W Y K t v,H= .app W Y K t v;obtain⟨W,Y,K,t,v,rfl⟩:=F
   have O:b= .append:=by
    have p:=h;simp only[bj,k,J]at p;unfold n9 at p;split at p;exfalso;split at p;cases p;split at p;split at p<;>cases p;split at p<;>cases p;cases p;exfalso;split at p;split at p<;>cases p;cases p;exfalso;split at p;split at p<;>cases p;cases p;rfl;cases p
   subst O;intro N;obtain⟨rfl,hy⟩:=abc i q A B I D k J h N;exact hy.mono fun u hu=>hu.imp id fun e=>by omega
   exact m0 (aaW i q A B k J (fun x y z u v e=>F ⟨x,y,z,u,v,e⟩) h)
  |value x=>
   cases x with
   |func f=>exact Zg Z q A B I hU k J h
   |_=>simp[bj,k,J]at h
  |invoke r m=>simp[bj,k,J]at h
 |_=>simp[bj,k]at h
end
theorem aN.BS{α:Type}{R R':α->List Value->List Nat->Prop}{sz:Nat}(v:∀x c B,R x c B->c.length=sz)(p:∀x c B,R' x c B->c.length=sz)
 (z:∀x u c B B',R x c B->R' u c B'->x=u):∀ {l q:List α} {cs:List Value} {B B':List Nat},aN R l cs B->aN R' q cs B'->l.length=q.length->l=q
 | [],[],_,_,_,_,_,_=>rfl
 |x::l,y::q,cs,B,B',h,h',hn=>by
  obtain⟨I,c2,B1,B2,rfl,rfl,A,J⟩:=h;obtain⟨d1,d2,D1,D2,he,rfl,D,K⟩:=h';have H:I.length=d1.length:=by rw[v _ _ _ A,p _ _ _ D]
  obtain⟨rfl,rfl⟩:=aeM he H;rw[z _ _ _ _ _ A D,aN.BS v p z J K (by simpa using hn)]
 | [],_::_,_,_,_,_,_,hn|_::_,[],_,_,_,_,_,hn=>by simp at hn
theorem aK.BS{w:World}:∀ {τ:Ty} {x u:τ.den} {cs:List Value} {B B':List Nat},aK w τ x cs B->aK w τ u cs B'->x=u
 | .int _,x,u,cs,_,_,h,p=>by have:=h.1.symm.trans p.1;simpa using this
 | .bool,x,u,cs,_,_,h,p=>by have:=h.1.symm.trans p.1;simpa using this
 | .str,x,u,cs,_,_,h,p=>by have:=h.1.symm.trans p.1;simpa using this
 | .pair a b,x,u,cs,_,_,h,p=>by
   obtain⟨c1,c2,B1,B2,rfl,rfl,I,O⟩:=h;obtain⟨d1,d2,D1,D2,he,rfl,J,S⟩:=p;obtain⟨rfl,rfl⟩:=aeM he (by rw[aK.len I,aK.len J]);exact aeQ (aK.BS I J) (aK.BS O S)
 | .sl e,l,l',cs,_,_,h,p=>by
   obtain⟨v,rfl,h⟩:=h;obtain⟨v',K,p⟩:=p;simp only[aeN,and_true]at K;subst K;rcases h with⟨⟨ao,H⟩,z,_⟩|⟨b,off,cap,c,el,fz,Bs,H,hcap,V,hsz,_,W⟩<;>rcases p with⟨⟨ao',q⟩,A,_⟩|⟨b',off',cap',c',el',fz',Bs',q,hcap',y,hsz',_,D⟩;rw[z,A];rw[H]at q;simp only[Value.slice.injEq]at q;rw[z,aea.1 q.2.1.symm];rw[H]at q;simp only[Value.slice.injEq]at q;rw[A,aea.1 q.2.1];rw[H]at q;simp only[Value.slice.injEq,adg,Addr.mk.injEq,and_true]at q;obtain⟨⟨rfl,rfl⟩,N,rfl⟩:=q;rw[V]at y;simp only[adg,Obj.cells.injEq]at y;obtain⟨rfl,_,_⟩:=y;rw[<-N]at D;exact aN.BS (sz:=e.sz) (fun x c B h=>aK.len h) (fun x c B h=>aK.len h) (fun x u c B B' h p=>aK.BS h p) W D N
theorem K5(τ:Ty):τ.sub []=some τ:=by cases τ<;>rfl
theorem yG(τ:Ty):τ.off []=0:=by cases τ<;>rfl
theorem aK.place{w:World}:∀ {p:List Bool} {τ σ:Ty} {x:τ.den} {cs:List Value} {B:List Nat},aK w τ x cs B->τ.sub p=some σ->
 ∃(f:σ.den->τ.den) (z:σ.den) (A Bo D:List Nat),f z=x/\B=A++Bo++D/\aK w σ z ((cs.drop (τ.off p)).take σ.sz) Bo/\τ.off p+σ.sz<=τ.sz/\
  ∀(w':World) (u:σ.den) (v:List Value) (B':List Nat),(∀k∈A++D,w'.heap[k]?=w.heap[k]?)->aK w' σ u v B'->aK w' τ (f u) (df (τ.off p) v cs) (A++B'++D)
 | [],τ,σ,x,cs,B,h,hs=>by
   rw[K5]at hs;cases hs;have I:=aK.len h;refine⟨id,x,[],B,[],rfl,by simp,?_,by rw[yG];omega,fun w' u v B' _ y=> ?_⟩;rw[yG,aef,adL (by omega)];exact h;rw[yG];unfold df;rw[aeO,aed,ad8,adM (by rw[I,aK.len y];exact po _),aeu];simpa using y
 |false::p,.pair a b,σ,x,cs,B,h,hs=>by
  obtain⟨K,V,N,O,rfl,rfl,J,S⟩:=h;simp only[Ty.sub]at hs;obtain⟨f,z,A,Bo,D,q1,rfl,q3,q4,q5⟩:=aK.place J hs;have I:=aK.len J;refine⟨fun u=>(f u,x.2),z,A,Bo,D++O,aeQ q1 rfl,by simp,?_,by simp only[Ty.off,Ty.sz];omega,fun w' u v B' H y=> ?_⟩;simp only[Ty.off];rw[adA (by omega),adG (by simp;omega)];exact q3;have hlz:=aK.len y;refine⟨_,V,_,O,?_,by simp,q5 w' u v B' (fun k q=>H k (by simp only[kT]at q|-;rcases q with h|h<;>simp[h])) y,aK.mono (fun k q=>H k (by simp[q])) S⟩;simp only[Ty.off,df];rw[adG (by omega),adA (by omega)];simp
 |true::p,.pair a b,σ,x,cs,B,h,hs=>by
  obtain⟨K,V,N,O,rfl,rfl,J,S⟩:=h;simp only[Ty.sub]at hs;obtain⟨f,z,A,Bo,D,q1,rfl,q3,q4,q5⟩:=aK.place S hs;have I:=aK.len J;refine⟨fun u=>(x.1,f u),z,N++A,Bo,D,aeQ rfl q1,by simp,?_,by simp only[Ty.off,Ty.sz];omega,fun w' u v B' H y=> ?_⟩;simp only[Ty.off];rw[<-I,aeb,adM (by omega),aed,show K.length+b.off p-K.length=b.off p by omega];exact q3;refine⟨K,_,N,_,?_,by simp,aK.mono (fun k q=>H k (by simp[q])) J,q5 w' u v B' (fun k q=>H k (by simp only[kT]at q|-;rcases q with h|h<;>simp[h])) y⟩;simp only[Ty.off,df];rw[<-I,aeo,adL (by omega),aeb,adM (by omega)];simp[aej]
 |b::p,.int _,_,_,_,_,_,hs|b::p,.bool,_,_,_,_,_,hs|b::p,.str,_,_,_,_,_,hs|b::p,.sl _,_,_,_,_,_,hs=>by simp[Ty.sub]at hs
theorem aN.Vm{e:Ty}{w w':World}{l:List e.den}{cs:List Value}{B:List Nat}(p:∀b∈B,w'.heap[b]?=w.heap[b]?)(h:aN (aK w e) l cs B):aN (aK w' e) l cs B:=aN.world p h
theorem yY:∀ {p:List Bool} {τ σ:Ty},τ.sub p=some σ->τ.off p+σ.sz<=τ.sz
 | [],τ,σ,h=>by rw[K5]at h;cases h;rw[yG];omega
 |false::p,.pair a b,σ,h=>by have:=yY (τ:=a) h;simp only[Ty.off,Ty.sz];omega
 |true::p,.pair a b,σ,h=>by have:=yY (τ:=b) h;simp only[Ty.off,Ty.sz];omega
 |b::p,.int _,_,hs|b::p,.bool,_,hs|b::p,.str,_,hs|b::p,.sl _,_,hs=>by simp[Ty.sub]at hs
theorem Bm:∀ {p:List Bool} {τ:Ty} {x:τ.den} {sh:Sh} {r:TV},fm τ x sh p=some r->τ.sub p=some r.τ
 | [],τ,x,sh,r,h=>by
   have:r=⟨τ,x,sh⟩:=by cases τ<;>(simp only[fm,adg]at h;exact h.symm)
   rw[K5,this]
 |false::p,.pair a b,x,.pair s1 s2,r,h=>by simp only[fm]at h;simp only[Ty.sub];exact Bm h
 |true::p,.pair a b,x,.pair s1 s2,r,h=>by simp only[fm]at h;simp only[Ty.sub];exact Bm h
 |b::p,.int _,_,_,_,h|b::p,.bool,_,_,_,h|b::p,.str,_,_,_,h|b::p,.sl _,_,_,_,h=>by simp[fm]at h
 |b::p,.pair _ _,_,.leaf,_,h|b::p,.pair _ _,_,.sl _,_,h=>by cases b<;>simp[fm]at h
theorem FO{w:World}:∀ {p:List Bool} {τ:Ty} {x:τ.den} {sh:Sh} {r:TV} {cs:List Value} {B:List Nat},fm τ x sh p=some r->aK w τ x cs B->
 ∃B',aK w r.τ r.x ((cs.drop (τ.off p)).take r.τ.sz) B'
 | [],τ,x,sh,r,cs,B,h,hr=>by
   have:r=⟨τ,x,sh⟩:=by cases τ<;>(simp only[fm,adg]at h;exact h.symm)
   subst this;rw[yG,aef,adL (by rw[aK.len hr];exact po _)];exact⟨B,hr⟩
 |false::p,.pair a b,x,.pair s1 s2,r,cs,B,h,hr=>by
  obtain⟨d,k,l,m,rfl,rfl,c,j⟩:=hr;simp only[fm]at h;obtain⟨B',e⟩:=FO h c;have hso:=yY (Bm h);have i:=aK.len c;refine⟨B',?_⟩;simp only[Ty.off];rw[adA (by omega),adG (by simp;omega)];exact e
 |true::p,.pair a b,x,.pair s1 s2,r,cs,B,h,hr=>by
  obtain⟨d,k,l,m,rfl,rfl,c,j⟩:=hr;simp only[fm]at h;obtain⟨B',e⟩:=FO h j;have i:=aK.len c;refine⟨B',?_⟩;simp only[Ty.off];rw[<-i,aeb,adM (by omega),aed,show d.length+b.off p-d.length=b.off p by omega];exact e
 |b::p,.int _,_,_,_,_,_,h,_|b::p,.bool,_,_,_,_,_,h,_|b::p,.str,_,_,_,_,_,h,_|b::p,.sl _,_,_,_,_,_,h,_=>by simp[fm]at h
 |b::p,.pair _ _,_,.leaf,_,_,_,h,_|b::p,.pair _ _,_,.sl _,_,_,_,h,_=>by cases b<;>simp[fm]at h
theorem aN.place{w:World}{τ σ:Ty}{l:List τ.den}{cs:List Value}{B:List Nat}(h:aN (aK w τ) l cs B){i:Nat}(hi:i<l.length){p:List Bool}(hs:τ.sub p=some σ):
 ∃(f:σ.den->List τ.den) (z:σ.den) (v Bo y:List Nat),f z=l/\B=v++Bo++y/\aK w σ z ((cs.drop (i*τ.sz+τ.off p)).take σ.sz) Bo/\i*τ.sz+τ.off p+σ.sz<=l.length*τ.sz/\(∀u,(f u).length=l.length)/\
  ∀(w':World) (u:σ.den) (D:List Value) (B':List Nat),(∀k∈v++y,w'.heap[k]?=w.heap[k]?)->aK w' σ u D B'->aN (aK w' τ) (f u) (df (i*τ.sz+τ.off p) D cs) (v++B'++y):=by
 have K:l[i]?=some l[i]:=T1 hi;obtain⟨N,Bx,O,rfl,S,V,W⟩:=aN.get (sz:=τ.sz) (fun x c B h=>aK.len h) h K;obtain⟨f,z,v,Bo,y,q1,rfl,q3,q4,q5⟩:=aK.place S hs;have hl:=aN.len (sz:=τ.sz) (fun x c B h=>aK.len h) h;have hmul:(i+1)*τ.sz<=l.length*τ.sz:=adE _ hi;rw[U_,ad5]at hmul;refine⟨fun u=>l.set i (f u),z,N++v,Bo,y++O,by show l.set i (f z)=l;rw[q1];simp,by simp,?_,by omega,fun u=>by simp,fun w' u D B' H J=> ?_⟩;rw[T',adS,adR,adO (by omega)]at q3;exact q3;have I:=q5 w' u D B' (fun k q=>H k (by simp only[kT]at q|-;rcases q with h|h<;>simp[h])) J;have A:=aN.set (sz:=τ.sz) (l:=l) (cs:=cs) hi I (aN.Vm (fun k q=>H k (by simp[q])) V) (aN.Vm (fun k q=>H k (by simp[q])) W);rw[tv (sz:=τ.sz) (by have:=aK.len J;omega),show i*τ.sz+τ.sz=(i+1)*τ.sz by rw[U_,ad5]];simpa[T_]using A
section
variable{P:Program}{C:Cx}{w0:World}{c0:C0}{U:Nat->Prop}{E:Env}{a:Act}{w:World}{G:Gh}{ops:List Oper}{g:Option (Nat×Bool)}
theorem Inv.abt(p:Inv w0 c0 U E a w G){tk:Nat}(y:¬U tk):Inv w0 c0 (fun u=>U u\/u=tk) E a w {G with bx:=fun u=>if u=tk then false else G.bx u}:=by
 refine p.change (ts:=[]) (fun _ _ _=>by simp) (fun b _ _=>⟨rfl,rfl⟩) (fun t q=>⟨rfl,a_ (fun e:t=tk=>y (e▸q))⟩) (fun _ h=> .inl h) (fun b v=> .inl (p.colU b v)) p.lt p.fresh p.frame (fun _ _=>rfl) (po _) rfl rfl rfl
theorem Inv.YX(J:Inv w0 c0 U E a w G){ts:List Nat}{b:Nat}{e:Ty}{l:List e.den}{m:M}{w':World}(p:4<=b)(z:∀c∈ts,4<=c/\Good U G c)(I:Good U G b)(hm:∀c∈m.ar,Good U G c)
 (q:bV w' (G.aO ts b (G.hdr b)) e l (G.hdr b) m) (A:∀k,(G.aO ts b (G.hdr b)).col k≠b->w'.heap[k]?=w.heap[k]?)
 (B:∀k,(G.aO ts b (G.hdr b)).col k=b->∃c el,w'.heap[k]?=some (.cells c el (0,0))) (size:w.heap.size=w'.heap.size) (os:w'.os=w.os) (tape:w'.tape=w.tape) (output:w'.output=w.output):
 Inv w0 c0 U (E.elem ts b e l m) a w' (G.aO ts b (G.hdr b)):=by
 have u:=J.TL (ts:=ts) (t:=b) (v:=G.hdr b) p z I.2.1 rfl I.2.2;have D:=u.map (Ay (w:=w) b) u.colU (fun b=>⟨fun h=>h,fun _=>rfl,fun _=>rfl⟩);have H:=D.setRow (m:=m) (y:=l) (w':=w') (e:=e) (b:=b) (by simpa[Gh.aO]using q) (by simp[Gh.aO]) p A (fun s=> ?_) (fun c hc=> ?_) B size os tape output;simpa only[Env.elem,List.map_map,ael,SV.bJ,SV.aO]using H;have:=getD_map (L:=E.s.map (SV.aO ts b)) (T:=SV.bJ b) rfl s;show SV.clear b ((List.map (SV.bJ b) (E.s.map (SV.aO ts b))).getD s .no);rw[this];exact SV.eM b _;obtain⟨K,N,O⟩:=hm c hc;refine⟨K,N,?_⟩;simp only[Gh.aO];split;rfl;exact O
theorem EH{e:Ty}{l:List e.den}{v:Value}{b:Nat}{hs:List Nat}(h:bV w G e l v (.row b hs true))(j:hs.all (·=b)=true){m of n cap:Nat}(r:v= .slice (some ⟨m,of,none⟩) n cap)(hn:0<n):
 n=l.length/\l.length<=cap/\∃c el p i,w.heap[m]?=some (.cells c el p)/\of+cap*e.sz<=c.size/\aN (aK w e) l ((c.toList.drop of).take (l.length*e.sz)) i/\(m::i).Nodup/\G.col m=b/\∀x∈i,G.col x=b:=by
 obtain⟨_,_,B,t,hc⟩:=h;rcases t with⟨⟨ao,d⟩,hl0,_⟩|⟨b',of',cap',c,el,p,i,d,k,u,q,rfl,y⟩;rw[r]at d;cases d;omega;rw[r]at d;simp only[Value.slice.injEq,adg,Addr.mk.injEq,and_true]at d;obtain⟨⟨rfl,rfl⟩,rfl,rfl⟩:=d;obtain⟨z,A,D,F⟩:=hc _ _ rfl;simp only[G6,b_]at j;exact⟨rfl,k,c,el,p,i,u,q,y,adQ.2 ⟨A,F rfl⟩,z,fun x s=>j _ (D x s)⟩
theorem Sj{q:Nat}{cs:List Value}{v:Value}(h:cs[q]?=some v):df q [v] cs=cs:=by
 obtain⟨b,rfl⟩:=ad7.1 h;unfold df;simp only[aew,T_,List.singleton_append];rw[<-aem b,aev]
theorem TA{e σ:Ty}{l:List e.den}{b:Nat}{hs:List Nat}{y of n cap:Nat}{i:Int}{p:List Bool}(h:bV w G e l (G.hdr b) (.row b hs true))(A:hs.all (·=b)=true)(J:G.hdr b= .slice (some ⟨y,of,none⟩) n cap)
 (S:0<=i) (T:i<n) (hs:e.sub p=some (.sl σ)) (V:Inv w0 c0 U E a w G):
 ∃c el z v,w.heap[y]?=some (.cells c el (0,0))/\of+i.toNat*e.sz+e.off p+1<=c.size/\(c.toList.drop (of+i.toNat*e.sz+e.off p)).take 1=[v]/\bV w G σ z v (.nst b e i (e.off p) p true):=by
 obtain⟨rfl,j,c,el,fz,Bs,D,F,K,H,r,s⟩:=EH h A J (by omega);obtain⟨I,t,k⟩:=V.fresh y (by rw[r];exact h.1);rw[k]at D;simp only[adg,Obj.cells.injEq]at D;obtain⟨rfl,rfl,rfl⟩:=D;have W:i.toNat<l.length:=by omega
 obtain⟨f,z,Ba,N,Bb,q1,rfl,q3,q4,q5,Z⟩:=aN.place K W hs;have hmul:l.length*e.sz<=cap*e.sz:=adE _ j;have hlen:=aN.len (sz:=e.sz) (fun x c B h=>aK.len h) K;simp only[Ty.sz]at q3 q4;obtain⟨v,m,u⟩:=q3
 have q:((I.toList.drop of).take (l.length*e.sz))[i.toNat*e.sz+e.off p]?=some v:=by
  have:=congrArg List.head? m;rw[List.head?_take,List.head?_drop]at this;simpa using this
 have d:=Z w z [v] N (fun _ _=>rfl) ⟨v,rfl,u⟩;rw[q1]at d;refine⟨I,t,z,v,k,by omega,?_,⟨N,u,fun x O=>s x (by simp[O])⟩,hs,rfl,h.1,S,y,of,l.length,cap,I,t,l,_,J,j,r,k,F,T,?_,rfl,d,H,s,fun _=>q⟩;rw[T',adS,adR,adO (by omega)]at m;rw[show of+i.toNat*e.sz+e.off p=of+(i.toNat*e.sz+e.off p) by omega];exact m;have Y:=yY hs;simpa only[Ty.sz]using Y
theorem YO{d e:Ty}{L:List d.den}{l:List e.den}{b:Nat}{hs:List Nat}{i:Int}{off:Nat}{p:List Bool}{v:Value}(Y:bV w G e l v (.nst b d i off p true))(D:bV w G d L (G.hdr b) (.row b hs true)):
 4<=b/\∃(j of n cap:Nat) (c:Array Value) (el:TypeId) (f:List e.den->List d.den) (y Bo A:List Nat),G.hdr b= .slice (some ⟨j,of,none⟩) n cap/\n<=cap/\G.col j=b/\w.heap[j]?=some (.cells c el (0,0))/\of+cap*d.sz<=c.size/\
  (j::(y++Bo++A)).Nodup/\(∀x∈y++Bo++A,G.col x=b)/\di w e.sz (aK w e) l v Bo/\f l=L/\L.length=n/\
  (∀(w':World) (r:List e.den) (u:Value) (B':List Nat),(∀k∈y++A,w'.heap[k]?=w.heap[k]?)->di w' e.sz (aK w' e) r u B'->
   aN (aK w' d) (f r) (df (i.toNat*d.sz+off) [u] ((c.toList.drop of).take (n*d.sz))) (y++B'++A))/\(∀r,(f r).length=n)/\
  df (i.toNat*d.sz+off) [v] ((c.toList.drop of).take (n*d.sz))=(c.toList.drop of).take (n*d.sz)/\i<n/\0<=i/\off+1<=d.sz/\d.sub p=some (.sl e)/\d.off p=off:=by
 obtain⟨⟨B,hB,hc⟩,s,t,h3,N,j,of,n,cap,c,el,L0,Bs,g1,g2,g3,g4,g5,g6,g7,g8,g9,g10,g11,g12⟩:=Y;have m:=Sj (g12 rfl);rw[m]at g9
 have q:L.length=n/\aN (aK w d) L ((c.toList.drop of).take (n*d.sz)) Bs:=by
  obtain⟨_,_,B',F,_⟩:=D;rw[g1]at F;rcases F with⟨⟨ao,I⟩,hl0,_⟩|⟨b',of',cap',c',el',fz,Bs',I,hcap,O,hsz,_,hl⟩;cases I;omega;simp only[Value.slice.injEq,adg,Addr.mk.injEq,and_true]at I;obtain⟨⟨rfl,rfl⟩,rfl,rfl⟩:=I;rw[g4]at O;simp only[adg,Obj.cells.injEq]at O;obtain⟨rfl,rfl,rfl⟩:=O;have:=aN.BS (sz:=d.sz) (fun x c B h=>aK.len h) (fun x c B h=>aK.len h) (fun x x' c B B' h V=>aK.BS h V) g9 hl (by omega);subst this;exact⟨rfl,g9⟩
 obtain⟨q,S⟩:=q;obtain⟨f,z,y,Bo,A,q1,rfl,q3,q4,q5,T⟩:=aN.place S (i:=i.toNat) (by omega) s;simp only[Ty.sz]at q3 q4;rw[t]at q3 T
 have K:(((c.toList.drop of).take (n*d.sz)).drop (i.toNat*d.sz+off)).take 1=[v]:=by
  obtain⟨hq,hv⟩:=ad7.1 (g12 rfl);rw[aem hq,hv];rfl
 rw[K]at q3;have Z:z=l:=aK.BS q3 (show aK w (.sl e) l [v] B from⟨v,rfl,hB⟩);subst Z;obtain⟨u,H,hS⟩:=q3;simp only[aeN,and_true]at H;subst H;exact⟨h3,j,of,n,cap,c,el,f,y,Bo,A,g1,g2,g3,g4,g5,g10,g11,hS,q1,q,fun w' r u B' W J=>T w' r [u] B' W ⟨u,rfl,J⟩,fun r=>(q5 r).trans q,m,g6,N,g7,s,t⟩
theorem Zv(hC:CxTy P C)(hI:Inv w0 c0 U E a w G){tk:Nat}(h3:4<=tk)(hU:¬U tk){o:Oper}{c:Call}
 (ho:o.op= .call c) (hb:c.callee= .builtin .append) {x y:Operand} {t:TypeId} (cz:c.args= #[x,y]) (ea:c.argTypes= #[t,t]) {ti:TI} (gh:C.tt t=some ti) {e e0:Ty} (hτ:ti.τ= .sl e)
 {l V:List e.den} {L:List e0.den} {b:Nat} {hs ys:List Nat} {i:Int} {off:Nat} {p:List Bool} {m':M}
 (O:bV w G e l (a.eval x) (.nst b e0 i off p true)) (W:bV w G e V (a.eval y) m') (gm:∀c∈m'.ar,Good U G c) (cL:m'.own=some ys) (cO:b∉ys)
 (eb:bV w G e0 L (G.hdr b) (.row b hs true)) (ba:Good U G b) (hlen:l.length+V.length<4294967296):
 Yields w0 c0 (fun u=>U u\/u=tk) (E.elem (tk::ys) b e0 L (.row b [b] true)) a ((execOp a.eval o).run P w) (.d ⟨.sl e,l++V,.sl (.nst b e0 i off p false)⟩):=by
 obtain⟨bb,A,of,n,cap,cc,el,f,Ba,B,Bb,q1,q2,q3,q4,q5,q6,q7,cf,q8,q9,eH,gT,ha,hd,hg,hi,hj,hl⟩:=YO O eb;have hT:=(hC.tt _ ti gh).2;rw[hτ]at hT;obtain⟨hu,hn⟩:=hT;obtain⟨By,c6,hp,eL⟩:=W.own cL;have ec:∀c∈ys,4<=c:=fun c hc=>Sh.jM (τ:= .sl e) (x:=V) (sh:= .sl m') (cs:=[a.eval y]) ⟨_,rfl,W⟩ cL c hc;have ch:∀c∈ys,Good U G c:=fun c hc=>gm c (M.iv cL c hc);have ed:b≠tk:=fun e=>hU (e▸ba.2.1);have hytk:∀c∈ys,c≠tk:=fun c hc e=>hU (e▸(ch c hc).2.1)
 have bs:∀ {v':Value} {w':World},((Builtin.append_ #[t,t] o.type #[a.eval x,a.eval y]).run P w= .ok v' w')->(execOp a.eval o).run P w= .ok (.value v') w':=by
  intro v' w' hr;simp only[execOp,ho];simp[resolve,hb,invoke,builtin,cz,ea,hr]
 obtain⟨xs,c7,eO,e2⟩:=cf.cells;obtain⟨s,b6,c8,_⟩:=c6.cells;have b0:∀z∈B,G.col z=b:=fun z q=>q7 z (by simp[q])
 have ee:∀ad k cap,a.eval x= .slice (some ad) k cap->0<cap->∃b off,ad=⟨b,off,none⟩/\∃c cv,w.heap[b]?=some (.cells c cv (0,0))/\off+cap*e.sz<=c.size:=by
  intro ad k cap hv b9;obtain⟨b',e3,b7,hB,_,c',cv,fz,hh,a8,_⟩:=e2 ad k cap hv b9;obtain⟨c2,cg,hf⟩:=hI.fresh b' (by rw[b0 b' (by rw[hB];simp)];exact bb);rw[hf]at hh;cases hh;exact⟨b',e3,b7,_,_,hf,a8⟩
 have Y:∀z∈By,z≠A/\z∉Ba++B++Bb:=fun z q=>by
  have cd:=eL z q;refine⟨fun e=>cO (by rw[e,q3]at cd;exact cd),fun r=>cO (by rw[q7 z r]at cd;exact cd)⟩
 have K:∀z∈B.drop 1,z∈B:=fun z q=>aex q;have D:∀z∈By.drop 1,z∈By:=fun z q=>aex q;rw[adQ]at q6;obtain⟨Z,c9⟩:=q6;have ef:=c9;rw[adF,adF]at ef;obtain⟨⟨nA,nO,e4⟩,nB,b8⟩:=ef
 have b1:∀h:Nat,h∉Ba++Bb->h≠A->h∉B.drop 1->h∉By.drop 1->(A::(Ba++(h::(B.drop 1++By.drop 1))++Bb)).Nodup:=by
  intro h h1 h2 h4 h5;simp only[kT,not_or]at h1;have eg:(B.drop 1).Nodup:=nO.sublist (aeE _ _);have eh:(By.drop 1).Nodup:=hp.sublist (aeE _ _);rw[adQ,adF,adF,adQ,adF];refine⟨?_,⟨nA,⟨fun r=>(kT.1 r).elim h4 h5,eg,eh,fun x O y W e=> ?_⟩,fun x O y W e=> ?_⟩,nB,fun x O y W e=> ?_⟩;simp only[kT,kb,not_or]at Z|-;exact⟨⟨Z.1.1,fun e=>h2 e.symm,fun r=>Z.1.2 (K _ r),fun r=>(Y _ (D _ r)).1 rfl⟩,Z.2⟩;subst e;exact(Y x (D x W)).2 (by simp[K x O]);subst e;rcases kb.1 W with rfl|W;exact h1.1 O;rcases kT.1 W with W|W;exact e4 x O x (K x W) rfl;exact(Y x (D x W)).2 (by simp[O]);subst e;rcases kT.1 O with O|O;exact b8 x (by simp[O]) x W rfl;rcases kb.1 O with rfl|O;exact h1.2 W;rcases kT.1 O with O|O;exact b8 x (by simp[K x O]) x W rfl;exact(Y x (D x O)).2 (by simp[W])
 have fin:∀ {G0:Gh} {w1 w':World} {v':Value} {Bn:List Nat},Inv w0 c0 (fun u=>U u\/u=tk) E a w1 G0->(∀c,U c->G0.hdr c=G.hdr c/\G0.bx c=G.bx c)->G0.bx tk=false->(∀z,z<w.heap.size->G0.col z=G.col z)->
  (execOp a.eval o).run P w= .ok (.value v') w'->w1.heap.size=w'.heap.size->w'.os=w1.os->w'.tape=w1.tape->w'.output=w1.output->
  (∀k,k∉B->w'.heap[k]?=w1.heap[k]?)->(∀k∈A::(Ba++Bb),w'.heap[k]?=w.heap[k]?)->(∀k∈B,∃c el,w'.heap[k]?=some (.cells c el (0,0)))->di w' e.sz (aK w' e) l (a.eval x) B->
  di w' e.sz (aK w' e) (l++V) v' Bn->(A::(Ba++Bn++Bb)).Nodup->(∀z∈Bn,z∈B\/z∈By\/G0.col z=tk)->
  Yields w0 c0 (fun u=>U u\/u=tk) (E.elem (tk::ys) b e0 L (.row b [b] true)) a ((execOp a.eval o).run P w) (.d ⟨.sl e,l++V,.sl (.nst b e0 i off p false)⟩):=by
  intro G0 w1 w' v' Bn ca cy de bk hr a8 e6 e7 dk ds bl cb e8 dz fs ft;have a1:Good (fun u=>U u\/u=tk) G0 b:=⟨ba.1,.inl ba.2.1,by rw[(cy b ba.2.1).2];exact ba.2.2⟩
  have ej:∀c∈tk::ys,4<=c/\Good (fun u=>U u\/u=tk) G0 c:=by
   intro c hc;rcases kb.1 hc with rfl|hc;exact⟨h3,by omega,.inr rfl,de⟩;have:=ch c hc;exact⟨ec c hc,this.1,.inl this.2.1,by rw[(cy c this.2.1).2];exact this.2.2⟩
  have b2:G0.hdr b=G.hdr b:=(cy b ba.2.1).1
  have F:∀z∈A::(Ba++B++Bb),z<w.heap.size:=by
   intro z q
   have c1:G.col z=b:=by
    rcases kb.1 q with rfl|q;exact q3;exact q7 z q
   exact hI.lt z (by omega)
  have a6:∀z∈By,z<w.heap.size:=c6.bounds;have gp:b∉tk::ys:=by simp[ed,cO]
  have J:∀z∈A::(Ba++B++Bb),(G0.aO (tk::ys) b (G0.hdr b)).col z=b:=by
   intro z q
   have c1:G.col z=b:=by
    rcases kb.1 q with rfl|q;exact q3;exact q7 z q
   simp only[Gh.aO,bk z (F z q),c1];rw[a_ gp]
  have b3:∀z∈Bn,(G0.aO (tk::ys) b (G0.hdr b)).col z=b:=by
   intro z q;rcases ft z q with h|h|h;exact J z (by simp[h]);simp only[Gh.aO,bk z (a6 z h)];rw[an (B_ _ (eL z h))];simp only[Gh.aO,h];rw[an (by simp)]
  have en:∀k∈Ba++Bb,w'.heap[k]?=w.heap[k]?:=fun k v=>bl k (B_ _ v);have cl:w'.heap[A]?=some (.cells cc el (0,0)):=(bl A (by simp)).trans q4
  have c3:aN (aK w' e0) L ((cc.toList.drop of).take (n*e0.sz)) (Ba++B++Bb):=by
   have:=eH w' l (a.eval x) B en e8;rw[q8,ha]at this;exact this
  have gr:=ca.YX (ts:=tk::ys) (b:=b) (e:=e0) (l:=L) (m:= .row b [b] true) (w':=w') bb ej a1 (fun c hc=>by simp only[M.ar,kb,L_,or_false,or_self]at hc;subst hc;exact a1) ?_ ?_ ?_ a8 e6 e7 dk;refine⟨v',w',_,hr,gr,⟨[v'],rfl,v',rfl,⟨Bn,dz,b3⟩,hj,hl,bb,hg,A,of,n,cap,cc,el,f (l++V),Ba++Bn++Bb,by simp[Gh.aO,b2,q1],q2,J A (by simp),cl,q5,hd,hi,gT _,eH w' (l++V) v' Bn en dz,fs,fun z q=> ?_,by simp⟩,bg.d (fun c hc=> ?_),by rintro _ _ ⟨⟩⟩;simp only[kT]at q;rcases q with(q|q)|q;exact J z (by simp[q]);exact b3 z q;exact J z (by simp[q]);simp only[Sh.ar,M.ar,kb,L_,or_false]at hc;subst hc;exact⟨a1.1,a1.2.1,by simp[Gh.aO]⟩;rw[b2];refine⟨bb,by simp[Gh.aO],A::(Ba++B++Bb),?_,?_⟩;rw[q1];refine .inr ⟨A,of,cap,cc,el,(0,0),Ba++B++Bb,by rw[q9],by rw[q9];exact q2,cl,q5,rfl,by rw[q9];exact c3⟩;rintro h Bs ⟨⟩;have S:=J;rw[b2]at S;exact⟨S A (by simp),Z,fun z q=>by simp[S z (B_ _ q)],fun _=>c9⟩;intro k v;by_cases r:k∈B;exact absurd (J k (by simp[r])) v;exact ds k r;intro k v;by_cases r:k∈B;exact cb k r;rw[ds k r];refine ca.fresh k ?_;simp only[Gh.aO]at v;split at v;rename_i h;exact(ej _ h).1;rw[v];exact bb
 have ao:∀k∈B,∃c el,w.heap[k]?=some (.cells c el (0,0)):=fun k v=>hI.fresh k (by rw[b0 k v];exact bb);have ep:=hI.abt (tk:=tk) hU;rcases Ss (ty:=o.type) hu hn c7 b6 (aN.UY c8) hlen ee with⟨hq,hr⟩|⟨h,j,I,hv,a7,b9,hr⟩|⟨I,rest,a7,a8,hr⟩
 have gv:V=[]:=aea.1 hq;subst gv;refine fin (Bn:=B) ep (fun c hc=>⟨rfl,a_ (fun e:c=tk=>hU (e▸hc))⟩) (by simp) (fun _ _=>rfl) (bs hr) rfl rfl rfl rfl (fun _ _=>rfl) (fun _ _=>rfl) ao cf (by simpa using cf) (adQ.2 ⟨Z,c9⟩) (fun z q=> .inl q)
 obtain⟨h0,off0,b7,c2,cg,hh,a8⟩:=ee _ _ I hv b9;cases b7;obtain⟨h1,off1,b7,hB,_,c',cv,fz,e5,_,dd⟩:=e2 _ _ I hv b9;cases b7;rw[hh]at e5;cases e5;have c4:=b6.1;have c5:=c7.1;have hmul:(l.length+V.length)*e.sz<=I*e.sz:=adE _ a7;rw[U_]at hmul;have av:=gG h (el:=cg) s (j+l.length*e.sz) w c2 hh (by omega);have N:h∈B:=by rw[hB];simp
 have er:h∉B.drop 1:=by
  have:=nO;rw[hB,adQ]at this;exact this.1
 have cp:h∉Ba++Bb:=by
  intro r;rcases kT.1 r with r|r;exact e4 h r h N rfl;exact b8 h (by simp[N]) h r rfl
 have b4:h≠A:=by
  rintro rfl;simp only[kT,not_or]at Z;exact Z.1.2 N
 have et:h∉By:=fun r=>(Y h r).2 (by simp[N]);have b5:h∉By.drop 1:=fun r=>et (D h r);have H:∀k,k≠h->(w.setCells h (j+l.length*e.sz) s).heap[k]?=w.heap[k]?:=fun k v=>bQ h _ _ w k v;have htl:(c2.toList.take (j+l.length*e.sz)).length=j+l.length*e.sz:=by simp;omega
 have ew:((c2.toList.take (j+l.length*e.sz)++s++c2.toList.drop (j+l.length*e.sz+s.length)).drop j).take (l.length*e.sz)=xs:=by
  rw[T_,adA (by omega),adG (by simp;omega),T',dd,adS,adO (by omega)]
 have T:((c2.toList.take (j+l.length*e.sz)++s++c2.toList.drop (j+l.length*e.sz+s.length)).drop j).take ((l++V).length*e.sz)=xs++s:=by
  rw[T_,adA (by omega),T',dd];rw[show j+l.length*e.sz-j=l.length*e.sz by omega];rw[<-T_]
  have aB:(List.take (l.length*e.sz) (List.drop j c2.toList)++s).length=(l++V).length*e.sz:=by
   rw[ad9,c4,<-dd,c5,ad9,U_]
  rw[<-aB,aeP]
 have ct:aN (aK (w.setCells h (j+l.length*e.sz) s) e) l xs (B.drop 1):=aN.world (fun z q=>H z (fun e=>er (e▸q))) eO;have ez:aN (aK (w.setCells h (j+l.length*e.sz) s) e) V s (By.drop 1):=aN.world (fun z q=>H z (fun e=>b5 (e▸q))) c8
 refine fin (Bn:=h::(B.drop 1++By.drop 1)) ep (fun c hc=>⟨rfl,a_ (fun e:c=tk=>hU (e▸hc))⟩) (by simp) (fun _ _=>rfl) (bs hr) (by rw[fh]) (cq h _ _ w).1 (cq h _ _ w).2.1 (cq h _ _ w).2.2
  (fun k v=>H k (fun e=>v (e▸N))) (fun k v=>H k (fun e=> ?_)) (fun k v=> ?_) ?_ ?_ (b1 h cp b4 er b5) (fun z q=> ?_)
 subst e;rcases kb.1 v with v|v;exact b4 v;exact cp v;by_cases e1:k=h;subst e1;exact⟨_,_,av⟩;rw[H k e1];exact ao k v;rw[hv];refine .inr ⟨h,j,I,_,cg,(0,0),B.drop 1,rfl,by omega,av,?_,hB,?_⟩;simp;omega;show aN _ _ ((((c2.toList.take (j+l.length*e.sz)++s++c2.toList.drop (j+l.length*e.sz+s.length)).toArray.toList.drop j).take (l.length*e.sz))) _;rw[ad6,ew];exact ct;refine .inr ⟨h,j,I,_,cg,(0,0),B.drop 1++By.drop 1,by simp,by simpa using a7,av,?_,rfl,?_⟩;simp;omega;show aN _ _ ((((c2.toList.take (j+l.length*e.sz)++s++c2.toList.drop (j+l.length*e.sz+s.length)).toArray.toList.drop j).take ((l++V).length*e.sz))) _;rw[ad6,T];exact aN.append ct ez;rcases kb.1 q with rfl|q;exact .inl N;rcases kT.1 q with q|q;exact .inl (K z q);exact .inr (.inl (D z q))
 have ca:=(hI.drawn (w.drawn+1)).alloc h3 hU (xs++s++rest).toArray ti.el (.slice (some ⟨w.heap.size,0,none⟩) (l.length+V.length) I) false
 have eD:∀z,z<w.heap.size->(G.add w.heap.size tk (.slice (some ⟨w.heap.size,0,none⟩) (l.length+V.length) I) false).col z=G.col z:=fun z q=>by
  simp[Gh.add,Nat.ne_of_lt q]
 have hold:∀k,k<w.heap.size->(w.drew.alloc (.cells (xs++s++rest).toArray ti.el)).heap[k]?=w.heap[k]?:=fun k v=>heap_alloc_old w.drew _ k v
 have F:∀z∈A::(Ba++B++Bb),z<w.heap.size:=by
  intro z q
  have c1:G.col z=b:=by
   rcases kb.1 q with rfl|q;exact q3;exact q7 z q
  exact hI.lt z (by omega)
 have a6:∀z∈By,z<w.heap.size:=c6.bounds;have hnin:∀ {z:Nat},z<w.heap.size->z≠w.heap.size:=fun h=>Nat.ne_of_lt h;refine fin (Bn:=w.heap.size::(B.drop 1++By.drop 1)) ca (fun c hc=> ?_) (by simp[Gh.add]) eD (bs hr) rfl rfl rfl rfl (fun _ _=>rfl) (fun k v=>hold k (F k ?_)) (fun k v=> ?_) ?_ ?_ (b1 _ ?_ ?_ ?_ ?_) (fun z q=> ?_);have:c≠tk:=fun e=>hU (e▸hc);simp[Gh.add,this];simp only[kb,kT]at v|-;rcases v with v|v|v<;>simp[v];rw[hold k (F k (by simp[v]))];exact ao k v;exact di.mono (fun z q=>hold z (F z (by simp[q]))) cf;refine .inr ⟨w.heap.size,0,I,_,ti.el,(0,0),B.drop 1++By.drop 1,by simp,by simpa using a7,heap_alloc_new _ _,by simpa using a8,rfl,?_⟩;have c5:=c7.1;have c4:=b6.1
 have T:(((xs++s++rest).toArray.toList.drop 0).take ((l++V).length*e.sz))=xs++s:=by
  have aB:(xs++s).length=(l++V).length*e.sz:=by rw[ad9,c4,c5,ad9,U_]
  simp only[aef];rw[<-aB,aeP]
 rw[T];exact aN.append (aN.world (w:=w) (fun z q=>hold z (F z (by simp[K z q]))) eO) (aN.world (w:=w) (fun z q=>hold z (a6 z (D z q))) c8);intro r;exact aek _ (F _ (by simp only[kb,kT]at r|-;rcases r with h|h<;>simp[h]));exact fun e=>aek _ (F _ (by simp[e]));exact fun r=>aek _ (F _ (by simp[K _ r]));exact fun r=>aek _ (a6 _ (D _ r));rcases kb.1 q with rfl|q;exact .inr (.inr (by simp[Gh.add]));rcases kT.1 q with q|q;exact .inl (K z q);exact .inr (.inl (D z q))
theorem Wi(hC:CxTy P C)(hI:Inv w0 c0 U E a w G){o:Oper}{t:TypeId}{x y:Operand}(ho:o.op= .store t x y){ti:TI}(W:C.tt t=some ti){σ e:Ty}(Y:ti.τ= .sl σ)
 {l:List e.den} {z:List σ.den} {b:Nat} {hs:List Nat} {i:Int} {off:Nat} {p:List Bool} {fr:Bool} {s of n cap:Nat} {r:e.den×Sh}
 (V:bV w G σ z (a.eval y) (.nst b e i off p fr)) (K:bV w G e l (G.hdr b) (.row b hs true)) (Z:hs.all (·=b)=true) (N:Good U G b)
 (k2:G.hdr b= .slice (some ⟨s,of,none⟩) n cap) (k5:a.eval x= .pointer (some ⟨s,of+i.toNat*e.sz+off,none⟩))
 (hr:fC e (l.getD i.toNat e.aa) (fV e (.sha [])) p ⟨.sl σ,z,.sl (.sha [])⟩=some r):
 ∃w' G',(execOp a.eval o).run P w= .ok .skip w'/\Inv w0 c0 U (E.elem [] b e (l.set i.toNat r.1) (.row b [b] true)) a w' G':=by
 obtain⟨⟨B,hB,hc⟩,hsub,T,h3,hi0,blk,of',n',cap',c,el,L0,Bs,g1,g2,g3,g4,g5,g6,g7,g8,g9,g10,g11,g12⟩:=V;rw[k2]at g1;simp only[Value.slice.injEq,adg,Addr.mk.injEq,and_true]at g1;obtain⟨⟨rfl,rfl⟩,rfl,rfl⟩:=g1;obtain⟨hn,H,c',el',fz,Bs0,hh,hsz,hl,hnd,hcb,hcB⟩:=EH K Z k2 (by omega);rw[g4]at hh;simp only[adg,Obj.cells.injEq]at hh;obtain⟨rfl,rfl,rfl⟩:=hh;have hi:i.toNat<l.length:=by omega
 have O:l[i.toNat]?=some (l.getD i.toNat e.aa):=by
  rw[lk,T1 hi];rfl
 obtain⟨B1,Bx,B2,rfl,aB,a1,a6⟩:=aN.get (sz:=e.sz) (fun x c B h=>aK.len h) hl O;obtain⟨Ba,Bo,Bb,rfl,I,hle⟩:=aK.put (v:=⟨.sl σ,z,.sl (.sha [])⟩) (cv:=[a.eval y]) hr aB (show aK w (.sl σ) z [a.eval y] B from⟨_,rfl,hB⟩);have j:=aN.set (sz:=e.sz) hi I a1 a6;have hmul:(i.toNat+1)*e.sz<=l.length*e.sz:=adE _ hi;have hmul2:l.length*e.sz<=cap*e.sz:=adE _ H;rw[U_,ad5]at hmul;rw[T]at I j hle
 have ad:df (i.toNat*e.sz+off) [a.eval y] ((c.toList.drop of).take (l.length*e.sz))=
  ((c.toList.drop of).take (l.length*e.sz)).take (i.toNat*e.sz)++df off [a.eval y] ((((c.toList.drop of).take (l.length*e.sz)).drop (i.toNat*e.sz)).take e.sz)++((c.toList.drop of).take (l.length*e.sz)).drop ((i.toNat+1)*e.sz):=by
  rw[tv (sz:=e.sz) (by simpa using g7),U_,ad5]
 rw[<-ad]at j;rw[<-hn]at j;have hL:L0=l.set i.toNat r.1:=aN.BS (sz:=e.sz) (fun x c B h=>aK.len h) (fun x c B h=>aK.len h) (fun x x' c B B' h h'=>aK.BS h h') g9 j (by simp;omega);subst hL;have hO:of+i.toNat*e.sz+off+1<=c.size:=by omega
 have q:=gG s (el:=el) [a.eval y] (of+i.toNat*e.sz+off) w c g4 (by simpa using hO);have hT:=(hC.tt t ti W).1;have S:(a.eval y).oneCell'=true:=hB.one;have D:=tF (P:=P) (t:=t) (τ:=ti.τ) hT g4 (o:=of+i.toNat*e.sz+off) (cs:=[a.eval y]) (by rw[Y];simpa[Ty.sz]using hO) (by rw[Y];rfl) (by simpa using S) k5;have d:∀k,k≠s->(w.setCells s (of+i.toNat*e.sz+off) [a.eval y]).heap[k]?=w.heap[k]?:=fun k A=>bQ s _ _ w k A;rw[adQ]at g10;have F:∀k,(G.aO [] b (G.hdr b)).col k=G.col k:=fun k=>by simp[Gh.aO]
 have ao:=hI.YX (ts:=[]) (b:=b) (e:=e) (l:=l.set i.toNat r.1) (m:= .row b [b] true) (w':=w.setCells s (of+i.toNat*e.sz+off) [a.eval y]) h3 (by simp) N
  (fun c hc=>by simp only[M.ar,kb,L_,or_false,or_self]at hc;subst hc;exact N) ?_ (fun k A=>d k (fun J=>A (by rw[F,J,g3]))) (fun k A=> ?_)
  (by rw[fh]) (cq _ _ _ w).1 (cq _ _ _ w).2.1 (cq _ _ _ w).2.2
 refine⟨_,_,?_,ao⟩;simp only[execOp,ho];have av:cT ti.τ [a.eval y]=a.eval y:=by rw[Y];rfl
 rw[av]at D;simp[D];rw[k2];refine⟨h3,by simp[Gh.aO],s::Bs,.inr ⟨s,of,cap,_,el,(0,0),Bs,by simp[hn],by simpa using H,q,by simp;omega,rfl,?_⟩,?_⟩;show aN _ _ ((((c.toList.take (of+i.toNat*e.sz+off)++[a.eval y]++c.toList.drop (of+i.toNat*e.sz+off+ [a.eval y].length)).toArray.toList.drop of).take ((l.set i.toNat r.1).length*e.sz))) _;rw[ad6]
 have u:((df (of+i.toNat*e.sz+off) [a.eval y] c.toList).drop of).take ((l.set i.toNat r.1).length*e.sz)=df (i.toNat*e.sz+off) [a.eval y] ((c.toList.drop of).take (n*e.sz)):=by
  rw[yk (by omega) (by simp;omega),xX (by simp;omega) (by simp;omega),show of+i.toNat*e.sz+off-of=i.toNat*e.sz+off by omega];simp[hn]
 show aN _ _ (((df (of+i.toNat*e.sz+off) [a.eval y] c.toList).drop of).take ((l.set i.toNat r.1).length*e.sz)) _;rw[u];exact aN.world (fun k A=>d k (fun J=>g10.1 (J▸A))) g9;rintro h Bs' ⟨⟩;exact⟨by simp[Gh.aO,g3],g10.1,fun x V=>by simp[Gh.aO,g11 x V],fun _=>g10.2⟩;by_cases J:k=s;subst J;exact⟨_,_,q⟩;rw[d k J];rw[F]at A;exact hI.fresh k (by rw[A];exact h3)
theorem Wz(hC:mR P C)(H:Inv w0 c0 U E a w G)(hR:RI ops E a.tmps){tk:Nat}(h3:4<=tk)(hU:∀u,tk<=u->u<tk+32->¬U u){o:Oper}{ef:Ef}
 (h:pY C ops E.rd tk o=some ef):M6 P w0 c0 (fun u=>U u\/(tk<=u/\u<tk+32)) E a ((execOp a.eval o).run P w) ef:=by
 have V:=hC.toCxTy;have hg:Gd ops a.tmps none:=by rintro j w' ⟨⟩
 unfold pY at h;split at h
 rename_i t x Z;split at h;rename_i ti b e i off p τ I J;split at h;rename_i l hs nd s;obtain⟨hc,h⟩:=Option.ite_none_right_eq_some.mp h;split at h;rename_i σ z sh S;simp only[adg]at h;subst h;simp only[u_,b_]at hc;obtain⟨⟨⟨⟨rfl,D⟩,_⟩,rfl⟩,F⟩:=hc;obtain⟨h1,_⟩:=fK H hR hg J;obtain⟨bk,of,n,cap,ba,k2,k3,k4,k5⟩:=h1;obtain⟨⟨vh,k⟩,q⟩:=H.eB s;have A:vh=G.hdr b:=k.2.1.symm;rw[A]at k
 have K:ti.τ= .sl σ:=by
  have:=Bm S;rw[F]at this;simpa using this
 rw[K]at F;obtain⟨c,el,z',v,g1,g2,g3,g4⟩:=TA k D k2 k3 k4 F H;have hT:=(V.tt t ti I).1
 have ad:(execOp a.eval o).run P w= .ok (.value v) w:=by
  have W:=lQ hT g1 (o:=of+i.toNat*e.sz+e.off p) (by rw[K];exact g2);rw[K,show(Ty.sl σ).sz=1 from rfl,g3,show cT (.sl σ) [v]=v from rfl]at W;simp only[execOp,Z];refine dP ?_;simp only[Instr.loadAt,k5,Instr.sureAddr];simpa using W
 have hz:z'=z:=by
  obtain⟨_,hcap,c2,el2,fz,Bs,hh,hsz,W,_⟩:=EH k D k2 (by omega);rw[g1]at hh;simp only[adg,Obj.cells.injEq]at hh;obtain⟨rfl,rfl,rfl⟩:=hh;have hi:i.toNat<l.length:=toNat_lt k3 (by obtain⟨hn,_⟩:=EH k D k2 (by omega);rw[<-hn];exact k4);obtain⟨f,z2,Ba,Bo,Bb,q1,_,q3,q4,_,_⟩:=aN.place W hi F;simp only[Ty.sz]at q3 q4;rw[T',adS,adR,adO (by omega),<-aej,g3]at q3
  have ao:l[i.toNat]?=some (l.getD i.toNat e.aa):=by
   rw[lk,T1 hi];rfl
  obtain⟨B1,Bx,B2,_,bb,_,_⟩:=aN.get (sz:=e.sz) (fun x c B h=>aK.len h) W ao;have N:=FO S bb;obtain⟨Bv,N⟩:=N;have hmul:(i.toNat+1)*e.sz<=l.length*e.sz:=adE _ hi;rw[U_,ad5]at hmul;have a7:=yY F;simp only[Ty.sz]at N a7;rw[T',adS,adR,adO (by omega),T',adS,adR,adO (by omega),<-aej,g3]at N;obtain⟨⟨B4,g4,_⟩,_⟩:=g4;exact aK.BS (show aK w (.sl σ) z' [v] B4 from⟨v,rfl,g4⟩) N
 subst hz
 exact cR (H.mono (fun u hu=> .inl hu)) ad ⟨[v],rfl,v,rfl,g4⟩ (bg.d (fun c hc=>by
  simp only[Sh.ar,M.ar,adU]at hc;subst hc;have:=q c (by simp);exact⟨this.1,.inl this.2.1,this.2.2⟩)) (by rintro _ _ ⟨⟩)
 cases h;cases h;cases h
 rename_i t x y Z;split at h;rename_i ti b e i off p τ σ z b' e' i' off' p' fr I J hv;split at h;rename_i l hs nd s;obtain⟨hc,h⟩:=Option.ite_none_right_eq_some.mp h;obtain⟨r,hr,h⟩:=E_.mp h;subst h;simp only[u_,b_]at hc;obtain⟨⟨⟨⟨⟨⟨⟨⟨⟨rfl,D⟩,rfl⟩,rfl⟩,rfl⟩,rfl⟩,hoff⟩,F⟩,bl⟩,hτ⟩:=hc;intro T;have a8:i=i':=e_ T;subst a8;obtain⟨h1,_⟩:=fK H hR hg J;obtain⟨bk,of,n,cap,ba,k2,k3,k4,k5⟩:=h1;obtain⟨⟨vh,k⟩,q⟩:=H.eB s;have A:vh=G.hdr b':=k.2.1.symm;rw[A]at k;obtain⟨m,hm,hx,_,_⟩:=jJ H hR hg hv;cases hm;obtain⟨w',G',q1,q2⟩:=Wi V H Z I (hτ.symm.trans bl.symm) hx k D (q b' (by simp)) k2 k5 hr;exact .inr ⟨rfl,w',G',q1,q2.mono fun u hu=> .inl hu⟩;cases h;cases h
 rename_i c Z;split at h;rename_i x y t u hb ha aB;have Y:c.args= #[x,y]:=aeL (by simpa using ha);have av:c.argTypes= #[t,u]:=aeL (by simpa using aB);split at h;rename_i ti e l b E0 i off p e' l' m' I hx hy;split at h;rename_i l2 L hs nd ys a1 s a6;have O:=dv a1;simp only[TV.mk.injEq]at O;obtain⟨he,W,_⟩:=O;cases he;cases W;obtain⟨hc,h⟩:=Option.ite_none_right_eq_some.mp h;simp only[adg]at h;subst h;simp only[u_,b_,M',v_,d_]at hc;obtain⟨⟨⟨⟨rfl,D⟩,bs⟩,hτ⟩,rfl⟩:=hc;intro T;have hlen:l.length+l2.length<4294967296:=e_ T;obtain⟨mx,bx,b0,_,_⟩:=jJ H hR hg hx;cases bx;obtain⟨my,b1,b2,_,b3⟩:=jJ H hR hg hy;cases b1;obtain⟨⟨vh,k⟩,q⟩:=H.eB s;have A:vh=G.hdr b:=k.2.1.symm;rw[A]at k;exact .inl ((Zv V H h3 (hU tk (po _) (by omega)) Z hb Y av I hτ b0 b2 b3 a6 bs k (q b (by simp)) hlen).mono fun u hu=>hu.imp id fun e=>by omega);cases h;cases h;cases h;cases h
theorem Sc{R:Rd}{tk:Nat}{o:Oper}{gv:List Nat}{b:Nat}{e:Ty}{l:List e.den}{m:M}(h:pY C ops R tk o=some (.elem gv b e l m)):False:=by
 unfold pY at h;split at h;split at h;split at h;obtain⟨_,h⟩:=Option.ite_none_right_eq_some.mp h;split at h<;>cases h;cases h;cases h;split at h;split at h;obtain⟨_,h⟩:=Option.ite_none_right_eq_some.mp h;obtain⟨r,_,h⟩:=E_.mp h;cases h;cases h;cases h;split at h;split at h;split at h;obtain⟨_,h⟩:=Option.ite_none_right_eq_some.mp h;cases h;cases h;cases h;cases h;cases h
theorem Wb{R:Rd}{tk:Nat}{o:Oper}{gv:List Nat}{b:Nat}{e:Ty}{l:List e.den}{m:M}(h:jk C ops R tk g o=some (.elem gv b e l m)):bj C ops R tk g o=some (.elem gv b e l m):=by
 unfold jk at h;split at h;split at h;rename_i ef c;cases h;exact(Sc c).elim;exact h;exact h
theorem Lo(b:mR P C)(c:Inv w0 c0 U E a w G)(d:RI ops E a.tmps)(j:Gd ops a.tmps g){tk:Nat}(e:4<=tk)(i:∀u,tk<=u->u<tk+32->¬U u){o:Oper}{k:Ef}
 (h:jk C ops E.rd tk g o=some k):M6 P w0 c0 (fun u=>U u\/(tk<=u/\u<tk+32)) E a ((execOp a.eval o).run P w) k:=by
 unfold jk at h;split at h;split at h;rename_i ef' l;cases h;exact Wz b c d e i l;exact Pr b c d j e i h;exact Pr b c d j e i h
end
section
variable{P:Program}{C:Cx}{w0:World}{c0:C0}{U:Nat->Prop}{E:Env}{a:Act}{w:World}{G:Gh}{ops:List Oper}{g:Option (Nat×Bool)}{L:Nat->Prop}
def mr(ops:List Oper)(L:Nat->Prop)(E:Env)(tmps:Array Value):Prop:=
 ∀s j w act v,E.s.getD s .no= .g j w act v->(act=true↔yielded ops.toArray tmps j=some w)/\L j/\∃o∈ops,∃w',o.guard=some (j,w')
theorem mr.ri{tmps:Array Value}(h:mr ops L E tmps):RI ops E tmps:=fun s j w act v hs=>(h s j w act v hs).1
theorem mr.map{tmps:Array Value}(h:mr ops L E tmps){E':Env}(q:∀s j w act v,E'.s.getD s .no= .g j w act v->∃p,E.s.getD s .no= .g j w act p):mr ops L E' tmps:=by
 intro s j w act v hs;obtain⟨p,u⟩:=q s j w act v hs;exact h s j w act p u
theorem zO{f:M->M}{fe:Nat->Bool}{fr:List Nat->Option (List Nat)}{s:SV}{j:Nat}{w act:Bool}{v:SV}(h:s.mapM f fe fr= .g j w act v):∃b,s= .g j w act b:=by
 cases s with
 |g j' w' act' u=>simp only[SV.mapM,SV.g.injEq]at h;obtain⟨rfl,rfl,rfl,_⟩:=h;exact⟨u,rfl⟩
 |ept t' e i o p τ=>simp only[SV.mapM]at h;split at h<;>cases h
 |rdp hs v=>simp only[SV.mapM]at h;split at h<;>cases h
 |_=>simp[SV.mapM]at h
theorem Ql{b:Nat}{e:Ty}{y:List e.den}{m:M}{s:SV}{j:Nat}{w act:Bool}{v:SV}(h:s.setRow b e y m= .g j w act v):∃c,s= .g j w act c:=by
 cases s with
 |g j' w' act' u=>simp only[SV.setRow,SV.g.injEq]at h;obtain⟨rfl,rfl,rfl,_⟩:=h;exact⟨u,rfl⟩
 |rdp hs v=>simp only[SV.setRow]at h;split at h<;>cases h
 |_=>simp[SV.setRow]at h
theorem PH{ts:List Nat}{s j:Nat}{w act:Bool}{v:SV}(h:(E.kill ts).s.getD s .no= .g j w act v):∃b,E.s.getD s .no= .g j w act b:=by
 rw[Env.Al]at h;split at h;exact⟨v,h⟩;exact zO h
theorem Sr{ts:List Nat}{d:List (Nat×Nat)}{s j:Nat}{w act:Bool}{v:SV}(h:(E.cm ts d).s.getD s .no= .g j w act v):∃k,E.s.getD s .no= .g j w act k:=by
 rcases CS E ts d s with c|⟨b,b',e,i,o,p,τ,_,_,c⟩;rw[c]at h;exact PH h;have:=c.symm.trans h;cases this
theorem aaz{ts:List Nat}{t s j:Nat}{w act:Bool}{v:SV}(h:(E.aO ts t).s.getD s .no= .g j w act v):∃b,E.s.getD s .no= .g j w act b:=by
 unfold Env.aO at h;split at h;exact⟨v,h⟩;have:=getD_map (L:=E.s) (T:=SV.aO ts t) rfl s;rw[this]at h;exact zO h
theorem Qu{gv:List Nat}{b:Nat}{e:Ty}{l:List e.den}{m:M}{s j:Nat}{w act:Bool}{v:SV}(h:(E.elem gv b e l m).s.getD s .no= .g j w act v):∃c,E.s.getD s .no= .g j w act c:=by
 have:=getD_map (L:=E.s) (T:=fun s=>((s.aO gv b).bJ b).setRow b e l m) rfl s;simp only[Env.elem]at h;rw[this]at h;obtain⟨v1,d⟩:=Ql h;obtain⟨v2,i⟩:=zO d;exact zO i
theorem IX{l:List (Nat×Nat×TV)}{K:List SV}{s j:Nat}{w act:Bool}{v:SV}(h:(bK l K).getD s .no= .g j w act v):K.getD s .no= .g j w act v:=by
 rcases wa l K s with b|⟨t,u,_,b⟩;rw[<-b];exact h;rw[b]at h;cases h
theorem Si{a:Act}{d:Option Nat}{v:Value}{j:Nat}(h:∀x,d=some x->(ops[j]?).bind (·.dst)≠some x):
 yielded ops.toArray (a.put d v).tmps j=yielded ops.toArray a.tmps j:=by
 cases d with
 |none=>rfl
 |some d=>
  unfold yielded;simp only[adX];cases c:(ops[j]?).bind (·.dst)with
  |none=>rfl
  |some s=>
   have b:d≠s:=fun e=>h d rfl (by rw[c,e]);simp[Act.put,Array.getElem?_setIfInBounds_ne b]
theorem OV(h:gk ops=true){o:Oper}(q:o∈ops){j:Nat}{w:Bool}(r:o.guard=some (j,w)){i:Nat}{b:Oper}(hi:ops[i]?=some b)(c:i≠j):
 ∀x,b.dst=some x->(ops[j]?).bind (·.dst)≠some x:=by
 intro x m;unfold gk at h;rw[G6]at h;obtain⟨k,s,rfl⟩:=List.mem_iff_getElem.1 q;have:=h (ops[k],k) (ad3.2 (T1 s));simp only[r,u_]at this;obtain⟨_,this⟩:=this;split at this;cases this;rename_i d p;rw[G6]at this;have l:=this (b,i) (ad3.2 hi);simp only[aee,b_,c,false_or]at l;intro e;rw[p]at e;cases e;exact l m
theorem xU(h:gk ops=true){i:Nat}{o:Oper}(hi:ops[i]?=some o){j:Nat}{w:Bool}(b:o.guard=some (j,w)):j<i:=by
 unfold gk at h;rw[G6]at h;have:=h (o,i) (ad3.2 hi);simp only[b,u_,b_]at this;exact this.1
theorem AZ(B:Inv w0 c0 U E a w G){j:Nat}{w':Bool}{act:Option Bool}(h:guardOf ops E.rd (some (j,w'))=some act):
 ∃b,act=some b/\(b=true↔yielded ops.toArray a.tmps j=some w'):=by
 simp only[guardOf]at h;split at h;cases h;rename_i s hs;have e:=B.slots s
 have l:∀x:Bool,a.tmps.getD s undef= .bool x->yielded ops.toArray a.tmps j=some x:=by
  intro x c;unfold yielded;simp only[adX,hs,aec];rw[aei]at c;cases p:a.tmps[s]? with
  |none=>rw[p]at c;cases c
  |some v=>rw[p]at c;simp at c;rw[c]
 have q:a.tmps.getD s undef=undef->yielded ops.toArray a.tmps j=none:=by
  intro c;unfold yielded;simp only[adX,hs,aec];rw[aei]at c;cases p:a.tmps[s]? with
  |none=>rfl
  |some v=>rw[p]at c;simp at c;rw[c];rfl
 have i:∀ {x:Bool} {k:Sh} {u:Value},ck w G (.d ⟨.bool,x,k⟩) u->u= .bool x:=by
  intro x k u r;obtain⟨cs,D,z⟩:=r;cases k with
  |leaf=>rw[D,show cs=_ from z];rfl
  |sl m=>exact z.elim
  |pair a b=>exact z.elim
 split at h;rename_i x k c;cases h
 have r:E.s.getD s .no= .d ⟨.bool,x,k⟩:=by
  have:bN (E.s.getD s .no)= .d ⟨.bool,x,k⟩:=c;cases p:E.s.getD s .no with
  |d v=>rw[p]at this;exact this
  |_=>rw[p]at this;simp[bN]at this
 rw[r]at e;refine⟨_,rfl,?_⟩;rw[l x (i e)];simp;rename_i j' w'' t x k c;cases h;obtain⟨A,r,hu⟩:=S5 (sv:=E.s.getD s .no) c
 have y:A= .d ⟨.bool,x,k⟩:=by
  cases A with
  |d v=>exact hu.symm
  |_=>simp[bN]at hu
 subst y;rw[r]at e;refine⟨_,rfl,?_⟩;cases t with
 |true=>
  rw[l x (i (e.1 rfl).2)];simp
 |false=>
  rw[q (e.2 rfl)];simp
 cases h
theorem Am(v:SV)(o:Option (Nat×Bool)):dO o none v=v.jA:=by
 unfold dO;split<;>simp_all
theorem aaf{v:SV}{mv:Value}(hs:ck w G v mv)(hm:bg U G v):ck w G v.jA mv/\bg U G v.jA:=by
 cases v with
 |g=>exact⟨trivial,by simp[bg,SV.jA,SV.sc,SV.bt,SV.rt]⟩
 |_=>exact⟨hs,hm⟩
theorem Zy{v:SV}{t:Nat}{u:TV}(h:v.jA= .box t u):v= .box t u:=by
 cases v with
 |g=>cases h
 |_=>exact h
theorem Y7{v u:SV}{j:Nat}{w act:Bool}:v.jA≠ .g j w act u:=by
 cases v<;>simp[SV.jA]
theorem S3{v:SV}{mv:Value}{j:Nat}{w':Bool}(hs:ck w G v mv)(hm:bg U G v):ck w G (dO (some (j,w')) (some true) v) mv/\bg U G (dO (some (j,w')) (some true) v)/\∀t u,dO (some (j,w')) (some true) v≠ .box t u:=by
 unfold dO;cases b:v.du with
 |true=>simp only[b,if_true];exact⟨trivial,by simp[bg,SV.sc,SV.bt,SV.rt],by simp⟩
 |false=>
  simp only[b,ad0,if_false];exact⟨⟨fun _=>⟨b,hs⟩,fun e=>absurd e (by simp)⟩,by simpa[bg,SV.sc,SV.bt,SV.rt]using hm,by simp⟩
theorem Sz{v:SV}{j:Nat}{w':Bool}:ck w G (dO (some (j,w')) (some false) v) undef/\bg U G (dO (some (j,w')) (some false) v)/\∀t u,dO (some (j,w')) (some false) v≠ .box t u:=by
 unfold dO;cases b:v.du with
 |true=>simp only[b,if_true];exact⟨trivial,by simp[bg,SV.sc,SV.bt,SV.rt],by simp⟩
 |false=>
  simp only[b,ad0,if_false];exact⟨⟨fun e=>absurd e (by simp),fun _=>rfl⟩,by simp[bg,SV.sc,SV.bt,SV.rt],by simp⟩
end
section
variable{P:Program}{C:Cx}{w0:World}{c0:C0}{U:Nat->Prop}{E:Env}{a:Act}{w:World}{G:Gh}{ops:List Oper}{L:Nat->Prop}{Q:Exit->Act->World->Prop}
theorem mr.put(h:mr ops L E a.tmps){i:Nat}{o:Oper}(hi:ops[i]?=some o)(B:gk ops=true)(D:¬L i)(I:∀j w',o.guard=some (j,w')->L j){sv:SV}{mv:Value}
 (N:∀j w' act v,sv= .g j w' act v->(act=true↔yielded ops.toArray a.tmps j=some w')/\o.guard=some (j,w')):
 mr ops (fun j=>L j\/j=i) (E.set o.dst sv) (a.put o.dst mv).tmps:=by
 have y:o∈ops:=adP hi
 have p:∀j,L j->(∃A∈ops,∃w',A.guard=some (j,w'))->yielded ops.toArray (a.put o.dst mv).tmps j=yielded ops.toArray a.tmps j:=by
  rintro j K ⟨A,ho',w',hw'⟩;exact Si (OV B ho' hw' hi (fun e=>D (e▸K)))
 intro s j w' act v hs
 have q:E.s.getD s .no= .g j w' act v\/sv= .g j w' act v:=by
  cases J:o.dst with
  |none=>rw[J]at hs;exact .inl hs
  |some d=>
   rw[J]at hs;simp only[Env.set,dF]at hs;split at hs;exact .inr hs;exact .inl hs
 rcases q with hs|hs;obtain⟨H,u,z⟩:=h s j w' act v hs;rw[p j u z];exact⟨H,.inl u,z⟩;obtain⟨H,u⟩:=N j w' act v hs;have z:∃A∈ops,∃w',A.guard=some (j,w'):=⟨o,y,w',u⟩
 rw[p j (I j w' u) z];exact⟨H,.inl (I j w' u),z⟩
theorem dh{i:Nat}{o:Oper}(b:ops[i]?=some o){K:Act->World->Prop}(hw:Region.wanted o (yielded ops.toArray a.tmps)=true)(h:o.wp P a w K Q):wpOp P ops.toArray Q i K a w:=by
 unfold wpOp;simp only[adX,b,hw,if_true];exact .inl h
theorem oA{o:Oper}{K:Act->World->Prop}{R:Value->World->Prop}(h:Enters P ((execOp a.eval o).run P w) R)(c:∀v w',R v w'->K (a.put o.dst v) w'):o.wp P a w K Q:=by
 unfold Oper.wp;unfold Enters at h;split at h;rename_i f args d b;rw[b];exact Calls.mono h (fun e w' ⟨v,h1,h2⟩=>by subst h1;exact c v w' h2);rename_i v d b;rw[b];exact c _ _ h;exact h.elim
theorem lE{E':Env}{o:Oper}{K:Act->World->Prop}{sv:SV}(h:Yields w0 c0 U E' a ((execOp a.eval o).run P w) sv)
 (c:∀v w' G',Inv w0 c0 U E' a w' G'->ck w' G' sv v->bg U G' sv->(∀t u,sv= .box t u->∀s b,E'.s.getD s .no≠ .box t b)->K (a.put o.dst v) w'):o.wp P a w K Q:=by
 obtain⟨d,w',G',e,i,j,k,l⟩:=h;unfold Oper.wp;rw[e];exact c d w' G' i j k l
theorem Ma(hC:mR P C){i:Nat}{o:Oper}(W:ops[i]?=some o)(hI:Inv w0 c0 U E a w G)(r:mr ops L E a.tmps)(hL:∀j w',o.guard=some (j,w')->L j)(S:¬L i)(T:gk ops=true)
 {tk:Nat} (h3:4<=tk) (hU:∀u,tk<=u->u<tk+32->¬U u) {act:Option Bool} {Y:Ef} (F:guardOf ops E.rd o.guard=some act) (I:jk C ops E.rd tk o.guard o=some Y)
 {E':Env} (d:bc o act E some Y=some E') {K:Act->World->Prop}
 (hK:∀a' w' G',Inv w0 c0 (fun u=>U u\/(tk<=u/\u<tk+32)) E' a' w' G'->mr ops (fun j=>L j\/j=i) E' a'.tmps->(∃v,a'=a.put o.dst v)->K a' w'):wpOp P ops.toArray Q i K a w:=by
 have ad:=hI.mono (U':=fun u=>U u\/(tk<=u/\u<tk+32)) (fun u hu=> .inl hu);cases k:o.guard with
 |none=>
  rw[k]at F I;simp only[guardOf,adg]at F;subst F;have q:Region.wanted o (yielded ops.toArray a.tmps)=true:=by simp[Region.wanted,k]
  have B:=Lo hC hI r.ri (g:=none) (by rintro j w' ⟨⟩) h3 hU I;refine dh W q ?_
  have fin:∀ {E1:Env} {sv:SV} {mv:Value} {w':World} {G':Gh},mr ops L E1 a.tmps->E'=E1.set o.dst sv.jA->Inv w0 c0 (fun u=>U u\/(tk<=u/\u<tk+32)) E1 a w' G'->ck w' G' sv mv->
   bg (fun u=>U u\/(tk<=u/\u<tk+32)) G' sv->(∀t u,sv= .box t u->∀s u',E1.s.getD s .no≠ .box t u')->K (a.put o.dst mv) w':=by
   intro E1 sv mv w' G' r1 D g1 g2 g3 g4;obtain⟨Z,H⟩:=aaf g2 g3;refine hK _ _ G' ?_ ?_ ⟨_,rfl⟩;rw[D];exact g1.put o.dst Z H.1 H.2.1 H.2.2 (fun t u e=>g4 t u (Zy e));rw[D];exact r1.put W T S hL (fun j w' act v e=>absurd e Y7)
  have skip:∀ {E1:Env} {w':World} {G':Gh},mr ops L E1 a.tmps->E'=E1->o.dst=none->Inv w0 c0 (fun u=>U u\/(tk<=u/\u<tk+32)) E1 a w' G'->K (a.put o.dst undef) w':=by
   intro E1 w' G' r1 D hd g1;refine hK _ _ G' ?_ ?_ ⟨_,rfl⟩;rw[D,hd];exact g1;rw[D,hd];intro s j w' act v hs;obtain⟨q1,q2,q3⟩:=r1 s j w' act v hs;exact⟨q1,.inl q2,q3⟩
  cases Y with
  |val v=>
   simp only[bc,adg]at d;rw[Am]at d;exact lE B (fun mv w' G' g1 g2 g3 g4=>fin r d.symm g1 g2 g3 g4)
  |chk c v=>
   simp only[bc]at d;split at d;rename_i hc;simp only[adg]at d;rw[Am]at d;exact lE (B hc) (fun mv w' G' g1 g2 g3 g4=>fin r d.symm g1 g2 g3 g4);cases d
  |opt α z x f=>
   simp only[bc,adJ,adg]at d;obtain⟨y,A,d⟩:=d;rw[Am]at d;exact oA (B y A) (fun mv w' ⟨G',g1,g2,g3,g4⟩=>fin r d.symm g1 g2 g3 g4)
  |put b s v=>
   simp only[bc]at d;split at d;rename_i hc;simp only[adg]at d;simp only[adV,aey,aen]at hc;obtain⟨w',G',V,h2⟩:=B;unfold Oper.wp;rw[V];refine skip (E1:={E with s:=E.s.set s (.box b v)}) (r.map (fun s' j w' act u h=> ?_)) d.symm hc h2;simp only[dF]at h;split at h;cases h;exact⟨u,h⟩;cases d
  |app c kl N t v=>
   simp only[bc,adV,if_true]at d;split at d;rename_i hc;simp only[adg]at d
   exact lE (B hc) (fun mv w' G' g1 g2 g3 g4=>fin (r.map (fun s j w' act u h=>by
    obtain⟨v1,V⟩:=aaz h;exact PH V)) d.symm g1 g2 g3 g4)
   cases d
  |elem N b e l m=>
   simp only[bc]at d;split at d;rename_i hc;simp only[adg]at d;simp only[adV,aey,aen]at hc;obtain⟨w',G',V,h2⟩:=B;unfold Oper.wp;rw[V];exact skip (r.map (fun s j w' act u h=>Qu h)) d.symm hc h2;cases d
  |nap c N b e l m v=>
   simp only[bc,adV,if_true]at d;split at d;rename_i hc;simp only[adg]at d;rcases B hc with hY|⟨rfl,w',G',V,h2⟩;exact lE hY (fun mv w' G' g1 g2 g3 g4=>fin (r.map (fun s j w' act u h=>Qu h)) d.symm g1 g2 g3 g4);unfold Oper.wp;rw[V];exact fin (sv:= .no) (mv:=undef) (r.map (fun s j w' act u h=>Qu h)) d.symm h2 trivial (by simp[bg,SV.sc,SV.bt,SV.rt]) (by rintro _ _ ⟨⟩);cases d
  |call α x J f rp=>
   simp only[bc,adV,if_true,adJ,adg]at d;obtain⟨y,A,d⟩:=d;exact oA (B y A) (fun mv w' ⟨G',g1,g2,g3,g4⟩=>fin (E1:={E.cm J (rp y)with s:=bK (f y).2 (E.cm J (rp y)).s}) (r.map (fun s j w' act u h=>Sr (IX h))) d.symm g1 g2 g3 g4)
 |some p=>
  obtain⟨j,w'⟩:=p;rw[k]at F I;obtain⟨b,rfl,hb⟩:=AZ hI F;have hj:=hL j w' k;cases b with
  |true=>
   have A:=hb.1 rfl;have q:Region.wanted o (yielded ops.toArray a.tmps)=true:=by simp[Region.wanted,k,A]
   have B:=Lo hC hI r.ri (g:=some (j,w')) (by rintro j1 O ⟨⟩;exact A) h3 hU I;refine dh W q ?_
   have fin:∀ {sv:SV} {mv:Value} {O:World} {G':Gh},E'=E.set o.dst (dO (some (j,w')) (some true) sv)->Inv w0 c0 (fun u=>U u\/(tk<=u/\u<tk+32)) E a O G'->ck O G' sv mv->
    bg (fun u=>U u\/(tk<=u/\u<tk+32)) G' sv->K (a.put o.dst mv) O:=by
    intro sv mv O G' D g1 g2 g3;obtain⟨Z,H,k3⟩:=S3 (j:=j) (w':=w') g2 g3;refine hK _ _ G' ?_ ?_ ⟨_,rfl⟩;rw[D];exact g1.put o.dst Z H.1 H.2.1 H.2.2 (fun t u e=>absurd e (k3 t u));rw[D];refine r.put W T S hL (fun j1 O act v e=> ?_);unfold dO at e;simp only at e;split at e;cases e;simp only[SV.g.injEq]at e;obtain⟨rfl,rfl,rfl,_⟩:=e;exact⟨⟨fun _=>A,fun _=>rfl⟩,k⟩
   cases Y with
   |val v=>
    simp only[bc,adg]at d;rw[k]at d;exact lE B (fun mv w' G' g1 g2 g3 _=>fin d.symm g1 g2 g3)
   |chk c v=>
    simp only[bc]at d;split at d;rename_i hc;simp only[adg]at d;rw[k]at d;exact lE (B (by simpa using hc)) (fun mv w' G' g1 g2 g3 _=>fin d.symm g1 g2 g3);cases d
   |opt α z x f=>
    simp only[bc,if_true,adJ,adg]at d;obtain⟨y,A,d⟩:=d;rw[k]at d;exact oA (B y A) (fun mv w' ⟨G',g1,g2,g3,g4⟩=>fin d.symm g1 g2 g3)
   |put b s v=>simp[bc]at d
   |app c kl N t v=>simp[bc]at d
   |elem N b e l m=>simp[bc]at d
   |nap c N b e l m v=>simp[bc]at d
   |call α x J f rp=>simp[bc]at d
  |false=>
   have A:yielded ops.toArray a.tmps j≠some w':=fun h=>by have:=hb.2 h;cases this
   have q:Region.wanted o (yielded ops.toArray a.tmps)=false:=by
    simp only[Region.wanted,k];simpa using A
   have fin:∀ {sv:SV},E'=E.set o.dst (dO (some (j,w')) (some false) sv)->K (a.put o.dst undef) w:=by
    intro sv D;obtain⟨Z,H,k3⟩:=Sz (w:=w) (G:=G) (U:=fun u=>U u\/(tk<=u/\u<tk+32)) (v:=sv) (j:=j) (w':=w');refine hK _ _ G ?_ ?_ ⟨_,rfl⟩;rw[D];exact ad.put o.dst Z H.1 H.2.1 H.2.2 (fun t u e=>absurd e (k3 t u));rw[D];refine r.put W T S hL (fun j1 O act v e=> ?_);unfold dO at e;simp only at e;split at e;cases e;simp only[SV.g.injEq]at e;obtain⟨rfl,rfl,rfl,_⟩:=e;exact⟨⟨fun h=>absurd h (by simp),fun h=>absurd h A⟩,k⟩
   unfold wpOp;simp only[adX,W,q,ad0,if_false];cases Y with
   |val v=>
    simp only[bc,adg]at d;rw[k]at d;exact fin d.symm
   |chk c v=>
    simp only[bc]at d;split at d;simp only[adg]at d;rw[k]at d;exact fin d.symm;cases d
   |opt α z x f=>
    simp only[bc,adJ,adg]at d;obtain⟨y,A,d⟩:=d;rw[k]at d;exact fin d.symm
   |put b s v=>simp[bc]at d
   |app c kl N t v=>simp[bc]at d
   |elem N b e l m=>simp[bc]at d
   |nap c N b e l m v=>simp[bc]at d
   |call α x J f rp=>simp[bc]at d
def Kk(C:Cx)(ops:List Oper)(b i:Nat)(o:Oper)(E:Env):Option Env:=
 match guardOf ops E.rd o.guard with
 |none=>none
 |some a=>match jk C ops E.rd (b+32*i) o.guard o with
  |none=>none
  |some c=>bc o a E some c
theorem DZ{ρ:Type}(o:Oper)(a:Option Bool)(E:Env)(k:Env->Option ρ)(d:Ef):bc o a E k d=(bc o a E some d).bind k:=by
 cases d with
 |val v=>rfl
 |chk c v=>simp only[bc];split<;>split<;>rfl
 |opt α z x f=>simp only[bc,aeF];rfl
 |put b s v=>simp only[bc];split<;>rfl
 |app c kl h t v=>simp only[bc];split<;>(try split)<;>rfl
 |elem h b e l m=>simp only[bc];split<;>rfl
 |nap c h b e l m v=>simp only[bc];split<;>(try split)<;>rfl
 |call α x tks f rp=>simp only[bc];split
                     simp only[aeF];rfl;rfl
theorem Tm{ρ:Type}(C:Cx)(ops:List Oper)(b:Nat)(o:Oper)(l:List Oper)(i:Nat)(E:Env)(k:Env->Option ρ):
 xi C ops b (o::l) i E k=(Kk C ops b i o E).bind fun E'=>xi C ops b l (i+1) E' k:=by
 simp only[xi,Kk];cases guardOf ops E.rd o.guard with
 |none=>rfl
 |some a=>cases jk C ops E.rd (b+32*i) o.guard o with
  |none=>rfl
  |some ef=>exact DZ ..
end
theorem aW.SG:∀(a b:List Ty) (x:aW a) (y:aW b),aW.fst a b (aW.app a b x y)=x
 | [],_,_,_=>rfl
 |_::a,b,x,y=>by
  show(x.1,aW.fst a b (aW.app a b x.2 y))=x;rw[aW.SG a b x.2 y];rfl
theorem aW.SU:∀(a b:List Ty) (x:aW a) (y:aW b),aW.snd a b (aW.app a b x y)=y
 | [],_,_,_=>rfl
 |_::a,b,x,y=>aW.SU a b x.2 y
theorem jn{r:Ren}{b:Nat}(h:wZ r b=true){t c:Nat}(d:r.lookup t=some c):4<=c/\c<b/\r.find? (·.2=c)=some (t,c):=by
 have hm:=gK d;simp only[wZ,G6,u_,b_,beq_iff_eq]at h;obtain⟨⟨e,i⟩,j⟩:=h (t,c) hm;exact⟨e,i,j⟩
theorem SC{r:Ren}{t c:Nat}(h3:4<=t)(h:r.lookup t=some c):me r t=c:=by
 unfold me;rw[a_ (by omega),h];rfl
def oF(G:Gh)(r:Ren)(bs:List Nat):Gh:=
 ⟨fun b=>me r (G.col b),fun c=>match r.find? (·.2=c)with|some p=>if 1000000000<=p.1 then .slice none 0 0 else G.hdr p.1|none=>undef,fun c=>bs.contains c⟩
section
variable{P:Program}{C:Cx}{w0:World}{c0:C0}{U:Nat->Prop}{E:Env}{a:Act}{w:World}{G:Gh}{ops:List Oper}{L:Nat->Prop}{Q:Exit->Act->World->Prop}
theorem A6{r:Ren}{b:Nat}(d:wZ r b=true){bs:List Nat}{t c:Nat}(e:r.lookup t=some c)(ht:t<1000000000):(oF G r bs).hdr c=G.hdr t:=by
 obtain⟨_,_,h⟩:=jn d e;simp only[oF,h];rw[a_ (by omega)]
theorem Z4{r:Ren}{I:Nat}(s:wZ r I=true){bs:List Nat}{e:Ty}{l:List e.den}{v:Value}{m u:M}(h:bV w G e l v m)(d:BN r m u=true)(J:∀c∈m.ar,c<1000000000):
 bV w (oF G r bs) e l v u:=by
 cases u with
 |dead=>exact h.one
 |row c hc nd'=>
  cases m with
  |row t hs Y=>
   simp only[BN,u_,aee,M',G6,v_,b_]at d;obtain⟨⟨z,A⟩,D⟩:=d;obtain⟨N,O,B,k,i⟩:=h;obtain⟨g1,g2,g3⟩:=jn s z;refine⟨g1,(A6 s z (J t (by simp[M.ar]))).trans O,B,k,fun b F p=> ?_⟩;obtain⟨S,T,V,W⟩:=i b F p;refine⟨by simp only[oF,S];exact SC N z,T,fun x H=>D _ (V x H),fun q=> ?_⟩;subst q;rcases A with h|h;cases h;exact W h
  |sha hs=>
   cases hs with
   |nil=>
    simp only[BN,b_]at d;obtain⟨g1,g2,g3⟩:=jn s d;obtain⟨⟨B,k,i⟩,j⟩:=h
    have y:B=[]:=by
     cases B with
     |nil=>rfl
     |cons x l=>exact absurd (i x (by simp)) (by simp)
    subst y;have K:v= .slice none 0 0:=j rfl;refine⟨g1,?_,[],k,by simp⟩;simp only[oF,g3];rw[an (by simp[QC]),K]
   |cons x l=>simp[BN]at d
  |nst=>simp[BN]at d
  |dead=>simp[BN]at d
 |nst=>cases m<;>simp[BN]at d
 |sha hc=>
  cases m with
  |row t hs Y=>
   simp only[BN,G6,v_,b_]at d;obtain⟨B,k,i⟩:=h.rep (by simp);refine⟨⟨B,k,fun b p=>d _ (i b p)⟩,fun e=> ?_⟩;have:=d t (by simp);rw[e]at this;simp at this
  |sha hs=>
   simp only[BN,G6,v_,b_]at d;obtain⟨⟨B,k,i⟩,j⟩:=h;refine⟨⟨B,k,fun b p=>d _ (i b p)⟩,fun e=> ?_⟩;cases hs with
   |nil=>exact j rfl
   |cons x l=>have:=d x (by simp);rw[e]at this;simp at this
  |nst=>simp[BN]at d
  |dead=>simp[BN]at d
theorem bh.cut{r:Ren}{y:Nat}(u:wZ r y=true){bs:List Nat}:∀ {τ:Ty} {x:τ.den} {sh q:Sh} {cs:List Value},bh w G τ x sh cs->DW r sh q=true->(∀c∈sh.ar,c<1000000000)->
 bh w (oF G r bs) τ x q cs
 | .int _,_,.leaf,.leaf,_,h,_,_| .bool,_,.leaf,.leaf,_,h,_,_| .str,_,.leaf,.leaf,_,h,_,_=>h
 | .sl e,l,.sl m,.sl m',cs,h,ho,hn=>by
   obtain⟨v,rfl,h⟩:=h;exact⟨v,rfl,Z4 u h ho hn⟩
 | .pair a b,p,.pair s1 s2,.pair s1' s2',cs,h,ho,hn=>by
   obtain⟨z,A,rfl,B,D⟩:=h;simp only[DW,u_]at ho;exact⟨z,A,rfl,bh.cut u B ho.1 (fun c h=>hn c (by simp[Sh.ar,h])),bh.cut u D ho.2 (fun c h=>hn c (by simp[Sh.ar,h]))⟩
 |_,_,.leaf,.sl _,_,_,ho,_|_,_,.leaf,.pair _ _,_,_,ho,_|_,_,.sl _,.leaf,_,_,ho,_|_,_,.sl _,.pair _ _,_,_,ho,_|_,_,.pair _ _,.leaf,_,_,ho,_|_,_,.pair _ _,.sl _,_,_,ho,_=>by simp[DW]at ho
 | .sl _,_,.leaf,.leaf,_,h,_,_| .pair _ _,_,.leaf,.leaf,_,h,_,_| .int _,_,.sl _,.sl _,_,h,_,_| .bool,_,.sl _,.sl _,_,h,_,_| .str,_,.sl _,.sl _,_,h,_,_| .pair _ _,_,.sl _,.sl _,_,h,_,_
 | .int _,_,.pair _ _,.pair _ _,_,h,_,_| .bool,_,.pair _ _,.pair _ _,_,h,_,_| .str,_,.pair _ _,.pair _ _,_,h,_,_| .sl _,_,.pair _ _,.pair _ _,_,h,_,_=>h.elim
theorem Vf(K:Inv w0 c0 U E a w G)(A:∀u,U u->u<1000000000){r:Ren}{V:Nat}(m:wZ r V=true){bs:List Nat}{s:Nat}{k:AK}{x:aW k.JK}(h:vn E r s k=some x):
 ck w (oF G r bs) (pO k x) (a.tmps.getD s undef)/\(∀c v,pO k x= .box c v->∃t u,E.s.getD s .no= .box t u/\r.lookup t=some c):=by
 have hs:=K.slots s;have hm:=K.oK s;cases k with
 |val τ N=>
  simp only[vn,Env.get]at h;split at h;rename_i v j;split at h;rename_i d;split at h;rename_i y hc;cases h;rw[j]at hs hm;obtain⟨cs,q,l⟩:=hs;have e:=dv hc;rw[e]at q l d hm;refine⟨⟨cs,q,bh.cut m l d (fun c hc=>A c (hm.1 c hc).2.1)⟩,?_⟩;rintro c u ⟨⟩;cases h;cases h;cases h
 |box c τ N=>
  simp only[vn,Env.get]at h;split at h;rename_i t v j;split at h;rename_i d;simp only[u_,b_]at d;split at h;rename_i y hc;cases h;rw[j]at hs hm;obtain⟨F,I,el,q,l,z,H,B,h6⟩:=hs;have e:=dv hc;rw[e]at h6 d hm;obtain⟨g1,g2,g3⟩:=jn m d.2;refine⟨⟨F,I,el,q,g1,(A6 m d.2 (A t (hm.2.1 t (by simp[SV.bt])).2.1)).trans z,?_,B,bh.cut m h6 d.1 (fun c hc=>A c (hm.1 c hc).2.1)⟩,?_⟩;simp only[oF,H];exact SC l d.2;rintro J u ⟨⟩;exact⟨t,v,j,d.2⟩;cases h;cases h;cases h
 |ptr c o p τ=>
  simp only[vn,Env.get]at h;split at h;rename_i t O S T j;split at h;rename_i d;simp only[u_,b_]at d;obtain⟨⟨⟨d,rfl⟩,_⟩,_⟩:=d;rw[j]at hs hm;obtain⟨F,q,l,z⟩:=hs;obtain⟨g1,g2,g3⟩:=jn m d;refine⟨⟨F,g1,(A6 m d (A t (hm.2.1 t (by simp[SV.bt])).2.1)).trans l,z⟩,?_⟩;rintro J u ⟨⟩;cases h;cases h
 |ept c e o p τ=>
  simp only[vn,Env.get]at h;split at h;rename_i t e' i O S T j;split at h;rename_i d;simp only[u_,b_]at d;obtain⟨⟨⟨⟨d,rfl⟩,rfl⟩,_⟩,_⟩:=d;cases h;rw[j]at hs hm;obtain⟨b,off,n,cap,q,l,z,H,B⟩:=hs;obtain⟨g1,g2,g3⟩:=jn m d;refine⟨⟨b,off,n,cap,g1,(A6 m d (A t (hm.2.2 t (by simp[SV.rt])).2.1)).trans l,z,H,B⟩,?_⟩;rintro J u ⟨⟩;cases h;cases h
 |rdp hc τ N=>
  simp only[vn,Env.get]at h;split at h;rename_i hs' v j;split at h;rename_i d;simp only[u_,G6,v_,b_]at d;split at h;rename_i y D;cases h;rw[j]at hs hm;obtain⟨F,o,I,el,W,q,l,z,H,B⟩:=hs;have e:=dv D;rw[e]at z B d hm;refine⟨⟨F,o,I,el,W,q,l,z,d.2 _ H,bh.cut m B d.1 (fun c hc=>A c (hm.1 c (by simp[SV.sc,hc])).2.1)⟩,?_⟩;rintro c u ⟨⟩;cases h;cases h;cases h
theorem V1{k:AK}{x:aW k.JK}{G':Gh}{U':Nat->Prop}(hs:∀c∈k.sc,0<c/\U' c/\G'.bx c=false)(b:∀c∈k.bt,0<c/\U' c/\G'.bx c=true):bg U' G' (pO k x):=by
 cases k with
 |val τ d=>exact⟨hs,by simp[pO,SV.bt],by simp[pO,SV.rt]⟩
 |box c τ d=>exact⟨hs,b,by simp[pO,SV.rt]⟩
 |ptr c o p τ=>exact⟨by simp[pO,SV.sc],b,by simp[pO,SV.rt]⟩
 |ept c e o p τ=>exact⟨by simp[pO,SV.sc],by simp[pO,SV.bt],hs⟩
 |rdp hc τ d=>exact⟨hs,by simp[pO,SV.bt],by simp[pO,SV.rt]⟩
theorem aax{k:AK}{x:aW k.JK}{j:Nat}{w act:Bool}{v:SV}:pO k x≠ .g j w act v:=by
 cases k<;>simp[pO]
def sD(L:List SV):Prop:=∀s j w act v,L.getD s .no≠ .g j w act v
theorem Jl(d:Inv w0 c0 U E a w G)(i:∀u,U u->u<1000000000){r:Ren}{A:Nat}(m:wZ r A=true){bs:List Nat}{U':Nat->Prop}:
 ∀ {l:List (Nat×AK)} {t:aW (mY l)} {K:List SV},Eu E r l=some t->(∀c∈l.flatMap (fun p=>p.2.sc),0<c/\U' c/\(oF G r bs).bx c=false)->(∀c∈l.flatMap (fun p=>p.2.bt),0<c/\U' c/\(oF G r bs).bx c=true)->
 (∀s,ck w (oF G r bs) (K.getD s .no) (a.tmps.getD s undef)/\bg U' (oF G r bs) (K.getD s .no))->(∀s c v,K.getD s .no= .box c v->∃t u,E.s.getD s .no= .box t u/\r.lookup t=some c)->sD K->
 (nj l t K).length=K.length/\(∀s,ck w (oF G r bs) ((nj l t K).getD s .no) (a.tmps.getD s undef)/\bg U' (oF G r bs) ((nj l t K).getD s .no))/\
  (∀s c v,(nj l t K).getD s .no= .box c v->∃t u,E.s.getD s .no= .box t u/\r.lookup t=some c)/\sD (nj l t K)
 | [],t,K,_,_,_,h1,h2,h3=>⟨rfl,h1,h2,h3⟩
 |(s,k)::l,t,K,h,hs,hb,h1,h2,h3=>by
  simp only[Eu]at h;split at h;rename_i x y q z;cases h;obtain⟨g1,g2⟩:=Vf (bs:=bs) d i m q;simp only[List.flatMap_cons,kT]at hs hb;simp only[nj];rw[aW.SG,aW.SU]
  obtain⟨q1,q2⟩:=Jl d i m (K:=K.set s (pO k x)) z (fun c hc=>hs c (.inr hc)) (fun c hc=>hb c (.inr hc)) (fun b=>by
   rw[dF];split;rename_i e;rw[e.1];exact⟨g1,V1 (fun c hc=>hs c (.inl hc)) (fun c hc=>hb c (.inl hc))⟩;exact h1 b) (fun b c v he=>by
   rw[dF]at he;split at he;rename_i e;rw[e.1];exact g2 c v he;exact h2 b c v he) (fun b j w act v he=>by
   rw[dF]at he;split at he;exact aax he;exact h3 b j w act v he)
  exact⟨by rw[q1];simp,q2⟩;cases h
theorem tf(i:Inv w0 c0 (fun u=>u<E.nt) E a w G){n:sE}{N:Nat}(O:E.s.length=N){t:aW (mY n.ks)}(h:proj n E=some t):
 ∃G',Inv w0 c0 (fun u=>u<(dA N n t).nt) (dA N n t) a w G'/\sD (dA N n t).s/\(dA N n t).s.length=N/\4<=(dA N n t).nt:=by
 unfold proj at h;split at h;rename_i r m;split at h;rename_i hc;simp only[u_,b_]at hc;obtain⟨⟨hnt,y⟩,B⟩:=hc;simp only[YS,u_,G6,b_,M',v_,d_]at y;obtain⟨⟨⟨D,x⟩,z⟩,_⟩:=y
 have l:∀s,(aeg N SV.no).getD s .no= .no:=by
  intro s;rw[lk,List.getElem?_replicate];split<;>rfl
 obtain⟨q1,q2,q3,q4⟩:=Jl (bs:=n.ks.flatMap fun(p:Nat×AK)=>p.2.bt) (U':=fun u=>u<n.nt) (K:=aeg N .no) i (fun u hu=>by omega) B h
  (fun c hc=>⟨(z c hc).1.1,(z c hc).1.2,by simpa[oF]using(z c hc).2⟩)
  (fun c hc=>⟨(x c hc).1.1.1,(x c hc).1.1.2,by simpa[oF]using hc⟩)
  (fun s=>by rw[l];exact⟨trivial,by simp[bg,SV.sc,SV.bt,SV.rt]⟩) (fun s c v he=>by rw[l]at he;cases he) (fun s j w act v he=>by rw[l]at he;cases he)
 have d:∀b,(me r (G.col b)=G.col b/\G.col b<=3)\/(4<=G.col b/\me r (G.col b)=2)\/(4<=G.col b/\4<=me r (G.col b)/\me r (G.col b)<n.nt):=by
  intro b;unfold me;split;rename_i h;exact .inl ⟨rfl,h⟩;rename_i h;cases S:r.lookup (G.col b)with
  |none=>right;left;exact⟨by omega,rfl⟩
  |some k=>
   obtain⟨V,W,_⟩:=jn B S;right;right;exact⟨by omega,V,W⟩
 refine⟨oF G r (n.ks.flatMap fun(p:Nat×AK)=>p.2.bt),⟨?_,fun s=>(q2 s).1,fun s=>(q2 s).2.1,fun s=>(q2 s).2.2.1,fun s=>(q2 s).2.2.2,?_,fun b m=> ?_,fun b m=> ?_,fun b m=> ?_,fun b m hc=> ?_,fun b m=> ?_,i.size,i.os,i.tape,i.output,i.defers,?_,fun H=>by cases H⟩,q4,by
  show(nj n.ks t (aeg N .no)).length=N;rw[q1];simp,D⟩
 show a.tmps.size=(nj n.ks t (aeg N .no)).length;rw[q1,i.len,O];simp;intro s F c v I J A;obtain⟨t1,Y,Z,l1⟩:=q3 s c v J;obtain⟨t2,u2,e2,l2⟩:=q3 F c I A;have f1:=(jn B l1).2.2;have f2:=(jn B l2).2.2;rw[f1]at f2;simp only[adg,adk,and_true]at f2;subst f2;exact i.uni s F t1 Y u2 Z e2;have:me r (G.col b)<n.nt:=by rcases d b with h|h|h<;>omega
 exact this;have q:0<me r (G.col b):=m;refine i.lt b ?_;rcases d b with h|h|h<;>omega;have q:4<=me r (G.col b):=m;refine i.fresh b ?_;rcases d b with h|h|h<;>omega;have T:=i.frame b m hc;refine⟨?_,T.2⟩;show me r (G.col b)=c0.col b;rcases d b with h|h|h<;>omega;have q:me r (G.col b)=1\/me r (G.col b)=3:=m;show b<_/\c0.col b=me r (G.col b);have e:me r (G.col b)=G.col b:=by rcases d b with h|h|h<;>omega
 rw[e]at q|-;exact i.one b q;refine⟨⟨by show 2<n.nt;omega,?_⟩,by show 3<n.nt;omega,?_⟩;show List.contains _ 2=false;simp only[v_,d_];intro A;have:=(x 2 A).1.2;simp at this;show List.contains _ 3=false;simp only[v_,d_];intro A;have:=(x 3 A).2;simp at this;cases h;cases h
end
theorem dM(E:Env)(d:Option Nat)(v:SV):(E.set d v).s.length=E.s.length:=by cases d<;>simp[Env.set]
theorem Kt(E:Env)(d:Option Nat)(v:SV):(E.set d v).nt=E.nt:=by cases d<;>rfl
theorem Pn(E:Env)(ts:List Nat):(E.kill ts).s.length=E.s.length:=by unfold Env.kill;split<;>simp
theorem QB(E:Env)(ts:List Nat)(t:Nat):(E.aO ts t).s.length=E.s.length:=by unfold Env.aO;split<;>simp
structure ff(o:Oper)(R R':Rd):Prop where
 get:∀s∈tmpsOf o,R'.get s=R.get s
 box:dR o=true->∀s∈tmpsOf o,∀b off p τ,(R.get s).strip= .ptr b off p τ->R'.box b=R.box b
 row:dR o=true->∀s∈tmpsOf o,∀b e,Rg (R.get s).strip=some (b,e)->R'.row b e=R.row b e
section
variable{C:Cx}{R R':Rd}{o:Oper}{ops:List Oper}{tk:Nat}{g:Option (Nat×Bool)}
theorem uQ{s:Nat}(h:Operand.tmp s∈o.op.operands.toList):s∈tmpsOf o:=by
 unfold tmpsOf;exact aeC.2 ⟨.tmp s,h,rfl⟩
theorem MS(h:ff o R R'){t:TypeId}{x:Operand}(b:x∈o.op.operands.toList):fZ C R' t x=fZ C R t x:=by
 cases x with
 |tmp s=>simp only[fZ];rw[h.get s (uQ b)]
 |_=>rfl
theorem AS(h:ff o R R'){t:TypeId}{x:Operand}(b:x∈o.op.operands.toList):arg C R' g t x=arg C R g t x:=by
 simp only[arg,MS h b]
theorem iR(h:ff o R R'){t:TypeId}{x:Operand}(b:x∈o.op.operands.toList):cZ C R' g t x=cZ C R g t x:=by
 simp only[cZ,AS h b]
theorem Nf{t:TypeId}{x:Operand}{sv:SV}(h:arg C R g t x=some sv)(k:(∃b off p τ,sv= .ptr b off p τ)\/∃b e i off p τ,sv= .ept b e i off p τ):
 ∃s,x= .tmp s/\(R.get s).strip=sv:=by
 simp only[arg,adJ]at h;obtain⟨l,c,d⟩:=h;cases x with
 |tmp s=>
  simp only[fZ,adg]at c;refine⟨s,rfl,?_⟩;rw[c];cases l with
  |g j w a v=>simp only[xp]at d;split at d<;>simp_all[SV.strip]
  |_=>simp only[xp,adg]at d;subst d;rfl
 |const v=>
  exfalso;simp only[fZ]at c;split at c;rw[E_]at c;obtain⟨r,_,rfl⟩:=c;simp only[xp,adg]at d;subst d;rcases k with⟨_,_,_,_,h⟩|⟨_,_,_,_,_,_,h⟩<;>cases h;cases c
 |global x=>simp[fZ]at c
 |func x=>simp[fZ]at c
theorem Hk(h:ff o R R')(c:dR o=true){t:TypeId}{x:Operand}(d:x∈o.op.operands.toList){b off:Nat}{p:List Bool}{τ:Ty}(e:arg C R g t x=some (.ptr b off p τ)):R'.box b=R.box b:=by
 obtain⟨s,rfl,hs⟩:=Nf e (.inl ⟨_,_,_,_,rfl⟩);exact h.box c s (uQ d) b off p τ hs
theorem US{τ σ:Ty}{v:Value}{z:σ.den}{b off:Nat}{e:Ty}{i:Int}{p:List Bool}{fr:Bool}(h:DA τ v=some ⟨σ,z,.sl (.nst b e i off p fr)⟩):False:=by
 have hs:∀τ:Ty,fV τ (.sha [])≠ .sl (.nst b e i off p fr):=by intro τ;cases τ<;>simp[fV]
 unfold DA at h;split at h;split at h;simp only[adg,TV.mk.injEq]at h;obtain⟨rfl,_,h⟩:=h;exact hs _ h;cases h;cases h;split at h;simp only[adg,TV.mk.injEq]at h;obtain⟨rfl,_,h⟩:=h;exact hs _ h;cases h
theorem A7(h:ff o R R')(c:dR o=true){t:TypeId}{x:Operand}(d:x∈o.op.operands.toList){b off:Nat}{e:Ty}{i:Int}{p:List Bool}{τ:Ty}(j:arg C R g t x=some (.ept b e i off p τ)):R'.row b e=R.row b e:=by
 obtain⟨s,rfl,hs⟩:=Nf j (.inr ⟨_,_,_,_,_,_,rfl⟩);exact h.row c s (uQ d) b e (by rw[hs];rfl)
theorem WR(h:ff o R R')(q:dR o=true){t:TypeId}{x:Operand}(y:x∈o.op.operands.toList){b off:Nat}{e:Ty}{i:Int}{p:List Bool}{fr:Bool}{τ:Ty}{z:τ.den}
 (c:cZ C R none t x=some ⟨τ,z,.sl (.nst b e i off p fr)⟩):R'.row b e=R.row b e:=by
 simp only[cZ]at c;split at c;rename_i u hu;split at c;cases c;cases x with
 |tmp s=>
  refine h.row q s (uQ y) b e ?_;simp only[arg,fZ,aec]at hu;cases l:R.get s with
  |g j w a v=>rw[l]at hu;simp[xp]at hu
  |d v=>
   rw[l]at hu;simp only[xp,adg,SV.d.injEq]at hu;subst hu;rfl
  |_=>rw[l]at hu;simp[xp]at hu
 |const v=>
  exfalso;simp only[arg,fZ]at hu;split at hu;rename_i i' _;rw[adJ]at hu;obtain⟨u',k,m⟩:=hu;rw[E_]at k;obtain⟨r,k,rfl⟩:=k;simp only[xp,adg,SV.d.injEq]at m;subst m;exact US k;simp at hu
 |global x=>simp[arg,fZ]at hu
 |func f=>simp[arg,fZ]at hu
 cases c;cases c
theorem D3(h:ff o R R'){i:TI}:∀ {l:List (Nat×Operand)} {x:i.τ.den} {sh:Sh},(∀p∈l,p.2∈o.op.operands.toList)->qS C R' g i l x sh=qS C R g i l x sh
 | [],_,_,_=>rfl
 |(j,y)::l,x,sh,hl=>by
  simp only[qS,iR h (hl (j,y) (by simp))];cases i.fs[j]? with
  |none=>rfl
  |some c=>
   simp only;cases cZ C R g c y with
   |none=>rfl
   |some v=>
    simp only;cases fC i.τ x sh (eG i.fs.length j) v with
    |none=>rfl
    |some r=>exact D3 h (fun p b=>hl p (by simp[b]))
theorem Fj(h:ff o R R'){el:TypeId}{e:Ty}:∀ {l:List (Nat×Operand)} {n:Nat},(∀p∈l,p.2∈o.op.operands.toList)->uk C R' g el e n l=uk C R g el e n l
 | [],_,_=>rfl
 |(j,y)::l,n,hl=>by
  simp only[uk,iR h (hl (j,y) (by simp)),Fj h (l:=l) (n:=n+1) (fun p b=>hl p (by simp[b]))]
theorem Ni(h:ff o R R'):∀ {l:List Operand} {ts:List TypeId},(∀p∈l,p∈o.op.operands.toList)->nX C R' g l ts=nX C R g l ts
 | [],[],_=>rfl
 | [],_::_,_=>rfl
 |_::_,[],_=>rfl
 |y::l,t::ts,hl=>by
  simp only[nX,AS h (hl y (by simp)),Ni h (l:=l) (ts:=ts) (fun p b=>hl p (by simp[b]))]
theorem RF{ps:List PK}:∀ {as:List SV} {k:Nat} {r0:List (Nat×Nat)},(∀sv∈as,∀b off p τ,sv= .ptr b off p τ->R'.box b=R.box b)->bH R' ps as k r0=bH R ps as k r0:=by
 induction ps with
 |nil=>intro as k r0 _;cases as<;>rfl
 |cons p ps m=>
  intro as k r0 h;cases as with
  |nil=>cases p<;>rfl
  |cons a as=>
   have c:=fun k r0=>m (as:=as) (k:=k) (r0:=r0) (fun sv i=>h sv (by simp[i]));cases p with
   |val τ q=>cases a<;>simp only[bH,c]
   |io τ q=>
    have d:pj R' a=pj R a:=by
     unfold pj;split;rename_i t j;rw[h _ (by simp) t 0 [] j rfl];rfl
    simp only[bH,d,c]
   |rd τ=>
    have d:pj R' a=pj R a:=by
     unfold pj;split;rename_i t j;rw[h _ (by simp) t 0 [] j rfl];rfl
    simp only[bH,d,c]
   |vx e l=>cases a<;>simp only[bH,c]
theorem Vp{ps:List PK}:∀ {as:List SV} {k:Nat} {r0:List (Nat×Nat)} {xs:aW (ps.map PK.ty)} {i bs:List (Nat×Nat)},bH R ps as k r0=some (xs,i,bs)->
 ∀b∈bs,∃τ,SV.ptr b.1 0 [] τ∈as:=by
 induction ps with
 |nil=>
  intro as k r0 xs i bs h b d;cases as with
  |nil=>simp only[bH,adg]at h;cases h;cases d
  |cons _ _=>simp[bH]at h
 |cons p ps m=>
  intro as k r0 xs i bs h b d;cases as with
  |nil=>cases p<;>simp[bH]at h
  |cons a as=>
   cases p with
   |val τ q=>
    cases a<;>simp only[bH]at h<;>try cases h
    split at h;rename_i j;split at h;simp only[adg,adk]at h;obtain⟨_,_,rfl⟩:=h;obtain⟨τ,h⟩:=m j b d;exact⟨τ,B_ _ h⟩;cases h;cases h
   |vx e l=>
    cases a<;>simp only[bH]at h<;>try cases h
    split at h;rename_i j;split at h;simp only[adg,adk]at h;obtain⟨_,_,rfl⟩:=h;obtain⟨τ,h⟩:=m j b d;exact⟨τ,B_ _ h⟩;cases h;cases h
   |rd τ=>
    simp only[bH]at h;split at h;split at h;rename_i j;split at h;simp only[adg,adk]at h;obtain⟨_,_,rfl⟩:=h;obtain⟨τ,h⟩:=m j b d;exact⟨τ,B_ _ h⟩;cases h;cases h;cases h
   |io τ q=>
    simp only[bH]at h;split at h;rename_i t s v c;split at h;rename_i j;split at h;simp only[adg,adk]at h;obtain⟨_,_,rfl⟩:=h;rcases kb.1 d with rfl|d;unfold pj at c;split at c;rename_i t' u;rw[E_]at c;obtain⟨r,_,c⟩:=c;simp only[adk]at c;obtain⟨rfl,_,_⟩:=c;exact⟨u,by simp⟩;cases c;obtain⟨τ,h⟩:=m j b d;exact⟨τ,B_ _ h⟩;cases h;cases h;cases h
theorem ML(h:ff o R R'){b:Builtin}{args:List Operand}{ts:List TypeId}(c:∀x∈args,x∈o.op.operands.toList):n9 C R' tk g b args ts=n9 C R tk g b args ts:=by
 unfold n9;split;rename_i x t;simp only[iR h (c x (by simp))];rename_i x y t u;simp only[iR h (c x (by simp)),iR h (c y (by simp))];rename_i x y t u;simp only[iR h (c x (by simp)),iR h (c y (by simp))];rename_i x y t u;simp only[iR h (c x (by simp)),iR h (c y (by simp))];rfl
theorem RD(h:ff o R R')(k:dR o=true){f:FuncId}{args:List Operand}{ts:List TypeId}(m:∀x∈args,x∈o.op.operands.toList):CI C R' tk g f args ts=CI C R tk g f args ts:=by
 unfold CI;rw[Ni h m];cases C.ct f with
 |none=>rfl
 |some c=>
  simp only;cases has:nX C R g args ts with
  |none=>rfl
  |some as=>
   simp only;have e:∀sv∈as,∀b off p τ,sv=SV.ptr b off p τ->R'.box b=R.box b:= ?_;rw[RF (R:=R) (R':=R') e];cases r:bH R c.ps as 4 []with
   |none=>rfl
   |some z=>
    obtain⟨xs,rho,u⟩:=z
    have s:∀IO,ym R' u IO c.kp=ym R u IO c.kp:=by
     intro IO;unfold ym;congr 1;funext q;cases I:u[q.1]? with
     |none=>rfl
     |some b=>
      cases hz:IO[q.1]? with
      |none=>rfl
      |some z=>
       obtain⟨τ,A⟩:=Vp r b (adP I);simp only[e _ A b.1 0 [] τ rfl]
    simp only[s]
   intro sv j b off p τ he;subst he
   have:∀ {args:List Operand} {ts:List TypeId} {as:List SV},(∀x∈args,x∈o.op.operands.toList)->nX C R g args ts=some as->SV.ptr b off p τ∈as->∃x∈args,∃t,arg C R g t x=some (.ptr b off p τ):=by
    intro args
    induction args with
    |nil=>intro ts as _ d i;cases ts<;>simp[nX]at d;subst d;simp at i
    |cons y l J=>
     intro ts as B d i;cases ts with
     |nil=>simp[nX]at d
     |cons t ts=>
      simp only[nX]at d;split at d;rename_i v vs D F;cases d;simp only[kb]at i;rcases i with rfl|i;exact⟨y,by simp,t,D⟩;obtain⟨x,q1,q2⟩:=J (fun x H=>B x (by simp[H])) F i;exact⟨x,by simp[q1],q2⟩;cases d
   obtain⟨x,q1,t,q2⟩:=this m has j;exact Hk h k (m x q1) q2
theorem Ka(h:ff o R R'):bj C ops R' tk g o=bj C ops R tk g o:=by
 have hm:∀ {x:Operand},x∈o.op.operands.toList->∀ {t:TypeId},arg C R' g t x=arg C R g t x:=fun z=>AS h z;have q:∀ {x:Operand},x∈o.op.operands.toList->∀ {t:TypeId},cZ C R' g t x=cZ C R g t x:=fun z=>iR h z;have D:∀ {x:Operand},x∈o.op.operands.toList->∀ {t:TypeId},fZ C R' t x=fZ C R t x:=fun z=>MS h z;cases k:o.op with
 |move x=>rw[k]at hm;simp only[bj,k,hm (x:=x) (by simp[Op.operands])]
 |assign x=>rw[k]at hm;simp only[bj,k,hm (x:=x) (by simp[Op.operands])]
 |pick c a b=>
  rw[k]at hm D;simp only[bj,k,hm (x:=c) (by simp[Op.operands]),D (x:=a) (by simp[Op.operands]),D (x:=b) (by simp[Op.operands])]
 |alloc t=>simp only[bj,k]
 |box t x=>rw[k]at q;simp only[bj,k,q (x:=x) (by simp[Op.operands])]
 |build t F=>
  simp only[bj,k];cases C.tt t with
  |none=>rfl
  |some i=>simp only[D3 h (l:=F.toList) (fun p B=>by rw[k];simp[Op.operands];exact⟨p.1,by simpa using B⟩)]
 |buildSlice t n F=>
  simp only[bj,k];split;rename_i e _ el _;simp only[Fj h (l:=F.toList) (fun p B=>by rw[k];simp[Op.operands];exact⟨p.1,by simpa using B⟩)];rfl
 |load t a=>
  have z:a∈o.op.operands.toList:=by rw[k];simp[Op.operands]
  simp only[bj,k,hm z];cases C.tt t with
  |none=>rfl
  |some S=>
   simp only;cases A:arg C R g 0 a with
   |none=>rfl
   |some sv=>
    cases sv with
    |ptr b off p τ=>simp only[Hk h (by simp[dR,k]) z A]
    |ept b e i off p τ=>simp only[A7 h (by simp[dR,k]) z A]
    |_=>rfl
 |store t a x=>
  have z:a∈o.op.operands.toList:=by rw[k];simp[Op.operands]
  have J:x∈o.op.operands.toList:=by rw[k];simp[Op.operands]
  simp only[bj,k,hm z,q J];cases C.tt t with
  |none=>rfl
  |some S=>
   cases A:arg C R g 0 a with
   |none=>rfl
   |some sv=>
    cases sv with
    |ptr b off p τ=>
     cases cZ C R g t x with
     |none=>rfl
     |some v=>simp only[Hk h (by simp[dR,k]) z A]
    |ept b e i off p τ=>
     cases cZ C R g t x with
     |none=>rfl
     |some v=>simp only[A7 h (by simp[dR,k]) z A]
    |_=>rfl
 |nilCheck x=>rw[k]at hm;simp only[bj,k,hm (x:=x) (by simp[Op.operands])]
 |binOp op t x y u=>rw[k]at q;simp only[bj,k,q (x:=x) (by simp[Op.operands]),q (x:=y) (by simp[Op.operands])]
 |unOp op t x=>rw[k]at q;simp only[bj,k,q (x:=x) (by simp[Op.operands])]
 |convert s d x=>rw[k]at q;simp only[bj,k,q (x:=x) (by simp[Op.operands])]
 |makeSlice t n c=>rw[k]at q;simp only[bj,k,q (x:=n) (by simp[Op.operands]),q (x:=c) (by simp[Op.operands])]
 |slice t x H I mx=>
  rw[k]at q;have K:∀ {t},cZ C R' g t x=cZ C R g t x:=q (by simp[Op.operands])
  have N:H.map (cZ C R' g 3)=H.map (cZ C R g 3):=by
   cases H with
   |none=>rfl
   |some l=>simp only[ad2];rw[q (by simp[Op.operands])]
  have O:I.map (cZ C R' g 3)=I.map (cZ C R g 3):=by
   cases I with
   |none=>rfl
   |some l=>simp only[ad2];rw[q (by simp[Op.operands])]
  simp only[bj,k,K,N,O]
 |fieldAddr s x j=>rw[k]at hm;simp only[bj,k,hm (x:=x) (by simp[Op.operands])]
 |field s x j=>rw[k]at q;simp only[bj,k,q (x:=x) (by simp[Op.operands])]
 |indexAddr t x n=>rw[k]at q;simp only[bj,k,q (x:=x) (by simp[Op.operands]),q (x:=n) (by simp[Op.operands])]
 |index t x n=>rw[k]at q;simp only[bj,k,q (x:=x) (by simp[Op.operands]),q (x:=n) (by simp[Op.operands])]
 |extract x j=>rw[k]at hm;simp only[bj,k,hm (x:=x) (by simp[Op.operands])]
 |call c=>
  have hc:∀x∈c.args.toList,x∈o.op.operands.toList:=by
   intro x z;rw[k];simp only[Op.operands,Call.operands];cases c.callee<;>simp_all
  simp only[bj,k];cases hb:c.callee with
  |builtin b=>simp only[ML h hc]
  |value f=>
   cases f with
   |func f=>simp only[RD h (by simp[dR,k]) hc]
   |_=>rfl
  |invoke r m=>rfl
 |_=>simp only[bj,k]
theorem Ro(h:ff o R R'):pY C ops R' tk o=pY C ops R tk o:=by
 have hm:∀ {x:Operand},x∈o.op.operands.toList->∀ {t:TypeId},arg C R' none t x=arg C R none t x:=fun j=>AS h j;have r:∀ {x:Operand},x∈o.op.operands.toList->∀ {t:TypeId},cZ C R' none t x=cZ C R none t x:=fun j=>iR h j;unfold pY;cases d:o.op with
 |load t a=>
  have j:a∈o.op.operands.toList:=by rw[d];simp[Op.operands]
  simp only[hm j];cases C.tt t with
  |none=>rfl
  |some D=>
   cases k:arg C R none 0 a with
   |none=>rfl
   |some sv=>
    cases sv with
    |ept b e i off p τ=>simp only[A7 h (by simp[dR,d]) j k]
    |_=>rfl
 |store t a x=>
  have j:a∈o.op.operands.toList:=by rw[d];simp[Op.operands]
  have s:x∈o.op.operands.toList:=by rw[d];simp[Op.operands]
  simp only[hm j,r s];cases C.tt t with
  |none=>rfl
  |some D=>
   cases k:arg C R none 0 a with
   |none=>rfl
   |some sv=>
    cases sv with
    |ept b e i off p τ=>
     have z:=A7 h (by simp[dR,d]) j k;cases cZ C R none t x with
     |none=>rfl
     |some v=>
      obtain⟨A,xv,B⟩:=v;cases B with
      |sl m=>
       cases m with
       |nst b' F i' off' p' fr=>
        cases A with
        |sl σ=>simp only[z]
        |_=>rfl
       |_=>cases A<;>rfl
      |_=>cases A<;>rfl
    |_=>rfl
 |call c=>
  have hc:∀x∈c.args.toList,x∈o.op.operands.toList:=by
   intro x j;rw[d];simp only[Op.operands,Call.operands];cases c.callee<;>simp_all
  simp only;split;rename_i x y t u hb k hts;have j:x∈o.op.operands.toList:=hc x (by rw[k];simp);have s:y∈o.op.operands.toList:=hc y (by rw[k];simp);simp only[r j,r s];split;rename_i D e l b E0 i off p F l' m' hti q hvy;simp only[WR h (by simp[dR,d]) j q];rfl;rfl
 |_=>rfl
theorem Va(h:ff o R R'):jk C ops R' tk g o=jk C ops R tk g o:=by
 unfold jk;cases g with
 |none=>simp only[Ro h,Ka h]
 |some g=>exact Ka h
end
theorem RP(a b:List (Nat×SV))(L:List SV):cN (a++b) L=cN b (cN a L):=List.foldl_append ..
theorem IU(E:Env)(d:Option Nat)(v:SV):(E.set d v).s=cN (wr d v) E.s:=by cases d<;>rfl
theorem BF:∀(l:List (Nat×Nat×TV)) (L:List SV),bK l L=cN (l.map (fun p=>(p.2.1,SV.box p.1 p.2.2))) L
 | [],_=>rfl
 |(_,_,_)::l,_=>BF l _
theorem Nk(E:Env)(ts:List Nat):(E.kill ts).s=E.s.map (eS ts):=by
 unfold Env.kill eS;split;simp;rfl
theorem VC(E:Env)(ts:List Nat)(t:Nat):(E.aO ts t).s=E.s.map (ky ts t):=by
 unfold Env.aO ky;split;simp;rfl
theorem SB(E:Env)(ts:List Nat):(E.kill ts).nt=E.nt:=by unfold Env.kill;split<;>rfl
theorem ZY(E:Env)(ts:List Nat)(t:Nat):(E.aO ts t).nt=E.nt:=by unfold Env.aO;split<;>rfl
theorem Env.ext'{E E':Env}(h:E.s=E'.s)(hn:E.nt=E'.nt)(hk:E.kp=E'.kp:=by rfl):E=E':=by cases E;cases E';simp_all
theorem HT(E:Env)(d:Option Nat)(v:SV):(E.set d v).kp=E.kp:=by cases d<;>rfl
theorem Zd(E:Env)(ts:List Nat)(t:Nat):(E.aO ts t).kp=E.kp:=by unfold Env.aO;split<;>rfl
theorem QR(E:Env)(ts:List Nat):(E.kill ts).kp=E.kp:=by unfold Env.kill;split<;>rfl
theorem WZ(E:Env)(ts:List Nat)(b:List (Nat×Nat)):(E.cm ts b).kp=E.kp:=by unfold Env.cm;split;exact QR E ts;rfl
theorem YI(E:Env)(ts:List Nat)(b:List (Nat×Nat)):(E.cm ts b).nt=E.nt:=by unfold Env.cm;split;exact SB E ts;rfl
theorem Ws(E:Env)(ts:List Nat)(b:List (Nat×Nat)):(E.cm ts b).s=E.s.map (Tr.ki ts b).sv:=by
 unfold Env.cm;simp only[Tr.sv];split;exact Nk E ts;rfl
theorem RU(o:Oper)(a:Option Bool)(E:Env)(j:Ef):bc o a E some j=(iV o a j).map E.gE:=by
 have h:∀(d:Option Nat) (v:SV),E.set d v=E.gE (.id,wr d v):=by
  intro d v;refine Env.ext' ?_ (by rw[Kt];rfl) (by rw[HT];rfl);rw[IU];simp[Env.gE,Tr.sv]
 cases j with
 |val v=>simp only[bc,iV,ad2,h]
 |chk c v=>simp only[bc,iV,h];split<;>split<;>rfl
 |opt α z x f=>
  simp only[bc,iV,h];rw[Option.map_bind];rfl
 |put b s v=>
  simp only[bc,iV];split;simp[Env.gE,Tr.sv,cN];rfl
 |app c kl k t v=>
  simp only[bc,iV];split;split;simp only[ad2,adg];refine Env.ext' ?_ (by rw[Kt,ZY,SB];rfl) (by rw[HT,Zd,QR];rfl);rw[IU,VC,Nk];simp[Env.gE,Tr.sv,ael];rfl;rfl
 |elem k b e l m=>
  simp only[bc,iV];split;simp[Env.gE,Tr.sv,cN,Env.elem];rfl
 |nap c k b e l m v=>
  simp only[bc,iV];split;split;simp only[ad2,adg];refine Env.ext' ?_ (by rw[Kt];rfl) (by rw[HT];rfl);rw[IU];simp[Env.gE,Tr.sv,Env.elem];rfl;rfl
 |call α x i f p=>
  simp only[bc,iV];split;cases x with
  |none=>rfl
  |some r=>
   simp only[aec,ad2,adg];refine Env.ext' ?_ (by rw[Kt];exact YI E i (p r)) (by rw[HT];exact WZ E i (p r));rw[IU];simp only[Env.gE,RP,BF,Ws]
  rfl
structure IK(X:List Nat)(f:M->M)(fe:Nat->Bool)(fr:List Nat->Option (List Nat)):Prop where
 m:∀m,f m=m\/f m= .dead\/∃x∈X,x∈(f m).ar
 r:∀hs hs',fr hs=some hs'->hs'=hs\/∃x∈X,x∈hs'
section
variable{X:List Nat}{f:M->M}{fe:Nat->Bool}{fr:List Nat->Option (List Nat)}
theorem Sh.lp(h:IK X f fe fr):∀ {sh:Sh},(sh.map f).live=true->(∀c∈(sh.map f).ar,c∉X)->sh.map f=sh
 | .leaf,_,_=>rfl
 | .sl m,hl,hc=>by
   rcases h.m m with e|e|⟨x,u,q⟩;simp only[Sh.map,e];simp only[Sh.map,e,Sh.live]at hl;cases hl;exact absurd u (hc x q)
 | .pair a b,hl,hc=>by
   simp only[Sh.map,Sh.live,u_]at hl;simp only[Sh.map,Sh.ar,kT]at hc;simp only[Sh.map];rw[Sh.lp h hl.1 (fun c p=>hc c (.inl p)),Sh.lp h hl.2 (fun c p=>hc c (.inr p))]
theorem tU(v:TV)(sh:Sh)(h:sh=v.sh):({v with sh:=sh}:TV)=v:=by subst h;rfl
theorem SV.lp(h:IK X f fe fr):∀ {v:SV},(v.mapM f fe fr).clean=true->(∀c∈(v.mapM f fe fr).eE,c∉X)->v.mapM f fe fr=v
 | .no,hl,_=>by simp[SV.mapM,SV.clean]at hl
 | .d v,hl,hc=>by simp only[SV.mapM];rw[tU v _ (Sh.lp h hl hc)]
 | .box t v,hl,hc=>by
   simp only[SV.mapM];rw[tU v _ (Sh.lp h hl (fun c q=>hc c (by simp[SV.mapM,SV.eE,q])))]
 | .ptr ..,_,_=>rfl
 | .ept t e i o p τ,hl,hc=>by
   simp only[SV.mapM]at hl|-;split;rfl;rename_i B;rw[a_ B]at hl;cases hl
 | .rdp hs v,hl,hc=>by
   simp only[SV.mapM]at hl hc|-;cases u:fr hs with
   |none=>rw[u]at hl;cases hl
   |some y=>
    rw[u]at hl hc;simp only at hl hc|-;rcases h.r hs y u with e|⟨x,D,z⟩;rw[e,tU v _ (Sh.lp h hl (fun c q=>hc c (by simp[SV.eE,q])))];exact absurd D (hc x (by simp[SV.eE,z]))
 | .tup l,hl,hc=>by
   simp only[SV.mapM];congr 1
   have:∀v∈l,({v with sh:=v.sh.map f}:TV)=v:=by
    intro v A;simp only[SV.mapM,SV.clean,List.all_map,G6,Function.comp_apply]at hl
    exact tU v _ (Sh.lp h (hl v A) (fun c q=>hc c (by
     simp only[SV.mapM,SV.eE,aeI,adY];exact⟨v,A,q⟩)))
   conv=>rhs;rw[<-List.map_id l]
   exact aez this
 | .g j w a v,hl,hc=>by
   simp only[SV.mapM];rw[SV.lp (v:=v) h hl hc]
theorem Sh.stays(p:∀m:M,(∀c∈m.ar,c∉X)->f m=m):∀ {sh:Sh},(∀c∈sh.ar,c∉X)->sh.map f=sh
 | .leaf,_=>rfl
 | .sl m,hc=>by simp only[Sh.map];rw[p m hc]
 | .pair a b,hc=>by
   simp only[Sh.ar,kT]at hc;simp only[Sh.map];rw[Sh.stays p (fun c h=>hc c (.inl h)),Sh.stays p (fun c h=>hc c (.inr h))]
theorem SV.stays(q:∀m:M,(∀c∈m.ar,c∉X)->f m=m)(he:∀t,t∉X->fe t=true)(u:∀hs,(∀c∈hs,c∉X)->fr hs=some hs):∀ {v:SV},(∀c∈v.eE,c∉X)->v.mapM f fe fr=v
 | .no,_| .ptr ..,_=>rfl
 | .d v,hc=>by simp only[SV.mapM];rw[tU v _ (Sh.stays q hc)]
 | .box t v,hc=>by
   simp only[SV.mapM];rw[tU v _ (Sh.stays q (fun c h=>hc c (by simp[SV.eE,h])))]
 | .ept t e i o p τ,hc=>by simp only[SV.mapM];rw[an (he t (hc t (by simp[SV.eE])))]
 | .rdp hs v,hc=>by
   simp only[SV.mapM,u hs (fun c h=>hc c (by simp[SV.eE,h]))];rw[tU v _ (Sh.stays q (fun c h=>hc c (by simp[SV.eE,h])))]
 | .tup l,hc=>by
   simp only[SV.mapM];congr 1
   have:∀v∈l,({v with sh:=v.sh.map f}:TV)=v:=fun v y=>
    tU v _ (Sh.stays q (fun c h=>hc c (by simp only[SV.eE,adY];exact⟨v,y,h⟩)))
   conv=>rhs;rw[<-List.map_id l]
   exact aez this
 | .g j w a v,hc=>by simp only[SV.mapM];rw[SV.stays q he u (v:=v) hc]
end
end Vg
