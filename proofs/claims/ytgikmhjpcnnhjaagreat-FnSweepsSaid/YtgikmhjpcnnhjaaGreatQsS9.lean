/- Texts of this law, joined. -/
import Derived.Test.YtgikmhjpcnnhjaaGreatQsR9
import Derived.Test.YtgikmhjpcnnhjaaGreatVd
import Derived.Test.YtgikmhjpcnnhjaaGreatVc
import Derived.Test.YtgikmhjpcnnhjaaGreatVa
import Derived.Test.YtgikmhjpcnnhjaaGreatQsE5
set_option linter.unusedSimpArgs false
set_option linter.unusedVariables false
set_option linter.unusedSectionVars false
set_option linter.defProp false
open Bool renaming and_eq_true -> t_,false_eq_true -> aKw,not_eq_true -> aKC,or_eq_true -> aK0,true_and -> aLe,false_and -> aLk,not_false -> aLl
open List renaming mem_singleton -> G6,length_append -> J7,length_singleton -> aKx,mem_or_eq_of_mem_set -> aKy,mem_append -> aKA,length_set -> aKB,mem_append_left -> aKD,pairwise_singleton -> aKE,length_nil -> aKF,length_cons -> aKG,mem_append_right -> aKH,mem_cons_self -> aKI,pairwise_append -> aKJ,mem_cons_of_mem -> aKL,getElem_of_mem -> aKM,length_drop -> aKN,replicate -> aKO,pairwise_map -> aKQ,flatMap_cons -> aKR,mem_of_mem_drop -> aKS,length_take -> aKT,foldl_cons -> aKV,mem_replicate -> aKW,getElem_take -> aKX,getElem_drop -> aKY,eraseIdx_eq_take_drop_succ -> aKZ,mem_of_mem_take -> aK1,map_append -> aK2,map_cons -> aK4,foldl_append -> aK5,set_eq_of_length_le -> aK6,mem_flatMap -> aK7,mem_filter -> aK9,length_filter_le -> aLa,eraseIdx_sublist -> aLb,reverse_reverse -> aLc,mem_iff_getElem -> aLd,reverse_cons -> aLg,mem_reverse -> aLh,append_nil -> aLi
open Int renaming le_refl -> A',toNat_natCast -> aKU
open Option renaming bind_some -> aKz
open Nat renaming le_trans -> aKK,le_refl -> aKP,zero_le -> aK3,le_add_right -> aK8,lt_or_gt_of_ne -> aLf
open Iff renaming rfl -> aLj
namespace Vg.Tryz
open Go Vg
def bytes_inj{a b:ByteArray}(h:a.toList=b.toList):a=b:=by
 have:=rz a b;rw[h,beq_self_eq_true]at this;exact e_ this.symm
theorem M0:∀ {l m:List ai},KP l=KP m->l=m
 | [],[],_=>rfl
 | [],b::m,h=>by simp[KP]at h
 |a::l,[],h=>by simp[KP]at h
 |(a1,a2)::l,(b1,b2)::m,h=>by
  simp only[KP,List.cons.injEq]at h;rw[bytes_inj h.1,bytes_inj h.2.1,M0 h.2.2]
def Vb{s x:List ai}(a:bI s x=false)(d:¬x=s):bI x s=true:=by
 rw[QA]at a|-;rw[d_]at a;rw[b_];refine Decidable.byContradiction fun b=>d ?_;exact M0 (List.le_antisymm (List.not_lt.1 a) (List.not_lt.1 b))
abbrev vj(l:List ae):Prop:=l.Pairwise (fun a b=>bI a.1 b.1=true)
def Pm{l:List ae}{key:List ai}{by_:List ByteArray}:qp l key by_=true↔(∀a∈l,bj a=true/\keyOf a by_=key)/\vj l:=by
 unfold qp vj;rw[<-Hi (r:=fun a b:ae=>bI a.1 b.1=true) (d:=ab.aa) (fun a b c f g=>Bf.trans _ _ _ f g)];have:∀j,(bj (l.getD j ab.aa)&&(decide (keyOf (l.getD j ab.aa) by_=key)&&rA l j))=((bj (l.getD j ab.aa)&&decide (keyOf (l.getD j ab.aa) by_=key))&&rA l j):=fun j=>(Bool.and_assoc ..).symm;simp only[this];rw[jH,t_,dK (d:=ab.aa) (p:=fun a=>bj a&&decide (keyOf a by_=key)),ck];refine and_congr (by simp) ?_;simp only[rA,aK0,beq_iff_eq];exact⟨fun h i e=>h i (by omega) e,fun h i _ e=>h i e⟩
def gW{g:au}{by_:List ByteArray}:dN g by_=true↔0<=g.1/\dt g.2.1=true/\(0<=g.2.2.1/\g.2.2.1<=99999)/\(g.2.2.2.1= -1\/(g.2.2.1<=g.2.2.2.1/\g.2.2.2.1<=99999))/\0<g.2.2.2.2.length/\(∀a∈g.2.2.2.2,bj a=true/\keyOf a by_=g.2.1)/\vj g.2.2.2.2:=by
 unfold dN bc;simp only[t_,aK0,b_,Pm]
def cG{l:List au}{by_:List ByteArray}:dR l by_=true↔l.length<=12/\(∀g∈l,dN g by_=true)/\l.Pairwise (fun a b=>a.1<b.1)/\l.Pairwise (fun a b=>¬a.2.1=b.2.1):=by
 unfold dR;rw[<-Hi (d:=aj.aa) (fun a b c h1 h2=>by omega),<-kI (d:=aj.aa),jH,jH];simp only[t_,b_,dK (l:=l) (d:=aj.aa) (p:=fun g=>dN g by_),ck,AA,mQ,aK0,beq_iff_eq,Bool.not_eq_true',d_];refine and_congr aLj (and_congr aLj (and_congr ?_ ?_));exact⟨fun h i e=>h i (by omega) e,fun h i _ e=>h i e⟩;exact⟨fun h i e j f=>h i (by omega) e j (by omega) f,fun h i _ e j _ f=>h i e j f⟩
def Om{l:List ae}{s:List ai}(i:Nat)(h:i<ib l s):bI s (l.getD i ab.aa).1=false:=by
 unfold ib at h;cases e:gO l.length (fun i=>bI s (l.getD i ab.aa).1)with
 |none=>rw[e]at h;exact iR.1 e i h
 |some j=>rw[e]at h;exact(aZ.1 e).2.2 i h
def T7{l:List ae}{s:List ai}(h:ib l s<l.length):bI s (l.getD (ib l s) ab.aa).1=true:=by
 unfold ib at h|-;cases e:gO l.length (fun i=>bI s (l.getD i ab.aa).1)with
 |none=>rw[e]at h;simp at h
 |some j=>exact(aZ.1 e).2.1
def Tc{l:List ae}{a:ae}(h:vj l)(q:∀x∈l,¬x.1=a.1):vj (l.take (ib l a.1)++[a]++l.drop (ib l a.1)):=by
 have g:∀c∈l.take (ib l a.1),bI c.1 a.1=true:=by
  intro c hc;obtain⟨i,p,e⟩:=aKM hc;rw[aKT]at p;have f:=Om (l:=l) (s:=a.1) i (by omega);rw[cx _ (by omega)]at f;rw[<-e,aKX];exact Vb f (q _ (List.getElem_mem _))
 have m:∀c∈l.drop (ib l a.1),bI a.1 c.1=true:=by
  intro c hc;obtain⟨i,p,e⟩:=aKM hc;rw[aKN]at p;have f:=T7 (l:=l) (s:=a.1) (by omega);rw[cx _ (by omega)]at f;rw[aKY]at e;rw[<-e];by_cases o:i=0;subst o;exact f;have:=List.pairwise_iff_getElem.1 h (ib l a.1) (ib l a.1+i) (by omega) (by omega) (by omega);exact Bf.trans _ _ _ f this
 unfold vj at*
 rw[aKJ,aKJ];refine⟨⟨h.sublist (List.take_sublist _ _),aKE _ _,fun x d b j=> ?_⟩,h.sublist (List.drop_sublist _ _),fun x d b j=> ?_⟩;rw[G6.1 j];exact g x d;have:=m b j;rcases aKA.1 d with d|d;exact Bf.trans _ _ _ (g x d) this;rw[G6.1 d];exact this
def R9{l:List ae}{a x:ae}(h:x∈gw l a):x∈l\/x=a:=by
 unfold gw at h;split at h;exact aKy h;rcases aKA.1 h with h|h;rcases aKA.1 h with h|h;exact .inl (aK1 h);exact .inr (G6.1 h);exact .inl (aKS h)
def T6{g:au}{a:ae}{by_:List ByteArray}(h:dN g by_=true)(o:bj a=true)(Q:keyOf a by_=g.2.1):dN (im g a) by_=true:=by
 rw[gW]at h|-;obtain⟨p,q,r,s,u,h6,h7⟩:=h;refine⟨p,q,r,s,?_,fun x j=> ?_,?_⟩;show 0<(gw g.2.2.2.2 a).length;unfold gw;split;rw[aKB];exact u;simp only[J7,aKx];omega;rcases R9 j with j|rfl;exact h6 x j;exact⟨o,Q⟩;show vj (gw g.2.2.2.2 a);unfold gw;split;rename_i i l;have e:(g.2.2.2.2.set i a).map (·.1)=g.2.2.2.2.map (·.1):=iI (d:=ab.aa) (e_ (aZ.1 l).2.1).symm;have h8:=(aKQ (f:=fun x:ae=>x.1) (R:=fun a b=>bI a b=true)).2 h7;rw[<-e]at h8;exact(aKQ (f:=fun x:ae=>x.1) (R:=fun a b=>bI a b=true)).1 h8;rename_i l;refine Tc h7 fun x j=> ?_;obtain⟨i,m,rfl⟩:=jb ab.aa j;have:=iR.1 l i m;simpa using this
def Kz{l:List ai}:dt l=true↔l.length<=4/\(∀x∈l,eO x=true)/\l.Pairwise (fun a b=>nU a.1 b.1=true):=by
 unfold dt
 rw[<-Hi (r:=fun a b:ai=>nU a.1 b.1=true) (d:=al.aa) (fun a b c f g=>by
  rw[Wh,b_]at f g|-;exact List.lt_trans f g),jH]
 simp only[t_,b_,dK (l:=l) (d:=al.aa) (p:=eO),ck,zH,aK0,beq_iff_eq];refine and_congr aLj (and_congr aLj ?_);exact⟨fun h i e=>h i (by omega) e,fun h i _ e=>h i e⟩
def SK{a:ae}{by_:List ByteArray}(h:bj a=true):dt (keyOf a by_)=true:=by
 have b:dt a.1=true:=by unfold bj at h;simp only[t_]at h;exact h.1.1.1.1
 rw[Kz]at b|-;unfold keyOf;exact⟨aKK (aLa _ _) b.1,fun x d=>b.2.1 x ((aK9.1 d).1),b.2.2.filter _⟩
def Vl{c:bh}{a:ae}{nn O:Int}(h:bj a=true)(d:0<=nn)(e:0<=O/\O<=99899):dN (mB c a nn O) c.2.2.2.2.2=true:=
 gW.2 ⟨d,SK h,⟨e.1,by show O<=99999;omega⟩,.inl rfl,by show 0< [a].length;simp,fun x b=>by
  have:x=a:=G6.1 b;subst this;exact⟨h,rfl⟩,aKE _ _⟩
def qi{l:List au}{key:List ai}{i:Nat}(h:eR l key=some i):i<l.length/\(l.getD i aj.aa).2.1=key:=
 ⟨(aZ.1 h).1,by simpa using(aZ.1 h).2.1⟩
def OV{l:List au}{key:List ai}(h:eR l key=none):∀g∈l,¬g.2.1=key:=by
 intro g a;obtain⟨i,b,rfl⟩:=jb aj.aa a;have:=iR.1 h i b;simpa using this
def Fj{l:List au}{i:Nat}{g:au}{by_:List ByteArray}(h:dR l by_=true)(m:dN g by_=true)(o:g.1=(l.getD i aj.aa).1)(p:g.2.1=(l.getD i aj.aa).2.1):dR (l.set i g) by_=true:=by
 rw[cG]at h|-;refine⟨by rw[aKB];exact h.1,fun x j=> ?_,?_,?_⟩;rcases aKy j with j|rfl;exact h.2.1 x j;exact m;have e:(l.set i g).map (·.1)=l.map (·.1):=iI (d:=aj.aa) o;have h8:=(aKQ (f:=fun x:au=>x.1) (R:=fun a b=>a<b)).2 h.2.2.1;rw[<-e]at h8;exact(aKQ (f:=fun x:au=>x.1) (R:=fun a b=>a<b)).1 h8;have e:(l.set i g).map (·.2.1)=l.map (·.2.1):=iI (d:=aj.aa) p;have h8:=(aKQ (f:=fun x:au=>x.2.1) (R:=fun a b=>¬a=b)).2 h.2.2.2;rw[<-e]at h8;exact(aKQ (f:=fun x:au=>x.2.1) (R:=fun a b=>¬a=b)).1 h8
def Qu{l:List au}{g:au}{by_:List ByteArray}(h:dR l by_=true)(j:dN g by_=true)(hl:l.length<12)(m:∀x∈l,x.1<g.1)(o:∀x∈l,¬x.2.1=g.2.1):dR (l++[g]) by_=true:=by
 rw[cG]at h|-;refine⟨by simp;omega,fun x d=> ?_,aKJ.2 ⟨h.2.2.1,aKE _ _,fun a e b f=> ?_⟩,aKJ.2 ⟨h.2.2.2,aKE _ _,fun a e b f=> ?_⟩⟩;rcases aKA.1 d with d|d;exact h.2.1 x d;rw[G6.1 d];exact j;rw[G6.1 f];exact m a e;rw[G6.1 f];exact o a e
def Ql{l:List au}{i:Nat}{by_:List ByteArray}(h:dR l by_=true):dR (l.take i++l.drop (i+1)) by_=true:=by
 rw[cG]at h|-
 have a:(l.take i++l.drop (i+1)).Sublist l:=by
  rw[<-aKZ];exact aLb _ _
 exact⟨aKK a.length_le h.1,fun x b=>h.2.1 x (a.subset b),h.2.2.1.sublist a,h.2.2.2.sublist a⟩
def gq{l:List au}{n:Int}{i:Nat}(h:eM l n=some i):i<l.length/\(l.getD i aj.aa).1=n:=
 ⟨(aZ.1 h).1,by simpa using(aZ.1 h).2.1⟩
def Cs{l:List au}{n:Int}(h:eM l n=none):∀g∈l,¬g.1=n:=by
 intro g a;obtain⟨i,b,rfl⟩:=jb aj.aa a;have:=iR.1 h i b;simpa using this
def Sv{g:au}{O:Int}{by_:List ByteArray}(h:dN g by_=true)(e:g.2.2.1<=O)(h2:O<=99899)(b:¬(hZ g O).2.2.2.2=[]):dN (hZ g O) by_=true:=by
 rw[gW]at h|-;obtain⟨q1,q2,q3,q4,q5,f,j⟩:=h;refine⟨q1,q2,q3,.inr ⟨e,by show O<=99999;omega⟩,List.length_pos_iff.2 b,fun a d=>f a (AO d),?_⟩;show vj (dC O g.2.2.2.2);unfold dC;exact j.filter _
def Fp{l:List au}{by_:List ByteArray}(h:dR l by_=true){g:au}{i:Nat}(b:g∈l)(f:i<l.length)(he:g.1=(l.getD i aj.aa).1):g=l.getD i aj.aa:=by
 obtain⟨j,o,rfl⟩:=jb aj.aa b;have m:=(cG.1 h).2.2.1;by_cases e:i=j;rw[e];have a:=kI (d:=aj.aa).2 m;rcases aLf e with h6|h6;have:=a j o i h6;omega;have:=a i f j h6;omega
def sn{l m:List aJ}(h:l.Perm m):l.Pairwise (fun a b=>¬a.2=b.2)↔m.Pairwise (fun a b=>¬a.2=b.2):=h.pairwise_iff (fun h e=>h e.symm)
section
variable{k:Nat}{c:bh}{ti O gr nn:Int}{st:List ar}{Z:List bg}{U V:List ae}{A:List au}{T:List aJ}{n_:List br}{E:List aF}{M:List aC}{t:aF}
def RD(h:cR c=true):1<=c.2.2.2.1/\c.2.2.2.1<=9/\1<=c.2.2.2.2.1/\c.2.2.2.2.1<=9:=by
 unfold cR bc at h;simp only[t_,b_]at h;omega
def R6{g:au}(hc:cR c=true)(h1:0<=g.2.2.1/\g.2.2.1<=99999)(h2:g.2.2.2.1= -1\/(g.2.2.1<=g.2.2.2.1/\g.2.2.2.1<=99999)):0<=iq c g:=by
 have:=RD hc;unfold iq;split;rw[wrap64 (by omega) (by omega)];omega;rw[wrap64 (by omega) (by omega)];omega
theorem xP.drop{n:Nat}(h:xP c Z U V):xP c Z (U.drop n) V:=⟨h.len,h.sub,fun a b=>h.fee a (aKS b),h.sai⟩
def NT{i:Nat}(h:Rt k c ti O st Z U gr A nn T V E M)(e:ti<4611686018427387904)(a:i=3/\t.1=5\/i=4/\t.1=6)(d:E.getD i ak.aa=t)(l:t.2.1=0)(m:gr= -1):
 Rt k c (tick ti) O st Z U (i:Int) A nn T V (E.set i (t.1,1,t.2.2)) M:=by
 have b:i<5:=by omega
 have f:=h.tas i b;rw[d]at f
 have j:cA (t.1,(1:Int),t.2.2)=true:=by
  unfold cA;rcases a with a|a<;>simp[a.2]
 have o:5<=t.1:=by omega
 refine gM h e b h.sto h.sub (h.dee.up (by omega)) (fO.refl i st) (dV.refl i M) (A' _) ?_ (TJ b h.tl h.loc d (dx (.inl l)) (dx (.inr (.inr (.inl o)))) m j) ?_;have p:bf (t.1,(1:Int),t.2.2)=bf t:=rfl;rw[p];rcases a with a|a;have q:=(iM a.2).1 f;exact(iM (t:=(t.1,(1:Int),t.2.2)) a.2).2 ⟨⟨q.1.1,q.1.2.1,(show(0:Int)<=1 by decide),(show(1:Int)<=1 by decide),q.1.2.2.2.2⟩,q.2⟩;have q:=(gj a.2).1 f;exact(gj (t:=(t.1,(1:Int),t.2.2)) a.2).2 ⟨⟨q.1.1,q.1.2.1,(show(0:Int)<=1 by decide),(show(1:Int)<=1 by decide),q.1.2.2.2.2⟩,q.2⟩;rcases a with a|a;exact h.grp.other (by omega);rw[a.1]at d|-;rw[aT _ _ (by rw[h.tl];decide)];have g:=h.grp;rw[d]at g;exact⟨g.go,g.ho,g.tm,g.ap,g.td⟩
theorem R2{a:ae}{n:Nat}(h:Rt k c ti O st Z U gr A nn T V E M)(b:ti<4611686018427387904)(d:E.getD 3 ak.aa=t)(e:t.1=0)(f:bj a=true):
 Rt k c (tick ti) O st Z (U.drop n) gr A nn T V (E.set 3 (tK a M.length)) (M++[AU a O ti]):=by
 refine gM h b (by decide) h.sto h.sub.drop ((h.dee.up (by omega)).app ⟨zI ⟨by decide,by decide⟩ ⟨by decide,by decide⟩ (by decide) h.nw.1 h.ti0,by show ti<ti+1;omega,by show-1<ti+1;have:=h.ti0;omega,by show-1<ti+1;have:=h.ti0;omega⟩)
  (fO.refl _ st) (dV.app _ M _) (A' _) ?_ (vE (by decide) h.tl h.loc d (by rw[dx (.inl rfl),dx (.inr (.inl e))]) rfl (fun _ _=>rfl) (by rw[eX (.inr rfl),eX (.inl (by omega))])) (h.grp.other (by decide))
 have g:bf (tK a (M.length:Int))=((M.length:Nat):Int):=rfl;rw[g,aKU,re];refine(iM (t:=tK a (M.length:Int)) rfl).2 ⟨⟨rfl,by show(0:Int)<=(M.length:Int);omega,A' _,(show(0:Int)<=1 by decide),f,rfl,rfl,rfl,rfl,rfl⟩,by show(M.length:Int)<_;rw[J7,aKx];omega,rfl,rfl,rfl,rfl,rfl⟩
theorem Ia{s x:Bool}{code:Int}{got:List ae}{b:List au}{g n:Int}{e:List aJ}{setit:Bool}(h:Rt k c ti O st Z U gr A nn T V E M)(p:ti<4611686018427387904)(r:E.getD 3 ak.aa=t)(u:t.1=5)(y:t.2.1=1)
 (z:nn<=g) (hc:code∈eN 7) (B:0<=n) (j:tQ c O b g e (E.getD 4 ak.aa)):
 Rt k c (tick ti) O st Z U (-1) b g e V (E.set 3 zT) (M.set (bf t).toNat (dA s x (if setit=true then ou (M.getD (bf t).toNat aw.aa) n else M.getD (bf t).toNat aw.aa) O ti code got)):=by
 obtain⟨C,hn1,D,f,o,w⟩:=dH h (by decide) r (by omega);have q:=(iM u).1 C
 refine gM h p (by decide) h.sto h.sub ((h.dee.up (by omega)).put ?_) (fO.refl _ st) (dV.put D) z (oW (by decide))
  (Oj (by decide) h.tl h.loc r (dx (.inr (.inr (.inl (by omega))))) (dx (.inl rfl)) (by unfold cA;simp[u,y]) (eX (.inl (by decide)))) ?_
 have v:=q.2.2.2.2.2.1;generalize M.getD (bf t).toNat aw.aa=d at*
 cases setit;exact sq f h.nw.1 o w h.ti0 (by rw[a_ (by decide),v];exact hc);refine sq (d:=ou d n) ?_ h.nw.1 o w h.ti0 (by show code∈eN d.1;rw[v];exact hc);obtain⟨op,task,a,l,i,m,cd,gt,nw,inv,lin,res⟩:=d;unfold ou;unfold er at f|-;simp only[t_,b_]at f|-;exact⟨⟨⟨⟨⟨⟨⟨⟨f.1.1.1.1.1.1.1.1,f.1.1.1.1.1.1.1.2⟩,f.1.1.1.1.1.1.2⟩,f.1.1.1.1.1.2⟩,B⟩,f.1.1.1.2⟩,f.1.1.2⟩,f.1.2⟩,f.2⟩;rw[getD_set_ne _ _ (by decide)];exact j
def Qy{i:Nat}{e:aF}{a:ae}(b:tQ c O A nn T e)(j:bj a=true)(l:eR A (keyOf a c.2.2.2.2.2)=some i):tQ c O (A.set i (im (A.getD i aj.aa) a)) nn T e:=by
 obtain⟨m,o⟩:=qi l;have f:=bK (d:=aj.aa) m;refine⟨Fj b.go (T6 ((cG.1 b.go).2.1 _ f) j o.symm) rfl rfl,b.ho,b.tm,b.ap,fun g h=> ?_⟩;rcases aKy h with h|rfl;exact b.td g h;have:=b.td _ f;exact⟨this.1,this.2.1,this.2.2.1,this.2.2.2⟩
def VO{m:aF}{a:ae}(l:cR c=true)(o:0<=O/\O<=99899)(p:0<=nn)(hn2:nn<4611686018427387904)(d:tQ c O A nn T m)(r:bj a=true)(s:eR A (keyOf a c.2.2.2.2.2)=none)(u:A.length<12)(v:T.length<=15):
 tQ c O (A++[mB c a nn O]) (IntKind.i64.wrap (nn+1)) (vf T (iq c (mB c a nn O),nn)) m:=by
 have j:=qY T (iq c (mB c a nn O),nn);rw[wrap64 (by omega) (by omega)];have f:0<=iq c (mB c a nn O):=R6 l ⟨o.1,by show O<=99999;omega⟩ (.inl rfl);refine⟨Qu d.go (Vl r p o) u (fun g h=>(d.td g h).2.2.1) (OV s),PE d.ho ⟨f,p⟩ v,fun x b=> ?_,(sn j).2 ?_,fun g h=> ?_⟩;rcases aKA.1 (j.mem_iff.1 b)with b|b;have:=d.tm x b;omega;rw[G6.1 b];show nn<nn+1;omega;refine aKJ.2 ⟨d.ap,aKE _ _,fun x b y q=> ?_⟩;rw[G6.1 q];have:=d.tm x b;show¬x.2=nn;omega;rcases aKA.1 h with h|h;obtain⟨w,z,h3,B⟩:=d.td g h;refine⟨w,z,by omega,B.imp (fun⟨x,b,e⟩=>⟨x,j.mem_iff.2 (aKD _ b),e⟩) id⟩;rw[G6.1 h];refine⟨A' _,by show(-1:Int)<=O;omega,by show nn<nn+1;omega,.inl ⟨_,j.mem_iff.2 (aKH _ (G6.2 rfl)),rfl,rfl⟩⟩
def O7{s:Bool}(h:Rt k c ti O st Z U gr A nn T V E M)(a:ti<4611686018427387904)(j:nn<4611686018427387904)(y:T.length<=15):
 (eW s k (c,ti,O,st,Z,U,gr,A,nn,T,n_,V,E,M)).1=true->bC k (eW s k (c,ti,O,st,Z,U,gr,A,nn,T,n_,V,E,M)).2=true:=by
 generalize b:E.getD 3 ak.aa=t;unfold eW gH;dsimp only;rw[b];by_cases l:t.1=0;rw[an l];by_cases u:U.length=0;rw[an u];intro g;simp[bH]at g;rw[a_ u,aY];intro _;exact bR.2 (R2 h a b l (h.sub.fee _ (bK (by omega))));rw[a_ l];have m:=h.tas 3 (by decide);rw[b]at m
 have f:t.1=5:=by
  have v:=gx (k:=k) (w:=(c,ti,O,st,Z,U,gr,A,nn,T,n_,V,E,M)) (i:=3) m;omega
 have q:=(iM f).1 m;by_cases o:t.2.1=0;rw[an o];unfold gL;dsimp only;rw[b];by_cases p:gr= -1;rw[an p,aY];intro _;exact bR.2 (NT h a (.inl ⟨rfl,f⟩) b o p);rw[a_ p];intro g;simp[bH]at g;rw[a_ o];have r:t.2.1=1:=by omega
 have hnn0:=h.nn0;cases e:eR A (keyOf t.2.2.1 c.2.2.2.2.2)with
 |none=>
  dsimp only;by_cases x:12<=A.length;rw[an x,aY];intro _;exact bR.2 (Ia (setit:=false) (n:=0) h a b f r (A' _) (by decide) (A' _) h.grp);rw[a_ x,aY];intro _
  exact bR.2 (Ia (setit:=true) (n:=nn) h a b f r (by rw[wrap64 (by omega) (by omega)];omega) (by decide) h.nn0
   (VO h.cf h.nw h.nn0 j h.grp q.1.2.2.2.2.1 e (by omega) y))
 |some i=>
  dsimp only;rw[aY];intro _;have v:=(gW.1 ((cG.1 h.grp.go).2.1 _ (bK (d:=aj.aa) (qi e).1))).1;exact bR.2 (Ia (setit:=true) (n:=(A.getD i aj.aa).1) h a b f r (A' _) (by decide) v (Qy h.grp q.1.2.2.2.2.1 e))
theorem RG(h:Rt k c ti O st Z U gr A nn T V E M)(d:ti<4611686018427387904)(l:E.getD 4 ak.aa=t)(m:t.1=0)(o:0<T.length):
 Rt k c (tick ti) O st Z U gr A nn (eK T).1 V (E.set 4 (tD (eK T).2.1.2 M.length)) (M++[xu (eK T).2.1.2 O ti]):=by
 have b:=xR o;have p:(eK T).2.1∈T:=b.mem_iff.1 (aKI ..);have a:=(rC.1 h.grp.ho).1 _ p;have f:=h.grp.tm _ p;have ht0:=h.ti0
 refine gM h d (by decide) h.sto h.sub ((h.dee.up (by omega)).app ⟨zI ⟨by decide,by decide⟩ ⟨by decide,by decide⟩ a.2 h.nw.1 h.ti0,by show ti<ti+1;omega,by show-1<ti+1;omega,by show-1<ti+1;omega⟩)
  (fO.refl _ st) (dV.app _ M _) (A' _) ?_ (vE (by decide) h.tl h.loc l (by rw[dx (.inl rfl),dx (.inr (.inl m))]) rfl (fun _ _=>rfl) (by rw[eX (.inr rfl),eX (.inl (by omega))])) ?_
 have r:bf (tD (eK T).2.1.2 (M.length:Int))=((M.length:Nat):Int):=rfl;rw[r,aKU,re];exact(gj (t:=tD (eK T).2.1.2 (M.length:Int)) rfl).2 ⟨⟨rfl,by show(0:Int)<=(M.length:Int);omega,A' _,(show(0:Int)<=1 by decide),rfl,rfl,rfl,rfl,rfl,a.2⟩,by show(M.length:Int)<_;rw[J7,aKx];omega,rfl,rfl,rfl,rfl,rfl,f⟩;rw[aT _ _ (by rw[h.tl];decide)];have g:=h.grp;rw[l]at g;refine⟨g.go,Te g.ho o,fun x a=>g.tm x (b.mem_iff.1 (aKL _ a)),((sn b).2 g.ap).tail,fun y q=> ?_⟩;obtain⟨s,u,v,j⟩:=g.td y q;refine⟨s,u,v,?_⟩;rcases j with⟨x,a,e⟩|j;rcases List.mem_cons.1 (b.mem_iff.2 a)with a|a;exact .inr ⟨rfl,by rw[<-e.1,a];rfl⟩;exact .inl ⟨x,a,e⟩;exact absurd (m.symm.trans j.1) (by decide)
theorem PH{s x:Bool}{code:Int}{got:List ae}{a:List au}{b:List aJ}(h:Rt k c ti O st Z U gr A nn T V E M)(e:ti<4611686018427387904)(g:E.getD 4 ak.aa=t)(j:t.1=6)(l:t.2.1=1)
 (hc:code∈eN 8) (d:tQ c O a nn b zT):
 Rt k c (tick ti) O st Z U (-1) a nn b V (E.set 4 zT) (M.set (bf t).toNat (dA s x (M.getD (bf t).toNat aw.aa) O ti code got)):=by
 obtain⟨m,hn1,o,p,f,r⟩:=dH h (by decide) g (by omega);have q:=(gj j).1 m
 refine gM h e (by decide) h.sto h.sub ((h.dee.up (by omega)).put (sq p h.nw.1 f r h.ti0 (by rw[q.2.2.2.2.2.1];exact hc))) (fO.refl _ st) (dV.put o) (A' _) (oW (by decide))
  (Oj (by decide) h.tl h.loc g (dx (.inr (.inr (.inl (by omega))))) (dx (.inl rfl)) (by unfold cA;simp[j,l]) (eX (.inl (by decide)))) ?_
 rw[aT _ _ (by rw[h.tl];decide)];exact d
def uA(T:List aJ)(a:aF):Prop:=a.1=6->∀x∈T,¬x.2=a.2.2.2.2.2.2.2.1
def Tb(H:cR c=true)(L:0<=O/\O<=99899)(b:tQ c O A nn T t)(N:t.1=6)(P:t.2.2.2.2.2.2.2.1<nn)(I:0<=t.2.2.2.2.2.2.2.1)(J:uA T t)(R:T.length<=15):
 tQ c O (dQ A t.2.2.2.2.2.2.2.1 O) nn (xo c T (dQ A t.2.2.2.2.2.2.2.1 O) t.2.2.2.2.2.2.2.1) zT:=by
 have J:=J N;generalize S:t.2.2.2.2.2.2.2.1=n at*
 have o:∀g∈dQ A n O,(g∈A/\¬g.1=n)\/(∃v∈A,v.1=n/\g=hZ v O):=by
  intro g h;unfold dQ at h;cases e:eM A n with
  |none=>rw[e]at h;exact .inl ⟨h,Cs e g h⟩
  |some i=>
   rw[e]at h;obtain⟨q,F⟩:=gq e;dsimp only at h;have hu:∀x∈A,x.1=n->x=A.getD i aj.aa:=fun x m ex=>Fp b.go m q (by rw[ex,F]);by_cases z:(hZ (A.getD i aj.aa) O).2.2.2.2=[]
   rw[an z]at h;refine .inl ?_;have B:=(cG.1 b.go).2.2.1;have p:=kI (d:=aj.aa).2 B;rcases aKA.1 h with h|h;obtain⟨j,w,r⟩:=aKM h;rw[aKT]at w;rw[aKX]at r;have:=p i q j (by omega);rw[cx _ (show j<A.length by omega),r]at this;exact⟨aK1 h,by omega⟩;obtain⟨j,w,r⟩:=aKM h;rw[aKN]at w;rw[aKY]at r;have:=p (i+1+j) (by omega) i (by omega);rw[cx _ (show i+1+j<A.length by omega),r]at this;exact⟨aKS h,by omega⟩;rw[a_ z]at h;obtain⟨j,w,r⟩:=jb aj.aa h;rw[aKB]at w;by_cases C:i=j;subst C;rw[aT _ _ q]at r;exact .inr ⟨_,bK q,F,r.symm⟩;rw[getD_set_ne _ _ C]at r;subst r;refine .inl ⟨bK w,fun e3=>C ?_⟩;have p:=kI (d:=aj.aa).2 (cG.1 b.go).2.2.1;rcases Nat.lt_trichotomy i j with h6|h6|h6;have:=p j w i h6;omega;exact h6;have:=p i q j h6;omega
 have u:dR (dQ A n O) c.2.2.2.2.2=true:=by
  unfold dQ;cases e:eM A n with
  |none=>exact b.go
  |some i=>
   obtain⟨q,F⟩:=gq e;have G:=bK (d:=aj.aa) q;dsimp only;by_cases z:(hZ (A.getD i aj.aa) O).2.2.2.2=[]
   rw[an z];exact Ql b.go;rw[a_ z];exact Fj b.go (Sv ((cG.1 b.go).2.1 _ G) (b.td _ G).1 L.2 z) rfl rfl
 have hold:∀g∈A,¬g.1=n->∃x∈T,x.2=g.1/\x.1=iq c g:=fun g h f=>(b.td g h).2.2.2.resolve_right fun s=>f (s.2.symm.trans S)
 have a:∀g∈dQ A n O,g.2.2.1<=O/\g.2.2.2.1<=O/\g.1<nn:=by
  intro g h;rcases o g h with⟨l,s⟩|⟨v,l,s,rfl⟩;exact⟨(b.td g l).1,(b.td g l).2.1,(b.td g l).2.2.1⟩;exact⟨(b.td v l).1,A' _,(b.td v l).2.2.1⟩
 unfold xo;cases e:eM (dQ A n O) n with
 |none=>
  refine⟨u,b.ho,b.tm,b.ap,fun g h=> ?_⟩;refine⟨(a g h).1,(a g h).2.1,(a g h).2.2,.inl ?_⟩;have f:=Cs e g h;rcases o g h with⟨l,s⟩|⟨v,l,s,rfl⟩;exact hold g l f;exact absurd s f
 |some i=>
  obtain⟨q,F⟩:=gq e;have G:=bK (d:=aj.aa) q;dsimp only;have B:=qY T (iq c ((dQ A n O).getD i aj.aa),n);have D:=gW.1 ((cG.1 u).2.1 _ G);refine⟨u,PE b.ho ⟨R6 H D.2.2.1 D.2.2.2.1,I⟩ R,fun x m=> ?_,(sn B).2 ?_,fun g h=> ?_⟩;rcases aKA.1 (B.mem_iff.1 m)with m|m;exact b.tm x m;rw[G6.1 m];exact P;refine aKJ.2 ⟨b.ap,aKE _ _,fun x m y K=> ?_⟩;rw[G6.1 K];exact J x m;refine⟨(a g h).1,(a g h).2.1,(a g h).2.2,.inl ?_⟩;by_cases f:g.1=n;refine⟨_,B.mem_iff.2 (aKH _ (G6.2 rfl)),f.symm,?_⟩;rw[Fp u h q (by rw[f,F])];rcases o g h with⟨l,s⟩|⟨v,l,s,rfl⟩;obtain⟨x,m,C⟩:=hold g l f;exact⟨x,B.mem_iff.2 (aKD _ m),C⟩;exact absurd s f
def Pk{s:Bool}(h:Rt k c ti O st Z U gr A nn T V E M)(a:ti<4611686018427387904)(v:uA T (E.getD 4 ak.aa))(y:(E.getD 4 ak.aa).1=6->T.length<=15):
 (fK s k (c,ti,O,st,Z,U,gr,A,nn,T,n_,V,E,M)).1=true->bC k (fK s k (c,ti,O,st,Z,U,gr,A,nn,T,n_,V,E,M)).2=true:=by
 generalize e:E.getD 4 ak.aa=t at v y;unfold fK gP;dsimp only;rw[e];by_cases o:t.1=0;rw[an o];by_cases b:rY T O=true;rw[an b,aY];intro _;have B:0<T.length:=by unfold rY at b;simp only[t_,b_]at b;exact b.1
 exact bR.2 (RG h a e o B);rw[a_ b];intro m;simp[bH]at m;rw[a_ o];have b:=h.tas 4 (by decide);rw[e]at b
 have l:t.1=6:=by
  have h1:=gx (k:=k) (w:=(c,ti,O,st,Z,U,gr,A,nn,T,n_,V,E,M)) (i:=4) b;omega
 have q:=(gj l).1 b;have f:=h.grp;rw[e]at f;by_cases r:t.2.1=0;rw[an r];unfold gL;dsimp only;rw[e];by_cases j:gr= -1;rw[an j,aY];intro _;exact bR.2 (NT h a (.inr ⟨rfl,l⟩) e r j);rw[a_ j];intro m;simp[bH]at m;rw[a_ r];have z:t.2.1=1:=by omega
 by_cases Q:lM A t.2.2.2.2.2.2.2.1=true;rw[an Q,aY];intro _;exact bR.2 (PH h a e l z (by decide) (Tb h.cf h.nw f l q.2.2.2.2.2.2.2 q.1.2.2.2.2.2.2.2.2.2 v (y l)));rw[a_ Q,aY];intro _;refine bR.2 (PH h a e l z (by decide) ⟨f.go,f.ho,f.tm,f.ap,fun g u=> ?_⟩);obtain⟨C,D,F,h6⟩:=f.td g u;refine⟨C,D,F,.inl (h6.resolve_right fun h7=>Q ?_)⟩;unfold lM;obtain⟨i,G,_⟩:=xY (d:=aj.aa) (p:=fun x:au=>decide (x.1=t.2.2.2.2.2.2.2.1)) u (by simpa using h7.2.symm);have:eM A t.2.2.2.2.2.2.2.1=some i:=G;rw[this];rfl
end
def mH(w:ag):List ar:=w.2.2.2.1
def EC(w:ag):List aJ:=w.2.2.2.2.2.2.2.2.2.1
def Zg(w:ag):Int:=w.2.2.2.2.2.2.2.2.1
def Rf{s:Bool}{k:Nat}{w:ag}{i:Nat}(h:bC k w=true)(u:i<5)(a:w.2.1<4611686018427387904)(j:∀p∈mH w,p.2.1<4611686018427387904)
 (l:i=3->Zg w<4611686018427387904/\(EC w).length<=15) (m:i=4->uA (EC w) ((bF w).getD 4 ak.aa)/\(((bF w).getD 4 ak.aa).1=6->(EC w).length<=15)):
 (iU s k w i).1=true->bC k (iU s k w i).2=true:=by
 obtain⟨c,ti,O,st,Z,U,gr,A,nn,T,n_,V,E,M⟩:=w;have R:=bR.1 h;generalize b:E.getD i ak.aa=t;have o:=R.tas i u;rw[b]at o;have ho:=gx (k:=k) (w:=(c,ti,O,st,Z,U,gr,A,nn,T,n_,V,E,M)) (i:=i) o;unfold iU;dsimp only[bF];rw[b];by_cases e:t.1=1;rw[an e];exact Sp R a j (by omega) b e;rw[a_ e];by_cases q:t.1=2\/t.1=3;rw[an q];unfold nW wV;dsimp only;rw[b];by_cases f:t.1=2;rw[an f];exact RM R a (by omega) b f;rw[a_ f];exact P8 R a (by omega) b (by omega);rw[a_ q];by_cases g:t.1=4;rw[an g];exact OO R a j (by omega) b g;rw[a_ g];by_cases d:i=3;rw[an d];exact O7 R a (l d).1 (l d).2;rw[a_ d];by_cases h6:i=4;rw[an h6];exact Pk R a (m h6).1 (m h6).2;rw[a_ h6];intro r;cases r
section
variable{k:Nat}{c:bh}{ti O gr nn:Int}{st:List ar}{Z:List bg}{U V:List ae}{A:List au}{T:List aJ}{n_:List br}{E:List aF}{M:List aC}{t:aF}
theorem xT{i:Nat}{t':aF}{op:Int}(h:Rt k c ti O st Z U gr A nn T V E M)(a:ti<4611686018427387904)(hi:i<3)(f:E.getD i ak.aa=t)(g:t.1=0)(e:t'.2.1=0)
 (b:1<=op/\op<=9) (j:0<=t'.2.2.2.2.2.2.2.1)
 (l:cC k c.1 st nn ((M.length:Int)+1) (om t' M.length) (op,(i:Int),t'.2.2.1,t'.2.2.2.1,0,t'.2.2.2.2.2.2.2.1,0,[],O,ti,-1,-1) (i:Int)=true):
 Rt k c (tick ti) O st Z U gr A nn T V (E.set i (om t' M.length)) (M++[(op,(i:Int),t'.2.2.1,t'.2.2.2.1,0,t'.2.2.2.2.2.2.2.1,0,[],O,ti,-1,-1)]):=by
 have d:=h.ti0
 refine gM h a (by omega) h.sto h.sub ((h.dee.up (by omega)).app ⟨zI b (by omega) j h.nw.1 d,by show ti<ti+1;omega,by show-1<ti+1;omega,by show-1<ti+1;omega⟩)
  (fO.refl _ st) (dV.app _ M _) (A' _) ?_ (vE (by omega) h.tl h.loc f (by rw[dx (t:=om t' M.length) (.inl e),dx (.inr (.inl g))]) rfl (fun _ _=>rfl) (by rw[eX (t:=om t' M.length) (.inr e),eX (.inl (by omega))])) (h.grp.other (by omega))
 have m:bf (om t' (M.length:Int))=((M.length:Nat):Int):=rfl;rw[m,aKU,re,J7,aKx];exact l
def N9{d:aC}{a:List bg}(h:Rt k c ti O st Z U gr A nn T V E M)(f:ti<4611686018427387904)(o:er k d=true/\d.2.2.2.2.2.2.2.2.2.1<ti+1/\d.2.2.2.2.2.2.2.2.2.2.1<ti+1/\d.2.2.2.2.2.2.2.2.2.2.2<ti+1)
 (hs:xP c a U V):Rt k c (tick ti) O st a U gr A nn T V E (M++[d]):=by
 have g:=h.ti0;have e:=qq g f;refine⟨h.cf,by omega,h.nn0,h.nw,h.sto,hs,by rw[e];exact(h.dee.up (by omega)).app o,h.tl,fun j m=> ?_,h.loc,h.grp⟩;have b:=h.tas j m;by_cases l:(E.getD j ak.aa).1=0;exact EO b l;obtain⟨b1,b2,b3⟩:=uk b l;rw[ig _ (by omega)];exact CA b (by rw[J7];omega) (A' _) (fun _ _=>rfl) (fun _ h=>h)
def VC{a:Int}(h:Rt k c ti O st Z U gr A nn T V E M)(b:ti<4611686018427387904)(h1:O<=a)(h2:a<=99899):
 Rt k c (tick ti) a st Z U gr A nn T V E M:=by
 have d:=h.ti0;have e:=qq d b;have hw:=h.nw;refine⟨h.cf,by omega,h.nn0,by omega,h.sto,h.sub,by rw[e];exact h.dee.up (by omega),h.tl,h.tas,h.loc,h.grp.go,h.grp.ho,h.grp.tm,h.grp.ap,fun g f=> ?_⟩;have:=h.grp.td g f;exact⟨by omega,by omega,this.2.2.1,this.2.2.2⟩
end
def Pg{k:Nat}{c1 nn m O ti:Int}{st:List ar}{i:Nat}{a:ae}{l:List ai}(hi:i<3)(b:0<=m)(hc:0<c1):
 (cw a=true->cC k c1 st nn (m+1) (om (pA a) m) (1,(i:Int),a,[],0,0,0,[],O,ti,-1,-1) (i:Int)=true)/\
 (dt l=true->cC k c1 st nn (m+1) (om (tO l) m) (3,(i:Int),vo,l,0,0,0,[],O,ti,-1,-1) (i:Int)=true)/\
 cC k c1 st nn (m+1) (om qD m) (4,(i:Int),vo,[],0,0,0,[],O,ti,-1,-1) (i:Int)=true/\
 cC k c1 st nn (m+1) (om kJ m) (6,(i:Int),vo,[],0,0,0,[],O,ti,-1,-1) (i:Int)=true:=by
 have g:jv []=true:=by unfold jv;simp[lX]
 have h:bB []=true:=by unfold bB;simp[lX]
 refine⟨fun d=>(gF (t:=om (pA a) m) rfl).2 ?_,fun e=>(pf (t:=om (tO l) m) rfl).2 ?_,(gl (t:=om qD m) rfl).2 ?_,(gD (t:=om kJ m) rfl).2 ?_⟩;rw[a_ (by show¬(0:Int)=2;decide)];exact⟨⟨by omega,by omega,b,A' _,by show(0:Int)<=2;decide,fm d,rfl,rfl,rfl,rfl,rfl⟩,by show m<m+1;omega,rfl,rfl,by show(¬(-1:Int)= -1↔(0:Int)=2);decide,rfl,rfl,d⟩;exact⟨⟨by omega,by omega,b,A' _,by show(0:Int)<=1;decide,rfl,e,rfl,rfl,rfl,rfl⟩,by show m<m+1;omega,rfl,rfl,rfl,rfl,rfl⟩;rw[a_ (by show¬(0:Int)=2;decide)];exact⟨⟨by omega,by omega,b,A' _,by show(0:Int)<=2;decide,rfl,rfl,g,rfl,h,rfl⟩,by show m<m+1;omega,rfl,rfl,rfl,rfl,tB.2 ⟨fun p f=>by simp[om,qD]at f,fun _=>by simp[om,qD]⟩,A' _,by show(0:Int)<=2;decide,hc⟩;exact⟨⟨by omega,by omega,b,A' _,by show(0:Int)<=1;decide,rfl,rfl,A' _,by show(0:Int)<=2;decide,rfl,rfl,rfl⟩,by show m<m+1;omega,rfl,rfl,rfl,rfl,hc⟩
theorem EF{k:Nat}{w:ag}{i:Int}{t':aF}{op:Int}(h:qu k w i=true)(b:w.2.1<4611686018427387904)
 (f:(∃a,cw a=true/\t'=pA a/\op=1)\/(∃l,dt l=true/\t'=tO l/\op=3)\/(t'=qD/\op=4)\/(t'=kJ/\op=6)):bC k (fk w i t' op)=true:=by
 obtain⟨c,ti,O,st,Z,U,gr,A,nn,T,n_,V,E,M⟩:=w;unfold qu cP qv bc at h;simp only[t_,b_]at h;obtain⟨g,⟨h2,h3⟩,h4,d⟩:=h;have R:=bR.1 g;obtain⟨j,rfl⟩:∃j:Nat,i=(j:Int):=⟨i.toNat,by omega⟩
 rw[aKU]at d;have h0:=fT R.sto.ok;have e:=R.sto.len;have hc:0<c.1:=by omega
 obtain⟨o,p,q,r⟩:=Pg (k:=k) (c1:=c.1) (nn:=nn) (m:=(M.length:Int)) (O:=O) (ti:=ti) (st:=st) (i:=j) (a:=t'.2.2.1) (l:=t'.2.2.2.1) (by omega) (by omega) hc;refine bR.2 ?_;rcases f with⟨a,s,rfl,rfl⟩|⟨l,e,rfl,rfl⟩|⟨rfl,rfl⟩|⟨rfl,rfl⟩;exact xT (t':=pA a) (op:=1) R b (by omega) rfl d rfl (by decide) (A' _) (o s);exact xT (t':=tO l) (op:=3) R b (by omega) rfl d rfl (by decide) (A' _) (p e);exact xT (t':=qD) (op:=4) R b (by omega) rfl d rfl (by decide) (A' _) q;exact xT (t':=kJ) (op:=6) R b (by omega) rfl d rfl (by decide) (A' _) r
def HE{k:Nat}{w:ag}{i:Int}{a:ae}(h:qu k w i=true)(b:w.2.1<4611686018427387904):bC k (refused w i a)=true:=by
 obtain⟨c,ti,O,st,Z,U,gr,A,nn,T,n_,V,E,M⟩:=w;unfold qu cP qv bc at h;simp only[t_,b_]at h;obtain⟨d,⟨h2,h3⟩,h4,h5⟩:=h;have R:=bR.1 d;exact bR.2 (N9 R b ⟨uH (op:=1) (j:=0) (n:=0) (code:=4) ⟨by decide,by decide⟩ (by omega) (by decide) (by decide) R.nw.1 R.ti0 (by decide),by show ti<ti+1;omega,by show ti<ti+1;omega,by show ti<ti+1;omega⟩ R.sub)
def alV{k:Nat}{w:ag}{i:Int}{l:List ai}(h:bC k w=true)(b:w.2.1<4611686018427387904):bC k (lookW k w i l)=true/\bC k (aoF k w i)=true/\bC k (UX k w i)=true:=by
 unfold lookW aoF UX aoB;refine⟨?_,?_,?_⟩;by_cases a:(qu k w i&&dt l)=true;rw[an a];simp only[t_]at a;exact EF a.1 b (.inr (.inl ⟨l,a.2,rfl,rfl⟩));rw[a_ a];exact h;by_cases a:qu k w i=true;rw[an a];exact EF a b (.inr (.inr (.inl ⟨rfl,rfl⟩)));rw[a_ a];exact h;by_cases a:qu k w i=true;rw[an a];exact EF a b (.inr (.inr (.inr ⟨rfl,rfl⟩)));rw[a_ a];exact h
theorem pe{e:Ty}{B:Nat}:∀ {l:List e.den},(∀x∈l,af e x<=B)->af (.sl e) l<=(B+1)*l.length
 | [],_=>by rw[aX];exact aK3 _
 |x::l,h=>by
  have h1:=h x (aKI ..);have h2:=pe (l:=l) fun y a=>h y (aKL _ a);rw[bS,aKG,Nat.mul_add];omega
def gS:Nat->Nat
 |0=>0
 |s+1=>gS s+(52-s)
def Yt(s:Nat)(h:s<=53):gS s<=1378:=by
 have:∀s,s<54->gS s<=1378:=by decide
 exact this s (by omega)
def eJ(t:aF):Nat:=if t.1=0 then 0 else if t.2.1=0 then 1 else 2
def lq(l:List au):Nat:=(l.flatMap fun g=>g.2.2.2.2).length
structure Ex(n:Nat)(c:bh)(ti:Int)(st:List ar)(U:List ae)(A:List au)(nn:Int)(T:List aJ)(n_:List br)(V:List ae)(E:List aF)(M:List aC):Prop where
 ti:ti<=n
 nn:nn<=n
 ver:∀p∈st,p.2.1<=n
 hp:T.length+(if(E.getD 4 ak.aa).1=6 then 1 else 0)<=A.length
 fr:uA T (E.getD 4 ak.aa)
 fe:af (.sl ab) U<=100*n
 sa:af (.sl ab) V<=100*n
 pot:3*lq A+3*n_.length+eJ (E.getD 3 ak.aa)+eJ (E.getD 4 ak.aa)<=n
 sk:af (.sl bM) n_<=200*n_.length+97*gS n_.length
 de:af (.sl aw) M<=3000*n+97*gS n_.length
 tg:∀i,i<5->(E.getD i ak.aa).2.2.2.2.2.2.1.length<=8*(E.getD i ak.aa).2.2.2.2.2.1.length
section
variable{k:Nat}(Q:9223372036854775808<=k)
include Q
def Sa{x:ai}(h:eO x=true):af al x<=20:=by
 rw[mS Q];unfold eO ff jf at h;simp only[t_,b_]at h;omega
def vp{l:List ai}(h:dt l=true):af (.sl al) l<=84:=by
 have a:=Kz.1 h;have h2:=pe (e:=al) (B:=20) (l:=l) fun x b=>Sa Q (a.2.1 x b);have:21*l.length<=21*4:=Nat.mul_le_mul_left _ a.1;omega
def iS{a:ae}(h:bj a=true):af ab a<=96:=by
 rw[bo Q];unfold bj jf at h;simp only[t_,b_]at h;have:=vp Q h.1.1.1.1;omega
def jo{l:List ae}(h:∀a∈l,bj a=true):af (.sl ab) l<=97*l.length:=
 pe (e:=ab) (B:=96) fun a b=>iS Q (h a b)
theorem FP:∀ {l:List aP},(∀c∈l,dn k c=true)->af (.sl ax) l<=98*(l.flatMap j9).length
 | [],_=>by rw[aX];exact aK3 _
 |c::l,h=>by
  have b:=oq.1 (h c (aKI ..));have h2:=FP (l:=l) fun y d=>h y (aKL _ d);have h3:=jo Q fun a e=>(b.1 a e).1;rw[bS,cu Q,aKR,J7];simp only[j9];have:=b.2.1;omega
def Hx{st:List ar}(h:dp k st=true):af (.sl ah) st<=st.length+98*bq st:=by
 have a:∀p∈st,∀c∈p.2.2,dn k c=true:=by
  intro p b c hc;obtain⟨i,e,rfl⟩:=jb ah.aa b;exact((dM.1 ((cE.1 h).1 i e)).1 c hc).1
 unfold bq bU;clear h
 induction st with
 |nil=>rw[aX];exact aK3 _
 |cons p st f=>
  have h2:=f fun q d=>a q (aKL _ d);have h3:=FP Q (a p (aKI ..));have h4:(aW p).length=(p.2.2.flatMap j9).length:=rfl;rw[bS,bY Q,aKR,J7,aKG];omega
def P5{l:List au}{by_:List ByteArray}(h:∀g∈l,dN g by_=true):af (.sl aj) l<=85*l.length+97*lq l:=by
 unfold lq
 induction l with
 |nil=>rw[aX];exact aK3 _
 |cons g l f=>
  have h2:=f fun q d=>h q (aKL _ d);have b:=gW.1 (h g (aKI ..));have h4:=vp Q b.2.1;have h5:=jo Q fun a e=>(b.2.2.2.2.2.1 a e).1;rw[bS,cn Q,aKR,J7,aKG];omega
def TP{l:List bg}(h:∀s∈l,eL s=true):af (.sl aU) l<=292*l.length:=
 pe (e:=aU) (B:=291) fun s b=>by
  have a:=h s b;unfold eL bB at a;simp only[t_,b_]at a;have h2:=jo Q (dK.1 a.2.2);rw[eG Q];omega
theorem TY(l:List Int):af (.sl (.int .i64)) l=l.length:=by
 induction l with
 |nil=>exact aX
 |cons a l b=>
  have:af (.sl (.int .i64)) (a::l)=1+af (.int .i64) a+af (.sl (.int .i64)) l:=bS (e:= .int .i64) a l;rw[this,b,aKG];simp only[af];omega
def kT{c:bh}(h:cR c=true):af cM c<=18/\1<=c.1/\c.1<=3/\c.2.1<=8/\c.2.2.1<=2:=by
 unfold cR tA bc at h;simp only[t_,b_]at h
 have h1:=pe (e:= .str) (B:=8) (l:=c.2.2.2.2.2) fun x a=>by
  have:=dK.1 h.2.1 x a;unfold ff at this;simp only[t_,b_]at this;show x.size<=8;omega
 rw[kF Q];have:=h.2.2.1;omega
variable{c:bh}{ti O gr nn:Int}{st:List ar}{Z:List bg}{U V:List ae}{A:List au}{T:List aJ}{n_:List br}{E:List aF}{M:List aC}{n:Nat}
def TU{t:aF}{c1 nn m i:Int}{d:aC}(h:cC k c1 st nn m t d i=true)(hl:t.2.2.2.2.2.2.1.length<=8*t.2.2.2.2.2.1.length):af ak t<=2600:=by
 have e:cV t i=true:=by unfold cC at h;simp only[t_]at h;exact h.1
 rw[bw Q,TY Q];have b:af ab cF=0:=by rw[bo Q];unfold cF;rw[aX];rfl
 have el:af (.sl al) ([]:List ai)=0:=aX;have a:af (.sl ab) ([]:List ae)=0:=aX;by_cases f:t.1=1;have q:=((gF f).1 h).1;have:=iS Q q.2.2.2.2.2.1;rw[q.2.2.2.2.2.2.1,q.2.2.2.2.2.2.2.2.1,q.2.2.2.2.2.2.2.2.2.1,el,a];simp only[aKF];omega;by_cases g:t.1=2;have q:=((pf g).1 h).1;have:=vp Q q.2.2.2.2.2.2.1;rw[q.2.2.2.2.2.1,q.2.2.2.2.2.2.2.2.1,q.2.2.2.2.2.2.2.2.2.1,b,a];simp only[aKF];omega;by_cases j:t.1=3;have q0:=(gl j).1 h;have q:=q0.1;have l:=q.2.2.2.2.2.2.2.2.2.1;unfold bB at l;have:=jo Q (dK.1 l)
 have hI:t.2.2.2.2.1<=3:=by
  have:=q0.2.2.2.2.2.2.2;split at this<;>omega
 have hI2:=q.2.2.2.2.2.2.2.2.1;rw[q.2.2.2.2.2.1,q.2.2.2.2.2.2.1,b,el];omega;by_cases o:t.1=4;have q:=((gD o).1 h).1;rw[q.2.2.2.2.2.1,q.2.2.2.2.2.2.1,q.2.2.2.2.2.2.2.2.2.1,q.2.2.2.2.2.2.2.2.2.2.1,b,el,a];simp only[aKF];omega;by_cases p:t.1=5;have q:=((iM p).1 h).1;have:=iS Q q.2.2.2.2.1;rw[q.2.2.2.2.2.1,q.2.2.2.2.2.2.2.1,q.2.2.2.2.2.2.2.2.1,el,a];simp only[aKF];omega;by_cases h6:t.1=6;have q:=((gj h6).1 h).1;rw[q.2.2.2.2.1,q.2.2.2.2.2.1,q.2.2.2.2.2.2.2.1,q.2.2.2.2.2.2.2.2.1,b,el,a];simp only[aKF];omega
 have r:t=zT:=by
  unfold cV at e;simp only[f,g,j,o,p,h6,decide_false,aLk,Bool.or_false,t_,b_]at e;exact e.2.2
 rw[r];unfold zT;rw[b,el,a];simp only[aKF];omega
def QG(h:Rt k c ti O st Z U gr A nn T V E M)(a:Ex n c ti st U A nn T n_ V E M)(hn:n<=160):af az (c,ti,O,st,Z,U,gr,A,nn,T,n_,V,E,M)<=1000000:=by
 obtain⟨c0,c1,c2,c3,c4⟩:=kT Q h.cf;have a1:=Hx Q h.sto.ok;have a2:=h.sto.cap;have a3:=(cE.1 h.sto.ok).2;have a4:=TP Q h.sub.sub;have a5:=h.sub.len;have a6:=P5 Q (cG.1 h.grp.go).2.1;have a7:=(cG.1 h.grp.go).1;have a8:=a.pot;have a9:=a.hp;have b1:=Yt n_.length (by omega);have b2:=a.sk;have b3:=a.de;have b4:=a.fe;have b5:=a.sa
 have f:af (.sl ak) E<=2601*E.length:=pe (e:=ak) (B:=2600) fun t d=>by
  obtain⟨i,b,rfl⟩:=jb ak.aa d;rw[h.tl]at b;exact TU Q (h.tas i b) (a.tg i b)
 have b7:af (.sl aD) T<=1*T.length:=pe (e:=aD) (B:=0) fun t d=>by rw[Hy Q];exact aKP _
 rw[h.tl]at f;rw[da Q];dsimp only;omega
end
def Td(l m:List au):lq (l++m)=lq l+lq m:=by unfold lq;rw[List.flatMap_append,J7]
def El{l:List au}{i:Nat}{g:au}(a:i<l.length):lq (l.set i g)+(l.getD i aj.aa).2.2.2.2.length=lq l+g.2.2.2.2.length:=CU (f:=fun g:au=>g.2.2.2.2) a
def Vf{l:List au}{i:Nat}(a:i<l.length):(l.getD i aj.aa).2.2.2.2.length<=lq l:=by
 have:=El (l:=l) (i:=i) (g:=(0,[],0,0,[])) a;simp only[aKF]at this;omega
def TL(l:List au)(i:Nat):lq (l.take i++l.drop (i+1))<=lq l:=by
 have b:(l.take i++l.drop (i+1)).Sublist l:=by
  rw[<-aKZ];exact aLb _ _
 unfold lq;generalize l.take i++l.drop (i+1)=m at b
 induction b with
 |slnil=>exact aKP _
 |cons a h d=>rw[aKR,J7];omega
 |cons_cons a h d=>rw[aKR,aKR,J7,J7];omega
section
variable{k:Nat}(Q:9223372036854775808<=k)
include Q
def oc{x:Bool}{d:aC}{O ti code:Int}{got:List ae}:af aw (dA true x d O ti code got)<=af aw d+af (.sl ab) got:=by
 unfold dA ot xQ lP;rw[an (by rfl)];split;rw[bN Q,bN Q];dsimp only;omega;rw[bN Q,bN Q];dsimp only;omega
theorem kv{l:List aC}{n:Nat}{d':aC}{B:Nat}(a:n<l.length)(h:af aw d'<=af aw (l.getD n aw.aa)+B):af (.sl aw) (l.set n d')<=af (.sl aw) l+B:=by
 have:=ij (e:=aw) l n d' a;have e:l.getD n (Ty.aa aw)=l.getD n aw.aa:=rfl;omega
theorem pg{l:List aC}{d:aC}{B:Nat}(h:af aw d+1<=B):af (.sl aw) (l++[d])<=af (.sl aw) l+B:=by
 rw[dP,bS,aX];omega
def gZ:af ab cF=0:=by rw[bo Q];unfold cF;rw[aX];rfl
variable{c:bh}{ti O gr nn:Int}{st:List ar}{Z:List bg}{U V:List ae}{A:List au}{T:List aJ}{n_:List br}{E:List aF}{M:List aC}{n i:Nat}{t:aF}
omit Q in
theorem Ex.iO{t':aF}{o:List ar}{b l:List ae}{a:List aC}(h:Ex n c ti st U A nn T n_ V E M)(y:0<=ti)(hn:n<=1000)(tl:E.length=5)(hi:i<3)
 (z:∀p∈o,p.2.1<=(n:Int)+1) (hf:af (.sl ab) b<=af (.sl ab) U+100) (hs:af (.sl ab) l<=af (.sl ab) V+100) (hd:af (.sl aw) a<=af (.sl aw) M+3000)
 (B:t'.2.2.2.2.2.2.1.length<=8*t'.2.2.2.2.2.1.length):Ex (n+1) c (tick ti) o b A nn T n_ l (E.set i t') a:=by
 have e:=qq y (by have:=h.ti;omega);have C:(E.set i t').getD 3 ak.aa=E.getD 3 ak.aa:=getD_set_ne _ _ (by omega);have q:(E.set i t').getD 4 ak.aa=E.getD 4 ak.aa:=getD_set_ne _ _ (by omega);have:=h.ti;have:=h.nn;have:=h.fe;have:=h.sa;have:=h.pot;have:=h.de;refine⟨by rw[e];omega,by omega,fun p v=>by have:=z p v;omega,by rw[q];exact h.hp,by rw[q];exact h.fr,by omega,by omega,by rw[C,q];omega,h.sk,by omega,fun j w=> ?_⟩;by_cases u:i=j;subst u;rw[aT _ _ (by omega)];exact B;rw[getD_set_ne _ _ u];exact h.tg j w
omit Q in
theorem Ex.alone{a:List aC}(h:Ex n c ti st U A nn T n_ V E M)(l:0<=ti)(hn:n<=1000)(hd:af (.sl aw) a<=af (.sl aw) M+3000):
 Ex (n+1) c (tick ti) st U A nn T n_ V E a:=by
 have e:=qq l (by have:=h.ti;omega);have:=h.ti;have:=h.nn;have:=h.fe;have:=h.sa;have:=h.pot;have:=h.de;exact⟨by rw[e];omega,by omega,fun p b=>by have:=h.ver p b;omega,h.hp,h.fr,by omega,by omega,by omega,h.sk,by omega,h.tg⟩
omit Q in
theorem Ex.stay(h:Ex n c ti st U A nn T n_ V E M):Ex (n+1) c ti st U A nn T n_ V E M:=by
 have:=h.ti;have:=h.nn;have:=h.fe;have:=h.sa;have:=h.pot;have:=h.de;exact⟨by omega,by omega,fun p a=>by have:=h.ver p a;omega,h.hp,h.fr,by omega,by omega,by omega,h.sk,by omega,h.tg⟩
omit Q in
theorem kZ{st:List ar}{j:Nat}{x:Int}{B:Int}(h:∀p∈st,p.2.1<=B):∀p∈bT st j x,p.2.1<=B:=by
 intro p a;unfold bT at a;by_cases b:j<st.length;rcases aKy a with a|rfl;exact h p a;exact h (st.getD j ah.aa) (bK b);rw[aK6 (by omega)]at a;exact h p a
omit Q in
theorem mN:zT.2.2.2.2.2.2.1.length<=8*zT.2.2.2.2.2.1.length:=by decide
theorem WZ(h:Rt k c ti O st Z U gr A nn T V E M)(o:Ex n c ti st U A nn T n_ V E M)(hn:n<=160)(x:i<3)(y:E.getD i ak.aa=t)(J:t.1=1):
 (fy true k (c,ti,O,st,Z,U,gr,A,nn,T,n_,V,E,M) i).1=true->
 ∃u v m g z j a b,(fy true k (c,ti,O,st,Z,U,gr,A,nn,T,n_,V,E,M) i).2=(c,u,O,v,m,g,z,A,nn,T,n_,j,a,b)/\
  Ex (n+1) c u v g A nn T n_ j a b:=by
 have D:=fT h.sto.ok;obtain⟨I,g2⟩:=gY (k:=k) (s:=t.2.2.1.1) D;obtain⟨L,B,hb,C,hv1,hw⟩:=dH h (by omega) y (by omega);have K:=(gF J).1 L;have f:∀p∈st,p.2.1<=(n:Int)+1:=fun p r=>by have:=o.ver p r;omega
 have q:=o.tg i (by omega);rw[y]at q;unfold fy qj;dsimp only;rw[y];by_cases F:t.2.1=0;rw[an F];unfold dZ;dsimp only;rw[y];by_cases w:(st.getD (bz k st t.2.2.1.1).toNat ah.aa).1= -1;rw[an w,aY];intro _;exact⟨_,_,_,_,_,_,_,_,rfl,o.iO h.ti0 (by omega) h.tl x (kZ f) (by omega) (by omega) (by omega) q⟩;rw[a_ w];intro C;simp[bH]at C;rw[a_ F];by_cases G:t.2.1=1;rw[an G];by_cases w:rl k c st t.2.2.1=true;rw[an w,aY];intro _;exact⟨_,_,_,_,_,_,_,_,rfl,o.iO h.ti0 (by omega) h.tl x (kZ f) (by omega) (by omega) (kv Q B (aKK (oc Q) (by rw[aX];omega))) mN⟩;rw[a_ w,aY];intro _;refine⟨_,_,_,_,_,_,_,_,rfl,o.iO h.ti0 (by omega) h.tl x (fun p r=> ?_) (by omega) (by omega) (kv Q B ?_) q⟩;rw[sJ D]at r;rcases aKy r with r|rfl;exact f p r;have hv:=o.ver _ (bK (d:=ah.aa) I);have hv0:=(dM.1 ((cE.1 h.sto.ok).1 _ I)).2.2.2;rw[(sG k _ _).1,wrap64 (by omega) (by omega)];omega;unfold nT;rw[bN Q,bN Q];dsimp only;omega;rw[a_ G,aY];intro _;have ha:=iS Q K.1.2.2.2.2.2.1
 have H:∀l:List ae,af (.sl ab) (l++[t.2.2.1])<=af (.sl ab) l+100:=fun l=>by
  rw[dP (e:=ab),bS (e:=ab),aX];omega
 refine⟨_,_,_,_,_,_,_,_,rfl,o.iO h.ti0 (by omega) h.tl x (kZ f) (H _) (H _) ?_ mN⟩
 have a1:af (.sl aw) (M++[eT (mO i t.2.2.1) O ti ti ti])<=af (.sl aw) M+200:=pg Q (by
  unfold eT mO;rw[bN Q];dsimp only;rw[aX,aX];omega)
 have a2:af (.sl aw) ((M++[eT (mO i t.2.2.1) O ti ti ti]).set (bf t).toNat (lP (M.getD (bf t).toNat aw.aa) ti))<=af (.sl aw) (M++[eT (mO i t.2.2.1) O ti ti ti])+0:=kv Q (by rw[J7];omega) (by
  rw[ig _ B];unfold lP;rw[bN Q,bN Q];exact aKP _)
 omega
end
section
variable{k:Nat}(Q:9223372036854775808<=k)
include Q
variable{c:bh}{ti O gr nn:Int}{st:List ar}{Z:List bg}{U V:List ae}{A:List au}{T:List aJ}{n_:List br}{E:List aF}{M:List aC}{n i:Nat}{t:aF}
def WJ(h:Rt k c ti O st Z U gr A nn T V E M)(q:Ex n c ti st U A nn T n_ V E M)(hn:n<=160)(v:i<3)(s:E.getD i ak.aa=t)(ho:t.1=2):
 (bH (mF true k (c,ti,O,st,Z,U,gr,A,nn,T,n_,V,E,M) i)).1=true->
 ∃m o j d u f a b,(bH (mF true k (c,ti,O,st,Z,U,gr,A,nn,T,n_,V,E,M) i)).2=(c,m,O,o,j,d,u,A,nn,T,n_,f,a,b)/\
  Ex (n+1) c m o d A nn T n_ f a b:=by
 have h0:=fT h.sto.ok;obtain⟨hr,y,hb,w,hv1,hw⟩:=dH h (by omega) s (by omega);have g:∀p∈st,p.2.1<=(n:Int)+1:=fun p z=>by have:=q.ver p z;omega
 have r:=q.tg i (by omega);rw[s]at r;unfold mF;dsimp only;rw[s];by_cases x:t.2.1=0;rw[an x];unfold dZ;dsimp only;rw[s];by_cases l:(st.getD (bz k st t.2.2.2.1).toNat ah.aa).1= -1;rw[an l,aY];intro _;exact⟨_,_,_,_,_,_,_,_,rfl,q.iO h.ti0 (by omega) h.tl v (kZ g) (by omega) (by omega) (by omega) r⟩;rw[a_ l];intro w;simp[bH]at w;rw[a_ x];by_cases l:(bL k st t.2.2.2.1).2=true;rw[an l,aY];intro _;have ha:=iS Q (fm (h.sto.fit _ (zD l).2));exact⟨_,_,_,_,_,_,_,_,rfl,q.iO h.ti0 (by omega) h.tl v (kZ g) (by omega) (by omega) (kv Q y (aKK (oc Q) (by rw[bS (e:=ab),aX];omega))) mN⟩;rw[a_ l,aY];intro _;exact⟨_,_,_,_,_,_,_,_,rfl,q.iO h.ti0 (by omega) h.tl v (kZ g) (by omega) (by omega) (kv Q y (aKK (oc Q) (by rw[aX];omega))) mN⟩
omit Q in
theorem Nd{st:List ar}{j:Nat}(a:j<st.length):(aW (st.getD j ah.aa)).length<=bq st:=by
 have:=count_set (l:=st) (p:=(0,0,[])) a;have e:(aW ((0,0,[]):ar)).length=0:=rfl;omega
def VM(h:Rt k c ti O st Z U gr A nn T V E M)(j:Ex n c ti st U A nn T n_ V E M)(hn:n<=160)(s:i<3)(u:E.getD i ak.aa=t)(D:t.1=3):
 (bH (fH true k (c,ti,O,st,Z,U,gr,A,nn,T,n_,V,E,M) i)).1=true->
 ∃l m g e v f a b,(bH (fH true k (c,ti,O,st,Z,U,gr,A,nn,T,n_,V,E,M) i)).2=(c,l,O,m,g,e,v,A,nn,T,n_,f,a,b)/\
  Ex (n+1) c l m e A nn T n_ f a b:=by
 have h0:=fT h.sto.ok;obtain⟨H,I,hb,w,hv1,hw⟩:=dH h (by omega) u (by omega);have F:=(gl D).1 H;obtain⟨⟨q1,q2,q3,q4,q5,q6,q7,q8,q9,q,q11⟩,q12,q13,q14,q15,q16,q17,r⟩:=F;have d:∀p∈st,p.2.1<=(n:Int)+1:=fun p C=>by have:=j.ver p C;omega
 have o:=j.tg i (by omega);rw[u]at o;have hlen:=h.sto.len;have h3:=(cE.1 h.sto.ok).2;unfold fH;dsimp only;rw[u];by_cases x:t.2.1=0;rw[an x];unfold dZ;dsimp only;rw[u];by_cases y:(st.getD t.2.2.2.2.1.toNat ah.aa).1= -1;rw[an y,aY];intro _;exact⟨_,_,_,_,_,_,_,_,rfl,j.iO h.ti0 (by omega) h.tl s (kZ d) (by omega) (by omega) (by omega) o⟩;rw[a_ y];intro w;simp[bH]at w;rw[a_ x];by_cases z:t.2.1=1;rw[an z,aY];intro _;rw[a_ (by omega)]at r;have G:t.2.2.2.2.1.toNat<st.length:=by omega
 have:=Nd G;have:=h.sto.cap;have:=(kT Q h.cf).2.2.2.1;refine⟨_,_,_,_,_,_,_,_,rfl,j.iO h.ti0 (by omega) h.tl s (kZ d) (by omega) (by omega) (by omega) ?_⟩;unfold lR;dsimp only;rw[J7,J7,aKx];omega;rw[a_ z];by_cases B:gC st t.2.2.2.2.2.1=true;rw[an B,aY];intro _;have hI:t.2.2.2.2.1<=3:=by split at r<;>omega
 unfold bB at q;have:=jo Q (dK.1 q);exact⟨_,_,_,_,_,_,_,_,rfl,j.iO h.ti0 (by omega) h.tl s d (by omega) (by omega) (kv Q I (aKK (oc Q) (by rw[tL];omega))) mN⟩;rw[a_ B,aY];intro _;exact⟨_,_,_,_,_,_,_,_,rfl,j.iO h.ti0 (by omega) h.tl s d (by omega) (by omega) (by omega) (by unfold qX;simp)⟩
omit Q in
theorem TA{p:ar}{O:Int}{a:ae}(h:a∈db O p.2.2):a∈aW p:=by
 obtain⟨c,hc,b⟩:=aK7.1 h;unfold iV at b;exact aK7.2 ⟨c,hc,(aK9.1 b).1⟩
def TO(h:Rt k c ti O st Z U gr A nn T V E M)(r:Ex n c ti st U A nn T n_ V E M)(hn:n<=160)(D:i<3)(y:E.getD i ak.aa=t)(L:t.1=4):
 (eF true k (c,ti,O,st,Z,U,gr,A,nn,T,n_,V,E,M) i).1=true->
 ∃s u q g C j b f,(eF true k (c,ti,O,st,Z,U,gr,A,nn,T,n_,V,E,M) i).2=(c,s,O,u,q,g,C,A,nn,T,n_,j,b,f)/\
  Ex (n+1) c s u g A nn T n_ j b f:=by
 have h0:=fT h.sto.ok;obtain⟨N,P,hb,H,hv1,hw⟩:=dH h (by omega) y (by omega);obtain⟨⟨q1,q2,q3,q4,q5,q6,q7,q8,q9,F,G,q11'⟩,q12,q13,q14,q15,q16,q17⟩:=(gD L).1 N;have o:∀p∈st,p.2.1<=(n:Int)+1:=fun p v=>by have:=r.ver p v;omega
 have w:=r.tg i (by omega);rw[y]at w;have hlen:=h.sto.len;have z:t.2.2.2.2.1.toNat<st.length:=by omega
 unfold eF qJ;dsimp only;rw[y];by_cases I:t.2.1=0;rw[an I];unfold dZ;dsimp only;rw[y];by_cases J:(st.getD t.2.2.2.2.1.toNat ah.aa).1= -1;rw[an J,aY];intro _;exact⟨_,_,_,_,_,_,_,_,rfl,r.iO h.ti0 (by omega) h.tl D (kZ o) (by omega) (by omega) (by omega) w⟩;rw[a_ J];intro H;simp[bH]at H;rw[a_ I,aY];intro _
 have x:∀p∈st.set t.2.2.2.2.1.toNat (-1,(dU (st.getD t.2.2.2.2.1.toNat ah.aa) O).2),p.2.1<=(n:Int)+1:=by
  intro p v;rcases aKy v with v|rfl;exact o p v;have hv:=r.ver _ (bK (d:=ah.aa) z);have hv0:=(dM.1 ((cE.1 h.sto.ok).1 _ z)).2.2.2;unfold dU;dsimp only;split;rw[wrap64 (by omega) (by omega)];omega;omega
 have hgl:=zA (st.getD t.2.2.2.2.1.toNat ah.aa) O;have:=Nd z;have:=h.sto.cap;have:=(kT Q h.cf).2.2.2.1;have hgt:=jo Q (l:=db O (st.getD t.2.2.2.2.1.toNat ah.aa).2.2) fun a K=>fm (h.sto.fit a (aK7.2 ⟨_,bK z,TA K⟩))
 have a1:af (.sl aw) (M++[eT (fb i t.2.2.2.2.1.toNat (db O (st.getD t.2.2.2.2.1.toNat ah.aa).2.2)) O ti ti ti])<=af (.sl aw) M+800:=pg Q (by
  have e:af aw (eT (fb i t.2.2.2.2.1.toNat (db O (st.getD t.2.2.2.2.1.toNat ah.aa).2.2)) O ti ti ti)=af ab cF+af (.sl al) ([]:List ai)+af (.sl ab) (db O (st.getD t.2.2.2.2.1.toNat ah.aa).2.2):=bN Q _;rw[e,gZ Q,aX];omega)
 by_cases m:t.2.2.2.2.1.toNat+1=st.length;rw[an m,an m];refine⟨_,_,_,_,_,_,_,_,rfl,r.iO h.ti0 (by omega) h.tl D x (by omega) (by omega) ?_ mN⟩;refine aKK (kv Q (B:=0) (by rw[J7];omega) ?_) (by omega);rw[ig _ P];exact aKK (oc Q) (by rw[aX];omega);rw[a_ m,a_ m];exact⟨_,_,_,_,_,_,_,_,rfl,r.iO h.ti0 (by omega) h.tl D x (by omega) (by omega) (by omega) (by dsimp only;rw[F,G];decide)⟩
end
def Qh(l:List ae)(a:ae):(gw l a).length<=l.length+1:=by
 unfold gw;split;rw[aKB];omega;simp only[J7,aKT,aKN,aKx];omega
def Bi(l:List aJ)(t:aJ):(vf l t).length=l.length+1:=by
 rw[(qY l t).length_eq,J7,aKx]
section
variable{k:Nat}(Q:9223372036854775808<=k)
include Q
variable{c:bh}{ti O gr nn:Int}{st:List ar}{Z:List bg}{U V:List ae}{A:List au}{T:List aJ}{n_:List br}{E:List aF}{M:List aC}{n i:Nat}{t:aF}
omit Q in
theorem Ex.join{t':aF}{o:List ae}{a:List au}{q:Int}{b:List aJ}{l:List aC}(h:Ex n c ti st U A nn T n_ V E M)(C:0<=ti)(hn:n<=1000)(tl:E.length=5)(D:E.getD 3 ak.aa=t)
 (hf:af (.sl ab) o<=af (.sl ab) U) (hd:af (.sl aw) l<=af (.sl aw) M+3000) (hnn:q<=nn+1) (w:b.length+A.length<=T.length+a.length)
 (u:uA T (E.getD 4 ak.aa)->uA b (E.getD 4 ak.aa)) (hpot:3*lq a+eJ t'<=3*lq A+eJ t+1) (G:t'.2.2.2.2.2.2.1.length<=8*t'.2.2.2.2.2.1.length):
 Ex (n+1) c (tick ti) st o a q b n_ V (E.set 3 t') l:=by
 have e:=qq C (by have:=h.ti;omega);have y:(E.set 3 t').getD 3 ak.aa=t':=aT _ _ (by omega);have v:(E.set 3 t').getD 4 ak.aa=E.getD 4 ak.aa:=getD_set_ne _ _ (by omega);have a1:=h.ti;have a2:=h.nn;have a3:=h.fe;have a4:=h.sa;have H:=h.pot;have a6:=h.de;have a7:=h.hp;rw[D]at H;refine⟨by rw[e];omega,by omega,fun p w=>by have:=h.ver p w;omega,by rw[v];omega,by rw[v];exact u h.fr,by omega,by omega,by rw[y,v];omega,h.sk,by omega,fun j B=> ?_⟩;by_cases z:3=j;subst z;rw[y];exact G;rw[getD_set_ne _ _ z];exact h.tg j B
theorem VR(h:Rt k c ti O st Z U gr A nn T V E M)(y:Ex n c ti st U A nn T n_ V E M)(hn:n<=160):
 (eW true k (c,ti,O,st,Z,U,gr,A,nn,T,n_,V,E,M)).1=true->
 ∃B o I a C p b f,(eW true k (c,ti,O,st,Z,U,gr,A,nn,T,n_,V,E,M)).2=(c,B,O,st,Z,o,I,a,C,p,n_,V,b,f)/\
  Ex (n+1) c B st o a C p n_ V b f:=by
 generalize u:E.getD 3 ak.aa=t;have K:=h.tas 3 (by decide);rw[u]at K;have F:=y.tg 3 (by decide);rw[u]at F;unfold eW gH;dsimp only;rw[u];by_cases z:t.1=0;rw[an z];by_cases N:U.length=0;rw[an N];intro D;simp[bH]at D;rw[a_ N,aY];intro _;have ha:=iS Q (h.sub.fee _ (bK (d:=ab.aa) (i:=0) (by omega)));have hdr:=cN (e:=ab) U 1;refine⟨_,_,_,_,_,_,_,_,rfl,y.join h.ti0 (by omega) h.tl u (by omega) (pg Q ?_) (by omega) (by omega) id ?_ (by unfold tK;simp)⟩;have e:af aw (AU (U.getD 0 ab.aa) O ti)=af ab (U.getD 0 ab.aa)+af (.sl al) ([]:List ai)+af (.sl ab) ([]:List ae):=bN Q _;rw[e,aX,aX];omega;have:eJ (tK (U.getD 0 ab.aa) (M.length:Int))=1:=rfl;omega;rw[a_ z]
 have R:t.1=5:=by
  have S:=gx (k:=k) (w:=(c,ti,O,st,Z,U,gr,A,nn,T,n_,V,E,M)) (i:=3) K;omega
 have q:=(iM R).1 K;obtain⟨_,X,hb,D,hv1,hw⟩:=dH h (by decide) u z;have s:∀(d:aC) (code:Int),af aw d<=af aw (M.getD (bf t).toNat aw.aa)->af (.sl aw) (M.set (bf t).toNat (dA true false d O ti code []))<=af (.sl aw) M+3000:=fun d code D=>kv Q X (aKK (oc Q) (by rw[aX];omega))
 have v:∀m,af aw (ou (M.getD (bf t).toNat aw.aa) m)<=af aw (M.getD (bf t).toNat aw.aa):=fun m=>by
  unfold ou;rw[bN Q,bN Q];exact aKP _
 by_cases H:t.2.1=0;rw[an H];unfold gL;dsimp only;rw[u];by_cases P:gr= -1;rw[an P,aY];intro _;refine⟨_,_,_,_,_,_,_,_,rfl,y.join h.ti0 (by omega) h.tl u (by omega) (by omega) (by omega) (by omega) id ?_ F⟩;have e1:eJ t=1:=by unfold eJ;rw[a_ z,an H]
 have e2:eJ (t.1,(1:Int),t.2.2)=2:=by unfold eJ;rw[a_ z];rfl
 omega;rw[a_ P];intro D;simp[bH]at D;rw[a_ H];have hnn0:=h.nn0;have hnnb:=y.nn;have ep:eJ t=2:=by unfold eJ;rw[a_ z,a_ H]
 have ez:eJ zT=0:=rfl;cases L:eR A (keyOf t.2.2.1 c.2.2.2.2.2)with
 |none=>
  dsimp only;by_cases G:12<=A.length;rw[an G,aY];intro _;exact⟨_,_,_,_,_,_,_,_,rfl,y.join h.ti0 (by omega) h.tl u (aKP _) (s _ 3 (aKP _)) (by omega) (by omega) id (by omega) mN⟩;rw[a_ G,aY];intro _;refine⟨_,_,_,_,_,_,_,_,rfl,y.join h.ti0 (by omega) h.tl u (aKP _) (s _ 1 (v nn)) (by rw[wrap64 (by omega) (by omega)];omega) ?_ ?_ ?_ mN⟩;rw[Bi,J7,aKx];omega;intro J h6 x r;rcases aKA.1 ((qY _ _).mem_iff.1 r)with r|r;exact J h6 x r;rw[G6.1 r];have W:=h.tas 4 (by decide);have:=((gj h6).1 W).2.2.2.2.2.2.2;show¬nn=_;omega;rw[Td];have:lq [mB c t.2.2.1 nn O]=1:=rfl;omega
 |some j=>
  dsimp only;rw[aY];intro _;refine⟨_,_,_,_,_,_,_,_,rfl,y.join h.ti0 (by omega) h.tl u (aKP _) (s _ 2 (v _)) (by omega) (by rw[aKB];omega) id ?_ mN⟩;have S:=El (l:=A) (i:=j) (g:=im (A.getD j aj.aa) t.2.2.1) (qi L).1;have h2:(im (A.getD j aj.aa) t.2.2.1).2.2.2.2.length<=(A.getD j aj.aa).2.2.2.2.length+1:=Qh _ _;omega
omit Q in
theorem Ex.flush{t':aF}{b:List au}{l:List aJ}{a:List br}{o:List aC}(h:Ex n c ti st U A nn T n_ V E M)(B:0<=ti)(hn:n<=1000)(tl:E.length=5)
 (C:af (.sl aw) o<=3000*(n+1)+97*gS a.length) (v:l.length+(if t'.1=6 then 1 else 0)<=b.length)
 (w:uA l t') (q:3*lq b+3*a.length+eJ (E.getD 3 ak.aa)+eJ t'<=n+1) (hs:af (.sl bM) a<=200*a.length+97*gS a.length) (D:t'.2.2.2.2.2.2.1.length<=8*t'.2.2.2.2.2.1.length):
 Ex (n+1) c (tick ti) st U b nn l a V (E.set 4 t') o:=by
 have e:=qq B (by have:=h.ti;omega);have G:(E.set 4 t').getD 3 ak.aa=E.getD 3 ak.aa:=getD_set_ne _ _ (by omega);have u:(E.set 4 t').getD 4 ak.aa=t':=aT _ _ (by omega);have a1:=h.ti;have a2:=h.nn;have a3:=h.fe;have a4:=h.sa;refine⟨by rw[e];omega,by omega,fun p v=>by have:=h.ver p v;omega,by rw[u];exact v,by rw[u];exact w,by omega,by omega,by rw[G,u];exact q,hs,C,fun j z=> ?_⟩;by_cases y:4=j;subst y;rw[u];exact D;rw[getD_set_ne _ _ y];exact h.tg j z
omit Q in
theorem O4(l:List au)(m O:Int):lq (dQ l m O)<=lq l:=by
 unfold dQ;cases e:eM l m with
 |none=>exact aKP _
 |some i=>
  dsimp only;split;exact TL _ _;have h1:=El (l:=l) (i:=i) (g:=hZ (l.getD i aj.aa) O) (gq e).1
  have h2:(hZ (l.getD i aj.aa) O).2.2.2.2.length<=(l.getD i aj.aa).2.2.2.2.length:=by
   unfold hZ dC;exact aLa _ _
  omega
omit Q in
theorem Qi{c:bh}{T:List aJ}{l:List au}{m O:Int}{by_:List ByteArray}(p:dR l by_=true)(h:T.length+1<=l.length):(xo c T (dQ l m O) m).length<=(dQ l m O).length:=by
 unfold xo;cases a:eM (dQ l m O) m with
 |none=>
  dsimp only;unfold dQ;cases e:eM l m with
  |none=>dsimp only;omega
  |some i=>
   dsimp only;have:=(gq e).1;split;simp only[J7,aKT,aKN];omega;rw[aKB];omega
 |some j=>
  dsimp only;rw[Bi];unfold dQ at a|-;cases e:eM l m with
  |none=>dsimp only;omega
  |some i=>
   rw[e]at a;dsimp only at a|-;obtain⟨s,k2⟩:=gq e;by_cases o:(hZ (l.getD i aj.aa) O).2.2.2.2=[]
   exfalso;rw[an o]at a;obtain⟨u,j2⟩:=gq a;have r:=bK (d:=aj.aa) u;have b:=kI (d:=aj.aa).2 (cG.1 p).2.2.1;generalize (l.take i++l.drop (i+1)).getD j aj.aa=g at*
   rcases aKA.1 r with h|h;obtain⟨q,f,eq⟩:=aKM h;rw[aKT]at f;rw[aKX]at eq;have:=b i s q (by omega);rw[cx _ (show q<l.length by omega),eq]at this;omega;obtain⟨q,f,eq⟩:=aKM h;rw[aKN]at f;rw[aKY]at eq;have:=b (i+1+q) (by omega) i (by omega);rw[cx _ (show i+1+q<l.length by omega),eq]at this;omega;rw[a_ o,aKB];omega
theorem Tk(h:Rt k c ti O st Z U gr A nn T V E M)(r:Ex n c ti st U A nn T n_ V E M)(hn:n<=160):
 (fK true k (c,ti,O,st,Z,U,gr,A,nn,T,n_,V,E,M)).1=true->
 ∃y L b m o f g,(fK true k (c,ti,O,st,Z,U,gr,A,nn,T,n_,V,E,M)).2=(c,y,O,st,Z,U,L,b,nn,m,o,V,f,g)/\
  Ex (n+1) c y st U b nn m o V f g:=by
 generalize v:E.getD 4 ak.aa=t;have P:=h.tas 4 (by decide);rw[v]at P;have z:=r.tg 4 (by decide);rw[v]at z;have C:=r.hp;have X:=r.fr;have a4:=r.pot;have R:=r.sk;have a6:=r.de;rw[v]at C X a4;unfold fK gP;dsimp only;rw[v];by_cases u:t.1=0;rw[an u];by_cases p:rY T O=true;rw[an p,aY];intro _;have J:0<T.length:=by unfold rY at p;simp only[t_,b_]at p;exact p.1
 have Y:=xR J;have hlen:=Y.length_eq;rw[aKG]at hlen;rw[a_ (by omega)]at C;have ep:eJ t=0:=by unfold eJ;rw[an u]
 have hdd:=pg Q (l:=M) (d:=xu (eK T).2.1.2 O ti) (B:=1) (by
  have e:af aw (xu (eK T).2.1.2 O ti)=af ab cF+af (.sl al) ([]:List ai)+af (.sl ab) ([]:List ae):=bN Q _;rw[e,gZ Q,aX,aX];omega)
 refine⟨_,_,_,_,_,_,_,rfl,r.flush h.ti0 (by omega) h.tl (by omega) (by rw[an (by rfl)];omega) ?_ (by have:eJ (tD (eK T).2.1.2 (M.length:Int))=1:=rfl;omega) R (by unfold tD;simp)⟩;intro _ x N;have S:=(sn Y).2 h.grp.ap;have:=(List.pairwise_cons.1 S).1 x N;exact fun e=>this e.symm;rw[a_ p];intro I;simp[bH]at I;rw[a_ u]
 have W:t.1=6:=by
  have h1:=gx (k:=k) (w:=(c,ti,O,st,Z,U,gr,A,nn,T,n_,V,E,M)) (i:=4) P;omega
 have q:=(gj W).1 P;obtain⟨_,J,hb,I,hv1,hw⟩:=dH h (by decide) v u;rw[an W]at C;by_cases K:t.2.1=0;rw[an K];unfold gL;dsimp only;rw[v];by_cases D:gr= -1;rw[an D,aY];intro _;have e1:eJ t=1:=by unfold eJ;rw[a_ u,an K]
 have e2:eJ (t.1,(1:Int),t.2.2)=2:=by unfold eJ;rw[a_ u];rfl
 exact⟨_,_,_,_,_,_,_,rfl,r.flush h.ti0 (by omega) h.tl (by omega) (by rw[an W];exact C) X (by omega) R z⟩;rw[a_ D];intro I;simp[bH]at I;rw[a_ K];have ep:eJ t=2:=by unfold eJ;rw[a_ u,a_ K]
 have ez:eJ zT=0:=rfl;have F:∀l:List aJ,uA l zT:=fun l h6=>absurd h6 (by decide);by_cases s:lM A t.2.2.2.2.2.2.2.1=true;rw[an s,aY];intro _;have hm:=O4 A t.2.2.2.2.2.2.2.1 O
 obtain⟨j,ej⟩:∃j,eM A t.2.2.2.2.2.2.2.1=some j:=by
  unfold lM at s;exact Option.isSome_iff_exists.1 s
 obtain⟨k1,k2⟩:=gq ej;have eb:iy A t.2.2.2.2.2.2.2.1 O=sK (A.getD j aj.aa) O:=by unfold iy;rw[ej]
 have G:=gW.1 ((cG.1 h.grp.go).2.1 _ (bK (d:=aj.aa) k1));have t1:=vp Q G.2.1;have t2:=jo Q fun a ha=>(G.2.2.2.2.2.1 a ha).1;have t3:=Vf (l:=A) k1;have tb:af bM (sK (A.getD j aj.aa) O)=af (.sl al) (A.getD j aj.aa).2.1+af (.sl ab) (A.getD j aj.aa).2.2.2.2:=px Q _;have H:gS (n_.length+1)=gS n_.length+(52-n_.length):=rfl;refine⟨_,_,_,_,_,_,_,rfl,r.flush h.ti0 (by omega) h.tl ?_ ?_ (F _) ?_ ?_ mN⟩;rw[J7,aKx,H,eb];have hf:=kv Q J (d':=dA true true (M.getD (bf t).toNat aw.aa) O ti 8 (sK (A.getD j aj.aa) O).2.2.2) (B:=af (.sl ab) (A.getD j aj.aa).2.2.2.2) (oc Q);omega;rw[a_ (by decide)];exact Qi h.grp.go C;rw[J7,aKx];omega;rw[J7,aKx,H,eb,dP,bS,aX,tb];omega;rw[a_ s,aY];intro _;have hf:=kv Q J (d':=dA true false (M.getD (bf t).toNat aw.aa) O ti 6 []) (B:=0) (aKK (oc Q) (by rw[aX];omega));exact⟨_,_,_,_,_,_,_,rfl,r.flush h.ti0 (by omega) h.tl (by omega) (by rw[a_ (by decide)];omega) (F _) (by omega) R mN⟩
end
def ei(s:bg):bg×ae×Int:=
 if s.2=true then(([],false),cF,2)else if s.1.length=0 then(([],false),cF,0)else((s.1.drop 1,false),s.1.getD 0 ab.aa,1)
def AL(i:Int)(s:bg)(O ti:Int):aC:=
 (9,-1,cF,[],i,0,if(ei s).2.2=1 then 5 else if(ei s).2.2=2 then 7 else 6,if(ei s).2.2=1 then [(ei s).2.1]else [],O,ti,ti,ti)
def df(w:ag):List bg:=w.2.2.2.2.1
def Sg(w:ag)(i:Int):ag:=
 (w.1,tick w.2.1,w.2.2.1,w.2.2.2.1,(df w).set i.toNat (ei ((df w).getD i.toNat aU.aa)).1,w.2.2.2.2.2.1,w.2.2.2.2.2.2.1,w.2.2.2.2.2.2.2.1,w.2.2.2.2.2.2.2.2.1,w.2.2.2.2.2.2.2.2.2.1,w.2.2.2.2.2.2.2.2.2.2.1,w.2.2.2.2.2.2.2.2.2.2.2.1,bF w,
  bV w++[AL i ((df w).getD i.toNat aU.aa) w.2.2.1 w.2.1])
def W7(w:ag)(n:Int):ag:=(w.1,tick w.2.1,n,w.2.2.2)
def pz(k:Nat)(w:ag)(e:cq):Bool×ag:=
 if e.1=1 then(if cP w e.2.1=true then(true,if cw e.2.2.1=true then fk w e.2.1 (pA e.2.2.1) 1 else refused w e.2.1 e.2.2.1)else(false,w))
 else if e.1=2 then(if(cP w e.2.1&&dt e.2.2.2)=true then(true,fk w e.2.1 (tO e.2.2.2) 3)else(false,w))
 else if e.1=3 then(if cP w e.2.1=true then(true,fk w e.2.1 qD 4)else(false,w))
 else if e.1=4 then(if cP w e.2.1=true then(true,fk w e.2.1 kJ 6)else(false,w))
 else if e.1=5 then(if bc e.2.1 0 4=true then iU true k w e.2.1.toNat else(false,w))
 else if e.1=6 then(if bc e.2.1 0 ((df w).length-1)=true then(true,Sg w e.2.1)else(false,w))
 else if e.1=7 then(if bc e.2.1 1 20=true/\w.2.2.1+e.2.1<=99899 then(true,W7 w (w.2.2.1+e.2.1))else(false,w))
 else(false,w)
section
variable{k:Nat}(Q:9223372036854775808<=k)
include Q
def Oe{s:bg}(hs:af aU s<=1048576):lN k (s,())=some ((ei s).1,(ei s).2.1,(ei s).2.2,()):=by
 rw[eG Q]at hs;have hl:=ay (e:=ab) (l:=s.1);simp only[lN];unfold ei;by_cases a:s.2=true;rw[an a,an a];rfl;rw[a_ a,a_ a];by_cases b:s.1.length=0;rw[an (by simpa using b),an b];rfl;have h3:=cN (e:=ab) s.1 1;have h4:=dw (e:=ab) (l:=s.1) (i:=0) (d:=ab.aa) (by omega);rw[a_ (by simpa using b),a_ b,an (by simp;omega),show Int.toNat 1=1 from rfl,fB Q (by omega),aKz,an (by simp;omega),show Int.toNat 0=0 from rfl,dh Q (by omega),aKz]
def Dy{w:ag}{i:Int}{a:ae}(hs:af az w<=1048576)(f:af ab a<=1048576)(hc:cP w i=true):
 kM k (w,i,a,())=some (if cw a=true then fk w i (pA a) 1 else refused w i a,()):=by
 obtain⟨q1,q2,q3⟩:=rW hc;simp only[kM,aN,rU Q f,aKz];by_cases b:cw a=true;have:=OF Q (w:=w) (i:=i) (t:=pA a) hs (by rw[bw Q];simp[pA,af]at f|-;omega) (show(0:Int)<=1 by decide) (show(1:Int)<=6 by decide) q1 q3;simp only[S8]at this;rw[an b,an b];cases d:dv k (w,i,pA a,())with
 |none=>rw[d]at this;cases this
 |some z=>
  rw[d,aKz]at this;have e:dv k (w,i,((1:Int),(0,(a,(([]:List ai),(0,(([]:List Int),(([]:List ae),(0,0)))))))),())=some z:=d;rw[e,aKz];have g:=Option.some.inj this;have h:(z.1.1,(IntKind.i64.wrap (z.1.2.1+(1:Int)),z.1.2.2))=fk w i (pA a) 1:=congrArg Prod.fst g;rw[h]
 rw[aKC]at b;rw[a_ (by simp[b]),a_ (by simp[b]),dh Q (by omega),aKz,nZ Q hs,aKz];rfl
def Vv{w:ag}{i:Nat}(hs:af az w<=1048576)(a:i<(df w).length):af aU ((df w).getD i aU.aa)<=1048576:=by
 have h1:=da Q w;have h2:=dw (e:=aU) (l:=df w) (d:=aU.aa) a;have h3:af (.sl aU) (df w)<=af az w:=by unfold df;omega
 omega
set_option maxHeartbeats 4000000 in
def EB{w:ag}{e:cq}(hs:af az w<=1048000)(h:bC k w=true)(ha:af ab e.2.2.1<=10000)(L:af (.sl al) e.2.2.2<=10000):
 pq k (w,e,())=some ((pz k w e).1,(pz k w e).2,()):=by
 obtain⟨kind,K,a,l⟩:=e;dsimp only at ha L
 have N:(bF w).length=5:=by
  obtain⟨c,ti,O,st,Z,U,gr,A,nn,T,n_,V,E,M⟩:=w;exact(bR.1 h).tl
 have hnow:0<=w.2.2.1/\w.2.2.1<=99899:=by
  obtain⟨c,ti,O,st,Z,U,gr,A,nn,T,n_,V,E,M⟩:=w;exact(bR.1 h).nw
 have hsub:(df w).length<=1048576:=by
  have D:=da Q w;have P:=ay (e:=aU) (l:=df w);have R:af (.sl aU) (df w)<=af az w:=by unfold df;omega
  omega
 have f:(!((bc K 0 2:Bool)==true)||decide (0<=K/\K<((bF w).length:Int)))=true:=by
  rw[N];by_cases b:bc K 0 2=true;have:0<=K/\K<((5:Nat):Int):=by unfold bc at b;simp only[t_,b_]at b;omega
  rw[c_ this,Bool.or_true];rw[aKC]at b;rw[b];rfl
 have F:(if bc K 0 2=true then decide ((w.2.2.2.2.2.2.2.2.2.2.2.2.1.getD K.toNat ak.aa).1=0)else false)=cP w K:=by
  unfold cP qv;rw[N];by_cases b:bc K 0 2=true;have h6:bc K 0 ((5:Nat)-1:Int)=true:=by unfold bc at b|-;simp only[t_,b_]at b|-;omega
  rw[an b,b,h6,aLe,aLe];rw[a_ b];rw[aKC]at b;rw[b];rfl
 have G:∀(t:aF),t.2.2.1=vo->t.2.2.2.2.2.1=[]->t.2.2.2.2.2.2.1=[]->af (.sl al) t.2.2.2.1<=10000->af ak t<=1048576:=fun t e1 e2 e3 e4=>by
  rw[bw Q,e1,e2,e3];have:af ab vo=0:=gZ Q;have n1:af (.sl (.int .i64)) ([]:List Int)=0:=aX;have n2:af (.sl ab) ([]:List ae)=0:=aX;omega
 have d:∀(t:aF),cP w K=true->af ak t<=1048576->0<=t.1->t.1<=6->dX k (w,K,t,())=some (fk w K t (List.getD [0,1,3,4,6,7,8] t.1.toNat 0),()):=fun t hc ht h0 D=>by
  obtain⟨q1,q2,q3⟩:=rW hc;exact HA Q (by omega) ht h0 D q1 q3
 simp only[pq,aN,fS Q,aKz];refine(an f).trans ?_;simp only[cj];simp only[F];unfold pz;dsimp only;by_cases g:kind=1;subst g;by_cases hc:cP w K=true;simp only[hc,decide_true,if_true,Dy Q (show af az w<=1048576 by omega) (show af ab a<=1048576 by omega) hc,aKz];rw[aKC]at hc;simp only[hc,decide_true,if_true,aKw,if_false];have r:decide ((2:Int)=1)=false:=rfl;have u:decide ((3:Int)=1)=false:=rfl;have v:decide ((3:Int)=2)=false:=rfl;have x:decide ((3:Int)=4)=false:=rfl;have y:decide ((4:Int)=1)=false:=rfl;have z:decide ((4:Int)=2)=false:=rfl;have B:decide ((4:Int)=3)=false:=rfl;by_cases p:kind=2;subst p;by_cases hc:cP w K=true
 have b:dX k (w,K,((2:Int),0,(([]:List ai),0,0,ByteArray.empty),l,0,([]:List Int),([]:List ae),0,0),())=some (fk w K (tO l) 3,()):=
  d (tO l) hc (G _ rfl rfl rfl L) (show(0:Int)<=2 by decide) (show(2:Int)<=6 by decide)
 simp only[hc,g,r,decide_true,decide_false,beq_self_eq_true,if_true,ly Q (show af (.sl al) l<=1048576 by omega),aKz,aLe,aKw,if_false];by_cases m:dt l=true;simp only[m,if_true,b,aKz];rw[aKC]at m;simp only[m,aKw,if_false];rw[aKC]at hc;simp only[hc,g,r,decide_true,decide_false,if_true,aKw,if_false,aLk,aKz];rfl;by_cases C:kind=3;subst C;by_cases hc:cP w K=true
 have b:dX k (w,K,((3:Int),0,(([]:List ai),0,0,ByteArray.empty),([]:List ai),0,([]:List Int),([]:List ae),0,0),())=some (fk w K qD 4,()):=
  d qD hc (G _ rfl rfl rfl (by show af (.sl al) ([]:List ai)<=10000;rw[aX];omega)) (show(0:Int)<=3 by decide) (show(3:Int)<=6 by decide)
 simp only[hc,g,p,u,v,x,decide_true,decide_false,if_true,aKw,if_false,b,aKz];rw[aKC]at hc;simp only[hc,g,p,u,v,x,decide_true,decide_false,if_true,aKw,if_false];by_cases S:kind=4;subst S;by_cases hc:cP w K=true
 have b:dX k (w,K,((4:Int),0,(([]:List ai),0,0,ByteArray.empty),([]:List ai),0,([]:List Int),([]:List ae),0,0),())=some (fk w K kJ 6,()):=
  d kJ hc (G _ rfl rfl rfl (by show af (.sl al) ([]:List ai)<=10000;rw[aX];omega)) (show(0:Int)<=4 by decide) (show(4:Int)<=6 by decide)
 simp only[hc,g,p,C,y,z,B,decide_true,decide_false,if_true,aKw,if_false,b,aKz];rw[aKC]at hc;simp only[hc,g,p,C,y,z,B,decide_true,decide_false,if_true,aKw,if_false];simp only[g,p,C,S,decide_false,aKw,if_false];by_cases W:kind=5;subst W;simp only[decide_true,if_true];by_cases b:bc K 0 4=true;have h6:0<=K/\K.toNat<5:=by unfold bc at b;simp only[t_,b_]at b;omega
 obtain⟨j,rfl⟩:∃j:Nat,K=(j:Int):=⟨K.toNat,by omega⟩
 have H:=L8 Q (w:=w) (i:=j) (by omega) h (by omega);simp only[b,beq_self_eq_true,if_true,H,aKz,aKU];rw[aKC]at b;simp only[b,aKw,if_false];rfl;simp only[W,decide_false,aKw,if_false];by_cases X:kind=6;subst X;simp only[decide_true,if_true]
 have I:IntKind.i64.wrap (((List.length w.2.2.2.2.1:Nat):Int)-(1:Int))=((df w).length:Int)-1:=by
  unfold df at*
  rw[wrap64 (by omega) (by omega)]
 rw[I];by_cases b:bc K 0 (((df w).length:Int)-1)=true;have h6:0<=K/\K<((df w).length:Int):=by unfold bc at b;simp only[t_,b_]at b;omega
 have H:decide (0<=K/\K<((List.length w.2.2.2.2.1:Nat):Int))=true:=c_ h6;have hh:=Oe Q (Vv Q (w:=w) (i:=K.toNat) (by omega) (by omega));have J:lN k (List.getD w.2.2.2.2.1 K.toNat aU.aa,())=some ((ei ((df w).getD K.toNat aU.aa)).1,(ei ((df w).getD K.toNat aU.aa)).2.1,(ei ((df w).getD K.toNat aU.aa)).2.2,()):=hh
 have o:af az (w.1,w.2.1,w.2.2.1,w.2.2.2.1,(df w).set K.toNat (ei ((df w).getD K.toNat aU.aa)).1,w.2.2.2.2.2)<=1048576:=by
  have D:=da Q w;have P:=da Q (w.1,w.2.1,w.2.2.1,w.2.2.2.1,(df w).set K.toNat (ei ((df w).getD K.toNat aU.aa)).1,w.2.2.2.2.2);have R:=ij (e:=aU) (df w) K.toNat (ei ((df w).getD K.toNat aU.aa)).1 (by omega)
  have h4:af aU (ei ((df w).getD K.toNat aU.aa)).1<=af aU ((df w).getD K.toNat aU.aa):=by
   generalize (df w).getD K.toNat aU.aa=s;rw[eG Q,eG Q];unfold ei;split;rw[aX];omega;split;rw[aX];omega;have:=cN (e:=ab) s.1 1;dsimp only;omega
  have h7:(df w).getD K.toNat (Ty.aa aU)=(df w).getD K.toNat aU.aa:=rfl;rw[h7]at R;unfold df at*
  dsimp only at P;omega
 simp only[b,H,J,aKz,Bool.not_true,aKw,if_false,if_true];unfold Sg AL;by_cases Y:(ei ((df w).getD K.toNat aU.aa)).2.2=1;simp only[Y,decide_true,if_true];erw[nZ Q o];rfl;simp only[Y,decide_false,aKw,if_false];by_cases c2:(ei ((df w).getD K.toNat aU.aa)).2.2=2;simp only[c2,decide_true,if_true];erw[nZ Q o];rfl;simp only[c2,decide_false,aKw,if_false];erw[nZ Q o];rfl;rw[aKC]at b;simp only[b,aLl,if_true,aKw,if_false];simp only[X,decide_false,aKw,if_false];by_cases k7:kind=7;subst k7;simp only[decide_true,if_true];by_cases b:bc K 1 20=true;have h6:1<=K/\K<=20:=by unfold bc at b;simp only[t_,b_]at b;omega
 have I:IntKind.i64.wrap (w.2.2.1+K)=w.2.2.1+K:=wrap64 (by omega) (by omega);rw[I];by_cases hg:w.2.2.1+K<=99899;rw[a_ (by simp[b];omega),an ⟨b,hg⟩];rfl;rw[an (by simp[b];omega),a_ (by omega)];rw[an (by simp[b]),a_ (fun q=>b q.1)];simp only[k7,decide_false,aKw,if_false]
end
def vt(n:Nat)(w:ag):Prop:=Ex n w.1 w.2.1 w.2.2.2.1 w.2.2.2.2.2.1 w.2.2.2.2.2.2.2.1 w.2.2.2.2.2.2.2.2.1 w.2.2.2.2.2.2.2.2.2.1 w.2.2.2.2.2.2.2.2.2.2.1 w.2.2.2.2.2.2.2.2.2.2.2.1 (bF w) (bV w)
section
variable{k:Nat}(Q:9223372036854775808<=k)
include Q
def Yx{w:ag}{n i:Nat}(h:bC k w=true)(q:vt n w)(f:n<=160)(r:i<5):(iU true k w i).1=true->vt (n+1) (iU true k w i).2:=by
 obtain⟨c,ti,O,st,Z,U,gr,A,nn,T,n_,V,E,M⟩:=w;have R:=bR.1 h;have X:Ex n c ti st U A nn T n_ V E M:=q;generalize d:E.getD i ak.aa=t;have m:=R.tas i r;rw[d]at m;have ho:=gx (k:=k) (w:=(c,ti,O,st,Z,U,gr,A,nn,T,n_,V,E,M)) (i:=i) m;unfold iU;dsimp only[bF];rw[d];by_cases g:t.1=1;rw[an g];intro b;obtain⟨_,_,_,_,_,_,_,_,e,a⟩:=WZ Q R X f (by omega) d g b;rw[e];exact a;rw[a_ g];by_cases o:t.1=2\/t.1=3;rw[an o];unfold nW wV;dsimp only;rw[d];by_cases j:t.1=2;rw[an j];intro b;obtain⟨_,_,_,_,_,_,_,_,e,a⟩:=WJ Q R X f (by omega) d j b;rw[e];exact a;rw[a_ j];intro b;obtain⟨_,_,_,_,_,_,_,_,e,a⟩:=VM Q R X f (by omega) d (by omega) b;rw[e];exact a;rw[a_ o];by_cases l:t.1=4;rw[an l];intro b;obtain⟨_,_,_,_,_,_,_,_,e,a⟩:=TO Q R X f (by omega) d l b;rw[e];exact a;rw[a_ l];by_cases p:i=3;rw[an p];intro b;obtain⟨_,_,_,_,_,_,_,_,e,a⟩:=VR Q R X f b;rw[e];exact a;rw[a_ p];by_cases h6:i=4;rw[an h6];intro b;obtain⟨_,_,_,_,_,_,_,e,a⟩:=Tk Q R X f b;rw[e];exact a;rw[a_ h6];intro b;cases b
theorem TH{w:ag}{n i:Nat}(h:bC k w=true)(b:vt n w)(hn:n<=160)(d:i<5):(iU true k w i).1=true->bC k (iU true k w i).2=true:=by
 obtain⟨c,ti,O,st,Z,U,gr,A,nn,T,n_,V,E,M⟩:=w;have R:=bR.1 h;have X:Ex n c ti st U A nn T n_ V E M:=b;have a1:=X.ti;have a2:=X.nn;have a3:=X.hp;have a4:=(cG.1 R.grp.go).1;refine Rf h d (by show ti<_;omega) (fun p a=>by have:=X.ver p a;omega) (fun _=>⟨by show nn<_;omega,by show T.length<=15;omega⟩) (fun _=>⟨X.fr,fun _=>by show T.length<=15;omega⟩)
def xE{w:ag}{n:Nat}{i:Int}{t':aF}{op:Int}(h:bC k w=true)(d:vt n w)(hn:n<=160)(hc:cP w i=true)
 (f:(∃a,cw a=true/\t'=pA a/\op=1)\/(∃l,dt l=true/\t'=tO l/\op=3)\/(t'=qD/\op=4)\/(t'=kJ/\op=6)):bC k (fk w i t' op)=true/\vt (n+1) (fk w i t' op):=by
 have hti:w.2.1<=(n:Int):=d.ti;refine⟨EF (by unfold qu;rw[h,hc];rfl) (by omega) f,?_⟩;obtain⟨q1,q2,q3⟩:=rW hc;obtain⟨c,ti,O,st,Z,U,gr,A,nn,T,n_,V,E,M⟩:=w;have R:=bR.1 h;have X:Ex n c ti st U A nn T n_ V E M:=d
 have b:af ab t'.2.2.1+af (.sl al) t'.2.2.2.1<=200/\t'.2.2.2.2.2.2.1=[]:=by
  have ez:af ab vo=0:=gZ Q;have el:af (.sl al) ([]:List ai)=0:=aX;rcases f with⟨a,j,rfl,rfl⟩|⟨l,m,rfl,rfl⟩|⟨rfl,rfl⟩|⟨rfl,rfl⟩;have:=iS Q (fm j);exact⟨by show af ab a+af (.sl al) ([]:List ai)<=200;omega,rfl⟩;have:=vp Q m;exact⟨by show af ab vo+af (.sl al) l<=200;omega,rfl⟩;exact⟨by show af ab vo+af (.sl al) ([]:List ai)<=200;omega,rfl⟩;exact⟨by show af ab vo+af (.sl al) ([]:List ai)<=200;omega,rfl⟩
 refine X.iO (i:=i.toNat) R.ti0 (by omega) R.tl (by omega) (fun p g=>by have:=X.ver p g;omega) (aK8 _ _) (aK8 _ _) (pg Q ?_) ?_;have e:af aw (opened (c,ti,O,st,Z,U,gr,A,nn,T,n_,V,E,M) i op t'.2.2.1 t'.2.2.2.1 t'.2.2.2.2.2.2.2.1)=af ab t'.2.2.1+af (.sl al) t'.2.2.2.1+af (.sl ab) ([]:List ae):=bN Q _;rw[e,aX];omega;show t'.2.2.2.2.2.2.1.length<=_;rw[b.2];exact aK3 _
def SM{w:ag}{n:Nat}{e:cq}(h:bC k w=true)(g:vt n w)(o:n<=160)(x:af ab e.2.2.1<=2900)(b:(pz k w e).1=true):bC k (pz k w e).2=true/\vt (n+1) (pz k w e).2:=by
 have p:w.2.1<=(n:Int):=g.ti;unfold pz at b|-;by_cases y:e.1=1;rw[an y]at b|-;by_cases hc:cP w e.2.1=true;rw[an hc]at b|-;dsimp only;by_cases r:cw e.2.2.1=true;rw[an r];exact xE Q h g o hc (.inl ⟨_,r,rfl,rfl⟩);rw[a_ r];refine⟨HE (by unfold qu;rw[h,hc];rfl) (by omega),?_⟩;obtain⟨c,ti,O,st,Z,U,gr,A,nn,T,n_,V,E,M⟩:=w;have R:=bR.1 h;have X:Ex n c ti st U A nn T n_ V E M:=g;refine X.alone R.ti0 (by omega) (pg Q ?_);have J:af aw ((1,e.2.1,e.2.2.1,[],0,0,4,[],O,ti,ti,ti):aC)=af ab e.2.2.1+af (.sl al) ([]:List ai)+af (.sl ab) ([]:List ae):=bN Q _;have K:af (.sl al) ([]:List ai)=0:=aX;have L:af (.sl ab) ([]:List ae)=0:=aX;show af aw ((1,e.2.1,e.2.2.1,[],0,0,4,[],O,ti,ti,ti):aC)+1<=3000;omega;rw[a_ hc]at b;cases b;rw[a_ y]at b|-;by_cases z:e.1=2;rw[an z]at b|-;by_cases hc:(cP w e.2.1&&dt e.2.2.2)=true;rw[an hc];simp only[t_]at hc;exact xE Q h g o hc.1 (.inr (.inl ⟨_,hc.2,rfl,rfl⟩));rw[a_ hc]at b;cases b;rw[a_ z]at b|-;by_cases B:e.1=3;rw[an B]at b|-;by_cases hc:cP w e.2.1=true;rw[an hc];exact xE Q h g o hc (.inr (.inr (.inl ⟨rfl,rfl⟩)));rw[a_ hc]at b;cases b;rw[a_ B]at b|-;by_cases C:e.1=4;rw[an C]at b|-;by_cases hc:cP w e.2.1=true;rw[an hc];exact xE Q h g o hc (.inr (.inr (.inr ⟨rfl,rfl⟩)));rw[a_ hc]at b;cases b;rw[a_ C]at b|-;by_cases D:e.1=5;rw[an D]at b|-;by_cases f:bc e.2.1 0 4=true;rw[an f]at b|-;have F:e.2.1.toNat<5:=by unfold bc at f;simp only[t_,b_]at f;omega
 exact⟨TH Q h g o F b,Yx Q h g o F b⟩;rw[a_ f]at b;cases b;rw[a_ D]at b|-;by_cases G:e.1=6;rw[an G]at b|-;by_cases f:bc e.2.1 0 ((df w).length-1)=true;rw[an f];have h6:0<=e.2.1/\e.2.1.toNat<(df w).length:=by unfold bc at f;simp only[t_,b_]at f;omega
 obtain⟨c,ti,O,st,Z,U,gr,A,nn,T,n_,V,E,M⟩:=w;have R:=bR.1 h;have X:Ex n c ti st U A nn T n_ V E M:=g;have l:=R.sub.sub _ (bK (d:=aU.aa) h6.2)
 have u:(ei (Z.getD e.2.1.toNat aU.aa)).2.2=1->bj (ei (Z.getD e.2.1.toNat aU.aa)).2.1=true:=by
  unfold eL bB at l;simp only[t_]at l;generalize Z.getD e.2.1.toNat aU.aa=s at l;unfold ei;split;intro q;cases q;split;intro q;cases q;intro _;exact dK.1 l.2.2 _ (bK (by omega))
 have v:eL (ei (Z.getD e.2.1.toNat aU.aa)).1=true:=by
  unfold eL bB at l;simp only[t_,b_]at l;generalize Z.getD e.2.1.toNat aU.aa=s at l;unfold ei;split;unfold eL bB;simp[lX];split;unfold eL bB;simp[lX];unfold eL bB;dsimp only;simp only[t_,b_,aLl,Bool.true_or,true_and];refine⟨by rw[aKN];omega,dK.2 fun a x=>dK.1 l.2.2 a (aKS x)⟩
 constructor;refine bR.2 (N9 R (by show ti<_;have:ti<=(n:Int):=p;omega) ⟨?_,by show ti<ti+1;omega,by show ti<ti+1;omega,by show ti<ti+1;omega⟩ ⟨by rw[aKB];exact R.sub.len,fun s m=> ?_,R.sub.fee,R.sub.sai⟩);refine uH (op:=9) (i:= -1) (j:=e.2.1) (n:=0) ⟨by decide,by decide⟩ ⟨by decide,by decide⟩ h6.1 (by decide) R.nw.1 R.ti0 ?_;split;decide;split<;>decide;rcases aKy m with m|rfl;exact R.sub.sub s m;exact v;refine X.alone R.ti0 (by omega) (pg Q ?_);have J:af aw (AL e.2.1 (Z.getD e.2.1.toNat aU.aa) O ti)=af ab cF+af (.sl al) ([]:List ai)+af (.sl ab) (if(ei (Z.getD e.2.1.toNat aU.aa)).2.2=1 then [(ei (Z.getD e.2.1.toNat aU.aa)).2.1]else []):=bN Q _;have K:af (.sl al) ([]:List ai)=0:=aX
 have L:af (.sl ab) (if(ei (Z.getD e.2.1.toNat aU.aa)).2.2=1 then [(ei (Z.getD e.2.1.toNat aU.aa)).2.1]else [])<=97:=by
  split;rename_i I;have:=iS Q (u I);rw[bS (e:=ab),aX];omega;rw[aX];omega
 have e4:=gZ Q;show af aw (AL e.2.1 (Z.getD e.2.1.toNat aU.aa) O ti)+1<=3000;omega;rw[a_ f]at b;cases b;rw[a_ G]at b|-;by_cases H:e.1=7;rw[an H]at b|-;by_cases f:bc e.2.1 1 20=true/\w.2.2.1+e.2.1<=99899;rw[an f];have h6:1<=e.2.1:=by have:=f.1;unfold bc at this;simp only[t_,b_]at this;omega
 obtain⟨c,ti,O,st,Z,U,gr,A,nn,T,n_,V,E,M⟩:=w;have R:=bR.1 h;have X:Ex n c ti st U A nn T n_ V E M:=g;exact⟨bR.2 (VC R (by show ti<_;have:ti<=(n:Int):=p;omega) (by show O<=O+e.2.1;omega) f.2),X.alone R.ti0 (by omega) (aK8 _ _)⟩;rw[a_ f]at b;cases b;rw[a_ H]at b;cases b
def Ck{w:ag}{n:Nat}(h:bC k w=true)(a:vt n w)(b:n<=160):af az w<=1000000:=by
 obtain⟨c,ti,O,st,Z,U,gr,A,nn,T,n_,V,E,M⟩:=w;exact QG Q (bR.1 h) a b
end
def Ee{α:Type}{n i:Nat}{a d:α}(h:i<n):(aKO n a).getD i d=a:=by
 rw[cx _ (by simpa using h)];simp
def MN(k:Nat)(w:ag):Prop:=bC k w=true/\∃n,n<=160/\vt n w
section
variable{k:Nat}(Q:9223372036854775808<=k)
include Q
def Oq{c:bh}(hc:cR c=true):bC k (iG c)=true/\vt 0 (iG c):=by
 obtain⟨c0,F,G,c3,c4⟩:=kT Q hc
 have hcn:0<=c.2.1/\1<=c.2.2.1:=by
  unfold cR bc at hc;simp only[t_,b_]at hc;omega
 unfold iG;rw[an hc]
 have b:dq c.1=aKO c.1.toNat (-1,0,[]):=by
  unfold dq;simp[F,G]
 have hlen:(dq c.1).length=c.1.toNat:=by rw[b];simp
 have f:bU (dq c.1)=[]:=by
  rw[b];refine List.eq_nil_iff_forall_not_mem.2 fun a l=> ?_;obtain⟨p,z,ch,v,_⟩:=Kr.1 l;rw[(aKW.1 z).2]at v;exact absurd v (List.not_mem_nil)
 have r:∀s∈vL c,eL s=true:=by
  intro s B;unfold vL at B;rw[(aKW.1 B).2];unfold eL bB;simp[lX]
 have w:∀i,i<5->(aKO 5 uO).getD i ak.aa=zT:=fun i e=>Ee e;constructor
 refine bR.2 ⟨hc,A' _,A' _,⟨by decide,by decide⟩,⟨cE.2 ⟨fun i e=> ?_,by omega,by omega⟩,by omega,by unfold bq;rw[f];simp;omega,by rw[f];intro a l;cases l⟩,
  ⟨by unfold vL;simp;omega,r,fun a l=>(by cases l),fun a l=>(by cases l)⟩,fun d D=>(by cases D),rfl,fun i e=> ?_,⟨fun q C j m=> ?_,fun j m=> ?_,by decide,by decide⟩,cG.2 ⟨by decide,fun g y=>(by cases y),List.Pairwise.nil,List.Pairwise.nil⟩,rC.2 ⟨fun x o=>(by cases o),fun j m=>by simp at m,by decide⟩,fun x o=>(by cases o),List.Pairwise.nil,fun g y=>(by cases y)⟩
 rw[b]at e|-;rw[Ee (by simpa using e)];exact dM.2 ⟨fun c hc=>(by cases hc),List.Pairwise.nil,⟨by decide,by decide⟩,by decide⟩;rw[w i e];exact oW e;rw[w j m,dx (.inl rfl)];rw[b]at C|-;rw[Ee (by simpa using C)];constructor;intro h;omega;intro h;exact absurd h (by show¬(-1:Int)=(j:Int);omega);rw[w j m,eX (.inr rfl)];constructor;intro h;cases h;intro h;omega;refine⟨A' _,A' _,fun p z=> ?_,by show(0:Nat)+(if((aKO 5 uO).getD 4 ak.aa).1=6 then 1 else 0)<=0;decide,fun _ x o=>(by cases o),by show af (.sl ab) ([]:List ae)<=_;rw[aX];omega,by show af (.sl ab) ([]:List ae)<=_;rw[aX];omega,by show 3*0+3*0+eJ ((aKO 5 uO).getD 3 ak.aa)+eJ ((aKO 5 uO).getD 4 ak.aa)<=0;decide,by show af (.sl bM) ([]:List br)<=_;rw[aX];omega,by show af (.sl aw) ([]:List aC)<=_;rw[aX];omega,fun i e=> ?_⟩;have u:p∈dq c.1:=z;rw[b]at u;rw[(aKW.1 u).2];exact A' _;show((aKO 5 uO).getD i ak.aa).2.2.2.2.2.2.1.length<=8*((aKO 5 uO).getD i ak.aa).2.2.2.2.2.1.length;rw[w i e];decide
def Vm{c:aE}(hc:aR c):Dr (jN k (c,())) (fun r=>aR r.2.1/\tA r.1=true):=by
 simp only[jN];refine aS (aQ Q hc) (fun r1 a=>bm (fun _=>bl ⟨a.1,(show tA []=true by decide)⟩) (fun _=>bm (fun _=>bl ⟨a.1,(show tA [⟨#[97,112,112]⟩,⟨#[115,101,118]⟩]=true by decide+kernel)⟩) (fun _=>bm (fun _=>bl ⟨a.1,(show tA [⟨#[104,111,115,116]⟩]=true by decide+kernel)⟩) (fun _=>bl ⟨a.1,(show tA [⟨#[97,112,112]⟩]=true by decide+kernel)⟩))))
def Es{c:aE}(hc:aR c):Dr (kf k (c,())) (fun r=>aR r.2.1/\cR r.1=true):=by
 simp only[kf];refine aS (aQ Q hc) (fun r1 a=>aS (Nn Q 1 8 a.1 (by decide) (by decide)) (fun r2 b=>aS (aQ Q b.1) (fun r3 d=>aS (aQ Q d.1) (fun r4 e=>aS (aQ Q e.1) (fun r5 f=>aS (Vm Q f.1) (fun r6 h6=>bl ⟨h6.1,?_⟩))))));have g1:=a.2;have g2:=b.2;have g3:=d.2;have g4:=e.2;have g5:=f.2;rw[wrap64 (by omega) (by omega),wrap64 (by omega) (by omega),wrap64 (by omega) (by omega),wrap64 (by omega) (by omega)];unfold cR bc;simp only[t_,b_];exact⟨⟨⟨⟨⟨⟨by omega,by omega⟩,by omega,by omega⟩,by omega,by omega⟩,by omega,by omega⟩,by omega,by omega⟩,h6.2⟩
theorem pR(l:List Int):af (.sl (.int .i64)) l=l.length:=by
 induction l with
 |nil=>exact aX (e:= .int .i64)
 |cons x l ih=>
  have:=bS (e:= .int .i64) x l;have h0:af (.int .i64) x=0:=rfl;rw[aKG];omega
def aa1:af ab (([]:List ai),(0:Int),(0:Int),ByteArray.empty)=0:=by
 rw[bo Q];dsimp only;rw[lf Q];rfl
def Hz{c:aE}(hc:aR c):Dr (kO k (c,())) (fun r=>aR r.2.1/\af (.sl ab) r.1<=700):=by
 simp only[kO];refine aS (aQ Q hc) (fun r1 a=> ?_);obtain⟨a,g,h3⟩:=a;refine vg (fun s=>s.2.2.1.toNat) (fun s=>aR s.1/\(af (.sl ab) s.2.1:Int)<=650-130*s.2.2.1/\0<=s.2.2.1/\s.2.2.1<=5) ?_ ⟨a,by dsimp only;rw[gb Q];omega,g,by dsimp only;omega⟩ (by dsimp only;omega);rintro G ⟨c,l,i,u⟩ ⟨g1,g3,g4,g5⟩ hG;dsimp only at g1 g3 g4 g5|-;have hl:=ay (e:=ab) (l:=l);refine bm (fun b=> ?_) (fun b=>bl ⟨g1,by dsimp only;omega⟩);have b:0<i:=by simpa using b
 have f:IntKind.i64.wrap (i-1)=i-1:=wrap64 (by omega) (by omega);rw[f];refine aS (dY Q g1) (fun r4 d=>dO (by simp;omega) (hG _ ⟨d.1,?_,by dsimp only;omega,by dsimp only;omega⟩ (by dsimp only;omega)));have:=d.2;dsimp only;rw[oY Q,jE Q,gb Q];omega
def RY{c:aE}(hc:aR c):Dr (ov k (c,())) (fun r=>aR r.2.1/\af ak r.1<=2000):=by
 simp only[ov];refine aS (aQ Q hc) (fun r1 C=>aS (aQ Q C.1) (fun r2 o=> ?_));have hz:=aa1 Q;have hn:=lf Q;have D:=gb Q;have hi0:af (.sl (.int .i64)) ([]:List Int)=0:=pR Q [];refine zp (fun s=>aR s.1/\af ak s.2.2.1<=1000) (fun s q=> ?_) (fun J m=> ?_);refine zp (fun s=>aR s.1/\af ak s.2.2.1<=1000) (fun s q=> ?_) (fun J m=> ?_);obtain⟨g,d⟩:=q;obtain⟨c,z,t,u⟩:=s;obtain⟨op,w,a,l,i,se,gt,n,h⟩:=t;dsimp only at g d|-;rw[bw Q]at d;dsimp only at d;rw[pR Q]at d;have hl:=ay (e:=ab) (l:=gt);refine aS (aQ Q g) (fun r f=> ?_);refine bm (fun _=>aS (cQ Q f.1 (by decide)) (fun p b=>bl ⟨b,by dsimp only;rw[bw Q];dsimp only;rw[pR Q];omega⟩)) (fun _=> ?_);refine bm (fun _=>aS (cQ Q f.1 (by decide)) (fun p b=>bl ⟨b,by dsimp only;rw[bw Q];dsimp only;rw[pR Q];omega⟩)) (fun _=> ?_);refine bm (fun _=>aS (mG Q f.1) (fun p b=>bl ⟨b.1,by have:=b.2;dsimp only;rw[bw Q];dsimp only;rw[pR Q];omega⟩)) (fun _=> ?_);refine bm (fun _=>aS (Dl Q f.1) (fun p b=>bl ⟨b.1,by have:=b.2;dsimp only;rw[bw Q];dsimp only;rw[pR Q];omega⟩)) (fun _=> ?_);refine bm (fun _=>aS (cQ Q f.1 (by decide)) (fun p b=>bl ⟨b,by dsimp only;rw[bw Q];dsimp only;rw[pR Q];omega⟩)) (fun _=> ?_);refine bm (fun _=>aS (cQ Q f.1 (by decide)) (fun p b=>dO (by simp;omega) (bl ⟨b,by dsimp only;rw[bw Q];dsimp only;rw[pR Q];simp only[J7,aKx];omega⟩))) (fun _=> ?_);refine bm (fun _=>aS (mG Q f.1) (fun p b=>dO (by simp;omega) (bl ⟨b.1,by have:=b.2;dsimp only;rw[bw Q];dsimp only;rw[pR Q,oY Q,jE Q,gb Q];omega⟩))) (fun _=> ?_);refine bm (fun _=>aS (cQ Q f.1 (by decide)) (fun p b=>bl ⟨b,by dsimp only;rw[bw Q];dsimp only;rw[pR Q];omega⟩)) (fun _=> ?_);refine bm (fun _=>bl ⟨f.1,by dsimp only;rw[bw Q];dsimp only;rw[pR Q];omega⟩) (fun _=>bl ⟨f.1,by dsimp only;rw[bw Q];dsimp only;rw[pR Q];omega⟩);obtain⟨g,d⟩:=q;rw[bw Q]at d;refine bm (fun _=>aS (aQ Q g) (fun r f=>m _ ⟨f.1,by dsimp only;rw[bw Q];exact d⟩)) (fun _=>m _ ⟨g,by dsimp only;rw[bw Q];exact d⟩);refine bm (fun _=> ?_) (fun _=> ?_);refine aS (dY Q o.1) (fun v j=>aS (aQ Q j.1) (fun r6 h6=>m _ ⟨h6.1,?_⟩));have:=j.2;dsimp only;rw[bw Q];dsimp only;omega;refine bm (fun _=> ?_) (fun _=> ?_);refine aS (qV Q o.1) (fun v j=>m _ ⟨j.1,?_⟩);have:=j.2;dsimp only;rw[bw Q];dsimp only;omega;refine bm (fun _=> ?_) (fun _=> ?_);refine aS (aQ Q o.1) (fun x h8=> ?_);obtain⟨h8,h9,nX⟩:=h8;refine zp (fun s=>aR s.1/\af ak s.2.2.1<=10/\s.2.2.1.2.2.2.2.2.2.1=[]) (fun s q=> ?_) (fun J2 y=> ?_);obtain⟨g,d,B⟩:=q;rw[bw Q,B,D]at d;refine aS (Hz Q g) (fun r f=> ?_);have Wn:=f.2
 have key:∀ {c:aE} {op w:Int},aR c->Dr (J (c,s.2.1,(op,w,s.2.2.1.2.2.1,s.2.2.1.2.2.2.1,s.2.2.1.2.2.2.2.1,s.2.2.1.2.2.2.2.2.1,r.1,s.2.2.1.2.2.2.2.2.2.2),())) (fun r=>aR r.2.1/\af ak r.1<=2000):=by
  intro c op w hc;refine m _ ⟨hc,?_⟩;dsimp only;rw[bw Q];dsimp only;omega
 refine bm (fun _=>aS (gu Q f.1) (fun r b=>bm (fun _=>key b) (fun _=>key b))) (fun _=>bm (fun _=>key f.1) (fun _=>key f.1));refine vg (fun s=>(x.1-s.2.2.1.2.2.2.2.2.1.length).toNat) (fun s=>aR s.1/\s.2.2.1.2.2.2.2.1=x.1/\(s.2.2.1.2.2.2.2.2.1.length:Int)<=2/\s.2.2.1.2.2.1=(([]:List ai),(0:Int),(0:Int),ByteArray.empty)/\s.2.2.1.2.2.2.1=[]/\s.2.2.1.2.2.2.2.2.2.1=[]) ?_ ⟨h8,rfl,by simp,rfl,rfl,rfl⟩ (by dsimp only;simp only[aKF];omega);rintro G ⟨c,z,⟨op,w,a,l,i,se,gt,n,h⟩,u⟩ ⟨g1,g2,g3,g4,g5,g6⟩ hG;dsimp only at g1 g2 g3 g4 g5 g6|-;subst g2 g4 g5 g6;refine bm (fun hc=> ?_) (fun hc=>y _ ⟨g1,?_,rfl⟩);have hc:(se.length:Int)<x.1:=by simpa using hc
 refine aS (aQ Q g1) (fun r f=>dO (by simp;omega) (hG _ ⟨f.1,rfl,?_,rfl,rfl,rfl⟩ ?_));dsimp only;simp only[J7,aKx];omega;dsimp only;simp only[J7,aKx];omega;dsimp only;rw[bw Q];dsimp only;rw[pR Q];omega;refine bm (fun _=> ?_) (fun _=> ?_);refine aS (aQ Q o.1) (fun v j=>m _ ⟨j.1,?_⟩);dsimp only;rw[bw Q];dsimp only;omega;refine bm (fun _=> ?_) (fun _=> ?_);refine aS (dY Q o.1) (fun v j=>m _ ⟨j.1,?_⟩);have:=j.2;dsimp only;rw[bw Q];dsimp only;omega;refine bm (fun _=> ?_) (fun _=>m _ ⟨o.1,?_⟩);refine aS (aQ Q o.1) (fun v j=>m _ ⟨j.1,?_⟩);dsimp only;rw[bw Q];dsimp only;omega;dsimp only;rw[bw Q];dsimp only;omega
def js{c:bh}:af cM c=af (.sl .str) c.2.2.2.2.2:=by rw[kF Q]
def Tt{c:aE}(hc:aR c):Dr (pM k (c,())) (fun r=>aR r.2.1/\af (.sl .str) r.1<=40):=by
 simp only[pM];refine aS (VJ Q hc) (fun d a=>aS (gu Q a.1) (fun r2 f=>bm (fun _=> ?_) (fun _=>bl ⟨f,by have:=a.2.2;dsimp only;omega⟩)));refine aS (zY Q f) (fun b g=>dO (by have:=a.2.1;simp;omega) (bl ⟨g.1,?_⟩))
 have e:af (.sl .str) (d.1++[b.1])=af (.sl .str) d.1+(1+af .str b.1+af (.sl .str) ([]:List ByteArray)):=by
  rw[dP (e:= .str),bS (e:= .str)]
 have e2:af .str b.1=b.1.size:=rfl;have e3:af (.sl .str) ([]:List ByteArray)=0:=aX;have:=a.2.2;have:=g.2;dsimp only;omega
def Q5{c:aE}(hc:aR c):Dr (nY k (c,())) (fun r=>aR r.2.1/\af cM r.1<=60):=by
 simp only[nY];refine aS (Es Q hc) (fun d b=>aS (aQ Q b.1) (fun r2 a=> ?_))
 have hb:af (.sl .str) d.1.2.2.2.2.2<=18:=by
  have:=(kT Q b.2).1;rw[js Q]at this;exact this
 refine bm (fun _=>aS (cQ Q a.1 (by decide)) (fun r h=>bl ⟨h,by dsimp only;rw[js Q];dsimp only;omega⟩)) (fun _=> ?_);refine bm (fun _=>aS (cQ Q a.1 (by decide)) (fun r h=>bl ⟨h,by dsimp only;rw[js Q];dsimp only;omega⟩)) (fun _=> ?_);refine bm (fun _=>aS (cQ Q a.1 (by decide)) (fun r h=>bl ⟨h,by dsimp only;rw[js Q];dsimp only;omega⟩)) (fun _=> ?_);refine bm (fun _=>aS (cQ Q a.1 (by decide)) (fun r h=>bl ⟨h,by dsimp only;rw[js Q];dsimp only;omega⟩)) (fun _=> ?_);refine bm (fun _=>aS (cQ Q a.1 (by decide)) (fun r h=>bl ⟨h,by dsimp only;rw[js Q];dsimp only;omega⟩)) (fun _=> ?_);refine bm (fun _=>aS (Tt Q a.1) (fun r h=>bl ⟨h.1,by have:=h.2;dsimp only;rw[js Q];dsimp only;omega⟩)) (fun _=> ?_);exact bl ⟨a.1,by dsimp only;rw[js Q];omega⟩
omit Q in
theorem T3(c:aP)(a:ae):0<(jX c a).2.length:=by
 rw[Dz];cases hl:c.2 with
 |nil=>
  have:fI ([]:List ae) a.1=none:=rfl;rw[this];simp
 |cons x l=>simp only[aKG];omega
def RE{c:aE}(hc:aR c):Dr (oB k (c,())) (fun r=>aR r.2.1/\af ax r.1<=4000/\0<r.1.2.length):=by
 simp only[oB];refine aS (dY Q hc) (fun o h=> ?_);have m:=h.2;rw[bo Q]at m;refine fc (eE Q (l:=o.1.1) (by omega)) (aS (aQ Q h.1) (fun r3 d=> ?_))
 refine vg (fun t:aE×aP×ae×aP×Int×Unit=>(t.2.2.2.2.1+1).toNat)
  (fun t=>aR t.1/\af ab t.2.2.1<=121/\(af ax t.2.2.2.1:Int)<=3660-122*(t.2.2.2.2.1+1)/\-1<=t.2.2.2.2.1/\t.2.2.2.2.1<=29/\(0<t.2.2.2.1.2.length\/(0<=t.2.2.2.2.1/\t.2.2.2.1.1=cH k t.2.2.1.1/\t.2.2.2.1.2=[]))) ?_
  ⟨d.1,h.2,?_,by have:=d.2;dsimp only;omega,by have:=d.2;dsimp only;omega,.inr ⟨d.2.1,rfl,rfl⟩⟩ (by have:=d.2;dsimp only;omega)
 rintro G ⟨c1,z,a,ch,i,u⟩ ⟨q1,q2,q3,q4,q5,b⟩ hG;dsimp only at q1 q2 q3 q4 q5 b hG|-;have q:=q2;rw[bo Q]at q;refine bm (fun f=> ?_) (fun g=>bl ⟨q1,by dsimp only;omega,?_⟩);have f:0<=i:=by simpa using f
 have s:IntKind.i64.wrap (i-1)=i-1:=wrap64 (by omega) (by omega);rw[s];refine fc (eE Q (l:=a.1) (by omega)) (bm (fun _=> ?_) (fun j=> ?_));refine fc (sZ Q (by omega) (by omega)) (aS (dY Q q1) (fun p h8=>hG _ ⟨h8.1,h8.2,?_,by dsimp only;omega,by dsimp only;omega,.inl (T3 _ _)⟩ (by dsimp only;omega)));have:=Na Q (c:=ch) (a:=a);dsimp only;omega;refine aS (dY Q q1) (fun p h8=>hG _ ⟨h8.1,h8.2,by dsimp only;omega,by dsimp only;omega,by dsimp only;omega,?_⟩ (by dsimp only;omega));rcases b with b|⟨_,v,w⟩;exact .inl b;exfalso;dsimp only at j;rw[v,w]at j;simp at j;have g:¬0<=i:=by simpa using g
 rcases b with b|⟨e0,_,_⟩;exact b;omega;dsimp only;have e:af ax ((cH k o.1.1,([]:List ae)):aP)=af (.sl ab) ([]:List ae):=cu Q _;rw[e,aX];have:=d.2;omega
def TW{c:aE}(hc:aR c):Dr (pZ k (c,())) (fun r=>aR r.2.1/\af ax r.1<=9000):=by
 simp only[pZ];refine aS (RE Q hc) (fun g f=>aS (aQ Q f.1) (fun r2 b=> ?_));have j:=f.2.1;rw[cu Q]at j;have hl:=ay (e:=ab) (l:=g.1.2);have hz:=gb Q;refine bm (fun _=>aS (aQ Q b.1) (fun r h=>bl ⟨h.1,by dsimp only;rw[cu Q];dsimp only;omega⟩)) (fun _=> ?_);refine bm (fun _=>aS (mG Q b.1) (fun r h=>dO (by simp;omega) (bl ⟨h.1,by have:=h.2;dsimp only;rw[cu Q];dsimp only;rw[oY Q,jE Q,gb Q];omega⟩))) (fun _=> ?_);refine bm (fun _=> ?_) (fun _=> ?_);have m:=f.2.2;have hat:=dw (e:=ab) (l:=g.1.2) (i:=0) (d:=ab.aa) m;refine dO (c_ ⟨A' _,by omega⟩) (fc (dh Q (a:=g.1.2.getD 0 ab.aa) (by omega)) (dO (by simp;omega) (bl ⟨b.1,?_⟩)));dsimp only;rw[cu Q];dsimp only;rw[oY Q,jE Q,gb Q];omega;refine bm (fun _=>bl ⟨b.1,?_⟩) (fun _=>bl ⟨b.1,by have:=f.2.1;dsimp only;omega⟩);dsimp only;rw[cu Q];dsimp only;omega
def Sc{c:aE}{i n:Int}(hc:aR c):Dr (oR k (c,i,n,())) (fun r=>aR r.2.1/\af ah r.1<=1000/\0<=r.1.2.1/\r.1.2.1<=10):=by
 simp only[oR];refine aS (aQ Q hc) (fun r1 b=> ?_);have e:af ah ((-1,0,([]:List aP)):ar)=af (.sl ax) ([]:List aP):=bY Q _;rw[aX]at e
 refine vg (fun t:aE×Int×Int×ar×ar×Int×Unit=>t.2.2.2.2.2.1.toNat)
  (fun t=>aR t.1/\(af ah t.2.2.2.2.1:Int)<=900-123*t.2.2.2.2.2.1/\0<=t.2.2.2.2.2.1/\t.2.2.2.2.2.1<=7/\0<=t.2.2.2.2.1.2.1/\t.2.2.2.2.1.2.1+t.2.2.2.2.2.1<=7) ?_
  ⟨b.1,by have:=b.2;dsimp only;rw[e];omega,by have:=b.2;dsimp only;omega,by have:=b.2;dsimp only;omega,by dsimp only;omega,by have:=b.2;dsimp only;omega⟩ (by have:=b.2;dsimp only;omega)
 rintro G ⟨c1,i1,n1,z,p,j,u⟩ ⟨q1,q2,q3,q4,q5,q6⟩ hG;dsimp only at q1 q2 q3 q4 q5 q6 hG|-;refine bm (fun d=> ?_) (fun hge=>bl ⟨q1,by dsimp only;omega,q5,by dsimp only;omega⟩);have d:0<j:=by simpa using d
 have h:IntKind.i64.wrap (j-1)=j-1:=wrap64 (by omega) (by omega);rw[h];refine aS (dY Q q1) (fun g f=> ?_);have m:=f.2;rw[bo Q]at m;refine fc (eE Q (l:=g.1.1) (by omega)) (fc (iw Q) (bm (fun _=> ?_) (fun _=>hG _ ⟨f.1,by dsimp only;omega,by dsimp only;omega,by dsimp only;omega,q5,by dsimp only;omega⟩ (by dsimp only;omega))));have hp:=Nb Q (p:=p) (a:=g.1);have o:=(sG k p g.1).1;rw[wrap64 (by omega) (by omega)]at o;have:=f.2;exact fc (yy Q (by omega) (by omega)) (hG _ ⟨f.1,by dsimp only;omega,by dsimp only;omega,by dsimp only;omega,by dsimp only;omega,by dsimp only;omega⟩ (by dsimp only;omega))
def T2{c:aE}{i n:Int}(hc:aR c):Dr (pH k (c,i,n,())) (fun r=>aR r.2.1/\af ah r.1<=11000/\r.1.2.1<=10):=by
 simp only[pH];refine aS (Sc Q hc) (fun a m=>aS (aQ Q m.1) (fun r2 b=> ?_));obtain⟨-,o,-,g⟩:=m;rw[bY Q]at o;have hl:=ay (e:=ax) (l:=a.1.2.2);have hz:af (.sl ax) ([]:List aP)=0:=aX
 have f:∀x:aP,af (.sl ax) (a.1.2.2++[x])=af (.sl ax) a.1.2.2+(1+af ax x+af (.sl ax) ([]:List aP)):=fun x=>by
  rw[dP (e:=ax),bS (e:=ax)]
 refine bm (fun _=>aS (cQ Q b.1 (by decide)) (fun r h=>bl ⟨h,by dsimp only;rw[bY Q];dsimp only;omega,g⟩)) (fun _=> ?_);refine bm (fun _=>bl ⟨b.1,by dsimp only;rw[bY Q];dsimp only;omega,by dsimp only;omega⟩) (fun _=> ?_);refine bm (fun _=>aS (TW Q b.1) (fun r h=>dO (by simp;omega) (bl ⟨h.1,by have:=h.2;dsimp only;rw[bY Q];dsimp only;rw[f];omega,g⟩))) (fun _=> ?_);refine bm (fun _=>bm (fun j=> ?_) (fun _=>bl ⟨b.1,by dsimp only;rw[bY Q];omega,g⟩)) (fun _=>bl ⟨b.1,by dsimp only;rw[bY Q];omega,g⟩);have j:(a.1.2.2.length:Int)>0:=by simpa using j
 have hat:=dw (e:=ax) (l:=a.1.2.2) (i:=0) (d:=ax.aa) (by omega);refine dO (c_ ⟨A' _,j⟩) (fc (AT Q (c:=a.1.2.2.getD 0 ax.aa) (by omega)) (dO (by simp;omega) (bl ⟨b.1,?_,g⟩)));dsimp only;rw[bY Q];dsimp only;rw[f];omega
def RL{c:aE}(hc:aR c):Dr (oG k (c,())) (fun r=>aR r.2.1/\af (.sl ah) r.1<=1100/\0<r.1.length/\∀p∈r.1,p.2.1<=10):=by
 simp only[oG];refine aS (aQ Q hc) (fun w x=>fc (sV Q) (aS (aQ Q x.1) (fun r3 f=> ?_)))
 have h:∀n,af (.sl ah) (dq n)<=3/\0<(dq n).length/\∀p∈dq n,0<=p.2.1/\p.2.1<=0:=by
  intro n;have e:af ah ((-1,0,([]:List aP)):ar)=af (.sl ax) ([]:List aP):=bY Q _;rw[aX]at e;have q:∀p∈dq n,p=(-1,0,[]):=fun p b=>by unfold dq at b;exact(aKW.1 b).2
  have v:(dq n).length=(if 1<=n/\n<=3 then n.toNat else 1):=by unfold dq;rw[List.length_replicate]
  have m:=pe (e:=ah) (B:=0) (l:=dq n) fun p b=>by rw[q p b,e];exact aKP _
  refine⟨?_,?_,fun p b=>by rw[q p b];exact⟨A' _,A' _⟩⟩;split at v<;>omega;split at v<;>omega
 obtain⟨n1,C,D⟩:=h (IntKind.i64.wrap (1+w.1))
 refine vg (fun t:aE×List ar×Int×Unit=>t.2.2.1.toNat)
  (fun t=>aR t.1/\(af (.sl ah) t.2.1:Int)<=900-123*t.2.2.1/\0<=t.2.2.1/\t.2.2.1<=7/\0<t.2.1.length/\∀p∈t.2.1,0<=p.2.1/\p.2.1+t.2.2.1<=7) ?_
  ⟨f.1,by have:=f.2;dsimp only;omega,by have:=f.2;dsimp only;omega,by have:=f.2;dsimp only;omega,C,fun p b=>by have:=D p b;have:=f.2;dsimp only;omega⟩ (by have:=f.2;dsimp only;omega)
 rintro G ⟨c1,l,j,u⟩ ⟨q1,q2,q3,q4,q5,q6⟩ hG;dsimp only at q1 q2 q3 q4 q5 q6 hG|-;refine bm (fun g=> ?_) (fun hge=>bl ⟨q1,by dsimp only;omega,q5,fun p b=>by have:=q6 p b;omega⟩);have g:0<j:=by simpa using g
 have y:IntKind.i64.wrap (j-1)=j-1:=wrap64 (by omega) (by omega);rw[y];refine aS (dY Q q1) (fun o m=>fc (sP Q (by omega) (by have:=m.2;omega)) ?_);have b:=CP Q (l:=l) (a:=o.1);have hlen:=Sj Q (l:=l) (a:=o.1);have:=m.2;refine hG _ ⟨m.1,by dsimp only;omega,by dsimp only;omega,by dsimp only;omega,by dsimp only;omega,fun p b=> ?_⟩ (by dsimp only;omega);dsimp only at b|-;rw[sJ (by omega)]at b;rcases aKy b with b|rfl;have:=q6 p b;omega;have z:l.length≠0:=by omega
 have q:=q6 _ (bK (d:=ah.aa) (gY (k:=k) (s:=o.1.1) z).1);rw[(sG k _ _).1,wrap64 (by omega) (by omega)];omega
def TK{c:aE}(hc:aR c):Dr (pL k (c,())) (fun r=>aR r.2.1/\af (.sl ah) r.1<=13000/\∀p∈r.1,p.2.1<=10):=by
 simp only[pL];refine aS (RL Q hc) (fun f j=>aS (aQ Q j.1) (fun m g=>aS (aQ Q g.1) (fun r3 b=> ?_)));obtain⟨-,ht,hn,d⟩:=j;have hl:=ay (e:=ah) (l:=f.1);have hz:af (.sl ah) ([]:List ar)=0:=aX;refine bm (fun _=>aS (T2 Q b.1) (fun r h=>dO (c_ (by have:=g.2;omega)) (bl ⟨h.1,?_,fun p a=> ?_⟩))) (fun _=> ?_);have o:m.1.toNat<f.1.length:=by have:=g.2;omega
 have:=ij (e:=ah) f.1 m.1.toNat r.1 o;have:=h.2.1;dsimp only;omega;rcases aKy a with a|rfl;exact d p a;exact h.2.2;have e:af ah ((-1,0,([]:List aP)):ar)=af (.sl ax) ([]:List aP):=bY Q _;rw[aX]at e;refine bm (fun _=>dO (by simp;omega) (bl ⟨b.1,?_,fun p a=> ?_⟩)) (fun _=> ?_);dsimp only;rw[dP (e:=ah),bS (e:=ah)];omega;rcases aKA.1 a with a|a;exact d p a;rw[G6.1 a];show(0:Int)<=10;decide;refine bm (fun _=>bl ⟨b.1,by dsimp only;omega,fun p a=>by cases a⟩) (fun _=> ?_);refine bm (fun _=>dO (by simp;omega) (bl ⟨b.1,by dsimp only;rw[dP (e:=ah)];omega,fun p a=> ?_⟩)) (fun _=>bl ⟨b.1,by dsimp only;omega,d⟩);rcases aKA.1 a with a|a<;>exact d p a
def Rx{c:aE}(hc:aR c):Dr (oH k (c,())) (fun r=>aR r.2.1/\af aU r.1<=700):=by
 simp only[oH];refine aS (aQ Q hc) (fun r1 a=> ?_);have e:af aU ((([]:List ae),false):bg)=af (.sl ab) ([]:List ae):=eG Q _;rw[aX]at e
 refine vg (fun t:aE×bg×bg×Int×Unit=>t.2.2.2.1.toNat)
  (fun t=>aR t.1/\(af aU t.2.2.1:Int)<=660-130*t.2.2.2.1/\0<=t.2.2.2.1/\t.2.2.2.1<=5) ?_
  ⟨a.1,by have:=a.2;dsimp only;rw[e];omega,by have:=a.2;dsimp only;omega,by have:=a.2;dsimp only;omega⟩ (by have:=a.2;dsimp only;omega)
 rintro G ⟨c1,z,s,j,u⟩ ⟨q1,q2,q3,q4⟩ hG;dsimp only at q1 q2 q3 q4 hG|-;refine bm (fun b=> ?_) (fun hge=>bl ⟨q1,by dsimp only;omega⟩);have b:0<j:=by simpa using b
 have g:IntKind.i64.wrap (j-1)=j-1:=wrap64 (by omega) (by omega);rw[g];refine aS (dY Q q1) (fun f d=>fc (Ac Q (by omega) (by have:=d.2;omega)) (hG _ ⟨d.1,?_,by dsimp only;omega,by dsimp only;omega⟩ (by dsimp only;omega)));have h5:=d.2;have h:af aU ((([]:List ae),true):bg)=af (.sl ab) ([]:List ae):=eG Q _;rw[aX]at h;have l:af aU ((s.1++[f.1],s.2):bg)=af (.sl ab) (s.1++[f.1]):=eG Q _;rw[oY Q,jE Q,gb Q]at l;have e4:af aU s=af (.sl ab) s.1:=eG Q _;dsimp only;unfold mC;split;omega;split;omega;omega
def TF{c:aE}(hc:aR c):Dr (pO k (c,())) (fun r=>aR r.2.1/\af aU r.1<=1200):=by
 simp only[pO];refine aS (Rx Q hc) (fun d b=>aS (aQ Q b.1) (fun r2 a=> ?_));have f:=b.2;rw[eG Q]at f;have hl:=ay (e:=ab) (l:=d.1.1);refine bm (fun _=>bl ⟨a.1,by dsimp only;rw[eG Q];dsimp only;omega⟩) (fun _=> ?_);refine bm (fun _=>aS (mG Q a.1) (fun r h=>dO (by simp;omega) (bl ⟨h.1,by have:=h.2;dsimp only;rw[eG Q];dsimp only;rw[oY Q,jE Q,gb Q];omega⟩))) (fun _=>bl ⟨a.1,by dsimp only;rw[eG Q];omega⟩)
def aa7(l:List aJ):af (.sl aD) l=l.length:=by
 induction l with
 |nil=>exact aX
 |cons a l b=>
  have:af (.sl aD) (a::l)=1+af aD a+af (.sl aD) l:=bS (e:=aD) a l;rw[this,b,Hy Q,aKG];omega
def CJ{c:aE}(hc:aR c):Dr (jB k (c,())) (fun r=>aR r.2.1):=by
 simp only[jB];exact aS (aQ Q hc) (fun r1 a=>aS (aQ Q a.1) (fun r2 b=>bl b.1))
def RF{c:aE}(hc:aR c):Dr (oN k (c,())) (fun r=>aR r.2.1/\(r.1.length<=10\/r.1.length=17)):=by
 simp only[oN,qz];refine aS (P:=fun r:List aJ×aE×Unit=>aR r.2.1/\r.1.length<=8) ?_ (fun f b=>aS (aQ Q b.1) (fun r2 e=> ?_));refine aS (aQ Q hc) (fun f b=> ?_)
 refine vg (fun t:aE×List aJ×Int×Unit=>t.2.2.1.toNat) (fun t=>aR t.1/\(t.2.1.length:Int)+t.2.2.1<=8/\0<=t.2.2.1) ?_
  ⟨b.1,by have:=b.2;dsimp only;simp only[aKF];omega,b.2.1⟩ (by have:=b.2;dsimp only;omega)
 rintro G ⟨c1,l,j,u⟩ ⟨q1,q2,q3⟩ hG;dsimp only at q1 q2 q3 hG|-;refine bm (fun a=> ?_) (fun d=>bl ⟨q1,by dsimp only;omega⟩);have a:0<j:=by simpa using a
 have m:IntKind.i64.wrap (j-1)=j-1:=wrap64 (by omega) (by omega);rw[m];refine aS (CJ Q q1) (fun r4 g=>fc (uG Q (by omega)) (hG _ ⟨g,?_,by dsimp only;omega⟩ (by dsimp only;omega)));dsimp only;rw[Bi];omega;obtain⟨-,hl⟩:=b;refine bm (fun _=>aS (CJ Q e.1) (fun r h=>dO (by simp;omega) (bl ⟨h,.inl (by dsimp only;simp;omega)⟩))) (fun _=> ?_);refine bm (fun _=>dO (by simp;omega) (bl ⟨e.1,.inl (by dsimp only;simp;omega)⟩)) (fun _=> ?_);refine bm (fun _=> ?_) (fun _=>bl ⟨e.1,.inl (by dsimp only;omega)⟩);refine vg (fun t:aE×List aJ×Unit=>17-t.2.1.length) (fun t=>aR t.1/\t.2.1.length<=17) ?_ ⟨e.1,by dsimp only;omega⟩ (by dsimp only;omega);rintro G ⟨c1,l,u⟩ ⟨q1,q2⟩ hG;dsimp only at q1 q2 hG|-;refine bm (fun a=>dO (by simp;omega) ?_) (fun d=>bl ⟨q1,.inr ?_⟩);have a:(l.length:Int)<17:=by simpa using a
 exact hG _ ⟨q1,by dsimp only;simp;omega⟩ (by dsimp only;simp;omega);have d:¬(l.length:Int)<17:=by simpa using d
 dsimp only;omega
def Sr{c:aE}(hc:aR c):Dr (oy k (c,())) (fun r=>aR r.2.1/\af aw r.1<=2000):=by
 simp only[oy];have hz:af ab (([],0,0,ByteArray.empty):ae)=0:=gZ Q;have hzl:af (.sl al) ([]:List ai)=0:=aX;have hza:af (.sl ab) ([]:List ae)=0:=aX;refine aS (aQ Q hc) (fun g j=>aS (aQ Q j.1) (fun r2 l=>aS (aQ Q l.1) (fun r3 m=>aS (aQ Q m.1) (fun r4 o=>aS (aQ Q o.1) (fun r5 p=>aS (aQ Q p.1) (fun r6 h6=> ?_))))));refine zp (fun t:aE×aC×aC×Unit=>aR t.1/\af aw t.2.2.1<=0) ?_ (fun J a=> ?_)
 ·rintro⟨c8,z8,d8,u8⟩ ⟨q1,q2⟩;dsimp only at q1 q2|-;refine zp (fun t:aE×aC×aC×Unit=>aR t.1/\af aw t.2.2.1<=130) ?_ (fun J a=> ?_)
  ·rintro⟨c15,z15,d15,u15⟩ ⟨b,d⟩;dsimp only at b d|-;rw[bN Q]at d;refine zp (fun t:aE×aC×aC×Unit=>aR t.1/\af aw t.2.2.1<=900) ?_ (fun J a=> ?_)
   ·rintro⟨c18,z18,d18,u18⟩ ⟨e,f⟩;dsimp only at e f|-;have q:=f;rw[bN Q]at q;refine aS (aQ Q e) (fun r21 Gs=> ?_);refine bm (fun _=>aS (cQ Q Gs.1 (by decide)) (fun r h=>bl ⟨h,by dsimp only;rw[bN Q];dsimp only;omega⟩)) (fun _=> ?_);refine bm (fun _=>aS (cQ Q Gs.1 (by decide)) (fun r h=>bl ⟨h,by dsimp only;rw[bN Q];dsimp only;omega⟩)) (fun _=> ?_);refine bm (fun _=>aS (cQ Q Gs.1 (by decide)) (fun r h=>bl ⟨h,by dsimp only;rw[bN Q];dsimp only;omega⟩)) (fun _=> ?_);refine bm (fun _=>aS (aQ Q Gs.1) (fun r h=>bl ⟨h.1,by dsimp only;rw[bN Q];dsimp only;omega⟩)) (fun _=> ?_);refine bm (fun _=>bl ⟨Gs.1,by dsimp only;rw[bN Q];dsimp only;omega⟩) (fun _=> ?_);refine bm (fun _=>aS (qV Q Gs.1) (fun r h=>bl ⟨h.1,by have:=h.2.2;dsimp only;rw[bN Q];dsimp only;omega⟩)) (fun _=>bl ⟨Gs.1,by dsimp only;omega⟩)
   ·refine aS (gu Q b) (fun r19 UB=>bm (fun _=> ?_) (fun _=>a _ ⟨UB,by dsimp only;rw[bN Q];omega⟩));exact aS (Hz Q UB) (fun r h=>a _ ⟨h.1,by have:=h.2;dsimp only;rw[bN Q];dsimp only;omega⟩)
  ·have q3:=q2;rw[bN Q]at q3;refine bm (fun _=> ?_) (fun _=>a _ ⟨q1,by dsimp only;omega⟩);exact aS (dY Q q1) (fun r h=>a _ ⟨h.1,by have:=h.2;dsimp only;rw[bN Q];dsimp only;omega⟩)
 ·refine aS (gu Q h6.1) (fun r9 h9=>bm (fun _=> ?_) (fun _=>a _ ⟨h9,by dsimp only;rw[bN Q];dsimp only;omega⟩));refine aS (aQ Q h9) (fun r10 nX=>aS (aQ Q nX.1) (fun r11 xe=>fc (sO Q _) (aS (aQ Q xe.1) (fun r13 vq=>dO (c_ ?_) (a _ ⟨vq.1,by dsimp only;rw[bN Q];dsimp only;omega⟩)))))
  have hpos:0<(eN (IntKind.i64.wrap (1+g.1))).length:=by
   unfold eN
   repeat' split
   all_goals decide
  have:=vq.2;dsimp only at this|-;omega
end
def lA(d:aC):List ae:=d.2.2.2.2.2.2.2.1
def ml(l:List aC):Prop:=∀d∈l,cW d= -1->lA d=[]
theorem ml.app{l:List aC}{d:aC}(h:ml l)(b:cW d= -1->lA d=[]):ml (l++[d]):=fun x a=>by
 rcases aKA.1 a with a|a;exact h x a;rw[G6.1 a];exact b
theorem ml.put{l:List aC}{n:Nat}{d:aC}(h:ml l)(b:cW d= -1->lA d=[]):ml (l.set n d):=fun x a=>by
 rcases aKy a with a|rfl;exact h x a;exact b
theorem ml.at_{l:List aC}{n:Nat}(h:ml l):cW (l.getD n aw.aa)= -1->lA (l.getD n aw.aa)=[]:=by
 by_cases a:n<l.length;exact h _ (bK a);intro _;have:l.getD n aw.aa=aw.aa:=by rw[List.getD_eq_getElem?_getD,List.getElem?_eq_none (by omega)];rfl
 rw[this];rfl
def VP{x:Bool}{d:aC}{O ti code:Int}{got:List ae}(h0:0<=ti):¬cW (dA true x d O ti code got)= -1:=by
 unfold dA ot;rw[an (by rfl)];by_cases h:cW d= -1;rw[an h];show¬ti= -1;omega;rw[a_ h];exact h
def oh(r:Bool×ag):bV (bH r).2=bV r.2:=by
 unfold bH;split<;>rfl
def WS{k:Nat}{w:ag}{i:Nat}(o:0<=w.2.1)(h:ml (bV w)):ml (bV (iU true k w i).2):=by
 obtain⟨c,ti,O,st,Z,U,gr,A,nn,T,n_,V,E,M⟩:=w;have h:ml M:=h;have o:0<=ti:=o
 have f:∀j m,ml (bV (dZ (c,ti,O,st,Z,U,gr,A,nn,T,n_,V,E,M) j m).2):=by
  intro j m;unfold dZ;dsimp only;split<;>exact h
 have p:∀j,ml (bV (gL (c,ti,O,st,Z,U,gr,A,nn,T,n_,V,E,M) j).2):=by
  intro j;unfold gL;dsimp only;split<;>exact h
 have b:∀(l:List aC) (x:Bool) (n:Nat) (d:aC) (code:Int) (g:List ae),ml l->ml (l.set n (dA true x d O ti code g)):=fun l x n d code g f=>f.put fun e=>absurd e (VP o)
 have a:∀d:aC,cW (eT d O ti ti ti)= -1->lA (eT d O ti ti ti)=[]:=fun d e=>by
  have:ti= -1:=e;omega
 unfold iU;split;unfold fy;rw[oh];unfold qj;dsimp only;split;exact f _ _;split;split;exact b _ _ _ _ _ _ h
 exact h.put fun e=>by
  have:ti= -1:=e;omega
 exact(h.app (a _)).put h.at_;split;unfold nW;rw[oh];unfold wV mF fH;dsimp only;split;split;exact f _ _;split;exact b _ _ _ _ _ _ h;exact b _ _ _ _ _ _ h;split;exact f _ _;split;exact h;split;exact b _ _ _ _ _ _ h;exact h;split;unfold eF;rw[oh];unfold qJ;dsimp only;split;exact f _ _;show ml (if _ then _ else _);split;exact b _ _ _ _ _ _ (h.app (a _));exact h.app (a _);split;unfold eW;rw[oh];unfold gH;dsimp only;split;split;exact h;exact h.app fun _=>rfl;split;exact p _;split;split;exact b _ _ _ _ _ _ h;exact b _ _ _ _ _ _ h;exact b _ _ _ _ _ _ h;split;unfold fK;rw[oh];unfold gP;dsimp only;split;split;exact h.app fun _=>rfl;exact h;split;exact p _;split;exact b _ _ _ _ _ _ h;exact b _ _ _ _ _ _ h;exact h
def W1{k:Nat}{w:ag}{e:cq}(b:0<=w.2.1)(h:ml (bV w)):ml (bV (pz k w e).2):=by
 have a:∀i t op,ml (bV (fk w i t op)):=fun i t op=>ml.app (l:=bV w) h fun _=>rfl;unfold pz;split;split;dsimp only;split;exact a _ _ _;exact ml.app (l:=bV w) h fun _=>rfl;exact h;split;split;exact a _ _ _;exact h;split;split;exact a _ _ _;exact h;split;split;exact a _ _ _;exact h;split;split;exact WS b h;exact h;split;split;refine ml.app (l:=bV w) h fun e=> ?_;have:w.2.1= -1:=e;omega;exact h;split;split;exact h;exact h;exact h
def O5{α:Type}(lt:α->α->Bool)(xs:List α)(x:α):iX lt (xs++[x])=(eo lt x (iX lt xs).reverse).reverse:=by
 unfold iX;rw[aK5,aLc];rfl
section
variable{k:Nat}(Q:9223372036854775808<=k)
include Q
end
def EP{α:Type}{lt:α->α->Bool}{x:α}:∀ {r:List α},(∀y∈r,lt x y=false)->eo lt x r=x::r
 | [],_=>rfl
 |y::r,h=>by
  unfold eo;rw[a_ (by rw[h y (aKI ..)];decide)]
def Qx{α:Type}{lt:α->α->Bool}{l:List α}{x:α}(h:∀y∈l,lt x y=false):iX lt (l++[x])=iX lt l++[x]:=by
 rw[O5,EP (fun y a=>h y ((rT lt l).mem_iff.1 (aLh.1 a))),aLg,aLc]
theorem CH{α:Type}{lt:α->α->Bool}{x:α}:∀(q s:List α),(∀y∈q,lt y x=true)->q.foldl (fun r y=>eo lt y r) (x::s)=x::q.foldl (fun r y=>eo lt y r) s
 | [],s,_=>rfl
 |y::q,s,h=>by
  rw[aKV,aKV]
  have e:eo lt y (x::s)=x::eo lt y s:=by
   simp only[eo];rw[an (h y (aKI ..))]
  rw[e];exact CH q _ fun z a=>h z (aKL _ a)
def QO{α:Type}{lt:α->α->Bool}{p q:List α}{x:α}(d:∀y∈p,lt x y=false)(e:∀y∈q,lt y x=true):iX lt (p++x::q)=iX lt (p++q)++[x]:=by
 have a:∀y∈p.foldl (fun r x=>eo lt x r) [],lt x y=false:=fun y b=>d y ((rT lt p).mem_iff.1 (aLh.2 b));unfold iX;rw[aK5,aKV,EP a,CH _ _ e,aLg,aK5]
def lj(d:aC):aC:=lP d 0
def GF(a b:aC):Bool:=decide (cW a<cW b)
def rZ(l:List aC):List aC:=l.filter fun d=>decide (¬cW d= -1)
def fM(l:List aC):List aC:=iX GF (rZ (l.map lj))
def ua(l m:List aC):rZ (l++m)=rZ l++rZ m:=List.filter_append ..
def Kx{d:aC}{l:List aC}(h:¬cW d= -1):rZ (d::l)=d::rZ l:=List.filter_cons_of_pos (by simpa using h)
def M9{d:aC}{l:List aC}(h:cW d= -1):rZ (d::l)=rZ l:=List.filter_cons_of_neg (by simpa using h)
def zR{d:aC}{l:List aC}(h:d∈rZ (l.map lj)):∃x∈l,d=lj x/\¬cW x= -1:=by
 obtain⟨a,b⟩:=aK9.1 h;obtain⟨x,e,rfl⟩:=List.mem_map.1 a;exact⟨x,e,rfl,e_ b⟩
def ph(d:aC):cW (lj d)=cW d:=rfl
def A6{l:List aC}{d:aC}(h:cW d= -1):fM (l++[d])=fM l:=by
 unfold fM;rw[aK2,ua,aK4,List.map_nil,M9 (by rw[ph];exact h)];show iX GF (_++[])=_;rw[aLi]
def D5{l:List aC}{d:aC}(h:¬cW d= -1)(b:∀x∈l,cW x<=cW d):fM (l++[d])=fM l++[lj d]:=by
 unfold fM;rw[aK2,ua,aK4,List.map_nil,Kx (by rw[ph];exact h)];refine Qx fun y a=> ?_;obtain⟨x,e,rfl,_⟩:=zR a;have:=b x e;unfold GF;rw[ph,ph,d_];omega
def KA{α:Type}{l:List α}{n:Nat}(x:α)(h:n<l.length):l.set n x=l.take n++x::l.drop (n+1):=by
 rw[List.set_eq_take_append_cons_drop,an h]
def TG{α:Type}{l:List α}{n:Nat}(d:α)(h:n<l.length):l.set n (l.getD n d)=l:=by
 rw[cx _ h,List.set_getElem_self]
def NW{l:List aC}{n:Nat}{d:aC}(b:n<l.length)(h:cW (l.getD n aw.aa)= -1)(j:¬cW d= -1)(g:∀x∈l,cW x<cW d):fM (l.set n d)=fM l++[lj d]:=by
 have e:fM l=fM (l.take n++l.getD n aw.aa::l.drop (n+1)):=by
  rw[<-KA _ b,TG _ b]
 rw[e,KA _ b];unfold fM;rw[aK2,aK2,aK4,aK4,ua,ua,M9 (d:=lj (l.getD n aw.aa)) h,Kx (d:=lj d) j];refine QO (fun y a=> ?_) (fun y a=> ?_);obtain⟨x,f,rfl,_⟩:=zR a;have:=g x (aK1 f);unfold GF;rw[ph,ph,d_];omega;obtain⟨x,f,rfl,_⟩:=zR a;have:=g x (aKS f);unfold GF;rw[ph,ph,b_];omega
def R8{l:List aC}{n:Nat}{d:aC}(a:lj d=lj (l.getD n aw.aa)):fM (l.set n d)=fM l:=by
 unfold fM;by_cases hn:n<l.length;have e:(l.set n d).map lj=l.map lj:=iI (d:=aw.aa) a;rw[e];rw[aK6 (by omega)]
def s9(d:aC):Int:=d.2.2.2.2.2.2.1
def UC(d:aC):Int:=d.2.2.2.2.2.1
def iA(w:ag):List au:=w.2.2.2.2.2.2.2.1
def nS(cap:Int)(s:Option Int)(op code:Int)(g:Nat):Option Int:=
 match s with
 |none=>none
 |some n=>
  if op=1/\code=3/\¬n=cap then none
  else if op=4/\¬(g:Int)=n then none
  else if(if op=1/\code=1 then n+1 else if op=5 then n-g else n)<0\/cap<(if op=1/\code=1 then n+1 else if op=5 then n-g else n)then none
  else some (if op=1/\code=1 then n+1 else if op=5 then n-g else n)
def Qs(cap:Int)(s:Option Int)(d:aC):Option Int:=nS cap s d.1 (s9 d) (lA d).length
def pj{cap n op code:Int}{g:Nat}(h1:¬(op=1/\(code=1\/code=3)))(h4:¬op=4)(a:¬op=5)(h0:0<=n)(hn:n<=cap):nS cap (some n) op code g=some n:=by
 have e:(if op=1/\code=1 then n+1 else if op=5 then n-g else n)=n:=by rw[a_ (by omega),a_ a]
 unfold nS;dsimp only;rw[e,a_ (by omega),a_ (by omega),a_ (by omega)]
def VL{cap n:Int}{g:Nat}(h0:0<=n)(hn:n=cap):nS cap (some n) 1 3 g=some n:=by
 have e:(if(1:Int)=1/\(3:Int)=1 then n+1 else if(1:Int)=5 then n-g else n)=n:=by rw[a_ (by omega),a_ (by omega)]
 unfold nS;dsimp only;rw[e,a_ (by omega),a_ (by omega),a_ (by omega)]
def Wx{cap n:Int}{g:Nat}(h0:0<=n)(hn:n+1<=cap):nS cap (some n) 1 1 g=some (n+1):=by
 have e:(if(1:Int)=1/\(1:Int)=1 then n+1 else if(1:Int)=5 then n-g else n)=n+1:=by rw[an (by omega)]
 unfold nS;dsimp only;rw[e,a_ (by omega),a_ (by omega),a_ (by omega)]
def U9{cap n code:Int}{g:Nat}(hn:n<=cap)(hg:(g:Int)=n):nS cap (some n) 4 code g=some n:=by
 have e:(if(4:Int)=1/\code=1 then n+1 else if(4:Int)=5 then n-g else n)=n:=by rw[a_ (by omega),a_ (by omega)]
 unfold nS;dsimp only;rw[e,a_ (by omega),a_ (by omega),a_ (by omega)]
def Tj{cap n m code:Int}{g:Nat}(hn:n<=cap)(h0:0<=m)(hg:m+g=n):nS cap (some n) 5 code g=some m:=by
 have e:(if(5:Int)=1/\code=1 then n+1 else if(5:Int)=5 then n-g else n)=m:=by rw[a_ (by omega),an rfl];omega
 unfold nS;dsimp only;rw[e,a_ (by omega),a_ (by omega),a_ (by omega)]
def PT(l:List au)(n:Int)(a:ae):Prop:=∃g∈l,g.1=n/\a∈g.2.2.2.2
def RC(e:aC)(n:Int)(a:ae):Prop:=(e.1=7/\e.2.2.1.1=a.1)\/(e.1=8/\UC e=n/\a∈lA e/\vj (lA e))
def P2(gs b:List au)(news:List aC):Prop:=
 (∀n a,PT gs n a->PT b n a\/∃e∈news,RC e n a)/\(∀d∈news,d.1=7->¬s9 d=3->PT b (UC d) d.2.2.1)
def qt(cap:Int)(st a:List ar)(gs b:List au)(l d:List aC):Prop:=
 ∃news,fM d=fM l++news/\news.foldl (Qs cap) (some (bq st:Int))=some (bq a:Int)/\P2 gs b news
def Kb{gs:List au}{news:List aC}(h:∀d∈news,¬d.1=7):P2 gs gs news:=⟨fun _ _ h=> .inl h,fun d a h7 _=>absurd h7 (h d a)⟩
def kL{cap:Int}{st a:List ar}{gs:List au}{l b:List aC}(h:fM b=fM l)(hc:bq a=bq st):qt cap st a gs gs l b:=
 ⟨[],by rw[h,aLi],by rw[hc];rfl,Kb fun d e=>by cases e⟩
def fY{cap:Int}{st a:List ar}{gs b:List au}{l e:List aC}{d:aC}(h:fM e=fM l++[d])(hc:nS cap (some (bq st:Int)) d.1 (s9 d) (lA d).length=some (bq a:Int))(f:P2 gs b [d]):qt cap st a gs b l e:=
 ⟨[d],h,hc,f⟩
def qe{gs:List au}{d:aC}(h:¬d.1=7):P2 gs gs [d]:=Kb fun e a=>by rw[G6.1 a];exact h
def mR{st:List ar}{j:Nat}{x:Int}:bq (bT st j x)=bq st:=by unfold bq;rw[Cc]
def jP{l:List aC}{n:Nat}{d:aC}{x:Bool}{O ti code:Int}{got:List ae}(b:∀x∈l,cW x<ti)(h0:0<=ti)(f:n<l.length)(g:cW (l.getD n aw.aa)= -1)(h:cW d= -1):
 fM (l.set n (dA true x d O ti code got))=fM l++[lj (xQ d O ti code got)]:=by
 have e:dA true x d O ti code got=lP (xQ d O ti code got) ti:=by
  unfold dA ot;rw[an (by rfl),an h]
 have a:cW (dA true x d O ti code got)=ti:=by rw[e];rfl
 rw[NW f g (by rw[a];omega) (by rw[a];exact b),e];rfl
def QQ{l:List ae}{a b:ae}(d:b∈l)(g:¬b.1=a.1):b∈gw l a:=by
 unfold gw;split;rename_i i f;obtain⟨j,h,rfl⟩:=jb ab.aa d;by_cases e:i=j;subst e;exact absurd (e_ (aZ.1 f).2.1) g;rw[<-getD_set_ne (l:=l) (a) ab.aa e];exact bK (by rw[aKB];exact h);rw[<-List.take_append_drop (ib l a.1) l]at d;rcases aKA.1 d with d|d;exact aKD _ (aKD _ d);exact aKH _ d
def rV{α:Type}{l:List α}{i:Nat}{x:α}(a:i<l.length):x∈l.set i x:=by
 have:=aT (l:=l) x x a;have b:(l.set i x).getD i x∈l.set i x:=bK (by rw[aKB];exact a);rwa [this]at b
def O9{l:List ae}{a:ae}:a∈gw l a:=by
 unfold gw;split;rename_i i b;exact rV (aZ.1 b).1;exact aKD _ (aKH _ (G6.2 rfl))
def yh{α:Type}{l:List α}{i j:Nat}{x:α}(d:α)(a:j<l.length)(e:¬i=j):l.getD j d∈l.set i x:=by
 rw[<-getD_set_ne (l:=l) x d e];exact bK (by rw[aKB];exact a)
section
variable{k:Nat}{c:bh}{ti O gr nn:Int}{st:List ar}{Z:List bg}{U V:List ae}{A:List au}{T:List aJ}{n_:List br}{E:List aF}{M:List aC}{i:Nat}{t:aF}
def iJ(h:Rt k c ti O st Z U gr A nn T V E M):∀x∈M,cW x<ti:=fun x a=>(h.dee x a).2.2.1
def oZ(h:Rt k c ti O st Z U gr A nn T V E M):(0:Int)<=(bq st:Int)/\(bq st:Int)<=c.2.1:=⟨by omega,h.sto.cap⟩
def tU{j:Nat}:(bH (dZ (c,ti,O,st,Z,U,gr,A,nn,T,n_,V,E,M) i j)).1=true->
 qt c.2.1 st (mH (bH (dZ (c,ti,O,st,Z,U,gr,A,nn,T,n_,V,E,M) i j)).2) A (iA (bH (dZ (c,ti,O,st,Z,U,gr,A,nn,T,n_,V,E,M) i j)).2) M (bV (bH (dZ (c,ti,O,st,Z,U,gr,A,nn,T,n_,V,E,M) i j)).2):=by
 unfold dZ;dsimp only;by_cases a:(st.getD j ah.aa).1= -1;rw[an a,aY];intro _;exact kL rfl mR;rw[a_ a];intro b;simp[bH]at b
def Ff{j:Nat}:(bH (gL (c,ti,O,st,Z,U,gr,A,nn,T,n_,V,E,M) j)).1=true->
 qt c.2.1 st (mH (bH (gL (c,ti,O,st,Z,U,gr,A,nn,T,n_,V,E,M) j)).2) A (iA (bH (gL (c,ti,O,st,Z,U,gr,A,nn,T,n_,V,E,M) j)).2) M (bV (bH (gL (c,ti,O,st,Z,U,gr,A,nn,T,n_,V,E,M) j)).2):=by
 unfold gL;dsimp only;by_cases a:gr= -1;rw[an a,aY];intro _;exact kL rfl rfl;rw[a_ a];intro b;simp[bH]at b
theorem Tl(h:Rt k c ti O st Z U gr A nn T V E M)(z:∀p∈st,p.2.1<4611686018427387904)(hi:i<3)(r:E.getD i ak.aa=t)(B:t.1=1):
 (fy true k (c,ti,O,st,Z,U,gr,A,nn,T,n_,V,E,M) i).1=true->
 qt c.2.1 st (mH (fy true k (c,ti,O,st,Z,U,gr,A,nn,T,n_,V,E,M) i).2) A (iA (fy true k (c,ti,O,st,Z,U,gr,A,nn,T,n_,V,E,M) i).2) M (bV (fy true k (c,ti,O,st,Z,U,gr,A,nn,T,n_,V,E,M) i).2):=by
 have h0:=fT h.sto.ok;obtain⟨D,m,hb,hd,hv1,hw⟩:=dH h (by omega) r (by omega);have s:=(gF B).1 D;obtain⟨g,w⟩:=oZ h;have hti:=h.ti0;unfold fy qj;dsimp only;rw[r];by_cases u:t.2.1=0;rw[an u];exact tU;rw[a_ u];by_cases v:t.2.1=1;rw[an v];rw[a_ (by omega)]at s;obtain⟨q1,q12,q13,q14,o,f,q17,q⟩:=s
 have j:cW (M.getD (bf t).toNat aw.aa)= -1:=by
  by_cases e:(M.getD (bf t).toNat aw.aa).2.2.2.2.2.2.2.2.2.2.1= -1;exact e;have:=o.1 e;omega
 by_cases a:rl k c st t.2.2.1=true;rw[an a,aY];intro _;refine fY (jP (iJ h) h.ti0 m j j) ?_ (qe (by show¬(M.getD (bf t).toNat aw.aa).1=7;omega));show nS c.2.1 (some (bq st:Int)) (M.getD (bf t).toNat aw.aa).1 3 0=some (bq (bT st _ (-1)):Int);rw[f,mR];unfold rl at a;simp only[t_,b_]at a;exact VL g (by omega);rw[a_ a,aY];intro _;have C:=(Kk h.sto.ok q z).2.2.1;refine fY (d:=lj (nT (M.getD (bf t).toNat aw.aa) O ti (if(cZ k st t.2.2.1).2=true then 1 else 2))) (NW m j (by show¬ti= -1;omega) (iJ h)) ?_ (qe (by show¬(M.getD (bf t).toNat aw.aa).1=7;omega));show nS c.2.1 (some (bq st:Int)) (M.getD (bf t).toNat aw.aa).1 (if(cZ k st t.2.2.1).2=true then 1 else 2) (lA (M.getD (bf t).toNat aw.aa)).length=some (bq (cZ k st t.2.2.1).1:Int);rw[f,C];rw[KK h.sto.ok];cases l:(bL k st t.2.2.1.1).2;unfold rl at a;rw[l]at a;have:¬c.2.1<=(bq st:Int):=by simpa using a
 refine(Wx g (by omega)).trans ?_;simp;exact pj (by decide) (by decide) (by decide) g w;rw[a_ v,aY];intro _
 have b:fM ((M++[eT (mO i t.2.2.1) O ti ti ti]).set (bf t).toNat (lP (M.getD (bf t).toNat aw.aa) ti))=fM M++[lj (eT (mO i t.2.2.1) O ti ti ti)]:=by
  rw[R8 (by rw[ig _ m];rfl)];exact D5 (by show¬ti= -1;omega) (fun x y=>by have:=iJ h x y;show cW x<=ti;omega)
 refine fY b ?_ (qe (by show¬(2:Int)=7;decide));show nS c.2.1 (some (bq st:Int)) 2 8 0=some (bq (bT st _ (-1)):Int);rw[mR];exact pj (by decide) (by decide) (by decide) g w
theorem Tp(h:Rt k c ti O st Z U gr A nn T V E M)(hi:i<3)(d:E.getD i ak.aa=t)(m:t.1=2):
 (bH (mF true k (c,ti,O,st,Z,U,gr,A,nn,T,n_,V,E,M) i)).1=true->
 qt c.2.1 st (mH (bH (mF true k (c,ti,O,st,Z,U,gr,A,nn,T,n_,V,E,M) i)).2) A (iA (bH (mF true k (c,ti,O,st,Z,U,gr,A,nn,T,n_,V,E,M) i)).2) M (bV (bH (mF true k (c,ti,O,st,Z,U,gr,A,nn,T,n_,V,E,M) i)).2):=by
 obtain⟨o,g,hb,hd,hv1,hw⟩:=dH h (by omega) d (by omega);obtain⟨q1,q12,q13,q14,a,b,q17⟩:=(pf m).1 o;obtain⟨j,l⟩:=oZ h;unfold mF;dsimp only;rw[d];by_cases e:t.2.1=0;rw[an e];exact tU;rw[a_ e];by_cases f:(bL k st t.2.2.2.1).2=true;rw[an f,aY];intro _;refine fY (jP (iJ h) h.ti0 g a a) ?_ (qe (by show¬(M.getD (bf t).toNat aw.aa).1=7;omega));show nS c.2.1 (some (bq st:Int)) (M.getD (bf t).toNat aw.aa).1 5 1=some (bq (bT st _ (-1)):Int);rw[b,mR];exact pj (by decide) (by decide) (by decide) j l;rw[a_ f,aY];intro _;refine fY (jP (iJ h) h.ti0 g a a) ?_ (qe (by show¬(M.getD (bf t).toNat aw.aa).1=7;omega));show nS c.2.1 (some (bq st:Int)) (M.getD (bf t).toNat aw.aa).1 6 0=some (bq (bT st _ (-1)):Int);rw[b,mR];exact pj (by decide) (by decide) (by decide) j l
def VA(h:Rt k c ti O st Z U gr A nn T V E M)(a:dm st t=true)(hs:gC st t.2.2.2.2.2.1=true)(e:t.2.2.2.2.2.1.length=st.length):bU st=t.2.2.2.2.2.2.1:=by
 rw[tB]at a
 have b:=a.2 fun i d=>by
  unfold gC at hs;have:=ck.1 hs i (by omega) d;exact e_ this
 rw[e,List.take_length]at b;exact b
theorem RW(h:Rt k c ti O st Z U gr A nn T V E M)(hi:i<3)(j:E.getD i ak.aa=t)(o:t.1=3):
 (bH (fH true k (c,ti,O,st,Z,U,gr,A,nn,T,n_,V,E,M) i)).1=true->
 qt c.2.1 st (mH (bH (fH true k (c,ti,O,st,Z,U,gr,A,nn,T,n_,V,E,M) i)).2) A (iA (bH (fH true k (c,ti,O,st,Z,U,gr,A,nn,T,n_,V,E,M) i)).2) M (bV (bH (fH true k (c,ti,O,st,Z,U,gr,A,nn,T,n_,V,E,M) i)).2):=by
 obtain⟨p,q,hb,hd,hv1,hw⟩:=dH h (by omega) j (by omega);obtain⟨⟨r1,r2,r3,r4,r5,r6,r7,r8,r9,r10,r11⟩,q12,q13,q14,b,e,f,g⟩:=(gl o).1 p;obtain⟨c1,r⟩:=oZ h;have hlen:=h.sto.len;unfold fH;dsimp only;rw[j];by_cases l:t.2.1=0;rw[an l];exact tU;rw[a_ l];by_cases m:t.2.1=1;rw[an m,aY];intro _;exact kL rfl mR;rw[a_ m];rw[an (by omega)]at g;by_cases d:gC st t.2.2.2.2.2.1=true;rw[an d,aY];intro _;have a:=VA h f d (by omega);refine fY (jP (iJ h) h.ti0 q b b) ?_ (qe (by show¬(M.getD (bf t).toNat aw.aa).1=7;omega));show nS c.2.1 (some (bq st:Int)) (M.getD (bf t).toNat aw.aa).1 8 (dE t.2.2.2.2.2.2.1).length=some (bq st:Int);rw[e];refine U9 r ?_;have:(dE t.2.2.2.2.2.2.1).length=t.2.2.2.2.2.2.1.length:=(rT dG _).length_eq;rw[this,<-a];rfl;rw[a_ d,aY];intro _;exact kL rfl rfl
theorem QE(h:Rt k c ti O st Z U gr A nn T V E M)(hi:i<3)(m:E.getD i ak.aa=t)(w:t.1=4):
 (eF true k (c,ti,O,st,Z,U,gr,A,nn,T,n_,V,E,M) i).1=true->
 qt c.2.1 st (mH (eF true k (c,ti,O,st,Z,U,gr,A,nn,T,n_,V,E,M) i).2) A (iA (eF true k (c,ti,O,st,Z,U,gr,A,nn,T,n_,V,E,M) i).2) M (bV (eF true k (c,ti,O,st,Z,U,gr,A,nn,T,n_,V,E,M) i).2):=by
 obtain⟨B,u,j,e,hv1,hw⟩:=dH h (by omega) m (by omega);obtain⟨⟨q1,q2,q3,q4,q5,q6,q7,q8,q9,q10,q11,q11'⟩,q12,q13,q14,a,g,q17⟩:=(gD w).1 B;obtain⟨C,v⟩:=oZ h;have hlen:=h.sto.len;have hti:=h.ti0;have y:t.2.2.2.2.1.toNat<st.length:=by omega
 unfold eF qJ;dsimp only;rw[m];by_cases o:t.2.1=0;rw[an o];exact tU;rw[a_ o,aY];intro _;have hcnt:=count_set (l:=st) (p:=(-1,(dU (st.getD t.2.2.2.2.1.toNat ah.aa) O).2)) y;have hsl:=zA (st.getD t.2.2.2.2.1.toNat ah.aa) O;have hee:(aW (-1,(dU (st.getD t.2.2.2.2.1.toNat ah.aa) O).2)).length=(aW (dU (st.getD t.2.2.2.2.1.toNat ah.aa) O)).length:=rfl;have q:nS c.2.1 (some (bq st:Int)) 5 8 (db O (st.getD t.2.2.2.2.1.toNat ah.aa).2.2).length=some (bq (st.set t.2.2.2.2.1.toNat (-1,(dU (st.getD t.2.2.2.2.1.toNat ah.aa) O).2)):Int):=Tj v (by omega) (by omega)
 have r:∀l:List aC,(∀x∈l,cW x<=ti)->fM (l++[eT (fb i t.2.2.2.2.1.toNat (db O (st.getD t.2.2.2.2.1.toNat ah.aa).2.2)) O ti ti ti])=fM l++[lj (eT (fb i t.2.2.2.2.1.toNat (db O (st.getD t.2.2.2.2.1.toNat ah.aa).2.2)) O ti ti ti)]:=
  fun l j=>D5 (by show¬ti= -1;omega) j
 by_cases s:t.2.2.2.2.1.toNat+1=st.length
 have f:(if t.2.2.2.2.1.toNat+1=st.length then(M++[eT (fb i t.2.2.2.2.1.toNat (db O (st.getD t.2.2.2.2.1.toNat ah.aa).2.2)) O ti ti ti]).set (bf t).toNat (dA true false (M.getD (bf t).toNat aw.aa) O ti 8 [])else M++[eT (fb i t.2.2.2.2.1.toNat (db O (st.getD t.2.2.2.2.1.toNat ah.aa).2.2)) O ti ti ti])=
  M.set (bf t).toNat (dA true false (M.getD (bf t).toNat aw.aa) O ti 8 [])++[eT (fb i t.2.2.2.2.1.toNat (db O (st.getD t.2.2.2.2.1.toNat ah.aa).2.2)) O ti ti ti]:=by
  rw[an s,List.set_append_left _ _ u]
 show qt c.2.1 st _ A A M (if _ then _ else _);rw[f];refine⟨[lj (xQ (M.getD (bf t).toNat aw.aa) O ti 8 []),lj (eT (fb i t.2.2.2.2.1.toNat (db O (st.getD t.2.2.2.2.1.toNat ah.aa).2.2)) O ti ti ti)],?_,?_,Kb fun d e=> ?_⟩;rw[r _ (fun x b=> ?_),jP (iJ h) h.ti0 u a a,List.append_assoc];rfl;rcases aKy b with b|rfl;have:=iJ h x b;omega
 have:cW (dA true false (M.getD (bf t).toNat aw.aa) O ti 8 [])=ti:=by
  unfold dA ot;rw[an (by rfl),an (show cW (M.getD (bf t).toNat aw.aa)= -1 from a)];rfl
 omega
 have z:Qs c.2.1 (some (bq st:Int)) (lj (xQ (M.getD (bf t).toNat aw.aa) O ti 8 []))=some (bq st:Int):=by
  show nS c.2.1 (some (bq st:Int)) (M.getD (bf t).toNat aw.aa).1 8 0=some (bq st:Int);rw[g];exact pj (by decide) (by decide) (by decide) C v
 rw[aKV,aKV,List.foldl_nil,z];exact q;rcases List.mem_cons.1 e with rfl|e;show¬(M.getD (bf t).toNat aw.aa).1=7;omega;rw[G6.1 e];show¬(5:Int)=7;decide
 have f:(if t.2.2.2.2.1.toNat+1=st.length then(M++[eT (fb i t.2.2.2.2.1.toNat (db O (st.getD t.2.2.2.2.1.toNat ah.aa).2.2)) O ti ti ti]).set (bf t).toNat (dA true false (M.getD (bf t).toNat aw.aa) O ti 8 [])else M++[eT (fb i t.2.2.2.2.1.toNat (db O (st.getD t.2.2.2.2.1.toNat ah.aa).2.2)) O ti ti ti])=
  M++[eT (fb i t.2.2.2.2.1.toNat (db O (st.getD t.2.2.2.2.1.toNat ah.aa).2.2)) O ti ti ti]:=a_ s
 show qt c.2.1 st _ A A M (if _ then _ else _);rw[f];exact fY (r _ fun x b=>by have:=iJ h x b;omega) q (qe (by show¬(5:Int)=7;decide))
theorem RX(h:Rt k c ti O st Z U gr A nn T V E M):
 (eW true k (c,ti,O,st,Z,U,gr,A,nn,T,n_,V,E,M)).1=true->
 qt c.2.1 st (mH (eW true k (c,ti,O,st,Z,U,gr,A,nn,T,n_,V,E,M)).2) A (iA (eW true k (c,ti,O,st,Z,U,gr,A,nn,T,n_,V,E,M)).2) M (bV (eW true k (c,ti,O,st,Z,U,gr,A,nn,T,n_,V,E,M)).2):=by
 obtain⟨J,K⟩:=oZ h;generalize r:E.getD 3 ak.aa=t;unfold eW gH;dsimp only;rw[r];by_cases y:t.1=0;rw[an y];by_cases z:U.length=0;rw[an z];intro f;simp[bH]at f;rw[a_ z,aY];intro _;exact kL (A6 rfl) rfl;rw[a_ y];have s:=h.tas 3 (by decide);rw[r]at s
 have I:t.1=5:=by
  have h1:=gx (k:=k) (w:=(c,ti,O,st,Z,U,gr,A,nn,T,n_,V,E,M)) (i:=3) s;omega
 obtain⟨-,v,hb,f,hv1,hw⟩:=dH h (by decide) r (by omega);obtain⟨q1,q12,q13,q14,b,p,o⟩:=(iM I).1 s;by_cases B:t.2.1=0;rw[an B];exact Ff;rw[a_ B]
 have l:∀(m code:Int),nS c.2.1 (some (bq st:Int)) (M.getD (bf t).toNat aw.aa).1 code 0=some (bq st:Int):=fun m code=>by
  rw[p];exact pj (by omega) (by decide) (by decide) J K
 cases u:eR A (keyOf t.2.2.1 c.2.2.2.2.2)with
 |none=>
  dsimp only;by_cases C:12<=A.length;rw[an C,aY];intro _;refine fY (jP (iJ h) h.ti0 v b b) (l 0 3) ⟨fun _ _ h=> .inl h,fun d f _ q=> ?_⟩;rw[G6.1 f]at q;exact absurd rfl q;rw[a_ C,aY];intro _;refine fY (jP (iJ h) h.ti0 v b (show cW (ou _ nn)= -1 from b)) (l nn 1) ⟨fun n a h=> ?_,fun d f _ q=> ?_⟩;obtain⟨g,x,e⟩:=h;exact .inl ⟨g,aKD _ x,e⟩;rw[G6.1 f];exact⟨mB c t.2.2.1 nn O,aKH _ (G6.2 rfl),rfl,G6.2 o⟩
 |some i=>
  dsimp only;rw[aY];intro _;obtain⟨F,k2⟩:=qi u;refine fY (jP (iJ h) h.ti0 v b (show cW (ou _ _)= -1 from b)) (l 0 2) ⟨fun n a h=> ?_,fun d f _ q=> ?_⟩;obtain⟨g,x,G,H⟩:=h;obtain⟨j,L,rfl⟩:=jb aj.aa x;by_cases e:i=j;subst e;by_cases D:a.1=t.2.2.1.1;refine .inr ⟨_,G6.2 rfl,.inl ⟨p,?_⟩⟩;show(M.getD (bf t).toNat aw.aa).2.2.1.1=a.1;rw[o,D];exact .inl ⟨_,rV F,G,QQ H D⟩;exact .inl ⟨_,yh aj.aa L e,G,H⟩;rw[G6.1 f];refine⟨_,rV F,rfl,?_⟩;show(M.getD (bf t).toNat aw.aa).2.2.1∈gw _ t.2.2.1;rw[o];exact O9
theorem Qr(h:Rt k c ti O st Z U gr A nn T V E M):
 (fK true k (c,ti,O,st,Z,U,gr,A,nn,T,n_,V,E,M)).1=true->
 qt c.2.1 st (mH (fK true k (c,ti,O,st,Z,U,gr,A,nn,T,n_,V,E,M)).2) A (iA (fK true k (c,ti,O,st,Z,U,gr,A,nn,T,n_,V,E,M)).2) M (bV (fK true k (c,ti,O,st,Z,U,gr,A,nn,T,n_,V,E,M)).2):=by
 obtain⟨F,G⟩:=oZ h;generalize p:E.getD 4 ak.aa=t;unfold fK gP;dsimp only;rw[p];by_cases r:t.1=0;rw[an r];by_cases s:rY T O=true;rw[an s,aY];intro _;exact kL (A6 rfl) rfl;rw[a_ s];intro o;simp[bH]at o;rw[a_ r];have q:=h.tas 4 (by decide);rw[p]at q
 have C:t.1=6:=by
  have h1:=gx (k:=k) (w:=(c,ti,O,st,Z,U,gr,A,nn,T,n_,V,E,M)) (i:=4) q;omega
 obtain⟨-,x,hb,o,hv1,hw⟩:=dH h (by decide) p (by omega);obtain⟨q1,q12,q13,q14,f,m,q17,q18⟩:=(gj C).1 q;by_cases u:t.2.1=0;rw[an u];exact Ff;rw[a_ u]
 have l:∀(code:Int) (g:Nat),nS c.2.1 (some (bq st:Int)) (M.getD (bf t).toNat aw.aa).1 code g=some (bq st:Int):=fun code g=>by
  rw[m];exact pj (by omega) (by decide) (by decide) F G
 by_cases Q:lM A t.2.2.2.2.2.2.2.1=true;rw[an Q,aY];intro _;refine fY (jP (iJ h) h.ti0 x f f) (l 8 _) ⟨fun n a B=> ?_,fun d o h7 _=> ?_⟩;obtain⟨g,H,I,y⟩:=B;unfold lM at Q;cases b:eM A t.2.2.2.2.2.2.2.1 with
 |none=>rw[b]at Q;cases Q
 |some i=>
  obtain⟨J,k2⟩:=gq b;obtain⟨j,z,rfl⟩:=jb aj.aa H;have v:iy A t.2.2.2.2.2.2.2.1 O=sK (A.getD i aj.aa) O:=by unfold iy;rw[b]
  by_cases e:i=j;subst e;refine .inr ⟨_,G6.2 rfl,.inr ⟨m,?_,?_,?_⟩⟩;show(M.getD (bf t).toNat aw.aa).2.2.2.2.2.1=n;omega;show a∈(iy A t.2.2.2.2.2.2.2.1 O).2.2.2;rw[v];exact y;show vj (iy A t.2.2.2.2.2.2.2.1 O).2.2.2;rw[v];exact(gW.1 ((cG.1 h.grp.go).2.1 _ (bK (d:=aj.aa) J))).2.2.2.2.2.2
  have D:A.getD j aj.aa∈dQ A t.2.2.2.2.2.2.2.1 O:=by
   unfold dQ;rw[b];dsimp only;split;rw[cx _ z];rcases aLf e with e|e;refine aKH _ (aLd.2 ⟨j-(i+1),by rw[aKN];omega,?_⟩);rw[aKY];congr 1;omega;exact aKD _ (aLd.2 ⟨j,by rw[aKT];omega,by rw[aKX]⟩);exact yh aj.aa z e
  exact .inl ⟨_,D,I,y⟩
 rw[G6.1 o]at h7;have:(M.getD (bf t).toNat aw.aa).1=7:=h7;omega;rw[a_ Q,aY];intro _;exact fY (jP (iJ h) h.ti0 x f f) (l 6 0) (qe (by show¬(M.getD (bf t).toNat aw.aa).1=7;omega))
end
def Bp(w w':ag):Prop:=qt w.1.2.1 (mH w) (mH w') (iA w) (iA w') (bV w) (bV w')
def Vj{k:Nat}{w:ag}{i:Nat}(h:bC k w=true)(m:i<5)(o:∀p∈mH w,p.2.1<4611686018427387904)(b:(iU true k w i).1=true):Bp w (iU true k w i).2:=by
 obtain⟨c,ti,O,st,Z,U,gr,A,nn,T,n_,V,E,M⟩:=w;have R:=bR.1 h;generalize a:E.getD i ak.aa=t;have g:=R.tas i m;rw[a]at g;have ho:=gx (k:=k) (w:=(c,ti,O,st,Z,U,gr,A,nn,T,n_,V,E,M)) (i:=i) g;revert b;unfold Bp iU;dsimp only[bF];rw[a];by_cases d:t.1=1;rw[an d];exact Tl R o (by omega) a d;rw[a_ d];by_cases j:t.1=2\/t.1=3;rw[an j];unfold nW wV;dsimp only;rw[a];by_cases e:t.1=2;rw[an e];exact Tp R (by omega) a e;rw[a_ e];exact RW R (by omega) a (by omega);rw[a_ j];by_cases f:t.1=4;rw[an f];exact QE R (by omega) a f;rw[a_ f];by_cases l:i=3;rw[an l];exact RX R;rw[a_ l];by_cases h6:i=4;rw[an h6];exact Qr R;rw[a_ h6];intro b;cases b
def Vo{k:Nat}{w:ag}{e:cq}(h:bC k w=true)(N:∀p∈mH w,p.2.1<4611686018427387904)(a:(pz k w e).1=true):Bp w (pz k w e).2:=by
 have P:=h;have q:∀i t op,Bp w (fk w i t op):=fun i t op=>kL (A6 rfl) rfl
 have b:∀(d:aC) (l:ag),0<=w.2.1->(0:Int)<=(bq (mH w):Int)/\(bq (mH w):Int)<=w.1.2.1->(∀x∈bV w,cW x<w.2.1)->cW d=w.2.1->(¬(d.1=1/\(s9 d=1\/s9 d=3))/\¬d.1=4/\¬d.1=5/\¬d.1=7)->
  mH l=mH w->iA l=iA w->bV l=bV w++[d]->Bp w l:=by
  intro d l h0 hc H a f I J K;unfold Bp;rw[I,J,K];refine fY (D5 (by omega) fun x L=>by have:=H x L;omega) ?_ (qe f.2.2.2);exact pj (op:=d.1) (code:=s9 d) f.1 f.2.1 f.2.2.1 hc.1 hc.2
 have g:0<=w.2.1/\((0:Int)<=(bq (mH w):Int)/\(bq (mH w):Int)<=w.1.2.1)/\∀x∈bV w,cW x<w.2.1:=by
  obtain⟨c,ti,O,st,Z,U,gr,A,nn,T,n_,V,E,M⟩:=w;have R:=bR.1 P;exact⟨R.ti0,oZ R,iJ R⟩
 obtain⟨D,F,G⟩:=g;unfold pz at a|-;by_cases r:e.1=1;rw[an r]at a|-;by_cases hc:cP w e.2.1=true;rw[an hc];dsimp only;by_cases s:cw e.2.2.1=true;rw[an s];exact q _ _ _;rw[a_ s];exact b (1,e.2.1,e.2.2.1,[],0,0,4,[],w.2.2.1,w.2.1,w.2.1,w.2.1) _ D F G rfl ⟨by show¬((1:Int)=1/\((4:Int)=1\/(4:Int)=3));decide,by show¬(1:Int)=4;decide,by show¬(1:Int)=5;decide,by show¬(1:Int)=7;decide⟩ rfl rfl rfl;rw[a_ hc]at a;cases a;rw[a_ r]at a|-;by_cases u:e.1=2;rw[an u]at a|-;by_cases hc:(cP w e.2.1&&dt e.2.2.2)=true;rw[an hc];exact q _ _ _;rw[a_ hc]at a;cases a;rw[a_ u]at a|-;by_cases v:e.1=3;rw[an v]at a|-;by_cases hc:cP w e.2.1=true;rw[an hc];exact q _ _ _;rw[a_ hc]at a;cases a;rw[a_ v]at a|-;by_cases y:e.1=4;rw[an y]at a|-;by_cases hc:cP w e.2.1=true;rw[an hc];exact q _ _ _;rw[a_ hc]at a;cases a;rw[a_ y]at a|-;by_cases z:e.1=5;rw[an z]at a|-;by_cases j:bc e.2.1 0 4=true;rw[an j]at a|-;have S:e.2.1.toNat<5:=by unfold bc at j;simp only[t_,b_]at j;omega
 exact Vj h S N a;rw[a_ j]at a;cases a;rw[a_ z]at a|-;by_cases B:e.1=6;rw[an B]at a|-;by_cases m:bc e.2.1 0 ((df w).length-1)=true;rw[an m];exact b (AL e.2.1 ((df w).getD e.2.1.toNat aU.aa) w.2.2.1 w.2.1) _ D F G rfl ⟨by show¬((9:Int)=1/\_);omega,by show¬(9:Int)=4;decide,by show¬(9:Int)=5;decide,by show¬(9:Int)=7;decide⟩ rfl rfl rfl;rw[a_ m]at a;cases a;rw[a_ B]at a|-;by_cases C:e.1=7;rw[an C]at a|-;by_cases o:bc e.2.1 1 20=true/\w.2.2.1+e.2.1<=99899;rw[an o];exact kL rfl rfl;rw[a_ o]at a;cases a;rw[a_ C]at a;cases a
end Vg.Tryz
