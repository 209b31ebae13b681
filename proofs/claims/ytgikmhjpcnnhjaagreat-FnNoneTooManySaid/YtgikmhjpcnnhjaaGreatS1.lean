/- Texts of this law, joined. -/
import Derived.Test.YtgikmhjpcnnhjaaGreatPC
import Derived.Test.YtgikmhjpcnnhjaaGreatVd
set_option linter.unusedSimpArgs false
set_option linter.unusedVariables false
set_option linter.unusedSectionVars false
open Bool renaming and_eq_true -> kk,or_eq_true -> A1,not_eq_true' -> ajS,not_eq_true -> aj9,and_assoc -> akp
open List renaming length_append -> rv,mem_singleton -> sd,length_singleton -> C',mem_append -> u0,mem_flatMap -> y_,mem_or_eq_of_mem_set -> Q_,getD_eq_getElem?_getD -> Z_,pairwise_singleton -> ajF,getElem_of_mem -> Z',flatMap_cons -> Q',pairwise_map -> R0,pairwise_append -> ajJ,length_set -> R_,pairwise_iff_getElem -> ajN,mem_cons_of_mem -> ajO,length_take -> ajP,length_nil -> ajR,getElem_take -> ajT,mem_of_mem_drop -> ajU,length_drop -> ajV,length_cons -> ajW,mem_cons_self -> ajX,mem_of_mem_take -> ajZ,getElem?_append_left -> aj0,getElem_drop -> aj1,getElem_mem -> aj2,eraseIdx_eq_take_drop_succ -> aj3,mem_filter -> aj4,flatMap_append -> aj5,set_eq_of_length_le -> aj7,flatMap_def -> aj8,take_append_drop -> akb,length_filter_le -> akc,eraseIdx_sublist -> akd,mem_append_right -> ake,mem_append_left -> akf,getD_cons_zero -> akg,getD_cons_succ -> akh,set_cons_zero -> aki,take_sublist -> akk,drop_sublist -> akl,ext_getElem -> akm,filter_cons -> akn
open Int renaming le_refl -> p_,toNat_natCast -> ajY
open Nat renaming le_refl -> J1,le_trans -> S_,zero_le -> aka,lt_or_gt_of_ne -> akj,strongRecOn -> ako
open Option renaming bind_some -> ajQ
open Iff renaming rfl -> aj6
namespace Vg.Tryz
open Go Vg
theorem cC{α:Type}{l:List α}{i:Nat}(d:α)(h:i<l.length):l.getD i d=l[i]:=by
 rw[Z_,List.getElem?_eq_getElem h];rfl
theorem eA{α:Type}{l:List α}{d:α}{p:α->Bool}:bL 0 l.length (fun i=>p (l.getD i d))=true↔∀x∈l,p x=true:=by
 rw[cA];constructor;intro h x b;obtain⟨i,a,e⟩:=Z' b;have:=h i (by omega) a;rwa [cC _ a,e]at this;intro h i _ a;rw[cC _ a];exact h _ (aj2 a)
theorem JN{α:Type}{r:α->α->Prop}(p:∀a b c,r a b->r b c->r a c){l:List α}{d:α}:(∀i,i<l.length->i=0\/r (l.getD (i-1) d) (l.getD i d))↔l.Pairwise r:=by
 constructor;intro h;rw[ajN];intro i j g e hij;obtain⟨m,rfl⟩:∃m,j=i+m+1:=⟨j-i-1,by omega⟩
 induction m with
 |zero=>
  rcases h (i+0+1) e with o|f;omega;rwa [show i+0+1-1=i by omega,cC _ g,cC _ e]at f
 |succ m s=>
  have q:=s (by omega) (by omega);rcases h (i+(m+1)+1) e with o|f;omega;rw[show i+(m+1)+1-1=i+m+1 by omega,cC _ (show i+m+1<l.length by omega),cC _ e]at f;exact p _ _ _ q f
 intro h i g;by_cases o:i=0;exact .inl o;rw[cC _ g,cC _ (show i-1<l.length by omega)];exact .inr (ajN.1 h _ _ _ _ (by omega))
theorem mO{α:Type}{r:α->α->Prop}{l:List α}{d:α}:(∀i,i<l.length->∀j,j<i->r (l.getD j d) (l.getD i d))↔l.Pairwise r:=by
 rw[ajN];constructor;intro h i j b a e;have:=h j a i e;rwa [cC _ b,cC _ a]at this;intro h i b j a;rw[cC _ b,cC _ (show j<l.length by omega)];exact h _ _ _ _ a
theorem jN{α β:Type}{f:α->β}{l:List α}{i:Nat}{x d:α}(h:f x=f (l.getD i d)):(l.set i x).map f=l.map f:=by
 by_cases a:i<l.length;rw[cC _ a]at h;rw[List.map_set,h];apply akm (by simp);intro n h1 h2;rw[List.getElem_set];split
 subst_vars;simp
 rfl;rw[aj7 (by omega)]
theorem bR{α:Type}{l:List α}{i:Nat}{d:α}(h:i<l.length):l.getD i d∈l:=by
 rw[cC _ h];exact aj2 h
theorem kN{α:Type}{l:List α}{x:α}(d:α)(h:x∈l):∃i,i<l.length/\l.getD i d=x:=by
 obtain⟨i,a,e⟩:=Z' h;exact⟨i,a,by rw[cC _ a,e]⟩
theorem getD_set_ne{α:Type}{l:List α}{n m:Nat}(a d:α)(h:n≠m):(l.set n a).getD m d=l.getD m d:=by
 rw[Z_,List.getElem?_set_ne h,<-Z_]
theorem DY{α:Type}{l:List α}{d:α}{p:α->Bool}{x:α}(a:x∈l)(b:p x=true):∃i,gC l.length (fun i=>p (l.getD i d))=some i/\i<l.length/\p (l.getD i d)=true:=by
 cases h:gC l.length (fun i=>p (l.getD i d))with
 |some i=>exact⟨i,rfl,(aV.1 h).1,(aV.1 h).2.1⟩
 |none=>
  obtain⟨i,f,e⟩:=kN d a;have:=iQ.1 h i f;rw[e,b]at this;cases this
abbrev pQ(l:List aZ):Prop:=l.Pairwise (fun a b=>a.1<b.1)
abbrev YZ(l:List ae):Prop:=l.Pairwise (fun a b=>¬a.1=b.1)
theorem pT{k:Nat}{c:aZ}:fw k c=true↔(∀a∈c.2,bB a=true/\dq k a.1=c.1)/\0<c.2.length/\YZ c.2:=by
 unfold fw DD;rw[kk,kk,eA (p:=fun a=>bB a&&decide (dq k a.1=c.1)),decide_eq_true_iff,cA];refine and_congr (by simp) (and_congr aj6 ?_);unfold YZ;rw[<-mO (d:=ab.aa)];simp only[cA,ajS,d_];exact⟨fun h i b j e=>h i (by omega) b j (by omega) e,fun h i _ b j _ e=>h i b j e⟩
theorem eJ{k:Nat}{p:aq}{q n:Int}:jj k p q n=true↔(∀c∈p.2.2,fw k c=true/\fE c.1 n=q)/\pQ p.2.2/\(-1<=p.1/\p.1<=4)/\0<=p.2.1:=by
 unfold jj pQ;rw[<-JN (d:=az.aa) (fun a b c e h2=>by omega)];have:∀j,(fw k (p.2.2.getD j az.aa)&&(decide (fE (p.2.2.getD j az.aa).1 n=q)&&CE p.2.2 j))=((fw k (p.2.2.getD j az.aa)&&decide (fE (p.2.2.getD j az.aa).1 n=q))&&CE p.2.2 j):=fun j=>(akp ..).symm;simp only[this,k9,kk,bw,decide_eq_true_iff];have e:=eA (l:=p.2.2) (d:=az.aa) (p:=fun c=>fw k c&&decide (fE c.1 n=q));simp only[k9,kk,decide_eq_true_iff]at e;rw[e,and_assoc];refine and_congr aj6 (and_congr ?_ aj6);rw[cA];simp only[CE,A1,beq_iff_eq,decide_eq_true_iff];exact⟨fun h i f=>h i (by omega) f,fun h i _ f=>h i f⟩
theorem cS{k:Nat}{l:List aq}:eY k l=true↔(∀i,i<l.length->jj k (l.getD i aj.aa) (i:Int) (l.length:Int)=true)/\1<=l.length/\l.length<=3:=by
 unfold eY;rw[kk,cA];simp only[bw,kk,decide_eq_true_iff];exact and_congr ⟨fun h i a=>h i (by omega) a,fun h i _ a=>h i a⟩ (by omega)
theorem MV{l:List aq}{a:ae}:a∈cK l↔∃p∈l,∃c∈p.2.2,a∈c.2:=by
 simp only[cK,aU,lJ,y_]
/-! one part changes-/
theorem yd{k:Nat}{l:List aq}{j:Nat}{p:aq}(h:eY k l=true)(b:jj k p (j:Int) (l.length:Int)=true):eY k (l.set j p)=true:=by
 rw[cS]at h|-;rw[R_];refine⟨fun i a=> ?_,h.2⟩;by_cases e:j=i;subst e;rw[aT _ _ a];exact b;rw[getD_set_ne _ _ e];exact h.1 i a
theorem GL{α β:Type}{f:α->List β}{l:List α}{j:Nat}{x d:α}(b:j<l.length):((l.set j x).flatMap f).length+(f (l.getD j d)).length=(l.flatMap f).length+(f x).length:=by
 induction l generalizing j with
 |nil=>simp at b
 |cons a l e=>
  cases j with
  |zero=>simp only[aki,Q',rv,akg];omega
  |succ j=>
   have:=e (j:=j) (by simpa using b);simp only[List.set_cons_succ,Q',rv,akh];omega
theorem Ea{α β:Type}{f:α->List β}{l:List α}{j:Nat}{x:α}{b:β}(h:b∈(l.set j x).flatMap f):b∈l.flatMap f\/b∈f x:=by
 obtain⟨y,d,a⟩:=y_.1 h;rcases Q_ d with e|rfl;exact .inl (y_.2 ⟨y,e,a⟩);exact .inr a
theorem count_set{l:List aq}{j:Nat}{p:aq}(a:j<l.length):bm (l.set j p)+(aU (l.getD j aj.aa)).length=bm l+(aU p).length:=GL a
/-! locks-/
theorem Zl{k:Nat}{st:List aq}{j:Nat}{x:Int}(h:eY k st=true)(a:j<st.length)(b: -1<=x/\x<=4):eY k (cH st j x)=true:=by
 refine yd h ?_;have:=eJ.1 ((cS.1 h).1 j a);exact eJ.2 ⟨this.1,this.2.1,b,this.2.2.2⟩
theorem Ha{st:List aq}{j:Nat}{x:Int}:cK (cH st j x)=cK st:=by
 unfold cK cH;have:∀l:List aq,l.flatMap aU=(l.map aU).flatten:=fun l=>by rw[aj8]
 rw[this,this,jN (f:=aU) (l:=st) (i:=j) (x:=(x,(st.getD j aj.aa).2)) (d:=aj.aa) rfl]
/-! putting-/
theorem CR(a b:ae):(mg a b).1=b.1:=by unfold mg;split<;>rfl
theorem Qr{a b:ae}(ha:bB a=true)(d:da b=true):da (mg a b)=true:=by
 unfold mg;split;unfold da bB bw at*
 simp only[kk,b_]at*
 refine⟨⟨⟨⟨d.1.1.1.1,?_⟩,?_⟩,d.1.2⟩,d.2⟩<;>(try split)<;>omega;exact d
theorem gL{a:ae}(h:da a=true):bB a=true:=by
 unfold da at h;simp only[kk]at h;exact h.1
theorem Bd(c:aZ)(a:ae):(mJ c a).1=c.1:=by unfold mJ;split<;>rfl
theorem Qz{c:aZ}{a x:ae}(h:x∈(mJ c a).2):x∈c.2\/x=a\/∃b∈c.2,x=mg b a:=by
 unfold mJ at h;split at h;rename_i i e;rcases Q_ h with d|d;exact .inl d;exact .inr (.inr ⟨_,bR (aV.1 e).1,d⟩);rcases u0.1 h with d|d;exact .inl d;exact .inr (.inl (by simpa using d))
theorem P4(c:aZ)(a:ae):(mJ c a).2.length=c.2.length+if(iC c.2 a.1).isNone=true then 1 else 0:=by
 unfold mJ;split;rename_i i b;simp[b];rename_i b;simp[b]
theorem UZ(c:aZ)(a:ae):∃x∈(mJ c a).2,x.1=a.1:=by
 unfold mJ;split;rename_i i b;exact⟨_,List.mem_set (h:=(aV.1 b).1) ..,CR _ _⟩;exact⟨a,by simp,rfl⟩
theorem ZE{k:Nat}{c:aZ}{a:ae}(h:fw k c=true)(m:da a=true)(o:dq k a.1=c.1):fw k (mJ c a)=true:=by
 rw[pT]at h|-;obtain⟨q,h2,r⟩:=h;refine⟨fun x g=> ?_,by rw[P4];omega,?_⟩;rw[Bd];rcases Qz g with g|rfl|⟨b,u,rfl⟩;exact q x g;exact⟨gL m,o⟩;exact⟨gL (Qr (q b u).1 m),by rw[CR];exact o⟩;unfold mJ;split;rename_i i j
 have e:(c.2.set i (mg (c.2.getD i ab.aa) a)).map (·.1)=c.2.map (·.1):=jN (d:=ab.aa) (by
  rw[CR];exact(by simpa using(aV.1 j).2.1:(c.2.getD i ab.aa).1=a.1).symm)
 have p:=(R0 (f:=fun x:ae=>x.1) (R:=fun a b=>¬a=b)).2 r;rw[<-e]at p;exact(R0 (f:=fun x:ae=>x.1) (R:=fun a b=>¬a=b)).1 p;rename_i j;refine ajJ.2 ⟨r,ajF _ _,fun x g y s=> ?_⟩;obtain⟨i,l,rfl⟩:=kN ab.aa g;have:=iQ.1 j i l;rw[sd.1 s];simpa using this
theorem ZG{l:List aZ}{f:Int}(i:Nat)(h:i<kf l f):(l.getD i az.aa).1<f:=by
 unfold kf at h;cases e:gC l.length (fun i=> !decide ((l.getD i az.aa).1<f))with
 |none=>
  rw[e]at h;have:=iQ.1 e i h;simpa using this
 |some j=>
  rw[e]at h;have:=(aV.1 e).2.2 i h;simpa using this
theorem Zz{l:List aZ}{f:Int}(h:kf l f<l.length):f<=(l.getD (kf l f) az.aa).1:=by
 unfold kf at h|-;cases e:gC l.length (fun i=> !decide ((l.getD i az.aa).1<f))with
 |none=>rw[e]at h;simp at h
 |some j=>
  have:=(aV.1 e).2.1;simp only[Option.getD_some];simpa using this
theorem Um{l:List aZ}{f:Int}{x:aZ}(h:pQ l)(s:∀c∈l,¬c.1=f)(r:x.1=f):pQ (l.take (kf l f)++[x]++l.drop (kf l f)):=by
 have g:∀c∈l.take (kf l f),c.1<f:=by
  intro c hc;obtain⟨i,q,e⟩:=Z' hc;rw[ajP]at q;have j:=ZG (l:=l) (f:=f) i (by omega);rw[cC _ (by omega)]at j;rw[<-e,ajT];exact j
 have o:∀c∈l.drop (kf l f),f<c.1:=by
  intro c hc;obtain⟨i,q,e⟩:=Z' hc;rw[ajV]at q;have j:=Zz (l:=l) (f:=f) (by omega);rw[cC _ (by omega)]at j;have h2:=s _ (aj2 (show kf l f<l.length by omega));rw[aj1]at e;rw[<-e];by_cases p:i=0;subst p;simp only[Nat.add_zero];omega;have:=ajN.1 h (kf l f) (kf l f+i) (by omega) (by omega) (by omega);omega
 unfold pQ at*
 rw[ajJ,ajJ];refine⟨⟨h.sublist (akk _ _),ajF _ _,fun a d b m=> ?_⟩,h.sublist (akl _ _),fun a d b m=> ?_⟩;rw[sd.1 m,r];exact g a d;have:=o b m;rcases u0.1 d with d|d;have:=g a d;omega;rw[sd.1 d,r];exact this
theorem TN{k:Nat}{p:aq}{s:List af}(o:pQ p.2.2):(gx k p s).2=true↔∃c∈p.2.2,c.1=dq k s/\∃x∈c.2,x.1=s:=by
 unfold gx;constructor;intro h;split at h;cases h;rename_i i f;split at h;cases h;rename_i j g;exact⟨_,bR (aV.1 f).1,by simpa using(aV.1 f).2.1,_,bR (aV.1 g).1,by simpa using(aV.1 g).2.1⟩;rintro⟨c,hc,e,x,u,ex⟩;obtain⟨i,v,w,y⟩:=DY (d:=az.aa) (p:=fun c=>decide (c.1=dq k s)) hc (by simpa using e)
 have hu:p.2.2.getD i az.aa=c:=by
  obtain⟨m,hm,em⟩:=kN az.aa hc;have h4:(p.2.2.getD i az.aa).1=c.1:=by rw[e];simpa using y
  by_cases b:i=m;rw[b];exact em;have l:=mO (d:=az.aa).2 o;rcases akj b with h6|h6;have:=l m hm i h6;rw[em]at this;omega;have:=l i w m h6;rw[em]at this;omega
 obtain⟨j,g1,g2,g3⟩:=DY (d:=ab.aa) (p:=fun a=>decide (a.1=s)) u (by simpa using ex);have q:gR p (dq k s)=some i:=v;have r:iC c.2 s=some j:=g1;simp only[q,hu,r]
theorem RZ{k:Nat}{p:aq}{s:List af}(h:(gx k p s).2=true):(gx k p s).1.1=s/\(gx k p s).1∈aU p:=by
 unfold gx at h|-;split at h;cases h;rename_i i b;split at h;cases h;rename_i j a;simp only[b,a];exact⟨by simpa using(aV.1 a).2.1,y_.2 ⟨_,bR (aV.1 b).1,bR (aV.1 a).1⟩⟩
theorem Rj{k:Nat}{p a:aq}{s:List af}(h:a.2.2=p.2.2):gx k a s=gx k p s:=by
 unfold gx gR;rw[h]
theorem GS(k:Nat)(p:aq)(a:ae):(ib k p a).1.2.1=IntKind.i64.wrap (p.2.1+1)/\(ib k p a).1.1=p.1:=by
 unfold ib;split<;>exact⟨rfl,rfl⟩
theorem Vr{k:Nat}{a:ae}(d:da a=true):fw k (dq k a.1,[a])=true:=
 pT.2 ⟨fun x b=>by rw[sd.1 b];exact⟨gL d,rfl⟩,by simp,ajF _ _⟩
theorem PL{p:aq}{f:Int}(h:gR p f=none):∀c∈p.2.2,¬c.1=f:=by
 intro c hc;obtain⟨i,a,rfl⟩:=kN az.aa hc;have:=iQ.1 h i a;simpa using this
theorem Za{k:Nat}{p:aq}{a:ae}{q n:Int}(h:jj k p q n=true)(m:da a=true)(s:fE (dq k a.1) n=q)(hv:p.2.1<4611686018427387904):jj k (ib k p a).1 q n=true:=by
 rw[eJ]at h|-;obtain⟨j,r,v,h4⟩:=h;have e:=GS k p a;refine⟨?_,?_,by rw[e.2];exact v,by rw[e.1,wrap64 (by omega) (by omega)];omega⟩;intro c hc;unfold ib at hc;split at hc;rename_i i g;rcases Q_ hc with hc|rfl;exact j c hc;have l:(p.2.2.getD i az.aa).1=dq k a.1:=by simpa using(aV.1 g).2.1
 have hm:=j _ (bR (d:=az.aa) (aV.1 g).1);exact⟨ZE hm.1 m l.symm,by rw[Bd];exact hm.2⟩;rcases u0.1 hc with hc|hc;rcases u0.1 hc with hc|hc;exact j c (ajZ hc);rw[sd.1 hc];exact⟨Vr m,s⟩;exact j c (ajU hc);unfold ib;split;rename_i i g;have u:(p.2.2.set i (mJ (p.2.2.getD i az.aa) a)).map (·.1)=p.2.2.map (·.1):=jN (d:=az.aa) (Bd _ _);have o:=(R0 (f:=fun x:aZ=>x.1) (R:=fun a b=>a<b)).2 r;rw[<-u]at o;exact(R0 (f:=fun x:aZ=>x.1) (R:=fun a b=>a<b)).1 o;rename_i g;exact Um r (PL g) rfl
theorem W7{k:Nat}{p:aq}{a x:ae}(h:x∈aU (ib k p a).1):x∈aU p\/x=a\/∃b∈aU p,x=mg b a:=by
 obtain⟨c,hc,d⟩:=y_.1 h;unfold ib at hc;split at hc;rename_i i e;rcases Q_ hc with hc|rfl;exact .inl (y_.2 ⟨c,hc,d⟩);have hm:p.2.2.getD i az.aa∈p.2.2:=bR (aV.1 e).1;rcases Qz d with d|d|⟨b,f,d⟩;exact .inl (y_.2 ⟨_,hm,d⟩);exact .inr (.inl d);exact .inr (.inr ⟨b,y_.2 ⟨_,hm,f⟩,d⟩);rcases u0.1 hc with hc|hc;rcases u0.1 hc with hc|hc;exact .inl (y_.2 ⟨c,ajZ hc,d⟩);rw[sd.1 hc]at d;exact .inr (.inl (by simpa[lJ]using d));exact .inl (y_.2 ⟨c,ajU hc,d⟩)
theorem Xu{k:Nat}{p:aq}{a:ae}:(aU (ib k p a).1).length=(aU p).length+if(ib k p a).2=true then 1 else 0:=by
 unfold aU ib;split;rename_i i b;have:=GL (f:=lJ) (l:=p.2.2) (j:=i) (x:=mJ (p.2.2.getD i az.aa) a) (d:=az.aa) (aV.1 b).1;simp only[lJ,P4]at this|-;omega
 have:(p.2.2.flatMap lJ).length=((p.2.2.take (kf p.2.2 (dq k a.1))).flatMap lJ).length+((p.2.2.drop (kf p.2.2 (dq k a.1))).flatMap lJ).length:=by
  rw[<-rv,<-aj5,akb]
 simp only[aj5,rv,this];simp[lJ];omega
theorem Ti{k:Nat}{p:aq}{a:ae}:∃c∈(ib k p a).1.2.2,c.1=dq k a.1/\∃x∈c.2,x.1=a.1:=by
 unfold ib;split;rename_i i b;refine⟨_,List.mem_set (h:=(aV.1 b).1) ..,?_,UZ _ _⟩;rw[Bd];simpa using(aV.1 b).2.1;exact⟨(dq k a.1,[a]),by simp,rfl,a,by simp,rfl⟩
theorem iK{k:Nat}{st:List aq}(h:eY k st=true):st.length≠0:=by have:=(cS.1 h).2;omega
theorem km{k:Nat}{st:List aq}{s:List af}(h:st.length≠0):(bF k st s).toNat<st.length/\((bF k st s).toNat:Int)=bF k st s:=by
 have:=Hw (f:=dq k s) (n:=(st.length:Int)) (by omega);unfold bF;omega
theorem Aq{k:Nat}{st:List aq}{a:ae}(h:st.length≠0):fa k st a=(st.set (bF k st a.1).toNat (ib k (st.getD (bF k st a.1).toNat aj.aa) a).1,(ib k (st.getD (bF k st a.1).toNat aj.aa) a).2):=by
 unfold fa;rw[a_ h]
theorem PZ{k:Nat}{st:List aq}{a:ae}(h:eY k st=true)(g:da a=true)(q:∀p∈st,p.2.1<4611686018427387904):
 eY k (fa k st a).1=true/\(fa k st a).1.length=st.length/\bm (fa k st a).1=bm st+(if(fa k st a).2=true then 1 else 0)/\
 (cj k (fa k st a).1 a.1).2=true/\((∀x∈cK st,da x=true)->∀x∈cK (fa k st a).1,da x=true):=by
 have j:=iK h;obtain⟨e,u⟩:=km (k:=k) (s:=a.1) j;rw[Aq j];have r:=(cS.1 h).1 _ e;have m:=Za r g (by rw[u];rfl) (q _ (bR e));refine⟨yd h m,by simp,?_,?_,?_⟩;have:=count_set (l:=st) (p:=(ib k (st.getD (bF k st a.1).toNat aj.aa) a).1) e;have:=Xu (k:=k) (p:=st.getD (bF k st a.1).toNat aj.aa) (a:=a);dsimp only;omega;unfold cj;rw[a_ (by simpa using j),show bF k (st.set (bF k st a.1).toNat (ib k (st.getD (bF k st a.1).toNat aj.aa) a).1) a.1=bF k st a.1 by unfold bF;rw[R_],aT _ _ e];exact(TN (eJ.1 m).2.1).2 Ti;intro f x d;rcases Ea d with d|d;exact f x d;have hm:∀y∈aU (st.getD (bF k st a.1).toNat aj.aa),y∈cK st:=fun y o=>y_.2 ⟨_,bR e,o⟩;rcases W7 d with d|rfl|⟨b,v,rfl⟩;exact f x (hm x d);exact g;exact Qr (gL (f b (hm b v))) g
theorem Fo{k:Nat}{st:List aq}{s:List af}(h:(cj k st s).2=true):(cj k st s).1.1=s/\(cj k st s).1∈cK st:=by
 unfold cj at h|-;split at h;cases h;rename_i a;rw[a_ a];have:=RZ h;exact⟨this.1,y_.2 ⟨_,bR (km a).1,this.2⟩⟩
theorem RG{k:Nat}{st a:List aq}{s:List af}(b:a.length=st.length)(h:(a.getD (bF k st s).toNat aj.aa).2.2=(st.getD (bF k st s).toNat aj.aa).2.2):cj k a s=cj k st s:=by
 unfold cj;rw[b,show bF k a s=bF k st s by unfold bF;rw[b],Rj h]
theorem Ys{k:Nat}{p:aq}{a:ae}(hp:pQ p.2.2):(ib k p a).2= !(gx k p a.1).2:=by
 unfold ib gx;cases h:gR p (dq k a.1)with
 |none=>rfl
 |some i=>cases b:iC (p.2.2.getD i az.aa).2 a.1<;>simp only[b]<;>rfl
theorem NG{k:Nat}{st:List aq}{a:ae}(h:eY k st=true):(fa k st a).2= !(cj k st a.1).2:=by
 have b:=iK h;obtain⟨d,h2⟩:=km (k:=k) (s:=a.1) b;rw[Aq b];unfold cj;rw[a_ b];exact Ys (eJ.1 ((cS.1 h).1 _ d)).2.1
/-! sweeping-/
theorem DG{j_:Int}{l:List ae}{a:ae}:a∈eU j_ l->a∈l:=by
 unfold eU;intro h;exact(aj4.1 h).1
theorem Xo{k:Nat}{j_:Int}{c:aZ}(h:fw k c=true)(d:0<(j7 j_ c).2.length):fw k (j7 j_ c)=true:=by
 rw[pT]at h|-;refine⟨fun a b=>h.1 a (DG b),d,?_⟩;unfold j7 eU;exact h.2.2.filter _
theorem Q2{j_:Int}{l:List aZ}{c:aZ}(h:c∈lA j_ l):0<c.2.length/\∃b∈l,c=j7 j_ b:=by
 unfold lA at h;obtain⟨a,d⟩:=aj4.1 h;obtain⟨b,f,e⟩:=List.mem_map.1 a;exact⟨by simpa using d,b,f,e.symm⟩
theorem Ye{j_:Int}{l:List aZ}(h:pQ l):pQ (lA j_ l):=by
 unfold lA pQ;refine List.Pairwise.filter _ ?_;exact R0.2 h
theorem WA{k:Nat}{p:aq}{j_ q n:Int}(h:jj k p q n=true)(hv:p.2.1<4611686018427387904):jj k (fD p j_) q n=true:=by
 rw[eJ]at h|-;obtain⟨a,e,f,g⟩:=h;refine⟨fun c hc=> ?_,Ye e,f,?_⟩;obtain⟨g1,b,d,rfl⟩:=Q2 hc;exact⟨Xo (a b d).1 g1,(a b d).2⟩;unfold fD;dsimp only;split;rw[wrap64 (by omega) (by omega)];omega;exact g
theorem Q0(j_:Int)(l:List ae):(eU j_ l).length+(lx j_ l).length=l.length:=by
 unfold eU lx
 induction l with
 |nil=>rfl
 |cons a l b=>
  simp only[akn];by_cases h:a.2.2.1<=j_;simp[h]at b|-;omega;simp[h]at b|-;omega
theorem Wf(j_:Int)(l:List aZ):(lA j_ l).flatMap lJ=l.flatMap fun c=>eU j_ c.2:=by
 unfold lA
 induction l with
 |nil=>rfl
 |cons c l a=>
  simp only[List.map_cons,akn,Q'];by_cases h:(0:Nat)<(j7 j_ c).2.length;simp only[c_ h,if_true,Q',a];rfl;simp only[decide_eq_false h,Bool.false_eq_true,if_false,a];have:eU j_ c.2=[]:=List.eq_nil_of_length_eq_zero (by unfold j7 at h;simpa using h);rw[this];rfl
theorem Es(p:aq)(j_:Int):(aU (fD p j_)).length+(ey j_ p.2.2).length=(aU p).length:=by
 unfold aU fD ey;simp only[Wf]
 induction p.2.2 with
 |nil=>rfl
 |cons c l a=>
  simp only[Q',rv,lJ]at a|-;have:=Q0 j_ c.2;omega
theorem U9{p:aq}{j_:Int}{a:ae}(h:a∈aU (fD p j_)):a∈aU p:=by
 obtain⟨c,hc,d⟩:=y_.1 h;obtain⟨g1,b,e,rfl⟩:=Q2 hc;exact y_.2 ⟨b,e,DG d⟩
theorem UX{k:Nat}{p:aq}{j_ q n:Int}(h:jj k p q n=true)(d:¬0<(ey j_ p.2.2).length):fD p j_=p:=by
 have f:=(eJ.1 h).1;unfold fD;rw[a_ d]
 have j:∀c∈p.2.2,j7 j_ c=c:=by
  intro c hc
  have l:lx j_ c.2=[]:=by
   refine List.eq_nil_iff_forall_not_mem.2 fun a e=>d ?_;exact List.length_pos_of_mem (y_.2 ⟨c,hc,e⟩)
  have b:=Q0 j_ c.2;rw[l]at b
  have m:eU j_ c.2=c.2:=by
   unfold eU at b|-;exact(List.filter_sublist).eq_of_length (by simpa using b)
  unfold j7;rw[m]
 have:lA j_ p.2.2=p.2.2:=by
  unfold lA;rw[List.map_congr_left (g:=id) (fun c hc=>j c hc),List.map_id];refine List.filter_eq_self.2 fun c hc=> ?_;simpa using(pT.1 (f c hc).1).2.1
 rw[this]
def uF(k:Nat)(ti:Int)(l:List ax):Prop:=∀d∈l,gz k d=true/\d.2.2.2.2.2.2.2.2.2.1<ti/\d.2.2.2.2.2.2.2.2.2.2.1<ti/\d.2.2.2.2.2.2.2.2.2.2.2<ti
structure Em(k:Nat)(c:bo)(st:List aq):Prop where
 ok:eY k st=true
 len:(st.length:Int)=c.1
 cap:(bm st:Int)<=c.2.1
 fit:∀a∈cK st,da a=true
structure Av(c:bo)(m_:List bU)(k_ l_:List ae):Prop where
 len:(m_.length:Int)=c.2.2.1
 sub:∀s∈m_,ij s=true
 fee:∀a∈k_,bB a=true
 sai:∀a∈l_,bB a=true
structure uN(k:Nat)(st:List aq)(h_:List aE)(gr:Int):Prop where
 pt:∀q,q<st.length->∀j,j<5->(bA k (h_.getD j al.aa) st.length=(q:Int)↔(st.getD q aj.aa).1=(j:Int))
 gp:∀j,j<5->(dj (h_.getD j al.aa)=true↔gr=(j:Int))
 gr: -1<=gr/\gr<=4
structure wM(c:bo)(j_:Int)(f_:List au)(nn:Int)(i_:List aC)(t4:aE):Prop where
 go:fN f_ c.2.2.2.2.2=true
 ho:oJ i_=true
 tm:∀x∈i_,x.2<nn
 ap:i_.Pairwise (fun a b=>¬a.2=b.2)
 td:∀g∈f_,g.2.2.1<=j_/\g.2.2.2.1<=j_/\g.1<nn/\((∃x∈i_,x.2=g.1/\x.1=j8 c g)\/(t4.1=6/\t4.2.2.2.2.2.2.2.1=g.1))
def uZ(k:Nat)(c1:Int)(st:List aq)(nn:Int)(t:aE)(d:ax):Bool:=
 if t.1=1 then
  decide (d.1=1)&&(if t.2.1=2 then decide (d.2.2.1.1=t.2.2.1.1)&&(cj k st t.2.2.1.1).2&&decide ((cj k st t.2.2.1.1).1=t.2.2.1)else decide (d.2.2.1=t.2.2.1)&&da t.2.2.1)
 else if t.1=2 then decide (d.1=3)&&decide (d.2.2.2.1=t.2.2.2.1)
 else if t.1=3 then decide (d.1=4)&&((if t.2.1=2 then decide ((t.2.2.2.2.2.1.length:Int)=c1)else decide (t.2.2.2.2.1<c1))&&fk st t)
 else if t.1=4 then decide (d.1=6)&&decide (t.2.2.2.2.1<c1)
 else if t.1=5 then decide (d.1=7)&&decide (d.2.2.1=t.2.2.1)
 else decide (d.1=8)&&(decide (d.2.2.2.2.2.1=t.2.2.2.2.2.2.2.1)&&decide (t.2.2.2.2.2.2.2.1<nn))
def cQ(k:Nat)(c1:Int)(st:List aq)(nn m:Int)(t:aE)(d:ax)(n:Int):Bool:=
 eC t n&&(decide (t.1=0)||(decide (t.2.2.2.2.2.2.2.2<m)&&(decide (d.2.1=n)&&decide (d.2.2.2.2.2.2.2.2.2.2.2= -1)&&
  decide ((¬d.2.2.2.2.2.2.2.2.2.2.1= -1)↔(t.1=1/\t.2.1=2))&&uZ k c1 st nn t d)))
def Y8(k:Nat)(c1:Int)(st:List aq)(nn:Int)(h_:List aE)(g_:List ax):Prop:=
 ∀i,i<5->cQ k c1 st nn (g_.length:Int) (h_.getD i al.aa) (g_.getD (bC (h_.getD i al.aa)).toNat ay.aa) (i:Int)=true
structure Rt(k:Nat)(c:bo)(ti j_:Int)(st:List aq)(m_:List bU)(k_:List ae)(gr:Int)(f_:List au)(nn:Int)(i_:List aC)(l_:List ae)
 (h_:List aE) (g_:List ax):Prop where
 cf:dU c=true
 ti0:0<=ti
 nn0:0<=nn
 nw:0<=j_/\j_<=99899
 sto:Em k c st
 sub:Av c m_ k_ l_
 dee:uF k ti g_
 tl:h_.length=5
 tas:Y8 k c.1 st nn h_ g_
 loc:uN k st h_ gr
 grp:wM c j_ f_ nn i_ (h_.getD 4 al.aa)
theorem Ra{l:List ae}{a:ae}:a∈dN l↔a∈l:=by
 unfold dN;exact(gF dB l).mem_iff
theorem Zc{α:Type}{l:List α}{d:α}{p:α->Bool}:(!bL 0 l.length (fun i=> !p (l.getD i d)))=true↔∃x∈l,p x=true:=by
 rw[ajS,<-aj9,eA (p:=fun x=> !p x)];simp
theorem WG{c:bo}{ti j_ gr nn:Int}{st:List aq}{m_:List bU}{k_ l_:List ae}{f_:List au}{i_:List aC}{n_:List bY}{h_:List aE}{g_:List ax}:
 gY (c,ti,j_,st,m_,k_,gr,f_,nn,i_,n_,l_,h_,g_)=true↔wM c j_ f_ nn i_ (h_.getD 4 al.aa):=by
 unfold gY wD yN;simp only[kk]
 rw[k9,kk,eA (l:=i_) (d:=aD.aa) (p:=fun x=>decide (x.2<nn)),
  eA (l:=f_) (d:=ak.aa) (p:=fun g=>(decide (g.2.2.1<=j_)&&(decide (g.2.2.2.1<=j_)&&decide (g.1<nn)))&&iM (c,ti,j_,st,m_,k_,gr,f_,nn,i_,n_,l_,h_,g_) g i_.length)]
 have b:∀g:au,iM (c,ti,j_,st,m_,k_,gr,f_,nn,i_,n_,l_,h_,g_) g i_.length=true↔((∃x∈i_,x.2=g.1/\x.1=j8 c g)\/((h_.getD 4 al.aa).1=6/\(h_.getD 4 al.aa).2.2.2.2.2.2.2.1=g.1)):=by
  intro g;unfold iM GC;rw[A1];refine or_congr ?_ ?_;refine(Zc (l:=i_) (d:=aD.aa) (p:=fun x=>decide (x.2=g.1)&&decide (x.1=j8 c g))).trans ?_;simp only[kk,b_];dsimp only;split;rename_i h;simp only[b_]at h|-;exact⟨fun a=>⟨h,a⟩,fun a=>a.2⟩;rename_i h;simp only[b_]at h|-;exact⟨fun a=>(by cases a),fun a=>absurd a.1 h⟩
 constructor;rintro⟨a,r,⟨s,e⟩,u⟩;refine⟨a,r,fun x f=>e_ (s x f),?_,fun g m=> ?_⟩;rw[<-mO (d:=aD.aa)];intro i o j q;have:=cA.1 (cA.1 e i (by omega) o) j (by omega) q;simpa using this;have:=u g m;simp only[kk,b_,b]at this;exact⟨this.1.1,this.1.2.1,this.1.2.2,this.2⟩;rintro⟨a,r,s,e,u⟩;refine⟨a,r,⟨fun x f=>c_ (s x f),?_⟩,fun g m=> ?_⟩;rw[<-mO (d:=aD.aa)]at e;refine cA.2 fun i _ o=>cA.2 fun j _ q=> ?_;simpa using e i o j q;have:=u g m;simp only[kk,b_,b];exact⟨⟨this.1,this.2.1,this.2.2.1⟩,this.2.2.2⟩
theorem M4{k:Nat}{c:bo}{ti j_ gr nn:Int}{st:List aq}{m_:List bU}{k_ l_:List ae}{f_:List au}{i_:List aC}{n_:List bY}{h_:List aE}{g_:List ax}(g:h_.length=5):
 sL k (c,ti,j_,st,m_,k_,gr,f_,nn,i_,n_,l_,h_,g_)=true↔uN k st h_ gr:=by
 unfold sL vV Hj;simp only[kk,cA,beq_iff_eq,g,bw,b_,decide_eq_decide];constructor;rintro⟨d,e,f⟩;exact⟨fun q b j a=>d q (by omega) b j (by omega) a,fun j a=>by have:=e j (by omega) a;rw[this];simp,f⟩;rintro⟨d,e,f⟩;refine⟨fun q _ b j _ a=>d q b j a,fun j _ a=> ?_,f⟩;rw[Bool.eq_iff_iff,e j a];simp
theorem cr{k:Nat}{c:bo}{ti j_ gr nn:Int}{st:List aq}{m_:List bU}{k_ l_:List ae}{f_:List au}{i_:List aC}{n_:List bY}{h_:List aE}{g_:List ax}:
 cw k (c,ti,j_,st,m_,k_,gr,f_,nn,i_,n_,l_,h_,g_)=true↔Rt k c ti j_ st m_ k_ gr f_ nn i_ l_ h_ g_:=by
 unfold cw oe sS ns cx zq;simp only[kk,b_,WG]
 rw[eA (d:=ab.aa) (p:=da),eA (d:=ab.aa) (p:=bB),eA (d:=ab.aa) (p:=bB),eA (d:=bp.aa) (p:=ij),
  eA (l:=g_) (d:=ay.aa) (p:=fun d=>qY k (c,ti,j_,st,m_,k_,gr,f_,nn,i_,n_,l_,h_,g_) d)]
 have hw:bw j_ 0 99899=true↔0<=j_/\j_<=99899:=by unfold bw;simp
 have s:(∀d∈g_,qY k (c,ti,j_,st,m_,k_,gr,f_,nn,i_,n_,l_,h_,g_) d=true)↔uF k ti g_:=by
  unfold uF qY;simp only[kk,b_]
 have u:(∀a∈dN (cK st),da a=true)↔∀a∈cK st,da a=true:=by
  constructor;intro h a e;exact h a (Ra.2 e);intro h a e;exact h a (Ra.1 e)
 have r:∀b:h_.length=5,bL 0 h_.length (fun i=>eF k (c,ti,j_,st,m_,k_,gr,f_,nn,i_,n_,l_,h_,g_) (h_.getD i al.aa) (qA (c,ti,j_,st,m_,k_,gr,f_,nn,i_,n_,l_,h_,g_) (h_.getD i al.aa)) i)=true↔Y8 k c.1 st nn h_ g_:=by
  intro b;rw[cA,b];exact⟨fun h i f=>h i (by omega) f,fun h i _ f=>h i f⟩
 rw[hw,s,u];constructor;rintro⟨g,j,m,o,⟨q,h6,h7,h8⟩,h9,Ca,Dl,qQ,FF,Sy,Nc,Wg,Vi⟩;have b:h_.length=5:=by omega
 exact⟨g,j,m,o,⟨q,h6,h7,h8⟩,⟨h9,FF,Dl,qQ⟩,Sy,b,(r b).1 Nc,(M4 b).1 Wg,Vi⟩;rintro⟨g,j,m,o,⟨q,h6,h7,h8⟩,⟨h9,FF,Dl,qQ⟩,Sy,b,Nc,Wg,Vi⟩;exact⟨g,j,m,o,⟨q,h6,h7,h8⟩,h9,by show(h_.length:Int)=5;omega,Dl,qQ,FF,Sy,(r b).2 Nc,(M4 b).2 Wg,Vi⟩
structure il(i:Nat)(st st':List aq):Prop where
 len:st'.length=st.length
 pt:∀p,p<st.length->(st'.getD p aj.aa).2=(st.getD p aj.aa).2\/((st.getD p aj.aa).1=(i:Int)/\(st.getD p aj.aa).2.1<(st'.getD p aj.aa).2.1)
structure fi(i:Nat)(l l':List ax):Prop where
 len:l.length<=l'.length
 at_:∀n,n<l.length->¬(l.getD n ay.aa).2.1=(i:Int)->l'.getD n ay.aa=l.getD n ay.aa
theorem vK{st:List aq}{t:aE}:fk st t=true↔(∀i,i<t.2.2.2.2.2.1.length->t.2.2.2.2.2.1.getD i 0<=(st.getD i aj.aa).2.1)/\
 ((∀i,i<t.2.2.2.2.2.1.length->t.2.2.2.2.2.1.getD i 0=(st.getD i aj.aa).2.1)->(st.take t.2.2.2.2.2.1.length).flatMap aU=t.2.2.2.2.2.2.1):=by
 unfold fk Pa;rw[kk,cA,A1,ajS,<-aj9];unfold lV;rw[cA];simp only[ajS,d_,b_];refine and_congr ⟨fun h i a=>by have:=h i (by omega) a;omega,fun h i _ a=>by have:=h i a;omega⟩ ?_;constructor;rintro(h|h) g;exact absurd (fun i _ a=>g i a) h;exact h;intro h;by_cases g:∀i,i<t.2.2.2.2.2.1.length->t.2.2.2.2.2.1.getD i 0=(st.getD i aj.aa).2.1;exact .inr (h g);exact .inl fun b=>g fun i a=>b i (by omega) a
theorem K0{st a:List aq}{n:Nat}(e:a.length=st.length)(h:∀p,p<n->p<st.length->(a.getD p aj.aa).2=(st.getD p aj.aa).2):
 (a.take n).flatMap aU=(st.take n).flatMap aU:=by
 rw[aj8,aj8];congr 1;apply akm (by simp[e]);intro p b d;simp only[List.length_map,ajP]at b d;have:=h p (by omega) (by omega);rw[cC _ (by omega),cC _ (by omega)]at this;simp only[List.getElem_map,ajT];unfold aU;rw[this]
theorem CF{i:Nat}{st d:List aq}{t:aE}(hs:il i st d)(hl:t.2.2.2.2.2.1.length<=st.length)(h:fk st t=true):fk d t=true:=by
 rw[vK]at h|-
 have f:∀p,p<st.length->(st.getD p aj.aa).2.1<=(d.getD p aj.aa).2.1:=by
  intro p a;rcases hs.pt p a with e|e;rw[e];exact p_ _;omega
 refine⟨fun p a=>Int.le_trans (h.1 p a) (f p (by omega)),fun g=> ?_⟩
 have b:∀p,p<t.2.2.2.2.2.1.length->(d.getD p aj.aa).2=(st.getD p aj.aa).2:=by
  intro p a;rcases hs.pt p (by omega)with e|e;exact e;have:=g p a;have:=h.1 p a;omega
 rw[K0 hs.len (fun p a _=>b p a)];exact h.2 fun p a=>by rw[g p a,b p a]
theorem FK{k:Nat}{c1 nn m b e n:Int}{st a:List aq}{t:aE}{d:ax}(h:cQ k c1 st nn m t d n=true)(hm:m<=e)(hn:nn<=b)
 (hput:t.1=1->t.2.1=2->cj k a t.2.2.1.1=cj k st t.2.2.1.1) (hsee:t.1=3->fk st t=true->fk a t=true):cQ k c1 a b e t d n=true:=by
 unfold cQ uZ at*
 grind
theorem SK{k:Nat}{c1 nn m n:Int}{st:List aq}{t:aE}{d:ax}(h:cQ k c1 st nn m t d n=true)(hc:(st.length:Int)=c1)(h3:t.1=3):t.2.2.2.2.2.1.length<=st.length:=by
 unfold cQ uZ eC bw at h;grind
theorem DE{k:Nat}{c1 nn m n:Int}{st:List aq}{t:aE}{d:ax}(h:cQ k c1 st nn m t d n=true)(h0:¬t.1=0):d.2.1=n/\0<=bC t/\bC t<m:=by
 unfold cQ eC bw at h;unfold bC;grind
theorem Ib{k:Nat}{c1 nn m n a e:Int}{st b:List aq}{t:aE}{d d':ax}(h:cQ k c1 st nn m t d n=true)(h0:t.1=0):cQ k c1 b a e t d' n=true:=by
 unfold cQ at*
 grind
theorem Xq{k:Nat}{c1 nn d gr:Int}{st f:List aq}{h_:List aE}{g_ a:List ax}{i:Nat}{t':aE}(hi:i<5)(tl:h_.length=5)(hc:(st.length:Int)=c1)(v:st.length≠0)
 (w:uN k st h_ gr) (h:Y8 k c1 st nn h_ g_) (hs:il i st f) (x:nn<=d) (l:fi i g_ a)
 (y:cQ k c1 f d (a.length:Int) t' (a.getD (bC t').toNat ay.aa) (i:Int)=true):Y8 k c1 f d (h_.set i t') a:=by
 intro j g;by_cases e:i=j;subst e;rw[aT _ _ (by omega)];exact y;rw[getD_set_ne _ _ e];have b:=h j g;by_cases m:(h_.getD j al.aa).1=0;exact Ib b m;obtain⟨z,b2,b3⟩:=DE b m;rw[l.at_ _ (by omega) (by rw[z];omega)];refine FK b (by have:=l.len;omega) x (fun p q=> ?_) (fun r u=>CF hs (SK b hc r) u);refine RG hs.len ?_;obtain⟨g1,g2⟩:=km (k:=k) (s:=(h_.getD j al.aa).2.2.1.1) v
 have hold:bA k (h_.getD j al.aa) st.length=((bF k st (h_.getD j al.aa).2.2.1.1).toNat:Int):=by
  unfold bA;rw[a_ (by omega),an ⟨p,.inr q⟩,g2];rfl
 have hh:=(w.pt _ g1 j g).1 hold;rcases hs.pt _ g1 with o|o;rw[o];omega
theorem zy{k:Nat}{gr l:Int}{st f:List aq}{h_:List aE}{i:Nat}{t t':aE}(hi:i<5)(tl:h_.length=5)(m:uN k st h_ gr)(v:h_.getD i al.aa=t)(w:f.length=st.length)
 (x:∀q,q<st.length->(f.getD q aj.aa).1=if bA k t' st.length=(q:Int)then(i:Int)else if bA k t st.length=(q:Int)then-1 else(st.getD q aj.aa).1)
 (y:∀q,q<st.length->bA k t' st.length=(q:Int)->bA k t st.length=(q:Int)\/(st.getD q aj.aa).1= -1)
 (p:l=if dj t'=true then(i:Int)else if dj t=true then-1 else gr) (r:dj t'=true->dj t=true\/gr= -1):uN k f (h_.set i t') l:=by
 subst v;refine⟨fun q g j o=> ?_,fun j o=> ?_,?_⟩;rw[w]at g|-;have s:=m.pt q g j o;have d:=m.pt q g i hi;have u:=x q g;have z:=y q g;by_cases e:i=j;subst e;rw[aT _ _ (by omega),u];by_cases b:bA k t' st.length=(q:Int)
 simp[b];rw[a_ b];by_cases a:bA k (h_.getD i al.aa) st.length=(q:Int)
 rw[an a];constructor;intro h;exact absurd h b;intro h;omega;rw[a_ a];constructor;intro h;exact absurd h b;intro h;exact absurd (d.2 h) a;rw[getD_set_ne _ _ e,u,s];by_cases b:bA k t' st.length=(q:Int)
 rw[an b];rcases z b with a|a;have:=d.1 a;omega;omega;rw[a_ b];by_cases a:bA k (h_.getD i al.aa) st.length=(q:Int)
 rw[an a];have:=d.1 a;omega;rw[a_ a];have s:=m.gp j o;have d:=m.gp i hi;by_cases e:i=j;subst e;rw[aT _ _ (by omega),p];by_cases b:dj t'=true;simp[b];rw[a_ b];by_cases a:dj (h_.getD i al.aa)=true;rw[an a];constructor;intro h;exact absurd h b;intro h;omega;rw[a_ a];constructor;intro h;exact absurd h b;intro h;exact absurd (d.2 h) a;rw[getD_set_ne _ _ e,p,s];by_cases b:dj t'=true;rw[an b];rcases r b with a|a;have:=d.1 a;omega;omega;rw[a_ b];by_cases a:dj (h_.getD i al.aa)=true;rw[an a];have:=d.1 a;omega;rw[a_ a];have:=m.gr;rw[p];split;omega;split<;>omega
/-! g_-/
theorem uF.up{k:Nat}{ti a:Int}{l:List ax}(h:uF k ti l)(ht:ti<=a):uF k a l:=fun d o=>by
 have:=h d o;exact⟨this.1,by omega,by omega,by omega⟩
theorem uF.app{k:Nat}{ti:Int}{l:List ax}{d:ax}(h:uF k ti l)(o:gz k d=true/\d.2.2.2.2.2.2.2.2.2.1<ti/\d.2.2.2.2.2.2.2.2.2.2.1<ti/\d.2.2.2.2.2.2.2.2.2.2.2<ti):uF k ti (l++[d]):=fun x a=>by
 rcases u0.1 a with a|a;exact h x a;rw[sd.1 a];exact o
theorem uF.put{k:Nat}{ti:Int}{l:List ax}{d:ax}{n:Nat}(h:uF k ti l)(o:gz k d=true/\d.2.2.2.2.2.2.2.2.2.1<ti/\d.2.2.2.2.2.2.2.2.2.2.1<ti/\d.2.2.2.2.2.2.2.2.2.2.2<ti):uF k ti (l.set n d):=fun x a=>by
 rcases Q_ a with a|rfl;exact h x a;exact o
theorem fi.refl(i:Nat)(l:List ax):fi i l l:=⟨J1 _,fun _ _ _=>rfl⟩
theorem fi.app(i:Nat)(l:List ax)(d:ax):fi i l (l++[d]):=⟨by simp,fun n a _=>by
 rw[Z_,aj0 a,<-Z_]⟩
theorem fi.put{i:Nat}{l:List ax}{n:Nat}{d:ax}(h:(l.getD n ay.aa).2.1=(i:Int)):fi i l (l.set n d):=⟨by simp,fun m hm a=>by
 by_cases e:n=m;subst e;exact absurd h a;rw[getD_set_ne _ _ e]⟩
theorem fi.trans{i:Nat}{l q o:List ax}(h:fi i l q)(u:fi i q o):fi i l o:=⟨S_ h.len u.len,fun n p a=>by
 rw[<-h.at_ n p a];exact u.at_ n (Nat.lt_of_lt_of_le p h.len) (by rw[h.at_ n p a];exact a)⟩
theorem il.refl(i:Nat)(st:List aq):il i st st:=⟨rfl,fun _ _=> .inl rfl⟩
theorem il.held(i:Nat)(st:List aq)(j:Nat)(x:Int):il i st (cH st j x):=by
 refine⟨by simp[cH],fun p a=> .inl ?_⟩;unfold cH;by_cases e:j=p;subst e;rw[aT _ _ a];rw[getD_set_ne _ _ e]
theorem qF{k:Nat}{c1 nn m:Int}{st:List aq}{d:ax}{i:Nat}(hi:i<5):cQ k c1 st nn m zT d (i:Int)=true:=by
 unfold cQ eC bw;have a:decide ((0:Int)<=(i:Int))=true:=c_ (by omega);have b:decide ((i:Int)<=4)=true:=c_ (by omega);simp[a,b,zT]
theorem DR{k:Nat}{op i n j_ ti:Int}{a:ae}{l:List af}(ho:1<=op/\op<=9)(hi: -1<=i/\i<=4)(hn:0<=n)(hw:0<=j_)(ht:0<=ti):
 gz k (op,i,a,l,0,n,0,[],j_,ti,-1,-1)=true:=by
 unfold gz bw;simp;omega
theorem pR{k:Nat}{s x:Bool}{d:ax}{j_ ti code:Int}{got:List ae}(h:gz k d=true)(hw:0<=j_)(h1:d.2.2.2.2.2.2.2.2.2.1<ti)(h2:d.2.2.2.2.2.2.2.2.2.2.1<ti)(ht:0<=ti)(hc:code∈lS d.1):
 gz k (fv s x d j_ ti code got)=true/\(fv s x d j_ ti code got).2.2.2.2.2.2.2.2.2.1<ti+1/\(fv s x d j_ ti code got).2.2.2.2.2.2.2.2.2.2.1<ti+1/\(fv s x d j_ ti code got).2.2.2.2.2.2.2.2.2.2.2<ti+1:=by
 obtain⟨op,task,a,l,i,n,cd,gt,nw,inv,b,res⟩:=d;unfold fv rD YV xc AD rH dH;unfold gz bw at*
 simp only[kk,A1,b_]at*
 by_cases e:b= -1;subst e;cases s<;>cases x<;>simp[hc]<;>omega;cases s<;>cases x<;>simp[e]at h|-<;>(refine⟨⟨?_,h.2⟩,?_,?_⟩<;>omega)
theorem sW{ti:Int}(h0:0<=ti)(h:ti<4611686018427387904):tick ti=ti+1:=by
 unfold tick;rw[wrap64 (by omega) (by omega)]
theorem dI{k:Nat}{t:aE}{n:Int}(h:t.2.1=0\/t.1=0\/5<=t.1\/(t.1=3/\t.2.1=2)):bA k t n= -1:=by
 unfold bA;grind
theorem rT{k:Nat}{t:aE}{st:List aq}(a:st.length≠0)(h:t.1=1)(b:t.2.1=1\/t.2.1=2):bA k t st.length=((bF k st t.2.2.1.1).toNat:Int):=by
 rw[(km a).2];unfold bA;rw[a_ (by omega),an ⟨h,b⟩];rfl
theorem AL{k:Nat}{t:aE}{st:List aq}(a:st.length≠0)(h:t.1=2)(b:t.2.1=1):bA k t st.length=((bF k st t.2.2.2.1).toNat:Int):=by
 rw[(km a).2];unfold bA;rw[a_ (by omega),a_ (by omega),an ⟨h,b⟩];rfl
theorem Aj{k:Nat}{t:aE}{st:List aq}(h0:st.length≠0)(h:t.1=3\/t.1=4)(a:t.2.1=1):bA k t st.length=t.2.2.2.2.1:=by
 unfold bA;rw[a_ (by omega),a_ (by omega),a_ (by omega),an ⟨h,a⟩]
theorem gb{t:aE}(h:t.1<5\/t.2.1=0):dj t=false:=by
 unfold dj;have:¬((t.1=5\/t.1=6)/\t.2.1=1):=by omega
 simpa using this
theorem jy{k:Nat}{c1 nn m n:Int}{st:List aq}{t:aE}{d:ax}(a:t.1=1):cQ k c1 st nn m t d n=true↔
 (0<=n/\n<3/\0<=t.2.2.2.2.2.2.2.2/\0<=t.2.1/\t.2.1<=2/\bB t.2.2.1=true/\t.2.2.2.1=[]/\t.2.2.2.2.1=0/\t.2.2.2.2.2.1=[]/\t.2.2.2.2.2.2.1=[]/\t.2.2.2.2.2.2.2.1=0)/\
 t.2.2.2.2.2.2.2.2<m/\d.2.1=n/\d.2.2.2.2.2.2.2.2.2.2.2= -1/\(¬d.2.2.2.2.2.2.2.2.2.2.1= -1↔t.2.1=2)/\d.1=1/\
 (if t.2.1=2 then d.2.2.1.1=t.2.2.1.1/\(cj k st t.2.2.1.1).2=true/\(cj k st t.2.2.1.1).1=t.2.2.1 else d.2.2.1=t.2.2.1/\da t.2.2.1=true):=by
 unfold cQ uZ eC bw rl;by_cases b:t.2.1=2;simp only[a,b,if_true,kk,A1,b_];grind;simp only[a,b,if_true,if_false,kk,A1,b_];grind
theorem qN{k:Nat}{c1 nn m n:Int}{st:List aq}{t:aE}{d:ax}(a:t.1=2):cQ k c1 st nn m t d n=true↔
 (0<=n/\n<3/\0<=t.2.2.2.2.2.2.2.2/\0<=t.2.1/\t.2.1<=1/\t.2.2.1=cW/\eo t.2.2.2.1=true/\t.2.2.2.2.1=0/\t.2.2.2.2.2.1=[]/\t.2.2.2.2.2.2.1=[]/\t.2.2.2.2.2.2.2.1=0)/\
 t.2.2.2.2.2.2.2.2<m/\d.2.1=n/\d.2.2.2.2.2.2.2.2.2.2.2= -1/\d.2.2.2.2.2.2.2.2.2.2.1= -1/\d.1=3/\d.2.2.2.1=t.2.2.2.1:=by
 unfold cQ uZ eC bw rl;simp only[a,if_true,if_false,kk,A1,b_];grind
theorem iF{k:Nat}{c1 nn m n:Int}{st:List aq}{t:aE}{d:ax}(a:t.1=3):cQ k c1 st nn m t d n=true↔
 (0<=n/\n<3/\0<=t.2.2.2.2.2.2.2.2/\0<=t.2.1/\t.2.1<=2/\t.2.2.1=cW/\t.2.2.2.1=[]/\om t.2.2.2.2.2.1=true/\(t.2.2.2.2.2.1.length:Int)=t.2.2.2.2.1/\cx t.2.2.2.2.2.2.1=true/\t.2.2.2.2.2.2.2.1=0)/\
 t.2.2.2.2.2.2.2.2<m/\d.2.1=n/\d.2.2.2.2.2.2.2.2.2.2.2= -1/\d.2.2.2.2.2.2.2.2.2.2.1= -1/\d.1=4/\fk st t=true/\
 (if t.2.1=2 then 1<=t.2.2.2.2.1/\t.2.2.2.2.1<=3/\t.2.2.2.2.1=c1 else 0<=t.2.2.2.2.1/\t.2.2.2.2.1<=2/\t.2.2.2.2.1<c1):=by
 unfold cQ uZ eC bw rl;by_cases b:t.2.1=2;simp only[a,b,if_true,if_false,kk,A1,b_];grind;simp only[a,b,if_true,if_false,kk,A1,b_];grind
theorem jB{k:Nat}{c1 nn m n:Int}{st:List aq}{t:aE}{d:ax}(a:t.1=4):cQ k c1 st nn m t d n=true↔
 (0<=n/\n<3/\0<=t.2.2.2.2.2.2.2.2/\0<=t.2.1/\t.2.1<=1/\t.2.2.1=cW/\t.2.2.2.1=[]/\0<=t.2.2.2.2.1/\t.2.2.2.2.1<=2/\t.2.2.2.2.2.1=[]/\t.2.2.2.2.2.2.1=[]/\t.2.2.2.2.2.2.2.1=0)/\
 t.2.2.2.2.2.2.2.2<m/\d.2.1=n/\d.2.2.2.2.2.2.2.2.2.2.2= -1/\d.2.2.2.2.2.2.2.2.2.2.1= -1/\d.1=6/\t.2.2.2.2.1<c1:=by
 unfold cQ uZ eC bw rl;simp only[a,if_true,if_false,kk,A1,b_];grind
theorem kE{k:Nat}{c1 nn m n:Int}{st:List aq}{t:aE}{d:ax}(a:t.1=5):cQ k c1 st nn m t d n=true↔
 (n=3/\0<=t.2.2.2.2.2.2.2.2/\0<=t.2.1/\t.2.1<=1/\bB t.2.2.1=true/\t.2.2.2.1=[]/\t.2.2.2.2.1=0/\t.2.2.2.2.2.1=[]/\t.2.2.2.2.2.2.1=[]/\t.2.2.2.2.2.2.2.1=0)/\
 t.2.2.2.2.2.2.2.2<m/\d.2.1=n/\d.2.2.2.2.2.2.2.2.2.2.2= -1/\d.2.2.2.2.2.2.2.2.2.2.1= -1/\d.1=7/\d.2.2.1=t.2.2.1:=by
 unfold cQ uZ eC bw rl;simp only[a,if_true,if_false,kk,A1,b_];grind
theorem iG{k:Nat}{c1 nn m n:Int}{st:List aq}{t:aE}{d:ax}(a:t.1=6):cQ k c1 st nn m t d n=true↔
 (n=4/\0<=t.2.2.2.2.2.2.2.2/\0<=t.2.1/\t.2.1<=1/\t.2.2.1=cW/\t.2.2.2.1=[]/\t.2.2.2.2.1=0/\t.2.2.2.2.2.1=[]/\t.2.2.2.2.2.2.1=[]/\0<=t.2.2.2.2.2.2.2.1)/\
 t.2.2.2.2.2.2.2.2<m/\d.2.1=n/\d.2.2.2.2.2.2.2.2.2.2.2= -1/\d.2.2.2.2.2.2.2.2.2.2.1= -1/\d.1=8/\d.2.2.2.2.2.1=t.2.2.2.2.2.2.2.1/\t.2.2.2.2.2.2.2.1<nn:=by
 unfold cQ uZ eC bw rl;simp only[a,if_true,if_false,kk,A1,b_];grind
section
variable{k:Nat}{c:bo}{ti j_ gr nn:Int}{st:List aq}{m_:List bU}{k_ l_:List ae}{f_:List au}{i_:List aC}{n_:List bY}{h_:List aE}{g_:List ax}{i:Nat}{t:aE}
theorem Z2{j:Nat}{t':aE}(hi:i<5)(b:h_.length=5)(d:uN k st h_ gr)(f:h_.getD i al.aa=t)(h0:bA k t st.length= -1)(g:bA k t' st.length=(j:Int))(hj:j<st.length)
 (l:(st.getD j aj.aa).1= -1) (g0:dj t=false) (g1:dj t'=false):uN k (cH st j (i:Int)) (h_.set i t') gr:=by
 refine zy hi b d f (by simp[cH]) (fun q a=> ?_) (fun q a hh=> ?_) (by rw[g0,g1];rfl) (by rw[g1];intro h;cases h);unfold cH;by_cases e:j=q;subst e;rw[aT _ _ a,an g];rw[getD_set_ne _ _ e,a_ (by omega),a_ (by omega)];have:j=q:=by omega
 subst this;exact .inr l
theorem Ad{j:Nat}{t':aE}{a:List aq}(hi:i<5)(f:h_.length=5)(g:uN k st h_ gr)(l:h_.getD i al.aa=t)(m:bA k t st.length=(j:Int))(h1:bA k t' st.length= -1)(o:a.length=st.length)
 (p:(a.getD j aj.aa).1= -1) (d:∀q,q<st.length->¬j=q->(a.getD q aj.aa).1=(st.getD q aj.aa).1) (g0:dj t=false) (g1:dj t'=false):uN k a (h_.set i t') gr:=by
 refine zy hi f g l o (fun q b=> ?_) (fun q d hh=>by omega) (by rw[g0,g1];rfl) (by rw[g1];intro h;cases h);rw[a_ (by omega)];by_cases e:j=q;subst e;rw[an m,p];rw[a_ (by omega),d q b e]
theorem zU{t':aE}{a:List aq}(hi:i<5)(l:h_.length=5)(d:uN k st h_ gr)(m:h_.getD i al.aa=t)(g:bA k t' st.length=bA k t st.length)(o:a.length=st.length)
 (f:∀q,q<st.length->(a.getD q aj.aa).1=(st.getD q aj.aa).1) (g1:dj t'=dj t):uN k a (h_.set i t') gr:=by
 subst m;refine zy hi l d rfl o (fun q b=> ?_) (fun q f j=> .inl (by rw[<-g];exact j)) ?_ (fun h=> .inl (by rw[<-g1];exact h));rw[g,f q b];by_cases e:bA k (h_.getD i al.aa) st.length=(q:Int)
 rw[an e,(d.pt q b i hi).1 e];rw[a_ e,a_ e];rw[g1];by_cases e:dj (h_.getD i al.aa)=true;rw[an e,(d.gp i hi).1 e];rw[a_ e,a_ e]
theorem Xv{t':aE}(hi:i<5)(b:h_.length=5)(d:uN k st h_ gr)(e:h_.getD i al.aa=t)(h0:bA k t st.length= -1)(h1:bA k t' st.length= -1)
 (f:gr= -1) (g1:dj t'=true):uN k st (h_.set i t') (i:Int):=by
 refine zy hi b d e rfl (fun q a=> ?_) (fun q a hh=>by omega) (by rw[g1];rfl) (fun _=> .inr f);rw[a_ (by omega),a_ (by omega)]
theorem Pj{t':aE}(hi:i<5)(b:h_.length=5)(d:uN k st h_ gr)(e:h_.getD i al.aa=t)(h0:bA k t st.length= -1)(h1:bA k t' st.length= -1)
 (g0:dj t=true) (g1:dj t'=false):uN k st (h_.set i t') (-1):=by
 refine zy hi b d e rfl (fun q a=> ?_) (fun q a hh=>by omega) (by rw[g0,g1];rfl) (by rw[g1];intro h;cases h);rw[a_ (by omega),a_ (by omega)]
theorem Gp{j:Nat}{x:Int}(a:j<st.length):((cH st j x).getD j aj.aa).1=x:=by
 unfold cH;rw[aT _ _ a]
theorem xY{j q:Nat}{x:Int}(h:¬j=q):((cH st j x).getD q aj.aa).1=(st.getD q aj.aa).1:=by
 unfold cH;rw[getD_set_ne _ _ h]
theorem Em.held{j:Nat}{x:Int}(h:Em k c st)(a:j<st.length)(o: -1<=x/\x<=4):Em k c (cH st j x):=
 ⟨Zl h.ok a o,by rw[<-h.len];simp[cH],by unfold bm;rw[Ha];exact h.cap,by rw[Ha];exact h.fit⟩
theorem iU{t':aE}{d:List aq}{f:List bU}{g j:List ae}{o m:Int}{b:List au}{l:List aC}{a:List ax}
 (h:Rt k c ti j_ st m_ k_ gr f_ nn i_ l_ h_ g_) (w:ti<4611686018427387904) (hi:i<5) (p:Em k c d) (q:Av c f g j) (r:uF k (ti+1) a) (hrel:il i st d)
 (s:fi i g_ a) (x:nn<=m) (y:cQ k c.1 d m (a.length:Int) t' (a.getD (bC t').toNat ay.aa) (i:Int)=true) (u:uN k d (h_.set i t') o)
 (v:wM c j_ b m l ((h_.set i t').getD 4 al.aa)):Rt k c (tick ti) j_ d f g o b m l j (h_.set i t') a:=by
 have z:=iK h.sto.ok;have e:=sW h.ti0 w
 exact⟨h.cf,by have:=h.ti0;omega,by have:=h.nn0;omega,h.nw,p,q,by rw[e];exact r,by simp[h.tl],
  Xq hi h.tl h.sto.len z h.loc h.tas hrel x s y,u,v⟩
theorem wM.other{t':aE}(h:wM c j_ f_ nn i_ (h_.getD 4 al.aa))(hi:¬i=4):wM c j_ f_ nn i_ ((h_.set i t').getD 4 al.aa):=by
 rw[getD_set_ne _ _ hi];exact h
theorem UE{c1 m n:Int}{st a:List aq}{t:aE}{d:ax}(h:cQ k c1 st nn m t d n=true)(b:t.2.1=0)(ho:1<=t.1/\t.1<=4)(hs:t.1=3->fk st t=true->fk a t=true):
 cQ k c1 a nn m (t.1,1,t.2.2) d n=true:=by
 obtain h1|h1|h1|h1:t.1=1\/t.1=2\/t.1=3\/t.1=4:=by omega
 have q:=(jy h1).1 h;rw[a_ (by omega)]at q;refine(jy (t:=(t.1,1,t.2.2)) h1).2 ?_;rw[a_ (by show¬(1:Int)=2;omega)];exact⟨⟨q.1.1,q.1.2.1,q.1.2.2.1,(show(0:Int)<=1 by decide),(show(1:Int)<=2 by decide),q.1.2.2.2.2.2⟩,q.2.1,q.2.2.1,q.2.2.2.1,q.2.2.2.2.1.trans (by rw[b];exact(show((0:Int)=2↔(1:Int)=2) by decide)),q.2.2.2.2.2⟩;have q:=(qN h1).1 h;exact(qN (t:=(t.1,1,t.2.2)) h1).2 ⟨⟨q.1.1,q.1.2.1,q.1.2.2.1,(show(0:Int)<=1 by decide),(show(1:Int)<=1 by decide),q.1.2.2.2.2.2⟩,q.2⟩;have q:=(iF h1).1 h;rw[a_ (by omega)]at q;refine(iF (t:=(t.1,1,t.2.2)) h1).2 ?_;rw[a_ (by show¬(1:Int)=2;omega)];exact⟨⟨q.1.1,q.1.2.1,q.1.2.2.1,(show(0:Int)<=1 by decide),(show(1:Int)<=2 by decide),q.1.2.2.2.2.2⟩,q.2.1,q.2.2.1,q.2.2.2.1,q.2.2.2.2.1,q.2.2.2.2.2.1,hs h1 q.2.2.2.2.2.2.1,q.2.2.2.2.2.2.2⟩;have q:=(jB h1).1 h;exact(jB (t:=(t.1,1,t.2.2)) h1).2 ⟨⟨q.1.1,q.1.2.1,q.1.2.2.1,(show(0:Int)<=1 by decide),(show(1:Int)<=1 by decide),q.1.2.2.2.2.2⟩,q.2⟩
theorem EG{j:Nat}(h:Rt k c ti j_ st m_ k_ gr f_ nn i_ l_ h_ g_)(a:ti<4611686018427387904)(hi:i<3)(e:h_.getD i al.aa=t)(m:1<=t.1/\t.1<=4)(b:t.2.1=0)
 (o:bA k (t.1,1,t.2.2) st.length=(j:Int)) (f:j<st.length) (p:(st.getD j aj.aa).1= -1):
 Rt k c (tick ti) j_ (cH st j (i:Int)) m_ k_ gr f_ nn i_ l_ (h_.set i (t.1,1,t.2.2)) g_:=by
 have d:=h.tas i (by omega);rw[e]at d;have q:=SK d h.sto.len
 exact iU h a (by omega) (h.sto.held f (by omega)) h.sub (h.dee.up (by omega)) (il.held i st j i) (fi.refl i g_) (p_ _)
  (UE d b m fun g l=>CF (il.held i st j i) (q g) l)
  (Z2 (by omega) h.tl h.loc e (dI (.inl b)) o f p (gb (.inr b)) (gb (.inl (by show t.1<5;omega)))) (h.grp.other (by omega))
theorem eX(h:Rt k c ti j_ st m_ k_ gr f_ nn i_ l_ h_ g_)(hi:i<5)(f:h_.getD i al.aa=t)(g:¬t.1=0):
 cQ k c.1 st nn (g_.length:Int) t (g_.getD (bC t).toNat ay.aa) (i:Int)=true/\(bC t).toNat<g_.length/\(g_.getD (bC t).toNat ay.aa).2.1=(i:Int)/\
 gz k (g_.getD (bC t).toNat ay.aa)=true/\(g_.getD (bC t).toNat ay.aa).2.2.2.2.2.2.2.2.2.1<ti/\(g_.getD (bC t).toNat ay.aa).2.2.2.2.2.2.2.2.2.2.1<ti:=by
 have a:=h.tas i hi;rw[f]at a;obtain⟨j,b2,b3⟩:=DE a g;have e:(bC t).toNat<g_.length:=by omega
 have b:=h.dee _ (bR (d:=ay.aa) e);exact⟨a,e,j,b.1,b.2.1,b.2.2.1⟩
theorem Pp{s x:Bool}{j:Nat}{code:Int}{got:List ae}(h:Rt k c ti j_ st m_ k_ gr f_ nn i_ l_ h_ g_)(a:ti<4611686018427387904)(hi:i<3)(b:h_.getD i al.aa=t)(ho:1<=t.1/\t.1<=4)
 (f:bA k t st.length=(j:Int)) (d:j<st.length) (hc:code∈lS (g_.getD (bC t).toNat ay.aa).1):
 Rt k c (tick ti) j_ (cH st j (-1)) m_ k_ gr f_ nn i_ l_ (h_.set i zT) (g_.set (bC t).toNat (fv s x (g_.getD (bC t).toNat ay.aa) j_ ti code got)):=by
 obtain⟨hr,hn,g,l,m,hw⟩:=eX h (by omega) b (by omega)
 exact iU h a (by omega) (h.sto.held d (by omega)) h.sub ((h.dee.up (by omega)).put (pR l h.nw.1 m hw h.ti0 hc)) (il.held i st j (-1)) (fi.put g) (p_ _) (qF (by omega))
  (Ad (by omega) h.tl h.loc b f (dI (.inl rfl)) (by simp[cH]) (Gp d) (fun q _ e=>xY e) (gb (.inl (by omega))) (gb (.inl (by decide)))) (h.grp.other (by omega))
end
theorem xt{k:Nat}{op i j n j_ ti code:Int}{a:ae}{l:List af}{got:List ae}(ho:1<=op/\op<=9)(hi: -1<=i/\i<=4)(hj:0<=j)(hn:0<=n)(hw:0<=j_)(ht:0<=ti)(hc:code∈lS op):
 gz k (op,i,a,l,j,n,code,got,j_,ti,ti,ti)=true:=by
 unfold gz bw;have b:¬ti= -1:=by omega
 simp[b,hc];omega
theorem Z5{a:ae}{s:bU}(e:bB a=true)(hs:ij s=true):ij (tz a s)=true:=by
 unfold tz;split;exact hs;rename_i h;split;unfold ij cx;simp[kY];unfold ij cx at*
 have f:s.2=false:=by simpa using h
 simp only[kk,b_,f,Bool.not_false,Bool.true_or,true_and]at hs|-;rw[eA (d:=ab.aa) (p:=bB)]at hs|-;refine⟨by simp;omega,fun x b=> ?_⟩;rcases u0.1 b with b|b;exact hs.2 x b;rw[sd.1 b];exact e
section
variable{k:Nat}{c:bo}{ti j_ gr nn:Int}{st:List aq}{m_:List bU}{k_ l_:List ae}{f_:List au}{i_:List aC}{n_:List bY}{h_:List aE}{g_:List ax}{i:Nat}{t:aE}
theorem Av.tell{a:ae}(h:Av c m_ k_ l_)(p:bB a=true):Av c (m_.map (tz a)) (k_++[a]) (l_++[a]):=by
 refine⟨by simp[h.len],fun s q=> ?_,fun x o=> ?_,fun x o=> ?_⟩;obtain⟨u,v,rfl⟩:=List.mem_map.1 q;exact Z5 p (h.sub u v);rcases u0.1 o with o|o;exact h.fee x o;rw[sd.1 o];exact p;rcases u0.1 o with o|o;exact h.sai x o;rw[sd.1 o];exact p
theorem ZI{a:ae}{st:List aq}(h:eY k st=true)(l:∀p∈st,p.2.1<4611686018427387904)(m:(st.getD (bF k st a.1).toNat aj.aa).1=(i:Int)):
 il i st (fa k st a).1/\∀q,((fa k st a).1.getD q aj.aa).1=(st.getD q aj.aa).1:=by
 have j:=iK h;obtain⟨g,h2⟩:=km (k:=k) (s:=a.1) j;rw[Aq j];have hp:=(eJ.1 ((cS.1 h).1 _ g)).2.2.2;have hvv:=l _ (bR (d:=aj.aa) g);have e:=GS k (st.getD (bF k st a.1).toNat aj.aa) a;refine⟨⟨by simp,fun p f=> ?_⟩,fun q=> ?_⟩;by_cases b:(bF k st a.1).toNat=p;subst b;refine .inr ⟨m,?_⟩;dsimp only;rw[aT _ _ f,e.1,wrap64 (by omega) (by omega)];omega;exact .inl (by dsimp only;rw[getD_set_ne _ _ b]);dsimp only;by_cases b:(bF k st a.1).toNat=q;subst b;rw[aT _ _ g,e.2];rw[getD_set_ne _ _ b]
theorem VQ(h:Rt k c ti j_ st m_ k_ gr f_ nn i_ l_ h_ g_)(o:ti<4611686018427387904)(H:∀p∈st,p.2.1<4611686018427387904)(hi:i<3)(r:h_.getD i al.aa=t)(m:t.1=1)(L:t.2.1=1)
 (u:uW k c st t.2.2.1=false):
 Rt k c (tick ti) j_ (fa k st t.2.2.1).1 m_ k_ gr f_ nn i_ l_ (h_.set i (t.1,2,(cj k (fa k st t.2.2.1).1 t.2.2.1.1).1,t.2.2.2))
  (g_.set (bC t).toNat (xc (g_.getD (bC t).toNat ay.aa) j_ ti (if(fa k st t.2.2.1).2=true then 1 else 2))):=by
 obtain⟨N,O,P,f,hv1,hw⟩:=eX h (by omega) r (by omega);have I:=(jy m).1 N;rw[a_ (by omega)]at I;obtain⟨⟨q1,q2,q3,q4,q5,q6,Q,R,S,A,B⟩,C,D,j,E,l,F,G⟩:=I;have v:=iK h.sto.ok;obtain⟨g1,g2⟩:=km (k:=k) (s:=t.2.2.1.1) v;have a:=rT (k:=k) v m (.inl L);have d:=(h.loc.pt _ g1 i (by omega)).1 (by rw[r];exact a);obtain⟨T,J,U,K,V⟩:=PZ h.sto.ok G H;obtain⟨W,X⟩:=ZI (i:=i) h.sto.ok H d;obtain⟨f1,f2⟩:=Fo K;have b:=V h.sto.fit
 have hlin:(g_.getD (bC t).toNat ay.aa).2.2.2.2.2.2.2.2.2.2.1= -1:=by
  by_cases e:(g_.getD (bC t).toNat ay.aa).2.2.2.2.2.2.2.2.2.2.1= -1;exact e;have:=E.1 e;omega
 have g:Em k c (fa k st t.2.2.1).1:=by
  refine⟨T,by rw[J];exact h.sto.len,?_,b⟩;have hc:=h.sto.cap;rw[U,NG h.sto.ok];unfold uW at u;cases w:(cj k st t.2.2.1.1).2;rw[w]at u;have:¬c.2.1<=(bm st:Int):=by simpa using u
  simp;omega;simp[hc]
 refine iU h o (by omega) g h.sub ((h.dee.up (by omega)).put ?_) W (fi.put P) (p_ _) ?_ ?_ (h.grp.other (by omega));unfold xc;dsimp only;refine⟨?_,by omega,by omega,by omega⟩;have x:=h.nw;have y:=h.ti0;unfold gz bw at f|-;simp only[kk,A1,b_]at f|-
 have z:(if(fa k st t.2.2.1).2=true then(1:Int)else 2)∈lS (g_.getD (bC t).toNat ay.aa).1:=by
  rw[l];split<;>decide
 rw[a_ (by omega),b_];exact⟨⟨⟨⟨⟨⟨⟨⟨f.1.1.1.1.1.1.1.1,f.1.1.1.1.1.1.1.2⟩,f.1.1.1.1.1.1.2⟩,f.1.1.1.1.1.2⟩,f.1.1.1.1.2⟩,x.1⟩,.inr (by omega)⟩,.inl j⟩,z⟩;refine(jy (t:=(t.1,2,(cj k (fa k st t.2.2.1).1 t.2.2.1.1).1,t.2.2.2)) m).2 ?_;have M:bC (t.1,(2:Int),(cj k (fa k st t.2.2.1).1 t.2.2.1.1).1,t.2.2.2)=bC t:=rfl;rw[an rfl,M,aT _ _ O];dsimp only;unfold xc;dsimp only;rw[R_,f1];have y:=h.ti0;exact⟨⟨q1,q2,q3,by omega,by omega,gL (b _ f2),Q,R,S,A,B⟩,C,D,j,⟨fun _=>rfl,fun _=>by omega⟩,l,by rw[F],K,rfl⟩;refine zU (by omega) h.tl h.loc r ?_ J (fun q _=>X q) ?_;rw[a,rT (t:=(t.1,2,(cj k (fa k st t.2.2.1).1 t.2.2.1.1).1,t.2.2.2)) v m (.inr rfl)];dsimp only;rw[f1];rw[gb (.inl (by omega)),gb (.inl (by show t.1<5;omega))]
theorem Z9(h:Rt k c ti j_ st m_ k_ gr f_ nn i_ l_ h_ g_)(f:ti<4611686018427387904)(hi:i<3)(o:h_.getD i al.aa=t)(p:t.1=1)(g:t.2.1=2):
 Rt k c (tick ti) j_ (cH st (bF k st t.2.2.1.1).toNat (-1)) (m_.map (tz t.2.2.1)) (k_++[t.2.2.1]) gr f_ nn i_ (l_++[t.2.2.1]) (h_.set i zT)
  ((g_++[iA (rC i t.2.2.1) j_ ti ti ti]).set (bC t).toNat (rH (g_.getD (bC t).toNat ay.aa) ti)):=by
 obtain⟨v,w,x,d,hv1,hw⟩:=eX h (by omega) o (by omega);have r:=(jy p).1 v;rw[an g]at r;obtain⟨⟨q1,q2,q3,q4,q5,y,q7,q8,q9,q10,q11⟩,q12,q13,q14,m,q16,q17,q18,q19⟩:=r;have u:=iK h.sto.ok;obtain⟨g1,g2⟩:=km (k:=k) (s:=t.2.2.1.1) u;have a:=rT (k:=k) u p (.inr g);have b:=m.2 g;have j:=h.nw;have l:=h.ti0
 refine iU h f (by omega) (h.sto.held g1 (by omega)) (h.sub.tell y) ((uF.app (h.dee.up (by omega)) ?_).put ?_) (il.held i st _ (-1)) ((fi.app i g_ _).trans (fi.put ?_)) (p_ _) (qF (by omega))
  (Ad (by omega) h.tl h.loc o a (dI (.inl rfl)) (by simp[cH]) (Gp g1) (fun q _ e=>xY e) (gb (.inl (by omega))) (gb (.inl (by decide)))) (h.grp.other (by omega))
 unfold iA rC;dsimp only;refine⟨?_,by omega,by omega,by omega⟩;exact xt ⟨by decide,by decide⟩ (by omega) (by decide) (by decide) j.1 l (by decide);unfold rH;dsimp only;refine⟨?_,by omega,by omega,by omega⟩;unfold gz bw at d|-;simp only[kk,A1,b_]at d|-;refine⟨⟨d.1.1,.inr ⟨by simpa using b,by omega⟩⟩,d.2⟩;rw[Z_,aj0 w,<-Z_];exact x
theorem aX{b:bo}{a:Int}{r:Int×List aq×List bU×List ae×Int×List au×Int×List aC×List bY×List ae×List aE×List ax}:
 bT (true,b,a,r)=(true,b,tick a,r):=rfl
theorem WJ{s:Bool}(h:Rt k c ti j_ st m_ k_ gr f_ nn i_ l_ h_ g_)(a:ti<4611686018427387904)(o:∀p∈st,p.2.1<4611686018427387904)(hi:i<3)(b:h_.getD i al.aa=t)(e:t.1=1):
 (cN s k (c,ti,j_,st,m_,k_,gr,f_,nn,i_,n_,l_,h_,g_) i).1=true->cw k (cN s k (c,ti,j_,st,m_,k_,gr,f_,nn,i_,n_,l_,h_,g_) i).2=true:=by
 have g:=iK h.sto.ok;obtain⟨g1,g2⟩:=km (k:=k) (s:=t.2.2.1.1) g;obtain⟨q,hn,hb,l,hv1,hw⟩:=eX h (by omega) b (by omega);have m:=(jy e).1 q;unfold cN ux;dsimp only;rw[b];by_cases j:t.2.1=0;rw[an j];unfold fF;dsimp only;rw[b];by_cases d:(st.getD (bF k st t.2.2.1.1).toNat aj.aa).1= -1;rw[an d,aX];intro _;exact cr.2 (EG h a hi b (by omega) j (rT (t:=(t.1,1,t.2.2)) g e (.inl rfl)) g1 d);rw[a_ d];intro l;simp[bT]at l;rw[a_ j];by_cases f:t.2.1=1;rw[an f];by_cases d:uW k c st t.2.2.1=true;rw[an d,aX];intro _;exact cr.2 (Pp h a hi b (by omega) (rT g e (.inl f)) g1 (by rw[m.2.2.2.2.2.1];decide));rw[a_ d,aX];intro _;exact cr.2 (VQ h a o hi b e f (by simpa using d));rw[a_ f,aX];intro _;have:=m.1.2.2.2;exact cr.2 (Z9 h a hi b e (by omega))
theorem WW{s:Bool}(h:Rt k c ti j_ st m_ k_ gr f_ nn i_ l_ h_ g_)(a:ti<4611686018427387904)(hi:i<3)(b:h_.getD i al.aa=t)(e:t.1=2):
 (bT (oo s k (c,ti,j_,st,m_,k_,gr,f_,nn,i_,n_,l_,h_,g_) i)).1=true->cw k (bT (oo s k (c,ti,j_,st,m_,k_,gr,f_,nn,i_,n_,l_,h_,g_) i)).2=true:=by
 have f:=iK h.sto.ok;obtain⟨g1,g2⟩:=km (k:=k) (s:=t.2.2.2.1) f;obtain⟨o,hn,hb,l,hv1,hw⟩:=eX h (by omega) b (by omega);have g:=(qN e).1 o;unfold oo;dsimp only;rw[b];by_cases j:t.2.1=0;rw[an j];unfold fF;dsimp only;rw[b];by_cases d:(st.getD (bF k st t.2.2.2.1).toNat aj.aa).1= -1;rw[an d,aX];intro _;exact cr.2 (EG h a hi b (by omega) j (AL (t:=(t.1,1,t.2.2)) f e rfl) g1 d);rw[a_ d];intro l;simp[bT]at l;have m:t.2.1=1:=by have:=g.1;omega
 rw[a_ j];by_cases d:(cj k st t.2.2.2.1).2=true;rw[an d,aX];intro _;exact cr.2 (Pp h a hi b (by omega) (AL f e m) g1 (by rw[g.2.2.2.2.2.1];decide));rw[a_ d,aX];intro _;exact cr.2 (Pp h a hi b (by omega) (AL f e m) g1 (by rw[g.2.2.2.2.2.1];decide))
theorem UA{l m:List ae}(e:cx l=true)(f:∀a∈m,bB a=true):cx (l++m)=true:=by
 unfold cx at*
 rw[eA (d:=ab.aa) (p:=bB)]at*
 intro x b;rcases u0.1 b with b|b;exact e x b;exact f x b
theorem XS{l:List Int}{v:Int}(b:om l=true)(e:0<=v):om (l++[v])=true:=by
 unfold om at*
 rw[eA (d:=(0:Int)) (p:=fun x=>decide (0<=x))]at*
 intro x a;rcases u0.1 a with a|a;exact b x a;rw[sd.1 a];exact c_ e
theorem ld{α:Type}{l m:List α}{n:Nat}(d:α)(h:n<l.length):(l++m).getD n d=l.getD n d:=by
 rw[Z_,aj0 h,<-Z_]
theorem xo{α:Type}{l:List α}{x:α}(d:α):(l++[x]).getD l.length d=x:=by
 rw[Z_,List.getElem?_append_right (J1 _)];simp
theorem VJ{st:List aq}{t:aE}{j:Nat}(h:fk st t=true)(b:j<st.length)(d:t.2.2.2.2.2.1.length=j):fk st (nF st t j)=true:=by
 rw[vK]at h|-;unfold nF;dsimp only;subst d;rw[rv,C'];constructor;intro p a;by_cases e:p<t.2.2.2.2.2.1.length;rw[ld _ e];exact h.1 p e;have:p=t.2.2.2.2.2.1.length:=by omega
 subst this;rw[xo];exact p_ _;intro g;rw[fB aj.aa b,h.2 fun p a=> ?_];have:=g p (by omega);rwa [ld _ a]at this
theorem aaE(h:Rt k c ti j_ st m_ k_ gr f_ nn i_ l_ h_ g_)(g:ti<4611686018427387904)(hi:i<3)(w:h_.getD i al.aa=t)(j:t.1=3)(B:t.2.1=1):
 Rt k c (tick ti) j_ (cH st t.2.2.2.2.1.toNat (-1)) m_ k_ gr f_ nn i_ l_ (h_.set i (nF st t t.2.2.2.2.1.toNat)) g_:=by
 obtain⟨G,hn,hb,hd,hv1,hw⟩:=eX h (by omega) w (by omega);have x:=(iF j).1 G;rw[a_ (by omega)]at x;obtain⟨⟨q1,q2,q3,q4,q5,H,I,J,q9,l,m⟩,o,p,r,s,u,v,q18⟩:=x;have C:=iK h.sto.ok;have hlen:=h.sto.len;have h3:=(cS.1 h.sto.ok).2;have f:t.2.2.2.2.1.toNat<st.length:=by omega
 have b:=eJ.1 ((cS.1 h.sto.ok).1 _ f);have d:bA k t st.length=(t.2.2.2.2.1.toNat:Int):=by rw[Aj C (.inl j) B];omega
 have y:(nF st t t.2.2.2.2.1.toNat).1=3:=j
 have z:(nF st t t.2.2.2.2.1.toNat).2.1=0\/(nF st t t.2.2.2.2.1.toNat).2.1=2/\t.2.2.2.2.1.toNat+1=st.length:=by
  unfold nF;dsimp only;split;exact .inr ⟨rfl,by assumption⟩;exact .inl rfl
 have D:¬(nF st t t.2.2.2.2.1.toNat).2.1=2->¬t.2.2.2.2.1.toNat+1=st.length:=by
  unfold nF;dsimp only;split;intro h;exact absurd rfl h;intro _;assumption
 refine iU h g (by omega) (h.sto.held f (by omega)) h.sub (h.dee.up (by omega)) (il.held i st _ (-1)) (fi.refl i g_) (p_ _) ?_
  (Ad (by omega) h.tl h.loc w d (dI (by rcases z with e|e;exact .inl e;exact .inr (.inr (.inr ⟨y,e.1⟩)))) (by simp[cH]) (Gp f) (fun q _ e=>xY e) (gb (.inl (by omega))) (gb (.inl (by omega)))) (h.grp.other (by omega))
 have E:bC (nF st t t.2.2.2.2.1.toNat)=bC t:=rfl;rw[E];refine(iF y).2 ⟨⟨q1,q2,q3,by omega,by omega,H,I,XS J b.2.2.2,?_,UA l fun a A=>gL (h.sto.fit a (y_.2 ⟨_,bR f,A⟩)),m⟩,o,p,r,s,u,?_,?_⟩;unfold nF;dsimp only;rw[rv,C'];omega;refine CF (il.held i st _ (-1)) ?_ (VJ v f (by omega));unfold nF;dsimp only;rw[rv,C'];omega;have F:(nF st t t.2.2.2.2.1.toNat).2.2.2.2.1=((t.2.2.2.2.1.toNat+1:Nat):Int):=rfl;rw[F];split;rename_i e;rcases z with K|K<;>omega;rename_i e;have:=D e;omega
theorem MX{t':aE}{a:List ax}(h:Rt k c ti j_ st m_ k_ gr f_ nn i_ l_ h_ g_)(e:ti<4611686018427387904)(hi:i<3)(f:h_.getD i al.aa=t)(g:bA k t st.length= -1)(j:bA k t' st.length= -1)
 (g1:t.1<5) (g2:t'.1<5) (b:uF k (ti+1) a) (d:fi i g_ a) (l:cQ k c.1 st nn (a.length:Int) t' (a.getD (bC t').toNat ay.aa) (i:Int)=true):
 Rt k c (tick ti) j_ st m_ k_ gr f_ nn i_ l_ (h_.set i t') a:=
 iU h e (by omega) h.sto h.sub b (il.refl i st) d (p_ _) l
  (zU (by omega) h.tl h.loc f (by rw[g,j]) rfl (fun _ _=>rfl) (by rw[gb (.inl g1),gb (.inl g2)])) (h.grp.other (by omega))
theorem T5{s:Bool}(h:Rt k c ti j_ st m_ k_ gr f_ nn i_ l_ h_ g_)(a:ti<4611686018427387904)(hi:i<3)(b:h_.getD i al.aa=t)(f:t.1=3):
 (bT (ig s k (c,ti,j_,st,m_,k_,gr,f_,nn,i_,n_,l_,h_,g_) i)).1=true->cw k (bT (ig s k (c,ti,j_,st,m_,k_,gr,f_,nn,i_,n_,l_,h_,g_) i)).2=true:=by
 have y:=iK h.sto.ok;obtain⟨D,hn,E,g,o,hw⟩:=eX h (by omega) b (by omega);have z:=(iF f).1 D;obtain⟨⟨q1,q2,q3,q4,q5,q6,q7,q8,q9,q10,q11⟩,q12,q,r,u,e,q17,v⟩:=z;have hlen:=h.sto.len;unfold ig;dsimp only;rw[b];by_cases j:t.2.1=0;rw[an j];rw[a_ (by omega)]at v;have A:t.2.2.2.2.1.toNat<st.length:=by omega
 unfold fF;dsimp only;rw[b];by_cases l:(st.getD t.2.2.2.2.1.toNat aj.aa).1= -1;rw[an l,aX];intro _;exact cr.2 (EG h a hi b (by omega) j (by rw[Aj (t:=(t.1,1,t.2.2)) y (.inl f) rfl];dsimp only;omega) A l);rw[a_ l];intro g;simp[bT]at g;rw[a_ j];by_cases m:t.2.1=1;rw[an m,aX];intro _;exact cr.2 (aaE h a hi b f m);rw[a_ m];have B:t.2.1=2:=by omega
 have d:bA k t st.length= -1:=dI (.inr (.inr (.inr ⟨f,B⟩)));by_cases w:lV st t.2.2.2.2.2.1=true;rw[an w,aX];intro _;exact cr.2 (MX h a hi b d (dI (.inl rfl)) (by omega) (by decide) ((h.dee.up (by omega)).put (pR g h.nw.1 o hw h.ti0 (by rw[e];decide))) (fi.put E) (qF (by omega)));rw[a_ w,aX];intro _;refine cr.2 (MX h a hi b d (dI (.inl rfl)) (by omega) (by show(3:Int)<5;decide) (h.dee.up (by omega)) (fi.refl i g_) ?_);have C:bC (uh ((bC t).toNat:Int))=((bC t).toNat:Int):=rfl;rw[C,ajY];refine(iF (t:=uh ((bC t).toNat:Int)) rfl).2 ?_;have h3:=(cS.1 h.sto.ok).2;rw[a_ (by show¬(0:Int)=2;decide)];refine⟨⟨q1,q2,by show(0:Int)<=((bC t).toNat:Int);omega,p_ _,by show(0:Int)<=2;decide,rfl,rfl,by unfold om uh;simp[kY],rfl,by unfold cx uh;simp[kY],rfl⟩,by show((bC t).toNat:Int)<_;omega,q,r,u,e,?_,p_ _,by show(0:Int)<=2;decide,by show(0:Int)<_;omega⟩;rw[vK];unfold uh;exact⟨fun p x=>by simp at x,fun _=>by simp⟩
theorem MR{j:Nat}(h:eY k st=true)(a:j<st.length)(g:(st.getD j aj.aa).1=(i:Int))(l:∀p∈st,p.2.1<4611686018427387904):
 il i st (st.set j (-1,(fD (st.getD j aj.aa) j_).2)):=by
 refine⟨by simp,fun p f=> ?_⟩;by_cases e:j=p;subst e;rw[aT _ _ f];by_cases b:0<(ey j_ (st.getD j aj.aa).2.2).length;refine .inr ⟨g,?_⟩;have hp2:=(eJ.1 ((cS.1 h).1 _ a)).2.2.2;have hvv:=l _ (bR (d:=aj.aa) a);unfold fD;dsimp only;rw[an b,wrap64 (by omega) (by omega)];omega;rw[UX ((cS.1 h).1 _ a) b];exact .inl rfl;rw[getD_set_ne _ _ e];exact .inl rfl
theorem Nq{j:Nat}(h:Em k c st)(d:j<st.length)(f:∀p∈st,p.2.1<4611686018427387904):Em k c (st.set j (-1,(fD (st.getD j aj.aa) j_).2)):=by
 have e:=eJ.1 (WA (j_:=j_) ((cS.1 h.ok).1 _ d) (f _ (bR d)));refine⟨yd h.ok (eJ.2 ⟨e.1,e.2.1,⟨by show(-1:Int)<=-1;decide,by show(-1:Int)<=4;decide⟩,e.2.2.2⟩),by rw[R_];exact h.len,?_,fun a b=> ?_⟩;have h1:=count_set (l:=st) (p:=(-1,(fD (st.getD j aj.aa) j_).2)) d;have h2:=Es (st.getD j aj.aa) j_;have h3:(aU (-1,(fD (st.getD j aj.aa) j_).2)).length=(aU (fD (st.getD j aj.aa) j_)).length:=rfl;have:=h.cap;omega;rcases Ea b with b|b;exact h.fit a b;exact h.fit a (y_.2 ⟨_,bR d,U9 (j_:=j_) b⟩)
theorem Ry{s:Bool}(h:Rt k c ti j_ st m_ k_ gr f_ nn i_ l_ h_ g_)(g:ti<4611686018427387904)(u:∀p∈st,p.2.1<4611686018427387904)(hi:i<3)(l:h_.getD i al.aa=t)(v:t.1=4):
 (im s k (c,ti,j_,st,m_,k_,gr,f_,nn,i_,n_,l_,h_,g_) i).1=true->cw k (im s k (c,ti,j_,st,m_,k_,gr,f_,nn,i_,n_,l_,h_,g_) i).2=true:=by
 have G:=iK h.sto.ok;obtain⟨L,I,M,x,A,hw⟩:=eX h (by omega) l (by omega);obtain⟨⟨q1,q2,q3,q4,q5,N,O,q8,q9,B,C,o⟩,q12,D,E,F,r,q17⟩:=(jB v).1 L;have hlen:=h.sto.len;have f:t.2.2.2.2.1.toNat<st.length:=by omega
 unfold im vo;dsimp only;rw[l];by_cases y:t.2.1=0;rw[an y];unfold fF;dsimp only;rw[l];by_cases z:(st.getD t.2.2.2.2.1.toNat aj.aa).1= -1;rw[an z,aX];intro _;exact cr.2 (EG h g hi l (by omega) y (by rw[Aj (t:=(t.1,1,t.2.2)) G (.inr v) rfl];dsimp only;omega) f z);rw[a_ z];intro x;simp[bT]at x;have J:t.2.1=1:=by omega
 rw[a_ y,aX];intro _;have a:bA k t st.length=(t.2.2.2.2.1.toNat:Int):=by rw[Aj G (.inr v) J];omega
 have b:=(h.loc.pt _ f i (by omega)).1 (by rw[l];exact a)
 have m:gz k (iA (iu i t.2.2.2.2.1.toNat (ey j_ (st.getD t.2.2.2.2.1.toNat aj.aa).2.2)) j_ ti ti ti)=true:=
  xt (op:=5) (i:=(i:Int)) (j:=(t.2.2.2.2.1.toNat:Int)) (n:=0) (code:=8) ⟨by decide,by decide⟩ (by omega) (by omega) (by decide) h.nw.1 h.ti0 (by decide)
 have H:=uF.app (h.dee.up (show ti<=ti+1 by omega)) (d:=iA (iu i t.2.2.2.2.1.toNat (ey j_ (st.getD t.2.2.2.2.1.toNat aj.aa).2.2)) j_ ti ti ti) ⟨m,by show ti<ti+1;omega,by show ti<ti+1;omega,by show ti<ti+1;omega⟩;refine cr.2 ?_;by_cases w:t.2.2.2.2.1.toNat+1=st.length;rw[an w,an w]
 exact iU h g (by omega) (Nq h.sto f u) h.sub (H.put (pR x h.nw.1 A hw h.ti0 (by rw[r];decide))) (MR h.sto.ok f b u)
  ((fi.app i g_ _).trans (fi.put (by rw[ld _ I];exact M))) (p_ _) (qF (by omega))
  (Ad (by omega) h.tl h.loc l a (dI (.inl rfl)) (by simp) (by rw[aT _ _ f]) (fun q _ e=>by rw[getD_set_ne _ _ e]) (gb (.inl (by omega))) (gb (.inl (by decide)))) (h.grp.other (by omega))
 rw[a_ w,a_ w]
 refine iU h g (by omega) (Nq h.sto f u) h.sub H (MR h.sto.ok f b u) (fi.app i g_ _) (p_ _) ?_
  (Ad (by omega) h.tl h.loc l a (dI (.inl rfl)) (by simp) (by rw[aT _ _ f]) (fun q _ e=>by rw[getD_set_ne _ _ e]) (gb (.inl (by omega))) (gb (.inl (by show t.1<5;omega)))) (h.grp.other (by omega))
 have K:bC (t.1,(0:Int),t.2.2.1,t.2.2.2.1,((t.2.2.2.2.1.toNat+1:Nat):Int),t.2.2.2.2.2)=bC t:=rfl;rw[K,ld _ I,rv,C'];refine(jB (t:=(t.1,(0:Int),t.2.2.1,t.2.2.2.1,((t.2.2.2.2.1.toNat+1:Nat):Int),t.2.2.2.2.2)) v).2 ?_;have h3:=(cS.1 h.sto.ok).2;exact⟨⟨q1,q2,q3,p_ _,by show(0:Int)<=1;decide,N,O,by dsimp only;omega,by dsimp only;omega,B,C,o⟩,by dsimp only;omega,D,E,F,r,by dsimp only;omega⟩
end
theorem yp{a b:aC}(h:bX a b=true):bX b a=false:=by
 unfold bX at*;simp at*;omega
theorem before_trans{a b c:aC}(h:bX a b=true)(h2:bX b c=true):bX a c=true:=by
 unfold bX at*;simp at*;omega
theorem Cp{a b c:aC}(h:bX a b=false)(h2:bX b c=false):bX a c=false:=by
 unfold bX at*;simp at*;omega
abbrev nf(l:List aC)(i:Nat):aC:=l.getD i aD.aa
def HP(l:List aC):Prop:=∀j,j<l.length->0<j->bX (nf l j) (nf l ((j-1)/2))=false
def HPu(l:List aC)(i:Nat):Prop:=
 (∀j,j<l.length->0<j->¬j=i->bX (nf l j) (nf l ((j-1)/2))=false)/\
 (0<i->∀j,j<l.length->0<j->(j-1)/2=i->bX (nf l j) (nf l ((i-1)/2))=false)
def HPd(l:List aC)(i:Nat):Prop:=
 (∀j,j<l.length->0<j->¬(j-1)/2=i->bX (nf l j) (nf l ((j-1)/2))=false)/\
 (0<i->∀j,j<l.length->0<j->(j-1)/2=i->bX (nf l j) (nf l ((i-1)/2))=false)
theorem Vy{l:List aC}{i j:Nat}(hi:i<l.length)(b:j<l.length)(n:Nat):nf (ya l i j) n=if n=j then nf l i else if n=i then nf l j else nf l n:=by
 unfold ya nf;by_cases e:n=j;subst e;rw[an rfl,aT _ _ (by simpa using b)];rw[a_ e,getD_set_ne _ _ (Ne.symm e)];by_cases a:n=i;subst a;rw[an rfl,aT _ _ hi];rw[a_ a,getD_set_ne _ _ (Ne.symm a)]
theorem Rb{l:List aC}{i j:Nat}(hi:i<l.length)(a:j<l.length):(ya l i j).Perm l:=by
 unfold ya;rw[cC _ hi,cC _ a];exact List.set_set_perm hi a
theorem XH:∀(i:Nat) {l:List aC},i<l.length->HPu l i->HP (NA l i):=by
 intro i
 induction i using ako with
 |_ i x=>
  intro l u h;rw[NA];by_cases p:0<i;rw[dif_pos p];by_cases g:bX (l.getD i aD.aa) (l.getD ((i-1)/2) aD.aa)=true;rw[an g];have v:(i-1)/2<i:=by omega
  have m:=Vy (l:=l) u (show(i-1)/2<l.length by omega);refine x _ v (by rw[gj];omega) ⟨fun j b a o=> ?_,fun f j b a he=> ?_⟩;rw[gj]at b;rw[m,m,a_ o];by_cases d:j=i;subst d;rw[an rfl,an rfl];exact yp g;rw[a_ d];by_cases q:(j-1)/2=(i-1)/2;rw[an q];have:=h.1 j b a d;rw[q]at this;cases w:bX (nf l j) (nf l i);rfl;rw[before_trans w g]at this;cases this;rw[a_ q];by_cases r:(j-1)/2=i;rw[an r];exact h.2 p j b a r;rw[a_ r];exact h.1 j b a d;rw[gj]at b;rw[m,m,a_ (by omega),a_ (show¬((i-1)/2-1)/2=(i-1)/2 by omega),a_ (show¬((i-1)/2-1)/2=i by omega)];by_cases d:j=i;rw[an d];exact h.1 _ (by omega) f (by omega);rw[a_ d];have s:=h.1 j b a d;rw[he]at s;exact Cp s (h.1 _ (by omega) f (by omega));rw[a_ g];intro j b a;by_cases e:j=i;subst e;simpa using g;exact h.1 j b a e;rw[dif_neg p];intro j b a;exact h.1 j b a (by omega)
theorem X9:∀(i:Nat) {l:List aC},i<l.length->(NA l i).Perm l:=by
 intro i
 induction i using ako with
 |_ i e=>
  intro l d;rw[NA];by_cases a:0<i;rw[dif_pos a];by_cases b:bX (l.getD i aD.aa) (l.getD ((i-1)/2) aD.aa)=true;rw[an b];exact(e _ (by omega) (by rw[gj];omega)).trans (Rb d (by omega));rw[a_ b];rw[dif_neg a]
theorem Wo{l:List aC}{i:Nat}(h:2*i+1<l.length):iP l i<l.length/\(iP l i-1)/2=i/\i<iP l i:=by
 unfold iP;split<;>omega
theorem NH{l:List aC}{i j:Nat}(h:2*i+1<l.length)(b:j<l.length)(h0:0<j)(he:(j-1)/2=i):bX (nf l j) (nf l (iP l i))=false:=by
 have a:bX (nf l j) (nf l j)=false:=by unfold bX;simp
 unfold iP;split;rename_i hk;obtain rfl|rfl:j=2*i+1\/j=2*i+2:=by omega
 exact yp hk.2;exact a;rename_i hk;obtain rfl|rfl:j=2*i+1\/j=2*i+2:=by omega
 exact a;have:¬bX (nf l (2*i+2)) (nf l (2*i+1))=true:=fun h=>hk ⟨b,h⟩;simpa using this
theorem UF:∀n (l:List aC) (i:Nat),l.length-i<=n->i<l.length->HPd l i->HP (uV l i):=by
 intro n
 induction n with
 |zero=>intro l i v r h;omega
 |succ n w=>
  intro l i v r h;rw[uV];by_cases f:2*i+1<l.length;rw[dif_pos f];obtain⟨u,q,k3⟩:=Wo f;by_cases g:bX (l.getD (iP l i) aD.aa) (l.getD i aD.aa)=true;rw[an g];have m:=Vy (l:=l) r u;refine w _ _ (by rw[gj];omega) (by rw[gj];omega) ⟨fun j b a o=> ?_,fun hp0 j b a he=> ?_⟩;rw[gj]at b;rw[m,m,a_ o];by_cases d:(j-1)/2=i;rw[an d];by_cases s:j=iP l i;rw[an s];exact yp g;rw[a_ s,a_ (by omega)];exact NH f b a d;rw[a_ d,a_ (by intro e;rw[e]at d;exact d q)];by_cases p:j=i;rw[an p];subst p;exact h.2 a _ u (by omega) q;rw[a_ p];exact h.1 j b a d;rw[gj]at b;rw[q,m,m,a_ (by omega),a_ (by omega),a_ (by omega),an rfl];have:=h.1 j b a (by omega);rwa [he]at this;rw[a_ g];intro j b a;by_cases e:(j-1)/2=i;rw[e];exact Cp (NH f b a e) (by simpa using g);exact h.1 j b a e;rw[dif_neg f];intro j b a;exact h.1 j b a (by omega)
theorem TO:∀n (l:List aC) (i:Nat),l.length-i<=n->i<l.length->(uV l i).Perm l:=by
 intro n
 induction n with
 |zero=>intro l i e b;omega
 |succ n g=>
  intro l i e b;rw[uV];by_cases a:2*i+1<l.length;rw[dif_pos a];obtain⟨f,k2,k3⟩:=Wo a;by_cases d:bX (l.getD (iP l i) aD.aa) (l.getD i aD.aa)=true;rw[an d];exact(g _ _ (by rw[gj];omega) (by rw[gj];omega)).trans (Rb b f);rw[a_ d];rw[dif_neg a]
theorem u6{l:List aC}:oJ l=true↔(∀x∈l,0<=x.1/\0<=x.2)/\HP l/\l.length<=16:=by
 unfold oJ;rw[k9,kk,kk,eA (d:=aD.aa) (p:=fun x=>decide (0<=x.1)&&decide (0<=x.2)),decide_eq_true_iff,and_assoc,cA];refine and_congr (by simp) (and_congr ?_ aj6);unfold HP;simp only[A1,beq_iff_eq,ajS]
 exact⟨fun h j a h0=>(h j (by omega) a).resolve_left (by omega),fun h j _ a=>by
  by_cases e:j=0;exact .inl e;exact .inr (h j a (by omega))⟩
theorem uc(l:List aC)(t:aC):(AM l t).Perm (l++[t]):=X9 _ (by simp)
theorem SF{l:List aC}{t:aC}(h:oJ l=true)(f:0<=t.1/\0<=t.2)(hl:l.length<=15):oJ (AM l t)=true:=by
 rw[u6]at h|-;have e:=uc l t;refine⟨fun x a=> ?_,XH _ (by simp) ⟨fun j b d hne=> ?_,fun d j b hj0 he=> ?_⟩,by rw[e.length_eq];simp;omega⟩;rcases u0.1 (e.mem_iff.1 a)with a|a;exact h.1 x a;rw[sd.1 a];exact f;rw[rv,C']at b;unfold nf;rw[ld _ (by omega),ld _ (by omega)];exact h.2.1 j (by omega) d;rw[rv,C']at b;omega
theorem Au{l:List aC}(h:0<l.length):((fQ l).2.1::(fQ l).1).Perm l:=by
 unfold fQ;rw[a_ (by omega)];dsimp only;by_cases b:l.length=1;rw[an b];obtain⟨x,rfl⟩:=List.length_eq_one_iff.1 b;exact List.Perm.refl _;rw[a_ b];have hlen:((l.take (l.length-1)).set 0 (l.getD (l.length-1) aD.aa)).length=l.length-1:=by simp
 refine((TO _ _ 0 (J1 _) (by omega)).cons _).trans ?_;cases l with
 |nil=>simp at h
 |cons a l=>
  have hl:0<l.length:=by rw[ajW]at b;omega
  obtain⟨m,hm⟩:∃m,l.length=m+1:=⟨l.length-1,by omega⟩
  have d:(a::l).length-1=m+1:=by simp;omega
  rw[d,List.take_succ_cons,aki,akg,akh];refine List.Perm.cons a ?_
  have e:l=l.take m++[l.getD m aD.aa]:=by
   have:=akb m l;rw[cC _ (by omega)]
   conv=>lhs;rw[<-this]
   congr 1;rw[List.drop_eq_getElem_cons (by omega),List.drop_eq_nil_of_le (by omega)]
  conv=>rhs;rw[e]
  exact(List.perm_append_singleton _ _).symm
theorem YA{l:List aC}(h:oJ l=true)(d:0<l.length):oJ (fQ l).1=true:=by
 have e:=Au d;rw[u6]at h|-;refine⟨fun x g=>h.1 x (e.mem_iff.1 (ajO _ g)),?_,by have:=e.length_eq;simp at this;omega⟩;unfold fQ;rw[a_ (by omega)];dsimp only;by_cases f:l.length=1;rw[an f];intro j a;simp at a;rw[a_ f];have hlen:((l.take (l.length-1)).set 0 (l.getD (l.length-1) aD.aa)).length=l.length-1:=by simp
 refine UF _ _ 0 (J1 _) (by omega) ⟨fun j a b hne=> ?_,fun d=>by omega⟩;rw[hlen]at a;unfold nf;rw[getD_set_ne _ _ (by omega),getD_set_ne _ _ (by omega)]
 have:∀n,n<l.length-1->(l.take (l.length-1)).getD n aD.aa=l.getD n aD.aa:=by
  intro n hn;rw[cC _ (by simp;omega),cC _ (by omega),ajT]
 rw[this _ a,this _ (by omega)];exact h.2.1 j (by omega) b
theorem bytes_inj{a b:ByteArray}(h:a.toList=b.toList):a=b:=by
 have:=BT a b;rw[h,beq_self_eq_true]at this;exact e_ this.symm
theorem Qx:∀ {l m:List af},uA l=uA m->l=m
 | [],[],_=>rfl
 | [],b::m,h=>by simp[uA]at h
 |a::l,[],h=>by simp[uA]at h
 |(a1,a2)::l,(b1,b2)::m,h=>by
  simp only[uA,List.cons.injEq]at h;rw[bytes_inj h.1,bytes_inj h.2.1,Qx h.2.2]
theorem ZV{s x:List af}(a:bq s x=false)(d:¬x=s):bq x s=true:=by
 rw[rJ]at a|-;rw[d_]at a;rw[b_];refine Decidable.byContradiction fun b=>d ?_;exact Qx (List.le_antisymm (List.not_lt.1 a) (List.not_lt.1 b))
abbrev yi(l:List ae):Prop:=l.Pairwise (fun a b=>bq a.1 b.1=true)
theorem RY{l:List ae}{key:List af}{by_:List ByteArray}:vk l key by_=true↔(∀a∈l,bB a=true/\keyOf a by_=key)/\yi l:=by
 unfold vk yi;rw[<-JN (r:=fun a b:ae=>bq a.1 b.1=true) (d:=ab.aa) (fun a b c f g=>nv.trans _ _ _ f g)];have:∀j,(bB (l.getD j ab.aa)&&(decide (keyOf (l.getD j ab.aa) by_=key)&&CO l j))=((bB (l.getD j ab.aa)&&decide (keyOf (l.getD j ab.aa) by_=key))&&CO l j):=fun j=>(akp ..).symm;simp only[this];rw[k9,kk,eA (d:=ab.aa) (p:=fun a=>bB a&&decide (keyOf a by_=key)),cA];refine and_congr (by simp) ?_;simp only[CO,A1,beq_iff_eq];exact⟨fun h i e=>h i (by omega) e,fun h i _ e=>h i e⟩
theorem ju{g:au}{by_:List ByteArray}:fT g by_=true↔0<=g.1/\eo g.2.1=true/\(0<=g.2.2.1/\g.2.2.1<=99999)/\(g.2.2.2.1= -1\/(g.2.2.1<=g.2.2.2.1/\g.2.2.2.1<=99999))/\0<g.2.2.2.2.length/\(∀a∈g.2.2.2.2,bB a=true/\keyOf a by_=g.2.1)/\yi g.2.2.2.2:=by
 unfold fT bw;simp only[kk,A1,b_,RY]
theorem cY{l:List au}{by_:List ByteArray}:fN l by_=true↔l.length<=12/\(∀g∈l,fT g by_=true)/\l.Pairwise (fun a b=>a.1<b.1)/\l.Pairwise (fun a b=>¬a.2.1=b.2.1):=by
 unfold fN;rw[<-JN (d:=ak.aa) (fun a b c h1 h2=>by omega),<-mO (d:=ak.aa),k9,k9];simp only[kk,b_,eA (l:=l) (d:=ak.aa) (p:=fun g=>fT g by_),cA,Ps,ug,A1,beq_iff_eq,ajS,d_];refine and_congr aj6 (and_congr aj6 (and_congr ?_ ?_));exact⟨fun h i e=>h i (by omega) e,fun h i _ e=>h i e⟩;exact⟨fun h i e j f=>h i (by omega) e j (by omega) f,fun h i _ e j _ f=>h i e j f⟩
theorem Q1{l:List ae}{s:List af}(i:Nat)(h:i<jo l s):bq s (l.getD i ab.aa).1=false:=by
 unfold jo at h;cases e:gC l.length (fun i=>bq s (l.getD i ab.aa).1)with
 |none=>rw[e]at h;exact iQ.1 e i h
 |some j=>rw[e]at h;exact(aV.1 e).2.2 i h
theorem Xp{l:List ae}{s:List af}(h:jo l s<l.length):bq s (l.getD (jo l s) ab.aa).1=true:=by
 unfold jo at h|-;cases e:gC l.length (fun i=>bq s (l.getD i ab.aa).1)with
 |none=>rw[e]at h;simp at h
 |some j=>exact(aV.1 e).2.1
theorem X0{l:List ae}{a:ae}(h:yi l)(q:∀x∈l,¬x.1=a.1):yi (l.take (jo l a.1)++[a]++l.drop (jo l a.1)):=by
 have g:∀c∈l.take (jo l a.1),bq c.1 a.1=true:=by
  intro c hc;obtain⟨i,p,e⟩:=Z' hc;rw[ajP]at p;have f:=Q1 (l:=l) (s:=a.1) i (by omega);rw[cC _ (by omega)]at f;rw[<-e,ajT];exact ZV f (q _ (aj2 _))
 have m:∀c∈l.drop (jo l a.1),bq a.1 c.1=true:=by
  intro c hc;obtain⟨i,p,e⟩:=Z' hc;rw[ajV]at p;have f:=Xp (l:=l) (s:=a.1) (by omega);rw[cC _ (by omega)]at f;rw[aj1]at e;rw[<-e];by_cases o:i=0;subst o;exact f;have:=ajN.1 h (jo l a.1) (jo l a.1+i) (by omega) (by omega) (by omega);exact nv.trans _ _ _ f this
 unfold yi at*
 rw[ajJ,ajJ];refine⟨⟨h.sublist (akk _ _),ajF _ _,fun x d b j=> ?_⟩,h.sublist (akl _ _),fun x d b j=> ?_⟩;rw[sd.1 j];exact g x d;have:=m b j;rcases u0.1 d with d|d;exact nv.trans _ _ _ (g x d) this;rw[sd.1 d];exact this
theorem VA{l:List ae}{a x:ae}(h:x∈fo l a):x∈l\/x=a:=by
 unfold fo at h;split at h;exact Q_ h;rcases u0.1 h with h|h;rcases u0.1 h with h|h;exact .inl (ajZ h);exact .inr (sd.1 h);exact .inl (ajU h)
theorem Yt{g:au}{a:ae}{by_:List ByteArray}(h:fT g by_=true)(o:bB a=true)(hk:keyOf a by_=g.2.1):fT (lB g a) by_=true:=by
 rw[ju]at h|-;obtain⟨p,q,r,s,u,h6,h7⟩:=h;refine⟨p,q,r,s,?_,fun x j=> ?_,?_⟩;show 0<(fo g.2.2.2.2 a).length;unfold fo;split;rw[R_];exact u;simp only[rv,C'];omega;rcases VA j with j|rfl;exact h6 x j;exact⟨o,hk⟩;show yi (fo g.2.2.2.2 a);unfold fo;split;rename_i i l;have e:(g.2.2.2.2.set i a).map (·.1)=g.2.2.2.2.map (·.1):=jN (d:=ab.aa) (e_ (aV.1 l).2.1).symm;have h8:=(R0 (f:=fun x:ae=>x.1) (R:=fun a b=>bq a b=true)).2 h7;rw[<-e]at h8;exact(R0 (f:=fun x:ae=>x.1) (R:=fun a b=>bq a b=true)).1 h8;rename_i l;refine X0 h7 fun x j=> ?_;obtain⟨i,m,rfl⟩:=kN ab.aa j;have:=iQ.1 l i m;simpa using this
theorem NM{l:List af}:eo l=true↔l.length<=4/\(∀x∈l,fU x=true)/\l.Pairwise (fun a b=>lr a.1 b.1=true):=by
 unfold eo
 rw[<-JN (r:=fun a b:af=>lr a.1 b.1=true) (d:=ai.aa) (fun a b c f g=>by
  rw[FW,b_]at f g|-;exact List.lt_trans f g),k9]
 simp only[kk,b_,eA (l:=l) (d:=ai.aa) (p:=fU),cA,DC,A1,beq_iff_eq];refine and_congr aj6 (and_congr aj6 ?_);exact⟨fun h i e=>h i (by omega) e,fun h i _ e=>h i e⟩
theorem XY{a:ae}{by_:List ByteArray}(h:bB a=true):eo (keyOf a by_)=true:=by
 have b:eo a.1=true:=by unfold bB at h;simp only[kk]at h;exact h.1.1.1.1
 rw[NM]at b|-;unfold keyOf;exact⟨S_ (akc _ _) b.1,fun x d=>b.2.1 x ((aj4.1 d).1),b.2.2.filter _⟩
theorem ZX{c:bo}{a:ae}{nn j_:Int}(h:bB a=true)(d:0<=nn)(hw:0<=j_/\j_<=99899):fT (rF c a nn j_) c.2.2.2.2.2=true:=
 ju.2 ⟨d,XY h,⟨hw.1,by show j_<=99999;omega⟩,.inl rfl,by show 0< [a].length;simp,fun x b=>by
  have:x=a:=sd.1 b;subst this;exact⟨h,rfl⟩,ajF _ _⟩
theorem tL{l:List au}{key:List af}{i:Nat}(h:gI l key=some i):i<l.length/\(l.getD i ak.aa).2.1=key:=
 ⟨(aV.1 h).1,by simpa using(aV.1 h).2.1⟩
theorem R3{l:List au}{key:List af}(h:gI l key=none):∀g∈l,¬g.2.1=key:=by
 intro g a;obtain⟨i,b,rfl⟩:=kN ak.aa a;have:=iQ.1 h i b;simpa using this
theorem Jm{l:List au}{i:Nat}{g:au}{by_:List ByteArray}(h:fN l by_=true)(m:fT g by_=true)(o:g.1=(l.getD i ak.aa).1)(p:g.2.1=(l.getD i ak.aa).2.1):fN (l.set i g) by_=true:=by
 rw[cY]at h|-;refine⟨by rw[R_];exact h.1,fun x j=> ?_,?_,?_⟩;rcases Q_ j with j|rfl;exact h.2.1 x j;exact m;have e:(l.set i g).map (·.1)=l.map (·.1):=jN (d:=ak.aa) o;have h8:=(R0 (f:=fun x:au=>x.1) (R:=fun a b=>a<b)).2 h.2.2.1;rw[<-e]at h8;exact(R0 (f:=fun x:au=>x.1) (R:=fun a b=>a<b)).1 h8;have e:(l.set i g).map (·.2.1)=l.map (·.2.1):=jN (d:=ak.aa) p;have h8:=(R0 (f:=fun x:au=>x.2.1) (R:=fun a b=>¬a=b)).2 h.2.2.2;rw[<-e]at h8;exact(R0 (f:=fun x:au=>x.2.1) (R:=fun a b=>¬a=b)).1 h8
theorem TK{l:List au}{g:au}{by_:List ByteArray}(h:fN l by_=true)(j:fT g by_=true)(hl:l.length<12)(m:∀x∈l,x.1<g.1)(o:∀x∈l,¬x.2.1=g.2.1):fN (l++[g]) by_=true:=by
 rw[cY]at h|-;refine⟨by simp;omega,fun x d=> ?_,ajJ.2 ⟨h.2.2.1,ajF _ _,fun a e b f=> ?_⟩,ajJ.2 ⟨h.2.2.2,ajF _ _,fun a e b f=> ?_⟩⟩;rcases u0.1 d with d|d;exact h.2.1 x d;rw[sd.1 d];exact j;rw[sd.1 f];exact m a e;rw[sd.1 f];exact o a e
theorem UL{l:List au}{i:Nat}{by_:List ByteArray}(h:fN l by_=true):fN (l.take i++l.drop (i+1)) by_=true:=by
 rw[cY]at h|-
 have a:(l.take i++l.drop (i+1)).Sublist l:=by
  rw[<-aj3];exact akd _ _
 exact⟨S_ a.length_le h.1,fun x b=>h.2.1 x (a.subset b),h.2.2.1.sublist a,h.2.2.2.sublist a⟩
theorem iD{l:List au}{n:Int}{i:Nat}(h:fP l n=some i):i<l.length/\(l.getD i ak.aa).1=n:=
 ⟨(aV.1 h).1,by simpa using(aV.1 h).2.1⟩
theorem Fz{l:List au}{n:Int}(h:fP l n=none):∀g∈l,¬g.1=n:=by
 intro g a;obtain⟨i,b,rfl⟩:=kN ak.aa a;have:=iQ.1 h i b;simpa using this
theorem Wq{g:au}{j_:Int}{by_:List ByteArray}(h:fT g by_=true)(e:g.2.2.1<=j_)(h2:j_<=99899)(b:¬(je g j_).2.2.2.2=[]):fT (je g j_) by_=true:=by
 rw[ju]at h|-;obtain⟨q1,q2,q3,q4,q5,f,j⟩:=h;refine⟨q1,q2,q3,.inr ⟨e,by show j_<=99999;omega⟩,List.length_pos_iff.2 b,fun a d=>f a (DG d),?_⟩;show yi (eU j_ g.2.2.2.2);unfold eU;exact j.filter _
theorem Ko{l:List au}{by_:List ByteArray}(h:fN l by_=true){g:au}{i:Nat}(b:g∈l)(hi:i<l.length)(he:g.1=(l.getD i ak.aa).1):g=l.getD i ak.aa:=by
 obtain⟨j,m,rfl⟩:=kN ak.aa b;have f:=(cY.1 h).2.2.1;by_cases e:i=j;rw[e];have a:=mO (d:=ak.aa).2 f;rcases akj e with h6|h6;have:=a j m i h6;omega;have:=a i hi j h6;omega
theorem u7{l m:List aC}(h:l.Perm m):l.Pairwise (fun a b=>¬a.2=b.2)↔m.Pairwise (fun a b=>¬a.2=b.2):=h.pairwise_iff (fun h e=>h e.symm)
section
variable{k:Nat}{c:bo}{ti j_ gr nn:Int}{st:List aq}{m_:List bU}{k_ l_:List ae}{f_:List au}{i_:List aC}{n_:List bY}{h_:List aE}{g_:List ax}{t:aE}
theorem We(h:dU c=true):1<=c.2.2.2.1/\c.2.2.2.1<=9/\1<=c.2.2.2.2.1/\c.2.2.2.2.1<=9:=by
 unfold dU bw at h;simp only[kk,b_]at h;omega
theorem VH{g:au}(hc:dU c=true)(h1:0<=g.2.2.1/\g.2.2.1<=99999)(h2:g.2.2.2.1= -1\/(g.2.2.1<=g.2.2.2.1/\g.2.2.2.1<=99999)):0<=j8 c g:=by
 have:=We hc;unfold j8;split;rw[wrap64 (by omega) (by omega)];omega;rw[wrap64 (by omega) (by omega)];omega
theorem Av.drop{n:Nat}(h:Av c m_ k_ l_):Av c m_ (k_.drop n) l_:=⟨h.len,h.sub,fun a o=>h.fee a (ajU o),h.sai⟩
theorem QJ{i:Nat}(h:Rt k c ti j_ st m_ k_ gr f_ nn i_ l_ h_ g_)(d:ti<4611686018427387904)(hi:i=3/\t.1=5\/i=4/\t.1=6)(b:h_.getD i al.aa=t)(j:t.2.1=0)(l:gr= -1):
 Rt k c (tick ti) j_ st m_ k_ (i:Int) f_ nn i_ l_ (h_.set i (t.1,1,t.2.2)) g_:=by
 have a:i<5:=by omega
 have e:=h.tas i a;rw[b]at e
 have f:dj (t.1,(1:Int),t.2.2)=true:=by
  unfold dj;rcases hi with hi|hi<;>simp[hi.2]
 have m:5<=t.1:=by omega
 refine iU h d a h.sto h.sub (h.dee.up (by omega)) (il.refl i st) (fi.refl i g_) (p_ _) ?_ (Xv a h.tl h.loc b (dI (.inl j)) (dI (.inr (.inr (.inl m)))) l f) ?_;have o:bC (t.1,(1:Int),t.2.2)=bC t:=rfl;rw[o];rcases hi with hi|hi;have q:=(kE hi.2).1 e;exact(kE (t:=(t.1,(1:Int),t.2.2)) hi.2).2 ⟨⟨q.1.1,q.1.2.1,(show(0:Int)<=1 by decide),(show(1:Int)<=1 by decide),q.1.2.2.2.2⟩,q.2⟩;have q:=(iG hi.2).1 e;exact(iG (t:=(t.1,(1:Int),t.2.2)) hi.2).2 ⟨⟨q.1.1,q.1.2.1,(show(0:Int)<=1 by decide),(show(1:Int)<=1 by decide),q.1.2.2.2.2⟩,q.2⟩;rcases hi with hi|hi;exact h.grp.other (by omega);rw[hi.1]at b|-;rw[aT _ _ (by rw[h.tl];decide)];have g:=h.grp;rw[b]at g;exact⟨g.go,g.ho,g.tm,g.ap,g.td⟩
theorem WK{a:ae}{n:Nat}(h:Rt k c ti j_ st m_ k_ gr f_ nn i_ l_ h_ g_)(b:ti<4611686018427387904)(d:h_.getD 3 al.aa=t)(e:t.1=0)(f:bB a=true):
 Rt k c (tick ti) j_ st m_ (k_.drop n) gr f_ nn i_ l_ (h_.set 3 (As a g_.length)) (g_++[Jk a j_ ti]):=by
 refine iU h b (by decide) h.sto h.sub.drop ((h.dee.up (by omega)).app ⟨DR ⟨by decide,by decide⟩ ⟨by decide,by decide⟩ (by decide) h.nw.1 h.ti0,by show ti<ti+1;omega,by show-1<ti+1;have:=h.ti0;omega,by show-1<ti+1;have:=h.ti0;omega⟩)
  (il.refl _ st) (fi.app _ g_ _) (p_ _) ?_ (zU (by decide) h.tl h.loc d (by rw[dI (.inl rfl),dI (.inr (.inl e))]) rfl (fun _ _=>rfl) (by rw[gb (.inr rfl),gb (.inl (by omega))])) (h.grp.other (by decide))
 have g:bC (As a (g_.length:Int))=((g_.length:Nat):Int):=rfl;rw[g,ajY,xo];refine(kE (t:=As a (g_.length:Int)) rfl).2 ⟨⟨rfl,by show(0:Int)<=(g_.length:Int);omega,p_ _,(show(0:Int)<=1 by decide),f,rfl,rfl,rfl,rfl,rfl⟩,by show(g_.length:Int)<_;rw[rv,C'];omega,rfl,rfl,rfl,rfl,rfl⟩
theorem L4{s x:Bool}{code:Int}{got:List ae}{b:List au}{g n:Int}{e:List aC}{setit:Bool}(h:Rt k c ti j_ st m_ k_ gr f_ nn i_ l_ h_ g_)(p:ti<4611686018427387904)(r:h_.getD 3 al.aa=t)(u:t.1=5)(w:t.2.1=1)
 (y:nn<=g) (hc:code∈lS 7) (z:0<=n) (j:wM c j_ b g e (h_.getD 4 al.aa)):
 Rt k c (tick ti) j_ st m_ k_ (-1) b g e l_ (h_.set 3 zT) (g_.set (bC t).toNat (fv s x (if setit=true then vY (g_.getD (bC t).toNat ay.aa) n else g_.getD (bC t).toNat ay.aa) j_ ti code got)):=by
 obtain⟨A,hn1,B,f,o,hw⟩:=eX h (by decide) r (by omega);have q:=(kE u).1 A
 refine iU h p (by decide) h.sto h.sub ((h.dee.up (by omega)).put ?_) (il.refl _ st) (fi.put B) y (qF (by decide))
  (Pj (by decide) h.tl h.loc r (dI (.inr (.inr (.inl (by omega))))) (dI (.inl rfl)) (by unfold dj;simp[u,w]) (gb (.inl (by decide)))) ?_
 have v:=q.2.2.2.2.2.1;generalize g_.getD (bC t).toNat ay.aa=d at*
 cases setit;exact pR f h.nw.1 o hw h.ti0 (by rw[a_ (by decide),v];exact hc);refine pR (d:=vY d n) ?_ h.nw.1 o hw h.ti0 (by show code∈lS d.1;rw[v];exact hc);obtain⟨op,task,a,l,i,m,cd,gt,nw,inv,lin,res⟩:=d;unfold vY;unfold gz at f|-;simp only[kk,b_]at f|-;exact⟨⟨⟨⟨⟨⟨⟨⟨f.1.1.1.1.1.1.1.1,f.1.1.1.1.1.1.1.2⟩,f.1.1.1.1.1.1.2⟩,f.1.1.1.1.1.2⟩,z⟩,f.1.1.1.2⟩,f.1.1.2⟩,f.1.2⟩,f.2⟩;rw[getD_set_ne _ _ (by decide)];exact j
theorem TD{i:Nat}{t4:aE}{a:ae}(b:wM c j_ f_ nn i_ t4)(e:bB a=true)(hi:gI f_ (keyOf a c.2.2.2.2.2)=some i):wM c j_ (f_.set i (lB (f_.getD i ak.aa) a)) nn i_ t4:=by
 obtain⟨f,j⟩:=tL hi;have hm:=bR (d:=ak.aa) f;refine⟨Jm b.go (Yt ((cY.1 b.go).2.1 _ hm) e j.symm) rfl rfl,b.ho,b.tm,b.ap,fun g h=> ?_⟩;rcases Q_ h with h|rfl;exact b.td g h;have:=b.td _ hm;exact⟨this.1,this.2.1,this.2.2.1,this.2.2.2⟩
theorem Zq{t4:aE}{a:ae}(l:dU c=true)(hw:0<=j_/\j_<=99899)(m:0<=nn)(hn2:nn<4611686018427387904)(d:wM c j_ f_ nn i_ t4)(p:bB a=true)(hi:gI f_ (keyOf a c.2.2.2.2.2)=none)(q:f_.length<12)(r:i_.length<=15):
 wM c j_ (f_++[rF c a nn j_]) (IntKind.i64.wrap (nn+1)) (AM i_ (j8 c (rF c a nn j_),nn)) t4:=by
 have j:=uc i_ (j8 c (rF c a nn j_),nn);rw[wrap64 (by omega) (by omega)];have f:0<=j8 c (rF c a nn j_):=VH l ⟨hw.1,by show j_<=99999;omega⟩ (.inl rfl);refine⟨TK d.go (ZX p m hw) q (fun g h=>(d.td g h).2.2.1) (R3 hi),SF d.ho ⟨f,m⟩ r,fun x b=> ?_,(u7 j).2 ?_,fun g h=> ?_⟩;rcases u0.1 (j.mem_iff.1 b)with b|b;have:=d.tm x b;omega;rw[sd.1 b];show nn<nn+1;omega;refine ajJ.2 ⟨d.ap,ajF _ _,fun x b y o=> ?_⟩;rw[sd.1 o];have:=d.tm x b;show¬x.2=nn;omega;rcases u0.1 h with h|h;obtain⟨s,u,h3,v⟩:=d.td g h;refine⟨s,u,by omega,v.imp (fun⟨x,b,e⟩=>⟨x,j.mem_iff.2 (akf _ b),e⟩) id⟩;rw[sd.1 h];refine⟨p_ _,by show(-1:Int)<=j_;omega,by show nn<nn+1;omega,.inl ⟨_,j.mem_iff.2 (ake _ (sd.2 rfl)),rfl,rfl⟩⟩
theorem Tf{s:Bool}(h:Rt k c ti j_ st m_ k_ gr f_ nn i_ l_ h_ g_)(a:ti<4611686018427387904)(j:nn<4611686018427387904)(y:i_.length<=15):
 (jZ s k (c,ti,j_,st,m_,k_,gr,f_,nn,i_,n_,l_,h_,g_)).1=true->cw k (jZ s k (c,ti,j_,st,m_,k_,gr,f_,nn,i_,n_,l_,h_,g_)).2=true:=by
 generalize b:h_.getD 3 al.aa=t;unfold jZ lj;dsimp only;rw[b];by_cases l:t.1=0;rw[an l];by_cases u:k_.length=0;rw[an u];intro g;simp[bT]at g;rw[a_ u,aX];intro _;exact cr.2 (WK h a b l (h.sub.fee _ (bR (by omega))));rw[a_ l];have m:=h.tas 3 (by decide);rw[b]at m
 have f:t.1=5:=by
  have v:=jw (k:=k) (w:=(c,ti,j_,st,m_,k_,gr,f_,nn,i_,n_,l_,h_,g_)) (i:=3) m;omega
 have q:=(kE f).1 m;by_cases o:t.2.1=0;rw[an o];unfold jl;dsimp only;rw[b];by_cases p:gr= -1;rw[an p,aX];intro _;exact cr.2 (QJ h a (.inl ⟨rfl,f⟩) b o p);rw[a_ p];intro g;simp[bT]at g;rw[a_ o];have r:t.2.1=1:=by omega
 have hnn0:=h.nn0;cases e:gI f_ (keyOf t.2.2.1 c.2.2.2.2.2)with
 |none=>
  dsimp only;by_cases x:12<=f_.length;rw[an x,aX];intro _;exact cr.2 (L4 (setit:=false) (n:=0) h a b f r (p_ _) (by decide) (p_ _) h.grp);rw[a_ x,aX];intro _
  exact cr.2 (L4 (setit:=true) (n:=nn) h a b f r (by rw[wrap64 (by omega) (by omega)];omega) (by decide) h.nn0
   (Zq h.cf h.nw h.nn0 j h.grp q.1.2.2.2.2.1 e (by omega) y))
 |some i=>
  dsimp only;rw[aX];intro _;have v:=(ju.1 ((cY.1 h.grp.go).2.1 _ (bR (d:=ak.aa) (tL e).1))).1;exact cr.2 (L4 (setit:=true) (n:=(f_.getD i ak.aa).1) h a b f r (p_ _) (by decide) v (TD h.grp q.1.2.2.2.2.1 e))
theorem V5(h:Rt k c ti j_ st m_ k_ gr f_ nn i_ l_ h_ g_)(d:ti<4611686018427387904)(l:h_.getD 4 al.aa=t)(m:t.1=0)(o:0<i_.length):
 Rt k c (tick ti) j_ st m_ k_ gr f_ nn (fQ i_).1 l_ (h_.set 4 (wm (fQ i_).2.1.2 g_.length)) (g_++[yK (fQ i_).2.1.2 j_ ti]):=by
 have b:=Au o;have hm:(fQ i_).2.1∈i_:=b.mem_iff.1 (ajX ..);have a:=(u6.1 h.grp.ho).1 _ hm;have f:=h.grp.tm _ hm;have ht0:=h.ti0
 refine iU h d (by decide) h.sto h.sub ((h.dee.up (by omega)).app ⟨DR ⟨by decide,by decide⟩ ⟨by decide,by decide⟩ a.2 h.nw.1 h.ti0,by show ti<ti+1;omega,by show-1<ti+1;omega,by show-1<ti+1;omega⟩)
  (il.refl _ st) (fi.app _ g_ _) (p_ _) ?_ (zU (by decide) h.tl h.loc l (by rw[dI (.inl rfl),dI (.inr (.inl m))]) rfl (fun _ _=>rfl) (by rw[gb (.inr rfl),gb (.inl (by omega))])) ?_
 have q:bC (wm (fQ i_).2.1.2 (g_.length:Int))=((g_.length:Nat):Int):=rfl;rw[q,ajY,xo];exact(iG (t:=wm (fQ i_).2.1.2 (g_.length:Int)) rfl).2 ⟨⟨rfl,by show(0:Int)<=(g_.length:Int);omega,p_ _,(show(0:Int)<=1 by decide),rfl,rfl,rfl,rfl,rfl,a.2⟩,by show(g_.length:Int)<_;rw[rv,C'];omega,rfl,rfl,rfl,rfl,rfl,f⟩;rw[aT _ _ (by rw[h.tl];decide)];have g:=h.grp;rw[l]at g;refine⟨g.go,YA g.ho o,fun x a=>g.tm x (b.mem_iff.1 (ajO _ a)),((u7 b).2 g.ap).tail,fun y p=> ?_⟩;obtain⟨r,s,u,j⟩:=g.td y p;refine⟨r,s,u,?_⟩;rcases j with⟨x,a,e⟩|j;rcases List.mem_cons.1 (b.mem_iff.2 a)with a|a;exact .inr ⟨rfl,by rw[<-e.1,a];rfl⟩;exact .inl ⟨x,a,e⟩;exact absurd (m.symm.trans j.1) (by decide)
theorem Sv{s x:Bool}{code:Int}{got:List ae}{a:List au}{b:List aC}(h:Rt k c ti j_ st m_ k_ gr f_ nn i_ l_ h_ g_)(e:ti<4611686018427387904)(g:h_.getD 4 al.aa=t)(j:t.1=6)(l:t.2.1=1)
 (hc:code∈lS 8) (d:wM c j_ a nn b zT):
 Rt k c (tick ti) j_ st m_ k_ (-1) a nn b l_ (h_.set 4 zT) (g_.set (bC t).toNat (fv s x (g_.getD (bC t).toNat ay.aa) j_ ti code got)):=by
 obtain⟨m,hn1,o,p,f,hw⟩:=eX h (by decide) g (by omega);have q:=(iG j).1 m
 refine iU h e (by decide) h.sto h.sub ((h.dee.up (by omega)).put (pR p h.nw.1 f hw h.ti0 (by rw[q.2.2.2.2.2.1];exact hc))) (il.refl _ st) (fi.put o) (p_ _) (qF (by decide))
  (Pj (by decide) h.tl h.loc g (dI (.inr (.inr (.inl (by omega))))) (dI (.inl rfl)) (by unfold dj;simp[j,l]) (gb (.inl (by decide)))) ?_
 rw[aT _ _ (by rw[h.tl];decide)];exact d
def xb(i_:List aC)(t4:aE):Prop:=t4.1=6->∀x∈i_,¬x.2=t4.2.2.2.2.2.2.2.1
theorem Xe(C:dU c=true)(hw:0<=j_/\j_<=99899)(b:wM c j_ f_ nn i_ t)(G:t.1=6)(H:t.2.2.2.2.2.2.2.1<nn)(D:0<=t.2.2.2.2.2.2.2.1)(E:xb i_ t)(I:i_.length<=15):
 wM c j_ (eV f_ t.2.2.2.2.2.2.2.1 j_) nn (zi c i_ (eV f_ t.2.2.2.2.2.2.2.1 j_) t.2.2.2.2.2.2.2.1) zT:=by
 have E:=E G;generalize J:t.2.2.2.2.2.2.2.1=n at*
 have o:∀g∈eV f_ n j_,(g∈f_/\¬g.1=n)\/(∃g0∈f_,g0.1=n/\g=je g0 j_):=by
  intro g h;unfold eV at h;cases e:fP f_ n with
  |none=>rw[e]at h;exact .inl ⟨h,Fz e g h⟩
  |some i=>
   rw[e]at h;obtain⟨q,B⟩:=iD e;dsimp only at h;have hu:∀x∈f_,x.1=n->x=f_.getD i ak.aa:=fun x m ex=>Ko b.go m q (by rw[ex,B]);by_cases he:(je (f_.getD i ak.aa) j_).2.2.2.2=[]
   rw[an he]at h;refine .inl ?_;have w:=(cY.1 b.go).2.2.1;have p:=mO (d:=ak.aa).2 w;rcases u0.1 h with h|h;obtain⟨j,v,r⟩:=Z' h;rw[ajP]at v;rw[ajT]at r;have:=p i q j (by omega);rw[cC _ (show j<f_.length by omega),r]at this;exact⟨ajZ h,by omega⟩;obtain⟨j,v,r⟩:=Z' h;rw[ajV]at v;rw[aj1]at r;have:=p (i+1+j) (by omega) i (by omega);rw[cC _ (show i+1+j<f_.length by omega),r]at this;exact⟨ajU h,by omega⟩;rw[a_ he]at h;obtain⟨j,v,r⟩:=kN ak.aa h;rw[R_]at v;by_cases z:i=j;subst z;rw[aT _ _ q]at r;exact .inr ⟨_,bR q,B,r.symm⟩;rw[getD_set_ne _ _ z]at r;subst r;refine .inl ⟨bR v,fun e3=>z ?_⟩;have p:=mO (d:=ak.aa).2 (cY.1 b.go).2.2.1;rcases Nat.lt_trichotomy i j with h6|h6|h6;have:=p j v i h6;omega;exact h6;have:=p i q j h6;omega
 have u:fN (eV f_ n j_) c.2.2.2.2.2=true:=by
  unfold eV;cases e:fP f_ n with
  |none=>exact b.go
  |some i=>
   obtain⟨q,B⟩:=iD e;have hm:=bR (d:=ak.aa) q;dsimp only;by_cases he:(je (f_.getD i ak.aa) j_).2.2.2.2=[]
   rw[an he];exact UL b.go;rw[a_ he];exact Jm b.go (Wq ((cY.1 b.go).2.1 _ hm) (b.td _ hm).1 hw.2 he) rfl rfl
 have hold:∀g∈f_,¬g.1=n->∃x∈i_,x.2=g.1/\x.1=j8 c g:=fun g h f=>(b.td g h).2.2.2.resolve_right fun s=>f (s.2.symm.trans J)
 have a:∀g∈eV f_ n j_,g.2.2.1<=j_/\g.2.2.2.1<=j_/\g.1<nn:=by
  intro g h;rcases o g h with⟨l,s⟩|⟨g0,l,s,rfl⟩;exact⟨(b.td g l).1,(b.td g l).2.1,(b.td g l).2.2.1⟩;exact⟨(b.td g0 l).1,p_ _,(b.td g0 l).2.2.1⟩
 unfold zi;cases e:fP (eV f_ n j_) n with
 |none=>
  refine⟨u,b.ho,b.tm,b.ap,fun g h=> ?_⟩;refine⟨(a g h).1,(a g h).2.1,(a g h).2.2,.inl ?_⟩;have f:=Fz e g h;rcases o g h with⟨l,s⟩|⟨g0,l,s,rfl⟩;exact hold g l f;exact absurd s f
 |some i=>
  obtain⟨q,B⟩:=iD e;have hm:=bR (d:=ak.aa) q;dsimp only;have w:=uc i_ (j8 c ((eV f_ n j_).getD i ak.aa),n);have A:=ju.1 ((cY.1 u).2.1 _ hm);refine⟨u,SF b.ho ⟨VH C A.2.2.1 A.2.2.2.1,D⟩ I,fun x m=> ?_,(u7 w).2 ?_,fun g h=> ?_⟩;rcases u0.1 (w.mem_iff.1 m)with m|m;exact b.tm x m;rw[sd.1 m];exact H;refine ajJ.2 ⟨b.ap,ajF _ _,fun x m y F=> ?_⟩;rw[sd.1 F];exact E x m;refine⟨(a g h).1,(a g h).2.1,(a g h).2.2,.inl ?_⟩;by_cases f:g.1=n;refine⟨_,w.mem_iff.2 (ake _ (sd.2 rfl)),f.symm,?_⟩;rw[Ko u h q (by rw[f,B])];rcases o g h with⟨l,s⟩|⟨g0,l,s,rfl⟩;obtain⟨x,m,z⟩:=hold g l f;exact⟨x,w.mem_iff.2 (akf _ m),z⟩;exact absurd s f
theorem Sd{s:Bool}(h:Rt k c ti j_ st m_ k_ gr f_ nn i_ l_ h_ g_)(a:ti<4611686018427387904)(v:xb i_ (h_.getD 4 al.aa))(y:(h_.getD 4 al.aa).1=6->i_.length<=15):
 (iq s k (c,ti,j_,st,m_,k_,gr,f_,nn,i_,n_,l_,h_,g_)).1=true->cw k (iq s k (c,ti,j_,st,m_,k_,gr,f_,nn,i_,n_,l_,h_,g_)).2=true:=by
 generalize e:h_.getD 4 al.aa=t at v y;unfold iq jg;dsimp only;rw[e];by_cases o:t.1=0;rw[an o];by_cases b:u9 i_ j_=true;rw[an b,aX];intro _;have A:0<i_.length:=by unfold u9 at b;simp only[kk,b_]at b;exact b.1
 exact cr.2 (V5 h a e o A);rw[a_ b];intro m;simp[bT]at m;rw[a_ o];have b:=h.tas 4 (by decide);rw[e]at b
 have l:t.1=6:=by
  have h1:=jw (k:=k) (w:=(c,ti,j_,st,m_,k_,gr,f_,nn,i_,n_,l_,h_,g_)) (i:=4) b;omega
 have q:=(iG l).1 b;have f:=h.grp;rw[e]at f;by_cases r:t.2.1=0;rw[an r];unfold jl;dsimp only;rw[e];by_cases j:gr= -1;rw[an j,aX];intro _;exact cr.2 (QJ h a (.inr ⟨rfl,l⟩) e r j);rw[a_ j];intro m;simp[bT]at m;rw[a_ r];have z:t.2.1=1:=by omega
 by_cases hk:np f_ t.2.2.2.2.2.2.2.1=true;rw[an hk,aX];intro _;exact cr.2 (Sv h a e l z (by decide) (Xe h.cf h.nw f l q.2.2.2.2.2.2.2 q.1.2.2.2.2.2.2.2.2.2 v (y l)));rw[a_ hk,aX];intro _;refine cr.2 (Sv h a e l z (by decide) ⟨f.go,f.ho,f.tm,f.ap,fun g u=> ?_⟩);obtain⟨B,C,D,h6⟩:=f.td g u;refine⟨B,C,D,.inl (h6.resolve_right fun h7=>hk ?_)⟩;unfold np;obtain⟨i,E,_⟩:=DY (d:=ak.aa) (p:=fun x:au=>decide (x.1=t.2.2.2.2.2.2.2.1)) u (by simpa using h7.2.symm);have:fP f_ t.2.2.2.2.2.2.2.1=some i:=E;rw[this];rfl
end
def mi(w:ah):List aq:=w.2.2.2.1
def TP(w:ah):List aC:=w.2.2.2.2.2.2.2.2.2.1
def nnW(w:ah):Int:=w.2.2.2.2.2.2.2.2.1
theorem XN{s:Bool}{k:Nat}{w:ah}{i:Nat}(h:cw k w=true)(hi:i<5)(a:w.2.1<4611686018427387904)(j:∀p∈mi w,p.2.1<4611686018427387904)
 (l:i=3->nnW w<4611686018427387904/\(TP w).length<=15) (m:i=4->xb (TP w) ((eQ w).getD 4 al.aa)/\(((eQ w).getD 4 al.aa).1=6->(TP w).length<=15)):
 (qX s k w i).1=true->cw k (qX s k w i).2=true:=by
 obtain⟨c,ti,j_,st,m_,k_,gr,f_,nn,i_,n_,l_,h_,g_⟩:=w;have R:=cr.1 h;generalize b:h_.getD i al.aa=t;have o:=R.tas i hi;rw[b]at o;have ho:=jw (k:=k) (w:=(c,ti,j_,st,m_,k_,gr,f_,nn,i_,n_,l_,h_,g_)) (i:=i) o;unfold qX;dsimp only[eQ];rw[b];by_cases e:t.1=1;rw[an e];exact WJ R a j (by omega) b e;rw[a_ e];by_cases q:t.1=2\/t.1=3;rw[an q];unfold pU AE;dsimp only;rw[b];by_cases f:t.1=2;rw[an f];exact WW R a (by omega) b f;rw[a_ f];exact T5 R a (by omega) b (by omega);rw[a_ q];by_cases g:t.1=4;rw[an g];exact Ry R a j (by omega) b g;rw[a_ g];by_cases d:i=3;rw[an d];exact Tf R a (l d).1 (l d).2;rw[a_ d];by_cases h6:i=4;rw[an h6];exact Sd R a (m h6).1 (m h6).2;rw[a_ h6];intro r;cases r
section
variable{k:Nat}{c:bo}{ti j_ gr nn:Int}{st:List aq}{m_:List bU}{k_ l_:List ae}{f_:List au}{i_:List aC}{n_:List bY}{h_:List aE}{g_:List ax}{t:aE}
theorem Bq{i:Nat}{t':aE}{op:Int}(h:Rt k c ti j_ st m_ k_ gr f_ nn i_ l_ h_ g_)(a:ti<4611686018427387904)(hi:i<3)(f:h_.getD i al.aa=t)(g:t.1=0)(e:t'.2.1=0)
 (b:1<=op/\op<=9) (j:0<=t'.2.2.2.2.2.2.2.1)
 (l:cQ k c.1 st nn ((g_.length:Int)+1) (uI t' g_.length) (op,(i:Int),t'.2.2.1,t'.2.2.2.1,0,t'.2.2.2.2.2.2.2.1,0,[],j_,ti,-1,-1) (i:Int)=true):
 Rt k c (tick ti) j_ st m_ k_ gr f_ nn i_ l_ (h_.set i (uI t' g_.length)) (g_++[(op,(i:Int),t'.2.2.1,t'.2.2.2.1,0,t'.2.2.2.2.2.2.2.1,0,[],j_,ti,-1,-1)]):=by
 have d:=h.ti0
 refine iU h a (by omega) h.sto h.sub ((h.dee.up (by omega)).app ⟨DR b (by omega) j h.nw.1 d,by show ti<ti+1;omega,by show-1<ti+1;omega,by show-1<ti+1;omega⟩)
  (il.refl _ st) (fi.app _ g_ _) (p_ _) ?_ (zU (by omega) h.tl h.loc f (by rw[dI (t:=uI t' g_.length) (.inl e),dI (.inr (.inl g))]) rfl (fun _ _=>rfl) (by rw[gb (t:=uI t' g_.length) (.inr e),gb (.inl (by omega))])) (h.grp.other (by omega))
 have m:bC (uI t' (g_.length:Int))=((g_.length:Nat):Int):=rfl;rw[m,ajY,xo,rv,C'];exact l
theorem Pm{d:ax}{a:List bU}(h:Rt k c ti j_ st m_ k_ gr f_ nn i_ l_ h_ g_)(f:ti<4611686018427387904)(o:gz k d=true/\d.2.2.2.2.2.2.2.2.2.1<ti+1/\d.2.2.2.2.2.2.2.2.2.2.1<ti+1/\d.2.2.2.2.2.2.2.2.2.2.2<ti+1)
 (hs:Av c a k_ l_):Rt k c (tick ti) j_ st a k_ gr f_ nn i_ l_ h_ (g_++[d]):=by
 have g:=h.ti0;have e:=sW g f;refine⟨h.cf,by omega,h.nn0,h.nw,h.sto,hs,by rw[e];exact(h.dee.up (by omega)).app o,h.tl,fun j m=> ?_,h.loc,h.grp⟩;have b:=h.tas j m;by_cases l:(h_.getD j al.aa).1=0;exact Ib b l;obtain⟨b1,b2,b3⟩:=DE b l;rw[ld _ (by omega)];exact FK b (by rw[rv];omega) (p_ _) (fun _ _=>rfl) (fun _ h=>h)
theorem Zj{a:Int}(h:Rt k c ti j_ st m_ k_ gr f_ nn i_ l_ h_ g_)(b:ti<4611686018427387904)(h1:j_<=a)(h2:a<=99899):
 Rt k c (tick ti) a st m_ k_ gr f_ nn i_ l_ h_ g_:=by
 have d:=h.ti0;have e:=sW d b;have hw:=h.nw;refine⟨h.cf,by omega,h.nn0,by omega,h.sto,h.sub,by rw[e];exact h.dee.up (by omega),h.tl,h.tas,h.loc,h.grp.go,h.grp.ho,h.grp.tm,h.grp.ap,fun g f=> ?_⟩;have:=h.grp.td g f;exact⟨by omega,by omega,this.2.2.1,this.2.2.2⟩
end
theorem Rr{k:Nat}{c1 nn m j_ ti:Int}{st:List aq}{i:Nat}{a:ae}{l:List af}(hi:i<3)(hm:0<=m)(hc:0<c1):
 (da a=true->cQ k c1 st nn (m+1) (uI (wc a) m) (1,(i:Int),a,[],0,0,0,[],j_,ti,-1,-1) (i:Int)=true)/\
 (eo l=true->cQ k c1 st nn (m+1) (uI (xw l) m) (3,(i:Int),BH,l,0,0,0,[],j_,ti,-1,-1) (i:Int)=true)/\
 cQ k c1 st nn (m+1) (uI tI m) (4,(i:Int),BH,[],0,0,0,[],j_,ti,-1,-1) (i:Int)=true/\
 cQ k c1 st nn (m+1) (uI tZ m) (6,(i:Int),BH,[],0,0,0,[],j_,ti,-1,-1) (i:Int)=true:=by
 have f:om []=true:=by unfold om;simp[kY]
 have g:cx []=true:=by unfold cx;simp[kY]
 refine⟨fun b=>(jy (t:=uI (wc a) m) rfl).2 ?_,fun d=>(qN (t:=uI (xw l) m) rfl).2 ?_,(iF (t:=uI tI m) rfl).2 ?_,(jB (t:=uI tZ m) rfl).2 ?_⟩;rw[a_ (by show¬(0:Int)=2;decide)];exact⟨⟨by omega,by omega,hm,p_ _,by show(0:Int)<=2;decide,gL b,rfl,rfl,rfl,rfl,rfl⟩,by show m<m+1;omega,rfl,rfl,by show(¬(-1:Int)= -1↔(0:Int)=2);decide,rfl,rfl,b⟩;exact⟨⟨by omega,by omega,hm,p_ _,by show(0:Int)<=1;decide,rfl,d,rfl,rfl,rfl,rfl⟩,by show m<m+1;omega,rfl,rfl,rfl,rfl,rfl⟩;rw[a_ (by show¬(0:Int)=2;decide)];exact⟨⟨by omega,by omega,hm,p_ _,by show(0:Int)<=2;decide,rfl,rfl,f,rfl,g,rfl⟩,by show m<m+1;omega,rfl,rfl,rfl,rfl,vK.2 ⟨fun p e=>by simp[uI,tI]at e,fun _=>by simp[uI,tI]⟩,p_ _,by show(0:Int)<=2;decide,hc⟩;exact⟨⟨by omega,by omega,hm,p_ _,by show(0:Int)<=1;decide,rfl,rfl,p_ _,by show(0:Int)<=2;decide,rfl,rfl,rfl⟩,by show m<m+1;omega,rfl,rfl,rfl,rfl,hc⟩
theorem Sk{k:Nat}{w:ah}{i:Int}{t':aE}{op:Int}(h:Lv k w i=true)(b:w.2.1<4611686018427387904)
 (f:(∃a,da a=true/\t'=wc a/\op=1)\/(∃l,eo l=true/\t'=xw l/\op=3)\/(t'=tI/\op=4)\/(t'=tZ/\op=6)):cw k (iL w i t' op)=true:=by
 obtain⟨c,ti,j_,st,m_,k_,gr,f_,nn,i_,n_,l_,h_,g_⟩:=w;unfold Lv dD JO bw at h;simp only[kk,b_]at h;obtain⟨g,⟨h2,h3⟩,h4,d⟩:=h;have R:=cr.1 g;obtain⟨j,rfl⟩:∃j:Nat,i=(j:Int):=⟨i.toNat,by omega⟩
 rw[ajY]at d;have h0:=iK R.sto.ok;have e:=R.sto.len;have hc:0<c.1:=by omega
 obtain⟨o,p,q,r⟩:=Rr (k:=k) (c1:=c.1) (nn:=nn) (m:=(g_.length:Int)) (j_:=j_) (ti:=ti) (st:=st) (i:=j) (a:=t'.2.2.1) (l:=t'.2.2.2.1) (by omega) (by omega) hc;refine cr.2 ?_;rcases f with⟨a,s,rfl,rfl⟩|⟨l,e,rfl,rfl⟩|⟨rfl,rfl⟩|⟨rfl,rfl⟩;exact Bq (t':=wc a) (op:=1) R b (by omega) rfl d rfl (by decide) (p_ _) (o s);exact Bq (t':=xw l) (op:=3) R b (by omega) rfl d rfl (by decide) (p_ _) (p e);exact Bq (t':=tI) (op:=4) R b (by omega) rfl d rfl (by decide) (p_ _) q;exact Bq (t':=tZ) (op:=6) R b (by omega) rfl d rfl (by decide) (p_ _) r
theorem ON{k:Nat}{w:ah}{i:Int}{a:ae}(h:Lv k w i=true)(b:w.2.1<4611686018427387904):cw k (refused w i a)=true:=by
 obtain⟨c,ti,j_,st,m_,k_,gr,f_,nn,i_,n_,l_,h_,g_⟩:=w;unfold Lv dD JO bw at h;simp only[kk,b_]at h;obtain⟨d,⟨h2,h3⟩,h4,h5⟩:=h;have R:=cr.1 d;exact cr.2 (Pm R b ⟨xt (op:=1) (j:=0) (n:=0) (code:=4) ⟨by decide,by decide⟩ (by omega) (by decide) (by decide) R.nw.1 R.ti0 (by decide),by show ti<ti+1;omega,by show ti<ti+1;omega,by show ti<ti+1;omega⟩ R.sub)
theorem sZ{e:Ty}{B:Nat}:∀ {l:List e.den},(∀x∈l,ag e x<=B)->ag (.sl e) l<=(B+1)*l.length
 | [],_=>by rw[bu];exact aka _
 |x::l,h=>by
  have h1:=h x (ajX ..);have h2:=sZ (l:=l) fun y a=>h y (ajO _ a);rw[cG,ajW,Nat.mul_add];omega
def gS:Nat->Nat
 |0=>0
 |s+1=>gS s+(52-s)
theorem abv(s:Nat)(h:s<=53):gS s<=1378:=by
 have:∀s,s<54->gS s<=1378:=by decide
 exact this s (by omega)
def fS(t:aE):Nat:=if t.1=0 then 0 else if t.2.1=0 then 1 else 2
def mI(l:List au):Nat:=(l.flatMap fun g=>g.2.2.2.2).length
structure Ex(n:Nat)(c:bo)(ti:Int)(st:List aq)(k_:List ae)(f_:List au)(nn:Int)(i_:List aC)(n_:List bY)(l_:List ae)(h_:List aE)(g_:List ax):Prop where
 ti:ti<=n
 nn:nn<=n
 ver:∀p∈st,p.2.1<=n
 hp:i_.length+(if(h_.getD 4 al.aa).1=6 then 1 else 0)<=f_.length
 fr:xb i_ (h_.getD 4 al.aa)
 fe:ag (.sl ab) k_<=100*n
 sa:ag (.sl ab) l_<=100*n
 pot:3*mI f_+3*n_.length+fS (h_.getD 3 al.aa)+fS (h_.getD 4 al.aa)<=n
 sk:ag (.sl eP) n_<=200*n_.length+97*gS n_.length
 de:ag (.sl ay) g_<=3000*n+97*gS n_.length
 tg:∀i,i<5->(h_.getD i al.aa).2.2.2.2.2.2.1.length<=8*(h_.getD i al.aa).2.2.2.2.2.1.length
section
variable{k:Nat}(hk:9223372036854775808<=k)
include hk
theorem Wj{x:af}(h:fU x=true):ag ai x<=20:=by
 rw[ot hk];unfold fU gq kj at h;simp only[kk,b_]at h;omega
theorem yw{l:List af}(h:eo l=true):ag (.sl ai) l<=84:=by
 have a:=NM.1 h;have h2:=sZ (e:=ai) (B:=20) (l:=l) fun x b=>Wj hk (a.2.1 x b);have:21*l.length<=21*4:=Nat.mul_le_mul_left _ a.1;omega
theorem ml{a:ae}(h:bB a=true):ag ab a<=96:=by
 rw[bI hk];unfold bB kj at h;simp only[kk,b_]at h;have:=yw hk h.1.1.1.1;omega
theorem kC{l:List ae}(h:∀a∈l,bB a=true):ag (.sl ab) l<=97*l.length:=
 sZ (e:=ab) (B:=96) fun a b=>ml hk (h a b)
theorem Ix:∀ {l:List aZ},(∀c∈l,fw k c=true)->ag (.sl az) l<=98*(l.flatMap lJ).length
 | [],_=>by rw[bu];exact aka _
 |c::l,h=>by
  have b:=pT.1 (h c (ajX ..));have h2:=Ix (l:=l) fun y d=>h y (ajO _ d);have h3:=kC hk fun a e=>(b.1 a e).1;rw[cG,eW hk,Q',rv];simp only[lJ];have:=b.2.1;omega
theorem Nw{st:List aq}(h:eY k st=true):ag (.sl aj) st<=st.length+98*bm st:=by
 have a:∀p∈st,∀c∈p.2.2,fw k c=true:=by
  intro p b c hc;obtain⟨i,e,rfl⟩:=kN aj.aa b;exact((eJ.1 ((cS.1 h).1 i e)).1 c hc).1
 unfold bm cK;clear h
 induction st with
 |nil=>rw[bu];exact aka _
 |cons p st f=>
  have h2:=f fun q d=>a q (ajO _ d);have h3:=Ix hk (a p (ajX ..));have h4:(aU p).length=(p.2.2.flatMap lJ).length:=rfl;rw[cG,e9 hk,Q',rv,ajW];omega
theorem Up{l:List au}{by_:List ByteArray}(h:∀g∈l,fT g by_=true):ag (.sl ak) l<=85*l.length+97*mI l:=by
 unfold mI
 induction l with
 |nil=>rw[bu];exact aka _
 |cons g l f=>
  have h2:=f fun q d=>h q (ajO _ d);have b:=ju.1 (h g (ajX ..));have h4:=yw hk b.2.1;have h5:=kC hk fun a e=>(b.2.2.2.2.2.1 a e).1;rw[cG,gV hk,Q',rv,ajW];omega
theorem Yl{l:List bU}(h:∀s∈l,ij s=true):ag (.sl bp) l<=292*l.length:=
 sZ (e:=bp) (B:=291) fun s b=>by
  have a:=h s b;unfold ij cx at a;simp only[kk,b_]at a;have h2:=kC hk (eA.1 a.2.2);rw[sR hk];omega
theorem Xl(l:List Int):ag (.sl (.int .i64)) l=l.length:=by
 induction l with
 |nil=>exact bu
 |cons a l b=>
  have:ag (.sl (.int .i64)) (a::l)=1+ag (.int .i64) a+ag (.sl (.int .i64)) l:=cG (e:= .int .i64) a l;rw[this,b,ajW];simp only[ag];omega
theorem qw{c:bo}(h:dU c=true):ag eK c<=18/\1<=c.1/\c.1<=3/\c.2.1<=8/\c.2.2.1<=2:=by
 unfold dU vZ bw at h;simp only[kk,b_]at h
 have h1:=sZ (e:= .str) (B:=8) (l:=c.2.2.2.2.2) fun x a=>by
  have:=eA.1 h.2.1 x a;unfold gq at this;simp only[kk,b_]at this;show x.size<=8;omega
 rw[sO hk];have:=h.2.2.1;omega
variable{c:bo}{ti j_ gr nn:Int}{st:List aq}{m_:List bU}{k_ l_:List ae}{f_:List au}{i_:List aC}{n_:List bY}{h_:List aE}{g_:List ax}{n:Nat}
theorem Xg{t:aE}{c1 nn m i:Int}{d:ax}(h:cQ k c1 st nn m t d i=true)(hl:t.2.2.2.2.2.2.1.length<=8*t.2.2.2.2.2.1.length):ag al t<=2600:=by
 have e:eC t i=true:=by unfold cQ at h;simp only[kk]at h;exact h.1
 rw[fO hk,Xl hk];have b:ag ab cW=0:=by rw[bI hk];unfold cW;rw[bu];rfl
 have el:ag (.sl ai) ([]:List af)=0:=bu;have a:ag (.sl ab) ([]:List ae)=0:=bu;by_cases f:t.1=1;have q:=((jy f).1 h).1;have:=ml hk q.2.2.2.2.2.1;rw[q.2.2.2.2.2.2.1,q.2.2.2.2.2.2.2.2.1,q.2.2.2.2.2.2.2.2.2.1,el,a];simp only[ajR];omega;by_cases g:t.1=2;have q:=((qN g).1 h).1;have:=yw hk q.2.2.2.2.2.2.1;rw[q.2.2.2.2.2.1,q.2.2.2.2.2.2.2.2.1,q.2.2.2.2.2.2.2.2.2.1,b,a];simp only[ajR];omega;by_cases j:t.1=3;have q0:=(iF j).1 h;have q:=q0.1;have l:=q.2.2.2.2.2.2.2.2.2.1;unfold cx at l;have:=kC hk (eA.1 l)
 have hI:t.2.2.2.2.1<=3:=by
  have:=q0.2.2.2.2.2.2.2;split at this<;>omega
 have hI2:=q.2.2.2.2.2.2.2.2.1;rw[q.2.2.2.2.2.1,q.2.2.2.2.2.2.1,b,el];omega;by_cases o:t.1=4;have q:=((jB o).1 h).1;rw[q.2.2.2.2.2.1,q.2.2.2.2.2.2.1,q.2.2.2.2.2.2.2.2.2.1,q.2.2.2.2.2.2.2.2.2.2.1,b,el,a];simp only[ajR];omega;by_cases p:t.1=5;have q:=((kE p).1 h).1;have:=ml hk q.2.2.2.2.1;rw[q.2.2.2.2.2.1,q.2.2.2.2.2.2.2.1,q.2.2.2.2.2.2.2.2.1,el,a];simp only[ajR];omega;by_cases h6:t.1=6;have q:=((iG h6).1 h).1;rw[q.2.2.2.2.1,q.2.2.2.2.2.1,q.2.2.2.2.2.2.2.1,q.2.2.2.2.2.2.2.2.1,b,el,a];simp only[ajR];omega
 have r:t=zT:=by
  unfold eC at e;simp only[f,g,j,o,p,h6,decide_false,Bool.false_and,Bool.or_false,kk,b_]at e;exact e.2.2
 rw[r];unfold zT;rw[b,el,a];simp only[ajR];omega
theorem U7(h:Rt k c ti j_ st m_ k_ gr f_ nn i_ l_ h_ g_)(a:Ex n c ti st k_ f_ nn i_ n_ l_ h_ g_)(hn:n<=160):ag aF (c,ti,j_,st,m_,k_,gr,f_,nn,i_,n_,l_,h_,g_)<=1000000:=by
 obtain⟨c0,c1,c2,c3,c4⟩:=qw hk h.cf;have a1:=Nw hk h.sto.ok;have a2:=h.sto.cap;have a3:=(cS.1 h.sto.ok).2;have a4:=Yl hk h.sub.sub;have a5:=h.sub.len;have a6:=Up hk (cY.1 h.grp.go).2.1;have a7:=(cY.1 h.grp.go).1;have a8:=a.pot;have a9:=a.hp;have b1:=abv n_.length (by omega);have b2:=a.sk;have b3:=a.de;have b4:=a.fe;have b5:=a.sa
 have f:ag (.sl al) h_<=2601*h_.length:=sZ (e:=al) (B:=2600) fun t d=>by
  obtain⟨i,b,rfl⟩:=kN al.aa d;rw[h.tl]at b;exact Xg hk (h.tas i b) (a.tg i b)
 have b7:ag (.sl aD) i_<=1*i_.length:=sZ (e:=aD) (B:=0) fun t d=>by rw[WO hk];exact J1 _
 rw[h.tl]at f;rw[kR hk];dsimp only;omega
end
theorem W3(l m:List au):mI (l++m)=mI l+mI m:=by unfold mI;rw[aj5,rv]
theorem Hb{l:List au}{i:Nat}{g:au}(hi:i<l.length):mI (l.set i g)+(l.getD i ak.aa).2.2.2.2.length=mI l+g.2.2.2.2.length:=GL (f:=fun g:au=>g.2.2.2.2) hi
theorem ZN{l:List au}{i:Nat}(hi:i<l.length):(l.getD i ak.aa).2.2.2.2.length<=mI l:=by
 have:=Hb (l:=l) (i:=i) (g:=(0,[],0,0,[])) hi;simp only[ajR]at this;omega
theorem XK(l:List au)(i:Nat):mI (l.take i++l.drop (i+1))<=mI l:=by
 have b:(l.take i++l.drop (i+1)).Sublist l:=by
  rw[<-aj3];exact akd _ _
 unfold mI;generalize l.take i++l.drop (i+1)=m at b
 induction b with
 |slnil=>exact J1 _
 |cons a h d=>rw[Q',rv];omega
 |cons_cons a h d=>rw[Q',Q',rv,rv];omega
section
variable{k:Nat}(hk:9223372036854775808<=k)
include hk
theorem qR{x:Bool}{d:ax}{j_ ti code:Int}{got:List ae}:ag ay (fv true x d j_ ti code got)<=ag ay d+ag (.sl ab) got:=by
 unfold fv rD AD rH;rw[an (by rfl)];split;rw[ek hk,ek hk];dsimp only;omega;rw[ek hk,ek hk];dsimp only;omega
theorem nx{l:List ax}{n:Nat}{d':ax}{B:Nat}(a:n<l.length)(h:ag ay d'<=ag ay (l.getD n ay.aa)+B):ag (.sl ay) (l.set n d')<=ag (.sl ay) l+B:=by
 have:=nu (e:=ay) l n d' a;have e:l.getD n (Ty.aa ay)=l.getD n ay.aa:=rfl;omega
theorem tj{l:List ax}{d:ax}{B:Nat}(h:ag ay d+1<=B):ag (.sl ay) (l++[d])<=ag (.sl ay) l+B:=by
 rw[iS,cG,bu];omega
theorem mP:ag ab cW=0:=by rw[bI hk];unfold cW;rw[bu];rfl
variable{c:bo}{ti j_ gr nn:Int}{st:List aq}{m_:List bU}{k_ l_:List ae}{f_:List au}{i_:List aC}{n_:List bY}{h_:List aE}{g_:List ax}{n i:Nat}{t:aE}
omit hk in
theorem Ex.jO{t':aE}{u:List aq}{o q:List ae}{a:List ax}(h:Ex n c ti st k_ f_ nn i_ n_ l_ h_ g_)(A:0<=ti)(hn:n<=1000)(tl:h_.length=5)(hi:i<3)
 (B:∀p∈u,p.2.1<=(n:Int)+1) (hf:ag (.sl ab) o<=ag (.sl ab) k_+100) (hs:ag (.sl ab) q<=ag (.sl ab) l_+100) (hd:ag (.sl ay) a<=ag (.sl ay) g_+3000)
 (C:t'.2.2.2.2.2.2.1.length<=8*t'.2.2.2.2.2.1.length):Ex (n+1) c (tick ti) u o f_ nn i_ n_ q (h_.set i t') a:=by
 have e:=sW A (by have:=h.ti;omega);have D:(h_.set i t').getD 3 al.aa=h_.getD 3 al.aa:=getD_set_ne _ _ (by omega);have v:(h_.set i t').getD 4 al.aa=h_.getD 4 al.aa:=getD_set_ne _ _ (by omega);have:=h.ti;have:=h.nn;have:=h.fe;have:=h.sa;have:=h.pot;have:=h.de;refine⟨by rw[e];omega,by omega,fun p y=>by have:=B p y;omega,by rw[v];exact h.hp,by rw[v];exact h.fr,by omega,by omega,by rw[D,v];omega,h.sk,by omega,fun j z=> ?_⟩;by_cases w:i=j;subst w;rw[aT _ _ (by omega)];exact C;rw[getD_set_ne _ _ w];exact h.tg j z
omit hk in
theorem Ex.alone{a:List ax}(h:Ex n c ti st k_ f_ nn i_ n_ l_ h_ g_)(q:0<=ti)(hn:n<=1000)(hd:ag (.sl ay) a<=ag (.sl ay) g_+3000):
 Ex (n+1) c (tick ti) st k_ f_ nn i_ n_ l_ h_ a:=by
 have e:=sW q (by have:=h.ti;omega);have:=h.ti;have:=h.nn;have:=h.fe;have:=h.sa;have:=h.pot;have:=h.de;exact⟨by rw[e];omega,by omega,fun p o=>by have:=h.ver p o;omega,h.hp,h.fr,by omega,by omega,by omega,h.sk,by omega,h.tg⟩
omit hk in
theorem Ex.stay(h:Ex n c ti st k_ f_ nn i_ n_ l_ h_ g_):Ex (n+1) c ti st k_ f_ nn i_ n_ l_ h_ g_:=by
 have:=h.ti;have:=h.nn;have:=h.fe;have:=h.sa;have:=h.pot;have:=h.de;exact⟨by omega,by omega,fun p a=>by have:=h.ver p a;omega,h.hp,h.fr,by omega,by omega,by omega,h.sk,by omega,h.tg⟩
omit hk in
theorem mT{st:List aq}{j:Nat}{x:Int}{B:Int}(h:∀p∈st,p.2.1<=B):∀p∈cH st j x,p.2.1<=B:=by
 intro p a;unfold cH at a;by_cases b:j<st.length;rcases Q_ a with a|rfl;exact h p a;exact h (st.getD j aj.aa) (bR b);rw[aj7 (by omega)]at a;exact h p a
omit hk in
theorem ox:zT.2.2.2.2.2.2.1.length<=8*zT.2.2.2.2.2.1.length:=by decide
theorem aaQ(h:Rt k c ti j_ st m_ k_ gr f_ nn i_ l_ h_ g_)(o:Ex n c ti st k_ f_ nn i_ n_ l_ h_ g_)(hn:n<=160)(hi:i<3)(x:h_.getD i al.aa=t)(F:t.1=1):
 (cN true k (c,ti,j_,st,m_,k_,gr,f_,nn,i_,n_,l_,h_,g_) i).1=true->
 ∃u v m g y j a b,(cN true k (c,ti,j_,st,m_,k_,gr,f_,nn,i_,n_,l_,h_,g_) i).2=(c,u,j_,v,m,g,y,f_,nn,i_,n_,j,a,b)/\
  Ex (n+1) c u v g f_ nn i_ n_ j a b:=by
 have B:=iK h.sto.ok;obtain⟨g1,g2⟩:=km (k:=k) (s:=t.2.2.1.1) B;obtain⟨H,z,hb,A,hv1,hw⟩:=eX h (by omega) x (by omega);have G:=(jy F).1 H;have f:∀p∈st,p.2.1<=(n:Int)+1:=fun p r=>by have:=o.ver p r;omega
 have q:=o.tg i (by omega);rw[x]at q;unfold cN ux;dsimp only;rw[x];by_cases C:t.2.1=0;rw[an C];unfold fF;dsimp only;rw[x];by_cases w:(st.getD (bF k st t.2.2.1.1).toNat aj.aa).1= -1;rw[an w,aX];intro _;exact⟨_,_,_,_,_,_,_,_,rfl,o.jO h.ti0 (by omega) h.tl hi (mT f) (by omega) (by omega) (by omega) q⟩;rw[a_ w];intro A;simp[bT]at A;rw[a_ C];by_cases D:t.2.1=1;rw[an D];by_cases w:uW k c st t.2.2.1=true;rw[an w,aX];intro _;exact⟨_,_,_,_,_,_,_,_,rfl,o.jO h.ti0 (by omega) h.tl hi (mT f) (by omega) (by omega) (nx hk z (S_ (qR hk) (by rw[bu];omega))) ox⟩;rw[a_ w,aX];intro _;refine⟨_,_,_,_,_,_,_,_,rfl,o.jO h.ti0 (by omega) h.tl hi (fun p r=> ?_) (by omega) (by omega) (nx hk z ?_) q⟩;rw[Aq B]at r;rcases Q_ r with r|rfl;exact f p r;have hv:=o.ver _ (bR (d:=aj.aa) g1);have hv0:=(eJ.1 ((cS.1 h.sto.ok).1 _ g1)).2.2.2;rw[(GS k _ _).1,wrap64 (by omega) (by omega)];omega;unfold xc;rw[ek hk,ek hk];dsimp only;omega;rw[a_ D,aX];intro _;have ha:=ml hk G.1.2.2.2.2.2.1
 have E:∀l:List ae,ag (.sl ab) (l++[t.2.2.1])<=ag (.sl ab) l+100:=fun l=>by
  rw[iS (e:=ab),cG (e:=ab),bu];omega
 refine⟨_,_,_,_,_,_,_,_,rfl,o.jO h.ti0 (by omega) h.tl hi (mT f) (E _) (E _) ?_ ox⟩
 have a1:ag (.sl ay) (g_++[iA (rC i t.2.2.1) j_ ti ti ti])<=ag (.sl ay) g_+200:=tj hk (by
  unfold iA rC;rw[ek hk];dsimp only;rw[bu,bu];omega)
 have a2:ag (.sl ay) ((g_++[iA (rC i t.2.2.1) j_ ti ti ti]).set (bC t).toNat (rH (g_.getD (bC t).toNat ay.aa) ti))<=ag (.sl ay) (g_++[iA (rC i t.2.2.1) j_ ti ti ti])+0:=nx hk (by rw[rv];omega) (by
  rw[ld _ z];unfold rH;rw[ek hk,ek hk];exact J1 _)
 omega
end
section
variable{k:Nat}(hk:9223372036854775808<=k)
include hk
variable{c:bo}{ti j_ gr nn:Int}{st:List aq}{m_:List bU}{k_ l_:List ae}{f_:List au}{i_:List aC}{n_:List bY}{h_:List aE}{g_:List ax}{n i:Nat}{t:aE}
theorem abf(h:Rt k c ti j_ st m_ k_ gr f_ nn i_ l_ h_ g_)(q:Ex n c ti st k_ f_ nn i_ n_ l_ h_ g_)(hn:n<=160)(hi:i<3)(s:h_.getD i al.aa=t)(ho:t.1=2):
 (bT (oo true k (c,ti,j_,st,m_,k_,gr,f_,nn,i_,n_,l_,h_,g_) i)).1=true->
 ∃m o j d u f a b,(bT (oo true k (c,ti,j_,st,m_,k_,gr,f_,nn,i_,n_,l_,h_,g_) i)).2=(c,m,j_,o,j,d,u,f_,nn,i_,n_,f,a,b)/\
  Ex (n+1) c m o d f_ nn i_ n_ f a b:=by
 have h0:=iK h.sto.ok;obtain⟨hr,x,hb,v,hv1,hw⟩:=eX h (by omega) s (by omega);have g:∀p∈st,p.2.1<=(n:Int)+1:=fun p y=>by have:=q.ver p y;omega
 have r:=q.tg i (by omega);rw[s]at r;unfold oo;dsimp only;rw[s];by_cases w:t.2.1=0;rw[an w];unfold fF;dsimp only;rw[s];by_cases l:(st.getD (bF k st t.2.2.2.1).toNat aj.aa).1= -1;rw[an l,aX];intro _;exact⟨_,_,_,_,_,_,_,_,rfl,q.jO h.ti0 (by omega) h.tl hi (mT g) (by omega) (by omega) (by omega) r⟩;rw[a_ l];intro v;simp[bT]at v;rw[a_ w];by_cases l:(cj k st t.2.2.2.1).2=true;rw[an l,aX];intro _;have ha:=ml hk (gL (h.sto.fit _ (Fo l).2));exact⟨_,_,_,_,_,_,_,_,rfl,q.jO h.ti0 (by omega) h.tl hi (mT g) (by omega) (by omega) (nx hk x (S_ (qR hk) (by rw[cG (e:=ab),bu];omega))) ox⟩;rw[a_ l,aX];intro _;exact⟨_,_,_,_,_,_,_,_,rfl,q.jO h.ti0 (by omega) h.tl hi (mT g) (by omega) (by omega) (nx hk x (S_ (qR hk) (by rw[bu];omega))) ox⟩
omit hk in
theorem QV{st:List aq}{j:Nat}(a:j<st.length):(aU (st.getD j aj.aa)).length<=bm st:=by
 have:=count_set (l:=st) (p:=(0,0,[])) a;have e:(aU ((0,0,[]):aq)).length=0:=rfl;omega
theorem Z3(h:Rt k c ti j_ st m_ k_ gr f_ nn i_ l_ h_ g_)(j:Ex n c ti st k_ f_ nn i_ n_ l_ h_ g_)(hn:n<=160)(hi:i<3)(s:h_.getD i al.aa=t)(B:t.1=3):
 (bT (ig true k (c,ti,j_,st,m_,k_,gr,f_,nn,i_,n_,l_,h_,g_) i)).1=true->
 ∃l m g e u f a b,(bT (ig true k (c,ti,j_,st,m_,k_,gr,f_,nn,i_,n_,l_,h_,g_) i)).2=(c,l,j_,m,g,e,u,f_,nn,i_,n_,f,a,b)/\
  Ex (n+1) c l m e f_ nn i_ n_ f a b:=by
 have h0:=iK h.sto.ok;obtain⟨E,F,hb,v,hv1,hw⟩:=eX h (by omega) s (by omega);have C:=(iF B).1 E;obtain⟨⟨q1,q2,q3,q4,q5,q6,q7,q8,q9,q,q11⟩,q12,q13,q14,q15,q16,q17,r⟩:=C;have d:∀p∈st,p.2.1<=(n:Int)+1:=fun p A=>by have:=j.ver p A;omega
 have o:=j.tg i (by omega);rw[s]at o;have hlen:=h.sto.len;have h3:=(cS.1 h.sto.ok).2;unfold ig;dsimp only;rw[s];by_cases w:t.2.1=0;rw[an w];unfold fF;dsimp only;rw[s];by_cases x:(st.getD t.2.2.2.2.1.toNat aj.aa).1= -1;rw[an x,aX];intro _;exact⟨_,_,_,_,_,_,_,_,rfl,j.jO h.ti0 (by omega) h.tl hi (mT d) (by omega) (by omega) (by omega) o⟩;rw[a_ x];intro v;simp[bT]at v;rw[a_ w];by_cases y:t.2.1=1;rw[an y,aX];intro _;rw[a_ (by omega)]at r;have D:t.2.2.2.2.1.toNat<st.length:=by omega
 have:=QV D;have:=h.sto.cap;have:=(qw hk h.cf).2.2.2.1;refine⟨_,_,_,_,_,_,_,_,rfl,j.jO h.ti0 (by omega) h.tl hi (mT d) (by omega) (by omega) (by omega) ?_⟩;unfold nF;dsimp only;rw[rv,rv,C'];omega;rw[a_ y];by_cases z:lV st t.2.2.2.2.2.1=true;rw[an z,aX];intro _;have hI:t.2.2.2.2.1<=3:=by split at r<;>omega
 unfold cx at q;have:=kC hk (eA.1 q);exact⟨_,_,_,_,_,_,_,_,rfl,j.jO h.ti0 (by omega) h.tl hi d (by omega) (by omega) (nx hk F (S_ (qR hk) (by rw[wG];omega))) ox⟩;rw[a_ z,aX];intro _;exact⟨_,_,_,_,_,_,_,_,rfl,j.jO h.ti0 (by omega) h.tl hi d (by omega) (by omega) (by omega) (by unfold uh;simp)⟩
omit hk in
theorem XZ{p:aq}{j_:Int}{a:ae}(h:a∈ey j_ p.2.2):a∈aU p:=by
 obtain⟨c,hc,b⟩:=y_.1 h;unfold lx at b;exact y_.2 ⟨c,hc,(aj4.1 b).1⟩
theorem Yb(h:Rt k c ti j_ st m_ k_ gr f_ nn i_ l_ h_ g_)(r:Ex n c ti st k_ f_ nn i_ n_ l_ h_ g_)(hn:n<=160)(hi:i<3)(y:h_.getD i al.aa=t)(I:t.1=4):
 (im true k (c,ti,j_,st,m_,k_,gr,f_,nn,i_,n_,l_,h_,g_) i).1=true->
 ∃s u q g A j b f,(im true k (c,ti,j_,st,m_,k_,gr,f_,nn,i_,n_,l_,h_,g_) i).2=(c,s,j_,u,q,g,A,f_,nn,i_,n_,j,b,f)/\
  Ex (n+1) c s u g f_ nn i_ n_ j b f:=by
 have h0:=iK h.sto.ok;obtain⟨J,K,hb,E,hv1,hw⟩:=eX h (by omega) y (by omega);obtain⟨⟨q1,q2,q3,q4,q5,q6,q7,q8,q9,C,D,q11'⟩,q12,q13,q14,q15,q16,q17⟩:=(jB I).1 J;have o:∀p∈st,p.2.1<=(n:Int)+1:=fun p v=>by have:=r.ver p v;omega
 have w:=r.tg i (by omega);rw[y]at w;have hlen:=h.sto.len;have z:t.2.2.2.2.1.toNat<st.length:=by omega
 unfold im vo;dsimp only;rw[y];by_cases F:t.2.1=0;rw[an F];unfold fF;dsimp only;rw[y];by_cases G:(st.getD t.2.2.2.2.1.toNat aj.aa).1= -1;rw[an G,aX];intro _;exact⟨_,_,_,_,_,_,_,_,rfl,r.jO h.ti0 (by omega) h.tl hi (mT o) (by omega) (by omega) (by omega) w⟩;rw[a_ G];intro E;simp[bT]at E;rw[a_ F,aX];intro _
 have x:∀p∈st.set t.2.2.2.2.1.toNat (-1,(fD (st.getD t.2.2.2.2.1.toNat aj.aa) j_).2),p.2.1<=(n:Int)+1:=by
  intro p v;rcases Q_ v with v|rfl;exact o p v;have hv:=r.ver _ (bR (d:=aj.aa) z);have hv0:=(eJ.1 ((cS.1 h.sto.ok).1 _ z)).2.2.2;unfold fD;dsimp only;split;rw[wrap64 (by omega) (by omega)];omega;omega
 have hgl:=Es (st.getD t.2.2.2.2.1.toNat aj.aa) j_;have:=QV z;have:=h.sto.cap;have:=(qw hk h.cf).2.2.2.1;have hgt:=kC hk (l:=ey j_ (st.getD t.2.2.2.2.1.toNat aj.aa).2.2) fun a H=>gL (h.sto.fit a (y_.2 ⟨_,bR z,XZ H⟩))
 have a1:ag (.sl ay) (g_++[iA (iu i t.2.2.2.2.1.toNat (ey j_ (st.getD t.2.2.2.2.1.toNat aj.aa).2.2)) j_ ti ti ti])<=ag (.sl ay) g_+800:=tj hk (by
  have e:ag ay (iA (iu i t.2.2.2.2.1.toNat (ey j_ (st.getD t.2.2.2.2.1.toNat aj.aa).2.2)) j_ ti ti ti)=ag ab cW+ag (.sl ai) ([]:List af)+ag (.sl ab) (ey j_ (st.getD t.2.2.2.2.1.toNat aj.aa).2.2):=ek hk _;rw[e,mP hk,bu];omega)
 by_cases m:t.2.2.2.2.1.toNat+1=st.length;rw[an m,an m];refine⟨_,_,_,_,_,_,_,_,rfl,r.jO h.ti0 (by omega) h.tl hi x (by omega) (by omega) ?_ ox⟩;refine S_ (nx hk (B:=0) (by rw[rv];omega) ?_) (by omega);rw[ld _ K];exact S_ (qR hk) (by rw[bu];omega);rw[a_ m,a_ m];exact⟨_,_,_,_,_,_,_,_,rfl,r.jO h.ti0 (by omega) h.tl hi x (by omega) (by omega) (by omega) (by dsimp only;rw[C,D];decide)⟩
end
theorem U0(l:List ae)(a:ae):(fo l a).length<=l.length+1:=by
 unfold fo;split;rw[R_];omega;simp only[rv,ajP,ajV,C'];omega
theorem Qe(l:List aC)(t:aC):(AM l t).length=l.length+1:=by
 rw[(uc l t).length_eq,rv,C']
section
variable{k:Nat}(hk:9223372036854775808<=k)
include hk
variable{c:bo}{ti j_ gr nn:Int}{st:List aq}{m_:List bU}{k_ l_:List ae}{f_:List au}{i_:List aC}{n_:List bY}{h_:List aE}{g_:List ax}{n i:Nat}{t:aE}
omit hk in
theorem Ex.join{t':aE}{u:List ae}{a:List au}{v:Int}{o:List aC}{q:List ax}(h:Ex n c ti st k_ f_ nn i_ n_ l_ h_ g_)(D:0<=ti)(hn:n<=1000)(tl:h_.length=5)(E:h_.getD 3 al.aa=t)
 (hf:ag (.sl ab) u<=ag (.sl ab) k_) (hd:ag (.sl ay) q<=ag (.sl ay) g_+3000) (hnn:v<=nn+1) (z:o.length+f_.length<=i_.length+a.length)
 (w:xb i_ (h_.getD 4 al.aa)->xb o (h_.getD 4 al.aa)) (hpot:3*mI a+fS t'<=3*mI f_+fS t+1) (G:t'.2.2.2.2.2.2.1.length<=8*t'.2.2.2.2.2.1.length):
 Ex (n+1) c (tick ti) st u a v o n_ l_ (h_.set 3 t') q:=by
 have e:=sW D (by have:=h.ti;omega);have A:(h_.set 3 t').getD 3 al.aa=t':=aT _ _ (by omega);have y:(h_.set 3 t').getD 4 al.aa=h_.getD 4 al.aa:=getD_set_ne _ _ (by omega);have a1:=h.ti;have a2:=h.nn;have a3:=h.fe;have a4:=h.sa;have a5:=h.pot;have a6:=h.de;have a7:=h.hp;rw[E]at a5;refine⟨by rw[e];omega,by omega,fun p z=>by have:=h.ver p z;omega,by rw[y];omega,by rw[y];exact w h.fr,by omega,by omega,by rw[A,y];omega,h.sk,by omega,fun j C=> ?_⟩;by_cases B:3=j;subst B;rw[A];exact G;rw[getD_set_ne _ _ B];exact h.tg j C
theorem ZB(h:Rt k c ti j_ st m_ k_ gr f_ nn i_ l_ h_ g_)(y:Ex n c ti st k_ f_ nn i_ n_ l_ h_ g_)(hn:n<=160):
 (jZ true k (c,ti,j_,st,m_,k_,gr,f_,nn,i_,n_,l_,h_,g_)).1=true->
 ∃A o G a B p b f,(jZ true k (c,ti,j_,st,m_,k_,gr,f_,nn,i_,n_,l_,h_,g_)).2=(c,A,j_,st,m_,o,G,a,B,p,n_,l_,b,f)/\
  Ex (n+1) c A st o a B p n_ l_ b f:=by
 generalize u:h_.getD 3 al.aa=t;have I:=h.tas 3 (by decide);rw[u]at I;have D:=y.tg 3 (by decide);rw[u]at D;unfold jZ lj;dsimp only;rw[u];by_cases z:t.1=0;rw[an z];by_cases K:k_.length=0;rw[an K];intro C;simp[bT]at C;rw[a_ K,aX];intro _;have ha:=ml hk (h.sub.fee _ (bR (d:=ab.aa) (i:=0) (by omega)));have hdr:=dw (e:=ab) k_ 1;refine⟨_,_,_,_,_,_,_,_,rfl,y.join h.ti0 (by omega) h.tl u (by omega) (tj hk ?_) (by omega) (by omega) id ?_ (by unfold As;simp)⟩;have e:ag ay (Jk (k_.getD 0 ab.aa) j_ ti)=ag ab (k_.getD 0 ab.aa)+ag (.sl ai) ([]:List af)+ag (.sl ab) ([]:List ae):=ek hk _;rw[e,bu,bu];omega;have:fS (As (k_.getD 0 ab.aa) (g_.length:Int))=1:=rfl;omega;rw[a_ z]
 have M:t.1=5:=by
  have N:=jw (k:=k) (w:=(c,ti,j_,st,m_,k_,gr,f_,nn,i_,n_,l_,h_,g_)) (i:=3) I;omega
 have q:=(kE M).1 I;obtain⟨_,P,hb,C,hv1,hw⟩:=eX h (by decide) u z;have s:∀(d:ax) (code:Int),ag ay d<=ag ay (g_.getD (bC t).toNat ay.aa)->ag (.sl ay) (g_.set (bC t).toNat (fv true false d j_ ti code []))<=ag (.sl ay) g_+3000:=fun d code C=>nx hk P (S_ (qR hk) (by rw[bu];omega))
 have v:∀m,ag ay (vY (g_.getD (bC t).toNat ay.aa) m)<=ag ay (g_.getD (bC t).toNat ay.aa):=fun m=>by
  unfold vY;rw[ek hk,ek hk];exact J1 _
 by_cases F:t.2.1=0;rw[an F];unfold jl;dsimp only;rw[u];by_cases L:gr= -1;rw[an L,aX];intro _;refine⟨_,_,_,_,_,_,_,_,rfl,y.join h.ti0 (by omega) h.tl u (by omega) (by omega) (by omega) (by omega) id ?_ D⟩;have e1:fS t=1:=by unfold fS;rw[a_ z,an F]
 have e2:fS (t.1,(1:Int),t.2.2)=2:=by unfold fS;rw[a_ z];rfl
 omega;rw[a_ L];intro C;simp[bT]at C;rw[a_ F];have hnn0:=h.nn0;have hnnb:=y.nn;have ep:fS t=2:=by unfold fS;rw[a_ z,a_ F]
 have ez:fS zT=0:=rfl;cases J:gI f_ (keyOf t.2.2.1 c.2.2.2.2.2)with
 |none=>
  dsimp only;by_cases E:12<=f_.length;rw[an E,aX];intro _;exact⟨_,_,_,_,_,_,_,_,rfl,y.join h.ti0 (by omega) h.tl u (J1 _) (s _ 3 (J1 _)) (by omega) (by omega) id (by omega) ox⟩;rw[a_ E,aX];intro _;refine⟨_,_,_,_,_,_,_,_,rfl,y.join h.ti0 (by omega) h.tl u (J1 _) (s _ 1 (v nn)) (by rw[wrap64 (by omega) (by omega)];omega) ?_ ?_ ?_ ox⟩;rw[Qe,rv,C'];omega;intro H h6 x r;rcases u0.1 ((uc _ _).mem_iff.1 r)with r|r;exact H h6 x r;rw[sd.1 r];have O:=h.tas 4 (by decide);have:=((iG h6).1 O).2.2.2.2.2.2.2;show¬nn=_;omega;rw[W3];have:mI [rF c t.2.2.1 nn j_]=1:=rfl;omega
 |some j=>
  dsimp only;rw[aX];intro _;refine⟨_,_,_,_,_,_,_,_,rfl,y.join h.ti0 (by omega) h.tl u (J1 _) (s _ 2 (v _)) (by omega) (by rw[R_];omega) id ?_ ox⟩;have N:=Hb (l:=f_) (i:=j) (g:=lB (f_.getD j ak.aa) t.2.2.1) (tL J).1;have h2:(lB (f_.getD j ak.aa) t.2.2.1).2.2.2.2.length<=(f_.getD j ak.aa).2.2.2.2.length+1:=U0 _ _;omega
omit hk in
theorem Ex.flush{t':aE}{o:List au}{q:List aC}{a:List bY}{u:List ax}(h:Ex n c ti st k_ f_ nn i_ n_ l_ h_ g_)(C:0<=ti)(hn:n<=1000)(tl:h_.length=5)
 (D:ag (.sl ay) u<=3000*(n+1)+97*gS a.length) (y:q.length+(if t'.1=6 then 1 else 0)<=o.length)
 (z:xb q t') (v:3*mI o+3*a.length+fS (h_.getD 3 al.aa)+fS t'<=n+1) (hs:ag (.sl eP) a<=200*a.length+97*gS a.length) (E:t'.2.2.2.2.2.2.1.length<=8*t'.2.2.2.2.2.1.length):
 Ex (n+1) c (tick ti) st k_ o nn q a l_ (h_.set 4 t') u:=by
 have e:=sW C (by have:=h.ti;omega);have G:(h_.set 4 t').getD 3 al.aa=h_.getD 3 al.aa:=getD_set_ne _ _ (by omega);have w:(h_.set 4 t').getD 4 al.aa=t':=aT _ _ (by omega);have a1:=h.ti;have a2:=h.nn;have a3:=h.fe;have a4:=h.sa;refine⟨by rw[e];omega,by omega,fun p y=>by have:=h.ver p y;omega,by rw[w];exact y,by rw[w];exact z,by omega,by omega,by rw[G,w];exact v,hs,D,fun j B=> ?_⟩;by_cases A:4=j;subst A;rw[w];exact E;rw[getD_set_ne _ _ A];exact h.tg j B
omit hk in
theorem Rz(l:List au)(m j_:Int):mI (eV l m j_)<=mI l:=by
 unfold eV;cases e:fP l m with
 |none=>exact J1 _
 |some i=>
  dsimp only;split;exact XK _ _;have h1:=Hb (l:=l) (i:=i) (g:=je (l.getD i ak.aa) j_) (iD e).1
  have h2:(je (l.getD i ak.aa) j_).2.2.2.2.length<=(l.getD i ak.aa).2.2.2.2.length:=by
   unfold je eU;exact akc _ _
  omega
omit hk in
theorem TQ{c:bo}{i_:List aC}{l:List au}{m j_:Int}{by_:List ByteArray}(o:fN l by_=true)(h:i_.length+1<=l.length):(zi c i_ (eV l m j_) m).length<=(eV l m j_).length:=by
 unfold zi;cases a:fP (eV l m j_) m with
 |none=>
  dsimp only;unfold eV;cases e:fP l m with
  |none=>dsimp only;omega
  |some i=>
   dsimp only;have:=(iD e).1;split;simp only[rv,ajP,ajV];omega;rw[R_];omega
 |some j=>
  dsimp only;rw[Qe];unfold eV at a|-;cases e:fP l m with
  |none=>dsimp only;omega
  |some i=>
   rw[e]at a;dsimp only at a|-;obtain⟨p,k2⟩:=iD e;by_cases he:(je (l.getD i ak.aa) j_).2.2.2.2=[]
   exfalso;rw[an he]at a;obtain⟨r,j2⟩:=iD a;have hm:=bR (d:=ak.aa) r;have b:=mO (d:=ak.aa).2 (cY.1 o).2.2.1;generalize (l.take i++l.drop (i+1)).getD j ak.aa=g at*
   rcases u0.1 hm with h|h;obtain⟨q,f,eq⟩:=Z' h;rw[ajP]at f;rw[ajT]at eq;have:=b i p q (by omega);rw[cC _ (show q<l.length by omega),eq]at this;omega;obtain⟨q,f,eq⟩:=Z' h;rw[ajV]at f;rw[aj1]at eq;have:=b (i+1+q) (by omega) i (by omega);rw[cC _ (show i+1+q<l.length by omega),eq]at this;omega;rw[a_ he,R_];omega
theorem Yu(h:Rt k c ti j_ st m_ k_ gr f_ nn i_ l_ h_ g_)(r:Ex n c ti st k_ f_ nn i_ n_ l_ h_ g_)(hn:n<=160):
 (iq true k (c,ti,j_,st,m_,k_,gr,f_,nn,i_,n_,l_,h_,g_)).1=true->
 ∃y I b m o f g,(iq true k (c,ti,j_,st,m_,k_,gr,f_,nn,i_,n_,l_,h_,g_)).2=(c,y,j_,st,m_,k_,I,b,nn,m,o,l_,f,g)/\
  Ex (n+1) c y st k_ b nn m o l_ f g:=by
 generalize v:h_.getD 4 al.aa=t;have K:=h.tas 4 (by decide);rw[v]at K;have z:=r.tg 4 (by decide);rw[v]at z;have a2:=r.hp;have a3:=r.fr;have a4:=r.pot;have a5:=r.sk;have a6:=r.de;rw[v]at a2 a3 a4;unfold iq jg;dsimp only;rw[v];by_cases u:t.1=0;rw[an u];by_cases p:u9 i_ j_=true;rw[an p,aX];intro _;have G:0<i_.length:=by unfold u9 at p;simp only[kk,b_]at p;exact p.1
 have N:=Au G;have hlen:=N.length_eq;rw[ajW]at hlen;rw[a_ (by omega)]at a2;have S:fS t=0:=by unfold fS;rw[an u]
 have hdd:=tj hk (l:=g_) (d:=yK (fQ i_).2.1.2 j_ ti) (B:=1) (by
  have e:ag ay (yK (fQ i_).2.1.2 j_ ti)=ag ab cW+ag (.sl ai) ([]:List af)+ag (.sl ab) ([]:List ae):=ek hk _;rw[e,mP hk,bu,bu];omega)
 refine⟨_,_,_,_,_,_,_,rfl,r.flush h.ti0 (by omega) h.tl (by omega) (by rw[an (by rfl)];omega) ?_ (by have:fS (wm (fQ i_).2.1.2 (g_.length:Int))=1:=rfl;omega) a5 (by unfold wm;simp)⟩;intro _ x J;have L:=(u7 N).2 h.grp.ap;have:=(List.pairwise_cons.1 L).1 x J;exact fun e=>this e.symm;rw[a_ p];intro F;simp[bT]at F;rw[a_ u]
 have M:t.1=6:=by
  have h1:=jw (k:=k) (w:=(c,ti,j_,st,m_,k_,gr,f_,nn,i_,n_,l_,h_,g_)) (i:=4) K;omega
 have q:=(iG M).1 K;obtain⟨_,G,hb,F,hv1,hw⟩:=eX h (by decide) v u;rw[an M]at a2;by_cases H:t.2.1=0;rw[an H];unfold jl;dsimp only;rw[v];by_cases A:gr= -1;rw[an A,aX];intro _;have e1:fS t=1:=by unfold fS;rw[a_ u,an H]
 have e2:fS (t.1,(1:Int),t.2.2)=2:=by unfold fS;rw[a_ u];rfl
 exact⟨_,_,_,_,_,_,_,rfl,r.flush h.ti0 (by omega) h.tl (by omega) (by rw[an M];exact a2) a3 (by omega) a5 z⟩;rw[a_ A];intro F;simp[bT]at F;rw[a_ H];have S:fS t=2:=by unfold fS;rw[a_ u,a_ H]
 have ez:fS zT=0:=rfl;have C:∀l:List aC,xb l zT:=fun l h6=>absurd h6 (by decide);by_cases s:np f_ t.2.2.2.2.2.2.2.1=true;rw[an s,aX];intro _;have hm:=Rz f_ t.2.2.2.2.2.2.2.1 j_
 obtain⟨j,P⟩:∃j,fP f_ t.2.2.2.2.2.2.2.1=some j:=by
  unfold np at s;exact Option.isSome_iff_exists.1 s
 obtain⟨Q,k2⟩:=iD P;have O:jF f_ t.2.2.2.2.2.2.2.1 j_=vD (f_.getD j ak.aa) j_:=by unfold jF;rw[P]
 have D:=ju.1 ((cY.1 h.grp.go).2.1 _ (bR (d:=ak.aa) Q));have t1:=yw hk D.2.1;have t2:=kC hk fun a R=>(D.2.2.2.2.2.1 a R).1;have t3:=ZN (l:=f_) Q;have T:ag eP (vD (f_.getD j ak.aa) j_)=ag (.sl ai) (f_.getD j ak.aa).2.1+ag (.sl ab) (f_.getD j ak.aa).2.2.2.2:=wW hk _;have E:gS (n_.length+1)=gS n_.length+(52-n_.length):=rfl;refine⟨_,_,_,_,_,_,_,rfl,r.flush h.ti0 (by omega) h.tl ?_ ?_ (C _) ?_ ?_ ox⟩;rw[rv,C',E,O];have U:=nx hk G (d':=fv true true (g_.getD (bC t).toNat ay.aa) j_ ti 8 (vD (f_.getD j ak.aa) j_).2.2.2) (B:=ag (.sl ab) (f_.getD j ak.aa).2.2.2.2) (qR hk);omega;rw[a_ (by decide)];exact TQ h.grp.go a2;rw[rv,C'];omega;rw[rv,C',E,O,iS,cG,bu,T];omega;rw[a_ s,aX];intro _;have U:=nx hk G (d':=fv true false (g_.getD (bC t).toNat ay.aa) j_ ti 6 []) (B:=0) (S_ (qR hk) (by rw[bu];omega));exact⟨_,_,_,_,_,_,_,rfl,r.flush h.ti0 (by omega) h.tl (by omega) (by rw[a_ (by decide)];omega) (C _) (by omega) a5 ox⟩
end
def fA(s:bU):bU×ae×Int:=
 if s.2=true then(([],false),cW,2)else if s.1.length=0 then(([],false),cW,0)else((s.1.drop 1,false),s.1.getD 0 ab.aa,1)
def Dn(i:Int)(s:bU)(j_ ti:Int):ax:=
 (9,-1,cW,[],i,0,if(fA s).2.2=1 then 5 else if(fA s).2.2=2 then 7 else 6,if(fA s).2.2=1 then [(fA s).2.1]else [],j_,ti,ti,ti)
def dt(w:ah):List bU:=w.2.2.2.2.1
def WY(w:ah)(i:Int):ah:=
 (w.1,tick w.2.1,w.2.2.1,w.2.2.2.1,(dt w).set i.toNat (fA ((dt w).getD i.toNat bp.aa)).1,w.2.2.2.2.2.1,w.2.2.2.2.2.2.1,w.2.2.2.2.2.2.2.1,w.2.2.2.2.2.2.2.2.1,w.2.2.2.2.2.2.2.2.2.1,w.2.2.2.2.2.2.2.2.2.2.1,w.2.2.2.2.2.2.2.2.2.2.2.1,eQ w,
  bE w++[Dn i ((dt w).getD i.toNat bp.aa) w.2.2.1 w.2.1])
def aaH(w:ah)(n:Int):ah:=(w.1,tick w.2.1,n,w.2.2.2)
def sF(k:Nat)(w:ah)(e:cM):Bool×ah:=
 if e.1=1 then(if dD w e.2.1=true then(true,if da e.2.2.1=true then iL w e.2.1 (wc e.2.2.1) 1 else refused w e.2.1 e.2.2.1)else(false,w))
 else if e.1=2 then(if(dD w e.2.1&&eo e.2.2.2)=true then(true,iL w e.2.1 (xw e.2.2.2) 3)else(false,w))
 else if e.1=3 then(if dD w e.2.1=true then(true,iL w e.2.1 tI 4)else(false,w))
 else if e.1=4 then(if dD w e.2.1=true then(true,iL w e.2.1 tZ 6)else(false,w))
 else if e.1=5 then(if bw e.2.1 0 4=true then qX true k w e.2.1.toNat else(false,w))
 else if e.1=6 then(if bw e.2.1 0 ((dt w).length-1)=true then(true,WY w e.2.1)else(false,w))
 else if e.1=7 then(if bw e.2.1 1 20=true/\w.2.2.1+e.2.1<=99899 then(true,aaH w (w.2.2.1+e.2.1))else(false,w))
 else(false,w)
section
variable{k:Nat}(hk:9223372036854775808<=k)
include hk
theorem P6{s:bU}(hs:ag bp s<=1048576):nD k (s,())=some ((fA s).1,(fA s).2.1,(fA s).2.2,()):=by
 rw[sR hk]at hs;have hl:=aA (e:=ab) (l:=s.1);simp only[nD];unfold fA;by_cases a:s.2=true;rw[an a,an a];rfl;rw[a_ a,a_ a];by_cases b:s.1.length=0;rw[an (by simpa using b),an b];rfl;have h3:=dw (e:=ab) s.1 1;have h4:=fL (e:=ab) (l:=s.1) (i:=0) (d:=ab.aa) (by omega);rw[a_ (by simpa using b),a_ b,an (by simp;omega),show Int.toNat 1=1 from rfl,gM hk (by omega),ajQ,an (by simp;omega),show Int.toNat 0=0 from rfl,dS hk (by omega),ajQ]
theorem FZ{w:ah}{i:Int}{a:ae}(hs:ag aF w<=1048576)(f:ag ab a<=1048576)(hc:dD w i=true):
 nL k (w,i,a,())=some (if da a=true then iL w i (wc a) 1 else refused w i a,()):=by
 obtain⟨q1,q2,q3⟩:=Ec hc;simp only[nL,aR,P5 hk f,ajQ];by_cases b:da a=true;have:=SA hk (w:=w) (i:=i) (t:=wc a) hs (by rw[fO hk];simp[wc,ag]at f|-;omega) (show(0:Int)<=1 by decide) (show(1:Int)<=6 by decide) q1 q3;simp only[W6]at this;rw[an b,an b];cases d:dQ k (w,i,wc a,())with
 |none=>rw[d]at this;cases this
 |some z=>
  rw[d,ajQ]at this;have e:dQ k (w,i,((1:Int),(0,(a,(([]:List af),(0,(([]:List Int),(([]:List ae),(0,0)))))))),())=some z:=d;rw[e,ajQ];have g:=Option.some.inj this;have h:(z.1.1,(IntKind.i64.wrap (z.1.2.1+(1:Int)),z.1.2.2))=iL w i (wc a) 1:=congrArg Prod.fst g;rw[h]
 rw[aj9]at b;rw[a_ (by simp[b]),a_ (by simp[b]),dS hk (by omega),ajQ,qq hk hs,ajQ];rfl
end
end Vg.Tryz
