/- Texts of this law, joined. -/
import Derived.Test.YtgikmhjpcnnhjaaGreatQlRC
import Derived.Test.YtgikmhjpcnnhjaaGreatZd
import Derived.Test.YtgikmhjpcnnhjaaGreatZc
import Derived.Test.YtgikmhjpcnnhjaaGreatZa
import Derived.Test.YtgikmhjpcnnhjaaGreatQlE6
set_option linter.unusedSimpArgs false
set_option linter.unusedVariables false
set_option linter.unusedSectionVars false
set_option linter.defProp false
open Bool renaming and_eq_true -> h_,false_eq_true -> A_,not_eq_true -> W',true_and -> awN,false_and -> awS,not_false -> awT
open List renaming length_append -> lk,mem_singleton -> o_,length_singleton -> G_,mem_or_eq_of_mem_set -> awc,mem_append -> X_,mem_append_left -> awf,length_set -> awg,length_nil -> awh,length_cons -> awi,mem_append_right -> awj,mem_cons_self -> awk,mem_cons_of_mem -> awm,replicate -> awn,flatMap_cons -> awp,length_drop -> awq,mem_of_mem_drop -> awt,length_take -> awu,getElem_of_mem -> awv,foldl_cons -> aww,mem_replicate -> awx,map_append -> awy,map_cons -> awA,getElem_take -> awB,getElem_drop -> awC,foldl_append -> awD,set_eq_of_length_le -> awE,mem_flatMap -> awF,pairwise_singleton -> awH,length -> awI,pairwise_append -> awJ,mem_of_mem_take -> awK,reverse_reverse -> awL,mem_iff_getElem -> awM,reverse_cons -> awO,mem_reverse -> awP,mem_filter -> awQ,append_nil -> awR
open Int renaming le_refl -> g_,toNat_natCast -> aws
open Option renaming bind_some -> sw,bind -> awl
open Nat renaming le_refl -> X',le_trans -> awr,zero_le -> awz,le_add_right -> awG
namespace Vg.Tryz
open Go Vg
def yH{l m:List aI}(h:l.Perm m):l.Pairwise (λa b=>¬a.2=b.2)↔m.Pairwise (λa b=>¬a.2=b.2):=h.pairwise_iff (λh e=>h e.symm)
section
variable{k:Nat}{c:bw}{ti M gr nn:Int}{st:List aq}{V:List bp}{T U:List ae}{D:List ar}{Q:List aI}{Z:List bE}{A:List aA}{E:List ay}{t:aA}
def adK(h:dS c=true):1<=c.2.2.2.1/\c.2.2.2.1<=9/\1<=c.2.2.2.2.1/\c.2.2.2.2.1<=9:=by
 unfold dS bh at h;simp only[h_,b_]at h;omega
def aey{g:ar}(hc:dS c=true)(h1:0<=g.2.2.1/\g.2.2.1<=99999)(h2:g.2.2.2.1= -1\/(g.2.2.1<=g.2.2.2.1/\g.2.2.2.1<=99999)):0<=lP c g:=by
 have:=adK hc;unfold lP;split;rw[wrap64 (by omega) (by omega)];omega;rw[wrap64 (by omega) (by omega)];omega
theorem EN.drop{n:Nat}(h:EN c V T U):EN c V (T.drop n) U:=⟨h.len,h.sub,λa b=>h.fee a (awt b),h.sai⟩
def Yq{i:Nat}(h:Rt k c ti M st V T gr D nn Q U A E)(d:ti<4611686018427387904)(hi:i=3/\t.1=5\/i=4/\t.1=6)(b:A.getD i ah.aa=t)(j:t.2.1=0)(l:gr= -1):
 Rt k c (tick ti) M st V T (i:Int) D nn Q U (A.set i (t.1,1,t.2.2)) E:=by
 have a:i<5:=by omega
 have e:=h.tas i a;rw[b]at e
 have f:cW (t.1,(1:Int),t.2.2)=true:=by
  unfold cW;rcases hi with hi|hi<;>simp[hi.2]
 have m:5<=t.1:=by omega
 refine kq h d a h.sto h.sub (h.dee.up (by omega)) (jc.refl i st) (fL.refl i E) (g_ _) ?_ (agD a h.tl h.loc b (eD (.inl j)) (eD (.inr (.inr (.inl m)))) l f) ?_;have o:bn (t.1,(1:Int),t.2.2)=bn t:=rfl;rw[o];rcases hi with hi|hi;have q:=(mL hi.2).1 e;exact(mL (t:=(t.1,(1:Int),t.2.2)) hi.2).2 ⟨⟨q.1.1,q.1.2.1,(show(0:Int)<=1 by decide),(show(1:Int)<=1 by decide),q.1.2.2.2.2⟩,q.2⟩;have q:=(jF hi.2).1 e;exact(jF (t:=(t.1,(1:Int),t.2.2)) hi.2).2 ⟨⟨q.1.1,q.1.2.1,(show(0:Int)<=1 by decide),(show(1:Int)<=1 by decide),q.1.2.2.2.2⟩,q.2⟩;rcases hi with hi|hi;exact h.grp.other (by omega);rw[hi.1]at b|-;rw[aT _ _ (by rw[h.tl];decide)];have g:=h.grp;rw[b]at g;exact⟨g.go,g.ho,g.tm,g.ap,g.td⟩
def aen{a:ae}{n:Nat}(h:Rt k c ti M st V T gr D nn Q U A E)(b:ti<4611686018427387904)(d:A.getD 3 ah.aa=t)(e:t.1=0)(f:bA a=true):
 Rt k c (tick ti) M st V (T.drop n) gr D nn Q U (A.set 3 (El a E.length)) (E++[PZ a M ti]):=by
 refine kq h b (by decide) h.sto h.sub.drop ((h.dee.up (by omega)).app ⟨GR ⟨by decide,by decide⟩ ⟨by decide,by decide⟩ (by decide) h.nw.1 h.ti0,by show ti<ti+1;omega,by show-1<ti+1;have:=h.ti0;omega,by show-1<ti+1;have:=h.ti0;omega⟩)
  (jc.refl _ st) (fL.app _ E _) (g_ _) ?_ (Cl (by decide) h.tl h.loc d (by rw[eD (.inl rfl),eD (.inr (.inl e))]) rfl (λ_ _=>rfl) (by rw[gW (.inr rfl),gW (.inl (by omega))])) (h.grp.other (by decide))
 have g:bn (El a (E.length:Int))=((E.length:Nat):Int):=rfl;rw[g,aws,A7];refine(mL (t:=El a (E.length:Int)) rfl).2 ⟨⟨rfl,by show(0:Int)<=(E.length:Int);omega,g_ _,(show(0:Int)<=1 by decide),f,rfl,rfl,rfl,rfl,rfl⟩,by show(E.length:Int)<_;rw[lk,G_];omega,rfl,rfl,rfl,rfl,rfl⟩
def Ra{s x:Bool}{code:Int}{got:List ae}{b:List ar}{g n:Int}{e:List aI}{setit:Bool}(h:Rt k c ti M st V T gr D nn Q U A E)(p:ti<4611686018427387904)(r:A.getD 3 ah.aa=t)(u:t.1=5)(y:t.2.1=1)
 (z:nn<=g) (hc:code∈gM 7) (B:0<=n) (j:Ag c M b g e (A.getD 4 ah.aa)):
 Rt k c (tick ti) M st V T (-1) b g e U (A.set 3 zT) (E.set (bn t).toNat (eC s x (if setit=true then wq (E.getD (bn t).toNat aw.aa) n else E.getD (bn t).toNat aw.aa) M ti code got)):=by
 obtain⟨C,hn1,F,f,o,w⟩:=dU h (by decide) r (by omega);have q:=(mL u).1 C
 refine kq h p (by decide) h.sto h.sub ((h.dee.up (by omega)).put ?_) (jc.refl _ st) (fL.put F) z (tZ (by decide))
  (Y7 (by decide) h.tl h.loc r (eD (.inr (.inr (.inl (by omega))))) (eD (.inl rfl)) (by unfold cW;simp[u,y]) (gW (.inl (by decide)))) ?_
 have v:=q.2.2.2.2.2.1;generalize E.getD (bn t).toNat aw.aa=d at*
 cases setit;exact yI f h.nw.1 o w h.ti0 (by rw[a_ (by decide),v];exact hc);refine yI (d:=wq d n) ?_ h.nw.1 o w h.ti0 (by show code∈gM d.1;rw[v];exact hc);obtain⟨op,task,a,l,i,m,cd,gt,nw,inv,lin,res⟩:=d;unfold wq;unfold gg at f|-;simp only[h_,b_]at f|-;exact⟨⟨⟨⟨⟨⟨⟨⟨f.1.1.1.1.1.1.1.1,f.1.1.1.1.1.1.1.2⟩,f.1.1.1.1.1.1.2⟩,f.1.1.1.1.1.2⟩,B⟩,f.1.1.1.2⟩,f.1.1.2⟩,f.1.2⟩,f.2⟩;rw[getD_set_ne _ _ (by decide)];exact j
def aco{i:Nat}{e:aA}{a:ae}(b:Ag c M D nn Q e)(j:bA a=true)(hi:iA D (keyOf a c.2.2.2.2.2)=some i):Ag c M (D.set i (nx (D.getD i ak.aa) a)) nn Q e:=by
 obtain⟨l,m⟩:=wY hi;have f:=cx (d:=ak.aa) l;refine⟨NN b.go (ahh ((dy.1 b.go).2.1 _ f) j m.symm) rfl rfl,b.ho,b.tm,b.ap,λg h=> ?_⟩;rcases awc h with h|rfl;exact b.td g h;have:=b.td _ f;exact⟨this.1,this.2.1,this.2.2.1,this.2.2.2⟩
def aiK{m:aA}{a:ae}(l:dS c=true)(o:0<=M/\M<=99899)(p:0<=nn)(hn2:nn<4611686018427387904)(d:Ag c M D nn Q m)(r:bA a=true)(hi:iA D (keyOf a c.2.2.2.2.2)=none)(s:D.length<12)(u:Q.length<=15):
 Ag c M (D++[vY c a nn M]) (IntKind.i64.wrap (nn+1)) (E5 Q (lP c (vY c a nn M),nn)) m:=by
 have j:=xt Q (lP c (vY c a nn M),nn);rw[wrap64 (by omega) (by omega)];have f:0<=lP c (vY c a nn M):=aey l ⟨o.1,by show M<=99999;omega⟩ (.inl rfl);refine⟨acb d.go (aib r p o) s (λg h=>(d.td g h).2.2.1) (Zq hi),aat d.ho ⟨f,p⟩ u,λx b=> ?_,(yH j).2 ?_,λg h=> ?_⟩;rcases X_.1 (j.mem_iff.1 b)with b|b;have:=d.tm x b;omega;rw[o_.1 b];show nn<nn+1;omega;refine awJ.2 ⟨d.ap,awH _ _,λx b y q=> ?_⟩;rw[o_.1 q];have:=d.tm x b;show¬x.2=nn;omega;rcases X_.1 h with h|h;obtain⟨v,w,h3,z⟩:=d.td g h;refine⟨v,w,by omega,z.imp (λ⟨x,b,e⟩=>⟨x,j.mem_iff.2 (awf _ b),e⟩) id⟩;rw[o_.1 h];refine⟨g_ _,by show(-1:Int)<=M;omega,by show nn<nn+1;omega,.inl ⟨_,j.mem_iff.2 (awj _ (o_.2 rfl)),rfl,rfl⟩⟩
def acn{s:Bool}(h:Rt k c ti M st V T gr D nn Q U A E)(a:ti<4611686018427387904)(j:nn<4611686018427387904)(y:Q.length<=15):
 (kH s k (c,ti,M,st,V,T,gr,D,nn,Q,Z,U,A,E)).1=true->bC k (kH s k (c,ti,M,st,V,T,gr,D,nn,Q,Z,U,A,E)).2=true:=by
 generalize b:A.getD 3 ah.aa=t;unfold kH mO;dsimp only;rw[b];by_cases l:t.1=0;rw[an l];by_cases u:T.length=0;rw[an u];intro g;simp[bX]at g;rw[a_ u,bg];intro _;exact cw.2 (aen h a b l (h.sub.fee _ (cx (by omega))));rw[a_ l];have m:=h.tas 3 (by decide);rw[b]at m
 have f:t.1=5:=by
  have v:=jN (k:=k) (w:=(c,ti,M,st,V,T,gr,D,nn,Q,Z,U,A,E)) (i:=3) m;omega
 have q:=(mL f).1 m;by_cases o:t.2.1=0;rw[an o];unfold kN;dsimp only;rw[b];by_cases p:gr= -1;rw[an p,bg];intro _;exact cw.2 (Yq h a (.inl ⟨rfl,f⟩) b o p);rw[a_ p];intro g;simp[bX]at g;rw[a_ o];have r:t.2.1=1:=by omega
 have hnn0:=h.nn0;cases e:iA D (keyOf t.2.2.1 c.2.2.2.2.2)with
 |none=>
  dsimp only;by_cases x:12<=D.length;rw[an x,bg];intro _;exact cw.2 (Ra (setit:=false) (n:=0) h a b f r (g_ _) (by decide) (g_ _) h.grp);rw[a_ x,bg];intro _
  exact cw.2 (Ra (setit:=true) (n:=nn) h a b f r (by rw[wrap64 (by omega) (by omega)];omega) (by decide) h.nn0
   (aiK h.cf h.nw h.nn0 j h.grp q.1.2.2.2.2.1 e (by omega) y))
 |some i=>
  dsimp only;rw[bg];intro _;have v:=(kS.1 ((dy.1 h.grp.go).2.1 _ (cx (d:=ak.aa) (wY e).1))).1;exact cw.2 (Ra (setit:=true) (n:=(D.getD i ak.aa).1) h a b f r (g_ _) (by decide) v (aco h.grp q.1.2.2.2.2.1 e))
def adO(h:Rt k c ti M st V T gr D nn Q U A E)(d:ti<4611686018427387904)(l:A.getD 4 ah.aa=t)(m:t.1=0)(o:0<Q.length):
 Rt k c (tick ti) M st V T gr D nn (gJ Q).1 U (A.set 4 (zP (gJ Q).2.1.2 E.length)) (E++[D8 (gJ Q).2.1.2 M ti]):=by
 have b:=ET o;have p:(gJ Q).2.1∈Q:=b.mem_iff.1 (awk ..);have a:=(yy.1 h.grp.ho).1 _ p;have f:=h.grp.tm _ p;have ht0:=h.ti0
 refine kq h d (by decide) h.sto h.sub ((h.dee.up (by omega)).app ⟨GR ⟨by decide,by decide⟩ ⟨by decide,by decide⟩ a.2 h.nw.1 h.ti0,by show ti<ti+1;omega,by show-1<ti+1;omega,by show-1<ti+1;omega⟩)
  (jc.refl _ st) (fL.app _ E _) (g_ _) ?_ (Cl (by decide) h.tl h.loc l (by rw[eD (.inl rfl),eD (.inr (.inl m))]) rfl (λ_ _=>rfl) (by rw[gW (.inr rfl),gW (.inl (by omega))])) ?_
 have r:bn (zP (gJ Q).2.1.2 (E.length:Int))=((E.length:Nat):Int):=rfl;rw[r,aws,A7];exact(jF (t:=zP (gJ Q).2.1.2 (E.length:Int)) rfl).2 ⟨⟨rfl,by show(0:Int)<=(E.length:Int);omega,g_ _,(show(0:Int)<=1 by decide),rfl,rfl,rfl,rfl,rfl,a.2⟩,by show(E.length:Int)<_;rw[lk,G_];omega,rfl,rfl,rfl,rfl,rfl,f⟩;rw[aT _ _ (by rw[h.tl];decide)];have g:=h.grp;rw[l]at g;refine⟨g.go,afu g.ho o,λx a=>g.tm x (b.mem_iff.1 (awm _ a)),((yH b).2 g.ap).tail,λy q=> ?_⟩;obtain⟨s,u,v,j⟩:=g.td y q;refine⟨s,u,v,?_⟩;rcases j with⟨x,a,e⟩|j;rcases List.mem_cons.1 (b.mem_iff.2 a)with a|a;exact .inr ⟨rfl,by rw[<-e.1,a];rfl⟩;exact .inl ⟨x,a,e⟩;exact absurd (m.symm.trans j.1) (by decide)
def aaQ{s x:Bool}{code:Int}{got:List ae}{a:List ar}{b:List aI}(h:Rt k c ti M st V T gr D nn Q U A E)(e:ti<4611686018427387904)(g:A.getD 4 ah.aa=t)(j:t.1=6)(l:t.2.1=1)
 (hc:code∈gM 8) (d:Ag c M a nn b zT):
 Rt k c (tick ti) M st V T (-1) a nn b U (A.set 4 zT) (E.set (bn t).toNat (eC s x (E.getD (bn t).toNat aw.aa) M ti code got)):=by
 obtain⟨m,hn1,o,p,f,r⟩:=dU h (by decide) g (by omega);have q:=(jF j).1 m
 refine kq h e (by decide) h.sto h.sub ((h.dee.up (by omega)).put (yI p h.nw.1 f r h.ti0 (by rw[q.2.2.2.2.2.1];exact hc))) (jc.refl _ st) (fL.put o) (g_ _) (tZ (by decide))
  (Y7 (by decide) h.tl h.loc g (eD (.inr (.inr (.inl (by omega))))) (eD (.inl rfl)) (by unfold cW;simp[j,l]) (gW (.inl (by decide)))) ?_
 rw[aT _ _ (by rw[h.tl];decide)];exact d
def AW(Q:List aI)(a:aA):Prop:=a.1=6->∀x∈Q,¬x.2=a.2.2.2.2.2.2.2.1
def afq(I:dS c=true)(N:0<=M/\M<=99899)(b:Ag c M D nn Q t)(P:t.1=6)(R:t.2.2.2.2.2.2.2.1<nn)(J:0<=t.2.2.2.2.2.2.2.1)(K:AW Q t)(S:Q.length<=15):
 Ag c M (fw D t.2.2.2.2.2.2.2.1 M) nn (D0 c Q (fw D t.2.2.2.2.2.2.2.1 M) t.2.2.2.2.2.2.2.1) zT:=by
 have K:=K P;generalize W:t.2.2.2.2.2.2.2.1=n at*
 have o:∀g∈fw D n M,(g∈D/\¬g.1=n)\/(∃v∈D,v.1=n/\g=kC v M):=by
  intro g h;unfold fw at h;cases e:gL D n with
  |none=>rw[e]at h;exact .inl ⟨h,Kg e g h⟩
  |some i=>
   rw[e]at h;obtain⟨q,G⟩:=jL e;dsimp only at h;have hu:∀x∈D,x.1=n->x=D.getD i ak.aa:=λx m ex=>NW b.go m q (by rw[ex,G]);by_cases z:(kC (D.getD i ak.aa) M).2.2.2.2=[]
   rw[an z]at h;refine .inl ?_;have B:=(dy.1 b.go).2.2.1;have p:=oE (d:=ak.aa).2 B;rcases X_.1 h with h|h;obtain⟨j,w,r⟩:=awv h;rw[awu]at w;rw[awB]at r;have:=p i q j (by omega);rw[dq _ (show j<D.length by omega),r]at this;exact⟨awK h,by omega⟩;obtain⟨j,w,r⟩:=awv h;rw[awq]at w;rw[awC]at r;have:=p (i+1+j) (by omega) i (by omega);rw[dq _ (show i+1+j<D.length by omega),r]at this;exact⟨awt h,by omega⟩;rw[a_ z]at h;obtain⟨j,w,r⟩:=mn ak.aa h;rw[awg]at w;by_cases C:i=j;subst C;rw[aT _ _ q]at r;exact .inr ⟨_,cx q,G,r.symm⟩;rw[getD_set_ne _ _ C]at r;subst r;refine .inl ⟨cx w,λe3=>C ?_⟩;have p:=oE (d:=ak.aa).2 (dy.1 b.go).2.2.1;rcases Nat.lt_trichotomy i j with h6|h6|h6;have:=p j w i h6;omega;exact h6;have:=p i q j h6;omega
 have u:fD (fw D n M) c.2.2.2.2.2=true:=by
  unfold fw;cases e:gL D n with
  |none=>exact b.go
  |some i=>
   obtain⟨q,G⟩:=jL e;have H:=cx (d:=ak.aa) q;dsimp only;by_cases z:(kC (D.getD i ak.aa) M).2.2.2.2=[]
   rw[an z];exact abR b.go;rw[a_ z];exact NN b.go (afh ((dy.1 b.go).2.1 _ H) (b.td _ H).1 N.2 z) rfl rfl
 have hold:∀g∈D,¬g.1=n->∃x∈Q,x.2=g.1/\x.1=lP c g:=λg h f=>(b.td g h).2.2.2.resolve_right λs=>f (s.2.symm.trans W)
 have a:∀g∈fw D n M,g.2.2.1<=M/\g.2.2.2.1<=M/\g.1<nn:=by
  intro g h;rcases o g h with⟨l,s⟩|⟨v,l,s,rfl⟩;exact⟨(b.td g l).1,(b.td g l).2.1,(b.td g l).2.2.1⟩;exact⟨(b.td v l).1,g_ _,(b.td v l).2.2.1⟩
 unfold D0;cases e:gL (fw D n M) n with
 |none=>
  refine⟨u,b.ho,b.tm,b.ap,λg h=> ?_⟩;refine⟨(a g h).1,(a g h).2.1,(a g h).2.2,.inl ?_⟩;have f:=Kg e g h;rcases o g h with⟨l,s⟩|⟨v,l,s,rfl⟩;exact hold g l f;exact absurd s f
 |some i=>
  obtain⟨q,G⟩:=jL e;have H:=cx (d:=ak.aa) q;dsimp only;have B:=xt Q (lP c ((fw D n M).getD i ak.aa),n);have F:=kS.1 ((dy.1 u).2.1 _ H);refine⟨u,aat b.ho ⟨aey I F.2.2.1 F.2.2.2.1,J⟩ S,λx m=> ?_,(yH B).2 ?_,λg h=> ?_⟩;rcases X_.1 (B.mem_iff.1 m)with m|m;exact b.tm x m;rw[o_.1 m];exact R;refine awJ.2 ⟨b.ap,awH _ _,λx m y L=> ?_⟩;rw[o_.1 L];exact K x m;refine⟨(a g h).1,(a g h).2.1,(a g h).2.2,.inl ?_⟩;by_cases f:g.1=n;refine⟨_,B.mem_iff.2 (awj _ (o_.2 rfl)),f.symm,?_⟩;rw[NW u h q (by rw[f,G])];rcases o g h with⟨l,s⟩|⟨v,l,s,rfl⟩;obtain⟨x,m,C⟩:=hold g l f;exact⟨x,B.mem_iff.2 (awf _ m),C⟩;exact absurd s f
def aag{s:Bool}(h:Rt k c ti M st V T gr D nn Q U A E)(a:ti<4611686018427387904)(v:AW Q (A.getD 4 ah.aa))(y:(A.getD 4 ah.aa).1=6->Q.length<=15):
 (iK s k (c,ti,M,st,V,T,gr,D,nn,Q,Z,U,A,E)).1=true->bC k (iK s k (c,ti,M,st,V,T,gr,D,nn,Q,Z,U,A,E)).2=true:=by
 generalize e:A.getD 4 ah.aa=t at v y;unfold iK jR;dsimp only;rw[e];by_cases o:t.1=0;rw[an o];by_cases b:yw Q M=true;rw[an b,bg];intro _;have B:0<Q.length:=by unfold yw at b;simp only[h_,b_]at b;exact b.1
 exact cw.2 (adO h a e o B);rw[a_ b];intro m;simp[bX]at m;rw[a_ o];have b:=h.tas 4 (by decide);rw[e]at b
 have l:t.1=6:=by
  have h1:=jN (k:=k) (w:=(c,ti,M,st,V,T,gr,D,nn,Q,Z,U,A,E)) (i:=4) b;omega
 have q:=(jF l).1 b;have f:=h.grp;rw[e]at f;by_cases r:t.2.1=0;rw[an r];unfold kN;dsimp only;rw[e];by_cases j:gr= -1;rw[an j,bg];intro _;exact cw.2 (Yq h a (.inr ⟨rfl,l⟩) e r j);rw[a_ j];intro m;simp[bX]at m;rw[a_ r];have z:t.2.1=1:=by omega
 by_cases O:pK D t.2.2.2.2.2.2.2.1=true;rw[an O,bg];intro _;exact cw.2 (aaQ h a e l z (by decide) (afq h.cf h.nw f l q.2.2.2.2.2.2.2 q.1.2.2.2.2.2.2.2.2.2 v (y l)));rw[a_ O,bg];intro _;refine cw.2 (aaQ h a e l z (by decide) ⟨f.go,f.ho,f.tm,f.ap,λg u=> ?_⟩);obtain⟨C,F,G,h6⟩:=f.td g u;refine⟨C,F,G,.inl (h6.resolve_right λh7=>O ?_)⟩;unfold pK;obtain⟨i,H,_⟩:=Hw (d:=ak.aa) (p:=λx:ar=>decide (x.1=t.2.2.2.2.2.2.2.1)) u (by simpa using h7.2.symm);have:gL D t.2.2.2.2.2.2.2.1=some i:=H;rw[this];rfl
end
def kR(w:af):List aq:=w.2.2.2.1
def Pm(w:af):List aI:=w.2.2.2.2.2.2.2.2.2.1
def nnW(w:af):Int:=w.2.2.2.2.2.2.2.2.1
def Xq{s:Bool}{k:Nat}{w:af}{i:Nat}(h:bC k w=true)(hi:i<5)(a:w.2.1<4611686018427387904)(j:∀p∈kR w,p.2.1<4611686018427387904)
 (l:i=3->nnW w<4611686018427387904/\(Pm w).length<=15) (m:i=4->AW (Pm w) ((bI w).getD 4 ah.aa)/\(((bI w).getD 4 ah.aa).1=6->(Pm w).length<=15)):
 (gx s k w i).1=true->bC k (gx s k w i).2=true:=by
 obtain⟨c,ti,M,st,V,T,gr,D,nn,Q,Z,U,A,E⟩:=w;have R:=cw.1 h;generalize b:A.getD i ah.aa=t;have o:=R.tas i hi;rw[b]at o;have ho:=jN (k:=k) (w:=(c,ti,M,st,V,T,gr,D,nn,Q,Z,U,A,E)) (i:=i) o;unfold gx;dsimp only[bI];rw[b];by_cases e:t.1=1;rw[an e];exact ae9 R a j (by omega) b e;rw[a_ e];by_cases q:t.1=2\/t.1=3;rw[an q];unfold eu vK;dsimp only;rw[b];by_cases f:t.1=2;rw[an f];exact adS R a (by omega) b f;rw[a_ f];exact abr R a (by omega) b (by omega);rw[a_ q];by_cases g:t.1=4;rw[an g];exact Zl R a j (by omega) b g;rw[a_ g];by_cases d:i=3;rw[an d];exact acn R a (l d).1 (l d).2;rw[a_ d];by_cases h6:i=4;rw[an h6];exact aag R a (m h6).1 (m h6).2;rw[a_ h6];intro r;cases r
section
variable{k:Nat}{c:bw}{ti M gr nn:Int}{st:List aq}{V:List bp}{T U:List ae}{D:List ar}{Q:List aI}{Z:List bE}{A:List aA}{E:List ay}{t:aA}
def EW{i:Nat}{t':aA}{op:Int}(h:Rt k c ti M st V T gr D nn Q U A E)(a:ti<4611686018427387904)(hi:i<3)(f:A.getD i ah.aa=t)(g:t.1=0)(e:t'.2.1=0)
 (b:1<=op/\op<=9) (j:0<=t'.2.2.2.2.2.2.2.1)
 (l:dv k c.1 st nn ((E.length:Int)+1) (vj t' E.length) (op,(i:Int),t'.2.2.1,t'.2.2.2.1,0,t'.2.2.2.2.2.2.2.1,0,[],M,ti,-1,-1) (i:Int)=true):
 Rt k c (tick ti) M st V T gr D nn Q U (A.set i (vj t' E.length)) (E++[(op,(i:Int),t'.2.2.1,t'.2.2.2.1,0,t'.2.2.2.2.2.2.2.1,0,[],M,ti,-1,-1)]):=by
 have d:=h.ti0
 refine kq h a (by omega) h.sto h.sub ((h.dee.up (by omega)).app ⟨GR b (by omega) j h.nw.1 d,by show ti<ti+1;omega,by show-1<ti+1;omega,by show-1<ti+1;omega⟩)
  (jc.refl _ st) (fL.app _ E _) (g_ _) ?_ (Cl (by omega) h.tl h.loc f (by rw[eD (t:=vj t' E.length) (.inl e),eD (.inr (.inl g))]) rfl (λ_ _=>rfl) (by rw[gW (t:=vj t' E.length) (.inr e),gW (.inl (by omega))])) (h.grp.other (by omega))
 have m:bn (vj t' (E.length:Int))=((E.length:Nat):Int):=rfl;rw[m,aws,A7,lk,G_];exact l
def YN{d:ay}{a:List bp}(h:Rt k c ti M st V T gr D nn Q U A E)(f:ti<4611686018427387904)(o:gg k d=true/\d.2.2.2.2.2.2.2.2.2.1<ti+1/\d.2.2.2.2.2.2.2.2.2.2.1<ti+1/\d.2.2.2.2.2.2.2.2.2.2.2<ti+1)
 (hs:EN c a T U):Rt k c (tick ti) M st a T gr D nn Q U A (E++[d]):=by
 have g:=h.ti0;have e:=wv g f;refine⟨h.cf,by omega,h.nn0,h.nw,h.sto,hs,by rw[e];exact(h.dee.up (by omega)).app o,h.tl,λj m=> ?_,h.loc,h.grp⟩;have b:=h.tas j m;by_cases l:(A.getD j ah.aa).1=0;exact M4 b l;obtain⟨b1,b2,b3⟩:=AD b l;rw[lv _ (by omega)];exact Kq b (by rw[lk];omega) (g_ _) (λ_ _=>rfl) (λ_ h=>h)
def ait{a:Int}(h:Rt k c ti M st V T gr D nn Q U A E)(b:ti<4611686018427387904)(h1:M<=a)(h2:a<=99899):
 Rt k c (tick ti) a st V T gr D nn Q U A E:=by
 have d:=h.ti0;have e:=wv d b;have hw:=h.nw;refine⟨h.cf,by omega,h.nn0,by omega,h.sto,h.sub,by rw[e];exact h.dee.up (by omega),h.tl,h.tas,h.loc,h.grp.go,h.grp.ho,h.grp.tm,h.grp.ap,λg f=> ?_⟩;have:=h.grp.td g f;exact⟨by omega,by omega,this.2.2.1,this.2.2.2⟩
end
def aaa{k:Nat}{c1 nn m M ti:Int}{st:List aq}{i:Nat}{a:ae}{l:List ai}(hi:i<3)(b:0<=m)(hc:0<c1):
 (dx a=true->dv k c1 st nn (m+1) (vj (yQ a) m) (1,(i:Int),a,[],0,0,0,[],M,ti,-1,-1) (i:Int)=true)/\
 (dP l=true->dv k c1 st nn (m+1) (vj (vr l) m) (3,(i:Int),ya,l,0,0,0,[],M,ti,-1,-1) (i:Int)=true)/\
 dv k c1 st nn (m+1) (vj so m) (4,(i:Int),ya,[],0,0,0,[],M,ti,-1,-1) (i:Int)=true/\
 dv k c1 st nn (m+1) (vj vk m) (6,(i:Int),ya,[],0,0,0,[],M,ti,-1,-1) (i:Int)=true:=by
 have g:mA []=true:=by unfold mA;simp[ng]
 have h:bT []=true:=by unfold bT;simp[ng]
 refine⟨λd=>(kU (t:=vj (yQ a) m) rfl).2 ?_,λe=>(kP (t:=vj (vr l) m) rfl).2 ?_,(fh (t:=vj so m) rfl).2 ?_,(kQ (t:=vj vk m) rfl).2 ?_⟩;rw[a_ (by show¬(0:Int)=2;decide)];exact⟨⟨by omega,by omega,b,g_ _,by show(0:Int)<=2;decide,gZ d,rfl,rfl,rfl,rfl,rfl⟩,by show m<m+1;omega,rfl,rfl,by show(¬(-1:Int)= -1↔(0:Int)=2);decide,rfl,rfl,d⟩;exact⟨⟨by omega,by omega,b,g_ _,by show(0:Int)<=1;decide,rfl,e,rfl,rfl,rfl,rfl⟩,by show m<m+1;omega,rfl,rfl,rfl,rfl,rfl⟩;rw[a_ (by show¬(0:Int)=2;decide)];exact⟨⟨by omega,by omega,b,g_ _,by show(0:Int)<=2;decide,rfl,rfl,g,rfl,h,rfl⟩,by show m<m+1;omega,rfl,rfl,rfl,rfl,zN.2 ⟨λp f=>by simp[vj,so]at f,λ_=>by simp[vj,so]⟩,g_ _,by show(0:Int)<=2;decide,hc⟩;exact⟨⟨by omega,by omega,b,g_ _,by show(0:Int)<=1;decide,rfl,rfl,g_ _,by show(0:Int)<=2;decide,rfl,rfl,rfl⟩,by show m<m+1;omega,rfl,rfl,rfl,rfl,hc⟩
def xm{k:Nat}{w:af}{i:Int}{t':aA}{op:Int}(h:jo k w i=true)(b:w.2.1<4611686018427387904)
 (f:(∃a,dx a=true/\t'=yQ a/\op=1)\/(∃l,dP l=true/\t'=vr l/\op=3)\/(t'=so/\op=4)\/(t'=vk/\op=6)):bC k (gE w i t' op)=true:=by
 obtain⟨c,ti,M,st,V,T,gr,D,nn,Q,Z,U,A,E⟩:=w;unfold jo cX jJ bh at h;simp only[h_,b_]at h;obtain⟨g,⟨h2,h3⟩,h4,d⟩:=h;have R:=cw.1 g;obtain⟨j,rfl⟩:∃j:Nat,i=(j:Int):=⟨i.toNat,by omega⟩
 rw[aws]at d;have h0:=iJ R.sto.ok;have e:=R.sto.len;have hc:0<c.1:=by omega
 obtain⟨o,p,q,r⟩:=aaa (k:=k) (c1:=c.1) (nn:=nn) (m:=(E.length:Int)) (M:=M) (ti:=ti) (st:=st) (i:=j) (a:=t'.2.2.1) (l:=t'.2.2.2.1) (by omega) (by omega) hc;refine cw.2 ?_;rcases f with⟨a,s,rfl,rfl⟩|⟨l,e,rfl,rfl⟩|⟨rfl,rfl⟩|⟨rfl,rfl⟩;exact EW (t':=yQ a) (op:=1) R b (by omega) rfl d rfl (by decide) (g_ _) (o s);exact EW (t':=vr l) (op:=3) R b (by omega) rfl d rfl (by decide) (g_ _) (p e);exact EW (t':=so) (op:=4) R b (by omega) rfl d rfl (by decide) (g_ _) q;exact EW (t':=vk) (op:=6) R b (by omega) rfl d rfl (by decide) (g_ _) r
def VD{k:Nat}{w:af}{i:Int}{a:ae}(h:jo k w i=true)(b:w.2.1<4611686018427387904):bC k (refused w i a)=true:=by
 obtain⟨c,ti,M,st,V,T,gr,D,nn,Q,Z,U,A,E⟩:=w;unfold jo cX jJ bh at h;simp only[h_,b_]at h;obtain⟨d,⟨h2,h3⟩,h4,h5⟩:=h;have R:=cw.1 d;exact cw.2 (YN R b ⟨A8 (op:=1) (j:=0) (n:=0) (code:=4) ⟨by decide,by decide⟩ (by omega) (by decide) (by decide) R.nw.1 R.ti0 (by decide),by show ti<ti+1;omega,by show ti<ti+1;omega,by show ti<ti+1;omega⟩ R.sub)
def Nt{k:Nat}{w:af}{i:Int}{l:List ai}(h:bC k w=true)(b:w.2.1<4611686018427387904):bC k (lookW k w i l)=true/\bC k (vF k w i)=true/\bC k (aeQ k w i)=true:=by
 unfold lookW vF aeQ mI;refine⟨?_,?_,?_⟩;by_cases a:(jo k w i&&dP l)=true;rw[an a];simp only[h_]at a;exact xm a.1 b (.inr (.inl ⟨l,a.2,rfl,rfl⟩));rw[a_ a];exact h;by_cases a:jo k w i=true;rw[an a];exact xm a b (.inr (.inr (.inl ⟨rfl,rfl⟩)));rw[a_ a];exact h;by_cases a:jo k w i=true;rw[an a];exact xm a b (.inr (.inr (.inr ⟨rfl,rfl⟩)));rw[a_ a];exact h
theorem ux{e:Ty}{B:Nat}:∀ {l:List e.den},(∀x∈l,ag e x<=B)->ag (.sl e) l<=(B+1)*l.length
 | [],_=>by rw[bf];exact awz _
 |x::l,h=>by
  have h1:=h x (awk ..);have h2:=ux (l:=l) λy a=>h y (awm _ a);rw[ck,awi,Nat.mul_add];omega
def gS:Nat->Nat
 |0=>0
 |s+1=>gS s+(52-s)
def akX(s:Nat)(h:s<=53):gS s<=1378:=by
 have:∀s,s<54->gS s<=1378:=by decide
 exact this s (by omega)
def gH(t:aA):Nat:=if t.1=0 then 0 else if t.2.1=0 then 1 else 2
def oX(l:List ar):Nat:=(l.flatMap λg=>g.2.2.2.2).length
structure Ex(n:Nat)(c:bw)(ti:Int)(st:List aq)(T:List ae)(D:List ar)(nn:Int)(Q:List aI)(Z:List bE)(U:List ae)(A:List aA)(E:List ay):Prop where
 ti:ti<=n
 nn:nn<=n
 ver:∀p∈st,p.2.1<=n
 hp:Q.length+(if(A.getD 4 ah.aa).1=6 then 1 else 0)<=D.length
 fr:AW Q (A.getD 4 ah.aa)
 fe:ag (.sl ab) T<=100*n
 sa:ag (.sl ab) U<=100*n
 pot:3*oX D+3*Z.length+gH (A.getD 3 ah.aa)+gH (A.getD 4 ah.aa)<=n
 sk:ag (.sl cJ) Z<=200*Z.length+97*gS Z.length
 de:ag (.sl aw) E<=3000*n+97*gS Z.length
 tg:∀i,i<5->(A.getD i ah.aa).2.2.2.2.2.2.1.length<=8*(A.getD i ah.aa).2.2.2.2.2.1.length
section
variable{k:Nat}(O:9223372036854775808<=k)
include O
def aeH{x:ai}(h:gN x=true):ag al x<=20:=by
 rw[qU O];unfold gN im lY at h;simp only[h_,b_]at h;omega
def DU{l:List ai}(h:dP l=true):ag (.sl al) l<=84:=by
 have a:=Ui.1 h;have h2:=ux (e:=al) (B:=20) (l:=l) λx b=>aeH O (a.2.1 x b);have:21*l.length<=21*4:=Nat.mul_le_mul_left _ a.1;omega
def mQ{a:ae}(h:bA a=true):ag ab a<=96:=by
 rw[bG O];unfold bA lY at h;simp only[h_,b_]at h;have:=DU O h.1.1.1.1;omega
def mi{l:List ae}(h:∀a∈l,bA a=true):ag (.sl ab) l<=97*l.length:=
 ux (e:=ab) (B:=96) λa b=>mQ O (h a b)
theorem OE:∀ {l:List aR},(∀c∈l,ek k c=true)->ag (.sl az) l<=98*(l.flatMap nW).length
 | [],_=>by rw[bf];exact awz _
 |c::l,h=>by
  have b:=sW.1 (h c (awk ..));have h2:=OE (l:=l) λy d=>h y (awm _ d);have h3:=mi O λa e=>(b.1 a e).1;rw[ck,dj O,awp,lk];simp only[nW];have:=b.2.1;omega
def Il{st:List aq}(h:eo k st=true):ag (.sl aj) st<=st.length+98*bL st:=by
 have a:∀p∈st,∀c∈p.2.2,ek k c=true:=by
  intro p b c hc;obtain⟨i,e,rfl⟩:=mn aj.aa b;exact((fj.1 ((dm.1 h).1 i e)).1 c hc).1
 unfold bL cn;clear h
 induction st with
 |nil=>rw[bf];exact awz _
 |cons p st f=>
  have h2:=f λq d=>a q (awm _ d);have h3:=OE O (a p (awk ..));have h4:(bd p).length=(p.2.2.flatMap nW).length:=rfl;rw[ck,cM O,awp,lk,awi];omega
def abn{l:List ar}{by_:List ByteArray}(h:∀g∈l,fo g by_=true):ag (.sl ak) l<=85*l.length+97*oX l:=by
 unfold oX
 induction l with
 |nil=>rw[bf];exact awz _
 |cons g l f=>
  have h2:=f λq d=>h q (awm _ d);have b:=kS.1 (h g (awk ..));have h4:=DU O b.2.1;have h5:=mi O λa e=>(b.2.2.2.2.2.1 a e).1;rw[ck,di O,awp,lk,awi];omega
def agQ{l:List bp}(h:∀s∈l,gK s=true):ag (.sl bj) l<=292*l.length:=
 ux (e:=bj) (B:=291) λs b=>by
  have a:=h s b;unfold gK bT at a;simp only[h_,b_]at a;have h2:=mi O (fb.1 a.2.2);rw[gO O];omega
theorem MI(l:List Int):ag (.sl (.int .i64)) l=l.length:=by
 induction l with
 |nil=>exact bf
 |cons a l b=>
  have:ag (.sl (.int .i64)) (a::l)=1+ag (.int .i64) a+ag (.sl (.int .i64)) l:=ck (e:= .int .i64) a l;rw[this,b,awi];simp only[ag];omega
def oz{c:bw}(h:dS c=true):ag fX c<=18/\1<=c.1/\c.1<=3/\c.2.1<=8/\c.2.2.1<=2:=by
 unfold dS zI bh at h;simp only[h_,b_]at h
 have h1:=ux (e:= .str) (B:=8) (l:=c.2.2.2.2.2) λx a=>by
  have:=fb.1 h.2.1 x a;unfold im at this;simp only[h_,b_]at this;show x.size<=8;omega
 rw[oP O];have:=h.2.2.1;omega
variable{c:bw}{ti M gr nn:Int}{st:List aq}{V:List bp}{T U:List ae}{D:List ar}{Q:List aI}{Z:List bE}{A:List aA}{E:List ay}{n:Nat}
def ag1{t:aA}{c1 nn m i:Int}{d:ay}(h:dv k c1 st nn m t d i=true)(hl:t.2.2.2.2.2.2.1.length<=8*t.2.2.2.2.2.1.length):ag ah t<=2600:=by
 have e:dR t i=true:=by unfold dv at h;simp only[h_]at h;exact h.1
 rw[bq O,MI O];have b:ag ab c9=0:=by rw[bG O];unfold c9;rw[bf];rfl
 have el:ag (.sl al) ([]:List ai)=0:=bf;have a:ag (.sl ab) ([]:List ae)=0:=bf;by_cases f:t.1=1;have q:=((kU f).1 h).1;have:=mQ O q.2.2.2.2.2.1;rw[q.2.2.2.2.2.2.1,q.2.2.2.2.2.2.2.2.1,q.2.2.2.2.2.2.2.2.2.1,el,a];simp only[awh];omega;by_cases g:t.1=2;have q:=((kP g).1 h).1;have:=DU O q.2.2.2.2.2.2.1;rw[q.2.2.2.2.2.1,q.2.2.2.2.2.2.2.2.1,q.2.2.2.2.2.2.2.2.2.1,b,a];simp only[awh];omega;by_cases j:t.1=3;have q0:=(fh j).1 h;have q:=q0.1;have l:=q.2.2.2.2.2.2.2.2.2.1;unfold bT at l;have:=mi O (fb.1 l)
 have hI:t.2.2.2.2.1<=3:=by
  have:=q0.2.2.2.2.2.2.2;split at this<;>omega
 have hI2:=q.2.2.2.2.2.2.2.2.1;rw[q.2.2.2.2.2.1,q.2.2.2.2.2.2.1,b,el];omega;by_cases o:t.1=4;have q:=((kQ o).1 h).1;rw[q.2.2.2.2.2.1,q.2.2.2.2.2.2.1,q.2.2.2.2.2.2.2.2.2.1,q.2.2.2.2.2.2.2.2.2.2.1,b,el,a];simp only[awh];omega;by_cases p:t.1=5;have q:=((mL p).1 h).1;have:=mQ O q.2.2.2.2.1;rw[q.2.2.2.2.2.1,q.2.2.2.2.2.2.2.1,q.2.2.2.2.2.2.2.2.1,el,a];simp only[awh];omega;by_cases h6:t.1=6;have q:=((jF h6).1 h).1;rw[q.2.2.2.2.1,q.2.2.2.2.2.1,q.2.2.2.2.2.2.2.1,q.2.2.2.2.2.2.2.2.1,b,el,a];simp only[awh];omega
 have r:t=zT:=by
  unfold dR at e;simp only[f,g,j,o,p,h6,decide_false,awS,Bool.or_false,h_,b_]at e;exact e.2.2
 rw[r];unfold zT;rw[b,el,a];simp only[awh];omega
def acD(h:Rt k c ti M st V T gr D nn Q U A E)(a:Ex n c ti st T D nn Q Z U A E)(hn:n<=160):ag aN (c,ti,M,st,V,T,gr,D,nn,Q,Z,U,A,E)<=1000000:=by
 obtain⟨c0,c1,c2,c3,c4⟩:=oz O h.cf;have a1:=Il O h.sto.ok;have a2:=h.sto.cap;have a3:=(dm.1 h.sto.ok).2;have a4:=agQ O h.sub.sub;have a5:=h.sub.len;have a6:=abn O (dy.1 h.grp.go).2.1;have a7:=(dy.1 h.grp.go).1;have a8:=a.pot;have a9:=a.hp;have b1:=akX Z.length (by omega);have b2:=a.sk;have b3:=a.de;have b4:=a.fe;have b5:=a.sa
 have f:ag (.sl ah) A<=2601*A.length:=ux (e:=ah) (B:=2600) λt d=>by
  obtain⟨i,b,rfl⟩:=mn ah.aa d;rw[h.tl]at b;exact ag1 O (h.tas i b) (a.tg i b)
 have b7:ag (.sl aL) Q<=1*Q.length:=ux (e:=aL) (B:=0) λt d=>by rw[UE O];exact X' _
 rw[h.tl]at f;rw[cO O];dsimp only;omega
end
def aft(l m:List ar):oX (l++m)=oX l+oX m:=by unfold oX;rw[List.flatMap_append,lk]
def MM{l:List ar}{i:Nat}{g:ar}(hi:i<l.length):oX (l.set i g)+(l.getD i ak.aa).2.2.2.2.length=oX l+g.2.2.2.2.length:=KL (f:=λg:ar=>g.2.2.2.2) hi
def ah4{l:List ar}{i:Nat}(hi:i<l.length):(l.getD i ak.aa).2.2.2.2.length<=oX l:=by
 have:=MM (l:=l) (i:=i) (g:=(0,[],0,0,[])) hi;simp only[awh]at this;omega
def agK(l:List ar)(i:Nat):oX (l.take i++l.drop (i+1))<=oX l:=by
 have b:(l.take i++l.drop (i+1)).Sublist l:=by
  rw[<-List.eraseIdx_eq_take_drop_succ];exact List.eraseIdx_sublist _ _
 unfold oX;generalize l.take i++l.drop (i+1)=m at b
 induction b with
 |slnil=>exact X' _
 |cons a h d=>rw[awp,lk];omega
 |cons_cons a h d=>rw[awp,awp,lk,lk];omega
section
variable{k:Nat}(O:9223372036854775808<=k)
include O
def rN{x:Bool}{d:ay}{M ti code:Int}{got:List ae}:ag aw (eC true x d M ti code got)<=ag aw d+ag (.sl ab) got:=by
 unfold eC oQ ER pN;rw[an (by rfl)];split;rw[cD O,cD O];dsimp only;omega;rw[cD O,cD O];dsimp only;omega
theorem nY{l:List ay}{n:Nat}{d':ay}{B:Nat}(a:n<l.length)(h:ag aw d'<=ag aw (l.getD n aw.aa)+B):ag (.sl aw) (l.set n d')<=ag (.sl aw) l+B:=by
 have:=iT (e:=aw) l n d' a;have e:l.getD n (Ty.aa aw)=l.getD n aw.aa:=rfl;omega
theorem uB{l:List ay}{d:ay}{B:Nat}(h:ag aw d+1<=B):ag (.sl aw) (l++[d])<=ag (.sl aw) l+B:=by
 rw[fa,ck,bf];omega
def iF:ag ab c9=0:=by rw[bG O];unfold c9;rw[bf];rfl
variable{c:bw}{ti M gr nn:Int}{st:List aq}{V:List bp}{T U:List ae}{D:List ar}{Q:List aI}{Z:List bE}{A:List aA}{E:List ay}{n i:Nat}{t:aA}
omit O in
theorem Ex.lH{t':aA}{o:List aq}{b l:List ae}{a:List ay}(h:Ex n c ti st T D nn Q Z U A E)(y:0<=ti)(hn:n<=1000)(tl:A.length=5)(hi:i<3)
 (z:∀p∈o,p.2.1<=(n:Int)+1) (hf:ag (.sl ab) b<=ag (.sl ab) T+100) (hs:ag (.sl ab) l<=ag (.sl ab) U+100) (hd:ag (.sl aw) a<=ag (.sl aw) E+3000)
 (B:t'.2.2.2.2.2.2.1.length<=8*t'.2.2.2.2.2.1.length):Ex (n+1) c (tick ti) o b D nn Q Z l (A.set i t') a:=by
 have e:=wv y (by have:=h.ti;omega);have C:(A.set i t').getD 3 ah.aa=A.getD 3 ah.aa:=getD_set_ne _ _ (by omega);have q:(A.set i t').getD 4 ah.aa=A.getD 4 ah.aa:=getD_set_ne _ _ (by omega);have:=h.ti;have:=h.nn;have:=h.fe;have:=h.sa;have:=h.pot;have:=h.de;refine⟨by rw[e];omega,by omega,λp v=>by have:=z p v;omega,by rw[q];exact h.hp,by rw[q];exact h.fr,by omega,by omega,by rw[C,q];omega,h.sk,by omega,λj w=> ?_⟩;by_cases u:i=j;subst u;rw[aT _ _ (by omega)];exact B;rw[getD_set_ne _ _ u];exact h.tg j w
omit O in
theorem Ex.alone{a:List ay}(h:Ex n c ti st T D nn Q Z U A E)(l:0<=ti)(hn:n<=1000)(hd:ag (.sl aw) a<=ag (.sl aw) E+3000):
 Ex (n+1) c (tick ti) st T D nn Q Z U A a:=by
 have e:=wv l (by have:=h.ti;omega);have:=h.ti;have:=h.nn;have:=h.fe;have:=h.sa;have:=h.pot;have:=h.de;exact⟨by rw[e];omega,by omega,λp b=>by have:=h.ver p b;omega,h.hp,h.fr,by omega,by omega,by omega,h.sk,by omega,h.tg⟩
omit O in
theorem Ex.stay(h:Ex n c ti st T D nn Q Z U A E):Ex (n+1) c ti st T D nn Q Z U A E:=by
 have:=h.ti;have:=h.nn;have:=h.fe;have:=h.sa;have:=h.pot;have:=h.de;exact⟨by omega,by omega,λp a=>by have:=h.ver p a;omega,h.hp,h.fr,by omega,by omega,by omega,h.sk,by omega,h.tg⟩
omit O in
theorem oI{st:List aq}{j:Nat}{x:Int}{B:Int}(h:∀p∈st,p.2.1<=B):∀p∈cG st j x,p.2.1<=B:=by
 intro p a;unfold cG at a;by_cases b:j<st.length;rcases awc a with a|rfl;exact h p a;exact h (st.getD j aj.aa) (cx b);rw[awE (by omega)]at a;exact h p a
omit O in
theorem qG:zT.2.2.2.2.2.2.1.length<=8*zT.2.2.2.2.2.1.length:=by decide
def aj5(h:Rt k c ti M st V T gr D nn Q U A E)(o:Ex n c ti st T D nn Q Z U A E)(hn:n<=160)(hi:i<3)(x:A.getD i ah.aa=t)(J:t.1=1):
 (kI true k (c,ti,M,st,V,T,gr,D,nn,Q,Z,U,A,E) i).1=true->
 ∃u v m g y j a b,(kI true k (c,ti,M,st,V,T,gr,D,nn,Q,Z,U,A,E) i).2=(c,u,M,v,m,g,y,D,nn,Q,Z,j,a,b)/\
  Ex (n+1) c u v g D nn Q Z j a b:=by
 have C:=iJ h.sto.ok;obtain⟨I,g2⟩:=jA (k:=k) (s:=t.2.2.1.1) C;obtain⟨L,z,hb,B,hv1,hw⟩:=dU h (by omega) x (by omega);have K:=(kU J).1 L;have f:∀p∈st,p.2.1<=(n:Int)+1:=λp r=>by have:=o.ver p r;omega
 have q:=o.tg i (by omega);rw[x]at q;unfold kI wP;dsimp only;rw[x];by_cases F:t.2.1=0;rw[an F];unfold ey;dsimp only;rw[x];by_cases w:(st.getD (bO k st t.2.2.1.1).toNat aj.aa).1= -1;rw[an w,bg];intro _;exact⟨_,_,_,_,_,_,_,_,rfl,o.lH h.ti0 (by omega) h.tl hi (oI f) (by omega) (by omega) (by omega) q⟩;rw[a_ w];intro B;simp[bX]at B;rw[a_ F];by_cases G:t.2.1=1;rw[an G];by_cases w:yG k c st t.2.2.1=true;rw[an w,bg];intro _;exact⟨_,_,_,_,_,_,_,_,rfl,o.lH h.ti0 (by omega) h.tl hi (oI f) (by omega) (by omega) (nY O z (awr (rN O) (by rw[bf];omega))) qG⟩;rw[a_ w,bg];intro _;refine⟨_,_,_,_,_,_,_,_,rfl,o.lH h.ti0 (by omega) h.tl hi (λp r=> ?_) (by omega) (by omega) (nY O z ?_) q⟩;rw[yU C]at r;rcases awc r with r|rfl;exact f p r;have hv:=o.ver _ (cx (d:=aj.aa) I);have hv0:=(fj.1 ((dm.1 h.sto.ok).1 _ I)).2.2.2;rw[(yP k _ _).1,wrap64 (by omega) (by omega)];omega;unfold sr;rw[cD O,cD O];dsimp only;omega;rw[a_ G,bg];intro _;have ha:=mQ O K.1.2.2.2.2.2.1
 have H:∀l:List ae,ag (.sl ab) (l++[t.2.2.1])<=ag (.sl ab) l+100:=λl=>by
  rw[fa (e:=ab),ck (e:=ab),bf];omega
 refine⟨_,_,_,_,_,_,_,_,rfl,o.lH h.ti0 (by omega) h.tl hi (oI f) (H _) (H _) ?_ qG⟩
 have a1:ag (.sl aw) (E++[jh (vq i t.2.2.1) M ti ti ti])<=ag (.sl aw) E+200:=uB O (by
  unfold jh vq;rw[cD O];dsimp only;rw[bf,bf];omega)
 have a2:ag (.sl aw) ((E++[jh (vq i t.2.2.1) M ti ti ti]).set (bn t).toNat (pN (E.getD (bn t).toNat aw.aa) ti))<=ag (.sl aw) (E++[jh (vq i t.2.2.1) M ti ti ti])+0:=nY O (by rw[lk];omega) (by
  rw[lv _ z];unfold pN;rw[cD O,cD O];exact X' _)
 omega
end
section
variable{k:Nat}(O:9223372036854775808<=k)
include O
variable{c:bw}{ti M gr nn:Int}{st:List aq}{V:List bp}{T U:List ae}{D:List ar}{Q:List aI}{Z:List bE}{A:List aA}{E:List ay}{n i:Nat}{t:aA}
def ajh(h:Rt k c ti M st V T gr D nn Q U A E)(q:Ex n c ti st T D nn Q Z U A E)(hn:n<=160)(hi:i<3)(s:A.getD i ah.aa=t)(ho:t.1=2):
 (bX (lu true k (c,ti,M,st,V,T,gr,D,nn,Q,Z,U,A,E) i)).1=true->
 ∃m o j d u f a b,(bX (lu true k (c,ti,M,st,V,T,gr,D,nn,Q,Z,U,A,E) i)).2=(c,m,M,o,j,d,u,D,nn,Q,Z,f,a,b)/\
  Ex (n+1) c m o d D nn Q Z f a b:=by
 have h0:=iJ h.sto.ok;obtain⟨hr,x,hb,v,hv1,hw⟩:=dU h (by omega) s (by omega);have g:∀p∈st,p.2.1<=(n:Int)+1:=λp y=>by have:=q.ver p y;omega
 have r:=q.tg i (by omega);rw[s]at r;unfold lu;dsimp only;rw[s];by_cases w:t.2.1=0;rw[an w];unfold ey;dsimp only;rw[s];by_cases l:(st.getD (bO k st t.2.2.2.1).toNat aj.aa).1= -1;rw[an l,bg];intro _;exact⟨_,_,_,_,_,_,_,_,rfl,q.lH h.ti0 (by omega) h.tl hi (oI g) (by omega) (by omega) (by omega) r⟩;rw[a_ l];intro v;simp[bX]at v;rw[a_ w];by_cases l:(bQ k st t.2.2.2.1).2=true;rw[an l,bg];intro _;have ha:=mQ O (gZ (h.sto.fit _ (BN l).2));exact⟨_,_,_,_,_,_,_,_,rfl,q.lH h.ti0 (by omega) h.tl hi (oI g) (by omega) (by omega) (nY O x (awr (rN O) (by rw[ck (e:=ab),bf];omega))) qG⟩;rw[a_ l,bg];intro _;exact⟨_,_,_,_,_,_,_,_,rfl,q.lH h.ti0 (by omega) h.tl hi (oI g) (by omega) (by omega) (nY O x (awr (rN O) (by rw[bf];omega))) qG⟩
omit O in
theorem Xe{st:List aq}{j:Nat}(a:j<st.length):(bd (st.getD j aj.aa)).length<=bL st:=by
 have:=count_set (l:=st) (p:=(0,0,[])) a;have e:(bd ((0,0,[]):aq)).length=0:=rfl;omega
def aiG(h:Rt k c ti M st V T gr D nn Q U A E)(j:Ex n c ti st T D nn Q Z U A E)(hn:n<=160)(hi:i<3)(s:A.getD i ah.aa=t)(C:t.1=3):
 (bX (fZ true k (c,ti,M,st,V,T,gr,D,nn,Q,Z,U,A,E) i)).1=true->
 ∃l m g e u f a b,(bX (fZ true k (c,ti,M,st,V,T,gr,D,nn,Q,Z,U,A,E) i)).2=(c,l,M,m,g,e,u,D,nn,Q,Z,f,a,b)/\
  Ex (n+1) c l m e D nn Q Z f a b:=by
 have h0:=iJ h.sto.ok;obtain⟨H,I,hb,v,hv1,hw⟩:=dU h (by omega) s (by omega);have F:=(fh C).1 H;obtain⟨⟨q1,q2,q3,q4,q5,q6,q7,q8,q9,q,q11⟩,q12,q13,q14,q15,q16,q17,r⟩:=F;have d:∀p∈st,p.2.1<=(n:Int)+1:=λp B=>by have:=j.ver p B;omega
 have o:=j.tg i (by omega);rw[s]at o;have hlen:=h.sto.len;have h3:=(dm.1 h.sto.ok).2;unfold fZ;dsimp only;rw[s];by_cases w:t.2.1=0;rw[an w];unfold ey;dsimp only;rw[s];by_cases x:(st.getD t.2.2.2.2.1.toNat aj.aa).1= -1;rw[an x,bg];intro _;exact⟨_,_,_,_,_,_,_,_,rfl,j.lH h.ti0 (by omega) h.tl hi (oI d) (by omega) (by omega) (by omega) o⟩;rw[a_ x];intro v;simp[bX]at v;rw[a_ w];by_cases y:t.2.1=1;rw[an y,bg];intro _;rw[a_ (by omega)]at r;have G:t.2.2.2.2.1.toNat<st.length:=by omega
 have:=Xe G;have:=h.sto.cap;have:=(oz O h.cf).2.2.2.1;refine⟨_,_,_,_,_,_,_,_,rfl,j.lH h.ti0 (by omega) h.tl hi (oI d) (by omega) (by omega) (by omega) ?_⟩;unfold nc;dsimp only;rw[lk,lk,G_];omega;rw[a_ y];by_cases z:gF st t.2.2.2.2.2.1=true;rw[an z,bg];intro _;have hI:t.2.2.2.2.1<=3:=by split at r<;>omega
 unfold bT at q;have:=mi O (fb.1 q);exact⟨_,_,_,_,_,_,_,_,rfl,j.lH h.ti0 (by omega) h.tl hi d (by omega) (by omega) (nY O I (awr (rN O) (by rw[uz];omega))) qG⟩;rw[a_ z,bg];intro _;exact⟨_,_,_,_,_,_,_,_,rfl,j.lH h.ti0 (by omega) h.tl hi d (by omega) (by omega) (by omega) (by unfold sN;simp)⟩
omit O in
theorem agh{p:aq}{M:Int}{a:ae}(h:a∈e9 M p.2.2):a∈bd p:=by
 obtain⟨c,hc,b⟩:=awF.1 h;unfold ni at b;exact awF.2 ⟨c,hc,(awQ.1 b).1⟩
def agN(h:Rt k c ti M st V T gr D nn Q U A E)(r:Ex n c ti st T D nn Q Z U A E)(hn:n<=160)(hi:i<3)(y:A.getD i ah.aa=t)(L:t.1=4):
 (iR true k (c,ti,M,st,V,T,gr,D,nn,Q,Z,U,A,E) i).1=true->
 ∃s u q g C j b f,(iR true k (c,ti,M,st,V,T,gr,D,nn,Q,Z,U,A,E) i).2=(c,s,M,u,q,g,C,D,nn,Q,Z,j,b,f)/\
  Ex (n+1) c s u g D nn Q Z j b f:=by
 have h0:=iJ h.sto.ok;obtain⟨N,P,hb,H,hv1,hw⟩:=dU h (by omega) y (by omega);obtain⟨⟨q1,q2,q3,q4,q5,q6,q7,q8,q9,F,G,q11'⟩,q12,q13,q14,q15,q16,q17⟩:=(kQ L).1 N;have o:∀p∈st,p.2.1<=(n:Int)+1:=λp v=>by have:=r.ver p v;omega
 have w:=r.tg i (by omega);rw[y]at w;have hlen:=h.sto.len;have z:t.2.2.2.2.1.toNat<st.length:=by omega
 unfold iR xu;dsimp only;rw[y];by_cases I:t.2.1=0;rw[an I];unfold ey;dsimp only;rw[y];by_cases J:(st.getD t.2.2.2.2.1.toNat aj.aa).1= -1;rw[an J,bg];intro _;exact⟨_,_,_,_,_,_,_,_,rfl,r.lH h.ti0 (by omega) h.tl hi (oI o) (by omega) (by omega) (by omega) w⟩;rw[a_ J];intro H;simp[bX]at H;rw[a_ I,bg];intro _
 have x:∀p∈st.set t.2.2.2.2.1.toNat (-1,(gj (st.getD t.2.2.2.2.1.toNat aj.aa) M).2),p.2.1<=(n:Int)+1:=by
  intro p v;rcases awc v with v|rfl;exact o p v;have hv:=r.ver _ (cx (d:=aj.aa) z);have hv0:=(fj.1 ((dm.1 h.sto.ok).1 _ z)).2.2.2;unfold gj;dsimp only;split;rw[wrap64 (by omega) (by omega)];omega;omega
 have hgl:=HT (st.getD t.2.2.2.2.1.toNat aj.aa) M;have:=Xe z;have:=h.sto.cap;have:=(oz O h.cf).2.2.2.1;have hgt:=mi O (l:=e9 M (st.getD t.2.2.2.2.1.toNat aj.aa).2.2) λa K=>gZ (h.sto.fit a (awF.2 ⟨_,cx z,agh K⟩))
 have a1:ag (.sl aw) (E++[jh (jm i t.2.2.2.2.1.toNat (e9 M (st.getD t.2.2.2.2.1.toNat aj.aa).2.2)) M ti ti ti])<=ag (.sl aw) E+800:=uB O (by
  have e:ag aw (jh (jm i t.2.2.2.2.1.toNat (e9 M (st.getD t.2.2.2.2.1.toNat aj.aa).2.2)) M ti ti ti)=ag ab c9+ag (.sl al) ([]:List ai)+ag (.sl ab) (e9 M (st.getD t.2.2.2.2.1.toNat aj.aa).2.2):=cD O _;rw[e,iF O,bf];omega)
 by_cases m:t.2.2.2.2.1.toNat+1=st.length;rw[an m,an m];refine⟨_,_,_,_,_,_,_,_,rfl,r.lH h.ti0 (by omega) h.tl hi x (by omega) (by omega) ?_ qG⟩;refine awr (nY O (B:=0) (by rw[lk];omega) ?_) (by omega);rw[lv _ P];exact awr (rN O) (by rw[bf];omega);rw[a_ m,a_ m];exact⟨_,_,_,_,_,_,_,_,rfl,r.lH h.ti0 (by omega) h.tl hi x (by omega) (by omega) (by omega) (by dsimp only;rw[F,G];decide)⟩
end
def abI(l:List ae)(a:ae):(jU l a).length<=l.length+1:=by
 unfold jU;split;rw[awg];omega;simp only[lk,awu,awq,G_];omega
def LQ(l:List aI)(t:aI):(E5 l t).length=l.length+1:=by
 rw[(xt l t).length_eq,lk,G_]
section
variable{k:Nat}(O:9223372036854775808<=k)
include O
variable{c:bw}{ti M gr nn:Int}{st:List aq}{V:List bp}{T U:List ae}{D:List ar}{Q:List aI}{Z:List bE}{A:List aA}{E:List ay}{n i:Nat}{t:aA}
omit O in
theorem Ex.join{t':aA}{o:List ae}{a:List ar}{q:Int}{b:List aI}{l:List ay}(h:Ex n c ti st T D nn Q Z U A E)(C:0<=ti)(hn:n<=1000)(tl:A.length=5)(G:A.getD 3 ah.aa=t)
 (hf:ag (.sl ab) o<=ag (.sl ab) T) (hd:ag (.sl aw) l<=ag (.sl aw) E+3000) (hnn:q<=nn+1) (w:b.length+D.length<=Q.length+a.length)
 (u:AW Q (A.getD 4 ah.aa)->AW b (A.getD 4 ah.aa)) (hpot:3*oX a+gH t'<=3*oX D+gH t+1) (H:t'.2.2.2.2.2.2.1.length<=8*t'.2.2.2.2.2.1.length):
 Ex (n+1) c (tick ti) st o a q b Z U (A.set 3 t') l:=by
 have e:=wv C (by have:=h.ti;omega);have y:(A.set 3 t').getD 3 ah.aa=t':=aT _ _ (by omega);have v:(A.set 3 t').getD 4 ah.aa=A.getD 4 ah.aa:=getD_set_ne _ _ (by omega);have a1:=h.ti;have a2:=h.nn;have a3:=h.fe;have a4:=h.sa;have I:=h.pot;have a6:=h.de;have a7:=h.hp;rw[G]at I;refine⟨by rw[e];omega,by omega,λp w=>by have:=h.ver p w;omega,by rw[v];omega,by rw[v];exact u h.fr,by omega,by omega,by rw[y,v];omega,h.sk,by omega,λj B=> ?_⟩;by_cases z:3=j;subst z;rw[y];exact H;rw[getD_set_ne _ _ z];exact h.tg j B
def aiO(h:Rt k c ti M st V T gr D nn Q U A E)(y:Ex n c ti st T D nn Q Z U A E)(hn:n<=160):
 (kH true k (c,ti,M,st,V,T,gr,D,nn,Q,Z,U,A,E)).1=true->
 ∃B o J a C p b f,(kH true k (c,ti,M,st,V,T,gr,D,nn,Q,Z,U,A,E)).2=(c,B,M,st,V,o,J,a,C,p,Z,U,b,f)/\
  Ex (n+1) c B st o a C p Z U b f:=by
 generalize u:A.getD 3 ah.aa=t;have L:=h.tas 3 (by decide);rw[u]at L;have G:=y.tg 3 (by decide);rw[u]at G;unfold kH mO;dsimp only;rw[u];by_cases z:t.1=0;rw[an z];by_cases P:T.length=0;rw[an P];intro F;simp[bX]at F;rw[a_ P,bg];intro _;have ha:=mQ O (h.sub.fee _ (cx (d:=ab.aa) (i:=0) (by omega)));have hdr:=dH (e:=ab) T 1;refine⟨_,_,_,_,_,_,_,_,rfl,y.join h.ti0 (by omega) h.tl u (by omega) (uB O ?_) (by omega) (by omega) id ?_ (by unfold El;simp)⟩;have e:ag aw (PZ (T.getD 0 ab.aa) M ti)=ag ab (T.getD 0 ab.aa)+ag (.sl al) ([]:List ai)+ag (.sl ab) ([]:List ae):=cD O _;rw[e,bf,bf];omega;have:gH (El (T.getD 0 ab.aa) (E.length:Int))=1:=rfl;omega;rw[a_ z]
 have S:t.1=5:=by
  have W:=jN (k:=k) (w:=(c,ti,M,st,V,T,gr,D,nn,Q,Z,U,A,E)) (i:=3) L;omega
 have q:=(mL S).1 L;obtain⟨_,Y,hb,F,hv1,hw⟩:=dU h (by decide) u z;have s:∀(d:ay) (code:Int),ag aw d<=ag aw (E.getD (bn t).toNat aw.aa)->ag (.sl aw) (E.set (bn t).toNat (eC true false d M ti code []))<=ag (.sl aw) E+3000:=λd code F=>nY O Y (awr (rN O) (by rw[bf];omega))
 have v:∀m,ag aw (wq (E.getD (bn t).toNat aw.aa) m)<=ag aw (E.getD (bn t).toNat aw.aa):=λm=>by
  unfold wq;rw[cD O,cD O];exact X' _
 by_cases I:t.2.1=0;rw[an I];unfold kN;dsimp only;rw[u];by_cases R:gr= -1;rw[an R,bg];intro _;refine⟨_,_,_,_,_,_,_,_,rfl,y.join h.ti0 (by omega) h.tl u (by omega) (by omega) (by omega) (by omega) id ?_ G⟩;have e1:gH t=1:=by unfold gH;rw[a_ z,an I]
 have e2:gH (t.1,(1:Int),t.2.2)=2:=by unfold gH;rw[a_ z];rfl
 omega;rw[a_ R];intro F;simp[bX]at F;rw[a_ I];have hnn0:=h.nn0;have hnnb:=y.nn;have ep:gH t=2:=by unfold gH;rw[a_ z,a_ I]
 have ez:gH zT=0:=rfl;cases N:iA D (keyOf t.2.2.1 c.2.2.2.2.2)with
 |none=>
  dsimp only;by_cases H:12<=D.length;rw[an H,bg];intro _;exact⟨_,_,_,_,_,_,_,_,rfl,y.join h.ti0 (by omega) h.tl u (X' _) (s _ 3 (X' _)) (by omega) (by omega) id (by omega) qG⟩;rw[a_ H,bg];intro _;refine⟨_,_,_,_,_,_,_,_,rfl,y.join h.ti0 (by omega) h.tl u (X' _) (s _ 1 (v nn)) (by rw[wrap64 (by omega) (by omega)];omega) ?_ ?_ ?_ qG⟩;rw[LQ,lk,G_];omega;intro K h6 x r;rcases X_.1 ((xt _ _).mem_iff.1 r)with r|r;exact K h6 x r;rw[o_.1 r];have X:=h.tas 4 (by decide);have:=((jF h6).1 X).2.2.2.2.2.2.2;show¬nn=_;omega;rw[aft];have:oX [vY c t.2.2.1 nn M]=1:=rfl;omega
 |some j=>
  dsimp only;rw[bg];intro _;refine⟨_,_,_,_,_,_,_,_,rfl,y.join h.ti0 (by omega) h.tl u (X' _) (s _ 2 (v _)) (by omega) (by rw[awg];omega) id ?_ qG⟩;have W:=MM (l:=D) (i:=j) (g:=nx (D.getD j ak.aa) t.2.2.1) (wY N).1;have h2:(nx (D.getD j ak.aa) t.2.2.1).2.2.2.2.length<=(D.getD j ak.aa).2.2.2.2.length+1:=abI _ _;omega
omit O in
theorem Ex.flush{t':aA}{b:List ar}{l:List aI}{a:List bE}{o:List ay}(h:Ex n c ti st T D nn Q Z U A E)(B:0<=ti)(hn:n<=1000)(tl:A.length=5)
 (C:ag (.sl aw) o<=3000*(n+1)+97*gS a.length) (v:l.length+(if t'.1=6 then 1 else 0)<=b.length)
 (w:AW l t') (q:3*oX b+3*a.length+gH (A.getD 3 ah.aa)+gH t'<=n+1) (hs:ag (.sl cJ) a<=200*a.length+97*gS a.length) (G:t'.2.2.2.2.2.2.1.length<=8*t'.2.2.2.2.2.1.length):
 Ex (n+1) c (tick ti) st T b nn l a U (A.set 4 t') o:=by
 have e:=wv B (by have:=h.ti;omega);have H:(A.set 4 t').getD 3 ah.aa=A.getD 3 ah.aa:=getD_set_ne _ _ (by omega);have u:(A.set 4 t').getD 4 ah.aa=t':=aT _ _ (by omega);have a1:=h.ti;have a2:=h.nn;have a3:=h.fe;have a4:=h.sa;refine⟨by rw[e];omega,by omega,λp v=>by have:=h.ver p v;omega,by rw[u];exact v,by rw[u];exact w,by omega,by omega,by rw[H,u];exact q,hs,C,λj z=> ?_⟩;by_cases y:4=j;subst y;rw[u];exact G;rw[getD_set_ne _ _ y];exact h.tg j z
omit O in
theorem ZO(l:List ar)(m M:Int):oX (fw l m M)<=oX l:=by
 unfold fw;cases e:gL l m with
 |none=>exact X' _
 |some i=>
  dsimp only;split;exact agK _ _;have h1:=MM (l:=l) (i:=i) (g:=kC (l.getD i ak.aa) M) (jL e).1
  have h2:(kC (l.getD i ak.aa) M).2.2.2.2.length<=(l.getD i ak.aa).2.2.2.2.length:=by
   unfold kC fx;exact List.length_filter_le _ _
  omega
omit O in
theorem abN{c:bw}{Q:List aI}{l:List ar}{m M:Int}{by_:List ByteArray}(p:fD l by_=true)(h:Q.length+1<=l.length):(D0 c Q (fw l m M) m).length<=(fw l m M).length:=by
 unfold D0;cases a:gL (fw l m M) m with
 |none=>
  dsimp only;unfold fw;cases e:gL l m with
  |none=>dsimp only;omega
  |some i=>
   dsimp only;have:=(jL e).1;split;simp only[lk,awu,awq];omega;rw[awg];omega
 |some j=>
  dsimp only;rw[LQ];unfold fw at a|-;cases e:gL l m with
  |none=>dsimp only;omega
  |some i=>
   rw[e]at a;dsimp only at a|-;obtain⟨s,k2⟩:=jL e;by_cases o:(kC (l.getD i ak.aa) M).2.2.2.2=[]
   exfalso;rw[an o]at a;obtain⟨u,j2⟩:=jL a;have r:=cx (d:=ak.aa) u;have b:=oE (d:=ak.aa).2 (dy.1 p).2.2.1;generalize (l.take i++l.drop (i+1)).getD j ak.aa=g at*
   rcases X_.1 r with h|h;obtain⟨q,f,eq⟩:=awv h;rw[awu]at f;rw[awB]at eq;have:=b i s q (by omega);rw[dq _ (show q<l.length by omega),eq]at this;omega;obtain⟨q,f,eq⟩:=awv h;rw[awq]at f;rw[awC]at eq;have:=b (i+1+q) (by omega) i (by omega);rw[dq _ (show i+1+q<l.length by omega),eq]at this;omega;rw[a_ o,awg];omega
def afL(h:Rt k c ti M st V T gr D nn Q U A E)(r:Ex n c ti st T D nn Q Z U A E)(hn:n<=160):
 (iK true k (c,ti,M,st,V,T,gr,D,nn,Q,Z,U,A,E)).1=true->
 ∃y N b m o f g,(iK true k (c,ti,M,st,V,T,gr,D,nn,Q,Z,U,A,E)).2=(c,y,M,st,V,T,N,b,nn,m,o,U,f,g)/\
  Ex (n+1) c y st T b nn m o U f g:=by
 generalize v:A.getD 4 ah.aa=t;have R:=h.tas 4 (by decide);rw[v]at R;have z:=r.tg 4 (by decide);rw[v]at z;have C:=r.hp;have Y:=r.fr;have a4:=r.pot;have S:=r.sk;have a6:=r.de;rw[v]at C Y a4;unfold iK jR;dsimp only;rw[v];by_cases u:t.1=0;rw[an u];by_cases p:yw Q M=true;rw[an p,bg];intro _;have K:0<Q.length:=by unfold yw at p;simp only[h_,b_]at p;exact p.1
 have hp:=ET K;have hlen:=hp.length_eq;rw[awi]at hlen;rw[a_ (by omega)]at C;have ep:gH t=0:=by unfold gH;rw[an u]
 have hdd:=uB O (l:=E) (d:=D8 (gJ Q).2.1.2 M ti) (B:=1) (by
  have e:ag aw (D8 (gJ Q).2.1.2 M ti)=ag ab c9+ag (.sl al) ([]:List ai)+ag (.sl ab) ([]:List ae):=cD O _;rw[e,iF O,bf,bf];omega)
 refine⟨_,_,_,_,_,_,_,rfl,r.flush h.ti0 (by omega) h.tl (by omega) (by rw[an (by rfl)];omega) ?_ (by have:gH (zP (gJ Q).2.1.2 (E.length:Int))=1:=rfl;omega) S (by unfold zP;simp)⟩;intro _ x P;have W:=(yH hp).2 h.grp.ap;have:=(List.pairwise_cons.1 W).1 x P;exact λe=>this e.symm;rw[a_ p];intro J;simp[bX]at J;rw[a_ u]
 have X:t.1=6:=by
  have h1:=jN (k:=k) (w:=(c,ti,M,st,V,T,gr,D,nn,Q,Z,U,A,E)) (i:=4) R;omega
 have q:=(jF X).1 R;obtain⟨_,K,hb,J,hv1,hw⟩:=dU h (by decide) v u;rw[an X]at C;by_cases L:t.2.1=0;rw[an L];unfold kN;dsimp only;rw[v];by_cases F:gr= -1;rw[an F,bg];intro _;have e1:gH t=1:=by unfold gH;rw[a_ u,an L]
 have e2:gH (t.1,(1:Int),t.2.2)=2:=by unfold gH;rw[a_ u];rfl
 exact⟨_,_,_,_,_,_,_,rfl,r.flush h.ti0 (by omega) h.tl (by omega) (by rw[an X];exact C) Y (by omega) S z⟩;rw[a_ F];intro J;simp[bX]at J;rw[a_ L];have ep:gH t=2:=by unfold gH;rw[a_ u,a_ L]
 have ez:gH zT=0:=rfl;have G:∀l:List aI,AW l zT:=λl h6=>absurd h6 (by decide);by_cases s:pK D t.2.2.2.2.2.2.2.1=true;rw[an s,bg];intro _;have hm:=ZO D t.2.2.2.2.2.2.2.1 M
 obtain⟨j,ej⟩:∃j,gL D t.2.2.2.2.2.2.2.1=some j:=by
  unfold pK at s;exact Option.isSome_iff_exists.1 s
 obtain⟨k1,k2⟩:=jL ej;have eb:ld D t.2.2.2.2.2.2.2.1 M=yV (D.getD j ak.aa) M:=by unfold ld;rw[ej]
 have H:=kS.1 ((dy.1 h.grp.go).2.1 _ (cx (d:=ak.aa) k1));have t1:=DU O H.2.1;have t2:=mi O λa ha=>(H.2.2.2.2.2.1 a ha).1;have t3:=ah4 (l:=D) k1;have tb:ag cJ (yV (D.getD j ak.aa) M)=ag (.sl al) (D.getD j ak.aa).2.1+ag (.sl ab) (D.getD j ak.aa).2.2.2.2:=uw O _;have I:gS (Z.length+1)=gS Z.length+(52-Z.length):=rfl;refine⟨_,_,_,_,_,_,_,rfl,r.flush h.ti0 (by omega) h.tl ?_ ?_ (G _) ?_ ?_ qG⟩;rw[lk,G_,I,eb];have hf:=nY O K (d':=eC true true (E.getD (bn t).toNat aw.aa) M ti 8 (yV (D.getD j ak.aa) M).2.2.2) (B:=ag (.sl ab) (D.getD j ak.aa).2.2.2.2) (rN O);omega;rw[a_ (by decide)];exact abN h.grp.go C;rw[lk,G_];omega;rw[lk,G_,I,eb,fa,ck,bf,tb];omega;rw[a_ s,bg];intro _;have hf:=nY O K (d':=eC true false (E.getD (bn t).toNat aw.aa) M ti 6 []) (B:=0) (awr (rN O) (by rw[bf];omega));exact⟨_,_,_,_,_,_,_,rfl,r.flush h.ti0 (by omega) h.tl (by omega) (by rw[a_ (by decide)];omega) (G _) (by omega) S qG⟩
end
def gb(s:bp):bp×ae×Int:=
 if s.2=true then(([],false),c9,2)else if s.1.length=0 then(([],false),c9,0)else((s.1.drop 1,false),s.1.getD 0 ab.aa,1)
def Iz(i:Int)(s:bp)(M ti:Int):ay:=
 (9,-1,c9,[],i,0,if(gb s).2.2=1 then 5 else if(gb s).2.2=2 then 7 else 6,if(gb s).2.2=1 then [(gb s).2.1]else [],M,ti,ti,ti)
def dW(w:af):List bp:=w.2.2.2.2.1
def aeX(w:af)(i:Int):af:=
 (w.1,tick w.2.1,w.2.2.1,w.2.2.2.1,(dW w).set i.toNat (gb ((dW w).getD i.toNat bj.aa)).1,w.2.2.2.2.2.1,w.2.2.2.2.2.2.1,w.2.2.2.2.2.2.2.1,w.2.2.2.2.2.2.2.2.1,w.2.2.2.2.2.2.2.2.2.1,w.2.2.2.2.2.2.2.2.2.2.1,w.2.2.2.2.2.2.2.2.2.2.2.1,bI w,
  bS w++[Iz i ((dW w).getD i.toNat bj.aa) w.2.2.1 w.2.1])
def aks(w:af)(n:Int):af:=(w.1,tick w.2.1,n,w.2.2.2)
def wm(k:Nat)(w:af)(e:dn):Bool×af:=
 if e.1=1 then(if cX w e.2.1=true then(true,if dx e.2.2.1=true then gE w e.2.1 (yQ e.2.2.1) 1 else refused w e.2.1 e.2.2.1)else(false,w))
 else if e.1=2 then(if(cX w e.2.1&&dP e.2.2.2)=true then(true,gE w e.2.1 (vr e.2.2.2) 3)else(false,w))
 else if e.1=3 then(if cX w e.2.1=true then(true,gE w e.2.1 so 4)else(false,w))
 else if e.1=4 then(if cX w e.2.1=true then(true,gE w e.2.1 vk 6)else(false,w))
 else if e.1=5 then(if bh e.2.1 0 4=true then gx true k w e.2.1.toNat else(false,w))
 else if e.1=6 then(if bh e.2.1 0 ((dW w).length-1)=true then(true,aeX w e.2.1)else(false,w))
 else if e.1=7 then(if bh e.2.1 1 20=true/\w.2.2.1+e.2.1<=99899 then(true,aks w (w.2.2.1+e.2.1))else(false,w))
 else(false,w)
section
variable{k:Nat}(O:9223372036854775808<=k)
include O
def Y1{s:bp}(hs:ag bj s<=1048576):pL k (s,())=some ((gb s).1,(gb s).2.1,(gb s).2.2,()):=by
 rw[gO O]at hs;have hl:=au (e:=ab) (l:=s.1);simp only[pL];unfold gb;by_cases a:s.2=true;rw[an a,an a];rfl;rw[a_ a,a_ a];by_cases b:s.1.length=0;rw[an (by simpa using b),an b];rfl;have h3:=dH (e:=ab) s.1 1;have h4:=dQ (e:=ab) (l:=s.1) (i:=0) (d:=ab.aa) (by omega);rw[a_ (by simpa using b),a_ b,an (by simp;omega),show Int.toNat 1=1 from rfl,iL O (by omega),sw,an (by simp;omega),show Int.toNat 0=0 from rfl,er O (by omega),sw]
def Lt{w:af}{i:Int}{a:ae}(hs:ag aN w<=1048576)(f:ag ab a<=1048576)(hc:cX w i=true):
 qe k (w,i,a,())=some (if dx a=true then gE w i (yQ a) 1 else refused w i a,()):=by
 obtain⟨q1,q2,q3⟩:=qH hc;simp only[qe,aO,yZ O f,sw];by_cases b:dx a=true;have:=aaD O (w:=w) (i:=i) (t:=yQ a) hs (by rw[bq O];simp[yQ,ag]at f|-;omega) (show(0:Int)<=1 by decide) (show(1:Int)<=6 by decide) q1 q3;simp only[ahm]at this;rw[an b,an b];cases d:eU k (w,i,yQ a,())with
 |none=>rw[d]at this;cases this
 |some z=>
  rw[d,sw]at this;have e:eU k (w,i,((1:Int),(0,(a,(([]:List ai),(0,(([]:List Int),(([]:List ae),(0,0)))))))),())=some z:=d;rw[e,sw];have g:=Option.some.inj this;have h:(z.1.1,(IntKind.i64.wrap (z.1.2.1+(1:Int)),z.1.2.2))=gE w i (yQ a) 1:=congrArg Prod.fst g;rw[h]
 rw[W']at b;rw[a_ (by simp[b]),a_ (by simp[b]),er O (by omega),sw,tK O hs,sw];rfl
def aim{w:af}{i:Nat}(hs:ag aN w<=1048576)(hi:i<(dW w).length):ag bj ((dW w).getD i bj.aa)<=1048576:=by
 have h1:=cO O w;have h2:=dQ (e:=bj) (l:=dW w) (d:=bj.aa) hi;have h3:ag (.sl bj) (dW w)<=ag aN w:=by unfold dW;omega
 omega
set_option maxHeartbeats 4000000 in
def Wu{w:af}{e:dn}(hs:ag aN w<=1048000)(h:bC k w=true)(ha:ag ab e.2.2.1<=10000)(N:ag (.sl al) e.2.2.2<=10000):
 vM k (w,e,())=some ((wm k w e).1,(wm k w e).2,()):=by
 obtain⟨kind,K,a,l⟩:=e;dsimp only at ha N
 have P:(bI w).length=5:=by
  obtain⟨c,ti,M,st,V,T,gr,D,nn,Q,Z,U,A,E⟩:=w;exact(cw.1 h).tl
 have hnow:0<=w.2.2.1/\w.2.2.1<=99899:=by
  obtain⟨c,ti,M,st,V,T,gr,D,nn,Q,Z,U,A,E⟩:=w;exact(cw.1 h).nw
 have hsub:(dW w).length<=1048576:=by
  have F:=cO O w;have R:=au (e:=bj) (l:=dW w);have S:ag (.sl bj) (dW w)<=ag aN w:=by unfold dW;omega
  omega
 have f:(!((bh K 0 2:Bool)==true)||decide (0<=K/\K<((bI w).length:Int)))=true:=by
  rw[P];by_cases b:bh K 0 2=true;have:0<=K/\K<((5:Nat):Int):=by unfold bh at b;simp only[h_,b_]at b;omega
  rw[c_ this,Bool.or_true];rw[W']at b;rw[b];rfl
 have G:(if bh K 0 2=true then decide ((w.2.2.2.2.2.2.2.2.2.2.2.2.1.getD K.toNat ah.aa).1=0)else false)=cX w K:=by
  unfold cX jJ;rw[P];by_cases b:bh K 0 2=true;have h6:bh K 0 ((5:Nat)-1:Int)=true:=by unfold bh at b|-;simp only[h_,b_]at b|-;omega
  rw[an b,b,h6,awN,awN];rw[a_ b];rw[W']at b;rw[b];rfl
 have H:∀(t:aA),t.2.2.1=ya->t.2.2.2.2.2.1=[]->t.2.2.2.2.2.2.1=[]->ag (.sl al) t.2.2.2.1<=10000->ag ah t<=1048576:=λt e1 e2 e3 e4=>by
  rw[bq O,e1,e2,e3];have:ag ab ya=0:=iF O;have n1:ag (.sl (.int .i64)) ([]:List Int)=0:=bf;have n2:ag (.sl ab) ([]:List ae)=0:=bf;omega
 have d:∀(t:aA),cX w K=true->ag ah t<=1048576->0<=t.1->t.1<=6->eM k (w,K,t,())=some (gE w K t (List.getD [0,1,3,4,6,7,8] t.1.toNat 0),()):=λt hc ht h0 F=>by
  obtain⟨q1,q2,q3⟩:=qH hc;exact xP O (by omega) ht h0 F q1 q3
 simp only[vM,aO,gB O,sw];refine(an f).trans ?_;simp only[cF];simp only[G];unfold wm;dsimp only;by_cases g:kind=1;subst g;by_cases hc:cX w K=true;simp only[hc,decide_true,if_true,Lt O (show ag aN w<=1048576 by omega) (show ag ab a<=1048576 by omega) hc,sw];rw[W']at hc;simp only[hc,decide_true,if_true,A_,if_false];have r:decide ((2:Int)=1)=false:=rfl;have u:decide ((3:Int)=1)=false:=rfl;have v:decide ((3:Int)=2)=false:=rfl;have x:decide ((3:Int)=4)=false:=rfl;have y:decide ((4:Int)=1)=false:=rfl;have z:decide ((4:Int)=2)=false:=rfl;have B:decide ((4:Int)=3)=false:=rfl;by_cases p:kind=2;subst p;by_cases hc:cX w K=true
 have b:eM k (w,K,((2:Int),0,(([]:List ai),0,0,ByteArray.empty),l,0,([]:List Int),([]:List ae),0,0),())=some (gE w K (vr l) 3,()):=
  d (vr l) hc (H _ rfl rfl rfl N) (show(0:Int)<=2 by decide) (show(2:Int)<=6 by decide)
 simp only[hc,g,r,decide_true,decide_false,beq_self_eq_true,if_true,lS O (show ag (.sl al) l<=1048576 by omega),sw,awN,A_,if_false];by_cases m:dP l=true;simp only[m,if_true,b,sw];rw[W']at m;simp only[m,A_,if_false];rw[W']at hc;simp only[hc,g,r,decide_true,decide_false,if_true,A_,if_false,awS,sw];rfl;by_cases C:kind=3;subst C;by_cases hc:cX w K=true
 have b:eM k (w,K,((3:Int),0,(([]:List ai),0,0,ByteArray.empty),([]:List ai),0,([]:List Int),([]:List ae),0,0),())=some (gE w K so 4,()):=
  d so hc (H _ rfl rfl rfl (by show ag (.sl al) ([]:List ai)<=10000;rw[bf];omega)) (show(0:Int)<=3 by decide) (show(3:Int)<=6 by decide)
 simp only[hc,g,p,u,v,x,decide_true,decide_false,if_true,A_,if_false,b,sw];rw[W']at hc;simp only[hc,g,p,u,v,x,decide_true,decide_false,if_true,A_,if_false];by_cases W:kind=4;subst W;by_cases hc:cX w K=true
 have b:eM k (w,K,((4:Int),0,(([]:List ai),0,0,ByteArray.empty),([]:List ai),0,([]:List Int),([]:List ae),0,0),())=some (gE w K vk 6,()):=
  d vk hc (H _ rfl rfl rfl (by show ag (.sl al) ([]:List ai)<=10000;rw[bf];omega)) (show(0:Int)<=4 by decide) (show(4:Int)<=6 by decide)
 simp only[hc,g,p,C,y,z,B,decide_true,decide_false,if_true,A_,if_false,b,sw];rw[W']at hc;simp only[hc,g,p,C,y,z,B,decide_true,decide_false,if_true,A_,if_false];simp only[g,p,C,W,decide_false,A_,if_false];by_cases X:kind=5;subst X;simp only[decide_true,if_true];by_cases b:bh K 0 4=true;have h6:0<=K/\K.toNat<5:=by unfold bh at b;simp only[h_,b_]at b;omega
 obtain⟨j,rfl⟩:∃j:Nat,K=(j:Int):=⟨K.toNat,by omega⟩
 have I:=Wd O (w:=w) (i:=j) (by omega) h (by omega);simp only[b,beq_self_eq_true,if_true,I,sw,aws];rw[W']at b;simp only[b,A_,if_false];rfl;simp only[X,decide_false,A_,if_false];by_cases Y:kind=6;subst Y;simp only[decide_true,if_true]
 have J:IntKind.i64.wrap (((awI w.2.2.2.2.1:Nat):Int)-(1:Int))=((dW w).length:Int)-1:=by
  unfold dW at*
  rw[wrap64 (by omega) (by omega)]
 rw[J];by_cases b:bh K 0 (((dW w).length:Int)-1)=true;have h6:0<=K/\K<((dW w).length:Int):=by unfold bh at b;simp only[h_,b_]at b;omega
 have I:decide (0<=K/\K<((awI w.2.2.2.2.1:Nat):Int))=true:=c_ h6;have hh:=Y1 O (aim O (w:=w) (i:=K.toNat) (by omega) (by omega));have L:pL k (List.getD w.2.2.2.2.1 K.toNat bj.aa,())=some ((gb ((dW w).getD K.toNat bj.aa)).1,(gb ((dW w).getD K.toNat bj.aa)).2.1,(gb ((dW w).getD K.toNat bj.aa)).2.2,()):=hh
 have o:ag aN (w.1,w.2.1,w.2.2.1,w.2.2.2.1,(dW w).set K.toNat (gb ((dW w).getD K.toNat bj.aa)).1,w.2.2.2.2.2)<=1048576:=by
  have F:=cO O w;have R:=cO O (w.1,w.2.1,w.2.2.1,w.2.2.2.1,(dW w).set K.toNat (gb ((dW w).getD K.toNat bj.aa)).1,w.2.2.2.2.2);have S:=iT (e:=bj) (dW w) K.toNat (gb ((dW w).getD K.toNat bj.aa)).1 (by omega)
  have h4:ag bj (gb ((dW w).getD K.toNat bj.aa)).1<=ag bj ((dW w).getD K.toNat bj.aa):=by
   generalize (dW w).getD K.toNat bj.aa=s;rw[gO O,gO O];unfold gb;split;rw[bf];omega;split;rw[bf];omega;have:=dH (e:=ab) s.1 1;dsimp only;omega
  have h7:(dW w).getD K.toNat (Ty.aa bj)=(dW w).getD K.toNat bj.aa:=rfl;rw[h7]at S;unfold dW at*
  dsimp only at R;omega
 simp only[b,I,L,sw,Bool.not_true,A_,if_false,if_true];unfold aeX Iz;by_cases c1:(gb ((dW w).getD K.toNat bj.aa)).2.2=1;simp only[c1,decide_true,if_true];erw[tK O o];rfl;simp only[c1,decide_false,A_,if_false];by_cases c2:(gb ((dW w).getD K.toNat bj.aa)).2.2=2;simp only[c2,decide_true,if_true];erw[tK O o];rfl;simp only[c2,decide_false,A_,if_false];erw[tK O o];rfl;rw[W']at b;simp only[b,awT,if_true,A_,if_false];simp only[Y,decide_false,A_,if_false];by_cases k7:kind=7;subst k7;simp only[decide_true,if_true];by_cases b:bh K 1 20=true;have h6:1<=K/\K<=20:=by unfold bh at b;simp only[h_,b_]at b;omega
 have J:IntKind.i64.wrap (w.2.2.1+K)=w.2.2.1+K:=wrap64 (by omega) (by omega);rw[J];by_cases hg:w.2.2.1+K<=99899;rw[a_ (by simp[b];omega),an ⟨b,hg⟩];rfl;rw[an (by simp[b];omega),a_ (by omega)];rw[an (by simp[b]),a_ (λq=>b q.1)];simp only[k7,decide_false,A_,if_false]
end
def Cy(n:Nat)(w:af):Prop:=Ex n w.1 w.2.1 w.2.2.2.1 w.2.2.2.2.2.1 w.2.2.2.2.2.2.2.1 w.2.2.2.2.2.2.2.2.1 w.2.2.2.2.2.2.2.2.2.1 w.2.2.2.2.2.2.2.2.2.2.1 w.2.2.2.2.2.2.2.2.2.2.2.1 (bI w) (bS w)
section
variable{k:Nat}(O:9223372036854775808<=k)
include O
def ak2{w:af}{n i:Nat}(h:bC k w=true)(q:Cy n w)(f:n<=160)(hi:i<5):(gx true k w i).1=true->Cy (n+1) (gx true k w i).2:=by
 obtain⟨c,ti,M,st,V,T,gr,D,nn,Q,Z,U,A,E⟩:=w;have R:=cw.1 h;have X:Ex n c ti st T D nn Q Z U A E:=q;generalize d:A.getD i ah.aa=t;have m:=R.tas i hi;rw[d]at m;have ho:=jN (k:=k) (w:=(c,ti,M,st,V,T,gr,D,nn,Q,Z,U,A,E)) (i:=i) m;unfold gx;dsimp only[bI];rw[d];by_cases g:t.1=1;rw[an g];intro b;obtain⟨_,_,_,_,_,_,_,_,e,a⟩:=aj5 O R X f (by omega) d g b;rw[e];exact a;rw[a_ g];by_cases o:t.1=2\/t.1=3;rw[an o];unfold eu vK;dsimp only;rw[d];by_cases j:t.1=2;rw[an j];intro b;obtain⟨_,_,_,_,_,_,_,_,e,a⟩:=ajh O R X f (by omega) d j b;rw[e];exact a;rw[a_ j];intro b;obtain⟨_,_,_,_,_,_,_,_,e,a⟩:=aiG O R X f (by omega) d (by omega) b;rw[e];exact a;rw[a_ o];by_cases l:t.1=4;rw[an l];intro b;obtain⟨_,_,_,_,_,_,_,_,e,a⟩:=agN O R X f (by omega) d l b;rw[e];exact a;rw[a_ l];by_cases p:i=3;rw[an p];intro b;obtain⟨_,_,_,_,_,_,_,_,e,a⟩:=aiO O R X f b;rw[e];exact a;rw[a_ p];by_cases h6:i=4;rw[an h6];intro b;obtain⟨_,_,_,_,_,_,_,e,a⟩:=afL O R X f b;rw[e];exact a;rw[a_ h6];intro b;cases b
theorem agC{w:af}{n i:Nat}(h:bC k w=true)(b:Cy n w)(hn:n<=160)(hi:i<5):(gx true k w i).1=true->bC k (gx true k w i).2=true:=by
 obtain⟨c,ti,M,st,V,T,gr,D,nn,Q,Z,U,A,E⟩:=w;have R:=cw.1 h;have X:Ex n c ti st T D nn Q Z U A E:=b;have a1:=X.ti;have a2:=X.nn;have a3:=X.hp;have a4:=(dy.1 R.grp.go).1;refine Xq h hi (by show ti<_;omega) (λp a=>by have:=X.ver p a;omega) (λ_=>⟨by show nn<_;omega,by show Q.length<=15;omega⟩) (λ_=>⟨X.fr,λ_=>by show Q.length<=15;omega⟩)
def Ed{w:af}{n:Nat}{i:Int}{t':aA}{op:Int}(h:bC k w=true)(d:Cy n w)(hn:n<=160)(hc:cX w i=true)
 (f:(∃a,dx a=true/\t'=yQ a/\op=1)\/(∃l,dP l=true/\t'=vr l/\op=3)\/(t'=so/\op=4)\/(t'=vk/\op=6)):bC k (gE w i t' op)=true/\Cy (n+1) (gE w i t' op):=by
 have hti:w.2.1<=(n:Int):=d.ti;refine⟨xm (by unfold jo;rw[h,hc];rfl) (by omega) f,?_⟩;obtain⟨q1,q2,q3⟩:=qH hc;obtain⟨c,ti,M,st,V,T,gr,D,nn,Q,Z,U,A,E⟩:=w;have R:=cw.1 h;have X:Ex n c ti st T D nn Q Z U A E:=d
 have b:ag ab t'.2.2.1+ag (.sl al) t'.2.2.2.1<=200/\t'.2.2.2.2.2.2.1=[]:=by
  have ez:ag ab ya=0:=iF O;have el:ag (.sl al) ([]:List ai)=0:=bf;rcases f with⟨a,j,rfl,rfl⟩|⟨l,m,rfl,rfl⟩|⟨rfl,rfl⟩|⟨rfl,rfl⟩;have:=mQ O (gZ j);exact⟨by show ag ab a+ag (.sl al) ([]:List ai)<=200;omega,rfl⟩;have:=DU O m;exact⟨by show ag ab ya+ag (.sl al) l<=200;omega,rfl⟩;exact⟨by show ag ab ya+ag (.sl al) ([]:List ai)<=200;omega,rfl⟩;exact⟨by show ag ab ya+ag (.sl al) ([]:List ai)<=200;omega,rfl⟩
 refine X.lH (i:=i.toNat) R.ti0 (by omega) R.tl (by omega) (λp g=>by have:=X.ver p g;omega) (awG _ _) (awG _ _) (uB O ?_) ?_;have e:ag aw (opened (c,ti,M,st,V,T,gr,D,nn,Q,Z,U,A,E) i op t'.2.2.1 t'.2.2.2.1 t'.2.2.2.2.2.2.2.1)=ag ab t'.2.2.1+ag (.sl al) t'.2.2.2.1+ag (.sl ab) ([]:List ae):=cD O _;rw[e,bf];omega;show t'.2.2.2.2.2.2.1.length<=_;rw[b.2];exact awz _
def ahb{w:af}{n:Nat}{e:dn}(h:bC k w=true)(g:Cy n w)(o:n<=160)(x:ag ab e.2.2.1<=2900)(b:(wm k w e).1=true):bC k (wm k w e).2=true/\Cy (n+1) (wm k w e).2:=by
 have p:w.2.1<=(n:Int):=g.ti;unfold wm at b|-;by_cases y:e.1=1;rw[an y]at b|-;by_cases hc:cX w e.2.1=true;rw[an hc]at b|-;dsimp only;by_cases r:dx e.2.2.1=true;rw[an r];exact Ed O h g o hc (.inl ⟨_,r,rfl,rfl⟩);rw[a_ r];refine⟨VD (by unfold jo;rw[h,hc];rfl) (by omega),?_⟩;obtain⟨c,ti,M,st,V,T,gr,D,nn,Q,Z,U,A,E⟩:=w;have R:=cw.1 h;have X:Ex n c ti st T D nn Q Z U A E:=g;refine X.alone R.ti0 (by omega) (uB O ?_);have K:ag aw ((1,e.2.1,e.2.2.1,[],0,0,4,[],M,ti,ti,ti):ay)=ag ab e.2.2.1+ag (.sl al) ([]:List ai)+ag (.sl ab) ([]:List ae):=cD O _;have L:ag (.sl al) ([]:List ai)=0:=bf;have N:ag (.sl ab) ([]:List ae)=0:=bf;show ag aw ((1,e.2.1,e.2.2.1,[],0,0,4,[],M,ti,ti,ti):ay)+1<=3000;omega;rw[a_ hc]at b;cases b;rw[a_ y]at b|-;by_cases z:e.1=2;rw[an z]at b|-;by_cases hc:(cX w e.2.1&&dP e.2.2.2)=true;rw[an hc];simp only[h_]at hc;exact Ed O h g o hc.1 (.inr (.inl ⟨_,hc.2,rfl,rfl⟩));rw[a_ hc]at b;cases b;rw[a_ z]at b|-;by_cases B:e.1=3;rw[an B]at b|-;by_cases hc:cX w e.2.1=true;rw[an hc];exact Ed O h g o hc (.inr (.inr (.inl ⟨rfl,rfl⟩)));rw[a_ hc]at b;cases b;rw[a_ B]at b|-;by_cases C:e.1=4;rw[an C]at b|-;by_cases hc:cX w e.2.1=true;rw[an hc];exact Ed O h g o hc (.inr (.inr (.inr ⟨rfl,rfl⟩)));rw[a_ hc]at b;cases b;rw[a_ C]at b|-;by_cases F:e.1=5;rw[an F]at b|-;by_cases f:bh e.2.1 0 4=true;rw[an f]at b|-;have G:e.2.1.toNat<5:=by unfold bh at f;simp only[h_,b_]at f;omega
 exact⟨agC O h g o G b,ak2 O h g o G b⟩;rw[a_ f]at b;cases b;rw[a_ F]at b|-;by_cases H:e.1=6;rw[an H]at b|-;by_cases f:bh e.2.1 0 ((dW w).length-1)=true;rw[an f];have h6:0<=e.2.1/\e.2.1.toNat<(dW w).length:=by unfold bh at f;simp only[h_,b_]at f;omega
 obtain⟨c,ti,M,st,V,T,gr,D,nn,Q,Z,U,A,E⟩:=w;have R:=cw.1 h;have X:Ex n c ti st T D nn Q Z U A E:=g;have l:=R.sub.sub _ (cx (d:=bj.aa) h6.2)
 have u:(gb (V.getD e.2.1.toNat bj.aa)).2.2=1->bA (gb (V.getD e.2.1.toNat bj.aa)).2.1=true:=by
  unfold gK bT at l;simp only[h_]at l;generalize V.getD e.2.1.toNat bj.aa=s at l;unfold gb;split;intro q;cases q;split;intro q;cases q;intro _;exact fb.1 l.2.2 _ (cx (by omega))
 have v:gK (gb (V.getD e.2.1.toNat bj.aa)).1=true:=by
  unfold gK bT at l;simp only[h_,b_]at l;generalize V.getD e.2.1.toNat bj.aa=s at l;unfold gb;split;unfold gK bT;simp[ng];split;unfold gK bT;simp[ng];unfold gK bT;dsimp only;simp only[h_,b_,awT,Bool.true_or,true_and];refine⟨by rw[awq];omega,fb.2 λa x=>fb.1 l.2.2 a (awt x)⟩
 constructor;refine cw.2 (YN R (by show ti<_;have:ti<=(n:Int):=p;omega) ⟨?_,by show ti<ti+1;omega,by show ti<ti+1;omega,by show ti<ti+1;omega⟩ ⟨by rw[awg];exact R.sub.len,λs m=> ?_,R.sub.fee,R.sub.sai⟩);refine A8 (op:=9) (i:= -1) (j:=e.2.1) (n:=0) ⟨by decide,by decide⟩ ⟨by decide,by decide⟩ h6.1 (by decide) R.nw.1 R.ti0 ?_;split;decide;split<;>decide;rcases awc m with m|rfl;exact R.sub.sub s m;exact v;refine X.alone R.ti0 (by omega) (uB O ?_);have K:ag aw (Iz e.2.1 (V.getD e.2.1.toNat bj.aa) M ti)=ag ab c9+ag (.sl al) ([]:List ai)+ag (.sl ab) (if(gb (V.getD e.2.1.toNat bj.aa)).2.2=1 then [(gb (V.getD e.2.1.toNat bj.aa)).2.1]else []):=cD O _;have L:ag (.sl al) ([]:List ai)=0:=bf
 have N:ag (.sl ab) (if(gb (V.getD e.2.1.toNat bj.aa)).2.2=1 then [(gb (V.getD e.2.1.toNat bj.aa)).2.1]else [])<=97:=by
  split;rename_i J;have:=mQ O (u J);rw[ck (e:=ab),bf];omega;rw[bf];omega
 have e4:=iF O;show ag aw (Iz e.2.1 (V.getD e.2.1.toNat bj.aa) M ti)+1<=3000;omega;rw[a_ f]at b;cases b;rw[a_ H]at b|-;by_cases I:e.1=7;rw[an I]at b|-;by_cases f:bh e.2.1 1 20=true/\w.2.2.1+e.2.1<=99899;rw[an f];have h6:1<=e.2.1:=by have:=f.1;unfold bh at this;simp only[h_,b_]at this;omega
 obtain⟨c,ti,M,st,V,T,gr,D,nn,Q,Z,U,A,E⟩:=w;have R:=cw.1 h;have X:Ex n c ti st T D nn Q Z U A E:=g;exact⟨cw.2 (ait R (by show ti<_;have:ti<=(n:Int):=p;omega) (by show M<=M+e.2.1;omega) f.2),X.alone R.ti0 (by omega) (awG _ _)⟩;rw[a_ f]at b;cases b;rw[a_ I]at b;cases b
def Tx{w:af}{n:Nat}(h:bC k w=true)(a:Cy n w)(b:n<=160):ag aN w<=1000000:=by
 obtain⟨c,ti,M,st,V,T,gr,D,nn,Q,Z,U,A,E⟩:=w;exact acD O (cw.1 h) a b
end
def MB{α:Type}{n i:Nat}{a d:α}(h:i<n):(awn n a).getD i d=a:=by
 rw[dq _ (by simpa using h)];simp
def acO(k:Nat)(w:af):Prop:=bC k w=true/\∃n,n<=160/\Cy n w
section
variable{k:Nat}(O:9223372036854775808<=k)
include O
def aes{c:bw}(hc:dS c=true):bC k (qD c)=true/\Cy 0 (qD c):=by
 obtain⟨c0,G,H,c3,c4⟩:=oz O hc
 have hcn:0<=c.2.1/\1<=c.2.2.1:=by
  unfold dS bh at hc;simp only[h_,b_]at hc;omega
 unfold qD;rw[an hc]
 have b:eB c.1=awn c.1.toNat (-1,0,[]):=by
  unfold eB;simp[G,H]
 have hlen:(eB c.1).length=c.1.toNat:=by rw[b];simp
 have f:cn (eB c.1)=[]:=by
  rw[b];refine List.eq_nil_iff_forall_not_mem.2 λa l=> ?_;obtain⟨p,z,ch,v,_⟩:=TZ.1 l;rw[(awx.1 z).2]at v;exact absurd v (List.not_mem_nil)
 have r:∀s∈Cs c,gK s=true:=by
  intro s B;unfold Cs at B;rw[(awx.1 B).2];unfold gK bT;simp[ng]
 have w:∀i,i<5->(awn 5 Bi).getD i ah.aa=zT:=λi e=>MB e;constructor
 refine cw.2 ⟨hc,g_ _,g_ _,⟨by decide,by decide⟩,⟨dm.2 ⟨λi e=> ?_,by omega,by omega⟩,by omega,by unfold bL;rw[f];simp;omega,by rw[f];intro a l;cases l⟩,
  ⟨by unfold Cs;simp;omega,r,λa l=>(by cases l),λa l=>(by cases l)⟩,λd F=>(by cases F),rfl,λi e=> ?_,⟨λq C j m=> ?_,λj m=> ?_,by decide,by decide⟩,dy.2 ⟨by decide,λg y=>(by cases y),List.Pairwise.nil,List.Pairwise.nil⟩,yy.2 ⟨λx o=>(by cases o),λj m=>by simp at m,by decide⟩,λx o=>(by cases o),List.Pairwise.nil,λg y=>(by cases y)⟩
 rw[b]at e|-;rw[MB (by simpa using e)];exact fj.2 ⟨λc hc=>(by cases hc),List.Pairwise.nil,⟨by decide,by decide⟩,by decide⟩;rw[w i e];exact tZ e;rw[w j m,eD (.inl rfl)];rw[b]at C|-;rw[MB (by simpa using C)];constructor;intro h;omega;intro h;exact absurd h (by show¬(-1:Int)=(j:Int);omega);rw[w j m,gW (.inr rfl)];constructor;intro h;cases h;intro h;omega;refine⟨g_ _,g_ _,λp z=> ?_,by show(0:Nat)+(if((awn 5 Bi).getD 4 ah.aa).1=6 then 1 else 0)<=0;decide,λ_ x o=>(by cases o),by show ag (.sl ab) ([]:List ae)<=_;rw[bf];omega,by show ag (.sl ab) ([]:List ae)<=_;rw[bf];omega,by show 3*0+3*0+gH ((awn 5 Bi).getD 3 ah.aa)+gH ((awn 5 Bi).getD 4 ah.aa)<=0;decide,by show ag (.sl cJ) ([]:List bE)<=_;rw[bf];omega,by show ag (.sl aw) ([]:List ay)<=_;rw[bf];omega,λi e=> ?_⟩;have u:p∈eB c.1:=z;rw[b]at u;rw[(awx.1 u).2];exact g_ _;show((awn 5 Bi).getD i ah.aa).2.2.2.2.2.2.1.length<=8*((awn 5 Bi).getD i ah.aa).2.2.2.2.2.1.length;rw[w i e];decide
def aiJ{c:aD}(hc:aS c):Dr (mY k (c,())) (λr=>aS r.2.1/\zI r.1=true):=by
 simp only[mY];refine aV (aQ O hc) (λr1 a=>bD (λ_=>bB ⟨a.1,(show zI []=true by decide)⟩) (λ_=>bD (λ_=>bB ⟨a.1,(show zI [⟨#[97,112,112]⟩,⟨#[115,101,118]⟩]=true by decide+kernel)⟩) (λ_=>bD (λ_=>bB ⟨a.1,(show zI [⟨#[104,111,115,116]⟩]=true by decide+kernel)⟩) (λ_=>bB ⟨a.1,(show zI [⟨#[97,112,112]⟩]=true by decide+kernel)⟩))))
def QD{c:aD}(hc:aS c):Dr (nC k (c,())) (λr=>aS r.2.1/\dS r.1=true):=by
 simp only[nC];refine aV (aQ O hc) (λr1 a=>aV (Xx O 1 8 a.1 (by decide) (by decide)) (λr2 b=>aV (aQ O b.1) (λr3 d=>aV (aQ O d.1) (λr4 e=>aV (aQ O e.1) (λr5 f=>aV (aiJ O f.1) (λr6 h6=>bB ⟨h6.1,?_⟩))))));have g1:=a.2;have g2:=b.2;have g3:=d.2;have g4:=e.2;have g5:=f.2;rw[wrap64 (by omega) (by omega),wrap64 (by omega) (by omega),wrap64 (by omega) (by omega),wrap64 (by omega) (by omega)];unfold dS bh;simp only[h_,b_];exact⟨⟨⟨⟨⟨⟨by omega,by omega⟩,by omega,by omega⟩,by omega,by omega⟩,by omega,by omega⟩,by omega,by omega⟩,h6.2⟩
theorem vl(l:List Int):ag (.sl (.int .i64)) l=l.length:=by
 induction l with
 |nil=>exact bf (e:= .int .i64)
 |cons x l ih=>
  have:=ck (e:= .int .i64) x l;have h0:ag (.int .i64) x=0:=rfl;rw[awi];omega
def alN:ag ab (([]:List ai),(0:Int),(0:Int),ByteArray.empty)=0:=by
 rw[bG O];dsimp only;rw[oM O];rfl
def UG{c:aD}(hc:aS c):Dr (pe k (c,())) (λr=>aS r.2.1/\ag (.sl ab) r.1<=700):=by
 simp only[pe];refine aV (aQ O hc) (λr1 a=> ?_);obtain⟨a,g,h3⟩:=a;refine y6 (λs=>s.2.2.1.toNat) (λs=>aS s.1/\(ag (.sl ab) s.2.1:Int)<=650-130*s.2.2.1/\0<=s.2.2.1/\s.2.2.1<=5) ?_ ⟨a,by dsimp only;rw[jx O];omega,g,by dsimp only;omega⟩ (by dsimp only;omega);rintro G ⟨c,l,i,u⟩ ⟨g1,g3,g4,g5⟩ hG;dsimp only at g1 g3 g4 g5|-;have hl:=au (e:=ab) (l:=l);refine bD (λb=> ?_) (λb=>bB ⟨g1,by dsimp only;omega⟩);have b:0<i:=by simpa using b
 have f:IntKind.i64.wrap (i-1)=i-1:=wrap64 (by omega) (by omega);rw[f];refine aV (fR O g1) (λr4 d=>ff (by simp;omega) (hG _ ⟨d.1,?_,by dsimp only;omega,by dsimp only;omega⟩ (by dsimp only;omega)));have:=d.2;dsimp only;rw[ui O,mV O,jx O];omega
def aej{c:aD}(hc:aS c):Dr (sZ k (c,())) (λr=>aS r.2.1/\ag ah r.1<=2000):=by
 simp only[sZ];refine aV (aQ O hc) (λr1 C=>aV (aQ O C.1) (λr2 o=> ?_));have hz:=alN O;have hn:=oM O;have F:=jx O;have hi0:ag (.sl (.int .i64)) ([]:List Int)=0:=vl O [];refine DE (λs=>aS s.1/\ag ah s.2.2.1<=1000) (λs q=> ?_) (λJ m=> ?_);refine DE (λs=>aS s.1/\ag ah s.2.2.1<=1000) (λs q=> ?_) (λJ m=> ?_);obtain⟨g,d⟩:=q;obtain⟨c,z,t,u⟩:=s;obtain⟨op,w,a,l,i,se,gt,n,h⟩:=t;dsimp only at g d|-;rw[bq O]at d;dsimp only at d;rw[vl O]at d;have hl:=au (e:=ab) (l:=gt);refine aV (aQ O g) (λr f=> ?_);refine bD (λ_=>aV (dF O f.1 (by decide)) (λp b=>bB ⟨b,by dsimp only;rw[bq O];dsimp only;rw[vl O];omega⟩)) (λ_=> ?_);refine bD (λ_=>aV (dF O f.1 (by decide)) (λp b=>bB ⟨b,by dsimp only;rw[bq O];dsimp only;rw[vl O];omega⟩)) (λ_=> ?_);refine bD (λ_=>aV (qy O f.1) (λp b=>bB ⟨b.1,by have:=b.2;dsimp only;rw[bq O];dsimp only;rw[vl O];omega⟩)) (λ_=> ?_);refine bD (λ_=>aV (Er O f.1) (λp b=>bB ⟨b.1,by have:=b.2;dsimp only;rw[bq O];dsimp only;rw[vl O];omega⟩)) (λ_=> ?_);refine bD (λ_=>aV (dF O f.1 (by decide)) (λp b=>bB ⟨b,by dsimp only;rw[bq O];dsimp only;rw[vl O];omega⟩)) (λ_=> ?_);refine bD (λ_=>aV (dF O f.1 (by decide)) (λp b=>ff (by simp;omega) (bB ⟨b,by dsimp only;rw[bq O];dsimp only;rw[vl O];simp only[lk,G_];omega⟩))) (λ_=> ?_);refine bD (λ_=>aV (qy O f.1) (λp b=>ff (by simp;omega) (bB ⟨b.1,by have:=b.2;dsimp only;rw[bq O];dsimp only;rw[vl O,ui O,mV O,jx O];omega⟩))) (λ_=> ?_);refine bD (λ_=>aV (dF O f.1 (by decide)) (λp b=>bB ⟨b,by dsimp only;rw[bq O];dsimp only;rw[vl O];omega⟩)) (λ_=> ?_);refine bD (λ_=>bB ⟨f.1,by dsimp only;rw[bq O];dsimp only;rw[vl O];omega⟩) (λ_=>bB ⟨f.1,by dsimp only;rw[bq O];dsimp only;rw[vl O];omega⟩);obtain⟨g,d⟩:=q;rw[bq O]at d;refine bD (λ_=>aV (aQ O g) (λr f=>m _ ⟨f.1,by dsimp only;rw[bq O];exact d⟩)) (λ_=>m _ ⟨g,by dsimp only;rw[bq O];exact d⟩);refine bD (λ_=> ?_) (λ_=> ?_);refine aV (fR O o.1) (λv j=>aV (aQ O j.1) (λr6 h6=>m _ ⟨h6.1,?_⟩));have:=j.2;dsimp only;rw[bq O];dsimp only;omega;refine bD (λ_=> ?_) (λ_=> ?_);refine aV (xq O o.1) (λv j=>m _ ⟨j.1,?_⟩);have:=j.2;dsimp only;rw[bq O];dsimp only;omega;refine bD (λ_=> ?_) (λ_=> ?_);refine aV (aQ O o.1) (λx h8=> ?_);obtain⟨h8,h9,xw⟩:=h8;refine DE (λs=>aS s.1/\ag ah s.2.2.1<=10/\s.2.2.1.2.2.2.2.2.2.1=[]) (λs q=> ?_) (λJ2 y=> ?_);obtain⟨g,d,B⟩:=q;rw[bq O,B,F]at d;refine aV (UG O g) (λr f=> ?_);have h33:=f.2
 have key:∀ {c:aD} {op w:Int},aS c->Dr (J (c,s.2.1,(op,w,s.2.2.1.2.2.1,s.2.2.1.2.2.2.1,s.2.2.1.2.2.2.2.1,s.2.2.1.2.2.2.2.2.1,r.1,s.2.2.1.2.2.2.2.2.2.2),())) (λr=>aS r.2.1/\ag ah r.1<=2000):=by
  intro c op w hc;refine m _ ⟨hc,?_⟩;dsimp only;rw[bq O];dsimp only;omega
 refine bD (λ_=>aV (jQ O f.1) (λr b=>bD (λ_=>key b) (λ_=>key b))) (λ_=>bD (λ_=>key f.1) (λ_=>key f.1));refine y6 (λs=>(x.1-s.2.2.1.2.2.2.2.2.1.length).toNat) (λs=>aS s.1/\s.2.2.1.2.2.2.2.1=x.1/\(s.2.2.1.2.2.2.2.2.1.length:Int)<=2/\s.2.2.1.2.2.1=(([]:List ai),(0:Int),(0:Int),ByteArray.empty)/\s.2.2.1.2.2.2.1=[]/\s.2.2.1.2.2.2.2.2.2.1=[]) ?_ ⟨h8,rfl,by simp,rfl,rfl,rfl⟩ (by dsimp only;simp only[awh];omega);rintro G ⟨c,z,⟨op,w,a,l,i,se,gt,n,h⟩,u⟩ ⟨g1,g2,g3,g4,g5,g6⟩ hG;dsimp only at g1 g2 g3 g4 g5 g6|-;subst g2 g4 g5 g6;refine bD (λhc=> ?_) (λhc=>y _ ⟨g1,?_,rfl⟩);have hc:(se.length:Int)<x.1:=by simpa using hc
 refine aV (aQ O g1) (λr f=>ff (by simp;omega) (hG _ ⟨f.1,rfl,?_,rfl,rfl,rfl⟩ ?_));dsimp only;simp only[lk,G_];omega;dsimp only;simp only[lk,G_];omega;dsimp only;rw[bq O];dsimp only;rw[vl O];omega;refine bD (λ_=> ?_) (λ_=> ?_);refine aV (aQ O o.1) (λv j=>m _ ⟨j.1,?_⟩);dsimp only;rw[bq O];dsimp only;omega;refine bD (λ_=> ?_) (λ_=> ?_);refine aV (fR O o.1) (λv j=>m _ ⟨j.1,?_⟩);have:=j.2;dsimp only;rw[bq O];dsimp only;omega;refine bD (λ_=> ?_) (λ_=>m _ ⟨o.1,?_⟩);refine aV (aQ O o.1) (λv j=>m _ ⟨j.1,?_⟩);dsimp only;rw[bq O];dsimp only;omega;dsimp only;rw[bq O];dsimp only;omega
def mr{c:bw}:ag fX c=ag (.sl .str) c.2.2.2.2.2:=by rw[oP O]
def af6{c:aD}(hc:aS c):Dr (uZ k (c,())) (λr=>aS r.2.1/\ag (.sl .str) r.1<=40):=by
 simp only[uZ];refine aV (aiC O hc) (λd a=>aV (jQ O a.1) (λr2 f=>bD (λ_=> ?_) (λ_=>bB ⟨f,by have:=a.2.2;dsimp only;omega⟩)));refine aV (Hv O f) (λb g=>ff (by have:=a.2.1;simp;omega) (bB ⟨g.1,?_⟩))
 have e:ag (.sl .str) (d.1++[b.1])=ag (.sl .str) d.1+(1+ag .str b.1+ag (.sl .str) ([]:List ByteArray)):=by
  rw[fa (e:= .str),ck (e:= .str)]
 have e2:ag .str b.1=b.1.size:=rfl;have e3:ag (.sl .str) ([]:List ByteArray)=0:=bf;have:=a.2.2;have:=g.2;dsimp only;omega
def aeJ{c:aD}(hc:aS c):Dr (tz k (c,())) (λr=>aS r.2.1/\ag fX r.1<=60):=by
 simp only[tz];refine aV (QD O hc) (λd b=>aV (aQ O b.1) (λr2 a=> ?_))
 have hb:ag (.sl .str) d.1.2.2.2.2.2<=18:=by
  have:=(oz O b.2).1;rw[mr O]at this;exact this
 refine bD (λ_=>aV (dF O a.1 (by decide)) (λr h=>bB ⟨h,by dsimp only;rw[mr O];dsimp only;omega⟩)) (λ_=> ?_);refine bD (λ_=>aV (dF O a.1 (by decide)) (λr h=>bB ⟨h,by dsimp only;rw[mr O];dsimp only;omega⟩)) (λ_=> ?_);refine bD (λ_=>aV (dF O a.1 (by decide)) (λr h=>bB ⟨h,by dsimp only;rw[mr O];dsimp only;omega⟩)) (λ_=> ?_);refine bD (λ_=>aV (dF O a.1 (by decide)) (λr h=>bB ⟨h,by dsimp only;rw[mr O];dsimp only;omega⟩)) (λ_=> ?_);refine bD (λ_=>aV (dF O a.1 (by decide)) (λr h=>bB ⟨h,by dsimp only;rw[mr O];dsimp only;omega⟩)) (λ_=> ?_);refine bD (λ_=>aV (af6 O a.1) (λr h=>bB ⟨h.1,by have:=h.2;dsimp only;rw[mr O];dsimp only;omega⟩)) (λ_=> ?_);exact bB ⟨a.1,by dsimp only;rw[mr O];omega⟩
omit O in
theorem ahd(c:aR)(a:ae):0<(nL c a).2.length:=by
 rw[Lv];cases hl:c.2 with
 |nil=>
  have:jd ([]:List ae) a.1=none:=rfl;rw[this];simp
 |cons x l=>simp only[awi];omega
def ad0{c:aD}(hc:aS c):Dr (tv k (c,())) (λr=>aS r.2.1/\ag az r.1<=4000/\0<r.1.2.length):=by
 simp only[tv];refine aV (fR O hc) (λo h=> ?_);have m:=h.2;rw[bG O]at m;refine eA (gA O (l:=o.1.1) (by omega)) (aV (aQ O h.1) (λr3 d=> ?_))
 refine y6 (λt:aD×aR×ae×aR×Int×Unit=>(t.2.2.2.2.1+1).toNat)
  (λt=>aS t.1/\ag ab t.2.2.1<=121/\(ag az t.2.2.2.1:Int)<=3660-122*(t.2.2.2.2.1+1)/\-1<=t.2.2.2.2.1/\t.2.2.2.2.1<=29/\(0<t.2.2.2.1.2.length\/(0<=t.2.2.2.2.1/\t.2.2.2.1.1=dA k t.2.2.1.1/\t.2.2.2.1.2=[]))) ?_
  ⟨d.1,h.2,?_,by have:=d.2;dsimp only;omega,by have:=d.2;dsimp only;omega,.inr ⟨d.2.1,rfl,rfl⟩⟩ (by have:=d.2;dsimp only;omega)
 rintro G ⟨c1,z,a,ch,i,u⟩ ⟨q1,q2,q3,q4,q5,b⟩ hG;dsimp only at q1 q2 q3 q4 q5 b hG|-;have q:=q2;rw[bG O]at q;refine bD (λf=> ?_) (λg=>bB ⟨q1,by dsimp only;omega,?_⟩);have f:0<=i:=by simpa using f
 have s:IntKind.i64.wrap (i-1)=i-1:=wrap64 (by omega) (by omega);rw[s];refine eA (gA O (l:=a.1) (by omega)) (bD (λ_=> ?_) (λj=> ?_));refine eA (zp O (by omega) (by omega)) (aV (fR O q1) (λp h8=>hG _ ⟨h8.1,h8.2,?_,by dsimp only;omega,by dsimp only;omega,.inl (ahd _ _)⟩ (by dsimp only;omega)));have:=W4 O (c:=ch) (a:=a);dsimp only;omega;refine aV (fR O q1) (λp h8=>hG _ ⟨h8.1,h8.2,by dsimp only;omega,by dsimp only;omega,by dsimp only;omega,?_⟩ (by dsimp only;omega));rcases b with b|⟨_,v,w⟩;exact .inl b;exfalso;dsimp only at j;rw[v,w]at j;simp at j;have g:¬0<=i:=by simpa using g
 rcases b with b|⟨e0,_,_⟩;exact b;omega;dsimp only;have e:ag az ((dA k o.1.1,([]:List ae)):aR)=ag (.sl ab) ([]:List ae):=dj O _;rw[e,bf];have:=d.2;omega
def ag2{c:aD}(hc:aS c):Dr (vE k (c,())) (λr=>aS r.2.1/\ag az r.1<=9000):=by
 simp only[vE];refine aV (ad0 O hc) (λg f=>aV (aQ O f.1) (λr2 b=> ?_));have j:=f.2.1;rw[dj O]at j;have hl:=au (e:=ab) (l:=g.1.2);have hz:=jx O;refine bD (λ_=>aV (aQ O b.1) (λr h=>bB ⟨h.1,by dsimp only;rw[dj O];dsimp only;omega⟩)) (λ_=> ?_);refine bD (λ_=>aV (qy O b.1) (λr h=>ff (by simp;omega) (bB ⟨h.1,by have:=h.2;dsimp only;rw[dj O];dsimp only;rw[ui O,mV O,jx O];omega⟩))) (λ_=> ?_);refine bD (λ_=> ?_) (λ_=> ?_);have m:=f.2.2;have hat:=dQ (e:=ab) (l:=g.1.2) (i:=0) (d:=ab.aa) m;refine ff (c_ ⟨g_ _,by omega⟩) (eA (er O (a:=g.1.2.getD 0 ab.aa) (by omega)) (ff (by simp;omega) (bB ⟨b.1,?_⟩)));dsimp only;rw[dj O];dsimp only;rw[ui O,mV O,jx O];omega;refine bD (λ_=>bB ⟨b.1,?_⟩) (λ_=>bB ⟨b.1,by have:=f.2.1;dsimp only;omega⟩);dsimp only;rw[dj O];dsimp only;omega
def aeO{c:aD}{i n:Int}(hc:aS c):Dr (tU k (c,i,n,())) (λr=>aS r.2.1/\ag aj r.1<=1000/\0<=r.1.2.1/\r.1.2.1<=10):=by
 simp only[tU];refine aV (aQ O hc) (λr1 b=> ?_);have e:ag aj ((-1,0,([]:List aR)):aq)=ag (.sl az) ([]:List aR):=cM O _;rw[bf]at e
 refine y6 (λt:aD×Int×Int×aq×aq×Int×Unit=>t.2.2.2.2.2.1.toNat)
  (λt=>aS t.1/\(ag aj t.2.2.2.2.1:Int)<=900-123*t.2.2.2.2.2.1/\0<=t.2.2.2.2.2.1/\t.2.2.2.2.2.1<=7/\0<=t.2.2.2.2.1.2.1/\t.2.2.2.2.1.2.1+t.2.2.2.2.2.1<=7) ?_
  ⟨b.1,by have:=b.2;dsimp only;rw[e];omega,by have:=b.2;dsimp only;omega,by have:=b.2;dsimp only;omega,by dsimp only;omega,by have:=b.2;dsimp only;omega⟩ (by have:=b.2;dsimp only;omega)
 rintro G ⟨c1,i1,n1,z,p,j,u⟩ ⟨q1,q2,q3,q4,q5,q6⟩ hG;dsimp only at q1 q2 q3 q4 q5 q6 hG|-;refine bD (λd=> ?_) (λhge=>bB ⟨q1,by dsimp only;omega,q5,by dsimp only;omega⟩);have d:0<j:=by simpa using d
 have h:IntKind.i64.wrap (j-1)=j-1:=wrap64 (by omega) (by omega);rw[h];refine aV (fR O q1) (λg f=> ?_);have m:=f.2;rw[bG O]at m;refine eA (gA O (l:=g.1.1) (by omega)) (eA (kY O) (bD (λ_=> ?_) (λ_=>hG _ ⟨f.1,by dsimp only;omega,by dsimp only;omega,by dsimp only;omega,q5,by dsimp only;omega⟩ (by dsimp only;omega))));have hp:=W5 O (p:=p) (a:=g.1);have o:=(yP k p g.1).1;rw[wrap64 (by omega) (by omega)]at o;have:=f.2;exact eA (FI O (by omega) (by omega)) (hG _ ⟨f.1,by dsimp only;omega,by dsimp only;omega,by dsimp only;omega,by dsimp only;omega,by dsimp only;omega⟩ (by dsimp only;omega))
def ag9{c:aD}{i n:Int}(hc:aS c):Dr (uT k (c,i,n,())) (λr=>aS r.2.1/\ag aj r.1<=11000/\r.1.2.1<=10):=by
 simp only[uT];refine aV (aeO O hc) (λa m=>aV (aQ O m.1) (λr2 b=> ?_));obtain⟨-,o,-,g⟩:=m;rw[cM O]at o;have hl:=au (e:=az) (l:=a.1.2.2);have hz:ag (.sl az) ([]:List aR)=0:=bf
 have f:∀x:aR,ag (.sl az) (a.1.2.2++[x])=ag (.sl az) a.1.2.2+(1+ag az x+ag (.sl az) ([]:List aR)):=λx=>by
  rw[fa (e:=az),ck (e:=az)]
 refine bD (λ_=>aV (dF O b.1 (by decide)) (λr h=>bB ⟨h,by dsimp only;rw[cM O];dsimp only;omega,g⟩)) (λ_=> ?_);refine bD (λ_=>bB ⟨b.1,by dsimp only;rw[cM O];dsimp only;omega,by dsimp only;omega⟩) (λ_=> ?_);refine bD (λ_=>aV (ag2 O b.1) (λr h=>ff (by simp;omega) (bB ⟨h.1,by have:=h.2;dsimp only;rw[cM O];dsimp only;rw[f];omega,g⟩))) (λ_=> ?_);refine bD (λ_=>bD (λj=> ?_) (λ_=>bB ⟨b.1,by dsimp only;rw[cM O];omega,g⟩)) (λ_=>bB ⟨b.1,by dsimp only;rw[cM O];omega,g⟩);have j:(a.1.2.2.length:Int)>0:=by simpa using j
 have hat:=dQ (e:=az) (l:=a.1.2.2) (i:=0) (d:=az.aa) (by omega);refine ff (c_ ⟨g_ _,j⟩) (eA (IM O (c:=a.1.2.2.getD 0 az.aa) (by omega)) (ff (by simp;omega) (bB ⟨b.1,?_,g⟩)));dsimp only;rw[cM O];dsimp only;rw[f];omega
def adR{c:aD}(hc:aS c):Dr (tD k (c,())) (λr=>aS r.2.1/\ag (.sl aj) r.1<=1100/\0<r.1.length/\∀p∈r.1,p.2.1<=10):=by
 simp only[tD];refine aV (aQ O hc) (λw x=>eA (zk O) (aV (aQ O x.1) (λr3 f=> ?_)))
 have h:∀n,ag (.sl aj) (eB n)<=3/\0<(eB n).length/\∀p∈eB n,0<=p.2.1/\p.2.1<=0:=by
  intro n;have e:ag aj ((-1,0,([]:List aR)):aq)=ag (.sl az) ([]:List aR):=cM O _;rw[bf]at e;have q:∀p∈eB n,p=(-1,0,[]):=λp b=>by unfold eB at b;exact(awx.1 b).2
  have v:(eB n).length=(if 1<=n/\n<=3 then n.toNat else 1):=by unfold eB;rw[List.length_replicate]
  have m:=ux (e:=aj) (B:=0) (l:=eB n) λp b=>by rw[q p b,e];exact X' _
  refine⟨?_,?_,λp b=>by rw[q p b];exact⟨g_ _,g_ _⟩⟩;split at v<;>omega;split at v<;>omega
 obtain⟨n1,C,F⟩:=h (IntKind.i64.wrap (1+w.1))
 refine y6 (λt:aD×List aq×Int×Unit=>t.2.2.1.toNat)
  (λt=>aS t.1/\(ag (.sl aj) t.2.1:Int)<=900-123*t.2.2.1/\0<=t.2.2.1/\t.2.2.1<=7/\0<t.2.1.length/\∀p∈t.2.1,0<=p.2.1/\p.2.1+t.2.2.1<=7) ?_
  ⟨f.1,by have:=f.2;dsimp only;omega,by have:=f.2;dsimp only;omega,by have:=f.2;dsimp only;omega,C,λp b=>by have:=F p b;have:=f.2;dsimp only;omega⟩ (by have:=f.2;dsimp only;omega)
 rintro G ⟨c1,l,j,u⟩ ⟨q1,q2,q3,q4,q5,q6⟩ hG;dsimp only at q1 q2 q3 q4 q5 q6 hG|-;refine bD (λg=> ?_) (λhge=>bB ⟨q1,by dsimp only;omega,q5,λp b=>by have:=q6 p b;omega⟩);have g:0<j:=by simpa using g
 have y:IntKind.i64.wrap (j-1)=j-1:=wrap64 (by omega) (by omega);rw[y];refine aV (fR O q1) (λo m=>eA (y5 O (by omega) (by have:=m.2;omega)) ?_);have b:=UJ O (l:=l) (a:=o.1);have hlen:=ae3 O (l:=l) (a:=o.1);have:=m.2;refine hG _ ⟨m.1,by dsimp only;omega,by dsimp only;omega,by dsimp only;omega,by dsimp only;omega,λp b=> ?_⟩ (by dsimp only;omega);dsimp only at b|-;rw[yU (by omega)]at b;rcases awc b with b|rfl;have:=q6 p b;omega;have z:l.length≠0:=by omega
 have q:=q6 _ (cx (d:=aj.aa) (jA (k:=k) (s:=o.1.1) z).1);rw[(yP k _ _).1,wrap64 (by omega) (by omega)];omega
def agG{c:aD}(hc:aS c):Dr (uY k (c,())) (λr=>aS r.2.1/\ag (.sl aj) r.1<=13000/\∀p∈r.1,p.2.1<=10):=by
 simp only[uY];refine aV (adR O hc) (λf j=>aV (aQ O j.1) (λm g=>aV (aQ O g.1) (λr3 b=> ?_)));obtain⟨-,ht,hn,d⟩:=j;have hl:=au (e:=aj) (l:=f.1);have hz:ag (.sl aj) ([]:List aq)=0:=bf;refine bD (λ_=>aV (ag9 O b.1) (λr h=>ff (c_ (by have:=g.2;omega)) (bB ⟨h.1,?_,λp a=> ?_⟩))) (λ_=> ?_);have o:m.1.toNat<f.1.length:=by have:=g.2;omega
 have:=iT (e:=aj) f.1 m.1.toNat r.1 o;have:=h.2.1;dsimp only;omega;rcases awc a with a|rfl;exact d p a;exact h.2.2;have e:ag aj ((-1,0,([]:List aR)):aq)=ag (.sl az) ([]:List aR):=cM O _;rw[bf]at e;refine bD (λ_=>ff (by simp;omega) (bB ⟨b.1,?_,λp a=> ?_⟩)) (λ_=> ?_);dsimp only;rw[fa (e:=aj),ck (e:=aj)];omega;rcases X_.1 a with a|a;exact d p a;rw[o_.1 a];show(0:Int)<=10;decide;refine bD (λ_=>bB ⟨b.1,by dsimp only;omega,λp a=>by cases a⟩) (λ_=> ?_);refine bD (λ_=>ff (by simp;omega) (bB ⟨b.1,by dsimp only;rw[fa (e:=aj)];omega,λp a=> ?_⟩)) (λ_=>bB ⟨b.1,by dsimp only;omega,d⟩);rcases X_.1 a with a|a<;>exact d p a
def adD{c:aD}(hc:aS c):Dr (tE k (c,())) (λr=>aS r.2.1/\ag bj r.1<=700):=by
 simp only[tE];refine aV (aQ O hc) (λr1 a=> ?_);have e:ag bj ((([]:List ae),false):bp)=ag (.sl ab) ([]:List ae):=gO O _;rw[bf]at e
 refine y6 (λt:aD×bp×bp×Int×Unit=>t.2.2.2.1.toNat)
  (λt=>aS t.1/\(ag bj t.2.2.1:Int)<=660-130*t.2.2.2.1/\0<=t.2.2.2.1/\t.2.2.2.1<=5) ?_
  ⟨a.1,by have:=a.2;dsimp only;rw[e];omega,by have:=a.2;dsimp only;omega,by have:=a.2;dsimp only;omega⟩ (by have:=a.2;dsimp only;omega)
 rintro G ⟨c1,z,s,j,u⟩ ⟨q1,q2,q3,q4⟩ hG;dsimp only at q1 q2 q3 q4 hG|-;refine bD (λb=> ?_) (λhge=>bB ⟨q1,by dsimp only;omega⟩);have b:0<j:=by simpa using b
 have g:IntKind.i64.wrap (j-1)=j-1:=wrap64 (by omega) (by omega);rw[g];refine aV (fR O q1) (λf d=>eA (Hz O (by omega) (by have:=d.2;omega)) (hG _ ⟨d.1,?_,by dsimp only;omega,by dsimp only;omega⟩ (by dsimp only;omega)));have h5:=d.2;have h:ag bj ((([]:List ae),true):bp)=ag (.sl ab) ([]:List ae):=gO O _;rw[bf]at h;have l:ag bj ((s.1++[f.1],s.2):bp)=ag (.sl ab) (s.1++[f.1]):=gO O _;rw[ui O,mV O,jx O]at l;have e4:ag bj s=ag (.sl ab) s.1:=gO O _;dsimp only;unfold ve;split;omega;split;omega;omega
def agx{c:aD}(hc:aS c):Dr (u6 k (c,())) (λr=>aS r.2.1/\ag bj r.1<=1200):=by
 simp only[u6];refine aV (adD O hc) (λd b=>aV (aQ O b.1) (λr2 a=> ?_));have f:=b.2;rw[gO O]at f;have hl:=au (e:=ab) (l:=d.1.1);refine bD (λ_=>bB ⟨a.1,by dsimp only;rw[gO O];dsimp only;omega⟩) (λ_=> ?_);refine bD (λ_=>aV (qy O a.1) (λr h=>ff (by simp;omega) (bB ⟨h.1,by have:=h.2;dsimp only;rw[gO O];dsimp only;rw[ui O,mV O,jx O];omega⟩))) (λ_=>bB ⟨a.1,by dsimp only;rw[gO O];omega⟩)
def al0(l:List aI):ag (.sl aL) l=l.length:=by
 induction l with
 |nil=>exact bf
 |cons a l b=>
  have:ag (.sl aL) (a::l)=1+ag aL a+ag (.sl aL) l:=ck (e:=aL) a l;rw[this,b,UE O,awi];omega
def KF{c:aD}(hc:aS c):Dr (mK k (c,())) (λr=>aS r.2.1):=by
 simp only[mK];exact aV (aQ O hc) (λr1 a=>aV (aQ O a.1) (λr2 b=>bB b.1))
def adM{c:aD}(hc:aS c):Dr (tO k (c,())) (λr=>aS r.2.1/\(r.1.length<=10\/r.1.length=17)):=by
 simp only[tO,wE];refine aV (P:=λr:List aI×aD×Unit=>aS r.2.1/\r.1.length<=8) ?_ (λf b=>aV (aQ O b.1) (λr2 e=> ?_));refine aV (aQ O hc) (λf b=> ?_)
 refine y6 (λt:aD×List aI×Int×Unit=>t.2.2.1.toNat) (λt=>aS t.1/\(t.2.1.length:Int)+t.2.2.1<=8/\0<=t.2.2.1) ?_
  ⟨b.1,by have:=b.2;dsimp only;simp only[awh];omega,b.2.1⟩ (by have:=b.2;dsimp only;omega)
 rintro G ⟨c1,l,j,u⟩ ⟨q1,q2,q3⟩ hG;dsimp only at q1 q2 q3 hG|-;refine bD (λa=> ?_) (λd=>bB ⟨q1,by dsimp only;omega⟩);have a:0<j:=by simpa using a
 have m:IntKind.i64.wrap (j-1)=j-1:=wrap64 (by omega) (by omega);rw[m];refine aV (KF O q1) (λr4 g=>eA (A6 O (by omega)) (hG _ ⟨g,?_,by dsimp only;omega⟩ (by dsimp only;omega)));dsimp only;rw[LQ];omega;obtain⟨-,hl⟩:=b;refine bD (λ_=>aV (KF O e.1) (λr h=>ff (by simp;omega) (bB ⟨h,.inl (by dsimp only;simp;omega)⟩))) (λ_=> ?_);refine bD (λ_=>ff (by simp;omega) (bB ⟨e.1,.inl (by dsimp only;simp;omega)⟩)) (λ_=> ?_);refine bD (λ_=> ?_) (λ_=>bB ⟨e.1,.inl (by dsimp only;omega)⟩);refine y6 (λt:aD×List aI×Unit=>17-t.2.1.length) (λt=>aS t.1/\t.2.1.length<=17) ?_ ⟨e.1,by dsimp only;omega⟩ (by dsimp only;omega);rintro G ⟨c1,l,u⟩ ⟨q1,q2⟩ hG;dsimp only at q1 q2 hG|-;refine bD (λa=>ff (by simp;omega) ?_) (λd=>bB ⟨q1,.inr ?_⟩);have a:(l.length:Int)<17:=by simpa using a
 exact hG _ ⟨q1,by dsimp only;simp;omega⟩ (by dsimp only;simp;omega);have d:¬(l.length:Int)<17:=by simpa using d
 dsimp only;omega
def afb{c:aD}(hc:aS c):Dr (th k (c,())) (λr=>aS r.2.1/\ag aw r.1<=2000):=by
 simp only[th];have hz:ag ab (([],0,0,ByteArray.empty):ae)=0:=iF O;have hzl:ag (.sl al) ([]:List ai)=0:=bf;have hza:ag (.sl ab) ([]:List ae)=0:=bf;refine aV (aQ O hc) (λg j=>aV (aQ O j.1) (λr2 l=>aV (aQ O l.1) (λr3 m=>aV (aQ O m.1) (λr4 o=>aV (aQ O o.1) (λr5 p=>aV (aQ O p.1) (λr6 h6=> ?_))))));refine DE (λt:aD×ay×ay×Unit=>aS t.1/\ag aw t.2.2.1<=0) ?_ (λJ a=> ?_)
 ·rintro⟨c8,z8,d8,u8⟩ ⟨q1,q2⟩;dsimp only at q1 q2|-;refine DE (λt:aD×ay×ay×Unit=>aS t.1/\ag aw t.2.2.1<=130) ?_ (λJ a=> ?_)
  ·rintro⟨c15,z15,d15,u15⟩ ⟨b,d⟩;dsimp only at b d|-;rw[cD O]at d;refine DE (λt:aD×ay×ay×Unit=>aS t.1/\ag aw t.2.2.1<=900) ?_ (λJ a=> ?_)
   ·rintro⟨c18,z18,d18,u18⟩ ⟨e,f⟩;dsimp only at e f|-;have q:=f;rw[cD O]at q;refine aV (aQ O e) (λr21 Pq=> ?_);refine bD (λ_=>aV (dF O Pq.1 (by decide)) (λr h=>bB ⟨h,by dsimp only;rw[cD O];dsimp only;omega⟩)) (λ_=> ?_);refine bD (λ_=>aV (dF O Pq.1 (by decide)) (λr h=>bB ⟨h,by dsimp only;rw[cD O];dsimp only;omega⟩)) (λ_=> ?_);refine bD (λ_=>aV (dF O Pq.1 (by decide)) (λr h=>bB ⟨h,by dsimp only;rw[cD O];dsimp only;omega⟩)) (λ_=> ?_);refine bD (λ_=>aV (aQ O Pq.1) (λr h=>bB ⟨h.1,by dsimp only;rw[cD O];dsimp only;omega⟩)) (λ_=> ?_);refine bD (λ_=>bB ⟨Pq.1,by dsimp only;rw[cD O];dsimp only;omega⟩) (λ_=> ?_);refine bD (λ_=>aV (xq O Pq.1) (λr h=>bB ⟨h.1,by have:=h.2.2;dsimp only;rw[cD O];dsimp only;omega⟩)) (λ_=>bB ⟨Pq.1,by dsimp only;omega⟩)
   ·refine aV (jQ O b) (λr19 h19=>bD (λ_=> ?_) (λ_=>a _ ⟨h19,by dsimp only;rw[cD O];omega⟩));exact aV (UG O h19) (λr h=>a _ ⟨h.1,by have:=h.2;dsimp only;rw[cD O];dsimp only;omega⟩)
  ·have q3:=q2;rw[cD O]at q3;refine bD (λ_=> ?_) (λ_=>a _ ⟨q1,by dsimp only;omega⟩);exact aV (fR O q1) (λr h=>a _ ⟨h.1,by have:=h.2;dsimp only;rw[cD O];dsimp only;omega⟩)
 ·refine aV (jQ O h6.1) (λr9 h9=>bD (λ_=> ?_) (λ_=>a _ ⟨h9,by dsimp only;rw[cD O];dsimp only;omega⟩));refine aV (aQ O h9) (λr10 xw=>aV (aQ O xw.1) (λr11 DL=>eA (y4 O _) (aV (aQ O DL.1) (λr13 zM=>ff (c_ ?_) (a _ ⟨zM.1,by dsimp only;rw[cD O];dsimp only;omega⟩)))))
  have hpos:0<(gM (IntKind.i64.wrap (1+g.1))).length:=by
   unfold gM
   repeat' split
   all_goals decide
  have:=zM.2;dsimp only at this|-;omega
end
def kh(d:ay):List ae:=d.2.2.2.2.2.2.2.1
def qg(l:List ay):Prop:=∀d∈l,dh d= -1->kh d=[]
theorem qg.app{l:List ay}{d:ay}(h:qg l)(b:dh d= -1->kh d=[]):qg (l++[d]):=λx a=>by
 rcases X_.1 a with a|a;exact h x a;rw[o_.1 a];exact b
theorem qg.put{l:List ay}{n:Nat}{d:ay}(h:qg l)(b:dh d= -1->kh d=[]):qg (l.set n d):=λx a=>by
 rcases awc a with a|rfl;exact h x a;exact b
theorem qg.at_{l:List ay}{n:Nat}(h:qg l):dh (l.getD n aw.aa)= -1->kh (l.getD n aw.aa)=[]:=by
 by_cases a:n<l.length;exact h _ (cx a);intro _;have:l.getD n aw.aa=aw.aa:=by rw[List.getD_eq_getElem?_getD,List.getElem?_eq_none (by omega)];rfl
 rw[this];rfl
def aiL{x:Bool}{d:ay}{M ti code:Int}{got:List ae}(h0:0<=ti):¬dh (eC true x d M ti code got)= -1:=by
 unfold eC oQ;rw[an (by rfl)];by_cases h:dh d= -1;rw[an h];show¬ti= -1;omega;rw[a_ h];exact h
def sL(r:Bool×af):bS (bX r).2=bS r.2:=by
 unfold bX;split<;>rfl
def ajJ{k:Nat}{w:af}{i:Nat}(o:0<=w.2.1)(h:qg (bS w)):qg (bS (gx true k w i).2):=by
 obtain⟨c,ti,M,st,V,T,gr,D,nn,Q,Z,U,A,E⟩:=w;have h:qg E:=h;have o:0<=ti:=o
 have f:∀j m,qg (bS (ey (c,ti,M,st,V,T,gr,D,nn,Q,Z,U,A,E) j m).2):=by
  intro j m;unfold ey;dsimp only;split<;>exact h
 have p:∀j,qg (bS (kN (c,ti,M,st,V,T,gr,D,nn,Q,Z,U,A,E) j).2):=by
  intro j;unfold kN;dsimp only;split<;>exact h
 have b:∀(l:List ay) (x:Bool) (n:Nat) (d:ay) (code:Int) (g:List ae),qg l->qg (l.set n (eC true x d M ti code g)):=λl x n d code g f=>f.put λe=>absurd e (aiL o)
 have a:∀d:ay,dh (jh d M ti ti ti)= -1->kh (jh d M ti ti ti)=[]:=λd e=>by
  have:ti= -1:=e;omega
 unfold gx;split;unfold kI;rw[sL];unfold wP;dsimp only;split;exact f _ _;split;split;exact b _ _ _ _ _ _ h
 exact h.put λe=>by
  have:ti= -1:=e;omega
 exact(h.app (a _)).put h.at_;split;unfold eu;rw[sL];unfold vK lu fZ;dsimp only;split;split;exact f _ _;split;exact b _ _ _ _ _ _ h;exact b _ _ _ _ _ _ h;split;exact f _ _;split;exact h;split;exact b _ _ _ _ _ _ h;exact h;split;unfold iR;rw[sL];unfold xu;dsimp only;split;exact f _ _;show qg (if _ then _ else _);split;exact b _ _ _ _ _ _ (h.app (a _));exact h.app (a _);split;unfold kH;rw[sL];unfold mO;dsimp only;split;split;exact h;exact h.app λ_=>rfl;split;exact p _;split;split;exact b _ _ _ _ _ _ h;exact b _ _ _ _ _ _ h;exact b _ _ _ _ _ _ h;split;unfold iK;rw[sL];unfold jR;dsimp only;split;split;exact h.app λ_=>rfl;exact h;split;exact p _;split;exact b _ _ _ _ _ _ h;exact b _ _ _ _ _ _ h;exact h
def aj6{k:Nat}{w:af}{e:dn}(b:0<=w.2.1)(h:qg (bS w)):qg (bS (wm k w e).2):=by
 have a:∀i t op,qg (bS (gE w i t op)):=λi t op=>qg.app (l:=bS w) h λ_=>rfl;unfold wm;split;split;dsimp only;split;exact a _ _ _;exact qg.app (l:=bS w) h λ_=>rfl;exact h;split;split;exact a _ _ _;exact h;split;split;exact a _ _ _;exact h;split;split;exact a _ _ _;exact h;split;split;exact ajJ b h;exact h;split;split;refine qg.app (l:=bS w) h λe=> ?_;have:w.2.1= -1:=e;omega;exact h;split;split;exact h;exact h;exact h
def ZR{α:Type}(lt:α->α->Bool)(xs:List α)(x:α):fc lt (xs++[x])=(dG lt x (fc lt xs).reverse).reverse:=by
 unfold fc;rw[awD,awL];rfl
section
variable{k:Nat}(O:9223372036854775808<=k)
include O
end
def M7{α:Type}{lt:α->α->Bool}{x:α}:∀ {r:List α},(∀y∈r,lt x y=false)->dG lt x r=x::r
 | [],_=>rfl
 |y::r,h=>by
  unfold dG;rw[a_ (by rw[h y (awk ..)];decide)]
def ack{α:Type}{lt:α->α->Bool}{l:List α}{x:α}(h:∀y∈l,lt x y=false):fc lt (l++[x])=fc lt l++[x]:=by
 rw[ZR,M7 (λy a=>h y ((pB lt l).mem_iff.1 (awP.1 a))),awO,awL]
theorem Kx{α:Type}{lt:α->α->Bool}{x:α}:∀(q s:List α),(∀y∈q,lt y x=true)->q.foldl (λr y=>dG lt y r) (x::s)=x::q.foldl (λr y=>dG lt y r) s
 | [],s,_=>rfl
 |y::q,s,h=>by
  rw[aww,aww]
  have e:dG lt y (x::s)=x::dG lt y s:=by
   simp only[dG];rw[an (h y (awk ..))]
  rw[e];exact Kx q _ λz a=>h z (awm _ a)
def ac4{α:Type}{lt:α->α->Bool}{p q:List α}{x:α}(d:∀y∈p,lt x y=false)(e:∀y∈q,lt y x=true):fc lt (p++x::q)=fc lt (p++q)++[x]:=by
 have a:∀y∈p.foldl (λr x=>dG lt x r) [],lt x y=false:=λy b=>d y ((pB lt p).mem_iff.1 (awP.2 b));unfold fc;rw[awD,aww,M7 a,Kx _ _ e,awO,awD]
def oS(d:ay):ay:=pN d 0
def PF(a b:ay):Bool:=decide (dh a<dh b)
def yx(l:List ay):List ay:=l.filter λd=>decide (¬dh d= -1)
def jb(l:List ay):List ay:=fc PF (yx (l.map oS))
def Ar(l m:List ay):yx (l++m)=yx l++yx m:=List.filter_append ..
def Ug{d:ay}{l:List ay}(h:¬dh d= -1):yx (d::l)=d::yx l:=List.filter_cons_of_pos (by simpa using h)
def W3{d:ay}{l:List ay}(h:dh d= -1):yx (d::l)=yx l:=List.filter_cons_of_neg (by simpa using h)
def Hh{d:ay}{l:List ay}(h:d∈yx (l.map oS)):∃x∈l,d=oS x/\¬dh x= -1:=by
 obtain⟨a,b⟩:=awQ.1 h;obtain⟨x,e,rfl⟩:=List.mem_map.1 a;exact⟨x,e,rfl,e_ b⟩
def uD(d:ay):dh (oS d)=dh d:=rfl
def I1{l:List ay}{d:ay}(h:dh d= -1):jb (l++[d])=jb l:=by
 unfold jb;rw[awy,Ar,awA,List.map_nil,W3 (by rw[uD];exact h)];show fc PF (_++[])=_;rw[awR]
def Mp{l:List ay}{d:ay}(h:¬dh d= -1)(b:∀x∈l,dh x<=dh d):jb (l++[d])=jb l++[oS d]:=by
 unfold jb;rw[awy,Ar,awA,List.map_nil,Ug (by rw[uD];exact h)];refine ack λy a=> ?_;obtain⟨x,e,rfl,_⟩:=Hh a;have:=b x e;unfold PF;rw[uD,uD,d_];omega
def Uk{α:Type}{l:List α}{n:Nat}(x:α)(h:n<l.length):l.set n x=l.take n++x::l.drop (n+1):=by
 rw[List.set_eq_take_append_cons_drop,an h]
def agz{α:Type}{l:List α}{n:Nat}(d:α)(h:n<l.length):l.set n (l.getD n d)=l:=by
 rw[dq _ h,List.set_getElem_self]
def Yx{l:List ay}{n:Nat}{d:ay}(b:n<l.length)(h:dh (l.getD n aw.aa)= -1)(j:¬dh d= -1)(g:∀x∈l,dh x<dh d):jb (l.set n d)=jb l++[oS d]:=by
 have e:jb l=jb (l.take n++l.getD n aw.aa::l.drop (n+1)):=by
  rw[<-Uk _ b,agz _ b]
 rw[e,Uk _ b];unfold jb;rw[awy,awy,awA,awA,Ar,Ar,W3 (d:=oS (l.getD n aw.aa)) h,Ug (d:=oS d) j];refine ac4 (λy a=> ?_) (λy a=> ?_);obtain⟨x,f,rfl,_⟩:=Hh a;have:=g x (awK f);unfold PF;rw[uD,uD,d_];omega;obtain⟨x,f,rfl,_⟩:=Hh a;have:=g x (awt f);unfold PF;rw[uD,uD,b_];omega
def aeE{l:List ay}{n:Nat}{d:ay}(a:oS d=oS (l.getD n aw.aa)):jb (l.set n d)=jb l:=by
 unfold jb;by_cases hn:n<l.length;have e:(l.set n d).map oS=l.map oS:=ly (d:=aw.aa) a;rw[e];rw[awE (by omega)]
def qC(d:ay):Int:=d.2.2.2.2.2.2.1
def nOf(d:ay):Int:=d.2.2.2.2.2.1
def lg(w:af):List ar:=w.2.2.2.2.2.2.2.1
def nS(cap:Int)(s:Option Int)(op code:Int)(g:Nat):Option Int:=
 match s with
 |none=>none
 |some n=>
  if op=1/\code=3/\¬n=cap then none
  else if op=4/\¬(g:Int)=n then none
  else if(if op=1/\code=1 then n+1 else if op=5 then n-g else n)<0\/cap<(if op=1/\code=1 then n+1 else if op=5 then n-g else n)then none
  else some (if op=1/\code=1 then n+1 else if op=5 then n-g else n)
def ab7(cap:Int)(s:Option Int)(d:ay):Option Int:=nS cap s d.1 (qC d) (kh d).length
def uI{cap n op code:Int}{g:Nat}(h1:¬(op=1/\(code=1\/code=3)))(h4:¬op=4)(a:¬op=5)(h0:0<=n)(hn:n<=cap):nS cap (some n) op code g=some n:=by
 have e:(if op=1/\code=1 then n+1 else if op=5 then n-g else n)=n:=by rw[a_ (by omega),a_ a]
 unfold nS;dsimp only;rw[e,a_ (by omega),a_ (by omega),a_ (by omega)]
def aiF{cap n:Int}{g:Nat}(h0:0<=n)(hn:n=cap):nS cap (some n) 1 3 g=some n:=by
 have e:(if(1:Int)=1/\(3:Int)=1 then n+1 else if(1:Int)=5 then n-g else n)=n:=by rw[a_ (by omega),a_ (by omega)]
 unfold nS;dsimp only;rw[e,a_ (by omega),a_ (by omega),a_ (by omega)]
def aiX{cap n:Int}{g:Nat}(h0:0<=n)(hn:n+1<=cap):nS cap (some n) 1 1 g=some (n+1):=by
 have e:(if(1:Int)=1/\(1:Int)=1 then n+1 else if(1:Int)=5 then n-g else n)=n+1:=by rw[an (by omega)]
 unfold nS;dsimp only;rw[e,a_ (by omega),a_ (by omega),a_ (by omega)]
def ahS{cap n code:Int}{g:Nat}(hn:n<=cap)(hg:(g:Int)=n):nS cap (some n) 4 code g=some n:=by
 have e:(if(4:Int)=1/\code=1 then n+1 else if(4:Int)=5 then n-g else n)=n:=by rw[a_ (by omega),a_ (by omega)]
 unfold nS;dsimp only;rw[e,a_ (by omega),a_ (by omega),a_ (by omega)]
def afJ{cap n m code:Int}{g:Nat}(hn:n<=cap)(h0:0<=m)(hg:m+g=n):nS cap (some n) 5 code g=some m:=by
 have e:(if(5:Int)=1/\code=1 then n+1 else if(5:Int)=5 then n-g else n)=m:=by rw[a_ (by omega),an rfl];omega
 unfold nS;dsimp only;rw[e,a_ (by omega),a_ (by omega),a_ (by omega)]
def acJ(l:List ar)(n:Int)(a:ae):Prop:=∃g∈l,g.1=n/\a∈g.2.2.2.2
def adJ(e:ay)(n:Int)(a:ae):Prop:=(e.1=7/\e.2.2.1.1=a.1)\/(e.1=8/\nOf e=n/\a∈kh e/\BP (kh e))
def P2(gs b:List ar)(news:List ay):Prop:=
 (∀n a,acJ gs n a->acJ b n a\/∃e∈news,adJ e n a)/\(∀d∈news,d.1=7->¬qC d=3->acJ b (nOf d) d.2.2.1)
def wy(cap:Int)(st a:List aq)(gs b:List ar)(l d:List ay):Prop:=
 ∃news,jb d=jb l++news/\news.foldl (ab7 cap) (some (bL st:Int))=some (bL a:Int)/\P2 gs b news
def TJ{gs:List ar}{news:List ay}(h:∀d∈news,¬d.1=7):P2 gs gs news:=⟨λ_ _ h=> .inl h,λd a h7 _=>absurd h7 (h d a)⟩
def oo{cap:Int}{st a:List aq}{gs:List ar}{l b:List ay}(h:jb b=jb l)(hc:bL a=bL st):wy cap st a gs gs l b:=
 ⟨[],by rw[h,awR],by rw[hc];rfl,TJ λd e=>by cases e⟩
def jn{cap:Int}{st a:List aq}{gs b:List ar}{l e:List ay}{d:ay}(h:jb e=jb l++[d])(hc:nS cap (some (bL st:Int)) d.1 (qC d) (kh d).length=some (bL a:Int))(f:P2 gs b [d]):wy cap st a gs b l e:=
 ⟨[d],h,hc,f⟩
def vR{gs:List ar}{d:ay}(h:¬d.1=7):P2 gs gs [d]:=TJ λe a=>by rw[o_.1 a];exact h
def sq{st:List aq}{j:Nat}{x:Int}:bL (cG st j x)=bL st:=by unfold bL;rw[tW]
def nf{l:List ay}{n:Nat}{d:ay}{x:Bool}{M ti code:Int}{got:List ae}(b:∀x∈l,dh x<ti)(h0:0<=ti)(f:n<l.length)(g:dh (l.getD n aw.aa)= -1)(h:dh d= -1):
 jb (l.set n (eC true x d M ti code got))=jb l++[oS (ER d M ti code got)]:=by
 have e:eC true x d M ti code got=pN (ER d M ti code got) ti:=by
  unfold eC oQ;rw[an (by rfl),an h]
 have a:dh (eC true x d M ti code got)=ti:=by rw[e];rfl
 rw[Yx f g (by rw[a];omega) (by rw[a];exact b),e];rfl
def adi{l:List ae}{a b:ae}(d:b∈l)(g:¬b.1=a.1):b∈jU l a:=by
 unfold jU;split;rename_i i f;obtain⟨j,h,rfl⟩:=mn ab.aa d;by_cases e:i=j;subst e;exact absurd (e_ (bl.1 f).2.1) g;rw[<-getD_set_ne (l:=l) (a) ab.aa e];exact cx (by rw[awg];exact h);rw[<-List.take_append_drop (kK l a.1) l]at d;rcases X_.1 d with d|d;exact awf _ (awf _ d);exact awj _ d
def y9{α:Type}{l:List α}{i:Nat}{x:α}(hi:i<l.length):x∈l.set i x:=by
 have:=aT (l:=l) x x hi;have a:(l.set i x).getD i x∈l.set i x:=cx (by rw[awg];exact hi);rwa [this]at a
def acC{l:List ae}{a:ae}:a∈jU l a:=by
 unfold jU;split;rename_i i b;exact y9 (bl.1 b).1;exact awf _ (awj _ (o_.2 rfl))
def Fp{α:Type}{l:List α}{i j:Nat}{x:α}(d:α)(a:j<l.length)(e:¬i=j):l.getD j d∈l.set i x:=by
 rw[<-getD_set_ne (l:=l) x d e];exact cx (by rw[awg];exact a)
section
variable{k:Nat}{c:bw}{ti M gr nn:Int}{st:List aq}{V:List bp}{T U:List ae}{D:List ar}{Q:List aI}{Z:List bE}{A:List aA}{E:List ay}{i:Nat}{t:aA}
def lE(h:Rt k c ti M st V T gr D nn Q U A E):∀x∈E,dh x<ti:=λx a=>(h.dee x a).2.2.1
def uk(h:Rt k c ti M st V T gr D nn Q U A E):(0:Int)<=(bL st:Int)/\(bL st:Int)<=c.2.1:=⟨by omega,h.sto.cap⟩
def Ak{j:Nat}:(bX (ey (c,ti,M,st,V,T,gr,D,nn,Q,Z,U,A,E) i j)).1=true->
 wy c.2.1 st (kR (bX (ey (c,ti,M,st,V,T,gr,D,nn,Q,Z,U,A,E) i j)).2) D (lg (bX (ey (c,ti,M,st,V,T,gr,D,nn,Q,Z,U,A,E) i j)).2) E (bS (bX (ey (c,ti,M,st,V,T,gr,D,nn,Q,Z,U,A,E) i j)).2):=by
 unfold ey;dsimp only;by_cases a:(st.getD j aj.aa).1= -1;rw[an a,bg];intro _;exact oo rfl sq;rw[a_ a];intro b;simp[bX]at b
def NJ{j:Nat}:(bX (kN (c,ti,M,st,V,T,gr,D,nn,Q,Z,U,A,E) j)).1=true->
 wy c.2.1 st (kR (bX (kN (c,ti,M,st,V,T,gr,D,nn,Q,Z,U,A,E) j)).2) D (lg (bX (kN (c,ti,M,st,V,T,gr,D,nn,Q,Z,U,A,E) j)).2) E (bS (bX (kN (c,ti,M,st,V,T,gr,D,nn,Q,Z,U,A,E) j)).2):=by
 unfold kN;dsimp only;by_cases a:gr= -1;rw[an a,bg];intro _;exact oo rfl rfl;rw[a_ a];intro b;simp[bX]at b
def afO(h:Rt k c ti M st V T gr D nn Q U A E)(z:∀p∈st,p.2.1<4611686018427387904)(hi:i<3)(r:A.getD i ah.aa=t)(B:t.1=1):
 (kI true k (c,ti,M,st,V,T,gr,D,nn,Q,Z,U,A,E) i).1=true->
 wy c.2.1 st (kR (kI true k (c,ti,M,st,V,T,gr,D,nn,Q,Z,U,A,E) i).2) D (lg (kI true k (c,ti,M,st,V,T,gr,D,nn,Q,Z,U,A,E) i).2) E (bS (kI true k (c,ti,M,st,V,T,gr,D,nn,Q,Z,U,A,E) i).2):=by
 have h0:=iJ h.sto.ok;obtain⟨F,m,hb,hd,hv1,hw⟩:=dU h (by omega) r (by omega);have s:=(kU B).1 F;obtain⟨g,w⟩:=uk h;have hti:=h.ti0;unfold kI wP;dsimp only;rw[r];by_cases u:t.2.1=0;rw[an u];exact Ak;rw[a_ u];by_cases v:t.2.1=1;rw[an v];rw[a_ (by omega)]at s;obtain⟨q1,q12,q13,q14,o,f,q17,q⟩:=s
 have j:dh (E.getD (bn t).toNat aw.aa)= -1:=by
  by_cases e:(E.getD (bn t).toNat aw.aa).2.2.2.2.2.2.2.2.2.2.1= -1;exact e;have:=o.1 e;omega
 by_cases a:yG k c st t.2.2.1=true;rw[an a,bg];intro _;refine jn (nf (lE h) h.ti0 m j j) ?_ (vR (by show¬(E.getD (bn t).toNat aw.aa).1=7;omega));show nS c.2.1 (some (bL st:Int)) (E.getD (bn t).toNat aw.aa).1 3 0=some (bL (cG st _ (-1)):Int);rw[f,sq];unfold yG at a;simp only[h_,b_]at a;exact aiF g (by omega);rw[a_ a,bg];intro _;have C:=(XS h.sto.ok q z).2.2.1;refine jn (d:=oS (sr (E.getD (bn t).toNat aw.aa) M ti (if(fk k st t.2.2.1).2=true then 1 else 2))) (Yx m j (by show¬ti= -1;omega) (lE h)) ?_ (vR (by show¬(E.getD (bn t).toNat aw.aa).1=7;omega));show nS c.2.1 (some (bL st:Int)) (E.getD (bn t).toNat aw.aa).1 (if(fk k st t.2.2.1).2=true then 1 else 2) (kh (E.getD (bn t).toNat aw.aa)).length=some (bL (fk k st t.2.2.1).1:Int);rw[f,C];rw[UO h.sto.ok];cases l:(bQ k st t.2.2.1.1).2;unfold yG at a;rw[l]at a;have:¬c.2.1<=(bL st:Int):=by simpa using a
 refine(aiX g (by omega)).trans ?_;simp;exact uI (by decide) (by decide) (by decide) g w;rw[a_ v,bg];intro _
 have b:jb ((E++[jh (vq i t.2.2.1) M ti ti ti]).set (bn t).toNat (pN (E.getD (bn t).toNat aw.aa) ti))=jb E++[oS (jh (vq i t.2.2.1) M ti ti ti)]:=by
  rw[aeE (by rw[lv _ m];rfl)];exact Mp (by show¬ti= -1;omega) (λx y=>by have:=lE h x y;show dh x<=ti;omega)
 refine jn b ?_ (vR (by show¬(2:Int)=7;decide));show nS c.2.1 (some (bL st:Int)) 2 8 0=some (bL (cG st _ (-1)):Int);rw[sq];exact uI (by decide) (by decide) (by decide) g w
def afW(h:Rt k c ti M st V T gr D nn Q U A E)(hi:i<3)(d:A.getD i ah.aa=t)(m:t.1=2):
 (bX (lu true k (c,ti,M,st,V,T,gr,D,nn,Q,Z,U,A,E) i)).1=true->
 wy c.2.1 st (kR (bX (lu true k (c,ti,M,st,V,T,gr,D,nn,Q,Z,U,A,E) i)).2) D (lg (bX (lu true k (c,ti,M,st,V,T,gr,D,nn,Q,Z,U,A,E) i)).2) E (bS (bX (lu true k (c,ti,M,st,V,T,gr,D,nn,Q,Z,U,A,E) i)).2):=by
 obtain⟨o,g,hb,hd,hv1,hw⟩:=dU h (by omega) d (by omega);obtain⟨q1,q12,q13,q14,a,b,q17⟩:=(kP m).1 o;obtain⟨j,l⟩:=uk h;unfold lu;dsimp only;rw[d];by_cases e:t.2.1=0;rw[an e];exact Ak;rw[a_ e];by_cases f:(bQ k st t.2.2.2.1).2=true;rw[an f,bg];intro _;refine jn (nf (lE h) h.ti0 g a a) ?_ (vR (by show¬(E.getD (bn t).toNat aw.aa).1=7;omega));show nS c.2.1 (some (bL st:Int)) (E.getD (bn t).toNat aw.aa).1 5 1=some (bL (cG st _ (-1)):Int);rw[b,sq];exact uI (by decide) (by decide) (by decide) j l;rw[a_ f,bg];intro _;refine jn (nf (lE h) h.ti0 g a a) ?_ (vR (by show¬(E.getD (bn t).toNat aw.aa).1=7;omega));show nS c.2.1 (some (bL st:Int)) (E.getD (bn t).toNat aw.aa).1 6 0=some (bL (cG st _ (-1)):Int);rw[b,sq];exact uI (by decide) (by decide) (by decide) j l
def SD(h:Rt k c ti M st V T gr D nn Q U A E)(a:ei st t=true)(hs:gF st t.2.2.2.2.2.1=true)(e:t.2.2.2.2.2.1.length=st.length):cn st=t.2.2.2.2.2.2.1:=by
 rw[zN]at a
 have b:=a.2 λi d=>by
  unfold gF at hs;have:=cH.1 hs i (by omega) d;exact e_ this
 rw[e,List.take_length]at b;exact b
def aeh(h:Rt k c ti M st V T gr D nn Q U A E)(hi:i<3)(j:A.getD i ah.aa=t)(o:t.1=3):
 (bX (fZ true k (c,ti,M,st,V,T,gr,D,nn,Q,Z,U,A,E) i)).1=true->
 wy c.2.1 st (kR (bX (fZ true k (c,ti,M,st,V,T,gr,D,nn,Q,Z,U,A,E) i)).2) D (lg (bX (fZ true k (c,ti,M,st,V,T,gr,D,nn,Q,Z,U,A,E) i)).2) E (bS (bX (fZ true k (c,ti,M,st,V,T,gr,D,nn,Q,Z,U,A,E) i)).2):=by
 obtain⟨p,q,hb,hd,hv1,hw⟩:=dU h (by omega) j (by omega);obtain⟨⟨r1,r2,r3,r4,r5,r6,r7,r8,r9,r10,r11⟩,q12,q13,q14,b,e,f,g⟩:=(fh o).1 p;obtain⟨c1,r⟩:=uk h;have hlen:=h.sto.len;unfold fZ;dsimp only;rw[j];by_cases l:t.2.1=0;rw[an l];exact Ak;rw[a_ l];by_cases m:t.2.1=1;rw[an m,bg];intro _;exact oo rfl sq;rw[a_ m];rw[an (by omega)]at g;by_cases d:gF st t.2.2.2.2.2.1=true;rw[an d,bg];intro _;have a:=SD h f d (by omega);refine jn (nf (lE h) h.ti0 q b b) ?_ (vR (by show¬(E.getD (bn t).toNat aw.aa).1=7;omega));show nS c.2.1 (some (bL st:Int)) (E.getD (bn t).toNat aw.aa).1 8 (dp t.2.2.2.2.2.2.1).length=some (bL st:Int);rw[e];refine ahS r ?_;have:(dp t.2.2.2.2.2.2.1).length=t.2.2.2.2.2.2.1.length:=(pB ee _).length_eq;rw[this,<-a];rfl;rw[a_ d,bg];intro _;exact oo rfl rfl
def acw(h:Rt k c ti M st V T gr D nn Q U A E)(hi:i<3)(m:A.getD i ah.aa=t)(w:t.1=4):
 (iR true k (c,ti,M,st,V,T,gr,D,nn,Q,Z,U,A,E) i).1=true->
 wy c.2.1 st (kR (iR true k (c,ti,M,st,V,T,gr,D,nn,Q,Z,U,A,E) i).2) D (lg (iR true k (c,ti,M,st,V,T,gr,D,nn,Q,Z,U,A,E) i).2) E (bS (iR true k (c,ti,M,st,V,T,gr,D,nn,Q,Z,U,A,E) i).2):=by
 obtain⟨B,u,j,e,hv1,hw⟩:=dU h (by omega) m (by omega);obtain⟨⟨q1,q2,q3,q4,q5,q6,q7,q8,q9,q10,q11,q11'⟩,q12,q13,q14,a,g,q17⟩:=(kQ w).1 B;obtain⟨C,v⟩:=uk h;have hlen:=h.sto.len;have hti:=h.ti0;have y:t.2.2.2.2.1.toNat<st.length:=by omega
 unfold iR xu;dsimp only;rw[m];by_cases o:t.2.1=0;rw[an o];exact Ak;rw[a_ o,bg];intro _;have hcnt:=count_set (l:=st) (p:=(-1,(gj (st.getD t.2.2.2.2.1.toNat aj.aa) M).2)) y;have hsl:=HT (st.getD t.2.2.2.2.1.toNat aj.aa) M;have hee:(bd (-1,(gj (st.getD t.2.2.2.2.1.toNat aj.aa) M).2)).length=(bd (gj (st.getD t.2.2.2.2.1.toNat aj.aa) M)).length:=rfl;have q:nS c.2.1 (some (bL st:Int)) 5 8 (e9 M (st.getD t.2.2.2.2.1.toNat aj.aa).2.2).length=some (bL (st.set t.2.2.2.2.1.toNat (-1,(gj (st.getD t.2.2.2.2.1.toNat aj.aa) M).2)):Int):=afJ v (by omega) (by omega)
 have r:∀l:List ay,(∀x∈l,dh x<=ti)->jb (l++[jh (jm i t.2.2.2.2.1.toNat (e9 M (st.getD t.2.2.2.2.1.toNat aj.aa).2.2)) M ti ti ti])=jb l++[oS (jh (jm i t.2.2.2.2.1.toNat (e9 M (st.getD t.2.2.2.2.1.toNat aj.aa).2.2)) M ti ti ti)]:=
  λl j=>Mp (by show¬ti= -1;omega) j
 by_cases s:t.2.2.2.2.1.toNat+1=st.length
 have f:(if t.2.2.2.2.1.toNat+1=st.length then(E++[jh (jm i t.2.2.2.2.1.toNat (e9 M (st.getD t.2.2.2.2.1.toNat aj.aa).2.2)) M ti ti ti]).set (bn t).toNat (eC true false (E.getD (bn t).toNat aw.aa) M ti 8 [])else E++[jh (jm i t.2.2.2.2.1.toNat (e9 M (st.getD t.2.2.2.2.1.toNat aj.aa).2.2)) M ti ti ti])=
  E.set (bn t).toNat (eC true false (E.getD (bn t).toNat aw.aa) M ti 8 [])++[jh (jm i t.2.2.2.2.1.toNat (e9 M (st.getD t.2.2.2.2.1.toNat aj.aa).2.2)) M ti ti ti]:=by
  rw[an s,List.set_append_left _ _ u]
 show wy c.2.1 st _ D D E (if _ then _ else _);rw[f];refine⟨[oS (ER (E.getD (bn t).toNat aw.aa) M ti 8 []),oS (jh (jm i t.2.2.2.2.1.toNat (e9 M (st.getD t.2.2.2.2.1.toNat aj.aa).2.2)) M ti ti ti)],?_,?_,TJ λd e=> ?_⟩;rw[r _ (λx b=> ?_),nf (lE h) h.ti0 u a a,List.append_assoc];rfl;rcases awc b with b|rfl;have:=lE h x b;omega
 have:dh (eC true false (E.getD (bn t).toNat aw.aa) M ti 8 [])=ti:=by
  unfold eC oQ;rw[an (by rfl),an (show dh (E.getD (bn t).toNat aw.aa)= -1 from a)];rfl
 omega
 have z:ab7 c.2.1 (some (bL st:Int)) (oS (ER (E.getD (bn t).toNat aw.aa) M ti 8 []))=some (bL st:Int):=by
  show nS c.2.1 (some (bL st:Int)) (E.getD (bn t).toNat aw.aa).1 8 0=some (bL st:Int);rw[g];exact uI (by decide) (by decide) (by decide) C v
 rw[aww,aww,List.foldl_nil,z];exact q;rcases List.mem_cons.1 e with rfl|e;show¬(E.getD (bn t).toNat aw.aa).1=7;omega;rw[o_.1 e];show¬(5:Int)=7;decide
 have f:(if t.2.2.2.2.1.toNat+1=st.length then(E++[jh (jm i t.2.2.2.2.1.toNat (e9 M (st.getD t.2.2.2.2.1.toNat aj.aa).2.2)) M ti ti ti]).set (bn t).toNat (eC true false (E.getD (bn t).toNat aw.aa) M ti 8 [])else E++[jh (jm i t.2.2.2.2.1.toNat (e9 M (st.getD t.2.2.2.2.1.toNat aj.aa).2.2)) M ti ti ti])=
  E++[jh (jm i t.2.2.2.2.1.toNat (e9 M (st.getD t.2.2.2.2.1.toNat aj.aa).2.2)) M ti ti ti]:=a_ s
 show wy c.2.1 st _ D D E (if _ then _ else _);rw[f];exact jn (r _ λx b=>by have:=lE h x b;omega) q (vR (by show¬(5:Int)=7;decide))
def aei(h:Rt k c ti M st V T gr D nn Q U A E):
 (kH true k (c,ti,M,st,V,T,gr,D,nn,Q,Z,U,A,E)).1=true->
 wy c.2.1 st (kR (kH true k (c,ti,M,st,V,T,gr,D,nn,Q,Z,U,A,E)).2) D (lg (kH true k (c,ti,M,st,V,T,gr,D,nn,Q,Z,U,A,E)).2) E (bS (kH true k (c,ti,M,st,V,T,gr,D,nn,Q,Z,U,A,E)).2):=by
 obtain⟨K,L⟩:=uk h;generalize r:A.getD 3 ah.aa=t;unfold kH mO;dsimp only;rw[r];by_cases y:t.1=0;rw[an y];by_cases z:T.length=0;rw[an z];intro f;simp[bX]at f;rw[a_ z,bg];intro _;exact oo (I1 rfl) rfl;rw[a_ y];have s:=h.tas 3 (by decide);rw[r]at s
 have J:t.1=5:=by
  have h1:=jN (k:=k) (w:=(c,ti,M,st,V,T,gr,D,nn,Q,Z,U,A,E)) (i:=3) s;omega
 obtain⟨-,v,hb,f,hv1,hw⟩:=dU h (by decide) r (by omega);obtain⟨q1,q12,q13,q14,b,p,o⟩:=(mL J).1 s;by_cases B:t.2.1=0;rw[an B];exact NJ;rw[a_ B]
 have l:∀(m code:Int),nS c.2.1 (some (bL st:Int)) (E.getD (bn t).toNat aw.aa).1 code 0=some (bL st:Int):=λm code=>by
  rw[p];exact uI (by omega) (by decide) (by decide) K L
 cases u:iA D (keyOf t.2.2.1 c.2.2.2.2.2)with
 |none=>
  dsimp only;by_cases C:12<=D.length;rw[an C,bg];intro _;refine jn (nf (lE h) h.ti0 v b b) (l 0 3) ⟨λ_ _ h=> .inl h,λd f _ q=> ?_⟩;rw[o_.1 f]at q;exact absurd rfl q;rw[a_ C,bg];intro _;refine jn (nf (lE h) h.ti0 v b (show dh (wq _ nn)= -1 from b)) (l nn 1) ⟨λn a h=> ?_,λd f _ q=> ?_⟩;obtain⟨g,x,e⟩:=h;exact .inl ⟨g,awf _ x,e⟩;rw[o_.1 f];exact⟨vY c t.2.2.1 nn M,awj _ (o_.2 rfl),rfl,o_.2 o⟩
 |some i=>
  dsimp only;rw[bg];intro _;obtain⟨G,k2⟩:=wY u;refine jn (nf (lE h) h.ti0 v b (show dh (wq _ _)= -1 from b)) (l 0 2) ⟨λn a h=> ?_,λd f _ q=> ?_⟩;obtain⟨g,x,H,I⟩:=h;obtain⟨j,N,rfl⟩:=mn ak.aa x;by_cases e:i=j;subst e;by_cases F:a.1=t.2.2.1.1;refine .inr ⟨_,o_.2 rfl,.inl ⟨p,?_⟩⟩;show(E.getD (bn t).toNat aw.aa).2.2.1.1=a.1;rw[o,F];exact .inl ⟨_,y9 G,H,adi I F⟩;exact .inl ⟨_,Fp ak.aa N e,H,I⟩;rw[o_.1 f];refine⟨_,y9 G,rfl,?_⟩;show(E.getD (bn t).toNat aw.aa).2.2.1∈jU _ t.2.2.1;rw[o];exact acC
def ab2(h:Rt k c ti M st V T gr D nn Q U A E):
 (iK true k (c,ti,M,st,V,T,gr,D,nn,Q,Z,U,A,E)).1=true->
 wy c.2.1 st (kR (iK true k (c,ti,M,st,V,T,gr,D,nn,Q,Z,U,A,E)).2) D (lg (iK true k (c,ti,M,st,V,T,gr,D,nn,Q,Z,U,A,E)).2) E (bS (iK true k (c,ti,M,st,V,T,gr,D,nn,Q,Z,U,A,E)).2):=by
 obtain⟨G,H⟩:=uk h;generalize p:A.getD 4 ah.aa=t;unfold iK jR;dsimp only;rw[p];by_cases r:t.1=0;rw[an r];by_cases s:yw Q M=true;rw[an s,bg];intro _;exact oo (I1 rfl) rfl;rw[a_ s];intro o;simp[bX]at o;rw[a_ r];have q:=h.tas 4 (by decide);rw[p]at q
 have C:t.1=6:=by
  have h1:=jN (k:=k) (w:=(c,ti,M,st,V,T,gr,D,nn,Q,Z,U,A,E)) (i:=4) q;omega
 obtain⟨-,x,hb,o,hv1,hw⟩:=dU h (by decide) p (by omega);obtain⟨q1,q12,q13,q14,f,m,q17,q18⟩:=(jF C).1 q;by_cases u:t.2.1=0;rw[an u];exact NJ;rw[a_ u]
 have l:∀(code:Int) (g:Nat),nS c.2.1 (some (bL st:Int)) (E.getD (bn t).toNat aw.aa).1 code g=some (bL st:Int):=λcode g=>by
  rw[m];exact uI (by omega) (by decide) (by decide) G H
 by_cases O:pK D t.2.2.2.2.2.2.2.1=true;rw[an O,bg];intro _;refine jn (nf (lE h) h.ti0 x f f) (l 8 _) ⟨λn a B=> ?_,λd o h7 _=> ?_⟩;obtain⟨g,I,J,y⟩:=B;unfold pK at O;cases b:gL D t.2.2.2.2.2.2.2.1 with
 |none=>rw[b]at O;cases O
 |some i=>
  obtain⟨K,k2⟩:=jL b;obtain⟨j,z,rfl⟩:=mn ak.aa I;have v:ld D t.2.2.2.2.2.2.2.1 M=yV (D.getD i ak.aa) M:=by unfold ld;rw[b]
  by_cases e:i=j;subst e;refine .inr ⟨_,o_.2 rfl,.inr ⟨m,?_,?_,?_⟩⟩;show(E.getD (bn t).toNat aw.aa).2.2.2.2.2.1=n;omega;show a∈(ld D t.2.2.2.2.2.2.2.1 M).2.2.2;rw[v];exact y;show BP (ld D t.2.2.2.2.2.2.2.1 M).2.2.2;rw[v];exact(kS.1 ((dy.1 h.grp.go).2.1 _ (cx (d:=ak.aa) K))).2.2.2.2.2.2
  have F:D.getD j ak.aa∈fw D t.2.2.2.2.2.2.2.1 M:=by
   unfold fw;rw[b];dsimp only;split;rw[dq _ z];rcases Nat.lt_or_gt_of_ne e with e|e;refine awj _ (awM.2 ⟨j-(i+1),by rw[awq];omega,?_⟩);rw[awC];congr 1;omega;exact awf _ (awM.2 ⟨j,by rw[awu];omega,by rw[awB]⟩);exact Fp ak.aa z e
  exact .inl ⟨_,F,J,y⟩
 rw[o_.1 o]at h7;have:(E.getD (bn t).toNat aw.aa).1=7:=h7;omega;rw[a_ O,bg];intro _;exact jn (nf (lE h) h.ti0 x f f) (l 6 0) (vR (by show¬(E.getD (bn t).toNat aw.aa).1=7;omega))
end
def Ja(w w':af):Prop:=wy w.1.2.1 (kR w) (kR w') (lg w) (lg w') (bS w) (bS w')
def ah7{k:Nat}{w:af}{i:Nat}(h:bC k w=true)(hi:i<5)(m:∀p∈kR w,p.2.1<4611686018427387904)(b:(gx true k w i).1=true):Ja w (gx true k w i).2:=by
 obtain⟨c,ti,M,st,V,T,gr,D,nn,Q,Z,U,A,E⟩:=w;have R:=cw.1 h;generalize a:A.getD i ah.aa=t;have g:=R.tas i hi;rw[a]at g;have ho:=jN (k:=k) (w:=(c,ti,M,st,V,T,gr,D,nn,Q,Z,U,A,E)) (i:=i) g;revert b;unfold Ja gx;dsimp only[bI];rw[a];by_cases d:t.1=1;rw[an d];exact afO R m (by omega) a d;rw[a_ d];by_cases j:t.1=2\/t.1=3;rw[an j];unfold eu vK;dsimp only;rw[a];by_cases e:t.1=2;rw[an e];exact afW R (by omega) a e;rw[a_ e];exact aeh R (by omega) a (by omega);rw[a_ j];by_cases f:t.1=4;rw[an f];exact acw R (by omega) a f;rw[a_ f];by_cases l:i=3;rw[an l];exact aei R;rw[a_ l];by_cases h6:i=4;rw[an h6];exact ab2 R;rw[a_ h6];intro b;cases b
def aih{k:Nat}{w:af}{e:dn}(h:bC k w=true)(P:∀p∈kR w,p.2.1<4611686018427387904)(a:(wm k w e).1=true):Ja w (wm k w e).2:=by
 have S:=h;have q:∀i t op,Ja w (gE w i t op):=λi t op=>oo (I1 rfl) rfl
 have b:∀(d:ay) (l:af),0<=w.2.1->(0:Int)<=(bL (kR w):Int)/\(bL (kR w):Int)<=w.1.2.1->(∀x∈bS w,dh x<w.2.1)->dh d=w.2.1->(¬(d.1=1/\(qC d=1\/qC d=3))/\¬d.1=4/\¬d.1=5/\¬d.1=7)->
  kR l=kR w->lg l=lg w->bS l=bS w++[d]->Ja w l:=by
  intro d l h0 hc I a f J K L;unfold Ja;rw[J,K,L];refine jn (Mp (by omega) λx N=>by have:=I x N;omega) ?_ (vR f.2.2.2);exact uI (op:=d.1) (code:=qC d) f.1 f.2.1 f.2.2.1 hc.1 hc.2
 have g:0<=w.2.1/\((0:Int)<=(bL (kR w):Int)/\(bL (kR w):Int)<=w.1.2.1)/\∀x∈bS w,dh x<w.2.1:=by
  obtain⟨c,ti,M,st,V,T,gr,D,nn,Q,Z,U,A,E⟩:=w;have R:=cw.1 S;exact⟨R.ti0,uk R,lE R⟩
 obtain⟨F,G,H⟩:=g;unfold wm at a|-;by_cases r:e.1=1;rw[an r]at a|-;by_cases hc:cX w e.2.1=true;rw[an hc];dsimp only;by_cases s:dx e.2.2.1=true;rw[an s];exact q _ _ _;rw[a_ s];exact b (1,e.2.1,e.2.2.1,[],0,0,4,[],w.2.2.1,w.2.1,w.2.1,w.2.1) _ F G H rfl ⟨by show¬((1:Int)=1/\((4:Int)=1\/(4:Int)=3));decide,by show¬(1:Int)=4;decide,by show¬(1:Int)=5;decide,by show¬(1:Int)=7;decide⟩ rfl rfl rfl;rw[a_ hc]at a;cases a;rw[a_ r]at a|-;by_cases u:e.1=2;rw[an u]at a|-;by_cases hc:(cX w e.2.1&&dP e.2.2.2)=true;rw[an hc];exact q _ _ _;rw[a_ hc]at a;cases a;rw[a_ u]at a|-;by_cases v:e.1=3;rw[an v]at a|-;by_cases hc:cX w e.2.1=true;rw[an hc];exact q _ _ _;rw[a_ hc]at a;cases a;rw[a_ v]at a|-;by_cases y:e.1=4;rw[an y]at a|-;by_cases hc:cX w e.2.1=true;rw[an hc];exact q _ _ _;rw[a_ hc]at a;cases a;rw[a_ y]at a|-;by_cases z:e.1=5;rw[an z]at a|-;by_cases j:bh e.2.1 0 4=true;rw[an j]at a|-;have W:e.2.1.toNat<5:=by unfold bh at j;simp only[h_,b_]at j;omega
 exact ah7 h W P a;rw[a_ j]at a;cases a;rw[a_ z]at a|-;by_cases B:e.1=6;rw[an B]at a|-;by_cases m:bh e.2.1 0 ((dW w).length-1)=true;rw[an m];exact b (Iz e.2.1 ((dW w).getD e.2.1.toNat bj.aa) w.2.2.1 w.2.1) _ F G H rfl ⟨by show¬((9:Int)=1/\_);omega,by show¬(9:Int)=4;decide,by show¬(9:Int)=5;decide,by show¬(9:Int)=7;decide⟩ rfl rfl rfl;rw[a_ m]at a;cases a;rw[a_ B]at a|-;by_cases C:e.1=7;rw[an C]at a|-;by_cases o:bh e.2.1 1 20=true/\w.2.2.1+e.2.1<=99899;rw[an o];exact oo rfl rfl;rw[a_ o]at a;cases a;rw[a_ C]at a;cases a
def LY(e:dn):Prop:=ag ab e.2.2.1<=2900/\ag (.sl al) e.2.2.2<=2900
section
variable{k:Nat}(O:9223372036854775808<=k)
include O
def EA{a b:Int}:LY (a,b,([],0,0,ByteArray.empty),[]):=by
 have e1:=iF O;have e2:ag (.sl al) ([]:List ai)=0:=bf;exact⟨by show ag ab c9<=2900;omega,by show ag (.sl al) ([]:List ai)<=2900;omega⟩
def ais{w:af}(h:bC k w=true):ag (.sl ab) (dp (cn w.2.2.2.1))<=776/\ag (.sl aj) w.2.2.2.1<=1000:=by
 obtain⟨c,ti,M,st,V,T,gr,D,nn,Q,Z,U,A,E⟩:=w;have R:=cw.1 h;have h1:=mi O (l:=cn st) λa b=>gZ (R.sto.fit a b);have d:=R.sto.cap;have h3:=(oz O R.cf).2.2.2.1;have e:=Il O R.sto.ok;have h5:=(dm.1 R.sto.ok).2;unfold bL at d e;rw[uz];dsimp only;omega
set_option maxHeartbeats 8000000 in
def adr{c:aD}{w:af}(hc:aS c)(hw:bC k w=true):Dr (rQ k (c,w,())) (λr=>LY r.1/\aS r.2.1):=by
 have Y:(bI w).length=5:=by
  obtain⟨c,ti,M,st,V,T,gr,D,nn,Q,Z,U,A,E⟩:=w;exact(cw.1 hw).tl
 obtain⟨t1,t2⟩:=ais O hw;have t3:=au (e:=ab) (l:=dp (cn w.2.2.2.1));have x:=yk O (l:=w.2.2.2.1) (by omega)
 have p:∀t:aD×af×dn×Int×ae×Unit,(aS t.1/\t.2.1=w/\ag ab t.2.2.2.2.1<=400)->Dr (
  awl (dN k (t.2.1.2.2.2.1,())) λF=>
  awl (cm k (t.1,())) λf=>
  if(decide (awI F.1+awI ([f.1]:List ae)<4294967296))=true then
   awl (eS k (f.2.1,F.1++([f.1]:List ae),())) λm=>
   awl (bo k (m.2.1,([(0:Int),(3:Int),(9:Int),(60:Int)]:List Int),())) λo=>
   some (((1:Int),t.2.2.2.1,(m.1,t.2.2.2.2.1.2.1,IntKind.i64.wrap (t.2.2.2.2.1.2.1+o.1),t.2.2.2.2.1.2.2.2),([]:List ai)),o.2.1,())
  else
   none) (λr:dn×aD×Unit=>LY r.1/\aS r.2.1):=by
  rintro⟨c',w',e,i,a,u⟩ ⟨R,S,g3⟩;dsimp only at R S g3|-;subst S;rw[x,sw];refine aV (fR O R) (λf DL=>ff (c_ (by simp only[G_];omega)) ?_)
  have hl:ag (.sl ab) (dp (cn w'.2.2.2.1)++[f.1])<=1000:=by
   rw[fa (e:=ab),ck (e:=ab),bf];have:=DL.2;omega
  refine aV (Kr O (l:=dp (cn w'.2.2.2.1)++[f.1]) DL.1 (by omega)) (λm qX=>aV (dF O qX.1 (by decide)) (λo zM=>bB ⟨⟨?_,?_⟩,zM⟩))
  ·have e1:=bG O (m.1,a.2.1,IntKind.i64.wrap (a.2.1+o.1),a.2.2.2);have e2:=bG O a;have:=qX.2;dsimp only at e1|-;omega
  ·show ag (.sl al) ([]:List ai)<=2900;rw[bf];omega
 have v:∀(r:aD) (q:ae) (i:Int) (J:aD×af×dn×Int×ae×Unit->Option (dn×aD×Unit)),aS r->ag ab q<=121->
  (∀s,(aS s.1/\s.2.1=w/\ag ab s.2.2.2.2.1<=400)->Dr (J s) (λr:dn×aD×Unit=>LY r.1/\aS r.2.1))->
  Dr (awl (dt k (r,(16:Int),())) λW=>
   if W.1=true then
    awl (eL k (W.2.1,())) λr9=>
    J (r9.2.1,w,(0,0,(([]:List ai),0,0,ByteArray.empty),([]:List ai)),i,r9.1,())
   else
    J (W.2.1,w,(0,0,(([]:List ai),0,0,ByteArray.empty),([]:List ai)),i,q,())) (λr:dn×aD×Unit=>LY r.1/\aS r.2.1):=by
  intro r q i J hr hq g;refine aV (jQ O hr) (λW h8=>bD (λ_=> ?_) (λ_=>g _ ⟨h8,rfl,by dsimp only;omega⟩));exact aV (qy O h8) (λr9 h9=>g _ ⟨h9.1,rfl,h9.2⟩)
 have d:∀(C:Int) (z:aD) (i:Int) (J:aD×af×dn×Unit->Option (dn×aD×Unit)),aS z->
  (∀s,(aS s.1/\s.2.1=w)->Dr (J s) (λr:dn×aD×Unit=>LY r.1/\aS r.2.1))->
  Dr (if((C:Int)==(3:Int))=true then
   awl (dN k (w.2.2.2.1,())) λb0=>
   awl (eS k (z,b0.1,())) λy=>
   some (((2:Int),i,(([]:List ai),0,0,ByteArray.empty),y.1),y.2.1,())
  else
   if((C:Int)==(4:Int))=true then
    awl (bo k (z,([(3:Int),(4:Int)]:List Int),())) λH=>
    some ((H.1,i,(([]:List ai),0,0,ByteArray.empty),([]:List ai)),H.2.1,())
   else
    if((C:Int)==(5:Int))=true then
     awl (bo k (z,([(1:Int),(1:Int),(2:Int),(5:Int)]:List Int),())) λI=>
     some (((7:Int),I.1,(([]:List ai),0,0,ByteArray.empty),([]:List ai)),I.2.1,())
    else
     if((C:Int)==(6:Int))=true then
      awl (aH k (z,(2:Int),())) λK=>
      some (((6:Int),K.1,(([]:List ai),0,0,ByteArray.empty),([]:List ai)),K.2.1,())
     else
      J (z,w,(0,0,(([]:List ai),0,0,ByteArray.empty),([]:List ai)),())) (λr:dn×aD×Unit=>LY r.1/\aS r.2.1):=by
  intro C z i J j g;refine bD (λ_=> ?_) (λ_=>bD (λ_=> ?_) (λ_=>bD (λ_=> ?_) (λ_=>bD (λ_=> ?_) (λ_=>g _ ⟨j,rfl⟩))))
  ·rw[x,sw];refine aV (Kr O j (by dsimp only;omega)) (λy Ub=>bB ⟨⟨?_,?_⟩,Ub.1⟩)
   ·have:=iF O;show ag ab c9<=2900;omega
   ·have:=Ub.2;dsimp only at this|-;omega
  ·exact aV (dF O j (by decide)) (λr h=>bB ⟨EA O,h⟩)
  ·exact aV (dF O j (by decide)) (λr h=>bB ⟨EA O,h⟩)
  ·exact aV (aQ O j) (λr h=>bB ⟨EA O,h.1⟩)
 simp only[rQ];refine aV (aQ O hc) (λr1 h1=>DE (λt:aD×af×dn×Unit=>aS t.1/\t.2.1=w) ?_ ?_)
 ·rintro⟨c3,w3,e3,u3⟩ ⟨R,S⟩;dsimp only at R S|-;subst S;refine aV (aQ O R) (λr47 B=>DE (λt:aD×af×dn×Int×Unit=>aS t.1) (λt ht=>bB ⟨EA O,ht⟩) (λJ g=> ?_));refine y6 (λt:aD×af×dn×Int×Int×Unit=>(3-t.2.2.2.2.1).toNat) (λt=>aS t.1/\t.2.1=w3/\0<=t.2.2.2.1/\t.2.2.2.1<5/\0<=t.2.2.2.2.1/\t.2.2.2.2.1<=3) ?_ ⟨B.1,rfl,by have:=B.2;dsimp only;omega,by have:=B.2;dsimp only;omega,g_ _,by show(0:Int)<=3;decide⟩ (by dsimp only;omega);rintro G ⟨c5,w5,e5,i5,n5,u5⟩ ⟨q1,q2,q3,q4,q5,q6⟩ hG;dsimp only at q1 q2 q3 q4 q5 q6 hG|-;subst q2;refine bD (λL=>ff ?_ ?_) (λ_=>g _ q1)
  ·rw[show w5.2.2.2.2.2.2.2.2.2.2.2.2.1.length=5 from Y];exact c_ ⟨q3,by omega⟩
  ·have L:n5<3:=by simpa using L
   have e0:∀b:Bool,Dr (if b=true then pC k (w5,())else some (false,())) (λ_=>True):=λb=>bD (λ_=>⟨_,IQ O,trivial⟩) (λ_=>⟨_,rfl,trivial⟩);refine aV (P:=λ_=>True) (e0 _) (λr52 _=>bD (λ_=>g _ q1) (λ_=>aV (aQ O q1) (λr53 N=> ?_)))
   ·have:=N.2;rw[wrap64 (by omega) (by omega)];exact hG _ ⟨N.1,rfl,by dsimp only;omega,by dsimp only;omega,by dsimp only;omega,by dsimp only;omega⟩ (by dsimp only;omega)
 ·intro J g;refine aV (aQ O h1.1) (λC X=> ?_);refine bD (λ_=>bD (λ_=> ?_) (λ_=>d _ _ _ _ X.1 g)) (λ_=>bD (λ_=>bD (λ_=> ?_) (λ_=>d _ _ _ _ X.1 g)) (λ_=>bD (λ_=> ?_) (λ_=>d _ _ _ _ X.1 g)))
  all_goals
   exact aV (fR O X.1) (λr5 Y=>DE _ p (λJ' c0=>v _ _ _ _ Y.1 Y.2 c0))
theorem Ia{b:List Int}{m:Int}(hb:b.length<=1048576)(a:0<=m):Dr (lT k (b,m,())) (λr=>0<=r.1/\r.1<=1048576/\(r.1<=m\/m<0)):=by
 simp only[lT]
 have d:Int.tdiv (b.length:Int) 12=((b.length/12:Nat):Int):=by
  rw[Int.tdiv_eq_ediv_of_nonneg (by omega)];rfl
 rw[d,wrap64 (n:=((b.length/12:Nat):Int)) (by omega) (by omega),wrap64 (by omega) (by omega)];refine ff (by decide) (bD (λh=> ?_) (λh=> ?_));have h:m<3+((b.length/12:Nat):Int):=by simpa using h
 exact bB ⟨a,by dsimp only;omega,.inl (g_ _)⟩;have h:¬m<3+((b.length/12:Nat):Int):=by simpa using h
 exact bB ⟨by dsimp only;omega,by dsimp only;omega,.inl (by dsimp only;omega)⟩
end
end Vg.Tryz
