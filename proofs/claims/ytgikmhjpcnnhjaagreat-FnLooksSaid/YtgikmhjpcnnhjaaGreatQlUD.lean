/- Texts of this law, joined. -/
import Derived.Test.YtgikmhjpcnnhjaaGreatQlSA
import Derived.Test.YtgikmhjpcnnhjaaGreatQlPT
import Derived.Test.YtgikmhjpcnnhjaaGreatQlRC
import Derived.Test.YtgikmhjpcnnhjaaGreatRows
import Derived.Test.YtgikmhjpcnnhjaaGreatZc
set_option linter.unusedSimpArgs false
set_option linter.unusedVariables false
set_option linter.unusedSectionVars false
set_option linter.defProp false
open Option renaming bind_some -> l7,bind -> aw0
open Int renaming toNat_natCast -> awV
open Bool renaming false_eq_true -> J9,and_eq_true -> Y_,not_true -> Y',not_false -> aw6,true_and -> aw7
open List renaming length_set -> awZ,set_eq_of_length_le -> aw1,length -> aw3,mem_append_right -> aw4,length_singleton -> aw5,mem_cons_self -> aw8,replicate -> axa
open Nat renaming le_add_right -> aw2,le_refl -> aw9
namespace Vg.Tryz
open Go Vg
def ND(hi:List ay)(gs:List ar):Prop:=
 ∀pre d post,hi=pre++d::post->d.1=7->¬qC d=3->(∃e∈post,adJ e (nOf d) d.2.2.1)\/acJ gs (nOf d) d.2.2.1
structure Yc(w:af):Prop where
 opg:qg (bS w)
 cnt:(jb (bS w)).foldl (ab7 w.1.2.1) (some 0)=some (bL (kR w):Int)
 nd:ND (jb (bS w)) (lg w)
def ai9{hi news:List ay}{gs a:List ar}(h:ND hi gs)(g:P2 gs a news):ND (hi++news) a:=by
 intro pre d post e h7 f;rcases List.append_eq_append_iff.1 e with⟨m,p,b⟩|⟨m,p,b⟩;have j:d∈news:=by rw[b];exact aw4 _ (aw8 ..)
 exact .inr (g.2 d j h7 f);cases m with
 |nil=>
  have j:d∈news:=by
   have q:news=d::post:=by simpa using b.symm
   rw[q];exact aw8 ..
  exact .inr (g.2 d j h7 f)
 |cons x m=>
  rw[List.cons_append]at b;obtain⟨rfl,rfl⟩:=List.cons.inj b;rcases h pre d m p h7 f with⟨x,l,n⟩|o;exact .inl ⟨x,List.mem_append_left _ l,n⟩;rcases g.1 _ _ o with o|⟨x,l,n⟩;exact .inr o;exact .inl ⟨x,aw4 _ l,n⟩
def vN(r:Bool×af):(bX r).2.1=r.2.1:=by
 unfold bX;split<;>rfl
def aij{k:Nat}{w:af}{i:Nat}:(gx true k w i).2.1=w.1:=by
 obtain⟨c,ti,M,st,V,T,gr,D,nn,Q,Z,U,A,E⟩:=w;unfold gx;split
 ·unfold kI;rw[vN];unfold wP ey;dsimp only
  repeat' split
  all_goals rfl
 split
 ·unfold eu;rw[vN];unfold vK lu fZ ey;dsimp only
  repeat' split
  all_goals rfl
 split
 ·unfold iR;rw[vN];unfold xu ey;dsimp only
  repeat' split
  all_goals rfl
 split
 ·unfold kH;rw[vN];unfold mO kN;dsimp only
  repeat' split
  all_goals rfl
 split
 ·unfold iK;rw[vN];unfold jR kN;dsimp only
  repeat' split
  all_goals rfl
 rfl
def aie{k:Nat}{w:af}{e:dn}:(wm k w e).2.1=w.1:=by
 unfold wm;split;split;dsimp only;split<;>rfl;rfl;split;split<;>rfl;split;split<;>rfl;split;split<;>rfl;split;split;exact aij;rfl;split;split<;>rfl;split;split<;>rfl;rfl
def ajX{k:Nat}{w:af}{e:dn}{n:Nat}(h:bC k w=true)(d:Cy n w)(hn:n<=160)(f:(wm k w e).1=true)(hi:Yc w):Yc (wm k w e).2:=by
 have g:0<=w.2.1:=by
  obtain⟨c,ti,M,st,V,T,gr,D,nn,Q,Z,U,A,E⟩:=w;exact(cw.1 h).ti0
 obtain⟨news,a,j,l⟩:=aih h (λp b=>by have:=d.ver p b;omega) f;refine⟨aj6 g hi.opg,?_,?_⟩;rw[a,List.foldl_append,aie,hi.cnt];exact j;rw[a];exact ai9 hi.nd l
def aiP{c:bw}(hc:dS c=true):Yc (qD c):=by
 have g:0<=c.1/\c.1<=3/\1<=c.1:=by
  unfold dS bh at hc;simp only[Y_,b_]at hc;omega
 have h:eB c.1=axa c.1.toNat (-1,0,[]):=by
  unfold eB;simp[g]
 have b:bL (eB c.1)=0:=by
  rw[h]
  have:cn (axa c.1.toNat ((-1,0,[]):aq))=[]:=by
   refine List.eq_nil_iff_forall_not_mem.2 λa j=> ?_;obtain⟨p,m,ch,f,_⟩:=TZ.1 j;rw[(List.mem_replicate.1 m).2]at f;exact absurd f (List.not_mem_nil)
  unfold bL;rw[this];rfl
 unfold qD;rw[an hc];refine⟨λd l=>(by cases l),?_,λpre d post e=> ?_⟩;show some (0:Int)=some ((bL (eB c.1):Nat):Int);rw[b];rfl;have e:([]:List ay)=pre++d::post:=e;simp at e
section
variable{k:Nat}(O:9223372036854775808<=k)
include O
set_option maxHeartbeats 8000000 in
def aci{c:aD}{m:Int}{P:af->Prop}(q:∀c,dS c=true->P (qD c))(s:∀w e n,bC k w=true->Cy n w->n<=160->(wm k w e).1=true->P w->P (wm k w e).2)
 (hc:aS c) (hm:m<=1000):Dr (tq k (c,m,())) (λr=>(acO k r.2.2.1/\P r.2.2.1)/\aS r.2.2.2.1):=by
 simp only[tq];refine aV (QD O hc) (λr1 b=> ?_);obtain⟨h,j⟩:=aes O b.2;have hsz:=Tx O h j (by omega);have hcs:=(oz O b.2).1;refine eA (Lc O (by omega)) (eA (uN O (by dsimp only;omega)) ?_);refine DE (λt:aD×af×af×List dn×af×af×Unit=>aS t.1/\acO k t.2.2.2.2.2.1/\P t.2.2.2.2.2.1) (λt f=>bB ⟨f.2,f.1⟩) (λJ o=> ?_);refine aV (aQ O b.1) (λr6 h6=> ?_)
 refine y6 (λt:aD×af×af×List dn×af×af×Int×Unit=>t.2.2.2.2.2.2.1.toNat)
  (λt=>aS t.1/\bC k t.2.2.2.2.2.1=true/\P t.2.2.2.2.2.1/\Cy t.2.2.2.1.length t.2.2.2.2.2.1/\t.2.2.2.1.length<=160/\t.2.2.2.2.2.2.1<=2000/\-1<=t.2.2.2.2.2.2.1) ?_ ⟨h6.1,h,q _ b.2,j,by simp,?_,?_⟩ ?_
 rintro G ⟨c8,w1,w2,l,w3,w,i,u⟩ ⟨q1,q2,q0,q3,q4,q5,q6⟩ hG;dsimp only at q1 q2 q0 q3 q4 q5 q6 hG|-;refine bD (λa=> ?_) (λ_=>o _ ⟨q1,⟨q2,_,q4,q3⟩,q0⟩)
 have a:0<i/\(l.length:Int)<160:=by
  by_cases d:(0:Int)<i;rw[an (by simpa using d)]at a;exact⟨d,by simpa using a⟩;rw[a_ (by simpa using d)]at a;cases a
 refine aV (adr O q1 q2) (λp h9=>ff (c_ (by simp only[aw5];omega)) ?_);have v:=Tx O q2 q3 q4;refine eA (uN O (by omega)) (eA (Wu O (Nat.le_trans v (by decide)) q2 (by have:=h9.1.1;omega) (by have:=h9.1.2;omega)) ?_);have x:IntKind.i64.wrap (i-1)=i-1:=wrap64 (by omega) (by omega);rw[x];have hlen:(l++[p.1]).length=l.length+1:=by simp
 refine bD (λg=> ?_) (λ_=> ?_);obtain⟨y,z⟩:=ahb O q2 q3 q4 h9.1.1 g;exact hG _ ⟨h9.2,y,s _ _ _ q2 q3 q4 g q0,by dsimp only;rw[hlen];exact z,by dsimp only;rw[hlen];omega,by dsimp only;omega,by dsimp only;omega⟩ (by dsimp only;omega);refine hG _ ⟨h9.2,q2,q0,?_,by dsimp only;rw[hlen];omega,by dsimp only;omega,by dsimp only;omega⟩ (by dsimp only;omega);dsimp only;rw[hlen];exact Ex.stay q3;have:=h6.2;dsimp only;rw[wrap64 (by omega) (by omega)];omega;have:=h6.2;dsimp only;rw[wrap64 (by omega) (by omega)];omega;have:=h6.2;dsimp only;rw[wrap64 (by omega) (by omega)];omega
def WR{c:aD}{m:Int}(hc:aS c)(g:m<=1000):Dr (p9 k (c,m,())) (λr=>(acO k r.1/\Yc r.1)/\aS r.2.1):=by
 simp only[p9];obtain⟨r,e,h⟩:=aci O (P:=Yc) (λc hc=>aiP hc) (λw e n h a b d f=>ajX h a b d f) hc g;rw[e,l7];exact⟨_,rfl,h⟩
end
def uc{d:ay}{M ti code:Int}(h:dh d= -1->kh d=[]):eC false false d M ti code []=eC true false d M ti code []:=by
 unfold eC oQ Ez;simp only[Bool.or_false,J9,if_false,if_true];by_cases e:dh d= -1;rw[an e,an e];have b:=h e;obtain⟨op,task,a,l,i,n,cd,gt,nw,inv,lin,res⟩:=d;unfold kh at b;dsimp only at b;subst b;rfl;rw[a_ e,a_ e]
def acz{s:Bool}{d:ay}{M ti code:Int}{got:List ae}:eC s true d M ti code got=eC true true d M ti code got:=by
 cases s<;>rfl
def ae0(w:af)(i:Nat):ay:=(bS w).getD (bn ((bI w).getD i ah.aa)).toNat aw.aa
def ah8{k:Nat}{w:af}{i:Nat}(h:dh (ae0 w i)= -1->kh (ae0 w i)=[]):gx false k w i=gx true k w i:=by
 obtain⟨c,ti,M,st,V,T,gr,D,nn,Q,Z,U,A,E⟩:=w;have h:dh (E.getD (bn (A.getD i ah.aa)).toNat aw.aa)= -1->kh (E.getD (bn (A.getD i ah.aa)).toNat aw.aa)=[]:=h;unfold gx;dsimp only[bI];by_cases a:(A.getD i ah.aa).1=1;rw[an a,an a];unfold kI wP;dsimp only;rw[uc h];rw[a_ a,a_ a];by_cases b:(A.getD i ah.aa).1=2\/(A.getD i ah.aa).1=3;rw[an b,an b];unfold eu vK lu fZ;dsimp only;rw[uc h,acz (s:=false),acz (s:=false)];rw[a_ b,a_ b];by_cases d:(A.getD i ah.aa).1=4;rw[an d,an d];unfold iR xu;dsimp only;rw[uc h];rw[a_ d,a_ d];by_cases e:i=3;subst e;rw[an rfl,an rfl];unfold kH mO;dsimp only;have f:∀n:Int,dh (wq (E.getD (bn (A.getD 3 ah.aa)).toNat aw.aa) n)= -1->kh (wq (E.getD (bn (A.getD 3 ah.aa)).toNat aw.aa) n)=[]:=λn=>h;rw[uc h,uc (f nn)];cases iA D (keyOf (A.getD 3 ah.aa).2.2.1 c.2.2.2.2.2)with
 |none=>rfl
 |some j=>dsimp only;rw[uc (f _)]
 rw[a_ e,a_ e];by_cases h6:i=4;subst h6;rw[an rfl,an rfl];unfold iK jR;dsimp only;rw[uc h,acz (s:=false)];rw[a_ h6,a_ h6]
section
variable{k:Nat}(O:9223372036854775808<=k)
include O
def B7(w:af)(i:Nat):Int:=((bI w).getD i ah.aa).1
omit O in
theorem ahp{w:af}(h:bC k w=true):(bI w).length=5:=by
 obtain⟨c,ti,M,st,V,T,gr,D,nn,Q,Z,U,A,E⟩:=w;exact(cw.1 h).tl
end
def Gp(A:List aA)(E:List ay):Prop:=
 A.length=5->∀i,i<5->¬(A.getD i ah.aa).1=0->dh (E.getD (bn (A.getD i ah.aa)).toNat aw.aa)= -1->kh (E.getD (bn (A.getD i ah.aa)).toNat aw.aa)=[]
structure Ql(w:af):Prop where
 tt:ag aN w<=1040000
 ti:w.2.1<=1000
 nn:nnW w<=1000
 ver:∀p∈kR w,p.2.1<=1000
 hp:(Pm w).length<=15\/17<=(Pm w).length
 got:Gp (bI w) (bS w)
section
variable{k:Nat}(O:9223372036854775808<=k)
include O
def jg{c:bw}{ti M gr nn:Int}{st:List aq}{V:List bp}{T U:List ae}{D:List ar}{Q:List aI}{Z:List bE}{A:List aA}{E:List ay}
 (h:ag fX c+ag (.sl aj) st+ag (.sl bj) V+ag (.sl ab) T+ag (.sl ak) D+ag (.sl aL) Q+ag (.sl cJ) Z+ag (.sl ab) U+ag (.sl ah) A+ag (.sl aw) E<=1040000)
 (a:ti<=1000) (b:nn<=1000) (d:∀p∈st,p.2.1<=1000) (e:Q.length<=15\/17<=Q.length) (f:Gp A E):Ql (c,ti,M,st,V,T,gr,D,nn,Q,Z,U,A,E):=
 ⟨by rw[cO O];exact h,a,b,d,e,f⟩
set_option maxHeartbeats 4000000 in
def Hk{c:aD}{m:Int}(hc:aS c)(I:m<=1000):Dr (mb k (c,m,())) (λr=>Ql r.1/\aS r.2.1):=by
 simp only[mb];refine aV (WR O hc I) (λF j=>aV (aQ O j.2) (λr2 f=> ?_));obtain⟨⟨⟨z,n,K,B⟩,L⟩,-⟩:=j;have x:=Tx O z B K;obtain⟨w,cc,u⟩:=F;obtain⟨C,ti,M,st,V,T,gr,D,nn,Q,Z,U,A,E⟩:=w;have R:=cw.1 z;have X:Ex n C ti st T D nn Q Z U A E:=B;have v:qg E:=L.opg;rw[cO O]at x;dsimp only at x|-;have hti:=X.ti;have hnn:=X.nn;have b:∀p∈st,p.2.1<=1000:=λp o=>by have:=X.ver p o;omega
 have a:Q.length<=15\/17<=Q.length:=by
  have j:=X.hp;have f:=(dy.1 R.grp.go).1;exact .inl (by omega)
 have d:Gp A E:=λ_ i q _=>v.at_;have hA:ag (.sl ab) ([]:List ae)=0:=bf;have hS:ag (.sl bj) ([]:List bp)=0:=bf;have hD:ag (.sl aw) ([]:List ay)=0:=bf;have l1:=au (e:=bj) (l:=V);have l2:=au (e:=ab) (l:=T);have l3:=au (e:=aw) (l:=E);have l4:=au (e:=ab) (l:=U);refine bD (λ_=>aV (aeJ O f.1) (λr h=>bB ⟨jg O (by have:=h.2;omega) (by omega) (by omega) b a d,h.1⟩)) (λ_=> ?_);refine bD (λ_=>bB ⟨jg O (by omega) (by omega) (by omega) b a d,f.1⟩) (λ_=> ?_);refine bD (λ_=>aV (Mq O f.1) (λr h=>bB ⟨jg O (by omega) (by omega) (by omega) b a d,h⟩)) (λ_=> ?_);refine bD (λ_=>aV (agG O f.1) (λr h=>bB ⟨jg O (by have:=h.2.1;omega) (by omega) (by omega) (λp o=>by have:=h.2.2 p o;omega) a d,h.1⟩)) (λ_=> ?_);refine bD (λ_=>aV (agx O f.1) (λr h=>ff (by simp;omega) (bB ⟨jg O (by have:=h.2;rw[fa (e:=bj),ck (e:=bj)];omega) (by omega) (by omega) b a d,h.1⟩))) (λ_=> ?_);refine bD (λ_=>aV (qy O f.1) (λr h=>ff (by simp;omega) (bB ⟨jg O (by have:=h.2;rw[fa (e:=ab),ck (e:=ab)];omega) (by omega) (by omega) b a d,h.1⟩))) (λ_=> ?_);refine bD (λ_=>aV (aQ O f.1) (λr h=>bB ⟨jg O (by omega) (by omega) (by omega) b a d,h.1⟩)) (λ_=> ?_);refine bD (λ_=>aV (ad7 O f.1 (by have:=(oz O R.cf).1;rw[mr O]at this;have:=au (e:= .str) (l:=C.2.2.2.2.2);omega)) (λr h=>bB ⟨jg O (by have:=h.2;omega) (by omega) (by omega) b a d,h.1⟩)) (λ_=> ?_);refine bD (λ_=>aV (Xx O (-1) 1 f.1 (by decide) (by decide)) (λr h=>bB ⟨jg O (by omega) (by omega) (by have:=h.2;omega) b a d,h.1⟩)) (λ_=> ?_);refine bD (λ_=>aV (adM O f.1) (λr h=>bB ⟨jg O (by have:=h.2;have:=al0 O r.1;omega) (by omega) (by omega) b (by have:=h.2;omega) d,h.1⟩)) (λ_=> ?_);refine bD (λ_=> ?_) (λ_=> ?_);refine aV (aQ O f.1) (λg qX=>aV (aej O qX.1) (λs zM=>ff (c_ ?_) (bB ⟨jg O ?_ (by omega) (by omega) b a (λ_ i q _=>v.at_),zM.1⟩)));have:=qX.2;have:=R.tl;omega;have J:g.1.toNat<A.length:=by have:=qX.2;have:=R.tl;omega
 have:=iT (e:=ah) A g.1.toNat s.1 J;have:=zM.2;omega;refine bD (λ_=> ?_) (λ_=> ?_);refine aV (afb O f.1) (λr14 Ou=>ff (by simp;omega) (bB ⟨jg O (by have:=Ou.2;rw[fa (e:=aw),ck (e:=aw)];omega) (by omega) (by omega) b a ?_,Ou.1⟩));intro _ i q G;have hb:=AD (R.tas i q) G;rw[lv _ (by omega)];exact v.at_;refine bD (λ_=> ?_) (λ_=> ?_);have y:Int.toNat 4=4:=rfl;have ht:=dH (e:=ah) A 4;refine ff (c_ ⟨by decide,by have:=R.tl;omega⟩) (bB ⟨jg O (by rw[y];omega) (by omega) (by omega) b a ?_,f.1⟩);intro H;rw[List.length_take,y]at H;omega;refine bD (λ_=>aV (qy O f.1) (λr h=>ff (by simp;omega) (bB ⟨jg O (by have:=h.2;rw[fa (e:=ab),ck (e:=ab)];omega) (by omega) (by omega) b a d,h.1⟩))) (λ_=> ?_);exact bB ⟨jg O (by omega) (by omega) (by omega) b a d,f.1⟩
def ac3{c:aD}{w:af}{l:List Int}(hc:aS c)(q:l.length<=10):Dr (sn k (c,w,l,())) (λr=>aS r.2.1):=by
 simp only[sn];refine aV (aQ O hc) (λr1 d=>DE (λt:aD×af×Int×Unit=>aS t.1) (λt o=> ?_) (λJ p=> ?_));exact aV (dF O o (by simp)) (λr h=>bB h)
 refine y6 (λt:aD×List Int×af×Int×Int×Unit=>(5-t.2.2.2.2.1).toNat) (λt=>aS t.1/\t.2.1=l/\t.2.2.1=w/\0<=t.2.2.2.1/\t.2.2.2.1<5/\0<=t.2.2.2.2.1/\t.2.2.2.2.1<=5) ?_
  ⟨d.1,rfl,rfl,d.2.1,by have:=d.2;dsimp only;omega,Int.le_refl _,by show(0:Int)<=5;decide⟩ (by dsimp only;omega)
 rintro G ⟨c1,l1,w1,i,n,u⟩ ⟨q1,q2,q3,q4,q5,q6,q7⟩ hG;dsimp only at q1 q2 q3 q4 q5 q6 q7 hG|-;subst q2 q3;refine bD (λa=>ff ?_ ?_) (λ_=>p _ q1);by_cases j:i<((aw3 w1.2.2.2.2.2.2.2.2.2.2.2.2.1:Nat):Int);have e:decide (0<=i/\i<((aw3 w1.2.2.2.2.2.2.2.2.2.2.2.2.1:Nat):Int))=true:=c_ ⟨q4,j⟩;rw[e,Bool.or_true];rw[decide_eq_false j];rfl;have a:n<5:=by simpa using a
 have f:IntKind.i64.wrap (i+1)=i+1:=wrap64 (by omega) (by omega);have g:IntKind.i64.wrap (n+1)=n+1:=wrap64 (by omega) (by omega)
 have m:0<=Int.tmod (i+1) 5/\Int.tmod (i+1) 5<5:=by
  rw[Int.tmod_eq_emod_of_nonneg (by omega)];omega
 have s:∀b:Bool,Dr (if b=true then lX k (l1,(List.getD w1.2.2.2.2.2.2.2.2.2.2.2.2.1 (Int.toNat i) ah.aa).1,())else some (false,())) (λ_=>True):=λb=>bD (λ_=>⟨_,Cg O q,trivial⟩) (λ_=>⟨_,rfl,trivial⟩);refine aV (P:=λ_=>True) (s _) (λr6 _=>bD (λ_=>bB q1) (λ_=>ff (by decide) ?_));rw[f,g];exact hG _ ⟨q1,rfl,rfl,m.1,m.2,by dsimp only;omega,by dsimp only;omega⟩ (by dsimp only;omega)
def Qx{b:List Int}(d:b.length<=1048576):Dr (lM k (b,())) (λr=>Ql r.1):=by
 simp only[lM];exact aV (LB O d) (λr1 e=>aV (Ia O (m:=70) d (by decide)) (λr2 h2=>aV (Hk O e (by omega)) (λr3 a=>aV (ac3 O a.2 (by decide)) (λr4 h4=>bB a.1))))
def ZW{b:List Int}(d:b.length<=1048576):Dr (qj k (b,())) (λr=>Ql r.1/\ag (.sl al) r.2.2.1<=220):=by
 simp only[qj];exact aV (LB O d) (λr1 e=>aV (Ia O (m:=50) d (by decide)) (λr2 h2=>aV (Hk O e (by omega)) (λr3 a=>aV (aQ O a.2) (λr4 f=>aV (Er O f.1) (λr5 g=>bB ⟨a.1,g.2⟩)))))
def ZN{b:List Int}(d:b.length<=1048576):Dr (qh k (b,())) (λr=>Ql r.1):=by
 simp only[qh];exact aV (LB O d) (λr1 e=>aV (Ia O (m:=50) d (by decide)) (λr2 h2=>aV (Hk O e (by omega)) (λr3 a=>aV (aQ O a.2) (λr4 h4=>bB a.1))))
theorem QK{l:List ByteArray}(hl:l.length<=1048576):oC k (l,l,())=some (true,()):=by
 simp only[oC];rw[a_ (by simp)];refine(bV (λi:Nat=>(l,l,(l.length:Int),(i:Int),())) l.length (e:=some (true,())) (λG i a=> ?_) (λG=> ?_) k 0 (by omega) (by omega));simp only[aG,ax a,a,decide_true,if_true,awV];rw[aY (by omega)];simp;simp
def Wx{c:bw}(h:ag fX c<=1048576):pS k (c,c,())=some (true,()):=by
 rw[oP O]at h;have hl:=au (e:= .str) (l:=c.2.2.2.2.2);simp only[pS,beq_self_eq_true,if_true,QK O (show c.2.2.2.2.2.length<=1048576 by omega),l7]
def SO{c:aR}(h:ag az c<=1048576):oT k (c,c,())=some (true,()):=by
 rw[dj O]at h;simp only[oT,beq_self_eq_true,if_true,gn O h,l7,decide_true]
def Ww{p:aq}(h:ag aj p<=1048576):qp k (p,p,())=some (true,()):=by
 have b:=h;rw[cM O]at b;have hl:=au (e:=az) (l:=p.2.2);simp only[qp];rw[a_ (by simp)];refine(bV (λi:Nat=>(p,p,(p.2.2.length:Int),(i:Int),())) p.2.2.length (e:=some (true,())) (λG i a=> ?_) (λG=> ?_) k 0 (by omega) (by omega));simp only[aG,ax a,a,decide_true,if_true,awV];rw[aY (by omega),SO O (jj O h a).1,l7];simp;simp
def DM{l:List aq}(h:ag (.sl aj) l<=1048576):lJ k (l,l,())=some (true,()):=by
 have hl:=au (e:=aj) (l:=l);simp only[lJ];rw[a_ (by simp)];refine(bV (λi:Nat=>(l,l,(i:Int),())) l.length (e:=some (true,())) (λG i a=> ?_) (λG=> ?_) k 0 (by omega) (by omega));simp only[aG,ax a,a,decide_true,if_true,awV];rw[aY (by omega),Ww O (lp O h a),l7];simp;simp
def XR{s:bp}(h:ag bj s<=1048576):rM k (s,s,())=some (true,()):=by
 rw[gO O]at h;simp only[rM,beq_self_eq_true,if_true,gn O h,l7,decide_true]
def Vr{l:List bp}(h:ag (.sl bj) l<=1048576):qi k (l,l,())=some (true,()):=by
 have hl:=au (e:=bj) (l:=l);simp only[qi];rw[a_ (by simp)];refine(bV (λi:Nat=>(l,l,(i:Int),())) l.length (e:=some (true,())) (λG i a=> ?_) (λG=> ?_) k 0 (by omega) (by omega));simp only[aG,ax a,a,decide_true,if_true,awV];have:=dQ (e:=bj) (l:=l) (i:=i) (d:=bj.aa) a;rw[aY (by omega),XR O (s:=l.getD i bj.aa) (by omega),l7];simp;simp
theorem V6{l:List aI}(h:ag (.sl aL) l<=1048576):qc k (l,l,())=some (true,()):=by
 have hl:=au (e:=aL) (l:=l);have b:∀t:aI,eqv aL t t=true:=λt=>(wM rfl).2 rfl;simp only[qc];rw[a_ (by simp)];refine(bV (λi:Nat=>(l,l,(i:Int),())) l.length (e:=some (true,())) (λG i a=> ?_) (λG=> ?_) k 0 (by omega) (by omega));simp only[aG,ax a,a,decide_true,if_true,awV,b];rw[aY (by omega)];simp;simp
def V4{l:List bE}(h:ag (.sl cJ) l<=1048576):qq k (l,l,())=some (true,()):=by
 have hl:=au (e:=cJ) (l:=l);simp only[qq];rw[a_ (by simp)];refine(bV (λi:Nat=>(l,l,(i:Int),())) l.length (e:=some (true,())) (λG i a=> ?_) (λG=> ?_) k 0 (by omega) (by omega));simp only[aG,ax a,a,decide_true,if_true,awV];have:=dQ (e:=cJ) (l:=l) (i:=i) (d:=cJ.aa) a;rw[aY (by omega),JV O (g:=l.getD i cJ.aa) (by omega),l7];simp;simp
theorem UU{l:List Int}(hl:l.length<=1048576):ml k (l,l,())=some (true,()):=by
 simp only[ml];rw[a_ (by simp)];refine(bV (λi:Nat=>(l,l,(i:Int),())) l.length (e:=some (true,())) (λG i a=> ?_) (λG=> ?_) k 0 (by omega) (by omega));simp only[aG,ax a,a,decide_true,if_true,awV];rw[aY (by omega)];simp;simp
def VS{d:ay}(h:ag aw d<=1048576):pY k (d,d,())=some (true,()):=by
 rw[cD O]at h;have a:cR k (d.2.2.1,d.2.2.1,())=some (true,()):=by rw[fS O (jX O (by omega))];simp
 have b:cT k (d.2.2.2.1,d.2.2.2.1,())=some (true,()):=by
  have:=au (e:=al) (l:=d.2.2.2.1);rw[eN O (by omega)];simp
 have f:dT k (d.2.2.2.2.2.2.2.1,d.2.2.2.2.2.2.2.1,())=some (true,()):=by rw[gn O (by omega)];simp
 simp only[pY,beq_self_eq_true,if_true,a,b,f,l7]
def TF{l:List ay}(h:ag (.sl aw) l<=1048576):ou k (l,l,())=some (true,()):=by
 have hl:=au (e:=aw) (l:=l);simp only[ou];rw[a_ (by simp)];refine(bV (λi:Nat=>(l,l,(i:Int),())) l.length (e:=some (true,())) (λG i a=> ?_) (λG=> ?_) k 0 (by omega) (by omega));simp only[aG,ax a,a,decide_true,if_true,awV];have:=dQ (e:=aw) (l:=l) (i:=i) (d:=aw.aa) a;rw[aY (by omega),VS O (d:=l.getD i aw.aa) (by omega),l7];simp;simp
def R7{l:List aA}(h:ag (.sl ah) l<=1048576):oJ k (l,l,())=some (true,()):=by
 have hl:=au (e:=ah) (l:=l);simp only[oJ];rw[a_ (by simp)];refine(bV (λi:Nat=>(l,l,(i:Int),())) l.length (e:=some (true,())) (λG i a=> ?_) (λG=> ?_) k 0 (by omega) (by omega));simp only[aG,ax a,a,decide_true,if_true,awV];have b:=dQ (e:=ah) (l:=l) (i:=i) (d:=ah.aa) a;generalize hd:List.getD l i ah.aa=d at b|-;rw[bq O]at b;have f:cR k (d.2.2.1,d.2.2.1,())=some (true,()):=by rw[fS O (jX O (by omega))];simp
 have g:cT k (d.2.2.2.1,d.2.2.2.1,())=some (true,()):=by
  have:=au (e:=al) (l:=d.2.2.2.1);rw[eN O (by omega)];simp
 have j:ml k (d.2.2.2.2.2.1,d.2.2.2.2.2.1,())=some (true,()):=UU O (by rw[vl O]at b;omega);have m:fV k (d.2.2.2.2.2.2.1,d.2.2.2.2.2.2.1,())=some (true,()):=xj O (by omega);rw[aY (by omega)];simp only[bne_self_eq_false,J9,if_false,f,g,j,m,l7,Y',beq_self_eq_true,if_true];simp
def rZ{w:af}(h:ag aN w<=1048576):ik k (w,w,())=some (true,()):=by
 rw[cO O]at h
 simp only[ik,beq_self_eq_true,if_true,Wx O (c:=w.1) (by omega),DM O (l:=w.2.2.2.1) (by omega),Vr O (l:=w.2.2.2.2.1) (by omega),xj O (l:=w.2.2.2.2.2.1) (by omega),
  Wi O (l:=w.2.2.2.2.2.2.2.1) (by omega),V6 O (l:=w.2.2.2.2.2.2.2.2.2.1) (by omega),V4 O (l:=w.2.2.2.2.2.2.2.2.2.2.1) (by omega),xj O (l:=w.2.2.2.2.2.2.2.2.2.2.2.1) (by omega),
  R7 O (l:=w.2.2.2.2.2.2.2.2.2.2.2.2.1) (by omega),TF O (l:=w.2.2.2.2.2.2.2.2.2.2.2.2.2) (by omega),l7]
def ae4{w:af}{i:Int}{t:aA}{op:Int}(hi:i.toNat<(bI w).length):ag aN (gE w i t op)<=ag aN w+ag ah t+(ag ab t.2.2.1+ag (.sl al) t.2.2.2.1+1):=by
 refine abV O ?_ ?_;have h1:=iT (e:=ah) (bI w) i.toNat (vj t (bS w).length) hi;have h2:ag ah (vj t (bS w).length)=ag ah t:=by rw[bq O,bq O];rfl
 omega;refine uB O ?_;have e:ag aw (opened w i op t.2.2.1 t.2.2.2.1 t.2.2.2.2.2.2.2.1)=ag ab t.2.2.1+ag (.sl al) t.2.2.2.1+ag (.sl ab) ([]:List ae):=cD O _;rw[e,bf];omega
end
section
variable{k:Nat}(O:9223372036854775808<=k)
include O
variable{c:bw}{ti M gr nn:Int}{st:List aq}{V:List bp}{T U:List ae}{D:List ar}{Q:List aI}{Z:List bE}{A:List aA}{E:List ay}{i:Nat}{t:aA}
def Qr(hs:ag aN (c,ti,M,st,V,T,gr,D,nn,Q,Z,U,A,E)<=1048576)(h:Rt k c ti M st V T gr D nn Q U A E)(hi:i<5)(g:A.getD i ah.aa=t)(b:t.1=2\/t.1=3):
 fm k ((c,ti,M,st,V,T,gr,D,nn,Q,Z,U,A,E),(i:Int),())=
  some ((eu false k (c,ti,M,st,V,T,gr,D,nn,Q,Z,U,A,E) i).1,(eu false k (c,ti,M,st,V,T,gr,D,nn,Q,Z,U,A,E) i).2,()):=by
 obtain⟨w,x,hb,hd,hv1,hw⟩:=dU h (by omega) g (by omega);have hlen:=h.sto.len;rcases b with b|b;obtain⟨⟨q1,q2,q3,q4,q5,m,y,z,B,n,d⟩,o,p,q,f,r,u⟩:=(kP b).1 w
 have l:bn t=((bn t).toNat:Int):=by
  have:0<=bn t:=q3;omega
 obtain⟨C,F⟩:=jA (k:=k) (s:=t.2.2.2.1) (iJ h.sto.ok);exact yX O (j:=(bO k st t.2.2.2.1).toNat) hs (by rw[h.tl];omega) g (.inl b) (λ_=>C) (by rw[an b];exact F.symm) (by omega) x l rfl (by omega) f m (by omega) d;obtain⟨⟨q1,q2,q3,q4,q5,m,y,z,B,n,d⟩,o,p,q,f,r,u,a⟩:=(fh b).1 w
 have l:bn t=((bn t).toNat:Int):=by
  have:0<=bn t:=q3;omega
 have v:0<=t.2.2.2.2.1/\(¬t.2.1=2->t.2.2.2.2.1<c.1)/\(t.2.1=2->t.2.2.2.2.1=c.1):=by
  split at a;exact⟨by omega,λe=>by omega,λ_=>a.2.2⟩;exact⟨a.1,λ_=>a.2.2,λe=>by omega⟩
 exact yX O (j:=t.2.2.2.2.1.toNat) hs (by rw[h.tl];omega) g (.inr b) (λe=>by have:=v.2.1 (by omega);omega) (by rw[a_ (by omega)];omega) (λ_ e=>by have:=v.2.2 e;omega) x l rfl (by omega) f m (λ_=>y) d
def Ox(hs:ag aN (c,ti,M,st,V,T,gr,D,nn,Q,Z,U,A,E)<=1048576)(h:Rt k c ti M st V T gr D nn Q U A E)(hi:i<5)(d:A.getD i ah.aa=t)(b:t.1=2\/t.1=3):
 jv k ((c,ti,M,st,V,T,gr,D,nn,Q,Z,U,A,E),(i:Int),())=
  some ((eu true k (c,ti,M,st,V,T,gr,D,nn,Q,Z,U,A,E) i).1,(eu true k (c,ti,M,st,V,T,gr,D,nn,Q,Z,U,A,E) i).2,()):=by
 obtain⟨v,w,hb,hd,hv1,hw⟩:=dU h (by omega) d (by omega);have hlen:=h.sto.len;rcases b with b|b;obtain⟨⟨q1,q2,q3,q4,q5,x,y,z,B,g,l⟩,m,n,o,p,q,r⟩:=(kP b).1 v
 have f:bn t=((bn t).toNat:Int):=by
  have:0<=bn t:=q3;omega
 obtain⟨C,F⟩:=jA (k:=k) (s:=t.2.2.2.1) (iJ h.sto.ok);exact pZ O (j:=(bO k st t.2.2.2.1).toNat) hs (by rw[h.tl];omega) d (.inl b) (λ_=>C) (by rw[an b];exact F.symm) (by omega) w f rfl (by omega);obtain⟨⟨q1,q2,q3,q4,q5,x,y,z,B,g,l⟩,m,n,o,p,q,r,a⟩:=(fh b).1 v
 have f:bn t=((bn t).toNat:Int):=by
  have:0<=bn t:=q3;omega
 have u:0<=t.2.2.2.2.1/\(¬t.2.1=2->t.2.2.2.2.1<c.1)/\(t.2.1=2->t.2.2.2.2.1=c.1):=by
  split at a;exact⟨by omega,λe=>by omega,λ_=>a.2.2⟩;exact⟨a.1,λ_=>a.2.2,λe=>by omega⟩
 exact pZ O (j:=t.2.2.2.2.1.toNat) hs (by rw[h.tl];omega) d (.inr b) (λe=>by have:=u.2.1 (by omega);omega) (by rw[a_ (by omega)];omega) (λ_ e=>by have:=u.2.2 e;omega) w f rfl (by omega)
end
def kM(s:Bool)(k:Nat)(w:af)(i:Int)(p:Int->Bool):af×Bool:=
 if(bC k w&&(bh i 0 2&&p ((bI w).getD i.toNat ah.aa).1))=true then(if(gx s k w i.toNat).1=true then((gx s k w i.toNat).2,true)else(w,false))else(w,false)
def iu(op:Int):Bool:=decide (op=2)||decide (op=3)
def qv{s:Bool}{k:Nat}{w:af}{i:Int}{p:Int->Bool}(h:¬(bC k w&&(bh i 0 2&&p ((bI w).getD i.toNat ah.aa).1))=true):kM s k w i p=(w,false):=a_ h
section
variable{k:Nat}(O:9223372036854775808<=k)
include O
def Ln{w:af}{i:Int}(hs:ag aN w<=1048576):qa k (w,i,())=some ((kM true k w i iu).1,(kM true k w i iu).2,()):=by
 simp only[qa];rw[uN O (by omega),l7,wa O hs,l7];cases f:bC k w with
 |false=>
  rw[qv (by rw[f];simp)];rfl
 |true=>
  dsimp only;rw[an (by rfl),gB O,l7];cases d:bh i 0 2 with
  |false=>
   rw[qv (by rw[d];simp)];rfl
  |true=>
   have hi:0<=i/\i<=2:=by unfold bh at d;simpa using d
   obtain⟨j,rfl⟩:∃j:Nat,i=(j:Int):=⟨i.toNat,by omega⟩
   have hj:j<3:=by omega
   have h:kM true k w (j:Int) iu=if iu ((bI w).getD j ah.aa).1=true then(if(gx true k w j).1=true then((gx true k w j).2,true)else(w,false))else(w,false):=by
    unfold kM;rw[f,d,awV,aw7,aw7]
   rw[h];obtain⟨c,ti,M,st,V,T,gr,D,nn,Q,Z,U,A,E⟩:=w;have R:=cw.1 f;have l:decide (0<=((j:Nat):Int)/\((j:Nat):Int)<((A.length:Nat):Int))=true:=c_ (by have:=R.tl;omega);dsimp only;simp only[l,Bool.or_true,if_true,awV];by_cases a:(A.getD j ah.aa).1=2\/(A.getD j ah.aa).1=3
   have m:gx true k (c,ti,M,st,V,T,gr,D,nn,Q,Z,U,A,E) j=eu true k (c,ti,M,st,V,T,gr,D,nn,Q,Z,U,A,E) j:=by
    unfold gx;dsimp only[bI];rw[a_ (by omega),an a]
   have b:(if((A.getD j ah.aa).1 != (2:Int))=true then(A.getD j ah.aa).1 != (3:Int)else false)=false:=by
    rcases a with a|a<;>rw[a]<;>rfl
   have g:iu (((bI (c,ti,M,st,V,T,gr,D,nn,Q,Z,U,A,E)).getD j ah.aa).1)=true:=by
    show(decide ((A.getD j ah.aa).1=2)||decide ((A.getD j ah.aa).1=3))=true;simpa using a
   rw[g,an rfl,m];simp only[b,Y',J9,if_false,if_true,show((false:Bool)==false)=true from rfl,Ox O hs R (show j<5 by omega) rfl a,l7];cases hx:(eu true k (c,ti,M,st,V,T,gr,D,nn,Q,Z,U,A,E) j).1;simp only[aw6,if_true,J9,if_false];simp only[Y',J9,if_false,if_true]
   have b:(if((A.getD j ah.aa).1 != (2:Int))=true then(A.getD j ah.aa).1 != (3:Int)else false)=true:=by
    have d:¬(A.getD j ah.aa).1=2:=λe=>a (.inl e);have n:¬(A.getD j ah.aa).1=3:=λe=>a (.inr e);rw[an (by simpa[bne_iff_ne]using d)];simpa[bne_iff_ne]using n
   have g:iu (((bI (c,ti,M,st,V,T,gr,D,nn,Q,Z,U,A,E)).getD j ah.aa).1)=false:=by
    show(decide ((A.getD j ah.aa).1=2)||decide ((A.getD j ah.aa).1=3))=false;simpa using a
   rw[g,a_ (show¬(false=true) by decide)];simp only[b,Y',J9,if_false,if_true,show((true:Bool)==false)=false from rfl,aw6,l7]
def afz{w:af}{i:Int}{p:Int->Bool}{F:af×Int×Unit->Option (Bool×af×Unit)}(hs:ag aN w<=1048576)
 (e:∀j:Nat,j<5->bC k w=true->p ((bI w).getD j ah.aa).1=true->j<3)
 (q:∀j:Nat,j<5->bC k w=true->F (w,(j:Int),())=if p ((bI w).getD j ah.aa).1=true then some ((gx false k w j).1,(gx false k w j).2,())else some (false,w,())):
 (aw0 (cZ k (w,())) λg=>
  aw0 (fO k (w,())) λr2=>
  aw0 ((if(((!r2.1):Bool)==false)=true then cq k (i,(0:Int),(4:Int),())else some (false,()))) λr3=>
  if(((if(!r2.1)=true then true else !r3.1):Bool)==false)=true then
   aw0 (F (g.1,i,())) λm=>
   if(if(if(!r2.1)=true then true else !r3.1)=true then true else !m.1)=true then
    aw0 (cZ k (w,())) λn=>
    some (n.1,false,())
   else
    some (m.2.1,true,())
  else
   if(if(if(!r2.1)=true then true else !r3.1)=true then true else !false)=true then
    aw0 (cZ k (w,())) λo=>
    some (o.1,false,())
   else
    some (g.1,true,()))=some ((kM false k w i p).1,(kM false k w i p).2,()):=by
 rw[zB O (by omega),l7,ko O hs,l7];cases b:bC k w with
 |false=>
  rw[qv (by rw[b];simp)];rfl
 |true=>
  dsimp only;rw[an (by rfl),gY O,l7];cases d:bh i 0 4 with
  |false=>
   have f:bh i 0 2=false:=by
    rw[Bool.eq_false_iff]at d|-;intro h;apply d;unfold bh at h|-;simp only[Y_,b_]at h|-;omega
   rw[qv (by rw[f];simp)];rfl
  |true=>
   have hi:0<=i/\i<=4:=by unfold bh at d;simpa using d
   obtain⟨j,rfl⟩:∃j:Nat,i=(j:Int):=⟨i.toNat,by omega⟩
   have l:j<5:=by omega
   simp only[Y',J9,if_false,show((false:Bool)==false)=true from rfl,if_true,q j l b];by_cases a:p ((bI w).getD j ah.aa).1=true;have hj3:=e j l b a;have f:bh (j:Int) 0 2=true:=by unfold bh;simp;omega
   have r:kM false k w (j:Int) p=if(gx false k w j).1=true then((gx false k w j).2,true)else(w,false):=by
    unfold kM;rw[b,f,awV,a];rfl
   rw[r,an a,l7];dsimp only;cases (gx false k w j).1;simp only[aw6,if_true,J9,if_false,l7];simp only[Y',J9,if_false,if_true]
   rw[qv (by
    rw[awV];intro h;simp only[Y_]at h;exact a h.2.2),a_ a,l7]
   rfl
omit O in
theorem agn{w:af}{j:Nat}(a:j<5)(h:bC k w=true)(b:1<=((bI w).getD j ah.aa).1)(d:((bI w).getD j ah.aa).1<=4):j<3:=by
 obtain⟨c,ti,M,st,V,T,gr,D,nn,Q,Z,U,A,E⟩:=w;have R:=cw.1 h;have:=jN (k:=k) (w:=(c,ti,M,st,V,T,gr,D,nn,Q,Z,U,A,E)) (R.tas j a);dsimp only[bI]at b d;omega
def MG{w:af}{i:Int}(hs:ag aN w<=1048576):pP k (w,i,())=some ((kM false k w i iu).1,(kM false k w i iu).2,()):=by
 simp only[pP];refine afz O (F:=fm k) hs (λj b h d=> ?_) (λj b h=> ?_);unfold iu at d;simp only[Bool.or_eq_true,b_]at d;exact agn b h (by omega) (by omega);obtain⟨c,ti,M,st,V,T,gr,D,nn,Q,Z,U,A,E⟩:=w;have R:=cw.1 h;by_cases a:(A.getD j ah.aa).1=2\/(A.getD j ah.aa).1=3;rw[an (show iu (A.getD j ah.aa).1=true by unfold iu;simpa using a),Qr O hs R b rfl a]
 have f:gx false k (c,ti,M,st,V,T,gr,D,nn,Q,Z,U,A,E) j=eu false k (c,ti,M,st,V,T,gr,D,nn,Q,Z,U,A,E) j:=by
  unfold gx;dsimp only[bI];rw[a_ (by omega),an a]
 rw[f];have g:¬(A.getD j ah.aa).1=2:=λe=>a (.inl e);have l:¬(A.getD j ah.aa).1=3:=λe=>a (.inr e);rw[a_ (show¬iu (A.getD j ah.aa).1=true by unfold iu;simpa using a)];simp only[fm,aO,awV];rw[an (ax (by rw[R.tl];exact b)),a_ (by simpa using g),a_ (by simpa using l)];rfl
def afa(r:Bool×af):ag aN (bX r).2=ag aN r.2:=by
 unfold bX;split;rw[cO O,cO O];rfl
def YD{st:List aq}{j:Nat}{x:Int}:ag (.sl aj) (cG st j x)<=ag (.sl aj) st:=by
 unfold cG;by_cases a:j<st.length;have h1:=iT (e:=aj) st j (x,(st.getD j aj.aa).2) a;have h2:ag aj ((x,(st.getD j aj.aa).2):aq)=ag aj (st.getD j aj.aa):=by rw[cM O,cM O]
 have h3:ag aj (st.getD j (Ty.aa aj))=ag aj (st.getD j aj.aa):=rfl;omega;rw[aw1 (by omega)];exact aw9 _
theorem EX{A:List aA}{i B:Nat}{t':aA}(h:ag ah t'<=ag ah (A.getD i ah.aa)+B):ag (.sl ah) (A.set i t')<=ag (.sl ah) A+B:=by
 by_cases a:i<A.length;have h1:=iT (e:=ah) A i t' a;have h3:ag ah (A.getD i (Ty.aa ah))=ag ah (A.getD i ah.aa):=rfl;omega;rw[aw1 (by omega)];omega
def aiN:ag ah zT=0:=by
 have e:ag ah zT=ag ab c9+ag (.sl al) ([]:List ai)+ag (.sl (.int .i64)) ([]:List Int)+ag (.sl ab) ([]:List ae):=bq O _;rw[e,bf,bf,bf,iF O]
variable{c:bw}{ti M gr nn:Int}{st:List aq}{V:List bp}{T U:List ae}{D:List ar}{Q:List aI}{Z:List bE}{A:List aA}{E:List ay}{i:Nat}{t:aA}
def aer{j:Nat}:ag aN (ey (c,ti,M,st,V,T,gr,D,nn,Q,Z,U,A,E) i j).2<=ag aN (c,ti,M,st,V,T,gr,D,nn,Q,Z,U,A,E):=by
 unfold ey;dsimp only;split;rw[cO O,cO O];dsimp only;have h1:=YD O (st:=st) (j:=j) (x:=(i:Int));have h2:=EX O (A:=A) (i:=i) (B:=0) (t':=((A.getD i ah.aa).1,1,(A.getD i ah.aa).2.2)) (by rw[bq O,bq O];exact aw9 _);omega;exact aw9 _
def Ut{s:List ai}(h:Rt k c ti M st V T gr D nn Q U A E)(a:(bQ k st s).2=true):ag ab (bQ k st s).1<=96:=
 mQ O (gZ (h.sto.fit _ (BN a).2))
end
def KE{k:Nat}{w:af}{i:Int}{p:Int->Bool}:kM true k w i p=(w,false)\/
 ∃j:Nat,i=(j:Int)/\j<3/\bC k w=true/\p (B7 w j)=true/\(gx true k w j).1=true/\kM true k w i p=((gx true k w j).2,true):=by
 by_cases h:(bC k w&&(bh i 0 2&&p ((bI w).getD i.toNat ah.aa).1))=true;by_cases b:(gx true k w i.toNat).1=true;have a:=h;simp only[Y_]at a;have h4:0<=i/\i<=2:=by have:=a.2.1;unfold bh at this;simpa using this
 refine .inr ⟨i.toNat,by omega,by omega,a.1,a.2.2,b,?_⟩;unfold kM;rw[an h,an b];refine .inl ?_;unfold kM;rw[an h,a_ b];exact .inl (qv h)
def acf{k:Nat}{w:af}{i:Int}{p:Int->Bool}(b:p 0=false)(d:Gp (bI w) (bS w)):kM false k w i p=kM true k w i p:=by
 by_cases h:(bC k w&&(bh i 0 2&&p ((bI w).getD i.toNat ah.aa).1))=true;have a:=h;simp only[Y_]at a;have h4:0<=i/\i<=2:=by have:=a.2.1;unfold bh at this;simpa using this
 have f:=ahp a.1
 have g:gx false k w i.toNat=gx true k w i.toNat:=ah8 (d f i.toNat (by omega) (λe=>by
  have:=a.2.2;rw[e,b]at this;cases this))
 unfold kM;rw[g];rw[qv h,qv h]
def aaX{w:af}{j:Nat}(hj:j<5)(a:(bI w).length=5)(b:((bI w).getD j ah.aa).1=0):jJ w (j:Int)=true:=by
 unfold jJ bh;rw[a,awV,c_ (show(0:Int)<=(j:Int) by omega),c_ (show(j:Int)<=((5:Nat):Int)-1 by omega),c_ b];rfl
section
variable{k:Nat}(O:9223372036854775808<=k)
include O
def QE{w:af}{i:Int}{t:aA}{op:Int}(a:jo k w i=true)(b:t.2.2.1=ya)(d:t.2.2.2.2.2.1=[])(e:t.2.2.2.2.2.2.1=[])(hL:ag (.sl al) t.2.2.2.1<=300):ag aN (gE w i t op)<=ag aN w+1000:=by
 unfold jo at a;simp only[Y_]at a;have f:=ae4 O (w:=w) (i:=i) (t:=t) (op:=op) (qH a.2).2.2;have g:=bq O t;rw[b,d,e]at g;rw[b]at f;have e1:ag ab ya=0:=iF O;have e2:ag (.sl (.int .i64)) ([]:List Int)=0:=bf;have e3:ag (.sl ab) ([]:List ae)=0:=bf;omega
def Y0{w:af}(h:ag aN w<=1048576):ag (.sl aj) w.2.2.2.1<=1048576:=by
 rw[cO O]at h;omega
def agy{w:af}{i:Int}{l:List ai}(a:ag (.sl al) l<=300):ag aN (lookW k w i l)<=ag aN w+1000:=by
 unfold lookW;by_cases h:mI k w i l=true;rw[an h];unfold mI at h;simp only[Y_]at h;exact QE O h.1 rfl rfl rfl a;rw[a_ h];exact aw2 _ _
def agO{w:af}{i:Int}:ag aN (vF k w i)<=ag aN w+1000:=by
 unfold vF;by_cases h:jo k w i=true;rw[an h];exact QE O h rfl rfl rfl (by show ag (.sl al) ([]:List ai)<=300;rw[bf];omega);rw[a_ h];exact aw2 _ _
omit O in
theorem ac5{w:af}{i:Int}{l:List ai}:(lookW k w i l).2.2.2.1=w.2.2.2.1:=by
 unfold lookW;split<;>rfl
variable{c:bw}{ti M gr nn:Int}{st:List aq}{V:List bp}{T U:List ae}{D:List ar}{Q:List aI}{Z:List bE}{A:List aA}{E:List ay}{i:Nat}{t:aA}
def Ej(h:Rt k c ti M st V T gr D nn Q U A E):ag (.sl aj) st<=1000/\ag (.sl ab) (cn st)<=1000/\bL st<20:=by
 have h1:=Il O h.sto.ok;have h2:=h.sto.cap;have h3:=(oz O h.cf).2.2.2.1;have h4:=(dm.1 h.sto.ok).2;have h5:=iq O st;omega
def look_size(h:Rt k c ti M st V T gr D nn Q U A E)(hi:i<3)(g:A.getD i ah.aa=t)(ho:t.1=2\/t.1=3):
 ag aN (eu true k (c,ti,M,st,V,T,gr,D,nn,Q,Z,U,A,E) i).2<=ag aN (c,ti,M,st,V,T,gr,D,nn,Q,Z,U,A,E)+3000:=by
 obtain⟨I,J,hb,hd,hv1,hw⟩:=dU h (by omega) g (by omega);obtain⟨s1,K,s3⟩:=Ej O h;have hz:ag (.sl ah) (A.set i zT)<=ag (.sl ah) A+0:=EX O (by rw[aiN O];omega);have hna:ag (.sl ab) ([]:List ae)=0:=bf
 have b:∀(x:Bool) (code:Int) (got:List ae) (B:Nat),ag (.sl ab) got<=B->ag (.sl aw) (E.set (bn t).toNat (eC true x (E.getD (bn t).toNat aw.aa) M ti code got))<=ag (.sl aw) E+B:=λx code got B hB=>nY O J (by
  have:=rN O (x:=x) (d:=E.getD (bn t).toNat aw.aa) (M:=M) (ti:=ti) (code:=code) (got:=got);omega)
 have a:∀j x,ag (.sl aj) (cG st j x)<=ag (.sl aj) st:=λj x=>YD O;have f:∀j,ag aN (ey (c,ti,M,st,V,T,gr,D,nn,Q,Z,U,A,E) i j).2<=ag aN (c,ti,M,st,V,T,gr,D,nn,Q,Z,U,A,E)+3000:=λj=>Nat.le_trans (aer O) (aw2 _ _);unfold eu;rw[afa O];unfold vK;dsimp only;rw[g];by_cases u:t.1=2;rw[an u];unfold lu;dsimp only;rw[g];by_cases m:t.2.1=0;rw[an m];exact f _;rw[a_ m];by_cases p:(bQ k st t.2.2.2.1).2=true;rw[an p,cO O,cO O];dsimp only;have v:=a (bO k st t.2.2.2.1).toNat (-1);have w:=Ut O h p;have y:=b true 5 [(bQ k st t.2.2.2.1).1] 97 (by rw[ck (e:=ab)];omega);omega;rw[a_ p,cO O,cO O];dsimp only;have v:=a (bO k st t.2.2.2.1).toNat (-1);have y:=b false 6 [] 0 (by omega);omega;rw[a_ u];have q:t.1=3:=by omega
 obtain⟨⟨r1,r2,r3,r4,r5,r6,r7,r8,r9,r10,r11⟩,q12,q13,q14,q15,q16,s,o⟩:=(fh q).1 I;have hlen:=h.sto.len;unfold fZ;dsimp only;rw[g];by_cases m:t.2.1=0;rw[an m];exact f _;rw[a_ m];by_cases z:t.2.1=1;rw[an z,cO O,cO O];dsimp only;rw[a_ (by omega)]at o;have v:=a t.2.2.2.2.1.toNat (-1)
 have w:=EX O (A:=A) (i:=i) (B:=1010) (t':=nc st t t.2.2.2.2.1.toNat) (by
  rw[g,bq O,bq O];unfold nc;dsimp only;have C:ag (.sl (.int .i64)) (t.2.2.2.2.2.1++[(st.getD t.2.2.2.2.1.toNat aj.aa).2.1])=(t.2.2.2.2.2.1++[(st.getD t.2.2.2.2.1.toNat aj.aa).2.1]).length:=MI O _;have F:ag (.sl (.int .i64)) t.2.2.2.2.2.1=t.2.2.2.2.2.1.length:=MI O _;have G:=jS O (st.getD t.2.2.2.2.1.toNat aj.aa);have H:=dQ (e:=aj) (l:=st) (i:=t.2.2.2.2.1.toNat) (d:=aj.aa) (by omega);rw[List.length_append,aw5]at C;rw[fa (e:=ab)];omega)
 omega;rw[a_ z];rw[an (by omega)]at o;by_cases r:gF st t.2.2.2.2.2.1=true;rw[an r,cO O,cO O];dsimp only;have n:=SD h s r (by omega);have y:=b true 8 (dp t.2.2.2.2.2.2.1) 1000 (by rw[uz,<-n];exact K);omega;rw[a_ r,cO O,cO O];dsimp only
 have w:=EX O (A:=A) (i:=i) (B:=0) (t':=sN ((bn t).toNat:Int)) (by
  have e:ag ah (sN ((bn t).toNat:Int))=ag ab c9+ag (.sl al) ([]:List ai)+ag (.sl (.int .i64)) ([]:List Int)+ag (.sl ab) ([]:List ae):=bq O _;have F:ag (.sl al) ([]:List ai)=0:=bf;have G:ag (.sl (.int .i64)) ([]:List Int)=0:=bf;have H:=iF O;omega)
 omega
def uG(k:Nat)(w x:af)(j:Nat):Prop:=
 let t:=(bI w).getD j ah.aa
 let d:=(bS x).getD (bn t).toNat aw.aa
 cn (kR x)=cn (kR w)/\
 (jJ x (j:Int)=false->dh d= -1)/\
 (jJ x (j:Int)=true->t.1=3->kh d=dp (cn (kR w))/\qC d=8)/\
 (jJ x (j:Int)=true->t.1=2->(bQ k (kR w) t.2.2.2.1).2=true->qC d=5/\kh d=[(bQ k (kR w) t.2.2.2.1).1])/\
 (jJ x (j:Int)=true->t.1=2->(bQ k (kR w) t.2.2.2.1).2=false->qC d=6/\kh d=[])
omit O in
theorem ah9{w:af}{j:Nat}(hj:j<5)(h5:(bI w).length=5)(a:¬((bI w).getD j ah.aa).1=0):jJ w (j:Int)=false:=by
 unfold jJ;rw[awV,decide_eq_false a,Bool.and_false]
omit O in
theorem aeD(h:Rt k c ti M st V T gr D nn Q U A E)(hi:i<3)(n:A.getD i ah.aa=t)(p:t.1=2\/t.1=3)(u:(eu true k (c,ti,M,st,V,T,gr,D,nn,Q,Z,U,A,E) i).1=true):
 uG k (c,ti,M,st,V,T,gr,D,nn,Q,Z,U,A,E) (eu true k (c,ti,M,st,V,T,gr,D,nn,Q,Z,U,A,E) i).2 i/\(bS (eu true k (c,ti,M,st,V,T,gr,D,nn,Q,Z,U,A,E) i).2).length=E.length:=by
 obtain⟨y,z,hb,hd1,hv1,hw⟩:=dU h (by omega) n (by omega);have f:=h.tl
 have F:dh (E.getD (bn t).toNat aw.aa)= -1:=by
  rcases p with p|p;exact((kP p).1 y).2.2.2.2.1;exact((fh p).1 y).2.2.2.2.1
 have b:∀(s:aA),(A.set i s).getD i ah.aa=s:=λs=>aT _ _ (by omega)
 have a:∀(x:Bool) (code:Int) (m:List ae),qC (eC true x (E.getD (bn t).toNat aw.aa) M ti code m)=code/\kh (eC true x (E.getD (bn t).toNat aw.aa) M ti code m)=m:=λx code m=>by
  unfold eC oQ;rw[an (by rfl),an F];exact⟨rfl,rfl⟩
 have d:∀(x:af),cn (kR x)=cn st->(bI x).length=5->¬((bI x).getD i ah.aa).1=0->bS x=E->uG k (c,ti,M,st,V,T,gr,D,nn,Q,Z,U,A,E) x i/\(bS x).length=E.length:=by
  intro x I J K L;have N:=ah9 (by omega) J K;unfold uG;dsimp only[bI];rw[n,L,N];exact⟨⟨I,λ_=>F,λe=>(nomatch e),λe=>(nomatch e),λe=>(nomatch e)⟩,rfl⟩
 have g:∀j,(bX (ey (c,ti,M,st,V,T,gr,D,nn,Q,Z,U,A,E) i j)).1=true->uG k (c,ti,M,st,V,T,gr,D,nn,Q,Z,U,A,E) (bX (ey (c,ti,M,st,V,T,gr,D,nn,Q,Z,U,A,E) i j)).2 i/\(bS (bX (ey (c,ti,M,st,V,T,gr,D,nn,Q,Z,U,A,E) i j)).2).length=E.length:=by
  intro j;unfold ey;dsimp only;by_cases o:(st.getD j aj.aa).1= -1;rw[an o,bg];intro _;refine d _ tW (by show(A.set i _).length=5;rw[awZ];exact f) ?_ rfl;show¬((A.set i _).getD i ah.aa).1=0;rw[b,n];dsimp only;omega;rw[a_ o];intro u;simp[bX]at u
 revert u;unfold eu vK;dsimp only;rw[n];by_cases G:t.1=2;rw[an G];unfold lu;dsimp only;rw[n];have l:∀(x:af),(bI x)=A.set i zT->jJ x (i:Int)=true:=λx e=>aaX (by omega) (by rw[e,awZ];exact f) (by rw[e,b];rfl);by_cases q:t.2.1=0;rw[an q];exact g _;rw[a_ q];by_cases o:(bQ k st t.2.2.2.1).2=true;rw[an o,bg];intro _;refine⟨?_,by show(E.set _ _).length=_;rw[awZ]⟩;unfold uG;rw[l _ rfl];dsimp only[bI,bS,kR];rw[n,aT _ _ z,(a true 5 _).1,(a true 5 _).2];exact⟨tW,λe=>(nomatch e),λ_ e=>(by omega),λ_ _ _=>⟨rfl,rfl⟩,λ_ _ e=>by rw[o]at e;cases e⟩;rw[a_ o,bg];intro _;refine⟨?_,by show(E.set _ _).length=_;rw[awZ]⟩;unfold uG;rw[l _ rfl];dsimp only[bI,bS,kR];rw[n,aT _ _ z,(a false 6 _).1,(a false 6 _).2];exact⟨tW,λe=>(nomatch e),λ_ e=>(by omega),λ_ _ e=>absurd e o,λ_ _ _=>⟨rfl,rfl⟩⟩;rw[a_ G];have v:t.1=3:=by omega
 obtain⟨⟨r1,r2,r3,r4,r5,r6,r7,r8,r9,r10,r11⟩,q12,q13,q14,q15,q16,B,C⟩:=(fh v).1 y;have hlen:=h.sto.len;unfold fZ;dsimp only;rw[n];by_cases q:t.2.1=0;rw[an q];exact g _;rw[a_ q];by_cases H:t.2.1=1;rw[an H,bg];intro _;refine d _ tW (by show(A.set i _).length=5;rw[awZ];exact f) ?_ rfl;show¬((A.set i _).getD i ah.aa).1=0;rw[b];show¬t.1=0;omega;rw[a_ H];rw[an (by omega)]at C;by_cases w:gF st t.2.2.2.2.2.1=true;rw[an w,bg];intro _;have r:=SD h B w (by omega);refine⟨?_,by show(E.set _ _).length=_;rw[awZ]⟩;unfold uG;rw[aaX (by omega) (by show(A.set i zT).length=5;rw[awZ];exact f) (by show((A.set i zT).getD i ah.aa).1=0;rw[b];rfl)];dsimp only[bI,bS,kR];rw[n,aT _ _ z,(a true 8 _).1,(a true 8 _).2,r];exact⟨rfl,λe=>(nomatch e),λ_ _=>⟨rfl,rfl⟩,λ_ e=>(by omega),λ_ e=>by omega⟩;rw[a_ w,bg];intro _;refine d _ rfl (by show(A.set i _).length=5;rw[awZ];exact f) ?_ rfl;show¬((A.set i _).getD i ah.aa).1=0;rw[b];show¬(3:Int)=0;decide
end
section
variable{k:Nat}(O:9223372036854775808<=k)
include O
set_option maxHeartbeats 8000000 in
def acq(x:List Int):nD k (x,())=some (true,()):=by
 have key:Dr (nD k (x,())) (λr=>r.1=true):=by
  simp only[nD];have h0:Fj k (x,())=some (decide ((x.length:Int)>1048576),()):=rfl;refine eA h0 (bD (λ_=>bB rfl) (λJ=> ?_))
  have J:x.length<=1048576:=by have:¬(x.length:Int)>1048576:=by simpa using J
                               omega
  refine aV (ZW O J) (λr2 K=> ?_);obtain⟨o,v,z,u2⟩:=r2;dsimp only at K|-;obtain⟨K,hl2⟩:=K;have hw2:=K.tt;have hti2:=K.ti;refine eA (X0 O (by omega) (by omega)) (eA (Xf O (by omega) (by omega)) ?_);refine aV (ZN O J) (λr5 h5=> ?_);obtain⟨P,S,u5⟩:=r5;dsimp only at h5|-;have hw5:=h5.tt;have hti5:=h5.ti;refine eA (Y9 O (by omega)) (eA (Y5 O (by omega)) ?_);refine aV (Qx O J) (λr8 h8=> ?_);obtain⟨w,i,u8⟩:=r8;dsimp only at h8|-;have hw:=h8.tt;refine eA (MG O (by omega)) (eA (Ln O (by omega)) ?_);rw[acf (p:=iu) rfl h8.got]
  have z2:ag aN (lookW k o v z)<=1048576:=by
   have:=agy O (w:=o) (i:=v) (l:=z) (by omega);omega
  have z5:ag aN (vF k P S)<=1048576:=by
   have:=agO O (w:=P) (i:=S);omega
  have k0:∀j:Nat,j<3->bC k w=true->iu (B7 w j)=true->ag aN (gx true k w j).2<=1048576:=by
   intro j hj m G
   have h:B7 w j=2\/B7 w j=3:=by
    unfold iu at G;simpa using G
   have e:gx true k w j=eu true k w j:=by
    unfold gx;rw[a_ (by unfold B7 at h;omega),an (by unfold B7 at h;exact h)]
   rw[e];obtain⟨c,ti,M,st,V,T,gr,D,nn,Q,Z,U,A,E⟩:=w;have:=look_size O (Z:=Z) (cw.1 m) hj rfl h;omega
  have z8:ag aN (kM true k w i iu).1<=1048576:=by
   rcases KE (k:=k) (w:=w) (i:=i) (p:=iu)with e|⟨j,rfl,hj,m,G,hd,e⟩;rw[e];show ag aN w<=_;omega;rw[e];exact k0 j hj m G
  have w0:mI k o v z=true->bC k (lookW k o v z)=true:=by
   intro q;unfold mI jo at q;simp only[Y_]at q;exact(Nt q.1.1 (by omega)).1
  have x0:jo k P S=true->bC k (vF k P S)=true:=by
   intro q;unfold jo at q;simp only[Y_]at q;exact(Nt (l:=[]) q.1 (by omega)).2.1
  refine eA (a:=(true,())) (by simp only[beq_self_eq_true,Y',if_true];exact rZ O z2) ?_;refine eA (a:=(true,())) (by simp only[beq_self_eq_true,Y',if_true,J9,if_false];exact rZ O z5) ?_;refine eA (a:=(true,())) (by simp only[beq_self_eq_true,Y',if_true,J9,if_false];exact rZ O z8) ?_;have E0:=ko O (w:=lookW k o v z) z2;have G0:=DM O (l:=o.2.2.2.1) (Y0 O (by omega));have L0:=ko O (w:=vF k P S) z5;simp only[beq_self_eq_true,Y',if_true,J9,if_false,aw7]
  refine eA (a:=(mI k o v z,())) (by
   cases q:mI k o v z;rw[a_ (by decide)];rw[an (by decide),E0,w0 q]) ?_
  refine eA (a:=(mI k o v z,())) (by
   cases q:mI k o v z;rw[a_ (by decide)];rw[an (by decide),ac5,G0]) ?_
  refine eA (a:=(jo k P S,())) (by
   cases q:jo k P S;rw[a_ (by cases mI k o v z<;>simp)];rw[an (by cases mI k o v z<;>simp),L0,x0 q]) ?_
  refine bD (λH=>by exfalso;revert H;cases mI k o v z<;>cases jo k P S<;>simp) (λ_=> ?_);rcases KE (k:=k) (w:=w) (i:=i) (p:=iu)with e|⟨j,rfl,hj,m,G,hd,e⟩;rw[e];exact bD (λ_=>eA (rZ O (w:=w) (by omega)) (bB rfl)) (λH=>by simp at H);have n:=k0 j hj m G;have hti:=h8.ti;have o0:=h8.ver;have f:=Xq (s:=true) m (show j<5 by omega) (by omega) (λp G=>by have:=o0 p G;omega) (λe=>by omega) (λe=>by omega) hd;rw[e]
  have h:B7 w j=2\/B7 w j=3:=by
   unfold iu at G;simpa using G
  have e3:gx true k w j=eu true k w j:=by
   unfold gx;rw[a_ (by unfold B7 at h;omega),an (by unfold B7 at h;exact h)]
  rw[e3]at hd f n|-;obtain⟨c,ti,M,st,V,T,gr,D,nn,Q,Z,U,A,E⟩:=w;have R:=cw.1 m;have h:(A.getD j ah.aa).1=2\/(A.getD j ah.aa).1=3:=h;obtain⟨L,hlen⟩:=aeD (Z:=Z) R hj rfl h hd;obtain⟨hr,hn,hb1,hd1,hv1,hw1⟩:=dU R (show j<5 by omega) rfl (by omega);have htl:=R.tl;have s1:=(Ej O R)
  rw[cO O]at hw;dsimp only at hw;generalize eu true k (c,ti,M,st,V,T,gr,D,nn,Q,Z,U,A,E) j=X at hd f n L hlen;obtain⟨X1,y⟩:=X;dsimp only at hd f n L hlen|-;subst hd;have p0:=dQ (e:=ah) (l:=A) (i:=j) (d:=ah.aa) (by omega);rw[bq O]at p0
  have hO:bn (A.getD j ah.aa)=((bn (A.getD j ah.aa)).toNat:Int):=by
   have:0<=bn (A.getD j ah.aa):=by
    rcases h with h|h;exact((kP h).1 hr).1.2.2.1;exact((fh h).1 hr).1.2.2.1
   omega
  unfold uG at L;dsimp only[bI]at L;generalize et:A.getD j ah.aa=t at*
  have R0:t.2.2.2.2.2.2.2.2=((bn t).toNat:Int):=hO;have r0:=Iw O (w:=y) (i:=(j:Int)) n;have N:=ko O (w:=y) n;rw[f]at N;have hy:=Y0 O n;obtain⟨c',e1,s0,u0,W,Y,h1,F,j1,b0,c0,e0,I,g⟩:=y;have s2:=Ej O (cw.1 f);dsimp only[kR,bS]at L hlen hy|-;obtain⟨L1,L2,L3,L4,L5⟩:=L;have b1:decide (0<=((j:Nat):Int)/\((j:Nat):Int)<((aw3 A:Nat):Int))=true:=c_ (by omega);have c1:decide (0<=(((bn t).toNat:Nat):Int)/\(((bn t).toNat:Nat):Int)<((aw3 g:Nat):Int))=true:=c_ (by rw[hlen];omega);have a1:=sF O (l:=u0) hy s2.2.2;have a2:=sF O (l:=st) (by omega) s1.2.2;rw[L1]at a1;have sm:=xj O (l:=dp (cn st)) (by rw[uz];omega);generalize ed:g.getD (bn t).toNat aw.aa=d at L2 L3 L4 L5;refine bD (λH=>by simp at H) (λ_=> ?_);rw[awV,et,R0,awV,ed];refine ff b1 (ff c1 (eA N (eA a1 (eA a2 (eA sm (bD (λH=>by simp at H) (λ_=>eA r0 ?_)))))));cases hI:jJ (c',e1,s0,u0,W,Y,h1,F,j1,b0,c0,e0,I,g) (j:Int)with
  |false=>
   refine ff rfl (bB ?_);show(dh d== -1)=true;rw[L2 hI];rfl
  |true=>
   refine bD (λH=>by simp at H) (λ_=> ?_);refine bD (λh3=> ?_) (λh3=> ?_);have h3:t.1=3:=by simpa using h3
   obtain⟨B,C⟩:=L3 hI h3;have B:d.2.2.2.2.2.2.2.1=dp (cn st):=B;have C:d.2.2.2.2.2.2.1=8:=C;rw[B,C];exact eA a2 (eA sm (bB rfl));have h3:¬t.1=3:=by simpa using h3
   have K:t.1=2:=by omega
   refine eA (sK O (by omega) (by omega)) ?_;cases hf:(bQ k st t.2.2.2.1).2 with
   |true=>
    obtain⟨C,B⟩:=L4 hI K hf;have B:d.2.2.2.2.2.2.2.1=[(bQ k st t.2.2.2.1).1]:=B;have C:d.2.2.2.2.2.2.1=5:=C;rw[B,C];have hfa:=Ut O R hf;have sa:=fS O (a:=(bQ k st t.2.2.2.1).1) (b:=(bQ k st t.2.2.2.1).1) (jX O (by omega));rw[c_ rfl]at sa;refine ff rfl (eA (a:=(true,())) ?_ (bB rfl));rw[an (by rfl)];exact sa
   |false=>
    obtain⟨C,B⟩:=L5 hI K hf;have B:d.2.2.2.2.2.2.2.1=[]:=B;have C:d.2.2.2.2.2.2.1=6:=C;rw[B,C];refine ff rfl (eA (a:=(false,())) ?_ (bB rfl));rw[a_ (by simp)]
 obtain⟨⟨b,u⟩,e,J⟩:=key;rw[e];dsimp only at J;rw[J]
def aeI{x:List Int×Unit}(hx:Fits (.sl (.int .u8)) x.1):nD k x=some (true,()):=acq O x.1
end
end Vg.Tryz
namespace Go.Proofs.YtgikmhjpcnnhjaaGreat.fnLooks
open Go.ChangeShapes Go.WideShapes Go.ChangeAt Go.RowKit Vg
def laid:laidOutB Tryz.prog=true:=by kernel_rfl
def e_9:(Rows.fnLooksRow.inPlace==Program.inPlace Tryz.prog 8)=true:=by kernel_rfl
def aob:(Rows.fnLooksRow.unfollowed==Program.unfollowed Tryz.prog 8)=true:=by kernel_rfl
def amW:(Rows.fnLooksRow.recurses==Program.recurses Tryz.prog 8)=true:=by kernel_rfl
def alz:(Rows.fnLooksRow.named==Program.varsNamed Tryz.prog 8)=true:=by kernel_rfl
def ams:(Rows.fnLooksRow.plainKeys==Program.plainKeys Tryz.prog)=true:=by kernel_rfl
def amU:Program.stopsHeard Tryz.prog=true:=by kernel_rfl
def anm:Program.mayEnter Tryz.prog=true:=by kernel_rfl
def ang:(Rows.fnLooksRow.lifted==Program.liftsFinal Tryz.prog)=true:=by kernel_rfl
def anw:(Program.make Tryz.prog==some Rows.fnLooksRow.make)=true:=by kernel_rfl
def facts:joinedFacts Tryz.prog 8 Tryz.f8 Rows.fnLooksSpec Rows.fnLooksRow=true:=by
 unfold joinedFacts;simp only[Y_]
 repeat' apply And.intro
 kernel_rfl
 exact laid
 kernel_rfl
 kernel_rfl
 kernel_rfl
 kernel_rfl
 kernel_rfl
 kernel_rfl
 kernel_rfl
 exact e_9;exact aob;exact amW;exact alz
 kernel_rfl
 kernel_rfl
 kernel_rfl
 kernel_rfl
 kernel_rfl
 kernel_rfl
 kernel_rfl
 kernel_rfl
 kernel_rfl
 exact ams
 kernel_rfl
 exact amU;exact anm;exact ang;exact anw
 kernel_rfl
 kernel_rfl
 kernel_rfl
 kernel_rfl
end Go.Proofs.YtgikmhjpcnnhjaaGreat.fnLooks
