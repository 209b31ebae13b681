/- Texts of this law, joined. -/
import Derived.Test.YtgikmhjpcnnhjaaGreatQpS9
import Derived.Test.YtgikmhjpcnnhjaaGreatQpPH
import Derived.Test.YtgikmhjpcnnhjaaGreatQpR8
import Derived.Test.YtgikmhjpcnnhjaaGreatRows
import Derived.Test.YtgikmhjpcnnhjaaGreatVc
set_option linter.unusedSimpArgs false
set_option linter.unusedVariables false
set_option linter.unusedSectionVars false
set_option linter.defProp false
open Option renaming bind_some -> w_,bind -> aEp
open Int renaming toNat_natCast -> V',le_refl -> aEB
open Bool renaming false_eq_true -> aEo,not_true -> aEr,and_eq_true -> aEt,not_false -> aEx
open List renaming length -> aEq,length_set -> aEs,length_singleton -> aEu,set_eq_of_length_le -> aEv,length_append -> aEw,mem_append_right -> aEz,mem_cons_self -> aEA,replicate -> aEC,getD -> aED
open Nat renaming le_refl -> aEy
namespace Vg.Tryz
open Go Vg
def DS(e:cq):Prop:=af ab e.2.2.1<=2900/\af (.sl al) e.2.2.2<=2900
section
variable{k:Nat}(Q:9223372036854775808<=k)
include Q
def xK{a b:Int}:DS (a,b,([],0,0,ByteArray.empty),[]):=by
 have e1:=gZ Q;have e2:af (.sl al) ([]:List ai)=0:=aX;exact⟨by show af ab cF<=2900;omega,by show af (.sl al) ([]:List ai)<=2900;omega⟩
def Vz{w:ag}(h:bC k w=true):af (.sl ab) (dE (bU w.2.2.2.1))<=776/\af (.sl ah) w.2.2.2.1<=1000:=by
 obtain⟨c,ti,O,st,Z,U,gr,A,nn,T,n_,V,E,M⟩:=w;have R:=bR.1 h;have h1:=jo Q (l:=bU st) fun a b=>fm (R.sto.fit a b);have d:=R.sto.cap;have h3:=(kT Q R.cf).2.2.2.1;have e:=Hx Q R.sto.ok;have h5:=(cE.1 R.sto.ok).2;unfold bq at d e;rw[tL];dsimp only;omega
set_option maxHeartbeats 8000000 in
def Po{c:aE}{w:ag}(hc:aR c)(hw:bC k w=true):Dr (nF k (c,w,())) (fun r=>DS r.1/\aR r.2.1):=by
 have W:(bF w).length=5:=by
  obtain⟨c,ti,O,st,Z,U,gr,A,nn,T,n_,V,E,M⟩:=w;exact(bR.1 hw).tl
 obtain⟨t1,t2⟩:=Vz Q hw;have t3:=ay (e:=ab) (l:=dE (bU w.2.2.2.1));have v:=rL Q (l:=w.2.2.2.1) (by omega)
 have o:∀t:aE×ag×cq×Int×ae×Unit,(aR t.1/\t.2.1=w/\af ab t.2.2.2.2.1<=400)->Dr (
  aEp (cS k (t.2.1.2.2.2.1,())) fun C=>
  aEp (bJ k (t.1,())) fun f=>
  if(decide (aEq C.1+aEq ([f.1]:List ae)<4294967296))=true then
   aEp (dD k (f.2.1,C.1++([f.1]:List ae),())) fun m=>
   aEp (bd k (m.2.1,([(0:Int),(3:Int),(9:Int),(60:Int)]:List Int),())) fun n=>
   some (((1:Int),t.2.2.2.1,(m.1,t.2.2.2.2.1.2.1,IntKind.i64.wrap (t.2.2.2.2.1.2.1+n.1),t.2.2.2.2.1.2.2.2),([]:List ai)),n.2.1,())
  else
   none) (fun r:cq×aE×Unit=>DS r.1/\aR r.2.1):=by
  rintro⟨c',w',e,i,a,u⟩ ⟨L,N,g3⟩;dsimp only at L N g3|-;subst N;rw[v,w_];refine aS (dY Q L) (fun f xe=>dO (c_ (by simp only[aEu];omega)) ?_)
  have hl:af (.sl ab) (dE (bU w'.2.2.2.1)++[f.1])<=1000:=by
   rw[dP (e:=ab),bS (e:=ab),aX];have:=xe.2;omega
  refine aS (CB Q (l:=dE (bU w'.2.2.2.1)++[f.1]) xe.1 (by omega)) (fun m mE=>aS (cQ Q mE.1 (by decide)) (fun n vq=>bl ⟨⟨?_,?_⟩,vq⟩))
  ·have e1:=bo Q (m.1,a.2.1,IntKind.i64.wrap (a.2.1+n.1),a.2.2.2);have e2:=bo Q a;have:=mE.2;dsimp only at e1|-;omega
  ·show af (.sl al) ([]:List ai)<=2900;rw[aX];omega
 have p:∀(r:aE) (q:ae) (i:Int) (J:aE×ag×cq×Int×ae×Unit->Option (cq×aE×Unit)),aR r->af ab q<=121->
  (∀s,(aR s.1/\s.2.1=w/\af ab s.2.2.2.2.1<=400)->Dr (J s) (fun r:cq×aE×Unit=>DS r.1/\aR r.2.1))->
  Dr (aEp (cB k (r,(16:Int),())) fun R=>
   if R.1=true then
    aEp (dy k (R.2.1,())) fun X=>
    J (X.2.1,w,(0,0,(([]:List ai),0,0,ByteArray.empty),([]:List ai)),i,X.1,())
   else
    J (R.2.1,w,(0,0,(([]:List ai),0,0,ByteArray.empty),([]:List ai)),i,q,())) (fun r:cq×aE×Unit=>DS r.1/\aR r.2.1):=by
  intro r q i J hr hq g;refine aS (gu Q hr) (fun R h8=>bm (fun _=> ?_) (fun _=>g _ ⟨h8,rfl,by dsimp only;omega⟩));exact aS (mG Q h8) (fun X h9=>g _ ⟨h9.1,rfl,h9.2⟩)
 have d:∀(B:Int) (y:aE) (i:Int) (J:aE×ag×cq×Unit->Option (cq×aE×Unit)),aR y->
  (∀s,(aR s.1/\s.2.1=w)->Dr (J s) (fun r:cq×aE×Unit=>DS r.1/\aR r.2.1))->
  Dr (if((B:Int)==(3:Int))=true then
   aEp (cS k (w.2.2.2.1,())) fun Y=>
   aEp (dD k (y,Y.1,())) fun x=>
   some (((2:Int),i,(([]:List ai),0,0,ByteArray.empty),x.1),x.2.1,())
  else
   if((B:Int)==(4:Int))=true then
    aEp (bd k (y,([(3:Int),(4:Int)]:List Int),())) fun D=>
    some ((D.1,i,(([]:List ai),0,0,ByteArray.empty),([]:List ai)),D.2.1,())
   else
    if((B:Int)==(5:Int))=true then
     aEp (bd k (y,([(1:Int),(1:Int),(2:Int),(5:Int)]:List Int),())) fun F=>
     some (((7:Int),F.1,(([]:List ai),0,0,ByteArray.empty),([]:List ai)),F.2.1,())
    else
     if((B:Int)==(6:Int))=true then
      aEp (aL k (y,(2:Int),())) fun H=>
      some (((6:Int),H.1,(([]:List ai),0,0,ByteArray.empty),([]:List ai)),H.2.1,())
     else
      J (y,w,(0,0,(([]:List ai),0,0,ByteArray.empty),([]:List ai)),())) (fun r:cq×aE×Unit=>DS r.1/\aR r.2.1):=by
  intro B y i J j g;refine bm (fun _=> ?_) (fun _=>bm (fun _=> ?_) (fun _=>bm (fun _=> ?_) (fun _=>bm (fun _=> ?_) (fun _=>g _ ⟨j,rfl⟩))))
  ·rw[v,w_];refine aS (CB Q j (by dsimp only;omega)) (fun x Kv=>bl ⟨⟨?_,?_⟩,Kv.1⟩)
   ·have:=gZ Q;show af ab cF<=2900;omega
   ·have:=Kv.2;dsimp only at this|-;omega
  ·exact aS (cQ Q j (by decide)) (fun r h=>bl ⟨xK Q,h⟩)
  ·exact aS (cQ Q j (by decide)) (fun r h=>bl ⟨xK Q,h⟩)
  ·exact aS (aQ Q j) (fun r h=>bl ⟨xK Q,h.1⟩)
 simp only[nF];refine aS (aQ Q hc) (fun r1 h1=>zp (fun t:aE×ag×cq×Unit=>aR t.1/\t.2.1=w) ?_ ?_)
 ·rintro⟨c3,w3,e3,u3⟩ ⟨L,N⟩;dsimp only at L N|-;subst N;refine aS (aQ Q L) (fun r47 z=>zp (fun t:aE×ag×cq×Int×Unit=>aR t.1) (fun t ht=>bl ⟨xK Q,ht⟩) (fun J g=> ?_));refine vg (fun t:aE×ag×cq×Int×Int×Unit=>(3-t.2.2.2.2.1).toNat) (fun t=>aR t.1/\t.2.1=w3/\0<=t.2.2.2.1/\t.2.2.2.1<5/\0<=t.2.2.2.2.1/\t.2.2.2.2.1<=3) ?_ ⟨z.1,rfl,by have:=z.2;dsimp only;omega,by have:=z.2;dsimp only;omega,aEB _,by show(0:Int)<=3;decide⟩ (by dsimp only;omega);rintro G ⟨c5,w5,e5,i5,n5,u5⟩ ⟨q1,q2,q3,q4,q5,q6⟩ hG;dsimp only at q1 q2 q3 q4 q5 q6 hG|-;subst q2;refine bm (fun I=>dO ?_ ?_) (fun _=>g _ q1)
  ·rw[show w5.2.2.2.2.2.2.2.2.2.2.2.2.1.length=5 from W];exact c_ ⟨q3,by omega⟩
  ·have I:n5<3:=by simpa using I
   have c0:∀b:Bool,Dr (if b=true then lL k (w5,())else some (false,())) (fun _=>True):=fun b=>bm (fun _=>⟨_,AW Q,trivial⟩) (fun _=>⟨_,rfl,trivial⟩);refine aS (P:=fun _=>True) (c0 _) (fun r52 _=>bm (fun _=>g _ q1) (fun _=>aS (aQ Q q1) (fun r53 K=> ?_)))
   ·have:=K.2;rw[wrap64 (by omega) (by omega)];exact hG _ ⟨K.1,rfl,by dsimp only;omega,by dsimp only;omega,by dsimp only;omega,by dsimp only;omega⟩ (by dsimp only;omega)
 ·intro J g;refine aS (aQ Q h1.1) (fun B S=> ?_);refine bm (fun _=>bm (fun _=> ?_) (fun _=>d _ _ _ _ S.1 g)) (fun _=>bm (fun _=>bm (fun _=> ?_) (fun _=>d _ _ _ _ S.1 g)) (fun _=>bm (fun _=> ?_) (fun _=>d _ _ _ _ S.1 g)))
  all_goals
   exact aS (dY Q S.1) (fun r5 W=>zp _ o (fun J' b0=>p _ _ _ _ W.1 W.2 b0))
theorem Pz{b:List Int}{m:Int}(hb:b.length<=1048576)(a:0<=m):Dr (mX k (b,m,())) (fun r=>0<=r.1/\r.1<=1048576/\(r.1<=m\/m<0)):=by
 simp only[mX]
 have d:Int.tdiv (b.length:Int) 12=((b.length/12:Nat):Int):=by
  rw[Int.tdiv_eq_ediv_of_nonneg (by omega)];rfl
 rw[d,wrap64 (n:=((b.length/12:Nat):Int)) (by omega) (by omega),wrap64 (by omega) (by omega)];refine dO (by decide) (bm (fun h=> ?_) (fun h=> ?_));have h:m<3+((b.length/12:Nat):Int):=by simpa using h
 exact bl ⟨a,by dsimp only;omega,.inl (aEB _)⟩;have h:¬m<3+((b.length/12:Nat):Int):=by simpa using h
 exact bl ⟨by dsimp only;omega,by dsimp only;omega,.inl (by dsimp only;omega)⟩
end
def ND(a:List aC)(gs:List au):Prop:=
 ∀pre d post,a=pre++d::post->d.1=7->¬s9 d=3->(∃e∈post,RC e (UC d) d.2.2.1)\/PT gs (UC d) d.2.2.1
structure NL(w:ag):Prop where
 opg:ml (bV w)
 cnt:(fM (bV w)).foldl (Qs w.1.2.1) (some 0)=some (bq (mH w):Int)
 nd:ND (fM (bV w)) (iA w)
def WE{p news:List aC}{gs a:List au}(h:ND p gs)(g:P2 gs a news):ND (p++news) a:=by
 intro pre d post e h7 f;rcases List.append_eq_append_iff.1 e with⟨m,q,b⟩|⟨m,q,b⟩;have j:d∈news:=by rw[b];exact aEz _ (aEA ..)
 exact .inr (g.2 d j h7 f);cases m with
 |nil=>
  have j:d∈news:=by
   have r:news=d::post:=by simpa using b.symm
   rw[r];exact aEA ..
  exact .inr (g.2 d j h7 f)
 |cons x m=>
  rw[List.cons_append]at b;obtain⟨rfl,rfl⟩:=List.cons.inj b;rcases h pre d m q h7 f with⟨x,l,n⟩|o;exact .inl ⟨x,List.mem_append_left _ l,n⟩;rcases g.1 _ _ o with o|⟨x,l,n⟩;exact .inr o;exact .inl ⟨x,aEz _ l,n⟩
def qc(r:Bool×ag):(bH r).2.1=r.2.1:=by
 unfold bH;split<;>rfl
def Vs{k:Nat}{w:ag}{i:Nat}:(iU true k w i).2.1=w.1:=by
 obtain⟨c,ti,O,st,Z,U,gr,A,nn,T,n_,V,E,M⟩:=w;unfold iU;split
 ·unfold fy;rw[qc];unfold qj dZ;dsimp only
  repeat' split
  all_goals rfl
 split
 ·unfold nW;rw[qc];unfold wV mF fH dZ;dsimp only
  repeat' split
  all_goals rfl
 split
 ·unfold eF;rw[qc];unfold qJ dZ;dsimp only
  repeat' split
  all_goals rfl
 split
 ·unfold eW;rw[qc];unfold gH gL;dsimp only
  repeat' split
  all_goals rfl
 split
 ·unfold fK;rw[qc];unfold gP gL;dsimp only
  repeat' split
  all_goals rfl
 rfl
def Vn{k:Nat}{w:ag}{e:cq}:(pz k w e).2.1=w.1:=by
 unfold pz;split;split;dsimp only;split<;>rfl;rfl;split;split<;>rfl;split;split<;>rfl;split;split<;>rfl;split;split;exact Vs;rfl;split;split<;>rfl;split;split<;>rfl;rfl
def WW{k:Nat}{w:ag}{e:cq}{n:Nat}(h:bC k w=true)(f:vt n w)(hn:n<=160)(g:(pz k w e).1=true)(a:NL w):NL (pz k w e).2:=by
 have j:0<=w.2.1:=by
  obtain⟨c,ti,O,st,Z,U,gr,A,nn,T,n_,V,E,M⟩:=w;exact(bR.1 h).ti0
 obtain⟨news,b,l,m⟩:=Vo h (fun p d=>by have:=f.ver p d;omega) g;refine⟨W1 j a.opg,?_,?_⟩;rw[b,List.foldl_append,Vn,a.cnt];exact l;rw[b];exact WE a.nd m
def VS{c:bh}(hc:cR c=true):NL (iG c):=by
 have g:0<=c.1/\c.1<=3/\1<=c.1:=by
  unfold cR bc at hc;simp only[aEt,b_]at hc;omega
 have h:dq c.1=aEC c.1.toNat (-1,0,[]):=by
  unfold dq;simp[g]
 have b:bq (dq c.1)=0:=by
  rw[h]
  have:bU (aEC c.1.toNat ((-1,0,[]):ar))=[]:=by
   refine List.eq_nil_iff_forall_not_mem.2 fun a j=> ?_;obtain⟨p,m,ch,f,_⟩:=Kr.1 j;rw[(List.mem_replicate.1 m).2]at f;exact absurd f (List.not_mem_nil)
  unfold bq;rw[this];rfl
 unfold iG;rw[an hc];refine⟨fun d l=>(by cases l),?_,fun pre d post e=> ?_⟩;show some (0:Int)=some ((bq (dq c.1):Nat):Int);rw[b];rfl;have e:([]:List aC)=pre++d::post:=e;simp at e
section
variable{k:Nat}(Q:9223372036854775808<=k)
include Q
set_option maxHeartbeats 8000000 in
def Qv{c:aE}{m:Int}{P:ag->Prop}(q:∀c,cR c=true->P (iG c))(s:∀w e n,bC k w=true->vt n w->n<=160->(pz k w e).1=true->P w->P (pz k w e).2)
 (hc:aR c) (hm:m<=1000):Dr (mY k (c,m,())) (fun r=>(MN k r.2.2.1/\P r.2.2.1)/\aR r.2.2.2.1):=by
 simp only[mY];refine aS (Es Q hc) (fun r1 b=> ?_);obtain⟨h,j⟩:=Oq Q b.2;have hsz:=Ck Q h j (by omega);have hcs:=(kT Q b.2).1;refine fc (zi Q (by omega)) (fc (tN Q (by dsimp only;omega)) ?_);refine zp (fun t:aE×ag×ag×List cq×ag×ag×Unit=>aR t.1/\MN k t.2.2.2.2.2.1/\P t.2.2.2.2.2.1) (fun t f=>bl ⟨f.2,f.1⟩) (fun J o=> ?_);refine aS (aQ Q b.1) (fun r6 h6=> ?_)
 refine vg (fun t:aE×ag×ag×List cq×ag×ag×Int×Unit=>t.2.2.2.2.2.2.1.toNat)
  (fun t=>aR t.1/\bC k t.2.2.2.2.2.1=true/\P t.2.2.2.2.2.1/\vt t.2.2.2.1.length t.2.2.2.2.2.1/\t.2.2.2.1.length<=160/\t.2.2.2.2.2.2.1<=2000/\-1<=t.2.2.2.2.2.2.1) ?_ ⟨h6.1,h,q _ b.2,j,by simp,?_,?_⟩ ?_
 rintro G ⟨c8,w1,w2,l,w3,w,i,u⟩ ⟨q1,q2,q0,q3,q4,q5,q6⟩ hG;dsimp only at q1 q2 q0 q3 q4 q5 q6 hG|-;refine bm (fun a=> ?_) (fun _=>o _ ⟨q1,⟨q2,_,q4,q3⟩,q0⟩)
 have a:0<i/\(l.length:Int)<160:=by
  by_cases d:(0:Int)<i;rw[an (by simpa using d)]at a;exact⟨d,by simpa using a⟩;rw[a_ (by simpa using d)]at a;cases a
 refine aS (Po Q q1 q2) (fun p h9=>dO (c_ (by simp only[aEu];omega)) ?_);have v:=Ck Q q2 q3 q4;refine fc (tN Q (by omega)) (fc (EB Q (Nat.le_trans v (by decide)) q2 (by have:=h9.1.1;omega) (by have:=h9.1.2;omega)) ?_);have x:IntKind.i64.wrap (i-1)=i-1:=wrap64 (by omega) (by omega);rw[x];have hlen:(l++[p.1]).length=l.length+1:=by simp
 refine bm (fun g=> ?_) (fun _=> ?_);obtain⟨y,z⟩:=SM Q q2 q3 q4 h9.1.1 g;exact hG _ ⟨h9.2,y,s _ _ _ q2 q3 q4 g q0,by dsimp only;rw[hlen];exact z,by dsimp only;rw[hlen];omega,by dsimp only;omega,by dsimp only;omega⟩ (by dsimp only;omega);refine hG _ ⟨h9.2,q2,q0,?_,by dsimp only;rw[hlen];omega,by dsimp only;omega,by dsimp only;omega⟩ (by dsimp only;omega);dsimp only;rw[hlen];exact Ex.stay q3;have:=h6.2;dsimp only;rw[wrap64 (by omega) (by omega)];omega;have:=h6.2;dsimp only;rw[wrap64 (by omega) (by omega)];omega;have:=h6.2;dsimp only;rw[wrap64 (by omega) (by omega)];omega
def MY{c:aE}{m:Int}(hc:aR c)(g:m<=1000):Dr (km k (c,m,())) (fun r=>(MN k r.1/\NL r.1)/\aR r.2.1):=by
 simp only[km];obtain⟨r,e,h⟩:=Qv Q (P:=NL) (fun c hc=>VS hc) (fun w e n h a b d f=>WW h a b d f) hc g;rw[e,w_];exact⟨_,rfl,h⟩
end
def D3{d:aC}{O ti code:Int}(h:cW d= -1->lA d=[]):dA false false d O ti code []=dA true false d O ti code []:=by
 unfold dA ot Lj;simp only[Bool.or_false,aEo,if_false,if_true];by_cases e:cW d= -1;rw[an e,an e];have b:=h e;obtain⟨op,task,a,l,i,n,cd,gt,nw,inv,lin,res⟩:=d;unfold lA at b;dsimp only at b;subst b;rfl;rw[a_ e,a_ e]
def abX{s:Bool}{d:aC}{O ti code:Int}{got:List ae}:dA s true d O ti code got=dA true true d O ti code got:=by
 cases s<;>rfl
def X0(w:ag)(i:Nat):aC:=(bV w).getD (bf ((bF w).getD i ak.aa)).toNat aw.aa
theorem aie{k:Nat}{w:ag}{i:Nat}(h:cW (X0 w i)= -1->lA (X0 w i)=[]):iU false k w i=iU true k w i:=by
 obtain⟨c,ti,O,st,Z,U,gr,A,nn,T,n_,V,E,M⟩:=w;have h:cW (M.getD (bf (E.getD i ak.aa)).toNat aw.aa)= -1->lA (M.getD (bf (E.getD i ak.aa)).toNat aw.aa)=[]:=h;unfold iU;dsimp only[bF];by_cases a:(E.getD i ak.aa).1=1;rw[an a,an a];unfold fy qj;dsimp only;rw[D3 h];rw[a_ a,a_ a];by_cases b:(E.getD i ak.aa).1=2\/(E.getD i ak.aa).1=3;rw[an b,an b];unfold nW wV mF fH;dsimp only;rw[D3 h,abX (s:=false),abX (s:=false)];rw[a_ b,a_ b];by_cases d:(E.getD i ak.aa).1=4;rw[an d,an d];unfold eF qJ;dsimp only;rw[D3 h];rw[a_ d,a_ d];by_cases e:i=3;subst e;rw[an rfl,an rfl];unfold eW gH;dsimp only;have f:∀n:Int,cW (ou (M.getD (bf (E.getD 3 ak.aa)).toNat aw.aa) n)= -1->lA (ou (M.getD (bf (E.getD 3 ak.aa)).toNat aw.aa) n)=[]:=fun n=>h;rw[D3 h,D3 (f nn)];cases eR A (keyOf (E.getD 3 ak.aa).2.2.1 c.2.2.2.2.2)with
 |none=>rfl
 |some j=>dsimp only;rw[D3 (f _)]
 rw[a_ e,a_ e];by_cases h6:i=4;subst h6;rw[an rfl,an rfl];unfold fK gP;dsimp only;rw[D3 h,abX (s:=false)];rw[a_ h6,a_ h6]
section
variable{k:Nat}(Q:9223372036854775808<=k)
include Q
def aci(w:ag)(i:Nat):Int:=((bF w).getD i ak.aa).1
omit Q in
theorem T8{w:ag}(h:bC k w=true):(bF w).length=5:=by
 obtain⟨c,ti,O,st,Z,U,gr,A,nn,T,n_,V,E,M⟩:=w;exact(bR.1 h).tl
end
def Gp(E:List aF)(M:List aC):Prop:=
 E.length=5->∀i,i<5->¬(E.getD i ak.aa).1=0->cW (M.getD (bf (E.getD i ak.aa)).toNat aw.aa)= -1->lA (M.getD (bf (E.getD i ak.aa)).toNat aw.aa)=[]
structure JT(w:ag):Prop where
 tt:af az w<=1040000
 ti:w.2.1<=1000
 nn:Zg w<=1000
 ver:∀p∈mH w,p.2.1<=1000
 hp:(EC w).length<=15\/17<=(EC w).length
 got:Gp (bF w) (bV w)
section
variable{k:Nat}(Q:9223372036854775808<=k)
include Q
def fV{c:bh}{ti O gr nn:Int}{st:List ar}{Z:List bg}{U V:List ae}{A:List au}{T:List aJ}{n_:List br}{E:List aF}{M:List aC}
 (h:af cM c+af (.sl ah) st+af (.sl aU) Z+af (.sl ab) U+af (.sl aj) A+af (.sl aD) T+af (.sl bM) n_+af (.sl ab) V+af (.sl ak) E+af (.sl aw) M<=1040000)
 (a:ti<=1000) (b:nn<=1000) (d:∀p∈st,p.2.1<=1000) (e:T.length<=15\/17<=T.length) (f:Gp E M):JT (c,ti,O,st,Z,U,gr,A,nn,T,n_,V,E,M):=
 ⟨by rw[da Q];exact h,a,b,d,e,f⟩
set_option maxHeartbeats 4000000 in
def Oo{c:aE}{m:Int}(hc:aR c)(H:m<=1000):Dr (mJ k (c,m,())) (fun r=>JT r.1/\aR r.2.1):=by
 simp only[mJ];refine aS (MY Q hc H) (fun D j=>aS (aQ Q j.2) (fun r2 f=> ?_));obtain⟨⟨⟨z,n,J,B⟩,K⟩,-⟩:=j;have x:=Ck Q z B J;obtain⟨w,cc,u⟩:=D;obtain⟨C,ti,O,st,Z,U,gr,A,nn,T,n_,V,E,M⟩:=w;have R:=bR.1 z;have X:Ex n C ti st U A nn T n_ V E M:=B;have v:ml M:=K.opg;rw[da Q]at x;dsimp only at x|-;have hti:=X.ti;have hnn:=X.nn;have b:∀p∈st,p.2.1<=1000:=fun p o=>by have:=X.ver p o;omega
 have a:T.length<=15\/17<=T.length:=by
  have j:=X.hp;have f:=(cG.1 R.grp.go).1;exact .inl (by omega)
 have d:Gp E M:=fun _ i q _=>v.at_;have hA:af (.sl ab) ([]:List ae)=0:=aX;have hS:af (.sl aU) ([]:List bg)=0:=aX;have hD:af (.sl aw) ([]:List aC)=0:=aX;have l1:=ay (e:=aU) (l:=Z);have l2:=ay (e:=ab) (l:=U);have l3:=ay (e:=aw) (l:=M);have l4:=ay (e:=ab) (l:=V);refine bm (fun _=>aS (Q5 Q f.1) (fun r h=>bl ⟨fV Q (by have:=h.2;omega) (by omega) (by omega) b a d,h.1⟩)) (fun _=> ?_);refine bm (fun _=>bl ⟨fV Q (by omega) (by omega) (by omega) b a d,f.1⟩) (fun _=> ?_);refine bm (fun _=>aS (D6 Q f.1) (fun r h=>bl ⟨fV Q (by omega) (by omega) (by omega) b a d,h⟩)) (fun _=> ?_);refine bm (fun _=>aS (TK Q f.1) (fun r h=>bl ⟨fV Q (by have:=h.2.1;omega) (by omega) (by omega) (fun p o=>by have:=h.2.2 p o;omega) a d,h.1⟩)) (fun _=> ?_);refine bm (fun _=>aS (TF Q f.1) (fun r h=>dO (by simp;omega) (bl ⟨fV Q (by have:=h.2;rw[dP (e:=aU),bS (e:=aU)];omega) (by omega) (by omega) b a d,h.1⟩))) (fun _=> ?_);refine bm (fun _=>aS (mG Q f.1) (fun r h=>dO (by simp;omega) (bl ⟨fV Q (by have:=h.2;rw[dP (e:=ab),bS (e:=ab)];omega) (by omega) (by omega) b a d,h.1⟩))) (fun _=> ?_);refine bm (fun _=>aS (aQ Q f.1) (fun r h=>bl ⟨fV Q (by omega) (by omega) (by omega) b a d,h.1⟩)) (fun _=> ?_);refine bm (fun _=>aS (RS Q f.1 (by have:=(kT Q R.cf).1;rw[js Q]at this;have:=ay (e:= .str) (l:=C.2.2.2.2.2);omega)) (fun r h=>bl ⟨fV Q (by have:=h.2;omega) (by omega) (by omega) b a d,h.1⟩)) (fun _=> ?_);refine bm (fun _=>aS (Nn Q (-1) 1 f.1 (by decide) (by decide)) (fun r h=>bl ⟨fV Q (by omega) (by omega) (by have:=h.2;omega) b a d,h.1⟩)) (fun _=> ?_);refine bm (fun _=>aS (RF Q f.1) (fun r h=>bl ⟨fV Q (by have:=h.2;have:=aa7 Q r.1;omega) (by omega) (by omega) b (by have:=h.2;omega) d,h.1⟩)) (fun _=> ?_);refine bm (fun _=> ?_) (fun _=> ?_);refine aS (aQ Q f.1) (fun g mE=>aS (RY Q mE.1) (fun s vq=>dO (c_ ?_) (bl ⟨fV Q ?_ (by omega) (by omega) b a (fun _ i q _=>v.at_),vq.1⟩)));have:=mE.2;have:=R.tl;omega;have I:g.1.toNat<E.length:=by have:=mE.2;have:=R.tl;omega
 have:=ij (e:=ak) E g.1.toNat s.1 I;have:=vq.2;omega;refine bm (fun _=> ?_) (fun _=> ?_);refine aS (Sr Q f.1) (fun r14 FJ=>dO (by simp;omega) (bl ⟨fV Q (by have:=FJ.2;rw[dP (e:=aw),bS (e:=aw)];omega) (by omega) (by omega) b a ?_,FJ.1⟩));intro _ i q F;have hb:=uk (R.tas i q) F;rw[ig _ (by omega)];exact v.at_;refine bm (fun _=> ?_) (fun _=> ?_);have y:Int.toNat 4=4:=rfl;have ht:=cN (e:=ak) E 4;refine dO (c_ ⟨by decide,by have:=R.tl;omega⟩) (bl ⟨fV Q (by rw[y];omega) (by omega) (by omega) b a ?_,f.1⟩);intro G;rw[List.length_take,y]at G;omega;refine bm (fun _=>aS (mG Q f.1) (fun r h=>dO (by simp;omega) (bl ⟨fV Q (by have:=h.2;rw[dP (e:=ab),bS (e:=ab)];omega) (by omega) (by omega) b a d,h.1⟩))) (fun _=> ?_);exact bl ⟨fV Q (by omega) (by omega) (by omega) b a d,f.1⟩
def acp{c:aE}{w:ag}{l:List Int}(hc:aR c)(q:l.length<=10):Dr (JH k (c,w,l,())) (fun r=>aR r.2.1):=by
 simp only[JH];refine aS (aQ Q hc) (fun r1 d=>zp (fun t:aE×ag×Int×Unit=>aR t.1) (fun t o=> ?_) (fun J p=> ?_));exact aS (cQ Q o (by simp)) (fun r h=>bl h)
 refine vg (fun t:aE×List Int×ag×Int×Int×Unit=>(5-t.2.2.2.2.1).toNat) (fun t=>aR t.1/\t.2.1=l/\t.2.2.1=w/\0<=t.2.2.2.1/\t.2.2.2.1<5/\0<=t.2.2.2.2.1/\t.2.2.2.2.1<=5) ?_
  ⟨d.1,rfl,rfl,d.2.1,by have:=d.2;dsimp only;omega,aEB _,by show(0:Int)<=5;decide⟩ (by dsimp only;omega)
 rintro G ⟨c1,l1,w1,i,n,u⟩ ⟨q1,q2,q3,q4,q5,q6,q7⟩ hG;dsimp only at q1 q2 q3 q4 q5 q6 q7 hG|-;subst q2 q3;refine bm (fun a=>dO ?_ ?_) (fun _=>p _ q1);by_cases j:i<((aEq w1.2.2.2.2.2.2.2.2.2.2.2.2.1:Nat):Int);have e:decide (0<=i/\i<((aEq w1.2.2.2.2.2.2.2.2.2.2.2.2.1:Nat):Int))=true:=c_ ⟨q4,j⟩;rw[e,Bool.or_true];rw[decide_eq_false j];rfl;have a:n<5:=by simpa using a
 have f:IntKind.i64.wrap (i+1)=i+1:=wrap64 (by omega) (by omega);have g:IntKind.i64.wrap (n+1)=n+1:=wrap64 (by omega) (by omega)
 have m:0<=Int.tmod (i+1) 5/\Int.tmod (i+1) 5<5:=by
  rw[Int.tmod_eq_emod_of_nonneg (by omega)];omega
 have s:∀b:Bool,Dr (if b=true then lW k (l1,(aED w1.2.2.2.2.2.2.2.2.2.2.2.2.1 (Int.toNat i) ak.aa).1,())else some (false,())) (fun _=>True):=fun b=>bm (fun _=>⟨_,Ca Q q,trivial⟩) (fun _=>⟨_,rfl,trivial⟩);refine aS (P:=fun _=>True) (s _) (fun r6 _=>bm (fun _=>bl q1) (fun _=>dO (by decide) ?_));rw[f,g];exact hG _ ⟨q1,rfl,rfl,m.1,m.2,by dsimp only;omega,by dsimp only;omega⟩ (by dsimp only;omega)
def aiC{b:List Int}(d:b.length<=1048576):Dr (Sz k (b,())) (fun r=>JT r.1):=by
 simp only[Sz];exact aS (MC Q d) (fun r1 e=>aS (Pz Q (m:=70) d (by decide)) (fun r2 h2=>aS (Oo Q e (by omega)) (fun r3 a=>aS (acp Q a.2 (by decide)) (fun r4 h4=>bl a.1))))
theorem HJ{l:List ByteArray}(hl:l.length<=1048576):kW k (l,l,())=some (true,()):=by
 simp only[kW];rw[a_ (by simp)];refine(bG (fun i:Nat=>(l,l,(l.length:Int),(i:Int),())) l.length (e:=some (true,())) (fun G i a=> ?_) (fun G=> ?_) k 0 (by omega) (by omega));simp only[aH,aA a,a,decide_true,if_true,V'];rw[aV (by omega)];simp;simp
def Mq{c:bh}(h:af cM c<=1048576):ma k (c,c,())=some (true,()):=by
 rw[kF Q]at h;have hl:=ay (e:= .str) (l:=c.2.2.2.2.2);simp only[ma,beq_self_eq_true,if_true,HJ Q (show c.2.2.2.2.2.length<=1048576 by omega),w_]
def Jp{c:aP}(h:af ax c<=1048576):ll k (c,c,())=some (true,()):=by
 rw[cu Q]at h;simp only[ll,beq_self_eq_true,if_true,ey Q h,w_,decide_true]
def Mp{p:ar}(h:af ah p<=1048576):mu k (p,p,())=some (true,()):=by
 have b:=h;rw[bY Q]at b;have hl:=ay (e:=ax) (l:=p.2.2);simp only[mu];rw[a_ (by simp)];refine(bG (fun i:Nat=>(p,p,(p.2.2.length:Int),(i:Int),())) p.2.2.length (e:=some (true,())) (fun G i a=> ?_) (fun G=> ?_) k 0 (by omega) (by omega));simp only[aH,aA a,a,decide_true,if_true,V'];rw[aV (by omega),Jp Q (fJ Q h a).1,w_];simp;simp
def EE{l:List ar}(h:af (.sl ah) l<=1048576):kG k (l,l,())=some (true,()):=by
 have hl:=ay (e:=ah) (l:=l);simp only[kG];rw[a_ (by simp)];refine(bG (fun i:Nat=>(l,l,(i:Int),())) l.length (e:=some (true,())) (fun G i a=> ?_) (fun G=> ?_) k 0 (by omega) (by omega));simp only[aH,aA a,a,decide_true,if_true,V'];rw[aV (by omega),Mp Q (il Q h a),w_];simp;simp
def Nw{s:bg}(h:af aU s<=1048576):nE k (s,s,())=some (true,()):=by
 rw[eG Q]at h;simp only[nE,beq_self_eq_true,if_true,ey Q h,w_,decide_true]
def HD{l:List bg}(h:af (.sl aU) l<=1048576):lD k (l,l,())=some (true,()):=by
 have hl:=ay (e:=aU) (l:=l);simp only[lD];rw[a_ (by simp)];refine(bG (fun i:Nat=>(l,l,(i:Int),())) l.length (e:=some (true,())) (fun G i a=> ?_) (fun G=> ?_) k 0 (by omega) (by omega));simp only[aH,aA a,a,decide_true,if_true,V'];have:=dw (e:=aU) (l:=l) (i:=i) (d:=aU.aa) a;rw[aV (by omega),Nw Q (s:=l.getD i aU.aa) (by omega),w_];simp;simp
theorem LV{l:List aJ}(h:af (.sl aD) l<=1048576):mj k (l,l,())=some (true,()):=by
 have hl:=ay (e:=aD) (l:=l);have b:∀t:aJ,eqv aD t t=true:=fun t=>(yc rfl).2 rfl;simp only[mj];rw[a_ (by simp)];refine(bG (fun i:Nat=>(l,l,(i:Int),())) l.length (e:=some (true,())) (fun G i a=> ?_) (fun G=> ?_) k 0 (by omega) (by omega));simp only[aH,aA a,a,decide_true,if_true,V',b];rw[aV (by omega)];simp;simp
def LR{l:List br}(h:af (.sl bM) l<=1048576):mz k (l,l,())=some (true,()):=by
 have hl:=ay (e:=bM) (l:=l);simp only[mz];rw[a_ (by simp)];refine(bG (fun i:Nat=>(l,l,(i:Int),())) l.length (e:=some (true,())) (fun G i a=> ?_) (fun G=> ?_) k 0 (by omega) (by omega));simp only[aH,aA a,a,decide_true,if_true,V'];have:=dw (e:=bM) (l:=l) (i:=i) (d:=bM.aa) a;rw[aV (by omega),B7 Q (g:=l.getD i bM.aa) (by omega),w_];simp;simp
theorem KW{l:List Int}(hl:l.length<=1048576):jr k (l,l,())=some (true,()):=by
 simp only[jr];rw[a_ (by simp)];refine(bG (fun i:Nat=>(l,l,(i:Int),())) l.length (e:=some (true,())) (fun G i a=> ?_) (fun G=> ?_) k 0 (by omega) (by omega));simp only[aH,aA a,a,decide_true,if_true,V'];rw[aV (by omega)];simp;simp
def LG{d:aC}(h:af aw d<=1048576):mg k (d,d,())=some (true,()):=by
 rw[bN Q]at h;have a:bW k (d.2.2.1,d.2.2.1,())=some (true,()):=by rw[ee Q (gE Q (by omega))];simp
 have b:cg k (d.2.2.2.1,d.2.2.2.1,())=some (true,()):=by
  have:=ay (e:=al) (l:=d.2.2.2.1);rw[du Q (by omega)];simp
 have f:cY k (d.2.2.2.2.2.2.2.1,d.2.2.2.2.2.2.2.1,())=some (true,()):=by rw[ey Q (by omega)];simp
 simp only[mg,beq_self_eq_true,if_true,a,b,f,w_]
def JZ{l:List aC}(h:af (.sl aw) l<=1048576):kP k (l,l,())=some (true,()):=by
 have hl:=ay (e:=aw) (l:=l);simp only[kP];rw[a_ (by simp)];refine(bG (fun i:Nat=>(l,l,(i:Int),())) l.length (e:=some (true,())) (fun G i a=> ?_) (fun G=> ?_) k 0 (by omega) (by omega));simp only[aH,aA a,a,decide_true,if_true,V'];have:=dw (e:=aw) (l:=l) (i:=i) (d:=aw.aa) a;rw[aV (by omega),LG Q (d:=l.getD i aw.aa) (by omega),w_];simp;simp
def IT{l:List aF}(h:af (.sl ak) l<=1048576):k9 k (l,l,())=some (true,()):=by
 have hl:=ay (e:=ak) (l:=l);simp only[k9];rw[a_ (by simp)];refine(bG (fun i:Nat=>(l,l,(i:Int),())) l.length (e:=some (true,())) (fun G i a=> ?_) (fun G=> ?_) k 0 (by omega) (by omega));simp only[aH,aA a,a,decide_true,if_true,V'];have b:=dw (e:=ak) (l:=l) (i:=i) (d:=ak.aa) a;generalize hd:aED l i ak.aa=d at b|-;rw[bw Q]at b;have f:bW k (d.2.2.1,d.2.2.1,())=some (true,()):=by rw[ee Q (gE Q (by omega))];simp
 have g:cg k (d.2.2.2.1,d.2.2.2.1,())=some (true,()):=by
  have:=ay (e:=al) (l:=d.2.2.2.1);rw[du Q (by omega)];simp
 have j:jr k (d.2.2.2.2.2.1,d.2.2.2.2.2.1,())=some (true,()):=KW Q (by rw[pR Q]at b;omega);have m:eI k (d.2.2.2.2.2.2.1,d.2.2.2.2.2.2.1,())=some (true,()):=rq Q (by omega);rw[aV (by omega)];simp only[bne_self_eq_false,aEo,if_false,f,g,j,m,w_,aEr,beq_self_eq_true,if_true];simp
def pw{w:ag}(h:af az w<=1048576):iN k (w,w,())=some (true,()):=by
 rw[da Q]at h
 simp only[iN,beq_self_eq_true,if_true,Mq Q (c:=w.1) (by omega),EE Q (l:=w.2.2.2.1) (by omega),HD Q (l:=w.2.2.2.2.1) (by omega),rq Q (l:=w.2.2.2.2.2.1) (by omega),
  HF Q (l:=w.2.2.2.2.2.2.2.1) (by omega),LV Q (l:=w.2.2.2.2.2.2.2.2.2.1) (by omega),LR Q (l:=w.2.2.2.2.2.2.2.2.2.2.1) (by omega),rq Q (l:=w.2.2.2.2.2.2.2.2.2.2.2.1) (by omega),
  IT Q (l:=w.2.2.2.2.2.2.2.2.2.2.2.2.1) (by omega),JZ Q (l:=w.2.2.2.2.2.2.2.2.2.2.2.2.2) (by omega),w_]
end
section
variable{k:Nat}(Q:9223372036854775808<=k)
include Q
variable{c:bh}{ti O gr nn:Int}{st:List ar}{Z:List bg}{U V:List ae}{A:List au}{T:List aJ}{n_:List br}{E:List aF}{M:List aC}{i:Nat}{t:aF}
def aif(hs:af az (c,ti,O,st,Z,U,gr,A,nn,T,n_,V,E,M)<=1048576)(h:Rt k c ti O st Z U gr A nn T V E M)(hi:i<5)(b:E.getD i ak.aa=t)(d:t.1=1):
 Dq k ((c,ti,O,st,Z,U,gr,A,nn,T,n_,V,E,M),(i:Int),())=
  some ((fy false k (c,ti,O,st,Z,U,gr,A,nn,T,n_,V,E,M) i).1,(fy false k (c,ti,O,st,Z,U,gr,A,nn,T,n_,V,E,M) i).2,()):=by
 obtain⟨l,m,hb,hd,hv1,hw⟩:=dH h (by omega) b (by omega);have j:=(gF d).1 l;obtain⟨n,o⟩:=gY (k:=k) (s:=t.2.2.1.1) (fT h.sto.ok);obtain⟨⟨q1,q2,q3,q4,q5,q6⟩,q12,q13,q14,a,q16⟩:=j
 have f:bf t=((bf t).toNat:Int):=by
  have:0<=bf t:=q3;omega
 refine ahO Q hs (by rw[h.tl];omega) b d n o.symm m f rfl (by omega) (fun e g=> ?_) f;exact a.2 e g
def aij(hs:af az (c,ti,O,st,Z,U,gr,A,nn,T,n_,V,E,M)<=1048576)(h:Rt k c ti O st Z U gr A nn T V E M)(hi:i<5)(b:E.getD i ak.aa=t)(d:t.1=1):
 lV k ((c,ti,O,st,Z,U,gr,A,nn,T,n_,V,E,M),(i:Int),())=
  some ((fy true k (c,ti,O,st,Z,U,gr,A,nn,T,n_,V,E,M) i).1,(fy true k (c,ti,O,st,Z,U,gr,A,nn,T,n_,V,E,M) i).2,()):=by
 obtain⟨l,m,hb,hd,hv1,hw⟩:=dH h (by omega) b (by omega);have g:=(gF d).1 l;obtain⟨n,o⟩:=gY (k:=k) (s:=t.2.2.1.1) (fT h.sto.ok);obtain⟨⟨q1,q2,q3,q4,q5,q6⟩,q12,q13,q14,a,q16⟩:=g
 have j:bf t=((bf t).toNat:Int):=by
  have:0<=bf t:=q3;omega
 refine Cm Q hs (by rw[h.tl];omega) b d n o.symm m j rfl (by omega) (fun e f=> ?_);exact a.2 e f
end
def yT(s:Bool)(k:Nat)(w:ag)(i:Int)(p:Int->Bool):ag×Bool:=
 if(bC k w&&(bc i 0 2&&p ((bF w).getD i.toNat ak.aa).1))=true then(if(iU s k w i.toNat).1=true then((iU s k w i.toNat).2,true)else(w,false))else(w,false)
def Vp(op:Int):Bool:=decide (op=1)
def Hr{s:Bool}{k:Nat}{w:ag}{i:Int}{p:Int->Bool}(h:¬(bC k w&&(bc i 0 2&&p ((bF w).getD i.toNat ak.aa).1))=true):yT s k w i p=(w,false):=a_ h
section
variable{k:Nat}(Q:9223372036854775808<=k)
include Q
def agY{w:ag}{i:Int}(hs:af az w<=1048576):U7 k (w,i,())=some ((yT true k w i Vp).1,(yT true k w i Vp).2,()):=by
 simp only[U7];rw[tN Q (by omega),w_,A7 Q hs,w_];cases e:bC k w with
 |false=>
  rw[Hr (by rw[e];simp)];rfl
 |true=>
  dsimp only;rw[an (by rfl),fS Q,w_];cases d:bc i 0 2 with
  |false=>
   rw[Hr (by rw[d];simp)];rfl
  |true=>
   have hi:0<=i/\i<=2:=by unfold bc at d;simpa using d
   obtain⟨j,rfl⟩:∃j:Nat,i=(j:Int):=⟨i.toNat,by omega⟩
   have hj:j<3:=by omega
   have g:yT true k w (j:Int) Vp=if Vp ((bF w).getD j ak.aa).1=true then(if(iU true k w j).1=true then((iU true k w j).2,true)else(w,false))else(w,false):=by
    unfold yT;rw[e,d,V',Bool.true_and,Bool.true_and]
   rw[g];obtain⟨c,ti,O,st,Z,U,gr,A,nn,T,n_,V,E,M⟩:=w;have R:=bR.1 e;have h:decide (0<=((j:Nat):Int)/\((j:Nat):Int)<((E.length:Nat):Int))=true:=c_ (by have:=R.tl;omega);dsimp only;rw[h];refine(an (by rfl)).trans ?_;rw[V'];by_cases b:(E.getD j ak.aa).1=1
   have l:iU true k (c,ti,O,st,Z,U,gr,A,nn,T,n_,V,E,M) j=fy true k (c,ti,O,st,Z,U,gr,A,nn,T,n_,V,E,M) j:=by
    unfold iU;dsimp only[bF];rw[an b]
   have a:((E.getD j ak.aa).1 != (1:Int))=false:=by rw[b];rfl
   have f:Vp (((bF (c,ti,O,st,Z,U,gr,A,nn,T,n_,V,E,M)).getD j ak.aa).1)=true:=c_ b;rw[f,an rfl,l];simp only[a,aEr,aEo,if_false,if_true,show((false:Bool)==false)=true from rfl,aij Q hs R (show j<5 by omega) rfl b,w_];cases hx:(fy true k (c,ti,O,st,Z,U,gr,A,nn,T,n_,V,E,M) j).1;simp only[aEx,if_true,aEo,if_false];simp only[aEr,aEo,if_false,if_true];have a:((E.getD j ak.aa).1 != (1:Int))=true:=by simpa[bne_iff_ne]using b
   have f:Vp (((bF (c,ti,O,st,Z,U,gr,A,nn,T,n_,V,E,M)).getD j ak.aa).1)=false:=decide_eq_false b;rw[f,a_ (show¬(false=true) by decide)];simp only[a,aEr,aEo,if_false,if_true,show((true:Bool)==false)=false from rfl,aEx,w_]
def aeS{w:ag}{i:Int}{p:Int->Bool}{F:ag×Int×Unit->Option (Bool×ag×Unit)}(hs:af az w<=1048576)
 (e:∀j:Nat,j<5->bC k w=true->p ((bF w).getD j ak.aa).1=true->j<3)
 (q:∀j:Nat,j<5->bC k w=true->F (w,(j:Int),())=if p ((bF w).getD j ak.aa).1=true then some ((iU false k w j).1,(iU false k w j).2,())else some (false,w,())):
 (aEp (fF k (w,())) fun g=>
  aEp (iz k (w,())) fun r2=>
  aEp ((if(((!r2.1):Bool)==false)=true then bP k (i,(0:Int),(4:Int),())else some (false,()))) fun r3=>
  if(((if(!r2.1)=true then true else !r3.1):Bool)==false)=true then
   aEp (F (g.1,i,())) fun m=>
   if(if(if(!r2.1)=true then true else !r3.1)=true then true else !m.1)=true then
    aEp (fF k (w,())) fun n=>
    some (n.1,false,())
   else
    some (m.2.1,true,())
  else
   if(if(if(!r2.1)=true then true else !r3.1)=true then true else !false)=true then
    aEp (fF k (w,())) fun o=>
    some (o.1,false,())
   else
    some (g.1,true,()))=some ((yT false k w i p).1,(yT false k w i p).2,()):=by
 rw[Py Q (by omega),w_,lC Q hs,w_];cases b:bC k w with
 |false=>
  rw[Hr (by rw[b];simp)];rfl
 |true=>
  dsimp only;rw[an (by rfl),fG Q,w_];cases d:bc i 0 4 with
  |false=>
   have f:bc i 0 2=false:=by
    rw[Bool.eq_false_iff]at d|-;intro h;apply d;unfold bc at h|-;simp only[aEt,b_]at h|-;omega
   rw[Hr (by rw[f];simp)];rfl
  |true=>
   have hi:0<=i/\i<=4:=by unfold bc at d;simpa using d
   obtain⟨j,rfl⟩:∃j:Nat,i=(j:Int):=⟨i.toNat,by omega⟩
   have l:j<5:=by omega
   simp only[aEr,aEo,if_false,show((false:Bool)==false)=true from rfl,if_true,q j l b];by_cases a:p ((bF w).getD j ak.aa).1=true;have hj3:=e j l b a;have f:bc (j:Int) 0 2=true:=by unfold bc;simp;omega
   have r:yT false k w (j:Int) p=if(iU false k w j).1=true then((iU false k w j).2,true)else(w,false):=by
    unfold yT;rw[b,f,V',a];rfl
   rw[r,an a,w_];dsimp only;cases (iU false k w j).1;simp only[aEx,if_true,aEo,if_false,w_];simp only[aEr,aEo,if_false,if_true]
   rw[Hr (by
    rw[V'];intro h;simp only[aEt]at h;exact a h.2.2),a_ a,w_]
   rfl
omit Q in
theorem afi{w:ag}{j:Nat}(a:j<5)(h:bC k w=true)(b:1<=((bF w).getD j ak.aa).1)(d:((bF w).getD j ak.aa).1<=4):j<3:=by
 obtain⟨c,ti,O,st,Z,U,gr,A,nn,T,n_,V,E,M⟩:=w;have R:=bR.1 h;have:=gx (k:=k) (w:=(c,ti,O,st,Z,U,gr,A,nn,T,n_,V,E,M)) (R.tas j a);dsimp only[bF]at b d;omega
def agj{w:ag}{i:Int}(hs:af az w<=1048576):VB k (w,i,())=some ((yT false k w i Vp).1,(yT false k w i Vp).2,()):=by
 simp only[VB];refine aeS Q (F:=Dq k) hs (fun j b h d=> ?_) (fun j b h=> ?_);have:=e_ d;exact afi b h (by omega) (by omega);obtain⟨c,ti,O,st,Z,U,gr,A,nn,T,n_,V,E,M⟩:=w;have R:=bR.1 h;by_cases a:(E.getD j ak.aa).1=1;rw[an (show Vp (E.getD j ak.aa).1=true from c_ a),aif Q hs R b rfl a]
 have e:iU false k (c,ti,O,st,Z,U,gr,A,nn,T,n_,V,E,M) j=fy false k (c,ti,O,st,Z,U,gr,A,nn,T,n_,V,E,M) j:=by
  unfold iU;dsimp only[bF];rw[an a]
 rw[e];rw[a_ (show¬Vp (E.getD j ak.aa).1=true by unfold Vp;simpa using a)];simp only[Dq,V'];rw[an (aA (by rw[R.tl];exact b)),an (by simpa[bne_iff_ne]using a)]
def X4(r:Bool×ag):af az (bH r).2=af az r.2:=by
 unfold bH;split;rw[da Q,da Q];rfl
def Wg{st:List ar}{j:Nat}{x:Int}:af (.sl ah) (bT st j x)<=af (.sl ah) st:=by
 unfold bT;by_cases a:j<st.length;have h1:=ij (e:=ah) st j (x,(st.getD j ah.aa).2) a;have h2:af ah ((x,(st.getD j ah.aa).2):ar)=af ah (st.getD j ah.aa):=by rw[bY Q,bY Q]
 have h3:af ah (st.getD j (Ty.aa ah))=af ah (st.getD j ah.aa):=rfl;omega;rw[aEv (by omega)];exact aEy _
theorem Rl{E:List aF}{i B:Nat}{t':aF}(h:af ak t'<=af ak (E.getD i ak.aa)+B):af (.sl ak) (E.set i t')<=af (.sl ak) E+B:=by
 by_cases a:i<E.length;have h1:=ij (e:=ak) E i t' a;have h3:af ak (E.getD i (Ty.aa ak))=af ak (E.getD i ak.aa):=rfl;omega;rw[aEv (by omega)];omega
def aaE:af ak zT=0:=by
 have e:af ak zT=af ab cF+af (.sl al) ([]:List ai)+af (.sl (.int .i64)) ([]:List Int)+af (.sl ab) ([]:List ae):=bw Q _;rw[e,aX,aX,aX,gZ Q]
def amE{a:ae}{s:bg}:af aU (mC a s)<=af aU s+(af ab a+1):=by
 have b:af aU ((([]:List ae),true):bg)=af (.sl ab) ([]:List ae):=eG Q _;rw[aX]at b;have d:af aU ((s.1++[a],s.2):bg)=af (.sl ab) (s.1++[a]):=eG Q _;have e5:af (.sl ab) ([]:List ae)=0:=aX;rw[dP (e:=ab),bS (e:=ab)]at d;have e4:af aU s=af (.sl ab) s.1:=eG Q _;unfold mC;split;omega;split;omega;omega
theorem ad5{a:ae}:∀l:List bg,af (.sl aU) (l.map (mC a))<=af (.sl aU) l+(af ab a+1)*l.length
 | []=>aEy _
 |s::l=>by
  have h1:=amE Q (a:=a) (s:=s);have h2:=ad5 (a:=a) l;rw[List.map_cons,bS,bS,List.length_cons,Nat.mul_add];omega
variable{c:bh}{ti O gr nn:Int}{st:List ar}{Z:List bg}{U V:List ae}{A:List au}{T:List aJ}{n_:List br}{E:List aF}{M:List aC}{i:Nat}{t:aF}
def adV{j:Nat}:af az (dZ (c,ti,O,st,Z,U,gr,A,nn,T,n_,V,E,M) i j).2<=af az (c,ti,O,st,Z,U,gr,A,nn,T,n_,V,E,M):=by
 unfold dZ;dsimp only;split;rw[da Q,da Q];dsimp only;have h1:=Wg Q (st:=st) (j:=j) (x:=(i:Int));have h2:=Rl Q (E:=E) (i:=i) (B:=0) (t':=((E.getD i ak.aa).1,1,(E.getD i ak.aa).2.2)) (by rw[bw Q,bw Q];exact aEy _);omega;exact aEy _
theorem amW(h:Rt k c ti O st Z U gr A nn T V E M)(s:∀p∈st,p.2.1<4611686018427387904)(hi:i<3)(b:E.getD i ak.aa=t)(u:t.1=1):
 af az (fy true k (c,ti,O,st,Z,U,gr,A,nn,T,n_,V,E,M) i).2<=af az (c,ti,O,st,Z,U,gr,A,nn,T,n_,V,E,M)+2000:=by
 have h0:=fT h.sto.ok;obtain⟨w,g,hb,hd,hv1,hw⟩:=dH h (by omega) b (by omega);have f:=(gF u).1 w;have ha:=iS Q f.1.2.2.2.2.2.1;have hz:af (.sl ak) (E.set i zT)<=af (.sl ak) E+0:=Rl Q (by rw[aaE Q];omega);have hnl:af (.sl al) ([]:List ai)=0:=aX;have hna:af (.sl ab) ([]:List ae)=0:=aX;unfold fy;rw[X4 Q];unfold qj;dsimp only;rw[b];by_cases m:t.2.1=0;rw[an m];have:=adV Q (c:=c) (ti:=ti) (O:=O) (st:=st) (Z:=Z) (U:=U) (gr:=gr) (A:=A) (nn:=nn) (T:=T) (n_:=n_) (V:=V) (E:=E) (M:=M) (i:=i) (j:=(bz k st t.2.2.1.1).toNat);omega;rw[a_ m];by_cases n:t.2.1=1;rw[an n];rw[a_ (by omega)]at f;by_cases o:rl k c st t.2.2.1=true;rw[an o,da Q,da Q];dsimp only;have q:=Wg Q (st:=st) (j:=(bz k st t.2.2.1.1).toNat) (x:= -1);have v:af (.sl aw) (M.set (bf t).toNat (dA true false (M.getD (bf t).toNat aw.aa) O ti 3 []))<=af (.sl aw) M+0:=kv Q g (by have:=oc Q (x:=false) (d:=M.getD (bf t).toNat aw.aa) (O:=O) (ti:=ti) (code:=3) (got:=[]);omega);omega;rw[a_ o,da Q,da Q];dsimp only;have q:=CP Q (l:=st) (a:=t.2.2.1);obtain⟨p1',p2,p3,y,z⟩:=Kk h.sto.ok f.2.2.2.2.2.2.2 s;have hfa:af ab (bL k (cZ k st t.2.2.1).1 t.2.2.1.1).1<=96:=iS Q (fm (z h.sto.fit _ (zD y).2));have h3:=Rl Q (E:=E) (i:=i) (B:=96) (t':=(t.1,2,(bL k (cZ k st t.2.2.1).1 t.2.2.1.1).1,t.2.2.2)) (by rw[b,bw Q,bw Q];dsimp only;omega)
 have v:af (.sl aw) (M.set (bf t).toNat (nT (M.getD (bf t).toNat aw.aa) O ti (if(cZ k st t.2.2.1).2=true then 1 else 2)))<=af (.sl aw) M+0:=kv Q g (by
  unfold nT;rw[bN Q,bN Q];exact aEy _)
 omega;rw[a_ n,da Q,da Q];dsimp only;have q:=Wg Q (st:=st) (j:=(bz k st t.2.2.1.1).toNat) (x:= -1);have h4:=ad5 Q (a:=t.2.2.1) Z;have h5:=h.sub.len;have h6:=(kT Q h.cf).2.2.2.2;have h7:(af ab t.2.2.1+1)*Z.length<=97*2:=Nat.mul_le_mul (by omega) (by omega)
 have r:∀l:List ae,af (.sl ab) (l++[t.2.2.1])<=af (.sl ab) l+100:=fun l=>by
  rw[dP (e:=ab),bS (e:=ab)];omega
 have h8:=r U;have h9:=r V
 have a1:af (.sl aw) (M++[eT (mO i t.2.2.1) O ti ti ti])<=af (.sl aw) M+200:=pg Q (by
  unfold eT mO;rw[bN Q];dsimp only;omega)
 have a2:af (.sl aw) ((M++[eT (mO i t.2.2.1) O ti ti ti]).set (bf t).toNat (lP (M.getD (bf t).toNat aw.aa) ti))<=af (.sl aw) (M++[eT (mO i t.2.2.1) O ti ti ti])+0:=kv Q (by rw[aEw];omega) (by
  rw[ig _ g];unfold lP;rw[bN Q,bN Q];exact aEy _)
 omega
end
def XN{k:Nat}{w:ag}{i:Int}{p:Int->Bool}:yT true k w i p=(w,false)\/
 ∃j:Nat,i=(j:Int)/\j<3/\bC k w=true/\p (aci w j)=true/\(iU true k w j).1=true/\yT true k w i p=((iU true k w j).2,true):=by
 by_cases h:(bC k w&&(bc i 0 2&&p ((bF w).getD i.toNat ak.aa).1))=true;by_cases b:(iU true k w i.toNat).1=true;have a:=h;simp only[aEt]at a;have h4:0<=i/\i<=2:=by have:=a.2.1;unfold bc at this;simpa using this
 refine .inr ⟨i.toNat,by omega,by omega,a.1,a.2.2,b,?_⟩;unfold yT;rw[an h,an b];refine .inl ?_;unfold yT;rw[an h,a_ b];exact .inl (Hr h)
def abJ{k:Nat}{w:ag}{i:Int}{p:Int->Bool}(b:p 0=false)(d:Gp (bF w) (bV w)):yT false k w i p=yT true k w i p:=by
 by_cases h:(bC k w&&(bc i 0 2&&p ((bF w).getD i.toNat ak.aa).1))=true;have a:=h;simp only[aEt]at a;have h4:0<=i/\i<=2:=by have:=a.2.1;unfold bc at this;simpa using this
 have f:=T8 a.1
 have g:iU false k w i.toNat=iU true k w i.toNat:=aie (d f i.toNat (by omega) (fun e=>by
  have:=a.2.2;rw[e,b]at this;cases this))
 unfold yT;rw[g];rw[Hr h,Hr h]
def akX{k:Nat}{st:List ar}{j:Nat}{x:Int}{s:List ai}:bz k (bT st j x) s=bz k st s:=by
 unfold bz bT;rw[aEs]
def ak6{k:Nat}{st:List ar}{j:Nat}{x:Int}{s:List ai}:bL k (bT st j x) s=bL k st s:=by
 refine MR (by unfold bT;rw[aEs]) ?_;unfold bT;by_cases a:j=(bz k st s).toNat;subst a;by_cases b:(bz k st s).toNat<st.length;rw[aT _ _ b];rw[aEv (by omega)];rw[getD_set_ne _ _ a]
def alF{w:ag}{j:Nat}(hj:j<5)(a:(bF w).length=5)(b:((bF w).getD j ak.aa).1=0):qv w (j:Int)=true:=by
 unfold qv bc;rw[a,V',c_ (show(0:Int)<=(j:Int) by omega),c_ (show(j:Int)<=((5:Nat):Int)-1 by omega),c_ b];rfl
section
variable{k:Nat}(Q:9223372036854775808<=k)
include Q
set_option maxHeartbeats 8000000 in
theorem ajg(x:List Int):PY k (x,())=some (true,()):=by
 have key:Dr (PY k (x,())) (fun r=>r.1=true):=by
  simp only[PY];have e0:xX k (x,())=some (decide ((x.length:Int)>1048576),()):=rfl;refine fc e0 (bm (fun _=>bl rfl) (fun hb=> ?_))
  have hb:x.length<=1048576:=by have:¬(x.length:Int)>1048576:=by simpa using hb
                                omega
  refine aS (aiC Q hb) (fun r2 h2=> ?_);obtain⟨w,i,u2⟩:=r2;dsimp only at h2|-;have hw:=h2.tt;refine fc (agj Q (by omega)) (fc (agY Q (by omega)) ?_);rw[abJ (p:=Vp) rfl h2.got];rcases XN (k:=k) (w:=w) (i:=i) (p:=Vp)with e|⟨j,rfl,hj,hok,hp,hd,e⟩;rw[e];simp only[beq_self_eq_true,aEr,if_true,pw Q (show af az w<=1048576 by omega),w_,aEo,if_false,aEx];exact bl rfl;rw[e];have hti:=h2.ti;have H:=h2.ver;have d:=Rf (s:=true) hok (show j<5 by omega) (by omega) (fun p hp=>by have:=H p hp;omega) (fun e=>by omega) (fun e=>by omega) hd;obtain⟨c,ti,O,st,Z,U,gr,A,nn,T,n_,V,E,M⟩:=w;have R:=bR.1 hok;have ho:(E.getD j ak.aa).1=1:=e_ hp
  have w0:iU true k (c,ti,O,st,Z,U,gr,A,nn,T,n_,V,E,M) j=fy true k (c,ti,O,st,Z,U,gr,A,nn,T,n_,V,E,M) j:=by
   unfold iU;dsimp only[bF];rw[an ho]
  rw[w0]at hd d|-;have hv:∀p∈st,p.2.1<4611686018427387904:=fun p hp=>by have:p.2.1<=1000:=H p hp;omega
  have g:=amW Q (n_:=n_) R hv hj rfl ho;have j0:=hw;rw[da Q]at j0;dsimp only at j0;obtain⟨hr,hn,b1,c1,e1,j1⟩:=dH R (show j<5 by omega) rfl (by omega);have D:=(gF ho).1 hr;have h0:=fT R.sto.ok;have k0:=R.tl;generalize C:E.getD j ak.aa=t at hr hn b1 c1 e1 j1 D ho;obtain⟨g1,g2⟩:=gY (k:=k) (s:=t.2.2.1.1) h0
  have hO:bf t=((bf t).toNat:Int):=by
   have:0<=bf t:=D.1.2.2.1;omega
  have F:t.2.2.2.2.2.2.2.2=((bf t).toNat:Int):=hO;have ha:=iS Q D.1.2.2.2.2.2.1;have htA:=bo Q t.2.2.1;have G:decide (0<=((j:Nat):Int)/\((j:Nat):Int)<((aEq E:Nat):Int))=true:=c_ (by omega)
  have z:∀x:Int,af (.sl ah) (bT st (bz k st t.2.2.1.1).toNat x)<=1048576:=fun x=>by
   have:=Wg Q (st:=st) (j:=(bz k st t.2.2.1.1).toNat) (x:=x);omega
  have K:∀x:Int,iW k (bT st (bz k st t.2.2.1.1).toNat x,t.2.2.1.1,())=some ((bL k st t.2.2.1.1).1,(bL k st t.2.2.1.1).2,()):=fun x=>by
   rw[rN Q (z x) (by omega),ak6]
  have I:=ue Q (l:=st) (by omega);by_cases L:t.2.1=0;by_cases J:(st.getD (bz k st t.2.2.1.1).toNat ah.aa).1= -1
  have N:fy true k (c,ti,O,st,Z,U,gr,A,nn,T,n_,V,E,M) j=(true,(c,tick ti,O,bT st (bz k st t.2.2.1.1).toNat (j:Int),Z,U,gr,A,nn,T,n_,V,E.set j (t.1,1,t.2.2),M)):=by
   unfold fy qj;dsimp only;rw[C];rw[an L];unfold dZ;dsimp only;rw[C,an J,aY]
  rw[N]at d g|-;have h:=pw Q (w:=(c,tick ti,O,bT st (bz k st t.2.2.1.1).toNat (j:Int),Z,U,gr,A,nn,T,n_,V,E.set j (t.1,1,t.2.2),M)) (by dsimp only at g;omega);have f:=lC Q (w:=(c,tick ti,O,bT st (bz k st t.2.2.1.1).toNat (j:Int),Z,U,gr,A,nn,T,n_,V,E.set j (t.1,1,t.2.2),M)) (by dsimp only at g;omega);dsimp only at d;rw[d]at f;have n:=fun q:Int=>Ez Q (i:=q) (w:=(c,tick ti,O,bT st (bz k st t.2.2.1.1).toNat (j:Int),Z,U,gr,A,nn,T,n_,V,E.set j (t.1,1,t.2.2),M)) (by dsimp only at g;omega);simp only[beq_self_eq_true,aEr,if_true,h,w_,aEo,if_false,C,F,V'];refine dO G ?_;have o:decide (0<=(((bf t).toNat:Nat):Int)/\(((bf t).toNat:Nat):Int)<((aEq M:Nat):Int))=true:=c_ (by omega);refine dO o (fc f (bm (fun m=>by simp[tick]at m) (fun _=>fc (K _) ?_)));rw[L];refine bm (fun _=> ?_) (fun m=>by simp at m);refine fc (Cf Q (by omega)) ?_;dsimp only;rw[akX,<-g2,V'];have x0:decide (0<=(((bz k st t.2.2.1.1).toNat:Nat):Int)/\(((bz k st t.2.2.1.1).toNat:Nat):Int)<((aEq (bT st (bz k st t.2.2.1.1).toNat (j:Int)):Nat):Int))=true:=c_ (by unfold bT;rw[aEs];omega);refine dO x0 (bl ?_)
  have hl:(M.getD (bf t).toNat aw.aa).2.2.2.2.2.2.2.2.2.2.1= -1:=by
   by_cases e:(M.getD (bf t).toNat aw.aa).2.2.2.2.2.2.2.2.2.2.1= -1;exact e;have:=D.2.2.2.2.1.1 e;omega
  dsimp only;rw[Bg g1,hl];simp;exfalso
  have:(fy true k (c,ti,O,st,Z,U,gr,A,nn,T,n_,V,E,M) j).1=false:=by
   unfold fy qj;dsimp only;rw[C,an L];unfold dZ;dsimp only;rw[a_ J];rfl
  rw[this]at hd;cases hd;have c0:((t.2.1:Int)==(0:Int))=false:=by simpa using L
  by_cases p1:t.2.1=1;rw[a_ (by omega)]at D;obtain⟨q1,k1,l1,n1,u0,o1,r1,b0⟩:=D
  have hl:cW (M.getD (bf t).toNat aw.aa)= -1:=by
   by_cases e:(M.getD (bf t).toNat aw.aa).2.2.2.2.2.2.2.2.2.2.1= -1;exact e;have:=u0.1 e;omega
  by_cases J:rl k c st t.2.2.1=true
  have N:fy true k (c,ti,O,st,Z,U,gr,A,nn,T,n_,V,E,M) j=(true,(c,tick ti,O,bT st (bz k st t.2.2.1.1).toNat (-1),Z,U,gr,A,nn,T,n_,V,E.set j zT,M.set (bf t).toNat (dA true false (M.getD (bf t).toNat aw.aa) O ti 3 []))):=by
   unfold fy qj;dsimp only;rw[C];rw[a_ L,an p1,an J,aY]
  rw[N]at d g|-;have h:=pw Q (w:=(c,tick ti,O,bT st (bz k st t.2.2.1.1).toNat (-1),Z,U,gr,A,nn,T,n_,V,E.set j zT,M.set (bf t).toNat (dA true false (M.getD (bf t).toNat aw.aa) O ti 3 []))) (by dsimp only at g;omega);have f:=lC Q (w:=(c,tick ti,O,bT st (bz k st t.2.2.1.1).toNat (-1),Z,U,gr,A,nn,T,n_,V,E.set j zT,M.set (bf t).toNat (dA true false (M.getD (bf t).toNat aw.aa) O ti 3 []))) (by dsimp only at g;omega);dsimp only at d;rw[d]at f;have n:=fun q:Int=>Ez Q (i:=q) (w:=(c,tick ti,O,bT st (bz k st t.2.2.1.1).toNat (-1),Z,U,gr,A,nn,T,n_,V,E.set j zT,M.set (bf t).toNat (dA true false (M.getD (bf t).toNat aw.aa) O ti 3 []))) (by dsimp only at g;omega);simp only[beq_self_eq_true,aEr,if_true,h,w_,aEo,if_false,C,F,V'];refine dO G ?_;have o:decide (0<=(((bf t).toNat:Nat):Int)/\(((bf t).toNat:Nat):Int)<((aEq (M.set (bf t).toNat (dA true false (M.getD (bf t).toNat aw.aa) O ti 3 [])):Nat):Int))=true:=c_ (by rw[aEs];omega);refine dO o (fc f (bm (fun m=>by simp[tick]at m) (fun _=>fc (K _) ?_)));rw[p1];refine bm (fun m=>by simp at m) (fun _=>bm (fun _=> ?_) (fun m=>by simp at m))
  have v:(dA true false (M.getD (bf t).toNat aw.aa) O ti 3 []).2.2.2.2.2.2.1=3:=by
   unfold dA ot;rw[an (by rfl),an hl];rfl
  have B:(bL k st t.2.2.1.1).2=false/\(bq st:Int)=c.2.1:=by
   unfold rl at J;simp only[aEt,b_,Bool.not_eq_true']at J;have:=R.sto.cap;exact⟨J.1,by omega⟩
  have y:qv (c,tick ti,O,bT st (bz k st t.2.2.1.1).toNat (-1),Z,U,gr,A,nn,T,n_,V,E.set j zT,M.set (bf t).toNat (dA true false (M.getD (bf t).toNat aw.aa) O ti 3 [])) (j:Int)=true:=
   alF (by omega) (by show(E.set j zT).length=5;rw[aEs];exact k0) (by show((E.set j zT).getD j ak.aa).1=0;rw[aT _ _ (by omega)];rfl)
  simp only[aT _ _ hn,v,beq_self_eq_true,if_true,B.1,aEx,I,w_,B.2,n,y];exact bl rfl
  have N:fy true k (c,ti,O,st,Z,U,gr,A,nn,T,n_,V,E,M) j=(true,(c,tick ti,O,(cZ k st t.2.2.1).1,Z,U,gr,A,nn,T,n_,V,E.set j (t.1,2,(bL k (cZ k st t.2.2.1).1 t.2.2.1.1).1,t.2.2.2),M.set (bf t).toNat (nT (M.getD (bf t).toNat aw.aa) O ti (if(cZ k st t.2.2.1).2=true then 1 else 2)))):=by
   unfold fy qj;dsimp only;rw[C];rw[a_ L,an p1,a_ J,aY]
  rw[N]at d g|-;have h:=pw Q (w:=(c,tick ti,O,(cZ k st t.2.2.1).1,Z,U,gr,A,nn,T,n_,V,E.set j (t.1,2,(bL k (cZ k st t.2.2.1).1 t.2.2.1.1).1,t.2.2.2),M.set (bf t).toNat (nT (M.getD (bf t).toNat aw.aa) O ti (if(cZ k st t.2.2.1).2=true then 1 else 2)))) (by dsimp only at g;omega);have f:=lC Q (w:=(c,tick ti,O,(cZ k st t.2.2.1).1,Z,U,gr,A,nn,T,n_,V,E.set j (t.1,2,(bL k (cZ k st t.2.2.1).1 t.2.2.1.1).1,t.2.2.2),M.set (bf t).toNat (nT (M.getD (bf t).toNat aw.aa) O ti (if(cZ k st t.2.2.1).2=true then 1 else 2)))) (by dsimp only at g;omega);dsimp only at d;rw[d]at f;have n:=fun q:Int=>Ez Q (i:=q) (w:=(c,tick ti,O,(cZ k st t.2.2.1).1,Z,U,gr,A,nn,T,n_,V,E.set j (t.1,2,(bL k (cZ k st t.2.2.1).1 t.2.2.1.1).1,t.2.2.2),M.set (bf t).toNat (nT (M.getD (bf t).toNat aw.aa) O ti (if(cZ k st t.2.2.1).2=true then 1 else 2)))) (by dsimp only at g;omega);simp only[beq_self_eq_true,aEr,if_true,h,w_,aEo,if_false,C,F,V'];refine dO G ?_;obtain⟨p1',p2,p3,p4,p5⟩:=Kk R.sto.ok b0 hv;have hst':=CP Q (l:=st) (a:=t.2.2.1);have o:decide (0<=(((bf t).toNat:Nat):Int)/\(((bf t).toNat:Nat):Int)<((aEq (M.set (bf t).toNat (nT (M.getD (bf t).toNat aw.aa) O ti (if(cZ k st t.2.2.1).2=true then 1 else 2))):Nat):Int))=true:=c_ (by rw[aEs];omega);refine dO o (fc f (bm (fun m=>by simp[tick]at m) (fun _=>fc (rN Q (by omega) (by omega)) ?_)));rw[p1];refine bm (fun m=>by simp at m) (fun _=>bm (fun _=> ?_) (fun m=>by simp at m));have hfa2:af ab (bL k (cZ k st t.2.2.1).1 t.2.2.1.1).1<=96:=iS Q (fm (p5 R.sto.fit _ (zD p4).2));have v:(nT (M.getD (bf t).toNat aw.aa) O ti (if(cZ k st t.2.2.1).2=true then 1 else 2)).2.2.2.2.2.2.1=(if(cZ k st t.2.2.1).2=true then 1 else 2):=rfl;have o0:(nT (M.getD (bf t).toNat aw.aa) O ti (if(cZ k st t.2.2.1).2=true then 1 else 2)).2.2.2.2.2.2.2.2.2.2.1=ti:=rfl;have E0:(((if(cZ k st t.2.2.1).2=true then(1:Int)else 2):Int)==(3:Int))=false:=by split<;>rfl
  have r0:decide (0<=((j:Nat):Int)/\((j:Nat):Int)<((aEq (E.set j (t.1,2,(bL k (cZ k st t.2.2.1).1 t.2.2.1.1).1,t.2.2.2)):Nat):Int))=true:=c_ (by rw[aEs];omega)
  have P:bW k ((bL k (cZ k st t.2.2.1).1 t.2.2.1.1).1,(bL k (cZ k st t.2.2.1).1 t.2.2.1.1).1,())=some (true,()):=by
   rw[ee Q (gE Q (by omega))];simp
  have G0:=ue Q (l:=(cZ k st t.2.2.1).1) (by omega)
  have S:((((if(cZ k st t.2.2.1).2=true then(1:Int)else 2):Int)==(1:Int)):Bool)==(((bq (cZ k st t.2.2.1).1:Nat):Int)==IntKind.i64.wrap (((bq st:Nat):Int)+1)):=by
   have hcl:=(kT Q R.cf).2.2.2.1;have:=R.sto.cap;rw[wrap64 (by omega) (by omega),p3];cases (cZ k st t.2.2.1).2;have h1:(((bq st+0:Nat):Int)==((bq st:Nat):Int)+1)=false:=by rw[beq_eq_false_iff_ne];omega
   simp only[aEo,if_false];rw[h1];rfl;have h1:(((bq st+1:Nat):Int)==((bq st:Nat):Int)+1)=true:=by rw[beq_iff_eq];omega
   simp only[if_true];rw[h1];rfl
  simp only[aT _ _ hn,v,E0,aEo,if_false,p4,beq_self_eq_true,aEr,Bool.false_or,r0,if_true,aT _ _ (show j<E.length by omega),P,w_,o0,G0,I,S];exact bl rfl;have p2:t.2.1=2:=by have:=D.1;omega
  have N:fy true k (c,ti,O,st,Z,U,gr,A,nn,T,n_,V,E,M) j=(true,(c,tick ti,O,bT st (bz k st t.2.2.1.1).toNat (-1),Z.map (mC t.2.2.1),U++[t.2.2.1],gr,A,nn,T,n_,V++[t.2.2.1],E.set j zT,(M++[eT (mO j t.2.2.1) O ti ti ti]).set (bf t).toNat (lP (M.getD (bf t).toNat aw.aa) ti))):=by
   unfold fy qj;dsimp only;rw[C];rw[a_ L,a_ p1,aY]
  rw[N]at d g|-;have h:=pw Q (w:=(c,tick ti,O,bT st (bz k st t.2.2.1.1).toNat (-1),Z.map (mC t.2.2.1),U++[t.2.2.1],gr,A,nn,T,n_,V++[t.2.2.1],E.set j zT,(M++[eT (mO j t.2.2.1) O ti ti ti]).set (bf t).toNat (lP (M.getD (bf t).toNat aw.aa) ti))) (by dsimp only at g;omega);have f:=lC Q (w:=(c,tick ti,O,bT st (bz k st t.2.2.1.1).toNat (-1),Z.map (mC t.2.2.1),U++[t.2.2.1],gr,A,nn,T,n_,V++[t.2.2.1],E.set j zT,(M++[eT (mO j t.2.2.1) O ti ti ti]).set (bf t).toNat (lP (M.getD (bf t).toNat aw.aa) ti))) (by dsimp only at g;omega);dsimp only at d;rw[d]at f;have n:=fun q:Int=>Ez Q (i:=q) (w:=(c,tick ti,O,bT st (bz k st t.2.2.1.1).toNat (-1),Z.map (mC t.2.2.1),U++[t.2.2.1],gr,A,nn,T,n_,V++[t.2.2.1],E.set j zT,(M++[eT (mO j t.2.2.1) O ti ti ti]).set (bf t).toNat (lP (M.getD (bf t).toNat aw.aa) ti))) (by dsimp only at g;omega);simp only[beq_self_eq_true,aEr,if_true,h,w_,aEo,if_false,C,F,V'];refine dO G ?_;rw[an p2]at D;obtain⟨q1,k1,l1,n1,u0,o1,r1,b0,u1⟩:=D;have o:decide (0<=(((bf t).toNat:Nat):Int)/\(((bf t).toNat:Nat):Int)<((aEq ((M++[eT (mO j t.2.2.1) O ti ti ti]).set (bf t).toNat (lP (M.getD (bf t).toNat aw.aa) ti)):Nat):Int))=true:=c_ (by rw[aEs,aEw];omega);refine dO o (fc f (bm (fun m=>by simp[tick]at m) (fun _=>fc (K _) ?_)));rw[p2];refine bm (fun m=>by simp at m) (fun _=>bm (fun m=>by simp at m) (fun _=> ?_))
  have P:bW k (t.2.2.1,t.2.2.1,())=some (true,()):=by
   rw[ee Q (gE Q (by omega))];simp
  have hsl:=ay (e:=ab) (l:=V)
  have hlen:(((aEq (V++[t.2.2.1]):Nat):Int)==IntKind.i64.wrap (((aEq V:Nat):Int)+1))=true:=by
   rw[wrap64 (by omega) (by omega),aEw,aEu];simp
  have L0:decide (0<=((aEq V:Nat):Int)/\((aEq V:Nat):Int)<((aEq (V++[t.2.2.1]):Nat):Int))=true:=c_ (by rw[aEw,aEu];omega);have R0:aED (V++[t.2.2.1]) (aEq V) ab.aa=t.2.2.1:=re _;have W:=Zp Q (l:=Z) (a:=t.2.2.1) (by omega) (by omega);have hts:=ad5 Q (a:=t.2.2.1) Z;have hsn:=R.sub.len;have hcs:=(kT Q R.cf).2.2.2;have hmul:(af ab t.2.2.1+1)*Z.length<=97*2:=Nat.mul_le_mul (by omega) (by omega);have a1:=HD Q (l:=Z.map (mC t.2.2.1)) (by omega)
  have y:qv (c,tick ti,O,bT st (bz k st t.2.2.1.1).toNat (-1),Z.map (mC t.2.2.1),U++[t.2.2.1],gr,A,nn,T,n_,V++[t.2.2.1],E.set j zT,(M++[eT (mO j t.2.2.1) O ti ti ti]).set (bf t).toNat (lP (M.getD (bf t).toNat aw.aa) ti)) (j:Int)=true:=
   alF (by omega) (by show(E.set j zT).length=5;rw[aEs];exact k0) (by show((E.set j zT).getD j ak.aa).1=0;rw[aT _ _ (by omega)];rfl)
  have hcap:=R.sto.cap
  have X:jF k (bT st (bz k st t.2.2.1.1).toNat (-1),())=some (dE (bU st),()):=by
   rw[xC Q (z _) (by rw[mR];omega),Cc]
  have Y:=xC Q (l:=st) (by omega) (by omega);have s0:=rq Q (l:=dE (bU st)) (by rw[tL];have:=fw Q st;omega);simp only[b0,u1,beq_self_eq_true,if_true,P,w_,hlen,aEr,Bool.false_or,L0,V',R0,W,a1,n,y,X,Y,s0];exact bl rfl
 obtain⟨⟨b,u⟩,e,hb⟩:=key;rw[e];dsimp only at hb;rw[hb]
def akv{x:List Int×Unit}(hx:Fits (.sl (.int .u8)) x.1):PY k x=some (true,()):=ajg Q x.1
end
end Vg.Tryz
namespace Go.Proofs.YtgikmhjpcnnhjaaGreat.fnPutSteps
open Go.ChangeShapes Go.WideShapes Go.ChangeAt Go.RowKit Vg
def laid:laidOutB Tryz.prog=true:=by kernel_rfl
def e_9:(Rows.fnPutStepsRow.inPlace==Program.inPlace Tryz.prog 7)=true:=by kernel_rfl
def ac2:(Rows.fnPutStepsRow.unfollowed==Program.unfollowed Tryz.prog 7)=true:=by kernel_rfl
def abU:(Rows.fnPutStepsRow.recurses==Program.recurses Tryz.prog 7)=true:=by kernel_rfl
def aaP:(Rows.fnPutStepsRow.named==Program.varsNamed Tryz.prog 7)=true:=by kernel_rfl
def abv:(Rows.fnPutStepsRow.plainKeys==Program.plainKeys Tryz.prog)=true:=by kernel_rfl
def abR:Program.stopsHeard Tryz.prog=true:=by kernel_rfl
def acg:Program.mayEnter Tryz.prog=true:=by kernel_rfl
def acb:(Rows.fnPutStepsRow.lifted==Program.liftsFinal Tryz.prog)=true:=by kernel_rfl
def acr:(Program.make Tryz.prog==some Rows.fnPutStepsRow.make)=true:=by kernel_rfl
def facts:joinedFacts Tryz.prog 7 Tryz.f7 Rows.fnPutStepsSpec Rows.fnPutStepsRow=true:=by
 unfold joinedFacts;simp only[aEt]
 repeat' apply And.intro
 kernel_rfl
 exact laid
 kernel_rfl
 kernel_rfl
 kernel_rfl
 kernel_rfl
 kernel_rfl
 kernel_rfl
 kernel_rfl
 exact e_9;exact ac2;exact abU;exact aaP
 kernel_rfl
 kernel_rfl
 kernel_rfl
 kernel_rfl
 kernel_rfl
 kernel_rfl
 kernel_rfl
 kernel_rfl
 kernel_rfl
 exact abv
 kernel_rfl
 exact abR;exact acg;exact acb;exact acr
 kernel_rfl
 kernel_rfl
 kernel_rfl
 kernel_rfl
end Go.Proofs.YtgikmhjpcnnhjaaGreat.fnPutSteps
