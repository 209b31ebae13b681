/- Texts of this law, joined. -/
import Derived.Test.YtgikmhjpcnnhjaaGreatQsS9
import Derived.Test.YtgikmhjpcnnhjaaGreatQsPH
import Derived.Test.YtgikmhjpcnnhjaaGreatQsR9
import Derived.Test.YtgikmhjpcnnhjaaGreatRows
import Derived.Test.YtgikmhjpcnnhjaaGreatVc
set_option linter.unusedSimpArgs false
set_option linter.unusedVariables false
set_option linter.unusedSectionVars false
set_option linter.defProp false
open Option renaming bind_some -> D',bind -> aLp
open Int renaming toNat_natCast -> aLn,toNat -> aLD,le_refl -> aLE
open Bool renaming false_eq_true -> aLo,and_eq_true -> aLr,not_true -> aLs,true_and -> aLw,not_false -> aLB
open List renaming length -> aLq,length_singleton -> aLt,length_append -> aLv,set_eq_of_length_le -> aLx,length_set -> aLy,mem_append_right -> aLA,mem_cons_self -> aLC,length_take -> aLF,replicate -> aLH
open Nat renaming le_trans -> aLu,le_refl -> aLz,le_add_right -> aLG
namespace Vg.Tryz
open Go Vg
def DS(e:cq):Prop:=af ab e.2.2.1<=2900/\af (.sl al) e.2.2.2<=2900
section
variable{k:Nat}(Q:9223372036854775808<=k)
include Q
def xK{a b:Int}:DS (a,b,([],0,0,ByteArray.empty),[]):=by
 have e1:=gZ Q;have e2:af (.sl al) ([]:List ai)=0:=aX;exact⟨by show af ab cF<=2900;omega,by show af (.sl al) ([]:List ai)<=2900;omega⟩
def Vz{w:ag}(h:bC k w=true):af (.sl ab) (dE (bU w.2.2.2.1))<=776/\af (.sl ah) w.2.2.2.1<=1000:=by
 obtain⟨c,ti,O,st,Z,U,gr,A,nn,T,n_,V,E,M⟩:=w;have R:=bR.1 h;have h1:=jo Q (l:=bU st) fun a b=>fm (R.sto.fit a b);have d:=R.sto.cap;have h3:=(kT Q R.cf).2.2.2.1;have e:=Hx Q R.sto.ok;have h5:=(cE.1 R.sto.ok).2;unfold bq at d e;rw[tL];dsimp only;omega
set_option maxHeartbeats 8000000 in
def Po{c:aE}{w:ag}(hc:aR c)(hw:bC k w=true):Dr (nF k (c,w,())) (fun r=>DS r.1/\aR r.2.1):=by
 have W:(bF w).length=5:=by
  obtain⟨c,ti,O,st,Z,U,gr,A,nn,T,n_,V,E,M⟩:=w;exact(bR.1 hw).tl
 obtain⟨t1,t2⟩:=Vz Q hw;have t3:=ay (e:=ab) (l:=dE (bU w.2.2.2.1));have v:=rL Q (l:=w.2.2.2.1) (by omega)
 have o:∀t:aE×ag×cq×Int×ae×Unit,(aR t.1/\t.2.1=w/\af ab t.2.2.2.2.1<=400)->Dr (
  aLp (cS k (t.2.1.2.2.2.1,())) fun C=>
  aLp (bJ k (t.1,())) fun f=>
  if(decide (aLq C.1+aLq ([f.1]:List ae)<4294967296))=true then
   aLp (dD k (f.2.1,C.1++([f.1]:List ae),())) fun m=>
   aLp (bd k (m.2.1,([(0:Int),(3:Int),(9:Int),(60:Int)]:List Int),())) fun n=>
   some (((1:Int),t.2.2.2.1,(m.1,t.2.2.2.2.1.2.1,IntKind.i64.wrap (t.2.2.2.2.1.2.1+n.1),t.2.2.2.2.1.2.2.2),([]:List ai)),n.2.1,())
  else
   none) (fun r:cq×aE×Unit=>DS r.1/\aR r.2.1):=by
  rintro⟨c',w',e,i,a,u⟩ ⟨L,N,g3⟩;dsimp only at L N g3|-;subst N;rw[v,D'];refine aS (dY Q L) (fun f xe=>dO (c_ (by simp only[aLt];omega)) ?_)
  have hl:af (.sl ab) (dE (bU w'.2.2.2.1)++[f.1])<=1000:=by
   rw[dP (e:=ab),bS (e:=ab),aX];have:=xe.2;omega
  refine aS (CB Q (l:=dE (bU w'.2.2.2.1)++[f.1]) xe.1 (by omega)) (fun m mE=>aS (cQ Q mE.1 (by decide)) (fun n vq=>bl ⟨⟨?_,?_⟩,vq⟩))
  ·have e1:=bo Q (m.1,a.2.1,IntKind.i64.wrap (a.2.1+n.1),a.2.2.2);have e2:=bo Q a;have:=mE.2;dsimp only at e1|-;omega
  ·show af (.sl al) ([]:List ai)<=2900;rw[aX];omega
 have p:∀(r:aE) (q:ae) (i:Int) (J:aE×ag×cq×Int×ae×Unit->Option (cq×aE×Unit)),aR r->af ab q<=121->
  (∀s,(aR s.1/\s.2.1=w/\af ab s.2.2.2.2.1<=400)->Dr (J s) (fun r:cq×aE×Unit=>DS r.1/\aR r.2.1))->
  Dr (aLp (cB k (r,(16:Int),())) fun R=>
   if R.1=true then
    aLp (dy k (R.2.1,())) fun X=>
    J (X.2.1,w,(0,0,(([]:List ai),0,0,ByteArray.empty),([]:List ai)),i,X.1,())
   else
    J (R.2.1,w,(0,0,(([]:List ai),0,0,ByteArray.empty),([]:List ai)),i,q,())) (fun r:cq×aE×Unit=>DS r.1/\aR r.2.1):=by
  intro r q i J hr hq g;refine aS (gu Q hr) (fun R h8=>bm (fun _=> ?_) (fun _=>g _ ⟨h8,rfl,by dsimp only;omega⟩));exact aS (mG Q h8) (fun X h9=>g _ ⟨h9.1,rfl,h9.2⟩)
 have d:∀(B:Int) (y:aE) (i:Int) (J:aE×ag×cq×Unit->Option (cq×aE×Unit)),aR y->
  (∀s,(aR s.1/\s.2.1=w)->Dr (J s) (fun r:cq×aE×Unit=>DS r.1/\aR r.2.1))->
  Dr (if((B:Int)==(3:Int))=true then
   aLp (cS k (w.2.2.2.1,())) fun Y=>
   aLp (dD k (y,Y.1,())) fun x=>
   some (((2:Int),i,(([]:List ai),0,0,ByteArray.empty),x.1),x.2.1,())
  else
   if((B:Int)==(4:Int))=true then
    aLp (bd k (y,([(3:Int),(4:Int)]:List Int),())) fun D=>
    some ((D.1,i,(([]:List ai),0,0,ByteArray.empty),([]:List ai)),D.2.1,())
   else
    if((B:Int)==(5:Int))=true then
     aLp (bd k (y,([(1:Int),(1:Int),(2:Int),(5:Int)]:List Int),())) fun F=>
     some (((7:Int),F.1,(([]:List ai),0,0,ByteArray.empty),([]:List ai)),F.2.1,())
    else
     if((B:Int)==(6:Int))=true then
      aLp (aL k (y,(2:Int),())) fun H=>
      some (((6:Int),H.1,(([]:List ai),0,0,ByteArray.empty),([]:List ai)),H.2.1,())
     else
      J (y,w,(0,0,(([]:List ai),0,0,ByteArray.empty),([]:List ai)),())) (fun r:cq×aE×Unit=>DS r.1/\aR r.2.1):=by
  intro B y i J j g;refine bm (fun _=> ?_) (fun _=>bm (fun _=> ?_) (fun _=>bm (fun _=> ?_) (fun _=>bm (fun _=> ?_) (fun _=>g _ ⟨j,rfl⟩))))
  ·rw[v,D'];refine aS (CB Q j (by dsimp only;omega)) (fun x Kv=>bl ⟨⟨?_,?_⟩,Kv.1⟩)
   ·have:=gZ Q;show af ab cF<=2900;omega
   ·have:=Kv.2;dsimp only at this|-;omega
  ·exact aS (cQ Q j (by decide)) (fun r h=>bl ⟨xK Q,h⟩)
  ·exact aS (cQ Q j (by decide)) (fun r h=>bl ⟨xK Q,h⟩)
  ·exact aS (aQ Q j) (fun r h=>bl ⟨xK Q,h.1⟩)
 simp only[nF];refine aS (aQ Q hc) (fun r1 h1=>zp (fun t:aE×ag×cq×Unit=>aR t.1/\t.2.1=w) ?_ ?_)
 ·rintro⟨c3,w3,e3,u3⟩ ⟨L,N⟩;dsimp only at L N|-;subst N;refine aS (aQ Q L) (fun r47 z=>zp (fun t:aE×ag×cq×Int×Unit=>aR t.1) (fun t ht=>bl ⟨xK Q,ht⟩) (fun J g=> ?_));refine vg (fun t:aE×ag×cq×Int×Int×Unit=>(3-t.2.2.2.2.1).toNat) (fun t=>aR t.1/\t.2.1=w3/\0<=t.2.2.2.1/\t.2.2.2.1<5/\0<=t.2.2.2.2.1/\t.2.2.2.2.1<=3) ?_ ⟨z.1,rfl,by have:=z.2;dsimp only;omega,by have:=z.2;dsimp only;omega,aLE _,by show(0:Int)<=3;decide⟩ (by dsimp only;omega);rintro G ⟨c5,w5,e5,i5,n5,u5⟩ ⟨q1,q2,q3,q4,q5,q6⟩ hG;dsimp only at q1 q2 q3 q4 q5 q6 hG|-;subst q2;refine bm (fun I=>dO ?_ ?_) (fun _=>g _ q1)
  ·rw[show w5.2.2.2.2.2.2.2.2.2.2.2.2.1.length=5 from W];exact c_ ⟨q3,by omega⟩
  ·have I:n5<3:=by simpa using I
   have c0:∀b:Bool,Dr (if b=true then lL k (w5,())else some (false,())) (fun _=>True):=fun b=>bm (fun _=>⟨_,AW Q,trivial⟩) (fun _=>⟨_,rfl,trivial⟩);refine aS (P:=fun _=>True) (c0 _) (fun r52 _=>bm (fun _=>g _ q1) (fun _=>aS (aQ Q q1) (fun r53 K=> ?_)))
   ·have:=K.2;rw[wrap64 (by omega) (by omega)];exact hG _ ⟨K.1,rfl,by dsimp only;omega,by dsimp only;omega,by dsimp only;omega,by dsimp only;omega⟩ (by dsimp only;omega)
 ·intro J g;refine aS (aQ Q h1.1) (fun B S=> ?_);refine bm (fun _=>bm (fun _=> ?_) (fun _=>d _ _ _ _ S.1 g)) (fun _=>bm (fun _=>bm (fun _=> ?_) (fun _=>d _ _ _ _ S.1 g)) (fun _=>bm (fun _=> ?_) (fun _=>d _ _ _ _ S.1 g)))
  all_goals
   exact aS (dY Q S.1) (fun r5 W=>zp _ o (fun J' b0=>p _ _ _ _ W.1 W.2 b0))
theorem Pz{b:List Int}{m:Int}(hb:b.length<=1048576)(a:0<=m):Dr (mX k (b,m,())) (fun r=>0<=r.1/\r.1<=1048576/\(r.1<=m\/m<0)):=by
 simp only[mX]
 have d:Int.tdiv (b.length:Int) 12=((b.length/12:Nat):Int):=by
  rw[Int.tdiv_eq_ediv_of_nonneg (by omega)];rfl
 rw[d,wrap64 (n:=((b.length/12:Nat):Int)) (by omega) (by omega),wrap64 (by omega) (by omega)];refine dO (by decide) (bm (fun h=> ?_) (fun h=> ?_));have h:m<3+((b.length/12:Nat):Int):=by simpa using h
 exact bl ⟨a,by dsimp only;omega,.inl (aLE _)⟩;have h:¬m<3+((b.length/12:Nat):Int):=by simpa using h
 exact bl ⟨by dsimp only;omega,by dsimp only;omega,.inl (by dsimp only;omega)⟩
end
def ND(a:List aC)(gs:List au):Prop:=
 ∀pre d post,a=pre++d::post->d.1=7->¬s9 d=3->(∃e∈post,RC e (UC d) d.2.2.1)\/PT gs (UC d) d.2.2.1
structure NL(w:ag):Prop where
 opg:ml (bV w)
 cnt:(fM (bV w)).foldl (Qs w.1.2.1) (some 0)=some (bq (mH w):Int)
 nd:ND (fM (bV w)) (iA w)
def WE{p news:List aC}{gs a:List au}(h:ND p gs)(g:P2 gs a news):ND (p++news) a:=by
 intro pre d post e h7 f;rcases List.append_eq_append_iff.1 e with⟨m,q,b⟩|⟨m,q,b⟩;have j:d∈news:=by rw[b];exact aLA _ (aLC ..)
 exact .inr (g.2 d j h7 f);cases m with
 |nil=>
  have j:d∈news:=by
   have r:news=d::post:=by simpa using b.symm
   rw[r];exact aLC ..
  exact .inr (g.2 d j h7 f)
 |cons x m=>
  rw[List.cons_append]at b;obtain⟨rfl,rfl⟩:=List.cons.inj b;rcases h pre d m q h7 f with⟨x,l,n⟩|o;exact .inl ⟨x,List.mem_append_left _ l,n⟩;rcases g.1 _ _ o with o|⟨x,l,n⟩;exact .inr o;exact .inl ⟨x,aLA _ l,n⟩
def qc(r:Bool×ag):(bH r).2.1=r.2.1:=by
 unfold bH;split<;>rfl
def Vs{k:Nat}{w:ag}{i:Nat}:(iU true k w i).2.1=w.1:=by
 obtain⟨c,ti,O,st,Z,U,gr,A,nn,T,n_,V,E,M⟩:=w;unfold iU;split
 ·unfold fy;rw[qc];unfold qj dZ;dsimp only
  repeat' split
  all_goals rfl
 split
 ·unfold nW;rw[qc];unfold wV mF fH dZ;dsimp only
  repeat' split
  all_goals rfl
 split
 ·unfold eF;rw[qc];unfold qJ dZ;dsimp only
  repeat' split
  all_goals rfl
 split
 ·unfold eW;rw[qc];unfold gH gL;dsimp only
  repeat' split
  all_goals rfl
 split
 ·unfold fK;rw[qc];unfold gP gL;dsimp only
  repeat' split
  all_goals rfl
 rfl
def Vn{k:Nat}{w:ag}{e:cq}:(pz k w e).2.1=w.1:=by
 unfold pz;split;split;dsimp only;split<;>rfl;rfl;split;split<;>rfl;split;split<;>rfl;split;split<;>rfl;split;split;exact Vs;rfl;split;split<;>rfl;split;split<;>rfl;rfl
def WW{k:Nat}{w:ag}{e:cq}{n:Nat}(h:bC k w=true)(f:vt n w)(hn:n<=160)(g:(pz k w e).1=true)(a:NL w):NL (pz k w e).2:=by
 have j:0<=w.2.1:=by
  obtain⟨c,ti,O,st,Z,U,gr,A,nn,T,n_,V,E,M⟩:=w;exact(bR.1 h).ti0
 obtain⟨news,b,l,m⟩:=Vo h (fun p d=>by have:=f.ver p d;omega) g;refine⟨W1 j a.opg,?_,?_⟩;rw[b,List.foldl_append,Vn,a.cnt];exact l;rw[b];exact WE a.nd m
def VS{c:bh}(hc:cR c=true):NL (iG c):=by
 have g:0<=c.1/\c.1<=3/\1<=c.1:=by
  unfold cR bc at hc;simp only[aLr,b_]at hc;omega
 have h:dq c.1=aLH c.1.toNat (-1,0,[]):=by
  unfold dq;simp[g]
 have b:bq (dq c.1)=0:=by
  rw[h]
  have:bU (aLH c.1.toNat ((-1,0,[]):ar))=[]:=by
   refine List.eq_nil_iff_forall_not_mem.2 fun a j=> ?_;obtain⟨p,m,ch,f,_⟩:=Kr.1 j;rw[(List.mem_replicate.1 m).2]at f;exact absurd f (List.not_mem_nil)
  unfold bq;rw[this];rfl
 unfold iG;rw[an hc];refine⟨fun d l=>(by cases l),?_,fun pre d post e=> ?_⟩;show some (0:Int)=some ((bq (dq c.1):Nat):Int);rw[b];rfl;have e:([]:List aC)=pre++d::post:=e;simp at e
section
variable{k:Nat}(Q:9223372036854775808<=k)
include Q
set_option maxHeartbeats 8000000 in
def Qv{c:aE}{m:Int}{P:ag->Prop}(q:∀c,cR c=true->P (iG c))(s:∀w e n,bC k w=true->vt n w->n<=160->(pz k w e).1=true->P w->P (pz k w e).2)
 (hc:aR c) (hm:m<=1000):Dr (mY k (c,m,())) (fun r=>(MN k r.2.2.1/\P r.2.2.1)/\aR r.2.2.2.1):=by
 simp only[mY];refine aS (Es Q hc) (fun r1 b=> ?_);obtain⟨h,j⟩:=Oq Q b.2;have hsz:=Ck Q h j (by omega);have hcs:=(kT Q b.2).1;refine fc (zi Q (by omega)) (fc (tN Q (by dsimp only;omega)) ?_);refine zp (fun t:aE×ag×ag×List cq×ag×ag×Unit=>aR t.1/\MN k t.2.2.2.2.2.1/\P t.2.2.2.2.2.1) (fun t f=>bl ⟨f.2,f.1⟩) (fun J o=> ?_);refine aS (aQ Q b.1) (fun r6 h6=> ?_)
 refine vg (fun t:aE×ag×ag×List cq×ag×ag×Int×Unit=>t.2.2.2.2.2.2.1.toNat)
  (fun t=>aR t.1/\bC k t.2.2.2.2.2.1=true/\P t.2.2.2.2.2.1/\vt t.2.2.2.1.length t.2.2.2.2.2.1/\t.2.2.2.1.length<=160/\t.2.2.2.2.2.2.1<=2000/\-1<=t.2.2.2.2.2.2.1) ?_ ⟨h6.1,h,q _ b.2,j,by simp,?_,?_⟩ ?_
 rintro G ⟨c8,w1,w2,l,w3,w,i,u⟩ ⟨q1,q2,q0,q3,q4,q5,q6⟩ hG;dsimp only at q1 q2 q0 q3 q4 q5 q6 hG|-;refine bm (fun a=> ?_) (fun _=>o _ ⟨q1,⟨q2,_,q4,q3⟩,q0⟩)
 have a:0<i/\(l.length:Int)<160:=by
  by_cases d:(0:Int)<i;rw[an (by simpa using d)]at a;exact⟨d,by simpa using a⟩;rw[a_ (by simpa using d)]at a;cases a
 refine aS (Po Q q1 q2) (fun p h9=>dO (c_ (by simp only[aLt];omega)) ?_);have v:=Ck Q q2 q3 q4;refine fc (tN Q (by omega)) (fc (EB Q (aLu v (by decide)) q2 (by have:=h9.1.1;omega) (by have:=h9.1.2;omega)) ?_);have x:IntKind.i64.wrap (i-1)=i-1:=wrap64 (by omega) (by omega);rw[x];have hlen:(l++[p.1]).length=l.length+1:=by simp
 refine bm (fun g=> ?_) (fun _=> ?_);obtain⟨y,z⟩:=SM Q q2 q3 q4 h9.1.1 g;exact hG _ ⟨h9.2,y,s _ _ _ q2 q3 q4 g q0,by dsimp only;rw[hlen];exact z,by dsimp only;rw[hlen];omega,by dsimp only;omega,by dsimp only;omega⟩ (by dsimp only;omega);refine hG _ ⟨h9.2,q2,q0,?_,by dsimp only;rw[hlen];omega,by dsimp only;omega,by dsimp only;omega⟩ (by dsimp only;omega);dsimp only;rw[hlen];exact Ex.stay q3;have:=h6.2;dsimp only;rw[wrap64 (by omega) (by omega)];omega;have:=h6.2;dsimp only;rw[wrap64 (by omega) (by omega)];omega;have:=h6.2;dsimp only;rw[wrap64 (by omega) (by omega)];omega
def MY{c:aE}{m:Int}(hc:aR c)(g:m<=1000):Dr (km k (c,m,())) (fun r=>(MN k r.1/\NL r.1)/\aR r.2.1):=by
 simp only[km];obtain⟨r,e,h⟩:=Qv Q (P:=NL) (fun c hc=>VS hc) (fun w e n h a b d f=>WW h a b d f) hc g;rw[e,D'];exact⟨_,rfl,h⟩
end
def D3{d:aC}{O ti code:Int}(h:cW d= -1->lA d=[]):dA false false d O ti code []=dA true false d O ti code []:=by
 unfold dA ot Lj;simp only[Bool.or_false,aLo,if_false,if_true];by_cases e:cW d= -1;rw[an e,an e];have b:=h e;obtain⟨op,task,a,l,i,n,cd,gt,nw,inv,lin,res⟩:=d;unfold lA at b;dsimp only at b;subst b;rfl;rw[a_ e,a_ e]
def abX{s:Bool}{d:aC}{O ti code:Int}{got:List ae}:dA s true d O ti code got=dA true true d O ti code got:=by
 cases s<;>rfl
def X0(w:ag)(i:Nat):aC:=(bV w).getD (bf ((bF w).getD i ak.aa)).toNat aw.aa
theorem aie{k:Nat}{w:ag}{i:Nat}(h:cW (X0 w i)= -1->lA (X0 w i)=[]):iU false k w i=iU true k w i:=by
 obtain⟨c,ti,O,st,Z,U,gr,A,nn,T,n_,V,E,M⟩:=w;have h:cW (M.getD (bf (E.getD i ak.aa)).toNat aw.aa)= -1->lA (M.getD (bf (E.getD i ak.aa)).toNat aw.aa)=[]:=h;unfold iU;dsimp only[bF];by_cases a:(E.getD i ak.aa).1=1;rw[an a,an a];unfold fy qj;dsimp only;rw[D3 h];rw[a_ a,a_ a];by_cases b:(E.getD i ak.aa).1=2\/(E.getD i ak.aa).1=3;rw[an b,an b];unfold nW wV mF fH;dsimp only;rw[D3 h,abX (s:=false),abX (s:=false)];rw[a_ b,a_ b];by_cases d:(E.getD i ak.aa).1=4;rw[an d,an d];unfold eF qJ;dsimp only;rw[D3 h];rw[a_ d,a_ d];by_cases e:i=3;subst e;rw[an rfl,an rfl];unfold eW gH;dsimp only;have f:∀n:Int,cW (ou (M.getD (bf (E.getD 3 ak.aa)).toNat aw.aa) n)= -1->lA (ou (M.getD (bf (E.getD 3 ak.aa)).toNat aw.aa) n)=[]:=fun n=>h;rw[D3 h,D3 (f nn)];cases eR A (keyOf (E.getD 3 ak.aa).2.2.1 c.2.2.2.2.2)with
 |none=>rfl
 |some j=>dsimp only;rw[D3 (f _)]
 rw[a_ e,a_ e];by_cases h6:i=4;subst h6;rw[an rfl,an rfl];unfold fK gP;dsimp only;rw[D3 h,abX (s:=false)];rw[a_ h6,a_ h6]
section
variable{k:Nat}(Q:9223372036854775808<=k)
include Q
def aci(w:ag)(i:Nat):Int:=((bF w).getD i ak.aa).1
omit Q in
theorem T8{w:ag}(h:bC k w=true):(bF w).length=5:=by
 obtain⟨c,ti,O,st,Z,U,gr,A,nn,T,n_,V,E,M⟩:=w;exact(bR.1 h).tl
end
def Gp(E:List aF)(M:List aC):Prop:=
 E.length=5->∀i,i<5->¬(E.getD i ak.aa).1=0->cW (M.getD (bf (E.getD i ak.aa)).toNat aw.aa)= -1->lA (M.getD (bf (E.getD i ak.aa)).toNat aw.aa)=[]
structure JT(w:ag):Prop where
 tt:af az w<=1040000
 ti:w.2.1<=1000
 nn:Zg w<=1000
 ver:∀p∈mH w,p.2.1<=1000
 hp:(EC w).length<=15\/17<=(EC w).length
 got:Gp (bF w) (bV w)
section
variable{k:Nat}(Q:9223372036854775808<=k)
include Q
def fV{c:bh}{ti O gr nn:Int}{st:List ar}{Z:List bg}{U V:List ae}{A:List au}{T:List aJ}{n_:List br}{E:List aF}{M:List aC}
 (h:af cM c+af (.sl ah) st+af (.sl aU) Z+af (.sl ab) U+af (.sl aj) A+af (.sl aD) T+af (.sl bM) n_+af (.sl ab) V+af (.sl ak) E+af (.sl aw) M<=1040000)
 (a:ti<=1000) (b:nn<=1000) (d:∀p∈st,p.2.1<=1000) (e:T.length<=15\/17<=T.length) (f:Gp E M):JT (c,ti,O,st,Z,U,gr,A,nn,T,n_,V,E,M):=
 ⟨by rw[da Q];exact h,a,b,d,e,f⟩
set_option maxHeartbeats 4000000 in
def Oo{c:aE}{m:Int}(hc:aR c)(H:m<=1000):Dr (mJ k (c,m,())) (fun r=>JT r.1/\aR r.2.1):=by
 simp only[mJ];refine aS (MY Q hc H) (fun D j=>aS (aQ Q j.2) (fun r2 f=> ?_));obtain⟨⟨⟨z,n,J,B⟩,K⟩,-⟩:=j;have x:=Ck Q z B J;obtain⟨w,cc,u⟩:=D;obtain⟨C,ti,O,st,Z,U,gr,A,nn,T,n_,V,E,M⟩:=w;have R:=bR.1 z;have X:Ex n C ti st U A nn T n_ V E M:=B;have v:ml M:=K.opg;rw[da Q]at x;dsimp only at x|-;have hti:=X.ti;have hnn:=X.nn;have b:∀p∈st,p.2.1<=1000:=fun p o=>by have:=X.ver p o;omega
 have a:T.length<=15\/17<=T.length:=by
  have j:=X.hp;have f:=(cG.1 R.grp.go).1;exact .inl (by omega)
 have d:Gp E M:=fun _ i q _=>v.at_;have hA:af (.sl ab) ([]:List ae)=0:=aX;have hS:af (.sl aU) ([]:List bg)=0:=aX;have hD:af (.sl aw) ([]:List aC)=0:=aX;have l1:=ay (e:=aU) (l:=Z);have l2:=ay (e:=ab) (l:=U);have l3:=ay (e:=aw) (l:=M);have l4:=ay (e:=ab) (l:=V);refine bm (fun _=>aS (Q5 Q f.1) (fun r h=>bl ⟨fV Q (by have:=h.2;omega) (by omega) (by omega) b a d,h.1⟩)) (fun _=> ?_);refine bm (fun _=>bl ⟨fV Q (by omega) (by omega) (by omega) b a d,f.1⟩) (fun _=> ?_);refine bm (fun _=>aS (D6 Q f.1) (fun r h=>bl ⟨fV Q (by omega) (by omega) (by omega) b a d,h⟩)) (fun _=> ?_);refine bm (fun _=>aS (TK Q f.1) (fun r h=>bl ⟨fV Q (by have:=h.2.1;omega) (by omega) (by omega) (fun p o=>by have:=h.2.2 p o;omega) a d,h.1⟩)) (fun _=> ?_);refine bm (fun _=>aS (TF Q f.1) (fun r h=>dO (by simp;omega) (bl ⟨fV Q (by have:=h.2;rw[dP (e:=aU),bS (e:=aU)];omega) (by omega) (by omega) b a d,h.1⟩))) (fun _=> ?_);refine bm (fun _=>aS (mG Q f.1) (fun r h=>dO (by simp;omega) (bl ⟨fV Q (by have:=h.2;rw[dP (e:=ab),bS (e:=ab)];omega) (by omega) (by omega) b a d,h.1⟩))) (fun _=> ?_);refine bm (fun _=>aS (aQ Q f.1) (fun r h=>bl ⟨fV Q (by omega) (by omega) (by omega) b a d,h.1⟩)) (fun _=> ?_);refine bm (fun _=>aS (RS Q f.1 (by have:=(kT Q R.cf).1;rw[js Q]at this;have:=ay (e:= .str) (l:=C.2.2.2.2.2);omega)) (fun r h=>bl ⟨fV Q (by have:=h.2;omega) (by omega) (by omega) b a d,h.1⟩)) (fun _=> ?_);refine bm (fun _=>aS (Nn Q (-1) 1 f.1 (by decide) (by decide)) (fun r h=>bl ⟨fV Q (by omega) (by omega) (by have:=h.2;omega) b a d,h.1⟩)) (fun _=> ?_);refine bm (fun _=>aS (RF Q f.1) (fun r h=>bl ⟨fV Q (by have:=h.2;have:=aa7 Q r.1;omega) (by omega) (by omega) b (by have:=h.2;omega) d,h.1⟩)) (fun _=> ?_);refine bm (fun _=> ?_) (fun _=> ?_);refine aS (aQ Q f.1) (fun g mE=>aS (RY Q mE.1) (fun s vq=>dO (c_ ?_) (bl ⟨fV Q ?_ (by omega) (by omega) b a (fun _ i q _=>v.at_),vq.1⟩)));have:=mE.2;have:=R.tl;omega;have I:g.1.toNat<E.length:=by have:=mE.2;have:=R.tl;omega
 have:=ij (e:=ak) E g.1.toNat s.1 I;have:=vq.2;omega;refine bm (fun _=> ?_) (fun _=> ?_);refine aS (Sr Q f.1) (fun r14 FJ=>dO (by simp;omega) (bl ⟨fV Q (by have:=FJ.2;rw[dP (e:=aw),bS (e:=aw)];omega) (by omega) (by omega) b a ?_,FJ.1⟩));intro _ i q F;have hb:=uk (R.tas i q) F;rw[ig _ (by omega)];exact v.at_;refine bm (fun _=> ?_) (fun _=> ?_);have y:aLD 4=4:=rfl;have ht:=cN (e:=ak) E 4;refine dO (c_ ⟨by decide,by have:=R.tl;omega⟩) (bl ⟨fV Q (by rw[y];omega) (by omega) (by omega) b a ?_,f.1⟩);intro G;rw[aLF,y]at G;omega;refine bm (fun _=>aS (mG Q f.1) (fun r h=>dO (by simp;omega) (bl ⟨fV Q (by have:=h.2;rw[dP (e:=ab),bS (e:=ab)];omega) (by omega) (by omega) b a d,h.1⟩))) (fun _=> ?_);exact bl ⟨fV Q (by omega) (by omega) (by omega) b a d,f.1⟩
def acp{c:aE}{w:ag}{l:List Int}(hc:aR c)(q:l.length<=10):Dr (JH k (c,w,l,())) (fun r=>aR r.2.1):=by
 simp only[JH];refine aS (aQ Q hc) (fun r1 d=>zp (fun t:aE×ag×Int×Unit=>aR t.1) (fun t o=> ?_) (fun J p=> ?_));exact aS (cQ Q o (by simp)) (fun r h=>bl h)
 refine vg (fun t:aE×List Int×ag×Int×Int×Unit=>(5-t.2.2.2.2.1).toNat) (fun t=>aR t.1/\t.2.1=l/\t.2.2.1=w/\0<=t.2.2.2.1/\t.2.2.2.1<5/\0<=t.2.2.2.2.1/\t.2.2.2.2.1<=5) ?_
  ⟨d.1,rfl,rfl,d.2.1,by have:=d.2;dsimp only;omega,aLE _,by show(0:Int)<=5;decide⟩ (by dsimp only;omega)
 rintro G ⟨c1,l1,w1,i,n,u⟩ ⟨q1,q2,q3,q4,q5,q6,q7⟩ hG;dsimp only at q1 q2 q3 q4 q5 q6 q7 hG|-;subst q2 q3;refine bm (fun a=>dO ?_ ?_) (fun _=>p _ q1);by_cases j:i<((aLq w1.2.2.2.2.2.2.2.2.2.2.2.2.1:Nat):Int);have e:decide (0<=i/\i<((aLq w1.2.2.2.2.2.2.2.2.2.2.2.2.1:Nat):Int))=true:=c_ ⟨q4,j⟩;rw[e,Bool.or_true];rw[decide_eq_false j];rfl;have a:n<5:=by simpa using a
 have f:IntKind.i64.wrap (i+1)=i+1:=wrap64 (by omega) (by omega);have g:IntKind.i64.wrap (n+1)=n+1:=wrap64 (by omega) (by omega)
 have m:0<=Int.tmod (i+1) 5/\Int.tmod (i+1) 5<5:=by
  rw[Int.tmod_eq_emod_of_nonneg (by omega)];omega
 have s:∀b:Bool,Dr (if b=true then lW k (l1,(List.getD w1.2.2.2.2.2.2.2.2.2.2.2.2.1 (aLD i) ak.aa).1,())else some (false,())) (fun _=>True):=fun b=>bm (fun _=>⟨_,Ca Q q,trivial⟩) (fun _=>⟨_,rfl,trivial⟩);refine aS (P:=fun _=>True) (s _) (fun r6 _=>bm (fun _=>bl q1) (fun _=>dO (by decide) ?_));rw[f,g];exact hG _ ⟨q1,rfl,rfl,m.1,m.2,by dsimp only;omega,by dsimp only;omega⟩ (by dsimp only;omega)
def akS{b:List Int}(d:b.length<=1048576):Dr (UD k (b,())) (fun r=>JT r.1):=by
 simp only[UD];exact aS (MC Q d) (fun r1 e=>aS (Pz Q (m:=50) d (by decide)) (fun r2 h2=>aS (Oo Q e (by omega)) (fun r3 a=>aS (aQ Q a.2) (fun r4 h4=>bl a.1))))
def akn{b:List Int}(d:b.length<=1048576):Dr (T9 k (b,())) (fun r=>JT r.1):=by
 simp only[T9];exact aS (akS Q d) (fun r1 a=>bl a)
def aj0{b:List Int}(e:b.length<=1048576):Dr (Ta k (b,())) (fun r=>af (.sl ab) r.1<=700):=by
 simp only[Ta];exact aS (MC Q e) (fun r1 d=>aS (Hz Q d) (fun r2 a=>aS (aQ Q a.1) (fun r3 h3=>bl a.2)))
theorem HJ{l:List ByteArray}(hl:l.length<=1048576):kW k (l,l,())=some (true,()):=by
 simp only[kW];rw[a_ (by simp)];refine(bG (fun i:Nat=>(l,l,(l.length:Int),(i:Int),())) l.length (e:=some (true,())) (fun G i a=> ?_) (fun G=> ?_) k 0 (by omega) (by omega));simp only[aH,aA a,a,decide_true,if_true,aLn];rw[aV (by omega)];simp;simp
def Mq{c:bh}(h:af cM c<=1048576):ma k (c,c,())=some (true,()):=by
 rw[kF Q]at h;have hl:=ay (e:= .str) (l:=c.2.2.2.2.2);simp only[ma,beq_self_eq_true,if_true,HJ Q (show c.2.2.2.2.2.length<=1048576 by omega),D']
def Jp{c:aP}(h:af ax c<=1048576):ll k (c,c,())=some (true,()):=by
 rw[cu Q]at h;simp only[ll,beq_self_eq_true,if_true,ey Q h,D',decide_true]
def Mp{p:ar}(h:af ah p<=1048576):mu k (p,p,())=some (true,()):=by
 have b:=h;rw[bY Q]at b;have hl:=ay (e:=ax) (l:=p.2.2);simp only[mu];rw[a_ (by simp)];refine(bG (fun i:Nat=>(p,p,(p.2.2.length:Int),(i:Int),())) p.2.2.length (e:=some (true,())) (fun G i a=> ?_) (fun G=> ?_) k 0 (by omega) (by omega));simp only[aH,aA a,a,decide_true,if_true,aLn];rw[aV (by omega),Jp Q (fJ Q h a).1,D'];simp;simp
def EE{l:List ar}(h:af (.sl ah) l<=1048576):kG k (l,l,())=some (true,()):=by
 have hl:=ay (e:=ah) (l:=l);simp only[kG];rw[a_ (by simp)];refine(bG (fun i:Nat=>(l,l,(i:Int),())) l.length (e:=some (true,())) (fun G i a=> ?_) (fun G=> ?_) k 0 (by omega) (by omega));simp only[aH,aA a,a,decide_true,if_true,aLn];rw[aV (by omega),Mp Q (il Q h a),D'];simp;simp
def Nw{s:bg}(h:af aU s<=1048576):nE k (s,s,())=some (true,()):=by
 rw[eG Q]at h;simp only[nE,beq_self_eq_true,if_true,ey Q h,D',decide_true]
def HD{l:List bg}(h:af (.sl aU) l<=1048576):lD k (l,l,())=some (true,()):=by
 have hl:=ay (e:=aU) (l:=l);simp only[lD];rw[a_ (by simp)];refine(bG (fun i:Nat=>(l,l,(i:Int),())) l.length (e:=some (true,())) (fun G i a=> ?_) (fun G=> ?_) k 0 (by omega) (by omega));simp only[aH,aA a,a,decide_true,if_true,aLn];have:=dw (e:=aU) (l:=l) (i:=i) (d:=aU.aa) a;rw[aV (by omega),Nw Q (s:=l.getD i aU.aa) (by omega),D'];simp;simp
theorem LV{l:List aJ}(h:af (.sl aD) l<=1048576):mj k (l,l,())=some (true,()):=by
 have hl:=ay (e:=aD) (l:=l);have b:∀t:aJ,eqv aD t t=true:=fun t=>(yc rfl).2 rfl;simp only[mj];rw[a_ (by simp)];refine(bG (fun i:Nat=>(l,l,(i:Int),())) l.length (e:=some (true,())) (fun G i a=> ?_) (fun G=> ?_) k 0 (by omega) (by omega));simp only[aH,aA a,a,decide_true,if_true,aLn,b];rw[aV (by omega)];simp;simp
def LR{l:List br}(h:af (.sl bM) l<=1048576):mz k (l,l,())=some (true,()):=by
 have hl:=ay (e:=bM) (l:=l);simp only[mz];rw[a_ (by simp)];refine(bG (fun i:Nat=>(l,l,(i:Int),())) l.length (e:=some (true,())) (fun G i a=> ?_) (fun G=> ?_) k 0 (by omega) (by omega));simp only[aH,aA a,a,decide_true,if_true,aLn];have:=dw (e:=bM) (l:=l) (i:=i) (d:=bM.aa) a;rw[aV (by omega),B7 Q (g:=l.getD i bM.aa) (by omega),D'];simp;simp
theorem KW{l:List Int}(hl:l.length<=1048576):jr k (l,l,())=some (true,()):=by
 simp only[jr];rw[a_ (by simp)];refine(bG (fun i:Nat=>(l,l,(i:Int),())) l.length (e:=some (true,())) (fun G i a=> ?_) (fun G=> ?_) k 0 (by omega) (by omega));simp only[aH,aA a,a,decide_true,if_true,aLn];rw[aV (by omega)];simp;simp
def LG{d:aC}(h:af aw d<=1048576):mg k (d,d,())=some (true,()):=by
 rw[bN Q]at h;have a:bW k (d.2.2.1,d.2.2.1,())=some (true,()):=by rw[ee Q (gE Q (by omega))];simp
 have b:cg k (d.2.2.2.1,d.2.2.2.1,())=some (true,()):=by
  have:=ay (e:=al) (l:=d.2.2.2.1);rw[du Q (by omega)];simp
 have f:cY k (d.2.2.2.2.2.2.2.1,d.2.2.2.2.2.2.2.1,())=some (true,()):=by rw[ey Q (by omega)];simp
 simp only[mg,beq_self_eq_true,if_true,a,b,f,D']
def JZ{l:List aC}(h:af (.sl aw) l<=1048576):kP k (l,l,())=some (true,()):=by
 have hl:=ay (e:=aw) (l:=l);simp only[kP];rw[a_ (by simp)];refine(bG (fun i:Nat=>(l,l,(i:Int),())) l.length (e:=some (true,())) (fun G i a=> ?_) (fun G=> ?_) k 0 (by omega) (by omega));simp only[aH,aA a,a,decide_true,if_true,aLn];have:=dw (e:=aw) (l:=l) (i:=i) (d:=aw.aa) a;rw[aV (by omega),LG Q (d:=l.getD i aw.aa) (by omega),D'];simp;simp
def IT{l:List aF}(h:af (.sl ak) l<=1048576):k9 k (l,l,())=some (true,()):=by
 have hl:=ay (e:=ak) (l:=l);simp only[k9];rw[a_ (by simp)];refine(bG (fun i:Nat=>(l,l,(i:Int),())) l.length (e:=some (true,())) (fun G i a=> ?_) (fun G=> ?_) k 0 (by omega) (by omega));simp only[aH,aA a,a,decide_true,if_true,aLn];have b:=dw (e:=ak) (l:=l) (i:=i) (d:=ak.aa) a;generalize hd:List.getD l i ak.aa=d at b|-;rw[bw Q]at b;have f:bW k (d.2.2.1,d.2.2.1,())=some (true,()):=by rw[ee Q (gE Q (by omega))];simp
 have g:cg k (d.2.2.2.1,d.2.2.2.1,())=some (true,()):=by
  have:=ay (e:=al) (l:=d.2.2.2.1);rw[du Q (by omega)];simp
 have j:jr k (d.2.2.2.2.2.1,d.2.2.2.2.2.1,())=some (true,()):=KW Q (by rw[pR Q]at b;omega);have m:eI k (d.2.2.2.2.2.2.1,d.2.2.2.2.2.2.1,())=some (true,()):=rq Q (by omega);rw[aV (by omega)];simp only[bne_self_eq_false,aLo,if_false,f,g,j,m,D',aLs,beq_self_eq_true,if_true];simp
def pw{w:ag}(h:af az w<=1048576):iN k (w,w,())=some (true,()):=by
 rw[da Q]at h
 simp only[iN,beq_self_eq_true,if_true,Mq Q (c:=w.1) (by omega),EE Q (l:=w.2.2.2.1) (by omega),HD Q (l:=w.2.2.2.2.1) (by omega),rq Q (l:=w.2.2.2.2.2.1) (by omega),
  HF Q (l:=w.2.2.2.2.2.2.2.1) (by omega),LV Q (l:=w.2.2.2.2.2.2.2.2.2.1) (by omega),LR Q (l:=w.2.2.2.2.2.2.2.2.2.2.1) (by omega),rq Q (l:=w.2.2.2.2.2.2.2.2.2.2.2.1) (by omega),
  IT Q (l:=w.2.2.2.2.2.2.2.2.2.2.2.2.1) (by omega),JZ Q (l:=w.2.2.2.2.2.2.2.2.2.2.2.2.2) (by omega),D']
def aea{w:ag}{i:Int}{t:aF}{op:Int}(a:i.toNat<(bF w).length):af az (fk w i t op)<=af az w+af ak t+(af ab t.2.2.1+af (.sl al) t.2.2.2.1+1):=by
 refine Yw Q ?_ ?_;have h1:=ij (e:=ak) (bF w) i.toNat (om t (bV w).length) a;have h2:af ak (om t (bV w).length)=af ak t:=by rw[bw Q,bw Q];rfl
 omega;refine pg Q ?_;have e:af aw (opened w i op t.2.2.1 t.2.2.2.1 t.2.2.2.2.2.2.2.1)=af ab t.2.2.1+af (.sl al) t.2.2.2.1+af (.sl ab) ([]:List ae):=bN Q _;rw[e,aX];omega
end
section
variable{k:Nat}(Q:9223372036854775808<=k)
include Q
variable{c:bh}{ti O gr nn:Int}{st:List ar}{Z:List bg}{U V:List ae}{A:List au}{T:List aJ}{n_:List br}{E:List aF}{M:List aC}{i:Nat}{t:aF}
def ae5(hs:af az (c,ti,O,st,Z,U,gr,A,nn,T,n_,V,E,M)<=1048576)(h:Rt k c ti O st Z U gr A nn T V E M)(hi:i<5)(a:E.getD i ak.aa=t)(b:t.1=4):
 Bm k ((c,ti,O,st,Z,U,gr,A,nn,T,n_,V,E,M),(i:Int),())=
  some ((eF false k (c,ti,O,st,Z,U,gr,A,nn,T,n_,V,E,M) i).1,(eF false k (c,ti,O,st,Z,U,gr,A,nn,T,n_,V,E,M) i).2,()):=by
 obtain⟨e,f,hb,hd,hv1,hw⟩:=dH h (by omega) a (by omega);obtain⟨⟨q1,q2,q3,q4,q5,q6,q7,q8,q9,q10,q11,q11'⟩,q12,q13,q14,q15,q16,q17⟩:=(gD b).1 e;have hlen:=h.sto.len
 have d:bf t=((bf t).toNat:Int):=by
  have:0<=bf t:=q3;omega
 exact aez Q (j:=t.2.2.2.2.1.toNat) hs (by rw[h.tl];omega) a b (by omega) (by omega) f d rfl (by omega)
def aeW(hs:af az (c,ti,O,st,Z,U,gr,A,nn,T,n_,V,E,M)<=1048576)(h:Rt k c ti O st Z U gr A nn T V E M)(hi:i<5)(a:E.getD i ak.aa=t)(b:t.1=4):
 jI k ((c,ti,O,st,Z,U,gr,A,nn,T,n_,V,E,M),(i:Int),())=
  some ((eF true k (c,ti,O,st,Z,U,gr,A,nn,T,n_,V,E,M) i).1,(eF true k (c,ti,O,st,Z,U,gr,A,nn,T,n_,V,E,M) i).2,()):=by
 obtain⟨e,f,hb,hd,hv1,hw⟩:=dH h (by omega) a (by omega);obtain⟨⟨q1,q2,q3,q4,q5,q6,q7,q8,q9,q10,q11,q11'⟩,q12,q13,q14,q15,q16,q17⟩:=(gD b).1 e;have hlen:=h.sto.len
 have d:bf t=((bf t).toNat:Int):=by
  have:0<=bf t:=q3;omega
 exact Cl Q (j:=t.2.2.2.2.1.toNat) hs (by rw[h.tl];omega) a b (by omega) (by omega) f d rfl (by omega)
end
def yT(s:Bool)(k:Nat)(w:ag)(i:Int)(p:Int->Bool):ag×Bool:=
 if(bC k w&&(bc i 0 2&&p ((bF w).getD i.toNat ak.aa).1))=true then(if(iU s k w i.toNat).1=true then((iU s k w i.toNat).2,true)else(w,false))else(w,false)
def ML(op:Int):Bool:=decide (op=4)
def Hr{s:Bool}{k:Nat}{w:ag}{i:Int}{p:Int->Bool}(h:¬(bC k w&&(bc i 0 2&&p ((bF w).getD i.toNat ak.aa).1))=true):yT s k w i p=(w,false):=a_ h
section
variable{k:Nat}(Q:9223372036854775808<=k)
include Q
def aey{w:ag}{i:Int}(hs:af az w<=1048576):T0 k (w,i,())=some ((yT true k w i ML).1,(yT true k w i ML).2,()):=by
 simp only[T0];rw[tN Q (by omega),D',A7 Q hs,D'];cases e:bC k w with
 |false=>
  rw[Hr (by rw[e];simp)];rfl
 |true=>
  dsimp only;rw[an (by rfl),fS Q,D'];cases d:bc i 0 2 with
  |false=>
   rw[Hr (by rw[d];simp)];rfl
  |true=>
   have hi:0<=i/\i<=2:=by unfold bc at d;simpa using d
   obtain⟨j,rfl⟩:∃j:Nat,i=(j:Int):=⟨i.toNat,by omega⟩
   have hj:j<3:=by omega
   have g:yT true k w (j:Int) ML=if ML ((bF w).getD j ak.aa).1=true then(if(iU true k w j).1=true then((iU true k w j).2,true)else(w,false))else(w,false):=by
    unfold yT;rw[e,d,aLn,aLw,aLw]
   rw[g];obtain⟨c,ti,O,st,Z,U,gr,A,nn,T,n_,V,E,M⟩:=w;have R:=bR.1 e;have h:decide (0<=((j:Nat):Int)/\((j:Nat):Int)<((E.length:Nat):Int))=true:=c_ (by have:=R.tl;omega);dsimp only;rw[h];refine(an (by rfl)).trans ?_;rw[aLn];by_cases b:(E.getD j ak.aa).1=4
   have l:iU true k (c,ti,O,st,Z,U,gr,A,nn,T,n_,V,E,M) j=eF true k (c,ti,O,st,Z,U,gr,A,nn,T,n_,V,E,M) j:=by
    unfold iU;dsimp only[bF];rw[a_ (by omega),a_ (by omega),an b]
   have a:((E.getD j ak.aa).1 != (4:Int))=false:=by rw[b];rfl
   have f:ML (((bF (c,ti,O,st,Z,U,gr,A,nn,T,n_,V,E,M)).getD j ak.aa).1)=true:=c_ b;rw[f,an rfl,l];simp only[a,aLs,aLo,if_false,if_true,show((false:Bool)==false)=true from rfl,aeW Q hs R (show j<5 by omega) rfl b,D'];cases hx:(eF true k (c,ti,O,st,Z,U,gr,A,nn,T,n_,V,E,M) j).1;simp only[aLB,if_true,aLo,if_false];simp only[aLs,aLo,if_false,if_true];have a:((E.getD j ak.aa).1 != (4:Int))=true:=by simpa[bne_iff_ne]using b
   have f:ML (((bF (c,ti,O,st,Z,U,gr,A,nn,T,n_,V,E,M)).getD j ak.aa).1)=false:=decide_eq_false b;rw[f,a_ (show¬(false=true) by decide)];simp only[a,aLs,aLo,if_false,if_true,show((true:Bool)==false)=false from rfl,aLB,D']
def aeS{w:ag}{i:Int}{p:Int->Bool}{F:ag×Int×Unit->Option (Bool×ag×Unit)}(hs:af az w<=1048576)
 (e:∀j:Nat,j<5->bC k w=true->p ((bF w).getD j ak.aa).1=true->j<3)
 (q:∀j:Nat,j<5->bC k w=true->F (w,(j:Int),())=if p ((bF w).getD j ak.aa).1=true then some ((iU false k w j).1,(iU false k w j).2,())else some (false,w,())):
 (aLp (fF k (w,())) fun g=>
  aLp (iz k (w,())) fun r2=>
  aLp ((if(((!r2.1):Bool)==false)=true then bP k (i,(0:Int),(4:Int),())else some (false,()))) fun r3=>
  if(((if(!r2.1)=true then true else !r3.1):Bool)==false)=true then
   aLp (F (g.1,i,())) fun m=>
   if(if(if(!r2.1)=true then true else !r3.1)=true then true else !m.1)=true then
    aLp (fF k (w,())) fun n=>
    some (n.1,false,())
   else
    some (m.2.1,true,())
  else
   if(if(if(!r2.1)=true then true else !r3.1)=true then true else !false)=true then
    aLp (fF k (w,())) fun o=>
    some (o.1,false,())
   else
    some (g.1,true,()))=some ((yT false k w i p).1,(yT false k w i p).2,()):=by
 rw[Py Q (by omega),D',lC Q hs,D'];cases b:bC k w with
 |false=>
  rw[Hr (by rw[b];simp)];rfl
 |true=>
  dsimp only;rw[an (by rfl),fG Q,D'];cases d:bc i 0 4 with
  |false=>
   have f:bc i 0 2=false:=by
    rw[Bool.eq_false_iff]at d|-;intro h;apply d;unfold bc at h|-;simp only[aLr,b_]at h|-;omega
   rw[Hr (by rw[f];simp)];rfl
  |true=>
   have hi:0<=i/\i<=4:=by unfold bc at d;simpa using d
   obtain⟨j,rfl⟩:∃j:Nat,i=(j:Int):=⟨i.toNat,by omega⟩
   have l:j<5:=by omega
   simp only[aLs,aLo,if_false,show((false:Bool)==false)=true from rfl,if_true,q j l b];by_cases a:p ((bF w).getD j ak.aa).1=true;have hj3:=e j l b a;have f:bc (j:Int) 0 2=true:=by unfold bc;simp;omega
   have r:yT false k w (j:Int) p=if(iU false k w j).1=true then((iU false k w j).2,true)else(w,false):=by
    unfold yT;rw[b,f,aLn,a];rfl
   rw[r,an a,D'];dsimp only;cases (iU false k w j).1;simp only[aLB,if_true,aLo,if_false,D'];simp only[aLs,aLo,if_false,if_true]
   rw[Hr (by
    rw[aLn];intro h;simp only[aLr]at h;exact a h.2.2),a_ a,D']
   rfl
omit Q in
theorem afi{w:ag}{j:Nat}(a:j<5)(h:bC k w=true)(b:1<=((bF w).getD j ak.aa).1)(d:((bF w).getD j ak.aa).1<=4):j<3:=by
 obtain⟨c,ti,O,st,Z,U,gr,A,nn,T,n_,V,E,M⟩:=w;have R:=bR.1 h;have:=gx (k:=k) (w:=(c,ti,O,st,Z,U,gr,A,nn,T,n_,V,E,M)) (R.tas j a);dsimp only[bF]at b d;omega
def aeA{w:ag}{i:Int}(hs:af az w<=1048576):Tq k (w,i,())=some ((yT false k w i ML).1,(yT false k w i ML).2,()):=by
 simp only[Tq];refine aeS Q (F:=Bm k) hs (fun j b h d=> ?_) (fun j b h=> ?_);have:=e_ d;exact afi b h (by omega) (by omega);obtain⟨c,ti,O,st,Z,U,gr,A,nn,T,n_,V,E,M⟩:=w;have R:=bR.1 h;by_cases a:(E.getD j ak.aa).1=4;rw[an (show ML (E.getD j ak.aa).1=true from c_ a),ae5 Q hs R b rfl a]
 have e:iU false k (c,ti,O,st,Z,U,gr,A,nn,T,n_,V,E,M) j=eF false k (c,ti,O,st,Z,U,gr,A,nn,T,n_,V,E,M) j:=by
  unfold iU;dsimp only[bF];rw[a_ (by omega),a_ (by omega),an a]
 rw[e];rw[a_ (show¬ML (E.getD j ak.aa).1=true by unfold ML;simpa using a)];simp only[Bm,aLn];rw[an (aA (by rw[R.tl];exact b)),an (by simpa[bne_iff_ne]using a)]
def X4(r:Bool×ag):af az (bH r).2=af az r.2:=by
 unfold bH;split;rw[da Q,da Q];rfl
def Wg{st:List ar}{j:Nat}{x:Int}:af (.sl ah) (bT st j x)<=af (.sl ah) st:=by
 unfold bT;by_cases a:j<st.length;have h1:=ij (e:=ah) st j (x,(st.getD j ah.aa).2) a;have h2:af ah ((x,(st.getD j ah.aa).2):ar)=af ah (st.getD j ah.aa):=by rw[bY Q,bY Q]
 have h3:af ah (st.getD j (Ty.aa ah))=af ah (st.getD j ah.aa):=rfl;omega;rw[aLx (by omega)];exact aLz _
theorem Rl{E:List aF}{i B:Nat}{t':aF}(h:af ak t'<=af ak (E.getD i ak.aa)+B):af (.sl ak) (E.set i t')<=af (.sl ak) E+B:=by
 by_cases a:i<E.length;have h1:=ij (e:=ak) E i t' a;have h3:af ak (E.getD i (Ty.aa ak))=af ak (E.getD i ak.aa):=rfl;omega;rw[aLx (by omega)];omega
def aaE:af ak zT=0:=by
 have e:af ak zT=af ab cF+af (.sl al) ([]:List ai)+af (.sl (.int .i64)) ([]:List Int)+af (.sl ab) ([]:List ae):=bw Q _;rw[e,aX,aX,aX,gZ Q]
variable{c:bh}{ti O gr nn:Int}{st:List ar}{Z:List bg}{U V:List ae}{A:List au}{T:List aJ}{n_:List br}{E:List aF}{M:List aC}{i:Nat}{t:aF}
def adV{j:Nat}:af az (dZ (c,ti,O,st,Z,U,gr,A,nn,T,n_,V,E,M) i j).2<=af az (c,ti,O,st,Z,U,gr,A,nn,T,n_,V,E,M):=by
 unfold dZ;dsimp only;split;rw[da Q,da Q];dsimp only;have h1:=Wg Q (st:=st) (j:=j) (x:=(i:Int));have h2:=Rl Q (E:=E) (i:=i) (B:=0) (t':=((E.getD i ak.aa).1,1,(E.getD i ak.aa).2.2)) (by rw[bw Q,bw Q];exact aLz _);omega;exact aLz _
end
def XN{k:Nat}{w:ag}{i:Int}{p:Int->Bool}:yT true k w i p=(w,false)\/
 ∃j:Nat,i=(j:Int)/\j<3/\bC k w=true/\p (aci w j)=true/\(iU true k w j).1=true/\yT true k w i p=((iU true k w j).2,true):=by
 by_cases h:(bC k w&&(bc i 0 2&&p ((bF w).getD i.toNat ak.aa).1))=true;by_cases b:(iU true k w i.toNat).1=true;have a:=h;simp only[aLr]at a;have h4:0<=i/\i<=2:=by have:=a.2.1;unfold bc at this;simpa using this
 refine .inr ⟨i.toNat,by omega,by omega,a.1,a.2.2,b,?_⟩;unfold yT;rw[an h,an b];refine .inl ?_;unfold yT;rw[an h,a_ b];exact .inl (Hr h)
def abJ{k:Nat}{w:ag}{i:Int}{p:Int->Bool}(b:p 0=false)(d:Gp (bF w) (bV w)):yT false k w i p=yT true k w i p:=by
 by_cases h:(bC k w&&(bc i 0 2&&p ((bF w).getD i.toNat ak.aa).1))=true;have a:=h;simp only[aLr]at a;have h4:0<=i/\i<=2:=by have:=a.2.1;unfold bc at this;simpa using this
 have f:=T8 a.1
 have g:iU false k w i.toNat=iU true k w i.toNat:=aie (d f i.toNat (by omega) (fun e=>by
  have:=a.2.2;rw[e,b]at this;cases this))
 unfold yT;rw[g];rw[Hr h,Hr h]
section
variable{k:Nat}(Q:9223372036854775808<=k)
include Q
def ahQ{w:ag}{i:Int}{t:aF}{op:Int}(a:qu k w i=true)(b:t.2.2.1=vo)(d:t.2.2.2.2.2.1=[])(e:t.2.2.2.2.2.2.1=[])(hL:af (.sl al) t.2.2.2.1<=300):af az (fk w i t op)<=af az w+1000:=by
 unfold qu at a;simp only[aLr]at a;have f:=aea Q (w:=w) (i:=i) (t:=t) (op:=op) (rW a.2).2.2;have g:=bw Q t;rw[b,d,e]at g;rw[b]at f;have e1:af ab vo=0:=gZ Q;have e2:af (.sl (.int .i64)) ([]:List Int)=0:=aX;have e3:af (.sl ab) ([]:List ae)=0:=aX;omega
def aof{w:ag}(h:af az w<=1048576):af (.sl ah) w.2.2.2.1<=1048576:=by
 rw[da Q]at h;omega
variable{c:bh}{ti O gr nn:Int}{st:List ar}{Z:List bg}{U V:List ae}{A:List au}{T:List aJ}{n_:List br}{E:List aF}{M:List aC}{i:Nat}{t:aF}
def Ys(h:Rt k c ti O st Z U gr A nn T V E M):af (.sl ah) st<=1000/\af (.sl ab) (bU st)<=1000/\bq st<20:=by
 have h1:=Hx Q h.sto.ok;have h2:=h.sto.cap;have h3:=(kT Q h.cf).2.2.2.1;have h4:=(cE.1 h.sto.ok).2;have h5:=fw Q st;omega
end
section
variable{k:Nat}(Q:9223372036854775808<=k)
include Q
def anr{w:ag}{i:Int}:af az (UX k w i)<=af az w+1000:=by
 unfold UX;by_cases h:qu k w i=true;rw[an h];exact ahQ Q h rfl rfl rfl (by show af (.sl al) ([]:List ai)<=300;rw[aX];omega);rw[a_ h];exact aLG _ _
omit Q in
theorem al2(O:Int)(p:ar):aW (dU p O)=dC O (aW p):=by
 unfold aW dU;simp only[Q7];unfold dC j9;rw[List.filter_flatMap]
omit Q in
theorem akT(O:Int)(l:List ae):dC O (dC O l)=dC O l:=by
 unfold dC;rw[List.filter_filter];congr 1;funext a;simp
variable{c:bh}{ti O gr nn:Int}{st:List ar}{Z:List bg}{U V:List ae}{A:List au}{T:List aJ}{n_:List br}{E:List aF}{M:List aC}{i:Nat}{t:aF}
theorem ame(h:Rt k c ti O st Z U gr A nn T V E M)(hi:i<3)(f:E.getD i ak.aa=t)(j:t.1=4)
 (b:bC k (eF true k (c,ti,O,st,Z,U,gr,A,nn,T,n_,V,E,M) i).2=true):
 af az (eF true k (c,ti,O,st,Z,U,gr,A,nn,T,n_,V,E,M) i).2<=af az (c,ti,O,st,Z,U,gr,A,nn,T,n_,V,E,M)+3000:=by
 obtain⟨o,p,hb,hd,hv1,hw⟩:=dH h (by omega) f (by omega);obtain⟨s1,s2,s3⟩:=Ys Q h;have hz:af (.sl ak) (E.set i zT)<=af (.sl ak) E+0:=Rl Q (by rw[aaE Q];omega);have hna:af (.sl ab) ([]:List ae)=0:=aX;have hnl:af (.sl al) ([]:List ai)=0:=aX;have hlen:=h.sto.len;have m:=(gD j).1 o;obtain⟨⟨q1,q2,q3,q4,q5,q6,q7,q8,q9,q10,q11,q12⟩,q13,q14,q15,q16,q17,q18⟩:=m;revert b;unfold eF;rw[X4 Q];unfold qJ;dsimp only;rw[f];by_cases g:t.2.1=0;rw[an g];intro _;exact aLu (adV Q) (aLG _ _);rw[a_ g,aY];intro b;have h3:=(Ys Q (bR.1 b)).1;rw[da Q,da Q];dsimp only;have n:=dw (e:=ah) (l:=st) (i:=t.2.2.2.2.1.toNat) (d:=ah.aa) (by omega);rw[bY Q]at n;have hgone:=QX Q (O:=O) (st.getD t.2.2.2.2.1.toNat ah.aa).2.2
 have hnew:af aw (eT (fb i t.2.2.2.2.1.toNat (db O (st.getD t.2.2.2.2.1.toNat ah.aa).2.2)) O ti ti ti)<=1000:=by
  have e:af aw (eT (fb i t.2.2.2.2.1.toNat (db O (st.getD t.2.2.2.2.1.toNat ah.aa).2.2)) O ti ti ti)=af ab cF+af (.sl al) ([]:List ai)+af (.sl ab) (db O (st.getD t.2.2.2.2.1.toNat ah.aa).2.2):=bN Q _;have e2:=gZ Q;omega
 have happ:af (.sl aw) (M++[eT (fb i t.2.2.2.2.1.toNat (db O (st.getD t.2.2.2.2.1.toNat ah.aa).2.2)) O ti ti ti])<=af (.sl aw) M+1001:=by
  rw[dP (e:=aw),bS (e:=aw),aX];omega
 by_cases a:t.2.2.2.2.1.toNat+1=st.length;rw[an a,an a]
 have hfin:af (.sl aw) ((M++[eT (fb i t.2.2.2.2.1.toNat (db O (st.getD t.2.2.2.2.1.toNat ah.aa).2.2)) O ti ti ti]).set (bf t).toNat (dA true false (M.getD (bf t).toNat aw.aa) O ti 8 []))<=af (.sl aw) (M++[eT (fb i t.2.2.2.2.1.toNat (db O (st.getD t.2.2.2.2.1.toNat ah.aa).2.2)) O ti ti ti])+0:=kv Q (by rw[aLv];omega) (by
  rw[ig _ p];have:=oc Q (x:=false) (d:=M.getD (bf t).toNat aw.aa) (O:=O) (ti:=ti) (code:=8) (got:=[]);omega)
 omega;rw[a_ a,a_ a];have ht:=Rl Q (E:=E) (i:=i) (B:=0) (t':=(t.1,0,t.2.2.1,t.2.2.2.1,((t.2.2.2.2.1.toNat+1:Nat):Int),t.2.2.2.2.2)) (by rw[f,bw Q,bw Q];exact aLz _);omega
def acJ(w x:ag)(i:Nat):Prop:=
 let t:=(bF w).getD i ak.aa
 let j:=t.2.2.2.2.1
 let d:=(bV x).getD (bV w).length aw.aa
 0<=j/\j.toNat<(mH w).length/\j.toNat<(mH x).length/\
 (t.2.1=0->((mH x).getD j.toNat ah.aa).1=(i:Int))/\
 (¬t.2.1=0->(bV w).length<(bV x).length/\d.1=5/\d.2.2.2.2.1=j/\
  aW ((mH x).getD j.toNat ah.aa)=dC w.2.2.1 (aW ((mH w).getD j.toNat ah.aa))/\
  bq (mH x)+(lA d).length=bq (mH w)/\((mH x).getD j.toNat ah.aa).1= -1)
omit Q in
theorem al9(h:Rt k c ti O st Z U gr A nn T V E M)(hi:i<3)(m:E.getD i ak.aa=t)(v:t.1=4)(o:(eF true k (c,ti,O,st,Z,U,gr,A,nn,T,n_,V,E,M) i).1=true):
 acJ (c,ti,O,st,Z,U,gr,A,nn,T,n_,V,E,M) (eF true k (c,ti,O,st,Z,U,gr,A,nn,T,n_,V,E,M) i).2 i:=by
 obtain⟨y,hn,hb,hd1,hv1,hw⟩:=dH h (by omega) m (by omega);have hlen:=h.sto.len;have w:=(gD v).1 y;obtain⟨⟨q1,q2,q3,q4,q5,q6,q7,u,q9,q10,q11,q12⟩,q13,q14,q15,q16,q17,q18⟩:=w;have a:t.2.2.2.2.1.toNat<st.length:=by omega
 have q:((t.2.2.2.2.1.toNat:Nat):Int)=t.2.2.2.2.1:=by omega
 revert o;unfold eF qJ;dsimp only;rw[m];by_cases n:t.2.1=0;rw[an n];unfold dZ;dsimp only;by_cases s:(st.getD t.2.2.2.2.1.toNat ah.aa).1= -1;rw[an s,aY];intro _;unfold acJ;dsimp only[bF,bV,mH];rw[m];exact⟨u,a,by unfold bT;rw[aLy];exact a,fun _=>Bg a,fun e=>absurd n e⟩;rw[a_ s];intro o;simp[bH]at o;rw[a_ n,aY];intro _;unfold acJ;dsimp only[bF,bV,mH];rw[m];have b:(st.set t.2.2.2.2.1.toNat (-1,(dU (st.getD t.2.2.2.2.1.toNat ah.aa) O).2)).getD t.2.2.2.2.1.toNat ah.aa=(-1,(dU (st.getD t.2.2.2.2.1.toNat ah.aa) O).2):=aT _ _ a;have d:aW (((-1:Int),(dU (st.getD t.2.2.2.2.1.toNat ah.aa) O).2):ar)=aW (dU (st.getD t.2.2.2.2.1.toNat ah.aa) O):=rfl;have f:=count_set (l:=st) (p:=((-1:Int),(dU (st.getD t.2.2.2.2.1.toNat ah.aa) O).2)) a;rw[d]at f;have hsl:=zA (st.getD t.2.2.2.2.1.toNat ah.aa) O
 have r:(if t.2.2.2.2.1.toNat+1=st.length then(M++[eT (fb i t.2.2.2.2.1.toNat (db O (st.getD t.2.2.2.2.1.toNat ah.aa).2.2)) O ti ti ti]).set (bf t).toNat (dA true false (M.getD (bf t).toNat aw.aa) O ti 8 [])else M++[eT (fb i t.2.2.2.2.1.toNat (db O (st.getD t.2.2.2.2.1.toNat ah.aa).2.2)) O ti ti ti]).getD M.length aw.aa=eT (fb i t.2.2.2.2.1.toNat (db O (st.getD t.2.2.2.2.1.toNat ah.aa).2.2)) O ti ti ti/\
  M.length<(if t.2.2.2.2.1.toNat+1=st.length then(M++[eT (fb i t.2.2.2.2.1.toNat (db O (st.getD t.2.2.2.2.1.toNat ah.aa).2.2)) O ti ti ti]).set (bf t).toNat (dA true false (M.getD (bf t).toNat aw.aa) O ti 8 [])else M++[eT (fb i t.2.2.2.2.1.toNat (db O (st.getD t.2.2.2.2.1.toNat ah.aa).2.2)) O ti ti ti]).length:=by
  split;exact⟨by rw[getD_set_ne _ _ (by omega),re],by rw[aLy,aLv,aLt];omega⟩;exact⟨re _,by rw[aLv,aLt];omega⟩
 obtain⟨g,j⟩:=r;rw[g,b,d];refine⟨u,a,by rw[aLy];exact a,fun e=>absurd e n,fun _=>⟨j,rfl,q,al2 O _,?_,rfl⟩⟩;have x:lA (eT (fb i t.2.2.2.2.1.toNat (db O (st.getD t.2.2.2.2.1.toNat ah.aa).2.2)) O ti ti ti)=db O (st.getD t.2.2.2.2.1.toNat ah.aa).2.2:=rfl;rw[x];omega
end
structure ajv(w:ag):Prop where
 tt:af az w<=1045000
 ti:w.2.1<=2000
 ver:∀p∈mH w,p.2.1<=1000
 got:Gp (bF w) (bV w)
theorem JT.soft{w:ag}(h:JT w):ajv w:=⟨by have:=h.tt;omega,by have:=h.ti;omega,h.ver,h.got⟩
section
variable{k:Nat}(Q:9223372036854775808<=k)
include Q
def ajr{l:List ae}{O:Int}(h:af (.sl ab) l<=1073741824):Xa k (l,O,())=some (dC O l,()):=by
 have hl:=ay (e:=ab) (l:=l);simp only[Xa];refine bG (fun i=>(l,O,dC O (l.take i),(i:Int),())) l.length (fun G i a=> ?_) (fun G=> ?_) k 0 (by omega) (by omega);have hm:=cI (e:=ab) (cT (d:=ab.aa) a);have b:=zV (O:=O) (l:=l.take i);rw[aLF]at b;simp only[aH,aA a,a,decide_true,if_true,aLn,mV,D'];rw[dh Q (by omega),xZ a,aV (by omega)];simp only[D'];split;rw[an (by simp;omega)];rfl;simp
def ZP(k:Nat)(w:ag)(e:cq):Bool:=bC k w&&(pz k w e).1
def W8{w:ag}{e:cq}(hs:af az w<=1048000)(a:af ab e.2.2.1<=10000)(b:af (.sl al) e.2.2.2<=10000):
 OC k (w,e,())=some (if ZP k w e=true then(pz k w e).2 else w,ZP k w e,()):=by
 simp only[OC];rw[tN Q (by omega),D',A7 Q (by omega),D'];unfold ZP;cases d:bC k w with
 |false=>simp
 |true=>
  simp only[aLs,beq_self_eq_true,if_true,aLw,aLo,if_false];rw[EB Q hs d a b,D'];cases h2:(pz k w e).1<;>simp
omit Q in
theorem ajM{c:bh}{ti O gr nn:Int}{st:List ar}{Z:List bg}{U V:List ae}{A:List au}{T:List aJ}{E:List aF}{M:List aC}(h:Rt k c ti O st Z U gr A nn T V E M)
 (j:Gp E M) {t':aF} {d:aC} (l:bf t'=(M.length:Int)) (m:lA d=[]):Gp (E.set 0 t') (M++[d]):=by
 intro h5 i g a b;have f:=h.tl;by_cases e:i=0;subst e;rw[aT _ _ (by omega),l,aLn,re];exact m;rw[getD_set_ne _ _ (by omega)]at a b|-;obtain⟨hr,n,-⟩:=dH h g rfl a;rw[ig _ n]at b|-;exact j f i g a b
set_option maxHeartbeats 4000000 in
theorem an6{w:ag}(h:JT w)(u:(bF w).length=5)(K:((bF w).getD 0 ak.aa).1=0):
 Dr (aLp (OC k (w,((4:Int),0,(([]:List ai),0,0,ByteArray.empty),([]:List ai)),())) fun I=>
  aLp (OC k (I.1,((5:Int),0,(([]:List ai),0,0,ByteArray.empty),([]:List ai)),())) fun J=>
  some (J.1,(0:Int),())) (fun r=>ajv r.1):=by
 have hw:=h.tt;have v:af ab ((([]:List ai),0,0,ByteArray.empty):ae)<=10000:=aLu (Nat.le_of_eq (gZ Q)) (by omega);have y:af (.sl al) ([]:List ai)<=10000:=by rw[aX];omega
 refine fc (W8 Q (by omega) v y) ?_;dsimp only;cases f:bC k w with
 |false=>
  have z:ZP k w (4,0,([],0,0,ByteArray.empty),[])=false:=by unfold ZP;rw[f];rfl
  have L:ZP k w (5,0,([],0,0,ByteArray.empty),[])=false:=by unfold ZP;rw[f];rfl
  rw[z,a_ (by decide)];refine fc (W8 Q (by omega) v y) (bl ?_);dsimp only;rw[L,a_ (by decide)];exact h.soft
 |true=>
  have n:cP w 0=true:=by
   unfold cP qv;rw[u,show aLD 0=0 from rfl,K];rfl
  have H:pz k w (4,0,([],0,0,ByteArray.empty),[])=(true,fk w 0 kJ 6):=by
   unfold pz;dsimp only;rw[a_ (by decide),a_ (by decide),a_ (by decide),an (by rfl),an n]
  have z:ZP k w (4,0,([],0,0,ByteArray.empty),[])=true:=by unfold ZP;rw[f,H];rfl
  rw[z,an rfl,H];have N:qu k w 0=true:=by unfold qu;rw[f,n];rfl
  have B:af az (fk w 0 kJ 6)<=af az w+1000:=ahQ Q N rfl rfl rfl (by show af (.sl al) ([]:List ai)<=300;rw[aX];omega);refine fc (W8 Q (by dsimp only;omega) v y) (bl ?_);dsimp only;have o:=h.ti;have a:=h.ver;have l:=h.got;obtain⟨c,ti,O,st,Z,U,gr,A,nn,T,n_,V,E,M⟩:=w;have R:=bR.1 f;have u:E.length=5:=u;have o:ti<=1000:=o;have a:∀p∈st,p.2.1<=1000:=a;have ht0:=R.ti0;have C:IntKind.i64.wrap (ti+1)=ti+1:=wrap64 (by omega) (by omega)
  have D:fk (c,ti,O,st,Z,U,gr,A,nn,T,n_,V,E,M) 0 kJ 6=(c,ti+1,O,st,Z,U,gr,A,nn,T,n_,V,E.set 0 (om kJ M.length),M++[opened (c,ti,O,st,Z,U,gr,A,nn,T,n_,V,E,M) 0 6 vo [] 0]):=by
   unfold fk KU;dsimp only;rw[C];rfl
  rw[D]at B|-
  have P:ajv (c,ti+1,O,st,Z,U,gr,A,nn,T,n_,V,E.set 0 (om kJ M.length),M++[opened (c,ti,O,st,Z,U,gr,A,nn,T,n_,V,E,M) 0 6 vo [] 0]):=
   ⟨by omega,by show ti+1<=2000;omega,a,ajM R l rfl rfl⟩
  split;rename_i b;unfold ZP at b;simp only[aLr]at b;have q:tick (ti+1)=ti+1+1:=wrap64 (by omega) (by omega);have m:(E.set 0 (om kJ M.length)).getD 0 ak.aa=om kJ M.length:=aT _ _ (by omega)
  have S:pz k (c,ti+1,O,st,Z,U,gr,A,nn,T,n_,V,E.set 0 (om kJ M.length),M++[opened (c,ti,O,st,Z,U,gr,A,nn,T,n_,V,E,M) 0 6 vo [] 0]) (5,0,([],0,0,ByteArray.empty),[])=
   bH (dZ (c,ti+1,O,st,Z,U,gr,A,nn,T,n_,V,E.set 0 (om kJ M.length),M++[opened (c,ti,O,st,Z,U,gr,A,nn,T,n_,V,E,M) 0 6 vo [] 0]) 0 0):=by
   unfold pz;dsimp only;rw[a_ (by decide),a_ (by decide),a_ (by decide),a_ (by decide),an (by rfl),an (by rfl),show aLD 0=0 from rfl];unfold iU;dsimp only[bF];have F:(om kJ (M.length:Int)).1=4:=rfl;rw[m,a_ (by rw[F];decide),a_ (by rw[F];decide),an F];unfold eF qJ;dsimp only;rw[m,an (by rfl)];rfl
  have s:=b.2;rw[S]at s|-;revert s;unfold dZ;dsimp only;split;intro _;rw[aY,m,List.set_set,q];have W:=da Q (c,ti+1,O,st,Z,U,gr,A,nn,T,n_,V,E.set 0 (om kJ M.length),M++[opened (c,ti,O,st,Z,U,gr,A,nn,T,n_,V,E,M) 0 6 vo [] 0]);dsimp only at W;have hh:=Wg Q (st:=st) (j:=0) (x:=((0:Nat):Int))
  have G:af (.sl ak) (E.set 0 ((om kJ M.length).1,1,(om kJ M.length).2.2))=af (.sl ak) (E.set 0 (om kJ M.length)):=by
   have a1:=ij (e:=ak) E 0 ((om kJ M.length).1,1,(om kJ M.length).2.2) (by omega);have a2:=ij (e:=ak) E 0 (om kJ M.length) (by omega);have a3:af ak ((om kJ M.length).1,1,(om kJ M.length).2.2)=af ak (om kJ M.length):=by rw[bw Q,bw Q]
   omega
  refine⟨?_,by show ti+1+1<=2000;omega,?_,ajM R l rfl rfl⟩;rw[da Q];dsimp only;rw[G];omega;intro p g;show p.2.1<=1000;have g:p∈bT st 0 0:=g;unfold bT at g;rcases List.mem_or_eq_of_mem_set g with g|g;exact a p g;rw[g];by_cases X:0<st.length;exact a (st.getD 0 ah.aa) (bK (d:=ah.aa) X);have:st=[]:=List.eq_nil_of_length_eq_zero (by omega);subst this;show(0:Int)<=1000;decide;intro s;simp[bH]at s;exact P
def afF{b:List Int}(g:b.length<=1048576):Dr (Qc k (b,())) (fun r=>ajv r.1):=by
 simp only[Qc];refine aS (MC Q g) (fun r1 j=>aS (Pz Q (m:=70) g (by decide)) (fun r2 h2=>aS (Oo Q j (by omega)) (fun d e=>aS (acp Q e.2 (by decide)) (fun r4 l=>aS (gu Q l) (fun f h5=>dO ?_ (bm (fun a=> ?_) (fun _=>bl e.1.soft)))))));cases f.1;rfl;by_cases h:((aLq d.1.2.2.2.2.2.2.2.2.2.2.2.2.1:Nat):Int)=5;rw[h];decide;have:(((aLq d.1.2.2.2.2.2.2.2.2.2.2.2.2.1:Nat):Int)==(5:Int))=false:=by simpa using h
 rw[an rfl,this];rfl;revert a;cases f.1;intro a;simp at a;by_cases h:((aLq d.1.2.2.2.2.2.2.2.2.2.2.2.2.1:Nat):Int)=5;intro a;rw[an rfl,h,an (by rfl)]at a;exact an6 Q e.1 (by show(aLq d.1.2.2.2.2.2.2.2.2.2.2.2.2.1)=5;omega) (by simpa using a);have:(((aLq d.1.2.2.2.2.2.2.2.2.2.2.2.2.1:Nat):Int)==(5:Int))=false:=by simpa using h
 intro a;rw[an rfl,this]at a;simp at a
theorem alb{l:List ar}{i:Nat}(h:af (.sl ah) l<=1048576)(a:i<l.length):af ah (l.getD i ah.aa)<=1048576:=by
 have:=dw (e:=ah) (l:=l) (i:=i) (d:=ah.aa) a;omega
def apl{l:List ar}{i:Nat}(h:af (.sl ah) l<=1048576)(a:i<l.length):af (.sl ab) (aW (l.getD i ah.aa))<=1048576:=by
 have h1:=dw (e:=ah) (l:=l) (i:=i) (d:=ah.aa) a;have h2:=jT Q (l.getD i ah.aa);omega
set_option maxHeartbeats 8000000 in
theorem ak8(x:List Int):RT k (x,())=some (true,()):=by
 have key:Dr (RT k (x,())) (fun r=>r.1=true):=by
  simp only[RT];have J:xX k (x,())=some (decide ((x.length:Int)>1048576),()):=rfl;refine fc J (bm (fun _=>bl rfl) (fun B=> ?_))
  have B:x.length<=1048576:=by have:¬(x.length:Int)>1048576:=by simpa using B
                               omega
  refine aS (afF Q B) (fun r8 h8=> ?_);obtain⟨w,i,u8⟩:=r8;dsimp only at h8|-;have hw:=h8.tt;refine fc (aeA Q (by omega)) (fc (aey Q (by omega)) ?_);rw[abJ (p:=ML) rfl h8.got];refine aS (akn Q B) (fun r5 h5=> ?_);obtain⟨q,v,u5⟩:=r5;dsimp only at h5|-;have hw5:=h5.tt;have hti5:=h5.ti;refine fc (ajs Q (by omega)) (fc (aja Q (by omega)) ?_);refine aS (aj0 Q B) (fun r7 h7=> ?_);obtain⟨l7,n7,u7⟩:=r7;dsimp only at h7|-;refine fc (Yi Q (by omega)) ?_
  have z5:af az (UX k q v)<=1048576:=by
   have:=anr Q (w:=q) (i:=v);omega
  have K:∀j:Nat,j<3->bC k w=true->(iU true k w j).1=true->bC k (iU true k w j).2=true:=fun j z g m=>by
   have hti:=h8.ti;have N:=h8.ver;exact Rf (s:=true) g (show j<5 by omega) (by omega) (fun p n=>by have:=N p n;omega) (fun e=>by omega) (fun e=>by omega) m
  have P:∀j:Nat,ML (aci w j)=true->iU true k w j=eF true k w j:=fun j n=>by
   have C:aci w j=4:=e_ n;unfold iU;unfold aci at C;rw[a_ (by omega),a_ (by omega),an C]
  have S:∀j:Nat,j<3->bC k w=true->ML (aci w j)=true->(iU true k w j).1=true->af az (iU true k w j).2<=1048576:=by
   intro j z g n m;have h2:=K j z g m;rw[P j n]at h2|-;have C:aci w j=4:=e_ n;obtain⟨c,ti,O,st,Z,U,gr,A,nn,T,n_,V,E,M⟩:=w;have:=ame Q (n_:=n_) (bR.1 g) z rfl C h2;omega
  have z8:af az (yT true k w i ML).1<=1048576:=by
   rcases XN (k:=k) (w:=w) (i:=i) (p:=ML)with e|⟨j,rfl,z,g,n,m,e⟩;rw[e];show af az w<=_;omega;rw[e];exact S j z g n m
  have c0:qu k q v=true->bC k (UX k q v)=true:=by
   intro I;unfold qu at I;simp only[aLr]at I;exact(alV (l:=[]) I.1 (by omega)).2.2
  refine fc (a:=(true,())) (by simp only[beq_self_eq_true,aLs,if_true];exact pw Q z8) ?_;refine fc (a:=(true,())) (by simp only[beq_self_eq_true,aLs,if_true,aLo,if_false];exact pw Q z5) ?_;simp only[beq_self_eq_true,aLs,if_true,aLo,if_false];refine fc (ajr Q (by omega)) ?_;have t7:af (.sl ab) (dC n7 l7)<=700:=aLu (NX) h7;have W:=rq Q (l:=dC n7 l7) (by omega);refine fc W ?_;have e0:=lC Q (w:=UX k q v) z5;simp only[aLs,aLo,if_false,beq_self_eq_true,aLw]
  refine fc (a:=(qu k q v,())) (by
   cases I:qu k q v;rw[a_ (by decide)];rw[an (by decide),e0,c0 I]) ?_
  have j0:(if qu k q v=true then !qu k q v else false)=false:=by cases qu k q v<;>rfl
  simp only[j0,beq_self_eq_true,if_true];refine fc (Yi Q (by omega)) ?_;rw[akT];refine fc W (bm (fun F=>by simp at F) (fun _=> ?_));rcases XN (k:=k) (w:=w) (i:=i) (p:=ML)with e|⟨j,rfl,z,g,n,m,e⟩;rw[e];exact bm (fun _=>fc (pw Q (w:=w) (by omega)) (bl rfl)) (fun F=>by simp at F);have o:=S j z g n m;have f:=K j z g m;rw[e];rw[P j n]at m f o|-;have C:aci w j=4:=e_ n;obtain⟨c,ti,O,st,Z,U,gr,A,nn,T,n_,V,E,M⟩:=w;have R:=bR.1 g;have C:(E.getD j ak.aa).1=4:=C;have L:=al9 (n_:=n_) R z rfl C m;have htl:=R.tl;have s1:=(Ys Q R)
  have Y:=hw;rw[da Q]at Y;dsimp only at Y;generalize eF true k (c,ti,O,st,Z,U,gr,A,nn,T,n_,V,E,M) j=X at m f o L;obtain⟨X1,y⟩:=X;dsimp only at m f o L|-;subst m;unfold acJ at L;dsimp only[bF]at L;generalize et:E.getD j ak.aa=t at*
  have D:=lC Q (w:=y) o;rw[f]at D;have hy:=aof Q o;obtain⟨c',ti',now',H,subs',feed',gr',groups',nn',heap',sink',said',tasks',h⟩:=y;have s2:=Ys Q (bR.1 f);dsimp only[mH,bV]at L hy|-;obtain⟨L1,L2,L3,L4,L5⟩:=L;have k0:decide (0<=((j:Nat):Int)/\((j:Nat):Int)<((aLq E:Nat):Int))=true:=c_ (by omega);have b0:decide (0<=t.2.2.2.2.1/\t.2.2.2.2.1<((aLq H:Nat):Int))=true:=c_ (by omega);have o0:decide (0<=t.2.2.2.2.1/\t.2.2.2.2.1<((aLq st:Nat):Int))=true:=c_ (by omega);refine bm (fun F=>by simp at F) (fun _=> ?_);rw[aLn,et];refine dO k0 (fc D (bm (fun F=>by simp at F) (fun _=>bm (fun G=> ?_) (fun G=> ?_))));have G:t.2.1=0:=by simpa using G
  refine dO b0 (bl ?_);rw[L4 G];simp;have G:¬t.2.1=0:=by simpa using G
  obtain⟨M1,M2,M3,M4,M5,M6⟩:=L5 G;have p0:decide (0<=((aLq M:Nat):Int)/\((aLq M:Nat):Int)<((aLq h:Nat):Int))=true:=c_ (by omega);rw[aLn];generalize ed:h.getD M.length aw.aa=d at M2 M3 M5;have M5:bq H+(aLq d.2.2.2.2.2.2.2.1)=bq st:=M5;refine dO p0 ?_;simp only[M2,M3,M6,b0,o0,beq_self_eq_true,if_true,Bool.or_true];have a1:=qP Q (alb Q hy L3);have a2:=qP Q (alb Q (l:=st) (by omega) L2);have it:=apl Q (l:=st) (i:=t.2.2.2.2.1.toNat) (by omega) L2;refine fc a1 (fc a2 (fc (Yi Q (l:=aW (st.getD t.2.2.2.2.1.toNat ah.aa)) (by omega)) ?_));rw[M4];have sm:=rq Q (l:=dC O (aW (st.getD t.2.2.2.2.1.toNat ah.aa))) (aLu (NX) it);refine fc sm ?_;simp only[beq_self_eq_true,if_true];refine fc (ue Q hy) (fc (ue Q (by omega)) ?_)
  have hc:(IntKind.i64.wrap (((bq H:Nat):Int)+((aLq d.2.2.2.2.2.2.2.1:Nat):Int))==((bq st:Nat):Int))=true:=by
   rw[wrap64 (by omega) (by omega),beq_iff_eq];omega
  simp only[hc,if_true];exact bl rfl
 obtain⟨⟨b,u⟩,e,B⟩:=key;rw[e];dsimp only at B;rw[B]
def amx{x:List Int×Unit}(hx:Fits (.sl (.int .u8)) x.1):RT k x=some (true,()):=ak8 Q x.1
end
end Vg.Tryz
namespace Go.Proofs.YtgikmhjpcnnhjaaGreat.fnSweeps
open Go.ChangeShapes Go.WideShapes Go.ChangeAt Go.RowKit Vg
def laid:laidOutB Tryz.prog=true:=by kernel_rfl
def e_9:(Rows.fnSweepsRow.inPlace==Program.inPlace Tryz.prog 9)=true:=by kernel_rfl
def ac2:(Rows.fnSweepsRow.unfollowed==Program.unfollowed Tryz.prog 9)=true:=by kernel_rfl
def abU:(Rows.fnSweepsRow.recurses==Program.recurses Tryz.prog 9)=true:=by kernel_rfl
def aaP:(Rows.fnSweepsRow.named==Program.varsNamed Tryz.prog 9)=true:=by kernel_rfl
def abv:(Rows.fnSweepsRow.plainKeys==Program.plainKeys Tryz.prog)=true:=by kernel_rfl
def abR:Program.stopsHeard Tryz.prog=true:=by kernel_rfl
def acg:Program.mayEnter Tryz.prog=true:=by kernel_rfl
def acb:(Rows.fnSweepsRow.lifted==Program.liftsFinal Tryz.prog)=true:=by kernel_rfl
def acr:(Program.make Tryz.prog==some Rows.fnSweepsRow.make)=true:=by kernel_rfl
def facts:joinedFacts Tryz.prog 9 Tryz.f9 Rows.fnSweepsSpec Rows.fnSweepsRow=true:=by
 unfold joinedFacts;simp only[aLr]
 repeat' apply And.intro
 kernel_rfl
 exact laid
 kernel_rfl
 kernel_rfl
 kernel_rfl
 kernel_rfl
 kernel_rfl
 kernel_rfl
 kernel_rfl
 exact e_9;exact ac2;exact abU;exact aaP
 kernel_rfl
 kernel_rfl
 kernel_rfl
 kernel_rfl
 kernel_rfl
 kernel_rfl
 kernel_rfl
 kernel_rfl
 kernel_rfl
 exact abv
 kernel_rfl
 exact abR;exact acg;exact acb;exact acr
 kernel_rfl
 kernel_rfl
 kernel_rfl
 kernel_rfl
end Go.Proofs.YtgikmhjpcnnhjaaGreat.fnSweeps
