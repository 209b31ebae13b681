/- Texts of this law, joined. -/
import Derived.Test.YtgikmhjpcnnhjaaGreatQsPH
import Derived.Test.YtgikmhjpcnnhjaaGreatVd
import Derived.Test.YtgikmhjpcnnhjaaGreatQsE5
set_option linter.unusedSimpArgs false
set_option linter.unusedVariables false
set_option linter.unusedSectionVars false
set_option linter.defProp false
open Option renaming bind_some -> aJD
open Bool renaming and_eq_true -> y_,or_eq_true -> aJK,false_eq_true -> aJO,false_ne_true -> aJU,not_eq_true' -> aJV,not_false -> aJ8,not_eq_true -> aKn
open Int renaming toNat_natCast -> E_,le_refl -> aJP,toNat -> aJT,tmod_lt_of_pos -> aKh,tmod_nonneg -> aKo
open List renaming getD_eq_getElem?_getD -> aJG,mem_flatMap -> aJH,length_append -> aJI,length_singleton -> aJJ,mem_singleton -> aJL,length_set -> aJM,mem_append -> aJN,mem_or_eq_of_mem_set -> aJQ,getElem?_append_right -> aJR,pairwise_iff_getElem -> aJS,flatMap_cons -> aJW,pairwise_map -> aJX,set_set -> aJY,getElem_of_mem -> aJ0,getElem?_append_left -> aJ1,pairwise_singleton -> aJ2,pairwise_append -> aJ3,getElem_take -> aJ4,all_eq_true -> aJ5,getElem_mem -> aJ6,flatMap_def -> aJ7,take_append_drop -> aJ9,getElem?_set_ne -> aKa,mem_of_mem_take -> aKb,mem_of_mem_drop -> aKc,getD_cons_zero -> aKe,getD_cons_succ -> aKf,flatMap_append -> aKg,set_cons_zero -> aKi,length -> aKj,ext_getElem -> aKk,length_take -> aKl,filter_cons -> aKm,mem_filter -> aKp
open Nat renaming le_refl -> aJZ,lt_irrefl -> aKd,strongRecOn -> aKq
open Iff renaming rfl -> aKr
namespace Vg.Tryz
open Go Vg
def mF(s:Bool)(k:Nat)(w:ag)(i:Nat):Bool×ag:=
 match w with
 |(c,ti,O,st,Z,U,gr,A,nn,T,n_,V,E,M)=>
  let t:=E.getD i ak.aa
  let n:=(bf t).toNat
  let j:=(bz k st t.2.2.2.1).toNat
  let d:=M.getD n aw.aa
  if t.2.1=0 then dZ w i j
  else if(bL k st t.2.2.2.1).2=true then(true,(c,ti,O,bT st j (-1),Z,U,gr,A,nn,T,n_,V,E.set i zT,M.set n (dA s true d O ti 5 [(bL k st t.2.2.2.1).1])))
  else(true,(c,ti,O,bT st j (-1),Z,U,gr,A,nn,T,n_,V,E.set i zT,M.set n (dA s false d O ti 6 [])))
section
variable{k:Nat}(Q:9223372036854775808<=k)
include Q
variable{c:bh}{ti O gr nn:Int}{st:List ar}{Z:List bg}{U V:List ae}{A:List au}{T:List aJ}{n_:List br}{E:List aF}{M:List aC}
def QL{l:List ar}{s:List ai}:af ab (bL k l s).1<=af (.sl ah) l:=by
 have a:af ab cF=0:=by rw[bo Q];rfl
 unfold bL;split;rw[a];omega;rename_i b;obtain⟨_,_,c⟩:=mD (k:=k) (l:=l) (s:=s) b;have f:=dw (e:=ah) (d:=ah.aa) c;generalize l.getD (bz k l s).toNat ah.aa=p at f|-;have h3:=bY Q p;unfold fg;cases hc:fx p (cH k s)with
 |none=>dsimp only;rw[a];omega
 |some i=>
  obtain⟨h,_,_⟩:=aZ.1 hc;have h4:=dw (e:=ax) (d:=ax.aa) h;have h5:=cu Q (p.2.2.getD i ax.aa);dsimp only;cases g:fI (p.2.2.getD i ax.aa).2 s with
  |none=>dsimp only;rw[a];omega
  |some j=>
   obtain⟨m,_,_⟩:=aZ.1 g;have h6:=dw (e:=ab) (d:=ab.aa) m;dsimp only;omega
set_option maxHeartbeats 4000000 in
theorem HI{i n j:Nat}{t:aF}{d:aC}(hs:af az (c,ti,O,st,Z,U,gr,A,nn,T,n_,V,E,M)<=1048576)(b:i<E.length)(a:E.getD i ak.aa=t)(u:t.1=2)
 (p:j<st.length) (q:bz k st t.2.2.2.1=(j:Int)) (r:n<M.length) (f:bf t=(n:Int)) (g:M.getD n aw.aa=d) (h:t.2.1=0\/t.2.1=1):
 oz k ((c,ti,O,st,Z,U,gr,A,nn,T,n_,V,E,M),(i:Int),())=
  some ((mF true k (c,ti,O,st,Z,U,gr,A,nn,T,n_,V,E,M) i).1,(mF true k (c,ti,O,st,Z,U,gr,A,nn,T,n_,V,E,M) i).2,()):=by
 have hsum:=gG Q hs;have m:=dw (e:=ak) (d:=ak.aa) b;rw[a]at m;have hta:=bw Q t;have hfa:=QL Q (l:=st) (s:=t.2.2.2.1);simp only[oz,E_,a,cj];rw[an (aA b),nx Q (by omega),aJD,q];unfold mF;simp only[a,f,g,q,E_];rcases h with o|o;rw[o,an (by decide),pP Q b p,an rfl];unfold dZ;simp only[a,u];split<;>simp[bT];rw[o,a_ (by decide),a_ (by decide),ia Q (by omega) (by omega),aJD,an (aA p)];cases hb:(bL k st t.2.2.2.1).2 with
 |true=>
  have v:af (.sl ab) [(bL k st t.2.2.2.1).1]<=1073741824:=by
   rw[bS (e:=ab),aX (e:=ab)];omega
  rw[an rfl,an rfl,fj Q b r (by rw[a];exact f) v,aJD,g];rfl
 |false=>
  rw[a_ aJU,a_ aJU,fj Q b r (by rw[a];exact f) (by simp[af]),aJD,g];rfl
end
def lR(st:List ar)(t:aF)(j:Nat):aF:=
 (t.1,if j+1=st.length then 2 else 0,t.2.2.1,t.2.2.2.1,((j+1:Nat):Int),t.2.2.2.2.2.1++[(st.getD j ah.aa).2.1],t.2.2.2.2.2.2.1++aW (st.getD j ah.aa),t.2.2.2.2.2.2.2)
def qX(n:Int):aF:=(3,0,cF,[],0,[],[],0,n)
def fH(s:Bool)(k:Nat)(w:ag)(i:Nat):Bool×ag:=
 match w with
 |(c,ti,O,st,Z,U,gr,A,nn,T,n_,V,E,M)=>
  let t:=E.getD i ak.aa
  let n:=(bf t).toNat
  let j:=t.2.2.2.2.1.toNat
  let d:=M.getD n aw.aa
  if t.2.1=0 then dZ w i j
  else if t.2.1=1 then(true,(c,ti,O,bT st j (-1),Z,U,gr,A,nn,T,n_,V,E.set i (lR st t j),M))
  else if gC st t.2.2.2.2.2.1=true then(true,(c,ti,O,st,Z,U,gr,A,nn,T,n_,V,E.set i zT,M.set n (dA s true d O ti 8 (dE t.2.2.2.2.2.2.1))))
  else(true,(c,ti,O,st,Z,U,gr,A,nn,T,n_,V,E.set i (qX n),M))
section
variable{k:Nat}(Q:9223372036854775808<=k)
include Q
variable{c:bh}{ti O gr nn:Int}{st:List ar}{Z:List bg}{U V:List ae}{A:List au}{T:List aJ}{n_:List br}{E:List aF}{M:List aC}
end
def wV(s:Bool)(k:Nat)(w:ag)(i:Nat):Bool×ag:=
 match w with
 |(c,ti,O,st,Z,U,gr,A,nn,T,n_,V,E,M)=>
  if(E.getD i ak.aa).1=2 then mF s k w i else fH s k w i
def nW(s:Bool)(k:Nat)(w:ag)(i:Nat):Bool×ag:=bH (wV s k w i)
def Rz{r:Bool×ag}:(if r.1=true then some (r.1,(r.2.1,IntKind.i64.wrap (r.2.2.1+1),r.2.2.2),())else some (r.1,r.2,()))=some ((bH r).1,(bH r).2,()):=by
 obtain⟨b,w⟩:=r;cases b<;>rfl
section
variable{k:Nat}(Q:9223372036854775808<=k)
include Q
variable{c:bh}{ti O gr nn:Int}{st:List ar}{Z:List bg}{U V:List ae}{A:List au}{T:List aJ}{n_:List br}{E:List aF}{M:List aC}
set_option maxHeartbeats 8000000 in
def FO{i j:Nat}{t:aF}(hs:af az (c,ti,O,st,Z,U,gr,A,nn,T,n_,V,E,M)<=1048576)(b:i<E.length)(g:E.getD i ak.aa=t)
 (h:t.2.2.2.2.1=(j:Int)) (a:j<st.length):
 nK k ((c,ti,O,st,Z,U,gr,A,nn,T,n_,V,E,M),(i:Int),())=some ((c,ti,O,bT st j (-1),Z,U,gr,A,nn,T,n_,V,E.set i (lR st t j),M),()):=by
 have hsum:=gG Q hs;have f:=dw (e:=ak) (d:=ak.aa) b;rw[g]at f;have hstl:=ay (e:=ah) (l:=st);have hta:=bw Q t;have hsl:=ay (e:= .int .i64) (l:=t.2.2.2.2.2.1);have hgl:=ay (e:=ab) (l:=t.2.2.2.2.2.2.1);have hpj:=dw (e:=ah) (d:=ah.aa) a;have hai:=jT Q (st.getD j ah.aa);have hal:=ay (e:=ab) (l:=aW (st.getD j ah.aa));simp only[nK,E_,g,h,fu,cj,aJY,aT _ _ b]
 rw[an (aA b),an (aA a),an (c_ (by simp only[aJJ];omega)),an (by simp),an (aA a),oX Q (by omega),aJD,
  an (c_ (by dsimp only;omega)),an (by simp),aV (by omega)]
 unfold lR;by_cases e:j+1=st.length;rw[an (c_ (by omega)),an (aA a),an e];rfl;rw[a_ (by simp;omega),an (aA a),a_ e];rfl
set_option maxHeartbeats 8000000 in
theorem DT{i n:Nat}{t:aF}{d:aC}(hs:af az (c,ti,O,st,Z,U,gr,A,nn,T,n_,V,E,M)<=1048576)(b:i<E.length)(f:E.getD i ak.aa=t)(hp:t.1=3)
 (g:t.2.2.2.2.2.1.length=st.length) (s:n<M.length) (j:bf t=(n:Int)) (r:M.getD n aw.aa=d) (m:t.2.1=2):
 mn k ((c,ti,O,st,Z,U,gr,A,nn,T,n_,V,E,M),(i:Int),())=
  some ((fH true k (c,ti,O,st,Z,U,gr,A,nn,T,n_,V,E,M) i).2,()):=by
 have hsum:=gG Q hs;have o:=dw (e:=ak) (d:=ak.aa) b;rw[f]at o;have hta:=bw Q t;have hstl:=ay (e:=ah) (l:=st);have hso:=tL t.2.2.2.2.2.2.1;have a:=j;unfold bf at a;unfold fH;simp only[f,j,r,m,E_];rw[a_ (show¬(2:Int)=0 by decide),a_ (show¬(2:Int)=1 by decide)];simp only[mn,E_,f,aN];rw[an (aA b)]
 refine(cU (fun q:Nat=>((c,ti,O,st,Z,U,gr,A,nn,T,n_,V,E,M),(i:Int),t,(q:Int),())) (fun q=>decide (t.2.2.2.2.2.1.getD q 0=(st.getD q ah.aa).2.1)) st.length
  (e:=some ((c,ti,O,st,Z,U,gr,A,nn,T,n_,V,E.set i zT,M.set n (dA true true d O ti 8 (dE t.2.2.2.2.2.2.1))),())) (no:=some ((c,ti,O,st,Z,U,gr,A,nn,T,n_,V,E.set i (qX n),M),())) ?_ ?_ k 0 (by omega) (by omega)).trans ?_
 intro G q p;dsimp only;rw[aH,c_ p,an rfl,an (aA p),an (aA (by omega)),an (aA b),E_,aV (by omega),fq];by_cases e:t.2.2.2.2.2.1.getD q 0=(st.getD q ah.aa).2.1;rw[c_ e,c_ e.symm];rfl;rw[decide_eq_false e,decide_eq_false (fun h=>e h.symm)];simp only[aJ8,if_true,E_];rw[a];rfl;intro G;simp only[aH,aKd,decide_false,aJO,if_false];rw[KI Q (by omega),aJD,fj Q b s (by rw[f];exact j) (by dsimp only;omega),aJD,r];rfl;unfold gC;rw[g];cases bA 0 st.length (fun q=>decide (t.2.2.2.2.2.1.getD q 0=(st.getD q ah.aa).2.1))<;>rfl
set_option maxHeartbeats 8000000 in
theorem uu{i n j:Nat}{t:aF}{d:aC}(hs:af az (c,ti,O,st,Z,U,gr,A,nn,T,n_,V,E,M)<=1048576)(e:i<E.length)(f:E.getD i ak.aa=t)(a:t.1=2\/t.1=3)
 (m:(t.1=2\/t.2.1≠2)->j<st.length) (g:if t.1=2 then bz k st t.2.2.2.1=(j:Int)else t.2.2.2.2.1=(j:Int)) (o:t.1=3->t.2.1=2->t.2.2.2.2.2.1.length=st.length) (q:n<M.length) (r:bf t=(n:Int)) (s:M.getD n aw.aa=d)
 (p:t.2.1=0\/t.2.1=1\/t.1=3/\t.2.1=2):
 ky k ((c,ti,O,st,Z,U,gr,A,nn,T,n_,V,E,M),(i:Int),())=
  some ((nW true k (c,ti,O,st,Z,U,gr,A,nn,T,n_,V,E,M) i).1,(nW true k (c,ti,O,st,Z,U,gr,A,nn,T,n_,V,E,M) i).2,()):=by
 unfold nW wV;simp only[ky,aN,E_,f];rw[an (aA e)];rcases a with a|a;rw[a,an (by decide),an rfl,HI Q hs e f a (m (.inl a)) (by rw[an a]at g;exact g) q r s (by omega),aJD];exact Rz;rw[a,a_ (by decide),a_ (show¬(3:Int)=2 by decide),an (aA e)];rw[a_ (by omega)]at g;rcases p with b|b|⟨_,b⟩;rw[b,an (by decide),an (aA e),g,pP Q e (m (.inr (by omega)))]
 have l:fH true k (c,ti,O,st,Z,U,gr,A,nn,T,n_,V,E,M) i=dZ (c,ti,O,st,Z,U,gr,A,nn,T,n_,V,E,M) i j:=by
  unfold fH;simp only[f,b,g,E_,if_true]
 rw[l];unfold dZ;simp only[f];by_cases h:(st.getD j ah.aa).1= -1;rw[an h,an h];rfl;rw[a_ h,a_ h];rfl;rw[b,a_ (by decide),an (aA e),an (by decide),FO Q hs e f g (m (.inr (by omega))),aJD]
 have l:fH true k (c,ti,O,st,Z,U,gr,A,nn,T,n_,V,E,M) i=(true,(c,ti,O,bT st j (-1),Z,U,gr,A,nn,T,n_,V,E.set i (lR st t j),M)):=by
  unfold fH;simp only[f,b,g,E_,if_true];rw[a_ (show¬(1:Int)=0 by decide)]
 rw[l];rfl;rw[b,a_ (by decide),an (aA e),a_ (by decide),DT Q hs e f a (o a b) q r s b,aJD]
 have l:(fH true k (c,ti,O,st,Z,U,gr,A,nn,T,n_,V,E,M) i).1=true:=by
  unfold fH;simp only[f,b];rw[a_ (show¬(2:Int)=0 by decide),a_ (show¬(2:Int)=1 by decide)];split<;>rfl
 unfold bH;rw[l];rfl
end
def fb(i j:Int)(got:List ae):aC:=(5,i,cF,[],j,0,8,got,0,0,0,0)
def qJ(s:Bool)(k:Nat)(w:ag)(i:Nat):Bool×ag:=
 match w with
 |(c,ti,O,st,Z,U,gr,A,nn,T,n_,V,E,M)=>
  let t:=E.getD i ak.aa
  let n:=(bf t).toNat
  let j:=t.2.2.2.2.1.toNat
  let d:=M.getD n aw.aa
  let p:=st.getD j ah.aa
  if t.2.1=0 then dZ w i j
  else(true,(c,ti,O,st.set j (-1,(dU p O).2),Z,U,gr,A,nn,T,n_,V,
   E.set i (if j+1=st.length then zT else(t.1,0,t.2.2.1,t.2.2.2.1,((j+1:Nat):Int),t.2.2.2.2.2)),
   if j+1=st.length then(M++[eT (fb i j (db O p.2.2)) O ti ti ti]).set n (dA s false d O ti 8 [])else M++[eT (fb i j (db O p.2.2)) O ti ti ti]))
def eF(s:Bool)(k:Nat)(w:ag)(i:Nat):Bool×ag:=bH (qJ s k w i)
section
variable{k:Nat}(Q:9223372036854775808<=k)
include Q
variable{c:bh}{ti O gr nn:Int}{st:List ar}{Z:List bg}{U V:List ae}{A:List au}{T:List aJ}{n_:List br}{E:List aF}{M:List aC}
def QX{O:Int}(l:List aP):af (.sl ab) (db O l)<=af (.sl ax) l:=
 kV Q (e:=ax) (f:=ab) (g:=fun c=>iV O c.2) (fun x=>by
  have h1:=cu Q x;have h2:=zB Q (O:=O) (l:=x.2);omega) l
set_option maxHeartbeats 8000000 in
theorem aez{i n j:Nat}{t:aF}{d:aC}(hs:af az (c,ti,O,st,Z,U,gr,A,nn,T,n_,V,E,M)<=1048576)(b:i<E.length)(f:E.getD i ak.aa=t)(h:t.1=4)
 (o:t.2.2.2.2.1=(j:Int)) (g:j<st.length) (w:n<M.length) (u:bf t=(n:Int)) (v:M.getD n aw.aa=d) (q:t.2.1=0\/t.2.1=1):
 Bm k ((c,ti,O,st,Z,U,gr,A,nn,T,n_,V,E,M),(i:Int),())=
  some ((eF false k (c,ti,O,st,Z,U,gr,A,nn,T,n_,V,E,M) i).1,(eF false k (c,ti,O,st,Z,U,gr,A,nn,T,n_,V,E,M) i).2,()):=by
 have hsum:=gG Q hs;have r:=dw (e:=ak) (d:=ak.aa) b;rw[f]at r;have hdl:=ay (e:=aw) (l:=M);have hstl:=ay (e:=ah) (l:=st);have x:af ak t<=1048576:=by omega
 have hta:=bw Q t;have hpj:=dw (e:=ah) (d:=ah.aa) g;have hgr:cA t=false:=by unfold cA;rw[h];rfl
 unfold eF qJ;simp only[f,u,v,o,E_];simp only[Bm,E_,f,o,fu,aN,cj,fq];rw[an (aA b),h,a_ (by decide)];rcases q with p|p
 have y:UK k (E.getD i ak.aa) (st.length:Int)=(j:Int):=by
  rw[f];unfold UK;rw[a_ (by omega),a_ (by simp[p]),a_ (by omega),a_ (by omega),an (by omega)];exact o
 rw[p,an (by decide),ah9 Q b g (by rw[f];exact x) y,an rfl];unfold dZ bH;simp only[f,h];split<;>simp[bT,tick];rw[p,a_ (by decide),an (aA g),ahI Q (by omega),aJD,an (aA g),ajB Q (by omega),aJD];dsimp only;rw[amF (j:=j) Q b (by rw[aJM];exact g) (by rw[f];exact o) (by rw[aJM];omega),aJD];simp only[aJY,aT _ _ b,aT _ _ g,aJM,f];rw[a_ (show¬(1:Int)=0 by decide)];by_cases e:j+1=st.length;rw[an (c_ (by omega)),an e,an e]
 have a:bn k (t.1,0,t.2.2.1,t.2.2.2.1,((j+1:Nat):Int),t.2.2.2.2.2) (st.length:Int)= -1:=by
  unfold bn;split;rfl;rw[a_ (by dsimp only;omega),a_ (by dsimp only;omega),a_ (by dsimp only;omega)]
 have m:cA (t.1,0,t.2.2.1,t.2.2.2.1,((j+1:Nat):Int),t.2.2.2.2.2)=false:=by unfold cA;dsimp only;rw[h];rfl
 have s:af ak (t.1,0,t.2.2.1,t.2.2.2.1,((j+1:Nat):Int),t.2.2.2.2.2)<=1048576:=by rw[bw Q];dsimp only;omega
 rw[aaq (n:=n) Q (by rw[aJM];exact b) (by rw[aJI,aJJ];omega) (by rw[aT _ _ b];exact u) (by rw[aT _ _ b];exact s)
  (by rw[aT _ _ b,aJM,a];omega),aJD,aT _ _ b,aJM,a,m,sD _ _ w,v,aJY]
 rfl;rw[a_ (by simp;omega),a_ e,a_ e,h];rfl
set_option maxHeartbeats 8000000 in
theorem Cl{i n j:Nat}{t:aF}{d:aC}(hs:af az (c,ti,O,st,Z,U,gr,A,nn,T,n_,V,E,M)<=1048576)(a:i<E.length)(f:E.getD i ak.aa=t)(q:t.1=4)
 (m:t.2.2.2.2.1=(j:Int)) (b:j<st.length) (r:n<M.length) (o:bf t=(n:Int)) (p:M.getD n aw.aa=d) (g:t.2.1=0\/t.2.1=1):
 jI k ((c,ti,O,st,Z,U,gr,A,nn,T,n_,V,E,M),(i:Int),())=
  some ((eF true k (c,ti,O,st,Z,U,gr,A,nn,T,n_,V,E,M) i).1,(eF true k (c,ti,O,st,Z,U,gr,A,nn,T,n_,V,E,M) i).2,()):=by
 have hsum:=gG Q hs;have hdl:=ay (e:=aw) (l:=M);have hstl:=ay (e:=ah) (l:=st);have hpj:=dw (e:=ah) (d:=ah.aa) b;have hgl:=QX Q (O:=O) (st.getD j ah.aa).2.2;have hpp:=bY Q (st.getD j ah.aa);unfold eF qJ;simp only[f,o,p,m,E_];simp only[jI,E_,f,m,fu,aN,cj,fq];rw[an (aA a),an (aA a)];rcases g with h|h;rw[h,an (by decide),pP Q a b,an rfl];unfold dZ bH;simp only[f,q];split<;>simp[bT,tick];rw[h,a_ (by decide),an (aA b),FR Q (by omega),aJD,an (aA b),fB Q (by dsimp only;omega),aJD];dsimp only;rw[N1 Q (by omega),aJD];simp only[aJY,aT _ _ a,aT _ _ b,aJM,f];rw[a_ (show¬(1:Int)=0 by decide),an (aA a),an (aA a),aV (by omega)];by_cases e:j+1=st.length;rw[an (c_ (by omega)),an e,an e];rw[fj (n:=n) Q (by rw[aJM];exact a) (by rw[aJI,aJJ];omega) (by rw[aT _ _ a];exact o) (by simp[af]),aJD,sD _ _ r,p,aJY];rfl;rw[a_ (by simp;omega),a_ e,a_ e];rfl
end
section
variable{k:Nat}(Q:9223372036854775808<=k)
include Q
theorem MC{b:List Int}(g:b.length<=1048576):Dr (mA k (b,())) (fun r=>aR r.1):=by
 simp only[mA];refine zp (fun s=>s.1=b) (fun s d=>bl ⟨by rw[d];exact g,by simp,by simp⟩) (fun J f=> ?_);refine vg (fun s=>b.length-s.2.2.1.toNat) (fun s=>s.1=b/\0<=s.2.2.1/\s.2.2.1<=(b.length:Int)) ?_ ⟨rfl,by simp,by simp⟩ (by simp only;omega);rintro G ⟨s,h,i,u⟩ ⟨e,h0,h1⟩ hG;change s=b at e;change 0<=i at h0;change i<=(b.length:Int)at h1;subst e;dsimp only;refine bm (fun hc=> ?_) (fun hc=>f _ rfl)
 have a:i<(s.length:Int):=by
  by_cases a:i<(s.length:Int);exact a;simp[a]at hc
 refine dO (by simp;omega) (hG _ ⟨rfl,?_,?_⟩ ?_)<;>(dsimp only;rw[wrap64 (by omega) (by omega)];omega)
theorem uy{c:aE}(hc:aR c):Dr (gU k (c,())) (fun r=>aR r.2.1/\0<=r.1/\r.1<=255):=by
 obtain⟨b,i,h⟩:=c;obtain⟨d,e,f⟩:=hc;dsimp only at d e f;simp only[gU];refine dO (by decide) (dO (by decide) ?_);refine bm (fun a=> ?_) (fun a=> ?_);have a:i<(b.length:Int):=by simpa using a
 refine dO (by simp;omega) (bl ⟨⟨d,?_,?_⟩,V1 _⟩)<;>(dsimp only;rw[wrap64 (by omega) (by omega)];omega)
 exact bl ⟨⟨d,e,f⟩,V1 _⟩
def aQ{c:aE}{n:Int}(hc:aR c):Dr (aL k (c,n,())) (fun r=>aR r.2.1/\0<=r.1/\(r.1<n\/r.1=0)):=by
 simp only[aL];refine bm (fun a=>bl ⟨hc,by simp,by simp⟩) (fun a=> ?_);have a:0<n:=by simpa using a
 refine bm (fun f=> ?_) (fun f=> ?_);refine aS (uy Q hc) (fun r b=>dO (by simp;omega) (bl ⟨b.1,?_,.inl ?_⟩));exact aKo _ b.2.1;exact aKh _ a;refine aS (uy Q hc) (fun r b=>aS (uy Q b.1) (fun g d=>aS (uy Q d.1) (fun r3 e=>dO (by simp;omega) (bl ⟨e.1,?_,.inl ?_⟩))));refine aKo _ ?_;have h1:=b.2;have h2:=d.2;have h3:=e.2;rw[wrap64 (n:=r.1*65536) (by omega) (by omega),wrap64 (n:=g.1*256) (by omega) (by omega),wrap64 (n:=r.1*65536+g.1*256) (by omega) (by omega),wrap64 (by omega) (by omega)];omega;exact aKh _ a
def gu{c:aE}{n:Int}(hc:aR c):Dr (cB k (c,n,())) (fun r=>aR r.2.1):=by
 simp only[cB];exact aS (aQ Q hc) (fun r a=>bl a.1)
def NS{c:aE}{l:List Int}(hc:aR c)(hl:0<l.length):Dr (bd k (c,l,())) (fun r=>aR r.2.1/\r.1∈l):=by
 simp only[bd];refine aS (aQ Q hc) (fun r a=>dO (by simp;omega) (bl ⟨a.1,?_⟩));exact cT (by omega)
def TD{c:aE}{l:List ByteArray}(hc:aR c)(hl:0<l.length):Dr (eS k (c,l,())) (fun r=>aR r.2.1/\r.1∈l):=by
 simp only[eS];refine aS (aQ Q hc) (fun r a=>dO (by simp;omega) (bl ⟨a.1,?_⟩));exact cT (by omega)
end
def Hp(l:List ae)(s:List ai):Option Nat:=gO l.length (fun i=>decide ((l.getD i ab.aa).1=s))
def ib(l:List ae)(s:List ai):Nat:=(gO l.length (fun i=>bI s (l.getD i ab.aa).1)).getD l.length
def gw(l:List ae)(a:ae):List ae:=
 match Hp l a.1 with
 |some i=>l.set i a
 |none=>l.take (ib l a.1)++[a]++l.drop (ib l a.1)
def im(g:au)(a:ae):au:=(g.1,g.2.1,g.2.2.1,g.2.2.2.1,gw g.2.2.2.2 a)
def MS{α:Type}(l:List ae)(s:List ai)(f:Nat->α):(match gO l.length (fun i=>bI s (l.getD i ab.aa).1)with|some i=>f i|none=>f l.length)=f (ib l s):=by
 unfold ib;cases gO l.length (fun i=>bI s (l.getD i ab.aa).1)<;>rfl
section
variable{k:Nat}(Q:9223372036854775808<=k)
include Q
def EK{l:List ae}{i:Nat}(h:af (.sl ab) l<=1073741824):cm k (l.take i,())=some (l.take i,()):=
 fB Q (by have:=cN (e:=ab) l i;omega)
def xW{l:List ae}{i:Nat}(h:af (.sl ab) l<=1073741824):cm k (l.drop i,())=some (l.drop i,()):=
 fB Q (by have:=cN (e:=ab) l i;omega)
def wH{g:au}{a:ae}(hg:af aj g<=1048576)(ha:af ab a<=1048576):lF k (g,a,())=some (im g a,()):=by
 have h1:=cn Q g;have h2:=ay (e:=ab) (l:=g.2.2.2.2);have h3:=bo Q a;have h4:=ay (e:=al) (l:=a.1);simp only[lF,aN];rw[xL Q (by omega),aJD,dh Q (by omega),aJD]
 refine(iZ (fun i:Nat=>(g,a,(0,([]:List ai),0,0,([]:List ae)),g,a,(i:Int),())) (fun i=>decide ((g.2.2.2.2.getD i ab.aa).1=a.1)) g.2.2.2.2.length
  (e:=some ((g.1,g.2.1,g.2.2.1,g.2.2.2.1,g.2.2.2.2.take (ib g.2.2.2.2 a.1)++[a]++g.2.2.2.2.drop (ib g.2.2.2.2 a.1)),())) (fun i=>some ((g.1,g.2.1,g.2.2.1,g.2.2.2.1,g.2.2.2.2.set i a),())) (fun G i b=> ?_) (fun G=> ?_) k (by omega)).trans ?_
 simp only[aH,aA b,b,decide_true,if_true,E_];rw[aV (by omega),dF Q (fo Q (by omega) b).2,aJD];simp only[aH,aKd,decide_false,aJO,if_false]
 refine(iZ (fun i:Nat=>(g,a,(0,([]:List ai),0,0,([]:List ae)),g,a,(i:Int),())) (fun i=>bI a.1 (g.2.2.2.2.getD i ab.aa).1) g.2.2.2.2.length
  (e:=some ((g.1,g.2.1,g.2.2.1,g.2.2.2.1,g.2.2.2.2.take g.2.2.2.2.length++[a]++g.2.2.2.2.drop g.2.2.2.2.length),())) (fun i=>some ((g.1,g.2.1,g.2.2.1,g.2.2.2.1,g.2.2.2.2.take i++[a]++g.2.2.2.2.drop i),())) (fun G i b=> ?_) (fun G=> ?_) k (by omega)).trans ?_
 simp only[aH,aA b,b,decide_true,if_true,E_,Bool.or_true];rw[an (by simp),me Q (by omega),aJD];cases hq:bI a.1 (g.2.2.2.2.getD i ab.aa).1;simp only[aJ8,if_true,aJO,if_false];rw[aV (by omega)];simp only[Bool.not_true,if_true,aJO,if_false];rw[an (by simp;omega),EK Q (by omega),aJD,an (by simp;omega),an (by simp;omega),xW Q (by omega),aJD,an (by simp;omega)];simp only[aH,aKd,decide_false,aJO,if_false,E_];rw[an (by simp)];simp only[beq_iff_eq,aJO,if_false,aJD];rw[an (by simp),EK Q (by omega),aJD,an (by simp;omega),an (by simp),xW Q (by omega),aJD,an (by simp;omega)];exact MS g.2.2.2.2 a.1 (fun i=>some ((g.1,g.2.1,g.2.2.1,g.2.2.2.1,g.2.2.2.2.take i++[a]++g.2.2.2.2.drop i),()));unfold im gw Hp;cases gO g.2.2.2.2.length (fun i=>decide ((g.2.2.2.2.getD i ab.aa).1=a.1))<;>rfl
theorem Rw{l:List ae}{a:ae}:af (.sl ab) (gw l a)<=af (.sl ab) l+af ab a+1:=by
 unfold gw;cases h:Hp l a.1 with
 |none=>
  dsimp only;rw[dP (e:=ab),dP (e:=ab),bS (e:=ab),aX];have:=cN (e:=ab) l (ib l a.1);omega
 |some i=>
  have b:=(aZ.1 h).1;have:=ij (e:=ab) l i a b;dsimp only;omega
def Hv{g:au}{a:ae}:af aj (im g a)<=af aj g+af ab a+1:=by
 have h1:=cn Q g;have b:=cn Q (im g a);have h3:=Rw Q (l:=g.2.2.2.2) (a:=a);unfold im at b|-;dsimp only at b;omega
def CW{a b:ae}{by_:List ByteArray}(f:af ab a<=1048576)(g:af ab b<=1048576)(d:by_.length<=1048576):mf k (a,b,by_,())=some (decide (keyOf a by_=keyOf b by_),()):=by
 have h1:=Bd Q a by_;have h2:=bo Q a;have h3:=ay (e:=al) (l:=a.1);simp only[mf];rw[jg Q f d,aJD,jg Q g d,aJD,dF Q (by dsimp only;omega),aJD]
theorem sQ(l m:List ai):af (.sl al) (l++m)=af (.sl al) l+af (.sl al) m:=dP (e:=al) l m
def jw(x:ai)(l:List ai):af (.sl al) (x::l)=1+(x.1.size+x.2.size)+af (.sl al) l:=by rw[bS (e:=al),mS Q]
theorem lf:af (.sl al) ([]:List ai)=0:=aX (e:=al)
theorem oY(l m:List ae):af (.sl ab) (l++m)=af (.sl ab) l+af (.sl ab) m:=dP (e:=ab) l m
theorem jE(x:ae)(l:List ae):af (.sl ab) (x::l)=1+af ab x+af (.sl ab) l:=bS (e:=ab) x l
theorem gb:af (.sl ab) ([]:List ae)=0:=aX (e:=ab)
def qw{c:aE}{l:List ByteArray}(n:Nat)(hc:aR c)(b:0<l.length)(hs:l.all (fun s=>decide (s.size<=n))=true):Dr (eS k (c,l,())) (fun r=>aR r.2.1/\r.1.size<=n):=
 Y9 (TD Q hc b) (fun r a=>⟨a.1,e_ (aJ5.1 hs _ a.2)⟩)
def Nn{c:aE}{l:List Int}(a b:Int)(hc:aR c)(e:0<l.length)(hs:l.all (fun s=>decide (a<=s/\s<=b))=true):Dr (bd k (c,l,())) (fun r=>aR r.2.1/\a<=r.1/\r.1<=b):=
 Y9 (NS Q hc e) (fun r d=>⟨d.1,e_ (aJ5.1 hs _ d.2)⟩)
def cQ{c:aE}{l:List Int}(hc:aR c)(b:0<l.length):Dr (bd k (c,l,())) (fun r=>aR r.2.1):=
 Y9 (NS Q hc b) (fun r a=>a.1)
def Fx{c:aE}(hc:aR c):Dr (kA k (c,())) (fun r=>aR r.2.1/\r.1.size<=13):=by
 simp only[kA];exact aS (qw Q 13 hc (by decide) (by decide)) (fun r a=>bl a)
def QC{c:aE}(hc:aR c):Dr (nG k (c,())) (fun r=>aR r.2.1/\r.1.size<=13):=by
 simp only[nG];exact aS (qw Q 13 hc (by decide) (by decide)) (fun r a=>bl a)
def zY{c:aE}(hc:aR c):Dr (iQ k (c,())) (fun r=>aR r.2.1/\r.1.size<=13):=by
 simp only[iQ];refine aS (gu Q hc) (fun r a=>bm (fun _=> ?_) (fun _=> ?_));exact aS (QC Q a) (fun r a=>bl a);exact aS (qw Q 13 a (by decide) (by decide)) (fun r a=>bl a)
def rB{c:aE}(hc:aR c):Dr (fD k (c,())) (fun r=>aR r.2.1/\r.1.size<=13):=by
 simp only[fD];refine aS (gu Q hc) (fun r a=>bm (fun _=> ?_) (fun _=> ?_));exact aS (Fx Q a) (fun r a=>bl a);exact aS (qw Q 13 a (by decide) (by decide)) (fun r a=>bl a)
def T5{c:aE}(hc:aR c):Dr (pX k (c,())) (fun r=>aR r.2.1):=by
 simp only[pX];exact aS (cQ Q hc (by decide)) (fun r a=>bl a)
def D6{c:aE}(hc:aR c):Dr (kq k (c,())) (fun r=>aR r.2.1):=by
 simp only[kq];refine aS (gu Q hc) (fun r a=>bm (fun _=> ?_) (fun _=> ?_));exact aS (T5 Q a) (fun r a=>bl a);exact aS (cQ Q a (by decide)) (fun r a=>bl a)
def VJ{c:aE}(hc:aR c):Dr (jN k (c,())) (fun r=>aR r.2.1/\r.1.length<=2/\af (.sl .str) r.1<=20):=by
 simp only[jN];refine aS (aQ Q hc) (fun r a=> ?_);refine bm (fun _=>bl ⟨a.1,by dsimp only;decide,by dsimp only;decide⟩) (fun _=>bm (fun _=>bl ⟨a.1,by dsimp only;decide,by dsimp only;decide⟩) (fun _=>bm (fun _=>bl ⟨a.1,by dsimp only;decide,by dsimp only;decide⟩) (fun _=>bl ⟨a.1,by dsimp only;decide,by dsimp only;decide⟩)))
def qV{c:aE}(hc:aR c):Dr (eB k (c,())) (fun r=>aR r.2.1/\0<r.1.length/\af (.sl al) r.1<=108):=by
 simp only[eB];refine aS (qw Q 13 hc (by decide) (by decide)) (fun r a=> ?_);refine vg (fun s=>3-s.2.2.2.2.1.toNat) (fun s=>aR s.1/\0<s.2.1.length/\(af (.sl al) s.2.1:Int)<=27+27*s.2.2.2.2.1/\s.2.2.1=[(⟨#[104,111,115,116]⟩:ByteArray),(⟨#[115,101,118]⟩:ByteArray),(⟨#[122,111,110,101]⟩:ByteArray)]/\s.2.2.2.1=3/\0<=s.2.2.2.2.1/\s.2.2.2.2.1<=3) ?_ ⟨a.1,by simp,?_,rfl,rfl,by simp,by simp⟩ (by simp only;omega);rintro G ⟨c,l,m,n,i,u⟩ ⟨h1,h2,h3,h4,h5,h6,h7⟩ hG;dsimp only at h1 h2 h3 h4 h5 h6 h7|-;subst h4;subst h5;have hl:=ay (e:=al) (l:=l);refine bm (fun d=> ?_) (fun d=>bl ⟨h1,h2,by dsimp only;omega⟩);have d:i<3:=by simpa using d
 have f:IntKind.i64.wrap (i+1)=i+1:=wrap64 (by omega) (by omega);rw[f];refine dO (by simp;omega) ?_;refine aS (gu Q h1) (fun r a=>bm (fun _=> ?_) (fun _=>hG _ ⟨a,h2,by dsimp only;omega,rfl,rfl,by dsimp only;omega,by dsimp only;omega⟩ (by dsimp only;omega)));refine aS (qw Q 13 a (by decide) (by decide)) (fun r2 b=>dO (by simp;omega) (hG _ ⟨b.1,by simp,?_,rfl,rfl,by dsimp only;omega,by dsimp only;omega⟩ (by dsimp only;omega)))
 have hb:([(⟨#[104,111,115,116]⟩:ByteArray),(⟨#[115,101,118]⟩:ByteArray),(⟨#[122,111,110,101]⟩:ByteArray)].getD i.toNat ByteArray.empty).size<=13:=
  e_ (aJ5.1 (show([(⟨#[104,111,115,116]⟩:ByteArray),(⟨#[115,101,118]⟩:ByteArray),(⟨#[122,111,110,101]⟩:ByteArray)].all (fun s=>decide (s.size<=13)))=true by decide) _ (cT (by simp;omega)))
 dsimp only;rw[sQ Q,jw Q,lf Q];have:=b.2;dsimp only;omega;rw[jw Q,lf Q];have h0:(⟨#[97,112,112]⟩:ByteArray).size=3:=by decide
 have:=a.2;dsimp only;omega
def Dl{c:aE}(hc:aR c):Dr (ko k (c,())) (fun r=>aR r.2.1/\af (.sl al) r.1<=220):=by
 simp only[ko];refine aS (qV Q hc) (fun f g=>aS (aQ Q g.1) (fun r2 a=> ?_));have hl:=ay (e:=al) (l:=f.1);obtain⟨_,n,ht⟩:=g;refine bm (fun _=> ?_) (fun _=> ?_);refine aS (zY Q a.1) (fun h b=>aS (rB Q b.1) (fun r4 j=>dO (by simp;omega) (bl ⟨j.1,?_⟩)));dsimp only;rw[sQ Q,jw Q,lf Q];have:=b.2;have:=j.2;dsimp only;omega;refine bm (fun _=> ?_) (fun _=> ?_);refine dO (by simp;omega) (bl ⟨a.1,?_⟩);dsimp only;rw[sQ Q,jw Q,lf Q];have o:(⟨#[122,122]⟩:ByteArray).size=2:=by decide
 have o:(⟨#[49]⟩:ByteArray).size=1:=by decide
 dsimp only;omega;refine bm (fun _=> ?_) (fun _=> ?_);refine dO (by simp;omega) (dO (by simp;omega) (bl ⟨a.1,?_⟩));have p:=cI (e:=al) (cT (l:=f.1) (i:=0) (d:=al.aa) n);rw[mS Q]at p;dsimp only;rw[sQ Q,jw Q,lf Q];simp only[show aJT 0=0 from rfl];omega;refine bm (fun _=> ?_) (fun _=> ?_);refine dO (by simp;omega) (bl ⟨a.1,?_⟩);dsimp only;rw[sQ Q,jw Q,jw Q,jw Q,jw Q,lf Q];have e1:(⟨#[122,117]⟩:ByteArray).size=2:=by decide
 have e2:(⟨#[122,118]⟩:ByteArray).size=2:=by decide
 have e3:(⟨#[122,119]⟩:ByteArray).size=2:=by decide
 have e4:(⟨#[122,120]⟩:ByteArray).size=2:=by decide
 have e5:ByteArray.empty.size=0:=by decide
 dsimp only;omega;refine bm (fun _=> ?_) (fun _=> ?_);refine aS (rB Q a.1) (fun h b=>dO (by simp;omega) (bl ⟨b.1,?_⟩));have m:=ij (e:=al) f.1 0 ((f.1.getD 0 al.aa).1,h.1) n;rw[mS Q,mS Q]at m;have:=b.2;simp only[show aJT 0=0 from rfl];dsimp only at m|-;omega;refine bm (fun _=>bl ⟨a.1,by dsimp only;rw[lf Q];omega⟩) (fun _=>bl ⟨a.1,by dsimp only;omega⟩)
def dY{c:aE}(hc:aR c):Dr (bJ k (c,())) (fun r=>aR r.2.1/\af ab r.1<=121):=by
 simp only[bJ];refine aS (qV Q hc) (fun r1 a=>aS (aQ Q a.1) (fun r2 d=>aS (Fx Q d.1) (fun r3 b=>aS (cQ Q b.1 (by decide)) (fun r4 e=>bl ⟨e,?_⟩))));dsimp only;rw[bo Q];have:=a.2;have:=b.2;dsimp only;omega
def mG{c:aE}(hc:aR c):Dr (dy k (c,())) (fun r=>aR r.2.1/\af ab r.1<=400):=by
 simp only[dy];refine aS (dY Q hc) (fun r1 e=>aS (aQ Q e.1) (fun r2 b=> ?_));have f:=e.2;rw[bo Q]at f;refine bm (fun _=> ?_) (fun _=> ?_);refine aS (Dl Q b.1) (fun d a=>bl ⟨a.1,?_⟩);dsimp only;rw[bo Q];have:=a.2;dsimp only;omega;refine bm (fun _=> ?_) (fun _=> ?_);refine aS (cQ Q b.1 (by decide)) (fun d a=>bl ⟨a,?_⟩);dsimp only;rw[bo Q];dsimp only;omega;refine bm (fun _=> ?_) (fun _=> ?_);refine aS (D6 Q b.1) (fun d a=>bl ⟨a,?_⟩);dsimp only;rw[bo Q];dsimp only;omega;refine bm (fun _=> ?_) (fun _=>bl ⟨b.1,by dsimp only;rw[bo Q];omega⟩);refine aS (rB Q b.1) (fun d a=>bl ⟨a.1,?_⟩);dsimp only;rw[bo Q];have:=a.2;dsimp only;omega
def QN{c:aE}{by_:List ByteArray}(hc:aR c)(n:by_.length<=1048576):Dr (ns k (c,by_,())) (fun r=>aR r.2.1/\af aj r.1<=2000):=by
 simp only[ns];refine aS (dY Q hc) (fun d l=>aS (aQ Q l.1) (fun r2 o=> ?_));have ha:=l.2;refine fc (jg Q (by omega) n) ?_;refine aS (aQ Q o.1) (fun r4 p=> ?_);refine zp (fun s=>aR s.1/\af aj s.2.2.2.1<=2000) (fun s f=> ?_) (fun J q=> ?_);refine aS (gu Q f.1) (fun r5 m=>bm (fun _=> ?_) (fun _=>bl ⟨m,f.2⟩));refine aS (aQ Q m) (fun r6 h6=>bl ⟨h6.1,?_⟩);have:=f.2;rw[cn Q]at this;dsimp only;rw[cn Q];exact this;refine aS (aQ Q p.1) (fun r7 h7=> ?_);obtain⟨h7,h8,h9⟩:=h7;refine vg (fun s=>s.2.2.2.2.2.1.toNat) (fun s=>aR s.1/\s.2.1=by_/\s.2.2.2.1=d.1/\(af aj s.2.2.2.2.1:Int)<=1300-130*s.2.2.2.2.2.1/\0<=s.2.2.2.2.2.1/\s.2.2.2.2.2.1<=7) ?_ ⟨h7,rfl,rfl,?_,h8,by dsimp only;omega⟩ (by dsimp only;omega);rintro G ⟨c,b,z,a,g,i,u⟩ ⟨g1,g2,g3,g4,g5,g6⟩ hG;dsimp only at g1 g2 g3 g4 g5 g6|-;subst g2;subst g3;refine bm (fun h=> ?_) (fun h=>q _ ⟨g1,by dsimp only;omega⟩);have h:0<i:=by simpa using h
 have v:IntKind.i64.wrap (i-1)=i-1:=wrap64 (by omega) (by omega);rw[v];refine aS (dY Q g1) (fun j nX=>fc (CW Q (by omega) (by have:=nX.2;omega) n) (bm (fun _=> ?_) (fun _=>hG _ ⟨nX.1,rfl,rfl,by dsimp only;omega,by dsimp only;omega,by dsimp only;omega⟩ (by dsimp only;omega))));have:=nX.2;refine fc (wH Q (by omega) (by omega)) (hG _ ⟨nX.1,rfl,rfl,?_,by dsimp only;omega,by dsimp only;omega⟩ (by dsimp only;omega));have:=Hv Q (g:=g) (a:=j.1);dsimp only;omega;dsimp only;rw[cn Q];dsimp only;rw[jE Q,gb Q];have xe:af (.sl al) (keyOf d.1 by_)<=af (.sl al) d.1.1:=vn (e:=al) _ _;have mE:=bo Q d.1;omega
def KH{c:aE}{by_:List ByteArray}(hc:aR c)(h:by_.length<=1048576):Dr (lG k (c,by_,())) (fun r=>aR r.2.1/\af aj r.1<=3000):=by
 simp only[lG];refine aS (QN Q hc h) (fun g f=>aS (aQ Q f.1) (fun r2 b=> ?_));have j:=f.2;rw[cn Q]at j;have hl:=ay (e:=ab) (l:=g.1.2.2.2.2);refine bm (fun _=>bl ⟨b.1,by dsimp only;rw[cn Q];dsimp only;omega⟩) (fun _=> ?_);refine bm (fun _=> ?_) (fun _=> ?_);refine aS (Dl Q b.1) (fun d a=>bl ⟨a.1,?_⟩);have:=a.2;dsimp only;rw[cn Q];dsimp only;omega;refine bm (fun _=> ?_) (fun _=> ?_);exact aS (D6 Q b.1) (fun d a=>bl ⟨a,by dsimp only;rw[cn Q];dsimp only;omega⟩);refine bm (fun _=> ?_) (fun _=> ?_);exact aS (cQ Q b.1 (by decide)) (fun d a=>bl ⟨a,by dsimp only;rw[cn Q];dsimp only;omega⟩);refine bm (fun _=> ?_) (fun _=> ?_);refine aS (mG Q b.1) (fun d a=>dO (by simp;omega) (bl ⟨a.1,?_⟩));have:=a.2;dsimp only;rw[cn Q];dsimp only;rw[oY Q,jE Q,gb Q];omega;refine bm (fun _=>bl ⟨b.1,?_⟩) (fun _=>bl ⟨b.1,by dsimp only;rw[cn Q];omega⟩);dsimp only;rw[cn Q];dsimp only;rw[gb Q];omega
def CB{c:aE}{l:List ae}(hc:aR c)(hl:af (.sl ab) l<=1048576):Dr (dD k (c,l,())) (fun r=>aR r.2.1/\af (.sl al) r.1<=af (.sl ab) l+108):=by
 simp only[dD];have hln:=ay (e:=ab) (l:=l)
 have pick:∀ {c:aE},aR c->0<l.length->Dr (Option.bind (aL k (c,(l.length:Int),())) fun a=>
  if(decide (0<=a.1/\a.1<((aKj l:Nat):Int)))=true then
   if(decide (aKj ([]:List ai)+aKj ((List.getD l (aJT a.1) ab.aa).1)<4294967296))=true then
    some (([]:List ai)++((List.getD l (aJT a.1) ab.aa).1),a.2.1,())
   else none
  else none) (fun r=>aR r.2.1/\af (.sl al) r.1<=af (.sl ab) l+108):=by
  intro c hc b;refine aS (aQ Q hc) (fun a j=>dO (by simp;omega) ?_);have m:a.1.toNat<l.length:=by omega
  have n:=cI (e:=ab) (cT (d:=ab.aa) m);rw[bo Q]at n;have h3:=ay (e:=al) (l:=(l.getD a.1.toNat ab.aa).1);refine dO (c_ (by simp only[List.length_nil];omega)) (bl ⟨j.1,?_⟩);dsimp only;rw[List.nil_append];omega
 have free:∀ {c:aE},aR c->Dr (Option.bind (eB k (c,())) fun f=>some (f.1,f.2.1,())) (fun r=>aR r.2.1/\af (.sl al) r.1<=af (.sl ab) l+108):=
  fun hc=>aS (qV Q hc) (fun r h=>bl ⟨h.1,by have:=h.2;dsimp only;omega⟩)
 refine bm (fun b=> ?_) (fun b=> ?_);have b:0<l.length:=by simpa using b
 refine aS (gu Q hc) (fun r1 g=>bm (fun _=>pick g b) (fun _=>free g));refine bm (fun h=> ?_) (fun _=>free hc);have b:¬0<l.length:=by simpa using b
 simp[b]at h
def BA{g h:au}(o:af aj g<=1048576):kS k (g,h,())=some (decide (g=h),()):=by
 rw[cn Q]at o;obtain⟨a,b,c,d,e⟩:=g;obtain⟨q,r,s,u,e'⟩:=h;dsimp only at o;have hb:=ay (e:=al) (l:=b);simp only[kS];by_cases p:a=q;subst p;rw[an (by simp),du Q (by omega),aJD];by_cases n:b=r/\c=s/\d=u;obtain⟨rfl,rfl,rfl⟩:=n;rw[an (by simp),ey Q (by omega),aJD];simp;rw[a_ (by simp;exact fun f j m=>n ⟨f,j,m⟩),aJD];simp;exact fun f j m=>absurd ⟨f,j,m⟩ n;simp[p]
def B7{g h:br}(m:af bM g<=1048576):kR k (g,h,())=some (decide (g=h),()):=by
 rw[px Q]at m;obtain⟨a,b,c,e⟩:=g;obtain⟨o,p,q,e'⟩:=h;dsimp only at m;have hb:=ay (e:=al) (l:=b);simp only[kR];by_cases n:a=o;subst n;rw[an (by simp),du Q (by omega),aJD];by_cases j:b=p/\c=q;obtain⟨rfl,rfl⟩:=j;rw[an (by simp),ey Q (by omega),aJD];simp;rw[a_ (by simp;exact fun d f=>j ⟨d,f⟩),aJD];simp;exact fun d f=>absurd ⟨d,f⟩ j;simp[n]
def rq{l:List ae}(b:af (.sl ab) l<=1048576):eI k (l,l,())=some (true,()):=by
 have h1:=ay (e:=ab) (l:=l);simp only[eI];rw[a_ (by simp)];refine(bG (fun i:Nat=>(l,l,(i:Int),())) l.length (e:=some (true,())) (fun G i a=> ?_) (fun G=> ?_) k 0 (by omega) (by omega));simp only[aH,aA a,a,decide_true,if_true,E_];rw[aV (by omega),ee Q (fo Q b a).2,aJD];simp;simp
end
def eR(l:List au)(key:List ai):Option Nat:=gO l.length (fun i=>decide ((l.getD i aj.aa).2.1=key))
def kK(l:List au)(a:ae)(by_:List ByteArray)(n O:Int):List au:=
 match eR l (keyOf a by_)with
 |some i=>l.set i (im (l.getD i aj.aa) a)
 |none=>l++[(n,keyOf a by_,O,-1,[a])]
section
variable{k:Nat}(Q:9223372036854775808<=k)
include Q
theorem NC(l m:List au):af (.sl aj) (l++m)=af (.sl aj) l+af (.sl aj) m:=dP (e:=aj) l m
theorem Ky(x:au)(l:List au):af (.sl aj) (x::l)=1+af aj x+af (.sl aj) l:=bS (e:=aj) x l
theorem DL:af (.sl aj) ([]:List au)=0:=aX (e:=aj)
def jA{l:List au}{key:List ai}(h:af (.sl aj) l<=1048576):fh k (l,key,())=some (eZ (eR l key),()):=by
 have h2:=ay (e:=aj) (l:=l);simp only[fh];refine(iZ (fun i:Nat=>(l,key,(i:Int),())) (fun i=>decide ((l.getD i aj.aa).2.1=key)) l.length (e:=some (-1,())) (fun i=>some ((i:Int),())) (fun G i a=> ?_) (fun G=> ?_) k (by omega)).trans ?_;simp only[aH,aA a,a,decide_true,if_true,E_];rw[aV (by omega),dF Q (nV Q h a).2,aJD];simp;unfold eR;cases gO l.length (fun i=>decide ((l.getD i aj.aa).2.1=key))<;>rfl
def qd{l:List au}{a:ae}{by_:List ByteArray}{n O:Int}(b:af (.sl aj) l<=1048576)(f:af ab a<=1048576)(g:by_.length<=1048576):
 ku k (l,a,by_,n,O,())=some (kK l a by_ n O,(eR l (keyOf a by_)).isNone,()):=by
 have h2:=ay (e:=aj) (l:=l);simp only[ku];rw[pJ Q (by omega),aJD,jg Q f g,aJD];unfold kK;cases h:eR l (keyOf a by_)with
 |none=>
  have e:fh k (l,keyOf a by_,())=some (-1,()):=by rw[jA Q b,h];rfl
  rw[e,aJD,a_ (by decide),dh Q (by omega),aJD,an (by simp;omega)];rfl
 |some i=>
  have d:=(aZ.1 h).1;have e:fh k (l,keyOf a by_,())=some ((i:Int),()):=by rw[jA Q b,h];rfl
  rw[e,aJD,an (by simp),an (aA d)];simp only[E_];rw[wH Q (nV Q b d).1 f,aJD,an (aA d)];rfl
def SA(a:ae)(by_:List ByteArray):af (.sl al) (keyOf a by_)<=af ab a:=by
 have xe:af (.sl al) (keyOf a by_)<=af (.sl al) a.1:=vn (e:=al) _ _;have mE:=bo Q a;omega
def zm{l:List au}{a:ae}{by_:List ByteArray}{n O:Int}:af (.sl aj) (kK l a by_ n O)<=af (.sl aj) l+2*af ab a+2:=by
 unfold kK;cases h:eR l (keyOf a by_)with
 |none=>
  dsimp only;have b:=SA Q a by_;rw[NC Q,Ky Q,DL Q,cn Q];dsimp only;rw[jE Q,gb Q];omega
 |some i=>
  have d:=(aZ.1 h).1;have b:=ij (e:=aj) l i (im (l.getD i aj.aa) a) d;have h2:=Hv Q (g:=l.getD i aj.aa) (a:=a);dsimp only;omega
def QJ{c:aE}{by_:List ByteArray}(hc:aR c)(m:by_.length<=1048576):Dr (nz k (c,by_,())) (fun r=>aR r.2.1/\af (.sl aj) r.1<=1600):=by
 simp only[nz];refine aS (aQ Q hc) (fun r1 d=> ?_);obtain⟨d,p,h3⟩:=d;refine vg (fun s=>s.2.2.2.2.1.toNat) (fun s=>aR s.1/\s.2.1=by_/\(af (.sl aj) s.2.2.1:Int)<=1500-250*s.2.2.2.2.1/\0<=s.2.2.2.2.1/\s.2.2.2.2.1<=6) ?_ ⟨d,rfl,by dsimp only;rw[DL Q];omega,p,by dsimp only;omega⟩ (by dsimp only;omega);rintro G ⟨c,b,l,n,i,u⟩ ⟨g1,g2,g3,g4,g5⟩ hG;dsimp only at g1 g2 g3 g4 g5|-;subst g2;refine bm (fun e=> ?_) (fun e=>bl ⟨g1,by dsimp only;omega⟩);have e:0<i:=by simpa using e
 have o:IntKind.i64.wrap (i-1)=i-1:=wrap64 (by omega) (by omega);rw[o];refine aS (dY Q g1) (fun h f=>aS (aQ Q f.1) (fun j g=> ?_));have h44:=f.2;have hj:=zm Q (l:=l) (a:=h.1) (by_:=b) (n:=n) (O:=j.1);refine fc (qd Q (by omega) (by omega) m) (bm (fun _=> ?_) (fun _=> ?_));exact aS (aQ Q g.1) (fun r7 h7=>hG _ ⟨h7.1,rfl,by dsimp only;omega,by dsimp only;omega,by dsimp only;omega⟩ (by dsimp only;omega));exact hG _ ⟨g.1,rfl,by dsimp only;omega,by dsimp only;omega,by dsimp only;omega⟩ (by dsimp only;omega)
def RS{c:aE}{by_:List ByteArray}(hc:aR c)(g:by_.length<=1048576):Dr (oA k (c,by_,())) (fun r=>aR r.2.1/\af (.sl aj) r.1<=5000):=by
 simp only[oA];refine aS (QJ Q hc g) (fun d h=>aS (aQ Q h.1) (fun r2 b=> ?_));have xe:=h.2;have hl:=ay (e:=aj) (l:=d.1);refine bm (fun _=> ?_) (fun _=> ?_);refine aS (KH Q b.1 g) (fun j a=>dO (by simp;omega) (bl ⟨a.1,?_⟩));have:=a.2;dsimp only;rw[NC Q,Ky Q,DL Q];omega;refine bm (fun _=>bm (fun f=> ?_) (fun _=>bl ⟨b.1,by dsimp only;omega⟩)) (fun _=>bl ⟨b.1,by dsimp only;omega⟩);have f:0<d.1.length:=by simpa using f
 refine aS (KH Q b.1 g) (fun j a=>dO (by simp;omega) (bl ⟨a.1,?_⟩));have Wn:=a.2;have hs:=ij (e:=aj) d.1 0 j.1 f;simp only[show aJT 0=0 from rfl];omega
def HF{l:List au}(b:af (.sl aj) l<=1048576):jL k (l,l,())=some (true,()):=by
 have h1:=ay (e:=aj) (l:=l);simp only[jL];rw[a_ (by simp)];refine(bG (fun i:Nat=>(l,l,(i:Int),())) l.length (e:=some (true,())) (fun G i a=> ?_) (fun G=> ?_) k 0 (by omega) (by omega));simp only[aH,aA a,a,decide_true,if_true,E_];rw[aV (by omega),BA Q (nV Q b a).1,aJD];simp;simp
end
def ou(d:aC)(n:Int):aC:=(d.1,d.2.1,d.2.2.1,d.2.2.2.1,d.2.2.2.2.1,n,d.2.2.2.2.2.2)
def gL(w:ag)(i:Nat):Bool×ag:=
 match w with
 |(c,ti,O,st,Z,U,gr,A,nn,T,n_,V,E,M)=>
  if gr= -1 then(true,(c,ti,O,st,Z,U,(i:Int),A,nn,T,n_,V,E.set i ((E.getD i ak.aa).1,1,(E.getD i ak.aa).2.2),M))else(false,w)
def tK(a:ae)(h:Int):aF:=(5,0,a,[],0,[],[],0,h)
def AU(a:ae)(O ti:Int):aC:=(7,3,a,[],0,0,0,[],O,ti,-1,-1)
def mB(c:bh)(a:ae)(nn O:Int):au:=(nn,keyOf a c.2.2.2.2.2,O,-1,[a])
def gH(s:Bool)(k:Nat)(w:ag):Bool×ag:=
 match w with
 |(c,ti,O,st,Z,U,gr,A,nn,T,n_,V,E,M)=>
  let t:=E.getD 3 ak.aa
  let n:=(bf t).toNat
  let d:=M.getD n aw.aa
  if t.1=0 then
   (if U.length=0 then(false,w)
    else(true,(c,ti,O,st,Z,U.drop 1,gr,A,nn,T,n_,V,E.set 3 (tK (U.getD 0 ab.aa) M.length),M++[AU (U.getD 0 ab.aa) O ti])))
  else if t.2.1=0 then gL w 3
  else match eR A (keyOf t.2.2.1 c.2.2.2.2.2)with
   |none=>
    if 12<=A.length then(true,(c,ti,O,st,Z,U,-1,A,nn,T,n_,V,E.set 3 zT,M.set n (dA s false d O ti 3 [])))
    else(true,(c,ti,O,st,Z,U,-1,A++[mB c t.2.2.1 nn O],IntKind.i64.wrap (nn+1),vf T (iq c (mB c t.2.2.1 nn O),nn),n_,V,E.set 3 zT,M.set n (dA s false (ou d nn) O ti 1 [])))
   |some i=>(true,(c,ti,O,st,Z,U,-1,A.set i (im (A.getD i aj.aa) t.2.2.1),nn,T,n_,V,E.set 3 zT,M.set n (dA s false (ou d (A.getD i aj.aa).1) O ti 2 [])))
def eW(s:Bool)(k:Nat)(w:ag):Bool×ag:=bH (gH s k w)
def Q1{l:List au}{g:au}{key:List ai}(h:eR l key=none)(b:g.2.1=key):eR (l++[g]) key=some l.length:=by
 unfold eR at h|-;have d:=iR.1 h;refine aZ.2 ⟨by simp,?_,fun j a=> ?_⟩;rw[aJG,aJR (aJZ _)];simpa using b;rw[sD _ _ a];exact d j a
def Q2{l:List au}{g:au}{key:List ai}{i:Nat}(h:eR l key=some i)(d:g.2.1=key):eR (l.set i g) key=some i:=by
 unfold eR at h|-;obtain⟨a,h2,e⟩:=aZ.1 h;refine aZ.2 ⟨by simpa using a,?_,fun j b=> ?_⟩;rw[aT _ _ a];simpa using d;rw[aJG,aKa (by omega),<-aJG];exact e j b
def R7{l:List au}{g:au}{n:Int}(h:∀i,i<l.length->(l.getD i aj.aa).1≠n)(b:g.1=n):eM (l++[g]) n=some l.length:=by
 unfold eM;refine aZ.2 ⟨by simp,?_,fun j a=> ?_⟩;rw[aJG,aJR (aJZ _)];simpa using b;rw[sD _ _ a];exact decide_eq_false (h j a)
def Mz{α:Type}(l:List α)(x d:α):(l++[x]).getD l.length d=x:=by
 rw[aJG,aJR (aJZ _)];simp
section
variable{c:bh}{ti O gr nn:Int}{st:List ar}{Z:List bg}{U V:List ae}{A:List au}{T:List aJ}{n_:List br}{E:List aF}{M:List aC}{i:Nat}
def Ht(h:gr= -1):gL (c,ti,O,st,Z,U,gr,A,nn,T,n_,V,E,M) i=(true,(c,ti,O,st,Z,U,(i:Int),A,nn,T,n_,V,E.set i ((E.getD i ak.aa).1,1,(E.getD i ak.aa).2.2),M)):=an h
def MD(h:¬gr= -1):gL (c,ti,O,st,Z,U,gr,A,nn,T,n_,V,E,M) i=(false,(c,ti,O,st,Z,U,gr,A,nn,T,n_,V,E,M)):=a_ h
end
section
variable{k:Nat}(Q:9223372036854775808<=k)
include Q
variable{c:bh}{ti O gr nn:Int}{st:List ar}{Z:List bg}{U V:List ae}{A:List au}{T:List aJ}{n_:List br}{E:List aF}{M:List aC}
def wc{n:Int}{i:Nat}(hg:A.length<=1048579)(b:T.length<=1048576)(a:eM A n=some i):
 lK k ((c,ti,O,st,Z,U,gr,A,nn,T,n_,V,E,M),n,())=
  some ((c,ti,O,st,Z,U,gr,A,nn,vf T (iq c (A.getD i aj.aa),n),n_,V,E,M),()):=by
 have d:=(aZ.1 a).1;simp only[lK];rw[qb Q (by omega),aJD];simp only[a,eZ];rw[an (aA d),Cu Q,aJD,uG Q b,aJD,E_]
set_option maxHeartbeats 8000000 in
theorem Fs{n:Nat}{t:aF}{d:aC}(hs:af az (c,ti,O,st,Z,U,gr,A,nn,T,n_,V,E,M)<=1048576)(H:3<E.length)(u:E.getD 3 ak.aa=t)(I:t.1=5)(w:t.2.1=1)
 (f:n<M.length) (x:bf t=(n:Int)) (h:M.getD n aw.aa=d) (y:d.2.2.1=t.2.2.1) (z:∀i,i<A.length->(A.getD i aj.aa).1≠nn):
 nc k ((c,ti,O,st,Z,U,gr,A,nn,T,n_,V,E,M),())=
  some ((gH true k (c,ti,O,st,Z,U,gr,A,nn,T,n_,V,E,M)).2,()):=by
 have hsum:=gG Q hs;have B:=dw (e:=ak) (d:=ak.aa) H;rw[u]at B;have hdl:=ay (e:=aw) (l:=M);have hgl:=ay (e:=aj) (l:=A);have hhl:=ay (e:=aD) (l:=T);have C:=dw (e:=aw) (d:=aw.aa) f;rw[h]at C;have D:=bN Q d;rw[y]at D;have hta:=bw Q t;have o:=zm Q (l:=A) (a:=t.2.2.1) (by_:=c.2.2.2.2.2) (n:=nn) (O:=O);have hcf:=kF Q c;have hby:=ay (e:= .str) (l:=c.2.2.2.2.2);have F:decide ((0:Int)<=3/\(3:Int)<(E.length:Int))=true:=c_ ⟨by omega,by omega⟩
 have b:∀(A:List au) (nn:Int) (T:List aJ) (M:List aC) (v:aC) (code:Int),n<M.length->M.getD n aw.aa=v->cD k ((c,ti,O,st,Z,U,-1,A,nn,T,n_,V,E,M),(3:Int),code,[],())=
  some ((c,ti,O,st,Z,U,-1,A,nn,T,n_,V,E.set 3 zT,M.set n (ot v O ti code [])),()):=by
  intro A nn T M v code f h;have:=fj (n:=n) (i:=3) (code:=code) (got:=[]) (c:=c) (ti:=ti) (O:=O) (gr:= -1) (nn:=nn) (st:=st) (Z:=Z) (U:=U) (V:=V) (A:=A) (T:=T) (n_:=n_) Q H f (by rw[u];exact x) (by simp[af]);rw[h]at this;exact this
 have p:=x;unfold bf at p;unfold gH;simp only[u,x,h,I,w,E_];rw[a_ (show¬(5:Int)=0 by decide),a_ (show¬(1:Int)=0 by decide)];simp only[nc,show aJT 3=3 from rfl,u,p,fu];have q:ek k (t.2.2.1,c.2.2.2.2.2,())=some (keyOf t.2.2.1 c.2.2.2.2.2,()):=jg Q (by omega) (by omega);simp only[q,aJD];rw[an F,jA Q (by omega),aJD];dsimp only;cases g:eR A (keyOf t.2.2.1 c.2.2.2.2.2)with
 |none=>
  by_cases mE:12<=A.length;rw[an (by simp[eZ];omega),b A nn T M d 3 f h,aJD];dsimp only;rw[an mE];rfl;have r:kK A t.2.2.1 c.2.2.2.2.2 nn O=A++[mB c t.2.2.1 nn O]:=by unfold kK;rw[g];rfl
  have j:eR (A++[mB c t.2.2.1 nn O]) (keyOf t.2.2.1 c.2.2.2.2.2)=some A.length:=Q1 g rfl;have G:eM (A++[mB c t.2.2.1 nn O]) nn=some A.length:=R7 z rfl;rw[r]at o;rw[a_ (by simp[eZ];omega),qd Q (by omega) (by omega) (by omega),aJD,r,g];dsimp only;have m:A.length<(A++[mB c t.2.2.1 nn O]).length:=by simp
  rw[jA Q (by omega),aJD];simp only[j,eZ];rw[an (aA m),an (aA f)];simp only[E_,Mz,Option.isNone_none,if_true];rw[show(mB c t.2.2.1 nn O).1=nn from rfl,wc Q (by rw[aJI,aJJ];omega) (by omega) G,aJD];dsimp only;rw[b _ _ _ _ (ou d nn) 1 (by rw[aJM];exact f) (by rw[aT _ _ f,h];rfl),aJD,a_ mE,aJY,Mz];rfl
 |some i=>
  have r:kK A t.2.2.1 c.2.2.2.2.2 nn O=A.set i (im (A.getD i aj.aa) t.2.2.1):=by unfold kK;rw[g]
  have s:i<A.length:=(aZ.1 g).1;rw[r]at o;have j:eR (A.set i (im (A.getD i aj.aa) t.2.2.1)) (keyOf t.2.2.1 c.2.2.2.2.2)=some i:=Q2 g (by have:=(aZ.1 g).2.1;simpa[im]using this);have hc:(if decide (eZ (some i)<0)=true then decide (((A.length:Nat):Int)>=12)else false)=false:=a_ (by show¬(decide ((i:Int)<0)=true);rw[b_];omega);rw[hc,a_ aJU,qd Q (by omega) (by omega) (by omega),aJD,r,g];dsimp only;have m:i<(A.set i (im (A.getD i aj.aa) t.2.2.1)).length:=by simpa using s
  rw[jA Q (by omega),aJD];simp only[j,eZ];rw[an (aA m),an (aA f)];simp only[E_,aT _ _ s,Option.isNone_some,aJO,if_false];rw[b _ _ _ _ (ou d (A.getD i aj.aa).1) 2 (by rw[aJM];exact f) (by rw[aT _ _ f,h];rfl),aJD,aJY];rfl
def Rv(op n h:Int)(a:ae):af ak (op,0,a,[],0,[],[],n,h)=af ab a:=by rw[bw Q];simp[af]
set_option maxHeartbeats 8000000 in
theorem pB{n:Nat}{t:aF}{d:aC}(hs:af az (c,ti,O,st,Z,U,gr,A,nn,T,n_,V,E,M)<=1048576)(p:3<E.length)(g:E.getD 3 ak.aa=t)(a:t.1=0\/t.1=5/\(t.2.1=0\/t.2.1=1))
 (v:t.1=5->n<M.length) (w:bf t=(n:Int)) (x:M.getD n aw.aa=d) (q:t.1=5->d.2.2.1=t.2.2.1) (r:∀i,i<A.length->(A.getD i aj.aa).1≠nn):
 iH k ((c,ti,O,st,Z,U,gr,A,nn,T,n_,V,E,M),())=
  some ((eW true k (c,ti,O,st,Z,U,gr,A,nn,T,n_,V,E,M)).1,(eW true k (c,ti,O,st,Z,U,gr,A,nn,T,n_,V,E,M)).2,()):=by
 have hsum:=gG Q hs;have hdl:=ay (e:=aw) (l:=M);have hfl:=ay (e:=ab) (l:=U);have j:decide ((0:Int)<=3/\(3:Int)<(E.length:Int))=true:=c_ ⟨by omega,by omega⟩;simp only[iH,aN,show aJT 3=3 from rfl,g];rw[an j];unfold eW;rcases a with a|⟨a,u⟩;rw[a,an (by decide)];by_cases b:U.length=0
 have f:gH true k (c,ti,O,st,Z,U,gr,A,nn,T,n_,V,E,M)=(false,(c,ti,O,st,Z,U,gr,A,nn,T,n_,V,E,M)):=by
  unfold gH;simp only[g,a,b,if_true]
 have m:decide (((U.length:Nat):Int)>0)=false:=decide_eq_false (by omega);rw[f];simp only[m,aJO,if_false];rfl;have hA:=dw (e:=ab) (d:=ab.aa) (l:=U) (i:=0) (by omega);have hAt:=bo Q (U.getD 0 ab.aa);have hAl:=ay (e:=al) (l:=(U.getD 0 ab.aa).1)
 have f:gH true k (c,ti,O,st,Z,U,gr,A,nn,T,n_,V,E,M)=(true,(c,ti,O,st,Z,U.drop 1,gr,A,nn,T,n_,V,E.set 3 (tK (U.getD 0 ab.aa) M.length),M++[AU (U.getD 0 ab.aa) O ti])):=by
  unfold gH;simp only[g,a,b,if_true,if_false]
 have m:decide (((U.length:Nat):Int)>0)=true:=c_ (by omega);have y:cm k (U.drop 1,())=some (U.drop 1,()):=xW Q (by omega);have s:dI k ((5:Int),())=some (7,()):=rfl;rw[f];simp only[m,if_true,show aJT 0=0 from rfl,show aJT 1=1 from rfl];rw[an (c_ (by omega)),an (c_ (by omega)),y,aJD]
 have z:=sT (i:=3) (t:=(5,0,U.getD 0 ab.aa,[],0,[],[],0,0)) (o:=7) (c:=c) (ti:=ti) (O:=O) (gr:=gr) (nn:=nn) (st:=st) (Z:=Z) (U:=U.drop 1) (V:=V) (A:=A) (T:=T) (n_:=n_) (E:=E) (M:=M)
  Q p (by omega) (by rw[Rv Q];omega) s (by dsimp only;omega) (by simp)
 erw[z];rfl;rw[a,a_ (by decide),an j];rcases u with b|b
 have f:gH true k (c,ti,O,st,Z,U,gr,A,nn,T,n_,V,E,M)=gL (c,ti,O,st,Z,U,gr,A,nn,T,n_,V,E,M) 3:=by
  unfold gH;simp only[g,a,b,if_true];rw[a_ (show¬(5:Int)=0 by decide)]
 have m:=uw (i:=3) (c:=c) (ti:=ti) (O:=O) (gr:=gr) (nn:=nn) (st:=st) (Z:=Z) (U:=U) (V:=V) (A:=A) (T:=T) (n_:=n_) (M:=M) Q p;rw[b,an (by decide),f];erw[m];by_cases h:gr= -1;rw[an h,Ht h];rfl;rw[a_ h,MD h];rfl;rw[b,a_ (by decide),Fs Q hs p g a b (v a) w x (q a) r,aJD]
 have f:(gH true k (c,ti,O,st,Z,U,gr,A,nn,T,n_,V,E,M)).1=true:=by
  unfold gH;simp only[g,a,b];rw[a_ (show¬(5:Int)=0 by decide),a_ (show¬(1:Int)=0 by decide)];split;split<;>rfl;rfl
 unfold bH;rw[f];rfl
end
def rY(T:List aJ)(O:Int):Bool:=decide (0<T.length)&&decide ((T.getD 0 aD.aa).1<=O)
def tD(n h:Int):aF:=(6,0,cF,[],0,[],[],n,h)
def xu(n O ti:Int):aC:=(8,4,cF,[],0,n,0,[],O,ti,-1,-1)
def xo(c:bh)(T:List aJ)(A:List au)(n:Int):List aJ:=
 match eM A n with
 |some i=>vf T (iq c (A.getD i aj.aa),n)
 |none=>T
def gP(s:Bool)(k:Nat)(w:ag):Bool×ag:=
 match w with
 |(c,ti,O,st,Z,U,gr,A,nn,T,n_,V,E,M)=>
  let t:=E.getD 4 ak.aa
  let n:=(bf t).toNat
  let d:=M.getD n aw.aa
  if t.1=0 then
   (if rY T O=true then(true,(c,ti,O,st,Z,U,gr,A,nn,(eK T).1,n_,V,E.set 4 (tD (eK T).2.1.2 M.length),M++[xu (eK T).2.1.2 O ti]))else(false,w))
  else if t.2.1=0 then gL w 4
  else if lM A t.2.2.2.2.2.2.2.1=true then
   (true,(c,ti,O,st,Z,U,-1,dQ A t.2.2.2.2.2.2.2.1 O,nn,xo c T (dQ A t.2.2.2.2.2.2.2.1 O) t.2.2.2.2.2.2.2.1,n_++[iy A t.2.2.2.2.2.2.2.1 O],V,E.set 4 zT,
    M.set n (dA s true d O ti 8 (iy A t.2.2.2.2.2.2.2.1 O).2.2.2)))
  else(true,(c,ti,O,st,Z,U,-1,A,nn,T,n_,V,E.set 4 zT,M.set n (dA s false d O ti 6 [])))
def fK(s:Bool)(k:Nat)(w:ag):Bool×ag:=bH (gP s k w)
section
variable{k:Nat}(Q:9223372036854775808<=k)
include Q
variable{c:bh}{ti O gr nn:Int}{st:List ar}{Z:List bg}{U V:List ae}{A:List au}{T:List aJ}{n_:List br}{E:List aF}{M:List aC}
theorem AW{w:ag}:lL k (w,())=some (rY w.2.2.2.2.2.2.2.2.2.1 w.2.2.1,()):=by
 simp only[lL,rY];by_cases h:0<w.2.2.2.2.2.2.2.2.2.1.length;have a:decide (((w.2.2.2.2.2.2.2.2.2.1.length:Nat):Int)>0)=true:=c_ (by omega);have b:decide ((0:Int)<=0/\(0:Int)<((w.2.2.2.2.2.2.2.2.2.1.length:Nat):Int))=true:=c_ ⟨by omega,by omega⟩;simp[a,b,h];have a:decide (((w.2.2.2.2.2.2.2.2.2.1.length:Nat):Int)>0)=false:=decide_eq_false (by omega);simp[a,h]
set_option maxHeartbeats 8000000 in
theorem C5{n:Nat}{t:aF}{d:aC}(hs:af az (c,ti,O,st,Z,U,gr,A,nn,T,n_,V,E,M)<=1048576)(o:4<E.length)(f:E.getD 4 ak.aa=t)(p:t.1=6)(g:t.2.1=1)
 (q:n<M.length) (j:bf t=(n:Int)) (m:M.getD n aw.aa=d):
 mb k ((c,ti,O,st,Z,U,gr,A,nn,T,n_,V,E,M),())=
  some ((gP true k (c,ti,O,st,Z,U,gr,A,nn,T,n_,V,E,M)).2,()):=by
 have hsum:=gG Q hs;have hdl:=ay (e:=aw) (l:=M);have hgl:=ay (e:=aj) (l:=A);have hhl:=ay (e:=aD) (l:=T);have hsl:=ay (e:=bM) (l:=n_);have h:decide ((0:Int)<=4/\(4:Int)<(E.length:Int))=true:=c_ ⟨by omega,by omega⟩;unfold gP;simp only[f,j,m,p,g,E_];rw[a_ (show¬(6:Int)=0 by decide),a_ (show¬(1:Int)=0 by decide)];simp only[mb,show aJT 4=4 from rfl,f]
 have a:∀(A:List au) (T:List aJ) (n_:List br) (code:Int) (got:List ae),af (.sl ab) got<=1073741824->cD k ((c,ti,O,st,Z,U,-1,A,nn,T,n_,V,E,M),(4:Int),code,got,())=
  some ((c,ti,O,st,Z,U,-1,A,nn,T,n_,V,E.set 4 zT,M.set n (ot d O ti code got)),()):=by
  intro A T n_ code got b;have:=fj (n:=n) (i:=4) (code:=code) (got:=got) (c:=c) (ti:=ti) (O:=O) (gr:= -1) (nn:=nn) (st:=st) (Z:=Z) (U:=U) (V:=V) (A:=A) (T:=T) (n_:=n_) Q o q (by rw[f];exact j) b;rw[m]at this;exact this
 generalize hN:t.2.2.2.2.2.2.2.1=N;have hfl:=Qo Q (l:=A) (n:=N) (O:=O);have hfb:=OX Q (l:=A) (n:=N) (O:=O);have hfbt:=px Q (iy A N O);have hfll:=ay (e:=aj) (l:=dQ A N O);rw[an h,EW Q (by omega),aJD];dsimp only;cases hb:lM A N with
 |false=>
  rw[an (by rfl),a A T n_ 6 [] (by simp[af]),aJD,a_ aJU];rfl
 |true=>
  rw[a_ (by simp),an (c_ (by simp only[aJJ];omega)),qb Q (by omega),aJD,an rfl];unfold xo;cases r:eM (dQ A N O) N with
  |none=>
   have hc:decide (eZ (none:Option Nat)>=0)=false:=rfl;dsimp only;rw[hc,a_ aJU,a _ _ _ 8 _ (by omega),aJD];rfl
  |some i=>
   have hc:decide (eZ (some i)>=0)=true:=c_ (by show(i:Int)>=0;omega);dsimp only;rw[hc,an rfl,wc Q (by omega) (by omega) r,aJD];dsimp only;rw[a _ _ _ 8 _ (by omega),aJD];rfl
set_option maxHeartbeats 8000000 in
theorem p9{n:Nat}{t:aF}{d:aC}(hs:af az (c,ti,O,st,Z,U,gr,A,nn,T,n_,V,E,M)<=1048576)(m:4<E.length)(f:E.getD 4 ak.aa=t)(a:t.1=0\/t.1=6/\(t.2.1=0\/t.2.1=1))
 (u:t.1=6->n<M.length) (v:bf t=(n:Int)) (w:M.getD n aw.aa=d):
 iT k ((c,ti,O,st,Z,U,gr,A,nn,T,n_,V,E,M),())=
  some ((fK true k (c,ti,O,st,Z,U,gr,A,nn,T,n_,V,E,M)).1,(fK true k (c,ti,O,st,Z,U,gr,A,nn,T,n_,V,E,M)).2,()):=by
 have hsum:=gG Q hs;have hdl:=ay (e:=aw) (l:=M);have hhl:=ay (e:=aD) (l:=T);have j:decide ((0:Int)<=4/\(4:Int)<(E.length:Int))=true:=c_ ⟨by omega,by omega⟩;simp only[iT,aN,show aJT 4=4 from rfl,f];rw[an j];unfold fK;rcases a with a|⟨a,q⟩;rw[a,an (by decide),AW Q,aJD];dsimp only;cases r:rY T O with
 |false=>
  have b:gP true k (c,ti,O,st,Z,U,gr,A,nn,T,n_,V,E,M)=(false,(c,ti,O,st,Z,U,gr,A,nn,T,n_,V,E,M)):=by
   unfold gP;simp only[f,a,r,if_true,aJO,if_false]
  rw[b];rfl
 |true=>
  have b:gP true k (c,ti,O,st,Z,U,gr,A,nn,T,n_,V,E,M)=(true,(c,ti,O,st,Z,U,gr,A,nn,(eK T).1,n_,V,E.set 4 (tD (eK T).2.1.2 M.length),M++[xu (eK T).2.1.2 O ti])):=by
   unfold gP;simp only[f,a,r,if_true]
  have p:dI k ((6:Int),())=some (8,()):=rfl;have s:af ab cF=0:=by rw[bo Q];rfl
  rw[b,an rfl,Dk Q (by omega),aJD]
  have x:=sT (i:=4) (t:=(6,0,cF,[],0,[],[],(eK T).2.1.2,0)) (o:=8) (c:=c) (ti:=ti) (O:=O) (gr:=gr) (nn:=nn) (st:=st) (Z:=Z) (U:=U) (V:=V) (A:=A) (T:=(eK T).1) (n_:=n_) (E:=E) (M:=M)
   Q m (by omega) (by rw[Rv Q,s];omega) p (by dsimp only;rw[s];omega) (by simp)
  erw[x];rfl
 rw[a,a_ (by decide),an j];rcases q with g|g
 have b:gP true k (c,ti,O,st,Z,U,gr,A,nn,T,n_,V,E,M)=gL (c,ti,O,st,Z,U,gr,A,nn,T,n_,V,E,M) 4:=by
  unfold gP;simp only[f,a,g,if_true];rw[a_ (show¬(6:Int)=0 by decide)]
 have y:=uw (i:=4) (c:=c) (ti:=ti) (O:=O) (gr:=gr) (nn:=nn) (st:=st) (Z:=Z) (U:=U) (V:=V) (A:=A) (T:=T) (n_:=n_) (M:=M) Q m;rw[g,an (by decide),b];erw[y];by_cases h:gr= -1;rw[an h,Ht h];rfl;rw[a_ h,MD h];rfl;rw[g,a_ (by decide),C5 Q hs m f a g (u a) v w,aJD]
 have b:(gP true k (c,ti,O,st,Z,U,gr,A,nn,T,n_,V,E,M)).1=true:=by
  unfold gP;simp only[f,a,g];rw[a_ (show¬(6:Int)=0 by decide),a_ (show¬(1:Int)=0 by decide)];split<;>rfl
 unfold bH;rw[b];rfl
end
def iU(s:Bool)(k:Nat)(w:ag)(i:Nat):Bool×ag:=
 if(((bF w).getD i ak.aa).1=1)then fy s k w i
 else if(((bF w).getD i ak.aa).1=2\/((bF w).getD i ak.aa).1=3)then nW s k w i
 else if(((bF w).getD i ak.aa).1=4)then eF s k w i
 else if i=3 then eW s k w
 else if i=4 then fK s k w
 else(false,w)
def gx{k:Nat}{w:ag}{t:aF}{d:aC}{i:Nat}(h:cJ k w t d (i:Int)=true):
 i<=4/\(t.1=0\/((t.1=1\/t.1=2\/t.1=3\/t.1=4)/\i<3)\/(t.1=5/\i=3)\/(t.1=6/\i=4)):=by
 unfold cJ cV bc at h;grind
def P1{k:Nat}{w:ag}{t:aF}{d:aC}{i:Int}(h:cJ k w t d i=true)(hp:t.1≠0):
 0<=bf t/\bf t<((bV w).length:Int)/\(cW d= -1↔¬(t.1=1/\t.2.1=2))/\0<=t.2.1/\t.2.1<=2/\(t.2.1=2->t.1=1\/t.1=3):=by
 unfold cJ cV bc at h;unfold bf cW;grind
def P4{k:Nat}{w:ag}{t:aF}{d:aC}{i:Int}(h:cJ k w t d i=true)(hp:t.1=3):
 t.2.2.1=cF/\t.2.2.2.1=[]/\t.2.2.2.2.2.2.2.1=0/\0<=t.2.2.2.2.1/\(t.2.1≠2->t.2.2.2.2.1<w.1.1)/\(t.2.1=2->(t.2.2.2.2.2.1.length:Int)=w.1.1):=by
 unfold cJ cV bc kY at h;grind
def OQ{k:Nat}{w:ag}{t:aF}{d:aC}{i:Int}(h:cJ k w t d i=true)(hp:t.1=4):0<=t.2.2.2.2.1/\t.2.2.2.2.1<w.1.1:=by
 unfold cJ cV bc kY at h;grind
def Qz{k:Nat}{w:ag}{t:aF}{d:aC}{i:Int}(h:cJ k w t d i=true)(hp:t.1=5):d.2.2.1=t.2.2.1:=by
 unfold cJ cV bc kY at h;grind
def QK{k:Nat}{w:ag}(h:fi k w=true){i:Nat}(a:i<(bF w).length):cJ k w ((bF w).getD i ak.aa) (jO w ((bF w).getD i ak.aa)) (i:Int)=true:=
 ck.1 h i (by omega) a
def QD{k:Nat}{w:ag}(h:bC k w=true){i:Nat}(b:i<w.2.2.2.2.2.2.2.1.length):(w.2.2.2.2.2.2.2.1.getD i aj.aa).1<w.2.2.2.2.2.2.2.2.1:=by
 unfold bC at h;simp only[y_]at h;have a:=h.2.2.2.2.2.2.2.2.2.2.2.2.2;unfold dB pd at a;simp only[y_,ck]at a;have d:=a.2.2.2 i (by omega) b;simpa using d.1.2.2
section
variable{k:Nat}(Q:9223372036854775808<=k)
include Q
set_option maxHeartbeats 8000000 in
theorem L8{w:ag}{i:Nat}(hs:af az w<=1048576)(h:bC k w=true)(hi:i<5):mP k (w,(i:Int),())=some ((iU true k w i).1,(iU true k w i).2,()):=by
 obtain⟨F,K,L,N⟩:=Lg h;obtain⟨⟨y,_⟩,_⟩:=A5 F;have b:i<(bF w).length:=by show i<w.2.2.2.2.2.2.2.2.2.2.2.2.1.length;omega
 have g:=QK N b;have u:=fun j p=>QD h (i:=j) p;obtain⟨c,ti,O,st,Z,U,gr,A,nn,T,n_,V,E,M⟩:=w;dsimp only at F K L y u b;obtain⟨t,m⟩:∃t,E.getD i ak.aa=t:=⟨_,rfl⟩
 have J:∀s,iU s k (c,ti,O,st,Z,U,gr,A,nn,T,n_,V,E,M) i=if t.1=1 then fy s k (c,ti,O,st,Z,U,gr,A,nn,T,n_,V,E,M) i
  else if t.1=2\/t.1=3 then nW s k (c,ti,O,st,Z,U,gr,A,nn,T,n_,V,E,M) i
  else if t.1=4 then eF s k (c,ti,O,st,Z,U,gr,A,nn,T,n_,V,E,M) i
  else if i=3 then eW s k (c,ti,O,st,Z,U,gr,A,nn,T,n_,V,E,M)
  else if i=4 then fK s k (c,ti,O,st,Z,U,gr,A,nn,T,n_,V,E,M)else(false,(c,ti,O,st,Z,U,gr,A,nn,T,n_,V,E,M)):=by
  intro s;unfold iU;simp only[bF,m]
 rw[J];dsimp only[bF,jO]at g;rw[m]at g;obtain⟨d,r⟩:∃d,M.getD (bf t).toNat aw.aa=d:=⟨_,rfl⟩
 change cJ k _ t (M.getD (bf t).toNat aw.aa) _=true at g;rw[r]at g;have v:=gx g;simp only[mP,aN,E_,m];rw[an (aA b)];by_cases x:t.1=0;rw[x,a_ (by decide),a_ (by decide),a_ (by decide),a_ (by decide)];by_cases C:i=3;subst C
 obtain⟨n,o⟩:∃n:Nat,bf t=(n:Int):=by
  have:t=zT:=by unfold cJ cV at g;grind
  exact⟨0,by rw[this];rfl⟩
 rw[an (by decide),pB (n:=n) (d:=M.getD n aw.aa) Q hs b m (.inl x) (by omega) o rfl (by omega) (fun j p=>by have:=u j p;omega),aJD,a_ (by decide),a_ (by decide),a_ (by decide),an rfl];by_cases D:i=4;subst D
 obtain⟨n,o⟩:∃n:Nat,bf t=(n:Int):=by
  have:t=zT:=by unfold cJ cV at g;grind
  exact⟨0,by rw[this];rfl⟩
 rw[a_ (by decide),an (by decide),p9 (n:=n) (d:=M.getD n aw.aa) Q hs b m (.inl x) (by omega) o rfl,aJD,a_ (by decide),a_ (by decide),a_ (by decide),a_ (by decide),an rfl];rw[a_ (by rw[beq_iff_eq];omega),a_ (by rw[beq_iff_eq];omega),a_ (by decide),a_ (by decide),a_ (by decide),a_ C,a_ D];obtain⟨b1,P,R,b4,b5,b6⟩:=P1 g x;dsimp only[bV]at P;obtain⟨n,o⟩:∃n:Nat,bf t=(n:Int):=⟨(bf t).toNat,by omega⟩
 rw[o,E_]at r;have f:n<M.length:=by omega
 rcases v.2 with a|⟨a,q⟩|⟨a,q⟩|⟨a,q⟩;exact absurd a x;rcases a with a|a|a|a;obtain⟨j,p,z⟩:=Og (k:=k) Q (l:=st) (s:=t.2.2.1.1) (by omega);rw[an (by rw[a];rfl),an a,Cm Q hs b m a p z f o r (by omega) (fun e B=>by rw[R]at B;exact B ⟨a,e⟩),aJD];obtain⟨j,p,z⟩:=Og (k:=k) Q (l:=st) (s:=t.2.2.2.1) (by omega)
 rw[a_ (by rw[a];decide),an (by rw[a];rfl),an (by rw[a];rfl),a_ (by omega),an (.inl a),
  uu (j:=j) Q hs b m (.inl a) (fun _=>p) (by rw[an a];exact z) (by omega) f o r (by omega),aJD]
 obtain⟨S,G,s3,s4,H,I⟩:=P4 g a;dsimp only at H I
 rw[a_ (by rw[a];decide),a_ (by rw[a];decide),an (by rw[a];rfl),a_ (by omega),an (.inr a),
  uu (j:=t.2.2.2.2.1.toNat) Q hs b m (.inr a) (fun e=>by have:=H (by omega);omega) (by rw[a_ (by omega)];omega) (fun _ e=>by have:=I e;omega) f o r (by omega),aJD]
 obtain⟨S,G⟩:=OQ g a;dsimp only at G
 rw[a_ (by rw[a];decide),a_ (by rw[a];decide),a_ (by rw[a];decide),an (by rw[a];rfl),a_ (by omega),a_ (by omega),an a,
  Cl (j:=t.2.2.2.2.1.toNat) Q hs b m a (by omega) (by omega) f o r (by omega),aJD]
 subst q
 rw[a_ (by rw[a];decide),a_ (by rw[a];decide),a_ (by rw[a];decide),a_ (by rw[a];decide),an (by decide),a_ (by omega),a_ (by omega),a_ (by omega),an rfl,
  pB Q hs b m (.inr ⟨a,by omega⟩) (fun _=>f) o r (fun _=>Qz g a) (fun j p=>by have:=u j p;omega),aJD]
 subst q
 rw[a_ (by rw[a];decide),a_ (by rw[a];decide),a_ (by rw[a];decide),a_ (by rw[a];decide),a_ (by decide),an (by decide),a_ (by omega),a_ (by omega),a_ (by omega),a_ (by decide),an rfl,
  p9 Q hs b m (.inr ⟨a,by omega⟩) (fun _=>f) o r,aJD]
end
def cx{α:Type}{l:List α}{i:Nat}(d:α)(h:i<l.length):l.getD i d=l[i]:=by
 rw[aJG,List.getElem?_eq_getElem h];rfl
def dK{α:Type}{l:List α}{d:α}{p:α->Bool}:bA 0 l.length (fun i=>p (l.getD i d))=true↔∀x∈l,p x=true:=by
 rw[ck];constructor;intro h x b;obtain⟨i,a,e⟩:=aJ0 b;have:=h i (by omega) a;rwa [cx _ a,e]at this;intro h i _ a;rw[cx _ a];exact h _ (aJ6 a)
def Hi{α:Type}{r:α->α->Prop}(o:∀a b c,r a b->r b c->r a c){l:List α}{d:α}:(∀i,i<l.length->i=0\/r (l.getD (i-1) d) (l.getD i d))↔l.Pairwise r:=by
 constructor;intro h;rw[aJS];intro i j g e hij;obtain⟨m,rfl⟩:∃m,j=i+m+1:=⟨j-i-1,by omega⟩
 induction m with
 |zero=>
  rcases h (i+0+1) e with n|f;omega;rwa [show i+0+1-1=i by omega,cx _ g,cx _ e]at f
 |succ m q=>
  have p:=q (by omega) (by omega);rcases h (i+(m+1)+1) e with n|f;omega;rw[show i+(m+1)+1-1=i+m+1 by omega,cx _ (show i+m+1<l.length by omega),cx _ e]at f;exact o _ _ _ p f
 intro h i g;by_cases n:i=0;exact .inl n;rw[cx _ g,cx _ (show i-1<l.length by omega)];exact .inr (aJS.1 h _ _ _ _ (by omega))
def kI{α:Type}{r:α->α->Prop}{l:List α}{d:α}:(∀i,i<l.length->∀j,j<i->r (l.getD j d) (l.getD i d))↔l.Pairwise r:=by
 rw[aJS];constructor;intro h i j b a e;have:=h j a i e;rwa [cx _ b,cx _ a]at this;intro h i b j a;rw[cx _ b,cx _ (show j<l.length by omega)];exact h _ _ _ _ a
def iI{α β:Type}{f:α->β}{l:List α}{i:Nat}{x d:α}(h:f x=f (l.getD i d)):(l.set i x).map f=l.map f:=by
 by_cases a:i<l.length;rw[cx _ a]at h;rw[List.map_set,h];apply aKk (by simp);intro n h1 h2;rw[List.getElem_set];split
 subst_vars;simp
 rfl;rw[List.set_eq_of_length_le (by omega)]
def bK{α:Type}{l:List α}{i:Nat}{d:α}(h:i<l.length):l.getD i d∈l:=by
 rw[cx _ h];exact aJ6 h
def jb{α:Type}{l:List α}{x:α}(d:α)(h:x∈l):∃i,i<l.length/\l.getD i d=x:=by
 obtain⟨i,a,e⟩:=aJ0 h;exact⟨i,a,by rw[cx _ a,e]⟩
def getD_set_ne{α:Type}{l:List α}{n m:Nat}(a d:α)(h:n≠m):(l.set n a).getD m d=l.getD m d:=by
 rw[aJG,aKa h,<-aJG]
def xY{α:Type}{l:List α}{d:α}{p:α->Bool}{x:α}(a:x∈l)(b:p x=true):∃i,gO l.length (fun i=>p (l.getD i d))=some i/\i<l.length/\p (l.getD i d)=true:=by
 cases h:gO l.length (fun i=>p (l.getD i d))with
 |some i=>exact⟨i,rfl,(aZ.1 h).1,(aZ.1 h).2.1⟩
 |none=>
  obtain⟨i,f,e⟩:=jb d a;have:=iR.1 h i f;rw[e,b]at this;cases this
abbrev oo(l:List aP):Prop:=l.Pairwise (fun a b=>a.1<b.1)
abbrev UG(l:List ae):Prop:=l.Pairwise (fun a b=>¬a.1=b.1)
def oq{k:Nat}{c:aP}:dn k c=true↔(∀a∈c.2,bj a=true/\cH k a.1=c.1)/\0<c.2.length/\UG c.2:=by
 unfold dn vK;rw[y_,y_,dK (p:=fun a=>bj a&&decide (cH k a.1=c.1)),decide_eq_true_iff,ck];refine and_congr (by simp) (and_congr aKr ?_);unfold UG;rw[<-kI (d:=ab.aa)];simp only[ck,aJV,d_];exact⟨fun h i b j e=>h i (by omega) b j (by omega) e,fun h i _ b j _ e=>h i b j e⟩
def dM{k:Nat}{p:ar}{q n:Int}:eQ k p q n=true↔(∀c∈p.2.2,dn k c=true/\dL c.1 n=q)/\oo p.2.2/\(-1<=p.1/\p.1<=4)/\0<=p.2.1:=by
 unfold eQ oo;rw[<-Hi (d:=ax.aa) (fun a b c e h2=>by omega)];have:∀j,(dn k (p.2.2.getD j ax.aa)&&(decide (dL (p.2.2.getD j ax.aa).1 n=q)&&rF p.2.2 j))=((dn k (p.2.2.getD j ax.aa)&&decide (dL (p.2.2.getD j ax.aa).1 n=q))&&rF p.2.2 j):=fun j=>(Bool.and_assoc ..).symm;simp only[this,jH,y_,bc,decide_eq_true_iff];have e:=dK (l:=p.2.2) (d:=ax.aa) (p:=fun c=>dn k c&&decide (dL c.1 n=q));simp only[jH,y_,decide_eq_true_iff]at e;rw[e,and_assoc];refine and_congr aKr (and_congr ?_ aKr);rw[ck];simp only[rF,aJK,beq_iff_eq,decide_eq_true_iff];exact⟨fun h i f=>h i (by omega) f,fun h i _ f=>h i f⟩
def cE{k:Nat}{l:List ar}:dp k l=true↔(∀i,i<l.length->eQ k (l.getD i ah.aa) (i:Int) (l.length:Int)=true)/\1<=l.length/\l.length<=3:=by
 unfold dp;rw[y_,ck];simp only[bc,y_,decide_eq_true_iff];exact and_congr ⟨fun h i a=>h i (by omega) a,fun h i _ a=>h i a⟩ (by omega)
def Kr{l:List ar}{a:ae}:a∈bU l↔∃p∈l,∃c∈p.2.2,a∈c.2:=by
 simp only[bU,aW,j9,aJH]
/-! one part changes-/
def vl{k:Nat}{l:List ar}{j:Nat}{p:ar}(h:dp k l=true)(b:eQ k p (j:Int) (l.length:Int)=true):dp k (l.set j p)=true:=by
 rw[cE]at h|-;rw[aJM];refine⟨fun i a=> ?_,h.2⟩;by_cases e:j=i;subst e;rw[aT _ _ a];exact b;rw[getD_set_ne _ _ e];exact h.1 i a
def CU{α β:Type}{f:α->List β}{l:List α}{j:Nat}{x d:α}(b:j<l.length):((l.set j x).flatMap f).length+(f (l.getD j d)).length=(l.flatMap f).length+(f x).length:=by
 induction l generalizing j with
 |nil=>simp at b
 |cons a l e=>
  cases j with
  |zero=>simp only[aKi,aJW,aJI,aKe];omega
  |succ j=>
   have:=e (j:=j) (by simpa using b);simp only[List.set_cons_succ,aJW,aJI,aKf];omega
def zO{α β:Type}{f:α->List β}{l:List α}{j:Nat}{x:α}{b:β}(h:b∈(l.set j x).flatMap f):b∈l.flatMap f\/b∈f x:=by
 obtain⟨y,d,a⟩:=aJH.1 h;rcases aJQ d with e|rfl;exact .inl (aJH.2 ⟨y,e,a⟩);exact .inr a
def count_set{l:List ar}{j:Nat}{p:ar}(a:j<l.length):bq (l.set j p)+(aW (l.getD j ah.aa)).length=bq l+(aW p).length:=CU a
/-! locks-/
def VN{k:Nat}{st:List ar}{j:Nat}{x:Int}(h:dp k st=true)(a:j<st.length)(b: -1<=x/\x<=4):dp k (bT st j x)=true:=by
 refine vl h ?_;have:=dM.1 ((cE.1 h).1 j a);exact dM.2 ⟨this.1,this.2.1,b,this.2.2.2⟩
def Cc{st:List ar}{j:Nat}{x:Int}:bU (bT st j x)=bU st:=by
 unfold bU bT;have:∀l:List ar,l.flatMap aW=(l.map aW).flatten:=fun l=>by rw[aJ7]
 rw[this,this,iI (f:=aW) (l:=st) (i:=j) (x:=(x,(st.getD j ah.aa).2)) (d:=ah.aa) rfl]
/-! putting-/
def A9(a b:ae):(jS a b).1=b.1:=by unfold jS;split<;>rfl
def Ni{a b:ae}(ha:bj a=true)(d:cw b=true):cw (jS a b)=true:=by
 unfold jS;split;unfold cw bj bc at*
 simp only[y_,b_]at*
 refine⟨⟨⟨⟨d.1.1.1.1,?_⟩,?_⟩,d.1.2⟩,d.2⟩<;>(try split)<;>omega;exact d
def fm{a:ae}(h:cw a=true):bj a=true:=by
 unfold cw at h;simp only[y_]at h;exact h.1
def xH(c:aP)(a:ae):(jX c a).1=c.1:=by unfold jX;split<;>rfl
def MX{c:aP}{a x:ae}(h:x∈(jX c a).2):x∈c.2\/x=a\/∃b∈c.2,x=jS b a:=by
 unfold jX at h;split at h;rename_i i e;rcases aJQ h with d|d;exact .inl d;exact .inr (.inr ⟨_,bK (aZ.1 e).1,d⟩);rcases aJN.1 h with d|d;exact .inl d;exact .inr (.inl (by simpa using d))
def Dz(c:aP)(a:ae):(jX c a).2.length=c.2.length+if(fI c.2 a.1).isNone=true then 1 else 0:=by
 unfold jX;split;rename_i i b;simp[b];rename_i b;simp[b]
def Qt(c:aP)(a:ae):∃x∈(jX c a).2,x.1=a.1:=by
 unfold jX;split;rename_i i b;exact⟨_,List.mem_set (h:=(aZ.1 b).1) ..,A9 _ _⟩;exact⟨a,by simp,rfl⟩
def Vu{k:Nat}{c:aP}{a:ae}(h:dn k c=true)(m:cw a=true)(n:cH k a.1=c.1):dn k (jX c a)=true:=by
 rw[oq]at h|-;obtain⟨p,h2,q⟩:=h;refine⟨fun x g=> ?_,by rw[Dz];omega,?_⟩;rw[xH];rcases MX g with g|rfl|⟨b,s,rfl⟩;exact p x g;exact⟨fm m,n⟩;exact⟨fm (Ni (p b s).1 m),by rw[A9];exact n⟩;unfold jX;split;rename_i i j
 have e:(c.2.set i (jS (c.2.getD i ab.aa) a)).map (·.1)=c.2.map (·.1):=iI (d:=ab.aa) (by
  rw[A9];exact(by simpa using(aZ.1 j).2.1:(c.2.getD i ab.aa).1=a.1).symm)
 have o:=(aJX (f:=fun x:ae=>x.1) (R:=fun a b=>¬a=b)).2 q;rw[<-e]at o;exact(aJX (f:=fun x:ae=>x.1) (R:=fun a b=>¬a=b)).1 o;rename_i j;refine aJ3.2 ⟨q,aJ2 _ _,fun x g y r=> ?_⟩;obtain⟨i,l,rfl⟩:=jb ab.aa g;have:=iR.1 j i l;rw[aJL.1 r];simpa using this
def Ve{l:List aP}{f:Int}(i:Nat)(h:i<iY l f):(l.getD i ax.aa).1<f:=by
 unfold iY at h;cases e:gO l.length (fun i=> !decide ((l.getD i ax.aa).1<f))with
 |none=>
  rw[e]at h;have:=iR.1 e i h;simpa using this
 |some j=>
  rw[e]at h;have:=(aZ.1 e).2.2 i h;simpa using this
def Vh{l:List aP}{f:Int}(h:iY l f<l.length):f<=(l.getD (iY l f) ax.aa).1:=by
 unfold iY at h|-;cases e:gO l.length (fun i=> !decide ((l.getD i ax.aa).1<f))with
 |none=>rw[e]at h;simp at h
 |some j=>
  have:=(aZ.1 e).2.1;simp only[Option.getD_some];simpa using this
def Qf{l:List aP}{f:Int}{x:aP}(h:oo l)(r:∀c∈l,¬c.1=f)(q:x.1=f):oo (l.take (iY l f)++[x]++l.drop (iY l f)):=by
 have g:∀c∈l.take (iY l f),c.1<f:=by
  intro c hc;obtain⟨i,p,e⟩:=aJ0 hc;rw[aKl]at p;have j:=Ve (l:=l) (f:=f) i (by omega);rw[cx _ (by omega)]at j;rw[<-e,aJ4];exact j
 have n:∀c∈l.drop (iY l f),f<c.1:=by
  intro c hc;obtain⟨i,p,e⟩:=aJ0 hc;rw[List.length_drop]at p;have j:=Vh (l:=l) (f:=f) (by omega);rw[cx _ (by omega)]at j;have h2:=r _ (aJ6 (show iY l f<l.length by omega));rw[List.getElem_drop]at e;rw[<-e];by_cases o:i=0;subst o;simp only[Nat.add_zero];omega;have:=aJS.1 h (iY l f) (iY l f+i) (by omega) (by omega) (by omega);omega
 unfold oo at*
 rw[aJ3,aJ3];refine⟨⟨h.sublist (List.take_sublist _ _),aJ2 _ _,fun a d b m=> ?_⟩,h.sublist (List.drop_sublist _ _),fun a d b m=> ?_⟩;rw[aJL.1 m,q];exact g a d;have:=n b m;rcases aJN.1 d with d|d;have:=g a d;omega;rw[aJL.1 d,q];exact this
def Qd{k:Nat}{p:ar}{s:List ai}(n:oo p.2.2):(fg k p s).2=true↔∃c∈p.2.2,c.1=cH k s/\∃x∈c.2,x.1=s:=by
 unfold fg;constructor;intro h;split at h;cases h;rename_i i f;split at h;cases h;rename_i j g;exact⟨_,bK (aZ.1 f).1,by simpa using(aZ.1 f).2.1,_,bK (aZ.1 g).1,by simpa using(aZ.1 g).2.1⟩;rintro⟨c,hc,e,x,u,ex⟩;obtain⟨i,v,w,y⟩:=xY (d:=ax.aa) (p:=fun c=>decide (c.1=cH k s)) hc (by simpa using e)
 have o:p.2.2.getD i ax.aa=c:=by
  obtain⟨m,z,em⟩:=jb ax.aa hc;have h4:(p.2.2.getD i ax.aa).1=c.1:=by rw[e];simpa using y
  by_cases b:i=m;rw[b];exact em;have l:=kI (d:=ax.aa).2 n;rcases Nat.lt_or_gt_of_ne b with h6|h6;have:=l m z i h6;rw[em]at this;omega;have:=l i w m h6;rw[em]at this;omega
 obtain⟨j,B,g2,g3⟩:=xY (d:=ab.aa) (p:=fun a=>decide (a.1=s)) u (by simpa using ex);have q:fx p (cH k s)=some i:=v;have r:fI c.2 s=some j:=B;simp only[q,o,r]
def OW{k:Nat}{p:ar}{s:List ai}(h:(fg k p s).2=true):(fg k p s).1.1=s/\(fg k p s).1∈aW p:=by
 unfold fg at h|-;split at h;cases h;rename_i i b;split at h;cases h;rename_i j a;simp only[b,a];exact⟨by simpa using(aZ.1 a).2.1,aJH.2 ⟨_,bK (aZ.1 b).1,bK (aZ.1 a).1⟩⟩
def OY{k:Nat}{p a:ar}{s:List ai}(h:a.2.2=p.2.2):fg k a s=fg k p s:=by
 unfold fg fx;rw[h]
def sG(k:Nat)(p:ar)(a:ae):(fE k p a).1.2.1=IntKind.i64.wrap (p.2.1+1)/\(fE k p a).1.1=p.1:=by
 unfold fE;split<;>exact⟨rfl,rfl⟩
def Sw{k:Nat}{a:ae}(d:cw a=true):dn k (cH k a.1,[a])=true:=
 oq.2 ⟨fun x b=>by rw[aJL.1 b];exact⟨fm d,rfl⟩,by simp,aJ2 _ _⟩
def MZ{p:ar}{f:Int}(h:fx p f=none):∀c∈p.2.2,¬c.1=f:=by
 intro c hc;obtain⟨i,a,rfl⟩:=jb ax.aa hc;have:=iR.1 h i a;simpa using this
def Vy{k:Nat}{p:ar}{a:ae}{q n:Int}(h:eQ k p q n=true)(m:cw a=true)(u:dL (cH k a.1) n=q)(hv:p.2.1<4611686018427387904):eQ k (fE k p a).1 q n=true:=by
 rw[dM]at h|-;obtain⟨j,s,w,h4⟩:=h;have e:=sG k p a;refine⟨?_,?_,by rw[e.2];exact w,by rw[e.1,wrap64 (by omega) (by omega)];omega⟩;intro c hc;unfold fE at hc;split at hc;rename_i i g;rcases aJQ hc with hc|rfl;exact j c hc;have l:(p.2.2.getD i ax.aa).1=cH k a.1:=by simpa using(aZ.1 g).2.1
 have o:=j _ (bK (d:=ax.aa) (aZ.1 g).1);exact⟨Vu o.1 m l.symm,by rw[xH];exact o.2⟩;rcases aJN.1 hc with hc|hc;rcases aJN.1 hc with hc|hc;exact j c (aKb hc);rw[aJL.1 hc];exact⟨Sw m,u⟩;exact j c (aKc hc);unfold fE;split;rename_i i g;have v:(p.2.2.set i (jX (p.2.2.getD i ax.aa) a)).map (·.1)=p.2.2.map (·.1):=iI (d:=ax.aa) (xH _ _);have r:=(aJX (f:=fun x:aP=>x.1) (R:=fun a b=>a<b)).2 s;rw[<-v]at r;exact(aJX (f:=fun x:aP=>x.1) (R:=fun a b=>a<b)).1 r;rename_i g;exact Qf s (MZ g) rfl
def Tz{k:Nat}{p:ar}{a x:ae}(h:x∈aW (fE k p a).1):x∈aW p\/x=a\/∃b∈aW p,x=jS b a:=by
 obtain⟨c,hc,d⟩:=aJH.1 h;unfold fE at hc;split at hc;rename_i i f;rcases aJQ hc with hc|rfl;exact .inl (aJH.2 ⟨c,hc,d⟩);have e:p.2.2.getD i ax.aa∈p.2.2:=bK (aZ.1 f).1;rcases MX d with d|d|⟨b,g,d⟩;exact .inl (aJH.2 ⟨_,e,d⟩);exact .inr (.inl d);exact .inr (.inr ⟨b,aJH.2 ⟨_,e,g⟩,d⟩);rcases aJN.1 hc with hc|hc;rcases aJN.1 hc with hc|hc;exact .inl (aJH.2 ⟨c,aKb hc,d⟩);rw[aJL.1 hc]at d;exact .inr (.inl (by simpa[j9]using d));exact .inl (aJH.2 ⟨c,aKc hc,d⟩)
def Tx{k:Nat}{p:ar}{a:ae}:(aW (fE k p a).1).length=(aW p).length+if(fE k p a).2=true then 1 else 0:=by
 unfold aW fE;split;rename_i i b;have:=CU (f:=j9) (l:=p.2.2) (j:=i) (x:=jX (p.2.2.getD i ax.aa) a) (d:=ax.aa) (aZ.1 b).1;simp only[j9,Dz]at this|-;omega
 have:(p.2.2.flatMap j9).length=((p.2.2.take (iY p.2.2 (cH k a.1))).flatMap j9).length+((p.2.2.drop (iY p.2.2 (cH k a.1))).flatMap j9).length:=by
  rw[<-aJI,<-aKg,aJ9]
 simp only[aKg,aJI,this];simp[j9];omega
def Qe{k:Nat}{p:ar}{a:ae}:∃c∈(fE k p a).1.2.2,c.1=cH k a.1/\∃x∈c.2,x.1=a.1:=by
 unfold fE;split;rename_i i b;refine⟨_,List.mem_set (h:=(aZ.1 b).1) ..,?_,Qt _ _⟩;rw[xH];simpa using(aZ.1 b).2.1;exact⟨(cH k a.1,[a]),by simp,rfl,a,by simp,rfl⟩
def fT{k:Nat}{st:List ar}(h:dp k st=true):st.length≠0:=by have:=(cE.1 h).2;omega
def gY{k:Nat}{st:List ar}{s:List ai}(h:st.length≠0):(bz k st s).toNat<st.length/\((bz k st s).toNat:Int)=bz k st s:=by
 have:=xV (f:=cH k s) (n:=(st.length:Int)) (by omega);unfold bz;omega
def sJ{k:Nat}{st:List ar}{a:ae}(h:st.length≠0):cZ k st a=(st.set (bz k st a.1).toNat (fE k (st.getD (bz k st a.1).toNat ah.aa) a).1,(fE k (st.getD (bz k st a.1).toNat ah.aa) a).2):=by
 unfold cZ;rw[a_ h]
def Kk{k:Nat}{st:List ar}{a:ae}(h:dp k st=true)(g:cw a=true)(q:∀p∈st,p.2.1<4611686018427387904):
 dp k (cZ k st a).1=true/\(cZ k st a).1.length=st.length/\bq (cZ k st a).1=bq st+(if(cZ k st a).2=true then 1 else 0)/\
 (bL k (cZ k st a).1 a.1).2=true/\((∀x∈bU st,cw x=true)->∀x∈bU (cZ k st a).1,cw x=true):=by
 have j:=fT h;obtain⟨e,u⟩:=gY (k:=k) (s:=a.1) j;rw[sJ j];have r:=(cE.1 h).1 _ e;have m:=Vy r g (by rw[u];rfl) (q _ (bK e));refine⟨vl h m,by simp,?_,?_,?_⟩;have:=count_set (l:=st) (p:=(fE k (st.getD (bz k st a.1).toNat ah.aa) a).1) e;have:=Tx (k:=k) (p:=st.getD (bz k st a.1).toNat ah.aa) (a:=a);dsimp only;omega;unfold bL;rw[a_ (by simpa using j),show bz k (st.set (bz k st a.1).toNat (fE k (st.getD (bz k st a.1).toNat ah.aa) a).1) a.1=bz k st a.1 by unfold bz;rw[aJM],aT _ _ e];exact(Qd (dM.1 m).2.1).2 Qe;intro f x d;rcases zO d with d|d;exact f x d;have n:∀y∈aW (st.getD (bz k st a.1).toNat ah.aa),y∈bU st:=fun y o=>aJH.2 ⟨_,bK e,o⟩;rcases Tz d with d|rfl|⟨b,v,rfl⟩;exact f x (n x d);exact g;exact Ni (fm (f b (n b v))) g
def zD{k:Nat}{st:List ar}{s:List ai}(h:(bL k st s).2=true):(bL k st s).1.1=s/\(bL k st s).1∈bU st:=by
 unfold bL at h|-;split at h;cases h;rename_i a;rw[a_ a];have:=OW h;exact⟨this.1,aJH.2 ⟨_,bK (gY a).1,this.2⟩⟩
def MR{k:Nat}{st a:List ar}{s:List ai}(b:a.length=st.length)(h:(a.getD (bz k st s).toNat ah.aa).2.2=(st.getD (bz k st s).toNat ah.aa).2.2):bL k a s=bL k st s:=by
 unfold bL;rw[b,show bz k a s=bz k st s by unfold bz;rw[b],OY h]
def TM{k:Nat}{p:ar}{a:ae}(hp:oo p.2.2):(fE k p a).2= !(fg k p a.1).2:=by
 unfold fE fg;cases h:fx p (cH k a.1)with
 |none=>rfl
 |some i=>cases b:fI (p.2.2.getD i ax.aa).2 a.1<;>simp only[b]<;>rfl
def KK{k:Nat}{st:List ar}{a:ae}(h:dp k st=true):(cZ k st a).2= !(bL k st a.1).2:=by
 have b:=fT h;obtain⟨d,h2⟩:=gY (k:=k) (s:=a.1) b;rw[sJ b];unfold bL;rw[a_ b];exact TM (dM.1 ((cE.1 h).1 _ d)).2.1
/-! sweeping-/
def AO{O:Int}{l:List ae}{a:ae}:a∈dC O l->a∈l:=by
 unfold dC;intro h;exact(aKp.1 h).1
def Tm{k:Nat}{O:Int}{c:aP}(h:dn k c=true)(d:0<(ic O c).2.length):dn k (ic O c)=true:=by
 rw[oq]at h|-;refine⟨fun a b=>h.1 a (AO b),d,?_⟩;unfold ic dC;exact h.2.2.filter _
def Oc{O:Int}{l:List aP}{c:aP}(h:c∈jV O l):0<c.2.length/\∃b∈l,c=ic O b:=by
 unfold jV at h;obtain⟨a,d⟩:=aKp.1 h;obtain⟨b,f,e⟩:=List.mem_map.1 a;exact⟨by simpa using d,b,f,e.symm⟩
def To{O:Int}{l:List aP}(h:oo l):oo (jV O l):=by
 unfold jV oo;refine List.Pairwise.filter _ ?_;exact aJX.2 h
def Sd{k:Nat}{p:ar}{O q n:Int}(h:eQ k p q n=true)(hv:p.2.1<4611686018427387904):eQ k (dU p O) q n=true:=by
 rw[dM]at h|-;obtain⟨a,e,f,g⟩:=h;refine⟨fun c hc=> ?_,To e,f,?_⟩;obtain⟨j,b,d,rfl⟩:=Oc hc;exact⟨Tm (a b d).1 j,(a b d).2⟩;unfold dU;dsimp only;split;rw[wrap64 (by omega) (by omega)];omega;exact g
def N2(O:Int)(l:List ae):(dC O l).length+(iV O l).length=l.length:=by
 unfold dC iV
 induction l with
 |nil=>rfl
 |cons a l b=>
  simp only[aKm];by_cases h:a.2.2.1<=O;simp[h]at b|-;omega;simp[h]at b|-;omega
def Q7(O:Int)(l:List aP):(jV O l).flatMap j9=l.flatMap fun c=>dC O c.2:=by
 unfold jV
 induction l with
 |nil=>rfl
 |cons c l a=>
  simp only[List.map_cons,aKm,aJW];by_cases h:(0:Nat)<(ic O c).2.length;simp only[c_ h,if_true,aJW,a];rfl;simp only[decide_eq_false h,aJO,if_false,a];have:dC O c.2=[]:=List.eq_nil_of_length_eq_zero (by unfold ic at h;simpa using h);rw[this];rfl
def zA(p:ar)(O:Int):(aW (dU p O)).length+(db O p.2.2).length=(aW p).length:=by
 unfold aW dU db;simp only[Q7]
 induction p.2.2 with
 |nil=>rfl
 |cons c l a=>
  simp only[aJW,aJI,j9]at a|-;have:=N2 O c.2;omega
def RP{p:ar}{O:Int}{a:ae}(h:a∈aW (dU p O)):a∈aW p:=by
 obtain⟨c,hc,d⟩:=aJH.1 h;obtain⟨g1,b,e,rfl⟩:=Oc hc;exact aJH.2 ⟨b,e,AO d⟩
def P6{k:Nat}{p:ar}{O q n:Int}(h:eQ k p q n=true)(d:¬0<(db O p.2.2).length):dU p O=p:=by
 have f:=(dM.1 h).1;unfold dU;rw[a_ d]
 have j:∀c∈p.2.2,ic O c=c:=by
  intro c hc
  have l:iV O c.2=[]:=by
   refine List.eq_nil_iff_forall_not_mem.2 fun a e=>d ?_;exact List.length_pos_of_mem (aJH.2 ⟨c,hc,e⟩)
  have b:=N2 O c.2;rw[l]at b
  have m:dC O c.2=c.2:=by
   unfold dC at b|-;exact(List.filter_sublist).eq_of_length (by simpa using b)
  unfold ic;rw[m]
 have:jV O p.2.2=p.2.2:=by
  unfold jV;rw[List.map_congr_left (g:=id) (fun c hc=>j c hc),List.map_id];refine List.filter_eq_self.2 fun c hc=> ?_;simpa using(oq.1 (f c hc).1).2.1
 rw[this]
def rI(k:Nat)(ti:Int)(l:List aC):Prop:=∀d∈l,er k d=true/\d.2.2.2.2.2.2.2.2.2.1<ti/\d.2.2.2.2.2.2.2.2.2.2.1<ti/\d.2.2.2.2.2.2.2.2.2.2.2<ti
structure zP(k:Nat)(c:bh)(st:List ar):Prop where
 ok:dp k st=true
 len:(st.length:Int)=c.1
 cap:(bq st:Int)<=c.2.1
 fit:∀a∈bU st,cw a=true
structure xP(c:bh)(Z:List bg)(U V:List ae):Prop where
 len:(Z.length:Int)=c.2.2.1
 sub:∀s∈Z,eL s=true
 fee:∀a∈U,bj a=true
 sai:∀a∈V,bj a=true
structure rJ(k:Nat)(st:List ar)(E:List aF)(gr:Int):Prop where
 pt:∀q,q<st.length->∀j,j<5->(bn k (E.getD j ak.aa) st.length=(q:Int)↔(st.getD q ah.aa).1=(j:Int))
 gp:∀j,j<5->(cA (E.getD j ak.aa)=true↔gr=(j:Int))
 gr: -1<=gr/\gr<=4
structure tQ(c:bh)(O:Int)(A:List au)(nn:Int)(T:List aJ)(t4:aF):Prop where
 go:dR A c.2.2.2.2.2=true
 ho:jx T=true
 tm:∀x∈T,x.2<nn
 ap:T.Pairwise (fun a b=>¬a.2=b.2)
 td:∀g∈A,g.2.2.1<=O/\g.2.2.2.1<=O/\g.1<nn/\((∃x∈T,x.2=g.1/\x.1=iq c g)\/(t4.1=6/\t4.2.2.2.2.2.2.2.1=g.1))
def sg(k:Nat)(c1:Int)(st:List ar)(nn:Int)(t:aF)(d:aC):Bool:=
 if t.1=1 then
  decide (d.1=1)&&(if t.2.1=2 then decide (d.2.2.1.1=t.2.2.1.1)&&(bL k st t.2.2.1.1).2&&decide ((bL k st t.2.2.1.1).1=t.2.2.1)else decide (d.2.2.1=t.2.2.1)&&cw t.2.2.1)
 else if t.1=2 then decide (d.1=3)&&decide (d.2.2.2.1=t.2.2.2.1)
 else if t.1=3 then decide (d.1=4)&&((if t.2.1=2 then decide ((t.2.2.2.2.2.1.length:Int)=c1)else decide (t.2.2.2.2.1<c1))&&dm st t)
 else if t.1=4 then decide (d.1=6)&&decide (t.2.2.2.2.1<c1)
 else if t.1=5 then decide (d.1=7)&&decide (d.2.2.1=t.2.2.1)
 else decide (d.1=8)&&(decide (d.2.2.2.2.2.1=t.2.2.2.2.2.2.2.1)&&decide (t.2.2.2.2.2.2.2.1<nn))
def cC(k:Nat)(c1:Int)(st:List ar)(nn m:Int)(t:aF)(d:aC)(n:Int):Bool:=
 cV t n&&(decide (t.1=0)||(decide (t.2.2.2.2.2.2.2.2<m)&&(decide (d.2.1=n)&&decide (d.2.2.2.2.2.2.2.2.2.2.2= -1)&&
  decide ((¬d.2.2.2.2.2.2.2.2.2.2.1= -1)↔(t.1=1/\t.2.1=2))&&sg k c1 st nn t d)))
def Ut(k:Nat)(c1:Int)(st:List ar)(nn:Int)(E:List aF)(M:List aC):Prop:=
 ∀i,i<5->cC k c1 st nn (M.length:Int) (E.getD i ak.aa) (M.getD (bf (E.getD i ak.aa)).toNat aw.aa) (i:Int)=true
structure Rt(k:Nat)(c:bh)(ti O:Int)(st:List ar)(Z:List bg)(U:List ae)(gr:Int)(A:List au)(nn:Int)(T:List aJ)(V:List ae)
 (E:List aF) (M:List aC):Prop where
 cf:cR c=true
 ti0:0<=ti
 nn0:0<=nn
 nw:0<=O/\O<=99899
 sto:zP k c st
 sub:xP c Z U V
 dee:rI k ti M
 tl:E.length=5
 tas:Ut k c.1 st nn E M
 loc:rJ k st E gr
 grp:tQ c O A nn T (E.getD 4 ak.aa)
def Nv{l:List ae}{a:ae}:a∈dE l↔a∈l:=by
 unfold dE;exact(rT dG l).mem_iff
def Vw{α:Type}{l:List α}{d:α}{p:α->Bool}:(!bA 0 l.length (fun i=> !p (l.getD i d)))=true↔∃x∈l,p x=true:=by
 rw[aJV,<-aKn,dK (p:=fun x=> !p x)];simp
def RJ{c:bh}{ti O gr nn:Int}{st:List ar}{Z:List bg}{U V:List ae}{A:List au}{T:List aJ}{n_:List br}{E:List aF}{M:List aC}:
 dB (c,ti,O,st,Z,U,gr,A,nn,T,n_,V,E,M)=true↔tQ c O A nn T (E.getD 4 ak.aa):=by
 unfold dB o9 pd;simp only[y_]
 rw[jH,y_,dK (l:=T) (d:=aD.aa) (p:=fun x=>decide (x.2<nn)),
  dK (l:=A) (d:=aj.aa) (p:=fun g=>(decide (g.2.2.1<=O)&&(decide (g.2.2.2.1<=O)&&decide (g.1<nn)))&&eu (c,ti,O,st,Z,U,gr,A,nn,T,n_,V,E,M) g T.length)]
 have b:∀g:au,eu (c,ti,O,st,Z,U,gr,A,nn,T,n_,V,E,M) g T.length=true↔((∃x∈T,x.2=g.1/\x.1=iq c g)\/((E.getD 4 ak.aa).1=6/\(E.getD 4 ak.aa).2.2.2.2.2.2.2.1=g.1)):=by
  intro g;unfold eu Em;rw[aJK];refine or_congr ?_ ?_;refine(Vw (l:=T) (d:=aD.aa) (p:=fun x=>decide (x.2=g.1)&&decide (x.1=iq c g))).trans ?_;simp only[y_,b_];dsimp only;split;rename_i h;simp only[b_]at h|-;exact⟨fun a=>⟨h,a⟩,fun a=>a.2⟩;rename_i h;simp only[b_]at h|-;exact⟨fun a=>(by cases a),fun a=>absurd a.1 h⟩
 constructor;rintro⟨a,q,⟨r,e⟩,s⟩;refine⟨a,q,fun x f=>e_ (r x f),?_,fun g m=> ?_⟩;rw[<-kI (d:=aD.aa)];intro i n j o;have:=ck.1 (ck.1 e i (by omega) n) j (by omega) o;simpa using this;have:=s g m;simp only[y_,b_,b]at this;exact⟨this.1.1,this.1.2.1,this.1.2.2,this.2⟩;rintro⟨a,q,r,e,s⟩;refine⟨a,q,⟨fun x f=>c_ (r x f),?_⟩,fun g m=> ?_⟩;rw[<-kI (d:=aD.aa)]at e;refine ck.2 fun i _ n=>ck.2 fun j _ o=> ?_;simpa using e i n j o;have:=s g m;simp only[y_,b_,b];exact⟨⟨this.1,this.2.1,this.2.2.1⟩,this.2.2.2⟩
def KJ{k:Nat}{c:bh}{ti O gr nn:Int}{st:List ar}{Z:List bg}{U V:List ae}{A:List au}{T:List aJ}{n_:List br}{E:List aF}{M:List aC}(g:E.length=5):
 gN k (c,ti,O,st,Z,U,gr,A,nn,T,n_,V,E,M)=true↔rJ k st E gr:=by
 unfold gN bQ dS;simp only[y_,ck,beq_iff_eq,g,bc,b_,decide_eq_decide];constructor;rintro⟨d,e,f⟩;exact⟨fun q b j a=>d q (by omega) b j (by omega) a,fun j a=>by have:=e j (by omega) a;rw[this];simp,f⟩;rintro⟨d,e,f⟩;refine⟨fun q _ b j _ a=>d q b j a,fun j _ a=> ?_,f⟩;rw[Bool.eq_iff_iff,e j a];simp
def bR{k:Nat}{c:bh}{ti O gr nn:Int}{st:List ar}{Z:List bg}{U V:List ae}{A:List au}{T:List aJ}{n_:List br}{E:List aF}{M:List aC}:
 bC k (c,ti,O,st,Z,U,gr,A,nn,T,n_,V,E,M)=true↔Rt k c ti O st Z U gr A nn T V E M:=by
 unfold bC e9 kz fi bB pE;simp only[y_,b_,RJ]
 rw[dK (d:=ab.aa) (p:=cw),dK (d:=ab.aa) (p:=bj),dK (d:=ab.aa) (p:=bj),dK (d:=aU.aa) (p:=eL),
  dK (l:=M) (d:=aw.aa) (p:=fun d=>kN k (c,ti,O,st,Z,U,gr,A,nn,T,n_,V,E,M) d)]
 have r:bc O 0 99899=true↔0<=O/\O<=99899:=by unfold bc;simp
 have s:(∀d∈M,kN k (c,ti,O,st,Z,U,gr,A,nn,T,n_,V,E,M) d=true)↔rI k ti M:=by
  unfold rI kN;simp only[y_,b_]
 have u:(∀a∈dE (bU st),cw a=true)↔∀a∈bU st,cw a=true:=by
  constructor;intro h a e;exact h a (Nv.2 e);intro h a e;exact h a (Nv.1 e)
 have q:∀b:E.length=5,bA 0 E.length (fun i=>cJ k (c,ti,O,st,Z,U,gr,A,nn,T,n_,V,E,M) (E.getD i ak.aa) (jO (c,ti,O,st,Z,U,gr,A,nn,T,n_,V,E,M) (E.getD i ak.aa)) i)=true↔Ut k c.1 st nn E M:=by
  intro b;rw[ck,b];exact⟨fun h i f=>h i (by omega) f,fun h i _ f=>h i f⟩
 rw[r,s,u];constructor;rintro⟨g,j,m,n,⟨o,h6,h7,h8⟩,h9,nX,xe,mE,vq,FJ,Kv,St,RO⟩;have b:E.length=5:=by omega
 exact⟨g,j,m,n,⟨o,h6,h7,h8⟩,⟨h9,vq,xe,mE⟩,FJ,b,(q b).1 Kv,(KJ b).1 St,RO⟩;rintro⟨g,j,m,n,⟨o,h6,h7,h8⟩,⟨h9,vq,xe,mE⟩,FJ,b,Kv,St,RO⟩;exact⟨g,j,m,n,⟨o,h6,h7,h8⟩,h9,by show(E.length:Int)=5;omega,xe,mE,vq,FJ,(q b).2 Kv,(KJ b).2 St,RO⟩
structure fO(i:Nat)(st st':List ar):Prop where
 len:st'.length=st.length
 pt:∀p,p<st.length->(st'.getD p ah.aa).2=(st.getD p ah.aa).2\/((st.getD p ah.aa).1=(i:Int)/\(st.getD p ah.aa).2.1<(st'.getD p ah.aa).2.1)
structure dV(i:Nat)(l l':List aC):Prop where
 len:l.length<=l'.length
 at_:∀n,n<l.length->¬(l.getD n aw.aa).2.1=(i:Int)->l'.getD n aw.aa=l.getD n aw.aa
def tB{st:List ar}{t:aF}:dm st t=true↔(∀i,i<t.2.2.2.2.2.1.length->t.2.2.2.2.2.1.getD i 0<=(st.getD i ah.aa).2.1)/\
 ((∀i,i<t.2.2.2.2.2.1.length->t.2.2.2.2.2.1.getD i 0=(st.getD i ah.aa).2.1)->(st.take t.2.2.2.2.2.1.length).flatMap aW=t.2.2.2.2.2.2.1):=by
 unfold dm xG;rw[y_,ck,aJK,aJV,<-aKn];unfold gC;rw[ck];simp only[aJV,d_,b_];refine and_congr ⟨fun h i a=>by have:=h i (by omega) a;omega,fun h i _ a=>by have:=h i a;omega⟩ ?_;constructor;rintro(h|h) g;exact absurd (fun i _ a=>g i a) h;exact h;intro h;by_cases g:∀i,i<t.2.2.2.2.2.1.length->t.2.2.2.2.2.1.getD i 0=(st.getD i ah.aa).2.1;exact .inr (h g);exact .inl fun b=>g fun i a=>b i (by omega) a
def IA{st a:List ar}{n:Nat}(e:a.length=st.length)(h:∀p,p<n->p<st.length->(a.getD p ah.aa).2=(st.getD p ah.aa).2):
 (a.take n).flatMap aW=(st.take n).flatMap aW:=by
 rw[aJ7,aJ7];congr 1;apply aKk (by simp[e]);intro p b d;simp only[List.length_map,aKl]at b d;have:=h p (by omega) (by omega);rw[cx _ (by omega),cx _ (by omega)]at this;simp only[List.getElem_map,aJ4];unfold aW;rw[this]
def Aq{i:Nat}{st d:List ar}{t:aF}(hs:fO i st d)(hl:t.2.2.2.2.2.1.length<=st.length)(h:dm st t=true):dm d t=true:=by
 rw[tB]at h|-
 have f:∀p,p<st.length->(st.getD p ah.aa).2.1<=(d.getD p ah.aa).2.1:=by
  intro p a;rcases hs.pt p a with e|e;rw[e];exact aJP _;omega
 refine⟨fun p a=>Int.le_trans (h.1 p a) (f p (by omega)),fun g=> ?_⟩
 have b:∀p,p<t.2.2.2.2.2.1.length->(d.getD p ah.aa).2=(st.getD p ah.aa).2:=by
  intro p a;rcases hs.pt p (by omega)with e|e;exact e;have:=g p a;have:=h.1 p a;omega
 rw[IA hs.len (fun p a _=>b p a)];exact h.2 fun p a=>by rw[g p a,b p a]
def CA{k:Nat}{c1 nn m b e n:Int}{st a:List ar}{t:aF}{d:aC}(h:cC k c1 st nn m t d n=true)(hm:m<=e)(hn:nn<=b)
 (hput:t.1=1->t.2.1=2->bL k a t.2.2.1.1=bL k st t.2.2.1.1) (hsee:t.1=3->dm st t=true->dm a t=true):cC k c1 a b e t d n=true:=by
 unfold cC sg at*
 grind
def PL{k:Nat}{c1 nn m n:Int}{st:List ar}{t:aF}{d:aC}(h:cC k c1 st nn m t d n=true)(hc:(st.length:Int)=c1)(h3:t.1=3):t.2.2.2.2.2.1.length<=st.length:=by
 unfold cC sg cV bc at h;grind
def uk{k:Nat}{c1 nn m n:Int}{st:List ar}{t:aF}{d:aC}(h:cC k c1 st nn m t d n=true)(h0:¬t.1=0):d.2.1=n/\0<=bf t/\bf t<m:=by
 unfold cC cV bc at h;unfold bf;grind
def EO{k:Nat}{c1 nn m n a e:Int}{st b:List ar}{t:aF}{d d':aC}(h:cC k c1 st nn m t d n=true)(h0:t.1=0):cC k c1 b a e t d' n=true:=by
 unfold cC at*
 grind
def TR{k:Nat}{c1 nn d gr:Int}{st f:List ar}{E:List aF}{M a:List aC}{i:Nat}{t':aF}(hi:i<5)(tl:E.length=5)(hc:(st.length:Int)=c1)(v:st.length≠0)
 (w:rJ k st E gr) (h:Ut k c1 st nn E M) (hs:fO i st f) (x:nn<=d) (l:dV i M a)
 (y:cC k c1 f d (a.length:Int) t' (a.getD (bf t').toNat aw.aa) (i:Int)=true):Ut k c1 f d (E.set i t') a:=by
 intro j g;by_cases e:i=j;subst e;rw[aT _ _ (by omega)];exact y;rw[getD_set_ne _ _ e];have b:=h j g;by_cases m:(E.getD j ak.aa).1=0;exact EO b m;obtain⟨z,b2,b3⟩:=uk b m;rw[l.at_ _ (by omega) (by rw[z];omega)];refine CA b (by have:=l.len;omega) x (fun p q=> ?_) (fun r u=>Aq hs (PL b hc r) u);refine MR hs.len ?_;obtain⟨n,B⟩:=gY (k:=k) (s:=(E.getD j ak.aa).2.2.1.1) v
 have hold:bn k (E.getD j ak.aa) st.length=((bz k st (E.getD j ak.aa).2.2.1.1).toNat:Int):=by
  unfold bn;rw[a_ (by omega),an ⟨p,.inr q⟩,B];rfl
 have hh:=(w.pt _ n j g).1 hold;rcases hs.pt _ n with o|o;rw[o];omega
def wz{k:Nat}{gr l:Int}{st f:List ar}{E:List aF}{i:Nat}{t t':aF}(s:i<5)(tl:E.length=5)(m:rJ k st E gr)(v:E.getD i ak.aa=t)(w:f.length=st.length)
 (x:∀q,q<st.length->(f.getD q ah.aa).1=if bn k t' st.length=(q:Int)then(i:Int)else if bn k t st.length=(q:Int)then-1 else(st.getD q ah.aa).1)
 (y:∀q,q<st.length->bn k t' st.length=(q:Int)->bn k t st.length=(q:Int)\/(st.getD q ah.aa).1= -1)
 (o:l=if cA t'=true then(i:Int)else if cA t=true then-1 else gr) (p:cA t'=true->cA t=true\/gr= -1):rJ k f (E.set i t') l:=by
 subst v;refine⟨fun q g j n=> ?_,fun j n=> ?_,?_⟩;rw[w]at g|-;have r:=m.pt q g j n;have d:=m.pt q g i s;have u:=x q g;have z:=y q g;by_cases e:i=j;subst e;rw[aT _ _ (by omega),u];by_cases b:bn k t' st.length=(q:Int)
 simp[b];rw[a_ b];by_cases a:bn k (E.getD i ak.aa) st.length=(q:Int)
 rw[an a];constructor;intro h;exact absurd h b;intro h;omega;rw[a_ a];constructor;intro h;exact absurd h b;intro h;exact absurd (d.2 h) a;rw[getD_set_ne _ _ e,u,r];by_cases b:bn k t' st.length=(q:Int)
 rw[an b];rcases z b with a|a;have:=d.1 a;omega;omega;rw[a_ b];by_cases a:bn k (E.getD i ak.aa) st.length=(q:Int)
 rw[an a];have:=d.1 a;omega;rw[a_ a];have r:=m.gp j n;have d:=m.gp i s;by_cases e:i=j;subst e;rw[aT _ _ (by omega),o];by_cases b:cA t'=true;simp[b];rw[a_ b];by_cases a:cA (E.getD i ak.aa)=true;rw[an a];constructor;intro h;exact absurd h b;intro h;omega;rw[a_ a];constructor;intro h;exact absurd h b;intro h;exact absurd (d.2 h) a;rw[getD_set_ne _ _ e,o,r];by_cases b:cA t'=true;rw[an b];rcases p b with a|a;have:=d.1 a;omega;omega;rw[a_ b];by_cases a:cA (E.getD i ak.aa)=true;rw[an a];have:=d.1 a;omega;rw[a_ a];have:=m.gr;rw[o];split;omega;split<;>omega
/-! M-/
theorem rI.up{k:Nat}{ti a:Int}{l:List aC}(h:rI k ti l)(ht:ti<=a):rI k a l:=fun d b=>by
 have:=h d b;exact⟨this.1,by omega,by omega,by omega⟩
theorem rI.app{k:Nat}{ti:Int}{l:List aC}{d:aC}(h:rI k ti l)(b:er k d=true/\d.2.2.2.2.2.2.2.2.2.1<ti/\d.2.2.2.2.2.2.2.2.2.2.1<ti/\d.2.2.2.2.2.2.2.2.2.2.2<ti):rI k ti (l++[d]):=fun x a=>by
 rcases aJN.1 a with a|a;exact h x a;rw[aJL.1 a];exact b
theorem rI.put{k:Nat}{ti:Int}{l:List aC}{d:aC}{n:Nat}(h:rI k ti l)(b:er k d=true/\d.2.2.2.2.2.2.2.2.2.1<ti/\d.2.2.2.2.2.2.2.2.2.2.1<ti/\d.2.2.2.2.2.2.2.2.2.2.2<ti):rI k ti (l.set n d):=fun x a=>by
 rcases aJQ a with a|rfl;exact h x a;exact b
theorem dV.refl(i:Nat)(l:List aC):dV i l l:=⟨aJZ _,fun _ _ _=>rfl⟩
theorem dV.app(i:Nat)(l:List aC)(d:aC):dV i l (l++[d]):=⟨by simp,fun n a _=>by
 rw[aJG,aJ1 a,<-aJG]⟩
theorem dV.put{i:Nat}{l:List aC}{n:Nat}{d:aC}(h:(l.getD n aw.aa).2.1=(i:Int)):dV i l (l.set n d):=⟨by simp,fun m hm a=>by
 by_cases e:n=m;subst e;exact absurd h a;rw[getD_set_ne _ _ e]⟩
theorem dV.trans{i:Nat}{l o b:List aC}(h:dV i l o)(p:dV i o b):dV i l b:=⟨Nat.le_trans h.len p.len,fun n e a=>by
 rw[<-h.at_ n e a];exact p.at_ n (Nat.lt_of_lt_of_le e h.len) (by rw[h.at_ n e a];exact a)⟩
theorem fO.refl(i:Nat)(st:List ar):fO i st st:=⟨rfl,fun _ _=> .inl rfl⟩
theorem fO.held(i:Nat)(st:List ar)(j:Nat)(x:Int):fO i st (bT st j x):=by
 refine⟨by simp[bT],fun p a=> .inl ?_⟩;unfold bT;by_cases e:j=p;subst e;rw[aT _ _ a];rw[getD_set_ne _ _ e]
def oW{k:Nat}{c1 nn m:Int}{st:List ar}{d:aC}{i:Nat}(hi:i<5):cC k c1 st nn m zT d (i:Int)=true:=by
 unfold cC cV bc;have a:decide ((0:Int)<=(i:Int))=true:=c_ (by omega);have b:decide ((i:Int)<=4)=true:=c_ (by omega);simp[a,b,zT]
def zI{k:Nat}{op i n O ti:Int}{a:ae}{l:List ai}(ho:1<=op/\op<=9)(hi: -1<=i/\i<=4)(hn:0<=n)(hw:0<=O)(ht:0<=ti):
 er k (op,i,a,l,0,n,0,[],O,ti,-1,-1)=true:=by
 unfold er bc;simp;omega
def sq{k:Nat}{s x:Bool}{d:aC}{O ti code:Int}{got:List ae}(h:er k d=true)(hw:0<=O)(h1:d.2.2.2.2.2.2.2.2.2.1<ti)(h2:d.2.2.2.2.2.2.2.2.2.2.1<ti)(ht:0<=ti)(hc:code∈eN d.1):
 er k (dA s x d O ti code got)=true/\(dA s x d O ti code got).2.2.2.2.2.2.2.2.2.1<ti+1/\(dA s x d O ti code got).2.2.2.2.2.2.2.2.2.2.1<ti+1/\(dA s x d O ti code got).2.2.2.2.2.2.2.2.2.2.2<ti+1:=by
 obtain⟨op,task,a,l,i,n,cd,gt,nw,inv,b,res⟩:=d;unfold dA ot Lj nT xQ lP cW;unfold er bc at*
 simp only[y_,aJK,b_]at*
 by_cases e:b= -1;subst e;cases s<;>cases x<;>simp[hc]<;>omega;cases s<;>cases x<;>simp[e]at h|-<;>(refine⟨⟨?_,h.2⟩,?_,?_⟩<;>omega)
def qq{ti:Int}(h0:0<=ti)(h:ti<4611686018427387904):tick ti=ti+1:=by
 unfold tick;rw[wrap64 (by omega) (by omega)]
def dx{k:Nat}{t:aF}{n:Int}(h:t.2.1=0\/t.1=0\/5<=t.1\/(t.1=3/\t.2.1=2)):bn k t n= -1:=by
 unfold bn;grind
def pW{k:Nat}{t:aF}{st:List ar}(a:st.length≠0)(h:t.1=1)(b:t.2.1=1\/t.2.1=2):bn k t st.length=((bz k st t.2.2.1.1).toNat:Int):=by
 rw[(gY a).2];unfold bn;rw[a_ (by omega),an ⟨h,b⟩];rfl
def xU{k:Nat}{t:aF}{st:List ar}(a:st.length≠0)(h:t.1=2)(b:t.2.1=1):bn k t st.length=((bz k st t.2.2.2.1).toNat:Int):=by
 rw[(gY a).2];unfold bn;rw[a_ (by omega),a_ (by omega),an ⟨h,b⟩];rfl
def xI{k:Nat}{t:aF}{st:List ar}(h0:st.length≠0)(h:t.1=3\/t.1=4)(a:t.2.1=1):bn k t st.length=t.2.2.2.2.1:=by
 unfold bn;rw[a_ (by omega),a_ (by omega),a_ (by omega),an ⟨h,a⟩]
def eX{t:aF}(h:t.1<5\/t.2.1=0):cA t=false:=by
 unfold cA;have:¬((t.1=5\/t.1=6)/\t.2.1=1):=by omega
 simpa using this
def gF{k:Nat}{c1 nn m n:Int}{st:List ar}{t:aF}{d:aC}(a:t.1=1):cC k c1 st nn m t d n=true↔
 (0<=n/\n<3/\0<=t.2.2.2.2.2.2.2.2/\0<=t.2.1/\t.2.1<=2/\bj t.2.2.1=true/\t.2.2.2.1=[]/\t.2.2.2.2.1=0/\t.2.2.2.2.2.1=[]/\t.2.2.2.2.2.2.1=[]/\t.2.2.2.2.2.2.2.1=0)/\
 t.2.2.2.2.2.2.2.2<m/\d.2.1=n/\d.2.2.2.2.2.2.2.2.2.2.2= -1/\(¬d.2.2.2.2.2.2.2.2.2.2.1= -1↔t.2.1=2)/\d.1=1/\
 (if t.2.1=2 then d.2.2.1.1=t.2.2.1.1/\(bL k st t.2.2.1.1).2=true/\(bL k st t.2.2.1.1).1=t.2.2.1 else d.2.2.1=t.2.2.1/\cw t.2.2.1=true):=by
 unfold cC sg cV bc ow;by_cases b:t.2.1=2;simp only[a,b,if_true,y_,aJK,b_];grind;simp only[a,b,if_true,if_false,y_,aJK,b_];grind
def pf{k:Nat}{c1 nn m n:Int}{st:List ar}{t:aF}{d:aC}(a:t.1=2):cC k c1 st nn m t d n=true↔
 (0<=n/\n<3/\0<=t.2.2.2.2.2.2.2.2/\0<=t.2.1/\t.2.1<=1/\t.2.2.1=cF/\dt t.2.2.2.1=true/\t.2.2.2.2.1=0/\t.2.2.2.2.2.1=[]/\t.2.2.2.2.2.2.1=[]/\t.2.2.2.2.2.2.2.1=0)/\
 t.2.2.2.2.2.2.2.2<m/\d.2.1=n/\d.2.2.2.2.2.2.2.2.2.2.2= -1/\d.2.2.2.2.2.2.2.2.2.2.1= -1/\d.1=3/\d.2.2.2.1=t.2.2.2.1:=by
 unfold cC sg cV bc ow;simp only[a,if_true,if_false,y_,aJK,b_];grind
def gl{k:Nat}{c1 nn m n:Int}{st:List ar}{t:aF}{d:aC}(a:t.1=3):cC k c1 st nn m t d n=true↔
 (0<=n/\n<3/\0<=t.2.2.2.2.2.2.2.2/\0<=t.2.1/\t.2.1<=2/\t.2.2.1=cF/\t.2.2.2.1=[]/\jv t.2.2.2.2.2.1=true/\(t.2.2.2.2.2.1.length:Int)=t.2.2.2.2.1/\bB t.2.2.2.2.2.2.1=true/\t.2.2.2.2.2.2.2.1=0)/\
 t.2.2.2.2.2.2.2.2<m/\d.2.1=n/\d.2.2.2.2.2.2.2.2.2.2.2= -1/\d.2.2.2.2.2.2.2.2.2.2.1= -1/\d.1=4/\dm st t=true/\
 (if t.2.1=2 then 1<=t.2.2.2.2.1/\t.2.2.2.2.1<=3/\t.2.2.2.2.1=c1 else 0<=t.2.2.2.2.1/\t.2.2.2.2.1<=2/\t.2.2.2.2.1<c1):=by
 unfold cC sg cV bc ow;by_cases b:t.2.1=2;simp only[a,b,if_true,if_false,y_,aJK,b_];grind;simp only[a,b,if_true,if_false,y_,aJK,b_];grind
def gD{k:Nat}{c1 nn m n:Int}{st:List ar}{t:aF}{d:aC}(a:t.1=4):cC k c1 st nn m t d n=true↔
 (0<=n/\n<3/\0<=t.2.2.2.2.2.2.2.2/\0<=t.2.1/\t.2.1<=1/\t.2.2.1=cF/\t.2.2.2.1=[]/\0<=t.2.2.2.2.1/\t.2.2.2.2.1<=2/\t.2.2.2.2.2.1=[]/\t.2.2.2.2.2.2.1=[]/\t.2.2.2.2.2.2.2.1=0)/\
 t.2.2.2.2.2.2.2.2<m/\d.2.1=n/\d.2.2.2.2.2.2.2.2.2.2.2= -1/\d.2.2.2.2.2.2.2.2.2.2.1= -1/\d.1=6/\t.2.2.2.2.1<c1:=by
 unfold cC sg cV bc ow;simp only[a,if_true,if_false,y_,aJK,b_];grind
def iM{k:Nat}{c1 nn m n:Int}{st:List ar}{t:aF}{d:aC}(a:t.1=5):cC k c1 st nn m t d n=true↔
 (n=3/\0<=t.2.2.2.2.2.2.2.2/\0<=t.2.1/\t.2.1<=1/\bj t.2.2.1=true/\t.2.2.2.1=[]/\t.2.2.2.2.1=0/\t.2.2.2.2.2.1=[]/\t.2.2.2.2.2.2.1=[]/\t.2.2.2.2.2.2.2.1=0)/\
 t.2.2.2.2.2.2.2.2<m/\d.2.1=n/\d.2.2.2.2.2.2.2.2.2.2.2= -1/\d.2.2.2.2.2.2.2.2.2.2.1= -1/\d.1=7/\d.2.2.1=t.2.2.1:=by
 unfold cC sg cV bc ow;simp only[a,if_true,if_false,y_,aJK,b_];grind
def gj{k:Nat}{c1 nn m n:Int}{st:List ar}{t:aF}{d:aC}(a:t.1=6):cC k c1 st nn m t d n=true↔
 (n=4/\0<=t.2.2.2.2.2.2.2.2/\0<=t.2.1/\t.2.1<=1/\t.2.2.1=cF/\t.2.2.2.1=[]/\t.2.2.2.2.1=0/\t.2.2.2.2.2.1=[]/\t.2.2.2.2.2.2.1=[]/\0<=t.2.2.2.2.2.2.2.1)/\
 t.2.2.2.2.2.2.2.2<m/\d.2.1=n/\d.2.2.2.2.2.2.2.2.2.2.2= -1/\d.2.2.2.2.2.2.2.2.2.2.1= -1/\d.1=8/\d.2.2.2.2.2.1=t.2.2.2.2.2.2.2.1/\t.2.2.2.2.2.2.2.1<nn:=by
 unfold cC sg cV bc ow;simp only[a,if_true,if_false,y_,aJK,b_];grind
section
variable{k:Nat}{c:bh}{ti O gr nn:Int}{st:List ar}{Z:List bg}{U V:List ae}{A:List au}{T:List aJ}{n_:List br}{E:List aF}{M:List aC}{i:Nat}{t:aF}
def Va{j:Nat}{t':aF}(d:i<5)(f:E.length=5)(g:rJ k st E gr)(l:E.getD i ak.aa=t)(h0:bn k t st.length= -1)(m:bn k t' st.length=(j:Int))(hj:j<st.length)
 (n:(st.getD j ah.aa).1= -1) (o:cA t=false) (b:cA t'=false):rJ k (bT st j (i:Int)) (E.set i t') gr:=by
 refine wz d f g l (by simp[bT]) (fun q a=> ?_) (fun q a hh=> ?_) (by rw[o,b];rfl) (by rw[b];intro h;cases h);unfold bT;by_cases e:j=q;subst e;rw[aT _ _ a,an m];rw[getD_set_ne _ _ e,a_ (by omega),a_ (by omega)];have:j=q:=by omega
 subst this;exact .inr n
def xh{j:Nat}{t':aF}{a:List ar}(g:i<5)(l:E.length=5)(m:rJ k st E gr)(n:E.getD i ak.aa=t)(o:bn k t st.length=(j:Int))(h1:bn k t' st.length= -1)(p:a.length=st.length)
 (r:(a.getD j ah.aa).1= -1) (d:∀q,q<st.length->¬j=q->(a.getD q ah.aa).1=(st.getD q ah.aa).1) (s:cA t=false) (f:cA t'=false):rJ k a (E.set i t') gr:=by
 refine wz g l m n p (fun q b=> ?_) (fun q d hh=>by omega) (by rw[s,f];rfl) (by rw[f];intro h;cases h);rw[a_ (by omega)];by_cases e:j=q;subst e;rw[an o,r];rw[a_ (by omega),d q b e]
def vE{t':aF}{a:List ar}(d:i<5)(n:E.length=5)(f:rJ k st E gr)(o:E.getD i ak.aa=t)(j:bn k t' st.length=bn k t st.length)(p:a.length=st.length)
 (g:∀q,q<st.length->(a.getD q ah.aa).1=(st.getD q ah.aa).1) (l:cA t'=cA t):rJ k a (E.set i t') gr:=by
 subst o;refine wz d n f rfl p (fun q b=> ?_) (fun q g m=> .inl (by rw[<-j];exact m)) ?_ (fun h=> .inl (by rw[<-l];exact h));rw[j,g q b];by_cases e:bn k (E.getD i ak.aa) st.length=(q:Int)
 rw[an e,(f.pt q b i d).1 e];rw[a_ e,a_ e];rw[l];by_cases e:cA (E.getD i ak.aa)=true;rw[an e,(f.gp i d).1 e];rw[a_ e,a_ e]
def TJ{t':aF}(b:i<5)(d:E.length=5)(e:rJ k st E gr)(f:E.getD i ak.aa=t)(h0:bn k t st.length= -1)(h1:bn k t' st.length= -1)
 (g:gr= -1) (h:cA t'=true):rJ k st (E.set i t') (i:Int):=by
 refine wz b d e f rfl (fun q a=> ?_) (fun q a hh=>by omega) (by rw[h];rfl) (fun _=> .inr g);rw[a_ (by omega),a_ (by omega)]
def Oj{t':aF}(d:i<5)(e:E.length=5)(f:rJ k st E gr)(g:E.getD i ak.aa=t)(h0:bn k t st.length= -1)(h1:bn k t' st.length= -1)
 (j:cA t=true) (a:cA t'=false):rJ k st (E.set i t') (-1):=by
 refine wz d e f g rfl (fun q b=> ?_) (fun q b hh=>by omega) (by rw[j,a];rfl) (by rw[a];intro h;cases h);rw[a_ (by omega),a_ (by omega)]
def Bg{j:Nat}{x:Int}(a:j<st.length):((bT st j x).getD j ah.aa).1=x:=by
 unfold bT;rw[aT _ _ a]
def vm{j q:Nat}{x:Int}(h:¬j=q):((bT st j x).getD q ah.aa).1=(st.getD q ah.aa).1:=by
 unfold bT;rw[getD_set_ne _ _ h]
theorem zP.held{j:Nat}{x:Int}(h:zP k c st)(a:j<st.length)(b: -1<=x/\x<=4):zP k c (bT st j x):=
 ⟨VN h.ok a b,by rw[<-h.len];simp[bT],by unfold bq;rw[Cc];exact h.cap,by rw[Cc];exact h.fit⟩
def gM{t':aF}{d:List ar}{f:List bg}{g j:List ae}{n m:Int}{b:List au}{l:List aJ}{a:List aC}
 (h:Rt k c ti O st Z U gr A nn T V E M) (v:ti<4611686018427387904) (x:i<5) (o:zP k c d) (p:xP c f g j) (q:rI k (ti+1) a) (hrel:fO i st d)
 (r:dV i M a) (w:nn<=m) (y:cC k c.1 d m (a.length:Int) t' (a.getD (bf t').toNat aw.aa) (i:Int)=true) (s:rJ k d (E.set i t') n)
 (u:tQ c O b m l ((E.set i t').getD 4 ak.aa)):Rt k c (tick ti) O d f g n b m l j (E.set i t') a:=by
 have z:=fT h.sto.ok;have e:=qq h.ti0 v
 exact⟨h.cf,by have:=h.ti0;omega,by have:=h.nn0;omega,h.nw,o,p,by rw[e];exact q,by simp[h.tl],
  TR x h.tl h.sto.len z h.loc h.tas hrel w r y,s,u⟩
theorem tQ.other{t':aF}(h:tQ c O A nn T (E.getD 4 ak.aa))(a:¬i=4):tQ c O A nn T ((E.set i t').getD 4 ak.aa):=by
 rw[getD_set_ne _ _ a];exact h
def P7{c1 m n:Int}{st a:List ar}{t:aF}{d:aC}(h:cC k c1 st nn m t d n=true)(b:t.2.1=0)(ho:1<=t.1/\t.1<=4)(hs:t.1=3->dm st t=true->dm a t=true):
 cC k c1 a nn m (t.1,1,t.2.2) d n=true:=by
 obtain h1|h1|h1|h1:t.1=1\/t.1=2\/t.1=3\/t.1=4:=by omega
 have q:=(gF h1).1 h;rw[a_ (by omega)]at q;refine(gF (t:=(t.1,1,t.2.2)) h1).2 ?_;rw[a_ (by show¬(1:Int)=2;omega)];exact⟨⟨q.1.1,q.1.2.1,q.1.2.2.1,(show(0:Int)<=1 by decide),(show(1:Int)<=2 by decide),q.1.2.2.2.2.2⟩,q.2.1,q.2.2.1,q.2.2.2.1,q.2.2.2.2.1.trans (by rw[b];exact(show((0:Int)=2↔(1:Int)=2) by decide)),q.2.2.2.2.2⟩;have q:=(pf h1).1 h;exact(pf (t:=(t.1,1,t.2.2)) h1).2 ⟨⟨q.1.1,q.1.2.1,q.1.2.2.1,(show(0:Int)<=1 by decide),(show(1:Int)<=1 by decide),q.1.2.2.2.2.2⟩,q.2⟩;have q:=(gl h1).1 h;rw[a_ (by omega)]at q;refine(gl (t:=(t.1,1,t.2.2)) h1).2 ?_;rw[a_ (by show¬(1:Int)=2;omega)];exact⟨⟨q.1.1,q.1.2.1,q.1.2.2.1,(show(0:Int)<=1 by decide),(show(1:Int)<=2 by decide),q.1.2.2.2.2.2⟩,q.2.1,q.2.2.1,q.2.2.2.1,q.2.2.2.2.1,q.2.2.2.2.2.1,hs h1 q.2.2.2.2.2.2.1,q.2.2.2.2.2.2.2⟩;have q:=(gD h1).1 h;exact(gD (t:=(t.1,1,t.2.2)) h1).2 ⟨⟨q.1.1,q.1.2.1,q.1.2.2.1,(show(0:Int)<=1 by decide),(show(1:Int)<=1 by decide),q.1.2.2.2.2.2⟩,q.2⟩
def Bq{j:Nat}(h:Rt k c ti O st Z U gr A nn T V E M)(a:ti<4611686018427387904)(hi:i<3)(e:E.getD i ak.aa=t)(m:1<=t.1/\t.1<=4)(b:t.2.1=0)
 (n:bn k (t.1,1,t.2.2) st.length=(j:Int)) (f:j<st.length) (o:(st.getD j ah.aa).1= -1):
 Rt k c (tick ti) O (bT st j (i:Int)) Z U gr A nn T V (E.set i (t.1,1,t.2.2)) M:=by
 have d:=h.tas i (by omega);rw[e]at d;have p:=PL d h.sto.len
 exact gM h a (by omega) (h.sto.held f (by omega)) h.sub (h.dee.up (by omega)) (fO.held i st j i) (dV.refl i M) (aJP _)
  (P7 d b m fun g l=>Aq (fO.held i st j i) (p g) l)
  (Va (by omega) h.tl h.loc e (dx (.inl b)) n f o (eX (.inr b)) (eX (.inl (by show t.1<5;omega)))) (h.grp.other (by omega))
theorem dH(h:Rt k c ti O st Z U gr A nn T V E M)(f:i<5)(g:E.getD i ak.aa=t)(j:¬t.1=0):
 cC k c.1 st nn (M.length:Int) t (M.getD (bf t).toNat aw.aa) (i:Int)=true/\(bf t).toNat<M.length/\(M.getD (bf t).toNat aw.aa).2.1=(i:Int)/\
 er k (M.getD (bf t).toNat aw.aa)=true/\(M.getD (bf t).toNat aw.aa).2.2.2.2.2.2.2.2.2.1<ti/\(M.getD (bf t).toNat aw.aa).2.2.2.2.2.2.2.2.2.2.1<ti:=by
 have a:=h.tas i f;rw[g]at a;obtain⟨l,b2,b3⟩:=uk a j;have e:(bf t).toNat<M.length:=by omega
 have b:=h.dee _ (bK (d:=aw.aa) e);exact⟨a,e,l,b.1,b.2.1,b.2.2.1⟩
theorem NN{s x:Bool}{j:Nat}{code:Int}{got:List ae}(h:Rt k c ti O st Z U gr A nn T V E M)(a:ti<4611686018427387904)(hi:i<3)(b:E.getD i ak.aa=t)(ho:1<=t.1/\t.1<=4)
 (f:bn k t st.length=(j:Int)) (d:j<st.length) (hc:code∈eN (M.getD (bf t).toNat aw.aa).1):
 Rt k c (tick ti) O (bT st j (-1)) Z U gr A nn T V (E.set i zT) (M.set (bf t).toNat (dA s x (M.getD (bf t).toNat aw.aa) O ti code got)):=by
 obtain⟨hr,hn,g,l,m,n⟩:=dH h (by omega) b (by omega)
 exact gM h a (by omega) (h.sto.held d (by omega)) h.sub ((h.dee.up (by omega)).put (sq l h.nw.1 m n h.ti0 hc)) (fO.held i st j (-1)) (dV.put g) (aJP _) (oW (by omega))
  (xh (by omega) h.tl h.loc b f (dx (.inl rfl)) (by simp[bT]) (Bg d) (fun q _ e=>vm e) (eX (.inl (by omega))) (eX (.inl (by decide)))) (h.grp.other (by omega))
end
def uH{k:Nat}{op i j n O ti code:Int}{a:ae}{l:List ai}{got:List ae}(ho:1<=op/\op<=9)(hi: -1<=i/\i<=4)(hj:0<=j)(hn:0<=n)(hw:0<=O)(ht:0<=ti)(hc:code∈eN op):
 er k (op,i,a,l,j,n,code,got,O,ti,ti,ti)=true:=by
 unfold er bc;have b:¬ti= -1:=by omega
 simp[b,hc];omega
def Vr{a:ae}{s:bg}(e:bj a=true)(hs:eL s=true):eL (mC a s)=true:=by
 unfold mC;split;exact hs;rename_i h;split;unfold eL bB;simp[lX];unfold eL bB at*
 have f:s.2=false:=by simpa using h
 simp only[y_,b_,f,aJ8,Bool.true_or,true_and]at hs|-;rw[dK (d:=ab.aa) (p:=bj)]at hs|-;refine⟨by simp;omega,fun x b=> ?_⟩;rcases aJN.1 b with b|b;exact hs.2 x b;rw[aJL.1 b];exact e
section
variable{k:Nat}{c:bh}{ti O gr nn:Int}{st:List ar}{Z:List bg}{U V:List ae}{A:List au}{T:List aJ}{n_:List br}{E:List aF}{M:List aC}{i:Nat}{t:aF}
theorem xP.tell{a:ae}(h:xP c Z U V)(e:bj a=true):xP c (Z.map (mC a)) (U++[a]) (V++[a]):=by
 refine⟨by simp[h.len],fun s l=> ?_,fun x b=> ?_,fun x b=> ?_⟩;obtain⟨o,p,rfl⟩:=List.mem_map.1 l;exact Vr e (h.sub o p);rcases aJN.1 b with b|b;exact h.fee x b;rw[aJL.1 b];exact e;rcases aJN.1 b with b|b;exact h.sai x b;rw[aJL.1 b];exact e
def VI{a:ae}{st:List ar}(h:dp k st=true)(l:∀p∈st,p.2.1<4611686018427387904)(m:(st.getD (bz k st a.1).toNat ah.aa).1=(i:Int)):
 fO i st (cZ k st a).1/\∀q,((cZ k st a).1.getD q ah.aa).1=(st.getD q ah.aa).1:=by
 have j:=fT h;obtain⟨g,h2⟩:=gY (k:=k) (s:=a.1) j;rw[sJ j];have hp:=(dM.1 ((cE.1 h).1 _ g)).2.2.2;have hvv:=l _ (bK (d:=ah.aa) g);have e:=sG k (st.getD (bz k st a.1).toNat ah.aa) a;refine⟨⟨by simp,fun p f=> ?_⟩,fun q=> ?_⟩;by_cases b:(bz k st a.1).toNat=p;subst b;refine .inr ⟨m,?_⟩;dsimp only;rw[aT _ _ f,e.1,wrap64 (by omega) (by omega)];omega;exact .inl (by dsimp only;rw[getD_set_ne _ _ b]);dsimp only;by_cases b:(bz k st a.1).toNat=q;subst b;rw[aT _ _ g,e.2];rw[getD_set_ne _ _ b]
theorem Sy(h:Rt k c ti O st Z U gr A nn T V E M)(n:ti<4611686018427387904)(I:∀p∈st,p.2.1<4611686018427387904)(hi:i<3)(o:E.getD i ak.aa=t)(m:t.1=1)(P:t.2.1=1)
 (r:rl k c st t.2.2.1=false):
 Rt k c (tick ti) O (cZ k st t.2.2.1).1 Z U gr A nn T V (E.set i (t.1,2,(bL k (cZ k st t.2.2.1).1 t.2.2.1.1).1,t.2.2.2))
  (M.set (bf t).toNat (nT (M.getD (bf t).toNat aw.aa) O ti (if(cZ k st t.2.2.1).2=true then 1 else 2))):=by
 obtain⟨S,W,X,f,hv1,hw⟩:=dH h (by omega) o (by omega);have J:=(gF m).1 S;rw[a_ (by omega)]at J;obtain⟨⟨q1,q2,q3,q4,q5,q6,Y,q8,q9,z,B⟩,C,D,j,F,l,G,H⟩:=J;have u:=fT h.sto.ok;obtain⟨g1,g2⟩:=gY (k:=k) (s:=t.2.2.1.1) u;have a:=pW (k:=k) u m (.inl P);have d:=(h.loc.pt _ g1 i (by omega)).1 (by rw[o];exact a);obtain⟨p1,K,p3,L,p5⟩:=Kk h.sto.ok H I;obtain⟨r1,r2⟩:=VI (i:=i) h.sto.ok I d;obtain⟨N,f2⟩:=zD L;have b:=p5 h.sto.fit
 have hlin:(M.getD (bf t).toNat aw.aa).2.2.2.2.2.2.2.2.2.2.1= -1:=by
  by_cases e:(M.getD (bf t).toNat aw.aa).2.2.2.2.2.2.2.2.2.2.1= -1;exact e;have:=F.1 e;omega
 have g:zP k c (cZ k st t.2.2.1).1:=by
  refine⟨p1,by rw[K];exact h.sto.len,?_,b⟩;have hc:=h.sto.cap;rw[p3,KK h.sto.ok];unfold rl at r;cases v:(bL k st t.2.2.1.1).2;rw[v]at r;have:¬c.2.1<=(bq st:Int):=by simpa using r
  simp;omega;simp[hc]
 refine gM h n (by omega) g h.sub ((h.dee.up (by omega)).put ?_) r1 (dV.put X) (aJP _) ?_ ?_ (h.grp.other (by omega));unfold nT;dsimp only;refine⟨?_,by omega,by omega,by omega⟩;have w:=h.nw;have x:=h.ti0;unfold er bc at f|-;simp only[y_,aJK,b_]at f|-
 have y:(if(cZ k st t.2.2.1).2=true then(1:Int)else 2)∈eN (M.getD (bf t).toNat aw.aa).1:=by
  rw[l];split<;>decide
 rw[a_ (by omega),b_];exact⟨⟨⟨⟨⟨⟨⟨⟨f.1.1.1.1.1.1.1.1,f.1.1.1.1.1.1.1.2⟩,f.1.1.1.1.1.1.2⟩,f.1.1.1.1.1.2⟩,f.1.1.1.1.2⟩,w.1⟩,.inr (by omega)⟩,.inl j⟩,y⟩;refine(gF (t:=(t.1,2,(bL k (cZ k st t.2.2.1).1 t.2.2.1.1).1,t.2.2.2)) m).2 ?_;have R:bf (t.1,(2:Int),(bL k (cZ k st t.2.2.1).1 t.2.2.1.1).1,t.2.2.2)=bf t:=rfl;rw[an rfl,R,aT _ _ W];dsimp only;unfold nT;dsimp only;rw[aJM,N];have x:=h.ti0;exact⟨⟨q1,q2,q3,by omega,by omega,fm (b _ f2),Y,q8,q9,z,B⟩,C,D,j,⟨fun _=>rfl,fun _=>by omega⟩,l,by rw[G],L,rfl⟩;refine vE (by omega) h.tl h.loc o ?_ K (fun q _=>r2 q) ?_;rw[a,pW (t:=(t.1,2,(bL k (cZ k st t.2.2.1).1 t.2.2.1.1).1,t.2.2.2)) u m (.inr rfl)];dsimp only;rw[N];rw[eX (.inl (by omega)),eX (.inl (by show t.1<5;omega))]
theorem VH(h:Rt k c ti O st Z U gr A nn T V E M)(f:ti<4611686018427387904)(hi:i<3)(n:E.getD i ak.aa=t)(o:t.1=1)(g:t.2.1=2):
 Rt k c (tick ti) O (bT st (bz k st t.2.2.1.1).toNat (-1)) (Z.map (mC t.2.2.1)) (U++[t.2.2.1]) gr A nn T (V++[t.2.2.1]) (E.set i zT)
  ((M++[eT (mO i t.2.2.1) O ti ti ti]).set (bf t).toNat (lP (M.getD (bf t).toNat aw.aa) ti)):=by
 obtain⟨v,w,x,d,hv1,hw⟩:=dH h (by omega) n (by omega);have p:=(gF o).1 v;rw[an g]at p;obtain⟨⟨q1,q2,q3,q4,q5,y,q7,q8,q9,q10,q11⟩,q12,q13,q14,m,q16,q17,q18,q19⟩:=p;have r:=fT h.sto.ok;obtain⟨u,g2⟩:=gY (k:=k) (s:=t.2.2.1.1) r;have a:=pW (k:=k) r o (.inr g);have b:=m.2 g;have j:=h.nw;have l:=h.ti0
 refine gM h f (by omega) (h.sto.held u (by omega)) (h.sub.tell y) ((rI.app (h.dee.up (by omega)) ?_).put ?_) (fO.held i st _ (-1)) ((dV.app i M _).trans (dV.put ?_)) (aJP _) (oW (by omega))
  (xh (by omega) h.tl h.loc n a (dx (.inl rfl)) (by simp[bT]) (Bg u) (fun q _ e=>vm e) (eX (.inl (by omega))) (eX (.inl (by decide)))) (h.grp.other (by omega))
 unfold eT mO;dsimp only;refine⟨?_,by omega,by omega,by omega⟩;exact uH ⟨by decide,by decide⟩ (by omega) (by decide) (by decide) j.1 l (by decide);unfold lP;dsimp only;refine⟨?_,by omega,by omega,by omega⟩;unfold er bc at d|-;simp only[y_,aJK,b_]at d|-;refine⟨⟨d.1.1,.inr ⟨by simpa using b,by omega⟩⟩,d.2⟩;rw[aJG,aJ1 w,<-aJG];exact x
def aY{b:bh}{a:Int}{r:Int×List ar×List bg×List ae×Int×List au×Int×List aJ×List br×List ae×List aF×List aC}:
 bH (true,b,a,r)=(true,b,tick a,r):=rfl
def Sp{s:Bool}(h:Rt k c ti O st Z U gr A nn T V E M)(a:ti<4611686018427387904)(q:∀p∈st,p.2.1<4611686018427387904)(f:i<3)(b:E.getD i ak.aa=t)(e:t.1=1):
 (fy s k (c,ti,O,st,Z,U,gr,A,nn,T,n_,V,E,M) i).1=true->bC k (fy s k (c,ti,O,st,Z,U,gr,A,nn,T,n_,V,E,M) i).2=true:=by
 have j:=fT h.sto.ok;obtain⟨o,g2⟩:=gY (k:=k) (s:=t.2.2.1.1) j;obtain⟨r,hn,hb,m,hv1,hw⟩:=dH h (by omega) b (by omega);have n:=(gF e).1 r;unfold fy qj;dsimp only;rw[b];by_cases l:t.2.1=0;rw[an l];unfold dZ;dsimp only;rw[b];by_cases d:(st.getD (bz k st t.2.2.1.1).toNat ah.aa).1= -1;rw[an d,aY];intro _;exact bR.2 (Bq h a f b (by omega) l (pW (t:=(t.1,1,t.2.2)) j e (.inl rfl)) o d);rw[a_ d];intro m;simp[bH]at m;rw[a_ l];by_cases g:t.2.1=1;rw[an g];by_cases d:rl k c st t.2.2.1=true;rw[an d,aY];intro _;exact bR.2 (NN h a f b (by omega) (pW j e (.inl g)) o (by rw[n.2.2.2.2.2.1];decide));rw[a_ d,aY];intro _;exact bR.2 (Sy h a q f b e g (by simpa using d));rw[a_ g,aY];intro _;have:=n.1.2.2.2;exact bR.2 (VH h a f b e (by omega))
def RM{s:Bool}(h:Rt k c ti O st Z U gr A nn T V E M)(a:ti<4611686018427387904)(g:i<3)(b:E.getD i ak.aa=t)(e:t.1=2):
 (bH (mF s k (c,ti,O,st,Z,U,gr,A,nn,T,n_,V,E,M) i)).1=true->bC k (bH (mF s k (c,ti,O,st,Z,U,gr,A,nn,T,n_,V,E,M) i)).2=true:=by
 have f:=fT h.sto.ok;obtain⟨m,g2⟩:=gY (k:=k) (s:=t.2.2.2.1) f;obtain⟨p,hn,hb,n,hv1,hw⟩:=dH h (by omega) b (by omega);have j:=(pf e).1 p;unfold mF;dsimp only;rw[b];by_cases l:t.2.1=0;rw[an l];unfold dZ;dsimp only;rw[b];by_cases d:(st.getD (bz k st t.2.2.2.1).toNat ah.aa).1= -1;rw[an d,aY];intro _;exact bR.2 (Bq h a g b (by omega) l (xU (t:=(t.1,1,t.2.2)) f e rfl) m d);rw[a_ d];intro n;simp[bH]at n;have o:t.2.1=1:=by have:=j.1;omega
 rw[a_ l];by_cases d:(bL k st t.2.2.2.1).2=true;rw[an d,aY];intro _;exact bR.2 (NN h a g b (by omega) (xU f e o) m (by rw[j.2.2.2.2.2.1];decide));rw[a_ d,aY];intro _;exact bR.2 (NN h a g b (by omega) (xU f e o) m (by rw[j.2.2.2.2.2.1];decide))
def Qm{l m:List ae}(e:bB l=true)(f:∀a∈m,bj a=true):bB (l++m)=true:=by
 unfold bB at*
 rw[dK (d:=ab.aa) (p:=bj)]at*
 intro x b;rcases aJN.1 b with b|b;exact e x b;exact f x b
def TX{l:List Int}{v:Int}(b:jv l=true)(e:0<=v):jv (l++[v])=true:=by
 unfold jv at*
 rw[dK (d:=(0:Int)) (p:=fun x=>decide (0<=x))]at*
 intro x a;rcases aJN.1 a with a|a;exact b x a;rw[aJL.1 a];exact c_ e
def ig{α:Type}{l m:List α}{n:Nat}(d:α)(h:n<l.length):(l++m).getD n d=l.getD n d:=by
 rw[aJG,aJ1 h,<-aJG]
def re{α:Type}{l:List α}{x:α}(d:α):(l++[x]).getD l.length d=x:=by
 rw[aJG,aJR (aJZ _)];simp
def RQ{st:List ar}{t:aF}{j:Nat}(h:dm st t=true)(b:j<st.length)(d:t.2.2.2.2.2.1.length=j):dm st (lR st t j)=true:=by
 rw[tB]at h|-;unfold lR;dsimp only;subst d;rw[aJI,aJJ];constructor;intro p a;by_cases e:p<t.2.2.2.2.2.1.length;rw[ig _ e];exact h.1 p e;have:p=t.2.2.2.2.2.1.length:=by omega
 subst this;rw[re];exact aJP _;intro g;rw[dT ah.aa b,h.2 fun p a=> ?_];have:=g p (by omega);rwa [ig _ a]at this
def WT(h:Rt k c ti O st Z U gr A nn T V E M)(g:ti<4611686018427387904)(hi:i<3)(v:E.getD i ak.aa=t)(j:t.1=3)(B:t.2.1=1):
 Rt k c (tick ti) O (bT st t.2.2.2.2.1.toNat (-1)) Z U gr A nn T V (E.set i (lR st t t.2.2.2.2.1.toNat)) M:=by
 obtain⟨H,hn,hb,hd,hv1,hw⟩:=dH h (by omega) v (by omega);have w:=(gl j).1 H;rw[a_ (by omega)]at w;obtain⟨⟨q1,q2,q3,q4,q5,I,J,K,q9,l,m⟩,n,o,p,r,s,u,q18⟩:=w;have C:=fT h.sto.ok;have hlen:=h.sto.len;have h3:=(cE.1 h.sto.ok).2;have f:t.2.2.2.2.1.toNat<st.length:=by omega
 have b:=dM.1 ((cE.1 h.sto.ok).1 _ f);have d:bn k t st.length=(t.2.2.2.2.1.toNat:Int):=by rw[xI C (.inl j) B];omega
 have x:(lR st t t.2.2.2.2.1.toNat).1=3:=j
 have y:(lR st t t.2.2.2.2.1.toNat).2.1=0\/(lR st t t.2.2.2.2.1.toNat).2.1=2/\t.2.2.2.2.1.toNat+1=st.length:=by
  unfold lR;dsimp only;split;exact .inr ⟨rfl,by assumption⟩;exact .inl rfl
 have D:¬(lR st t t.2.2.2.2.1.toNat).2.1=2->¬t.2.2.2.2.1.toNat+1=st.length:=by
  unfold lR;dsimp only;split;intro h;exact absurd rfl h;intro _;assumption
 refine gM h g (by omega) (h.sto.held f (by omega)) h.sub (h.dee.up (by omega)) (fO.held i st _ (-1)) (dV.refl i M) (aJP _) ?_
  (xh (by omega) h.tl h.loc v d (dx (by rcases y with e|e;exact .inl e;exact .inr (.inr (.inr ⟨x,e.1⟩)))) (by simp[bT]) (Bg f) (fun q _ e=>vm e) (eX (.inl (by omega))) (eX (.inl (by omega)))) (h.grp.other (by omega))
 have F:bf (lR st t t.2.2.2.2.1.toNat)=bf t:=rfl;rw[F];refine(gl x).2 ⟨⟨q1,q2,q3,by omega,by omega,I,J,TX K b.2.2.2,?_,Qm l fun a z=>fm (h.sto.fit a (aJH.2 ⟨_,bK f,z⟩)),m⟩,n,o,p,r,s,?_,?_⟩;unfold lR;dsimp only;rw[aJI,aJJ];omega;refine Aq (fO.held i st _ (-1)) ?_ (RQ u f (by omega));unfold lR;dsimp only;rw[aJI,aJJ];omega;have G:(lR st t t.2.2.2.2.1.toNat).2.2.2.2.1=((t.2.2.2.2.1.toNat+1:Nat):Int):=rfl;rw[G];split;rename_i e;rcases y with L|L<;>omega;rename_i e;have:=D e;omega
def Kw{t':aF}{a:List aC}(h:Rt k c ti O st Z U gr A nn T V E M)(e:ti<4611686018427387904)(hi:i<3)(f:E.getD i ak.aa=t)(g:bn k t st.length= -1)(j:bn k t' st.length= -1)
 (l:t.1<5) (m:t'.1<5) (b:rI k (ti+1) a) (d:dV i M a) (n:cC k c.1 st nn (a.length:Int) t' (a.getD (bf t').toNat aw.aa) (i:Int)=true):
 Rt k c (tick ti) O st Z U gr A nn T V (E.set i t') a:=
 gM h e (by omega) h.sto h.sub b (fO.refl i st) d (aJP _) n
  (vE (by omega) h.tl h.loc f (by rw[g,j]) rfl (fun _ _=>rfl) (by rw[eX (.inl l),eX (.inl m)])) (h.grp.other (by omega))
def P8{s:Bool}(h:Rt k c ti O st Z U gr A nn T V E M)(a:ti<4611686018427387904)(f:i<3)(b:E.getD i ak.aa=t)(g:t.1=3):
 (bH (fH s k (c,ti,O,st,Z,U,gr,A,nn,T,n_,V,E,M) i)).1=true->bC k (bH (fH s k (c,ti,O,st,Z,U,gr,A,nn,T,n_,V,E,M) i)).2=true:=by
 have y:=fT h.sto.ok;obtain⟨F,hn,G,j,o,H⟩:=dH h (by omega) b (by omega);have z:=(gl g).1 F;obtain⟨⟨q1,q2,q3,q4,q5,q6,q7,q8,q9,q10,q11⟩,q12,q,r,u,e,q17,v⟩:=z;have hlen:=h.sto.len;unfold fH;dsimp only;rw[b];by_cases l:t.2.1=0;rw[an l];rw[a_ (by omega)]at v;have B:t.2.2.2.2.1.toNat<st.length:=by omega
 unfold dZ;dsimp only;rw[b];by_cases m:(st.getD t.2.2.2.2.1.toNat ah.aa).1= -1;rw[an m,aY];intro _;exact bR.2 (Bq h a f b (by omega) l (by rw[xI (t:=(t.1,1,t.2.2)) y (.inl g) rfl];dsimp only;omega) B m);rw[a_ m];intro j;simp[bH]at j;rw[a_ l];by_cases n:t.2.1=1;rw[an n,aY];intro _;exact bR.2 (WT h a f b g n);rw[a_ n];have C:t.2.1=2:=by omega
 have d:bn k t st.length= -1:=dx (.inr (.inr (.inr ⟨g,C⟩)));by_cases w:gC st t.2.2.2.2.2.1=true;rw[an w,aY];intro _;exact bR.2 (Kw h a f b d (dx (.inl rfl)) (by omega) (by decide) ((h.dee.up (by omega)).put (sq j h.nw.1 o H h.ti0 (by rw[e];decide))) (dV.put G) (oW (by omega)));rw[a_ w,aY];intro _;refine bR.2 (Kw h a f b d (dx (.inl rfl)) (by omega) (by show(3:Int)<5;decide) (h.dee.up (by omega)) (dV.refl i M) ?_);have D:bf (qX ((bf t).toNat:Int))=((bf t).toNat:Int):=rfl;rw[D,E_];refine(gl (t:=qX ((bf t).toNat:Int)) rfl).2 ?_;have h3:=(cE.1 h.sto.ok).2;rw[a_ (by show¬(0:Int)=2;decide)];refine⟨⟨q1,q2,by show(0:Int)<=((bf t).toNat:Int);omega,aJP _,by show(0:Int)<=2;decide,rfl,rfl,by unfold jv qX;simp[lX],rfl,by unfold bB qX;simp[lX],rfl⟩,by show((bf t).toNat:Int)<_;omega,q,r,u,e,?_,aJP _,by show(0:Int)<=2;decide,by show(0:Int)<_;omega⟩;rw[tB];unfold qX;exact⟨fun p x=>by simp at x,fun _=>by simp⟩
def KF{j:Nat}(h:dp k st=true)(a:j<st.length)(g:(st.getD j ah.aa).1=(i:Int))(l:∀p∈st,p.2.1<4611686018427387904):
 fO i st (st.set j (-1,(dU (st.getD j ah.aa) O).2)):=by
 refine⟨by simp,fun p f=> ?_⟩;by_cases e:j=p;subst e;rw[aT _ _ f];by_cases b:0<(db O (st.getD j ah.aa).2.2).length;refine .inr ⟨g,?_⟩;have hp2:=(dM.1 ((cE.1 h).1 _ a)).2.2.2;have hvv:=l _ (bK (d:=ah.aa) a);unfold dU;dsimp only;rw[an b,wrap64 (by omega) (by omega)];omega;rw[P6 ((cE.1 h).1 _ a) b];exact .inl rfl;rw[getD_set_ne _ _ e];exact .inl rfl
def Ku{j:Nat}(h:zP k c st)(d:j<st.length)(f:∀p∈st,p.2.1<4611686018427387904):zP k c (st.set j (-1,(dU (st.getD j ah.aa) O).2)):=by
 have e:=dM.1 (Sd (O:=O) ((cE.1 h.ok).1 _ d) (f _ (bK d)));refine⟨vl h.ok (dM.2 ⟨e.1,e.2.1,⟨by show(-1:Int)<=-1;decide,by show(-1:Int)<=4;decide⟩,e.2.2.2⟩),by rw[aJM];exact h.len,?_,fun a b=> ?_⟩;have h1:=count_set (l:=st) (p:=(-1,(dU (st.getD j ah.aa) O).2)) d;have h2:=zA (st.getD j ah.aa) O;have h3:(aW (-1,(dU (st.getD j ah.aa) O).2)).length=(aW (dU (st.getD j ah.aa) O)).length:=rfl;have:=h.cap;omega;rcases zO b with b|b;exact h.fit a b;exact h.fit a (aJH.2 ⟨_,bK d,RP (O:=O) b⟩)
def OO{s:Bool}(h:Rt k c ti O st Z U gr A nn T V E M)(g:ti<4611686018427387904)(u:∀p∈st,p.2.1<4611686018427387904)(L:i<3)(l:E.getD i ak.aa=t)(v:t.1=4):
 (eF s k (c,ti,O,st,Z,U,gr,A,nn,T,n_,V,E,M) i).1=true->bC k (eF s k (c,ti,O,st,Z,U,gr,A,nn,T,n_,V,E,M) i).2=true:=by
 have I:=fT h.sto.ok;obtain⟨R,K,S,x,B,W⟩:=dH h (by omega) l (by omega);obtain⟨⟨q1,q2,q3,q4,q5,X,Y,q8,q9,C,D,o⟩,q12,F,G,H,r,q17⟩:=(gD v).1 R;have hlen:=h.sto.len;have f:t.2.2.2.2.1.toNat<st.length:=by omega
 unfold eF qJ;dsimp only;rw[l];by_cases y:t.2.1=0;rw[an y];unfold dZ;dsimp only;rw[l];by_cases z:(st.getD t.2.2.2.2.1.toNat ah.aa).1= -1;rw[an z,aY];intro _;exact bR.2 (Bq h g L l (by omega) y (by rw[xI (t:=(t.1,1,t.2.2)) I (.inr v) rfl];dsimp only;omega) f z);rw[a_ z];intro x;simp[bH]at x;have N:t.2.1=1:=by omega
 rw[a_ y,aY];intro _;have a:bn k t st.length=(t.2.2.2.2.1.toNat:Int):=by rw[xI I (.inr v) N];omega
 have b:=(h.loc.pt _ f i (by omega)).1 (by rw[l];exact a)
 have m:er k (eT (fb i t.2.2.2.2.1.toNat (db O (st.getD t.2.2.2.2.1.toNat ah.aa).2.2)) O ti ti ti)=true:=
  uH (op:=5) (i:=(i:Int)) (j:=(t.2.2.2.2.1.toNat:Int)) (n:=0) (code:=8) ⟨by decide,by decide⟩ (by omega) (by omega) (by decide) h.nw.1 h.ti0 (by decide)
 have J:=rI.app (h.dee.up (show ti<=ti+1 by omega)) (d:=eT (fb i t.2.2.2.2.1.toNat (db O (st.getD t.2.2.2.2.1.toNat ah.aa).2.2)) O ti ti ti) ⟨m,by show ti<ti+1;omega,by show ti<ti+1;omega,by show ti<ti+1;omega⟩;refine bR.2 ?_;by_cases w:t.2.2.2.2.1.toNat+1=st.length;rw[an w,an w]
 exact gM h g (by omega) (Ku h.sto f u) h.sub (J.put (sq x h.nw.1 B W h.ti0 (by rw[r];decide))) (KF h.sto.ok f b u)
  ((dV.app i M _).trans (dV.put (by rw[ig _ K];exact S))) (aJP _) (oW (by omega))
  (xh (by omega) h.tl h.loc l a (dx (.inl rfl)) (by simp) (by rw[aT _ _ f]) (fun q _ e=>by rw[getD_set_ne _ _ e]) (eX (.inl (by omega))) (eX (.inl (by decide)))) (h.grp.other (by omega))
 rw[a_ w,a_ w]
 refine gM h g (by omega) (Ku h.sto f u) h.sub J (KF h.sto.ok f b u) (dV.app i M _) (aJP _) ?_
  (xh (by omega) h.tl h.loc l a (dx (.inl rfl)) (by simp) (by rw[aT _ _ f]) (fun q _ e=>by rw[getD_set_ne _ _ e]) (eX (.inl (by omega))) (eX (.inl (by show t.1<5;omega)))) (h.grp.other (by omega))
 have P:bf (t.1,(0:Int),t.2.2.1,t.2.2.2.1,((t.2.2.2.2.1.toNat+1:Nat):Int),t.2.2.2.2.2)=bf t:=rfl;rw[P,ig _ K,aJI,aJJ];refine(gD (t:=(t.1,(0:Int),t.2.2.1,t.2.2.2.1,((t.2.2.2.2.1.toNat+1:Nat):Int),t.2.2.2.2.2)) v).2 ?_;have h3:=(cE.1 h.sto.ok).2;exact⟨⟨q1,q2,q3,aJP _,by show(0:Int)<=1;decide,X,Y,by dsimp only;omega,by dsimp only;omega,C,D,o⟩,by dsimp only;omega,F,G,H,r,by dsimp only;omega⟩
end
def vk{a b:aJ}(h:bO a b=true):bO b a=false:=by
 unfold bO at*;simp at*;omega
def before_trans{a b c:aJ}(h:bO a b=true)(h2:bO b c=true):bO a c=true:=by
 unfold bO at*;simp at*;omega
def yM{a b c:aJ}(h:bO a b=false)(h2:bO b c=false):bO a c=false:=by
 unfold bO at*;simp at*;omega
abbrev lI(l:List aJ)(i:Nat):aJ:=l.getD i aD.aa
def HP(l:List aJ):Prop:=∀j,j<l.length->0<j->bO (lI l j) (lI l ((j-1)/2))=false
def HPu(l:List aJ)(i:Nat):Prop:=
 (∀j,j<l.length->0<j->¬j=i->bO (lI l j) (lI l ((j-1)/2))=false)/\
 (0<i->∀j,j<l.length->0<j->(j-1)/2=i->bO (lI l j) (lI l ((i-1)/2))=false)
def HPd(l:List aJ)(i:Nat):Prop:=
 (∀j,j<l.length->0<j->¬(j-1)/2=i->bO (lI l j) (lI l ((j-1)/2))=false)/\
 (0<i->∀j,j<l.length->0<j->(j-1)/2=i->bO (lI l j) (lI l ((i-1)/2))=false)
def Ss{l:List aJ}{i j:Nat}(b:i<l.length)(d:j<l.length)(n:Nat):lI (ve l i j) n=if n=j then lI l i else if n=i then lI l j else lI l n:=by
 unfold ve lI;by_cases e:n=j;subst e;rw[an rfl,aT _ _ (by simpa using d)];rw[a_ e,getD_set_ne _ _ (Ne.symm e)];by_cases a:n=i;subst a;rw[an rfl,aT _ _ b];rw[a_ a,getD_set_ne _ _ (Ne.symm a)]
def NG{l:List aJ}{i j:Nat}(a:i<l.length)(b:j<l.length):(ve l i j).Perm l:=by
 unfold ve;rw[cx _ a,cx _ b];exact List.set_set_perm a b
def Th:∀(i:Nat) {l:List aJ},i<l.length->HPu l i->HP (HG l i):=by
 intro i
 induction i using aKq with
 |_ i x=>
  intro l s h;rw[HG];by_cases o:0<i;rw[dif_pos o];by_cases g:bO (l.getD i aD.aa) (l.getD ((i-1)/2) aD.aa)=true;rw[an g];have v:(i-1)/2<i:=by omega
  have m:=Ss (l:=l) s (show(i-1)/2<l.length by omega);refine x _ v (by rw[eU];omega) ⟨fun j b a n=> ?_,fun f j b a u=> ?_⟩;rw[eU]at b;rw[m,m,a_ n];by_cases d:j=i;subst d;rw[an rfl,an rfl];exact vk g;rw[a_ d];by_cases p:(j-1)/2=(i-1)/2;rw[an p];have:=h.1 j b a d;rw[p]at this;cases w:bO (lI l j) (lI l i);rfl;rw[before_trans w g]at this;cases this;rw[a_ p];by_cases q:(j-1)/2=i;rw[an q];exact h.2 o j b a q;rw[a_ q];exact h.1 j b a d;rw[eU]at b;rw[m,m,a_ (by omega),a_ (show¬((i-1)/2-1)/2=(i-1)/2 by omega),a_ (show¬((i-1)/2-1)/2=i by omega)];by_cases d:j=i;rw[an d];exact h.1 _ (by omega) f (by omega);rw[a_ d];have r:=h.1 j b a d;rw[u]at r;exact yM r (h.1 _ (by omega) f (by omega));rw[a_ g];intro j b a;by_cases e:j=i;subst e;simpa using g;exact h.1 j b a e;rw[dif_neg o];intro j b a;exact h.1 j b a (by omega)
def TB:∀(i:Nat) {l:List aJ},i<l.length->(HG l i).Perm l:=by
 intro i
 induction i using aKq with
 |_ i e=>
  intro l d;rw[HG];by_cases a:0<i;rw[dif_pos a];by_cases b:bO (l.getD i aD.aa) (l.getD ((i-1)/2) aD.aa)=true;rw[an b];exact(e _ (by omega) (by rw[eU];omega)).trans (NG d (by omega));rw[a_ b];rw[dif_neg a]
def RZ{l:List aJ}{i:Nat}(h:2*i+1<l.length):gA l i<l.length/\(gA l i-1)/2=i/\i<gA l i:=by
 unfold gA;split<;>omega
def KL{l:List aJ}{i j:Nat}(h:2*i+1<l.length)(b:j<l.length)(h0:0<j)(he:(j-1)/2=i):bO (lI l j) (lI l (gA l i))=false:=by
 have a:bO (lI l j) (lI l j)=false:=by unfold bO;simp
 unfold gA;split;rename_i Q;obtain rfl|rfl:j=2*i+1\/j=2*i+2:=by omega
 exact vk Q.2;exact a;rename_i Q;obtain rfl|rfl:j=2*i+1\/j=2*i+2:=by omega
 exact a;have:¬bO (lI l (2*i+2)) (lI l (2*i+1))=true:=fun h=>Q ⟨b,h⟩;simpa using this
def QT:∀n (l:List aJ) (i:Nat),l.length-i<=n->i<l.length->HPd l i->HP (sj l i):=by
 intro n
 induction n with
 |zero=>intro l i v r h;omega
 |succ n x=>
  intro l i v r h;rw[sj];by_cases f:2*i+1<l.length;rw[dif_pos f];obtain⟨u,q,k3⟩:=RZ f;by_cases g:bO (l.getD (gA l i) aD.aa) (l.getD i aD.aa)=true;rw[an g];have m:=Ss (l:=l) r u;refine x _ _ (by rw[eU];omega) (by rw[eU];omega) ⟨fun j b a o=> ?_,fun hp0 j b a w=> ?_⟩;rw[eU]at b;rw[m,m,a_ o];by_cases d:(j-1)/2=i;rw[an d];by_cases s:j=gA l i;rw[an s];exact vk g;rw[a_ s,a_ (by omega)];exact KL f b a d;rw[a_ d,a_ (by intro e;rw[e]at d;exact d q)];by_cases p:j=i;rw[an p];subst p;exact h.2 a _ u (by omega) q;rw[a_ p];exact h.1 j b a d;rw[eU]at b;rw[q,m,m,a_ (by omega),a_ (by omega),a_ (by omega),an rfl];have:=h.1 j b a (by omega);rwa [w]at this;rw[a_ g];intro j b a;by_cases e:(j-1)/2=i;rw[e];exact yM (KL f b a e) (by simpa using g);exact h.1 j b a e;rw[dif_neg f];intro j b a;exact h.1 j b a (by omega)
def P3:∀n (l:List aJ) (i:Nat),l.length-i<=n->i<l.length->(sj l i).Perm l:=by
 intro n
 induction n with
 |zero=>intro l i e b;omega
 |succ n g=>
  intro l i e b;rw[sj];by_cases a:2*i+1<l.length;rw[dif_pos a];obtain⟨f,k2,k3⟩:=RZ a;by_cases d:bO (l.getD (gA l i) aD.aa) (l.getD i aD.aa)=true;rw[an d];exact(g _ _ (by rw[eU];omega) (by rw[eU];omega)).trans (NG b f);rw[a_ d];rw[dif_neg a]
def rC{l:List aJ}:jx l=true↔(∀x∈l,0<=x.1/\0<=x.2)/\HP l/\l.length<=16:=by
 unfold jx;rw[jH,y_,y_,dK (d:=aD.aa) (p:=fun x=>decide (0<=x.1)&&decide (0<=x.2)),decide_eq_true_iff,and_assoc,ck];refine and_congr (by simp) (and_congr ?_ aKr);unfold HP;simp only[aJK,beq_iff_eq,aJV]
 exact⟨fun h j a h0=>(h j (by omega) a).resolve_left (by omega),fun h j _ a=>by
  by_cases e:j=0;exact .inl e;exact .inr (h j a (by omega))⟩
def qY(l:List aJ)(t:aJ):(vf l t).Perm (l++[t]):=TB _ (by simp)
def PE{l:List aJ}{t:aJ}(h:jx l=true)(f:0<=t.1/\0<=t.2)(hl:l.length<=15):jx (vf l t)=true:=by
 rw[rC]at h|-;have e:=qY l t;refine⟨fun x a=> ?_,Th _ (by simp) ⟨fun j b d hne=> ?_,fun d j b hj0 he=> ?_⟩,by rw[e.length_eq];simp;omega⟩;rcases aJN.1 (e.mem_iff.1 a)with a|a;exact h.1 x a;rw[aJL.1 a];exact f;rw[aJI,aJJ]at b;unfold lI;rw[ig _ (by omega),ig _ (by omega)];exact h.2.1 j (by omega) d;rw[aJI,aJJ]at b;omega
def xR{l:List aJ}(h:0<l.length):((eK l).2.1::(eK l).1).Perm l:=by
 unfold eK;rw[a_ (by omega)];dsimp only;by_cases b:l.length=1;rw[an b];obtain⟨x,rfl⟩:=List.length_eq_one_iff.1 b;exact List.Perm.refl _;rw[a_ b];have hlen:((l.take (l.length-1)).set 0 (l.getD (l.length-1) aD.aa)).length=l.length-1:=by simp
 refine((P3 _ _ 0 (aJZ _) (by omega)).cons _).trans ?_;cases l with
 |nil=>simp at h
 |cons a l=>
  have hl:0<l.length:=by rw[List.length_cons]at b;omega
  obtain⟨m,hm⟩:∃m,l.length=m+1:=⟨l.length-1,by omega⟩
  have d:(a::l).length-1=m+1:=by simp;omega
  rw[d,List.take_succ_cons,aKi,aKe,aKf];refine List.Perm.cons a ?_
  have e:l=l.take m++[l.getD m aD.aa]:=by
   have:=aJ9 m l;rw[cx _ (by omega)]
   conv=>lhs;rw[<-this]
   congr 1;rw[List.drop_eq_getElem_cons (by omega),List.drop_eq_nil_of_le (by omega)]
  conv=>rhs;rw[e]
  exact(List.perm_append_singleton _ _).symm
def Te{l:List aJ}(h:jx l=true)(d:0<l.length):jx (eK l).1=true:=by
 have e:=xR d;rw[rC]at h|-;refine⟨fun x g=>h.1 x (e.mem_iff.1 (List.mem_cons_of_mem _ g)),?_,by have:=e.length_eq;simp at this;omega⟩;unfold eK;rw[a_ (by omega)];dsimp only;by_cases f:l.length=1;rw[an f];intro j a;simp at a;rw[a_ f];have hlen:((l.take (l.length-1)).set 0 (l.getD (l.length-1) aD.aa)).length=l.length-1:=by simp
 refine QT _ _ 0 (aJZ _) (by omega) ⟨fun j a b hne=> ?_,fun d=>by omega⟩;rw[hlen]at a;unfold lI;rw[getD_set_ne _ _ (by omega),getD_set_ne _ _ (by omega)]
 have:∀n,n<l.length-1->(l.take (l.length-1)).getD n aD.aa=l.getD n aD.aa:=by
  intro n hn;rw[cx _ (by simp;omega),cx _ (by omega),aJ4]
 rw[this _ a,this _ (by omega)];exact h.2.1 j (by omega) b
end Vg.Tryz
