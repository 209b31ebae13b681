/- Texts of this law, joined. -/
import Derived.Test.YtgikmhjpcnnhjaaGreatQwR3
import Derived.Test.YtgikmhjpcnnhjaaGreatVd
set_option linter.unusedSimpArgs false
set_option linter.unusedVariables false
set_option linter.unusedSectionVars false
set_option linter.defProp false
open Bool renaming and_eq_true -> lk,or_eq_true -> avT,not_eq_true' -> av8,false_eq_true -> awg,false_ne_true -> awn,not_eq_true -> awH,and_assoc -> awJ
open Option renaming bind_some -> avO
open List renaming mem_singleton -> H',length_append -> K_,mem_append -> V_,mem_flatMap -> avU,getD_eq_getElem?_getD -> avV,length_singleton -> avW,mem_or_eq_of_mem_set -> avX,pairwise_singleton -> avY,flatMap_cons -> av0,pairwise_map -> av1,pairwise_append -> av2,getElem_of_mem -> av3,length_set -> av4,pairwise_iff_getElem -> av5,mem_cons_of_mem -> av6,length_nil -> av7,mem_of_mem_drop -> av9,mem_cons_self -> awa,getElem_take -> awb,mem_of_mem_take -> awc,length_cons -> awd,getElem?_append_left -> awf,getElem_mem -> awh,length_take -> awi,eraseIdx_eq_take_drop_succ -> awj,flatMap_append -> awk,getElem_drop -> awo,set_eq_of_length_le -> awp,flatMap_def -> awq,length_drop -> awr,mem_filter -> awt,take_append_drop -> awv,eraseIdx_sublist -> aww,mem_append_right -> awx,mem_append_left -> awy,getD_cons_zero -> awz,getD_cons_succ -> awA,set_cons_zero -> awB,take_sublist -> awD,drop_sublist -> awE,ext_getElem -> awF,filter_cons -> awG
open Int renaming le_refl -> sd,toNat_natCast -> avZ,toNat -> awm
open Nat renaming le_refl -> awe,le_trans -> aws,zero_le -> awu,lt_or_gt_of_ne -> awC,strongRecOn -> awI
open Iff renaming rfl -> awl
namespace Vg.Tryz
open Go Vg
section
variable{k:Nat}(Q:9223372036854775808<=k)
include Q
variable{c:bh}{ti O gr nn:Int}{st:List ar}{Z:List bg}{U V:List ae}{A:List au}{T:List aJ}{n_:List br}{E:List aF}{M:List aC}
def wc{n:Int}{i:Nat}(hg:A.length<=1048579)(b:T.length<=1048576)(a:eM A n=some i):
 lK k ((c,ti,O,st,Z,U,gr,A,nn,T,n_,V,E,M),n,())=
  some ((c,ti,O,st,Z,U,gr,A,nn,vf T (iq c (A.getD i aj.aa),n),n_,V,E,M),()):=by
 have d:=(aZ.1 a).1;simp only[lK];rw[qb Q (by omega),avO];simp only[a,eZ];rw[an (aA d),Cu Q,avO,uG Q b,avO,avZ]
set_option maxHeartbeats 8000000 in
theorem Fs{n:Nat}{t:aF}{d:aC}(hs:af az (c,ti,O,st,Z,U,gr,A,nn,T,n_,V,E,M)<=1048576)(H:3<E.length)(u:E.getD 3 ak.aa=t)(I:t.1=5)(w:t.2.1=1)
 (f:n<M.length) (x:bf t=(n:Int)) (h:M.getD n aw.aa=d) (y:d.2.2.1=t.2.2.1) (z:∀i,i<A.length->(A.getD i aj.aa).1≠nn):
 nc k ((c,ti,O,st,Z,U,gr,A,nn,T,n_,V,E,M),())=
  some ((gH true k (c,ti,O,st,Z,U,gr,A,nn,T,n_,V,E,M)).2,()):=by
 have hsum:=gG Q hs;have B:=dw (e:=ak) (d:=ak.aa) H;rw[u]at B;have hdl:=ay (e:=aw) (l:=M);have hgl:=ay (e:=aj) (l:=A);have hhl:=ay (e:=aD) (l:=T);have C:=dw (e:=aw) (d:=aw.aa) f;rw[h]at C;have D:=bN Q d;rw[y]at D;have hta:=bw Q t;have o:=zm Q (l:=A) (a:=t.2.2.1) (by_:=c.2.2.2.2.2) (n:=nn) (O:=O);have hcf:=kF Q c;have hby:=ay (e:= .str) (l:=c.2.2.2.2.2);have F:decide ((0:Int)<=3/\(3:Int)<(E.length:Int))=true:=c_ ⟨by omega,by omega⟩
 have b:∀(A:List au) (nn:Int) (T:List aJ) (M:List aC) (v:aC) (code:Int),n<M.length->M.getD n aw.aa=v->cD k ((c,ti,O,st,Z,U,-1,A,nn,T,n_,V,E,M),(3:Int),code,[],())=
  some ((c,ti,O,st,Z,U,-1,A,nn,T,n_,V,E.set 3 zT,M.set n (ot v O ti code [])),()):=by
  intro A nn T M v code f h;have:=fj (n:=n) (i:=3) (code:=code) (got:=[]) (c:=c) (ti:=ti) (O:=O) (gr:= -1) (nn:=nn) (st:=st) (Z:=Z) (U:=U) (V:=V) (A:=A) (T:=T) (n_:=n_) Q H f (by rw[u];exact x) (by simp[af]);rw[h]at this;exact this
 have p:=x;unfold bf at p;unfold gH;simp only[u,x,h,I,w,avZ];rw[a_ (show¬(5:Int)=0 by decide),a_ (show¬(1:Int)=0 by decide)];simp only[nc,show awm 3=3 from rfl,u,p,fu];have q:ek k (t.2.2.1,c.2.2.2.2.2,())=some (keyOf t.2.2.1 c.2.2.2.2.2,()):=jg Q (by omega) (by omega);simp only[q,avO];rw[an F,jA Q (by omega),avO];dsimp only;cases g:eR A (keyOf t.2.2.1 c.2.2.2.2.2)with
 |none=>
  by_cases mE:12<=A.length;rw[an (by simp[eZ];omega),b A nn T M d 3 f h,avO];dsimp only;rw[an mE];rfl;have r:kK A t.2.2.1 c.2.2.2.2.2 nn O=A++[mB c t.2.2.1 nn O]:=by unfold kK;rw[g];rfl
  have j:eR (A++[mB c t.2.2.1 nn O]) (keyOf t.2.2.1 c.2.2.2.2.2)=some A.length:=Q1 g rfl;have G:eM (A++[mB c t.2.2.1 nn O]) nn=some A.length:=R7 z rfl;rw[r]at o;rw[a_ (by simp[eZ];omega),qd Q (by omega) (by omega) (by omega),avO,r,g];dsimp only;have m:A.length<(A++[mB c t.2.2.1 nn O]).length:=by simp
  rw[jA Q (by omega),avO];simp only[j,eZ];rw[an (aA m),an (aA f)];simp only[avZ,Mz,Option.isNone_none,if_true];rw[show(mB c t.2.2.1 nn O).1=nn from rfl,wc Q (by rw[K_,avW];omega) (by omega) G,avO];dsimp only;rw[b _ _ _ _ (ou d nn) 1 (by rw[av4];exact f) (by rw[aT _ _ f,h];rfl),avO,a_ mE,List.set_set,Mz];rfl
 |some i=>
  have r:kK A t.2.2.1 c.2.2.2.2.2 nn O=A.set i (im (A.getD i aj.aa) t.2.2.1):=by unfold kK;rw[g]
  have s:i<A.length:=(aZ.1 g).1;rw[r]at o;have j:eR (A.set i (im (A.getD i aj.aa) t.2.2.1)) (keyOf t.2.2.1 c.2.2.2.2.2)=some i:=Q2 g (by have:=(aZ.1 g).2.1;simpa[im]using this);have hc:(if decide (eZ (some i)<0)=true then decide (((A.length:Nat):Int)>=12)else false)=false:=a_ (by show¬(decide ((i:Int)<0)=true);rw[b_];omega);rw[hc,a_ awn,qd Q (by omega) (by omega) (by omega),avO,r,g];dsimp only;have m:i<(A.set i (im (A.getD i aj.aa) t.2.2.1)).length:=by simpa using s
  rw[jA Q (by omega),avO];simp only[j,eZ];rw[an (aA m),an (aA f)];simp only[avZ,aT _ _ s,Option.isNone_some,awg,if_false];rw[b _ _ _ _ (ou d (A.getD i aj.aa).1) 2 (by rw[av4];exact f) (by rw[aT _ _ f,h];rfl),avO,List.set_set];rfl
def Rv(op n h:Int)(a:ae):af ak (op,0,a,[],0,[],[],n,h)=af ab a:=by rw[bw Q];simp[af]
set_option maxHeartbeats 8000000 in
theorem pB{n:Nat}{t:aF}{d:aC}(hs:af az (c,ti,O,st,Z,U,gr,A,nn,T,n_,V,E,M)<=1048576)(p:3<E.length)(g:E.getD 3 ak.aa=t)(a:t.1=0\/t.1=5/\(t.2.1=0\/t.2.1=1))
 (v:t.1=5->n<M.length) (w:bf t=(n:Int)) (x:M.getD n aw.aa=d) (q:t.1=5->d.2.2.1=t.2.2.1) (r:∀i,i<A.length->(A.getD i aj.aa).1≠nn):
 iH k ((c,ti,O,st,Z,U,gr,A,nn,T,n_,V,E,M),())=
  some ((eW true k (c,ti,O,st,Z,U,gr,A,nn,T,n_,V,E,M)).1,(eW true k (c,ti,O,st,Z,U,gr,A,nn,T,n_,V,E,M)).2,()):=by
 have hsum:=gG Q hs;have hdl:=ay (e:=aw) (l:=M);have hfl:=ay (e:=ab) (l:=U);have j:decide ((0:Int)<=3/\(3:Int)<(E.length:Int))=true:=c_ ⟨by omega,by omega⟩;simp only[iH,aN,show awm 3=3 from rfl,g];rw[an j];unfold eW;rcases a with a|⟨a,u⟩;rw[a,an (by decide)];by_cases b:U.length=0
 have f:gH true k (c,ti,O,st,Z,U,gr,A,nn,T,n_,V,E,M)=(false,(c,ti,O,st,Z,U,gr,A,nn,T,n_,V,E,M)):=by
  unfold gH;simp only[g,a,b,if_true]
 have m:decide (((U.length:Nat):Int)>0)=false:=decide_eq_false (by omega);rw[f];simp only[m,awg,if_false];rfl;have hA:=dw (e:=ab) (d:=ab.aa) (l:=U) (i:=0) (by omega);have hAt:=bo Q (U.getD 0 ab.aa);have hAl:=ay (e:=al) (l:=(U.getD 0 ab.aa).1)
 have f:gH true k (c,ti,O,st,Z,U,gr,A,nn,T,n_,V,E,M)=(true,(c,ti,O,st,Z,U.drop 1,gr,A,nn,T,n_,V,E.set 3 (tK (U.getD 0 ab.aa) M.length),M++[AU (U.getD 0 ab.aa) O ti])):=by
  unfold gH;simp only[g,a,b,if_true,if_false]
 have m:decide (((U.length:Nat):Int)>0)=true:=c_ (by omega);have y:cm k (U.drop 1,())=some (U.drop 1,()):=xW Q (by omega);have s:dI k ((5:Int),())=some (7,()):=rfl;rw[f];simp only[m,if_true,show awm 0=0 from rfl,show awm 1=1 from rfl];rw[an (c_ (by omega)),an (c_ (by omega)),y,avO]
 have z:=sT (i:=3) (t:=(5,0,U.getD 0 ab.aa,[],0,[],[],0,0)) (o:=7) (c:=c) (ti:=ti) (O:=O) (gr:=gr) (nn:=nn) (st:=st) (Z:=Z) (U:=U.drop 1) (V:=V) (A:=A) (T:=T) (n_:=n_) (E:=E) (M:=M)
  Q p (by omega) (by rw[Rv Q];omega) s (by dsimp only;omega) (by simp)
 erw[z];rfl;rw[a,a_ (by decide),an j];rcases u with b|b
 have f:gH true k (c,ti,O,st,Z,U,gr,A,nn,T,n_,V,E,M)=gL (c,ti,O,st,Z,U,gr,A,nn,T,n_,V,E,M) 3:=by
  unfold gH;simp only[g,a,b,if_true];rw[a_ (show¬(5:Int)=0 by decide)]
 have m:=uw (i:=3) (c:=c) (ti:=ti) (O:=O) (gr:=gr) (nn:=nn) (st:=st) (Z:=Z) (U:=U) (V:=V) (A:=A) (T:=T) (n_:=n_) (M:=M) Q p;rw[b,an (by decide),f];erw[m];by_cases h:gr= -1;rw[an h,Ht h];rfl;rw[a_ h,MD h];rfl;rw[b,a_ (by decide),Fs Q hs p g a b (v a) w x (q a) r,avO]
 have f:(gH true k (c,ti,O,st,Z,U,gr,A,nn,T,n_,V,E,M)).1=true:=by
  unfold gH;simp only[g,a,b];rw[a_ (show¬(5:Int)=0 by decide),a_ (show¬(1:Int)=0 by decide)];split;split<;>rfl;rfl
 unfold bH;rw[f];rfl
end
def rY(T:List aJ)(O:Int):Bool:=decide (0<T.length)&&decide ((T.getD 0 aD.aa).1<=O)
def tD(n h:Int):aF:=(6,0,cF,[],0,[],[],n,h)
def xu(n O ti:Int):aC:=(8,4,cF,[],0,n,0,[],O,ti,-1,-1)
def xo(c:bh)(T:List aJ)(A:List au)(n:Int):List aJ:=
 match eM A n with
 |some i=>vf T (iq c (A.getD i aj.aa),n)
 |none=>T
def gP(s:Bool)(k:Nat)(w:ag):Bool×ag:=
 match w with
 |(c,ti,O,st,Z,U,gr,A,nn,T,n_,V,E,M)=>
  let t:=E.getD 4 ak.aa
  let n:=(bf t).toNat
  let d:=M.getD n aw.aa
  if t.1=0 then
   (if rY T O=true then(true,(c,ti,O,st,Z,U,gr,A,nn,(eK T).1,n_,V,E.set 4 (tD (eK T).2.1.2 M.length),M++[xu (eK T).2.1.2 O ti]))else(false,w))
  else if t.2.1=0 then gL w 4
  else if lM A t.2.2.2.2.2.2.2.1=true then
   (true,(c,ti,O,st,Z,U,-1,dQ A t.2.2.2.2.2.2.2.1 O,nn,xo c T (dQ A t.2.2.2.2.2.2.2.1 O) t.2.2.2.2.2.2.2.1,n_++[iy A t.2.2.2.2.2.2.2.1 O],V,E.set 4 zT,
    M.set n (dA s true d O ti 8 (iy A t.2.2.2.2.2.2.2.1 O).2.2.2)))
  else(true,(c,ti,O,st,Z,U,-1,A,nn,T,n_,V,E.set 4 zT,M.set n (dA s false d O ti 6 [])))
def fK(s:Bool)(k:Nat)(w:ag):Bool×ag:=bH (gP s k w)
section
variable{k:Nat}(Q:9223372036854775808<=k)
include Q
variable{c:bh}{ti O gr nn:Int}{st:List ar}{Z:List bg}{U V:List ae}{A:List au}{T:List aJ}{n_:List br}{E:List aF}{M:List aC}
theorem AW{w:ag}:lL k (w,())=some (rY w.2.2.2.2.2.2.2.2.2.1 w.2.2.1,()):=by
 simp only[lL,rY];by_cases h:0<w.2.2.2.2.2.2.2.2.2.1.length;have a:decide (((w.2.2.2.2.2.2.2.2.2.1.length:Nat):Int)>0)=true:=c_ (by omega);have b:decide ((0:Int)<=0/\(0:Int)<((w.2.2.2.2.2.2.2.2.2.1.length:Nat):Int))=true:=c_ ⟨by omega,by omega⟩;simp[a,b,h];have a:decide (((w.2.2.2.2.2.2.2.2.2.1.length:Nat):Int)>0)=false:=decide_eq_false (by omega);simp[a,h]
set_option maxHeartbeats 8000000 in
theorem C5{n:Nat}{t:aF}{d:aC}(hs:af az (c,ti,O,st,Z,U,gr,A,nn,T,n_,V,E,M)<=1048576)(o:4<E.length)(f:E.getD 4 ak.aa=t)(p:t.1=6)(g:t.2.1=1)
 (q:n<M.length) (j:bf t=(n:Int)) (m:M.getD n aw.aa=d):
 mb k ((c,ti,O,st,Z,U,gr,A,nn,T,n_,V,E,M),())=
  some ((gP true k (c,ti,O,st,Z,U,gr,A,nn,T,n_,V,E,M)).2,()):=by
 have hsum:=gG Q hs;have hdl:=ay (e:=aw) (l:=M);have hgl:=ay (e:=aj) (l:=A);have hhl:=ay (e:=aD) (l:=T);have hsl:=ay (e:=bM) (l:=n_);have h:decide ((0:Int)<=4/\(4:Int)<(E.length:Int))=true:=c_ ⟨by omega,by omega⟩;unfold gP;simp only[f,j,m,p,g,avZ];rw[a_ (show¬(6:Int)=0 by decide),a_ (show¬(1:Int)=0 by decide)];simp only[mb,show awm 4=4 from rfl,f]
 have a:∀(A:List au) (T:List aJ) (n_:List br) (code:Int) (got:List ae),af (.sl ab) got<=1073741824->cD k ((c,ti,O,st,Z,U,-1,A,nn,T,n_,V,E,M),(4:Int),code,got,())=
  some ((c,ti,O,st,Z,U,-1,A,nn,T,n_,V,E.set 4 zT,M.set n (ot d O ti code got)),()):=by
  intro A T n_ code got b;have:=fj (n:=n) (i:=4) (code:=code) (got:=got) (c:=c) (ti:=ti) (O:=O) (gr:= -1) (nn:=nn) (st:=st) (Z:=Z) (U:=U) (V:=V) (A:=A) (T:=T) (n_:=n_) Q o q (by rw[f];exact j) b;rw[m]at this;exact this
 generalize hN:t.2.2.2.2.2.2.2.1=N;have hfl:=Qo Q (l:=A) (n:=N) (O:=O);have hfb:=OX Q (l:=A) (n:=N) (O:=O);have hfbt:=px Q (iy A N O);have hfll:=ay (e:=aj) (l:=dQ A N O);rw[an h,EW Q (by omega),avO];dsimp only;cases hb:lM A N with
 |false=>
  rw[an (by rfl),a A T n_ 6 [] (by simp[af]),avO,a_ awn];rfl
 |true=>
  rw[a_ (by simp),an (c_ (by simp only[avW];omega)),qb Q (by omega),avO,an rfl];unfold xo;cases r:eM (dQ A N O) N with
  |none=>
   have hc:decide (eZ (none:Option Nat)>=0)=false:=rfl;dsimp only;rw[hc,a_ awn,a _ _ _ 8 _ (by omega),avO];rfl
  |some i=>
   have hc:decide (eZ (some i)>=0)=true:=c_ (by show(i:Int)>=0;omega);dsimp only;rw[hc,an rfl,wc Q (by omega) (by omega) r,avO];dsimp only;rw[a _ _ _ 8 _ (by omega),avO];rfl
set_option maxHeartbeats 8000000 in
theorem p9{n:Nat}{t:aF}{d:aC}(hs:af az (c,ti,O,st,Z,U,gr,A,nn,T,n_,V,E,M)<=1048576)(m:4<E.length)(f:E.getD 4 ak.aa=t)(a:t.1=0\/t.1=6/\(t.2.1=0\/t.2.1=1))
 (u:t.1=6->n<M.length) (v:bf t=(n:Int)) (w:M.getD n aw.aa=d):
 iT k ((c,ti,O,st,Z,U,gr,A,nn,T,n_,V,E,M),())=
  some ((fK true k (c,ti,O,st,Z,U,gr,A,nn,T,n_,V,E,M)).1,(fK true k (c,ti,O,st,Z,U,gr,A,nn,T,n_,V,E,M)).2,()):=by
 have hsum:=gG Q hs;have hdl:=ay (e:=aw) (l:=M);have hhl:=ay (e:=aD) (l:=T);have j:decide ((0:Int)<=4/\(4:Int)<(E.length:Int))=true:=c_ ⟨by omega,by omega⟩;simp only[iT,aN,show awm 4=4 from rfl,f];rw[an j];unfold fK;rcases a with a|⟨a,q⟩;rw[a,an (by decide),AW Q,avO];dsimp only;cases r:rY T O with
 |false=>
  have b:gP true k (c,ti,O,st,Z,U,gr,A,nn,T,n_,V,E,M)=(false,(c,ti,O,st,Z,U,gr,A,nn,T,n_,V,E,M)):=by
   unfold gP;simp only[f,a,r,if_true,awg,if_false]
  rw[b];rfl
 |true=>
  have b:gP true k (c,ti,O,st,Z,U,gr,A,nn,T,n_,V,E,M)=(true,(c,ti,O,st,Z,U,gr,A,nn,(eK T).1,n_,V,E.set 4 (tD (eK T).2.1.2 M.length),M++[xu (eK T).2.1.2 O ti])):=by
   unfold gP;simp only[f,a,r,if_true]
  have p:dI k ((6:Int),())=some (8,()):=rfl;have s:af ab cF=0:=by rw[bo Q];rfl
  rw[b,an rfl,Dk Q (by omega),avO]
  have x:=sT (i:=4) (t:=(6,0,cF,[],0,[],[],(eK T).2.1.2,0)) (o:=8) (c:=c) (ti:=ti) (O:=O) (gr:=gr) (nn:=nn) (st:=st) (Z:=Z) (U:=U) (V:=V) (A:=A) (T:=(eK T).1) (n_:=n_) (E:=E) (M:=M)
   Q m (by omega) (by rw[Rv Q,s];omega) p (by dsimp only;rw[s];omega) (by simp)
  erw[x];rfl
 rw[a,a_ (by decide),an j];rcases q with g|g
 have b:gP true k (c,ti,O,st,Z,U,gr,A,nn,T,n_,V,E,M)=gL (c,ti,O,st,Z,U,gr,A,nn,T,n_,V,E,M) 4:=by
  unfold gP;simp only[f,a,g,if_true];rw[a_ (show¬(6:Int)=0 by decide)]
 have y:=uw (i:=4) (c:=c) (ti:=ti) (O:=O) (gr:=gr) (nn:=nn) (st:=st) (Z:=Z) (U:=U) (V:=V) (A:=A) (T:=T) (n_:=n_) (M:=M) Q m;rw[g,an (by decide),b];erw[y];by_cases h:gr= -1;rw[an h,Ht h];rfl;rw[a_ h,MD h];rfl;rw[g,a_ (by decide),C5 Q hs m f a g (u a) v w,avO]
 have b:(gP true k (c,ti,O,st,Z,U,gr,A,nn,T,n_,V,E,M)).1=true:=by
  unfold gP;simp only[f,a,g];rw[a_ (show¬(6:Int)=0 by decide),a_ (show¬(1:Int)=0 by decide)];split<;>rfl
 unfold bH;rw[b];rfl
end
def iU(s:Bool)(k:Nat)(w:ag)(i:Nat):Bool×ag:=
 if(((bF w).getD i ak.aa).1=1)then fy s k w i
 else if(((bF w).getD i ak.aa).1=2\/((bF w).getD i ak.aa).1=3)then nW s k w i
 else if(((bF w).getD i ak.aa).1=4)then eF s k w i
 else if i=3 then eW s k w
 else if i=4 then fK s k w
 else(false,w)
def gx{k:Nat}{w:ag}{t:aF}{d:aC}{i:Nat}(h:cJ k w t d (i:Int)=true):
 i<=4/\(t.1=0\/((t.1=1\/t.1=2\/t.1=3\/t.1=4)/\i<3)\/(t.1=5/\i=3)\/(t.1=6/\i=4)):=by
 unfold cJ cV bc at h;grind
def P1{k:Nat}{w:ag}{t:aF}{d:aC}{i:Int}(h:cJ k w t d i=true)(hp:t.1≠0):
 0<=bf t/\bf t<((bV w).length:Int)/\(cW d= -1↔¬(t.1=1/\t.2.1=2))/\0<=t.2.1/\t.2.1<=2/\(t.2.1=2->t.1=1\/t.1=3):=by
 unfold cJ cV bc at h;unfold bf cW;grind
def P4{k:Nat}{w:ag}{t:aF}{d:aC}{i:Int}(h:cJ k w t d i=true)(hp:t.1=3):
 t.2.2.1=cF/\t.2.2.2.1=[]/\t.2.2.2.2.2.2.2.1=0/\0<=t.2.2.2.2.1/\(t.2.1≠2->t.2.2.2.2.1<w.1.1)/\(t.2.1=2->(t.2.2.2.2.2.1.length:Int)=w.1.1):=by
 unfold cJ cV bc kY at h;grind
def OQ{k:Nat}{w:ag}{t:aF}{d:aC}{i:Int}(h:cJ k w t d i=true)(hp:t.1=4):0<=t.2.2.2.2.1/\t.2.2.2.2.1<w.1.1:=by
 unfold cJ cV bc kY at h;grind
def Qz{k:Nat}{w:ag}{t:aF}{d:aC}{i:Int}(h:cJ k w t d i=true)(hp:t.1=5):d.2.2.1=t.2.2.1:=by
 unfold cJ cV bc kY at h;grind
def QK{k:Nat}{w:ag}(h:fi k w=true){i:Nat}(a:i<(bF w).length):cJ k w ((bF w).getD i ak.aa) (jO w ((bF w).getD i ak.aa)) (i:Int)=true:=
 ck.1 h i (by omega) a
def QD{k:Nat}{w:ag}(h:bC k w=true){i:Nat}(b:i<w.2.2.2.2.2.2.2.1.length):(w.2.2.2.2.2.2.2.1.getD i aj.aa).1<w.2.2.2.2.2.2.2.2.1:=by
 unfold bC at h;simp only[lk]at h;have a:=h.2.2.2.2.2.2.2.2.2.2.2.2.2;unfold dB pd at a;simp only[lk,ck]at a;have d:=a.2.2.2 i (by omega) b;simpa using d.1.2.2
section
variable{k:Nat}(Q:9223372036854775808<=k)
include Q
set_option maxHeartbeats 8000000 in
theorem L8{w:ag}{i:Nat}(hs:af az w<=1048576)(h:bC k w=true)(hi:i<5):mP k (w,(i:Int),())=some ((iU true k w i).1,(iU true k w i).2,()):=by
 obtain⟨F,K,L,N⟩:=Lg h;obtain⟨⟨y,_⟩,_⟩:=A5 F;have b:i<(bF w).length:=by show i<w.2.2.2.2.2.2.2.2.2.2.2.2.1.length;omega
 have g:=QK N b;have u:=fun j p=>QD h (i:=j) p;obtain⟨c,ti,O,st,Z,U,gr,A,nn,T,n_,V,E,M⟩:=w;dsimp only at F K L y u b;obtain⟨t,m⟩:∃t,E.getD i ak.aa=t:=⟨_,rfl⟩
 have J:∀s,iU s k (c,ti,O,st,Z,U,gr,A,nn,T,n_,V,E,M) i=if t.1=1 then fy s k (c,ti,O,st,Z,U,gr,A,nn,T,n_,V,E,M) i
  else if t.1=2\/t.1=3 then nW s k (c,ti,O,st,Z,U,gr,A,nn,T,n_,V,E,M) i
  else if t.1=4 then eF s k (c,ti,O,st,Z,U,gr,A,nn,T,n_,V,E,M) i
  else if i=3 then eW s k (c,ti,O,st,Z,U,gr,A,nn,T,n_,V,E,M)
  else if i=4 then fK s k (c,ti,O,st,Z,U,gr,A,nn,T,n_,V,E,M)else(false,(c,ti,O,st,Z,U,gr,A,nn,T,n_,V,E,M)):=by
  intro s;unfold iU;simp only[bF,m]
 rw[J];dsimp only[bF,jO]at g;rw[m]at g;obtain⟨d,r⟩:∃d,M.getD (bf t).toNat aw.aa=d:=⟨_,rfl⟩
 change cJ k _ t (M.getD (bf t).toNat aw.aa) _=true at g;rw[r]at g;have v:=gx g;simp only[mP,aN,avZ,m];rw[an (aA b)];by_cases x:t.1=0;rw[x,a_ (by decide),a_ (by decide),a_ (by decide),a_ (by decide)];by_cases C:i=3;subst C
 obtain⟨n,o⟩:∃n:Nat,bf t=(n:Int):=by
  have:t=zT:=by unfold cJ cV at g;grind
  exact⟨0,by rw[this];rfl⟩
 rw[an (by decide),pB (n:=n) (d:=M.getD n aw.aa) Q hs b m (.inl x) (by omega) o rfl (by omega) (fun j p=>by have:=u j p;omega),avO,a_ (by decide),a_ (by decide),a_ (by decide),an rfl];by_cases D:i=4;subst D
 obtain⟨n,o⟩:∃n:Nat,bf t=(n:Int):=by
  have:t=zT:=by unfold cJ cV at g;grind
  exact⟨0,by rw[this];rfl⟩
 rw[a_ (by decide),an (by decide),p9 (n:=n) (d:=M.getD n aw.aa) Q hs b m (.inl x) (by omega) o rfl,avO,a_ (by decide),a_ (by decide),a_ (by decide),a_ (by decide),an rfl];rw[a_ (by rw[beq_iff_eq];omega),a_ (by rw[beq_iff_eq];omega),a_ (by decide),a_ (by decide),a_ (by decide),a_ C,a_ D];obtain⟨b1,P,R,b4,b5,b6⟩:=P1 g x;dsimp only[bV]at P;obtain⟨n,o⟩:∃n:Nat,bf t=(n:Int):=⟨(bf t).toNat,by omega⟩
 rw[o,avZ]at r;have f:n<M.length:=by omega
 rcases v.2 with a|⟨a,q⟩|⟨a,q⟩|⟨a,q⟩;exact absurd a x;rcases a with a|a|a|a;obtain⟨j,p,z⟩:=Og (k:=k) Q (l:=st) (s:=t.2.2.1.1) (by omega);rw[an (by rw[a];rfl),an a,Cm Q hs b m a p z f o r (by omega) (fun e B=>by rw[R]at B;exact B ⟨a,e⟩),avO];obtain⟨j,p,z⟩:=Og (k:=k) Q (l:=st) (s:=t.2.2.2.1) (by omega)
 rw[a_ (by rw[a];decide),an (by rw[a];rfl),an (by rw[a];rfl),a_ (by omega),an (.inl a),
  uu (j:=j) Q hs b m (.inl a) (fun _=>p) (by rw[an a];exact z) (by omega) f o r (by omega),avO]
 obtain⟨S,G,s3,s4,H,I⟩:=P4 g a;dsimp only at H I
 rw[a_ (by rw[a];decide),a_ (by rw[a];decide),an (by rw[a];rfl),a_ (by omega),an (.inr a),
  uu (j:=t.2.2.2.2.1.toNat) Q hs b m (.inr a) (fun e=>by have:=H (by omega);omega) (by rw[a_ (by omega)];omega) (fun _ e=>by have:=I e;omega) f o r (by omega),avO]
 obtain⟨S,G⟩:=OQ g a;dsimp only at G
 rw[a_ (by rw[a];decide),a_ (by rw[a];decide),a_ (by rw[a];decide),an (by rw[a];rfl),a_ (by omega),a_ (by omega),an a,
  Cl (j:=t.2.2.2.2.1.toNat) Q hs b m a (by omega) (by omega) f o r (by omega),avO]
 subst q
 rw[a_ (by rw[a];decide),a_ (by rw[a];decide),a_ (by rw[a];decide),a_ (by rw[a];decide),an (by decide),a_ (by omega),a_ (by omega),a_ (by omega),an rfl,
  pB Q hs b m (.inr ⟨a,by omega⟩) (fun _=>f) o r (fun _=>Qz g a) (fun j p=>by have:=u j p;omega),avO]
 subst q
 rw[a_ (by rw[a];decide),a_ (by rw[a];decide),a_ (by rw[a];decide),a_ (by rw[a];decide),a_ (by decide),an (by decide),a_ (by omega),a_ (by omega),a_ (by omega),a_ (by decide),an rfl,
  p9 Q hs b m (.inr ⟨a,by omega⟩) (fun _=>f) o r,avO]
end
def cx{α:Type}{l:List α}{i:Nat}(d:α)(h:i<l.length):l.getD i d=l[i]:=by
 rw[avV,List.getElem?_eq_getElem h];rfl
def dK{α:Type}{l:List α}{d:α}{p:α->Bool}:bA 0 l.length (fun i=>p (l.getD i d))=true↔∀x∈l,p x=true:=by
 rw[ck];constructor;intro h x b;obtain⟨i,a,e⟩:=av3 b;have:=h i (by omega) a;rwa [cx _ a,e]at this;intro h i _ a;rw[cx _ a];exact h _ (awh a)
def Hi{α:Type}{r:α->α->Prop}(p:∀a b c,r a b->r b c->r a c){l:List α}{d:α}:(∀i,i<l.length->i=0\/r (l.getD (i-1) d) (l.getD i d))↔l.Pairwise r:=by
 constructor;intro h;rw[av5];intro i j g e hij;obtain⟨m,rfl⟩:∃m,j=i+m+1:=⟨j-i-1,by omega⟩
 induction m with
 |zero=>
  rcases h (i+0+1) e with o|f;omega;rwa [show i+0+1-1=i by omega,cx _ g,cx _ e]at f
 |succ m s=>
  have q:=s (by omega) (by omega);rcases h (i+(m+1)+1) e with o|f;omega;rw[show i+(m+1)+1-1=i+m+1 by omega,cx _ (show i+m+1<l.length by omega),cx _ e]at f;exact p _ _ _ q f
 intro h i g;by_cases o:i=0;exact .inl o;rw[cx _ g,cx _ (show i-1<l.length by omega)];exact .inr (av5.1 h _ _ _ _ (by omega))
def kI{α:Type}{r:α->α->Prop}{l:List α}{d:α}:(∀i,i<l.length->∀j,j<i->r (l.getD j d) (l.getD i d))↔l.Pairwise r:=by
 rw[av5];constructor;intro h i j b a e;have:=h j a i e;rwa [cx _ b,cx _ a]at this;intro h i b j a;rw[cx _ b,cx _ (show j<l.length by omega)];exact h _ _ _ _ a
def iI{α β:Type}{f:α->β}{l:List α}{i:Nat}{x d:α}(h:f x=f (l.getD i d)):(l.set i x).map f=l.map f:=by
 by_cases a:i<l.length;rw[cx _ a]at h;rw[List.map_set,h];apply awF (by simp);intro n h1 h2;rw[List.getElem_set];split
 subst_vars;simp
 rfl;rw[awp (by omega)]
def bK{α:Type}{l:List α}{i:Nat}{d:α}(h:i<l.length):l.getD i d∈l:=by
 rw[cx _ h];exact awh h
def jb{α:Type}{l:List α}{x:α}(d:α)(h:x∈l):∃i,i<l.length/\l.getD i d=x:=by
 obtain⟨i,a,e⟩:=av3 h;exact⟨i,a,by rw[cx _ a,e]⟩
def getD_set_ne{α:Type}{l:List α}{n m:Nat}(a d:α)(h:n≠m):(l.set n a).getD m d=l.getD m d:=by
 rw[avV,List.getElem?_set_ne h,<-avV]
def xY{α:Type}{l:List α}{d:α}{p:α->Bool}{x:α}(a:x∈l)(b:p x=true):∃i,gO l.length (fun i=>p (l.getD i d))=some i/\i<l.length/\p (l.getD i d)=true:=by
 cases h:gO l.length (fun i=>p (l.getD i d))with
 |some i=>exact⟨i,rfl,(aZ.1 h).1,(aZ.1 h).2.1⟩
 |none=>
  obtain⟨i,f,e⟩:=jb d a;have:=iR.1 h i f;rw[e,b]at this;cases this
abbrev oo(l:List aP):Prop:=l.Pairwise (fun a b=>a.1<b.1)
abbrev UG(l:List ae):Prop:=l.Pairwise (fun a b=>¬a.1=b.1)
def oq{k:Nat}{c:aP}:dn k c=true↔(∀a∈c.2,bj a=true/\cH k a.1=c.1)/\0<c.2.length/\UG c.2:=by
 unfold dn vK;rw[lk,lk,dK (p:=fun a=>bj a&&decide (cH k a.1=c.1)),decide_eq_true_iff,ck];refine and_congr (by simp) (and_congr awl ?_);unfold UG;rw[<-kI (d:=ab.aa)];simp only[ck,av8,d_];exact⟨fun h i b j e=>h i (by omega) b j (by omega) e,fun h i _ b j _ e=>h i b j e⟩
def dM{k:Nat}{p:ar}{q n:Int}:eQ k p q n=true↔(∀c∈p.2.2,dn k c=true/\dL c.1 n=q)/\oo p.2.2/\(-1<=p.1/\p.1<=4)/\0<=p.2.1:=by
 unfold eQ oo;rw[<-Hi (d:=ax.aa) (fun a b c e h2=>by omega)];have:∀j,(dn k (p.2.2.getD j ax.aa)&&(decide (dL (p.2.2.getD j ax.aa).1 n=q)&&rF p.2.2 j))=((dn k (p.2.2.getD j ax.aa)&&decide (dL (p.2.2.getD j ax.aa).1 n=q))&&rF p.2.2 j):=fun j=>(awJ ..).symm;simp only[this,jH,lk,bc,decide_eq_true_iff];have e:=dK (l:=p.2.2) (d:=ax.aa) (p:=fun c=>dn k c&&decide (dL c.1 n=q));simp only[jH,lk,decide_eq_true_iff]at e;rw[e,and_assoc];refine and_congr awl (and_congr ?_ awl);rw[ck];simp only[rF,avT,beq_iff_eq,decide_eq_true_iff];exact⟨fun h i f=>h i (by omega) f,fun h i _ f=>h i f⟩
def cE{k:Nat}{l:List ar}:dp k l=true↔(∀i,i<l.length->eQ k (l.getD i ah.aa) (i:Int) (l.length:Int)=true)/\1<=l.length/\l.length<=3:=by
 unfold dp;rw[lk,ck];simp only[bc,lk,decide_eq_true_iff];exact and_congr ⟨fun h i a=>h i (by omega) a,fun h i _ a=>h i a⟩ (by omega)
def Kr{l:List ar}{a:ae}:a∈bU l↔∃p∈l,∃c∈p.2.2,a∈c.2:=by
 simp only[bU,aW,j9,avU]
/-! one part changes-/
def vl{k:Nat}{l:List ar}{j:Nat}{p:ar}(h:dp k l=true)(b:eQ k p (j:Int) (l.length:Int)=true):dp k (l.set j p)=true:=by
 rw[cE]at h|-;rw[av4];refine⟨fun i a=> ?_,h.2⟩;by_cases e:j=i;subst e;rw[aT _ _ a];exact b;rw[getD_set_ne _ _ e];exact h.1 i a
def CU{α β:Type}{f:α->List β}{l:List α}{j:Nat}{x d:α}(b:j<l.length):((l.set j x).flatMap f).length+(f (l.getD j d)).length=(l.flatMap f).length+(f x).length:=by
 induction l generalizing j with
 |nil=>simp at b
 |cons a l e=>
  cases j with
  |zero=>simp only[awB,av0,K_,awz];omega
  |succ j=>
   have:=e (j:=j) (by simpa using b);simp only[List.set_cons_succ,av0,K_,awA];omega
def zO{α β:Type}{f:α->List β}{l:List α}{j:Nat}{x:α}{b:β}(h:b∈(l.set j x).flatMap f):b∈l.flatMap f\/b∈f x:=by
 obtain⟨y,d,a⟩:=avU.1 h;rcases avX d with e|rfl;exact .inl (avU.2 ⟨y,e,a⟩);exact .inr a
def count_set{l:List ar}{j:Nat}{p:ar}(a:j<l.length):bq (l.set j p)+(aW (l.getD j ah.aa)).length=bq l+(aW p).length:=CU a
/-! locks-/
def VN{k:Nat}{st:List ar}{j:Nat}{x:Int}(h:dp k st=true)(a:j<st.length)(b: -1<=x/\x<=4):dp k (bT st j x)=true:=by
 refine vl h ?_;have:=dM.1 ((cE.1 h).1 j a);exact dM.2 ⟨this.1,this.2.1,b,this.2.2.2⟩
def Cc{st:List ar}{j:Nat}{x:Int}:bU (bT st j x)=bU st:=by
 unfold bU bT;have:∀l:List ar,l.flatMap aW=(l.map aW).flatten:=fun l=>by rw[awq]
 rw[this,this,iI (f:=aW) (l:=st) (i:=j) (x:=(x,(st.getD j ah.aa).2)) (d:=ah.aa) rfl]
/-! putting-/
def A9(a b:ae):(jS a b).1=b.1:=by unfold jS;split<;>rfl
def Ni{a b:ae}(ha:bj a=true)(d:cw b=true):cw (jS a b)=true:=by
 unfold jS;split;unfold cw bj bc at*
 simp only[lk,b_]at*
 refine⟨⟨⟨⟨d.1.1.1.1,?_⟩,?_⟩,d.1.2⟩,d.2⟩<;>(try split)<;>omega;exact d
def fm{a:ae}(h:cw a=true):bj a=true:=by
 unfold cw at h;simp only[lk]at h;exact h.1
def xH(c:aP)(a:ae):(jX c a).1=c.1:=by unfold jX;split<;>rfl
def MX{c:aP}{a x:ae}(h:x∈(jX c a).2):x∈c.2\/x=a\/∃b∈c.2,x=jS b a:=by
 unfold jX at h;split at h;rename_i i e;rcases avX h with d|d;exact .inl d;exact .inr (.inr ⟨_,bK (aZ.1 e).1,d⟩);rcases V_.1 h with d|d;exact .inl d;exact .inr (.inl (by simpa using d))
def Dz(c:aP)(a:ae):(jX c a).2.length=c.2.length+if(fI c.2 a.1).isNone=true then 1 else 0:=by
 unfold jX;split;rename_i i b;simp[b];rename_i b;simp[b]
def Qt(c:aP)(a:ae):∃x∈(jX c a).2,x.1=a.1:=by
 unfold jX;split;rename_i i b;exact⟨_,List.mem_set (h:=(aZ.1 b).1) ..,A9 _ _⟩;exact⟨a,by simp,rfl⟩
def Vu{k:Nat}{c:aP}{a:ae}(h:dn k c=true)(m:cw a=true)(o:cH k a.1=c.1):dn k (jX c a)=true:=by
 rw[oq]at h|-;obtain⟨q,h2,r⟩:=h;refine⟨fun x g=> ?_,by rw[Dz];omega,?_⟩;rw[xH];rcases MX g with g|rfl|⟨b,u,rfl⟩;exact q x g;exact⟨fm m,o⟩;exact⟨fm (Ni (q b u).1 m),by rw[A9];exact o⟩;unfold jX;split;rename_i i j
 have e:(c.2.set i (jS (c.2.getD i ab.aa) a)).map (·.1)=c.2.map (·.1):=iI (d:=ab.aa) (by
  rw[A9];exact(by simpa using(aZ.1 j).2.1:(c.2.getD i ab.aa).1=a.1).symm)
 have p:=(av1 (f:=fun x:ae=>x.1) (R:=fun a b=>¬a=b)).2 r;rw[<-e]at p;exact(av1 (f:=fun x:ae=>x.1) (R:=fun a b=>¬a=b)).1 p;rename_i j;refine av2.2 ⟨r,avY _ _,fun x g y s=> ?_⟩;obtain⟨i,l,rfl⟩:=jb ab.aa g;have:=iR.1 j i l;rw[H'.1 s];simpa using this
def Ve{l:List aP}{f:Int}(i:Nat)(h:i<iY l f):(l.getD i ax.aa).1<f:=by
 unfold iY at h;cases e:gO l.length (fun i=> !decide ((l.getD i ax.aa).1<f))with
 |none=>
  rw[e]at h;have:=iR.1 e i h;simpa using this
 |some j=>
  rw[e]at h;have:=(aZ.1 e).2.2 i h;simpa using this
def Vh{l:List aP}{f:Int}(h:iY l f<l.length):f<=(l.getD (iY l f) ax.aa).1:=by
 unfold iY at h|-;cases e:gO l.length (fun i=> !decide ((l.getD i ax.aa).1<f))with
 |none=>rw[e]at h;simp at h
 |some j=>
  have:=(aZ.1 e).2.1;simp only[Option.getD_some];simpa using this
def Qf{l:List aP}{f:Int}{x:aP}(h:oo l)(s:∀c∈l,¬c.1=f)(r:x.1=f):oo (l.take (iY l f)++[x]++l.drop (iY l f)):=by
 have g:∀c∈l.take (iY l f),c.1<f:=by
  intro c hc;obtain⟨i,q,e⟩:=av3 hc;rw[awi]at q;have j:=Ve (l:=l) (f:=f) i (by omega);rw[cx _ (by omega)]at j;rw[<-e,awb];exact j
 have o:∀c∈l.drop (iY l f),f<c.1:=by
  intro c hc;obtain⟨i,q,e⟩:=av3 hc;rw[awr]at q;have j:=Vh (l:=l) (f:=f) (by omega);rw[cx _ (by omega)]at j;have h2:=s _ (awh (show iY l f<l.length by omega));rw[awo]at e;rw[<-e];by_cases p:i=0;subst p;simp only[Nat.add_zero];omega;have:=av5.1 h (iY l f) (iY l f+i) (by omega) (by omega) (by omega);omega
 unfold oo at*
 rw[av2,av2];refine⟨⟨h.sublist (awD _ _),avY _ _,fun a d b m=> ?_⟩,h.sublist (awE _ _),fun a d b m=> ?_⟩;rw[H'.1 m,r];exact g a d;have:=o b m;rcases V_.1 d with d|d;have:=g a d;omega;rw[H'.1 d,r];exact this
def Qd{k:Nat}{p:ar}{s:List ai}(o:oo p.2.2):(fg k p s).2=true↔∃c∈p.2.2,c.1=cH k s/\∃x∈c.2,x.1=s:=by
 unfold fg;constructor;intro h;split at h;cases h;rename_i i f;split at h;cases h;rename_i j g;exact⟨_,bK (aZ.1 f).1,by simpa using(aZ.1 f).2.1,_,bK (aZ.1 g).1,by simpa using(aZ.1 g).2.1⟩;rintro⟨c,hc,e,x,v,ex⟩;obtain⟨i,w,y,z⟩:=xY (d:=ax.aa) (p:=fun c=>decide (c.1=cH k s)) hc (by simpa using e)
 have q:p.2.2.getD i ax.aa=c:=by
  obtain⟨m,B,em⟩:=jb ax.aa hc;have h4:(p.2.2.getD i ax.aa).1=c.1:=by rw[e];simpa using z
  by_cases b:i=m;rw[b];exact em;have l:=kI (d:=ax.aa).2 o;rcases awC b with h6|h6;have:=l m B i h6;rw[em]at this;omega;have:=l i y m h6;rw[em]at this;omega
 obtain⟨j,C,g2,g3⟩:=xY (d:=ab.aa) (p:=fun a=>decide (a.1=s)) v (by simpa using ex);have r:fx p (cH k s)=some i:=w;have u:fI c.2 s=some j:=C;simp only[r,q,u]
def OW{k:Nat}{p:ar}{s:List ai}(h:(fg k p s).2=true):(fg k p s).1.1=s/\(fg k p s).1∈aW p:=by
 unfold fg at h|-;split at h;cases h;rename_i i b;split at h;cases h;rename_i j a;simp only[b,a];exact⟨by simpa using(aZ.1 a).2.1,avU.2 ⟨_,bK (aZ.1 b).1,bK (aZ.1 a).1⟩⟩
def OY{k:Nat}{p a:ar}{s:List ai}(h:a.2.2=p.2.2):fg k a s=fg k p s:=by
 unfold fg fx;rw[h]
def sG(k:Nat)(p:ar)(a:ae):(fE k p a).1.2.1=IntKind.i64.wrap (p.2.1+1)/\(fE k p a).1.1=p.1:=by
 unfold fE;split<;>exact⟨rfl,rfl⟩
def Sw{k:Nat}{a:ae}(d:cw a=true):dn k (cH k a.1,[a])=true:=
 oq.2 ⟨fun x b=>by rw[H'.1 b];exact⟨fm d,rfl⟩,by simp,avY _ _⟩
def MZ{p:ar}{f:Int}(h:fx p f=none):∀c∈p.2.2,¬c.1=f:=by
 intro c hc;obtain⟨i,a,rfl⟩:=jb ax.aa hc;have:=iR.1 h i a;simpa using this
def Vy{k:Nat}{p:ar}{a:ae}{q n:Int}(h:eQ k p q n=true)(m:cw a=true)(u:dL (cH k a.1) n=q)(hv:p.2.1<4611686018427387904):eQ k (fE k p a).1 q n=true:=by
 rw[dM]at h|-;obtain⟨j,s,w,h4⟩:=h;have e:=sG k p a;refine⟨?_,?_,by rw[e.2];exact w,by rw[e.1,wrap64 (by omega) (by omega)];omega⟩;intro c hc;unfold fE at hc;split at hc;rename_i i g;rcases avX hc with hc|rfl;exact j c hc;have l:(p.2.2.getD i ax.aa).1=cH k a.1:=by simpa using(aZ.1 g).2.1
 have o:=j _ (bK (d:=ax.aa) (aZ.1 g).1);exact⟨Vu o.1 m l.symm,by rw[xH];exact o.2⟩;rcases V_.1 hc with hc|hc;rcases V_.1 hc with hc|hc;exact j c (awc hc);rw[H'.1 hc];exact⟨Sw m,u⟩;exact j c (av9 hc);unfold fE;split;rename_i i g;have v:(p.2.2.set i (jX (p.2.2.getD i ax.aa) a)).map (·.1)=p.2.2.map (·.1):=iI (d:=ax.aa) (xH _ _);have r:=(av1 (f:=fun x:aP=>x.1) (R:=fun a b=>a<b)).2 s;rw[<-v]at r;exact(av1 (f:=fun x:aP=>x.1) (R:=fun a b=>a<b)).1 r;rename_i g;exact Qf s (MZ g) rfl
def Tz{k:Nat}{p:ar}{a x:ae}(h:x∈aW (fE k p a).1):x∈aW p\/x=a\/∃b∈aW p,x=jS b a:=by
 obtain⟨c,hc,d⟩:=avU.1 h;unfold fE at hc;split at hc;rename_i i f;rcases avX hc with hc|rfl;exact .inl (avU.2 ⟨c,hc,d⟩);have e:p.2.2.getD i ax.aa∈p.2.2:=bK (aZ.1 f).1;rcases MX d with d|d|⟨b,g,d⟩;exact .inl (avU.2 ⟨_,e,d⟩);exact .inr (.inl d);exact .inr (.inr ⟨b,avU.2 ⟨_,e,g⟩,d⟩);rcases V_.1 hc with hc|hc;rcases V_.1 hc with hc|hc;exact .inl (avU.2 ⟨c,awc hc,d⟩);rw[H'.1 hc]at d;exact .inr (.inl (by simpa[j9]using d));exact .inl (avU.2 ⟨c,av9 hc,d⟩)
def Tx{k:Nat}{p:ar}{a:ae}:(aW (fE k p a).1).length=(aW p).length+if(fE k p a).2=true then 1 else 0:=by
 unfold aW fE;split;rename_i i b;have:=CU (f:=j9) (l:=p.2.2) (j:=i) (x:=jX (p.2.2.getD i ax.aa) a) (d:=ax.aa) (aZ.1 b).1;simp only[j9,Dz]at this|-;omega
 have:(p.2.2.flatMap j9).length=((p.2.2.take (iY p.2.2 (cH k a.1))).flatMap j9).length+((p.2.2.drop (iY p.2.2 (cH k a.1))).flatMap j9).length:=by
  rw[<-K_,<-awk,awv]
 simp only[awk,K_,this];simp[j9];omega
def Qe{k:Nat}{p:ar}{a:ae}:∃c∈(fE k p a).1.2.2,c.1=cH k a.1/\∃x∈c.2,x.1=a.1:=by
 unfold fE;split;rename_i i b;refine⟨_,List.mem_set (h:=(aZ.1 b).1) ..,?_,Qt _ _⟩;rw[xH];simpa using(aZ.1 b).2.1;exact⟨(cH k a.1,[a]),by simp,rfl,a,by simp,rfl⟩
def fT{k:Nat}{st:List ar}(h:dp k st=true):st.length≠0:=by have:=(cE.1 h).2;omega
def gY{k:Nat}{st:List ar}{s:List ai}(h:st.length≠0):(bz k st s).toNat<st.length/\((bz k st s).toNat:Int)=bz k st s:=by
 have:=xV (f:=cH k s) (n:=(st.length:Int)) (by omega);unfold bz;omega
def sJ{k:Nat}{st:List ar}{a:ae}(h:st.length≠0):cZ k st a=(st.set (bz k st a.1).toNat (fE k (st.getD (bz k st a.1).toNat ah.aa) a).1,(fE k (st.getD (bz k st a.1).toNat ah.aa) a).2):=by
 unfold cZ;rw[a_ h]
def Kk{k:Nat}{st:List ar}{a:ae}(h:dp k st=true)(g:cw a=true)(r:∀p∈st,p.2.1<4611686018427387904):
 dp k (cZ k st a).1=true/\(cZ k st a).1.length=st.length/\bq (cZ k st a).1=bq st+(if(cZ k st a).2=true then 1 else 0)/\
 (bL k (cZ k st a).1 a.1).2=true/\((∀x∈bU st,cw x=true)->∀x∈bU (cZ k st a).1,cw x=true):=by
 have j:=fT h;obtain⟨e,v⟩:=gY (k:=k) (s:=a.1) j;rw[sJ j];have u:=(cE.1 h).1 _ e;have m:=Vy u g (by rw[v];rfl) (r _ (bK e));refine⟨vl h m,by simp,?_,?_,?_⟩;have:=count_set (l:=st) (p:=(fE k (st.getD (bz k st a.1).toNat ah.aa) a).1) e;have:=Tx (k:=k) (p:=st.getD (bz k st a.1).toNat ah.aa) (a:=a);dsimp only;omega;unfold bL;rw[a_ (by simpa using j),show bz k (st.set (bz k st a.1).toNat (fE k (st.getD (bz k st a.1).toNat ah.aa) a).1) a.1=bz k st a.1 by unfold bz;rw[av4],aT _ _ e];exact(Qd (dM.1 m).2.1).2 Qe;intro f x d;rcases zO d with d|d;exact f x d;have o:∀y∈aW (st.getD (bz k st a.1).toNat ah.aa),y∈bU st:=fun y q=>avU.2 ⟨_,bK e,q⟩;rcases Tz d with d|rfl|⟨b,w,rfl⟩;exact f x (o x d);exact g;exact Ni (fm (f b (o b w))) g
def zD{k:Nat}{st:List ar}{s:List ai}(h:(bL k st s).2=true):(bL k st s).1.1=s/\(bL k st s).1∈bU st:=by
 unfold bL at h|-;split at h;cases h;rename_i a;rw[a_ a];have:=OW h;exact⟨this.1,avU.2 ⟨_,bK (gY a).1,this.2⟩⟩
def MR{k:Nat}{st a:List ar}{s:List ai}(b:a.length=st.length)(h:(a.getD (bz k st s).toNat ah.aa).2.2=(st.getD (bz k st s).toNat ah.aa).2.2):bL k a s=bL k st s:=by
 unfold bL;rw[b,show bz k a s=bz k st s by unfold bz;rw[b],OY h]
def TM{k:Nat}{p:ar}{a:ae}(hp:oo p.2.2):(fE k p a).2= !(fg k p a.1).2:=by
 unfold fE fg;cases h:fx p (cH k a.1)with
 |none=>rfl
 |some i=>cases b:fI (p.2.2.getD i ax.aa).2 a.1<;>simp only[b]<;>rfl
def KK{k:Nat}{st:List ar}{a:ae}(h:dp k st=true):(cZ k st a).2= !(bL k st a.1).2:=by
 have b:=fT h;obtain⟨d,h2⟩:=gY (k:=k) (s:=a.1) b;rw[sJ b];unfold bL;rw[a_ b];exact TM (dM.1 ((cE.1 h).1 _ d)).2.1
/-! sweeping-/
def AO{O:Int}{l:List ae}{a:ae}:a∈dC O l->a∈l:=by
 unfold dC;intro h;exact(awt.1 h).1
def Tm{k:Nat}{O:Int}{c:aP}(h:dn k c=true)(d:0<(ic O c).2.length):dn k (ic O c)=true:=by
 rw[oq]at h|-;refine⟨fun a b=>h.1 a (AO b),d,?_⟩;unfold ic dC;exact h.2.2.filter _
def Oc{O:Int}{l:List aP}{c:aP}(h:c∈jV O l):0<c.2.length/\∃b∈l,c=ic O b:=by
 unfold jV at h;obtain⟨a,d⟩:=awt.1 h;obtain⟨b,f,e⟩:=List.mem_map.1 a;exact⟨by simpa using d,b,f,e.symm⟩
def To{O:Int}{l:List aP}(h:oo l):oo (jV O l):=by
 unfold jV oo;refine List.Pairwise.filter _ ?_;exact av1.2 h
def Sd{k:Nat}{p:ar}{O q n:Int}(h:eQ k p q n=true)(hv:p.2.1<4611686018427387904):eQ k (dU p O) q n=true:=by
 rw[dM]at h|-;obtain⟨a,e,f,g⟩:=h;refine⟨fun c hc=> ?_,To e,f,?_⟩;obtain⟨j,b,d,rfl⟩:=Oc hc;exact⟨Tm (a b d).1 j,(a b d).2⟩;unfold dU;dsimp only;split;rw[wrap64 (by omega) (by omega)];omega;exact g
def N2(O:Int)(l:List ae):(dC O l).length+(iV O l).length=l.length:=by
 unfold dC iV
 induction l with
 |nil=>rfl
 |cons a l b=>
  simp only[awG];by_cases h:a.2.2.1<=O;simp[h]at b|-;omega;simp[h]at b|-;omega
def Q7(O:Int)(l:List aP):(jV O l).flatMap j9=l.flatMap fun c=>dC O c.2:=by
 unfold jV
 induction l with
 |nil=>rfl
 |cons c l a=>
  simp only[List.map_cons,awG,av0];by_cases h:(0:Nat)<(ic O c).2.length;simp only[c_ h,if_true,av0,a];rfl;simp only[decide_eq_false h,awg,if_false,a];have:dC O c.2=[]:=List.eq_nil_of_length_eq_zero (by unfold ic at h;simpa using h);rw[this];rfl
def zA(p:ar)(O:Int):(aW (dU p O)).length+(db O p.2.2).length=(aW p).length:=by
 unfold aW dU db;simp only[Q7]
 induction p.2.2 with
 |nil=>rfl
 |cons c l a=>
  simp only[av0,K_,j9]at a|-;have:=N2 O c.2;omega
def RP{p:ar}{O:Int}{a:ae}(h:a∈aW (dU p O)):a∈aW p:=by
 obtain⟨c,hc,d⟩:=avU.1 h;obtain⟨g1,b,e,rfl⟩:=Oc hc;exact avU.2 ⟨b,e,AO d⟩
def P6{k:Nat}{p:ar}{O q n:Int}(h:eQ k p q n=true)(d:¬0<(db O p.2.2).length):dU p O=p:=by
 have f:=(dM.1 h).1;unfold dU;rw[a_ d]
 have j:∀c∈p.2.2,ic O c=c:=by
  intro c hc
  have l:iV O c.2=[]:=by
   refine List.eq_nil_iff_forall_not_mem.2 fun a e=>d ?_;exact List.length_pos_of_mem (avU.2 ⟨c,hc,e⟩)
  have b:=N2 O c.2;rw[l]at b
  have m:dC O c.2=c.2:=by
   unfold dC at b|-;exact(List.filter_sublist).eq_of_length (by simpa using b)
  unfold ic;rw[m]
 have:jV O p.2.2=p.2.2:=by
  unfold jV;rw[List.map_congr_left (g:=id) (fun c hc=>j c hc),List.map_id];refine List.filter_eq_self.2 fun c hc=> ?_;simpa using(oq.1 (f c hc).1).2.1
 rw[this]
def rI(k:Nat)(ti:Int)(l:List aC):Prop:=∀d∈l,er k d=true/\d.2.2.2.2.2.2.2.2.2.1<ti/\d.2.2.2.2.2.2.2.2.2.2.1<ti/\d.2.2.2.2.2.2.2.2.2.2.2<ti
structure zP(k:Nat)(c:bh)(st:List ar):Prop where
 ok:dp k st=true
 len:(st.length:Int)=c.1
 cap:(bq st:Int)<=c.2.1
 fit:∀a∈bU st,cw a=true
structure xP(c:bh)(Z:List bg)(U V:List ae):Prop where
 len:(Z.length:Int)=c.2.2.1
 sub:∀s∈Z,eL s=true
 fee:∀a∈U,bj a=true
 sai:∀a∈V,bj a=true
structure rJ(k:Nat)(st:List ar)(E:List aF)(gr:Int):Prop where
 pt:∀q,q<st.length->∀j,j<5->(bn k (E.getD j ak.aa) st.length=(q:Int)↔(st.getD q ah.aa).1=(j:Int))
 gp:∀j,j<5->(cA (E.getD j ak.aa)=true↔gr=(j:Int))
 gr: -1<=gr/\gr<=4
structure tQ(c:bh)(O:Int)(A:List au)(nn:Int)(T:List aJ)(t4:aF):Prop where
 go:dR A c.2.2.2.2.2=true
 ho:jx T=true
 tm:∀x∈T,x.2<nn
 ap:T.Pairwise (fun a b=>¬a.2=b.2)
 td:∀g∈A,g.2.2.1<=O/\g.2.2.2.1<=O/\g.1<nn/\((∃x∈T,x.2=g.1/\x.1=iq c g)\/(t4.1=6/\t4.2.2.2.2.2.2.2.1=g.1))
def sg(k:Nat)(c1:Int)(st:List ar)(nn:Int)(t:aF)(d:aC):Bool:=
 if t.1=1 then
  decide (d.1=1)&&(if t.2.1=2 then decide (d.2.2.1.1=t.2.2.1.1)&&(bL k st t.2.2.1.1).2&&decide ((bL k st t.2.2.1.1).1=t.2.2.1)else decide (d.2.2.1=t.2.2.1)&&cw t.2.2.1)
 else if t.1=2 then decide (d.1=3)&&decide (d.2.2.2.1=t.2.2.2.1)
 else if t.1=3 then decide (d.1=4)&&((if t.2.1=2 then decide ((t.2.2.2.2.2.1.length:Int)=c1)else decide (t.2.2.2.2.1<c1))&&dm st t)
 else if t.1=4 then decide (d.1=6)&&decide (t.2.2.2.2.1<c1)
 else if t.1=5 then decide (d.1=7)&&decide (d.2.2.1=t.2.2.1)
 else decide (d.1=8)&&(decide (d.2.2.2.2.2.1=t.2.2.2.2.2.2.2.1)&&decide (t.2.2.2.2.2.2.2.1<nn))
def cC(k:Nat)(c1:Int)(st:List ar)(nn m:Int)(t:aF)(d:aC)(n:Int):Bool:=
 cV t n&&(decide (t.1=0)||(decide (t.2.2.2.2.2.2.2.2<m)&&(decide (d.2.1=n)&&decide (d.2.2.2.2.2.2.2.2.2.2.2= -1)&&
  decide ((¬d.2.2.2.2.2.2.2.2.2.2.1= -1)↔(t.1=1/\t.2.1=2))&&sg k c1 st nn t d)))
def Ut(k:Nat)(c1:Int)(st:List ar)(nn:Int)(E:List aF)(M:List aC):Prop:=
 ∀i,i<5->cC k c1 st nn (M.length:Int) (E.getD i ak.aa) (M.getD (bf (E.getD i ak.aa)).toNat aw.aa) (i:Int)=true
structure Rt(k:Nat)(c:bh)(ti O:Int)(st:List ar)(Z:List bg)(U:List ae)(gr:Int)(A:List au)(nn:Int)(T:List aJ)(V:List ae)
 (E:List aF) (M:List aC):Prop where
 cf:cR c=true
 ti0:0<=ti
 nn0:0<=nn
 nw:0<=O/\O<=99899
 sto:zP k c st
 sub:xP c Z U V
 dee:rI k ti M
 tl:E.length=5
 tas:Ut k c.1 st nn E M
 loc:rJ k st E gr
 grp:tQ c O A nn T (E.getD 4 ak.aa)
def Nv{l:List ae}{a:ae}:a∈dE l↔a∈l:=by
 unfold dE;exact(rT dG l).mem_iff
def Vw{α:Type}{l:List α}{d:α}{p:α->Bool}:(!bA 0 l.length (fun i=> !p (l.getD i d)))=true↔∃x∈l,p x=true:=by
 rw[av8,<-awH,dK (p:=fun x=> !p x)];simp
def RJ{c:bh}{ti O gr nn:Int}{st:List ar}{Z:List bg}{U V:List ae}{A:List au}{T:List aJ}{n_:List br}{E:List aF}{M:List aC}:
 dB (c,ti,O,st,Z,U,gr,A,nn,T,n_,V,E,M)=true↔tQ c O A nn T (E.getD 4 ak.aa):=by
 unfold dB o9 pd;simp only[lk]
 rw[jH,lk,dK (l:=T) (d:=aD.aa) (p:=fun x=>decide (x.2<nn)),
  dK (l:=A) (d:=aj.aa) (p:=fun g=>(decide (g.2.2.1<=O)&&(decide (g.2.2.2.1<=O)&&decide (g.1<nn)))&&eu (c,ti,O,st,Z,U,gr,A,nn,T,n_,V,E,M) g T.length)]
 have b:∀g:au,eu (c,ti,O,st,Z,U,gr,A,nn,T,n_,V,E,M) g T.length=true↔((∃x∈T,x.2=g.1/\x.1=iq c g)\/((E.getD 4 ak.aa).1=6/\(E.getD 4 ak.aa).2.2.2.2.2.2.2.1=g.1)):=by
  intro g;unfold eu Em;rw[avT];refine or_congr ?_ ?_;refine(Vw (l:=T) (d:=aD.aa) (p:=fun x=>decide (x.2=g.1)&&decide (x.1=iq c g))).trans ?_;simp only[lk,b_];dsimp only;split;rename_i h;simp only[b_]at h|-;exact⟨fun a=>⟨h,a⟩,fun a=>a.2⟩;rename_i h;simp only[b_]at h|-;exact⟨fun a=>(by cases a),fun a=>absurd a.1 h⟩
 constructor;rintro⟨a,r,⟨s,e⟩,u⟩;refine⟨a,r,fun x f=>e_ (s x f),?_,fun g m=> ?_⟩;rw[<-kI (d:=aD.aa)];intro i o j q;have:=ck.1 (ck.1 e i (by omega) o) j (by omega) q;simpa using this;have:=u g m;simp only[lk,b_,b]at this;exact⟨this.1.1,this.1.2.1,this.1.2.2,this.2⟩;rintro⟨a,r,s,e,u⟩;refine⟨a,r,⟨fun x f=>c_ (s x f),?_⟩,fun g m=> ?_⟩;rw[<-kI (d:=aD.aa)]at e;refine ck.2 fun i _ o=>ck.2 fun j _ q=> ?_;simpa using e i o j q;have:=u g m;simp only[lk,b_,b];exact⟨⟨this.1,this.2.1,this.2.2.1⟩,this.2.2.2⟩
def KJ{k:Nat}{c:bh}{ti O gr nn:Int}{st:List ar}{Z:List bg}{U V:List ae}{A:List au}{T:List aJ}{n_:List br}{E:List aF}{M:List aC}(g:E.length=5):
 gN k (c,ti,O,st,Z,U,gr,A,nn,T,n_,V,E,M)=true↔rJ k st E gr:=by
 unfold gN bQ dS;simp only[lk,ck,beq_iff_eq,g,bc,b_,decide_eq_decide];constructor;rintro⟨d,e,f⟩;exact⟨fun q b j a=>d q (by omega) b j (by omega) a,fun j a=>by have:=e j (by omega) a;rw[this];simp,f⟩;rintro⟨d,e,f⟩;refine⟨fun q _ b j _ a=>d q b j a,fun j _ a=> ?_,f⟩;rw[Bool.eq_iff_iff,e j a];simp
def bR{k:Nat}{c:bh}{ti O gr nn:Int}{st:List ar}{Z:List bg}{U V:List ae}{A:List au}{T:List aJ}{n_:List br}{E:List aF}{M:List aC}:
 bC k (c,ti,O,st,Z,U,gr,A,nn,T,n_,V,E,M)=true↔Rt k c ti O st Z U gr A nn T V E M:=by
 unfold bC e9 kz fi bB pE;simp only[lk,b_,RJ]
 rw[dK (d:=ab.aa) (p:=cw),dK (d:=ab.aa) (p:=bj),dK (d:=ab.aa) (p:=bj),dK (d:=aU.aa) (p:=eL),
  dK (l:=M) (d:=aw.aa) (p:=fun d=>kN k (c,ti,O,st,Z,U,gr,A,nn,T,n_,V,E,M) d)]
 have s:bc O 0 99899=true↔0<=O/\O<=99899:=by unfold bc;simp
 have u:(∀d∈M,kN k (c,ti,O,st,Z,U,gr,A,nn,T,n_,V,E,M) d=true)↔rI k ti M:=by
  unfold rI kN;simp only[lk,b_]
 have v:(∀a∈dE (bU st),cw a=true)↔∀a∈bU st,cw a=true:=by
  constructor;intro h a e;exact h a (Nv.2 e);intro h a e;exact h a (Nv.1 e)
 have r:∀b:E.length=5,bA 0 E.length (fun i=>cJ k (c,ti,O,st,Z,U,gr,A,nn,T,n_,V,E,M) (E.getD i ak.aa) (jO (c,ti,O,st,Z,U,gr,A,nn,T,n_,V,E,M) (E.getD i ak.aa)) i)=true↔Ut k c.1 st nn E M:=by
  intro b;rw[ck,b];exact⟨fun h i f=>h i (by omega) f,fun h i _ f=>h i f⟩
 rw[s,u,v];constructor;rintro⟨g,j,m,o,⟨q,h6,h7,h8⟩,h9,nX,xe,mE,vq,FJ,Kv,St,RO⟩;have b:E.length=5:=by omega
 exact⟨g,j,m,o,⟨q,h6,h7,h8⟩,⟨h9,vq,xe,mE⟩,FJ,b,(r b).1 Kv,(KJ b).1 St,RO⟩;rintro⟨g,j,m,o,⟨q,h6,h7,h8⟩,⟨h9,vq,xe,mE⟩,FJ,b,Kv,St,RO⟩;exact⟨g,j,m,o,⟨q,h6,h7,h8⟩,h9,by show(E.length:Int)=5;omega,xe,mE,vq,FJ,(r b).2 Kv,(KJ b).2 St,RO⟩
structure fO(i:Nat)(st st':List ar):Prop where
 len:st'.length=st.length
 pt:∀p,p<st.length->(st'.getD p ah.aa).2=(st.getD p ah.aa).2\/((st.getD p ah.aa).1=(i:Int)/\(st.getD p ah.aa).2.1<(st'.getD p ah.aa).2.1)
structure dV(i:Nat)(l l':List aC):Prop where
 len:l.length<=l'.length
 at_:∀n,n<l.length->¬(l.getD n aw.aa).2.1=(i:Int)->l'.getD n aw.aa=l.getD n aw.aa
def tB{st:List ar}{t:aF}:dm st t=true↔(∀i,i<t.2.2.2.2.2.1.length->t.2.2.2.2.2.1.getD i 0<=(st.getD i ah.aa).2.1)/\
 ((∀i,i<t.2.2.2.2.2.1.length->t.2.2.2.2.2.1.getD i 0=(st.getD i ah.aa).2.1)->(st.take t.2.2.2.2.2.1.length).flatMap aW=t.2.2.2.2.2.2.1):=by
 unfold dm xG;rw[lk,ck,avT,av8,<-awH];unfold gC;rw[ck];simp only[av8,d_,b_];refine and_congr ⟨fun h i a=>by have:=h i (by omega) a;omega,fun h i _ a=>by have:=h i a;omega⟩ ?_;constructor;rintro(h|h) g;exact absurd (fun i _ a=>g i a) h;exact h;intro h;by_cases g:∀i,i<t.2.2.2.2.2.1.length->t.2.2.2.2.2.1.getD i 0=(st.getD i ah.aa).2.1;exact .inr (h g);exact .inl fun b=>g fun i a=>b i (by omega) a
def IA{st a:List ar}{n:Nat}(e:a.length=st.length)(h:∀p,p<n->p<st.length->(a.getD p ah.aa).2=(st.getD p ah.aa).2):
 (a.take n).flatMap aW=(st.take n).flatMap aW:=by
 rw[awq,awq];congr 1;apply awF (by simp[e]);intro p b d;simp only[List.length_map,awi]at b d;have:=h p (by omega) (by omega);rw[cx _ (by omega),cx _ (by omega)]at this;simp only[List.getElem_map,awb];unfold aW;rw[this]
def Aq{i:Nat}{st d:List ar}{t:aF}(hs:fO i st d)(hl:t.2.2.2.2.2.1.length<=st.length)(h:dm st t=true):dm d t=true:=by
 rw[tB]at h|-
 have f:∀p,p<st.length->(st.getD p ah.aa).2.1<=(d.getD p ah.aa).2.1:=by
  intro p a;rcases hs.pt p a with e|e;rw[e];exact sd _;omega
 refine⟨fun p a=>Int.le_trans (h.1 p a) (f p (by omega)),fun g=> ?_⟩
 have b:∀p,p<t.2.2.2.2.2.1.length->(d.getD p ah.aa).2=(st.getD p ah.aa).2:=by
  intro p a;rcases hs.pt p (by omega)with e|e;exact e;have:=g p a;have:=h.1 p a;omega
 rw[IA hs.len (fun p a _=>b p a)];exact h.2 fun p a=>by rw[g p a,b p a]
def CA{k:Nat}{c1 nn m b e n:Int}{st a:List ar}{t:aF}{d:aC}(h:cC k c1 st nn m t d n=true)(hm:m<=e)(hn:nn<=b)
 (hput:t.1=1->t.2.1=2->bL k a t.2.2.1.1=bL k st t.2.2.1.1) (hsee:t.1=3->dm st t=true->dm a t=true):cC k c1 a b e t d n=true:=by
 unfold cC sg at*
 grind
def PL{k:Nat}{c1 nn m n:Int}{st:List ar}{t:aF}{d:aC}(h:cC k c1 st nn m t d n=true)(hc:(st.length:Int)=c1)(h3:t.1=3):t.2.2.2.2.2.1.length<=st.length:=by
 unfold cC sg cV bc at h;grind
def uk{k:Nat}{c1 nn m n:Int}{st:List ar}{t:aF}{d:aC}(h:cC k c1 st nn m t d n=true)(h0:¬t.1=0):d.2.1=n/\0<=bf t/\bf t<m:=by
 unfold cC cV bc at h;unfold bf;grind
def EO{k:Nat}{c1 nn m n a e:Int}{st b:List ar}{t:aF}{d d':aC}(h:cC k c1 st nn m t d n=true)(h0:t.1=0):cC k c1 b a e t d' n=true:=by
 unfold cC at*
 grind
def TR{k:Nat}{c1 nn d gr:Int}{st f:List ar}{E:List aF}{M a:List aC}{i:Nat}{t':aF}(hi:i<5)(tl:E.length=5)(hc:(st.length:Int)=c1)(w:st.length≠0)
 (x:rJ k st E gr) (h:Ut k c1 st nn E M) (hs:fO i st f) (y:nn<=d) (l:dV i M a)
 (z:cC k c1 f d (a.length:Int) t' (a.getD (bf t').toNat aw.aa) (i:Int)=true):Ut k c1 f d (E.set i t') a:=by
 intro j g;by_cases e:i=j;subst e;rw[aT _ _ (by omega)];exact z;rw[getD_set_ne _ _ e];have b:=h j g;by_cases m:(E.getD j ak.aa).1=0;exact EO b m;obtain⟨B,b2,b3⟩:=uk b m;rw[l.at_ _ (by omega) (by rw[B];omega)];refine CA b (by have:=l.len;omega) y (fun q r=> ?_) (fun u v=>Aq hs (PL b hc u) v);refine MR hs.len ?_;obtain⟨o,C⟩:=gY (k:=k) (s:=(E.getD j ak.aa).2.2.1.1) w
 have hold:bn k (E.getD j ak.aa) st.length=((bz k st (E.getD j ak.aa).2.2.1.1).toNat:Int):=by
  unfold bn;rw[a_ (by omega),an ⟨q,.inr r⟩,C];rfl
 have hh:=(x.pt _ o j g).1 hold;rcases hs.pt _ o with p|p;rw[p];omega
def wz{k:Nat}{gr l:Int}{st f:List ar}{E:List aF}{i:Nat}{t t':aF}(u:i<5)(tl:E.length=5)(m:rJ k st E gr)(w:E.getD i ak.aa=t)(x:f.length=st.length)
 (y:∀q,q<st.length->(f.getD q ah.aa).1=if bn k t' st.length=(q:Int)then(i:Int)else if bn k t st.length=(q:Int)then-1 else(st.getD q ah.aa).1)
 (z:∀q,q<st.length->bn k t' st.length=(q:Int)->bn k t st.length=(q:Int)\/(st.getD q ah.aa).1= -1)
 (p:l=if cA t'=true then(i:Int)else if cA t=true then-1 else gr) (r:cA t'=true->cA t=true\/gr= -1):rJ k f (E.set i t') l:=by
 subst w;refine⟨fun q g j o=> ?_,fun j o=> ?_,?_⟩;rw[x]at g|-;have s:=m.pt q g j o;have d:=m.pt q g i u;have v:=y q g;have B:=z q g;by_cases e:i=j;subst e;rw[aT _ _ (by omega),v];by_cases b:bn k t' st.length=(q:Int)
 simp[b];rw[a_ b];by_cases a:bn k (E.getD i ak.aa) st.length=(q:Int)
 rw[an a];constructor;intro h;exact absurd h b;intro h;omega;rw[a_ a];constructor;intro h;exact absurd h b;intro h;exact absurd (d.2 h) a;rw[getD_set_ne _ _ e,v,s];by_cases b:bn k t' st.length=(q:Int)
 rw[an b];rcases B b with a|a;have:=d.1 a;omega;omega;rw[a_ b];by_cases a:bn k (E.getD i ak.aa) st.length=(q:Int)
 rw[an a];have:=d.1 a;omega;rw[a_ a];have s:=m.gp j o;have d:=m.gp i u;by_cases e:i=j;subst e;rw[aT _ _ (by omega),p];by_cases b:cA t'=true;simp[b];rw[a_ b];by_cases a:cA (E.getD i ak.aa)=true;rw[an a];constructor;intro h;exact absurd h b;intro h;omega;rw[a_ a];constructor;intro h;exact absurd h b;intro h;exact absurd (d.2 h) a;rw[getD_set_ne _ _ e,p,s];by_cases b:cA t'=true;rw[an b];rcases r b with a|a;have:=d.1 a;omega;omega;rw[a_ b];by_cases a:cA (E.getD i ak.aa)=true;rw[an a];have:=d.1 a;omega;rw[a_ a];have:=m.gr;rw[p];split;omega;split<;>omega
/-! M-/
theorem rI.up{k:Nat}{ti a:Int}{l:List aC}(h:rI k ti l)(ht:ti<=a):rI k a l:=fun d b=>by
 have:=h d b;exact⟨this.1,by omega,by omega,by omega⟩
theorem rI.app{k:Nat}{ti:Int}{l:List aC}{d:aC}(h:rI k ti l)(b:er k d=true/\d.2.2.2.2.2.2.2.2.2.1<ti/\d.2.2.2.2.2.2.2.2.2.2.1<ti/\d.2.2.2.2.2.2.2.2.2.2.2<ti):rI k ti (l++[d]):=fun x a=>by
 rcases V_.1 a with a|a;exact h x a;rw[H'.1 a];exact b
theorem rI.put{k:Nat}{ti:Int}{l:List aC}{d:aC}{n:Nat}(h:rI k ti l)(b:er k d=true/\d.2.2.2.2.2.2.2.2.2.1<ti/\d.2.2.2.2.2.2.2.2.2.2.1<ti/\d.2.2.2.2.2.2.2.2.2.2.2<ti):rI k ti (l.set n d):=fun x a=>by
 rcases avX a with a|rfl;exact h x a;exact b
theorem dV.refl(i:Nat)(l:List aC):dV i l l:=⟨awe _,fun _ _ _=>rfl⟩
theorem dV.app(i:Nat)(l:List aC)(d:aC):dV i l (l++[d]):=⟨by simp,fun n a _=>by
 rw[avV,awf a,<-avV]⟩
theorem dV.put{i:Nat}{l:List aC}{n:Nat}{d:aC}(h:(l.getD n aw.aa).2.1=(i:Int)):dV i l (l.set n d):=⟨by simp,fun m hm a=>by
 by_cases e:n=m;subst e;exact absurd h a;rw[getD_set_ne _ _ e]⟩
theorem dV.trans{i:Nat}{l o b:List aC}(h:dV i l o)(p:dV i o b):dV i l b:=⟨aws h.len p.len,fun n e a=>by
 rw[<-h.at_ n e a];exact p.at_ n (Nat.lt_of_lt_of_le e h.len) (by rw[h.at_ n e a];exact a)⟩
theorem fO.refl(i:Nat)(st:List ar):fO i st st:=⟨rfl,fun _ _=> .inl rfl⟩
theorem fO.held(i:Nat)(st:List ar)(j:Nat)(x:Int):fO i st (bT st j x):=by
 refine⟨by simp[bT],fun p a=> .inl ?_⟩;unfold bT;by_cases e:j=p;subst e;rw[aT _ _ a];rw[getD_set_ne _ _ e]
def oW{k:Nat}{c1 nn m:Int}{st:List ar}{d:aC}{i:Nat}(hi:i<5):cC k c1 st nn m zT d (i:Int)=true:=by
 unfold cC cV bc;have a:decide ((0:Int)<=(i:Int))=true:=c_ (by omega);have b:decide ((i:Int)<=4)=true:=c_ (by omega);simp[a,b,zT]
def zI{k:Nat}{op i n O ti:Int}{a:ae}{l:List ai}(ho:1<=op/\op<=9)(hi: -1<=i/\i<=4)(hn:0<=n)(hw:0<=O)(ht:0<=ti):
 er k (op,i,a,l,0,n,0,[],O,ti,-1,-1)=true:=by
 unfold er bc;simp;omega
def sq{k:Nat}{s x:Bool}{d:aC}{O ti code:Int}{got:List ae}(h:er k d=true)(hw:0<=O)(h1:d.2.2.2.2.2.2.2.2.2.1<ti)(h2:d.2.2.2.2.2.2.2.2.2.2.1<ti)(ht:0<=ti)(hc:code∈eN d.1):
 er k (dA s x d O ti code got)=true/\(dA s x d O ti code got).2.2.2.2.2.2.2.2.2.1<ti+1/\(dA s x d O ti code got).2.2.2.2.2.2.2.2.2.2.1<ti+1/\(dA s x d O ti code got).2.2.2.2.2.2.2.2.2.2.2<ti+1:=by
 obtain⟨op,task,a,l,i,n,cd,gt,nw,inv,b,res⟩:=d;unfold dA ot Lj nT xQ lP cW;unfold er bc at*
 simp only[lk,avT,b_]at*
 by_cases e:b= -1;subst e;cases s<;>cases x<;>simp[hc]<;>omega;cases s<;>cases x<;>simp[e]at h|-<;>(refine⟨⟨?_,h.2⟩,?_,?_⟩<;>omega)
def qq{ti:Int}(h0:0<=ti)(h:ti<4611686018427387904):tick ti=ti+1:=by
 unfold tick;rw[wrap64 (by omega) (by omega)]
def dx{k:Nat}{t:aF}{n:Int}(h:t.2.1=0\/t.1=0\/5<=t.1\/(t.1=3/\t.2.1=2)):bn k t n= -1:=by
 unfold bn;grind
def pW{k:Nat}{t:aF}{st:List ar}(a:st.length≠0)(h:t.1=1)(b:t.2.1=1\/t.2.1=2):bn k t st.length=((bz k st t.2.2.1.1).toNat:Int):=by
 rw[(gY a).2];unfold bn;rw[a_ (by omega),an ⟨h,b⟩];rfl
def xU{k:Nat}{t:aF}{st:List ar}(a:st.length≠0)(h:t.1=2)(b:t.2.1=1):bn k t st.length=((bz k st t.2.2.2.1).toNat:Int):=by
 rw[(gY a).2];unfold bn;rw[a_ (by omega),a_ (by omega),an ⟨h,b⟩];rfl
def xI{k:Nat}{t:aF}{st:List ar}(h0:st.length≠0)(h:t.1=3\/t.1=4)(a:t.2.1=1):bn k t st.length=t.2.2.2.2.1:=by
 unfold bn;rw[a_ (by omega),a_ (by omega),a_ (by omega),an ⟨h,a⟩]
def eX{t:aF}(h:t.1<5\/t.2.1=0):cA t=false:=by
 unfold cA;have:¬((t.1=5\/t.1=6)/\t.2.1=1):=by omega
 simpa using this
def gF{k:Nat}{c1 nn m n:Int}{st:List ar}{t:aF}{d:aC}(a:t.1=1):cC k c1 st nn m t d n=true↔
 (0<=n/\n<3/\0<=t.2.2.2.2.2.2.2.2/\0<=t.2.1/\t.2.1<=2/\bj t.2.2.1=true/\t.2.2.2.1=[]/\t.2.2.2.2.1=0/\t.2.2.2.2.2.1=[]/\t.2.2.2.2.2.2.1=[]/\t.2.2.2.2.2.2.2.1=0)/\
 t.2.2.2.2.2.2.2.2<m/\d.2.1=n/\d.2.2.2.2.2.2.2.2.2.2.2= -1/\(¬d.2.2.2.2.2.2.2.2.2.2.1= -1↔t.2.1=2)/\d.1=1/\
 (if t.2.1=2 then d.2.2.1.1=t.2.2.1.1/\(bL k st t.2.2.1.1).2=true/\(bL k st t.2.2.1.1).1=t.2.2.1 else d.2.2.1=t.2.2.1/\cw t.2.2.1=true):=by
 unfold cC sg cV bc ow;by_cases b:t.2.1=2;simp only[a,b,if_true,lk,avT,b_];grind;simp only[a,b,if_true,if_false,lk,avT,b_];grind
def pf{k:Nat}{c1 nn m n:Int}{st:List ar}{t:aF}{d:aC}(a:t.1=2):cC k c1 st nn m t d n=true↔
 (0<=n/\n<3/\0<=t.2.2.2.2.2.2.2.2/\0<=t.2.1/\t.2.1<=1/\t.2.2.1=cF/\dt t.2.2.2.1=true/\t.2.2.2.2.1=0/\t.2.2.2.2.2.1=[]/\t.2.2.2.2.2.2.1=[]/\t.2.2.2.2.2.2.2.1=0)/\
 t.2.2.2.2.2.2.2.2<m/\d.2.1=n/\d.2.2.2.2.2.2.2.2.2.2.2= -1/\d.2.2.2.2.2.2.2.2.2.2.1= -1/\d.1=3/\d.2.2.2.1=t.2.2.2.1:=by
 unfold cC sg cV bc ow;simp only[a,if_true,if_false,lk,avT,b_];grind
def gl{k:Nat}{c1 nn m n:Int}{st:List ar}{t:aF}{d:aC}(a:t.1=3):cC k c1 st nn m t d n=true↔
 (0<=n/\n<3/\0<=t.2.2.2.2.2.2.2.2/\0<=t.2.1/\t.2.1<=2/\t.2.2.1=cF/\t.2.2.2.1=[]/\jv t.2.2.2.2.2.1=true/\(t.2.2.2.2.2.1.length:Int)=t.2.2.2.2.1/\bB t.2.2.2.2.2.2.1=true/\t.2.2.2.2.2.2.2.1=0)/\
 t.2.2.2.2.2.2.2.2<m/\d.2.1=n/\d.2.2.2.2.2.2.2.2.2.2.2= -1/\d.2.2.2.2.2.2.2.2.2.2.1= -1/\d.1=4/\dm st t=true/\
 (if t.2.1=2 then 1<=t.2.2.2.2.1/\t.2.2.2.2.1<=3/\t.2.2.2.2.1=c1 else 0<=t.2.2.2.2.1/\t.2.2.2.2.1<=2/\t.2.2.2.2.1<c1):=by
 unfold cC sg cV bc ow;by_cases b:t.2.1=2;simp only[a,b,if_true,if_false,lk,avT,b_];grind;simp only[a,b,if_true,if_false,lk,avT,b_];grind
def gD{k:Nat}{c1 nn m n:Int}{st:List ar}{t:aF}{d:aC}(a:t.1=4):cC k c1 st nn m t d n=true↔
 (0<=n/\n<3/\0<=t.2.2.2.2.2.2.2.2/\0<=t.2.1/\t.2.1<=1/\t.2.2.1=cF/\t.2.2.2.1=[]/\0<=t.2.2.2.2.1/\t.2.2.2.2.1<=2/\t.2.2.2.2.2.1=[]/\t.2.2.2.2.2.2.1=[]/\t.2.2.2.2.2.2.2.1=0)/\
 t.2.2.2.2.2.2.2.2<m/\d.2.1=n/\d.2.2.2.2.2.2.2.2.2.2.2= -1/\d.2.2.2.2.2.2.2.2.2.2.1= -1/\d.1=6/\t.2.2.2.2.1<c1:=by
 unfold cC sg cV bc ow;simp only[a,if_true,if_false,lk,avT,b_];grind
def iM{k:Nat}{c1 nn m n:Int}{st:List ar}{t:aF}{d:aC}(a:t.1=5):cC k c1 st nn m t d n=true↔
 (n=3/\0<=t.2.2.2.2.2.2.2.2/\0<=t.2.1/\t.2.1<=1/\bj t.2.2.1=true/\t.2.2.2.1=[]/\t.2.2.2.2.1=0/\t.2.2.2.2.2.1=[]/\t.2.2.2.2.2.2.1=[]/\t.2.2.2.2.2.2.2.1=0)/\
 t.2.2.2.2.2.2.2.2<m/\d.2.1=n/\d.2.2.2.2.2.2.2.2.2.2.2= -1/\d.2.2.2.2.2.2.2.2.2.2.1= -1/\d.1=7/\d.2.2.1=t.2.2.1:=by
 unfold cC sg cV bc ow;simp only[a,if_true,if_false,lk,avT,b_];grind
def gj{k:Nat}{c1 nn m n:Int}{st:List ar}{t:aF}{d:aC}(a:t.1=6):cC k c1 st nn m t d n=true↔
 (n=4/\0<=t.2.2.2.2.2.2.2.2/\0<=t.2.1/\t.2.1<=1/\t.2.2.1=cF/\t.2.2.2.1=[]/\t.2.2.2.2.1=0/\t.2.2.2.2.2.1=[]/\t.2.2.2.2.2.2.1=[]/\0<=t.2.2.2.2.2.2.2.1)/\
 t.2.2.2.2.2.2.2.2<m/\d.2.1=n/\d.2.2.2.2.2.2.2.2.2.2.2= -1/\d.2.2.2.2.2.2.2.2.2.2.1= -1/\d.1=8/\d.2.2.2.2.2.1=t.2.2.2.2.2.2.2.1/\t.2.2.2.2.2.2.2.1<nn:=by
 unfold cC sg cV bc ow;simp only[a,if_true,if_false,lk,avT,b_];grind
section
variable{k:Nat}{c:bh}{ti O gr nn:Int}{st:List ar}{Z:List bg}{U V:List ae}{A:List au}{T:List aJ}{n_:List br}{E:List aF}{M:List aC}{i:Nat}{t:aF}
def Va{j:Nat}{t':aF}(d:i<5)(f:E.length=5)(g:rJ k st E gr)(l:E.getD i ak.aa=t)(h0:bn k t st.length= -1)(m:bn k t' st.length=(j:Int))(hj:j<st.length)
 (o:(st.getD j ah.aa).1= -1) (p:cA t=false) (b:cA t'=false):rJ k (bT st j (i:Int)) (E.set i t') gr:=by
 refine wz d f g l (by simp[bT]) (fun q a=> ?_) (fun q a hh=> ?_) (by rw[p,b];rfl) (by rw[b];intro h;cases h);unfold bT;by_cases e:j=q;subst e;rw[aT _ _ a,an m];rw[getD_set_ne _ _ e,a_ (by omega),a_ (by omega)];have:j=q:=by omega
 subst this;exact .inr o
def xh{j:Nat}{t':aF}{a:List ar}(g:i<5)(l:E.length=5)(m:rJ k st E gr)(o:E.getD i ak.aa=t)(p:bn k t st.length=(j:Int))(h1:bn k t' st.length= -1)(r:a.length=st.length)
 (s:(a.getD j ah.aa).1= -1) (d:∀q,q<st.length->¬j=q->(a.getD q ah.aa).1=(st.getD q ah.aa).1) (u:cA t=false) (f:cA t'=false):rJ k a (E.set i t') gr:=by
 refine wz g l m o r (fun q b=> ?_) (fun q d hh=>by omega) (by rw[u,f];rfl) (by rw[f];intro h;cases h);rw[a_ (by omega)];by_cases e:j=q;subst e;rw[an p,s];rw[a_ (by omega),d q b e]
def vE{t':aF}{a:List ar}(d:i<5)(o:E.length=5)(f:rJ k st E gr)(p:E.getD i ak.aa=t)(j:bn k t' st.length=bn k t st.length)(r:a.length=st.length)
 (g:∀q,q<st.length->(a.getD q ah.aa).1=(st.getD q ah.aa).1) (l:cA t'=cA t):rJ k a (E.set i t') gr:=by
 subst p;refine wz d o f rfl r (fun q b=> ?_) (fun q g m=> .inl (by rw[<-j];exact m)) ?_ (fun h=> .inl (by rw[<-l];exact h));rw[j,g q b];by_cases e:bn k (E.getD i ak.aa) st.length=(q:Int)
 rw[an e,(f.pt q b i d).1 e];rw[a_ e,a_ e];rw[l];by_cases e:cA (E.getD i ak.aa)=true;rw[an e,(f.gp i d).1 e];rw[a_ e,a_ e]
def TJ{t':aF}(b:i<5)(d:E.length=5)(e:rJ k st E gr)(f:E.getD i ak.aa=t)(h0:bn k t st.length= -1)(h1:bn k t' st.length= -1)
 (g:gr= -1) (h:cA t'=true):rJ k st (E.set i t') (i:Int):=by
 refine wz b d e f rfl (fun q a=> ?_) (fun q a hh=>by omega) (by rw[h];rfl) (fun _=> .inr g);rw[a_ (by omega),a_ (by omega)]
def Oj{t':aF}(d:i<5)(e:E.length=5)(f:rJ k st E gr)(g:E.getD i ak.aa=t)(h0:bn k t st.length= -1)(h1:bn k t' st.length= -1)
 (j:cA t=true) (a:cA t'=false):rJ k st (E.set i t') (-1):=by
 refine wz d e f g rfl (fun q b=> ?_) (fun q b hh=>by omega) (by rw[j,a];rfl) (by rw[a];intro h;cases h);rw[a_ (by omega),a_ (by omega)]
def Bg{j:Nat}{x:Int}(a:j<st.length):((bT st j x).getD j ah.aa).1=x:=by
 unfold bT;rw[aT _ _ a]
def vm{j q:Nat}{x:Int}(h:¬j=q):((bT st j x).getD q ah.aa).1=(st.getD q ah.aa).1:=by
 unfold bT;rw[getD_set_ne _ _ h]
theorem zP.held{j:Nat}{x:Int}(h:zP k c st)(a:j<st.length)(b: -1<=x/\x<=4):zP k c (bT st j x):=
 ⟨VN h.ok a b,by rw[<-h.len];simp[bT],by unfold bq;rw[Cc];exact h.cap,by rw[Cc];exact h.fit⟩
def gM{t':aF}{d:List ar}{f:List bg}{g j:List ae}{o m:Int}{b:List au}{l:List aJ}{a:List aC}
 (h:Rt k c ti O st Z U gr A nn T V E M) (w:ti<4611686018427387904) (y:i<5) (p:zP k c d) (q:xP c f g j) (r:rI k (ti+1) a) (hrel:fO i st d)
 (s:dV i M a) (x:nn<=m) (z:cC k c.1 d m (a.length:Int) t' (a.getD (bf t').toNat aw.aa) (i:Int)=true) (u:rJ k d (E.set i t') o)
 (v:tQ c O b m l ((E.set i t').getD 4 ak.aa)):Rt k c (tick ti) O d f g o b m l j (E.set i t') a:=by
 have B:=fT h.sto.ok;have e:=qq h.ti0 w
 exact⟨h.cf,by have:=h.ti0;omega,by have:=h.nn0;omega,h.nw,p,q,by rw[e];exact r,by simp[h.tl],
  TR y h.tl h.sto.len B h.loc h.tas hrel x s z,u,v⟩
theorem tQ.other{t':aF}(h:tQ c O A nn T (E.getD 4 ak.aa))(a:¬i=4):tQ c O A nn T ((E.set i t').getD 4 ak.aa):=by
 rw[getD_set_ne _ _ a];exact h
def P7{c1 m n:Int}{st a:List ar}{t:aF}{d:aC}(h:cC k c1 st nn m t d n=true)(b:t.2.1=0)(ho:1<=t.1/\t.1<=4)(hs:t.1=3->dm st t=true->dm a t=true):
 cC k c1 a nn m (t.1,1,t.2.2) d n=true:=by
 obtain h1|h1|h1|h1:t.1=1\/t.1=2\/t.1=3\/t.1=4:=by omega
 have q:=(gF h1).1 h;rw[a_ (by omega)]at q;refine(gF (t:=(t.1,1,t.2.2)) h1).2 ?_;rw[a_ (by show¬(1:Int)=2;omega)];exact⟨⟨q.1.1,q.1.2.1,q.1.2.2.1,(show(0:Int)<=1 by decide),(show(1:Int)<=2 by decide),q.1.2.2.2.2.2⟩,q.2.1,q.2.2.1,q.2.2.2.1,q.2.2.2.2.1.trans (by rw[b];exact(show((0:Int)=2↔(1:Int)=2) by decide)),q.2.2.2.2.2⟩;have q:=(pf h1).1 h;exact(pf (t:=(t.1,1,t.2.2)) h1).2 ⟨⟨q.1.1,q.1.2.1,q.1.2.2.1,(show(0:Int)<=1 by decide),(show(1:Int)<=1 by decide),q.1.2.2.2.2.2⟩,q.2⟩;have q:=(gl h1).1 h;rw[a_ (by omega)]at q;refine(gl (t:=(t.1,1,t.2.2)) h1).2 ?_;rw[a_ (by show¬(1:Int)=2;omega)];exact⟨⟨q.1.1,q.1.2.1,q.1.2.2.1,(show(0:Int)<=1 by decide),(show(1:Int)<=2 by decide),q.1.2.2.2.2.2⟩,q.2.1,q.2.2.1,q.2.2.2.1,q.2.2.2.2.1,q.2.2.2.2.2.1,hs h1 q.2.2.2.2.2.2.1,q.2.2.2.2.2.2.2⟩;have q:=(gD h1).1 h;exact(gD (t:=(t.1,1,t.2.2)) h1).2 ⟨⟨q.1.1,q.1.2.1,q.1.2.2.1,(show(0:Int)<=1 by decide),(show(1:Int)<=1 by decide),q.1.2.2.2.2.2⟩,q.2⟩
def Bq{j:Nat}(h:Rt k c ti O st Z U gr A nn T V E M)(a:ti<4611686018427387904)(hi:i<3)(e:E.getD i ak.aa=t)(m:1<=t.1/\t.1<=4)(b:t.2.1=0)
 (o:bn k (t.1,1,t.2.2) st.length=(j:Int)) (f:j<st.length) (p:(st.getD j ah.aa).1= -1):
 Rt k c (tick ti) O (bT st j (i:Int)) Z U gr A nn T V (E.set i (t.1,1,t.2.2)) M:=by
 have d:=h.tas i (by omega);rw[e]at d;have q:=PL d h.sto.len
 exact gM h a (by omega) (h.sto.held f (by omega)) h.sub (h.dee.up (by omega)) (fO.held i st j i) (dV.refl i M) (sd _)
  (P7 d b m fun g l=>Aq (fO.held i st j i) (q g) l)
  (Va (by omega) h.tl h.loc e (dx (.inl b)) o f p (eX (.inr b)) (eX (.inl (by show t.1<5;omega)))) (h.grp.other (by omega))
theorem dH(h:Rt k c ti O st Z U gr A nn T V E M)(f:i<5)(g:E.getD i ak.aa=t)(j:¬t.1=0):
 cC k c.1 st nn (M.length:Int) t (M.getD (bf t).toNat aw.aa) (i:Int)=true/\(bf t).toNat<M.length/\(M.getD (bf t).toNat aw.aa).2.1=(i:Int)/\
 er k (M.getD (bf t).toNat aw.aa)=true/\(M.getD (bf t).toNat aw.aa).2.2.2.2.2.2.2.2.2.1<ti/\(M.getD (bf t).toNat aw.aa).2.2.2.2.2.2.2.2.2.2.1<ti:=by
 have a:=h.tas i f;rw[g]at a;obtain⟨l,b2,b3⟩:=uk a j;have e:(bf t).toNat<M.length:=by omega
 have b:=h.dee _ (bK (d:=aw.aa) e);exact⟨a,e,l,b.1,b.2.1,b.2.2.1⟩
theorem NN{s x:Bool}{j:Nat}{code:Int}{got:List ae}(h:Rt k c ti O st Z U gr A nn T V E M)(a:ti<4611686018427387904)(hi:i<3)(b:E.getD i ak.aa=t)(ho:1<=t.1/\t.1<=4)
 (f:bn k t st.length=(j:Int)) (d:j<st.length) (hc:code∈eN (M.getD (bf t).toNat aw.aa).1):
 Rt k c (tick ti) O (bT st j (-1)) Z U gr A nn T V (E.set i zT) (M.set (bf t).toNat (dA s x (M.getD (bf t).toNat aw.aa) O ti code got)):=by
 obtain⟨hr,hn,g,l,m,o⟩:=dH h (by omega) b (by omega)
 exact gM h a (by omega) (h.sto.held d (by omega)) h.sub ((h.dee.up (by omega)).put (sq l h.nw.1 m o h.ti0 hc)) (fO.held i st j (-1)) (dV.put g) (sd _) (oW (by omega))
  (xh (by omega) h.tl h.loc b f (dx (.inl rfl)) (by simp[bT]) (Bg d) (fun q _ e=>vm e) (eX (.inl (by omega))) (eX (.inl (by decide)))) (h.grp.other (by omega))
end
def uH{k:Nat}{op i j n O ti code:Int}{a:ae}{l:List ai}{got:List ae}(ho:1<=op/\op<=9)(hi: -1<=i/\i<=4)(hj:0<=j)(hn:0<=n)(hw:0<=O)(ht:0<=ti)(hc:code∈eN op):
 er k (op,i,a,l,j,n,code,got,O,ti,ti,ti)=true:=by
 unfold er bc;have b:¬ti= -1:=by omega
 simp[b,hc];omega
def Vr{a:ae}{s:bg}(e:bj a=true)(hs:eL s=true):eL (mC a s)=true:=by
 unfold mC;split;exact hs;rename_i h;split;unfold eL bB;simp[lX];unfold eL bB at*
 have f:s.2=false:=by simpa using h
 simp only[lk,b_,f,Bool.not_false,Bool.true_or,true_and]at hs|-;rw[dK (d:=ab.aa) (p:=bj)]at hs|-;refine⟨by simp;omega,fun x b=> ?_⟩;rcases V_.1 b with b|b;exact hs.2 x b;rw[H'.1 b];exact e
section
variable{k:Nat}{c:bh}{ti O gr nn:Int}{st:List ar}{Z:List bg}{U V:List ae}{A:List au}{T:List aJ}{n_:List br}{E:List aF}{M:List aC}{i:Nat}{t:aF}
theorem xP.tell{a:ae}(h:xP c Z U V)(e:bj a=true):xP c (Z.map (mC a)) (U++[a]) (V++[a]):=by
 refine⟨by simp[h.len],fun s l=> ?_,fun x b=> ?_,fun x b=> ?_⟩;obtain⟨o,p,rfl⟩:=List.mem_map.1 l;exact Vr e (h.sub o p);rcases V_.1 b with b|b;exact h.fee x b;rw[H'.1 b];exact e;rcases V_.1 b with b|b;exact h.sai x b;rw[H'.1 b];exact e
def VI{a:ae}{st:List ar}(h:dp k st=true)(l:∀p∈st,p.2.1<4611686018427387904)(m:(st.getD (bz k st a.1).toNat ah.aa).1=(i:Int)):
 fO i st (cZ k st a).1/\∀q,((cZ k st a).1.getD q ah.aa).1=(st.getD q ah.aa).1:=by
 have j:=fT h;obtain⟨g,h2⟩:=gY (k:=k) (s:=a.1) j;rw[sJ j];have hp:=(dM.1 ((cE.1 h).1 _ g)).2.2.2;have hvv:=l _ (bK (d:=ah.aa) g);have e:=sG k (st.getD (bz k st a.1).toNat ah.aa) a;refine⟨⟨by simp,fun p f=> ?_⟩,fun q=> ?_⟩;by_cases b:(bz k st a.1).toNat=p;subst b;refine .inr ⟨m,?_⟩;dsimp only;rw[aT _ _ f,e.1,wrap64 (by omega) (by omega)];omega;exact .inl (by dsimp only;rw[getD_set_ne _ _ b]);dsimp only;by_cases b:(bz k st a.1).toNat=q;subst b;rw[aT _ _ g,e.2];rw[getD_set_ne _ _ b]
theorem Sy(h:Rt k c ti O st Z U gr A nn T V E M)(o:ti<4611686018427387904)(J:∀p∈st,p.2.1<4611686018427387904)(hi:i<3)(r:E.getD i ak.aa=t)(m:t.1=1)(R:t.2.1=1)
 (u:rl k c st t.2.2.1=false):
 Rt k c (tick ti) O (cZ k st t.2.2.1).1 Z U gr A nn T V (E.set i (t.1,2,(bL k (cZ k st t.2.2.1).1 t.2.2.1.1).1,t.2.2.2))
  (M.set (bf t).toNat (nT (M.getD (bf t).toNat aw.aa) O ti (if(cZ k st t.2.2.1).2=true then 1 else 2))):=by
 obtain⟨W,X,Y,f,hv1,hw⟩:=dH h (by omega) r (by omega);have K:=(gF m).1 W;rw[a_ (by omega)]at K;obtain⟨⟨q1,q2,q3,q4,q5,q6,q7,q8,q9,B,C⟩,D,F,j,G,l,H,I⟩:=K;have v:=fT h.sto.ok;obtain⟨g1,g2⟩:=gY (k:=k) (s:=t.2.2.1.1) v;have a:=pW (k:=k) v m (.inl R);have d:=(h.loc.pt _ g1 i (by omega)).1 (by rw[r];exact a);obtain⟨p1,L,p3,N,p5⟩:=Kk h.sto.ok I J;obtain⟨r1,r2⟩:=VI (i:=i) h.sto.ok J d;obtain⟨P,f2⟩:=zD N;have b:=p5 h.sto.fit
 have hlin:(M.getD (bf t).toNat aw.aa).2.2.2.2.2.2.2.2.2.2.1= -1:=by
  by_cases e:(M.getD (bf t).toNat aw.aa).2.2.2.2.2.2.2.2.2.2.1= -1;exact e;have:=G.1 e;omega
 have g:zP k c (cZ k st t.2.2.1).1:=by
  refine⟨p1,by rw[L];exact h.sto.len,?_,b⟩;have hc:=h.sto.cap;rw[p3,KK h.sto.ok];unfold rl at u;cases w:(bL k st t.2.2.1.1).2;rw[w]at u;have:¬c.2.1<=(bq st:Int):=by simpa using u
  simp;omega;simp[hc]
 refine gM h o (by omega) g h.sub ((h.dee.up (by omega)).put ?_) r1 (dV.put Y) (sd _) ?_ ?_ (h.grp.other (by omega));unfold nT;dsimp only;refine⟨?_,by omega,by omega,by omega⟩;have x:=h.nw;have y:=h.ti0;unfold er bc at f|-;simp only[lk,avT,b_]at f|-
 have z:(if(cZ k st t.2.2.1).2=true then(1:Int)else 2)∈eN (M.getD (bf t).toNat aw.aa).1:=by
  rw[l];split<;>decide
 rw[a_ (by omega),b_];exact⟨⟨⟨⟨⟨⟨⟨⟨f.1.1.1.1.1.1.1.1,f.1.1.1.1.1.1.1.2⟩,f.1.1.1.1.1.1.2⟩,f.1.1.1.1.1.2⟩,f.1.1.1.1.2⟩,x.1⟩,.inr (by omega)⟩,.inl j⟩,z⟩;refine(gF (t:=(t.1,2,(bL k (cZ k st t.2.2.1).1 t.2.2.1.1).1,t.2.2.2)) m).2 ?_;have S:bf (t.1,(2:Int),(bL k (cZ k st t.2.2.1).1 t.2.2.1.1).1,t.2.2.2)=bf t:=rfl;rw[an rfl,S,aT _ _ X];dsimp only;unfold nT;dsimp only;rw[av4,P];have y:=h.ti0;exact⟨⟨q1,q2,q3,by omega,by omega,fm (b _ f2),q7,q8,q9,B,C⟩,D,F,j,⟨fun _=>rfl,fun _=>by omega⟩,l,by rw[H],N,rfl⟩;refine vE (by omega) h.tl h.loc r ?_ L (fun q _=>r2 q) ?_;rw[a,pW (t:=(t.1,2,(bL k (cZ k st t.2.2.1).1 t.2.2.1.1).1,t.2.2.2)) v m (.inr rfl)];dsimp only;rw[P];rw[eX (.inl (by omega)),eX (.inl (by show t.1<5;omega))]
theorem VH(h:Rt k c ti O st Z U gr A nn T V E M)(f:ti<4611686018427387904)(hi:i<3)(o:E.getD i ak.aa=t)(p:t.1=1)(g:t.2.1=2):
 Rt k c (tick ti) O (bT st (bz k st t.2.2.1.1).toNat (-1)) (Z.map (mC t.2.2.1)) (U++[t.2.2.1]) gr A nn T (V++[t.2.2.1]) (E.set i zT)
  ((M++[eT (mO i t.2.2.1) O ti ti ti]).set (bf t).toNat (lP (M.getD (bf t).toNat aw.aa) ti)):=by
 obtain⟨w,x,y,d,hv1,hw⟩:=dH h (by omega) o (by omega);have r:=(gF p).1 w;rw[an g]at r;obtain⟨⟨q1,q2,q3,q4,q5,z,q7,q8,q9,q10,q11⟩,q12,q13,q14,m,q16,q17,q18,q19⟩:=r;have u:=fT h.sto.ok;obtain⟨v,g2⟩:=gY (k:=k) (s:=t.2.2.1.1) u;have a:=pW (k:=k) u p (.inr g);have b:=m.2 g;have j:=h.nw;have l:=h.ti0
 refine gM h f (by omega) (h.sto.held v (by omega)) (h.sub.tell z) ((rI.app (h.dee.up (by omega)) ?_).put ?_) (fO.held i st _ (-1)) ((dV.app i M _).trans (dV.put ?_)) (sd _) (oW (by omega))
  (xh (by omega) h.tl h.loc o a (dx (.inl rfl)) (by simp[bT]) (Bg v) (fun q _ e=>vm e) (eX (.inl (by omega))) (eX (.inl (by decide)))) (h.grp.other (by omega))
 unfold eT mO;dsimp only;refine⟨?_,by omega,by omega,by omega⟩;exact uH ⟨by decide,by decide⟩ (by omega) (by decide) (by decide) j.1 l (by decide);unfold lP;dsimp only;refine⟨?_,by omega,by omega,by omega⟩;unfold er bc at d|-;simp only[lk,avT,b_]at d|-;refine⟨⟨d.1.1,.inr ⟨by simpa using b,by omega⟩⟩,d.2⟩;rw[avV,awf x,<-avV];exact y
def aY{b:bh}{a:Int}{r:Int×List ar×List bg×List ae×Int×List au×Int×List aJ×List br×List ae×List aF×List aC}:
 bH (true,b,a,r)=(true,b,tick a,r):=rfl
def Sp{s:Bool}(h:Rt k c ti O st Z U gr A nn T V E M)(a:ti<4611686018427387904)(r:∀p∈st,p.2.1<4611686018427387904)(f:i<3)(b:E.getD i ak.aa=t)(e:t.1=1):
 (fy s k (c,ti,O,st,Z,U,gr,A,nn,T,n_,V,E,M) i).1=true->bC k (fy s k (c,ti,O,st,Z,U,gr,A,nn,T,n_,V,E,M) i).2=true:=by
 have j:=fT h.sto.ok;obtain⟨q,g2⟩:=gY (k:=k) (s:=t.2.2.1.1) j;obtain⟨u,hn,hb,m,hv1,hw⟩:=dH h (by omega) b (by omega);have o:=(gF e).1 u;unfold fy qj;dsimp only;rw[b];by_cases l:t.2.1=0;rw[an l];unfold dZ;dsimp only;rw[b];by_cases d:(st.getD (bz k st t.2.2.1.1).toNat ah.aa).1= -1;rw[an d,aY];intro _;exact bR.2 (Bq h a f b (by omega) l (pW (t:=(t.1,1,t.2.2)) j e (.inl rfl)) q d);rw[a_ d];intro m;simp[bH]at m;rw[a_ l];by_cases g:t.2.1=1;rw[an g];by_cases d:rl k c st t.2.2.1=true;rw[an d,aY];intro _;exact bR.2 (NN h a f b (by omega) (pW j e (.inl g)) q (by rw[o.2.2.2.2.2.1];decide));rw[a_ d,aY];intro _;exact bR.2 (Sy h a r f b e g (by simpa using d));rw[a_ g,aY];intro _;have:=o.1.2.2.2;exact bR.2 (VH h a f b e (by omega))
def RM{s:Bool}(h:Rt k c ti O st Z U gr A nn T V E M)(a:ti<4611686018427387904)(g:i<3)(b:E.getD i ak.aa=t)(e:t.1=2):
 (bH (mF s k (c,ti,O,st,Z,U,gr,A,nn,T,n_,V,E,M) i)).1=true->bC k (bH (mF s k (c,ti,O,st,Z,U,gr,A,nn,T,n_,V,E,M) i)).2=true:=by
 have f:=fT h.sto.ok;obtain⟨m,g2⟩:=gY (k:=k) (s:=t.2.2.2.1) f;obtain⟨q,hn,hb,o,hv1,hw⟩:=dH h (by omega) b (by omega);have j:=(pf e).1 q;unfold mF;dsimp only;rw[b];by_cases l:t.2.1=0;rw[an l];unfold dZ;dsimp only;rw[b];by_cases d:(st.getD (bz k st t.2.2.2.1).toNat ah.aa).1= -1;rw[an d,aY];intro _;exact bR.2 (Bq h a g b (by omega) l (xU (t:=(t.1,1,t.2.2)) f e rfl) m d);rw[a_ d];intro o;simp[bH]at o;have p:t.2.1=1:=by have:=j.1;omega
 rw[a_ l];by_cases d:(bL k st t.2.2.2.1).2=true;rw[an d,aY];intro _;exact bR.2 (NN h a g b (by omega) (xU f e p) m (by rw[j.2.2.2.2.2.1];decide));rw[a_ d,aY];intro _;exact bR.2 (NN h a g b (by omega) (xU f e p) m (by rw[j.2.2.2.2.2.1];decide))
def Qm{l m:List ae}(e:bB l=true)(f:∀a∈m,bj a=true):bB (l++m)=true:=by
 unfold bB at*
 rw[dK (d:=ab.aa) (p:=bj)]at*
 intro x b;rcases V_.1 b with b|b;exact e x b;exact f x b
def TX{l:List Int}{v:Int}(b:jv l=true)(e:0<=v):jv (l++[v])=true:=by
 unfold jv at*
 rw[dK (d:=(0:Int)) (p:=fun x=>decide (0<=x))]at*
 intro x a;rcases V_.1 a with a|a;exact b x a;rw[H'.1 a];exact c_ e
def ig{α:Type}{l m:List α}{n:Nat}(d:α)(h:n<l.length):(l++m).getD n d=l.getD n d:=by
 rw[avV,awf h,<-avV]
def re{α:Type}{l:List α}{x:α}(d:α):(l++[x]).getD l.length d=x:=by
 rw[avV,List.getElem?_append_right (awe _)];simp
def RQ{st:List ar}{t:aF}{j:Nat}(h:dm st t=true)(b:j<st.length)(d:t.2.2.2.2.2.1.length=j):dm st (lR st t j)=true:=by
 rw[tB]at h|-;unfold lR;dsimp only;subst d;rw[K_,avW];constructor;intro p a;by_cases e:p<t.2.2.2.2.2.1.length;rw[ig _ e];exact h.1 p e;have:p=t.2.2.2.2.2.1.length:=by omega
 subst this;rw[re];exact sd _;intro g;rw[dT ah.aa b,h.2 fun p a=> ?_];have:=g p (by omega);rwa [ig _ a]at this
def WT(h:Rt k c ti O st Z U gr A nn T V E M)(g:ti<4611686018427387904)(hi:i<3)(w:E.getD i ak.aa=t)(j:t.1=3)(C:t.2.1=1):
 Rt k c (tick ti) O (bT st t.2.2.2.2.1.toNat (-1)) Z U gr A nn T V (E.set i (lR st t t.2.2.2.2.1.toNat)) M:=by
 obtain⟨I,hn,hb,hd,hv1,hw⟩:=dH h (by omega) w (by omega);have x:=(gl j).1 I;rw[a_ (by omega)]at x;obtain⟨⟨q1,q2,q3,q4,q5,J,K,L,q9,l,m⟩,o,p,r,s,u,v,q18⟩:=x;have D:=fT h.sto.ok;have hlen:=h.sto.len;have h3:=(cE.1 h.sto.ok).2;have f:t.2.2.2.2.1.toNat<st.length:=by omega
 have b:=dM.1 ((cE.1 h.sto.ok).1 _ f);have d:bn k t st.length=(t.2.2.2.2.1.toNat:Int):=by rw[xI D (.inl j) C];omega
 have y:(lR st t t.2.2.2.2.1.toNat).1=3:=j
 have z:(lR st t t.2.2.2.2.1.toNat).2.1=0\/(lR st t t.2.2.2.2.1.toNat).2.1=2/\t.2.2.2.2.1.toNat+1=st.length:=by
  unfold lR;dsimp only;split;exact .inr ⟨rfl,by assumption⟩;exact .inl rfl
 have F:¬(lR st t t.2.2.2.2.1.toNat).2.1=2->¬t.2.2.2.2.1.toNat+1=st.length:=by
  unfold lR;dsimp only;split;intro h;exact absurd rfl h;intro _;assumption
 refine gM h g (by omega) (h.sto.held f (by omega)) h.sub (h.dee.up (by omega)) (fO.held i st _ (-1)) (dV.refl i M) (sd _) ?_
  (xh (by omega) h.tl h.loc w d (dx (by rcases z with e|e;exact .inl e;exact .inr (.inr (.inr ⟨y,e.1⟩)))) (by simp[bT]) (Bg f) (fun q _ e=>vm e) (eX (.inl (by omega))) (eX (.inl (by omega)))) (h.grp.other (by omega))
 have G:bf (lR st t t.2.2.2.2.1.toNat)=bf t:=rfl;rw[G];refine(gl y).2 ⟨⟨q1,q2,q3,by omega,by omega,J,K,TX L b.2.2.2,?_,Qm l fun a B=>fm (h.sto.fit a (avU.2 ⟨_,bK f,B⟩)),m⟩,o,p,r,s,u,?_,?_⟩;unfold lR;dsimp only;rw[K_,avW];omega;refine Aq (fO.held i st _ (-1)) ?_ (RQ v f (by omega));unfold lR;dsimp only;rw[K_,avW];omega;have H:(lR st t t.2.2.2.2.1.toNat).2.2.2.2.1=((t.2.2.2.2.1.toNat+1:Nat):Int):=rfl;rw[H];split;rename_i e;rcases z with N|N<;>omega;rename_i e;have:=F e;omega
def Kw{t':aF}{a:List aC}(h:Rt k c ti O st Z U gr A nn T V E M)(e:ti<4611686018427387904)(hi:i<3)(f:E.getD i ak.aa=t)(g:bn k t st.length= -1)(j:bn k t' st.length= -1)
 (l:t.1<5) (m:t'.1<5) (b:rI k (ti+1) a) (d:dV i M a) (o:cC k c.1 st nn (a.length:Int) t' (a.getD (bf t').toNat aw.aa) (i:Int)=true):
 Rt k c (tick ti) O st Z U gr A nn T V (E.set i t') a:=
 gM h e (by omega) h.sto h.sub b (fO.refl i st) d (sd _) o
  (vE (by omega) h.tl h.loc f (by rw[g,j]) rfl (fun _ _=>rfl) (by rw[eX (.inl l),eX (.inl m)])) (h.grp.other (by omega))
def P8{s:Bool}(h:Rt k c ti O st Z U gr A nn T V E M)(a:ti<4611686018427387904)(f:i<3)(b:E.getD i ak.aa=t)(g:t.1=3):
 (bH (fH s k (c,ti,O,st,Z,U,gr,A,nn,T,n_,V,E,M) i)).1=true->bC k (bH (fH s k (c,ti,O,st,Z,U,gr,A,nn,T,n_,V,E,M) i)).2=true:=by
 have z:=fT h.sto.ok;obtain⟨G,hn,H,j,q,I⟩:=dH h (by omega) b (by omega);have B:=(gl g).1 G;obtain⟨⟨q1,q2,q3,q4,q5,q6,q7,q8,q9,q10,q11⟩,q12,r,u,v,e,q17,w⟩:=B;have hlen:=h.sto.len;unfold fH;dsimp only;rw[b];by_cases l:t.2.1=0;rw[an l];rw[a_ (by omega)]at w;have C:t.2.2.2.2.1.toNat<st.length:=by omega
 unfold dZ;dsimp only;rw[b];by_cases m:(st.getD t.2.2.2.2.1.toNat ah.aa).1= -1;rw[an m,aY];intro _;exact bR.2 (Bq h a f b (by omega) l (by rw[xI (t:=(t.1,1,t.2.2)) z (.inl g) rfl];dsimp only;omega) C m);rw[a_ m];intro j;simp[bH]at j;rw[a_ l];by_cases o:t.2.1=1;rw[an o,aY];intro _;exact bR.2 (WT h a f b g o);rw[a_ o];have D:t.2.1=2:=by omega
 have d:bn k t st.length= -1:=dx (.inr (.inr (.inr ⟨g,D⟩)));by_cases x:gC st t.2.2.2.2.2.1=true;rw[an x,aY];intro _;exact bR.2 (Kw h a f b d (dx (.inl rfl)) (by omega) (by decide) ((h.dee.up (by omega)).put (sq j h.nw.1 q I h.ti0 (by rw[e];decide))) (dV.put H) (oW (by omega)));rw[a_ x,aY];intro _;refine bR.2 (Kw h a f b d (dx (.inl rfl)) (by omega) (by show(3:Int)<5;decide) (h.dee.up (by omega)) (dV.refl i M) ?_);have F:bf (qX ((bf t).toNat:Int))=((bf t).toNat:Int):=rfl;rw[F,avZ];refine(gl (t:=qX ((bf t).toNat:Int)) rfl).2 ?_;have h3:=(cE.1 h.sto.ok).2;rw[a_ (by show¬(0:Int)=2;decide)];refine⟨⟨q1,q2,by show(0:Int)<=((bf t).toNat:Int);omega,sd _,by show(0:Int)<=2;decide,rfl,rfl,by unfold jv qX;simp[lX],rfl,by unfold bB qX;simp[lX],rfl⟩,by show((bf t).toNat:Int)<_;omega,r,u,v,e,?_,sd _,by show(0:Int)<=2;decide,by show(0:Int)<_;omega⟩;rw[tB];unfold qX;exact⟨fun p y=>by simp at y,fun _=>by simp⟩
def KF{j:Nat}(h:dp k st=true)(a:j<st.length)(g:(st.getD j ah.aa).1=(i:Int))(l:∀p∈st,p.2.1<4611686018427387904):
 fO i st (st.set j (-1,(dU (st.getD j ah.aa) O).2)):=by
 refine⟨by simp,fun p f=> ?_⟩;by_cases e:j=p;subst e;rw[aT _ _ f];by_cases b:0<(db O (st.getD j ah.aa).2.2).length;refine .inr ⟨g,?_⟩;have hp2:=(dM.1 ((cE.1 h).1 _ a)).2.2.2;have hvv:=l _ (bK (d:=ah.aa) a);unfold dU;dsimp only;rw[an b,wrap64 (by omega) (by omega)];omega;rw[P6 ((cE.1 h).1 _ a) b];exact .inl rfl;rw[getD_set_ne _ _ e];exact .inl rfl
def Ku{j:Nat}(h:zP k c st)(d:j<st.length)(f:∀p∈st,p.2.1<4611686018427387904):zP k c (st.set j (-1,(dU (st.getD j ah.aa) O).2)):=by
 have e:=dM.1 (Sd (O:=O) ((cE.1 h.ok).1 _ d) (f _ (bK d)));refine⟨vl h.ok (dM.2 ⟨e.1,e.2.1,⟨by show(-1:Int)<=-1;decide,by show(-1:Int)<=4;decide⟩,e.2.2.2⟩),by rw[av4];exact h.len,?_,fun a b=> ?_⟩;have h1:=count_set (l:=st) (p:=(-1,(dU (st.getD j ah.aa) O).2)) d;have h2:=zA (st.getD j ah.aa) O;have h3:(aW (-1,(dU (st.getD j ah.aa) O).2)).length=(aW (dU (st.getD j ah.aa) O)).length:=rfl;have:=h.cap;omega;rcases zO b with b|b;exact h.fit a b;exact h.fit a (avU.2 ⟨_,bK d,RP (O:=O) b⟩)
def OO{s:Bool}(h:Rt k c ti O st Z U gr A nn T V E M)(g:ti<4611686018427387904)(u:∀p∈st,p.2.1<4611686018427387904)(L:i<3)(l:E.getD i ak.aa=t)(v:t.1=4):
 (eF s k (c,ti,O,st,Z,U,gr,A,nn,T,n_,V,E,M) i).1=true->bC k (eF s k (c,ti,O,st,Z,U,gr,A,nn,T,n_,V,E,M) i).2=true:=by
 have I:=fT h.sto.ok;obtain⟨R,K,S,x,B,W⟩:=dH h (by omega) l (by omega);obtain⟨⟨q1,q2,q3,q4,q5,X,Y,q8,q9,C,D,o⟩,q12,F,G,H,r,q17⟩:=(gD v).1 R;have hlen:=h.sto.len;have f:t.2.2.2.2.1.toNat<st.length:=by omega
 unfold eF qJ;dsimp only;rw[l];by_cases y:t.2.1=0;rw[an y];unfold dZ;dsimp only;rw[l];by_cases z:(st.getD t.2.2.2.2.1.toNat ah.aa).1= -1;rw[an z,aY];intro _;exact bR.2 (Bq h g L l (by omega) y (by rw[xI (t:=(t.1,1,t.2.2)) I (.inr v) rfl];dsimp only;omega) f z);rw[a_ z];intro x;simp[bH]at x;have N:t.2.1=1:=by omega
 rw[a_ y,aY];intro _;have a:bn k t st.length=(t.2.2.2.2.1.toNat:Int):=by rw[xI I (.inr v) N];omega
 have b:=(h.loc.pt _ f i (by omega)).1 (by rw[l];exact a)
 have m:er k (eT (fb i t.2.2.2.2.1.toNat (db O (st.getD t.2.2.2.2.1.toNat ah.aa).2.2)) O ti ti ti)=true:=
  uH (op:=5) (i:=(i:Int)) (j:=(t.2.2.2.2.1.toNat:Int)) (n:=0) (code:=8) ⟨by decide,by decide⟩ (by omega) (by omega) (by decide) h.nw.1 h.ti0 (by decide)
 have J:=rI.app (h.dee.up (show ti<=ti+1 by omega)) (d:=eT (fb i t.2.2.2.2.1.toNat (db O (st.getD t.2.2.2.2.1.toNat ah.aa).2.2)) O ti ti ti) ⟨m,by show ti<ti+1;omega,by show ti<ti+1;omega,by show ti<ti+1;omega⟩;refine bR.2 ?_;by_cases w:t.2.2.2.2.1.toNat+1=st.length;rw[an w,an w]
 exact gM h g (by omega) (Ku h.sto f u) h.sub (J.put (sq x h.nw.1 B W h.ti0 (by rw[r];decide))) (KF h.sto.ok f b u)
  ((dV.app i M _).trans (dV.put (by rw[ig _ K];exact S))) (sd _) (oW (by omega))
  (xh (by omega) h.tl h.loc l a (dx (.inl rfl)) (by simp) (by rw[aT _ _ f]) (fun q _ e=>by rw[getD_set_ne _ _ e]) (eX (.inl (by omega))) (eX (.inl (by decide)))) (h.grp.other (by omega))
 rw[a_ w,a_ w]
 refine gM h g (by omega) (Ku h.sto f u) h.sub J (KF h.sto.ok f b u) (dV.app i M _) (sd _) ?_
  (xh (by omega) h.tl h.loc l a (dx (.inl rfl)) (by simp) (by rw[aT _ _ f]) (fun q _ e=>by rw[getD_set_ne _ _ e]) (eX (.inl (by omega))) (eX (.inl (by show t.1<5;omega)))) (h.grp.other (by omega))
 have P:bf (t.1,(0:Int),t.2.2.1,t.2.2.2.1,((t.2.2.2.2.1.toNat+1:Nat):Int),t.2.2.2.2.2)=bf t:=rfl;rw[P,ig _ K,K_,avW];refine(gD (t:=(t.1,(0:Int),t.2.2.1,t.2.2.2.1,((t.2.2.2.2.1.toNat+1:Nat):Int),t.2.2.2.2.2)) v).2 ?_;have h3:=(cE.1 h.sto.ok).2;exact⟨⟨q1,q2,q3,sd _,by show(0:Int)<=1;decide,X,Y,by dsimp only;omega,by dsimp only;omega,C,D,o⟩,by dsimp only;omega,F,G,H,r,by dsimp only;omega⟩
end
def vk{a b:aJ}(h:bO a b=true):bO b a=false:=by
 unfold bO at*;simp at*;omega
def before_trans{a b c:aJ}(h:bO a b=true)(h2:bO b c=true):bO a c=true:=by
 unfold bO at*;simp at*;omega
def yM{a b c:aJ}(h:bO a b=false)(h2:bO b c=false):bO a c=false:=by
 unfold bO at*;simp at*;omega
abbrev lI(l:List aJ)(i:Nat):aJ:=l.getD i aD.aa
def HP(l:List aJ):Prop:=∀j,j<l.length->0<j->bO (lI l j) (lI l ((j-1)/2))=false
def HPu(l:List aJ)(i:Nat):Prop:=
 (∀j,j<l.length->0<j->¬j=i->bO (lI l j) (lI l ((j-1)/2))=false)/\
 (0<i->∀j,j<l.length->0<j->(j-1)/2=i->bO (lI l j) (lI l ((i-1)/2))=false)
def HPd(l:List aJ)(i:Nat):Prop:=
 (∀j,j<l.length->0<j->¬(j-1)/2=i->bO (lI l j) (lI l ((j-1)/2))=false)/\
 (0<i->∀j,j<l.length->0<j->(j-1)/2=i->bO (lI l j) (lI l ((i-1)/2))=false)
def Ss{l:List aJ}{i j:Nat}(b:i<l.length)(d:j<l.length)(n:Nat):lI (ve l i j) n=if n=j then lI l i else if n=i then lI l j else lI l n:=by
 unfold ve lI;by_cases e:n=j;subst e;rw[an rfl,aT _ _ (by simpa using d)];rw[a_ e,getD_set_ne _ _ (Ne.symm e)];by_cases a:n=i;subst a;rw[an rfl,aT _ _ b];rw[a_ a,getD_set_ne _ _ (Ne.symm a)]
def NG{l:List aJ}{i j:Nat}(a:i<l.length)(b:j<l.length):(ve l i j).Perm l:=by
 unfold ve;rw[cx _ a,cx _ b];exact List.set_set_perm a b
def Th:∀(i:Nat) {l:List aJ},i<l.length->HPu l i->HP (HG l i):=by
 intro i
 induction i using awI with
 |_ i y=>
  intro l u h;rw[HG];by_cases p:0<i;rw[dif_pos p];by_cases g:bO (l.getD i aD.aa) (l.getD ((i-1)/2) aD.aa)=true;rw[an g];have w:(i-1)/2<i:=by omega
  have m:=Ss (l:=l) u (show(i-1)/2<l.length by omega);refine y _ w (by rw[eU];omega) ⟨fun j b a o=> ?_,fun f j b a v=> ?_⟩;rw[eU]at b;rw[m,m,a_ o];by_cases d:j=i;subst d;rw[an rfl,an rfl];exact vk g;rw[a_ d];by_cases q:(j-1)/2=(i-1)/2;rw[an q];have:=h.1 j b a d;rw[q]at this;cases x:bO (lI l j) (lI l i);rfl;rw[before_trans x g]at this;cases this;rw[a_ q];by_cases r:(j-1)/2=i;rw[an r];exact h.2 p j b a r;rw[a_ r];exact h.1 j b a d;rw[eU]at b;rw[m,m,a_ (by omega),a_ (show¬((i-1)/2-1)/2=(i-1)/2 by omega),a_ (show¬((i-1)/2-1)/2=i by omega)];by_cases d:j=i;rw[an d];exact h.1 _ (by omega) f (by omega);rw[a_ d];have s:=h.1 j b a d;rw[v]at s;exact yM s (h.1 _ (by omega) f (by omega));rw[a_ g];intro j b a;by_cases e:j=i;subst e;simpa using g;exact h.1 j b a e;rw[dif_neg p];intro j b a;exact h.1 j b a (by omega)
def TB:∀(i:Nat) {l:List aJ},i<l.length->(HG l i).Perm l:=by
 intro i
 induction i using awI with
 |_ i e=>
  intro l d;rw[HG];by_cases a:0<i;rw[dif_pos a];by_cases b:bO (l.getD i aD.aa) (l.getD ((i-1)/2) aD.aa)=true;rw[an b];exact(e _ (by omega) (by rw[eU];omega)).trans (NG d (by omega));rw[a_ b];rw[dif_neg a]
def RZ{l:List aJ}{i:Nat}(h:2*i+1<l.length):gA l i<l.length/\(gA l i-1)/2=i/\i<gA l i:=by
 unfold gA;split<;>omega
def KL{l:List aJ}{i j:Nat}(h:2*i+1<l.length)(b:j<l.length)(h0:0<j)(he:(j-1)/2=i):bO (lI l j) (lI l (gA l i))=false:=by
 have a:bO (lI l j) (lI l j)=false:=by unfold bO;simp
 unfold gA;split;rename_i Q;obtain rfl|rfl:j=2*i+1\/j=2*i+2:=by omega
 exact vk Q.2;exact a;rename_i Q;obtain rfl|rfl:j=2*i+1\/j=2*i+2:=by omega
 exact a;have:¬bO (lI l (2*i+2)) (lI l (2*i+1))=true:=fun h=>Q ⟨b,h⟩;simpa using this
def QT:∀n (l:List aJ) (i:Nat),l.length-i<=n->i<l.length->HPd l i->HP (sj l i):=by
 intro n
 induction n with
 |zero=>intro l i v r h;omega
 |succ n x=>
  intro l i v r h;rw[sj];by_cases f:2*i+1<l.length;rw[dif_pos f];obtain⟨u,q,k3⟩:=RZ f;by_cases g:bO (l.getD (gA l i) aD.aa) (l.getD i aD.aa)=true;rw[an g];have m:=Ss (l:=l) r u;refine x _ _ (by rw[eU];omega) (by rw[eU];omega) ⟨fun j b a o=> ?_,fun hp0 j b a w=> ?_⟩;rw[eU]at b;rw[m,m,a_ o];by_cases d:(j-1)/2=i;rw[an d];by_cases s:j=gA l i;rw[an s];exact vk g;rw[a_ s,a_ (by omega)];exact KL f b a d;rw[a_ d,a_ (by intro e;rw[e]at d;exact d q)];by_cases p:j=i;rw[an p];subst p;exact h.2 a _ u (by omega) q;rw[a_ p];exact h.1 j b a d;rw[eU]at b;rw[q,m,m,a_ (by omega),a_ (by omega),a_ (by omega),an rfl];have:=h.1 j b a (by omega);rwa [w]at this;rw[a_ g];intro j b a;by_cases e:(j-1)/2=i;rw[e];exact yM (KL f b a e) (by simpa using g);exact h.1 j b a e;rw[dif_neg f];intro j b a;exact h.1 j b a (by omega)
def P3:∀n (l:List aJ) (i:Nat),l.length-i<=n->i<l.length->(sj l i).Perm l:=by
 intro n
 induction n with
 |zero=>intro l i e b;omega
 |succ n g=>
  intro l i e b;rw[sj];by_cases a:2*i+1<l.length;rw[dif_pos a];obtain⟨f,k2,k3⟩:=RZ a;by_cases d:bO (l.getD (gA l i) aD.aa) (l.getD i aD.aa)=true;rw[an d];exact(g _ _ (by rw[eU];omega) (by rw[eU];omega)).trans (NG b f);rw[a_ d];rw[dif_neg a]
def rC{l:List aJ}:jx l=true↔(∀x∈l,0<=x.1/\0<=x.2)/\HP l/\l.length<=16:=by
 unfold jx;rw[jH,lk,lk,dK (d:=aD.aa) (p:=fun x=>decide (0<=x.1)&&decide (0<=x.2)),decide_eq_true_iff,and_assoc,ck];refine and_congr (by simp) (and_congr ?_ awl);unfold HP;simp only[avT,beq_iff_eq,av8]
 exact⟨fun h j a h0=>(h j (by omega) a).resolve_left (by omega),fun h j _ a=>by
  by_cases e:j=0;exact .inl e;exact .inr (h j a (by omega))⟩
def qY(l:List aJ)(t:aJ):(vf l t).Perm (l++[t]):=TB _ (by simp)
def PE{l:List aJ}{t:aJ}(h:jx l=true)(f:0<=t.1/\0<=t.2)(hl:l.length<=15):jx (vf l t)=true:=by
 rw[rC]at h|-;have e:=qY l t;refine⟨fun x a=> ?_,Th _ (by simp) ⟨fun j b d hne=> ?_,fun d j b hj0 he=> ?_⟩,by rw[e.length_eq];simp;omega⟩;rcases V_.1 (e.mem_iff.1 a)with a|a;exact h.1 x a;rw[H'.1 a];exact f;rw[K_,avW]at b;unfold lI;rw[ig _ (by omega),ig _ (by omega)];exact h.2.1 j (by omega) d;rw[K_,avW]at b;omega
def xR{l:List aJ}(h:0<l.length):((eK l).2.1::(eK l).1).Perm l:=by
 unfold eK;rw[a_ (by omega)];dsimp only;by_cases b:l.length=1;rw[an b];obtain⟨x,rfl⟩:=List.length_eq_one_iff.1 b;exact List.Perm.refl _;rw[a_ b];have hlen:((l.take (l.length-1)).set 0 (l.getD (l.length-1) aD.aa)).length=l.length-1:=by simp
 refine((P3 _ _ 0 (awe _) (by omega)).cons _).trans ?_;cases l with
 |nil=>simp at h
 |cons a l=>
  have hl:0<l.length:=by rw[awd]at b;omega
  obtain⟨m,hm⟩:∃m,l.length=m+1:=⟨l.length-1,by omega⟩
  have d:(a::l).length-1=m+1:=by simp;omega
  rw[d,List.take_succ_cons,awB,awz,awA];refine List.Perm.cons a ?_
  have e:l=l.take m++[l.getD m aD.aa]:=by
   have:=awv m l;rw[cx _ (by omega)]
   conv=>lhs;rw[<-this]
   congr 1;rw[List.drop_eq_getElem_cons (by omega),List.drop_eq_nil_of_le (by omega)]
  conv=>rhs;rw[e]
  exact(List.perm_append_singleton _ _).symm
def Te{l:List aJ}(h:jx l=true)(d:0<l.length):jx (eK l).1=true:=by
 have e:=xR d;rw[rC]at h|-;refine⟨fun x g=>h.1 x (e.mem_iff.1 (av6 _ g)),?_,by have:=e.length_eq;simp at this;omega⟩;unfold eK;rw[a_ (by omega)];dsimp only;by_cases f:l.length=1;rw[an f];intro j a;simp at a;rw[a_ f];have hlen:((l.take (l.length-1)).set 0 (l.getD (l.length-1) aD.aa)).length=l.length-1:=by simp
 refine QT _ _ 0 (awe _) (by omega) ⟨fun j a b hne=> ?_,fun d=>by omega⟩;rw[hlen]at a;unfold lI;rw[getD_set_ne _ _ (by omega),getD_set_ne _ _ (by omega)]
 have:∀n,n<l.length-1->(l.take (l.length-1)).getD n aD.aa=l.getD n aD.aa:=by
  intro n hn;rw[cx _ (by simp;omega),cx _ (by omega),awb]
 rw[this _ a,this _ (by omega)];exact h.2.1 j (by omega) b
def bytes_inj{a b:ByteArray}(h:a.toList=b.toList):a=b:=by
 have:=rz a b;rw[h,beq_self_eq_true]at this;exact e_ this.symm
theorem M0:∀ {l m:List ai},KP l=KP m->l=m
 | [],[],_=>rfl
 | [],b::m,h=>by simp[KP]at h
 |a::l,[],h=>by simp[KP]at h
 |(a1,a2)::l,(b1,b2)::m,h=>by
  simp only[KP,List.cons.injEq]at h;rw[bytes_inj h.1,bytes_inj h.2.1,M0 h.2.2]
def Vb{s x:List ai}(a:bI s x=false)(d:¬x=s):bI x s=true:=by
 rw[QA]at a|-;rw[d_]at a;rw[b_];refine Decidable.byContradiction fun b=>d ?_;exact M0 (List.le_antisymm (List.not_lt.1 a) (List.not_lt.1 b))
abbrev vj(l:List ae):Prop:=l.Pairwise (fun a b=>bI a.1 b.1=true)
def Pm{l:List ae}{key:List ai}{by_:List ByteArray}:qp l key by_=true↔(∀a∈l,bj a=true/\keyOf a by_=key)/\vj l:=by
 unfold qp vj;rw[<-Hi (r:=fun a b:ae=>bI a.1 b.1=true) (d:=ab.aa) (fun a b c f g=>Bf.trans _ _ _ f g)];have:∀j,(bj (l.getD j ab.aa)&&(decide (keyOf (l.getD j ab.aa) by_=key)&&rA l j))=((bj (l.getD j ab.aa)&&decide (keyOf (l.getD j ab.aa) by_=key))&&rA l j):=fun j=>(awJ ..).symm;simp only[this];rw[jH,lk,dK (d:=ab.aa) (p:=fun a=>bj a&&decide (keyOf a by_=key)),ck];refine and_congr (by simp) ?_;simp only[rA,avT,beq_iff_eq];exact⟨fun h i e=>h i (by omega) e,fun h i _ e=>h i e⟩
def gW{g:au}{by_:List ByteArray}:dN g by_=true↔0<=g.1/\dt g.2.1=true/\(0<=g.2.2.1/\g.2.2.1<=99999)/\(g.2.2.2.1= -1\/(g.2.2.1<=g.2.2.2.1/\g.2.2.2.1<=99999))/\0<g.2.2.2.2.length/\(∀a∈g.2.2.2.2,bj a=true/\keyOf a by_=g.2.1)/\vj g.2.2.2.2:=by
 unfold dN bc;simp only[lk,avT,b_,Pm]
def cG{l:List au}{by_:List ByteArray}:dR l by_=true↔l.length<=12/\(∀g∈l,dN g by_=true)/\l.Pairwise (fun a b=>a.1<b.1)/\l.Pairwise (fun a b=>¬a.2.1=b.2.1):=by
 unfold dR;rw[<-Hi (d:=aj.aa) (fun a b c h1 h2=>by omega),<-kI (d:=aj.aa),jH,jH];simp only[lk,b_,dK (l:=l) (d:=aj.aa) (p:=fun g=>dN g by_),ck,AA,mQ,avT,beq_iff_eq,av8,d_];refine and_congr awl (and_congr awl (and_congr ?_ ?_));exact⟨fun h i e=>h i (by omega) e,fun h i _ e=>h i e⟩;exact⟨fun h i e j f=>h i (by omega) e j (by omega) f,fun h i _ e j _ f=>h i e j f⟩
def Om{l:List ae}{s:List ai}(i:Nat)(h:i<ib l s):bI s (l.getD i ab.aa).1=false:=by
 unfold ib at h;cases e:gO l.length (fun i=>bI s (l.getD i ab.aa).1)with
 |none=>rw[e]at h;exact iR.1 e i h
 |some j=>rw[e]at h;exact(aZ.1 e).2.2 i h
def T7{l:List ae}{s:List ai}(h:ib l s<l.length):bI s (l.getD (ib l s) ab.aa).1=true:=by
 unfold ib at h|-;cases e:gO l.length (fun i=>bI s (l.getD i ab.aa).1)with
 |none=>rw[e]at h;simp at h
 |some j=>exact(aZ.1 e).2.1
def Tc{l:List ae}{a:ae}(h:vj l)(q:∀x∈l,¬x.1=a.1):vj (l.take (ib l a.1)++[a]++l.drop (ib l a.1)):=by
 have g:∀c∈l.take (ib l a.1),bI c.1 a.1=true:=by
  intro c hc;obtain⟨i,p,e⟩:=av3 hc;rw[awi]at p;have f:=Om (l:=l) (s:=a.1) i (by omega);rw[cx _ (by omega)]at f;rw[<-e,awb];exact Vb f (q _ (awh _))
 have m:∀c∈l.drop (ib l a.1),bI a.1 c.1=true:=by
  intro c hc;obtain⟨i,p,e⟩:=av3 hc;rw[awr]at p;have f:=T7 (l:=l) (s:=a.1) (by omega);rw[cx _ (by omega)]at f;rw[awo]at e;rw[<-e];by_cases o:i=0;subst o;exact f;have:=av5.1 h (ib l a.1) (ib l a.1+i) (by omega) (by omega) (by omega);exact Bf.trans _ _ _ f this
 unfold vj at*
 rw[av2,av2];refine⟨⟨h.sublist (awD _ _),avY _ _,fun x d b j=> ?_⟩,h.sublist (awE _ _),fun x d b j=> ?_⟩;rw[H'.1 j];exact g x d;have:=m b j;rcases V_.1 d with d|d;exact Bf.trans _ _ _ (g x d) this;rw[H'.1 d];exact this
def R9{l:List ae}{a x:ae}(h:x∈gw l a):x∈l\/x=a:=by
 unfold gw at h;split at h;exact avX h;rcases V_.1 h with h|h;rcases V_.1 h with h|h;exact .inl (awc h);exact .inr (H'.1 h);exact .inl (av9 h)
def T6{g:au}{a:ae}{by_:List ByteArray}(h:dN g by_=true)(o:bj a=true)(Q:keyOf a by_=g.2.1):dN (im g a) by_=true:=by
 rw[gW]at h|-;obtain⟨p,q,r,s,u,h6,h7⟩:=h;refine⟨p,q,r,s,?_,fun x j=> ?_,?_⟩;show 0<(gw g.2.2.2.2 a).length;unfold gw;split;rw[av4];exact u;simp only[K_,avW];omega;rcases R9 j with j|rfl;exact h6 x j;exact⟨o,Q⟩;show vj (gw g.2.2.2.2 a);unfold gw;split;rename_i i l;have e:(g.2.2.2.2.set i a).map (·.1)=g.2.2.2.2.map (·.1):=iI (d:=ab.aa) (e_ (aZ.1 l).2.1).symm;have h8:=(av1 (f:=fun x:ae=>x.1) (R:=fun a b=>bI a b=true)).2 h7;rw[<-e]at h8;exact(av1 (f:=fun x:ae=>x.1) (R:=fun a b=>bI a b=true)).1 h8;rename_i l;refine Tc h7 fun x j=> ?_;obtain⟨i,m,rfl⟩:=jb ab.aa j;have:=iR.1 l i m;simpa using this
def Kz{l:List ai}:dt l=true↔l.length<=4/\(∀x∈l,eO x=true)/\l.Pairwise (fun a b=>nU a.1 b.1=true):=by
 unfold dt
 rw[<-Hi (r:=fun a b:ai=>nU a.1 b.1=true) (d:=al.aa) (fun a b c f g=>by
  rw[Wh,b_]at f g|-;exact List.lt_trans f g),jH]
 simp only[lk,b_,dK (l:=l) (d:=al.aa) (p:=eO),ck,zH,avT,beq_iff_eq];refine and_congr awl (and_congr awl ?_);exact⟨fun h i e=>h i (by omega) e,fun h i _ e=>h i e⟩
def SK{a:ae}{by_:List ByteArray}(h:bj a=true):dt (keyOf a by_)=true:=by
 have b:dt a.1=true:=by unfold bj at h;simp only[lk]at h;exact h.1.1.1.1
 rw[Kz]at b|-;unfold keyOf;exact⟨aws (List.length_filter_le _ _) b.1,fun x d=>b.2.1 x ((awt.1 d).1),b.2.2.filter _⟩
def Vl{c:bh}{a:ae}{nn O:Int}(h:bj a=true)(d:0<=nn)(e:0<=O/\O<=99899):dN (mB c a nn O) c.2.2.2.2.2=true:=
 gW.2 ⟨d,SK h,⟨e.1,by show O<=99999;omega⟩,.inl rfl,by show 0< [a].length;simp,fun x b=>by
  have:x=a:=H'.1 b;subst this;exact⟨h,rfl⟩,avY _ _⟩
def qi{l:List au}{key:List ai}{i:Nat}(h:eR l key=some i):i<l.length/\(l.getD i aj.aa).2.1=key:=
 ⟨(aZ.1 h).1,by simpa using(aZ.1 h).2.1⟩
def OV{l:List au}{key:List ai}(h:eR l key=none):∀g∈l,¬g.2.1=key:=by
 intro g a;obtain⟨i,b,rfl⟩:=jb aj.aa a;have:=iR.1 h i b;simpa using this
def Fj{l:List au}{i:Nat}{g:au}{by_:List ByteArray}(h:dR l by_=true)(m:dN g by_=true)(o:g.1=(l.getD i aj.aa).1)(p:g.2.1=(l.getD i aj.aa).2.1):dR (l.set i g) by_=true:=by
 rw[cG]at h|-;refine⟨by rw[av4];exact h.1,fun x j=> ?_,?_,?_⟩;rcases avX j with j|rfl;exact h.2.1 x j;exact m;have e:(l.set i g).map (·.1)=l.map (·.1):=iI (d:=aj.aa) o;have h8:=(av1 (f:=fun x:au=>x.1) (R:=fun a b=>a<b)).2 h.2.2.1;rw[<-e]at h8;exact(av1 (f:=fun x:au=>x.1) (R:=fun a b=>a<b)).1 h8;have e:(l.set i g).map (·.2.1)=l.map (·.2.1):=iI (d:=aj.aa) p;have h8:=(av1 (f:=fun x:au=>x.2.1) (R:=fun a b=>¬a=b)).2 h.2.2.2;rw[<-e]at h8;exact(av1 (f:=fun x:au=>x.2.1) (R:=fun a b=>¬a=b)).1 h8
def Qu{l:List au}{g:au}{by_:List ByteArray}(h:dR l by_=true)(j:dN g by_=true)(hl:l.length<12)(m:∀x∈l,x.1<g.1)(o:∀x∈l,¬x.2.1=g.2.1):dR (l++[g]) by_=true:=by
 rw[cG]at h|-;refine⟨by simp;omega,fun x d=> ?_,av2.2 ⟨h.2.2.1,avY _ _,fun a e b f=> ?_⟩,av2.2 ⟨h.2.2.2,avY _ _,fun a e b f=> ?_⟩⟩;rcases V_.1 d with d|d;exact h.2.1 x d;rw[H'.1 d];exact j;rw[H'.1 f];exact m a e;rw[H'.1 f];exact o a e
def Ql{l:List au}{i:Nat}{by_:List ByteArray}(h:dR l by_=true):dR (l.take i++l.drop (i+1)) by_=true:=by
 rw[cG]at h|-
 have a:(l.take i++l.drop (i+1)).Sublist l:=by
  rw[<-awj];exact aww _ _
 exact⟨aws a.length_le h.1,fun x b=>h.2.1 x (a.subset b),h.2.2.1.sublist a,h.2.2.2.sublist a⟩
def gq{l:List au}{n:Int}{i:Nat}(h:eM l n=some i):i<l.length/\(l.getD i aj.aa).1=n:=
 ⟨(aZ.1 h).1,by simpa using(aZ.1 h).2.1⟩
def Cs{l:List au}{n:Int}(h:eM l n=none):∀g∈l,¬g.1=n:=by
 intro g a;obtain⟨i,b,rfl⟩:=jb aj.aa a;have:=iR.1 h i b;simpa using this
def Sv{g:au}{O:Int}{by_:List ByteArray}(h:dN g by_=true)(e:g.2.2.1<=O)(h2:O<=99899)(b:¬(hZ g O).2.2.2.2=[]):dN (hZ g O) by_=true:=by
 rw[gW]at h|-;obtain⟨q1,q2,q3,q4,q5,f,j⟩:=h;refine⟨q1,q2,q3,.inr ⟨e,by show O<=99999;omega⟩,List.length_pos_iff.2 b,fun a d=>f a (AO d),?_⟩;show vj (dC O g.2.2.2.2);unfold dC;exact j.filter _
def Fp{l:List au}{by_:List ByteArray}(h:dR l by_=true){g:au}{i:Nat}(b:g∈l)(f:i<l.length)(he:g.1=(l.getD i aj.aa).1):g=l.getD i aj.aa:=by
 obtain⟨j,o,rfl⟩:=jb aj.aa b;have m:=(cG.1 h).2.2.1;by_cases e:i=j;rw[e];have a:=kI (d:=aj.aa).2 m;rcases awC e with h6|h6;have:=a j o i h6;omega;have:=a i f j h6;omega
def sn{l m:List aJ}(h:l.Perm m):l.Pairwise (fun a b=>¬a.2=b.2)↔m.Pairwise (fun a b=>¬a.2=b.2):=h.pairwise_iff (fun h e=>h e.symm)
section
variable{k:Nat}{c:bh}{ti O gr nn:Int}{st:List ar}{Z:List bg}{U V:List ae}{A:List au}{T:List aJ}{n_:List br}{E:List aF}{M:List aC}{t:aF}
def RD(h:cR c=true):1<=c.2.2.2.1/\c.2.2.2.1<=9/\1<=c.2.2.2.2.1/\c.2.2.2.2.1<=9:=by
 unfold cR bc at h;simp only[lk,b_]at h;omega
def R6{g:au}(hc:cR c=true)(h1:0<=g.2.2.1/\g.2.2.1<=99999)(h2:g.2.2.2.1= -1\/(g.2.2.1<=g.2.2.2.1/\g.2.2.2.1<=99999)):0<=iq c g:=by
 have:=RD hc;unfold iq;split;rw[wrap64 (by omega) (by omega)];omega;rw[wrap64 (by omega) (by omega)];omega
theorem xP.drop{n:Nat}(h:xP c Z U V):xP c Z (U.drop n) V:=⟨h.len,h.sub,fun a b=>h.fee a (av9 b),h.sai⟩
def NT{i:Nat}(h:Rt k c ti O st Z U gr A nn T V E M)(e:ti<4611686018427387904)(a:i=3/\t.1=5\/i=4/\t.1=6)(d:E.getD i ak.aa=t)(l:t.2.1=0)(m:gr= -1):
 Rt k c (tick ti) O st Z U (i:Int) A nn T V (E.set i (t.1,1,t.2.2)) M:=by
 have b:i<5:=by omega
 have f:=h.tas i b;rw[d]at f
 have j:cA (t.1,(1:Int),t.2.2)=true:=by
  unfold cA;rcases a with a|a<;>simp[a.2]
 have o:5<=t.1:=by omega
 refine gM h e b h.sto h.sub (h.dee.up (by omega)) (fO.refl i st) (dV.refl i M) (sd _) ?_ (TJ b h.tl h.loc d (dx (.inl l)) (dx (.inr (.inr (.inl o)))) m j) ?_;have p:bf (t.1,(1:Int),t.2.2)=bf t:=rfl;rw[p];rcases a with a|a;have q:=(iM a.2).1 f;exact(iM (t:=(t.1,(1:Int),t.2.2)) a.2).2 ⟨⟨q.1.1,q.1.2.1,(show(0:Int)<=1 by decide),(show(1:Int)<=1 by decide),q.1.2.2.2.2⟩,q.2⟩;have q:=(gj a.2).1 f;exact(gj (t:=(t.1,(1:Int),t.2.2)) a.2).2 ⟨⟨q.1.1,q.1.2.1,(show(0:Int)<=1 by decide),(show(1:Int)<=1 by decide),q.1.2.2.2.2⟩,q.2⟩;rcases a with a|a;exact h.grp.other (by omega);rw[a.1]at d|-;rw[aT _ _ (by rw[h.tl];decide)];have g:=h.grp;rw[d]at g;exact⟨g.go,g.ho,g.tm,g.ap,g.td⟩
theorem R2{a:ae}{n:Nat}(h:Rt k c ti O st Z U gr A nn T V E M)(b:ti<4611686018427387904)(d:E.getD 3 ak.aa=t)(e:t.1=0)(f:bj a=true):
 Rt k c (tick ti) O st Z (U.drop n) gr A nn T V (E.set 3 (tK a M.length)) (M++[AU a O ti]):=by
 refine gM h b (by decide) h.sto h.sub.drop ((h.dee.up (by omega)).app ⟨zI ⟨by decide,by decide⟩ ⟨by decide,by decide⟩ (by decide) h.nw.1 h.ti0,by show ti<ti+1;omega,by show-1<ti+1;have:=h.ti0;omega,by show-1<ti+1;have:=h.ti0;omega⟩)
  (fO.refl _ st) (dV.app _ M _) (sd _) ?_ (vE (by decide) h.tl h.loc d (by rw[dx (.inl rfl),dx (.inr (.inl e))]) rfl (fun _ _=>rfl) (by rw[eX (.inr rfl),eX (.inl (by omega))])) (h.grp.other (by decide))
 have g:bf (tK a (M.length:Int))=((M.length:Nat):Int):=rfl;rw[g,avZ,re];refine(iM (t:=tK a (M.length:Int)) rfl).2 ⟨⟨rfl,by show(0:Int)<=(M.length:Int);omega,sd _,(show(0:Int)<=1 by decide),f,rfl,rfl,rfl,rfl,rfl⟩,by show(M.length:Int)<_;rw[K_,avW];omega,rfl,rfl,rfl,rfl,rfl⟩
theorem Ia{s x:Bool}{code:Int}{got:List ae}{b:List au}{g n:Int}{e:List aJ}{setit:Bool}(h:Rt k c ti O st Z U gr A nn T V E M)(p:ti<4611686018427387904)(r:E.getD 3 ak.aa=t)(u:t.1=5)(y:t.2.1=1)
 (z:nn<=g) (hc:code∈eN 7) (B:0<=n) (j:tQ c O b g e (E.getD 4 ak.aa)):
 Rt k c (tick ti) O st Z U (-1) b g e V (E.set 3 zT) (M.set (bf t).toNat (dA s x (if setit=true then ou (M.getD (bf t).toNat aw.aa) n else M.getD (bf t).toNat aw.aa) O ti code got)):=by
 obtain⟨C,hn1,D,f,o,w⟩:=dH h (by decide) r (by omega);have q:=(iM u).1 C
 refine gM h p (by decide) h.sto h.sub ((h.dee.up (by omega)).put ?_) (fO.refl _ st) (dV.put D) z (oW (by decide))
  (Oj (by decide) h.tl h.loc r (dx (.inr (.inr (.inl (by omega))))) (dx (.inl rfl)) (by unfold cA;simp[u,y]) (eX (.inl (by decide)))) ?_
 have v:=q.2.2.2.2.2.1;generalize M.getD (bf t).toNat aw.aa=d at*
 cases setit;exact sq f h.nw.1 o w h.ti0 (by rw[a_ (by decide),v];exact hc);refine sq (d:=ou d n) ?_ h.nw.1 o w h.ti0 (by show code∈eN d.1;rw[v];exact hc);obtain⟨op,task,a,l,i,m,cd,gt,nw,inv,lin,res⟩:=d;unfold ou;unfold er at f|-;simp only[lk,b_]at f|-;exact⟨⟨⟨⟨⟨⟨⟨⟨f.1.1.1.1.1.1.1.1,f.1.1.1.1.1.1.1.2⟩,f.1.1.1.1.1.1.2⟩,f.1.1.1.1.1.2⟩,B⟩,f.1.1.1.2⟩,f.1.1.2⟩,f.1.2⟩,f.2⟩;rw[getD_set_ne _ _ (by decide)];exact j
def Qy{i:Nat}{e:aF}{a:ae}(b:tQ c O A nn T e)(j:bj a=true)(l:eR A (keyOf a c.2.2.2.2.2)=some i):tQ c O (A.set i (im (A.getD i aj.aa) a)) nn T e:=by
 obtain⟨m,o⟩:=qi l;have f:=bK (d:=aj.aa) m;refine⟨Fj b.go (T6 ((cG.1 b.go).2.1 _ f) j o.symm) rfl rfl,b.ho,b.tm,b.ap,fun g h=> ?_⟩;rcases avX h with h|rfl;exact b.td g h;have:=b.td _ f;exact⟨this.1,this.2.1,this.2.2.1,this.2.2.2⟩
def VO{m:aF}{a:ae}(l:cR c=true)(o:0<=O/\O<=99899)(p:0<=nn)(hn2:nn<4611686018427387904)(d:tQ c O A nn T m)(r:bj a=true)(s:eR A (keyOf a c.2.2.2.2.2)=none)(u:A.length<12)(v:T.length<=15):
 tQ c O (A++[mB c a nn O]) (IntKind.i64.wrap (nn+1)) (vf T (iq c (mB c a nn O),nn)) m:=by
 have j:=qY T (iq c (mB c a nn O),nn);rw[wrap64 (by omega) (by omega)];have f:0<=iq c (mB c a nn O):=R6 l ⟨o.1,by show O<=99999;omega⟩ (.inl rfl);refine⟨Qu d.go (Vl r p o) u (fun g h=>(d.td g h).2.2.1) (OV s),PE d.ho ⟨f,p⟩ v,fun x b=> ?_,(sn j).2 ?_,fun g h=> ?_⟩;rcases V_.1 (j.mem_iff.1 b)with b|b;have:=d.tm x b;omega;rw[H'.1 b];show nn<nn+1;omega;refine av2.2 ⟨d.ap,avY _ _,fun x b y q=> ?_⟩;rw[H'.1 q];have:=d.tm x b;show¬x.2=nn;omega;rcases V_.1 h with h|h;obtain⟨w,z,h3,B⟩:=d.td g h;refine⟨w,z,by omega,B.imp (fun⟨x,b,e⟩=>⟨x,j.mem_iff.2 (awy _ b),e⟩) id⟩;rw[H'.1 h];refine⟨sd _,by show(-1:Int)<=O;omega,by show nn<nn+1;omega,.inl ⟨_,j.mem_iff.2 (awx _ (H'.2 rfl)),rfl,rfl⟩⟩
def O7{s:Bool}(h:Rt k c ti O st Z U gr A nn T V E M)(a:ti<4611686018427387904)(j:nn<4611686018427387904)(y:T.length<=15):
 (eW s k (c,ti,O,st,Z,U,gr,A,nn,T,n_,V,E,M)).1=true->bC k (eW s k (c,ti,O,st,Z,U,gr,A,nn,T,n_,V,E,M)).2=true:=by
 generalize b:E.getD 3 ak.aa=t;unfold eW gH;dsimp only;rw[b];by_cases l:t.1=0;rw[an l];by_cases u:U.length=0;rw[an u];intro g;simp[bH]at g;rw[a_ u,aY];intro _;exact bR.2 (R2 h a b l (h.sub.fee _ (bK (by omega))));rw[a_ l];have m:=h.tas 3 (by decide);rw[b]at m
 have f:t.1=5:=by
  have v:=gx (k:=k) (w:=(c,ti,O,st,Z,U,gr,A,nn,T,n_,V,E,M)) (i:=3) m;omega
 have q:=(iM f).1 m;by_cases o:t.2.1=0;rw[an o];unfold gL;dsimp only;rw[b];by_cases p:gr= -1;rw[an p,aY];intro _;exact bR.2 (NT h a (.inl ⟨rfl,f⟩) b o p);rw[a_ p];intro g;simp[bH]at g;rw[a_ o];have r:t.2.1=1:=by omega
 have hnn0:=h.nn0;cases e:eR A (keyOf t.2.2.1 c.2.2.2.2.2)with
 |none=>
  dsimp only;by_cases x:12<=A.length;rw[an x,aY];intro _;exact bR.2 (Ia (setit:=false) (n:=0) h a b f r (sd _) (by decide) (sd _) h.grp);rw[a_ x,aY];intro _
  exact bR.2 (Ia (setit:=true) (n:=nn) h a b f r (by rw[wrap64 (by omega) (by omega)];omega) (by decide) h.nn0
   (VO h.cf h.nw h.nn0 j h.grp q.1.2.2.2.2.1 e (by omega) y))
 |some i=>
  dsimp only;rw[aY];intro _;have v:=(gW.1 ((cG.1 h.grp.go).2.1 _ (bK (d:=aj.aa) (qi e).1))).1;exact bR.2 (Ia (setit:=true) (n:=(A.getD i aj.aa).1) h a b f r (sd _) (by decide) v (Qy h.grp q.1.2.2.2.2.1 e))
theorem RG(h:Rt k c ti O st Z U gr A nn T V E M)(d:ti<4611686018427387904)(l:E.getD 4 ak.aa=t)(m:t.1=0)(o:0<T.length):
 Rt k c (tick ti) O st Z U gr A nn (eK T).1 V (E.set 4 (tD (eK T).2.1.2 M.length)) (M++[xu (eK T).2.1.2 O ti]):=by
 have b:=xR o;have p:(eK T).2.1∈T:=b.mem_iff.1 (awa ..);have a:=(rC.1 h.grp.ho).1 _ p;have f:=h.grp.tm _ p;have ht0:=h.ti0
 refine gM h d (by decide) h.sto h.sub ((h.dee.up (by omega)).app ⟨zI ⟨by decide,by decide⟩ ⟨by decide,by decide⟩ a.2 h.nw.1 h.ti0,by show ti<ti+1;omega,by show-1<ti+1;omega,by show-1<ti+1;omega⟩)
  (fO.refl _ st) (dV.app _ M _) (sd _) ?_ (vE (by decide) h.tl h.loc l (by rw[dx (.inl rfl),dx (.inr (.inl m))]) rfl (fun _ _=>rfl) (by rw[eX (.inr rfl),eX (.inl (by omega))])) ?_
 have r:bf (tD (eK T).2.1.2 (M.length:Int))=((M.length:Nat):Int):=rfl;rw[r,avZ,re];exact(gj (t:=tD (eK T).2.1.2 (M.length:Int)) rfl).2 ⟨⟨rfl,by show(0:Int)<=(M.length:Int);omega,sd _,(show(0:Int)<=1 by decide),rfl,rfl,rfl,rfl,rfl,a.2⟩,by show(M.length:Int)<_;rw[K_,avW];omega,rfl,rfl,rfl,rfl,rfl,f⟩;rw[aT _ _ (by rw[h.tl];decide)];have g:=h.grp;rw[l]at g;refine⟨g.go,Te g.ho o,fun x a=>g.tm x (b.mem_iff.1 (av6 _ a)),((sn b).2 g.ap).tail,fun y q=> ?_⟩;obtain⟨s,u,v,j⟩:=g.td y q;refine⟨s,u,v,?_⟩;rcases j with⟨x,a,e⟩|j;rcases List.mem_cons.1 (b.mem_iff.2 a)with a|a;exact .inr ⟨rfl,by rw[<-e.1,a];rfl⟩;exact .inl ⟨x,a,e⟩;exact absurd (m.symm.trans j.1) (by decide)
theorem PH{s x:Bool}{code:Int}{got:List ae}{a:List au}{b:List aJ}(h:Rt k c ti O st Z U gr A nn T V E M)(e:ti<4611686018427387904)(g:E.getD 4 ak.aa=t)(j:t.1=6)(l:t.2.1=1)
 (hc:code∈eN 8) (d:tQ c O a nn b zT):
 Rt k c (tick ti) O st Z U (-1) a nn b V (E.set 4 zT) (M.set (bf t).toNat (dA s x (M.getD (bf t).toNat aw.aa) O ti code got)):=by
 obtain⟨m,hn1,o,p,f,r⟩:=dH h (by decide) g (by omega);have q:=(gj j).1 m
 refine gM h e (by decide) h.sto h.sub ((h.dee.up (by omega)).put (sq p h.nw.1 f r h.ti0 (by rw[q.2.2.2.2.2.1];exact hc))) (fO.refl _ st) (dV.put o) (sd _) (oW (by decide))
  (Oj (by decide) h.tl h.loc g (dx (.inr (.inr (.inl (by omega))))) (dx (.inl rfl)) (by unfold cA;simp[j,l]) (eX (.inl (by decide)))) ?_
 rw[aT _ _ (by rw[h.tl];decide)];exact d
def uA(T:List aJ)(a:aF):Prop:=a.1=6->∀x∈T,¬x.2=a.2.2.2.2.2.2.2.1
def Tb(H:cR c=true)(L:0<=O/\O<=99899)(b:tQ c O A nn T t)(N:t.1=6)(P:t.2.2.2.2.2.2.2.1<nn)(I:0<=t.2.2.2.2.2.2.2.1)(J:uA T t)(R:T.length<=15):
 tQ c O (dQ A t.2.2.2.2.2.2.2.1 O) nn (xo c T (dQ A t.2.2.2.2.2.2.2.1 O) t.2.2.2.2.2.2.2.1) zT:=by
 have J:=J N;generalize S:t.2.2.2.2.2.2.2.1=n at*
 have o:∀g∈dQ A n O,(g∈A/\¬g.1=n)\/(∃v∈A,v.1=n/\g=hZ v O):=by
  intro g h;unfold dQ at h;cases e:eM A n with
  |none=>rw[e]at h;exact .inl ⟨h,Cs e g h⟩
  |some i=>
   rw[e]at h;obtain⟨q,F⟩:=gq e;dsimp only at h;have hu:∀x∈A,x.1=n->x=A.getD i aj.aa:=fun x m ex=>Fp b.go m q (by rw[ex,F]);by_cases z:(hZ (A.getD i aj.aa) O).2.2.2.2=[]
   rw[an z]at h;refine .inl ?_;have B:=(cG.1 b.go).2.2.1;have p:=kI (d:=aj.aa).2 B;rcases V_.1 h with h|h;obtain⟨j,w,r⟩:=av3 h;rw[awi]at w;rw[awb]at r;have:=p i q j (by omega);rw[cx _ (show j<A.length by omega),r]at this;exact⟨awc h,by omega⟩;obtain⟨j,w,r⟩:=av3 h;rw[awr]at w;rw[awo]at r;have:=p (i+1+j) (by omega) i (by omega);rw[cx _ (show i+1+j<A.length by omega),r]at this;exact⟨av9 h,by omega⟩;rw[a_ z]at h;obtain⟨j,w,r⟩:=jb aj.aa h;rw[av4]at w;by_cases C:i=j;subst C;rw[aT _ _ q]at r;exact .inr ⟨_,bK q,F,r.symm⟩;rw[getD_set_ne _ _ C]at r;subst r;refine .inl ⟨bK w,fun e3=>C ?_⟩;have p:=kI (d:=aj.aa).2 (cG.1 b.go).2.2.1;rcases Nat.lt_trichotomy i j with h6|h6|h6;have:=p j w i h6;omega;exact h6;have:=p i q j h6;omega
 have u:dR (dQ A n O) c.2.2.2.2.2=true:=by
  unfold dQ;cases e:eM A n with
  |none=>exact b.go
  |some i=>
   obtain⟨q,F⟩:=gq e;have G:=bK (d:=aj.aa) q;dsimp only;by_cases z:(hZ (A.getD i aj.aa) O).2.2.2.2=[]
   rw[an z];exact Ql b.go;rw[a_ z];exact Fj b.go (Sv ((cG.1 b.go).2.1 _ G) (b.td _ G).1 L.2 z) rfl rfl
 have hold:∀g∈A,¬g.1=n->∃x∈T,x.2=g.1/\x.1=iq c g:=fun g h f=>(b.td g h).2.2.2.resolve_right fun s=>f (s.2.symm.trans S)
 have a:∀g∈dQ A n O,g.2.2.1<=O/\g.2.2.2.1<=O/\g.1<nn:=by
  intro g h;rcases o g h with⟨l,s⟩|⟨v,l,s,rfl⟩;exact⟨(b.td g l).1,(b.td g l).2.1,(b.td g l).2.2.1⟩;exact⟨(b.td v l).1,sd _,(b.td v l).2.2.1⟩
 unfold xo;cases e:eM (dQ A n O) n with
 |none=>
  refine⟨u,b.ho,b.tm,b.ap,fun g h=> ?_⟩;refine⟨(a g h).1,(a g h).2.1,(a g h).2.2,.inl ?_⟩;have f:=Cs e g h;rcases o g h with⟨l,s⟩|⟨v,l,s,rfl⟩;exact hold g l f;exact absurd s f
 |some i=>
  obtain⟨q,F⟩:=gq e;have G:=bK (d:=aj.aa) q;dsimp only;have B:=qY T (iq c ((dQ A n O).getD i aj.aa),n);have D:=gW.1 ((cG.1 u).2.1 _ G);refine⟨u,PE b.ho ⟨R6 H D.2.2.1 D.2.2.2.1,I⟩ R,fun x m=> ?_,(sn B).2 ?_,fun g h=> ?_⟩;rcases V_.1 (B.mem_iff.1 m)with m|m;exact b.tm x m;rw[H'.1 m];exact P;refine av2.2 ⟨b.ap,avY _ _,fun x m y K=> ?_⟩;rw[H'.1 K];exact J x m;refine⟨(a g h).1,(a g h).2.1,(a g h).2.2,.inl ?_⟩;by_cases f:g.1=n;refine⟨_,B.mem_iff.2 (awx _ (H'.2 rfl)),f.symm,?_⟩;rw[Fp u h q (by rw[f,F])];rcases o g h with⟨l,s⟩|⟨v,l,s,rfl⟩;obtain⟨x,m,C⟩:=hold g l f;exact⟨x,B.mem_iff.2 (awy _ m),C⟩;exact absurd s f
def Pk{s:Bool}(h:Rt k c ti O st Z U gr A nn T V E M)(a:ti<4611686018427387904)(v:uA T (E.getD 4 ak.aa))(y:(E.getD 4 ak.aa).1=6->T.length<=15):
 (fK s k (c,ti,O,st,Z,U,gr,A,nn,T,n_,V,E,M)).1=true->bC k (fK s k (c,ti,O,st,Z,U,gr,A,nn,T,n_,V,E,M)).2=true:=by
 generalize e:E.getD 4 ak.aa=t at v y;unfold fK gP;dsimp only;rw[e];by_cases o:t.1=0;rw[an o];by_cases b:rY T O=true;rw[an b,aY];intro _;have B:0<T.length:=by unfold rY at b;simp only[lk,b_]at b;exact b.1
 exact bR.2 (RG h a e o B);rw[a_ b];intro m;simp[bH]at m;rw[a_ o];have b:=h.tas 4 (by decide);rw[e]at b
 have l:t.1=6:=by
  have h1:=gx (k:=k) (w:=(c,ti,O,st,Z,U,gr,A,nn,T,n_,V,E,M)) (i:=4) b;omega
 have q:=(gj l).1 b;have f:=h.grp;rw[e]at f;by_cases r:t.2.1=0;rw[an r];unfold gL;dsimp only;rw[e];by_cases j:gr= -1;rw[an j,aY];intro _;exact bR.2 (NT h a (.inr ⟨rfl,l⟩) e r j);rw[a_ j];intro m;simp[bH]at m;rw[a_ r];have z:t.2.1=1:=by omega
 by_cases Q:lM A t.2.2.2.2.2.2.2.1=true;rw[an Q,aY];intro _;exact bR.2 (PH h a e l z (by decide) (Tb h.cf h.nw f l q.2.2.2.2.2.2.2 q.1.2.2.2.2.2.2.2.2.2 v (y l)));rw[a_ Q,aY];intro _;refine bR.2 (PH h a e l z (by decide) ⟨f.go,f.ho,f.tm,f.ap,fun g u=> ?_⟩);obtain⟨C,D,F,h6⟩:=f.td g u;refine⟨C,D,F,.inl (h6.resolve_right fun h7=>Q ?_)⟩;unfold lM;obtain⟨i,G,_⟩:=xY (d:=aj.aa) (p:=fun x:au=>decide (x.1=t.2.2.2.2.2.2.2.1)) u (by simpa using h7.2.symm);have:eM A t.2.2.2.2.2.2.2.1=some i:=G;rw[this];rfl
end
def mH(w:ag):List ar:=w.2.2.2.1
def EC(w:ag):List aJ:=w.2.2.2.2.2.2.2.2.2.1
def Zg(w:ag):Int:=w.2.2.2.2.2.2.2.2.1
def Rf{s:Bool}{k:Nat}{w:ag}{i:Nat}(h:bC k w=true)(u:i<5)(a:w.2.1<4611686018427387904)(j:∀p∈mH w,p.2.1<4611686018427387904)
 (l:i=3->Zg w<4611686018427387904/\(EC w).length<=15) (m:i=4->uA (EC w) ((bF w).getD 4 ak.aa)/\(((bF w).getD 4 ak.aa).1=6->(EC w).length<=15)):
 (iU s k w i).1=true->bC k (iU s k w i).2=true:=by
 obtain⟨c,ti,O,st,Z,U,gr,A,nn,T,n_,V,E,M⟩:=w;have R:=bR.1 h;generalize b:E.getD i ak.aa=t;have o:=R.tas i u;rw[b]at o;have ho:=gx (k:=k) (w:=(c,ti,O,st,Z,U,gr,A,nn,T,n_,V,E,M)) (i:=i) o;unfold iU;dsimp only[bF];rw[b];by_cases e:t.1=1;rw[an e];exact Sp R a j (by omega) b e;rw[a_ e];by_cases q:t.1=2\/t.1=3;rw[an q];unfold nW wV;dsimp only;rw[b];by_cases f:t.1=2;rw[an f];exact RM R a (by omega) b f;rw[a_ f];exact P8 R a (by omega) b (by omega);rw[a_ q];by_cases g:t.1=4;rw[an g];exact OO R a j (by omega) b g;rw[a_ g];by_cases d:i=3;rw[an d];exact O7 R a (l d).1 (l d).2;rw[a_ d];by_cases h6:i=4;rw[an h6];exact Pk R a (m h6).1 (m h6).2;rw[a_ h6];intro r;cases r
section
variable{k:Nat}{c:bh}{ti O gr nn:Int}{st:List ar}{Z:List bg}{U V:List ae}{A:List au}{T:List aJ}{n_:List br}{E:List aF}{M:List aC}{t:aF}
theorem xT{i:Nat}{t':aF}{op:Int}(h:Rt k c ti O st Z U gr A nn T V E M)(a:ti<4611686018427387904)(hi:i<3)(f:E.getD i ak.aa=t)(g:t.1=0)(e:t'.2.1=0)
 (b:1<=op/\op<=9) (j:0<=t'.2.2.2.2.2.2.2.1)
 (l:cC k c.1 st nn ((M.length:Int)+1) (om t' M.length) (op,(i:Int),t'.2.2.1,t'.2.2.2.1,0,t'.2.2.2.2.2.2.2.1,0,[],O,ti,-1,-1) (i:Int)=true):
 Rt k c (tick ti) O st Z U gr A nn T V (E.set i (om t' M.length)) (M++[(op,(i:Int),t'.2.2.1,t'.2.2.2.1,0,t'.2.2.2.2.2.2.2.1,0,[],O,ti,-1,-1)]):=by
 have d:=h.ti0
 refine gM h a (by omega) h.sto h.sub ((h.dee.up (by omega)).app ⟨zI b (by omega) j h.nw.1 d,by show ti<ti+1;omega,by show-1<ti+1;omega,by show-1<ti+1;omega⟩)
  (fO.refl _ st) (dV.app _ M _) (sd _) ?_ (vE (by omega) h.tl h.loc f (by rw[dx (t:=om t' M.length) (.inl e),dx (.inr (.inl g))]) rfl (fun _ _=>rfl) (by rw[eX (t:=om t' M.length) (.inr e),eX (.inl (by omega))])) (h.grp.other (by omega))
 have m:bf (om t' (M.length:Int))=((M.length:Nat):Int):=rfl;rw[m,avZ,re,K_,avW];exact l
def N9{d:aC}{a:List bg}(h:Rt k c ti O st Z U gr A nn T V E M)(f:ti<4611686018427387904)(o:er k d=true/\d.2.2.2.2.2.2.2.2.2.1<ti+1/\d.2.2.2.2.2.2.2.2.2.2.1<ti+1/\d.2.2.2.2.2.2.2.2.2.2.2<ti+1)
 (hs:xP c a U V):Rt k c (tick ti) O st a U gr A nn T V E (M++[d]):=by
 have g:=h.ti0;have e:=qq g f;refine⟨h.cf,by omega,h.nn0,h.nw,h.sto,hs,by rw[e];exact(h.dee.up (by omega)).app o,h.tl,fun j m=> ?_,h.loc,h.grp⟩;have b:=h.tas j m;by_cases l:(E.getD j ak.aa).1=0;exact EO b l;obtain⟨b1,b2,b3⟩:=uk b l;rw[ig _ (by omega)];exact CA b (by rw[K_];omega) (sd _) (fun _ _=>rfl) (fun _ h=>h)
def VC{a:Int}(h:Rt k c ti O st Z U gr A nn T V E M)(b:ti<4611686018427387904)(h1:O<=a)(h2:a<=99899):
 Rt k c (tick ti) a st Z U gr A nn T V E M:=by
 have d:=h.ti0;have e:=qq d b;have hw:=h.nw;refine⟨h.cf,by omega,h.nn0,by omega,h.sto,h.sub,by rw[e];exact h.dee.up (by omega),h.tl,h.tas,h.loc,h.grp.go,h.grp.ho,h.grp.tm,h.grp.ap,fun g f=> ?_⟩;have:=h.grp.td g f;exact⟨by omega,by omega,this.2.2.1,this.2.2.2⟩
end
def Pg{k:Nat}{c1 nn m O ti:Int}{st:List ar}{i:Nat}{a:ae}{l:List ai}(hi:i<3)(b:0<=m)(hc:0<c1):
 (cw a=true->cC k c1 st nn (m+1) (om (pA a) m) (1,(i:Int),a,[],0,0,0,[],O,ti,-1,-1) (i:Int)=true)/\
 (dt l=true->cC k c1 st nn (m+1) (om (tO l) m) (3,(i:Int),vo,l,0,0,0,[],O,ti,-1,-1) (i:Int)=true)/\
 cC k c1 st nn (m+1) (om qD m) (4,(i:Int),vo,[],0,0,0,[],O,ti,-1,-1) (i:Int)=true/\
 cC k c1 st nn (m+1) (om kJ m) (6,(i:Int),vo,[],0,0,0,[],O,ti,-1,-1) (i:Int)=true:=by
 have g:jv []=true:=by unfold jv;simp[lX]
 have h:bB []=true:=by unfold bB;simp[lX]
 refine⟨fun d=>(gF (t:=om (pA a) m) rfl).2 ?_,fun e=>(pf (t:=om (tO l) m) rfl).2 ?_,(gl (t:=om qD m) rfl).2 ?_,(gD (t:=om kJ m) rfl).2 ?_⟩;rw[a_ (by show¬(0:Int)=2;decide)];exact⟨⟨by omega,by omega,b,sd _,by show(0:Int)<=2;decide,fm d,rfl,rfl,rfl,rfl,rfl⟩,by show m<m+1;omega,rfl,rfl,by show(¬(-1:Int)= -1↔(0:Int)=2);decide,rfl,rfl,d⟩;exact⟨⟨by omega,by omega,b,sd _,by show(0:Int)<=1;decide,rfl,e,rfl,rfl,rfl,rfl⟩,by show m<m+1;omega,rfl,rfl,rfl,rfl,rfl⟩;rw[a_ (by show¬(0:Int)=2;decide)];exact⟨⟨by omega,by omega,b,sd _,by show(0:Int)<=2;decide,rfl,rfl,g,rfl,h,rfl⟩,by show m<m+1;omega,rfl,rfl,rfl,rfl,tB.2 ⟨fun p f=>by simp[om,qD]at f,fun _=>by simp[om,qD]⟩,sd _,by show(0:Int)<=2;decide,hc⟩;exact⟨⟨by omega,by omega,b,sd _,by show(0:Int)<=1;decide,rfl,rfl,sd _,by show(0:Int)<=2;decide,rfl,rfl,rfl⟩,by show m<m+1;omega,rfl,rfl,rfl,rfl,hc⟩
theorem EF{k:Nat}{w:ag}{i:Int}{t':aF}{op:Int}(h:qu k w i=true)(b:w.2.1<4611686018427387904)
 (f:(∃a,cw a=true/\t'=pA a/\op=1)\/(∃l,dt l=true/\t'=tO l/\op=3)\/(t'=qD/\op=4)\/(t'=kJ/\op=6)):bC k (fk w i t' op)=true:=by
 obtain⟨c,ti,O,st,Z,U,gr,A,nn,T,n_,V,E,M⟩:=w;unfold qu cP qv bc at h;simp only[lk,b_]at h;obtain⟨g,⟨h2,h3⟩,h4,d⟩:=h;have R:=bR.1 g;obtain⟨j,rfl⟩:∃j:Nat,i=(j:Int):=⟨i.toNat,by omega⟩
 rw[avZ]at d;have h0:=fT R.sto.ok;have e:=R.sto.len;have hc:0<c.1:=by omega
 obtain⟨o,p,q,r⟩:=Pg (k:=k) (c1:=c.1) (nn:=nn) (m:=(M.length:Int)) (O:=O) (ti:=ti) (st:=st) (i:=j) (a:=t'.2.2.1) (l:=t'.2.2.2.1) (by omega) (by omega) hc;refine bR.2 ?_;rcases f with⟨a,s,rfl,rfl⟩|⟨l,e,rfl,rfl⟩|⟨rfl,rfl⟩|⟨rfl,rfl⟩;exact xT (t':=pA a) (op:=1) R b (by omega) rfl d rfl (by decide) (sd _) (o s);exact xT (t':=tO l) (op:=3) R b (by omega) rfl d rfl (by decide) (sd _) (p e);exact xT (t':=qD) (op:=4) R b (by omega) rfl d rfl (by decide) (sd _) q;exact xT (t':=kJ) (op:=6) R b (by omega) rfl d rfl (by decide) (sd _) r
def HE{k:Nat}{w:ag}{i:Int}{a:ae}(h:qu k w i=true)(b:w.2.1<4611686018427387904):bC k (refused w i a)=true:=by
 obtain⟨c,ti,O,st,Z,U,gr,A,nn,T,n_,V,E,M⟩:=w;unfold qu cP qv bc at h;simp only[lk,b_]at h;obtain⟨d,⟨h2,h3⟩,h4,h5⟩:=h;have R:=bR.1 d;exact bR.2 (N9 R b ⟨uH (op:=1) (j:=0) (n:=0) (code:=4) ⟨by decide,by decide⟩ (by omega) (by decide) (by decide) R.nw.1 R.ti0 (by decide),by show ti<ti+1;omega,by show ti<ti+1;omega,by show ti<ti+1;omega⟩ R.sub)
theorem pe{e:Ty}{B:Nat}:∀ {l:List e.den},(∀x∈l,af e x<=B)->af (.sl e) l<=(B+1)*l.length
 | [],_=>by rw[aX];exact awu _
 |x::l,h=>by
  have h1:=h x (awa ..);have h2:=pe (l:=l) fun y a=>h y (av6 _ a);rw[bS,awd,Nat.mul_add];omega
def gS:Nat->Nat
 |0=>0
 |s+1=>gS s+(52-s)
def Yt(s:Nat)(h:s<=53):gS s<=1378:=by
 have:∀s,s<54->gS s<=1378:=by decide
 exact this s (by omega)
def eJ(t:aF):Nat:=if t.1=0 then 0 else if t.2.1=0 then 1 else 2
def lq(l:List au):Nat:=(l.flatMap fun g=>g.2.2.2.2).length
structure Ex(n:Nat)(c:bh)(ti:Int)(st:List ar)(U:List ae)(A:List au)(nn:Int)(T:List aJ)(n_:List br)(V:List ae)(E:List aF)(M:List aC):Prop where
 ti:ti<=n
 nn:nn<=n
 ver:∀p∈st,p.2.1<=n
 hp:T.length+(if(E.getD 4 ak.aa).1=6 then 1 else 0)<=A.length
 fr:uA T (E.getD 4 ak.aa)
 fe:af (.sl ab) U<=100*n
 sa:af (.sl ab) V<=100*n
 pot:3*lq A+3*n_.length+eJ (E.getD 3 ak.aa)+eJ (E.getD 4 ak.aa)<=n
 sk:af (.sl bM) n_<=200*n_.length+97*gS n_.length
 de:af (.sl aw) M<=3000*n+97*gS n_.length
 tg:∀i,i<5->(E.getD i ak.aa).2.2.2.2.2.2.1.length<=8*(E.getD i ak.aa).2.2.2.2.2.1.length
section
variable{k:Nat}(Q:9223372036854775808<=k)
include Q
def Sa{x:ai}(h:eO x=true):af al x<=20:=by
 rw[mS Q];unfold eO ff jf at h;simp only[lk,b_]at h;omega
def vp{l:List ai}(h:dt l=true):af (.sl al) l<=84:=by
 have a:=Kz.1 h;have h2:=pe (e:=al) (B:=20) (l:=l) fun x b=>Sa Q (a.2.1 x b);have:21*l.length<=21*4:=Nat.mul_le_mul_left _ a.1;omega
def iS{a:ae}(h:bj a=true):af ab a<=96:=by
 rw[bo Q];unfold bj jf at h;simp only[lk,b_]at h;have:=vp Q h.1.1.1.1;omega
def jo{l:List ae}(h:∀a∈l,bj a=true):af (.sl ab) l<=97*l.length:=
 pe (e:=ab) (B:=96) fun a b=>iS Q (h a b)
theorem FP:∀ {l:List aP},(∀c∈l,dn k c=true)->af (.sl ax) l<=98*(l.flatMap j9).length
 | [],_=>by rw[aX];exact awu _
 |c::l,h=>by
  have b:=oq.1 (h c (awa ..));have h2:=FP (l:=l) fun y d=>h y (av6 _ d);have h3:=jo Q fun a e=>(b.1 a e).1;rw[bS,cu Q,av0,K_];simp only[j9];have:=b.2.1;omega
def Hx{st:List ar}(h:dp k st=true):af (.sl ah) st<=st.length+98*bq st:=by
 have a:∀p∈st,∀c∈p.2.2,dn k c=true:=by
  intro p b c hc;obtain⟨i,e,rfl⟩:=jb ah.aa b;exact((dM.1 ((cE.1 h).1 i e)).1 c hc).1
 unfold bq bU;clear h
 induction st with
 |nil=>rw[aX];exact awu _
 |cons p st f=>
  have h2:=f fun q d=>a q (av6 _ d);have h3:=FP Q (a p (awa ..));have h4:(aW p).length=(p.2.2.flatMap j9).length:=rfl;rw[bS,bY Q,av0,K_,awd];omega
def P5{l:List au}{by_:List ByteArray}(h:∀g∈l,dN g by_=true):af (.sl aj) l<=85*l.length+97*lq l:=by
 unfold lq
 induction l with
 |nil=>rw[aX];exact awu _
 |cons g l f=>
  have h2:=f fun q d=>h q (av6 _ d);have b:=gW.1 (h g (awa ..));have h4:=vp Q b.2.1;have h5:=jo Q fun a e=>(b.2.2.2.2.2.1 a e).1;rw[bS,cn Q,av0,K_,awd];omega
def TP{l:List bg}(h:∀s∈l,eL s=true):af (.sl aU) l<=292*l.length:=
 pe (e:=aU) (B:=291) fun s b=>by
  have a:=h s b;unfold eL bB at a;simp only[lk,b_]at a;have h2:=jo Q (dK.1 a.2.2);rw[eG Q];omega
theorem TY(l:List Int):af (.sl (.int .i64)) l=l.length:=by
 induction l with
 |nil=>exact aX
 |cons a l b=>
  have:af (.sl (.int .i64)) (a::l)=1+af (.int .i64) a+af (.sl (.int .i64)) l:=bS (e:= .int .i64) a l;rw[this,b,awd];simp only[af];omega
def kT{c:bh}(h:cR c=true):af cM c<=18/\1<=c.1/\c.1<=3/\c.2.1<=8/\c.2.2.1<=2:=by
 unfold cR tA bc at h;simp only[lk,b_]at h
 have h1:=pe (e:= .str) (B:=8) (l:=c.2.2.2.2.2) fun x a=>by
  have:=dK.1 h.2.1 x a;unfold ff at this;simp only[lk,b_]at this;show x.size<=8;omega
 rw[kF Q];have:=h.2.2.1;omega
variable{c:bh}{ti O gr nn:Int}{st:List ar}{Z:List bg}{U V:List ae}{A:List au}{T:List aJ}{n_:List br}{E:List aF}{M:List aC}{n:Nat}
def TU{t:aF}{c1 nn m i:Int}{d:aC}(h:cC k c1 st nn m t d i=true)(hl:t.2.2.2.2.2.2.1.length<=8*t.2.2.2.2.2.1.length):af ak t<=2600:=by
 have e:cV t i=true:=by unfold cC at h;simp only[lk]at h;exact h.1
 rw[bw Q,TY Q];have b:af ab cF=0:=by rw[bo Q];unfold cF;rw[aX];rfl
 have el:af (.sl al) ([]:List ai)=0:=aX;have a:af (.sl ab) ([]:List ae)=0:=aX;by_cases f:t.1=1;have q:=((gF f).1 h).1;have:=iS Q q.2.2.2.2.2.1;rw[q.2.2.2.2.2.2.1,q.2.2.2.2.2.2.2.2.1,q.2.2.2.2.2.2.2.2.2.1,el,a];simp only[av7];omega;by_cases g:t.1=2;have q:=((pf g).1 h).1;have:=vp Q q.2.2.2.2.2.2.1;rw[q.2.2.2.2.2.1,q.2.2.2.2.2.2.2.2.1,q.2.2.2.2.2.2.2.2.2.1,b,a];simp only[av7];omega;by_cases j:t.1=3;have q0:=(gl j).1 h;have q:=q0.1;have l:=q.2.2.2.2.2.2.2.2.2.1;unfold bB at l;have:=jo Q (dK.1 l)
 have hI:t.2.2.2.2.1<=3:=by
  have:=q0.2.2.2.2.2.2.2;split at this<;>omega
 have hI2:=q.2.2.2.2.2.2.2.2.1;rw[q.2.2.2.2.2.1,q.2.2.2.2.2.2.1,b,el];omega;by_cases o:t.1=4;have q:=((gD o).1 h).1;rw[q.2.2.2.2.2.1,q.2.2.2.2.2.2.1,q.2.2.2.2.2.2.2.2.2.1,q.2.2.2.2.2.2.2.2.2.2.1,b,el,a];simp only[av7];omega;by_cases p:t.1=5;have q:=((iM p).1 h).1;have:=iS Q q.2.2.2.2.1;rw[q.2.2.2.2.2.1,q.2.2.2.2.2.2.2.1,q.2.2.2.2.2.2.2.2.1,el,a];simp only[av7];omega;by_cases h6:t.1=6;have q:=((gj h6).1 h).1;rw[q.2.2.2.2.1,q.2.2.2.2.2.1,q.2.2.2.2.2.2.2.1,q.2.2.2.2.2.2.2.2.1,b,el,a];simp only[av7];omega
 have r:t=zT:=by
  unfold cV at e;simp only[f,g,j,o,p,h6,decide_false,Bool.false_and,Bool.or_false,lk,b_]at e;exact e.2.2
 rw[r];unfold zT;rw[b,el,a];simp only[av7];omega
def QG(h:Rt k c ti O st Z U gr A nn T V E M)(a:Ex n c ti st U A nn T n_ V E M)(hn:n<=160):af az (c,ti,O,st,Z,U,gr,A,nn,T,n_,V,E,M)<=1000000:=by
 obtain⟨c0,c1,c2,c3,c4⟩:=kT Q h.cf;have a1:=Hx Q h.sto.ok;have a2:=h.sto.cap;have a3:=(cE.1 h.sto.ok).2;have a4:=TP Q h.sub.sub;have a5:=h.sub.len;have a6:=P5 Q (cG.1 h.grp.go).2.1;have a7:=(cG.1 h.grp.go).1;have a8:=a.pot;have a9:=a.hp;have b1:=Yt n_.length (by omega);have b2:=a.sk;have b3:=a.de;have b4:=a.fe;have b5:=a.sa
 have f:af (.sl ak) E<=2601*E.length:=pe (e:=ak) (B:=2600) fun t d=>by
  obtain⟨i,b,rfl⟩:=jb ak.aa d;rw[h.tl]at b;exact TU Q (h.tas i b) (a.tg i b)
 have b7:af (.sl aD) T<=1*T.length:=pe (e:=aD) (B:=0) fun t d=>by rw[Hy Q];exact awe _
 rw[h.tl]at f;rw[da Q];dsimp only;omega
end
def Td(l m:List au):lq (l++m)=lq l+lq m:=by unfold lq;rw[awk,K_]
def El{l:List au}{i:Nat}{g:au}(a:i<l.length):lq (l.set i g)+(l.getD i aj.aa).2.2.2.2.length=lq l+g.2.2.2.2.length:=CU (f:=fun g:au=>g.2.2.2.2) a
def Vf{l:List au}{i:Nat}(a:i<l.length):(l.getD i aj.aa).2.2.2.2.length<=lq l:=by
 have:=El (l:=l) (i:=i) (g:=(0,[],0,0,[])) a;simp only[av7]at this;omega
def TL(l:List au)(i:Nat):lq (l.take i++l.drop (i+1))<=lq l:=by
 have b:(l.take i++l.drop (i+1)).Sublist l:=by
  rw[<-awj];exact aww _ _
 unfold lq;generalize l.take i++l.drop (i+1)=m at b
 induction b with
 |slnil=>exact awe _
 |cons a h d=>rw[av0,K_];omega
 |cons_cons a h d=>rw[av0,av0,K_,K_];omega
section
variable{k:Nat}(Q:9223372036854775808<=k)
include Q
def oc{x:Bool}{d:aC}{O ti code:Int}{got:List ae}:af aw (dA true x d O ti code got)<=af aw d+af (.sl ab) got:=by
 unfold dA ot xQ lP;rw[an (by rfl)];split;rw[bN Q,bN Q];dsimp only;omega;rw[bN Q,bN Q];dsimp only;omega
theorem kv{l:List aC}{n:Nat}{d':aC}{B:Nat}(a:n<l.length)(h:af aw d'<=af aw (l.getD n aw.aa)+B):af (.sl aw) (l.set n d')<=af (.sl aw) l+B:=by
 have:=ij (e:=aw) l n d' a;have e:l.getD n (Ty.aa aw)=l.getD n aw.aa:=rfl;omega
theorem pg{l:List aC}{d:aC}{B:Nat}(h:af aw d+1<=B):af (.sl aw) (l++[d])<=af (.sl aw) l+B:=by
 rw[dP,bS,aX];omega
def gZ:af ab cF=0:=by rw[bo Q];unfold cF;rw[aX];rfl
variable{c:bh}{ti O gr nn:Int}{st:List ar}{Z:List bg}{U V:List ae}{A:List au}{T:List aJ}{n_:List br}{E:List aF}{M:List aC}{n i:Nat}{t:aF}
omit Q in
theorem Ex.iO{t':aF}{o:List ar}{b l:List ae}{a:List aC}(h:Ex n c ti st U A nn T n_ V E M)(y:0<=ti)(hn:n<=1000)(tl:E.length=5)(hi:i<3)
 (z:∀p∈o,p.2.1<=(n:Int)+1) (hf:af (.sl ab) b<=af (.sl ab) U+100) (hs:af (.sl ab) l<=af (.sl ab) V+100) (hd:af (.sl aw) a<=af (.sl aw) M+3000)
 (B:t'.2.2.2.2.2.2.1.length<=8*t'.2.2.2.2.2.1.length):Ex (n+1) c (tick ti) o b A nn T n_ l (E.set i t') a:=by
 have e:=qq y (by have:=h.ti;omega);have C:(E.set i t').getD 3 ak.aa=E.getD 3 ak.aa:=getD_set_ne _ _ (by omega);have q:(E.set i t').getD 4 ak.aa=E.getD 4 ak.aa:=getD_set_ne _ _ (by omega);have:=h.ti;have:=h.nn;have:=h.fe;have:=h.sa;have:=h.pot;have:=h.de;refine⟨by rw[e];omega,by omega,fun p v=>by have:=z p v;omega,by rw[q];exact h.hp,by rw[q];exact h.fr,by omega,by omega,by rw[C,q];omega,h.sk,by omega,fun j w=> ?_⟩;by_cases u:i=j;subst u;rw[aT _ _ (by omega)];exact B;rw[getD_set_ne _ _ u];exact h.tg j w
omit Q in
theorem Ex.alone{a:List aC}(h:Ex n c ti st U A nn T n_ V E M)(l:0<=ti)(hn:n<=1000)(hd:af (.sl aw) a<=af (.sl aw) M+3000):
 Ex (n+1) c (tick ti) st U A nn T n_ V E a:=by
 have e:=qq l (by have:=h.ti;omega);have:=h.ti;have:=h.nn;have:=h.fe;have:=h.sa;have:=h.pot;have:=h.de;exact⟨by rw[e];omega,by omega,fun p b=>by have:=h.ver p b;omega,h.hp,h.fr,by omega,by omega,by omega,h.sk,by omega,h.tg⟩
omit Q in
theorem Ex.stay(h:Ex n c ti st U A nn T n_ V E M):Ex (n+1) c ti st U A nn T n_ V E M:=by
 have:=h.ti;have:=h.nn;have:=h.fe;have:=h.sa;have:=h.pot;have:=h.de;exact⟨by omega,by omega,fun p a=>by have:=h.ver p a;omega,h.hp,h.fr,by omega,by omega,by omega,h.sk,by omega,h.tg⟩
omit Q in
theorem kZ{st:List ar}{j:Nat}{x:Int}{B:Int}(h:∀p∈st,p.2.1<=B):∀p∈bT st j x,p.2.1<=B:=by
 intro p a;unfold bT at a;by_cases b:j<st.length;rcases avX a with a|rfl;exact h p a;exact h (st.getD j ah.aa) (bK b);rw[awp (by omega)]at a;exact h p a
omit Q in
theorem mN:zT.2.2.2.2.2.2.1.length<=8*zT.2.2.2.2.2.1.length:=by decide
theorem WZ(h:Rt k c ti O st Z U gr A nn T V E M)(o:Ex n c ti st U A nn T n_ V E M)(hn:n<=160)(x:i<3)(y:E.getD i ak.aa=t)(J:t.1=1):
 (fy true k (c,ti,O,st,Z,U,gr,A,nn,T,n_,V,E,M) i).1=true->
 ∃u v m g z j a b,(fy true k (c,ti,O,st,Z,U,gr,A,nn,T,n_,V,E,M) i).2=(c,u,O,v,m,g,z,A,nn,T,n_,j,a,b)/\
  Ex (n+1) c u v g A nn T n_ j a b:=by
 have D:=fT h.sto.ok;obtain⟨I,g2⟩:=gY (k:=k) (s:=t.2.2.1.1) D;obtain⟨L,B,hb,C,hv1,hw⟩:=dH h (by omega) y (by omega);have K:=(gF J).1 L;have f:∀p∈st,p.2.1<=(n:Int)+1:=fun p r=>by have:=o.ver p r;omega
 have q:=o.tg i (by omega);rw[y]at q;unfold fy qj;dsimp only;rw[y];by_cases F:t.2.1=0;rw[an F];unfold dZ;dsimp only;rw[y];by_cases w:(st.getD (bz k st t.2.2.1.1).toNat ah.aa).1= -1;rw[an w,aY];intro _;exact⟨_,_,_,_,_,_,_,_,rfl,o.iO h.ti0 (by omega) h.tl x (kZ f) (by omega) (by omega) (by omega) q⟩;rw[a_ w];intro C;simp[bH]at C;rw[a_ F];by_cases G:t.2.1=1;rw[an G];by_cases w:rl k c st t.2.2.1=true;rw[an w,aY];intro _;exact⟨_,_,_,_,_,_,_,_,rfl,o.iO h.ti0 (by omega) h.tl x (kZ f) (by omega) (by omega) (kv Q B (aws (oc Q) (by rw[aX];omega))) mN⟩;rw[a_ w,aY];intro _;refine⟨_,_,_,_,_,_,_,_,rfl,o.iO h.ti0 (by omega) h.tl x (fun p r=> ?_) (by omega) (by omega) (kv Q B ?_) q⟩;rw[sJ D]at r;rcases avX r with r|rfl;exact f p r;have hv:=o.ver _ (bK (d:=ah.aa) I);have hv0:=(dM.1 ((cE.1 h.sto.ok).1 _ I)).2.2.2;rw[(sG k _ _).1,wrap64 (by omega) (by omega)];omega;unfold nT;rw[bN Q,bN Q];dsimp only;omega;rw[a_ G,aY];intro _;have ha:=iS Q K.1.2.2.2.2.2.1
 have H:∀l:List ae,af (.sl ab) (l++[t.2.2.1])<=af (.sl ab) l+100:=fun l=>by
  rw[dP (e:=ab),bS (e:=ab),aX];omega
 refine⟨_,_,_,_,_,_,_,_,rfl,o.iO h.ti0 (by omega) h.tl x (kZ f) (H _) (H _) ?_ mN⟩
 have a1:af (.sl aw) (M++[eT (mO i t.2.2.1) O ti ti ti])<=af (.sl aw) M+200:=pg Q (by
  unfold eT mO;rw[bN Q];dsimp only;rw[aX,aX];omega)
 have a2:af (.sl aw) ((M++[eT (mO i t.2.2.1) O ti ti ti]).set (bf t).toNat (lP (M.getD (bf t).toNat aw.aa) ti))<=af (.sl aw) (M++[eT (mO i t.2.2.1) O ti ti ti])+0:=kv Q (by rw[K_];omega) (by
  rw[ig _ B];unfold lP;rw[bN Q,bN Q];exact awe _)
 omega
end
end Vg.Tryz
