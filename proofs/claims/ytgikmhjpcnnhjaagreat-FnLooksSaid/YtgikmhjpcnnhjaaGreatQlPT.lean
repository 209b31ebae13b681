/- Texts of this law, joined. -/
import Derived.Test.YtgikmhjpcnnhjaaGreatQlE6
set_option linter.unusedSimpArgs false
set_option linter.unusedVariables false
set_option linter.unusedSectionVars false
set_option linter.defProp false
open Option renaming bind_some -> av,bind -> auO
open Int renaming toNat_natCast -> aus
open Bool renaming false_eq_true -> cz,eq_false_or_eq_true -> v_,not_true -> l5,and_eq_true -> C_,eq_iff_iff -> w_,not_eq_true -> F_,not_false -> F',true_and -> G8,or_true -> J7,false_ne_true -> auK,decide_and -> auS,false_and -> auT,and_self -> auV,eq_false_iff -> au2,and_false -> au9
open Nat renaming lt_irrefl -> g',le_trans -> r_,eq_zero_or_pos -> au0
open List renaming length_singleton -> G5,getD_eq_getElem?_getD -> auC,length_set -> J8,set_set -> H',replicate -> V_,take_length -> auL,take_succ_eq_append_getElem -> auM,nil_append -> auN,length_nil -> auP,getElem?_eq_getElem -> auQ,length_append -> auU,length_filter_le -> auW,replicate_succ' -> auX,filter_append -> auY,map_singleton -> auZ,getD -> au1,filter_cons -> au3,length_cons -> au6,ext_getElem -> au7,map_append -> au8
open Prod.mk renaming injEq -> auR
open Prod renaming ext -> au4,fst -> au5
namespace Vg.Tryz
open Go Vg
section
variable{k:Nat}(O:9223372036854775808<=k)
include O
def IM{c:aR}(h:ag az c<=1073741824):lV k (c,())=some (c,()):=by
 have h1:=dj O c;simp only[lV];rw[iL O (by omega),av]
def WM{c:aR}(h:ag az c<=1073741824):oR k (c,())=some (c,()):=by
 have h1:=dj O c;simp only[oR];rw[gq O (by omega),av]
def Up{p:aq}(h:ag aj p<=1073741824):ma k (p,())=some (p,()):=by
 have h1:=cM O p;have hl:=au (e:=az) (l:=p.2.2);simp only[ma];refine bV (λi=>(p,(0,(0,([]:List aR))),(p.1,p.2.1,p.2.2.take i),(i:Int),())) p.2.2.length (λG i a=> ?_) (λG=> ?_) k 0 (by omega) (by omega);have hm:=df (e:=az) (cY (d:=az.aa) a);simp only[aG,ax a,a,decide_true,if_true,aus];rw[IM O (by omega),av,an (by simp;omega),aY (by omega),j9 az.aa a];simp
def Z1{p:aq}(h:ag aj p<=1073741824):mU k (p,())=some (p,()):=by
 have h1:=cM O p;have hl:=au (e:=az) (l:=p.2.2);simp only[mU];refine bV (λi=>(p,(0,(0,([]:List aR))),(p.1,p.2.1,p.2.2.take i),p.2.2,(p.2.2.length:Int),(i:Int),())) p.2.2.length (λG i a=> ?_) (λG=> ?_) k 0 (by omega) (by omega);have hm:=df (e:=az) (cY (d:=az.aa) a);simp only[aG,ax a,a,decide_true,if_true,aus];rw[WM O (by omega),av,an (by simp;omega),aY (by omega),j9 az.aa a];simp
def T7{l:List aq}(h:ag (.sl aj) l<=1073741824):tA k (l,())=some (l,()):=
 IT (d:=aj.aa) (S:=ma k) O (r_ (au (e:=aj)) h) (λe a=>Up O (r_ (df (e:=aj) a) h))
def Xg{l:List aq}(h:ag (.sl aj) l<=1073741824):ue k (l,())=some (l,()):=
 Ow (d:=aj.aa) (S:=mU k) O (r_ (au (e:=aj)) h) (λe a=>Z1 O (r_ (df (e:=aj) a) h))
def T6{s:bp}(h:ag bj s<=1073741824):lU k (s,())=some (s,()):=by
 have h1:=gO O s;simp only[lU];rw[iL O (by omega),av]
def abc{s:bp}(h:ag bj s<=1073741824):nF k (s,())=some (s,()):=by
 have h1:=gO O s;simp only[nF];rw[gq O (by omega),av]
def afv{l:List bp}(h:ag (.sl bj) l<=1073741824):zW k (l,())=some (l,()):=
 IT (d:=bj.aa) (S:=lU k) O (r_ (au (e:=bj)) h) (λe a=>T6 O (r_ (df (e:=bj) a) h))
def Z5{l:List bp}(h:ag (.sl bj) l<=1073741824):vG k (l,())=some (l,()):=
 Ow (d:=bj.aa) (S:=nF k) O (r_ (au (e:=bj)) h) (λe a=>abc O (r_ (df (e:=bj) a) h))
theorem VX{l:List aI}(h:l.length<=1073741824):ns k (l,())=some (l,()):=by
 simp only[ns];rw[an (by simp;omega)];simp
def Yn{b:bE}(h:ag cJ b<=1073741824):ox k (b,())=some (b,()):=by
 have h1:=uw O b;have h2:=au (e:=al) (l:=b.2.1);simp only[ox];rw[rk O (by omega),av,gq O (by omega),av]
def EM{t:aA}(h:ag ah t<=1073741824):nJ k (t,())=some (t,()):=by
 have h1:=bq O t;have h2:=au (e:=al) (l:=t.2.2.2.1);have h3:=au (e:= .int .i64) (l:=t.2.2.2.2.2.1);simp only[nJ];rw[er O (by omega),av,an (by simp;omega),an (by simp;omega),iL O (by omega),av];simp
def Zf{t:aA}(h:ag ah t<=1073741824):qf k (t,())=some (t,()):=by
 have h1:=bq O t;have h2:=au (e:=al) (l:=t.2.2.2.1);have h3:=au (e:= .int .i64) (l:=t.2.2.2.2.2.1);simp only[qf];rw[vZ O (by omega),av,rk O (by omega),av,an (by simp;omega),gq O (by omega),av];simp
def acA{d:ay}(h:ag aw d<=1073741824):n0 k (d,())=some (d,()):=by
 have h1:=cD O d;have h2:=au (e:=al) (l:=d.2.2.2.1);simp only[n0];rw[er O (by omega),av,an (by simp;omega),iL O (by omega),av];simp
def ZA{d:ay}(h:ag aw d<=1073741824):qk k (d,())=some (d,()):=by
 have h1:=cD O d;have h2:=au (e:=al) (l:=d.2.2.2.1);simp only[qk];rw[vZ O (by omega),av,rk O (by omega),av,gq O (by omega),av]
def aeR{l:List ay}(h:ag (.sl aw) l<=1073741824):xU k (l,())=some (l,()):=
 IT (d:=aw.aa) (S:=n0 k) O (r_ (au (e:=aw)) h) (λe a=>acA O (r_ (df (e:=aw) a) h))
def X7{b:bE}(h:ag cJ b<=1073741824):kf k (b,())=some (b,()):=by
 have h1:=uw O b;exact Ki O (by omega) (by omega)
def uN{w:af}(hs:ag aN w<=1073741824):fQ k (w,())=some (w,()):=by
 have p:=cO O w;obtain⟨c,h,M,st,j,fd,m,gr,nn,g,b,n,f,o⟩:=w;simp only at p;have h1:=au (e:=aL) (l:=g);have h2:=au (e:=cJ) (l:=b);have h3:=au (e:=ah) (l:=f);simp only[fQ,aO];rw[OS O (by omega),av,T7 O (by omega),av,afv O (by omega),av,iL O (by omega),av,uW O (by omega),av,an (by simp;omega)];simp only[auN];refine bV (λi=>((c,h,M,st,j,fd,m,gr,nn,g,b,n,f,o),_,(c,h,M,st,j,fd,m,gr,nn,g,b.take i,n,f,o),c,(i:Int),())) b.length (λG i a=> ?_) (λG=> ?_) k 0 (by omega) (by omega);have q:=df (e:=cJ) (cY (d:=cJ.aa) a);simp only[aG,ax a,a,decide_true,if_true,aus];rw[X7 O (by omega),av,an (by simp;omega),aY (by omega),j9 cJ.aa a];simp only[aG,g',decide_false,cz,if_false,auL];rw[iL O (by omega),av];refine bV (λi=>((c,h,M,st,j,fd,m,gr,nn,g,b,n,f,o),_,(c,h,M,st,j,fd,m,gr,nn,g,b,n,f.take i,o),c,(i:Int),())) f.length (λG i a=> ?_) (λG=> ?_) k 0 (by omega) (by omega);have q:=df (e:=ah) (cY (d:=ah.aa) a);simp only[aG,ax a,a,decide_true,if_true,aus];rw[EM O (by omega),av,an (by simp;omega),aY (by omega),j9 ah.aa a];simp only[aG,g',decide_false,cz,if_false,auL];rw[aeR O (by omega),av]
def zB{w:af}(hs:ag aN w<=1073741824):cZ k (w,())=some (w,()):=by
 have q:=cO O w;obtain⟨c,j,M,st,m,fd,n,gr,nn,h,b,o,f,g⟩:=w;simp only at q;have h1:=au (e:=aL) (l:=h);have h2:=au (e:=cJ) (l:=b);have h3:=au (e:=ah) (l:=f);have h4:=au (e:=aw) (l:=g);simp only[cZ,aO]
 rw[aaj O (by omega),av,Xg O (by omega),av,Z5 O (by omega),av,gq O (by omega),av,gq O (by omega),av,
  VN O (by omega),av,VX O (by omega),av]
 refine bV (λi=>((c,j,M,st,m,fd,n,gr,nn,h,b,o,f,g),_,b.take i,b,(b.length:Int),(i:Int),())) b.length (λG i a=> ?_) (λG=> ?_) k 0 (by omega) (by omega);have p:=df (e:=cJ) (cY (d:=cJ.aa) a);simp only[aG,ax a,a,decide_true,if_true,aus];rw[Yn O (by omega),av,an (by simp;omega),aY (by omega),j9 cJ.aa a];simp only[aG,g',decide_false,cz,if_false,auL];refine bV (λi=>((c,j,M,st,m,fd,n,gr,nn,h,b,o,f,g),_,b,f.take i,f,(f.length:Int),(i:Int),())) f.length (λG i a=> ?_) (λG=> ?_) k 0 (by omega) (by omega);have p:=df (e:=ah) (cY (d:=ah.aa) a);simp only[aG,ax a,a,decide_true,if_true,aus];rw[Zf O (by omega),av,an (by simp;omega),aY (by omega),j9 ah.aa a];simp only[aG,g',decide_false,cz,if_false,auL];refine bV (λi=>((c,j,M,st,m,fd,n,gr,nn,h,b,o,f,g),_,b,f,g.take i,g,(g.length:Int),(i:Int),())) g.length (λG i a=> ?_) (λG=> ?_) k 0 (by omega) (by omega);have p:=df (e:=aw) (cY (d:=aw.aa) a);simp only[aG,ax a,a,decide_true,if_true,aus];rw[ZA O (by omega),av,an (by simp;omega),aY (by omega),j9 aw.aa a];simp only[aG,g',decide_false,cz,if_false,auL]
end
def NB(a b:ae):Bool:=decide (a.2.1<=b.2.2.1)&&decide (b.2.1<=a.2.2.1)
def nG(a b:ae):ae:=if NB a b=true then(b.1,if b.2.1<a.2.1 then b.2.1 else a.2.1,b.2.2)else b
def nL(c:aR)(a:ae):aR:=
 match jd c.2 a.1 with
 |some i=>(c.1,c.2.set i (nG (c.2.getD i ab.aa) a))
 |none=>(c.1,c.2++[a])
def lQ(l:List aR)(f:Int):Nat:=(iB l.length (λi=> !decide ((l.getD i az.aa).1<f))).getD l.length
def iY(k:Nat)(p:aq)(a:ae):aq×Bool:=
 match iS p (dA k a.1)with
 |some i=>((p.1,IntKind.i64.wrap (p.2.1+1),p.2.2.set i (nL (p.2.2.getD i az.aa) a)),(jd (p.2.2.getD i az.aa).2 a.1).isNone)
 |none=>((p.1,IntKind.i64.wrap (p.2.1+1),p.2.2.take (lQ p.2.2 (dA k a.1))++[(dA k a.1,[a])]++p.2.2.drop (lQ p.2.2 (dA k a.1))),true)
def fk(k:Nat)(l:List aq)(a:ae):List aq×Bool:=
 if l.length=0 then(l,false)else(l.set (bO k l a.1).toNat (iY k (l.getD (bO k l a.1).toNat aj.aa) a).1,(iY k (l.getD (bO k l a.1).toNat aj.aa) a).2)
def abq{α:Type}(l:List aR)(f:Int)(g:Nat->α):(match iB l.length (λi=> !decide ((l.getD i az.aa).1<f))with|some i=>g i|none=>g l.length)=g (lQ l f):=by
 unfold lQ;cases iB l.length (λi=> !decide ((l.getD i az.aa).1<f))<;>rfl
section
variable{k:Nat}(O:9223372036854775808<=k)
include O
theorem Wj{a b:ae}:vT k (a,b,())=some (NB a b,()):=by
 simp only[vT,NB];by_cases h:a.2.1<=b.2.2.1<;>simp[h]
def Wg{a b:ae}(hb:ag ab b<=1048576):u4 k (a,b,())=some (nG a b,()):=by
 simp only[u4,yR];rw[er O (by omega),av,Wj O,av];unfold nG;cases NB a b;simp;by_cases h:b.2.1<a.2.1<;>simp[h]
def adl{a b:ae}:ag ab (nG a b)=ag ab b:=by
 unfold nG;split;rw[bG O,bG O];rfl
def zp{c:aR}{a:ae}(hc:ag az c<=1048576)(d:ag ab a<=1048576):mh k (c,a,())=some (nL c a,(jd c.2 a.1).isNone,()):=by
 have h1:=dj O c;have h2:=au (e:=ab) (l:=c.2);simp only[mh];rw[IM O (by omega),av];unfold nL;cases h:jd c.2 a.1 with
 |none=>
  have e:jy k (c,a.1,())=some (-1,()):=by rw[vW O (by omega),h];rfl
  rw[e,av,an (by decide),er O (by omega),av,an (by simp;omega)];rfl
 |some i=>
  have b:=(bl.1 h).1;have e:jy k (c,a.1,())=some ((i:Int),()):=by rw[vW O (by omega),h];rfl
  rw[e,av,a_ (by simp),an (ax b),Wg O d,av,an (ax b)];rfl
def W4{c:aR}{a:ae}:ag az (nL c a)<=ag az c+ag ab a+1:=by
 have h1:=dj O c;have d:=dj O (nL c a);unfold nL at d|-;cases h:jd c.2 a.1 with
 |none=>
  rw[h]at d;dsimp only at d|-;have f:=fa (e:=ab) c.2 [a];have g:=ck (e:=ab) a [];have h5:=bf (e:=ab);rw[d];omega
 |some i=>
  have j:=(bl.1 h).1;rw[h]at d;dsimp only at d|-;have f:=iT (e:=ab) c.2 i (nG (c.2.getD i ab.aa) a) j;have g:=adl O (a:=c.2.getD i ab.aa) (b:=a);rw[d];omega
def FI{p:aq}{a:ae}(d:ag aj p<=1048576)(g:ag ab a<=1048576):qt k (p,a,())=some ((iY k p a).1,(iY k p a).2,()):=by
 have h1:=cM O p;have h2:=au (e:=az) (l:=p.2.2);have h3:=bG O a;simp only[qt];rw[Up O (by omega),av,gA O (by omega),av];unfold iY;cases h:iS p (dA k a.1)with
 |some i=>
  have b:=(bl.1 h).1;have e:mW k (p,dA k a.1,())=some ((i:Int),()):=by rw[uS O (by omega),h];rfl
  rw[e,av,an (by simp),an (ax b)];simp only[aus];rw[zp O (jj O d b).1 g,av,an (ax b)]
 |none=>
  have e:mW k (p,dA k a.1,())=some (-1,()):=by rw[uS O (by omega),h];rfl
  rw[e,av,a_ (by decide)];simp only[aO];generalize hf:dA k a.1=f at h|-
  refine(mT (λi:Nat=>(p,a,(0,0,([]:List aR)),(p.1,IntKind.i64.wrap (p.2.1+1),p.2.2),f,(i:Int),())) (λi=> !decide ((p.2.2.getD i az.aa).1<f)) p.2.2.length
   (e:=some ((p.1,IntKind.i64.wrap (p.2.1+1),p.2.2.take p.2.2.length++[(f,[a])]++p.2.2.drop p.2.2.length),true,())) (λi=>some ((p.1,IntKind.i64.wrap (p.2.1+1),p.2.2.take i++[(f,[a])]++p.2.2.drop i),true,())) (λG i b=> ?_) (λG=> ?_) k (by omega)).trans ?_
  simp only[aG,ax b,b,decide_true,if_true,aus,J7];by_cases hc:(p.2.2.getD i az.aa).1<f;rw[c_ hc,aY (by omega)];simp;rw[decide_eq_false hc];simp only[F',if_true,cz,if_false];rw[er O (by omega),av,an (c_ ⟨by omega,by omega⟩),an (c_ (by simp;omega)),an (c_ (by simp;omega)),an (c_ ⟨by omega,by omega⟩),an (c_ (by simp;omega)),auN];simp only[aG,g',decide_false,cz,if_false,aus];rw[an (by simp),er O (by omega),av,an (c_ ⟨by omega,by omega⟩),an (c_ (by simp;omega)),an (c_ (by simp;omega)),an (c_ ⟨by omega,by omega⟩),an (c_ (by simp;omega)),auN];exact abq p.2.2 f (λi=>some ((p.1,IntKind.i64.wrap (p.2.1+1),p.2.2.take i++[(f,[a])]++p.2.2.drop i),true,()))
def W5{p:aq}{a:ae}:ag aj (iY k p a).1<=ag aj p+ag ab a+2:=by
 have h1:=cM O p;have b:=cM O (iY k p a).1;unfold iY at b|-;cases h:iS p (dA k a.1)with
 |some i=>
  have d:=(bl.1 h).1;rw[h]at b;dsimp only at b|-;have f:=iT (e:=az) p.2.2 i (nL (p.2.2.getD i az.aa) a) d;have g:=W4 O (c:=p.2.2.getD i az.aa) (a:=a);rw[b];omega
 |none=>
  rw[h]at b;dsimp only at b|-;have f:=fa (e:=az) (p.2.2.take (lQ p.2.2 (dA k a.1))++[(dA k a.1,[a])]) (p.2.2.drop (lQ p.2.2 (dA k a.1)));have g:=fa (e:=az) (p.2.2.take (lQ p.2.2 (dA k a.1))) [(dA k a.1,[a])];have h5:=ck (e:=az) (dA k a.1,[a]) [];have h6:=bf (e:=az);have h7:=dj O (dA k a.1,[a]);have h8:=ck (e:=ab) a [];have h9:=bf (e:=ab);have xw:=dH (e:=az) p.2.2 (lQ p.2.2 (dA k a.1));dsimp only at h7;rw[b];omega
def y5{l:List aq}{a:ae}(d:ag (.sl aj) l<=1048576)(e:ag ab a<=1048576):mM k (l,a,())=some ((fk k l a).1,(fk k l a).2,()):=by
 have h3:=bG O a;simp only[mM];rw[T7 O (by omega),av];unfold fk;by_cases b:l.length=0;rw[an (by simpa using b),an b];obtain⟨q1,q2,q3⟩:=qW (k:=k) (l:=l) (s:=a.1) b;rw[a_ (by simpa using b),a_ b,rF O (by omega),av,an (c_ ⟨q1,q2⟩),FI O (lp O d q3) e,av,an (c_ ⟨q1,q2⟩)]
theorem ae3{l:List aq}{a:ae}:(fk k l a).1.length=l.length:=by
 unfold fk;split<;>simp
def UJ{l:List aq}{a:ae}:ag (.sl aj) (fk k l a).1<=ag (.sl aj) l+ag ab a+2:=by
 unfold fk;by_cases b:l.length=0;rw[an b];dsimp only;omega;rw[a_ b];obtain⟨q1,q2,q3⟩:=qW (k:=k) (l:=l) (s:=a.1) b;have h1:=iT (e:=aj) l (bO k l a.1).toNat (iY k (l.getD (bO k l a.1).toNat aj.aa) a).1 q3;have h2:=W5 O (p:=l.getD (bO k l a.1).toNat aj.aa) (a:=a);dsimp only;omega
end
def ni(M:Int)(l:List ae):List ae:=l.filter λa=>decide (a.2.2.1<=M)
def lN(M:Int)(c:aR):aR:=(c.1,fx M c.2)
def nv(M:Int)(l:List aR):List aR:=(l.map (lN M)).filter λc=>decide (0<c.2.length)
def e9(M:Int)(l:List aR):List ae:=l.flatMap λc=>ni M c.2
def gj(p:aq)(M:Int):aq:=(p.1,if 0<(e9 M p.2.2).length then IntKind.i64.wrap (p.2.1+1)else p.2.1,nv M p.2.2)
def ve(a:ae)(s:bp):bp:=if s.2=true then s else if 3<=s.1.length then([],true)else(s.1++[a],s.2)
def ZL{α:Type}(p:α->Bool){l:List α}{i:Nat}(d:α)(h:i<l.length):(l.take (i+1)).filter p=if p (l.getD i d)=true then(l.take i).filter p++[l.getD i d]else(l.take i).filter p:=by
 have b:l.getD i d=l[i]:=by rw[auC,auQ h];rfl
 rw[auM h,auY,b];by_cases a:p l[i]=true;simp[a];simp[a]
def adC{M:Int}{l:List aR}{i:Nat}(h:i<l.length):nv M (l.take (i+1))=if 0<(fx M (l.getD i az.aa).2).length then nv M (l.take i)++[lN M (l.getD i az.aa)]else nv M (l.take i):=by
 have b:l.getD i az.aa=l[i]:=by rw[auC,auQ h];rfl
 unfold nv;rw[auM h,au8,auY,b];by_cases a:0<(fx M (l[i]).2).length;rw[an a,auZ,au3,an (show(decide (0<(lN M l[i]).2.length))=true from c_ a)];rfl;rw[a_ a,auZ,au3,a_ (show¬(decide (0<(lN M l[i]).2.length))=true from λh=>a (e_ h))];simp
section
variable{k:Nat}(O:9223372036854775808<=k)
include O
theorem I4{M:Int}{l:List ae}:ag (.sl ab) (ni M l)<=ag (.sl ab) l:=vU (e:=ab) _ l
def KZ{c:aR}{M:Int}(hc:ag az c<=1048576):qn k (c,M,())=some (lN M c,ni M c.2,()):=by
 have h1:=dj O c;have h2:=au (e:=ab) (l:=c.2);simp only[qn,aO];refine(bV (λi:Nat=>(M,c,(0,([]:List ae)),(c.1,fx M (c.2.take i)),ni M (c.2.take i),(i:Int),())) c.2.length (e:=some (lN M c,ni M c.2,())) (λG i a=> ?_) (λG=> ?_) k 0 (by omega) (by omega));have l1:=NI (M:=M) (l:=c.2.take i);have d:(ni M (c.2.take i)).length<=(c.2.take i).length:=auW ..;have l3:(c.2.take i).length<=c.2.length:=by simp;omega
 have hm:ag ab (c.2.getD i ab.aa)<=1048576:=(iE O (by omega) a).1;simp only[aG,ax a,a,decide_true,if_true,aus,sU];rw[aY (by omega),er O (by omega),av,av,Kb a];unfold ni at d|-;rw[ZL _ ab.aa a];by_cases b:(c.2.getD i ab.aa).2.2.1<=M;simp only[b,decide_true,if_true,l5,cz,if_false];rw[an (c_ (by simp only[G5];omega))];simp only[b,decide_false,cz,if_false,F',if_true];rw[an (c_ (by simp only[G5];omega))];simp[lN]
def adT{M:Int}(l:List aR):(e9 M l).length<=ag (.sl az) l:=by
 have a:ag (.sl ab) (e9 M l)<=ag (.sl az) l:=oB O (e:=az) (f:=ab) (g:=λc=>ni M c.2) (λc=>r_ (I4 O) (by rw[dj O];exact Nat.le_refl _)) l;exact r_ (au (e:=ab)) a
theorem adG{M:Int}(l:List aR):(nv M l).length<=l.length:=by
 unfold nv;exact r_ (auW ..) (by simp)
def OH{p:aq}{M:Int}(g:ag aj p<=1048576):rL k (p,M,())=some (gj p M,e9 M p.2.2,()):=by
 have h1:=cM O p;have h2:=au (e:=az) (l:=p.2.2);simp only[rL,aO];refine(bV (λi:Nat=>(M,p,(0,0,([]:List aR)),(p.1,p.2.1,nv M (p.2.2.take i)),e9 M (p.2.2.take i),(i:Int),())) p.2.2.length (e:=some (gj p M,e9 M p.2.2,())) (λG i d=> ?_) (λG=> ?_) k 0 (by omega) (by omega));have l1:=adG O (M:=M) (p.2.2.take i);have l2:=adT O (M:=M) (p.2.2.take i);have l3:=dH (e:=az) p.2.2 i;have l4:(p.2.2.take i).length<=p.2.2.length:=by simp;omega
 have l6:(ni M (p.2.2.getD i az.aa).2).length<=1048576:=r_ (au (e:=ab)) (r_ (I4 O) (jj O g d).2);simp only[aG,ax d,d,decide_true,if_true,aus];rw[aY (by omega),KZ O (jj O g d).1,av,adC d];have j:e9 M (p.2.2.take (i+1))=e9 M (p.2.2.take i)++ni M (p.2.2.getD i az.aa).2:=fK (f:=λc:aR=>ni M c.2) az.aa d;rw[j,an (c_ (by first|omega|(dsimp only;omega)|(simp;omega)))];by_cases a:0<(fx M (p.2.2.getD i az.aa).2).length;rw[an (c_ (by simp only[lN];omega)),an a,an (c_ (by simp only[G5];first|omega|(dsimp only;omega)|(simp;omega)))];have b:¬decide ((((lN M (p.2.2.getD i az.aa)).2.length:Nat):Int)>0)=true:=λh=>a (by have h9:=e_ h;simp only[lN]at h9;omega);rw[a_ b,a_ a];simp only[aG,g',decide_false,cz,if_false,auL];unfold gj;by_cases a:0<(e9 M p.2.2).length;rw[an (c_ (by omega)),an a];have b:¬decide ((((e9 M p.2.2).length:Nat):Int)>0)=true:=λh=>a (by have h9:=e_ h;omega);rw[a_ b,a_ a]
def Hz{s:bp}{a:ae}(hs:ag bj s<=1048576)(ha:ag ab a<=1048576):sR k (s,a,())=some (ve a s,()):=by
 have h1:=gO O s;have h2:=au (e:=ab) (l:=s.1);simp only[sR];rw[T6 O (by omega),av];unfold ve;by_cases b:s.2=true;rw[an b,an b];rw[a_ b,a_ b];by_cases d:3<=s.1.length;rw[an (c_ (by omega)),an d];have f:¬decide (((s.1.length:Nat):Int)>=3)=true:=λh=>d (by have h9:=e_ h;omega);rw[a_ f,a_ d,er O (by omega),av,an (c_ (by simp only[G5];omega))]
def Oo{l:List bp}{a:ae}(d:ag (.sl bj) l<=1048576)(f:ag ab a<=1048576):rm k (l,a,())=some (l.map (ve a),()):=by
 have h2:=au (e:=bj) (l:=l);simp only[rm];refine(bV (λi:Nat=>(l,a,(l.take i).map (ve a),(i:Int),())) l.length (e:=some (l.map (ve a),())) (λG i b=> ?_) (λG=> ?_) k 0 (by omega) (by omega));have g:l.getD i bj.aa=l[i]:=by rw[auC,auQ b];rfl
 simp only[aG,ax b,b,decide_true,if_true,aus];rw[aY (by omega),Hz O (X8 O d b) f,av,an (c_ (by simp;omega)),auM b,au8,g];rfl;simp
end
def BR(l:List aI)(i j:Nat):List aI:=(l.set i (l.getD j aL.aa)).set j (l.getD i aL.aa)
def ib(l:List aI)(i j:Nat):(BR l i j).length=l.length:=by simp[BR]
def UI(l:List aI)(i:Nat):List aI:=
 if h:0<i then if cB (l.getD i aL.aa) (l.getD ((i-1)/2) aL.aa)=true then UI (BR l i ((i-1)/2)) ((i-1)/2)else l else l
termination_by i
decreasing_by omega
def E5(l:List aI)(t:aI):List aI:=UI (l++[t]) l.length
def jY(l:List aI)(i:Nat):Nat:=
 if 2*i+2<l.length/\cB (l.getD (2*i+2) aL.aa) (l.getD (2*i+1) aL.aa)=true then 2*i+2 else 2*i+1
def yD(l:List aI)(i:Nat):List aI:=
 if h:2*i+1<l.length then
  if cB (l.getD (jY l i) aL.aa) (l.getD i aL.aa)=true then yD (BR l i (jY l i)) (jY l i)else l
 else l
termination_by l.length-i
decreasing_by
 rw[ib]
 have:i<jY l i:=by unfold jY;split<;>omega
 omega
def ah6{l:List aI}{i:Nat}(h:2*i+1<l.length):i<jY l i/\jY l i<l.length:=by unfold jY;split<;>omega
def gJ(l:List aI):List aI×aI×Bool:=
 if l.length=0 then([],(0,0),false)
 else(if l.length=1 then []else yD ((l.take (l.length-1)).set 0 (l.getD (l.length-1) aL.aa)) 0,l.getD 0 aL.aa,true)
def i2a{i:Nat}(h:i<1073741824):IntKind.i64.wrap (IntKind.i64.wrap ((2:Int)*(i:Int))+1)=((2*i+1:Nat):Int):=by
 have e:(2:Int)*(i:Int)=((2*i:Nat):Int):=by omega
 have w:IntKind.i64.wrap ((2*i:Nat):Int)=((2*i:Nat):Int):=by
  have:=aY (i:=2*i-1) (by omega);rcases au0 i with a|a;subst a;rfl;have b:(((2*i-1:Nat):Int)+1)=((2*i:Nat):Int):=by omega
  rw[b]at this;rw[this];congr 1;omega
 rw[e,w,aY (by omega)]
def i2b{i:Nat}(h:i<1073741824):IntKind.i64.wrap (((2*i+1:Nat):Int)+1)=((2*i+2:Nat):Int):=by
 rw[aY (by omega)]
theorem LH{σ ρ α:Type}{f:(σ->Option ρ)->σ->Option ρ}(st:α->σ)(res:α->Option ρ)(I:α->Prop)(m:α->Nat)
 (h:∀G a,I a->(∃b,I b/\m b<m a/\res b=res a/\f G (st a)=G (st b))\/f G (st a)=res a):
 ∀n a,I a->m a<n->aM n f (st a)=res a
 |0,a,_,hn=>by omega
 |n+1,a,hI,hn=>by
  rcases h (aM n f) a hI with⟨b,d,hm,g,e⟩|e;show f (aM n f) (st a)=_;rw[e,<-g];exact LH st res I m h n b d (by omega);exact e
def aef{σ ρ α:Type}{f:(σ->Option ρ)->σ->Option ρ}(st:α->σ)(res:α->Option ρ)(I:α->Prop)(m:α->Nat)
 (h:∀a,I a->∃(c:Bool) (b:α),(c=true->I b/\m b<m a/\res b=res a)/\∀G,f G (st a)=if c=true then G (st b)else res a):
 ∀n a,I a->m a<n->aM n f (st a)=res a:=by
 refine LH st res I m (λG a g=> ?_);obtain⟨c,b,d,e⟩:=h a g;cases c with
 |true=>exact Or.inl ⟨b,(d rfl).1,(d rfl).2.1,(d rfl).2.2,e G⟩
 |false=>exact Or.inr (e G)
def aeK{n:Nat}(h:n<4611686018427387904):IntKind.i64.wrap (n:Int)=(n:Int):=by
 rcases au0 n with a|a;subst a;rfl;have:=aY (i:=n-1) (by omega);have b:(((n-1:Nat):Int)+1)=(n:Int):=by omega
 rw[b]at this;rw[this];congr 1;omega
def amt{α:Type}{l:List α}{t:α}(h:l.length<=1048576):IntKind.i64.wrap ((((l++[t]).length:Nat):Int)-1)=(l.length:Int):=by
 rw[auU,G5];have e:(((l.length+1:Nat):Int)-1)=(l.length:Int):=by omega
 rw[e,aeK (by omega)]
section
variable{k:Nat}(O:9223372036854775808<=k)
include O
def A6{l:List aI}{t:aI}(g:l.length<=1048576):nQ k (l,t,())=some (E5 l t,()):=by
 simp only[nQ,auN];rw[an (c_ (by simp only[auP];omega)),an (c_ (by simp only[G5];omega)),amt g];unfold E5;have d:(l++[t]).length<=1048577:=by simp;omega
 have b:l.length<(l++[t]).length:=by simp
 refine LH (λa:List aI×Nat=>(t,a.1,(a.2:Int),())) (λa=>some (UI a.1 a.2,())) (λa=>a.2<a.1.length/\a.1.length<=1048577) (λa=>a.2) ?_ k (l++[t],l.length) ⟨b,d⟩ (by dsimp only;omega);rintro G ⟨L,i⟩ ⟨b,d⟩;dsimp only at b d|-;rw[UI];cases i with
 |zero=>
  right;simp only[gtZ];simp
 |succ q=>
  have f:q/2<L.length:=by omega
  have h:decide (¬(2:Int)=0)=true:=rfl;have j:(q+1-1)/2=q/2:=by omega
  simp only[aG,ax b,ax f,b,Uw,HJ (show q<4611686018427387904 by omega),decide_true,if_true,aus,ji O,av,J8,fu,ne_eq,h,J7,beq_self_eq_true,j];rw[dif_pos (Nat.succ_pos q)];by_cases e:cB (L.getD (q+1) aL.aa) (L.getD (q/2) aL.aa)=true;left;refine⟨(BR L (q+1) (q/2),q/2),⟨by rw[ib];exact f,by rw[ib];exact d⟩,by show q/2<q+1;omega,by rw[an e],?_⟩;rw[an e];rfl;right;rw[a_ e,a_ e]
def Lb{l:List aI}(hl:l.length<=1048576):qm k (l,())=some ((gJ l).1,(gJ l).2.1,(gJ l).2.2,()):=by
 simp only[qm];unfold gJ;by_cases j:l.length=0;rw[an (by simpa using j),an j]
 have v:IntKind.i64.wrap (((l.length:Nat):Int)-1)=((l.length-1:Nat):Int):=by
  have:(((l.length:Nat):Int)-1)=((l.length-1:Nat):Int):=by omega
  rw[this,aeK (by omega)]
 have e:decide ((0:Int)<=0/\(0:Int)<(l.length:Int))=true:=c_ ⟨by omega,by omega⟩;rw[a_ (by simpa using j),a_ j,v,an (c_ ⟨by omega,by omega⟩),aus,an (c_ (by simp;omega))];simp only[aO,auN,e,if_true];by_cases m:l.length=1;rw[a_ (by simp;omega),an m];have w:l.take (l.length-1)=[]:=by rw[m];rfl
 rw[w];obtain⟨q,f⟩:∃q,k=q+1:=⟨k-1,by omega⟩
 rw[f];simp only[aM,m];rfl;rw[an (by simp;omega),a_ m,an (c_ ⟨by omega,by omega⟩),an (c_ ⟨by omega,by simp;omega⟩)];have t:((l.take (l.length-1)).set 0 (l.getD (l.length-1) aL.aa)).length=l.length-1:=by simp
 refine aef (λa:List aI×Nat=>(l,(0,0),((l.length-1:Nat):Int),a.1,(a.2:Int),())) (λa=>some (yD a.1 a.2,l.getD 0 aL.aa,true,())) (λa=>a.1.length=l.length-1/\a.2<a.1.length)
  (λa=>l.length-a.2) ?_ k ((l.take (l.length-1)).set 0 (l.getD (l.length-1) aL.aa),0) ⟨t,by rw[t];show 0<_;omega⟩ (by dsimp only;omega)
 rintro⟨L,i⟩ ⟨o,p⟩;dsimp only at o p|-;have u:l.getD (Int.toNat 0) aL.aa=l.getD 0 aL.aa:=rfl;have b:yD L i=_:=yD.eq_1 L i;by_cases d:2*i+1<L.length;rw[dif_pos d]at b;obtain⟨k1,r⟩:=ah6 d;refine⟨cB (L.getD (jY L i) aL.aa) (L.getD i aL.aa),(BR L i (jY L i),jY L i),λhc=> ?_,λG=> ?_⟩;refine⟨⟨by rw[ib];exact o,by rw[ib];exact r⟩,by dsimp only;omega,?_⟩;rw[an hc]at b;rw[b];simp only[i2a (show i<1073741824 by omega),i2b (show i<1073741824 by omega),aO,aG,aus,<-o,J8,fu,d,decide_true,if_true,u];by_cases g:2*i+2<L.length;simp only[g,ax g,ax d,decide_true,J7,if_true,beq_self_eq_true,ji O,av];by_cases n:cB (L.getD (2*i+2) aL.aa) (L.getD (2*i+1) aL.aa)=true;rw[an n];have f:jY L i=2*i+2:=an ⟨g,n⟩;simp only[<-f,ax r,ax p,J7,if_true,beq_self_eq_true,ji O,av,cz,if_false];rcases v_ (cB (L.getD (jY L i) aL.aa) (L.getD i aL.aa))with hb|hb;rw[a_ (by rw[hb];decide),an hb];rfl;rw[an (by rw[hb];decide),an e,a_ (by rw[hb];decide),b,a_ (by rw[hb];decide)];rw[a_ n];have f:jY L i=2*i+1:=a_ (λh=>n h.2);simp only[<-f,ax r,ax p,J7,if_true,beq_self_eq_true,ji O,av,cz,if_false];rcases v_ (cB (L.getD (jY L i) aL.aa) (L.getD i aL.aa))with hb|hb;rw[a_ (by rw[hb];decide),an hb];rfl;rw[an (by rw[hb];decide),an e,a_ (by rw[hb];decide),b,a_ (by rw[hb];decide)];have s:decide (2*i+2<L.length)=false:=decide_eq_false g;have x:(false==true)=false:=rfl;simp only[s,x,F',Bool.true_or,if_true,cz,if_false,av];have f:jY L i=2*i+1:=a_ (λh=>g h.1);simp only[<-f,ax r,ax p,J7,if_true,beq_self_eq_true,ji O,av,cz,if_false];rcases v_ (cB (L.getD (jY L i) aL.aa) (L.getD i aL.aa))with hb|hb;rw[a_ (by rw[hb];decide),an hb];rfl;rw[an (by rw[hb];decide),an e,a_ (by rw[hb];decide),b,a_ (by rw[hb];decide)];rw[dif_neg d]at b;refine⟨false,(L,i),(λh=>nomatch h),λG=> ?_⟩;have y:decide (2*i+1<L.length)=false:=decide_eq_false d;simp only[i2a (show i<1073741824 by omega),aG,<-o,y,b,e,if_true,cz,if_false,u]
end
theorem A3{α:Type}[DecidableEq α]:∀(l m:List α),allEq (λa b=>decide (a=b)) l m=decide (l=m)
 | [],[]=>by simp[allEq]
 | [],_::_=>by simp[allEq]
 |_::_,[]=>by simp[allEq]
 |a::l,b::m=>by simp only[allEq,A3 l m,List.cons.injEq,auS]
def xO(a b:ByteArray):(a.toList==b.toList)=decide (a=b):=by
 by_cases h:a=b;simp[h];have:¬a.toList=b.toList:=λe=>h (toList_inj e);simp[h,this]
instance iLabel:DecidableEq ai:=inferInstance
instance iLabels:DecidableEq (List ai):=inferInstance
instance iAlarm:DecidableEq ae:= @instDecidableEqProd _ _ inferInstance inferInstance
instance iAlarms:DecidableEq (List ae):=inferInstance
instance iTail:DecidableEq (List Int×(List ae×aI)):=inferInstance
instance iTask:DecidableEq aA:= @instDecidableEqProd _ _ inferInstance (@instDecidableEqProd _ _ inferInstance (@instDecidableEqProd _ _ inferInstance (@instDecidableEqProd _ _ inferInstance (@instDecidableEqProd _ _ inferInstance inferInstance))))
def zT:aA:=(0,0,c9,[],0,[],[],0,0)
def mA(l:List Int):Bool:=bF 0 l.length (λi=>decide (0<=l.getD i 0))
def tc(t:aA):Bool:=decide (t.2.2.2.2.1=0)&&decide (t.2.2.2.2.2.1=[])&&decide (t.2.2.2.2.2.2.1=[])
def dR(t:aA)(n:Int):Bool:=
 bh n 0 4&&decide (0<=t.2.2.2.2.2.2.2.2)&&
 ((decide (t.1=0)&&decide (t=zT))||
  (decide (t.1=1)&&decide (n<3)&&bh t.2.1 0 2&&bA t.2.2.1&&decide (t.2.2.2.1=[])&&tc t&&decide (t.2.2.2.2.2.2.2.1=0))||
  (decide (t.1=2)&&decide (n<3)&&bh t.2.1 0 1&&decide (t.2.2.1=c9)&&dP t.2.2.2.1&&tc t&&decide (t.2.2.2.2.2.2.2.1=0))||
  (decide (t.1=3)&&decide (n<3)&&bh t.2.1 0 2&&decide (t.2.2.1=c9)&&decide (t.2.2.2.1=[])&&mA t.2.2.2.2.2.1&&decide ((t.2.2.2.2.2.1.length:Int)=t.2.2.2.2.1)&&bT t.2.2.2.2.2.2.1&&
   (if t.2.1=2 then bh t.2.2.2.2.1 1 3 else bh t.2.2.2.2.1 0 2)&&decide (t.2.2.2.2.2.2.2.1=0))||
  (decide (t.1=4)&&decide (n<3)&&bh t.2.1 0 1&&decide (t.2.2.1=c9)&&decide (t.2.2.2.1=[])&&bh t.2.2.2.2.1 0 2&&decide (t.2.2.2.2.2.1=[])&&decide (t.2.2.2.2.2.2.1=[])&&decide (t.2.2.2.2.2.2.2.1=0))||
  (decide (t.1=5)&&decide (n=3)&&bh t.2.1 0 1&&bA t.2.2.1&&decide (t.2.2.2.1=[])&&tc t&&decide (t.2.2.2.2.2.2.2.1=0))||
  (decide (t.1=6)&&decide (n=4)&&bh t.2.1 0 1&&decide (t.2.2.1=c9)&&decide (t.2.2.2.1=[])&&tc t&&decide (0<=t.2.2.2.2.2.2.2.1)))
def gM(op:Int):List Int:=if op=1 then [1,2,3,4]else if op=3 then [5,6]else if op=7 then [1,2,3]else if op=8 then [8,6]else if op=9 then [5,6,7]else [8]
def gg(k:Nat)(d:ay):Bool:=
 match d with
 |(op,task,_,_,i,n,code,_,M,inv,lin,res)=>
  bh op 1 9&&bh task (-1) 4&&decide (0<=inv)&&decide (0<=i)&&decide (0<=n)&&decide (0<=M)&&(decide (lin= -1)||decide (inv<=lin))&&(decide (res= -1)||(!decide (lin= -1)&&decide (lin<=res)))&&
   (if lin= -1 then decide (code=0)else decide (code∈gM op))
def br(k:Nat)(t:aA)(n:Int):Int:=
 if n<1 then-1
 else if t.1=1/\(t.2.1=1\/t.2.1=2)then eI (dA k t.2.2.1.1) n
 else if t.1=2/\t.2.1=1 then eI (dA k t.2.2.2.1) n
 else if(t.1=3\/t.1=4)/\t.2.1=1 then t.2.2.2.2.1
 else-1
def cW(t:aA):Bool:=(decide (t.1=5)||decide (t.1=6))&&decide (t.2.1=1)
section
variable{k:Nat}(O:9223372036854775808<=k)
include O
def iU{a b:ae}(d:a.1.length<=1048576):eZ k (a,b,())=some (decide (a=b),()):=by
 obtain⟨h,i,j,a4⟩:=a;obtain⟨l,m,n,b4⟩:=b;simp only[eZ,eT O d,av,cF,xO,auR,auS];by_cases e:h=l<;>by_cases f:i=m<;>by_cases g:j=n<;>simp[e,f,g]
def fS{a b:ae}(d:a.1.length<=1048576):cR k (a,b,())=some (decide (a=b),()):=by
 obtain⟨h,i,j,a4⟩:=a;obtain⟨l,m,n,b4⟩:=b;simp only[cR,eN O d,av,cF,xO,auR,auS];by_cases e:h=l<;>by_cases f:i=m<;>by_cases g:j=n<;>simp[e,f,g]
def jX{a:ae}(h:ag ab a<=1048576):a.1.length<=1048576:=by
 rw[bG O]at h;have:=au (e:=al) (l:=a.1);omega
def SN{a b:List ae}(g:ag (.sl ab) a<=1048576):tP k (a,b,())=some (decide (a=b),()):=by
 rw[<-A3];have hl:=au (e:=ab) (l:=a);exact ahN (d:=ab.aa) (S:=eZ k) O (by omega) (λx f y _=>iU O (jX O (r_ (df (e:=ab) f) g)))
def gn{a b:List ae}(g:ag (.sl ab) a<=1048576):dT k (a,b,())=some (decide (a=b),()):=by
 rw[<-A3];have hl:=au (e:=ab) (l:=a);exact aaM (d:=ab.aa) (S:=cR k) O (by omega) (λx f y _=>fS O (jX O (r_ (df (e:=ab) f) g)))
def MP{a b:List Int}(ha:a.length<=1048576):mG k (a,b,())=some (decide (a=b),()):=by
 rw[<-A3];refine Eq.trans ?_ (aaM (d:=(0:Int)) (S:=λz=>some (decide ((z.1:Int)=z.2.1),())) (p:=λa b=>decide (a=b)) O (by omega) (λx hx y _=>rfl));simp only[mG,eqR,av,gC]
def MF{a b:aA}(n:ag ah a<=1048576):mu k (a,b,())=some (decide (a=b),()):=by
 rw[bq O]at n;have o:=jX O (a:=a.2.2.1) (by omega);have h2:=au (e:=al) (l:=a.2.2.2.1);have h3:=au (e:= .int .i64) (l:=a.2.2.2.2.2.1);have q1:∀b,cR k (a.2.2.1,b,())=some (decide (a.2.2.1=b),()):=λb=>fS O o;have q2:∀b,cT k (a.2.2.2.1,b,())=some (decide (a.2.2.2.1=b),()):=λb=>eN O (by omega);have q3:∀b,mG k (a.2.2.2.2.2.1,b,())=some (decide (a.2.2.2.2.2.1=b),()):=λb=>MP O (by omega);have q4:∀b,dT k (a.2.2.2.2.2.2.1,b,())=some (decide (a.2.2.2.2.2.2.1=b),()):=λb=>gn O (by omega);obtain⟨q,r,s,t,u,v,w,x,a9⟩:=a;obtain⟨y,z,B,C,F,G,H,I,b9⟩:=b;simp only at q1 q2 q3 q4;simp only[mu,q1,q2,q3,q4,cN,av,cF,auR,auS];by_cases d:q=y;by_cases f:r=z;by_cases g:s=B;by_cases h:t=C;by_cases i:u=F;by_cases j:v=G;by_cases m:w=H;by_cases p:x=I<;>simp[d,f,g,h,i,j,m,p];simp[d,f,g,h,i,j,m];simp[d,f,g,h,i,j];simp[d,f,g,h,i];simp[d,f,g,h];simp[d,f,g];simp[d,f];simp[d]
def sH{t:aA}{n:Int}(hs:ag ah t<=1048576):lK k (t,n,())=some (br k t n,()):=by
 rw[bq O]at hs
 have g:ag (.sl al) t.2.2.1.1<=1048576:=by
  have:=bG O t.2.2.1;omega
 simp only[lK,pd,ju O g,ju O (l:=t.2.2.2.1) (by omega),nV O,av,cF];unfold br;by_cases a:n<1;simp[a];by_cases d:t.2.1=1;by_cases b:t.1=1;simp[a,d,b];by_cases e:t.1=2;simp[a,d,b,e];by_cases f:t.1=3;simp[a,d,b,e,f];by_cases h:t.1=4<;>simp[a,d,b,e,f,h];by_cases b:t.1=1;by_cases i:t.2.1=2<;>simp[a,d,i,b];simp[a,d,b]
def JD{t:aA}{n:Int}(hs:ag ah t<=1048576):oZ k (t,n,())=some (br k t n,()):=by
 rw[bq O]at hs
 have g:ag (.sl al) t.2.2.1.1<=1048576:=by
  have:=bG O t.2.2.1;omega
 simp only[oZ,gA O g,gA O (l:=t.2.2.2.1) (by omega),kY O,av,cF];unfold br;by_cases a:n<1;simp[a];by_cases d:t.2.1=1;by_cases b:t.1=1;simp[a,d,b];by_cases e:t.1=2;simp[a,d,b,e];by_cases f:t.1=3;simp[a,d,b,e,f];by_cases h:t.1=4<;>simp[a,d,b,e,f,h];by_cases b:t.1=1;by_cases i:t.2.1=2<;>simp[a,d,i,b];simp[a,d,b]
theorem jf{t:aA}:jT k (t,())=some (cW t,()):=by
 simp only[jT,cW,cF];by_cases a:t.1=5<;>by_cases b:t.1=6<;>simp[a,b]
theorem GM{t:aA}:mg k (t,())=some (cW t,()):=by
 simp only[mg,cW,cF];by_cases a:t.1=5<;>by_cases b:t.1=6<;>simp[a,b]
def Rr{t:aA}(hs:ag ah t<=1048576):tQ k (t,())=some (mA t.2.2.2.2.2.1&&(decide ((t.2.2.2.2.2.1.length:Int)=t.2.2.2.2.1)&&bT t.2.2.2.2.2.2.1&&(if t.2.1=2 then bh t.2.2.2.2.1 1 3 else bh t.2.2.2.2.1 0 2)),()):=by
 rw[bq O]at hs;have h3:=au (e:= .int .i64) (l:=t.2.2.2.2.2.1);simp only[tQ,aO]
 refine(cV (λi:Nat=>(t,t.2.2.2.2.2.1,(t.2.2.2.2.2.1.length:Int),(i:Int),())) (λi=>decide (0<=t.2.2.2.2.2.1.getD i 0)) t.2.2.2.2.2.1.length
  (e:=some (decide ((t.2.2.2.2.2.1.length:Int)=t.2.2.2.2.1)&&bT t.2.2.2.2.2.2.1&&(if t.2.1=2 then bh t.2.2.2.2.1 1 3 else bh t.2.2.2.2.1 0 2),())) (no:=some (false,())) ?_ ?_ k 0 (by omega)).trans ?_
 intro G i a;simp only[aG,ax a,a,decide_true,if_true,aus,yM];rw[aY (by omega)];rcases v_ (decide (t.2.2.2.2.2.1.getD i 0<0))with h|h<;>simp only[h,if_true,cz,if_false,l5,F'];intro G i a;simp only[aG];rw[a_ (by simp;omega)];simp only[ov O (l:=t.2.2.2.2.2.2.1) (by omega),gY O,av,gC,cF,cN];by_cases q:(t.2.2.2.2.2.1.length:Int)=t.2.2.2.2.1<;>by_cases p:t.2.1=2<;>cases hb:bT t.2.2.2.2.2.2.1<;>simp[q,p];unfold mA;generalize bF 0 t.2.2.2.2.2.1.length _=b;cases b<;>simp
def Nj{t:aA}(hs:ag ah t<=1048576):rj k (t,())=some (mA t.2.2.2.2.2.1&&(decide ((t.2.2.2.2.2.1.length:Int)=t.2.2.2.2.1)&&(if t.2.1=2 then bh t.2.2.2.2.1 1 3 else bh t.2.2.2.2.1 0 2)),()):=by
 rw[bq O]at hs;have h3:=au (e:= .int .i64) (l:=t.2.2.2.2.2.1);simp only[rj,aO]
 refine(cV (λi:Nat=>(t,(i:Int),())) (λi=>decide (0<=t.2.2.2.2.2.1.getD i 0)) t.2.2.2.2.2.1.length
  (e:=some (decide ((t.2.2.2.2.2.1.length:Int)=t.2.2.2.2.1)&&(if t.2.1=2 then bh t.2.2.2.2.1 1 3 else bh t.2.2.2.2.1 0 2),())) (no:=some (false,())) ?_ ?_ k 0 (by omega)).trans ?_
 intro G i a;simp only[aG,ax a,a,decide_true,if_true,aus,yM];rw[aY (by omega)];rcases v_ (decide (t.2.2.2.2.2.1.getD i 0<0))with h|h<;>simp only[h,if_true,cz,if_false,l5,F'];intro G i a;simp only[aG];rw[a_ (by simp;omega)];simp only[gB O,av,cF,cN];generalize t.2.2.2.2.2.1.length=n;generalize t.2.2.2.2.1=m;by_cases p:t.2.1=2<;>by_cases q:(n:Int)=m;subst q;simp[p];have q2:¬m=(n:Int):=λe=>q e.symm;simp[p,q,q2];subst q;simp[p,bh];simp[p,q];unfold mA;generalize bF 0 t.2.2.2.2.2.1.length _=b;cases b<;>simp
end
theorem dI{σ ρ:Type}{f:(σ->Option ρ)->σ->Option ρ}(st:Nat->σ)(p:Nat->Bool)(n:Nat){e no:Option ρ}
 (b:∀G i,i<n->f G (st i)=if p i=true then G (st (i+1))else no) (d:∀G,f G (st n)=e):
 ∀(k a:Nat),a<=n->n-a<k->aM k f (st a)=if bF a n p=true then e else no
 |0,_,_,h=>by omega
 |k+1,a,hn,h=>by
  show f (aM k f) (st a)=_;by_cases g:a<n;rw[b _ a g,UB g,dI st p n b d k (a+1) (by omega) (by omega)];cases p a<;>simp;have:a=n:=by omega
  subst this;rw[d,ng (by omega),an rfl]
def Ic{n:Nat}{p:Nat->Bool}:bF 0 (n+1) p=(bF 0 n p&&p n):=by
 rw[w_];simp only[C_,cH];constructor;intro h;exact⟨λi a b=>h i a (by omega),h n (by omega) (by omega)⟩;rintro⟨a,b⟩ i hi hj;by_cases d:i=n;subst d;exact b;exact a i hi (by omega)
def Ek(st:List aq)(seen:List Int):Bool:=bF 0 seen.length (λi=> !decide (seen.getD i 0>(st.getD i aj.aa).2.1))
def gF(st:List aq)(seen:List Int):Bool:=bF 0 seen.length (λi=>decide (seen.getD i 0=(st.getD i aj.aa).2.1))
def ei(st:List aq)(t:aA):Bool:=
 Ek st t.2.2.2.2.2.1&&(!gF st t.2.2.2.2.2.1||decide ((st.take t.2.2.2.2.2.1.length).flatMap bd=t.2.2.2.2.2.2.1))
def oH(k:Nat)(w:af)(t:aA)(d:ay):Bool:=
 if t.1=1 then
  decide (d.1=1)&&(if t.2.1=2 then decide (d.2.2.1.1=t.2.2.1.1)&&(bQ k w.2.2.2.1 t.2.2.1.1).2&&decide ((bQ k w.2.2.2.1 t.2.2.1.1).1=t.2.2.1)else decide (d.2.2.1=t.2.2.1)&&dx t.2.2.1)
 else if t.1=2 then decide (d.1=3)&&decide (d.2.2.2.1=t.2.2.2.1)
 else if t.1=3 then decide (d.1=4)&&((if t.2.1=2 then decide ((t.2.2.2.2.2.1.length:Int)=w.1.1)else decide (t.2.2.2.2.1<w.1.1))&&ei w.2.2.2.1 t)
 else if t.1=4 then decide (d.1=6)&&decide (t.2.2.2.2.1<w.1.1)
 else if t.1=5 then decide (d.1=7)&&decide (d.2.2.1=t.2.2.1)
 else decide (d.1=8)&&(decide (d.2.2.2.2.2.1=t.2.2.2.2.2.2.2.1)&&decide (t.2.2.2.2.2.2.2.1<w.2.2.2.2.2.2.2.2.1))
def dB(k:Nat)(w:af)(t:aA)(d:ay)(n:Int):Bool:=
 dR t n&&(decide (t.1=0)||(decide (t.2.2.2.2.2.2.2.2<(w.2.2.2.2.2.2.2.2.2.2.2.2.2.length:Int))&&(decide (d.2.1=n)&&decide (d.2.2.2.2.2.2.2.2.2.2.2= -1)&&
  decide ((¬d.2.2.2.2.2.2.2.2.2.2.1= -1)↔(t.1=1/\t.2.1=2))&&oH k w t d)))
section
variable{k:Nat}(O:9223372036854775808<=k)
include O
def oL{t:aA}(hs:ag ah t<=1048576):
 ag ab t.2.2.1<=1048576/\ag (.sl al) t.2.2.2.1<=1048576/\t.2.2.2.2.2.1.length<=1048576/\ag (.sl ab) t.2.2.2.2.2.2.1<=1048576/\ag (.sl al) t.2.2.1.1<=1048576:=by
 rw[bq O]at hs;have h2:=au (e:= .int .i64) (l:=t.2.2.2.2.2.1);have:=bG O t.2.2.1;omega
def Ng{t:ay}(hs:ag aw t<=1048576):
 ag ab t.2.2.1<=1048576/\ag (.sl al) t.2.2.2.1<=1048576/\ag (.sl ab) t.2.2.2.2.2.2.2.1<=1048576/\ag (.sl al) t.2.2.1.1<=1048576:=by
 rw[cD O]at hs;have:=bG O t.2.2.1;omega
def Tc{t:aA}{n:Int}(hs:ag ah t<=1048576):tJ k (t,n,())=some (dR t n,()):=by
 obtain⟨b,o,q,p,r⟩:=oL O hs;have h6:=jX O b;simp only[tJ,jl,gB O,wL O p,km O b,lS O o,iU O h6,Nj O hs,av,cN,cF];refine congrArg some (au4 ?_ rfl);simp only[apply_ite au5];unfold dR;obtain⟨op,pc,a,l,i,seen,got,nn,hh⟩:=t;obtain⟨a1,a2,a3,a4⟩:=a;clear hs b o q p r h6;have hA:bT ([]:List ae)=true:=rfl;have hS:mA ([]:List Int)=true:=rfl;simp only[zT,c9,bh,tc,auR];rw[w_];by_cases d:op=0;subst d;simp;grind;by_cases e:op=1;subst e;simp;grind;by_cases f:op=2;subst f;simp;grind;by_cases g:op=3;subst g;simp;grind;by_cases h:op=4;subst h;simp;grind;by_cases j:op=5;subst j;simp;grind;by_cases m:op=6;subst m;simp;grind;simp[d,e,f,g,h,j,m]
def TK{t:aA}{n:Int}(hs:ag ah t<=1048576):tV k (t,n,())=some (dR t n,()):=by
 obtain⟨m,o,p,q,r⟩:=oL O hs;simp only[tV,aO,gY O,Rr O hs,mH O m,pg O o,MF O hs,av,cN,cF];refine congrArg some (au4 ?_ rfl);simp only[apply_ite au5];unfold dR;obtain⟨op,pc,a,l,i,seen,got,nn,hh⟩:=t;obtain⟨a1,a2,a3,a4⟩:=a;clear hs m o p q r;have hA:bT ([]:List ae)=true:=rfl;have hS:mA ([]:List Int)=true:=rfl;simp only[zT,c9,bh,tc,auR];rw[w_];by_cases b:op=0;subst b;simp;grind;by_cases d:op=1;subst d;simp;grind;by_cases e:op=2;subst e;simp;grind;by_cases f:op=3;subst f;simp;grind;by_cases g:op=4;subst g;simp;grind;by_cases h:op=5;subst h;simp;grind;by_cases j:op=6;subst j;simp;grind;simp[b,d,e,f,g,h,j]
end
def pn(a b:Int):decide (a>=b)= !decide (a<b):=by by_cases h:a<b<;>simp[h]<;>omega
section
variable{k:Nat}(O:9223372036854775808<=k)
include O
theorem Cg{l:List Int}{n:Int}(hl:l.length<=10):lX k (l,n,())=some (decide (n∈l),()):=by
 simp only[lX]
 rw[oY (g:=λ(t:List Int×Int×Int×Unit)=>some (decide (n∈l.drop t.2.2.1.toNat),())) (m:=λ(t:List Int×Int×Int×Unit)=>l.length-t.2.2.1.toNat)
  (I:=λ(t:List Int×Int×Int×Unit)=>t.1=l/\t.2.1=n/\0<=t.2.2.1/\t.2.2.1<=(l.length:Int))]
 simp;rintro G ⟨l',n',i,u⟩ ⟨e1,e2,hi0,hi1⟩ hG;change l'=l at e1;change n'=n at e2;subst e1 e2;simp only at hi0 hi1 hG|-;by_cases b:i<(l'.length:Int);have e:i.toNat<l'.length:=by omega
 rw[an (by simpa using b),an (by simpa using⟨hi0,b⟩),gk (d:=(0:Int)) e];by_cases a:n'=l'.getD i.toNat 0;rw[an (by rw[a];simp)];simp only[List.mem_cons,a,true_or,decide_true];rw[a_ (by simp only[beq_iff_eq];exact λh=>a h.symm),wrap64 (by omega) (by omega),hG (l',n',i+1,()) ⟨rfl,rfl,by simp only;omega,by simp only;omega⟩ (by simp only;omega)];simp only[List.mem_cons,a,false_or];rw[show(i+1).toNat=i.toNat+1 by omega];rw[a_ (by simpa using b),List.drop_eq_nil_of_le (by omega)];simp;exact⟨rfl,rfl,by simp,by simp⟩;simp only;omega
theorem Z3(op n:Int):pO k (op,n,())=some (decide (n∈gM op),()):=by
 simp only[pO,cq,av,beq_iff_eq,gM];split;congr 2;rw[w_];simp;omega;split;congr 2;rw[w_];simp;omega;split;congr 2;rw[w_];simp;omega;split;congr 2;rw[w_];simp;split;congr 2;rw[w_];simp;omega;congr 2;rw[w_];simp
theorem y4(op:Int):mw k (op,())=some (gM op,()):=by
 simp only[mw,beq_iff_eq,gM]
 repeat' split
 all_goals rfl
theorem ZD(op:Int):(gM op).length<=10:=by
 unfold gM
 repeat' split
 all_goals decide
def RS{d:ay}:tH k (d,())=some (gg k d,()):=by
 obtain⟨op,task,a,l,i,n,code,got,M,inv,b,res⟩:=d;simp only[tH,bP,av,cN,y4 O,Cg O (ZD O op),gg,bh];generalize decide (code∈gM op)=q;refine congrArg some (au4 ?_ rfl);simp only[apply_ite au5];rw[w_];by_cases e:b= -1<;>by_cases f:res= -1<;>by_cases g:inv<=b<;>by_cases h:b<=res<;>cases q<;>simp[e,f,g,h]<;>omega
def QT{d:ay}:tC k (d,())=some (gg k d,()):=by
 obtain⟨op,task,a,l,i,n,code,got,M,inv,b,res⟩:=d;simp only[tC,cq,av,cN,Z3 O,gg,bh];generalize decide (code∈gM op)=q;refine congrArg some (au4 ?_ rfl);simp only[apply_ite au5];rw[w_];by_cases e:b= -1<;>by_cases f:res= -1<;>by_cases g:inv<=b<;>by_cases h:b<=res<;>cases q<;>simp[e,f,g,h]<;>omega
def vt{w:af}{t:aA}(hs:ag ah t<=1048576)(m:ag (.sl aj) w.2.2.2.1<=1048576)(hl:t.2.2.2.2.2.1.length<=w.2.2.2.1.length):
 js k (w,t,())=some (ei w.2.2.2.1 t,()):=by
 obtain⟨h1,h2,h3,h4,h5⟩:=oL O hs;simp only[js,aO]
 refine(dI (λi:Nat=>(w,t,(w.2.2.2.1.take i).flatMap bd,bF 0 i (λi=>decide (t.2.2.2.2.2.1.getD i 0=(w.2.2.2.1.getD i aj.aa).2.1)),(i:Int),()))
  (λi=> !decide (t.2.2.2.2.2.1.getD i 0>(w.2.2.2.1.getD i aj.aa).2.1)) t.2.2.2.2.2.1.length
  (e:=some (!gF w.2.2.2.1 t.2.2.2.2.2.1||decide ((w.2.2.2.1.take t.2.2.2.2.2.1.length).flatMap bd=t.2.2.2.2.2.2.1),())) (no:=some (false,())) ?_ ?_ k 0 (by omega) (by omega)).trans ?_
 intro G i g;have a:i<w.2.2.2.1.length:=by omega
 have n:=lp O m a;have b:=iq O (w.2.2.2.1.take i);unfold cn at b;have hb1:=jS O (w.2.2.2.1.getD i aj.aa);have d:=dH (e:=aj) w.2.2.2.1 i;have hb3:=au (e:=ab) (l:=(w.2.2.2.1.take i).flatMap bd);have hb4:=au (e:=ab) (l:=bd (w.2.2.2.1.getD i aj.aa))
 have f:decide (((w.2.2.2.1.take i).flatMap bd).length+(bd (w.2.2.2.1.getD i aj.aa)).length<4294967296)=true:=by
  simp only[b_];omega
 simp only[aG,ax g,ax a,g,decide_true,if_true,aus,J7,uh O n,av,f];rw[aY (by omega),fK aj.aa a,Ic]
 rcases v_ (decide (t.2.2.2.2.2.1.getD i 0>(w.2.2.2.1.getD i aj.aa).2.1))with h|h<;>
  simp only[h,if_true,l5,F',cz,if_false,cF,Dw]
 intro G;simp only[aG,g',decide_false,cz,if_false];show auO (if((!gF w.2.2.2.1 t.2.2.2.2.2.1)==false)=true then tP k ((w.2.2.2.1.take t.2.2.2.2.2.1.length).flatMap bd,t.2.2.2.2.2.2.1,())else some (false,())) _=_;have b:=iq O (w.2.2.2.1.take t.2.2.2.2.2.1.length);unfold cn at b;have d:=dH (e:=aj) w.2.2.2.1 t.2.2.2.2.2.1.length;rw[SN O (by omega)];show auO _ (λj:Bool×Unit=>some (if(!gF w.2.2.2.1 t.2.2.2.2.2.1)=true then true else j.1,()))=_;cases gF w.2.2.2.1 t.2.2.2.2.2.1<;>simp;unfold ei;show(if Ek w.2.2.2.1 t.2.2.2.2.2.1=true then _ else _)=_;cases Ek w.2.2.2.1 t.2.2.2.2.2.1<;>simp
def Jx{w:af}{t:aA}(hs:ag ah t<=1048576)(o:ag (.sl aj) w.2.2.2.1<=1048576)(b:(if t.2.1=2 then decide ((t.2.2.2.2.2.1.length:Int)=w.1.1)else decide (t.2.2.2.2.1<w.1.1))=true->t.2.2.2.2.2.1.length<=w.2.2.2.1.length)(d:t.2.1<=2):
 oK k (w,t,())=some ((if t.2.1=2 then decide ((t.2.2.2.2.2.1.length:Int)=w.1.1)else decide (t.2.2.2.2.1<w.1.1))&&ei w.2.2.2.1 t,()):=by
 obtain⟨h1,h2,h3,r,h5⟩:=oL O hs;simp only[oK,aO]
 have hc:(if(if(decide ((t.2.1:Int)<(2:Int)))=true then decide ((t.2.2.2.2.1:Int)>=w.1.1)else false)=true then true else if((t.2.1:Int)==(2:Int))=true then(((List.length t.2.2.2.2.2.1:Nat):Int):Int) != w.1.1 else false)
  = !(if t.2.1=2 then decide ((t.2.2.2.2.2.1.length:Int)=w.1.1)else decide (t.2.2.2.2.1<w.1.1)):=by
  rw[pn,gC];by_cases q:t.2.1=2
  ·simp[q]
  ·have q2:t.2.1<2:=by have:=d;omega
   simp[q,q2];exact pn _ _
 rw[hc];rcases v_ (if t.2.1=2 then decide ((t.2.2.2.2.2.1.length:Int)=w.1.1)else decide (t.2.2.2.2.1<w.1.1))with hcc|hcc;rotate_left
 ·rw[hcc];rfl
 have hl:=b hcc;rw[hcc,a_ (by simp)]
 refine(dI (λi:Nat=>(w,t,bF 0 i (λi=>decide (t.2.2.2.2.2.1.getD i 0=(w.2.2.2.1.getD i aj.aa).2.1)),(w.2.2.2.1.take i).flatMap bd,t.2.2.2.2.2.1,(t.2.2.2.2.2.1.length:Int),(i:Int),()))
  (λi=> !decide (t.2.2.2.2.2.1.getD i 0>(w.2.2.2.1.getD i aj.aa).2.1)) t.2.2.2.2.2.1.length
  (e:=some (!gF w.2.2.2.1 t.2.2.2.2.2.1||decide ((w.2.2.2.1.take t.2.2.2.2.2.1.length).flatMap bd=t.2.2.2.2.2.2.1),())) (no:=some (false,())) ?_ ?_ k 0 (by omega) (by omega)).trans ?_
 ·intro G i m;have a:i<w.2.2.2.1.length:=by omega
  have d:=lp O o a;have f:=iq O (w.2.2.2.1.take i);unfold cn at f;have hb1:=jS O (w.2.2.2.1.getD i aj.aa);have g:=dH (e:=aj) w.2.2.2.1 i;have hb3:=au (e:=ab) (l:=(w.2.2.2.1.take i).flatMap bd);have hb4:=au (e:=ab) (l:=bd (w.2.2.2.1.getD i aj.aa))
  have j:decide (((w.2.2.2.1.take i).flatMap bd).length+(bd (w.2.2.2.1.getD i aj.aa)).length<4294967296)=true:=by
   simp only[b_];omega
  simp only[aG,ax m,ax a,m,decide_true,if_true,aus,J7,tY O d,av,j];rw[aY (by omega),fK aj.aa a,Ic]
  rcases v_ (decide (t.2.2.2.2.2.1.getD i 0>(w.2.2.2.1.getD i aj.aa).2.1))with h|h<;>
   simp only[h,if_true,l5,F',cz,if_false,cF,Dw]
 ·intro G;simp only[aG,g',decide_false,cz,if_false];have f:=iq O (w.2.2.2.1.take t.2.2.2.2.2.1.length);unfold cn at f;have g:=dH (e:=aj) w.2.2.2.1 t.2.2.2.2.2.1.length;rw[gn O r];show auO (if((!gF w.2.2.2.1 t.2.2.2.2.2.1)==false)=true then some (decide (t.2.2.2.2.2.2.1=(w.2.2.2.1.take t.2.2.2.2.2.1.length).flatMap bd),())else some (false,())) (λn:Bool×Unit=>some (if(!gF w.2.2.2.1 t.2.2.2.2.2.1)=true then true else n.1,()))=_
  have p:decide (t.2.2.2.2.2.2.1=(w.2.2.2.1.take t.2.2.2.2.2.1.length).flatMap bd)=decide ((w.2.2.2.1.take t.2.2.2.2.2.1.length).flatMap bd=t.2.2.2.2.2.2.1):=by
   rw[w_];simp only[b_];exact eq_comm
  rw[p];cases gF w.2.2.2.1 t.2.2.2.2.2.1<;>simp
 ·unfold ei;show(if Ek w.2.2.2.1 t.2.2.2.2.2.1=true then _ else _)=_;cases Ek w.2.2.2.1 t.2.2.2.2.2.1<;>simp
end
def Kv{t:aA}{n:Int}(h:dR t n=true):0<=t.2.2.2.2.2.2.2.2/\(t.1=0\/t.1=1\/t.1=2\/t.1=3\/t.1=4\/t.1=5\/t.1=6):=by
 unfold dR at h;grind
def YT{t:aA}{n:Int}(h:dR t n=true)(e:t.1=3):(t.2.2.2.2.2.1.length:Int)=t.2.2.2.2.1/\0<=t.2.1/\t.2.1<=2:=by
 unfold dR bh at h;grind
def agR{t:aA}{n:Int}(h:dR t n=true)(e:t.1=4):t.2.2.2.2.2.1=[]/\t.2.2.2.2.2.2.1=[]/\t.2.1<=1:=by
 unfold dR bh at h;grind
section
variable{k:Nat}(O:9223372036854775808<=k)
include O
def M9{l:List aq}{s:List ai}(hs:ag (.sl aj) l<=1048576):(bQ k l s).1.1.length<=1048576:=by
 unfold bQ;split;simp[c9];rename_i f;obtain⟨_,_,c⟩:=qW (k:=k) (l:=l) (s:=s) f;have b:=lp O hs c;generalize l.getD (bO k l s).toNat aj.aa=p at b|-;unfold iv;cases hc:iS p (dA k s)with
 |none=>simp[c9]
 |some i=>
  obtain⟨h,_,_⟩:=bl.1 hc;obtain⟨h1,h2⟩:=jj O b h;dsimp only;cases g:jd (p.2.2.getD i az.aa).2 s with
  |none=>simp[c9]
  |some j=>
   obtain⟨m,_,_⟩:=bl.1 g;have h3:=dQ (e:=ab) (d:=ab.aa) m;exact jX O (a:=(p.2.2.getD i az.aa).2.getD j ab.aa) (by omega)
def gu{w:af}(hs:ag aN w<=1048576):
 ag fX w.1<=1048576/\ag (.sl aj) w.2.2.2.1<=1048576/\ag (.sl bj) w.2.2.2.2.1<=1048576/\ag (.sl ab) w.2.2.2.2.2.1<=1048576/\ag (.sl ak) w.2.2.2.2.2.2.2.1<=1048576/\
 w.2.2.2.2.2.2.2.2.2.1.length<=1048576/\ag (.sl ab) w.2.2.2.2.2.2.2.2.2.2.2.1<=1048576/\ag (.sl ah) w.2.2.2.2.2.2.2.2.2.2.2.2.1<=1048576/\ag (.sl aw) w.2.2.2.2.2.2.2.2.2.2.2.2.2<=1048576:=by
 rw[cO O]at hs;have h:=au (e:=aL) (l:=w.2.2.2.2.2.2.2.2.2.1);omega
theorem Cu{e:Ty}{l:List e.den}(a:ag e e.aa=0)(hs:ag (.sl e) l<=1048576)(n:Nat):ag e (l.getD n e.aa)<=1048576:=by
 by_cases h:n<l.length;have:=dQ (e:=e) (d:=e.aa) h;omega;rw[auC,List.getElem?_eq_none (by omega),Option.getD_none,a];omega
def Qg{w:af}{i:Nat}(hs:ag aN w<=1048576)(hi:i<w.2.2.2.2.2.2.2.2.2.2.2.2.1.length)(hp:(w.2.2.2.1.length:Int)=w.1.1):
 rn k (w,(i:Int),())=some (dB k w (w.2.2.2.2.2.2.2.2.2.2.2.2.1.getD i ah.aa) (w.2.2.2.2.2.2.2.2.2.2.2.2.2.getD (w.2.2.2.2.2.2.2.2.2.2.2.2.1.getD i ah.aa).2.2.2.2.2.2.2.2.toNat aw.aa) i,()):=by
 obtain⟨_,r,_,_,_,_,_,L,N⟩:=gu O hs;have n:ag ah (w.2.2.2.2.2.2.2.2.2.2.2.2.1.getD i ah.aa)<=1048576:=Cu O (e:=ah) rfl L i;have H:ag aw (w.2.2.2.2.2.2.2.2.2.2.2.2.2.getD (w.2.2.2.2.2.2.2.2.2.2.2.2.1.getD i ah.aa).2.2.2.2.2.2.2.2.toNat aw.aa)<=1048576:=Cu O (e:=aw) rfl N (w.2.2.2.2.2.2.2.2.2.2.2.2.1.getD i ah.aa).2.2.2.2.2.2.2.2.toNat;unfold rn aO;dsimp only;rw[an (ax hi),aus];generalize w.2.2.2.2.2.2.2.2.2.2.2.2.1.getD i ah.aa=t at*
 generalize w.2.2.2.2.2.2.2.2.2.2.2.2.2.getD t.2.2.2.2.2.2.2.2.toNat aw.aa=d at*
 rw[Tc O n,av];unfold dB;by_cases b:dR t i=true;rotate_left
 ·simp[b]
 obtain⟨P,m⟩:=Kv b;obtain⟨C,t2,t3,t4,R⟩:=oL O n;obtain⟨S,d2,d3,d4⟩:=Ng O H;have o:=M9 O (s:=t.2.2.1.1) r;have t6:=jX O C;have y:=jX O S;have t7:=au (e:=al) (l:=t.2.2.1.1);have d7:=au (e:=al) (l:=d.2.2.1.1);have d8:=au (e:=al) (l:=d.2.2.2.1);by_cases u:t.1=0
 ·simp[u,b]
 by_cases z:t.2.2.2.2.2.2.2.2<(w.2.2.2.2.2.2.2.2.2.2.2.2.2.length:Int);rotate_left
 ·have:decide (t.2.2.2.2.2.2.2.2>=(w.2.2.2.2.2.2.2.2.2.2.2.2.2.length:Int))=true:=by simp only[b_];omega
  simp[u,this,z,b]
 have q1:decide (t.2.2.2.2.2.2.2.2>=(w.2.2.2.2.2.2.2.2.2.2.2.2.2.length:Int))=false:=by simp only[d_];omega
 have q2:decide (0<=t.2.2.2.2.2.2.2.2/\t.2.2.2.2.2.2.2.2<(w.2.2.2.2.2.2.2.2.2.2.2.2.2.length:Int))=true:=by simp only[b_];omega
 simp only[b,q1,q2,P,and_true,true_and,if_true,l5,cz,if_false,z,u,decide_true,decide_false,G8,Bool.false_or,cF,gC]
 have p:eV k (t.1,())=some (au1 [0,1,3,4,6,7,8] t.1.toNat 0,()):=by
  simp only[eV];rw[an (by simp only[b_,au6,auP];omega)]
 rw[p];clear p q1 q2;by_cases v:d.2.1=i;rotate_left
 ·simp[v,b]
 by_cases B:d.2.2.2.2.2.2.2.2.2.2.2= -1;rotate_left
 ·simp[v,B,b]
 simp only[v,B,decide_true,l5,cz,if_false,beq_self_eq_true,if_true,av,G8];unfold oH;rcases m with h|h|h|h|h|h|h
 ·exact absurd h u
 all_goals
  have I:t.1.toNat=t.1.toNat:=rfl;simp only[h]at I|-
 ·simp only[kD O r R,iU O o,iU O y,eT O (a:=d.2.2.1.1) (by omega),yZ O C];by_cases f:d.1=1<;>by_cases g:d.2.2.2.2.2.2.2.2.2.2.1= -1<;>by_cases q:t.2.1=2<;>simp[f,g,q]
  ·by_cases j:d.2.2.1=t.2.2.1<;>simp[j]
  ·simp only[iU O o];cases (bQ k w.2.2.2.1 t.2.2.1.1).2<;>by_cases j:(bQ k w.2.2.2.1 t.2.2.1.1).1=t.2.2.1<;>simp[j]
 ·simp only[eT O (a:=d.2.2.2.1) (by omega)];by_cases f:d.1=3<;>by_cases g:d.2.2.2.2.2.2.2.2.2.2.1= -1<;>simp[f,g]
 ·obtain⟨x,F,G⟩:=YT b h;by_cases f:d.1=4<;>by_cases g:d.2.2.2.2.2.2.2.2.2.2.1= -1<;>by_cases q:t.2.1=2<;>simp[f,g,q]
  ·by_cases j:(t.2.2.2.2.2.1.length:Int)=w.1.1
   ·rw[vt O n r (by omega)];simp[j]
   ·simp[j]
  ·by_cases j:t.2.2.2.2.1<w.1.1
   ·rw[vt O n r (by omega)];simp[j]
   ·simp[j]
 ·obtain⟨x,F,G⟩:=agR b h;have q:¬t.2.1=2:=by have:=G;omega
  by_cases f:d.1=6<;>by_cases g:d.2.2.2.2.2.2.2.2.2.2.1= -1<;>simp[f,g,q];have J:t.2.2.2.2.2.1.length<=w.2.2.2.1.length:=by rw[x];exact Nat.zero_le _
  have K:ei w.2.2.2.1 t=true:=by unfold ei Ek;rw[x,F];rfl
  rw[vt O n r J,K];by_cases j:t.2.2.2.2.1<w.1.1<;>simp[j]
 ·simp only[iU O y];by_cases f:d.1=7<;>by_cases g:d.2.2.2.2.2.2.2.2.2.2.1= -1<;>simp[f,g]
 ·by_cases f:d.1=8<;>by_cases g:d.2.2.2.2.2.2.2.2.2.2.1= -1<;>simp[f,g]
def Mo{w:af}{t:aA}{d:ay}{n:Int}(hs:ag aN w<=1048576)(hp:(w.2.2.2.1.length:Int)=w.1.1)(p:ag ah t<=1048576)(x:ag aw d<=1048576)(f:dR t n=true):
 qb k (w,t,d,())=some (oH k w t d,()):=by
 obtain⟨_,o,_,_,_,_,_,w8,w9⟩:=gu O hs;obtain⟨F,t2,t3,t4,G⟩:=oL O p;obtain⟨H,d2,d3,d4⟩:=Ng O x;have g:=M9 O (s:=t.2.2.1.1) o;have y:=jX O H;have d7:=au (e:=al) (l:=d.2.2.1.1);have d8:=au (e:=al) (l:=d.2.2.2.1);simp only[qb,sK O o G,fS O g,fS O y,eN O (a:=d.2.2.1.1) (by omega),eN O (a:=d.2.2.2.1) (by omega),Hr O F,av,cF,cN];unfold oH;by_cases q:t.1=1;by_cases b:d.1=1<;>by_cases i:t.2.1=2<;>simp[q,b,i];by_cases z:d.2.2.1.1=t.2.2.1.1<;>cases (bQ k w.2.2.2.1 t.2.2.1.1).2<;>by_cases j:(bQ k w.2.2.2.1 t.2.2.1.1).1=t.2.2.1<;>simp[j,z];by_cases j:d.2.2.1=t.2.2.1<;>simp[j];by_cases r:t.1=2;by_cases b:d.1=3<;>simp[r,b];by_cases m:t.1=3;obtain⟨e1,e2,I⟩:=YT f m
 have B:(if t.2.1=2 then decide ((t.2.2.2.2.2.1.length:Int)=w.1.1)else decide (t.2.2.2.2.1<w.1.1))=true->t.2.2.2.2.2.1.length<=w.2.2.2.1.length:=by
  by_cases i:t.2.1=2<;>simp[i]<;>intro h<;>omega
 rw[Jx O p o B I];by_cases b:d.1=4<;>simp[m,b];by_cases u:t.1=4;by_cases b:d.1=6<;>simp[u,b];by_cases v:t.1=5;by_cases b:d.1=7<;>simp[v,b];by_cases b:d.1=8<;>by_cases C:d.2.2.2.2.2.1=t.2.2.2.2.2.2.2.1<;>simp[q,r,m,u,v,b,C]
end
def dY(h:Nat->Bool):Nat->Int
 |0=> -1
 |j+1=>if h j=true then(j:Int)else dY h j
theorem xp{h:Nat->Bool}:∀ {j:Nat},(∀a,a<j->h a=false)->dY h j= -1
 |0,_=>rfl
 |j+1,H=>by
  unfold dY;rw[H j (by omega),a_ (by simp)];exact xp (λa ha=>H a (by omega))
theorem qE{h:Nat->Bool}:∀ {j:Nat},dY h j≠-1->∃a,a<j/\h a=true/\dY h j=(a:Int)
 |0,H=>absurd rfl H
 |j+1,H=>by
  unfold dY at H|-;by_cases b:h j=true;rw[an b];exact⟨j,by omega,b,rfl⟩;rw[a_ b]at H|-;obtain⟨a,h1,d,e⟩:=qE H;exact⟨a,by omega,d,e⟩
def Ev{h:Nat->Bool}{m:Nat}(z:∀j,j<m->h j=true->dY h j= -1){a:Nat}(s:a<m)(n:h a=true):dY h m=(a:Int):=by
 have B:dY h m≠-1:=by
  intro e
  have:∀ {j:Nat},(∀b,b<j->h b=true->False)\/dY h j≠-1:=by
   intro j
   induction j with
   |zero=>exact Or.inl (λb u _=>by omega)
   |succ j f=>
    unfold dY;by_cases d:h j=true;rw[an d];right;omega;rw[a_ d];rcases f with f|f;left;intro b u g;by_cases o:b=j;subst o;exact d g;exact f b (by omega) g;exact Or.inr f
  rcases @this m with H|H;exact H a s n;exact H e
 obtain⟨b,C,t,F⟩:=qE B;rw[F];by_cases p:a=b;rw[p];exfalso
 have key:∀x y:Nat,x<y->y<m->h x=true->h y=true->False:=by
  intro x y i v w l;have e:=z y v l
  have:∀ {j:Nat},x<j->dY h j≠-1:=by
   intro j
   induction j with
   |zero=>intro q;omega
   |succ j f=>
    intro q;unfold dY;by_cases d:h j=true;rw[an d];omega;rw[a_ d];by_cases r:x=j;subst r;exact absurd w d;exact f (by omega)
  exact this i e
 rcases Nat.lt_or_ge a b with q|q;exact key a b q C n t;exact key b a (by omega) s t n
def cC(k:Nat)(w:af)(j:Nat):Int:=br k (w.2.2.2.2.2.2.2.2.2.2.2.2.1.getD j ah.aa) w.2.2.2.1.length
def fF(w:af)(j:Nat):Bool:=cW (w.2.2.2.2.2.2.2.2.2.2.2.2.1.getD j ah.aa)
def kt(k:Nat)(w:af):Bool:=
 bF 0 w.2.2.2.1.length (λi=>bF 0 w.2.2.2.2.2.2.2.2.2.2.2.2.1.length (λj=>decide (cC k w j=i)==decide ((w.2.2.2.1.getD i aj.aa).1=j)))&&
 (bF 0 w.2.2.2.2.2.2.2.2.2.2.2.2.1.length (λj=>fF w j==decide (w.2.2.2.2.2.2.1=j))&&bh w.2.2.2.2.2.2.1 (-1) 4)
def Hm(k:Nat)(w:af)(j:Nat):Bool:=
 (decide (cC k w j<0)||decide (dY (λa=>decide (cC k w a=cC k w j)) j= -1))&&(!fF w j||decide (dY (fF w) j= -1))
def abO{k:Nat}{w:af}(B:∀i,i<w.2.2.2.1.length->bh (w.2.2.2.1.getD i aj.aa).1 (-1) 4=true)(G:w.2.2.2.2.2.2.2.2.2.2.2.2.1.length=5)
 (H:∀j,j<5->cC k w j<w.2.2.2.1.length):
 (bF 0 w.2.2.2.2.2.2.2.2.2.2.2.2.1.length (Hm k w)&&(bF 0 w.2.2.2.1.length (λi=>decide ((w.2.2.2.1.getD i aj.aa).1=dY (λa=>decide (cC k w a=i)) w.2.2.2.2.2.2.2.2.2.2.2.2.1.length))&&
  decide (w.2.2.2.2.2.2.1=dY (fF w) w.2.2.2.2.2.2.2.2.2.2.2.2.1.length)))=kt k w:=by
 unfold kt;rw[G];rw[w_];simp only[C_,cH,Hm,Bool.or_eq_true,b_,Bool.not_eq_true',beq_iff_eq,bh]at B|-;constructor;rintro⟨u,y,z⟩;refine⟨λi _ g j _ f=> ?_,λj _ f=> ?_,?_⟩;rw[y i (by omega) g];rw[w_];simp only[b_];constructor;intro e;refine Ev (h:=λa=>decide (cC k w a=i)) (m:=5) (λb l d=> ?_) f (by simpa using e);have p:cC k w b=(i:Int):=by simpa using d
 rcases(u b (by omega) l).1 with q|q;omega;rw[p]at q;exact q;intro e;obtain⟨a,_,n,l⟩:=qE (h:=λa=>decide (cC k w a=i)) (j:=5) (by rw[e];omega);rw[e]at l;have:a=j:=by omega
 subst this;simpa using n;rw[z,w_];simp only[b_];constructor;intro e;refine Ev (h:=fF w) (m:=5) (λb l d=> ?_) f e;rcases(u b (by omega) l).2 with q|q;rw[d]at q;exact absurd q (by simp);exact q;intro e;obtain⟨a,_,n,l⟩:=qE (h:=fF w) (j:=5) (by rw[e];omega);rw[e]at l;have:a=j:=by omega
 subst this;exact n;rw[z];by_cases e:dY (fF w) 5= -1;omega;obtain⟨a,J,_,v⟩:=qE e;omega;rintro⟨u,y,z,J⟩
 have s:∀i,i<w.2.2.2.1.length->∀j,j<5->(cC k w j=(i:Int)↔(w.2.2.2.1.getD i aj.aa).1=(j:Int)):=by
  intro i g j f;have:=u i (by omega) g j (by omega) f;rw[w_]at this;simpa only[b_]using this
 have t:∀j,j<5->(fF w j=true↔w.2.2.2.2.2.2.1=(j:Int)):=by
  intro j f;have:=y j (by omega) f;rw[w_]at this;simpa only[b_]using this
 refine⟨λj _ f=>⟨?_,?_⟩,λi _ g=> ?_,?_⟩;by_cases I:cC k w j<0;exact Or.inl I;right;apply xp;intro a n;simp only[d_];intro e;have hlt:=H j f;have q1:=(s (cC k w j).toNat (by omega) j f).1 (by omega);have q2:=(s (cC k w j).toNat (by omega) a (by omega)).1 (by omega);omega;by_cases C:fF w j=true;right;apply xp;intro a n;cases r:fF w a with
 |false=>rfl
 |true=>
  have q1:=(t j f).1 C;have q2:=(t a (by omega)).1 r;omega
 left;simpa using C;by_cases e:dY (λa=>decide (cC k w a=i)) 5= -1;rw[e];have l:=B i g;by_cases x:(w.2.2.2.1.getD i aj.aa).1= -1;exact x;exfalso;have q:=(s i g (w.2.2.2.1.getD i aj.aa).1.toNat (by omega)).2 (by omega)
 have:dY (λa=>decide (cC k w a=i)) 5≠-1:=by
  rw[Ev (h:=λa=>decide (cC k w a=i)) (m:=5) (a:=(w.2.2.2.1.getD i aj.aa).1.toNat) (λb o d=> ?_) (by omega) (by simpa using q)];omega;apply xp;intro a n;simp only[d_];intro F;have p:cC k w b=(i:Int):=by simpa using d
  have q1:=(s i g b o).1 p;have q2:=(s i g a (by omega)).1 F;omega
 exact this e;obtain⟨a,v,h6,h7⟩:=qE e;rw[h7];exact(s i g a v).1 (by simpa using h6);by_cases e:dY (fF w) 5= -1;rw[e];by_cases x:w.2.2.2.2.2.2.1= -1;exact x;exfalso;have q:=(t w.2.2.2.2.2.2.1.toNat (by omega)).2 (by omega)
 have:dY (fF w) 5≠-1:=by
  rw[Ev (h:=fF w) (m:=5) (a:=w.2.2.2.2.2.2.1.toNat) (λb o d=> ?_) (by omega) q];omega;apply xp;intro a n;cases r:fF w a with
  |false=>rfl
  |true=>
   have q1:=(t b o).1 d;have q2:=(t a (by omega)).1 r;omega
 exact this e;obtain⟨a,v,h6,h7⟩:=qE e;rw[h7];exact(t a v).1 h6
section
variable{k:Nat}(O:9223372036854775808<=k)
include O
def GW{w:af}(hs:ag aN w<=1048576):np k (w,())=some (kt k w,()):=by
 obtain⟨_,w2,_,_,_,_,_,g,w9⟩:=gu O hs;have hn:=au (e:=aj) (l:=w.2.2.2.1);have hm:=au (e:=ah) (l:=w.2.2.2.2.2.2.2.2.2.2.2.2.1);have a:∀j:Nat,ag ah (w.2.2.2.2.2.2.2.2.2.2.2.2.1.getD j ah.aa)<=1048576:=λj=>Cu O (e:=ah) rfl g j;simp only[np,aO]
 refine(dI (λi:Nat=>(w,w.2.2.2.1,(w.2.2.2.1.length:Int),(i:Int),())) (λi=>bF 0 w.2.2.2.2.2.2.2.2.2.2.2.2.1.length (λj=>decide (cC k w j=i)==decide ((w.2.2.2.1.getD i aj.aa).1=j))) w.2.2.2.1.length
  (e:=some (bF 0 w.2.2.2.2.2.2.2.2.2.2.2.2.1.length (λj=>fF w j==decide (w.2.2.2.2.2.2.1=j))&&bh w.2.2.2.2.2.2.1 (-1) 4,())) (no:=some (false,())) ?_ ?_ k 0 (by omega) (by omega)).trans ?_
 intro G i f;simp only[aG,ax f,f,decide_true,if_true,aus]
 refine(dI (λj:Nat=>(w,(i:Int),w.2.2.2.1.getD i aj.aa,w.2.2.2.1,(w.2.2.2.1.length:Int),(i:Int),w.2.2.2.2.2.2.2.2.2.2.2.2.1,(w.2.2.2.2.2.2.2.2.2.2.2.2.1.length:Int),(j:Int),()))
  (λj=>decide (cC k w j=i)==decide ((w.2.2.2.1.getD i aj.aa).1=j)) w.2.2.2.2.2.2.2.2.2.2.2.2.1.length
  (e:=G (w,w.2.2.2.1,(w.2.2.2.1.length:Int),((i+1:Nat):Int),())) (no:=some (false,())) ?_ ?_ k 0 (by omega) (by omega)).trans ?_
 intro d j b;simp only[aG,ax b,b,decide_true,if_true,aus,sH O (a j),av,cF];rw[aY (by omega)];show(if(!(decide (cC k w j=i)==decide ((w.2.2.2.1.getD i aj.aa).1=j)))=true then _ else _)=_;cases (decide (cC k w j=i)==decide ((w.2.2.2.1.getD i aj.aa).1=(j:Int)))<;>rfl;intro d;simp only[aG,g',decide_false,cz,if_false];rw[aY (by omega)];rfl;intro G;simp only[aG,g',decide_false,cz,if_false]
 refine(dI (λj:Nat=>(w,w.2.2.2.2.2.2.2.2.2.2.2.2.1,(w.2.2.2.2.2.2.2.2.2.2.2.2.1.length:Int),(j:Int),()))
  (λj=>fF w j==decide (w.2.2.2.2.2.2.1=j)) w.2.2.2.2.2.2.2.2.2.2.2.2.1.length
  (e:=some (bh w.2.2.2.2.2.2.1 (-1) 4,())) (no:=some (false,())) ?_ ?_ k 0 (by omega) (by omega)).trans ?_
 intro d j b;simp only[aG,ax b,b,decide_true,if_true,aus,jf O,av,cF];rw[aY (by omega)];show(if(!(fF w j==decide (w.2.2.2.2.2.2.1=j)))=true then _ else _)=_;cases (fF w j==decide (w.2.2.2.2.2.2.1=(j:Int)))<;>rfl;intro d;simp only[aG,g',decide_false,cz,if_false,gY O,av];cases bF 0 w.2.2.2.2.2.2.2.2.2.2.2.2.1.length (λj=>fF w j==decide (w.2.2.2.2.2.2.1=j))<;>simp;unfold kt;cases bF 0 w.2.2.2.1.length (λi=>bF 0 w.2.2.2.2.2.2.2.2.2.2.2.2.1.length (λj=>decide (cC k w j=i)==decide ((w.2.2.2.1.getD i aj.aa).1=j)))<;>simp
end
def jG(k:Nat)(w:af)(j:Nat):List Int:=(List.range w.2.2.2.1.length).map (λi:Nat=>dY (λa=>decide (cC k w a=(i:Int))) j)
def Uv(k:Nat)(w:af)(j:Nat):(jG k w j).length=w.2.2.2.1.length:=by simp[jG]
def YS(k:Nat)(w:af)(j:Nat){i:Nat}(hi:i<w.2.2.2.1.length):(jG k w j).getD i 0=dY (λa=>decide (cC k w a=(i:Int))) j:=by
 simp[jG,auC,List.getElem?_map,List.getElem?_range hi]
def aeY(k:Nat)(w:af)(j:Nat)(h:0<=cC k w j):(jG k w j).set (cC k w j).toNat (j:Int)=jG k w (j+1):=by
 apply au7;simp[jG];intro i h1 h2;simp only[jG,List.getElem_set,List.getElem_map,List.getElem_range,dY,b_];by_cases e:cC k w j=(i:Int)
 rw[an (by omega),an e];rw[a_ (by omega),a_ e]
def abt(k:Nat)(w:af)(j:Nat)(h:cC k w j<0):jG k w j=jG k w (j+1):=by
 unfold jG;apply List.map_congr_left;intro i _;simp only[dY,b_];rw[a_ (by omega)]
def adg(k:Nat)(w:af):jG k w 0=V_ w.2.2.2.1.length (-1):=by
 apply au7;simp[jG];intro i h1 h2;simp[jG,dY]
section
variable{k:Nat}(O:9223372036854775808<=k)
include O
def Ll{w:af}(hs:ag aN w<=1048576)(u:∀i,i<w.2.2.2.1.length->bh (w.2.2.2.1.getD i aj.aa).1 (-1) 4=true)(v:w.2.2.2.2.2.2.2.2.2.2.2.2.1.length=5)
 (r:∀j,j<5->cC k w j<w.2.2.2.1.length):mN k (w,())=some (kt k w,()):=by
 rw[<-abO u v r];obtain⟨_,w2,_,_,_,_,_,x,w9⟩:=gu O hs;have hn:=au (e:=aj) (l:=w.2.2.2.1);have d:∀j:Nat,ag ah (w.2.2.2.2.2.2.2.2.2.2.2.2.1.getD j ah.aa)<=1048576:=λj=>Cu O (e:=ah) rfl x j;simp only[mN,aO];refine bV (λi:Nat=>(w,V_ i (-1:Int),(i:Int),())) w.2.2.2.1.length (λG i g=> ?_) (λG=> ?_) k 0 (by omega) (by omega);simp only[aG,g,decide_true,if_true,List.length_replicate,au6,auP];rw[an (by simp only[b_];omega),aY (by omega),auX];simp only[aG,g',decide_false,cz,if_false];rw[<-adg k w]
 refine(dI (λj:Nat=>(w,jG k w j,dY (fF w) j,(j:Int),())) (Hm k w) w.2.2.2.2.2.2.2.2.2.2.2.2.1.length
  (e:=some (bF 0 w.2.2.2.1.length (λi=>decide ((w.2.2.2.1.getD i aj.aa).1=dY (λa=>decide (cC k w a=i)) w.2.2.2.2.2.2.2.2.2.2.2.2.1.length))&&
   decide (w.2.2.2.2.2.2.1=dY (fF w) w.2.2.2.2.2.2.2.2.2.2.2.2.1.length),())) (no:=some (false,())) ?_ ?_ k 0 (by omega) (by omega)).trans ?_
 intro G j q;have hlt:=r j (by omega);simp only[aG,ax q,q,decide_true,if_true,aus,JD O (d j),GM O,av,gC,Uv]
 change (if decide (cC k w j>=0)=true then(if decide (0<=cC k w j/\cC k w j<(w.2.2.2.1.length:Int))=true then(if(!decide ((jG k w j).getD (cC k w j).toNat 0= -1))=true then some (false,())else(if decide (0<=cC k w j/\cC k w j<(w.2.2.2.1.length:Int))=true then
  (if fF w j=true then(if(!decide (dY (fF w) j= -1))=true then some (false,())else G (w,(jG k w j).set (cC k w j).toNat (j:Int),(j:Int),IntKind.i64.wrap ((j:Int)+1),()))else G (w,(jG k w j).set (cC k w j).toNat (j:Int),dY (fF w) j,IntKind.i64.wrap ((j:Int)+1),()))else none))else none)else
  (if fF w j=true then(if(!decide (dY (fF w) j= -1))=true then some (false,())else G (w,jG k w j,(j:Int),IntKind.i64.wrap ((j:Int)+1),()))else G (w,jG k w j,dY (fF w) j,IntKind.i64.wrap ((j:Int)+1),())))=_
 rw[aY (by omega)];have s:fF w j=true->dY (fF w) (j+1)=(j:Int):=λh=>by simp[dY,h]
 have n:fF w j=false->dY (fF w) (j+1)=dY (fF w) j:=λh=>by simp[dY,h]
 unfold Hm;by_cases p:0<=cC k w j;rw[an (by simpa using p),an (by simp only[b_];omega),YS k w j (show(cC k w j).toNat<_ by omega),aeY k w j p,Int.toNat_of_nonneg p];rw[show decide (cC k w j<0)=false by simp only[d_];omega];by_cases o:dY (λa=>decide (cC k w a=cC k w j)) j= -1;rw[a_ (by simp[o])];cases b:fF w j with
 |true=>rw[s b];by_cases f:dY (fF w) j= -1<;>simp[o,f]<;>omega
 |false=>rw[n b];simp[o];omega
 rw[an (by simp[o])];simp[o];rw[a_ (by simp;omega),abt k w j (by omega)];rw[show decide (cC k w j<0)=true by simp only[b_];omega];cases b:fF w j with
 |true=>rw[s b];by_cases f:dY (fF w) j= -1<;>simp[f]
 |false=>rw[n b];simp
 intro G;simp only[aG,g',decide_false,cz,if_false];generalize w.2.2.2.2.2.2.2.2.2.2.2.2.1.length=m
 refine(dI (λi:Nat=>(w,jG k w m,dY (fF w) m,(i:Int),())) (λi=>decide ((w.2.2.2.1.getD i aj.aa).1=dY (λa=>decide (cC k w a=i)) m)) w.2.2.2.1.length
  (e:=some (decide (w.2.2.2.2.2.2.1=dY (fF w) m),())) (no:=some (false,())) ?_ ?_ k 0 (by omega) (by omega)).trans ?_
 intro t i g;simp only[aG,Uv,ax g,g,decide_true,if_true,aus,gC,YS k w m g];rw[aY (by omega)];rcases v_ (decide ((w.2.2.2.1.getD i aj.aa).1=dY (λa=>decide (cC k w a=(i:Int))) m))with h|h<;>simp only[h,l5,F',cz,if_false,if_true];intro t;simp only[aG,g',decide_false,cz,if_false,cF];cases bF 0 w.2.2.2.1.length (λi=>decide ((w.2.2.2.1.getD i aj.aa).1=dY (λa=>decide (cC k w a=i)) m))<;>simp;generalize w.2.2.2.2.2.2.2.2.2.2.2.2.1.length=m;cases bF 0 m (Hm k w)<;>simp
end
def uq(nn:Int)(h:List aI):Bool:=
 bF 0 h.length (λi=>decide ((h.getD i aL.aa).2<nn)&&bF 0 i (λj=> !decide ((h.getD j aL.aa).2=(h.getD i aL.aa).2)))
def yJ(w:af)(g:ar)(j:Nat):Bool:=
 decide ((w.2.2.2.2.2.2.2.2.2.1.getD j aL.aa).2=g.1)&&decide ((w.2.2.2.2.2.2.2.2.2.1.getD j aL.aa).1=lP w.1 g)
def MN(w:af)(g:ar):Bool:=
 if decide ((w.2.2.2.2.2.2.2.2.2.2.2.2.1.getD 4 ah.aa).1=6)=true then decide ((w.2.2.2.2.2.2.2.2.2.2.2.2.1.getD 4 ah.aa).2.2.2.2.2.2.2.1=g.1)else false
def gl(w:af)(g:ar)(n:Nat):Bool:= !bF 0 n (λj=> !yJ w g j)||MN w g
def uv(w:af):Bool:=
 bF 0 w.2.2.2.2.2.2.2.1.length (λi=>(decide ((w.2.2.2.2.2.2.2.1.getD i ak.aa).2.2.1<=w.2.2.1)&&
  (decide ((w.2.2.2.2.2.2.2.1.getD i ak.aa).2.2.2.1<=w.2.2.1)&&decide ((w.2.2.2.2.2.2.2.1.getD i ak.aa).1<w.2.2.2.2.2.2.2.2.1)))&&gl w (w.2.2.2.2.2.2.2.1.getD i ak.aa) w.2.2.2.2.2.2.2.2.2.1.length)
def eJ(w:af):Bool:=
 fD w.2.2.2.2.2.2.2.1 w.1.2.2.2.2.2&&(mF w.2.2.2.2.2.2.2.2.2.1&&(uq w.2.2.2.2.2.2.2.2.1 w.2.2.2.2.2.2.2.2.2.1&&uv w))
def DJ(w:af)(g:ar)(n:Nat):gl w g (n+1)=(if gl w g n=true then true else yJ w g n):=by
 unfold gl;rw[Ic];cases MN w g<;>cases bF 0 n (λj=> !yJ w g j)<;>cases yJ w g n<;>rfl
section
variable{k:Nat}(O:9223372036854775808<=k)
include O
def aaR{c:bw}(h:ag fX c<=1048576):c.2.2.2.2.2.length<=1048576:=by
 rw[oP O]at h;have:=au (e:= .str) (l:=c.2.2.2.2.2);omega
def Jk{w:af}(hs:ag aN w<=1048576)(q:w.2.2.2.2.2.2.2.2.2.2.2.2.1.length=5):lF k (w,())=some (eJ w,()):=by
 obtain⟨t,w2,_,_,u,v,_,w8,w9⟩:=gu O hs;have r:=aaR O t;have hn:=au (e:=ak) (l:=w.2.2.2.2.2.2.2.1);simp only[lF,aO,My O u r,Tl O v,av];unfold eJ;cases fD w.2.2.2.2.2.2.2.1 w.1.2.2.2.2.2 with
 |false=>rfl
 |true=>
  cases mF w.2.2.2.2.2.2.2.2.2.1 with
  |false=>rfl
  |true=>
   simp only[l5,cz,if_false,beq_self_eq_true,if_true,av]
   refine(dI (λi:Nat=>(w,(i:Int),())) (λi=>decide ((w.2.2.2.2.2.2.2.2.2.1.getD i aL.aa).2<w.2.2.2.2.2.2.2.2.1)&&bF 0 i (λj=> !decide ((w.2.2.2.2.2.2.2.2.2.1.getD j aL.aa).2=(w.2.2.2.2.2.2.2.2.2.1.getD i aL.aa).2))) w.2.2.2.2.2.2.2.2.2.1.length
    (e:=some (uv w,())) (no:=some (false,())) ?_ ?_ k 0 (by omega) (by omega)).trans ?_
   intro G i d;simp only[aG,ax d,d,decide_true,if_true,aus,pn];rcases v_ (decide ((w.2.2.2.2.2.2.2.2.2.1.getD i aL.aa).2<w.2.2.2.2.2.2.2.2.1))with h|h<;>simp only[h,l5,F',cz,if_false,if_true,G8,auT]
   refine(dI (λj:Nat=>(w,(i:Int),(j:Int),())) (λj=> !decide ((w.2.2.2.2.2.2.2.2.2.1.getD j aL.aa).2=(w.2.2.2.2.2.2.2.2.2.1.getD i aL.aa).2)) i
    (e:=G (w,((i+1:Nat):Int),())) (no:=some (false,())) ?_ ?_ k 0 (by omega) (by omega)).trans ?_
   intro n j f;have o:j<w.2.2.2.2.2.2.2.2.2.1.length:=by omega
   simp only[aG,ax o,ax d,f,decide_true,if_true,aus,cF];rw[aY (by omega)];rcases v_ (decide ((w.2.2.2.2.2.2.2.2.2.1.getD j aL.aa).2=(w.2.2.2.2.2.2.2.2.2.1.getD i aL.aa).2))with m|m<;>simp only[m,l5,F',cz,if_false,if_true];intro n;simp only[aG,g',decide_false,cz,if_false];rw[aY (by omega)];rfl;intro G;simp only[aG,g',decide_false,cz,if_false]
   refine(dI (λi:Nat=>(w,(i:Int),())) (λi=>(decide ((w.2.2.2.2.2.2.2.1.getD i ak.aa).2.2.1<=w.2.2.1)&&
    (decide ((w.2.2.2.2.2.2.2.1.getD i ak.aa).2.2.2.1<=w.2.2.1)&&decide ((w.2.2.2.2.2.2.2.1.getD i ak.aa).1<w.2.2.2.2.2.2.2.2.1)))&&gl w (w.2.2.2.2.2.2.2.1.getD i ak.aa) w.2.2.2.2.2.2.2.2.2.1.length) w.2.2.2.2.2.2.2.1.length
    (e:=some (true,())) (no:=some (false,())) ?_ ?_ k 0 (by omega) (by omega)).trans ?_
   intro n i d;have s:decide ((0:Int)<=4/\(4:Int)<(w.2.2.2.2.2.2.2.2.2.2.2.2.1.length:Int))=true:=by rw[q];rfl
   simp only[aG,ax d,d,s,decide_true,if_true,aus,J7,cF];generalize w.2.2.2.2.2.2.2.1.getD i ak.aa=g;refine bV (λj:Nat=>(w,(i:Int),g,gl w g j,(j:Int),())) w.2.2.2.2.2.2.2.2.2.1.length (λp j f=> ?_) (λp=> ?_) k 0 (by omega) (by omega);simp only[aG,ax f,f,decide_true,if_true,aus,J7,Kk O];rw[aY (by omega),DJ];unfold yJ;cases gl w g j<;>by_cases m:(w.2.2.2.2.2.2.2.2.2.1.getD j aL.aa).2=g.1<;>simp only[m,l5,F',cz,if_false,if_true,decide_true,decide_false,G8,auT,Bool.and_true,au9,beq_self_eq_true,av,beq_iff_eq]<;>rfl;simp only[aG,g',decide_false,cz,if_false];rw[aY (by omega),pn];have q1:∀a b:Int,decide (a>b)= !decide (a<=b):=λa b=>by by_cases h:a<=b<;>simp[h]<;>omega
   rw[q1,q1];cases gl w g w.2.2.2.2.2.2.2.2.2.1.length<;>cases decide (g.2.2.1<=w.2.2.1)<;>cases decide (g.2.2.2.1<=w.2.2.1)<;>cases decide (g.1<w.2.2.2.2.2.2.2.2.1)<;>rfl;intro n;simp only[aG,g',decide_false,cz,if_false];show(if uv w=true then _ else _)=_;cases uv w<;>simp;show(if uq w.2.2.2.2.2.2.2.2.1 w.2.2.2.2.2.2.2.2.2.1=true then _ else _)=_;cases uq w.2.2.2.2.2.2.2.2.1 w.2.2.2.2.2.2.2.2.2.1<;>simp
omit O in
theorem ahP{α:Type}(d:α){l:List α}{i j:Nat}(h:j<i):(l.take i).getD j d=l.getD j d:=by
 simp only[auC,List.getElem?_take,h,if_true]
def GG{w:af}(hs:ag aN w<=1048576)(r:w.2.2.2.2.2.2.2.2.2.2.2.2.1.length=5):mj k (w,())=some (eJ w,()):=by
 obtain⟨u,w2,_,_,v,x,_,w8,w9⟩:=gu O hs;have s:=aaR O u;have hn:=au (e:=ak) (l:=w.2.2.2.2.2.2.2.1);simp only[mj,aO,K0 O v s,TA O x,av];unfold eJ;cases fD w.2.2.2.2.2.2.2.1 w.1.2.2.2.2.2 with
 |false=>rfl
 |true=>
  cases mF w.2.2.2.2.2.2.2.2.2.1 with
  |false=>rfl
  |true=>
   simp only[l5,cz,if_false,beq_self_eq_true,if_true,av]
   refine(dI (λi:Nat=>(w,w.2.2.2.2.2.2.2.1,(w.2.2.2.2.2.2.2.1.length:Int),(i:Int),())) (λi=>(decide ((w.2.2.2.2.2.2.2.1.getD i ak.aa).2.2.1<=w.2.2.1)&&
    (decide ((w.2.2.2.2.2.2.2.1.getD i ak.aa).2.2.2.1<=w.2.2.1)&&decide ((w.2.2.2.2.2.2.2.1.getD i ak.aa).1<w.2.2.2.2.2.2.2.2.1)))&&gl w (w.2.2.2.2.2.2.2.1.getD i ak.aa) w.2.2.2.2.2.2.2.2.2.1.length) w.2.2.2.2.2.2.2.1.length
    (e:=some (uq w.2.2.2.2.2.2.2.2.1 w.2.2.2.2.2.2.2.2.2.1,())) (no:=some (false,())) ?_ ?_ k 0 (by omega) (by omega)).trans ?_
   ·intro n i f;have t:decide ((0:Int)<=4/\(4:Int)<(w.2.2.2.2.2.2.2.2.2.2.2.2.1.length:Int))=true:=by rw[r];rfl
    dsimp only;rw[aG,c_ f,an rfl,an (ax f),aus];generalize w.2.2.2.2.2.2.2.1.getD i ak.aa=g;simp only[t,decide_true,if_true,J7,cF];have q1:∀a b:Int,decide (a>b)= !decide (a<=b):=λa b=>by by_cases h:a<=b<;>simp[h]<;>omega
    rw[show decide (g.1>=w.2.2.2.2.2.2.2.2.1)= !decide (g.1<w.2.2.2.2.2.2.2.2.1)from pn _ _,q1,q1];generalize decide (g.2.2.1<=w.2.2.1)=b1;generalize decide (g.2.2.2.1<=w.2.2.1)=b2;generalize decide (g.1<w.2.2.2.2.2.2.2.2.1)=b3;by_cases o:b1=true/\b2=true/\b3=true;rotate_left
    ·cases b1<;>cases b2<;>cases b3<;>first|rfl|(exact absurd o (by simp))
    obtain⟨y,z,B⟩:=o;subst y z B;rw[G8,G8,G8];refine(y3 rfl).trans ?_;refine bV (λj:Nat=>(w,g,gl w g j,w.2.2.2.2.2.2.2.1,(w.2.2.2.2.2.2.2.1.length:Int),(i:Int),w.2.2.2.2.2.2.2.2.2.1,(w.2.2.2.2.2.2.2.2.2.1.length:Int),(j:Int),())) w.2.2.2.2.2.2.2.2.2.1.length (λq j d=> ?_) (λq=> ?_) k 0 (by omega) (by omega)
    ·simp only[aG,ax d,d,decide_true,if_true,aus,J7,aad O];rw[aY (by omega),DJ];unfold yJ;cases gl w g j<;>by_cases m:(w.2.2.2.2.2.2.2.2.2.1.getD j aL.aa).2=g.1<;>simp only[m,l5,F',cz,if_false,if_true,decide_true,decide_false,G8,auT,Bool.and_true,au9,beq_self_eq_true,av,beq_iff_eq]<;>rfl
    ·simp only[aG,g',decide_false,cz,if_false];rw[aY (by omega)];cases gl w g w.2.2.2.2.2.2.2.2.2.1.length<;>rfl
   ·intro G;simp only[aG,g',decide_false,cz,if_false]
    refine(dI (λi:Nat=>(w,w.2.2.2.2.2.2.2.2.2.1,(w.2.2.2.2.2.2.2.2.2.1.length:Int),(i:Int),())) (λi=>decide ((w.2.2.2.2.2.2.2.2.2.1.getD i aL.aa).2<w.2.2.2.2.2.2.2.2.1)&&bF 0 i (λj=> !decide ((w.2.2.2.2.2.2.2.2.2.1.getD j aL.aa).2=(w.2.2.2.2.2.2.2.2.2.1.getD i aL.aa).2))) w.2.2.2.2.2.2.2.2.2.1.length
     (e:=some (true,())) (no:=some (false,())) ?_ ?_ k 0 (by omega) (by omega)).trans ?_
    ·intro G i f;have p:(w.2.2.2.2.2.2.2.2.2.1.take i).length=i:=by rw[List.length_take];omega
     simp only[aG,ax f,f,decide_true,if_true,aus,pn,p];rcases v_ (decide ((w.2.2.2.2.2.2.2.2.2.1.getD i aL.aa).2<w.2.2.2.2.2.2.2.2.1))with h|h<;>simp only[h,l5,F',cz,if_false,if_true,G8,auT];rw[an (by simp only[b_];omega)]
     refine(dI (λj:Nat=>(w,w.2.2.2.2.2.2.2.2.2.1.getD i aL.aa,w.2.2.2.2.2.2.2.2.2.1,(w.2.2.2.2.2.2.2.2.2.1.length:Int),(i:Int),w.2.2.2.2.2.2.2.2.2.1.take i,(i:Int),(j:Int),())) (λj=> !decide ((w.2.2.2.2.2.2.2.2.2.1.getD j aL.aa).2=(w.2.2.2.2.2.2.2.2.2.1.getD i aL.aa).2)) i
      (e:=G (w,w.2.2.2.2.2.2.2.2.2.1,(w.2.2.2.2.2.2.2.2.2.1.length:Int),((i+1:Nat):Int),())) (no:=some (false,())) ?_ ?_ k 0 (by omega) (by omega)).trans ?_
     ·intro n j d;simp only[aG,p,ax d,d,decide_true,if_true,aus,cF,ahP aL.aa d];rw[aY (by omega)];rcases v_ (decide ((w.2.2.2.2.2.2.2.2.2.1.getD j aL.aa).2=(w.2.2.2.2.2.2.2.2.2.1.getD i aL.aa).2))with m|m<;>simp only[m,l5,F',cz,if_false,if_true]
     ·intro n;simp only[aG,g',decide_false,cz,if_false];rw[aY (by omega)]
     ·rfl
    ·intro n;simp only[aG,g',decide_false,cz,if_false]
    ·show(if uq w.2.2.2.2.2.2.2.2.1 w.2.2.2.2.2.2.2.2.2.1=true then _ else _)=_;cases uq w.2.2.2.2.2.2.2.2.1 w.2.2.2.2.2.2.2.2.2.1<;>simp
   ·show(if uv w=true then _ else _)=_;cases uv w<;>simp
end
def oq(k:Nat)(w:af)(d:ay):Bool:=
 gg k d&&(decide (d.2.2.2.2.2.2.2.2.2.1<w.2.1)&&(decide (d.2.2.2.2.2.2.2.2.2.2.1<w.2.1)&&decide (d.2.2.2.2.2.2.2.2.2.2.2<w.2.1)))
def n7(k:Nat)(w:af):Bool:=bF 0 w.2.2.2.2.2.2.2.2.2.2.2.2.2.length (λi=>oq k w (w.2.2.2.2.2.2.2.2.2.2.2.2.2.getD i aw.aa))
def na(w:af)(t:aA):ay:=w.2.2.2.2.2.2.2.2.2.2.2.2.2.getD t.2.2.2.2.2.2.2.2.toNat aw.aa
def ix(k:Nat)(w:af):Bool:=bF 0 w.2.2.2.2.2.2.2.2.2.2.2.2.1.length (λi=>dB k w (w.2.2.2.2.2.2.2.2.2.2.2.2.1.getD i ah.aa) (na w (w.2.2.2.2.2.2.2.2.2.2.2.2.1.getD i ah.aa)) i)
def ic(k:Nat)(w:af):Bool:=
 eo k w.2.2.2.1&&(decide ((w.2.2.2.1.length:Int)=w.1.1)&&(decide ((bL w.2.2.2.1:Int)<=w.1.2.1)&&bF 0 (dp (cn w.2.2.2.1)).length (λi=>dx ((dp (cn w.2.2.2.1)).getD i ab.aa))))
def bC(k:Nat)(w:af):Bool:=
 dS w.1&&(decide (0<=w.2.1)&&(decide (0<=w.2.2.2.2.2.2.2.2.1)&&(bh w.2.2.1 0 99899&&(ic k w&&(decide ((w.2.2.2.2.1.length:Int)=w.1.2.2.1)&&(decide ((w.2.2.2.2.2.2.2.2.2.2.2.2.1.length:Int)=5)&&(bT w.2.2.2.2.2.1&&(bT w.2.2.2.2.2.2.2.2.2.2.2.1&&
 (uO w.2.2.2.2.1&&(n7 k w&&(ix k w&&(kt k w&&eJ w))))))))))))
section
variable{k:Nat}(O:9223372036854775808<=k)
include O
def IK{w:af}(hs:ag aN w<=1048576)(s:(w.2.2.2.1.length:Int)=w.1.1):nk k (w,())=some (n7 k w&&ix k w,()):=by
 obtain⟨w1,w2,_,_,w5,w6,_,y,z⟩:=gu O hs;have hn:=au (e:=aw) (l:=w.2.2.2.2.2.2.2.2.2.2.2.2.2);have hm:=au (e:=ah) (l:=w.2.2.2.2.2.2.2.2.2.2.2.2.1);have b:∀j:Nat,ag aw (w.2.2.2.2.2.2.2.2.2.2.2.2.2.getD j aw.aa)<=1048576:=λj=>Cu O (e:=aw) rfl z j;have f:∀j:Nat,ag ah (w.2.2.2.2.2.2.2.2.2.2.2.2.1.getD j ah.aa)<=1048576:=λj=>Cu O (e:=ah) rfl y j;simp only[nk,aO]
 refine(dI (λi:Nat=>(w,w.2.2.2.2.2.2.2.2.2.2.2.2.2,(w.2.2.2.2.2.2.2.2.2.2.2.2.2.length:Int),(i:Int),())) (λi=>oq k w (w.2.2.2.2.2.2.2.2.2.2.2.2.2.getD i aw.aa)) w.2.2.2.2.2.2.2.2.2.2.2.2.2.length
  (e:=some (ix k w,())) (no:=some (false,())) ?_ ?_ k 0 (by omega) (by omega)).trans ?_
 ·intro G i g;dsimp only;rw[aG,c_ g,an rfl,an (ax g),aus,QT O,av,aY (by omega)];generalize w.2.2.2.2.2.2.2.2.2.2.2.2.2.getD i aw.aa=d;rw[pn,pn,pn];unfold oq;cases gg k d<;>cases decide (d.2.2.2.2.2.2.2.2.2.1<w.2.1)<;>cases decide (d.2.2.2.2.2.2.2.2.2.2.1<w.2.1)<;>cases decide (d.2.2.2.2.2.2.2.2.2.2.2<w.2.1)<;>rfl
 ·intro G;simp only[aG,g',decide_false,cz,if_false]
  refine(dI (λi:Nat=>(w,w.2.2.2.2.2.2.2.2.2.2.2.2.1,(w.2.2.2.2.2.2.2.2.2.2.2.2.1.length:Int),(i:Int),())) (λi=>dB k w (w.2.2.2.2.2.2.2.2.2.2.2.2.1.getD i ah.aa) (na w (w.2.2.2.2.2.2.2.2.2.2.2.2.1.getD i ah.aa)) i) w.2.2.2.2.2.2.2.2.2.2.2.2.1.length
   (e:=some (true,())) (no:=some (false,())) ?_ ?_ k 0 (by omega) (by omega)).trans ?_
  ·intro r i g;have n:ag ah (w.2.2.2.2.2.2.2.2.2.2.2.2.1.getD i ah.aa)<=1048576:=f i;dsimp only;rw[aG,c_ g,an rfl,an (ax g),aus,aY (by omega)];generalize w.2.2.2.2.2.2.2.2.2.2.2.2.1.getD i ah.aa=t at*
   have o:ag aw (na w t)<=1048576:=b _;unfold na at o|-;generalize w.2.2.2.2.2.2.2.2.2.2.2.2.2.getD t.2.2.2.2.2.2.2.2.toNat aw.aa=d at*
   rw[TK O n,av];unfold dB;by_cases a:dR t i=true;rotate_left
   ·simp[a]
   obtain⟨B,hkind⟩:=Kv a;rw[Mo O hs s n o a];by_cases h:t.1=0
   ·simp[h,a]
   by_cases p:t.2.2.2.2.2.2.2.2<(w.2.2.2.2.2.2.2.2.2.2.2.2.2.length:Int);rotate_left
   ·have:decide (t.2.2.2.2.2.2.2.2>=(w.2.2.2.2.2.2.2.2.2.2.2.2.2.length:Int))=true:=by simp only[b_];omega
    simp[h,this,p,a]
   have q1:decide (t.2.2.2.2.2.2.2.2>=(w.2.2.2.2.2.2.2.2.2.2.2.2.2.length:Int))=false:=by simp only[d_];omega
   simp only[a,q1,B,and_true,true_and,if_true,l5,cz,if_false,p,h,decide_true,decide_false,G8,Bool.false_or,cF,gC];by_cases m:d.2.1=i;rotate_left
   ·simp[m]
   by_cases q:d.2.2.2.2.2.2.2.2.2.2.2= -1;rotate_left
   ·simp[m,q]
   by_cases u:d.2.2.2.2.2.2.2.2.2.2.1= -1<;>by_cases v:t.1=1<;>by_cases x:t.2.1=2<;>cases oH k w t d<;>simp[m,q,u,v,x]
  ·intro r;simp only[aG,g',decide_false,cz,if_false]
  ·show(if ix k w=true then _ else _)=_;cases ix k w<;>simp
 ·show(if n7 k w=true then _ else _)=_;cases n7 k w<;>simp
def sorted_at{l:List aq}(hs:ag (.sl aj) l<=1048576){i:Nat}(hi:i<(dp (cn l)).length):ag ab ((dp (cn l)).getD i ab.aa)<=1048576:=by
 have h1:=iq O l;have h2:=uz (cn l);have h3:=dQ (e:=ab) (d:=ab.aa) hi;omega
omit O in
theorem NF(l:List aq):(dp (cn l)).length=bL l:=by
 have:=TU ee (cn l);unfold dp fc bL;rw[List.length_reverse];exact this
def La{w:af}(hs:ag aN w<=1048576):qo k (w,())=some (ic k w,()):=by
 obtain⟨w1,a,_,_,w5,w6,_,w8,w9⟩:=gu O hs;have hc:=Um O a;have d:=NF w.2.2.2.1;simp only[qo,aO,NL O a,yk O a,av,gC];unfold ic;cases eo k w.2.2.2.1 with
 |false=>rfl
 |true=>
  rcases v_ (decide ((w.2.2.2.1.length:Int)=w.1.1))with hq|hq;rotate_left
  ·rw[hq];rfl
  ·rw[hq];simp only[l5,cz,if_false,G8]
   refine(dI (λi:Nat=>(w,dp (cn w.2.2.2.1),(i:Int),())) (λi=>dx ((dp (cn w.2.2.2.1)).getD i ab.aa)) (dp (cn w.2.2.2.1)).length
    (e:=some (decide ((bL w.2.2.2.1:Int)<=w.1.2.1),())) (no:=some (false,())) ?_ ?_ k 0 (by omega) (by omega)).trans ?_
   ·intro G i b;have f:=sorted_at O a b;dsimp only;rw[aG,c_ b,an rfl,an (ax b),aus,yZ O f,av,aY (by omega)];cases dx ((dp (cn w.2.2.2.1)).getD i ab.aa)<;>rfl
   ·intro G;simp only[aG,g',decide_false,cz,if_false,d]
   ·cases bF 0 (dp (cn w.2.2.2.1)).length (λi=>dx ((dp (cn w.2.2.2.1)).getD i ab.aa))<;>simp
def Io{w:af}(hs:ag aN w<=1048576)(h8:w.1.2.1<=8):nu k (w,())=some (ic k w,()):=by
 obtain⟨w1,b,_,_,w5,w6,_,w8,w9⟩:=gu O hs;have hc:=Um O b;have hsl:=NF w.2.2.2.1;simp only[nu,aO,PW O b,NP O b,av,gC];unfold ic;cases eo k w.2.2.2.1 with
 |false=>rfl
 |true=>
  rcases v_ (decide ((w.2.2.2.1.length:Int)=w.1.1))with hq|hq;rotate_left
  ·rw[hq];rfl
  ·rw[hq];simp only[l5,cz,if_false,G8,beq_self_eq_true,if_true,av];by_cases a:(bL w.2.2.2.1:Int)<=w.1.2.1;rotate_left
   ·rw[an (by simp only[b_];omega),decide_eq_false a];rfl
   rw[a_ (by simp only[b_];omega),c_ a,sF O b (by omega),av]
   refine(dI (λi:Nat=>(w,dp (cn w.2.2.2.1),((dp (cn w.2.2.2.1)).length:Int),(i:Int),())) (λi=>dx ((dp (cn w.2.2.2.1)).getD i ab.aa)) (dp (cn w.2.2.2.1)).length
    (e:=some (true,())) (no:=some (false,())) ?_ ?_ k 0 (by omega) (by omega)).trans ?_
   ·intro G i d;have f:=sorted_at O b d;dsimp only;rw[aG,c_ d,an rfl,an (ax d),aus,Hr O f,av,aY (by omega)];cases dx ((dp (cn w.2.2.2.1)).getD i ab.aa)<;>rfl
   ·intro G;simp only[aG,g',decide_false,cz,if_false]
   ·cases bF 0 (dp (cn w.2.2.2.1)).length (λi=>dx ((dp (cn w.2.2.2.1)).getD i ab.aa))<;>simp
omit O in
theorem I0{l:List aq}(h:eo k l=true):(1<=l.length/\l.length<=3)/\∀i,i<l.length->bh (l.getD i aj.aa).1 (-1) 4=true:=by
 unfold eo at h;simp only[C_,cH]at h;obtain⟨d,a⟩:=h;refine⟨?_,λi b=> ?_⟩;unfold bh at a;simp only[C_,b_]at a;omega;have:=d i (by omega) b;unfold gU at this;simp only[C_]at this;exact this.2.1
omit O in
theorem ah1{w:af}(d:(w.2.2.2.1.length:Int)=w.1.1)(h1:1<=w.2.2.2.1.length)(b:ix k w=true){j:Nat}(e:j<w.2.2.2.2.2.2.2.2.2.2.2.2.1.length):cC k w j<w.2.2.2.1.length:=by
 unfold ix at b;have h:=cH.1 b j (by omega) e;unfold cC br;generalize w.2.2.2.2.2.2.2.2.2.2.2.2.1.getD j ah.aa=t at*
 have a:=λf:Int=>E7 (f:=f) (n:=(w.2.2.2.1.length:Int)) (by omega);split;omega;split;exact(a _).2;split;exact(a _).2;split;rename_i hc;unfold dB oH at h;rw[d];grind;omega
def wa{w:af}(hs:ag aN w<=1048576):lh k (w,())=some (bC k w,()):=by
 obtain⟨u,w2,v,x,w5,w6,y,w8,w9⟩:=gu O hs;have hn:=au (e:=aw) (l:=w.2.2.2.2.2.2.2.2.2.2.2.2.2);have hm:=au (e:=ah) (l:=w.2.2.2.2.2.2.2.2.2.2.2.2.1);have hu:=au (e:=bj) (l:=w.2.2.2.2.1);simp only[lh,aO,CD O u,gB O,La O hs,wL O x,wL O y,av,gC,cN];have q:∀a:Int,decide (a<0)= !decide (0<=a):=λa=>by by_cases h:a<0<;>simp[h]<;>omega
 rw[q,q];unfold bC;by_cases b:dS w.1=true/\0<=w.2.1/\0<=w.2.2.2.2.2.2.2.2.1/\bh w.2.2.1 0 99899=true/\ic k w=true/\(w.2.2.2.2.1.length:Int)=w.1.2.2.1/\(w.2.2.2.2.2.2.2.2.2.2.2.2.1.length:Int)=5/\bT w.2.2.2.2.2.1=true/\bT w.2.2.2.2.2.2.2.2.2.2.2.1=true;rotate_left
 ·have s:(dS w.1&&(decide (0<=w.2.1)&&(decide (0<=w.2.2.2.2.2.2.2.2.1)&&(bh w.2.2.1 0 99899&&(ic k w&&(decide ((w.2.2.2.2.1.length:Int)=w.1.2.2.1)&&(decide ((w.2.2.2.2.2.2.2.2.2.2.2.2.1.length:Int)=5)&&(bT w.2.2.2.2.2.1&&(bT w.2.2.2.2.2.2.2.2.2.2.2.1&&
   (uO w.2.2.2.2.1&&(n7 k w&&(ix k w&&(kt k w&&eJ w)))))))))))))=false:=by
   rw[au2];intro h;simp only[C_,b_]at h;exact b ⟨h.1,h.2.1,h.2.2.1,h.2.2.2.1,h.2.2.2.2.1,h.2.2.2.2.2.1,h.2.2.2.2.2.2.1,h.2.2.2.2.2.2.2.1,h.2.2.2.2.2.2.2.2.1⟩
  rw[s];refine(an ?_).trans rfl
  have f:¬(dS w.1=true/\decide (0<=w.2.1)=true/\decide (0<=w.2.2.2.2.2.2.2.2.1)=true/\bh w.2.2.1 0 99899=true/\ic k w=true/\decide ((w.2.2.2.2.1.length:Int)=w.1.2.2.1)=true/\decide ((w.2.2.2.2.2.2.2.2.2.2.2.2.1.length:Int)=5)=true/\bT w.2.2.2.2.2.1=true/\bT w.2.2.2.2.2.2.2.2.2.2.2.1=true):=by
   simpa only[b_]using b
  generalize dS w.1=b1 at f|-;generalize decide (0<=w.2.1)=b2 at f|-;generalize decide (0<=w.2.2.2.2.2.2.2.2.1)=b3 at f|-;generalize bh w.2.2.1 0 99899=b4 at f|-;generalize ic k w=b5 at f|-;generalize decide ((w.2.2.2.2.1.length:Int)=w.1.2.2.1)=b6 at f|-;generalize decide ((w.2.2.2.2.2.2.2.2.2.2.2.2.1.length:Int)=5)=b7 at f|-;generalize bT w.2.2.2.2.2.1=b8 at f|-;generalize bT w.2.2.2.2.2.2.2.2.2.2.2.1=b9 at f|-;clear b s;cases b1
  ·rfl
  cases b2
  ·rfl
  cases b3
  ·rfl
  cases b4
  ·rfl
  cases b5
  ·rfl
  cases b6
  ·rfl
  cases b7
  ·rfl
  cases b8
  ·rfl
  cases b9
  ·rfl
  exact absurd ⟨rfl,rfl,rfl,rfl,rfl,rfl,rfl,rfl,rfl⟩ f
 obtain⟨z,B,C,F,o,h6,h7,h8,h9⟩:=b
 have m:eo k w.2.2.2.1=true/\(w.2.2.2.1.length:Int)=w.1.1:=by
  unfold ic at o;simp only[C_,b_]at o;exact⟨o.1,o.2.1⟩
 obtain⟨⟨p,_⟩,n⟩:=I0 m.1;rw[z,c_ B,c_ C,F,o,c_ h6,c_ h7,h8,h9];simp only[G8];refine(y3 rfl).trans ?_
 refine(dI (λi:Nat=>(w,(i:Int),())) (λi=>gK (w.2.2.2.2.1.getD i bj.aa)) w.2.2.2.2.1.length
  (e:=some (n7 k w&&(ix k w&&(kt k w&&eJ w)),())) (no:=some (false,())) ?_ ?_ k 0 (by omega) (by omega)).trans ?_
 ·intro G i g;dsimp only;rw[aG,c_ g,an rfl,an (ax g),aus,V1 O (X8 O v g),av,aY (by omega)];cases gK (w.2.2.2.2.1.getD i bj.aa)<;>rfl
 ·intro G;simp only[aG,g',decide_false,cz,if_false]
  refine(dI (λi:Nat=>(w,(i:Int),())) (λi=>oq k w (w.2.2.2.2.2.2.2.2.2.2.2.2.2.getD i aw.aa)) w.2.2.2.2.2.2.2.2.2.2.2.2.2.length
   (e:=some (ix k w&&(kt k w&&eJ w),())) (no:=some (false,())) ?_ ?_ k 0 (by omega) (by omega)).trans ?_
  ·intro G i g;dsimp only;rw[aG,c_ g,an rfl,an (ax g),aus,RS O,av,aY (by omega)];generalize w.2.2.2.2.2.2.2.2.2.2.2.2.2.getD i aw.aa=d;rw[pn,pn,pn];unfold oq;cases gg k d<;>cases decide (d.2.2.2.2.2.2.2.2.2.1<w.2.1)<;>cases decide (d.2.2.2.2.2.2.2.2.2.2.1<w.2.1)<;>cases decide (d.2.2.2.2.2.2.2.2.2.2.2<w.2.1)<;>rfl
  ·intro G;simp only[aG,g',decide_false,cz,if_false]
   refine(dI (λi:Nat=>(w,(i:Int),())) (λi=>dB k w (w.2.2.2.2.2.2.2.2.2.2.2.2.1.getD i ah.aa) (na w (w.2.2.2.2.2.2.2.2.2.2.2.2.1.getD i ah.aa)) i) w.2.2.2.2.2.2.2.2.2.2.2.2.1.length
    (e:=mN k (w,())>>= λr=>(if(r.1==true)=true then lF k (w,())else some (false,()))>>= λt=>some (if r.1=true then t.1 else false,())) (no:=some (false,())) ?_ ?_ k 0 (by omega) (by omega)).trans ?_
   ·intro G i g;dsimp only;rw[aG,c_ g,an rfl,Qg O hs g m.2,av,aY (by omega)];show(if(!dB k w (w.2.2.2.2.2.2.2.2.2.2.2.2.1.getD i ah.aa) (na w (w.2.2.2.2.2.2.2.2.2.2.2.2.1.getD i ah.aa)) i)=true then _ else _)=_;cases dB k w (w.2.2.2.2.2.2.2.2.2.2.2.2.1.getD i ah.aa) (na w (w.2.2.2.2.2.2.2.2.2.2.2.2.1.getD i ah.aa)) i<;>rfl
   ·intro G;simp only[aG,g',decide_false,cz,if_false];rfl
   ·show(if ix k w=true then _ else _)=_;rcases v_ (ix k w)with ho|ho;rotate_left
    ·rw[ho];rfl
    ·rw[ho,an rfl,Ll O hs n (by omega) (λj hj=>ah1 m.2 p ho (by omega)),Jk O hs (by omega)];cases kt k w<;>rfl
  ·show(if n7 k w=true then _ else _)=_;cases n7 k w<;>simp
 ·show(if uO w.2.2.2.2.1=true then _ else _)=_;cases uO w.2.2.2.2.1<;>simp
def ko{w:af}(hs:ag aN w<=1048576):fO k (w,())=some (bC k w,()):=by
 obtain⟨l,w2,m,n,w5,w6,o,w8,w9⟩:=gu O hs;simp only[fO,Td O l,gY O,av,gC,cN];have i:∀a:Int,decide (a<0)= !decide (0<=a):=λa=>by by_cases h:a<0<;>simp[h]<;>omega
 rw[i,i];unfold bC;by_cases b:dS w.1=true/\0<=w.2.1/\0<=w.2.2.2.2.2.2.2.2.1/\bh w.2.2.1 0 99899=true/\(w.2.2.2.2.2.2.2.2.2.2.2.2.1.length:Int)=5;rotate_left
 ·have j:(dS w.1&&(decide (0<=w.2.1)&&(decide (0<=w.2.2.2.2.2.2.2.2.1)&&(bh w.2.2.1 0 99899&&(ic k w&&(decide ((w.2.2.2.2.1.length:Int)=w.1.2.2.1)&&(decide ((w.2.2.2.2.2.2.2.2.2.2.2.2.1.length:Int)=5)&&(bT w.2.2.2.2.2.1&&(bT w.2.2.2.2.2.2.2.2.2.2.2.1&&
   (uO w.2.2.2.2.1&&(n7 k w&&(ix k w&&(kt k w&&eJ w)))))))))))))=false:=by
   rw[au2];intro h;simp only[C_,b_]at h;exact b ⟨h.1,h.2.1,h.2.2.1,h.2.2.2.1,h.2.2.2.2.2.2.1⟩
  rw[j];refine(an ?_).trans rfl
  have d:¬(dS w.1=true/\decide (0<=w.2.1)=true/\decide (0<=w.2.2.2.2.2.2.2.2.1)=true/\bh w.2.2.1 0 99899=true/\decide ((w.2.2.2.2.2.2.2.2.2.2.2.2.1.length:Int)=5)=true):=by
   simpa only[b_]using b
  generalize dS w.1=b1 at d|-;generalize decide (0<=w.2.1)=b2 at d|-;generalize decide (0<=w.2.2.2.2.2.2.2.2.1)=b3 at d|-;generalize bh w.2.2.1 0 99899=b4 at d|-;generalize decide ((w.2.2.2.2.2.2.2.2.2.2.2.2.1.length:Int)=5)=b7 at d|-;clear b j;cases b1
  ·rfl
  cases b2
  ·rfl
  cases b3
  ·rfl
  cases b4
  ·rfl
  cases b7
  ·rfl
  exact absurd ⟨rfl,rfl,rfl,rfl,rfl⟩ d
 obtain⟨g,p,q,r,h7⟩:=b
 have e:w.1.2.1<=8:=by
  unfold dS bh at g;simp only[C_,b_]at g;omega
 rw[g,c_ p,c_ q,r,c_ h7];simp only[G8];refine(y3 rfl).trans ?_;rw[Io O hs e,av];rcases v_ (ic k w)with h5|h5;rotate_left
 ·rw[h5];rfl
 have f:eo k w.2.2.2.1=true/\(w.2.2.2.1.length:Int)=w.1.1:=by
  unfold ic at h5;simp only[C_,b_]at h5;exact⟨h5.1,h5.2.1⟩
 rw[h5,JG O m,ov O n,ov O o,IK O hs f.2,GW O hs,GG O hs (by omega)];generalize decide ((w.2.2.2.2.1.length:Int)=w.1.2.2.1)=c1;generalize bT w.2.2.2.2.2.1=c2;generalize bT w.2.2.2.2.2.2.2.2.2.2.2.1=c3;generalize uO w.2.2.2.2.1=c4;generalize n7 k w=c5;generalize ix k w=c6;generalize kt k w=c7;generalize eJ w=c8;clear h5 f;cases c4<;>cases c1<;>cases c2<;>cases c3<;>cases c5<;>cases c6<;>cases c7<;>first|rfl|(cases c8<;>rfl)
end
def Cs(c:bw):List bp:=V_ c.2.2.1.toNat ([],false)
def ak4:bw:=(0,0,0,0,0,[])
def Bi:aA:=(0,0,([],0,0,ByteArray.empty),[],0,[],[],0,0)
def eB(n:Int):List aq:=V_ (if 1<=n/\n<=3 then n.toNat else 1) (-1,0,[])
def qD(c:bw):af:=if dS c=true then(c,0,0,eB c.1,Cs c,[],-1,[],0,[],[],[],V_ 5 Bi,[])else(ak4,0,0,[],[],[],0,[],0,[],[],[],[],[])
def ZK{c:bw}(h:dS c=true):1<=c.2.2.1/\c.2.2.1<=2/\1<=c.1/\c.1<=3:=by
 simp only[dS,bh,C_,b_]at h;omega
def ML{α:Type}(x:α)(i:Nat):V_ (i+1) x=V_ i x++[x]:=by
 rw[auX]
section
variable{k:Nat}(O:9223372036854775808<=k)
include O
theorem zk{n:Int}:me k (n,())=some (eB n,()):=by
 simp only[me];unfold eB;by_cases a:1<=n/\n<=3;rw[an a];refine bV (λi=>(n,V_ (i+1) ((-1,0,[]):aq),())) (n.toNat-1) (λG i hi=> ?_) (λG=> ?_) k 0 (by omega) (by omega);simp only;rw[an (by simp;omega),an (by simp;omega),<-ML];simp only;rw[a_ (by simp;omega)];congr 3;omega;rw[a_ a];obtain⟨k,rfl⟩:∃m,k=m+1:=⟨k-1,by omega⟩
 show(if _ then _ else _)=_;rw[a_ (by simp;omega)];rfl
def Lc{c:bw}(h:ag fX c<=1048576):qd k (c,())=some (qD c,()):=by
 simp only[qd,aO];rw[CD O h,av];unfold qD;cases hc:dS c with
 |false=>rfl
 |true=>
  have hs:=ZK hc;rw[a_ (by simp),OS O (by omega),av,zk O,av];refine bV (λi=>(c,_,(c,(0:Int),(0:Int),eB c.1,V_ i (([],false):bp),([]:List ae),(-1:Int),([]:List ar),(0:Int),([]:List aI),([]:List bE),([]:List ae),([]:List aA),([]:List ay)),(i:Int),())) c.2.2.1.toNat (λG i a=> ?_) (λG=> ?_) k 0 (by omega) (by omega);simp only;rw[an (by simp;omega),an (by simp;omega),aY (by omega),ML];simp only;rw[a_ (by simp;omega)];refine bV (λi=>(c,_,(c,(0:Int),(0:Int),eB c.1,Cs c,([]:List ae),(-1:Int),([]:List ar),(0:Int),([]:List aI),([]:List bE),([]:List ae),V_ i Bi,([]:List ay)),(i:Int),())) 5 (λG i a=> ?_) (λG=> ?_) k 0 (by omega) (by omega);simp only;rw[an (by simp;omega),an (by simp;omega),aY (by omega),ML];rfl;simp only;rw[a_ (by simp)];rfl
end
abbrev bI(w:af):List aA:=w.2.2.2.2.2.2.2.2.2.2.2.2.1
abbrev bS(w:af):List ay:=w.2.2.2.2.2.2.2.2.2.2.2.2.2
def IA(w:af)(t:List aA)(d:List ay):af:=
 (w.1,IntKind.i64.wrap (w.2.1+1),w.2.2.1,w.2.2.2.1,w.2.2.2.2.1,w.2.2.2.2.2.1,w.2.2.2.2.2.2.1,w.2.2.2.2.2.2.2.1,w.2.2.2.2.2.2.2.2.1,w.2.2.2.2.2.2.2.2.2.1,w.2.2.2.2.2.2.2.2.2.2.1,w.2.2.2.2.2.2.2.2.2.2.2.1,t,d)
def vj(t:aA)(h:Int):aA:=(t.1,t.2.1,t.2.2.1,t.2.2.2.1,t.2.2.2.2.1,t.2.2.2.2.2.1,t.2.2.2.2.2.2.1,t.2.2.2.2.2.2.2.1,h)
def opened(w:af)(i op:Int)(a:ae)(l:List ai)(n:Int):ay:=(op,i,a,l,0,n,0,[],w.2.2.1,w.2.1,-1,-1)
def gE(w:af)(i:Int)(t:aA)(op:Int):af:=
 IA w ((bI w).set i.toNat (vj t (bS w).length)) (bS w++[opened w i op t.2.2.1 t.2.2.2.1 t.2.2.2.2.2.2.2.1])
def jJ(w:af)(i:Int):Bool:=bh i 0 (((bI w).length:Int)-1)&&decide (((bI w).getD i.toNat ah.aa).1=0)
def cX(w:af)(i:Int):Bool:=bh i 0 2&&jJ w i
def ya:ae:=([],0,0,ByteArray.empty)
def vk:aA:=(4,0,ya,[],0,[],[],0,0)
def so:aA:=(3,0,ya,[],0,[],[],0,0)
def vr(l:List ai):aA:=(2,0,ya,l,0,[],[],0,0)
def yQ(a:ae):aA:=(1,0,a,[],0,[],[],0,0)
def jo(k:Nat)(w:af)(i:Int):Bool:=bC k w&&cX w i
def aeQ(k:Nat)(w:af)(i:Int):af:=if jo k w i=true then gE w i vk 6 else w
def vF(k:Nat)(w:af)(i:Int):af:=if jo k w i=true then gE w i so 4 else w
def mI(k:Nat)(w:af)(i:Int)(l:List ai):Bool:=jo k w i&&dP l
def lookW(k:Nat)(w:af)(i:Int)(l:List ai):af:=if mI k w i l=true then gE w i (vr l) 3 else w
def refused(w:af)(i:Int)(a:ae):af:=IA w (bI w) (bS w++[(1,i,a,[],0,0,4,[],w.2.2.1,w.2.1,w.2.1,w.2.1)])
def qH{w:af}{i:Int}(h:cX w i=true):0<=i/\i<=2/\i.toNat<(bI w).length:=by
 unfold cX jJ bh at h;simp only[C_,b_]at h;omega
def ahm(k:Nat)(x:af×Int×aA×Unit):Option (af×Unit):=
 auO (eU k (x.1,x.2.1,x.2.2.1,())) λa=>some ((a.1.1,IntKind.i64.wrap (a.1.2.1+(1:Int)),a.1.2.2),())
section
variable{k:Nat}(O:9223372036854775808<=k)
include O
def vO{w:af}(hs:ag aN w<=1048576):(bI w).length<=1048576/\(bS w).length<=1048576:=by
 obtain⟨w1,w2,w3,w4,w5,w6,w7,a,b⟩:=gu O hs;exact⟨r_ (au (e:=ah)) a,r_ (au (e:=aw)) b⟩
def HG{w:af}{i:Int}(hs:ag aN w<=1048576):sT k (w,i,())=some (jJ w i,()):=by
 have hl:w.2.2.2.2.2.2.2.2.2.2.2.2.1.length<=1048576:=(vO O hs).1;simp only[sT];rw[wU (by omega),gB O,av];simp only[jJ,bI];by_cases h:bh i 0 ((w.2.2.2.2.2.2.2.2.2.2.2.2.1.length:Int)-1)=true;have a:=h;unfold bh at a;simp only[C_,b_]at a;rw[h];refine(an (by simp;omega)).trans ?_;simp[cF];rw[F_]at h;rw[h];exact(an rfl).trans rfl
def Iw{w:af}{i:Int}(hs:ag aN w<=1048576):sM k (w,i,())=some (jJ w i,()):=by
 have hl:w.2.2.2.2.2.2.2.2.2.2.2.2.1.length<=1048576:=(vO O hs).1;simp only[sM];rw[wU (by omega),gY O,av];simp only[jJ,bI];by_cases h:bh i 0 ((w.2.2.2.2.2.2.2.2.2.2.2.2.1.length:Int)-1)=true;have a:=h;unfold bh at a;simp only[C_,b_]at a;rw[h];refine(an (by simp;omega)).trans ?_;simp[cF];rw[F_]at h;rw[h];exact(an rfl).trans rfl
def SI{w:af}{i:Int}(hs:ag aN w<=1048576):tN k (w,i,())=some (cX w i,()):=by
 simp only[tN,gY O,Iw O hs,av];unfold cX;cases bh i 0 2<;>simp
def VT{w:af}{d:ay}(hs:ag aN w<=1048576):mC k (w,d,())=
 some (((bS w).length:Int),(w.1,w.2.1,w.2.2.1,w.2.2.2.1,w.2.2.2.2.1,w.2.2.2.2.2.1,w.2.2.2.2.2.2.1,w.2.2.2.2.2.2.2.1,w.2.2.2.2.2.2.2.2.1,w.2.2.2.2.2.2.2.2.2.1,w.2.2.2.2.2.2.2.2.2.2.1,w.2.2.2.2.2.2.2.2.2.2.2.1,bI w,
  bS w++[(d.1,d.2.1,d.2.2.1,d.2.2.2.1,d.2.2.2.2.1,d.2.2.2.2.2.1,d.2.2.2.2.2.2.1,d.2.2.2.2.2.2.2.1,w.2.2.1,w.2.1,-1,-1)]),()):=by
 have hl:w.2.2.2.2.2.2.2.2.2.2.2.2.2.length<=1048576:=(vO O hs).2;simp only[mC];rw[an (by simp;omega)]
 have e:IntKind.i64.wrap ((((bS w++[(d.1,d.2.1,d.2.2.1,d.2.2.2.1,d.2.2.2.2.1,d.2.2.2.2.2.1,d.2.2.2.2.2.2.1,d.2.2.2.2.2.2.2.1,w.2.2.1,w.2.1,-1,-1)]).length:Nat):Int)-1)=((bS w).length:Int):=by
  rw[auU,G5,wU (by simp only[bS];omega)];omega
 rw[e]
def Gg{w:af}{i:Int}{t:aA}{d:ay}(hs:ag aN w<=1048576):jW k (w,i,t,d,())=
 some (if cX w i=true then(true,IA w ((bI w).set i.toNat (vj t (bS w).length)) (bS w++[(d.1,i,d.2.2.1,d.2.2.2.1,d.2.2.2.2.1,d.2.2.2.2.2.1,d.2.2.2.2.2.2.1,d.2.2.2.2.2.2.2.1,w.2.2.1,w.2.1,-1,-1)]),())else(false,w,())):=by
 simp only[jW,SI O hs,av];by_cases hc:cX w i=true;obtain⟨h1,h2,h3⟩:=qH hc;rw[hc,a_ (by simp),an rfl,VT O hs,av];refine(an (by simp;omega)).trans ?_;rfl;rw[F_]at hc;rw[hc];exact(an rfl).trans (by simp)
theorem RA{op:Int}(h0:0<=op)(h1:op<=6):eV k (op,())=some (au1 [0,1,3,4,6,7,8] op.toNat 0,()):=by
 simp only[eV];rw[an (by simp;omega)]
def aaD{w:af}{i:Int}{t:aA}(hs:ag aN w<=1048576)(ht:ag ah t<=1048576)(b:0<=t.1)(d:t.1<=6)(hi:0<=i)(hi2:i.toNat<w.2.2.2.2.2.2.2.2.2.2.2.2.1.length):
 ahm k (w,i,t,())=some (gE w i t (au1 [0,1,3,4,6,7,8] t.1.toNat 0),()):=by
 have hl:w.2.2.2.2.2.2.2.2.2.2.2.2.2.length<=1048576:=(vO O hs).2;have hT:=bq O t;have h2:=au (e:=al) (l:=t.2.2.2.1);simp only[ahm,eU];rw[EM O (by omega),av];simp only[RA O b d,er O (a:=t.2.2.1) (by omega),av,auN,auP,Nat.zero_add,G5];rw[an (by simp;omega),an (by simp;omega),an (by simp;omega),av];rfl
def xP{w:af}{i:Int}{t:aA}(hs:ag aN w<=1048576)(b:ag ah t<=1048576)(d:0<=t.1)(e:t.1<=6)(hi:0<=i)(a:i.toNat<w.2.2.2.2.2.2.2.2.2.2.2.2.1.length):
 eM k (w,i,t,())=some (gE w i t (au1 [0,1,3,4,6,7,8] t.1.toNat 0),()):=aaD O hs b d e hi a
def Y5{w:af}{i:Int}(hs:ag aN w<=1048576):xb k (w,i,())=some (vF k w i,jo k w i,()):=by
 simp only[xb,uN O (w:=w) (by omega),wa O hs,gB O,HG O hs,av];unfold vF jo cX;by_cases a:bC k w=true;rotate_left
 ·rw[F_]at a;simp[a]
 by_cases b:bh i 0 2=true;rotate_left
 ·rw[F_]at b;simp[a,b]
 by_cases d:jJ w i=true;rotate_left
 ·rw[F_]at d;simp[a,b,d]
 obtain⟨q1,q2,q3⟩:=qH (w:=w) (i:=i) (by unfold cX;rw[b,d];rfl);have:=xP O (w:=w) (i:=i) (t:=so) hs (by simp[bq O,so,ya,ag]) (by decide) (by decide) q1 q3;simp only[a,b,d,l5,beq_self_eq_true,if_true,av,cz,if_false,auV];exact(congrArg (λo=>auO o _) this).trans rfl
def Y9{w:af}{i:Int}(hs:ag aN w<=1048576):xk k (w,i,())=some (vF k w i,jo k w i,()):=by
 simp only[xk,sI,zB O (w:=w) (by omega),ko O hs,Gg O hs,av];unfold vF jo;by_cases a:bC k w=true;rotate_left
 ·rw[F_]at a;simp[a]
 by_cases hc:cX w i=true
 ·simp only[a,hc,l5,beq_self_eq_true,if_true,cz,if_false,auV];rfl
 ·rw[F_]at hc;simp[a,hc]
def Xf{w:af}{i:Int}{l:List ai}(hs:ag aN w<=1048576)(f:ag (.sl al) l<=1048576):wV k (w,i,l,())=some (lookW k w i l,mI k w i l,()):=by
 simp only[wV,uN O (w:=w) (by omega),wa O hs,gB O,HG O hs,lS O f,av];unfold lookW mI jo cX;by_cases a:bC k w=true;rotate_left
 ·rw[F_]at a;simp[a]
 by_cases b:bh i 0 2=true;rotate_left
 ·rw[F_]at b;simp[a,b]
 by_cases d:jJ w i=true;rotate_left
 ·rw[F_]at d;simp[a,b,d]
 by_cases e:dP l=true;rotate_left
 ·rw[F_]at e;simp[a,b,d,e]
 obtain⟨q1,q2,q3⟩:=qH (w:=w) (i:=i) (by unfold cX;rw[b,d];rfl);have:=xP O (w:=w) (i:=i) (t:=vr l) hs (by rw[bq O];simp[vr,ya,ag]at f|-;omega) (show(0:Int)<=2 by decide) (show(2:Int)<=6 by decide) q1 q3;simp only[a,b,d,e,l5,beq_self_eq_true,if_true,av,cz,if_false,auV];exact(congrArg (λo=>auO o _) this).trans rfl
def X0{w:af}{i:Int}{l:List ai}(hs:ag aN w<=1048576)(d:ag (.sl al) l<=1048576):xl k (w,i,l,())=some (lookW k w i l,mI k w i l,()):=by
 have h2:=au (e:=al) (l:=l);simp only[xl,sJ,zB O (w:=w) (by omega),ko O hs,Gg O hs,pg O d,rk O (l:=l) (by omega),av];unfold lookW mI jo;by_cases a:bC k w=true;rotate_left
 ·rw[F_]at a;simp[a]
 by_cases b:dP l=true;rotate_left
 ·rw[F_]at b;simp[a,b]
 by_cases hc:cX w i=true
 ·simp only[a,hc,b,l5,beq_self_eq_true,if_true,cz,if_false,auV,av];rfl
 ·rw[F_]at hc;simp[a,hc,b]
def tK{w:af}{d:ay}(hs:ag aN w<=1048576):dC k (w,d,())=some ((w.1,w.2.1,w.2.2.1,w.2.2.2.1,w.2.2.2.2.1,w.2.2.2.2.2.1,w.2.2.2.2.2.2.1,w.2.2.2.2.2.2.2.1,w.2.2.2.2.2.2.2.2.1,w.2.2.2.2.2.2.2.2.2.1,w.2.2.2.2.2.2.2.2.2.2.1,w.2.2.2.2.2.2.2.2.2.2.2.1,bI w,
 bS w++[(d.1,d.2.1,d.2.2.1,d.2.2.2.1,d.2.2.2.2.1,d.2.2.2.2.2.1,d.2.2.2.2.2.2.1,d.2.2.2.2.2.2.2.1,w.2.2.1,w.2.1,w.2.1,w.2.1)]),()):=by
 have hl:w.2.2.2.2.2.2.2.2.2.2.2.2.2.length<=1048576:=(vO O hs).2;simp only[dC];rw[an (by simp;omega)]
def abV{w:af}{t:List aA}{d:List ay}{m n:Nat}(a:ag (.sl ah) t<=ag (.sl ah) (bI w)+m)(b:ag (.sl aw) d<=ag (.sl aw) (bS w)+n):ag aN (IA w t d)<=ag aN w+m+n:=by
 rw[cO O,cO O];simp only[IA];simp only[bI,bS]at a b;omega
end
def yT(k:Nat)(t:aA)(n:Int):Int:=
 if n<1 then-1
 else if¬t.2.1=0 then-1
 else if t.1=1 then eI (dA k t.2.2.1.1) n
 else if t.1=2 then eI (dA k t.2.2.2.1) n
 else if t.1=3\/t.1=4 then t.2.2.2.2.1
 else-1
def Vj{k:Nat}{w:af}(h:bC k w=true):eo k w.2.2.2.1=true/\(w.2.2.2.1.length:Int)=w.1.1/\w.2.2.2.2.2.2.2.2.2.2.2.2.1.length=5/\ix k w=true:=by
 unfold bC ic at h;simp only[C_,b_]at h;obtain⟨_,_,_,_,⟨a,b,_⟩,_,h3,_,_,_,_,d,_⟩:=h;exact⟨a,b,by omega,d⟩
section
variable{k:Nat}(O:9223372036854775808<=k)
include O
def Rw{t:aA}{n:Int}(hs:ag ah t<=1048576):oF k (t,n,())=some (yT k t n,()):=by
 obtain⟨t1,h,t3,t4,i⟩:=oL O hs;simp only[oF,pd,ju O i,ju O h,nV O,av,cF,gC];unfold yT;by_cases a:n<1;simp[a];by_cases b:t.2.1=0;by_cases d:t.1=1;simp[a,b,d];by_cases e:t.1=2;simp[a,b,d,e];by_cases f:t.1=3;simp[a,b,d,e,f];by_cases g:t.1=4<;>simp[a,b,d,e,f,g];simp[a,b]
end
def sr(d:ay)(M ti code:Int):ay:=(d.1,d.2.1,d.2.2.1,d.2.2.2.1,d.2.2.2.2.1,d.2.2.2.2.2.1,code,d.2.2.2.2.2.2.2.1,M,d.2.2.2.2.2.2.2.2.2.1,ti,d.2.2.2.2.2.2.2.2.2.2.2)
def pN(d:ay)(ti:Int):ay:=(d.1,d.2.1,d.2.2.1,d.2.2.2.1,d.2.2.2.2.1,d.2.2.2.2.2.1,d.2.2.2.2.2.2.1,d.2.2.2.2.2.2.2.1,d.2.2.2.2.2.2.2.2.1,d.2.2.2.2.2.2.2.2.2.1,d.2.2.2.2.2.2.2.2.2.2.1,ti)
def dh(d:ay):Int:=d.2.2.2.2.2.2.2.2.2.2.1
def Ez(d:ay)(M ti code:Int):ay:=pN (if dh d= -1 then sr d M ti code else d) ti
def jh(d:ay)(M inv a res:Int):ay:=(d.1,d.2.1,d.2.2.1,d.2.2.2.1,d.2.2.2.2.1,d.2.2.2.2.2.1,d.2.2.2.2.2.2.1,d.2.2.2.2.2.2.2.1,M,inv,a,res)
def EZ(st:List aq)(j:Int):List aq:=if 0<=j then st.set j.toNat (-1,(st.getD j.toNat aj.aa).2)else st
def bn(t:aA):Int:=t.2.2.2.2.2.2.2.2
def aT{α:Type}{l:List α}{n:Nat}(a d:α)(h:n<l.length):(l.set n a).getD n d=a:=by
 rw[auC,List.getElem?_set_self h];rfl
section
variable{k:Nat}(O:9223372036854775808<=k)
include O
variable{c:bw}{ti M gr nn:Int}{st:List aq}{V:List bp}{T U:List ae}{D:List ar}{Q:List aI}{Z:List bE}{A:List aA}{E:List ay}
theorem ah0{i n:Nat}{code:Int}(hi:i<A.length)(a:n<E.length)(b:bn (A.getD i ah.aa)=(n:Int)):
 jM k ((c,ti,M,st,V,T,gr,D,nn,Q,Z,U,A,E),(i:Int),code,())=
  some ((c,ti,M,st,V,T,gr,D,nn,Q,Z,U,A,E.set n (sr (E.getD n aw.aa) M ti code)),()):=by
 unfold bn at b;simp only[jM,aus,b,fu];rw[an (ax hi),an (ax a)];simp only[H',aT _ _ a,J8];rfl
theorem YH{d:ay}(hn:E.length<=1048576):
 dC k ((c,ti,M,st,V,T,gr,D,nn,Q,Z,U,A,E),d,())=
  some ((c,ti,M,st,V,T,gr,D,nn,Q,Z,U,A,E++[jh d M ti ti ti]),()):=by
 simp only[dC];rw[an (c_ (by simp only[G5];omega))];rfl
set_option maxHeartbeats 4000000 in
def XB{i n:Nat}{code:Int}(hi:i<A.length)(f:n<E.length)(m:bn (A.getD i ah.aa)=(n:Int))
 (q:ag ah (A.getD i ah.aa)<=1048576) (o:br k (A.getD i ah.aa) (st.length:Int)<(st.length:Int)):
 jr k ((c,ti,M,st,V,T,gr,D,nn,Q,Z,U,A,E),(i:Int),code,())=
  some ((c,ti,M,EZ st (br k (A.getD i ah.aa) (st.length:Int)),V,T,if cW (A.getD i ah.aa)=true then-1 else gr,D,nn,Q,Z,U,A.set i zT,
   E.set n (Ez (E.getD n aw.aa) M ti code)),()):=by
 have p:=m;unfold bn at m;simp only[jr,aus,m,fu,aO];rw[an (ax hi),an (ax f)];have h:((0,0,(([]:List ai),0,0,ByteArray.empty),([]:List ai),0,([]:List Int),([]:List ae),0,0):aA)=zT:=rfl;unfold Ez dh;obtain⟨b,g⟩:∃b,cW (A.getD i ah.aa)=b:=⟨_,rfl⟩
 obtain⟨j,e⟩:∃j,br k (A.getD i ah.aa) (st.length:Int)=j:=⟨_,rfl⟩
 rw[e]at o;rw[g];by_cases l:(E.getD n aw.aa).2.2.2.2.2.2.2.2.2.2.1= -1;rw[an (by rw[beq_iff_eq];exact l),ah0 O hi f p,av,an l];dsimp only;rw[J8,an (ax f),an (ax hi),sH O q,av];simp only[aT _ _ f,H'];simp only[e];by_cases a:0<=j;have d:EZ st j=st.set j.toNat (-1,(st.getD j.toNat aj.aa).2):=an a;rw[an (c_ a),an (c_ ⟨a,o⟩)];rw[an (ax hi),jf O,av,d,g];cases b<;>simp only[ax hi,if_true,cz,if_false,h,pN,sr];have d:EZ st j=st:=a_ a;rw[a_ (by simpa using a)];rw[an (ax hi),jf O,av,d,g];cases b<;>simp only[ax hi,if_true,cz,if_false,h,pN,sr];rw[a_ (by rw[beq_iff_eq];exact l),a_ l,an (ax f)];rw[an (ax hi),sH O q,av];dsimp only;simp only[e];by_cases a:0<=j;have d:EZ st j=st.set j.toNat (-1,(st.getD j.toNat aj.aa).2):=an a;rw[an (c_ a),an (c_ ⟨a,o⟩)];rw[an (ax hi),jf O,av,d,g];cases b<;>simp only[ax hi,if_true,cz,if_false,h,pN,sr];have d:EZ st j=st:=a_ a;rw[a_ (by simpa using a)];rw[an (ax hi),jf O,av,d,g];cases b<;>simp only[ax hi,if_true,cz,if_false,h,pN,sr]
theorem AS{i:Nat}(hi:i<A.length):
 nH k ((c,ti,M,st,V,T,gr,D,nn,Q,Z,U,A,E),(i:Int),())=
  if gr= -1 then some (true,(c,ti,M,st,V,T,(i:Int),D,nn,Q,Z,U,A.set i ((A.getD i ah.aa).1,1,(A.getD i ah.aa).2.2),E),())
  else some (false,(c,ti,M,st,V,T,gr,D,nn,Q,Z,U,A,E),()):=by
 simp only[nH,aus,gC];by_cases h:gr= -1;rw[a_ (by simpa using h),an (ax hi),an h];rw[an (by simpa using h),a_ h]
theorem u7{i j:Nat}(hi:i<A.length)(a:j<st.length):
 lj k ((c,ti,M,st,V,T,gr,D,nn,Q,Z,U,A,E),(i:Int),(j:Int),())=
  if(st.getD j aj.aa).1= -1 then some (true,(c,ti,M,st.set j ((i:Int),(st.getD j aj.aa).2),V,T,gr,D,nn,Q,Z,U,A.set i ((A.getD i ah.aa).1,1,(A.getD i ah.aa).2.2),E),())
  else some (false,(c,ti,M,st,V,T,gr,D,nn,Q,Z,U,A,E),()):=by
 simp only[lj,aus,gC];rw[an (ax a)];by_cases h:(st.getD j aj.aa).1= -1;rw[a_ (by simpa using h),an (ax a),an (ax hi),an h];rw[an (by simpa using h),a_ h]
theorem adL{i j:Nat}(hi:i<A.length)(a:j<st.length)(b:(A.getD i ah.aa).2.2.2.2.1=(j:Int))(hs:st.length<=1048576):
 lL k ((c,ti,M,st,V,T,gr,D,nn,Q,Z,U,A,E),(i:Int),())=
  some ((c,ti,M,st.set j (-1,(st.getD j aj.aa).2),V,T,gr,D,nn,Q,Z,U,
   A.set i ((A.getD i ah.aa).1,0,(A.getD i ah.aa).2.2.1,(A.getD i ah.aa).2.2.2.1,((j+1:Nat):Int),(A.getD i ah.aa).2.2.2.2.2),E),()):=by
 simp only[lL,aus,b,fu];rw[an (ax hi),an (ax a),aY (by omega)];simp only[H',aT _ _ hi]
end
def ER(d:ay)(M ti code:Int)(got:List ae):ay:=(d.1,d.2.1,d.2.2.1,d.2.2.2.1,d.2.2.2.2.1,d.2.2.2.2.2.1,code,got,M,d.2.2.2.2.2.2.2.2.2.1,ti,d.2.2.2.2.2.2.2.2.2.2.2)
def oQ(d:ay)(M ti code:Int)(got:List ae):ay:=pN (if dh d= -1 then ER d M ti code got else d) ti
section
variable{k:Nat}(O:9223372036854775808<=k)
include O
variable{c:bw}{ti M gr nn:Int}{st:List aq}{V:List bp}{T U:List ae}{D:List ar}{Q:List aI}{Z:List bE}{A:List aA}{E:List ay}
set_option maxHeartbeats 4000000 in
def iy{i n:Nat}{code:Int}{got:List ae}(hi:i<A.length)(a:n<E.length)(d:bn (A.getD i ah.aa)=(n:Int))
 (f:ag (.sl ab) got<=1073741824):
 du k ((c,ti,M,st,V,T,gr,D,nn,Q,Z,U,A,E),(i:Int),code,got,())=
  some ((c,ti,M,st,V,T,gr,D,nn,Q,Z,U,A.set i zT,E.set n (oQ (E.getD n aw.aa) M ti code got)),()):=by
 unfold bn at d;simp only[du,aus,d,fu,aO];rw[an (ax hi),an (ax a)];have e:((0,0,(([]:List ai),0,0,ByteArray.empty),([]:List ai),0,([]:List Int),([]:List ae),0,0):aA)=zT:=rfl;unfold oQ dh;by_cases b:(E.getD n aw.aa).2.2.2.2.2.2.2.2.2.2.1= -1;rw[an (by rw[beq_iff_eq];exact b),iL O f,av,an b];simp only[aT _ _ a,H',J8,ax hi,ax a,if_true,e,pN,ER];rw[a_ (by rw[beq_iff_eq];exact b),a_ b];simp only[aT _ _ a,H',J8,ax hi,ax a,if_true,e,pN,ER]
def zh{i:Nat}{t:aA}{o:Int}(hi:i<A.length)(hn:E.length<=1048576)(ht:ag ah t<=1048576)(a:eV k (t.1,())=some (o,()))(hA:ag ab t.2.2.1<=1048576)(hL:t.2.2.2.1.length<=1048576):
 eU k ((c,ti,M,st,V,T,gr,D,nn,Q,Z,U,A,E),(i:Int),t,())=
  some ((c,ti,M,st,V,T,gr,D,nn,Q,Z,U,A.set i (t.1,t.2.1,t.2.2.1,t.2.2.2.1,t.2.2.2.2.1,t.2.2.2.2.2.1,t.2.2.2.2.2.2.1,t.2.2.2.2.2.2.2.1,(E.length:Int)),
   E++[(o,(i:Int),t.2.2.1,t.2.2.2.1,0,t.2.2.2.2.2.2.2.1,0,[],M,ti,-1,-1)]),()):=by
 simp only[eU,EM O (show ag ah t<=1073741824 by omega),av,a,er O (show ag ab t.2.2.1<=1073741824 by omega),aus];rw[an (ax hi),an (c_ (by simp only[auP];omega)),an (c_ (by simp only[G5];omega))];rfl
def aax{i j:Nat}(hi:i<A.length)(a:j<st.length)(b:ag ah (A.getD i ah.aa)<=1048576)(d:yT k (A.getD i ah.aa) (st.length:Int)=(j:Int)):
 kE k ((c,ti,M,st,V,T,gr,D,nn,Q,Z,U,A,E),(i:Int),())=
  if(st.getD j aj.aa).1= -1 then some (true,(c,ti,M,st.set j ((i:Int),(st.getD j aj.aa).2),V,T,gr,D,nn,Q,Z,U,A.set i ((A.getD i ah.aa).1,1,(A.getD i ah.aa).2.2),E),())
  else some (false,(c,ti,M,st,V,T,gr,D,nn,Q,Z,U,A,E),()):=by
 simp only[kE,aus,gC,Rw O b,av,d];rw[an (ax hi),an (ax a)];by_cases h:(st.getD j aj.aa).1= -1;rw[a_ (by simpa using h),an (ax a),an (ax hi),an h];rw[an (by simpa using h),a_ h]
end
def eC(s x:Bool)(d:ay)(M ti code:Int)(got:List ae):ay:=if(s||x)=true then oQ d M ti code got else Ez d M ti code
def yG(k:Nat)(c:bw)(st:List aq)(a:ae):Bool:= !(bQ k st a.1).2&&decide (c.2.1<=(bL st:Int))
def cG(st:List aq)(j:Nat)(x:Int):List aq:=st.set j (x,(st.getD j aj.aa).2)
def tick(ti:Int):Int:=IntKind.i64.wrap (ti+1)
def vq(i:Int)(a:ae):ay:=(2,i,a,[],0,0,8,[],0,0,0,0)
def ey(w:af)(i j:Nat):Bool×af:=
 match w with
 |(c,ti,M,st,V,T,gr,D,nn,Q,Z,U,A,E)=>
  if(st.getD j aj.aa).1= -1 then(true,(c,ti,M,cG st j i,V,T,gr,D,nn,Q,Z,U,A.set i ((A.getD i ah.aa).1,1,(A.getD i ah.aa).2.2),E))else(false,w)
def bX(r:Bool×af):Bool×af:=if r.1=true then(true,(r.2.1,tick r.2.2.1,r.2.2.2))else r
def wP(s:Bool)(k:Nat)(w:af)(i:Nat):Bool×af:=
 match w with
 |(c,ti,M,st,V,T,gr,D,nn,Q,Z,U,A,E)=>
  let t:=A.getD i ah.aa
  let n:=(bn t).toNat
  let j:=(bO k st t.2.2.1.1).toNat
  let d:=E.getD n aw.aa
  if t.2.1=0 then ey w i j
  else if t.2.1=1 then
   if yG k c st t.2.2.1=true then(true,(c,ti,M,cG st j (-1),V,T,gr,D,nn,Q,Z,U,A.set i zT,E.set n (eC s false d M ti 3 [])))
   else(true,(c,ti,M,(fk k st t.2.2.1).1,V,T,gr,D,nn,Q,Z,U,A.set i (t.1,2,(bQ k (fk k st t.2.2.1).1 t.2.2.1.1).1,t.2.2.2),E.set n (sr d M ti (if(fk k st t.2.2.1).2=true then 1 else 2))))
  else(true,(c,ti,M,cG st j (-1),V.map (ve t.2.2.1),T++[t.2.2.1],gr,D,nn,Q,Z,U++[t.2.2.1],A.set i zT,(E++[jh (vq i t.2.2.1) M ti ti ti]).set n (pN d ti)))
def kI(s:Bool)(k:Nat)(w:af)(i:Nat):Bool×af:=bX (wP s k w i)
def Ax{α:Type}{l:List α}{n:Nat}(x d:α)(h:n<l.length):(l++[x]).getD n d=l.getD n d:=by
 rw[auC,auC,List.getElem?_append_left h]
def acW{α:Type}{b:Bool}{a cap:Int}{X Y:Option α}:(auO (if((!b)==true)=true then some (a,())else some (0,())) λ(r:Int×Unit)=>if(if(!b)=true then decide (r.1>=cap)else false)=true then X else Y)=
 if(!b&&decide (cap<=a))=true then X else Y:=by cases b<;>simp
def T3(st:List aq)(j:Nat):EZ st (j:Int)=cG st j (-1):=by
 unfold EZ cG;rw[an (by omega),aus]
section
variable{k:Nat}(O:9223372036854775808<=k)
include O
variable{c:bw}{ti M gr nn:Int}{st:List aq}{V:List bp}{T U:List ae}{D:List ar}{Q:List aI}{Z:List bE}{A:List aA}{E:List ay}
def iX(hs:ag aN (c,ti,M,st,V,T,gr,D,nn,Q,Z,U,A,E)<=1048576):
 ag fX c+ag (.sl aj) st+ag (.sl bj) V+ag (.sl ab) T+ag (.sl ak) D+ag (.sl aL) Q+ag (.sl cJ) Z+ag (.sl ab) U+ag (.sl ah) A+ag (.sl aw) E<=1048576:=by
 rw[cO O]at hs;exact hs
theorem Y4{l:List aq}{s:List ai}(h:l.length≠0):∃j:Nat,j<l.length/\bO k l s=(j:Int):=by
 obtain⟨h0,h1,a⟩:=qW (k:=k) (l:=l) (s:=s) h;exact⟨(bO k l s).toNat,a,by omega⟩
def uU{i j:Nat}{t:aA}(hi:i<A.length)(a:A.getD i ah.aa=t)(b:ag (.sl al) t.2.2.1.1<=1048576)(d:bO k st t.2.2.1.1=(j:Int)):
 lr k ((c,ti,M,st,V,T,gr,D,nn,Q,Z,U,A,E),(i:Int),())=some ((j:Int),()):=by
 simp only[lr,aus,a];rw[an (ax hi),rF O b,av,d]
set_option maxHeartbeats 4000000 in
def JO{i n j:Nat}{t:aA}{d:ay}(hs:ag aN (c,ti,M,st,V,T,gr,D,nn,Q,Z,U,A,E)<=1048576)(hi:i<A.length)(b:A.getD i ah.aa=t)(q:t.1=1)
 (s:j<st.length) (r:bO k st t.2.2.1.1=(j:Int)) (g:n<E.length) (m:bn t=(n:Int)) (h:E.getD n aw.aa=d) (o:t.2.1=1):
 oN k ((c,ti,M,st,V,T,gr,D,nn,Q,Z,U,A,E),(i:Int),())=
  some ((wP true k (c,ti,M,st,V,T,gr,D,nn,Q,Z,U,A,E) i).2,()):=by
 have hsum:=iX O hs;have p:=dQ (e:=ah) (d:=ah.aa) hi;rw[b]at p;have hdl:=au (e:=aw) (l:=E);have hta:=bq O t;have htA:=bG O t.2.2.1;have f:=m;unfold bn at f;simp only[oN,aus,b,f,aO,fu];rw[an (ax hi),uU O hi b (by omega) r,av,kD O (by omega) (by omega),av,Po O (by omega),acW];unfold wP;simp only[b,m,h,r,aus,o,yG];rw[a_ (show¬(1:Int)=0 by decide)];cases hb:(!(bQ k st t.2.2.1.1).2&&decide (c.2.1<=(bL st:Int)))with
 |true=>
  rw[an rfl,an rfl,an (ax s),iy O hi g (by rw[b];exact m) (by simp[ag]),av,h];rfl
 |false=>
  have hpt:=UJ O (l:=st) (a:=t.2.2.1);rw[a_ auK,a_ auK,y5 O (by omega) (by omega),av,an (ax g)];cases hf:(fk k st t.2.2.1).2 with
  |true=>
   rw[an rfl];dsimp only;rw[kD O (by omega) (by omega),av,an (ax hi),J8,an (ax hi)];simp only[H',aT _ _ hi,aT _ _ g,aus,b,h,q];rfl
  |false=>
   rw[a_ auK];dsimp only;rw[kD O (by omega) (by omega),av,an (ax hi),J8,an (ax hi)];simp only[H',aT _ _ hi,aT _ _ g,aus,b,h,q];rfl
set_option maxHeartbeats 4000000 in
def Np{i n j:Nat}{t:aA}{d:ay}(hs:ag aN (c,ti,M,st,V,T,gr,D,nn,Q,Z,U,A,E)<=1048576)(hi:i<A.length)(a:A.getD i ah.aa=t)(o:t.1=1)
 (g:j<st.length) (f:bO k st t.2.2.1.1=(j:Int)) (s:n<E.length) (h:bn t=(n:Int)) (m:E.getD n aw.aa=d) (p:t.2.1=0\/t.2.1=1\/t.2.1=2)
 (u:t.2.1=2->dh d≠-1):
 su k ((c,ti,M,st,V,T,gr,D,nn,Q,Z,U,A,E),(i:Int),())=
  some ((kI true k (c,ti,M,st,V,T,gr,D,nn,Q,Z,U,A,E) i).1,(kI true k (c,ti,M,st,V,T,gr,D,nn,Q,Z,U,A,E) i).2,()):=by
 have hsum:=iX O hs;have q:=dQ (e:=ah) (d:=ah.aa) hi;rw[a]at q;have hdl:=au (e:=aw) (l:=E);have hfl:=au (e:=ab) (l:=T);have hsl:=au (e:=ab) (l:=U);have htl:=au (e:=ah) (l:=A);have hta:=bq O t;have htA:=bG O t.2.2.1;simp only[su,aus,a,o,aO,fu,cF,gC];rw[an (ax hi)];unfold kI;rcases p with b|b|b;rw[b,an (by decide),uU O hi a (by omega) f,av];dsimp only;rw[an (ax g),an (ax g),an (ax hi)];unfold wP ey bX;simp only[a,h,m,f,aus,b,o];split<;>simp_all[tick,cG];rw[b,a_ (by decide),an (by decide),JO O hs hi a o g f s h m b,av]
 have v:(wP true k (c,ti,M,st,V,T,gr,D,nn,Q,Z,U,A,E) i).1=true:=by
  unfold wP;simp only[a,b];rw[a_ (by decide)];simp only[if_true];split<;>rfl
 unfold bX;rw[v];rfl;rw[b,a_ (by decide),a_ (by decide)];have r:bY k (t.2.2.1,())=some (t.2.2.1,()):=er O (by omega);simp only[wJ,aus,a,r,av]
 rw[an (ax hi),uU O hi a (by omega) f,av,an (c_ (by simp only[G5];omega)),an (c_ (by simp only[G5];omega)),
  Oo O (by omega) (by omega),av,YH O (by omega),av]
 dsimp only;rw[an (ax g),iy (n:=n) O hi (by rw[auU,G5];omega) (by rw[a];exact h) (by simp[ag]),av,av,Ax _ _ s,m];unfold oQ wP;simp only[a,h,m,f,aus,b];rw[a_ (u b)];rfl
end
def lu(s:Bool)(k:Nat)(w:af)(i:Nat):Bool×af:=
 match w with
 |(c,ti,M,st,V,T,gr,D,nn,Q,Z,U,A,E)=>
  let t:=A.getD i ah.aa
  let n:=(bn t).toNat
  let j:=(bO k st t.2.2.2.1).toNat
  let d:=E.getD n aw.aa
  if t.2.1=0 then ey w i j
  else if(bQ k st t.2.2.2.1).2=true then(true,(c,ti,M,cG st j (-1),V,T,gr,D,nn,Q,Z,U,A.set i zT,E.set n (eC s true d M ti 5 [(bQ k st t.2.2.2.1).1])))
  else(true,(c,ti,M,cG st j (-1),V,T,gr,D,nn,Q,Z,U,A.set i zT,E.set n (eC s false d M ti 6 [])))
def acx(d:ay)(got:List ae):ay:=(d.1,d.2.1,d.2.2.1,d.2.2.2.1,d.2.2.2.2.1,d.2.2.2.2.2.1,d.2.2.2.2.2.2.1,got,d.2.2.2.2.2.2.2.2)
def WY{d:ay}{M ti code:Int}{got:List ae}(h:dh d= -1):Ez (acx d got) M ti code=oQ d M ti code got:=by
 have a:dh (acx d got)= -1:=h;unfold Ez oQ;rw[an h,an a];rfl
section
variable{k:Nat}(O:9223372036854775808<=k)
include O
variable{c:bw}{ti M gr nn:Int}{st:List aq}{V:List bp}{T U:List ae}{D:List ar}{Q:List aI}{Z:List bE}{A:List aA}{E:List ay}
def acS{l:List aq}{s:List ai}:ag ab (bQ k l s).1<=ag (.sl aj) l:=by
 have a:ag ab c9=0:=by rw[bG O];rfl
 unfold bQ;split;rw[a];omega;rename_i b;obtain⟨_,_,c⟩:=qW (k:=k) (l:=l) (s:=s) b;have f:=dQ (e:=aj) (d:=aj.aa) c;generalize l.getD (bO k l s).toNat aj.aa=p at f|-;have h3:=cM O p;unfold iv;cases hc:iS p (dA k s)with
 |none=>dsimp only;rw[a];omega
 |some i=>
  obtain⟨h,_,_⟩:=bl.1 hc;have h4:=dQ (e:=az) (d:=az.aa) h;have h5:=dj O (p.2.2.getD i az.aa);dsimp only;cases g:jd (p.2.2.getD i az.aa).2 s with
  |none=>dsimp only;rw[a];omega
  |some j=>
   obtain⟨m,_,_⟩:=bl.1 g;have h6:=dQ (e:=ab) (d:=ab.aa) m;dsimp only;omega
set_option maxHeartbeats 4000000 in
def Qa{i n j:Nat}{t:aA}{d:ay}(hs:ag aN (c,ti,M,st,V,T,gr,D,nn,Q,Z,U,A,E)<=1048576)(hi:i<A.length)(b:A.getD i ah.aa=t)(m:t.1=2)
 (x:j<st.length) (q:bO k st t.2.2.2.1=(j:Int)) (o:n<E.length) (p:bn t=(n:Int)) (v:E.getD n aw.aa=d) (r:t.2.1=0\/t.2.1=1)
 (y:dh d= -1):
 kJ k ((c,ti,M,st,V,T,gr,D,nn,Q,Z,U,A,E),(i:Int),())=
  some ((lu false k (c,ti,M,st,V,T,gr,D,nn,Q,Z,U,A,E) i).1,(lu false k (c,ti,M,st,V,T,gr,D,nn,Q,Z,U,A,E) i).2,()):=by
 have hsum:=iX O hs;have s:=dQ (e:=ah) (d:=ah.aa) hi;rw[b]at s;have hdl:=au (e:=aw) (l:=E);have u:ag ah t<=1048576:=by omega
 have hta:=bq O t;have f:cW t=false:=by unfold cW;rw[m];rfl
 have g:=p;unfold bn at g;simp only[kJ,aus,b,g,fu,cF];rw[an (ax hi)];unfold lu;simp only[b,p,v,q,aus];rcases r with h|h
 have z:yT k (A.getD i ah.aa) (st.length:Int)=(j:Int):=by
  rw[b];unfold yT;rw[a_ (by omega),a_ (by simp[h]),a_ (by omega),an m];exact q
 rw[h,an (by decide),aax O hi x (by rw[b];exact u) z,an rfl];unfold ey;simp only[b,m];split<;>simp[cG]
 have a:br k t (st.length:Int)=(j:Int):=by
  unfold br;rw[a_ (by omega),a_ (by omega),an ⟨m,h⟩];exact q
 rw[h,a_ (by decide),a_ (by decide),sK O (by omega) (by omega),av];cases hb:(bQ k st t.2.2.2.1).2 with
 |true=>
  rw[an rfl,an rfl,an (ax o),XB (n:=n) O hi (by rw[J8];exact o) (by rw[b];exact p) (by rw[b];exact u) (by rw[b,a];omega),av,b,a,T3,f,aT _ _ o,H'];have w:=WY (M:=M) (ti:=ti) (code:=5) (got:=[(bQ k st t.2.2.2.1).1]) y;unfold acx at w;rw[w];rfl
 |false=>
  rw[a_ auK,a_ auK,XB O hi o (by rw[b];exact p) (by rw[b];exact u) (by rw[b,a];omega),av,b,a,T3,f,v];rfl
set_option maxHeartbeats 4000000 in
def QI{i n j:Nat}{t:aA}{d:ay}(hs:ag aN (c,ti,M,st,V,T,gr,D,nn,Q,Z,U,A,E)<=1048576)(hi:i<A.length)(a:A.getD i ah.aa=t)(r:t.1=2)
 (o:j<st.length) (p:bO k st t.2.2.2.1=(j:Int)) (q:n<E.length) (b:bn t=(n:Int)) (f:E.getD n aw.aa=d) (g:t.2.1=0\/t.2.1=1):
 tj k ((c,ti,M,st,V,T,gr,D,nn,Q,Z,U,A,E),(i:Int),())=
  some ((lu true k (c,ti,M,st,V,T,gr,D,nn,Q,Z,U,A,E) i).1,(lu true k (c,ti,M,st,V,T,gr,D,nn,Q,Z,U,A,E) i).2,()):=by
 have hsum:=iX O hs;have h:=dQ (e:=ah) (d:=ah.aa) hi;rw[a]at h;have hta:=bq O t;have hfa:=acS O (l:=st) (s:=t.2.2.2.1);simp only[tj,aus,a,cF];rw[an (ax hi),rF O (by omega),av,p];unfold lu;simp only[a,b,f,p,aus];rcases g with m|m;rw[m,an (by decide),u7 O hi o,an rfl];unfold ey;simp only[a,r];split<;>simp[cG];rw[m,a_ (by decide),a_ (by decide),kD O (by omega) (by omega),av,an (ax o)];cases hb:(bQ k st t.2.2.2.1).2 with
 |true=>
  have u:ag (.sl ab) [(bQ k st t.2.2.2.1).1]<=1073741824:=by
   rw[ck (e:=ab),bf (e:=ab)];omega
  rw[an rfl,an rfl,iy O hi q (by rw[a];exact b) u,av,f];rfl
 |false=>
  rw[a_ auK,a_ auK,iy O hi q (by rw[a];exact b) (by simp[ag]),av,f];rfl
end
def nc(st:List aq)(t:aA)(j:Nat):aA:=
 (t.1,if j+1=st.length then 2 else 0,t.2.2.1,t.2.2.2.1,((j+1:Nat):Int),t.2.2.2.2.2.1++[(st.getD j aj.aa).2.1],t.2.2.2.2.2.2.1++bd (st.getD j aj.aa),t.2.2.2.2.2.2.2)
def sN(n:Int):aA:=(3,0,c9,[],0,[],[],0,n)
def fZ(s:Bool)(k:Nat)(w:af)(i:Nat):Bool×af:=
 match w with
 |(c,ti,M,st,V,T,gr,D,nn,Q,Z,U,A,E)=>
  let t:=A.getD i ah.aa
  let n:=(bn t).toNat
  let j:=t.2.2.2.2.1.toNat
  let d:=E.getD n aw.aa
  if t.2.1=0 then ey w i j
  else if t.2.1=1 then(true,(c,ti,M,cG st j (-1),V,T,gr,D,nn,Q,Z,U,A.set i (nc st t j),E))
  else if gF st t.2.2.2.2.2.1=true then(true,(c,ti,M,st,V,T,gr,D,nn,Q,Z,U,A.set i zT,E.set n (eC s true d M ti 8 (dp t.2.2.2.2.2.2.1))))
  else(true,(c,ti,M,st,V,T,gr,D,nn,Q,Z,U,A.set i (sN n),E))
section
variable{k:Nat}(O:9223372036854775808<=k)
include O
variable{c:bw}{ti M gr nn:Int}{st:List aq}{V:List bp}{T U:List ae}{D:List ar}{Q:List aI}{Z:List bE}{A:List aA}{E:List ay}
theorem JT{w:af}{t:aA}(h:t.2.2.2.2.2.1.length<=w.2.2.2.1.length)(hl:t.2.2.2.2.2.1.length<=1048576):jH k (w,t,())=some (gF w.2.2.2.1 t.2.2.2.2.2.1,()):=by
 simp only[jH];unfold gF
 refine(dI (λi:Nat=>(w,t,t.2.2.2.2.2.1,((t.2.2.2.2.2.1.length:Nat):Int),(i:Int),())) (λi=>decide (t.2.2.2.2.2.1.getD i 0=(w.2.2.2.1.getD i aj.aa).2.1)) t.2.2.2.2.2.1.length
  (e:=some (true,())) (no:=some (false,())) ?_ ?_ k 0 (by omega) (by omega)).trans ?_
 intro G i a;dsimp only;rw[aG,c_ a,an rfl,an (ax a),an (ax (by omega)),aus,aY (by omega),gC];by_cases e:t.2.2.2.2.2.1.getD i 0=(w.2.2.2.1.getD i aj.aa).2.1;rw[c_ e,c_ e.symm];rfl;rw[decide_eq_false e,decide_eq_false (λh=>e h.symm)];rfl;intro G;simp only[aG,g',decide_false,cz,if_false];cases bF 0 t.2.2.2.2.2.1.length (λi=>decide (t.2.2.2.2.2.1.getD i 0=(w.2.2.2.1.getD i aj.aa).2.1))<;>rfl
def LZ{l:List ae}(h:ag (.sl ab) l<=1048576):iI k (l,())=some (dp l,()):=by
 have d:=au (e:=ab) (l:=l);simp only[iI,YY,uJ];rw[an ?_];simp only[C_,b_,List.all_eq_true];refine⟨by omega,λa b=> ?_⟩;have hm:=df (e:=ab) b;have h1:=bG O a;have d:=au (e:=al) (l:=a.1);omega
set_option maxHeartbeats 8000000 in
def KN{i n j:Nat}{t:aA}{d:ay}(hs:ag aN (c,ti,M,st,V,T,gr,D,nn,Q,Z,U,A,E)<=1048576)(hi:i<A.length)(b:A.getD i ah.aa=t)(o:t.1=3)
 (m:t.2.2.2.2.1=(j:Int)) (g:t.2.1≠2->j<st.length) (p:t.2.1=2->t.2.2.2.2.2.1.length=st.length) (q:n<E.length) (r:bn t=(n:Int)) (w:E.getD n aw.aa=d) (s:t.2.1=0\/t.2.1=1\/t.2.1=2)
 (F:dh d= -1) (x:t.2.2.1=c9) (y:t.2.2.2.1=[]) (z:t.2.2.2.2.2.2.2.1=0):
 fY k ((c,ti,M,st,V,T,gr,D,nn,Q,Z,U,A,E),(i:Int),())=
  some ((fZ false k (c,ti,M,st,V,T,gr,D,nn,Q,Z,U,A,E) i).1,(fZ false k (c,ti,M,st,V,T,gr,D,nn,Q,Z,U,A,E) i).2,()):=by
 have hsum:=iX O hs;have u:=dQ (e:=ah) (d:=ah.aa) hi;rw[b]at u;have hdl:=au (e:=aw) (l:=E);have hstl:=au (e:=aj) (l:=st);have B:ag ah t<=1048576:=by omega
 have hta:=bq O t;have hsl:=au (e:= .int .i64) (l:=t.2.2.2.2.2.1);have hgl:=au (e:=ab) (l:=t.2.2.2.2.2.2.1);have v:cW t=false:=by unfold cW;rw[o];rfl
 have a:=r;unfold bn at a;unfold fZ;simp only[b,r,w,m,aus];rcases s with h|h|h;simp only[fY,aus,b,a,m,fu,cF];rw[an (ax hi)]
 have G:yT k (A.getD i ah.aa) (st.length:Int)=(j:Int):=by
  have:=g (by omega);rw[b];unfold yT;rw[a_ (by omega),a_ (by simp[h]),a_ (by omega),a_ (by omega),an (by omega)];exact m
 rw[h,an (by decide),aax O hi (g (by omega)) (by rw[b];exact B) G,an rfl];unfold ey;simp only[b,o];split<;>simp[cG];have g:=g (by omega);have hpj:=dQ (e:=aj) (d:=aj.aa) g;have hai:=jS O (st.getD j aj.aa);have hal:=au (e:=ab) (l:=bd (st.getD j aj.aa));simp only[fY,aus,b,a,m,fu,cF,H',aT _ _ hi]
 rw[an (ax hi),h,a_ (by decide),an (by decide),an (ax g),an (c_ (by simp only[G5];omega)),an (by simp),tY O (by omega),av,
  an (c_ (by dsimp only;omega)),an (by simp),adL (j:=j) O (by rw[J8];exact hi) g (by rw[aT _ _ hi]) (by omega),av]
 simp only[H',aT _ _ hi,J8];unfold nc;by_cases e:j+1=st.length;rw[an (c_ (by omega)),a_ (show¬(1:Int)=0 by decide),an e];rfl;rw[a_ (by simp;omega),a_ (show¬(1:Int)=0 by decide),a_ e];rfl;simp only[fY,aus,b,a,m,fu,cF,H',aT _ _ hi];rw[an (ax hi),h,a_ (by decide),a_ (by decide),a_ (by decide),a_ (by decide),JT O (by have:=p h;dsimp only;omega) (by omega),av];dsimp only;cases hb:gF st t.2.2.2.2.2.1 with
 |true=>
  have f:br k t (st.length:Int)= -1:=by
   unfold br;split;rfl;rw[a_ (by omega),a_ (by omega),a_ (by omega)]
  rw[a_ (by simp),an rfl,gq O (by omega),av,LZ O (by dsimp only;omega),av,an (ax q)];rw[XB (n:=n) O hi (by rw[J8];exact q) (by rw[b];exact r) (by rw[b];exact B) (by rw[b,f];omega),av,b,f,v,aT _ _ q,H'];have C:=WY (M:=M) (ti:=ti) (code:=8) (got:=dp t.2.2.2.2.2.2.1) F;unfold acx at C;rw[w,C];rfl
 |false=>
  rw[an (by rfl),a_ (by simp)];obtain⟨t1,t2,t3,t4,t5,t6,t7,t8,t9⟩:=t;dsimp only at x y z o a;subst x y z o a;rfl
end
def vK(s:Bool)(k:Nat)(w:af)(i:Nat):Bool×af:=
 match w with
 |(c,ti,M,st,V,T,gr,D,nn,Q,Z,U,A,E)=>
  if(A.getD i ah.aa).1=2 then lu s k w i else fZ s k w i
def eu(s:Bool)(k:Nat)(w:af)(i:Nat):Bool×af:=bX (vK s k w i)
def Hb{r:Bool×af}:(if r.1=true then some (r.1,(r.2.1,IntKind.i64.wrap (r.2.2.1+1),r.2.2.2),())else some (r.1,r.2,()))=some ((bX r).1,(bX r).2,()):=by
 obtain⟨b,w⟩:=r;cases b<;>rfl
section
variable{k:Nat}(O:9223372036854775808<=k)
include O
variable{c:bw}{ti M gr nn:Int}{st:List aq}{V:List bp}{T U:List ae}{D:List ar}{Q:List aI}{Z:List bE}{A:List aA}{E:List ay}
set_option maxHeartbeats 8000000 in
def OD{i j:Nat}{t:aA}(hs:ag aN (c,ti,M,st,V,T,gr,D,nn,Q,Z,U,A,E)<=1048576)(hi:i<A.length)(f:A.getD i ah.aa=t)
 (g:t.2.2.2.2.1=(j:Int)) (a:j<st.length):
 rY k ((c,ti,M,st,V,T,gr,D,nn,Q,Z,U,A,E),(i:Int),())=some ((c,ti,M,cG st j (-1),V,T,gr,D,nn,Q,Z,U,A.set i (nc st t j),E),()):=by
 have hsum:=iX O hs;have b:=dQ (e:=ah) (d:=ah.aa) hi;rw[f]at b;have hstl:=au (e:=aj) (l:=st);have hta:=bq O t;have hsl:=au (e:= .int .i64) (l:=t.2.2.2.2.2.1);have hgl:=au (e:=ab) (l:=t.2.2.2.2.2.2.1);have hpj:=dQ (e:=aj) (d:=aj.aa) a;have hai:=jS O (st.getD j aj.aa);have hal:=au (e:=ab) (l:=bd (st.getD j aj.aa));simp only[rY,aus,f,g,fu,cF,H',aT _ _ hi]
 rw[an (ax hi),an (ax a),an (c_ (by simp only[G5];omega)),an (by simp),an (ax a),uh O (by omega),av,
  an (c_ (by dsimp only;omega)),an (by simp),aY (by omega)]
 unfold nc;by_cases e:j+1=st.length;rw[an (c_ (by omega)),an (ax a),an e];rfl;rw[a_ (by simp;omega),an (ax a),a_ e];rfl
set_option maxHeartbeats 8000000 in
def L9{i n:Nat}{t:aA}{d:ay}(hs:ag aN (c,ti,M,st,V,T,gr,D,nn,Q,Z,U,A,E)<=1048576)(hi:i<A.length)(b:A.getD i ah.aa=t)(hp:t.1=3)
 (f:t.2.2.2.2.2.1.length=st.length) (r:n<E.length) (g:bn t=(n:Int)) (p:E.getD n aw.aa=d) (j:t.2.1=2):
 ql k ((c,ti,M,st,V,T,gr,D,nn,Q,Z,U,A,E),(i:Int),())=
  some ((fZ true k (c,ti,M,st,V,T,gr,D,nn,Q,Z,U,A,E) i).2,()):=by
 have hsum:=iX O hs;have m:=dQ (e:=ah) (d:=ah.aa) hi;rw[b]at m;have hta:=bq O t;have hstl:=au (e:=aj) (l:=st);have hso:=uz t.2.2.2.2.2.2.1;have a:=g;unfold bn at a;unfold fZ;simp only[b,g,p,j,aus];rw[a_ (show¬(2:Int)=0 by decide),a_ (show¬(2:Int)=1 by decide)];simp only[ql,aus,b,aO];rw[an (ax hi)]
 refine(dI (λq:Nat=>((c,ti,M,st,V,T,gr,D,nn,Q,Z,U,A,E),(i:Int),t,(q:Int),())) (λq=>decide (t.2.2.2.2.2.1.getD q 0=(st.getD q aj.aa).2.1)) st.length
  (e:=some ((c,ti,M,st,V,T,gr,D,nn,Q,Z,U,A.set i zT,E.set n (eC true true d M ti 8 (dp t.2.2.2.2.2.2.1))),())) (no:=some ((c,ti,M,st,V,T,gr,D,nn,Q,Z,U,A.set i (sN n),E),())) ?_ ?_ k 0 (by omega) (by omega)).trans ?_
 intro G q o;dsimp only;rw[aG,c_ o,an rfl,an (ax o),an (ax (by omega)),an (ax hi),aus,aY (by omega),gC];by_cases e:t.2.2.2.2.2.1.getD q 0=(st.getD q aj.aa).2.1;rw[c_ e,c_ e.symm];rfl;rw[decide_eq_false e,decide_eq_false (λh=>e h.symm)];simp only[F',if_true,aus];rw[a];rfl;intro G;simp only[aG,g',decide_false,cz,if_false];rw[UF O (by omega),av,iy O hi r (by rw[b];exact g) (by dsimp only;omega),av,p];rfl;unfold gF;rw[f];cases bF 0 st.length (λq=>decide (t.2.2.2.2.2.1.getD q 0=(st.getD q aj.aa).2.1))<;>rfl
set_option maxHeartbeats 8000000 in
def yX{i n j:Nat}{t:aA}{d:ay}(hs:ag aN (c,ti,M,st,V,T,gr,D,nn,Q,Z,U,A,E)<=1048576)(hi:i<A.length)(e:A.getD i ah.aa=t)(a:t.1=2\/t.1=3)
 (g:(t.1=2\/t.2.1≠2)->j<st.length) (b:if t.1=2 then bO k st t.2.2.2.1=(j:Int)else t.2.2.2.2.1=(j:Int)) (f:t.1=3->t.2.1=2->t.2.2.2.2.2.1.length=st.length) (l:n<E.length) (m:bn t=(n:Int)) (o:E.getD n aw.aa=d)
 (hpc:t.2.1=0\/t.2.1=1\/t.1=3/\t.2.1=2) (p:dh d= -1) (q:t.2.2.1=c9) (r:t.1=3->t.2.2.2.1=[]) (s:t.2.2.2.2.2.2.2.1=0):
 fm k ((c,ti,M,st,V,T,gr,D,nn,Q,Z,U,A,E),(i:Int),())=
  some ((eu false k (c,ti,M,st,V,T,gr,D,nn,Q,Z,U,A,E) i).1,(eu false k (c,ti,M,st,V,T,gr,D,nn,Q,Z,U,A,E) i).2,()):=by
 unfold eu vK;simp only[fm,aO,aus,e];rw[an (ax hi)];rcases a with a|a;rw[a,an (by decide),an rfl,Qa O hs hi e a (g (.inl a)) (by rw[an a]at b;exact b) l m o (by omega) p,av];exact Hb;rw[a,a_ (by decide),an (by decide),a_ (show¬(3:Int)=2 by decide),KN O hs hi e a (by rw[a_ (by omega)]at b;exact b) (λh=>g (.inr h)) (f a) l m o (by omega) p q (r a) s,av];exact Hb
set_option maxHeartbeats 8000000 in
def pZ{i n j:Nat}{t:aA}{d:ay}(hs:ag aN (c,ti,M,st,V,T,gr,D,nn,Q,Z,U,A,E)<=1048576)(hi:i<A.length)(e:A.getD i ah.aa=t)(a:t.1=2\/t.1=3)
 (l:(t.1=2\/t.2.1≠2)->j<st.length) (f:if t.1=2 then bO k st t.2.2.2.1=(j:Int)else t.2.2.2.2.1=(j:Int)) (m:t.1=3->t.2.1=2->t.2.2.2.2.2.1.length=st.length) (p:n<E.length) (q:bn t=(n:Int)) (r:E.getD n aw.aa=d)
 (o:t.2.1=0\/t.2.1=1\/t.1=3/\t.2.1=2):
 jv k ((c,ti,M,st,V,T,gr,D,nn,Q,Z,U,A,E),(i:Int),())=
  some ((eu true k (c,ti,M,st,V,T,gr,D,nn,Q,Z,U,A,E) i).1,(eu true k (c,ti,M,st,V,T,gr,D,nn,Q,Z,U,A,E) i).2,()):=by
 unfold eu vK;simp only[jv,aO,aus,e];rw[an (ax hi)];rcases a with a|a;rw[a,an (by decide),an rfl,QI O hs hi e a (l (.inl a)) (by rw[an a]at f;exact f) p q r (by omega),av];exact Hb;rw[a,a_ (by decide),a_ (show¬(3:Int)=2 by decide),an (ax hi)];rw[a_ (by omega)]at f;rcases o with b|b|⟨_,b⟩;rw[b,an (by decide),an (ax hi),f,u7 O hi (l (.inr (by omega)))]
 have g:fZ true k (c,ti,M,st,V,T,gr,D,nn,Q,Z,U,A,E) i=ey (c,ti,M,st,V,T,gr,D,nn,Q,Z,U,A,E) i j:=by
  unfold fZ;simp only[e,b,f,aus,if_true]
 rw[g];unfold ey;simp only[e];by_cases h:(st.getD j aj.aa).1= -1;rw[an h,an h];rfl;rw[a_ h,a_ h];rfl;rw[b,a_ (by decide),an (ax hi),an (by decide),OD O hs hi e f (l (.inr (by omega))),av]
 have g:fZ true k (c,ti,M,st,V,T,gr,D,nn,Q,Z,U,A,E) i=(true,(c,ti,M,cG st j (-1),V,T,gr,D,nn,Q,Z,U,A.set i (nc st t j),E)):=by
  unfold fZ;simp only[e,b,f,aus,if_true];rw[a_ (show¬(1:Int)=0 by decide)]
 rw[g];rfl;rw[b,a_ (by decide),an (ax hi),a_ (by decide),L9 O hs hi e a (m a b) p q r b,av]
 have g:(fZ true k (c,ti,M,st,V,T,gr,D,nn,Q,Z,U,A,E) i).1=true:=by
  unfold fZ;simp only[e,b];rw[a_ (show¬(2:Int)=0 by decide),a_ (show¬(2:Int)=1 by decide)];split<;>rfl
 unfold bX;rw[g];rfl
end
end Vg.Tryz
