/- Texts of this law, joined. -/
import Derived.Test.YtgikmhjpcnnhjaaGreatE1
import Derived.Test.YtgikmhjpcnnhjaaGreatVd
set_option linter.unusedSimpArgs false
set_option linter.unusedVariables false
set_option linter.unusedSectionVars false
open Option renaming bind_some -> g',bind -> ajf
open Int renaming toNat_natCast -> ka,toNat -> P',tmod_lt_of_pos -> ajq,tmod_nonneg -> ajt
open Bool renaming false_eq_true -> l7,eq_false_or_eq_true -> W_,and_eq_true -> J6,eq_iff_iff -> W',false_ne_true -> ai0,not_false -> X_,not_true -> X',or_true -> Y_,true_and -> ai7,decide_and -> aji,false_and -> aju
open List renaming getD_eq_getElem?_getD -> I',length_singleton -> F',length_set -> Y',replicate -> ai4,set_set -> ai5,nil_append -> ai6,take_succ_eq_append_getElem -> ai9,getElem?_append_right -> aja,getElem?_eq_getElem -> ajb,length_append -> ajc,length_nil -> ajd,take_length -> ajg,all_eq_true -> ajh,getD -> ajj,length -> ajk,length_filter_le -> ajl,filter_append -> ajn,map_singleton -> ajo,filter_cons -> ajr,map_append -> ajs
open Nat renaming lt_irrefl -> A',le_trans -> G4,le_refl -> aje,eq_zero_or_pos -> ajp
open Prod.mk renaming injEq -> ajm
namespace Vg.Tryz
open Go Vg
def fP(l:List au)(n:Int):Option Nat:=gC l.length (fun i=>decide ((l.getD i ak.aa).1=n))
def VB:bY:=(0,[],0,[])
def eV(l:List au)(n j_:Int):List au:=
 match fP l n with
 |none=>l
 |some i=>if(je (l.getD i ak.aa) j_).2.2.2.2=[]then l.take i++l.drop (i+1)else l.set i (je (l.getD i ak.aa) j_)
def jF(l:List au)(n j_:Int):bY:=
 match fP l n with
 |none=>VB
 |some i=>vD (l.getD i ak.aa) j_
def np(l:List au)(n:Int):Bool:=(fP l n).isSome
section
variable{k:Nat}(hk:9223372036854775808<=k)
include hk
theorem rI{l:List au}(h:ag (.sl ak) l<=1073741824):ir k (l,())=some (l,()):=
 Dj (d:=ak.aa) (S:=iy k) hk (G4 (aA (e:=ak)) h) (fun e he=>AF hk (G4 (dK (e:=ak) he) h))
theorem rM{l:List au}{n:Int}(h:l.length<=1073741824):jC k (l,n,())=some (gD (fP l n),()):=by
 simp only[jC];refine(kF (fun i:Nat=>(l,n,(i:Int),())) (fun i=>decide ((l.getD i ak.aa).1=n)) l.length (e:=some (-1,())) (fun i=>some ((i:Int),())) (fun G i a=> ?_) (fun G=> ?_) k (by omega)).trans ?_;simp only[aJ,aG a,a,decide_true,if_true,ka];rw[br (by omega)];by_cases b:(l.getD i ak.aa).1=n<;>simp[b];simp;unfold fP;cases gC l.length (fun i=>decide ((l.getD i ak.aa).1=n))<;>rfl
theorem Ji{l:List au}{n j_:Int}(h:ag (.sl ak) l<=1073741824):pk k (l,n,j_,())=some (eV l n j_,jF l n j_,np l n,()):=by
 have hl:=aA (e:=ak) (l:=l);simp only[pk];rw[rI hk h,g',rM hk (by omega),g'];unfold eV jF np;cases b:fP l n with
 |none=>rfl
 |some i=>
  obtain⟨j,_,_⟩:=aV.1 b;have ht:=dK (e:=ak) (dp (d:=ak.aa) j);have h1:=dw (e:=ak) l i;have h2:=dw (e:=ak) l (i+1);dsimp only;refine(abm (decide_eq_false (by simp only[gD];omega))).trans ?_;refine(an (by simp[gD];omega)).trans ?_;have f:(gD (some i)).toNat=i:=by simp[gD]
  have g:IntKind.i64.wrap (gD (some i)+1)=((i+1:Nat):Int):=br (by omega);rw[f];rw[OY hk (by omega),g'];refine(an (by simp[gD];omega)).trans ?_;by_cases a:(je (l.getD i ak.aa) j_).2.2.2.2=[]
  rw[an (by rw[a];rfl),an a];refine(an (by simp[gD];omega)).trans ?_;rw[rI hk (by omega),g',g];refine(an (by simp;omega)).trans ?_;rw[ka,rI hk (by omega),g',an (by simp;omega)];rfl;rw[a_ (by simpa using a),a_ a];rfl
theorem T8{l:List au}{n j_:Int}:ag (.sl ak) (eV l n j_)<=ag (.sl ak) l:=by
 unfold eV;cases b:fP l n with
 |none=>exact aje _
 |some i=>
  obtain⟨f,_,_⟩:=aV.1 b;simp only;split;have d:=dw (e:=ak) l i;have a:=dw (e:=ak) (l.drop i) 1;rw[List.drop_drop]at a;rw[iS];omega;have d:=nu (e:=ak) l i (je (l.getD i ak.aa) j_) f;have a:=UC hk (g:=l.getD i ak.aa) (j_:=j_);omega
theorem RL{l:List au}{n j_:Int}:ag eP (jF l n j_)<=ag (.sl ak) l:=by
 unfold jF;cases a:fP l n with
 |none=>simp[VB,ag]
 |some i=>
  obtain⟨b,_,_⟩:=aV.1 a;have ht:=dK (e:=ak) (dp (d:=ak.aa) b);have h2:=UG hk (g:=l.getD i ak.aa) (j_:=j_);simp only;omega
theorem MY{c:aZ}(h:ag az c<=1073741824):na k (c,())=some (c,()):=by
 have h1:=eW hk c;simp only[na];rw[gM hk (by omega),g']
theorem Nj{p:aq}(h:ag aj p<=1073741824):kt k (p,())=some (p,()):=by
 have h1:=e9 hk p;have hl:=aA (e:=az) (l:=p.2.2);simp only[kt];refine cV (fun i=>(p,(0,(0,([]:List aZ))),(p.1,p.2.1,p.2.2.take i),(i:Int),())) p.2.2.length (fun G i a=> ?_) (fun G=> ?_) k 0 (by omega) (by omega);have hm:=dK (e:=az) (dp (d:=az.aa) a);simp only[aJ,aG a,a,decide_true,if_true,ka];rw[MY hk (by omega),g',an (by simp;omega),br (by omega),oI az.aa a];simp
theorem Nt{l:List aq}(h:ag (.sl aj) l<=1073741824):qh k (l,())=some (l,()):=
 Dj (d:=aj.aa) (S:=kt k) hk (G4 (aA (e:=aj)) h) (fun e he=>Nj hk (G4 (dK (e:=aj) he) h))
theorem NC{s:bU}(h:ag bp s<=1073741824):ko k (s,())=some (s,()):=by
 have h1:=sR hk s;simp only[ko];rw[gM hk (by omega),g']
theorem YE{l:List bU}(h:ag (.sl bp) l<=1073741824):wE k (l,())=some (l,()):=
 Dj (d:=bp.aa) (S:=ko k) hk (G4 (aA (e:=bp)) h) (fun e he=>NC hk (G4 (dK (e:=bp) he) h))
theorem Bf{t:aE}(h:ag al t<=1073741824):lR k (t,())=some (t,()):=by
 have h1:=fO hk t;have h2:=aA (e:=ai) (l:=t.2.2.2.1);have h3:=aA (e:= .int .i64) (l:=t.2.2.2.2.2.1);simp only[lR];rw[dS hk (by omega),g',an (by simp;omega),an (by simp;omega),gM hk (by omega),g'];simp
theorem Uh{d:ax}(h:ag ay d<=1073741824):lH k (d,())=some (d,()):=by
 have h1:=ek hk d;have h2:=aA (e:=ai) (l:=d.2.2.2.1);simp only[lH];rw[dS hk (by omega),g',an (by simp;omega),gM hk (by omega),g'];simp
theorem WB{l:List ax}(h:ag (.sl ay) l<=1073741824):uz k (l,())=some (l,()):=
 Dj (d:=ay.aa) (S:=lH k) hk (G4 (aA (e:=ay)) h) (fun e he=>Uh hk (G4 (dK (e:=ay) he) h))
theorem Rf{b:bY}(h:ag eP b<=1073741824):iT k (b,())=some (b,()):=by
 have h1:=wW hk b;exact Fx hk (by omega) (by omega)
theorem IA{w:ah}(hs:ag aF w<=1073741824):lL k (w,())=some (w,()):=by
 have p:=kR hk w;obtain⟨c,h,j_,st,j,fd,m,gr,nn,g,b,n,f,o⟩:=w;simp only at p;have h1:=aA (e:=aD) (l:=g);have h2:=aA (e:=eP) (l:=b);have h3:=aA (e:=al) (l:=f);simp only[lL,aR];rw[JJ hk (by omega),g',Nt hk (by omega),g',YE hk (by omega),g',gM hk (by omega),g',rI hk (by omega),g',an (by simp;omega)];simp only[ai6];refine cV (fun i=>((c,h,j_,st,j,fd,m,gr,nn,g,b,n,f,o),_,(c,h,j_,st,j,fd,m,gr,nn,g,b.take i,n,f,o),c,(i:Int),())) b.length (fun G i a=> ?_) (fun G=> ?_) k 0 (by omega) (by omega);have hm:=dK (e:=eP) (dp (d:=eP.aa) a);simp only[aJ,aG a,a,decide_true,if_true,ka];rw[Rf hk (by omega),g',an (by simp;omega),br (by omega),oI eP.aa a];simp only[aJ,A',decide_false,l7,if_false,ajg];rw[gM hk (by omega),g'];refine cV (fun i=>((c,h,j_,st,j,fd,m,gr,nn,g,b,n,f,o),_,(c,h,j_,st,j,fd,m,gr,nn,g,b,n,f.take i,o),c,(i:Int),())) f.length (fun G i a=> ?_) (fun G=> ?_) k 0 (by omega) (by omega);have hm:=dK (e:=al) (dp (d:=al.aa) a);simp only[aJ,aG a,a,decide_true,if_true,ka];rw[Bf hk (by omega),g',an (by simp;omega),br (by omega),oI al.aa a];simp only[aJ,A',decide_false,l7,if_false,ajg];rw[WB hk (by omega),g']
end
def Hv(a b:ae):Bool:=decide (a.2.1<=b.2.2.1)&&decide (b.2.1<=a.2.2.1)
def mg(a b:ae):ae:=if Hv a b=true then(b.1,if b.2.1<a.2.1 then b.2.1 else a.2.1,b.2.2)else b
def mJ(c:aZ)(a:ae):aZ:=
 match iC c.2 a.1 with
 |some i=>(c.1,c.2.set i (mg (c.2.getD i ab.aa) a))
 |none=>(c.1,c.2++[a])
def kf(l:List aZ)(f:Int):Nat:=(gC l.length (fun i=> !decide ((l.getD i az.aa).1<f))).getD l.length
def ib(k:Nat)(p:aq)(a:ae):aq×Bool:=
 match gR p (dq k a.1)with
 |some i=>((p.1,IntKind.i64.wrap (p.2.1+1),p.2.2.set i (mJ (p.2.2.getD i az.aa) a)),(iC (p.2.2.getD i az.aa).2 a.1).isNone)
 |none=>((p.1,IntKind.i64.wrap (p.2.1+1),p.2.2.take (kf p.2.2 (dq k a.1))++[(dq k a.1,[a])]++p.2.2.drop (kf p.2.2 (dq k a.1))),true)
def fa(k:Nat)(l:List aq)(a:ae):List aq×Bool:=
 if l.length=0 then(l,false)else(l.set (bF k l a.1).toNat (ib k (l.getD (bF k l a.1).toNat aj.aa) a).1,(ib k (l.getD (bF k l a.1).toNat aj.aa) a).2)
theorem UI{α:Type}(l:List aZ)(f:Int)(g:Nat->α):(match gC l.length (fun i=> !decide ((l.getD i az.aa).1<f))with|some i=>g i|none=>g l.length)=g (kf l f):=by
 unfold kf;cases gC l.length (fun i=> !decide ((l.getD i az.aa).1<f))<;>rfl
section
variable{k:Nat}(hk:9223372036854775808<=k)
include hk
theorem Ou{a b:ae}:rP k (a,b,())=some (Hv a b,()):=by
 simp only[rP,Hv];by_cases h:a.2.1<=b.2.2.1<;>simp[h]
theorem N5{a b:ae}(hb:ag ab b<=1048576):rz k (a,b,())=some (mg a b,()):=by
 simp only[rz,vL];rw[dS hk (by omega),g',Ou hk,g'];unfold mg;cases Hv a b;simp;by_cases h:b.2.1<a.2.1<;>simp[h]
theorem TS{a b:ae}:ag ab (mg a b)=ag ab b:=by
 unfold mg;split;rw[bI hk,bI hk];rfl
theorem F7{c:aZ}{a:ae}(hc:ag az c<=1048576)(d:ag ab a<=1048576):nY k (c,a,())=some (mJ c a,(iC c.2 a.1).isNone,()):=by
 have h1:=eW hk c;have h2:=aA (e:=ab) (l:=c.2);simp only[nY];rw[MY hk (by omega),g'];unfold mJ;cases h:iC c.2 a.1 with
 |none=>
  have e:iw k (c,a.1,())=some (-1,()):=by rw[sA hk (by omega),h];rfl
  rw[e,g',an (by decide),dS hk (by omega),g',an (by simp;omega)];rfl
 |some i=>
  have b:=(aV.1 h).1;have e:iw k (c,a.1,())=some ((i:Int),()):=by rw[sA hk (by omega),h];rfl
  rw[e,g',a_ (by simp),an (aG b),N5 hk d,g',an (aG b)];rfl
theorem X6{c:aZ}{a:ae}:ag az (mJ c a)<=ag az c+ag ab a+1:=by
 have h1:=eW hk c;have d:=eW hk (mJ c a);unfold mJ at d|-;cases h:iC c.2 a.1 with
 |none=>
  rw[h]at d;dsimp only at d|-;have f:=iS (e:=ab) c.2 [a];have g:=cG (e:=ab) a [];have h5:=bu (e:=ab);rw[d];omega
 |some i=>
  have j:=(aV.1 h).1;rw[h]at d;dsimp only at d|-;have f:=nu (e:=ab) c.2 i (mg (c.2.getD i ab.aa) a) j;have g:=TS hk (a:=c.2.getD i ab.aa) (b:=a);rw[d];omega
theorem NU{p:aq}{a:ae}(d:ag aj p<=1048576)(g:ag ab a<=1048576):rR k (p,a,())=some ((ib k p a).1,(ib k p a).2,()):=by
 have h1:=e9 hk p;have h2:=aA (e:=az) (l:=p.2.2);have h3:=bI hk a;simp only[rR];rw[Nj hk (by omega),g',sI hk (by omega),g'];unfold ib;cases h:gR p (dq k a.1)with
 |some i=>
  have b:=(aV.1 h).1;have e:kV k (p,dq k a.1,())=some ((i:Int),()):=by rw[rL hk (by omega),h];rfl
  rw[e,g',an (by simp),an (aG b)];simp only[ka];rw[F7 hk (jR hk d b).1 g,g',an (aG b)]
 |none=>
  have e:kV k (p,dq k a.1,())=some (-1,()):=by rw[rL hk (by omega),h];rfl
  rw[e,g',a_ (by decide)];simp only[aR];generalize hf:dq k a.1=f at h|-
  refine(kF (fun i:Nat=>(p,a,(0,0,([]:List aZ)),(p.1,IntKind.i64.wrap (p.2.1+1),p.2.2),f,(i:Int),())) (fun i=> !decide ((p.2.2.getD i az.aa).1<f)) p.2.2.length
   (e:=some ((p.1,IntKind.i64.wrap (p.2.1+1),p.2.2.take p.2.2.length++[(f,[a])]++p.2.2.drop p.2.2.length),true,())) (fun i=>some ((p.1,IntKind.i64.wrap (p.2.1+1),p.2.2.take i++[(f,[a])]++p.2.2.drop i),true,())) (fun G i b=> ?_) (fun G=> ?_) k (by omega)).trans ?_
  simp only[aJ,aG b,b,decide_true,if_true,ka,Y_];by_cases hc:(p.2.2.getD i az.aa).1<f;rw[c_ hc,br (by omega)];simp;rw[decide_eq_false hc];simp only[X_,if_true,l7,if_false];rw[dS hk (by omega),g',an (c_ ⟨by omega,by omega⟩),an (c_ (by simp;omega)),an (c_ (by simp;omega)),an (c_ ⟨by omega,by omega⟩),an (c_ (by simp;omega)),ai6];simp only[aJ,A',decide_false,l7,if_false,ka];rw[an (by simp),dS hk (by omega),g',an (c_ ⟨by omega,by omega⟩),an (c_ (by simp;omega)),an (c_ (by simp;omega)),an (c_ ⟨by omega,by omega⟩),an (c_ (by simp;omega)),ai6];exact UI p.2.2 f (fun i=>some ((p.1,IntKind.i64.wrap (p.2.1+1),p.2.2.take i++[(f,[a])]++p.2.2.drop i),true,()))
theorem Xa{p:aq}{a:ae}:ag aj (ib k p a).1<=ag aj p+ag ab a+2:=by
 have h1:=e9 hk p;have b:=e9 hk (ib k p a).1;unfold ib at b|-;cases h:gR p (dq k a.1)with
 |some i=>
  have d:=(aV.1 h).1;rw[h]at b;dsimp only at b|-;have f:=nu (e:=az) p.2.2 i (mJ (p.2.2.getD i az.aa) a) d;have g:=X6 hk (c:=p.2.2.getD i az.aa) (a:=a);rw[b];omega
 |none=>
  rw[h]at b;dsimp only at b|-;have f:=iS (e:=az) (p.2.2.take (kf p.2.2 (dq k a.1))++[(dq k a.1,[a])]) (p.2.2.drop (kf p.2.2 (dq k a.1)));have g:=iS (e:=az) (p.2.2.take (kf p.2.2 (dq k a.1))) [(dq k a.1,[a])];have h5:=cG (e:=az) (dq k a.1,[a]) [];have h6:=bu (e:=az);have h7:=eW hk (dq k a.1,[a]);have h8:=cG (e:=ab) a [];have h9:=bu (e:=ab);have Ca:=dw (e:=az) p.2.2 (kf p.2.2 (dq k a.1));dsimp only at h7;rw[b];omega
theorem Gj{l:List aq}{a:ae}(d:ag (.sl aj) l<=1048576)(e:ag ab a<=1048576):nG k (l,a,())=some ((fa k l a).1,(fa k l a).2,()):=by
 have h3:=bI hk a;simp only[nG];rw[Nt hk (by omega),g'];unfold fa;by_cases b:l.length=0;rw[an (by simpa using b),an b];obtain⟨q1,q2,q3⟩:=oy (k:=k) (l:=l) (s:=a.1) b;rw[a_ (by simpa using b),a_ b,pH hk (by omega),g',an (c_ ⟨q1,q2⟩),NU hk (ni hk d q3) e,g',an (c_ ⟨q1,q2⟩)]
theorem Vk{l:List aq}{a:ae}:ag (.sl aj) (fa k l a).1<=ag (.sl aj) l+ag ab a+2:=by
 unfold fa;by_cases b:l.length=0;rw[an b];dsimp only;omega;rw[a_ b];obtain⟨q1,q2,q3⟩:=oy (k:=k) (l:=l) (s:=a.1) b;have h1:=nu (e:=aj) l (bF k l a.1).toNat (ib k (l.getD (bF k l a.1).toNat aj.aa) a).1 q3;have h2:=Xa hk (p:=l.getD (bF k l a.1).toNat aj.aa) (a:=a);dsimp only;omega
end
def lx(j_:Int)(l:List ae):List ae:=l.filter fun a=>decide (a.2.2.1<=j_)
def j7(j_:Int)(c:aZ):aZ:=(c.1,eU j_ c.2)
def lA(j_:Int)(l:List aZ):List aZ:=(l.map (j7 j_)).filter fun c=>decide (0<c.2.length)
def ey(j_:Int)(l:List aZ):List ae:=l.flatMap fun c=>lx j_ c.2
def fD(p:aq)(j_:Int):aq:=(p.1,if 0<(ey j_ p.2.2).length then IntKind.i64.wrap (p.2.1+1)else p.2.1,lA j_ p.2.2)
def tz(a:ae)(s:bU):bU:=if s.2=true then s else if 3<=s.1.length then([],true)else(s.1++[a],s.2)
theorem R1{α:Type}(p:α->Bool){l:List α}{i:Nat}(d:α)(h:i<l.length):(l.take (i+1)).filter p=if p (l.getD i d)=true then(l.take i).filter p++[l.getD i d]else(l.take i).filter p:=by
 have b:l.getD i d=l[i]:=by rw[I',ajb h];rfl
 rw[ai9 h,ajn,b];by_cases a:p l[i]=true;simp[a];simp[a]
theorem WX{j_:Int}{l:List aZ}{i:Nat}(h:i<l.length):lA j_ (l.take (i+1))=if 0<(eU j_ (l.getD i az.aa).2).length then lA j_ (l.take i)++[j7 j_ (l.getD i az.aa)]else lA j_ (l.take i):=by
 have b:l.getD i az.aa=l[i]:=by rw[I',ajb h];rfl
 unfold lA;rw[ai9 h,ajs,ajn,b];by_cases a:0<(eU j_ (l[i]).2).length;rw[an a,ajo,ajr,an (show(decide (0<(j7 j_ l[i]).2.length))=true from c_ a)];rfl;rw[a_ a,ajo,ajr,a_ (show¬(decide (0<(j7 j_ l[i]).2.length))=true from fun h=>a (e_ h))];simp
section
variable{k:Nat}(hk:9223372036854775808<=k)
include hk
theorem Dd{j_:Int}{l:List ae}:ag (.sl ab) (lx j_ l)<=ag (.sl ab) l:=uX (e:=ab) _ l
theorem Gr{c:aZ}{j_:Int}(hc:ag az c<=1048576):nW k (c,j_,())=some (j7 j_ c,lx j_ c.2,()):=by
 have h1:=eW hk c;have h2:=aA (e:=ab) (l:=c.2);simp only[nW,aR];refine(cV (fun i:Nat=>(j_,c,(0,([]:List ae)),(c.1,eU j_ (c.2.take i)),lx j_ (c.2.take i),(i:Int),())) c.2.length (e:=some (j7 j_ c,lx j_ c.2,())) (fun G i a=> ?_) (fun G=> ?_) k 0 (by omega) (by omega));have l1:=JC (j_:=j_) (l:=c.2.take i);have d:(lx j_ (c.2.take i)).length<=(c.2.take i).length:=ajl ..;have l3:(c.2.take i).length<=c.2.length:=by simp;omega
 have hm:ag ab (c.2.getD i ab.aa)<=1048576:=(ov hk (by omega) a).1;simp only[aJ,aG a,a,decide_true,if_true,ka,pV];rw[br (by omega),dS hk (by omega),g',g',Fl a];unfold lx at d|-;rw[R1 _ ab.aa a];by_cases b:(c.2.getD i ab.aa).2.2.1<=j_;simp only[b,decide_true,if_true,X',l7,if_false];rw[an (c_ (by simp only[F'];omega))];simp only[b,decide_false,l7,if_false,X_,if_true];rw[an (c_ (by simp only[F'];omega))];simp[j7]
theorem V8{j_:Int}(l:List aZ):(ey j_ l).length<=ag (.sl az) l:=by
 have a:ag (.sl ab) (ey j_ l)<=ag (.sl az) l:=mQ hk (e:=az) (f:=ab) (g:=fun c=>lx j_ c.2) (fun c=>G4 (Dd hk) (by rw[eW hk];exact aje _)) l;exact G4 (aA (e:=ab)) a
theorem VU{j_:Int}(l:List aZ):(lA j_ l).length<=l.length:=by
 unfold lA;exact G4 (ajl ..) (by simp)
theorem Ie{p:aq}{j_:Int}(g:ag aj p<=1048576):pf k (p,j_,())=some (fD p j_,ey j_ p.2.2,()):=by
 have h1:=e9 hk p;have h2:=aA (e:=az) (l:=p.2.2);simp only[pf,aR];refine(cV (fun i:Nat=>(j_,p,(0,0,([]:List aZ)),(p.1,p.2.1,lA j_ (p.2.2.take i)),ey j_ (p.2.2.take i),(i:Int),())) p.2.2.length (e:=some (fD p j_,ey j_ p.2.2,())) (fun G i d=> ?_) (fun G=> ?_) k 0 (by omega) (by omega));have l1:=VU hk (j_:=j_) (p.2.2.take i);have l2:=V8 hk (j_:=j_) (p.2.2.take i);have l3:=dw (e:=az) p.2.2 i;have l4:(p.2.2.take i).length<=p.2.2.length:=by simp;omega
 have l6:(lx j_ (p.2.2.getD i az.aa).2).length<=1048576:=G4 (aA (e:=ab)) (G4 (Dd hk) (jR hk g d).2);simp only[aJ,aG d,d,decide_true,if_true,ka];rw[br (by omega),Gr hk (jR hk g d).1,g',WX d];have j:ey j_ (p.2.2.take (i+1))=ey j_ (p.2.2.take i)++lx j_ (p.2.2.getD i az.aa).2:=fB (f:=fun c:aZ=>lx j_ c.2) az.aa d;rw[j,an (c_ (by first|omega|(dsimp only;omega)|(simp;omega)))];by_cases a:0<(eU j_ (p.2.2.getD i az.aa).2).length;rw[an (c_ (by simp only[j7];omega)),an a,an (c_ (by simp only[F'];first|omega|(dsimp only;omega)|(simp;omega)))];have b:¬decide ((((j7 j_ (p.2.2.getD i az.aa)).2.length:Nat):Int)>0)=true:=fun h=>a (by have h9:=e_ h;simp only[j7]at h9;omega);rw[a_ b,a_ a];simp only[aJ,A',decide_false,l7,if_false,ajg];unfold fD;by_cases a:0<(ey j_ p.2.2).length;rw[an (c_ (by omega)),an a];have b:¬decide ((((ey j_ p.2.2).length:Nat):Int)>0)=true:=fun h=>a (by have h9:=e_ h;omega);rw[a_ b,a_ a]
theorem PF{s:bU}{a:ae}(hs:ag bp s<=1048576)(ha:ag ab a<=1048576):tN k (s,a,())=some (tz a s,()):=by
 have h1:=sR hk s;have h2:=aA (e:=ab) (l:=s.1);simp only[tN];rw[NC hk (by omega),g'];unfold tz;by_cases b:s.2=true;rw[an b,an b];rw[a_ b,a_ b];by_cases d:3<=s.1.length;rw[an (c_ (by omega)),an d];have f:¬decide (((s.1.length:Nat):Int)>=3)=true:=fun h=>d (by have h9:=e_ h;omega);rw[a_ f,a_ d,dS hk (by omega),g',an (c_ (by simp only[F'];omega))]
theorem I8{l:List bU}{a:ae}(d:ag (.sl bp) l<=1048576)(f:ag ab a<=1048576):pE k (l,a,())=some (l.map (tz a),()):=by
 have h2:=aA (e:=bp) (l:=l);simp only[pE];refine(cV (fun i:Nat=>(l,a,(l.take i).map (tz a),(i:Int),())) l.length (e:=some (l.map (tz a),())) (fun G i b=> ?_) (fun G=> ?_) k 0 (by omega) (by omega));have g:l.getD i bp.aa=l[i]:=by rw[I',ajb b];rfl
 simp only[aJ,aG b,b,decide_true,if_true,ka];rw[br (by omega),PF hk (VI hk d b) f,g',an (c_ (by simp;omega)),ai9 b,ajs,g];rfl;simp
end
def ya(l:List aC)(i j:Nat):List aC:=(l.set i (l.getD j aD.aa)).set j (l.getD i aD.aa)
theorem gj(l:List aC)(i j:Nat):(ya l i j).length=l.length:=by simp[ya]
def NA(l:List aC)(i:Nat):List aC:=
 if h:0<i then if bX (l.getD i aD.aa) (l.getD ((i-1)/2) aD.aa)=true then NA (ya l i ((i-1)/2)) ((i-1)/2)else l else l
termination_by i
decreasing_by omega
def AM(l:List aC)(t:aC):List aC:=NA (l++[t]) l.length
def iP(l:List aC)(i:Nat):Nat:=
 if 2*i+2<l.length/\bX (l.getD (2*i+2) aD.aa) (l.getD (2*i+1) aD.aa)=true then 2*i+2 else 2*i+1
def uV(l:List aC)(i:Nat):List aC:=
 if h:2*i+1<l.length then
  if bX (l.getD (iP l i) aD.aa) (l.getD i aD.aa)=true then uV (ya l i (iP l i)) (iP l i)else l
 else l
termination_by l.length-i
decreasing_by
 rw[gj]
 have:i<iP l i:=by unfold iP;split<;>omega
 omega
theorem ZW{l:List aC}{i:Nat}(h:2*i+1<l.length):i<iP l i/\iP l i<l.length:=by unfold iP;split<;>omega
def fQ(l:List aC):List aC×aC×Bool:=
 if l.length=0 then([],(0,0),false)
 else(if l.length=1 then []else uV ((l.take (l.length-1)).set 0 (l.getD (l.length-1) aD.aa)) 0,l.getD 0 aD.aa,true)
theorem i2a{i:Nat}(h:i<1073741824):IntKind.i64.wrap (IntKind.i64.wrap ((2:Int)*(i:Int))+1)=((2*i+1:Nat):Int):=by
 have e:(2:Int)*(i:Int)=((2*i:Nat):Int):=by omega
 have w:IntKind.i64.wrap ((2*i:Nat):Int)=((2*i:Nat):Int):=by
  have:=br (i:=2*i-1) (by omega);rcases ajp i with a|a;subst a;rfl;have b:(((2*i-1:Nat):Int)+1)=((2*i:Nat):Int):=by omega
  rw[b]at this;rw[this];congr 1;omega
 rw[e,w,br (by omega)]
theorem i2b{i:Nat}(h:i<1073741824):IntKind.i64.wrap (((2*i+1:Nat):Int)+1)=((2*i+2:Nat):Int):=by
 rw[br (by omega)]
theorem GK{σ ρ α:Type}{f:(σ->Option ρ)->σ->Option ρ}(st:α->σ)(res:α->Option ρ)(I:α->Prop)(m:α->Nat)
 (h:∀G a,I a->(∃b,I b/\m b<m a/\res b=res a/\f G (st a)=G (st b))\/f G (st a)=res a):
 ∀n a,I a->m a<n->aM n f (st a)=res a
 |0,a,_,hn=>by omega
 |n+1,a,hI,hn=>by
  rcases h (aM n f) a hI with⟨b,d,hm,g,e⟩|e;show f (aM n f) (st a)=_;rw[e,<-g];exact GK st res I m h n b d (by omega);exact e
theorem Wt{σ ρ α:Type}{f:(σ->Option ρ)->σ->Option ρ}(st:α->σ)(res:α->Option ρ)(I:α->Prop)(m:α->Nat)
 (h:∀a,I a->∃(c:Bool) (b:α),(c=true->I b/\m b<m a/\res b=res a)/\∀G,f G (st a)=if c=true then G (st b)else res a):
 ∀n a,I a->m a<n->aM n f (st a)=res a:=by
 refine GK st res I m (fun G a g=> ?_);obtain⟨c,b,d,e⟩:=h a g;cases c with
 |true=>exact Or.inl ⟨b,(d rfl).1,(d rfl).2.1,(d rfl).2.2,e G⟩
 |false=>exact Or.inr (e G)
theorem xA{n:Nat}(h:n<4611686018427387904):IntKind.i64.wrap (n:Int)=(n:Int):=by
 rcases ajp n with a|a;subst a;rfl;have:=br (i:=n-1) (by omega);have b:(((n-1:Nat):Int)+1)=(n:Int):=by omega
 rw[b]at this;rw[this];congr 1;omega
theorem ab6{α:Type}{l:List α}{t:α}(h:l.length<=1048576):IntKind.i64.wrap ((((l++[t]).length:Nat):Int)-1)=(l.length:Int):=by
 rw[ajc,F'];have e:(((l.length+1:Nat):Int)-1)=(l.length:Int):=by omega
 rw[e,xA (by omega)]
section
variable{k:Nat}(hk:9223372036854775808<=k)
include hk
theorem IM{l:List aC}{t:aC}(g:l.length<=1048576):oQ k (l,t,())=some (AM l t,()):=by
 simp only[oQ,ai6];rw[an (c_ (by simp only[ajd];omega)),an (c_ (by simp only[F'];omega)),ab6 g];unfold AM;have d:(l++[t]).length<=1048577:=by simp;omega
 have b:l.length<(l++[t]).length:=by simp
 refine GK (fun a:List aC×Nat=>(t,a.1,(a.2:Int),())) (fun a=>some (NA a.1 a.2,())) (fun a=>a.2<a.1.length/\a.1.length<=1048577) (fun a=>a.2) ?_ k (l++[t],l.length) ⟨b,d⟩ (by dsimp only;omega);rintro G ⟨L,i⟩ ⟨b,d⟩;dsimp only at b d|-;rw[NA];cases i with
 |zero=>
  right;simp only[Y3];simp
 |succ q=>
  have f:q/2<L.length:=by omega
  have h:decide (¬(2:Int)=0)=true:=rfl;have j:(q+1-1)/2=q/2:=by omega
  simp only[aJ,aG b,aG f,b,Ta,No (show q<4611686018427387904 by omega),decide_true,if_true,ka,lU hk,g',Y',jq,ne_eq,h,Y_,beq_self_eq_true,j];rw[dif_pos (Nat.succ_pos q)];by_cases e:bX (L.getD (q+1) aD.aa) (L.getD (q/2) aD.aa)=true;left;refine⟨(ya L (q+1) (q/2),q/2),⟨by rw[gj];exact f,by rw[gj];exact d⟩,by show q/2<q+1;omega,by rw[an e],?_⟩;rw[an e];rfl;right;rw[a_ e,a_ e]
theorem Gl{l:List aC}(hl:l.length<=1048576):nJ k (l,())=some ((fQ l).1,(fQ l).2.1,(fQ l).2.2,()):=by
 simp only[nJ];unfold fQ;by_cases j:l.length=0;rw[an (by simpa using j),an j]
 have v:IntKind.i64.wrap (((l.length:Nat):Int)-1)=((l.length-1:Nat):Int):=by
  have:(((l.length:Nat):Int)-1)=((l.length-1:Nat):Int):=by omega
  rw[this,xA (by omega)]
 have e:decide ((0:Int)<=0/\(0:Int)<(l.length:Int))=true:=c_ ⟨by omega,by omega⟩;rw[a_ (by simpa using j),a_ j,v,an (c_ ⟨by omega,by omega⟩),ka,an (c_ (by simp;omega))];simp only[aR,ai6,e,if_true];by_cases m:l.length=1;rw[a_ (by simp;omega),an m];have w:l.take (l.length-1)=[]:=by rw[m];rfl
 rw[w];obtain⟨q,f⟩:∃q,k=q+1:=⟨k-1,by omega⟩
 rw[f];simp only[aM,m];rfl;rw[an (by simp;omega),a_ m,an (c_ ⟨by omega,by omega⟩),an (c_ ⟨by omega,by simp;omega⟩)];have t:((l.take (l.length-1)).set 0 (l.getD (l.length-1) aD.aa)).length=l.length-1:=by simp
 refine Wt (fun a:List aC×Nat=>(l,(0,0),((l.length-1:Nat):Int),a.1,(a.2:Int),())) (fun a=>some (uV a.1 a.2,l.getD 0 aD.aa,true,())) (fun a=>a.1.length=l.length-1/\a.2<a.1.length)
  (fun a=>l.length-a.2) ?_ k ((l.take (l.length-1)).set 0 (l.getD (l.length-1) aD.aa),0) ⟨t,by rw[t];show 0<_;omega⟩ (by dsimp only;omega)
 rintro⟨L,i⟩ ⟨o,p⟩;dsimp only at o p|-;have u:l.getD (P' 0) aD.aa=l.getD 0 aD.aa:=rfl;have b:uV L i=_:=uV.eq_1 L i;by_cases d:2*i+1<L.length;rw[dif_pos d]at b;obtain⟨k1,r⟩:=ZW d;refine⟨bX (L.getD (iP L i) aD.aa) (L.getD i aD.aa),(ya L i (iP L i),iP L i),fun hc=> ?_,fun G=> ?_⟩;refine⟨⟨by rw[gj];exact o,by rw[gj];exact r⟩,by dsimp only;omega,?_⟩;rw[an hc]at b;rw[b];simp only[i2a (show i<1073741824 by omega),i2b (show i<1073741824 by omega),aR,aJ,ka,<-o,Y',jq,d,decide_true,if_true,u];by_cases g:2*i+2<L.length;simp only[g,aG g,aG d,decide_true,Y_,if_true,beq_self_eq_true,lU hk,g'];by_cases n:bX (L.getD (2*i+2) aD.aa) (L.getD (2*i+1) aD.aa)=true;rw[an n];have f:iP L i=2*i+2:=an ⟨g,n⟩;simp only[<-f,aG r,aG p,Y_,if_true,beq_self_eq_true,lU hk,g',l7,if_false];rcases W_ (bX (L.getD (iP L i) aD.aa) (L.getD i aD.aa))with hb|hb;rw[a_ (by rw[hb];decide),an hb];rfl;rw[an (by rw[hb];decide),an e,a_ (by rw[hb];decide),b,a_ (by rw[hb];decide)];rw[a_ n];have f:iP L i=2*i+1:=a_ (fun h=>n h.2);simp only[<-f,aG r,aG p,Y_,if_true,beq_self_eq_true,lU hk,g',l7,if_false];rcases W_ (bX (L.getD (iP L i) aD.aa) (L.getD i aD.aa))with hb|hb;rw[a_ (by rw[hb];decide),an hb];rfl;rw[an (by rw[hb];decide),an e,a_ (by rw[hb];decide),b,a_ (by rw[hb];decide)];have s:decide (2*i+2<L.length)=false:=decide_eq_false g;have x:(false==true)=false:=rfl;simp only[s,x,X_,Bool.true_or,if_true,l7,if_false,g'];have f:iP L i=2*i+1:=a_ (fun h=>g h.1);simp only[<-f,aG r,aG p,Y_,if_true,beq_self_eq_true,lU hk,g',l7,if_false];rcases W_ (bX (L.getD (iP L i) aD.aa) (L.getD i aD.aa))with hb|hb;rw[a_ (by rw[hb];decide),an hb];rfl;rw[an (by rw[hb];decide),an e,a_ (by rw[hb];decide),b,a_ (by rw[hb];decide)];rw[dif_neg d]at b;refine⟨false,(L,i),(fun h=>nomatch h),fun G=> ?_⟩;have y:decide (2*i+1<L.length)=false:=decide_eq_false d;simp only[i2a (show i<1073741824 by omega),aJ,<-o,y,b,e,if_true,l7,if_false,u]
end
theorem El{α:Type}[DecidableEq α]:∀(l m:List α),allEq (fun a b=>decide (a=b)) l m=decide (l=m)
 | [],[]=>by simp[allEq]
 | [],_::_=>by simp[allEq]
 |_::_,[]=>by simp[allEq]
 |a::l,b::m=>by simp only[allEq,El l m,List.cons.injEq,aji]
theorem BT(a b:ByteArray):(a.toList==b.toList)=decide (a=b):=by
 by_cases h:a=b;simp[h];have:¬a.toList=b.toList:=fun e=>h (toList_inj e);simp[h,this]
instance iLabel:DecidableEq af:=inferInstance
instance iLabels:DecidableEq (List af):=inferInstance
instance iAlarm:DecidableEq ae:= @instDecidableEqProd _ _ inferInstance inferInstance
instance iAlarms:DecidableEq (List ae):=inferInstance
instance iTail:DecidableEq (List Int×(List ae×aC)):=inferInstance
instance iTask:DecidableEq aE:= @instDecidableEqProd _ _ inferInstance (@instDecidableEqProd _ _ inferInstance (@instDecidableEqProd _ _ inferInstance (@instDecidableEqProd _ _ inferInstance (@instDecidableEqProd _ _ inferInstance inferInstance))))
def zT:aE:=(0,0,cW,[],0,[],[],0,0)
def om(l:List Int):Bool:=bL 0 l.length (fun i=>decide (0<=l.getD i 0))
def rl(t:aE):Bool:=decide (t.2.2.2.2.1=0)&&decide (t.2.2.2.2.2.1=[])&&decide (t.2.2.2.2.2.2.1=[])
def eC(t:aE)(n:Int):Bool:=
 bw n 0 4&&decide (0<=t.2.2.2.2.2.2.2.2)&&
 ((decide (t.1=0)&&decide (t=zT))||
  (decide (t.1=1)&&decide (n<3)&&bw t.2.1 0 2&&bB t.2.2.1&&decide (t.2.2.2.1=[])&&rl t&&decide (t.2.2.2.2.2.2.2.1=0))||
  (decide (t.1=2)&&decide (n<3)&&bw t.2.1 0 1&&decide (t.2.2.1=cW)&&eo t.2.2.2.1&&rl t&&decide (t.2.2.2.2.2.2.2.1=0))||
  (decide (t.1=3)&&decide (n<3)&&bw t.2.1 0 2&&decide (t.2.2.1=cW)&&decide (t.2.2.2.1=[])&&om t.2.2.2.2.2.1&&decide ((t.2.2.2.2.2.1.length:Int)=t.2.2.2.2.1)&&cx t.2.2.2.2.2.2.1&&
   (if t.2.1=2 then bw t.2.2.2.2.1 1 3 else bw t.2.2.2.2.1 0 2)&&decide (t.2.2.2.2.2.2.2.1=0))||
  (decide (t.1=4)&&decide (n<3)&&bw t.2.1 0 1&&decide (t.2.2.1=cW)&&decide (t.2.2.2.1=[])&&bw t.2.2.2.2.1 0 2&&decide (t.2.2.2.2.2.1=[])&&decide (t.2.2.2.2.2.2.1=[])&&decide (t.2.2.2.2.2.2.2.1=0))||
  (decide (t.1=5)&&decide (n=3)&&bw t.2.1 0 1&&bB t.2.2.1&&decide (t.2.2.2.1=[])&&rl t&&decide (t.2.2.2.2.2.2.2.1=0))||
  (decide (t.1=6)&&decide (n=4)&&bw t.2.1 0 1&&decide (t.2.2.1=cW)&&decide (t.2.2.2.1=[])&&rl t&&decide (0<=t.2.2.2.2.2.2.2.1)))
def lS(op:Int):List Int:=if op=1 then [1,2,3,4]else if op=3 then [5,6]else if op=7 then [1,2,3]else if op=8 then [8,6]else if op=9 then [5,6,7]else [8]
def gz(k:Nat)(d:ax):Bool:=
 match d with
 |(op,task,_,_,i,n,code,_,j_,inv,lin,res)=>
  bw op 1 9&&bw task (-1) 4&&decide (0<=inv)&&decide (0<=i)&&decide (0<=n)&&decide (0<=j_)&&(decide (lin= -1)||decide (inv<=lin))&&(decide (res= -1)||(!decide (lin= -1)&&decide (lin<=res)))&&
   (if lin= -1 then decide (code=0)else decide (code∈lS op))
def bA(k:Nat)(t:aE)(n:Int):Int:=
 if n<1 then-1
 else if t.1=1/\(t.2.1=1\/t.2.1=2)then fE (dq k t.2.2.1.1) n
 else if t.1=2/\t.2.1=1 then fE (dq k t.2.2.2.1) n
 else if(t.1=3\/t.1=4)/\t.2.1=1 then t.2.2.2.2.1
 else-1
def dj(t:aE):Bool:=(decide (t.1=5)||decide (t.1=6))&&decide (t.2.1=1)
section
variable{k:Nat}(hk:9223372036854775808<=k)
include hk
theorem lz{a b:ae}(d:a.1.length<=1048576):dY k (a,b,())=some (decide (a=b),()):=by
 obtain⟨h,a2,a3,a4⟩:=a;obtain⟨j,l,m,b4⟩:=b;simp only[dY,gN hk d,g',eu,BT,ajm,aji];by_cases e:h=j<;>by_cases f:a2=l<;>by_cases g:a3=m<;>simp[e,f,g]
theorem xe{a:ae}(h:ag ab a<=1048576):a.1.length<=1048576:=by
 rw[bI hk]at h;have:=aA (e:=ai) (l:=a.1);omega
theorem um{a b:List ae}(g:ag (.sl ab) a<=1048576):ji k (a,b,())=some (decide (a=b),()):=by
 rw[<-El];have hl:=aA (e:=ab) (l:=a);exact SY (d:=ab.aa) (S:=dY k) hk (by omega) (fun x f y _=>lz hk (xe hk (G4 (dK (e:=ab) f) g)))
theorem GN{a b:List Int}(ha:a.length<=1048576):kB k (a,b,())=some (decide (a=b),()):=by
 rw[<-El];refine Eq.trans ?_ (SY (d:=(0:Int)) (S:=fun z=>some (decide ((z.1:Int)=z.2.1),())) (p:=fun a b=>decide (a=b)) hk (by omega) (fun x hx y _=>rfl));simp only[kB,eqR,g',lT]
theorem Gi{a b:aE}(o:ag al a<=1048576):kP k (a,b,())=some (decide (a=b),()):=by
 rw[fO hk]at o;have p:=xe hk (a:=a.2.2.1) (by omega);have h2:=aA (e:=ai) (l:=a.2.2.2.1);have h3:=aA (e:= .int .i64) (l:=a.2.2.2.2.2.1);have q1:∀b,dY k (a.2.2.1,b,())=some (decide (a.2.2.1=b),()):=fun b=>lz hk p;have q2:∀b,dL k (a.2.2.2.1,b,())=some (decide (a.2.2.2.1=b),()):=fun b=>gN hk (by omega);have q3:∀b,kB k (a.2.2.2.2.2.1,b,())=some (decide (a.2.2.2.2.2.1=b),()):=fun b=>GN hk (by omega);have q4:∀b,ji k (a.2.2.2.2.2.2.1,b,())=some (decide (a.2.2.2.2.2.2.1=b),()):=fun b=>um hk (by omega);obtain⟨r,a2,a3,a4,a5,s,t,u,a9⟩:=a;obtain⟨v,w,x,y,z,A,B,C,b9⟩:=b;simp only at q1 q2 q3 q4;simp only[kP,q1,q2,q3,q4,dn,g',eu,ajm,aji];by_cases d:r=v;by_cases f:a2=w;by_cases g:a3=x;by_cases h:a4=y;by_cases j:a5=z;by_cases m:s=A;by_cases n:t=B;by_cases q:u=C<;>simp[d,f,g,h,j,m,n,q];simp[d,f,g,h,j,m,n];simp[d,f,g,h,j,m];simp[d,f,g,h,j];simp[d,f,g,h];simp[d,f,g];simp[d,f];simp[d]
theorem EX{t:aE}{n:Int}(hs:ag al t<=1048576):mL k (t,n,())=some (bA k t n,()):=by
 rw[fO hk]at hs
 have g:ag (.sl ai) t.2.2.1.1<=1048576:=by
  have:=bI hk t.2.2.1;omega
 simp only[mL,uv,lN hk g,lN hk (l:=t.2.2.2.1) (by omega),pg hk,g',eu];unfold bA;by_cases a:n<1;simp[a];by_cases d:t.2.1=1;by_cases b:t.1=1;simp[a,d,b];by_cases e:t.1=2;simp[a,d,b,e];by_cases f:t.1=3;simp[a,d,b,e,f];by_cases h:t.1=4<;>simp[a,d,b,e,f,h];by_cases b:t.1=1;by_cases j:t.2.1=2<;>simp[a,d,j,b];simp[a,d,b]
theorem Cw{t:aE}:kM k (t,())=some (dj t,()):=by
 simp only[kM,dj,eu];by_cases a:t.1=5<;>by_cases b:t.1=6<;>simp[a,b]
theorem ME{t:aE}(hs:ag al t<=1048576):qm k (t,())=some (om t.2.2.2.2.2.1&&(decide ((t.2.2.2.2.2.1.length:Int)=t.2.2.2.2.1)&&cx t.2.2.2.2.2.2.1&&(if t.2.1=2 then bw t.2.2.2.2.1 1 3 else bw t.2.2.2.2.1 0 2)),()):=by
 rw[fO hk]at hs;have h3:=aA (e:= .int .i64) (l:=t.2.2.2.2.2.1);simp only[qm,aR]
 refine(dZ (fun i:Nat=>(t,t.2.2.2.2.2.1,(t.2.2.2.2.2.1.length:Int),(i:Int),())) (fun i=>decide (0<=t.2.2.2.2.2.1.getD i 0)) t.2.2.2.2.2.1.length
  (e:=some (decide ((t.2.2.2.2.2.1.length:Int)=t.2.2.2.2.1)&&cx t.2.2.2.2.2.2.1&&(if t.2.1=2 then bw t.2.2.2.2.1 1 3 else bw t.2.2.2.2.1 0 2),())) (no:=some (false,())) ?_ ?_ k 0 (by omega)).trans ?_
 intro G i a;simp only[aJ,aG a,a,decide_true,if_true,ka,LN];rw[br (by omega)];rcases W_ (decide (t.2.2.2.2.2.1.getD i 0<0))with h|h<;>simp only[h,if_true,l7,if_false,X',X_];intro G i a;simp only[aJ];rw[a_ (by simp;omega)];simp only[mA hk (l:=t.2.2.2.2.2.2.1) (by omega),jr hk,g',lT,eu,dn];by_cases q:(t.2.2.2.2.2.1.length:Int)=t.2.2.2.2.1<;>by_cases p:t.2.1=2<;>cases hb:cx t.2.2.2.2.2.2.1<;>simp[q,p];unfold om;generalize bL 0 t.2.2.2.2.2.1.length _=b;cases b<;>simp
end
theorem gW{σ ρ:Type}{f:(σ->Option ρ)->σ->Option ρ}(st:Nat->σ)(p:Nat->Bool)(n:Nat){e no:Option ρ}
 (b:∀G i,i<n->f G (st i)=if p i=true then G (st (i+1))else no) (d:∀G,f G (st n)=e):
 ∀(k a:Nat),a<=n->n-a<k->aM k f (st a)=if bL a n p=true then e else no
 |0,_,_,h=>by omega
 |k+1,a,hn,h=>by
  show f (aM k f) (st a)=_;by_cases g:a<n;rw[b _ a g,Na g,gW st p n b d k (a+1) (by omega) (by omega)];cases p a<;>simp;have:a=n:=by omega
  subst this;rw[d,kY (by omega),an rfl]
theorem M5{n:Nat}{p:Nat->Bool}:bL 0 (n+1) p=(bL 0 n p&&p n):=by
 rw[W'];simp only[J6,cA];constructor;intro h;exact⟨fun i a b=>h i a (by omega),h n (by omega) (by omega)⟩;rintro⟨a,b⟩ i hi hj;by_cases he:i=n;subst he;exact b;exact a i hi (by omega)
def Pa(st:List aq)(seen:List Int):Bool:=bL 0 seen.length (fun i=> !decide (seen.getD i 0>(st.getD i aj.aa).2.1))
def lV(st:List aq)(seen:List Int):Bool:=bL 0 seen.length (fun i=>decide (seen.getD i 0=(st.getD i aj.aa).2.1))
def fk(st:List aq)(t:aE):Bool:=
 Pa st t.2.2.2.2.2.1&&(!lV st t.2.2.2.2.2.1||decide ((st.take t.2.2.2.2.2.1.length).flatMap aU=t.2.2.2.2.2.2.1))
def qE(k:Nat)(w:ah)(t:aE)(d:ax):Bool:=
 if t.1=1 then
  decide (d.1=1)&&(if t.2.1=2 then decide (d.2.2.1.1=t.2.2.1.1)&&(cj k w.2.2.2.1 t.2.2.1.1).2&&decide ((cj k w.2.2.2.1 t.2.2.1.1).1=t.2.2.1)else decide (d.2.2.1=t.2.2.1)&&da t.2.2.1)
 else if t.1=2 then decide (d.1=3)&&decide (d.2.2.2.1=t.2.2.2.1)
 else if t.1=3 then decide (d.1=4)&&((if t.2.1=2 then decide ((t.2.2.2.2.2.1.length:Int)=w.1.1)else decide (t.2.2.2.2.1<w.1.1))&&fk w.2.2.2.1 t)
 else if t.1=4 then decide (d.1=6)&&decide (t.2.2.2.2.1<w.1.1)
 else if t.1=5 then decide (d.1=7)&&decide (d.2.2.1=t.2.2.1)
 else decide (d.1=8)&&(decide (d.2.2.2.2.2.1=t.2.2.2.2.2.2.2.1)&&decide (t.2.2.2.2.2.2.2.1<w.2.2.2.2.2.2.2.2.1))
def eF(k:Nat)(w:ah)(t:aE)(d:ax)(n:Int):Bool:=
 eC t n&&(decide (t.1=0)||(decide (t.2.2.2.2.2.2.2.2<(w.2.2.2.2.2.2.2.2.2.2.2.2.2.length:Int))&&(decide (d.2.1=n)&&decide (d.2.2.2.2.2.2.2.2.2.2.2= -1)&&
  decide ((¬d.2.2.2.2.2.2.2.2.2.2.1= -1)↔(t.1=1/\t.2.1=2))&&qE k w t d)))
section
variable{k:Nat}(hk:9223372036854775808<=k)
include hk
theorem Bg{t:aE}(hs:ag al t<=1048576):
 ag ab t.2.2.1<=1048576/\ag (.sl ai) t.2.2.2.1<=1048576/\t.2.2.2.2.2.1.length<=1048576/\ag (.sl ab) t.2.2.2.2.2.2.1<=1048576/\ag (.sl ai) t.2.2.1.1<=1048576:=by
 rw[fO hk]at hs;have h2:=aA (e:= .int .i64) (l:=t.2.2.2.2.2.1);have:=bI hk t.2.2.1;omega
theorem Tw{t:ax}(hs:ag ay t<=1048576):
 ag ab t.2.2.1<=1048576/\ag (.sl ai) t.2.2.2.1<=1048576/\ag (.sl ab) t.2.2.2.2.2.2.2.1<=1048576/\ag (.sl ai) t.2.2.1.1<=1048576:=by
 rw[ek hk]at hs;have:=bI hk t.2.2.1;omega
theorem K7{t:aE}{n:Int}(hs:ag al t<=1048576):qk k (t,n,())=some (eC t n,()):=by
 obtain⟨m,o,p,q,r⟩:=Bg hk hs;simp only[qk,aR,jr hk,ME hk hs,kz hk m,qt hk o,Gi hk hs,g',dn,eu];refine congrArg some (Prod.ext ?_ rfl);simp only[apply_ite Prod.fst];unfold eC;obtain⟨op,pc,a,l,i,seen,got,nn,hh⟩:=t;obtain⟨a1,a2,a3,a4⟩:=a;clear hs m o p q r;have hA:cx ([]:List ae)=true:=rfl;have hS:om ([]:List Int)=true:=rfl;simp only[zT,cW,bw,rl,ajm];rw[W'];by_cases b:op=0;subst b;simp;grind;by_cases d:op=1;subst d;simp;grind;by_cases e:op=2;subst e;simp;grind;by_cases f:op=3;subst f;simp;grind;by_cases g:op=4;subst g;simp;grind;by_cases h:op=5;subst h;simp;grind;by_cases j:op=6;subst j;simp;grind;simp[b,d,e,f,g,h,j]
end
theorem vE(a b:Int):decide (a>=b)= !decide (a<b):=by by_cases h:a<b<;>simp[h]<;>omega
section
variable{k:Nat}(hk:9223372036854775808<=k)
include hk
theorem R8(op n:Int):nQ k (op,n,())=some (decide (n∈lS op),()):=by
 simp only[nQ,bZ,g',beq_iff_eq,lS];split;congr 2;rw[W'];simp;omega;split;congr 2;rw[W'];simp;omega;split;congr 2;rw[W'];simp;omega;split;congr 2;rw[W'];simp;split;congr 2;rw[W'];simp;omega;congr 2;rw[W'];simp
theorem Ll{d:ax}:qi k (d,())=some (gz k d,()):=by
 obtain⟨op,task,a,l,i,n,code,got,j_,inv,b,res⟩:=d;simp only[qi,bZ,g',dn,R8 hk,gz,bw];generalize decide (code∈lS op)=q;refine congrArg some (Prod.ext ?_ rfl);simp only[apply_ite Prod.fst];rw[W'];by_cases e:b= -1<;>by_cases f:res= -1<;>by_cases g:inv<=b<;>by_cases h:b<=res<;>cases q<;>simp[e,f,g,h]<;>omega
theorem EO{w:ah}{t:aE}(hs:ag al t<=1048576)(hw:ag (.sl aj) w.2.2.2.1<=1048576)(b:(if t.2.1=2 then decide ((t.2.2.2.2.2.1.length:Int)=w.1.1)else decide (t.2.2.2.2.1<w.1.1))=true->t.2.2.2.2.2.1.length<=w.2.2.2.1.length)(d:t.2.1<=2):
 mE k (w,t,())=some ((if t.2.1=2 then decide ((t.2.2.2.2.2.1.length:Int)=w.1.1)else decide (t.2.2.2.2.1<w.1.1))&&fk w.2.2.2.1 t,()):=by
 obtain⟨h1,h2,h3,o,h5⟩:=Bg hk hs;simp only[mE,aR]
 have hc:(if(if(decide ((t.2.1:Int)<(2:Int)))=true then decide ((t.2.2.2.2.1:Int)>=w.1.1)else false)=true then true else if((t.2.1:Int)==(2:Int))=true then(((ajk t.2.2.2.2.2.1:Nat):Int):Int) != w.1.1 else false)
  = !(if t.2.1=2 then decide ((t.2.2.2.2.2.1.length:Int)=w.1.1)else decide (t.2.2.2.2.1<w.1.1)):=by
  rw[vE,lT];by_cases q:t.2.1=2
  ·simp[q]
  ·have q2:t.2.1<2:=by have:=d;omega
   simp[q,q2];exact vE _ _
 rw[hc];rcases W_ (if t.2.1=2 then decide ((t.2.2.2.2.2.1.length:Int)=w.1.1)else decide (t.2.2.2.2.1<w.1.1))with hcc|hcc;rotate_left
 ·rw[hcc];rfl
 have hl:=b hcc;rw[hcc,a_ (by simp)]
 refine(gW (fun i:Nat=>(w,t,bL 0 i (fun i=>decide (t.2.2.2.2.2.1.getD i 0=(w.2.2.2.1.getD i aj.aa).2.1)),(w.2.2.2.1.take i).flatMap aU,t.2.2.2.2.2.1,(t.2.2.2.2.2.1.length:Int),(i:Int),()))
  (fun i=> !decide (t.2.2.2.2.2.1.getD i 0>(w.2.2.2.1.getD i aj.aa).2.1)) t.2.2.2.2.2.1.length
  (e:=some (!lV w.2.2.2.1 t.2.2.2.2.2.1||decide ((w.2.2.2.1.take t.2.2.2.2.2.1.length).flatMap aU=t.2.2.2.2.2.2.1),())) (no:=some (false,())) ?_ ?_ k 0 (by omega) (by omega)).trans ?_
 ·intro G i m;have a:i<w.2.2.2.1.length:=by omega
  have d:=ni hk hw a;have f:=jz hk (w.2.2.2.1.take i);unfold cK at f;have hb1:=od hk (w.2.2.2.1.getD i aj.aa);have g:=dw (e:=aj) w.2.2.2.1 i;have hb3:=aA (e:=ab) (l:=(w.2.2.2.1.take i).flatMap aU);have hb4:=aA (e:=ab) (l:=aU (w.2.2.2.1.getD i aj.aa))
  have j:decide (((w.2.2.2.1.take i).flatMap aU).length+(aU (w.2.2.2.1.getD i aj.aa)).length<4294967296)=true:=by
   simp only[b_];omega
  simp only[aJ,aG m,aG a,m,decide_true,if_true,ka,Y_,vv hk d,g',j];rw[br (by omega),fB aj.aa a,M5]
  rcases W_ (decide (t.2.2.2.2.2.1.getD i 0>(w.2.2.2.1.getD i aj.aa).2.1))with h|h<;>
   simp only[h,if_true,X',X_,l7,if_false,eu,CV]
 ·intro G;simp only[aJ,A',decide_false,l7,if_false];have f:=jz hk (w.2.2.2.1.take t.2.2.2.2.2.1.length);unfold cK at f;have g:=dw (e:=aj) w.2.2.2.1 t.2.2.2.2.2.1.length;rw[um hk o];show ajf (if((!lV w.2.2.2.1 t.2.2.2.2.2.1)==false)=true then some (decide (t.2.2.2.2.2.2.1=(w.2.2.2.1.take t.2.2.2.2.2.1.length).flatMap aU),())else some (false,())) (fun n:Bool×Unit=>some (if(!lV w.2.2.2.1 t.2.2.2.2.2.1)=true then true else n.1,()))=_
  have he:decide (t.2.2.2.2.2.2.1=(w.2.2.2.1.take t.2.2.2.2.2.1.length).flatMap aU)=decide ((w.2.2.2.1.take t.2.2.2.2.2.1.length).flatMap aU=t.2.2.2.2.2.2.1):=by
   rw[W'];simp only[b_];exact eq_comm
  rw[he];cases lV w.2.2.2.1 t.2.2.2.2.2.1<;>simp
 ·unfold fk;show(if Pa w.2.2.2.1 t.2.2.2.2.2.1=true then _ else _)=_;cases Pa w.2.2.2.1 t.2.2.2.2.2.1<;>simp
end
theorem Se{t:aE}{n:Int}(h:eC t n=true):0<=t.2.2.2.2.2.2.2.2/\(t.1=0\/t.1=1\/t.1=2\/t.1=3\/t.1=4\/t.1=5\/t.1=6):=by
 unfold eC at h;grind
theorem XF{t:aE}{n:Int}(h:eC t n=true)(e:t.1=3):(t.2.2.2.2.2.1.length:Int)=t.2.2.2.2.1/\0<=t.2.1/\t.2.1<=2:=by
 unfold eC bw at h;grind
section
variable{k:Nat}(hk:9223372036854775808<=k)
include hk
theorem TB{l:List aq}{s:List af}(hs:ag (.sl aj) l<=1048576):(cj k l s).1.1.length<=1048576:=by
 unfold cj;split;simp[cW];rename_i f;obtain⟨_,_,c⟩:=oy (k:=k) (l:=l) (s:=s) f;have b:=ni hk hs c;generalize l.getD (bF k l s).toNat aj.aa=p at b|-;unfold gx;cases hc:gR p (dq k s)with
 |none=>simp[cW]
 |some i=>
  obtain⟨h,_,_⟩:=aV.1 hc;obtain⟨h1,h2⟩:=jR hk b h;dsimp only;cases g:iC (p.2.2.getD i az.aa).2 s with
  |none=>simp[cW]
  |some j=>
   obtain⟨m,_,_⟩:=aV.1 g;have h3:=fL (e:=ab) (d:=ab.aa) m;exact xe hk (a:=(p.2.2.getD i az.aa).2.getD j ab.aa) (by omega)
theorem kU{w:ah}(hs:ag aF w<=1048576):
 ag eK w.1<=1048576/\ag (.sl aj) w.2.2.2.1<=1048576/\ag (.sl bp) w.2.2.2.2.1<=1048576/\ag (.sl ab) w.2.2.2.2.2.1<=1048576/\ag (.sl ak) w.2.2.2.2.2.2.2.1<=1048576/\
 w.2.2.2.2.2.2.2.2.2.1.length<=1048576/\ag (.sl ab) w.2.2.2.2.2.2.2.2.2.2.2.1<=1048576/\ag (.sl al) w.2.2.2.2.2.2.2.2.2.2.2.2.1<=1048576/\ag (.sl ay) w.2.2.2.2.2.2.2.2.2.2.2.2.2<=1048576:=by
 rw[kR hk]at hs;have h:=aA (e:=aD) (l:=w.2.2.2.2.2.2.2.2.2.1);omega
theorem P1{e:Ty}{l:List e.den}(a:ag e e.aa=0)(hs:ag (.sl e) l<=1048576)(n:Nat):ag e (l.getD n e.aa)<=1048576:=by
 by_cases h:n<l.length;have:=fL (e:=e) (d:=e.aa) h;omega;rw[I',List.getElem?_eq_none (by omega),Option.getD_none,a];omega
theorem Gv{w:ah}{t:aE}{d:ax}{n:Int}(hs:ag aF w<=1048576)(hp:(w.2.2.2.1.length:Int)=w.1.1)(q:ag al t<=1048576)(y:ag ay d<=1048576)(f:eC t n=true):
 nU k (w,t,d,())=some (qE k w t d,()):=by
 obtain⟨_,p,_,_,_,_,_,w8,w9⟩:=kU hk hs;obtain⟨t1,t2,t3,t4,t5⟩:=Bg hk q;obtain⟨d1,d2,d3,d4⟩:=Tw hk y;have g:=TB hk (s:=t.2.2.1.1) p;have d6:=xe hk d1;have d7:=aA (e:=ai) (l:=d.2.2.1.1);have d8:=aA (e:=ai) (l:=d.2.2.2.1);simp only[nU,EM hk p t5,lz hk g,lz hk d6,gN hk (a:=d.2.2.1.1) (by omega),gN hk (a:=d.2.2.2.1) (by omega),Du hk t1,g',eu,dn];unfold qE;by_cases r:t.1=1;by_cases b:d.1=1<;>by_cases j:t.2.1=2<;>simp[r,b,j];by_cases z:d.2.2.1.1=t.2.2.1.1<;>cases (cj k w.2.2.2.1 t.2.2.1.1).2<;>by_cases m:(cj k w.2.2.2.1 t.2.2.1.1).1=t.2.2.1<;>simp[m,z];by_cases m:d.2.2.1=t.2.2.1<;>simp[m];by_cases u:t.1=2;by_cases b:d.1=3<;>simp[u,b];by_cases o:t.1=3;obtain⟨e1,e2,C⟩:=XF f o
 have A:(if t.2.1=2 then decide ((t.2.2.2.2.2.1.length:Int)=w.1.1)else decide (t.2.2.2.2.1<w.1.1))=true->t.2.2.2.2.2.1.length<=w.2.2.2.1.length:=by
  by_cases j:t.2.1=2<;>simp[j]<;>intro h<;>omega
 rw[EO hk q p A C];by_cases b:d.1=4<;>simp[o,b];by_cases v:t.1=4;by_cases b:d.1=6<;>simp[v,b];by_cases x:t.1=5;by_cases b:d.1=7<;>simp[x,b];by_cases b:d.1=8<;>by_cases B:d.2.2.2.2.2.1=t.2.2.2.2.2.2.2.1<;>simp[r,u,o,v,x,b,B]
end
def vV(k:Nat)(w:ah)(j:Nat):Int:=bA k (w.2.2.2.2.2.2.2.2.2.2.2.2.1.getD j al.aa) w.2.2.2.1.length
def Hj(w:ah)(j:Nat):Bool:=dj (w.2.2.2.2.2.2.2.2.2.2.2.2.1.getD j al.aa)
def sL(k:Nat)(w:ah):Bool:=
 bL 0 w.2.2.2.1.length (fun i=>bL 0 w.2.2.2.2.2.2.2.2.2.2.2.2.1.length (fun j=>decide (vV k w j=i)==decide ((w.2.2.2.1.getD i aj.aa).1=j)))&&
 (bL 0 w.2.2.2.2.2.2.2.2.2.2.2.2.1.length (fun j=>Hj w j==decide (w.2.2.2.2.2.2.1=j))&&bw w.2.2.2.2.2.2.1 (-1) 4)
section
variable{k:Nat}(hk:9223372036854775808<=k)
include hk
theorem De{w:ah}(hs:ag aF w<=1048576):lv k (w,())=some (sL k w,()):=by
 obtain⟨_,w2,_,_,_,_,_,g,w9⟩:=kU hk hs;have hn:=aA (e:=aj) (l:=w.2.2.2.1);have hm:=aA (e:=al) (l:=w.2.2.2.2.2.2.2.2.2.2.2.2.1);have a:∀j:Nat,ag al (w.2.2.2.2.2.2.2.2.2.2.2.2.1.getD j al.aa)<=1048576:=fun j=>P1 hk (e:=al) rfl g j;simp only[lv,aR]
 refine(gW (fun i:Nat=>(w,w.2.2.2.1,(w.2.2.2.1.length:Int),(i:Int),())) (fun i=>bL 0 w.2.2.2.2.2.2.2.2.2.2.2.2.1.length (fun j=>decide (vV k w j=i)==decide ((w.2.2.2.1.getD i aj.aa).1=j))) w.2.2.2.1.length
  (e:=some (bL 0 w.2.2.2.2.2.2.2.2.2.2.2.2.1.length (fun j=>Hj w j==decide (w.2.2.2.2.2.2.1=j))&&bw w.2.2.2.2.2.2.1 (-1) 4,())) (no:=some (false,())) ?_ ?_ k 0 (by omega) (by omega)).trans ?_
 intro G i f;simp only[aJ,aG f,f,decide_true,if_true,ka]
 refine(gW (fun j:Nat=>(w,(i:Int),w.2.2.2.1.getD i aj.aa,w.2.2.2.1,(w.2.2.2.1.length:Int),(i:Int),w.2.2.2.2.2.2.2.2.2.2.2.2.1,(w.2.2.2.2.2.2.2.2.2.2.2.2.1.length:Int),(j:Int),()))
  (fun j=>decide (vV k w j=i)==decide ((w.2.2.2.1.getD i aj.aa).1=j)) w.2.2.2.2.2.2.2.2.2.2.2.2.1.length
  (e:=G (w,w.2.2.2.1,(w.2.2.2.1.length:Int),((i+1:Nat):Int),())) (no:=some (false,())) ?_ ?_ k 0 (by omega) (by omega)).trans ?_
 intro d j b;simp only[aJ,aG b,b,decide_true,if_true,ka,EX hk (a j),g',eu];rw[br (by omega)];show(if(!(decide (vV k w j=i)==decide ((w.2.2.2.1.getD i aj.aa).1=j)))=true then _ else _)=_;cases (decide (vV k w j=i)==decide ((w.2.2.2.1.getD i aj.aa).1=(j:Int)))<;>rfl;intro d;simp only[aJ,A',decide_false,l7,if_false];rw[br (by omega)];rfl;intro G;simp only[aJ,A',decide_false,l7,if_false]
 refine(gW (fun j:Nat=>(w,w.2.2.2.2.2.2.2.2.2.2.2.2.1,(w.2.2.2.2.2.2.2.2.2.2.2.2.1.length:Int),(j:Int),()))
  (fun j=>Hj w j==decide (w.2.2.2.2.2.2.1=j)) w.2.2.2.2.2.2.2.2.2.2.2.2.1.length
  (e:=some (bw w.2.2.2.2.2.2.1 (-1) 4,())) (no:=some (false,())) ?_ ?_ k 0 (by omega) (by omega)).trans ?_
 intro d j b;simp only[aJ,aG b,b,decide_true,if_true,ka,Cw hk,g',eu];rw[br (by omega)];show(if(!(Hj w j==decide (w.2.2.2.2.2.2.1=j)))=true then _ else _)=_;cases (Hj w j==decide (w.2.2.2.2.2.2.1=(j:Int)))<;>rfl;intro d;simp only[aJ,A',decide_false,l7,if_false,jr hk,g'];cases bL 0 w.2.2.2.2.2.2.2.2.2.2.2.2.1.length (fun j=>Hj w j==decide (w.2.2.2.2.2.2.1=j))<;>simp;unfold sL;cases bL 0 w.2.2.2.1.length (fun i=>bL 0 w.2.2.2.2.2.2.2.2.2.2.2.2.1.length (fun j=>decide (vV k w j=i)==decide ((w.2.2.2.1.getD i aj.aa).1=j)))<;>simp
end
def wD(nn:Int)(h:List aC):Bool:=
 bL 0 h.length (fun i=>decide ((h.getD i aD.aa).2<nn)&&bL 0 i (fun j=> !decide ((h.getD j aD.aa).2=(h.getD i aD.aa).2)))
def zP(w:ah)(g:au)(j:Nat):Bool:=
 decide ((w.2.2.2.2.2.2.2.2.2.1.getD j aD.aa).2=g.1)&&decide ((w.2.2.2.2.2.2.2.2.2.1.getD j aD.aa).1=j8 w.1 g)
def GC(w:ah)(g:au):Bool:=
 if decide ((w.2.2.2.2.2.2.2.2.2.2.2.2.1.getD 4 al.aa).1=6)=true then decide ((w.2.2.2.2.2.2.2.2.2.2.2.2.1.getD 4 al.aa).2.2.2.2.2.2.2.1=g.1)else false
def iM(w:ah)(g:au)(n:Nat):Bool:= !bL 0 n (fun j=> !zP w g j)||GC w g
def yN(w:ah):Bool:=
 bL 0 w.2.2.2.2.2.2.2.1.length (fun i=>(decide ((w.2.2.2.2.2.2.2.1.getD i ak.aa).2.2.1<=w.2.2.1)&&
  (decide ((w.2.2.2.2.2.2.2.1.getD i ak.aa).2.2.2.1<=w.2.2.1)&&decide ((w.2.2.2.2.2.2.2.1.getD i ak.aa).1<w.2.2.2.2.2.2.2.2.1)))&&iM w (w.2.2.2.2.2.2.2.1.getD i ak.aa) w.2.2.2.2.2.2.2.2.2.1.length)
def gY(w:ah):Bool:=
 fN w.2.2.2.2.2.2.2.1 w.1.2.2.2.2.2&&(oJ w.2.2.2.2.2.2.2.2.2.1&&(wD w.2.2.2.2.2.2.2.2.1 w.2.2.2.2.2.2.2.2.2.1&&yN w))
theorem Mo(w:ah)(g:au)(n:Nat):iM w g (n+1)=(if iM w g n=true then true else zP w g n):=by
 unfold iM;rw[M5];cases GC w g<;>cases bL 0 n (fun j=> !zP w g j)<;>cases zP w g n<;>rfl
section
variable{k:Nat}(hk:9223372036854775808<=k)
include hk
theorem Zr{c:bo}(h:ag eK c<=1048576):c.2.2.2.2.2.length<=1048576:=by
 rw[sO hk]at h;have:=aA (e:= .str) (l:=c.2.2.2.2.2);omega
omit hk in
theorem Ze{α:Type}(d:α){l:List α}{i j:Nat}(h:j<i):(l.take i).getD j d=l.getD j d:=by
 simp only[I',List.getElem?_take,h,if_true]
theorem Cy{w:ah}(hs:ag aF w<=1048576)(r:w.2.2.2.2.2.2.2.2.2.2.2.2.1.length=5):kI k (w,())=some (gY w,()):=by
 obtain⟨u,w2,_,_,v,x,_,w8,w9⟩:=kU hk hs;have s:=Zr hk u;have hn:=aA (e:=ak) (l:=w.2.2.2.2.2.2.2.1);simp only[kI,aR,Gf hk v s,KG hk x,g'];unfold gY;cases fN w.2.2.2.2.2.2.2.1 w.1.2.2.2.2.2 with
 |false=>rfl
 |true=>
  cases oJ w.2.2.2.2.2.2.2.2.2.1 with
  |false=>rfl
  |true=>
   simp only[X',l7,if_false,beq_self_eq_true,if_true,g']
   refine(gW (fun i:Nat=>(w,w.2.2.2.2.2.2.2.1,(w.2.2.2.2.2.2.2.1.length:Int),(i:Int),())) (fun i=>(decide ((w.2.2.2.2.2.2.2.1.getD i ak.aa).2.2.1<=w.2.2.1)&&
    (decide ((w.2.2.2.2.2.2.2.1.getD i ak.aa).2.2.2.1<=w.2.2.1)&&decide ((w.2.2.2.2.2.2.2.1.getD i ak.aa).1<w.2.2.2.2.2.2.2.2.1)))&&iM w (w.2.2.2.2.2.2.2.1.getD i ak.aa) w.2.2.2.2.2.2.2.2.2.1.length) w.2.2.2.2.2.2.2.1.length
    (e:=some (wD w.2.2.2.2.2.2.2.2.1 w.2.2.2.2.2.2.2.2.2.1,())) (no:=some (false,())) ?_ ?_ k 0 (by omega) (by omega)).trans ?_
   ·intro n i f;have t:decide ((0:Int)<=4/\(4:Int)<(w.2.2.2.2.2.2.2.2.2.2.2.2.1.length:Int))=true:=by rw[r];rfl
    dsimp only;rw[aJ,c_ f,an rfl,an (aG f),ka];generalize w.2.2.2.2.2.2.2.1.getD i ak.aa=g;simp only[t,decide_true,if_true,Y_,eu];have q1:∀a b:Int,decide (a>b)= !decide (a<=b):=fun a b=>by by_cases h:a<=b<;>simp[h]<;>omega
    rw[show decide (g.1>=w.2.2.2.2.2.2.2.2.1)= !decide (g.1<w.2.2.2.2.2.2.2.2.1)from vE _ _,q1,q1];generalize decide (g.2.2.1<=w.2.2.1)=b1;generalize decide (g.2.2.2.1<=w.2.2.1)=b2;generalize decide (g.1<w.2.2.2.2.2.2.2.2.1)=b3;by_cases o:b1=true/\b2=true/\b3=true;rotate_left
    ·cases b1<;>cases b2<;>cases b3<;>first|rfl|(exact absurd o (by simp))
    obtain⟨y,z,A⟩:=o;subst y z A;rw[ai7,ai7,ai7];refine(yq rfl).trans ?_;refine cV (fun j:Nat=>(w,g,iM w g j,w.2.2.2.2.2.2.2.1,(w.2.2.2.2.2.2.2.1.length:Int),(i:Int),w.2.2.2.2.2.2.2.2.2.1,(w.2.2.2.2.2.2.2.2.2.1.length:Int),(j:Int),())) w.2.2.2.2.2.2.2.2.2.1.length (fun q j d=> ?_) (fun q=> ?_) k 0 (by omega) (by omega)
    ·simp only[aJ,aG d,d,decide_true,if_true,ka,Y_,Sa hk];rw[br (by omega),Mo];unfold zP;cases iM w g j<;>by_cases m:(w.2.2.2.2.2.2.2.2.2.1.getD j aD.aa).2=g.1<;>simp only[m,X',X_,l7,if_false,if_true,decide_true,decide_false,ai7,aju,Bool.and_true,Bool.and_false,beq_self_eq_true,g',beq_iff_eq]<;>rfl
    ·simp only[aJ,A',decide_false,l7,if_false];rw[br (by omega)];cases iM w g w.2.2.2.2.2.2.2.2.2.1.length<;>rfl
   ·intro G;simp only[aJ,A',decide_false,l7,if_false]
    refine(gW (fun i:Nat=>(w,w.2.2.2.2.2.2.2.2.2.1,(w.2.2.2.2.2.2.2.2.2.1.length:Int),(i:Int),())) (fun i=>decide ((w.2.2.2.2.2.2.2.2.2.1.getD i aD.aa).2<w.2.2.2.2.2.2.2.2.1)&&bL 0 i (fun j=> !decide ((w.2.2.2.2.2.2.2.2.2.1.getD j aD.aa).2=(w.2.2.2.2.2.2.2.2.2.1.getD i aD.aa).2))) w.2.2.2.2.2.2.2.2.2.1.length
     (e:=some (true,())) (no:=some (false,())) ?_ ?_ k 0 (by omega) (by omega)).trans ?_
    ·intro G i f;have p:(w.2.2.2.2.2.2.2.2.2.1.take i).length=i:=by rw[List.length_take];omega
     simp only[aJ,aG f,f,decide_true,if_true,ka,vE,p];rcases W_ (decide ((w.2.2.2.2.2.2.2.2.2.1.getD i aD.aa).2<w.2.2.2.2.2.2.2.2.1))with h|h<;>simp only[h,X',X_,l7,if_false,if_true,ai7,aju];rw[an (by simp only[b_];omega)]
     refine(gW (fun j:Nat=>(w,w.2.2.2.2.2.2.2.2.2.1.getD i aD.aa,w.2.2.2.2.2.2.2.2.2.1,(w.2.2.2.2.2.2.2.2.2.1.length:Int),(i:Int),w.2.2.2.2.2.2.2.2.2.1.take i,(i:Int),(j:Int),())) (fun j=> !decide ((w.2.2.2.2.2.2.2.2.2.1.getD j aD.aa).2=(w.2.2.2.2.2.2.2.2.2.1.getD i aD.aa).2)) i
      (e:=G (w,w.2.2.2.2.2.2.2.2.2.1,(w.2.2.2.2.2.2.2.2.2.1.length:Int),((i+1:Nat):Int),())) (no:=some (false,())) ?_ ?_ k 0 (by omega) (by omega)).trans ?_
     ·intro n j d;simp only[aJ,p,aG d,d,decide_true,if_true,ka,eu,Ze aD.aa d];rw[br (by omega)];rcases W_ (decide ((w.2.2.2.2.2.2.2.2.2.1.getD j aD.aa).2=(w.2.2.2.2.2.2.2.2.2.1.getD i aD.aa).2))with m|m<;>simp only[m,X',X_,l7,if_false,if_true]
     ·intro n;simp only[aJ,A',decide_false,l7,if_false];rw[br (by omega)]
     ·rfl
    ·intro n;simp only[aJ,A',decide_false,l7,if_false]
    ·show(if wD w.2.2.2.2.2.2.2.2.1 w.2.2.2.2.2.2.2.2.2.1=true then _ else _)=_;cases wD w.2.2.2.2.2.2.2.2.1 w.2.2.2.2.2.2.2.2.2.1<;>simp
   ·show(if yN w=true then _ else _)=_;cases yN w<;>simp
end
def qY(k:Nat)(w:ah)(d:ax):Bool:=
 gz k d&&(decide (d.2.2.2.2.2.2.2.2.2.1<w.2.1)&&(decide (d.2.2.2.2.2.2.2.2.2.2.1<w.2.1)&&decide (d.2.2.2.2.2.2.2.2.2.2.2<w.2.1)))
def sS(k:Nat)(w:ah):Bool:=bL 0 w.2.2.2.2.2.2.2.2.2.2.2.2.2.length (fun i=>qY k w (w.2.2.2.2.2.2.2.2.2.2.2.2.2.getD i ay.aa))
def qA(w:ah)(t:aE):ax:=w.2.2.2.2.2.2.2.2.2.2.2.2.2.getD t.2.2.2.2.2.2.2.2.toNat ay.aa
def ns(k:Nat)(w:ah):Bool:=bL 0 w.2.2.2.2.2.2.2.2.2.2.2.2.1.length (fun i=>eF k w (w.2.2.2.2.2.2.2.2.2.2.2.2.1.getD i al.aa) (qA w (w.2.2.2.2.2.2.2.2.2.2.2.2.1.getD i al.aa)) i)
def oe(k:Nat)(w:ah):Bool:=
 eY k w.2.2.2.1&&(decide ((w.2.2.2.1.length:Int)=w.1.1)&&(decide ((bm w.2.2.2.1:Int)<=w.1.2.1)&&bL 0 (dN (cK w.2.2.2.1)).length (fun i=>da ((dN (cK w.2.2.2.1)).getD i ab.aa))))
def cw(k:Nat)(w:ah):Bool:=
 dU w.1&&(decide (0<=w.2.1)&&(decide (0<=w.2.2.2.2.2.2.2.2.1)&&(bw w.2.2.1 0 99899&&(oe k w&&(decide ((w.2.2.2.2.1.length:Int)=w.1.2.2.1)&&(decide ((w.2.2.2.2.2.2.2.2.2.2.2.2.1.length:Int)=5)&&(cx w.2.2.2.2.2.1&&(cx w.2.2.2.2.2.2.2.2.2.2.2.1&&
 (zq w.2.2.2.2.1&&(sS k w&&(ns k w&&(sL k w&&gY w))))))))))))
section
variable{k:Nat}(hk:9223372036854775808<=k)
include hk
theorem DH{w:ah}(hs:ag aF w<=1048576)(s:(w.2.2.2.1.length:Int)=w.1.1):lu k (w,())=some (sS k w&&ns k w,()):=by
 obtain⟨w1,w2,_,_,w5,w6,_,y,z⟩:=kU hk hs;have hn:=aA (e:=ay) (l:=w.2.2.2.2.2.2.2.2.2.2.2.2.2);have hm:=aA (e:=al) (l:=w.2.2.2.2.2.2.2.2.2.2.2.2.1);have b:∀j:Nat,ag ay (w.2.2.2.2.2.2.2.2.2.2.2.2.2.getD j ay.aa)<=1048576:=fun j=>P1 hk (e:=ay) rfl z j;have f:∀j:Nat,ag al (w.2.2.2.2.2.2.2.2.2.2.2.2.1.getD j al.aa)<=1048576:=fun j=>P1 hk (e:=al) rfl y j;simp only[lu,aR]
 refine(gW (fun i:Nat=>(w,w.2.2.2.2.2.2.2.2.2.2.2.2.2,(w.2.2.2.2.2.2.2.2.2.2.2.2.2.length:Int),(i:Int),())) (fun i=>qY k w (w.2.2.2.2.2.2.2.2.2.2.2.2.2.getD i ay.aa)) w.2.2.2.2.2.2.2.2.2.2.2.2.2.length
  (e:=some (ns k w,())) (no:=some (false,())) ?_ ?_ k 0 (by omega) (by omega)).trans ?_
 ·intro G i g;dsimp only;rw[aJ,c_ g,an rfl,an (aG g),ka,Ll hk,g',br (by omega)];generalize w.2.2.2.2.2.2.2.2.2.2.2.2.2.getD i ay.aa=d;rw[vE,vE,vE];unfold qY;cases gz k d<;>cases decide (d.2.2.2.2.2.2.2.2.2.1<w.2.1)<;>cases decide (d.2.2.2.2.2.2.2.2.2.2.1<w.2.1)<;>cases decide (d.2.2.2.2.2.2.2.2.2.2.2<w.2.1)<;>rfl
 ·intro G;simp only[aJ,A',decide_false,l7,if_false]
  refine(gW (fun i:Nat=>(w,w.2.2.2.2.2.2.2.2.2.2.2.2.1,(w.2.2.2.2.2.2.2.2.2.2.2.2.1.length:Int),(i:Int),())) (fun i=>eF k w (w.2.2.2.2.2.2.2.2.2.2.2.2.1.getD i al.aa) (qA w (w.2.2.2.2.2.2.2.2.2.2.2.2.1.getD i al.aa)) i) w.2.2.2.2.2.2.2.2.2.2.2.2.1.length
   (e:=some (true,())) (no:=some (false,())) ?_ ?_ k 0 (by omega) (by omega)).trans ?_
  ·intro r i g;have n:ag al (w.2.2.2.2.2.2.2.2.2.2.2.2.1.getD i al.aa)<=1048576:=f i;dsimp only;rw[aJ,c_ g,an rfl,an (aG g),ka,br (by omega)];generalize w.2.2.2.2.2.2.2.2.2.2.2.2.1.getD i al.aa=t at*
   have o:ag ay (qA w t)<=1048576:=b _;unfold qA at o|-;generalize w.2.2.2.2.2.2.2.2.2.2.2.2.2.getD t.2.2.2.2.2.2.2.2.toNat ay.aa=d at*
   rw[K7 hk n,g'];unfold eF;by_cases a:eC t i=true;rotate_left
   ·simp[a]
   obtain⟨A,hkind⟩:=Se a;rw[Gv hk hs s n o a];by_cases h:t.1=0
   ·simp[h,a]
   by_cases p:t.2.2.2.2.2.2.2.2<(w.2.2.2.2.2.2.2.2.2.2.2.2.2.length:Int);rotate_left
   ·have:decide (t.2.2.2.2.2.2.2.2>=(w.2.2.2.2.2.2.2.2.2.2.2.2.2.length:Int))=true:=by simp only[b_];omega
    simp[h,this,p,a]
   have q1:decide (t.2.2.2.2.2.2.2.2>=(w.2.2.2.2.2.2.2.2.2.2.2.2.2.length:Int))=false:=by simp only[d_];omega
   simp only[a,q1,A,and_true,true_and,if_true,X',l7,if_false,p,h,decide_true,decide_false,ai7,Bool.false_or,eu,lT];by_cases m:d.2.1=i;rotate_left
   ·simp[m]
   by_cases q:d.2.2.2.2.2.2.2.2.2.2.2= -1;rotate_left
   ·simp[m,q]
   by_cases u:d.2.2.2.2.2.2.2.2.2.2.1= -1<;>by_cases v:t.1=1<;>by_cases x:t.2.1=2<;>cases qE k w t d<;>simp[m,q,u,v,x]
  ·intro r;simp only[aJ,A',decide_false,l7,if_false]
  ·show(if ns k w=true then _ else _)=_;cases ns k w<;>simp
 ·show(if sS k w=true then _ else _)=_;cases sS k w<;>simp
theorem sorted_at{l:List aq}(hs:ag (.sl aj) l<=1048576){i:Nat}(hi:i<(dN (cK l)).length):ag ab ((dN (cK l)).getD i ab.aa)<=1048576:=by
 have h1:=jz hk l;have h2:=wG (cK l);have h3:=fL (e:=ab) (d:=ab.aa) hi;omega
omit hk in
theorem TH(l:List aq):(dN (cK l)).length=bm l:=by
 have:=NF dB (cK l);unfold dN cD bm;rw[List.length_reverse];exact this
theorem Dy{w:ah}(hs:ag aF w<=1048576)(h8:w.1.2.1<=8):lh k (w,())=some (oe k w,()):=by
 obtain⟨w1,b,_,_,w5,w6,_,w8,w9⟩:=kU hk hs;have hc:=Vj hk b;have hsl:=TH w.2.2.2.1;simp only[lh,aR,H6 hk b,wN hk b,g',lT];unfold oe;cases eY k w.2.2.2.1 with
 |false=>rfl
 |true=>
  rcases W_ (decide ((w.2.2.2.1.length:Int)=w.1.1))with hq|hq;rotate_left
  ·rw[hq];rfl
  ·rw[hq];simp only[X',l7,if_false,ai7,beq_self_eq_true,if_true,g'];by_cases a:(bm w.2.2.2.1:Int)<=w.1.2.1;rotate_left
   ·rw[an (by simp only[b_];omega),decide_eq_false a];rfl
   rw[a_ (by simp only[b_];omega),c_ a,EY hk b (by omega),g']
   refine(gW (fun i:Nat=>(w,dN (cK w.2.2.2.1),((dN (cK w.2.2.2.1)).length:Int),(i:Int),())) (fun i=>da ((dN (cK w.2.2.2.1)).getD i ab.aa)) (dN (cK w.2.2.2.1)).length
    (e:=some (true,())) (no:=some (false,())) ?_ ?_ k 0 (by omega) (by omega)).trans ?_
   ·intro G i d;have f:=sorted_at hk b d;dsimp only;rw[aJ,c_ d,an rfl,an (aG d),ka,Du hk f,g',br (by omega)];cases da ((dN (cK w.2.2.2.1)).getD i ab.aa)<;>rfl
   ·intro G;simp only[aJ,A',decide_false,l7,if_false]
   ·cases bL 0 (dN (cK w.2.2.2.1)).length (fun i=>da ((dN (cK w.2.2.2.1)).getD i ab.aa))<;>simp
omit hk in
theorem QM{l:List aq}(h:eY k l=true):(1<=l.length/\l.length<=3)/\∀i,i<l.length->bw (l.getD i aj.aa).1 (-1) 4=true:=by
 unfold eY at h;simp only[J6,cA]at h;obtain⟨d,a⟩:=h;refine⟨?_,fun i b=> ?_⟩;unfold bw at a;simp only[J6,b_]at a;omega;have:=d i (by omega) b;unfold jj at this;simp only[J6]at this;exact this.2.1
theorem KB{w:ah}(hs:ag aF w<=1048576):pn k (w,())=some (cw k w,()):=by
 obtain⟨l,w2,m,n,w5,w6,o,w8,w9⟩:=kU hk hs;simp only[pn,LC hk l,jr hk,g',lT,dn];have g0:∀a:Int,decide (a<0)= !decide (0<=a):=fun a=>by by_cases h:a<0<;>simp[h]<;>omega
 rw[g0,g0];unfold cw;by_cases b:dU w.1=true/\0<=w.2.1/\0<=w.2.2.2.2.2.2.2.2.1/\bw w.2.2.1 0 99899=true/\(w.2.2.2.2.2.2.2.2.2.2.2.2.1.length:Int)=5;rotate_left
 ·have j:(dU w.1&&(decide (0<=w.2.1)&&(decide (0<=w.2.2.2.2.2.2.2.2.1)&&(bw w.2.2.1 0 99899&&(oe k w&&(decide ((w.2.2.2.2.1.length:Int)=w.1.2.2.1)&&(decide ((w.2.2.2.2.2.2.2.2.2.2.2.2.1.length:Int)=5)&&(cx w.2.2.2.2.2.1&&(cx w.2.2.2.2.2.2.2.2.2.2.2.1&&
   (zq w.2.2.2.2.1&&(sS k w&&(ns k w&&(sL k w&&gY w)))))))))))))=false:=by
   rw[Bool.eq_false_iff];intro h;simp only[J6,b_]at h;exact b ⟨h.1,h.2.1,h.2.2.1,h.2.2.2.1,h.2.2.2.2.2.2.1⟩
  rw[j];refine(an ?_).trans rfl
  have d:¬(dU w.1=true/\decide (0<=w.2.1)=true/\decide (0<=w.2.2.2.2.2.2.2.2.1)=true/\bw w.2.2.1 0 99899=true/\decide ((w.2.2.2.2.2.2.2.2.2.2.2.2.1.length:Int)=5)=true):=by
   simpa only[b_]using b
  generalize dU w.1=b1 at d|-;generalize decide (0<=w.2.1)=b2 at d|-;generalize decide (0<=w.2.2.2.2.2.2.2.2.1)=b3 at d|-;generalize bw w.2.2.1 0 99899=b4 at d|-;generalize decide ((w.2.2.2.2.2.2.2.2.2.2.2.2.1.length:Int)=5)=b7 at d|-;clear b j;cases b1
  ·rfl
  cases b2
  ·rfl
  cases b3
  ·rfl
  cases b4
  ·rfl
  cases b7
  ·rfl
  exact absurd ⟨rfl,rfl,rfl,rfl,rfl⟩ d
 obtain⟨g,p,q,r,h7⟩:=b
 have e:w.1.2.1<=8:=by
  unfold dU bw at g;simp only[J6,b_]at g;omega
 rw[g,c_ p,c_ q,r,c_ h7];simp only[ai7];refine(yq rfl).trans ?_;rw[Dy hk hs e,g'];rcases W_ (oe k w)with h5|h5;rotate_left
 ·rw[h5];rfl
 have f:eY k w.2.2.2.1=true/\(w.2.2.2.1.length:Int)=w.1.1:=by
  unfold oe at h5;simp only[J6,b_]at h5;exact⟨h5.1,h5.2.1⟩
 rw[h5,EV hk m,mA hk n,mA hk o,DH hk hs f.2,De hk hs,Cy hk hs (by omega)];generalize decide ((w.2.2.2.2.1.length:Int)=w.1.2.2.1)=c1;generalize cx w.2.2.2.2.2.1=c2;generalize cx w.2.2.2.2.2.2.2.2.2.2.2.1=c3;generalize zq w.2.2.2.2.1=c4;generalize sS k w=c5;generalize ns k w=c6;generalize sL k w=c7;generalize gY w=c8;clear h5 f;cases c4<;>cases c1<;>cases c2<;>cases c3<;>cases c5<;>cases c6<;>cases c7<;>first|rfl|(cases c8<;>rfl)
end
def Ae(c:bo):List bU:=ai4 c.2.2.1.toNat ([],false)
def abj:bo:=(0,0,0,0,0,[])
def xO:aE:=(0,0,([],0,0,ByteArray.empty),[],0,[],[],0,0)
def gJ(n:Int):List aq:=ai4 (if 1<=n/\n<=3 then n.toNat else 1) (-1,0,[])
def n7(c:bo):ah:=if dU c=true then(c,0,0,gJ c.1,Ae c,[],-1,[],0,[],[],[],ai4 5 xO,[])else(abj,0,0,[],[],[],0,[],0,[],[],[],[],[])
theorem RE{c:bo}(h:dU c=true):1<=c.2.2.1/\c.2.2.1<=2/\1<=c.1/\c.1<=3:=by
 simp only[dU,bw,J6,b_]at h;omega
theorem Hu{α:Type}(x:α)(i:Nat):ai4 (i+1) x=ai4 i x++[x]:=by
 rw[List.replicate_succ']
section
variable{k:Nat}(hk:9223372036854775808<=k)
include hk
theorem GD{n:Int}:nT k (n,())=some (gJ n,()):=by
 simp only[nT];unfold gJ;by_cases a:1<=n/\n<=3;rw[an a];refine cV (fun i=>(n,ai4 (i+1) ((-1,0,[]):aq),())) (n.toNat-1) (fun G i hi=> ?_) (fun G=> ?_) k 0 (by omega) (by omega);simp only;rw[an (by simp;omega),an (by simp;omega),<-Hu];simp only;rw[a_ (by simp;omega)];congr 3;omega;rw[a_ a];obtain⟨k,rfl⟩:∃m,k=m+1:=⟨k-1,by omega⟩
 show(if _ then _ else _)=_;rw[a_ (by simp;omega)];rfl
theorem GY{c:bo}(h:ag eK c<=1048576):nK k (c,())=some (n7 c,()):=by
 simp only[nK,aR];rw[Lk hk h,g'];unfold n7;cases hc:dU c with
 |false=>rfl
 |true=>
  have hs:=RE hc;rw[a_ (by simp),JJ hk (by omega),g',GD hk,g'];refine cV (fun i=>(c,_,(c,(0:Int),(0:Int),gJ c.1,ai4 i (([],false):bU),([]:List ae),(-1:Int),([]:List au),(0:Int),([]:List aC),([]:List bY),([]:List ae),([]:List aE),([]:List ax)),(i:Int),())) c.2.2.1.toNat (fun G i a=> ?_) (fun G=> ?_) k 0 (by omega) (by omega);simp only;rw[an (by simp;omega),an (by simp;omega),br (by omega),Hu];simp only;rw[a_ (by simp;omega)];refine cV (fun i=>(c,_,(c,(0:Int),(0:Int),gJ c.1,Ae c,([]:List ae),(-1:Int),([]:List au),(0:Int),([]:List aC),([]:List bY),([]:List ae),ai4 i xO,([]:List ax)),(i:Int),())) 5 (fun G i a=> ?_) (fun G=> ?_) k 0 (by omega) (by omega);simp only;rw[an (by simp;omega),an (by simp;omega),br (by omega),Hu];rfl;simp only;rw[a_ (by simp)];rfl
end
abbrev eQ(w:ah):List aE:=w.2.2.2.2.2.2.2.2.2.2.2.2.1
abbrev bE(w:ah):List ax:=w.2.2.2.2.2.2.2.2.2.2.2.2.2
def Vl(w:ah)(t:List aE)(d:List ax):ah:=
 (w.1,IntKind.i64.wrap (w.2.1+1),w.2.2.1,w.2.2.2.1,w.2.2.2.2.1,w.2.2.2.2.2.1,w.2.2.2.2.2.2.1,w.2.2.2.2.2.2.2.1,w.2.2.2.2.2.2.2.2.1,w.2.2.2.2.2.2.2.2.2.1,w.2.2.2.2.2.2.2.2.2.2.1,w.2.2.2.2.2.2.2.2.2.2.2.1,t,d)
def uI(t:aE)(h:Int):aE:=(t.1,t.2.1,t.2.2.1,t.2.2.2.1,t.2.2.2.2.1,t.2.2.2.2.2.1,t.2.2.2.2.2.2.1,t.2.2.2.2.2.2.2.1,h)
def opened(w:ah)(i op:Int)(a:ae)(l:List af)(n:Int):ax:=(op,i,a,l,0,n,0,[],w.2.2.1,w.2.1,-1,-1)
def iL(w:ah)(i:Int)(t:aE)(op:Int):ah:=
 Vl w ((eQ w).set i.toNat (uI t (bE w).length)) (bE w++[opened w i op t.2.2.1 t.2.2.2.1 t.2.2.2.2.2.2.2.1])
def JO(w:ah)(i:Int):Bool:=bw i 0 (((eQ w).length:Int)-1)&&decide (((eQ w).getD i.toNat al.aa).1=0)
def dD(w:ah)(i:Int):Bool:=bw i 0 2&&JO w i
def BH:ae:=([],0,0,ByteArray.empty)
def tZ:aE:=(4,0,BH,[],0,[],[],0,0)
def tI:aE:=(3,0,BH,[],0,[],[],0,0)
def xw(l:List af):aE:=(2,0,BH,l,0,[],[],0,0)
def wc(a:ae):aE:=(1,0,a,[],0,[],[],0,0)
def Lv(k:Nat)(w:ah)(i:Int):Bool:=cw k w&&dD w i
def refused(w:ah)(i:Int)(a:ae):ah:=Vl w (eQ w) (bE w++[(1,i,a,[],0,0,4,[],w.2.2.1,w.2.1,w.2.1,w.2.1)])
theorem Ec{w:ah}{i:Int}(h:dD w i=true):0<=i/\i<=2/\i.toNat<(eQ w).length:=by
 unfold dD JO bw at h;simp only[J6,b_]at h;omega
def W6(k:Nat)(x:ah×Int×aE×Unit):Option (ah×Unit):=
 ajf (dQ k (x.1,x.2.1,x.2.2.1,())) fun a=>some ((a.1.1,IntKind.i64.wrap (a.1.2.1+(1:Int)),a.1.2.2),())
section
variable{k:Nat}(hk:9223372036854775808<=k)
include hk
theorem Jj{w:ah}(hs:ag aF w<=1048576):(eQ w).length<=1048576/\(bE w).length<=1048576:=by
 obtain⟨w1,w2,w3,w4,w5,w6,w7,a,b⟩:=kU hk hs;exact⟨G4 (aA (e:=al)) a,G4 (aA (e:=ay)) b⟩
theorem Ly{op:Int}(h0:0<=op)(h1:op<=6):gn k (op,())=some (ajj [0,1,3,4,6,7,8] op.toNat 0,()):=by
 simp only[gn];rw[an (by simp;omega)]
theorem SA{w:ah}{i:Int}{t:aE}(hs:ag aF w<=1048576)(ht:ag al t<=1048576)(b:0<=t.1)(d:t.1<=6)(hi:0<=i)(hi2:i.toNat<w.2.2.2.2.2.2.2.2.2.2.2.2.1.length):
 W6 k (w,i,t,())=some (iL w i t (ajj [0,1,3,4,6,7,8] t.1.toNat 0),()):=by
 have hl:w.2.2.2.2.2.2.2.2.2.2.2.2.2.length<=1048576:=(Jj hk hs).2;have hT:=fO hk t;have h2:=aA (e:=ai) (l:=t.2.2.2.1);simp only[W6,dQ];rw[Bf hk (by omega),g'];simp only[Ly hk b d,dS hk (a:=t.2.2.1) (by omega),g',ai6,ajd,Nat.zero_add,F'];rw[an (by simp;omega),an (by simp;omega),an (by simp;omega),g'];rfl
theorem Oc{w:ah}{i:Int}{t:aE}(hs:ag aF w<=1048576)(b:ag al t<=1048576)(d:0<=t.1)(e:t.1<=6)(hi:0<=i)(a:i.toNat<w.2.2.2.2.2.2.2.2.2.2.2.2.1.length):
 fq k (w,i,t,())=some (iL w i t (ajj [0,1,3,4,6,7,8] t.1.toNat 0),()):=SA hk hs b d e hi a
theorem qq{w:ah}{d:ax}(hs:ag aF w<=1048576):cU k (w,d,())=some ((w.1,w.2.1,w.2.2.1,w.2.2.2.1,w.2.2.2.2.1,w.2.2.2.2.2.1,w.2.2.2.2.2.2.1,w.2.2.2.2.2.2.2.1,w.2.2.2.2.2.2.2.2.1,w.2.2.2.2.2.2.2.2.2.1,w.2.2.2.2.2.2.2.2.2.2.1,w.2.2.2.2.2.2.2.2.2.2.2.1,eQ w,
 bE w++[(d.1,d.2.1,d.2.2.1,d.2.2.2.1,d.2.2.2.2.1,d.2.2.2.2.2.1,d.2.2.2.2.2.2.1,d.2.2.2.2.2.2.2.1,w.2.2.1,w.2.1,w.2.1,w.2.1)]),()):=by
 have hl:w.2.2.2.2.2.2.2.2.2.2.2.2.2.length<=1048576:=(Jj hk hs).2;simp only[cU];rw[an (by simp;omega)]
end
theorem OE{k:Nat}{w:ah}(h:cw k w=true):eY k w.2.2.2.1=true/\(w.2.2.2.1.length:Int)=w.1.1/\w.2.2.2.2.2.2.2.2.2.2.2.2.1.length=5/\ns k w=true:=by
 unfold cw oe at h;simp only[J6,b_]at h;obtain⟨_,_,_,_,⟨a,b,_⟩,_,h3,_,_,_,_,d,_⟩:=h;exact⟨a,b,by omega,d⟩
section
variable{k:Nat}(hk:9223372036854775808<=k)
include hk
end
def xc(d:ax)(j_ ti code:Int):ax:=(d.1,d.2.1,d.2.2.1,d.2.2.2.1,d.2.2.2.2.1,d.2.2.2.2.2.1,code,d.2.2.2.2.2.2.2.1,j_,d.2.2.2.2.2.2.2.2.2.1,ti,d.2.2.2.2.2.2.2.2.2.2.2)
def rH(d:ax)(ti:Int):ax:=(d.1,d.2.1,d.2.2.1,d.2.2.2.1,d.2.2.2.2.1,d.2.2.2.2.2.1,d.2.2.2.2.2.2.1,d.2.2.2.2.2.2.2.1,d.2.2.2.2.2.2.2.2.1,d.2.2.2.2.2.2.2.2.2.1,d.2.2.2.2.2.2.2.2.2.2.1,ti)
def dH(d:ax):Int:=d.2.2.2.2.2.2.2.2.2.2.1
def YV(d:ax)(j_ ti code:Int):ax:=rH (if dH d= -1 then xc d j_ ti code else d) ti
def iA(d:ax)(j_ inv a res:Int):ax:=(d.1,d.2.1,d.2.2.1,d.2.2.2.1,d.2.2.2.2.1,d.2.2.2.2.2.1,d.2.2.2.2.2.2.1,d.2.2.2.2.2.2.2.1,j_,inv,a,res)
def bC(t:aE):Int:=t.2.2.2.2.2.2.2.2
theorem aT{α:Type}{l:List α}{n:Nat}(a d:α)(h:n<l.length):(l.set n a).getD n d=a:=by
 rw[I',List.getElem?_set_self h];rfl
section
variable{k:Nat}(hk:9223372036854775808<=k)
include hk
variable{c:bo}{ti j_ gr nn:Int}{st:List aq}{m_:List bU}{k_ l_:List ae}{f_:List au}{i_:List aC}{n_:List bY}{h_:List aE}{g_:List ax}
theorem Qk{d:ax}(hn:g_.length<=1048576):
 cU k ((c,ti,j_,st,m_,k_,gr,f_,nn,i_,n_,l_,h_,g_),d,())=
  some ((c,ti,j_,st,m_,k_,gr,f_,nn,i_,n_,l_,h_,g_++[iA d j_ ti ti ti]),()):=by
 simp only[cU];rw[an (c_ (by simp only[F'];omega))];rfl
theorem xg{i:Nat}(hi:i<h_.length):
 lW k ((c,ti,j_,st,m_,k_,gr,f_,nn,i_,n_,l_,h_,g_),(i:Int),())=
  if gr= -1 then some (true,(c,ti,j_,st,m_,k_,(i:Int),f_,nn,i_,n_,l_,h_.set i ((h_.getD i al.aa).1,1,(h_.getD i al.aa).2.2),g_),())
  else some (false,(c,ti,j_,st,m_,k_,gr,f_,nn,i_,n_,l_,h_,g_),()):=by
 simp only[lW,ka,lT];by_cases h:gr= -1;rw[a_ (by simpa using h),an (aG hi),an h];rw[an (by simpa using h),a_ h]
theorem su{i j:Nat}(hi:i<h_.length)(a:j<st.length):
 jI k ((c,ti,j_,st,m_,k_,gr,f_,nn,i_,n_,l_,h_,g_),(i:Int),(j:Int),())=
  if(st.getD j aj.aa).1= -1 then some (true,(c,ti,j_,st.set j ((i:Int),(st.getD j aj.aa).2),m_,k_,gr,f_,nn,i_,n_,l_,h_.set i ((h_.getD i al.aa).1,1,(h_.getD i al.aa).2.2),g_),())
  else some (false,(c,ti,j_,st,m_,k_,gr,f_,nn,i_,n_,l_,h_,g_),()):=by
 simp only[jI,ka,lT];rw[an (aG a)];by_cases h:(st.getD j aj.aa).1= -1;rw[a_ (by simpa using h),an (aG a),an (aG hi),an h];rw[an (by simpa using h),a_ h]
end
def AD(d:ax)(j_ ti code:Int)(got:List ae):ax:=(d.1,d.2.1,d.2.2.1,d.2.2.2.1,d.2.2.2.2.1,d.2.2.2.2.2.1,code,got,j_,d.2.2.2.2.2.2.2.2.2.1,ti,d.2.2.2.2.2.2.2.2.2.2.2)
def rD(d:ax)(j_ ti code:Int)(got:List ae):ax:=rH (if dH d= -1 then AD d j_ ti code got else d) ti
section
variable{k:Nat}(hk:9223372036854775808<=k)
include hk
variable{c:bo}{ti j_ gr nn:Int}{st:List aq}{m_:List bU}{k_ l_:List ae}{f_:List au}{i_:List aC}{n_:List bY}{h_:List aE}{g_:List ax}
set_option maxHeartbeats 4000000 in
theorem gB{i n:Nat}{code:Int}{got:List ae}(hi:i<h_.length)(a:n<g_.length)(he:bC (h_.getD i al.aa)=(n:Int))
 (e:ag (.sl ab) got<=1073741824):
 cP k ((c,ti,j_,st,m_,k_,gr,f_,nn,i_,n_,l_,h_,g_),(i:Int),code,got,())=
  some ((c,ti,j_,st,m_,k_,gr,f_,nn,i_,n_,l_,h_.set i zT,g_.set n (rD (g_.getD n ay.aa) j_ ti code got)),()):=by
 unfold bC at he;simp only[cP,ka,he,jq,aR];rw[an (aG hi),an (aG a)];have d:((0,0,(([]:List af),0,0,ByteArray.empty),([]:List af),0,([]:List Int),([]:List ae),0,0):aE)=zT:=rfl;unfold rD dH;by_cases b:(g_.getD n ay.aa).2.2.2.2.2.2.2.2.2.2.1= -1;rw[an (by rw[beq_iff_eq];exact b),gM hk e,g',an b];simp only[aT _ _ a,ai5,Y',aG hi,aG a,if_true,d,rH,AD];rw[a_ (by rw[beq_iff_eq];exact b),a_ b];simp only[aT _ _ a,ai5,Y',aG hi,aG a,if_true,d,rH,AD]
theorem we{i:Nat}{t:aE}{o:Int}(hi:i<h_.length)(hn:g_.length<=1048576)(ht:ag al t<=1048576)(a:gn k (t.1,())=some (o,()))(hA:ag ab t.2.2.1<=1048576)(hL:t.2.2.2.1.length<=1048576):
 dQ k ((c,ti,j_,st,m_,k_,gr,f_,nn,i_,n_,l_,h_,g_),(i:Int),t,())=
  some ((c,ti,j_,st,m_,k_,gr,f_,nn,i_,n_,l_,h_.set i (t.1,t.2.1,t.2.2.1,t.2.2.2.1,t.2.2.2.2.1,t.2.2.2.2.2.1,t.2.2.2.2.2.2.1,t.2.2.2.2.2.2.2.1,(g_.length:Int)),
   g_++[(o,(i:Int),t.2.2.1,t.2.2.2.1,0,t.2.2.2.2.2.2.2.1,0,[],j_,ti,-1,-1)]),()):=by
 simp only[dQ,Bf hk (show ag al t<=1073741824 by omega),g',a,dS hk (show ag ab t.2.2.1<=1073741824 by omega),ka];rw[an (aG hi),an (c_ (by simp only[ajd];omega)),an (c_ (by simp only[F'];omega))];rfl
end
def fv(s x:Bool)(d:ax)(j_ ti code:Int)(got:List ae):ax:=if(s||x)=true then rD d j_ ti code got else YV d j_ ti code
def uW(k:Nat)(c:bo)(st:List aq)(a:ae):Bool:= !(cj k st a.1).2&&decide (c.2.1<=(bm st:Int))
def cH(st:List aq)(j:Nat)(x:Int):List aq:=st.set j (x,(st.getD j aj.aa).2)
def tick(ti:Int):Int:=IntKind.i64.wrap (ti+1)
def rC(i:Int)(a:ae):ax:=(2,i,a,[],0,0,8,[],0,0,0,0)
def fF(w:ah)(i j:Nat):Bool×ah:=
 match w with
 |(c,ti,j_,st,m_,k_,gr,f_,nn,i_,n_,l_,h_,g_)=>
  if(st.getD j aj.aa).1= -1 then(true,(c,ti,j_,cH st j i,m_,k_,gr,f_,nn,i_,n_,l_,h_.set i ((h_.getD i al.aa).1,1,(h_.getD i al.aa).2.2),g_))else(false,w)
def bT(r:Bool×ah):Bool×ah:=if r.1=true then(true,(r.2.1,tick r.2.2.1,r.2.2.2))else r
def ux(s:Bool)(k:Nat)(w:ah)(i:Nat):Bool×ah:=
 match w with
 |(c,ti,j_,st,m_,k_,gr,f_,nn,i_,n_,l_,h_,g_)=>
  let t:=h_.getD i al.aa
  let n:=(bC t).toNat
  let j:=(bF k st t.2.2.1.1).toNat
  let d:=g_.getD n ay.aa
  if t.2.1=0 then fF w i j
  else if t.2.1=1 then
   if uW k c st t.2.2.1=true then(true,(c,ti,j_,cH st j (-1),m_,k_,gr,f_,nn,i_,n_,l_,h_.set i zT,g_.set n (fv s false d j_ ti 3 [])))
   else(true,(c,ti,j_,(fa k st t.2.2.1).1,m_,k_,gr,f_,nn,i_,n_,l_,h_.set i (t.1,2,(cj k (fa k st t.2.2.1).1 t.2.2.1.1).1,t.2.2.2),g_.set n (xc d j_ ti (if(fa k st t.2.2.1).2=true then 1 else 2))))
  else(true,(c,ti,j_,cH st j (-1),m_.map (tz t.2.2.1),k_++[t.2.2.1],gr,f_,nn,i_,n_,l_++[t.2.2.1],h_.set i zT,(g_++[iA (rC i t.2.2.1) j_ ti ti ti]).set n (rH d ti)))
def cN(s:Bool)(k:Nat)(w:ah)(i:Nat):Bool×ah:=bT (ux s k w i)
theorem xD{α:Type}{l:List α}{n:Nat}(x d:α)(h:n<l.length):(l++[x]).getD n d=l.getD n d:=by
 rw[I',I',List.getElem?_append_left h]
theorem Te{α:Type}{b:Bool}{a cap:Int}{X Y:Option α}:(ajf (if((!b)==true)=true then some (a,())else some (0,())) fun(r:Int×Unit)=>if(if(!b)=true then decide (r.1>=cap)else false)=true then X else Y)=
 if(!b&&decide (cap<=a))=true then X else Y:=by cases b<;>simp
section
variable{k:Nat}(hk:9223372036854775808<=k)
include hk
variable{c:bo}{ti j_ gr nn:Int}{st:List aq}{m_:List bU}{k_ l_:List ae}{f_:List au}{i_:List aC}{n_:List bY}{h_:List aE}{g_:List ax}
theorem jx(hs:ag aF (c,ti,j_,st,m_,k_,gr,f_,nn,i_,n_,l_,h_,g_)<=1048576):
 ag eK c+ag (.sl aj) st+ag (.sl bp) m_+ag (.sl ab) k_+ag (.sl ak) f_+ag (.sl aD) i_+ag (.sl eP) n_+ag (.sl ab) l_+ag (.sl al) h_+ag (.sl ay) g_<=1048576:=by
 rw[kR hk]at hs;exact hs
theorem PX{l:List aq}{s:List af}(h:l.length≠0):∃j:Nat,j<l.length/\bF k l s=(j:Int):=by
 obtain⟨h0,h1,a⟩:=oy (k:=k) (l:=l) (s:=s) h;exact⟨(bF k l s).toNat,a,by omega⟩
theorem sq{i j:Nat}{t:aE}(hi:i<h_.length)(a:h_.getD i al.aa=t)(b:ag (.sl ai) t.2.2.1.1<=1048576)(d:bF k st t.2.2.1.1=(j:Int)):
 jG k ((c,ti,j_,st,m_,k_,gr,f_,nn,i_,n_,l_,h_,g_),(i:Int),())=some ((j:Int),()):=by
 simp only[jG,ka,a];rw[an (aG hi),pH hk b,g',d]
set_option maxHeartbeats 4000000 in
theorem EP{i n j:Nat}{t:aE}{d:ax}(hs:ag aF (c,ti,j_,st,m_,k_,gr,f_,nn,i_,n_,l_,h_,g_)<=1048576)(hi:i<h_.length)(b:h_.getD i al.aa=t)(p:t.1=1)
 (r:j<st.length) (q:bF k st t.2.2.1.1=(j:Int)) (g:n<g_.length) (he:bC t=(n:Int)) (h:g_.getD n ay.aa=d) (m:t.2.1=1):
 mN k ((c,ti,j_,st,m_,k_,gr,f_,nn,i_,n_,l_,h_,g_),(i:Int),())=
  some ((ux true k (c,ti,j_,st,m_,k_,gr,f_,nn,i_,n_,l_,h_,g_) i).2,()):=by
 have hsum:=jx hk hs;have o:=fL (e:=al) (d:=al.aa) hi;rw[b]at o;have hdl:=aA (e:=ay) (l:=g_);have hta:=fO hk t;have htA:=bI hk t.2.2.1;have f:=he;unfold bC at f;simp only[mN,ka,b,f,aR,jq];rw[an (aG hi),sq hk hi b (by omega) q,g',lq hk (by omega) (by omega),g',Jp hk (by omega),Te];unfold ux;simp only[b,he,h,q,ka,m,uW];rw[a_ (show¬(1:Int)=0 by decide)];cases hb:(!(cj k st t.2.2.1.1).2&&decide (c.2.1<=(bm st:Int)))with
 |true=>
  rw[an rfl,an rfl,an (aG r),gB hk hi g (by rw[b];exact he) (by simp[ag]),g',h];rfl
 |false=>
  have hpt:=Vk hk (l:=st) (a:=t.2.2.1);rw[a_ ai0,a_ ai0,Gj hk (by omega) (by omega),g',an (aG g)];cases hf:(fa k st t.2.2.1).2 with
  |true=>
   rw[an rfl];dsimp only;rw[lq hk (by omega) (by omega),g',an (aG hi),Y',an (aG hi)];simp only[ai5,aT _ _ hi,aT _ _ g,ka,b,h,p];rfl
  |false=>
   rw[a_ ai0];dsimp only;rw[lq hk (by omega) (by omega),g',an (aG hi),Y',an (aG hi)];simp only[ai5,aT _ _ hi,aT _ _ g,ka,b,h,p];rfl
set_option maxHeartbeats 4000000 in
theorem HF{i n j:Nat}{t:aE}{d:ax}(hs:ag aF (c,ti,j_,st,m_,k_,gr,f_,nn,i_,n_,l_,h_,g_)<=1048576)(hi:i<h_.length)(a:h_.getD i al.aa=t)(m:t.1=1)
 (g:j<st.length) (f:bF k st t.2.2.1.1=(j:Int)) (r:n<g_.length) (he:bC t=(n:Int)) (h:g_.getD n ay.aa=d) (o:t.2.1=0\/t.2.1=1\/t.2.1=2)
 (s:t.2.1=2->dH d≠-1):
 oM k ((c,ti,j_,st,m_,k_,gr,f_,nn,i_,n_,l_,h_,g_),(i:Int),())=
  some ((cN true k (c,ti,j_,st,m_,k_,gr,f_,nn,i_,n_,l_,h_,g_) i).1,(cN true k (c,ti,j_,st,m_,k_,gr,f_,nn,i_,n_,l_,h_,g_) i).2,()):=by
 have hsum:=jx hk hs;have p:=fL (e:=al) (d:=al.aa) hi;rw[a]at p;have hdl:=aA (e:=ay) (l:=g_);have hfl:=aA (e:=ab) (l:=k_);have hsl:=aA (e:=ab) (l:=l_);have htl:=aA (e:=al) (l:=h_);have hta:=fO hk t;have htA:=bI hk t.2.2.1;simp only[oM,ka,a,m,aR,jq,eu,lT];rw[an (aG hi)];unfold cN;rcases o with b|b|b;rw[b,an (by decide),sq hk hi a (by omega) f,g'];dsimp only;rw[an (aG g),an (aG g),an (aG hi)];unfold ux fF bT;simp only[a,he,h,f,ka,b,m];split<;>simp_all[tick,cH];rw[b,a_ (by decide),an (by decide),EP hk hs hi a m g f r he h b,g']
 have u:(ux true k (c,ti,j_,st,m_,k_,gr,f_,nn,i_,n_,l_,h_,g_) i).1=true:=by
  unfold ux;simp only[a,b];rw[a_ (by decide)];simp only[if_true];split<;>rfl
 unfold bT;rw[u];rfl;rw[b,a_ (by decide),a_ (by decide)];have q:bO k (t.2.2.1,())=some (t.2.2.1,()):=dS hk (by omega);simp only[sP,ka,a,q,g']
 rw[an (aG hi),sq hk hi a (by omega) f,g',an (c_ (by simp only[F'];omega)),an (c_ (by simp only[F'];omega)),
  I8 hk (by omega) (by omega),g',Qk hk (by omega),g']
 dsimp only;rw[an (aG g),gB (n:=n) hk hi (by rw[ajc,F'];omega) (by rw[a];exact he) (by simp[ag]),g',g',xD _ _ r,h];unfold rD ux;simp only[a,he,h,f,ka,b];rw[a_ (s b)];rfl
end
def oo(s:Bool)(k:Nat)(w:ah)(i:Nat):Bool×ah:=
 match w with
 |(c,ti,j_,st,m_,k_,gr,f_,nn,i_,n_,l_,h_,g_)=>
  let t:=h_.getD i al.aa
  let n:=(bC t).toNat
  let j:=(bF k st t.2.2.2.1).toNat
  let d:=g_.getD n ay.aa
  if t.2.1=0 then fF w i j
  else if(cj k st t.2.2.2.1).2=true then(true,(c,ti,j_,cH st j (-1),m_,k_,gr,f_,nn,i_,n_,l_,h_.set i zT,g_.set n (fv s true d j_ ti 5 [(cj k st t.2.2.2.1).1])))
  else(true,(c,ti,j_,cH st j (-1),m_,k_,gr,f_,nn,i_,n_,l_,h_.set i zT,g_.set n (fv s false d j_ ti 6 [])))
section
variable{k:Nat}(hk:9223372036854775808<=k)
include hk
variable{c:bo}{ti j_ gr nn:Int}{st:List aq}{m_:List bU}{k_ l_:List ae}{f_:List au}{i_:List aC}{n_:List bY}{h_:List aE}{g_:List ax}
theorem TY{l:List aq}{s:List af}:ag ab (cj k l s).1<=ag (.sl aj) l:=by
 have a:ag ab cW=0:=by rw[bI hk];rfl
 unfold cj;split;rw[a];omega;rename_i b;obtain⟨_,_,c⟩:=oy (k:=k) (l:=l) (s:=s) b;have f:=fL (e:=aj) (d:=aj.aa) c;generalize l.getD (bF k l s).toNat aj.aa=p at f|-;have h3:=e9 hk p;unfold gx;cases hc:gR p (dq k s)with
 |none=>dsimp only;rw[a];omega
 |some i=>
  obtain⟨h,_,_⟩:=aV.1 hc;have h4:=fL (e:=az) (d:=az.aa) h;have h5:=eW hk (p.2.2.getD i az.aa);dsimp only;cases g:iC (p.2.2.getD i az.aa).2 s with
  |none=>dsimp only;rw[a];omega
  |some j=>
   obtain⟨m,_,_⟩:=aV.1 g;have h6:=fL (e:=ab) (d:=ab.aa) m;dsimp only;omega
set_option maxHeartbeats 4000000 in
theorem LQ{i n j:Nat}{t:aE}{d:ax}(hs:ag aF (c,ti,j_,st,m_,k_,gr,f_,nn,i_,n_,l_,h_,g_)<=1048576)(hi:i<h_.length)(a:h_.getD i al.aa=t)(q:t.1=2)
 (m:j<st.length) (o:bF k st t.2.2.2.1=(j:Int)) (p:n<g_.length) (he:bC t=(n:Int)) (b:g_.getD n ay.aa=d) (f:t.2.1=0\/t.2.1=1):
 qd k ((c,ti,j_,st,m_,k_,gr,f_,nn,i_,n_,l_,h_,g_),(i:Int),())=
  some ((oo true k (c,ti,j_,st,m_,k_,gr,f_,nn,i_,n_,l_,h_,g_) i).1,(oo true k (c,ti,j_,st,m_,k_,gr,f_,nn,i_,n_,l_,h_,g_) i).2,()):=by
 have hsum:=jx hk hs;have g:=fL (e:=al) (d:=al.aa) hi;rw[a]at g;have hta:=fO hk t;have hfa:=TY hk (l:=st) (s:=t.2.2.2.1);simp only[qd,ka,a,eu];rw[an (aG hi),pH hk (by omega),g',o];unfold oo;simp only[a,he,b,o,ka];rcases f with h|h;rw[h,an (by decide),su hk hi m,an rfl];unfold fF;simp only[a,q];split<;>simp[cH];rw[h,a_ (by decide),a_ (by decide),lq hk (by omega) (by omega),g',an (aG m)];cases hb:(cj k st t.2.2.2.1).2 with
 |true=>
  have r:ag (.sl ab) [(cj k st t.2.2.2.1).1]<=1073741824:=by
   rw[cG (e:=ab),bu (e:=ab)];omega
  rw[an rfl,an rfl,gB hk hi p (by rw[a];exact he) r,g',b];rfl
 |false=>
  rw[a_ ai0,a_ ai0,gB hk hi p (by rw[a];exact he) (by simp[ag]),g',b];rfl
end
def nF(st:List aq)(t:aE)(j:Nat):aE:=
 (t.1,if j+1=st.length then 2 else 0,t.2.2.1,t.2.2.2.1,((j+1:Nat):Int),t.2.2.2.2.2.1++[(st.getD j aj.aa).2.1],t.2.2.2.2.2.2.1++aU (st.getD j aj.aa),t.2.2.2.2.2.2.2)
def uh(n:Int):aE:=(3,0,cW,[],0,[],[],0,n)
def ig(s:Bool)(k:Nat)(w:ah)(i:Nat):Bool×ah:=
 match w with
 |(c,ti,j_,st,m_,k_,gr,f_,nn,i_,n_,l_,h_,g_)=>
  let t:=h_.getD i al.aa
  let n:=(bC t).toNat
  let j:=t.2.2.2.2.1.toNat
  let d:=g_.getD n ay.aa
  if t.2.1=0 then fF w i j
  else if t.2.1=1 then(true,(c,ti,j_,cH st j (-1),m_,k_,gr,f_,nn,i_,n_,l_,h_.set i (nF st t j),g_))
  else if lV st t.2.2.2.2.2.1=true then(true,(c,ti,j_,st,m_,k_,gr,f_,nn,i_,n_,l_,h_.set i zT,g_.set n (fv s true d j_ ti 8 (dN t.2.2.2.2.2.2.1))))
  else(true,(c,ti,j_,st,m_,k_,gr,f_,nn,i_,n_,l_,h_.set i (uh n),g_))
section
variable{k:Nat}(hk:9223372036854775808<=k)
include hk
variable{c:bo}{ti j_ gr nn:Int}{st:List aq}{m_:List bU}{k_ l_:List ae}{f_:List au}{i_:List aC}{n_:List bY}{h_:List aE}{g_:List ax}
end
def AE(s:Bool)(k:Nat)(w:ah)(i:Nat):Bool×ah:=
 match w with
 |(c,ti,j_,st,m_,k_,gr,f_,nn,i_,n_,l_,h_,g_)=>
  if(h_.getD i al.aa).1=2 then oo s k w i else ig s k w i
def pU(s:Bool)(k:Nat)(w:ah)(i:Nat):Bool×ah:=bT (AE s k w i)
theorem Vx{r:Bool×ah}:(if r.1=true then some (r.1,(r.2.1,IntKind.i64.wrap (r.2.2.1+1),r.2.2.2),())else some (r.1,r.2,()))=some ((bT r).1,(bT r).2,()):=by
 obtain⟨b,w⟩:=r;cases b<;>rfl
section
variable{k:Nat}(hk:9223372036854775808<=k)
include hk
variable{c:bo}{ti j_ gr nn:Int}{st:List aq}{m_:List bU}{k_ l_:List ae}{f_:List au}{i_:List aC}{n_:List bY}{h_:List aE}{g_:List ax}
set_option maxHeartbeats 8000000 in
theorem Kf{i j:Nat}{t:aE}(hs:ag aF (c,ti,j_,st,m_,k_,gr,f_,nn,i_,n_,l_,h_,g_)<=1048576)(hi:i<h_.length)(f:h_.getD i al.aa=t)
 (g:t.2.2.2.2.1=(j:Int)) (a:j<st.length):
 pd k ((c,ti,j_,st,m_,k_,gr,f_,nn,i_,n_,l_,h_,g_),(i:Int),())=some ((c,ti,j_,cH st j (-1),m_,k_,gr,f_,nn,i_,n_,l_,h_.set i (nF st t j),g_),()):=by
 have hsum:=jx hk hs;have b:=fL (e:=al) (d:=al.aa) hi;rw[f]at b;have hstl:=aA (e:=aj) (l:=st);have hta:=fO hk t;have hsl:=aA (e:= .int .i64) (l:=t.2.2.2.2.2.1);have hgl:=aA (e:=ab) (l:=t.2.2.2.2.2.2.1);have hpj:=fL (e:=aj) (d:=aj.aa) a;have hai:=od hk (st.getD j aj.aa);have hal:=aA (e:=ab) (l:=aU (st.getD j aj.aa));simp only[pd,ka,f,g,jq,eu,ai5,aT _ _ hi]
 rw[an (aG hi),an (aG a),an (c_ (by simp only[F'];omega)),an (by simp),an (aG a),wq hk (by omega),g',
  an (c_ (by dsimp only;omega)),an (by simp),br (by omega)]
 unfold nF;by_cases e:j+1=st.length;rw[an (c_ (by omega)),an (aG a),an e];rfl;rw[a_ (by simp;omega),an (aG a),a_ e];rfl
set_option maxHeartbeats 8000000 in
theorem FV{i n:Nat}{t:aE}{d:ax}(hs:ag aF (c,ti,j_,st,m_,k_,gr,f_,nn,i_,n_,l_,h_,g_)<=1048576)(hi:i<h_.length)(b:h_.getD i al.aa=t)(hp:t.1=3)
 (f:t.2.2.2.2.2.1.length=st.length) (p:n<g_.length) (he:bC t=(n:Int)) (o:g_.getD n ay.aa=d) (g:t.2.1=2):
 nR k ((c,ti,j_,st,m_,k_,gr,f_,nn,i_,n_,l_,h_,g_),(i:Int),())=
  some ((ig true k (c,ti,j_,st,m_,k_,gr,f_,nn,i_,n_,l_,h_,g_) i).2,()):=by
 have hsum:=jx hk hs;have j:=fL (e:=al) (d:=al.aa) hi;rw[b]at j;have hta:=fO hk t;have hstl:=aA (e:=aj) (l:=st);have hso:=wG t.2.2.2.2.2.2.1;have a:=he;unfold bC at a;unfold ig;simp only[b,he,o,g,ka];rw[a_ (show¬(2:Int)=0 by decide),a_ (show¬(2:Int)=1 by decide)];simp only[nR,ka,b,aR];rw[an (aG hi)]
 refine(gW (fun q:Nat=>((c,ti,j_,st,m_,k_,gr,f_,nn,i_,n_,l_,h_,g_),(i:Int),t,(q:Int),())) (fun q=>decide (t.2.2.2.2.2.1.getD q 0=(st.getD q aj.aa).2.1)) st.length
  (e:=some ((c,ti,j_,st,m_,k_,gr,f_,nn,i_,n_,l_,h_.set i zT,g_.set n (fv true true d j_ ti 8 (dN t.2.2.2.2.2.2.1))),())) (no:=some ((c,ti,j_,st,m_,k_,gr,f_,nn,i_,n_,l_,h_.set i (uh n),g_),())) ?_ ?_ k 0 (by omega) (by omega)).trans ?_
 intro G q m;dsimp only;rw[aJ,c_ m,an rfl,an (aG m),an (aG (by omega)),an (aG hi),ka,br (by omega),lT];by_cases e:t.2.2.2.2.2.1.getD q 0=(st.getD q aj.aa).2.1;rw[c_ e,c_ e.symm];rfl;rw[decide_eq_false e,decide_eq_false (fun h=>e h.symm)];simp only[X_,if_true,ka];rw[a];rfl;intro G;simp only[aJ,A',decide_false,l7,if_false];rw[Nx hk (by omega),g',gB hk hi p (by rw[b];exact he) (by dsimp only;omega),g',o];rfl;unfold lV;rw[f];cases bL 0 st.length (fun q=>decide (t.2.2.2.2.2.1.getD q 0=(st.getD q aj.aa).2.1))<;>rfl
set_option maxHeartbeats 8000000 in
theorem wP{i n j:Nat}{t:aE}{d:ax}(hs:ag aF (c,ti,j_,st,m_,k_,gr,f_,nn,i_,n_,l_,h_,g_)<=1048576)(hi:i<h_.length)(e:h_.getD i al.aa=t)(a:t.1=2\/t.1=3)
 (l:(t.1=2\/t.2.1≠2)->j<st.length) (f:if t.1=2 then bF k st t.2.2.2.1=(j:Int)else t.2.2.2.2.1=(j:Int)) (m:t.1=3->t.2.1=2->t.2.2.2.2.2.1.length=st.length) (p:n<g_.length) (he:bC t=(n:Int)) (q:g_.getD n ay.aa=d)
 (o:t.2.1=0\/t.2.1=1\/t.1=3/\t.2.1=2):
 lF k ((c,ti,j_,st,m_,k_,gr,f_,nn,i_,n_,l_,h_,g_),(i:Int),())=
  some ((pU true k (c,ti,j_,st,m_,k_,gr,f_,nn,i_,n_,l_,h_,g_) i).1,(pU true k (c,ti,j_,st,m_,k_,gr,f_,nn,i_,n_,l_,h_,g_) i).2,()):=by
 unfold pU AE;simp only[lF,aR,ka,e];rw[an (aG hi)];rcases a with a|a;rw[a,an (by decide),an rfl,LQ hk hs hi e a (l (.inl a)) (by rw[an a]at f;exact f) p he q (by omega),g'];exact Vx;rw[a,a_ (by decide),a_ (show¬(3:Int)=2 by decide),an (aG hi)];rw[a_ (by omega)]at f;rcases o with b|b|⟨_,b⟩;rw[b,an (by decide),an (aG hi),f,su hk hi (l (.inr (by omega)))]
 have g:ig true k (c,ti,j_,st,m_,k_,gr,f_,nn,i_,n_,l_,h_,g_) i=fF (c,ti,j_,st,m_,k_,gr,f_,nn,i_,n_,l_,h_,g_) i j:=by
  unfold ig;simp only[e,b,f,ka,if_true]
 rw[g];unfold fF;simp only[e];by_cases h:(st.getD j aj.aa).1= -1;rw[an h,an h];rfl;rw[a_ h,a_ h];rfl;rw[b,a_ (by decide),an (aG hi),an (by decide),Kf hk hs hi e f (l (.inr (by omega))),g']
 have g:ig true k (c,ti,j_,st,m_,k_,gr,f_,nn,i_,n_,l_,h_,g_) i=(true,(c,ti,j_,cH st j (-1),m_,k_,gr,f_,nn,i_,n_,l_,h_.set i (nF st t j),g_)):=by
  unfold ig;simp only[e,b,f,ka,if_true];rw[a_ (show¬(1:Int)=0 by decide)]
 rw[g];rfl;rw[b,a_ (by decide),an (aG hi),a_ (by decide),FV hk hs hi e a (m a b) p he q b,g']
 have g:(ig true k (c,ti,j_,st,m_,k_,gr,f_,nn,i_,n_,l_,h_,g_) i).1=true:=by
  unfold ig;simp only[e,b];rw[a_ (show¬(2:Int)=0 by decide),a_ (show¬(2:Int)=1 by decide)];split<;>rfl
 unfold bT;rw[g];rfl
end
def iu(i j:Int)(got:List ae):ax:=(5,i,cW,[],j,0,8,got,0,0,0,0)
def vo(s:Bool)(k:Nat)(w:ah)(i:Nat):Bool×ah:=
 match w with
 |(c,ti,j_,st,m_,k_,gr,f_,nn,i_,n_,l_,h_,g_)=>
  let t:=h_.getD i al.aa
  let n:=(bC t).toNat
  let j:=t.2.2.2.2.1.toNat
  let d:=g_.getD n ay.aa
  let p:=st.getD j aj.aa
  if t.2.1=0 then fF w i j
  else(true,(c,ti,j_,st.set j (-1,(fD p j_).2),m_,k_,gr,f_,nn,i_,n_,l_,
   h_.set i (if j+1=st.length then zT else(t.1,0,t.2.2.1,t.2.2.2.1,((j+1:Nat):Int),t.2.2.2.2.2)),
   if j+1=st.length then(g_++[iA (iu i j (ey j_ p.2.2)) j_ ti ti ti]).set n (fv s false d j_ ti 8 [])else g_++[iA (iu i j (ey j_ p.2.2)) j_ ti ti ti]))
def im(s:Bool)(k:Nat)(w:ah)(i:Nat):Bool×ah:=bT (vo s k w i)
section
variable{k:Nat}(hk:9223372036854775808<=k)
include hk
variable{c:bo}{ti j_ gr nn:Int}{st:List aq}{m_:List bU}{k_ l_:List ae}{f_:List au}{i_:List aC}{n_:List bY}{h_:List aE}{g_:List ax}
theorem WS{j_:Int}(l:List aZ):ag (.sl ab) (ey j_ l)<=ag (.sl az) l:=
 mQ hk (e:=az) (f:=ab) (g:=fun c=>lx j_ c.2) (fun x=>by
  have h1:=eW hk x;have h2:=Dd hk (j_:=j_) (l:=x.2);omega) l
set_option maxHeartbeats 8000000 in
theorem JE{i n j:Nat}{t:aE}{d:ax}(hs:ag aF (c,ti,j_,st,m_,k_,gr,f_,nn,i_,n_,l_,h_,g_)<=1048576)(hi:i<h_.length)(b:h_.getD i al.aa=t)(o:t.1=4)
 (h:t.2.2.2.2.1=(j:Int)) (a:j<st.length) (p:n<g_.length) (he:bC t=(n:Int)) (m:g_.getD n ay.aa=d) (f:t.2.1=0\/t.2.1=1):
 lO k ((c,ti,j_,st,m_,k_,gr,f_,nn,i_,n_,l_,h_,g_),(i:Int),())=
  some ((im true k (c,ti,j_,st,m_,k_,gr,f_,nn,i_,n_,l_,h_,g_) i).1,(im true k (c,ti,j_,st,m_,k_,gr,f_,nn,i_,n_,l_,h_,g_) i).2,()):=by
 have hsum:=jx hk hs;have hdl:=aA (e:=ay) (l:=g_);have hstl:=aA (e:=aj) (l:=st);have hpj:=fL (e:=aj) (d:=aj.aa) a;have hgl:=WS hk (j_:=j_) (st.getD j aj.aa).2.2;have hpp:=e9 hk (st.getD j aj.aa);unfold im vo;simp only[b,he,m,h,ka];simp only[lO,ka,b,h,jq,aR,eu,lT];rw[an (aG hi),an (aG hi)];rcases f with g|g;rw[g,an (by decide),su hk hi a,an rfl];unfold fF bT;simp only[b,o];split<;>simp[cH,tick];rw[g,a_ (by decide),an (aG a),Ie hk (by omega),g',an (aG a),gM hk (by dsimp only;omega),g'];dsimp only;rw[Qk hk (by omega),g'];simp only[ai5,aT _ _ hi,aT _ _ a,Y',b];rw[a_ (show¬(1:Int)=0 by decide),an (aG hi),an (aG hi),br (by omega)];by_cases e:j+1=st.length;rw[an (c_ (by omega)),an e,an e];rw[gB (n:=n) hk (by rw[Y'];exact hi) (by rw[ajc,F'];omega) (by rw[aT _ _ hi];exact he) (by simp[ag]),g',xD _ _ p,m,ai5];rfl;rw[a_ (by simp;omega),a_ e,a_ e];rfl
end
section
variable{k:Nat}(hk:9223372036854775808<=k)
include hk
theorem Yi{b:List Int}(g:b.length<=1048576):Dr (rX k (b,())) (fun r=>bG r.1):=by
 simp only[rX];refine Qs (fun s=>s.1=b) (fun s d=>fj ⟨by rw[d];exact g,by simp,by simp⟩) (fun J f=> ?_);refine Vz (fun s=>b.length-s.2.2.1.toNat) (fun s=>s.1=b/\0<=s.2.2.1/\s.2.2.1<=(b.length:Int)) ?_ ⟨rfl,by simp,by simp⟩ (by simp only;omega);rintro G ⟨s,h,i,u⟩ ⟨e,h0,h1⟩ hG;change s=b at e;change 0<=i at h0;change i<=(b.length:Int)at h1;subst e;dsimp only;refine fx (fun hc=> ?_) (fun hc=>f _ rfl)
 have a:i<(s.length:Int):=by
  by_cases a:i<(s.length:Int);exact a;simp[a]at hc
 refine nI (by simp;omega) (hG _ ⟨rfl,?_,?_⟩ ?_)<;>(dsimp only;rw[wrap64 (by omega) (by omega)];omega)
theorem xd{c:aP}(hc:bG c):Dr (jb k (c,())) (fun r=>bG r.2.1/\0<=r.1/\r.1<=255):=by
 obtain⟨b,i,h⟩:=c;obtain⟨d,e,f⟩:=hc;dsimp only at d e f;simp only[jb];refine nI (by decide) (nI (by decide) ?_);refine fx (fun a=> ?_) (fun a=> ?_);have a:i<(b.length:Int):=by simpa using a
 refine nI (by simp;omega) (fj ⟨⟨d,?_,?_⟩,VM _⟩)<;>(dsimp only;rw[wrap64 (by omega) (by omega)];omega)
 exact fj ⟨⟨d,e,f⟩,VM _⟩
theorem dC{c:aP}{n:Int}(hc:bG c):Dr (bz k (c,n,())) (fun r=>bG r.2.1/\0<=r.1/\(r.1<n\/r.1=0)):=by
 simp only[bz];refine fx (fun a=>fj ⟨hc,by simp,by simp⟩) (fun a=> ?_);have a:0<n:=by simpa using a
 refine fx (fun f=> ?_) (fun f=> ?_);refine dm (xd hk hc) (fun r b=>nI (by simp;omega) (fj ⟨b.1,?_,.inl ?_⟩));exact ajt _ b.2.1;exact ajq _ a;refine dm (xd hk hc) (fun r b=>dm (xd hk b.1) (fun g d=>dm (xd hk d.1) (fun r3 e=>nI (by simp;omega) (fj ⟨e.1,?_,.inl ?_⟩))));refine ajt _ ?_;have h1:=b.2;have h2:=d.2;have h3:=e.2;rw[wrap64 (n:=r.1*65536) (by omega) (by omega),wrap64 (n:=g.1*256) (by omega) (by omega),wrap64 (n:=r.1*65536+g.1*256) (by omega) (by omega),wrap64 (by omega) (by omega)];omega;exact ajq _ a
theorem qO{c:aP}{n:Int}(hc:bG c):Dr (eN k (c,n,())) (fun r=>bG r.2.1):=by
 simp only[eN];exact dm (dC hk hc) (fun r a=>fj a.1)
theorem Pu{c:aP}{l:List Int}(hc:bG c)(hl:0<l.length):Dr (cu k (c,l,())) (fun r=>bG r.2.1/\r.1∈l):=by
 simp only[cu];refine dm (dC hk hc) (fun r a=>nI (by simp;omega) (fj ⟨a.1,?_⟩));exact dp (by omega)
theorem Xn{c:aP}{l:List ByteArray}(hc:bG c)(hl:0<l.length):Dr (fW k (c,l,())) (fun r=>bG r.2.1/\r.1∈l):=by
 simp only[fW];refine dm (dC hk hc) (fun r a=>nI (by simp;omega) (fj ⟨a.1,?_⟩));exact dp (by omega)
end
def Uf(l:List ae)(s:List af):Option Nat:=gC l.length (fun i=>decide ((l.getD i ab.aa).1=s))
def jo(l:List ae)(s:List af):Nat:=(gC l.length (fun i=>bq s (l.getD i ab.aa).1)).getD l.length
def fo(l:List ae)(a:ae):List ae:=
 match Uf l a.1 with
 |some i=>l.set i a
 |none=>l.take (jo l a.1)++[a]++l.drop (jo l a.1)
def lB(g:au)(a:ae):au:=(g.1,g.2.1,g.2.2.1,g.2.2.2.1,fo g.2.2.2.2 a)
theorem Rk{α:Type}(l:List ae)(s:List af)(f:Nat->α):(match gC l.length (fun i=>bq s (l.getD i ab.aa).1)with|some i=>f i|none=>f l.length)=f (jo l s):=by
 unfold jo;cases gC l.length (fun i=>bq s (l.getD i ab.aa).1)<;>rfl
section
variable{k:Nat}(hk:9223372036854775808<=k)
include hk
theorem Ig{l:List ae}{i:Nat}(h:ag (.sl ab) l<=1073741824):cF k (l.take i,())=some (l.take i,()):=
 gM hk (by have:=dw (e:=ab) l i;omega)
theorem A8{l:List ae}{i:Nat}(h:ag (.sl ab) l<=1073741824):cF k (l.drop i,())=some (l.drop i,()):=
 gM hk (by have:=dw (e:=ab) l i;omega)
theorem Li{g:au}{a:ae}(hg:ag ak g<=1048576)(ha:ag ab a<=1048576):qf k (g,a,())=some (lB g a,()):=by
 have h1:=gV hk g;have h2:=aA (e:=ab) (l:=g.2.2.2.2);have h3:=bI hk a;have h4:=aA (e:=ai) (l:=a.1);simp only[qf,aR];rw[AF hk (by omega),g',dS hk (by omega),g']
 refine(kF (fun i:Nat=>(g,a,(0,([]:List af),0,0,([]:List ae)),g,a,(i:Int),())) (fun i=>decide ((g.2.2.2.2.getD i ab.aa).1=a.1)) g.2.2.2.2.length
  (e:=some ((g.1,g.2.1,g.2.2.1,g.2.2.2.1,g.2.2.2.2.take (jo g.2.2.2.2 a.1)++[a]++g.2.2.2.2.drop (jo g.2.2.2.2 a.1)),())) (fun i=>some ((g.1,g.2.1,g.2.2.1,g.2.2.2.1,g.2.2.2.2.set i a),())) (fun G i b=> ?_) (fun G=> ?_) k (by omega)).trans ?_
 simp only[aJ,aG b,b,decide_true,if_true,ka];rw[br (by omega),rf hk (ov hk (by omega) b).2,g'];simp only[aJ,A',decide_false,l7,if_false]
 refine(kF (fun i:Nat=>(g,a,(0,([]:List af),0,0,([]:List ae)),g,a,(i:Int),())) (fun i=>bq a.1 (g.2.2.2.2.getD i ab.aa).1) g.2.2.2.2.length
  (e:=some ((g.1,g.2.1,g.2.2.1,g.2.2.2.1,g.2.2.2.2.take g.2.2.2.2.length++[a]++g.2.2.2.2.drop g.2.2.2.2.length),())) (fun i=>some ((g.1,g.2.1,g.2.2.1,g.2.2.2.1,g.2.2.2.2.take i++[a]++g.2.2.2.2.drop i),())) (fun G i b=> ?_) (fun G=> ?_) k (by omega)).trans ?_
 simp only[aJ,aG b,b,decide_true,if_true,ka,Y_];rw[an (by simp),sg hk (by omega),g'];cases hq:bq a.1 (g.2.2.2.2.getD i ab.aa).1;simp only[X_,if_true,l7,if_false];rw[br (by omega)];simp only[X',if_true,l7,if_false];rw[an (by simp;omega),Ig hk (by omega),g',an (by simp;omega),an (by simp;omega),A8 hk (by omega),g',an (by simp;omega)];simp only[aJ,A',decide_false,l7,if_false,ka];rw[an (by simp)];simp only[beq_iff_eq,l7,if_false,g'];rw[an (by simp),Ig hk (by omega),g',an (by simp;omega),an (by simp),A8 hk (by omega),g',an (by simp;omega)];exact Rk g.2.2.2.2 a.1 (fun i=>some ((g.1,g.2.1,g.2.2.1,g.2.2.2.1,g.2.2.2.2.take i++[a]++g.2.2.2.2.drop i),()));unfold lB fo Uf;cases gC g.2.2.2.2.length (fun i=>decide ((g.2.2.2.2.getD i ab.aa).1=a.1))<;>rfl
theorem VY{l:List ae}{a:ae}:ag (.sl ab) (fo l a)<=ag (.sl ab) l+ag ab a+1:=by
 unfold fo;cases h:Uf l a.1 with
 |none=>
  dsimp only;rw[iS (e:=ab),iS (e:=ab),cG (e:=ab),bu];have:=dw (e:=ab) l (jo l a.1);omega
 |some i=>
  have b:=(aV.1 h).1;have:=nu (e:=ab) l i a b;dsimp only;omega
theorem Vw{g:au}{a:ae}:ag ak (lB g a)<=ag ak g+ag ab a+1:=by
 have h1:=gV hk g;have b:=gV hk (lB g a);have h3:=VY hk (l:=g.2.2.2.2) (a:=a);unfold lB at b|-;dsimp only at b;omega
theorem wo(l m:List af):ag (.sl ai) (l++m)=ag (.sl ai) l+ag (.sl ai) m:=iS (e:=ai) l m
theorem kv(x:af)(l:List af):ag (.sl ai) (x::l)=1+(x.1.size+x.2.size)+ag (.sl ai) l:=by rw[cG (e:=ai),ot hk]
theorem qD:ag (.sl ai) ([]:List af)=0:=bu (e:=ai)
theorem Wn(x:ae)(l:List ae):ag (.sl ab) (x::l)=1+ag ab x+ag (.sl ab) l:=cG (e:=ab) x l
theorem XR:ag (.sl ab) ([]:List ae)=0:=bu (e:=ab)
theorem tp{c:aP}{l:List ByteArray}(n:Nat)(hc:bG c)(b:0<l.length)(hs:l.all (fun s=>decide (s.size<=n))=true):Dr (fW k (c,l,())) (fun r=>bG r.2.1/\r.1.size<=n):=
 drM (Xn hk hc b) (fun r a=>⟨a.1,e_ (ajh.1 hs _ a.2)⟩)
theorem YK{c:aP}{l:List Int}(a b:Int)(hc:bG c)(e:0<l.length)(hs:l.all (fun s=>decide (a<=s/\s<=b))=true):Dr (cu k (c,l,())) (fun r=>bG r.2.1/\a<=r.1/\r.1<=b):=
 drM (Pu hk hc e) (fun r d=>⟨d.1,e_ (ajh.1 hs _ d.2)⟩)
theorem oq{c:aP}{l:List Int}(hc:bG c)(b:0<l.length):Dr (cu k (c,l,())) (fun r=>bG r.2.1):=
 drM (Pu hk hc b) (fun r a=>a.1)
theorem Hy{c:aP}(hc:bG c):Dr (lD k (c,())) (fun r=>bG r.2.1/\r.1.size<=13):=by
 simp only[lD];exact dm (tp hk 13 hc (by decide) (by decide)) (fun r a=>fj a)
theorem Uj{c:aP}(hc:bG c):Dr (oN k (c,())) (fun r=>bG r.2.1/\r.1.size<=13):=by
 simp only[oN];exact dm (tp hk 13 hc (by decide) (by decide)) (fun r a=>fj a)
theorem Qw{c:aP}(hc:bG c):Dr (mD k (c,())) (fun r=>bG r.2.1/\r.1.size<=13):=by
 simp only[mD];refine dm (qO hk hc) (fun r a=>fx (fun _=> ?_) (fun _=> ?_));exact dm (Uj hk a) (fun r a=>fj a);exact dm (tp hk 13 a (by decide) (by decide)) (fun r a=>fj a)
theorem uC{c:aP}(hc:bG c):Dr (gP k (c,())) (fun r=>bG r.2.1/\r.1.size<=13):=by
 simp only[gP];refine dm (qO hk hc) (fun r a=>fx (fun _=> ?_) (fun _=> ?_));exact dm (Hy hk a) (fun r a=>fj a);exact dm (tp hk 13 a (by decide) (by decide)) (fun r a=>fj a)
theorem XA{c:aP}(hc:bG c):Dr (rj k (c,())) (fun r=>bG r.2.1):=by
 simp only[rj];exact dm (oq hk hc (by decide)) (fun r a=>fj a)
theorem YD{c:aP}(hc:bG c):Dr (rh k (c,())) (fun r=>bG r.2.1):=by
 simp only[rh];refine dm (qO hk hc) (fun r a=>fx (fun _=> ?_) (fun _=> ?_));exact dm (XA hk a) (fun r a=>fj a);exact dm (oq hk a (by decide)) (fun r a=>fj a)
theorem Eb{c:aP}(hc:bG c):Dr (gU k (c,())) (fun r=>bG r.2.1/\0<r.1.length/\ag (.sl ai) r.1<=108):=by
 simp only[gU];refine dm (tp hk 13 hc (by decide) (by decide)) (fun r a=> ?_);refine Vz (fun s=>3-s.2.2.2.2.1.toNat) (fun s=>bG s.1/\0<s.2.1.length/\(ag (.sl ai) s.2.1:Int)<=27+27*s.2.2.2.2.1/\s.2.2.1=[(⟨#[104,111,115,116]⟩:ByteArray),(⟨#[115,101,118]⟩:ByteArray),(⟨#[122,111,110,101]⟩:ByteArray)]/\s.2.2.2.1=3/\0<=s.2.2.2.2.1/\s.2.2.2.2.1<=3) ?_ ⟨a.1,by simp,?_,rfl,rfl,by simp,by simp⟩ (by simp only;omega);rintro G ⟨c,l,m,n,i,u⟩ ⟨h1,h2,h3,h4,h5,h6,h7⟩ hG;dsimp only at h1 h2 h3 h4 h5 h6 h7|-;subst h4;subst h5;have hl:=aA (e:=ai) (l:=l);refine fx (fun d=> ?_) (fun d=>fj ⟨h1,h2,by dsimp only;omega⟩);have d:i<3:=by simpa using d
 have hw:IntKind.i64.wrap (i+1)=i+1:=wrap64 (by omega) (by omega);rw[hw];refine nI (by simp;omega) ?_;refine dm (qO hk h1) (fun r a=>fx (fun _=> ?_) (fun _=>hG _ ⟨a,h2,by dsimp only;omega,rfl,rfl,by dsimp only;omega,by dsimp only;omega⟩ (by dsimp only;omega)));refine dm (tp hk 13 a (by decide) (by decide)) (fun r2 b=>nI (by simp;omega) (hG _ ⟨b.1,by simp,?_,rfl,rfl,by dsimp only;omega,by dsimp only;omega⟩ (by dsimp only;omega)))
 have hb:([(⟨#[104,111,115,116]⟩:ByteArray),(⟨#[115,101,118]⟩:ByteArray),(⟨#[122,111,110,101]⟩:ByteArray)].getD i.toNat ByteArray.empty).size<=13:=
  e_ (ajh.1 (show([(⟨#[104,111,115,116]⟩:ByteArray),(⟨#[115,101,118]⟩:ByteArray),(⟨#[122,111,110,101]⟩:ByteArray)].all (fun s=>decide (s.size<=13)))=true by decide) _ (dp (by simp;omega)))
 dsimp only;rw[wo hk,kv hk,qD hk];have:=b.2;dsimp only;omega;rw[kv hk,qD hk];have h0:(⟨#[97,112,112]⟩:ByteArray).size=3:=by decide
 have:=a.2;dsimp only;omega
theorem YN{c:aP}(hc:bG c):Dr (rO k (c,())) (fun r=>bG r.2.1/\ag (.sl ai) r.1<=220):=by
 simp only[rO];refine dm (Eb hk hc) (fun f g=>dm (dC hk g.1) (fun r2 a=> ?_));have hl:=aA (e:=ai) (l:=f.1);obtain⟨_,n,ht⟩:=g;refine fx (fun _=> ?_) (fun _=> ?_);refine dm (Qw hk a.1) (fun h b=>dm (uC hk b.1) (fun r4 j=>nI (by simp;omega) (fj ⟨j.1,?_⟩)));dsimp only;rw[wo hk,kv hk,qD hk];have:=b.2;have:=j.2;dsimp only;omega;refine fx (fun _=> ?_) (fun _=> ?_);refine nI (by simp;omega) (fj ⟨a.1,?_⟩);dsimp only;rw[wo hk,kv hk,qD hk];have o:(⟨#[122,122]⟩:ByteArray).size=2:=by decide
 have o:(⟨#[49]⟩:ByteArray).size=1:=by decide
 dsimp only;omega;refine fx (fun _=> ?_) (fun _=> ?_);refine nI (by simp;omega) (nI (by simp;omega) (fj ⟨a.1,?_⟩));have hm:=dK (e:=ai) (dp (l:=f.1) (i:=0) (d:=ai.aa) n);rw[ot hk]at hm;dsimp only;rw[wo hk,kv hk,qD hk];simp only[show P' 0=0 from rfl];omega;refine fx (fun _=> ?_) (fun _=> ?_);refine nI (by simp;omega) (fj ⟨a.1,?_⟩);dsimp only;rw[wo hk,kv hk,kv hk,kv hk,kv hk,qD hk];have e1:(⟨#[122,117]⟩:ByteArray).size=2:=by decide
 have e2:(⟨#[122,118]⟩:ByteArray).size=2:=by decide
 have e3:(⟨#[122,119]⟩:ByteArray).size=2:=by decide
 have e4:(⟨#[122,120]⟩:ByteArray).size=2:=by decide
 have e5:ByteArray.empty.size=0:=by decide
 dsimp only;omega;refine fx (fun _=> ?_) (fun _=> ?_);refine dm (uC hk a.1) (fun h b=>nI (by simp;omega) (fj ⟨b.1,?_⟩));have m:=nu (e:=ai) f.1 0 ((f.1.getD 0 ai.aa).1,h.1) n;rw[ot hk,ot hk]at m;have:=b.2;simp only[show P' 0=0 from rfl];dsimp only at m|-;omega;refine fx (fun _=>fj ⟨a.1,by dsimp only;rw[qD hk];omega⟩) (fun _=>fj ⟨a.1,by dsimp only;omega⟩)
theorem CY{c:aP}(hc:bG c):Dr (fc k (c,())) (fun r=>bG r.2.1/\ag ab r.1<=121):=by
 simp only[fc];refine dm (Eb hk hc) (fun r1 a=>dm (dC hk a.1) (fun r2 d=>dm (Hy hk d.1) (fun r3 b=>dm (oq hk b.1 (by decide)) (fun r4 e=>fj ⟨e,?_⟩))));dsimp only;rw[bI hk];have:=a.2;have:=b.2;dsimp only;omega
theorem XE{c:aP}(hc:bG c):Dr (jU k (c,())) (fun r=>bG r.2.1/\ag ab r.1<=400):=by
 simp only[jU];refine dm (CY hk hc) (fun r1 e=>dm (dC hk e.1) (fun r2 b=> ?_));have f:=e.2;rw[bI hk]at f;refine fx (fun _=> ?_) (fun _=> ?_);refine dm (YN hk b.1) (fun d a=>fj ⟨a.1,?_⟩);dsimp only;rw[bI hk];have:=a.2;dsimp only;omega;refine fx (fun _=> ?_) (fun _=> ?_);refine dm (oq hk b.1 (by decide)) (fun d a=>fj ⟨a,?_⟩);dsimp only;rw[bI hk];dsimp only;omega;refine fx (fun _=> ?_) (fun _=> ?_);refine dm (YD hk b.1) (fun d a=>fj ⟨a,?_⟩);dsimp only;rw[bI hk];dsimp only;omega;refine fx (fun _=> ?_) (fun _=>fj ⟨b.1,by dsimp only;rw[bI hk];omega⟩);refine dm (uC hk b.1) (fun d a=>fj ⟨a.1,?_⟩);dsimp only;rw[bI hk];have:=a.2;dsimp only;omega
theorem FJ{c:aP}{l:List ae}(hc:bG c)(hl:ag (.sl ab) l<=1048576):Dr (dW k (c,l,())) (fun r=>bG r.2.1/\ag (.sl ai) r.1<=ag (.sl ab) l+108):=by
 simp only[dW];have hln:=aA (e:=ab) (l:=l)
 have pick:∀ {c:aP},bG c->0<l.length->Dr (ajf (bz k (c,(l.length:Int),())) fun a=>
  if(decide (0<=a.1/\a.1<((ajk l:Nat):Int)))=true then
   if(decide (ajk ([]:List af)+ajk ((ajj l (P' a.1) ab.aa).1)<4294967296))=true then
    some (([]:List af)++((ajj l (P' a.1) ab.aa).1),a.2.1,())
   else none
  else none) (fun r=>bG r.2.1/\ag (.sl ai) r.1<=ag (.sl ab) l+108):=by
  intro c hc b;refine dm (dC hk hc) (fun a j=>nI (by simp;omega) ?_);have m:a.1.toNat<l.length:=by omega
  have hm:=dK (e:=ab) (dp (d:=ab.aa) m);rw[bI hk]at hm;have h3:=aA (e:=ai) (l:=(l.getD a.1.toNat ab.aa).1);refine nI (c_ (by simp only[ajd];omega)) (fj ⟨j.1,?_⟩);dsimp only;rw[ai6];omega
 have free:∀ {c:aP},bG c->Dr (ajf (gU k (c,())) fun f=>some (f.1,f.2.1,())) (fun r=>bG r.2.1/\ag (.sl ai) r.1<=ag (.sl ab) l+108):=
  fun hc=>dm (Eb hk hc) (fun r h=>fj ⟨h.1,by have:=h.2;dsimp only;omega⟩)
 refine fx (fun b=> ?_) (fun b=> ?_);have b:0<l.length:=by simpa using b
 refine dm (qO hk hc) (fun r1 g=>fx (fun _=>pick g b) (fun _=>free g));refine fx (fun h=> ?_) (fun _=>free hc);have b:¬0<l.length:=by simpa using b
 simp[b]at h
end
def gI(l:List au)(key:List af):Option Nat:=gC l.length (fun i=>decide ((l.getD i ak.aa).2.1=key))
def oG(l:List au)(a:ae)(by_:List ByteArray)(n j_:Int):List au:=
 match gI l (keyOf a by_)with
 |some i=>l.set i (lB (l.getD i ak.aa) a)
 |none=>l++[(n,keyOf a by_,j_,-1,[a])]
section
variable{k:Nat}(hk:9223372036854775808<=k)
include hk
theorem XQ(l m:List au):ag (.sl ak) (l++m)=ag (.sl ak) l+ag (.sl ak) m:=iS (e:=ak) l m
theorem Wa(x:au)(l:List au):ag (.sl ak) (x::l)=1+ag ak x+ag (.sl ak) l:=cG (e:=ak) x l
theorem Yp:ag (.sl ak) ([]:List au)=0:=bu (e:=ak)
theorem kA{l:List au}{key:List af}(h:ag (.sl ak) l<=1048576):gu k (l,key,())=some (gD (gI l key),()):=by
 have h2:=aA (e:=ak) (l:=l);simp only[gu];refine(kF (fun i:Nat=>(l,key,(i:Int),())) (fun i=>decide ((l.getD i ak.aa).2.1=key)) l.length (e:=some (-1,())) (fun i=>some ((i:Int),())) (fun G i a=> ?_) (fun G=> ?_) k (by omega)).trans ?_;simp only[aJ,aG a,a,decide_true,if_true,ka];rw[br (by omega),rf hk (AP hk h a).2,g'];simp;unfold gI;cases gC l.length (fun i=>decide ((l.getD i ak.aa).2.1=key))<;>rfl
theorem wH{l:List au}{a:ae}{by_:List ByteArray}{n j_:Int}(b:ag (.sl ak) l<=1048576)(f:ag ab a<=1048576)(g:by_.length<=1048576):
 oS k (l,a,by_,n,j_,())=some (oG l a by_ n j_,(gI l (keyOf a by_)).isNone,()):=by
 have h2:=aA (e:=ak) (l:=l);simp only[oS];rw[rI hk (by omega),g',B5 hk f g,g'];unfold oG;cases h:gI l (keyOf a by_)with
 |none=>
  have e:gu k (l,keyOf a by_,())=some (-1,()):=by rw[kA hk b,h];rfl
  rw[e,g',a_ (by decide),dS hk (by omega),g',an (by simp;omega)];rfl
 |some i=>
  have d:=(aV.1 h).1;have e:gu k (l,keyOf a by_,())=some ((i:Int),()):=by rw[kA hk b,h];rfl
  rw[e,g',an (by simp),an (aG d)];simp only[ka];rw[Li hk (AP hk b d).1 f,g',an (aG d)];rfl
theorem VS(a:ae)(by_:List ByteArray):ag (.sl ai) (keyOf a by_)<=ag ab a:=by
 have Dl:ag (.sl ai) (keyOf a by_)<=ag (.sl ai) a.1:=uX (e:=ai) _ _;have qQ:=bI hk a;omega
theorem PV{l:List au}{a:ae}{by_:List ByteArray}{n j_:Int}:ag (.sl ak) (oG l a by_ n j_)<=ag (.sl ak) l+2*ag ab a+2:=by
 unfold oG;cases h:gI l (keyOf a by_)with
 |none=>
  dsimp only;have b:=VS hk a by_;rw[XQ hk,Wa hk,Yp hk,gV hk];dsimp only;rw[Wn hk,XR hk];omega
 |some i=>
  have d:=(aV.1 h).1;have b:=nu (e:=ak) l i (lB (l.getD i ak.aa) a) d;have h2:=Vw hk (g:=l.getD i ak.aa) (a:=a);dsimp only;omega
end
def vY(d:ax)(n:Int):ax:=(d.1,d.2.1,d.2.2.1,d.2.2.2.1,d.2.2.2.2.1,n,d.2.2.2.2.2.2)
def jl(w:ah)(i:Nat):Bool×ah:=
 match w with
 |(c,ti,j_,st,m_,k_,gr,f_,nn,i_,n_,l_,h_,g_)=>
  if gr= -1 then(true,(c,ti,j_,st,m_,k_,(i:Int),f_,nn,i_,n_,l_,h_.set i ((h_.getD i al.aa).1,1,(h_.getD i al.aa).2.2),g_))else(false,w)
def As(a:ae)(h:Int):aE:=(5,0,a,[],0,[],[],0,h)
def Jk(a:ae)(j_ ti:Int):ax:=(7,3,a,[],0,0,0,[],j_,ti,-1,-1)
def rF(c:bo)(a:ae)(nn j_:Int):au:=(nn,keyOf a c.2.2.2.2.2,j_,-1,[a])
def lj(s:Bool)(k:Nat)(w:ah):Bool×ah:=
 match w with
 |(c,ti,j_,st,m_,k_,gr,f_,nn,i_,n_,l_,h_,g_)=>
  let t:=h_.getD 3 al.aa
  let n:=(bC t).toNat
  let d:=g_.getD n ay.aa
  if t.1=0 then
   (if k_.length=0 then(false,w)
    else(true,(c,ti,j_,st,m_,k_.drop 1,gr,f_,nn,i_,n_,l_,h_.set 3 (As (k_.getD 0 ab.aa) g_.length),g_++[Jk (k_.getD 0 ab.aa) j_ ti])))
  else if t.2.1=0 then jl w 3
  else match gI f_ (keyOf t.2.2.1 c.2.2.2.2.2)with
   |none=>
    if 12<=f_.length then(true,(c,ti,j_,st,m_,k_,-1,f_,nn,i_,n_,l_,h_.set 3 zT,g_.set n (fv s false d j_ ti 3 [])))
    else(true,(c,ti,j_,st,m_,k_,-1,f_++[rF c t.2.2.1 nn j_],IntKind.i64.wrap (nn+1),AM i_ (j8 c (rF c t.2.2.1 nn j_),nn),n_,l_,h_.set 3 zT,g_.set n (fv s false (vY d nn) j_ ti 1 [])))
   |some i=>(true,(c,ti,j_,st,m_,k_,-1,f_.set i (lB (f_.getD i ak.aa) t.2.2.1),nn,i_,n_,l_,h_.set 3 zT,g_.set n (fv s false (vY d (f_.getD i ak.aa).1) j_ ti 2 [])))
def jZ(s:Bool)(k:Nat)(w:ah):Bool×ah:=bT (lj s k w)
theorem Vh{l:List au}{g:au}{key:List af}(h:gI l key=none)(b:g.2.1=key):gI (l++[g]) key=some l.length:=by
 unfold gI at h|-;have d:=iQ.1 h;refine aV.2 ⟨by simp,?_,fun j a=> ?_⟩;rw[I',aja (aje _)];simpa using b;rw[xD _ _ a];exact d j a
theorem VN{l:List au}{g:au}{key:List af}{i:Nat}(h:gI l key=some i)(d:g.2.1=key):gI (l.set i g) key=some i:=by
 unfold gI at h|-;obtain⟨a,h2,e⟩:=aV.1 h;refine aV.2 ⟨by simpa using a,?_,fun j b=> ?_⟩;rw[aT _ _ a];simpa using d;rw[I',List.getElem?_set_ne (by omega),<-I'];exact e j b
theorem VE{l:List au}{g:au}{n:Int}(h:∀i,i<l.length->(l.getD i ak.aa).1≠n)(b:g.1=n):fP (l++[g]) n=some l.length:=by
 unfold fP;refine aV.2 ⟨by simp,?_,fun j a=> ?_⟩;rw[I',aja (aje _)];simpa using b;rw[xD _ _ a];exact decide_eq_false (h j a)
theorem QX{α:Type}(l:List α)(x d:α):(l++[x]).getD l.length d=x:=by
 rw[I',aja (aje _)];simp
section
variable{c:bo}{ti j_ gr nn:Int}{st:List aq}{m_:List bU}{k_ l_:List ae}{f_:List au}{i_:List aC}{n_:List bY}{h_:List aE}{g_:List ax}{i:Nat}
theorem NJ(h:gr= -1):jl (c,ti,j_,st,m_,k_,gr,f_,nn,i_,n_,l_,h_,g_) i=(true,(c,ti,j_,st,m_,k_,(i:Int),f_,nn,i_,n_,l_,h_.set i ((h_.getD i al.aa).1,1,(h_.getD i al.aa).2.2),g_)):=an h
theorem PA(h:¬gr= -1):jl (c,ti,j_,st,m_,k_,gr,f_,nn,i_,n_,l_,h_,g_) i=(false,(c,ti,j_,st,m_,k_,gr,f_,nn,i_,n_,l_,h_,g_)):=a_ h
end
section
variable{k:Nat}(hk:9223372036854775808<=k)
include hk
variable{c:bo}{ti j_ gr nn:Int}{st:List aq}{m_:List bU}{k_ l_:List ae}{f_:List au}{i_:List aC}{n_:List bY}{h_:List aE}{g_:List ax}
theorem yH{n:Int}{i:Nat}(hg:f_.length<=1048579)(b:i_.length<=1048576)(a:fP f_ n=some i):
 ng k ((c,ti,j_,st,m_,k_,gr,f_,nn,i_,n_,l_,h_,g_),n,())=
  some ((c,ti,j_,st,m_,k_,gr,f_,nn,AM i_ (j8 c (f_.getD i ak.aa),n),n_,l_,h_,g_),()):=by
 have d:=(aV.1 a).1;simp only[ng];rw[rM hk (by omega),g'];simp only[a,gD];rw[an (aG d),Rs hk,g',IM hk b,g',ka]
set_option maxHeartbeats 8000000 in
theorem JD{n:Nat}{t:aE}{d:ax}(hs:ag aF (c,ti,j_,st,m_,k_,gr,f_,nn,i_,n_,l_,h_,g_)<=1048576)(hi:3<h_.length)(u:h_.getD 3 al.aa=t)(E:t.1=5)(w:t.2.1=1)
 (f:n<g_.length) (he:bC t=(n:Int)) (h:g_.getD n ay.aa=d) (x:d.2.2.1=t.2.2.1) (y:∀i,i<f_.length->(f_.getD i ak.aa).1≠nn):
 oY k ((c,ti,j_,st,m_,k_,gr,f_,nn,i_,n_,l_,h_,g_),())=
  some ((lj true k (c,ti,j_,st,m_,k_,gr,f_,nn,i_,n_,l_,h_,g_)).2,()):=by
 have hsum:=jx hk hs;have z:=fL (e:=al) (d:=al.aa) hi;rw[u]at z;have hdl:=aA (e:=ay) (l:=g_);have hgl:=aA (e:=ak) (l:=f_);have hhl:=aA (e:=aD) (l:=i_);have A:=fL (e:=ay) (d:=ay.aa) f;rw[h]at A;have B:=ek hk d;rw[x]at B;have hta:=fO hk t;have o:=PV hk (l:=f_) (a:=t.2.2.1) (by_:=c.2.2.2.2.2) (n:=nn) (j_:=j_);have hcf:=sO hk c;have hby:=aA (e:= .str) (l:=c.2.2.2.2.2);have C:decide ((0:Int)<=3/\(3:Int)<(h_.length:Int))=true:=c_ ⟨by omega,by omega⟩
 have b:∀(f_:List au) (nn:Int) (i_:List aC) (g_:List ax) (v:ax) (code:Int),n<g_.length->g_.getD n ay.aa=v->cP k ((c,ti,j_,st,m_,k_,-1,f_,nn,i_,n_,l_,h_,g_),(3:Int),code,[],())=
  some ((c,ti,j_,st,m_,k_,-1,f_,nn,i_,n_,l_,h_.set 3 zT,g_.set n (rD v j_ ti code [])),()):=by
  intro f_ nn i_ g_ v code f h;have:=gB (n:=n) (i:=3) (code:=code) (got:=[]) (c:=c) (ti:=ti) (j_:=j_) (gr:= -1) (nn:=nn) (st:=st) (m_:=m_) (k_:=k_) (l_:=l_) (f_:=f_) (i_:=i_) (n_:=n_) hk hi f (by rw[u];exact he) (by simp[ag]);rw[h]at this;exact this
 have p:=he;unfold bC at p;unfold lj;simp only[u,he,h,E,w,ka];rw[a_ (show¬(5:Int)=0 by decide),a_ (show¬(1:Int)=0 by decide)];simp only[oY,show P' 3=3 from rfl,u,p,jq];have q:jV k (t.2.2.1,c.2.2.2.2.2,())=some (keyOf t.2.2.1 c.2.2.2.2.2,()):=B5 hk (by omega) (by omega);simp only[q,g'];rw[an C,kA hk (by omega),g'];dsimp only;cases g:gI f_ (keyOf t.2.2.1 c.2.2.2.2.2)with
 |none=>
  by_cases qQ:12<=f_.length;rw[an (by simp[gD];omega),b f_ nn i_ g_ d 3 f h,g'];dsimp only;rw[an qQ];rfl;have r:oG f_ t.2.2.1 c.2.2.2.2.2 nn j_=f_++[rF c t.2.2.1 nn j_]:=by unfold oG;rw[g];rfl
  have j:gI (f_++[rF c t.2.2.1 nn j_]) (keyOf t.2.2.1 c.2.2.2.2.2)=some f_.length:=Vh g rfl;have D:fP (f_++[rF c t.2.2.1 nn j_]) nn=some f_.length:=VE y rfl;rw[r]at o;rw[a_ (by simp[gD];omega),wH hk (by omega) (by omega) (by omega),g',r,g];dsimp only;have m:f_.length<(f_++[rF c t.2.2.1 nn j_]).length:=by simp
  rw[kA hk (by omega),g'];simp only[j,gD];rw[an (aG m),an (aG f)];simp only[ka,QX,Option.isNone_none,if_true];rw[show(rF c t.2.2.1 nn j_).1=nn from rfl,yH hk (by rw[ajc,F'];omega) (by omega) D,g'];dsimp only;rw[b _ _ _ _ (vY d nn) 1 (by rw[Y'];exact f) (by rw[aT _ _ f,h];rfl),g',a_ qQ,ai5,QX];rfl
 |some i=>
  have r:oG f_ t.2.2.1 c.2.2.2.2.2 nn j_=f_.set i (lB (f_.getD i ak.aa) t.2.2.1):=by unfold oG;rw[g]
  have s:i<f_.length:=(aV.1 g).1;rw[r]at o;have j:gI (f_.set i (lB (f_.getD i ak.aa) t.2.2.1)) (keyOf t.2.2.1 c.2.2.2.2.2)=some i:=VN g (by have:=(aV.1 g).2.1;simpa[lB]using this);have hc:(if decide (gD (some i)<0)=true then decide (((f_.length:Nat):Int)>=12)else false)=false:=a_ (by show¬(decide ((i:Int)<0)=true);rw[b_];omega);rw[hc,a_ ai0,wH hk (by omega) (by omega) (by omega),g',r,g];dsimp only;have m:i<(f_.set i (lB (f_.getD i ak.aa) t.2.2.1)).length:=by simpa using s
  rw[kA hk (by omega),g'];simp only[j,gD];rw[an (aG m),an (aG f)];simp only[ka,aT _ _ s,Option.isNone_some,l7,if_false];rw[b _ _ _ _ (vY d (f_.getD i ak.aa).1) 2 (by rw[Y'];exact f) (by rw[aT _ _ f,h];rfl),g',ai5];rfl
theorem VP(op n h:Int)(a:ae):ag al (op,0,a,[],0,[],[],n,h)=ag ab a:=by rw[fO hk];simp[ag]
set_option maxHeartbeats 8000000 in
theorem sG{n:Nat}{t:aE}{d:ax}(hs:ag aF (c,ti,j_,st,m_,k_,gr,f_,nn,i_,n_,l_,h_,g_)<=1048576)(hi:3<h_.length)(g:h_.getD 3 al.aa=t)(a:t.1=0\/t.1=5/\(t.2.1=0\/t.2.1=1))
 (u:t.1=5->n<g_.length) (he:bC t=(n:Int)) (v:g_.getD n ay.aa=d) (p:t.1=5->d.2.2.1=t.2.2.1) (q:∀i,i<f_.length->(f_.getD i ak.aa).1≠nn):
 kD k ((c,ti,j_,st,m_,k_,gr,f_,nn,i_,n_,l_,h_,g_),())=
  some ((jZ true k (c,ti,j_,st,m_,k_,gr,f_,nn,i_,n_,l_,h_,g_)).1,(jZ true k (c,ti,j_,st,m_,k_,gr,f_,nn,i_,n_,l_,h_,g_)).2,()):=by
 have hsum:=jx hk hs;have hdl:=aA (e:=ay) (l:=g_);have hfl:=aA (e:=ab) (l:=k_);have j:decide ((0:Int)<=3/\(3:Int)<(h_.length:Int))=true:=c_ ⟨by omega,by omega⟩;simp only[kD,aR,show P' 3=3 from rfl,g];rw[an j];unfold jZ;rcases a with a|⟨a,s⟩;rw[a,an (by decide)];by_cases b:k_.length=0
 have f:lj true k (c,ti,j_,st,m_,k_,gr,f_,nn,i_,n_,l_,h_,g_)=(false,(c,ti,j_,st,m_,k_,gr,f_,nn,i_,n_,l_,h_,g_)):=by
  unfold lj;simp only[g,a,b,if_true]
 have m:decide (((k_.length:Nat):Int)>0)=false:=decide_eq_false (by omega);rw[f];simp only[m,l7,if_false];rfl;have hA:=fL (e:=ab) (d:=ab.aa) (l:=k_) (i:=0) (by omega);have hAt:=bI hk (k_.getD 0 ab.aa);have hAl:=aA (e:=ai) (l:=(k_.getD 0 ab.aa).1)
 have f:lj true k (c,ti,j_,st,m_,k_,gr,f_,nn,i_,n_,l_,h_,g_)=(true,(c,ti,j_,st,m_,k_.drop 1,gr,f_,nn,i_,n_,l_,h_.set 3 (As (k_.getD 0 ab.aa) g_.length),g_++[Jk (k_.getD 0 ab.aa) j_ ti])):=by
  unfold lj;simp only[g,a,b,if_true,if_false]
 have m:decide (((k_.length:Nat):Int)>0)=true:=c_ (by omega);have w:cF k (k_.drop 1,())=some (k_.drop 1,()):=A8 hk (by omega);have r:gn k ((5:Int),())=some (7,()):=rfl;rw[f];simp only[m,if_true,show P' 0=0 from rfl,show P' 1=1 from rfl];rw[an (c_ (by omega)),an (c_ (by omega)),w,g']
 have x:=we (i:=3) (t:=(5,0,k_.getD 0 ab.aa,[],0,[],[],0,0)) (o:=7) (c:=c) (ti:=ti) (j_:=j_) (gr:=gr) (nn:=nn) (st:=st) (m_:=m_) (k_:=k_.drop 1) (l_:=l_) (f_:=f_) (i_:=i_) (n_:=n_) (h_:=h_) (g_:=g_)
  hk hi (by omega) (by rw[VP hk];omega) r (by dsimp only;omega) (by simp)
 erw[x];rfl;rw[a,a_ (by decide),an j];rcases s with b|b
 have f:lj true k (c,ti,j_,st,m_,k_,gr,f_,nn,i_,n_,l_,h_,g_)=jl (c,ti,j_,st,m_,k_,gr,f_,nn,i_,n_,l_,h_,g_) 3:=by
  unfold lj;simp only[g,a,b,if_true];rw[a_ (show¬(5:Int)=0 by decide)]
 have m:=xg (i:=3) (c:=c) (ti:=ti) (j_:=j_) (gr:=gr) (nn:=nn) (st:=st) (m_:=m_) (k_:=k_) (l_:=l_) (f_:=f_) (i_:=i_) (n_:=n_) (g_:=g_) hk hi;rw[b,an (by decide),f];erw[m];by_cases h:gr= -1;rw[an h,NJ h];rfl;rw[a_ h,PA h];rfl;rw[b,a_ (by decide),JD hk hs hi g a b (u a) he v (p a) q,g']
 have f:(lj true k (c,ti,j_,st,m_,k_,gr,f_,nn,i_,n_,l_,h_,g_)).1=true:=by
  unfold lj;simp only[g,a,b];rw[a_ (show¬(5:Int)=0 by decide),a_ (show¬(1:Int)=0 by decide)];split;split<;>rfl;rfl
 unfold bT;rw[f];rfl
end
def u9(i_:List aC)(j_:Int):Bool:=decide (0<i_.length)&&decide ((i_.getD 0 aD.aa).1<=j_)
def wm(n h:Int):aE:=(6,0,cW,[],0,[],[],n,h)
def yK(n j_ ti:Int):ax:=(8,4,cW,[],0,n,0,[],j_,ti,-1,-1)
def zi(c:bo)(i_:List aC)(f_:List au)(n:Int):List aC:=
 match fP f_ n with
 |some i=>AM i_ (j8 c (f_.getD i ak.aa),n)
 |none=>i_
def jg(s:Bool)(k:Nat)(w:ah):Bool×ah:=
 match w with
 |(c,ti,j_,st,m_,k_,gr,f_,nn,i_,n_,l_,h_,g_)=>
  let t:=h_.getD 4 al.aa
  let n:=(bC t).toNat
  let d:=g_.getD n ay.aa
  if t.1=0 then
   (if u9 i_ j_=true then(true,(c,ti,j_,st,m_,k_,gr,f_,nn,(fQ i_).1,n_,l_,h_.set 4 (wm (fQ i_).2.1.2 g_.length),g_++[yK (fQ i_).2.1.2 j_ ti]))else(false,w))
  else if t.2.1=0 then jl w 4
  else if np f_ t.2.2.2.2.2.2.2.1=true then
   (true,(c,ti,j_,st,m_,k_,-1,eV f_ t.2.2.2.2.2.2.2.1 j_,nn,zi c i_ (eV f_ t.2.2.2.2.2.2.2.1 j_) t.2.2.2.2.2.2.2.1,n_++[jF f_ t.2.2.2.2.2.2.2.1 j_],l_,h_.set 4 zT,
    g_.set n (fv s true d j_ ti 8 (jF f_ t.2.2.2.2.2.2.2.1 j_).2.2.2)))
  else(true,(c,ti,j_,st,m_,k_,-1,f_,nn,i_,n_,l_,h_.set 4 zT,g_.set n (fv s false d j_ ti 6 [])))
def iq(s:Bool)(k:Nat)(w:ah):Bool×ah:=bT (jg s k w)
section
variable{k:Nat}(hk:9223372036854775808<=k)
include hk
variable{c:bo}{ti j_ gr nn:Int}{st:List aq}{m_:List bU}{k_ l_:List ae}{f_:List au}{i_:List aC}{n_:List bY}{h_:List aE}{g_:List ax}
theorem Ee{w:ah}:nr k (w,())=some (u9 w.2.2.2.2.2.2.2.2.2.1 w.2.2.1,()):=by
 simp only[nr,u9];by_cases h:0<w.2.2.2.2.2.2.2.2.2.1.length;have a:decide (((w.2.2.2.2.2.2.2.2.2.1.length:Nat):Int)>0)=true:=c_ (by omega);have b:decide ((0:Int)<=0/\(0:Int)<((w.2.2.2.2.2.2.2.2.2.1.length:Nat):Int))=true:=c_ ⟨by omega,by omega⟩;simp[a,b,h];have a:decide (((w.2.2.2.2.2.2.2.2.2.1.length:Nat):Int)>0)=false:=decide_eq_false (by omega);simp[a,h]
set_option maxHeartbeats 8000000 in
theorem GZ{n:Nat}{t:aE}{d:ax}(hs:ag aF (c,ti,j_,st,m_,k_,gr,f_,nn,i_,n_,l_,h_,g_)<=1048576)(hi:4<h_.length)(f:h_.getD 4 al.aa=t)(m:t.1=6)(g:t.2.1=1)
 (o:n<g_.length) (he:bC t=(n:Int)) (j:g_.getD n ay.aa=d):
 nV k ((c,ti,j_,st,m_,k_,gr,f_,nn,i_,n_,l_,h_,g_),())=
  some ((jg true k (c,ti,j_,st,m_,k_,gr,f_,nn,i_,n_,l_,h_,g_)).2,()):=by
 have hsum:=jx hk hs;have hdl:=aA (e:=ay) (l:=g_);have hgl:=aA (e:=ak) (l:=f_);have hhl:=aA (e:=aD) (l:=i_);have hsl:=aA (e:=eP) (l:=n_);have h:decide ((0:Int)<=4/\(4:Int)<(h_.length:Int))=true:=c_ ⟨by omega,by omega⟩;unfold jg;simp only[f,he,j,m,g,ka];rw[a_ (show¬(6:Int)=0 by decide),a_ (show¬(1:Int)=0 by decide)];simp only[nV,show P' 4=4 from rfl,f]
 have a:∀(f_:List au) (i_:List aC) (n_:List bY) (code:Int) (got:List ae),ag (.sl ab) got<=1073741824->cP k ((c,ti,j_,st,m_,k_,-1,f_,nn,i_,n_,l_,h_,g_),(4:Int),code,got,())=
  some ((c,ti,j_,st,m_,k_,-1,f_,nn,i_,n_,l_,h_.set 4 zT,g_.set n (rD d j_ ti code got)),()):=by
  intro f_ i_ n_ code got b;have:=gB (n:=n) (i:=4) (code:=code) (got:=got) (c:=c) (ti:=ti) (j_:=j_) (gr:= -1) (nn:=nn) (st:=st) (m_:=m_) (k_:=k_) (l_:=l_) (f_:=f_) (i_:=i_) (n_:=n_) hk hi o (by rw[f];exact he) b;rw[j]at this;exact this
 generalize hN:t.2.2.2.2.2.2.2.1=N;have hfl:=T8 hk (l:=f_) (n:=N) (j_:=j_);have hfb:=RL hk (l:=f_) (n:=N) (j_:=j_);have hfbt:=wW hk (jF f_ N j_);have hfll:=aA (e:=ak) (l:=eV f_ N j_);rw[an h,Ji hk (by omega),g'];dsimp only;cases hb:np f_ N with
 |false=>
  rw[an (by rfl),a f_ i_ n_ 6 [] (by simp[ag]),g',a_ ai0];rfl
 |true=>
  rw[a_ (by simp),an (c_ (by simp only[F'];omega)),rM hk (by omega),g',an rfl];unfold zi;cases p:fP (eV f_ N j_) N with
  |none=>
   have hc:decide (gD (none:Option Nat)>=0)=false:=rfl;dsimp only;rw[hc,a_ ai0,a _ _ _ 8 _ (by omega),g'];rfl
  |some i=>
   have hc:decide (gD (some i)>=0)=true:=c_ (by show(i:Int)>=0;omega);dsimp only;rw[hc,an rfl,yH hk (by omega) (by omega) p,g'];dsimp only;rw[a _ _ _ 8 _ (by omega),g'];rfl
set_option maxHeartbeats 8000000 in
theorem rb{n:Nat}{t:aE}{d:ax}(hs:ag aF (c,ti,j_,st,m_,k_,gr,f_,nn,i_,n_,l_,h_,g_)<=1048576)(hi:4<h_.length)(f:h_.getD 4 al.aa=t)(a:t.1=0\/t.1=6/\(t.2.1=0\/t.2.1=1))
 (s:t.1=6->n<g_.length) (he:bC t=(n:Int)) (u:g_.getD n ay.aa=d):
 j0 k ((c,ti,j_,st,m_,k_,gr,f_,nn,i_,n_,l_,h_,g_),())=
  some ((iq true k (c,ti,j_,st,m_,k_,gr,f_,nn,i_,n_,l_,h_,g_)).1,(iq true k (c,ti,j_,st,m_,k_,gr,f_,nn,i_,n_,l_,h_,g_)).2,()):=by
 have hsum:=jx hk hs;have hdl:=aA (e:=ay) (l:=g_);have hhl:=aA (e:=aD) (l:=i_);have j:decide ((0:Int)<=4/\(4:Int)<(h_.length:Int))=true:=c_ ⟨by omega,by omega⟩;simp only[j0,aR,show P' 4=4 from rfl,f];rw[an j];unfold iq;rcases a with a|⟨a,p⟩;rw[a,an (by decide),Ee hk,g'];dsimp only;cases q:u9 i_ j_ with
 |false=>
  have b:jg true k (c,ti,j_,st,m_,k_,gr,f_,nn,i_,n_,l_,h_,g_)=(false,(c,ti,j_,st,m_,k_,gr,f_,nn,i_,n_,l_,h_,g_)):=by
   unfold jg;simp only[f,a,q,if_true,l7,if_false]
  rw[b];rfl
 |true=>
  have b:jg true k (c,ti,j_,st,m_,k_,gr,f_,nn,i_,n_,l_,h_,g_)=(true,(c,ti,j_,st,m_,k_,gr,f_,nn,(fQ i_).1,n_,l_,h_.set 4 (wm (fQ i_).2.1.2 g_.length),g_++[yK (fQ i_).2.1.2 j_ ti])):=by
   unfold jg;simp only[f,a,q,if_true]
  have m:gn k ((6:Int),())=some (8,()):=rfl;have r:ag ab cW=0:=by rw[bI hk];rfl
  rw[b,an rfl,Gl hk (by omega),g']
  have v:=we (i:=4) (t:=(6,0,cW,[],0,[],[],(fQ i_).2.1.2,0)) (o:=8) (c:=c) (ti:=ti) (j_:=j_) (gr:=gr) (nn:=nn) (st:=st) (m_:=m_) (k_:=k_) (l_:=l_) (f_:=f_) (i_:=(fQ i_).1) (n_:=n_) (h_:=h_) (g_:=g_)
   hk hi (by omega) (by rw[VP hk,r];omega) m (by dsimp only;rw[r];omega) (by simp)
  erw[v];rfl
 rw[a,a_ (by decide),an j];rcases p with g|g
 have b:jg true k (c,ti,j_,st,m_,k_,gr,f_,nn,i_,n_,l_,h_,g_)=jl (c,ti,j_,st,m_,k_,gr,f_,nn,i_,n_,l_,h_,g_) 4:=by
  unfold jg;simp only[f,a,g,if_true];rw[a_ (show¬(6:Int)=0 by decide)]
 have w:=xg (i:=4) (c:=c) (ti:=ti) (j_:=j_) (gr:=gr) (nn:=nn) (st:=st) (m_:=m_) (k_:=k_) (l_:=l_) (f_:=f_) (i_:=i_) (n_:=n_) (g_:=g_) hk hi;rw[g,an (by decide),b];erw[w];by_cases h:gr= -1;rw[an h,NJ h];rfl;rw[a_ h,PA h];rfl;rw[g,a_ (by decide),GZ hk hs hi f a g (s a) he u,g']
 have b:(jg true k (c,ti,j_,st,m_,k_,gr,f_,nn,i_,n_,l_,h_,g_)).1=true:=by
  unfold jg;simp only[f,a,g];rw[a_ (show¬(6:Int)=0 by decide),a_ (show¬(1:Int)=0 by decide)];split<;>rfl
 unfold bT;rw[b];rfl
end
def qX(s:Bool)(k:Nat)(w:ah)(i:Nat):Bool×ah:=
 if(((eQ w).getD i al.aa).1=1)then cN s k w i
 else if(((eQ w).getD i al.aa).1=2\/((eQ w).getD i al.aa).1=3)then pU s k w i
 else if(((eQ w).getD i al.aa).1=4)then im s k w i
 else if i=3 then jZ s k w
 else if i=4 then iq s k w
 else(false,w)
theorem jw{k:Nat}{w:ah}{t:aE}{d:ax}{i:Nat}(h:eF k w t d (i:Int)=true):
 i<=4/\(t.1=0\/((t.1=1\/t.1=2\/t.1=3\/t.1=4)/\i<3)\/(t.1=5/\i=3)\/(t.1=6/\i=4)):=by
 unfold eF eC bw at h;grind
theorem T9{k:Nat}{w:ah}{t:aE}{d:ax}{i:Int}(h:eF k w t d i=true)(hp:t.1≠0):
 0<=bC t/\bC t<((bE w).length:Int)/\(dH d= -1↔¬(t.1=1/\t.2.1=2))/\0<=t.2.1/\t.2.1<=2/\(t.2.1=2->t.1=1\/t.1=3):=by
 unfold eF eC bw at h;unfold bC dH;grind
theorem TF{k:Nat}{w:ah}{t:aE}{d:ax}{i:Int}(h:eF k w t d i=true)(hp:t.1=3):
 t.2.2.1=cW/\t.2.2.2.1=[]/\t.2.2.2.2.2.2.2.1=0/\0<=t.2.2.2.2.1/\(t.2.1≠2->t.2.2.2.2.1<w.1.1)/\(t.2.1=2->(t.2.2.2.2.2.1.length:Int)=w.1.1):=by
 unfold eF eC bw qE at h;grind
theorem R5{k:Nat}{w:ah}{t:aE}{d:ax}{i:Int}(h:eF k w t d i=true)(hp:t.1=4):0<=t.2.2.2.2.1/\t.2.2.2.2.1<w.1.1:=by
 unfold eF eC bw qE at h;grind
theorem T0{k:Nat}{w:ah}{t:aE}{d:ax}{i:Int}(h:eF k w t d i=true)(hp:t.1=5):d.2.2.1=t.2.2.1:=by
 unfold eF eC bw qE at h;grind
theorem UH{k:Nat}{w:ah}(h:ns k w=true){i:Nat}(hi:i<(eQ w).length):eF k w ((eQ w).getD i al.aa) (qA w ((eQ w).getD i al.aa)) (i:Int)=true:=
 cA.1 h i (by omega) hi
theorem UQ{k:Nat}{w:ah}(h:cw k w=true){i:Nat}(hi:i<w.2.2.2.2.2.2.2.1.length):(w.2.2.2.2.2.2.2.1.getD i ak.aa).1<w.2.2.2.2.2.2.2.2.1:=by
 unfold cw at h;simp only[J6]at h;have a:=h.2.2.2.2.2.2.2.2.2.2.2.2.2;unfold gY yN at a;simp only[J6,cA]at a;have b:=a.2.2.2 i (by omega) hi;simpa using b.1.2.2
section
variable{k:Nat}(hk:9223372036854775808<=k)
include hk
set_option maxHeartbeats 8000000 in
theorem Oz{w:ah}{i:Nat}(hs:ag aF w<=1048576)(h:cw k w=true)(hi:i<5):oC k (w,(i:Int),())=some ((qX true k w i).1,(qX true k w i).2,()):=by
 obtain⟨D,G,H,I⟩:=OE h;obtain⟨⟨y,_⟩,_⟩:=QM D;have b:i<(eQ w).length:=by show i<w.2.2.2.2.2.2.2.2.2.2.2.2.1.length;omega
 have g:=UH I b;have u:=fun j p=>UQ h (i:=j) p;obtain⟨c,ti,j_,st,m_,k_,gr,f_,nn,i_,n_,l_,h_,g_⟩:=w;dsimp only at D G H y u b;obtain⟨t,m⟩:∃t,h_.getD i al.aa=t:=⟨_,rfl⟩
 have hw:∀s,qX s k (c,ti,j_,st,m_,k_,gr,f_,nn,i_,n_,l_,h_,g_) i=if t.1=1 then cN s k (c,ti,j_,st,m_,k_,gr,f_,nn,i_,n_,l_,h_,g_) i
  else if t.1=2\/t.1=3 then pU s k (c,ti,j_,st,m_,k_,gr,f_,nn,i_,n_,l_,h_,g_) i
  else if t.1=4 then im s k (c,ti,j_,st,m_,k_,gr,f_,nn,i_,n_,l_,h_,g_) i
  else if i=3 then jZ s k (c,ti,j_,st,m_,k_,gr,f_,nn,i_,n_,l_,h_,g_)
  else if i=4 then iq s k (c,ti,j_,st,m_,k_,gr,f_,nn,i_,n_,l_,h_,g_)else(false,(c,ti,j_,st,m_,k_,gr,f_,nn,i_,n_,l_,h_,g_)):=by
  intro s;unfold qX;simp only[eQ,m]
 rw[hw];dsimp only[eQ,qA]at g;rw[m]at g;obtain⟨d,r⟩:∃d,g_.getD (bC t).toNat ay.aa=d:=⟨_,rfl⟩
 change eF k _ t (g_.getD (bC t).toNat ay.aa) _=true at g;rw[r]at g;have v:=jw g;simp only[oC,aR,ka,m];rw[an (aG b)];by_cases x:t.1=0;rw[x,a_ (by decide),a_ (by decide),a_ (by decide),a_ (by decide)];by_cases B:i=3;subst B
 obtain⟨n,o⟩:∃n:Nat,bC t=(n:Int):=by
  have:t=zT:=by unfold eF eC at g;grind
  exact⟨0,by rw[this];rfl⟩
 rw[an (by decide),sG (n:=n) (d:=g_.getD n ay.aa) hk hs b m (.inl x) (by omega) o rfl (by omega) (fun j p=>by have:=u j p;omega),g',a_ (by decide),a_ (by decide),a_ (by decide),an rfl];by_cases C:i=4;subst C
 obtain⟨n,o⟩:∃n:Nat,bC t=(n:Int):=by
  have:t=zT:=by unfold eF eC at g;grind
  exact⟨0,by rw[this];rfl⟩
 rw[a_ (by decide),an (by decide),rb (n:=n) (d:=g_.getD n ay.aa) hk hs b m (.inl x) (by omega) o rfl,g',a_ (by decide),a_ (by decide),a_ (by decide),a_ (by decide),an rfl];rw[a_ (by rw[beq_iff_eq];omega),a_ (by rw[beq_iff_eq];omega),a_ (by decide),a_ (by decide),a_ (by decide),a_ B,a_ C];obtain⟨b1,J,K,b4,b5,b6⟩:=T9 g x;dsimp only[bE]at J;obtain⟨n,o⟩:∃n:Nat,bC t=(n:Int):=⟨(bC t).toNat,by omega⟩
 rw[o,ka]at r;have f:n<g_.length:=by omega
 rcases v.2 with a|⟨a,q⟩|⟨a,q⟩|⟨a,q⟩;exact absurd a x;rcases a with a|a|a|a;obtain⟨j,p,z⟩:=PX (k:=k) hk (l:=st) (s:=t.2.2.1.1) (by omega);rw[an (by rw[a];rfl),an a,HF hk hs b m a p z f o r (by omega) (fun e A=>by rw[K]at A;exact A ⟨a,e⟩),g'];obtain⟨j,p,z⟩:=PX (k:=k) hk (l:=st) (s:=t.2.2.2.1) (by omega)
 rw[a_ (by rw[a];decide),an (by rw[a];rfl),an (by rw[a];rfl),a_ (by omega),an (.inl a),
  wP (j:=j) hk hs b m (.inl a) (fun _=>p) (by rw[an a];exact z) (by omega) f o r (by omega),g']
 obtain⟨s1,s2,s3,s4,E,F⟩:=TF g a;dsimp only at E F
 rw[a_ (by rw[a];decide),a_ (by rw[a];decide),an (by rw[a];rfl),a_ (by omega),an (.inr a),
  wP (j:=t.2.2.2.2.1.toNat) hk hs b m (.inr a) (fun e=>by have:=E (by omega);omega) (by rw[a_ (by omega)];omega) (fun _ e=>by have:=F e;omega) f o r (by omega),g']
 obtain⟨s1,s2⟩:=R5 g a;dsimp only at s2
 rw[a_ (by rw[a];decide),a_ (by rw[a];decide),a_ (by rw[a];decide),an (by rw[a];rfl),a_ (by omega),a_ (by omega),an a,
  JE (j:=t.2.2.2.2.1.toNat) hk hs b m a (by omega) (by omega) f o r (by omega),g']
 subst q
 rw[a_ (by rw[a];decide),a_ (by rw[a];decide),a_ (by rw[a];decide),a_ (by rw[a];decide),an (by decide),a_ (by omega),a_ (by omega),a_ (by omega),an rfl,
  sG hk hs b m (.inr ⟨a,by omega⟩) (fun _=>f) o r (fun _=>T0 g a) (fun j p=>by have:=u j p;omega),g']
 subst q
 rw[a_ (by rw[a];decide),a_ (by rw[a];decide),a_ (by rw[a];decide),a_ (by rw[a];decide),a_ (by decide),an (by decide),a_ (by omega),a_ (by omega),a_ (by omega),a_ (by decide),an rfl,
  rb hk hs b m (.inr ⟨a,by omega⟩) (fun _=>f) o r,g']
end
end Vg.Tryz
