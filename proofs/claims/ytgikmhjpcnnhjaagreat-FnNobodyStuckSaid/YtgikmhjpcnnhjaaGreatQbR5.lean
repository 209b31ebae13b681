/- Texts of this law, joined. -/
import Derived.Test.YtgikmhjpcnnhjaaGreatQbP7
import Derived.Test.YtgikmhjpcnnhjaaGreatXd
import Derived.Test.YtgikmhjpcnnhjaaGreatQbJ
set_option linter.unusedSimpArgs false
set_option linter.unusedVariables false
set_option linter.unusedSectionVars false
set_option linter.defProp false
open Option renaming bind_some -> av,isNone_none -> ayY,isNone_some -> ayZ,bind -> ay1
open Int renaming toNat_natCast -> ed,toNat -> J8,tmod_lt_of_pos -> ayX,tmod_nonneg -> ay6
open List renaming length_set -> si,length_singleton -> J_,set_set -> u_,getD_eq_getElem?_getD -> ayy,mem_flatMap -> V_,length_append -> ayB,mem_singleton -> ayD,pairwise_iff_getElem -> ayE,mem_or_eq_of_mem_set -> ayF,mem_append -> ayG,flatMap_cons -> ayH,pairwise_map -> ayI,getElem?_append_right -> ayJ,getElem_of_mem -> ayK,pairwise_singleton -> ayL,all_eq_true -> ayN,pairwise_append -> ayO,getElem_mem -> ayR,length_nil -> ayS,getElem?_set_ne -> ayT,mem_of_mem_take -> ayU,mem_of_mem_drop -> ayV,flatMap_append -> ayW,length -> ay2,length_drop -> ay4,filter_cons -> ay5,nil_append -> ay7,mem_filter -> ay9
open Bool renaming false_eq_true -> D',and_eq_true -> G7,false_ne_true -> V',not_false -> ayP,not_true -> ayQ,not_eq_true' -> ay0,or_eq_true -> ay8
open Nat renaming lt_irrefl -> ayM,le_refl -> ay3
namespace Vg.Tryz
open Go Vg
def pI(d:aA)(U ti code:Int):aA:=(d.1,d.2.1,d.2.2.1,d.2.2.2.1,d.2.2.2.2.1,d.2.2.2.2.2.1,code,d.2.2.2.2.2.2.2.1,U,d.2.2.2.2.2.2.2.2.2.1,ti,d.2.2.2.2.2.2.2.2.2.2.2)
def nf(d:aA)(ti:Int):aA:=(d.1,d.2.1,d.2.2.1,d.2.2.2.1,d.2.2.2.2.1,d.2.2.2.2.2.1,d.2.2.2.2.2.2.1,d.2.2.2.2.2.2.2.1,d.2.2.2.2.2.2.2.2.1,d.2.2.2.2.2.2.2.2.2.1,d.2.2.2.2.2.2.2.2.2.2.1,ti)
def dN(d:aA):Int:=d.2.2.2.2.2.2.2.2.2.2.1
def GL(d:aA)(U ti code:Int):aA:=nf (if dN d= -1 then pI d U ti code else d) ti
def gK(d:aA)(U inv a res:Int):aA:=(d.1,d.2.1,d.2.2.1,d.2.2.2.1,d.2.2.2.2.1,d.2.2.2.2.2.1,d.2.2.2.2.2.2.1,d.2.2.2.2.2.2.2.1,U,inv,a,res)
def Ny(st:List au)(j:Int):List au:=if 0<=j then st.set j.toNat (-1,(st.getD j.toNat aj.aa).2)else st
def bm(t:aG):Int:=t.2.2.2.2.2.2.2.2
def aL{α:Type}{l:List α}{n:Nat}(a d:α)(h:n<l.length):(l.set n a).getD n d=a:=by
 rw[ayy,List.getElem?_set_self h];rfl
section
variable{k:Nat}(hk:9223372036854775808<=k)
include hk
variable{c:aY}{ti U gr nn:Int}{st:List au}{m_:List bo}{Z l_:List af}{A:List aw}{V:List aF}{n_:List bq}{O:List aG}{T:List aA}
theorem ZT{i n:Nat}{code:Int}(hi:i<O.length)(a:n<T.length)(b:bm (O.getD i aq.aa)=(n:Int)):
 sU k ((c,ti,U,st,m_,Z,gr,A,nn,V,n_,l_,O,T),(i:Int),code,())=
  some ((c,ti,U,st,m_,Z,gr,A,nn,V,n_,l_,O,T.set n (pI (T.getD n ay.aa) U ti code)),()):=by
 unfold bm at b;simp only[sU,ed,b,ek];rw[an (aC hi),an (aC a)];simp only[u_,aL _ _ a,si];rfl
theorem acr{d:aA}(a:T.length<=1048576):
 yc k ((c,ti,U,st,m_,Z,gr,A,nn,V,n_,l_,O,T),d,())=
  some ((T.length:Int),(c,ti,U,st,m_,Z,gr,A,nn,V,n_,l_,O,T++[gK d U ti (-1) (-1)]),()):=by
 simp only[yc];rw[an (c_ (by simp only[J_];omega)),Xp a];rfl
theorem age{d:aA}(hn:T.length<=1048576):
 AN k ((c,ti,U,st,m_,Z,gr,A,nn,V,n_,l_,O,T),d,())=
  some ((c,ti,U,st,m_,Z,gr,A,nn,V,n_,l_,O,T++[gK d U ti ti ti]),()):=by
 simp only[AN];rw[an (c_ (by simp only[J_];omega))];rfl
theorem J9{d:aA}(hn:T.length<=1048576):
 bV k ((c,ti,U,st,m_,Z,gr,A,nn,V,n_,l_,O,T),d,())=
  some ((c,ti,U,st,m_,Z,gr,A,nn,V,n_,l_,O,T++[gK d U ti ti ti]),()):=by
 simp only[bV];rw[an (c_ (by simp only[J_];omega))];rfl
set_option maxHeartbeats 4000000 in
def OG{i n:Nat}{code:Int}(hi:i<O.length)(f:n<T.length)(m:bm (O.getD i aq.aa)=(n:Int))
 (q:ai aq (O.getD i aq.aa)<=1048576) (o:aV k (O.getD i aq.aa) (st.length:Int)<(st.length:Int)):
 gP k ((c,ti,U,st,m_,Z,gr,A,nn,V,n_,l_,O,T),(i:Int),code,())=
  some ((c,ti,U,Ny st (aV k (O.getD i aq.aa) (st.length:Int)),m_,Z,if bN (O.getD i aq.aa)=true then-1 else gr,A,nn,V,n_,l_,O.set i zT,
   T.set n (GL (T.getD n ay.aa) U ti code)),()):=by
 have p:=m;unfold bm at m;simp only[gP,ed,m,ek,aN];rw[an (aC hi),an (aC f)];have h:((0,0,(([]:List ag),0,0,ByteArray.empty),([]:List ag),0,([]:List Int),([]:List af),0,0):aG)=zT:=rfl;unfold GL dN;obtain⟨b,g⟩:∃b,bN (O.getD i aq.aa)=b:=⟨_,rfl⟩
 obtain⟨j,e⟩:∃j,aV k (O.getD i aq.aa) (st.length:Int)=j:=⟨_,rfl⟩
 rw[e]at o;rw[g];by_cases l:(T.getD n ay.aa).2.2.2.2.2.2.2.2.2.2.1= -1;rw[an (by rw[beq_iff_eq];exact l),ZT hk hi f p,av,an l];dsimp only;rw[si,an (aC f),an (aC hi),rm hk q,av];simp only[aL _ _ f,u_];simp only[e];by_cases a:0<=j;have d:Ny st j=st.set j.toNat (-1,(st.getD j.toNat aj.aa).2):=an a;rw[an (c_ a),an (c_ ⟨a,o⟩)];rw[an (aC hi),mT hk,av,d,g];cases b<;>simp only[aC hi,if_true,D',if_false,h,nf,pI];have d:Ny st j=st:=a_ a;rw[a_ (by simpa using a)];rw[an (aC hi),mT hk,av,d,g];cases b<;>simp only[aC hi,if_true,D',if_false,h,nf,pI];rw[a_ (by rw[beq_iff_eq];exact l),a_ l,an (aC f)];rw[an (aC hi),rm hk q,av];dsimp only;simp only[e];by_cases a:0<=j;have d:Ny st j=st.set j.toNat (-1,(st.getD j.toNat aj.aa).2):=an a;rw[an (c_ a),an (c_ ⟨a,o⟩)];rw[an (aC hi),mT hk,av,d,g];cases b<;>simp only[aC hi,if_true,D',if_false,h,nf,pI];have d:Ny st j=st:=a_ a;rw[a_ (by simpa using a)];rw[an (aC hi),mT hk,av,d,g];cases b<;>simp only[aC hi,if_true,D',if_false,h,nf,pI]
theorem UY{i:Nat}(hi:i<O.length):
 rf k ((c,ti,U,st,m_,Z,gr,A,nn,V,n_,l_,O,T),(i:Int),())=
  if gr= -1 then some (true,(c,ti,U,st,m_,Z,(i:Int),A,nn,V,n_,l_,O.set i ((O.getD i aq.aa).1,1,(O.getD i aq.aa).2.2),T),())
  else some (false,(c,ti,U,st,m_,Z,gr,A,nn,V,n_,l_,O,T),()):=by
 simp only[rf,ed,im];by_cases h:gr= -1;rw[a_ (by simpa using h),an (aC hi),an h];rw[an (by simpa using h),a_ h]
theorem rR{i:Nat}(hi:i<O.length):
 js k ((c,ti,U,st,m_,Z,gr,A,nn,V,n_,l_,O,T),(i:Int),())=
  if gr= -1 then some (true,(c,ti,U,st,m_,Z,(i:Int),A,nn,V,n_,l_,O.set i ((O.getD i aq.aa).1,1,(O.getD i aq.aa).2.2),T),())
  else some (false,(c,ti,U,st,m_,Z,gr,A,nn,V,n_,l_,O,T),()):=by
 simp only[js,ed,im];by_cases h:gr= -1;rw[a_ (by simpa using h),an (aC hi),an h];rw[an (by simpa using h),a_ h]
theorem nC{i j:Nat}(hi:i<O.length)(a:j<st.length):
 gF k ((c,ti,U,st,m_,Z,gr,A,nn,V,n_,l_,O,T),(i:Int),(j:Int),())=
  if(st.getD j aj.aa).1= -1 then some (true,(c,ti,U,st.set j ((i:Int),(st.getD j aj.aa).2),m_,Z,gr,A,nn,V,n_,l_,O.set i ((O.getD i aq.aa).1,1,(O.getD i aq.aa).2.2),T),())
  else some (false,(c,ti,U,st,m_,Z,gr,A,nn,V,n_,l_,O,T),()):=by
 simp only[gF,ed,im];rw[an (aC a)];by_cases h:(st.getD j aj.aa).1= -1;rw[a_ (by simpa using h),an (aC a),an (aC hi),an h];rw[an (by simpa using h),a_ h]
theorem aaE{i j:Nat}(hi:i<O.length)(a:j<st.length)(b:(O.getD i aq.aa).2.2.2.2.1=(j:Int))(hs:st.length<=1048576):
 xh k ((c,ti,U,st,m_,Z,gr,A,nn,V,n_,l_,O,T),(i:Int),())=
  some ((c,ti,U,st.set j (-1,(st.getD j aj.aa).2),m_,Z,gr,A,nn,V,n_,l_,
   O.set i ((O.getD i aq.aa).1,0,(O.getD i aq.aa).2.2.1,(O.getD i aq.aa).2.2.2.1,((j+1:Nat):Int),(O.getD i aq.aa).2.2.2.2.2),T),()):=by
 simp only[xh,ed,b,ek];rw[an (aC hi),an (aC a),aX (by omega)];simp only[u_,aL _ _ hi]
end
def yZ(d:aA)(U ti code:Int)(got:List af):aA:=(d.1,d.2.1,d.2.2.1,d.2.2.2.1,d.2.2.2.2.1,d.2.2.2.2.2.1,code,got,U,d.2.2.2.2.2.2.2.2.2.1,ti,d.2.2.2.2.2.2.2.2.2.2.2)
def oc(d:aA)(U ti code:Int)(got:List af):aA:=nf (if dN d= -1 then yZ d U ti code got else d) ti
section
variable{k:Nat}(hk:9223372036854775808<=k)
include hk
variable{c:aY}{ti U gr nn:Int}{st:List au}{m_:List bo}{Z l_:List af}{A:List aw}{V:List aF}{n_:List bq}{O:List aG}{T:List aA}
set_option maxHeartbeats 4000000 in
def eT{i n:Nat}{code:Int}{got:List af}(hi:i<O.length)(a:n<T.length)(d:bm (O.getD i aq.aa)=(n:Int))
 (f:ai (.sl ae) got<=1073741824):
 bR k ((c,ti,U,st,m_,Z,gr,A,nn,V,n_,l_,O,T),(i:Int),code,got,())=
  some ((c,ti,U,st,m_,Z,gr,A,nn,V,n_,l_,O.set i zT,T.set n (oc (T.getD n ay.aa) U ti code got)),()):=by
 unfold bm at d;simp only[bR,ed,d,ek,aN];rw[an (aC hi),an (aC a)];have e:((0,0,(([]:List ag),0,0,ByteArray.empty),([]:List ag),0,([]:List Int),([]:List af),0,0):aG)=zT:=rfl;unfold oc dN;by_cases b:(T.getD n ay.aa).2.2.2.2.2.2.2.2.2.2.1= -1;rw[an (by rw[beq_iff_eq];exact b),ff hk f,av,an b];simp only[aL _ _ a,u_,si,aC hi,aC a,if_true,e,nf,yZ];rw[a_ (by rw[beq_iff_eq];exact b),a_ b];simp only[aL _ _ a,u_,si,aC hi,aC a,if_true,e,nf,yZ]
def qy{i:Nat}{t:aG}{o:Int}(hi:i<O.length)(hn:T.length<=1048576)(ht:ai aq t<=1048576)(a:eN k (t.1,())=some (o,()))(hA:ai ae t.2.2.1<=1048576)(hL:t.2.2.2.1.length<=1048576):
 cS k ((c,ti,U,st,m_,Z,gr,A,nn,V,n_,l_,O,T),(i:Int),t,())=
  some ((c,ti,U,st,m_,Z,gr,A,nn,V,n_,l_,O.set i (t.1,t.2.1,t.2.2.1,t.2.2.2.1,t.2.2.2.2.1,t.2.2.2.2.2.1,t.2.2.2.2.2.2.1,t.2.2.2.2.2.2.2.1,(T.length:Int)),
   T++[(o,(i:Int),t.2.2.1,t.2.2.2.1,0,t.2.2.2.2.2.2.2.1,0,[],U,ti,-1,-1)]),()):=by
 simp only[cS,vA hk (show ai aq t<=1073741824 by omega),av,a,cR hk (show ai ae t.2.2.1<=1073741824 by omega),ed];rw[an (aC hi),an (c_ (by simp only[ayS];omega)),an (c_ (by simp only[J_];omega))];rfl
def Wb{i j:Nat}(hi:i<O.length)(a:j<st.length)(b:ai aq (O.getD i aq.aa)<=1048576)(d:jL k (O.getD i aq.aa) (st.length:Int)=(j:Int)):
 rk k ((c,ti,U,st,m_,Z,gr,A,nn,V,n_,l_,O,T),(i:Int),())=
  if(st.getD j aj.aa).1= -1 then some (true,(c,ti,U,st.set j ((i:Int),(st.getD j aj.aa).2),m_,Z,gr,A,nn,V,n_,l_,O.set i ((O.getD i aq.aa).1,1,(O.getD i aq.aa).2.2),T),())
  else some (false,(c,ti,U,st,m_,Z,gr,A,nn,V,n_,l_,O,T),()):=by
 simp only[rk,ed,im,SQ hk b,av,d];rw[an (aC hi),an (aC a)];by_cases h:(st.getD j aj.aa).1= -1;rw[a_ (by simpa using h),an (aC a),an (aC hi),an h];rw[an (by simpa using h),a_ h]
end
def eC(s x:Bool)(d:aA)(U ti code:Int)(got:List af):aA:=if(s||x)=true then oc d U ti code got else GL d U ti code
def qZ(k:Nat)(c:aY)(st:List au)(a:af):Bool:= !(bD k st a.1).2&&decide (c.2.1<=(bu st:Int))
def bL(st:List au)(j:Nat)(x:Int):List au:=st.set j (x,(st.getD j aj.aa).2)
def tick(ti:Int):Int:=IntKind.i64.wrap (ti+1)
def oE(i:Int)(a:af):aA:=(2,i,a,[],0,0,8,[],0,0,0,0)
def ey(w:ah)(i j:Nat):Bool×ah:=
 match w with
 |(c,ti,U,st,m_,Z,gr,A,nn,V,n_,l_,O,T)=>
  if(st.getD j aj.aa).1= -1 then(true,(c,ti,U,bL st j i,m_,Z,gr,A,nn,V,n_,l_,O.set i ((O.getD i aq.aa).1,1,(O.getD i aq.aa).2.2),T))else(false,w)
def bC(r:Bool×ah):Bool×ah:=if r.1=true then(true,(r.2.1,tick r.2.2.1,r.2.2.2))else r
def pA(s:Bool)(k:Nat)(w:ah)(i:Nat):Bool×ah:=
 match w with
 |(c,ti,U,st,m_,Z,gr,A,nn,V,n_,l_,O,T)=>
  let t:=O.getD i aq.aa
  let n:=(bm t).toNat
  let j:=(bg k st t.2.2.1.1).toNat
  let d:=T.getD n ay.aa
  if t.2.1=0 then ey w i j
  else if t.2.1=1 then
   if qZ k c st t.2.2.1=true then(true,(c,ti,U,bL st j (-1),m_,Z,gr,A,nn,V,n_,l_,O.set i zT,T.set n (eC s false d U ti 3 [])))
   else(true,(c,ti,U,(dn k st t.2.2.1).1,m_,Z,gr,A,nn,V,n_,l_,O.set i (t.1,2,(bD k (dn k st t.2.2.1).1 t.2.2.1.1).1,t.2.2.2),T.set n (pI d U ti (if(dn k st t.2.2.1).2=true then 1 else 2))))
  else(true,(c,ti,U,bL st j (-1),m_.map (mU t.2.2.1),Z++[t.2.2.1],gr,A,nn,V,n_,l_++[t.2.2.1],O.set i zT,(T++[gK (oE i t.2.2.1) U ti ti ti]).set n (nf d ti)))
def ia(s:Bool)(k:Nat)(w:ah)(i:Nat):Bool×ah:=bC (pA s k w i)
def pN{α:Type}{l:List α}{n:Nat}(x d:α)(h:n<l.length):(l++[x]).getD n d=l.getD n d:=by
 rw[ayy,ayy,List.getElem?_append_left h]
def KL{α:Type}{b:Bool}{a cap:Int}{X Y:Option α}:(ay1 (if((!b)==true)=true then some (a,())else some (0,())) fun(r:Int×Unit)=>if(if(!b)=true then decide (r.1>=cap)else false)=true then X else Y)=
 if(!b&&decide (cap<=a))=true then X else Y:=by cases b<;>simp
def Rv(st:List au)(j:Nat):Ny st (j:Int)=bL st j (-1):=by
 unfold Ny bL;rw[an (by omega),ed]
section
variable{k:Nat}(hk:9223372036854775808<=k)
include hk
variable{c:aY}{ti U gr nn:Int}{st:List au}{m_:List bo}{Z l_:List af}{A:List aw}{V:List aF}{n_:List bq}{O:List aG}{T:List aA}
def eV(hs:ai aD (c,ti,U,st,m_,Z,gr,A,nn,V,n_,l_,O,T)<=1048576):
 ai db c+ai (.sl aj) st+ai (.sl aW) m_+ai (.sl ae) Z+ai (.sl al) A+ai (.sl aE) V+ai (.sl cw) n_+ai (.sl ae) l_+ai (.sl aq) O+ai (.sl ay) T<=1048576:=by
 rw[iI hk]at hs;exact hs
theorem D4{l:List au}{s:List ag}(h:l.length≠0):∃j:Nat,j<l.length/\bg k l s=(j:Int):=by
 obtain⟨h0,h1,a⟩:=kV (k:=k) (l:=l) (s:=s) h;exact⟨(bg k l s).toNat,a,by omega⟩
set_option maxHeartbeats 4000000 in
def ZI{i n j:Nat}{t:aG}{d:aA}(hs:ai aD (c,ti,U,st,m_,Z,gr,A,nn,V,n_,l_,O,T)<=1048576)(hi:i<O.length)(f:O.getD i aq.aa=t)(g:t.1=1)
 (x:j<st.length) (q:bg k st t.2.2.1.1=(j:Int)) (r:n<T.length) (m:bm t=(n:Int)) (o:T.getD n ay.aa=d) (u:t.2.1=0\/t.2.1=1\/t.2.1=2)
 (y:t.2.1=2->dN d≠-1) (hz:t.2.2.2.2.2.2.2.2=(n:Int)):
 zB k ((c,ti,U,st,m_,Z,gr,A,nn,V,n_,l_,O,T),(i:Int),())=
  some ((ia false k (c,ti,U,st,m_,Z,gr,A,nn,V,n_,l_,O,T) i).1,(ia false k (c,ti,U,st,m_,Z,gr,A,nn,V,n_,l_,O,T) i).2,()):=by
 have hsum:=eV hk hs;have v:=dq (e:=aq) (d:=aq.aa) hi;rw[f]at v;have hdl:=az (e:=ay) (l:=T);have hfl:=az (e:=ae) (l:=Z);have hsl:=az (e:=ae) (l:=l_);have htl:=az (e:=aq) (l:=O);have s:ai aq t<=1048576:=by omega
 have hA:=(qW hk s).1;have hta:=dy hk t;have htA:=bj hk t.2.2.1;have p:bN t=false:=by unfold bN;rw[g];rfl
 simp only[zB,ed,f,g,aN,ek,cE,im];rw[an (aC hi),a_ (by decide)];unfold ia pA;simp only[f,m,o,q,ed];rcases u with h|h|h
 have z:jL k (O.getD i aq.aa) (st.length:Int)=(j:Int):=by
  rw[f];unfold jL;rw[a_ (by omega),a_ (by simp[h]),an g];exact q
 rw[h,an (by decide),Wb hk hi x (by rw[f];exact s) z,an rfl];unfold ey bC;simp only[f,g];split<;>simp[tick,bL]
 have b:aV k t (st.length:Int)=(j:Int):=by
  unfold aV;rw[a_ (by omega),an ⟨g,by omega⟩];exact q
 rw[h,a_ (by decide),an (by decide),a_ (by decide),an rfl,oq hk (by omega) (by omega),av,vr hk (by omega),KL];unfold qZ;cases hb:(!(bD k st t.2.2.1.1).2&&decide (c.2.1<=(bu st:Int)))with
 |true=>
  rw[an rfl,an rfl,OG hk hi r (by rw[f];exact m) (by rw[f];exact s) (by rw[f,b];omega),av,f,o,b,Rv,p];rfl
 |false=>
  have hpt:=Mu hk (l:=st) (a:=t.2.2.1);rw[a_ (by simp),a_ (by simp),Xn hk (by omega) (by omega),av];cases hf:(dn k st t.2.2.1).2 with
  |true=>
   rw[an rfl,an rfl,ZT hk hi r (by rw[f];exact m),av];dsimp only;rw[f,o,oq hk (by omega) (by omega),av];simp only[u_,aL _ _ hi,g];rfl
  |false=>
   rw[a_ (by simp),a_ (by simp),ZT hk hi r (by rw[f];exact m),av];dsimp only;rw[f,o,oq hk (by omega) (by omega),av];simp only[u_,aL _ _ hi,g];rfl
 have b:aV k t (st.length:Int)=(j:Int):=by
  unfold aV;rw[a_ (by omega),an ⟨g,by omega⟩];exact q
 rw[h,a_ (by decide),a_ (by decide),a_ (by decide),a_ (by decide)];have w:ck k (t.2.2.1,())=some (t.2.2.1,()):=gY hk (by omega);simp only[w,av];rw[an (c_ (by simp only[J_];omega)),an (c_ (by simp only[J_];omega)),YL hk (by omega) (by omega),av,age hk (by omega),av];dsimp only;rw[OG (n:=n) hk hi (by rw[ayB,J_];omega) (by rw[f];exact m) (by rw[f];exact s) (by rw[f,b];omega),av,f,pN _ _ r,o,b,Rv,p];unfold GL;rw[a_ (y h)];rfl
def nr{i j:Nat}{t:aG}(hi:i<O.length)(a:O.getD i aq.aa=t)(b:ai (.sl ak) t.2.2.1.1<=1048576)(d:bg k st t.2.2.1.1=(j:Int)):
 gI k ((c,ti,U,st,m_,Z,gr,A,nn,V,n_,l_,O,T),(i:Int),())=some ((j:Int),()):=by
 simp only[gI,ed,a];rw[an (aC hi),lK hk b,av,d]
set_option maxHeartbeats 4000000 in
def zv{i n j:Nat}{t:aG}{d:aA}(hs:ai aD (c,ti,U,st,m_,Z,gr,A,nn,V,n_,l_,O,T)<=1048576)(hi:i<O.length)(b:O.getD i aq.aa=t)(q:t.1=1)
 (s:j<st.length) (r:bg k st t.2.2.1.1=(j:Int)) (g:n<T.length) (m:bm t=(n:Int)) (h:T.getD n ay.aa=d) (o:t.2.1=1):
 jW k ((c,ti,U,st,m_,Z,gr,A,nn,V,n_,l_,O,T),(i:Int),())=
  some ((pA true k (c,ti,U,st,m_,Z,gr,A,nn,V,n_,l_,O,T) i).2,()):=by
 have hsum:=eV hk hs;have p:=dq (e:=aq) (d:=aq.aa) hi;rw[b]at p;have hdl:=az (e:=ay) (l:=T);have hta:=dy hk t;have htA:=bj hk t.2.2.1;have f:=m;unfold bm at f;simp only[jW,ed,b,f,aN,ek];rw[an (aC hi),nr hk hi b (by omega) r,av,jk hk (by omega) (by omega),av,C6 hk (by omega),KL];unfold pA;simp only[b,m,h,r,ed,o,qZ];rw[a_ (show¬(1:Int)=0 by decide)];cases hb:(!(bD k st t.2.2.1.1).2&&decide (c.2.1<=(bu st:Int)))with
 |true=>
  rw[an rfl,an rfl,an (aC s),eT hk hi g (by rw[b];exact m) (by simp[ai]),av,h];rfl
 |false=>
  have hpt:=Mu hk (l:=st) (a:=t.2.2.1);rw[a_ V',a_ V',AA hk (by omega) (by omega),av,an (aC g)];cases hf:(dn k st t.2.2.1).2 with
  |true=>
   rw[an rfl];dsimp only;rw[jk hk (by omega) (by omega),av,an (aC hi),si,an (aC hi)];simp only[u_,aL _ _ hi,aL _ _ g,ed,b,h,q];rfl
  |false=>
   rw[a_ V'];dsimp only;rw[jk hk (by omega) (by omega),av,an (aC hi),si,an (aC hi)];simp only[u_,aL _ _ hi,aL _ _ g,ed,b,h,q];rfl
set_option maxHeartbeats 4000000 in
def Ca{i n j:Nat}{t:aG}{d:aA}(hs:ai aD (c,ti,U,st,m_,Z,gr,A,nn,V,n_,l_,O,T)<=1048576)(hi:i<O.length)(a:O.getD i aq.aa=t)(o:t.1=1)
 (g:j<st.length) (f:bg k st t.2.2.1.1=(j:Int)) (s:n<T.length) (h:bm t=(n:Int)) (m:T.getD n ay.aa=d) (p:t.2.1=0\/t.2.1=1\/t.2.1=2)
 (u:t.2.1=2->dN d≠-1):
 lY k ((c,ti,U,st,m_,Z,gr,A,nn,V,n_,l_,O,T),(i:Int),())=
  some ((ia true k (c,ti,U,st,m_,Z,gr,A,nn,V,n_,l_,O,T) i).1,(ia true k (c,ti,U,st,m_,Z,gr,A,nn,V,n_,l_,O,T) i).2,()):=by
 have hsum:=eV hk hs;have q:=dq (e:=aq) (d:=aq.aa) hi;rw[a]at q;have hdl:=az (e:=ay) (l:=T);have hfl:=az (e:=ae) (l:=Z);have hsl:=az (e:=ae) (l:=l_);have htl:=az (e:=aq) (l:=O);have hta:=dy hk t;have htA:=bj hk t.2.2.1;simp only[lY,ed,a,o,aN,ek,cE,im];rw[an (aC hi)];unfold ia;rcases p with b|b|b;rw[b,an (by decide),nr hk hi a (by omega) f,av];dsimp only;rw[an (aC g),an (aC g),an (aC hi)];unfold pA ey bC;simp only[a,h,m,f,ed,b,o];split<;>simp_all[tick,bL];rw[b,a_ (by decide),an (by decide),zv hk hs hi a o g f s h m b,av]
 have v:(pA true k (c,ti,U,st,m_,Z,gr,A,nn,V,n_,l_,O,T) i).1=true:=by
  unfold pA;simp only[a,b];rw[a_ (by decide)];simp only[if_true];split<;>rfl
 unfold bC;rw[v];rfl;rw[b,a_ (by decide),a_ (by decide)];have r:br k (t.2.2.1,())=some (t.2.2.1,()):=cR hk (by omega);simp only[oG,ed,a,r,av]
 rw[an (aC hi),nr hk hi a (by omega) f,av,an (c_ (by simp only[J_];omega)),an (c_ (by simp only[J_];omega)),
  Cz hk (by omega) (by omega),av,J9 hk (by omega),av]
 dsimp only;rw[an (aC g),eT (n:=n) hk hi (by rw[ayB,J_];omega) (by rw[a];exact h) (by simp[ai]),av,av,pN _ _ s,m];unfold oc pA;simp only[a,h,m,f,ed,b];rw[a_ (u b)];rfl
end
def lz(s:Bool)(k:Nat)(w:ah)(i:Nat):Bool×ah:=
 match w with
 |(c,ti,U,st,m_,Z,gr,A,nn,V,n_,l_,O,T)=>
  let t:=O.getD i aq.aa
  let n:=(bm t).toNat
  let j:=(bg k st t.2.2.2.1).toNat
  let d:=T.getD n ay.aa
  if t.2.1=0 then ey w i j
  else if(bD k st t.2.2.2.1).2=true then(true,(c,ti,U,bL st j (-1),m_,Z,gr,A,nn,V,n_,l_,O.set i zT,T.set n (eC s true d U ti 5 [(bD k st t.2.2.2.1).1])))
  else(true,(c,ti,U,bL st j (-1),m_,Z,gr,A,nn,V,n_,l_,O.set i zT,T.set n (eC s false d U ti 6 [])))
def aaf(d:aA)(got:List af):aA:=(d.1,d.2.1,d.2.2.1,d.2.2.2.1,d.2.2.2.2.1,d.2.2.2.2.2.1,d.2.2.2.2.2.2.1,got,d.2.2.2.2.2.2.2.2)
def WX{d:aA}{U ti code:Int}{got:List af}(h:dN d= -1):GL (aaf d got) U ti code=oc d U ti code got:=by
 have a:dN (aaf d got)= -1:=h;unfold GL oc;rw[an h,an a];rfl
section
variable{k:Nat}(hk:9223372036854775808<=k)
include hk
variable{c:aY}{ti U gr nn:Int}{st:List au}{m_:List bo}{Z l_:List af}{A:List aw}{V:List aF}{n_:List bq}{O:List aG}{T:List aA}
def Nv{l:List au}{s:List ag}:ai ae (bD k l s).1<=ai (.sl aj) l:=by
 have a:ai ae bU=0:=by rw[bj hk];rfl
 unfold bD;split;rw[a];omega;rename_i b;obtain⟨_,_,c⟩:=kV (k:=k) (l:=l) (s:=s) b;have f:=dq (e:=aj) (d:=aj.aa) c;generalize l.getD (bg k l s).toNat aj.aa=p at f|-;have h3:=dj hk p;unfold eR;cases hc:eY p (cn k s)with
 |none=>dsimp only;rw[a];omega
 |some i=>
  obtain⟨h,_,_⟩:=aR.1 hc;have h4:=dq (e:=ax) (d:=ax.aa) h;have h5:=df hk (p.2.2.getD i ax.aa);dsimp only;cases g:eU (p.2.2.getD i ax.aa).2 s with
  |none=>dsimp only;rw[a];omega
  |some j=>
   obtain⟨m,_,_⟩:=aR.1 g;have h6:=dq (e:=ae) (d:=ae.aa) m;dsimp only;omega
set_option maxHeartbeats 4000000 in
def Zy{i n j:Nat}{t:aG}{d:aA}(hs:ai aD (c,ti,U,st,m_,Z,gr,A,nn,V,n_,l_,O,T)<=1048576)(hi:i<O.length)(b:O.getD i aq.aa=t)(m:t.1=2)
 (x:j<st.length) (q:bg k st t.2.2.2.1=(j:Int)) (o:n<T.length) (p:bm t=(n:Int)) (v:T.getD n ay.aa=d) (r:t.2.1=0\/t.2.1=1)
 (y:dN d= -1):
 zD k ((c,ti,U,st,m_,Z,gr,A,nn,V,n_,l_,O,T),(i:Int),())=
  some ((lz false k (c,ti,U,st,m_,Z,gr,A,nn,V,n_,l_,O,T) i).1,(lz false k (c,ti,U,st,m_,Z,gr,A,nn,V,n_,l_,O,T) i).2,()):=by
 have hsum:=eV hk hs;have s:=dq (e:=aq) (d:=aq.aa) hi;rw[b]at s;have hdl:=az (e:=ay) (l:=T);have u:ai aq t<=1048576:=by omega
 have hta:=dy hk t;have f:bN t=false:=by unfold bN;rw[m];rfl
 have g:=p;unfold bm at g;simp only[zD,ed,b,g,ek,cE];rw[an (aC hi)];unfold lz;simp only[b,p,v,q,ed];rcases r with h|h
 have z:jL k (O.getD i aq.aa) (st.length:Int)=(j:Int):=by
  rw[b];unfold jL;rw[a_ (by omega),a_ (by simp[h]),a_ (by omega),an m];exact q
 rw[h,an (by decide),Wb hk hi x (by rw[b];exact u) z,an rfl];unfold ey;simp only[b,m];split<;>simp[bL]
 have a:aV k t (st.length:Int)=(j:Int):=by
  unfold aV;rw[a_ (by omega),a_ (by omega),an ⟨m,h⟩];exact q
 rw[h,a_ (by decide),a_ (by decide),oq hk (by omega) (by omega),av];cases hb:(bD k st t.2.2.2.1).2 with
 |true=>
  rw[an rfl,an rfl,an (aC o),OG (n:=n) hk hi (by rw[si];exact o) (by rw[b];exact p) (by rw[b];exact u) (by rw[b,a];omega),av,b,a,Rv,f,aL _ _ o,u_];have w:=WX (U:=U) (ti:=ti) (code:=5) (got:=[(bD k st t.2.2.2.1).1]) y;unfold aaf at w;rw[w];rfl
 |false=>
  rw[a_ V',a_ V',OG hk hi o (by rw[b];exact p) (by rw[b];exact u) (by rw[b,a];omega),av,b,a,Rv,f,v];rfl
set_option maxHeartbeats 4000000 in
def Ed{i n j:Nat}{t:aG}{d:aA}(hs:ai aD (c,ti,U,st,m_,Z,gr,A,nn,V,n_,l_,O,T)<=1048576)(hi:i<O.length)(a:O.getD i aq.aa=t)(r:t.1=2)
 (o:j<st.length) (p:bg k st t.2.2.2.1=(j:Int)) (q:n<T.length) (b:bm t=(n:Int)) (f:T.getD n ay.aa=d) (g:t.2.1=0\/t.2.1=1):
 mw k ((c,ti,U,st,m_,Z,gr,A,nn,V,n_,l_,O,T),(i:Int),())=
  some ((lz true k (c,ti,U,st,m_,Z,gr,A,nn,V,n_,l_,O,T) i).1,(lz true k (c,ti,U,st,m_,Z,gr,A,nn,V,n_,l_,O,T) i).2,()):=by
 have hsum:=eV hk hs;have h:=dq (e:=aq) (d:=aq.aa) hi;rw[a]at h;have hta:=dy hk t;have hfa:=Nv hk (l:=st) (s:=t.2.2.2.1);simp only[mw,ed,a,cE];rw[an (aC hi),lK hk (by omega),av,p];unfold lz;simp only[a,b,f,p,ed];rcases g with m|m;rw[m,an (by decide),nC hk hi o,an rfl];unfold ey;simp only[a,r];split<;>simp[bL];rw[m,a_ (by decide),a_ (by decide),jk hk (by omega) (by omega),av,an (aC o)];cases hb:(bD k st t.2.2.2.1).2 with
 |true=>
  have u:ai (.sl ae) [(bD k st t.2.2.2.1).1]<=1073741824:=by
   rw[bW (e:=ae),bd (e:=ae)];omega
  rw[an rfl,an rfl,eT hk hi q (by rw[a];exact b) u,av,f];rfl
 |false=>
  rw[a_ V',a_ V',eT hk hi q (by rw[a];exact b) (by simp[ai]),av,f];rfl
end
def ky(st:List au)(t:aG)(j:Nat):aG:=
 (t.1,if j+1=st.length then 2 else 0,t.2.2.1,t.2.2.2.1,((j+1:Nat):Int),t.2.2.2.2.2.1++[(st.getD j aj.aa).2.1],t.2.2.2.2.2.2.1++aS (st.getD j aj.aa),t.2.2.2.2.2.2.2)
def oX(n:Int):aG:=(3,0,bU,[],0,[],[],0,n)
def fx(s:Bool)(k:Nat)(w:ah)(i:Nat):Bool×ah:=
 match w with
 |(c,ti,U,st,m_,Z,gr,A,nn,V,n_,l_,O,T)=>
  let t:=O.getD i aq.aa
  let n:=(bm t).toNat
  let j:=t.2.2.2.2.1.toNat
  let d:=T.getD n ay.aa
  if t.2.1=0 then ey w i j
  else if t.2.1=1 then(true,(c,ti,U,bL st j (-1),m_,Z,gr,A,nn,V,n_,l_,O.set i (ky st t j),T))
  else if jG st t.2.2.2.2.2.1=true then(true,(c,ti,U,st,m_,Z,gr,A,nn,V,n_,l_,O.set i zT,T.set n (eC s true d U ti 8 (dC t.2.2.2.2.2.2.1))))
  else(true,(c,ti,U,st,m_,Z,gr,A,nn,V,n_,l_,O.set i (oX n),T))
section
variable{k:Nat}(hk:9223372036854775808<=k)
include hk
variable{c:aY}{ti U gr nn:Int}{st:List au}{m_:List bo}{Z l_:List af}{A:List aw}{V:List aF}{n_:List bq}{O:List aG}{T:List aA}
theorem Wv{w:ah}{t:aG}(h:t.2.2.2.2.2.1.length<=w.2.2.2.1.length)(hl:t.2.2.2.2.2.1.length<=1048576):xy k (w,t,())=some (jG w.2.2.2.1 t.2.2.2.2.2.1,()):=by
 simp only[xy];unfold jG
 refine(fg (fun i:Nat=>(w,t,t.2.2.2.2.2.1,((t.2.2.2.2.2.1.length:Nat):Int),(i:Int),())) (fun i=>decide (t.2.2.2.2.2.1.getD i 0=(w.2.2.2.1.getD i aj.aa).2.1)) t.2.2.2.2.2.1.length
  (e:=some (true,())) (no:=some (false,())) ?_ ?_ k 0 (by omega) (by omega)).trans ?_
 intro G i a;dsimp only;rw[aK,c_ a,an rfl,an (aC a),an (aC (by omega)),ed,aX (by omega),im];by_cases e:t.2.2.2.2.2.1.getD i 0=(w.2.2.2.1.getD i aj.aa).2.1;rw[c_ e,c_ e.symm];rfl;rw[decide_eq_false e,decide_eq_false (fun h=>e h.symm)];rfl;intro G;simp only[aK,ayM,decide_false,D',if_false];cases bA 0 t.2.2.2.2.2.1.length (fun i=>decide (t.2.2.2.2.2.1.getD i 0=(w.2.2.2.1.getD i aj.aa).2.1))<;>rfl
def Xw{l:List af}(h:ai (.sl ae) l<=1048576):iR k (l,())=some (dC l,()):=by
 have d:=az (e:=ae) (l:=l);simp only[iR,Rh,ID];rw[an ?_];simp only[G7,b_,ayN];refine⟨by omega,fun a b=> ?_⟩;have hm:=cx (e:=ae) b;have h1:=bj hk a;have d:=az (e:=ak) (l:=a.1);omega
set_option maxHeartbeats 8000000 in
def WW{i n j:Nat}{t:aG}{d:aA}(hs:ai aD (c,ti,U,st,m_,Z,gr,A,nn,V,n_,l_,O,T)<=1048576)(hi:i<O.length)(b:O.getD i aq.aa=t)(o:t.1=3)
 (m:t.2.2.2.2.1=(j:Int)) (g:t.2.1≠2->j<st.length) (p:t.2.1=2->t.2.2.2.2.2.1.length=st.length) (q:n<T.length) (r:bm t=(n:Int)) (w:T.getD n ay.aa=d) (s:t.2.1=0\/t.2.1=1\/t.2.1=2)
 (D:dN d= -1) (x:t.2.2.1=bU) (y:t.2.2.2.1=[]) (z:t.2.2.2.2.2.2.2.1=0):
 qk k ((c,ti,U,st,m_,Z,gr,A,nn,V,n_,l_,O,T),(i:Int),())=
  some ((fx false k (c,ti,U,st,m_,Z,gr,A,nn,V,n_,l_,O,T) i).1,(fx false k (c,ti,U,st,m_,Z,gr,A,nn,V,n_,l_,O,T) i).2,()):=by
 have hsum:=eV hk hs;have u:=dq (e:=aq) (d:=aq.aa) hi;rw[b]at u;have hdl:=az (e:=ay) (l:=T);have hstl:=az (e:=aj) (l:=st);have B:ai aq t<=1048576:=by omega
 have hta:=dy hk t;have hsl:=az (e:= .int .i64) (l:=t.2.2.2.2.2.1);have hgl:=az (e:=ae) (l:=t.2.2.2.2.2.2.1);have v:bN t=false:=by unfold bN;rw[o];rfl
 have a:=r;unfold bm at a;unfold fx;simp only[b,r,w,m,ed];rcases s with h|h|h;simp only[qk,ed,b,a,m,ek,cE];rw[an (aC hi)]
 have E:jL k (O.getD i aq.aa) (st.length:Int)=(j:Int):=by
  have:=g (by omega);rw[b];unfold jL;rw[a_ (by omega),a_ (by simp[h]),a_ (by omega),a_ (by omega),an (by omega)];exact m
 rw[h,an (by decide),Wb hk hi (g (by omega)) (by rw[b];exact B) E,an rfl];unfold ey;simp only[b,o];split<;>simp[bL];have g:=g (by omega);have hpj:=dq (e:=aj) (d:=aj.aa) g;have hai:=kF hk (st.getD j aj.aa);have hal:=az (e:=ae) (l:=aS (st.getD j aj.aa));simp only[qk,ed,b,a,m,ek,cE,u_,aL _ _ hi]
 rw[an (aC hi),h,a_ (by decide),an (by decide),an (aC g),an (c_ (by simp only[J_];omega)),an (by simp),px hk (by omega),av,
  an (c_ (by dsimp only;omega)),an (by simp),aaE (j:=j) hk (by rw[si];exact hi) g (by rw[aL _ _ hi]) (by omega),av]
 simp only[u_,aL _ _ hi,si];unfold ky;by_cases e:j+1=st.length;rw[an (c_ (by omega)),a_ (show¬(1:Int)=0 by decide),an e];rfl;rw[a_ (by simp;omega),a_ (show¬(1:Int)=0 by decide),a_ e];rfl;simp only[qk,ed,b,a,m,ek,cE,u_,aL _ _ hi];rw[an (aC hi),h,a_ (by decide),a_ (by decide),a_ (by decide),a_ (by decide),Wv hk (by have:=p h;dsimp only;omega) (by omega),av];dsimp only;cases hb:jG st t.2.2.2.2.2.1 with
 |true=>
  have f:aV k t (st.length:Int)= -1:=by
   unfold aV;split;rfl;rw[a_ (by omega),a_ (by omega),a_ (by omega)]
  rw[a_ (by simp),an rfl,jK hk (by omega),av,Xw hk (by dsimp only;omega),av,an (aC q)];rw[OG (n:=n) hk hi (by rw[si];exact q) (by rw[b];exact r) (by rw[b];exact B) (by rw[b,f];omega),av,b,f,v,aL _ _ q,u_];have C:=WX (U:=U) (ti:=ti) (code:=8) (got:=dC t.2.2.2.2.2.2.1) D;unfold aaf at C;rw[w,C];rfl
 |false=>
  rw[an (by rfl),a_ (by simp)];obtain⟨t1,t2,t3,t4,t5,t6,t7,t8,t9⟩:=t;dsimp only at x y z o a;subst x y z o a;rfl
end
def vd(s:Bool)(k:Nat)(w:ah)(i:Nat):Bool×ah:=
 match w with
 |(c,ti,U,st,m_,Z,gr,A,nn,V,n_,l_,O,T)=>
  if(O.getD i aq.aa).1=2 then lz s k w i else fx s k w i
def kY(s:Bool)(k:Nat)(w:ah)(i:Nat):Bool×ah:=bC (vd s k w i)
def I6{r:Bool×ah}:(if r.1=true then some (r.1,(r.2.1,IntKind.i64.wrap (r.2.2.1+1),r.2.2.2),())else some (r.1,r.2,()))=some ((bC r).1,(bC r).2,()):=by
 obtain⟨b,w⟩:=r;cases b<;>rfl
section
variable{k:Nat}(hk:9223372036854775808<=k)
include hk
variable{c:aY}{ti U gr nn:Int}{st:List au}{m_:List bo}{Z l_:List af}{A:List aw}{V:List aF}{n_:List bq}{O:List aG}{T:List aA}
set_option maxHeartbeats 8000000 in
def CE{i j:Nat}{t:aG}(hs:ai aD (c,ti,U,st,m_,Z,gr,A,nn,V,n_,l_,O,T)<=1048576)(hi:i<O.length)(f:O.getD i aq.aa=t)
 (g:t.2.2.2.2.1=(j:Int)) (a:j<st.length):
 lW k ((c,ti,U,st,m_,Z,gr,A,nn,V,n_,l_,O,T),(i:Int),())=some ((c,ti,U,bL st j (-1),m_,Z,gr,A,nn,V,n_,l_,O.set i (ky st t j),T),()):=by
 have hsum:=eV hk hs;have b:=dq (e:=aq) (d:=aq.aa) hi;rw[f]at b;have hstl:=az (e:=aj) (l:=st);have hta:=dy hk t;have hsl:=az (e:= .int .i64) (l:=t.2.2.2.2.2.1);have hgl:=az (e:=ae) (l:=t.2.2.2.2.2.2.1);have hpj:=dq (e:=aj) (d:=aj.aa) a;have hai:=kF hk (st.getD j aj.aa);have hal:=az (e:=ae) (l:=aS (st.getD j aj.aa));simp only[lW,ed,f,g,ek,cE,u_,aL _ _ hi]
 rw[an (aC hi),an (aC a),an (c_ (by simp only[J_];omega)),an (by simp),an (aC a),qI hk (by omega),av,
  an (c_ (by dsimp only;omega)),an (by simp),aX (by omega)]
 unfold ky;by_cases e:j+1=st.length;rw[an (c_ (by omega)),an (aC a),an e];rfl;rw[a_ (by simp;omega),an (aC a),a_ e];rfl
set_option maxHeartbeats 8000000 in
def AY{i n:Nat}{t:aG}{d:aA}(hs:ai aD (c,ti,U,st,m_,Z,gr,A,nn,V,n_,l_,O,T)<=1048576)(hi:i<O.length)(b:O.getD i aq.aa=t)(hp:t.1=3)
 (f:t.2.2.2.2.2.1.length=st.length) (r:n<T.length) (g:bm t=(n:Int)) (p:T.getD n ay.aa=d) (j:t.2.1=2):
 kR k ((c,ti,U,st,m_,Z,gr,A,nn,V,n_,l_,O,T),(i:Int),())=
  some ((fx true k (c,ti,U,st,m_,Z,gr,A,nn,V,n_,l_,O,T) i).2,()):=by
 have hsum:=eV hk hs;have m:=dq (e:=aq) (d:=aq.aa) hi;rw[b]at m;have hta:=dy hk t;have hstl:=az (e:=aj) (l:=st);have hso:=rH t.2.2.2.2.2.2.1;have a:=g;unfold bm at a;unfold fx;simp only[b,g,p,j,ed];rw[a_ (show¬(2:Int)=0 by decide),a_ (show¬(2:Int)=1 by decide)];simp only[kR,ed,b,aN];rw[an (aC hi)]
 refine(fg (fun q:Nat=>((c,ti,U,st,m_,Z,gr,A,nn,V,n_,l_,O,T),(i:Int),t,(q:Int),())) (fun q=>decide (t.2.2.2.2.2.1.getD q 0=(st.getD q aj.aa).2.1)) st.length
  (e:=some ((c,ti,U,st,m_,Z,gr,A,nn,V,n_,l_,O.set i zT,T.set n (eC true true d U ti 8 (dC t.2.2.2.2.2.2.1))),())) (no:=some ((c,ti,U,st,m_,Z,gr,A,nn,V,n_,l_,O.set i (oX n),T),())) ?_ ?_ k 0 (by omega) (by omega)).trans ?_
 intro G q o;dsimp only;rw[aK,c_ o,an rfl,an (aC o),an (aC (by omega)),an (aC hi),ed,aX (by omega),im];by_cases e:t.2.2.2.2.2.1.getD q 0=(st.getD q aj.aa).2.1;rw[c_ e,c_ e.symm];rfl;rw[decide_eq_false e,decide_eq_false (fun h=>e h.symm)];simp only[ayP,if_true,ed];rw[a];rfl;intro G;simp only[aK,ayM,decide_false,D',if_false];rw[GB hk (by omega),av,eT hk hi r (by rw[b];exact g) (by dsimp only;omega),av,p];rfl;unfold jG;rw[f];cases bA 0 st.length (fun q=>decide (t.2.2.2.2.2.1.getD q 0=(st.getD q aj.aa).2.1))<;>rfl
set_option maxHeartbeats 8000000 in
def Qf{i n j:Nat}{t:aG}{d:aA}(hs:ai aD (c,ti,U,st,m_,Z,gr,A,nn,V,n_,l_,O,T)<=1048576)(hi:i<O.length)(e:O.getD i aq.aa=t)(a:t.1=2\/t.1=3)
 (g:(t.1=2\/t.2.1≠2)->j<st.length) (b:if t.1=2 then bg k st t.2.2.2.1=(j:Int)else t.2.2.2.2.1=(j:Int)) (f:t.1=3->t.2.1=2->t.2.2.2.2.2.1.length=st.length) (l:n<T.length) (m:bm t=(n:Int)) (o:T.getD n ay.aa=d)
 (hpc:t.2.1=0\/t.2.1=1\/t.1=3/\t.2.1=2) (p:dN d= -1) (q:t.2.2.1=bU) (r:t.1=3->t.2.2.2.1=[]) (s:t.2.2.2.2.2.2.2.1=0):
 tK k ((c,ti,U,st,m_,Z,gr,A,nn,V,n_,l_,O,T),(i:Int),())=
  some ((kY false k (c,ti,U,st,m_,Z,gr,A,nn,V,n_,l_,O,T) i).1,(kY false k (c,ti,U,st,m_,Z,gr,A,nn,V,n_,l_,O,T) i).2,()):=by
 unfold kY vd;simp only[tK,aN,ed,e];rw[an (aC hi)];rcases a with a|a;rw[a,an (by decide),an rfl,Zy hk hs hi e a (g (.inl a)) (by rw[an a]at b;exact b) l m o (by omega) p,av];exact I6;rw[a,a_ (by decide),an (by decide),a_ (show¬(3:Int)=2 by decide),WW hk hs hi e a (by rw[a_ (by omega)]at b;exact b) (fun h=>g (.inr h)) (f a) l m o (by omega) p q (r a) s,av];exact I6
set_option maxHeartbeats 8000000 in
def rQ{i n j:Nat}{t:aG}{d:aA}(hs:ai aD (c,ti,U,st,m_,Z,gr,A,nn,V,n_,l_,O,T)<=1048576)(hi:i<O.length)(e:O.getD i aq.aa=t)(a:t.1=2\/t.1=3)
 (l:(t.1=2\/t.2.1≠2)->j<st.length) (f:if t.1=2 then bg k st t.2.2.2.1=(j:Int)else t.2.2.2.2.1=(j:Int)) (m:t.1=3->t.2.1=2->t.2.2.2.2.2.1.length=st.length) (p:n<T.length) (q:bm t=(n:Int)) (r:T.getD n ay.aa=d)
 (o:t.2.1=0\/t.2.1=1\/t.1=3/\t.2.1=2):
 jx k ((c,ti,U,st,m_,Z,gr,A,nn,V,n_,l_,O,T),(i:Int),())=
  some ((kY true k (c,ti,U,st,m_,Z,gr,A,nn,V,n_,l_,O,T) i).1,(kY true k (c,ti,U,st,m_,Z,gr,A,nn,V,n_,l_,O,T) i).2,()):=by
 unfold kY vd;simp only[jx,aN,ed,e];rw[an (aC hi)];rcases a with a|a;rw[a,an (by decide),an rfl,Ed hk hs hi e a (l (.inl a)) (by rw[an a]at f;exact f) p q r (by omega),av];exact I6;rw[a,a_ (by decide),a_ (show¬(3:Int)=2 by decide),an (aC hi)];rw[a_ (by omega)]at f;rcases o with b|b|⟨_,b⟩;rw[b,an (by decide),an (aC hi),f,nC hk hi (l (.inr (by omega)))]
 have g:fx true k (c,ti,U,st,m_,Z,gr,A,nn,V,n_,l_,O,T) i=ey (c,ti,U,st,m_,Z,gr,A,nn,V,n_,l_,O,T) i j:=by
  unfold fx;simp only[e,b,f,ed,if_true]
 rw[g];unfold ey;simp only[e];by_cases h:(st.getD j aj.aa).1= -1;rw[an h,an h];rfl;rw[a_ h,a_ h];rfl;rw[b,a_ (by decide),an (aC hi),an (by decide),CE hk hs hi e f (l (.inr (by omega))),av]
 have g:fx true k (c,ti,U,st,m_,Z,gr,A,nn,V,n_,l_,O,T) i=(true,(c,ti,U,bL st j (-1),m_,Z,gr,A,nn,V,n_,l_,O.set i (ky st t j),T)):=by
  unfold fx;simp only[e,b,f,ed,if_true];rw[a_ (show¬(1:Int)=0 by decide)]
 rw[g];rfl;rw[b,a_ (by decide),an (aC hi),a_ (by decide),AY hk hs hi e a (m a b) p q r b,av]
 have g:(fx true k (c,ti,U,st,m_,Z,gr,A,nn,V,n_,l_,O,T) i).1=true:=by
  unfold fx;simp only[e,b];rw[a_ (show¬(2:Int)=0 by decide),a_ (show¬(2:Int)=1 by decide)];split<;>rfl
 unfold bC;rw[g];rfl
end
def iA(i j:Int)(got:List af):aA:=(5,i,bU,[],j,0,8,got,0,0,0,0)
def qa(s:Bool)(k:Nat)(w:ah)(i:Nat):Bool×ah:=
 match w with
 |(c,ti,U,st,m_,Z,gr,A,nn,V,n_,l_,O,T)=>
  let t:=O.getD i aq.aa
  let n:=(bm t).toNat
  let j:=t.2.2.2.2.1.toNat
  let d:=T.getD n ay.aa
  let p:=st.getD j aj.aa
  if t.2.1=0 then ey w i j
  else(true,(c,ti,U,st.set j (-1,(dR p U).2),m_,Z,gr,A,nn,V,n_,l_,
   O.set i (if j+1=st.length then zT else(t.1,0,t.2.2.1,t.2.2.2.1,((j+1:Nat):Int),t.2.2.2.2.2)),
   if j+1=st.length then(T++[gK (iA i j (dg U p.2.2)) U ti ti ti]).set n (eC s false d U ti 8 [])else T++[gK (iA i j (dg U p.2.2)) U ti ti ti]))
def fu(s:Bool)(k:Nat)(w:ah)(i:Nat):Bool×ah:=bC (qa s k w i)
section
variable{k:Nat}(hk:9223372036854775808<=k)
include hk
variable{c:aY}{ti U gr nn:Int}{st:List au}{m_:List bo}{Z l_:List af}{A:List aw}{V:List aF}{n_:List bq}{O:List aG}{T:List aA}
def Oq{U:Int}(l:List aP):ai (.sl ae) (dg U l)<=ai (.sl ax) l:=
 jS hk (e:=ax) (f:=ae) (g:=fun c=>gD U c.2) (fun x=>by
  have h1:=df hk x;have h2:=wY hk (U:=U) (l:=x.2);omega) l
set_option maxHeartbeats 8000000 in
def Wq{i n j:Nat}{t:aG}{d:aA}(hs:ai aD (c,ti,U,st,m_,Z,gr,A,nn,V,n_,l_,O,T)<=1048576)(hi:i<O.length)(b:O.getD i aq.aa=t)(g:t.1=4)
 (m:t.2.2.2.2.1=(j:Int)) (f:j<st.length) (v:n<T.length) (s:bm t=(n:Int)) (u:T.getD n ay.aa=d) (p:t.2.1=0\/t.2.1=1):
 xE k ((c,ti,U,st,m_,Z,gr,A,nn,V,n_,l_,O,T),(i:Int),())=
  some ((fu false k (c,ti,U,st,m_,Z,gr,A,nn,V,n_,l_,O,T) i).1,(fu false k (c,ti,U,st,m_,Z,gr,A,nn,V,n_,l_,O,T) i).2,()):=by
 have hsum:=eV hk hs;have q:=dq (e:=aq) (d:=aq.aa) hi;rw[b]at q;have hdl:=az (e:=ay) (l:=T);have hstl:=az (e:=aj) (l:=st);have w:ai aq t<=1048576:=by omega
 have hta:=dy hk t;have hpj:=dq (e:=aj) (d:=aj.aa) f;have hgr:bN t=false:=by unfold bN;rw[g];rfl
 unfold fu qa;simp only[b,s,u,m,ed];simp only[xE,ed,b,m,ek,aN,cE,im];rw[an (aC hi),g,a_ (by decide)];rcases p with o|o
 have x:jL k (O.getD i aq.aa) (st.length:Int)=(j:Int):=by
  rw[b];unfold jL;rw[a_ (by omega),a_ (by simp[o]),a_ (by omega),a_ (by omega),an (by omega)];exact m
 rw[o,an (by decide),Wb hk hi f (by rw[b];exact w) x,an rfl];unfold ey bC;simp only[b,g];split<;>simp[bL,tick];rw[o,a_ (by decide),an (aC f),ZE hk (by omega),av,an (aC f),age hk (by omega),av];dsimp only;rw[aaE (j:=j) hk hi (by rw[si];exact f) (by rw[b];exact m) (by rw[si];omega),av];simp only[u_,aL _ _ hi,aL _ _ f,si,b];rw[a_ (show¬(1:Int)=0 by decide)];by_cases e:j+1=st.length;rw[an (c_ (by omega)),an e,an e]
 have a:aV k (t.1,0,t.2.2.1,t.2.2.2.1,((j+1:Nat):Int),t.2.2.2.2.2) (st.length:Int)= -1:=by
  unfold aV;split;rfl;rw[a_ (by dsimp only;omega),a_ (by dsimp only;omega),a_ (by dsimp only;omega)]
 have h:bN (t.1,0,t.2.2.1,t.2.2.2.1,((j+1:Nat):Int),t.2.2.2.2.2)=false:=by unfold bN;dsimp only;rw[g];rfl
 have r:ai aq (t.1,0,t.2.2.1,t.2.2.2.1,((j+1:Nat):Int),t.2.2.2.2.2)<=1048576:=by rw[dy hk];dsimp only;omega
 rw[OG (n:=n) hk (by rw[si];exact hi) (by rw[ayB,J_];omega) (by rw[aL _ _ hi];exact s) (by rw[aL _ _ hi];exact r)
  (by rw[aL _ _ hi,si,a];omega),av,aL _ _ hi,si,a,h,pN _ _ v,u,u_]
 rfl;rw[a_ (by simp;omega),a_ e,a_ e,g];rfl
set_option maxHeartbeats 8000000 in
def B5{i n j:Nat}{t:aG}{d:aA}(hs:ai aD (c,ti,U,st,m_,Z,gr,A,nn,V,n_,l_,O,T)<=1048576)(hi:i<O.length)(b:O.getD i aq.aa=t)(p:t.1=4)
 (h:t.2.2.2.2.1=(j:Int)) (a:j<st.length) (q:n<T.length) (m:bm t=(n:Int)) (o:T.getD n ay.aa=d) (f:t.2.1=0\/t.2.1=1):
 jz k ((c,ti,U,st,m_,Z,gr,A,nn,V,n_,l_,O,T),(i:Int),())=
  some ((fu true k (c,ti,U,st,m_,Z,gr,A,nn,V,n_,l_,O,T) i).1,(fu true k (c,ti,U,st,m_,Z,gr,A,nn,V,n_,l_,O,T) i).2,()):=by
 have hsum:=eV hk hs;have hdl:=az (e:=ay) (l:=T);have hstl:=az (e:=aj) (l:=st);have hpj:=dq (e:=aj) (d:=aj.aa) a;have hgl:=Oq hk (U:=U) (st.getD j aj.aa).2.2;have hpp:=dj hk (st.getD j aj.aa);unfold fu qa;simp only[b,m,o,h,ed];simp only[jz,ed,b,h,ek,aN,cE,im];rw[an (aC hi),an (aC hi)];rcases f with g|g;rw[g,an (by decide),nC hk hi a,an rfl];unfold ey bC;simp only[b,p];split<;>simp[bL,tick];rw[g,a_ (by decide),an (aC a),CG hk (by omega),av,an (aC a),ff hk (by dsimp only;omega),av];dsimp only;rw[J9 hk (by omega),av];simp only[u_,aL _ _ hi,aL _ _ a,si,b];rw[a_ (show¬(1:Int)=0 by decide),an (aC hi),an (aC hi),aX (by omega)];by_cases e:j+1=st.length;rw[an (c_ (by omega)),an e,an e];rw[eT (n:=n) hk (by rw[si];exact hi) (by rw[ayB,J_];omega) (by rw[aL _ _ hi];exact m) (by simp[ai]),av,pN _ _ q,o,u_];rfl;rw[a_ (by simp;omega),a_ e,a_ e];rfl
end
section
variable{k:Nat}(hk:9223372036854775808<=k)
include hk
theorem Qt{b:List Int}(g:b.length<=1048576):Dr (nI k (b,())) (fun r=>bn r.1):=by
 simp only[nI];refine Nz (fun s=>s.1=b) (fun s d=>dA ⟨by rw[d];exact g,by simp,by simp⟩) (fun J f=> ?_);refine NP (fun s=>b.length-s.2.2.1.toNat) (fun s=>s.1=b/\0<=s.2.2.1/\s.2.2.1<=(b.length:Int)) ?_ ⟨rfl,by simp,by simp⟩ (by simp only;omega);rintro G ⟨s,h,i,u⟩ ⟨e,h0,h1⟩ hG;change s=b at e;change 0<=i at h0;change i<=(b.length:Int)at h1;subst e;dsimp only;refine dI (fun hc=> ?_) (fun hc=>f _ rfl)
 have a:i<(s.length:Int):=by
  by_cases a:i<(s.length:Int);exact a;simp[a]at hc
 refine kL (by simp;omega) (hG _ ⟨rfl,?_,?_⟩ ?_)<;>(dsimp only;rw[wrap64 (by omega) (by omega)];omega)
theorem rT{c:aO}(hc:bn c):Dr (gb k (c,())) (fun r=>bn r.2.1/\0<=r.1/\r.1<=255):=by
 obtain⟨b,i,h⟩:=c;obtain⟨d,e,f⟩:=hc;dsimp only at d e f;simp only[gb];refine kL (by decide) (kL (by decide) ?_);refine dI (fun a=> ?_) (fun a=> ?_);have a:i<(b.length:Int):=by simpa using a
 refine kL (by simp;omega) (dA ⟨⟨d,?_,?_⟩,SF _⟩)<;>(dsimp only;rw[wrap64 (by omega) (by omega)];omega)
 exact dA ⟨⟨d,e,f⟩,SF _⟩
def cK{c:aO}{n:Int}(hc:bn c):Dr (bf k (c,n,())) (fun r=>bn r.2.1/\0<=r.1/\(r.1<n\/r.1=0)):=by
 simp only[bf];refine dI (fun a=>dA ⟨hc,by simp,by simp⟩) (fun a=> ?_);have a:0<n:=by simpa using a
 refine dI (fun f=> ?_) (fun f=> ?_);refine cq (rT hk hc) (fun r b=>kL (by simp;omega) (dA ⟨b.1,?_,.inl ?_⟩));exact ay6 _ b.2.1;exact ayX _ a;refine cq (rT hk hc) (fun r b=>cq (rT hk b.1) (fun g d=>cq (rT hk d.1) (fun r3 e=>kL (by simp;omega) (dA ⟨e.1,?_,.inl ?_⟩))));refine ay6 _ ?_;have h1:=b.2;have h2:=d.2;have h3:=e.2;rw[wrap64 (n:=r.1*65536) (by omega) (by omega),wrap64 (n:=g.1*256) (by omega) (by omega),wrap64 (n:=r.1*65536+g.1*256) (by omega) (by omega),wrap64 (by omega) (by omega)];omega;exact ayX _ a
def mV{c:aO}{n:Int}(hc:bn c):Dr (di k (c,n,())) (fun r=>bn r.2.1):=by
 simp only[di];exact cq (cK hk hc) (fun r a=>dA a.1)
def JU{c:aO}{l:List Int}(hc:bn c)(hl:0<l.length):Dr (bH k (c,l,())) (fun r=>bn r.2.1/\r.1∈l):=by
 simp only[bH];refine cq (cK hk hc) (fun r a=>kL (by simp;omega) (dA ⟨a.1,?_⟩));exact cC (by omega)
def QF{c:aO}{l:List ByteArray}(hc:bn c)(hl:0<l.length):Dr (eF k (c,l,())) (fun r=>bn r.2.1/\r.1∈l):=by
 simp only[eF];refine cq (cK hk hc) (fun r a=>kL (by simp;omega) (dA ⟨a.1,?_⟩));exact cC (by omega)
end
def xa(l:List af)(s:List ag):Option Nat:=fv l.length (fun i=>decide ((l.getD i ae.aa).1=s))
def gu(l:List af)(s:List ag):Nat:=(fv l.length (fun i=>bp s (l.getD i ae.aa).1)).getD l.length
def gy(l:List af)(a:af):List af:=
 match xa l a.1 with
 |some i=>l.set i a
 |none=>l.take (gu l a.1)++[a]++l.drop (gu l a.1)
def ij(g:aw)(a:af):aw:=(g.1,g.2.1,g.2.2.1,g.2.2.2.1,gy g.2.2.2.2 a)
def Iw{α:Type}(l:List af)(s:List ag)(f:Nat->α):(match fv l.length (fun i=>bp s (l.getD i ae.aa).1)with|some i=>f i|none=>f l.length)=f (gu l s):=by
 unfold gu;cases fv l.length (fun i=>bp s (l.getD i ae.aa).1)<;>rfl
section
variable{k:Nat}(hk:9223372036854775808<=k)
include hk
def BS{l:List af}{i:Nat}(h:ai (.sl ae) l<=1073741824):bK k (l.take i,())=some (l.take i,()):=
 ff hk (by have:=cB (e:=ae) l i;omega)
def vR{l:List af}{i:Nat}(h:ai (.sl ae) l<=1073741824):bK k (l.drop i,())=some (l.drop i,()):=
 ff hk (by have:=cB (e:=ae) l i;omega)
def RM{l:List af}{i:Nat}(h:ai (.sl ae) l<=1073741824):dD k (l.take i,())=some (l.take i,()):=
 jK hk (by have:=cB (e:=ae) l i;omega)
def RL{l:List af}{i:Nat}(h:ai (.sl ae) l<=1073741824):dD k (l.drop i,())=some (l.drop i,()):=
 jK hk (by have:=cB (e:=ae) l i;omega)
def Fw{g:aw}{a:af}(hg:ai al g<=1048576)(ha:ai ae a<=1048576):mI k (g,a,())=some (ij g a,()):=by
 have h1:=eK hk g;have h2:=az (e:=ae) (l:=g.2.2.2.2);have h3:=bj hk a;have h4:=az (e:=ak) (l:=a.1);simp only[mI,aN];rw[vw hk (by omega),av,cR hk (by omega),av]
 refine(fY (fun i:Nat=>(g,a,(0,([]:List ag),0,0,([]:List af)),g,a,(i:Int),())) (fun i=>decide ((g.2.2.2.2.getD i ae.aa).1=a.1)) g.2.2.2.2.length
  (e:=some ((g.1,g.2.1,g.2.2.1,g.2.2.2.1,g.2.2.2.2.take (gu g.2.2.2.2 a.1)++[a]++g.2.2.2.2.drop (gu g.2.2.2.2 a.1)),())) (fun i=>some ((g.1,g.2.1,g.2.2.1,g.2.2.2.1,g.2.2.2.2.set i a),())) (fun G i b=> ?_) (fun G=> ?_) k (by omega)).trans ?_
 simp only[aK,aC b,b,decide_true,if_true,ed];rw[aX (by omega),nT hk (jO hk (by omega) b).2,av];simp only[aK,ayM,decide_false,D',if_false]
 refine(fY (fun i:Nat=>(g,a,(0,([]:List ag),0,0,([]:List af)),g,a,(i:Int),())) (fun i=>bp a.1 (g.2.2.2.2.getD i ae.aa).1) g.2.2.2.2.length
  (e:=some ((g.1,g.2.1,g.2.2.1,g.2.2.2.1,g.2.2.2.2.take g.2.2.2.2.length++[a]++g.2.2.2.2.drop g.2.2.2.2.length),())) (fun i=>some ((g.1,g.2.1,g.2.2.1,g.2.2.2.1,g.2.2.2.2.take i++[a]++g.2.2.2.2.drop i),())) (fun G i b=> ?_) (fun G=> ?_) k (by omega)).trans ?_
 simp only[aK,aC b,b,decide_true,if_true,ed,Bool.or_true];rw[an (by simp),nD hk (by omega),av];cases hq:bp a.1 (g.2.2.2.2.getD i ae.aa).1;simp only[ayP,if_true,D',if_false];rw[aX (by omega)];simp only[ayQ,if_true,D',if_false];rw[an (by simp;omega),BS hk (by omega),av,an (by simp;omega),an (by simp;omega),vR hk (by omega),av,an (by simp;omega)];simp only[aK,ayM,decide_false,D',if_false,ed];rw[an (by simp)];simp only[beq_iff_eq,D',if_false,av];rw[an (by simp),BS hk (by omega),av,an (by simp;omega),an (by simp),vR hk (by omega),av,an (by simp;omega)];exact Iw g.2.2.2.2 a.1 (fun i=>some ((g.1,g.2.1,g.2.2.1,g.2.2.2.1,g.2.2.2.2.take i++[a]++g.2.2.2.2.drop i),()));unfold ij gy xa;cases fv g.2.2.2.2.length (fun i=>decide ((g.2.2.2.2.getD i ae.aa).1=a.1))<;>rfl
def GS{l:List af}{s:List ag}(h:ai (.sl ae) l<=1048576):ei k (l,s,())=some (dB (xa l s),()):=by
 have h2:=az (e:=ae) (l:=l);simp only[ei];refine(fY (fun i:Nat=>(s,l,(l.length:Int),(i:Int),())) (fun i=>decide ((l.getD i ae.aa).1=s)) l.length (e:=some (-1,())) (fun i=>some ((i:Int),())) (fun G i a=> ?_) (fun G=> ?_) k (by omega)).trans ?_;simp only[aK,aC a,a,decide_true,if_true,ed];rw[aX (by omega),dV hk (jO hk h a).2,av];simp;unfold xa;cases fv l.length (fun i=>decide ((l.getD i ae.aa).1=s))<;>rfl
def XY{l:List af}{a:af}(h:ai (.sl ae) l<=1048576)(ha:ai ae a<=1048576):IN k (l,a,())=some (l.take (gu l a.1)++[a]++l.drop (gu l a.1),()):=by
 have h2:=az (e:=ae) (l:=l);have h3:=bj hk a;have h4:=az (e:=ak) (l:=a.1);simp only[IN,aN]
 refine(fY (fun i:Nat=>(l,a,(i:Int),())) (fun i=>bp a.1 (l.getD i ae.aa).1) l.length
  (e:=some (l.take l.length++[a]++l.drop l.length,())) (fun i=>some (l.take i++[a]++l.drop i,())) (fun G i b=> ?_) (fun G=> ?_) k (by omega)).trans ?_
 simp only[aK,aC b,b,decide_true,if_true,ed,Bool.or_true];rw[an (by simp),mK hk (by omega),av];cases hq:bp a.1 (l.getD i ae.aa).1;simp only[ayP,if_true,D',if_false];rw[aX (by omega)];simp only[ayQ,if_true,D',if_false];rw[an (by simp;omega),RM hk (by omega),av,gY hk (by omega),av,an (by simp;omega),an (by simp;omega),RL hk (by omega),av,an (by simp;omega)];simp only[aK,ayM,decide_false,D',if_false,ed];rw[an (by simp)];simp only[beq_iff_eq,D',if_false,av];rw[an (by simp),RM hk (by omega),av,gY hk (by omega),av,an (by simp;omega),an (by simp),RL hk (by omega),av,an (by simp;omega)];exact Iw l a.1 (fun i=>some (l.take i++[a]++l.drop i,()))
def ZR{g:aw}{a:af}(hg:ai al g<=1048576)(b:ai ae a<=1048576):LM k (g,a,())=some (ij g a,()):=by
 have h1:=eK hk g;simp only[LM];rw[Q5 hk (by omega),av];unfold ij gy;cases h:xa g.2.2.2.2 a.1 with
 |none=>
  have e:ei k (g.2.2.2.2,a.1,())=some (-1,()):=by rw[GS hk (by omega),h];rfl
  rw[e,av,a_ (by decide),XY hk (by omega) b,av]
 |some i=>
  have hi:=(aR.1 h).1;have e:ei k (g.2.2.2.2,a.1,())=some ((i:Int),()):=by rw[GS hk (by omega),h];rfl
  rw[e,av,an (by simp),gY hk (by omega),av,an (by simp;omega)];simp only[ed]
theorem Ou{l:List af}{a:af}:ai (.sl ae) (gy l a)<=ai (.sl ae) l+ai ae a+1:=by
 unfold gy;cases h:xa l a.1 with
 |none=>
  dsimp only;rw[gZ (e:=ae),gZ (e:=ae),bW (e:=ae),bd];have:=cB (e:=ae) l (gu l a.1);omega
 |some i=>
  have b:=(aR.1 h).1;have:=mf (e:=ae) l i a b;dsimp only;omega
def OR{g:aw}{a:af}:ai al (ij g a)<=ai al g+ai ae a+1:=by
 have h1:=eK hk g;have b:=eK hk (ij g a);have h3:=Ou hk (l:=g.2.2.2.2) (a:=a);unfold ij at b|-;dsimp only at b;omega
theorem qw(l m:List ag):ai (.sl ak) (l++m)=ai (.sl ak) l+ai (.sl ak) m:=gZ (e:=ak) l m
def iP(x:ag)(l:List ag):ai (.sl ak) (x::l)=1+(x.1.size+x.2.size)+ai (.sl ak) l:=by rw[bW (e:=ak),lx hk]
theorem mP:ai (.sl ak) ([]:List ag)=0:=bd (e:=ak)
theorem Pl(x:af)(l:List af):ai (.sl ae) (x::l)=1+ai ae x+ai (.sl ae) l:=bW (e:=ae) x l
theorem Q0:ai (.sl ae) ([]:List af)=0:=bd (e:=ae)
def oA{c:aO}{l:List ByteArray}(n:Nat)(hc:bn c)(b:0<l.length)(hs:l.all (fun s=>decide (s.size<=n))=true):Dr (eF k (c,l,())) (fun r=>bn r.2.1/\r.1.size<=n):=
 ZD (QF hk hc b) (fun r a=>⟨a.1,e_ (ayN.1 hs _ a.2)⟩)
def Qn{c:aO}{l:List Int}(a b:Int)(hc:bn c)(e:0<l.length)(hs:l.all (fun s=>decide (a<=s/\s<=b))=true):Dr (bH k (c,l,())) (fun r=>bn r.2.1/\a<=r.1/\r.1<=b):=
 ZD (JU hk hc e) (fun r d=>⟨d.1,e_ (ayN.1 hs _ d.2)⟩)
def ld{c:aO}{l:List Int}(hc:bn c)(b:0<l.length):Dr (bH k (c,l,())) (fun r=>bn r.2.1):=
 ZD (JU hk hc b) (fun r a=>a.1)
def Cr{c:aO}(hc:bn c):Dr (jA k (c,())) (fun r=>bn r.2.1/\r.1.size<=13):=by
 simp only[jA];exact cq (oA hk 13 hc (by decide) (by decide)) (fun r a=>dA a)
def Nd{c:aO}(hc:bn c):Dr (lS k (c,())) (fun r=>bn r.2.1/\r.1.size<=13):=by
 simp only[lS];exact cq (oA hk 13 hc (by decide) (by decide)) (fun r a=>dA a)
def Jj{c:aO}(hc:bn c):Dr (jZ k (c,())) (fun r=>bn r.2.1/\r.1.size<=13):=by
 simp only[jZ];refine cq (mV hk hc) (fun r a=>dI (fun _=> ?_) (fun _=> ?_));exact cq (Nd hk a) (fun r a=>dA a);exact cq (oA hk 13 a (by decide) (by decide)) (fun r a=>dA a)
def pE{c:aO}(hc:bn c):Dr (fh k (c,())) (fun r=>bn r.2.1/\r.1.size<=13):=by
 simp only[fh];refine cq (mV hk hc) (fun r a=>dI (fun _=> ?_) (fun _=> ?_));exact cq (Cr hk a) (fun r a=>dA a);exact cq (oA hk 13 a (by decide) (by decide)) (fun r a=>dA a)
def Rj{c:aO}(hc:bn c):Dr (nN k (c,())) (fun r=>bn r.2.1):=by
 simp only[nN];exact cq (ld hk hc (by decide)) (fun r a=>dA a)
def QT{c:aO}(hc:bn c):Dr (nH k (c,())) (fun r=>bn r.2.1):=by
 simp only[nH];refine cq (mV hk hc) (fun r a=>dI (fun _=> ?_) (fun _=> ?_));exact cq (Rj hk a) (fun r a=>dA a);exact cq (ld hk a (by decide)) (fun r a=>dA a)
def xV{c:aO}(hc:bn c):Dr (fk k (c,())) (fun r=>bn r.2.1/\0<r.1.length/\ai (.sl ak) r.1<=108):=by
 simp only[fk];refine cq (oA hk 13 hc (by decide) (by decide)) (fun r a=> ?_);refine NP (fun s=>3-s.2.2.2.2.1.toNat) (fun s=>bn s.1/\0<s.2.1.length/\(ai (.sl ak) s.2.1:Int)<=27+27*s.2.2.2.2.1/\s.2.2.1=[(⟨#[104,111,115,116]⟩:ByteArray),(⟨#[115,101,118]⟩:ByteArray),(⟨#[122,111,110,101]⟩:ByteArray)]/\s.2.2.2.1=3/\0<=s.2.2.2.2.1/\s.2.2.2.2.1<=3) ?_ ⟨a.1,by simp,?_,rfl,rfl,by simp,by simp⟩ (by simp only;omega);rintro G ⟨c,l,m,n,i,u⟩ ⟨h1,h2,h3,h4,h5,h6,h7⟩ hG;dsimp only at h1 h2 h3 h4 h5 h6 h7|-;subst h4;subst h5;have hl:=az (e:=ak) (l:=l);refine dI (fun d=> ?_) (fun d=>dA ⟨h1,h2,by dsimp only;omega⟩);have d:i<3:=by simpa using d
 have f:IntKind.i64.wrap (i+1)=i+1:=wrap64 (by omega) (by omega);rw[f];refine kL (by simp;omega) ?_;refine cq (mV hk h1) (fun r a=>dI (fun _=> ?_) (fun _=>hG _ ⟨a,h2,by dsimp only;omega,rfl,rfl,by dsimp only;omega,by dsimp only;omega⟩ (by dsimp only;omega)));refine cq (oA hk 13 a (by decide) (by decide)) (fun r2 b=>kL (by simp;omega) (hG _ ⟨b.1,by simp,?_,rfl,rfl,by dsimp only;omega,by dsimp only;omega⟩ (by dsimp only;omega)))
 have hb:([(⟨#[104,111,115,116]⟩:ByteArray),(⟨#[115,101,118]⟩:ByteArray),(⟨#[122,111,110,101]⟩:ByteArray)].getD i.toNat ByteArray.empty).size<=13:=
  e_ (ayN.1 (show([(⟨#[104,111,115,116]⟩:ByteArray),(⟨#[115,101,118]⟩:ByteArray),(⟨#[122,111,110,101]⟩:ByteArray)].all (fun s=>decide (s.size<=13)))=true by decide) _ (cC (by simp;omega)))
 dsimp only;rw[qw hk,iP hk,mP hk];have:=b.2;dsimp only;omega;rw[iP hk,mP hk];have h0:(⟨#[97,112,112]⟩:ByteArray).size=3:=by decide
 have:=a.2;dsimp only;omega
def Qi{c:aO}(hc:bn c):Dr (nF k (c,())) (fun r=>bn r.2.1/\ai (.sl ak) r.1<=220):=by
 simp only[nF];refine cq (xV hk hc) (fun f g=>cq (cK hk g.1) (fun r2 a=> ?_));have hl:=az (e:=ak) (l:=f.1);obtain⟨_,n,ht⟩:=g;refine dI (fun _=> ?_) (fun _=> ?_);refine cq (Jj hk a.1) (fun h b=>cq (pE hk b.1) (fun r4 j=>kL (by simp;omega) (dA ⟨j.1,?_⟩)));dsimp only;rw[qw hk,iP hk,mP hk];have:=b.2;have:=j.2;dsimp only;omega;refine dI (fun _=> ?_) (fun _=> ?_);refine kL (by simp;omega) (dA ⟨a.1,?_⟩);dsimp only;rw[qw hk,iP hk,mP hk];have o:(⟨#[122,122]⟩:ByteArray).size=2:=by decide
 have o:(⟨#[49]⟩:ByteArray).size=1:=by decide
 dsimp only;omega;refine dI (fun _=> ?_) (fun _=> ?_);refine kL (by simp;omega) (kL (by simp;omega) (dA ⟨a.1,?_⟩));have p:=cx (e:=ak) (cC (l:=f.1) (i:=0) (d:=ak.aa) n);rw[lx hk]at p;dsimp only;rw[qw hk,iP hk,mP hk];simp only[show J8 0=0 from rfl];omega;refine dI (fun _=> ?_) (fun _=> ?_);refine kL (by simp;omega) (dA ⟨a.1,?_⟩);dsimp only;rw[qw hk,iP hk,iP hk,iP hk,iP hk,mP hk];have e1:(⟨#[122,117]⟩:ByteArray).size=2:=by decide
 have e2:(⟨#[122,118]⟩:ByteArray).size=2:=by decide
 have e3:(⟨#[122,119]⟩:ByteArray).size=2:=by decide
 have e4:(⟨#[122,120]⟩:ByteArray).size=2:=by decide
 have e5:ByteArray.empty.size=0:=by decide
 dsimp only;omega;refine dI (fun _=> ?_) (fun _=> ?_);refine cq (pE hk a.1) (fun h b=>kL (by simp;omega) (dA ⟨b.1,?_⟩));have m:=mf (e:=ak) f.1 0 ((f.1.getD 0 ak.aa).1,h.1) n;rw[lx hk,lx hk]at m;have:=b.2;simp only[show J8 0=0 from rfl];dsimp only at m|-;omega;refine dI (fun _=>dA ⟨a.1,by dsimp only;rw[mP hk];omega⟩) (fun _=>dA ⟨a.1,by dsimp only;omega⟩)
def yo{c:aO}(hc:bn c):Dr (dw k (c,())) (fun r=>bn r.2.1/\ai ae r.1<=121):=by
 simp only[dw];refine cq (xV hk hc) (fun r1 a=>cq (cK hk a.1) (fun r2 d=>cq (Cr hk d.1) (fun r3 b=>cq (ld hk b.1 (by decide)) (fun r4 e=>dA ⟨e,?_⟩))));dsimp only;rw[bj hk];have:=a.2;have:=b.2;dsimp only;omega
def Qh{c:aO}(hc:bn c):Dr (gL k (c,())) (fun r=>bn r.2.1/\ai ae r.1<=400):=by
 simp only[gL];refine cq (yo hk hc) (fun r1 e=>cq (cK hk e.1) (fun r2 b=> ?_));have f:=e.2;rw[bj hk]at f;refine dI (fun _=> ?_) (fun _=> ?_);refine cq (Qi hk b.1) (fun d a=>dA ⟨a.1,?_⟩);dsimp only;rw[bj hk];have:=a.2;dsimp only;omega;refine dI (fun _=> ?_) (fun _=> ?_);refine cq (ld hk b.1 (by decide)) (fun d a=>dA ⟨a,?_⟩);dsimp only;rw[bj hk];dsimp only;omega;refine dI (fun _=> ?_) (fun _=> ?_);refine cq (QT hk b.1) (fun d a=>dA ⟨a,?_⟩);dsimp only;rw[bj hk];dsimp only;omega;refine dI (fun _=> ?_) (fun _=>dA ⟨b.1,by dsimp only;rw[bj hk];omega⟩);refine cq (pE hk b.1) (fun d a=>dA ⟨a.1,?_⟩);dsimp only;rw[bj hk];have:=a.2;dsimp only;omega
def zW{c:aO}{l:List af}(hc:bn c)(hl:ai (.sl ae) l<=1048576):Dr (cQ k (c,l,())) (fun r=>bn r.2.1/\ai (.sl ak) r.1<=ai (.sl ae) l+108):=by
 simp only[cQ];have hln:=az (e:=ae) (l:=l)
 have pick:∀ {c:aO},bn c->0<l.length->Dr (ay1 (bf k (c,(l.length:Int),())) fun a=>
  if(decide (0<=a.1/\a.1<((ay2 l:Nat):Int)))=true then
   if(decide (ay2 ([]:List ag)+ay2 ((List.getD l (J8 a.1) ae.aa).1)<4294967296))=true then
    some (([]:List ag)++((List.getD l (J8 a.1) ae.aa).1),a.2.1,())
   else none
  else none) (fun r=>bn r.2.1/\ai (.sl ak) r.1<=ai (.sl ae) l+108):=by
  intro c hc b;refine cq (cK hk hc) (fun a j=>kL (by simp;omega) ?_);have m:a.1.toNat<l.length:=by omega
  have n:=cx (e:=ae) (cC (d:=ae.aa) m);rw[bj hk]at n;have h3:=az (e:=ak) (l:=(l.getD a.1.toNat ae.aa).1);refine kL (c_ (by simp only[ayS];omega)) (dA ⟨j.1,?_⟩);dsimp only;rw[ay7];omega
 have free:∀ {c:aO},bn c->Dr (ay1 (fk k (c,())) fun f=>some (f.1,f.2.1,())) (fun r=>bn r.2.1/\ai (.sl ak) r.1<=ai (.sl ae) l+108):=
  fun hc=>cq (xV hk hc) (fun r h=>dA ⟨h.1,by have:=h.2;dsimp only;omega⟩)
 refine dI (fun b=> ?_) (fun b=> ?_);have b:0<l.length:=by simpa using b
 refine cq (mV hk hc) (fun r1 g=>dI (fun _=>pick g b) (fun _=>free g));refine dI (fun h=> ?_) (fun _=>free hc);have b:¬0<l.length:=by simpa using b
 simp[b]at h
end
def eJ(l:List aw)(key:List ag):Option Nat:=fv l.length (fun i=>decide ((l.getD i al.aa).2.1=key))
def jc(l:List aw)(a:af)(by_:List ByteArray)(n U:Int):List aw:=
 match eJ l (keyOf a by_)with
 |some i=>l.set i (ij (l.getD i al.aa) a)
 |none=>l++[(n,keyOf a by_,U,-1,[a])]
section
variable{k:Nat}(hk:9223372036854775808<=k)
include hk
theorem QC(l m:List aw):ai (.sl al) (l++m)=ai (.sl al) l+ai (.sl al) m:=gZ (e:=al) l m
theorem OI(x:aw)(l:List aw):ai (.sl al) (x::l)=1+ai al x+ai (.sl al) l:=bW (e:=al) x l
theorem Qy:ai (.sl al) ([]:List aw)=0:=bd (e:=al)
def B7{l:List aw}{key:List ag}(h:ai (.sl al) l<=1048576):gi k (l,key,())=some (dB (eJ l key),()):=by
 have h2:=az (e:=al) (l:=l);simp only[gi];refine(fY (fun i:Nat=>(key,l,(l.length:Int),(i:Int),())) (fun i=>decide ((l.getD i al.aa).2.1=key)) l.length (e:=some (-1,())) (fun i=>some ((i:Int),())) (fun G i a=> ?_) (fun G=> ?_) k (by omega)).trans ?_;simp only[aK,aC a,a,decide_true,if_true,ed];rw[aX (by omega),dV hk (qK hk h a).2,av];simp;unfold eJ;cases fv l.length (fun i=>decide ((l.getD i al.aa).2.1=key))<;>rfl
def iT{l:List aw}{key:List ag}(h:ai (.sl al) l<=1048576):eS k (l,key,())=some (dB (eJ l key),()):=by
 have h2:=az (e:=al) (l:=l);simp only[eS];refine(fY (fun i:Nat=>(l,key,(i:Int),())) (fun i=>decide ((l.getD i al.aa).2.1=key)) l.length (e:=some (-1,())) (fun i=>some ((i:Int),())) (fun G i a=> ?_) (fun G=> ?_) k (by omega)).trans ?_;simp only[aK,aC a,a,decide_true,if_true,ed];rw[aX (by omega),nT hk (qK hk h a).2,av];simp;unfold eJ;cases fv l.length (fun i=>decide ((l.getD i al.aa).2.1=key))<;>rfl
def RO{l:List aw}{a:af}{by_:List ByteArray}{n U:Int}(b:ai (.sl al) l<=1048576)(f:ai ae a<=1048576)(g:by_.length<=1048576):
 Kz k (l,a,by_,n,U,())=some (jc l a by_ n U,(eJ l (keyOf a by_)).isNone,()):=by
 have h2:=az (e:=al) (l:=l);simp only[Kz];rw[PC hk (by omega),av,yY hk f g,av];unfold jc;cases h:eJ l (keyOf a by_)with
 |none=>
  have e:gi k (l,keyOf a by_,())=some (-1,()):=by rw[B7 hk b,h];rfl
  rw[e,av,a_ (by decide),gY hk (by omega),av,an (by simp;omega)];rfl
 |some i=>
  have d:=(aR.1 h).1;have e:gi k (l,keyOf a by_,())=some ((i:Int),()):=by rw[B7 hk b,h];rfl
  rw[e,av,an (by simp),an (aC d)];simp only[ed];rw[ZR hk (qK hk b d).1 f,av,an (aC d)];rfl
def sF{l:List aw}{a:af}{by_:List ByteArray}{n U:Int}(b:ai (.sl al) l<=1048576)(f:ai ae a<=1048576)(g:by_.length<=1048576):
 lP k (l,a,by_,n,U,())=some (jc l a by_ n U,(eJ l (keyOf a by_)).isNone,()):=by
 have h2:=az (e:=al) (l:=l);simp only[lP];rw[ns hk (by omega),av,wI hk f g,av];unfold jc;cases h:eJ l (keyOf a by_)with
 |none=>
  have e:eS k (l,keyOf a by_,())=some (-1,()):=by rw[iT hk b,h];rfl
  rw[e,av,a_ (by decide),cR hk (by omega),av,an (by simp;omega)];rfl
 |some i=>
  have d:=(aR.1 h).1;have e:eS k (l,keyOf a by_,())=some ((i:Int),()):=by rw[iT hk b,h];rfl
  rw[e,av,an (by simp),an (aC d)];simp only[ed];rw[Fw hk (qK hk b d).1 f,av,an (aC d)];rfl
def Ps(a:af)(by_:List ByteArray):ai (.sl ak) (keyOf a by_)<=ai ae a:=by
 have zt:ai (.sl ak) (keyOf a by_)<=ai (.sl ak) a.1:=xD (e:=ak) _ _;have mS:=bj hk a;omega
def FC{l:List aw}{a:af}{by_:List ByteArray}{n U:Int}:ai (.sl al) (jc l a by_ n U)<=ai (.sl al) l+2*ai ae a+2:=by
 unfold jc;cases h:eJ l (keyOf a by_)with
 |none=>
  dsimp only;have b:=Ps hk a by_;rw[QC hk,OI hk,Qy hk,eK hk];dsimp only;rw[Pl hk,Q0 hk];omega
 |some i=>
  have d:=(aR.1 h).1;have b:=mf (e:=al) l i (ij (l.getD i al.aa) a) d;have h2:=OR hk (g:=l.getD i al.aa) (a:=a);dsimp only;omega
end
def qn(d:aA)(n:Int):aA:=(d.1,d.2.1,d.2.2.1,d.2.2.2.1,d.2.2.2.2.1,n,d.2.2.2.2.2.2)
def iy(w:ah)(i:Nat):Bool×ah:=
 match w with
 |(c,ti,U,st,m_,Z,gr,A,nn,V,n_,l_,O,T)=>
  if gr= -1 then(true,(c,ti,U,st,m_,Z,(i:Int),A,nn,V,n_,l_,O.set i ((O.getD i aq.aa).1,1,(O.getD i aq.aa).2.2),T))else(false,w)
def vp(a:af)(h:Int):aG:=(5,0,a,[],0,[],[],0,h)
def Dv(a:af)(U ti:Int):aA:=(7,3,a,[],0,0,0,[],U,ti,-1,-1)
def na(c:aY)(a:af)(nn U:Int):aw:=(nn,keyOf a c.2.2.2.2.2,U,-1,[a])
def gw(s:Bool)(k:Nat)(w:ah):Bool×ah:=
 match w with
 |(c,ti,U,st,m_,Z,gr,A,nn,V,n_,l_,O,T)=>
  let t:=O.getD 3 aq.aa
  let n:=(bm t).toNat
  let d:=T.getD n ay.aa
  if t.1=0 then
   (if Z.length=0 then(false,w)
    else(true,(c,ti,U,st,m_,Z.drop 1,gr,A,nn,V,n_,l_,O.set 3 (vp (Z.getD 0 ae.aa) T.length),T++[Dv (Z.getD 0 ae.aa) U ti])))
  else if t.2.1=0 then iy w 3
  else match eJ A (keyOf t.2.2.1 c.2.2.2.2.2)with
   |none=>
    if 12<=A.length then(true,(c,ti,U,st,m_,Z,-1,A,nn,V,n_,l_,O.set 3 zT,T.set n (eC s false d U ti 3 [])))
    else(true,(c,ti,U,st,m_,Z,-1,A++[na c t.2.2.1 nn U],IntKind.i64.wrap (nn+1),tf V (ik c (na c t.2.2.1 nn U),nn),n_,l_,O.set 3 zT,T.set n (eC s false (qn d nn) U ti 1 [])))
   |some i=>(true,(c,ti,U,st,m_,Z,-1,A.set i (ij (A.getD i al.aa) t.2.2.1),nn,V,n_,l_,O.set 3 zT,T.set n (eC s false (qn d (A.getD i al.aa).1) U ti 2 [])))
def hZ(s:Bool)(k:Nat)(w:ah):Bool×ah:=bC (gw s k w)
def L7{l:List aw}{g:aw}{key:List ag}(h:eJ l key=none)(b:g.2.1=key):eJ (l++[g]) key=some l.length:=by
 unfold eJ at h|-;have d:=gB.1 h;refine aR.2 ⟨by simp,?_,fun j a=> ?_⟩;rw[ayy,ayJ (ay3 _)];simpa using b;rw[pN _ _ a];exact d j a
def Mb{l:List aw}{g:aw}{key:List ag}{i:Nat}(h:eJ l key=some i)(d:g.2.1=key):eJ (l.set i g) key=some i:=by
 unfold eJ at h|-;obtain⟨a,h2,e⟩:=aR.1 h;refine aR.2 ⟨by simpa using a,?_,fun j b=> ?_⟩;rw[aL _ _ a];simpa using d;rw[ayy,ayT (by omega),<-ayy];exact e j b
def OZ{l:List aw}{g:aw}{n:Int}(h:∀i,i<l.length->(l.getD i al.aa).1≠n)(b:g.1=n):dW (l++[g]) n=some l.length:=by
 unfold dW;refine aR.2 ⟨by simp,?_,fun j a=> ?_⟩;rw[ayy,ayJ (ay3 _)];simpa using b;rw[pN _ _ a];exact decide_eq_false (h j a)
def GJ{α:Type}(l:List α)(x d:α):(l++[x]).getD l.length d=x:=by
 rw[ayy,ayJ (ay3 _)];simp
section
variable{c:aY}{ti U gr nn:Int}{st:List au}{m_:List bo}{Z l_:List af}{A:List aw}{V:List aF}{n_:List bq}{O:List aG}{T:List aA}{i:Nat}
def zL(h:gr= -1):iy (c,ti,U,st,m_,Z,gr,A,nn,V,n_,l_,O,T) i=(true,(c,ti,U,st,m_,Z,(i:Int),A,nn,V,n_,l_,O.set i ((O.getD i aq.aa).1,1,(O.getD i aq.aa).2.2),T)):=an h
def DV(h:¬gr= -1):iy (c,ti,U,st,m_,Z,gr,A,nn,V,n_,l_,O,T) i=(false,(c,ti,U,st,m_,Z,gr,A,nn,V,n_,l_,O,T)):=a_ h
end
section
variable{k:Nat}(hk:9223372036854775808<=k)
include hk
variable{c:aY}{ti U gr nn:Int}{st:List au}{m_:List bo}{Z l_:List af}{A:List aw}{V:List aF}{n_:List bq}{O:List aG}{T:List aA}
set_option maxHeartbeats 8000000 in
def adp(hs:ai aD (c,ti,U,st,m_,Z,gr,A,nn,V,n_,l_,O,T)<=1048576)(hi:3<O.length)(g:(O.getD 3 aq.aa).1=0):
 D9 k ((c,ti,U,st,m_,Z,gr,A,nn,V,n_,l_,O,T),())=
  some ((gw false k (c,ti,U,st,m_,Z,gr,A,nn,V,n_,l_,O,T)).1,(gw false k (c,ti,U,st,m_,Z,gr,A,nn,V,n_,l_,O,T)).2,()):=by
 have hsum:=eV hk hs;have hdl:=az (e:=ay) (l:=T);have hfl:=az (e:=ae) (l:=Z);have a:decide ((0:Int)<=3/\(3:Int)<(O.length:Int))=true:=c_ ⟨by omega,by omega⟩;unfold gw;simp only[g,if_true];simp only[D9,cE];by_cases b:Z.length=0;rw[an (c_ (by omega)),an b];have hA:=dq (e:=ae) (d:=ae.aa) (l:=Z) (i:=0) (by omega);have f:ck k (Z.getD 0 ae.aa,())=some (Z.getD 0 ae.aa,()):=gY hk (by omega);rw[a_ (by simp;exact fun h=>b (by simp[h])),a_ b,an (c_ (by omega)),an (c_ (by omega)),an (c_ (by simp only[ayS,ay4];omega))];simp only[show J8 0=0 from rfl,show J8 1=1 from rfl,show J8 3=3 from rfl,f,av,ay7];rw[acr hk (by omega),av,an a];rfl
set_option maxHeartbeats 8000000 in
def ZQ{n:Nat}{t:aG}{d:aA}(hs:ai aD (c,ti,U,st,m_,Z,gr,A,nn,V,n_,l_,O,T)<=1048576)(hi:3<O.length)(m:O.getD 3 aq.aa=t)(F:t.1=5)(q:t.2.1=1)
 (g:n<T.length) (x:bm t=(n:Int)) (j:T.getD n ay.aa=d) (y:d.2.2.1=t.2.2.1):
 BG k ((c,ti,U,st,m_,Z,gr,A,nn,V,n_,l_,O,T),())=
  some ((gw false k (c,ti,U,st,m_,Z,gr,A,nn,V,n_,l_,O,T)).2,()):=by
 have hsum:=eV hk hs;have z:=dq (e:=aq) (d:=aq.aa) hi;rw[m]at z;have hdl:=az (e:=ay) (l:=T);have hgl:=az (e:=al) (l:=A);have hhl:=az (e:=aE) (l:=V);have B:=dq (e:=ay) (d:=ay.aa) g;rw[j]at B;have C:=cU hk d;rw[y]at C;have G:ai aq t<=1048576:=by omega
 have hta:=dy hk t;have r:=FC hk (l:=A) (a:=t.2.2.1) (by_:=c.2.2.2.2.2) (n:=nn) (U:=U);have hcf:=ng hk c;have hby:=az (e:= .str) (l:=c.2.2.2.2.2);have D:decide ((0:Int)<=3/\(3:Int)<(O.length:Int))=true:=c_ ⟨by omega,by omega⟩;have E:bN t=true:=by unfold bN;rw[F,q];rfl
 have b:aV k t (st.length:Int)= -1:=by
  unfold aV;split;rfl;rw[a_ (by omega),a_ (by omega),a_ (by omega)]
 have hrel:Ny st (-1)=st:=by unfold Ny;rw[a_ (by omega)]
 have s:=x;unfold bm at s;unfold gw;simp only[m,x,j,F,q,ed];rw[a_ (show¬(5:Int)=0 by decide),a_ (show¬(1:Int)=0 by decide)];simp only[BG,show J8 3=3 from rfl,m,s,ek]
 have f:∀(A:List aw) (nn:Int) (V:List aF) (T:List aA) (w:aA) (code:Int),n<T.length->T.getD n ay.aa=w->gP k ((c,ti,U,st,m_,Z,gr,A,nn,V,n_,l_,O,T),(3:Int),code,())=
  some ((c,ti,U,st,m_,Z,-1,A,nn,V,n_,l_,O.set 3 zT,T.set n (GL w U ti code)),()):=by
  intro A nn V T w code g j;have:=OG (n:=n) (i:=3) (code:=code) (c:=c) (ti:=ti) (U:=U) (gr:=gr) (nn:=nn) (st:=st) (m_:=m_) (Z:=Z) (l_:=l_) (A:=A) (V:=V) (n_:=n_) hk hi g (by rw[m];exact x) (by rw[m];exact G) (by rw[m,b];omega);rw[m,b,hrel,E,an rfl,j]at this;exact this
 rw[an D,yY hk (by omega) (by omega),av,B7 hk (by omega),av];dsimp only;cases h:eJ A (keyOf t.2.2.1 c.2.2.2.2.2)with
 |none=>
  by_cases mS:12<=A.length;rw[an (by simp[dB];omega),f A nn V T d 3 g j,av];dsimp only;rw[an mS];rfl;have u:jc A t.2.2.1 c.2.2.2.2.2 nn U=A++[na c t.2.2.1 nn U]:=by unfold jc;rw[h];rfl
  have o:eJ (A++[na c t.2.2.1 nn U]) (keyOf t.2.2.1 c.2.2.2.2.2)=some A.length:=L7 h rfl;rw[u]at r;rw[a_ (by simp[dB];omega),RO hk (by omega) (by omega) (by omega),av,u,h];dsimp only;have p:A.length<(A++[na c t.2.2.1 nn U]).length:=by simp
  rw[B7 hk (by omega),av];simp only[o,dB];rw[an (aC p),an (aC g)];simp only[ed,GJ,ayY,ayQ,D',if_false];rw[DY hk,av,RW hk (by omega),av];dsimp only;rw[f _ _ _ _ (qn d nn) 1 (by rw[si];exact g) (by rw[aL _ _ g,j];rfl),av,a_ mS,u_];rfl
 |some i=>
  have u:jc A t.2.2.1 c.2.2.2.2.2 nn U=A.set i (ij (A.getD i al.aa) t.2.2.1):=by unfold jc;rw[h]
  have v:i<A.length:=(aR.1 h).1;rw[u]at r;have o:eJ (A.set i (ij (A.getD i al.aa) t.2.2.1)) (keyOf t.2.2.1 c.2.2.2.2.2)=some i:=Mb h (by have:=(aR.1 h).2.1;simpa[ij]using this);have hc:(if decide (dB (some i)<0)=true then decide (((A.length:Nat):Int)>=12)else false)=false:=a_ (by show¬(decide ((i:Int)<0)=true);rw[b_];omega);rw[hc,a_ V',RO hk (by omega) (by omega) (by omega),av,u,h];dsimp only;have p:i<(A.set i (ij (A.getD i al.aa) t.2.2.1)).length:=by simpa using v
  rw[B7 hk (by omega),av];simp only[o,dB];rw[an (aC p),an (aC g)];simp only[ed,aL _ _ v,ayZ,ayP,if_true];rw[f _ _ _ _ (qn d (A.getD i al.aa).1) 2 (by rw[si];exact g) (by rw[aL _ _ g,j];rfl),av,u_];rfl
set_option maxHeartbeats 8000000 in
def XN{n:Nat}{t:aG}{d:aA}(hs:ai aD (c,ti,U,st,m_,Z,gr,A,nn,V,n_,l_,O,T)<=1048576)(hi:3<O.length)(e:O.getD 3 aq.aa=t)(a:t.1=0\/t.1=5/\(t.2.1=0\/t.2.1=1))
 (m:t.1=5->n<T.length) (o:bm t=(n:Int)) (p:T.getD n ay.aa=d) (f:t.1=5->d.2.2.1=t.2.2.1):
 yT k ((c,ti,U,st,m_,Z,gr,A,nn,V,n_,l_,O,T),())=
  some ((hZ false k (c,ti,U,st,m_,Z,gr,A,nn,V,n_,l_,O,T)).1,(hZ false k (c,ti,U,st,m_,Z,gr,A,nn,V,n_,l_,O,T)).2,()):=by
 have g:decide ((0:Int)<=3/\(3:Int)<(O.length:Int))=true:=c_ ⟨by omega,by omega⟩;simp only[yT,aN,show J8 3=3 from rfl,e];rw[an g];unfold hZ;rcases a with a|⟨a,l⟩;rw[a,an (by decide),adp hk hs hi (by rw[e];exact a),av];unfold bC;cases h:(gw false k (c,ti,U,st,m_,Z,gr,A,nn,V,n_,l_,O,T)).1 with
 |true=>rfl
 |false=>
  show some (false,_,())=_;rw[a_ V',h]
 rw[a,a_ (by decide)];rcases l with b|b
 have j:gw false k (c,ti,U,st,m_,Z,gr,A,nn,V,n_,l_,O,T)=iy (c,ti,U,st,m_,Z,gr,A,nn,V,n_,l_,O,T) 3:=by
  unfold gw;simp only[e,a,b,if_true];rw[a_ (show¬(5:Int)=0 by decide)]
 have q:=UY (i:=3) (c:=c) (ti:=ti) (U:=U) (gr:=gr) (nn:=nn) (st:=st) (m_:=m_) (Z:=Z) (l_:=l_) (A:=A) (V:=V) (n_:=n_) (T:=T) hk hi;rw[b,an (by decide),j];erw[q];by_cases h:gr= -1;rw[an h,zL h];rfl;rw[a_ h,DV h];rfl;rw[b,a_ (by decide),ZQ hk hs hi e a b (m a) o p (f a),av]
 have j:(gw false k (c,ti,U,st,m_,Z,gr,A,nn,V,n_,l_,O,T)).1=true:=by
  unfold gw;simp only[e,a,b];rw[a_ (show¬(5:Int)=0 by decide),a_ (show¬(1:Int)=0 by decide)];split;split<;>rfl;rfl
 unfold bC;rw[j];rfl
def tV{n:Int}{i:Nat}(hg:A.length<=1048579)(b:V.length<=1048576)(a:dW A n=some i):
 kv k ((c,ti,U,st,m_,Z,gr,A,nn,V,n_,l_,O,T),n,())=
  some ((c,ti,U,st,m_,Z,gr,A,nn,tf V (ik c (A.getD i al.aa),n),n_,l_,O,T),()):=by
 have d:=(aR.1 a).1;simp only[kv];rw[nQ hk (by omega),av];simp only[a,dB];rw[an (aC d),Lh hk,av,CX hk b,av,ed]
set_option maxHeartbeats 8000000 in
def Cp{n:Nat}{t:aG}{d:aA}(hs:ai aD (c,ti,U,st,m_,Z,gr,A,nn,V,n_,l_,O,T)<=1048576)(hi:3<O.length)(u:O.getD 3 aq.aa=t)(G:t.1=5)(w:t.2.1=1)
 (f:n<T.length) (x:bm t=(n:Int)) (h:T.getD n ay.aa=d) (y:d.2.2.1=t.2.2.1) (z:∀i,i<A.length->(A.getD i al.aa).1≠nn):
 lB k ((c,ti,U,st,m_,Z,gr,A,nn,V,n_,l_,O,T),())=
  some ((gw true k (c,ti,U,st,m_,Z,gr,A,nn,V,n_,l_,O,T)).2,()):=by
 have hsum:=eV hk hs;have B:=dq (e:=aq) (d:=aq.aa) hi;rw[u]at B;have hdl:=az (e:=ay) (l:=T);have hgl:=az (e:=al) (l:=A);have hhl:=az (e:=aE) (l:=V);have C:=dq (e:=ay) (d:=ay.aa) f;rw[h]at C;have D:=cU hk d;rw[y]at D;have hta:=dy hk t;have o:=FC hk (l:=A) (a:=t.2.2.1) (by_:=c.2.2.2.2.2) (n:=nn) (U:=U);have hcf:=ng hk c;have hby:=az (e:= .str) (l:=c.2.2.2.2.2);have E:decide ((0:Int)<=3/\(3:Int)<(O.length:Int))=true:=c_ ⟨by omega,by omega⟩
 have b:∀(A:List aw) (nn:Int) (V:List aF) (T:List aA) (v:aA) (code:Int),n<T.length->T.getD n ay.aa=v->bR k ((c,ti,U,st,m_,Z,-1,A,nn,V,n_,l_,O,T),(3:Int),code,[],())=
  some ((c,ti,U,st,m_,Z,-1,A,nn,V,n_,l_,O.set 3 zT,T.set n (oc v U ti code [])),()):=by
  intro A nn V T v code f h;have:=eT (n:=n) (i:=3) (code:=code) (got:=[]) (c:=c) (ti:=ti) (U:=U) (gr:= -1) (nn:=nn) (st:=st) (m_:=m_) (Z:=Z) (l_:=l_) (A:=A) (V:=V) (n_:=n_) hk hi f (by rw[u];exact x) (by simp[ai]);rw[h]at this;exact this
 have p:=x;unfold bm at p;unfold gw;simp only[u,x,h,G,w,ed];rw[a_ (show¬(5:Int)=0 by decide),a_ (show¬(1:Int)=0 by decide)];simp only[lB,show J8 3=3 from rfl,u,p,ek];have q:gN k (t.2.2.1,c.2.2.2.2.2,())=some (keyOf t.2.2.1 c.2.2.2.2.2,()):=wI hk (by omega) (by omega);simp only[q,av];rw[an E,iT hk (by omega),av];dsimp only;cases g:eJ A (keyOf t.2.2.1 c.2.2.2.2.2)with
 |none=>
  by_cases mS:12<=A.length;rw[an (by simp[dB];omega),b A nn V T d 3 f h,av];dsimp only;rw[an mS];rfl;have r:jc A t.2.2.1 c.2.2.2.2.2 nn U=A++[na c t.2.2.1 nn U]:=by unfold jc;rw[g];rfl
  have j:eJ (A++[na c t.2.2.1 nn U]) (keyOf t.2.2.1 c.2.2.2.2.2)=some A.length:=L7 g rfl;have F:dW (A++[na c t.2.2.1 nn U]) nn=some A.length:=OZ z rfl;rw[r]at o;rw[a_ (by simp[dB];omega),sF hk (by omega) (by omega) (by omega),av,r,g];dsimp only;have m:A.length<(A++[na c t.2.2.1 nn U]).length:=by simp
  rw[iT hk (by omega),av];simp only[j,dB];rw[an (aC m),an (aC f)];simp only[ed,GJ,ayY,if_true];rw[show(na c t.2.2.1 nn U).1=nn from rfl,tV hk (by rw[ayB,J_];omega) (by omega) F,av];dsimp only;rw[b _ _ _ _ (qn d nn) 1 (by rw[si];exact f) (by rw[aL _ _ f,h];rfl),av,a_ mS,u_,GJ];rfl
 |some i=>
  have r:jc A t.2.2.1 c.2.2.2.2.2 nn U=A.set i (ij (A.getD i al.aa) t.2.2.1):=by unfold jc;rw[g]
  have s:i<A.length:=(aR.1 g).1;rw[r]at o;have j:eJ (A.set i (ij (A.getD i al.aa) t.2.2.1)) (keyOf t.2.2.1 c.2.2.2.2.2)=some i:=Mb g (by have:=(aR.1 g).2.1;simpa[ij]using this);have hc:(if decide (dB (some i)<0)=true then decide (((A.length:Nat):Int)>=12)else false)=false:=a_ (by show¬(decide ((i:Int)<0)=true);rw[b_];omega);rw[hc,a_ V',sF hk (by omega) (by omega) (by omega),av,r,g];dsimp only;have m:i<(A.set i (ij (A.getD i al.aa) t.2.2.1)).length:=by simpa using s
  rw[iT hk (by omega),av];simp only[j,dB];rw[an (aC m),an (aC f)];simp only[ed,aL _ _ s,ayZ,D',if_false];rw[b _ _ _ _ (qn d (A.getD i al.aa).1) 2 (by rw[si];exact f) (by rw[aL _ _ f,h];rfl),av,u_];rfl
def Ot(op n h:Int)(a:af):ai aq (op,0,a,[],0,[],[],n,h)=ai ae a:=by rw[dy hk];simp[ai]
set_option maxHeartbeats 8000000 in
def oh{n:Nat}{t:aG}{d:aA}(hs:ai aD (c,ti,U,st,m_,Z,gr,A,nn,V,n_,l_,O,T)<=1048576)(hi:3<O.length)(g:O.getD 3 aq.aa=t)(a:t.1=0\/t.1=5/\(t.2.1=0\/t.2.1=1))
 (u:t.1=5->n<T.length) (v:bm t=(n:Int)) (w:T.getD n ay.aa=d) (p:t.1=5->d.2.2.1=t.2.2.1) (q:∀i,i<A.length->(A.getD i al.aa).1≠nn):
 iO k ((c,ti,U,st,m_,Z,gr,A,nn,V,n_,l_,O,T),())=
  some ((hZ true k (c,ti,U,st,m_,Z,gr,A,nn,V,n_,l_,O,T)).1,(hZ true k (c,ti,U,st,m_,Z,gr,A,nn,V,n_,l_,O,T)).2,()):=by
 have hsum:=eV hk hs;have hdl:=az (e:=ay) (l:=T);have hfl:=az (e:=ae) (l:=Z);have j:decide ((0:Int)<=3/\(3:Int)<(O.length:Int))=true:=c_ ⟨by omega,by omega⟩;simp only[iO,aN,show J8 3=3 from rfl,g];rw[an j];unfold hZ;rcases a with a|⟨a,s⟩;rw[a,an (by decide)];by_cases b:Z.length=0
 have f:gw true k (c,ti,U,st,m_,Z,gr,A,nn,V,n_,l_,O,T)=(false,(c,ti,U,st,m_,Z,gr,A,nn,V,n_,l_,O,T)):=by
  unfold gw;simp only[g,a,b,if_true]
 have m:decide (((Z.length:Nat):Int)>0)=false:=decide_eq_false (by omega);rw[f];simp only[m,D',if_false];rfl;have hA:=dq (e:=ae) (d:=ae.aa) (l:=Z) (i:=0) (by omega);have hAt:=bj hk (Z.getD 0 ae.aa);have hAl:=az (e:=ak) (l:=(Z.getD 0 ae.aa).1)
 have f:gw true k (c,ti,U,st,m_,Z,gr,A,nn,V,n_,l_,O,T)=(true,(c,ti,U,st,m_,Z.drop 1,gr,A,nn,V,n_,l_,O.set 3 (vp (Z.getD 0 ae.aa) T.length),T++[Dv (Z.getD 0 ae.aa) U ti])):=by
  unfold gw;simp only[g,a,b,if_true,if_false]
 have m:decide (((Z.length:Nat):Int)>0)=true:=c_ (by omega);have x:bK k (Z.drop 1,())=some (Z.drop 1,()):=vR hk (by omega);have r:eN k ((5:Int),())=some (7,()):=rfl;rw[f];simp only[m,if_true,show J8 0=0 from rfl,show J8 1=1 from rfl];rw[an (c_ (by omega)),an (c_ (by omega)),x,av]
 have y:=qy (i:=3) (t:=(5,0,Z.getD 0 ae.aa,[],0,[],[],0,0)) (o:=7) (c:=c) (ti:=ti) (U:=U) (gr:=gr) (nn:=nn) (st:=st) (m_:=m_) (Z:=Z.drop 1) (l_:=l_) (A:=A) (V:=V) (n_:=n_) (O:=O) (T:=T)
  hk hi (by omega) (by rw[Ot hk];omega) r (by dsimp only;omega) (by simp)
 erw[y];rfl;rw[a,a_ (by decide),an j];rcases s with b|b
 have f:gw true k (c,ti,U,st,m_,Z,gr,A,nn,V,n_,l_,O,T)=iy (c,ti,U,st,m_,Z,gr,A,nn,V,n_,l_,O,T) 3:=by
  unfold gw;simp only[g,a,b,if_true];rw[a_ (show¬(5:Int)=0 by decide)]
 have m:=rR (i:=3) (c:=c) (ti:=ti) (U:=U) (gr:=gr) (nn:=nn) (st:=st) (m_:=m_) (Z:=Z) (l_:=l_) (A:=A) (V:=V) (n_:=n_) (T:=T) hk hi;rw[b,an (by decide),f];erw[m];by_cases h:gr= -1;rw[an h,zL h];rfl;rw[a_ h,DV h];rfl;rw[b,a_ (by decide),Cp hk hs hi g a b (u a) v w (p a) q,av]
 have f:(gw true k (c,ti,U,st,m_,Z,gr,A,nn,V,n_,l_,O,T)).1=true:=by
  unfold gw;simp only[g,a,b];rw[a_ (show¬(5:Int)=0 by decide),a_ (show¬(1:Int)=0 by decide)];split;split<;>rfl;rfl
 unfold bC;rw[f];rfl
end
def pz(V:List aF)(U:Int):Bool:=decide (0<V.length)&&decide ((V.getD 0 aE.aa).1<=U)
def qH(n h:Int):aG:=(6,0,bU,[],0,[],[],n,h)
def u7(n U ti:Int):aA:=(8,4,bU,[],0,n,0,[],U,ti,-1,-1)
def sT(c:aY)(V:List aF)(A:List aw)(n:Int):List aF:=
 match dW A n with
 |some i=>tf V (ik c (A.getD i al.aa),n)
 |none=>V
def eX(s:Bool)(k:Nat)(w:ah):Bool×ah:=
 match w with
 |(c,ti,U,st,m_,Z,gr,A,nn,V,n_,l_,O,T)=>
  let t:=O.getD 4 aq.aa
  let n:=(bm t).toNat
  let d:=T.getD n ay.aa
  if t.1=0 then
   (if pz V U=true then(true,(c,ti,U,st,m_,Z,gr,A,nn,(dS V).1,n_,l_,O.set 4 (qH (dS V).2.1.2 T.length),T++[u7 (dS V).2.1.2 U ti]))else(false,w))
  else if t.2.1=0 then iy w 4
  else if kf A t.2.2.2.2.2.2.2.1=true then
   (true,(c,ti,U,st,m_,Z,-1,dm A t.2.2.2.2.2.2.2.1 U,nn,sT c V (dm A t.2.2.2.2.2.2.2.1 U) t.2.2.2.2.2.2.2.1,n_++[gj A t.2.2.2.2.2.2.2.1 U],l_,O.set 4 zT,
    T.set n (eC s true d U ti 8 (gj A t.2.2.2.2.2.2.2.1 U).2.2.2)))
  else(true,(c,ti,U,st,m_,Z,-1,A,nn,V,n_,l_,O.set 4 zT,T.set n (eC s false d U ti 6 [])))
def fq(s:Bool)(k:Nat)(w:ah):Bool×ah:=bC (eX s k w)
section
variable{k:Nat}(hk:9223372036854775808<=k)
include hk
variable{c:aY}{ti U gr nn:Int}{st:List au}{m_:List bo}{Z l_:List af}{A:List aw}{V:List aF}{n_:List bq}{O:List aG}{T:List aA}
theorem adU{w:ah}:Oh k (w,())=some (pz w.2.2.2.2.2.2.2.2.2.1 w.2.2.1,()):=by
 simp only[Oh,pz];by_cases h:0<w.2.2.2.2.2.2.2.2.2.1.length;have a:decide (((w.2.2.2.2.2.2.2.2.2.1.length:Nat):Int)>0)=true:=c_ (by omega);have b:decide ((0:Int)<=0/\(0:Int)<((w.2.2.2.2.2.2.2.2.2.1.length:Nat):Int))=true:=c_ ⟨by omega,by omega⟩;simp[a,b,h];have a:decide (((w.2.2.2.2.2.2.2.2.2.1.length:Nat):Int)>0)=false:=decide_eq_false (by omega);simp[a,h]
theorem yG{w:ah}:kA k (w,())=some (pz w.2.2.2.2.2.2.2.2.2.1 w.2.2.1,()):=by
 simp only[kA,pz];by_cases h:0<w.2.2.2.2.2.2.2.2.2.1.length;have a:decide (((w.2.2.2.2.2.2.2.2.2.1.length:Nat):Int)>0)=true:=c_ (by omega);have b:decide ((0:Int)<=0/\(0:Int)<((w.2.2.2.2.2.2.2.2.2.1.length:Nat):Int))=true:=c_ ⟨by omega,by omega⟩;simp[a,b,h];have a:decide (((w.2.2.2.2.2.2.2.2.2.1.length:Nat):Int)>0)=false:=decide_eq_false (by omega);simp[a,h]
set_option maxHeartbeats 8000000 in
def abj(hs:ai aD (c,ti,U,st,m_,Z,gr,A,nn,V,n_,l_,O,T)<=1048576)(hi:4<O.length)(b:(O.getD 4 aq.aa).1=0):
 CV k ((c,ti,U,st,m_,Z,gr,A,nn,V,n_,l_,O,T),())=
  some ((eX false k (c,ti,U,st,m_,Z,gr,A,nn,V,n_,l_,O,T)).1,(eX false k (c,ti,U,st,m_,Z,gr,A,nn,V,n_,l_,O,T)).2,()):=by
 have hsum:=eV hk hs;have hdl:=az (e:=ay) (l:=T);have hhl:=az (e:=aE) (l:=V);have a:decide ((0:Int)<=4/\(4:Int)<(O.length:Int))=true:=c_ ⟨by omega,by omega⟩;unfold eX;simp only[b,if_true];simp only[CV,adU hk,av];cases hr:pz V U with
 |false=>rfl
 |true=>
  simp only[ayQ,D',if_false,if_true];rw[X0 hk (by omega),av];dsimp only;rw[acr hk (by omega),av];dsimp only;rw[an a];rfl
theorem ab7{t:aG}(hp:t.1=5\/t.1=6){n:Int}:aV k t n= -1:=by
 unfold aV;split;rfl;rw[a_ (by omega),a_ (by omega),a_ (by omega)]
set_option maxHeartbeats 8000000 in
def Zi{n:Nat}{t:aG}{d:aA}(hs:ai aD (c,ti,U,st,m_,Z,gr,A,nn,V,n_,l_,O,T)<=1048576)(hi:4<O.length)(g:O.getD 4 aq.aa=t)(p:t.1=6)(j:t.2.1=1)
 (f:n<T.length) (q:bm t=(n:Int)) (h:T.getD n ay.aa=d) (x:dN d= -1):
 zC k ((c,ti,U,st,m_,Z,gr,A,nn,V,n_,l_,O,T),())=
  some ((eX false k (c,ti,U,st,m_,Z,gr,A,nn,V,n_,l_,O,T)).2,()):=by
 have hsum:=eV hk hs;have r:=dq (e:=aq) (d:=aq.aa) hi;rw[g]at r;have hdl:=az (e:=ay) (l:=T);have hgl:=az (e:=al) (l:=A);have hhl:=az (e:=aE) (l:=V);have hsl:=az (e:=cw) (l:=n_);have y:ai aq t<=1048576:=by omega
 have s:decide ((0:Int)<=4/\(4:Int)<(O.length:Int))=true:=c_ ⟨by omega,by omega⟩;have u:bN t=true:=by unfold bN;rw[p,j];rfl
 have a:=ab7 hk (t:=t) (.inr p) (n:=(st.length:Int));have hrel:Ny st (-1)=st:=by unfold Ny;rw[a_ (by omega)]
 have m:=q;unfold bm at m;unfold eX;simp only[g,q,h,p,j,ed];rw[a_ (show¬(6:Int)=0 by decide),a_ (show¬(1:Int)=0 by decide)];simp only[zC,show J8 4=4 from rfl,g,m,ek]
 have b:∀(A:List aw) (V:List aF) (n_:List bq) (T:List aA) (o:aA) (code:Int),n<T.length->T.getD n ay.aa=o->gP k ((c,ti,U,st,m_,Z,gr,A,nn,V,n_,l_,O,T),(4:Int),code,())=
  some ((c,ti,U,st,m_,Z,-1,A,nn,V,n_,l_,O.set 4 zT,T.set n (GL o U ti code)),()):=by
  intro A V n_ T o code f h;have:=OG (n:=n) (i:=4) (code:=code) (c:=c) (ti:=ti) (U:=U) (gr:=gr) (nn:=nn) (st:=st) (m_:=m_) (Z:=Z) (l_:=l_) (A:=A) (V:=V) (n_:=n_) hk hi f (by rw[g];exact q) (by rw[g];exact y) (by rw[g,a];omega);rw[g,a,hrel,u,an rfl,h]at this;exact this
 generalize hN:t.2.2.2.2.2.2.2.1=N;have hfl:=KC hk (l:=A) (n:=N) (U:=U);have hfb:=Iv hk (l:=A) (n:=N) (U:=U);have hfbt:=pK hk (gj A N U);have hfll:=az (e:=al) (l:=dm A N U);rw[an s,Y8 hk (by omega),av];dsimp only;cases hb:kf A N with
 |false=>
  rw[an (by rfl),b A V n_ T d 6 f h,av,a_ V'];rfl
 |true=>
  rw[a_ (by simp),an (c_ (by simp only[J_];omega)),jK hk (by omega),av,an (aC f),R4 hk (by omega),av,an rfl];have w:=WX (U:=U) (ti:=ti) (code:=8) (got:=(gj A N U).2.2.2) x;unfold sT;cases z:dW (dm A N U) N with
  |none=>
   have hc:decide (dB (none:Option Nat)>=0)=false:=rfl;dsimp only;rw[hc,a_ V',b _ _ _ _ (aaf d (gj A N U).2.2.2) 8 (by rw[si];exact f) (by rw[ed,aL _ _ f,h];rfl),av,ed,u_,w];rfl
  |some i=>
   have v:=(aR.1 z).1;have hc:decide (dB (some i)>=0)=true:=c_ (by show(i:Int)>=0;omega);dsimp only;rw[hc,an rfl];refine(an (aC v)).trans ?_;rw[DY hk,av,RW hk (by omega),av];dsimp only[dB];rw[b _ _ _ _ (aaf d (gj A N U).2.2.2) 8 (by rw[si];exact f) (by simp only[ed];rw[aL _ _ f,h];rfl),av];simp only[ed,u_,w];rfl
set_option maxHeartbeats 8000000 in
def Wl{n:Nat}{t:aG}{d:aA}(hs:ai aD (c,ti,U,st,m_,Z,gr,A,nn,V,n_,l_,O,T)<=1048576)(hi:4<O.length)(e:O.getD 4 aq.aa=t)(a:t.1=0\/t.1=6/\(t.2.1=0\/t.2.1=1))
 (l:t.1=6->n<T.length) (m:bm t=(n:Int)) (o:T.getD n ay.aa=d) (p:t.1=6->dN d= -1):
 xC k ((c,ti,U,st,m_,Z,gr,A,nn,V,n_,l_,O,T),())=
  some ((fq false k (c,ti,U,st,m_,Z,gr,A,nn,V,n_,l_,O,T)).1,(fq false k (c,ti,U,st,m_,Z,gr,A,nn,V,n_,l_,O,T)).2,()):=by
 have f:decide ((0:Int)<=4/\(4:Int)<(O.length:Int))=true:=c_ ⟨by omega,by omega⟩;simp only[xC,aN,show J8 4=4 from rfl,e];rw[an f];unfold fq;rcases a with a|⟨a,j⟩;rw[a,an (by decide),abj hk hs hi (by rw[e];exact a),av];unfold bC;cases h:(eX false k (c,ti,U,st,m_,Z,gr,A,nn,V,n_,l_,O,T)).1 with
 |true=>rfl
 |false=>
  show some (false,_,())=_;rw[a_ V',h]
 rw[a,a_ (by decide)];rcases j with b|b
 have g:eX false k (c,ti,U,st,m_,Z,gr,A,nn,V,n_,l_,O,T)=iy (c,ti,U,st,m_,Z,gr,A,nn,V,n_,l_,O,T) 4:=by
  unfold eX;simp only[e,a,b,if_true];rw[a_ (show¬(6:Int)=0 by decide)]
 have q:=UY (i:=4) (c:=c) (ti:=ti) (U:=U) (gr:=gr) (nn:=nn) (st:=st) (m_:=m_) (Z:=Z) (l_:=l_) (A:=A) (V:=V) (n_:=n_) (T:=T) hk hi;rw[b,an (by decide),g];erw[q];by_cases h:gr= -1;rw[an h,zL h];rfl;rw[a_ h,DV h];rfl;rw[b,a_ (by decide),Zi hk hs hi e a b (l a) m o (p a),av]
 have g:(eX false k (c,ti,U,st,m_,Z,gr,A,nn,V,n_,l_,O,T)).1=true:=by
  unfold eX;simp only[e,a,b];rw[a_ (show¬(6:Int)=0 by decide),a_ (show¬(1:Int)=0 by decide)];split<;>rfl
 unfold bC;rw[g];rfl
set_option maxHeartbeats 8000000 in
def Ao{n:Nat}{t:aG}{d:aA}(hs:ai aD (c,ti,U,st,m_,Z,gr,A,nn,V,n_,l_,O,T)<=1048576)(hi:4<O.length)(f:O.getD 4 aq.aa=t)(o:t.1=6)(g:t.2.1=1)
 (p:n<T.length) (j:bm t=(n:Int)) (m:T.getD n ay.aa=d):
 kK k ((c,ti,U,st,m_,Z,gr,A,nn,V,n_,l_,O,T),())=
  some ((eX true k (c,ti,U,st,m_,Z,gr,A,nn,V,n_,l_,O,T)).2,()):=by
 have hsum:=eV hk hs;have hdl:=az (e:=ay) (l:=T);have hgl:=az (e:=al) (l:=A);have hhl:=az (e:=aE) (l:=V);have hsl:=az (e:=cw) (l:=n_);have h:decide ((0:Int)<=4/\(4:Int)<(O.length:Int))=true:=c_ ⟨by omega,by omega⟩;unfold eX;simp only[f,j,m,o,g,ed];rw[a_ (show¬(6:Int)=0 by decide),a_ (show¬(1:Int)=0 by decide)];simp only[kK,show J8 4=4 from rfl,f]
 have a:∀(A:List aw) (V:List aF) (n_:List bq) (code:Int) (got:List af),ai (.sl ae) got<=1073741824->bR k ((c,ti,U,st,m_,Z,-1,A,nn,V,n_,l_,O,T),(4:Int),code,got,())=
  some ((c,ti,U,st,m_,Z,-1,A,nn,V,n_,l_,O.set 4 zT,T.set n (oc d U ti code got)),()):=by
  intro A V n_ code got b;have:=eT (n:=n) (i:=4) (code:=code) (got:=got) (c:=c) (ti:=ti) (U:=U) (gr:= -1) (nn:=nn) (st:=st) (m_:=m_) (Z:=Z) (l_:=l_) (A:=A) (V:=V) (n_:=n_) hk hi p (by rw[f];exact j) b;rw[m]at this;exact this
 generalize hN:t.2.2.2.2.2.2.2.1=N;have hfl:=KC hk (l:=A) (n:=N) (U:=U);have hfb:=Iv hk (l:=A) (n:=N) (U:=U);have hfbt:=pK hk (gj A N U);have hfll:=az (e:=al) (l:=dm A N U);rw[an h,B6 hk (by omega),av];dsimp only;cases hb:kf A N with
 |false=>
  rw[an (by rfl),a A V n_ 6 [] (by simp[ai]),av,a_ V'];rfl
 |true=>
  rw[a_ (by simp),an (c_ (by simp only[J_];omega)),nQ hk (by omega),av,an rfl];unfold sT;cases q:dW (dm A N U) N with
  |none=>
   have hc:decide (dB (none:Option Nat)>=0)=false:=rfl;dsimp only;rw[hc,a_ V',a _ _ _ 8 _ (by omega),av];rfl
  |some i=>
   have hc:decide (dB (some i)>=0)=true:=c_ (by show(i:Int)>=0;omega);dsimp only;rw[hc,an rfl,tV hk (by omega) (by omega) q,av];dsimp only;rw[a _ _ _ 8 _ (by omega),av];rfl
set_option maxHeartbeats 8000000 in
def nP{n:Nat}{t:aG}{d:aA}(hs:ai aD (c,ti,U,st,m_,Z,gr,A,nn,V,n_,l_,O,T)<=1048576)(hi:4<O.length)(f:O.getD 4 aq.aa=t)(a:t.1=0\/t.1=6/\(t.2.1=0\/t.2.1=1))
 (s:t.1=6->n<T.length) (u:bm t=(n:Int)) (v:T.getD n ay.aa=d):
 ig k ((c,ti,U,st,m_,Z,gr,A,nn,V,n_,l_,O,T),())=
  some ((fq true k (c,ti,U,st,m_,Z,gr,A,nn,V,n_,l_,O,T)).1,(fq true k (c,ti,U,st,m_,Z,gr,A,nn,V,n_,l_,O,T)).2,()):=by
 have hsum:=eV hk hs;have hdl:=az (e:=ay) (l:=T);have hhl:=az (e:=aE) (l:=V);have j:decide ((0:Int)<=4/\(4:Int)<(O.length:Int))=true:=c_ ⟨by omega,by omega⟩;simp only[ig,aN,show J8 4=4 from rfl,f];rw[an j];unfold fq;rcases a with a|⟨a,p⟩;rw[a,an (by decide),yG hk,av];dsimp only;cases q:pz V U with
 |false=>
  have b:eX true k (c,ti,U,st,m_,Z,gr,A,nn,V,n_,l_,O,T)=(false,(c,ti,U,st,m_,Z,gr,A,nn,V,n_,l_,O,T)):=by
   unfold eX;simp only[f,a,q,if_true,D',if_false]
  rw[b];rfl
 |true=>
  have b:eX true k (c,ti,U,st,m_,Z,gr,A,nn,V,n_,l_,O,T)=(true,(c,ti,U,st,m_,Z,gr,A,nn,(dS V).1,n_,l_,O.set 4 (qH (dS V).2.1.2 T.length),T++[u7 (dS V).2.1.2 U ti])):=by
   unfold eX;simp only[f,a,q,if_true]
  have m:eN k ((6:Int),())=some (8,()):=rfl;have r:ai ae bU=0:=by rw[bj hk];rfl
  rw[b,an rfl,Ay hk (by omega),av]
  have w:=qy (i:=4) (t:=(6,0,bU,[],0,[],[],(dS V).2.1.2,0)) (o:=8) (c:=c) (ti:=ti) (U:=U) (gr:=gr) (nn:=nn) (st:=st) (m_:=m_) (Z:=Z) (l_:=l_) (A:=A) (V:=(dS V).1) (n_:=n_) (O:=O) (T:=T)
   hk hi (by omega) (by rw[Ot hk,r];omega) m (by dsimp only;rw[r];omega) (by simp)
  erw[w];rfl
 rw[a,a_ (by decide),an j];rcases p with g|g
 have b:eX true k (c,ti,U,st,m_,Z,gr,A,nn,V,n_,l_,O,T)=iy (c,ti,U,st,m_,Z,gr,A,nn,V,n_,l_,O,T) 4:=by
  unfold eX;simp only[f,a,g,if_true];rw[a_ (show¬(6:Int)=0 by decide)]
 have x:=rR (i:=4) (c:=c) (ti:=ti) (U:=U) (gr:=gr) (nn:=nn) (st:=st) (m_:=m_) (Z:=Z) (l_:=l_) (A:=A) (V:=V) (n_:=n_) (T:=T) hk hi;rw[g,an (by decide),b];erw[x];by_cases h:gr= -1;rw[an h,zL h];rfl;rw[a_ h,DV h];rfl;rw[g,a_ (by decide),Ao hk hs hi f a g (s a) u v,av]
 have b:(eX true k (c,ti,U,st,m_,Z,gr,A,nn,V,n_,l_,O,T)).1=true:=by
  unfold eX;simp only[f,a,g];rw[a_ (show¬(6:Int)=0 by decide),a_ (show¬(1:Int)=0 by decide)];split<;>rfl
 unfold bC;rw[b];rfl
end
def lZ(s:Bool)(k:Nat)(w:ah)(i:Nat):Bool×ah:=
 if(((cA w).getD i aq.aa).1=1)then ia s k w i
 else if(((cA w).getD i aq.aa).1=2\/((cA w).getD i aq.aa).1=3)then kY s k w i
 else if(((cA w).getD i aq.aa).1=4)then fu s k w i
 else if i=3 then hZ s k w
 else if i=4 then fq s k w
 else(false,w)
def gM{k:Nat}{w:ah}{t:aG}{d:aA}{i:Nat}(h:cP k w t d (i:Int)=true):
 i<=4/\(t.1=0\/((t.1=1\/t.1=2\/t.1=3\/t.1=4)/\i<3)\/(t.1=5/\i=3)\/(t.1=6/\i=4)):=by
 unfold cP cW aZ at h;grind
def GF{k:Nat}{w:ah}{t:aG}{d:aA}{i:Int}(h:cP k w t d i=true)(hp:t.1≠0):
 0<=bm t/\bm t<((bG w).length:Int)/\(dN d= -1↔¬(t.1=1/\t.2.1=2))/\0<=t.2.1/\t.2.1<=2/\(t.2.1=2->t.1=1\/t.1=3):=by
 unfold cP cW aZ at h;unfold bm dN;grind
def Ku{k:Nat}{w:ah}{t:aG}{d:aA}{i:Int}(h:cP k w t d i=true)(hp:t.1=3):
 t.2.2.1=bU/\t.2.2.2.1=[]/\t.2.2.2.2.2.2.2.1=0/\0<=t.2.2.2.2.1/\(t.2.1≠2->t.2.2.2.2.1<w.1.1)/\(t.2.1=2->(t.2.2.2.2.2.1.length:Int)=w.1.1):=by
 unfold cP cW aZ mg at h;grind
def ag6{k:Nat}{w:ah}{t:aG}{d:aA}{i:Int}(h:cP k w t d i=true)(hp:t.1=2):t.2.2.1=bU/\t.2.2.2.2.2.2.2.1=0:=by
 unfold cP cW aZ at h;grind
def Iu{k:Nat}{w:ah}{t:aG}{d:aA}{i:Int}(h:cP k w t d i=true)(hp:t.1=4):0<=t.2.2.2.2.1/\t.2.2.2.2.1<w.1.1:=by
 unfold cP cW aZ mg at h;grind
def KF{k:Nat}{w:ah}{t:aG}{d:aA}{i:Int}(h:cP k w t d i=true)(hp:t.1=5):d.2.2.1=t.2.2.1:=by
 unfold cP cW aZ mg at h;grind
def KK{k:Nat}{w:ah}(h:kc k w=true){i:Nat}(hi:i<(cA w).length):cP k w ((cA w).getD i aq.aa) (mh w ((cA w).getD i aq.aa)) (i:Int)=true:=
 bM.1 h i (by omega) hi
def Nh{k:Nat}{w:ah}(h:bE k w=true){i:Nat}(hi:i<w.2.2.2.2.2.2.2.1.length):(w.2.2.2.2.2.2.2.1.getD i al.aa).1<w.2.2.2.2.2.2.2.2.1:=by
 unfold bE at h;simp only[G7]at h;have a:=h.2.2.2.2.2.2.2.2.2.2.2.2.2;unfold fi tq at a;simp only[G7,bM]at a;have b:=a.2.2.2 i (by omega) hi;simpa using b.1.2.2
section
variable{k:Nat}(hk:9223372036854775808<=k)
include hk
set_option maxHeartbeats 8000000 in
def H6{w:ah}{i:Nat}(hs:ai aD w<=1048576)(h:bE k w=true)(hi:i<5):lq k (w,(i:Int),())=some ((lZ true k w i).1,(lZ true k w i).2,()):=by
 obtain⟨E,J,K,L⟩:=wo h;obtain⟨⟨y,_⟩,_⟩:=BC E;have b:i<(cA w).length:=by show i<w.2.2.2.2.2.2.2.2.2.2.2.2.1.length;omega
 have g:=KK L b;have u:=fun j p=>Nh h (i:=j) p;obtain⟨c,ti,U,st,m_,Z,gr,A,nn,V,n_,l_,O,T⟩:=w;dsimp only at E J K y u b;obtain⟨t,m⟩:∃t,O.getD i aq.aa=t:=⟨_,rfl⟩
 have I:∀s,lZ s k (c,ti,U,st,m_,Z,gr,A,nn,V,n_,l_,O,T) i=if t.1=1 then ia s k (c,ti,U,st,m_,Z,gr,A,nn,V,n_,l_,O,T) i
  else if t.1=2\/t.1=3 then kY s k (c,ti,U,st,m_,Z,gr,A,nn,V,n_,l_,O,T) i
  else if t.1=4 then fu s k (c,ti,U,st,m_,Z,gr,A,nn,V,n_,l_,O,T) i
  else if i=3 then hZ s k (c,ti,U,st,m_,Z,gr,A,nn,V,n_,l_,O,T)
  else if i=4 then fq s k (c,ti,U,st,m_,Z,gr,A,nn,V,n_,l_,O,T)else(false,(c,ti,U,st,m_,Z,gr,A,nn,V,n_,l_,O,T)):=by
  intro s;unfold lZ;simp only[cA,m]
 rw[I];dsimp only[cA,mh]at g;rw[m]at g;obtain⟨d,r⟩:∃d,T.getD (bm t).toNat ay.aa=d:=⟨_,rfl⟩
 change cP k _ t (T.getD (bm t).toNat ay.aa) _=true at g;rw[r]at g;have v:=gM g;simp only[lq,aN,ed,m];rw[an (aC b)];by_cases x:t.1=0;rw[x,a_ (by decide),a_ (by decide),a_ (by decide),a_ (by decide)];by_cases C:i=3;subst C
 obtain⟨n,o⟩:∃n:Nat,bm t=(n:Int):=by
  have:t=zT:=by unfold cP cW at g;grind
  exact⟨0,by rw[this];rfl⟩
 rw[an (by decide),oh (n:=n) (d:=T.getD n ay.aa) hk hs b m (.inl x) (by omega) o rfl (by omega) (fun j p=>by have:=u j p;omega),av,a_ (by decide),a_ (by decide),a_ (by decide),an rfl];by_cases D:i=4;subst D
 obtain⟨n,o⟩:∃n:Nat,bm t=(n:Int):=by
  have:t=zT:=by unfold cP cW at g;grind
  exact⟨0,by rw[this];rfl⟩
 rw[a_ (by decide),an (by decide),nP (n:=n) (d:=T.getD n ay.aa) hk hs b m (.inl x) (by omega) o rfl,av,a_ (by decide),a_ (by decide),a_ (by decide),a_ (by decide),an rfl];rw[a_ (by rw[beq_iff_eq];omega),a_ (by rw[beq_iff_eq];omega),a_ (by decide),a_ (by decide),a_ (by decide),a_ C,a_ D];obtain⟨b1,M,N,b4,b5,b6⟩:=GF g x;dsimp only[bG]at M;obtain⟨n,o⟩:∃n:Nat,bm t=(n:Int):=⟨(bm t).toNat,by omega⟩
 rw[o,ed]at r;have f:n<T.length:=by omega
 rcases v.2 with a|⟨a,q⟩|⟨a,q⟩|⟨a,q⟩;exact absurd a x;rcases a with a|a|a|a;obtain⟨j,p,z⟩:=D4 (k:=k) hk (l:=st) (s:=t.2.2.1.1) (by omega);rw[an (by rw[a];rfl),an a,Ca hk hs b m a p z f o r (by omega) (fun e B=>by rw[N]at B;exact B ⟨a,e⟩),av];obtain⟨j,p,z⟩:=D4 (k:=k) hk (l:=st) (s:=t.2.2.2.1) (by omega)
 rw[a_ (by rw[a];decide),an (by rw[a];rfl),an (by rw[a];rfl),a_ (by omega),an (.inl a),
  rQ (j:=j) hk hs b m (.inl a) (fun _=>p) (by rw[an a];exact z) (by omega) f o r (by omega),av]
 obtain⟨P,F,s3,s4,G,H⟩:=Ku g a;dsimp only at G H
 rw[a_ (by rw[a];decide),a_ (by rw[a];decide),an (by rw[a];rfl),a_ (by omega),an (.inr a),
  rQ (j:=t.2.2.2.2.1.toNat) hk hs b m (.inr a) (fun e=>by have:=G (by omega);omega) (by rw[a_ (by omega)];omega) (fun _ e=>by have:=H e;omega) f o r (by omega),av]
 obtain⟨P,F⟩:=Iu g a;dsimp only at F
 rw[a_ (by rw[a];decide),a_ (by rw[a];decide),a_ (by rw[a];decide),an (by rw[a];rfl),a_ (by omega),a_ (by omega),an a,
  B5 (j:=t.2.2.2.2.1.toNat) hk hs b m a (by omega) (by omega) f o r (by omega),av]
 subst q
 rw[a_ (by rw[a];decide),a_ (by rw[a];decide),a_ (by rw[a];decide),a_ (by rw[a];decide),an (by decide),a_ (by omega),a_ (by omega),a_ (by omega),an rfl,
  oh hk hs b m (.inr ⟨a,by omega⟩) (fun _=>f) o r (fun _=>KF g a) (fun j p=>by have:=u j p;omega),av]
 subst q
 rw[a_ (by rw[a];decide),a_ (by rw[a];decide),a_ (by rw[a];decide),a_ (by rw[a];decide),a_ (by decide),an (by decide),a_ (by omega),a_ (by omega),a_ (by omega),a_ (by decide),an rfl,
  nP hk hs b m (.inr ⟨a,by omega⟩) (fun _=>f) o r,av]
set_option maxHeartbeats 8000000 in
def adh{w:ah}{i:Nat}(hs:ai aD w<=1048576)(h:bE k w=true)(hi:i<5):vV k (w,(i:Int),())=some ((lZ false k w i).1,(lZ false k w i).2,()):=by
 obtain⟨J,P,Q,R⟩:=wo h;obtain⟨⟨v,_⟩,_⟩:=BC J;have b:i<(cA w).length:=by show i<w.2.2.2.2.2.2.2.2.2.2.2.2.1.length;omega
 have g:=KK R b;obtain⟨c,ti,U,st,m_,Z,gr,A,nn,V,n_,l_,O,T⟩:=w;dsimp only at J P Q v b;obtain⟨t,o⟩:∃t,O.getD i aq.aa=t:=⟨_,rfl⟩
 have N:∀s,lZ s k (c,ti,U,st,m_,Z,gr,A,nn,V,n_,l_,O,T) i=if t.1=1 then ia s k (c,ti,U,st,m_,Z,gr,A,nn,V,n_,l_,O,T) i
  else if t.1=2\/t.1=3 then kY s k (c,ti,U,st,m_,Z,gr,A,nn,V,n_,l_,O,T) i
  else if t.1=4 then fu s k (c,ti,U,st,m_,Z,gr,A,nn,V,n_,l_,O,T) i
  else if i=3 then hZ s k (c,ti,U,st,m_,Z,gr,A,nn,V,n_,l_,O,T)
  else if i=4 then fq s k (c,ti,U,st,m_,Z,gr,A,nn,V,n_,l_,O,T)else(false,(c,ti,U,st,m_,Z,gr,A,nn,V,n_,l_,O,T)):=by
  intro s;unfold lZ;simp only[cA,o]
 rw[N];dsimp only[cA,mh]at g;rw[o]at g;obtain⟨d,p⟩:∃d,T.getD (bm t).toNat ay.aa=d:=⟨_,rfl⟩
 change cP k _ t (T.getD (bm t).toNat ay.aa) _=true at g;rw[p]at g;have hops:=gM g;simp only[vV,ed,o]
 obtain⟨n,q⟩:∃n:Nat,bm t=(n:Int):=by
  by_cases u:t.1=0;have:t=zT:=by unfold cP cW at g;grind
  exact⟨0,by rw[this];rfl⟩;have:=(GF g u).1;exact⟨(bm t).toNat,by omega⟩
 rw[q,ed]at p;have m:=fun u=>GF g u;dsimp only[bG]at m;by_cases H:i=3;subst H;have f:t.1=0\/t.1=5:=by omega
 rw[an (by decide),a_ (by omega),a_ (by omega),a_ (by omega),an rfl,
  XN hk hs b o (by rcases f with f|f;exact .inl f;have:=m (by omega);exact .inr ⟨f,by omega⟩) (fun e=>by have:=m (by omega);omega) q p (fun e=>KF g e),av]
 by_cases I:i=4;subst I;have f:t.1=0\/t.1=6:=by omega
 rw[a_ (by decide),an (by decide),a_ (by omega),a_ (by omega),a_ (by omega),a_ (by omega),an rfl,
  Wl hk hs b o (by rcases f with f|f;exact .inl f;have:=m (by omega);exact .inr ⟨f,by omega⟩) (fun e=>by have:=m (by omega);omega) q p (fun e=>(m (by omega)).2.2.1.2 (by omega)),av]
 rw[a_ (by rw[beq_iff_eq];omega),a_ (by rw[beq_iff_eq];omega),fw hk,av,a_ (by unfold aZ;simp;omega),an (aC b)];have f:t.1=0\/t.1=1\/t.1=2\/t.1=3\/t.1=4:=by omega
 rcases f with a|a|a|a|a;rw[a,a_ (by decide),a_ (by decide),a_ (by decide),a_ (by decide),a_ (by decide),a_ H,a_ I];simp only[tK,aN,ed,o,a];rw[an (aC b)];rfl;obtain⟨j,x,y⟩:=D4 (k:=k) hk (l:=st) (s:=t.2.2.1.1) (by omega);obtain⟨z,B,r,C,D,E⟩:=m (by omega);rw[an (by rw[a];rfl),an a,ZI hk hs b o a x y (by omega) q p (by omega) (fun e G=>by rw[r]at G;exact G ⟨a,e⟩) q,av];obtain⟨j,x,y⟩:=D4 (k:=k) hk (l:=st) (s:=t.2.2.2.1) (by omega);obtain⟨z,B,r,C,D,E⟩:=m (by omega);obtain⟨S,W⟩:=ag6 g a
 rw[a_ (by rw[a];decide),a_ (by rw[a];decide),a_ (by omega),an (.inl a),
  Qf (j:=j) hk hs b o (.inl a) (fun _=>x) (by rw[an a];exact y) (by omega) (by omega) q p (by omega) (r.2 (by omega)) S (by omega) W,av]
 obtain⟨K,F,X,s4,L,M⟩:=Ku g a;obtain⟨z,B,r,C,D,E⟩:=m (by omega);dsimp only at L M
 rw[a_ (by rw[a];decide),a_ (by rw[a];decide),a_ (by omega),an (.inr a),
  Qf (j:=t.2.2.2.2.1.toNat) hk hs b o (.inr a) (fun e=>by have:=L (by omega);omega) (by rw[a_ (by omega)];omega) (fun _ e=>by have:=M e;omega) (by omega) q p (by omega) (r.2 (by omega)) K (fun _=>F) X,av]
 obtain⟨K,F⟩:=Iu g a;obtain⟨z,B,r,C,D,E⟩:=m (by omega);dsimp only at F
 rw[a_ (by rw[a];decide),an (by rw[a];rfl),a_ (by omega),a_ (by omega),an a,
  Wq (j:=t.2.2.2.2.1.toNat) hk hs b o a (by omega) (by omega) (by omega) q p (by omega),av]
end
def o9(r:Bool×ah):(bC r).1=r.1:=by
 unfold bC;split;rename_i h;exact h.symm;rfl
def ajW(k:Nat)(w:ah)(i:Nat):(lZ false k w i).1=(lZ true k w i).1:=by
 obtain⟨c,ti,U,st,m_,Z,gr,A,nn,V,n_,l_,O,T⟩:=w;unfold lZ;split;unfold ia pA;rw[o9,o9];dsimp only;split;rfl;split;split<;>rfl;rfl;split;unfold kY vd lz fx;rw[o9,o9];dsimp only;split;split;rfl;split<;>rfl;split;rfl;split;rfl;split<;>rfl;split;unfold fu qa;rw[o9,o9];dsimp only;split<;>rfl;split;unfold hZ gw;rw[o9,o9];dsimp only;split;split<;>rfl;split;rfl;split;split<;>rfl;rfl;split;unfold fq eX;rw[o9,o9];dsimp only;split;split<;>rfl;split;rfl;split<;>rfl;rfl
def Eb(s:Bool)(k:Nat)(w:ah)(i:Int):ah×Bool:=
 if(bE k w&&aZ i 0 4)=true then(if(lZ s k w i.toNat).1=true then((lZ s k w i.toNat).2,true)else(w,false))else(w,false)
section
variable{k:Nat}(hk:9223372036854775808<=k)
include hk
def abg{w:ah}{i:Int}(hi:aZ i 0 4=false):vV k (w,i,())=some (false,w,()):=by
 simp only[vV];unfold aZ at hi;simp only[Bool.and_eq_false_iff,d_]at hi;rw[a_ (by rw[beq_iff_eq];omega),a_ (by rw[beq_iff_eq];omega),fw hk,av,an (by unfold aZ;simp;omega)]
def acC{w:ah}{i:Int}(hs:ai aD w<=1048576):Of k (w,i,())=some ((Eb false k w i).1,(Eb false k w i).2,()):=by
 have b:tj k (w,())=some (w,()):=acY hk (by omega);simp only[Of,b,av,vM hk hs];unfold Eb;cases f:bE k w with
 |false=>rfl
 |true=>
  rw[an (by rfl)];cases d:aZ i 0 4 with
  |false=>
   rw[abg hk d,av];rfl
  |true=>
   have a:=d;unfold aZ at a;simp only[G7,b_]at a;have e:i=((i.toNat:Nat):Int):=by omega
   have:=adh hk hs f (i:=i.toNat) (by omega);rw[<-e]at this;rw[this,av];dsimp only;cases (lZ false k w i.toNat).1<;>rfl
def U9{w:ah}{i:Int}(hs:ai aD w<=1048576):D0 k (w,i,())=some ((Eb true k w i).2,()):=by
 simp only[D0,acC hk hs,av];unfold Eb;rw[ajW];split;split<;>rfl;rfl
end
def bJ{α:Type}{l:List α}{i:Nat}(d:α)(h:i<l.length):l.getD i d=l[i]:=by
 rw[ayy,List.getElem?_eq_getElem h];rfl
def cX{α:Type}{l:List α}{d:α}{p:α->Bool}:bA 0 l.length (fun i=>p (l.getD i d))=true↔∀x∈l,p x=true:=by
 rw[bM];constructor;intro h x b;obtain⟨i,a,e⟩:=ayK b;have:=h i (by omega) a;rwa [bJ _ a,e]at this;intro h i _ a;rw[bJ _ a];exact h _ (ayR a)
def DJ{α:Type}{r:α->α->Prop}(o:∀a b c,r a b->r b c->r a c){l:List α}{d:α}:(∀i,i<l.length->i=0\/r (l.getD (i-1) d) (l.getD i d))↔l.Pairwise r:=by
 constructor;intro h;rw[ayE];intro i j g e hij;obtain⟨m,rfl⟩:∃m,j=i+m+1:=⟨j-i-1,by omega⟩
 induction m with
 |zero=>
  rcases h (i+0+1) e with n|f;omega;rwa [show i+0+1-1=i by omega,bJ _ g,bJ _ e]at f
 |succ m q=>
  have p:=q (by omega) (by omega);rcases h (i+(m+1)+1) e with n|f;omega;rw[show i+(m+1)+1-1=i+m+1 by omega,bJ _ (show i+m+1<l.length by omega),bJ _ e]at f;exact o _ _ _ p f
 intro h i g;by_cases n:i=0;exact .inl n;rw[bJ _ g,bJ _ (show i-1<l.length by omega)];exact .inr (ayE.1 h _ _ _ _ (by omega))
def jh{α:Type}{r:α->α->Prop}{l:List α}{d:α}:(∀i,i<l.length->∀j,j<i->r (l.getD j d) (l.getD i d))↔l.Pairwise r:=by
 rw[ayE];constructor;intro h i j b a e;have:=h j a i e;rwa [bJ _ b,bJ _ a]at this;intro h i b j a;rw[bJ _ b,bJ _ (show j<l.length by omega)];exact h _ _ _ _ a
def iv{α β:Type}{f:α->β}{l:List α}{i:Nat}{x d:α}(h:f x=f (l.getD i d)):(l.set i x).map f=l.map f:=by
 by_cases a:i<l.length;rw[bJ _ a]at h;rw[List.map_set,h];apply List.ext_getElem (by simp);intro n h1 h2;rw[List.getElem_set];split
 subst_vars;simp
 rfl;rw[List.set_eq_of_length_le (by omega)]
def bz{α:Type}{l:List α}{i:Nat}{d:α}(h:i<l.length):l.getD i d∈l:=by
 rw[bJ _ h];exact ayR h
def iX{α:Type}{l:List α}{x:α}(d:α)(h:x∈l):∃i,i<l.length/\l.getD i d=x:=by
 obtain⟨i,a,e⟩:=ayK h;exact⟨i,a,by rw[bJ _ a,e]⟩
def getD_set_ne{α:Type}{l:List α}{n m:Nat}(a d:α)(h:n≠m):(l.set n a).getD m d=l.getD m d:=by
 rw[ayy,ayT h,<-ayy]
def tU{α:Type}{l:List α}{d:α}{p:α->Bool}{x:α}(a:x∈l)(b:p x=true):∃i,fv l.length (fun i=>p (l.getD i d))=some i/\i<l.length/\p (l.getD i d)=true:=by
 cases h:fv l.length (fun i=>p (l.getD i d))with
 |some i=>exact⟨i,rfl,(aR.1 h).1,(aR.1 h).2.1⟩
 |none=>
  obtain⟨i,f,e⟩:=iX d a;have:=gB.1 h i f;rw[e,b]at this;cases this
abbrev ml(l:List aP):Prop:=l.Pairwise (fun a b=>a.1<b.1)
abbrev RX(l:List af):Prop:=l.Pairwise (fun a b=>¬a.1=b.1)
def mo{k:Nat}{c:aP}:dL k c=true↔(∀a∈c.2,bh a=true/\cn k a.1=c.1)/\0<c.2.length/\RX c.2:=by
 unfold dL xK;rw[G7,G7,cX (p:=fun a=>bh a&&decide (cn k a.1=c.1)),decide_eq_true_iff,bM];refine and_congr (by simp) (and_congr Iff.rfl ?_);unfold RX;rw[<-jh (d:=ae.aa)];simp only[bM,ay0,d_];exact⟨fun h i b j e=>h i (by omega) b j (by omega) e,fun h i _ b j _ e=>h i b j e⟩
def da{k:Nat}{p:au}{q n:Int}:gl k p q n=true↔(∀c∈p.2.2,dL k c=true/\dP c.1 n=q)/\ml p.2.2/\(-1<=p.1/\p.1<=4)/\0<=p.2.1:=by
 unfold gl ml;rw[<-DJ (d:=ax.aa) (fun a b c e h2=>by omega)];have:∀j,(dL k (p.2.2.getD j ax.aa)&&(decide (dP (p.2.2.getD j ax.aa).1 n=q)&&yO p.2.2 j))=((dL k (p.2.2.getD j ax.aa)&&decide (dP (p.2.2.getD j ax.aa).1 n=q))&&yO p.2.2 j):=fun j=>(Bool.and_assoc ..).symm;simp only[this,jI,G7,aZ,decide_eq_true_iff];have e:=cX (l:=p.2.2) (d:=ax.aa) (p:=fun c=>dL k c&&decide (dP c.1 n=q));simp only[jI,G7,decide_eq_true_iff]at e;rw[e,and_assoc];refine and_congr Iff.rfl (and_congr ?_ Iff.rfl);rw[bM];simp only[yO,ay8,beq_iff_eq,decide_eq_true_iff];exact⟨fun h i f=>h i (by omega) f,fun h i _ f=>h i f⟩
def bQ{k:Nat}{l:List au}:dp k l=true↔(∀i,i<l.length->gl k (l.getD i aj.aa) (i:Int) (l.length:Int)=true)/\1<=l.length/\l.length<=3:=by
 unfold dp;rw[G7,bM];simp only[aZ,G7,decide_eq_true_iff];exact and_congr ⟨fun h i a=>h i (by omega) a,fun h i _ a=>h i a⟩ (by omega)
def I7{l:List au}{a:af}:a∈bO l↔∃p∈l,∃c∈p.2.2,a∈c.2:=by
 simp only[bO,aS,jv,V_]
/-! one part changes-/
def sQ{k:Nat}{l:List au}{j:Nat}{p:au}(h:dp k l=true)(b:gl k p (j:Int) (l.length:Int)=true):dp k (l.set j p)=true:=by
 rw[bQ]at h|-;rw[si];refine⟨fun i a=> ?_,h.2⟩;by_cases e:j=i;subst e;rw[aL _ _ a];exact b;rw[getD_set_ne _ _ e];exact h.1 i a
def Aj{α β:Type}{f:α->List β}{l:List α}{j:Nat}{x d:α}(b:j<l.length):((l.set j x).flatMap f).length+(f (l.getD j d)).length=(l.flatMap f).length+(f x).length:=by
 induction l generalizing j with
 |nil=>simp at b
 |cons a l e=>
  cases j with
  |zero=>simp only[List.set_cons_zero,ayH,ayB,List.getD_cons_zero];omega
  |succ j=>
   have:=e (j:=j) (by simpa using b);simp only[List.set_cons_succ,ayH,ayB,List.getD_cons_succ];omega
def xM{α β:Type}{f:α->List β}{l:List α}{j:Nat}{x:α}{b:β}(h:b∈(l.set j x).flatMap f):b∈l.flatMap f\/b∈f x:=by
 obtain⟨y,d,a⟩:=V_.1 h;rcases ayF d with e|rfl;exact .inl (V_.2 ⟨y,e,a⟩);exact .inr a
def count_set{l:List au}{j:Nat}{p:au}(a:j<l.length):bu (l.set j p)+(aS (l.getD j aj.aa)).length=bu l+(aS p).length:=Aj a
/-! locks-/
def Tv{k:Nat}{st:List au}{j:Nat}{x:Int}(h:dp k st=true)(a:j<st.length)(b: -1<=x/\x<=4):dp k (bL st j x)=true:=by
 refine sQ h ?_;have:=da.1 ((bQ.1 h).1 j a);exact da.2 ⟨this.1,this.2.1,b,this.2.2.2⟩
def DQ{st:List au}{j:Nat}{x:Int}:bO (bL st j x)=bO st:=by
 unfold bO bL;have:∀l:List au,l.flatMap aS=(l.map aS).flatten:=fun l=>by rw[List.flatMap_def]
 rw[this,this,iv (f:=aS) (l:=st) (i:=j) (x:=(x,(st.getD j aj.aa).2)) (d:=aj.aa) rfl]
/-! putting-/
def yQ(a b:af):(iZ a b).1=b.1:=by unfold iZ;split<;>rfl
def Jg{a b:af}(ha:bh a=true)(d:cm b=true):cm (iZ a b)=true:=by
 unfold iZ;split;unfold cm bh aZ at*
 simp only[G7,b_]at*
 refine⟨⟨⟨⟨d.1.1.1.1,?_⟩,?_⟩,d.1.2⟩,d.2⟩<;>(try split)<;>omega;exact d
def fc{a:af}(h:cm a=true):bh a=true:=by
 unfold cm at h;simp only[G7]at h;exact h.1
def vq(c:aP)(a:af):(jJ c a).1=c.1:=by unfold jJ;split<;>rfl
def I0{c:aP}{a x:af}(h:x∈(jJ c a).2):x∈c.2\/x=a\/∃b∈c.2,x=iZ b a:=by
 unfold jJ at h;split at h;rename_i i e;rcases ayF h with d|d;exact .inl d;exact .inr (.inr ⟨_,bz (aR.1 e).1,d⟩);rcases ayG.1 h with d|d;exact .inl d;exact .inr (.inl (by simpa using d))
def Jq(c:aP)(a:af):(jJ c a).2.length=c.2.length+if(eU c.2 a.1).isNone=true then 1 else 0:=by
 unfold jJ;split;rename_i i b;simp[b];rename_i b;simp[b]
def M5(c:aP)(a:af):∃x∈(jJ c a).2,x.1=a.1:=by
 unfold jJ;split;rename_i i b;exact⟨_,List.mem_set (h:=(aR.1 b).1) ..,yQ _ _⟩;exact⟨a,by simp,rfl⟩
def S1{k:Nat}{c:aP}{a:af}(h:dL k c=true)(m:cm a=true)(n:cn k a.1=c.1):dL k (jJ c a)=true:=by
 rw[mo]at h|-;obtain⟨p,h2,q⟩:=h;refine⟨fun x g=> ?_,by rw[Jq];omega,?_⟩;rw[vq];rcases I0 g with g|rfl|⟨b,s,rfl⟩;exact p x g;exact⟨fc m,n⟩;exact⟨fc (Jg (p b s).1 m),by rw[yQ];exact n⟩;unfold jJ;split;rename_i i j
 have e:(c.2.set i (iZ (c.2.getD i ae.aa) a)).map (·.1)=c.2.map (·.1):=iv (d:=ae.aa) (by
  rw[yQ];exact(by simpa using(aR.1 j).2.1:(c.2.getD i ae.aa).1=a.1).symm)
 have o:=(ayI (f:=fun x:af=>x.1) (R:=fun a b=>¬a=b)).2 q;rw[<-e]at o;exact(ayI (f:=fun x:af=>x.1) (R:=fun a b=>¬a=b)).1 o;rename_i j;refine ayO.2 ⟨q,ayL _ _,fun x g y r=> ?_⟩;obtain⟨i,l,rfl⟩:=iX ae.aa g;have:=gB.1 j i l;rw[ayD.1 r];simpa using this
def SK{l:List aP}{f:Int}(i:Nat)(h:i<iq l f):(l.getD i ax.aa).1<f:=by
 unfold iq at h;cases e:fv l.length (fun i=> !decide ((l.getD i ax.aa).1<f))with
 |none=>
  rw[e]at h;have:=gB.1 e i h;simpa using this
 |some j=>
  rw[e]at h;have:=(aR.1 e).2.2 i h;simpa using this
def SR{l:List aP}{f:Int}(h:iq l f<l.length):f<=(l.getD (iq l f) ax.aa).1:=by
 unfold iq at h|-;cases e:fv l.length (fun i=> !decide ((l.getD i ax.aa).1<f))with
 |none=>rw[e]at h;simp at h
 |some j=>
  have:=(aR.1 e).2.1;simp only[Option.getD_some];simpa using this
def MS{l:List aP}{f:Int}{x:aP}(h:ml l)(r:∀c∈l,¬c.1=f)(q:x.1=f):ml (l.take (iq l f)++[x]++l.drop (iq l f)):=by
 have g:∀c∈l.take (iq l f),c.1<f:=by
  intro c hc;obtain⟨i,p,e⟩:=ayK hc;rw[List.length_take]at p;have j:=SK (l:=l) (f:=f) i (by omega);rw[bJ _ (by omega)]at j;rw[<-e,List.getElem_take];exact j
 have n:∀c∈l.drop (iq l f),f<c.1:=by
  intro c hc;obtain⟨i,p,e⟩:=ayK hc;rw[ay4]at p;have j:=SR (l:=l) (f:=f) (by omega);rw[bJ _ (by omega)]at j;have h2:=r _ (ayR (show iq l f<l.length by omega));rw[List.getElem_drop]at e;rw[<-e];by_cases o:i=0;subst o;simp only[Nat.add_zero];omega;have:=ayE.1 h (iq l f) (iq l f+i) (by omega) (by omega) (by omega);omega
 unfold ml at*
 rw[ayO,ayO];refine⟨⟨h.sublist (List.take_sublist _ _),ayL _ _,fun a d b m=> ?_⟩,h.sublist (List.drop_sublist _ _),fun a d b m=> ?_⟩;rw[ayD.1 m,q];exact g a d;have:=n b m;rcases ayG.1 d with d|d;have:=g a d;omega;rw[ayD.1 d,q];exact this
def MP{k:Nat}{p:au}{s:List ag}(n:ml p.2.2):(eR k p s).2=true↔∃c∈p.2.2,c.1=cn k s/\∃x∈c.2,x.1=s:=by
 unfold eR;constructor;intro h;split at h;cases h;rename_i i f;split at h;cases h;rename_i j g;exact⟨_,bz (aR.1 f).1,by simpa using(aR.1 f).2.1,_,bz (aR.1 g).1,by simpa using(aR.1 g).2.1⟩;rintro⟨c,hc,e,x,t,ex⟩;obtain⟨i,u,v,w⟩:=tU (d:=ax.aa) (p:=fun c=>decide (c.1=cn k s)) hc (by simpa using e)
 have o:p.2.2.getD i ax.aa=c:=by
  obtain⟨m,y,em⟩:=iX ax.aa hc;have h4:(p.2.2.getD i ax.aa).1=c.1:=by rw[e];simpa using w
  by_cases b:i=m;rw[b];exact em;have l:=jh (d:=ax.aa).2 n;rcases Nat.lt_or_gt_of_ne b with h6|h6;have:=l m y i h6;rw[em]at this;omega;have:=l i v m h6;rw[em]at this;omega
 obtain⟨j,z,g2,g3⟩:=tU (d:=ae.aa) (p:=fun a=>decide (a.1=s)) t (by simpa using ex);have q:eY p (cn k s)=some i:=u;have r:eU c.2 s=some j:=z;simp only[q,o,r]
def K8{k:Nat}{p:au}{s:List ag}(h:(eR k p s).2=true):(eR k p s).1.1=s/\(eR k p s).1∈aS p:=by
 unfold eR at h|-;split at h;cases h;rename_i i b;split at h;cases h;rename_i j a;simp only[b,a];exact⟨by simpa using(aR.1 a).2.1,V_.2 ⟨_,bz (aR.1 b).1,bz (aR.1 a).1⟩⟩
def La{k:Nat}{p a:au}{s:List ag}(h:a.2.2=p.2.2):eR k a s=eR k p s:=by
 unfold eR eY;rw[h]
def Ak(k:Nat)(p:au)(a:af):(e9 k p a).1.2.1=IntKind.i64.wrap (p.2.1+1)/\(e9 k p a).1.1=p.1:=by
 unfold e9;split<;>exact⟨rfl,rfl⟩
def Po{k:Nat}{a:af}(d:cm a=true):dL k (cn k a.1,[a])=true:=
 mo.2 ⟨fun x b=>by rw[ayD.1 b];exact⟨fc d,rfl⟩,by simp,ayL _ _⟩
def I2{p:au}{f:Int}(h:eY p f=none):∀c∈p.2.2,¬c.1=f:=by
 intro c hc;obtain⟨i,a,rfl⟩:=iX ax.aa hc;have:=gB.1 h i a;simpa using this
def S8{k:Nat}{p:au}{a:af}{q n:Int}(h:gl k p q n=true)(m:cm a=true)(t:dP (cn k a.1) n=q)(hv:p.2.1<4611686018427387904):gl k (e9 k p a).1 q n=true:=by
 rw[da]at h|-;obtain⟨j,s,v,h4⟩:=h;have e:=Ak k p a;refine⟨?_,?_,by rw[e.2];exact v,by rw[e.1,wrap64 (by omega) (by omega)];omega⟩;intro c hc;unfold e9 at hc;split at hc;rename_i i g;rcases ayF hc with hc|rfl;exact j c hc;have l:(p.2.2.getD i ax.aa).1=cn k a.1:=by simpa using(aR.1 g).2.1
 have o:=j _ (bz (d:=ax.aa) (aR.1 g).1);exact⟨S1 o.1 m l.symm,by rw[vq];exact o.2⟩;rcases ayG.1 hc with hc|hc;rcases ayG.1 hc with hc|hc;exact j c (ayU hc);rw[ayD.1 hc];exact⟨Po m,t⟩;exact j c (ayV hc);unfold e9;split;rename_i i g;have u:(p.2.2.set i (jJ (p.2.2.getD i ax.aa) a)).map (·.1)=p.2.2.map (·.1):=iv (d:=ax.aa) (vq _ _);have r:=(ayI (f:=fun x:aP=>x.1) (R:=fun a b=>a<b)).2 s;rw[<-u]at r;exact(ayI (f:=fun x:aP=>x.1) (R:=fun a b=>a<b)).1 r;rename_i g;exact MS s (I2 g) rfl
def Qx{k:Nat}{p:au}{a x:af}(h:x∈aS (e9 k p a).1):x∈aS p\/x=a\/∃b∈aS p,x=iZ b a:=by
 obtain⟨c,hc,d⟩:=V_.1 h;unfold e9 at hc;split at hc;rename_i i f;rcases ayF hc with hc|rfl;exact .inl (V_.2 ⟨c,hc,d⟩);have e:p.2.2.getD i ax.aa∈p.2.2:=bz (aR.1 f).1;rcases I0 d with d|d|⟨b,g,d⟩;exact .inl (V_.2 ⟨_,e,d⟩);exact .inr (.inl d);exact .inr (.inr ⟨b,V_.2 ⟨_,e,g⟩,d⟩);rcases ayG.1 hc with hc|hc;rcases ayG.1 hc with hc|hc;exact .inl (V_.2 ⟨c,ayU hc,d⟩);rw[ayD.1 hc]at d;exact .inr (.inl (by simpa[jv]using d));exact .inl (V_.2 ⟨c,ayV hc,d⟩)
def Qw{k:Nat}{p:au}{a:af}:(aS (e9 k p a).1).length=(aS p).length+if(e9 k p a).2=true then 1 else 0:=by
 unfold aS e9;split;rename_i i b;have:=Aj (f:=jv) (l:=p.2.2) (j:=i) (x:=jJ (p.2.2.getD i ax.aa) a) (d:=ax.aa) (aR.1 b).1;simp only[jv,Jq]at this|-;omega
 have:(p.2.2.flatMap jv).length=((p.2.2.take (iq p.2.2 (cn k a.1))).flatMap jv).length+((p.2.2.drop (iq p.2.2 (cn k a.1))).flatMap jv).length:=by
  rw[<-ayB,<-ayW,List.take_append_drop]
 simp only[ayW,ayB,this];simp[jv];omega
def MR{k:Nat}{p:au}{a:af}:∃c∈(e9 k p a).1.2.2,c.1=cn k a.1/\∃x∈c.2,x.1=a.1:=by
 unfold e9;split;rename_i i b;refine⟨_,List.mem_set (h:=(aR.1 b).1) ..,?_,M5 _ _⟩;rw[vq];simpa using(aR.1 b).2.1;exact⟨(cn k a.1,[a]),by simp,rfl,a,by simp,rfl⟩
def fI{k:Nat}{st:List au}(h:dp k st=true):st.length≠0:=by have:=(bQ.1 h).2;omega
def iG{k:Nat}{st:List au}{s:List ag}(h:st.length≠0):(bg k st s).toNat<st.length/\((bg k st s).toNat:Int)=bg k st s:=by
 have:=xB (f:=cn k s) (n:=(st.length:Int)) (by omega);unfold bg;omega
def vn{k:Nat}{st:List au}{a:af}(h:st.length≠0):dn k st a=(st.set (bg k st a.1).toNat (e9 k (st.getD (bg k st a.1).toNat aj.aa) a).1,(e9 k (st.getD (bg k st a.1).toNat aj.aa) a).2):=by
 unfold dn;rw[a_ h]
def LR{k:Nat}{st:List au}{a:af}(h:dp k st=true)(g:cm a=true)(q:∀p∈st,p.2.1<4611686018427387904):
 dp k (dn k st a).1=true/\(dn k st a).1.length=st.length/\bu (dn k st a).1=bu st+(if(dn k st a).2=true then 1 else 0)/\
 (bD k (dn k st a).1 a.1).2=true/\((∀x∈bO st,cm x=true)->∀x∈bO (dn k st a).1,cm x=true):=by
 have j:=fI h;obtain⟨e,t⟩:=iG (k:=k) (s:=a.1) j;rw[vn j];have r:=(bQ.1 h).1 _ e;have m:=S8 r g (by rw[t];rfl) (q _ (bz e));refine⟨sQ h m,by simp,?_,?_,?_⟩;have:=count_set (l:=st) (p:=(e9 k (st.getD (bg k st a.1).toNat aj.aa) a).1) e;have:=Qw (k:=k) (p:=st.getD (bg k st a.1).toNat aj.aa) (a:=a);dsimp only;omega;unfold bD;rw[a_ (by simpa using j),show bg k (st.set (bg k st a.1).toNat (e9 k (st.getD (bg k st a.1).toNat aj.aa) a).1) a.1=bg k st a.1 by unfold bg;rw[si],aL _ _ e];exact(MP (da.1 m).2.1).2 MR;intro f x d;rcases xM d with d|d;exact f x d;have n:∀y∈aS (st.getD (bg k st a.1).toNat aj.aa),y∈bO st:=fun y o=>V_.2 ⟨_,bz e,o⟩;rcases Qx d with d|rfl|⟨b,u,rfl⟩;exact f x (n x d);exact g;exact Jg (fc (f b (n b u))) g
def zH{k:Nat}{st:List au}{s:List ag}(h:(bD k st s).2=true):(bD k st s).1.1=s/\(bD k st s).1∈bO st:=by
 unfold bD at h|-;split at h;cases h;rename_i a;rw[a_ a];have:=K8 h;exact⟨this.1,V_.2 ⟨_,bz (iG a).1,this.2⟩⟩
def Ld{k:Nat}{st a:List au}{s:List ag}(b:a.length=st.length)(h:(a.getD (bg k st s).toNat aj.aa).2.2=(st.getD (bg k st s).toNat aj.aa).2.2):bD k a s=bD k st s:=by
 unfold bD;rw[b,show bg k a s=bg k st s by unfold bg;rw[b],La h]
def QO{k:Nat}{p:au}{a:af}(hp:ml p.2.2):(e9 k p a).2= !(eR k p a.1).2:=by
 unfold e9 eR;cases h:eY p (cn k a.1)with
 |none=>rfl
 |some i=>cases b:eU (p.2.2.getD i ax.aa).2 a.1<;>simp only[b]<;>rfl
def Kn{k:Nat}{st:List au}{a:af}(h:dp k st=true):(dn k st a).2= !(bD k st a.1).2:=by
 have b:=fI h;obtain⟨d,h2⟩:=iG (k:=k) (s:=a.1) b;rw[vn b];unfold bD;rw[a_ b];exact QO (da.1 ((bQ.1 h).1 _ d)).2.1
/-! sweeping-/
def yB{U:Int}{l:List af}{a:af}:a∈dh U l->a∈l:=by
 unfold dh;intro h;exact(ay9.1 h).1
def Qg{k:Nat}{U:Int}{c:aP}(h:dL k c=true)(d:0<(fX U c).2.length):dL k (fX U c)=true:=by
 rw[mo]at h|-;refine⟨fun a b=>h.1 a (yB b),d,?_⟩;unfold fX dh;exact h.2.2.filter _
def Ki{U:Int}{l:List aP}{c:aP}(h:c∈jf U l):0<c.2.length/\∃b∈l,c=fX U b:=by
 unfold jf at h;obtain⟨a,d⟩:=ay9.1 h;obtain⟨b,f,e⟩:=List.mem_map.1 a;exact⟨by simpa using d,b,f,e.symm⟩
def Ql{U:Int}{l:List aP}(h:ml l):ml (jf U l):=by
 unfold jf ml;refine List.Pairwise.filter _ ?_;exact ayI.2 h
def O5{k:Nat}{p:au}{U q n:Int}(h:gl k p q n=true)(hv:p.2.1<4611686018427387904):gl k (dR p U) q n=true:=by
 rw[da]at h|-;obtain⟨a,e,f,g⟩:=h;refine⟨fun c hc=> ?_,Ql e,f,?_⟩;obtain⟨j,b,d,rfl⟩:=Ki hc;exact⟨Qg (a b d).1 j,(a b d).2⟩;unfold dR;dsimp only;split;rw[wrap64 (by omega) (by omega)];omega;exact g
def Kb(U:Int)(l:List af):(dh U l).length+(gD U l).length=l.length:=by
 unfold dh gD
 induction l with
 |nil=>rfl
 |cons a l b=>
  simp only[ay5];by_cases h:a.2.2.1<=U;simp[h]at b|-;omega;simp[h]at b|-;omega
def Pn(U:Int)(l:List aP):(jf U l).flatMap jv=l.flatMap fun c=>dh U c.2:=by
 unfold jf
 induction l with
 |nil=>rfl
 |cons c l a=>
  simp only[List.map_cons,ay5,ayH];by_cases h:(0:Nat)<(fX U c).2.length;simp only[c_ h,if_true,ayH,a];rfl;simp only[decide_eq_false h,D',if_false,a];have:dh U c.2=[]:=List.eq_nil_of_length_eq_zero (by unfold fX at h;simpa using h);rw[this];rfl
def zP(p:au)(U:Int):(aS (dR p U)).length+(dg U p.2.2).length=(aS p).length:=by
 unfold aS dR dg;simp only[Pn]
 induction p.2.2 with
 |nil=>rfl
 |cons c l a=>
  simp only[ayH,ayB,jv]at a|-;have:=Kb U c.2;omega
def OD{p:au}{U:Int}{a:af}(h:a∈aS (dR p U)):a∈aS p:=by
 obtain⟨c,hc,d⟩:=V_.1 h;obtain⟨g1,b,e,rfl⟩:=Ki hc;exact V_.2 ⟨b,e,yB d⟩
def MA{k:Nat}{p:au}{U q n:Int}(h:gl k p q n=true)(d:¬0<(dg U p.2.2).length):dR p U=p:=by
 have f:=(da.1 h).1;unfold dR;rw[a_ d]
 have j:∀c∈p.2.2,fX U c=c:=by
  intro c hc
  have l:gD U c.2=[]:=by
   refine List.eq_nil_iff_forall_not_mem.2 fun a e=>d ?_;exact List.length_pos_of_mem (V_.2 ⟨c,hc,e⟩)
  have b:=Kb U c.2;rw[l]at b
  have m:dh U c.2=c.2:=by
   unfold dh at b|-;exact(List.filter_sublist).eq_of_length (by simpa using b)
  unfold fX;rw[m]
 have:jf U p.2.2=p.2.2:=by
  unfold jf;rw[List.map_congr_left (g:=id) (fun c hc=>j c hc),List.map_id];refine List.filter_eq_self.2 fun c hc=> ?_;simpa using(mo.1 (f c hc).1).2.1
 rw[this]
def pO(k:Nat)(ti:Int)(l:List aA):Prop:=∀d∈l,eQ k d=true/\d.2.2.2.2.2.2.2.2.2.1<ti/\d.2.2.2.2.2.2.2.2.2.2.1<ti/\d.2.2.2.2.2.2.2.2.2.2.2<ti
structure xN(k:Nat)(c:aY)(st:List au):Prop where
 ok:dp k st=true
 len:(st.length:Int)=c.1
 cap:(bu st:Int)<=c.2.1
 fit:∀a∈bO st,cm a=true
structure vC(c:aY)(m_:List bo)(Z l_:List af):Prop where
 len:(m_.length:Int)=c.2.2.1
 sub:∀s∈m_,fp s=true
 fee:∀a∈Z,bh a=true
 sai:∀a∈l_,bh a=true
structure pP(k:Nat)(st:List au)(O:List aG)(gr:Int):Prop where
 pt:∀q,q<st.length->∀j,j<5->(aV k (O.getD j aq.aa) st.length=(q:Int)↔(st.getD q aj.aa).1=(j:Int))
 gp:∀j,j<5->(bN (O.getD j aq.aa)=true↔gr=(j:Int))
 gr: -1<=gr/\gr<=4
structure rq(c:aY)(U:Int)(A:List aw)(nn:Int)(V:List aF)(t4:aG):Prop where
 go:dQ A c.2.2.2.2.2=true
 ho:lj V=true
 tm:∀x∈V,x.2<nn
 ap:V.Pairwise (fun a b=>¬a.2=b.2)
 td:∀g∈A,g.2.2.1<=U/\g.2.2.2.1<=U/\g.1<nn/\((∃x∈V,x.2=g.1/\x.1=ik c g)\/(t4.1=6/\t4.2.2.2.2.2.2.2.1=g.1))
def qd(k:Nat)(c1:Int)(st:List au)(nn:Int)(t:aG)(d:aA):Bool:=
 if t.1=1 then
  decide (d.1=1)&&(if t.2.1=2 then decide (d.2.2.1.1=t.2.2.1.1)&&(bD k st t.2.2.1.1).2&&decide ((bD k st t.2.2.1.1).1=t.2.2.1)else decide (d.2.2.1=t.2.2.1)&&cm t.2.2.1)
 else if t.1=2 then decide (d.1=3)&&decide (d.2.2.2.1=t.2.2.2.1)
 else if t.1=3 then decide (d.1=4)&&((if t.2.1=2 then decide ((t.2.2.2.2.2.1.length:Int)=c1)else decide (t.2.2.2.2.1<c1))&&dG st t)
 else if t.1=4 then decide (d.1=6)&&decide (t.2.2.2.2.1<c1)
 else if t.1=5 then decide (d.1=7)&&decide (d.2.2.1=t.2.2.1)
 else decide (d.1=8)&&(decide (d.2.2.2.2.2.1=t.2.2.2.2.2.2.2.1)&&decide (t.2.2.2.2.2.2.2.1<nn))
def bS(k:Nat)(c1:Int)(st:List au)(nn m:Int)(t:aG)(d:aA)(n:Int):Bool:=
 cW t n&&(decide (t.1=0)||(decide (t.2.2.2.2.2.2.2.2<m)&&(decide (d.2.1=n)&&decide (d.2.2.2.2.2.2.2.2.2.2.2= -1)&&
  decide ((¬d.2.2.2.2.2.2.2.2.2.2.1= -1)↔(t.1=1/\t.2.1=2))&&qd k c1 st nn t d)))
def Rz(k:Nat)(c1:Int)(st:List au)(nn:Int)(O:List aG)(T:List aA):Prop:=
 ∀i,i<5->bS k c1 st nn (T.length:Int) (O.getD i aq.aa) (T.getD (bm (O.getD i aq.aa)).toNat ay.aa) (i:Int)=true
structure Rt(k:Nat)(c:aY)(ti U:Int)(st:List au)(m_:List bo)(Z:List af)(gr:Int)(A:List aw)(nn:Int)(V:List aF)(l_:List af)
 (O:List aG) (T:List aA):Prop where
 cf:cY c=true
 ti0:0<=ti
 nn0:0<=nn
 nw:0<=U/\U<=99899
 sto:xN k c st
 sub:vC c m_ Z l_
 dee:pO k ti T
 tl:O.length=5
 tas:Rz k c.1 st nn O T
 loc:pP k st O gr
 grp:rq c U A nn V (O.getD 4 aq.aa)
def Ju{l:List af}{a:af}:a∈dC l↔a∈l:=by
 unfold dC;exact(mi cV l).mem_iff
def S7{α:Type}{l:List α}{d:α}{p:α->Bool}:(!bA 0 l.length (fun i=> !p (l.getD i d)))=true↔∃x∈l,p x=true:=by
 rw[ay0,<-Bool.not_eq_true,cX (p:=fun x=> !p x)];simp
def Oz{c:aY}{ti U gr nn:Int}{st:List au}{m_:List bo}{Z l_:List af}{A:List aw}{V:List aF}{n_:List bq}{O:List aG}{T:List aA}:
 fi (c,ti,U,st,m_,Z,gr,A,nn,V,n_,l_,O,T)=true↔rq c U A nn V (O.getD 4 aq.aa):=by
 unfold fi qO tq;simp only[G7]
 rw[jI,G7,cX (l:=V) (d:=aE.aa) (p:=fun x=>decide (x.2<nn)),
  cX (l:=A) (d:=al.aa) (p:=fun g=>(decide (g.2.2.1<=U)&&(decide (g.2.2.2.1<=U)&&decide (g.1<nn)))&&fM (c,ti,U,st,m_,Z,gr,A,nn,V,n_,l_,O,T) g V.length)]
 have b:∀g:aw,fM (c,ti,U,st,m_,Z,gr,A,nn,V,n_,l_,O,T) g V.length=true↔((∃x∈V,x.2=g.1/\x.1=ik c g)\/((O.getD 4 aq.aa).1=6/\(O.getD 4 aq.aa).2.2.2.2.2.2.2.1=g.1)):=by
  intro g;unfold fM Bu;rw[ay8];refine or_congr ?_ ?_;refine(S7 (l:=V) (d:=aE.aa) (p:=fun x=>decide (x.2=g.1)&&decide (x.1=ik c g))).trans ?_;simp only[G7,b_];dsimp only;split;rename_i h;simp only[b_]at h|-;exact⟨fun a=>⟨h,a⟩,fun a=>a.2⟩;rename_i h;simp only[b_]at h|-;exact⟨fun a=>(by cases a),fun a=>absurd a.1 h⟩
 constructor;rintro⟨a,q,⟨r,e⟩,s⟩;refine⟨a,q,fun x f=>e_ (r x f),?_,fun g m=> ?_⟩;rw[<-jh (d:=aE.aa)];intro i n j o;have:=bM.1 (bM.1 e i (by omega) n) j (by omega) o;simpa using this;have:=s g m;simp only[G7,b_,b]at this;exact⟨this.1.1,this.1.2.1,this.1.2.2,this.2⟩;rintro⟨a,q,r,e,s⟩;refine⟨a,q,⟨fun x f=>c_ (r x f),?_⟩,fun g m=> ?_⟩;rw[<-jh (d:=aE.aa)]at e;refine bM.2 fun i _ n=>bM.2 fun j _ o=> ?_;simpa using e i n j o;have:=s g m;simp only[G7,b_,b];exact⟨⟨this.1,this.2.1,this.2.2.1⟩,this.2.2.2⟩
def GC{k:Nat}{c:aY}{ti U gr nn:Int}{st:List au}{m_:List bo}{Z l_:List af}{A:List aw}{V:List aF}{n_:List bq}{O:List aG}{T:List aA}(g:O.length=5):
 oI k (c,ti,U,st,m_,Z,gr,A,nn,V,n_,l_,O,T)=true↔pP k st O gr:=by
 unfold oI qu A3;simp only[G7,bM,beq_iff_eq,g,aZ,b_,decide_eq_decide];constructor;rintro⟨d,e,f⟩;exact⟨fun q b j a=>d q (by omega) b j (by omega) a,fun j a=>by have:=e j (by omega) a;rw[this];simp,f⟩;rintro⟨d,e,f⟩;refine⟨fun q _ b j _ a=>d q b j a,fun j _ a=> ?_,f⟩;rw[Bool.eq_iff_iff,e j a];simp
def bF{k:Nat}{c:aY}{ti U gr nn:Int}{st:List au}{m_:List bo}{Z l_:List af}{A:List aw}{V:List aF}{n_:List bq}{O:List aG}{T:List aA}:
 bE k (c,ti,U,st,m_,Z,gr,A,nn,V,n_,l_,O,T)=true↔Rt k c ti U st m_ Z gr A nn V l_ O T:=by
 unfold bE lg oH kc bI tC;simp only[G7,b_,Oz]
 rw[cX (d:=ae.aa) (p:=cm),cX (d:=ae.aa) (p:=bh),cX (d:=ae.aa) (p:=bh),cX (d:=aW.aa) (p:=fp),
  cX (l:=T) (d:=ay.aa) (p:=fun d=>mZ k (c,ti,U,st,m_,Z,gr,A,nn,V,n_,l_,O,T) d)]
 have r:aZ U 0 99899=true↔0<=U/\U<=99899:=by unfold aZ;simp
 have s:(∀d∈T,mZ k (c,ti,U,st,m_,Z,gr,A,nn,V,n_,l_,O,T) d=true)↔pO k ti T:=by
  unfold pO mZ;simp only[G7,b_]
 have t:(∀a∈dC (bO st),cm a=true)↔∀a∈bO st,cm a=true:=by
  constructor;intro h a e;exact h a (Ju.2 e);intro h a e;exact h a (Ju.1 e)
 have q:∀b:O.length=5,bA 0 O.length (fun i=>cP k (c,ti,U,st,m_,Z,gr,A,nn,V,n_,l_,O,T) (O.getD i aq.aa) (mh (c,ti,U,st,m_,Z,gr,A,nn,V,n_,l_,O,T) (O.getD i aq.aa)) i)=true↔Rz k c.1 st nn O T:=by
  intro b;rw[bM,b];exact⟨fun h i f=>h i (by omega) f,fun h i _ f=>h i f⟩
 rw[r,s,t];constructor;rintro⟨g,j,m,n,⟨o,h6,h7,h8⟩,h9,rO,zt,mS,Dc,Mf,Gp,Pj,OC⟩;have b:O.length=5:=by omega
 exact⟨g,j,m,n,⟨o,h6,h7,h8⟩,⟨h9,Dc,zt,mS⟩,Mf,b,(q b).1 Gp,(GC b).1 Pj,OC⟩;rintro⟨g,j,m,n,⟨o,h6,h7,h8⟩,⟨h9,Dc,zt,mS⟩,Mf,b,Gp,Pj,OC⟩;exact⟨g,j,m,n,⟨o,h6,h7,h8⟩,h9,by show(O.length:Int)=5;omega,zt,mS,Dc,Mf,(q b).2 Gp,(GC b).2 Pj,OC⟩
end Vg.Tryz
