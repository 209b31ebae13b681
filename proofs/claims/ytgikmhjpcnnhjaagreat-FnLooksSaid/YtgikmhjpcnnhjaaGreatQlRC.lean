/- Texts of this law, joined. -/
import Derived.Test.YtgikmhjpcnnhjaaGreatQlPT
import Derived.Test.YtgikmhjpcnnhjaaGreatZd
import Derived.Test.YtgikmhjpcnnhjaaGreatQlE6
set_option linter.unusedSimpArgs false
set_option linter.unusedVariables false
set_option linter.unusedSectionVars false
set_option linter.defProp false
open Option renaming bind_some -> ava
open Bool renaming and_eq_true -> f_,or_eq_true -> sd,false_eq_true -> avm,not_eq_true' -> avu,false_ne_true -> avE,not_eq_true -> av0,not_false -> av3,and_assoc -> av4
open List renaming getD_eq_getElem?_getD -> G6,mem_singleton -> si,mem_flatMap -> x_,mem_append -> y_,length_append -> G9,length_singleton -> V',pairwise_map -> O',mem_or_eq_of_mem_set -> avl,pairwise_singleton -> avn,length_set -> W_,pairwise_append -> avq,pairwise_iff_getElem -> avr,getElem_of_mem -> avs,getElem?_append_right -> avt,flatMap_cons -> avw,getElem?_append_left -> avy,getElem_take -> avz,getElem_mem -> avA,mem_of_mem_take -> avB,mem_of_mem_drop -> avC,set_set -> avF,all_eq_true -> avG,flatMap_def -> avH,length_take -> avI,mem_filter -> avJ,take_append_drop -> avK,getElem?_set_ne -> avL,getD_cons_zero -> avM,getD_cons_succ -> avN,flatMap_append -> avO,set_cons_zero -> avQ,getElem_drop -> avT,take_sublist -> avU,drop_sublist -> avV,length -> avW,ext_getElem -> avX,length_drop -> avY,filter_cons -> avZ
open Int renaming toNat_natCast -> z_,le_refl -> I_,toNat -> P_,tmod_lt_of_pos -> avP,tmod_nonneg -> av1
open Nat renaming le_refl -> avx,lt_or_gt_of_ne -> avR,le_trans -> avS,strongRecOn -> av2
open Iff renaming rfl -> avD
namespace Vg.Tryz
open Go Vg
def jm(i j:Int)(got:List ae):ay:=(5,i,c9,[],j,0,8,got,0,0,0,0)
def xu(s:Bool)(k:Nat)(w:af)(i:Nat):Bool×af:=
 match w with
 |(c,ti,M,st,V,T,gr,D,nn,Q,Z,U,A,E)=>
  let t:=A.getD i ah.aa
  let n:=(bn t).toNat
  let j:=t.2.2.2.2.1.toNat
  let d:=E.getD n aw.aa
  let p:=st.getD j aj.aa
  if t.2.1=0 then ey w i j
  else(true,(c,ti,M,st.set j (-1,(gj p M).2),V,T,gr,D,nn,Q,Z,U,
   A.set i (if j+1=st.length then zT else(t.1,0,t.2.2.1,t.2.2.2.1,((j+1:Nat):Int),t.2.2.2.2.2)),
   if j+1=st.length then(E++[jh (jm i j (e9 M p.2.2)) M ti ti ti]).set n (eC s false d M ti 8 [])else E++[jh (jm i j (e9 M p.2.2)) M ti ti ti]))
def iR(s:Bool)(k:Nat)(w:af)(i:Nat):Bool×af:=bX (xu s k w i)
section
variable{k:Nat}(O:9223372036854775808<=k)
include O
variable{c:bw}{ti M gr nn:Int}{st:List aq}{V:List bp}{T U:List ae}{D:List ar}{Q:List aI}{Z:List bE}{A:List aA}{E:List ay}
def adw{M:Int}(l:List aR):ag (.sl ab) (e9 M l)<=ag (.sl az) l:=
 oB O (e:=az) (f:=ab) (g:=λc=>ni M c.2) (λx=>by
  have h1:=dj O x;have h2:=I4 O (M:=M) (l:=x.2);omega) l
set_option maxHeartbeats 8000000 in
def Nf{i n j:Nat}{t:aA}{d:ay}(hs:ag aN (c,ti,M,st,V,T,gr,D,nn,Q,Z,U,A,E)<=1048576)(hi:i<A.length)(b:A.getD i ah.aa=t)(p:t.1=4)
 (h:t.2.2.2.2.1=(j:Int)) (a:j<st.length) (q:n<E.length) (m:bn t=(n:Int)) (o:E.getD n aw.aa=d) (f:t.2.1=0\/t.2.1=1):
 n9 k ((c,ti,M,st,V,T,gr,D,nn,Q,Z,U,A,E),(i:Int),())=
  some ((iR true k (c,ti,M,st,V,T,gr,D,nn,Q,Z,U,A,E) i).1,(iR true k (c,ti,M,st,V,T,gr,D,nn,Q,Z,U,A,E) i).2,()):=by
 have hsum:=iX O hs;have hdl:=au (e:=aw) (l:=E);have hstl:=au (e:=aj) (l:=st);have hpj:=dQ (e:=aj) (d:=aj.aa) a;have hgl:=adw O (M:=M) (st.getD j aj.aa).2.2;have hpp:=cM O (st.getD j aj.aa);unfold iR xu;simp only[b,m,o,h,z_];simp only[n9,z_,b,h,fu,aO,cF,gC];rw[an (ax hi),an (ax hi)];rcases f with g|g;rw[g,an (by decide),u7 O hi a,an rfl];unfold ey bX;simp only[b,p];split<;>simp[cG,tick];rw[g,a_ (by decide),an (ax a),OH O (by omega),ava,an (ax a),iL O (by dsimp only;omega),ava];dsimp only;rw[YH O (by omega),ava];simp only[avF,aT _ _ hi,aT _ _ a,W_,b];rw[a_ (show¬(1:Int)=0 by decide),an (ax hi),an (ax hi),aY (by omega)];by_cases e:j+1=st.length;rw[an (c_ (by omega)),an e,an e];rw[iy (n:=n) O (by rw[W_];exact hi) (by rw[G9,V'];omega) (by rw[aT _ _ hi];exact m) (by simp[ag]),ava,Ax _ _ q,o,avF];rfl;rw[a_ (by simp;omega),a_ e,a_ e];rfl
end
section
variable{k:Nat}(O:9223372036854775808<=k)
include O
theorem LB{b:List Int}(g:b.length<=1048576):Dr (nP k (b,())) (λr=>aS r.1):=by
 simp only[nP];refine DE (λs=>s.1=b) (λs d=>bB ⟨by rw[d];exact g,by simp,by simp⟩) (λJ f=> ?_);refine y6 (λs=>b.length-s.2.2.1.toNat) (λs=>s.1=b/\0<=s.2.2.1/\s.2.2.1<=(b.length:Int)) ?_ ⟨rfl,by simp,by simp⟩ (by simp only;omega);rintro G ⟨s,h,i,u⟩ ⟨e,h0,h1⟩ hG;change s=b at e;change 0<=i at h0;change i<=(b.length:Int)at h1;subst e;dsimp only;refine bD (λhc=> ?_) (λhc=>f _ rfl)
 have a:i<(s.length:Int):=by
  by_cases a:i<(s.length:Int);exact a;simp[a]at hc
 refine ff (by simp;omega) (hG _ ⟨rfl,?_,?_⟩ ?_)<;>(dsimp only;rw[wrap64 (by omega) (by omega)];omega)
theorem AU{c:aD}(hc:aS c):Dr (kz k (c,())) (λr=>aS r.2.1/\0<=r.1/\r.1<=255):=by
 obtain⟨b,i,h⟩:=c;obtain⟨d,e,f⟩:=hc;dsimp only at d e f;simp only[kz];refine ff (by decide) (ff (by decide) ?_);refine bD (λa=> ?_) (λa=> ?_);have a:i<(b.length:Int):=by simpa using a
 refine ff (by simp;omega) (bB ⟨⟨d,?_,?_⟩,adI _⟩)<;>(dsimp only;rw[wrap64 (by omega) (by omega)];omega)
 exact bB ⟨⟨d,e,f⟩,adI _⟩
def aQ{c:aD}{n:Int}(hc:aS c):Dr (aH k (c,n,())) (λr=>aS r.2.1/\0<=r.1/\(r.1<n\/r.1=0)):=by
 simp only[aH];refine bD (λa=>bB ⟨hc,by simp,by simp⟩) (λa=> ?_);have a:0<n:=by simpa using a
 refine bD (λf=> ?_) (λf=> ?_);refine aV (AU O hc) (λr b=>ff (by simp;omega) (bB ⟨b.1,?_,.inl ?_⟩));exact av1 _ b.2.1;exact avP _ a;refine aV (AU O hc) (λr b=>aV (AU O b.1) (λg d=>aV (AU O d.1) (λr3 e=>ff (by simp;omega) (bB ⟨e.1,?_,.inl ?_⟩))));refine av1 _ ?_;have h1:=b.2;have h2:=d.2;have h3:=e.2;rw[wrap64 (n:=r.1*65536) (by omega) (by omega),wrap64 (n:=g.1*256) (by omega) (by omega),wrap64 (n:=r.1*65536+g.1*256) (by omega) (by omega),wrap64 (by omega) (by omega)];omega;exact avP _ a
def jQ{c:aD}{n:Int}(hc:aS c):Dr (dt k (c,n,())) (λr=>aS r.2.1):=by
 simp only[dt];exact aV (aQ O hc) (λr a=>bB a.1)
def Yp{c:aD}{l:List Int}(hc:aS c)(hl:0<l.length):Dr (bo k (c,l,())) (λr=>aS r.2.1/\r.1∈l):=by
 simp only[bo];refine aV (aQ O hc) (λr a=>ff (by simp;omega) (bB ⟨a.1,?_⟩));exact cY (by omega)
def agv{c:aD}{l:List ByteArray}(hc:aS c)(hl:0<l.length):Dr (gV k (c,l,())) (λr=>aS r.2.1/\r.1∈l):=by
 simp only[gV];refine aV (aQ O hc) (λr a=>ff (by simp;omega) (bB ⟨a.1,?_⟩));exact cY (by omega)
end
def abL(l:List ae)(s:List ai):Option Nat:=iB l.length (λi=>decide ((l.getD i ab.aa).1=s))
def kK(l:List ae)(s:List ai):Nat:=(iB l.length (λi=>bN s (l.getD i ab.aa).1)).getD l.length
def jU(l:List ae)(a:ae):List ae:=
 match abL l a.1 with
 |some i=>l.set i a
 |none=>l.take (kK l a.1)++[a]++l.drop (kK l a.1)
def nx(g:ar)(a:ae):ar:=(g.1,g.2.1,g.2.2.1,g.2.2.2.1,jU g.2.2.2.2 a)
def ZC{α:Type}(l:List ae)(s:List ai)(f:Nat->α):(match iB l.length (λi=>bN s (l.getD i ab.aa).1)with|some i=>f i|none=>f l.length)=f (kK l s):=by
 unfold kK;cases iB l.length (λi=>bN s (l.getD i ab.aa).1)<;>rfl
section
variable{k:Nat}(O:9223372036854775808<=k)
include O
def MZ{l:List ae}{i:Nat}(h:ag (.sl ab) l<=1073741824):db k (l.take i,())=some (l.take i,()):=
 iL O (by have:=dH (e:=ab) l i;omega)
def Fi{l:List ae}{i:Nat}(h:ag (.sl ab) l<=1073741824):db k (l.drop i,())=some (l.drop i,()):=
 iL O (by have:=dH (e:=ab) l i;omega)
def Di{g:ar}{a:ae}(hg:ag ak g<=1048576)(ha:ag ab a<=1048576):pj k (g,a,())=some (nx g a,()):=by
 have h1:=di O g;have h2:=au (e:=ab) (l:=g.2.2.2.2);have h3:=bG O a;have h4:=au (e:=al) (l:=a.1);simp only[pj,aO];rw[EF O (by omega),ava,er O (by omega),ava]
 refine(mT (λi:Nat=>(g,a,(0,([]:List ai),0,0,([]:List ae)),g,a,(i:Int),())) (λi=>decide ((g.2.2.2.2.getD i ab.aa).1=a.1)) g.2.2.2.2.length
  (e:=some ((g.1,g.2.1,g.2.2.1,g.2.2.2.1,g.2.2.2.2.take (kK g.2.2.2.2 a.1)++[a]++g.2.2.2.2.drop (kK g.2.2.2.2 a.1)),())) (λi=>some ((g.1,g.2.1,g.2.2.1,g.2.2.2.1,g.2.2.2.2.set i a),())) (λG i b=> ?_) (λG=> ?_) k (by omega)).trans ?_
 simp only[aG,ax b,b,decide_true,if_true,z_];rw[aY (by omega),eT O (iE O (by omega) b).2,ava];simp only[aG,Nat.lt_irrefl,decide_false,avm,if_false]
 refine(mT (λi:Nat=>(g,a,(0,([]:List ai),0,0,([]:List ae)),g,a,(i:Int),())) (λi=>bN a.1 (g.2.2.2.2.getD i ab.aa).1) g.2.2.2.2.length
  (e:=some ((g.1,g.2.1,g.2.2.1,g.2.2.2.1,g.2.2.2.2.take g.2.2.2.2.length++[a]++g.2.2.2.2.drop g.2.2.2.2.length),())) (λi=>some ((g.1,g.2.1,g.2.2.1,g.2.2.2.1,g.2.2.2.2.take i++[a]++g.2.2.2.2.drop i),())) (λG i b=> ?_) (λG=> ?_) k (by omega)).trans ?_
 simp only[aG,ax b,b,decide_true,if_true,z_,Bool.or_true];rw[an (by simp),pW O (by omega),ava];cases hq:bN a.1 (g.2.2.2.2.getD i ab.aa).1;simp only[av3,if_true,avm,if_false];rw[aY (by omega)];simp only[Bool.not_true,if_true,avm,if_false];rw[an (by simp;omega),MZ O (by omega),ava,an (by simp;omega),an (by simp;omega),Fi O (by omega),ava,an (by simp;omega)];simp only[aG,Nat.lt_irrefl,decide_false,avm,if_false,z_];rw[an (by simp)];simp only[beq_iff_eq,avm,if_false,ava];rw[an (by simp),MZ O (by omega),ava,an (by simp;omega),an (by simp),Fi O (by omega),ava,an (by simp;omega)];exact ZC g.2.2.2.2 a.1 (λi=>some ((g.1,g.2.1,g.2.2.1,g.2.2.2.1,g.2.2.2.2.take i++[a]++g.2.2.2.2.drop i),()));unfold nx jU abL;cases iB g.2.2.2.2.length (λi=>decide ((g.2.2.2.2.getD i ab.aa).1=a.1))<;>rfl
theorem adA{l:List ae}{a:ae}:ag (.sl ab) (jU l a)<=ag (.sl ab) l+ag ab a+1:=by
 unfold jU;cases h:abL l a.1 with
 |none=>
  dsimp only;rw[fa (e:=ab),fa (e:=ab),ck (e:=ab),bf];have:=dH (e:=ab) l (kK l a.1);omega
 |some i=>
  have b:=(bl.1 h).1;have:=iT (e:=ab) l i a b;dsimp only;omega
def Uo{g:ar}{a:ae}:ag ak (nx g a)<=ag ak g+ag ab a+1:=by
 have h1:=di O g;have b:=di O (nx g a);have h3:=adA O (l:=g.2.2.2.2) (a:=a);unfold nx at b|-;dsimp only at b;omega
def KM{a b:ae}{by_:List ByteArray}(f:ag ab a<=1048576)(g:ag ab b<=1048576)(d:by_.length<=1048576):pX k (a,b,by_,())=some (decide (keyOf a by_=keyOf b by_),()):=by
 have h1:=I5 O a by_;have h2:=bG O a;have h3:=au (e:=al) (l:=a.1);simp only[pX];rw[lZ O f d,ava,lZ O g d,ava,eT O (by dsimp only;omega),ava]
theorem zc(l m:List ai):ag (.sl al) (l++m)=ag (.sl al) l+ag (.sl al) m:=fa (e:=al) l m
def mB(x:ai)(l:List ai):ag (.sl al) (x::l)=1+(x.1.size+x.2.size)+ag (.sl al) l:=by rw[ck (e:=al),qU O]
theorem oM:ag (.sl al) ([]:List ai)=0:=bf (e:=al)
theorem ui(l m:List ae):ag (.sl ab) (l++m)=ag (.sl ab) l+ag (.sl ab) m:=fa (e:=ab) l m
theorem mV(x:ae)(l:List ae):ag (.sl ab) (x::l)=1+ag ab x+ag (.sl ab) l:=ck (e:=ab) x l
theorem jx:ag (.sl ab) ([]:List ae)=0:=bf (e:=ab)
def wB{c:aD}{l:List ByteArray}(n:Nat)(hc:aS c)(b:0<l.length)(hs:l.all (λs=>decide (s.size<=n))=true):Dr (gV k (c,l,())) (λr=>aS r.2.1/\r.1.size<=n):=
 drM (agv O hc b) (λr a=>⟨a.1,e_ (avG.1 hs _ a.2)⟩)
def Xx{c:aD}{l:List Int}(a b:Int)(hc:aS c)(e:0<l.length)(hs:l.all (λs=>decide (a<=s/\s<=b))=true):Dr (bo k (c,l,())) (λr=>aS r.2.1/\a<=r.1/\r.1<=b):=
 drM (Yp O hc e) (λr d=>⟨d.1,e_ (avG.1 hs _ d.2)⟩)
def dF{c:aD}{l:List Int}(hc:aS c)(b:0<l.length):Dr (bo k (c,l,())) (λr=>aS r.2.1):=
 drM (Yp O hc b) (λr a=>a.1)
def N7{c:aD}(hc:aS c):Dr (oc k (c,())) (λr=>aS r.2.1/\r.1.size<=13):=by
 simp only[oc];exact aV (wB O 13 hc (by decide) (by decide)) (λr a=>bB a)
def acu{c:aD}(hc:aS c):Dr (rR k (c,())) (λr=>aS r.2.1/\r.1.size<=13):=by
 simp only[rR];exact aV (wB O 13 hc (by decide) (by decide)) (λr a=>bB a)
def Hv{c:aD}(hc:aS c):Dr (lI k (c,())) (λr=>aS r.2.1/\r.1.size<=13):=by
 simp only[lI];refine aV (jQ O hc) (λr a=>bD (λ_=> ?_) (λ_=> ?_));exact aV (acu O a) (λr a=>bB a);exact aV (wB O 13 a (by decide) (by decide)) (λr a=>bB a)
def xT{c:aD}(hc:aS c):Dr (iV k (c,())) (λr=>aS r.2.1/\r.1.size<=13):=by
 simp only[iV];refine aV (jQ O hc) (λr a=>bD (λ_=> ?_) (λ_=> ?_));exact aV (N7 O a) (λr a=>bB a);exact aV (wB O 13 a (by decide) (by decide)) (λr a=>bB a)
def ahg{c:aD}(hc:aS c):Dr (vC k (c,())) (λr=>aS r.2.1):=by
 simp only[vC];exact aV (dF O hc (by decide)) (λr a=>bB a)
def Mq{c:aD}(hc:aS c):Dr (nM k (c,())) (λr=>aS r.2.1):=by
 simp only[nM];refine aV (jQ O hc) (λr a=>bD (λ_=> ?_) (λ_=> ?_));exact aV (ahg O a) (λr a=>bB a);exact aV (dF O a (by decide)) (λr a=>bB a)
def aiC{c:aD}(hc:aS c):Dr (mY k (c,())) (λr=>aS r.2.1/\r.1.length<=2/\ag (.sl .str) r.1<=20):=by
 simp only[mY];refine aV (aQ O hc) (λr a=> ?_);refine bD (λ_=>bB ⟨a.1,by dsimp only;decide,by dsimp only;decide⟩) (λ_=>bD (λ_=>bB ⟨a.1,by dsimp only;decide,by dsimp only;decide⟩) (λ_=>bD (λ_=>bB ⟨a.1,by dsimp only;decide,by dsimp only;decide⟩) (λ_=>bB ⟨a.1,by dsimp only;decide,by dsimp only;decide⟩)))
def xq{c:aD}(hc:aS c):Dr (gw k (c,())) (λr=>aS r.2.1/\0<r.1.length/\ag (.sl al) r.1<=108):=by
 simp only[gw];refine aV (wB O 13 hc (by decide) (by decide)) (λr a=> ?_);refine y6 (λs=>3-s.2.2.2.2.1.toNat) (λs=>aS s.1/\0<s.2.1.length/\(ag (.sl al) s.2.1:Int)<=27+27*s.2.2.2.2.1/\s.2.2.1=[(⟨#[104,111,115,116]⟩:ByteArray),(⟨#[115,101,118]⟩:ByteArray),(⟨#[122,111,110,101]⟩:ByteArray)]/\s.2.2.2.1=3/\0<=s.2.2.2.2.1/\s.2.2.2.2.1<=3) ?_ ⟨a.1,by simp,?_,rfl,rfl,by simp,by simp⟩ (by simp only;omega);rintro G ⟨c,l,m,n,i,u⟩ ⟨h1,h2,h3,h4,h5,h6,h7⟩ hG;dsimp only at h1 h2 h3 h4 h5 h6 h7|-;subst h4;subst h5;have hl:=au (e:=al) (l:=l);refine bD (λd=> ?_) (λd=>bB ⟨h1,h2,by dsimp only;omega⟩);have d:i<3:=by simpa using d
 have f:IntKind.i64.wrap (i+1)=i+1:=wrap64 (by omega) (by omega);rw[f];refine ff (by simp;omega) ?_;refine aV (jQ O h1) (λr a=>bD (λ_=> ?_) (λ_=>hG _ ⟨a,h2,by dsimp only;omega,rfl,rfl,by dsimp only;omega,by dsimp only;omega⟩ (by dsimp only;omega)));refine aV (wB O 13 a (by decide) (by decide)) (λr2 b=>ff (by simp;omega) (hG _ ⟨b.1,by simp,?_,rfl,rfl,by dsimp only;omega,by dsimp only;omega⟩ (by dsimp only;omega)))
 have hb:([(⟨#[104,111,115,116]⟩:ByteArray),(⟨#[115,101,118]⟩:ByteArray),(⟨#[122,111,110,101]⟩:ByteArray)].getD i.toNat ByteArray.empty).size<=13:=
  e_ (avG.1 (show([(⟨#[104,111,115,116]⟩:ByteArray),(⟨#[115,101,118]⟩:ByteArray),(⟨#[122,111,110,101]⟩:ByteArray)].all (λs=>decide (s.size<=13)))=true by decide) _ (cY (by simp;omega)))
 dsimp only;rw[zc O,mB O,oM O];have:=b.2;dsimp only;omega;rw[mB O,oM O];have h0:(⟨#[97,112,112]⟩:ByteArray).size=3:=by decide
 have:=a.2;dsimp only;omega
def Er{c:aD}(hc:aS c):Dr (lA k (c,())) (λr=>aS r.2.1/\ag (.sl al) r.1<=220):=by
 simp only[lA];refine aV (xq O hc) (λf g=>aV (aQ O g.1) (λr2 a=> ?_));have hl:=au (e:=al) (l:=f.1);obtain⟨_,n,ht⟩:=g;refine bD (λ_=> ?_) (λ_=> ?_);refine aV (Hv O a.1) (λh b=>aV (xT O b.1) (λr4 j=>ff (by simp;omega) (bB ⟨j.1,?_⟩)));dsimp only;rw[zc O,mB O,oM O];have:=b.2;have:=j.2;dsimp only;omega;refine bD (λ_=> ?_) (λ_=> ?_);refine ff (by simp;omega) (bB ⟨a.1,?_⟩);dsimp only;rw[zc O,mB O,oM O];have o:(⟨#[122,122]⟩:ByteArray).size=2:=by decide
 have o:(⟨#[49]⟩:ByteArray).size=1:=by decide
 dsimp only;omega;refine bD (λ_=> ?_) (λ_=> ?_);refine ff (by simp;omega) (ff (by simp;omega) (bB ⟨a.1,?_⟩));have p:=df (e:=al) (cY (l:=f.1) (i:=0) (d:=al.aa) n);rw[qU O]at p;dsimp only;rw[zc O,mB O,oM O];simp only[show P_ 0=0 from rfl];omega;refine bD (λ_=> ?_) (λ_=> ?_);refine ff (by simp;omega) (bB ⟨a.1,?_⟩);dsimp only;rw[zc O,mB O,mB O,mB O,mB O,oM O];have e1:(⟨#[122,117]⟩:ByteArray).size=2:=by decide
 have e2:(⟨#[122,118]⟩:ByteArray).size=2:=by decide
 have e3:(⟨#[122,119]⟩:ByteArray).size=2:=by decide
 have e4:(⟨#[122,120]⟩:ByteArray).size=2:=by decide
 have e5:ByteArray.empty.size=0:=by decide
 dsimp only;omega;refine bD (λ_=> ?_) (λ_=> ?_);refine aV (xT O a.1) (λh b=>ff (by simp;omega) (bB ⟨b.1,?_⟩));have m:=iT (e:=al) f.1 0 ((f.1.getD 0 al.aa).1,h.1) n;rw[qU O,qU O]at m;have:=b.2;simp only[show P_ 0=0 from rfl];dsimp only at m|-;omega;refine bD (λ_=>bB ⟨a.1,by dsimp only;rw[oM O];omega⟩) (λ_=>bB ⟨a.1,by dsimp only;omega⟩)
def fR{c:aD}(hc:aS c):Dr (cm k (c,())) (λr=>aS r.2.1/\ag ab r.1<=121):=by
 simp only[cm];refine aV (xq O hc) (λr1 a=>aV (aQ O a.1) (λr2 d=>aV (N7 O d.1) (λr3 b=>aV (dF O b.1 (by decide)) (λr4 e=>bB ⟨e,?_⟩))));dsimp only;rw[bG O];have:=a.2;have:=b.2;dsimp only;omega
def qy{c:aD}(hc:aS c):Dr (eL k (c,())) (λr=>aS r.2.1/\ag ab r.1<=400):=by
 simp only[eL];refine aV (fR O hc) (λr1 e=>aV (aQ O e.1) (λr2 b=> ?_));have f:=e.2;rw[bG O]at f;refine bD (λ_=> ?_) (λ_=> ?_);refine aV (Er O b.1) (λd a=>bB ⟨a.1,?_⟩);dsimp only;rw[bG O];have:=a.2;dsimp only;omega;refine bD (λ_=> ?_) (λ_=> ?_);refine aV (dF O b.1 (by decide)) (λd a=>bB ⟨a,?_⟩);dsimp only;rw[bG O];dsimp only;omega;refine bD (λ_=> ?_) (λ_=> ?_);refine aV (Mq O b.1) (λd a=>bB ⟨a,?_⟩);dsimp only;rw[bG O];dsimp only;omega;refine bD (λ_=> ?_) (λ_=>bB ⟨b.1,by dsimp only;rw[bG O];omega⟩);refine aV (xT O b.1) (λd a=>bB ⟨a.1,?_⟩);dsimp only;rw[bG O];have:=a.2;dsimp only;omega
def ac0{c:aD}{by_:List ByteArray}(hc:aS c)(n:by_.length<=1048576):Dr (rD k (c,by_,())) (λr=>aS r.2.1/\ag ak r.1<=2000):=by
 simp only[rD];refine aV (fR O hc) (λd l=>aV (aQ O l.1) (λr2 o=> ?_));have ha:=l.2;refine eA (lZ O (by omega) n) ?_;refine aV (aQ O o.1) (λr4 p=> ?_);refine DE (λs=>aS s.1/\ag ak s.2.2.2.1<=2000) (λs f=> ?_) (λJ q=> ?_);refine aV (jQ O f.1) (λr5 m=>bD (λ_=> ?_) (λ_=>bB ⟨m,f.2⟩));refine aV (aQ O m) (λr6 h6=>bB ⟨h6.1,?_⟩);have:=f.2;rw[di O]at this;dsimp only;rw[di O];exact this;refine aV (aQ O p.1) (λr7 h7=> ?_);obtain⟨h7,h8,h9⟩:=h7;refine y6 (λs=>s.2.2.2.2.2.1.toNat) (λs=>aS s.1/\s.2.1=by_/\s.2.2.2.1=d.1/\(ag ak s.2.2.2.2.1:Int)<=1300-130*s.2.2.2.2.2.1/\0<=s.2.2.2.2.2.1/\s.2.2.2.2.2.1<=7) ?_ ⟨h7,rfl,rfl,?_,h8,by dsimp only;omega⟩ (by dsimp only;omega);rintro G ⟨c,b,z,a,g,i,u⟩ ⟨g1,g2,g3,g4,g5,g6⟩ hG;dsimp only at g1 g2 g3 g4 g5 g6|-;subst g2;subst g3;refine bD (λh=> ?_) (λh=>q _ ⟨g1,by dsimp only;omega⟩);have h:0<i:=by simpa using h
 have v:IntKind.i64.wrap (i-1)=i-1:=wrap64 (by omega) (by omega);rw[v];refine aV (fR O g1) (λj xw=>eA (KM O (by omega) (by have:=xw.2;omega) n) (bD (λ_=> ?_) (λ_=>hG _ ⟨xw.1,rfl,rfl,by dsimp only;omega,by dsimp only;omega,by dsimp only;omega⟩ (by dsimp only;omega))));have:=xw.2;refine eA (Di O (by omega) (by omega)) (hG _ ⟨xw.1,rfl,rfl,?_,by dsimp only;omega,by dsimp only;omega⟩ (by dsimp only;omega));have:=Uo O (g:=g) (a:=j.1);dsimp only;omega;dsimp only;rw[di O];dsimp only;rw[mV O,jx O];have DL:ag (.sl al) (keyOf d.1 by_)<=ag (.sl al) d.1.1:=vU (e:=al) _ _;have qX:=bG O d.1;omega
def Uy{c:aD}{by_:List ByteArray}(hc:aS c)(h:by_.length<=1048576):Dr (pk k (c,by_,())) (λr=>aS r.2.1/\ag ak r.1<=3000):=by
 simp only[pk];refine aV (ac0 O hc h) (λg f=>aV (aQ O f.1) (λr2 b=> ?_));have j:=f.2;rw[di O]at j;have hl:=au (e:=ab) (l:=g.1.2.2.2.2);refine bD (λ_=>bB ⟨b.1,by dsimp only;rw[di O];dsimp only;omega⟩) (λ_=> ?_);refine bD (λ_=> ?_) (λ_=> ?_);refine aV (Er O b.1) (λd a=>bB ⟨a.1,?_⟩);have:=a.2;dsimp only;rw[di O];dsimp only;omega;refine bD (λ_=> ?_) (λ_=> ?_);exact aV (Mq O b.1) (λd a=>bB ⟨a,by dsimp only;rw[di O];dsimp only;omega⟩);refine bD (λ_=> ?_) (λ_=> ?_);exact aV (dF O b.1 (by decide)) (λd a=>bB ⟨a,by dsimp only;rw[di O];dsimp only;omega⟩);refine bD (λ_=> ?_) (λ_=> ?_);refine aV (qy O b.1) (λd a=>ff (by simp;omega) (bB ⟨a.1,?_⟩));have:=a.2;dsimp only;rw[di O];dsimp only;rw[ui O,mV O,jx O];omega;refine bD (λ_=>bB ⟨b.1,?_⟩) (λ_=>bB ⟨b.1,by dsimp only;rw[di O];omega⟩);dsimp only;rw[di O];dsimp only;rw[jx O];omega
def Kr{c:aD}{l:List ae}(hc:aS c)(hl:ag (.sl ab) l<=1048576):Dr (eS k (c,l,())) (λr=>aS r.2.1/\ag (.sl al) r.1<=ag (.sl ab) l+108):=by
 simp only[eS];have hln:=au (e:=ab) (l:=l)
 have pick:∀ {c:aD},aS c->0<l.length->Dr (Option.bind (aH k (c,(l.length:Int),())) λa=>
  if(decide (0<=a.1/\a.1<((avW l:Nat):Int)))=true then
   if(decide (avW ([]:List ai)+avW ((List.getD l (P_ a.1) ab.aa).1)<4294967296))=true then
    some (([]:List ai)++((List.getD l (P_ a.1) ab.aa).1),a.2.1,())
   else none
  else none) (λr=>aS r.2.1/\ag (.sl al) r.1<=ag (.sl ab) l+108):=by
  intro c hc b;refine aV (aQ O hc) (λa j=>ff (by simp;omega) ?_);have m:a.1.toNat<l.length:=by omega
  have n:=df (e:=ab) (cY (d:=ab.aa) m);rw[bG O]at n;have h3:=au (e:=al) (l:=(l.getD a.1.toNat ab.aa).1);refine ff (c_ (by simp only[List.length_nil];omega)) (bB ⟨j.1,?_⟩);dsimp only;rw[List.nil_append];omega
 have free:∀ {c:aD},aS c->Dr (Option.bind (gw k (c,())) λf=>some (f.1,f.2.1,())) (λr=>aS r.2.1/\ag (.sl al) r.1<=ag (.sl ab) l+108):=
  λhc=>aV (xq O hc) (λr h=>bB ⟨h.1,by have:=h.2;dsimp only;omega⟩)
 refine bD (λb=> ?_) (λb=> ?_);have b:0<l.length:=by simpa using b
 refine aV (jQ O hc) (λr1 g=>bD (λ_=>pick g b) (λ_=>free g));refine bD (λh=> ?_) (λ_=>free hc);have b:¬0<l.length:=by simpa using b
 simp[b]at h
def Jl{g h:ar}(o:ag ak g<=1048576):oy k (g,h,())=some (decide (g=h),()):=by
 rw[di O]at o;obtain⟨a,b,c,d,e⟩:=g;obtain⟨q,r,s,u,e'⟩:=h;dsimp only at o;have hb:=au (e:=al) (l:=b);simp only[oy];by_cases p:a=q;subst p;rw[an (by simp),eN O (by omega),ava];by_cases n:b=r/\c=s/\d=u;obtain⟨rfl,rfl,rfl⟩:=n;rw[an (by simp),gn O (by omega),ava];simp;rw[a_ (by simp;exact λf j m=>n ⟨f,j,m⟩),ava];simp;exact λf j m=>absurd ⟨f,j,m⟩ n;simp[p]
def JV{g h:bE}(m:ag cJ g<=1048576):ow k (g,h,())=some (decide (g=h),()):=by
 rw[uw O]at m;obtain⟨a,b,c,e⟩:=g;obtain⟨o,p,q,e'⟩:=h;dsimp only at m;have hb:=au (e:=al) (l:=b);simp only[ow];by_cases n:a=o;subst n;rw[an (by simp),eN O (by omega),ava];by_cases j:b=p/\c=q;obtain⟨rfl,rfl⟩:=j;rw[an (by simp),gn O (by omega),ava];simp;rw[a_ (by simp;exact λd f=>j ⟨d,f⟩),ava];simp;exact λd f=>absurd ⟨d,f⟩ j;simp[n]
def xj{l:List ae}(b:ag (.sl ab) l<=1048576):fV k (l,l,())=some (true,()):=by
 have h1:=au (e:=ab) (l:=l);simp only[fV];rw[a_ (by simp)];refine(bV (λi:Nat=>(l,l,(i:Int),())) l.length (e:=some (true,())) (λG i a=> ?_) (λG=> ?_) k 0 (by omega) (by omega));simp only[aG,ax a,a,decide_true,if_true,z_];rw[aY (by omega),fS O (iE O b a).2,ava];simp;simp
end
def iA(l:List ar)(key:List ai):Option Nat:=iB l.length (λi=>decide ((l.getD i ak.aa).2.1=key))
def qV(l:List ar)(a:ae)(by_:List ByteArray)(n M:Int):List ar:=
 match iA l (keyOf a by_)with
 |some i=>l.set i (nx (l.getD i ak.aa) a)
 |none=>l++[(n,keyOf a by_,M,-1,[a])]
section
variable{k:Nat}(O:9223372036854775808<=k)
include O
theorem X4(l m:List ar):ag (.sl ak) (l++m)=ag (.sl ak) l+ag (.sl ak) m:=fa (e:=ak) l m
theorem Uh(x:ar)(l:List ar):ag (.sl ak) (x::l)=1+ag ak x+ag (.sl ak) l:=ck (e:=ak) x l
theorem LN:ag (.sl ak) ([]:List ar)=0:=bf (e:=ak)
def mJ{l:List ar}{key:List ai}(h:ag (.sl ak) l<=1048576):iw k (l,key,())=some (iC (iA l key),()):=by
 have h2:=au (e:=ak) (l:=l);simp only[iw];refine(mT (λi:Nat=>(l,key,(i:Int),())) (λi=>decide ((l.getD i ak.aa).2.1=key)) l.length (e:=some (-1,())) (λi=>some ((i:Int),())) (λG i a=> ?_) (λG=> ?_) k (by omega)).trans ?_;simp only[aG,ax a,a,decide_true,if_true,z_];rw[aY (by omega),eT O (uj O h a).2,ava];simp;unfold iA;cases iB l.length (λi=>decide ((l.getD i ak.aa).2.1=key))<;>rfl
def vQ{l:List ar}{a:ae}{by_:List ByteArray}{n M:Int}(b:ag (.sl ak) l<=1048576)(f:ag ab a<=1048576)(g:by_.length<=1048576):
 nT k (l,a,by_,n,M,())=some (qV l a by_ n M,(iA l (keyOf a by_)).isNone,()):=by
 have h2:=au (e:=ak) (l:=l);simp only[nT];rw[uW O (by omega),ava,lZ O f g,ava];unfold qV;cases h:iA l (keyOf a by_)with
 |none=>
  have e:iw k (l,keyOf a by_,())=some (-1,()):=by rw[mJ O b,h];rfl
  rw[e,ava,a_ (by decide),er O (by omega),ava,an (by simp;omega)];rfl
 |some i=>
  have d:=(bl.1 h).1;have e:iw k (l,keyOf a by_,())=some ((i:Int),()):=by rw[mJ O b,h];rfl
  rw[e,ava,an (by simp),an (ax d)];simp only[z_];rw[Di O (uj O b d).1 f,ava,an (ax d)];rfl
def afo(a:ae)(by_:List ByteArray):ag (.sl al) (keyOf a by_)<=ag ab a:=by
 have DL:ag (.sl al) (keyOf a by_)<=ag (.sl al) a.1:=vU (e:=al) _ _;have qX:=bG O a;omega
def Iq{l:List ar}{a:ae}{by_:List ByteArray}{n M:Int}:ag (.sl ak) (qV l a by_ n M)<=ag (.sl ak) l+2*ag ab a+2:=by
 unfold qV;cases h:iA l (keyOf a by_)with
 |none=>
  dsimp only;have b:=afo O a by_;rw[X4 O,Uh O,LN O,di O];dsimp only;rw[mV O,jx O];omega
 |some i=>
  have d:=(bl.1 h).1;have b:=iT (e:=ak) l i (nx (l.getD i ak.aa) a) d;have h2:=Uo O (g:=l.getD i ak.aa) (a:=a);dsimp only;omega
def acL{c:aD}{by_:List ByteArray}(hc:aS c)(m:by_.length<=1048576):Dr (rJ k (c,by_,())) (λr=>aS r.2.1/\ag (.sl ak) r.1<=1600):=by
 simp only[rJ];refine aV (aQ O hc) (λr1 d=> ?_);obtain⟨d,p,h3⟩:=d;refine y6 (λs=>s.2.2.2.2.1.toNat) (λs=>aS s.1/\s.2.1=by_/\(ag (.sl ak) s.2.2.1:Int)<=1500-250*s.2.2.2.2.1/\0<=s.2.2.2.2.1/\s.2.2.2.2.1<=6) ?_ ⟨d,rfl,by dsimp only;rw[LN O];omega,p,by dsimp only;omega⟩ (by dsimp only;omega);rintro G ⟨c,b,l,n,i,u⟩ ⟨g1,g2,g3,g4,g5⟩ hG;dsimp only at g1 g2 g3 g4 g5|-;subst g2;refine bD (λe=> ?_) (λe=>bB ⟨g1,by dsimp only;omega⟩);have e:0<i:=by simpa using e
 have o:IntKind.i64.wrap (i-1)=i-1:=wrap64 (by omega) (by omega);rw[o];refine aV (fR O g1) (λh f=>aV (aQ O f.1) (λj g=> ?_));have h44:=f.2;have hj:=Iq O (l:=l) (a:=h.1) (by_:=b) (n:=n) (M:=j.1);refine eA (vQ O (by omega) (by omega) m) (bD (λ_=> ?_) (λ_=> ?_));exact aV (aQ O g.1) (λr7 h7=>hG _ ⟨h7.1,rfl,by dsimp only;omega,by dsimp only;omega,by dsimp only;omega⟩ (by dsimp only;omega));exact hG _ ⟨g.1,rfl,by dsimp only;omega,by dsimp only;omega,by dsimp only;omega⟩ (by dsimp only;omega)
def ad7{c:aD}{by_:List ByteArray}(hc:aS c)(g:by_.length<=1048576):Dr (tu k (c,by_,())) (λr=>aS r.2.1/\ag (.sl ak) r.1<=5000):=by
 simp only[tu];refine aV (acL O hc g) (λd h=>aV (aQ O h.1) (λr2 b=> ?_));have DL:=h.2;have hl:=au (e:=ak) (l:=d.1);refine bD (λ_=> ?_) (λ_=> ?_);refine aV (Uy O b.1 g) (λj a=>ff (by simp;omega) (bB ⟨a.1,?_⟩));have:=a.2;dsimp only;rw[X4 O,Uh O,LN O];omega;refine bD (λ_=>bD (λf=> ?_) (λ_=>bB ⟨b.1,by dsimp only;omega⟩)) (λ_=>bB ⟨b.1,by dsimp only;omega⟩);have f:0<d.1.length:=by simpa using f
 refine aV (Uy O b.1 g) (λj a=>ff (by simp;omega) (bB ⟨a.1,?_⟩));have h33:=a.2;have hs:=iT (e:=ak) d.1 0 j.1 f;simp only[show P_ 0=0 from rfl];omega
def Wi{l:List ar}(b:ag (.sl ak) l<=1048576):nr k (l,l,())=some (true,()):=by
 have h1:=au (e:=ak) (l:=l);simp only[nr];rw[a_ (by simp)];refine(bV (λi:Nat=>(l,l,(i:Int),())) l.length (e:=some (true,())) (λG i a=> ?_) (λG=> ?_) k 0 (by omega) (by omega));simp only[aG,ax a,a,decide_true,if_true,z_];rw[aY (by omega),Jl O (uj O b a).1,ava];simp;simp
end
def wq(d:ay)(n:Int):ay:=(d.1,d.2.1,d.2.2.1,d.2.2.2.1,d.2.2.2.2.1,n,d.2.2.2.2.2.2)
def kN(w:af)(i:Nat):Bool×af:=
 match w with
 |(c,ti,M,st,V,T,gr,D,nn,Q,Z,U,A,E)=>
  if gr= -1 then(true,(c,ti,M,st,V,T,(i:Int),D,nn,Q,Z,U,A.set i ((A.getD i ah.aa).1,1,(A.getD i ah.aa).2.2),E))else(false,w)
def El(a:ae)(h:Int):aA:=(5,0,a,[],0,[],[],0,h)
def PZ(a:ae)(M ti:Int):ay:=(7,3,a,[],0,0,0,[],M,ti,-1,-1)
def vY(c:bw)(a:ae)(nn M:Int):ar:=(nn,keyOf a c.2.2.2.2.2,M,-1,[a])
def mO(s:Bool)(k:Nat)(w:af):Bool×af:=
 match w with
 |(c,ti,M,st,V,T,gr,D,nn,Q,Z,U,A,E)=>
  let t:=A.getD 3 ah.aa
  let n:=(bn t).toNat
  let d:=E.getD n aw.aa
  if t.1=0 then
   (if T.length=0 then(false,w)
    else(true,(c,ti,M,st,V,T.drop 1,gr,D,nn,Q,Z,U,A.set 3 (El (T.getD 0 ab.aa) E.length),E++[PZ (T.getD 0 ab.aa) M ti])))
  else if t.2.1=0 then kN w 3
  else match iA D (keyOf t.2.2.1 c.2.2.2.2.2)with
   |none=>
    if 12<=D.length then(true,(c,ti,M,st,V,T,-1,D,nn,Q,Z,U,A.set 3 zT,E.set n (eC s false d M ti 3 [])))
    else(true,(c,ti,M,st,V,T,-1,D++[vY c t.2.2.1 nn M],IntKind.i64.wrap (nn+1),E5 Q (lP c (vY c t.2.2.1 nn M),nn),Z,U,A.set 3 zT,E.set n (eC s false (wq d nn) M ti 1 [])))
   |some i=>(true,(c,ti,M,st,V,T,-1,D.set i (nx (D.getD i ak.aa) t.2.2.1),nn,Q,Z,U,A.set 3 zT,E.set n (eC s false (wq d (D.getD i ak.aa).1) M ti 2 [])))
def kH(s:Bool)(k:Nat)(w:af):Bool×af:=bX (mO s k w)
def adX{l:List ar}{g:ar}{key:List ai}(h:iA l key=none)(b:g.2.1=key):iA (l++[g]) key=some l.length:=by
 unfold iA at h|-;have d:=jP.1 h;refine bl.2 ⟨by simp,?_,λj a=> ?_⟩;rw[G6,avt (avx _)];simpa using b;rw[Ax _ _ a];exact d j a
def aea{l:List ar}{g:ar}{key:List ai}{i:Nat}(h:iA l key=some i)(d:g.2.1=key):iA (l.set i g) key=some i:=by
 unfold iA at h|-;obtain⟨a,h2,e⟩:=bl.1 h;refine bl.2 ⟨by simpa using a,?_,λj b=> ?_⟩;rw[aT _ _ a];simpa using d;rw[G6,avL (by omega),<-G6];exact e j b
def aeB{l:List ar}{g:ar}{n:Int}(h:∀i,i<l.length->(l.getD i ak.aa).1≠n)(b:g.1=n):gL (l++[g]) n=some l.length:=by
 unfold gL;refine bl.2 ⟨by simp,?_,λj a=> ?_⟩;rw[G6,avt (avx _)];simpa using b;rw[Ax _ _ a];exact decide_eq_false (h j a)
def Xt{α:Type}(l:List α)(x d:α):(l++[x]).getD l.length d=x:=by
 rw[G6,avt (avx _)];simp
section
variable{c:bw}{ti M gr nn:Int}{st:List aq}{V:List bp}{T U:List ae}{D:List ar}{Q:List aI}{Z:List bE}{A:List aA}{E:List ay}{i:Nat}
def Ud(h:gr= -1):kN (c,ti,M,st,V,T,gr,D,nn,Q,Z,U,A,E) i=(true,(c,ti,M,st,V,T,(i:Int),D,nn,Q,Z,U,A.set i ((A.getD i ah.aa).1,1,(A.getD i ah.aa).2.2),E)):=an h
def XO(h:¬gr= -1):kN (c,ti,M,st,V,T,gr,D,nn,Q,Z,U,A,E) i=(false,(c,ti,M,st,V,T,gr,D,nn,Q,Z,U,A,E)):=a_ h
end
section
variable{k:Nat}(O:9223372036854775808<=k)
include O
variable{c:bw}{ti M gr nn:Int}{st:List aq}{V:List bp}{T U:List ae}{D:List ar}{Q:List aI}{Z:List bE}{A:List aA}{E:List ay}
def CP{n:Int}{i:Nat}(hg:D.length<=1048579)(b:Q.length<=1048576)(a:gL D n=some i):
 pw k ((c,ti,M,st,V,T,gr,D,nn,Q,Z,U,A,E),n,())=
  some ((c,ti,M,st,V,T,gr,D,nn,E5 Q (lP c (D.getD i ak.aa),n),Z,U,A,E),()):=by
 have d:=(bl.1 a).1;simp only[pw];rw[vJ O (by omega),ava];simp only[a,iC];rw[an (ax d),Kk O,ava,A6 O b,ava,z_]
set_option maxHeartbeats 8000000 in
def N1{n:Nat}{t:aA}{d:ay}(hs:ag aN (c,ti,M,st,V,T,gr,D,nn,Q,Z,U,A,E)<=1048576)(hi:3<A.length)(u:A.getD 3 ah.aa=t)(I:t.1=5)(w:t.2.1=1)
 (f:n<E.length) (x:bn t=(n:Int)) (h:E.getD n aw.aa=d) (y:d.2.2.1=t.2.2.1) (z:∀i,i<D.length->(D.getD i ak.aa).1≠nn):
 rb k ((c,ti,M,st,V,T,gr,D,nn,Q,Z,U,A,E),())=
  some ((mO true k (c,ti,M,st,V,T,gr,D,nn,Q,Z,U,A,E)).2,()):=by
 have hsum:=iX O hs;have B:=dQ (e:=ah) (d:=ah.aa) hi;rw[u]at B;have hdl:=au (e:=aw) (l:=E);have hgl:=au (e:=ak) (l:=D);have hhl:=au (e:=aL) (l:=Q);have C:=dQ (e:=aw) (d:=aw.aa) f;rw[h]at C;have F:=cD O d;rw[y]at F;have hta:=bq O t;have o:=Iq O (l:=D) (a:=t.2.2.1) (by_:=c.2.2.2.2.2) (n:=nn) (M:=M);have hcf:=oP O c;have hby:=au (e:= .str) (l:=c.2.2.2.2.2);have G:decide ((0:Int)<=3/\(3:Int)<(A.length:Int))=true:=c_ ⟨by omega,by omega⟩
 have b:∀(D:List ar) (nn:Int) (Q:List aI) (E:List ay) (v:ay) (code:Int),n<E.length->E.getD n aw.aa=v->du k ((c,ti,M,st,V,T,-1,D,nn,Q,Z,U,A,E),(3:Int),code,[],())=
  some ((c,ti,M,st,V,T,-1,D,nn,Q,Z,U,A.set 3 zT,E.set n (oQ v M ti code [])),()):=by
  intro D nn Q E v code f h;have:=iy (n:=n) (i:=3) (code:=code) (got:=[]) (c:=c) (ti:=ti) (M:=M) (gr:= -1) (nn:=nn) (st:=st) (V:=V) (T:=T) (U:=U) (D:=D) (Q:=Q) (Z:=Z) O hi f (by rw[u];exact x) (by simp[ag]);rw[h]at this;exact this
 have p:=x;unfold bn at p;unfold mO;simp only[u,x,h,I,w,z_];rw[a_ (show¬(5:Int)=0 by decide),a_ (show¬(1:Int)=0 by decide)];simp only[rb,show P_ 3=3 from rfl,u,p,fu];have q:gf k (t.2.2.1,c.2.2.2.2.2,())=some (keyOf t.2.2.1 c.2.2.2.2.2,()):=lZ O (by omega) (by omega);simp only[q,ava];rw[an G,mJ O (by omega),ava];dsimp only;cases g:iA D (keyOf t.2.2.1 c.2.2.2.2.2)with
 |none=>
  by_cases qX:12<=D.length;rw[an (by simp[iC];omega),b D nn Q E d 3 f h,ava];dsimp only;rw[an qX];rfl;have r:qV D t.2.2.1 c.2.2.2.2.2 nn M=D++[vY c t.2.2.1 nn M]:=by unfold qV;rw[g];rfl
  have j:iA (D++[vY c t.2.2.1 nn M]) (keyOf t.2.2.1 c.2.2.2.2.2)=some D.length:=adX g rfl;have H:gL (D++[vY c t.2.2.1 nn M]) nn=some D.length:=aeB z rfl;rw[r]at o;rw[a_ (by simp[iC];omega),vQ O (by omega) (by omega) (by omega),ava,r,g];dsimp only;have m:D.length<(D++[vY c t.2.2.1 nn M]).length:=by simp
  rw[mJ O (by omega),ava];simp only[j,iC];rw[an (ax m),an (ax f)];simp only[z_,Xt,Option.isNone_none,if_true];rw[show(vY c t.2.2.1 nn M).1=nn from rfl,CP O (by rw[G9,V'];omega) (by omega) H,ava];dsimp only;rw[b _ _ _ _ (wq d nn) 1 (by rw[W_];exact f) (by rw[aT _ _ f,h];rfl),ava,a_ qX,avF,Xt];rfl
 |some i=>
  have r:qV D t.2.2.1 c.2.2.2.2.2 nn M=D.set i (nx (D.getD i ak.aa) t.2.2.1):=by unfold qV;rw[g]
  have s:i<D.length:=(bl.1 g).1;rw[r]at o;have j:iA (D.set i (nx (D.getD i ak.aa) t.2.2.1)) (keyOf t.2.2.1 c.2.2.2.2.2)=some i:=aea g (by have:=(bl.1 g).2.1;simpa[nx]using this);have hc:(if decide (iC (some i)<0)=true then decide (((D.length:Nat):Int)>=12)else false)=false:=a_ (by show¬(decide ((i:Int)<0)=true);rw[b_];omega);rw[hc,a_ avE,vQ O (by omega) (by omega) (by omega),ava,r,g];dsimp only;have m:i<(D.set i (nx (D.getD i ak.aa) t.2.2.1)).length:=by simpa using s
  rw[mJ O (by omega),ava];simp only[j,iC];rw[an (ax m),an (ax f)];simp only[z_,aT _ _ s,Option.isNone_some,avm,if_false];rw[b _ _ _ _ (wq d (D.getD i ak.aa).1) 2 (by rw[W_];exact f) (by rw[aT _ _ f,h];rfl),ava,avF];rfl
def adz(op n h:Int)(a:ae):ag ah (op,0,a,[],0,[],[],n,h)=ag ab a:=by rw[bq O];simp[ag]
set_option maxHeartbeats 8000000 in
def we{n:Nat}{t:aA}{d:ay}(hs:ag aN (c,ti,M,st,V,T,gr,D,nn,Q,Z,U,A,E)<=1048576)(hi:3<A.length)(g:A.getD 3 ah.aa=t)(a:t.1=0\/t.1=5/\(t.2.1=0\/t.2.1=1))
 (u:t.1=5->n<E.length) (v:bn t=(n:Int)) (w:E.getD n aw.aa=d) (p:t.1=5->d.2.2.1=t.2.2.1) (q:∀i,i<D.length->(D.getD i ak.aa).1≠nn):
 mz k ((c,ti,M,st,V,T,gr,D,nn,Q,Z,U,A,E),())=
  some ((kH true k (c,ti,M,st,V,T,gr,D,nn,Q,Z,U,A,E)).1,(kH true k (c,ti,M,st,V,T,gr,D,nn,Q,Z,U,A,E)).2,()):=by
 have hsum:=iX O hs;have hdl:=au (e:=aw) (l:=E);have hfl:=au (e:=ab) (l:=T);have j:decide ((0:Int)<=3/\(3:Int)<(A.length:Int))=true:=c_ ⟨by omega,by omega⟩;simp only[mz,aO,show P_ 3=3 from rfl,g];rw[an j];unfold kH;rcases a with a|⟨a,s⟩;rw[a,an (by decide)];by_cases b:T.length=0
 have f:mO true k (c,ti,M,st,V,T,gr,D,nn,Q,Z,U,A,E)=(false,(c,ti,M,st,V,T,gr,D,nn,Q,Z,U,A,E)):=by
  unfold mO;simp only[g,a,b,if_true]
 have m:decide (((T.length:Nat):Int)>0)=false:=decide_eq_false (by omega);rw[f];simp only[m,avm,if_false];rfl;have hA:=dQ (e:=ab) (d:=ab.aa) (l:=T) (i:=0) (by omega);have hAt:=bG O (T.getD 0 ab.aa);have hAl:=au (e:=al) (l:=(T.getD 0 ab.aa).1)
 have f:mO true k (c,ti,M,st,V,T,gr,D,nn,Q,Z,U,A,E)=(true,(c,ti,M,st,V,T.drop 1,gr,D,nn,Q,Z,U,A.set 3 (El (T.getD 0 ab.aa) E.length),E++[PZ (T.getD 0 ab.aa) M ti])):=by
  unfold mO;simp only[g,a,b,if_true,if_false]
 have m:decide (((T.length:Nat):Int)>0)=true:=c_ (by omega);have x:db k (T.drop 1,())=some (T.drop 1,()):=Fi O (by omega);have r:eV k ((5:Int),())=some (7,()):=rfl;rw[f];simp only[m,if_true,show P_ 0=0 from rfl,show P_ 1=1 from rfl];rw[an (c_ (by omega)),an (c_ (by omega)),x,ava]
 have y:=zh (i:=3) (t:=(5,0,T.getD 0 ab.aa,[],0,[],[],0,0)) (o:=7) (c:=c) (ti:=ti) (M:=M) (gr:=gr) (nn:=nn) (st:=st) (V:=V) (T:=T.drop 1) (U:=U) (D:=D) (Q:=Q) (Z:=Z) (A:=A) (E:=E)
  O hi (by omega) (by rw[adz O];omega) r (by dsimp only;omega) (by simp)
 erw[y];rfl;rw[a,a_ (by decide),an j];rcases s with b|b
 have f:mO true k (c,ti,M,st,V,T,gr,D,nn,Q,Z,U,A,E)=kN (c,ti,M,st,V,T,gr,D,nn,Q,Z,U,A,E) 3:=by
  unfold mO;simp only[g,a,b,if_true];rw[a_ (show¬(5:Int)=0 by decide)]
 have m:=AS (i:=3) (c:=c) (ti:=ti) (M:=M) (gr:=gr) (nn:=nn) (st:=st) (V:=V) (T:=T) (U:=U) (D:=D) (Q:=Q) (Z:=Z) (E:=E) O hi;rw[b,an (by decide),f];erw[m];by_cases h:gr= -1;rw[an h,Ud h];rfl;rw[a_ h,XO h];rfl;rw[b,a_ (by decide),N1 O hs hi g a b (u a) v w (p a) q,ava]
 have f:(mO true k (c,ti,M,st,V,T,gr,D,nn,Q,Z,U,A,E)).1=true:=by
  unfold mO;simp only[g,a,b];rw[a_ (show¬(5:Int)=0 by decide),a_ (show¬(1:Int)=0 by decide)];split;split<;>rfl;rfl
 unfold bX;rw[f];rfl
end
def yw(Q:List aI)(M:Int):Bool:=decide (0<Q.length)&&decide ((Q.getD 0 aL.aa).1<=M)
def zP(n h:Int):aA:=(6,0,c9,[],0,[],[],n,h)
def D8(n M ti:Int):ay:=(8,4,c9,[],0,n,0,[],M,ti,-1,-1)
def D0(c:bw)(Q:List aI)(D:List ar)(n:Int):List aI:=
 match gL D n with
 |some i=>E5 Q (lP c (D.getD i ak.aa),n)
 |none=>Q
def jR(s:Bool)(k:Nat)(w:af):Bool×af:=
 match w with
 |(c,ti,M,st,V,T,gr,D,nn,Q,Z,U,A,E)=>
  let t:=A.getD 4 ah.aa
  let n:=(bn t).toNat
  let d:=E.getD n aw.aa
  if t.1=0 then
   (if yw Q M=true then(true,(c,ti,M,st,V,T,gr,D,nn,(gJ Q).1,Z,U,A.set 4 (zP (gJ Q).2.1.2 E.length),E++[D8 (gJ Q).2.1.2 M ti]))else(false,w))
  else if t.2.1=0 then kN w 4
  else if pK D t.2.2.2.2.2.2.2.1=true then
   (true,(c,ti,M,st,V,T,-1,fw D t.2.2.2.2.2.2.2.1 M,nn,D0 c Q (fw D t.2.2.2.2.2.2.2.1 M) t.2.2.2.2.2.2.2.1,Z++[ld D t.2.2.2.2.2.2.2.1 M],U,A.set 4 zT,
    E.set n (eC s true d M ti 8 (ld D t.2.2.2.2.2.2.2.1 M).2.2.2)))
  else(true,(c,ti,M,st,V,T,-1,D,nn,Q,Z,U,A.set 4 zT,E.set n (eC s false d M ti 6 [])))
def iK(s:Bool)(k:Nat)(w:af):Bool×af:=bX (jR s k w)
section
variable{k:Nat}(O:9223372036854775808<=k)
include O
variable{c:bw}{ti M gr nn:Int}{st:List aq}{V:List bp}{T U:List ae}{D:List ar}{Q:List aI}{Z:List bE}{A:List aA}{E:List ay}
theorem IQ{w:af}:pC k (w,())=some (yw w.2.2.2.2.2.2.2.2.2.1 w.2.2.1,()):=by
 simp only[pC,yw];by_cases h:0<w.2.2.2.2.2.2.2.2.2.1.length;have a:decide (((w.2.2.2.2.2.2.2.2.2.1.length:Nat):Int)>0)=true:=c_ (by omega);have b:decide ((0:Int)<=0/\(0:Int)<((w.2.2.2.2.2.2.2.2.2.1.length:Nat):Int))=true:=c_ ⟨by omega,by omega⟩;simp[a,b,h];have a:decide (((w.2.2.2.2.2.2.2.2.2.1.length:Nat):Int)>0)=false:=decide_eq_false (by omega);simp[a,h]
set_option maxHeartbeats 8000000 in
def KV{n:Nat}{t:aA}{d:ay}(hs:ag aN (c,ti,M,st,V,T,gr,D,nn,Q,Z,U,A,E)<=1048576)(hi:4<A.length)(f:A.getD 4 ah.aa=t)(o:t.1=6)(g:t.2.1=1)
 (p:n<E.length) (j:bn t=(n:Int)) (m:E.getD n aw.aa=d):
 pT k ((c,ti,M,st,V,T,gr,D,nn,Q,Z,U,A,E),())=
  some ((jR true k (c,ti,M,st,V,T,gr,D,nn,Q,Z,U,A,E)).2,()):=by
 have hsum:=iX O hs;have hdl:=au (e:=aw) (l:=E);have hgl:=au (e:=ak) (l:=D);have hhl:=au (e:=aL) (l:=Q);have hsl:=au (e:=cJ) (l:=Z);have h:decide ((0:Int)<=4/\(4:Int)<(A.length:Int))=true:=c_ ⟨by omega,by omega⟩;unfold jR;simp only[f,j,m,o,g,z_];rw[a_ (show¬(6:Int)=0 by decide),a_ (show¬(1:Int)=0 by decide)];simp only[pT,show P_ 4=4 from rfl,f]
 have a:∀(D:List ar) (Q:List aI) (Z:List bE) (code:Int) (got:List ae),ag (.sl ab) got<=1073741824->du k ((c,ti,M,st,V,T,-1,D,nn,Q,Z,U,A,E),(4:Int),code,got,())=
  some ((c,ti,M,st,V,T,-1,D,nn,Q,Z,U,A.set 4 zT,E.set n (oQ d M ti code got)),()):=by
  intro D Q Z code got b;have:=iy (n:=n) (i:=4) (code:=code) (got:=got) (c:=c) (ti:=ti) (M:=M) (gr:= -1) (nn:=nn) (st:=st) (V:=V) (T:=T) (U:=U) (D:=D) (Q:=Q) (Z:=Z) O hi p (by rw[f];exact j) b;rw[m]at this;exact this
 generalize hN:t.2.2.2.2.2.2.2.1=N;have hfl:=ab0 O (l:=D) (n:=N) (M:=M);have hfb:=Zt O (l:=D) (n:=N) (M:=M);have hfbt:=uw O (ld D N M);have hfll:=au (e:=ak) (l:=fw D N M);rw[an h,Nh O (by omega),ava];dsimp only;cases hb:pK D N with
 |false=>
  rw[an (by rfl),a D Q Z 6 [] (by simp[ag]),ava,a_ avE];rfl
 |true=>
  rw[a_ (by simp),an (c_ (by simp only[V'];omega)),vJ O (by omega),ava,an rfl];unfold D0;cases q:gL (fw D N M) N with
  |none=>
   have hc:decide (iC (none:Option Nat)>=0)=false:=rfl;dsimp only;rw[hc,a_ avE,a _ _ _ 8 _ (by omega),ava];rfl
  |some i=>
   have hc:decide (iC (some i)>=0)=true:=c_ (by show(i:Int)>=0;omega);dsimp only;rw[hc,an rfl,CP O (by omega) (by omega) q,ava];dsimp only;rw[a _ _ _ 8 _ (by omega),ava];rfl
set_option maxHeartbeats 8000000 in
def vH{n:Nat}{t:aA}{d:ay}(hs:ag aN (c,ti,M,st,V,T,gr,D,nn,Q,Z,U,A,E)<=1048576)(hi:4<A.length)(f:A.getD 4 ah.aa=t)(a:t.1=0\/t.1=6/\(t.2.1=0\/t.2.1=1))
 (s:t.1=6->n<E.length) (u:bn t=(n:Int)) (v:E.getD n aw.aa=d):
 lO k ((c,ti,M,st,V,T,gr,D,nn,Q,Z,U,A,E),())=
  some ((iK true k (c,ti,M,st,V,T,gr,D,nn,Q,Z,U,A,E)).1,(iK true k (c,ti,M,st,V,T,gr,D,nn,Q,Z,U,A,E)).2,()):=by
 have hsum:=iX O hs;have hdl:=au (e:=aw) (l:=E);have hhl:=au (e:=aL) (l:=Q);have j:decide ((0:Int)<=4/\(4:Int)<(A.length:Int))=true:=c_ ⟨by omega,by omega⟩;simp only[lO,aO,show P_ 4=4 from rfl,f];rw[an j];unfold iK;rcases a with a|⟨a,p⟩;rw[a,an (by decide),IQ O,ava];dsimp only;cases q:yw Q M with
 |false=>
  have b:jR true k (c,ti,M,st,V,T,gr,D,nn,Q,Z,U,A,E)=(false,(c,ti,M,st,V,T,gr,D,nn,Q,Z,U,A,E)):=by
   unfold jR;simp only[f,a,q,if_true,avm,if_false]
  rw[b];rfl
 |true=>
  have b:jR true k (c,ti,M,st,V,T,gr,D,nn,Q,Z,U,A,E)=(true,(c,ti,M,st,V,T,gr,D,nn,(gJ Q).1,Z,U,A.set 4 (zP (gJ Q).2.1.2 E.length),E++[D8 (gJ Q).2.1.2 M ti])):=by
   unfold jR;simp only[f,a,q,if_true]
  have m:eV k ((6:Int),())=some (8,()):=rfl;have r:ag ab c9=0:=by rw[bG O];rfl
  rw[b,an rfl,Lb O (by omega),ava]
  have w:=zh (i:=4) (t:=(6,0,c9,[],0,[],[],(gJ Q).2.1.2,0)) (o:=8) (c:=c) (ti:=ti) (M:=M) (gr:=gr) (nn:=nn) (st:=st) (V:=V) (T:=T) (U:=U) (D:=D) (Q:=(gJ Q).1) (Z:=Z) (A:=A) (E:=E)
   O hi (by omega) (by rw[adz O,r];omega) m (by dsimp only;rw[r];omega) (by simp)
  erw[w];rfl
 rw[a,a_ (by decide),an j];rcases p with g|g
 have b:jR true k (c,ti,M,st,V,T,gr,D,nn,Q,Z,U,A,E)=kN (c,ti,M,st,V,T,gr,D,nn,Q,Z,U,A,E) 4:=by
  unfold jR;simp only[f,a,g,if_true];rw[a_ (show¬(6:Int)=0 by decide)]
 have x:=AS (i:=4) (c:=c) (ti:=ti) (M:=M) (gr:=gr) (nn:=nn) (st:=st) (V:=V) (T:=T) (U:=U) (D:=D) (Q:=Q) (Z:=Z) (E:=E) O hi;rw[g,an (by decide),b];erw[x];by_cases h:gr= -1;rw[an h,Ud h];rfl;rw[a_ h,XO h];rfl;rw[g,a_ (by decide),KV O hs hi f a g (s a) u v,ava]
 have b:(jR true k (c,ti,M,st,V,T,gr,D,nn,Q,Z,U,A,E)).1=true:=by
  unfold jR;simp only[f,a,g];rw[a_ (show¬(6:Int)=0 by decide),a_ (show¬(1:Int)=0 by decide)];split<;>rfl
 unfold bX;rw[b];rfl
end
def gx(s:Bool)(k:Nat)(w:af)(i:Nat):Bool×af:=
 if(((bI w).getD i ah.aa).1=1)then kI s k w i
 else if(((bI w).getD i ah.aa).1=2\/((bI w).getD i ah.aa).1=3)then eu s k w i
 else if(((bI w).getD i ah.aa).1=4)then iR s k w i
 else if i=3 then kH s k w
 else if i=4 then iK s k w
 else(false,w)
def jN{k:Nat}{w:af}{t:aA}{d:ay}{i:Nat}(h:dB k w t d (i:Int)=true):
 i<=4/\(t.1=0\/((t.1=1\/t.1=2\/t.1=3\/t.1=4)/\i<3)\/(t.1=5/\i=3)\/(t.1=6/\i=4)):=by
 unfold dB dR bh at h;grind
def aba{k:Nat}{w:af}{t:aA}{d:ay}{i:Int}(h:dB k w t d i=true)(hp:t.1≠0):
 0<=bn t/\bn t<((bS w).length:Int)/\(dh d= -1↔¬(t.1=1/\t.2.1=2))/\0<=t.2.1/\t.2.1<=2/\(t.2.1=2->t.1=1\/t.1=3):=by
 unfold dB dR bh at h;unfold bn dh;grind
def abf{k:Nat}{w:af}{t:aA}{d:ay}{i:Int}(h:dB k w t d i=true)(hp:t.1=3):
 t.2.2.1=c9/\t.2.2.2.1=[]/\t.2.2.2.2.2.2.2.1=0/\0<=t.2.2.2.2.1/\(t.2.1≠2->t.2.2.2.2.1<w.1.1)/\(t.2.1=2->(t.2.2.2.2.2.1.length:Int)=w.1.1):=by
 unfold dB dR bh oH at h;grind
def Zm{k:Nat}{w:af}{t:aA}{d:ay}{i:Int}(h:dB k w t d i=true)(hp:t.1=4):0<=t.2.2.2.2.1/\t.2.2.2.2.1<w.1.1:=by
 unfold dB dR bh oH at h;grind
def acp{k:Nat}{w:af}{t:aA}{d:ay}{i:Int}(h:dB k w t d i=true)(hp:t.1=5):d.2.2.1=t.2.2.1:=by
 unfold dB dR bh oH at h;grind
def acM{k:Nat}{w:af}(h:ix k w=true){i:Nat}(hi:i<(bI w).length):dB k w ((bI w).getD i ah.aa) (na w ((bI w).getD i ah.aa)) (i:Int)=true:=
 cH.1 h i (by omega) hi
def acv{k:Nat}{w:af}(h:bC k w=true){i:Nat}(hi:i<w.2.2.2.2.2.2.2.1.length):(w.2.2.2.2.2.2.2.1.getD i ak.aa).1<w.2.2.2.2.2.2.2.2.1:=by
 unfold bC at h;simp only[f_]at h;have a:=h.2.2.2.2.2.2.2.2.2.2.2.2.2;unfold eJ uv at a;simp only[f_,cH]at a;have b:=a.2.2.2 i (by omega) hi;simpa using b.1.2.2
section
variable{k:Nat}(O:9223372036854775808<=k)
include O
set_option maxHeartbeats 8000000 in
def Wd{w:af}{i:Nat}(hs:ag aN w<=1048576)(h:bC k w=true)(hi:i<5):qN k (w,(i:Int),())=some ((gx true k w i).1,(gx true k w i).2,()):=by
 obtain⟨G,L,N,P⟩:=Vj h;obtain⟨⟨y,_⟩,_⟩:=I0 G;have b:i<(bI w).length:=by show i<w.2.2.2.2.2.2.2.2.2.2.2.2.1.length;omega
 have g:=acM P b;have u:=λj p=>acv h (i:=j) p;obtain⟨c,ti,M,st,V,T,gr,D,nn,Q,Z,U,A,E⟩:=w;dsimp only at G L N y u b;obtain⟨t,m⟩:∃t,A.getD i ah.aa=t:=⟨_,rfl⟩
 have K:∀s,gx s k (c,ti,M,st,V,T,gr,D,nn,Q,Z,U,A,E) i=if t.1=1 then kI s k (c,ti,M,st,V,T,gr,D,nn,Q,Z,U,A,E) i
  else if t.1=2\/t.1=3 then eu s k (c,ti,M,st,V,T,gr,D,nn,Q,Z,U,A,E) i
  else if t.1=4 then iR s k (c,ti,M,st,V,T,gr,D,nn,Q,Z,U,A,E) i
  else if i=3 then kH s k (c,ti,M,st,V,T,gr,D,nn,Q,Z,U,A,E)
  else if i=4 then iK s k (c,ti,M,st,V,T,gr,D,nn,Q,Z,U,A,E)else(false,(c,ti,M,st,V,T,gr,D,nn,Q,Z,U,A,E)):=by
  intro s;unfold gx;simp only[bI,m]
 rw[K];dsimp only[bI,na]at g;rw[m]at g;obtain⟨d,r⟩:∃d,E.getD (bn t).toNat aw.aa=d:=⟨_,rfl⟩
 change dB k _ t (E.getD (bn t).toNat aw.aa) _=true at g;rw[r]at g;have v:=jN g;simp only[qN,aO,z_,m];rw[an (ax b)];by_cases x:t.1=0;rw[x,a_ (by decide),a_ (by decide),a_ (by decide),a_ (by decide)];by_cases C:i=3;subst C
 obtain⟨n,o⟩:∃n:Nat,bn t=(n:Int):=by
  have:t=zT:=by unfold dB dR at g;grind
  exact⟨0,by rw[this];rfl⟩
 rw[an (by decide),we (n:=n) (d:=E.getD n aw.aa) O hs b m (.inl x) (by omega) o rfl (by omega) (λj p=>by have:=u j p;omega),ava,a_ (by decide),a_ (by decide),a_ (by decide),an rfl];by_cases F:i=4;subst F
 obtain⟨n,o⟩:∃n:Nat,bn t=(n:Int):=by
  have:t=zT:=by unfold dB dR at g;grind
  exact⟨0,by rw[this];rfl⟩
 rw[a_ (by decide),an (by decide),vH (n:=n) (d:=E.getD n aw.aa) O hs b m (.inl x) (by omega) o rfl,ava,a_ (by decide),a_ (by decide),a_ (by decide),a_ (by decide),an rfl];rw[a_ (by rw[beq_iff_eq];omega),a_ (by rw[beq_iff_eq];omega),a_ (by decide),a_ (by decide),a_ (by decide),a_ C,a_ F];obtain⟨b1,R,S,b4,b5,b6⟩:=aba g x;dsimp only[bS]at R;obtain⟨n,o⟩:∃n:Nat,bn t=(n:Int):=⟨(bn t).toNat,by omega⟩
 rw[o,z_]at r;have f:n<E.length:=by omega
 rcases v.2 with a|⟨a,q⟩|⟨a,q⟩|⟨a,q⟩;exact absurd a x;rcases a with a|a|a|a;obtain⟨j,p,z⟩:=Y4 (k:=k) O (l:=st) (s:=t.2.2.1.1) (by omega);rw[an (by rw[a];rfl),an a,Np O hs b m a p z f o r (by omega) (λe B=>by rw[S]at B;exact B ⟨a,e⟩),ava];obtain⟨j,p,z⟩:=Y4 (k:=k) O (l:=st) (s:=t.2.2.2.1) (by omega)
 rw[a_ (by rw[a];decide),an (by rw[a];rfl),an (by rw[a];rfl),a_ (by omega),an (.inl a),
  pZ (j:=j) O hs b m (.inl a) (λ_=>p) (by rw[an a];exact z) (by omega) f o r (by omega),ava]
 obtain⟨W,H,s3,s4,I,J⟩:=abf g a;dsimp only at I J
 rw[a_ (by rw[a];decide),a_ (by rw[a];decide),an (by rw[a];rfl),a_ (by omega),an (.inr a),
  pZ (j:=t.2.2.2.2.1.toNat) O hs b m (.inr a) (λe=>by have:=I (by omega);omega) (by rw[a_ (by omega)];omega) (λ_ e=>by have:=J e;omega) f o r (by omega),ava]
 obtain⟨W,H⟩:=Zm g a;dsimp only at H
 rw[a_ (by rw[a];decide),a_ (by rw[a];decide),a_ (by rw[a];decide),an (by rw[a];rfl),a_ (by omega),a_ (by omega),an a,
  Nf (j:=t.2.2.2.2.1.toNat) O hs b m a (by omega) (by omega) f o r (by omega),ava]
 subst q
 rw[a_ (by rw[a];decide),a_ (by rw[a];decide),a_ (by rw[a];decide),a_ (by rw[a];decide),an (by decide),a_ (by omega),a_ (by omega),a_ (by omega),an rfl,
  we O hs b m (.inr ⟨a,by omega⟩) (λ_=>f) o r (λ_=>acp g a) (λj p=>by have:=u j p;omega),ava]
 subst q
 rw[a_ (by rw[a];decide),a_ (by rw[a];decide),a_ (by rw[a];decide),a_ (by rw[a];decide),a_ (by decide),an (by decide),a_ (by omega),a_ (by omega),a_ (by omega),a_ (by decide),an rfl,
  vH O hs b m (.inr ⟨a,by omega⟩) (λ_=>f) o r,ava]
end
def dq{α:Type}{l:List α}{i:Nat}(d:α)(h:i<l.length):l.getD i d=l[i]:=by
 rw[G6,List.getElem?_eq_getElem h];rfl
def fb{α:Type}{l:List α}{d:α}{p:α->Bool}:bF 0 l.length (λi=>p (l.getD i d))=true↔∀x∈l,p x=true:=by
 rw[cH];constructor;intro h x b;obtain⟨i,a,e⟩:=avs b;have:=h i (by omega) a;rwa [dq _ a,e]at this;intro h i _ a;rw[dq _ a];exact h _ (avA a)
def Qu{α:Type}{r:α->α->Prop}(o:∀a b c,r a b->r b c->r a c){l:List α}{d:α}:(∀i,i<l.length->i=0\/r (l.getD (i-1) d) (l.getD i d))↔l.Pairwise r:=by
 constructor;intro h;rw[avr];intro i j g e hij;obtain⟨m,rfl⟩:∃m,j=i+m+1:=⟨j-i-1,by omega⟩
 induction m with
 |zero=>
  rcases h (i+0+1) e with n|f;omega;rwa [show i+0+1-1=i by omega,dq _ g,dq _ e]at f
 |succ m q=>
  have p:=q (by omega) (by omega);rcases h (i+(m+1)+1) e with n|f;omega;rw[show i+(m+1)+1-1=i+m+1 by omega,dq _ (show i+m+1<l.length by omega),dq _ e]at f;exact o _ _ _ p f
 intro h i g;by_cases n:i=0;exact .inl n;rw[dq _ g,dq _ (show i-1<l.length by omega)];exact .inr (avr.1 h _ _ _ _ (by omega))
def oE{α:Type}{r:α->α->Prop}{l:List α}{d:α}:(∀i,i<l.length->∀j,j<i->r (l.getD j d) (l.getD i d))↔l.Pairwise r:=by
 rw[avr];constructor;intro h i j b a e;have:=h j a i e;rwa [dq _ b,dq _ a]at this;intro h i b j a;rw[dq _ b,dq _ (show j<l.length by omega)];exact h _ _ _ _ a
def ly{α β:Type}{f:α->β}{l:List α}{i:Nat}{x d:α}(h:f x=f (l.getD i d)):(l.set i x).map f=l.map f:=by
 by_cases a:i<l.length;rw[dq _ a]at h;rw[List.map_set,h];apply avX (by simp);intro n h1 h2;rw[List.getElem_set];split
 subst_vars;simp
 rfl;rw[List.set_eq_of_length_le (by omega)]
def cx{α:Type}{l:List α}{i:Nat}{d:α}(h:i<l.length):l.getD i d∈l:=by
 rw[dq _ h];exact avA h
def mn{α:Type}{l:List α}{x:α}(d:α)(h:x∈l):∃i,i<l.length/\l.getD i d=x:=by
 obtain⟨i,a,e⟩:=avs h;exact⟨i,a,by rw[dq _ a,e]⟩
def getD_set_ne{α:Type}{l:List α}{n m:Nat}(a d:α)(h:n≠m):(l.set n a).getD m d=l.getD m d:=by
 rw[G6,avL h,<-G6]
def Hw{α:Type}{l:List α}{d:α}{p:α->Bool}{x:α}(a:x∈l)(b:p x=true):∃i,iB l.length (λi=>p (l.getD i d))=some i/\i<l.length/\p (l.getD i d)=true:=by
 cases h:iB l.length (λi=>p (l.getD i d))with
 |some i=>exact⟨i,rfl,(bl.1 h).1,(bl.1 h).2.1⟩
 |none=>
  obtain⟨i,f,e⟩:=mn d a;have:=jP.1 h i f;rw[e,b]at this;cases this
abbrev sS(l:List aR):Prop:=l.Pairwise (λa b=>a.1<b.1)
abbrev ahK(l:List ae):Prop:=l.Pairwise (λa b=>¬a.1=b.1)
def sW{k:Nat}{c:aR}:ek k c=true↔(∀a∈c.2,bA a=true/\dA k a.1=c.1)/\0<c.2.length/\ahK c.2:=by
 unfold ek Cr;rw[f_,f_,fb (p:=λa=>bA a&&decide (dA k a.1=c.1)),decide_eq_true_iff,cH];refine and_congr (by simp) (and_congr avD ?_);unfold ahK;rw[<-oE (d:=ab.aa)];simp only[cH,avu,d_];exact⟨λh i b j e=>h i (by omega) b j (by omega) e,λh i _ b j _ e=>h i b j e⟩
def fj{k:Nat}{p:aq}{q n:Int}:gU k p q n=true↔(∀c∈p.2.2,ek k c=true/\eI c.1 n=q)/\sS p.2.2/\(-1<=p.1/\p.1<=4)/\0<=p.2.1:=by
 unfold gU sS;rw[<-Qu (d:=az.aa) (λa b c e h2=>by omega)];have:∀j,(ek k (p.2.2.getD j az.aa)&&(decide (eI (p.2.2.getD j az.aa).1 n=q)&&xX p.2.2 j))=((ek k (p.2.2.getD j az.aa)&&decide (eI (p.2.2.getD j az.aa).1 n=q))&&xX p.2.2 j):=λj=>(av4 ..).symm;simp only[this,lz,f_,bh,decide_eq_true_iff];have e:=fb (l:=p.2.2) (d:=az.aa) (p:=λc=>ek k c&&decide (eI c.1 n=q));simp only[lz,f_,decide_eq_true_iff]at e;rw[e,and_assoc];refine and_congr avD (and_congr ?_ avD);rw[cH];simp only[xX,sd,beq_iff_eq,decide_eq_true_iff];exact⟨λh i f=>h i (by omega) f,λh i _ f=>h i f⟩
def dm{k:Nat}{l:List aq}:eo k l=true↔(∀i,i<l.length->gU k (l.getD i aj.aa) (i:Int) (l.length:Int)=true)/\1<=l.length/\l.length<=3:=by
 unfold eo;rw[f_,cH];simp only[bh,f_,decide_eq_true_iff];exact and_congr ⟨λh i a=>h i (by omega) a,λh i _ a=>h i a⟩ (by omega)
def TZ{l:List aq}{a:ae}:a∈cn l↔∃p∈l,∃c∈p.2.2,a∈c.2:=by
 simp only[cn,bd,nW,x_]
/-! one part changes-/
def BZ{k:Nat}{l:List aq}{j:Nat}{p:aq}(h:eo k l=true)(b:gU k p (j:Int) (l.length:Int)=true):eo k (l.set j p)=true:=by
 rw[dm]at h|-;rw[W_];refine⟨λi a=> ?_,h.2⟩;by_cases e:j=i;subst e;rw[aT _ _ a];exact b;rw[getD_set_ne _ _ e];exact h.1 i a
def KL{α β:Type}{f:α->List β}{l:List α}{j:Nat}{x d:α}(b:j<l.length):((l.set j x).flatMap f).length+(f (l.getD j d)).length=(l.flatMap f).length+(f x).length:=by
 induction l generalizing j with
 |nil=>simp at b
 |cons a l e=>
  cases j with
  |zero=>simp only[avQ,avw,G9,avM];omega
  |succ j=>
   have:=e (j:=j) (by simpa using b);simp only[List.set_cons_succ,avw,G9,avN];omega
def Hd{α β:Type}{f:α->List β}{l:List α}{j:Nat}{x:α}{b:β}(h:b∈(l.set j x).flatMap f):b∈l.flatMap f\/b∈f x:=by
 obtain⟨y,d,a⟩:=x_.1 h;rcases avl d with e|rfl;exact .inl (x_.2 ⟨y,e,a⟩);exact .inr a
def count_set{l:List aq}{j:Nat}{p:aq}(a:j<l.length):bL (l.set j p)+(bd (l.getD j aj.aa)).length=bL l+(bd p).length:=KL a
/-! locks-/
def aiH{k:Nat}{st:List aq}{j:Nat}{x:Int}(h:eo k st=true)(a:j<st.length)(b: -1<=x/\x<=4):eo k (cG st j x)=true:=by
 refine BZ h ?_;have:=fj.1 ((dm.1 h).1 j a);exact fj.2 ⟨this.1,this.2.1,b,this.2.2.2⟩
def tW{st:List aq}{j:Nat}{x:Int}:cn (cG st j x)=cn st:=by
 unfold cn cG;have:∀l:List aq,l.flatMap bd=(l.map bd).flatten:=λl=>by rw[avH]
 rw[this,this,ly (f:=bd) (l:=st) (i:=j) (x:=(x,(st.getD j aj.aa).2)) (d:=aj.aa) rfl]
/-! putting-/
def I3(a b:ae):(nG a b).1=b.1:=by unfold nG;split<;>rfl
def Xo{a b:ae}(ha:bA a=true)(d:dx b=true):dx (nG a b)=true:=by
 unfold nG;split;unfold dx bA bh at*
 simp only[f_,b_]at*
 refine⟨⟨⟨⟨d.1.1.1.1,?_⟩,?_⟩,d.1.2⟩,d.2⟩<;>(try split)<;>omega;exact d
def gZ{a:ae}(h:dx a=true):bA a=true:=by
 unfold dx at h;simp only[f_]at h;exact h.1
def Es(c:aR)(a:ae):(nL c a).1=c.1:=by unfold nL;split<;>rfl
def WO{c:aR}{a x:ae}(h:x∈(nL c a).2):x∈c.2\/x=a\/∃b∈c.2,x=nG b a:=by
 unfold nL at h;split at h;rename_i i e;rcases avl h with d|d;exact .inl d;exact .inr (.inr ⟨_,cx (bl.1 e).1,d⟩);rcases y_.1 h with d|d;exact .inl d;exact .inr (.inl (by simpa using d))
def Lv(c:aR)(a:ae):(nL c a).2.length=c.2.length+if(jd c.2 a.1).isNone=true then 1 else 0:=by
 unfold nL;split;rename_i i b;simp[b];rename_i b;simp[b]
def aca(c:aR)(a:ae):∃x∈(nL c a).2,x.1=a.1:=by
 unfold nL;split;rename_i i b;exact⟨_,List.mem_set (h:=(bl.1 b).1) ..,I3 _ _⟩;exact⟨a,by simp,rfl⟩
def aik{k:Nat}{c:aR}{a:ae}(h:ek k c=true)(m:dx a=true)(n:dA k a.1=c.1):ek k (nL c a)=true:=by
 rw[sW]at h|-;obtain⟨p,h2,q⟩:=h;refine⟨λx g=> ?_,by rw[Lv];omega,?_⟩;rw[Es];rcases WO g with g|rfl|⟨b,s,rfl⟩;exact p x g;exact⟨gZ m,n⟩;exact⟨gZ (Xo (p b s).1 m),by rw[I3];exact n⟩;unfold nL;split;rename_i i j
 have e:(c.2.set i (nG (c.2.getD i ab.aa) a)).map (·.1)=c.2.map (·.1):=ly (d:=ab.aa) (by
  rw[I3];exact(by simpa using(bl.1 j).2.1:(c.2.getD i ab.aa).1=a.1).symm)
 have o:=(O' (f:=λx:ae=>x.1) (R:=λa b=>¬a=b)).2 q;rw[<-e]at o;exact(O' (f:=λx:ae=>x.1) (R:=λa b=>¬a=b)).1 o;rename_i j;refine avq.2 ⟨q,avn _ _,λx g y r=> ?_⟩;obtain⟨i,l,rfl⟩:=mn ab.aa g;have:=jP.1 j i l;rw[si.1 r];simpa using this
def ah2{l:List aR}{f:Int}(i:Nat)(h:i<lQ l f):(l.getD i az.aa).1<f:=by
 unfold lQ at h;cases e:iB l.length (λi=> !decide ((l.getD i az.aa).1<f))with
 |none=>
  rw[e]at h;have:=jP.1 e i h;simpa using this
 |some j=>
  rw[e]at h;have:=(bl.1 e).2.2 i h;simpa using this
def ah5{l:List aR}{f:Int}(h:lQ l f<l.length):f<=(l.getD (lQ l f) az.aa).1:=by
 unfold lQ at h|-;cases e:iB l.length (λi=> !decide ((l.getD i az.aa).1<f))with
 |none=>rw[e]at h;simp at h
 |some j=>
  have:=(bl.1 e).2.1;simp only[Option.getD_some];simpa using this
def abD{l:List aR}{f:Int}{x:aR}(h:sS l)(r:∀c∈l,¬c.1=f)(q:x.1=f):sS (l.take (lQ l f)++[x]++l.drop (lQ l f)):=by
 have g:∀c∈l.take (lQ l f),c.1<f:=by
  intro c hc;obtain⟨i,p,e⟩:=avs hc;rw[avI]at p;have j:=ah2 (l:=l) (f:=f) i (by omega);rw[dq _ (by omega)]at j;rw[<-e,avz];exact j
 have n:∀c∈l.drop (lQ l f),f<c.1:=by
  intro c hc;obtain⟨i,p,e⟩:=avs hc;rw[avY]at p;have j:=ah5 (l:=l) (f:=f) (by omega);rw[dq _ (by omega)]at j;have h2:=r _ (avA (show lQ l f<l.length by omega));rw[avT]at e;rw[<-e];by_cases o:i=0;subst o;simp only[Nat.add_zero];omega;have:=avr.1 h (lQ l f) (lQ l f+i) (by omega) (by omega) (by omega);omega
 unfold sS at*
 rw[avq,avq];refine⟨⟨h.sublist (avU _ _),avn _ _,λa d b m=> ?_⟩,h.sublist (avV _ _),λa d b m=> ?_⟩;rw[si.1 m,q];exact g a d;have:=n b m;rcases y_.1 d with d|d;have:=g a d;omega;rw[si.1 d,q];exact this
def abB{k:Nat}{p:aq}{s:List ai}(n:sS p.2.2):(iv k p s).2=true↔∃c∈p.2.2,c.1=dA k s/\∃x∈c.2,x.1=s:=by
 unfold iv;constructor;intro h;split at h;cases h;rename_i i f;split at h;cases h;rename_i j g;exact⟨_,cx (bl.1 f).1,by simpa using(bl.1 f).2.1,_,cx (bl.1 g).1,by simpa using(bl.1 g).2.1⟩;rintro⟨c,hc,e,x,u,ex⟩;obtain⟨i,v,w,y⟩:=Hw (d:=az.aa) (p:=λc=>decide (c.1=dA k s)) hc (by simpa using e)
 have o:p.2.2.getD i az.aa=c:=by
  obtain⟨m,z,em⟩:=mn az.aa hc;have h4:(p.2.2.getD i az.aa).1=c.1:=by rw[e];simpa using y
  by_cases b:i=m;rw[b];exact em;have l:=oE (d:=az.aa).2 n;rcases avR b with h6|h6;have:=l m z i h6;rw[em]at this;omega;have:=l i w m h6;rw[em]at this;omega
 obtain⟨j,B,g2,g3⟩:=Hw (d:=ab.aa) (p:=λa=>decide (a.1=s)) u (by simpa using ex);have q:iS p (dA k s)=some i:=v;have r:jd c.2 s=some j:=B;simp only[q,o,r]
def Zs{k:Nat}{p:aq}{s:List ai}(h:(iv k p s).2=true):(iv k p s).1.1=s/\(iv k p s).1∈bd p:=by
 unfold iv at h|-;split at h;cases h;rename_i i b;split at h;cases h;rename_i j a;simp only[b,a];exact⟨by simpa using(bl.1 a).2.1,x_.2 ⟨_,cx (bl.1 b).1,cx (bl.1 a).1⟩⟩
def Zv{k:Nat}{p a:aq}{s:List ai}(h:a.2.2=p.2.2):iv k a s=iv k p s:=by
 unfold iv iS;rw[h]
def yP(k:Nat)(p:aq)(a:ae):(iY k p a).1.2.1=IntKind.i64.wrap (p.2.1+1)/\(iY k p a).1.1=p.1:=by
 unfold iY;split<;>exact⟨rfl,rfl⟩
def afj{k:Nat}{a:ae}(d:dx a=true):ek k (dA k a.1,[a])=true:=
 sW.2 ⟨λx b=>by rw[si.1 b];exact⟨gZ d,rfl⟩,by simp,avn _ _⟩
def WV{p:aq}{f:Int}(h:iS p f=none):∀c∈p.2.2,¬c.1=f:=by
 intro c hc;obtain⟨i,a,rfl⟩:=mn az.aa hc;have:=jP.1 h i a;simpa using this
def air{k:Nat}{p:aq}{a:ae}{q n:Int}(h:gU k p q n=true)(m:dx a=true)(u:eI (dA k a.1) n=q)(hv:p.2.1<4611686018427387904):gU k (iY k p a).1 q n=true:=by
 rw[fj]at h|-;obtain⟨j,s,w,h4⟩:=h;have e:=yP k p a;refine⟨?_,?_,by rw[e.2];exact w,by rw[e.1,wrap64 (by omega) (by omega)];omega⟩;intro c hc;unfold iY at hc;split at hc;rename_i i g;rcases avl hc with hc|rfl;exact j c hc;have l:(p.2.2.getD i az.aa).1=dA k a.1:=by simpa using(bl.1 g).2.1
 have o:=j _ (cx (d:=az.aa) (bl.1 g).1);exact⟨aik o.1 m l.symm,by rw[Es];exact o.2⟩;rcases y_.1 hc with hc|hc;rcases y_.1 hc with hc|hc;exact j c (avB hc);rw[si.1 hc];exact⟨afj m,u⟩;exact j c (avC hc);unfold iY;split;rename_i i g;have v:(p.2.2.set i (nL (p.2.2.getD i az.aa) a)).map (·.1)=p.2.2.map (·.1):=ly (d:=az.aa) (Es _ _);have r:=(O' (f:=λx:aR=>x.1) (R:=λa b=>a<b)).2 s;rw[<-v]at r;exact(O' (f:=λx:aR=>x.1) (R:=λa b=>a<b)).1 r;rename_i g;exact abD s (WV g) rfl
def agb{k:Nat}{p:aq}{a x:ae}(h:x∈bd (iY k p a).1):x∈bd p\/x=a\/∃b∈bd p,x=nG b a:=by
 obtain⟨c,hc,d⟩:=x_.1 h;unfold iY at hc;split at hc;rename_i i f;rcases avl hc with hc|rfl;exact .inl (x_.2 ⟨c,hc,d⟩);have e:p.2.2.getD i az.aa∈p.2.2:=cx (bl.1 f).1;rcases WO d with d|d|⟨b,g,d⟩;exact .inl (x_.2 ⟨_,e,d⟩);exact .inr (.inl d);exact .inr (.inr ⟨b,x_.2 ⟨_,e,g⟩,d⟩);rcases y_.1 hc with hc|hc;rcases y_.1 hc with hc|hc;exact .inl (x_.2 ⟨c,avB hc,d⟩);rw[si.1 hc]at d;exact .inr (.inl (by simpa[nW]using d));exact .inl (x_.2 ⟨c,avC hc,d⟩)
def af8{k:Nat}{p:aq}{a:ae}:(bd (iY k p a).1).length=(bd p).length+if(iY k p a).2=true then 1 else 0:=by
 unfold bd iY;split;rename_i i b;have:=KL (f:=nW) (l:=p.2.2) (j:=i) (x:=nL (p.2.2.getD i az.aa) a) (d:=az.aa) (bl.1 b).1;simp only[nW,Lv]at this|-;omega
 have:(p.2.2.flatMap nW).length=((p.2.2.take (lQ p.2.2 (dA k a.1))).flatMap nW).length+((p.2.2.drop (lQ p.2.2 (dA k a.1))).flatMap nW).length:=by
  rw[<-G9,<-avO,avK]
 simp only[avO,G9,this];simp[nW];omega
def abC{k:Nat}{p:aq}{a:ae}:∃c∈(iY k p a).1.2.2,c.1=dA k a.1/\∃x∈c.2,x.1=a.1:=by
 unfold iY;split;rename_i i b;refine⟨_,List.mem_set (h:=(bl.1 b).1) ..,?_,aca _ _⟩;rw[Es];simpa using(bl.1 b).2.1;exact⟨(dA k a.1,[a]),by simp,rfl,a,by simp,rfl⟩
def iJ{k:Nat}{st:List aq}(h:eo k st=true):st.length≠0:=by have:=(dm.1 h).2;omega
def jA{k:Nat}{st:List aq}{s:List ai}(h:st.length≠0):(bO k st s).toNat<st.length/\((bO k st s).toNat:Int)=bO k st s:=by
 have:=E7 (f:=dA k s) (n:=(st.length:Int)) (by omega);unfold bO;omega
def yU{k:Nat}{st:List aq}{a:ae}(h:st.length≠0):fk k st a=(st.set (bO k st a.1).toNat (iY k (st.getD (bO k st a.1).toNat aj.aa) a).1,(iY k (st.getD (bO k st a.1).toNat aj.aa) a).2):=by
 unfold fk;rw[a_ h]
def XS{k:Nat}{st:List aq}{a:ae}(h:eo k st=true)(g:dx a=true)(q:∀p∈st,p.2.1<4611686018427387904):
 eo k (fk k st a).1=true/\(fk k st a).1.length=st.length/\bL (fk k st a).1=bL st+(if(fk k st a).2=true then 1 else 0)/\
 (bQ k (fk k st a).1 a.1).2=true/\((∀x∈cn st,dx x=true)->∀x∈cn (fk k st a).1,dx x=true):=by
 have j:=iJ h;obtain⟨e,u⟩:=jA (k:=k) (s:=a.1) j;rw[yU j];have r:=(dm.1 h).1 _ e;have m:=air r g (by rw[u];rfl) (q _ (cx e));refine⟨BZ h m,by simp,?_,?_,?_⟩;have:=count_set (l:=st) (p:=(iY k (st.getD (bO k st a.1).toNat aj.aa) a).1) e;have:=af8 (k:=k) (p:=st.getD (bO k st a.1).toNat aj.aa) (a:=a);dsimp only;omega;unfold bQ;rw[a_ (by simpa using j),show bO k (st.set (bO k st a.1).toNat (iY k (st.getD (bO k st a.1).toNat aj.aa) a).1) a.1=bO k st a.1 by unfold bO;rw[W_],aT _ _ e];exact(abB (fj.1 m).2.1).2 abC;intro f x d;rcases Hd d with d|d;exact f x d;have n:∀y∈bd (st.getD (bO k st a.1).toNat aj.aa),y∈cn st:=λy o=>x_.2 ⟨_,cx e,o⟩;rcases agb d with d|rfl|⟨b,v,rfl⟩;exact f x (n x d);exact g;exact Xo (gZ (f b (n b v))) g
def BN{k:Nat}{st:List aq}{s:List ai}(h:(bQ k st s).2=true):(bQ k st s).1.1=s/\(bQ k st s).1∈cn st:=by
 unfold bQ at h|-;split at h;cases h;rename_i a;rw[a_ a];have:=Zs h;exact⟨this.1,x_.2 ⟨_,cx (jA a).1,this.2⟩⟩
def Zy{k:Nat}{st a:List aq}{s:List ai}(b:a.length=st.length)(h:(a.getD (bO k st s).toNat aj.aa).2.2=(st.getD (bO k st s).toNat aj.aa).2.2):bQ k a s=bQ k st s:=by
 unfold bQ;rw[b,show bO k a s=bO k st s by unfold bO;rw[b],Zv h]
def agM{k:Nat}{p:aq}{a:ae}(hp:sS p.2.2):(iY k p a).2= !(iv k p a.1).2:=by
 unfold iY iv;cases h:iS p (dA k a.1)with
 |none=>rfl
 |some i=>cases b:jd (p.2.2.getD i az.aa).2 a.1<;>simp only[b]<;>rfl
def UO{k:Nat}{st:List aq}{a:ae}(h:eo k st=true):(fk k st a).2= !(bQ k st a.1).2:=by
 have b:=iJ h;obtain⟨d,h2⟩:=jA (k:=k) (s:=a.1) b;rw[yU b];unfold bQ;rw[a_ b];exact agM (fj.1 ((dm.1 h).1 _ d)).2.1
/-! sweeping-/
def IF{M:Int}{l:List ae}{a:ae}:a∈fx M l->a∈l:=by
 unfold fx;intro h;exact(avJ.1 h).1
def afP{k:Nat}{M:Int}{c:aR}(h:ek k c=true)(d:0<(lN M c).2.length):ek k (lN M c)=true:=by
 rw[sW]at h|-;refine⟨λa b=>h.1 a (IF b),d,?_⟩;unfold lN fx;exact h.2.2.filter _
def YV{M:Int}{l:List aR}{c:aR}(h:c∈nv M l):0<c.2.length/\∃b∈l,c=lN M b:=by
 unfold nv at h;obtain⟨a,d⟩:=avJ.1 h;obtain⟨b,f,e⟩:=List.mem_map.1 a;exact⟨by simpa using d,b,f,e.symm⟩
def afU{M:Int}{l:List aR}(h:sS l):sS (nv M l):=by
 unfold nv sS;refine List.Pairwise.filter _ ?_;exact O'.2 h
def aeP{k:Nat}{p:aq}{M q n:Int}(h:gU k p q n=true)(hv:p.2.1<4611686018427387904):gU k (gj p M) q n=true:=by
 rw[fj]at h|-;obtain⟨a,e,f,g⟩:=h;refine⟨λc hc=> ?_,afU e,f,?_⟩;obtain⟨j,b,d,rfl⟩:=YV hc;exact⟨afP (a b d).1 j,(a b d).2⟩;unfold gj;dsimp only;split;rw[wrap64 (by omega) (by omega)];omega;exact g
def YI(M:Int)(l:List ae):(fx M l).length+(ni M l).length=l.length:=by
 unfold fx ni
 induction l with
 |nil=>rfl
 |cons a l b=>
  simp only[avZ];by_cases h:a.2.2.1<=M;simp[h]at b|-;omega;simp[h]at b|-;omega
def afi(M:Int)(l:List aR):(nv M l).flatMap nW=l.flatMap λc=>fx M c.2:=by
 unfold nv
 induction l with
 |nil=>rfl
 |cons c l a=>
  simp only[List.map_cons,avZ,avw];by_cases h:(0:Nat)<(lN M c).2.length;simp only[c_ h,if_true,avw,a];rfl;simp only[decide_eq_false h,avm,if_false,a];have:fx M c.2=[]:=List.eq_nil_of_length_eq_zero (by unfold lN at h;simpa using h);rw[this];rfl
def HT(p:aq)(M:Int):(bd (gj p M)).length+(e9 M p.2.2).length=(bd p).length:=by
 unfold bd gj e9;simp only[afi]
 induction p.2.2 with
 |nil=>rfl
 |cons c l a=>
  simp only[avw,G9,nW]at a|-;have:=YI M c.2;omega
def ad1{p:aq}{M:Int}{a:ae}(h:a∈bd (gj p M)):a∈bd p:=by
 obtain⟨c,hc,d⟩:=x_.1 h;obtain⟨g1,b,e,rfl⟩:=YV hc;exact x_.2 ⟨b,e,IF d⟩
def abi{k:Nat}{p:aq}{M q n:Int}(h:gU k p q n=true)(d:¬0<(e9 M p.2.2).length):gj p M=p:=by
 have f:=(fj.1 h).1;unfold gj;rw[a_ d]
 have j:∀c∈p.2.2,lN M c=c:=by
  intro c hc
  have l:ni M c.2=[]:=by
   refine List.eq_nil_iff_forall_not_mem.2 λa e=>d ?_;exact List.length_pos_of_mem (x_.2 ⟨c,hc,e⟩)
  have b:=YI M c.2;rw[l]at b
  have m:fx M c.2=c.2:=by
   unfold fx at b|-;exact(List.filter_sublist).eq_of_length (by simpa using b)
  unfold lN;rw[m]
 have:nv M p.2.2=p.2.2:=by
  unfold nv;rw[List.map_congr_left (g:=id) (λc hc=>j c hc),List.map_id];refine List.filter_eq_self.2 λc hc=> ?_;simpa using(sW.1 (f c hc).1).2.1
 rw[this]
def yh(k:Nat)(ti:Int)(l:List ay):Prop:=∀d∈l,gg k d=true/\d.2.2.2.2.2.2.2.2.2.1<ti/\d.2.2.2.2.2.2.2.2.2.2.1<ti/\d.2.2.2.2.2.2.2.2.2.2.2<ti
structure Hf(k:Nat)(c:bw)(st:List aq):Prop where
 ok:eo k st=true
 len:(st.length:Int)=c.1
 cap:(bL st:Int)<=c.2.1
 fit:∀a∈cn st,dx a=true
structure EN(c:bw)(V:List bp)(T U:List ae):Prop where
 len:(V.length:Int)=c.2.2.1
 sub:∀s∈V,gK s=true
 fee:∀a∈T,bA a=true
 sai:∀a∈U,bA a=true
structure yi(k:Nat)(st:List aq)(A:List aA)(gr:Int):Prop where
 pt:∀q,q<st.length->∀j,j<5->(br k (A.getD j ah.aa) st.length=(q:Int)↔(st.getD q aj.aa).1=(j:Int))
 gp:∀j,j<5->(cW (A.getD j ah.aa)=true↔gr=(j:Int))
 gr: -1<=gr/\gr<=4
structure Ag(c:bw)(M:Int)(D:List ar)(nn:Int)(Q:List aI)(t4:aA):Prop where
 go:fD D c.2.2.2.2.2=true
 ho:mF Q=true
 tm:∀x∈Q,x.2<nn
 ap:Q.Pairwise (λa b=>¬a.2=b.2)
 td:∀g∈D,g.2.2.1<=M/\g.2.2.2.1<=M/\g.1<nn/\((∃x∈Q,x.2=g.1/\x.1=lP c g)\/(t4.1=6/\t4.2.2.2.2.2.2.2.1=g.1))
def yB(k:Nat)(c1:Int)(st:List aq)(nn:Int)(t:aA)(d:ay):Bool:=
 if t.1=1 then
  decide (d.1=1)&&(if t.2.1=2 then decide (d.2.2.1.1=t.2.2.1.1)&&(bQ k st t.2.2.1.1).2&&decide ((bQ k st t.2.2.1.1).1=t.2.2.1)else decide (d.2.2.1=t.2.2.1)&&dx t.2.2.1)
 else if t.1=2 then decide (d.1=3)&&decide (d.2.2.2.1=t.2.2.2.1)
 else if t.1=3 then decide (d.1=4)&&((if t.2.1=2 then decide ((t.2.2.2.2.2.1.length:Int)=c1)else decide (t.2.2.2.2.1<c1))&&ei st t)
 else if t.1=4 then decide (d.1=6)&&decide (t.2.2.2.2.1<c1)
 else if t.1=5 then decide (d.1=7)&&decide (d.2.2.1=t.2.2.1)
 else decide (d.1=8)&&(decide (d.2.2.2.2.2.1=t.2.2.2.2.2.2.2.1)&&decide (t.2.2.2.2.2.2.2.1<nn))
def dv(k:Nat)(c1:Int)(st:List aq)(nn m:Int)(t:aA)(d:ay)(n:Int):Bool:=
 dR t n&&(decide (t.1=0)||(decide (t.2.2.2.2.2.2.2.2<m)&&(decide (d.2.1=n)&&decide (d.2.2.2.2.2.2.2.2.2.2.2= -1)&&
  decide ((¬d.2.2.2.2.2.2.2.2.2.2.1= -1)↔(t.1=1/\t.2.1=2))&&yB k c1 st nn t d)))
def TaR(k:Nat)(c1:Int)(st:List aq)(nn:Int)(A:List aA)(E:List ay):Prop:=
 ∀i,i<5->dv k c1 st nn (E.length:Int) (A.getD i ah.aa) (E.getD (bn (A.getD i ah.aa)).toNat aw.aa) (i:Int)=true
structure Rt(k:Nat)(c:bw)(ti M:Int)(st:List aq)(V:List bp)(T:List ae)(gr:Int)(D:List ar)(nn:Int)(Q:List aI)(U:List ae)
 (A:List aA) (E:List ay):Prop where
 cf:dS c=true
 ti0:0<=ti
 nn0:0<=nn
 nw:0<=M/\M<=99899
 sto:Hf k c st
 sub:EN c V T U
 dee:yh k ti E
 tl:A.length=5
 tas:TaR k c.1 st nn A E
 loc:yi k st A gr
 grp:Ag c M D nn Q (A.getD 4 ah.aa)
def XJ{l:List ae}{a:ae}:a∈dp l↔a∈l:=by
 unfold dp;exact(pB ee l).mem_iff
def aip{α:Type}{l:List α}{d:α}{p:α->Bool}:(!bF 0 l.length (λi=> !p (l.getD i d)))=true↔∃x∈l,p x=true:=by
 rw[avu,<-av0,fb (p:=λx=> !p x)];simp
def adQ{c:bw}{ti M gr nn:Int}{st:List aq}{V:List bp}{T U:List ae}{D:List ar}{Q:List aI}{Z:List bE}{A:List aA}{E:List ay}:
 eJ (c,ti,M,st,V,T,gr,D,nn,Q,Z,U,A,E)=true↔Ag c M D nn Q (A.getD 4 ah.aa):=by
 unfold eJ uq uv;simp only[f_]
 rw[lz,f_,fb (l:=Q) (d:=aL.aa) (p:=λx=>decide (x.2<nn)),
  fb (l:=D) (d:=ak.aa) (p:=λg=>(decide (g.2.2.1<=M)&&(decide (g.2.2.2.1<=M)&&decide (g.1<nn)))&&gl (c,ti,M,st,V,T,gr,D,nn,Q,Z,U,A,E) g Q.length)]
 have b:∀g:ar,gl (c,ti,M,st,V,T,gr,D,nn,Q,Z,U,A,E) g Q.length=true↔((∃x∈Q,x.2=g.1/\x.1=lP c g)\/((A.getD 4 ah.aa).1=6/\(A.getD 4 ah.aa).2.2.2.2.2.2.2.1=g.1)):=by
  intro g;unfold gl MN;rw[sd];refine or_congr ?_ ?_;refine(aip (l:=Q) (d:=aL.aa) (p:=λx=>decide (x.2=g.1)&&decide (x.1=lP c g))).trans ?_;simp only[f_,b_];dsimp only;split;rename_i h;simp only[b_]at h|-;exact⟨λa=>⟨h,a⟩,λa=>a.2⟩;rename_i h;simp only[b_]at h|-;exact⟨λa=>(by cases a),λa=>absurd a.1 h⟩
 constructor;rintro⟨a,q,⟨r,e⟩,s⟩;refine⟨a,q,λx f=>e_ (r x f),?_,λg m=> ?_⟩;rw[<-oE (d:=aL.aa)];intro i n j o;have:=cH.1 (cH.1 e i (by omega) n) j (by omega) o;simpa using this;have:=s g m;simp only[f_,b_,b]at this;exact⟨this.1.1,this.1.2.1,this.1.2.2,this.2⟩;rintro⟨a,q,r,e,s⟩;refine⟨a,q,⟨λx f=>c_ (r x f),?_⟩,λg m=> ?_⟩;rw[<-oE (d:=aL.aa)]at e;refine cH.2 λi _ n=>cH.2 λj _ o=> ?_;simpa using e i n j o;have:=s g m;simp only[f_,b_,b];exact⟨⟨this.1,this.2.1,this.2.2.1⟩,this.2.2.2⟩
def UL{k:Nat}{c:bw}{ti M gr nn:Int}{st:List aq}{V:List bp}{T U:List ae}{D:List ar}{Q:List aI}{Z:List bE}{A:List aA}{E:List ay}(g:A.length=5):
 kt k (c,ti,M,st,V,T,gr,D,nn,Q,Z,U,A,E)=true↔yi k st A gr:=by
 unfold kt cC fF;simp only[f_,cH,beq_iff_eq,g,bh,b_,decide_eq_decide];constructor;rintro⟨d,e,f⟩;exact⟨λq b j a=>d q (by omega) b j (by omega) a,λj a=>by have:=e j (by omega) a;rw[this];simp,f⟩;rintro⟨d,e,f⟩;refine⟨λq _ b j _ a=>d q b j a,λj _ a=> ?_,f⟩;rw[Bool.eq_iff_iff,e j a];simp
def cw{k:Nat}{c:bw}{ti M gr nn:Int}{st:List aq}{V:List bp}{T U:List ae}{D:List ar}{Q:List aI}{Z:List bE}{A:List aA}{E:List ay}:
 bC k (c,ti,M,st,V,T,gr,D,nn,Q,Z,U,A,E)=true↔Rt k c ti M st V T gr D nn Q U A E:=by
 unfold bC ic n7 ix bT uO;simp only[f_,b_,adQ]
 rw[fb (d:=ab.aa) (p:=dx),fb (d:=ab.aa) (p:=bA),fb (d:=ab.aa) (p:=bA),fb (d:=bj.aa) (p:=gK),
  fb (l:=E) (d:=aw.aa) (p:=λd=>oq k (c,ti,M,st,V,T,gr,D,nn,Q,Z,U,A,E) d)]
 have r:bh M 0 99899=true↔0<=M/\M<=99899:=by unfold bh;simp
 have s:(∀d∈E,oq k (c,ti,M,st,V,T,gr,D,nn,Q,Z,U,A,E) d=true)↔yh k ti E:=by
  unfold yh oq;simp only[f_,b_]
 have u:(∀a∈dp (cn st),dx a=true)↔∀a∈cn st,dx a=true:=by
  constructor;intro h a e;exact h a (XJ.2 e);intro h a e;exact h a (XJ.1 e)
 have q:∀b:A.length=5,bF 0 A.length (λi=>dB k (c,ti,M,st,V,T,gr,D,nn,Q,Z,U,A,E) (A.getD i ah.aa) (na (c,ti,M,st,V,T,gr,D,nn,Q,Z,U,A,E) (A.getD i ah.aa)) i)=true↔TaR k c.1 st nn A E:=by
  intro b;rw[cH,b];exact⟨λh i f=>h i (by omega) f,λh i _ f=>h i f⟩
 rw[r,s,u];constructor;rintro⟨g,j,m,n,⟨o,h6,h7,h8⟩,h9,xw,DL,qX,zM,Ou,Ub,h16,h17⟩;have b:A.length=5:=by omega
 exact⟨g,j,m,n,⟨o,h6,h7,h8⟩,⟨h9,zM,DL,qX⟩,Ou,b,(q b).1 Ub,(UL b).1 h16,h17⟩;rintro⟨g,j,m,n,⟨o,h6,h7,h8⟩,⟨h9,zM,DL,qX⟩,Ou,b,Ub,h16,h17⟩;exact⟨g,j,m,n,⟨o,h6,h7,h8⟩,h9,by show(A.length:Int)=5;omega,DL,qX,zM,Ou,(q b).2 Ub,(UL b).2 h16,h17⟩
structure jc(i:Nat)(st st':List aq):Prop where
 len:st'.length=st.length
 pt:∀p,p<st.length->(st'.getD p aj.aa).2=(st.getD p aj.aa).2\/((st.getD p aj.aa).1=(i:Int)/\(st.getD p aj.aa).2.1<(st'.getD p aj.aa).2.1)
structure fL(i:Nat)(l l':List ay):Prop where
 len:l.length<=l'.length
 at_:∀n,n<l.length->¬(l.getD n aw.aa).2.1=(i:Int)->l'.getD n aw.aa=l.getD n aw.aa
def zN{st:List aq}{t:aA}:ei st t=true↔(∀i,i<t.2.2.2.2.2.1.length->t.2.2.2.2.2.1.getD i 0<=(st.getD i aj.aa).2.1)/\
 ((∀i,i<t.2.2.2.2.2.1.length->t.2.2.2.2.2.1.getD i 0=(st.getD i aj.aa).2.1)->(st.take t.2.2.2.2.2.1.length).flatMap bd=t.2.2.2.2.2.2.1):=by
 unfold ei Ek;rw[f_,cH,sd,avu,<-av0];unfold gF;rw[cH];simp only[avu,d_,b_];refine and_congr ⟨λh i a=>by have:=h i (by omega) a;omega,λh i _ a=>by have:=h i a;omega⟩ ?_;constructor;rintro(h|h) g;exact absurd (λi _ a=>g i a) h;exact h;intro h;by_cases g:∀i,i<t.2.2.2.2.2.1.length->t.2.2.2.2.2.1.getD i 0=(st.getD i aj.aa).2.1;exact .inr (h g);exact .inl λb=>g λi a=>b i (by omega) a
def RF{st a:List aq}{n:Nat}(e:a.length=st.length)(h:∀p,p<n->p<st.length->(a.getD p aj.aa).2=(st.getD p aj.aa).2):
 (a.take n).flatMap bd=(st.take n).flatMap bd:=by
 rw[avH,avH];congr 1;apply avX (by simp[e]);intro p b d;simp only[List.length_map,avI]at b d;have:=h p (by omega) (by omega);rw[dq _ (by omega),dq _ (by omega)]at this;simp only[List.getElem_map,avz];unfold bd;rw[this]
def HY{i:Nat}{st d:List aq}{t:aA}(hs:jc i st d)(hl:t.2.2.2.2.2.1.length<=st.length)(h:ei st t=true):ei d t=true:=by
 rw[zN]at h|-
 have f:∀p,p<st.length->(st.getD p aj.aa).2.1<=(d.getD p aj.aa).2.1:=by
  intro p a;rcases hs.pt p a with e|e;rw[e];exact I_ _;omega
 refine⟨λp a=>Int.le_trans (h.1 p a) (f p (by omega)),λg=> ?_⟩
 have b:∀p,p<t.2.2.2.2.2.1.length->(d.getD p aj.aa).2=(st.getD p aj.aa).2:=by
  intro p a;rcases hs.pt p (by omega)with e|e;exact e;have:=g p a;have:=h.1 p a;omega
 rw[RF hs.len (λp a _=>b p a)];exact h.2 λp a=>by rw[g p a,b p a]
def Kq{k:Nat}{c1 nn m b e n:Int}{st a:List aq}{t:aA}{d:ay}(h:dv k c1 st nn m t d n=true)(hm:m<=e)(hn:nn<=b)
 (hput:t.1=1->t.2.1=2->bQ k a t.2.2.1.1=bQ k st t.2.2.1.1) (hsee:t.1=3->ei st t=true->ei a t=true):dv k c1 a b e t d n=true:=by
 unfold dv yB at*
 grind
def aaV{k:Nat}{c1 nn m n:Int}{st:List aq}{t:aA}{d:ay}(h:dv k c1 st nn m t d n=true)(hc:(st.length:Int)=c1)(h3:t.1=3):t.2.2.2.2.2.1.length<=st.length:=by
 unfold dv yB dR bh at h;grind
def AD{k:Nat}{c1 nn m n:Int}{st:List aq}{t:aA}{d:ay}(h:dv k c1 st nn m t d n=true)(h0:¬t.1=0):d.2.1=n/\0<=bn t/\bn t<m:=by
 unfold dv dR bh at h;unfold bn;grind
def M4{k:Nat}{c1 nn m n a e:Int}{st b:List aq}{t:aA}{d d':ay}(h:dv k c1 st nn m t d n=true)(h0:t.1=0):dv k c1 b a e t d' n=true:=by
 unfold dv at*
 grind
def agU{k:Nat}{c1 nn d gr:Int}{st f:List aq}{A:List aA}{E a:List ay}{i:Nat}{t':aA}(hi:i<5)(tl:A.length=5)(hc:(st.length:Int)=c1)(v:st.length≠0)
 (w:yi k st A gr) (h:TaR k c1 st nn A E) (hs:jc i st f) (x:nn<=d) (l:fL i E a)
 (y:dv k c1 f d (a.length:Int) t' (a.getD (bn t').toNat aw.aa) (i:Int)=true):TaR k c1 f d (A.set i t') a:=by
 intro j g;by_cases e:i=j;subst e;rw[aT _ _ (by omega)];exact y;rw[getD_set_ne _ _ e];have b:=h j g;by_cases m:(A.getD j ah.aa).1=0;exact M4 b m;obtain⟨z,b2,b3⟩:=AD b m;rw[l.at_ _ (by omega) (by rw[z];omega)];refine Kq b (by have:=l.len;omega) x (λp q=> ?_) (λr u=>HY hs (aaV b hc r) u);refine Zy hs.len ?_;obtain⟨n,B⟩:=jA (k:=k) (s:=(A.getD j ah.aa).2.2.1.1) v
 have hold:br k (A.getD j ah.aa) st.length=((bO k st (A.getD j ah.aa).2.2.1.1).toNat:Int):=by
  unfold br;rw[a_ (by omega),an ⟨p,.inr q⟩,B];rfl
 have hh:=(w.pt _ n j g).1 hold;rcases hs.pt _ n with o|o;rw[o];omega
def C8{k:Nat}{gr l:Int}{st f:List aq}{A:List aA}{i:Nat}{t t':aA}(hi:i<5)(tl:A.length=5)(m:yi k st A gr)(u:A.getD i ah.aa=t)(v:f.length=st.length)
 (w:∀q,q<st.length->(f.getD q aj.aa).1=if br k t' st.length=(q:Int)then(i:Int)else if br k t st.length=(q:Int)then-1 else(st.getD q aj.aa).1)
 (x:∀q,q<st.length->br k t' st.length=(q:Int)->br k t st.length=(q:Int)\/(st.getD q aj.aa).1= -1)
 (o:l=if cW t'=true then(i:Int)else if cW t=true then-1 else gr) (p:cW t'=true->cW t=true\/gr= -1):yi k f (A.set i t') l:=by
 subst u;refine⟨λq g j n=> ?_,λj n=> ?_,?_⟩;rw[v]at g|-;have r:=m.pt q g j n;have d:=m.pt q g i hi;have s:=w q g;have y:=x q g;by_cases e:i=j;subst e;rw[aT _ _ (by omega),s];by_cases b:br k t' st.length=(q:Int)
 simp[b];rw[a_ b];by_cases a:br k (A.getD i ah.aa) st.length=(q:Int)
 rw[an a];constructor;intro h;exact absurd h b;intro h;omega;rw[a_ a];constructor;intro h;exact absurd h b;intro h;exact absurd (d.2 h) a;rw[getD_set_ne _ _ e,s,r];by_cases b:br k t' st.length=(q:Int)
 rw[an b];rcases y b with a|a;have:=d.1 a;omega;omega;rw[a_ b];by_cases a:br k (A.getD i ah.aa) st.length=(q:Int)
 rw[an a];have:=d.1 a;omega;rw[a_ a];have r:=m.gp j n;have d:=m.gp i hi;by_cases e:i=j;subst e;rw[aT _ _ (by omega),o];by_cases b:cW t'=true;simp[b];rw[a_ b];by_cases a:cW (A.getD i ah.aa)=true;rw[an a];constructor;intro h;exact absurd h b;intro h;omega;rw[a_ a];constructor;intro h;exact absurd h b;intro h;exact absurd (d.2 h) a;rw[getD_set_ne _ _ e,o,r];by_cases b:cW t'=true;rw[an b];rcases p b with a|a;have:=d.1 a;omega;omega;rw[a_ b];by_cases a:cW (A.getD i ah.aa)=true;rw[an a];have:=d.1 a;omega;rw[a_ a];have:=m.gr;rw[o];split;omega;split<;>omega
/-! E-/
theorem yh.up{k:Nat}{ti a:Int}{l:List ay}(h:yh k ti l)(ht:ti<=a):yh k a l:=λd b=>by
 have:=h d b;exact⟨this.1,by omega,by omega,by omega⟩
theorem yh.app{k:Nat}{ti:Int}{l:List ay}{d:ay}(h:yh k ti l)(b:gg k d=true/\d.2.2.2.2.2.2.2.2.2.1<ti/\d.2.2.2.2.2.2.2.2.2.2.1<ti/\d.2.2.2.2.2.2.2.2.2.2.2<ti):yh k ti (l++[d]):=λx a=>by
 rcases y_.1 a with a|a;exact h x a;rw[si.1 a];exact b
theorem yh.put{k:Nat}{ti:Int}{l:List ay}{d:ay}{n:Nat}(h:yh k ti l)(b:gg k d=true/\d.2.2.2.2.2.2.2.2.2.1<ti/\d.2.2.2.2.2.2.2.2.2.2.1<ti/\d.2.2.2.2.2.2.2.2.2.2.2<ti):yh k ti (l.set n d):=λx a=>by
 rcases avl a with a|rfl;exact h x a;exact b
theorem fL.refl(i:Nat)(l:List ay):fL i l l:=⟨avx _,λ_ _ _=>rfl⟩
theorem fL.app(i:Nat)(l:List ay)(d:ay):fL i l (l++[d]):=⟨by simp,λn a _=>by
 rw[G6,avy a,<-G6]⟩
theorem fL.put{i:Nat}{l:List ay}{n:Nat}{d:ay}(h:(l.getD n aw.aa).2.1=(i:Int)):fL i l (l.set n d):=⟨by simp,λm hm a=>by
 by_cases e:n=m;subst e;exact absurd h a;rw[getD_set_ne _ _ e]⟩
theorem fL.trans{i:Nat}{l o b:List ay}(h:fL i l o)(p:fL i o b):fL i l b:=⟨avS h.len p.len,λn e a=>by
 rw[<-h.at_ n e a];exact p.at_ n (Nat.lt_of_lt_of_le e h.len) (by rw[h.at_ n e a];exact a)⟩
theorem jc.refl(i:Nat)(st:List aq):jc i st st:=⟨rfl,λ_ _=> .inl rfl⟩
theorem jc.held(i:Nat)(st:List aq)(j:Nat)(x:Int):jc i st (cG st j x):=by
 refine⟨by simp[cG],λp a=> .inl ?_⟩;unfold cG;by_cases e:j=p;subst e;rw[aT _ _ a];rw[getD_set_ne _ _ e]
def tZ{k:Nat}{c1 nn m:Int}{st:List aq}{d:ay}{i:Nat}(hi:i<5):dv k c1 st nn m zT d (i:Int)=true:=by
 unfold dv dR bh;have a:decide ((0:Int)<=(i:Int))=true:=c_ (by omega);have b:decide ((i:Int)<=4)=true:=c_ (by omega);simp[a,b,zT]
def GR{k:Nat}{op i n M ti:Int}{a:ae}{l:List ai}(ho:1<=op/\op<=9)(hi: -1<=i/\i<=4)(hn:0<=n)(hw:0<=M)(ht:0<=ti):
 gg k (op,i,a,l,0,n,0,[],M,ti,-1,-1)=true:=by
 unfold gg bh;simp;omega
def yI{k:Nat}{s x:Bool}{d:ay}{M ti code:Int}{got:List ae}(h:gg k d=true)(hw:0<=M)(h1:d.2.2.2.2.2.2.2.2.2.1<ti)(h2:d.2.2.2.2.2.2.2.2.2.2.1<ti)(ht:0<=ti)(hc:code∈gM d.1):
 gg k (eC s x d M ti code got)=true/\(eC s x d M ti code got).2.2.2.2.2.2.2.2.2.1<ti+1/\(eC s x d M ti code got).2.2.2.2.2.2.2.2.2.2.1<ti+1/\(eC s x d M ti code got).2.2.2.2.2.2.2.2.2.2.2<ti+1:=by
 obtain⟨op,task,a,l,i,n,cd,gt,nw,inv,b,res⟩:=d;unfold eC oQ Ez sr ER pN dh;unfold gg bh at*
 simp only[f_,sd,b_]at*
 by_cases e:b= -1;subst e;cases s<;>cases x<;>simp[hc]<;>omega;cases s<;>cases x<;>simp[e]at h|-<;>(refine⟨⟨?_,h.2⟩,?_,?_⟩<;>omega)
def wv{ti:Int}(h0:0<=ti)(h:ti<4611686018427387904):tick ti=ti+1:=by
 unfold tick;rw[wrap64 (by omega) (by omega)]
def eD{k:Nat}{t:aA}{n:Int}(h:t.2.1=0\/t.1=0\/5<=t.1\/(t.1=3/\t.2.1=2)):br k t n= -1:=by
 unfold br;grind
def vw{k:Nat}{t:aA}{st:List aq}(a:st.length≠0)(h:t.1=1)(b:t.2.1=1\/t.2.1=2):br k t st.length=((bO k st t.2.2.1.1).toNat:Int):=by
 rw[(jA a).2];unfold br;rw[a_ (by omega),an ⟨h,b⟩];rfl
def EY{k:Nat}{t:aA}{st:List aq}(a:st.length≠0)(h:t.1=2)(b:t.2.1=1):br k t st.length=((bO k st t.2.2.2.1).toNat:Int):=by
 rw[(jA a).2];unfold br;rw[a_ (by omega),a_ (by omega),an ⟨h,b⟩];rfl
def Eu{k:Nat}{t:aA}{st:List aq}(h0:st.length≠0)(h:t.1=3\/t.1=4)(a:t.2.1=1):br k t st.length=t.2.2.2.2.1:=by
 unfold br;rw[a_ (by omega),a_ (by omega),a_ (by omega),an ⟨h,a⟩]
def gW{t:aA}(h:t.1<5\/t.2.1=0):cW t=false:=by
 unfold cW;have:¬((t.1=5\/t.1=6)/\t.2.1=1):=by omega
 simpa using this
def kU{k:Nat}{c1 nn m n:Int}{st:List aq}{t:aA}{d:ay}(a:t.1=1):dv k c1 st nn m t d n=true↔
 (0<=n/\n<3/\0<=t.2.2.2.2.2.2.2.2/\0<=t.2.1/\t.2.1<=2/\bA t.2.2.1=true/\t.2.2.2.1=[]/\t.2.2.2.2.1=0/\t.2.2.2.2.2.1=[]/\t.2.2.2.2.2.2.1=[]/\t.2.2.2.2.2.2.2.1=0)/\
 t.2.2.2.2.2.2.2.2<m/\d.2.1=n/\d.2.2.2.2.2.2.2.2.2.2.2= -1/\(¬d.2.2.2.2.2.2.2.2.2.2.1= -1↔t.2.1=2)/\d.1=1/\
 (if t.2.1=2 then d.2.2.1.1=t.2.2.1.1/\(bQ k st t.2.2.1.1).2=true/\(bQ k st t.2.2.1.1).1=t.2.2.1 else d.2.2.1=t.2.2.1/\dx t.2.2.1=true):=by
 unfold dv yB dR bh tc;by_cases b:t.2.1=2;simp only[a,b,if_true,f_,sd,b_];grind;simp only[a,b,if_true,if_false,f_,sd,b_];grind
def kP{k:Nat}{c1 nn m n:Int}{st:List aq}{t:aA}{d:ay}(a:t.1=2):dv k c1 st nn m t d n=true↔
 (0<=n/\n<3/\0<=t.2.2.2.2.2.2.2.2/\0<=t.2.1/\t.2.1<=1/\t.2.2.1=c9/\dP t.2.2.2.1=true/\t.2.2.2.2.1=0/\t.2.2.2.2.2.1=[]/\t.2.2.2.2.2.2.1=[]/\t.2.2.2.2.2.2.2.1=0)/\
 t.2.2.2.2.2.2.2.2<m/\d.2.1=n/\d.2.2.2.2.2.2.2.2.2.2.2= -1/\d.2.2.2.2.2.2.2.2.2.2.1= -1/\d.1=3/\d.2.2.2.1=t.2.2.2.1:=by
 unfold dv yB dR bh tc;simp only[a,if_true,if_false,f_,sd,b_];grind
def fh{k:Nat}{c1 nn m n:Int}{st:List aq}{t:aA}{d:ay}(a:t.1=3):dv k c1 st nn m t d n=true↔
 (0<=n/\n<3/\0<=t.2.2.2.2.2.2.2.2/\0<=t.2.1/\t.2.1<=2/\t.2.2.1=c9/\t.2.2.2.1=[]/\mA t.2.2.2.2.2.1=true/\(t.2.2.2.2.2.1.length:Int)=t.2.2.2.2.1/\bT t.2.2.2.2.2.2.1=true/\t.2.2.2.2.2.2.2.1=0)/\
 t.2.2.2.2.2.2.2.2<m/\d.2.1=n/\d.2.2.2.2.2.2.2.2.2.2.2= -1/\d.2.2.2.2.2.2.2.2.2.2.1= -1/\d.1=4/\ei st t=true/\
 (if t.2.1=2 then 1<=t.2.2.2.2.1/\t.2.2.2.2.1<=3/\t.2.2.2.2.1=c1 else 0<=t.2.2.2.2.1/\t.2.2.2.2.1<=2/\t.2.2.2.2.1<c1):=by
 unfold dv yB dR bh tc;by_cases b:t.2.1=2;simp only[a,b,if_true,if_false,f_,sd,b_];grind;simp only[a,b,if_true,if_false,f_,sd,b_];grind
def kQ{k:Nat}{c1 nn m n:Int}{st:List aq}{t:aA}{d:ay}(a:t.1=4):dv k c1 st nn m t d n=true↔
 (0<=n/\n<3/\0<=t.2.2.2.2.2.2.2.2/\0<=t.2.1/\t.2.1<=1/\t.2.2.1=c9/\t.2.2.2.1=[]/\0<=t.2.2.2.2.1/\t.2.2.2.2.1<=2/\t.2.2.2.2.2.1=[]/\t.2.2.2.2.2.2.1=[]/\t.2.2.2.2.2.2.2.1=0)/\
 t.2.2.2.2.2.2.2.2<m/\d.2.1=n/\d.2.2.2.2.2.2.2.2.2.2.2= -1/\d.2.2.2.2.2.2.2.2.2.2.1= -1/\d.1=6/\t.2.2.2.2.1<c1:=by
 unfold dv yB dR bh tc;simp only[a,if_true,if_false,f_,sd,b_];grind
def mL{k:Nat}{c1 nn m n:Int}{st:List aq}{t:aA}{d:ay}(a:t.1=5):dv k c1 st nn m t d n=true↔
 (n=3/\0<=t.2.2.2.2.2.2.2.2/\0<=t.2.1/\t.2.1<=1/\bA t.2.2.1=true/\t.2.2.2.1=[]/\t.2.2.2.2.1=0/\t.2.2.2.2.2.1=[]/\t.2.2.2.2.2.2.1=[]/\t.2.2.2.2.2.2.2.1=0)/\
 t.2.2.2.2.2.2.2.2<m/\d.2.1=n/\d.2.2.2.2.2.2.2.2.2.2.2= -1/\d.2.2.2.2.2.2.2.2.2.2.1= -1/\d.1=7/\d.2.2.1=t.2.2.1:=by
 unfold dv yB dR bh tc;simp only[a,if_true,if_false,f_,sd,b_];grind
def jF{k:Nat}{c1 nn m n:Int}{st:List aq}{t:aA}{d:ay}(a:t.1=6):dv k c1 st nn m t d n=true↔
 (n=4/\0<=t.2.2.2.2.2.2.2.2/\0<=t.2.1/\t.2.1<=1/\t.2.2.1=c9/\t.2.2.2.1=[]/\t.2.2.2.2.1=0/\t.2.2.2.2.2.1=[]/\t.2.2.2.2.2.2.1=[]/\0<=t.2.2.2.2.2.2.2.1)/\
 t.2.2.2.2.2.2.2.2<m/\d.2.1=n/\d.2.2.2.2.2.2.2.2.2.2.2= -1/\d.2.2.2.2.2.2.2.2.2.2.1= -1/\d.1=8/\d.2.2.2.2.2.1=t.2.2.2.2.2.2.2.1/\t.2.2.2.2.2.2.2.1<nn:=by
 unfold dv yB dR bh tc;simp only[a,if_true,if_false,f_,sd,b_];grind
section
variable{k:Nat}{c:bw}{ti M gr nn:Int}{st:List aq}{V:List bp}{T U:List ae}{D:List ar}{Q:List aI}{Z:List bE}{A:List aA}{E:List ay}{i:Nat}{t:aA}
def ahT{j:Nat}{t':aA}(hi:i<5)(d:A.length=5)(f:yi k st A gr)(g:A.getD i ah.aa=t)(h0:br k t st.length= -1)(l:br k t' st.length=(j:Int))(hj:j<st.length)
 (m:(st.getD j aj.aa).1= -1) (n:cW t=false) (b:cW t'=false):yi k (cG st j (i:Int)) (A.set i t') gr:=by
 refine C8 hi d f g (by simp[cG]) (λq a=> ?_) (λq a hh=> ?_) (by rw[n,b];rfl) (by rw[b];intro h;cases h);unfold cG;by_cases e:j=q;subst e;rw[aT _ _ a,an l];rw[getD_set_ne _ _ e,a_ (by omega),a_ (by omega)];have:j=q:=by omega
 subst this;exact .inr m
def DQ{j:Nat}{t':aA}{a:List aq}(hi:i<5)(g:A.length=5)(l:yi k st A gr)(m:A.getD i ah.aa=t)(n:br k t st.length=(j:Int))(h1:br k t' st.length= -1)(o:a.length=st.length)
 (p:(a.getD j aj.aa).1= -1) (d:∀q,q<st.length->¬j=q->(a.getD q aj.aa).1=(st.getD q aj.aa).1) (r:cW t=false) (f:cW t'=false):yi k a (A.set i t') gr:=by
 refine C8 hi g l m o (λq b=> ?_) (λq d hh=>by omega) (by rw[r,f];rfl) (by rw[f];intro h;cases h);rw[a_ (by omega)];by_cases e:j=q;subst e;rw[an n,p];rw[a_ (by omega),d q b e]
def Cl{t':aA}{a:List aq}(hi:i<5)(m:A.length=5)(d:yi k st A gr)(n:A.getD i ah.aa=t)(g:br k t' st.length=br k t st.length)(o:a.length=st.length)
 (f:∀q,q<st.length->(a.getD q aj.aa).1=(st.getD q aj.aa).1) (j:cW t'=cW t):yi k a (A.set i t') gr:=by
 subst n;refine C8 hi m d rfl o (λq b=> ?_) (λq f l=> .inl (by rw[<-g];exact l)) ?_ (λh=> .inl (by rw[<-j];exact h));rw[g,f q b];by_cases e:br k (A.getD i ah.aa) st.length=(q:Int)
 rw[an e,(d.pt q b i hi).1 e];rw[a_ e,a_ e];rw[j];by_cases e:cW (A.getD i ah.aa)=true;rw[an e,(d.gp i hi).1 e];rw[a_ e,a_ e]
def agD{t':aA}(hi:i<5)(b:A.length=5)(d:yi k st A gr)(e:A.getD i ah.aa=t)(h0:br k t st.length= -1)(h1:br k t' st.length= -1)
 (f:gr= -1) (g:cW t'=true):yi k st (A.set i t') (i:Int):=by
 refine C8 hi b d e rfl (λq a=> ?_) (λq a hh=>by omega) (by rw[g];rfl) (λ_=> .inr f);rw[a_ (by omega),a_ (by omega)]
def Y7{t':aA}(hi:i<5)(d:A.length=5)(e:yi k st A gr)(f:A.getD i ah.aa=t)(h0:br k t st.length= -1)(h1:br k t' st.length= -1)
 (g:cW t=true) (a:cW t'=false):yi k st (A.set i t') (-1):=by
 refine C8 hi d e f rfl (λq b=> ?_) (λq b hh=>by omega) (by rw[g,a];rfl) (by rw[a];intro h;cases h);rw[a_ (by omega),a_ (by omega)]
def KS{j:Nat}{x:Int}(a:j<st.length):((cG st j x).getD j aj.aa).1=x:=by
 unfold cG;rw[aT _ _ a]
def Cb{j q:Nat}{x:Int}(h:¬j=q):((cG st j x).getD q aj.aa).1=(st.getD q aj.aa).1:=by
 unfold cG;rw[getD_set_ne _ _ h]
theorem Hf.held{j:Nat}{x:Int}(h:Hf k c st)(a:j<st.length)(b: -1<=x/\x<=4):Hf k c (cG st j x):=
 ⟨aiH h.ok a b,by rw[<-h.len];simp[cG],by unfold bL;rw[tW];exact h.cap,by rw[tW];exact h.fit⟩
def kq{t':aA}{d:List aq}{f:List bp}{g j:List ae}{n m:Int}{b:List ar}{l:List aI}{a:List ay}
 (h:Rt k c ti M st V T gr D nn Q U A E) (v:ti<4611686018427387904) (hi:i<5) (o:Hf k c d) (p:EN c f g j) (q:yh k (ti+1) a) (hrel:jc i st d)
 (r:fL i E a) (w:nn<=m) (x:dv k c.1 d m (a.length:Int) t' (a.getD (bn t').toNat aw.aa) (i:Int)=true) (s:yi k d (A.set i t') n)
 (u:Ag c M b m l ((A.set i t').getD 4 ah.aa)):Rt k c (tick ti) M d f g n b m l j (A.set i t') a:=by
 have y:=iJ h.sto.ok;have e:=wv h.ti0 v
 exact⟨h.cf,by have:=h.ti0;omega,by have:=h.nn0;omega,h.nw,o,p,by rw[e];exact q,by simp[h.tl],
  agU hi h.tl h.sto.len y h.loc h.tas hrel w r x,s,u⟩
theorem Ag.other{t':aA}(h:Ag c M D nn Q (A.getD 4 ah.aa))(hi:¬i=4):Ag c M D nn Q ((A.set i t').getD 4 ah.aa):=by
 rw[getD_set_ne _ _ hi];exact h
def abp{c1 m n:Int}{st a:List aq}{t:aA}{d:ay}(h:dv k c1 st nn m t d n=true)(b:t.2.1=0)(ho:1<=t.1/\t.1<=4)(hs:t.1=3->ei st t=true->ei a t=true):
 dv k c1 a nn m (t.1,1,t.2.2) d n=true:=by
 obtain h1|h1|h1|h1:t.1=1\/t.1=2\/t.1=3\/t.1=4:=by omega
 have q:=(kU h1).1 h;rw[a_ (by omega)]at q;refine(kU (t:=(t.1,1,t.2.2)) h1).2 ?_;rw[a_ (by show¬(1:Int)=2;omega)];exact⟨⟨q.1.1,q.1.2.1,q.1.2.2.1,(show(0:Int)<=1 by decide),(show(1:Int)<=2 by decide),q.1.2.2.2.2.2⟩,q.2.1,q.2.2.1,q.2.2.2.1,q.2.2.2.2.1.trans (by rw[b];exact(show((0:Int)=2↔(1:Int)=2) by decide)),q.2.2.2.2.2⟩;have q:=(kP h1).1 h;exact(kP (t:=(t.1,1,t.2.2)) h1).2 ⟨⟨q.1.1,q.1.2.1,q.1.2.2.1,(show(0:Int)<=1 by decide),(show(1:Int)<=1 by decide),q.1.2.2.2.2.2⟩,q.2⟩;have q:=(fh h1).1 h;rw[a_ (by omega)]at q;refine(fh (t:=(t.1,1,t.2.2)) h1).2 ?_;rw[a_ (by show¬(1:Int)=2;omega)];exact⟨⟨q.1.1,q.1.2.1,q.1.2.2.1,(show(0:Int)<=1 by decide),(show(1:Int)<=2 by decide),q.1.2.2.2.2.2⟩,q.2.1,q.2.2.1,q.2.2.2.1,q.2.2.2.2.1,q.2.2.2.2.2.1,hs h1 q.2.2.2.2.2.2.1,q.2.2.2.2.2.2.2⟩;have q:=(kQ h1).1 h;exact(kQ (t:=(t.1,1,t.2.2)) h1).2 ⟨⟨q.1.1,q.1.2.1,q.1.2.2.1,(show(0:Int)<=1 by decide),(show(1:Int)<=1 by decide),q.1.2.2.2.2.2⟩,q.2⟩
def Jh{j:Nat}(h:Rt k c ti M st V T gr D nn Q U A E)(a:ti<4611686018427387904)(hi:i<3)(e:A.getD i ah.aa=t)(m:1<=t.1/\t.1<=4)(b:t.2.1=0)
 (n:br k (t.1,1,t.2.2) st.length=(j:Int)) (f:j<st.length) (o:(st.getD j aj.aa).1= -1):
 Rt k c (tick ti) M (cG st j (i:Int)) V T gr D nn Q U (A.set i (t.1,1,t.2.2)) E:=by
 have d:=h.tas i (by omega);rw[e]at d;have p:=aaV d h.sto.len
 exact kq h a (by omega) (h.sto.held f (by omega)) h.sub (h.dee.up (by omega)) (jc.held i st j i) (fL.refl i E) (I_ _)
  (abp d b m λg l=>HY (jc.held i st j i) (p g) l)
  (ahT (by omega) h.tl h.loc e (eD (.inl b)) n f o (gW (.inr b)) (gW (.inl (by show t.1<5;omega)))) (h.grp.other (by omega))
def dU(h:Rt k c ti M st V T gr D nn Q U A E)(hi:i<5)(f:A.getD i ah.aa=t)(g:¬t.1=0):
 dv k c.1 st nn (E.length:Int) t (E.getD (bn t).toNat aw.aa) (i:Int)=true/\(bn t).toNat<E.length/\(E.getD (bn t).toNat aw.aa).2.1=(i:Int)/\
 gg k (E.getD (bn t).toNat aw.aa)=true/\(E.getD (bn t).toNat aw.aa).2.2.2.2.2.2.2.2.2.1<ti/\(E.getD (bn t).toNat aw.aa).2.2.2.2.2.2.2.2.2.2.1<ti:=by
 have a:=h.tas i hi;rw[f]at a;obtain⟨j,b2,b3⟩:=AD a g;have e:(bn t).toNat<E.length:=by omega
 have b:=h.dee _ (cx (d:=aw.aa) e);exact⟨a,e,j,b.1,b.2.1,b.2.2.1⟩
def Yf{s x:Bool}{j:Nat}{code:Int}{got:List ae}(h:Rt k c ti M st V T gr D nn Q U A E)(a:ti<4611686018427387904)(hi:i<3)(b:A.getD i ah.aa=t)(ho:1<=t.1/\t.1<=4)
 (f:br k t st.length=(j:Int)) (d:j<st.length) (hc:code∈gM (E.getD (bn t).toNat aw.aa).1):
 Rt k c (tick ti) M (cG st j (-1)) V T gr D nn Q U (A.set i zT) (E.set (bn t).toNat (eC s x (E.getD (bn t).toNat aw.aa) M ti code got)):=by
 obtain⟨hr,hn,g,l,m,n⟩:=dU h (by omega) b (by omega)
 exact kq h a (by omega) (h.sto.held d (by omega)) h.sub ((h.dee.up (by omega)).put (yI l h.nw.1 m n h.ti0 hc)) (jc.held i st j (-1)) (fL.put g) (I_ _) (tZ (by omega))
  (DQ (by omega) h.tl h.loc b f (eD (.inl rfl)) (by simp[cG]) (KS d) (λq _ e=>Cb e) (gW (.inl (by omega))) (gW (.inl (by decide)))) (h.grp.other (by omega))
end
def A8{k:Nat}{op i j n M ti code:Int}{a:ae}{l:List ai}{got:List ae}(ho:1<=op/\op<=9)(hi: -1<=i/\i<=4)(hj:0<=j)(hn:0<=n)(hw:0<=M)(ht:0<=ti)(hc:code∈gM op):
 gg k (op,i,a,l,j,n,code,got,M,ti,ti,ti)=true:=by
 unfold gg bh;have b:¬ti= -1:=by omega
 simp[b,hc];omega
def aii{a:ae}{s:bp}(e:bA a=true)(hs:gK s=true):gK (ve a s)=true:=by
 unfold ve;split;exact hs;rename_i h;split;unfold gK bT;simp[ng];unfold gK bT at*
 have f:s.2=false:=by simpa using h
 simp only[f_,b_,f,av3,Bool.true_or,true_and]at hs|-;rw[fb (d:=ab.aa) (p:=bA)]at hs|-;refine⟨by simp;omega,λx b=> ?_⟩;rcases y_.1 b with b|b;exact hs.2 x b;rw[si.1 b];exact e
section
variable{k:Nat}{c:bw}{ti M gr nn:Int}{st:List aq}{V:List bp}{T U:List ae}{D:List ar}{Q:List aI}{Z:List bE}{A:List aA}{E:List ay}{i:Nat}{t:aA}
theorem EN.tell{a:ae}(h:EN c V T U)(e:bA a=true):EN c (V.map (ve a)) (T++[a]) (U++[a]):=by
 refine⟨by simp[h.len],λs l=> ?_,λx b=> ?_,λx b=> ?_⟩;obtain⟨o,p,rfl⟩:=List.mem_map.1 l;exact aii e (h.sub o p);rcases y_.1 b with b|b;exact h.fee x b;rw[si.1 b];exact e;rcases y_.1 b with b|b;exact h.sai x b;rw[si.1 b];exact e
def aiB{a:ae}{st:List aq}(h:eo k st=true)(l:∀p∈st,p.2.1<4611686018427387904)(m:(st.getD (bO k st a.1).toNat aj.aa).1=(i:Int)):
 jc i st (fk k st a).1/\∀q,((fk k st a).1.getD q aj.aa).1=(st.getD q aj.aa).1:=by
 have j:=iJ h;obtain⟨g,h2⟩:=jA (k:=k) (s:=a.1) j;rw[yU j];have hp:=(fj.1 ((dm.1 h).1 _ g)).2.2.2;have hvv:=l _ (cx (d:=aj.aa) g);have e:=yP k (st.getD (bO k st a.1).toNat aj.aa) a;refine⟨⟨by simp,λp f=> ?_⟩,λq=> ?_⟩;by_cases b:(bO k st a.1).toNat=p;subst b;refine .inr ⟨m,?_⟩;dsimp only;rw[aT _ _ f,e.1,wrap64 (by omega) (by omega)];omega;exact .inl (by dsimp only;rw[getD_set_ne _ _ b]);dsimp only;by_cases b:(bO k st a.1).toNat=q;subst b;rw[aT _ _ g,e.2];rw[getD_set_ne _ _ b]
def afn(h:Rt k c ti M st V T gr D nn Q U A E)(n:ti<4611686018427387904)(J:∀p∈st,p.2.1<4611686018427387904)(hi:i<3)(o:A.getD i ah.aa=t)(m:t.1=1)(R:t.2.1=1)
 (r:yG k c st t.2.2.1=false):
 Rt k c (tick ti) M (fk k st t.2.2.1).1 V T gr D nn Q U (A.set i (t.1,2,(bQ k (fk k st t.2.2.1).1 t.2.2.1.1).1,t.2.2.2))
  (E.set (bn t).toNat (sr (E.getD (bn t).toNat aw.aa) M ti (if(fk k st t.2.2.1).2=true then 1 else 2))):=by
 obtain⟨W,X,Y,f,hv1,hw⟩:=dU h (by omega) o (by omega);have K:=(kU m).1 W;rw[a_ (by omega)]at K;obtain⟨⟨q1,q2,q3,q4,q5,q6,q7,q8,q9,z,B⟩,C,F,j,G,l,H,I⟩:=K;have u:=iJ h.sto.ok;obtain⟨g1,g2⟩:=jA (k:=k) (s:=t.2.2.1.1) u;have a:=vw (k:=k) u m (.inl R);have d:=(h.loc.pt _ g1 i (by omega)).1 (by rw[o];exact a);obtain⟨p1,L,p3,N,p5⟩:=XS h.sto.ok I J;obtain⟨r1,r2⟩:=aiB (i:=i) h.sto.ok J d;obtain⟨P,f2⟩:=BN N;have b:=p5 h.sto.fit
 have hlin:(E.getD (bn t).toNat aw.aa).2.2.2.2.2.2.2.2.2.2.1= -1:=by
  by_cases e:(E.getD (bn t).toNat aw.aa).2.2.2.2.2.2.2.2.2.2.1= -1;exact e;have:=G.1 e;omega
 have g:Hf k c (fk k st t.2.2.1).1:=by
  refine⟨p1,by rw[L];exact h.sto.len,?_,b⟩;have hc:=h.sto.cap;rw[p3,UO h.sto.ok];unfold yG at r;cases v:(bQ k st t.2.2.1.1).2;rw[v]at r;have:¬c.2.1<=(bL st:Int):=by simpa using r
  simp;omega;simp[hc]
 refine kq h n (by omega) g h.sub ((h.dee.up (by omega)).put ?_) r1 (fL.put Y) (I_ _) ?_ ?_ (h.grp.other (by omega));unfold sr;dsimp only;refine⟨?_,by omega,by omega,by omega⟩;have w:=h.nw;have x:=h.ti0;unfold gg bh at f|-;simp only[f_,sd,b_]at f|-
 have y:(if(fk k st t.2.2.1).2=true then(1:Int)else 2)∈gM (E.getD (bn t).toNat aw.aa).1:=by
  rw[l];split<;>decide
 rw[a_ (by omega),b_];exact⟨⟨⟨⟨⟨⟨⟨⟨f.1.1.1.1.1.1.1.1,f.1.1.1.1.1.1.1.2⟩,f.1.1.1.1.1.1.2⟩,f.1.1.1.1.1.2⟩,f.1.1.1.1.2⟩,w.1⟩,.inr (by omega)⟩,.inl j⟩,y⟩;refine(kU (t:=(t.1,2,(bQ k (fk k st t.2.2.1).1 t.2.2.1.1).1,t.2.2.2)) m).2 ?_;have S:bn (t.1,(2:Int),(bQ k (fk k st t.2.2.1).1 t.2.2.1.1).1,t.2.2.2)=bn t:=rfl;rw[an rfl,S,aT _ _ X];dsimp only;unfold sr;dsimp only;rw[W_,P];have x:=h.ti0;exact⟨⟨q1,q2,q3,by omega,by omega,gZ (b _ f2),q7,q8,q9,z,B⟩,C,F,j,⟨λ_=>rfl,λ_=>by omega⟩,l,by rw[H],N,rfl⟩;refine Cl (by omega) h.tl h.loc o ?_ L (λq _=>r2 q) ?_;rw[a,vw (t:=(t.1,2,(bQ k (fk k st t.2.2.1).1 t.2.2.1.1).1,t.2.2.2)) u m (.inr rfl)];dsimp only;rw[P];rw[gW (.inl (by omega)),gW (.inl (by show t.1<5;omega))]
def aix(h:Rt k c ti M st V T gr D nn Q U A E)(f:ti<4611686018427387904)(hi:i<3)(n:A.getD i ah.aa=t)(o:t.1=1)(g:t.2.1=2):
 Rt k c (tick ti) M (cG st (bO k st t.2.2.1.1).toNat (-1)) (V.map (ve t.2.2.1)) (T++[t.2.2.1]) gr D nn Q (U++[t.2.2.1]) (A.set i zT)
  ((E++[jh (vq i t.2.2.1) M ti ti ti]).set (bn t).toNat (pN (E.getD (bn t).toNat aw.aa) ti)):=by
 obtain⟨v,w,x,d,hv1,hw⟩:=dU h (by omega) n (by omega);have p:=(kU o).1 v;rw[an g]at p;obtain⟨⟨q1,q2,q3,q4,q5,y,q7,q8,q9,q10,q11⟩,q12,q13,q14,m,q16,q17,q18,q19⟩:=p;have r:=iJ h.sto.ok;obtain⟨u,g2⟩:=jA (k:=k) (s:=t.2.2.1.1) r;have a:=vw (k:=k) r o (.inr g);have b:=m.2 g;have j:=h.nw;have l:=h.ti0
 refine kq h f (by omega) (h.sto.held u (by omega)) (h.sub.tell y) ((yh.app (h.dee.up (by omega)) ?_).put ?_) (jc.held i st _ (-1)) ((fL.app i E _).trans (fL.put ?_)) (I_ _) (tZ (by omega))
  (DQ (by omega) h.tl h.loc n a (eD (.inl rfl)) (by simp[cG]) (KS u) (λq _ e=>Cb e) (gW (.inl (by omega))) (gW (.inl (by decide)))) (h.grp.other (by omega))
 unfold jh vq;dsimp only;refine⟨?_,by omega,by omega,by omega⟩;exact A8 ⟨by decide,by decide⟩ (by omega) (by decide) (by decide) j.1 l (by decide);unfold pN;dsimp only;refine⟨?_,by omega,by omega,by omega⟩;unfold gg bh at d|-;simp only[f_,sd,b_]at d|-;refine⟨⟨d.1.1,.inr ⟨by simpa using b,by omega⟩⟩,d.2⟩;rw[G6,avy w,<-G6];exact x
def bg{b:bw}{a:Int}{r:Int×List aq×List bp×List ae×Int×List ar×Int×List aI×List bE×List ae×List aA×List ay}:
 bX (true,b,a,r)=(true,b,tick a,r):=rfl
def ae9{s:Bool}(h:Rt k c ti M st V T gr D nn Q U A E)(a:ti<4611686018427387904)(o:∀p∈st,p.2.1<4611686018427387904)(hi:i<3)(b:A.getD i ah.aa=t)(e:t.1=1):
 (kI s k (c,ti,M,st,V,T,gr,D,nn,Q,Z,U,A,E) i).1=true->bC k (kI s k (c,ti,M,st,V,T,gr,D,nn,Q,Z,U,A,E) i).2=true:=by
 have g:=iJ h.sto.ok;obtain⟨n,g2⟩:=jA (k:=k) (s:=t.2.2.1.1) g;obtain⟨q,hn,hb,l,hv1,hw⟩:=dU h (by omega) b (by omega);have m:=(kU e).1 q;unfold kI wP;dsimp only;rw[b];by_cases j:t.2.1=0;rw[an j];unfold ey;dsimp only;rw[b];by_cases d:(st.getD (bO k st t.2.2.1.1).toNat aj.aa).1= -1;rw[an d,bg];intro _;exact cw.2 (Jh h a hi b (by omega) j (vw (t:=(t.1,1,t.2.2)) g e (.inl rfl)) n d);rw[a_ d];intro l;simp[bX]at l;rw[a_ j];by_cases f:t.2.1=1;rw[an f];by_cases d:yG k c st t.2.2.1=true;rw[an d,bg];intro _;exact cw.2 (Yf h a hi b (by omega) (vw g e (.inl f)) n (by rw[m.2.2.2.2.2.1];decide));rw[a_ d,bg];intro _;exact cw.2 (afn h a o hi b e f (by simpa using d));rw[a_ f,bg];intro _;have:=m.1.2.2.2;exact cw.2 (aix h a hi b e (by omega))
def adS{s:Bool}(h:Rt k c ti M st V T gr D nn Q U A E)(a:ti<4611686018427387904)(hi:i<3)(b:A.getD i ah.aa=t)(e:t.1=2):
 (bX (lu s k (c,ti,M,st,V,T,gr,D,nn,Q,Z,U,A,E) i)).1=true->bC k (bX (lu s k (c,ti,M,st,V,T,gr,D,nn,Q,Z,U,A,E) i)).2=true:=by
 have f:=iJ h.sto.ok;obtain⟨l,g2⟩:=jA (k:=k) (s:=t.2.2.2.1) f;obtain⟨o,hn,hb,m,hv1,hw⟩:=dU h (by omega) b (by omega);have g:=(kP e).1 o;unfold lu;dsimp only;rw[b];by_cases j:t.2.1=0;rw[an j];unfold ey;dsimp only;rw[b];by_cases d:(st.getD (bO k st t.2.2.2.1).toNat aj.aa).1= -1;rw[an d,bg];intro _;exact cw.2 (Jh h a hi b (by omega) j (EY (t:=(t.1,1,t.2.2)) f e rfl) l d);rw[a_ d];intro m;simp[bX]at m;have n:t.2.1=1:=by have:=g.1;omega
 rw[a_ j];by_cases d:(bQ k st t.2.2.2.1).2=true;rw[an d,bg];intro _;exact cw.2 (Yf h a hi b (by omega) (EY f e n) l (by rw[g.2.2.2.2.2.1];decide));rw[a_ d,bg];intro _;exact cw.2 (Yf h a hi b (by omega) (EY f e n) l (by rw[g.2.2.2.2.2.1];decide))
def abX{l m:List ae}(e:bT l=true)(f:∀a∈m,bA a=true):bT (l++m)=true:=by
 unfold bT at*
 rw[fb (d:=ab.aa) (p:=bA)]at*
 intro x b;rcases y_.1 b with b|b;exact e x b;exact f x b
def ag4{l:List Int}{v:Int}(b:mA l=true)(e:0<=v):mA (l++[v])=true:=by
 unfold mA at*
 rw[fb (d:=(0:Int)) (p:=λx=>decide (0<=x))]at*
 intro x a;rcases y_.1 a with a|a;exact b x a;rw[si.1 a];exact c_ e
def lv{α:Type}{l m:List α}{n:Nat}(d:α)(h:n<l.length):(l++m).getD n d=l.getD n d:=by
 rw[G6,avy h,<-G6]
def A7{α:Type}{l:List α}{x:α}(d:α):(l++[x]).getD l.length d=x:=by
 rw[G6,avt (avx _)];simp
def ad3{st:List aq}{t:aA}{j:Nat}(h:ei st t=true)(b:j<st.length)(d:t.2.2.2.2.2.1.length=j):ei st (nc st t j)=true:=by
 rw[zN]at h|-;unfold nc;dsimp only;subst d;rw[G9,V'];constructor;intro p a;by_cases e:p<t.2.2.2.2.2.1.length;rw[lv _ e];exact h.1 p e;have:p=t.2.2.2.2.2.1.length:=by omega
 subst this;rw[A7];exact I_ _;intro g;rw[fK aj.aa b,h.2 λp a=> ?_];have:=g p (by omega);rwa [lv _ a]at this
def ajL(h:Rt k c ti M st V T gr D nn Q U A E)(g:ti<4611686018427387904)(hi:i<3)(v:A.getD i ah.aa=t)(j:t.1=3)(B:t.2.1=1):
 Rt k c (tick ti) M (cG st t.2.2.2.2.1.toNat (-1)) V T gr D nn Q U (A.set i (nc st t t.2.2.2.2.1.toNat)) E:=by
 obtain⟨I,hn,hb,hd,hv1,hw⟩:=dU h (by omega) v (by omega);have w:=(fh j).1 I;rw[a_ (by omega)]at w;obtain⟨⟨q1,q2,q3,q4,q5,J,K,L,q9,l,m⟩,n,o,p,r,s,u,q18⟩:=w;have C:=iJ h.sto.ok;have hlen:=h.sto.len;have h3:=(dm.1 h.sto.ok).2;have f:t.2.2.2.2.1.toNat<st.length:=by omega
 have b:=fj.1 ((dm.1 h.sto.ok).1 _ f);have d:br k t st.length=(t.2.2.2.2.1.toNat:Int):=by rw[Eu C (.inl j) B];omega
 have x:(nc st t t.2.2.2.2.1.toNat).1=3:=j
 have y:(nc st t t.2.2.2.2.1.toNat).2.1=0\/(nc st t t.2.2.2.2.1.toNat).2.1=2/\t.2.2.2.2.1.toNat+1=st.length:=by
  unfold nc;dsimp only;split;exact .inr ⟨rfl,by assumption⟩;exact .inl rfl
 have F:¬(nc st t t.2.2.2.2.1.toNat).2.1=2->¬t.2.2.2.2.1.toNat+1=st.length:=by
  unfold nc;dsimp only;split;intro h;exact absurd rfl h;intro _;assumption
 refine kq h g (by omega) (h.sto.held f (by omega)) h.sub (h.dee.up (by omega)) (jc.held i st _ (-1)) (fL.refl i E) (I_ _) ?_
  (DQ (by omega) h.tl h.loc v d (eD (by rcases y with e|e;exact .inl e;exact .inr (.inr (.inr ⟨x,e.1⟩)))) (by simp[cG]) (KS f) (λq _ e=>Cb e) (gW (.inl (by omega))) (gW (.inl (by omega)))) (h.grp.other (by omega))
 have G:bn (nc st t t.2.2.2.2.1.toNat)=bn t:=rfl;rw[G];refine(fh x).2 ⟨⟨q1,q2,q3,by omega,by omega,J,K,ag4 L b.2.2.2,?_,abX l λa z=>gZ (h.sto.fit a (x_.2 ⟨_,cx f,z⟩)),m⟩,n,o,p,r,s,?_,?_⟩;unfold nc;dsimp only;rw[G9,V'];omega;refine HY (jc.held i st _ (-1)) ?_ (ad3 u f (by omega));unfold nc;dsimp only;rw[G9,V'];omega;have H:(nc st t t.2.2.2.2.1.toNat).2.2.2.2.1=((t.2.2.2.2.1.toNat+1:Nat):Int):=rfl;rw[H];split;rename_i e;rcases y with N|N<;>omega;rename_i e;have:=F e;omega
def Ue{t':aA}{a:List ay}(h:Rt k c ti M st V T gr D nn Q U A E)(e:ti<4611686018427387904)(hi:i<3)(f:A.getD i ah.aa=t)(g:br k t st.length= -1)(j:br k t' st.length= -1)
 (l:t.1<5) (m:t'.1<5) (b:yh k (ti+1) a) (d:fL i E a) (n:dv k c.1 st nn (a.length:Int) t' (a.getD (bn t').toNat aw.aa) (i:Int)=true):
 Rt k c (tick ti) M st V T gr D nn Q U (A.set i t') a:=
 kq h e (by omega) h.sto h.sub b (jc.refl i st) d (I_ _) n
  (Cl (by omega) h.tl h.loc f (by rw[g,j]) rfl (λ_ _=>rfl) (by rw[gW (.inl l),gW (.inl m)])) (h.grp.other (by omega))
def abr{s:Bool}(h:Rt k c ti M st V T gr D nn Q U A E)(a:ti<4611686018427387904)(hi:i<3)(b:A.getD i ah.aa=t)(f:t.1=3):
 (bX (fZ s k (c,ti,M,st,V,T,gr,D,nn,Q,Z,U,A,E) i)).1=true->bC k (bX (fZ s k (c,ti,M,st,V,T,gr,D,nn,Q,Z,U,A,E) i)).2=true:=by
 have x:=iJ h.sto.ok;obtain⟨F,hn,G,g,n,H⟩:=dU h (by omega) b (by omega);have y:=(fh f).1 F;obtain⟨⟨q1,q2,q3,q4,q5,q6,q7,q8,q9,q10,q11⟩,q12,o,q,r,e,q17,u⟩:=y;have hlen:=h.sto.len;unfold fZ;dsimp only;rw[b];by_cases j:t.2.1=0;rw[an j];rw[a_ (by omega)]at u;have z:t.2.2.2.2.1.toNat<st.length:=by omega
 unfold ey;dsimp only;rw[b];by_cases l:(st.getD t.2.2.2.2.1.toNat aj.aa).1= -1;rw[an l,bg];intro _;exact cw.2 (Jh h a hi b (by omega) j (by rw[Eu (t:=(t.1,1,t.2.2)) x (.inl f) rfl];dsimp only;omega) z l);rw[a_ l];intro g;simp[bX]at g;rw[a_ j];by_cases m:t.2.1=1;rw[an m,bg];intro _;exact cw.2 (ajL h a hi b f m);rw[a_ m];have B:t.2.1=2:=by omega
 have d:br k t st.length= -1:=eD (.inr (.inr (.inr ⟨f,B⟩)));by_cases v:gF st t.2.2.2.2.2.1=true;rw[an v,bg];intro _;exact cw.2 (Ue h a hi b d (eD (.inl rfl)) (by omega) (by decide) ((h.dee.up (by omega)).put (yI g h.nw.1 n H h.ti0 (by rw[e];decide))) (fL.put G) (tZ (by omega)));rw[a_ v,bg];intro _;refine cw.2 (Ue h a hi b d (eD (.inl rfl)) (by omega) (by show(3:Int)<5;decide) (h.dee.up (by omega)) (fL.refl i E) ?_);have C:bn (sN ((bn t).toNat:Int))=((bn t).toNat:Int):=rfl;rw[C,z_];refine(fh (t:=sN ((bn t).toNat:Int)) rfl).2 ?_;have h3:=(dm.1 h.sto.ok).2;rw[a_ (by show¬(0:Int)=2;decide)];refine⟨⟨q1,q2,by show(0:Int)<=((bn t).toNat:Int);omega,I_ _,by show(0:Int)<=2;decide,rfl,rfl,by unfold mA sN;simp[ng],rfl,by unfold bT sN;simp[ng],rfl⟩,by show((bn t).toNat:Int)<_;omega,o,q,r,e,?_,I_ _,by show(0:Int)<=2;decide,by show(0:Int)<_;omega⟩;rw[zN];unfold sN;exact⟨λp w=>by simp at w,λ_=>by simp⟩
def Uu{j:Nat}(h:eo k st=true)(a:j<st.length)(g:(st.getD j aj.aa).1=(i:Int))(l:∀p∈st,p.2.1<4611686018427387904):
 jc i st (st.set j (-1,(gj (st.getD j aj.aa) M).2)):=by
 refine⟨by simp,λp f=> ?_⟩;by_cases e:j=p;subst e;rw[aT _ _ f];by_cases b:0<(e9 M (st.getD j aj.aa).2.2).length;refine .inr ⟨g,?_⟩;have hp2:=(fj.1 ((dm.1 h).1 _ a)).2.2.2;have hvv:=l _ (cx (d:=aj.aa) a);unfold gj;dsimp only;rw[an b,wrap64 (by omega) (by omega)];omega;rw[abi ((dm.1 h).1 _ a) b];exact .inl rfl;rw[getD_set_ne _ _ e];exact .inl rfl
def Ua{j:Nat}(h:Hf k c st)(d:j<st.length)(f:∀p∈st,p.2.1<4611686018427387904):Hf k c (st.set j (-1,(gj (st.getD j aj.aa) M).2)):=by
 have e:=fj.1 (aeP (M:=M) ((dm.1 h.ok).1 _ d) (f _ (cx d)));refine⟨BZ h.ok (fj.2 ⟨e.1,e.2.1,⟨by show(-1:Int)<=-1;decide,by show(-1:Int)<=4;decide⟩,e.2.2.2⟩),by rw[W_];exact h.len,?_,λa b=> ?_⟩;have h1:=count_set (l:=st) (p:=(-1,(gj (st.getD j aj.aa) M).2)) d;have h2:=HT (st.getD j aj.aa) M;have h3:(bd (-1,(gj (st.getD j aj.aa) M).2)).length=(bd (gj (st.getD j aj.aa) M)).length:=rfl;have:=h.cap;omega;rcases Hd b with b|b;exact h.fit a b;exact h.fit a (x_.2 ⟨_,cx d,ad1 (M:=M) b⟩)
def Zl{s:Bool}(h:Rt k c ti M st V T gr D nn Q U A E)(g:ti<4611686018427387904)(u:∀p∈st,p.2.1<4611686018427387904)(hi:i<3)(l:A.getD i ah.aa=t)(v:t.1=4):
 (iR s k (c,ti,M,st,V,T,gr,D,nn,Q,Z,U,A,E) i).1=true->bC k (iR s k (c,ti,M,st,V,T,gr,D,nn,Q,Z,U,A,E) i).2=true:=by
 have J:=iJ h.sto.ok;obtain⟨R,L,S,x,B,W⟩:=dU h (by omega) l (by omega);obtain⟨⟨q1,q2,q3,q4,q5,X,Y,q8,q9,C,F,o⟩,q12,G,H,I,r,q17⟩:=(kQ v).1 R;have hlen:=h.sto.len;have f:t.2.2.2.2.1.toNat<st.length:=by omega
 unfold iR xu;dsimp only;rw[l];by_cases y:t.2.1=0;rw[an y];unfold ey;dsimp only;rw[l];by_cases z:(st.getD t.2.2.2.2.1.toNat aj.aa).1= -1;rw[an z,bg];intro _;exact cw.2 (Jh h g hi l (by omega) y (by rw[Eu (t:=(t.1,1,t.2.2)) J (.inr v) rfl];dsimp only;omega) f z);rw[a_ z];intro x;simp[bX]at x;have N:t.2.1=1:=by omega
 rw[a_ y,bg];intro _;have a:br k t st.length=(t.2.2.2.2.1.toNat:Int):=by rw[Eu J (.inr v) N];omega
 have b:=(h.loc.pt _ f i (by omega)).1 (by rw[l];exact a)
 have m:gg k (jh (jm i t.2.2.2.2.1.toNat (e9 M (st.getD t.2.2.2.2.1.toNat aj.aa).2.2)) M ti ti ti)=true:=
  A8 (op:=5) (i:=(i:Int)) (j:=(t.2.2.2.2.1.toNat:Int)) (n:=0) (code:=8) ⟨by decide,by decide⟩ (by omega) (by omega) (by decide) h.nw.1 h.ti0 (by decide)
 have K:=yh.app (h.dee.up (show ti<=ti+1 by omega)) (d:=jh (jm i t.2.2.2.2.1.toNat (e9 M (st.getD t.2.2.2.2.1.toNat aj.aa).2.2)) M ti ti ti) ⟨m,by show ti<ti+1;omega,by show ti<ti+1;omega,by show ti<ti+1;omega⟩;refine cw.2 ?_;by_cases w:t.2.2.2.2.1.toNat+1=st.length;rw[an w,an w]
 exact kq h g (by omega) (Ua h.sto f u) h.sub (K.put (yI x h.nw.1 B W h.ti0 (by rw[r];decide))) (Uu h.sto.ok f b u)
  ((fL.app i E _).trans (fL.put (by rw[lv _ L];exact S))) (I_ _) (tZ (by omega))
  (DQ (by omega) h.tl h.loc l a (eD (.inl rfl)) (by simp) (by rw[aT _ _ f]) (λq _ e=>by rw[getD_set_ne _ _ e]) (gW (.inl (by omega))) (gW (.inl (by decide)))) (h.grp.other (by omega))
 rw[a_ w,a_ w]
 refine kq h g (by omega) (Ua h.sto f u) h.sub K (Uu h.sto.ok f b u) (fL.app i E _) (I_ _) ?_
  (DQ (by omega) h.tl h.loc l a (eD (.inl rfl)) (by simp) (by rw[aT _ _ f]) (λq _ e=>by rw[getD_set_ne _ _ e]) (gW (.inl (by omega))) (gW (.inl (by show t.1<5;omega)))) (h.grp.other (by omega))
 have P:bn (t.1,(0:Int),t.2.2.1,t.2.2.2.1,((t.2.2.2.2.1.toNat+1:Nat):Int),t.2.2.2.2.2)=bn t:=rfl;rw[P,lv _ L,G9,V'];refine(kQ (t:=(t.1,(0:Int),t.2.2.1,t.2.2.2.1,((t.2.2.2.2.1.toNat+1:Nat):Int),t.2.2.2.2.2)) v).2 ?_;have h3:=(dm.1 h.sto.ok).2;exact⟨⟨q1,q2,q3,I_ _,by show(0:Int)<=1;decide,X,Y,by dsimp only;omega,by dsimp only;omega,C,F,o⟩,by dsimp only;omega,G,H,I,r,by dsimp only;omega⟩
end
def BY{a b:aI}(h:cB a b=true):cB b a=false:=by
 unfold cB at*;simp at*;omega
def before_trans{a b c:aI}(h:cB a b=true)(h2:cB b c=true):cB a c=true:=by
 unfold cB at*;simp at*;omega
def FZ{a b c:aI}(h:cB a b=false)(h2:cB b c=false):cB a c=false:=by
 unfold cB at*;simp at*;omega
abbrev pq(l:List aI)(i:Nat):aI:=l.getD i aL.aa
def HP(l:List aI):Prop:=∀j,j<l.length->0<j->cB (pq l j) (pq l ((j-1)/2))=false
def HPu(l:List aI)(i:Nat):Prop:=
 (∀j,j<l.length->0<j->¬j=i->cB (pq l j) (pq l ((j-1)/2))=false)/\
 (0<i->∀j,j<l.length->0<j->(j-1)/2=i->cB (pq l j) (pq l ((i-1)/2))=false)
def HPd(l:List aI)(i:Nat):Prop:=
 (∀j,j<l.length->0<j->¬(j-1)/2=i->cB (pq l j) (pq l ((j-1)/2))=false)/\
 (0<i->∀j,j<l.length->0<j->(j-1)/2=i->cB (pq l j) (pq l ((i-1)/2))=false)
def afd{l:List aI}{i j:Nat}(hi:i<l.length)(b:j<l.length)(n:Nat):pq (BR l i j) n=if n=j then pq l i else if n=i then pq l j else pq l n:=by
 unfold BR pq;by_cases e:n=j;subst e;rw[an rfl,aT _ _ (by simpa using b)];rw[a_ e,getD_set_ne _ _ (Ne.symm e)];by_cases a:n=i;subst a;rw[an rfl,aT _ _ hi];rw[a_ a,getD_set_ne _ _ (Ne.symm a)]
def X6{l:List aI}{i j:Nat}(hi:i<l.length)(a:j<l.length):(BR l i j).Perm l:=by
 unfold BR;rw[dq _ hi,dq _ a];exact List.set_set_perm hi a
def afy:∀(i:Nat) {l:List aI},i<l.length->HPu l i->HP (UI l i):=by
 intro i
 induction i using av2 with
 |_ i x=>
  intro l s h;rw[UI];by_cases o:0<i;rw[dif_pos o];by_cases g:cB (l.getD i aL.aa) (l.getD ((i-1)/2) aL.aa)=true;rw[an g];have v:(i-1)/2<i:=by omega
  have m:=afd (l:=l) s (show(i-1)/2<l.length by omega);refine x _ v (by rw[ib];omega) ⟨λj b a n=> ?_,λf j b a u=> ?_⟩;rw[ib]at b;rw[m,m,a_ n];by_cases d:j=i;subst d;rw[an rfl,an rfl];exact BY g;rw[a_ d];by_cases p:(j-1)/2=(i-1)/2;rw[an p];have:=h.1 j b a d;rw[p]at this;cases w:cB (pq l j) (pq l i);rfl;rw[before_trans w g]at this;cases this;rw[a_ p];by_cases q:(j-1)/2=i;rw[an q];exact h.2 o j b a q;rw[a_ q];exact h.1 j b a d;rw[ib]at b;rw[m,m,a_ (by omega),a_ (show¬((i-1)/2-1)/2=(i-1)/2 by omega),a_ (show¬((i-1)/2-1)/2=i by omega)];by_cases d:j=i;rw[an d];exact h.1 _ (by omega) f (by omega);rw[a_ d];have r:=h.1 j b a d;rw[u]at r;exact FZ r (h.1 _ (by omega) f (by omega));rw[a_ g];intro j b a;by_cases e:j=i;subst e;simpa using g;exact h.1 j b a e;rw[dif_neg o];intro j b a;exact h.1 j b a (by omega)
def agq:∀(i:Nat) {l:List aI},i<l.length->(UI l i).Perm l:=by
 intro i
 induction i using av2 with
 |_ i e=>
  intro l d;rw[UI];by_cases a:0<i;rw[dif_pos a];by_cases b:cB (l.getD i aL.aa) (l.getD ((i-1)/2) aL.aa)=true;rw[an b];exact(e _ (by omega) (by rw[ib];omega)).trans (X6 d (by omega));rw[a_ b];rw[dif_neg a]
def aek{l:List aI}{i:Nat}(h:2*i+1<l.length):jY l i<l.length/\(jY l i-1)/2=i/\i<jY l i:=by
 unfold jY;split<;>omega
def UR{l:List aI}{i j:Nat}(h:2*i+1<l.length)(b:j<l.length)(h0:0<j)(he:(j-1)/2=i):cB (pq l j) (pq l (jY l i))=false:=by
 have a:cB (pq l j) (pq l j)=false:=by unfold cB;simp
 unfold jY;split;rename_i O;obtain rfl|rfl:j=2*i+1\/j=2*i+2:=by omega
 exact BY O.2;exact a;rename_i O;obtain rfl|rfl:j=2*i+1\/j=2*i+2:=by omega
 exact a;have:¬cB (pq l (2*i+2)) (pq l (2*i+1))=true:=λh=>O ⟨b,h⟩;simpa using this
def ado:∀n (l:List aI) (i:Nat),l.length-i<=n->i<l.length->HPd l i->HP (yD l i):=by
 intro n
 induction n with
 |zero=>intro l i v r h;omega
 |succ n x=>
  intro l i v r h;rw[yD];by_cases f:2*i+1<l.length;rw[dif_pos f];obtain⟨u,q,k3⟩:=aek f;by_cases g:cB (l.getD (jY l i) aL.aa) (l.getD i aL.aa)=true;rw[an g];have m:=afd (l:=l) r u;refine x _ _ (by rw[ib];omega) (by rw[ib];omega) ⟨λj b a o=> ?_,λhp0 j b a w=> ?_⟩;rw[ib]at b;rw[m,m,a_ o];by_cases d:(j-1)/2=i;rw[an d];by_cases s:j=jY l i;rw[an s];exact BY g;rw[a_ s,a_ (by omega)];exact UR f b a d;rw[a_ d,a_ (by intro e;rw[e]at d;exact d q)];by_cases p:j=i;rw[an p];subst p;exact h.2 a _ u (by omega) q;rw[a_ p];exact h.1 j b a d;rw[ib]at b;rw[q,m,m,a_ (by omega),a_ (by omega),a_ (by omega),an rfl];have:=h.1 j b a (by omega);rwa [w]at this;rw[a_ g];intro j b a;by_cases e:(j-1)/2=i;rw[e];exact FZ (UR f b a e) (by simpa using g);exact h.1 j b a e;rw[dif_neg f];intro j b a;exact h.1 j b a (by omega)
def abb:∀n (l:List aI) (i:Nat),l.length-i<=n->i<l.length->(yD l i).Perm l:=by
 intro n
 induction n with
 |zero=>intro l i e b;omega
 |succ n g=>
  intro l i e b;rw[yD];by_cases a:2*i+1<l.length;rw[dif_pos a];obtain⟨f,k2,k3⟩:=aek a;by_cases d:cB (l.getD (jY l i) aL.aa) (l.getD i aL.aa)=true;rw[an d];exact(g _ _ (by rw[ib];omega) (by rw[ib];omega)).trans (X6 b f);rw[a_ d];rw[dif_neg a]
def yy{l:List aI}:mF l=true↔(∀x∈l,0<=x.1/\0<=x.2)/\HP l/\l.length<=16:=by
 unfold mF;rw[lz,f_,f_,fb (d:=aL.aa) (p:=λx=>decide (0<=x.1)&&decide (0<=x.2)),decide_eq_true_iff,and_assoc,cH];refine and_congr (by simp) (and_congr ?_ avD);unfold HP;simp only[sd,beq_iff_eq,avu]
 exact⟨λh j a h0=>(h j (by omega) a).resolve_left (by omega),λh j _ a=>by
  by_cases e:j=0;exact .inl e;exact .inr (h j a (by omega))⟩
def xt(l:List aI)(t:aI):(E5 l t).Perm (l++[t]):=agq _ (by simp)
def aat{l:List aI}{t:aI}(h:mF l=true)(f:0<=t.1/\0<=t.2)(hl:l.length<=15):mF (E5 l t)=true:=by
 rw[yy]at h|-;have e:=xt l t;refine⟨λx a=> ?_,afy _ (by simp) ⟨λj b d hne=> ?_,λd j b hj0 he=> ?_⟩,by rw[e.length_eq];simp;omega⟩;rcases y_.1 (e.mem_iff.1 a)with a|a;exact h.1 x a;rw[si.1 a];exact f;rw[G9,V']at b;unfold pq;rw[lv _ (by omega),lv _ (by omega)];exact h.2.1 j (by omega) d;rw[G9,V']at b;omega
def ET{l:List aI}(h:0<l.length):((gJ l).2.1::(gJ l).1).Perm l:=by
 unfold gJ;rw[a_ (by omega)];dsimp only;by_cases b:l.length=1;rw[an b];obtain⟨x,rfl⟩:=List.length_eq_one_iff.1 b;exact List.Perm.refl _;rw[a_ b];have hlen:((l.take (l.length-1)).set 0 (l.getD (l.length-1) aL.aa)).length=l.length-1:=by simp
 refine((abb _ _ 0 (avx _) (by omega)).cons _).trans ?_;cases l with
 |nil=>simp at h
 |cons a l=>
  have hl:0<l.length:=by rw[List.length_cons]at b;omega
  obtain⟨m,hm⟩:∃m,l.length=m+1:=⟨l.length-1,by omega⟩
  have d:(a::l).length-1=m+1:=by simp;omega
  rw[d,List.take_succ_cons,avQ,avM,avN];refine List.Perm.cons a ?_
  have e:l=l.take m++[l.getD m aL.aa]:=by
   have:=avK m l;rw[dq _ (by omega)]
   conv=>lhs;rw[<-this]
   congr 1;rw[List.drop_eq_getElem_cons (by omega),List.drop_eq_nil_of_le (by omega)]
  conv=>rhs;rw[e]
  exact(List.perm_append_singleton _ _).symm
def afu{l:List aI}(h:mF l=true)(d:0<l.length):mF (gJ l).1=true:=by
 have e:=ET d;rw[yy]at h|-;refine⟨λx g=>h.1 x (e.mem_iff.1 (List.mem_cons_of_mem _ g)),?_,by have:=e.length_eq;simp at this;omega⟩;unfold gJ;rw[a_ (by omega)];dsimp only;by_cases f:l.length=1;rw[an f];intro j a;simp at a;rw[a_ f];have hlen:((l.take (l.length-1)).set 0 (l.getD (l.length-1) aL.aa)).length=l.length-1:=by simp
 refine ado _ _ 0 (avx _) (by omega) ⟨λj a b hne=> ?_,λd=>by omega⟩;rw[hlen]at a;unfold pq;rw[getD_set_ne _ _ (by omega),getD_set_ne _ _ (by omega)]
 have:∀n,n<l.length-1->(l.take (l.length-1)).getD n aL.aa=l.getD n aL.aa:=by
  intro n hn;rw[dq _ (by simp;omega),dq _ (by omega),avz]
 rw[this _ a,this _ (by omega)];exact h.2.1 j (by omega) b
def bytes_inj{a b:ByteArray}(h:a.toList=b.toList):a=b:=by
 have:=xO a b;rw[h,beq_self_eq_true]at this;exact e_ this.symm
theorem WW:∀ {l m:List ai},xQ l=xQ m->l=m
 | [],[],_=>rfl
 | [],b::m,h=>by simp[xQ]at h
 |a::l,[],h=>by simp[xQ]at h
 |(a1,a2)::l,(b1,b2)::m,h=>by
  simp only[xQ,List.cons.injEq]at h;rw[bytes_inj h.1,bytes_inj h.2.1,WW h.2.2]
def ahZ{s x:List ai}(a:bN s x=false)(d:¬x=s):bN x s=true:=by
 rw[vm]at a|-;rw[d_]at a;rw[b_];refine Decidable.byContradiction λb=>d ?_;exact WW (List.le_antisymm (List.not_lt.1 a) (List.not_lt.1 b))
abbrev BP(l:List ae):Prop:=l.Pairwise (λa b=>bN a.1 b.1=true)
def aak{l:List ae}{key:List ai}{by_:List ByteArray}:wu l key by_=true↔(∀a∈l,bA a=true/\keyOf a by_=key)/\BP l:=by
 unfold wu BP;rw[<-Qu (r:=λa b:ae=>bN a.1 b.1=true) (d:=ab.aa) (λa b c f g=>pz.trans _ _ _ f g)];have:∀j,(bA (l.getD j ab.aa)&&(decide (keyOf (l.getD j ab.aa) by_=key)&&xR l j))=((bA (l.getD j ab.aa)&&decide (keyOf (l.getD j ab.aa) by_=key))&&xR l j):=λj=>(av4 ..).symm;simp only[this];rw[lz,f_,fb (d:=ab.aa) (p:=λa=>bA a&&decide (keyOf a by_=key)),cH];refine and_congr (by simp) ?_;simp only[xR,sd,beq_iff_eq];exact⟨λh i e=>h i (by omega) e,λh i _ e=>h i e⟩
def kS{g:ar}{by_:List ByteArray}:fo g by_=true↔0<=g.1/\dP g.2.1=true/\(0<=g.2.2.1/\g.2.2.1<=99999)/\(g.2.2.2.1= -1\/(g.2.2.1<=g.2.2.2.1/\g.2.2.2.1<=99999))/\0<g.2.2.2.2.length/\(∀a∈g.2.2.2.2,bA a=true/\keyOf a by_=g.2.1)/\BP g.2.2.2.2:=by
 unfold fo bh;simp only[f_,sd,b_,aak]
def dy{l:List ar}{by_:List ByteArray}:fD l by_=true↔l.length<=12/\(∀g∈l,fo g by_=true)/\l.Pairwise (λa b=>a.1<b.1)/\l.Pairwise (λa b=>¬a.2.1=b.2.1):=by
 unfold fD;rw[<-Qu (d:=ak.aa) (λa b c h1 h2=>by omega),<-oE (d:=ak.aa),lz,lz];simp only[f_,b_,fb (l:=l) (d:=ak.aa) (p:=λg=>fo g by_),cH,Ih,qR,sd,beq_iff_eq,avu,d_];refine and_congr avD (and_congr avD (and_congr ?_ ?_));exact⟨λh i e=>h i (by omega) e,λh i _ e=>h i e⟩;exact⟨λh i e j f=>h i (by omega) e j (by omega) f,λh i _ e j _ f=>h i e j f⟩
def Za{l:List ae}{s:List ai}(i:Nat)(h:i<kK l s):bN s (l.getD i ab.aa).1=false:=by
 unfold kK at h;cases e:iB l.length (λi=>bN s (l.getD i ab.aa).1)with
 |none=>rw[e]at h;exact jP.1 e i h
 |some j=>rw[e]at h;exact(bl.1 e).2.2 i h
def ahk{l:List ae}{s:List ai}(h:kK l s<l.length):bN s (l.getD (kK l s) ab.aa).1=true:=by
 unfold kK at h|-;cases e:iB l.length (λi=>bN s (l.getD i ab.aa).1)with
 |none=>rw[e]at h;simp at h
 |some j=>exact(bl.1 e).2.1
def afr{l:List ae}{a:ae}(h:BP l)(p:∀x∈l,¬x.1=a.1):BP (l.take (kK l a.1)++[a]++l.drop (kK l a.1)):=by
 have g:∀c∈l.take (kK l a.1),bN c.1 a.1=true:=by
  intro c hc;obtain⟨i,o,e⟩:=avs hc;rw[avI]at o;have f:=Za (l:=l) (s:=a.1) i (by omega);rw[dq _ (by omega)]at f;rw[<-e,avz];exact ahZ f (p _ (avA _))
 have m:∀c∈l.drop (kK l a.1),bN a.1 c.1=true:=by
  intro c hc;obtain⟨i,o,e⟩:=avs hc;rw[avY]at o;have f:=ahk (l:=l) (s:=a.1) (by omega);rw[dq _ (by omega)]at f;rw[avT]at e;rw[<-e];by_cases n:i=0;subst n;exact f;have:=avr.1 h (kK l a.1) (kK l a.1+i) (by omega) (by omega) (by omega);exact pz.trans _ _ _ f this
 unfold BP at*
 rw[avq,avq];refine⟨⟨h.sublist (avU _ _),avn _ _,λx d b j=> ?_⟩,h.sublist (avV _ _),λx d b j=> ?_⟩;rw[si.1 j];exact g x d;have:=m b j;rcases y_.1 d with d|d;exact pz.trans _ _ _ (g x d) this;rw[si.1 d];exact this
def aeG{l:List ae}{a x:ae}(h:x∈jU l a):x∈l\/x=a:=by
 unfold jU at h;split at h;exact avl h;rcases y_.1 h with h|h;rcases y_.1 h with h|h;exact .inl (avB h);exact .inr (si.1 h);exact .inl (avC h)
def ahh{g:ar}{a:ae}{by_:List ByteArray}(h:fo g by_=true)(n:bA a=true)(O:keyOf a by_=g.2.1):fo (nx g a) by_=true:=by
 rw[kS]at h|-;obtain⟨o,p,q,r,s,h6,h7⟩:=h;refine⟨o,p,q,r,?_,λx j=> ?_,?_⟩;show 0<(jU g.2.2.2.2 a).length;unfold jU;split;rw[W_];exact s;simp only[G9,V'];omega;rcases aeG j with j|rfl;exact h6 x j;exact⟨n,O⟩;show BP (jU g.2.2.2.2 a);unfold jU;split;rename_i i l;have e:(g.2.2.2.2.set i a).map (·.1)=g.2.2.2.2.map (·.1):=ly (d:=ab.aa) (e_ (bl.1 l).2.1).symm;have h8:=(O' (f:=λx:ae=>x.1) (R:=λa b=>bN a b=true)).2 h7;rw[<-e]at h8;exact(O' (f:=λx:ae=>x.1) (R:=λa b=>bN a b=true)).1 h8;rename_i l;refine afr h7 λx j=> ?_;obtain⟨i,m,rfl⟩:=mn ab.aa j;have:=jP.1 l i m;simpa using this
def Ui{l:List ai}:dP l=true↔l.length<=4/\(∀x∈l,gN x=true)/\l.Pairwise (λa b=>ny a.1 b.1=true):=by
 unfold dP
 rw[<-Qu (r:=λa b:ai=>ny a.1 b.1=true) (d:=al.aa) (λa b c f g=>by
  rw[MO,b_]at f g|-;exact List.lt_trans f g),lz]
 simp only[f_,b_,fb (l:=l) (d:=al.aa) (p:=gN),cH,GQ,sd,beq_iff_eq];refine and_congr avD (and_congr avD ?_);exact⟨λh i e=>h i (by omega) e,λh i _ e=>h i e⟩
def agV{a:ae}{by_:List ByteArray}(h:bA a=true):dP (keyOf a by_)=true:=by
 have b:dP a.1=true:=by unfold bA at h;simp only[f_]at h;exact h.1.1.1.1
 rw[Ui]at b|-;unfold keyOf;exact⟨avS (List.length_filter_le _ _) b.1,λx d=>b.2.1 x ((avJ.1 d).1),b.2.2.filter _⟩
def aib{c:bw}{a:ae}{nn M:Int}(h:bA a=true)(d:0<=nn)(e:0<=M/\M<=99899):fo (vY c a nn M) c.2.2.2.2.2=true:=
 kS.2 ⟨d,agV h,⟨e.1,by show M<=99999;omega⟩,.inl rfl,by show 0< [a].length;simp,λx b=>by
  have:x=a:=si.1 b;subst this;exact⟨h,rfl⟩,avn _ _⟩
def wY{l:List ar}{key:List ai}{i:Nat}(h:iA l key=some i):i<l.length/\(l.getD i ak.aa).2.1=key:=
 ⟨(bl.1 h).1,by simpa using(bl.1 h).2.1⟩
def Zq{l:List ar}{key:List ai}(h:iA l key=none):∀g∈l,¬g.2.1=key:=by
 intro g a;obtain⟨i,b,rfl⟩:=mn ak.aa a;have:=jP.1 h i b;simpa using this
def NN{l:List ar}{i:Nat}{g:ar}{by_:List ByteArray}(h:fD l by_=true)(m:fo g by_=true)(n:g.1=(l.getD i ak.aa).1)(o:g.2.1=(l.getD i ak.aa).2.1):fD (l.set i g) by_=true:=by
 rw[dy]at h|-;refine⟨by rw[W_];exact h.1,λx j=> ?_,?_,?_⟩;rcases avl j with j|rfl;exact h.2.1 x j;exact m;have e:(l.set i g).map (·.1)=l.map (·.1):=ly (d:=ak.aa) n;have h8:=(O' (f:=λx:ar=>x.1) (R:=λa b=>a<b)).2 h.2.2.1;rw[<-e]at h8;exact(O' (f:=λx:ar=>x.1) (R:=λa b=>a<b)).1 h8;have e:(l.set i g).map (·.2.1)=l.map (·.2.1):=ly (d:=ak.aa) o;have h8:=(O' (f:=λx:ar=>x.2.1) (R:=λa b=>¬a=b)).2 h.2.2.2;rw[<-e]at h8;exact(O' (f:=λx:ar=>x.2.1) (R:=λa b=>¬a=b)).1 h8
def acb{l:List ar}{g:ar}{by_:List ByteArray}(h:fD l by_=true)(j:fo g by_=true)(hl:l.length<12)(m:∀x∈l,x.1<g.1)(n:∀x∈l,¬x.2.1=g.2.1):fD (l++[g]) by_=true:=by
 rw[dy]at h|-;refine⟨by simp;omega,λx d=> ?_,avq.2 ⟨h.2.2.1,avn _ _,λa e b f=> ?_⟩,avq.2 ⟨h.2.2.2,avn _ _,λa e b f=> ?_⟩⟩;rcases y_.1 d with d|d;exact h.2.1 x d;rw[si.1 d];exact j;rw[si.1 f];exact m a e;rw[si.1 f];exact n a e
def abR{l:List ar}{i:Nat}{by_:List ByteArray}(h:fD l by_=true):fD (l.take i++l.drop (i+1)) by_=true:=by
 rw[dy]at h|-
 have a:(l.take i++l.drop (i+1)).Sublist l:=by
  rw[<-List.eraseIdx_eq_take_drop_succ];exact List.eraseIdx_sublist _ _
 exact⟨avS a.length_le h.1,λx b=>h.2.1 x (a.subset b),h.2.2.1.sublist a,h.2.2.2.sublist a⟩
def jL{l:List ar}{n:Int}{i:Nat}(h:gL l n=some i):i<l.length/\(l.getD i ak.aa).1=n:=
 ⟨(bl.1 h).1,by simpa using(bl.1 h).2.1⟩
def Kg{l:List ar}{n:Int}(h:gL l n=none):∀g∈l,¬g.1=n:=by
 intro g a;obtain⟨i,b,rfl⟩:=mn ak.aa a;have:=jP.1 h i b;simpa using this
def afh{g:ar}{M:Int}{by_:List ByteArray}(h:fo g by_=true)(e:g.2.2.1<=M)(h2:M<=99899)(b:¬(kC g M).2.2.2.2=[]):fo (kC g M) by_=true:=by
 rw[kS]at h|-;obtain⟨q1,q2,q3,q4,q5,f,j⟩:=h;refine⟨q1,q2,q3,.inr ⟨e,by show M<=99999;omega⟩,List.length_pos_iff.2 b,λa d=>f a (IF d),?_⟩;show BP (fx M g.2.2.2.2);unfold fx;exact j.filter _
def NW{l:List ar}{by_:List ByteArray}(h:fD l by_=true){g:ar}{i:Nat}(b:g∈l)(hi:i<l.length)(he:g.1=(l.getD i ak.aa).1):g=l.getD i ak.aa:=by
 obtain⟨j,m,rfl⟩:=mn ak.aa b;have f:=(dy.1 h).2.2.1;by_cases e:i=j;rw[e];have a:=oE (d:=ak.aa).2 f;rcases avR e with h6|h6;have:=a j m i h6;omega;have:=a i hi j h6;omega
end Vg.Tryz
