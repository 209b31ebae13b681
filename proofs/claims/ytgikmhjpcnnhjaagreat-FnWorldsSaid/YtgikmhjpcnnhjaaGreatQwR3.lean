/- Texts of this law, joined. -/
import Derived.Test.YtgikmhjpcnnhjaaGreatQwE8
import Derived.Test.YtgikmhjpcnnhjaaGreatVd
set_option linter.unusedSimpArgs false
set_option linter.unusedVariables false
set_option linter.unusedSectionVars false
set_option linter.defProp false
open Option renaming bind_some -> en,bind -> avl
open Int renaming toNat_natCast -> hX,toNat -> avu,tmod_lt_of_pos -> avC,tmod_nonneg -> avL
open Bool renaming false_eq_true -> j_,eq_false_or_eq_true -> au3,not_true -> X',eq_iff_iff -> au8,and_eq_true -> au9,not_false -> ava,true_and -> avb,or_true -> avd,false_ne_true -> avi,decide_and -> avq,false_and -> avr,eq_false_iff -> avD,not_eq_true -> avJ,and_false -> avM
open List renaming getD_eq_getElem?_getD -> au4,length_singleton -> au6,replicate -> avc,length_set -> ave,take_succ_eq_append_getElem -> avg,length_nil -> avh,set_set -> avj,getElem?_append_right -> avk,getElem?_eq_getElem -> avm,length -> avn,nil_append -> avp,length_append -> avt,getD -> avv,all_eq_true -> avw,length_filter_le -> avx,replicate_succ' -> avy,filter_append -> avz,map_singleton -> avA,filter_cons -> avE,length_cons -> avH,ext_getElem -> avI,map_append -> avK
open Nat renaming lt_irrefl -> G7,le_trans -> avf,le_refl -> avs,eq_zero_or_pos -> avB
open Prod.mk renaming injEq -> avo
open Prod renaming ext -> avF,fst -> avG
namespace Vg.Tryz
open Go Vg
def iV(O:Int)(l:List ae):List ae:=l.filter fun a=>decide (a.2.2.1<=O)
def ic(O:Int)(c:aP):aP:=(c.1,dC O c.2)
def jV(O:Int)(l:List aP):List aP:=(l.map (ic O)).filter fun c=>decide (0<c.2.length)
def db(O:Int)(l:List aP):List ae:=l.flatMap fun c=>iV O c.2
def dU(p:ar)(O:Int):ar:=(p.1,if 0<(db O p.2.2).length then IntKind.i64.wrap (p.2.1+1)else p.2.1,jV O p.2.2)
def mC(a:ae)(s:bg):bg:=if s.2=true then s else if 3<=s.1.length then([],true)else(s.1++[a],s.2)
def MU{α:Type}(p:α->Bool){l:List α}{i:Nat}(d:α)(h:i<l.length):(l.take (i+1)).filter p=if p (l.getD i d)=true then(l.take i).filter p++[l.getD i d]else(l.take i).filter p:=by
 have b:l.getD i d=l[i]:=by rw[au4,avm h];rfl
 rw[avg h,avz,b];by_cases a:p l[i]=true;simp[a];simp[a]
def QZ{O:Int}{l:List aP}{i:Nat}(h:i<l.length):jV O (l.take (i+1))=if 0<(dC O (l.getD i ax.aa).2).length then jV O (l.take i)++[ic O (l.getD i ax.aa)]else jV O (l.take i):=by
 have b:l.getD i ax.aa=l[i]:=by rw[au4,avm h];rfl
 unfold jV;rw[avg h,avK,avz,b];by_cases a:0<(dC O (l[i]).2).length;rw[an a,avA,avE,an (show(decide (0<(ic O l[i]).2.length))=true from c_ a)];rfl;rw[a_ a,avA,avE,a_ (show¬(decide (0<(ic O l[i]).2.length))=true from fun h=>a (e_ h))];simp
section
variable{k:Nat}(Q:9223372036854775808<=k)
include Q
theorem zB{O:Int}{l:List ae}:af (.sl ab) (iV O l)<=af (.sl ab) l:=vn (e:=ab) _ l
def C9{c:aP}{O:Int}(hc:af ax c<=1048576):mq k (c,O,())=some (ic O c,iV O c.2,()):=by
 have h1:=cu Q c;have h2:=ay (e:=ab) (l:=c.2);simp only[mq,aN];refine(bG (fun i:Nat=>(O,c,(0,([]:List ae)),(c.1,dC O (c.2.take i)),iV O (c.2.take i),(i:Int),())) c.2.length (e:=some (ic O c,iV O c.2,())) (fun G i a=> ?_) (fun G=> ?_) k 0 (by omega) (by omega));have l1:=zV (O:=O) (l:=c.2.take i);have d:(iV O (c.2.take i)).length<=(c.2.take i).length:=avx ..;have l3:(c.2.take i).length<=c.2.length:=by simp;omega
 have hm:af ab (c.2.getD i ab.aa)<=1048576:=(fo Q (by omega) a).1;simp only[aH,aA a,a,decide_true,if_true,hX,mV];rw[aV (by omega),dh Q (by omega),en,en,xZ a];unfold iV at d|-;rw[MU _ ab.aa a];by_cases b:(c.2.getD i ab.aa).2.2.1<=O;simp only[b,decide_true,if_true,X',j_,if_false];rw[an (c_ (by simp only[au6];omega))];simp only[b,decide_false,j_,if_false,ava,if_true];rw[an (c_ (by simp only[au6];omega))];simp[ic]
def Pu{O:Int}(l:List aP):(db O l).length<=af (.sl ax) l:=by
 have a:af (.sl ab) (db O l)<=af (.sl ax) l:=kV Q (e:=ax) (f:=ab) (g:=fun c=>iV O c.2) (fun c=>avf (zB Q) (by rw[cu Q];exact avs _)) l;exact avf (ay (e:=ab)) a
theorem Q0{O:Int}(l:List aP):(jV O l).length<=l.length:=by
 unfold jV;exact avf (avx ..) (by simp)
def FR{p:ar}{O:Int}(g:af ah p<=1048576):nD k (p,O,())=some (dU p O,db O p.2.2,()):=by
 have h1:=bY Q p;have h2:=ay (e:=ax) (l:=p.2.2);simp only[nD,aN];refine(bG (fun i:Nat=>(O,p,(0,0,([]:List aP)),(p.1,p.2.1,jV O (p.2.2.take i)),db O (p.2.2.take i),(i:Int),())) p.2.2.length (e:=some (dU p O,db O p.2.2,())) (fun G i d=> ?_) (fun G=> ?_) k 0 (by omega) (by omega));have l1:=Q0 Q (O:=O) (p.2.2.take i);have l2:=Pu Q (O:=O) (p.2.2.take i);have l3:=cN (e:=ax) p.2.2 i;have l4:(p.2.2.take i).length<=p.2.2.length:=by simp;omega
 have l6:(iV O (p.2.2.getD i ax.aa).2).length<=1048576:=avf (ay (e:=ab)) (avf (zB Q) (fJ Q g d).2);simp only[aH,aA d,d,decide_true,if_true,hX];rw[aV (by omega),C9 Q (fJ Q g d).1,en,QZ d];have j:db O (p.2.2.take (i+1))=db O (p.2.2.take i)++iV O (p.2.2.getD i ax.aa).2:=dT (f:=fun c:aP=>iV O c.2) ax.aa d;rw[j,an (c_ (by first|omega|(dsimp only;omega)|(simp;omega)))];by_cases a:0<(dC O (p.2.2.getD i ax.aa).2).length;rw[an (c_ (by simp only[ic];omega)),an a,an (c_ (by simp only[au6];first|omega|(dsimp only;omega)|(simp;omega)))];have b:¬decide ((((ic O (p.2.2.getD i ax.aa)).2.length:Nat):Int)>0)=true:=fun h=>a (by have h9:=e_ h;simp only[ic]at h9;omega);rw[a_ b,a_ a];simp only[aH,G7,decide_false,j_,if_false,List.take_length];unfold dU;by_cases a:0<(db O p.2.2).length;rw[an (c_ (by omega)),an a];have b:¬decide ((((db O p.2.2).length:Nat):Int)>0)=true:=fun h=>a (by have h9:=e_ h;omega);rw[a_ b,a_ a]
def Ac{s:bg}{a:ae}(hs:af aU s<=1048576)(ha:af ab a<=1048576):oj k (s,a,())=some (mC a s,()):=by
 have h1:=eG Q s;have h2:=ay (e:=ab) (l:=s.1);simp only[oj];rw[Ks Q (by omega),en];unfold mC;by_cases b:s.2=true;rw[an b,an b];rw[a_ b,a_ b];by_cases d:3<=s.1.length;rw[an (c_ (by omega)),an d];have f:¬decide (((s.1.length:Nat):Int)>=3)=true:=fun h=>d (by have h9:=e_ h;omega);rw[a_ f,a_ d,dh Q (by omega),en,an (c_ (by simp only[au6];omega))]
def FH{l:List bg}{a:ae}(d:af (.sl aU) l<=1048576)(f:af ab a<=1048576):nj k (l,a,())=some (l.map (mC a),()):=by
 have h2:=ay (e:=aU) (l:=l);simp only[nj];refine(bG (fun i:Nat=>(l,a,(l.take i).map (mC a),(i:Int),())) l.length (e:=some (l.map (mC a),())) (fun G i b=> ?_) (fun G=> ?_) k 0 (by omega) (by omega));have g:l.getD i aU.aa=l[i]:=by rw[au4,avm b];rfl
 simp only[aH,aA b,b,decide_true,if_true,hX];rw[aV (by omega),Ac Q (MJ Q d b) f,en,an (c_ (by simp;omega)),avg b,avK,g];rfl;simp
end
def ve(l:List aJ)(i j:Nat):List aJ:=(l.set i (l.getD j aD.aa)).set j (l.getD i aD.aa)
def eU(l:List aJ)(i j:Nat):(ve l i j).length=l.length:=by simp[ve]
def HG(l:List aJ)(i:Nat):List aJ:=
 if h:0<i then if bO (l.getD i aD.aa) (l.getD ((i-1)/2) aD.aa)=true then HG (ve l i ((i-1)/2)) ((i-1)/2)else l else l
termination_by i
decreasing_by omega
def vf(l:List aJ)(t:aJ):List aJ:=HG (l++[t]) l.length
def gA(l:List aJ)(i:Nat):Nat:=
 if 2*i+2<l.length/\bO (l.getD (2*i+2) aD.aa) (l.getD (2*i+1) aD.aa)=true then 2*i+2 else 2*i+1
def sj(l:List aJ)(i:Nat):List aJ:=
 if h:2*i+1<l.length then
  if bO (l.getD (gA l i) aD.aa) (l.getD i aD.aa)=true then sj (ve l i (gA l i)) (gA l i)else l
 else l
termination_by l.length-i
decreasing_by
 rw[eU]
 have:i<gA l i:=by unfold gA;split<;>omega
 omega
def Vi{l:List aJ}{i:Nat}(h:2*i+1<l.length):i<gA l i/\gA l i<l.length:=by unfold gA;split<;>omega
def eK(l:List aJ):List aJ×aJ×Bool:=
 if l.length=0 then([],(0,0),false)
 else(if l.length=1 then []else sj ((l.take (l.length-1)).set 0 (l.getD (l.length-1) aD.aa)) 0,l.getD 0 aD.aa,true)
def Zf{i:Nat}(h:i<1073741824):IntKind.i64.wrap (IntKind.i64.wrap ((2:Int)*(i:Int))+1)=((2*i+1:Nat):Int):=by
 have e:(2:Int)*(i:Int)=((2*i:Nat):Int):=by omega
 have w:IntKind.i64.wrap ((2*i:Nat):Int)=((2*i:Nat):Int):=by
  have:=aV (i:=2*i-1) (by omega);rcases avB i with a|a;subst a;rfl;have b:(((2*i-1:Nat):Int)+1)=((2*i:Nat):Int):=by omega
  rw[b]at this;rw[this];congr 1;omega
 rw[e,w,aV (by omega)]
def i2b{i:Nat}(h:i<1073741824):IntKind.i64.wrap (((2*i+1:Nat):Int)+1)=((2*i+2:Nat):Int):=by
 rw[aV (by omega)]
theorem Ce{σ ρ α:Type}{f:(σ->Option ρ)->σ->Option ρ}(st:α->σ)(res:α->Option ρ)(I:α->Prop)(m:α->Nat)
 (h:∀G a,I a->(∃b,I b/\m b<m a/\res b=res a/\f G (st a)=G (st b))\/f G (st a)=res a):
 ∀n a,I a->m a<n->aM n f (st a)=res a
 |0,a,_,hn=>by omega
 |n+1,a,hI,hn=>by
  rcases h (aM n f) a hI with⟨b,d,hm,g,e⟩|e;show f (aM n f) (st a)=_;rw[e,<-g];exact Ce st res I m h n b d (by omega);exact e
def RV{σ ρ α:Type}{f:(σ->Option ρ)->σ->Option ρ}(st:α->σ)(res:α->Option ρ)(I:α->Prop)(m:α->Nat)
 (h:∀a,I a->∃(c:Bool) (b:α),(c=true->I b/\m b<m a/\res b=res a)/\∀G,f G (st a)=if c=true then G (st b)else res a):
 ∀n a,I a->m a<n->aM n f (st a)=res a:=by
 refine Ce st res I m (fun G a g=> ?_);obtain⟨c,b,d,e⟩:=h a g;cases c with
 |true=>exact Or.inl ⟨b,(d rfl).1,(d rfl).2.1,(d rfl).2.2,e G⟩
 |false=>exact Or.inr (e G)
def Sb{n:Nat}(h:n<4611686018427387904):IntKind.i64.wrap (n:Int)=(n:Int):=by
 rcases avB n with a|a;subst a;rfl;have:=aV (i:=n-1) (by omega);have b:(((n-1:Nat):Int)+1)=(n:Int):=by omega
 rw[b]at this;rw[this];congr 1;omega
def YO{α:Type}{l:List α}{t:α}(h:l.length<=1048576):IntKind.i64.wrap ((((l++[t]).length:Nat):Int)-1)=(l.length:Int):=by
 rw[avt,au6];have e:(((l.length+1:Nat):Int)-1)=(l.length:Int):=by omega
 rw[e,Sb (by omega)]
section
variable{k:Nat}(Q:9223372036854775808<=k)
include Q
def uG{l:List aJ}{t:aJ}(g:l.length<=1048576):kt k (l,t,())=some (vf l t,()):=by
 simp only[kt,avp];rw[an (c_ (by simp only[avh];omega)),an (c_ (by simp only[au6];omega)),YO g];unfold vf;have d:(l++[t]).length<=1048577:=by simp;omega
 have b:l.length<(l++[t]).length:=by simp
 refine Ce (fun a:List aJ×Nat=>(t,a.1,(a.2:Int),())) (fun a=>some (HG a.1 a.2,())) (fun a=>a.2<a.1.length/\a.1.length<=1048577) (fun a=>a.2) ?_ k (l++[t],l.length) ⟨b,d⟩ (by dsimp only;omega);rintro G ⟨L,i⟩ ⟨b,d⟩;dsimp only at b d|-;rw[HG];cases i with
 |zero=>
  right;simp only[PD];simp
 |succ q=>
  have f:q/2<L.length:=by omega
  have h:decide (¬(2:Int)=0)=true:=rfl;have j:(q+1-1)/2=q/2:=by omega
  simp only[aH,aA b,aA f,b,Kh,zz (show q<4611686018427387904 by omega),decide_true,if_true,hX,fW Q,en,ave,fu,ne_eq,h,avd,beq_self_eq_true,j];rw[dif_pos (Nat.succ_pos q)];by_cases e:bO (L.getD (q+1) aD.aa) (L.getD (q/2) aD.aa)=true;left;refine⟨(ve L (q+1) (q/2),q/2),⟨by rw[eU];exact f,by rw[eU];exact d⟩,by show q/2<q+1;omega,by rw[an e],?_⟩;rw[an e];rfl;right;rw[a_ e,a_ e]
def Dk{l:List aJ}(hl:l.length<=1048576):mo k (l,())=some ((eK l).1,(eK l).2.1,(eK l).2.2,()):=by
 simp only[mo];unfold eK;by_cases j:l.length=0;rw[an (by simpa using j),an j]
 have v:IntKind.i64.wrap (((l.length:Nat):Int)-1)=((l.length-1:Nat):Int):=by
  have:(((l.length:Nat):Int)-1)=((l.length-1:Nat):Int):=by omega
  rw[this,Sb (by omega)]
 have e:decide ((0:Int)<=0/\(0:Int)<(l.length:Int))=true:=c_ ⟨by omega,by omega⟩;rw[a_ (by simpa using j),a_ j,v,an (c_ ⟨by omega,by omega⟩),hX,an (c_ (by simp;omega))];simp only[aN,avp,e,if_true];by_cases m:l.length=1;rw[a_ (by simp;omega),an m];have w:l.take (l.length-1)=[]:=by rw[m];rfl
 rw[w];obtain⟨q,f⟩:∃q,k=q+1:=⟨k-1,by omega⟩
 rw[f];simp only[aM,m];rfl;rw[an (by simp;omega),a_ m,an (c_ ⟨by omega,by omega⟩),an (c_ ⟨by omega,by simp;omega⟩)];have t:((l.take (l.length-1)).set 0 (l.getD (l.length-1) aD.aa)).length=l.length-1:=by simp
 refine RV (fun a:List aJ×Nat=>(l,(0,0),((l.length-1:Nat):Int),a.1,(a.2:Int),())) (fun a=>some (sj a.1 a.2,l.getD 0 aD.aa,true,())) (fun a=>a.1.length=l.length-1/\a.2<a.1.length)
  (fun a=>l.length-a.2) ?_ k ((l.take (l.length-1)).set 0 (l.getD (l.length-1) aD.aa),0) ⟨t,by rw[t];show 0<_;omega⟩ (by dsimp only;omega)
 rintro⟨L,i⟩ ⟨o,p⟩;dsimp only at o p|-;have u:l.getD (avu 0) aD.aa=l.getD 0 aD.aa:=rfl;have b:sj L i=_:=sj.eq_1 L i;by_cases d:2*i+1<L.length;rw[dif_pos d]at b;obtain⟨k1,r⟩:=Vi d;refine⟨bO (L.getD (gA L i) aD.aa) (L.getD i aD.aa),(ve L i (gA L i),gA L i),fun hc=> ?_,fun G=> ?_⟩;refine⟨⟨by rw[eU];exact o,by rw[eU];exact r⟩,by dsimp only;omega,?_⟩;rw[an hc]at b;rw[b];simp only[Zf (show i<1073741824 by omega),i2b (show i<1073741824 by omega),aN,aH,hX,<-o,ave,fu,d,decide_true,if_true,u];by_cases g:2*i+2<L.length;simp only[g,aA g,aA d,decide_true,avd,if_true,beq_self_eq_true,fW Q,en];by_cases n:bO (L.getD (2*i+2) aD.aa) (L.getD (2*i+1) aD.aa)=true;rw[an n];have f:gA L i=2*i+2:=an ⟨g,n⟩;simp only[<-f,aA r,aA p,avd,if_true,beq_self_eq_true,fW Q,en,j_,if_false];rcases au3 (bO (L.getD (gA L i) aD.aa) (L.getD i aD.aa))with hb|hb;rw[a_ (by rw[hb];decide),an hb];rfl;rw[an (by rw[hb];decide),an e,a_ (by rw[hb];decide),b,a_ (by rw[hb];decide)];rw[a_ n];have f:gA L i=2*i+1:=a_ (fun h=>n h.2);simp only[<-f,aA r,aA p,avd,if_true,beq_self_eq_true,fW Q,en,j_,if_false];rcases au3 (bO (L.getD (gA L i) aD.aa) (L.getD i aD.aa))with hb|hb;rw[a_ (by rw[hb];decide),an hb];rfl;rw[an (by rw[hb];decide),an e,a_ (by rw[hb];decide),b,a_ (by rw[hb];decide)];have s:decide (2*i+2<L.length)=false:=decide_eq_false g;have x:(false==true)=false:=rfl;simp only[s,x,ava,Bool.true_or,if_true,j_,if_false,en];have f:gA L i=2*i+1:=a_ (fun h=>g h.1);simp only[<-f,aA r,aA p,avd,if_true,beq_self_eq_true,fW Q,en,j_,if_false];rcases au3 (bO (L.getD (gA L i) aD.aa) (L.getD i aD.aa))with hb|hb;rw[a_ (by rw[hb];decide),an hb];rfl;rw[an (by rw[hb];decide),an e,a_ (by rw[hb];decide),b,a_ (by rw[hb];decide)];rw[dif_neg d]at b;refine⟨false,(L,i),(fun h=>nomatch h),fun G=> ?_⟩;have y:decide (2*i+1<L.length)=false:=decide_eq_false d;simp only[Zf (show i<1073741824 by omega),aH,<-o,y,b,e,if_true,j_,if_false,u]
end
theorem uE{α:Type}[DecidableEq α]:∀(l m:List α),allEq (fun a b=>decide (a=b)) l m=decide (l=m)
 | [],[]=>by simp[allEq]
 | [],_::_=>by simp[allEq]
 |_::_,[]=>by simp[allEq]
 |a::l,b::m=>by simp only[allEq,uE l m,List.cons.injEq,avq]
def rz(a b:ByteArray):(a.toList==b.toList)=decide (a=b):=by
 by_cases h:a=b;simp[h];have:¬a.toList=b.toList:=fun e=>h (toList_inj e);simp[h,this]
instance iLabel:DecidableEq ai:=inferInstance
instance LA:DecidableEq (List ai):=inferInstance
instance iAlarm:DecidableEq ae:= @instDecidableEqProd _ _ inferInstance inferInstance
instance L_:DecidableEq (List ae):=inferInstance
instance iTail:DecidableEq (List Int×(List ae×aJ)):=inferInstance
instance iTask:DecidableEq aF:= @instDecidableEqProd _ _ inferInstance (@instDecidableEqProd _ _ inferInstance (@instDecidableEqProd _ _ inferInstance (@instDecidableEqProd _ _ inferInstance (@instDecidableEqProd _ _ inferInstance inferInstance))))
def zT:aF:=(0,0,cF,[],0,[],[],0,0)
def jv(l:List Int):Bool:=bA 0 l.length (fun i=>decide (0<=l.getD i 0))
def ow(t:aF):Bool:=decide (t.2.2.2.2.1=0)&&decide (t.2.2.2.2.2.1=[])&&decide (t.2.2.2.2.2.2.1=[])
def cV(t:aF)(n:Int):Bool:=
 bc n 0 4&&decide (0<=t.2.2.2.2.2.2.2.2)&&
 ((decide (t.1=0)&&decide (t=zT))||
  (decide (t.1=1)&&decide (n<3)&&bc t.2.1 0 2&&bj t.2.2.1&&decide (t.2.2.2.1=[])&&ow t&&decide (t.2.2.2.2.2.2.2.1=0))||
  (decide (t.1=2)&&decide (n<3)&&bc t.2.1 0 1&&decide (t.2.2.1=cF)&&dt t.2.2.2.1&&ow t&&decide (t.2.2.2.2.2.2.2.1=0))||
  (decide (t.1=3)&&decide (n<3)&&bc t.2.1 0 2&&decide (t.2.2.1=cF)&&decide (t.2.2.2.1=[])&&jv t.2.2.2.2.2.1&&decide ((t.2.2.2.2.2.1.length:Int)=t.2.2.2.2.1)&&bB t.2.2.2.2.2.2.1&&
   (if t.2.1=2 then bc t.2.2.2.2.1 1 3 else bc t.2.2.2.2.1 0 2)&&decide (t.2.2.2.2.2.2.2.1=0))||
  (decide (t.1=4)&&decide (n<3)&&bc t.2.1 0 1&&decide (t.2.2.1=cF)&&decide (t.2.2.2.1=[])&&bc t.2.2.2.2.1 0 2&&decide (t.2.2.2.2.2.1=[])&&decide (t.2.2.2.2.2.2.1=[])&&decide (t.2.2.2.2.2.2.2.1=0))||
  (decide (t.1=5)&&decide (n=3)&&bc t.2.1 0 1&&bj t.2.2.1&&decide (t.2.2.2.1=[])&&ow t&&decide (t.2.2.2.2.2.2.2.1=0))||
  (decide (t.1=6)&&decide (n=4)&&bc t.2.1 0 1&&decide (t.2.2.1=cF)&&decide (t.2.2.2.1=[])&&ow t&&decide (0<=t.2.2.2.2.2.2.2.1)))
def eN(op:Int):List Int:=if op=1 then [1,2,3,4]else if op=3 then [5,6]else if op=7 then [1,2,3]else if op=8 then [8,6]else if op=9 then [5,6,7]else [8]
def er(k:Nat)(d:aC):Bool:=
 match d with
 |(op,task,_,_,i,n,code,_,O,inv,lin,res)=>
  bc op 1 9&&bc task (-1) 4&&decide (0<=inv)&&decide (0<=i)&&decide (0<=n)&&decide (0<=O)&&(decide (lin= -1)||decide (inv<=lin))&&(decide (res= -1)||(!decide (lin= -1)&&decide (lin<=res)))&&
   (if lin= -1 then decide (code=0)else decide (code∈eN op))
def bn(k:Nat)(t:aF)(n:Int):Int:=
 if n<1 then-1
 else if t.1=1/\(t.2.1=1\/t.2.1=2)then dL (cH k t.2.2.1.1) n
 else if t.1=2/\t.2.1=1 then dL (cH k t.2.2.2.1) n
 else if(t.1=3\/t.1=4)/\t.2.1=1 then t.2.2.2.2.1
 else-1
def cA(t:aF):Bool:=(decide (t.1=5)||decide (t.1=6))&&decide (t.2.1=1)
section
variable{k:Nat}(Q:9223372036854775808<=k)
include Q
def fC{a b:ae}(d:a.1.length<=1048576):dJ k (a,b,())=some (decide (a=b),()):=by
 obtain⟨h,j,l,a4⟩:=a;obtain⟨m,n,o,b4⟩:=b;simp only[dJ,dF Q d,en,cj,rz,avo,avq];by_cases e:h=m<;>by_cases f:j=n<;>by_cases g:l=o<;>simp[e,f,g]
def ee{a b:ae}(d:a.1.length<=1048576):bW k (a,b,())=some (decide (a=b),()):=by
 obtain⟨h,j,l,a4⟩:=a;obtain⟨m,n,o,b4⟩:=b;simp only[bW,du Q d,en,cj,rz,avo,avq];by_cases e:h=m<;>by_cases f:j=n<;>by_cases g:l=o<;>simp[e,f,g]
def gE{a:ae}(h:af ab a<=1048576):a.1.length<=1048576:=by
 rw[bo Q]at h;have:=ay (e:=al) (l:=a.1);omega
def Jo{a b:List ae}(g:af (.sl ab) a<=1048576):oO k (a,b,())=some (decide (a=b),()):=by
 rw[<-uE];have hl:=ay (e:=ab) (l:=a);exact aah (d:=ab.aa) (S:=dJ k) Q (by omega) (fun x f y _=>fC Q (gE Q (avf (cI (e:=ab) f) g)))
def ey{a b:List ae}(g:af (.sl ab) a<=1048576):cY k (a,b,())=some (decide (a=b),()):=by
 rw[<-uE];have hl:=ay (e:=ab) (l:=a);exact Uk (d:=ab.aa) (S:=bW k) Q (by omega) (fun x f y _=>ee Q (gE Q (avf (cI (e:=ab) f) g)))
def En{a b:List Int}(ha:a.length<=1048576):jy k (a,b,())=some (decide (a=b),()):=by
 rw[<-uE];refine Eq.trans ?_ (Uk (d:=(0:Int)) (S:=fun z=>some (decide ((z.1:Int)=z.2.1),())) (p:=fun a b=>decide (a=b)) Q (by omega) (fun x hx y _=>rfl));simp only[jy,eqR,en,fq]
def Ej{a b:aF}(o:af ak a<=1048576):jt k (a,b,())=some (decide (a=b),()):=by
 rw[bw Q]at o;have p:=gE Q (a:=a.2.2.1) (by omega);have h2:=ay (e:=al) (l:=a.2.2.2.1);have h3:=ay (e:= .int .i64) (l:=a.2.2.2.2.2.1);have q1:∀b,bW k (a.2.2.1,b,())=some (decide (a.2.2.1=b),()):=fun b=>ee Q p;have q2:∀b,cg k (a.2.2.2.1,b,())=some (decide (a.2.2.2.1=b),()):=fun b=>du Q (by omega);have q3:∀b,jy k (a.2.2.2.2.2.1,b,())=some (decide (a.2.2.2.2.2.1=b),()):=fun b=>En Q (by omega);have q4:∀b,cY k (a.2.2.2.2.2.2.1,b,())=some (decide (a.2.2.2.2.2.2.1=b),()):=fun b=>ey Q (by omega);obtain⟨r,s,t,u,v,w,x,y,a9⟩:=a;obtain⟨z,B,C,D,F,G,H,I,b9⟩:=b;simp only at q1 q2 q3 q4;simp only[jt,q1,q2,q3,q4,bZ,en,cj,avo,avq];by_cases d:r=z;by_cases f:s=B;by_cases g:t=C;by_cases h:u=D;by_cases j:v=F;by_cases m:w=G;by_cases n:x=H;by_cases q:y=I<;>simp[d,f,g,h,j,m,n,q];simp[d,f,g,h,j,m,n];simp[d,f,g,h,j,m];simp[d,f,g,h,j];simp[d,f,g,h];simp[d,f,g];simp[d,f];simp[d]
def qQ{t:aF}{n:Int}(hs:af ak t<=1048576):jJ k (t,n,())=some (bn k t n,()):=by
 rw[bw Q]at hs
 have g:af (.sl al) t.2.2.1.1<=1048576:=by
  have:=bo Q t.2.2.1;omega
 simp only[jJ,pn,iC Q g,iC Q (l:=t.2.2.2.1) (by omega),lU Q,en,cj];unfold bn;by_cases a:n<1;simp[a];by_cases d:t.2.1=1;by_cases b:t.1=1;simp[a,d,b];by_cases e:t.1=2;simp[a,d,b,e];by_cases f:t.1=3;simp[a,d,b,e,f];by_cases h:t.1=4<;>simp[a,d,b,e,f,h];by_cases b:t.1=1;by_cases j:t.2.1=2<;>simp[a,d,j,b];simp[a,d,b]
def BO{t:aF}{n:Int}(hs:af ak t<=1048576):lr k (t,n,())=some (bn k t n,()):=by
 rw[bw Q]at hs
 have g:af (.sl al) t.2.2.1.1<=1048576:=by
  have:=bo Q t.2.2.1;omega
 simp only[lr,eE Q g,eE Q (l:=t.2.2.2.1) (by omega),iw Q,en,cj];unfold bn;by_cases a:n<1;simp[a];by_cases d:t.2.1=1;by_cases b:t.1=1;simp[a,d,b];by_cases e:t.1=2;simp[a,d,b,e];by_cases f:t.1=3;simp[a,d,b,e,f];by_cases h:t.1=4<;>simp[a,d,b,e,f,h];by_cases b:t.1=1;by_cases j:t.2.1=2<;>simp[a,d,j,b];simp[a,d,b]
theorem kD{t:aF}:ik k (t,())=some (cA t,()):=by
 simp only[ik,cA,cj];by_cases a:t.1=5<;>by_cases b:t.1=6<;>simp[a,b]
theorem zx{t:aF}:jm k (t,())=some (cA t,()):=by
 simp only[jm,cA,cj];by_cases a:t.1=5<;>by_cases b:t.1=6<;>simp[a,b]
def Iq{t:aF}(hs:af ak t<=1048576):oP k (t,())=some (jv t.2.2.2.2.2.1&&(decide ((t.2.2.2.2.2.1.length:Int)=t.2.2.2.2.1)&&bB t.2.2.2.2.2.2.1&&(if t.2.1=2 then bc t.2.2.2.2.1 1 3 else bc t.2.2.2.2.1 0 2)),()):=by
 rw[bw Q]at hs;have h3:=ay (e:= .int .i64) (l:=t.2.2.2.2.2.1);simp only[oP,aN]
 refine(cr (fun i:Nat=>(t,t.2.2.2.2.2.1,(t.2.2.2.2.2.1.length:Int),(i:Int),())) (fun i=>decide (0<=t.2.2.2.2.2.1.getD i 0)) t.2.2.2.2.2.1.length
  (e:=some (decide ((t.2.2.2.2.2.1.length:Int)=t.2.2.2.2.1)&&bB t.2.2.2.2.2.2.1&&(if t.2.1=2 then bc t.2.2.2.2.1 1 3 else bc t.2.2.2.2.1 0 2),())) (no:=some (false,())) ?_ ?_ k 0 (by omega)).trans ?_
 intro G i a;simp only[aH,aA a,a,decide_true,if_true,hX,sC];rw[aV (by omega)];rcases au3 (decide (t.2.2.2.2.2.1.getD i 0<0))with h|h<;>simp only[h,if_true,j_,if_false,X',ava];intro G i a;simp only[aH];rw[a_ (by simp;omega)];simp only[kQ Q (l:=t.2.2.2.2.2.2.1) (by omega),fG Q,en,fq,cj,bZ];by_cases q:(t.2.2.2.2.2.1.length:Int)=t.2.2.2.2.1<;>by_cases p:t.2.1=2<;>cases hb:bB t.2.2.2.2.2.2.1<;>simp[q,p];unfold jv;generalize bA 0 t.2.2.2.2.2.1.length _=b;cases b<;>simp
def EY{t:aF}(hs:af ak t<=1048576):ni k (t,())=some (jv t.2.2.2.2.2.1&&(decide ((t.2.2.2.2.2.1.length:Int)=t.2.2.2.2.1)&&(if t.2.1=2 then bc t.2.2.2.2.1 1 3 else bc t.2.2.2.2.1 0 2)),()):=by
 rw[bw Q]at hs;have h3:=ay (e:= .int .i64) (l:=t.2.2.2.2.2.1);simp only[ni,aN]
 refine(cr (fun i:Nat=>(t,(i:Int),())) (fun i=>decide (0<=t.2.2.2.2.2.1.getD i 0)) t.2.2.2.2.2.1.length
  (e:=some (decide ((t.2.2.2.2.2.1.length:Int)=t.2.2.2.2.1)&&(if t.2.1=2 then bc t.2.2.2.2.1 1 3 else bc t.2.2.2.2.1 0 2),())) (no:=some (false,())) ?_ ?_ k 0 (by omega)).trans ?_
 intro G i a;simp only[aH,aA a,a,decide_true,if_true,hX,sC];rw[aV (by omega)];rcases au3 (decide (t.2.2.2.2.2.1.getD i 0<0))with h|h<;>simp only[h,if_true,j_,if_false,X',ava];intro G i a;simp only[aH];rw[a_ (by simp;omega)];simp only[fS Q,en,cj,bZ];generalize t.2.2.2.2.2.1.length=n;generalize t.2.2.2.2.1=m;by_cases p:t.2.1=2<;>by_cases q:(n:Int)=m;subst q;simp[p];have q2:¬m=(n:Int):=fun e=>q e.symm;simp[p,q,q2];subst q;simp[p,bc];simp[p,q];unfold jv;generalize bA 0 t.2.2.2.2.2.1.length _=b;cases b<;>simp
end
theorem cU{σ ρ:Type}{f:(σ->Option ρ)->σ->Option ρ}(st:Nat->σ)(p:Nat->Bool)(n:Nat){e no:Option ρ}
 (b:∀G i,i<n->f G (st i)=if p i=true then G (st (i+1))else no) (d:∀G,f G (st n)=e):
 ∀(k a:Nat),a<=n->n-a<k->aM k f (st a)=if bA a n p=true then e else no
 |0,_,_,h=>by omega
 |k+1,a,hn,h=>by
  show f (aM k f) (st a)=_;by_cases g:a<n;rw[b _ a g,Wu g,cU st p n b d k (a+1) (by omega) (by omega)];cases p a<;>simp;have:a=n:=by omega
  subst this;rw[d,lX (by omega),an rfl]
def Ay{n:Nat}{p:Nat->Bool}:bA 0 (n+1) p=(bA 0 n p&&p n):=by
 rw[au8];simp only[au9,ck];constructor;intro h;exact⟨fun i a b=>h i a (by omega),h n (by omega) (by omega)⟩;rintro⟨a,b⟩ i hi hj;by_cases d:i=n;subst d;exact b;exact a i hi (by omega)
def xG(st:List ar)(seen:List Int):Bool:=bA 0 seen.length (fun i=> !decide (seen.getD i 0>(st.getD i ah.aa).2.1))
def gC(st:List ar)(seen:List Int):Bool:=bA 0 seen.length (fun i=>decide (seen.getD i 0=(st.getD i ah.aa).2.1))
def dm(st:List ar)(t:aF):Bool:=
 xG st t.2.2.2.2.2.1&&(!gC st t.2.2.2.2.2.1||decide ((st.take t.2.2.2.2.2.1.length).flatMap aW=t.2.2.2.2.2.2.1))
def kY(k:Nat)(w:ag)(t:aF)(d:aC):Bool:=
 if t.1=1 then
  decide (d.1=1)&&(if t.2.1=2 then decide (d.2.2.1.1=t.2.2.1.1)&&(bL k w.2.2.2.1 t.2.2.1.1).2&&decide ((bL k w.2.2.2.1 t.2.2.1.1).1=t.2.2.1)else decide (d.2.2.1=t.2.2.1)&&cw t.2.2.1)
 else if t.1=2 then decide (d.1=3)&&decide (d.2.2.2.1=t.2.2.2.1)
 else if t.1=3 then decide (d.1=4)&&((if t.2.1=2 then decide ((t.2.2.2.2.2.1.length:Int)=w.1.1)else decide (t.2.2.2.2.1<w.1.1))&&dm w.2.2.2.1 t)
 else if t.1=4 then decide (d.1=6)&&decide (t.2.2.2.2.1<w.1.1)
 else if t.1=5 then decide (d.1=7)&&decide (d.2.2.1=t.2.2.1)
 else decide (d.1=8)&&(decide (d.2.2.2.2.2.1=t.2.2.2.2.2.2.2.1)&&decide (t.2.2.2.2.2.2.2.1<w.2.2.2.2.2.2.2.2.1))
def cJ(k:Nat)(w:ag)(t:aF)(d:aC)(n:Int):Bool:=
 cV t n&&(decide (t.1=0)||(decide (t.2.2.2.2.2.2.2.2<(w.2.2.2.2.2.2.2.2.2.2.2.2.2.length:Int))&&(decide (d.2.1=n)&&decide (d.2.2.2.2.2.2.2.2.2.2.2= -1)&&
  decide ((¬d.2.2.2.2.2.2.2.2.2.2.1= -1)↔(t.1=1/\t.2.1=2))&&kY k w t d)))
section
variable{k:Nat}(Q:9223372036854775808<=k)
include Q
def lQ{t:aF}(hs:af ak t<=1048576):
 af ab t.2.2.1<=1048576/\af (.sl al) t.2.2.2.1<=1048576/\t.2.2.2.2.2.1.length<=1048576/\af (.sl ab) t.2.2.2.2.2.2.1<=1048576/\af (.sl al) t.2.2.1.1<=1048576:=by
 rw[bw Q]at hs;have h2:=ay (e:= .int .i64) (l:=t.2.2.2.2.2.1);have:=bo Q t.2.2.1;omega
def EV{t:aC}(hs:af aw t<=1048576):
 af ab t.2.2.1<=1048576/\af (.sl al) t.2.2.2.1<=1048576/\af (.sl ab) t.2.2.2.2.2.2.2.1<=1048576/\af (.sl al) t.2.2.1.1<=1048576:=by
 rw[bN Q]at hs;have:=bo Q t.2.2.1;omega
def JG{t:aF}{n:Int}(hs:af ak t<=1048576):oK k (t,n,())=some (cV t n,()):=by
 obtain⟨b,o,q,p,r⟩:=lQ Q hs;have h6:=gE Q b;simp only[oK,fX,fS Q,qC Q p,gK Q b,ly Q o,fC Q h6,EY Q hs,en,bZ,cj];refine congrArg some (avF ?_ rfl);simp only[apply_ite avG];unfold cV;obtain⟨op,pc,a,l,i,seen,got,nn,hh⟩:=t;obtain⟨a1,a2,a3,a4⟩:=a;clear hs b o q p r h6;have hA:bB ([]:List ae)=true:=rfl;have hS:jv ([]:List Int)=true:=rfl;simp only[zT,cF,bc,ow,avo];rw[au8];by_cases d:op=0;subst d;simp;grind;by_cases e:op=1;subst e;simp;grind;by_cases f:op=2;subst f;simp;grind;by_cases g:op=3;subst g;simp;grind;by_cases h:op=4;subst h;simp;grind;by_cases j:op=5;subst j;simp;grind;by_cases m:op=6;subst m;simp;grind;simp[d,e,f,g,h,j,m]
def Kc{t:aF}{n:Int}(hs:af ak t<=1048576):oS k (t,n,())=some (cV t n,()):=by
 obtain⟨m,o,p,q,r⟩:=lQ Q hs;simp only[oS,aN,fG Q,Iq Q hs,jz Q m,oM Q o,Ej Q hs,en,bZ,cj];refine congrArg some (avF ?_ rfl);simp only[apply_ite avG];unfold cV;obtain⟨op,pc,a,l,i,seen,got,nn,hh⟩:=t;obtain⟨a1,a2,a3,a4⟩:=a;clear hs m o p q r;have hA:bB ([]:List ae)=true:=rfl;have hS:jv ([]:List Int)=true:=rfl;simp only[zT,cF,bc,ow,avo];rw[au8];by_cases b:op=0;subst b;simp;grind;by_cases d:op=1;subst d;simp;grind;by_cases e:op=2;subst e;simp;grind;by_cases f:op=3;subst f;simp;grind;by_cases g:op=4;subst g;simp;grind;by_cases h:op=5;subst h;simp;grind;by_cases j:op=6;subst j;simp;grind;simp[b,d,e,f,g,h,j]
end
def lH(a b:Int):decide (a>=b)= !decide (a<b):=by by_cases h:a<b<;>simp[h]<;>omega
section
variable{k:Nat}(Q:9223372036854775808<=k)
include Q
theorem Ca{l:List Int}{n:Int}(hl:l.length<=10):lW k (l,n,())=some (decide (n∈l),()):=by
 simp only[lW]
 rw[qS (g:=fun(t:List Int×Int×Int×Unit)=>some (decide (n∈l.drop t.2.2.1.toNat),())) (m:=fun(t:List Int×Int×Int×Unit)=>l.length-t.2.2.1.toNat)
  (I:=fun(t:List Int×Int×Int×Unit)=>t.1=l/\t.2.1=n/\0<=t.2.2.1/\t.2.2.1<=(l.length:Int))]
 simp;rintro G ⟨l',n',i,u⟩ ⟨e1,e2,hi0,hi1⟩ hG;change l'=l at e1;change n'=n at e2;subst e1 e2;simp only at hi0 hi1 hG|-;by_cases b:i<(l'.length:Int);have e:i.toNat<l'.length:=by omega
 rw[an (by simpa using b),an (by simpa using⟨hi0,b⟩),gz (d:=(0:Int)) e];by_cases a:n'=l'.getD i.toNat 0;rw[an (by rw[a];simp)];simp only[List.mem_cons,a,true_or,decide_true];rw[a_ (by simp only[beq_iff_eq];exact fun h=>a h.symm),wrap64 (by omega) (by omega),hG (l',n',i+1,()) ⟨rfl,rfl,by simp only;omega,by simp only;omega⟩ (by simp only;omega)];simp only[List.mem_cons,a,false_or];rw[show(i+1).toNat=i.toNat+1 by omega];rw[a_ (by simpa using b),List.drop_eq_nil_of_le (by omega)];simp;exact⟨rfl,rfl,by simp,by simp⟩;simp only;omega
theorem Pa(op n:Int):lY k (op,n,())=some (decide (n∈eN op),()):=by
 simp only[lY,bP,en,beq_iff_eq,eN];split;congr 2;rw[au8];simp;omega;split;congr 2;rw[au8];simp;omega;split;congr 2;rw[au8];simp;omega;split;congr 2;rw[au8];simp;split;congr 2;rw[au8];simp;omega;congr 2;rw[au8];simp
theorem sO(op:Int):ju k (op,())=some (eN op,()):=by
 simp only[ju,beq_iff_eq,eN]
 repeat' split
 all_goals rfl
theorem O1(op:Int):(eN op).length<=10:=by
 unfold eN
 repeat' split
 all_goals decide
def IH{d:aC}:oI k (d,())=some (er k d,()):=by
 obtain⟨op,task,a,l,i,n,code,got,O,inv,b,res⟩:=d;simp only[oI,bD,en,bZ,sO Q,Ca Q (O1 Q op),er,bc];generalize decide (code∈eN op)=q;refine congrArg some (avF ?_ rfl);simp only[apply_ite avG];rw[au8];by_cases e:b= -1<;>by_cases f:res= -1<;>by_cases g:inv<=b<;>by_cases h:b<=res<;>cases q<;>simp[e,f,g,h]<;>omega
def HO{d:aC}:oF k (d,())=some (er k d,()):=by
 obtain⟨op,task,a,l,i,n,code,got,O,inv,b,res⟩:=d;simp only[oF,bP,en,bZ,Pa Q,er,bc];generalize decide (code∈eN op)=q;refine congrArg some (avF ?_ rfl);simp only[apply_ite avG];rw[au8];by_cases e:b= -1<;>by_cases f:res= -1<;>by_cases g:inv<=b<;>by_cases h:b<=res<;>cases q<;>simp[e,f,g,h]<;>omega
def pU{w:ag}{t:aF}(hs:af ak t<=1048576)(m:af (.sl ah) w.2.2.2.1<=1048576)(hl:t.2.2.2.2.2.1.length<=w.2.2.2.1.length):
 fZ k (w,t,())=some (dm w.2.2.2.1 t,()):=by
 obtain⟨h1,h2,h3,h4,h5⟩:=lQ Q hs;simp only[fZ,aN]
 refine(cU (fun i:Nat=>(w,t,(w.2.2.2.1.take i).flatMap aW,bA 0 i (fun i=>decide (t.2.2.2.2.2.1.getD i 0=(w.2.2.2.1.getD i ah.aa).2.1)),(i:Int),()))
  (fun i=> !decide (t.2.2.2.2.2.1.getD i 0>(w.2.2.2.1.getD i ah.aa).2.1)) t.2.2.2.2.2.1.length
  (e:=some (!gC w.2.2.2.1 t.2.2.2.2.2.1||decide ((w.2.2.2.1.take t.2.2.2.2.2.1.length).flatMap aW=t.2.2.2.2.2.2.1),())) (no:=some (false,())) ?_ ?_ k 0 (by omega) (by omega)).trans ?_
 intro G i g;have a:i<w.2.2.2.1.length:=by omega
 have n:=il Q m a;have b:=fw Q (w.2.2.2.1.take i);unfold bU at b;have hb1:=jT Q (w.2.2.2.1.getD i ah.aa);have d:=cN (e:=ah) w.2.2.2.1 i;have hb3:=ay (e:=ab) (l:=(w.2.2.2.1.take i).flatMap aW);have hb4:=ay (e:=ab) (l:=aW (w.2.2.2.1.getD i ah.aa))
 have f:decide (((w.2.2.2.1.take i).flatMap aW).length+(aW (w.2.2.2.1.getD i ah.aa)).length<4294967296)=true:=by
  simp only[b_];omega
 simp only[aH,aA g,aA a,g,decide_true,if_true,hX,avd,oX Q n,en,f];rw[aV (by omega),dT ah.aa a,Ay]
 rcases au3 (decide (t.2.2.2.2.2.1.getD i 0>(w.2.2.2.1.getD i ah.aa).2.1))with h|h<;>
  simp only[h,if_true,X',ava,j_,if_false,cj,wQ]
 intro G;simp only[aH,G7,decide_false,j_,if_false];show avl (if((!gC w.2.2.2.1 t.2.2.2.2.2.1)==false)=true then oO k ((w.2.2.2.1.take t.2.2.2.2.2.1.length).flatMap aW,t.2.2.2.2.2.2.1,())else some (false,())) _=_;have b:=fw Q (w.2.2.2.1.take t.2.2.2.2.2.1.length);unfold bU at b;have d:=cN (e:=ah) w.2.2.2.1 t.2.2.2.2.2.1.length;rw[Jo Q (by omega)];show avl _ (fun j:Bool×Unit=>some (if(!gC w.2.2.2.1 t.2.2.2.2.2.1)=true then true else j.1,()))=_;cases gC w.2.2.2.1 t.2.2.2.2.2.1<;>simp;unfold dm;show(if xG w.2.2.2.1 t.2.2.2.2.2.1=true then _ else _)=_;cases xG w.2.2.2.1 t.2.2.2.2.2.1<;>simp
def BK{w:ag}{t:aF}(hs:af ak t<=1048576)(o:af (.sl ah) w.2.2.2.1<=1048576)(b:(if t.2.1=2 then decide ((t.2.2.2.2.2.1.length:Int)=w.1.1)else decide (t.2.2.2.2.1<w.1.1))=true->t.2.2.2.2.2.1.length<=w.2.2.2.1.length)(d:t.2.1<=2):
 ld k (w,t,())=some ((if t.2.1=2 then decide ((t.2.2.2.2.2.1.length:Int)=w.1.1)else decide (t.2.2.2.2.1<w.1.1))&&dm w.2.2.2.1 t,()):=by
 obtain⟨h1,h2,h3,r,h5⟩:=lQ Q hs;simp only[ld,aN]
 have hc:(if(if(decide ((t.2.1:Int)<(2:Int)))=true then decide ((t.2.2.2.2.1:Int)>=w.1.1)else false)=true then true else if((t.2.1:Int)==(2:Int))=true then(((avn t.2.2.2.2.2.1:Nat):Int):Int) != w.1.1 else false)
  = !(if t.2.1=2 then decide ((t.2.2.2.2.2.1.length:Int)=w.1.1)else decide (t.2.2.2.2.1<w.1.1)):=by
  rw[lH,fq];by_cases q:t.2.1=2
  ·simp[q]
  ·have q2:t.2.1<2:=by have:=d;omega
   simp[q,q2];exact lH _ _
 rw[hc];rcases au3 (if t.2.1=2 then decide ((t.2.2.2.2.2.1.length:Int)=w.1.1)else decide (t.2.2.2.2.1<w.1.1))with hcc|hcc;rotate_left
 ·rw[hcc];rfl
 have hl:=b hcc;rw[hcc,a_ (by simp)]
 refine(cU (fun i:Nat=>(w,t,bA 0 i (fun i=>decide (t.2.2.2.2.2.1.getD i 0=(w.2.2.2.1.getD i ah.aa).2.1)),(w.2.2.2.1.take i).flatMap aW,t.2.2.2.2.2.1,(t.2.2.2.2.2.1.length:Int),(i:Int),()))
  (fun i=> !decide (t.2.2.2.2.2.1.getD i 0>(w.2.2.2.1.getD i ah.aa).2.1)) t.2.2.2.2.2.1.length
  (e:=some (!gC w.2.2.2.1 t.2.2.2.2.2.1||decide ((w.2.2.2.1.take t.2.2.2.2.2.1.length).flatMap aW=t.2.2.2.2.2.2.1),())) (no:=some (false,())) ?_ ?_ k 0 (by omega) (by omega)).trans ?_
 ·intro G i m;have a:i<w.2.2.2.1.length:=by omega
  have d:=il Q o a;have f:=fw Q (w.2.2.2.1.take i);unfold bU at f;have hb1:=jT Q (w.2.2.2.1.getD i ah.aa);have g:=cN (e:=ah) w.2.2.2.1 i;have hb3:=ay (e:=ab) (l:=(w.2.2.2.1.take i).flatMap aW);have hb4:=ay (e:=ab) (l:=aW (w.2.2.2.1.getD i ah.aa))
  have j:decide (((w.2.2.2.1.take i).flatMap aW).length+(aW (w.2.2.2.1.getD i ah.aa)).length<4294967296)=true:=by
   simp only[b_];omega
  simp only[aH,aA m,aA a,m,decide_true,if_true,hX,avd,qP Q d,en,j];rw[aV (by omega),dT ah.aa a,Ay]
  rcases au3 (decide (t.2.2.2.2.2.1.getD i 0>(w.2.2.2.1.getD i ah.aa).2.1))with h|h<;>
   simp only[h,if_true,X',ava,j_,if_false,cj,wQ]
 ·intro G;simp only[aH,G7,decide_false,j_,if_false];have f:=fw Q (w.2.2.2.1.take t.2.2.2.2.2.1.length);unfold bU at f;have g:=cN (e:=ah) w.2.2.2.1 t.2.2.2.2.2.1.length;rw[ey Q r];show avl (if((!gC w.2.2.2.1 t.2.2.2.2.2.1)==false)=true then some (decide (t.2.2.2.2.2.2.1=(w.2.2.2.1.take t.2.2.2.2.2.1.length).flatMap aW),())else some (false,())) (fun n:Bool×Unit=>some (if(!gC w.2.2.2.1 t.2.2.2.2.2.1)=true then true else n.1,()))=_
  have p:decide (t.2.2.2.2.2.2.1=(w.2.2.2.1.take t.2.2.2.2.2.1.length).flatMap aW)=decide ((w.2.2.2.1.take t.2.2.2.2.2.1.length).flatMap aW=t.2.2.2.2.2.2.1):=by
   rw[au8];simp only[b_];exact eq_comm
  rw[p];cases gC w.2.2.2.1 t.2.2.2.2.2.1<;>simp
 ·unfold dm;show(if xG w.2.2.2.1 t.2.2.2.2.2.1=true then _ else _)=_;cases xG w.2.2.2.1 t.2.2.2.2.2.1<;>simp
end
def CF{t:aF}{n:Int}(h:cV t n=true):0<=t.2.2.2.2.2.2.2.2/\(t.1=0\/t.1=1\/t.1=2\/t.1=3\/t.1=4\/t.1=5\/t.1=6):=by
 unfold cV at h;grind
def Ob{t:aF}{n:Int}(h:cV t n=true)(e:t.1=3):(t.2.2.2.2.2.1.length:Int)=t.2.2.2.2.1/\0<=t.2.1/\t.2.1<=2:=by
 unfold cV bc at h;grind
def TQ{t:aF}{n:Int}(h:cV t n=true)(e:t.1=4):t.2.2.2.2.2.1=[]/\t.2.2.2.2.2.2.1=[]/\t.2.1<=1:=by
 unfold cV bc at h;grind
section
variable{k:Nat}(Q:9223372036854775808<=k)
include Q
def ER{l:List ar}{s:List ai}(hs:af (.sl ah) l<=1048576):(bL k l s).1.1.length<=1048576:=by
 unfold bL;split;simp[cF];rename_i f;obtain⟨_,_,c⟩:=mD (k:=k) (l:=l) (s:=s) f;have b:=il Q hs c;generalize l.getD (bz k l s).toNat ah.aa=p at b|-;unfold fg;cases hc:fx p (cH k s)with
 |none=>simp[cF]
 |some i=>
  obtain⟨h,_,_⟩:=aZ.1 hc;obtain⟨h1,h2⟩:=fJ Q b h;dsimp only;cases g:fI (p.2.2.getD i ax.aa).2 s with
  |none=>simp[cF]
  |some j=>
   obtain⟨m,_,_⟩:=aZ.1 g;have h3:=dw (e:=ab) (d:=ab.aa) m;exact gE Q (a:=(p.2.2.getD i ax.aa).2.getD j ab.aa) (by omega)
def eA{w:ag}(hs:af az w<=1048576):
 af cM w.1<=1048576/\af (.sl ah) w.2.2.2.1<=1048576/\af (.sl aU) w.2.2.2.2.1<=1048576/\af (.sl ab) w.2.2.2.2.2.1<=1048576/\af (.sl aj) w.2.2.2.2.2.2.2.1<=1048576/\
 w.2.2.2.2.2.2.2.2.2.1.length<=1048576/\af (.sl ab) w.2.2.2.2.2.2.2.2.2.2.2.1<=1048576/\af (.sl ak) w.2.2.2.2.2.2.2.2.2.2.2.2.1<=1048576/\af (.sl aw) w.2.2.2.2.2.2.2.2.2.2.2.2.2<=1048576:=by
 rw[da Q]at hs;have h:=ay (e:=aD) (l:=w.2.2.2.2.2.2.2.2.2.1);omega
theorem vN{e:Ty}{l:List e.den}(a:af e e.aa=0)(hs:af (.sl e) l<=1048576)(n:Nat):af e (l.getD n e.aa)<=1048576:=by
 by_cases h:n<l.length;have:=dw (e:=e) (d:=e.aa) h;omega;rw[au4,List.getElem?_eq_none (by omega),Option.getD_none,a];omega
def GZ{w:ag}{i:Nat}(hs:af az w<=1048576)(G:i<w.2.2.2.2.2.2.2.2.2.2.2.2.1.length)(hp:(w.2.2.2.1.length:Int)=w.1.1):
 nm k (w,(i:Int),())=some (cJ k w (w.2.2.2.2.2.2.2.2.2.2.2.2.1.getD i ak.aa) (w.2.2.2.2.2.2.2.2.2.2.2.2.2.getD (w.2.2.2.2.2.2.2.2.2.2.2.2.1.getD i ak.aa).2.2.2.2.2.2.2.2.toNat aw.aa) i,()):=by
 obtain⟨_,r,_,_,_,_,_,L,N⟩:=eA Q hs;have n:af ak (w.2.2.2.2.2.2.2.2.2.2.2.2.1.getD i ak.aa)<=1048576:=vN Q (e:=ak) rfl L i;have H:af aw (w.2.2.2.2.2.2.2.2.2.2.2.2.2.getD (w.2.2.2.2.2.2.2.2.2.2.2.2.1.getD i ak.aa).2.2.2.2.2.2.2.2.toNat aw.aa)<=1048576:=vN Q (e:=aw) rfl N (w.2.2.2.2.2.2.2.2.2.2.2.2.1.getD i ak.aa).2.2.2.2.2.2.2.2.toNat;unfold nm aN;dsimp only;rw[an (aA G),hX];generalize w.2.2.2.2.2.2.2.2.2.2.2.2.1.getD i ak.aa=t at*
 generalize w.2.2.2.2.2.2.2.2.2.2.2.2.2.getD t.2.2.2.2.2.2.2.2.toNat aw.aa=d at*
 rw[JG Q n,en];unfold cJ;by_cases b:cV t i=true;rotate_left
 ·simp[b]
 obtain⟨P,m⟩:=CF b;obtain⟨C,t2,t3,t4,R⟩:=lQ Q n;obtain⟨S,d2,d3,d4⟩:=EV Q H;have o:=ER Q (s:=t.2.2.1.1) r;have t6:=gE Q C;have y:=gE Q S;have t7:=ay (e:=al) (l:=t.2.2.1.1);have d7:=ay (e:=al) (l:=d.2.2.1.1);have d8:=ay (e:=al) (l:=d.2.2.2.1);by_cases u:t.1=0
 ·simp[u,b]
 by_cases z:t.2.2.2.2.2.2.2.2<(w.2.2.2.2.2.2.2.2.2.2.2.2.2.length:Int);rotate_left
 ·have:decide (t.2.2.2.2.2.2.2.2>=(w.2.2.2.2.2.2.2.2.2.2.2.2.2.length:Int))=true:=by simp only[b_];omega
  simp[u,this,z,b]
 have q1:decide (t.2.2.2.2.2.2.2.2>=(w.2.2.2.2.2.2.2.2.2.2.2.2.2.length:Int))=false:=by simp only[d_];omega
 have q2:decide (0<=t.2.2.2.2.2.2.2.2/\t.2.2.2.2.2.2.2.2<(w.2.2.2.2.2.2.2.2.2.2.2.2.2.length:Int))=true:=by simp only[b_];omega
 simp only[b,q1,q2,P,and_true,true_and,if_true,X',j_,if_false,z,u,decide_true,decide_false,avb,Bool.false_or,cj,fq]
 have p:dI k (t.1,())=some (avv [0,1,3,4,6,7,8] t.1.toNat 0,()):=by
  simp only[dI];rw[an (by simp only[b_,avH,avh];omega)]
 rw[p];clear p q1 q2;by_cases v:d.2.1=i;rotate_left
 ·simp[v,b]
 by_cases B:d.2.2.2.2.2.2.2.2.2.2.2= -1;rotate_left
 ·simp[v,B,b]
 simp only[v,B,decide_true,X',j_,if_false,beq_self_eq_true,if_true,en,avb];unfold kY;rcases m with h|h|h|h|h|h|h
 ·exact absurd h u
 all_goals
  have I:t.1.toNat=t.1.toNat:=rfl;simp only[h]at I|-
 ·simp only[ia Q r R,fC Q o,fC Q y,dF Q (a:=d.2.2.1.1) (by omega),rU Q C];by_cases f:d.1=1<;>by_cases g:d.2.2.2.2.2.2.2.2.2.2.1= -1<;>by_cases q:t.2.1=2<;>simp[f,g,q]
  ·by_cases j:d.2.2.1=t.2.2.1<;>simp[j]
  ·simp only[fC Q o];cases (bL k w.2.2.2.1 t.2.2.1.1).2<;>by_cases j:(bL k w.2.2.2.1 t.2.2.1.1).1=t.2.2.1<;>simp[j]
 ·simp only[dF Q (a:=d.2.2.2.1) (by omega)];by_cases f:d.1=3<;>by_cases g:d.2.2.2.2.2.2.2.2.2.2.1= -1<;>simp[f,g]
 ·obtain⟨x,D,F⟩:=Ob b h;by_cases f:d.1=4<;>by_cases g:d.2.2.2.2.2.2.2.2.2.2.1= -1<;>by_cases q:t.2.1=2<;>simp[f,g,q]
  ·by_cases j:(t.2.2.2.2.2.1.length:Int)=w.1.1
   ·rw[pU Q n r (by omega)];simp[j]
   ·simp[j]
  ·by_cases j:t.2.2.2.2.1<w.1.1
   ·rw[pU Q n r (by omega)];simp[j]
   ·simp[j]
 ·obtain⟨x,D,F⟩:=TQ b h;have q:¬t.2.1=2:=by have:=F;omega
  by_cases f:d.1=6<;>by_cases g:d.2.2.2.2.2.2.2.2.2.2.1= -1<;>simp[f,g,q];have J:t.2.2.2.2.2.1.length<=w.2.2.2.1.length:=by rw[x];exact Nat.zero_le _
  have K:dm w.2.2.2.1 t=true:=by unfold dm xG;rw[x,D];rfl
  rw[pU Q n r J,K];by_cases j:t.2.2.2.2.1<w.1.1<;>simp[j]
 ·simp only[fC Q y];by_cases f:d.1=7<;>by_cases g:d.2.2.2.2.2.2.2.2.2.2.1= -1<;>simp[f,g]
 ·by_cases f:d.1=8<;>by_cases g:d.2.2.2.2.2.2.2.2.2.2.1= -1<;>simp[f,g]
def D4{w:ag}{t:aF}{d:aC}{n:Int}(hs:af az w<=1048576)(hp:(w.2.2.2.1.length:Int)=w.1.1)(q:af ak t<=1048576)(y:af aw d<=1048576)(f:cV t n=true):
 mi k (w,t,d,())=some (kY k w t d,()):=by
 obtain⟨_,p,_,_,_,_,_,w8,w9⟩:=eA Q hs;obtain⟨F,t2,t3,t4,G⟩:=lQ Q q;obtain⟨H,d2,d3,d4⟩:=EV Q y;have g:=ER Q (s:=t.2.2.1.1) p;have z:=gE Q H;have d7:=ay (e:=al) (l:=d.2.2.1.1);have d8:=ay (e:=al) (l:=d.2.2.2.1);simp only[mi,rN Q p G,ee Q g,ee Q z,du Q (a:=d.2.2.1.1) (by omega),du Q (a:=d.2.2.2.1) (by omega),xB Q F,en,cj,bZ];unfold kY;by_cases r:t.1=1;by_cases b:d.1=1<;>by_cases j:t.2.1=2<;>simp[r,b,j];by_cases B:d.2.2.1.1=t.2.2.1.1<;>cases (bL k w.2.2.2.1 t.2.2.1.1).2<;>by_cases m:(bL k w.2.2.2.1 t.2.2.1.1).1=t.2.2.1<;>simp[m,B];by_cases m:d.2.2.1=t.2.2.1<;>simp[m];by_cases u:t.1=2;by_cases b:d.1=3<;>simp[u,b];by_cases o:t.1=3;obtain⟨e1,e2,I⟩:=Ob f o
 have C:(if t.2.1=2 then decide ((t.2.2.2.2.2.1.length:Int)=w.1.1)else decide (t.2.2.2.2.1<w.1.1))=true->t.2.2.2.2.2.1.length<=w.2.2.2.1.length:=by
  by_cases j:t.2.1=2<;>simp[j]<;>intro h<;>omega
 rw[BK Q q p C I];by_cases b:d.1=4<;>simp[o,b];by_cases v:t.1=4;by_cases b:d.1=6<;>simp[v,b];by_cases x:t.1=5;by_cases b:d.1=7<;>simp[x,b];by_cases b:d.1=8<;>by_cases D:d.2.2.2.2.2.1=t.2.2.2.2.2.2.2.1<;>simp[r,u,o,v,x,b,D]
end
def di(h:Nat->Bool):Nat->Int
 |0=> -1
 |j+1=>if h j=true then(j:Int)else di h j
theorem qU{h:Nat->Bool}:∀ {j:Nat},(∀a,a<j->h a=false)->di h j= -1
 |0,_=>rfl
 |j+1,H=>by
  unfold di;rw[H j (by omega),a_ (by simp)];exact qU (fun a ha=>H a (by omega))
theorem mM{h:Nat->Bool}:∀ {j:Nat},di h j≠-1->∃a,a<j/\h a=true/\di h j=(a:Int)
 |0,H=>absurd rfl H
 |j+1,H=>by
  unfold di at H|-;by_cases b:h j=true;rw[an b];exact⟨j,by omega,b,rfl⟩;rw[a_ b]at H|-;obtain⟨a,h1,d,e⟩:=mM H;exact⟨a,by omega,d,e⟩
def xJ{h:Nat->Bool}{m:Nat}(B:∀j,j<m->h j=true->di h j= -1){a:Nat}(t:a<m)(o:h a=true):di h m=(a:Int):=by
 have C:di h m≠-1:=by
  intro e
  have:∀ {j:Nat},(∀b,b<j->h b=true->False)\/di h j≠-1:=by
   intro j
   induction j with
   |zero=>exact Or.inl (fun b v _=>by omega)
   |succ j f=>
    unfold di;by_cases d:h j=true;rw[an d];right;omega;rw[a_ d];rcases f with f|f;left;intro b v g;by_cases p:b=j;subst p;exact d g;exact f b (by omega) g;exact Or.inr f
  rcases @this m with H|H;exact H a t o;exact H e
 obtain⟨b,D,u,F⟩:=mM C;rw[F];by_cases r:a=b;rw[r];exfalso
 have key:∀x y:Nat,x<y->y<m->h x=true->h y=true->False:=by
  intro x y l w z n;have e:=B y w n
  have:∀ {j:Nat},x<j->di h j≠-1:=by
   intro j
   induction j with
   |zero=>intro q;omega
   |succ j f=>
    intro q;unfold di;by_cases d:h j=true;rw[an d];omega;rw[a_ d];by_cases s:x=j;subst s;exact absurd z d;exact f (by omega)
  exact this l e
 rcases Nat.lt_or_ge a b with q|q;exact key a b q D o u;exact key b a (by omega) t u o
def bQ(k:Nat)(w:ag)(j:Nat):Int:=bn k (w.2.2.2.2.2.2.2.2.2.2.2.2.1.getD j ak.aa) w.2.2.2.1.length
def dS(w:ag)(j:Nat):Bool:=cA (w.2.2.2.2.2.2.2.2.2.2.2.2.1.getD j ak.aa)
def gN(k:Nat)(w:ag):Bool:=
 bA 0 w.2.2.2.1.length (fun i=>bA 0 w.2.2.2.2.2.2.2.2.2.2.2.2.1.length (fun j=>decide (bQ k w j=i)==decide ((w.2.2.2.1.getD i ah.aa).1=j)))&&
 (bA 0 w.2.2.2.2.2.2.2.2.2.2.2.2.1.length (fun j=>dS w j==decide (w.2.2.2.2.2.2.1=j))&&bc w.2.2.2.2.2.2.1 (-1) 4)
def zS(k:Nat)(w:ag)(j:Nat):Bool:=
 (decide (bQ k w j<0)||decide (di (fun a=>decide (bQ k w a=bQ k w j)) j= -1))&&(!dS w j||decide (di (dS w) j= -1))
def Qj{k:Nat}{w:ag}(B:∀i,i<w.2.2.2.1.length->bc (w.2.2.2.1.getD i ah.aa).1 (-1) 4=true)(F:w.2.2.2.2.2.2.2.2.2.2.2.2.1.length=5)
 (G:∀j,j<5->bQ k w j<w.2.2.2.1.length):
 (bA 0 w.2.2.2.2.2.2.2.2.2.2.2.2.1.length (zS k w)&&(bA 0 w.2.2.2.1.length (fun i=>decide ((w.2.2.2.1.getD i ah.aa).1=di (fun a=>decide (bQ k w a=i)) w.2.2.2.2.2.2.2.2.2.2.2.2.1.length))&&
  decide (w.2.2.2.2.2.2.1=di (dS w) w.2.2.2.2.2.2.2.2.2.2.2.2.1.length)))=gN k w:=by
 unfold gN;rw[F];rw[au8];simp only[au9,ck,zS,Bool.or_eq_true,b_,Bool.not_eq_true',beq_iff_eq,bc]at B|-;constructor;rintro⟨u,y,z⟩;refine⟨fun i _ g j _ f=> ?_,fun j _ f=> ?_,?_⟩;rw[y i (by omega) g];rw[au8];simp only[b_];constructor;intro e;refine xJ (h:=fun a=>decide (bQ k w a=i)) (m:=5) (fun b l d=> ?_) f (by simpa using e);have p:bQ k w b=(i:Int):=by simpa using d
 rcases(u b (by omega) l).1 with q|q;omega;rw[p]at q;exact q;intro e;obtain⟨a,_,n,l⟩:=mM (h:=fun a=>decide (bQ k w a=i)) (j:=5) (by rw[e];omega);rw[e]at l;have:a=j:=by omega
 subst this;simpa using n;rw[z,au8];simp only[b_];constructor;intro e;refine xJ (h:=dS w) (m:=5) (fun b l d=> ?_) f e;rcases(u b (by omega) l).2 with q|q;rw[d]at q;exact absurd q (by simp);exact q;intro e;obtain⟨a,_,n,l⟩:=mM (h:=dS w) (j:=5) (by rw[e];omega);rw[e]at l;have:a=j:=by omega
 subst this;exact n;rw[z];by_cases e:di (dS w) 5= -1;omega;obtain⟨a,I,_,v⟩:=mM e;omega;rintro⟨u,y,z,I⟩
 have s:∀i,i<w.2.2.2.1.length->∀j,j<5->(bQ k w j=(i:Int)↔(w.2.2.2.1.getD i ah.aa).1=(j:Int)):=by
  intro i g j f;have:=u i (by omega) g j (by omega) f;rw[au8]at this;simpa only[b_]using this
 have t:∀j,j<5->(dS w j=true↔w.2.2.2.2.2.2.1=(j:Int)):=by
  intro j f;have:=y j (by omega) f;rw[au8]at this;simpa only[b_]using this
 refine⟨fun j _ f=>⟨?_,?_⟩,fun i _ g=> ?_,?_⟩;by_cases H:bQ k w j<0;exact Or.inl H;right;apply qU;intro a n;simp only[d_];intro e;have hlt:=G j f;have q1:=(s (bQ k w j).toNat (by omega) j f).1 (by omega);have q2:=(s (bQ k w j).toNat (by omega) a (by omega)).1 (by omega);omega;by_cases C:dS w j=true;right;apply qU;intro a n;cases r:dS w a with
 |false=>rfl
 |true=>
  have q1:=(t j f).1 C;have q2:=(t a (by omega)).1 r;omega
 left;simpa using C;by_cases e:di (fun a=>decide (bQ k w a=i)) 5= -1;rw[e];have l:=B i g;by_cases x:(w.2.2.2.1.getD i ah.aa).1= -1;exact x;exfalso;have q:=(s i g (w.2.2.2.1.getD i ah.aa).1.toNat (by omega)).2 (by omega)
 have:di (fun a=>decide (bQ k w a=i)) 5≠-1:=by
  rw[xJ (h:=fun a=>decide (bQ k w a=i)) (m:=5) (a:=(w.2.2.2.1.getD i ah.aa).1.toNat) (fun b o d=> ?_) (by omega) (by simpa using q)];omega;apply qU;intro a n;simp only[d_];intro D;have p:bQ k w b=(i:Int):=by simpa using d
  have q1:=(s i g b o).1 p;have q2:=(s i g a (by omega)).1 D;omega
 exact this e;obtain⟨a,v,h6,h7⟩:=mM e;rw[h7];exact(s i g a v).1 (by simpa using h6);by_cases e:di (dS w) 5= -1;rw[e];by_cases x:w.2.2.2.2.2.2.1= -1;exact x;exfalso;have q:=(t w.2.2.2.2.2.2.1.toNat (by omega)).2 (by omega)
 have:di (dS w) 5≠-1:=by
  rw[xJ (h:=dS w) (m:=5) (a:=w.2.2.2.2.2.2.1.toNat) (fun b o d=> ?_) (by omega) q];omega;apply qU;intro a n;cases r:dS w a with
  |false=>rfl
  |true=>
   have q1:=(t b o).1 d;have q2:=(t a (by omega)).1 r;omega
 exact this e;obtain⟨a,v,h6,h7⟩:=mM e;rw[h7];exact(t a v).1 h6
section
variable{k:Nat}(Q:9223372036854775808<=k)
include Q
def zL{w:ag}(hs:af az w<=1048576):j7 k (w,())=some (gN k w,()):=by
 obtain⟨_,w2,_,_,_,_,_,g,w9⟩:=eA Q hs;have hn:=ay (e:=ah) (l:=w.2.2.2.1);have hm:=ay (e:=ak) (l:=w.2.2.2.2.2.2.2.2.2.2.2.2.1);have a:∀j:Nat,af ak (w.2.2.2.2.2.2.2.2.2.2.2.2.1.getD j ak.aa)<=1048576:=fun j=>vN Q (e:=ak) rfl g j;simp only[j7,aN]
 refine(cU (fun i:Nat=>(w,w.2.2.2.1,(w.2.2.2.1.length:Int),(i:Int),())) (fun i=>bA 0 w.2.2.2.2.2.2.2.2.2.2.2.2.1.length (fun j=>decide (bQ k w j=i)==decide ((w.2.2.2.1.getD i ah.aa).1=j))) w.2.2.2.1.length
  (e:=some (bA 0 w.2.2.2.2.2.2.2.2.2.2.2.2.1.length (fun j=>dS w j==decide (w.2.2.2.2.2.2.1=j))&&bc w.2.2.2.2.2.2.1 (-1) 4,())) (no:=some (false,())) ?_ ?_ k 0 (by omega) (by omega)).trans ?_
 intro G i f;simp only[aH,aA f,f,decide_true,if_true,hX]
 refine(cU (fun j:Nat=>(w,(i:Int),w.2.2.2.1.getD i ah.aa,w.2.2.2.1,(w.2.2.2.1.length:Int),(i:Int),w.2.2.2.2.2.2.2.2.2.2.2.2.1,(w.2.2.2.2.2.2.2.2.2.2.2.2.1.length:Int),(j:Int),()))
  (fun j=>decide (bQ k w j=i)==decide ((w.2.2.2.1.getD i ah.aa).1=j)) w.2.2.2.2.2.2.2.2.2.2.2.2.1.length
  (e:=G (w,w.2.2.2.1,(w.2.2.2.1.length:Int),((i+1:Nat):Int),())) (no:=some (false,())) ?_ ?_ k 0 (by omega) (by omega)).trans ?_
 intro d j b;simp only[aH,aA b,b,decide_true,if_true,hX,qQ Q (a j),en,cj];rw[aV (by omega)];show(if(!(decide (bQ k w j=i)==decide ((w.2.2.2.1.getD i ah.aa).1=j)))=true then _ else _)=_;cases (decide (bQ k w j=i)==decide ((w.2.2.2.1.getD i ah.aa).1=(j:Int)))<;>rfl;intro d;simp only[aH,G7,decide_false,j_,if_false];rw[aV (by omega)];rfl;intro G;simp only[aH,G7,decide_false,j_,if_false]
 refine(cU (fun j:Nat=>(w,w.2.2.2.2.2.2.2.2.2.2.2.2.1,(w.2.2.2.2.2.2.2.2.2.2.2.2.1.length:Int),(j:Int),()))
  (fun j=>dS w j==decide (w.2.2.2.2.2.2.1=j)) w.2.2.2.2.2.2.2.2.2.2.2.2.1.length
  (e:=some (bc w.2.2.2.2.2.2.1 (-1) 4,())) (no:=some (false,())) ?_ ?_ k 0 (by omega) (by omega)).trans ?_
 intro d j b;simp only[aH,aA b,b,decide_true,if_true,hX,kD Q,en,cj];rw[aV (by omega)];show(if(!(dS w j==decide (w.2.2.2.2.2.2.1=j)))=true then _ else _)=_;cases (dS w j==decide (w.2.2.2.2.2.2.1=(j:Int)))<;>rfl;intro d;simp only[aH,G7,decide_false,j_,if_false,fG Q,en];cases bA 0 w.2.2.2.2.2.2.2.2.2.2.2.2.1.length (fun j=>dS w j==decide (w.2.2.2.2.2.2.1=j))<;>simp;unfold gN;cases bA 0 w.2.2.2.1.length (fun i=>bA 0 w.2.2.2.2.2.2.2.2.2.2.2.2.1.length (fun j=>decide (bQ k w j=i)==decide ((w.2.2.2.1.getD i ah.aa).1=j)))<;>simp
end
def gk(k:Nat)(w:ag)(j:Nat):List Int:=(List.range w.2.2.2.1.length).map (fun i:Nat=>di (fun a=>decide (bQ k w a=(i:Int))) j)
def KG(k:Nat)(w:ag)(j:Nat):(gk k w j).length=w.2.2.2.1.length:=by simp[gk]
def Oa(k:Nat)(w:ag)(j:Nat){i:Nat}(b:i<w.2.2.2.1.length):(gk k w j).getD i 0=di (fun a=>decide (bQ k w a=(i:Int))) j:=by
 simp[gk,au4,List.getElem?_map,List.getElem?_range b]
def Si(k:Nat)(w:ag)(j:Nat)(h:0<=bQ k w j):(gk k w j).set (bQ k w j).toNat (j:Int)=gk k w (j+1):=by
 apply avI;simp[gk];intro i h1 h2;simp only[gk,List.getElem_set,List.getElem_map,List.getElem_range,di,b_];by_cases e:bQ k w j=(i:Int)
 rw[an (by omega),an e];rw[a_ (by omega),a_ e]
def P9(k:Nat)(w:ag)(j:Nat)(h:bQ k w j<0):gk k w j=gk k w (j+1):=by
 unfold gk;apply List.map_congr_left;intro i _;simp only[di,b_];rw[a_ (by omega)]
def QP(k:Nat)(w:ag):gk k w 0=avc w.2.2.2.1.length (-1):=by
 apply avI;simp[gk];intro i h1 h2;simp[gk,di]
section
variable{k:Nat}(Q:9223372036854775808<=k)
include Q
def Ds{w:ag}(hs:af az w<=1048576)(u:∀i,i<w.2.2.2.1.length->bc (w.2.2.2.1.getD i ah.aa).1 (-1) 4=true)(v:w.2.2.2.2.2.2.2.2.2.2.2.2.1.length=5)
 (r:∀j,j<5->bQ k w j<w.2.2.2.1.length):jD k (w,())=some (gN k w,()):=by
 rw[<-Qj u v r];obtain⟨_,w2,_,_,_,_,_,x,w9⟩:=eA Q hs;have hn:=ay (e:=ah) (l:=w.2.2.2.1);have d:∀j:Nat,af ak (w.2.2.2.2.2.2.2.2.2.2.2.2.1.getD j ak.aa)<=1048576:=fun j=>vN Q (e:=ak) rfl x j;simp only[jD,aN];refine bG (fun i:Nat=>(w,avc i (-1:Int),(i:Int),())) w.2.2.2.1.length (fun G i g=> ?_) (fun G=> ?_) k 0 (by omega) (by omega);simp only[aH,g,decide_true,if_true,List.length_replicate,avH,avh];rw[an (by simp only[b_];omega),aV (by omega),avy];simp only[aH,G7,decide_false,j_,if_false];rw[<-QP k w]
 refine(cU (fun j:Nat=>(w,gk k w j,di (dS w) j,(j:Int),())) (zS k w) w.2.2.2.2.2.2.2.2.2.2.2.2.1.length
  (e:=some (bA 0 w.2.2.2.1.length (fun i=>decide ((w.2.2.2.1.getD i ah.aa).1=di (fun a=>decide (bQ k w a=i)) w.2.2.2.2.2.2.2.2.2.2.2.2.1.length))&&
   decide (w.2.2.2.2.2.2.1=di (dS w) w.2.2.2.2.2.2.2.2.2.2.2.2.1.length),())) (no:=some (false,())) ?_ ?_ k 0 (by omega) (by omega)).trans ?_
 intro G j q;have hlt:=r j (by omega);simp only[aH,aA q,q,decide_true,if_true,hX,BO Q (d j),zx Q,en,fq,KG]
 change (if decide (bQ k w j>=0)=true then(if decide (0<=bQ k w j/\bQ k w j<(w.2.2.2.1.length:Int))=true then(if(!decide ((gk k w j).getD (bQ k w j).toNat 0= -1))=true then some (false,())else(if decide (0<=bQ k w j/\bQ k w j<(w.2.2.2.1.length:Int))=true then
  (if dS w j=true then(if(!decide (di (dS w) j= -1))=true then some (false,())else G (w,(gk k w j).set (bQ k w j).toNat (j:Int),(j:Int),IntKind.i64.wrap ((j:Int)+1),()))else G (w,(gk k w j).set (bQ k w j).toNat (j:Int),di (dS w) j,IntKind.i64.wrap ((j:Int)+1),()))else none))else none)else
  (if dS w j=true then(if(!decide (di (dS w) j= -1))=true then some (false,())else G (w,gk k w j,(j:Int),IntKind.i64.wrap ((j:Int)+1),()))else G (w,gk k w j,di (dS w) j,IntKind.i64.wrap ((j:Int)+1),())))=_
 rw[aV (by omega)];have s:dS w j=true->di (dS w) (j+1)=(j:Int):=fun h=>by simp[di,h]
 have n:dS w j=false->di (dS w) (j+1)=di (dS w) j:=fun h=>by simp[di,h]
 unfold zS;by_cases p:0<=bQ k w j;rw[an (by simpa using p),an (by simp only[b_];omega),Oa k w j (show(bQ k w j).toNat<_ by omega),Si k w j p,Int.toNat_of_nonneg p];rw[show decide (bQ k w j<0)=false by simp only[d_];omega];by_cases o:di (fun a=>decide (bQ k w a=bQ k w j)) j= -1;rw[a_ (by simp[o])];cases b:dS w j with
 |true=>rw[s b];by_cases f:di (dS w) j= -1<;>simp[o,f]<;>omega
 |false=>rw[n b];simp[o];omega
 rw[an (by simp[o])];simp[o];rw[a_ (by simp;omega),P9 k w j (by omega)];rw[show decide (bQ k w j<0)=true by simp only[b_];omega];cases b:dS w j with
 |true=>rw[s b];by_cases f:di (dS w) j= -1<;>simp[f]
 |false=>rw[n b];simp
 intro G;simp only[aH,G7,decide_false,j_,if_false];generalize w.2.2.2.2.2.2.2.2.2.2.2.2.1.length=m
 refine(cU (fun i:Nat=>(w,gk k w m,di (dS w) m,(i:Int),())) (fun i=>decide ((w.2.2.2.1.getD i ah.aa).1=di (fun a=>decide (bQ k w a=i)) m)) w.2.2.2.1.length
  (e:=some (decide (w.2.2.2.2.2.2.1=di (dS w) m),())) (no:=some (false,())) ?_ ?_ k 0 (by omega) (by omega)).trans ?_
 intro t i g;simp only[aH,KG,aA g,g,decide_true,if_true,hX,fq,Oa k w m g];rw[aV (by omega)];rcases au3 (decide ((w.2.2.2.1.getD i ah.aa).1=di (fun a=>decide (bQ k w a=(i:Int))) m))with h|h<;>simp only[h,X',ava,j_,if_false,if_true];intro t;simp only[aH,G7,decide_false,j_,if_false,cj];cases bA 0 w.2.2.2.1.length (fun i=>decide ((w.2.2.2.1.getD i ah.aa).1=di (fun a=>decide (bQ k w a=i)) m))<;>simp;generalize w.2.2.2.2.2.2.2.2.2.2.2.2.1.length=m;cases bA 0 m (zS k w)<;>simp
end
def o9(nn:Int)(h:List aJ):Bool:=
 bA 0 h.length (fun i=>decide ((h.getD i aD.aa).2<nn)&&bA 0 i (fun j=> !decide ((h.getD j aD.aa).2=(h.getD i aD.aa).2)))
def su(w:ag)(g:au)(j:Nat):Bool:=
 decide ((w.2.2.2.2.2.2.2.2.2.1.getD j aD.aa).2=g.1)&&decide ((w.2.2.2.2.2.2.2.2.2.1.getD j aD.aa).1=iq w.1 g)
def Em(w:ag)(g:au):Bool:=
 if decide ((w.2.2.2.2.2.2.2.2.2.2.2.2.1.getD 4 ak.aa).1=6)=true then decide ((w.2.2.2.2.2.2.2.2.2.2.2.2.1.getD 4 ak.aa).2.2.2.2.2.2.2.1=g.1)else false
def eu(w:ag)(g:au)(n:Nat):Bool:= !bA 0 n (fun j=> !su w g j)||Em w g
def pd(w:ag):Bool:=
 bA 0 w.2.2.2.2.2.2.2.1.length (fun i=>(decide ((w.2.2.2.2.2.2.2.1.getD i aj.aa).2.2.1<=w.2.2.1)&&
  (decide ((w.2.2.2.2.2.2.2.1.getD i aj.aa).2.2.2.1<=w.2.2.1)&&decide ((w.2.2.2.2.2.2.2.1.getD i aj.aa).1<w.2.2.2.2.2.2.2.2.1)))&&eu w (w.2.2.2.2.2.2.2.1.getD i aj.aa) w.2.2.2.2.2.2.2.2.2.1.length)
def dB(w:ag):Bool:=
 dR w.2.2.2.2.2.2.2.1 w.1.2.2.2.2.2&&(jx w.2.2.2.2.2.2.2.2.2.1&&(o9 w.2.2.2.2.2.2.2.2.1 w.2.2.2.2.2.2.2.2.2.1&&pd w))
def xc(w:ag)(g:au)(n:Nat):eu w g (n+1)=(if eu w g n=true then true else su w g n):=by
 unfold eu;rw[Ay];cases Em w g<;>cases bA 0 n (fun j=> !su w g j)<;>cases su w g n<;>rfl
section
variable{k:Nat}(Q:9223372036854775808<=k)
include Q
def PI{c:bh}(h:af cM c<=1048576):c.2.2.2.2.2.length<=1048576:=by
 rw[kF Q]at h;have:=ay (e:= .str) (l:=c.2.2.2.2.2);omega
def Bz{w:ag}(hs:af az w<=1048576)(q:w.2.2.2.2.2.2.2.2.2.2.2.2.1.length=5):iL k (w,())=some (dB w,()):=by
 obtain⟨t,w2,_,_,u,v,_,w8,w9⟩:=eA Q hs;have r:=PI Q t;have hn:=ay (e:=aj) (l:=w.2.2.2.2.2.2.2.1);simp only[iL,aN,Ed Q u r,JO Q v,en];unfold dB;cases dR w.2.2.2.2.2.2.2.1 w.1.2.2.2.2.2 with
 |false=>rfl
 |true=>
  cases jx w.2.2.2.2.2.2.2.2.2.1 with
  |false=>rfl
  |true=>
   simp only[X',j_,if_false,beq_self_eq_true,if_true,en]
   refine(cU (fun i:Nat=>(w,(i:Int),())) (fun i=>decide ((w.2.2.2.2.2.2.2.2.2.1.getD i aD.aa).2<w.2.2.2.2.2.2.2.2.1)&&bA 0 i (fun j=> !decide ((w.2.2.2.2.2.2.2.2.2.1.getD j aD.aa).2=(w.2.2.2.2.2.2.2.2.2.1.getD i aD.aa).2))) w.2.2.2.2.2.2.2.2.2.1.length
    (e:=some (pd w,())) (no:=some (false,())) ?_ ?_ k 0 (by omega) (by omega)).trans ?_
   intro G i d;simp only[aH,aA d,d,decide_true,if_true,hX,lH];rcases au3 (decide ((w.2.2.2.2.2.2.2.2.2.1.getD i aD.aa).2<w.2.2.2.2.2.2.2.2.1))with h|h<;>simp only[h,X',ava,j_,if_false,if_true,avb,avr]
   refine(cU (fun j:Nat=>(w,(i:Int),(j:Int),())) (fun j=> !decide ((w.2.2.2.2.2.2.2.2.2.1.getD j aD.aa).2=(w.2.2.2.2.2.2.2.2.2.1.getD i aD.aa).2)) i
    (e:=G (w,((i+1:Nat):Int),())) (no:=some (false,())) ?_ ?_ k 0 (by omega) (by omega)).trans ?_
   intro n j f;have o:j<w.2.2.2.2.2.2.2.2.2.1.length:=by omega
   simp only[aH,aA o,aA d,f,decide_true,if_true,hX,cj];rw[aV (by omega)];rcases au3 (decide ((w.2.2.2.2.2.2.2.2.2.1.getD j aD.aa).2=(w.2.2.2.2.2.2.2.2.2.1.getD i aD.aa).2))with m|m<;>simp only[m,X',ava,j_,if_false,if_true];intro n;simp only[aH,G7,decide_false,j_,if_false];rw[aV (by omega)];rfl;intro G;simp only[aH,G7,decide_false,j_,if_false]
   refine(cU (fun i:Nat=>(w,(i:Int),())) (fun i=>(decide ((w.2.2.2.2.2.2.2.1.getD i aj.aa).2.2.1<=w.2.2.1)&&
    (decide ((w.2.2.2.2.2.2.2.1.getD i aj.aa).2.2.2.1<=w.2.2.1)&&decide ((w.2.2.2.2.2.2.2.1.getD i aj.aa).1<w.2.2.2.2.2.2.2.2.1)))&&eu w (w.2.2.2.2.2.2.2.1.getD i aj.aa) w.2.2.2.2.2.2.2.2.2.1.length) w.2.2.2.2.2.2.2.1.length
    (e:=some (true,())) (no:=some (false,())) ?_ ?_ k 0 (by omega) (by omega)).trans ?_
   intro n i d;have s:decide ((0:Int)<=4/\(4:Int)<(w.2.2.2.2.2.2.2.2.2.2.2.2.1.length:Int))=true:=by rw[q];rfl
   simp only[aH,aA d,d,s,decide_true,if_true,hX,avd,cj];generalize w.2.2.2.2.2.2.2.1.getD i aj.aa=g;refine bG (fun j:Nat=>(w,(i:Int),g,eu w g j,(j:Int),())) w.2.2.2.2.2.2.2.2.2.1.length (fun p j f=> ?_) (fun p=> ?_) k 0 (by omega) (by omega);simp only[aH,aA f,f,decide_true,if_true,hX,avd,Cu Q];rw[aV (by omega),xc];unfold su;cases eu w g j<;>by_cases m:(w.2.2.2.2.2.2.2.2.2.1.getD j aD.aa).2=g.1<;>simp only[m,X',ava,j_,if_false,if_true,decide_true,decide_false,avb,avr,Bool.and_true,avM,beq_self_eq_true,en,beq_iff_eq]<;>rfl;simp only[aH,G7,decide_false,j_,if_false];rw[aV (by omega),lH];have q1:∀a b:Int,decide (a>b)= !decide (a<=b):=fun a b=>by by_cases h:a<=b<;>simp[h]<;>omega
   rw[q1,q1];cases eu w g w.2.2.2.2.2.2.2.2.2.1.length<;>cases decide (g.2.2.1<=w.2.2.1)<;>cases decide (g.2.2.2.1<=w.2.2.1)<;>cases decide (g.1<w.2.2.2.2.2.2.2.2.1)<;>rfl;intro n;simp only[aH,G7,decide_false,j_,if_false];show(if pd w=true then _ else _)=_;cases pd w<;>simp;show(if o9 w.2.2.2.2.2.2.2.2.1 w.2.2.2.2.2.2.2.2.2.1=true then _ else _)=_;cases o9 w.2.2.2.2.2.2.2.2.1 w.2.2.2.2.2.2.2.2.2.1<;>simp
omit Q in
theorem U8{α:Type}(d:α){l:List α}{i j:Nat}(h:j<i):(l.take i).getD j d=l.getD j d:=by
 simp only[au4,List.getElem?_take,h,if_true]
def zu{w:ag}(hs:af az w<=1048576)(r:w.2.2.2.2.2.2.2.2.2.2.2.2.1.length=5):jq k (w,())=some (dB w,()):=by
 obtain⟨u,w2,_,_,v,x,_,w8,w9⟩:=eA Q hs;have s:=PI Q u;have hn:=ay (e:=aj) (l:=w.2.2.2.2.2.2.2.1);simp only[jq,aN,Da Q v s,JW Q x,en];unfold dB;cases dR w.2.2.2.2.2.2.2.1 w.1.2.2.2.2.2 with
 |false=>rfl
 |true=>
  cases jx w.2.2.2.2.2.2.2.2.2.1 with
  |false=>rfl
  |true=>
   simp only[X',j_,if_false,beq_self_eq_true,if_true,en]
   refine(cU (fun i:Nat=>(w,w.2.2.2.2.2.2.2.1,(w.2.2.2.2.2.2.2.1.length:Int),(i:Int),())) (fun i=>(decide ((w.2.2.2.2.2.2.2.1.getD i aj.aa).2.2.1<=w.2.2.1)&&
    (decide ((w.2.2.2.2.2.2.2.1.getD i aj.aa).2.2.2.1<=w.2.2.1)&&decide ((w.2.2.2.2.2.2.2.1.getD i aj.aa).1<w.2.2.2.2.2.2.2.2.1)))&&eu w (w.2.2.2.2.2.2.2.1.getD i aj.aa) w.2.2.2.2.2.2.2.2.2.1.length) w.2.2.2.2.2.2.2.1.length
    (e:=some (o9 w.2.2.2.2.2.2.2.2.1 w.2.2.2.2.2.2.2.2.2.1,())) (no:=some (false,())) ?_ ?_ k 0 (by omega) (by omega)).trans ?_
   ·intro n i f;have t:decide ((0:Int)<=4/\(4:Int)<(w.2.2.2.2.2.2.2.2.2.2.2.2.1.length:Int))=true:=by rw[r];rfl
    dsimp only;rw[aH,c_ f,an rfl,an (aA f),hX];generalize w.2.2.2.2.2.2.2.1.getD i aj.aa=g;simp only[t,decide_true,if_true,avd,cj];have q1:∀a b:Int,decide (a>b)= !decide (a<=b):=fun a b=>by by_cases h:a<=b<;>simp[h]<;>omega
    rw[show decide (g.1>=w.2.2.2.2.2.2.2.2.1)= !decide (g.1<w.2.2.2.2.2.2.2.2.1)from lH _ _,q1,q1];generalize decide (g.2.2.1<=w.2.2.1)=b1;generalize decide (g.2.2.2.1<=w.2.2.1)=b2;generalize decide (g.1<w.2.2.2.2.2.2.2.2.1)=b3;by_cases o:b1=true/\b2=true/\b3=true;rotate_left
    ·cases b1<;>cases b2<;>cases b3<;>first|rfl|(exact absurd o (by simp))
    obtain⟨y,z,B⟩:=o;subst y z B;rw[avb,avb,avb];refine(sN rfl).trans ?_;refine bG (fun j:Nat=>(w,g,eu w g j,w.2.2.2.2.2.2.2.1,(w.2.2.2.2.2.2.2.1.length:Int),(i:Int),w.2.2.2.2.2.2.2.2.2.1,(w.2.2.2.2.2.2.2.2.2.1.length:Int),(j:Int),())) w.2.2.2.2.2.2.2.2.2.1.length (fun q j d=> ?_) (fun q=> ?_) k 0 (by omega) (by omega)
    ·simp only[aH,aA d,d,decide_true,if_true,hX,avd,MV Q];rw[aV (by omega),xc];unfold su;cases eu w g j<;>by_cases m:(w.2.2.2.2.2.2.2.2.2.1.getD j aD.aa).2=g.1<;>simp only[m,X',ava,j_,if_false,if_true,decide_true,decide_false,avb,avr,Bool.and_true,avM,beq_self_eq_true,en,beq_iff_eq]<;>rfl
    ·simp only[aH,G7,decide_false,j_,if_false];rw[aV (by omega)];cases eu w g w.2.2.2.2.2.2.2.2.2.1.length<;>rfl
   ·intro G;simp only[aH,G7,decide_false,j_,if_false]
    refine(cU (fun i:Nat=>(w,w.2.2.2.2.2.2.2.2.2.1,(w.2.2.2.2.2.2.2.2.2.1.length:Int),(i:Int),())) (fun i=>decide ((w.2.2.2.2.2.2.2.2.2.1.getD i aD.aa).2<w.2.2.2.2.2.2.2.2.1)&&bA 0 i (fun j=> !decide ((w.2.2.2.2.2.2.2.2.2.1.getD j aD.aa).2=(w.2.2.2.2.2.2.2.2.2.1.getD i aD.aa).2))) w.2.2.2.2.2.2.2.2.2.1.length
     (e:=some (true,())) (no:=some (false,())) ?_ ?_ k 0 (by omega) (by omega)).trans ?_
    ·intro G i f;have p:(w.2.2.2.2.2.2.2.2.2.1.take i).length=i:=by rw[List.length_take];omega
     simp only[aH,aA f,f,decide_true,if_true,hX,lH,p];rcases au3 (decide ((w.2.2.2.2.2.2.2.2.2.1.getD i aD.aa).2<w.2.2.2.2.2.2.2.2.1))with h|h<;>simp only[h,X',ava,j_,if_false,if_true,avb,avr];rw[an (by simp only[b_];omega)]
     refine(cU (fun j:Nat=>(w,w.2.2.2.2.2.2.2.2.2.1.getD i aD.aa,w.2.2.2.2.2.2.2.2.2.1,(w.2.2.2.2.2.2.2.2.2.1.length:Int),(i:Int),w.2.2.2.2.2.2.2.2.2.1.take i,(i:Int),(j:Int),())) (fun j=> !decide ((w.2.2.2.2.2.2.2.2.2.1.getD j aD.aa).2=(w.2.2.2.2.2.2.2.2.2.1.getD i aD.aa).2)) i
      (e:=G (w,w.2.2.2.2.2.2.2.2.2.1,(w.2.2.2.2.2.2.2.2.2.1.length:Int),((i+1:Nat):Int),())) (no:=some (false,())) ?_ ?_ k 0 (by omega) (by omega)).trans ?_
     ·intro n j d;simp only[aH,p,aA d,d,decide_true,if_true,hX,cj,U8 aD.aa d];rw[aV (by omega)];rcases au3 (decide ((w.2.2.2.2.2.2.2.2.2.1.getD j aD.aa).2=(w.2.2.2.2.2.2.2.2.2.1.getD i aD.aa).2))with m|m<;>simp only[m,X',ava,j_,if_false,if_true]
     ·intro n;simp only[aH,G7,decide_false,j_,if_false];rw[aV (by omega)]
     ·rfl
    ·intro n;simp only[aH,G7,decide_false,j_,if_false]
    ·show(if o9 w.2.2.2.2.2.2.2.2.1 w.2.2.2.2.2.2.2.2.2.1=true then _ else _)=_;cases o9 w.2.2.2.2.2.2.2.2.1 w.2.2.2.2.2.2.2.2.2.1<;>simp
   ·show(if pd w=true then _ else _)=_;cases pd w<;>simp
end
def kN(k:Nat)(w:ag)(d:aC):Bool:=
 er k d&&(decide (d.2.2.2.2.2.2.2.2.2.1<w.2.1)&&(decide (d.2.2.2.2.2.2.2.2.2.2.1<w.2.1)&&decide (d.2.2.2.2.2.2.2.2.2.2.2<w.2.1)))
def kz(k:Nat)(w:ag):Bool:=bA 0 w.2.2.2.2.2.2.2.2.2.2.2.2.2.length (fun i=>kN k w (w.2.2.2.2.2.2.2.2.2.2.2.2.2.getD i aw.aa))
def jO(w:ag)(t:aF):aC:=w.2.2.2.2.2.2.2.2.2.2.2.2.2.getD t.2.2.2.2.2.2.2.2.toNat aw.aa
def fi(k:Nat)(w:ag):Bool:=bA 0 w.2.2.2.2.2.2.2.2.2.2.2.2.1.length (fun i=>cJ k w (w.2.2.2.2.2.2.2.2.2.2.2.2.1.getD i ak.aa) (jO w (w.2.2.2.2.2.2.2.2.2.2.2.2.1.getD i ak.aa)) i)
def e9(k:Nat)(w:ag):Bool:=
 dp k w.2.2.2.1&&(decide ((w.2.2.2.1.length:Int)=w.1.1)&&(decide ((bq w.2.2.2.1:Int)<=w.1.2.1)&&bA 0 (dE (bU w.2.2.2.1)).length (fun i=>cw ((dE (bU w.2.2.2.1)).getD i ab.aa))))
def bC(k:Nat)(w:ag):Bool:=
 cR w.1&&(decide (0<=w.2.1)&&(decide (0<=w.2.2.2.2.2.2.2.2.1)&&(bc w.2.2.1 0 99899&&(e9 k w&&(decide ((w.2.2.2.2.1.length:Int)=w.1.2.2.1)&&(decide ((w.2.2.2.2.2.2.2.2.2.2.2.2.1.length:Int)=5)&&(bB w.2.2.2.2.2.1&&(bB w.2.2.2.2.2.2.2.2.2.2.2.1&&
 (pE w.2.2.2.2.1&&(kz k w&&(fi k w&&(gN k w&&dB w))))))))))))
section
variable{k:Nat}(Q:9223372036854775808<=k)
include Q
def AR{w:ag}(hs:af az w<=1048576)(s:(w.2.2.2.1.length:Int)=w.1.1):jZ k (w,())=some (kz k w&&fi k w,()):=by
 obtain⟨w1,w2,_,_,w5,w6,_,y,z⟩:=eA Q hs;have hn:=ay (e:=aw) (l:=w.2.2.2.2.2.2.2.2.2.2.2.2.2);have hm:=ay (e:=ak) (l:=w.2.2.2.2.2.2.2.2.2.2.2.2.1);have b:∀j:Nat,af aw (w.2.2.2.2.2.2.2.2.2.2.2.2.2.getD j aw.aa)<=1048576:=fun j=>vN Q (e:=aw) rfl z j;have f:∀j:Nat,af ak (w.2.2.2.2.2.2.2.2.2.2.2.2.1.getD j ak.aa)<=1048576:=fun j=>vN Q (e:=ak) rfl y j;simp only[jZ,aN]
 refine(cU (fun i:Nat=>(w,w.2.2.2.2.2.2.2.2.2.2.2.2.2,(w.2.2.2.2.2.2.2.2.2.2.2.2.2.length:Int),(i:Int),())) (fun i=>kN k w (w.2.2.2.2.2.2.2.2.2.2.2.2.2.getD i aw.aa)) w.2.2.2.2.2.2.2.2.2.2.2.2.2.length
  (e:=some (fi k w,())) (no:=some (false,())) ?_ ?_ k 0 (by omega) (by omega)).trans ?_
 ·intro G i g;dsimp only;rw[aH,c_ g,an rfl,an (aA g),hX,HO Q,en,aV (by omega)];generalize w.2.2.2.2.2.2.2.2.2.2.2.2.2.getD i aw.aa=d;rw[lH,lH,lH];unfold kN;cases er k d<;>cases decide (d.2.2.2.2.2.2.2.2.2.1<w.2.1)<;>cases decide (d.2.2.2.2.2.2.2.2.2.2.1<w.2.1)<;>cases decide (d.2.2.2.2.2.2.2.2.2.2.2<w.2.1)<;>rfl
 ·intro G;simp only[aH,G7,decide_false,j_,if_false]
  refine(cU (fun i:Nat=>(w,w.2.2.2.2.2.2.2.2.2.2.2.2.1,(w.2.2.2.2.2.2.2.2.2.2.2.2.1.length:Int),(i:Int),())) (fun i=>cJ k w (w.2.2.2.2.2.2.2.2.2.2.2.2.1.getD i ak.aa) (jO w (w.2.2.2.2.2.2.2.2.2.2.2.2.1.getD i ak.aa)) i) w.2.2.2.2.2.2.2.2.2.2.2.2.1.length
   (e:=some (true,())) (no:=some (false,())) ?_ ?_ k 0 (by omega) (by omega)).trans ?_
  ·intro r i g;have n:af ak (w.2.2.2.2.2.2.2.2.2.2.2.2.1.getD i ak.aa)<=1048576:=f i;dsimp only;rw[aH,c_ g,an rfl,an (aA g),hX,aV (by omega)];generalize w.2.2.2.2.2.2.2.2.2.2.2.2.1.getD i ak.aa=t at*
   have o:af aw (jO w t)<=1048576:=b _;unfold jO at o|-;generalize w.2.2.2.2.2.2.2.2.2.2.2.2.2.getD t.2.2.2.2.2.2.2.2.toNat aw.aa=d at*
   rw[Kc Q n,en];unfold cJ;by_cases a:cV t i=true;rotate_left
   ·simp[a]
   obtain⟨B,hkind⟩:=CF a;rw[D4 Q hs s n o a];by_cases h:t.1=0
   ·simp[h,a]
   by_cases p:t.2.2.2.2.2.2.2.2<(w.2.2.2.2.2.2.2.2.2.2.2.2.2.length:Int);rotate_left
   ·have:decide (t.2.2.2.2.2.2.2.2>=(w.2.2.2.2.2.2.2.2.2.2.2.2.2.length:Int))=true:=by simp only[b_];omega
    simp[h,this,p,a]
   have q1:decide (t.2.2.2.2.2.2.2.2>=(w.2.2.2.2.2.2.2.2.2.2.2.2.2.length:Int))=false:=by simp only[d_];omega
   simp only[a,q1,B,and_true,true_and,if_true,X',j_,if_false,p,h,decide_true,decide_false,avb,Bool.false_or,cj,fq];by_cases m:d.2.1=i;rotate_left
   ·simp[m]
   by_cases q:d.2.2.2.2.2.2.2.2.2.2.2= -1;rotate_left
   ·simp[m,q]
   by_cases u:d.2.2.2.2.2.2.2.2.2.2.1= -1<;>by_cases v:t.1=1<;>by_cases x:t.2.1=2<;>cases kY k w t d<;>simp[m,q,u,v,x]
  ·intro r;simp only[aH,G7,decide_false,j_,if_false]
  ·show(if fi k w=true then _ else _)=_;cases fi k w<;>simp
 ·show(if kz k w=true then _ else _)=_;cases kz k w<;>simp
def sorted_at{l:List ar}(hs:af (.sl ah) l<=1048576){i:Nat}(a:i<(dE (bU l)).length):af ab ((dE (bU l)).getD i ab.aa)<=1048576:=by
 have h1:=fw Q l;have h2:=tL (bU l);have h3:=dw (e:=ab) (d:=ab.aa) a;omega
omit Q in
theorem Fb(l:List ar):(dE (bU l)).length=bq l:=by
 have:=Kp dG (bU l);unfold dE iX bq;rw[List.length_reverse];exact this
def Dj{w:ag}(hs:af az w<=1048576):mr k (w,())=some (e9 k w,()):=by
 obtain⟨w1,a,_,_,w5,w6,_,w8,w9⟩:=eA Q hs;have hc:=KB Q a;have d:=Fb w.2.2.2.1;simp only[mr,aN,Fh Q a,rL Q a,en,fq];unfold e9;cases dp k w.2.2.2.1 with
 |false=>rfl
 |true=>
  rcases au3 (decide ((w.2.2.2.1.length:Int)=w.1.1))with hq|hq;rotate_left
  ·rw[hq];rfl
  ·rw[hq];simp only[X',j_,if_false,avb]
   refine(cU (fun i:Nat=>(w,dE (bU w.2.2.2.1),(i:Int),())) (fun i=>cw ((dE (bU w.2.2.2.1)).getD i ab.aa)) (dE (bU w.2.2.2.1)).length
    (e:=some (decide ((bq w.2.2.2.1:Int)<=w.1.2.1),())) (no:=some (false,())) ?_ ?_ k 0 (by omega) (by omega)).trans ?_
   ·intro G i b;have f:=sorted_at Q a b;dsimp only;rw[aH,c_ b,an rfl,an (aA b),hX,rU Q f,en,aV (by omega)];cases cw ((dE (bU w.2.2.2.1)).getD i ab.aa)<;>rfl
   ·intro G;simp only[aH,G7,decide_false,j_,if_false,d]
   ·cases bA 0 (dE (bU w.2.2.2.1)).length (fun i=>cw ((dE (bU w.2.2.2.1)).getD i ab.aa))<;>simp
def AG{w:ag}(hs:af az w<=1048576)(h8:w.1.2.1<=8):j8 k (w,())=some (e9 k w,()):=by
 obtain⟨w1,b,_,_,w5,w6,_,w8,w9⟩:=eA Q hs;have hc:=KB Q b;have hsl:=Fb w.2.2.2.1;simp only[j8,aN,GQ Q b,ue Q b,en,fq];unfold e9;cases dp k w.2.2.2.1 with
 |false=>rfl
 |true=>
  rcases au3 (decide ((w.2.2.2.1.length:Int)=w.1.1))with hq|hq;rotate_left
  ·rw[hq];rfl
  ·rw[hq];simp only[X',j_,if_false,avb,beq_self_eq_true,if_true,en];by_cases a:(bq w.2.2.2.1:Int)<=w.1.2.1;rotate_left
   ·rw[an (by simp only[b_];omega),decide_eq_false a];rfl
   rw[a_ (by simp only[b_];omega),c_ a,xC Q b (by omega),en]
   refine(cU (fun i:Nat=>(w,dE (bU w.2.2.2.1),((dE (bU w.2.2.2.1)).length:Int),(i:Int),())) (fun i=>cw ((dE (bU w.2.2.2.1)).getD i ab.aa)) (dE (bU w.2.2.2.1)).length
    (e:=some (true,())) (no:=some (false,())) ?_ ?_ k 0 (by omega) (by omega)).trans ?_
   ·intro G i d;have f:=sorted_at Q b d;dsimp only;rw[aH,c_ d,an rfl,an (aA d),hX,xB Q f,en,aV (by omega)];cases cw ((dE (bU w.2.2.2.1)).getD i ab.aa)<;>rfl
   ·intro G;simp only[aH,G7,decide_false,j_,if_false]
   ·cases bA 0 (dE (bU w.2.2.2.1)).length (fun i=>cw ((dE (bU w.2.2.2.1)).getD i ab.aa))<;>simp
omit Q in
theorem A5{l:List ar}(h:dp k l=true):(1<=l.length/\l.length<=3)/\∀i,i<l.length->bc (l.getD i ah.aa).1 (-1) 4=true:=by
 unfold dp at h;simp only[au9,ck]at h;obtain⟨d,a⟩:=h;refine⟨?_,fun i b=> ?_⟩;unfold bc at a;simp only[au9,b_]at a;omega;have:=d i (by omega) b;unfold eQ at this;simp only[au9]at this;exact this.2.1
omit Q in
theorem Vd{w:ag}(d:(w.2.2.2.1.length:Int)=w.1.1)(h1:1<=w.2.2.2.1.length)(b:fi k w=true){j:Nat}(e:j<w.2.2.2.2.2.2.2.2.2.2.2.2.1.length):bQ k w j<w.2.2.2.1.length:=by
 unfold fi at b;have h:=ck.1 b j (by omega) e;unfold bQ bn;generalize w.2.2.2.2.2.2.2.2.2.2.2.2.1.getD j ak.aa=t at*
 have a:=fun f:Int=>xV (f:=f) (n:=(w.2.2.2.1.length:Int)) (by omega);split;omega;split;exact(a _).2;split;exact(a _).2;split;rename_i hc;unfold cJ kY at h;rw[d];grind;omega
def A7{w:ag}(hs:af az w<=1048576):lT k (w,())=some (bC k w,()):=by
 obtain⟨u,w2,v,x,w5,w6,y,w8,w9⟩:=eA Q hs;have hn:=ay (e:=aw) (l:=w.2.2.2.2.2.2.2.2.2.2.2.2.2);have hm:=ay (e:=ak) (l:=w.2.2.2.2.2.2.2.2.2.2.2.2.1);have hu:=ay (e:=aU) (l:=w.2.2.2.2.1);simp only[lT,aN,vV Q u,fS Q,Dj Q hs,qC Q x,qC Q y,en,fq,bZ];have q:∀a:Int,decide (a<0)= !decide (0<=a):=fun a=>by by_cases h:a<0<;>simp[h]<;>omega
 rw[q,q];unfold bC;by_cases b:cR w.1=true/\0<=w.2.1/\0<=w.2.2.2.2.2.2.2.2.1/\bc w.2.2.1 0 99899=true/\e9 k w=true/\(w.2.2.2.2.1.length:Int)=w.1.2.2.1/\(w.2.2.2.2.2.2.2.2.2.2.2.2.1.length:Int)=5/\bB w.2.2.2.2.2.1=true/\bB w.2.2.2.2.2.2.2.2.2.2.2.1=true;rotate_left
 ·have s:(cR w.1&&(decide (0<=w.2.1)&&(decide (0<=w.2.2.2.2.2.2.2.2.1)&&(bc w.2.2.1 0 99899&&(e9 k w&&(decide ((w.2.2.2.2.1.length:Int)=w.1.2.2.1)&&(decide ((w.2.2.2.2.2.2.2.2.2.2.2.2.1.length:Int)=5)&&(bB w.2.2.2.2.2.1&&(bB w.2.2.2.2.2.2.2.2.2.2.2.1&&
   (pE w.2.2.2.2.1&&(kz k w&&(fi k w&&(gN k w&&dB w)))))))))))))=false:=by
   rw[avD];intro h;simp only[au9,b_]at h;exact b ⟨h.1,h.2.1,h.2.2.1,h.2.2.2.1,h.2.2.2.2.1,h.2.2.2.2.2.1,h.2.2.2.2.2.2.1,h.2.2.2.2.2.2.2.1,h.2.2.2.2.2.2.2.2.1⟩
  rw[s];refine(an ?_).trans rfl
  have f:¬(cR w.1=true/\decide (0<=w.2.1)=true/\decide (0<=w.2.2.2.2.2.2.2.2.1)=true/\bc w.2.2.1 0 99899=true/\e9 k w=true/\decide ((w.2.2.2.2.1.length:Int)=w.1.2.2.1)=true/\decide ((w.2.2.2.2.2.2.2.2.2.2.2.2.1.length:Int)=5)=true/\bB w.2.2.2.2.2.1=true/\bB w.2.2.2.2.2.2.2.2.2.2.2.1=true):=by
   simpa only[b_]using b
  generalize cR w.1=b1 at f|-;generalize decide (0<=w.2.1)=b2 at f|-;generalize decide (0<=w.2.2.2.2.2.2.2.2.1)=b3 at f|-;generalize bc w.2.2.1 0 99899=b4 at f|-;generalize e9 k w=b5 at f|-;generalize decide ((w.2.2.2.2.1.length:Int)=w.1.2.2.1)=b6 at f|-;generalize decide ((w.2.2.2.2.2.2.2.2.2.2.2.2.1.length:Int)=5)=b7 at f|-;generalize bB w.2.2.2.2.2.1=b8 at f|-;generalize bB w.2.2.2.2.2.2.2.2.2.2.2.1=b9 at f|-;clear b s;cases b1
  ·rfl
  cases b2
  ·rfl
  cases b3
  ·rfl
  cases b4
  ·rfl
  cases b5
  ·rfl
  cases b6
  ·rfl
  cases b7
  ·rfl
  cases b8
  ·rfl
  cases b9
  ·rfl
  exact absurd ⟨rfl,rfl,rfl,rfl,rfl,rfl,rfl,rfl,rfl⟩ f
 obtain⟨z,B,C,D,o,h6,h7,h8,h9⟩:=b
 have m:dp k w.2.2.2.1=true/\(w.2.2.2.1.length:Int)=w.1.1:=by
  unfold e9 at o;simp only[au9,b_]at o;exact⟨o.1,o.2.1⟩
 obtain⟨⟨p,_⟩,n⟩:=A5 m.1;rw[z,c_ B,c_ C,D,o,c_ h6,c_ h7,h8,h9];simp only[avb];refine(sN rfl).trans ?_
 refine(cU (fun i:Nat=>(w,(i:Int),())) (fun i=>eL (w.2.2.2.2.1.getD i aU.aa)) w.2.2.2.2.1.length
  (e:=some (kz k w&&(fi k w&&(gN k w&&dB w)),())) (no:=some (false,())) ?_ ?_ k 0 (by omega) (by omega)).trans ?_
 ·intro G i g;dsimp only;rw[aH,c_ g,an rfl,an (aA g),hX,LO Q (MJ Q v g),en,aV (by omega)];cases eL (w.2.2.2.2.1.getD i aU.aa)<;>rfl
 ·intro G;simp only[aH,G7,decide_false,j_,if_false]
  refine(cU (fun i:Nat=>(w,(i:Int),())) (fun i=>kN k w (w.2.2.2.2.2.2.2.2.2.2.2.2.2.getD i aw.aa)) w.2.2.2.2.2.2.2.2.2.2.2.2.2.length
   (e:=some (fi k w&&(gN k w&&dB w),())) (no:=some (false,())) ?_ ?_ k 0 (by omega) (by omega)).trans ?_
  ·intro G i g;dsimp only;rw[aH,c_ g,an rfl,an (aA g),hX,IH Q,en,aV (by omega)];generalize w.2.2.2.2.2.2.2.2.2.2.2.2.2.getD i aw.aa=d;rw[lH,lH,lH];unfold kN;cases er k d<;>cases decide (d.2.2.2.2.2.2.2.2.2.1<w.2.1)<;>cases decide (d.2.2.2.2.2.2.2.2.2.2.1<w.2.1)<;>cases decide (d.2.2.2.2.2.2.2.2.2.2.2<w.2.1)<;>rfl
  ·intro G;simp only[aH,G7,decide_false,j_,if_false]
   refine(cU (fun i:Nat=>(w,(i:Int),())) (fun i=>cJ k w (w.2.2.2.2.2.2.2.2.2.2.2.2.1.getD i ak.aa) (jO w (w.2.2.2.2.2.2.2.2.2.2.2.2.1.getD i ak.aa)) i) w.2.2.2.2.2.2.2.2.2.2.2.2.1.length
    (e:=jD k (w,())>>= fun r=>(if(r.1==true)=true then iL k (w,())else some (false,()))>>= fun t=>some (if r.1=true then t.1 else false,())) (no:=some (false,())) ?_ ?_ k 0 (by omega) (by omega)).trans ?_
   ·intro G i g;dsimp only;rw[aH,c_ g,an rfl,GZ Q hs g m.2,en,aV (by omega)];show(if(!cJ k w (w.2.2.2.2.2.2.2.2.2.2.2.2.1.getD i ak.aa) (jO w (w.2.2.2.2.2.2.2.2.2.2.2.2.1.getD i ak.aa)) i)=true then _ else _)=_;cases cJ k w (w.2.2.2.2.2.2.2.2.2.2.2.2.1.getD i ak.aa) (jO w (w.2.2.2.2.2.2.2.2.2.2.2.2.1.getD i ak.aa)) i<;>rfl
   ·intro G;simp only[aH,G7,decide_false,j_,if_false];rfl
   ·show(if fi k w=true then _ else _)=_;rcases au3 (fi k w)with ho|ho;rotate_left
    ·rw[ho];rfl
    ·rw[ho,an rfl,Ds Q hs n (by omega) (fun j hj=>Vd m.2 p ho (by omega)),Bz Q hs (by omega)];cases gN k w<;>rfl
  ·show(if kz k w=true then _ else _)=_;cases kz k w<;>simp
 ·show(if pE w.2.2.2.2.1=true then _ else _)=_;cases pE w.2.2.2.2.1<;>simp
def lC{w:ag}(hs:af az w<=1048576):iz k (w,())=some (bC k w,()):=by
 obtain⟨m,w2,n,o,w5,w6,p,w8,w9⟩:=eA Q hs;simp only[iz,Ch Q m,fG Q,en,fq,bZ];have j:∀a:Int,decide (a<0)= !decide (0<=a):=fun a=>by by_cases h:a<0<;>simp[h]<;>omega
 rw[j,j];unfold bC;by_cases b:cR w.1=true/\0<=w.2.1/\0<=w.2.2.2.2.2.2.2.2.1/\bc w.2.2.1 0 99899=true/\(w.2.2.2.2.2.2.2.2.2.2.2.2.1.length:Int)=5;rotate_left
 ·have l:(cR w.1&&(decide (0<=w.2.1)&&(decide (0<=w.2.2.2.2.2.2.2.2.1)&&(bc w.2.2.1 0 99899&&(e9 k w&&(decide ((w.2.2.2.2.1.length:Int)=w.1.2.2.1)&&(decide ((w.2.2.2.2.2.2.2.2.2.2.2.2.1.length:Int)=5)&&(bB w.2.2.2.2.2.1&&(bB w.2.2.2.2.2.2.2.2.2.2.2.1&&
   (pE w.2.2.2.2.1&&(kz k w&&(fi k w&&(gN k w&&dB w)))))))))))))=false:=by
   rw[avD];intro h;simp only[au9,b_]at h;exact b ⟨h.1,h.2.1,h.2.2.1,h.2.2.2.1,h.2.2.2.2.2.2.1⟩
  rw[l];refine(an ?_).trans rfl
  have d:¬(cR w.1=true/\decide (0<=w.2.1)=true/\decide (0<=w.2.2.2.2.2.2.2.2.1)=true/\bc w.2.2.1 0 99899=true/\decide ((w.2.2.2.2.2.2.2.2.2.2.2.2.1.length:Int)=5)=true):=by
   simpa only[b_]using b
  generalize cR w.1=b1 at d|-;generalize decide (0<=w.2.1)=b2 at d|-;generalize decide (0<=w.2.2.2.2.2.2.2.2.1)=b3 at d|-;generalize bc w.2.2.1 0 99899=b4 at d|-;generalize decide ((w.2.2.2.2.2.2.2.2.2.2.2.2.1.length:Int)=5)=b7 at d|-;clear b l;cases b1
  ·rfl
  cases b2
  ·rfl
  cases b3
  ·rfl
  cases b4
  ·rfl
  cases b7
  ·rfl
  exact absurd ⟨rfl,rfl,rfl,rfl,rfl⟩ d
 obtain⟨g,q,r,s,h7⟩:=b
 have e:w.1.2.1<=8:=by
  unfold cR bc at g;simp only[au9,b_]at g;omega
 rw[g,c_ q,c_ r,s,c_ h7];simp only[avb];refine(sN rfl).trans ?_;rw[AG Q hs e,en];rcases au3 (e9 k w)with h5|h5;rotate_left
 ·rw[h5];rfl
 have f:dp k w.2.2.2.1=true/\(w.2.2.2.1.length:Int)=w.1.1:=by
  unfold e9 at h5;simp only[au9,b_]at h5;exact⟨h5.1,h5.2.1⟩
 rw[h5,BR Q n,kQ Q o,kQ Q p,AR Q hs f.2,zL Q hs,zu Q hs (by omega)];generalize decide ((w.2.2.2.2.1.length:Int)=w.1.2.2.1)=c1;generalize bB w.2.2.2.2.2.1=c2;generalize bB w.2.2.2.2.2.2.2.2.2.2.2.1=c3;generalize pE w.2.2.2.2.1=c4;generalize kz k w=c5;generalize fi k w=c6;generalize gN k w=c7;generalize dB w=c8;clear h5 f;cases c4<;>cases c1<;>cases c2<;>cases c3<;>cases c5<;>cases c6<;>cases c7<;>first|rfl|(cases c8<;>rfl)
end
def vL(c:bh):List bg:=avc c.2.2.1.toNat ([],false)
def XJ:bh:=(0,0,0,0,0,[])
def uO:aF:=(0,0,([],0,0,ByteArray.empty),[],0,[],[],0,0)
def dq(n:Int):List ar:=avc (if 1<=n/\n<=3 then n.toNat else 1) (-1,0,[])
def iG(c:bh):ag:=if cR c=true then(c,0,0,dq c.1,vL c,[],-1,[],0,[],[],[],avc 5 uO,[])else(XJ,0,0,[],[],[],0,[],0,[],[],[],[],[])
def MT{c:bh}(h:cR c=true):1<=c.2.2.1/\c.2.2.1<=2/\1<=c.1/\c.1<=3:=by
 simp only[cR,bc,au9,b_]at h;omega
def Cj{α:Type}(x:α)(i:Nat):avc (i+1) x=avc i x++[x]:=by
 rw[avy]
section
variable{k:Nat}(Q:9223372036854775808<=k)
include Q
def ae8{n:Int}:Uw k (n,())=some (dq n,()):=by
 have key:∀m:Int,1<=m->m<=3->aM k (fun d (a:List ar×Int×Int×Unit)=>
  if(decide ((a.2.2.1:Int)<a.2.1))=true then
   if(decide (avn a.1+avn ([((-1:Int),(0,([]:List aP)))]:List ar)<4294967296))=true then
    d (a.1++([((-1:Int),(0,([]:List aP)))]:List ar),a.2.1,IntKind.i64.wrap (a.2.2.1+(1:Int)),())
   else
    none
  else
   some (a.1,())) (([]:List ar),m,(0:Int),())=some (avc m.toNat (-1,0,[]),()):=by
  intro m h1 h2;refine bG (fun i=>(avc i ((-1,0,[]):ar),m,(i:Int),())) m.toNat (fun G i hi=> ?_) (fun G=> ?_) k 0 (by omega) (by omega);simp only;rw[an (by simp;omega),an (by simp;omega),aV (by omega),Cj];simp only;rw[a_ (by simp;omega)]
 simp only[Uw,aN,fG Q,en];unfold dq;by_cases b:1<=n/\n<=3;rw[an b,a_ (by simp[bc];omega)];exact key n b.1 b.2;rw[a_ b,an (by simp[bc];omega)];exact key 1 (by omega) (by omega)
theorem sV{n:Int}:jk k (n,())=some (dq n,()):=by
 simp only[jk];unfold dq;by_cases a:1<=n/\n<=3;rw[an a];refine bG (fun i=>(n,avc (i+1) ((-1,0,[]):ar),())) (n.toNat-1) (fun G i hi=> ?_) (fun G=> ?_) k 0 (by omega) (by omega);simp only;rw[an (by simp;omega),an (by simp;omega),<-Cj];simp only;rw[a_ (by simp;omega)];congr 3;omega;rw[a_ a];obtain⟨k,rfl⟩:∃m,k=m+1:=⟨k-1,by omega⟩
 show(if _ then _ else _)=_;rw[a_ (by simp;omega)];rfl
def afE{c:bh}(h:af cM c<=1048576):Uy k (c,())=some (iG c,()):=by
 simp only[Uy];rw[Ch Q h,en];unfold iG;cases hc:cR c with
 |false=>rfl
 |true=>
  have:=MT hc;rw[a_ (by simp),Pl Q (by omega),en,ae8 Q,en,an (by simp;omega),an (by simp)];rfl
def zi{c:bh}(h:af cM c<=1048576):lB k (c,())=some (iG c,()):=by
 simp only[lB,aN];rw[vV Q h,en];unfold iG;cases hc:cR c with
 |false=>rfl
 |true=>
  have hs:=MT hc;rw[a_ (by simp),F0 Q (by omega),en,sV Q,en];refine bG (fun i=>(c,_,(c,(0:Int),(0:Int),dq c.1,avc i (([],false):bg),([]:List ae),(-1:Int),([]:List au),(0:Int),([]:List aJ),([]:List br),([]:List ae),([]:List aF),([]:List aC)),(i:Int),())) c.2.2.1.toNat (fun G i a=> ?_) (fun G=> ?_) k 0 (by omega) (by omega);simp only;rw[an (by simp;omega),an (by simp;omega),aV (by omega),Cj];simp only;rw[a_ (by simp;omega)];refine bG (fun i=>(c,_,(c,(0:Int),(0:Int),dq c.1,vL c,([]:List ae),(-1:Int),([]:List au),(0:Int),([]:List aJ),([]:List br),([]:List ae),avc i uO,([]:List aC)),(i:Int),())) 5 (fun G i a=> ?_) (fun G=> ?_) k 0 (by omega) (by omega);simp only;rw[an (by simp;omega),an (by simp;omega),aV (by omega),Cj];rfl;simp only;rw[a_ (by simp)];rfl
end
abbrev bF(w:ag):List aF:=w.2.2.2.2.2.2.2.2.2.2.2.2.1
abbrev bV(w:ag):List aC:=w.2.2.2.2.2.2.2.2.2.2.2.2.2
def KU(w:ag)(t:List aF)(d:List aC):ag:=
 (w.1,IntKind.i64.wrap (w.2.1+1),w.2.2.1,w.2.2.2.1,w.2.2.2.2.1,w.2.2.2.2.2.1,w.2.2.2.2.2.2.1,w.2.2.2.2.2.2.2.1,w.2.2.2.2.2.2.2.2.1,w.2.2.2.2.2.2.2.2.2.1,w.2.2.2.2.2.2.2.2.2.2.1,w.2.2.2.2.2.2.2.2.2.2.2.1,t,d)
def om(t:aF)(h:Int):aF:=(t.1,t.2.1,t.2.2.1,t.2.2.2.1,t.2.2.2.2.1,t.2.2.2.2.2.1,t.2.2.2.2.2.2.1,t.2.2.2.2.2.2.2.1,h)
def opened(w:ag)(i op:Int)(a:ae)(l:List ai)(n:Int):aC:=(op,i,a,l,0,n,0,[],w.2.2.1,w.2.1,-1,-1)
def fk(w:ag)(i:Int)(t:aF)(op:Int):ag:=
 KU w ((bF w).set i.toNat (om t (bV w).length)) (bV w++[opened w i op t.2.2.1 t.2.2.2.1 t.2.2.2.2.2.2.2.1])
def qv(w:ag)(i:Int):Bool:=bc i 0 (((bF w).length:Int)-1)&&decide (((bF w).getD i.toNat ak.aa).1=0)
def cP(w:ag)(i:Int):Bool:=bc i 0 2&&qv w i
def vo:ae:=([],0,0,ByteArray.empty)
def kJ:aF:=(4,0,vo,[],0,[],[],0,0)
def qD:aF:=(3,0,vo,[],0,[],[],0,0)
def tO(l:List ai):aF:=(2,0,vo,l,0,[],[],0,0)
def pA(a:ae):aF:=(1,0,a,[],0,[],[],0,0)
def qu(k:Nat)(w:ag)(i:Int):Bool:=bC k w&&cP w i
def refused(w:ag)(i:Int)(a:ae):ag:=KU w (bF w) (bV w++[(1,i,a,[],0,0,4,[],w.2.2.1,w.2.1,w.2.1,w.2.1)])
def rW{w:ag}{i:Int}(h:cP w i=true):0<=i/\i<=2/\i.toNat<(bF w).length:=by
 unfold cP qv bc at h;simp only[au9,b_]at h;omega
def S8(k:Nat)(x:ag×Int×aF×Unit):Option (ag×Unit):=
 avl (dv k (x.1,x.2.1,x.2.2.1,())) fun a=>some ((a.1.1,IntKind.i64.wrap (a.1.2.1+(1:Int)),a.1.2.2),())
section
variable{k:Nat}(Q:9223372036854775808<=k)
include Q
def tE{w:ag}(hs:af az w<=1048576):(bF w).length<=1048576/\(bV w).length<=1048576:=by
 obtain⟨w1,w2,w3,w4,w5,w6,w7,a,b⟩:=eA Q hs;exact⟨avf (ay (e:=ak)) a,avf (ay (e:=aw)) b⟩
def SX{w:ag}{i:Int}(hs:af az w<=1048576):CC k (w,i,())=some (qv w i,()):=by
 have hl:w.2.2.2.2.2.2.2.2.2.2.2.2.1.length<=1048576:=(tE Q hs).1;simp only[CC];rw[tR (by omega),fS Q,en];simp only[qv,bF];by_cases h:bc i 0 ((w.2.2.2.2.2.2.2.2.2.2.2.2.1.length:Int)-1)=true;have a:=h;unfold bc at a;simp only[au9,b_]at a;rw[h];refine(an (by simp;omega)).trans ?_;simp[cj];rw[avJ]at h;rw[h];exact(an rfl).trans rfl
def Ez{w:ag}{i:Int}(hs:af az w<=1048576):rS k (w,i,())=some (qv w i,()):=by
 have hl:w.2.2.2.2.2.2.2.2.2.2.2.2.1.length<=1048576:=(tE Q hs).1;simp only[rS];rw[tR (by omega),fG Q,en];simp only[qv,bF];by_cases h:bc i 0 ((w.2.2.2.2.2.2.2.2.2.2.2.2.1.length:Int)-1)=true;have a:=h;unfold bc at a;simp only[au9,b_]at a;rw[h];refine(an (by simp;omega)).trans ?_;simp[cj];rw[avJ]at h;rw[h];exact(an rfl).trans rfl
theorem Iw{op:Int}(h0:0<=op)(h1:op<=6):dI k (op,())=some (avv [0,1,3,4,6,7,8] op.toNat 0,()):=by
 simp only[dI];rw[an (by simp;omega)]
def OF{w:ag}{i:Int}{t:aF}(hs:af az w<=1048576)(ht:af ak t<=1048576)(b:0<=t.1)(d:t.1<=6)(hi:0<=i)(hi2:i.toNat<w.2.2.2.2.2.2.2.2.2.2.2.2.1.length):
 S8 k (w,i,t,())=some (fk w i t (avv [0,1,3,4,6,7,8] t.1.toNat 0),()):=by
 have hl:w.2.2.2.2.2.2.2.2.2.2.2.2.2.length<=1048576:=(tE Q hs).2;have hT:=bw Q t;have h2:=ay (e:=al) (l:=t.2.2.2.1);simp only[S8,dv];rw[xO Q (by omega),en];simp only[Iw Q b d,dh Q (a:=t.2.2.1) (by omega),en,avp,avh,Nat.zero_add,au6];rw[an (by simp;omega),an (by simp;omega),an (by simp;omega),en];rfl
def HA{w:ag}{i:Int}{t:aF}(hs:af az w<=1048576)(b:af ak t<=1048576)(d:0<=t.1)(e:t.1<=6)(f:0<=i)(a:i.toNat<w.2.2.2.2.2.2.2.2.2.2.2.2.1.length):
 dX k (w,i,t,())=some (fk w i t (avv [0,1,3,4,6,7,8] t.1.toNat 0),()):=OF Q hs b d e f a
def nZ{w:ag}{d:aC}(hs:af az w<=1048576):cK k (w,d,())=some ((w.1,w.2.1,w.2.2.1,w.2.2.2.1,w.2.2.2.2.1,w.2.2.2.2.2.1,w.2.2.2.2.2.2.1,w.2.2.2.2.2.2.2.1,w.2.2.2.2.2.2.2.2.1,w.2.2.2.2.2.2.2.2.2.1,w.2.2.2.2.2.2.2.2.2.2.1,w.2.2.2.2.2.2.2.2.2.2.2.1,bF w,
 bV w++[(d.1,d.2.1,d.2.2.1,d.2.2.2.1,d.2.2.2.2.1,d.2.2.2.2.2.1,d.2.2.2.2.2.2.1,d.2.2.2.2.2.2.2.1,w.2.2.1,w.2.1,w.2.1,w.2.1)]),()):=by
 have hl:w.2.2.2.2.2.2.2.2.2.2.2.2.2.length<=1048576:=(tE Q hs).2;simp only[cK];rw[an (by simp;omega)]
end
def Lg{k:Nat}{w:ag}(h:bC k w=true):dp k w.2.2.2.1=true/\(w.2.2.2.1.length:Int)=w.1.1/\w.2.2.2.2.2.2.2.2.2.2.2.2.1.length=5/\fi k w=true:=by
 unfold bC e9 at h;simp only[au9,b_]at h;obtain⟨_,_,_,_,⟨a,b,_⟩,_,h3,_,_,_,_,d,_⟩:=h;exact⟨a,b,by omega,d⟩
section
variable{k:Nat}(Q:9223372036854775808<=k)
include Q
end
def nT(d:aC)(O ti code:Int):aC:=(d.1,d.2.1,d.2.2.1,d.2.2.2.1,d.2.2.2.2.1,d.2.2.2.2.2.1,code,d.2.2.2.2.2.2.2.1,O,d.2.2.2.2.2.2.2.2.2.1,ti,d.2.2.2.2.2.2.2.2.2.2.2)
def lP(d:aC)(ti:Int):aC:=(d.1,d.2.1,d.2.2.1,d.2.2.2.1,d.2.2.2.2.1,d.2.2.2.2.2.1,d.2.2.2.2.2.2.1,d.2.2.2.2.2.2.2.1,d.2.2.2.2.2.2.2.2.1,d.2.2.2.2.2.2.2.2.2.1,d.2.2.2.2.2.2.2.2.2.2.1,ti)
def cW(d:aC):Int:=d.2.2.2.2.2.2.2.2.2.2.1
def Lj(d:aC)(O ti code:Int):aC:=lP (if cW d= -1 then nT d O ti code else d) ti
def eT(d:aC)(O inv a res:Int):aC:=(d.1,d.2.1,d.2.2.1,d.2.2.2.1,d.2.2.2.2.1,d.2.2.2.2.2.1,d.2.2.2.2.2.2.1,d.2.2.2.2.2.2.2.1,O,inv,a,res)
def bf(t:aF):Int:=t.2.2.2.2.2.2.2.2
def aT{α:Type}{l:List α}{n:Nat}(a d:α)(h:n<l.length):(l.set n a).getD n d=a:=by
 rw[au4,List.getElem?_set_self h];rfl
section
variable{k:Nat}(Q:9223372036854775808<=k)
include Q
variable{c:bh}{ti O gr nn:Int}{st:List ar}{Z:List bg}{U V:List ae}{A:List au}{T:List aJ}{n_:List br}{E:List aF}{M:List aC}
theorem N1{d:aC}(hn:M.length<=1048576):
 cK k ((c,ti,O,st,Z,U,gr,A,nn,T,n_,V,E,M),d,())=
  some ((c,ti,O,st,Z,U,gr,A,nn,T,n_,V,E,M++[eT d O ti ti ti]),()):=by
 simp only[cK];rw[an (c_ (by simp only[au6];omega))];rfl
theorem uw{i:Nat}(a:i<E.length):
 kj k ((c,ti,O,st,Z,U,gr,A,nn,T,n_,V,E,M),(i:Int),())=
  if gr= -1 then some (true,(c,ti,O,st,Z,U,(i:Int),A,nn,T,n_,V,E.set i ((E.getD i ak.aa).1,1,(E.getD i ak.aa).2.2),M),())
  else some (false,(c,ti,O,st,Z,U,gr,A,nn,T,n_,V,E,M),()):=by
 simp only[kj,hX,fq];by_cases h:gr= -1;rw[a_ (by simpa using h),an (aA a),an h];rw[an (by simpa using h),a_ h]
theorem pP{i j:Nat}(b:i<E.length)(a:j<st.length):
 iB k ((c,ti,O,st,Z,U,gr,A,nn,T,n_,V,E,M),(i:Int),(j:Int),())=
  if(st.getD j ah.aa).1= -1 then some (true,(c,ti,O,st.set j ((i:Int),(st.getD j ah.aa).2),Z,U,gr,A,nn,T,n_,V,E.set i ((E.getD i ak.aa).1,1,(E.getD i ak.aa).2.2),M),())
  else some (false,(c,ti,O,st,Z,U,gr,A,nn,T,n_,V,E,M),()):=by
 simp only[iB,hX,fq];rw[an (aA a)];by_cases h:(st.getD j ah.aa).1= -1;rw[a_ (by simpa using h),an (aA a),an (aA b),an h];rw[an (by simpa using h),a_ h]
end
def xQ(d:aC)(O ti code:Int)(got:List ae):aC:=(d.1,d.2.1,d.2.2.1,d.2.2.2.1,d.2.2.2.2.1,d.2.2.2.2.2.1,code,got,O,d.2.2.2.2.2.2.2.2.2.1,ti,d.2.2.2.2.2.2.2.2.2.2.2)
def ot(d:aC)(O ti code:Int)(got:List ae):aC:=lP (if cW d= -1 then xQ d O ti code got else d) ti
section
variable{k:Nat}(Q:9223372036854775808<=k)
include Q
variable{c:bh}{ti O gr nn:Int}{st:List ar}{Z:List bg}{U V:List ae}{A:List au}{T:List aJ}{n_:List br}{E:List aF}{M:List aC}
set_option maxHeartbeats 4000000 in
theorem fj{i n:Nat}{code:Int}{got:List ae}(d:i<E.length)(a:n<M.length)(e:bf (E.getD i ak.aa)=(n:Int))
 (g:af (.sl ab) got<=1073741824):
 cD k ((c,ti,O,st,Z,U,gr,A,nn,T,n_,V,E,M),(i:Int),code,got,())=
  some ((c,ti,O,st,Z,U,gr,A,nn,T,n_,V,E.set i zT,M.set n (ot (M.getD n aw.aa) O ti code got)),()):=by
 unfold bf at e;simp only[cD,hX,e,fu,aN];rw[an (aA d),an (aA a)];have f:((0,0,(([]:List ai),0,0,ByteArray.empty),([]:List ai),0,([]:List Int),([]:List ae),0,0):aF)=zT:=rfl;unfold ot cW;by_cases b:(M.getD n aw.aa).2.2.2.2.2.2.2.2.2.2.1= -1;rw[an (by rw[beq_iff_eq];exact b),fB Q g,en,an b];simp only[aT _ _ a,avj,ave,aA d,aA a,if_true,f,lP,xQ];rw[a_ (by rw[beq_iff_eq];exact b),a_ b];simp only[aT _ _ a,avj,ave,aA d,aA a,if_true,f,lP,xQ]
theorem sT{i:Nat}{t:aF}{o:Int}(a:i<E.length)(hn:M.length<=1048576)(ht:af ak t<=1048576)(b:dI k (t.1,())=some (o,()))(hA:af ab t.2.2.1<=1048576)(hL:t.2.2.2.1.length<=1048576):
 dv k ((c,ti,O,st,Z,U,gr,A,nn,T,n_,V,E,M),(i:Int),t,())=
  some ((c,ti,O,st,Z,U,gr,A,nn,T,n_,V,E.set i (t.1,t.2.1,t.2.2.1,t.2.2.2.1,t.2.2.2.2.1,t.2.2.2.2.2.1,t.2.2.2.2.2.2.1,t.2.2.2.2.2.2.2.1,(M.length:Int)),
   M++[(o,(i:Int),t.2.2.1,t.2.2.2.1,0,t.2.2.2.2.2.2.2.1,0,[],O,ti,-1,-1)]),()):=by
 simp only[dv,xO Q (show af ak t<=1073741824 by omega),en,b,dh Q (show af ab t.2.2.1<=1073741824 by omega),hX];rw[an (aA a),an (c_ (by simp only[avh];omega)),an (c_ (by simp only[au6];omega))];rfl
end
def dA(s x:Bool)(d:aC)(O ti code:Int)(got:List ae):aC:=if(s||x)=true then ot d O ti code got else Lj d O ti code
def rl(k:Nat)(c:bh)(st:List ar)(a:ae):Bool:= !(bL k st a.1).2&&decide (c.2.1<=(bq st:Int))
def bT(st:List ar)(j:Nat)(x:Int):List ar:=st.set j (x,(st.getD j ah.aa).2)
def tick(ti:Int):Int:=IntKind.i64.wrap (ti+1)
def mO(i:Int)(a:ae):aC:=(2,i,a,[],0,0,8,[],0,0,0,0)
def dZ(w:ag)(i j:Nat):Bool×ag:=
 match w with
 |(c,ti,O,st,Z,U,gr,A,nn,T,n_,V,E,M)=>
  if(st.getD j ah.aa).1= -1 then(true,(c,ti,O,bT st j i,Z,U,gr,A,nn,T,n_,V,E.set i ((E.getD i ak.aa).1,1,(E.getD i ak.aa).2.2),M))else(false,w)
def bH(r:Bool×ag):Bool×ag:=if r.1=true then(true,(r.2.1,tick r.2.2.1,r.2.2.2))else r
def qj(s:Bool)(k:Nat)(w:ag)(i:Nat):Bool×ag:=
 match w with
 |(c,ti,O,st,Z,U,gr,A,nn,T,n_,V,E,M)=>
  let t:=E.getD i ak.aa
  let n:=(bf t).toNat
  let j:=(bz k st t.2.2.1.1).toNat
  let d:=M.getD n aw.aa
  if t.2.1=0 then dZ w i j
  else if t.2.1=1 then
   if rl k c st t.2.2.1=true then(true,(c,ti,O,bT st j (-1),Z,U,gr,A,nn,T,n_,V,E.set i zT,M.set n (dA s false d O ti 3 [])))
   else(true,(c,ti,O,(cZ k st t.2.2.1).1,Z,U,gr,A,nn,T,n_,V,E.set i (t.1,2,(bL k (cZ k st t.2.2.1).1 t.2.2.1.1).1,t.2.2.2),M.set n (nT d O ti (if(cZ k st t.2.2.1).2=true then 1 else 2))))
  else(true,(c,ti,O,bT st j (-1),Z.map (mC t.2.2.1),U++[t.2.2.1],gr,A,nn,T,n_,V++[t.2.2.1],E.set i zT,(M++[eT (mO i t.2.2.1) O ti ti ti]).set n (lP d ti)))
def fy(s:Bool)(k:Nat)(w:ag)(i:Nat):Bool×ag:=bH (qj s k w i)
def sD{α:Type}{l:List α}{n:Nat}(x d:α)(h:n<l.length):(l++[x]).getD n d=l.getD n d:=by
 rw[au4,au4,List.getElem?_append_left h]
def Pc{α:Type}{b:Bool}{a cap:Int}{X Y:Option α}:(avl (if((!b)==true)=true then some (a,())else some (0,())) fun(r:Int×Unit)=>if(if(!b)=true then decide (r.1>=cap)else false)=true then X else Y)=
 if(!b&&decide (cap<=a))=true then X else Y:=by cases b<;>simp
section
variable{k:Nat}(Q:9223372036854775808<=k)
include Q
variable{c:bh}{ti O gr nn:Int}{st:List ar}{Z:List bg}{U V:List ae}{A:List au}{T:List aJ}{n_:List br}{E:List aF}{M:List aC}
def gG(hs:af az (c,ti,O,st,Z,U,gr,A,nn,T,n_,V,E,M)<=1048576):
 af cM c+af (.sl ah) st+af (.sl aU) Z+af (.sl ab) U+af (.sl aj) A+af (.sl aD) T+af (.sl bM) n_+af (.sl ab) V+af (.sl ak) E+af (.sl aw) M<=1048576:=by
 rw[da Q]at hs;exact hs
theorem Og{l:List ar}{s:List ai}(h:l.length≠0):∃j:Nat,j<l.length/\bz k l s=(j:Int):=by
 obtain⟨h0,h1,a⟩:=mD (k:=k) (l:=l) (s:=s) h;exact⟨(bz k l s).toNat,a,by omega⟩
def pI{i j:Nat}{t:aF}(a:i<E.length)(b:E.getD i ak.aa=t)(d:af (.sl al) t.2.2.1.1<=1048576)(e:bz k st t.2.2.1.1=(j:Int)):
 iE k ((c,ti,O,st,Z,U,gr,A,nn,T,n_,V,E,M),(i:Int),())=some ((j:Int),()):=by
 simp only[iE,hX,b];rw[an (aA a),nx Q d,en,e]
set_option maxHeartbeats 4000000 in
theorem BY{i n j:Nat}{t:aF}{d:aC}(hs:af az (c,ti,O,st,Z,U,gr,A,nn,T,n_,V,E,M)<=1048576)(b:i<E.length)(f:E.getD i ak.aa=t)(r:t.1=1)
 (u:j<st.length) (s:bz k st t.2.2.1.1=(j:Int)) (h:n<M.length) (o:bf t=(n:Int)) (m:M.getD n aw.aa=d) (p:t.2.1=1):
 lh k ((c,ti,O,st,Z,U,gr,A,nn,T,n_,V,E,M),(i:Int),())=
  some ((qj true k (c,ti,O,st,Z,U,gr,A,nn,T,n_,V,E,M) i).2,()):=by
 have hsum:=gG Q hs;have q:=dw (e:=ak) (d:=ak.aa) b;rw[f]at q;have hdl:=ay (e:=aw) (l:=M);have hta:=bw Q t;have htA:=bo Q t.2.2.1;have g:=o;unfold bf at g;simp only[lh,hX,f,g,aN,fu];rw[an (aA b),pI Q b f (by omega) s,en,ia Q (by omega) (by omega),en,Gq Q (by omega),Pc];unfold qj;simp only[f,o,m,s,hX,p,rl];rw[a_ (show¬(1:Int)=0 by decide)];cases hb:(!(bL k st t.2.2.1.1).2&&decide (c.2.1<=(bq st:Int)))with
 |true=>
  rw[an rfl,an rfl,an (aA u),fj Q b h (by rw[f];exact o) (by simp[af]),en,m];rfl
 |false=>
  have hpt:=CP Q (l:=st) (a:=t.2.2.1);rw[a_ avi,a_ avi,sP Q (by omega) (by omega),en,an (aA h)];cases hf:(cZ k st t.2.2.1).2 with
  |true=>
   rw[an rfl];dsimp only;rw[ia Q (by omega) (by omega),en,an (aA b),ave,an (aA b)];simp only[avj,aT _ _ b,aT _ _ h,hX,f,m,r];rfl
  |false=>
   rw[a_ avi];dsimp only;rw[ia Q (by omega) (by omega),en,an (aA b),ave,an (aA b)];simp only[avj,aT _ _ b,aT _ _ h,hX,f,m,r];rfl
set_option maxHeartbeats 4000000 in
theorem Cm{i n j:Nat}{t:aF}{d:aC}(hs:af az (c,ti,O,st,Z,U,gr,A,nn,T,n_,V,E,M)<=1048576)(f:i<E.length)(a:E.getD i ak.aa=t)(p:t.1=1)
 (h:j<st.length) (g:bz k st t.2.2.1.1=(j:Int)) (u:n<M.length) (m:bf t=(n:Int)) (o:M.getD n aw.aa=d) (q:t.2.1=0\/t.2.1=1\/t.2.1=2)
 (v:t.2.1=2->cW d≠-1):
 lV k ((c,ti,O,st,Z,U,gr,A,nn,T,n_,V,E,M),(i:Int),())=
  some ((fy true k (c,ti,O,st,Z,U,gr,A,nn,T,n_,V,E,M) i).1,(fy true k (c,ti,O,st,Z,U,gr,A,nn,T,n_,V,E,M) i).2,()):=by
 have hsum:=gG Q hs;have r:=dw (e:=ak) (d:=ak.aa) f;rw[a]at r;have hdl:=ay (e:=aw) (l:=M);have hfl:=ay (e:=ab) (l:=U);have hsl:=ay (e:=ab) (l:=V);have htl:=ay (e:=ak) (l:=E);have hta:=bw Q t;have htA:=bo Q t.2.2.1;simp only[lV,hX,a,p,aN,fu,cj,fq];rw[an (aA f)];unfold fy;rcases q with b|b|b;rw[b,an (by decide),pI Q f a (by omega) g,en];dsimp only;rw[an (aA h),an (aA h),an (aA f)];unfold qj dZ bH;simp only[a,m,o,g,hX,b,p];split<;>simp_all[tick,bT];rw[b,a_ (by decide),an (by decide),BY Q hs f a p h g u m o b,en]
 have w:(qj true k (c,ti,O,st,Z,U,gr,A,nn,T,n_,V,E,M) i).1=true:=by
  unfold qj;simp only[a,b];rw[a_ (by decide)];simp only[if_true];split<;>rfl
 unfold bH;rw[w];rfl;rw[b,a_ (by decide),a_ (by decide)];have s:bE k (t.2.2.1,())=some (t.2.2.1,()):=dh Q (by omega);simp only[qB,hX,a,s,en]
 rw[an (aA f),pI Q f a (by omega) g,en,an (c_ (by simp only[au6];omega)),an (c_ (by simp only[au6];omega)),
  FH Q (by omega) (by omega),en,N1 Q (by omega),en]
 dsimp only;rw[an (aA h),fj (n:=n) Q f (by rw[avt,au6];omega) (by rw[a];exact m) (by simp[af]),en,en,sD _ _ u,o];unfold ot qj;simp only[a,m,o,g,hX,b];rw[a_ (v b)];rfl
end
def mF(s:Bool)(k:Nat)(w:ag)(i:Nat):Bool×ag:=
 match w with
 |(c,ti,O,st,Z,U,gr,A,nn,T,n_,V,E,M)=>
  let t:=E.getD i ak.aa
  let n:=(bf t).toNat
  let j:=(bz k st t.2.2.2.1).toNat
  let d:=M.getD n aw.aa
  if t.2.1=0 then dZ w i j
  else if(bL k st t.2.2.2.1).2=true then(true,(c,ti,O,bT st j (-1),Z,U,gr,A,nn,T,n_,V,E.set i zT,M.set n (dA s true d O ti 5 [(bL k st t.2.2.2.1).1])))
  else(true,(c,ti,O,bT st j (-1),Z,U,gr,A,nn,T,n_,V,E.set i zT,M.set n (dA s false d O ti 6 [])))
section
variable{k:Nat}(Q:9223372036854775808<=k)
include Q
variable{c:bh}{ti O gr nn:Int}{st:List ar}{Z:List bg}{U V:List ae}{A:List au}{T:List aJ}{n_:List br}{E:List aF}{M:List aC}
def QL{l:List ar}{s:List ai}:af ab (bL k l s).1<=af (.sl ah) l:=by
 have a:af ab cF=0:=by rw[bo Q];rfl
 unfold bL;split;rw[a];omega;rename_i b;obtain⟨_,_,c⟩:=mD (k:=k) (l:=l) (s:=s) b;have f:=dw (e:=ah) (d:=ah.aa) c;generalize l.getD (bz k l s).toNat ah.aa=p at f|-;have h3:=bY Q p;unfold fg;cases hc:fx p (cH k s)with
 |none=>dsimp only;rw[a];omega
 |some i=>
  obtain⟨h,_,_⟩:=aZ.1 hc;have h4:=dw (e:=ax) (d:=ax.aa) h;have h5:=cu Q (p.2.2.getD i ax.aa);dsimp only;cases g:fI (p.2.2.getD i ax.aa).2 s with
  |none=>dsimp only;rw[a];omega
  |some j=>
   obtain⟨m,_,_⟩:=aZ.1 g;have h6:=dw (e:=ab) (d:=ab.aa) m;dsimp only;omega
set_option maxHeartbeats 4000000 in
theorem HI{i n j:Nat}{t:aF}{d:aC}(hs:af az (c,ti,O,st,Z,U,gr,A,nn,T,n_,V,E,M)<=1048576)(b:i<E.length)(a:E.getD i ak.aa=t)(u:t.1=2)
 (p:j<st.length) (q:bz k st t.2.2.2.1=(j:Int)) (r:n<M.length) (f:bf t=(n:Int)) (g:M.getD n aw.aa=d) (h:t.2.1=0\/t.2.1=1):
 oz k ((c,ti,O,st,Z,U,gr,A,nn,T,n_,V,E,M),(i:Int),())=
  some ((mF true k (c,ti,O,st,Z,U,gr,A,nn,T,n_,V,E,M) i).1,(mF true k (c,ti,O,st,Z,U,gr,A,nn,T,n_,V,E,M) i).2,()):=by
 have hsum:=gG Q hs;have m:=dw (e:=ak) (d:=ak.aa) b;rw[a]at m;have hta:=bw Q t;have hfa:=QL Q (l:=st) (s:=t.2.2.2.1);simp only[oz,hX,a,cj];rw[an (aA b),nx Q (by omega),en,q];unfold mF;simp only[a,f,g,q,hX];rcases h with o|o;rw[o,an (by decide),pP Q b p,an rfl];unfold dZ;simp only[a,u];split<;>simp[bT];rw[o,a_ (by decide),a_ (by decide),ia Q (by omega) (by omega),en,an (aA p)];cases hb:(bL k st t.2.2.2.1).2 with
 |true=>
  have v:af (.sl ab) [(bL k st t.2.2.2.1).1]<=1073741824:=by
   rw[bS (e:=ab),aX (e:=ab)];omega
  rw[an rfl,an rfl,fj Q b r (by rw[a];exact f) v,en,g];rfl
 |false=>
  rw[a_ avi,a_ avi,fj Q b r (by rw[a];exact f) (by simp[af]),en,g];rfl
end
def lR(st:List ar)(t:aF)(j:Nat):aF:=
 (t.1,if j+1=st.length then 2 else 0,t.2.2.1,t.2.2.2.1,((j+1:Nat):Int),t.2.2.2.2.2.1++[(st.getD j ah.aa).2.1],t.2.2.2.2.2.2.1++aW (st.getD j ah.aa),t.2.2.2.2.2.2.2)
def qX(n:Int):aF:=(3,0,cF,[],0,[],[],0,n)
def fH(s:Bool)(k:Nat)(w:ag)(i:Nat):Bool×ag:=
 match w with
 |(c,ti,O,st,Z,U,gr,A,nn,T,n_,V,E,M)=>
  let t:=E.getD i ak.aa
  let n:=(bf t).toNat
  let j:=t.2.2.2.2.1.toNat
  let d:=M.getD n aw.aa
  if t.2.1=0 then dZ w i j
  else if t.2.1=1 then(true,(c,ti,O,bT st j (-1),Z,U,gr,A,nn,T,n_,V,E.set i (lR st t j),M))
  else if gC st t.2.2.2.2.2.1=true then(true,(c,ti,O,st,Z,U,gr,A,nn,T,n_,V,E.set i zT,M.set n (dA s true d O ti 8 (dE t.2.2.2.2.2.2.1))))
  else(true,(c,ti,O,st,Z,U,gr,A,nn,T,n_,V,E.set i (qX n),M))
section
variable{k:Nat}(Q:9223372036854775808<=k)
include Q
variable{c:bh}{ti O gr nn:Int}{st:List ar}{Z:List bg}{U V:List ae}{A:List au}{T:List aJ}{n_:List br}{E:List aF}{M:List aC}
end
def wV(s:Bool)(k:Nat)(w:ag)(i:Nat):Bool×ag:=
 match w with
 |(c,ti,O,st,Z,U,gr,A,nn,T,n_,V,E,M)=>
  if(E.getD i ak.aa).1=2 then mF s k w i else fH s k w i
def nW(s:Bool)(k:Nat)(w:ag)(i:Nat):Bool×ag:=bH (wV s k w i)
def Rz{r:Bool×ag}:(if r.1=true then some (r.1,(r.2.1,IntKind.i64.wrap (r.2.2.1+1),r.2.2.2),())else some (r.1,r.2,()))=some ((bH r).1,(bH r).2,()):=by
 obtain⟨b,w⟩:=r;cases b<;>rfl
section
variable{k:Nat}(Q:9223372036854775808<=k)
include Q
variable{c:bh}{ti O gr nn:Int}{st:List ar}{Z:List bg}{U V:List ae}{A:List au}{T:List aJ}{n_:List br}{E:List aF}{M:List aC}
set_option maxHeartbeats 8000000 in
def FO{i j:Nat}{t:aF}(hs:af az (c,ti,O,st,Z,U,gr,A,nn,T,n_,V,E,M)<=1048576)(b:i<E.length)(g:E.getD i ak.aa=t)
 (h:t.2.2.2.2.1=(j:Int)) (a:j<st.length):
 nK k ((c,ti,O,st,Z,U,gr,A,nn,T,n_,V,E,M),(i:Int),())=some ((c,ti,O,bT st j (-1),Z,U,gr,A,nn,T,n_,V,E.set i (lR st t j),M),()):=by
 have hsum:=gG Q hs;have f:=dw (e:=ak) (d:=ak.aa) b;rw[g]at f;have hstl:=ay (e:=ah) (l:=st);have hta:=bw Q t;have hsl:=ay (e:= .int .i64) (l:=t.2.2.2.2.2.1);have hgl:=ay (e:=ab) (l:=t.2.2.2.2.2.2.1);have hpj:=dw (e:=ah) (d:=ah.aa) a;have hai:=jT Q (st.getD j ah.aa);have hal:=ay (e:=ab) (l:=aW (st.getD j ah.aa));simp only[nK,hX,g,h,fu,cj,avj,aT _ _ b]
 rw[an (aA b),an (aA a),an (c_ (by simp only[au6];omega)),an (by simp),an (aA a),oX Q (by omega),en,
  an (c_ (by dsimp only;omega)),an (by simp),aV (by omega)]
 unfold lR;by_cases e:j+1=st.length;rw[an (c_ (by omega)),an (aA a),an e];rfl;rw[a_ (by simp;omega),an (aA a),a_ e];rfl
set_option maxHeartbeats 8000000 in
theorem DT{i n:Nat}{t:aF}{d:aC}(hs:af az (c,ti,O,st,Z,U,gr,A,nn,T,n_,V,E,M)<=1048576)(b:i<E.length)(f:E.getD i ak.aa=t)(hp:t.1=3)
 (g:t.2.2.2.2.2.1.length=st.length) (s:n<M.length) (j:bf t=(n:Int)) (r:M.getD n aw.aa=d) (m:t.2.1=2):
 mn k ((c,ti,O,st,Z,U,gr,A,nn,T,n_,V,E,M),(i:Int),())=
  some ((fH true k (c,ti,O,st,Z,U,gr,A,nn,T,n_,V,E,M) i).2,()):=by
 have hsum:=gG Q hs;have o:=dw (e:=ak) (d:=ak.aa) b;rw[f]at o;have hta:=bw Q t;have hstl:=ay (e:=ah) (l:=st);have hso:=tL t.2.2.2.2.2.2.1;have a:=j;unfold bf at a;unfold fH;simp only[f,j,r,m,hX];rw[a_ (show¬(2:Int)=0 by decide),a_ (show¬(2:Int)=1 by decide)];simp only[mn,hX,f,aN];rw[an (aA b)]
 refine(cU (fun q:Nat=>((c,ti,O,st,Z,U,gr,A,nn,T,n_,V,E,M),(i:Int),t,(q:Int),())) (fun q=>decide (t.2.2.2.2.2.1.getD q 0=(st.getD q ah.aa).2.1)) st.length
  (e:=some ((c,ti,O,st,Z,U,gr,A,nn,T,n_,V,E.set i zT,M.set n (dA true true d O ti 8 (dE t.2.2.2.2.2.2.1))),())) (no:=some ((c,ti,O,st,Z,U,gr,A,nn,T,n_,V,E.set i (qX n),M),())) ?_ ?_ k 0 (by omega) (by omega)).trans ?_
 intro G q p;dsimp only;rw[aH,c_ p,an rfl,an (aA p),an (aA (by omega)),an (aA b),hX,aV (by omega),fq];by_cases e:t.2.2.2.2.2.1.getD q 0=(st.getD q ah.aa).2.1;rw[c_ e,c_ e.symm];rfl;rw[decide_eq_false e,decide_eq_false (fun h=>e h.symm)];simp only[ava,if_true,hX];rw[a];rfl;intro G;simp only[aH,G7,decide_false,j_,if_false];rw[KI Q (by omega),en,fj Q b s (by rw[f];exact j) (by dsimp only;omega),en,r];rfl;unfold gC;rw[g];cases bA 0 st.length (fun q=>decide (t.2.2.2.2.2.1.getD q 0=(st.getD q ah.aa).2.1))<;>rfl
set_option maxHeartbeats 8000000 in
theorem uu{i n j:Nat}{t:aF}{d:aC}(hs:af az (c,ti,O,st,Z,U,gr,A,nn,T,n_,V,E,M)<=1048576)(e:i<E.length)(f:E.getD i ak.aa=t)(a:t.1=2\/t.1=3)
 (m:(t.1=2\/t.2.1≠2)->j<st.length) (g:if t.1=2 then bz k st t.2.2.2.1=(j:Int)else t.2.2.2.2.1=(j:Int)) (o:t.1=3->t.2.1=2->t.2.2.2.2.2.1.length=st.length) (q:n<M.length) (r:bf t=(n:Int)) (s:M.getD n aw.aa=d)
 (p:t.2.1=0\/t.2.1=1\/t.1=3/\t.2.1=2):
 ky k ((c,ti,O,st,Z,U,gr,A,nn,T,n_,V,E,M),(i:Int),())=
  some ((nW true k (c,ti,O,st,Z,U,gr,A,nn,T,n_,V,E,M) i).1,(nW true k (c,ti,O,st,Z,U,gr,A,nn,T,n_,V,E,M) i).2,()):=by
 unfold nW wV;simp only[ky,aN,hX,f];rw[an (aA e)];rcases a with a|a;rw[a,an (by decide),an rfl,HI Q hs e f a (m (.inl a)) (by rw[an a]at g;exact g) q r s (by omega),en];exact Rz;rw[a,a_ (by decide),a_ (show¬(3:Int)=2 by decide),an (aA e)];rw[a_ (by omega)]at g;rcases p with b|b|⟨_,b⟩;rw[b,an (by decide),an (aA e),g,pP Q e (m (.inr (by omega)))]
 have l:fH true k (c,ti,O,st,Z,U,gr,A,nn,T,n_,V,E,M) i=dZ (c,ti,O,st,Z,U,gr,A,nn,T,n_,V,E,M) i j:=by
  unfold fH;simp only[f,b,g,hX,if_true]
 rw[l];unfold dZ;simp only[f];by_cases h:(st.getD j ah.aa).1= -1;rw[an h,an h];rfl;rw[a_ h,a_ h];rfl;rw[b,a_ (by decide),an (aA e),an (by decide),FO Q hs e f g (m (.inr (by omega))),en]
 have l:fH true k (c,ti,O,st,Z,U,gr,A,nn,T,n_,V,E,M) i=(true,(c,ti,O,bT st j (-1),Z,U,gr,A,nn,T,n_,V,E.set i (lR st t j),M)):=by
  unfold fH;simp only[f,b,g,hX,if_true];rw[a_ (show¬(1:Int)=0 by decide)]
 rw[l];rfl;rw[b,a_ (by decide),an (aA e),a_ (by decide),DT Q hs e f a (o a b) q r s b,en]
 have l:(fH true k (c,ti,O,st,Z,U,gr,A,nn,T,n_,V,E,M) i).1=true:=by
  unfold fH;simp only[f,b];rw[a_ (show¬(2:Int)=0 by decide),a_ (show¬(2:Int)=1 by decide)];split<;>rfl
 unfold bH;rw[l];rfl
end
def fb(i j:Int)(got:List ae):aC:=(5,i,cF,[],j,0,8,got,0,0,0,0)
def qJ(s:Bool)(k:Nat)(w:ag)(i:Nat):Bool×ag:=
 match w with
 |(c,ti,O,st,Z,U,gr,A,nn,T,n_,V,E,M)=>
  let t:=E.getD i ak.aa
  let n:=(bf t).toNat
  let j:=t.2.2.2.2.1.toNat
  let d:=M.getD n aw.aa
  let p:=st.getD j ah.aa
  if t.2.1=0 then dZ w i j
  else(true,(c,ti,O,st.set j (-1,(dU p O).2),Z,U,gr,A,nn,T,n_,V,
   E.set i (if j+1=st.length then zT else(t.1,0,t.2.2.1,t.2.2.2.1,((j+1:Nat):Int),t.2.2.2.2.2)),
   if j+1=st.length then(M++[eT (fb i j (db O p.2.2)) O ti ti ti]).set n (dA s false d O ti 8 [])else M++[eT (fb i j (db O p.2.2)) O ti ti ti]))
def eF(s:Bool)(k:Nat)(w:ag)(i:Nat):Bool×ag:=bH (qJ s k w i)
section
variable{k:Nat}(Q:9223372036854775808<=k)
include Q
variable{c:bh}{ti O gr nn:Int}{st:List ar}{Z:List bg}{U V:List ae}{A:List au}{T:List aJ}{n_:List br}{E:List aF}{M:List aC}
def QX{O:Int}(l:List aP):af (.sl ab) (db O l)<=af (.sl ax) l:=
 kV Q (e:=ax) (f:=ab) (g:=fun c=>iV O c.2) (fun x=>by
  have h1:=cu Q x;have h2:=zB Q (O:=O) (l:=x.2);omega) l
set_option maxHeartbeats 8000000 in
theorem Cl{i n j:Nat}{t:aF}{d:aC}(hs:af az (c,ti,O,st,Z,U,gr,A,nn,T,n_,V,E,M)<=1048576)(a:i<E.length)(f:E.getD i ak.aa=t)(q:t.1=4)
 (m:t.2.2.2.2.1=(j:Int)) (b:j<st.length) (r:n<M.length) (o:bf t=(n:Int)) (p:M.getD n aw.aa=d) (g:t.2.1=0\/t.2.1=1):
 jI k ((c,ti,O,st,Z,U,gr,A,nn,T,n_,V,E,M),(i:Int),())=
  some ((eF true k (c,ti,O,st,Z,U,gr,A,nn,T,n_,V,E,M) i).1,(eF true k (c,ti,O,st,Z,U,gr,A,nn,T,n_,V,E,M) i).2,()):=by
 have hsum:=gG Q hs;have hdl:=ay (e:=aw) (l:=M);have hstl:=ay (e:=ah) (l:=st);have hpj:=dw (e:=ah) (d:=ah.aa) b;have hgl:=QX Q (O:=O) (st.getD j ah.aa).2.2;have hpp:=bY Q (st.getD j ah.aa);unfold eF qJ;simp only[f,o,p,m,hX];simp only[jI,hX,f,m,fu,aN,cj,fq];rw[an (aA a),an (aA a)];rcases g with h|h;rw[h,an (by decide),pP Q a b,an rfl];unfold dZ bH;simp only[f,q];split<;>simp[bT,tick];rw[h,a_ (by decide),an (aA b),FR Q (by omega),en,an (aA b),fB Q (by dsimp only;omega),en];dsimp only;rw[N1 Q (by omega),en];simp only[avj,aT _ _ a,aT _ _ b,ave,f];rw[a_ (show¬(1:Int)=0 by decide),an (aA a),an (aA a),aV (by omega)];by_cases e:j+1=st.length;rw[an (c_ (by omega)),an e,an e];rw[fj (n:=n) Q (by rw[ave];exact a) (by rw[avt,au6];omega) (by rw[aT _ _ a];exact o) (by simp[af]),en,sD _ _ r,p,avj];rfl;rw[a_ (by simp;omega),a_ e,a_ e];rfl
end
section
variable{k:Nat}(Q:9223372036854775808<=k)
include Q
theorem MC{b:List Int}(g:b.length<=1048576):Dr (mA k (b,())) (fun r=>aR r.1):=by
 simp only[mA];refine zp (fun s=>s.1=b) (fun s d=>bl ⟨by rw[d];exact g,by simp,by simp⟩) (fun J f=> ?_);refine vg (fun s=>b.length-s.2.2.1.toNat) (fun s=>s.1=b/\0<=s.2.2.1/\s.2.2.1<=(b.length:Int)) ?_ ⟨rfl,by simp,by simp⟩ (by simp only;omega);rintro G ⟨s,h,i,u⟩ ⟨e,h0,h1⟩ hG;change s=b at e;change 0<=i at h0;change i<=(b.length:Int)at h1;subst e;dsimp only;refine bm (fun hc=> ?_) (fun hc=>f _ rfl)
 have a:i<(s.length:Int):=by
  by_cases a:i<(s.length:Int);exact a;simp[a]at hc
 refine dO (by simp;omega) (hG _ ⟨rfl,?_,?_⟩ ?_)<;>(dsimp only;rw[wrap64 (by omega) (by omega)];omega)
theorem uy{c:aE}(hc:aR c):Dr (gU k (c,())) (fun r=>aR r.2.1/\0<=r.1/\r.1<=255):=by
 obtain⟨b,i,h⟩:=c;obtain⟨d,e,f⟩:=hc;dsimp only at d e f;simp only[gU];refine dO (by decide) (dO (by decide) ?_);refine bm (fun a=> ?_) (fun a=> ?_);have a:i<(b.length:Int):=by simpa using a
 refine dO (by simp;omega) (bl ⟨⟨d,?_,?_⟩,V1 _⟩)<;>(dsimp only;rw[wrap64 (by omega) (by omega)];omega)
 exact bl ⟨⟨d,e,f⟩,V1 _⟩
def aQ{c:aE}{n:Int}(hc:aR c):Dr (aL k (c,n,())) (fun r=>aR r.2.1/\0<=r.1/\(r.1<n\/r.1=0)):=by
 simp only[aL];refine bm (fun a=>bl ⟨hc,by simp,by simp⟩) (fun a=> ?_);have a:0<n:=by simpa using a
 refine bm (fun f=> ?_) (fun f=> ?_);refine aS (uy Q hc) (fun r b=>dO (by simp;omega) (bl ⟨b.1,?_,.inl ?_⟩));exact avL _ b.2.1;exact avC _ a;refine aS (uy Q hc) (fun r b=>aS (uy Q b.1) (fun g d=>aS (uy Q d.1) (fun r3 e=>dO (by simp;omega) (bl ⟨e.1,?_,.inl ?_⟩))));refine avL _ ?_;have h1:=b.2;have h2:=d.2;have h3:=e.2;rw[wrap64 (n:=r.1*65536) (by omega) (by omega),wrap64 (n:=g.1*256) (by omega) (by omega),wrap64 (n:=r.1*65536+g.1*256) (by omega) (by omega),wrap64 (by omega) (by omega)];omega;exact avC _ a
def gu{c:aE}{n:Int}(hc:aR c):Dr (cB k (c,n,())) (fun r=>aR r.2.1):=by
 simp only[cB];exact aS (aQ Q hc) (fun r a=>bl a.1)
def NS{c:aE}{l:List Int}(hc:aR c)(hl:0<l.length):Dr (bd k (c,l,())) (fun r=>aR r.2.1/\r.1∈l):=by
 simp only[bd];refine aS (aQ Q hc) (fun r a=>dO (by simp;omega) (bl ⟨a.1,?_⟩));exact cT (by omega)
def TD{c:aE}{l:List ByteArray}(hc:aR c)(hl:0<l.length):Dr (eS k (c,l,())) (fun r=>aR r.2.1/\r.1∈l):=by
 simp only[eS];refine aS (aQ Q hc) (fun r a=>dO (by simp;omega) (bl ⟨a.1,?_⟩));exact cT (by omega)
end
def Hp(l:List ae)(s:List ai):Option Nat:=gO l.length (fun i=>decide ((l.getD i ab.aa).1=s))
def ib(l:List ae)(s:List ai):Nat:=(gO l.length (fun i=>bI s (l.getD i ab.aa).1)).getD l.length
def gw(l:List ae)(a:ae):List ae:=
 match Hp l a.1 with
 |some i=>l.set i a
 |none=>l.take (ib l a.1)++[a]++l.drop (ib l a.1)
def im(g:au)(a:ae):au:=(g.1,g.2.1,g.2.2.1,g.2.2.2.1,gw g.2.2.2.2 a)
def MS{α:Type}(l:List ae)(s:List ai)(f:Nat->α):(match gO l.length (fun i=>bI s (l.getD i ab.aa).1)with|some i=>f i|none=>f l.length)=f (ib l s):=by
 unfold ib;cases gO l.length (fun i=>bI s (l.getD i ab.aa).1)<;>rfl
section
variable{k:Nat}(Q:9223372036854775808<=k)
include Q
def EK{l:List ae}{i:Nat}(h:af (.sl ab) l<=1073741824):cm k (l.take i,())=some (l.take i,()):=
 fB Q (by have:=cN (e:=ab) l i;omega)
def xW{l:List ae}{i:Nat}(h:af (.sl ab) l<=1073741824):cm k (l.drop i,())=some (l.drop i,()):=
 fB Q (by have:=cN (e:=ab) l i;omega)
def wH{g:au}{a:ae}(hg:af aj g<=1048576)(ha:af ab a<=1048576):lF k (g,a,())=some (im g a,()):=by
 have h1:=cn Q g;have h2:=ay (e:=ab) (l:=g.2.2.2.2);have h3:=bo Q a;have h4:=ay (e:=al) (l:=a.1);simp only[lF,aN];rw[xL Q (by omega),en,dh Q (by omega),en]
 refine(iZ (fun i:Nat=>(g,a,(0,([]:List ai),0,0,([]:List ae)),g,a,(i:Int),())) (fun i=>decide ((g.2.2.2.2.getD i ab.aa).1=a.1)) g.2.2.2.2.length
  (e:=some ((g.1,g.2.1,g.2.2.1,g.2.2.2.1,g.2.2.2.2.take (ib g.2.2.2.2 a.1)++[a]++g.2.2.2.2.drop (ib g.2.2.2.2 a.1)),())) (fun i=>some ((g.1,g.2.1,g.2.2.1,g.2.2.2.1,g.2.2.2.2.set i a),())) (fun G i b=> ?_) (fun G=> ?_) k (by omega)).trans ?_
 simp only[aH,aA b,b,decide_true,if_true,hX];rw[aV (by omega),dF Q (fo Q (by omega) b).2,en];simp only[aH,G7,decide_false,j_,if_false]
 refine(iZ (fun i:Nat=>(g,a,(0,([]:List ai),0,0,([]:List ae)),g,a,(i:Int),())) (fun i=>bI a.1 (g.2.2.2.2.getD i ab.aa).1) g.2.2.2.2.length
  (e:=some ((g.1,g.2.1,g.2.2.1,g.2.2.2.1,g.2.2.2.2.take g.2.2.2.2.length++[a]++g.2.2.2.2.drop g.2.2.2.2.length),())) (fun i=>some ((g.1,g.2.1,g.2.2.1,g.2.2.2.1,g.2.2.2.2.take i++[a]++g.2.2.2.2.drop i),())) (fun G i b=> ?_) (fun G=> ?_) k (by omega)).trans ?_
 simp only[aH,aA b,b,decide_true,if_true,hX,avd];rw[an (by simp),me Q (by omega),en];cases hq:bI a.1 (g.2.2.2.2.getD i ab.aa).1;simp only[ava,if_true,j_,if_false];rw[aV (by omega)];simp only[X',if_true,j_,if_false];rw[an (by simp;omega),EK Q (by omega),en,an (by simp;omega),an (by simp;omega),xW Q (by omega),en,an (by simp;omega)];simp only[aH,G7,decide_false,j_,if_false,hX];rw[an (by simp)];simp only[beq_iff_eq,j_,if_false,en];rw[an (by simp),EK Q (by omega),en,an (by simp;omega),an (by simp),xW Q (by omega),en,an (by simp;omega)];exact MS g.2.2.2.2 a.1 (fun i=>some ((g.1,g.2.1,g.2.2.1,g.2.2.2.1,g.2.2.2.2.take i++[a]++g.2.2.2.2.drop i),()));unfold im gw Hp;cases gO g.2.2.2.2.length (fun i=>decide ((g.2.2.2.2.getD i ab.aa).1=a.1))<;>rfl
theorem Rw{l:List ae}{a:ae}:af (.sl ab) (gw l a)<=af (.sl ab) l+af ab a+1:=by
 unfold gw;cases h:Hp l a.1 with
 |none=>
  dsimp only;rw[dP (e:=ab),dP (e:=ab),bS (e:=ab),aX];have:=cN (e:=ab) l (ib l a.1);omega
 |some i=>
  have b:=(aZ.1 h).1;have:=ij (e:=ab) l i a b;dsimp only;omega
def Hv{g:au}{a:ae}:af aj (im g a)<=af aj g+af ab a+1:=by
 have h1:=cn Q g;have b:=cn Q (im g a);have h3:=Rw Q (l:=g.2.2.2.2) (a:=a);unfold im at b|-;dsimp only at b;omega
def CW{a b:ae}{by_:List ByteArray}(f:af ab a<=1048576)(g:af ab b<=1048576)(d:by_.length<=1048576):mf k (a,b,by_,())=some (decide (keyOf a by_=keyOf b by_),()):=by
 have h1:=Bd Q a by_;have h2:=bo Q a;have h3:=ay (e:=al) (l:=a.1);simp only[mf];rw[jg Q f d,en,jg Q g d,en,dF Q (by dsimp only;omega),en]
theorem sQ(l m:List ai):af (.sl al) (l++m)=af (.sl al) l+af (.sl al) m:=dP (e:=al) l m
def jw(x:ai)(l:List ai):af (.sl al) (x::l)=1+(x.1.size+x.2.size)+af (.sl al) l:=by rw[bS (e:=al),mS Q]
theorem lf:af (.sl al) ([]:List ai)=0:=aX (e:=al)
theorem oY(l m:List ae):af (.sl ab) (l++m)=af (.sl ab) l+af (.sl ab) m:=dP (e:=ab) l m
theorem jE(x:ae)(l:List ae):af (.sl ab) (x::l)=1+af ab x+af (.sl ab) l:=bS (e:=ab) x l
theorem gb:af (.sl ab) ([]:List ae)=0:=aX (e:=ab)
def qw{c:aE}{l:List ByteArray}(n:Nat)(hc:aR c)(b:0<l.length)(hs:l.all (fun s=>decide (s.size<=n))=true):Dr (eS k (c,l,())) (fun r=>aR r.2.1/\r.1.size<=n):=
 Y9 (TD Q hc b) (fun r a=>⟨a.1,e_ (avw.1 hs _ a.2)⟩)
def Nn{c:aE}{l:List Int}(a b:Int)(hc:aR c)(e:0<l.length)(hs:l.all (fun s=>decide (a<=s/\s<=b))=true):Dr (bd k (c,l,())) (fun r=>aR r.2.1/\a<=r.1/\r.1<=b):=
 Y9 (NS Q hc e) (fun r d=>⟨d.1,e_ (avw.1 hs _ d.2)⟩)
def cQ{c:aE}{l:List Int}(hc:aR c)(b:0<l.length):Dr (bd k (c,l,())) (fun r=>aR r.2.1):=
 Y9 (NS Q hc b) (fun r a=>a.1)
def Fx{c:aE}(hc:aR c):Dr (kA k (c,())) (fun r=>aR r.2.1/\r.1.size<=13):=by
 simp only[kA];exact aS (qw Q 13 hc (by decide) (by decide)) (fun r a=>bl a)
def QC{c:aE}(hc:aR c):Dr (nG k (c,())) (fun r=>aR r.2.1/\r.1.size<=13):=by
 simp only[nG];exact aS (qw Q 13 hc (by decide) (by decide)) (fun r a=>bl a)
def zY{c:aE}(hc:aR c):Dr (iQ k (c,())) (fun r=>aR r.2.1/\r.1.size<=13):=by
 simp only[iQ];refine aS (gu Q hc) (fun r a=>bm (fun _=> ?_) (fun _=> ?_));exact aS (QC Q a) (fun r a=>bl a);exact aS (qw Q 13 a (by decide) (by decide)) (fun r a=>bl a)
def rB{c:aE}(hc:aR c):Dr (fD k (c,())) (fun r=>aR r.2.1/\r.1.size<=13):=by
 simp only[fD];refine aS (gu Q hc) (fun r a=>bm (fun _=> ?_) (fun _=> ?_));exact aS (Fx Q a) (fun r a=>bl a);exact aS (qw Q 13 a (by decide) (by decide)) (fun r a=>bl a)
def T5{c:aE}(hc:aR c):Dr (pX k (c,())) (fun r=>aR r.2.1):=by
 simp only[pX];exact aS (cQ Q hc (by decide)) (fun r a=>bl a)
def D6{c:aE}(hc:aR c):Dr (kq k (c,())) (fun r=>aR r.2.1):=by
 simp only[kq];refine aS (gu Q hc) (fun r a=>bm (fun _=> ?_) (fun _=> ?_));exact aS (T5 Q a) (fun r a=>bl a);exact aS (cQ Q a (by decide)) (fun r a=>bl a)
def VJ{c:aE}(hc:aR c):Dr (jN k (c,())) (fun r=>aR r.2.1/\r.1.length<=2/\af (.sl .str) r.1<=20):=by
 simp only[jN];refine aS (aQ Q hc) (fun r a=> ?_);refine bm (fun _=>bl ⟨a.1,by dsimp only;decide,by dsimp only;decide⟩) (fun _=>bm (fun _=>bl ⟨a.1,by dsimp only;decide,by dsimp only;decide⟩) (fun _=>bm (fun _=>bl ⟨a.1,by dsimp only;decide,by dsimp only;decide⟩) (fun _=>bl ⟨a.1,by dsimp only;decide,by dsimp only;decide⟩)))
def qV{c:aE}(hc:aR c):Dr (eB k (c,())) (fun r=>aR r.2.1/\0<r.1.length/\af (.sl al) r.1<=108):=by
 simp only[eB];refine aS (qw Q 13 hc (by decide) (by decide)) (fun r a=> ?_);refine vg (fun s=>3-s.2.2.2.2.1.toNat) (fun s=>aR s.1/\0<s.2.1.length/\(af (.sl al) s.2.1:Int)<=27+27*s.2.2.2.2.1/\s.2.2.1=[(⟨#[104,111,115,116]⟩:ByteArray),(⟨#[115,101,118]⟩:ByteArray),(⟨#[122,111,110,101]⟩:ByteArray)]/\s.2.2.2.1=3/\0<=s.2.2.2.2.1/\s.2.2.2.2.1<=3) ?_ ⟨a.1,by simp,?_,rfl,rfl,by simp,by simp⟩ (by simp only;omega);rintro G ⟨c,l,m,n,i,u⟩ ⟨h1,h2,h3,h4,h5,h6,h7⟩ hG;dsimp only at h1 h2 h3 h4 h5 h6 h7|-;subst h4;subst h5;have hl:=ay (e:=al) (l:=l);refine bm (fun d=> ?_) (fun d=>bl ⟨h1,h2,by dsimp only;omega⟩);have d:i<3:=by simpa using d
 have f:IntKind.i64.wrap (i+1)=i+1:=wrap64 (by omega) (by omega);rw[f];refine dO (by simp;omega) ?_;refine aS (gu Q h1) (fun r a=>bm (fun _=> ?_) (fun _=>hG _ ⟨a,h2,by dsimp only;omega,rfl,rfl,by dsimp only;omega,by dsimp only;omega⟩ (by dsimp only;omega)));refine aS (qw Q 13 a (by decide) (by decide)) (fun r2 b=>dO (by simp;omega) (hG _ ⟨b.1,by simp,?_,rfl,rfl,by dsimp only;omega,by dsimp only;omega⟩ (by dsimp only;omega)))
 have hb:([(⟨#[104,111,115,116]⟩:ByteArray),(⟨#[115,101,118]⟩:ByteArray),(⟨#[122,111,110,101]⟩:ByteArray)].getD i.toNat ByteArray.empty).size<=13:=
  e_ (avw.1 (show([(⟨#[104,111,115,116]⟩:ByteArray),(⟨#[115,101,118]⟩:ByteArray),(⟨#[122,111,110,101]⟩:ByteArray)].all (fun s=>decide (s.size<=13)))=true by decide) _ (cT (by simp;omega)))
 dsimp only;rw[sQ Q,jw Q,lf Q];have:=b.2;dsimp only;omega;rw[jw Q,lf Q];have h0:(⟨#[97,112,112]⟩:ByteArray).size=3:=by decide
 have:=a.2;dsimp only;omega
def Dl{c:aE}(hc:aR c):Dr (ko k (c,())) (fun r=>aR r.2.1/\af (.sl al) r.1<=220):=by
 simp only[ko];refine aS (qV Q hc) (fun f g=>aS (aQ Q g.1) (fun r2 a=> ?_));have hl:=ay (e:=al) (l:=f.1);obtain⟨_,n,ht⟩:=g;refine bm (fun _=> ?_) (fun _=> ?_);refine aS (zY Q a.1) (fun h b=>aS (rB Q b.1) (fun r4 j=>dO (by simp;omega) (bl ⟨j.1,?_⟩)));dsimp only;rw[sQ Q,jw Q,lf Q];have:=b.2;have:=j.2;dsimp only;omega;refine bm (fun _=> ?_) (fun _=> ?_);refine dO (by simp;omega) (bl ⟨a.1,?_⟩);dsimp only;rw[sQ Q,jw Q,lf Q];have o:(⟨#[122,122]⟩:ByteArray).size=2:=by decide
 have o:(⟨#[49]⟩:ByteArray).size=1:=by decide
 dsimp only;omega;refine bm (fun _=> ?_) (fun _=> ?_);refine dO (by simp;omega) (dO (by simp;omega) (bl ⟨a.1,?_⟩));have p:=cI (e:=al) (cT (l:=f.1) (i:=0) (d:=al.aa) n);rw[mS Q]at p;dsimp only;rw[sQ Q,jw Q,lf Q];simp only[show avu 0=0 from rfl];omega;refine bm (fun _=> ?_) (fun _=> ?_);refine dO (by simp;omega) (bl ⟨a.1,?_⟩);dsimp only;rw[sQ Q,jw Q,jw Q,jw Q,jw Q,lf Q];have e1:(⟨#[122,117]⟩:ByteArray).size=2:=by decide
 have e2:(⟨#[122,118]⟩:ByteArray).size=2:=by decide
 have e3:(⟨#[122,119]⟩:ByteArray).size=2:=by decide
 have e4:(⟨#[122,120]⟩:ByteArray).size=2:=by decide
 have e5:ByteArray.empty.size=0:=by decide
 dsimp only;omega;refine bm (fun _=> ?_) (fun _=> ?_);refine aS (rB Q a.1) (fun h b=>dO (by simp;omega) (bl ⟨b.1,?_⟩));have m:=ij (e:=al) f.1 0 ((f.1.getD 0 al.aa).1,h.1) n;rw[mS Q,mS Q]at m;have:=b.2;simp only[show avu 0=0 from rfl];dsimp only at m|-;omega;refine bm (fun _=>bl ⟨a.1,by dsimp only;rw[lf Q];omega⟩) (fun _=>bl ⟨a.1,by dsimp only;omega⟩)
def dY{c:aE}(hc:aR c):Dr (bJ k (c,())) (fun r=>aR r.2.1/\af ab r.1<=121):=by
 simp only[bJ];refine aS (qV Q hc) (fun r1 a=>aS (aQ Q a.1) (fun r2 d=>aS (Fx Q d.1) (fun r3 b=>aS (cQ Q b.1 (by decide)) (fun r4 e=>bl ⟨e,?_⟩))));dsimp only;rw[bo Q];have:=a.2;have:=b.2;dsimp only;omega
def mG{c:aE}(hc:aR c):Dr (dy k (c,())) (fun r=>aR r.2.1/\af ab r.1<=400):=by
 simp only[dy];refine aS (dY Q hc) (fun r1 e=>aS (aQ Q e.1) (fun r2 b=> ?_));have f:=e.2;rw[bo Q]at f;refine bm (fun _=> ?_) (fun _=> ?_);refine aS (Dl Q b.1) (fun d a=>bl ⟨a.1,?_⟩);dsimp only;rw[bo Q];have:=a.2;dsimp only;omega;refine bm (fun _=> ?_) (fun _=> ?_);refine aS (cQ Q b.1 (by decide)) (fun d a=>bl ⟨a,?_⟩);dsimp only;rw[bo Q];dsimp only;omega;refine bm (fun _=> ?_) (fun _=> ?_);refine aS (D6 Q b.1) (fun d a=>bl ⟨a,?_⟩);dsimp only;rw[bo Q];dsimp only;omega;refine bm (fun _=> ?_) (fun _=>bl ⟨b.1,by dsimp only;rw[bo Q];omega⟩);refine aS (rB Q b.1) (fun d a=>bl ⟨a.1,?_⟩);dsimp only;rw[bo Q];have:=a.2;dsimp only;omega
def QN{c:aE}{by_:List ByteArray}(hc:aR c)(n:by_.length<=1048576):Dr (ns k (c,by_,())) (fun r=>aR r.2.1/\af aj r.1<=2000):=by
 simp only[ns];refine aS (dY Q hc) (fun d l=>aS (aQ Q l.1) (fun r2 o=> ?_));have ha:=l.2;refine fc (jg Q (by omega) n) ?_;refine aS (aQ Q o.1) (fun r4 p=> ?_);refine zp (fun s=>aR s.1/\af aj s.2.2.2.1<=2000) (fun s f=> ?_) (fun J q=> ?_);refine aS (gu Q f.1) (fun r5 m=>bm (fun _=> ?_) (fun _=>bl ⟨m,f.2⟩));refine aS (aQ Q m) (fun r6 h6=>bl ⟨h6.1,?_⟩);have:=f.2;rw[cn Q]at this;dsimp only;rw[cn Q];exact this;refine aS (aQ Q p.1) (fun r7 h7=> ?_);obtain⟨h7,h8,h9⟩:=h7;refine vg (fun s=>s.2.2.2.2.2.1.toNat) (fun s=>aR s.1/\s.2.1=by_/\s.2.2.2.1=d.1/\(af aj s.2.2.2.2.1:Int)<=1300-130*s.2.2.2.2.2.1/\0<=s.2.2.2.2.2.1/\s.2.2.2.2.2.1<=7) ?_ ⟨h7,rfl,rfl,?_,h8,by dsimp only;omega⟩ (by dsimp only;omega);rintro G ⟨c,b,z,a,g,i,u⟩ ⟨g1,g2,g3,g4,g5,g6⟩ hG;dsimp only at g1 g2 g3 g4 g5 g6|-;subst g2;subst g3;refine bm (fun h=> ?_) (fun h=>q _ ⟨g1,by dsimp only;omega⟩);have h:0<i:=by simpa using h
 have t:IntKind.i64.wrap (i-1)=i-1:=wrap64 (by omega) (by omega);rw[t];refine aS (dY Q g1) (fun j nX=>fc (CW Q (by omega) (by have:=nX.2;omega) n) (bm (fun _=> ?_) (fun _=>hG _ ⟨nX.1,rfl,rfl,by dsimp only;omega,by dsimp only;omega,by dsimp only;omega⟩ (by dsimp only;omega))));have:=nX.2;refine fc (wH Q (by omega) (by omega)) (hG _ ⟨nX.1,rfl,rfl,?_,by dsimp only;omega,by dsimp only;omega⟩ (by dsimp only;omega));have:=Hv Q (g:=g) (a:=j.1);dsimp only;omega;dsimp only;rw[cn Q];dsimp only;rw[jE Q,gb Q];have xe:af (.sl al) (keyOf d.1 by_)<=af (.sl al) d.1.1:=vn (e:=al) _ _;have mE:=bo Q d.1;omega
def KH{c:aE}{by_:List ByteArray}(hc:aR c)(h:by_.length<=1048576):Dr (lG k (c,by_,())) (fun r=>aR r.2.1/\af aj r.1<=3000):=by
 simp only[lG];refine aS (QN Q hc h) (fun g f=>aS (aQ Q f.1) (fun r2 b=> ?_));have j:=f.2;rw[cn Q]at j;have hl:=ay (e:=ab) (l:=g.1.2.2.2.2);refine bm (fun _=>bl ⟨b.1,by dsimp only;rw[cn Q];dsimp only;omega⟩) (fun _=> ?_);refine bm (fun _=> ?_) (fun _=> ?_);refine aS (Dl Q b.1) (fun d a=>bl ⟨a.1,?_⟩);have:=a.2;dsimp only;rw[cn Q];dsimp only;omega;refine bm (fun _=> ?_) (fun _=> ?_);exact aS (D6 Q b.1) (fun d a=>bl ⟨a,by dsimp only;rw[cn Q];dsimp only;omega⟩);refine bm (fun _=> ?_) (fun _=> ?_);exact aS (cQ Q b.1 (by decide)) (fun d a=>bl ⟨a,by dsimp only;rw[cn Q];dsimp only;omega⟩);refine bm (fun _=> ?_) (fun _=> ?_);refine aS (mG Q b.1) (fun d a=>dO (by simp;omega) (bl ⟨a.1,?_⟩));have:=a.2;dsimp only;rw[cn Q];dsimp only;rw[oY Q,jE Q,gb Q];omega;refine bm (fun _=>bl ⟨b.1,?_⟩) (fun _=>bl ⟨b.1,by dsimp only;rw[cn Q];omega⟩);dsimp only;rw[cn Q];dsimp only;rw[gb Q];omega
def CB{c:aE}{l:List ae}(hc:aR c)(hl:af (.sl ab) l<=1048576):Dr (dD k (c,l,())) (fun r=>aR r.2.1/\af (.sl al) r.1<=af (.sl ab) l+108):=by
 simp only[dD];have hln:=ay (e:=ab) (l:=l)
 have pick:∀ {c:aE},aR c->0<l.length->Dr (avl (aL k (c,(l.length:Int),())) fun a=>
  if(decide (0<=a.1/\a.1<((avn l:Nat):Int)))=true then
   if(decide (avn ([]:List ai)+avn ((avv l (avu a.1) ab.aa).1)<4294967296))=true then
    some (([]:List ai)++((avv l (avu a.1) ab.aa).1),a.2.1,())
   else none
  else none) (fun r=>aR r.2.1/\af (.sl al) r.1<=af (.sl ab) l+108):=by
  intro c hc b;refine aS (aQ Q hc) (fun a j=>dO (by simp;omega) ?_);have m:a.1.toNat<l.length:=by omega
  have n:=cI (e:=ab) (cT (d:=ab.aa) m);rw[bo Q]at n;have h3:=ay (e:=al) (l:=(l.getD a.1.toNat ab.aa).1);refine dO (c_ (by simp only[avh];omega)) (bl ⟨j.1,?_⟩);dsimp only;rw[avp];omega
 have free:∀ {c:aE},aR c->Dr (avl (eB k (c,())) fun f=>some (f.1,f.2.1,())) (fun r=>aR r.2.1/\af (.sl al) r.1<=af (.sl ab) l+108):=
  fun hc=>aS (qV Q hc) (fun r h=>bl ⟨h.1,by have:=h.2;dsimp only;omega⟩)
 refine bm (fun b=> ?_) (fun b=> ?_);have b:0<l.length:=by simpa using b
 refine aS (gu Q hc) (fun r1 g=>bm (fun _=>pick g b) (fun _=>free g));refine bm (fun h=> ?_) (fun _=>free hc);have b:¬0<l.length:=by simpa using b
 simp[b]at h
end
def OD(p:Nat->Bool):Nat->Nat
 |0=>0
 |n+1=>OD p n+(if p n=true then 1 else 0)
theorem Wm(p:Nat->Bool):∀n,OD p n<=n
 |0=>avs _
 |n+1=>by
  have:=Wm p n;unfold OD;split<;>omega
section
variable{k:Nat}(Q:9223372036854775808<=k)
include Q
def BA{g h:au}(o:af aj g<=1048576):kS k (g,h,())=some (decide (g=h),()):=by
 rw[cn Q]at o;obtain⟨a,b,c,d,e⟩:=g;obtain⟨q,r,s,t,e'⟩:=h;dsimp only at o;have hb:=ay (e:=al) (l:=b);simp only[kS];by_cases p:a=q;subst p;rw[an (by simp),du Q (by omega),en];by_cases n:b=r/\c=s/\d=t;obtain⟨rfl,rfl,rfl⟩:=n;rw[an (by simp),ey Q (by omega),en];simp;rw[a_ (by simp;exact fun f j m=>n ⟨f,j,m⟩),en];simp;exact fun f j m=>absurd ⟨f,j,m⟩ n;simp[p]
def B7{g h:br}(m:af bM g<=1048576):kR k (g,h,())=some (decide (g=h),()):=by
 rw[px Q]at m;obtain⟨a,b,c,e⟩:=g;obtain⟨o,p,q,e'⟩:=h;dsimp only at m;have hb:=ay (e:=al) (l:=b);simp only[kR];by_cases n:a=o;subst n;rw[an (by simp),du Q (by omega),en];by_cases j:b=p/\c=q;obtain⟨rfl,rfl⟩:=j;rw[an (by simp),ey Q (by omega),en];simp;rw[a_ (by simp;exact fun d f=>j ⟨d,f⟩),en];simp;exact fun d f=>absurd ⟨d,f⟩ j;simp[n]
def rq{l:List ae}(b:af (.sl ab) l<=1048576):eI k (l,l,())=some (true,()):=by
 have h1:=ay (e:=ab) (l:=l);simp only[eI];rw[a_ (by simp)];refine(bG (fun i:Nat=>(l,l,(i:Int),())) l.length (e:=some (true,())) (fun G i a=> ?_) (fun G=> ?_) k 0 (by omega) (by omega));simp only[aH,aA a,a,decide_true,if_true,hX];rw[aV (by omega),ee Q (fo Q b a).2,en];simp;simp
end
def eR(l:List au)(key:List ai):Option Nat:=gO l.length (fun i=>decide ((l.getD i aj.aa).2.1=key))
def kK(l:List au)(a:ae)(by_:List ByteArray)(n O:Int):List au:=
 match eR l (keyOf a by_)with
 |some i=>l.set i (im (l.getD i aj.aa) a)
 |none=>l++[(n,keyOf a by_,O,-1,[a])]
section
variable{k:Nat}(Q:9223372036854775808<=k)
include Q
theorem NC(l m:List au):af (.sl aj) (l++m)=af (.sl aj) l+af (.sl aj) m:=dP (e:=aj) l m
theorem Ky(x:au)(l:List au):af (.sl aj) (x::l)=1+af aj x+af (.sl aj) l:=bS (e:=aj) x l
theorem DL:af (.sl aj) ([]:List au)=0:=aX (e:=aj)
def jA{l:List au}{key:List ai}(h:af (.sl aj) l<=1048576):fh k (l,key,())=some (eZ (eR l key),()):=by
 have h2:=ay (e:=aj) (l:=l);simp only[fh];refine(iZ (fun i:Nat=>(l,key,(i:Int),())) (fun i=>decide ((l.getD i aj.aa).2.1=key)) l.length (e:=some (-1,())) (fun i=>some ((i:Int),())) (fun G i a=> ?_) (fun G=> ?_) k (by omega)).trans ?_;simp only[aH,aA a,a,decide_true,if_true,hX];rw[aV (by omega),dF Q (nV Q h a).2,en];simp;unfold eR;cases gO l.length (fun i=>decide ((l.getD i aj.aa).2.1=key))<;>rfl
def qd{l:List au}{a:ae}{by_:List ByteArray}{n O:Int}(b:af (.sl aj) l<=1048576)(f:af ab a<=1048576)(g:by_.length<=1048576):
 ku k (l,a,by_,n,O,())=some (kK l a by_ n O,(eR l (keyOf a by_)).isNone,()):=by
 have h2:=ay (e:=aj) (l:=l);simp only[ku];rw[pJ Q (by omega),en,jg Q f g,en];unfold kK;cases h:eR l (keyOf a by_)with
 |none=>
  have e:fh k (l,keyOf a by_,())=some (-1,()):=by rw[jA Q b,h];rfl
  rw[e,en,a_ (by decide),dh Q (by omega),en,an (by simp;omega)];rfl
 |some i=>
  have d:=(aZ.1 h).1;have e:fh k (l,keyOf a by_,())=some ((i:Int),()):=by rw[jA Q b,h];rfl
  rw[e,en,an (by simp),an (aA d)];simp only[hX];rw[wH Q (nV Q b d).1 f,en,an (aA d)];rfl
def SA(a:ae)(by_:List ByteArray):af (.sl al) (keyOf a by_)<=af ab a:=by
 have xe:af (.sl al) (keyOf a by_)<=af (.sl al) a.1:=vn (e:=al) _ _;have mE:=bo Q a;omega
def zm{l:List au}{a:ae}{by_:List ByteArray}{n O:Int}:af (.sl aj) (kK l a by_ n O)<=af (.sl aj) l+2*af ab a+2:=by
 unfold kK;cases h:eR l (keyOf a by_)with
 |none=>
  dsimp only;have b:=SA Q a by_;rw[NC Q,Ky Q,DL Q,cn Q];dsimp only;rw[jE Q,gb Q];omega
 |some i=>
  have d:=(aZ.1 h).1;have b:=ij (e:=aj) l i (im (l.getD i aj.aa) a) d;have h2:=Hv Q (g:=l.getD i aj.aa) (a:=a);dsimp only;omega
def QJ{c:aE}{by_:List ByteArray}(hc:aR c)(m:by_.length<=1048576):Dr (nz k (c,by_,())) (fun r=>aR r.2.1/\af (.sl aj) r.1<=1600):=by
 simp only[nz];refine aS (aQ Q hc) (fun r1 d=> ?_);obtain⟨d,p,h3⟩:=d;refine vg (fun s=>s.2.2.2.2.1.toNat) (fun s=>aR s.1/\s.2.1=by_/\(af (.sl aj) s.2.2.1:Int)<=1500-250*s.2.2.2.2.1/\0<=s.2.2.2.2.1/\s.2.2.2.2.1<=6) ?_ ⟨d,rfl,by dsimp only;rw[DL Q];omega,p,by dsimp only;omega⟩ (by dsimp only;omega);rintro G ⟨c,b,l,n,i,u⟩ ⟨g1,g2,g3,g4,g5⟩ hG;dsimp only at g1 g2 g3 g4 g5|-;subst g2;refine bm (fun e=> ?_) (fun e=>bl ⟨g1,by dsimp only;omega⟩);have e:0<i:=by simpa using e
 have o:IntKind.i64.wrap (i-1)=i-1:=wrap64 (by omega) (by omega);rw[o];refine aS (dY Q g1) (fun h f=>aS (aQ Q f.1) (fun j g=> ?_));have h44:=f.2;have hj:=zm Q (l:=l) (a:=h.1) (by_:=b) (n:=n) (O:=j.1);refine fc (qd Q (by omega) (by omega) m) (bm (fun _=> ?_) (fun _=> ?_));exact aS (aQ Q g.1) (fun r7 h7=>hG _ ⟨h7.1,rfl,by dsimp only;omega,by dsimp only;omega,by dsimp only;omega⟩ (by dsimp only;omega));exact hG _ ⟨g.1,rfl,by dsimp only;omega,by dsimp only;omega,by dsimp only;omega⟩ (by dsimp only;omega)
def RS{c:aE}{by_:List ByteArray}(hc:aR c)(g:by_.length<=1048576):Dr (oA k (c,by_,())) (fun r=>aR r.2.1/\af (.sl aj) r.1<=5000):=by
 simp only[oA];refine aS (QJ Q hc g) (fun d h=>aS (aQ Q h.1) (fun r2 b=> ?_));have xe:=h.2;have hl:=ay (e:=aj) (l:=d.1);refine bm (fun _=> ?_) (fun _=> ?_);refine aS (KH Q b.1 g) (fun j a=>dO (by simp;omega) (bl ⟨a.1,?_⟩));have:=a.2;dsimp only;rw[NC Q,Ky Q,DL Q];omega;refine bm (fun _=>bm (fun f=> ?_) (fun _=>bl ⟨b.1,by dsimp only;omega⟩)) (fun _=>bl ⟨b.1,by dsimp only;omega⟩);have f:0<d.1.length:=by simpa using f
 refine aS (KH Q b.1 g) (fun j a=>dO (by simp;omega) (bl ⟨a.1,?_⟩));have Wn:=a.2;have hs:=ij (e:=aj) d.1 0 j.1 f;simp only[show avu 0=0 from rfl];omega
def HF{l:List au}(b:af (.sl aj) l<=1048576):jL k (l,l,())=some (true,()):=by
 have h1:=ay (e:=aj) (l:=l);simp only[jL];rw[a_ (by simp)];refine(bG (fun i:Nat=>(l,l,(i:Int),())) l.length (e:=some (true,())) (fun G i a=> ?_) (fun G=> ?_) k 0 (by omega) (by omega));simp only[aH,aA a,a,decide_true,if_true,hX];rw[aV (by omega),BA Q (nV Q b a).1,en];simp;simp
end
def ou(d:aC)(n:Int):aC:=(d.1,d.2.1,d.2.2.1,d.2.2.2.1,d.2.2.2.2.1,n,d.2.2.2.2.2.2)
def gL(w:ag)(i:Nat):Bool×ag:=
 match w with
 |(c,ti,O,st,Z,U,gr,A,nn,T,n_,V,E,M)=>
  if gr= -1 then(true,(c,ti,O,st,Z,U,(i:Int),A,nn,T,n_,V,E.set i ((E.getD i ak.aa).1,1,(E.getD i ak.aa).2.2),M))else(false,w)
def tK(a:ae)(h:Int):aF:=(5,0,a,[],0,[],[],0,h)
def AU(a:ae)(O ti:Int):aC:=(7,3,a,[],0,0,0,[],O,ti,-1,-1)
def mB(c:bh)(a:ae)(nn O:Int):au:=(nn,keyOf a c.2.2.2.2.2,O,-1,[a])
def gH(s:Bool)(k:Nat)(w:ag):Bool×ag:=
 match w with
 |(c,ti,O,st,Z,U,gr,A,nn,T,n_,V,E,M)=>
  let t:=E.getD 3 ak.aa
  let n:=(bf t).toNat
  let d:=M.getD n aw.aa
  if t.1=0 then
   (if U.length=0 then(false,w)
    else(true,(c,ti,O,st,Z,U.drop 1,gr,A,nn,T,n_,V,E.set 3 (tK (U.getD 0 ab.aa) M.length),M++[AU (U.getD 0 ab.aa) O ti])))
  else if t.2.1=0 then gL w 3
  else match eR A (keyOf t.2.2.1 c.2.2.2.2.2)with
   |none=>
    if 12<=A.length then(true,(c,ti,O,st,Z,U,-1,A,nn,T,n_,V,E.set 3 zT,M.set n (dA s false d O ti 3 [])))
    else(true,(c,ti,O,st,Z,U,-1,A++[mB c t.2.2.1 nn O],IntKind.i64.wrap (nn+1),vf T (iq c (mB c t.2.2.1 nn O),nn),n_,V,E.set 3 zT,M.set n (dA s false (ou d nn) O ti 1 [])))
   |some i=>(true,(c,ti,O,st,Z,U,-1,A.set i (im (A.getD i aj.aa) t.2.2.1),nn,T,n_,V,E.set 3 zT,M.set n (dA s false (ou d (A.getD i aj.aa).1) O ti 2 [])))
def eW(s:Bool)(k:Nat)(w:ag):Bool×ag:=bH (gH s k w)
def Q1{l:List au}{g:au}{key:List ai}(h:eR l key=none)(b:g.2.1=key):eR (l++[g]) key=some l.length:=by
 unfold eR at h|-;have d:=iR.1 h;refine aZ.2 ⟨by simp,?_,fun j a=> ?_⟩;rw[au4,avk (avs _)];simpa using b;rw[sD _ _ a];exact d j a
def Q2{l:List au}{g:au}{key:List ai}{i:Nat}(h:eR l key=some i)(d:g.2.1=key):eR (l.set i g) key=some i:=by
 unfold eR at h|-;obtain⟨a,h2,e⟩:=aZ.1 h;refine aZ.2 ⟨by simpa using a,?_,fun j b=> ?_⟩;rw[aT _ _ a];simpa using d;rw[au4,List.getElem?_set_ne (by omega),<-au4];exact e j b
def R7{l:List au}{g:au}{n:Int}(h:∀i,i<l.length->(l.getD i aj.aa).1≠n)(b:g.1=n):eM (l++[g]) n=some l.length:=by
 unfold eM;refine aZ.2 ⟨by simp,?_,fun j a=> ?_⟩;rw[au4,avk (avs _)];simpa using b;rw[sD _ _ a];exact decide_eq_false (h j a)
def Mz{α:Type}(l:List α)(x d:α):(l++[x]).getD l.length d=x:=by
 rw[au4,avk (avs _)];simp
section
variable{c:bh}{ti O gr nn:Int}{st:List ar}{Z:List bg}{U V:List ae}{A:List au}{T:List aJ}{n_:List br}{E:List aF}{M:List aC}{i:Nat}
def Ht(h:gr= -1):gL (c,ti,O,st,Z,U,gr,A,nn,T,n_,V,E,M) i=(true,(c,ti,O,st,Z,U,(i:Int),A,nn,T,n_,V,E.set i ((E.getD i ak.aa).1,1,(E.getD i ak.aa).2.2),M)):=an h
def MD(h:¬gr= -1):gL (c,ti,O,st,Z,U,gr,A,nn,T,n_,V,E,M) i=(false,(c,ti,O,st,Z,U,gr,A,nn,T,n_,V,E,M)):=a_ h
end
section
variable{k:Nat}(Q:9223372036854775808<=k)
include Q
variable{c:bh}{ti O gr nn:Int}{st:List ar}{Z:List bg}{U V:List ae}{A:List au}{T:List aJ}{n_:List br}{E:List aF}{M:List aC}
end
end Vg.Tryz
