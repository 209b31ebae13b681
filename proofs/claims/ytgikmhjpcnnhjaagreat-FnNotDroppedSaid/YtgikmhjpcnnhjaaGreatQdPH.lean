/- Texts of this law, joined. -/
import Derived.Test.YtgikmhjpcnnhjaaGreatQdE1
import Derived.Test.YtgikmhjpcnnhjaaGreatXd
set_option linter.unusedSimpArgs false
set_option linter.unusedVariables false
set_option linter.unusedSectionVars false
set_option linter.defProp false
open Option renaming bind_some -> cz,bind -> au3
open Int renaming toNat_natCast -> ec,toNat -> au1,tmod_lt_of_pos -> avk,tmod_nonneg -> avn
open Bool renaming false_eq_true -> eG,eq_false_or_eq_true -> T_,and_eq_true -> auN,not_false -> auO,eq_iff_iff -> auP,not_true -> auQ,or_true -> auR,true_and -> auV,false_ne_true -> auY,false_and -> au8,decide_and -> au9,and_false -> avc,and_true -> ave,true_or -> avg
open List renaming getD_eq_getElem?_getD -> auJ,length_singleton -> T',length_set -> auS,take_length -> auT,length_append -> auU,replicate -> auW,set_set -> auX,nil_append -> auZ,take_succ_eq_append_getElem -> au0,getElem?_append_right -> au2,getElem?_eq_getElem -> au5,all_eq_true -> au6,length_nil -> au7,getD -> ava,length -> avb,length_filter_le -> avd,filter_append -> avh,map_singleton -> avi,filter_cons -> avl,map_append -> avm
open Nat renaming lt_irrefl -> v_,le_trans -> P_,le_refl -> au4,eq_zero_or_pos -> avj
open Prod.mk renaming injEq -> avf
namespace Vg.Tryz
open Go Vg
def tR{β:Type}{c:Bool}{a b:β}(h:c=false):(if c=true then a else b)=b:=by rw[h];rfl
def Rx{a b:Nat}(h:a+b<4611686018427387904):IntKind.i64.wrap ((a:Int)+(b:Int))=((a+b:Nat):Int):=by
 rw[wrap64 (by omega) (by omega)];omega
def FH(u:Int):decide (0<=u)= !decide (u<0):=by by_cases h:u<0<;>simp[h]<;>omega
def Cs{q:Nat}(h:q<4611686018427387904):IntKind.i64.wrap (Int.tdiv (IntKind.i64.wrap (((q+1:Nat):Int)-1)) 2)=((q/2:Nat):Int):=by
 rw[II h,Int.tdiv_eq_ediv_of_nonneg (by omega),wrap64 (by omega) (by omega)];omega
section
variable{k:Nat}(hk:9223372036854775808<=k)
include hk
def zn{l:List au}(hs:ai (.sl aj) l<=1048576):cF k (l,())=some (dC (bO l),()):=by
 have hl:=az (e:=aj) (l:=l);simp only[cF,aN];refine bX (fun i:Nat=>(l,(l.take i).flatMap aS,(i:Int),())) l.length (fun G i a=> ?_) (fun G=> ?_) k 0 (by omega) (by omega);have d:=kh hk hs a;have b:=gA hk (l.take i);unfold bO at b;have hb1:=kF hk (l.getD i aj.aa);have hb2:=cB (e:=aj) l i;have hb3:=az (e:=ae) (l:=(l.take i).flatMap aS);have hb4:=az (e:=ae) (l:=aS (l.getD i aj.aa));simp only[aK,aC a,a,decide_true,if_true,ec];rw[qI hk d,cz,an (by simp only[b_];omega),aX (by omega),dK aj.aa a];have b:=gA hk l;simp only[aK,v_,decide_false,eG,if_false,auT];show au3 (iC k (bO l,())) _=_;rw[GB hk (by omega)];rfl
def zi{l:List au}(hs:ai (.sl aj) l<=1048576)(d:bu l<20):jT k (l,())=some (dC (bO l),()):=by
 have hl:=az (e:=aj) (l:=l);simp only[jT,aN];refine bX (fun i:Nat=>((l.take i).flatMap aS,l,(l.length:Int),(i:Int),())) l.length (fun G i b=> ?_) (fun G=> ?_) k 0 (by omega) (by omega);have f:=kh hk hs b;have g:=gA hk (l.take i);unfold bO at g;have hb1:=kF hk (l.getD i aj.aa);have hb2:=cB (e:=aj) l i;have hb3:=az (e:=ae) (l:=(l.take i).flatMap aS);have hb4:=az (e:=ae) (l:=aS (l.getD i aj.aa));simp only[aK,aC b,b,decide_true,if_true,ec];rw[px hk f,cz,an (by simp only[b_];omega),aX (by omega),dK aj.aa b];simp only[aK,v_,decide_false,eG,if_false,auT];show au3 (iR k (bO l,())) _=_;simp only[iR,Rh,ID];rw[an ?_];rfl;simp only[auN,b_,au6];refine⟨by first|exact d|exact Nat.lt_trans d (by decide),fun a h=> ?_⟩;have g:=gA hk l;have hm:=cx (e:=ae) h;have f:=bj hk a;have h2:=az (e:=ak) (l:=a.1);omega
def OO{l:List au}(hs:ai (.sl aj) l<=1048576):bu l<=1048576:=by
 have h1:=gA hk l;have h2:=az (e:=ae) (l:=bO l);unfold bu;omega
def C6{l:List au}(hs:ai (.sl aj) l<=1048576):l0 k (l,())=some ((bu l:Int),()):=by
 have hl:=az (e:=aj) (l:=l);simp only[l0];refine bX (fun i:Nat=>(l,((((l.take i).flatMap aS).length:Nat):Int),(i:Int),())) l.length (fun G i a=> ?_) (fun G=> ?_) k 0 (by omega) (by omega);have d:=kh hk hs a;have m:=gA hk (l.take i);unfold bO at m;have hb2:=cB (e:=aj) l i;have hb3:=az (e:=ae) (l:=(l.take i).flatMap aS);rw[dK aj.aa a,auU];simp only[aK,a,decide_true,if_true];have n:=d;rw[dj hk]at n;have hpl:=az (e:=ax) (l:=(l.getD i aj.aa).2.2);refine bX (fun j:Nat=>(l,((((l.take i).flatMap aS).length+(((l.getD i aj.aa).2.2.take j).flatMap jv).length:Nat):Int),(i:Int),(j:Int),())) (l.getD i aj.aa).2.2.length (fun h j b=> ?_) (fun h=> ?_) k 0 (by omega) (by omega);have hc:=jS hk (e:=ax) (f:=ae) (g:=jv) (fun c=>by rw[df hk];exact au4 _) ((l.getD i aj.aa).2.2.take j);have hc1:=cB (e:=ax) (l.getD i aj.aa).2.2 j;have hc2:=az (e:=ae) (l:=((l.getD i aj.aa).2.2.take j).flatMap jv);obtain⟨h3,h4⟩:=ga hk d b;have hc3:=az (e:=ae) (l:=((l.getD i aj.aa).2.2.getD j ax.aa).2);simp only[aC a,aC b,aK,b,decide_true,if_true,ec];rw[Rx (by omega),aX (by omega),dK ax.aa b,auU,Nat.add_assoc];simp only[aC a,aK,v_,decide_false,eG,if_false,if_true,ec,auT];rw[aX (by omega)];rfl;simp only[aK,v_,decide_false,eG,if_false,auT];rfl
def vr{l:List au}(hs:ai (.sl aj) l<=1048576):j9 k (l,())=some ((bu l:Int),()):=by
 have hl:=az (e:=aj) (l:=l);simp only[j9];refine bX (fun i:Nat=>(((((l.take i).flatMap aS).length:Nat):Int),l,(l.length:Int),(i:Int),())) l.length (fun G i a=> ?_) (fun G=> ?_) k 0 (by omega) (by omega);have d:=kh hk hs a;have m:=gA hk (l.take i);unfold bO at m;have hb2:=cB (e:=aj) l i;have hb3:=az (e:=ae) (l:=(l.take i).flatMap aS);rw[dK aj.aa a,auU];simp only[aK,aC a,a,decide_true,if_true,ec];have n:=d;rw[dj hk]at n;have hpl:=az (e:=ax) (l:=(l.getD i aj.aa).2.2);refine bX (fun j:Nat=>(((((l.take i).flatMap aS).length+(((l.getD i aj.aa).2.2.take j).flatMap jv).length:Nat):Int),l.getD i aj.aa,l,(l.length:Int),(i:Int),(l.getD i aj.aa).2.2,((l.getD i aj.aa).2.2.length:Int),(j:Int),())) (l.getD i aj.aa).2.2.length (fun h j b=> ?_) (fun h=> ?_) k 0 (by omega) (by omega);have hc:=jS hk (e:=ax) (f:=ae) (g:=jv) (fun c=>by rw[df hk];exact au4 _) ((l.getD i aj.aa).2.2.take j);have hc1:=cB (e:=ax) (l.getD i aj.aa).2.2 j;have hc2:=az (e:=ae) (l:=((l.getD i aj.aa).2.2.take j).flatMap jv);obtain⟨h3,h4⟩:=ga hk d b;have hc3:=az (e:=ae) (l:=((l.getD i aj.aa).2.2.getD j ax.aa).2);simp only[aC b,aK,b,decide_true,if_true,ec];rw[Rx (by omega),aX (by omega),dK ax.aa b,auU,Nat.add_assoc];simp only[aK,v_,decide_false,eG,if_false,auT];rw[aX (by omega)];rfl;simp only[aK,v_,decide_false,eG,if_false,auT];rfl
theorem np{p:au}{f:Int}(hl:p.2.2.length<=1048576):iY k (p,f,())=some (dB (eY p f),()):=by
 simp only[iY];refine(fY (fun i:Nat=>(f,p,(i:Int),())) (fun i=>decide ((p.2.2.getD i ax.aa).1=f)) p.2.2.length (e:=some (-1,())) (fun i=>some ((i:Int),())) (fun G i a=> ?_) (fun G=> ?_) k (by omega)).trans ?_;simp only[aK,aC a,a,decide_true,if_true,ec,cE];rw[aX (by omega)];simp;unfold eY;cases fv p.2.2.length (fun i=>decide ((p.2.2.getD i ax.aa).1=f))<;>rfl
theorem vU{p:au}{f:Int}(hl:p.2.2.length<=1048576):jy k (p,f,())=some (dB (eY p f),()):=by
 simp only[jy];refine(fY (fun i:Nat=>(f,p,p.2.2,(p.2.2.length:Int),(i:Int),())) (fun i=>decide ((p.2.2.getD i ax.aa).1=f)) p.2.2.length (e:=some (-1,())) (fun i=>some ((i:Int),())) (fun G i a=> ?_) (fun G=> ?_) k (by omega)).trans ?_;simp only[aK,aC a,a,decide_true,if_true,ec,cE];rw[aX (by omega)];simp;unfold eY;cases fv p.2.2.length (fun i=>decide ((p.2.2.getD i ax.aa).1=f))<;>rfl
omit hk in
theorem sI(i:Nat):decide (dB (some i)<0)=false:=decide_eq_false (by simp only[dB];omega)
omit hk in
theorem qj{i n:Nat}(h:i<n):decide (0<=dB (some i)/\dB (some i)<(n:Int))=true:=by simp only[dB];exact aC h
omit hk in
theorem vz(i:Nat):(dB (some i)).toNat=i:=by simp[dB]
def EP{p:au}{s:List ag}(hs:ai aj p<=1048576)(g:ai (.sl ak) s<=1048576):mC k (p,s,())=some ((eR k p s).1,(eR k p s).2,()):=by
 have a:p.2.2.length<=1048576:=by rw[dj hk]at hs;have:=az (e:=ax) (l:=p.2.2);omega
 simp only[mC,oz hk g,np hk a,cz,eR];cases hc:eY p (cn k s)with
 |none=>rfl
 |some i=>
  obtain⟨b,_,_⟩:=aR.1 hc;obtain⟨h1,m⟩:=ga hk hs b;refine(tR (sI i)).trans ?_;refine(an (qj b)).trans ?_;rw[vz,nW hk m,cz];dsimp only;cases h:eU (p.2.2.getD i ax.aa).2 s with
  |none=>rfl
  |some j=>
   obtain⟨f,_,_⟩:=aR.1 h;have h3:=dq (e:=ae) (d:=ae.aa) f;refine(tR (sI j)).trans ?_;refine(an (qj b)).trans ?_;refine(an (qj f)).trans ?_;rw[vz,cR hk (by omega)];rfl
def Eg{p:au}{s:List ag}(hs:ai aj p<=1048576)(g:ai (.sl ak) s<=1048576):mA k (p,s,())=some ((eR k p s).1,(eR k p s).2,()):=by
 have a:p.2.2.length<=1048576:=by rw[dj hk]at hs;have:=az (e:=ax) (l:=p.2.2);omega
 simp only[mA,gG hk g,vU hk a,cz,eR];cases hc:eY p (cn k s)with
 |none=>rfl
 |some i=>
  obtain⟨b,_,_⟩:=aR.1 hc;obtain⟨h1,m⟩:=ga hk hs b;refine(tR (sI i)).trans ?_;refine(an (qj b)).trans ?_;rw[vz,vD hk m,cz];dsimp only;cases h:eU (p.2.2.getD i ax.aa).2 s with
  |none=>rfl
  |some j=>
   obtain⟨f,_,_⟩:=aR.1 h;have h3:=dq (e:=ae) (d:=ae.aa) f;refine(tR (sI j)).trans ?_;refine(an (qj b)).trans ?_;refine(an (qj f)).trans ?_;rw[vz,gY hk (by omega)];rfl
def lK{l:List au}{s:List ag}(a:ai (.sl ak) s<=1048576):gg k (l,s,())=some (bg k l s,()):=by
 simp only[gg,oz hk a,uf hk,cz,bg]
def Ah{l:List au}{s:List ag}(a:ai (.sl ak) s<=1048576):mb k (l,s,())=some (bg k l s,()):=by
 simp only[mb,gG hk a,kX hk,cz,bg]
omit hk in
theorem kV{l:List au}{s:List ag}(h:l.length≠0):0<=bg k l s/\bg k l s<(l.length:Int)/\(bg k l s).toNat<l.length:=by
 have:=xB (f:=cn k s) (n:=(l.length:Int)) (by omega);unfold bg;omega
def jk{l:List au}{s:List ag}(hs:ai (.sl aj) l<=1048576)(e:ai (.sl ak) s<=1048576):fE k (l,s,())=some ((bD k l s).1,(bD k l s).2,()):=by
 simp only[fE,lK hk e,cz,bD];by_cases d:l.length=0;rw[an (by simpa using d),an d];rfl;obtain⟨a,b,c⟩:=kV (k:=k) (l:=l) (s:=s) d;rw[a_ (by simpa using d),an (by simpa using⟨a,b⟩),EP hk (kh hk hs c) e,cz,a_ d]
def oq{l:List au}{s:List ag}(hs:ai (.sl aj) l<=1048576)(e:ai (.sl ak) s<=1048576):gO k (l,s,())=some ((bD k l s).1,(bD k l s).2,()):=by
 simp only[gO,Ah hk e,cz,bD];by_cases d:l.length=0;rw[an (by simpa using d),an d];rfl;obtain⟨a,b,c⟩:=kV (k:=k) (l:=l) (s:=s) d;rw[a_ (by simpa using d),an (by simpa using⟨a,b⟩),Eg hk (kh hk hs c) e,cz,a_ d]
theorem uj(a b:aF):ko k (a,b,())=some (bw a b,()):=by
 simp only[ko,bw,cE];by_cases d:a.1<b.1<;>by_cases e:a.1=b.1<;>simp[d,e]
theorem jo(a b:aF):iB k (a,b,())=some (bw a b,()):=by
 simp only[iB,bw,cE];by_cases d:a.1<b.1<;>by_cases e:a.1=b.1<;>simp[d,e]
def Ga{l:List aF}(hl:l.length<=1048576):mu k (l,())=some (lj l,()):=by
 simp only[mu,aN]
 refine(dt (fun i:Nat=>(l,l,(l.length:Int),(i:Int),())) (fun i=>(decide (0<=(l.getD i aE.aa).1)&&decide (0<=(l.getD i aE.aa).2))&&(i==0|| !bw (l.getD i aE.aa) (l.getD ((i-1)/2) aE.aa))) l.length
  (e:=some (decide (l.length<=16),())) (no:=some (false,())) ?_ ?_ k 0 (by omega)).trans ?_
 intro G i a;cases i with
 |zero=>
  simp only[aK,aC a,a,Q6,decide_true,if_true,ec,uj hk,cz,cD];rw[aX (by omega)];simp only[FH]
  rcases T_ (decide ((l.getD 0 aE.aa).1<0))with h1|h1<;>rcases T_ (decide ((l.getD 0 aE.aa).2<0))with h2|h2<;>
   simp only[h1,h2,if_true,eG,if_false,beq_self_eq_true,avc,ave,auV,au8,auO,auQ,avg,auR,tbf,fbt,Bool.or_self,Bool.and_self]
 |succ q=>
  have d:q/2<l.length:=by omega
  simp only[aK,aC a,aC d,a,Ln,Cs (show q<4611686018427387904 by omega),decide_true,if_true,ec,uj hk,cz,cD,auR,ne_eq,Nat.add_sub_cancel];rw[aX (by omega)];have f:((q+1:Nat)==0)=false:=rfl;rw[f];have g:decide (¬(2:Int)=0)=true:=rfl;rw[g];simp only[FH]
  rcases T_ (decide ((l.getD (q+1) aE.aa).1<0))with h1|h1<;>rcases T_ (decide ((l.getD (q+1) aE.aa).2<0))with h2|h2<;>
   rcases T_ (bw (l.getD (q+1) aE.aa) (l.getD (q/2) aE.aa))with h3|h3<;>
   simp only[h1,h2,h3,if_true,eG,if_false,beq_self_eq_true,avc,ave,auV,au8,auO,auQ,avg,auR,Bool.or_false,Bool.false_or,tbf,fbt,Bool.or_self,Bool.and_self]
 intro G i a;simp only[aK];rw[a_ (by simp;omega)];congr 2;rw[auP];simp;omega;unfold lj;generalize bA 0 l.length _=b;cases b<;>simp
theorem DY{c:aY}{g:aw}:oo k (c,g,())=some (ik c g,()):=by
 simp only[oo,oB,ik,cE];by_cases h:g.2.2.2.1= -1<;>simp[h]
theorem Lh{c:aY}{g:aw}:p9 k (c,g,())=some (ik c g,()):=by
 simp only[p9,oK,ik,cE];by_cases h:g.2.2.2.1= -1<;>simp[h]
end
def dW(l:List aw)(n:Int):Option Nat:=fv l.length (fun i=>decide ((l.getD i al.aa).1=n))
def OT:bq:=(0,[],0,[])
def dm(l:List aw)(n U:Int):List aw:=
 match dW l n with
 |none=>l
 |some i=>if(fR (l.getD i al.aa) U).2.2.2.2=[]then l.take i++l.drop (i+1)else l.set i (fR (l.getD i al.aa) U)
def gj(l:List aw)(n U:Int):bq:=
 match dW l n with
 |none=>OT
 |some i=>qs (l.getD i al.aa) U
def kf(l:List aw)(n:Int):Bool:=(dW l n).isSome
section
variable{k:Nat}(hk:9223372036854775808<=k)
include hk
def ns{l:List aw}(h:ai (.sl al) l<=1073741824):fF k (l,())=some (l,()):=
 Bt (d:=al.aa) (S:=fA k) hk (P_ (az (e:=al)) h) (fun e a=>vw hk (P_ (cx (e:=al) a) h))
theorem nQ{l:List aw}{n:Int}(h:l.length<=1073741824):gE k (l,n,())=some (dB (dW l n),()):=by
 simp only[gE];refine(fY (fun i:Nat=>(l,n,(i:Int),())) (fun i=>decide ((l.getD i al.aa).1=n)) l.length (e:=some (-1,())) (fun i=>some ((i:Int),())) (fun G i a=> ?_) (fun G=> ?_) k (by omega)).trans ?_;simp only[aK,aC a,a,decide_true,if_true,ec];rw[aX (by omega)];by_cases b:(l.getD i al.aa).1=n<;>simp[b];simp;unfold dW;cases fv l.length (fun i=>decide ((l.getD i al.aa).1=n))<;>rfl
def B6{l:List aw}{n U:Int}(h:ai (.sl al) l<=1073741824):lC k (l,n,U,())=some (dm l n U,gj l n U,kf l n,()):=by
 have hl:=az (e:=al) (l:=l);simp only[lC];rw[ns hk h,cz,nQ hk (by omega),cz];unfold dm gj kf;cases b:dW l n with
 |none=>rfl
 |some i=>
  obtain⟨j,_,_⟩:=aR.1 b;have ht:=cx (e:=al) (cC (d:=al.aa) j);have h1:=cB (e:=al) l i;have h2:=cB (e:=al) l (i+1);dsimp only;refine(abB (decide_eq_false (by simp only[dB];omega))).trans ?_;refine(an (by simp[dB];omega)).trans ?_;have f:(dB (some i)).toNat=i:=by simp[dB]
  have g:IntKind.i64.wrap (dB (some i)+1)=((i+1:Nat):Int):=aX (by omega);rw[f];rw[HH hk (by omega),cz];refine(an (by simp[dB];omega)).trans ?_;by_cases a:(fR (l.getD i al.aa) U).2.2.2.2=[]
  rw[an (by rw[a];rfl),an a];refine(an (by simp[dB];omega)).trans ?_;rw[ns hk (by omega),cz,g];refine(an (by simp;omega)).trans ?_;rw[ec,ns hk (by omega),cz,an (by simp;omega)];rfl;rw[a_ (by simpa using a),a_ a];rfl
def KC{l:List aw}{n U:Int}:ai (.sl al) (dm l n U)<=ai (.sl al) l:=by
 unfold dm;cases b:dW l n with
 |none=>exact au4 _
 |some i=>
  obtain⟨f,_,_⟩:=aR.1 b;simp only;split;have d:=cB (e:=al) l i;have a:=cB (e:=al) (l.drop i) 1;rw[List.drop_drop]at a;rw[gZ];omega;have d:=mf (e:=al) l i (fR (l.getD i al.aa) U) f;have a:=NO hk (g:=l.getD i al.aa) (U:=U);omega
def Iv{l:List aw}{n U:Int}:ai cw (gj l n U)<=ai (.sl al) l:=by
 unfold gj;cases a:dW l n with
 |none=>simp[OT,ai]
 |some i=>
  obtain⟨b,_,_⟩:=aR.1 a;have ht:=cx (e:=al) (cC (d:=al.aa) b);have h2:=M3 hk (g:=l.getD i al.aa) (U:=U);simp only;omega
def GA{c:aP}(h:ai ax c<=1073741824):kj k (c,())=some (c,()):=by
 have h1:=df hk c;simp only[kj];rw[ff hk (by omega),cz]
def Gv{p:au}(h:ai aj p<=1073741824):iF k (p,())=some (p,()):=by
 have h1:=dj hk p;have hl:=az (e:=ax) (l:=p.2.2);simp only[iF];refine bX (fun i=>(p,(0,(0,([]:List aP))),(p.1,p.2.1,p.2.2.take i),(i:Int),())) p.2.2.length (fun G i a=> ?_) (fun G=> ?_) k 0 (by omega) (by omega);have hm:=cx (e:=ax) (cC (d:=ax.aa) a);simp only[aK,aC a,a,decide_true,if_true,ec];rw[GA hk (by omega),cz,an (by simp;omega),aX (by omega),lv ax.aa a];simp
def Gm{l:List au}(h:ai (.sl aj) l<=1073741824):mB k (l,())=some (l,()):=
 Bt (d:=aj.aa) (S:=iF k) hk (P_ (az (e:=aj)) h) (fun e a=>Gv hk (P_ (cx (e:=aj) a) h))
def Gl{s:bo}(h:ai aW s<=1073741824):iz k (s,())=some (s,()):=by
 have h1:=nj hk s;simp only[iz];rw[ff hk (by omega),cz]
def P7{l:List bo}(h:ai (.sl aW) l<=1073741824):qL k (l,())=some (l,()):=
 Bt (d:=aW.aa) (S:=iz k) hk (P_ (az (e:=aW)) h) (fun e a=>Gl hk (P_ (cx (e:=aW) a) h))
def vA{t:aG}(h:ai aq t<=1073741824):jt k (t,())=some (t,()):=by
 have h1:=dy hk t;have h2:=az (e:=ak) (l:=t.2.2.2.1);have h3:=az (e:= .int .i64) (l:=t.2.2.2.2.2.1);simp only[jt];rw[cR hk (by omega),cz,an (by simp;omega),an (by simp;omega),ff hk (by omega),cz];simp
def Ni{d:aA}(h:ai ay d<=1073741824):jw k (d,())=some (d,()):=by
 have h1:=cU hk d;have h2:=az (e:=ak) (l:=d.2.2.2.1);simp only[jw];rw[cR hk (by omega),cz,an (by simp;omega),ff hk (by omega),cz];simp
def O6{l:List aA}(h:ai (.sl ay) l<=1073741824):pH k (l,())=some (l,()):=
 Bt (d:=ay.aa) (S:=jw k) hk (P_ (az (e:=ay)) h) (fun e a=>Ni hk (P_ (cx (e:=ay) a) h))
def JJ{b:bq}(h:ai cw b<=1073741824):fT k (b,())=some (b,()):=by
 have h1:=pK hk b;exact zO hk (by omega) (by omega)
def BV{w:ah}(hs:ai aD w<=1073741824):jB k (w,())=some (w,()):=by
 have p:=iI hk w;obtain⟨c,h,U,st,j,fd,m,gr,nn,g,b,n,f,o⟩:=w;simp only at p;have h1:=az (e:=aE) (l:=g);have h2:=az (e:=cw) (l:=b);have h3:=az (e:=aq) (l:=f);simp only[jB,aN];rw[CN hk (by omega),cz,Gm hk (by omega),cz,P7 hk (by omega),cz,ff hk (by omega),cz,ns hk (by omega),cz,an (by simp;omega)];simp only[auZ];refine bX (fun i=>((c,h,U,st,j,fd,m,gr,nn,g,b,n,f,o),_,(c,h,U,st,j,fd,m,gr,nn,g,b.take i,n,f,o),c,(i:Int),())) b.length (fun G i a=> ?_) (fun G=> ?_) k 0 (by omega) (by omega);have q:=cx (e:=cw) (cC (d:=cw.aa) a);simp only[aK,aC a,a,decide_true,if_true,ec];rw[JJ hk (by omega),cz,an (by simp;omega),aX (by omega),lv cw.aa a];simp only[aK,v_,decide_false,eG,if_false,auT];rw[ff hk (by omega),cz];refine bX (fun i=>((c,h,U,st,j,fd,m,gr,nn,g,b,n,f,o),_,(c,h,U,st,j,fd,m,gr,nn,g,b,n,f.take i,o),c,(i:Int),())) f.length (fun G i a=> ?_) (fun G=> ?_) k 0 (by omega) (by omega);have q:=cx (e:=aq) (cC (d:=aq.aa) a);simp only[aK,aC a,a,decide_true,if_true,ec];rw[vA hk (by omega),cz,an (by simp;omega),aX (by omega),lv aq.aa a];simp only[aK,v_,decide_false,eG,if_false,auT];rw[O6 hk (by omega),cz]
end
def xR(a b:af):Bool:=decide (a.2.1<=b.2.2.1)&&decide (b.2.1<=a.2.2.1)
def iZ(a b:af):af:=if xR a b=true then(b.1,if b.2.1<a.2.1 then b.2.1 else a.2.1,b.2.2)else b
def jJ(c:aP)(a:af):aP:=
 match eU c.2 a.1 with
 |some i=>(c.1,c.2.set i (iZ (c.2.getD i ae.aa) a))
 |none=>(c.1,c.2++[a])
def iq(l:List aP)(f:Int):Nat:=(fv l.length (fun i=> !decide ((l.getD i ax.aa).1<f))).getD l.length
def e9(k:Nat)(p:au)(a:af):au×Bool:=
 match eY p (cn k a.1)with
 |some i=>((p.1,IntKind.i64.wrap (p.2.1+1),p.2.2.set i (jJ (p.2.2.getD i ax.aa) a)),(eU (p.2.2.getD i ax.aa).2 a.1).isNone)
 |none=>((p.1,IntKind.i64.wrap (p.2.1+1),p.2.2.take (iq p.2.2 (cn k a.1))++[(cn k a.1,[a])]++p.2.2.drop (iq p.2.2 (cn k a.1))),true)
def dn(k:Nat)(l:List au)(a:af):List au×Bool:=
 if l.length=0 then(l,false)else(l.set (bg k l a.1).toNat (e9 k (l.getD (bg k l a.1).toNat aj.aa) a).1,(e9 k (l.getD (bg k l a.1).toNat aj.aa) a).2)
def Kw{α:Type}(l:List aP)(f:Int)(g:Nat->α):(match fv l.length (fun i=> !decide ((l.getD i ax.aa).1<f))with|some i=>g i|none=>g l.length)=g (iq l f):=by
 unfold iq;cases fv l.length (fun i=> !decide ((l.getD i ax.aa).1<f))<;>rfl
section
variable{k:Nat}(hk:9223372036854775808<=k)
include hk
theorem H8{a b:af}:nU k (a,b,())=some (xR a b,()):=by
 simp only[nU,xR];by_cases h:a.2.1<=b.2.2.1<;>simp[h]
def H7{a b:af}(hb:ai ae b<=1048576):nz k (a,b,())=some (iZ a b,()):=by
 simp only[nz,qp];rw[cR hk (by omega),cz,H8 hk,cz];unfold iZ;cases xR a b;simp;by_cases h:b.2.1<a.2.1<;>simp[h]
def NG{a b:af}:ai ae (iZ a b)=ai ae b:=by
 unfold iZ;split;rw[bj hk,bj hk];rfl
def AQ{c:aP}{a:af}(hc:ai ax c<=1048576)(d:ai ae a<=1048576):kI k (c,a,())=some (jJ c a,(eU c.2 a.1).isNone,()):=by
 have h1:=df hk c;have h2:=az (e:=ae) (l:=c.2);simp only[kI];rw[GA hk (by omega),cz];unfold jJ;cases h:eU c.2 a.1 with
 |none=>
  have e:fC k (c,a.1,())=some (-1,()):=by rw[nW hk (by omega),h];rfl
  rw[e,cz,an (by decide),cR hk (by omega),cz,an (by simp;omega)];rfl
 |some i=>
  have b:=(aR.1 h).1;have e:fC k (c,a.1,())=some ((i:Int),()):=by rw[nW hk (by omega),h];rfl
  rw[e,cz,a_ (by simp),an (aC b),H7 hk d,cz,an (aC b)];rfl
def Qb{c:aP}{a:af}:ai ax (jJ c a)<=ai ax c+ai ae a+1:=by
 have h1:=df hk c;have d:=df hk (jJ c a);unfold jJ at d|-;cases h:eU c.2 a.1 with
 |none=>
  rw[h]at d;dsimp only at d|-;have f:=gZ (e:=ae) c.2 [a];have g:=bW (e:=ae) a [];have h5:=bd (e:=ae);rw[d];omega
 |some i=>
  have j:=(aR.1 h).1;rw[h]at d;dsimp only at d|-;have f:=mf (e:=ae) c.2 i (iZ (c.2.getD i ae.aa) a) j;have g:=NG hk (a:=c.2.getD i ae.aa) (b:=a);rw[d];omega
def Hp{p:au}{a:af}(d:ai aj p<=1048576)(g:ai ae a<=1048576):nk k (p,a,())=some ((e9 k p a).1,(e9 k p a).2,()):=by
 have h1:=dj hk p;have h2:=az (e:=ax) (l:=p.2.2);have h3:=bj hk a;simp only[nk];rw[Gv hk (by omega),cz,oz hk (by omega),cz];unfold e9;cases h:eY p (cn k a.1)with
 |some i=>
  have b:=(aR.1 h).1;have e:iY k (p,cn k a.1,())=some ((i:Int),()):=by rw[np hk (by omega),h];rfl
  rw[e,cz,an (by simp),an (aC b)];simp only[ec];rw[AQ hk (ga hk d b).1 g,cz,an (aC b)]
 |none=>
  have e:iY k (p,cn k a.1,())=some (-1,()):=by rw[np hk (by omega),h];rfl
  rw[e,cz,a_ (by decide)];simp only[aN];generalize hf:cn k a.1=f at h|-
  refine(fY (fun i:Nat=>(p,a,(0,0,([]:List aP)),(p.1,IntKind.i64.wrap (p.2.1+1),p.2.2),f,(i:Int),())) (fun i=> !decide ((p.2.2.getD i ax.aa).1<f)) p.2.2.length
   (e:=some ((p.1,IntKind.i64.wrap (p.2.1+1),p.2.2.take p.2.2.length++[(f,[a])]++p.2.2.drop p.2.2.length),true,())) (fun i=>some ((p.1,IntKind.i64.wrap (p.2.1+1),p.2.2.take i++[(f,[a])]++p.2.2.drop i),true,())) (fun G i b=> ?_) (fun G=> ?_) k (by omega)).trans ?_
  simp only[aK,aC b,b,decide_true,if_true,ec,auR];by_cases hc:(p.2.2.getD i ax.aa).1<f;rw[c_ hc,aX (by omega)];simp;rw[decide_eq_false hc];simp only[auO,if_true,eG,if_false];rw[cR hk (by omega),cz,an (c_ ⟨by omega,by omega⟩),an (c_ (by simp;omega)),an (c_ (by simp;omega)),an (c_ ⟨by omega,by omega⟩),an (c_ (by simp;omega)),auZ];simp only[aK,v_,decide_false,eG,if_false,ec];rw[an (by simp),cR hk (by omega),cz,an (c_ ⟨by omega,by omega⟩),an (c_ (by simp;omega)),an (c_ (by simp;omega)),an (c_ ⟨by omega,by omega⟩),an (c_ (by simp;omega)),auZ];exact Kw p.2.2 f (fun i=>some ((p.1,IntKind.i64.wrap (p.2.1+1),p.2.2.take i++[(f,[a])]++p.2.2.drop i),true,()))
def Qc{p:au}{a:af}:ai aj (e9 k p a).1<=ai aj p+ai ae a+2:=by
 have h1:=dj hk p;have b:=dj hk (e9 k p a).1;unfold e9 at b|-;cases h:eY p (cn k a.1)with
 |some i=>
  have d:=(aR.1 h).1;rw[h]at b;dsimp only at b|-;have f:=mf (e:=ax) p.2.2 i (jJ (p.2.2.getD i ax.aa) a) d;have g:=Qb hk (c:=p.2.2.getD i ax.aa) (a:=a);rw[b];omega
 |none=>
  rw[h]at b;dsimp only at b|-;have f:=gZ (e:=ax) (p.2.2.take (iq p.2.2 (cn k a.1))++[(cn k a.1,[a])]) (p.2.2.drop (iq p.2.2 (cn k a.1)));have g:=gZ (e:=ax) (p.2.2.take (iq p.2.2 (cn k a.1))) [(cn k a.1,[a])];have h5:=bW (e:=ax) (cn k a.1,[a]) [];have h6:=bd (e:=ax);have h7:=df hk (cn k a.1,[a]);have h8:=bW (e:=ae) a [];have h9:=bd (e:=ae);have rO:=cB (e:=ax) p.2.2 (iq p.2.2 (cn k a.1));dsimp only at h7;rw[b];omega
def AA{l:List au}{a:af}(d:ai (.sl aj) l<=1048576)(e:ai ae a<=1048576):kQ k (l,a,())=some ((dn k l a).1,(dn k l a).2,()):=by
 have h3:=bj hk a;simp only[kQ];rw[Gm hk (by omega),cz];unfold dn;by_cases b:l.length=0;rw[an (by simpa using b),an b];obtain⟨q1,q2,q3⟩:=kV (k:=k) (l:=l) (s:=a.1) b;rw[a_ (by simpa using b),a_ b,lK hk (by omega),cz,an (c_ ⟨q1,q2⟩),Hp hk (kh hk d q3) e,cz,an (c_ ⟨q1,q2⟩)]
def Mu{l:List au}{a:af}:ai (.sl aj) (dn k l a).1<=ai (.sl aj) l+ai ae a+2:=by
 unfold dn;by_cases b:l.length=0;rw[an b];dsimp only;omega;rw[a_ b];obtain⟨q1,q2,q3⟩:=kV (k:=k) (l:=l) (s:=a.1) b;have h1:=mf (e:=aj) l (bg k l a.1).toNat (e9 k (l.getD (bg k l a.1).toNat aj.aa) a).1 q3;have h2:=Qc hk (p:=l.getD (bg k l a.1).toNat aj.aa) (a:=a);dsimp only;omega
end
def gD(U:Int)(l:List af):List af:=l.filter fun a=>decide (a.2.2.1<=U)
def fX(U:Int)(c:aP):aP:=(c.1,dh U c.2)
def jf(U:Int)(l:List aP):List aP:=(l.map (fX U)).filter fun c=>decide (0<c.2.length)
def dg(U:Int)(l:List aP):List af:=l.flatMap fun c=>gD U c.2
def dR(p:au)(U:Int):au:=(p.1,if 0<(dg U p.2.2).length then IntKind.i64.wrap (p.2.1+1)else p.2.1,jf U p.2.2)
def mU(a:af)(s:bo):bo:=if s.2=true then s else if 3<=s.1.length then([],true)else(s.1++[a],s.2)
def Iy{α:Type}(p:α->Bool){l:List α}{i:Nat}(d:α)(h:i<l.length):(l.take (i+1)).filter p=if p (l.getD i d)=true then(l.take i).filter p++[l.getD i d]else(l.take i).filter p:=by
 have b:l.getD i d=l[i]:=by rw[auJ,au5 h];rfl
 rw[au0 h,avh,b];by_cases a:p l[i]=true;simp[a];simp[a]
def L3{U:Int}{l:List aP}{i:Nat}(h:i<l.length):jf U (l.take (i+1))=if 0<(dh U (l.getD i ax.aa).2).length then jf U (l.take i)++[fX U (l.getD i ax.aa)]else jf U (l.take i):=by
 have b:l.getD i ax.aa=l[i]:=by rw[auJ,au5 h];rfl
 unfold jf;rw[au0 h,avm,avh,b];by_cases a:0<(dh U (l[i]).2).length;rw[an a,avi,avl,an (show(decide (0<(fX U l[i]).2.length))=true from c_ a)];rfl;rw[a_ a,avi,avl,a_ (show¬(decide (0<(fX U l[i]).2.length))=true from fun h=>a (e_ h))];simp
section
variable{k:Nat}(hk:9223372036854775808<=k)
include hk
theorem wY{U:Int}{l:List af}:ai (.sl ae) (gD U l)<=ai (.sl ae) l:=xD (e:=ae) _ l
def Ar{c:aP}{U:Int}(hc:ai ax c<=1048576):kU k (c,U,())=some (fX U c,gD U c.2,()):=by
 have h1:=df hk c;have h2:=az (e:=ae) (l:=c.2);simp only[kU,aN];refine(bX (fun i:Nat=>(U,c,(0,([]:List af)),(c.1,dh U (c.2.take i)),gD U (c.2.take i),(i:Int),())) c.2.length (e:=some (fX U c,gD U c.2,())) (fun G i a=> ?_) (fun G=> ?_) k 0 (by omega) (by omega));have l1:=xw (U:=U) (l:=c.2.take i);have d:(gD U (c.2.take i)).length<=(c.2.take i).length:=avd ..;have l3:(c.2.take i).length<=c.2.length:=by simp;omega
 have hm:ai ae (c.2.getD i ae.aa)<=1048576:=(jO hk (by omega) a).1;simp only[aK,aC a,a,decide_true,if_true,ec,mn];rw[aX (by omega),cR hk (by omega),cz,cz,vj a];unfold gD at d|-;rw[Iy _ ae.aa a];by_cases b:(c.2.getD i ae.aa).2.2.1<=U;simp only[b,decide_true,if_true,auQ,eG,if_false];rw[an (c_ (by simp only[T'];omega))];simp only[b,decide_false,eG,if_false,auO,if_true];rw[an (c_ (by simp only[T'];omega))];simp[fX]
def Jf{U:Int}(l:List aP):(dg U l).length<=ai (.sl ax) l:=by
 have a:ai (.sl ae) (dg U l)<=ai (.sl ax) l:=jS hk (e:=ax) (f:=ae) (g:=fun c=>gD U c.2) (fun c=>P_ (wY hk) (by rw[df hk];exact au4 _)) l;exact P_ (az (e:=ae)) a
theorem L4{U:Int}(l:List aP):(jf U l).length<=l.length:=by
 unfold jf;exact P_ (avd ..) (by simp)
def CG{p:au}{U:Int}(g:ai aj p<=1048576):lN k (p,U,())=some (dR p U,dg U p.2.2,()):=by
 have h1:=dj hk p;have h2:=az (e:=ax) (l:=p.2.2);simp only[lN,aN];refine(bX (fun i:Nat=>(U,p,(0,0,([]:List aP)),(p.1,p.2.1,jf U (p.2.2.take i)),dg U (p.2.2.take i),(i:Int),())) p.2.2.length (e:=some (dR p U,dg U p.2.2,())) (fun G i d=> ?_) (fun G=> ?_) k 0 (by omega) (by omega));have l1:=L4 hk (U:=U) (p.2.2.take i);have l2:=Jf hk (U:=U) (p.2.2.take i);have l3:=cB (e:=ax) p.2.2 i;have l4:(p.2.2.take i).length<=p.2.2.length:=by simp;omega
 have l6:(gD U (p.2.2.getD i ax.aa).2).length<=1048576:=P_ (az (e:=ae)) (P_ (wY hk) (ga hk g d).2);simp only[aK,aC d,d,decide_true,if_true,ec];rw[aX (by omega),Ar hk (ga hk g d).1,cz,L3 d];have j:dg U (p.2.2.take (i+1))=dg U (p.2.2.take i)++gD U (p.2.2.getD i ax.aa).2:=dK (f:=fun c:aP=>gD U c.2) ax.aa d;rw[j,an (c_ (by first|omega|(dsimp only;omega)|(simp;omega)))];by_cases a:0<(dh U (p.2.2.getD i ax.aa).2).length;rw[an (c_ (by simp only[fX];omega)),an a,an (c_ (by simp only[T'];first|omega|(dsimp only;omega)|(simp;omega)))];have b:¬decide ((((fX U (p.2.2.getD i ax.aa)).2.length:Nat):Int)>0)=true:=fun h=>a (by have h9:=e_ h;simp only[fX]at h9;omega);rw[a_ b,a_ a];simp only[aK,v_,decide_false,eG,if_false,auT];unfold dR;by_cases a:0<(dg U p.2.2).length;rw[an (c_ (by omega)),an a];have b:¬decide ((((dg U p.2.2).length:Nat):Int)>0)=true:=fun h=>a (by have h9:=e_ h;omega);rw[a_ b,a_ a]
def Jl{s:bo}{a:af}(hs:ai aW s<=1048576)(ha:ai ae a<=1048576):oO k (s,a,())=some (mU a s,()):=by
 have h1:=nj hk s;have h2:=az (e:=ae) (l:=s.1);simp only[oO];rw[Gl hk (by omega),cz];unfold mU;by_cases b:s.2=true;rw[an b,an b];rw[a_ b,a_ b];by_cases d:3<=s.1.length;rw[an (c_ (by omega)),an d];have f:¬decide (((s.1.length:Nat):Int)>=3)=true:=fun h=>d (by have h9:=e_ h;omega);rw[a_ f,a_ d,cR hk (by omega),cz,an (c_ (by simp only[T'];omega))]
def Cz{l:List bo}{a:af}(d:ai (.sl aW) l<=1048576)(f:ai ae a<=1048576):lG k (l,a,())=some (l.map (mU a),()):=by
 have h2:=az (e:=aW) (l:=l);simp only[lG];refine(bX (fun i:Nat=>(l,a,(l.take i).map (mU a),(i:Int),())) l.length (e:=some (l.map (mU a),())) (fun G i b=> ?_) (fun G=> ?_) k 0 (by omega) (by omega));have g:l.getD i aW.aa=l[i]:=by rw[auJ,au5 b];rfl
 simp only[aK,aC b,b,decide_true,if_true,ec];rw[aX (by omega),Jl hk (Ng hk d b) f,cz,an (c_ (by simp;omega)),au0 b,avm,g];rfl;simp
end
def qS(l:List aF)(i j:Nat):List aF:=(l.set i (l.getD j aE.aa)).set j (l.getD i aE.aa)
def dX(l:List aF)(i j:Nat):(qS l i j).length=l.length:=by simp[qS]
def D7(l:List aF)(i:Nat):List aF:=
 if h:0<i then if bw (l.getD i aE.aa) (l.getD ((i-1)/2) aE.aa)=true then D7 (qS l i ((i-1)/2)) ((i-1)/2)else l else l
termination_by i
decreasing_by omega
def tf(l:List aF)(t:aF):List aF:=D7 (l++[t]) l.length
def eZ(l:List aF)(i:Nat):Nat:=
 if 2*i+2<l.length/\bw (l.getD (2*i+2) aE.aa) (l.getD (2*i+1) aE.aa)=true then 2*i+2 else 2*i+1
def oQ(l:List aF)(i:Nat):List aF:=
 if h:2*i+1<l.length then
  if bw (l.getD (eZ l i) aE.aa) (l.getD i aE.aa)=true then oQ (qS l i (eZ l i)) (eZ l i)else l
 else l
termination_by l.length-i
decreasing_by
 rw[dX]
 have:i<eZ l i:=by unfold eZ;split<;>omega
 omega
def PX{l:List aF}{i:Nat}(h:2*i+1<l.length):i<eZ l i/\eZ l i<l.length:=by unfold eZ;split<;>omega
def dS(l:List aF):List aF×aF×Bool:=
 if l.length=0 then([],(0,0),false)
 else(if l.length=1 then []else oQ ((l.take (l.length-1)).set 0 (l.getD (l.length-1) aE.aa)) 0,l.getD 0 aE.aa,true)
def Wy{i:Nat}(h:i<1073741824):IntKind.i64.wrap (IntKind.i64.wrap ((2:Int)*(i:Int))+1)=((2*i+1:Nat):Int):=by
 have e:(2:Int)*(i:Int)=((2*i:Nat):Int):=by omega
 have w:IntKind.i64.wrap ((2*i:Nat):Int)=((2*i:Nat):Int):=by
  have:=aX (i:=2*i-1) (by omega);rcases avj i with a|a;subst a;rfl;have b:(((2*i-1:Nat):Int)+1)=((2*i:Nat):Int):=by omega
  rw[b]at this;rw[this];congr 1;omega
 rw[e,w,aX (by omega)]
def i2b{i:Nat}(h:i<1073741824):IntKind.i64.wrap (((2*i+1:Nat):Int)+1)=((2*i+2:Nat):Int):=by
 rw[aX (by omega)]
theorem yX{σ ρ α:Type}{f:(σ->Option ρ)->σ->Option ρ}(st:α->σ)(res:α->Option ρ)(I:α->Prop)(m:α->Nat)
 (h:∀G a,I a->(∃b,I b/\m b<m a/\res b=res a/\f G (st a)=G (st b))\/f G (st a)=res a):
 ∀n a,I a->m a<n->aM n f (st a)=res a
 |0,a,_,hn=>by omega
 |n+1,a,hI,hn=>by
  rcases h (aM n f) a hI with⟨b,d,hm,g,e⟩|e;show f (aM n f) (st a)=_;rw[e,<-g];exact yX st res I m h n b d (by omega);exact e
def Me{σ ρ α:Type}{f:(σ->Option ρ)->σ->Option ρ}(st:α->σ)(res:α->Option ρ)(I:α->Prop)(m:α->Nat)
 (h:∀a,I a->∃(c:Bool) (b:α),(c=true->I b/\m b<m a/\res b=res a)/\∀G,f G (st a)=if c=true then G (st b)else res a):
 ∀n a,I a->m a<n->aM n f (st a)=res a:=by
 refine yX st res I m (fun G a g=> ?_);obtain⟨c,b,d,e⟩:=h a g;cases c with
 |true=>exact Or.inl ⟨b,(d rfl).1,(d rfl).2.1,(d rfl).2.2,e G⟩
 |false=>exact Or.inr (e G)
def Nr{n:Nat}(h:n<4611686018427387904):IntKind.i64.wrap (n:Int)=(n:Int):=by
 rcases avj n with a|a;subst a;rfl;have:=aX (i:=n-1) (by omega);have b:(((n-1:Nat):Int)+1)=(n:Int):=by omega
 rw[b]at this;rw[this];congr 1;omega
def Xp{α:Type}{l:List α}{t:α}(h:l.length<=1048576):IntKind.i64.wrap ((((l++[t]).length:Nat):Int)-1)=(l.length:Int):=by
 rw[auU,T'];have e:(((l.length+1:Nat):Int)-1)=(l.length:Int):=by omega
 rw[e,Nr (by omega)]
section
variable{k:Nat}(hk:9223372036854775808<=k)
include hk
def CX{l:List aF}{t:aF}(g:l.length<=1048576):lM k (l,t,())=some (tf l t,()):=by
 simp only[lM,auZ];rw[an (c_ (by simp only[au7];omega)),an (c_ (by simp only[T'];omega)),Xp g];unfold tf;have d:(l++[t]).length<=1048577:=by simp;omega
 have b:l.length<(l++[t]).length:=by simp
 refine yX (fun a:List aF×Nat=>(t,a.1,(a.2:Int),())) (fun a=>some (D7 a.1 a.2,())) (fun a=>a.2<a.1.length/\a.1.length<=1048577) (fun a=>a.2) ?_ k (l++[t],l.length) ⟨b,d⟩ (by dsimp only;omega);rintro G ⟨L,i⟩ ⟨b,d⟩;dsimp only at b d|-;rw[D7];cases i with
 |zero=>
  right;simp only[Q6];simp
 |succ q=>
  have f:q/2<L.length:=by omega
  have h:decide (¬(2:Int)=0)=true:=rfl;have j:(q+1-1)/2=q/2:=by omega
  simp only[aK,aC b,aC f,b,Ln,Cs (show q<4611686018427387904 by omega),decide_true,if_true,ec,jo hk,cz,auS,ek,ne_eq,h,auR,beq_self_eq_true,j];rw[dif_pos (Nat.succ_pos q)];by_cases e:bw (L.getD (q+1) aE.aa) (L.getD (q/2) aE.aa)=true;left;refine⟨(qS L (q+1) (q/2),q/2),⟨by rw[dX];exact f,by rw[dX];exact d⟩,by show q/2<q+1;omega,by rw[an e],?_⟩;rw[an e];rfl;right;rw[a_ e,a_ e]
def Ay{l:List aF}(hl:l.length<=1048576):kS k (l,())=some ((dS l).1,(dS l).2.1,(dS l).2.2,()):=by
 simp only[kS];unfold dS;by_cases j:l.length=0;rw[an (by simpa using j),an j]
 have v:IntKind.i64.wrap (((l.length:Nat):Int)-1)=((l.length-1:Nat):Int):=by
  have:(((l.length:Nat):Int)-1)=((l.length-1:Nat):Int):=by omega
  rw[this,Nr (by omega)]
 have e:decide ((0:Int)<=0/\(0:Int)<(l.length:Int))=true:=c_ ⟨by omega,by omega⟩;rw[a_ (by simpa using j),a_ j,v,an (c_ ⟨by omega,by omega⟩),ec,an (c_ (by simp;omega))];simp only[aN,auZ,e,if_true];by_cases m:l.length=1;rw[a_ (by simp;omega),an m];have w:l.take (l.length-1)=[]:=by rw[m];rfl
 rw[w];obtain⟨q,f⟩:∃q,k=q+1:=⟨k-1,by omega⟩
 rw[f];simp only[aM,m];rfl;rw[an (by simp;omega),a_ m,an (c_ ⟨by omega,by omega⟩),an (c_ ⟨by omega,by simp;omega⟩)];have t:((l.take (l.length-1)).set 0 (l.getD (l.length-1) aE.aa)).length=l.length-1:=by simp
 refine Me (fun a:List aF×Nat=>(l,(0,0),((l.length-1:Nat):Int),a.1,(a.2:Int),())) (fun a=>some (oQ a.1 a.2,l.getD 0 aE.aa,true,())) (fun a=>a.1.length=l.length-1/\a.2<a.1.length)
  (fun a=>l.length-a.2) ?_ k ((l.take (l.length-1)).set 0 (l.getD (l.length-1) aE.aa),0) ⟨t,by rw[t];show 0<_;omega⟩ (by dsimp only;omega)
 rintro⟨L,i⟩ ⟨o,p⟩;dsimp only at o p|-;have u:l.getD (au1 0) aE.aa=l.getD 0 aE.aa:=rfl;have b:oQ L i=_:=oQ.eq_1 L i;by_cases d:2*i+1<L.length;rw[dif_pos d]at b;obtain⟨k1,r⟩:=PX d;refine⟨bw (L.getD (eZ L i) aE.aa) (L.getD i aE.aa),(qS L i (eZ L i),eZ L i),fun hc=> ?_,fun G=> ?_⟩;refine⟨⟨by rw[dX];exact o,by rw[dX];exact r⟩,by dsimp only;omega,?_⟩;rw[an hc]at b;rw[b];simp only[Wy (show i<1073741824 by omega),i2b (show i<1073741824 by omega),aN,aK,ec,<-o,auS,ek,d,decide_true,if_true,u];by_cases g:2*i+2<L.length;simp only[g,aC g,aC d,decide_true,auR,if_true,beq_self_eq_true,jo hk,cz];by_cases n:bw (L.getD (2*i+2) aE.aa) (L.getD (2*i+1) aE.aa)=true;rw[an n];have f:eZ L i=2*i+2:=an ⟨g,n⟩;simp only[<-f,aC r,aC p,auR,if_true,beq_self_eq_true,jo hk,cz,eG,if_false];rcases T_ (bw (L.getD (eZ L i) aE.aa) (L.getD i aE.aa))with hb|hb;rw[a_ (by rw[hb];decide),an hb];rfl;rw[an (by rw[hb];decide),an e,a_ (by rw[hb];decide),b,a_ (by rw[hb];decide)];rw[a_ n];have f:eZ L i=2*i+1:=a_ (fun h=>n h.2);simp only[<-f,aC r,aC p,auR,if_true,beq_self_eq_true,jo hk,cz,eG,if_false];rcases T_ (bw (L.getD (eZ L i) aE.aa) (L.getD i aE.aa))with hb|hb;rw[a_ (by rw[hb];decide),an hb];rfl;rw[an (by rw[hb];decide),an e,a_ (by rw[hb];decide),b,a_ (by rw[hb];decide)];have s:decide (2*i+2<L.length)=false:=decide_eq_false g;have x:(false==true)=false:=rfl;simp only[s,x,auO,avg,if_true,eG,if_false,cz];have f:eZ L i=2*i+1:=a_ (fun h=>g h.1);simp only[<-f,aC r,aC p,auR,if_true,beq_self_eq_true,jo hk,cz,eG,if_false];rcases T_ (bw (L.getD (eZ L i) aE.aa) (L.getD i aE.aa))with hb|hb;rw[a_ (by rw[hb];decide),an hb];rfl;rw[an (by rw[hb];decide),an e,a_ (by rw[hb];decide),b,a_ (by rw[hb];decide)];rw[dif_neg d]at b;refine⟨false,(L,i),(fun h=>nomatch h),fun G=> ?_⟩;have y:decide (2*i+1<L.length)=false:=decide_eq_false d;simp only[Wy (show i<1073741824 by omega),aK,<-o,y,b,e,if_true,eG,if_false,u]
end
theorem yr{α:Type}[DecidableEq α]:∀(l m:List α),allEq (fun a b=>decide (a=b)) l m=decide (l=m)
 | [],[]=>by simp[allEq]
 | [],_::_=>by simp[allEq]
 |_::_,[]=>by simp[allEq]
 |a::l,b::m=>by simp only[allEq,yr l m,List.cons.injEq,au9]
def wg(a b:ByteArray):(a.toList==b.toList)=decide (a=b):=by
 by_cases h:a=b;simp[h];have:¬a.toList=b.toList:=fun e=>h (toList_inj e);simp[h,this]
instance iLabel:DecidableEq ag:=inferInstance
instance W':DecidableEq (List ag):=inferInstance
instance iAlarm:DecidableEq af:= @instDecidableEqProd _ _ inferInstance inferInstance
instance X_:DecidableEq (List af):=inferInstance
instance iTail:DecidableEq (List Int×(List af×aF)):=inferInstance
instance iTask:DecidableEq aG:= @instDecidableEqProd _ _ inferInstance (@instDecidableEqProd _ _ inferInstance (@instDecidableEqProd _ _ inferInstance (@instDecidableEqProd _ _ inferInstance (@instDecidableEqProd _ _ inferInstance inferInstance))))
def zT:aG:=(0,0,bU,[],0,[],[],0,0)
def lh(l:List Int):Bool:=bA 0 l.length (fun i=>decide (0<=l.getD i 0))
def nm(t:aG):Bool:=decide (t.2.2.2.2.1=0)&&decide (t.2.2.2.2.2.1=[])&&decide (t.2.2.2.2.2.2.1=[])
def cW(t:aG)(n:Int):Bool:=
 aZ n 0 4&&decide (0<=t.2.2.2.2.2.2.2.2)&&
 ((decide (t.1=0)&&decide (t=zT))||
  (decide (t.1=1)&&decide (n<3)&&aZ t.2.1 0 2&&bh t.2.2.1&&decide (t.2.2.2.1=[])&&nm t&&decide (t.2.2.2.2.2.2.2.1=0))||
  (decide (t.1=2)&&decide (n<3)&&aZ t.2.1 0 1&&decide (t.2.2.1=bU)&&cZ t.2.2.2.1&&nm t&&decide (t.2.2.2.2.2.2.2.1=0))||
  (decide (t.1=3)&&decide (n<3)&&aZ t.2.1 0 2&&decide (t.2.2.1=bU)&&decide (t.2.2.2.1=[])&&lh t.2.2.2.2.2.1&&decide ((t.2.2.2.2.2.1.length:Int)=t.2.2.2.2.1)&&bI t.2.2.2.2.2.2.1&&
   (if t.2.1=2 then aZ t.2.2.2.2.1 1 3 else aZ t.2.2.2.2.1 0 2)&&decide (t.2.2.2.2.2.2.2.1=0))||
  (decide (t.1=4)&&decide (n<3)&&aZ t.2.1 0 1&&decide (t.2.2.1=bU)&&decide (t.2.2.2.1=[])&&aZ t.2.2.2.2.1 0 2&&decide (t.2.2.2.2.2.1=[])&&decide (t.2.2.2.2.2.2.1=[])&&decide (t.2.2.2.2.2.2.2.1=0))||
  (decide (t.1=5)&&decide (n=3)&&aZ t.2.1 0 1&&bh t.2.2.1&&decide (t.2.2.2.1=[])&&nm t&&decide (t.2.2.2.2.2.2.2.1=0))||
  (decide (t.1=6)&&decide (n=4)&&aZ t.2.1 0 1&&decide (t.2.2.1=bU)&&decide (t.2.2.2.1=[])&&nm t&&decide (0<=t.2.2.2.2.2.2.2.1)))
def jn(op:Int):List Int:=if op=1 then [1,2,3,4]else if op=3 then [5,6]else if op=7 then [1,2,3]else if op=8 then [8,6]else if op=9 then [5,6,7]else [8]
def eQ(k:Nat)(d:aA):Bool:=
 match d with
 |(op,task,_,_,i,n,code,_,U,inv,lin,res)=>
  aZ op 1 9&&aZ task (-1) 4&&decide (0<=inv)&&decide (0<=i)&&decide (0<=n)&&decide (0<=U)&&(decide (lin= -1)||decide (inv<=lin))&&(decide (res= -1)||(!decide (lin= -1)&&decide (lin<=res)))&&
   (if lin= -1 then decide (code=0)else decide (code∈jn op))
def aV(k:Nat)(t:aG)(n:Int):Int:=
 if n<1 then-1
 else if t.1=1/\(t.2.1=1\/t.2.1=2)then dP (cn k t.2.2.1.1) n
 else if t.1=2/\t.2.1=1 then dP (cn k t.2.2.2.1) n
 else if(t.1=3\/t.1=4)/\t.2.1=1 then t.2.2.2.2.1
 else-1
def bN(t:aG):Bool:=(decide (t.1=5)||decide (t.1=6))&&decide (t.2.1=1)
section
variable{k:Nat}(hk:9223372036854775808<=k)
include hk
def iH{a b:af}(d:a.1.length<=1048576):cN k (a,b,())=some (decide (a=b),()):=by
 obtain⟨h,j,l,a4⟩:=a;obtain⟨m,n,o,b4⟩:=b;simp only[cN,dV hk d,cz,cE,wg,avf,au9];by_cases e:h=m<;>by_cases f:j=n<;>by_cases g:l=o<;>simp[e,f,g]
def sr{a:af}(h:ai ae a<=1048576):a.1.length<=1048576:=by
 rw[bj hk]at h;have:=az (e:=ak) (l:=a.1);omega
def pj{a b:List af}(g:ai (.sl ae) a<=1048576):gn k (a,b,())=some (decide (a=b),()):=by
 rw[<-yr];have hl:=az (e:=ae) (l:=a);exact PY (d:=ae.aa) (S:=cN k) hk (by omega) (fun x f y _=>iH hk (sr hk (P_ (cx (e:=ae) f) g)))
def Bw{a b:List Int}(ha:a.length<=1048576):iQ k (a,b,())=some (decide (a=b),()):=by
 rw[<-yr];refine Eq.trans ?_ (PY (d:=(0:Int)) (S:=fun z=>some (decide ((z.1:Int)=z.2.1),())) (p:=fun a b=>decide (a=b)) hk (by omega) (fun x hx y _=>rfl));simp only[iQ,eqR,cz,im]
def Bk{a b:aG}(o:ai aq a<=1048576):iN k (a,b,())=some (decide (a=b),()):=by
 rw[dy hk]at o;have p:=sr hk (a:=a.2.2.1) (by omega);have h2:=az (e:=ak) (l:=a.2.2.2.1);have h3:=az (e:= .int .i64) (l:=a.2.2.2.2.2.1);have q1:∀b,cN k (a.2.2.1,b,())=some (decide (a.2.2.1=b),()):=fun b=>iH hk p;have q2:∀b,cH k (a.2.2.2.1,b,())=some (decide (a.2.2.2.1=b),()):=fun b=>dV hk (by omega);have q3:∀b,iQ k (a.2.2.2.2.2.1,b,())=some (decide (a.2.2.2.2.2.1=b),()):=fun b=>Bw hk (by omega);have q4:∀b,gn k (a.2.2.2.2.2.2.1,b,())=some (decide (a.2.2.2.2.2.2.1=b),()):=fun b=>pj hk (by omega);obtain⟨r,s,t,u,v,w,x,y,a9⟩:=a;obtain⟨z,B,C,D,E,F,G,H,b9⟩:=b;simp only at q1 q2 q3 q4;simp only[iN,q1,q2,q3,q4,cD,cz,cE,avf,au9];by_cases d:r=z;by_cases f:s=B;by_cases g:t=C;by_cases h:u=D;by_cases j:v=E;by_cases m:w=F;by_cases n:x=G;by_cases q:y=H<;>simp[d,f,g,h,j,m,n,q];simp[d,f,g,h,j,m,n];simp[d,f,g,h,j,m];simp[d,f,g,h,j];simp[d,f,g,h];simp[d,f,g];simp[d,f];simp[d]
def rm{t:aG}{n:Int}(hs:ai aq t<=1048576):ji k (t,n,())=some (aV k t n,()):=by
 rw[dy hk]at hs
 have g:ai (.sl ak) t.2.2.1.1<=1048576:=by
  have:=bj hk t.2.2.1;omega
 simp only[ji,ni,gG hk g,gG hk (l:=t.2.2.2.1) (by omega),kX hk,cz,cE];unfold aV;by_cases a:n<1;simp[a];by_cases d:t.2.1=1;by_cases b:t.1=1;simp[a,d,b];by_cases e:t.1=2;simp[a,d,b,e];by_cases f:t.1=3;simp[a,d,b,e,f];by_cases h:t.1=4<;>simp[a,d,b,e,f,h];by_cases b:t.1=1;by_cases j:t.2.1=2<;>simp[a,d,j,b];simp[a,d,b]
theorem mT{t:aG}:gR k (t,())=some (bN t,()):=by
 simp only[gR,bN,cE];by_cases a:t.1=5<;>by_cases b:t.1=6<;>simp[a,b]
def EK{t:aG}(hs:ai aq t<=1048576):mJ k (t,())=some (lh t.2.2.2.2.2.1&&(decide ((t.2.2.2.2.2.1.length:Int)=t.2.2.2.2.1)&&bI t.2.2.2.2.2.2.1&&(if t.2.1=2 then aZ t.2.2.2.2.1 1 3 else aZ t.2.2.2.2.1 0 2)),()):=by
 rw[dy hk]at hs;have h3:=az (e:= .int .i64) (l:=t.2.2.2.2.2.1);simp only[mJ,aN]
 refine(dt (fun i:Nat=>(t,t.2.2.2.2.2.1,(t.2.2.2.2.2.1.length:Int),(i:Int),())) (fun i=>decide (0<=t.2.2.2.2.2.1.getD i 0)) t.2.2.2.2.2.1.length
  (e:=some (decide ((t.2.2.2.2.2.1.length:Int)=t.2.2.2.2.1)&&bI t.2.2.2.2.2.2.1&&(if t.2.1=2 then aZ t.2.2.2.2.1 1 3 else aZ t.2.2.2.2.1 0 2),())) (no:=some (false,())) ?_ ?_ k 0 (by omega)).trans ?_
 intro G i a;simp only[aK,aC a,a,decide_true,if_true,ec,FH];rw[aX (by omega)];rcases T_ (decide (t.2.2.2.2.2.1.getD i 0<0))with h|h<;>simp only[h,if_true,eG,if_false,auQ,auO];intro G i a;simp only[aK];rw[a_ (by simp;omega)];simp only[jP hk (l:=t.2.2.2.2.2.2.1) (by omega),fw hk,cz,im,cE,cD];by_cases q:(t.2.2.2.2.2.1.length:Int)=t.2.2.2.2.1<;>by_cases p:t.2.1=2<;>cases hb:bI t.2.2.2.2.2.2.1<;>simp[q,p];unfold lh;generalize bA 0 t.2.2.2.2.2.1.length _=b;cases b<;>simp
end
theorem fg{σ ρ:Type}{f:(σ->Option ρ)->σ->Option ρ}(st:Nat->σ)(p:Nat->Bool)(n:Nat){e no:Option ρ}
 (b:∀G i,i<n->f G (st i)=if p i=true then G (st (i+1))else no) (d:∀G,f G (st n)=e):
 ∀(k a:Nat),a<=n->n-a<k->aM k f (st a)=if bA a n p=true then e else no
 |0,_,_,h=>by omega
 |k+1,a,hn,h=>by
  show f (aM k f) (st a)=_;by_cases g:a<n;rw[b _ a g,RS g,fg st p n b d k (a+1) (by omega) (by omega)];cases p a<;>simp;have:a=n:=by omega
  subst this;rw[d,kz (by omega),an rfl]
def Gx{n:Nat}{p:Nat->Bool}:bA 0 (n+1) p=(bA 0 n p&&p n):=by
 rw[auP];simp only[auN,bM];constructor;intro h;exact⟨fun i a b=>h i a (by omega),h n (by omega) (by omega)⟩;rintro⟨a,b⟩ i hi hj;by_cases d:i=n;subst d;exact b;exact a i hi (by omega)
def IJ(st:List au)(seen:List Int):Bool:=bA 0 seen.length (fun i=> !decide (seen.getD i 0>(st.getD i aj.aa).2.1))
def jG(st:List au)(seen:List Int):Bool:=bA 0 seen.length (fun i=>decide (seen.getD i 0=(st.getD i aj.aa).2.1))
def dG(st:List au)(t:aG):Bool:=
 IJ st t.2.2.2.2.2.1&&(!jG st t.2.2.2.2.2.1||decide ((st.take t.2.2.2.2.2.1.length).flatMap aS=t.2.2.2.2.2.2.1))
def mg(k:Nat)(w:ah)(t:aG)(d:aA):Bool:=
 if t.1=1 then
  decide (d.1=1)&&(if t.2.1=2 then decide (d.2.2.1.1=t.2.2.1.1)&&(bD k w.2.2.2.1 t.2.2.1.1).2&&decide ((bD k w.2.2.2.1 t.2.2.1.1).1=t.2.2.1)else decide (d.2.2.1=t.2.2.1)&&cm t.2.2.1)
 else if t.1=2 then decide (d.1=3)&&decide (d.2.2.2.1=t.2.2.2.1)
 else if t.1=3 then decide (d.1=4)&&((if t.2.1=2 then decide ((t.2.2.2.2.2.1.length:Int)=w.1.1)else decide (t.2.2.2.2.1<w.1.1))&&dG w.2.2.2.1 t)
 else if t.1=4 then decide (d.1=6)&&decide (t.2.2.2.2.1<w.1.1)
 else if t.1=5 then decide (d.1=7)&&decide (d.2.2.1=t.2.2.1)
 else decide (d.1=8)&&(decide (d.2.2.2.2.2.1=t.2.2.2.2.2.2.2.1)&&decide (t.2.2.2.2.2.2.2.1<w.2.2.2.2.2.2.2.2.1))
def cP(k:Nat)(w:ah)(t:aG)(d:aA)(n:Int):Bool:=
 cW t n&&(decide (t.1=0)||(decide (t.2.2.2.2.2.2.2.2<(w.2.2.2.2.2.2.2.2.2.2.2.2.2.length:Int))&&(decide (d.2.1=n)&&decide (d.2.2.2.2.2.2.2.2.2.2.2= -1)&&
  decide ((¬d.2.2.2.2.2.2.2.2.2.2.1= -1)↔(t.1=1/\t.2.1=2))&&mg k w t d)))
section
variable{k:Nat}(hk:9223372036854775808<=k)
include hk
def qW{t:aG}(hs:ai aq t<=1048576):
 ai ae t.2.2.1<=1048576/\ai (.sl ak) t.2.2.2.1<=1048576/\t.2.2.2.2.2.1.length<=1048576/\ai (.sl ae) t.2.2.2.2.2.2.1<=1048576/\ai (.sl ak) t.2.2.1.1<=1048576:=by
 rw[dy hk]at hs;have h2:=az (e:= .int .i64) (l:=t.2.2.2.2.2.1);have:=bj hk t.2.2.1;omega
def MC{t:aA}(hs:ai ay t<=1048576):
 ai ae t.2.2.1<=1048576/\ai (.sl ak) t.2.2.2.1<=1048576/\ai (.sl ae) t.2.2.2.2.2.2.2.1<=1048576/\ai (.sl ak) t.2.2.1.1<=1048576:=by
 rw[cU hk]at hs;have:=bj hk t.2.2.1;omega
def Gf{t:aG}{n:Int}(hs:ai aq t<=1048576):mM k (t,n,())=some (cW t n,()):=by
 obtain⟨m,o,p,q,r⟩:=qW hk hs;simp only[mM,aN,fw hk,EK hk hs,iS hk m,mG hk o,Bk hk hs,cz,cD,cE];refine congrArg some (Prod.ext ?_ rfl);simp only[apply_ite Prod.fst];unfold cW;obtain⟨op,pc,a,l,i,seen,got,nn,hh⟩:=t;obtain⟨a1,a2,a3,a4⟩:=a;clear hs m o p q r;have hA:bI ([]:List af)=true:=rfl;have hS:lh ([]:List Int)=true:=rfl;simp only[zT,bU,aZ,nm,avf];rw[auP];by_cases b:op=0;subst b;simp;grind;by_cases d:op=1;subst d;simp;grind;by_cases e:op=2;subst e;simp;grind;by_cases f:op=3;subst f;simp;grind;by_cases g:op=4;subst g;simp;grind;by_cases h:op=5;subst h;simp;grind;by_cases j:op=6;subst j;simp;grind;simp[b,d,e,f,g,h,j]
end
def qN(a b:Int):decide (a>=b)= !decide (a<b):=by by_cases h:a<b<;>simp[h]<;>omega
section
variable{k:Nat}(hk:9223372036854775808<=k)
include hk
theorem Lo(op n:Int):kH k (op,n,())=some (decide (n∈jn op),()):=by
 simp only[kH,bB,cz,beq_iff_eq,jn];split;congr 2;rw[auP];simp;omega;split;congr 2;rw[auP];simp;omega;split;congr 2;rw[auP];simp;omega;split;congr 2;rw[auP];simp;split;congr 2;rw[auP];simp;omega;congr 2;rw[auP];simp
def Ej{d:aA}:mD k (d,())=some (eQ k d,()):=by
 obtain⟨op,task,a,l,i,n,code,got,U,inv,b,res⟩:=d;simp only[mD,bB,cz,cD,Lo hk,eQ,aZ];generalize decide (code∈jn op)=q;refine congrArg some (Prod.ext ?_ rfl);simp only[apply_ite Prod.fst];rw[auP];by_cases e:b= -1<;>by_cases f:res= -1<;>by_cases g:inv<=b<;>by_cases h:b<=res<;>cases q<;>simp[e,f,g,h]<;>omega
def zf{w:ah}{t:aG}(hs:ai aq t<=1048576)(o:ai (.sl aj) w.2.2.2.1<=1048576)(b:(if t.2.1=2 then decide ((t.2.2.2.2.2.1.length:Int)=w.1.1)else decide (t.2.2.2.2.1<w.1.1))=true->t.2.2.2.2.2.1.length<=w.2.2.2.1.length)(d:t.2.1<=2):
 jV k (w,t,())=some ((if t.2.1=2 then decide ((t.2.2.2.2.2.1.length:Int)=w.1.1)else decide (t.2.2.2.2.1<w.1.1))&&dG w.2.2.2.1 t,()):=by
 obtain⟨h1,h2,h3,r,h5⟩:=qW hk hs;simp only[jV,aN]
 have hc:(if(if(decide ((t.2.1:Int)<(2:Int)))=true then decide ((t.2.2.2.2.1:Int)>=w.1.1)else false)=true then true else if((t.2.1:Int)==(2:Int))=true then(((avb t.2.2.2.2.2.1:Nat):Int):Int) != w.1.1 else false)
  = !(if t.2.1=2 then decide ((t.2.2.2.2.2.1.length:Int)=w.1.1)else decide (t.2.2.2.2.1<w.1.1)):=by
  rw[qN,im];by_cases q:t.2.1=2
  ·simp[q]
  ·have q2:t.2.1<2:=by have:=d;omega
   simp[q,q2];exact qN _ _
 rw[hc];rcases T_ (if t.2.1=2 then decide ((t.2.2.2.2.2.1.length:Int)=w.1.1)else decide (t.2.2.2.2.1<w.1.1))with hcc|hcc;rotate_left
 ·rw[hcc];rfl
 have hl:=b hcc;rw[hcc,a_ (by simp)]
 refine(fg (fun i:Nat=>(w,t,bA 0 i (fun i=>decide (t.2.2.2.2.2.1.getD i 0=(w.2.2.2.1.getD i aj.aa).2.1)),(w.2.2.2.1.take i).flatMap aS,t.2.2.2.2.2.1,(t.2.2.2.2.2.1.length:Int),(i:Int),()))
  (fun i=> !decide (t.2.2.2.2.2.1.getD i 0>(w.2.2.2.1.getD i aj.aa).2.1)) t.2.2.2.2.2.1.length
  (e:=some (!jG w.2.2.2.1 t.2.2.2.2.2.1||decide ((w.2.2.2.1.take t.2.2.2.2.2.1.length).flatMap aS=t.2.2.2.2.2.2.1),())) (no:=some (false,())) ?_ ?_ k 0 (by omega) (by omega)).trans ?_
 ·intro G i m;have a:i<w.2.2.2.1.length:=by omega
  have d:=kh hk o a;have f:=gA hk (w.2.2.2.1.take i);unfold bO at f;have hb1:=kF hk (w.2.2.2.1.getD i aj.aa);have g:=cB (e:=aj) w.2.2.2.1 i;have hb3:=az (e:=ae) (l:=(w.2.2.2.1.take i).flatMap aS);have hb4:=az (e:=ae) (l:=aS (w.2.2.2.1.getD i aj.aa))
  have j:decide (((w.2.2.2.1.take i).flatMap aS).length+(aS (w.2.2.2.1.getD i aj.aa)).length<4294967296)=true:=by
   simp only[b_];omega
  simp only[aK,aC m,aC a,m,decide_true,if_true,ec,auR,px hk d,cz,j];rw[aX (by omega),dK aj.aa a,Gx]
  rcases T_ (decide (t.2.2.2.2.2.1.getD i 0>(w.2.2.2.1.getD i aj.aa).2.1))with h|h<;>
   simp only[h,if_true,auQ,auO,eG,if_false,cE,yw]
 ·intro G;simp only[aK,v_,decide_false,eG,if_false];have f:=gA hk (w.2.2.2.1.take t.2.2.2.2.2.1.length);unfold bO at f;have g:=cB (e:=aj) w.2.2.2.1 t.2.2.2.2.2.1.length;rw[pj hk r];show au3 (if((!jG w.2.2.2.1 t.2.2.2.2.2.1)==false)=true then some (decide (t.2.2.2.2.2.2.1=(w.2.2.2.1.take t.2.2.2.2.2.1.length).flatMap aS),())else some (false,())) (fun n:Bool×Unit=>some (if(!jG w.2.2.2.1 t.2.2.2.2.2.1)=true then true else n.1,()))=_
  have p:decide (t.2.2.2.2.2.2.1=(w.2.2.2.1.take t.2.2.2.2.2.1.length).flatMap aS)=decide ((w.2.2.2.1.take t.2.2.2.2.2.1.length).flatMap aS=t.2.2.2.2.2.2.1):=by
   rw[auP];simp only[b_];exact eq_comm
  rw[p];cases jG w.2.2.2.1 t.2.2.2.2.2.1<;>simp
 ·unfold dG;show(if IJ w.2.2.2.1 t.2.2.2.2.2.1=true then _ else _)=_;cases IJ w.2.2.2.1 t.2.2.2.2.2.1<;>simp
end
def Ls{t:aG}{n:Int}(h:cW t n=true):0<=t.2.2.2.2.2.2.2.2/\(t.1=0\/t.1=1\/t.1=2\/t.1=3\/t.1=4\/t.1=5\/t.1=6):=by
 unfold cW at h;grind
def Ra{t:aG}{n:Int}(h:cW t n=true)(e:t.1=3):(t.2.2.2.2.2.1.length:Int)=t.2.2.2.2.1/\0<=t.2.1/\t.2.1<=2:=by
 unfold cW aZ at h;grind
section
variable{k:Nat}(hk:9223372036854775808<=k)
include hk
def Mz{l:List au}{s:List ag}(hs:ai (.sl aj) l<=1048576):(bD k l s).1.1.length<=1048576:=by
 unfold bD;split;simp[bU];rename_i f;obtain⟨_,_,c⟩:=kV (k:=k) (l:=l) (s:=s) f;have b:=kh hk hs c;generalize l.getD (bg k l s).toNat aj.aa=p at b|-;unfold eR;cases hc:eY p (cn k s)with
 |none=>simp[bU]
 |some i=>
  obtain⟨h,_,_⟩:=aR.1 hc;obtain⟨h1,h2⟩:=ga hk b h;dsimp only;cases g:eU (p.2.2.getD i ax.aa).2 s with
  |none=>simp[bU]
  |some j=>
   obtain⟨m,_,_⟩:=aR.1 g;have h3:=dq (e:=ae) (d:=ae.aa) m;exact sr hk (a:=(p.2.2.getD i ax.aa).2.getD j ae.aa) (by omega)
def ix{w:ah}(hs:ai aD w<=1048576):
 ai db w.1<=1048576/\ai (.sl aj) w.2.2.2.1<=1048576/\ai (.sl aW) w.2.2.2.2.1<=1048576/\ai (.sl ae) w.2.2.2.2.2.1<=1048576/\ai (.sl al) w.2.2.2.2.2.2.2.1<=1048576/\
 w.2.2.2.2.2.2.2.2.2.1.length<=1048576/\ai (.sl ae) w.2.2.2.2.2.2.2.2.2.2.2.1<=1048576/\ai (.sl aq) w.2.2.2.2.2.2.2.2.2.2.2.2.1<=1048576/\ai (.sl ay) w.2.2.2.2.2.2.2.2.2.2.2.2.2<=1048576:=by
 rw[iI hk]at hs;have h:=az (e:=aE) (l:=w.2.2.2.2.2.2.2.2.2.1);omega
theorem GY{e:Ty}{l:List e.den}(a:ai e e.aa=0)(hs:ai (.sl e) l<=1048576)(n:Nat):ai e (l.getD n e.aa)<=1048576:=by
 by_cases h:n<l.length;have:=dq (e:=e) (d:=e.aa) h;omega;rw[auJ,List.getElem?_eq_none (by omega),Option.getD_none,a];omega
def A7{w:ah}{t:aG}{d:aA}{n:Int}(hs:ai aD w<=1048576)(hp:(w.2.2.2.1.length:Int)=w.1.1)(q:ai aq t<=1048576)(y:ai ay d<=1048576)(f:cW t n=true):
 kN k (w,t,d,())=some (mg k w t d,()):=by
 obtain⟨_,p,_,_,_,_,_,w8,w9⟩:=ix hk hs;obtain⟨E,t2,t3,t4,F⟩:=qW hk q;obtain⟨G,d2,d3,d4⟩:=MC hk y;have g:=Mz hk (s:=t.2.2.1.1) p;have z:=sr hk G;have d7:=az (e:=ak) (l:=d.2.2.1.1);have d8:=az (e:=ak) (l:=d.2.2.2.1);simp only[kN,oq hk p F,iH hk g,iH hk z,dV hk (a:=d.2.2.1.1) (by omega),dV hk (a:=d.2.2.2.1) (by omega),xU hk E,cz,cE,cD];unfold mg;by_cases r:t.1=1;by_cases b:d.1=1<;>by_cases j:t.2.1=2<;>simp[r,b,j];by_cases B:d.2.2.1.1=t.2.2.1.1<;>cases (bD k w.2.2.2.1 t.2.2.1.1).2<;>by_cases m:(bD k w.2.2.2.1 t.2.2.1.1).1=t.2.2.1<;>simp[m,B];by_cases m:d.2.2.1=t.2.2.1<;>simp[m];by_cases u:t.1=2;by_cases b:d.1=3<;>simp[u,b];by_cases o:t.1=3;obtain⟨e1,e2,H⟩:=Ra f o
 have C:(if t.2.1=2 then decide ((t.2.2.2.2.2.1.length:Int)=w.1.1)else decide (t.2.2.2.2.1<w.1.1))=true->t.2.2.2.2.2.1.length<=w.2.2.2.1.length:=by
  by_cases j:t.2.1=2<;>simp[j]<;>intro h<;>omega
 rw[zf hk q p C H];by_cases b:d.1=4<;>simp[o,b];by_cases v:t.1=4;by_cases b:d.1=6<;>simp[v,b];by_cases x:t.1=5;by_cases b:d.1=7<;>simp[x,b];by_cases b:d.1=8<;>by_cases D:d.2.2.2.2.2.1=t.2.2.2.2.2.2.2.1<;>simp[r,u,o,v,x,b,D]
end
def qu(k:Nat)(w:ah)(j:Nat):Int:=aV k (w.2.2.2.2.2.2.2.2.2.2.2.2.1.getD j aq.aa) w.2.2.2.1.length
def A3(w:ah)(j:Nat):Bool:=bN (w.2.2.2.2.2.2.2.2.2.2.2.2.1.getD j aq.aa)
def oI(k:Nat)(w:ah):Bool:=
 bA 0 w.2.2.2.1.length (fun i=>bA 0 w.2.2.2.2.2.2.2.2.2.2.2.2.1.length (fun j=>decide (qu k w j=i)==decide ((w.2.2.2.1.getD i aj.aa).1=j)))&&
 (bA 0 w.2.2.2.2.2.2.2.2.2.2.2.2.1.length (fun j=>A3 w j==decide (w.2.2.2.2.2.2.1=j))&&aZ w.2.2.2.2.2.2.1 (-1) 4)
section
variable{k:Nat}(hk:9223372036854775808<=k)
include hk
def xI{w:ah}(hs:ai aD w<=1048576):jl k (w,())=some (oI k w,()):=by
 obtain⟨_,w2,_,_,_,_,_,g,w9⟩:=ix hk hs;have hn:=az (e:=aj) (l:=w.2.2.2.1);have hm:=az (e:=aq) (l:=w.2.2.2.2.2.2.2.2.2.2.2.2.1);have a:∀j:Nat,ai aq (w.2.2.2.2.2.2.2.2.2.2.2.2.1.getD j aq.aa)<=1048576:=fun j=>GY hk (e:=aq) rfl g j;simp only[jl,aN]
 refine(fg (fun i:Nat=>(w,w.2.2.2.1,(w.2.2.2.1.length:Int),(i:Int),())) (fun i=>bA 0 w.2.2.2.2.2.2.2.2.2.2.2.2.1.length (fun j=>decide (qu k w j=i)==decide ((w.2.2.2.1.getD i aj.aa).1=j))) w.2.2.2.1.length
  (e:=some (bA 0 w.2.2.2.2.2.2.2.2.2.2.2.2.1.length (fun j=>A3 w j==decide (w.2.2.2.2.2.2.1=j))&&aZ w.2.2.2.2.2.2.1 (-1) 4,())) (no:=some (false,())) ?_ ?_ k 0 (by omega) (by omega)).trans ?_
 intro G i f;simp only[aK,aC f,f,decide_true,if_true,ec]
 refine(fg (fun j:Nat=>(w,(i:Int),w.2.2.2.1.getD i aj.aa,w.2.2.2.1,(w.2.2.2.1.length:Int),(i:Int),w.2.2.2.2.2.2.2.2.2.2.2.2.1,(w.2.2.2.2.2.2.2.2.2.2.2.2.1.length:Int),(j:Int),()))
  (fun j=>decide (qu k w j=i)==decide ((w.2.2.2.1.getD i aj.aa).1=j)) w.2.2.2.2.2.2.2.2.2.2.2.2.1.length
  (e:=G (w,w.2.2.2.1,(w.2.2.2.1.length:Int),((i+1:Nat):Int),())) (no:=some (false,())) ?_ ?_ k 0 (by omega) (by omega)).trans ?_
 intro d j b;simp only[aK,aC b,b,decide_true,if_true,ec,rm hk (a j),cz,cE];rw[aX (by omega)];show(if(!(decide (qu k w j=i)==decide ((w.2.2.2.1.getD i aj.aa).1=j)))=true then _ else _)=_;cases (decide (qu k w j=i)==decide ((w.2.2.2.1.getD i aj.aa).1=(j:Int)))<;>rfl;intro d;simp only[aK,v_,decide_false,eG,if_false];rw[aX (by omega)];rfl;intro G;simp only[aK,v_,decide_false,eG,if_false]
 refine(fg (fun j:Nat=>(w,w.2.2.2.2.2.2.2.2.2.2.2.2.1,(w.2.2.2.2.2.2.2.2.2.2.2.2.1.length:Int),(j:Int),()))
  (fun j=>A3 w j==decide (w.2.2.2.2.2.2.1=j)) w.2.2.2.2.2.2.2.2.2.2.2.2.1.length
  (e:=some (aZ w.2.2.2.2.2.2.1 (-1) 4,())) (no:=some (false,())) ?_ ?_ k 0 (by omega) (by omega)).trans ?_
 intro d j b;simp only[aK,aC b,b,decide_true,if_true,ec,mT hk,cz,cE];rw[aX (by omega)];show(if(!(A3 w j==decide (w.2.2.2.2.2.2.1=j)))=true then _ else _)=_;cases (A3 w j==decide (w.2.2.2.2.2.2.1=(j:Int)))<;>rfl;intro d;simp only[aK,v_,decide_false,eG,if_false,fw hk,cz];cases bA 0 w.2.2.2.2.2.2.2.2.2.2.2.2.1.length (fun j=>A3 w j==decide (w.2.2.2.2.2.2.1=j))<;>simp;unfold oI;cases bA 0 w.2.2.2.1.length (fun i=>bA 0 w.2.2.2.2.2.2.2.2.2.2.2.2.1.length (fun j=>decide (qu k w j=i)==decide ((w.2.2.2.1.getD i aj.aa).1=j)))<;>simp
end
def qO(nn:Int)(h:List aF):Bool:=
 bA 0 h.length (fun i=>decide ((h.getD i aE.aa).2<nn)&&bA 0 i (fun j=> !decide ((h.getD j aE.aa).2=(h.getD i aE.aa).2)))
def tM(w:ah)(g:aw)(j:Nat):Bool:=
 decide ((w.2.2.2.2.2.2.2.2.2.1.getD j aE.aa).2=g.1)&&decide ((w.2.2.2.2.2.2.2.2.2.1.getD j aE.aa).1=ik w.1 g)
def Bu(w:ah)(g:aw):Bool:=
 if decide ((w.2.2.2.2.2.2.2.2.2.2.2.2.1.getD 4 aq.aa).1=6)=true then decide ((w.2.2.2.2.2.2.2.2.2.2.2.2.1.getD 4 aq.aa).2.2.2.2.2.2.2.1=g.1)else false
def fM(w:ah)(g:aw)(n:Nat):Bool:= !bA 0 n (fun j=> !tM w g j)||Bu w g
def tq(w:ah):Bool:=
 bA 0 w.2.2.2.2.2.2.2.1.length (fun i=>(decide ((w.2.2.2.2.2.2.2.1.getD i al.aa).2.2.1<=w.2.2.1)&&
  (decide ((w.2.2.2.2.2.2.2.1.getD i al.aa).2.2.2.1<=w.2.2.1)&&decide ((w.2.2.2.2.2.2.2.1.getD i al.aa).1<w.2.2.2.2.2.2.2.2.1)))&&fM w (w.2.2.2.2.2.2.2.1.getD i al.aa) w.2.2.2.2.2.2.2.2.2.1.length)
def fi(w:ah):Bool:=
 dQ w.2.2.2.2.2.2.2.1 w.1.2.2.2.2.2&&(lj w.2.2.2.2.2.2.2.2.2.1&&(qO w.2.2.2.2.2.2.2.2.1 w.2.2.2.2.2.2.2.2.2.1&&tq w))
def FU(w:ah)(g:aw)(n:Nat):fM w g (n+1)=(if fM w g n=true then true else tM w g n):=by
 unfold fM;rw[Gx];cases Bu w g<;>cases bA 0 n (fun j=> !tM w g j)<;>cases tM w g n<;>rfl
section
variable{k:Nat}(hk:9223372036854775808<=k)
include hk
def Th{c:aY}(h:ai db c<=1048576):c.2.2.2.2.2.length<=1048576:=by
 rw[ng hk]at h;have:=az (e:= .str) (l:=c.2.2.2.2.2);omega
omit hk in
theorem SB{α:Type}(d:α){l:List α}{i j:Nat}(h:j<i):(l.take i).getD j d=l.getD j d:=by
 simp only[auJ,List.getElem?_take,h,if_true]
def xf{w:ah}(hs:ai aD w<=1048576)(r:w.2.2.2.2.2.2.2.2.2.2.2.2.1.length=5):iL k (w,())=some (fi w,()):=by
 obtain⟨u,w2,_,_,v,x,_,w8,w9⟩:=ix hk hs;have s:=Th hk u;have hn:=az (e:=al) (l:=w.2.2.2.2.2.2.2.1);simp only[iL,aN,As hk v s,Ga hk x,cz];unfold fi;cases dQ w.2.2.2.2.2.2.2.1 w.1.2.2.2.2.2 with
 |false=>rfl
 |true=>
  cases lj w.2.2.2.2.2.2.2.2.2.1 with
  |false=>rfl
  |true=>
   simp only[auQ,eG,if_false,beq_self_eq_true,if_true,cz]
   refine(fg (fun i:Nat=>(w,w.2.2.2.2.2.2.2.1,(w.2.2.2.2.2.2.2.1.length:Int),(i:Int),())) (fun i=>(decide ((w.2.2.2.2.2.2.2.1.getD i al.aa).2.2.1<=w.2.2.1)&&
    (decide ((w.2.2.2.2.2.2.2.1.getD i al.aa).2.2.2.1<=w.2.2.1)&&decide ((w.2.2.2.2.2.2.2.1.getD i al.aa).1<w.2.2.2.2.2.2.2.2.1)))&&fM w (w.2.2.2.2.2.2.2.1.getD i al.aa) w.2.2.2.2.2.2.2.2.2.1.length) w.2.2.2.2.2.2.2.1.length
    (e:=some (qO w.2.2.2.2.2.2.2.2.1 w.2.2.2.2.2.2.2.2.2.1,())) (no:=some (false,())) ?_ ?_ k 0 (by omega) (by omega)).trans ?_
   ·intro n i f;have t:decide ((0:Int)<=4/\(4:Int)<(w.2.2.2.2.2.2.2.2.2.2.2.2.1.length:Int))=true:=by rw[r];rfl
    dsimp only;rw[aK,c_ f,an rfl,an (aC f),ec];generalize w.2.2.2.2.2.2.2.1.getD i al.aa=g;simp only[t,decide_true,if_true,auR,cE];have q1:∀a b:Int,decide (a>b)= !decide (a<=b):=fun a b=>by by_cases h:a<=b<;>simp[h]<;>omega
    rw[show decide (g.1>=w.2.2.2.2.2.2.2.2.1)= !decide (g.1<w.2.2.2.2.2.2.2.2.1)from qN _ _,q1,q1];generalize decide (g.2.2.1<=w.2.2.1)=b1;generalize decide (g.2.2.2.1<=w.2.2.1)=b2;generalize decide (g.1<w.2.2.2.2.2.2.2.2.1)=b3;by_cases o:b1=true/\b2=true/\b3=true;rotate_left
    ·cases b1<;>cases b2<;>cases b3<;>first|rfl|(exact absurd o (by simp))
    obtain⟨y,z,B⟩:=o;subst y z B;rw[auV,auV,auV];refine(tR rfl).trans ?_;refine bX (fun j:Nat=>(w,g,fM w g j,w.2.2.2.2.2.2.2.1,(w.2.2.2.2.2.2.2.1.length:Int),(i:Int),w.2.2.2.2.2.2.2.2.2.1,(w.2.2.2.2.2.2.2.2.2.1.length:Int),(j:Int),())) w.2.2.2.2.2.2.2.2.2.1.length (fun q j d=> ?_) (fun q=> ?_) k 0 (by omega) (by omega)
    ·simp only[aK,aC d,d,decide_true,if_true,ec,auR,DY hk];rw[aX (by omega),FU];unfold tM;cases fM w g j<;>by_cases m:(w.2.2.2.2.2.2.2.2.2.1.getD j aE.aa).2=g.1<;>simp only[m,auQ,auO,eG,if_false,if_true,decide_true,decide_false,auV,au8,ave,avc,beq_self_eq_true,cz,beq_iff_eq]<;>rfl
    ·simp only[aK,v_,decide_false,eG,if_false];rw[aX (by omega)];cases fM w g w.2.2.2.2.2.2.2.2.2.1.length<;>rfl
   ·intro G;simp only[aK,v_,decide_false,eG,if_false]
    refine(fg (fun i:Nat=>(w,w.2.2.2.2.2.2.2.2.2.1,(w.2.2.2.2.2.2.2.2.2.1.length:Int),(i:Int),())) (fun i=>decide ((w.2.2.2.2.2.2.2.2.2.1.getD i aE.aa).2<w.2.2.2.2.2.2.2.2.1)&&bA 0 i (fun j=> !decide ((w.2.2.2.2.2.2.2.2.2.1.getD j aE.aa).2=(w.2.2.2.2.2.2.2.2.2.1.getD i aE.aa).2))) w.2.2.2.2.2.2.2.2.2.1.length
     (e:=some (true,())) (no:=some (false,())) ?_ ?_ k 0 (by omega) (by omega)).trans ?_
    ·intro G i f;have p:(w.2.2.2.2.2.2.2.2.2.1.take i).length=i:=by rw[List.length_take];omega
     simp only[aK,aC f,f,decide_true,if_true,ec,qN,p];rcases T_ (decide ((w.2.2.2.2.2.2.2.2.2.1.getD i aE.aa).2<w.2.2.2.2.2.2.2.2.1))with h|h<;>simp only[h,auQ,auO,eG,if_false,if_true,auV,au8];rw[an (by simp only[b_];omega)]
     refine(fg (fun j:Nat=>(w,w.2.2.2.2.2.2.2.2.2.1.getD i aE.aa,w.2.2.2.2.2.2.2.2.2.1,(w.2.2.2.2.2.2.2.2.2.1.length:Int),(i:Int),w.2.2.2.2.2.2.2.2.2.1.take i,(i:Int),(j:Int),())) (fun j=> !decide ((w.2.2.2.2.2.2.2.2.2.1.getD j aE.aa).2=(w.2.2.2.2.2.2.2.2.2.1.getD i aE.aa).2)) i
      (e:=G (w,w.2.2.2.2.2.2.2.2.2.1,(w.2.2.2.2.2.2.2.2.2.1.length:Int),((i+1:Nat):Int),())) (no:=some (false,())) ?_ ?_ k 0 (by omega) (by omega)).trans ?_
     ·intro n j d;simp only[aK,p,aC d,d,decide_true,if_true,ec,cE,SB aE.aa d];rw[aX (by omega)];rcases T_ (decide ((w.2.2.2.2.2.2.2.2.2.1.getD j aE.aa).2=(w.2.2.2.2.2.2.2.2.2.1.getD i aE.aa).2))with m|m<;>simp only[m,auQ,auO,eG,if_false,if_true]
     ·intro n;simp only[aK,v_,decide_false,eG,if_false];rw[aX (by omega)]
     ·rfl
    ·intro n;simp only[aK,v_,decide_false,eG,if_false]
    ·show(if qO w.2.2.2.2.2.2.2.2.1 w.2.2.2.2.2.2.2.2.2.1=true then _ else _)=_;cases qO w.2.2.2.2.2.2.2.2.1 w.2.2.2.2.2.2.2.2.2.1<;>simp
   ·show(if tq w=true then _ else _)=_;cases tq w<;>simp
end
def mZ(k:Nat)(w:ah)(d:aA):Bool:=
 eQ k d&&(decide (d.2.2.2.2.2.2.2.2.2.1<w.2.1)&&(decide (d.2.2.2.2.2.2.2.2.2.2.1<w.2.1)&&decide (d.2.2.2.2.2.2.2.2.2.2.2<w.2.1)))
def oH(k:Nat)(w:ah):Bool:=bA 0 w.2.2.2.2.2.2.2.2.2.2.2.2.2.length (fun i=>mZ k w (w.2.2.2.2.2.2.2.2.2.2.2.2.2.getD i ay.aa))
def mh(w:ah)(t:aG):aA:=w.2.2.2.2.2.2.2.2.2.2.2.2.2.getD t.2.2.2.2.2.2.2.2.toNat ay.aa
def kc(k:Nat)(w:ah):Bool:=bA 0 w.2.2.2.2.2.2.2.2.2.2.2.2.1.length (fun i=>cP k w (w.2.2.2.2.2.2.2.2.2.2.2.2.1.getD i aq.aa) (mh w (w.2.2.2.2.2.2.2.2.2.2.2.2.1.getD i aq.aa)) i)
def lg(k:Nat)(w:ah):Bool:=
 dp k w.2.2.2.1&&(decide ((w.2.2.2.1.length:Int)=w.1.1)&&(decide ((bu w.2.2.2.1:Int)<=w.1.2.1)&&bA 0 (dC (bO w.2.2.2.1)).length (fun i=>cm ((dC (bO w.2.2.2.1)).getD i ae.aa))))
def bE(k:Nat)(w:ah):Bool:=
 cY w.1&&(decide (0<=w.2.1)&&(decide (0<=w.2.2.2.2.2.2.2.2.1)&&(aZ w.2.2.1 0 99899&&(lg k w&&(decide ((w.2.2.2.2.1.length:Int)=w.1.2.2.1)&&(decide ((w.2.2.2.2.2.2.2.2.2.2.2.2.1.length:Int)=5)&&(bI w.2.2.2.2.2.1&&(bI w.2.2.2.2.2.2.2.2.2.2.2.1&&
 (tC w.2.2.2.2.1&&(oH k w&&(kc k w&&(oI k w&&fi w))))))))))))
section
variable{k:Nat}(hk:9223372036854775808<=k)
include hk
def yD{w:ah}(hs:ai aD w<=1048576)(s:(w.2.2.2.1.length:Int)=w.1.1):jj k (w,())=some (oH k w&&kc k w,()):=by
 obtain⟨w1,w2,_,_,w5,w6,_,y,z⟩:=ix hk hs;have hn:=az (e:=ay) (l:=w.2.2.2.2.2.2.2.2.2.2.2.2.2);have hm:=az (e:=aq) (l:=w.2.2.2.2.2.2.2.2.2.2.2.2.1);have b:∀j:Nat,ai ay (w.2.2.2.2.2.2.2.2.2.2.2.2.2.getD j ay.aa)<=1048576:=fun j=>GY hk (e:=ay) rfl z j;have f:∀j:Nat,ai aq (w.2.2.2.2.2.2.2.2.2.2.2.2.1.getD j aq.aa)<=1048576:=fun j=>GY hk (e:=aq) rfl y j;simp only[jj,aN]
 refine(fg (fun i:Nat=>(w,w.2.2.2.2.2.2.2.2.2.2.2.2.2,(w.2.2.2.2.2.2.2.2.2.2.2.2.2.length:Int),(i:Int),())) (fun i=>mZ k w (w.2.2.2.2.2.2.2.2.2.2.2.2.2.getD i ay.aa)) w.2.2.2.2.2.2.2.2.2.2.2.2.2.length
  (e:=some (kc k w,())) (no:=some (false,())) ?_ ?_ k 0 (by omega) (by omega)).trans ?_
 ·intro G i g;dsimp only;rw[aK,c_ g,an rfl,an (aC g),ec,Ej hk,cz,aX (by omega)];generalize w.2.2.2.2.2.2.2.2.2.2.2.2.2.getD i ay.aa=d;rw[qN,qN,qN];unfold mZ;cases eQ k d<;>cases decide (d.2.2.2.2.2.2.2.2.2.1<w.2.1)<;>cases decide (d.2.2.2.2.2.2.2.2.2.2.1<w.2.1)<;>cases decide (d.2.2.2.2.2.2.2.2.2.2.2<w.2.1)<;>rfl
 ·intro G;simp only[aK,v_,decide_false,eG,if_false]
  refine(fg (fun i:Nat=>(w,w.2.2.2.2.2.2.2.2.2.2.2.2.1,(w.2.2.2.2.2.2.2.2.2.2.2.2.1.length:Int),(i:Int),())) (fun i=>cP k w (w.2.2.2.2.2.2.2.2.2.2.2.2.1.getD i aq.aa) (mh w (w.2.2.2.2.2.2.2.2.2.2.2.2.1.getD i aq.aa)) i) w.2.2.2.2.2.2.2.2.2.2.2.2.1.length
   (e:=some (true,())) (no:=some (false,())) ?_ ?_ k 0 (by omega) (by omega)).trans ?_
  ·intro r i g;have n:ai aq (w.2.2.2.2.2.2.2.2.2.2.2.2.1.getD i aq.aa)<=1048576:=f i;dsimp only;rw[aK,c_ g,an rfl,an (aC g),ec,aX (by omega)];generalize w.2.2.2.2.2.2.2.2.2.2.2.2.1.getD i aq.aa=t at*
   have o:ai ay (mh w t)<=1048576:=b _;unfold mh at o|-;generalize w.2.2.2.2.2.2.2.2.2.2.2.2.2.getD t.2.2.2.2.2.2.2.2.toNat ay.aa=d at*
   rw[Gf hk n,cz];unfold cP;by_cases a:cW t i=true;rotate_left
   ·simp[a]
   obtain⟨B,hkind⟩:=Ls a;rw[A7 hk hs s n o a];by_cases h:t.1=0
   ·simp[h,a]
   by_cases p:t.2.2.2.2.2.2.2.2<(w.2.2.2.2.2.2.2.2.2.2.2.2.2.length:Int);rotate_left
   ·have:decide (t.2.2.2.2.2.2.2.2>=(w.2.2.2.2.2.2.2.2.2.2.2.2.2.length:Int))=true:=by simp only[b_];omega
    simp[h,this,p,a]
   have q1:decide (t.2.2.2.2.2.2.2.2>=(w.2.2.2.2.2.2.2.2.2.2.2.2.2.length:Int))=false:=by simp only[d_];omega
   simp only[a,q1,B,and_true,true_and,if_true,auQ,eG,if_false,p,h,decide_true,decide_false,auV,Bool.false_or,cE,im];by_cases m:d.2.1=i;rotate_left
   ·simp[m]
   by_cases q:d.2.2.2.2.2.2.2.2.2.2.2= -1;rotate_left
   ·simp[m,q]
   by_cases u:d.2.2.2.2.2.2.2.2.2.2.1= -1<;>by_cases v:t.1=1<;>by_cases x:t.2.1=2<;>cases mg k w t d<;>simp[m,q,u,v,x]
  ·intro r;simp only[aK,v_,decide_false,eG,if_false]
  ·show(if kc k w=true then _ else _)=_;cases kc k w<;>simp
 ·show(if oH k w=true then _ else _)=_;cases oH k w<;>simp
def sorted_at{l:List au}(hs:ai (.sl aj) l<=1048576){i:Nat}(hi:i<(dC (bO l)).length):ai ae ((dC (bO l)).getD i ae.aa)<=1048576:=by
 have h1:=gA hk l;have h2:=rH (bO l);have h3:=dq (e:=ae) (d:=ae.aa) hi;omega
omit hk in
theorem MN(l:List au):(dC (bO l)).length=bu l:=by
 have:=Gj cV (bO l);unfold dC eW bu;rw[List.length_reverse];exact this
def yu{w:ah}(hs:ai aD w<=1048576)(h8:w.1.2.1<=8):jm k (w,())=some (lg k w,()):=by
 obtain⟨w1,b,_,_,w5,w6,_,w8,w9⟩:=ix hk hs;have hc:=OO hk b;have hsl:=MN w.2.2.2.1;simp only[jm,aN,Dt hk b,vr hk b,cz,im];unfold lg;cases dp k w.2.2.2.1 with
 |false=>rfl
 |true=>
  rcases T_ (decide ((w.2.2.2.1.length:Int)=w.1.1))with hq|hq;rotate_left
  ·rw[hq];rfl
  ·rw[hq];simp only[auQ,eG,if_false,auV,beq_self_eq_true,if_true,cz];by_cases a:(bu w.2.2.2.1:Int)<=w.1.2.1;rotate_left
   ·rw[an (by simp only[b_];omega),decide_eq_false a];rfl
   rw[a_ (by simp only[b_];omega),c_ a,zi hk b (by omega),cz]
   refine(fg (fun i:Nat=>(w,dC (bO w.2.2.2.1),((dC (bO w.2.2.2.1)).length:Int),(i:Int),())) (fun i=>cm ((dC (bO w.2.2.2.1)).getD i ae.aa)) (dC (bO w.2.2.2.1)).length
    (e:=some (true,())) (no:=some (false,())) ?_ ?_ k 0 (by omega) (by omega)).trans ?_
   ·intro G i d;have f:=sorted_at hk b d;dsimp only;rw[aK,c_ d,an rfl,an (aC d),ec,xU hk f,cz,aX (by omega)];cases cm ((dC (bO w.2.2.2.1)).getD i ae.aa)<;>rfl
   ·intro G;simp only[aK,v_,decide_false,eG,if_false]
   ·cases bA 0 (dC (bO w.2.2.2.1)).length (fun i=>cm ((dC (bO w.2.2.2.1)).getD i ae.aa))<;>simp
omit hk in
theorem BC{l:List au}(h:dp k l=true):(1<=l.length/\l.length<=3)/\∀i,i<l.length->aZ (l.getD i aj.aa).1 (-1) 4=true:=by
 unfold dp at h;simp only[auN,bM]at h;obtain⟨d,a⟩:=h;refine⟨?_,fun i b=> ?_⟩;unfold aZ at a;simp only[auN,b_]at a;omega;have:=d i (by omega) b;unfold gl at this;simp only[auN]at this;exact this.2.1
def vM{w:ah}(hs:ai aD w<=1048576):iV k (w,())=some (bE k w,()):=by
 obtain⟨m,w2,n,o,w5,w6,p,w8,w9⟩:=ix hk hs;simp only[iV,FV hk m,fw hk,cz,im,cD];have j:∀a:Int,decide (a<0)= !decide (0<=a):=fun a=>by by_cases h:a<0<;>simp[h]<;>omega
 rw[j,j];unfold bE;by_cases b:cY w.1=true/\0<=w.2.1/\0<=w.2.2.2.2.2.2.2.2.1/\aZ w.2.2.1 0 99899=true/\(w.2.2.2.2.2.2.2.2.2.2.2.2.1.length:Int)=5;rotate_left
 ·have l:(cY w.1&&(decide (0<=w.2.1)&&(decide (0<=w.2.2.2.2.2.2.2.2.1)&&(aZ w.2.2.1 0 99899&&(lg k w&&(decide ((w.2.2.2.2.1.length:Int)=w.1.2.2.1)&&(decide ((w.2.2.2.2.2.2.2.2.2.2.2.2.1.length:Int)=5)&&(bI w.2.2.2.2.2.1&&(bI w.2.2.2.2.2.2.2.2.2.2.2.1&&
   (tC w.2.2.2.2.1&&(oH k w&&(kc k w&&(oI k w&&fi w)))))))))))))=false:=by
   rw[Bool.eq_false_iff];intro h;simp only[auN,b_]at h;exact b ⟨h.1,h.2.1,h.2.2.1,h.2.2.2.1,h.2.2.2.2.2.2.1⟩
  rw[l];refine(an ?_).trans rfl
  have d:¬(cY w.1=true/\decide (0<=w.2.1)=true/\decide (0<=w.2.2.2.2.2.2.2.2.1)=true/\aZ w.2.2.1 0 99899=true/\decide ((w.2.2.2.2.2.2.2.2.2.2.2.2.1.length:Int)=5)=true):=by
   simpa only[b_]using b
  generalize cY w.1=b1 at d|-;generalize decide (0<=w.2.1)=b2 at d|-;generalize decide (0<=w.2.2.2.2.2.2.2.2.1)=b3 at d|-;generalize aZ w.2.2.1 0 99899=b4 at d|-;generalize decide ((w.2.2.2.2.2.2.2.2.2.2.2.2.1.length:Int)=5)=b7 at d|-;clear b l;cases b1
  ·rfl
  cases b2
  ·rfl
  cases b3
  ·rfl
  cases b4
  ·rfl
  cases b7
  ·rfl
  exact absurd ⟨rfl,rfl,rfl,rfl,rfl⟩ d
 obtain⟨g,q,r,s,h7⟩:=b
 have e:w.1.2.1<=8:=by
  unfold cY aZ at g;simp only[auN,b_]at g;omega
 rw[g,c_ q,c_ r,s,c_ h7];simp only[auV];refine(tR rfl).trans ?_;rw[yu hk hs e,cz];rcases T_ (lg k w)with h5|h5;rotate_left
 ·rw[h5];rfl
 have f:dp k w.2.2.2.1=true/\(w.2.2.2.1.length:Int)=w.1.1:=by
  unfold lg at h5;simp only[auN,b_]at h5;exact⟨h5.1,h5.2.1⟩
 rw[h5,zj hk n,jP hk o,jP hk p,yD hk hs f.2,xI hk hs,xf hk hs (by omega)];generalize decide ((w.2.2.2.2.1.length:Int)=w.1.2.2.1)=c1;generalize bI w.2.2.2.2.2.1=c2;generalize bI w.2.2.2.2.2.2.2.2.2.2.2.1=c3;generalize tC w.2.2.2.2.1=c4;generalize oH k w=c5;generalize kc k w=c6;generalize oI k w=c7;generalize fi w=c8;clear h5 f;cases c4<;>cases c1<;>cases c2<;>cases c3<;>cases c5<;>cases c6<;>cases c7<;>first|rfl|(cases c8<;>rfl)
end
def tG(c:aY):List bo:=auW c.2.2.1.toNat ([],false)
def Y0:aY:=(0,0,0,0,0,[])
def su:aG:=(0,0,([],0,0,ByteArray.empty),[],0,[],[],0,0)
def fK(n:Int):List au:=auW (if 1<=n/\n<=3 then n.toNat else 1) (-1,0,[])
def mN(c:aY):ah:=if cY c=true then(c,0,0,fK c.1,tG c,[],-1,[],0,[],[],[],auW 5 su,[])else(Y0,0,0,[],[],[],0,[],0,[],[],[],[],[])
def Li{c:aY}(h:cY c=true):1<=c.2.2.1/\c.2.2.1<=2/\1<=c.1/\c.1<=3:=by
 simp only[cY,aZ,auN,b_]at h;omega
def Bq{α:Type}(x:α)(i:Nat):auW (i+1) x=auW i x++[x]:=by
 rw[List.replicate_succ']
section
variable{k:Nat}(hk:9223372036854775808<=k)
include hk
theorem AP{n:Int}:kG k (n,())=some (fK n,()):=by
 simp only[kG];unfold fK;by_cases a:1<=n/\n<=3;rw[an a];refine bX (fun i=>(n,auW (i+1) ((-1,0,[]):au),())) (n.toNat-1) (fun G i hi=> ?_) (fun G=> ?_) k 0 (by omega) (by omega);simp only;rw[an (by simp;omega),an (by simp;omega),<-Bq];simp only;rw[a_ (by simp;omega)];congr 3;omega;rw[a_ a];obtain⟨k,rfl⟩:∃m,k=m+1:=⟨k-1,by omega⟩
 show(if _ then _ else _)=_;rw[a_ (by simp;omega)];rfl
def Az{c:aY}(h:ai db c<=1048576):kO k (c,())=some (mN c,()):=by
 simp only[kO,aN];rw[Ey hk h,cz];unfold mN;cases hc:cY c with
 |false=>rfl
 |true=>
  have hs:=Li hc;rw[a_ (by simp),CN hk (by omega),cz,AP hk,cz];refine bX (fun i=>(c,_,(c,(0:Int),(0:Int),fK c.1,auW i (([],false):bo),([]:List af),(-1:Int),([]:List aw),(0:Int),([]:List aF),([]:List bq),([]:List af),([]:List aG),([]:List aA)),(i:Int),())) c.2.2.1.toNat (fun G i a=> ?_) (fun G=> ?_) k 0 (by omega) (by omega);simp only;rw[an (by simp;omega),an (by simp;omega),aX (by omega),Bq];simp only;rw[a_ (by simp;omega)];refine bX (fun i=>(c,_,(c,(0:Int),(0:Int),fK c.1,tG c,([]:List af),(-1:Int),([]:List aw),(0:Int),([]:List aF),([]:List bq),([]:List af),auW i su,([]:List aA)),(i:Int),())) 5 (fun G i a=> ?_) (fun G=> ?_) k 0 (by omega) (by omega);simp only;rw[an (by simp;omega),an (by simp;omega),aX (by omega),Bq];rfl;simp only;rw[a_ (by simp)];rfl
end
abbrev cA(w:ah):List aG:=w.2.2.2.2.2.2.2.2.2.2.2.2.1
abbrev bG(w:ah):List aA:=w.2.2.2.2.2.2.2.2.2.2.2.2.2
def O7(w:ah)(t:List aG)(d:List aA):ah:=
 (w.1,IntKind.i64.wrap (w.2.1+1),w.2.2.1,w.2.2.2.1,w.2.2.2.2.1,w.2.2.2.2.2.1,w.2.2.2.2.2.2.1,w.2.2.2.2.2.2.2.1,w.2.2.2.2.2.2.2.2.1,w.2.2.2.2.2.2.2.2.2.1,w.2.2.2.2.2.2.2.2.2.2.1,w.2.2.2.2.2.2.2.2.2.2.2.1,t,d)
def pR(t:aG)(h:Int):aG:=(t.1,t.2.1,t.2.2.1,t.2.2.2.1,t.2.2.2.2.1,t.2.2.2.2.2.1,t.2.2.2.2.2.2.1,t.2.2.2.2.2.2.2.1,h)
def opened(w:ah)(i op:Int)(a:af)(l:List ag)(n:Int):aA:=(op,i,a,l,0,n,0,[],w.2.2.1,w.2.1,-1,-1)
def gf(w:ah)(i:Int)(t:aG)(op:Int):ah:=
 O7 w ((cA w).set i.toNat (pR t (bG w).length)) (bG w++[opened w i op t.2.2.1 t.2.2.2.1 t.2.2.2.2.2.2.2.1])
def xb(w:ah)(i:Int):Bool:=aZ i 0 (((cA w).length:Int)-1)&&decide (((cA w).getD i.toNat aq.aa).1=0)
def cT(w:ah)(i:Int):Bool:=aZ i 0 2&&xb w i
def vY:af:=([],0,0,ByteArray.empty)
def pd:aG:=(4,0,vY,[],0,[],[],0,0)
def oR:aG:=(3,0,vY,[],0,[],[],0,0)
def rY(l:List ag):aG:=(2,0,vY,l,0,[],[],0,0)
def qo(a:af):aG:=(1,0,a,[],0,[],[],0,0)
def ET(k:Nat)(w:ah)(i:Int):Bool:=bE k w&&cT w i
def refused(w:ah)(i:Int)(a:af):ah:=O7 w (cA w) (bG w++[(1,i,a,[],0,0,4,[],w.2.2.1,w.2.1,w.2.1,w.2.1)])
def ym{w:ah}{i:Int}(h:cT w i=true):0<=i/\i<=2/\i.toNat<(cA w).length:=by
 unfold cT xb aZ at h;simp only[auN,b_]at h;omega
def Rm(k:Nat)(x:ah×Int×aG×Unit):Option (ah×Unit):=
 au3 (cS k (x.1,x.2.1,x.2.2.1,())) fun a=>some ((a.1.1,IntKind.i64.wrap (a.1.2.1+(1:Int)),a.1.2.2),())
section
variable{k:Nat}(hk:9223372036854775808<=k)
include hk
def zF{w:ah}(hs:ai aD w<=1048576):(cA w).length<=1048576/\(bG w).length<=1048576:=by
 obtain⟨w1,w2,w3,w4,w5,w6,w7,a,b⟩:=ix hk hs;exact⟨P_ (az (e:=aq)) a,P_ (az (e:=ay)) b⟩
theorem ER{op:Int}(h0:0<=op)(h1:op<=6):eN k (op,())=some (ava [0,1,3,4,6,7,8] op.toNat 0,()):=by
 simp only[eN];rw[an (by simp;omega)]
def Ma{w:ah}{i:Int}{t:aG}(hs:ai aD w<=1048576)(ht:ai aq t<=1048576)(b:0<=t.1)(d:t.1<=6)(hi:0<=i)(hi2:i.toNat<w.2.2.2.2.2.2.2.2.2.2.2.2.1.length):
 Rm k (w,i,t,())=some (gf w i t (ava [0,1,3,4,6,7,8] t.1.toNat 0),()):=by
 have hl:w.2.2.2.2.2.2.2.2.2.2.2.2.2.length<=1048576:=(zF hk hs).2;have hT:=dy hk t;have h2:=az (e:=ak) (l:=t.2.2.2.1);simp only[Rm,cS];rw[vA hk (by omega),cz];simp only[ER hk b d,cR hk (a:=t.2.2.1) (by omega),cz,auZ,au7,Nat.zero_add,T'];rw[an (by simp;omega),an (by simp;omega),an (by simp;omega),cz];rfl
def Hl{w:ah}{i:Int}{t:aG}(hs:ai aD w<=1048576)(b:ai aq t<=1048576)(d:0<=t.1)(e:t.1<=6)(hi:0<=i)(a:i.toNat<w.2.2.2.2.2.2.2.2.2.2.2.2.1.length):
 dF k (w,i,t,())=some (gf w i t (ava [0,1,3,4,6,7,8] t.1.toNat 0),()):=Ma hk hs b d e hi a
def mF{w:ah}{d:aA}(hs:ai aD w<=1048576):bV k (w,d,())=some ((w.1,w.2.1,w.2.2.1,w.2.2.2.1,w.2.2.2.2.1,w.2.2.2.2.2.1,w.2.2.2.2.2.2.1,w.2.2.2.2.2.2.2.1,w.2.2.2.2.2.2.2.2.1,w.2.2.2.2.2.2.2.2.2.1,w.2.2.2.2.2.2.2.2.2.2.1,w.2.2.2.2.2.2.2.2.2.2.2.1,cA w,
 bG w++[(d.1,d.2.1,d.2.2.1,d.2.2.2.1,d.2.2.2.2.1,d.2.2.2.2.2.1,d.2.2.2.2.2.2.1,d.2.2.2.2.2.2.2.1,w.2.2.1,w.2.1,w.2.1,w.2.1)]),()):=by
 have hl:w.2.2.2.2.2.2.2.2.2.2.2.2.2.length<=1048576:=(zF hk hs).2;simp only[bV];rw[an (by simp;omega)]
end
def wo{k:Nat}{w:ah}(h:bE k w=true):dp k w.2.2.2.1=true/\(w.2.2.2.1.length:Int)=w.1.1/\w.2.2.2.2.2.2.2.2.2.2.2.2.1.length=5/\kc k w=true:=by
 unfold bE lg at h;simp only[auN,b_]at h;obtain⟨_,_,_,_,⟨a,b,_⟩,_,h3,_,_,_,_,d,_⟩:=h;exact⟨a,b,by omega,d⟩
section
variable{k:Nat}(hk:9223372036854775808<=k)
include hk
end
def pI(d:aA)(U ti code:Int):aA:=(d.1,d.2.1,d.2.2.1,d.2.2.2.1,d.2.2.2.2.1,d.2.2.2.2.2.1,code,d.2.2.2.2.2.2.2.1,U,d.2.2.2.2.2.2.2.2.2.1,ti,d.2.2.2.2.2.2.2.2.2.2.2)
def nf(d:aA)(ti:Int):aA:=(d.1,d.2.1,d.2.2.1,d.2.2.2.1,d.2.2.2.2.1,d.2.2.2.2.2.1,d.2.2.2.2.2.2.1,d.2.2.2.2.2.2.2.1,d.2.2.2.2.2.2.2.2.1,d.2.2.2.2.2.2.2.2.2.1,d.2.2.2.2.2.2.2.2.2.2.1,ti)
def dN(d:aA):Int:=d.2.2.2.2.2.2.2.2.2.2.1
def GL(d:aA)(U ti code:Int):aA:=nf (if dN d= -1 then pI d U ti code else d) ti
def gK(d:aA)(U inv a res:Int):aA:=(d.1,d.2.1,d.2.2.1,d.2.2.2.1,d.2.2.2.2.1,d.2.2.2.2.2.1,d.2.2.2.2.2.2.1,d.2.2.2.2.2.2.2.1,U,inv,a,res)
def bm(t:aG):Int:=t.2.2.2.2.2.2.2.2
def aL{α:Type}{l:List α}{n:Nat}(a d:α)(h:n<l.length):(l.set n a).getD n d=a:=by
 rw[auJ,List.getElem?_set_self h];rfl
section
variable{k:Nat}(hk:9223372036854775808<=k)
include hk
variable{c:aY}{ti U gr nn:Int}{st:List au}{m_:List bo}{Z l_:List af}{A:List aw}{V:List aF}{n_:List bq}{O:List aG}{T:List aA}
theorem J9{d:aA}(hn:T.length<=1048576):
 bV k ((c,ti,U,st,m_,Z,gr,A,nn,V,n_,l_,O,T),d,())=
  some ((c,ti,U,st,m_,Z,gr,A,nn,V,n_,l_,O,T++[gK d U ti ti ti]),()):=by
 simp only[bV];rw[an (c_ (by simp only[T'];omega))];rfl
theorem rR{i:Nat}(hi:i<O.length):
 js k ((c,ti,U,st,m_,Z,gr,A,nn,V,n_,l_,O,T),(i:Int),())=
  if gr= -1 then some (true,(c,ti,U,st,m_,Z,(i:Int),A,nn,V,n_,l_,O.set i ((O.getD i aq.aa).1,1,(O.getD i aq.aa).2.2),T),())
  else some (false,(c,ti,U,st,m_,Z,gr,A,nn,V,n_,l_,O,T),()):=by
 simp only[js,ec,im];by_cases h:gr= -1;rw[a_ (by simpa using h),an (aC hi),an h];rw[an (by simpa using h),a_ h]
theorem nC{i j:Nat}(hi:i<O.length)(a:j<st.length):
 gF k ((c,ti,U,st,m_,Z,gr,A,nn,V,n_,l_,O,T),(i:Int),(j:Int),())=
  if(st.getD j aj.aa).1= -1 then some (true,(c,ti,U,st.set j ((i:Int),(st.getD j aj.aa).2),m_,Z,gr,A,nn,V,n_,l_,O.set i ((O.getD i aq.aa).1,1,(O.getD i aq.aa).2.2),T),())
  else some (false,(c,ti,U,st,m_,Z,gr,A,nn,V,n_,l_,O,T),()):=by
 simp only[gF,ec,im];rw[an (aC a)];by_cases h:(st.getD j aj.aa).1= -1;rw[a_ (by simpa using h),an (aC a),an (aC hi),an h];rw[an (by simpa using h),a_ h]
end
def yZ(d:aA)(U ti code:Int)(got:List af):aA:=(d.1,d.2.1,d.2.2.1,d.2.2.2.1,d.2.2.2.2.1,d.2.2.2.2.2.1,code,got,U,d.2.2.2.2.2.2.2.2.2.1,ti,d.2.2.2.2.2.2.2.2.2.2.2)
def oc(d:aA)(U ti code:Int)(got:List af):aA:=nf (if dN d= -1 then yZ d U ti code got else d) ti
section
variable{k:Nat}(hk:9223372036854775808<=k)
include hk
variable{c:aY}{ti U gr nn:Int}{st:List au}{m_:List bo}{Z l_:List af}{A:List aw}{V:List aF}{n_:List bq}{O:List aG}{T:List aA}
set_option maxHeartbeats 4000000 in
def eT{i n:Nat}{code:Int}{got:List af}(hi:i<O.length)(a:n<T.length)(d:bm (O.getD i aq.aa)=(n:Int))
 (f:ai (.sl ae) got<=1073741824):
 bR k ((c,ti,U,st,m_,Z,gr,A,nn,V,n_,l_,O,T),(i:Int),code,got,())=
  some ((c,ti,U,st,m_,Z,gr,A,nn,V,n_,l_,O.set i zT,T.set n (oc (T.getD n ay.aa) U ti code got)),()):=by
 unfold bm at d;simp only[bR,ec,d,ek,aN];rw[an (aC hi),an (aC a)];have e:((0,0,(([]:List ag),0,0,ByteArray.empty),([]:List ag),0,([]:List Int),([]:List af),0,0):aG)=zT:=rfl;unfold oc dN;by_cases b:(T.getD n ay.aa).2.2.2.2.2.2.2.2.2.2.1= -1;rw[an (by rw[beq_iff_eq];exact b),ff hk f,cz,an b];simp only[aL _ _ a,auX,auS,aC hi,aC a,if_true,e,nf,yZ];rw[a_ (by rw[beq_iff_eq];exact b),a_ b];simp only[aL _ _ a,auX,auS,aC hi,aC a,if_true,e,nf,yZ]
def qy{i:Nat}{t:aG}{o:Int}(hi:i<O.length)(hn:T.length<=1048576)(ht:ai aq t<=1048576)(a:eN k (t.1,())=some (o,()))(hA:ai ae t.2.2.1<=1048576)(hL:t.2.2.2.1.length<=1048576):
 cS k ((c,ti,U,st,m_,Z,gr,A,nn,V,n_,l_,O,T),(i:Int),t,())=
  some ((c,ti,U,st,m_,Z,gr,A,nn,V,n_,l_,O.set i (t.1,t.2.1,t.2.2.1,t.2.2.2.1,t.2.2.2.2.1,t.2.2.2.2.2.1,t.2.2.2.2.2.2.1,t.2.2.2.2.2.2.2.1,(T.length:Int)),
   T++[(o,(i:Int),t.2.2.1,t.2.2.2.1,0,t.2.2.2.2.2.2.2.1,0,[],U,ti,-1,-1)]),()):=by
 simp only[cS,vA hk (show ai aq t<=1073741824 by omega),cz,a,cR hk (show ai ae t.2.2.1<=1073741824 by omega),ec];rw[an (aC hi),an (c_ (by simp only[au7];omega)),an (c_ (by simp only[T'];omega))];rfl
end
def eC(s x:Bool)(d:aA)(U ti code:Int)(got:List af):aA:=if(s||x)=true then oc d U ti code got else GL d U ti code
def qZ(k:Nat)(c:aY)(st:List au)(a:af):Bool:= !(bD k st a.1).2&&decide (c.2.1<=(bu st:Int))
def bL(st:List au)(j:Nat)(x:Int):List au:=st.set j (x,(st.getD j aj.aa).2)
def tick(ti:Int):Int:=IntKind.i64.wrap (ti+1)
def oE(i:Int)(a:af):aA:=(2,i,a,[],0,0,8,[],0,0,0,0)
def ey(w:ah)(i j:Nat):Bool×ah:=
 match w with
 |(c,ti,U,st,m_,Z,gr,A,nn,V,n_,l_,O,T)=>
  if(st.getD j aj.aa).1= -1 then(true,(c,ti,U,bL st j i,m_,Z,gr,A,nn,V,n_,l_,O.set i ((O.getD i aq.aa).1,1,(O.getD i aq.aa).2.2),T))else(false,w)
def bC(r:Bool×ah):Bool×ah:=if r.1=true then(true,(r.2.1,tick r.2.2.1,r.2.2.2))else r
def pA(s:Bool)(k:Nat)(w:ah)(i:Nat):Bool×ah:=
 match w with
 |(c,ti,U,st,m_,Z,gr,A,nn,V,n_,l_,O,T)=>
  let t:=O.getD i aq.aa
  let n:=(bm t).toNat
  let j:=(bg k st t.2.2.1.1).toNat
  let d:=T.getD n ay.aa
  if t.2.1=0 then ey w i j
  else if t.2.1=1 then
   if qZ k c st t.2.2.1=true then(true,(c,ti,U,bL st j (-1),m_,Z,gr,A,nn,V,n_,l_,O.set i zT,T.set n (eC s false d U ti 3 [])))
   else(true,(c,ti,U,(dn k st t.2.2.1).1,m_,Z,gr,A,nn,V,n_,l_,O.set i (t.1,2,(bD k (dn k st t.2.2.1).1 t.2.2.1.1).1,t.2.2.2),T.set n (pI d U ti (if(dn k st t.2.2.1).2=true then 1 else 2))))
  else(true,(c,ti,U,bL st j (-1),m_.map (mU t.2.2.1),Z++[t.2.2.1],gr,A,nn,V,n_,l_++[t.2.2.1],O.set i zT,(T++[gK (oE i t.2.2.1) U ti ti ti]).set n (nf d ti)))
def ia(s:Bool)(k:Nat)(w:ah)(i:Nat):Bool×ah:=bC (pA s k w i)
def pN{α:Type}{l:List α}{n:Nat}(x d:α)(h:n<l.length):(l++[x]).getD n d=l.getD n d:=by
 rw[auJ,auJ,List.getElem?_append_left h]
def KL{α:Type}{b:Bool}{a cap:Int}{X Y:Option α}:(au3 (if((!b)==true)=true then some (a,())else some (0,())) fun(r:Int×Unit)=>if(if(!b)=true then decide (r.1>=cap)else false)=true then X else Y)=
 if(!b&&decide (cap<=a))=true then X else Y:=by cases b<;>simp
section
variable{k:Nat}(hk:9223372036854775808<=k)
include hk
variable{c:aY}{ti U gr nn:Int}{st:List au}{m_:List bo}{Z l_:List af}{A:List aw}{V:List aF}{n_:List bq}{O:List aG}{T:List aA}
def eV(hs:ai aD (c,ti,U,st,m_,Z,gr,A,nn,V,n_,l_,O,T)<=1048576):
 ai db c+ai (.sl aj) st+ai (.sl aW) m_+ai (.sl ae) Z+ai (.sl al) A+ai (.sl aE) V+ai (.sl cw) n_+ai (.sl ae) l_+ai (.sl aq) O+ai (.sl ay) T<=1048576:=by
 rw[iI hk]at hs;exact hs
theorem D4{l:List au}{s:List ag}(h:l.length≠0):∃j:Nat,j<l.length/\bg k l s=(j:Int):=by
 obtain⟨h0,h1,a⟩:=kV (k:=k) (l:=l) (s:=s) h;exact⟨(bg k l s).toNat,a,by omega⟩
def nr{i j:Nat}{t:aG}(hi:i<O.length)(a:O.getD i aq.aa=t)(b:ai (.sl ak) t.2.2.1.1<=1048576)(d:bg k st t.2.2.1.1=(j:Int)):
 gI k ((c,ti,U,st,m_,Z,gr,A,nn,V,n_,l_,O,T),(i:Int),())=some ((j:Int),()):=by
 simp only[gI,ec,a];rw[an (aC hi),lK hk b,cz,d]
set_option maxHeartbeats 4000000 in
def zv{i n j:Nat}{t:aG}{d:aA}(hs:ai aD (c,ti,U,st,m_,Z,gr,A,nn,V,n_,l_,O,T)<=1048576)(hi:i<O.length)(b:O.getD i aq.aa=t)(q:t.1=1)
 (s:j<st.length) (r:bg k st t.2.2.1.1=(j:Int)) (g:n<T.length) (m:bm t=(n:Int)) (h:T.getD n ay.aa=d) (o:t.2.1=1):
 jW k ((c,ti,U,st,m_,Z,gr,A,nn,V,n_,l_,O,T),(i:Int),())=
  some ((pA true k (c,ti,U,st,m_,Z,gr,A,nn,V,n_,l_,O,T) i).2,()):=by
 have hsum:=eV hk hs;have p:=dq (e:=aq) (d:=aq.aa) hi;rw[b]at p;have hdl:=az (e:=ay) (l:=T);have hta:=dy hk t;have htA:=bj hk t.2.2.1;have f:=m;unfold bm at f;simp only[jW,ec,b,f,aN,ek];rw[an (aC hi),nr hk hi b (by omega) r,cz,jk hk (by omega) (by omega),cz,C6 hk (by omega),KL];unfold pA;simp only[b,m,h,r,ec,o,qZ];rw[a_ (show¬(1:Int)=0 by decide)];cases hb:(!(bD k st t.2.2.1.1).2&&decide (c.2.1<=(bu st:Int)))with
 |true=>
  rw[an rfl,an rfl,an (aC s),eT hk hi g (by rw[b];exact m) (by simp[ai]),cz,h];rfl
 |false=>
  have hpt:=Mu hk (l:=st) (a:=t.2.2.1);rw[a_ auY,a_ auY,AA hk (by omega) (by omega),cz,an (aC g)];cases hf:(dn k st t.2.2.1).2 with
  |true=>
   rw[an rfl];dsimp only;rw[jk hk (by omega) (by omega),cz,an (aC hi),auS,an (aC hi)];simp only[auX,aL _ _ hi,aL _ _ g,ec,b,h,q];rfl
  |false=>
   rw[a_ auY];dsimp only;rw[jk hk (by omega) (by omega),cz,an (aC hi),auS,an (aC hi)];simp only[auX,aL _ _ hi,aL _ _ g,ec,b,h,q];rfl
set_option maxHeartbeats 4000000 in
def Ca{i n j:Nat}{t:aG}{d:aA}(hs:ai aD (c,ti,U,st,m_,Z,gr,A,nn,V,n_,l_,O,T)<=1048576)(hi:i<O.length)(a:O.getD i aq.aa=t)(o:t.1=1)
 (g:j<st.length) (f:bg k st t.2.2.1.1=(j:Int)) (s:n<T.length) (h:bm t=(n:Int)) (m:T.getD n ay.aa=d) (p:t.2.1=0\/t.2.1=1\/t.2.1=2)
 (u:t.2.1=2->dN d≠-1):
 lY k ((c,ti,U,st,m_,Z,gr,A,nn,V,n_,l_,O,T),(i:Int),())=
  some ((ia true k (c,ti,U,st,m_,Z,gr,A,nn,V,n_,l_,O,T) i).1,(ia true k (c,ti,U,st,m_,Z,gr,A,nn,V,n_,l_,O,T) i).2,()):=by
 have hsum:=eV hk hs;have q:=dq (e:=aq) (d:=aq.aa) hi;rw[a]at q;have hdl:=az (e:=ay) (l:=T);have hfl:=az (e:=ae) (l:=Z);have hsl:=az (e:=ae) (l:=l_);have htl:=az (e:=aq) (l:=O);have hta:=dy hk t;have htA:=bj hk t.2.2.1;simp only[lY,ec,a,o,aN,ek,cE,im];rw[an (aC hi)];unfold ia;rcases p with b|b|b;rw[b,an (by decide),nr hk hi a (by omega) f,cz];dsimp only;rw[an (aC g),an (aC g),an (aC hi)];unfold pA ey bC;simp only[a,h,m,f,ec,b,o];split<;>simp_all[tick,bL];rw[b,a_ (by decide),an (by decide),zv hk hs hi a o g f s h m b,cz]
 have v:(pA true k (c,ti,U,st,m_,Z,gr,A,nn,V,n_,l_,O,T) i).1=true:=by
  unfold pA;simp only[a,b];rw[a_ (by decide)];simp only[if_true];split<;>rfl
 unfold bC;rw[v];rfl;rw[b,a_ (by decide),a_ (by decide)];have r:br k (t.2.2.1,())=some (t.2.2.1,()):=cR hk (by omega);simp only[oG,ec,a,r,cz]
 rw[an (aC hi),nr hk hi a (by omega) f,cz,an (c_ (by simp only[T'];omega)),an (c_ (by simp only[T'];omega)),
  Cz hk (by omega) (by omega),cz,J9 hk (by omega),cz]
 dsimp only;rw[an (aC g),eT (n:=n) hk hi (by rw[auU,T'];omega) (by rw[a];exact h) (by simp[ai]),cz,cz,pN _ _ s,m];unfold oc pA;simp only[a,h,m,f,ec,b];rw[a_ (u b)];rfl
end
def lz(s:Bool)(k:Nat)(w:ah)(i:Nat):Bool×ah:=
 match w with
 |(c,ti,U,st,m_,Z,gr,A,nn,V,n_,l_,O,T)=>
  let t:=O.getD i aq.aa
  let n:=(bm t).toNat
  let j:=(bg k st t.2.2.2.1).toNat
  let d:=T.getD n ay.aa
  if t.2.1=0 then ey w i j
  else if(bD k st t.2.2.2.1).2=true then(true,(c,ti,U,bL st j (-1),m_,Z,gr,A,nn,V,n_,l_,O.set i zT,T.set n (eC s true d U ti 5 [(bD k st t.2.2.2.1).1])))
  else(true,(c,ti,U,bL st j (-1),m_,Z,gr,A,nn,V,n_,l_,O.set i zT,T.set n (eC s false d U ti 6 [])))
section
variable{k:Nat}(hk:9223372036854775808<=k)
include hk
variable{c:aY}{ti U gr nn:Int}{st:List au}{m_:List bo}{Z l_:List af}{A:List aw}{V:List aF}{n_:List bq}{O:List aG}{T:List aA}
def Nv{l:List au}{s:List ag}:ai ae (bD k l s).1<=ai (.sl aj) l:=by
 have a:ai ae bU=0:=by rw[bj hk];rfl
 unfold bD;split;rw[a];omega;rename_i b;obtain⟨_,_,c⟩:=kV (k:=k) (l:=l) (s:=s) b;have f:=dq (e:=aj) (d:=aj.aa) c;generalize l.getD (bg k l s).toNat aj.aa=p at f|-;have h3:=dj hk p;unfold eR;cases hc:eY p (cn k s)with
 |none=>dsimp only;rw[a];omega
 |some i=>
  obtain⟨h,_,_⟩:=aR.1 hc;have h4:=dq (e:=ax) (d:=ax.aa) h;have h5:=df hk (p.2.2.getD i ax.aa);dsimp only;cases g:eU (p.2.2.getD i ax.aa).2 s with
  |none=>dsimp only;rw[a];omega
  |some j=>
   obtain⟨m,_,_⟩:=aR.1 g;have h6:=dq (e:=ae) (d:=ae.aa) m;dsimp only;omega
set_option maxHeartbeats 4000000 in
def Ed{i n j:Nat}{t:aG}{d:aA}(hs:ai aD (c,ti,U,st,m_,Z,gr,A,nn,V,n_,l_,O,T)<=1048576)(hi:i<O.length)(a:O.getD i aq.aa=t)(r:t.1=2)
 (o:j<st.length) (p:bg k st t.2.2.2.1=(j:Int)) (q:n<T.length) (b:bm t=(n:Int)) (f:T.getD n ay.aa=d) (g:t.2.1=0\/t.2.1=1):
 mw k ((c,ti,U,st,m_,Z,gr,A,nn,V,n_,l_,O,T),(i:Int),())=
  some ((lz true k (c,ti,U,st,m_,Z,gr,A,nn,V,n_,l_,O,T) i).1,(lz true k (c,ti,U,st,m_,Z,gr,A,nn,V,n_,l_,O,T) i).2,()):=by
 have hsum:=eV hk hs;have h:=dq (e:=aq) (d:=aq.aa) hi;rw[a]at h;have hta:=dy hk t;have hfa:=Nv hk (l:=st) (s:=t.2.2.2.1);simp only[mw,ec,a,cE];rw[an (aC hi),lK hk (by omega),cz,p];unfold lz;simp only[a,b,f,p,ec];rcases g with m|m;rw[m,an (by decide),nC hk hi o,an rfl];unfold ey;simp only[a,r];split<;>simp[bL];rw[m,a_ (by decide),a_ (by decide),jk hk (by omega) (by omega),cz,an (aC o)];cases hb:(bD k st t.2.2.2.1).2 with
 |true=>
  have u:ai (.sl ae) [(bD k st t.2.2.2.1).1]<=1073741824:=by
   rw[bW (e:=ae),bd (e:=ae)];omega
  rw[an rfl,an rfl,eT hk hi q (by rw[a];exact b) u,cz,f];rfl
 |false=>
  rw[a_ auY,a_ auY,eT hk hi q (by rw[a];exact b) (by simp[ai]),cz,f];rfl
end
def ky(st:List au)(t:aG)(j:Nat):aG:=
 (t.1,if j+1=st.length then 2 else 0,t.2.2.1,t.2.2.2.1,((j+1:Nat):Int),t.2.2.2.2.2.1++[(st.getD j aj.aa).2.1],t.2.2.2.2.2.2.1++aS (st.getD j aj.aa),t.2.2.2.2.2.2.2)
def oX(n:Int):aG:=(3,0,bU,[],0,[],[],0,n)
def fx(s:Bool)(k:Nat)(w:ah)(i:Nat):Bool×ah:=
 match w with
 |(c,ti,U,st,m_,Z,gr,A,nn,V,n_,l_,O,T)=>
  let t:=O.getD i aq.aa
  let n:=(bm t).toNat
  let j:=t.2.2.2.2.1.toNat
  let d:=T.getD n ay.aa
  if t.2.1=0 then ey w i j
  else if t.2.1=1 then(true,(c,ti,U,bL st j (-1),m_,Z,gr,A,nn,V,n_,l_,O.set i (ky st t j),T))
  else if jG st t.2.2.2.2.2.1=true then(true,(c,ti,U,st,m_,Z,gr,A,nn,V,n_,l_,O.set i zT,T.set n (eC s true d U ti 8 (dC t.2.2.2.2.2.2.1))))
  else(true,(c,ti,U,st,m_,Z,gr,A,nn,V,n_,l_,O.set i (oX n),T))
section
variable{k:Nat}(hk:9223372036854775808<=k)
include hk
variable{c:aY}{ti U gr nn:Int}{st:List au}{m_:List bo}{Z l_:List af}{A:List aw}{V:List aF}{n_:List bq}{O:List aG}{T:List aA}
end
def vd(s:Bool)(k:Nat)(w:ah)(i:Nat):Bool×ah:=
 match w with
 |(c,ti,U,st,m_,Z,gr,A,nn,V,n_,l_,O,T)=>
  if(O.getD i aq.aa).1=2 then lz s k w i else fx s k w i
def kY(s:Bool)(k:Nat)(w:ah)(i:Nat):Bool×ah:=bC (vd s k w i)
def I6{r:Bool×ah}:(if r.1=true then some (r.1,(r.2.1,IntKind.i64.wrap (r.2.2.1+1),r.2.2.2),())else some (r.1,r.2,()))=some ((bC r).1,(bC r).2,()):=by
 obtain⟨b,w⟩:=r;cases b<;>rfl
section
variable{k:Nat}(hk:9223372036854775808<=k)
include hk
variable{c:aY}{ti U gr nn:Int}{st:List au}{m_:List bo}{Z l_:List af}{A:List aw}{V:List aF}{n_:List bq}{O:List aG}{T:List aA}
set_option maxHeartbeats 8000000 in
def CE{i j:Nat}{t:aG}(hs:ai aD (c,ti,U,st,m_,Z,gr,A,nn,V,n_,l_,O,T)<=1048576)(hi:i<O.length)(f:O.getD i aq.aa=t)
 (g:t.2.2.2.2.1=(j:Int)) (a:j<st.length):
 lW k ((c,ti,U,st,m_,Z,gr,A,nn,V,n_,l_,O,T),(i:Int),())=some ((c,ti,U,bL st j (-1),m_,Z,gr,A,nn,V,n_,l_,O.set i (ky st t j),T),()):=by
 have hsum:=eV hk hs;have b:=dq (e:=aq) (d:=aq.aa) hi;rw[f]at b;have hstl:=az (e:=aj) (l:=st);have hta:=dy hk t;have hsl:=az (e:= .int .i64) (l:=t.2.2.2.2.2.1);have hgl:=az (e:=ae) (l:=t.2.2.2.2.2.2.1);have hpj:=dq (e:=aj) (d:=aj.aa) a;have hai:=kF hk (st.getD j aj.aa);have hal:=az (e:=ae) (l:=aS (st.getD j aj.aa));simp only[lW,ec,f,g,ek,cE,auX,aL _ _ hi]
 rw[an (aC hi),an (aC a),an (c_ (by simp only[T'];omega)),an (by simp),an (aC a),qI hk (by omega),cz,
  an (c_ (by dsimp only;omega)),an (by simp),aX (by omega)]
 unfold ky;by_cases e:j+1=st.length;rw[an (c_ (by omega)),an (aC a),an e];rfl;rw[a_ (by simp;omega),an (aC a),a_ e];rfl
set_option maxHeartbeats 8000000 in
def AY{i n:Nat}{t:aG}{d:aA}(hs:ai aD (c,ti,U,st,m_,Z,gr,A,nn,V,n_,l_,O,T)<=1048576)(hi:i<O.length)(b:O.getD i aq.aa=t)(hp:t.1=3)
 (f:t.2.2.2.2.2.1.length=st.length) (r:n<T.length) (g:bm t=(n:Int)) (p:T.getD n ay.aa=d) (j:t.2.1=2):
 kR k ((c,ti,U,st,m_,Z,gr,A,nn,V,n_,l_,O,T),(i:Int),())=
  some ((fx true k (c,ti,U,st,m_,Z,gr,A,nn,V,n_,l_,O,T) i).2,()):=by
 have hsum:=eV hk hs;have m:=dq (e:=aq) (d:=aq.aa) hi;rw[b]at m;have hta:=dy hk t;have hstl:=az (e:=aj) (l:=st);have hso:=rH t.2.2.2.2.2.2.1;have a:=g;unfold bm at a;unfold fx;simp only[b,g,p,j,ec];rw[a_ (show¬(2:Int)=0 by decide),a_ (show¬(2:Int)=1 by decide)];simp only[kR,ec,b,aN];rw[an (aC hi)]
 refine(fg (fun q:Nat=>((c,ti,U,st,m_,Z,gr,A,nn,V,n_,l_,O,T),(i:Int),t,(q:Int),())) (fun q=>decide (t.2.2.2.2.2.1.getD q 0=(st.getD q aj.aa).2.1)) st.length
  (e:=some ((c,ti,U,st,m_,Z,gr,A,nn,V,n_,l_,O.set i zT,T.set n (eC true true d U ti 8 (dC t.2.2.2.2.2.2.1))),())) (no:=some ((c,ti,U,st,m_,Z,gr,A,nn,V,n_,l_,O.set i (oX n),T),())) ?_ ?_ k 0 (by omega) (by omega)).trans ?_
 intro G q o;dsimp only;rw[aK,c_ o,an rfl,an (aC o),an (aC (by omega)),an (aC hi),ec,aX (by omega),im];by_cases e:t.2.2.2.2.2.1.getD q 0=(st.getD q aj.aa).2.1;rw[c_ e,c_ e.symm];rfl;rw[decide_eq_false e,decide_eq_false (fun h=>e h.symm)];simp only[auO,if_true,ec];rw[a];rfl;intro G;simp only[aK,v_,decide_false,eG,if_false];rw[GB hk (by omega),cz,eT hk hi r (by rw[b];exact g) (by dsimp only;omega),cz,p];rfl;unfold jG;rw[f];cases bA 0 st.length (fun q=>decide (t.2.2.2.2.2.1.getD q 0=(st.getD q aj.aa).2.1))<;>rfl
set_option maxHeartbeats 8000000 in
def rQ{i n j:Nat}{t:aG}{d:aA}(hs:ai aD (c,ti,U,st,m_,Z,gr,A,nn,V,n_,l_,O,T)<=1048576)(hi:i<O.length)(e:O.getD i aq.aa=t)(a:t.1=2\/t.1=3)
 (l:(t.1=2\/t.2.1≠2)->j<st.length) (f:if t.1=2 then bg k st t.2.2.2.1=(j:Int)else t.2.2.2.2.1=(j:Int)) (m:t.1=3->t.2.1=2->t.2.2.2.2.2.1.length=st.length) (p:n<T.length) (q:bm t=(n:Int)) (r:T.getD n ay.aa=d)
 (o:t.2.1=0\/t.2.1=1\/t.1=3/\t.2.1=2):
 jx k ((c,ti,U,st,m_,Z,gr,A,nn,V,n_,l_,O,T),(i:Int),())=
  some ((kY true k (c,ti,U,st,m_,Z,gr,A,nn,V,n_,l_,O,T) i).1,(kY true k (c,ti,U,st,m_,Z,gr,A,nn,V,n_,l_,O,T) i).2,()):=by
 unfold kY vd;simp only[jx,aN,ec,e];rw[an (aC hi)];rcases a with a|a;rw[a,an (by decide),an rfl,Ed hk hs hi e a (l (.inl a)) (by rw[an a]at f;exact f) p q r (by omega),cz];exact I6;rw[a,a_ (by decide),a_ (show¬(3:Int)=2 by decide),an (aC hi)];rw[a_ (by omega)]at f;rcases o with b|b|⟨_,b⟩;rw[b,an (by decide),an (aC hi),f,nC hk hi (l (.inr (by omega)))]
 have g:fx true k (c,ti,U,st,m_,Z,gr,A,nn,V,n_,l_,O,T) i=ey (c,ti,U,st,m_,Z,gr,A,nn,V,n_,l_,O,T) i j:=by
  unfold fx;simp only[e,b,f,ec,if_true]
 rw[g];unfold ey;simp only[e];by_cases h:(st.getD j aj.aa).1= -1;rw[an h,an h];rfl;rw[a_ h,a_ h];rfl;rw[b,a_ (by decide),an (aC hi),an (by decide),CE hk hs hi e f (l (.inr (by omega))),cz]
 have g:fx true k (c,ti,U,st,m_,Z,gr,A,nn,V,n_,l_,O,T) i=(true,(c,ti,U,bL st j (-1),m_,Z,gr,A,nn,V,n_,l_,O.set i (ky st t j),T)):=by
  unfold fx;simp only[e,b,f,ec,if_true];rw[a_ (show¬(1:Int)=0 by decide)]
 rw[g];rfl;rw[b,a_ (by decide),an (aC hi),a_ (by decide),AY hk hs hi e a (m a b) p q r b,cz]
 have g:(fx true k (c,ti,U,st,m_,Z,gr,A,nn,V,n_,l_,O,T) i).1=true:=by
  unfold fx;simp only[e,b];rw[a_ (show¬(2:Int)=0 by decide),a_ (show¬(2:Int)=1 by decide)];split<;>rfl
 unfold bC;rw[g];rfl
end
def iA(i j:Int)(got:List af):aA:=(5,i,bU,[],j,0,8,got,0,0,0,0)
def qa(s:Bool)(k:Nat)(w:ah)(i:Nat):Bool×ah:=
 match w with
 |(c,ti,U,st,m_,Z,gr,A,nn,V,n_,l_,O,T)=>
  let t:=O.getD i aq.aa
  let n:=(bm t).toNat
  let j:=t.2.2.2.2.1.toNat
  let d:=T.getD n ay.aa
  let p:=st.getD j aj.aa
  if t.2.1=0 then ey w i j
  else(true,(c,ti,U,st.set j (-1,(dR p U).2),m_,Z,gr,A,nn,V,n_,l_,
   O.set i (if j+1=st.length then zT else(t.1,0,t.2.2.1,t.2.2.2.1,((j+1:Nat):Int),t.2.2.2.2.2)),
   if j+1=st.length then(T++[gK (iA i j (dg U p.2.2)) U ti ti ti]).set n (eC s false d U ti 8 [])else T++[gK (iA i j (dg U p.2.2)) U ti ti ti]))
def fu(s:Bool)(k:Nat)(w:ah)(i:Nat):Bool×ah:=bC (qa s k w i)
section
variable{k:Nat}(hk:9223372036854775808<=k)
include hk
variable{c:aY}{ti U gr nn:Int}{st:List au}{m_:List bo}{Z l_:List af}{A:List aw}{V:List aF}{n_:List bq}{O:List aG}{T:List aA}
def Oq{U:Int}(l:List aP):ai (.sl ae) (dg U l)<=ai (.sl ax) l:=
 jS hk (e:=ax) (f:=ae) (g:=fun c=>gD U c.2) (fun x=>by
  have h1:=df hk x;have h2:=wY hk (U:=U) (l:=x.2);omega) l
set_option maxHeartbeats 8000000 in
def B5{i n j:Nat}{t:aG}{d:aA}(hs:ai aD (c,ti,U,st,m_,Z,gr,A,nn,V,n_,l_,O,T)<=1048576)(hi:i<O.length)(b:O.getD i aq.aa=t)(p:t.1=4)
 (h:t.2.2.2.2.1=(j:Int)) (a:j<st.length) (q:n<T.length) (m:bm t=(n:Int)) (o:T.getD n ay.aa=d) (f:t.2.1=0\/t.2.1=1):
 jz k ((c,ti,U,st,m_,Z,gr,A,nn,V,n_,l_,O,T),(i:Int),())=
  some ((fu true k (c,ti,U,st,m_,Z,gr,A,nn,V,n_,l_,O,T) i).1,(fu true k (c,ti,U,st,m_,Z,gr,A,nn,V,n_,l_,O,T) i).2,()):=by
 have hsum:=eV hk hs;have hdl:=az (e:=ay) (l:=T);have hstl:=az (e:=aj) (l:=st);have hpj:=dq (e:=aj) (d:=aj.aa) a;have hgl:=Oq hk (U:=U) (st.getD j aj.aa).2.2;have hpp:=dj hk (st.getD j aj.aa);unfold fu qa;simp only[b,m,o,h,ec];simp only[jz,ec,b,h,ek,aN,cE,im];rw[an (aC hi),an (aC hi)];rcases f with g|g;rw[g,an (by decide),nC hk hi a,an rfl];unfold ey bC;simp only[b,p];split<;>simp[bL,tick];rw[g,a_ (by decide),an (aC a),CG hk (by omega),cz,an (aC a),ff hk (by dsimp only;omega),cz];dsimp only;rw[J9 hk (by omega),cz];simp only[auX,aL _ _ hi,aL _ _ a,auS,b];rw[a_ (show¬(1:Int)=0 by decide),an (aC hi),an (aC hi),aX (by omega)];by_cases e:j+1=st.length;rw[an (c_ (by omega)),an e,an e];rw[eT (n:=n) hk (by rw[auS];exact hi) (by rw[auU,T'];omega) (by rw[aL _ _ hi];exact m) (by simp[ai]),cz,pN _ _ q,o,auX];rfl;rw[a_ (by simp;omega),a_ e,a_ e];rfl
end
section
variable{k:Nat}(hk:9223372036854775808<=k)
include hk
theorem Qt{b:List Int}(g:b.length<=1048576):Dr (nI k (b,())) (fun r=>bn r.1):=by
 simp only[nI];refine Nz (fun s=>s.1=b) (fun s d=>dA ⟨by rw[d];exact g,by simp,by simp⟩) (fun J f=> ?_);refine NP (fun s=>b.length-s.2.2.1.toNat) (fun s=>s.1=b/\0<=s.2.2.1/\s.2.2.1<=(b.length:Int)) ?_ ⟨rfl,by simp,by simp⟩ (by simp only;omega);rintro G ⟨s,h,i,u⟩ ⟨e,h0,h1⟩ hG;change s=b at e;change 0<=i at h0;change i<=(b.length:Int)at h1;subst e;dsimp only;refine dI (fun hc=> ?_) (fun hc=>f _ rfl)
 have a:i<(s.length:Int):=by
  by_cases a:i<(s.length:Int);exact a;simp[a]at hc
 refine kL (by simp;omega) (hG _ ⟨rfl,?_,?_⟩ ?_)<;>(dsimp only;rw[wrap64 (by omega) (by omega)];omega)
theorem rT{c:aO}(hc:bn c):Dr (gb k (c,())) (fun r=>bn r.2.1/\0<=r.1/\r.1<=255):=by
 obtain⟨b,i,h⟩:=c;obtain⟨d,e,f⟩:=hc;dsimp only at d e f;simp only[gb];refine kL (by decide) (kL (by decide) ?_);refine dI (fun a=> ?_) (fun a=> ?_);have a:i<(b.length:Int):=by simpa using a
 refine kL (by simp;omega) (dA ⟨⟨d,?_,?_⟩,SF _⟩)<;>(dsimp only;rw[wrap64 (by omega) (by omega)];omega)
 exact dA ⟨⟨d,e,f⟩,SF _⟩
def cK{c:aO}{n:Int}(hc:bn c):Dr (bf k (c,n,())) (fun r=>bn r.2.1/\0<=r.1/\(r.1<n\/r.1=0)):=by
 simp only[bf];refine dI (fun a=>dA ⟨hc,by simp,by simp⟩) (fun a=> ?_);have a:0<n:=by simpa using a
 refine dI (fun f=> ?_) (fun f=> ?_);refine cq (rT hk hc) (fun r b=>kL (by simp;omega) (dA ⟨b.1,?_,.inl ?_⟩));exact avn _ b.2.1;exact avk _ a;refine cq (rT hk hc) (fun r b=>cq (rT hk b.1) (fun g d=>cq (rT hk d.1) (fun r3 e=>kL (by simp;omega) (dA ⟨e.1,?_,.inl ?_⟩))));refine avn _ ?_;have h1:=b.2;have h2:=d.2;have h3:=e.2;rw[wrap64 (n:=r.1*65536) (by omega) (by omega),wrap64 (n:=g.1*256) (by omega) (by omega),wrap64 (n:=r.1*65536+g.1*256) (by omega) (by omega),wrap64 (by omega) (by omega)];omega;exact avk _ a
def mV{c:aO}{n:Int}(hc:bn c):Dr (di k (c,n,())) (fun r=>bn r.2.1):=by
 simp only[di];exact cq (cK hk hc) (fun r a=>dA a.1)
def JU{c:aO}{l:List Int}(hc:bn c)(hl:0<l.length):Dr (bH k (c,l,())) (fun r=>bn r.2.1/\r.1∈l):=by
 simp only[bH];refine cq (cK hk hc) (fun r a=>kL (by simp;omega) (dA ⟨a.1,?_⟩));exact cC (by omega)
def QF{c:aO}{l:List ByteArray}(hc:bn c)(hl:0<l.length):Dr (eF k (c,l,())) (fun r=>bn r.2.1/\r.1∈l):=by
 simp only[eF];refine cq (cK hk hc) (fun r a=>kL (by simp;omega) (dA ⟨a.1,?_⟩));exact cC (by omega)
end
def xa(l:List af)(s:List ag):Option Nat:=fv l.length (fun i=>decide ((l.getD i ae.aa).1=s))
def gu(l:List af)(s:List ag):Nat:=(fv l.length (fun i=>bp s (l.getD i ae.aa).1)).getD l.length
def gy(l:List af)(a:af):List af:=
 match xa l a.1 with
 |some i=>l.set i a
 |none=>l.take (gu l a.1)++[a]++l.drop (gu l a.1)
def ij(g:aw)(a:af):aw:=(g.1,g.2.1,g.2.2.1,g.2.2.2.1,gy g.2.2.2.2 a)
def Iw{α:Type}(l:List af)(s:List ag)(f:Nat->α):(match fv l.length (fun i=>bp s (l.getD i ae.aa).1)with|some i=>f i|none=>f l.length)=f (gu l s):=by
 unfold gu;cases fv l.length (fun i=>bp s (l.getD i ae.aa).1)<;>rfl
section
variable{k:Nat}(hk:9223372036854775808<=k)
include hk
def BS{l:List af}{i:Nat}(h:ai (.sl ae) l<=1073741824):bK k (l.take i,())=some (l.take i,()):=
 ff hk (by have:=cB (e:=ae) l i;omega)
def vR{l:List af}{i:Nat}(h:ai (.sl ae) l<=1073741824):bK k (l.drop i,())=some (l.drop i,()):=
 ff hk (by have:=cB (e:=ae) l i;omega)
def Fw{g:aw}{a:af}(hg:ai al g<=1048576)(ha:ai ae a<=1048576):mI k (g,a,())=some (ij g a,()):=by
 have h1:=eK hk g;have h2:=az (e:=ae) (l:=g.2.2.2.2);have h3:=bj hk a;have h4:=az (e:=ak) (l:=a.1);simp only[mI,aN];rw[vw hk (by omega),cz,cR hk (by omega),cz]
 refine(fY (fun i:Nat=>(g,a,(0,([]:List ag),0,0,([]:List af)),g,a,(i:Int),())) (fun i=>decide ((g.2.2.2.2.getD i ae.aa).1=a.1)) g.2.2.2.2.length
  (e:=some ((g.1,g.2.1,g.2.2.1,g.2.2.2.1,g.2.2.2.2.take (gu g.2.2.2.2 a.1)++[a]++g.2.2.2.2.drop (gu g.2.2.2.2 a.1)),())) (fun i=>some ((g.1,g.2.1,g.2.2.1,g.2.2.2.1,g.2.2.2.2.set i a),())) (fun G i b=> ?_) (fun G=> ?_) k (by omega)).trans ?_
 simp only[aK,aC b,b,decide_true,if_true,ec];rw[aX (by omega),nT hk (jO hk (by omega) b).2,cz];simp only[aK,v_,decide_false,eG,if_false]
 refine(fY (fun i:Nat=>(g,a,(0,([]:List ag),0,0,([]:List af)),g,a,(i:Int),())) (fun i=>bp a.1 (g.2.2.2.2.getD i ae.aa).1) g.2.2.2.2.length
  (e:=some ((g.1,g.2.1,g.2.2.1,g.2.2.2.1,g.2.2.2.2.take g.2.2.2.2.length++[a]++g.2.2.2.2.drop g.2.2.2.2.length),())) (fun i=>some ((g.1,g.2.1,g.2.2.1,g.2.2.2.1,g.2.2.2.2.take i++[a]++g.2.2.2.2.drop i),())) (fun G i b=> ?_) (fun G=> ?_) k (by omega)).trans ?_
 simp only[aK,aC b,b,decide_true,if_true,ec,auR];rw[an (by simp),nD hk (by omega),cz];cases hq:bp a.1 (g.2.2.2.2.getD i ae.aa).1;simp only[auO,if_true,eG,if_false];rw[aX (by omega)];simp only[auQ,if_true,eG,if_false];rw[an (by simp;omega),BS hk (by omega),cz,an (by simp;omega),an (by simp;omega),vR hk (by omega),cz,an (by simp;omega)];simp only[aK,v_,decide_false,eG,if_false,ec];rw[an (by simp)];simp only[beq_iff_eq,eG,if_false,cz];rw[an (by simp),BS hk (by omega),cz,an (by simp;omega),an (by simp),vR hk (by omega),cz,an (by simp;omega)];exact Iw g.2.2.2.2 a.1 (fun i=>some ((g.1,g.2.1,g.2.2.1,g.2.2.2.1,g.2.2.2.2.take i++[a]++g.2.2.2.2.drop i),()));unfold ij gy xa;cases fv g.2.2.2.2.length (fun i=>decide ((g.2.2.2.2.getD i ae.aa).1=a.1))<;>rfl
def GS{l:List af}{s:List ag}(h:ai (.sl ae) l<=1048576):ei k (l,s,())=some (dB (xa l s),()):=by
 have h2:=az (e:=ae) (l:=l);simp only[ei];refine(fY (fun i:Nat=>(s,l,(l.length:Int),(i:Int),())) (fun i=>decide ((l.getD i ae.aa).1=s)) l.length (e:=some (-1,())) (fun i=>some ((i:Int),())) (fun G i a=> ?_) (fun G=> ?_) k (by omega)).trans ?_;simp only[aK,aC a,a,decide_true,if_true,ec];rw[aX (by omega),dV hk (jO hk h a).2,cz];simp;unfold xa;cases fv l.length (fun i=>decide ((l.getD i ae.aa).1=s))<;>rfl
theorem Ou{l:List af}{a:af}:ai (.sl ae) (gy l a)<=ai (.sl ae) l+ai ae a+1:=by
 unfold gy;cases h:xa l a.1 with
 |none=>
  dsimp only;rw[gZ (e:=ae),gZ (e:=ae),bW (e:=ae),bd];have:=cB (e:=ae) l (gu l a.1);omega
 |some i=>
  have b:=(aR.1 h).1;have:=mf (e:=ae) l i a b;dsimp only;omega
def OR{g:aw}{a:af}:ai al (ij g a)<=ai al g+ai ae a+1:=by
 have h1:=eK hk g;have b:=eK hk (ij g a);have h3:=Ou hk (l:=g.2.2.2.2) (a:=a);unfold ij at b|-;dsimp only at b;omega
theorem qw(l m:List ag):ai (.sl ak) (l++m)=ai (.sl ak) l+ai (.sl ak) m:=gZ (e:=ak) l m
def iP(x:ag)(l:List ag):ai (.sl ak) (x::l)=1+(x.1.size+x.2.size)+ai (.sl ak) l:=by rw[bW (e:=ak),lx hk]
theorem mP:ai (.sl ak) ([]:List ag)=0:=bd (e:=ak)
theorem Pl(x:af)(l:List af):ai (.sl ae) (x::l)=1+ai ae x+ai (.sl ae) l:=bW (e:=ae) x l
theorem Q0:ai (.sl ae) ([]:List af)=0:=bd (e:=ae)
def oA{c:aO}{l:List ByteArray}(n:Nat)(hc:bn c)(b:0<l.length)(hs:l.all (fun s=>decide (s.size<=n))=true):Dr (eF k (c,l,())) (fun r=>bn r.2.1/\r.1.size<=n):=
 ZD (QF hk hc b) (fun r a=>⟨a.1,e_ (au6.1 hs _ a.2)⟩)
def Qn{c:aO}{l:List Int}(a b:Int)(hc:bn c)(e:0<l.length)(hs:l.all (fun s=>decide (a<=s/\s<=b))=true):Dr (bH k (c,l,())) (fun r=>bn r.2.1/\a<=r.1/\r.1<=b):=
 ZD (JU hk hc e) (fun r d=>⟨d.1,e_ (au6.1 hs _ d.2)⟩)
def ld{c:aO}{l:List Int}(hc:bn c)(b:0<l.length):Dr (bH k (c,l,())) (fun r=>bn r.2.1):=
 ZD (JU hk hc b) (fun r a=>a.1)
def Cr{c:aO}(hc:bn c):Dr (jA k (c,())) (fun r=>bn r.2.1/\r.1.size<=13):=by
 simp only[jA];exact cq (oA hk 13 hc (by decide) (by decide)) (fun r a=>dA a)
def Nd{c:aO}(hc:bn c):Dr (lS k (c,())) (fun r=>bn r.2.1/\r.1.size<=13):=by
 simp only[lS];exact cq (oA hk 13 hc (by decide) (by decide)) (fun r a=>dA a)
def Jj{c:aO}(hc:bn c):Dr (jZ k (c,())) (fun r=>bn r.2.1/\r.1.size<=13):=by
 simp only[jZ];refine cq (mV hk hc) (fun r a=>dI (fun _=> ?_) (fun _=> ?_));exact cq (Nd hk a) (fun r a=>dA a);exact cq (oA hk 13 a (by decide) (by decide)) (fun r a=>dA a)
def pE{c:aO}(hc:bn c):Dr (fh k (c,())) (fun r=>bn r.2.1/\r.1.size<=13):=by
 simp only[fh];refine cq (mV hk hc) (fun r a=>dI (fun _=> ?_) (fun _=> ?_));exact cq (Cr hk a) (fun r a=>dA a);exact cq (oA hk 13 a (by decide) (by decide)) (fun r a=>dA a)
def Rj{c:aO}(hc:bn c):Dr (nN k (c,())) (fun r=>bn r.2.1):=by
 simp only[nN];exact cq (ld hk hc (by decide)) (fun r a=>dA a)
def QT{c:aO}(hc:bn c):Dr (nH k (c,())) (fun r=>bn r.2.1):=by
 simp only[nH];refine cq (mV hk hc) (fun r a=>dI (fun _=> ?_) (fun _=> ?_));exact cq (Rj hk a) (fun r a=>dA a);exact cq (ld hk a (by decide)) (fun r a=>dA a)
def xV{c:aO}(hc:bn c):Dr (fk k (c,())) (fun r=>bn r.2.1/\0<r.1.length/\ai (.sl ak) r.1<=108):=by
 simp only[fk];refine cq (oA hk 13 hc (by decide) (by decide)) (fun r a=> ?_);refine NP (fun s=>3-s.2.2.2.2.1.toNat) (fun s=>bn s.1/\0<s.2.1.length/\(ai (.sl ak) s.2.1:Int)<=27+27*s.2.2.2.2.1/\s.2.2.1=[(⟨#[104,111,115,116]⟩:ByteArray),(⟨#[115,101,118]⟩:ByteArray),(⟨#[122,111,110,101]⟩:ByteArray)]/\s.2.2.2.1=3/\0<=s.2.2.2.2.1/\s.2.2.2.2.1<=3) ?_ ⟨a.1,by simp,?_,rfl,rfl,by simp,by simp⟩ (by simp only;omega);rintro G ⟨c,l,m,n,i,u⟩ ⟨h1,h2,h3,h4,h5,h6,h7⟩ hG;dsimp only at h1 h2 h3 h4 h5 h6 h7|-;subst h4;subst h5;have hl:=az (e:=ak) (l:=l);refine dI (fun d=> ?_) (fun d=>dA ⟨h1,h2,by dsimp only;omega⟩);have d:i<3:=by simpa using d
 have f:IntKind.i64.wrap (i+1)=i+1:=wrap64 (by omega) (by omega);rw[f];refine kL (by simp;omega) ?_;refine cq (mV hk h1) (fun r a=>dI (fun _=> ?_) (fun _=>hG _ ⟨a,h2,by dsimp only;omega,rfl,rfl,by dsimp only;omega,by dsimp only;omega⟩ (by dsimp only;omega)));refine cq (oA hk 13 a (by decide) (by decide)) (fun r2 b=>kL (by simp;omega) (hG _ ⟨b.1,by simp,?_,rfl,rfl,by dsimp only;omega,by dsimp only;omega⟩ (by dsimp only;omega)))
 have hb:([(⟨#[104,111,115,116]⟩:ByteArray),(⟨#[115,101,118]⟩:ByteArray),(⟨#[122,111,110,101]⟩:ByteArray)].getD i.toNat ByteArray.empty).size<=13:=
  e_ (au6.1 (show([(⟨#[104,111,115,116]⟩:ByteArray),(⟨#[115,101,118]⟩:ByteArray),(⟨#[122,111,110,101]⟩:ByteArray)].all (fun s=>decide (s.size<=13)))=true by decide) _ (cC (by simp;omega)))
 dsimp only;rw[qw hk,iP hk,mP hk];have:=b.2;dsimp only;omega;rw[iP hk,mP hk];have h0:(⟨#[97,112,112]⟩:ByteArray).size=3:=by decide
 have:=a.2;dsimp only;omega
def Qi{c:aO}(hc:bn c):Dr (nF k (c,())) (fun r=>bn r.2.1/\ai (.sl ak) r.1<=220):=by
 simp only[nF];refine cq (xV hk hc) (fun f g=>cq (cK hk g.1) (fun r2 a=> ?_));have hl:=az (e:=ak) (l:=f.1);obtain⟨_,n,ht⟩:=g;refine dI (fun _=> ?_) (fun _=> ?_);refine cq (Jj hk a.1) (fun h b=>cq (pE hk b.1) (fun r4 j=>kL (by simp;omega) (dA ⟨j.1,?_⟩)));dsimp only;rw[qw hk,iP hk,mP hk];have:=b.2;have:=j.2;dsimp only;omega;refine dI (fun _=> ?_) (fun _=> ?_);refine kL (by simp;omega) (dA ⟨a.1,?_⟩);dsimp only;rw[qw hk,iP hk,mP hk];have o:(⟨#[122,122]⟩:ByteArray).size=2:=by decide
 have o:(⟨#[49]⟩:ByteArray).size=1:=by decide
 dsimp only;omega;refine dI (fun _=> ?_) (fun _=> ?_);refine kL (by simp;omega) (kL (by simp;omega) (dA ⟨a.1,?_⟩));have p:=cx (e:=ak) (cC (l:=f.1) (i:=0) (d:=ak.aa) n);rw[lx hk]at p;dsimp only;rw[qw hk,iP hk,mP hk];simp only[show au1 0=0 from rfl];omega;refine dI (fun _=> ?_) (fun _=> ?_);refine kL (by simp;omega) (dA ⟨a.1,?_⟩);dsimp only;rw[qw hk,iP hk,iP hk,iP hk,iP hk,mP hk];have e1:(⟨#[122,117]⟩:ByteArray).size=2:=by decide
 have e2:(⟨#[122,118]⟩:ByteArray).size=2:=by decide
 have e3:(⟨#[122,119]⟩:ByteArray).size=2:=by decide
 have e4:(⟨#[122,120]⟩:ByteArray).size=2:=by decide
 have e5:ByteArray.empty.size=0:=by decide
 dsimp only;omega;refine dI (fun _=> ?_) (fun _=> ?_);refine cq (pE hk a.1) (fun h b=>kL (by simp;omega) (dA ⟨b.1,?_⟩));have m:=mf (e:=ak) f.1 0 ((f.1.getD 0 ak.aa).1,h.1) n;rw[lx hk,lx hk]at m;have:=b.2;simp only[show au1 0=0 from rfl];dsimp only at m|-;omega;refine dI (fun _=>dA ⟨a.1,by dsimp only;rw[mP hk];omega⟩) (fun _=>dA ⟨a.1,by dsimp only;omega⟩)
def yo{c:aO}(hc:bn c):Dr (dw k (c,())) (fun r=>bn r.2.1/\ai ae r.1<=121):=by
 simp only[dw];refine cq (xV hk hc) (fun r1 a=>cq (cK hk a.1) (fun r2 d=>cq (Cr hk d.1) (fun r3 b=>cq (ld hk b.1 (by decide)) (fun r4 e=>dA ⟨e,?_⟩))));dsimp only;rw[bj hk];have:=a.2;have:=b.2;dsimp only;omega
def Qh{c:aO}(hc:bn c):Dr (gL k (c,())) (fun r=>bn r.2.1/\ai ae r.1<=400):=by
 simp only[gL];refine cq (yo hk hc) (fun r1 e=>cq (cK hk e.1) (fun r2 b=> ?_));have f:=e.2;rw[bj hk]at f;refine dI (fun _=> ?_) (fun _=> ?_);refine cq (Qi hk b.1) (fun d a=>dA ⟨a.1,?_⟩);dsimp only;rw[bj hk];have:=a.2;dsimp only;omega;refine dI (fun _=> ?_) (fun _=> ?_);refine cq (ld hk b.1 (by decide)) (fun d a=>dA ⟨a,?_⟩);dsimp only;rw[bj hk];dsimp only;omega;refine dI (fun _=> ?_) (fun _=> ?_);refine cq (QT hk b.1) (fun d a=>dA ⟨a,?_⟩);dsimp only;rw[bj hk];dsimp only;omega;refine dI (fun _=> ?_) (fun _=>dA ⟨b.1,by dsimp only;rw[bj hk];omega⟩);refine cq (pE hk b.1) (fun d a=>dA ⟨a.1,?_⟩);dsimp only;rw[bj hk];have:=a.2;dsimp only;omega
def zW{c:aO}{l:List af}(hc:bn c)(hl:ai (.sl ae) l<=1048576):Dr (cQ k (c,l,())) (fun r=>bn r.2.1/\ai (.sl ak) r.1<=ai (.sl ae) l+108):=by
 simp only[cQ];have hln:=az (e:=ae) (l:=l)
 have pick:∀ {c:aO},bn c->0<l.length->Dr (au3 (bf k (c,(l.length:Int),())) fun a=>
  if(decide (0<=a.1/\a.1<((avb l:Nat):Int)))=true then
   if(decide (avb ([]:List ag)+avb ((ava l (au1 a.1) ae.aa).1)<4294967296))=true then
    some (([]:List ag)++((ava l (au1 a.1) ae.aa).1),a.2.1,())
   else none
  else none) (fun r=>bn r.2.1/\ai (.sl ak) r.1<=ai (.sl ae) l+108):=by
  intro c hc b;refine cq (cK hk hc) (fun a j=>kL (by simp;omega) ?_);have m:a.1.toNat<l.length:=by omega
  have n:=cx (e:=ae) (cC (d:=ae.aa) m);rw[bj hk]at n;have h3:=az (e:=ak) (l:=(l.getD a.1.toNat ae.aa).1);refine kL (c_ (by simp only[au7];omega)) (dA ⟨j.1,?_⟩);dsimp only;rw[auZ];omega
 have free:∀ {c:aO},bn c->Dr (au3 (fk k (c,())) fun f=>some (f.1,f.2.1,())) (fun r=>bn r.2.1/\ai (.sl ak) r.1<=ai (.sl ae) l+108):=
  fun hc=>cq (xV hk hc) (fun r h=>dA ⟨h.1,by have:=h.2;dsimp only;omega⟩)
 refine dI (fun b=> ?_) (fun b=> ?_);have b:0<l.length:=by simpa using b
 refine cq (mV hk hc) (fun r1 g=>dI (fun _=>pick g b) (fun _=>free g));refine dI (fun h=> ?_) (fun _=>free hc);have b:¬0<l.length:=by simpa using b
 simp[b]at h
end
def eJ(l:List aw)(key:List ag):Option Nat:=fv l.length (fun i=>decide ((l.getD i al.aa).2.1=key))
def jc(l:List aw)(a:af)(by_:List ByteArray)(n U:Int):List aw:=
 match eJ l (keyOf a by_)with
 |some i=>l.set i (ij (l.getD i al.aa) a)
 |none=>l++[(n,keyOf a by_,U,-1,[a])]
def afF(l:List aw)(s:List ag):Option Nat:=fv l.length (fun i=>(xa (l.getD i al.aa).2.2.2.2 s).isSome)
def Vi(l:List aw)(s:List ag):Int:=match afF l s with|some i=>(l.getD i al.aa).1|none=> -1
section
variable{k:Nat}(hk:9223372036854775808<=k)
include hk
theorem QC(l m:List aw):ai (.sl al) (l++m)=ai (.sl al) l+ai (.sl al) m:=gZ (e:=al) l m
theorem OI(x:aw)(l:List aw):ai (.sl al) (x::l)=1+ai al x+ai (.sl al) l:=bW (e:=al) x l
theorem Qy:ai (.sl al) ([]:List aw)=0:=bd (e:=al)
def iT{l:List aw}{key:List ag}(h:ai (.sl al) l<=1048576):eS k (l,key,())=some (dB (eJ l key),()):=by
 have h2:=az (e:=al) (l:=l);simp only[eS];refine(fY (fun i:Nat=>(l,key,(i:Int),())) (fun i=>decide ((l.getD i al.aa).2.1=key)) l.length (e:=some (-1,())) (fun i=>some ((i:Int),())) (fun G i a=> ?_) (fun G=> ?_) k (by omega)).trans ?_;simp only[aK,aC a,a,decide_true,if_true,ec];rw[aX (by omega),nT hk (qK hk h a).2,cz];simp;unfold eJ;cases fv l.length (fun i=>decide ((l.getD i al.aa).2.1=key))<;>rfl
def sF{l:List aw}{a:af}{by_:List ByteArray}{n U:Int}(b:ai (.sl al) l<=1048576)(f:ai ae a<=1048576)(g:by_.length<=1048576):
 lP k (l,a,by_,n,U,())=some (jc l a by_ n U,(eJ l (keyOf a by_)).isNone,()):=by
 have h2:=az (e:=al) (l:=l);simp only[lP];rw[ns hk (by omega),cz,wI hk f g,cz];unfold jc;cases h:eJ l (keyOf a by_)with
 |none=>
  have e:eS k (l,keyOf a by_,())=some (-1,()):=by rw[iT hk b,h];rfl
  rw[e,cz,a_ (by decide),cR hk (by omega),cz,an (by simp;omega)];rfl
 |some i=>
  have d:=(aR.1 h).1;have e:eS k (l,keyOf a by_,())=some ((i:Int),()):=by rw[iT hk b,h];rfl
  rw[e,cz,an (by simp),an (aC d)];simp only[ec];rw[Fw hk (qK hk b d).1 f,cz,an (aC d)];rfl
def Ps(a:af)(by_:List ByteArray):ai (.sl ak) (keyOf a by_)<=ai ae a:=by
 have zt:ai (.sl ak) (keyOf a by_)<=ai (.sl ak) a.1:=xD (e:=ak) _ _;have mS:=bj hk a;omega
def FC{l:List aw}{a:af}{by_:List ByteArray}{n U:Int}:ai (.sl al) (jc l a by_ n U)<=ai (.sl al) l+2*ai ae a+2:=by
 unfold jc;cases h:eJ l (keyOf a by_)with
 |none=>
  dsimp only;have b:=Ps hk a by_;rw[QC hk,OI hk,Qy hk,eK hk];dsimp only;rw[Pl hk,Q0 hk];omega
 |some i=>
  have d:=(aR.1 h).1;have b:=mf (e:=al) l i (ij (l.getD i al.aa) a) d;have h2:=OR hk (g:=l.getD i al.aa) (a:=a);dsimp only;omega
def Ya{l:List aw}{s:List ag}(h:ai (.sl al) l<=1048576):IQ k (l,s,())=some (Vi l s,()):=by
 have h2:=az (e:=al) (l:=l);simp only[IQ];refine(fY (fun i:Nat=>(s,l,(l.length:Int),(i:Int),())) (fun i=>(xa (l.getD i al.aa).2.2.2.2 s).isSome) l.length (e:=some (-1,())) (fun i=>some ((l.getD i al.aa).1,())) (fun G i a=> ?_) (fun G=> ?_) k (by omega)).trans ?_;have b:=(qK hk h a).1;rw[eK hk]at b;simp only[aK,aC a,a,decide_true,if_true,ec];rw[aX (by omega),GS hk (by omega),cz];cases hx:xa (l.getD i al.aa).2.2.2.2 s with
 |none=>
  have:decide ((dB none:Int)>=0)=false:=by decide
  simp only[this,Option.isSome_none,eG,if_false]
 |some j=>
  have:decide ((dB (some j):Int)>=0)=true:=by simp[dB]
  simp only[this,Option.isSome_some,if_true]
 simp;unfold Vi afF;cases fv l.length (fun i=>(xa (l.getD i al.aa).2.2.2.2 s).isSome)<;>rfl
end
def qn(d:aA)(n:Int):aA:=(d.1,d.2.1,d.2.2.1,d.2.2.2.1,d.2.2.2.2.1,n,d.2.2.2.2.2.2)
def iy(w:ah)(i:Nat):Bool×ah:=
 match w with
 |(c,ti,U,st,m_,Z,gr,A,nn,V,n_,l_,O,T)=>
  if gr= -1 then(true,(c,ti,U,st,m_,Z,(i:Int),A,nn,V,n_,l_,O.set i ((O.getD i aq.aa).1,1,(O.getD i aq.aa).2.2),T))else(false,w)
def vp(a:af)(h:Int):aG:=(5,0,a,[],0,[],[],0,h)
def Dv(a:af)(U ti:Int):aA:=(7,3,a,[],0,0,0,[],U,ti,-1,-1)
def na(c:aY)(a:af)(nn U:Int):aw:=(nn,keyOf a c.2.2.2.2.2,U,-1,[a])
def gw(s:Bool)(k:Nat)(w:ah):Bool×ah:=
 match w with
 |(c,ti,U,st,m_,Z,gr,A,nn,V,n_,l_,O,T)=>
  let t:=O.getD 3 aq.aa
  let n:=(bm t).toNat
  let d:=T.getD n ay.aa
  if t.1=0 then
   (if Z.length=0 then(false,w)
    else(true,(c,ti,U,st,m_,Z.drop 1,gr,A,nn,V,n_,l_,O.set 3 (vp (Z.getD 0 ae.aa) T.length),T++[Dv (Z.getD 0 ae.aa) U ti])))
  else if t.2.1=0 then iy w 3
  else match eJ A (keyOf t.2.2.1 c.2.2.2.2.2)with
   |none=>
    if 12<=A.length then(true,(c,ti,U,st,m_,Z,-1,A,nn,V,n_,l_,O.set 3 zT,T.set n (eC s false d U ti 3 [])))
    else(true,(c,ti,U,st,m_,Z,-1,A++[na c t.2.2.1 nn U],IntKind.i64.wrap (nn+1),tf V (ik c (na c t.2.2.1 nn U),nn),n_,l_,O.set 3 zT,T.set n (eC s false (qn d nn) U ti 1 [])))
   |some i=>(true,(c,ti,U,st,m_,Z,-1,A.set i (ij (A.getD i al.aa) t.2.2.1),nn,V,n_,l_,O.set 3 zT,T.set n (eC s false (qn d (A.getD i al.aa).1) U ti 2 [])))
def hZ(s:Bool)(k:Nat)(w:ah):Bool×ah:=bC (gw s k w)
def L7{l:List aw}{g:aw}{key:List ag}(h:eJ l key=none)(b:g.2.1=key):eJ (l++[g]) key=some l.length:=by
 unfold eJ at h|-;have d:=gB.1 h;refine aR.2 ⟨by simp,?_,fun j a=> ?_⟩;rw[auJ,au2 (au4 _)];simpa using b;rw[pN _ _ a];exact d j a
def Mb{l:List aw}{g:aw}{key:List ag}{i:Nat}(h:eJ l key=some i)(d:g.2.1=key):eJ (l.set i g) key=some i:=by
 unfold eJ at h|-;obtain⟨a,h2,e⟩:=aR.1 h;refine aR.2 ⟨by simpa using a,?_,fun j b=> ?_⟩;rw[aL _ _ a];simpa using d;rw[auJ,List.getElem?_set_ne (by omega),<-auJ];exact e j b
def OZ{l:List aw}{g:aw}{n:Int}(h:∀i,i<l.length->(l.getD i al.aa).1≠n)(b:g.1=n):dW (l++[g]) n=some l.length:=by
 unfold dW;refine aR.2 ⟨by simp,?_,fun j a=> ?_⟩;rw[auJ,au2 (au4 _)];simpa using b;rw[pN _ _ a];exact decide_eq_false (h j a)
def GJ{α:Type}(l:List α)(x d:α):(l++[x]).getD l.length d=x:=by
 rw[auJ,au2 (au4 _)];simp
section
variable{c:aY}{ti U gr nn:Int}{st:List au}{m_:List bo}{Z l_:List af}{A:List aw}{V:List aF}{n_:List bq}{O:List aG}{T:List aA}{i:Nat}
def zL(h:gr= -1):iy (c,ti,U,st,m_,Z,gr,A,nn,V,n_,l_,O,T) i=(true,(c,ti,U,st,m_,Z,(i:Int),A,nn,V,n_,l_,O.set i ((O.getD i aq.aa).1,1,(O.getD i aq.aa).2.2),T)):=an h
def DV(h:¬gr= -1):iy (c,ti,U,st,m_,Z,gr,A,nn,V,n_,l_,O,T) i=(false,(c,ti,U,st,m_,Z,gr,A,nn,V,n_,l_,O,T)):=a_ h
end
section
variable{k:Nat}(hk:9223372036854775808<=k)
include hk
variable{c:aY}{ti U gr nn:Int}{st:List au}{m_:List bo}{Z l_:List af}{A:List aw}{V:List aF}{n_:List bq}{O:List aG}{T:List aA}
def tV{n:Int}{i:Nat}(hg:A.length<=1048579)(b:V.length<=1048576)(a:dW A n=some i):
 kv k ((c,ti,U,st,m_,Z,gr,A,nn,V,n_,l_,O,T),n,())=
  some ((c,ti,U,st,m_,Z,gr,A,nn,tf V (ik c (A.getD i al.aa),n),n_,l_,O,T),()):=by
 have d:=(aR.1 a).1;simp only[kv];rw[nQ hk (by omega),cz];simp only[a,dB];rw[an (aC d),Lh hk,cz,CX hk b,cz,ec]
set_option maxHeartbeats 8000000 in
def Cp{n:Nat}{t:aG}{d:aA}(hs:ai aD (c,ti,U,st,m_,Z,gr,A,nn,V,n_,l_,O,T)<=1048576)(hi:3<O.length)(u:O.getD 3 aq.aa=t)(G:t.1=5)(w:t.2.1=1)
 (f:n<T.length) (x:bm t=(n:Int)) (h:T.getD n ay.aa=d) (y:d.2.2.1=t.2.2.1) (z:∀i,i<A.length->(A.getD i al.aa).1≠nn):
 lB k ((c,ti,U,st,m_,Z,gr,A,nn,V,n_,l_,O,T),())=
  some ((gw true k (c,ti,U,st,m_,Z,gr,A,nn,V,n_,l_,O,T)).2,()):=by
 have hsum:=eV hk hs;have B:=dq (e:=aq) (d:=aq.aa) hi;rw[u]at B;have hdl:=az (e:=ay) (l:=T);have hgl:=az (e:=al) (l:=A);have hhl:=az (e:=aE) (l:=V);have C:=dq (e:=ay) (d:=ay.aa) f;rw[h]at C;have D:=cU hk d;rw[y]at D;have hta:=dy hk t;have o:=FC hk (l:=A) (a:=t.2.2.1) (by_:=c.2.2.2.2.2) (n:=nn) (U:=U);have hcf:=ng hk c;have hby:=az (e:= .str) (l:=c.2.2.2.2.2);have E:decide ((0:Int)<=3/\(3:Int)<(O.length:Int))=true:=c_ ⟨by omega,by omega⟩
 have b:∀(A:List aw) (nn:Int) (V:List aF) (T:List aA) (v:aA) (code:Int),n<T.length->T.getD n ay.aa=v->bR k ((c,ti,U,st,m_,Z,-1,A,nn,V,n_,l_,O,T),(3:Int),code,[],())=
  some ((c,ti,U,st,m_,Z,-1,A,nn,V,n_,l_,O.set 3 zT,T.set n (oc v U ti code [])),()):=by
  intro A nn V T v code f h;have:=eT (n:=n) (i:=3) (code:=code) (got:=[]) (c:=c) (ti:=ti) (U:=U) (gr:= -1) (nn:=nn) (st:=st) (m_:=m_) (Z:=Z) (l_:=l_) (A:=A) (V:=V) (n_:=n_) hk hi f (by rw[u];exact x) (by simp[ai]);rw[h]at this;exact this
 have p:=x;unfold bm at p;unfold gw;simp only[u,x,h,G,w,ec];rw[a_ (show¬(5:Int)=0 by decide),a_ (show¬(1:Int)=0 by decide)];simp only[lB,show au1 3=3 from rfl,u,p,ek];have q:gN k (t.2.2.1,c.2.2.2.2.2,())=some (keyOf t.2.2.1 c.2.2.2.2.2,()):=wI hk (by omega) (by omega);simp only[q,cz];rw[an E,iT hk (by omega),cz];dsimp only;cases g:eJ A (keyOf t.2.2.1 c.2.2.2.2.2)with
 |none=>
  by_cases mS:12<=A.length;rw[an (by simp[dB];omega),b A nn V T d 3 f h,cz];dsimp only;rw[an mS];rfl;have r:jc A t.2.2.1 c.2.2.2.2.2 nn U=A++[na c t.2.2.1 nn U]:=by unfold jc;rw[g];rfl
  have j:eJ (A++[na c t.2.2.1 nn U]) (keyOf t.2.2.1 c.2.2.2.2.2)=some A.length:=L7 g rfl;have F:dW (A++[na c t.2.2.1 nn U]) nn=some A.length:=OZ z rfl;rw[r]at o;rw[a_ (by simp[dB];omega),sF hk (by omega) (by omega) (by omega),cz,r,g];dsimp only;have m:A.length<(A++[na c t.2.2.1 nn U]).length:=by simp
  rw[iT hk (by omega),cz];simp only[j,dB];rw[an (aC m),an (aC f)];simp only[ec,GJ,Option.isNone_none,if_true];rw[show(na c t.2.2.1 nn U).1=nn from rfl,tV hk (by rw[auU,T'];omega) (by omega) F,cz];dsimp only;rw[b _ _ _ _ (qn d nn) 1 (by rw[auS];exact f) (by rw[aL _ _ f,h];rfl),cz,a_ mS,auX,GJ];rfl
 |some i=>
  have r:jc A t.2.2.1 c.2.2.2.2.2 nn U=A.set i (ij (A.getD i al.aa) t.2.2.1):=by unfold jc;rw[g]
  have s:i<A.length:=(aR.1 g).1;rw[r]at o;have j:eJ (A.set i (ij (A.getD i al.aa) t.2.2.1)) (keyOf t.2.2.1 c.2.2.2.2.2)=some i:=Mb g (by have:=(aR.1 g).2.1;simpa[ij]using this);have hc:(if decide (dB (some i)<0)=true then decide (((A.length:Nat):Int)>=12)else false)=false:=a_ (by show¬(decide ((i:Int)<0)=true);rw[b_];omega);rw[hc,a_ auY,sF hk (by omega) (by omega) (by omega),cz,r,g];dsimp only;have m:i<(A.set i (ij (A.getD i al.aa) t.2.2.1)).length:=by simpa using s
  rw[iT hk (by omega),cz];simp only[j,dB];rw[an (aC m),an (aC f)];simp only[ec,aL _ _ s,Option.isNone_some,eG,if_false];rw[b _ _ _ _ (qn d (A.getD i al.aa).1) 2 (by rw[auS];exact f) (by rw[aL _ _ f,h];rfl),cz,auX];rfl
def Ot(op n h:Int)(a:af):ai aq (op,0,a,[],0,[],[],n,h)=ai ae a:=by rw[dy hk];simp[ai]
set_option maxHeartbeats 8000000 in
def oh{n:Nat}{t:aG}{d:aA}(hs:ai aD (c,ti,U,st,m_,Z,gr,A,nn,V,n_,l_,O,T)<=1048576)(hi:3<O.length)(g:O.getD 3 aq.aa=t)(a:t.1=0\/t.1=5/\(t.2.1=0\/t.2.1=1))
 (u:t.1=5->n<T.length) (v:bm t=(n:Int)) (w:T.getD n ay.aa=d) (p:t.1=5->d.2.2.1=t.2.2.1) (q:∀i,i<A.length->(A.getD i al.aa).1≠nn):
 iO k ((c,ti,U,st,m_,Z,gr,A,nn,V,n_,l_,O,T),())=
  some ((hZ true k (c,ti,U,st,m_,Z,gr,A,nn,V,n_,l_,O,T)).1,(hZ true k (c,ti,U,st,m_,Z,gr,A,nn,V,n_,l_,O,T)).2,()):=by
 have hsum:=eV hk hs;have hdl:=az (e:=ay) (l:=T);have hfl:=az (e:=ae) (l:=Z);have j:decide ((0:Int)<=3/\(3:Int)<(O.length:Int))=true:=c_ ⟨by omega,by omega⟩;simp only[iO,aN,show au1 3=3 from rfl,g];rw[an j];unfold hZ;rcases a with a|⟨a,s⟩;rw[a,an (by decide)];by_cases b:Z.length=0
 have f:gw true k (c,ti,U,st,m_,Z,gr,A,nn,V,n_,l_,O,T)=(false,(c,ti,U,st,m_,Z,gr,A,nn,V,n_,l_,O,T)):=by
  unfold gw;simp only[g,a,b,if_true]
 have m:decide (((Z.length:Nat):Int)>0)=false:=decide_eq_false (by omega);rw[f];simp only[m,eG,if_false];rfl;have hA:=dq (e:=ae) (d:=ae.aa) (l:=Z) (i:=0) (by omega);have hAt:=bj hk (Z.getD 0 ae.aa);have hAl:=az (e:=ak) (l:=(Z.getD 0 ae.aa).1)
 have f:gw true k (c,ti,U,st,m_,Z,gr,A,nn,V,n_,l_,O,T)=(true,(c,ti,U,st,m_,Z.drop 1,gr,A,nn,V,n_,l_,O.set 3 (vp (Z.getD 0 ae.aa) T.length),T++[Dv (Z.getD 0 ae.aa) U ti])):=by
  unfold gw;simp only[g,a,b,if_true,if_false]
 have m:decide (((Z.length:Nat):Int)>0)=true:=c_ (by omega);have x:bK k (Z.drop 1,())=some (Z.drop 1,()):=vR hk (by omega);have r:eN k ((5:Int),())=some (7,()):=rfl;rw[f];simp only[m,if_true,show au1 0=0 from rfl,show au1 1=1 from rfl];rw[an (c_ (by omega)),an (c_ (by omega)),x,cz]
 have y:=qy (i:=3) (t:=(5,0,Z.getD 0 ae.aa,[],0,[],[],0,0)) (o:=7) (c:=c) (ti:=ti) (U:=U) (gr:=gr) (nn:=nn) (st:=st) (m_:=m_) (Z:=Z.drop 1) (l_:=l_) (A:=A) (V:=V) (n_:=n_) (O:=O) (T:=T)
  hk hi (by omega) (by rw[Ot hk];omega) r (by dsimp only;omega) (by simp)
 erw[y];rfl;rw[a,a_ (by decide),an j];rcases s with b|b
 have f:gw true k (c,ti,U,st,m_,Z,gr,A,nn,V,n_,l_,O,T)=iy (c,ti,U,st,m_,Z,gr,A,nn,V,n_,l_,O,T) 3:=by
  unfold gw;simp only[g,a,b,if_true];rw[a_ (show¬(5:Int)=0 by decide)]
 have m:=rR (i:=3) (c:=c) (ti:=ti) (U:=U) (gr:=gr) (nn:=nn) (st:=st) (m_:=m_) (Z:=Z) (l_:=l_) (A:=A) (V:=V) (n_:=n_) (T:=T) hk hi;rw[b,an (by decide),f];erw[m];by_cases h:gr= -1;rw[an h,zL h];rfl;rw[a_ h,DV h];rfl;rw[b,a_ (by decide),Cp hk hs hi g a b (u a) v w (p a) q,cz]
 have f:(gw true k (c,ti,U,st,m_,Z,gr,A,nn,V,n_,l_,O,T)).1=true:=by
  unfold gw;simp only[g,a,b];rw[a_ (show¬(5:Int)=0 by decide),a_ (show¬(1:Int)=0 by decide)];split;split<;>rfl;rfl
 unfold bC;rw[f];rfl
end
end Vg.Tryz
