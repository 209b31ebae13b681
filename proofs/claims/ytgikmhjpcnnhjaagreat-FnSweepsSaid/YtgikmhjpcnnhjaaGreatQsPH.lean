/- Texts of this law, joined. -/
import Derived.Test.YtgikmhjpcnnhjaaGreatQsE5
import Derived.Test.YtgikmhjpcnnhjaaGreatVd
set_option linter.unusedSimpArgs false
set_option linter.unusedVariables false
set_option linter.unusedSectionVars false
set_option linter.defProp false
open Option renaming bind_some -> cy,bind -> aJb
open Bool renaming false_eq_true -> eH,eq_false_or_eq_true -> H_,not_true -> J5,eq_iff_iff -> aIX,not_false -> aIY,and_eq_true -> aIZ,true_and -> aI0,or_true -> aI2,not_eq_true -> aI5,false_and -> aI8,and_false -> aJc,and_true -> aJe,and_self -> aJf,true_or -> aJk,decide_and -> aJl,false_ne_true -> aJm,false_or -> aJn,or_self -> aJo,eq_false_iff -> aJw
open Int renaming toNat_natCast -> aIR
open Nat renaming lt_irrefl -> q',le_trans -> K',le_refl -> aJp,add_sub_cancel -> aJr,eq_zero_or_pos -> aJu
open List renaming length_singleton -> aIU,getD_eq_getElem?_getD -> aI1,take_length -> aI3,replicate -> aI4,length_append -> aI6,length_set -> aI7,take_succ_eq_append_getElem -> aI9,nil_append -> aJa,set_set -> aJd,length_nil -> aJg,getElem?_eq_getElem -> aJh,length_filter_le -> aJj,replicate_succ' -> aJq,filter_append -> aJs,map_singleton -> aJt,getD -> aJv,filter_cons -> aJx,length_cons -> aJA,ext_getElem -> aJB,map_append -> aJC
open Prod.mk renaming injEq -> aJi
open Prod renaming ext -> aJy,fst -> aJz
namespace Vg.Tryz
open Go Vg
def sN{β:Type}{c:Bool}{a b:β}(h:c=false):(if c=true then a else b)=b:=by rw[h];rfl
def Ur{a b:Nat}(h:a+b<4611686018427387904):IntKind.i64.wrap ((a:Int)+(b:Int))=((a+b:Nat):Int):=by
 rw[wrap64 (by omega) (by omega)];omega
def sC(u:Int):decide (0<=u)= !decide (u<0):=by by_cases h:u<0<;>simp[h]<;>omega
def zz{q:Nat}(h:q<4611686018427387904):IntKind.i64.wrap (Int.tdiv (IntKind.i64.wrap (((q+1:Nat):Int)-1)) 2)=((q/2:Nat):Int):=by
 rw[EJ h,Int.tdiv_eq_ediv_of_nonneg (by omega),wrap64 (by omega) (by omega)];omega
section
variable{k:Nat}(Q:9223372036854775808<=k)
include Q
def rL{l:List ar}(hs:af (.sl ah) l<=1048576):cS k (l,())=some (dE (bU l),()):=by
 have hl:=ay (e:=ah) (l:=l);simp only[cS,aN];refine bG (fun i:Nat=>(l,(l.take i).flatMap aW,(i:Int),())) l.length (fun G i a=> ?_) (fun G=> ?_) k 0 (by omega) (by omega);have d:=il Q hs a;have b:=fw Q (l.take i);unfold bU at b;have hb1:=jT Q (l.getD i ah.aa);have hb2:=cN (e:=ah) l i;have hb3:=ay (e:=ab) (l:=(l.take i).flatMap aW);have hb4:=ay (e:=ab) (l:=aW (l.getD i ah.aa));simp only[aH,aA a,a,decide_true,if_true,aIR];rw[oX Q d,cy,an (by simp only[b_];omega),aV (by omega),dT ah.aa a];have b:=fw Q l;simp only[aH,q',decide_false,eH,if_false,aI3];show aJb (je k (bU l,())) _=_;rw[KI Q (by omega)];rfl
def xC{l:List ar}(hs:af (.sl ah) l<=1048576)(d:bq l<20):jF k (l,())=some (dE (bU l),()):=by
 have hl:=ay (e:=ah) (l:=l);simp only[jF,aN];refine bG (fun i:Nat=>((l.take i).flatMap aW,l,(l.length:Int),(i:Int),())) l.length (fun G i b=> ?_) (fun G=> ?_) k 0 (by omega) (by omega);have f:=il Q hs b;have g:=fw Q (l.take i);unfold bU at g;have hb1:=jT Q (l.getD i ah.aa);have hb2:=cN (e:=ah) l i;have hb3:=ay (e:=ab) (l:=(l.take i).flatMap aW);have hb4:=ay (e:=ab) (l:=aW (l.getD i ah.aa));simp only[aH,aA b,b,decide_true,if_true,aIR];rw[qP Q f,cy,an (by simp only[b_];omega),aV (by omega),dT ah.aa b];simp only[aH,q',decide_false,eH,if_false,aI3];show aJb (mh k (bU l,())) _=_;simp only[mh,ael,On];rw[an ?_];rfl;simp only[aIZ,b_,List.all_eq_true];refine⟨by first|exact d|exact Nat.lt_trans d (by decide),fun a h=> ?_⟩;have g:=fw Q l;have hm:=cI (e:=ab) h;have f:=bo Q a;have h2:=ay (e:=al) (l:=a.1);omega
def KB{l:List ar}(hs:af (.sl ah) l<=1048576):bq l<=1048576:=by
 have h1:=fw Q l;have h2:=ay (e:=ab) (l:=bU l);unfold bq;omega
def Gq{l:List ar}(hs:af (.sl ah) l<=1048576):nM k (l,())=some ((bq l:Int),()):=by
 have hl:=ay (e:=ah) (l:=l);simp only[nM];refine bG (fun i:Nat=>(l,((((l.take i).flatMap aW).length:Nat):Int),(i:Int),())) l.length (fun G i a=> ?_) (fun G=> ?_) k 0 (by omega) (by omega);have d:=il Q hs a;have m:=fw Q (l.take i);unfold bU at m;have hb2:=cN (e:=ah) l i;have hb3:=ay (e:=ab) (l:=(l.take i).flatMap aW);rw[dT ah.aa a,aI6];simp only[aH,a,decide_true,if_true];have n:=d;rw[bY Q]at n;have hpl:=ay (e:=ax) (l:=(l.getD i ah.aa).2.2);refine bG (fun j:Nat=>(l,((((l.take i).flatMap aW).length+(((l.getD i ah.aa).2.2.take j).flatMap j9).length:Nat):Int),(i:Int),(j:Int),())) (l.getD i ah.aa).2.2.length (fun h j b=> ?_) (fun h=> ?_) k 0 (by omega) (by omega);have hc:=kV Q (e:=ax) (f:=ab) (g:=j9) (fun c=>by rw[cu Q];exact aJp _) ((l.getD i ah.aa).2.2.take j);have hc1:=cN (e:=ax) (l.getD i ah.aa).2.2 j;have hc2:=ay (e:=ab) (l:=((l.getD i ah.aa).2.2.take j).flatMap j9);obtain⟨h3,h4⟩:=fJ Q d b;have hc3:=ay (e:=ab) (l:=((l.getD i ah.aa).2.2.getD j ax.aa).2);simp only[aA a,aA b,aH,b,decide_true,if_true,aIR];rw[Ur (by omega),aV (by omega),dT ax.aa b,aI6,Nat.add_assoc];simp only[aA a,aH,q',decide_false,eH,if_false,if_true,aIR,aI3];rw[aV (by omega)];rfl;simp only[aH,q',decide_false,eH,if_false,aI3];rfl
def ue{l:List ar}(hs:af (.sl ah) l<=1048576):jQ k (l,())=some ((bq l:Int),()):=by
 have hl:=ay (e:=ah) (l:=l);simp only[jQ];refine bG (fun i:Nat=>(((((l.take i).flatMap aW).length:Nat):Int),l,(l.length:Int),(i:Int),())) l.length (fun G i a=> ?_) (fun G=> ?_) k 0 (by omega) (by omega);have d:=il Q hs a;have m:=fw Q (l.take i);unfold bU at m;have hb2:=cN (e:=ah) l i;have hb3:=ay (e:=ab) (l:=(l.take i).flatMap aW);rw[dT ah.aa a,aI6];simp only[aH,aA a,a,decide_true,if_true,aIR];have n:=d;rw[bY Q]at n;have hpl:=ay (e:=ax) (l:=(l.getD i ah.aa).2.2);refine bG (fun j:Nat=>(((((l.take i).flatMap aW).length+(((l.getD i ah.aa).2.2.take j).flatMap j9).length:Nat):Int),l.getD i ah.aa,l,(l.length:Int),(i:Int),(l.getD i ah.aa).2.2,((l.getD i ah.aa).2.2.length:Int),(j:Int),())) (l.getD i ah.aa).2.2.length (fun h j b=> ?_) (fun h=> ?_) k 0 (by omega) (by omega);have hc:=kV Q (e:=ax) (f:=ab) (g:=j9) (fun c=>by rw[cu Q];exact aJp _) ((l.getD i ah.aa).2.2.take j);have hc1:=cN (e:=ax) (l.getD i ah.aa).2.2 j;have hc2:=ay (e:=ab) (l:=((l.getD i ah.aa).2.2.take j).flatMap j9);obtain⟨h3,h4⟩:=fJ Q d b;have hc3:=ay (e:=ab) (l:=((l.getD i ah.aa).2.2.getD j ax.aa).2);simp only[aA b,aH,b,decide_true,if_true,aIR];rw[Ur (by omega),aV (by omega),dT ax.aa b,aI6,Nat.add_assoc];simp only[aH,q',decide_false,eH,if_false,aI3];rw[aV (by omega)];rfl;simp only[aH,q',decide_false,eH,if_false,aI3];rfl
theorem pG{p:ar}{f:Int}(hl:p.2.2.length<=1048576):jM k (p,f,())=some (eZ (fx p f),()):=by
 simp only[jM];refine(iZ (fun i:Nat=>(f,p,(i:Int),())) (fun i=>decide ((p.2.2.getD i ax.aa).1=f)) p.2.2.length (e:=some (-1,())) (fun i=>some ((i:Int),())) (fun G i a=> ?_) (fun G=> ?_) k (by omega)).trans ?_;simp only[aH,aA a,a,decide_true,if_true,aIR,cj];rw[aV (by omega)];simp;unfold fx;cases gO p.2.2.length (fun i=>decide ((p.2.2.getD i ax.aa).1=f))<;>rfl
theorem Bc{p:ar}{f:Int}(hl:p.2.2.length<=1048576):lv k (p,f,())=some (eZ (fx p f),()):=by
 simp only[lv];refine(iZ (fun i:Nat=>(f,p,p.2.2,(p.2.2.length:Int),(i:Int),())) (fun i=>decide ((p.2.2.getD i ax.aa).1=f)) p.2.2.length (e:=some (-1,())) (fun i=>some ((i:Int),())) (fun G i a=> ?_) (fun G=> ?_) k (by omega)).trans ?_;simp only[aH,aA a,a,decide_true,if_true,aIR,cj];rw[aV (by omega)];simp;unfold fx;cases gO p.2.2.length (fun i=>decide ((p.2.2.getD i ax.aa).1=f))<;>rfl
omit Q in
theorem u4(i:Nat):decide (eZ (some i)<0)=false:=decide_eq_false (by simp only[eZ];omega)
omit Q in
theorem sB{i n:Nat}(h:i<n):decide (0<=eZ (some i)/\eZ (some i)<(n:Int))=true:=by simp only[eZ];exact aA h
omit Q in
theorem xM(i:Nat):(eZ (some i)).toNat=i:=by simp[eZ]
def Iv{p:ar}{s:List ai}(hs:af ah p<=1048576)(g:af (.sl al) s<=1048576):oE k (p,s,())=some ((fg k p s).1,(fg k p s).2,()):=by
 have a:p.2.2.length<=1048576:=by rw[bY Q]at hs;have:=ay (e:=ax) (l:=p.2.2);omega
 simp only[oE,eE Q g,pG Q a,cy,fg];cases hc:fx p (cH k s)with
 |none=>rfl
 |some i=>
  obtain⟨b,_,_⟩:=aZ.1 hc;obtain⟨h1,m⟩:=fJ Q hs b;refine(sN (u4 i)).trans ?_;refine(an (sB b)).trans ?_;rw[xM,qh Q m,cy];dsimp only;cases h:fI (p.2.2.getD i ax.aa).2 s with
  |none=>rfl
  |some j=>
   obtain⟨f,_,_⟩:=aZ.1 h;have h3:=dw (e:=ab) (d:=ab.aa) f;refine(sN (u4 j)).trans ?_;refine(an (sB b)).trans ?_;refine(an (sB f)).trans ?_;rw[xM,dh Q (by omega)];rfl
def HK{p:ar}{s:List ai}(hs:af ah p<=1048576)(g:af (.sl al) s<=1048576):oC k (p,s,())=some ((fg k p s).1,(fg k p s).2,()):=by
 have a:p.2.2.length<=1048576:=by rw[bY Q]at hs;have:=ay (e:=ax) (l:=p.2.2);omega
 simp only[oC,iC Q g,Bc Q a,cy,fg];cases hc:fx p (cH k s)with
 |none=>rfl
 |some i=>
  obtain⟨b,_,_⟩:=aZ.1 hc;obtain⟨h1,m⟩:=fJ Q hs b;refine(sN (u4 i)).trans ?_;refine(an (sB b)).trans ?_;rw[xM,Ax Q m,cy];dsimp only;cases h:fI (p.2.2.getD i ax.aa).2 s with
  |none=>rfl
  |some j=>
   obtain⟨f,_,_⟩:=aZ.1 h;have h3:=dw (e:=ab) (d:=ab.aa) f;refine(sN (u4 j)).trans ?_;refine(an (sB b)).trans ?_;refine(an (sB f)).trans ?_;rw[xM,jK Q (by omega)];rfl
def nx{l:List ar}{s:List ai}(a:af (.sl al) s<=1048576):gV k (l,s,())=some (bz k l s,()):=by
 simp only[gV,eE Q a,iw Q,cy,bz]
def Cf{l:List ar}{s:List ai}(a:af (.sl al) s<=1048576):mZ k (l,s,())=some (bz k l s,()):=by
 simp only[mZ,iC Q a,lU Q,cy,bz]
omit Q in
theorem mD{l:List ar}{s:List ai}(h:l.length≠0):0<=bz k l s/\bz k l s<(l.length:Int)/\(bz k l s).toNat<l.length:=by
 have:=xV (f:=cH k s) (n:=(l.length:Int)) (by omega);unfold bz;omega
def ia{l:List ar}{s:List ai}(hs:af (.sl ah) l<=1048576)(e:af (.sl al) s<=1048576):fa k (l,s,())=some ((bL k l s).1,(bL k l s).2,()):=by
 simp only[fa,nx Q e,cy,bL];by_cases d:l.length=0;rw[an (by simpa using d),an d];rfl;obtain⟨a,b,c⟩:=mD (k:=k) (l:=l) (s:=s) d;rw[a_ (by simpa using d),an (by simpa using⟨a,b⟩),Iv Q (il Q hs c) e,cy,a_ d]
def rN{l:List ar}{s:List ai}(hs:af (.sl ah) l<=1048576)(e:af (.sl al) s<=1048576):iW k (l,s,())=some ((bL k l s).1,(bL k l s).2,()):=by
 simp only[iW,Cf Q e,cy,bL];by_cases d:l.length=0;rw[an (by simpa using d),an d];rfl;obtain⟨a,b,c⟩:=mD (k:=k) (l:=l) (s:=s) d;rw[a_ (by simpa using d),an (by simpa using⟨a,b⟩),HK Q (il Q hs c) e,cy,a_ d]
theorem Hu(a b:aJ):n0 k (a,b,())=some (bO a b,()):=by
 simp only[n0,bO,cj];by_cases d:a.1<b.1<;>by_cases e:a.1=b.1<;>simp[d,e]
theorem fW(a b:aJ):gR k (a,b,())=some (bO a b,()):=by
 simp only[gR,bO,cj];by_cases d:a.1<b.1<;>by_cases e:a.1=b.1<;>simp[d,e]
def JW{l:List aJ}(hl:l.length<=1048576):ox k (l,())=some (jx l,()):=by
 simp only[ox,aN]
 refine(cr (fun i:Nat=>(l,l,(l.length:Int),(i:Int),())) (fun i=>(decide (0<=(l.getD i aD.aa).1)&&decide (0<=(l.getD i aD.aa).2))&&(i==0|| !bO (l.getD i aD.aa) (l.getD ((i-1)/2) aD.aa))) l.length
  (e:=some (decide (l.length<=16),())) (no:=some (false,())) ?_ ?_ k 0 (by omega)).trans ?_
 intro G i a;cases i with
 |zero=>
  simp only[aH,aA a,a,PD,decide_true,if_true,aIR,Hu Q,cy,bZ];rw[aV (by omega)];simp only[sC]
  rcases H_ (decide ((l.getD 0 aD.aa).1<0))with h1|h1<;>rcases H_ (decide ((l.getD 0 aD.aa).2<0))with h2|h2<;>
   simp only[h1,h2,if_true,eH,if_false,beq_self_eq_true,aJc,aJe,aI0,aI8,aIY,J5,aJk,aI2,Ws,Wq,aJo,aJf]
 |succ q=>
  have d:q/2<l.length:=by omega
  simp only[aH,aA a,aA d,a,Kh,zz (show q<4611686018427387904 by omega),decide_true,if_true,aIR,Hu Q,cy,bZ,aI2,ne_eq,aJr];rw[aV (by omega)];have f:((q+1:Nat)==0)=false:=rfl;rw[f];have g:decide (¬(2:Int)=0)=true:=rfl;rw[g];simp only[sC]
  rcases H_ (decide ((l.getD (q+1) aD.aa).1<0))with h1|h1<;>rcases H_ (decide ((l.getD (q+1) aD.aa).2<0))with h2|h2<;>
   rcases H_ (bO (l.getD (q+1) aD.aa) (l.getD (q/2) aD.aa))with h3|h3<;>
   simp only[h1,h2,h3,if_true,eH,if_false,beq_self_eq_true,aJc,aJe,aI0,aI8,aIY,J5,aJk,aI2,Bool.or_false,aJn,Ws,Wq,aJo,aJf]
 intro G i a;simp only[aH];rw[a_ (by simp;omega)];congr 2;rw[aIX];simp;omega;unfold jx;generalize bA 0 l.length _=b;cases b<;>simp
def JO{l:List aJ}(hl:l.length<=1048576):oJ k (l,())=some (jx l,()):=by
 simp only[oJ,aN]
 refine(cr (fun i:Nat=>(l,(i:Int),())) (fun i=>(decide (0<=(l.getD i aD.aa).1)&&decide (0<=(l.getD i aD.aa).2))&&(i==0|| !bO (l.getD i aD.aa) (l.getD ((i-1)/2) aD.aa))) l.length
  (e:=some (decide (l.length<=16),())) (no:=some (false,())) ?_ ?_ k 0 (by omega)).trans ?_
 intro G i a;cases i with
 |zero=>
  simp only[aH,aA a,a,PD,decide_true,if_true,aIR,fW Q,cy,bZ,aI2];rw[aV (by omega)];simp only[sC]
  rcases H_ (decide ((l.getD 0 aD.aa).1<0))with h1|h1<;>rcases H_ (decide ((l.getD 0 aD.aa).2<0))with h2|h2<;>
   simp only[h1,h2,if_true,eH,if_false,beq_self_eq_true,aJc,aJe,aI0,aI8,aIY,J5,aJk,aI2,Ws,Wq,aJo,aJf]
 |succ q=>
  have d:q/2<l.length:=by omega
  simp only[aH,aA a,aA d,a,Kh,zz (show q<4611686018427387904 by omega),decide_true,if_true,aIR,fW Q,cy,bZ,aI2,ne_eq,aJr];rw[aV (by omega)];have f:((q+1:Nat)==0)=false:=rfl;rw[f];have g:decide (¬(2:Int)=0)=true:=rfl;rw[g];simp only[sC]
  rcases H_ (decide ((l.getD (q+1) aD.aa).1<0))with h1|h1<;>rcases H_ (decide ((l.getD (q+1) aD.aa).2<0))with h2|h2<;>
   rcases H_ (bO (l.getD (q+1) aD.aa) (l.getD (q/2) aD.aa))with h3|h3<;>
   simp only[h1,h2,h3,if_true,eH,if_false,beq_self_eq_true,aJc,aJe,aI0,aI8,aIY,J5,aJk,aI2,Bool.or_false,aJn,Ws,Wq,aJo,aJf]
 intro G i a;simp only[aH];rw[a_ (by simp;omega)];congr 2;rw[aIX];simp;omega;unfold jx;generalize bA 0 l.length _=b;cases b<;>simp
theorem MV{c:bh}{g:au}:rE k (c,g,())=some (iq c g,()):=by
 simp only[rE,qx,iq,cj];by_cases h:g.2.2.2.1= -1<;>simp[h]
theorem Cu{c:bh}{g:au}:pF k (c,g,())=some (iq c g,()):=by
 simp only[pF,qF,iq,cj];by_cases h:g.2.2.2.1= -1<;>simp[h]
end
def eM(l:List au)(n:Int):Option Nat:=gO l.length (fun i=>decide ((l.getD i aj.aa).1=n))
def R4:br:=(0,[],0,[])
def dQ(l:List au)(n O:Int):List au:=
 match eM l n with
 |none=>l
 |some i=>if(hZ (l.getD i aj.aa) O).2.2.2.2=[]then l.take i++l.drop (i+1)else l.set i (hZ (l.getD i aj.aa) O)
def iy(l:List au)(n O:Int):br:=
 match eM l n with
 |none=>R4
 |some i=>sK (l.getD i aj.aa) O
def lM(l:List au)(n:Int):Bool:=(eM l n).isSome
section
variable{k:Nat}(Q:9223372036854775808<=k)
include Q
def pJ{l:List au}(h:af (.sl aj) l<=1073741824):gg k (l,())=some (l,()):=
 EA (d:=aj.aa) (S:=ga k) Q (K' (ay (e:=aj)) h) (fun e a=>xL Q (K' (cI (e:=aj) a) h))
def Ot{l:List au}(h:af (.sl aj) l<=1073741824):qk k (l,())=some (l,()):=
 Pw (d:=aj.aa) (S:=kX k) Q (K' (ay (e:=aj)) h) (fun e a=>PC Q (K' (cI (e:=aj) a) h))
theorem qb{l:List au}{n:Int}(h:l.length<=1073741824):iv k (l,n,())=some (eZ (eM l n),()):=by
 simp only[iv];refine(iZ (fun i:Nat=>(l,n,(i:Int),())) (fun i=>decide ((l.getD i aj.aa).1=n)) l.length (e:=some (-1,())) (fun i=>some ((i:Int),())) (fun G i a=> ?_) (fun G=> ?_) k (by omega)).trans ?_;simp only[aH,aA a,a,decide_true,if_true,aIR];rw[aV (by omega)];by_cases b:(l.getD i aj.aa).1=n<;>simp[b];simp;unfold eM;cases gO l.length (fun i=>decide ((l.getD i aj.aa).1=n))<;>rfl
def EW{l:List au}{n O:Int}(h:af (.sl aj) l<=1073741824):nf k (l,n,O,())=some (dQ l n O,iy l n O,lM l n,()):=by
 have hl:=ay (e:=aj) (l:=l);simp only[nf];rw[pJ Q h,cy,qb Q (by omega),cy];unfold dQ iy lM;cases b:eM l n with
 |none=>rfl
 |some i=>
  obtain⟨j,_,_⟩:=aZ.1 b;have ht:=cI (e:=aj) (cT (d:=aj.aa) j);have h1:=cN (e:=aj) l i;have h2:=cN (e:=aj) l (i+1);dsimp only;refine(ag5 (decide_eq_false (by simp only[eZ];omega))).trans ?_;refine(an (by simp[eZ];omega)).trans ?_;have f:(eZ (some i)).toNat=i:=by simp[eZ]
  have g:IntKind.i64.wrap (eZ (some i)+1)=((i+1:Nat):Int):=aV (by omega);rw[f];rw[LC Q (by omega),cy];refine(an (by simp[eZ];omega)).trans ?_;by_cases a:(hZ (l.getD i aj.aa) O).2.2.2.2=[]
  rw[an (by rw[a];rfl),an a];refine(an (by simp[eZ];omega)).trans ?_;rw[pJ Q (by omega),cy,g];refine(an (by simp;omega)).trans ?_;rw[aIR,pJ Q (by omega),cy,an (by simp;omega)];rfl;rw[a_ (by simpa using a),a_ a];rfl
def Qo{l:List au}{n O:Int}:af (.sl aj) (dQ l n O)<=af (.sl aj) l:=by
 unfold dQ;cases b:eM l n with
 |none=>exact aJp _
 |some i=>
  obtain⟨f,_,_⟩:=aZ.1 b;simp only;split;have d:=cN (e:=aj) l i;have a:=cN (e:=aj) (l.drop i) 1;rw[List.drop_drop]at a;rw[dP];omega;have d:=ij (e:=aj) l i (hZ (l.getD i aj.aa) O) f;have a:=QW Q (g:=l.getD i aj.aa) (O:=O);omega
def OX{l:List au}{n O:Int}:af bM (iy l n O)<=af (.sl aj) l:=by
 unfold iy;cases a:eM l n with
 |none=>simp[R4,af]
 |some i=>
  obtain⟨b,_,_⟩:=aZ.1 a;have ht:=cI (e:=aj) (cT (d:=aj.aa) b);have h2:=Qn Q (g:=l.getD i aj.aa) (O:=O);simp only;omega
def AT{c:aP}(h:af ax c<=1073741824):jd k (c,())=some (c,()):=by
 have h1:=cu Q c;simp only[jd];rw[fB Q (by omega),cy]
def Pp{c:aP}(h:af ax c<=1073741824):oe k (c,())=some (c,()):=by
 have h1:=cu Q c;simp only[oe];rw[fR Q (by omega),cy]
def KD{p:ar}(h:af ah p<=1073741824):ji k (p,())=some (p,()):=by
 have h1:=bY Q p;have hl:=ay (e:=ax) (l:=p.2.2);simp only[ji];refine bG (fun i=>(p,(0,(0,([]:List aP))),(p.1,p.2.1,p.2.2.take i),(i:Int),())) p.2.2.length (fun G i a=> ?_) (fun G=> ?_) k 0 (by omega) (by omega);have hm:=cI (e:=ax) (cT (d:=ax.aa) a);simp only[aH,aA a,a,decide_true,if_true,aIR];rw[AT Q (by omega),cy,an (by simp;omega),aV (by omega),jU ax.aa a];simp
def Q4{p:ar}(h:af ah p<=1073741824):mw k (p,())=some (p,()):=by
 have h1:=bY Q p;have hl:=ay (e:=ax) (l:=p.2.2);simp only[mw];refine bG (fun i=>(p,(0,(0,([]:List aP))),(p.1,p.2.1,p.2.2.take i),p.2.2,(p.2.2.length:Int),(i:Int),())) p.2.2.length (fun G i a=> ?_) (fun G=> ?_) k 0 (by omega) (by omega);have hm:=cI (e:=ax) (cT (d:=ax.aa) a);simp only[aH,aA a,a,decide_true,if_true,aIR];rw[Pp Q (by omega),cy,an (by simp;omega),aV (by omega),jU ax.aa a];simp
def Kt{l:List ar}(h:af (.sl ah) l<=1073741824):oD k (l,())=some (l,()):=
 EA (d:=ah.aa) (S:=ji k) Q (K' (ay (e:=ah)) h) (fun e a=>KD Q (K' (cI (e:=ah) a) h))
def Ps{l:List ar}(h:af (.sl ah) l<=1073741824):qR k (l,())=some (l,()):=
 Pw (d:=ah.aa) (S:=mw k) Q (K' (ay (e:=ah)) h) (fun e a=>Q4 Q (K' (cI (e:=ah) a) h))
def Ks{s:bg}(h:af aU s<=1073741824):jc k (s,())=some (s,()):=by
 have h1:=eG Q s;simp only[jc];rw[fB Q (by omega),cy]
def Ru{s:bg}(h:af aU s<=1073741824):nk k (s,())=some (s,()):=by
 have h1:=eG Q s;simp only[nk];rw[fR Q (by omega),cy]
def Tf{l:List bg}(h:af (.sl aU) l<=1073741824):tF k (l,())=some (l,()):=
 EA (d:=aU.aa) (S:=jc k) Q (K' (ay (e:=aU)) h) (fun e a=>Ks Q (K' (cI (e:=aU) a) h))
def SI{l:List bg}(h:af (.sl aU) l<=1073741824):tC k (l,())=some (l,()):=
 Pw (d:=aU.aa) (S:=nk k) Q (K' (ay (e:=aU)) h) (fun e a=>Ru Q (K' (cI (e:=aU) a) h))
theorem Ov{l:List aJ}(h:l.length<=1073741824):mT k (l,())=some (l,()):=by
 simp only[mT];rw[an (by simp;omega)];simp
def Rk{b:br}(h:af bM b<=1073741824):oV k (b,())=some (b,()):=by
 have h1:=px Q b;have h2:=ay (e:=al) (l:=b.2.1);simp only[oV];rw[ry Q (by omega),cy,fR Q (by omega),cy]
def xO{t:aF}(h:af ak t<=1073741824):kk k (t,())=some (t,()):=by
 have h1:=bw Q t;have h2:=ay (e:=al) (l:=t.2.2.2.1);have h3:=ay (e:= .int .i64) (l:=t.2.2.2.2.2.1);simp only[kk];rw[dh Q (by omega),cy,an (by simp;omega),an (by simp;omega),fB Q (by omega),cy];simp
def SC{t:aF}(h:af ak t<=1073741824):pY k (t,())=some (t,()):=by
 have h1:=bw Q t;have h2:=ay (e:=al) (l:=t.2.2.2.1);have h3:=ay (e:= .int .i64) (l:=t.2.2.2.2.2.1);simp only[pY];rw[jK Q (by omega),cy,ry Q (by omega),cy,an (by simp;omega),fR Q (by omega),cy];simp
def QF{d:aC}(h:af aw d<=1073741824):kx k (d,())=some (d,()):=by
 have h1:=bN Q d;have h2:=ay (e:=al) (l:=d.2.2.2.1);simp only[kx];rw[dh Q (by omega),cy,an (by simp;omega),fB Q (by omega),cy];simp
def SF{d:aC}(h:af aw d<=1073741824):qf k (d,())=some (d,()):=by
 have h1:=bN Q d;have h2:=ay (e:=al) (l:=d.2.2.2.1);simp only[qf];rw[jK Q (by omega),cy,ry Q (by omega),cy,fR Q (by omega),cy]
def Se{l:List aC}(h:af (.sl aw) l<=1073741824):rD k (l,())=some (l,()):=
 EA (d:=aw.aa) (S:=kx k) Q (K' (ay (e:=aw)) h) (fun e a=>QF Q (K' (cI (e:=aw) a) h))
def NH{b:br}(h:af bM b<=1073741824):gJ k (b,())=some (b,()):=by
 have h1:=px Q b;exact Ct Q (by omega) (by omega)
def tN{w:ag}(hs:af az w<=1073741824):fp k (w,())=some (w,()):=by
 have p:=da Q w;obtain⟨c,h,O,st,j,fd,m,gr,nn,g,b,n,f,o⟩:=w;simp only at p;have h1:=ay (e:=aD) (l:=g);have h2:=ay (e:=bM) (l:=b);have h3:=ay (e:=ak) (l:=f);simp only[fp,aN];rw[F0 Q (by omega),cy,Kt Q (by omega),cy,Tf Q (by omega),cy,fB Q (by omega),cy,pJ Q (by omega),cy,an (by simp;omega)];simp only[aJa];refine bG (fun i=>((c,h,O,st,j,fd,m,gr,nn,g,b,n,f,o),_,(c,h,O,st,j,fd,m,gr,nn,g,b.take i,n,f,o),c,(i:Int),())) b.length (fun G i a=> ?_) (fun G=> ?_) k 0 (by omega) (by omega);have q:=cI (e:=bM) (cT (d:=bM.aa) a);simp only[aH,aA a,a,decide_true,if_true,aIR];rw[NH Q (by omega),cy,an (by simp;omega),aV (by omega),jU bM.aa a];simp only[aH,q',decide_false,eH,if_false,aI3];rw[fB Q (by omega),cy];refine bG (fun i=>((c,h,O,st,j,fd,m,gr,nn,g,b,n,f,o),_,(c,h,O,st,j,fd,m,gr,nn,g,b,n,f.take i,o),c,(i:Int),())) f.length (fun G i a=> ?_) (fun G=> ?_) k 0 (by omega) (by omega);have q:=cI (e:=ak) (cT (d:=ak.aa) a);simp only[aH,aA a,a,decide_true,if_true,aIR];rw[xO Q (by omega),cy,an (by simp;omega),aV (by omega),jU ak.aa a];simp only[aH,q',decide_false,eH,if_false,aI3];rw[Se Q (by omega),cy]
def Py{w:ag}(hs:af az w<=1073741824):fF k (w,())=some (w,()):=by
 have q:=da Q w;obtain⟨c,j,O,st,m,fd,n,gr,nn,h,b,o,f,g⟩:=w;simp only at q;have h1:=ay (e:=aD) (l:=h);have h2:=ay (e:=bM) (l:=b);have h3:=ay (e:=ak) (l:=f);have h4:=ay (e:=aw) (l:=g);simp only[fF,aN]
 rw[Pl Q (by omega),cy,Ps Q (by omega),cy,SI Q (by omega),cy,fR Q (by omega),cy,fR Q (by omega),cy,
  Ot Q (by omega),cy,Ov Q (by omega),cy]
 refine bG (fun i=>((c,j,O,st,m,fd,n,gr,nn,h,b,o,f,g),_,b.take i,b,(b.length:Int),(i:Int),())) b.length (fun G i a=> ?_) (fun G=> ?_) k 0 (by omega) (by omega);have p:=cI (e:=bM) (cT (d:=bM.aa) a);simp only[aH,aA a,a,decide_true,if_true,aIR];rw[Rk Q (by omega),cy,an (by simp;omega),aV (by omega),jU bM.aa a];simp only[aH,q',decide_false,eH,if_false,aI3];refine bG (fun i=>((c,j,O,st,m,fd,n,gr,nn,h,b,o,f,g),_,b,f.take i,f,(f.length:Int),(i:Int),())) f.length (fun G i a=> ?_) (fun G=> ?_) k 0 (by omega) (by omega);have p:=cI (e:=ak) (cT (d:=ak.aa) a);simp only[aH,aA a,a,decide_true,if_true,aIR];rw[SC Q (by omega),cy,an (by simp;omega),aV (by omega),jU ak.aa a];simp only[aH,q',decide_false,eH,if_false,aI3];refine bG (fun i=>((c,j,O,st,m,fd,n,gr,nn,h,b,o,f,g),_,b,f,g.take i,g,(g.length:Int),(i:Int),())) g.length (fun G i a=> ?_) (fun G=> ?_) k 0 (by omega) (by omega);have p:=cI (e:=aw) (cT (d:=aw.aa) a);simp only[aH,aA a,a,decide_true,if_true,aIR];rw[SF Q (by omega),cy,an (by simp;omega),aV (by omega),jU aw.aa a];simp only[aH,q',decide_false,eH,if_false,aI3]
end
def Cb(a b:ae):Bool:=decide (a.2.1<=b.2.2.1)&&decide (b.2.1<=a.2.2.1)
def jS(a b:ae):ae:=if Cb a b=true then(b.1,if b.2.1<a.2.1 then b.2.1 else a.2.1,b.2.2)else b
def jX(c:aP)(a:ae):aP:=
 match fI c.2 a.1 with
 |some i=>(c.1,c.2.set i (jS (c.2.getD i ab.aa) a))
 |none=>(c.1,c.2++[a])
def iY(l:List aP)(f:Int):Nat:=(gO l.length (fun i=> !decide ((l.getD i ax.aa).1<f))).getD l.length
def fE(k:Nat)(p:ar)(a:ae):ar×Bool:=
 match fx p (cH k a.1)with
 |some i=>((p.1,IntKind.i64.wrap (p.2.1+1),p.2.2.set i (jX (p.2.2.getD i ax.aa) a)),(fI (p.2.2.getD i ax.aa).2 a.1).isNone)
 |none=>((p.1,IntKind.i64.wrap (p.2.1+1),p.2.2.take (iY p.2.2 (cH k a.1))++[(cH k a.1,[a])]++p.2.2.drop (iY p.2.2 (cH k a.1))),true)
def cZ(k:Nat)(l:List ar)(a:ae):List ar×Bool:=
 if l.length=0 then(l,false)else(l.set (bz k l a.1).toNat (fE k (l.getD (bz k l a.1).toNat ah.aa) a).1,(fE k (l.getD (bz k l a.1).toNat ah.aa) a).2)
def OR{α:Type}(l:List aP)(f:Int)(g:Nat->α):(match gO l.length (fun i=> !decide ((l.getD i ax.aa).1<f))with|some i=>g i|none=>g l.length)=g (iY l f):=by
 unfold iY;cases gO l.length (fun i=> !decide ((l.getD i ax.aa).1<f))<;>rfl
section
variable{k:Nat}(Q:9223372036854775808<=k)
include Q
theorem Md{a b:ae}:qg k (a,b,())=some (Cb a b,()):=by
 simp only[qg,Cb];by_cases h:a.2.1<=b.2.2.1<;>simp[h]
def Ma{a b:ae}(hb:af ab b<=1048576):pN k (a,b,())=some (jS a b,()):=by
 simp only[pN,sH];rw[dh Q (by omega),cy,Md Q,cy];unfold jS;cases Cb a b;simp;by_cases h:b.2.1<a.2.1<;>simp[h]
def QS{a b:ae}:af ab (jS a b)=af ab b:=by
 unfold jS;split;rw[bo Q,bo Q];rfl
def sZ{c:aP}{a:ae}(hc:af ax c<=1048576)(d:af ab a<=1048576):jn k (c,a,())=some (jX c a,(fI c.2 a.1).isNone,()):=by
 have h1:=cu Q c;have h2:=ay (e:=ab) (l:=c.2);simp only[jn];rw[AT Q (by omega),cy];unfold jX;cases h:fI c.2 a.1 with
 |none=>
  have e:gf k (c,a.1,())=some (-1,()):=by rw[qh Q (by omega),h];rfl
  rw[e,cy,an (by decide),dh Q (by omega),cy,an (by simp;omega)];rfl
 |some i=>
  have b:=(aZ.1 h).1;have e:gf k (c,a.1,())=some ((i:Int),()):=by rw[qh Q (by omega),h];rfl
  rw[e,cy,a_ (by simp),an (aA b),Ma Q d,cy,an (aA b)];rfl
def Na{c:aP}{a:ae}:af ax (jX c a)<=af ax c+af ab a+1:=by
 have h1:=cu Q c;have d:=cu Q (jX c a);unfold jX at d|-;cases h:fI c.2 a.1 with
 |none=>
  rw[h]at d;dsimp only at d|-;have f:=dP (e:=ab) c.2 [a];have g:=bS (e:=ab) a [];have h5:=aX (e:=ab);rw[d];omega
 |some i=>
  have j:=(aZ.1 h).1;rw[h]at d;dsimp only at d|-;have f:=ij (e:=ab) c.2 i (jS (c.2.getD i ab.aa) a) j;have g:=QS Q (a:=c.2.getD i ab.aa) (b:=a);rw[d];omega
def yy{p:ar}{a:ae}(d:af ah p<=1048576)(g:af ab a<=1048576):mK k (p,a,())=some ((fE k p a).1,(fE k p a).2,()):=by
 have h1:=bY Q p;have h2:=ay (e:=ax) (l:=p.2.2);have h3:=bo Q a;simp only[mK];rw[KD Q (by omega),cy,eE Q (by omega),cy];unfold fE;cases h:fx p (cH k a.1)with
 |some i=>
  have b:=(aZ.1 h).1;have e:jM k (p,cH k a.1,())=some ((i:Int),()):=by rw[pG Q (by omega),h];rfl
  rw[e,cy,an (by simp),an (aA b)];simp only[aIR];rw[sZ Q (fJ Q d b).1 g,cy,an (aA b)]
 |none=>
  have e:jM k (p,cH k a.1,())=some (-1,()):=by rw[pG Q (by omega),h];rfl
  rw[e,cy,a_ (by decide)];simp only[aN];generalize hf:cH k a.1=f at h|-
  refine(iZ (fun i:Nat=>(p,a,(0,0,([]:List aP)),(p.1,IntKind.i64.wrap (p.2.1+1),p.2.2),f,(i:Int),())) (fun i=> !decide ((p.2.2.getD i ax.aa).1<f)) p.2.2.length
   (e:=some ((p.1,IntKind.i64.wrap (p.2.1+1),p.2.2.take p.2.2.length++[(f,[a])]++p.2.2.drop p.2.2.length),true,())) (fun i=>some ((p.1,IntKind.i64.wrap (p.2.1+1),p.2.2.take i++[(f,[a])]++p.2.2.drop i),true,())) (fun G i b=> ?_) (fun G=> ?_) k (by omega)).trans ?_
  simp only[aH,aA b,b,decide_true,if_true,aIR,aI2];by_cases hc:(p.2.2.getD i ax.aa).1<f;rw[c_ hc,aV (by omega)];simp;rw[decide_eq_false hc];simp only[aIY,if_true,eH,if_false];rw[dh Q (by omega),cy,an (c_ ⟨by omega,by omega⟩),an (c_ (by simp;omega)),an (c_ (by simp;omega)),an (c_ ⟨by omega,by omega⟩),an (c_ (by simp;omega)),aJa];simp only[aH,q',decide_false,eH,if_false,aIR];rw[an (by simp),dh Q (by omega),cy,an (c_ ⟨by omega,by omega⟩),an (c_ (by simp;omega)),an (c_ (by simp;omega)),an (c_ ⟨by omega,by omega⟩),an (c_ (by simp;omega)),aJa];exact OR p.2.2 f (fun i=>some ((p.1,IntKind.i64.wrap (p.2.1+1),p.2.2.take i++[(f,[a])]++p.2.2.drop i),true,()))
def Nb{p:ar}{a:ae}:af ah (fE k p a).1<=af ah p+af ab a+2:=by
 have h1:=bY Q p;have b:=bY Q (fE k p a).1;unfold fE at b|-;cases h:fx p (cH k a.1)with
 |some i=>
  have d:=(aZ.1 h).1;rw[h]at b;dsimp only at b|-;have f:=ij (e:=ax) p.2.2 i (jX (p.2.2.getD i ax.aa) a) d;have g:=Na Q (c:=p.2.2.getD i ax.aa) (a:=a);rw[b];omega
 |none=>
  rw[h]at b;dsimp only at b|-;have f:=dP (e:=ax) (p.2.2.take (iY p.2.2 (cH k a.1))++[(cH k a.1,[a])]) (p.2.2.drop (iY p.2.2 (cH k a.1)));have g:=dP (e:=ax) (p.2.2.take (iY p.2.2 (cH k a.1))) [(cH k a.1,[a])];have h5:=bS (e:=ax) (cH k a.1,[a]) [];have h6:=aX (e:=ax);have h7:=cu Q (cH k a.1,[a]);have h8:=bS (e:=ab) a [];have h9:=aX (e:=ab);have nX:=cN (e:=ax) p.2.2 (iY p.2.2 (cH k a.1));dsimp only at h7;rw[b];omega
def sP{l:List ar}{a:ae}(d:af (.sl ah) l<=1048576)(e:af ab a<=1048576):jC k (l,a,())=some ((cZ k l a).1,(cZ k l a).2,()):=by
 have h3:=bo Q a;simp only[jC];rw[Kt Q (by omega),cy];unfold cZ;by_cases b:l.length=0;rw[an (by simpa using b),an b];obtain⟨q1,q2,q3⟩:=mD (k:=k) (l:=l) (s:=a.1) b;rw[a_ (by simpa using b),a_ b,nx Q (by omega),cy,an (c_ ⟨q1,q2⟩),yy Q (il Q d q3) e,cy,an (c_ ⟨q1,q2⟩)]
theorem Sj{l:List ar}{a:ae}:(cZ k l a).1.length=l.length:=by
 unfold cZ;split<;>simp
def CP{l:List ar}{a:ae}:af (.sl ah) (cZ k l a).1<=af (.sl ah) l+af ab a+2:=by
 unfold cZ;by_cases b:l.length=0;rw[an b];dsimp only;omega;rw[a_ b];obtain⟨q1,q2,q3⟩:=mD (k:=k) (l:=l) (s:=a.1) b;have h1:=ij (e:=ah) l (bz k l a.1).toNat (fE k (l.getD (bz k l a.1).toNat ah.aa) a).1 q3;have h2:=Nb Q (p:=l.getD (bz k l a.1).toNat ah.aa) (a:=a);dsimp only;omega
end
def iV(O:Int)(l:List ae):List ae:=l.filter fun a=>decide (a.2.2.1<=O)
def ic(O:Int)(c:aP):aP:=(c.1,dC O c.2)
def jV(O:Int)(l:List aP):List aP:=(l.map (ic O)).filter fun c=>decide (0<c.2.length)
def db(O:Int)(l:List aP):List ae:=l.flatMap fun c=>iV O c.2
def dU(p:ar)(O:Int):ar:=(p.1,if 0<(db O p.2.2).length then IntKind.i64.wrap (p.2.1+1)else p.2.1,jV O p.2.2)
def mC(a:ae)(s:bg):bg:=if s.2=true then s else if 3<=s.1.length then([],true)else(s.1++[a],s.2)
def MU{α:Type}(p:α->Bool){l:List α}{i:Nat}(d:α)(h:i<l.length):(l.take (i+1)).filter p=if p (l.getD i d)=true then(l.take i).filter p++[l.getD i d]else(l.take i).filter p:=by
 have b:l.getD i d=l[i]:=by rw[aI1,aJh h];rfl
 rw[aI9 h,aJs,b];by_cases a:p l[i]=true;simp[a];simp[a]
def QZ{O:Int}{l:List aP}{i:Nat}(h:i<l.length):jV O (l.take (i+1))=if 0<(dC O (l.getD i ax.aa).2).length then jV O (l.take i)++[ic O (l.getD i ax.aa)]else jV O (l.take i):=by
 have b:l.getD i ax.aa=l[i]:=by rw[aI1,aJh h];rfl
 unfold jV;rw[aI9 h,aJC,aJs,b];by_cases a:0<(dC O (l[i]).2).length;rw[an a,aJt,aJx,an (show(decide (0<(ic O l[i]).2.length))=true from c_ a)];rfl;rw[a_ a,aJt,aJx,a_ (show¬(decide (0<(ic O l[i]).2.length))=true from fun h=>a (e_ h))];simp
section
variable{k:Nat}(Q:9223372036854775808<=k)
include Q
theorem zB{O:Int}{l:List ae}:af (.sl ab) (iV O l)<=af (.sl ab) l:=vn (e:=ab) _ l
def afz{c:aP}{O:Int}(hc:af ax c<=1048576):UF k (c,O,())=some (ic O c,iV O c.2,()):=by
 have h1:=cu Q c;have h2:=ay (e:=ab) (l:=c.2);simp only[UF,aN];refine(bG (fun i:Nat=>(O,c,(0,([]:List ae)),(c.1,dC O (c.2.take i)),iV O (c.2.take i),c.2,(c.2.length:Int),(i:Int),())) c.2.length (e:=some (ic O c,iV O c.2,())) (fun G i a=> ?_) (fun G=> ?_) k 0 (by omega) (by omega));have l1:=zV (O:=O) (l:=c.2.take i);have d:(iV O (c.2.take i)).length<=(c.2.take i).length:=aJj ..;have l3:(c.2.take i).length<=c.2.length:=by simp;omega
 have hm:af ab (c.2.getD i ab.aa)<=1048576:=(fo Q (by omega) a).1;simp only[aH,aA a,a,decide_true,if_true,aIR,V3,cy];rw[aV (by omega),jK Q (by omega),cy,xZ a];unfold iV at d|-;rw[MU _ ab.aa a];by_cases b:(c.2.getD i ab.aa).2.2.1<=O;simp only[b,decide_true,if_true,J5,eH,if_false];rw[an (c_ (by simp only[aIU];omega))];simp only[b,decide_false,eH,if_false,aIY,if_true];rw[cy,an (c_ (by simp only[aIU];omega))];simp[ic]
def C9{c:aP}{O:Int}(hc:af ax c<=1048576):mq k (c,O,())=some (ic O c,iV O c.2,()):=by
 have h1:=cu Q c;have h2:=ay (e:=ab) (l:=c.2);simp only[mq,aN];refine(bG (fun i:Nat=>(O,c,(0,([]:List ae)),(c.1,dC O (c.2.take i)),iV O (c.2.take i),(i:Int),())) c.2.length (e:=some (ic O c,iV O c.2,())) (fun G i a=> ?_) (fun G=> ?_) k 0 (by omega) (by omega));have l1:=zV (O:=O) (l:=c.2.take i);have d:(iV O (c.2.take i)).length<=(c.2.take i).length:=aJj ..;have l3:(c.2.take i).length<=c.2.length:=by simp;omega
 have hm:af ab (c.2.getD i ab.aa)<=1048576:=(fo Q (by omega) a).1;simp only[aH,aA a,a,decide_true,if_true,aIR,mV];rw[aV (by omega),dh Q (by omega),cy,cy,xZ a];unfold iV at d|-;rw[MU _ ab.aa a];by_cases b:(c.2.getD i ab.aa).2.2.1<=O;simp only[b,decide_true,if_true,J5,eH,if_false];rw[an (c_ (by simp only[aIU];omega))];simp only[b,decide_false,eH,if_false,aIY,if_true];rw[an (c_ (by simp only[aIU];omega))];simp[ic]
def Pu{O:Int}(l:List aP):(db O l).length<=af (.sl ax) l:=by
 have a:af (.sl ab) (db O l)<=af (.sl ax) l:=kV Q (e:=ax) (f:=ab) (g:=fun c=>iV O c.2) (fun c=>K' (zB Q) (by rw[cu Q];exact aJp _)) l;exact K' (ay (e:=ab)) a
theorem Q0{O:Int}(l:List aP):(jV O l).length<=l.length:=by
 unfold jV;exact K' (aJj ..) (by simp)
def ahI{p:ar}{O:Int}(g:af ah p<=1048576):VD k (p,O,())=some (dU p O,db O p.2.2,()):=by
 have h1:=bY Q p;have h2:=ay (e:=ax) (l:=p.2.2);simp only[VD,aN];refine(bG (fun i:Nat=>(O,p,(0,0,([]:List aP)),(p.1,p.2.1,jV O (p.2.2.take i)),db O (p.2.2.take i),p.2.2,(p.2.2.length:Int),(i:Int),())) p.2.2.length (e:=some (dU p O,db O p.2.2,())) (fun G i d=> ?_) (fun G=> ?_) k 0 (by omega) (by omega));have l1:=Q0 Q (O:=O) (p.2.2.take i);have l2:=Pu Q (O:=O) (p.2.2.take i);have l3:=cN (e:=ax) p.2.2 i;have l4:(p.2.2.take i).length<=p.2.2.length:=by simp;omega
 have l5:=Pu Q (O:=O) [p.2.2.getD i ax.aa];have l6:(iV O (p.2.2.getD i ax.aa).2).length<=1048576:=K' (ay (e:=ab)) (K' (zB Q) (fJ Q g d).2);simp only[aH,aA d,d,decide_true,if_true,aIR];rw[aV (by omega),afz Q (fJ Q g d).1,cy,QZ d];have j:db O (p.2.2.take (i+1))=db O (p.2.2.take i)++iV O (p.2.2.getD i ax.aa).2:=dT (f:=fun c:aP=>iV O c.2) ax.aa d;rw[j];by_cases a:0<(dC O (p.2.2.getD i ax.aa).2).length;rw[an (c_ (by simp only[ic];omega)),an a,an (c_ (by simp only[aIU];first|omega|(dsimp only;omega)|(simp;omega))),an (c_ (by first|omega|(dsimp only;omega)|(simp;omega)))];have b:¬decide ((((ic O (p.2.2.getD i ax.aa)).2.length:Nat):Int)>0)=true:=fun h=>a (by have h9:=e_ h;simp only[ic]at h9;omega);rw[a_ b,a_ a,an (c_ (by first|omega|(dsimp only;omega)|(simp;omega)))];simp only[aH,q',decide_false,eH,if_false,aI3];unfold dU;by_cases a:0<(db O p.2.2).length;rw[an (c_ (by omega)),an a];have b:¬decide ((((db O p.2.2).length:Nat):Int)>0)=true:=fun h=>a (by have h9:=e_ h;omega);rw[a_ b,a_ a]
def FR{p:ar}{O:Int}(g:af ah p<=1048576):nD k (p,O,())=some (dU p O,db O p.2.2,()):=by
 have h1:=bY Q p;have h2:=ay (e:=ax) (l:=p.2.2);simp only[nD,aN];refine(bG (fun i:Nat=>(O,p,(0,0,([]:List aP)),(p.1,p.2.1,jV O (p.2.2.take i)),db O (p.2.2.take i),(i:Int),())) p.2.2.length (e:=some (dU p O,db O p.2.2,())) (fun G i d=> ?_) (fun G=> ?_) k 0 (by omega) (by omega));have l1:=Q0 Q (O:=O) (p.2.2.take i);have l2:=Pu Q (O:=O) (p.2.2.take i);have l3:=cN (e:=ax) p.2.2 i;have l4:(p.2.2.take i).length<=p.2.2.length:=by simp;omega
 have l6:(iV O (p.2.2.getD i ax.aa).2).length<=1048576:=K' (ay (e:=ab)) (K' (zB Q) (fJ Q g d).2);simp only[aH,aA d,d,decide_true,if_true,aIR];rw[aV (by omega),C9 Q (fJ Q g d).1,cy,QZ d];have j:db O (p.2.2.take (i+1))=db O (p.2.2.take i)++iV O (p.2.2.getD i ax.aa).2:=dT (f:=fun c:aP=>iV O c.2) ax.aa d;rw[j,an (c_ (by first|omega|(dsimp only;omega)|(simp;omega)))];by_cases a:0<(dC O (p.2.2.getD i ax.aa).2).length;rw[an (c_ (by simp only[ic];omega)),an a,an (c_ (by simp only[aIU];first|omega|(dsimp only;omega)|(simp;omega)))];have b:¬decide ((((ic O (p.2.2.getD i ax.aa)).2.length:Nat):Int)>0)=true:=fun h=>a (by have h9:=e_ h;simp only[ic]at h9;omega);rw[a_ b,a_ a];simp only[aH,q',decide_false,eH,if_false,aI3];unfold dU;by_cases a:0<(db O p.2.2).length;rw[an (c_ (by omega)),an a];have b:¬decide ((((db O p.2.2).length:Nat):Int)>0)=true:=fun h=>a (by have h9:=e_ h;omega);rw[a_ b,a_ a]
def Ac{s:bg}{a:ae}(hs:af aU s<=1048576)(ha:af ab a<=1048576):oj k (s,a,())=some (mC a s,()):=by
 have h1:=eG Q s;have h2:=ay (e:=ab) (l:=s.1);simp only[oj];rw[Ks Q (by omega),cy];unfold mC;by_cases b:s.2=true;rw[an b,an b];rw[a_ b,a_ b];by_cases d:3<=s.1.length;rw[an (c_ (by omega)),an d];have f:¬decide (((s.1.length:Nat):Int)>=3)=true:=fun h=>d (by have h9:=e_ h;omega);rw[a_ f,a_ d,dh Q (by omega),cy,an (c_ (by simp only[aIU];omega))]
def FH{l:List bg}{a:ae}(d:af (.sl aU) l<=1048576)(f:af ab a<=1048576):nj k (l,a,())=some (l.map (mC a),()):=by
 have h2:=ay (e:=aU) (l:=l);simp only[nj];refine(bG (fun i:Nat=>(l,a,(l.take i).map (mC a),(i:Int),())) l.length (e:=some (l.map (mC a),())) (fun G i b=> ?_) (fun G=> ?_) k 0 (by omega) (by omega));have g:l.getD i aU.aa=l[i]:=by rw[aI1,aJh b];rfl
 simp only[aH,aA b,b,decide_true,if_true,aIR];rw[aV (by omega),Ac Q (MJ Q d b) f,cy,an (c_ (by simp;omega)),aI9 b,aJC,g];rfl;simp
end
def ve(l:List aJ)(i j:Nat):List aJ:=(l.set i (l.getD j aD.aa)).set j (l.getD i aD.aa)
def eU(l:List aJ)(i j:Nat):(ve l i j).length=l.length:=by simp[ve]
def HG(l:List aJ)(i:Nat):List aJ:=
 if h:0<i then if bO (l.getD i aD.aa) (l.getD ((i-1)/2) aD.aa)=true then HG (ve l i ((i-1)/2)) ((i-1)/2)else l else l
termination_by i
decreasing_by omega
def vf(l:List aJ)(t:aJ):List aJ:=HG (l++[t]) l.length
def gA(l:List aJ)(i:Nat):Nat:=
 if 2*i+2<l.length/\bO (l.getD (2*i+2) aD.aa) (l.getD (2*i+1) aD.aa)=true then 2*i+2 else 2*i+1
def sj(l:List aJ)(i:Nat):List aJ:=
 if h:2*i+1<l.length then
  if bO (l.getD (gA l i) aD.aa) (l.getD i aD.aa)=true then sj (ve l i (gA l i)) (gA l i)else l
 else l
termination_by l.length-i
decreasing_by
 rw[eU]
 have:i<gA l i:=by unfold gA;split<;>omega
 omega
def Vi{l:List aJ}{i:Nat}(h:2*i+1<l.length):i<gA l i/\gA l i<l.length:=by unfold gA;split<;>omega
def eK(l:List aJ):List aJ×aJ×Bool:=
 if l.length=0 then([],(0,0),false)
 else(if l.length=1 then []else sj ((l.take (l.length-1)).set 0 (l.getD (l.length-1) aD.aa)) 0,l.getD 0 aD.aa,true)
def Zf{i:Nat}(h:i<1073741824):IntKind.i64.wrap (IntKind.i64.wrap ((2:Int)*(i:Int))+1)=((2*i+1:Nat):Int):=by
 have e:(2:Int)*(i:Int)=((2*i:Nat):Int):=by omega
 have w:IntKind.i64.wrap ((2*i:Nat):Int)=((2*i:Nat):Int):=by
  have:=aV (i:=2*i-1) (by omega);rcases aJu i with a|a;subst a;rfl;have b:(((2*i-1:Nat):Int)+1)=((2*i:Nat):Int):=by omega
  rw[b]at this;rw[this];congr 1;omega
 rw[e,w,aV (by omega)]
def i2b{i:Nat}(h:i<1073741824):IntKind.i64.wrap (((2*i+1:Nat):Int)+1)=((2*i+2:Nat):Int):=by
 rw[aV (by omega)]
theorem Ce{σ ρ α:Type}{f:(σ->Option ρ)->σ->Option ρ}(st:α->σ)(res:α->Option ρ)(I:α->Prop)(m:α->Nat)
 (h:∀G a,I a->(∃b,I b/\m b<m a/\res b=res a/\f G (st a)=G (st b))\/f G (st a)=res a):
 ∀n a,I a->m a<n->aM n f (st a)=res a
 |0,a,_,hn=>by omega
 |n+1,a,hI,hn=>by
  rcases h (aM n f) a hI with⟨b,d,hm,g,e⟩|e;show f (aM n f) (st a)=_;rw[e,<-g];exact Ce st res I m h n b d (by omega);exact e
def RV{σ ρ α:Type}{f:(σ->Option ρ)->σ->Option ρ}(st:α->σ)(res:α->Option ρ)(I:α->Prop)(m:α->Nat)
 (h:∀a,I a->∃(c:Bool) (b:α),(c=true->I b/\m b<m a/\res b=res a)/\∀G,f G (st a)=if c=true then G (st b)else res a):
 ∀n a,I a->m a<n->aM n f (st a)=res a:=by
 refine Ce st res I m (fun G a g=> ?_);obtain⟨c,b,d,e⟩:=h a g;cases c with
 |true=>exact Or.inl ⟨b,(d rfl).1,(d rfl).2.1,(d rfl).2.2,e G⟩
 |false=>exact Or.inr (e G)
def Sb{n:Nat}(h:n<4611686018427387904):IntKind.i64.wrap (n:Int)=(n:Int):=by
 rcases aJu n with a|a;subst a;rfl;have:=aV (i:=n-1) (by omega);have b:(((n-1:Nat):Int)+1)=(n:Int):=by omega
 rw[b]at this;rw[this];congr 1;omega
def YO{α:Type}{l:List α}{t:α}(h:l.length<=1048576):IntKind.i64.wrap ((((l++[t]).length:Nat):Int)-1)=(l.length:Int):=by
 rw[aI6,aIU];have e:(((l.length+1:Nat):Int)-1)=(l.length:Int):=by omega
 rw[e,Sb (by omega)]
section
variable{k:Nat}(Q:9223372036854775808<=k)
include Q
def uG{l:List aJ}{t:aJ}(g:l.length<=1048576):kt k (l,t,())=some (vf l t,()):=by
 simp only[kt,aJa];rw[an (c_ (by simp only[aJg];omega)),an (c_ (by simp only[aIU];omega)),YO g];unfold vf;have d:(l++[t]).length<=1048577:=by simp;omega
 have b:l.length<(l++[t]).length:=by simp
 refine Ce (fun a:List aJ×Nat=>(t,a.1,(a.2:Int),())) (fun a=>some (HG a.1 a.2,())) (fun a=>a.2<a.1.length/\a.1.length<=1048577) (fun a=>a.2) ?_ k (l++[t],l.length) ⟨b,d⟩ (by dsimp only;omega);rintro G ⟨L,i⟩ ⟨b,d⟩;dsimp only at b d|-;rw[HG];cases i with
 |zero=>
  right;simp only[PD];simp
 |succ q=>
  have f:q/2<L.length:=by omega
  have h:decide (¬(2:Int)=0)=true:=rfl;have j:(q+1-1)/2=q/2:=by omega
  simp only[aH,aA b,aA f,b,Kh,zz (show q<4611686018427387904 by omega),decide_true,if_true,aIR,fW Q,cy,aI7,fu,ne_eq,h,aI2,beq_self_eq_true,j];rw[dif_pos (Nat.succ_pos q)];by_cases e:bO (L.getD (q+1) aD.aa) (L.getD (q/2) aD.aa)=true;left;refine⟨(ve L (q+1) (q/2),q/2),⟨by rw[eU];exact f,by rw[eU];exact d⟩,by show q/2<q+1;omega,by rw[an e],?_⟩;rw[an e];rfl;right;rw[a_ e,a_ e]
def Dk{l:List aJ}(hl:l.length<=1048576):mo k (l,())=some ((eK l).1,(eK l).2.1,(eK l).2.2,()):=by
 simp only[mo];unfold eK;by_cases j:l.length=0;rw[an (by simpa using j),an j]
 have v:IntKind.i64.wrap (((l.length:Nat):Int)-1)=((l.length-1:Nat):Int):=by
  have:(((l.length:Nat):Int)-1)=((l.length-1:Nat):Int):=by omega
  rw[this,Sb (by omega)]
 have e:decide ((0:Int)<=0/\(0:Int)<(l.length:Int))=true:=c_ ⟨by omega,by omega⟩;rw[a_ (by simpa using j),a_ j,v,an (c_ ⟨by omega,by omega⟩),aIR,an (c_ (by simp;omega))];simp only[aN,aJa,e,if_true];by_cases m:l.length=1;rw[a_ (by simp;omega),an m];have w:l.take (l.length-1)=[]:=by rw[m];rfl
 rw[w];obtain⟨q,f⟩:∃q,k=q+1:=⟨k-1,by omega⟩
 rw[f];simp only[aM,m];rfl;rw[an (by simp;omega),a_ m,an (c_ ⟨by omega,by omega⟩),an (c_ ⟨by omega,by simp;omega⟩)];have t:((l.take (l.length-1)).set 0 (l.getD (l.length-1) aD.aa)).length=l.length-1:=by simp
 refine RV (fun a:List aJ×Nat=>(l,(0,0),((l.length-1:Nat):Int),a.1,(a.2:Int),())) (fun a=>some (sj a.1 a.2,l.getD 0 aD.aa,true,())) (fun a=>a.1.length=l.length-1/\a.2<a.1.length)
  (fun a=>l.length-a.2) ?_ k ((l.take (l.length-1)).set 0 (l.getD (l.length-1) aD.aa),0) ⟨t,by rw[t];show 0<_;omega⟩ (by dsimp only;omega)
 rintro⟨L,i⟩ ⟨o,p⟩;dsimp only at o p|-;have u:l.getD (Int.toNat 0) aD.aa=l.getD 0 aD.aa:=rfl;have b:sj L i=_:=sj.eq_1 L i;by_cases d:2*i+1<L.length;rw[dif_pos d]at b;obtain⟨k1,r⟩:=Vi d;refine⟨bO (L.getD (gA L i) aD.aa) (L.getD i aD.aa),(ve L i (gA L i),gA L i),fun hc=> ?_,fun G=> ?_⟩;refine⟨⟨by rw[eU];exact o,by rw[eU];exact r⟩,by dsimp only;omega,?_⟩;rw[an hc]at b;rw[b];simp only[Zf (show i<1073741824 by omega),i2b (show i<1073741824 by omega),aN,aH,aIR,<-o,aI7,fu,d,decide_true,if_true,u];by_cases g:2*i+2<L.length;simp only[g,aA g,aA d,decide_true,aI2,if_true,beq_self_eq_true,fW Q,cy];by_cases n:bO (L.getD (2*i+2) aD.aa) (L.getD (2*i+1) aD.aa)=true;rw[an n];have f:gA L i=2*i+2:=an ⟨g,n⟩;simp only[<-f,aA r,aA p,aI2,if_true,beq_self_eq_true,fW Q,cy,eH,if_false];rcases H_ (bO (L.getD (gA L i) aD.aa) (L.getD i aD.aa))with hb|hb;rw[a_ (by rw[hb];decide),an hb];rfl;rw[an (by rw[hb];decide),an e,a_ (by rw[hb];decide),b,a_ (by rw[hb];decide)];rw[a_ n];have f:gA L i=2*i+1:=a_ (fun h=>n h.2);simp only[<-f,aA r,aA p,aI2,if_true,beq_self_eq_true,fW Q,cy,eH,if_false];rcases H_ (bO (L.getD (gA L i) aD.aa) (L.getD i aD.aa))with hb|hb;rw[a_ (by rw[hb];decide),an hb];rfl;rw[an (by rw[hb];decide),an e,a_ (by rw[hb];decide),b,a_ (by rw[hb];decide)];have s:decide (2*i+2<L.length)=false:=decide_eq_false g;have x:(false==true)=false:=rfl;simp only[s,x,aIY,aJk,if_true,eH,if_false,cy];have f:gA L i=2*i+1:=a_ (fun h=>g h.1);simp only[<-f,aA r,aA p,aI2,if_true,beq_self_eq_true,fW Q,cy,eH,if_false];rcases H_ (bO (L.getD (gA L i) aD.aa) (L.getD i aD.aa))with hb|hb;rw[a_ (by rw[hb];decide),an hb];rfl;rw[an (by rw[hb];decide),an e,a_ (by rw[hb];decide),b,a_ (by rw[hb];decide)];rw[dif_neg d]at b;refine⟨false,(L,i),(fun h=>nomatch h),fun G=> ?_⟩;have y:decide (2*i+1<L.length)=false:=decide_eq_false d;simp only[Zf (show i<1073741824 by omega),aH,<-o,y,b,e,if_true,eH,if_false,u]
end
theorem uE{α:Type}[DecidableEq α]:∀(l m:List α),allEq (fun a b=>decide (a=b)) l m=decide (l=m)
 | [],[]=>by simp[allEq]
 | [],_::_=>by simp[allEq]
 |_::_,[]=>by simp[allEq]
 |a::l,b::m=>by simp only[allEq,uE l m,List.cons.injEq,aJl]
def rz(a b:ByteArray):(a.toList==b.toList)=decide (a=b):=by
 by_cases h:a=b;simp[h];have:¬a.toList=b.toList:=fun e=>h (toList_inj e);simp[h,this]
instance iLabel:DecidableEq ai:=inferInstance
instance LA:DecidableEq (List ai):=inferInstance
instance iAlarm:DecidableEq ae:= @instDecidableEqProd _ _ inferInstance inferInstance
instance L_:DecidableEq (List ae):=inferInstance
instance iTail:DecidableEq (List Int×(List ae×aJ)):=inferInstance
instance iTask:DecidableEq aF:= @instDecidableEqProd _ _ inferInstance (@instDecidableEqProd _ _ inferInstance (@instDecidableEqProd _ _ inferInstance (@instDecidableEqProd _ _ inferInstance (@instDecidableEqProd _ _ inferInstance inferInstance))))
def zT:aF:=(0,0,cF,[],0,[],[],0,0)
def jv(l:List Int):Bool:=bA 0 l.length (fun i=>decide (0<=l.getD i 0))
def ow(t:aF):Bool:=decide (t.2.2.2.2.1=0)&&decide (t.2.2.2.2.2.1=[])&&decide (t.2.2.2.2.2.2.1=[])
def cV(t:aF)(n:Int):Bool:=
 bc n 0 4&&decide (0<=t.2.2.2.2.2.2.2.2)&&
 ((decide (t.1=0)&&decide (t=zT))||
  (decide (t.1=1)&&decide (n<3)&&bc t.2.1 0 2&&bj t.2.2.1&&decide (t.2.2.2.1=[])&&ow t&&decide (t.2.2.2.2.2.2.2.1=0))||
  (decide (t.1=2)&&decide (n<3)&&bc t.2.1 0 1&&decide (t.2.2.1=cF)&&dt t.2.2.2.1&&ow t&&decide (t.2.2.2.2.2.2.2.1=0))||
  (decide (t.1=3)&&decide (n<3)&&bc t.2.1 0 2&&decide (t.2.2.1=cF)&&decide (t.2.2.2.1=[])&&jv t.2.2.2.2.2.1&&decide ((t.2.2.2.2.2.1.length:Int)=t.2.2.2.2.1)&&bB t.2.2.2.2.2.2.1&&
   (if t.2.1=2 then bc t.2.2.2.2.1 1 3 else bc t.2.2.2.2.1 0 2)&&decide (t.2.2.2.2.2.2.2.1=0))||
  (decide (t.1=4)&&decide (n<3)&&bc t.2.1 0 1&&decide (t.2.2.1=cF)&&decide (t.2.2.2.1=[])&&bc t.2.2.2.2.1 0 2&&decide (t.2.2.2.2.2.1=[])&&decide (t.2.2.2.2.2.2.1=[])&&decide (t.2.2.2.2.2.2.2.1=0))||
  (decide (t.1=5)&&decide (n=3)&&bc t.2.1 0 1&&bj t.2.2.1&&decide (t.2.2.2.1=[])&&ow t&&decide (t.2.2.2.2.2.2.2.1=0))||
  (decide (t.1=6)&&decide (n=4)&&bc t.2.1 0 1&&decide (t.2.2.1=cF)&&decide (t.2.2.2.1=[])&&ow t&&decide (0<=t.2.2.2.2.2.2.2.1)))
def eN(op:Int):List Int:=if op=1 then [1,2,3,4]else if op=3 then [5,6]else if op=7 then [1,2,3]else if op=8 then [8,6]else if op=9 then [5,6,7]else [8]
def er(k:Nat)(d:aC):Bool:=
 match d with
 |(op,task,_,_,i,n,code,_,O,inv,lin,res)=>
  bc op 1 9&&bc task (-1) 4&&decide (0<=inv)&&decide (0<=i)&&decide (0<=n)&&decide (0<=O)&&(decide (lin= -1)||decide (inv<=lin))&&(decide (res= -1)||(!decide (lin= -1)&&decide (lin<=res)))&&
   (if lin= -1 then decide (code=0)else decide (code∈eN op))
def bn(k:Nat)(t:aF)(n:Int):Int:=
 if n<1 then-1
 else if t.1=1/\(t.2.1=1\/t.2.1=2)then dL (cH k t.2.2.1.1) n
 else if t.1=2/\t.2.1=1 then dL (cH k t.2.2.2.1) n
 else if(t.1=3\/t.1=4)/\t.2.1=1 then t.2.2.2.2.1
 else-1
def cA(t:aF):Bool:=(decide (t.1=5)||decide (t.1=6))&&decide (t.2.1=1)
section
variable{k:Nat}(Q:9223372036854775808<=k)
include Q
def fC{a b:ae}(d:a.1.length<=1048576):dJ k (a,b,())=some (decide (a=b),()):=by
 obtain⟨h,i,j,a4⟩:=a;obtain⟨l,m,n,b4⟩:=b;simp only[dJ,dF Q d,cy,cj,rz,aJi,aJl];by_cases e:h=l<;>by_cases f:i=m<;>by_cases g:j=n<;>simp[e,f,g]
def ee{a b:ae}(d:a.1.length<=1048576):bW k (a,b,())=some (decide (a=b),()):=by
 obtain⟨h,i,j,a4⟩:=a;obtain⟨l,m,n,b4⟩:=b;simp only[bW,du Q d,cy,cj,rz,aJi,aJl];by_cases e:h=l<;>by_cases f:i=m<;>by_cases g:j=n<;>simp[e,f,g]
def gE{a:ae}(h:af ab a<=1048576):a.1.length<=1048576:=by
 rw[bo Q]at h;have:=ay (e:=al) (l:=a.1);omega
def Jo{a b:List ae}(g:af (.sl ab) a<=1048576):oO k (a,b,())=some (decide (a=b),()):=by
 rw[<-uE];have hl:=ay (e:=ab) (l:=a);exact aah (d:=ab.aa) (S:=dJ k) Q (by omega) (fun x f y _=>fC Q (gE Q (K' (cI (e:=ab) f) g)))
def ey{a b:List ae}(g:af (.sl ab) a<=1048576):cY k (a,b,())=some (decide (a=b),()):=by
 rw[<-uE];have hl:=ay (e:=ab) (l:=a);exact Uk (d:=ab.aa) (S:=bW k) Q (by omega) (fun x f y _=>ee Q (gE Q (K' (cI (e:=ab) f) g)))
def En{a b:List Int}(ha:a.length<=1048576):jy k (a,b,())=some (decide (a=b),()):=by
 rw[<-uE];refine Eq.trans ?_ (Uk (d:=(0:Int)) (S:=fun z=>some (decide ((z.1:Int)=z.2.1),())) (p:=fun a b=>decide (a=b)) Q (by omega) (fun x hx y _=>rfl));simp only[jy,eqR,cy,fq]
def Ej{a b:aF}(n:af ak a<=1048576):jt k (a,b,())=some (decide (a=b),()):=by
 rw[bw Q]at n;have o:=gE Q (a:=a.2.2.1) (by omega);have h2:=ay (e:=al) (l:=a.2.2.2.1);have h3:=ay (e:= .int .i64) (l:=a.2.2.2.2.2.1);have q1:∀b,bW k (a.2.2.1,b,())=some (decide (a.2.2.1=b),()):=fun b=>ee Q o;have q2:∀b,cg k (a.2.2.2.1,b,())=some (decide (a.2.2.2.1=b),()):=fun b=>du Q (by omega);have q3:∀b,jy k (a.2.2.2.2.2.1,b,())=some (decide (a.2.2.2.2.2.1=b),()):=fun b=>En Q (by omega);have q4:∀b,cY k (a.2.2.2.2.2.2.1,b,())=some (decide (a.2.2.2.2.2.2.1=b),()):=fun b=>ey Q (by omega);obtain⟨q,r,s,t,u,v,w,x,a9⟩:=a;obtain⟨y,z,B,C,D,F,G,H,b9⟩:=b;simp only at q1 q2 q3 q4;simp only[jt,q1,q2,q3,q4,bZ,cy,cj,aJi,aJl];by_cases d:q=y;by_cases f:r=z;by_cases g:s=B;by_cases h:t=C;by_cases i:u=D;by_cases j:v=F;by_cases m:w=G;by_cases p:x=H<;>simp[d,f,g,h,i,j,m,p];simp[d,f,g,h,i,j,m];simp[d,f,g,h,i,j];simp[d,f,g,h,i];simp[d,f,g,h];simp[d,f,g];simp[d,f];simp[d]
def qQ{t:aF}{n:Int}(hs:af ak t<=1048576):jJ k (t,n,())=some (bn k t n,()):=by
 rw[bw Q]at hs
 have g:af (.sl al) t.2.2.1.1<=1048576:=by
  have:=bo Q t.2.2.1;omega
 simp only[jJ,pn,iC Q g,iC Q (l:=t.2.2.2.1) (by omega),lU Q,cy,cj];unfold bn;by_cases a:n<1;simp[a];by_cases d:t.2.1=1;by_cases b:t.1=1;simp[a,d,b];by_cases e:t.1=2;simp[a,d,b,e];by_cases f:t.1=3;simp[a,d,b,e,f];by_cases h:t.1=4<;>simp[a,d,b,e,f,h];by_cases b:t.1=1;by_cases i:t.2.1=2<;>simp[a,d,i,b];simp[a,d,b]
def BO{t:aF}{n:Int}(hs:af ak t<=1048576):lr k (t,n,())=some (bn k t n,()):=by
 rw[bw Q]at hs
 have g:af (.sl al) t.2.2.1.1<=1048576:=by
  have:=bo Q t.2.2.1;omega
 simp only[lr,eE Q g,eE Q (l:=t.2.2.2.1) (by omega),iw Q,cy,cj];unfold bn;by_cases a:n<1;simp[a];by_cases d:t.2.1=1;by_cases b:t.1=1;simp[a,d,b];by_cases e:t.1=2;simp[a,d,b,e];by_cases f:t.1=3;simp[a,d,b,e,f];by_cases h:t.1=4<;>simp[a,d,b,e,f,h];by_cases b:t.1=1;by_cases i:t.2.1=2<;>simp[a,d,i,b];simp[a,d,b]
theorem kD{t:aF}:ik k (t,())=some (cA t,()):=by
 simp only[ik,cA,cj];by_cases a:t.1=5<;>by_cases b:t.1=6<;>simp[a,b]
theorem zx{t:aF}:jm k (t,())=some (cA t,()):=by
 simp only[jm,cA,cj];by_cases a:t.1=5<;>by_cases b:t.1=6<;>simp[a,b]
def Iq{t:aF}(hs:af ak t<=1048576):oP k (t,())=some (jv t.2.2.2.2.2.1&&(decide ((t.2.2.2.2.2.1.length:Int)=t.2.2.2.2.1)&&bB t.2.2.2.2.2.2.1&&(if t.2.1=2 then bc t.2.2.2.2.1 1 3 else bc t.2.2.2.2.1 0 2)),()):=by
 rw[bw Q]at hs;have h3:=ay (e:= .int .i64) (l:=t.2.2.2.2.2.1);simp only[oP,aN]
 refine(cr (fun i:Nat=>(t,t.2.2.2.2.2.1,(t.2.2.2.2.2.1.length:Int),(i:Int),())) (fun i=>decide (0<=t.2.2.2.2.2.1.getD i 0)) t.2.2.2.2.2.1.length
  (e:=some (decide ((t.2.2.2.2.2.1.length:Int)=t.2.2.2.2.1)&&bB t.2.2.2.2.2.2.1&&(if t.2.1=2 then bc t.2.2.2.2.1 1 3 else bc t.2.2.2.2.1 0 2),())) (no:=some (false,())) ?_ ?_ k 0 (by omega)).trans ?_
 intro G i a;simp only[aH,aA a,a,decide_true,if_true,aIR,sC];rw[aV (by omega)];rcases H_ (decide (t.2.2.2.2.2.1.getD i 0<0))with h|h<;>simp only[h,if_true,eH,if_false,J5,aIY];intro G i a;simp only[aH];rw[a_ (by simp;omega)];simp only[kQ Q (l:=t.2.2.2.2.2.2.1) (by omega),fG Q,cy,fq,cj,bZ];by_cases q:(t.2.2.2.2.2.1.length:Int)=t.2.2.2.2.1<;>by_cases p:t.2.1=2<;>cases hb:bB t.2.2.2.2.2.2.1<;>simp[q,p];unfold jv;generalize bA 0 t.2.2.2.2.2.1.length _=b;cases b<;>simp
def EY{t:aF}(hs:af ak t<=1048576):ni k (t,())=some (jv t.2.2.2.2.2.1&&(decide ((t.2.2.2.2.2.1.length:Int)=t.2.2.2.2.1)&&(if t.2.1=2 then bc t.2.2.2.2.1 1 3 else bc t.2.2.2.2.1 0 2)),()):=by
 rw[bw Q]at hs;have h3:=ay (e:= .int .i64) (l:=t.2.2.2.2.2.1);simp only[ni,aN]
 refine(cr (fun i:Nat=>(t,(i:Int),())) (fun i=>decide (0<=t.2.2.2.2.2.1.getD i 0)) t.2.2.2.2.2.1.length
  (e:=some (decide ((t.2.2.2.2.2.1.length:Int)=t.2.2.2.2.1)&&(if t.2.1=2 then bc t.2.2.2.2.1 1 3 else bc t.2.2.2.2.1 0 2),())) (no:=some (false,())) ?_ ?_ k 0 (by omega)).trans ?_
 intro G i a;simp only[aH,aA a,a,decide_true,if_true,aIR,sC];rw[aV (by omega)];rcases H_ (decide (t.2.2.2.2.2.1.getD i 0<0))with h|h<;>simp only[h,if_true,eH,if_false,J5,aIY];intro G i a;simp only[aH];rw[a_ (by simp;omega)];simp only[fS Q,cy,cj,bZ];generalize t.2.2.2.2.2.1.length=n;generalize t.2.2.2.2.1=m;by_cases p:t.2.1=2<;>by_cases q:(n:Int)=m;subst q;simp[p];have q2:¬m=(n:Int):=fun e=>q e.symm;simp[p,q,q2];subst q;simp[p,bc];simp[p,q];unfold jv;generalize bA 0 t.2.2.2.2.2.1.length _=b;cases b<;>simp
end
theorem cU{σ ρ:Type}{f:(σ->Option ρ)->σ->Option ρ}(st:Nat->σ)(p:Nat->Bool)(n:Nat){e no:Option ρ}
 (b:∀G i,i<n->f G (st i)=if p i=true then G (st (i+1))else no) (d:∀G,f G (st n)=e):
 ∀(k a:Nat),a<=n->n-a<k->aM k f (st a)=if bA a n p=true then e else no
 |0,_,_,h=>by omega
 |k+1,a,hn,h=>by
  show f (aM k f) (st a)=_;by_cases g:a<n;rw[b _ a g,Wu g,cU st p n b d k (a+1) (by omega) (by omega)];cases p a<;>simp;have:a=n:=by omega
  subst this;rw[d,lX (by omega),an rfl]
def Ay{n:Nat}{p:Nat->Bool}:bA 0 (n+1) p=(bA 0 n p&&p n):=by
 rw[aIX];simp only[aIZ,ck];constructor;intro h;exact⟨fun i a b=>h i a (by omega),h n (by omega) (by omega)⟩;rintro⟨a,b⟩ i hi hj;by_cases d:i=n;subst d;exact b;exact a i hi (by omega)
def xG(st:List ar)(seen:List Int):Bool:=bA 0 seen.length (fun i=> !decide (seen.getD i 0>(st.getD i ah.aa).2.1))
def gC(st:List ar)(seen:List Int):Bool:=bA 0 seen.length (fun i=>decide (seen.getD i 0=(st.getD i ah.aa).2.1))
def dm(st:List ar)(t:aF):Bool:=
 xG st t.2.2.2.2.2.1&&(!gC st t.2.2.2.2.2.1||decide ((st.take t.2.2.2.2.2.1.length).flatMap aW=t.2.2.2.2.2.2.1))
def kY(k:Nat)(w:ag)(t:aF)(d:aC):Bool:=
 if t.1=1 then
  decide (d.1=1)&&(if t.2.1=2 then decide (d.2.2.1.1=t.2.2.1.1)&&(bL k w.2.2.2.1 t.2.2.1.1).2&&decide ((bL k w.2.2.2.1 t.2.2.1.1).1=t.2.2.1)else decide (d.2.2.1=t.2.2.1)&&cw t.2.2.1)
 else if t.1=2 then decide (d.1=3)&&decide (d.2.2.2.1=t.2.2.2.1)
 else if t.1=3 then decide (d.1=4)&&((if t.2.1=2 then decide ((t.2.2.2.2.2.1.length:Int)=w.1.1)else decide (t.2.2.2.2.1<w.1.1))&&dm w.2.2.2.1 t)
 else if t.1=4 then decide (d.1=6)&&decide (t.2.2.2.2.1<w.1.1)
 else if t.1=5 then decide (d.1=7)&&decide (d.2.2.1=t.2.2.1)
 else decide (d.1=8)&&(decide (d.2.2.2.2.2.1=t.2.2.2.2.2.2.2.1)&&decide (t.2.2.2.2.2.2.2.1<w.2.2.2.2.2.2.2.2.1))
def cJ(k:Nat)(w:ag)(t:aF)(d:aC)(n:Int):Bool:=
 cV t n&&(decide (t.1=0)||(decide (t.2.2.2.2.2.2.2.2<(w.2.2.2.2.2.2.2.2.2.2.2.2.2.length:Int))&&(decide (d.2.1=n)&&decide (d.2.2.2.2.2.2.2.2.2.2.2= -1)&&
  decide ((¬d.2.2.2.2.2.2.2.2.2.2.1= -1)↔(t.1=1/\t.2.1=2))&&kY k w t d)))
section
variable{k:Nat}(Q:9223372036854775808<=k)
include Q
def lQ{t:aF}(hs:af ak t<=1048576):
 af ab t.2.2.1<=1048576/\af (.sl al) t.2.2.2.1<=1048576/\t.2.2.2.2.2.1.length<=1048576/\af (.sl ab) t.2.2.2.2.2.2.1<=1048576/\af (.sl al) t.2.2.1.1<=1048576:=by
 rw[bw Q]at hs;have h2:=ay (e:= .int .i64) (l:=t.2.2.2.2.2.1);have:=bo Q t.2.2.1;omega
def EV{t:aC}(hs:af aw t<=1048576):
 af ab t.2.2.1<=1048576/\af (.sl al) t.2.2.2.1<=1048576/\af (.sl ab) t.2.2.2.2.2.2.2.1<=1048576/\af (.sl al) t.2.2.1.1<=1048576:=by
 rw[bN Q]at hs;have:=bo Q t.2.2.1;omega
def JG{t:aF}{n:Int}(hs:af ak t<=1048576):oK k (t,n,())=some (cV t n,()):=by
 obtain⟨b,o,q,p,r⟩:=lQ Q hs;have h6:=gE Q b;simp only[oK,fX,fS Q,qC Q p,gK Q b,ly Q o,fC Q h6,EY Q hs,cy,bZ,cj];refine congrArg some (aJy ?_ rfl);simp only[apply_ite aJz];unfold cV;obtain⟨op,pc,a,l,i,seen,got,nn,hh⟩:=t;obtain⟨a1,a2,a3,a4⟩:=a;clear hs b o q p r h6;have hA:bB ([]:List ae)=true:=rfl;have hS:jv ([]:List Int)=true:=rfl;simp only[zT,cF,bc,ow,aJi];rw[aIX];by_cases d:op=0;subst d;simp;grind;by_cases e:op=1;subst e;simp;grind;by_cases f:op=2;subst f;simp;grind;by_cases g:op=3;subst g;simp;grind;by_cases h:op=4;subst h;simp;grind;by_cases j:op=5;subst j;simp;grind;by_cases m:op=6;subst m;simp;grind;simp[d,e,f,g,h,j,m]
def Kc{t:aF}{n:Int}(hs:af ak t<=1048576):oS k (t,n,())=some (cV t n,()):=by
 obtain⟨m,o,p,q,r⟩:=lQ Q hs;simp only[oS,aN,fG Q,Iq Q hs,jz Q m,oM Q o,Ej Q hs,cy,bZ,cj];refine congrArg some (aJy ?_ rfl);simp only[apply_ite aJz];unfold cV;obtain⟨op,pc,a,l,i,seen,got,nn,hh⟩:=t;obtain⟨a1,a2,a3,a4⟩:=a;clear hs m o p q r;have hA:bB ([]:List ae)=true:=rfl;have hS:jv ([]:List Int)=true:=rfl;simp only[zT,cF,bc,ow,aJi];rw[aIX];by_cases b:op=0;subst b;simp;grind;by_cases d:op=1;subst d;simp;grind;by_cases e:op=2;subst e;simp;grind;by_cases f:op=3;subst f;simp;grind;by_cases g:op=4;subst g;simp;grind;by_cases h:op=5;subst h;simp;grind;by_cases j:op=6;subst j;simp;grind;simp[b,d,e,f,g,h,j]
end
def lH(a b:Int):decide (a>=b)= !decide (a<b):=by by_cases h:a<b<;>simp[h]<;>omega
section
variable{k:Nat}(Q:9223372036854775808<=k)
include Q
theorem Ca{l:List Int}{n:Int}(hl:l.length<=10):lW k (l,n,())=some (decide (n∈l),()):=by
 simp only[lW]
 rw[qS (g:=fun(t:List Int×Int×Int×Unit)=>some (decide (n∈l.drop t.2.2.1.toNat),())) (m:=fun(t:List Int×Int×Int×Unit)=>l.length-t.2.2.1.toNat)
  (I:=fun(t:List Int×Int×Int×Unit)=>t.1=l/\t.2.1=n/\0<=t.2.2.1/\t.2.2.1<=(l.length:Int))]
 simp;rintro G ⟨l',n',i,u⟩ ⟨e1,e2,hi0,hi1⟩ hG;change l'=l at e1;change n'=n at e2;subst e1 e2;simp only at hi0 hi1 hG|-;by_cases b:i<(l'.length:Int);have e:i.toNat<l'.length:=by omega
 rw[an (by simpa using b),an (by simpa using⟨hi0,b⟩),gz (d:=(0:Int)) e];by_cases a:n'=l'.getD i.toNat 0;rw[an (by rw[a];simp)];simp only[List.mem_cons,a,true_or,decide_true];rw[a_ (by simp only[beq_iff_eq];exact fun h=>a h.symm),wrap64 (by omega) (by omega),hG (l',n',i+1,()) ⟨rfl,rfl,by simp only;omega,by simp only;omega⟩ (by simp only;omega)];simp only[List.mem_cons,a,false_or];rw[show(i+1).toNat=i.toNat+1 by omega];rw[a_ (by simpa using b),List.drop_eq_nil_of_le (by omega)];simp;exact⟨rfl,rfl,by simp,by simp⟩;simp only;omega
theorem Pa(op n:Int):lY k (op,n,())=some (decide (n∈eN op),()):=by
 simp only[lY,bP,cy,beq_iff_eq,eN];split;congr 2;rw[aIX];simp;omega;split;congr 2;rw[aIX];simp;omega;split;congr 2;rw[aIX];simp;omega;split;congr 2;rw[aIX];simp;split;congr 2;rw[aIX];simp;omega;congr 2;rw[aIX];simp
theorem sO(op:Int):ju k (op,())=some (eN op,()):=by
 simp only[ju,beq_iff_eq,eN]
 repeat' split
 all_goals rfl
theorem O1(op:Int):(eN op).length<=10:=by
 unfold eN
 repeat' split
 all_goals decide
def IH{d:aC}:oI k (d,())=some (er k d,()):=by
 obtain⟨op,task,a,l,i,n,code,got,O,inv,b,res⟩:=d;simp only[oI,bD,cy,bZ,sO Q,Ca Q (O1 Q op),er,bc];generalize decide (code∈eN op)=q;refine congrArg some (aJy ?_ rfl);simp only[apply_ite aJz];rw[aIX];by_cases e:b= -1<;>by_cases f:res= -1<;>by_cases g:inv<=b<;>by_cases h:b<=res<;>cases q<;>simp[e,f,g,h]<;>omega
def HO{d:aC}:oF k (d,())=some (er k d,()):=by
 obtain⟨op,task,a,l,i,n,code,got,O,inv,b,res⟩:=d;simp only[oF,bP,cy,bZ,Pa Q,er,bc];generalize decide (code∈eN op)=q;refine congrArg some (aJy ?_ rfl);simp only[apply_ite aJz];rw[aIX];by_cases e:b= -1<;>by_cases f:res= -1<;>by_cases g:inv<=b<;>by_cases h:b<=res<;>cases q<;>simp[e,f,g,h]<;>omega
def pU{w:ag}{t:aF}(hs:af ak t<=1048576)(m:af (.sl ah) w.2.2.2.1<=1048576)(hl:t.2.2.2.2.2.1.length<=w.2.2.2.1.length):
 fZ k (w,t,())=some (dm w.2.2.2.1 t,()):=by
 obtain⟨h1,h2,h3,h4,h5⟩:=lQ Q hs;simp only[fZ,aN]
 refine(cU (fun i:Nat=>(w,t,(w.2.2.2.1.take i).flatMap aW,bA 0 i (fun i=>decide (t.2.2.2.2.2.1.getD i 0=(w.2.2.2.1.getD i ah.aa).2.1)),(i:Int),()))
  (fun i=> !decide (t.2.2.2.2.2.1.getD i 0>(w.2.2.2.1.getD i ah.aa).2.1)) t.2.2.2.2.2.1.length
  (e:=some (!gC w.2.2.2.1 t.2.2.2.2.2.1||decide ((w.2.2.2.1.take t.2.2.2.2.2.1.length).flatMap aW=t.2.2.2.2.2.2.1),())) (no:=some (false,())) ?_ ?_ k 0 (by omega) (by omega)).trans ?_
 intro G i g;have a:i<w.2.2.2.1.length:=by omega
 have n:=il Q m a;have b:=fw Q (w.2.2.2.1.take i);unfold bU at b;have hb1:=jT Q (w.2.2.2.1.getD i ah.aa);have d:=cN (e:=ah) w.2.2.2.1 i;have hb3:=ay (e:=ab) (l:=(w.2.2.2.1.take i).flatMap aW);have hb4:=ay (e:=ab) (l:=aW (w.2.2.2.1.getD i ah.aa))
 have f:decide (((w.2.2.2.1.take i).flatMap aW).length+(aW (w.2.2.2.1.getD i ah.aa)).length<4294967296)=true:=by
  simp only[b_];omega
 simp only[aH,aA g,aA a,g,decide_true,if_true,aIR,aI2,oX Q n,cy,f];rw[aV (by omega),dT ah.aa a,Ay]
 rcases H_ (decide (t.2.2.2.2.2.1.getD i 0>(w.2.2.2.1.getD i ah.aa).2.1))with h|h<;>
  simp only[h,if_true,J5,aIY,eH,if_false,cj,wQ]
 intro G;simp only[aH,q',decide_false,eH,if_false];show aJb (if((!gC w.2.2.2.1 t.2.2.2.2.2.1)==false)=true then oO k ((w.2.2.2.1.take t.2.2.2.2.2.1.length).flatMap aW,t.2.2.2.2.2.2.1,())else some (false,())) _=_;have b:=fw Q (w.2.2.2.1.take t.2.2.2.2.2.1.length);unfold bU at b;have d:=cN (e:=ah) w.2.2.2.1 t.2.2.2.2.2.1.length;rw[Jo Q (by omega)];show aJb _ (fun j:Bool×Unit=>some (if(!gC w.2.2.2.1 t.2.2.2.2.2.1)=true then true else j.1,()))=_;cases gC w.2.2.2.1 t.2.2.2.2.2.1<;>simp;unfold dm;show(if xG w.2.2.2.1 t.2.2.2.2.2.1=true then _ else _)=_;cases xG w.2.2.2.1 t.2.2.2.2.2.1<;>simp
def BK{w:ag}{t:aF}(hs:af ak t<=1048576)(o:af (.sl ah) w.2.2.2.1<=1048576)(b:(if t.2.1=2 then decide ((t.2.2.2.2.2.1.length:Int)=w.1.1)else decide (t.2.2.2.2.1<w.1.1))=true->t.2.2.2.2.2.1.length<=w.2.2.2.1.length)(d:t.2.1<=2):
 ld k (w,t,())=some ((if t.2.1=2 then decide ((t.2.2.2.2.2.1.length:Int)=w.1.1)else decide (t.2.2.2.2.1<w.1.1))&&dm w.2.2.2.1 t,()):=by
 obtain⟨h1,h2,h3,r,h5⟩:=lQ Q hs;simp only[ld,aN]
 have hc:(if(if(decide ((t.2.1:Int)<(2:Int)))=true then decide ((t.2.2.2.2.1:Int)>=w.1.1)else false)=true then true else if((t.2.1:Int)==(2:Int))=true then(((List.length t.2.2.2.2.2.1:Nat):Int):Int) != w.1.1 else false)
  = !(if t.2.1=2 then decide ((t.2.2.2.2.2.1.length:Int)=w.1.1)else decide (t.2.2.2.2.1<w.1.1)):=by
  rw[lH,fq];by_cases q:t.2.1=2
  ·simp[q]
  ·have q2:t.2.1<2:=by have:=d;omega
   simp[q,q2];exact lH _ _
 rw[hc];rcases H_ (if t.2.1=2 then decide ((t.2.2.2.2.2.1.length:Int)=w.1.1)else decide (t.2.2.2.2.1<w.1.1))with hcc|hcc;rotate_left
 ·rw[hcc];rfl
 have hl:=b hcc;rw[hcc,a_ (by simp)]
 refine(cU (fun i:Nat=>(w,t,bA 0 i (fun i=>decide (t.2.2.2.2.2.1.getD i 0=(w.2.2.2.1.getD i ah.aa).2.1)),(w.2.2.2.1.take i).flatMap aW,t.2.2.2.2.2.1,(t.2.2.2.2.2.1.length:Int),(i:Int),()))
  (fun i=> !decide (t.2.2.2.2.2.1.getD i 0>(w.2.2.2.1.getD i ah.aa).2.1)) t.2.2.2.2.2.1.length
  (e:=some (!gC w.2.2.2.1 t.2.2.2.2.2.1||decide ((w.2.2.2.1.take t.2.2.2.2.2.1.length).flatMap aW=t.2.2.2.2.2.2.1),())) (no:=some (false,())) ?_ ?_ k 0 (by omega) (by omega)).trans ?_
 ·intro G i m;have a:i<w.2.2.2.1.length:=by omega
  have d:=il Q o a;have f:=fw Q (w.2.2.2.1.take i);unfold bU at f;have hb1:=jT Q (w.2.2.2.1.getD i ah.aa);have g:=cN (e:=ah) w.2.2.2.1 i;have hb3:=ay (e:=ab) (l:=(w.2.2.2.1.take i).flatMap aW);have hb4:=ay (e:=ab) (l:=aW (w.2.2.2.1.getD i ah.aa))
  have j:decide (((w.2.2.2.1.take i).flatMap aW).length+(aW (w.2.2.2.1.getD i ah.aa)).length<4294967296)=true:=by
   simp only[b_];omega
  simp only[aH,aA m,aA a,m,decide_true,if_true,aIR,aI2,qP Q d,cy,j];rw[aV (by omega),dT ah.aa a,Ay]
  rcases H_ (decide (t.2.2.2.2.2.1.getD i 0>(w.2.2.2.1.getD i ah.aa).2.1))with h|h<;>
   simp only[h,if_true,J5,aIY,eH,if_false,cj,wQ]
 ·intro G;simp only[aH,q',decide_false,eH,if_false];have f:=fw Q (w.2.2.2.1.take t.2.2.2.2.2.1.length);unfold bU at f;have g:=cN (e:=ah) w.2.2.2.1 t.2.2.2.2.2.1.length;rw[ey Q r];show aJb (if((!gC w.2.2.2.1 t.2.2.2.2.2.1)==false)=true then some (decide (t.2.2.2.2.2.2.1=(w.2.2.2.1.take t.2.2.2.2.2.1.length).flatMap aW),())else some (false,())) (fun n:Bool×Unit=>some (if(!gC w.2.2.2.1 t.2.2.2.2.2.1)=true then true else n.1,()))=_
  have p:decide (t.2.2.2.2.2.2.1=(w.2.2.2.1.take t.2.2.2.2.2.1.length).flatMap aW)=decide ((w.2.2.2.1.take t.2.2.2.2.2.1.length).flatMap aW=t.2.2.2.2.2.2.1):=by
   rw[aIX];simp only[b_];exact eq_comm
  rw[p];cases gC w.2.2.2.1 t.2.2.2.2.2.1<;>simp
 ·unfold dm;show(if xG w.2.2.2.1 t.2.2.2.2.2.1=true then _ else _)=_;cases xG w.2.2.2.1 t.2.2.2.2.2.1<;>simp
end
def CF{t:aF}{n:Int}(h:cV t n=true):0<=t.2.2.2.2.2.2.2.2/\(t.1=0\/t.1=1\/t.1=2\/t.1=3\/t.1=4\/t.1=5\/t.1=6):=by
 unfold cV at h;grind
def Ob{t:aF}{n:Int}(h:cV t n=true)(e:t.1=3):(t.2.2.2.2.2.1.length:Int)=t.2.2.2.2.1/\0<=t.2.1/\t.2.1<=2:=by
 unfold cV bc at h;grind
def TQ{t:aF}{n:Int}(h:cV t n=true)(e:t.1=4):t.2.2.2.2.2.1=[]/\t.2.2.2.2.2.2.1=[]/\t.2.1<=1:=by
 unfold cV bc at h;grind
section
variable{k:Nat}(Q:9223372036854775808<=k)
include Q
def ER{l:List ar}{s:List ai}(hs:af (.sl ah) l<=1048576):(bL k l s).1.1.length<=1048576:=by
 unfold bL;split;simp[cF];rename_i f;obtain⟨_,_,c⟩:=mD (k:=k) (l:=l) (s:=s) f;have b:=il Q hs c;generalize l.getD (bz k l s).toNat ah.aa=p at b|-;unfold fg;cases hc:fx p (cH k s)with
 |none=>simp[cF]
 |some i=>
  obtain⟨h,_,_⟩:=aZ.1 hc;obtain⟨h1,h2⟩:=fJ Q b h;dsimp only;cases g:fI (p.2.2.getD i ax.aa).2 s with
  |none=>simp[cF]
  |some j=>
   obtain⟨m,_,_⟩:=aZ.1 g;have h3:=dw (e:=ab) (d:=ab.aa) m;exact gE Q (a:=(p.2.2.getD i ax.aa).2.getD j ab.aa) (by omega)
def eA{w:ag}(hs:af az w<=1048576):
 af cM w.1<=1048576/\af (.sl ah) w.2.2.2.1<=1048576/\af (.sl aU) w.2.2.2.2.1<=1048576/\af (.sl ab) w.2.2.2.2.2.1<=1048576/\af (.sl aj) w.2.2.2.2.2.2.2.1<=1048576/\
 w.2.2.2.2.2.2.2.2.2.1.length<=1048576/\af (.sl ab) w.2.2.2.2.2.2.2.2.2.2.2.1<=1048576/\af (.sl ak) w.2.2.2.2.2.2.2.2.2.2.2.2.1<=1048576/\af (.sl aw) w.2.2.2.2.2.2.2.2.2.2.2.2.2<=1048576:=by
 rw[da Q]at hs;have h:=ay (e:=aD) (l:=w.2.2.2.2.2.2.2.2.2.1);omega
theorem vN{e:Ty}{l:List e.den}(a:af e e.aa=0)(hs:af (.sl e) l<=1048576)(n:Nat):af e (l.getD n e.aa)<=1048576:=by
 by_cases h:n<l.length;have:=dw (e:=e) (d:=e.aa) h;omega;rw[aI1,List.getElem?_eq_none (by omega),Option.getD_none,a];omega
def GZ{w:ag}{i:Nat}(hs:af az w<=1048576)(G:i<w.2.2.2.2.2.2.2.2.2.2.2.2.1.length)(hp:(w.2.2.2.1.length:Int)=w.1.1):
 nm k (w,(i:Int),())=some (cJ k w (w.2.2.2.2.2.2.2.2.2.2.2.2.1.getD i ak.aa) (w.2.2.2.2.2.2.2.2.2.2.2.2.2.getD (w.2.2.2.2.2.2.2.2.2.2.2.2.1.getD i ak.aa).2.2.2.2.2.2.2.2.toNat aw.aa) i,()):=by
 obtain⟨_,r,_,_,_,_,_,L,N⟩:=eA Q hs;have n:af ak (w.2.2.2.2.2.2.2.2.2.2.2.2.1.getD i ak.aa)<=1048576:=vN Q (e:=ak) rfl L i;have H:af aw (w.2.2.2.2.2.2.2.2.2.2.2.2.2.getD (w.2.2.2.2.2.2.2.2.2.2.2.2.1.getD i ak.aa).2.2.2.2.2.2.2.2.toNat aw.aa)<=1048576:=vN Q (e:=aw) rfl N (w.2.2.2.2.2.2.2.2.2.2.2.2.1.getD i ak.aa).2.2.2.2.2.2.2.2.toNat;unfold nm aN;dsimp only;rw[an (aA G),aIR];generalize w.2.2.2.2.2.2.2.2.2.2.2.2.1.getD i ak.aa=t at*
 generalize w.2.2.2.2.2.2.2.2.2.2.2.2.2.getD t.2.2.2.2.2.2.2.2.toNat aw.aa=d at*
 rw[JG Q n,cy];unfold cJ;by_cases b:cV t i=true;rotate_left
 ·simp[b]
 obtain⟨P,m⟩:=CF b;obtain⟨C,t2,t3,t4,R⟩:=lQ Q n;obtain⟨S,d2,d3,d4⟩:=EV Q H;have o:=ER Q (s:=t.2.2.1.1) r;have t6:=gE Q C;have y:=gE Q S;have t7:=ay (e:=al) (l:=t.2.2.1.1);have d7:=ay (e:=al) (l:=d.2.2.1.1);have d8:=ay (e:=al) (l:=d.2.2.2.1);by_cases u:t.1=0
 ·simp[u,b]
 by_cases z:t.2.2.2.2.2.2.2.2<(w.2.2.2.2.2.2.2.2.2.2.2.2.2.length:Int);rotate_left
 ·have:decide (t.2.2.2.2.2.2.2.2>=(w.2.2.2.2.2.2.2.2.2.2.2.2.2.length:Int))=true:=by simp only[b_];omega
  simp[u,this,z,b]
 have q1:decide (t.2.2.2.2.2.2.2.2>=(w.2.2.2.2.2.2.2.2.2.2.2.2.2.length:Int))=false:=by simp only[d_];omega
 have q2:decide (0<=t.2.2.2.2.2.2.2.2/\t.2.2.2.2.2.2.2.2<(w.2.2.2.2.2.2.2.2.2.2.2.2.2.length:Int))=true:=by simp only[b_];omega
 simp only[b,q1,q2,P,and_true,true_and,if_true,J5,eH,if_false,z,u,decide_true,decide_false,aI0,aJn,cj,fq]
 have p:dI k (t.1,())=some (aJv [0,1,3,4,6,7,8] t.1.toNat 0,()):=by
  simp only[dI];rw[an (by simp only[b_,aJA,aJg];omega)]
 rw[p];clear p q1 q2;by_cases v:d.2.1=i;rotate_left
 ·simp[v,b]
 by_cases B:d.2.2.2.2.2.2.2.2.2.2.2= -1;rotate_left
 ·simp[v,B,b]
 simp only[v,B,decide_true,J5,eH,if_false,beq_self_eq_true,if_true,cy,aI0];unfold kY;rcases m with h|h|h|h|h|h|h
 ·exact absurd h u
 all_goals
  have I:t.1.toNat=t.1.toNat:=rfl;simp only[h]at I|-
 ·simp only[ia Q r R,fC Q o,fC Q y,dF Q (a:=d.2.2.1.1) (by omega),rU Q C];by_cases f:d.1=1<;>by_cases g:d.2.2.2.2.2.2.2.2.2.2.1= -1<;>by_cases q:t.2.1=2<;>simp[f,g,q]
  ·by_cases j:d.2.2.1=t.2.2.1<;>simp[j]
  ·simp only[fC Q o];cases (bL k w.2.2.2.1 t.2.2.1.1).2<;>by_cases j:(bL k w.2.2.2.1 t.2.2.1.1).1=t.2.2.1<;>simp[j]
 ·simp only[dF Q (a:=d.2.2.2.1) (by omega)];by_cases f:d.1=3<;>by_cases g:d.2.2.2.2.2.2.2.2.2.2.1= -1<;>simp[f,g]
 ·obtain⟨x,D,F⟩:=Ob b h;by_cases f:d.1=4<;>by_cases g:d.2.2.2.2.2.2.2.2.2.2.1= -1<;>by_cases q:t.2.1=2<;>simp[f,g,q]
  ·by_cases j:(t.2.2.2.2.2.1.length:Int)=w.1.1
   ·rw[pU Q n r (by omega)];simp[j]
   ·simp[j]
  ·by_cases j:t.2.2.2.2.1<w.1.1
   ·rw[pU Q n r (by omega)];simp[j]
   ·simp[j]
 ·obtain⟨x,D,F⟩:=TQ b h;have q:¬t.2.1=2:=by have:=F;omega
  by_cases f:d.1=6<;>by_cases g:d.2.2.2.2.2.2.2.2.2.2.1= -1<;>simp[f,g,q];have J:t.2.2.2.2.2.1.length<=w.2.2.2.1.length:=by rw[x];exact Nat.zero_le _
  have K:dm w.2.2.2.1 t=true:=by unfold dm xG;rw[x,D];rfl
  rw[pU Q n r J,K];by_cases j:t.2.2.2.2.1<w.1.1<;>simp[j]
 ·simp only[fC Q y];by_cases f:d.1=7<;>by_cases g:d.2.2.2.2.2.2.2.2.2.2.1= -1<;>simp[f,g]
 ·by_cases f:d.1=8<;>by_cases g:d.2.2.2.2.2.2.2.2.2.2.1= -1<;>simp[f,g]
def D4{w:ag}{t:aF}{d:aC}{n:Int}(hs:af az w<=1048576)(hp:(w.2.2.2.1.length:Int)=w.1.1)(p:af ak t<=1048576)(x:af aw d<=1048576)(f:cV t n=true):
 mi k (w,t,d,())=some (kY k w t d,()):=by
 obtain⟨_,o,_,_,_,_,_,w8,w9⟩:=eA Q hs;obtain⟨D,t2,t3,t4,F⟩:=lQ Q p;obtain⟨G,d2,d3,d4⟩:=EV Q x;have g:=ER Q (s:=t.2.2.1.1) o;have y:=gE Q G;have d7:=ay (e:=al) (l:=d.2.2.1.1);have d8:=ay (e:=al) (l:=d.2.2.2.1);simp only[mi,rN Q o F,ee Q g,ee Q y,du Q (a:=d.2.2.1.1) (by omega),du Q (a:=d.2.2.2.1) (by omega),xB Q D,cy,cj,bZ];unfold kY;by_cases q:t.1=1;by_cases b:d.1=1<;>by_cases i:t.2.1=2<;>simp[q,b,i];by_cases z:d.2.2.1.1=t.2.2.1.1<;>cases (bL k w.2.2.2.1 t.2.2.1.1).2<;>by_cases j:(bL k w.2.2.2.1 t.2.2.1.1).1=t.2.2.1<;>simp[j,z];by_cases j:d.2.2.1=t.2.2.1<;>simp[j];by_cases r:t.1=2;by_cases b:d.1=3<;>simp[r,b];by_cases m:t.1=3;obtain⟨e1,e2,H⟩:=Ob f m
 have B:(if t.2.1=2 then decide ((t.2.2.2.2.2.1.length:Int)=w.1.1)else decide (t.2.2.2.2.1<w.1.1))=true->t.2.2.2.2.2.1.length<=w.2.2.2.1.length:=by
  by_cases i:t.2.1=2<;>simp[i]<;>intro h<;>omega
 rw[BK Q p o B H];by_cases b:d.1=4<;>simp[m,b];by_cases u:t.1=4;by_cases b:d.1=6<;>simp[u,b];by_cases v:t.1=5;by_cases b:d.1=7<;>simp[v,b];by_cases b:d.1=8<;>by_cases C:d.2.2.2.2.2.1=t.2.2.2.2.2.2.2.1<;>simp[q,r,m,u,v,b,C]
end
def di(h:Nat->Bool):Nat->Int
 |0=> -1
 |j+1=>if h j=true then(j:Int)else di h j
theorem qU{h:Nat->Bool}:∀ {j:Nat},(∀a,a<j->h a=false)->di h j= -1
 |0,_=>rfl
 |j+1,H=>by
  unfold di;rw[H j (by omega),a_ (by simp)];exact qU (fun a ha=>H a (by omega))
theorem mM{h:Nat->Bool}:∀ {j:Nat},di h j≠-1->∃a,a<j/\h a=true/\di h j=(a:Int)
 |0,H=>absurd rfl H
 |j+1,H=>by
  unfold di at H|-;by_cases b:h j=true;rw[an b];exact⟨j,by omega,b,rfl⟩;rw[a_ b]at H|-;obtain⟨a,h1,d,e⟩:=mM H;exact⟨a,by omega,d,e⟩
def xJ{h:Nat->Bool}{m:Nat}(z:∀j,j<m->h j=true->di h j= -1){a:Nat}(s:a<m)(n:h a=true):di h m=(a:Int):=by
 have B:di h m≠-1:=by
  intro e
  have:∀ {j:Nat},(∀b,b<j->h b=true->False)\/di h j≠-1:=by
   intro j
   induction j with
   |zero=>exact Or.inl (fun b u _=>by omega)
   |succ j f=>
    unfold di;by_cases d:h j=true;rw[an d];right;omega;rw[a_ d];rcases f with f|f;left;intro b u g;by_cases o:b=j;subst o;exact d g;exact f b (by omega) g;exact Or.inr f
  rcases @this m with H|H;exact H a s n;exact H e
 obtain⟨b,C,t,D⟩:=mM B;rw[D];by_cases p:a=b;rw[p];exfalso
 have key:∀x y:Nat,x<y->y<m->h x=true->h y=true->False:=by
  intro x y i v w l;have e:=z y v l
  have:∀ {j:Nat},x<j->di h j≠-1:=by
   intro j
   induction j with
   |zero=>intro q;omega
   |succ j f=>
    intro q;unfold di;by_cases d:h j=true;rw[an d];omega;rw[a_ d];by_cases r:x=j;subst r;exact absurd w d;exact f (by omega)
  exact this i e
 rcases Nat.lt_or_ge a b with q|q;exact key a b q C n t;exact key b a (by omega) s t n
def bQ(k:Nat)(w:ag)(j:Nat):Int:=bn k (w.2.2.2.2.2.2.2.2.2.2.2.2.1.getD j ak.aa) w.2.2.2.1.length
def dS(w:ag)(j:Nat):Bool:=cA (w.2.2.2.2.2.2.2.2.2.2.2.2.1.getD j ak.aa)
def gN(k:Nat)(w:ag):Bool:=
 bA 0 w.2.2.2.1.length (fun i=>bA 0 w.2.2.2.2.2.2.2.2.2.2.2.2.1.length (fun j=>decide (bQ k w j=i)==decide ((w.2.2.2.1.getD i ah.aa).1=j)))&&
 (bA 0 w.2.2.2.2.2.2.2.2.2.2.2.2.1.length (fun j=>dS w j==decide (w.2.2.2.2.2.2.1=j))&&bc w.2.2.2.2.2.2.1 (-1) 4)
def zS(k:Nat)(w:ag)(j:Nat):Bool:=
 (decide (bQ k w j<0)||decide (di (fun a=>decide (bQ k w a=bQ k w j)) j= -1))&&(!dS w j||decide (di (dS w) j= -1))
def Qj{k:Nat}{w:ag}(B:∀i,i<w.2.2.2.1.length->bc (w.2.2.2.1.getD i ah.aa).1 (-1) 4=true)(F:w.2.2.2.2.2.2.2.2.2.2.2.2.1.length=5)
 (G:∀j,j<5->bQ k w j<w.2.2.2.1.length):
 (bA 0 w.2.2.2.2.2.2.2.2.2.2.2.2.1.length (zS k w)&&(bA 0 w.2.2.2.1.length (fun i=>decide ((w.2.2.2.1.getD i ah.aa).1=di (fun a=>decide (bQ k w a=i)) w.2.2.2.2.2.2.2.2.2.2.2.2.1.length))&&
  decide (w.2.2.2.2.2.2.1=di (dS w) w.2.2.2.2.2.2.2.2.2.2.2.2.1.length)))=gN k w:=by
 unfold gN;rw[F];rw[aIX];simp only[aIZ,ck,zS,Bool.or_eq_true,b_,Bool.not_eq_true',beq_iff_eq,bc]at B|-;constructor;rintro⟨u,y,z⟩;refine⟨fun i _ g j _ f=> ?_,fun j _ f=> ?_,?_⟩;rw[y i (by omega) g];rw[aIX];simp only[b_];constructor;intro e;refine xJ (h:=fun a=>decide (bQ k w a=i)) (m:=5) (fun b l d=> ?_) f (by simpa using e);have p:bQ k w b=(i:Int):=by simpa using d
 rcases(u b (by omega) l).1 with q|q;omega;rw[p]at q;exact q;intro e;obtain⟨a,_,n,l⟩:=mM (h:=fun a=>decide (bQ k w a=i)) (j:=5) (by rw[e];omega);rw[e]at l;have:a=j:=by omega
 subst this;simpa using n;rw[z,aIX];simp only[b_];constructor;intro e;refine xJ (h:=dS w) (m:=5) (fun b l d=> ?_) f e;rcases(u b (by omega) l).2 with q|q;rw[d]at q;exact absurd q (by simp);exact q;intro e;obtain⟨a,_,n,l⟩:=mM (h:=dS w) (j:=5) (by rw[e];omega);rw[e]at l;have:a=j:=by omega
 subst this;exact n;rw[z];by_cases e:di (dS w) 5= -1;omega;obtain⟨a,I,_,v⟩:=mM e;omega;rintro⟨u,y,z,I⟩
 have s:∀i,i<w.2.2.2.1.length->∀j,j<5->(bQ k w j=(i:Int)↔(w.2.2.2.1.getD i ah.aa).1=(j:Int)):=by
  intro i g j f;have:=u i (by omega) g j (by omega) f;rw[aIX]at this;simpa only[b_]using this
 have t:∀j,j<5->(dS w j=true↔w.2.2.2.2.2.2.1=(j:Int)):=by
  intro j f;have:=y j (by omega) f;rw[aIX]at this;simpa only[b_]using this
 refine⟨fun j _ f=>⟨?_,?_⟩,fun i _ g=> ?_,?_⟩;by_cases H:bQ k w j<0;exact Or.inl H;right;apply qU;intro a n;simp only[d_];intro e;have hlt:=G j f;have q1:=(s (bQ k w j).toNat (by omega) j f).1 (by omega);have q2:=(s (bQ k w j).toNat (by omega) a (by omega)).1 (by omega);omega;by_cases C:dS w j=true;right;apply qU;intro a n;cases r:dS w a with
 |false=>rfl
 |true=>
  have q1:=(t j f).1 C;have q2:=(t a (by omega)).1 r;omega
 left;simpa using C;by_cases e:di (fun a=>decide (bQ k w a=i)) 5= -1;rw[e];have l:=B i g;by_cases x:(w.2.2.2.1.getD i ah.aa).1= -1;exact x;exfalso;have q:=(s i g (w.2.2.2.1.getD i ah.aa).1.toNat (by omega)).2 (by omega)
 have:di (fun a=>decide (bQ k w a=i)) 5≠-1:=by
  rw[xJ (h:=fun a=>decide (bQ k w a=i)) (m:=5) (a:=(w.2.2.2.1.getD i ah.aa).1.toNat) (fun b o d=> ?_) (by omega) (by simpa using q)];omega;apply qU;intro a n;simp only[d_];intro D;have p:bQ k w b=(i:Int):=by simpa using d
  have q1:=(s i g b o).1 p;have q2:=(s i g a (by omega)).1 D;omega
 exact this e;obtain⟨a,v,h6,h7⟩:=mM e;rw[h7];exact(s i g a v).1 (by simpa using h6);by_cases e:di (dS w) 5= -1;rw[e];by_cases x:w.2.2.2.2.2.2.1= -1;exact x;exfalso;have q:=(t w.2.2.2.2.2.2.1.toNat (by omega)).2 (by omega)
 have:di (dS w) 5≠-1:=by
  rw[xJ (h:=dS w) (m:=5) (a:=w.2.2.2.2.2.2.1.toNat) (fun b o d=> ?_) (by omega) q];omega;apply qU;intro a n;cases r:dS w a with
  |false=>rfl
  |true=>
   have q1:=(t b o).1 d;have q2:=(t a (by omega)).1 r;omega
 exact this e;obtain⟨a,v,h6,h7⟩:=mM e;rw[h7];exact(t a v).1 h6
section
variable{k:Nat}(Q:9223372036854775808<=k)
include Q
def zL{w:ag}(hs:af az w<=1048576):j7 k (w,())=some (gN k w,()):=by
 obtain⟨_,w2,_,_,_,_,_,g,w9⟩:=eA Q hs;have hn:=ay (e:=ah) (l:=w.2.2.2.1);have hm:=ay (e:=ak) (l:=w.2.2.2.2.2.2.2.2.2.2.2.2.1);have a:∀j:Nat,af ak (w.2.2.2.2.2.2.2.2.2.2.2.2.1.getD j ak.aa)<=1048576:=fun j=>vN Q (e:=ak) rfl g j;simp only[j7,aN]
 refine(cU (fun i:Nat=>(w,w.2.2.2.1,(w.2.2.2.1.length:Int),(i:Int),())) (fun i=>bA 0 w.2.2.2.2.2.2.2.2.2.2.2.2.1.length (fun j=>decide (bQ k w j=i)==decide ((w.2.2.2.1.getD i ah.aa).1=j))) w.2.2.2.1.length
  (e:=some (bA 0 w.2.2.2.2.2.2.2.2.2.2.2.2.1.length (fun j=>dS w j==decide (w.2.2.2.2.2.2.1=j))&&bc w.2.2.2.2.2.2.1 (-1) 4,())) (no:=some (false,())) ?_ ?_ k 0 (by omega) (by omega)).trans ?_
 intro G i f;simp only[aH,aA f,f,decide_true,if_true,aIR]
 refine(cU (fun j:Nat=>(w,(i:Int),w.2.2.2.1.getD i ah.aa,w.2.2.2.1,(w.2.2.2.1.length:Int),(i:Int),w.2.2.2.2.2.2.2.2.2.2.2.2.1,(w.2.2.2.2.2.2.2.2.2.2.2.2.1.length:Int),(j:Int),()))
  (fun j=>decide (bQ k w j=i)==decide ((w.2.2.2.1.getD i ah.aa).1=j)) w.2.2.2.2.2.2.2.2.2.2.2.2.1.length
  (e:=G (w,w.2.2.2.1,(w.2.2.2.1.length:Int),((i+1:Nat):Int),())) (no:=some (false,())) ?_ ?_ k 0 (by omega) (by omega)).trans ?_
 intro d j b;simp only[aH,aA b,b,decide_true,if_true,aIR,qQ Q (a j),cy,cj];rw[aV (by omega)];show(if(!(decide (bQ k w j=i)==decide ((w.2.2.2.1.getD i ah.aa).1=j)))=true then _ else _)=_;cases (decide (bQ k w j=i)==decide ((w.2.2.2.1.getD i ah.aa).1=(j:Int)))<;>rfl;intro d;simp only[aH,q',decide_false,eH,if_false];rw[aV (by omega)];rfl;intro G;simp only[aH,q',decide_false,eH,if_false]
 refine(cU (fun j:Nat=>(w,w.2.2.2.2.2.2.2.2.2.2.2.2.1,(w.2.2.2.2.2.2.2.2.2.2.2.2.1.length:Int),(j:Int),()))
  (fun j=>dS w j==decide (w.2.2.2.2.2.2.1=j)) w.2.2.2.2.2.2.2.2.2.2.2.2.1.length
  (e:=some (bc w.2.2.2.2.2.2.1 (-1) 4,())) (no:=some (false,())) ?_ ?_ k 0 (by omega) (by omega)).trans ?_
 intro d j b;simp only[aH,aA b,b,decide_true,if_true,aIR,kD Q,cy,cj];rw[aV (by omega)];show(if(!(dS w j==decide (w.2.2.2.2.2.2.1=j)))=true then _ else _)=_;cases (dS w j==decide (w.2.2.2.2.2.2.1=(j:Int)))<;>rfl;intro d;simp only[aH,q',decide_false,eH,if_false,fG Q,cy];cases bA 0 w.2.2.2.2.2.2.2.2.2.2.2.2.1.length (fun j=>dS w j==decide (w.2.2.2.2.2.2.1=j))<;>simp;unfold gN;cases bA 0 w.2.2.2.1.length (fun i=>bA 0 w.2.2.2.2.2.2.2.2.2.2.2.2.1.length (fun j=>decide (bQ k w j=i)==decide ((w.2.2.2.1.getD i ah.aa).1=j)))<;>simp
end
def gk(k:Nat)(w:ag)(j:Nat):List Int:=(List.range w.2.2.2.1.length).map (fun i:Nat=>di (fun a=>decide (bQ k w a=(i:Int))) j)
def KG(k:Nat)(w:ag)(j:Nat):(gk k w j).length=w.2.2.2.1.length:=by simp[gk]
def Oa(k:Nat)(w:ag)(j:Nat){i:Nat}(b:i<w.2.2.2.1.length):(gk k w j).getD i 0=di (fun a=>decide (bQ k w a=(i:Int))) j:=by
 simp[gk,aI1,List.getElem?_map,List.getElem?_range b]
def Si(k:Nat)(w:ag)(j:Nat)(h:0<=bQ k w j):(gk k w j).set (bQ k w j).toNat (j:Int)=gk k w (j+1):=by
 apply aJB;simp[gk];intro i h1 h2;simp only[gk,List.getElem_set,List.getElem_map,List.getElem_range,di,b_];by_cases e:bQ k w j=(i:Int)
 rw[an (by omega),an e];rw[a_ (by omega),a_ e]
def P9(k:Nat)(w:ag)(j:Nat)(h:bQ k w j<0):gk k w j=gk k w (j+1):=by
 unfold gk;apply List.map_congr_left;intro i _;simp only[di,b_];rw[a_ (by omega)]
def QP(k:Nat)(w:ag):gk k w 0=aI4 w.2.2.2.1.length (-1):=by
 apply aJB;simp[gk];intro i h1 h2;simp[gk,di]
section
variable{k:Nat}(Q:9223372036854775808<=k)
include Q
def Ds{w:ag}(hs:af az w<=1048576)(u:∀i,i<w.2.2.2.1.length->bc (w.2.2.2.1.getD i ah.aa).1 (-1) 4=true)(v:w.2.2.2.2.2.2.2.2.2.2.2.2.1.length=5)
 (r:∀j,j<5->bQ k w j<w.2.2.2.1.length):jD k (w,())=some (gN k w,()):=by
 rw[<-Qj u v r];obtain⟨_,w2,_,_,_,_,_,x,w9⟩:=eA Q hs;have hn:=ay (e:=ah) (l:=w.2.2.2.1);have d:∀j:Nat,af ak (w.2.2.2.2.2.2.2.2.2.2.2.2.1.getD j ak.aa)<=1048576:=fun j=>vN Q (e:=ak) rfl x j;simp only[jD,aN];refine bG (fun i:Nat=>(w,aI4 i (-1:Int),(i:Int),())) w.2.2.2.1.length (fun G i g=> ?_) (fun G=> ?_) k 0 (by omega) (by omega);simp only[aH,g,decide_true,if_true,List.length_replicate,aJA,aJg];rw[an (by simp only[b_];omega),aV (by omega),aJq];simp only[aH,q',decide_false,eH,if_false];rw[<-QP k w]
 refine(cU (fun j:Nat=>(w,gk k w j,di (dS w) j,(j:Int),())) (zS k w) w.2.2.2.2.2.2.2.2.2.2.2.2.1.length
  (e:=some (bA 0 w.2.2.2.1.length (fun i=>decide ((w.2.2.2.1.getD i ah.aa).1=di (fun a=>decide (bQ k w a=i)) w.2.2.2.2.2.2.2.2.2.2.2.2.1.length))&&
   decide (w.2.2.2.2.2.2.1=di (dS w) w.2.2.2.2.2.2.2.2.2.2.2.2.1.length),())) (no:=some (false,())) ?_ ?_ k 0 (by omega) (by omega)).trans ?_
 intro G j q;have hlt:=r j (by omega);simp only[aH,aA q,q,decide_true,if_true,aIR,BO Q (d j),zx Q,cy,fq,KG]
 change (if decide (bQ k w j>=0)=true then(if decide (0<=bQ k w j/\bQ k w j<(w.2.2.2.1.length:Int))=true then(if(!decide ((gk k w j).getD (bQ k w j).toNat 0= -1))=true then some (false,())else(if decide (0<=bQ k w j/\bQ k w j<(w.2.2.2.1.length:Int))=true then
  (if dS w j=true then(if(!decide (di (dS w) j= -1))=true then some (false,())else G (w,(gk k w j).set (bQ k w j).toNat (j:Int),(j:Int),IntKind.i64.wrap ((j:Int)+1),()))else G (w,(gk k w j).set (bQ k w j).toNat (j:Int),di (dS w) j,IntKind.i64.wrap ((j:Int)+1),()))else none))else none)else
  (if dS w j=true then(if(!decide (di (dS w) j= -1))=true then some (false,())else G (w,gk k w j,(j:Int),IntKind.i64.wrap ((j:Int)+1),()))else G (w,gk k w j,di (dS w) j,IntKind.i64.wrap ((j:Int)+1),())))=_
 rw[aV (by omega)];have s:dS w j=true->di (dS w) (j+1)=(j:Int):=fun h=>by simp[di,h]
 have n:dS w j=false->di (dS w) (j+1)=di (dS w) j:=fun h=>by simp[di,h]
 unfold zS;by_cases p:0<=bQ k w j;rw[an (by simpa using p),an (by simp only[b_];omega),Oa k w j (show(bQ k w j).toNat<_ by omega),Si k w j p,Int.toNat_of_nonneg p];rw[show decide (bQ k w j<0)=false by simp only[d_];omega];by_cases o:di (fun a=>decide (bQ k w a=bQ k w j)) j= -1;rw[a_ (by simp[o])];cases b:dS w j with
 |true=>rw[s b];by_cases f:di (dS w) j= -1<;>simp[o,f]<;>omega
 |false=>rw[n b];simp[o];omega
 rw[an (by simp[o])];simp[o];rw[a_ (by simp;omega),P9 k w j (by omega)];rw[show decide (bQ k w j<0)=true by simp only[b_];omega];cases b:dS w j with
 |true=>rw[s b];by_cases f:di (dS w) j= -1<;>simp[f]
 |false=>rw[n b];simp
 intro G;simp only[aH,q',decide_false,eH,if_false];generalize w.2.2.2.2.2.2.2.2.2.2.2.2.1.length=m
 refine(cU (fun i:Nat=>(w,gk k w m,di (dS w) m,(i:Int),())) (fun i=>decide ((w.2.2.2.1.getD i ah.aa).1=di (fun a=>decide (bQ k w a=i)) m)) w.2.2.2.1.length
  (e:=some (decide (w.2.2.2.2.2.2.1=di (dS w) m),())) (no:=some (false,())) ?_ ?_ k 0 (by omega) (by omega)).trans ?_
 intro t i g;simp only[aH,KG,aA g,g,decide_true,if_true,aIR,fq,Oa k w m g];rw[aV (by omega)];rcases H_ (decide ((w.2.2.2.1.getD i ah.aa).1=di (fun a=>decide (bQ k w a=(i:Int))) m))with h|h<;>simp only[h,J5,aIY,eH,if_false,if_true];intro t;simp only[aH,q',decide_false,eH,if_false,cj];cases bA 0 w.2.2.2.1.length (fun i=>decide ((w.2.2.2.1.getD i ah.aa).1=di (fun a=>decide (bQ k w a=i)) m))<;>simp;generalize w.2.2.2.2.2.2.2.2.2.2.2.2.1.length=m;cases bA 0 m (zS k w)<;>simp
end
def o9(nn:Int)(h:List aJ):Bool:=
 bA 0 h.length (fun i=>decide ((h.getD i aD.aa).2<nn)&&bA 0 i (fun j=> !decide ((h.getD j aD.aa).2=(h.getD i aD.aa).2)))
def su(w:ag)(g:au)(j:Nat):Bool:=
 decide ((w.2.2.2.2.2.2.2.2.2.1.getD j aD.aa).2=g.1)&&decide ((w.2.2.2.2.2.2.2.2.2.1.getD j aD.aa).1=iq w.1 g)
def Em(w:ag)(g:au):Bool:=
 if decide ((w.2.2.2.2.2.2.2.2.2.2.2.2.1.getD 4 ak.aa).1=6)=true then decide ((w.2.2.2.2.2.2.2.2.2.2.2.2.1.getD 4 ak.aa).2.2.2.2.2.2.2.1=g.1)else false
def eu(w:ag)(g:au)(n:Nat):Bool:= !bA 0 n (fun j=> !su w g j)||Em w g
def pd(w:ag):Bool:=
 bA 0 w.2.2.2.2.2.2.2.1.length (fun i=>(decide ((w.2.2.2.2.2.2.2.1.getD i aj.aa).2.2.1<=w.2.2.1)&&
  (decide ((w.2.2.2.2.2.2.2.1.getD i aj.aa).2.2.2.1<=w.2.2.1)&&decide ((w.2.2.2.2.2.2.2.1.getD i aj.aa).1<w.2.2.2.2.2.2.2.2.1)))&&eu w (w.2.2.2.2.2.2.2.1.getD i aj.aa) w.2.2.2.2.2.2.2.2.2.1.length)
def dB(w:ag):Bool:=
 dR w.2.2.2.2.2.2.2.1 w.1.2.2.2.2.2&&(jx w.2.2.2.2.2.2.2.2.2.1&&(o9 w.2.2.2.2.2.2.2.2.1 w.2.2.2.2.2.2.2.2.2.1&&pd w))
def xc(w:ag)(g:au)(n:Nat):eu w g (n+1)=(if eu w g n=true then true else su w g n):=by
 unfold eu;rw[Ay];cases Em w g<;>cases bA 0 n (fun j=> !su w g j)<;>cases su w g n<;>rfl
section
variable{k:Nat}(Q:9223372036854775808<=k)
include Q
def PI{c:bh}(h:af cM c<=1048576):c.2.2.2.2.2.length<=1048576:=by
 rw[kF Q]at h;have:=ay (e:= .str) (l:=c.2.2.2.2.2);omega
def Bz{w:ag}(hs:af az w<=1048576)(q:w.2.2.2.2.2.2.2.2.2.2.2.2.1.length=5):iL k (w,())=some (dB w,()):=by
 obtain⟨t,w2,_,_,u,v,_,w8,w9⟩:=eA Q hs;have r:=PI Q t;have hn:=ay (e:=aj) (l:=w.2.2.2.2.2.2.2.1);simp only[iL,aN,Ed Q u r,JO Q v,cy];unfold dB;cases dR w.2.2.2.2.2.2.2.1 w.1.2.2.2.2.2 with
 |false=>rfl
 |true=>
  cases jx w.2.2.2.2.2.2.2.2.2.1 with
  |false=>rfl
  |true=>
   simp only[J5,eH,if_false,beq_self_eq_true,if_true,cy]
   refine(cU (fun i:Nat=>(w,(i:Int),())) (fun i=>decide ((w.2.2.2.2.2.2.2.2.2.1.getD i aD.aa).2<w.2.2.2.2.2.2.2.2.1)&&bA 0 i (fun j=> !decide ((w.2.2.2.2.2.2.2.2.2.1.getD j aD.aa).2=(w.2.2.2.2.2.2.2.2.2.1.getD i aD.aa).2))) w.2.2.2.2.2.2.2.2.2.1.length
    (e:=some (pd w,())) (no:=some (false,())) ?_ ?_ k 0 (by omega) (by omega)).trans ?_
   intro G i d;simp only[aH,aA d,d,decide_true,if_true,aIR,lH];rcases H_ (decide ((w.2.2.2.2.2.2.2.2.2.1.getD i aD.aa).2<w.2.2.2.2.2.2.2.2.1))with h|h<;>simp only[h,J5,aIY,eH,if_false,if_true,aI0,aI8]
   refine(cU (fun j:Nat=>(w,(i:Int),(j:Int),())) (fun j=> !decide ((w.2.2.2.2.2.2.2.2.2.1.getD j aD.aa).2=(w.2.2.2.2.2.2.2.2.2.1.getD i aD.aa).2)) i
    (e:=G (w,((i+1:Nat):Int),())) (no:=some (false,())) ?_ ?_ k 0 (by omega) (by omega)).trans ?_
   intro n j f;have o:j<w.2.2.2.2.2.2.2.2.2.1.length:=by omega
   simp only[aH,aA o,aA d,f,decide_true,if_true,aIR,cj];rw[aV (by omega)];rcases H_ (decide ((w.2.2.2.2.2.2.2.2.2.1.getD j aD.aa).2=(w.2.2.2.2.2.2.2.2.2.1.getD i aD.aa).2))with m|m<;>simp only[m,J5,aIY,eH,if_false,if_true];intro n;simp only[aH,q',decide_false,eH,if_false];rw[aV (by omega)];rfl;intro G;simp only[aH,q',decide_false,eH,if_false]
   refine(cU (fun i:Nat=>(w,(i:Int),())) (fun i=>(decide ((w.2.2.2.2.2.2.2.1.getD i aj.aa).2.2.1<=w.2.2.1)&&
    (decide ((w.2.2.2.2.2.2.2.1.getD i aj.aa).2.2.2.1<=w.2.2.1)&&decide ((w.2.2.2.2.2.2.2.1.getD i aj.aa).1<w.2.2.2.2.2.2.2.2.1)))&&eu w (w.2.2.2.2.2.2.2.1.getD i aj.aa) w.2.2.2.2.2.2.2.2.2.1.length) w.2.2.2.2.2.2.2.1.length
    (e:=some (true,())) (no:=some (false,())) ?_ ?_ k 0 (by omega) (by omega)).trans ?_
   intro n i d;have s:decide ((0:Int)<=4/\(4:Int)<(w.2.2.2.2.2.2.2.2.2.2.2.2.1.length:Int))=true:=by rw[q];rfl
   simp only[aH,aA d,d,s,decide_true,if_true,aIR,aI2,cj];generalize w.2.2.2.2.2.2.2.1.getD i aj.aa=g;refine bG (fun j:Nat=>(w,(i:Int),g,eu w g j,(j:Int),())) w.2.2.2.2.2.2.2.2.2.1.length (fun p j f=> ?_) (fun p=> ?_) k 0 (by omega) (by omega);simp only[aH,aA f,f,decide_true,if_true,aIR,aI2,Cu Q];rw[aV (by omega),xc];unfold su;cases eu w g j<;>by_cases m:(w.2.2.2.2.2.2.2.2.2.1.getD j aD.aa).2=g.1<;>simp only[m,J5,aIY,eH,if_false,if_true,decide_true,decide_false,aI0,aI8,aJe,aJc,beq_self_eq_true,cy,beq_iff_eq]<;>rfl;simp only[aH,q',decide_false,eH,if_false];rw[aV (by omega),lH];have q1:∀a b:Int,decide (a>b)= !decide (a<=b):=fun a b=>by by_cases h:a<=b<;>simp[h]<;>omega
   rw[q1,q1];cases eu w g w.2.2.2.2.2.2.2.2.2.1.length<;>cases decide (g.2.2.1<=w.2.2.1)<;>cases decide (g.2.2.2.1<=w.2.2.1)<;>cases decide (g.1<w.2.2.2.2.2.2.2.2.1)<;>rfl;intro n;simp only[aH,q',decide_false,eH,if_false];show(if pd w=true then _ else _)=_;cases pd w<;>simp;show(if o9 w.2.2.2.2.2.2.2.2.1 w.2.2.2.2.2.2.2.2.2.1=true then _ else _)=_;cases o9 w.2.2.2.2.2.2.2.2.1 w.2.2.2.2.2.2.2.2.2.1<;>simp
omit Q in
theorem U8{α:Type}(d:α){l:List α}{i j:Nat}(h:j<i):(l.take i).getD j d=l.getD j d:=by
 simp only[aI1,List.getElem?_take,h,if_true]
def zu{w:ag}(hs:af az w<=1048576)(r:w.2.2.2.2.2.2.2.2.2.2.2.2.1.length=5):jq k (w,())=some (dB w,()):=by
 obtain⟨u,w2,_,_,v,x,_,w8,w9⟩:=eA Q hs;have s:=PI Q u;have hn:=ay (e:=aj) (l:=w.2.2.2.2.2.2.2.1);simp only[jq,aN,Da Q v s,JW Q x,cy];unfold dB;cases dR w.2.2.2.2.2.2.2.1 w.1.2.2.2.2.2 with
 |false=>rfl
 |true=>
  cases jx w.2.2.2.2.2.2.2.2.2.1 with
  |false=>rfl
  |true=>
   simp only[J5,eH,if_false,beq_self_eq_true,if_true,cy]
   refine(cU (fun i:Nat=>(w,w.2.2.2.2.2.2.2.1,(w.2.2.2.2.2.2.2.1.length:Int),(i:Int),())) (fun i=>(decide ((w.2.2.2.2.2.2.2.1.getD i aj.aa).2.2.1<=w.2.2.1)&&
    (decide ((w.2.2.2.2.2.2.2.1.getD i aj.aa).2.2.2.1<=w.2.2.1)&&decide ((w.2.2.2.2.2.2.2.1.getD i aj.aa).1<w.2.2.2.2.2.2.2.2.1)))&&eu w (w.2.2.2.2.2.2.2.1.getD i aj.aa) w.2.2.2.2.2.2.2.2.2.1.length) w.2.2.2.2.2.2.2.1.length
    (e:=some (o9 w.2.2.2.2.2.2.2.2.1 w.2.2.2.2.2.2.2.2.2.1,())) (no:=some (false,())) ?_ ?_ k 0 (by omega) (by omega)).trans ?_
   ·intro n i f;have t:decide ((0:Int)<=4/\(4:Int)<(w.2.2.2.2.2.2.2.2.2.2.2.2.1.length:Int))=true:=by rw[r];rfl
    dsimp only;rw[aH,c_ f,an rfl,an (aA f),aIR];generalize w.2.2.2.2.2.2.2.1.getD i aj.aa=g;simp only[t,decide_true,if_true,aI2,cj];have q1:∀a b:Int,decide (a>b)= !decide (a<=b):=fun a b=>by by_cases h:a<=b<;>simp[h]<;>omega
    rw[show decide (g.1>=w.2.2.2.2.2.2.2.2.1)= !decide (g.1<w.2.2.2.2.2.2.2.2.1)from lH _ _,q1,q1];generalize decide (g.2.2.1<=w.2.2.1)=b1;generalize decide (g.2.2.2.1<=w.2.2.1)=b2;generalize decide (g.1<w.2.2.2.2.2.2.2.2.1)=b3;by_cases o:b1=true/\b2=true/\b3=true;rotate_left
    ·cases b1<;>cases b2<;>cases b3<;>first|rfl|(exact absurd o (by simp))
    obtain⟨y,z,B⟩:=o;subst y z B;rw[aI0,aI0,aI0];refine(sN rfl).trans ?_;refine bG (fun j:Nat=>(w,g,eu w g j,w.2.2.2.2.2.2.2.1,(w.2.2.2.2.2.2.2.1.length:Int),(i:Int),w.2.2.2.2.2.2.2.2.2.1,(w.2.2.2.2.2.2.2.2.2.1.length:Int),(j:Int),())) w.2.2.2.2.2.2.2.2.2.1.length (fun q j d=> ?_) (fun q=> ?_) k 0 (by omega) (by omega)
    ·simp only[aH,aA d,d,decide_true,if_true,aIR,aI2,MV Q];rw[aV (by omega),xc];unfold su;cases eu w g j<;>by_cases m:(w.2.2.2.2.2.2.2.2.2.1.getD j aD.aa).2=g.1<;>simp only[m,J5,aIY,eH,if_false,if_true,decide_true,decide_false,aI0,aI8,aJe,aJc,beq_self_eq_true,cy,beq_iff_eq]<;>rfl
    ·simp only[aH,q',decide_false,eH,if_false];rw[aV (by omega)];cases eu w g w.2.2.2.2.2.2.2.2.2.1.length<;>rfl
   ·intro G;simp only[aH,q',decide_false,eH,if_false]
    refine(cU (fun i:Nat=>(w,w.2.2.2.2.2.2.2.2.2.1,(w.2.2.2.2.2.2.2.2.2.1.length:Int),(i:Int),())) (fun i=>decide ((w.2.2.2.2.2.2.2.2.2.1.getD i aD.aa).2<w.2.2.2.2.2.2.2.2.1)&&bA 0 i (fun j=> !decide ((w.2.2.2.2.2.2.2.2.2.1.getD j aD.aa).2=(w.2.2.2.2.2.2.2.2.2.1.getD i aD.aa).2))) w.2.2.2.2.2.2.2.2.2.1.length
     (e:=some (true,())) (no:=some (false,())) ?_ ?_ k 0 (by omega) (by omega)).trans ?_
    ·intro G i f;have p:(w.2.2.2.2.2.2.2.2.2.1.take i).length=i:=by rw[List.length_take];omega
     simp only[aH,aA f,f,decide_true,if_true,aIR,lH,p];rcases H_ (decide ((w.2.2.2.2.2.2.2.2.2.1.getD i aD.aa).2<w.2.2.2.2.2.2.2.2.1))with h|h<;>simp only[h,J5,aIY,eH,if_false,if_true,aI0,aI8];rw[an (by simp only[b_];omega)]
     refine(cU (fun j:Nat=>(w,w.2.2.2.2.2.2.2.2.2.1.getD i aD.aa,w.2.2.2.2.2.2.2.2.2.1,(w.2.2.2.2.2.2.2.2.2.1.length:Int),(i:Int),w.2.2.2.2.2.2.2.2.2.1.take i,(i:Int),(j:Int),())) (fun j=> !decide ((w.2.2.2.2.2.2.2.2.2.1.getD j aD.aa).2=(w.2.2.2.2.2.2.2.2.2.1.getD i aD.aa).2)) i
      (e:=G (w,w.2.2.2.2.2.2.2.2.2.1,(w.2.2.2.2.2.2.2.2.2.1.length:Int),((i+1:Nat):Int),())) (no:=some (false,())) ?_ ?_ k 0 (by omega) (by omega)).trans ?_
     ·intro n j d;simp only[aH,p,aA d,d,decide_true,if_true,aIR,cj,U8 aD.aa d];rw[aV (by omega)];rcases H_ (decide ((w.2.2.2.2.2.2.2.2.2.1.getD j aD.aa).2=(w.2.2.2.2.2.2.2.2.2.1.getD i aD.aa).2))with m|m<;>simp only[m,J5,aIY,eH,if_false,if_true]
     ·intro n;simp only[aH,q',decide_false,eH,if_false];rw[aV (by omega)]
     ·rfl
    ·intro n;simp only[aH,q',decide_false,eH,if_false]
    ·show(if o9 w.2.2.2.2.2.2.2.2.1 w.2.2.2.2.2.2.2.2.2.1=true then _ else _)=_;cases o9 w.2.2.2.2.2.2.2.2.1 w.2.2.2.2.2.2.2.2.2.1<;>simp
   ·show(if pd w=true then _ else _)=_;cases pd w<;>simp
end
def kN(k:Nat)(w:ag)(d:aC):Bool:=
 er k d&&(decide (d.2.2.2.2.2.2.2.2.2.1<w.2.1)&&(decide (d.2.2.2.2.2.2.2.2.2.2.1<w.2.1)&&decide (d.2.2.2.2.2.2.2.2.2.2.2<w.2.1)))
def kz(k:Nat)(w:ag):Bool:=bA 0 w.2.2.2.2.2.2.2.2.2.2.2.2.2.length (fun i=>kN k w (w.2.2.2.2.2.2.2.2.2.2.2.2.2.getD i aw.aa))
def jO(w:ag)(t:aF):aC:=w.2.2.2.2.2.2.2.2.2.2.2.2.2.getD t.2.2.2.2.2.2.2.2.toNat aw.aa
def fi(k:Nat)(w:ag):Bool:=bA 0 w.2.2.2.2.2.2.2.2.2.2.2.2.1.length (fun i=>cJ k w (w.2.2.2.2.2.2.2.2.2.2.2.2.1.getD i ak.aa) (jO w (w.2.2.2.2.2.2.2.2.2.2.2.2.1.getD i ak.aa)) i)
def e9(k:Nat)(w:ag):Bool:=
 dp k w.2.2.2.1&&(decide ((w.2.2.2.1.length:Int)=w.1.1)&&(decide ((bq w.2.2.2.1:Int)<=w.1.2.1)&&bA 0 (dE (bU w.2.2.2.1)).length (fun i=>cw ((dE (bU w.2.2.2.1)).getD i ab.aa))))
def bC(k:Nat)(w:ag):Bool:=
 cR w.1&&(decide (0<=w.2.1)&&(decide (0<=w.2.2.2.2.2.2.2.2.1)&&(bc w.2.2.1 0 99899&&(e9 k w&&(decide ((w.2.2.2.2.1.length:Int)=w.1.2.2.1)&&(decide ((w.2.2.2.2.2.2.2.2.2.2.2.2.1.length:Int)=5)&&(bB w.2.2.2.2.2.1&&(bB w.2.2.2.2.2.2.2.2.2.2.2.1&&
 (pE w.2.2.2.2.1&&(kz k w&&(fi k w&&(gN k w&&dB w))))))))))))
section
variable{k:Nat}(Q:9223372036854775808<=k)
include Q
def AR{w:ag}(hs:af az w<=1048576)(s:(w.2.2.2.1.length:Int)=w.1.1):jZ k (w,())=some (kz k w&&fi k w,()):=by
 obtain⟨w1,w2,_,_,w5,w6,_,y,z⟩:=eA Q hs;have hn:=ay (e:=aw) (l:=w.2.2.2.2.2.2.2.2.2.2.2.2.2);have hm:=ay (e:=ak) (l:=w.2.2.2.2.2.2.2.2.2.2.2.2.1);have b:∀j:Nat,af aw (w.2.2.2.2.2.2.2.2.2.2.2.2.2.getD j aw.aa)<=1048576:=fun j=>vN Q (e:=aw) rfl z j;have f:∀j:Nat,af ak (w.2.2.2.2.2.2.2.2.2.2.2.2.1.getD j ak.aa)<=1048576:=fun j=>vN Q (e:=ak) rfl y j;simp only[jZ,aN]
 refine(cU (fun i:Nat=>(w,w.2.2.2.2.2.2.2.2.2.2.2.2.2,(w.2.2.2.2.2.2.2.2.2.2.2.2.2.length:Int),(i:Int),())) (fun i=>kN k w (w.2.2.2.2.2.2.2.2.2.2.2.2.2.getD i aw.aa)) w.2.2.2.2.2.2.2.2.2.2.2.2.2.length
  (e:=some (fi k w,())) (no:=some (false,())) ?_ ?_ k 0 (by omega) (by omega)).trans ?_
 ·intro G i g;dsimp only;rw[aH,c_ g,an rfl,an (aA g),aIR,HO Q,cy,aV (by omega)];generalize w.2.2.2.2.2.2.2.2.2.2.2.2.2.getD i aw.aa=d;rw[lH,lH,lH];unfold kN;cases er k d<;>cases decide (d.2.2.2.2.2.2.2.2.2.1<w.2.1)<;>cases decide (d.2.2.2.2.2.2.2.2.2.2.1<w.2.1)<;>cases decide (d.2.2.2.2.2.2.2.2.2.2.2<w.2.1)<;>rfl
 ·intro G;simp only[aH,q',decide_false,eH,if_false]
  refine(cU (fun i:Nat=>(w,w.2.2.2.2.2.2.2.2.2.2.2.2.1,(w.2.2.2.2.2.2.2.2.2.2.2.2.1.length:Int),(i:Int),())) (fun i=>cJ k w (w.2.2.2.2.2.2.2.2.2.2.2.2.1.getD i ak.aa) (jO w (w.2.2.2.2.2.2.2.2.2.2.2.2.1.getD i ak.aa)) i) w.2.2.2.2.2.2.2.2.2.2.2.2.1.length
   (e:=some (true,())) (no:=some (false,())) ?_ ?_ k 0 (by omega) (by omega)).trans ?_
  ·intro r i g;have n:af ak (w.2.2.2.2.2.2.2.2.2.2.2.2.1.getD i ak.aa)<=1048576:=f i;dsimp only;rw[aH,c_ g,an rfl,an (aA g),aIR,aV (by omega)];generalize w.2.2.2.2.2.2.2.2.2.2.2.2.1.getD i ak.aa=t at*
   have o:af aw (jO w t)<=1048576:=b _;unfold jO at o|-;generalize w.2.2.2.2.2.2.2.2.2.2.2.2.2.getD t.2.2.2.2.2.2.2.2.toNat aw.aa=d at*
   rw[Kc Q n,cy];unfold cJ;by_cases a:cV t i=true;rotate_left
   ·simp[a]
   obtain⟨B,hkind⟩:=CF a;rw[D4 Q hs s n o a];by_cases h:t.1=0
   ·simp[h,a]
   by_cases p:t.2.2.2.2.2.2.2.2<(w.2.2.2.2.2.2.2.2.2.2.2.2.2.length:Int);rotate_left
   ·have:decide (t.2.2.2.2.2.2.2.2>=(w.2.2.2.2.2.2.2.2.2.2.2.2.2.length:Int))=true:=by simp only[b_];omega
    simp[h,this,p,a]
   have q1:decide (t.2.2.2.2.2.2.2.2>=(w.2.2.2.2.2.2.2.2.2.2.2.2.2.length:Int))=false:=by simp only[d_];omega
   simp only[a,q1,B,and_true,true_and,if_true,J5,eH,if_false,p,h,decide_true,decide_false,aI0,aJn,cj,fq];by_cases m:d.2.1=i;rotate_left
   ·simp[m]
   by_cases q:d.2.2.2.2.2.2.2.2.2.2.2= -1;rotate_left
   ·simp[m,q]
   by_cases u:d.2.2.2.2.2.2.2.2.2.2.1= -1<;>by_cases v:t.1=1<;>by_cases x:t.2.1=2<;>cases kY k w t d<;>simp[m,q,u,v,x]
  ·intro r;simp only[aH,q',decide_false,eH,if_false]
  ·show(if fi k w=true then _ else _)=_;cases fi k w<;>simp
 ·show(if kz k w=true then _ else _)=_;cases kz k w<;>simp
def sorted_at{l:List ar}(hs:af (.sl ah) l<=1048576){i:Nat}(a:i<(dE (bU l)).length):af ab ((dE (bU l)).getD i ab.aa)<=1048576:=by
 have h1:=fw Q l;have h2:=tL (bU l);have h3:=dw (e:=ab) (d:=ab.aa) a;omega
omit Q in
theorem Fb(l:List ar):(dE (bU l)).length=bq l:=by
 have:=Kp dG (bU l);unfold dE iX bq;rw[List.length_reverse];exact this
def Dj{w:ag}(hs:af az w<=1048576):mr k (w,())=some (e9 k w,()):=by
 obtain⟨w1,a,_,_,w5,w6,_,w8,w9⟩:=eA Q hs;have hc:=KB Q a;have d:=Fb w.2.2.2.1;simp only[mr,aN,Fh Q a,rL Q a,cy,fq];unfold e9;cases dp k w.2.2.2.1 with
 |false=>rfl
 |true=>
  rcases H_ (decide ((w.2.2.2.1.length:Int)=w.1.1))with hq|hq;rotate_left
  ·rw[hq];rfl
  ·rw[hq];simp only[J5,eH,if_false,aI0]
   refine(cU (fun i:Nat=>(w,dE (bU w.2.2.2.1),(i:Int),())) (fun i=>cw ((dE (bU w.2.2.2.1)).getD i ab.aa)) (dE (bU w.2.2.2.1)).length
    (e:=some (decide ((bq w.2.2.2.1:Int)<=w.1.2.1),())) (no:=some (false,())) ?_ ?_ k 0 (by omega) (by omega)).trans ?_
   ·intro G i b;have f:=sorted_at Q a b;dsimp only;rw[aH,c_ b,an rfl,an (aA b),aIR,rU Q f,cy,aV (by omega)];cases cw ((dE (bU w.2.2.2.1)).getD i ab.aa)<;>rfl
   ·intro G;simp only[aH,q',decide_false,eH,if_false,d]
   ·cases bA 0 (dE (bU w.2.2.2.1)).length (fun i=>cw ((dE (bU w.2.2.2.1)).getD i ab.aa))<;>simp
def AG{w:ag}(hs:af az w<=1048576)(h8:w.1.2.1<=8):j8 k (w,())=some (e9 k w,()):=by
 obtain⟨w1,b,_,_,w5,w6,_,w8,w9⟩:=eA Q hs;have hc:=KB Q b;have hsl:=Fb w.2.2.2.1;simp only[j8,aN,GQ Q b,ue Q b,cy,fq];unfold e9;cases dp k w.2.2.2.1 with
 |false=>rfl
 |true=>
  rcases H_ (decide ((w.2.2.2.1.length:Int)=w.1.1))with hq|hq;rotate_left
  ·rw[hq];rfl
  ·rw[hq];simp only[J5,eH,if_false,aI0,beq_self_eq_true,if_true,cy];by_cases a:(bq w.2.2.2.1:Int)<=w.1.2.1;rotate_left
   ·rw[an (by simp only[b_];omega),decide_eq_false a];rfl
   rw[a_ (by simp only[b_];omega),c_ a,xC Q b (by omega),cy]
   refine(cU (fun i:Nat=>(w,dE (bU w.2.2.2.1),((dE (bU w.2.2.2.1)).length:Int),(i:Int),())) (fun i=>cw ((dE (bU w.2.2.2.1)).getD i ab.aa)) (dE (bU w.2.2.2.1)).length
    (e:=some (true,())) (no:=some (false,())) ?_ ?_ k 0 (by omega) (by omega)).trans ?_
   ·intro G i d;have f:=sorted_at Q b d;dsimp only;rw[aH,c_ d,an rfl,an (aA d),aIR,xB Q f,cy,aV (by omega)];cases cw ((dE (bU w.2.2.2.1)).getD i ab.aa)<;>rfl
   ·intro G;simp only[aH,q',decide_false,eH,if_false]
   ·cases bA 0 (dE (bU w.2.2.2.1)).length (fun i=>cw ((dE (bU w.2.2.2.1)).getD i ab.aa))<;>simp
omit Q in
theorem A5{l:List ar}(h:dp k l=true):(1<=l.length/\l.length<=3)/\∀i,i<l.length->bc (l.getD i ah.aa).1 (-1) 4=true:=by
 unfold dp at h;simp only[aIZ,ck]at h;obtain⟨d,a⟩:=h;refine⟨?_,fun i b=> ?_⟩;unfold bc at a;simp only[aIZ,b_]at a;omega;have:=d i (by omega) b;unfold eQ at this;simp only[aIZ]at this;exact this.2.1
omit Q in
theorem Vd{w:ag}(d:(w.2.2.2.1.length:Int)=w.1.1)(h1:1<=w.2.2.2.1.length)(b:fi k w=true){j:Nat}(e:j<w.2.2.2.2.2.2.2.2.2.2.2.2.1.length):bQ k w j<w.2.2.2.1.length:=by
 unfold fi at b;have h:=ck.1 b j (by omega) e;unfold bQ bn;generalize w.2.2.2.2.2.2.2.2.2.2.2.2.1.getD j ak.aa=t at*
 have a:=fun f:Int=>xV (f:=f) (n:=(w.2.2.2.1.length:Int)) (by omega);split;omega;split;exact(a _).2;split;exact(a _).2;split;rename_i hc;unfold cJ kY at h;rw[d];grind;omega
def A7{w:ag}(hs:af az w<=1048576):lT k (w,())=some (bC k w,()):=by
 obtain⟨u,w2,v,x,w5,w6,y,w8,w9⟩:=eA Q hs;have hn:=ay (e:=aw) (l:=w.2.2.2.2.2.2.2.2.2.2.2.2.2);have hm:=ay (e:=ak) (l:=w.2.2.2.2.2.2.2.2.2.2.2.2.1);have hu:=ay (e:=aU) (l:=w.2.2.2.2.1);simp only[lT,aN,vV Q u,fS Q,Dj Q hs,qC Q x,qC Q y,cy,fq,bZ];have q:∀a:Int,decide (a<0)= !decide (0<=a):=fun a=>by by_cases h:a<0<;>simp[h]<;>omega
 rw[q,q];unfold bC;by_cases b:cR w.1=true/\0<=w.2.1/\0<=w.2.2.2.2.2.2.2.2.1/\bc w.2.2.1 0 99899=true/\e9 k w=true/\(w.2.2.2.2.1.length:Int)=w.1.2.2.1/\(w.2.2.2.2.2.2.2.2.2.2.2.2.1.length:Int)=5/\bB w.2.2.2.2.2.1=true/\bB w.2.2.2.2.2.2.2.2.2.2.2.1=true;rotate_left
 ·have s:(cR w.1&&(decide (0<=w.2.1)&&(decide (0<=w.2.2.2.2.2.2.2.2.1)&&(bc w.2.2.1 0 99899&&(e9 k w&&(decide ((w.2.2.2.2.1.length:Int)=w.1.2.2.1)&&(decide ((w.2.2.2.2.2.2.2.2.2.2.2.2.1.length:Int)=5)&&(bB w.2.2.2.2.2.1&&(bB w.2.2.2.2.2.2.2.2.2.2.2.1&&
   (pE w.2.2.2.2.1&&(kz k w&&(fi k w&&(gN k w&&dB w)))))))))))))=false:=by
   rw[aJw];intro h;simp only[aIZ,b_]at h;exact b ⟨h.1,h.2.1,h.2.2.1,h.2.2.2.1,h.2.2.2.2.1,h.2.2.2.2.2.1,h.2.2.2.2.2.2.1,h.2.2.2.2.2.2.2.1,h.2.2.2.2.2.2.2.2.1⟩
  rw[s];refine(an ?_).trans rfl
  have f:¬(cR w.1=true/\decide (0<=w.2.1)=true/\decide (0<=w.2.2.2.2.2.2.2.2.1)=true/\bc w.2.2.1 0 99899=true/\e9 k w=true/\decide ((w.2.2.2.2.1.length:Int)=w.1.2.2.1)=true/\decide ((w.2.2.2.2.2.2.2.2.2.2.2.2.1.length:Int)=5)=true/\bB w.2.2.2.2.2.1=true/\bB w.2.2.2.2.2.2.2.2.2.2.2.1=true):=by
   simpa only[b_]using b
  generalize cR w.1=b1 at f|-;generalize decide (0<=w.2.1)=b2 at f|-;generalize decide (0<=w.2.2.2.2.2.2.2.2.1)=b3 at f|-;generalize bc w.2.2.1 0 99899=b4 at f|-;generalize e9 k w=b5 at f|-;generalize decide ((w.2.2.2.2.1.length:Int)=w.1.2.2.1)=b6 at f|-;generalize decide ((w.2.2.2.2.2.2.2.2.2.2.2.2.1.length:Int)=5)=b7 at f|-;generalize bB w.2.2.2.2.2.1=b8 at f|-;generalize bB w.2.2.2.2.2.2.2.2.2.2.2.1=b9 at f|-;clear b s;cases b1
  ·rfl
  cases b2
  ·rfl
  cases b3
  ·rfl
  cases b4
  ·rfl
  cases b5
  ·rfl
  cases b6
  ·rfl
  cases b7
  ·rfl
  cases b8
  ·rfl
  cases b9
  ·rfl
  exact absurd ⟨rfl,rfl,rfl,rfl,rfl,rfl,rfl,rfl,rfl⟩ f
 obtain⟨z,B,C,D,o,h6,h7,h8,h9⟩:=b
 have m:dp k w.2.2.2.1=true/\(w.2.2.2.1.length:Int)=w.1.1:=by
  unfold e9 at o;simp only[aIZ,b_]at o;exact⟨o.1,o.2.1⟩
 obtain⟨⟨p,_⟩,n⟩:=A5 m.1;rw[z,c_ B,c_ C,D,o,c_ h6,c_ h7,h8,h9];simp only[aI0];refine(sN rfl).trans ?_
 refine(cU (fun i:Nat=>(w,(i:Int),())) (fun i=>eL (w.2.2.2.2.1.getD i aU.aa)) w.2.2.2.2.1.length
  (e:=some (kz k w&&(fi k w&&(gN k w&&dB w)),())) (no:=some (false,())) ?_ ?_ k 0 (by omega) (by omega)).trans ?_
 ·intro G i g;dsimp only;rw[aH,c_ g,an rfl,an (aA g),aIR,LO Q (MJ Q v g),cy,aV (by omega)];cases eL (w.2.2.2.2.1.getD i aU.aa)<;>rfl
 ·intro G;simp only[aH,q',decide_false,eH,if_false]
  refine(cU (fun i:Nat=>(w,(i:Int),())) (fun i=>kN k w (w.2.2.2.2.2.2.2.2.2.2.2.2.2.getD i aw.aa)) w.2.2.2.2.2.2.2.2.2.2.2.2.2.length
   (e:=some (fi k w&&(gN k w&&dB w),())) (no:=some (false,())) ?_ ?_ k 0 (by omega) (by omega)).trans ?_
  ·intro G i g;dsimp only;rw[aH,c_ g,an rfl,an (aA g),aIR,IH Q,cy,aV (by omega)];generalize w.2.2.2.2.2.2.2.2.2.2.2.2.2.getD i aw.aa=d;rw[lH,lH,lH];unfold kN;cases er k d<;>cases decide (d.2.2.2.2.2.2.2.2.2.1<w.2.1)<;>cases decide (d.2.2.2.2.2.2.2.2.2.2.1<w.2.1)<;>cases decide (d.2.2.2.2.2.2.2.2.2.2.2<w.2.1)<;>rfl
  ·intro G;simp only[aH,q',decide_false,eH,if_false]
   refine(cU (fun i:Nat=>(w,(i:Int),())) (fun i=>cJ k w (w.2.2.2.2.2.2.2.2.2.2.2.2.1.getD i ak.aa) (jO w (w.2.2.2.2.2.2.2.2.2.2.2.2.1.getD i ak.aa)) i) w.2.2.2.2.2.2.2.2.2.2.2.2.1.length
    (e:=jD k (w,())>>= fun r=>(if(r.1==true)=true then iL k (w,())else some (false,()))>>= fun t=>some (if r.1=true then t.1 else false,())) (no:=some (false,())) ?_ ?_ k 0 (by omega) (by omega)).trans ?_
   ·intro G i g;dsimp only;rw[aH,c_ g,an rfl,GZ Q hs g m.2,cy,aV (by omega)];show(if(!cJ k w (w.2.2.2.2.2.2.2.2.2.2.2.2.1.getD i ak.aa) (jO w (w.2.2.2.2.2.2.2.2.2.2.2.2.1.getD i ak.aa)) i)=true then _ else _)=_;cases cJ k w (w.2.2.2.2.2.2.2.2.2.2.2.2.1.getD i ak.aa) (jO w (w.2.2.2.2.2.2.2.2.2.2.2.2.1.getD i ak.aa)) i<;>rfl
   ·intro G;simp only[aH,q',decide_false,eH,if_false];rfl
   ·show(if fi k w=true then _ else _)=_;rcases H_ (fi k w)with ho|ho;rotate_left
    ·rw[ho];rfl
    ·rw[ho,an rfl,Ds Q hs n (by omega) (fun j hj=>Vd m.2 p ho (by omega)),Bz Q hs (by omega)];cases gN k w<;>rfl
  ·show(if kz k w=true then _ else _)=_;cases kz k w<;>simp
 ·show(if pE w.2.2.2.2.1=true then _ else _)=_;cases pE w.2.2.2.2.1<;>simp
def lC{w:ag}(hs:af az w<=1048576):iz k (w,())=some (bC k w,()):=by
 obtain⟨l,w2,m,n,w5,w6,o,w8,w9⟩:=eA Q hs;simp only[iz,Ch Q l,fG Q,cy,fq,bZ];have i:∀a:Int,decide (a<0)= !decide (0<=a):=fun a=>by by_cases h:a<0<;>simp[h]<;>omega
 rw[i,i];unfold bC;by_cases b:cR w.1=true/\0<=w.2.1/\0<=w.2.2.2.2.2.2.2.2.1/\bc w.2.2.1 0 99899=true/\(w.2.2.2.2.2.2.2.2.2.2.2.2.1.length:Int)=5;rotate_left
 ·have j:(cR w.1&&(decide (0<=w.2.1)&&(decide (0<=w.2.2.2.2.2.2.2.2.1)&&(bc w.2.2.1 0 99899&&(e9 k w&&(decide ((w.2.2.2.2.1.length:Int)=w.1.2.2.1)&&(decide ((w.2.2.2.2.2.2.2.2.2.2.2.2.1.length:Int)=5)&&(bB w.2.2.2.2.2.1&&(bB w.2.2.2.2.2.2.2.2.2.2.2.1&&
   (pE w.2.2.2.2.1&&(kz k w&&(fi k w&&(gN k w&&dB w)))))))))))))=false:=by
   rw[aJw];intro h;simp only[aIZ,b_]at h;exact b ⟨h.1,h.2.1,h.2.2.1,h.2.2.2.1,h.2.2.2.2.2.2.1⟩
  rw[j];refine(an ?_).trans rfl
  have d:¬(cR w.1=true/\decide (0<=w.2.1)=true/\decide (0<=w.2.2.2.2.2.2.2.2.1)=true/\bc w.2.2.1 0 99899=true/\decide ((w.2.2.2.2.2.2.2.2.2.2.2.2.1.length:Int)=5)=true):=by
   simpa only[b_]using b
  generalize cR w.1=b1 at d|-;generalize decide (0<=w.2.1)=b2 at d|-;generalize decide (0<=w.2.2.2.2.2.2.2.2.1)=b3 at d|-;generalize bc w.2.2.1 0 99899=b4 at d|-;generalize decide ((w.2.2.2.2.2.2.2.2.2.2.2.2.1.length:Int)=5)=b7 at d|-;clear b j;cases b1
  ·rfl
  cases b2
  ·rfl
  cases b3
  ·rfl
  cases b4
  ·rfl
  cases b7
  ·rfl
  exact absurd ⟨rfl,rfl,rfl,rfl,rfl⟩ d
 obtain⟨g,p,q,r,h7⟩:=b
 have e:w.1.2.1<=8:=by
  unfold cR bc at g;simp only[aIZ,b_]at g;omega
 rw[g,c_ p,c_ q,r,c_ h7];simp only[aI0];refine(sN rfl).trans ?_;rw[AG Q hs e,cy];rcases H_ (e9 k w)with h5|h5;rotate_left
 ·rw[h5];rfl
 have f:dp k w.2.2.2.1=true/\(w.2.2.2.1.length:Int)=w.1.1:=by
  unfold e9 at h5;simp only[aIZ,b_]at h5;exact⟨h5.1,h5.2.1⟩
 rw[h5,BR Q m,kQ Q n,kQ Q o,AR Q hs f.2,zL Q hs,zu Q hs (by omega)];generalize decide ((w.2.2.2.2.1.length:Int)=w.1.2.2.1)=c1;generalize bB w.2.2.2.2.2.1=c2;generalize bB w.2.2.2.2.2.2.2.2.2.2.2.1=c3;generalize pE w.2.2.2.2.1=c4;generalize kz k w=c5;generalize fi k w=c6;generalize gN k w=c7;generalize dB w=c8;clear h5 f;cases c4<;>cases c1<;>cases c2<;>cases c3<;>cases c5<;>cases c6<;>cases c7<;>first|rfl|(cases c8<;>rfl)
end
def vL(c:bh):List bg:=aI4 c.2.2.1.toNat ([],false)
def XJ:bh:=(0,0,0,0,0,[])
def uO:aF:=(0,0,([],0,0,ByteArray.empty),[],0,[],[],0,0)
def dq(n:Int):List ar:=aI4 (if 1<=n/\n<=3 then n.toNat else 1) (-1,0,[])
def iG(c:bh):ag:=if cR c=true then(c,0,0,dq c.1,vL c,[],-1,[],0,[],[],[],aI4 5 uO,[])else(XJ,0,0,[],[],[],0,[],0,[],[],[],[],[])
def MT{c:bh}(h:cR c=true):1<=c.2.2.1/\c.2.2.1<=2/\1<=c.1/\c.1<=3:=by
 simp only[cR,bc,aIZ,b_]at h;omega
def Cj{α:Type}(x:α)(i:Nat):aI4 (i+1) x=aI4 i x++[x]:=by
 rw[aJq]
section
variable{k:Nat}(Q:9223372036854775808<=k)
include Q
theorem sV{n:Int}:jk k (n,())=some (dq n,()):=by
 simp only[jk];unfold dq;by_cases a:1<=n/\n<=3;rw[an a];refine bG (fun i=>(n,aI4 (i+1) ((-1,0,[]):ar),())) (n.toNat-1) (fun G i hi=> ?_) (fun G=> ?_) k 0 (by omega) (by omega);simp only;rw[an (by simp;omega),an (by simp;omega),<-Cj];simp only;rw[a_ (by simp;omega)];congr 3;omega;rw[a_ a];obtain⟨k,rfl⟩:∃m,k=m+1:=⟨k-1,by omega⟩
 show(if _ then _ else _)=_;rw[a_ (by simp;omega)];rfl
def zi{c:bh}(h:af cM c<=1048576):lB k (c,())=some (iG c,()):=by
 simp only[lB,aN];rw[vV Q h,cy];unfold iG;cases hc:cR c with
 |false=>rfl
 |true=>
  have hs:=MT hc;rw[a_ (by simp),F0 Q (by omega),cy,sV Q,cy];refine bG (fun i=>(c,_,(c,(0:Int),(0:Int),dq c.1,aI4 i (([],false):bg),([]:List ae),(-1:Int),([]:List au),(0:Int),([]:List aJ),([]:List br),([]:List ae),([]:List aF),([]:List aC)),(i:Int),())) c.2.2.1.toNat (fun G i a=> ?_) (fun G=> ?_) k 0 (by omega) (by omega);simp only;rw[an (by simp;omega),an (by simp;omega),aV (by omega),Cj];simp only;rw[a_ (by simp;omega)];refine bG (fun i=>(c,_,(c,(0:Int),(0:Int),dq c.1,vL c,([]:List ae),(-1:Int),([]:List au),(0:Int),([]:List aJ),([]:List br),([]:List ae),aI4 i uO,([]:List aC)),(i:Int),())) 5 (fun G i a=> ?_) (fun G=> ?_) k 0 (by omega) (by omega);simp only;rw[an (by simp;omega),an (by simp;omega),aV (by omega),Cj];rfl;simp only;rw[a_ (by simp)];rfl
end
abbrev bF(w:ag):List aF:=w.2.2.2.2.2.2.2.2.2.2.2.2.1
abbrev bV(w:ag):List aC:=w.2.2.2.2.2.2.2.2.2.2.2.2.2
def KU(w:ag)(t:List aF)(d:List aC):ag:=
 (w.1,IntKind.i64.wrap (w.2.1+1),w.2.2.1,w.2.2.2.1,w.2.2.2.2.1,w.2.2.2.2.2.1,w.2.2.2.2.2.2.1,w.2.2.2.2.2.2.2.1,w.2.2.2.2.2.2.2.2.1,w.2.2.2.2.2.2.2.2.2.1,w.2.2.2.2.2.2.2.2.2.2.1,w.2.2.2.2.2.2.2.2.2.2.2.1,t,d)
def om(t:aF)(h:Int):aF:=(t.1,t.2.1,t.2.2.1,t.2.2.2.1,t.2.2.2.2.1,t.2.2.2.2.2.1,t.2.2.2.2.2.2.1,t.2.2.2.2.2.2.2.1,h)
def opened(w:ag)(i op:Int)(a:ae)(l:List ai)(n:Int):aC:=(op,i,a,l,0,n,0,[],w.2.2.1,w.2.1,-1,-1)
def fk(w:ag)(i:Int)(t:aF)(op:Int):ag:=
 KU w ((bF w).set i.toNat (om t (bV w).length)) (bV w++[opened w i op t.2.2.1 t.2.2.2.1 t.2.2.2.2.2.2.2.1])
def qv(w:ag)(i:Int):Bool:=bc i 0 (((bF w).length:Int)-1)&&decide (((bF w).getD i.toNat ak.aa).1=0)
def cP(w:ag)(i:Int):Bool:=bc i 0 2&&qv w i
def vo:ae:=([],0,0,ByteArray.empty)
def kJ:aF:=(4,0,vo,[],0,[],[],0,0)
def qD:aF:=(3,0,vo,[],0,[],[],0,0)
def tO(l:List ai):aF:=(2,0,vo,l,0,[],[],0,0)
def pA(a:ae):aF:=(1,0,a,[],0,[],[],0,0)
def qu(k:Nat)(w:ag)(i:Int):Bool:=bC k w&&cP w i
def UX(k:Nat)(w:ag)(i:Int):ag:=if qu k w i=true then fk w i kJ 6 else w
def aoF(k:Nat)(w:ag)(i:Int):ag:=if qu k w i=true then fk w i qD 4 else w
def aoB(k:Nat)(w:ag)(i:Int)(l:List ai):Bool:=qu k w i&&dt l
def lookW(k:Nat)(w:ag)(i:Int)(l:List ai):ag:=if aoB k w i l=true then fk w i (tO l) 3 else w
def refused(w:ag)(i:Int)(a:ae):ag:=KU w (bF w) (bV w++[(1,i,a,[],0,0,4,[],w.2.2.1,w.2.1,w.2.1,w.2.1)])
def rW{w:ag}{i:Int}(h:cP w i=true):0<=i/\i<=2/\i.toNat<(bF w).length:=by
 unfold cP qv bc at h;simp only[aIZ,b_]at h;omega
def S8(k:Nat)(x:ag×Int×aF×Unit):Option (ag×Unit):=
 aJb (dv k (x.1,x.2.1,x.2.2.1,())) fun a=>some ((a.1.1,IntKind.i64.wrap (a.1.2.1+(1:Int)),a.1.2.2),())
section
variable{k:Nat}(Q:9223372036854775808<=k)
include Q
def tE{w:ag}(hs:af az w<=1048576):(bF w).length<=1048576/\(bV w).length<=1048576:=by
 obtain⟨w1,w2,w3,w4,w5,w6,w7,a,b⟩:=eA Q hs;exact⟨K' (ay (e:=ak)) a,K' (ay (e:=aw)) b⟩
def SX{w:ag}{i:Int}(hs:af az w<=1048576):CC k (w,i,())=some (qv w i,()):=by
 have hl:w.2.2.2.2.2.2.2.2.2.2.2.2.1.length<=1048576:=(tE Q hs).1;simp only[CC];rw[tR (by omega),fS Q,cy];simp only[qv,bF];by_cases h:bc i 0 ((w.2.2.2.2.2.2.2.2.2.2.2.2.1.length:Int)-1)=true;have a:=h;unfold bc at a;simp only[aIZ,b_]at a;rw[h];refine(an (by simp;omega)).trans ?_;simp[cj];rw[aI5]at h;rw[h];exact(an rfl).trans rfl
def Ez{w:ag}{i:Int}(hs:af az w<=1048576):rS k (w,i,())=some (qv w i,()):=by
 have hl:w.2.2.2.2.2.2.2.2.2.2.2.2.1.length<=1048576:=(tE Q hs).1;simp only[rS];rw[tR (by omega),fG Q,cy];simp only[qv,bF];by_cases h:bc i 0 ((w.2.2.2.2.2.2.2.2.2.2.2.2.1.length:Int)-1)=true;have a:=h;unfold bc at a;simp only[aIZ,b_]at a;rw[h];refine(an (by simp;omega)).trans ?_;simp[cj];rw[aI5]at h;rw[h];exact(an rfl).trans rfl
def Xp{w:ag}{i:Int}(hs:af az w<=1048576):Mb k (w,i,())=some (cP w i,()):=by
 simp only[Mb,fG Q,Ez Q hs,cy];unfold cP;cases bc i 0 2<;>simp
def Yh{w:ag}{d:aC}(hs:af az w<=1048576):qZ k (w,d,())=
 some (((bV w).length:Int),(w.1,w.2.1,w.2.2.1,w.2.2.2.1,w.2.2.2.2.1,w.2.2.2.2.2.1,w.2.2.2.2.2.2.1,w.2.2.2.2.2.2.2.1,w.2.2.2.2.2.2.2.2.1,w.2.2.2.2.2.2.2.2.2.1,w.2.2.2.2.2.2.2.2.2.2.1,w.2.2.2.2.2.2.2.2.2.2.2.1,bF w,
  bV w++[(d.1,d.2.1,d.2.2.1,d.2.2.2.1,d.2.2.2.2.1,d.2.2.2.2.2.1,d.2.2.2.2.2.2.1,d.2.2.2.2.2.2.2.1,w.2.2.1,w.2.1,-1,-1)]),()):=by
 have hl:w.2.2.2.2.2.2.2.2.2.2.2.2.2.length<=1048576:=(tE Q hs).2;simp only[qZ];rw[an (by simp;omega)]
 have e:IntKind.i64.wrap ((((bV w++[(d.1,d.2.1,d.2.2.1,d.2.2.2.1,d.2.2.2.2.1,d.2.2.2.2.2.1,d.2.2.2.2.2.2.1,d.2.2.2.2.2.2.2.1,w.2.2.1,w.2.1,-1,-1)]).length:Nat):Int)-1)=((bV w).length:Int):=by
  rw[aI6,aIU,tR (by simp only[bV];omega)];omega
 rw[e]
def ajl{w:ag}{i:Int}{t:aF}{d:aC}(hs:af az w<=1048576):Sf k (w,i,t,d,())=
 some (if cP w i=true then(true,KU w ((bF w).set i.toNat (om t (bV w).length)) (bV w++[(d.1,i,d.2.2.1,d.2.2.2.1,d.2.2.2.2.1,d.2.2.2.2.2.1,d.2.2.2.2.2.2.1,d.2.2.2.2.2.2.2.1,w.2.2.1,w.2.1,-1,-1)]),())else(false,w,())):=by
 simp only[Sf,Xp Q hs,cy];by_cases hc:cP w i=true;obtain⟨h1,h2,h3⟩:=rW hc;rw[hc,a_ (by simp),an rfl,Yh Q hs,cy];refine(an (by simp;omega)).trans ?_;rfl;rw[aI5]at hc;rw[hc];exact(an rfl).trans (by simp)
theorem Iw{op:Int}(h0:0<=op)(h1:op<=6):dI k (op,())=some (aJv [0,1,3,4,6,7,8] op.toNat 0,()):=by
 simp only[dI];rw[an (by simp;omega)]
def OF{w:ag}{i:Int}{t:aF}(hs:af az w<=1048576)(ht:af ak t<=1048576)(b:0<=t.1)(d:t.1<=6)(hi:0<=i)(hi2:i.toNat<w.2.2.2.2.2.2.2.2.2.2.2.2.1.length):
 S8 k (w,i,t,())=some (fk w i t (aJv [0,1,3,4,6,7,8] t.1.toNat 0),()):=by
 have hl:w.2.2.2.2.2.2.2.2.2.2.2.2.2.length<=1048576:=(tE Q hs).2;have hT:=bw Q t;have h2:=ay (e:=al) (l:=t.2.2.2.1);simp only[S8,dv];rw[xO Q (by omega),cy];simp only[Iw Q b d,dh Q (a:=t.2.2.1) (by omega),cy,aJa,aJg,Nat.zero_add,aIU];rw[an (by simp;omega),an (by simp;omega),an (by simp;omega),cy];rfl
def HA{w:ag}{i:Int}{t:aF}(hs:af az w<=1048576)(b:af ak t<=1048576)(d:0<=t.1)(e:t.1<=6)(f:0<=i)(a:i.toNat<w.2.2.2.2.2.2.2.2.2.2.2.2.1.length):
 dX k (w,i,t,())=some (fk w i t (aJv [0,1,3,4,6,7,8] t.1.toNat 0),()):=OF Q hs b d e f a
def aja{w:ag}{i:Int}(hs:af az w<=1048576):W6 k (w,i,())=some (UX k w i,qu k w i,()):=by
 simp only[W6,tN Q (w:=w) (by omega),A7 Q hs,fS Q,SX Q hs,cy];unfold UX qu cP;by_cases a:bC k w=true;rotate_left
 ·rw[aI5]at a;simp[a]
 by_cases b:bc i 0 2=true;rotate_left
 ·rw[aI5]at b;simp[a,b]
 by_cases d:qv w i=true;rotate_left
 ·rw[aI5]at d;simp[a,b,d]
 obtain⟨q1,q2,q3⟩:=rW (w:=w) (i:=i) (by unfold cP;rw[b,d];rfl);have:=HA Q (w:=w) (i:=i) (t:=kJ) hs (by simp[bw Q,kJ,vo,af]) (by decide) (by decide) q1 q3;simp only[a,b,d,J5,beq_self_eq_true,if_true,cy,eH,if_false,aJf];exact(congrArg (fun o=>aJb o _) this).trans rfl
def ajs{w:ag}{i:Int}(hs:af az w<=1048576):W4 k (w,i,())=some (UX k w i,qu k w i,()):=by
 simp only[W4,U0,Py Q (w:=w) (by omega),lC Q hs,ajl Q hs,cy];unfold UX qu;by_cases a:bC k w=true;rotate_left
 ·rw[aI5]at a;simp[a]
 by_cases hc:cP w i=true
 ·simp only[a,hc,J5,beq_self_eq_true,if_true,eH,if_false,aJf];rfl
 ·rw[aI5]at hc;simp[a,hc]
def nZ{w:ag}{d:aC}(hs:af az w<=1048576):cK k (w,d,())=some ((w.1,w.2.1,w.2.2.1,w.2.2.2.1,w.2.2.2.2.1,w.2.2.2.2.2.1,w.2.2.2.2.2.2.1,w.2.2.2.2.2.2.2.1,w.2.2.2.2.2.2.2.2.1,w.2.2.2.2.2.2.2.2.2.1,w.2.2.2.2.2.2.2.2.2.2.1,w.2.2.2.2.2.2.2.2.2.2.2.1,bF w,
 bV w++[(d.1,d.2.1,d.2.2.1,d.2.2.2.1,d.2.2.2.2.1,d.2.2.2.2.2.1,d.2.2.2.2.2.2.1,d.2.2.2.2.2.2.2.1,w.2.2.1,w.2.1,w.2.1,w.2.1)]),()):=by
 have hl:w.2.2.2.2.2.2.2.2.2.2.2.2.2.length<=1048576:=(tE Q hs).2;simp only[cK];rw[an (by simp;omega)]
def Yw{w:ag}{t:List aF}{d:List aC}{m n:Nat}(a:af (.sl ak) t<=af (.sl ak) (bF w)+m)(b:af (.sl aw) d<=af (.sl aw) (bV w)+n):af az (KU w t d)<=af az w+m+n:=by
 rw[da Q,da Q];simp only[KU];simp only[bF,bV]at a b;omega
end
def UK(k:Nat)(t:aF)(n:Int):Int:=
 if n<1 then-1
 else if¬t.2.1=0 then-1
 else if t.1=1 then dL (cH k t.2.2.1.1) n
 else if t.1=2 then dL (cH k t.2.2.2.1) n
 else if t.1=3\/t.1=4 then t.2.2.2.2.1
 else-1
def Lg{k:Nat}{w:ag}(h:bC k w=true):dp k w.2.2.2.1=true/\(w.2.2.2.1.length:Int)=w.1.1/\w.2.2.2.2.2.2.2.2.2.2.2.2.1.length=5/\fi k w=true:=by
 unfold bC e9 at h;simp only[aIZ,b_]at h;obtain⟨_,_,_,_,⟨a,b,_⟩,_,h3,_,_,_,_,d,_⟩:=h;exact⟨a,b,by omega,d⟩
section
variable{k:Nat}(Q:9223372036854775808<=k)
include Q
def Xl{t:aF}{n:Int}(hs:af ak t<=1048576):DF k (t,n,())=some (UK k t n,()):=by
 obtain⟨t1,h,t3,t4,i⟩:=lQ Q hs;simp only[DF,pn,iC Q i,iC Q h,lU Q,cy,cj,fq];unfold UK;by_cases a:n<1;simp[a];by_cases b:t.2.1=0;by_cases d:t.1=1;simp[a,b,d];by_cases e:t.1=2;simp[a,b,d,e];by_cases f:t.1=3;simp[a,b,d,e,f];by_cases g:t.1=4<;>simp[a,b,d,e,f,g];simp[a,b]
end
def nT(d:aC)(O ti code:Int):aC:=(d.1,d.2.1,d.2.2.1,d.2.2.2.1,d.2.2.2.2.1,d.2.2.2.2.2.1,code,d.2.2.2.2.2.2.2.1,O,d.2.2.2.2.2.2.2.2.2.1,ti,d.2.2.2.2.2.2.2.2.2.2.2)
def lP(d:aC)(ti:Int):aC:=(d.1,d.2.1,d.2.2.1,d.2.2.2.1,d.2.2.2.2.1,d.2.2.2.2.2.1,d.2.2.2.2.2.2.1,d.2.2.2.2.2.2.2.1,d.2.2.2.2.2.2.2.2.1,d.2.2.2.2.2.2.2.2.2.1,d.2.2.2.2.2.2.2.2.2.2.1,ti)
def cW(d:aC):Int:=d.2.2.2.2.2.2.2.2.2.2.1
def Lj(d:aC)(O ti code:Int):aC:=lP (if cW d= -1 then nT d O ti code else d) ti
def eT(d:aC)(O inv a res:Int):aC:=(d.1,d.2.1,d.2.2.1,d.2.2.2.1,d.2.2.2.2.1,d.2.2.2.2.2.1,d.2.2.2.2.2.2.1,d.2.2.2.2.2.2.2.1,O,inv,a,res)
def Ph(st:List ar)(j:Int):List ar:=if 0<=j then st.set j.toNat (-1,(st.getD j.toNat ah.aa).2)else st
def bf(t:aF):Int:=t.2.2.2.2.2.2.2.2
def aT{α:Type}{l:List α}{n:Nat}(a d:α)(h:n<l.length):(l.set n a).getD n d=a:=by
 rw[aI1,List.getElem?_set_self h];rfl
section
variable{k:Nat}(Q:9223372036854775808<=k)
include Q
variable{c:bh}{ti O gr nn:Int}{st:List ar}{Z:List bg}{U V:List ae}{A:List au}{T:List aJ}{n_:List br}{E:List aF}{M:List aC}
theorem Xj{i n:Nat}{code:Int}(d:i<E.length)(a:n<M.length)(b:bf (E.getD i ak.aa)=(n:Int)):
 mW k ((c,ti,O,st,Z,U,gr,A,nn,T,n_,V,E,M),(i:Int),code,())=
  some ((c,ti,O,st,Z,U,gr,A,nn,T,n_,V,E,M.set n (nT (M.getD n aw.aa) O ti code)),()):=by
 unfold bf at b;simp only[mW,aIR,b,fu];rw[an (aA d),an (aA a)];simp only[aJd,aT _ _ a,aI7];rfl
theorem ajB{d:aC}(hn:M.length<=1048576):
 DE k ((c,ti,O,st,Z,U,gr,A,nn,T,n_,V,E,M),d,())=
  some ((c,ti,O,st,Z,U,gr,A,nn,T,n_,V,E,M++[eT d O ti ti ti]),()):=by
 simp only[DE];rw[an (c_ (by simp only[aIU];omega))];rfl
theorem N1{d:aC}(hn:M.length<=1048576):
 cK k ((c,ti,O,st,Z,U,gr,A,nn,T,n_,V,E,M),d,())=
  some ((c,ti,O,st,Z,U,gr,A,nn,T,n_,V,E,M++[eT d O ti ti ti]),()):=by
 simp only[cK];rw[an (c_ (by simp only[aIU];omega))];rfl
set_option maxHeartbeats 4000000 in
theorem aaq{i n:Nat}{code:Int}(a:i<E.length)(g:n<M.length)(o:bf (E.getD i ak.aa)=(n:Int))
 (r:af ak (E.getD i ak.aa)<=1048576) (p:bn k (E.getD i ak.aa) (st.length:Int)<(st.length:Int)):
 pC k ((c,ti,O,st,Z,U,gr,A,nn,T,n_,V,E,M),(i:Int),code,())=
  some ((c,ti,O,Ph st (bn k (E.getD i ak.aa) (st.length:Int)),Z,U,if cA (E.getD i ak.aa)=true then-1 else gr,A,nn,T,n_,V,E.set i zT,
   M.set n (Lj (M.getD n aw.aa) O ti code)),()):=by
 have q:=o;unfold bf at o;simp only[pC,aIR,o,fu,aN];rw[an (aA a),an (aA g)];have l:((0,0,(([]:List ai),0,0,ByteArray.empty),([]:List ai),0,([]:List Int),([]:List ae),0,0):aF)=zT:=rfl;unfold Lj cW;obtain⟨b,h⟩:∃b,cA (E.getD i ak.aa)=b:=⟨_,rfl⟩
 obtain⟨j,f⟩:∃j,bn k (E.getD i ak.aa) (st.length:Int)=j:=⟨_,rfl⟩
 rw[f]at p;rw[h];by_cases m:(M.getD n aw.aa).2.2.2.2.2.2.2.2.2.2.1= -1;rw[an (by rw[beq_iff_eq];exact m),Xj Q a g q,cy,an m];dsimp only;rw[aI7,an (aA g),an (aA a),qQ Q r,cy];simp only[aT _ _ g,aJd];simp only[f];by_cases d:0<=j;have e:Ph st j=st.set j.toNat (-1,(st.getD j.toNat ah.aa).2):=an d;rw[an (c_ d),an (c_ ⟨d,p⟩)];rw[an (aA a),kD Q,cy,e,h];cases b<;>simp only[aA a,if_true,eH,if_false,l,lP,nT];have e:Ph st j=st:=a_ d;rw[a_ (by simpa using d)];rw[an (aA a),kD Q,cy,e,h];cases b<;>simp only[aA a,if_true,eH,if_false,l,lP,nT];rw[a_ (by rw[beq_iff_eq];exact m),a_ m,an (aA g)];rw[an (aA a),qQ Q r,cy];dsimp only;simp only[f];by_cases d:0<=j;have e:Ph st j=st.set j.toNat (-1,(st.getD j.toNat ah.aa).2):=an d;rw[an (c_ d),an (c_ ⟨d,p⟩)];rw[an (aA a),kD Q,cy,e,h];cases b<;>simp only[aA a,if_true,eH,if_false,l,lP,nT];have e:Ph st j=st:=a_ d;rw[a_ (by simpa using d)];rw[an (aA a),kD Q,cy,e,h];cases b<;>simp only[aA a,if_true,eH,if_false,l,lP,nT]
theorem uw{i:Nat}(a:i<E.length):
 kj k ((c,ti,O,st,Z,U,gr,A,nn,T,n_,V,E,M),(i:Int),())=
  if gr= -1 then some (true,(c,ti,O,st,Z,U,(i:Int),A,nn,T,n_,V,E.set i ((E.getD i ak.aa).1,1,(E.getD i ak.aa).2.2),M),())
  else some (false,(c,ti,O,st,Z,U,gr,A,nn,T,n_,V,E,M),()):=by
 simp only[kj,aIR,fq];by_cases h:gr= -1;rw[a_ (by simpa using h),an (aA a),an h];rw[an (by simpa using h),a_ h]
theorem pP{i j:Nat}(b:i<E.length)(a:j<st.length):
 iB k ((c,ti,O,st,Z,U,gr,A,nn,T,n_,V,E,M),(i:Int),(j:Int),())=
  if(st.getD j ah.aa).1= -1 then some (true,(c,ti,O,st.set j ((i:Int),(st.getD j ah.aa).2),Z,U,gr,A,nn,T,n_,V,E.set i ((E.getD i ak.aa).1,1,(E.getD i ak.aa).2.2),M),())
  else some (false,(c,ti,O,st,Z,U,gr,A,nn,T,n_,V,E,M),()):=by
 simp only[iB,aIR,fq];rw[an (aA a)];by_cases h:(st.getD j ah.aa).1= -1;rw[a_ (by simpa using h),an (aA a),an (aA b),an h];rw[an (by simpa using h),a_ h]
theorem amF{i j:Nat}(a:i<E.length)(b:j<st.length)(d:(E.getD i ak.aa).2.2.2.2.1=(j:Int))(hs:st.length<=1048576):
 Rq k ((c,ti,O,st,Z,U,gr,A,nn,T,n_,V,E,M),(i:Int),())=
  some ((c,ti,O,st.set j (-1,(st.getD j ah.aa).2),Z,U,gr,A,nn,T,n_,V,
   E.set i ((E.getD i ak.aa).1,0,(E.getD i ak.aa).2.2.1,(E.getD i ak.aa).2.2.2.1,((j+1:Nat):Int),(E.getD i ak.aa).2.2.2.2.2),M),()):=by
 simp only[Rq,aIR,d,fu];rw[an (aA a),an (aA b),aV (by omega)];simp only[aJd,aT _ _ a]
end
def xQ(d:aC)(O ti code:Int)(got:List ae):aC:=(d.1,d.2.1,d.2.2.1,d.2.2.2.1,d.2.2.2.2.1,d.2.2.2.2.2.1,code,got,O,d.2.2.2.2.2.2.2.2.2.1,ti,d.2.2.2.2.2.2.2.2.2.2.2)
def ot(d:aC)(O ti code:Int)(got:List ae):aC:=lP (if cW d= -1 then xQ d O ti code got else d) ti
section
variable{k:Nat}(Q:9223372036854775808<=k)
include Q
variable{c:bh}{ti O gr nn:Int}{st:List ar}{Z:List bg}{U V:List ae}{A:List au}{T:List aJ}{n_:List br}{E:List aF}{M:List aC}
set_option maxHeartbeats 4000000 in
theorem fj{i n:Nat}{code:Int}{got:List ae}(d:i<E.length)(a:n<M.length)(e:bf (E.getD i ak.aa)=(n:Int))
 (g:af (.sl ab) got<=1073741824):
 cD k ((c,ti,O,st,Z,U,gr,A,nn,T,n_,V,E,M),(i:Int),code,got,())=
  some ((c,ti,O,st,Z,U,gr,A,nn,T,n_,V,E.set i zT,M.set n (ot (M.getD n aw.aa) O ti code got)),()):=by
 unfold bf at e;simp only[cD,aIR,e,fu,aN];rw[an (aA d),an (aA a)];have f:((0,0,(([]:List ai),0,0,ByteArray.empty),([]:List ai),0,([]:List Int),([]:List ae),0,0):aF)=zT:=rfl;unfold ot cW;by_cases b:(M.getD n aw.aa).2.2.2.2.2.2.2.2.2.2.1= -1;rw[an (by rw[beq_iff_eq];exact b),fB Q g,cy,an b];simp only[aT _ _ a,aJd,aI7,aA d,aA a,if_true,f,lP,xQ];rw[a_ (by rw[beq_iff_eq];exact b),a_ b];simp only[aT _ _ a,aJd,aI7,aA d,aA a,if_true,f,lP,xQ]
theorem sT{i:Nat}{t:aF}{o:Int}(a:i<E.length)(hn:M.length<=1048576)(ht:af ak t<=1048576)(b:dI k (t.1,())=some (o,()))(hA:af ab t.2.2.1<=1048576)(hL:t.2.2.2.1.length<=1048576):
 dv k ((c,ti,O,st,Z,U,gr,A,nn,T,n_,V,E,M),(i:Int),t,())=
  some ((c,ti,O,st,Z,U,gr,A,nn,T,n_,V,E.set i (t.1,t.2.1,t.2.2.1,t.2.2.2.1,t.2.2.2.2.1,t.2.2.2.2.2.1,t.2.2.2.2.2.2.1,t.2.2.2.2.2.2.2.1,(M.length:Int)),
   M++[(o,(i:Int),t.2.2.1,t.2.2.2.1,0,t.2.2.2.2.2.2.2.1,0,[],O,ti,-1,-1)]),()):=by
 simp only[dv,xO Q (show af ak t<=1073741824 by omega),cy,b,dh Q (show af ab t.2.2.1<=1073741824 by omega),aIR];rw[an (aA a),an (c_ (by simp only[aJg];omega)),an (c_ (by simp only[aIU];omega))];rfl
def ah9{i j:Nat}(a:i<E.length)(b:j<st.length)(d:af ak (E.getD i ak.aa)<=1048576)(e:UK k (E.getD i ak.aa) (st.length:Int)=(j:Int)):
 BJ k ((c,ti,O,st,Z,U,gr,A,nn,T,n_,V,E,M),(i:Int),())=
  if(st.getD j ah.aa).1= -1 then some (true,(c,ti,O,st.set j ((i:Int),(st.getD j ah.aa).2),Z,U,gr,A,nn,T,n_,V,E.set i ((E.getD i ak.aa).1,1,(E.getD i ak.aa).2.2),M),())
  else some (false,(c,ti,O,st,Z,U,gr,A,nn,T,n_,V,E,M),()):=by
 simp only[BJ,aIR,fq,Xl Q d,cy,e];rw[an (aA a),an (aA b)];by_cases h:(st.getD j ah.aa).1= -1;rw[a_ (by simpa using h),an (aA b),an (aA a),an h];rw[an (by simpa using h),a_ h]
end
def dA(s x:Bool)(d:aC)(O ti code:Int)(got:List ae):aC:=if(s||x)=true then ot d O ti code got else Lj d O ti code
def rl(k:Nat)(c:bh)(st:List ar)(a:ae):Bool:= !(bL k st a.1).2&&decide (c.2.1<=(bq st:Int))
def bT(st:List ar)(j:Nat)(x:Int):List ar:=st.set j (x,(st.getD j ah.aa).2)
def tick(ti:Int):Int:=IntKind.i64.wrap (ti+1)
def mO(i:Int)(a:ae):aC:=(2,i,a,[],0,0,8,[],0,0,0,0)
def dZ(w:ag)(i j:Nat):Bool×ag:=
 match w with
 |(c,ti,O,st,Z,U,gr,A,nn,T,n_,V,E,M)=>
  if(st.getD j ah.aa).1= -1 then(true,(c,ti,O,bT st j i,Z,U,gr,A,nn,T,n_,V,E.set i ((E.getD i ak.aa).1,1,(E.getD i ak.aa).2.2),M))else(false,w)
def bH(r:Bool×ag):Bool×ag:=if r.1=true then(true,(r.2.1,tick r.2.2.1,r.2.2.2))else r
def qj(s:Bool)(k:Nat)(w:ag)(i:Nat):Bool×ag:=
 match w with
 |(c,ti,O,st,Z,U,gr,A,nn,T,n_,V,E,M)=>
  let t:=E.getD i ak.aa
  let n:=(bf t).toNat
  let j:=(bz k st t.2.2.1.1).toNat
  let d:=M.getD n aw.aa
  if t.2.1=0 then dZ w i j
  else if t.2.1=1 then
   if rl k c st t.2.2.1=true then(true,(c,ti,O,bT st j (-1),Z,U,gr,A,nn,T,n_,V,E.set i zT,M.set n (dA s false d O ti 3 [])))
   else(true,(c,ti,O,(cZ k st t.2.2.1).1,Z,U,gr,A,nn,T,n_,V,E.set i (t.1,2,(bL k (cZ k st t.2.2.1).1 t.2.2.1.1).1,t.2.2.2),M.set n (nT d O ti (if(cZ k st t.2.2.1).2=true then 1 else 2))))
  else(true,(c,ti,O,bT st j (-1),Z.map (mC t.2.2.1),U++[t.2.2.1],gr,A,nn,T,n_,V++[t.2.2.1],E.set i zT,(M++[eT (mO i t.2.2.1) O ti ti ti]).set n (lP d ti)))
def fy(s:Bool)(k:Nat)(w:ag)(i:Nat):Bool×ag:=bH (qj s k w i)
def sD{α:Type}{l:List α}{n:Nat}(x d:α)(h:n<l.length):(l++[x]).getD n d=l.getD n d:=by
 rw[aI1,aI1,List.getElem?_append_left h]
def Pc{α:Type}{b:Bool}{a cap:Int}{X Y:Option α}:(aJb (if((!b)==true)=true then some (a,())else some (0,())) fun(r:Int×Unit)=>if(if(!b)=true then decide (r.1>=cap)else false)=true then X else Y)=
 if(!b&&decide (cap<=a))=true then X else Y:=by cases b<;>simp
section
variable{k:Nat}(Q:9223372036854775808<=k)
include Q
variable{c:bh}{ti O gr nn:Int}{st:List ar}{Z:List bg}{U V:List ae}{A:List au}{T:List aJ}{n_:List br}{E:List aF}{M:List aC}
def gG(hs:af az (c,ti,O,st,Z,U,gr,A,nn,T,n_,V,E,M)<=1048576):
 af cM c+af (.sl ah) st+af (.sl aU) Z+af (.sl ab) U+af (.sl aj) A+af (.sl aD) T+af (.sl bM) n_+af (.sl ab) V+af (.sl ak) E+af (.sl aw) M<=1048576:=by
 rw[da Q]at hs;exact hs
theorem Og{l:List ar}{s:List ai}(h:l.length≠0):∃j:Nat,j<l.length/\bz k l s=(j:Int):=by
 obtain⟨h0,h1,a⟩:=mD (k:=k) (l:=l) (s:=s) h;exact⟨(bz k l s).toNat,a,by omega⟩
def pI{i j:Nat}{t:aF}(a:i<E.length)(b:E.getD i ak.aa=t)(d:af (.sl al) t.2.2.1.1<=1048576)(e:bz k st t.2.2.1.1=(j:Int)):
 iE k ((c,ti,O,st,Z,U,gr,A,nn,T,n_,V,E,M),(i:Int),())=some ((j:Int),()):=by
 simp only[iE,aIR,b];rw[an (aA a),nx Q d,cy,e]
set_option maxHeartbeats 4000000 in
theorem BY{i n j:Nat}{t:aF}{d:aC}(hs:af az (c,ti,O,st,Z,U,gr,A,nn,T,n_,V,E,M)<=1048576)(b:i<E.length)(f:E.getD i ak.aa=t)(r:t.1=1)
 (u:j<st.length) (s:bz k st t.2.2.1.1=(j:Int)) (h:n<M.length) (o:bf t=(n:Int)) (m:M.getD n aw.aa=d) (p:t.2.1=1):
 lh k ((c,ti,O,st,Z,U,gr,A,nn,T,n_,V,E,M),(i:Int),())=
  some ((qj true k (c,ti,O,st,Z,U,gr,A,nn,T,n_,V,E,M) i).2,()):=by
 have hsum:=gG Q hs;have q:=dw (e:=ak) (d:=ak.aa) b;rw[f]at q;have hdl:=ay (e:=aw) (l:=M);have hta:=bw Q t;have htA:=bo Q t.2.2.1;have g:=o;unfold bf at g;simp only[lh,aIR,f,g,aN,fu];rw[an (aA b),pI Q b f (by omega) s,cy,ia Q (by omega) (by omega),cy,Gq Q (by omega),Pc];unfold qj;simp only[f,o,m,s,aIR,p,rl];rw[a_ (show¬(1:Int)=0 by decide)];cases hb:(!(bL k st t.2.2.1.1).2&&decide (c.2.1<=(bq st:Int)))with
 |true=>
  rw[an rfl,an rfl,an (aA u),fj Q b h (by rw[f];exact o) (by simp[af]),cy,m];rfl
 |false=>
  have hpt:=CP Q (l:=st) (a:=t.2.2.1);rw[a_ aJm,a_ aJm,sP Q (by omega) (by omega),cy,an (aA h)];cases hf:(cZ k st t.2.2.1).2 with
  |true=>
   rw[an rfl];dsimp only;rw[ia Q (by omega) (by omega),cy,an (aA b),aI7,an (aA b)];simp only[aJd,aT _ _ b,aT _ _ h,aIR,f,m,r];rfl
  |false=>
   rw[a_ aJm];dsimp only;rw[ia Q (by omega) (by omega),cy,an (aA b),aI7,an (aA b)];simp only[aJd,aT _ _ b,aT _ _ h,aIR,f,m,r];rfl
set_option maxHeartbeats 4000000 in
theorem Cm{i n j:Nat}{t:aF}{d:aC}(hs:af az (c,ti,O,st,Z,U,gr,A,nn,T,n_,V,E,M)<=1048576)(f:i<E.length)(a:E.getD i ak.aa=t)(p:t.1=1)
 (h:j<st.length) (g:bz k st t.2.2.1.1=(j:Int)) (u:n<M.length) (m:bf t=(n:Int)) (o:M.getD n aw.aa=d) (q:t.2.1=0\/t.2.1=1\/t.2.1=2)
 (v:t.2.1=2->cW d≠-1):
 lV k ((c,ti,O,st,Z,U,gr,A,nn,T,n_,V,E,M),(i:Int),())=
  some ((fy true k (c,ti,O,st,Z,U,gr,A,nn,T,n_,V,E,M) i).1,(fy true k (c,ti,O,st,Z,U,gr,A,nn,T,n_,V,E,M) i).2,()):=by
 have hsum:=gG Q hs;have r:=dw (e:=ak) (d:=ak.aa) f;rw[a]at r;have hdl:=ay (e:=aw) (l:=M);have hfl:=ay (e:=ab) (l:=U);have hsl:=ay (e:=ab) (l:=V);have htl:=ay (e:=ak) (l:=E);have hta:=bw Q t;have htA:=bo Q t.2.2.1;simp only[lV,aIR,a,p,aN,fu,cj,fq];rw[an (aA f)];unfold fy;rcases q with b|b|b;rw[b,an (by decide),pI Q f a (by omega) g,cy];dsimp only;rw[an (aA h),an (aA h),an (aA f)];unfold qj dZ bH;simp only[a,m,o,g,aIR,b,p];split<;>simp_all[tick,bT];rw[b,a_ (by decide),an (by decide),BY Q hs f a p h g u m o b,cy]
 have w:(qj true k (c,ti,O,st,Z,U,gr,A,nn,T,n_,V,E,M) i).1=true:=by
  unfold qj;simp only[a,b];rw[a_ (by decide)];simp only[if_true];split<;>rfl
 unfold bH;rw[w];rfl;rw[b,a_ (by decide),a_ (by decide)];have s:bE k (t.2.2.1,())=some (t.2.2.1,()):=dh Q (by omega);simp only[qB,aIR,a,s,cy]
 rw[an (aA f),pI Q f a (by omega) g,cy,an (c_ (by simp only[aIU];omega)),an (c_ (by simp only[aIU];omega)),
  FH Q (by omega) (by omega),cy,N1 Q (by omega),cy]
 dsimp only;rw[an (aA h),fj (n:=n) Q f (by rw[aI6,aIU];omega) (by rw[a];exact m) (by simp[af]),cy,cy,sD _ _ u,o];unfold ot qj;simp only[a,m,o,g,aIR,b];rw[a_ (v b)];rfl
end
end Vg.Tryz
