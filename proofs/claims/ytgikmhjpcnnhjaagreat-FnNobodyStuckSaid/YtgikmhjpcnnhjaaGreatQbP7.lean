/- Texts of this law, joined. -/
import Derived.Test.YtgikmhjpcnnhjaaGreatQbJ
import Derived.Test.YtgikmhjpcnnhjaaGreatXd
set_option linter.unusedSimpArgs false
set_option linter.unusedVariables false
set_option linter.unusedSectionVars false
set_option linter.defProp false
open Option renaming bind_some -> ab,bind -> ayd
open Int renaming toNat_natCast -> ej,toNat -> ax0
open Bool renaming false_eq_true -> en,eq_false_or_eq_true -> I_,and_eq_true -> H',or_true -> D_,not_false -> Q_,not_true -> axK,eq_iff_iff -> axL,true_and -> axN,true_or -> axX,false_and -> ax4,and_true -> ax9,decide_and -> ayb,and_false -> aye,and_self -> ayf
open Nat renaming lt_irrefl -> o_,le_trans -> po,le_refl -> axV,xor_lt_two_pow -> ax5,add_sub_cancel -> ax8,eq_zero_or_pos -> ayl
open List renaming length_singleton -> U_,take_length -> VG,getD_eq_getElem?_getD -> axI,nil_append -> axM,take_succ_eq_append_getElem -> axO,length_append -> axP,length -> axQ,replicate -> axR,length_take -> axS,getElem?_eq_getElem -> axT,length_reverse -> axU,length_filter_le -> axW,length_nil -> axY,length_set -> axZ,takeWhile_append_dropWhile -> ax1,map_append -> ax2,takeWhile_cons -> ax3,map_singleton -> ax6,filter_append -> ax7,length_cons -> aya,takeWhile_sublist -> ayc,getD_cons_succ -> ayi,getElem?_take -> ayj,take -> ayk,append_assoc -> aym,filter_cons -> ayn,foldl_cons -> ayo,takeWhile -> ayp,getD -> ayq
open Prod.mk renaming injEq -> ayg
open Array renaming toList_append -> ayh
namespace Vg.Tryz
open Go Vg
def Fm(n:Int):IntKind.u32.wrap n=n%4294967296:=by
 simp[IntKind.wrap,IntKind.signed,IntKind.bits]
def Yz{a b:Nat}(c:a<4294967296)(d:b<4294967296):bits (fun _=>(·^^^·)) .i64 (a:Int) (b:Int)=((a^^^b:Nat):Int):=by
 have hx:a^^^b<2^32:=ax5 (by simpa using c) (by simpa using d);change IntKind.i64.wrap (((BitVec.ofInt 64 (a:Int)^^^BitVec.ofInt 64 (b:Int)).toNat:Nat):Int)=_;rw[BitVec.toNat_xor,BitVec.toNat_ofInt,BitVec.toNat_ofInt];have e:((a:Int)%((2^64:Nat):Int)).toNat=a:=by omega
 have f:((b:Int)%((2^64:Nat):Int)).toNat=b:=by omega
 rw[e,f,wrap64 (by omega) (by omega)]
def Yl{a b:Nat}(c:a<4294967296)(d:b<4294967296):bits (fun _=>(·^^^·)) .u32 (a:Int) (b:Int)=((a^^^b:Nat):Int):=by
 have hx:a^^^b<2^32:=ax5 (by simpa using c) (by simpa using d);change IntKind.u32.wrap (((BitVec.ofInt 32 (a:Int)^^^BitVec.ofInt 32 (b:Int)).toNat:Nat):Int)=_;rw[BitVec.toNat_xor,BitVec.toNat_ofInt,BitVec.toNat_ofInt];have e:((a:Int)%((2^32:Nat):Int)).toNat=a:=by omega
 have f:((b:Int)%((2^32:Nat):Int)).toNat=b:=by omega
 rw[e,f,Fm];omega
def Zc{a:Nat}(ha:a<9223372036854775808):bits (fun _=>(· &&& ·)) .i64 (a:Int) (4294967295:Int)=((a%4294967296:Nat):Int):=by
 change IntKind.i64.wrap (((BitVec.ofInt 64 (a:Int) &&& BitVec.ofInt 64 (4294967295:Int)).toNat:Nat):Int)=_;rw[BitVec.toNat_and,BitVec.toNat_ofInt,BitVec.toNat_ofInt];have b:((a:Int)%((2^64:Nat):Int)).toNat=a:=by omega
 have c:((4294967295:Int)%((2^64:Nat):Int)).toNat=2^32-1:=by decide
 rw[b,c,Nat.and_two_pow_sub_one_eq_mod,wrap64 (by omega) (by omega)]
def YW(s:ByteArray)(i:Int):∃b:Nat,bt s i=(b:Int)/\b<256:=by
 unfold bt;exact⟨_,rfl,(s.data.toList.getD i.toNat 0).toNat_lt⟩
def JH{n:Nat}(a:n<4294967296)(s:ByteArray)(i:Int):∃m:Nat,m<4294967296/\
 bits (fun _=>(· &&& ·)) .i64 (IntKind.i64.wrap ((bits (fun _=>(·^^^·)) .i64 (n:Int) (IntKind.i64.wrap (bt s i)))*(16777619:Int))) (4294967295:Int)=(m:Int)/\
 IntKind.u32.wrap ((bits (fun _=>(·^^^·)) .u32 (n:Int) (IntKind.u32.wrap (bt s i)))*(16777619:Int))=(m:Int):=by
 obtain⟨b,d,hlt⟩:=YW s i;have c:n^^^b<2^32:=ax5 (by simpa using a) (by omega);rw[d,wrap64 (n:=(b:Int)) (by omega) (by omega),Fm (b:Int),show((b:Int)%4294967296)=(b:Int) by omega,Yz a (by omega),Yl a (by omega)];generalize n^^^b=x at c;rw[wrap64 (by omega) (by omega),show((x:Int)*16777619)=((x*16777619:Nat):Int) by omega,Zc (by omega),Fm];exact⟨x*16777619%4294967296,by omega,rfl,by omega⟩
section
variable{k:Nat}(hk:9223372036854775808<=k)
include hk
theorem V6{s:ByteArray}(hs:s.size<=4294967296):∃n:Int,jR k (s,())=some (n,())/\nJ k (s,())=some (n,()):=by
 have h:∃r:Int×Unit,jR k (s,())=some r/\∃n:Nat,r.1=(n:Int)/\n<4294967296:=by
  simp only[jR];refine ON (fun(t:ByteArray×Int×Int×Unit)=>s.size-t.2.2.1.toNat) (fun(t:ByteArray×Int×Int×Unit)=>t.1=s/\(∃n:Nat,t.2.1=(n:Int)/\n<4294967296)/\0<=t.2.2.1/\t.2.2.1<=(s.size:Int)) _ ?_ k _ ⟨rfl,⟨2166136261,rfl,by omega⟩,by simp,by simp⟩ (by simp only;omega);rintro G ⟨s',n,i,u⟩ ⟨e1,⟨m,e2,hm⟩,hi0,hi1⟩ hG;change s'=s at e1;change n=_ at e2;subst e1 e2;simp only at hi0 hi1 hG|-;by_cases d:i<(s'.size:Int);rw[an (by simpa using d),an (by simpa using⟨hi0,d⟩)];obtain⟨e,c,q1,_⟩:=JH hm s' i;rw[q1,wrap64 (by omega) (by omega)];exact hG (s',_,i+1,()) ⟨rfl,⟨e,rfl,c⟩,by simp only;omega,by simp only;omega⟩ (by simp only;omega);rw[a_ (by simpa using d)];exact⟨_,rfl,m,rfl,hm⟩
 have j:jR k (s,())=nJ k (s,()):=by
  simp only[jR,nJ,aN];refine UI (fun(t f:ByteArray×Int×Int×Unit)=>t=f/\∃n:Nat,t.2.1=(n:Int)/\n<4294967296) (fun a b=>a=b) rfl ?_ k _ _ ⟨rfl,2166136261,rfl,by omega⟩;rintro G G' ⟨s1,n,i,u⟩ f ⟨rfl,m,e2,hm⟩ hG;change n=_ at e2;subst e2;simp only;obtain⟨e,c,q1,q2⟩:=JH hm s1 i;split;split;rw[q1,q2];exact hG _ _ ⟨rfl,e,rfl,c⟩;rfl;rw[wrap64 (by omega) (by omega)]
 obtain⟨⟨n,u⟩,g,_⟩:=h;exact⟨n,g,j▸g⟩
def NL(x:ag):ByteArray:=((x.1++(⟨#[61,34]⟩:ByteArray))++x.2)++(⟨#[34]⟩:ByteArray)
def tx(l:List ag):Nat->ByteArray
 |0=>⟨#[123]⟩
 |i+1=>((((if i=0 then tx l i else tx l i++(⟨#[44,32]⟩:ByteArray))++(l.getD i ak.aa).1)++(⟨#[61,34]⟩:ByteArray))++(l.getD i ak.aa).2)++(⟨#[34]⟩:ByteArray)
theorem E8{l:List ag}(h:cZ l=true):∀i,i<=l.length->(tx l i).size<=1+25*i:=by
 simp only[cZ,H',bM]at h;intro i
 induction i with
 |zero=>intro _;simp[tx,ByteArray.size]
 |succ i b=>
  intro hi;have:=b (by omega);have a:=h.2 i (by omega) (by omega);simp only[eA,eP,iE,H',b_]at a;simp only[tx,ByteArray.size_append];have e1:(⟨#[61,34]⟩:ByteArray).size=2:=rfl;have e2:(⟨#[34]⟩:ByteArray).size=1:=rfl;have e3:(⟨#[44,32]⟩:ByteArray).size=2:=rfl;split;omega;rw[ByteArray.size_append];omega
def Dn{l:List ag}(hs:ai (.sl ak) l<=1048576):lU k (l,())=some (if cZ l=true then tx l l.length++(⟨#[125]⟩:ByteArray)else⟨#[]⟩,()):=by
 have hl:=az (e:=ak) (l:=l);simp only[lU,aN];rw[pB hk hs,ab];cases b:cZ l with
 |false=>simp
 |true=>
  have g:=E8 hk b;have a:=b;simp only[cZ,H',bM,b_]at a;rw[a_ (by simp),an rfl];rw[show((l,(⟨#[123]⟩:ByteArray),(0:Int),()):List ag×ByteArray×Int×Unit)=(fun i:Nat=>(l,tx l i,(i:Int),())) 0 from rfl];have h:(⟨#[61,34]⟩:ByteArray).size=2:=rfl;have j:(⟨#[34]⟩:ByteArray).size=1:=rfl;have m:(⟨#[44,32]⟩:ByteArray).size=2:=rfl;have o:(⟨#[125]⟩:ByteArray).size=1:=rfl;refine bX (fun i:Nat=>(l,tx l i,(i:Int),())) l.length ?_ ?_ k 0 (by omega) (by omega);intro G i d;have f:=g i (by omega);have c:=a.2 i (by omega) d;simp only[eA,eP,iE,H',b_]at c;simp only[ej];rw[aK,c_ d,an rfl];by_cases n:i=0;subst n;have p:(tx l 0).size=1:=rfl;rw[a_ (by simp)];simp only[aC d,if_true,ByteArray.size_append,h,j,p];rw[an (by simp only[b_];omega),an (by simp only[b_];omega),an (by simp only[b_];omega),an (by simp only[b_];omega),aX (by omega)];rfl;have h0n:0<i:=by omega
  rw[an (by simp;omega),an (by simp only[m,b_];omega)];simp only[aC d,if_true,ByteArray.size_append,h,j,m];rw[an (by simp only[b_];omega),an (by simp only[b_];omega),an (by simp only[b_];omega),an (by simp only[b_];omega),aX (by omega)];simp only[tx,a_ n];intro G;have f:=g l.length (by omega);simp only;rw[aK,decide_eq_false (by omega),a_ (by simp),an (by simp only[o,b_];omega)]
def pl(l:List ag)(i:Nat):List ByteArray:=(List.range i).map (fun j=>NL (l.getD j ak.aa))
theorem Md(l:List ag)(i:Nat):pl l (i+1)=pl l i++[NL (l.getD i ak.aa)]:=by
 simp[pl,List.range_succ]
theorem OV(xs:List (List UInt8))(y sep:List UInt8):Lib.join (xs++[y]) sep=if xs=[]then y else Lib.join xs sep++sep++y:=by
 cases xs with
 |nil=>simp[Lib.join_one]
 |cons x r=>
  rw[a_ (by simp),List.cons_append,Lib.join_cons,Lib.join_cons];simp[Lib.joinTail,aym]
def Mt(l:List ag):∀i,(tx l i).data.toList=123::xq (pl l i) ⟨#[44,32]⟩:=by
 intro i
 induction i with
 |zero=>rfl
 |succ i c=>
  unfold xq at c|-;rw[Md hk,ax2,ax6,OV hk];simp only[tx,NL];by_cases a:i=0;subst a;simp[pl,tx,ByteArray.data_append]
  have b:List.map (fun x=>x.data.toList) (pl l i)≠ []:=by
   intro e;have:=congrArg axQ e;simp[pl]at this;exact a this
  rw[a_ a,a_ b];simp only[ByteArray.data_append,ayh,c];simp[aym]
theorem Pq{a b:ByteArray}(h:a.data.toList=b.data.toList):a=b:=by
 cases a;cases b;simp at h;rw[h]
def Dq{l:List ag}(hs:ai (.sl ak) l<=1048576):lV k (l,())=some (if cZ l=true then tx l l.length++(⟨#[125]⟩:ByteArray)else⟨#[]⟩,()):=by
 have hl:=az (e:=ak) (l:=l);simp only[lV,aN];rw[mG hk hs,ab];cases c:cZ l with
 |false=>simp
 |true=>
  have hb:=E8 hk c l.length (by omega);have a:=c;simp only[cZ,H',bM,b_]at a;rw[a_ (by simp),an rfl];rw[show((([]:List ByteArray),l,(l.length:Int),(0:Int),()):List ByteArray×List ag×Int×Int×Unit)=(fun i:Nat=>(pl l i,l,(l.length:Int),(i:Int),())) 0 from rfl];have g:(⟨#[61,34]⟩:ByteArray).size=2:=rfl;have h:(⟨#[34]⟩:ByteArray).size=1:=rfl;refine bX (fun i:Nat=>(pl l i,l,(l.length:Int),(i:Int),())) l.length ?_ ?_ k 0 (by omega) (by omega);intro G i f;have d:=a.2 i (by omega) f;simp only[eA,eP,iE,H',b_]at d;have b:(pl l i).length=i:=by simp[pl]
  simp only[ej];rw[aK,c_ f,an rfl,an (aC f)];simp only[ByteArray.size_append,g,h];rw[an (by simp only[b_];omega),an (by simp only[b_];omega),an (by simp only[b_];omega),an (by simp only[b_,U_,b];omega),aX (by omega),Md hk];rfl;intro G;simp only;rw[aK,decide_eq_false (by omega),a_ (by simp)]
  have hj:(xq (pl l l.length) ⟨#[44,32]⟩).length<=1+25*l.length:=by
   have:=Mt hk l l.length;have j:=congrArg axQ this;simp only[Array.length_toList,aya]at j;have h3:(tx l l.length).data.size=(tx l l.length).size:=rfl;omega
  have b:(pl l l.length).length=l.length:=by simp[pl]
  simp only[oD,M4];rw[an ⟨by rw[b];omega,by omega⟩,ab];simp only[ByteArray.size_append];have m:(⟨(xq (pl l l.length) ⟨#[44,32]⟩).toArray⟩:ByteArray).size=(xq (pl l l.length) ⟨#[44,32]⟩).length:=by simp[ByteArray.size]
  have n:(⟨#[123]⟩:ByteArray).size=1:=rfl;have o:(⟨#[125]⟩:ByteArray).size=1:=rfl;rw[m,n,o,an (by simp only[b_];omega),an (by simp only[b_];omega)];congr 2;refine Pq hk ?_;simp only[ByteArray.data_append,ayh];rw[Mt hk];simp
def Gw{l:List ag}(hs:ai (.sl ak) l<=1048576):∃n:Int,fj k (l,())=some (n,())/\eu k (l,())=some (n,()):=by
 simp only[fj,eu];rw[Dn hk hs,Dq hk hs];simp only[ab]
 have b:(if cZ l=true then tx l l.length++(⟨#[125]⟩:ByteArray)else⟨#[]⟩).size<=4294967296:=by
  split;rename_i a;have hb:=E8 hk a l.length (by omega)
  have hl:l.length<=4:=by
   simp only[cZ,H',b_]at a;exact a.1
  have e4:(⟨#[125]⟩:ByteArray).size=1:=rfl;rw[ByteArray.size_append];omega;simp[ByteArray.size]
 obtain⟨n,q1,q2⟩:=V6 hk b;rw[q1,q2];simp only[ab];rw[an (by simp),an (by simp)];exact⟨_,rfl,rfl⟩
theorem OQ(f n:Int):fZ k (f,n,())=kq k (f,n,()):=rfl
def cR{a:af}(h:ai ae a<=1073741824):br k (a,())=some (a,()):=by
 have h1:=bj hk a;have h2:=az (e:=ak) (l:=a.1);simp only[br];rw[an (by simp;omega)];simp
theorem xt{l:List ag}(h:l.length<=1073741824):il k (l,())=some (l,()):=by
 simp only[il];rw[an (by simp;omega)];simp
def gY{a:af}(h:ai ae a<=1073741824):ck k (a,())=some (a,()):=by
 have h1:=bj hk a;have h2:=az (e:=ak) (l:=a.1);simp only[ck];rw[xt hk (by omega),ab]
def ff{l:List af}(h:ai (.sl ae) l<=1073741824):bK k (l,())=some (l,()):=
 Bt (d:=ae.aa) (S:=br k) hk (po (az (e:=ae)) h) (fun e a=>cR hk (po (cx (e:=ae) a) h))
def jK{l:List af}(h:ai (.sl ae) l<=1073741824):dD k (l,())=some (l,()):=
 SY (d:=ae.aa) (S:=ck k) hk (po (az (e:=ae)) h) (fun e a=>gY hk (po (cx (e:=ae) a) h))
def vw{g:aw}(h:ai al g<=1073741824):fA k (g,())=some (g,()):=by
 have h1:=eK hk g;have h2:=az (e:=ak) (l:=g.2.1);simp only[fA];rw[an (by simp;omega),ff hk (by omega),ab];simp
def Q5{g:aw}(h:ai al g<=1073741824):sY k (g,())=some (g,()):=by
 have h1:=eK hk g;have h2:=az (e:=ak) (l:=g.2.1);simp only[sY];rw[xt hk (by omega),ab,jK hk (by omega),ab]
def zO{b:bq}(h1:ai (.sl ak) b.2.1<=1073741824)(h3:ai (.sl ae) b.2.2.2<=1073741824):fT k (b,())=some (b,()):=by
 have h2:=az (e:=ak) (l:=b.2.1);simp only[fT];rw[an (by simp;omega),ff hk (by omega),ab];simp
def CN{c:aY}(h:ai db c<=1073741824):jD k (c,())=some (c,()):=by
 have h1:=ng hk c;have h2:=az (e:= .str) (l:=c.2.2.2.2.2);simp only[jD];rw[an (by simp;omega)];simp
def aeH{c:aY}(h:ai db c<=1073741824):IM k (c,())=some (c,()):=by
 have h1:=ng hk c;have h2:=az (e:= .str) (l:=c.2.2.2.2.2);simp only[IM];rw[an (by simp;omega)];simp
def dh(U:Int)(l:List af):List af:=l.filter fun a=> !decide (a.2.2.1<=U)
omit hk in
theorem vj{U:Int}{l:List af}{i:Nat}(h:i<l.length):dh U (l.take (i+1))=if(!decide ((l.getD i ae.aa).2.2.1<=U))=true then dh U (l.take i)++[l.getD i ae.aa]else dh U (l.take i):=by
 rw[lv ae.aa h,dh,dh,ax7,filter_one];split<;>simp
omit hk in
theorem xw{U:Int}{l:List af}:(dh U l).length<=l.length:=axW ..
omit hk in
theorem Nt{U:Int}{l:List af}:ai (.sl ae) (dh U l)<=ai (.sl ae) l:=xD (e:=ae) _ l
def abp{l:List af}{U:Int}(h:ai (.sl ae) l<=1073741824):Nk k (l,U,())=some (dh U l,()):=by
 have hl:=az (e:=ae) (l:=l);simp only[Nk];refine bX (fun i=>(U,dh U (l.take i),l,(l.length:Int),(i:Int),())) l.length (fun G i a=> ?_) (fun G=> ?_) k 0 (by omega) (by omega);have hm:=cx (e:=ae) (cC (d:=ae.aa) a);have b:=xw (U:=U) (l:=l.take i);rw[axS]at b;simp only[aK,aC a,a,decide_true,if_true,ej,Lw,ab];rw[gY hk (by omega),vj a,aX (by omega)];simp only[ab];split;rw[an (by simp;omega)];rfl;simp
def fR(g:aw)(U:Int):aw:=(g.1,g.2.1,g.2.2.1,U,dh U g.2.2.2.2)
def qs(g:aw)(U:Int):bq:=(g.1,g.2.1,U,g.2.2.2.2)
def HH{g:aw}{U:Int}(h:ai al g<=1073741824):nG k (g,U,())=some (fR g U,qs g U,()):=by
 have h1:=eK hk g;have hl:=az (e:=ae) (l:=g.2.2.2.2);simp only[nG,aN];rw[vw hk h,ab];refine bX (fun i=>(U,g,_,_,(g.1,g.2.1,g.2.2.1,U,dh U (g.2.2.2.2.take i)),(i:Int),())) g.2.2.2.2.length (fun G i a=> ?_) (fun G=> ?_) k 0 (by omega) (by omega);have hm:=cx (e:=ae) (cC (d:=ae.aa) a);have b:=xw (U:=U) (l:=g.2.2.2.2.take i);rw[axS]at b;simp only[aK,aC a,a,decide_true,if_true,ej,mn,ab];rw[cR hk (by omega),vj a,aX (by omega)];simp only[ab];split;rw[an (by simp;omega)];rfl;simp only[aK,o_,decide_false,en,if_false,VG];rw[zO hk (by simp only;omega) (by simp only;omega),ab];rfl
def abo{g:aw}{U:Int}(h:ai al g<=1073741824):My k (g,U,())=some (fR g U,qs g U,()):=by
 have h1:=eK hk g;have hl:=az (e:=ak) (l:=g.2.1);simp only[My];rw[Q5 hk h,ab,abp hk (by omega),ab,xt hk (by omega),ab,jK hk (by omega),ab];rfl
def NO{g:aw}{U:Int}:ai al (fR g U)<=ai al g:=by
 rw[eK hk,eK hk];have:=Nt (U:=U) (l:=g.2.2.2.2);simp only[fR];omega
def M3{g:aw}{U:Int}:ai cw (qs g U)=ai al g:=by
 rw[eK hk,pK hk];rfl
end
def cn(k:Nat)(l:List ag):Int:=match fj k (l,())with|some r=>r.1|none=>0
def dP(f n:Int):Int:=if n<1 then 0 else if f<0 then 0 else Int.tmod f n
def eU(l:List af)(s:List ag):Option Nat:=fv l.length (fun i=>decide ((l.getD i ae.aa).1=s))
def xK(l:List af):Bool:=bA 0 l.length (fun i=>bA 0 i (fun j=> !decide ((l.getD j ae.aa).1=(l.getD i ae.aa).1)))
def dL(k:Nat)(c:aP):Bool:=bA 0 c.2.length (fun i=>bh (c.2.getD i ae.aa)&&decide (cn k (c.2.getD i ae.aa).1=c.1))&&(decide (0<c.2.length)&&xK c.2)
def yO(l:List aP)(i:Nat):Bool:=i==0||decide ((l.getD (i-1) ax.aa).1<(l.getD i ax.aa).1)
def gl(k:Nat)(p:au)(i n:Int):Bool:=
 bA 0 p.2.2.length (fun j=>dL k (p.2.2.getD j ax.aa)&&(decide (dP (p.2.2.getD j ax.aa).1 n=i)&&yO p.2.2 j))&&(aZ p.1 (-1) 4&&decide (0<=p.2.1))
def dp(k:Nat)(l:List au):Bool:=bA 0 l.length (fun i=>gl k (l.getD i aj.aa) i l.length)&&aZ l.length 1 3
def dq{e:Ty}{l:List e.den}{i:Nat}{d:e.den}(hi:i<l.length):ai e (l.getD i d)+l.length<=ai (.sl e) l:=by
 have h:=Vb (f:=ai e) (cC (d:=d) hi);simp only[ai];omega
section
variable{k:Nat}(hk:9223372036854775808<=k)
include hk
def oz{l:List ag}(hs:ai (.sl ak) l<=1048576):fj k (l,())=some (cn k l,()):=by
 obtain⟨n,a,h2⟩:=Gw hk hs;unfold cn;rw[a]
def gG{l:List ag}(hs:ai (.sl ak) l<=1048576):eu k (l,())=some (cn k l,()):=by
 obtain⟨n,a,b⟩:=Gw hk hs;unfold cn;rw[a,b]
theorem uf{f n:Int}:kq k (f,n,())=some (dP f n,()):=by
 simp only[kq,dP];by_cases a:n<1;simp[a];by_cases b:f<0;simp[a,b];have c:n≠0:=by omega
 simp[a,b,c]
def kX{f n:Int}:fZ k (f,n,())=some (dP f n,()):=by
 rw[OQ hk,uf hk]
omit hk in
theorem xB{f n:Int}(h:1<=n):0<=dP f n/\dP f n<n:=by
 unfold dP;rw[a_ (by omega)];split;omega;exact⟨Int.tmod_nonneg _ (by omega),Int.tmod_lt_of_pos _ (by omega)⟩
def xu{l:List af}{s:List ag}(hs:ai (.sl ae) l<=1048576):ei k (l,s,())=some (dB (eU l s),()):=by
 have hl:=az (e:=ae) (l:=l);simp only[ei];refine(fY (fun i:Nat=>(s,l,(l.length:Int),(i:Int),())) (fun i=>decide ((l.getD i ae.aa).1=s)) l.length (e:=some (-1,())) (fun i=>some ((i:Int),())) (fun G i a=> ?_) (fun G=> ?_) k (by omega)).trans ?_;obtain⟨h1,b⟩:=jO hk hs a;simp only[aK,aC a,a,decide_true,if_true,ej,dV hk b,ab];rw[aX (by omega)];simp;unfold eU;cases fv l.length (fun i=>decide ((l.getD i ae.aa).1=s))<;>rfl
def nW{c:aP}{s:List ag}(hs:ai (.sl ae) c.2<=1048576):fC k (c,s,())=some (dB (eU c.2 s),()):=by
 have hl:=az (e:=ae) (l:=c.2);simp only[fC];refine(fY (fun i:Nat=>(s,c,(i:Int),())) (fun i=>decide ((c.2.getD i ae.aa).1=s)) c.2.length (e:=some (-1,())) (fun i=>some ((i:Int),())) (fun G i a=> ?_) (fun G=> ?_) k (by omega)).trans ?_;obtain⟨h1,b⟩:=jO hk hs a;simp only[aK,aC a,a,decide_true,if_true,ej,nT hk b,ab];rw[aX (by omega)];simp;unfold eU;cases fv c.2.length (fun i=>decide ((c.2.getD i ae.aa).1=s))<;>rfl
def vD{c:aP}{s:List ag}(hs:ai (.sl ae) c.2<=1048576):jC k (c,s,())=some (dB (eU c.2 s),()):=by
 simp only[jC];rw[xu hk hs,ab]
omit hk in
theorem NC{l:List af}{i:Nat}(hi:i<l.length):(eU (l.take i) (l.getD i ae.aa).1=none)↔bA 0 i (fun j=> !decide ((l.getD j ae.aa).1=(l.getD i ae.aa).1))=true:=by
 unfold eU;rw[gB,bM];have c:(l.take i).length=i:=by simp;omega
 rw[c]
 have b:∀j,j<i->(l.take i).getD j ae.aa=l.getD j ae.aa:=by
  intro j a;simp[axI,ayj,a]
 constructor;intro h j _ a;have:=h j a;rw[b j a]at this;simp only[this,Q_];intro h j a;have:=h j (by omega) a;rw[b j a];simpa using this
def EO{l:List af}(hs:ai (.sl ae) l<=1048576):iJ k (l,())=some (xK l,()):=by
 have hl:=az (e:=ae) (l:=l);simp only[iJ];refine(dt (fun i:Nat=>(l,l,(l.length:Int),(i:Int),())) (fun i=>bA 0 i (fun j=> !decide ((l.getD j ae.aa).1=(l.getD i ae.aa).1))) l.length (e:=some (true,())) (no:=some (false,())) ?_ ?_ k 0 (by omega)).trans ?_;intro G i a;have ht:=cB (e:=ae) l i;simp only[aK,aC a,a,decide_true,if_true,ej];rw[an (by simp;omega),xu hk (by omega),ab,aX (by omega)];have key:=NC a;cases b:bA 0 i (fun j=> !decide ((l.getD j ae.aa).1=(l.getD i ae.aa).1))with
 |true=>
  rw[key.2 b];rfl
 |false=>
  cases c:eU (l.take i) (l.getD i ae.aa).1 with
  |none=>rw[key.1 c]at b;cases b
  |some j=>rw[an (by simp[dB]),a_ (by simp)]
 intro G i a;simp only[aK];rw[a_ (by simp;omega)];unfold xK;split<;>simp_all
def rM{c:aP}(hs:ai ax c<=1048576):lI k (c,())=some (dL k c,()):=by
 rw[df hk]at hs;have hl:=az (e:=ae) (l:=c.2);simp only[lI,aN]
 refine(dt (fun i:Nat=>(c,c.2,(c.2.length:Int),(i:Int),())) (fun i=>bh (c.2.getD i ae.aa)&&decide (cn k (c.2.getD i ae.aa).1=c.1)) c.2.length
  (e:=some (decide (0<c.2.length)&&xK c.2,())) (no:=some (false,())) ?_ ?_ k 0 (by omega)).trans ?_
 intro G i a;obtain⟨g,h2⟩:=jO hk hs a;have h3:=bj hk (c.2.getD i ae.aa);simp only[aK,aC a,a,decide_true,if_true,ej,iS hk g,gG hk (l:=(c.2.getD i ae.aa).1) (by omega),ab,cD];rw[aX (by omega)];generalize bh (c.2.getD i ae.aa)=b1;generalize cn k (c.2.getD i ae.aa).1=f;cases b1<;>by_cases b:f=c.1<;>simp[b];intro G i a;simp only[aK];rw[a_ (by simp;omega),EO hk hs];by_cases d:0<c.2.length<;>simp[d];unfold dL;cases bA 0 c.2.length (fun i=>bh (c.2.getD i ae.aa)&&decide (cn k (c.2.getD i ae.aa).1=c.1))<;>simp
end
def II{j:Nat}(h:j<4611686018427387904):IntKind.i64.wrap (((j+1:Nat):Int)-1)=(j:Int):=by
 rw[wrap64 (by omega) (by omega)];omega
def Ln(j:Nat):decide ((((j+1:Nat):Int))>0)=true:=by simp
def Q6:decide ((((0:Nat):Int))>0)=false:=by simp
def bw(a b:aF):Bool:=decide (a.1<b.1)||(decide (a.1=b.1)&&decide (a.2<b.2))
def lj(l:List aF):Bool:=
 bA 0 l.length (fun i=>(decide (0<=(l.getD i aE.aa).1)&&decide (0<=(l.getD i aE.aa).2))&&(i==0|| !bw (l.getD i aE.aa) (l.getD ((i-1)/2) aE.aa)))&&decide (l.length<=16)
abbrev jv(c:aP):List af:=c.2
def aS(p:au):List af:=p.2.2.flatMap jv
def bO(l:List au):List af:=l.flatMap aS
def bu(l:List au):Nat:=(bO l).length
def eY(p:au)(f:Int):Option Nat:=fv p.2.2.length (fun i=>decide ((p.2.2.getD i ax.aa).1=f))
def bU:af:=([],0,0,ByteArray.empty)
def eR(k:Nat)(p:au)(s:List ag):af×Bool:=
 match eY p (cn k s)with
 |none=>(bU,false)
 |some i=>match eU (p.2.2.getD i ax.aa).2 s with
  |none=>(bU,false)
  |some j=>((p.2.2.getD i ax.aa).2.getD j ae.aa,true)
def bg(k:Nat)(l:List au)(s:List ag):Int:=dP (cn k s) l.length
def bD(k:Nat)(l:List au)(s:List ag):af×Bool:=if l.length=0 then(bU,false)else eR k (l.getD (bg k l s).toNat aj.aa) s
def ik(c:aY)(g:aw):Int:=IntKind.i64.wrap (if g.2.2.2.1= -1 then g.2.2.1+c.2.2.2.1 else g.2.2.2.1+c.2.2.2.2.1)
def dK{α β:Type}{f:α->List β}{l:List α}{i:Nat}(d:α)(h:i<l.length):(l.take (i+1)).flatMap f=(l.take i).flatMap f++f (l.getD i d):=by
 rw[lv d h,List.flatMap_append];simp
section
variable{k:Nat}(hk:9223372036854775808<=k)
include hk
theorem jS{e f:Ty}{g:e.den->List f.den}(h:∀x,ai (.sl f) (g x)<=ai e x):∀l:List e.den,ai (.sl f) (l.flatMap g)<=ai (.sl e) l
 | []=>by simp[ai]
 |x::l=>by
  have h1:=h x;have h2:=jS h l;rw[List.flatMap_cons,gZ,bW];omega
def kF(p:au):ai (.sl ae) (aS p)<=ai aj p:=by
 rw[dj hk];exact jS hk (e:=ax) (f:=ae) (g:=jv) (fun c=>by rw[df hk];exact axV _) p.2.2
def gA(l:List au):ai (.sl ae) (bO l)<=ai (.sl aj) l:=jS hk (e:=aj) (f:=ae) (g:=aS) (kF hk) l
def ga{p:au}{i:Nat}(hs:ai aj p<=1048576)(hi:i<p.2.2.length):ai ax (p.2.2.getD i ax.aa)<=1048576/\ai (.sl ae) (p.2.2.getD i ax.aa).2<=1048576:=by
 rw[dj hk]at hs;have h1:=dq (e:=ax) (d:=ax.aa) hi;have h2:=df hk (p.2.2.getD i ax.aa);omega
def Fs{p:au}{i n:Int}(hs:ai aj p<=1048576):mL k (p,i,n,())=some (gl k p i n,()):=by
 have hl:p.2.2.length<=1048576:=by rw[dj hk]at hs;have:=az (e:=ax) (l:=p.2.2);omega
 simp only[mL,aN]
 refine(dt (fun j:Nat=>(i,n,p,p.2.2,(p.2.2.length:Int),(j:Int),())) (fun j=>dL k (p.2.2.getD j ax.aa)&&(decide (dP (p.2.2.getD j ax.aa).1 n=i)&&yO p.2.2 j)) p.2.2.length
  (e:=some (aZ p.1 (-1) 4&&decide (0<=p.2.1),())) (no:=some (false,())) ?_ ?_ k 0 (by omega)).trans ?_
 intro G j a;obtain⟨g,_⟩:=ga hk hs a;cases j with
 |zero=>
  simp only[aK,aC a,a,Q6,decide_true,if_true,ej,rM hk g,kX hk,ab,cD,beq_self_eq_true,en,if_false,yO,axX,ax9];rw[aX (by omega)];generalize dL k (p.2.2.getD 0 ax.aa)=b1;generalize dP (p.2.2.getD 0 ax.aa).1 n=f;cases b1<;>by_cases c:f=i<;>simp[c]
 |succ m=>
  have h:m<p.2.2.length:=by omega
  simp only[aK,aC a,aC h,a,Ln,II (show m<4611686018427387904 by omega),decide_true,if_true,ej,rM hk g,kX hk,ab,cD,beq_self_eq_true,yO,D_,ax8];rw[aX (by omega)];generalize dL k (p.2.2.getD (m+1) ax.aa)=b1;generalize dP (p.2.2.getD (m+1) ax.aa).1 n=f;generalize (p.2.2.getD m ax.aa).1=u;generalize (p.2.2.getD (m+1) ax.aa).1=v;have o:((m+1:Nat)==0)=false:=rfl;rw[o];cases b1<;>by_cases c:f=i<;>by_cases d:u<v<;>simp[c,d]<;>omega
 intro G j a;simp only[aK];rw[a_ (by simp;omega),fw hk,ab];generalize aZ p.1 (-1) 4=b;cases b<;>simp;unfold gl;cases bA 0 p.2.2.length (fun j=>dL k (p.2.2.getD j ax.aa)&&(decide (dP (p.2.2.getD j ax.aa).1 n=i)&&yO p.2.2 j))<;>simp
theorem kh{l:List au}{i:Nat}(hs:ai (.sl aj) l<=1048576)(hi:i<l.length):ai aj (l.getD i aj.aa)<=1048576:=by
 have h1:=dq (e:=aj) (d:=aj.aa) hi;omega
def Dt{l:List au}(hs:ai (.sl aj) l<=1048576):lD k (l,())=some (dp k l,()):=by
 have hl:=az (e:=aj) (l:=l);simp only[lD];rw[fw hk,ab];unfold dp;cases hin:aZ l.length 1 3 with
 |false=>simp
 |true=>
  rw[a_ (by simp)];refine(dt (fun i:Nat=>(l,l,(l.length:Int),(i:Int),())) (fun i=>gl k (l.getD i aj.aa) i l.length) l.length (e:=some (true,())) (no:=some (false,())) ?_ ?_ k 0 (by omega)).trans ?_;intro G i a;simp only[aK,aC a,a,decide_true,if_true,ej,Fs hk (kh hk hs a),ab];rw[aX (by omega)];cases gl k (l.getD i aj.aa) i l.length<;>simp;intro G i a;simp only[aK];rw[a_ (by simp;omega)];cases bA 0 l.length (fun i=>gl k (l.getD i aj.aa) i l.length)<;>simp
def qI{p:au}(hs:ai aj p<=1048576):iM k (p,())=some (aS p,()):=by
 have hl:p.2.2.length<=1048576:=by rw[dj hk]at hs;have:=az (e:=ax) (l:=p.2.2);omega
 simp only[iM];refine bX (fun i:Nat=>(p,(p.2.2.take i).flatMap jv,(i:Int),())) p.2.2.length (fun G i a=> ?_) (fun G=> ?_) k 0 (by omega) (by omega);obtain⟨h1,h2⟩:=ga hk hs a;have hb:=jS hk (e:=ax) (f:=ae) (g:=jv) (fun c=>by rw[df hk];exact axV _) (p.2.2.take i);have hb2:=cB (e:=ax) p.2.2 i;have hb3:=az (e:=ae) (l:=(p.2.2.take i).flatMap jv);have hb4:=az (e:=ae) (l:=(p.2.2.getD i ax.aa).2);rw[dj hk]at hs;simp only[aK,aC a,a,decide_true,if_true,ej];rw[ff hk (by omega),ab,an (by simp only[b_];omega),aX (by omega),dK ax.aa a];simp[aS]
def px{p:au}(hs:ai aj p<=1048576):ic k (p,())=some (aS p,()):=by
 have hl:p.2.2.length<=1048576:=by rw[dj hk]at hs;have:=az (e:=ax) (l:=p.2.2);omega
 simp only[ic];refine bX (fun i:Nat=>(p,(p.2.2.take i).flatMap jv,p.2.2,(p.2.2.length:Int),(i:Int),())) p.2.2.length (fun G i a=> ?_) (fun G=> ?_) k 0 (by omega) (by omega);obtain⟨h1,h2⟩:=ga hk hs a;have hb:=jS hk (e:=ax) (f:=ae) (g:=jv) (fun c=>by rw[df hk];exact axV _) (p.2.2.take i);have hb2:=cB (e:=ax) p.2.2 i;have hb3:=az (e:=ae) (l:=(p.2.2.take i).flatMap jv);have hb4:=az (e:=ae) (l:=(p.2.2.getD i ax.aa).2);rw[dj hk]at hs;simp only[aK,aC a,a,decide_true,if_true,ej];rw[jK hk (by omega),ab,an (by simp only[b_];omega),aX (by omega),dK ax.aa a];simp[aS]
end
theorem Gu{α:Type}(lt:α->α->Bool)(x:α):∀r:List α,dv lt x r=r.takeWhile (lt x)++x::r.dropWhile (lt x)
 | []=>rfl
 |y::r=>by
  simp only[dv,ax3,List.dropWhile_cons];split;rw[Gu lt x r];rfl;rfl
theorem yM{α:Type}(p:α->Bool)(d:α):∀(r:List α) (m:Nat),m<(r.takeWhile p).length->p (r.getD m d)=true
 | [],m,h=>by simp at h
 |y::r,m,h=>by
  rw[ax3]at h;split at h;cases m with
  |zero=>simpa
  |succ m=>rw[ayi];exact yM p d r m (by simpa using h)
  simp at h
theorem wD{α:Type}(p:α->Bool)(d:α):∀(r:List α),(r.takeWhile p).length<r.length->p (r.getD (r.takeWhile p).length d)=false
 | [],h=>by simp at h
 |y::r,h=>by
  rw[ax3]at h|-;split;rename_i a;rw[an a]at h;simp only[aya,ayi];exact wD p d r (by simpa using h);simpa using ‹¬p y=true›
def I5{α:Type}(d:α)(l:List α)(m:Nat)(h:m<l.length):l.reverse.getD m d=l.getD (l.length-1-m) d:=by
 rw[axI,List.getElem?_reverse h,<-axI]
def fm{α:Type}(lt:α->α->Bool)(x:α)(out:List α):Nat:=(out.reverse.takeWhile (lt x)).length
def QG{α:Type}(lt:α->α->Bool)(x:α)(r:List α):(dv lt x r).reverse=r.reverse.take (r.reverse.length-fm lt x r.reverse)++[x]++r.reverse.drop (r.reverse.length-fm lt x r.reverse):=by
 have hc:(r.takeWhile (lt x)).length<=r.length:=(ayc _).length_le;have a:fm lt x r.reverse=(r.takeWhile (lt x)).length:=by unfold fm;rw[List.reverse_reverse]
 have b:r.reverse.length=r.length:=axU ..;rw[Gu,a,b,List.take_reverse,List.drop_reverse];have c:r.length-(r.length-(r.takeWhile (lt x)).length)=(r.takeWhile (lt x)).length:=by omega
 rw[c]
 have d:r.drop (r.takeWhile (lt x)).length=r.dropWhile (lt x):=by
  conv=>lhs;arg 2;rw[<-ax1 (p:=lt x) (l:=r)]
  rw[List.drop_left]
 have e:r.take (r.takeWhile (lt x)).length=r.takeWhile (lt x):=by
  conv=>lhs;arg 2;rw[<-ax1 (p:=lt x) (l:=r)]
  rw[List.take_left]
 rw[d,e];simp
def oS{α:Type}(lt:α->α->Bool)(l:List α):List α:=l.foldl (fun r x=>dv lt x r) []
theorem DD{α:Type}(lt:α->α->Bool)(x:α):∀r:List α,(dv lt x r).length=r.length+1
 | []=>rfl
 |y::r=>by simp only[dv];split<;>simp[DD lt x r]
def Nw{α:Type}(lt:α->α->Bool){l:List α}{i:Nat}(d:α)(h:i<l.length):oS lt (l.take (i+1))=dv lt (l.getD i d) (oS lt (l.take i)):=by
 unfold oS;rw[lv d h,List.foldl_append];rfl
def Gj{α:Type}(lt:α->α->Bool)(l:List α):(oS lt l).length=l.length:=by
 have:∀(l r:List α),(l.foldl (fun r x=>dv lt x r) r).length=l.length+r.length:=by
  intro l
  induction l with
  |nil=>intro r;simp
  |cons x l a=>intro r;rw[ayo,a,DD,aya];omega
 simpa[oS]using this l []
theorem BR{e:Ty}(lt:e.den->e.den->Bool)(x:e.den):∀r:List e.den,ai (.sl e) (dv lt x r)=1+ai e x+ai (.sl e) r
 | []=>by simp only[dv];rw[bW]
 |y::r=>by
  simp only[dv];split;rw[bW,bW,BR lt x r];omega;rw[bW,bW]
def OB{e:Ty}(lt:e.den->e.den->Bool)(l:List e.den):ai (.sl e) (oS lt l)=ai (.sl e) l:=by
 have:∀(l r:List e.den),ai (.sl e) (l.foldl (fun r x=>dv lt x r) r)=ai (.sl e) l+ai (.sl e) r:=by
  intro l
  induction l with
  |nil=>intro r;simp[ai]
  |cons x l a=>intro r;rw[ayo,a,BR,bW];omega
 have h:=this l [];rw[bd]at h;exact h
def TC{e:Ty}(l:List e.den):ai (.sl e) l.reverse=ai (.sl e) l:=by
 simp only[ai,axU,List.map_reverse,List.sum_reverse]
def M9{e:Ty}(lt:e.den->e.den->Bool)(l:List e.den):ai (.sl e) (eW lt l)=ai (.sl e) l:=by
 show ai (.sl e) (oS lt l).reverse=_;rw[TC,OB]
def rH(l:List af):ai (.sl ae) (dC l)=ai (.sl ae) l:=M9 (e:=ae) cV l
section
variable{k:Nat}(hk:9223372036854775808<=k)
include hk
def GB{l:List af}(hs:ai (.sl ae) l<=1048576):iC k (l,())=some (dC l,()):=by
 have hl:=az (e:=ae) (l:=l);simp only[iC];refine bX (fun i:Nat=>(l,(oS cV (l.take i)).reverse,(i:Int),())) l.length (fun G i f=> ?_) (fun G=> ?_) k 0 (by omega) (by omega);obtain⟨h1,n⟩:=jO hk hs f;simp only[aK,aC f,f,decide_true,if_true,ej];rw[cR hk (by omega),ab,Nw cV ae.aa f,QG];generalize hx:l.getD i ae.aa=x at*
 have hol:(oS cV (l.take i)).reverse.length=i:=by rw[axU,Gj];simp;omega
 generalize hout:(oS cV (l.take i)).reverse=out at*
 have c:fm cV x out<=out.length:=by
  unfold fm;have:=(ayc (cV x) (l:=out.reverse)).length_le;simpa using this
 simp only[aN];refine bX (fun m:Nat=>(l,out,(i:Int),x,((out.length-m:Nat):Int),())) (fm cV x out) (fun p m r=> ?_) (fun p=> ?_) k 0 (by omega) (by omega)
 have d:cV x (out.getD (out.length-1-m) ae.aa)=true:=by
  have:=yM (cV x) ae.aa out.reverse m r;rwa [I5 _ _ _ (by omega)]at this
 obtain⟨q,o⟩:∃q,out.length-m=q+1:=⟨out.length-m-1,by omega⟩
 have g:out.length-(m+1)=q:=by omega
 have h:out.length-1-m=q:=by omega
 rw[h]at d;simp only[o,Ln,II (show q<4611686018427387904 by omega),aC (show q<out.length by omega),D_,if_true,beq_self_eq_true,ej,mK hk n,nD hk n,ab,g];rw[an d]
 have a:(if decide (((out.length-fm cV x out:Nat):Int)>0)=true then cV x (out.getD (out.length-fm cV x out-1) ae.aa)else false)=false:=by
  by_cases j:fm cV x out=out.length;rw[j,Nat.sub_self];rfl;rw[an (by simp;omega)];have:=wD (cV x) ae.aa out.reverse (by rw[axU];unfold fm at j c;omega);rw[I5 _ _ _ (by unfold fm at j c;omega)]at this;unfold fm;rw[show out.length-(ayp (cV x) out.reverse).length-1=out.length-1-(ayp (cV x) out.reverse).length by omega];exact this
 have fin:(if(decide (0<=(((out.length-fm cV x out:Nat):Int))/\(((out.length-fm cV x out:Nat):Int))<=((axQ out:Nat):Int)))=true then
  if(decide (axQ ([]:List af)+axQ (ayk (ax0 ((out.length-fm cV x out:Nat):Int)) out)<4294967296))=true then
   if(decide (axQ (([]:List af)++(ayk (ax0 ((out.length-fm cV x out:Nat):Int)) out))+axQ ([x]:List af)<4294967296))=true then
    if(decide (0<=(((out.length-fm cV x out:Nat):Int))/\(((out.length-fm cV x out:Nat):Int))<=((axQ out:Nat):Int)))=true then
     if(decide (axQ ((([]:List af)++(ayk (ax0 ((out.length-fm cV x out:Nat):Int)) out))++([x]:List af))+axQ (List.drop (ax0 ((out.length-fm cV x out:Nat):Int)) out)<4294967296))=true then
      G (l,((([]:List af)++(ayk (ax0 ((out.length-fm cV x out:Nat):Int)) out))++([x]:List af))++(List.drop (ax0 ((out.length-fm cV x out:Nat):Int)) out),IntKind.i64.wrap ((i:Int)+(1:Int)),())
     else none
    else none
   else none
  else none
  else none)=G (l,out.take (out.length-fm cV x out)++[x]++out.drop (out.length-fm cV x out),((i+1:Nat):Int),()):=by
  rw[an (by simp only[b_];omega),an (by simp only[b_,axY,axS];omega),an (by simp only[b_,axP,axY,axS,U_];omega),an (by simp only[b_];omega),an (by simp only[b_,axP,axY,axS,U_,List.length_drop];omega),aX (by omega),ej,axM]
 by_cases s:out.length-fm cV x out=0;rw[s]at fin|-;simp only[Q6,en,if_false,beq_self_eq_true,en,Q_,axX,if_true,ab];have t:(!((false:Bool)==true)||decide (0<=IntKind.i64.wrap (((0:Nat):Int)-1)/\IntKind.i64.wrap (((0:Nat):Int)-1)<((out.length:Nat):Int)))=true:=rfl;rw[an t];exact fin;obtain⟨q,o⟩:∃q,out.length-fm cV x out=q+1:=⟨out.length-fm cV x out-1,by omega⟩
 rw[o]at a fin|-;rw[Ln,an rfl,ax8]at a;simp only[Ln,II (show q<4611686018427387904 by omega),aC (show q<out.length by omega),D_,if_true,beq_self_eq_true,ej,nD hk n,ab];have b:bp x.1 (out.getD q ae.aa).1=false:=a;rw[a_ (by rw[b];simp)];exact fin;simp only[aK,o_,decide_false,en,if_false,VG];rfl
end
def tR{β:Type}{c:Bool}{a b:β}(h:c=false):(if c=true then a else b)=b:=by rw[h];rfl
def Rx{a b:Nat}(h:a+b<4611686018427387904):IntKind.i64.wrap ((a:Int)+(b:Int))=((a+b:Nat):Int):=by
 rw[wrap64 (by omega) (by omega)];omega
def FH(u:Int):decide (0<=u)= !decide (u<0):=by by_cases h:u<0<;>simp[h]<;>omega
def Cs{q:Nat}(h:q<4611686018427387904):IntKind.i64.wrap (Int.tdiv (IntKind.i64.wrap (((q+1:Nat):Int)-1)) 2)=((q/2:Nat):Int):=by
 rw[II h,Int.tdiv_eq_ediv_of_nonneg (by omega),wrap64 (by omega) (by omega)];omega
section
variable{k:Nat}(hk:9223372036854775808<=k)
include hk
def zn{l:List au}(hs:ai (.sl aj) l<=1048576):cF k (l,())=some (dC (bO l),()):=by
 have hl:=az (e:=aj) (l:=l);simp only[cF,aN];refine bX (fun i:Nat=>(l,(l.take i).flatMap aS,(i:Int),())) l.length (fun G i a=> ?_) (fun G=> ?_) k 0 (by omega) (by omega);have c:=kh hk hs a;have b:=gA hk (l.take i);unfold bO at b;have hb1:=kF hk (l.getD i aj.aa);have hb2:=cB (e:=aj) l i;have hb3:=az (e:=ae) (l:=(l.take i).flatMap aS);have hb4:=az (e:=ae) (l:=aS (l.getD i aj.aa));simp only[aK,aC a,a,decide_true,if_true,ej];rw[qI hk c,ab,an (by simp only[b_];omega),aX (by omega),dK aj.aa a];have b:=gA hk l;simp only[aK,o_,decide_false,en,if_false,VG];show ayd (iC k (bO l,())) _=_;rw[GB hk (by omega)];rfl
def zi{l:List au}(hs:ai (.sl aj) l<=1048576)(c:bu l<20):jT k (l,())=some (dC (bO l),()):=by
 have hl:=az (e:=aj) (l:=l);simp only[jT,aN];refine bX (fun i:Nat=>((l.take i).flatMap aS,l,(l.length:Int),(i:Int),())) l.length (fun G i b=> ?_) (fun G=> ?_) k 0 (by omega) (by omega);have d:=kh hk hs b;have f:=gA hk (l.take i);unfold bO at f;have hb1:=kF hk (l.getD i aj.aa);have hb2:=cB (e:=aj) l i;have hb3:=az (e:=ae) (l:=(l.take i).flatMap aS);have hb4:=az (e:=ae) (l:=aS (l.getD i aj.aa));simp only[aK,aC b,b,decide_true,if_true,ej];rw[px hk d,ab,an (by simp only[b_];omega),aX (by omega),dK aj.aa b];simp only[aK,o_,decide_false,en,if_false,VG];show ayd (iR k (bO l,())) _=_;simp only[iR,Rh,ID];rw[an ?_];rfl;simp only[H',b_,List.all_eq_true];refine⟨by first|exact c|exact Nat.lt_trans c (by decide),fun a g=> ?_⟩;have f:=gA hk l;have hm:=cx (e:=ae) g;have d:=bj hk a;have h2:=az (e:=ak) (l:=a.1);omega
def OO{l:List au}(hs:ai (.sl aj) l<=1048576):bu l<=1048576:=by
 have h1:=gA hk l;have h2:=az (e:=ae) (l:=bO l);unfold bu;omega
def C6{l:List au}(hs:ai (.sl aj) l<=1048576):l0 k (l,())=some ((bu l:Int),()):=by
 have hl:=az (e:=aj) (l:=l);simp only[l0];refine bX (fun i:Nat=>(l,((((l.take i).flatMap aS).length:Nat):Int),(i:Int),())) l.length (fun G i a=> ?_) (fun G=> ?_) k 0 (by omega) (by omega);have d:=kh hk hs a;have m:=gA hk (l.take i);unfold bO at m;have hb2:=cB (e:=aj) l i;have hb3:=az (e:=ae) (l:=(l.take i).flatMap aS);rw[dK aj.aa a,axP];simp only[aK,a,decide_true,if_true];have n:=d;rw[dj hk]at n;have hpl:=az (e:=ax) (l:=(l.getD i aj.aa).2.2);refine bX (fun j:Nat=>(l,((((l.take i).flatMap aS).length+(((l.getD i aj.aa).2.2.take j).flatMap jv).length:Nat):Int),(i:Int),(j:Int),())) (l.getD i aj.aa).2.2.length (fun h j b=> ?_) (fun h=> ?_) k 0 (by omega) (by omega);have hc:=jS hk (e:=ax) (f:=ae) (g:=jv) (fun c=>by rw[df hk];exact axV _) ((l.getD i aj.aa).2.2.take j);have hc1:=cB (e:=ax) (l.getD i aj.aa).2.2 j;have hc2:=az (e:=ae) (l:=((l.getD i aj.aa).2.2.take j).flatMap jv);obtain⟨h3,h4⟩:=ga hk d b;have hc3:=az (e:=ae) (l:=((l.getD i aj.aa).2.2.getD j ax.aa).2);simp only[aC a,aC b,aK,b,decide_true,if_true,ej];rw[Rx (by omega),aX (by omega),dK ax.aa b,axP,Nat.add_assoc];simp only[aC a,aK,o_,decide_false,en,if_false,if_true,ej,VG];rw[aX (by omega)];rfl;simp only[aK,o_,decide_false,en,if_false,VG];rfl
def vr{l:List au}(hs:ai (.sl aj) l<=1048576):j9 k (l,())=some ((bu l:Int),()):=by
 have hl:=az (e:=aj) (l:=l);simp only[j9];refine bX (fun i:Nat=>(((((l.take i).flatMap aS).length:Nat):Int),l,(l.length:Int),(i:Int),())) l.length (fun G i a=> ?_) (fun G=> ?_) k 0 (by omega) (by omega);have d:=kh hk hs a;have m:=gA hk (l.take i);unfold bO at m;have hb2:=cB (e:=aj) l i;have hb3:=az (e:=ae) (l:=(l.take i).flatMap aS);rw[dK aj.aa a,axP];simp only[aK,aC a,a,decide_true,if_true,ej];have n:=d;rw[dj hk]at n;have hpl:=az (e:=ax) (l:=(l.getD i aj.aa).2.2);refine bX (fun j:Nat=>(((((l.take i).flatMap aS).length+(((l.getD i aj.aa).2.2.take j).flatMap jv).length:Nat):Int),l.getD i aj.aa,l,(l.length:Int),(i:Int),(l.getD i aj.aa).2.2,((l.getD i aj.aa).2.2.length:Int),(j:Int),())) (l.getD i aj.aa).2.2.length (fun h j b=> ?_) (fun h=> ?_) k 0 (by omega) (by omega);have hc:=jS hk (e:=ax) (f:=ae) (g:=jv) (fun c=>by rw[df hk];exact axV _) ((l.getD i aj.aa).2.2.take j);have hc1:=cB (e:=ax) (l.getD i aj.aa).2.2 j;have hc2:=az (e:=ae) (l:=((l.getD i aj.aa).2.2.take j).flatMap jv);obtain⟨h3,h4⟩:=ga hk d b;have hc3:=az (e:=ae) (l:=((l.getD i aj.aa).2.2.getD j ax.aa).2);simp only[aC b,aK,b,decide_true,if_true,ej];rw[Rx (by omega),aX (by omega),dK ax.aa b,axP,Nat.add_assoc];simp only[aK,o_,decide_false,en,if_false,VG];rw[aX (by omega)];rfl;simp only[aK,o_,decide_false,en,if_false,VG];rfl
theorem np{p:au}{f:Int}(hl:p.2.2.length<=1048576):iY k (p,f,())=some (dB (eY p f),()):=by
 simp only[iY];refine(fY (fun i:Nat=>(f,p,(i:Int),())) (fun i=>decide ((p.2.2.getD i ax.aa).1=f)) p.2.2.length (e:=some (-1,())) (fun i=>some ((i:Int),())) (fun G i a=> ?_) (fun G=> ?_) k (by omega)).trans ?_;simp only[aK,aC a,a,decide_true,if_true,ej,cE];rw[aX (by omega)];simp;unfold eY;cases fv p.2.2.length (fun i=>decide ((p.2.2.getD i ax.aa).1=f))<;>rfl
theorem vU{p:au}{f:Int}(hl:p.2.2.length<=1048576):jy k (p,f,())=some (dB (eY p f),()):=by
 simp only[jy];refine(fY (fun i:Nat=>(f,p,p.2.2,(p.2.2.length:Int),(i:Int),())) (fun i=>decide ((p.2.2.getD i ax.aa).1=f)) p.2.2.length (e:=some (-1,())) (fun i=>some ((i:Int),())) (fun G i a=> ?_) (fun G=> ?_) k (by omega)).trans ?_;simp only[aK,aC a,a,decide_true,if_true,ej,cE];rw[aX (by omega)];simp;unfold eY;cases fv p.2.2.length (fun i=>decide ((p.2.2.getD i ax.aa).1=f))<;>rfl
omit hk in
theorem sI(i:Nat):decide (dB (some i)<0)=false:=decide_eq_false (by simp only[dB];omega)
omit hk in
theorem qj{i n:Nat}(h:i<n):decide (0<=dB (some i)/\dB (some i)<(n:Int))=true:=by simp only[dB];exact aC h
omit hk in
theorem vz(i:Nat):(dB (some i)).toNat=i:=by simp[dB]
def EP{p:au}{s:List ag}(hs:ai aj p<=1048576)(f:ai (.sl ak) s<=1048576):mC k (p,s,())=some ((eR k p s).1,(eR k p s).2,()):=by
 have a:p.2.2.length<=1048576:=by rw[dj hk]at hs;have:=az (e:=ax) (l:=p.2.2);omega
 simp only[mC,oz hk f,np hk a,ab,eR];cases hc:eY p (cn k s)with
 |none=>rfl
 |some i=>
  obtain⟨b,_,_⟩:=aR.1 hc;obtain⟨h1,h⟩:=ga hk hs b;refine(tR (sI i)).trans ?_;refine(an (qj b)).trans ?_;rw[vz,nW hk h,ab];dsimp only;cases g:eU (p.2.2.getD i ax.aa).2 s with
  |none=>rfl
  |some j=>
   obtain⟨c,_,_⟩:=aR.1 g;have h3:=dq (e:=ae) (d:=ae.aa) c;refine(tR (sI j)).trans ?_;refine(an (qj b)).trans ?_;refine(an (qj c)).trans ?_;rw[vz,cR hk (by omega)];rfl
def Eg{p:au}{s:List ag}(hs:ai aj p<=1048576)(f:ai (.sl ak) s<=1048576):mA k (p,s,())=some ((eR k p s).1,(eR k p s).2,()):=by
 have a:p.2.2.length<=1048576:=by rw[dj hk]at hs;have:=az (e:=ax) (l:=p.2.2);omega
 simp only[mA,gG hk f,vU hk a,ab,eR];cases hc:eY p (cn k s)with
 |none=>rfl
 |some i=>
  obtain⟨b,_,_⟩:=aR.1 hc;obtain⟨h1,h⟩:=ga hk hs b;refine(tR (sI i)).trans ?_;refine(an (qj b)).trans ?_;rw[vz,vD hk h,ab];dsimp only;cases g:eU (p.2.2.getD i ax.aa).2 s with
  |none=>rfl
  |some j=>
   obtain⟨c,_,_⟩:=aR.1 g;have h3:=dq (e:=ae) (d:=ae.aa) c;refine(tR (sI j)).trans ?_;refine(an (qj b)).trans ?_;refine(an (qj c)).trans ?_;rw[vz,gY hk (by omega)];rfl
def lK{l:List au}{s:List ag}(a:ai (.sl ak) s<=1048576):gg k (l,s,())=some (bg k l s,()):=by
 simp only[gg,oz hk a,uf hk,ab,bg]
def Ah{l:List au}{s:List ag}(a:ai (.sl ak) s<=1048576):mb k (l,s,())=some (bg k l s,()):=by
 simp only[mb,gG hk a,kX hk,ab,bg]
omit hk in
theorem kV{l:List au}{s:List ag}(h:l.length≠0):0<=bg k l s/\bg k l s<(l.length:Int)/\(bg k l s).toNat<l.length:=by
 have:=xB (f:=cn k s) (n:=(l.length:Int)) (by omega);unfold bg;omega
def jk{l:List au}{s:List ag}(hs:ai (.sl aj) l<=1048576)(e:ai (.sl ak) s<=1048576):fE k (l,s,())=some ((bD k l s).1,(bD k l s).2,()):=by
 simp only[fE,lK hk e,ab,bD];by_cases d:l.length=0;rw[an (by simpa using d),an d];rfl;obtain⟨a,b,c⟩:=kV (k:=k) (l:=l) (s:=s) d;rw[a_ (by simpa using d),an (by simpa using⟨a,b⟩),EP hk (kh hk hs c) e,ab,a_ d]
def oq{l:List au}{s:List ag}(hs:ai (.sl aj) l<=1048576)(e:ai (.sl ak) s<=1048576):gO k (l,s,())=some ((bD k l s).1,(bD k l s).2,()):=by
 simp only[gO,Ah hk e,ab,bD];by_cases d:l.length=0;rw[an (by simpa using d),an d];rfl;obtain⟨a,b,c⟩:=kV (k:=k) (l:=l) (s:=s) d;rw[a_ (by simpa using d),an (by simpa using⟨a,b⟩),Eg hk (kh hk hs c) e,ab,a_ d]
theorem uj(a b:aF):ko k (a,b,())=some (bw a b,()):=by
 simp only[ko,bw,cE];by_cases c:a.1<b.1<;>by_cases d:a.1=b.1<;>simp[c,d]
theorem jo(a b:aF):iB k (a,b,())=some (bw a b,()):=by
 simp only[iB,bw,cE];by_cases c:a.1<b.1<;>by_cases d:a.1=b.1<;>simp[c,d]
def Ga{l:List aF}(hl:l.length<=1048576):mu k (l,())=some (lj l,()):=by
 simp only[mu,aN]
 refine(dt (fun i:Nat=>(l,l,(l.length:Int),(i:Int),())) (fun i=>(decide (0<=(l.getD i aE.aa).1)&&decide (0<=(l.getD i aE.aa).2))&&(i==0|| !bw (l.getD i aE.aa) (l.getD ((i-1)/2) aE.aa))) l.length
  (e:=some (decide (l.length<=16),())) (no:=some (false,())) ?_ ?_ k 0 (by omega)).trans ?_
 intro G i a;cases i with
 |zero=>
  simp only[aK,aC a,a,Q6,decide_true,if_true,ej,uj hk,ab,cD];rw[aX (by omega)];simp only[FH]
  rcases I_ (decide ((l.getD 0 aE.aa).1<0))with h1|h1<;>rcases I_ (decide ((l.getD 0 aE.aa).2<0))with h2|h2<;>
   simp only[h1,h2,if_true,en,if_false,beq_self_eq_true,aye,ax9,axN,ax4,Q_,axK,axX,D_,tbf,fbt,Bool.or_self,ayf]
 |succ q=>
  have c:q/2<l.length:=by omega
  simp only[aK,aC a,aC c,a,Ln,Cs (show q<4611686018427387904 by omega),decide_true,if_true,ej,uj hk,ab,cD,D_,ne_eq,ax8];rw[aX (by omega)];have d:((q+1:Nat)==0)=false:=rfl;rw[d];have f:decide (¬(2:Int)=0)=true:=rfl;rw[f];simp only[FH]
  rcases I_ (decide ((l.getD (q+1) aE.aa).1<0))with h1|h1<;>rcases I_ (decide ((l.getD (q+1) aE.aa).2<0))with h2|h2<;>
   rcases I_ (bw (l.getD (q+1) aE.aa) (l.getD (q/2) aE.aa))with h3|h3<;>
   simp only[h1,h2,h3,if_true,en,if_false,beq_self_eq_true,aye,ax9,axN,ax4,Q_,axK,axX,D_,Bool.or_false,Bool.false_or,tbf,fbt,Bool.or_self,ayf]
 intro G i a;simp only[aK];rw[a_ (by simp;omega)];congr 2;rw[axL];simp;omega;unfold lj;generalize bA 0 l.length _=b;cases b<;>simp
theorem DY{c:aY}{g:aw}:oo k (c,g,())=some (ik c g,()):=by
 simp only[oo,oB,ik,cE];by_cases h:g.2.2.2.1= -1<;>simp[h]
theorem Lh{c:aY}{g:aw}:p9 k (c,g,())=some (ik c g,()):=by
 simp only[p9,oK,ik,cE];by_cases h:g.2.2.2.1= -1<;>simp[h]
end
def dW(l:List aw)(n:Int):Option Nat:=fv l.length (fun i=>decide ((l.getD i al.aa).1=n))
def OT:bq:=(0,[],0,[])
def dm(l:List aw)(n U:Int):List aw:=
 match dW l n with
 |none=>l
 |some i=>if(fR (l.getD i al.aa) U).2.2.2.2=[]then l.take i++l.drop (i+1)else l.set i (fR (l.getD i al.aa) U)
def gj(l:List aw)(n U:Int):bq:=
 match dW l n with
 |none=>OT
 |some i=>qs (l.getD i al.aa) U
def kf(l:List aw)(n:Int):Bool:=(dW l n).isSome
def abv{α:Type}(l:List α)(i:Nat)(x:α):(l.set i x).take i++(l.set i x).drop (i+1)=l.take i++l.drop (i+1):=by
 rw[List.take_set_of_le (axV _),List.drop_set_of_lt (by omega)]
section
variable{k:Nat}(hk:9223372036854775808<=k)
include hk
def ns{l:List aw}(h:ai (.sl al) l<=1073741824):fF k (l,())=some (l,()):=
 Bt (d:=al.aa) (S:=fA k) hk (po (az (e:=al)) h) (fun e a=>vw hk (po (cx (e:=al) a) h))
def PC{l:List aw}(h:ai (.sl al) l<=1073741824):y5 k (l,())=some (l,()):=
 SY (d:=al.aa) (S:=sY k) hk (po (az (e:=al)) h) (fun e a=>Q5 hk (po (cx (e:=al) a) h))
theorem R4{l:List aw}{n:Int}(h:l.length<=1073741824):Ew k (l,n,())=some (dB (dW l n),()):=by
 simp only[Ew];refine(fY (fun i:Nat=>(n,l,(l.length:Int),(i:Int),())) (fun i=>decide ((l.getD i al.aa).1=n)) l.length (e:=some (-1,())) (fun i=>some ((i:Int),())) (fun G i a=> ?_) (fun G=> ?_) k (by omega)).trans ?_;simp only[aK,aC a,a,decide_true,if_true,ej];rw[aX (by omega)];by_cases b:(l.getD i al.aa).1=n<;>simp[b];simp;unfold dW;cases fv l.length (fun i=>decide ((l.getD i al.aa).1=n))<;>rfl
theorem nQ{l:List aw}{n:Int}(h:l.length<=1073741824):gE k (l,n,())=some (dB (dW l n),()):=by
 simp only[gE];refine(fY (fun i:Nat=>(l,n,(i:Int),())) (fun i=>decide ((l.getD i al.aa).1=n)) l.length (e:=some (-1,())) (fun i=>some ((i:Int),())) (fun G i a=> ?_) (fun G=> ?_) k (by omega)).trans ?_;simp only[aK,aC a,a,decide_true,if_true,ej];rw[aX (by omega)];by_cases b:(l.getD i al.aa).1=n<;>simp[b];simp;unfold dW;cases fv l.length (fun i=>decide ((l.getD i al.aa).1=n))<;>rfl
def Y8{l:List aw}{n U:Int}(h:ai (.sl al) l<=1073741824):Kv k (l,n,U,())=some (dm l n U,gj l n U,kf l n,()):=by
 have hl:=az (e:=al) (l:=l);simp only[Kv];rw[PC hk h,ab,R4 hk (by omega),ab];unfold dm gj kf;cases b:dW l n with
 |none=>rfl
 |some i=>
  obtain⟨f,_,_⟩:=aR.1 b;have ht:=cx (e:=al) (cC (d:=al.aa) f);dsimp only;refine(abB (decide_eq_false (by simp only[dB];omega))).trans ?_;refine(an (by simp[dB];omega)).trans ?_;have c:(dB (some i)).toNat=i:=by simp[dB]
  rw[c];rw[abo hk (by omega),ab];refine(an (by simp[dB];omega)).trans ?_;by_cases a:(fR (l.getD i al.aa) U).2.2.2.2=[]
  rw[an (by rw[a];rfl)];refine(an (by simp[dB];omega)).trans ?_;rw[abv,an a];rfl;rw[a_ (by simpa using a),a_ a];rfl
def B6{l:List aw}{n U:Int}(h:ai (.sl al) l<=1073741824):lC k (l,n,U,())=some (dm l n U,gj l n U,kf l n,()):=by
 have hl:=az (e:=al) (l:=l);simp only[lC];rw[ns hk h,ab,nQ hk (by omega),ab];unfold dm gj kf;cases b:dW l n with
 |none=>rfl
 |some i=>
  obtain⟨g,_,_⟩:=aR.1 b;have ht:=cx (e:=al) (cC (d:=al.aa) g);have h1:=cB (e:=al) l i;have h2:=cB (e:=al) l (i+1);dsimp only;refine(abB (decide_eq_false (by simp only[dB];omega))).trans ?_;refine(an (by simp[dB];omega)).trans ?_;have c:(dB (some i)).toNat=i:=by simp[dB]
  have f:IntKind.i64.wrap (dB (some i)+1)=((i+1:Nat):Int):=aX (by omega);rw[c];rw[HH hk (by omega),ab];refine(an (by simp[dB];omega)).trans ?_;by_cases a:(fR (l.getD i al.aa) U).2.2.2.2=[]
  rw[an (by rw[a];rfl),an a];refine(an (by simp[dB];omega)).trans ?_;rw[ns hk (by omega),ab,f];refine(an (by simp;omega)).trans ?_;rw[ej,ns hk (by omega),ab,an (by simp;omega)];rfl;rw[a_ (by simpa using a),a_ a];rfl
def KC{l:List aw}{n U:Int}:ai (.sl al) (dm l n U)<=ai (.sl al) l:=by
 unfold dm;cases b:dW l n with
 |none=>exact axV _
 |some i=>
  obtain⟨d,_,_⟩:=aR.1 b;simp only;split;have c:=cB (e:=al) l i;have a:=cB (e:=al) (l.drop i) 1;rw[List.drop_drop]at a;rw[gZ];omega;have c:=mf (e:=al) l i (fR (l.getD i al.aa) U) d;have a:=NO hk (g:=l.getD i al.aa) (U:=U);omega
def Iv{l:List aw}{n U:Int}:ai cw (gj l n U)<=ai (.sl al) l:=by
 unfold gj;cases a:dW l n with
 |none=>simp[OT,ai]
 |some i=>
  obtain⟨b,_,_⟩:=aR.1 a;have ht:=cx (e:=al) (cC (d:=al.aa) b);have h2:=M3 hk (g:=l.getD i al.aa) (U:=U);simp only;omega
def GA{c:aP}(h:ai ax c<=1073741824):kj k (c,())=some (c,()):=by
 have h1:=df hk c;simp only[kj];rw[ff hk (by omega),ab]
def U4{c:aP}(h:ai ax c<=1073741824):Bm k (c,())=some (c,()):=by
 have h1:=df hk c;simp only[Bm];rw[jK hk (by omega),ab]
def Gv{p:au}(h:ai aj p<=1073741824):iF k (p,())=some (p,()):=by
 have h1:=dj hk p;have hl:=az (e:=ax) (l:=p.2.2);simp only[iF];refine bX (fun i=>(p,(0,(0,([]:List aP))),(p.1,p.2.1,p.2.2.take i),(i:Int),())) p.2.2.length (fun G i a=> ?_) (fun G=> ?_) k 0 (by omega) (by omega);have hm:=cx (e:=ax) (cC (d:=ax.aa) a);simp only[aK,aC a,a,decide_true,if_true,ej];rw[GA hk (by omega),ab,an (by simp;omega),aX (by omega),lv ax.aa a];simp
def WH{p:au}(h:ai aj p<=1073741824):yV k (p,())=some (p,()):=by
 have h1:=dj hk p;have hl:=az (e:=ax) (l:=p.2.2);simp only[yV];refine bX (fun i=>(p,(0,(0,([]:List aP))),(p.1,p.2.1,p.2.2.take i),p.2.2,(p.2.2.length:Int),(i:Int),())) p.2.2.length (fun G i a=> ?_) (fun G=> ?_) k 0 (by omega) (by omega);have hm:=cx (e:=ax) (cC (d:=ax.aa) a);simp only[aK,aC a,a,decide_true,if_true,ej];rw[U4 hk (by omega),ab,an (by simp;omega),aX (by omega),lv ax.aa a];simp
def Gm{l:List au}(h:ai (.sl aj) l<=1073741824):mB k (l,())=some (l,()):=
 Bt (d:=aj.aa) (S:=iF k) hk (po (az (e:=aj)) h) (fun e a=>Gv hk (po (cx (e:=aj) a) h))
def Vn{l:List au}(h:ai (.sl aj) l<=1073741824):GP k (l,())=some (l,()):=
 SY (d:=aj.aa) (S:=yV k) hk (po (az (e:=aj)) h) (fun e a=>WH hk (po (cx (e:=aj) a) h))
def Gl{s:bo}(h:ai aW s<=1073741824):iz k (s,())=some (s,()):=by
 have h1:=nj hk s;simp only[iz];rw[ff hk (by omega),ab]
def Yd{s:bo}(h:ai aW s<=1073741824):Af k (s,())=some (s,()):=by
 have h1:=nj hk s;simp only[Af];rw[jK hk (by omega),ab]
def P7{l:List bo}(h:ai (.sl aW) l<=1073741824):qL k (l,())=some (l,()):=
 Bt (d:=aW.aa) (S:=iz k) hk (po (az (e:=aW)) h) (fun e a=>Gl hk (po (cx (e:=aW) a) h))
def aeB{l:List bo}(h:ai (.sl aW) l<=1073741824):Nu k (l,())=some (l,()):=
 SY (d:=aW.aa) (S:=Af k) hk (po (az (e:=aW)) h) (fun e a=>Yd hk (po (cx (e:=aW) a) h))
theorem PD{l:List aF}(h:l.length<=1073741824):vW k (l,())=some (l,()):=by
 simp only[vW];rw[an (by simp;omega)];simp
def adl{b:bq}(h:ai cw b<=1073741824):GH k (b,())=some (b,()):=by
 have h1:=pK hk b;have h2:=az (e:=ak) (l:=b.2.1);simp only[GH];rw[xt hk (by omega),ab,jK hk (by omega),ab]
def vA{t:aG}(h:ai aq t<=1073741824):jt k (t,())=some (t,()):=by
 have h1:=dy hk t;have h2:=az (e:=ak) (l:=t.2.2.2.1);have h3:=az (e:= .int .i64) (l:=t.2.2.2.2.2.1);simp only[jt];rw[cR hk (by omega),ab,an (by simp;omega),an (by simp;omega),ff hk (by omega),ab];simp
def ad7{t:aG}(h:ai aq t<=1073741824):IS k (t,())=some (t,()):=by
 have h1:=dy hk t;have h2:=az (e:=ak) (l:=t.2.2.2.1);have h3:=az (e:= .int .i64) (l:=t.2.2.2.2.2.1);simp only[IS];rw[gY hk (by omega),ab,xt hk (by omega),ab,an (by simp;omega),jK hk (by omega),ab];simp
def Ni{d:aA}(h:ai ay d<=1073741824):jw k (d,())=some (d,()):=by
 have h1:=cU hk d;have h2:=az (e:=ak) (l:=d.2.2.2.1);simp only[jw];rw[cR hk (by omega),ab,an (by simp;omega),ff hk (by omega),ab];simp
def aef{d:aA}(h:ai ay d<=1073741824):IV k (d,())=some (d,()):=by
 have h1:=cU hk d;have h2:=az (e:=ak) (l:=d.2.2.2.1);simp only[IV];rw[gY hk (by omega),ab,xt hk (by omega),ab,jK hk (by omega),ab]
def O6{l:List aA}(h:ai (.sl ay) l<=1073741824):pH k (l,())=some (l,()):=
 Bt (d:=ay.aa) (S:=jw k) hk (po (az (e:=ay)) h) (fun e a=>Ni hk (po (cx (e:=ay) a) h))
def JJ{b:bq}(h:ai cw b<=1073741824):fT k (b,())=some (b,()):=by
 have h1:=pK hk b;exact zO hk (by omega) (by omega)
def BV{w:ah}(hs:ai aD w<=1073741824):jB k (w,())=some (w,()):=by
 have r:=iI hk w;obtain⟨c,h,U,st,j,fd,m,n,o,g,b,p,f,q⟩:=w;simp only at r;have h1:=az (e:=aE) (l:=g);have h2:=az (e:=cw) (l:=b);have h3:=az (e:=aq) (l:=f);simp only[jB,aN];rw[CN hk (by omega),ab,Gm hk (by omega),ab,P7 hk (by omega),ab,ff hk (by omega),ab,ns hk (by omega),ab,an (by simp;omega)];simp only[axM];refine bX (fun i=>((c,h,U,st,j,fd,m,n,o,g,b,p,f,q),_,(c,h,U,st,j,fd,m,n,o,g,b.take i,p,f,q),c,(i:Int),())) b.length (fun G i a=> ?_) (fun G=> ?_) k 0 (by omega) (by omega);have s:=cx (e:=cw) (cC (d:=cw.aa) a);simp only[aK,aC a,a,decide_true,if_true,ej];rw[JJ hk (by omega),ab,an (by simp;omega),aX (by omega),lv cw.aa a];simp only[aK,o_,decide_false,en,if_false,VG];rw[ff hk (by omega),ab];refine bX (fun i=>((c,h,U,st,j,fd,m,n,o,g,b,p,f,q),_,(c,h,U,st,j,fd,m,n,o,g,b,p,f.take i,q),c,(i:Int),())) f.length (fun G i a=> ?_) (fun G=> ?_) k 0 (by omega) (by omega);have s:=cx (e:=aq) (cC (d:=aq.aa) a);simp only[aK,aC a,a,decide_true,if_true,ej];rw[vA hk (by omega),ab,an (by simp;omega),aX (by omega),lv aq.aa a];simp only[aK,o_,decide_false,en,if_false,VG];rw[O6 hk (by omega),ab]
def acY{w:ah}(hs:ai aD w<=1073741824):tj k (w,())=some (w,()):=by
 have s:=iI hk w;obtain⟨c,j,U,st,m,fd,n,o,p,h,b,q,f,g⟩:=w;simp only at s;have h1:=az (e:=aE) (l:=h);have h2:=az (e:=cw) (l:=b);have h3:=az (e:=aq) (l:=f);have h4:=az (e:=ay) (l:=g);simp only[tj,aN]
 rw[aeH hk (by omega),ab,Vn hk (by omega),ab,aeB hk (by omega),ab,jK hk (by omega),ab,jK hk (by omega),ab,
  PC hk (by omega),ab,PD hk (by omega),ab]
 refine bX (fun i=>((c,j,U,st,m,fd,n,o,p,h,b,q,f,g),_,b.take i,b,(b.length:Int),(i:Int),())) b.length (fun G i a=> ?_) (fun G=> ?_) k 0 (by omega) (by omega);have r:=cx (e:=cw) (cC (d:=cw.aa) a);simp only[aK,aC a,a,decide_true,if_true,ej];rw[adl hk (by omega),ab,an (by simp;omega),aX (by omega),lv cw.aa a];simp only[aK,o_,decide_false,en,if_false,VG];refine bX (fun i=>((c,j,U,st,m,fd,n,o,p,h,b,q,f,g),_,b,f.take i,f,(f.length:Int),(i:Int),())) f.length (fun G i a=> ?_) (fun G=> ?_) k 0 (by omega) (by omega);have r:=cx (e:=aq) (cC (d:=aq.aa) a);simp only[aK,aC a,a,decide_true,if_true,ej];rw[ad7 hk (by omega),ab,an (by simp;omega),aX (by omega),lv aq.aa a];simp only[aK,o_,decide_false,en,if_false,VG];refine bX (fun i=>((c,j,U,st,m,fd,n,o,p,h,b,q,f,g),_,b,f,g.take i,g,(g.length:Int),(i:Int),())) g.length (fun G i a=> ?_) (fun G=> ?_) k 0 (by omega) (by omega);have r:=cx (e:=ay) (cC (d:=ay.aa) a);simp only[aK,aC a,a,decide_true,if_true,ej];rw[aef hk (by omega),ab,an (by simp;omega),aX (by omega),lv ay.aa a];simp only[aK,o_,decide_false,en,if_false,VG]
end
def xR(a b:af):Bool:=decide (a.2.1<=b.2.2.1)&&decide (b.2.1<=a.2.2.1)
def iZ(a b:af):af:=if xR a b=true then(b.1,if b.2.1<a.2.1 then b.2.1 else a.2.1,b.2.2)else b
def jJ(c:aP)(a:af):aP:=
 match eU c.2 a.1 with
 |some i=>(c.1,c.2.set i (iZ (c.2.getD i ae.aa) a))
 |none=>(c.1,c.2++[a])
def iq(l:List aP)(f:Int):Nat:=(fv l.length (fun i=> !decide ((l.getD i ax.aa).1<f))).getD l.length
def e9(k:Nat)(p:au)(a:af):au×Bool:=
 match eY p (cn k a.1)with
 |some i=>((p.1,IntKind.i64.wrap (p.2.1+1),p.2.2.set i (jJ (p.2.2.getD i ax.aa) a)),(eU (p.2.2.getD i ax.aa).2 a.1).isNone)
 |none=>((p.1,IntKind.i64.wrap (p.2.1+1),p.2.2.take (iq p.2.2 (cn k a.1))++[(cn k a.1,[a])]++p.2.2.drop (iq p.2.2 (cn k a.1))),true)
def dn(k:Nat)(l:List au)(a:af):List au×Bool:=
 if l.length=0 then(l,false)else(l.set (bg k l a.1).toNat (e9 k (l.getD (bg k l a.1).toNat aj.aa) a).1,(e9 k (l.getD (bg k l a.1).toNat aj.aa) a).2)
def Kw{α:Type}(l:List aP)(f:Int)(g:Nat->α):(match fv l.length (fun i=> !decide ((l.getD i ax.aa).1<f))with|some i=>g i|none=>g l.length)=g (iq l f):=by
 unfold iq;cases fv l.length (fun i=> !decide ((l.getD i ax.aa).1<f))<;>rfl
section
variable{k:Nat}(hk:9223372036854775808<=k)
include hk
theorem abq{a b:af}:NK k (a,b,())=some (xR a b,()):=by
 simp only[NK,xR];by_cases h:a.2.1<=b.2.2.1<;>simp[h]
theorem H8{a b:af}:nU k (a,b,())=some (xR a b,()):=by
 simp only[nU,xR];by_cases h:a.2.1<=b.2.2.1<;>simp[h]
def aba{a b:af}(hb:ai ae b<=1048576):MV k (a,b,())=some (iZ a b,()):=by
 simp only[MV];rw[gY hk (by omega),ab,abq hk,ab];unfold iZ;cases xR a b<;>simp
def H7{a b:af}(hb:ai ae b<=1048576):nz k (a,b,())=some (iZ a b,()):=by
 simp only[nz,qp];rw[cR hk (by omega),ab,H8 hk,ab];unfold iZ;cases xR a b;simp;by_cases h:b.2.1<a.2.1<;>simp[h]
def NG{a b:af}:ai ae (iZ a b)=ai ae b:=by
 unfold iZ;split;rw[bj hk,bj hk];rfl
def XQ{c:aP}{a:af}(hc:ai ax c<=1048576)(d:ai ae a<=1048576):IP k (c,a,())=some (jJ c a,(eU c.2 a.1).isNone,()):=by
 have h1:=df hk c;have h2:=az (e:=ae) (l:=c.2);simp only[IP];rw[U4 hk (by omega),ab];unfold jJ;cases h:eU c.2 a.1 with
 |none=>
  have e:jC k (c,a.1,())=some (-1,()):=by rw[vD hk (by omega),h];rfl
  rw[e,ab,a_ (by decide),gY hk (by omega),ab,an (by simp;omega)];rfl
 |some i=>
  have b:=(aR.1 h).1;have e:jC k (c,a.1,())=some ((i:Int),()):=by rw[vD hk (by omega),h];rfl
  rw[e,ab,an (by simp),an (aC b),aba hk d,ab,an (aC b)];rfl
def AQ{c:aP}{a:af}(hc:ai ax c<=1048576)(d:ai ae a<=1048576):kI k (c,a,())=some (jJ c a,(eU c.2 a.1).isNone,()):=by
 have h1:=df hk c;have h2:=az (e:=ae) (l:=c.2);simp only[kI];rw[GA hk (by omega),ab];unfold jJ;cases h:eU c.2 a.1 with
 |none=>
  have e:fC k (c,a.1,())=some (-1,()):=by rw[nW hk (by omega),h];rfl
  rw[e,ab,an (by decide),cR hk (by omega),ab,an (by simp;omega)];rfl
 |some i=>
  have b:=(aR.1 h).1;have e:fC k (c,a.1,())=some ((i:Int),()):=by rw[nW hk (by omega),h];rfl
  rw[e,ab,a_ (by simp),an (aC b),H7 hk d,ab,an (aC b)];rfl
def Qb{c:aP}{a:af}:ai ax (jJ c a)<=ai ax c+ai ae a+1:=by
 have h1:=df hk c;have d:=df hk (jJ c a);unfold jJ at d|-;cases h:eU c.2 a.1 with
 |none=>
  rw[h]at d;dsimp only at d|-;have f:=gZ (e:=ae) c.2 [a];have g:=bW (e:=ae) a [];have h5:=bd (e:=ae);rw[d];omega
 |some i=>
  have j:=(aR.1 h).1;rw[h]at d;dsimp only at d|-;have f:=mf (e:=ae) c.2 i (iZ (c.2.getD i ae.aa) a) j;have g:=NG hk (a:=c.2.getD i ae.aa) (b:=a);rw[d];omega
def abu{p:au}{a:af}(d:ai aj p<=1048576)(g:ai ae a<=1048576):MF k (p,a,())=some ((e9 k p a).1,(e9 k p a).2,()):=by
 have h1:=dj hk p;have h2:=az (e:=ax) (l:=p.2.2);have h3:=bj hk a;simp only[MF];rw[WH hk (by omega),ab,gG hk (by omega),ab];unfold e9;cases h:eY p (cn k a.1)with
 |some i=>
  have b:=(aR.1 h).1;have e:jy k (p,cn k a.1,())=some ((i:Int),()):=by rw[vU hk (by omega),h];rfl
  rw[e,ab,an (by simp),an (aC b)];simp only[ej];rw[XQ hk (ga hk d b).1 g,ab,an (aC b)]
 |none=>
  have e:jy k (p,cn k a.1,())=some (-1,()):=by rw[vU hk (by omega),h];rfl
  rw[e,ab,a_ (by decide)];simp only[aN];generalize hf:cn k a.1=f at h|-
  have c:∀i,i<p.2.2.length->(p.2.2.getD i ax.aa).1≠f:=fun i b=>by
   have:=gB.1 h i b;simpa using this
  refine(fY (fun i:Nat=>(p,a,(0,0,([]:List aP)),(p.1,IntKind.i64.wrap (p.2.1+1),p.2.2),f,(i:Int),())) (fun i=> !decide ((p.2.2.getD i ax.aa).1<f)) p.2.2.length
   (e:=some ((p.1,IntKind.i64.wrap (p.2.1+1),p.2.2.take p.2.2.length++[(f,[a])]++p.2.2.drop p.2.2.length),true,())) (fun i=>some ((p.1,IntKind.i64.wrap (p.2.1+1),p.2.2.take i++[(f,[a])]++p.2.2.drop i),true,())) (fun G i b=> ?_) (fun G=> ?_) k (by omega)).trans ?_
  have hne:=c i b;simp only[aK,aC b,b,decide_true,if_true,ej,D_];by_cases hc:(p.2.2.getD i ax.aa).1<f;have hle:(p.2.2.getD i ax.aa).1<=f:=by omega
  rw[c_ hc,c_ hle,aX (by omega)];simp;have hle:¬(p.2.2.getD i ax.aa).1<=f:=by omega
  rw[decide_eq_false hc,decide_eq_false hle];simp only[Q_,if_true,en,if_false];rw[gY hk (by omega),ab,an (c_ ⟨by omega,by omega⟩),an (c_ (by simp;omega)),an (c_ (by simp;omega)),an (c_ ⟨by omega,by omega⟩),an (c_ (by simp;omega)),axM];simp only[aK,o_,decide_false,en,if_false,ej];rw[an (by simp),gY hk (by omega),ab,an (c_ ⟨by omega,by omega⟩),an (c_ (by simp;omega)),an (c_ (by simp;omega)),an (c_ ⟨by omega,by omega⟩),an (c_ (by simp;omega)),axM];exact Kw p.2.2 f (fun i=>some ((p.1,IntKind.i64.wrap (p.2.1+1),p.2.2.take i++[(f,[a])]++p.2.2.drop i),true,()))
def Hp{p:au}{a:af}(c:ai aj p<=1048576)(d:ai ae a<=1048576):nk k (p,a,())=some ((e9 k p a).1,(e9 k p a).2,()):=by
 have h1:=dj hk p;have h2:=az (e:=ax) (l:=p.2.2);have h3:=bj hk a;simp only[nk];rw[Gv hk (by omega),ab,oz hk (by omega),ab];unfold e9;cases h:eY p (cn k a.1)with
 |some i=>
  have b:=(aR.1 h).1;have e:iY k (p,cn k a.1,())=some ((i:Int),()):=by rw[np hk (by omega),h];rfl
  rw[e,ab,an (by simp),an (aC b)];simp only[ej];rw[AQ hk (ga hk c b).1 d,ab,an (aC b)]
 |none=>
  have e:iY k (p,cn k a.1,())=some (-1,()):=by rw[np hk (by omega),h];rfl
  rw[e,ab,a_ (by decide)];simp only[aN];generalize hf:cn k a.1=f at h|-
  refine(fY (fun i:Nat=>(p,a,(0,0,([]:List aP)),(p.1,IntKind.i64.wrap (p.2.1+1),p.2.2),f,(i:Int),())) (fun i=> !decide ((p.2.2.getD i ax.aa).1<f)) p.2.2.length
   (e:=some ((p.1,IntKind.i64.wrap (p.2.1+1),p.2.2.take p.2.2.length++[(f,[a])]++p.2.2.drop p.2.2.length),true,())) (fun i=>some ((p.1,IntKind.i64.wrap (p.2.1+1),p.2.2.take i++[(f,[a])]++p.2.2.drop i),true,())) (fun G i b=> ?_) (fun G=> ?_) k (by omega)).trans ?_
  simp only[aK,aC b,b,decide_true,if_true,ej,D_];by_cases hc:(p.2.2.getD i ax.aa).1<f;rw[c_ hc,aX (by omega)];simp;rw[decide_eq_false hc];simp only[Q_,if_true,en,if_false];rw[cR hk (by omega),ab,an (c_ ⟨by omega,by omega⟩),an (c_ (by simp;omega)),an (c_ (by simp;omega)),an (c_ ⟨by omega,by omega⟩),an (c_ (by simp;omega)),axM];simp only[aK,o_,decide_false,en,if_false,ej];rw[an (by simp),cR hk (by omega),ab,an (c_ ⟨by omega,by omega⟩),an (c_ (by simp;omega)),an (c_ (by simp;omega)),an (c_ ⟨by omega,by omega⟩),an (c_ (by simp;omega)),axM];exact Kw p.2.2 f (fun i=>some ((p.1,IntKind.i64.wrap (p.2.1+1),p.2.2.take i++[(f,[a])]++p.2.2.drop i),true,()))
def Qc{p:au}{a:af}:ai aj (e9 k p a).1<=ai aj p+ai ae a+2:=by
 have h1:=dj hk p;have b:=dj hk (e9 k p a).1;unfold e9 at b|-;cases h:eY p (cn k a.1)with
 |some i=>
  have d:=(aR.1 h).1;rw[h]at b;dsimp only at b|-;have f:=mf (e:=ax) p.2.2 i (jJ (p.2.2.getD i ax.aa) a) d;have g:=Qb hk (c:=p.2.2.getD i ax.aa) (a:=a);rw[b];omega
 |none=>
  rw[h]at b;dsimp only at b|-;have f:=gZ (e:=ax) (p.2.2.take (iq p.2.2 (cn k a.1))++[(cn k a.1,[a])]) (p.2.2.drop (iq p.2.2 (cn k a.1)));have g:=gZ (e:=ax) (p.2.2.take (iq p.2.2 (cn k a.1))) [(cn k a.1,[a])];have h5:=bW (e:=ax) (cn k a.1,[a]) [];have h6:=bd (e:=ax);have h7:=df hk (cn k a.1,[a]);have h8:=bW (e:=ae) a [];have h9:=bd (e:=ae);have rO:=cB (e:=ax) p.2.2 (iq p.2.2 (cn k a.1));dsimp only at h7;rw[b];omega
def Xn{l:List au}{a:af}(c:ai (.sl aj) l<=1048576)(d:ai ae a<=1048576):IT k (l,a,())=some ((dn k l a).1,(dn k l a).2,()):=by
 have h3:=bj hk a;simp only[IT];rw[Vn hk (by omega),ab];unfold dn;by_cases b:l.length=0;rw[an (by simpa using b),an b];obtain⟨q1,q2,q3⟩:=kV (k:=k) (l:=l) (s:=a.1) b;rw[a_ (by simpa using b),a_ b,Ah hk (by omega),ab,an (c_ ⟨q1,q2⟩),abu hk (kh hk c q3) d,ab,an (c_ ⟨q1,q2⟩)]
def AA{l:List au}{a:af}(c:ai (.sl aj) l<=1048576)(d:ai ae a<=1048576):kQ k (l,a,())=some ((dn k l a).1,(dn k l a).2,()):=by
 have h3:=bj hk a;simp only[kQ];rw[Gm hk (by omega),ab];unfold dn;by_cases b:l.length=0;rw[an (by simpa using b),an b];obtain⟨q1,q2,q3⟩:=kV (k:=k) (l:=l) (s:=a.1) b;rw[a_ (by simpa using b),a_ b,lK hk (by omega),ab,an (c_ ⟨q1,q2⟩),Hp hk (kh hk c q3) d,ab,an (c_ ⟨q1,q2⟩)]
def Mu{l:List au}{a:af}:ai (.sl aj) (dn k l a).1<=ai (.sl aj) l+ai ae a+2:=by
 unfold dn;by_cases b:l.length=0;rw[an b];dsimp only;omega;rw[a_ b];obtain⟨q1,q2,q3⟩:=kV (k:=k) (l:=l) (s:=a.1) b;have h1:=mf (e:=aj) l (bg k l a.1).toNat (e9 k (l.getD (bg k l a.1).toNat aj.aa) a).1 q3;have h2:=Qc hk (p:=l.getD (bg k l a.1).toNat aj.aa) (a:=a);dsimp only;omega
end
def gD(U:Int)(l:List af):List af:=l.filter fun a=>decide (a.2.2.1<=U)
def fX(U:Int)(c:aP):aP:=(c.1,dh U c.2)
def jf(U:Int)(l:List aP):List aP:=(l.map (fX U)).filter fun c=>decide (0<c.2.length)
def dg(U:Int)(l:List aP):List af:=l.flatMap fun c=>gD U c.2
def dR(p:au)(U:Int):au:=(p.1,if 0<(dg U p.2.2).length then IntKind.i64.wrap (p.2.1+1)else p.2.1,jf U p.2.2)
def mU(a:af)(s:bo):bo:=if s.2=true then s else if 3<=s.1.length then([],true)else(s.1++[a],s.2)
def Iy{α:Type}(p:α->Bool){l:List α}{i:Nat}(d:α)(h:i<l.length):(l.take (i+1)).filter p=if p (l.getD i d)=true then(l.take i).filter p++[l.getD i d]else(l.take i).filter p:=by
 have b:l.getD i d=l[i]:=by rw[axI,axT h];rfl
 rw[axO h,ax7,b];by_cases a:p l[i]=true;simp[a];simp[a]
def L3{U:Int}{l:List aP}{i:Nat}(h:i<l.length):jf U (l.take (i+1))=if 0<(dh U (l.getD i ax.aa).2).length then jf U (l.take i)++[fX U (l.getD i ax.aa)]else jf U (l.take i):=by
 have b:l.getD i ax.aa=l[i]:=by rw[axI,axT h];rfl
 unfold jf;rw[axO h,ax2,ax7,b];by_cases a:0<(dh U (l[i]).2).length;rw[an a,ax6,ayn,an (show(decide (0<(fX U l[i]).2.length))=true from c_ a)];rfl;rw[a_ a,ax6,ayn,a_ (show¬(decide (0<(fX U l[i]).2.length))=true from fun h=>a (e_ h))];simp
section
variable{k:Nat}(hk:9223372036854775808<=k)
include hk
theorem wY{U:Int}{l:List af}:ai (.sl ae) (gD U l)<=ai (.sl ae) l:=xD (e:=ae) _ l
def X5{c:aP}{U:Int}(hc:ai ax c<=1048576):IU k (c,U,())=some (fX U c,gD U c.2,()):=by
 have h1:=df hk c;have h2:=az (e:=ae) (l:=c.2);simp only[IU,aN];refine(bX (fun i:Nat=>(U,c,(0,([]:List af)),(c.1,dh U (c.2.take i)),gD U (c.2.take i),c.2,(c.2.length:Int),(i:Int),())) c.2.length (e:=some (fX U c,gD U c.2,())) (fun G i a=> ?_) (fun G=> ?_) k 0 (by omega) (by omega));have l1:=xw (U:=U) (l:=c.2.take i);have d:(gD U (c.2.take i)).length<=(c.2.take i).length:=axW ..;have l3:(c.2.take i).length<=c.2.length:=by simp;omega
 have hm:ai ae (c.2.getD i ae.aa)<=1048576:=(jO hk (by omega) a).1;simp only[aK,aC a,a,decide_true,if_true,ej,Lw,ab];rw[aX (by omega),gY hk (by omega),ab,vj a];unfold gD at d|-;rw[Iy _ ae.aa a];by_cases b:(c.2.getD i ae.aa).2.2.1<=U;simp only[b,decide_true,if_true,axK,en,if_false];rw[an (c_ (by simp only[U_];omega))];simp only[b,decide_false,en,if_false,Q_,if_true];rw[ab,an (c_ (by simp only[U_];omega))];simp[fX]
def Ar{c:aP}{U:Int}(hc:ai ax c<=1048576):kU k (c,U,())=some (fX U c,gD U c.2,()):=by
 have h1:=df hk c;have h2:=az (e:=ae) (l:=c.2);simp only[kU,aN];refine(bX (fun i:Nat=>(U,c,(0,([]:List af)),(c.1,dh U (c.2.take i)),gD U (c.2.take i),(i:Int),())) c.2.length (e:=some (fX U c,gD U c.2,())) (fun G i a=> ?_) (fun G=> ?_) k 0 (by omega) (by omega));have l1:=xw (U:=U) (l:=c.2.take i);have d:(gD U (c.2.take i)).length<=(c.2.take i).length:=axW ..;have l3:(c.2.take i).length<=c.2.length:=by simp;omega
 have hm:ai ae (c.2.getD i ae.aa)<=1048576:=(jO hk (by omega) a).1;simp only[aK,aC a,a,decide_true,if_true,ej,mn];rw[aX (by omega),cR hk (by omega),ab,ab,vj a];unfold gD at d|-;rw[Iy _ ae.aa a];by_cases b:(c.2.getD i ae.aa).2.2.1<=U;simp only[b,decide_true,if_true,axK,en,if_false];rw[an (c_ (by simp only[U_];omega))];simp only[b,decide_false,en,if_false,Q_,if_true];rw[an (c_ (by simp only[U_];omega))];simp[fX]
def Jf{U:Int}(l:List aP):(dg U l).length<=ai (.sl ax) l:=by
 have a:ai (.sl ae) (dg U l)<=ai (.sl ax) l:=jS hk (e:=ax) (f:=ae) (g:=fun c=>gD U c.2) (fun c=>po (wY hk) (by rw[df hk];exact axV _)) l;exact po (az (e:=ae)) a
theorem L4{U:Int}(l:List aP):(jf U l).length<=l.length:=by
 unfold jf;exact po (axW ..) (by simp)
def ZE{p:au}{U:Int}(g:ai aj p<=1048576):KH k (p,U,())=some (dR p U,dg U p.2.2,()):=by
 have h1:=dj hk p;have h2:=az (e:=ax) (l:=p.2.2);simp only[KH,aN];refine(bX (fun i:Nat=>(U,p,(0,0,([]:List aP)),(p.1,p.2.1,jf U (p.2.2.take i)),dg U (p.2.2.take i),p.2.2,(p.2.2.length:Int),(i:Int),())) p.2.2.length (e:=some (dR p U,dg U p.2.2,())) (fun G i d=> ?_) (fun G=> ?_) k 0 (by omega) (by omega));have l1:=L4 hk (U:=U) (p.2.2.take i);have l2:=Jf hk (U:=U) (p.2.2.take i);have l3:=cB (e:=ax) p.2.2 i;have l4:(p.2.2.take i).length<=p.2.2.length:=by simp;omega
 have l5:=Jf hk (U:=U) [p.2.2.getD i ax.aa];have l6:(gD U (p.2.2.getD i ax.aa).2).length<=1048576:=po (az (e:=ae)) (po (wY hk) (ga hk g d).2);simp only[aK,aC d,d,decide_true,if_true,ej];rw[aX (by omega),X5 hk (ga hk g d).1,ab,L3 d];have j:dg U (p.2.2.take (i+1))=dg U (p.2.2.take i)++gD U (p.2.2.getD i ax.aa).2:=dK (f:=fun c:aP=>gD U c.2) ax.aa d;rw[j];by_cases a:0<(dh U (p.2.2.getD i ax.aa).2).length;rw[an (c_ (by simp only[fX];omega)),an a,an (c_ (by simp only[U_];first|omega|(dsimp only;omega)|(simp;omega))),an (c_ (by first|omega|(dsimp only;omega)|(simp;omega)))];have b:¬decide ((((fX U (p.2.2.getD i ax.aa)).2.length:Nat):Int)>0)=true:=fun h=>a (by have h9:=e_ h;simp only[fX]at h9;omega);rw[a_ b,a_ a,an (c_ (by first|omega|(dsimp only;omega)|(simp;omega)))];simp only[aK,o_,decide_false,en,if_false,VG];unfold dR;by_cases a:0<(dg U p.2.2).length;rw[an (c_ (by omega)),an a];have b:¬decide ((((dg U p.2.2).length:Nat):Int)>0)=true:=fun h=>a (by have h9:=e_ h;omega);rw[a_ b,a_ a]
def CG{p:au}{U:Int}(g:ai aj p<=1048576):lN k (p,U,())=some (dR p U,dg U p.2.2,()):=by
 have h1:=dj hk p;have h2:=az (e:=ax) (l:=p.2.2);simp only[lN,aN];refine(bX (fun i:Nat=>(U,p,(0,0,([]:List aP)),(p.1,p.2.1,jf U (p.2.2.take i)),dg U (p.2.2.take i),(i:Int),())) p.2.2.length (e:=some (dR p U,dg U p.2.2,())) (fun G i d=> ?_) (fun G=> ?_) k 0 (by omega) (by omega));have l1:=L4 hk (U:=U) (p.2.2.take i);have l2:=Jf hk (U:=U) (p.2.2.take i);have l3:=cB (e:=ax) p.2.2 i;have l4:(p.2.2.take i).length<=p.2.2.length:=by simp;omega
 have l6:(gD U (p.2.2.getD i ax.aa).2).length<=1048576:=po (az (e:=ae)) (po (wY hk) (ga hk g d).2);simp only[aK,aC d,d,decide_true,if_true,ej];rw[aX (by omega),Ar hk (ga hk g d).1,ab,L3 d];have j:dg U (p.2.2.take (i+1))=dg U (p.2.2.take i)++gD U (p.2.2.getD i ax.aa).2:=dK (f:=fun c:aP=>gD U c.2) ax.aa d;rw[j,an (c_ (by first|omega|(dsimp only;omega)|(simp;omega)))];by_cases a:0<(dh U (p.2.2.getD i ax.aa).2).length;rw[an (c_ (by simp only[fX];omega)),an a,an (c_ (by simp only[U_];first|omega|(dsimp only;omega)|(simp;omega)))];have b:¬decide ((((fX U (p.2.2.getD i ax.aa)).2.length:Nat):Int)>0)=true:=fun h=>a (by have h9:=e_ h;simp only[fX]at h9;omega);rw[a_ b,a_ a];simp only[aK,o_,decide_false,en,if_false,VG];unfold dR;by_cases a:0<(dg U p.2.2).length;rw[an (c_ (by omega)),an a];have b:¬decide ((((dg U p.2.2).length:Nat):Int)>0)=true:=fun h=>a (by have h9:=e_ h;omega);rw[a_ b,a_ a]
def adK{s:bo}{a:af}(hs:ai aW s<=1048576)(ha:ai ae a<=1048576):Od k (s,a,())=some (mU a s,()):=by
 have h1:=nj hk s;have h2:=az (e:=ae) (l:=s.1);simp only[Od];rw[Yd hk (by omega),ab];unfold mU;by_cases b:s.2=true;rw[an b,an b];rw[a_ b,a_ b];by_cases c:3<=s.1.length;rw[an (c_ (by omega)),an c];have d:¬decide (((s.1.length:Nat):Int)>=3)=true:=fun h=>c (by have h9:=e_ h;omega);rw[a_ d,a_ c,gY hk (by omega),ab,an (c_ (by simp only[U_];omega))]
def Jl{s:bo}{a:af}(hs:ai aW s<=1048576)(ha:ai ae a<=1048576):oO k (s,a,())=some (mU a s,()):=by
 have h1:=nj hk s;have h2:=az (e:=ae) (l:=s.1);simp only[oO];rw[Gl hk (by omega),ab];unfold mU;by_cases b:s.2=true;rw[an b,an b];rw[a_ b,a_ b];by_cases c:3<=s.1.length;rw[an (c_ (by omega)),an c];have d:¬decide (((s.1.length:Nat):Int)>=3)=true:=fun h=>c (by have h9:=e_ h;omega);rw[a_ d,a_ c,cR hk (by omega),ab,an (c_ (by simp only[U_];omega))]
def YL{l:List bo}{a:af}(c:ai (.sl aW) l<=1048576)(d:ai ae a<=1048576):Kx k (l,a,())=some (l.map (mU a),()):=by
 have h2:=az (e:=aW) (l:=l);simp only[Kx];refine(bX (fun i:Nat=>(a,(l.take i).map (mU a),l,(l.length:Int),(i:Int),())) l.length (e:=some (l.map (mU a),())) (fun G i b=> ?_) (fun G=> ?_) k 0 (by omega) (by omega));have f:l.getD i aW.aa=l[i]:=by rw[axI,axT b];rfl
 simp only[aK,aC b,b,decide_true,if_true,ej];rw[aX (by omega),adK hk (Ng hk c b) d,ab,an (c_ (by simp;omega)),axO b,ax2,f];rfl;simp
def Cz{l:List bo}{a:af}(c:ai (.sl aW) l<=1048576)(d:ai ae a<=1048576):lG k (l,a,())=some (l.map (mU a),()):=by
 have h2:=az (e:=aW) (l:=l);simp only[lG];refine(bX (fun i:Nat=>(l,a,(l.take i).map (mU a),(i:Int),())) l.length (e:=some (l.map (mU a),())) (fun G i b=> ?_) (fun G=> ?_) k 0 (by omega) (by omega));have f:l.getD i aW.aa=l[i]:=by rw[axI,axT b];rfl
 simp only[aK,aC b,b,decide_true,if_true,ej];rw[aX (by omega),Jl hk (Ng hk c b) d,ab,an (c_ (by simp;omega)),axO b,ax2,f];rfl;simp
end
def qS(l:List aF)(i j:Nat):List aF:=(l.set i (l.getD j aE.aa)).set j (l.getD i aE.aa)
def dX(l:List aF)(i j:Nat):(qS l i j).length=l.length:=by simp[qS]
def D7(l:List aF)(i:Nat):List aF:=
 if h:0<i then if bw (l.getD i aE.aa) (l.getD ((i-1)/2) aE.aa)=true then D7 (qS l i ((i-1)/2)) ((i-1)/2)else l else l
termination_by i
decreasing_by omega
def tf(l:List aF)(t:aF):List aF:=D7 (l++[t]) l.length
def eZ(l:List aF)(i:Nat):Nat:=
 if 2*i+2<l.length/\bw (l.getD (2*i+2) aE.aa) (l.getD (2*i+1) aE.aa)=true then 2*i+2 else 2*i+1
def oQ(l:List aF)(i:Nat):List aF:=
 if h:2*i+1<l.length then
  if bw (l.getD (eZ l i) aE.aa) (l.getD i aE.aa)=true then oQ (qS l i (eZ l i)) (eZ l i)else l
 else l
termination_by l.length-i
decreasing_by
 rw[dX]
 have:i<eZ l i:=by unfold eZ;split<;>omega
 omega
def PX{l:List aF}{i:Nat}(h:2*i+1<l.length):i<eZ l i/\eZ l i<l.length:=by unfold eZ;split<;>omega
def dS(l:List aF):List aF×aF×Bool:=
 if l.length=0 then([],(0,0),false)
 else(if l.length=1 then []else oQ ((l.take (l.length-1)).set 0 (l.getD (l.length-1) aE.aa)) 0,l.getD 0 aE.aa,true)
def Wy{i:Nat}(h:i<1073741824):IntKind.i64.wrap (IntKind.i64.wrap ((2:Int)*(i:Int))+1)=((2*i+1:Nat):Int):=by
 have e:(2:Int)*(i:Int)=((2*i:Nat):Int):=by omega
 have w:IntKind.i64.wrap ((2*i:Nat):Int)=((2*i:Nat):Int):=by
  have:=aX (i:=2*i-1) (by omega);rcases ayl i with a|a;subst a;rfl;have b:(((2*i-1:Nat):Int)+1)=((2*i:Nat):Int):=by omega
  rw[b]at this;rw[this];congr 1;omega
 rw[e,w,aX (by omega)]
def i2b{i:Nat}(h:i<1073741824):IntKind.i64.wrap (((2*i+1:Nat):Int)+1)=((2*i+2:Nat):Int):=by
 rw[aX (by omega)]
theorem yX{σ ρ α:Type}{f:(σ->Option ρ)->σ->Option ρ}(st:α->σ)(res:α->Option ρ)(I:α->Prop)(m:α->Nat)
 (h:∀G a,I a->(∃b,I b/\m b<m a/\res b=res a/\f G (st a)=G (st b))\/f G (st a)=res a):
 ∀n a,I a->m a<n->aM n f (st a)=res a
 |0,a,_,hn=>by omega
 |n+1,a,hI,hn=>by
  rcases h (aM n f) a hI with⟨b,c,hm,e,d⟩|d;show f (aM n f) (st a)=_;rw[d,<-e];exact yX st res I m h n b c (by omega);exact d
def Me{σ ρ α:Type}{f:(σ->Option ρ)->σ->Option ρ}(st:α->σ)(res:α->Option ρ)(I:α->Prop)(m:α->Nat)
 (h:∀a,I a->∃(c:Bool) (b:α),(c=true->I b/\m b<m a/\res b=res a)/\∀G,f G (st a)=if c=true then G (st b)else res a):
 ∀n a,I a->m a<n->aM n f (st a)=res a:=by
 refine yX st res I m (fun G a g=> ?_);obtain⟨c,b,d,e⟩:=h a g;cases c with
 |true=>exact Or.inl ⟨b,(d rfl).1,(d rfl).2.1,(d rfl).2.2,e G⟩
 |false=>exact Or.inr (e G)
def Nr{n:Nat}(h:n<4611686018427387904):IntKind.i64.wrap (n:Int)=(n:Int):=by
 rcases ayl n with a|a;subst a;rfl;have:=aX (i:=n-1) (by omega);have b:(((n-1:Nat):Int)+1)=(n:Int):=by omega
 rw[b]at this;rw[this];congr 1;omega
def Xp{α:Type}{l:List α}{t:α}(h:l.length<=1048576):IntKind.i64.wrap ((((l++[t]).length:Nat):Int)-1)=(l.length:Int):=by
 rw[axP,U_];have e:(((l.length+1:Nat):Int)-1)=(l.length:Int):=by omega
 rw[e,Nr (by omega)]
section
variable{k:Nat}(hk:9223372036854775808<=k)
include hk
def RW{l:List aF}{t:aF}(f:l.length<=1048576):E6 k (l,t,())=some (tf l t,()):=by
 simp only[E6,PD hk (show l.length<=1073741824 by omega),ab];rw[an (c_ (by simp only[U_];omega)),Xp f];unfold tf;have c:(l++[t]).length<=1048577:=by simp;omega
 have b:l.length<(l++[t]).length:=by simp
 refine yX (fun a:List aF×Nat=>(t,a.1,(a.2:Int),())) (fun a=>some (D7 a.1 a.2,())) (fun a=>a.2<a.1.length/\a.1.length<=1048577) (fun a=>a.2) ?_ k (l++[t],l.length) ⟨b,c⟩ (by dsimp only;omega);rintro G ⟨L,i⟩ ⟨b,c⟩;dsimp only at b c|-;rw[D7];cases i with
 |zero=>
  right;simp only[Q6];simp
 |succ q=>
  have e:q/2<L.length:=by omega
  have g:decide (¬(2:Int)=0)=true:=rfl;have h:(q+1-1)/2=q/2:=by omega
  simp only[aK,aC b,aC e,b,Ln,Cs (show q<4611686018427387904 by omega),decide_true,if_true,ej,uj hk,ab,axZ,ek,ne_eq,g,D_,beq_self_eq_true,h];rw[dif_pos (Nat.succ_pos q)];by_cases d:bw (L.getD (q+1) aE.aa) (L.getD (q/2) aE.aa)=true;left;refine⟨(qS L (q+1) (q/2),q/2),⟨by rw[dX];exact e,by rw[dX];exact c⟩,by show q/2<q+1;omega,by rw[an d],?_⟩;rw[an d];rfl;right;rw[a_ d,a_ d]
def CX{l:List aF}{t:aF}(f:l.length<=1048576):lM k (l,t,())=some (tf l t,()):=by
 simp only[lM,axM];rw[an (c_ (by simp only[axY];omega)),an (c_ (by simp only[U_];omega)),Xp f];unfold tf;have c:(l++[t]).length<=1048577:=by simp;omega
 have b:l.length<(l++[t]).length:=by simp
 refine yX (fun a:List aF×Nat=>(t,a.1,(a.2:Int),())) (fun a=>some (D7 a.1 a.2,())) (fun a=>a.2<a.1.length/\a.1.length<=1048577) (fun a=>a.2) ?_ k (l++[t],l.length) ⟨b,c⟩ (by dsimp only;omega);rintro G ⟨L,i⟩ ⟨b,c⟩;dsimp only at b c|-;rw[D7];cases i with
 |zero=>
  right;simp only[Q6];simp
 |succ q=>
  have e:q/2<L.length:=by omega
  have g:decide (¬(2:Int)=0)=true:=rfl;have h:(q+1-1)/2=q/2:=by omega
  simp only[aK,aC b,aC e,b,Ln,Cs (show q<4611686018427387904 by omega),decide_true,if_true,ej,jo hk,ab,axZ,ek,ne_eq,g,D_,beq_self_eq_true,h];rw[dif_pos (Nat.succ_pos q)];by_cases d:bw (L.getD (q+1) aE.aa) (L.getD (q/2) aE.aa)=true;left;refine⟨(qS L (q+1) (q/2),q/2),⟨by rw[dX];exact e,by rw[dX];exact c⟩,by show q/2<q+1;omega,by rw[an d],?_⟩;rw[an d];rfl;right;rw[a_ d,a_ d]
def X0{l:List aF}(hl:l.length<=1048576):IK k (l,())=some ((dS l).1,(dS l).2.1,(dS l).2.2,()):=by
 simp only[IK];unfold dS;by_cases g:l.length=0;rw[an (by simpa using g),an g]
 have v:IntKind.i64.wrap (((l.length:Nat):Int)-1)=((l.length-1:Nat):Int):=by
  have:(((l.length:Nat):Int)-1)=((l.length-1:Nat):Int):=by omega
  rw[this,Nr (by omega)]
 have p:decide ((0:Int)<=0/\(0:Int)<(l.length:Int))=true:=c_ ⟨by omega,by omega⟩;rw[a_ (by simpa using g),a_ g,v,an p,an (c_ ⟨by omega,by omega⟩),ej,PD hk (by simp;omega),ab];by_cases q:l.length=1;rw[an (by simp;omega),an q];have:l.take (l.length-1)=[]:=by rw[q];rfl
 rw[this];rfl;rw[a_ (by simp;omega),a_ q,an (c_ ⟨by omega,by omega⟩),an (c_ ⟨by omega,by simp;omega⟩)];have u:((l.take (l.length-1)).set 0 (l.getD (l.length-1) aE.aa)).length=l.length-1:=by simp
 refine Me (fun a:List aF×Nat=>((0,0),l.getD 0 aE.aa,((l.length-1:Nat):Int),a.1,(a.2:Int),())) (fun a=>some (oQ a.1 a.2,l.getD 0 aE.aa,true,())) (fun a=>a.1.length=l.length-1/\a.2<a.1.length)
  (fun a=>l.length-a.2) ?_ k ((l.take (l.length-1)).set 0 (l.getD (l.length-1) aE.aa),0) ⟨u,by rw[u];show 0<_;omega⟩ (by dsimp only;omega)
 rintro⟨L,i⟩ ⟨m,n⟩;dsimp only at m n|-;generalize l.getD 0 aE.aa=x0;have b:oQ L i=_:=oQ.eq_1 L i;by_cases c:2*i+1<L.length;rw[dif_pos c]at b;obtain⟨k1,o⟩:=PX c;refine⟨bw (L.getD (eZ L i) aE.aa) (L.getD i aE.aa),(qS L i (eZ L i),eZ L i),fun hc=> ?_,fun G=> ?_⟩;refine⟨⟨by rw[dX];exact m,by rw[dX];exact o⟩,by dsimp only;omega,?_⟩;rw[an hc]at b;rw[b];have d:decide (((eZ L i:Nat):Int)>=(L.length:Int))=false:=decide_eq_false (by omega);simp only[Wy (show i<1073741824 by omega),i2b (show i<1073741824 by omega),aN,aK,ej,<-m,axZ,ek];by_cases e:2*i+2<L.length;simp only[e,aC e,aC c,decide_true,D_,if_true,beq_self_eq_true,uj hk,ab];by_cases j:bw (L.getD (2*i+2) aE.aa) (L.getD (2*i+1) aE.aa)=true;rw[an j];have f:eZ L i=2*i+2:=an ⟨e,j⟩;simp only[<-f,d,aC o,aC n,D_,if_true,beq_self_eq_true,uj hk,ab,en,if_false];rcases I_ (bw (L.getD (eZ L i) aE.aa) (L.getD i aE.aa))with hb|hb;rw[a_ (by rw[hb];decide),an hb];rfl;rw[an (by rw[hb];decide),a_ (by rw[hb];decide),b,a_ (by rw[hb];decide)];rw[a_ j];have f:eZ L i=2*i+1:=a_ (fun h=>j h.2);simp only[<-f,d,aC o,aC n,D_,if_true,beq_self_eq_true,uj hk,ab,en,if_false];rcases I_ (bw (L.getD (eZ L i) aE.aa) (L.getD i aE.aa))with hb|hb;rw[a_ (by rw[hb];decide),an hb];rfl;rw[an (by rw[hb];decide),a_ (by rw[hb];decide),b,a_ (by rw[hb];decide)];have r:decide (2*i+2<L.length)=false:=decide_eq_false e;have s:(false==true)=false:=rfl;simp only[r,s,Q_,axX,if_true,en,if_false,ab];have f:eZ L i=2*i+1:=a_ (fun h=>e h.1);simp only[<-f,d,aC o,aC n,D_,if_true,beq_self_eq_true,uj hk,ab,en,if_false];rcases I_ (bw (L.getD (eZ L i) aE.aa) (L.getD i aE.aa))with hb|hb;rw[a_ (by rw[hb];decide),an hb];rfl;rw[an (by rw[hb];decide),a_ (by rw[hb];decide),b,a_ (by rw[hb];decide)];rw[dif_neg c]at b;refine⟨false,(L,i),(fun h=>nomatch h),fun G=> ?_⟩;simp only[Wy (show i<1073741824 by omega),i2b (show i<1073741824 by omega),aN,aK,ej,<-m,axZ,ek];have d:decide (2*i+2<L.length)=false:=decide_eq_false (by omega);have t:decide (((2*i+1:Nat):Int)>=(L.length:Int))=true:=c_ (by omega);have s:(false==true)=false:=rfl;have w:(true==false)=false:=rfl;simp only[d,t,s,w,Q_,axX,en,if_false,ab,if_true,b]
def Ay{l:List aF}(hl:l.length<=1048576):kS k (l,())=some ((dS l).1,(dS l).2.1,(dS l).2.2,()):=by
 simp only[kS];unfold dS;by_cases g:l.length=0;rw[an (by simpa using g),an g]
 have u:IntKind.i64.wrap (((l.length:Nat):Int)-1)=((l.length-1:Nat):Int):=by
  have:(((l.length:Nat):Int)-1)=((l.length-1:Nat):Int):=by omega
  rw[this,Nr (by omega)]
 have d:decide ((0:Int)<=0/\(0:Int)<(l.length:Int))=true:=c_ ⟨by omega,by omega⟩;rw[a_ (by simpa using g),a_ g,u,an (c_ ⟨by omega,by omega⟩),ej,an (c_ (by simp;omega))];simp only[aN,axM,d,if_true];by_cases j:l.length=1;rw[a_ (by simp;omega),an j];have v:l.take (l.length-1)=[]:=by rw[j];rfl
 rw[v];obtain⟨q,e⟩:∃q,k=q+1:=⟨k-1,by omega⟩
 rw[e];simp only[aM,j];rfl;rw[an (by simp;omega),a_ j,an (c_ ⟨by omega,by omega⟩),an (c_ ⟨by omega,by simp;omega⟩)];have s:((l.take (l.length-1)).set 0 (l.getD (l.length-1) aE.aa)).length=l.length-1:=by simp
 refine Me (fun a:List aF×Nat=>(l,(0,0),((l.length-1:Nat):Int),a.1,(a.2:Int),())) (fun a=>some (oQ a.1 a.2,l.getD 0 aE.aa,true,())) (fun a=>a.1.length=l.length-1/\a.2<a.1.length)
  (fun a=>l.length-a.2) ?_ k ((l.take (l.length-1)).set 0 (l.getD (l.length-1) aE.aa),0) ⟨s,by rw[s];show 0<_;omega⟩ (by dsimp only;omega)
 rintro⟨L,i⟩ ⟨n,o⟩;dsimp only at n o|-;have t:l.getD (ax0 0) aE.aa=l.getD 0 aE.aa:=rfl;have b:oQ L i=_:=oQ.eq_1 L i;by_cases c:2*i+1<L.length;rw[dif_pos c]at b;obtain⟨k1,p⟩:=PX c;refine⟨bw (L.getD (eZ L i) aE.aa) (L.getD i aE.aa),(qS L i (eZ L i),eZ L i),fun hc=> ?_,fun G=> ?_⟩;refine⟨⟨by rw[dX];exact n,by rw[dX];exact p⟩,by dsimp only;omega,?_⟩;rw[an hc]at b;rw[b];simp only[Wy (show i<1073741824 by omega),i2b (show i<1073741824 by omega),aN,aK,ej,<-n,axZ,ek,c,decide_true,if_true,t];by_cases f:2*i+2<L.length;simp only[f,aC f,aC c,decide_true,D_,if_true,beq_self_eq_true,jo hk,ab];by_cases m:bw (L.getD (2*i+2) aE.aa) (L.getD (2*i+1) aE.aa)=true;rw[an m];have e:eZ L i=2*i+2:=an ⟨f,m⟩;simp only[<-e,aC p,aC o,D_,if_true,beq_self_eq_true,jo hk,ab,en,if_false];rcases I_ (bw (L.getD (eZ L i) aE.aa) (L.getD i aE.aa))with hb|hb;rw[a_ (by rw[hb];decide),an hb];rfl;rw[an (by rw[hb];decide),an d,a_ (by rw[hb];decide),b,a_ (by rw[hb];decide)];rw[a_ m];have e:eZ L i=2*i+1:=a_ (fun h=>m h.2);simp only[<-e,aC p,aC o,D_,if_true,beq_self_eq_true,jo hk,ab,en,if_false];rcases I_ (bw (L.getD (eZ L i) aE.aa) (L.getD i aE.aa))with hb|hb;rw[a_ (by rw[hb];decide),an hb];rfl;rw[an (by rw[hb];decide),an d,a_ (by rw[hb];decide),b,a_ (by rw[hb];decide)];have r:decide (2*i+2<L.length)=false:=decide_eq_false f;have w:(false==true)=false:=rfl;simp only[r,w,Q_,axX,if_true,en,if_false,ab];have e:eZ L i=2*i+1:=a_ (fun h=>f h.1);simp only[<-e,aC p,aC o,D_,if_true,beq_self_eq_true,jo hk,ab,en,if_false];rcases I_ (bw (L.getD (eZ L i) aE.aa) (L.getD i aE.aa))with hb|hb;rw[a_ (by rw[hb];decide),an hb];rfl;rw[an (by rw[hb];decide),an d,a_ (by rw[hb];decide),b,a_ (by rw[hb];decide)];rw[dif_neg c]at b;refine⟨false,(L,i),(fun h=>nomatch h),fun G=> ?_⟩;have x:decide (2*i+1<L.length)=false:=decide_eq_false c;simp only[Wy (show i<1073741824 by omega),aK,<-n,x,b,d,if_true,en,if_false,t]
end
theorem yr{α:Type}[DecidableEq α]:∀(l m:List α),allEq (fun a b=>decide (a=b)) l m=decide (l=m)
 | [],[]=>by simp[allEq]
 | [],_::_=>by simp[allEq]
 |_::_,[]=>by simp[allEq]
 |a::l,b::m=>by simp only[allEq,yr l m,List.cons.injEq,ayb]
def wg(a b:ByteArray):(a.toList==b.toList)=decide (a=b):=by
 by_cases h:a=b;simp[h];have:¬a.toList=b.toList:=fun e=>h (toList_inj e);simp[h,this]
instance iLabel:DecidableEq ag:=inferInstance
instance W':DecidableEq (List ag):=inferInstance
instance iAlarm:DecidableEq af:= @instDecidableEqProd _ _ inferInstance inferInstance
instance X_:DecidableEq (List af):=inferInstance
instance iTail:DecidableEq (List Int×(List af×aF)):=inferInstance
instance iTask:DecidableEq aG:= @instDecidableEqProd _ _ inferInstance (@instDecidableEqProd _ _ inferInstance (@instDecidableEqProd _ _ inferInstance (@instDecidableEqProd _ _ inferInstance (@instDecidableEqProd _ _ inferInstance inferInstance))))
def zT:aG:=(0,0,bU,[],0,[],[],0,0)
def lh(l:List Int):Bool:=bA 0 l.length (fun i=>decide (0<=l.getD i 0))
def nm(t:aG):Bool:=decide (t.2.2.2.2.1=0)&&decide (t.2.2.2.2.2.1=[])&&decide (t.2.2.2.2.2.2.1=[])
def cW(t:aG)(n:Int):Bool:=
 aZ n 0 4&&decide (0<=t.2.2.2.2.2.2.2.2)&&
 ((decide (t.1=0)&&decide (t=zT))||
  (decide (t.1=1)&&decide (n<3)&&aZ t.2.1 0 2&&bh t.2.2.1&&decide (t.2.2.2.1=[])&&nm t&&decide (t.2.2.2.2.2.2.2.1=0))||
  (decide (t.1=2)&&decide (n<3)&&aZ t.2.1 0 1&&decide (t.2.2.1=bU)&&cZ t.2.2.2.1&&nm t&&decide (t.2.2.2.2.2.2.2.1=0))||
  (decide (t.1=3)&&decide (n<3)&&aZ t.2.1 0 2&&decide (t.2.2.1=bU)&&decide (t.2.2.2.1=[])&&lh t.2.2.2.2.2.1&&decide ((t.2.2.2.2.2.1.length:Int)=t.2.2.2.2.1)&&bI t.2.2.2.2.2.2.1&&
   (if t.2.1=2 then aZ t.2.2.2.2.1 1 3 else aZ t.2.2.2.2.1 0 2)&&decide (t.2.2.2.2.2.2.2.1=0))||
  (decide (t.1=4)&&decide (n<3)&&aZ t.2.1 0 1&&decide (t.2.2.1=bU)&&decide (t.2.2.2.1=[])&&aZ t.2.2.2.2.1 0 2&&decide (t.2.2.2.2.2.1=[])&&decide (t.2.2.2.2.2.2.1=[])&&decide (t.2.2.2.2.2.2.2.1=0))||
  (decide (t.1=5)&&decide (n=3)&&aZ t.2.1 0 1&&bh t.2.2.1&&decide (t.2.2.2.1=[])&&nm t&&decide (t.2.2.2.2.2.2.2.1=0))||
  (decide (t.1=6)&&decide (n=4)&&aZ t.2.1 0 1&&decide (t.2.2.1=bU)&&decide (t.2.2.2.1=[])&&nm t&&decide (0<=t.2.2.2.2.2.2.2.1)))
def jn(op:Int):List Int:=if op=1 then [1,2,3,4]else if op=3 then [5,6]else if op=7 then [1,2,3]else if op=8 then [8,6]else if op=9 then [5,6,7]else [8]
def eQ(k:Nat)(d:aA):Bool:=
 match d with
 |(op,task,_,_,i,n,code,_,U,inv,lin,res)=>
  aZ op 1 9&&aZ task (-1) 4&&decide (0<=inv)&&decide (0<=i)&&decide (0<=n)&&decide (0<=U)&&(decide (lin= -1)||decide (inv<=lin))&&(decide (res= -1)||(!decide (lin= -1)&&decide (lin<=res)))&&
   (if lin= -1 then decide (code=0)else decide (code∈jn op))
def aV(k:Nat)(t:aG)(n:Int):Int:=
 if n<1 then-1
 else if t.1=1/\(t.2.1=1\/t.2.1=2)then dP (cn k t.2.2.1.1) n
 else if t.1=2/\t.2.1=1 then dP (cn k t.2.2.2.1) n
 else if(t.1=3\/t.1=4)/\t.2.1=1 then t.2.2.2.2.1
 else-1
def bN(t:aG):Bool:=(decide (t.1=5)||decide (t.1=6))&&decide (t.2.1=1)
section
variable{k:Nat}(hk:9223372036854775808<=k)
include hk
def iH{a b:af}(c:a.1.length<=1048576):cN k (a,b,())=some (decide (a=b),()):=by
 obtain⟨g,h,i,a4⟩:=a;obtain⟨j,l,m,b4⟩:=b;simp only[cN,dV hk c,ab,cE,wg,ayg,ayb];by_cases d:g=j<;>by_cases e:h=l<;>by_cases f:i=m<;>simp[d,e,f]
def sr{a:af}(h:ai ae a<=1048576):a.1.length<=1048576:=by
 rw[bj hk]at h;have:=az (e:=ak) (l:=a.1);omega
def pj{a b:List af}(f:ai (.sl ae) a<=1048576):gn k (a,b,())=some (decide (a=b),()):=by
 rw[<-yr];have hl:=az (e:=ae) (l:=a);exact PY (d:=ae.aa) (S:=cN k) hk (by omega) (fun x c y _=>iH hk (sr hk (po (cx (e:=ae) c) f)))
def Bw{a b:List Int}(ha:a.length<=1048576):iQ k (a,b,())=some (decide (a=b),()):=by
 rw[<-yr];refine Eq.trans ?_ (PY (d:=(0:Int)) (S:=fun z=>some (decide ((z.1:Int)=z.2.1),())) (p:=fun a b=>decide (a=b)) hk (by omega) (fun x hx y _=>rfl));simp only[iQ,eqR,ab,im]
def Bk{a b:aG}(m:ai aq a<=1048576):iN k (a,b,())=some (decide (a=b),()):=by
 rw[dy hk]at m;have n:=sr hk (a:=a.2.2.1) (by omega);have h2:=az (e:=ak) (l:=a.2.2.2.1);have h3:=az (e:= .int .i64) (l:=a.2.2.2.2.2.1);have q1:∀b,cN k (a.2.2.1,b,())=some (decide (a.2.2.1=b),()):=fun b=>iH hk n;have q2:∀b,cH k (a.2.2.2.1,b,())=some (decide (a.2.2.2.1=b),()):=fun b=>dV hk (by omega);have q3:∀b,iQ k (a.2.2.2.2.2.1,b,())=some (decide (a.2.2.2.2.2.1=b),()):=fun b=>Bw hk (by omega);have q4:∀b,gn k (a.2.2.2.2.2.2.1,b,())=some (decide (a.2.2.2.2.2.2.1=b),()):=fun b=>pj hk (by omega);obtain⟨p,q,r,s,t,u,v,w,a9⟩:=a;obtain⟨x,y,z,B,C,D,E,F,b9⟩:=b;simp only at q1 q2 q3 q4;simp only[iN,q1,q2,q3,q4,cD,ab,cE,ayg,ayb];by_cases c:p=x;by_cases d:q=y;by_cases f:r=z;by_cases g:s=B;by_cases h:t=C;by_cases i:u=D;by_cases j:v=E;by_cases o:w=F<;>simp[c,d,f,g,h,i,j,o];simp[c,d,f,g,h,i,j];simp[c,d,f,g,h,i];simp[c,d,f,g,h];simp[c,d,f,g];simp[c,d,f];simp[c,d];simp[c]
def rm{t:aG}{n:Int}(hs:ai aq t<=1048576):ji k (t,n,())=some (aV k t n,()):=by
 rw[dy hk]at hs
 have f:ai (.sl ak) t.2.2.1.1<=1048576:=by
  have:=bj hk t.2.2.1;omega
 simp only[ji,ni,gG hk f,gG hk (l:=t.2.2.2.1) (by omega),kX hk,ab,cE];unfold aV;by_cases a:n<1;simp[a];by_cases c:t.2.1=1;by_cases b:t.1=1;simp[a,c,b];by_cases d:t.1=2;simp[a,c,b,d];by_cases e:t.1=3;simp[a,c,b,d,e];by_cases g:t.1=4<;>simp[a,c,b,d,e,g];by_cases b:t.1=1;by_cases h:t.2.1=2<;>simp[a,c,h,b];simp[a,c,b]
theorem mT{t:aG}:gR k (t,())=some (bN t,()):=by
 simp only[gR,bN,cE];by_cases a:t.1=5<;>by_cases b:t.1=6<;>simp[a,b]
def EK{t:aG}(hs:ai aq t<=1048576):mJ k (t,())=some (lh t.2.2.2.2.2.1&&(decide ((t.2.2.2.2.2.1.length:Int)=t.2.2.2.2.1)&&bI t.2.2.2.2.2.2.1&&(if t.2.1=2 then aZ t.2.2.2.2.1 1 3 else aZ t.2.2.2.2.1 0 2)),()):=by
 rw[dy hk]at hs;have h3:=az (e:= .int .i64) (l:=t.2.2.2.2.2.1);simp only[mJ,aN]
 refine(dt (fun i:Nat=>(t,t.2.2.2.2.2.1,(t.2.2.2.2.2.1.length:Int),(i:Int),())) (fun i=>decide (0<=t.2.2.2.2.2.1.getD i 0)) t.2.2.2.2.2.1.length
  (e:=some (decide ((t.2.2.2.2.2.1.length:Int)=t.2.2.2.2.1)&&bI t.2.2.2.2.2.2.1&&(if t.2.1=2 then aZ t.2.2.2.2.1 1 3 else aZ t.2.2.2.2.1 0 2),())) (no:=some (false,())) ?_ ?_ k 0 (by omega)).trans ?_
 intro G i a;simp only[aK,aC a,a,decide_true,if_true,ej,FH];rw[aX (by omega)];rcases I_ (decide (t.2.2.2.2.2.1.getD i 0<0))with h|h<;>simp only[h,if_true,en,if_false,axK,Q_];intro G i a;simp only[aK];rw[a_ (by simp;omega)];simp only[jP hk (l:=t.2.2.2.2.2.2.1) (by omega),fw hk,ab,im,cE,cD];by_cases q:(t.2.2.2.2.2.1.length:Int)=t.2.2.2.2.1<;>by_cases p:t.2.1=2<;>cases hb:bI t.2.2.2.2.2.2.1<;>simp[q,p];unfold lh;generalize bA 0 t.2.2.2.2.2.1.length _=b;cases b<;>simp
end
theorem fg{σ ρ:Type}{f:(σ->Option ρ)->σ->Option ρ}(st:Nat->σ)(p:Nat->Bool)(n:Nat){e no:Option ρ}
 (b:∀G i,i<n->f G (st i)=if p i=true then G (st (i+1))else no) (c:∀G,f G (st n)=e):
 ∀(k a:Nat),a<=n->n-a<k->aM k f (st a)=if bA a n p=true then e else no
 |0,_,_,h=>by omega
 |k+1,a,hn,h=>by
  show f (aM k f) (st a)=_;by_cases d:a<n;rw[b _ a d,RS d,fg st p n b c k (a+1) (by omega) (by omega)];cases p a<;>simp;have:a=n:=by omega
  subst this;rw[c,kz (by omega),an rfl]
def Gx{n:Nat}{p:Nat->Bool}:bA 0 (n+1) p=(bA 0 n p&&p n):=by
 rw[axL];simp only[H',bM];constructor;intro h;exact⟨fun i a b=>h i a (by omega),h n (by omega) (by omega)⟩;rintro⟨a,b⟩ i hi hj;by_cases c:i=n;subst c;exact b;exact a i hi (by omega)
def IJ(st:List au)(seen:List Int):Bool:=bA 0 seen.length (fun i=> !decide (seen.getD i 0>(st.getD i aj.aa).2.1))
def jG(st:List au)(seen:List Int):Bool:=bA 0 seen.length (fun i=>decide (seen.getD i 0=(st.getD i aj.aa).2.1))
def dG(st:List au)(t:aG):Bool:=
 IJ st t.2.2.2.2.2.1&&(!jG st t.2.2.2.2.2.1||decide ((st.take t.2.2.2.2.2.1.length).flatMap aS=t.2.2.2.2.2.2.1))
def mg(k:Nat)(w:ah)(t:aG)(d:aA):Bool:=
 if t.1=1 then
  decide (d.1=1)&&(if t.2.1=2 then decide (d.2.2.1.1=t.2.2.1.1)&&(bD k w.2.2.2.1 t.2.2.1.1).2&&decide ((bD k w.2.2.2.1 t.2.2.1.1).1=t.2.2.1)else decide (d.2.2.1=t.2.2.1)&&cm t.2.2.1)
 else if t.1=2 then decide (d.1=3)&&decide (d.2.2.2.1=t.2.2.2.1)
 else if t.1=3 then decide (d.1=4)&&((if t.2.1=2 then decide ((t.2.2.2.2.2.1.length:Int)=w.1.1)else decide (t.2.2.2.2.1<w.1.1))&&dG w.2.2.2.1 t)
 else if t.1=4 then decide (d.1=6)&&decide (t.2.2.2.2.1<w.1.1)
 else if t.1=5 then decide (d.1=7)&&decide (d.2.2.1=t.2.2.1)
 else decide (d.1=8)&&(decide (d.2.2.2.2.2.1=t.2.2.2.2.2.2.2.1)&&decide (t.2.2.2.2.2.2.2.1<w.2.2.2.2.2.2.2.2.1))
def cP(k:Nat)(w:ah)(t:aG)(d:aA)(n:Int):Bool:=
 cW t n&&(decide (t.1=0)||(decide (t.2.2.2.2.2.2.2.2<(w.2.2.2.2.2.2.2.2.2.2.2.2.2.length:Int))&&(decide (d.2.1=n)&&decide (d.2.2.2.2.2.2.2.2.2.2.2= -1)&&
  decide ((¬d.2.2.2.2.2.2.2.2.2.2.1= -1)↔(t.1=1/\t.2.1=2))&&mg k w t d)))
section
variable{k:Nat}(hk:9223372036854775808<=k)
include hk
def qW{t:aG}(hs:ai aq t<=1048576):
 ai ae t.2.2.1<=1048576/\ai (.sl ak) t.2.2.2.1<=1048576/\t.2.2.2.2.2.1.length<=1048576/\ai (.sl ae) t.2.2.2.2.2.2.1<=1048576/\ai (.sl ak) t.2.2.1.1<=1048576:=by
 rw[dy hk]at hs;have h2:=az (e:= .int .i64) (l:=t.2.2.2.2.2.1);have:=bj hk t.2.2.1;omega
def MC{t:aA}(hs:ai ay t<=1048576):
 ai ae t.2.2.1<=1048576/\ai (.sl ak) t.2.2.2.1<=1048576/\ai (.sl ae) t.2.2.2.2.2.2.2.1<=1048576/\ai (.sl ak) t.2.2.1.1<=1048576:=by
 rw[cU hk]at hs;have:=bj hk t.2.2.1;omega
def Gf{t:aG}{n:Int}(hs:ai aq t<=1048576):mM k (t,n,())=some (cW t n,()):=by
 obtain⟨j,m,o,p,q⟩:=qW hk hs;simp only[mM,aN,fw hk,EK hk hs,iS hk j,mG hk m,Bk hk hs,ab,cD,cE];refine congrArg some (Prod.ext ?_ rfl);simp only[apply_ite Prod.fst];unfold cW;obtain⟨op,pc,a,l,i,seen,got,nn,hh⟩:=t;obtain⟨a1,a2,a3,a4⟩:=a;clear hs j m o p q;have hA:bI ([]:List af)=true:=rfl;have hS:lh ([]:List Int)=true:=rfl;simp only[zT,bU,aZ,nm,ayg];rw[axL];by_cases b:op=0;subst b;simp;grind;by_cases c:op=1;subst c;simp;grind;by_cases d:op=2;subst d;simp;grind;by_cases e:op=3;subst e;simp;grind;by_cases f:op=4;subst f;simp;grind;by_cases g:op=5;subst g;simp;grind;by_cases h:op=6;subst h;simp;grind;simp[b,c,d,e,f,g,h]
end
def qN(a b:Int):decide (a>=b)= !decide (a<b):=by by_cases h:a<b<;>simp[h]<;>omega
section
variable{k:Nat}(hk:9223372036854775808<=k)
include hk
theorem Lo(op n:Int):kH k (op,n,())=some (decide (n∈jn op),()):=by
 simp only[kH,bB,ab,beq_iff_eq,jn];split;congr 2;rw[axL];simp;omega;split;congr 2;rw[axL];simp;omega;split;congr 2;rw[axL];simp;omega;split;congr 2;rw[axL];simp;split;congr 2;rw[axL];simp;omega;congr 2;rw[axL];simp
def Ej{d:aA}:mD k (d,())=some (eQ k d,()):=by
 obtain⟨op,task,a,l,i,n,code,got,U,inv,b,res⟩:=d;simp only[mD,bB,ab,cD,Lo hk,eQ,aZ];generalize decide (code∈jn op)=q;refine congrArg some (Prod.ext ?_ rfl);simp only[apply_ite Prod.fst];rw[axL];by_cases c:b= -1<;>by_cases e:res= -1<;>by_cases f:inv<=b<;>by_cases g:b<=res<;>cases q<;>simp[c,e,f,g]<;>omega
def zf{w:ah}{t:aG}(hs:ai aq t<=1048576)(n:ai (.sl aj) w.2.2.2.1<=1048576)(b:(if t.2.1=2 then decide ((t.2.2.2.2.2.1.length:Int)=w.1.1)else decide (t.2.2.2.2.1<w.1.1))=true->t.2.2.2.2.2.1.length<=w.2.2.2.1.length)(c:t.2.1<=2):
 jV k (w,t,())=some ((if t.2.1=2 then decide ((t.2.2.2.2.2.1.length:Int)=w.1.1)else decide (t.2.2.2.2.1<w.1.1))&&dG w.2.2.2.1 t,()):=by
 obtain⟨h1,h2,h3,p,h5⟩:=qW hk hs;simp only[jV,aN]
 have hc:(if(if(decide ((t.2.1:Int)<(2:Int)))=true then decide ((t.2.2.2.2.1:Int)>=w.1.1)else false)=true then true else if((t.2.1:Int)==(2:Int))=true then(((axQ t.2.2.2.2.2.1:Nat):Int):Int) != w.1.1 else false)
  = !(if t.2.1=2 then decide ((t.2.2.2.2.2.1.length:Int)=w.1.1)else decide (t.2.2.2.2.1<w.1.1)):=by
  rw[qN,im];by_cases q:t.2.1=2
  ·simp[q]
  ·have q2:t.2.1<2:=by have:=c;omega
   simp[q,q2];exact qN _ _
 rw[hc];rcases I_ (if t.2.1=2 then decide ((t.2.2.2.2.2.1.length:Int)=w.1.1)else decide (t.2.2.2.2.1<w.1.1))with hcc|hcc;rotate_left
 ·rw[hcc];rfl
 have hl:=b hcc;rw[hcc,a_ (by simp)]
 refine(fg (fun i:Nat=>(w,t,bA 0 i (fun i=>decide (t.2.2.2.2.2.1.getD i 0=(w.2.2.2.1.getD i aj.aa).2.1)),(w.2.2.2.1.take i).flatMap aS,t.2.2.2.2.2.1,(t.2.2.2.2.2.1.length:Int),(i:Int),()))
  (fun i=> !decide (t.2.2.2.2.2.1.getD i 0>(w.2.2.2.1.getD i aj.aa).2.1)) t.2.2.2.2.2.1.length
  (e:=some (!jG w.2.2.2.1 t.2.2.2.2.2.1||decide ((w.2.2.2.1.take t.2.2.2.2.2.1.length).flatMap aS=t.2.2.2.2.2.2.1),())) (no:=some (false,())) ?_ ?_ k 0 (by omega) (by omega)).trans ?_
 ·intro G i j;have a:i<w.2.2.2.1.length:=by omega
  have c:=kh hk n a;have d:=gA hk (w.2.2.2.1.take i);unfold bO at d;have hb1:=kF hk (w.2.2.2.1.getD i aj.aa);have f:=cB (e:=aj) w.2.2.2.1 i;have hb3:=az (e:=ae) (l:=(w.2.2.2.1.take i).flatMap aS);have hb4:=az (e:=ae) (l:=aS (w.2.2.2.1.getD i aj.aa))
  have g:decide (((w.2.2.2.1.take i).flatMap aS).length+(aS (w.2.2.2.1.getD i aj.aa)).length<4294967296)=true:=by
   simp only[b_];omega
  simp only[aK,aC j,aC a,j,decide_true,if_true,ej,D_,px hk c,ab,g];rw[aX (by omega),dK aj.aa a,Gx]
  rcases I_ (decide (t.2.2.2.2.2.1.getD i 0>(w.2.2.2.1.getD i aj.aa).2.1))with h|h<;>
   simp only[h,if_true,axK,Q_,en,if_false,cE,yw]
 ·intro G;simp only[aK,o_,decide_false,en,if_false];have d:=gA hk (w.2.2.2.1.take t.2.2.2.2.2.1.length);unfold bO at d;have f:=cB (e:=aj) w.2.2.2.1 t.2.2.2.2.2.1.length;rw[pj hk p];show ayd (if((!jG w.2.2.2.1 t.2.2.2.2.2.1)==false)=true then some (decide (t.2.2.2.2.2.2.1=(w.2.2.2.1.take t.2.2.2.2.2.1.length).flatMap aS),())else some (false,())) (fun m:Bool×Unit=>some (if(!jG w.2.2.2.1 t.2.2.2.2.2.1)=true then true else m.1,()))=_
  have o:decide (t.2.2.2.2.2.2.1=(w.2.2.2.1.take t.2.2.2.2.2.1.length).flatMap aS)=decide ((w.2.2.2.1.take t.2.2.2.2.2.1.length).flatMap aS=t.2.2.2.2.2.2.1):=by
   rw[axL];simp only[b_];exact eq_comm
  rw[o];cases jG w.2.2.2.1 t.2.2.2.2.2.1<;>simp
 ·unfold dG;show(if IJ w.2.2.2.1 t.2.2.2.2.2.1=true then _ else _)=_;cases IJ w.2.2.2.1 t.2.2.2.2.2.1<;>simp
end
def Ls{t:aG}{n:Int}(h:cW t n=true):0<=t.2.2.2.2.2.2.2.2/\(t.1=0\/t.1=1\/t.1=2\/t.1=3\/t.1=4\/t.1=5\/t.1=6):=by
 unfold cW at h;grind
def Ra{t:aG}{n:Int}(h:cW t n=true)(e:t.1=3):(t.2.2.2.2.2.1.length:Int)=t.2.2.2.2.1/\0<=t.2.1/\t.2.1<=2:=by
 unfold cW aZ at h;grind
section
variable{k:Nat}(hk:9223372036854775808<=k)
include hk
def Mz{l:List au}{s:List ag}(hs:ai (.sl aj) l<=1048576):(bD k l s).1.1.length<=1048576:=by
 unfold bD;split;simp[bU];rename_i f;obtain⟨_,_,c⟩:=kV (k:=k) (l:=l) (s:=s) f;have b:=kh hk hs c;generalize l.getD (bg k l s).toNat aj.aa=p at b|-;unfold eR;cases hc:eY p (cn k s)with
 |none=>simp[bU]
 |some i=>
  obtain⟨h,_,_⟩:=aR.1 hc;obtain⟨h1,h2⟩:=ga hk b h;dsimp only;cases g:eU (p.2.2.getD i ax.aa).2 s with
  |none=>simp[bU]
  |some j=>
   obtain⟨m,_,_⟩:=aR.1 g;have h3:=dq (e:=ae) (d:=ae.aa) m;exact sr hk (a:=(p.2.2.getD i ax.aa).2.getD j ae.aa) (by omega)
def ix{w:ah}(hs:ai aD w<=1048576):
 ai db w.1<=1048576/\ai (.sl aj) w.2.2.2.1<=1048576/\ai (.sl aW) w.2.2.2.2.1<=1048576/\ai (.sl ae) w.2.2.2.2.2.1<=1048576/\ai (.sl al) w.2.2.2.2.2.2.2.1<=1048576/\
 w.2.2.2.2.2.2.2.2.2.1.length<=1048576/\ai (.sl ae) w.2.2.2.2.2.2.2.2.2.2.2.1<=1048576/\ai (.sl aq) w.2.2.2.2.2.2.2.2.2.2.2.2.1<=1048576/\ai (.sl ay) w.2.2.2.2.2.2.2.2.2.2.2.2.2<=1048576:=by
 rw[iI hk]at hs;have h:=az (e:=aE) (l:=w.2.2.2.2.2.2.2.2.2.1);omega
theorem GY{e:Ty}{l:List e.den}(a:ai e e.aa=0)(hs:ai (.sl e) l<=1048576)(n:Nat):ai e (l.getD n e.aa)<=1048576:=by
 by_cases h:n<l.length;have:=dq (e:=e) (d:=e.aa) h;omega;rw[axI,List.getElem?_eq_none (by omega),Option.getD_none,a];omega
def A7{w:ah}{t:aG}{d:aA}{n:Int}(hs:ai aD w<=1048576)(hp:(w.2.2.2.1.length:Int)=w.1.1)(o:ai aq t<=1048576)(v:ai ay d<=1048576)(c:cW t n=true):
 kN k (w,t,d,())=some (mg k w t d,()):=by
 obtain⟨_,m,_,_,_,_,_,w8,w9⟩:=ix hk hs;obtain⟨C,t2,t3,t4,D⟩:=qW hk o;obtain⟨E,d2,d3,d4⟩:=MC hk v;have f:=Mz hk (s:=t.2.2.1.1) m;have x:=sr hk E;have d7:=az (e:=ak) (l:=d.2.2.1.1);have d8:=az (e:=ak) (l:=d.2.2.2.1);simp only[kN,oq hk m D,iH hk f,iH hk x,dV hk (a:=d.2.2.1.1) (by omega),dV hk (a:=d.2.2.2.1) (by omega),xU hk C,ab,cE,cD];unfold mg;by_cases p:t.1=1;by_cases b:d.1=1<;>by_cases g:t.2.1=2<;>simp[p,b,g];by_cases y:d.2.2.1.1=t.2.2.1.1<;>cases (bD k w.2.2.2.1 t.2.2.1.1).2<;>by_cases i:(bD k w.2.2.2.1 t.2.2.1.1).1=t.2.2.1<;>simp[i,y];by_cases i:d.2.2.1=t.2.2.1<;>simp[i];by_cases q:t.1=2;by_cases b:d.1=3<;>simp[q,b];by_cases j:t.1=3;obtain⟨e1,e2,F⟩:=Ra c j
 have z:(if t.2.1=2 then decide ((t.2.2.2.2.2.1.length:Int)=w.1.1)else decide (t.2.2.2.2.1<w.1.1))=true->t.2.2.2.2.2.1.length<=w.2.2.2.1.length:=by
  by_cases g:t.2.1=2<;>simp[g]<;>intro h<;>omega
 rw[zf hk o m z F];by_cases b:d.1=4<;>simp[j,b];by_cases r:t.1=4;by_cases b:d.1=6<;>simp[r,b];by_cases u:t.1=5;by_cases b:d.1=7<;>simp[u,b];by_cases b:d.1=8<;>by_cases B:d.2.2.2.2.2.1=t.2.2.2.2.2.2.2.1<;>simp[p,q,j,r,u,b,B]
end
def qu(k:Nat)(w:ah)(j:Nat):Int:=aV k (w.2.2.2.2.2.2.2.2.2.2.2.2.1.getD j aq.aa) w.2.2.2.1.length
def A3(w:ah)(j:Nat):Bool:=bN (w.2.2.2.2.2.2.2.2.2.2.2.2.1.getD j aq.aa)
def oI(k:Nat)(w:ah):Bool:=
 bA 0 w.2.2.2.1.length (fun i=>bA 0 w.2.2.2.2.2.2.2.2.2.2.2.2.1.length (fun j=>decide (qu k w j=i)==decide ((w.2.2.2.1.getD i aj.aa).1=j)))&&
 (bA 0 w.2.2.2.2.2.2.2.2.2.2.2.2.1.length (fun j=>A3 w j==decide (w.2.2.2.2.2.2.1=j))&&aZ w.2.2.2.2.2.2.1 (-1) 4)
section
variable{k:Nat}(hk:9223372036854775808<=k)
include hk
def xI{w:ah}(hs:ai aD w<=1048576):jl k (w,())=some (oI k w,()):=by
 obtain⟨_,w2,_,_,_,_,_,f,w9⟩:=ix hk hs;have hn:=az (e:=aj) (l:=w.2.2.2.1);have hm:=az (e:=aq) (l:=w.2.2.2.2.2.2.2.2.2.2.2.2.1);have a:∀j:Nat,ai aq (w.2.2.2.2.2.2.2.2.2.2.2.2.1.getD j aq.aa)<=1048576:=fun j=>GY hk (e:=aq) rfl f j;simp only[jl,aN]
 refine(fg (fun i:Nat=>(w,w.2.2.2.1,(w.2.2.2.1.length:Int),(i:Int),())) (fun i=>bA 0 w.2.2.2.2.2.2.2.2.2.2.2.2.1.length (fun j=>decide (qu k w j=i)==decide ((w.2.2.2.1.getD i aj.aa).1=j))) w.2.2.2.1.length
  (e:=some (bA 0 w.2.2.2.2.2.2.2.2.2.2.2.2.1.length (fun j=>A3 w j==decide (w.2.2.2.2.2.2.1=j))&&aZ w.2.2.2.2.2.2.1 (-1) 4,())) (no:=some (false,())) ?_ ?_ k 0 (by omega) (by omega)).trans ?_
 intro G i d;simp only[aK,aC d,d,decide_true,if_true,ej]
 refine(fg (fun j:Nat=>(w,(i:Int),w.2.2.2.1.getD i aj.aa,w.2.2.2.1,(w.2.2.2.1.length:Int),(i:Int),w.2.2.2.2.2.2.2.2.2.2.2.2.1,(w.2.2.2.2.2.2.2.2.2.2.2.2.1.length:Int),(j:Int),()))
  (fun j=>decide (qu k w j=i)==decide ((w.2.2.2.1.getD i aj.aa).1=j)) w.2.2.2.2.2.2.2.2.2.2.2.2.1.length
  (e:=G (w,w.2.2.2.1,(w.2.2.2.1.length:Int),((i+1:Nat):Int),())) (no:=some (false,())) ?_ ?_ k 0 (by omega) (by omega)).trans ?_
 intro c j b;simp only[aK,aC b,b,decide_true,if_true,ej,rm hk (a j),ab,cE];rw[aX (by omega)];show(if(!(decide (qu k w j=i)==decide ((w.2.2.2.1.getD i aj.aa).1=j)))=true then _ else _)=_;cases (decide (qu k w j=i)==decide ((w.2.2.2.1.getD i aj.aa).1=(j:Int)))<;>rfl;intro c;simp only[aK,o_,decide_false,en,if_false];rw[aX (by omega)];rfl;intro G;simp only[aK,o_,decide_false,en,if_false]
 refine(fg (fun j:Nat=>(w,w.2.2.2.2.2.2.2.2.2.2.2.2.1,(w.2.2.2.2.2.2.2.2.2.2.2.2.1.length:Int),(j:Int),()))
  (fun j=>A3 w j==decide (w.2.2.2.2.2.2.1=j)) w.2.2.2.2.2.2.2.2.2.2.2.2.1.length
  (e:=some (aZ w.2.2.2.2.2.2.1 (-1) 4,())) (no:=some (false,())) ?_ ?_ k 0 (by omega) (by omega)).trans ?_
 intro c j b;simp only[aK,aC b,b,decide_true,if_true,ej,mT hk,ab,cE];rw[aX (by omega)];show(if(!(A3 w j==decide (w.2.2.2.2.2.2.1=j)))=true then _ else _)=_;cases (A3 w j==decide (w.2.2.2.2.2.2.1=(j:Int)))<;>rfl;intro c;simp only[aK,o_,decide_false,en,if_false,fw hk,ab];cases bA 0 w.2.2.2.2.2.2.2.2.2.2.2.2.1.length (fun j=>A3 w j==decide (w.2.2.2.2.2.2.1=j))<;>simp;unfold oI;cases bA 0 w.2.2.2.1.length (fun i=>bA 0 w.2.2.2.2.2.2.2.2.2.2.2.2.1.length (fun j=>decide (qu k w j=i)==decide ((w.2.2.2.1.getD i aj.aa).1=j)))<;>simp
end
def qO(nn:Int)(h:List aF):Bool:=
 bA 0 h.length (fun i=>decide ((h.getD i aE.aa).2<nn)&&bA 0 i (fun j=> !decide ((h.getD j aE.aa).2=(h.getD i aE.aa).2)))
def tM(w:ah)(g:aw)(j:Nat):Bool:=
 decide ((w.2.2.2.2.2.2.2.2.2.1.getD j aE.aa).2=g.1)&&decide ((w.2.2.2.2.2.2.2.2.2.1.getD j aE.aa).1=ik w.1 g)
def Bu(w:ah)(g:aw):Bool:=
 if decide ((w.2.2.2.2.2.2.2.2.2.2.2.2.1.getD 4 aq.aa).1=6)=true then decide ((w.2.2.2.2.2.2.2.2.2.2.2.2.1.getD 4 aq.aa).2.2.2.2.2.2.2.1=g.1)else false
def fM(w:ah)(g:aw)(n:Nat):Bool:= !bA 0 n (fun j=> !tM w g j)||Bu w g
def tq(w:ah):Bool:=
 bA 0 w.2.2.2.2.2.2.2.1.length (fun i=>(decide ((w.2.2.2.2.2.2.2.1.getD i al.aa).2.2.1<=w.2.2.1)&&
  (decide ((w.2.2.2.2.2.2.2.1.getD i al.aa).2.2.2.1<=w.2.2.1)&&decide ((w.2.2.2.2.2.2.2.1.getD i al.aa).1<w.2.2.2.2.2.2.2.2.1)))&&fM w (w.2.2.2.2.2.2.2.1.getD i al.aa) w.2.2.2.2.2.2.2.2.2.1.length)
def fi(w:ah):Bool:=
 dQ w.2.2.2.2.2.2.2.1 w.1.2.2.2.2.2&&(lj w.2.2.2.2.2.2.2.2.2.1&&(qO w.2.2.2.2.2.2.2.2.1 w.2.2.2.2.2.2.2.2.2.1&&tq w))
def FU(w:ah)(g:aw)(n:Nat):fM w g (n+1)=(if fM w g n=true then true else tM w g n):=by
 unfold fM;rw[Gx];cases Bu w g<;>cases bA 0 n (fun j=> !tM w g j)<;>cases tM w g n<;>rfl
section
variable{k:Nat}(hk:9223372036854775808<=k)
include hk
def Th{c:aY}(h:ai db c<=1048576):c.2.2.2.2.2.length<=1048576:=by
 rw[ng hk]at h;have:=az (e:= .str) (l:=c.2.2.2.2.2);omega
omit hk in
theorem SB{α:Type}(d:α){l:List α}{i j:Nat}(h:j<i):(l.take i).getD j d=l.getD j d:=by
 simp only[axI,ayj,h,if_true]
def xf{w:ah}(hs:ai aD w<=1048576)(q:w.2.2.2.2.2.2.2.2.2.2.2.2.1.length=5):iL k (w,())=some (fi w,()):=by
 obtain⟨t,w2,_,_,u,v,_,w8,w9⟩:=ix hk hs;have r:=Th hk t;have hn:=az (e:=al) (l:=w.2.2.2.2.2.2.2.1);simp only[iL,aN,As hk u r,Ga hk v,ab];unfold fi;cases dQ w.2.2.2.2.2.2.2.1 w.1.2.2.2.2.2 with
 |false=>rfl
 |true=>
  cases lj w.2.2.2.2.2.2.2.2.2.1 with
  |false=>rfl
  |true=>
   simp only[axK,en,if_false,beq_self_eq_true,if_true,ab]
   refine(fg (fun i:Nat=>(w,w.2.2.2.2.2.2.2.1,(w.2.2.2.2.2.2.2.1.length:Int),(i:Int),())) (fun i=>(decide ((w.2.2.2.2.2.2.2.1.getD i al.aa).2.2.1<=w.2.2.1)&&
    (decide ((w.2.2.2.2.2.2.2.1.getD i al.aa).2.2.2.1<=w.2.2.1)&&decide ((w.2.2.2.2.2.2.2.1.getD i al.aa).1<w.2.2.2.2.2.2.2.2.1)))&&fM w (w.2.2.2.2.2.2.2.1.getD i al.aa) w.2.2.2.2.2.2.2.2.2.1.length) w.2.2.2.2.2.2.2.1.length
    (e:=some (qO w.2.2.2.2.2.2.2.2.1 w.2.2.2.2.2.2.2.2.2.1,())) (no:=some (false,())) ?_ ?_ k 0 (by omega) (by omega)).trans ?_
   ·intro m i d;have s:decide ((0:Int)<=4/\(4:Int)<(w.2.2.2.2.2.2.2.2.2.2.2.2.1.length:Int))=true:=by rw[q];rfl
    dsimp only;rw[aK,c_ d,an rfl,an (aC d),ej];generalize w.2.2.2.2.2.2.2.1.getD i al.aa=g;simp only[s,decide_true,if_true,D_,cE];have q1:∀a b:Int,decide (a>b)= !decide (a<=b):=fun a b=>by by_cases h:a<=b<;>simp[h]<;>omega
    rw[show decide (g.1>=w.2.2.2.2.2.2.2.2.1)= !decide (g.1<w.2.2.2.2.2.2.2.2.1)from qN _ _,q1,q1];generalize decide (g.2.2.1<=w.2.2.1)=b1;generalize decide (g.2.2.2.1<=w.2.2.1)=b2;generalize decide (g.1<w.2.2.2.2.2.2.2.2.1)=b3;by_cases n:b1=true/\b2=true/\b3=true;rotate_left
    ·cases b1<;>cases b2<;>cases b3<;>first|rfl|(exact absurd n (by simp))
    obtain⟨x,y,z⟩:=n;subst x y z;rw[axN,axN,axN];refine(tR rfl).trans ?_;refine bX (fun j:Nat=>(w,g,fM w g j,w.2.2.2.2.2.2.2.1,(w.2.2.2.2.2.2.2.1.length:Int),(i:Int),w.2.2.2.2.2.2.2.2.2.1,(w.2.2.2.2.2.2.2.2.2.1.length:Int),(j:Int),())) w.2.2.2.2.2.2.2.2.2.1.length (fun p j c=> ?_) (fun p=> ?_) k 0 (by omega) (by omega)
    ·simp only[aK,aC c,c,decide_true,if_true,ej,D_,DY hk];rw[aX (by omega),FU];unfold tM;cases fM w g j<;>by_cases f:(w.2.2.2.2.2.2.2.2.2.1.getD j aE.aa).2=g.1<;>simp only[f,axK,Q_,en,if_false,if_true,decide_true,decide_false,axN,ax4,ax9,aye,beq_self_eq_true,ab,beq_iff_eq]<;>rfl
    ·simp only[aK,o_,decide_false,en,if_false];rw[aX (by omega)];cases fM w g w.2.2.2.2.2.2.2.2.2.1.length<;>rfl
   ·intro G;simp only[aK,o_,decide_false,en,if_false]
    refine(fg (fun i:Nat=>(w,w.2.2.2.2.2.2.2.2.2.1,(w.2.2.2.2.2.2.2.2.2.1.length:Int),(i:Int),())) (fun i=>decide ((w.2.2.2.2.2.2.2.2.2.1.getD i aE.aa).2<w.2.2.2.2.2.2.2.2.1)&&bA 0 i (fun j=> !decide ((w.2.2.2.2.2.2.2.2.2.1.getD j aE.aa).2=(w.2.2.2.2.2.2.2.2.2.1.getD i aE.aa).2))) w.2.2.2.2.2.2.2.2.2.1.length
     (e:=some (true,())) (no:=some (false,())) ?_ ?_ k 0 (by omega) (by omega)).trans ?_
    ·intro G i d;have o:(w.2.2.2.2.2.2.2.2.2.1.take i).length=i:=by rw[axS];omega
     simp only[aK,aC d,d,decide_true,if_true,ej,qN,o];rcases I_ (decide ((w.2.2.2.2.2.2.2.2.2.1.getD i aE.aa).2<w.2.2.2.2.2.2.2.2.1))with h|h<;>simp only[h,axK,Q_,en,if_false,if_true,axN,ax4];rw[an (by simp only[b_];omega)]
     refine(fg (fun j:Nat=>(w,w.2.2.2.2.2.2.2.2.2.1.getD i aE.aa,w.2.2.2.2.2.2.2.2.2.1,(w.2.2.2.2.2.2.2.2.2.1.length:Int),(i:Int),w.2.2.2.2.2.2.2.2.2.1.take i,(i:Int),(j:Int),())) (fun j=> !decide ((w.2.2.2.2.2.2.2.2.2.1.getD j aE.aa).2=(w.2.2.2.2.2.2.2.2.2.1.getD i aE.aa).2)) i
      (e:=G (w,w.2.2.2.2.2.2.2.2.2.1,(w.2.2.2.2.2.2.2.2.2.1.length:Int),((i+1:Nat):Int),())) (no:=some (false,())) ?_ ?_ k 0 (by omega) (by omega)).trans ?_
     ·intro m j c;simp only[aK,o,aC c,c,decide_true,if_true,ej,cE,SB aE.aa c];rw[aX (by omega)];rcases I_ (decide ((w.2.2.2.2.2.2.2.2.2.1.getD j aE.aa).2=(w.2.2.2.2.2.2.2.2.2.1.getD i aE.aa).2))with f|f<;>simp only[f,axK,Q_,en,if_false,if_true]
     ·intro m;simp only[aK,o_,decide_false,en,if_false];rw[aX (by omega)]
     ·rfl
    ·intro m;simp only[aK,o_,decide_false,en,if_false]
    ·show(if qO w.2.2.2.2.2.2.2.2.1 w.2.2.2.2.2.2.2.2.2.1=true then _ else _)=_;cases qO w.2.2.2.2.2.2.2.2.1 w.2.2.2.2.2.2.2.2.2.1<;>simp
   ·show(if tq w=true then _ else _)=_;cases tq w<;>simp
end
def mZ(k:Nat)(w:ah)(d:aA):Bool:=
 eQ k d&&(decide (d.2.2.2.2.2.2.2.2.2.1<w.2.1)&&(decide (d.2.2.2.2.2.2.2.2.2.2.1<w.2.1)&&decide (d.2.2.2.2.2.2.2.2.2.2.2<w.2.1)))
def oH(k:Nat)(w:ah):Bool:=bA 0 w.2.2.2.2.2.2.2.2.2.2.2.2.2.length (fun i=>mZ k w (w.2.2.2.2.2.2.2.2.2.2.2.2.2.getD i ay.aa))
def mh(w:ah)(t:aG):aA:=w.2.2.2.2.2.2.2.2.2.2.2.2.2.getD t.2.2.2.2.2.2.2.2.toNat ay.aa
def kc(k:Nat)(w:ah):Bool:=bA 0 w.2.2.2.2.2.2.2.2.2.2.2.2.1.length (fun i=>cP k w (w.2.2.2.2.2.2.2.2.2.2.2.2.1.getD i aq.aa) (mh w (w.2.2.2.2.2.2.2.2.2.2.2.2.1.getD i aq.aa)) i)
def lg(k:Nat)(w:ah):Bool:=
 dp k w.2.2.2.1&&(decide ((w.2.2.2.1.length:Int)=w.1.1)&&(decide ((bu w.2.2.2.1:Int)<=w.1.2.1)&&bA 0 (dC (bO w.2.2.2.1)).length (fun i=>cm ((dC (bO w.2.2.2.1)).getD i ae.aa))))
def bE(k:Nat)(w:ah):Bool:=
 cY w.1&&(decide (0<=w.2.1)&&(decide (0<=w.2.2.2.2.2.2.2.2.1)&&(aZ w.2.2.1 0 99899&&(lg k w&&(decide ((w.2.2.2.2.1.length:Int)=w.1.2.2.1)&&(decide ((w.2.2.2.2.2.2.2.2.2.2.2.2.1.length:Int)=5)&&(bI w.2.2.2.2.2.1&&(bI w.2.2.2.2.2.2.2.2.2.2.2.1&&
 (tC w.2.2.2.2.1&&(oH k w&&(kc k w&&(oI k w&&fi w))))))))))))
section
variable{k:Nat}(hk:9223372036854775808<=k)
include hk
def yD{w:ah}(hs:ai aD w<=1048576)(r:(w.2.2.2.1.length:Int)=w.1.1):jj k (w,())=some (oH k w&&kc k w,()):=by
 obtain⟨w1,w2,_,_,w5,w6,_,x,y⟩:=ix hk hs;have hn:=az (e:=ay) (l:=w.2.2.2.2.2.2.2.2.2.2.2.2.2);have hm:=az (e:=aq) (l:=w.2.2.2.2.2.2.2.2.2.2.2.2.1);have b:∀j:Nat,ai ay (w.2.2.2.2.2.2.2.2.2.2.2.2.2.getD j ay.aa)<=1048576:=fun j=>GY hk (e:=ay) rfl y j;have c:∀j:Nat,ai aq (w.2.2.2.2.2.2.2.2.2.2.2.2.1.getD j aq.aa)<=1048576:=fun j=>GY hk (e:=aq) rfl x j;simp only[jj,aN]
 refine(fg (fun i:Nat=>(w,w.2.2.2.2.2.2.2.2.2.2.2.2.2,(w.2.2.2.2.2.2.2.2.2.2.2.2.2.length:Int),(i:Int),())) (fun i=>mZ k w (w.2.2.2.2.2.2.2.2.2.2.2.2.2.getD i ay.aa)) w.2.2.2.2.2.2.2.2.2.2.2.2.2.length
  (e:=some (kc k w,())) (no:=some (false,())) ?_ ?_ k 0 (by omega) (by omega)).trans ?_
 ·intro G i f;dsimp only;rw[aK,c_ f,an rfl,an (aC f),ej,Ej hk,ab,aX (by omega)];generalize w.2.2.2.2.2.2.2.2.2.2.2.2.2.getD i ay.aa=d;rw[qN,qN,qN];unfold mZ;cases eQ k d<;>cases decide (d.2.2.2.2.2.2.2.2.2.1<w.2.1)<;>cases decide (d.2.2.2.2.2.2.2.2.2.2.1<w.2.1)<;>cases decide (d.2.2.2.2.2.2.2.2.2.2.2<w.2.1)<;>rfl
 ·intro G;simp only[aK,o_,decide_false,en,if_false]
  refine(fg (fun i:Nat=>(w,w.2.2.2.2.2.2.2.2.2.2.2.2.1,(w.2.2.2.2.2.2.2.2.2.2.2.2.1.length:Int),(i:Int),())) (fun i=>cP k w (w.2.2.2.2.2.2.2.2.2.2.2.2.1.getD i aq.aa) (mh w (w.2.2.2.2.2.2.2.2.2.2.2.2.1.getD i aq.aa)) i) w.2.2.2.2.2.2.2.2.2.2.2.2.1.length
   (e:=some (true,())) (no:=some (false,())) ?_ ?_ k 0 (by omega) (by omega)).trans ?_
  ·intro q i f;have m:ai aq (w.2.2.2.2.2.2.2.2.2.2.2.2.1.getD i aq.aa)<=1048576:=c i;dsimp only;rw[aK,c_ f,an rfl,an (aC f),ej,aX (by omega)];generalize w.2.2.2.2.2.2.2.2.2.2.2.2.1.getD i aq.aa=t at*
   have n:ai ay (mh w t)<=1048576:=b _;unfold mh at n|-;generalize w.2.2.2.2.2.2.2.2.2.2.2.2.2.getD t.2.2.2.2.2.2.2.2.toNat ay.aa=d at*
   rw[Gf hk m,ab];unfold cP;by_cases a:cW t i=true;rotate_left
   ·simp[a]
   obtain⟨z,hkind⟩:=Ls a;rw[A7 hk hs r m n a];by_cases g:t.1=0
   ·simp[g,a]
   by_cases o:t.2.2.2.2.2.2.2.2<(w.2.2.2.2.2.2.2.2.2.2.2.2.2.length:Int);rotate_left
   ·have:decide (t.2.2.2.2.2.2.2.2>=(w.2.2.2.2.2.2.2.2.2.2.2.2.2.length:Int))=true:=by simp only[b_];omega
    simp[g,this,o,a]
   have q1:decide (t.2.2.2.2.2.2.2.2>=(w.2.2.2.2.2.2.2.2.2.2.2.2.2.length:Int))=false:=by simp only[d_];omega
   simp only[a,q1,z,and_true,true_and,if_true,axK,en,if_false,o,g,decide_true,decide_false,axN,Bool.false_or,cE,im];by_cases h:d.2.1=i;rotate_left
   ·simp[h]
   by_cases p:d.2.2.2.2.2.2.2.2.2.2.2= -1;rotate_left
   ·simp[h,p]
   by_cases s:d.2.2.2.2.2.2.2.2.2.2.1= -1<;>by_cases u:t.1=1<;>by_cases v:t.2.1=2<;>cases mg k w t d<;>simp[h,p,s,u,v]
  ·intro q;simp only[aK,o_,decide_false,en,if_false]
  ·show(if kc k w=true then _ else _)=_;cases kc k w<;>simp
 ·show(if oH k w=true then _ else _)=_;cases oH k w<;>simp
def sorted_at{l:List au}(hs:ai (.sl aj) l<=1048576){i:Nat}(hi:i<(dC (bO l)).length):ai ae ((dC (bO l)).getD i ae.aa)<=1048576:=by
 have h1:=gA hk l;have h2:=rH (bO l);have h3:=dq (e:=ae) (d:=ae.aa) hi;omega
omit hk in
theorem MN(l:List au):(dC (bO l)).length=bu l:=by
 have:=Gj cV (bO l);unfold dC eW bu;rw[axU];exact this
def yu{w:ah}(hs:ai aD w<=1048576)(h8:w.1.2.1<=8):jm k (w,())=some (lg k w,()):=by
 obtain⟨w1,b,_,_,w5,w6,_,w8,w9⟩:=ix hk hs;have hc:=OO hk b;have hsl:=MN w.2.2.2.1;simp only[jm,aN,Dt hk b,vr hk b,ab,im];unfold lg;cases dp k w.2.2.2.1 with
 |false=>rfl
 |true=>
  rcases I_ (decide ((w.2.2.2.1.length:Int)=w.1.1))with hq|hq;rotate_left
  ·rw[hq];rfl
  ·rw[hq];simp only[axK,en,if_false,axN,beq_self_eq_true,if_true,ab];by_cases a:(bu w.2.2.2.1:Int)<=w.1.2.1;rotate_left
   ·rw[an (by simp only[b_];omega),decide_eq_false a];rfl
   rw[a_ (by simp only[b_];omega),c_ a,zi hk b (by omega),ab]
   refine(fg (fun i:Nat=>(w,dC (bO w.2.2.2.1),((dC (bO w.2.2.2.1)).length:Int),(i:Int),())) (fun i=>cm ((dC (bO w.2.2.2.1)).getD i ae.aa)) (dC (bO w.2.2.2.1)).length
    (e:=some (true,())) (no:=some (false,())) ?_ ?_ k 0 (by omega) (by omega)).trans ?_
   ·intro G i c;have d:=sorted_at hk b c;dsimp only;rw[aK,c_ c,an rfl,an (aC c),ej,xU hk d,ab,aX (by omega)];cases cm ((dC (bO w.2.2.2.1)).getD i ae.aa)<;>rfl
   ·intro G;simp only[aK,o_,decide_false,en,if_false]
   ·cases bA 0 (dC (bO w.2.2.2.1)).length (fun i=>cm ((dC (bO w.2.2.2.1)).getD i ae.aa))<;>simp
omit hk in
theorem BC{l:List au}(h:dp k l=true):(1<=l.length/\l.length<=3)/\∀i,i<l.length->aZ (l.getD i aj.aa).1 (-1) 4=true:=by
 unfold dp at h;simp only[H',bM]at h;obtain⟨c,a⟩:=h;refine⟨?_,fun i b=> ?_⟩;unfold aZ at a;simp only[H',b_]at a;omega;have:=c i (by omega) b;unfold gl at this;simp only[H']at this;exact this.2.1
def vM{w:ah}(hs:ai aD w<=1048576):iV k (w,())=some (bE k w,()):=by
 obtain⟨j,w2,l,m,w5,w6,n,w8,w9⟩:=ix hk hs;simp only[iV,FV hk j,fw hk,ab,im,cD];have g:∀a:Int,decide (a<0)= !decide (0<=a):=fun a=>by by_cases h:a<0<;>simp[h]<;>omega
 rw[g,g];unfold bE;by_cases b:cY w.1=true/\0<=w.2.1/\0<=w.2.2.2.2.2.2.2.2.1/\aZ w.2.2.1 0 99899=true/\(w.2.2.2.2.2.2.2.2.2.2.2.2.1.length:Int)=5;rotate_left
 ·have i:(cY w.1&&(decide (0<=w.2.1)&&(decide (0<=w.2.2.2.2.2.2.2.2.1)&&(aZ w.2.2.1 0 99899&&(lg k w&&(decide ((w.2.2.2.2.1.length:Int)=w.1.2.2.1)&&(decide ((w.2.2.2.2.2.2.2.2.2.2.2.2.1.length:Int)=5)&&(bI w.2.2.2.2.2.1&&(bI w.2.2.2.2.2.2.2.2.2.2.2.1&&
   (tC w.2.2.2.2.1&&(oH k w&&(kc k w&&(oI k w&&fi w)))))))))))))=false:=by
   rw[Bool.eq_false_iff];intro h;simp only[H',b_]at h;exact b ⟨h.1,h.2.1,h.2.2.1,h.2.2.2.1,h.2.2.2.2.2.2.1⟩
  rw[i];refine(an ?_).trans rfl
  have c:¬(cY w.1=true/\decide (0<=w.2.1)=true/\decide (0<=w.2.2.2.2.2.2.2.2.1)=true/\aZ w.2.2.1 0 99899=true/\decide ((w.2.2.2.2.2.2.2.2.2.2.2.2.1.length:Int)=5)=true):=by
   simpa only[b_]using b
  generalize cY w.1=b1 at c|-;generalize decide (0<=w.2.1)=b2 at c|-;generalize decide (0<=w.2.2.2.2.2.2.2.2.1)=b3 at c|-;generalize aZ w.2.2.1 0 99899=b4 at c|-;generalize decide ((w.2.2.2.2.2.2.2.2.2.2.2.2.1.length:Int)=5)=b7 at c|-;clear b i;cases b1
  ·rfl
  cases b2
  ·rfl
  cases b3
  ·rfl
  cases b4
  ·rfl
  cases b7
  ·rfl
  exact absurd ⟨rfl,rfl,rfl,rfl,rfl⟩ c
 obtain⟨f,o,p,q,h7⟩:=b
 have d:w.1.2.1<=8:=by
  unfold cY aZ at f;simp only[H',b_]at f;omega
 rw[f,c_ o,c_ p,q,c_ h7];simp only[axN];refine(tR rfl).trans ?_;rw[yu hk hs d,ab];rcases I_ (lg k w)with h5|h5;rotate_left
 ·rw[h5];rfl
 have e:dp k w.2.2.2.1=true/\(w.2.2.2.1.length:Int)=w.1.1:=by
  unfold lg at h5;simp only[H',b_]at h5;exact⟨h5.1,h5.2.1⟩
 rw[h5,zj hk l,jP hk m,jP hk n,yD hk hs e.2,xI hk hs,xf hk hs (by omega)];generalize decide ((w.2.2.2.2.1.length:Int)=w.1.2.2.1)=c1;generalize bI w.2.2.2.2.2.1=c2;generalize bI w.2.2.2.2.2.2.2.2.2.2.2.1=c3;generalize tC w.2.2.2.2.1=c4;generalize oH k w=c5;generalize kc k w=c6;generalize oI k w=c7;generalize fi w=c8;clear h5 e;cases c4<;>cases c1<;>cases c2<;>cases c3<;>cases c5<;>cases c6<;>cases c7<;>first|rfl|(cases c8<;>rfl)
end
def tG(c:aY):List bo:=axR c.2.2.1.toNat ([],false)
def Y0:aY:=(0,0,0,0,0,[])
def su:aG:=(0,0,([],0,0,ByteArray.empty),[],0,[],[],0,0)
def fK(n:Int):List au:=axR (if 1<=n/\n<=3 then n.toNat else 1) (-1,0,[])
def mN(c:aY):ah:=if cY c=true then(c,0,0,fK c.1,tG c,[],-1,[],0,[],[],[],axR 5 su,[])else(Y0,0,0,[],[],[],0,[],0,[],[],[],[],[])
def Li{c:aY}(h:cY c=true):1<=c.2.2.1/\c.2.2.1<=2/\1<=c.1/\c.1<=3:=by
 simp only[cY,aZ,H',b_]at h;omega
def Bq{α:Type}(x:α)(i:Nat):axR (i+1) x=axR i x++[x]:=by
 rw[List.replicate_succ']
section
variable{k:Nat}(hk:9223372036854775808<=k)
include hk
theorem AP{n:Int}:kG k (n,())=some (fK n,()):=by
 simp only[kG];unfold fK;by_cases a:1<=n/\n<=3;rw[an a];refine bX (fun i=>(n,axR (i+1) ((-1,0,[]):au),())) (n.toNat-1) (fun G i hi=> ?_) (fun G=> ?_) k 0 (by omega) (by omega);simp only;rw[an (by simp;omega),an (by simp;omega),<-Bq];simp only;rw[a_ (by simp;omega)];congr 3;omega;rw[a_ a];obtain⟨k,rfl⟩:∃m,k=m+1:=⟨k-1,by omega⟩
 show(if _ then _ else _)=_;rw[a_ (by simp;omega)];rfl
def Az{c:aY}(h:ai db c<=1048576):kO k (c,())=some (mN c,()):=by
 simp only[kO,aN];rw[Ey hk h,ab];unfold mN;cases hc:cY c with
 |false=>rfl
 |true=>
  have hs:=Li hc;rw[a_ (by simp),CN hk (by omega),ab,AP hk,ab];refine bX (fun i=>(c,_,(c,(0:Int),(0:Int),fK c.1,axR i (([],false):bo),([]:List af),(-1:Int),([]:List aw),(0:Int),([]:List aF),([]:List bq),([]:List af),([]:List aG),([]:List aA)),(i:Int),())) c.2.2.1.toNat (fun G i a=> ?_) (fun G=> ?_) k 0 (by omega) (by omega);simp only;rw[an (by simp;omega),an (by simp;omega),aX (by omega),Bq];simp only;rw[a_ (by simp;omega)];refine bX (fun i=>(c,_,(c,(0:Int),(0:Int),fK c.1,tG c,([]:List af),(-1:Int),([]:List aw),(0:Int),([]:List aF),([]:List bq),([]:List af),axR i su,([]:List aA)),(i:Int),())) 5 (fun G i a=> ?_) (fun G=> ?_) k 0 (by omega) (by omega);simp only;rw[an (by simp;omega),an (by simp;omega),aX (by omega),Bq];rfl;simp only;rw[a_ (by simp)];rfl
end
abbrev cA(w:ah):List aG:=w.2.2.2.2.2.2.2.2.2.2.2.2.1
abbrev bG(w:ah):List aA:=w.2.2.2.2.2.2.2.2.2.2.2.2.2
def O7(w:ah)(t:List aG)(d:List aA):ah:=
 (w.1,IntKind.i64.wrap (w.2.1+1),w.2.2.1,w.2.2.2.1,w.2.2.2.2.1,w.2.2.2.2.2.1,w.2.2.2.2.2.2.1,w.2.2.2.2.2.2.2.1,w.2.2.2.2.2.2.2.2.1,w.2.2.2.2.2.2.2.2.2.1,w.2.2.2.2.2.2.2.2.2.2.1,w.2.2.2.2.2.2.2.2.2.2.2.1,t,d)
def pR(t:aG)(h:Int):aG:=(t.1,t.2.1,t.2.2.1,t.2.2.2.1,t.2.2.2.2.1,t.2.2.2.2.2.1,t.2.2.2.2.2.2.1,t.2.2.2.2.2.2.2.1,h)
def opened(w:ah)(i op:Int)(a:af)(l:List ag)(n:Int):aA:=(op,i,a,l,0,n,0,[],w.2.2.1,w.2.1,-1,-1)
def gf(w:ah)(i:Int)(t:aG)(op:Int):ah:=
 O7 w ((cA w).set i.toNat (pR t (bG w).length)) (bG w++[opened w i op t.2.2.1 t.2.2.2.1 t.2.2.2.2.2.2.2.1])
def xb(w:ah)(i:Int):Bool:=aZ i 0 (((cA w).length:Int)-1)&&decide (((cA w).getD i.toNat aq.aa).1=0)
def cT(w:ah)(i:Int):Bool:=aZ i 0 2&&xb w i
def vY:af:=([],0,0,ByteArray.empty)
def pd:aG:=(4,0,vY,[],0,[],[],0,0)
def oR:aG:=(3,0,vY,[],0,[],[],0,0)
def rY(l:List ag):aG:=(2,0,vY,l,0,[],[],0,0)
def qo(a:af):aG:=(1,0,a,[],0,[],[],0,0)
def ET(k:Nat)(w:ah)(i:Int):Bool:=bE k w&&cT w i
def refused(w:ah)(i:Int)(a:af):ah:=O7 w (cA w) (bG w++[(1,i,a,[],0,0,4,[],w.2.2.1,w.2.1,w.2.1,w.2.1)])
def ym{w:ah}{i:Int}(h:cT w i=true):0<=i/\i<=2/\i.toNat<(cA w).length:=by
 unfold cT xb aZ at h;simp only[H',b_]at h;omega
def Rm(k:Nat)(x:ah×Int×aG×Unit):Option (ah×Unit):=
 ayd (cS k (x.1,x.2.1,x.2.2.1,())) fun a=>some ((a.1.1,IntKind.i64.wrap (a.1.2.1+(1:Int)),a.1.2.2),())
section
variable{k:Nat}(hk:9223372036854775808<=k)
include hk
def zF{w:ah}(hs:ai aD w<=1048576):(cA w).length<=1048576/\(bG w).length<=1048576:=by
 obtain⟨w1,w2,w3,w4,w5,w6,w7,a,b⟩:=ix hk hs;exact⟨po (az (e:=aq)) a,po (az (e:=ay)) b⟩
def VR{w:ah}{i:Int}(hs:ai aD w<=1048576):Is k (w,i,())=some (xb w i,()):=by
 have hl:w.2.2.2.2.2.2.2.2.2.2.2.2.1.length<=1048576:=(zF hk hs).1;simp only[Is];rw[D8 (by omega),fw hk,ab];simp only[xb,cA];by_cases h:aZ i 0 ((w.2.2.2.2.2.2.2.2.2.2.2.2.1.length:Int)-1)=true;have a:=h;unfold aZ at a;simp only[H',b_]at a;rw[h];refine(an (by simp;omega)).trans ?_;simp[cE];rw[Bool.not_eq_true]at h;rw[h];exact(an rfl).trans rfl
theorem ER{op:Int}(h0:0<=op)(h1:op<=6):eN k (op,())=some (ayq [0,1,3,4,6,7,8] op.toNat 0,()):=by
 simp only[eN];rw[an (by simp;omega)]
def Ma{w:ah}{i:Int}{t:aG}(hs:ai aD w<=1048576)(ht:ai aq t<=1048576)(b:0<=t.1)(c:t.1<=6)(hi:0<=i)(hi2:i.toNat<w.2.2.2.2.2.2.2.2.2.2.2.2.1.length):
 Rm k (w,i,t,())=some (gf w i t (ayq [0,1,3,4,6,7,8] t.1.toNat 0),()):=by
 have hl:w.2.2.2.2.2.2.2.2.2.2.2.2.2.length<=1048576:=(zF hk hs).2;have hT:=dy hk t;have h2:=az (e:=ak) (l:=t.2.2.2.1);simp only[Rm,cS];rw[vA hk (by omega),ab];simp only[ER hk b c,cR hk (a:=t.2.2.1) (by omega),ab,axM,axY,Nat.zero_add,U_];rw[an (by simp;omega),an (by simp;omega),an (by simp;omega),ab];rfl
def Hl{w:ah}{i:Int}{t:aG}(hs:ai aD w<=1048576)(b:ai aq t<=1048576)(c:0<=t.1)(d:t.1<=6)(hi:0<=i)(a:i.toNat<w.2.2.2.2.2.2.2.2.2.2.2.2.1.length):
 dF k (w,i,t,())=some (gf w i t (ayq [0,1,3,4,6,7,8] t.1.toNat 0),()):=Ma hk hs b c d hi a
def mF{w:ah}{d:aA}(hs:ai aD w<=1048576):bV k (w,d,())=some ((w.1,w.2.1,w.2.2.1,w.2.2.2.1,w.2.2.2.2.1,w.2.2.2.2.2.1,w.2.2.2.2.2.2.1,w.2.2.2.2.2.2.2.1,w.2.2.2.2.2.2.2.2.1,w.2.2.2.2.2.2.2.2.2.1,w.2.2.2.2.2.2.2.2.2.2.1,w.2.2.2.2.2.2.2.2.2.2.2.1,cA w,
 bG w++[(d.1,d.2.1,d.2.2.1,d.2.2.2.1,d.2.2.2.2.1,d.2.2.2.2.2.1,d.2.2.2.2.2.2.1,d.2.2.2.2.2.2.2.1,w.2.2.1,w.2.1,w.2.1,w.2.1)]),()):=by
 have hl:w.2.2.2.2.2.2.2.2.2.2.2.2.2.length<=1048576:=(zF hk hs).2;simp only[bV];rw[an (by simp;omega)]
end
def jL(k:Nat)(t:aG)(n:Int):Int:=
 if n<1 then-1
 else if¬t.2.1=0 then-1
 else if t.1=1 then dP (cn k t.2.2.1.1) n
 else if t.1=2 then dP (cn k t.2.2.2.1) n
 else if t.1=3\/t.1=4 then t.2.2.2.2.1
 else-1
def Ad(t:aG):Bool:=(decide (t.1=5)||decide (t.1=6))&&decide (t.2.1=0)
def uG(k:Nat)(w:ah)(n:Int):Int:=
 if(bE k w&&aZ n 0 4)=true then
  (if 0<=jL k (w.2.2.2.2.2.2.2.2.2.2.2.2.1.getD n.toNat aq.aa) w.2.2.2.1.length then(w.2.2.2.1.getD (jL k (w.2.2.2.2.2.2.2.2.2.2.2.2.1.getD n.toNat aq.aa) w.2.2.2.1.length).toNat aj.aa).1
   else if Ad (w.2.2.2.2.2.2.2.2.2.2.2.2.1.getD n.toNat aq.aa)=true then w.2.2.2.2.2.2.1 else-1)
 else-1
def wo{k:Nat}{w:ah}(h:bE k w=true):dp k w.2.2.2.1=true/\(w.2.2.2.1.length:Int)=w.1.1/\w.2.2.2.2.2.2.2.2.2.2.2.2.1.length=5/\kc k w=true:=by
 unfold bE lg at h;simp only[H',b_]at h;obtain⟨_,_,_,_,⟨a,b,_⟩,_,h3,_,_,_,_,c,_⟩:=h;exact⟨a,b,by omega,c⟩
def abK{k:Nat}{w:ah}(h:bE k w=true){j:Nat}(hj:j<5):jL k (w.2.2.2.2.2.2.2.2.2.2.2.2.1.getD j aq.aa) w.2.2.2.1.length<w.2.2.2.1.length:=by
 obtain⟨d,e,h3,b⟩:=wo h;obtain⟨⟨hl,_⟩,_⟩:=BC d;unfold kc at b;have c:=bM.1 b j (by omega) (by omega);unfold jL;generalize w.2.2.2.2.2.2.2.2.2.2.2.2.1.getD j aq.aa=t at*
 have a:=fun f:Int=>xB (f:=f) (n:=(w.2.2.2.1.length:Int)) (by omega);split;omega;split;omega;split;exact(a _).2;split;exact(a _).2;split;rename_i hc;unfold cP mg at c;rw[e];grind;omega
section
variable{k:Nat}(hk:9223372036854775808<=k)
include hk
def SQ{t:aG}{n:Int}(hs:ai aq t<=1048576):AO k (t,n,())=some (jL k t n,()):=by
 obtain⟨t1,g,t3,t4,h⟩:=qW hk hs;simp only[AO,ni,gG hk h,gG hk g,kX hk,ab,cE,im];unfold jL;by_cases a:n<1;simp[a];by_cases b:t.2.1=0;by_cases c:t.1=1;simp[a,b,c];by_cases d:t.1=2;simp[a,b,c,d];by_cases e:t.1=3;simp[a,b,c,d,e];by_cases f:t.1=4<;>simp[a,b,c,d,e,f];simp[a,b]
theorem Y5{t:aG}:Ce k (t,())=some (Ad t,()):=by
 simp only[Ce,Ad,cE];by_cases a:t.1=5<;>by_cases b:t.1=6<;>simp[a,b]
def WV{w:ah}{n:Int}(hs:ai aD w<=1048576):IW k (w,n,())=some (uG k w n,()):=by
 obtain⟨w1,w2,w3,w4,w5,w6,w7,f,w9⟩:=ix hk hs;simp only[IW,vM hk hs,fw hk,ab];unfold uG;by_cases a:bE k w=true;rotate_left
 ·simp[a]
 by_cases b:aZ n 0 4=true;rotate_left
 ·simp[a,b]
 obtain⟨_,_,h3,_⟩:=wo a;have hn2:0<=n/\n<=4:=by unfold aZ at b;simpa using b
 have hlt:=abK a (j:=n.toNat) (by omega);have d:ai aq (w.2.2.2.2.2.2.2.2.2.2.2.2.1.getD n.toNat aq.aa)<=1048576:=GY hk (e:=aq) rfl f n.toNat;generalize w.2.2.2.2.2.2.2.2.2.2.2.2.1.getD n.toNat aq.aa=t at*
 have q1:decide (0<=n/\n<(w.2.2.2.2.2.2.2.2.2.2.2.2.1.length:Int))=true:=by simp only[b_];omega
 rw[a,b];simp only[axK,beq_self_eq_true,if_true,ab,en,if_false,q1,SQ hk d,Y5 hk,ayf];by_cases c:0<=jL k t w.2.2.2.1.length
 ·have q2:decide (0<=jL k t w.2.2.2.1.length/\jL k t w.2.2.2.1.length<(w.2.2.2.1.length:Int))=true:=by simp only[b_];omega
  rw[an (by simpa using c),an q2,an c]
 ·rw[a_ (by simpa using c),a_ c];cases Ad t<;>rfl
end
end Vg.Tryz
