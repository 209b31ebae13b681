/- VG, joined: an evaluator of the code over typed values, and its soundness, for any program. -/
import Derived.Calls
import Derived.Below
import Derived.Laws.Append
import Derived.Laws.AppendOwn
import Derived.Laws.Cells
import Derived.Laws.Entries
import Derived.Laws.MakeOwn
import Derived.Laws.IdiomCopy
import Derived.Laws.Slices
import Derived.Great.BuildSlice
import Derived.Laws.Strings
import Derived.Laws.BytesString
import Derived.Laws.BytesArg
import Derived.ArgAppend
set_option linter.unusedSimpArgs false
set_option linter.unusedVariables false
set_option linter.unusedSectionVars false
open Option.some renaming injEq -> aae
open List renaming mem_append -> l9,mem_cons -> v7,mem_append_left -> abC,mem_of_mem_drop -> abD,mem_flatMap -> J8,mem_cons_of_mem -> abG,mem_append_right -> abI,take_of_length_le -> ab7,drop_of_length_le -> ab8,mem_singleton -> acd,length_append -> ace,contains_eq_mem -> acf,take_append_of_le_length -> acg,replicate -> ach,nil_append -> aci,getD_eq_getElem?_getD -> acj,drop_drop -> ack,drop_take -> acm,append_nil -> aco,drop_append_of_le_length -> acp,getElem?_eq_none -> acs,all_eq_true -> acu,getElem?_eq_getElem -> acw,mem_eraseDups -> acx,take_take -> acy,append_assoc -> acz,nodup_append -> acA,getElem?_map -> acB,drop_append -> acD,length_cons -> acE,take_succ_eq_append_getElem -> acF,take_append_drop -> acG,mem_of_getElem? -> acI,mem_iff_getElem -> acJ,replicate_succ -> acK,getElem?_range -> acL,getElem?_eq_some_iff -> acP,take_append -> acQ,getD -> acV,mem_filter -> acW,take_zero -> acX,drop_zero -> acY,drop_set_of_lt -> ac0,take_set_of_le -> ac1,take -> ac5,flatten_cons -> ac6,flatMap_cons -> ac7,drop_sublist -> ac8,length -> ac9,flatMap_map -> ada,head?_drop -> adb,take_left -> adf
open Option renaming map_eq_some_iff -> v8,map_eq_none_iff -> aca,getD_some -> acS,bind_eq_some_iff -> acU,map_some -> ade
open Nat renaming add_mul -> sw,mul_le_mul_right -> J_,le_refl -> J2,min_eq_left -> acv,one_mul -> acC,lt_or_ge -> acH,ne_of_lt -> acR,add_assoc -> acZ,zero_add -> ac3
open Array renaming getElem?_eq_getElem -> aa7,ext' -> D',length_toList -> acn,getD_eq_getD_getElem? -> acM,toList_setIfInBounds -> acO,toList_map -> acT,toList_range -> ac4
open Bool renaming and_eq_true -> K_,not_eq_true' -> acr,false_eq_true -> acN
open Int renaming instLEInt -> K',toNat_of_nonneg -> ac2
open Prod.mk renaming injEq -> S'
theorem an.{u}{c:Prop}{h:Decidable c}(hc:c){α:Sort u}{t e:α}:ite c t e=t:=if_pos hc
theorem a_.{u}{c:Prop}{h:Decidable c}(hc:¬c){α:Sort u}{t e:α}:ite c t e=e:=if_neg hc
theorem b_{p:Prop}[Decidable p]:(decide p=true)=p:=decide_eq_true_eq
theorem c_{p:Prop}[h:Decidable p]:p→decide p=true:=decide_eq_true
theorem d_{p:Prop}{h:Decidable p}:decide p=false↔¬p:=decide_eq_false_iff_not
theorem e_{p:Prop}[h:Decidable p]:decide p=true→p:=of_decide_eq_true
namespace Vg
open Go
inductive Ty where
 |int (k:IntKind)
 |bool
 |str
 |sl (e:Ty)
 |pair (a b:Ty)
 deriving DecidableEq,Inhabited
@[reducible] def Ty.den:Ty->Type
  | .int _=>Int
  | .bool=>Bool
  | .str=>ByteArray
  | .sl e=>List e.den
  | .pair a b=>a.den×b.den
def Ty.sz:Ty->Nat
 | .pair a b=>a.sz+b.sz
 |_=>1
def Ty.aa:(τ:Ty)->τ.den
 | .int _=>(0:Int)
 | .bool=>false
 | .str=>ByteArray.empty
 | .sl _=>[]
 | .pair a b=>(a.aa,b.aa)
def Ty.zero:Ty->List Value
 | .int k=>[.int k 0]
 | .bool=>[.bool false]
 | .str=>[.string .empty]
 | .sl _=>[.slice none 0 0]
 | .pair a b=>a.zero++b.zero
def Ty.cn:Ty->Bool
 | .pair _ _=>true
 |_=>false
def cT:Ty->List Value->Value
 | .pair _ _,cs=> .agg cs.toArray
 |_,cs=>cs.headD undef
theorem Ty.og:∀τ:Ty,0<τ.sz
 | .int _| .bool| .str| .sl _=>Nat.one_pos
 | .pair a b=>by have:=a.og;simp only[Ty.sz];omega
theorem Ty.iW:∀τ:Ty,τ.zero.length=τ.sz
 | .int _| .bool| .str| .sl _=>rfl
 | .pair a b=>by simp[Ty.zero,Ty.sz,a.iW,b.iW]
def aN{α:Type}(R:α->List Value->List Nat->Prop):List α->List Value->List Nat->Prop
 | [],cs,B=>cs=[]/\B=[]
 |x::l,cs,B=>∃c1 b c B2,cs=c1++b/\B=c++B2/\R x c1 c/\aN R l b B2
def di{α:Type}(w:World)(sz:Nat)(R:α->List Value->List Nat->Prop)(l:List α)(v:Value)(B:List Nat):Prop:=
 ((∃e,v= .slice e 0 0)/\l=[]/\B=[])\/
 ∃(b off cap:Nat) (c:Array Value) (el:TypeId) (h:Nat×Nat) (d:List Nat),
  v= .slice (some ⟨b,off,none⟩) l.length cap/\l.length<=cap/\w.heap[b]?=some (.cells c el h)/\off+cap*sz<=c.size/\
  B=b::d/\aN R l ((c.toList.drop off).take (l.length*sz)) d
def aK(w:World):(τ:Ty)->τ.den->List Value->List Nat->Prop
 | .int k,n,cs,B=>cs=[.int k n]/\B=[]
 | .bool,b,cs,B=>cs=[.bool b]/\B=[]
 | .str,s,cs,B=>cs=[.string s]/\B=[]
 | .pair a b,p,cs,B=>∃c1 c d B2,cs=c1++c/\B=d++B2/\aK w a p.1 c1 d/\aK w b p.2 c B2
 | .sl e,l,cs,B=>∃v,cs=[v]/\di w e.sz (aK w e) l v B
theorem aN.len{α:Type}{R:α->List Value->List Nat->Prop}{sz:Nat}(o:∀x c B,R x c B->c.length=sz):
 ∀ {l:List α} {cs:List Value} {B:List Nat},aN R l cs B->cs.length=l.length*sz
 | [],_,_,h=>by simp[h.1]
 |x::l,cs,B,h=>by
  obtain⟨c1,c2,B1,B2,rfl,rfl,p,q⟩:=h;simp[o _ _ _ p,aN.len o q,sw,Nat.add_comm]
theorem aK.len{w:World}:∀ {τ:Ty} {x:τ.den} {cs:List Value} {B:List Nat},aK w τ x cs B->cs.length=τ.sz
 | .int _,_,_,_,h=>by rw[h.1];rfl
 | .bool,_,_,_,h=>by rw[h.1];rfl
 | .str,_,_,_,h=>by rw[h.1];rfl
 | .pair a b,p,cs,B,h=>by
   obtain⟨c1,c2,B1,B2,rfl,rfl,o,q⟩:=h;simp[aK.len o,aK.len q,Ty.sz]
 | .sl e,l,cs,B,h=>by obtain⟨v,rfl,_⟩:=h;rfl
theorem aN.mono{α:Type}{R R':α->List Value->List Nat->Prop}(P:Nat->Prop)(p:∀x c B,(∀b∈B,P b)->R x c B->R' x c B):
 ∀ {l:List α} {cs:List Value} {B:List Nat},(∀b∈B,P b)->aN R l cs B->aN R' l cs B
 | [],_,_,_,h=>h
 |x::l,cs,B,hP,h=>by
  obtain⟨q,u,v,y,rfl,rfl,z,A⟩:=h;exact⟨q,u,v,y,rfl,rfl,p _ _ _ (fun b o=>hP b (by simp[o])) z,aN.mono P p (fun b o=>hP b (by simp[o])) A⟩
theorem aK.mono{w w':World}:∀ {τ:Ty} {x:τ.den} {cs:List Value} {B:List Nat},(∀b∈B,w'.heap[b]?=w.heap[b]?)->aK w τ x cs B->aK w' τ x cs B
 | .int _,_,_,_,_,h=>h
 | .bool,_,_,_,_,h=>h
 | .str,_,_,_,_,h=>h
 | .pair a b,p,cs,B,hB,h=>by
   obtain⟨H,I,J,K,rfl,rfl,L,N⟩:=h;exact⟨H,I,J,K,rfl,rfl,aK.mono (fun b o=>hB b (by simp[o])) L,aK.mono (fun b o=>hB b (by simp[o])) N⟩
 | .sl e,l,cs,B,hB,h=>by
   obtain⟨v,rfl,h⟩:=h;refine⟨v,rfl,?_⟩;rcases h with h|⟨b,off,cap,c,el,O,Q,R,q,o,y,rfl,S⟩;exact .inl h;refine .inr ⟨b,off,cap,c,el,O,Q,R,q,(hB b (by simp)).trans o,y,rfl,?_⟩;exact aN.mono (fun b=>w'.heap[b]?=w.heap[b]?) (fun x c B z A=>aK.mono z A) (fun D u=>hB D (by simp[u])) S
theorem aN.bounds{α:Type}{R:α->List Value->List Nat->Prop}(P:Nat->Prop)(p:∀x c B,R x c B->∀b∈B,P b):
 ∀ {l:List α} {cs:List Value} {B:List Nat},aN R l cs B->∀b∈B,P b
 | [],_,_,h,b,o=>by rw[h.2]at o;cases o
 |x::l,cs,B,h,b,o=>by
  obtain⟨c1,c2,B1,B2,rfl,rfl,q,u⟩:=h;rcases l9.1 o with o|o;exact p _ _ _ q b o;exact aN.bounds P p u b o
theorem lt_of_block{w:World}{b:Nat}{o:Obj}(h:w.heap[b]?=some o):b<w.heap.size:=by
 rcases acH b w.heap.size with c|c;exact c;simp[Array.getElem?_eq_none c]at h
theorem aK.bounds{w:World}:∀ {τ:Ty} {x:τ.den} {cs:List Value} {B:List Nat},aK w τ x cs B->∀b∈B,b<w.heap.size
 | .int _,_,_,_,h,b,o=>by rw[h.2]at o;cases o
 | .bool,_,_,_,h,b,o=>by rw[h.2]at o;cases o
 | .str,_,_,_,h,b,o=>by rw[h.2]at o;cases o
 | .pair a b,p,cs,B,h,b',o=>by
   obtain⟨c1,c2,B1,B2,rfl,rfl,y,z⟩:=h;rcases l9.1 o with o|o;exact aK.bounds y b' o;exact aK.bounds z b' o
 | .sl e,l,cs,B,h,b',o=>by
   obtain⟨v,rfl,h⟩:=h;rcases h with h|⟨b,off,cap,c,el,fz,Bs,hv,hcap,q,hsz,rfl,A⟩;rw[h.2.2]at o;cases o;rcases v7.1 o with rfl|o;exact lt_of_block q;exact aN.bounds _ (fun x c B u=>aK.bounds u) A b' o
theorem aK.zero(w:World):∀τ:Ty,aK w τ τ.aa τ.zero []
 | .int _=>⟨rfl,rfl⟩
 | .bool=>⟨rfl,rfl⟩
 | .str=>⟨rfl,rfl⟩
 | .sl _=>⟨_,rfl,.inl ⟨⟨none,rfl⟩,rfl,rfl⟩⟩
 | .pair a b=>⟨_,_,[],[],rfl,rfl,aK.zero w a,aK.zero w b⟩
theorem aN.append{α:Type}{R:α->List Value->List Nat->Prop}:∀ {q o:List α} {c1 h:List Value} {p B2:List Nat},
 aN R q c1 p->aN R o h B2->aN R (q++o) (c1++h) (p++B2)
 | [],_,_,_,_,_,h1,h2=>by rw[h1.1,h1.2];exact h2
 |x::l,o,c1,h,p,B2,h1,h2=>by
  obtain⟨a,b,A,B,rfl,rfl,u,v⟩:=h1;exact⟨a,b++h,A,B++B2,by simp,by simp,u,aN.append v h2⟩
theorem aN.split{α:Type}{R:α->List Value->List Nat->Prop}{sz:Nat}(u:∀x c B,R x c B->c.length=sz):
 ∀ {p q:List α} {cs:List Value} {B:List Nat},aN R (p++q) cs B->
   ∃o B2,B=o++B2/\aN R p (cs.take (p.length*sz)) o/\aN R q (cs.drop (p.length*sz)) B2
 | [],q,cs,B,h=>⟨[],B,rfl,⟨by simp,rfl⟩,by simpa using h⟩
 |x::l,q,cs,B,h=>by
  obtain⟨v,c2,y,A2,rfl,rfl,z,A⟩:=h;obtain⟨o,B2,rfl,D,H⟩:=aN.split u A;have hc:=u _ _ _ z;refine⟨y++o,B2,by simp,⟨v,_,y,o,?_,rfl,z,D⟩,?_⟩;rw[acQ,ab7 (by simp[sw];omega)];congr 2;simp[sw];omega;have e:(x::l).length*sz=v.length+l.length*sz:=by simp[sw];omega
  rw[e,acD,ab8 (by omega)];simpa using H
theorem aN.one{α:Type}{R:α->List Value->List Nat->Prop}{x:α}{cs:List Value}{B:List Nat}(h:R x cs B):aN R [x] cs B:=
 ⟨cs,[],B,[],by simp,by simp,h,rfl,rfl⟩
theorem aN.get{α:Type}{R:α->List Value->List Nat->Prop}{sz:Nat}(z:∀x c B,R x c B->c.length=sz)
 {l:List α} {cs:List Value} {B:List Nat} (h:aN R l cs B) {i:Nat} {x:α} (H:l[i]?=some x):
 ∃q y B2,B=q++y++B2/\R x ((cs.drop (i*sz)).take sz) y/\
  aN R (l.take i) (cs.take (i*sz)) q/\aN R (l.drop (i+1)) (cs.drop ((i+1)*sz)) B2:=by
 obtain⟨J,u⟩:=acP.1 H;have e:l=l.take i++(x::l.drop (i+1)):=by rw[<-u,<-List.drop_eq_getElem_cons J,acG]
 rw[e]at h;obtain⟨q,B2,rfl,A,D⟩:=aN.split z h;have I:(l.take i).length=i:=by simp;omega
 rw[I]at A D;obtain⟨c1,K,L,N,hc,rfl,p,v⟩:=D;have o:=z _ _ _ p;refine⟨q,L,N,by simp,?_,A,?_⟩;rw[hc,acQ,ab7 (by omega)];simpa[o]using p
 have:cs.drop ((i+1)*sz)=K:=by
  rw[sw,acC,<-ack,hc,<-o,List.drop_left]
 rw[this];exact v
theorem aN.set{α:Type}{R:α->List Value->List Nat->Prop}{sz:Nat}
 {l:List α} {i:Nat} {y:α} {cs h:List Value} {o p B2:List Nat} (hi:i<l.length) (q:R y h p)
 (u:aN R (l.take i) (cs.take (i*sz)) o) (v:aN R (l.drop (i+1)) (cs.drop ((i+1)*sz)) B2):
 aN R (l.set i y) (cs.take (i*sz)++h++cs.drop ((i+1)*sz)) (o++p++B2):=by
 have e:l.set i y=l.take i++([y]++l.drop (i+1)):=by
  rw[List.set_eq_take_append_cons_drop,an hi];rfl
 rw[e,acz,acz];exact aN.append u (aN.append (aN.one q) v)
theorem aN.replicate{α:Type}{R:α->List Value->List Nat->Prop}{x:α}{cs:List Value}(h:R x cs []):
 ∀n:Nat,aN R (ach n x) (ach n cs).flatten []
 |0=>⟨rfl,rfl⟩
 |n+1=>by
  rw[acK,acK,ac6];exact⟨cs,_,[],[],rfl,rfl,h,aN.replicate h n⟩
theorem aK.one{w:World}:∀ {τ:Ty} {x:τ.den} {cs:List Value} {B:List Nat},aK w τ x cs B->∀v∈cs,v.oneCell'=true
 | .int _,_,_,_,h,v,o=>by rw[h.1]at o;simp at o;subst o;rfl
 | .bool,_,_,_,h,v,o=>by rw[h.1]at o;simp at o;subst o;rfl
 | .str,_,_,_,h,v,o=>by rw[h.1]at o;simp at o;subst o;rfl
 | .pair a b,p,cs,B,h,v,o=>by
   obtain⟨c1,c2,B1,B2,rfl,rfl,q,y⟩:=h;rcases l9.1 o with o|o;exact aK.one q v o;exact aK.one y v o
 | .sl e,l,cs,B,h,v,o=>by
   obtain⟨u,rfl,h⟩:=h;simp at o;subst o;rcases h with h|⟨b,off,cap,c,el,fz,Bs,rfl,_⟩;obtain⟨ao,e⟩:=h.1;rw[e];rfl;rfl
inductive M where
 |row (t:Nat) (hs:List Nat) (nd:Bool)
 |sha (hs:List Nat)
 |nst (b:Nat) (e:Ty) (i:Int) (o:Nat) (p:List Bool) (fr:Bool)
 |dead
 deriving DecidableEq,Inhabited
inductive Sh where
 |leaf
 |sl (m:M)
 |pair (a b:Sh)
 deriving DecidableEq,Inhabited
structure TV where
 τ:Ty
 x:τ.den
 sh:Sh
inductive SV where
 |no
 |d (v:TV)
 |box (t:Nat) (v:TV)
 |ptr (t:Nat) (o:Nat) (path:List Bool) (τ:Ty)
 |ept (t:Nat) (e:Ty) (i:Int) (o:Nat) (path:List Bool) (τ:Ty)
 |rdp (hs:List Nat) (v:TV)
 |tup (l:List TV)
 |g (j:Nat) (want:Bool) (act:Bool) (v:SV)
structure Env where
 s:List SV
 nt:Nat
 kp:Bool:=false
def aW:List Ty->Type
 | []=>Unit
 |τ::l=>τ.den×aW l
def aW.aa:(l:List Ty)->aW l
 | []=>()
 |τ::l=>(τ.aa,aW.aa l)
structure TI where
 τ:Ty
 fs:List TypeId
 el:TypeId
def eG:Nat->Nat->List Bool
 |0,_=>[]
 |1,_=>[]
 |_+2,0=>[false]
 |n+2,j+1=>true::eG (n+1) j
def Ty.sub:Ty->List Bool->Option Ty
 |τ,[]=>some τ
 | .pair a _,false::p=>a.sub p
 | .pair _ b,true::p=>b.sub p
 |_,_::_=>none
def Ty.off:Ty->List Bool->Nat
 |_,[]=>0
 | .pair a _,false::p=>a.off p
 | .pair a b,true::p=>a.sz+b.off p
 |_,_::_=>0
def fm:(τ:Ty)->τ.den->Sh->List Bool->Option TV
 |τ,x,sh,[]=>some ⟨τ,x,sh⟩
 | .pair a _,x,.pair s1 _,false::p=>fm a x.1 s1 p
 | .pair _ b,x,.pair _ s2,true::p=>fm b x.2 s2 p
 |_,_,_,_::_=>none
def fJ(v:TV)(τ:Ty):Option τ.den:=if h:v.τ=τ then some (cast (congrArg Ty.den h) v.x)else none
def fC:(τ:Ty)->τ.den->Sh->List Bool->TV->Option (τ.den×Sh)
 |τ,_,_,[],v=>match fJ v τ with|some y=>some (y,v.sh)|none=>none
 | .pair a _,x,.pair s1 s2,false::p,v=>match fC a x.1 s1 p v with|some (y,s)=>some ((y,x.2),.pair s s2)|none=>none
 | .pair _ b,x,.pair s1 s2,true::p,v=>match fC b x.2 s2 p v with|some (y,s)=>some ((x.1,y),.pair s1 s)|none=>none
 |_,_,_,_::_,_=>none
def fV:Ty->M->Sh
 | .pair a b,m=> .pair (fV a m) (fV b m)
 | .sl _,m=> .sl m
 |_,_=> .leaf
def Ty.flat:Ty->Bool
 | .pair a b=>a.flat&&b.flat
 | .sl _=>false
 |_=>true
def decode:(τ:Ty)->List Value->Option (τ.den×List Value)
 | .int k,.int k' n::r=>if k'=k then some (n,r)else none
 | .bool,.bool b::r=>some (b,r)
 | .str,.string s::r=>some (s,r)
 | .sl _,.slice none 0 0::r=>some ([],r)
 | .pair a b,cs=>match decode a cs with
   |some (x,r)=>(match decode b r with|some (y,r')=>some ((x,y),r')|none=>none)
   |none=>none
 |_,_=>none
def DA(τ:Ty)(v:Value):Option TV:=
 match τ,v with
 | .pair a b,.agg cs=>(match decode (.pair a b) cs.toList with|some (x,[])=>some ⟨.pair a b,x,fV (.pair a b) (.sha [])⟩|_=>none)
 | .pair _ _,_=>none
 |τ,v=>(match decode τ [v]with|some (x,[])=>some ⟨τ,x,fV τ (.sha [])⟩|_=>none)
inductive Pt where
 |leaf|own|shr|hd|pv|rom
 |pair (a b:Pt)
 deriving DecidableEq,Inhabited
def uU:Ty->Pt
 | .sl _=> .shr
 | .pair a b=> .pair (uU a) (uU b)
 |_=> .leaf
def Pt.rK:Pt->Bool
 | .shr| .hd=>true
 | .pair a b=>a.rK||b.rK
 |_=>false
inductive PK where
 |val (τ:Ty) (p:Pt)
 |io (τ:Ty) (p:Pt)
 |rd (τ:Ty)
 |vx (e:Ty) (l:List Nat)
inductive RK where
 |val (τ:Ty) (p:Pt)
 |nbox (τ:Ty) (p:Pt)
def PK.ty:PK->Ty
 | .val τ _| .io τ _| .rd τ=>τ
 | .vx e _=> .sl e
def RK.ty:RK->Ty
 | .val τ _| .nbox τ _=>τ
def bn:List PK->List Ty
 | []=>[]
 | .val _ _::l=>bn l
 | .io τ _::l=>τ::bn l
 | .rd _::l| .vx _ _::l=>bn l
structure ou where
 ps:List PK
 rs:List RK
 F:aW (ps.map PK.ty)->Option (aW (rs.map RK.ty++bn ps))
 kp:List (Nat×List Bool)
inductive AK where
 |val (τ:Ty) (sh:Sh)
 |box (t:Nat) (τ:Ty) (sh:Sh)
 |ptr (t:Nat) (o:Nat) (path:List Bool) (τ:Ty)
 |ept (t:Nat) (e:Ty) (o:Nat) (path:List Bool) (τ:Ty)
 |rdp (hs:List Nat) (τ:Ty) (sh:Sh)
def AK.JK:AK->List Ty
 | .val τ _=>[τ]
 | .box _ τ _=>[τ]
 | .ptr _ _ _ _=>[]
 | .ept _ _ _ _ _=>[.int .i64]
 | .rdp _ τ _=>[τ]
structure sE where
 ks:List (Nat×AK)
 nt:Nat
structure Cx where
 tt:TypeId->Option TI
 ct:FuncId->Option ou
 la:Nat->Option sE
 ja:Nat->Option sE
 k:Nat
 n:Nat
 io:List Nat
/-tokens-/
def M.ar:M->List Nat
 | .row t hs _=>t::hs
 | .sha hs=>hs
 | .nst b _ _ _ _ _=>[b]
 | .dead=>[]
def Sh.ar:Sh->List Nat
 | .leaf=>[]
 | .sl m=>m.ar
 | .pair a b=>a.ar++b.ar
def Sh.live:Sh->Bool
 | .leaf=>true
 | .sl .dead=>false
 | .sl _=>true
 | .pair a b=>a.live&&b.live
def Sh.map(f:M->M):Sh->Sh
 | .leaf=> .leaf
 | .sl m=> .sl (f m)
 | .pair a b=> .pair (a.map f) (b.map f)
def M.own:M->Option (List Nat)
 | .row t hs nd=>if nd&&hs.all (4<=·)then some (t::hs.filter (·≠t))else none
 | .sha []=>some []
 |_=>none
def M.AA:M->Option (List Nat)
 | .row t hs _=>if hs.all (4<=·)then some (t::hs.filter (·≠t))else none
 | .sha []=>some []
 |_=>none
def Sh.own:Sh->Option (List Nat)
 | .leaf=>some []
 | .sl m=>m.own
 | .pair a b=>match a.own,b.own with
   |some x,some y=>if x.all (!y.contains ·)then some (x++y)else none
   |_,_=>none
def meets(a b:List Nat):Bool:=a.any b.contains
def M.kill(ts:List Nat)(m:M):M:=if meets m.ar ts then .dead else m
def SV.mapM(f:M->M)(fe:Nat->Bool)(fr:List Nat->Option (List Nat)):SV->SV
 | .d v=> .d {v with sh:=v.sh.map f}
 | .box t v=> .box t {v with sh:=v.sh.map f}
 | .ept t e i o p τ=>if fe t then .ept t e i o p τ else .no
 | .rdp hs v=>(match fr hs with|some hs'=> .rdp hs' {v with sh:=v.sh.map f}|none=> .no)
 | .tup l=> .tup (l.map fun v=>{v with sh:=v.sh.map f})
 | .g j w a v=> .g j w a (v.mapM f fe fr)
 |v=>v
def SV.kill(ts:List Nat)(v:SV):SV:=v.mapM (M.kill ts) (!ts.contains ·) (fun hs=>if meets hs ts then none else some hs)
def Env.kill(E:Env)(ts:List Nat):Env:=if ts.isEmpty then E else {E with s:=E.s.map (SV.kill ts)}
def SV.cm(ts:List Nat)(h:List (Nat×Nat)):SV->SV
 | .ept b e i o p τ=>match h.lookup b with|some q=> .ept q e i o p τ|none=>if ts.isEmpty then .ept b e i o p τ else SV.kill ts (.ept b e i o p τ)
 |v=>if ts.isEmpty then v else SV.kill ts v
def Env.cm(E:Env)(ts:List Nat)(h:List (Nat×Nat)):Env:=if h.isEmpty then E.kill ts else {E with s:=E.s.map (SV.cm ts h)}
def ub(ts:List Nat)(t:Nat)(hs:List Nat):List Nat:=(hs.map fun h=>if ts.contains h then t else h).eraseDups
def M.u4(ts:List Nat)(t:Nat):M->M
 | .row u hs nd=>if ts.contains u then .sha (ub ts t (u::hs))else .row u (ub ts t hs) nd
 | .sha hs=> .sha (ub ts t hs)
 | .nst b _ _ _ _ _=> .sha (ub ts t [b])
 | .dead=> .dead
def M.aO(ts:List Nat)(t:Nat)(m:M):M:=if meets m.ar ts then m.u4 ts t else m
def SV.aO(ts:List Nat)(t:Nat)(v:SV):SV:=v.mapM (M.aO ts t) (!ts.contains ·) (fun hs=>some (if meets hs ts then ub ts t hs else hs))
def Env.aO(E:Env)(ts:List Nat)(t:Nat):Env:=if ts.isEmpty then E else {E with s:=E.s.map (SV.aO ts t)}
def Env.get(E:Env)(s:Nat):SV:=E.s.getD s .no
def Env.set(E:Env)(dst:Option Nat)(v:SV):Env:=match dst with|some d=>{E with s:=E.s.set d v}|none=>E
def dE:List SV->Nat->Nat->Option (Nat×TV)
 | [],_,_=>none
 | .box t v::l,u,i=>if t=u then some (i,v)else dE l u (i+1)
 |_::l,u,i=>dE l u (i+1)
def ik(t:Nat)(e:Ty):(τ:Ty)->τ.den->Sh->Option (List e.den×List Nat×Bool)
 | .sl e',l,.sl (.row u hs nd)=>if u=t then(if h:e'=e then some (cast (congrArg (fun τ=>List (Ty.den τ)) h) l,hs,nd)else none)else none
 | .pair a b,x,.pair s1 s2=>match ik t e a x.1 s1 with|some r=>some r|none=>ik t e b x.2 s2
 |_,_,_=>none
def eB(t:Nat)(e:Ty):List SV->Option (List e.den×List Nat×Bool)
 | []=>none
 | .d v::l| .box _ v::l=>match ik t e v.τ v.x v.sh with|some r=>some r|none=>eB t e l
 |_::l=>eB t e l
def iE(t:Nat)(e:Ty)(y:List e.den)(m:M):(τ:Ty)->τ.den->Sh->τ.den×Sh
 | .sl e',l,.sl (.row u hs nd)=>if u=t then(if h:e'=e then(cast (congrArg (fun τ=>List (Ty.den τ)) h.symm) y,.sl m)else(l,.sl .dead))else(l,.sl (.row u hs nd))
 | .pair a b,x,.pair s1 s2=>((iE t e y m a x.1 s1).1,iE t e y m b x.2 s2 |>.1) |> fun z=>(z,.pair (iE t e y m a x.1 s1).2 (iE t e y m b x.2 s2).2)
 |_,x,sh=>(x,sh)
def TV.setRow(t:Nat)(e:Ty)(y:List e.den)(m:M)(v:TV):TV:=⟨v.τ,(iE t e y m v.τ v.x v.sh).1,(iE t e y m v.τ v.x v.sh).2⟩
def SV.setRow(t:Nat)(e:Ty)(y:List e.den)(m:M):SV->SV
 | .d v=> .d (v.setRow t e y m)
 | .box b v=> .box b (v.setRow t e y m)
 | .tup l=> .tup (l.map (TV.setRow t e y m))
 | .g j w a v=> .g j w a (v.setRow t e y m)
 | .rdp hs v=>if(hs++v.sh.ar).contains t then .no else .rdp hs v
 |v=>v
def M.bJ(t:Nat):M->M
 | .row u hs nd=>if u=t then .row u hs nd else if hs.contains t then .dead else .row u hs nd
 | .sha hs=>if hs.contains t then .dead else .sha hs
 | .nst b e i o p fr=>if b=t then .dead else .nst b e i o p fr
 | .dead=> .dead
def SV.bJ(t:Nat)(v:SV):SV:=v.mapM (M.bJ t) (fun _=>true) (fun hs=>if hs.contains t then none else some hs)
structure Rd where
 get:Nat->SV
 box:Nat->Option (Nat×TV)
 row:Nat->(e:Ty)->Option (List e.den×List Nat×Bool)
def bN:SV->SV
 | .box t v=> .ptr t 0 [] v.τ
 | .g j w a v=> .g j w a (bN v)
 |v=>v
def Env.rd(E:Env):Rd:=⟨fun s=>bN (E.get s),fun t=>dE E.s t 0,fun t e=>eB t e E.s⟩
/-operands-/
def fZ(C:Cx)(R:Rd)(t:TypeId):Operand->Option SV
 | .tmp s=>some (R.get s)
 | .const v=>match C.tt t with|some i=>(DA i.τ v).map .d|none=>none
 |_=>none
def xp(G:Option (Nat×Bool)):SV->Option SV
 | .g j w _ v=>if G=some (j,w)then some v else none
 |v=>some v
def arg(C:Cx)(R:Rd)(G:Option (Nat×Bool))(t:TypeId)(x:Operand):Option SV:=(fZ C R t x).bind (xp G)
def cZ(C:Cx)(R:Rd)(G:Option (Nat×Bool))(t:TypeId)(x:Operand):Option TV:=
 match arg C R G t x with|some (.d v)=>if v.sh.live then some v else none|_=>none
inductive Ef:Type 1 where
 |val (v:SV)
 |chk (c:Bool) (v:SV)
 |opt (α:Type) (z:α) (o:Option α) (f:α->SV)
 |put (b:Nat) (s:Nat) (v:TV)
 |app (c:Bool) (kl gv:List Nat) (t:Nat) (v:SV)
 |elem (gv:List Nat) (b:Nat) (e:Ty) (l:List e.den) (m:M)
 |nap (c:Bool) (gv:List Nat) (b:Nat) (e:Ty) (l:List e.den) (m:M) (v:SV)
 |call (α:Type) (o:Option α) (tks:List Nat) (f:α->SV×List (Nat×Nat×TV)) (rp:α->List (Nat×Nat))
def vI(k:IntKind)(n:Int):SV:= .d ⟨.int k,n,.leaf⟩
def vB(b:Bool):SV:= .d ⟨.bool,b,.leaf⟩
def vS(s:ByteArray):SV:= .d ⟨.str,s,.leaf⟩
def bt(s:ByteArray)(i:Int):Int:=((s.data.toList.getD i.toNat 0).toNat:Int)
def eqv:(τ:Ty)->τ.den->τ.den->Bool
 | .int _,a,b=>a==b
 | .bool,a,b=>a==b
 | .str,a,b=>a.toList==b.toList
 | .pair a b,x,y=>eqv a x.1 y.1&&eqv b x.2 y.2
 | .sl _,_,_=>false
def bits(f:∀n,BitVec n->BitVec n->BitVec n)(k:IntKind)(a b:Int):Int:=k.wrap (f k.bits (BitVec.ofInt k.bits a) (BitVec.ofInt k.bits b)).toNat
def YP(op:BinOp)(k:IntKind)(a b:Int):Option Ef:=
 match op with
 | .add=>some (.val (vI k (k.wrap (a+b))))
 | .sub=>some (.val (vI k (k.wrap (a-b))))
 | .mul=>some (.val (vI k (k.wrap (a*b))))
 | .quo=>some (.chk (decide (b≠0)) (vI k (k.wrap (a.tdiv b))))
 | .rem=>some (.chk (decide (b≠0)) (vI k (a.tmod b)))
 | .and=>some (.val (vI k (bits (fun _=>(· &&& ·)) k a b)))
 | .or=>some (.val (vI k (bits (fun _=>(· ||| ·)) k a b)))
 | .xor=>some (.val (vI k (bits (fun _=>(·^^^·)) k a b)))
 | .shr=>some (.chk (decide (0<=b)) (vI k (a.fdiv (2^(min b.toNat k.bits)))))
 | .shl=>some (.chk (decide (0<=b)) (vI k (k.wrap (a*2^(min b.toNat k.bits)))))
 | .eql=>some (.val (vB (a==b)))
 | .neq=>some (.val (vB (a != b)))
 | .lss=>some (.val (vB (decide (a<b))))
 | .leq=>some (.val (vB (decide (a<=b))))
 | .gtr=>some (.val (vB (decide (a>b))))
 | .geq=>some (.val (vB (decide (a>=b))))
 |_=>none
def Xi(op:BinOp)(a b:ByteArray):Option Ef:=
 match op with
 | .add=>some (.chk (decide (a.size+b.size<4294967296)) (vS (a++b)))
 | .eql=>some (.val (vB (a.toList==b.toList)))
 | .neq=>some (.val (vB (!(a.toList==b.toList))))
 | .lss=>some (.val (vB (Op.bytesLess a.toList b.toList)))
 | .leq=>some (.val (vB (Op.bytesLess a.toList b.toList||a.toList==b.toList)))
 | .gtr=>some (.val (vB (!(Op.bytesLess a.toList b.toList||a.toList==b.toList))))
 | .geq=>some (.val (vB (!Op.bytesLess a.toList b.toList)))
 |_=>none
def Y9(op:BinOp)(x y:TV):Option Ef:=
 match x,y with
 |⟨.int k,a,_⟩,⟨.int k',b,_⟩=>if k=k'||op= .shl||op= .shr then YP op k a b else none
 |⟨.str,a,_⟩,⟨.str,b,_⟩=>Xi op a b
 |⟨.bool,a,_⟩,⟨.bool,b,_⟩=>(match op with| .eql=>some (.val (vB (a==b)))| .neq=>some (.val (vB (!(a==b))))|_=>none)
 |⟨.pair a b,x,_⟩,⟨τ,y,s⟩=>match fJ ⟨τ,y,s⟩ (.pair a b)with
  |some y=>if(Ty.pair a b).flat then(match op with| .eql=>some (.val (vB (eqv (.pair a b) x y)))| .neq=>some (.val (vB (!eqv (.pair a b) x y)))|_=>none)else none
  |none=>none
 |_,_=>none
def rn:M->List Nat
 | .row _ hs _=>hs
 | .sha hs=>hs
 | .nst b _ _ _ _ _=>[b]
 | .dead=>[]
def qS(C:Cx)(R:Rd)(G:Option (Nat×Bool))(i:TI):List (Nat×Operand)->i.τ.den->Sh->Option (i.τ.den×Sh)
 | [],x,sh=>some (x,sh)
 |(j,o)::l,x,sh=>match i.fs[j]? with
  |none=>none
  |some b=>match cZ C R G b o with
   |none=>none
   |some v=>match fC i.τ x sh (eG i.fs.length j) v with
    |some (y,s)=>qS C R G i l y s
    |none=>none
def uk(C:Cx)(R:Rd)(G:Option (Nat×Bool))(el:TypeId)(e:Ty):Nat->List (Nat×Operand)->Option (List e.den×List Sh)
 |_,[]=>some ([],[])
 |n,(j,o)::l=>if j=n then(match cZ C R G el o with
  |none=>none
  |some v=>match fJ v e,uk C R G el e (n+1) l with
   |some x,some (xs,ss)=>some (x::xs,v.sh::ss)
   |_,_=>none)else none
def wy:List Sh->Option (List Nat)
 | []=>some []
 |s::l=>match s.own,wy l with
  |some x,some y=>if x.all (!y.contains ·)then some (x++y)else none
  |_,_=>none
def aai(tk:Nat)(b:List Sh):M:=
 match wy b with
 |some ts=> .row tk ts true
 |none=> .row tk (b.flatMap Sh.ar).eraseDups false
def M.same(t:Nat):M->Bool
 | .row u _ _=>u=t
 |_=>false
def Yw(tk:Nat)(flat:Bool)(s y:M):Option (List Nat×List Nat×M):=
 match s with
 | .row t hs nd=>
   if flat then some ([t],[t],.row tk [] true)else
   if y.same t then some ([t],[t],.row tk (ub [t] tk (hs++rn y)) false)else
   if y.ar.contains t then none else
   (match(M.row t hs nd).own,y.own with
   |some a,some b=>if b.all (!a.contains ·)then some ([t],a++b,.row tk [tk] true)else none
   |_,_=>some ([t],[t],.row tk (ub [t] tk (hs++rn y)) false))
 | .sha []=>
   if flat then some ([],[],.row tk [] true)else
   (match y.own with
   |some b=>some ([],b,.row tk [tk] true)
   |none=>some ([],[],.row tk (rn y) false))
 |_=>none
def n9(C:Cx)(R:Rd)(tk:Nat)(G:Option (Nat×Bool))(b:Builtin)(args:List Operand)(ts:List TypeId):Option Ef:=
 match b,args,ts with
 | .len,[x],[t]=>(match C.tt t with
   |none=>none
   |some ti=>match cZ C R G t x with
    |some ⟨.sl e,l,_⟩=>if ti.τ= .sl e then some (.val (vI .i64 (l.length:Int)))else none
    |some ⟨.str,s,_⟩=>if ti.τ= .str then some (.val (vI .i64 (s.size:Int)))else none
    |_=>none)
 | .min,[x,y],[t,u]=>(match cZ C R G t x,cZ C R G u y with
   |some ⟨.int k,a,_⟩,some ⟨.int k',b,_⟩=>if k=k' then some (.val (vI k (if b<a then b else a)))else none
   |_,_=>none)
 | .max,[x,y],[t,u]=>(match cZ C R G t x,cZ C R G u y with
   |some ⟨.int k,a,_⟩,some ⟨.int k',b,_⟩=>if k=k' then some (.val (vI k (if b>a then b else a)))else none
   |_,_=>none)
 | .append,[x,y],[t,u]=>(match C.tt t,cZ C R G t x,cZ C R G u y with
   |some ti,some ⟨.sl e,l,.sl m⟩,some ⟨.sl e',l',.sl m'⟩=>
    (match fJ ⟨.sl e',l',.leaf⟩ (.sl e)with
    |some c=>(match Yw tk e.flat m m' with
     |some (kl,gv,mm)=>if ti.τ= .sl e&&u=t then some (.app (decide (l.length+c.length<4294967296)) kl gv tk (.d ⟨.sl e,l++c,.sl mm⟩))else none
     |none=>none)
    |none=>none)
   |_,_,_=>none)
 |_,_,_=>none
/-calls-/
def jf:Pt->Sh->Bool
 | .leaf,.leaf=>true
 | .own,.sl m=>m.own.isSome
 | .shr,.sl m=>m≠ .dead
 | .pv,.sl m=>m.AA.isSome
 | .rom,.sl m=>m≠ .dead&&m.ar.all (·=3)
 | .hd,.sl (.row _ _ _)=>true
 | .hd,.sl (.sha [])=>true
 | .pair a b,.pair x y=>jf a x&&jf b y
 |_,_=>false
def aQ:Pt->Nat->List Nat->Sh×Nat
 | .leaf,tk,_=>(.leaf,tk)
 | .own,tk,_=>(.sl (.row tk [tk] true),tk+1)
 | .shr,tk,hs=>(.sl (.sha hs),tk)
 | .hd,tk,hs=>(.sl (.row tk (tk::hs) false),tk+1)
 | .pv,tk,_=>(.sl (.row tk [tk] false),tk+1)
 | .rom,tk,_=>(.sl (.sha [3]),tk)
 | .pair a b,tk,hs=>let x:=aQ a tk hs;let y:=aQ b x.2 hs;(.pair x.1 y.1,y.2)
def fb(sm:Nat->Nat):Pt->Sh->Nat->List (Nat×Nat)
 | .own,.sl m,tk=>(m.own.getD []).map fun c=>(c,tk)
 | .shr,.sl m,_=>m.ar.map fun c=>(c,sm c)
 | .pv,.sl m,tk=>(m.AA.getD []).map fun c=>(c,tk)
 | .rom,.sl m,_=>(m.ar.filter (·=3)).map fun c=>(c,3)
 | .hd,.sl (.row t hs _),tk=>(t,tk)::(hs.filter (·≠t)).map fun c=>(c,sm c)
 | .pair a b,.pair x y,tk=>fb sm a x tk++fb sm b y (aQ a tk []).2
 |_,_,_=>[]
def Ey(r:List (Nat×Nat)):Bool:=r.all fun p=>r.lookup p.1==some p.2
def pj(R:Rd):SV->Option (Nat×Nat×TV)
 | .ptr t 0 [] _=>(R.box t).map fun r=>(t,r.1,r.2)
 |_=>none
def M8(r0:List (Nat×Nat))(l:List Nat)(c:Nat):Nat:=match r0.lookup c with|some k=>if l.contains k then k else 1|none=>1
def bH(R:Rd):(ps:List PK)->List SV->Nat->List (Nat×Nat)->Option (aW (ps.map PK.ty)×List (Nat×Nat)×List (Nat×Nat))
 | [],[],_,_=>some ((),[],[])
 | .val τ p::ps,.d v::as,tk,r0=>match fJ v τ,bH R ps as (aQ p tk []).2 (r0++fb (fun _=>1) p v.sh tk)with
   |some x,some (xs,rho,bs)=>if jf p v.sh then some ((x,xs),fb (fun _=>1) p v.sh tk++rho,bs)else none
   |_,_=>none
 | .io τ p::ps,a::as,tk,r0=>match pj R a with
   |some (t,s,v)=>(match fJ v τ,bH R ps as (aQ p (tk+1) []).2 (r0++(t,tk)::fb (fun _=>1) p v.sh (tk+1))with
    |some x,some (xs,rho,bs)=>if jf p v.sh then some ((x,xs),(t,tk)::fb (fun _=>1) p v.sh (tk+1)++rho,(t,s)::bs)else none
    |_,_=>none)
   |none=>none
 | .rd τ::ps,a::as,tk,r0=>match pj R a with
   |some (t,_,v)=>(match fJ v τ,bH R ps as tk r0 with
    |some x,some (xs,rho,bs)=>if jf (uU τ) v.sh then some ((x,xs),(t,1)::fb (fun _=>1) (uU τ) v.sh tk++rho,bs)else none
    |_,_=>none)
   |none=>none
 | .vx e l::ps,.d v::as,tk,r0=>match fJ v (.sl e),bH R ps as tk r0 with
   |some x,some (xs,rho,bs)=>if jf .shr v.sh then some ((x,xs),fb (M8 r0 l) .shr v.sh tk++rho,bs)else none
   |_,_=>none
 |_,_,_,_=>none
def bf:(rs:List RK)->(rest:List Ty)->aW (rs.map RK.ty++rest)->Nat->List Nat->List SV×aW rest×Nat
 | [],_,r,tk,_=>([],r,tk)
 | .val τ p::rs,rest,r,tk,hs=>let s:=aQ p tk hs;let z:=bf rs rest r.2 s.2 hs;(.d ⟨τ,r.1,s.1⟩::z.1,z.2)
 | .nbox τ p::rs,rest,r,tk,hs=>let s:=aQ p (tk+1) hs;let z:=bf rs rest r.2 s.2 hs;(.box tk ⟨τ,r.1,s.1⟩::z.1,z.2)
def db(hs:List Nat):(ps:List PK)->aW (bn ps)->List (Nat×Nat)->Nat->List (Nat×Nat×TV)
 | [],_,_,_=>[]
 | .val _ _::ps,r,bs,tk=>db hs ps r bs tk
 | .io τ p::ps,r,(t,s)::bs,tk=>let z:=aQ p tk hs;(t,s,⟨τ,r.1,z.1⟩)::db hs ps r.2 bs z.2
 | .io _ _::_,_,[],_=>[]
 | .rd _::ps,r,bs,tk| .vx _ _::ps,r,bs,tk=>db hs ps r bs tk
def dT:List RK->Nat->Nat
 | [],tk=>tk
 | .val _ p::rs,tk=>dT rs (aQ p tk []).2
 | .nbox _ p::rs,tk=>dT rs (aQ p (tk+1) []).2
def qB:List PK->Nat->Nat
 | [],tk=>tk
 | .val _ _::ps,tk=>qB ps tk
 | .io _ p::ps,tk=>qB ps (aQ p tk []).2
 | .rd _::ps,tk| .vx _ _::ps,tk=>qB ps tk
def aL(p:Pt)(tk:Nat):Nat:=(aQ p tk []).2
/-the tokens with which a function begins-/
def bP:List PK->Nat->Nat
 | [],tk=>tk
 | .val _ p::ps,tk=>bP ps (aL p tk)
 | .io _ p::ps,tk=>bP ps (aL p (tk+1))
 | .rd _::ps,tk| .vx _ _::ps,tk=>bP ps tk
def cJ:List PK->Nat->List Nat
 | [],_=>[]
 | .val _ p::ps,tk=>cJ ps (aL p tk)
 | .io _ p::ps,tk=>tk::cJ ps (aL p (tk+1))
 | .rd _::ps,tk| .vx _ _::ps,tk=>cJ ps tk
def Nz:List PK->List Nat
 | []=>[]
 | .vx _ l::ps=>l++Nz ps
 | .val _ _::ps| .io _ _::ps| .rd _::ps=>Nz ps
def Kb:List PK->Bool
 | []=>false
 | .rd _::_=>true
 | .val _ _::ps| .io _ _::ps| .vx _ _::ps=>Kb ps
def RK.pt:RK->Pt
 | .val _ p| .nbox _ p=>p
def A0:List PK->Bool
 | []=>false
 | .io _ p::ps=>p.rK||A0 ps
 | .val _ _::ps| .rd _::ps| .vx _ _::ps=>A0 ps
def O9(ps:List PK)(rs:List RK):Bool:=
 (Nz ps).all (fun c=>4<=c&&c<bP ps 4&& !(cJ ps 4).contains c)&&(!Kb ps|| !(rs.any (fun r=>r.pt.rK)||A0 ps))
def kQ:Sh->List Bool->Option Nat
 | .sl (.row t _ _),[]=>some t
 | .pair a _,false::p=>kQ a p
 | .pair _ b,true::p=>kQ b p
 |_,_=>none
def ym(R:Rd)(bs:List (Nat×Nat))(IO:List (Nat×Nat×TV))(c:List (Nat×List Bool)):List (Nat×Nat):=
 c.filterMap fun q=>match bs[q.1]?,IO[q.1]? with
  |some b,some z=>(match R.box b.1 with
   |some r=>(match kQ r.2.sh q.2,kQ z.2.2.sh q.2 with
    |some u,some u'=>some (u,u')
    |_,_=>none)
   |none=>none)
  |_,_=>none
def qb:List SV->Option (List TV)
 | []=>some []
 | .d v::l=>(qb l).map (v::·)
 |_=>none
def mU:List SV->SV
 | [v]=>v
 |l=>match qb l with|some b=> .tup b|none=> .no
def nX(C:Cx)(R:Rd)(G:Option (Nat×Bool)):List Operand->List TypeId->Option (List SV)
 | [],[]=>some []
 |x::xs,t::ts=>match arg C R G t x,nX C R G xs ts with|some v,some vs=>some (v::vs)|_,_=>none
 |_,_=>none
def CI(C:Cx)(R:Rd)(tk:Nat)(G:Option (Nat×Bool))(f:FuncId)(args:List Operand)(ts:List TypeId):Option Ef:=
 match C.ct f with
 |none=>none
 |some c=>match nX C R G args ts with
  |none=>none
  |some as=>match bH R c.ps as 4 []with
   |none=>none
   |some (xs,rho,bs)=>
    if Ey rho&&qB c.ps (dT c.rs 0)<=32&&O9 c.ps c.rs then
     let hs:=(2::(rho.filter (·.2=1)).map (·.1)).eraseDups
     let b:=((rho.filter (4<=·.2)).map (·.1)).filter fun c=> !bs.any (·.1=c)
     if bs.isEmpty&&b.isEmpty then
      some (.opt _ (aW.aa _) (c.F xs) (fun r=>mU (bf c.rs (bn c.ps) r tk hs).1))
     else
      some (.call _ (c.F xs) b (fun r=>
       let z:=bf c.rs (bn c.ps) r tk hs
       (mU z.1,db hs c.ps z.2.1 bs z.2.2))
       (fun r=>
        let z:=bf c.rs (bn c.ps) r tk hs
        ym R bs (db hs c.ps z.2.1 bs z.2.2) c.kp))
    else none
def zD(ops:List Oper)(c:Operand)(want:Bool):SV->Option SV
 | .g j w _ v=>(match c with| .tmp s=>if w=want&&(ops[j]?).bind (·.dst)=some s then some v else none|_=>none)
 |v=>some v
def bj(C:Cx)(ops:List Oper)(R:Rd)(tk:Nat)(G:Option (Nat×Bool))(o:Oper):Option Ef:=
 match o.op with
 | .move x| .assign x=>(arg C R G o.type x).map .val
 | .pick c a b=>(match arg C R G 0 c,fZ C R o.type a,fZ C R o.type b with
   |some (.d ⟨.bool,t,_⟩),some a,some b=>
    (match zD ops c true a,zD ops c false b with
    |some (.d ⟨.bool,p,_⟩),some (.d ⟨.bool,q,_⟩)=>some (.val (vB (if t=true then p else q)))
    |_,_=>none)
   |_,_,_=>none)
 | .alloc t=>(C.tt t).map fun i=> .val (.box tk ⟨i.τ,i.τ.aa,fV i.τ (.sha [])⟩)
 | .box t x=>(match C.tt t,cZ C R G t x with
   |some i,some v=>if v.τ=i.τ then some (.val (.box tk v))else none
   |_,_=>none)
 | .build t ps=>(match C.tt t with
   |some i=>if i.fs.isEmpty then none else(qS C R G i ps.toList i.τ.aa (fV i.τ (.sha []))).map fun r=> .val (.d ⟨i.τ,r.1,r.2⟩)
   |none=>none)
 | .buildSlice t n ps=>(match C.tt t with
   |some ⟨.sl e,_,el⟩=>if ps.size=n&&n*e.sz<=16777216 then(uk C R G el e 0 ps.toList).map fun r=> .val (.d ⟨.sl e,r.1,.sl (aai tk r.2)⟩)else none
   |_=>none)
 | .load t a=>(match C.tt t with
   |none=>none
   |some ti=>match arg C R G 0 a with
    |some (.ptr b o p _)=>(match R.box b with
     |some (_,v)=>(match fm v.τ v.x v.sh p with
      |some r=>if v.τ.off p=o&&r.τ=ti.τ then some (.val (.d r))else none
      |none=>none)
     |none=>none)
    |some (.ept b e i o p _)=>(match R.row b e with
     |some (l,hs,_)=>if e.off p=o&&e.sub p=some ti.τ then(fm e (l.getD i.toNat e.aa) (fV e (.sha (2::hs))) p).map fun r=> .val (.d r)else none
     |none=>none)
    |some (.rdp _ v)=>if v.τ=ti.τ then some (.val (.d v))else none
    |_=>none)
 | .store t a x=>(match C.tt t,arg C R G 0 a,cZ C R G t x with
   |some ti,some (.ptr b o p _),some v=>(match R.box b with
    |some (s,u)=>if u.τ.off p=o&&v.τ=ti.τ then(fC u.τ u.x u.sh p v).map fun r=> .put b s ⟨u.τ,r.1,r.2⟩else none
    |none=>none)
   |some ti,some (.ept b e i o p τ),some v=>(match R.row b e with
    |some (l,hs,nd)=>
     if e.off p=o&&e.sub p=some τ&&v.τ=τ&&v.τ=ti.τ then
      let own:Option (List Nat):=if τ.flat then none else match(M.row b hs nd).own,v.sh.own with
       |some a,some c=>if c.all (!a.contains ·)then some ((a++c).filter (·≠b))else none
       |_,_=>none
      let gv:=own.getD []
      let m:M:=if own.isSome then .row b [b] true else if τ.flat then .row b hs nd else .row b (hs++v.sh.ar).eraseDups false
      if own.isNone&&v.sh.ar.contains b then none else
      (fC e (l.getD i.toNat e.aa) (fV e (.sha [])) p v).map fun r=> .elem gv b e (l.set i.toNat r.1) m
     else none
    |none=>none)
   |_,_,_=>none)
 | .nilCheck x=>(match arg C R G 0 x with
   |some (.ptr t o p τ)=>some (.val (.ptr t o p τ))
   |some (.ept t e i o p τ)=>some (.val (.ept t e i o p τ))
   |some (.rdp hs v)=>some (.val (.rdp hs v))
   |_=>none)
 | .binOp op t x y u=>(match C.tt t,cZ C R G t x,cZ C R G u y with|some i,some a,some b=>if a.τ=i.τ then Y9 op a b else none|_,_,_=>none)
 | .unOp op t x=>(match op,cZ C R G t x with
   | .not,some ⟨.bool,b,_⟩=>some (.val (vB !b))
   | .neg,some ⟨.int k,n,_⟩=>some (.val (vI k (k.wrap (0-n))))
   |_,_=>none)
 | .convert s d x=>(match C.tt s with
   |some h=>(match C.tt d,cZ C R G s x with
    |some ⟨.int k,_,_⟩,some ⟨.int _,n,_⟩=>some (.val (vI k (k.wrap n)))
    |some ⟨.str,_,_⟩,some ⟨.str,v,_⟩=>some (.val (vS v))
    |some ⟨.str,_,_⟩,some ⟨.sl (.int .u8),l,_⟩=>if h.τ= .sl (.int .u8)then some (.val (vS ⟨(l.map fun n=>UInt8.ofNat n.toNat).toArray⟩))else none
    |_,_=>none)
   |none=>none)
 | .makeSlice t n c=>(match C.tt t,cZ C R G 3 n,cZ C R G 3 c with
   |some ⟨.sl e,_,_⟩,some ⟨.int .i64,a,_⟩,some ⟨.int .i64,b,_⟩=>some (.chk (decide (0<=a/\a<4294967296/\b=a)) (.d ⟨.sl e,ach a.toNat e.aa,.sl (.row tk [tk] true)⟩))
   |_,_,_=>none)
 | .slice t x lo hi mx=>(match C.tt t with
   |none=>none
   |some ti=>match cZ C R G t x,lo.map (cZ C R G 3),hi.map (cZ C R G 3),mx with
    |some ⟨.sl e,l,.sl m⟩,none,none,none=>if ti.τ= .sl e then some (.val (.d ⟨.sl e,l,.sl (.sha m.ar)⟩))else none
    |some ⟨.sl e,l,.sl m⟩,some (some ⟨.int .i64,a,_⟩),none,none=>if ti.τ= .sl e then some (.chk (decide (0<=a/\a<=l.length)) (.d ⟨.sl e,l.drop a.toNat,.sl (.sha m.ar)⟩))else none
    |some ⟨.sl e,l,.sl m⟩,none,some (some ⟨.int .i64,b,_⟩),none=>if ti.τ= .sl e then some (.chk (decide (0<=b/\b<=l.length)) (.d ⟨.sl e,l.take b.toNat,.sl (.sha m.ar)⟩))else none
    |some ⟨.sl e,l,.sl m⟩,some (some ⟨.int .i64,a,_⟩),some (some ⟨.int .i64,b,_⟩),none=>if ti.τ= .sl e then some (.chk (decide (0<=a/\a<=b/\b<=l.length)) (.d ⟨.sl e,(l.take b.toNat).drop a.toNat,.sl (.sha m.ar)⟩))else none
    |some ⟨.str,s,_⟩,some (some ⟨.int .i64,a,_⟩),none,none=>if ti.τ= .str then some (.chk (decide (0<=a/\a<=s.size)) (vS (s.extract a.toNat s.size)))else none
    |some ⟨.str,s,_⟩,none,some (some ⟨.int .i64,b,_⟩),none=>if ti.τ= .str then some (.chk (decide (0<=b/\b<=s.size)) (vS (s.extract 0 b.toNat)))else none
    |some ⟨.str,s,_⟩,some (some ⟨.int .i64,a,_⟩),some (some ⟨.int .i64,b,_⟩),none=>if ti.τ= .str then some (.chk (decide (0<=a/\a<=b/\b<=s.size)) (vS (s.extract a.toNat b.toNat)))else none
    |_,_,_,_=>none)
 | .fieldAddr s x j=>(match C.tt s with
   |none=>none
   |some i=>if j<i.fs.length then
    (match i.τ.sub (eG i.fs.length j),arg C R G 0 x with
    |some σ,some (.ptr t o p τ)=>if τ=i.τ then some (.val (.ptr t (o+i.τ.off (eG i.fs.length j)) (p++eG i.fs.length j) σ))else none
    |some σ,some (.ept t e n o p τ)=>if τ=i.τ then some (.val (.ept t e n (o+i.τ.off (eG i.fs.length j)) (p++eG i.fs.length j) σ))else none
    |some _,some (.rdp hs v)=>if v.τ=i.τ then(fm v.τ v.x v.sh (eG i.fs.length j)).map fun r=> .val (.rdp hs r)else none
    |_,_=>none)else none)
 | .field s x j=>(match C.tt s,cZ C R G s x with
   |some i,some v=>if v.τ=i.τ&&j<i.fs.length then(fm v.τ v.x v.sh (eG i.fs.length j)).map fun r=> .val (.d r)else none
   |_,_=>none)
 | .indexAddr t x n=>(match C.tt t,cZ C R G t x,cZ C R G 3 n with
   |some ti,some ⟨.sl e,l,.sl (.row u _ _)⟩,some ⟨.int _,i,_⟩=>if ti.τ= .sl e then some (.chk (decide (0<=i/\i<l.length)) (.ept u e i 0 [] e))else none
   |some ti,some ⟨.sl e,l,.sl (.sha hs)⟩,some ⟨.int _,i,_⟩=>if ti.τ= .sl e then some (.chk (decide (0<=i/\i<l.length)) (.rdp hs ⟨e,l.getD i.toNat e.aa,fV e (.sha (2::hs))⟩))else none
   |_,_,_=>none)
 | .index t x n=>(match C.tt t,cZ C R G t x,cZ C R G 3 n with
   |some ti,some ⟨.str,s,_⟩,some ⟨.int _,i,_⟩=>if ti.τ= .str then some (.chk (decide (0<=i/\i<s.size)) (vI .u8 (bt s i)))else none
   |_,_,_=>none)
 | .extract x j=>(match arg C R G 0 x with
   |some (.tup l)=>(l[j]?).map fun v=> .val (.d v)
   |_=>none)
 | .call c=>(match c.callee with
   | .builtin b=>n9 C R tk G b c.args.toList c.argTypes.toList
   | .value (.func f)=>CI C R tk G f c.args.toList c.argTypes.toList
   |_=>none)
 |_=>none
def Zs(ops:List Oper)(d:Option Nat):Bool:=
 ops.any fun q=>match q.op,d with
  | .call c,some d=>(match c.callee,c.args.toList with| .builtin .append,[.tmp x,_]=>x=d|_,_=>false)
  |_,_=>false
def pY(C:Cx)(ops:List Oper)(R:Rd)(tk:Nat)(o:Oper):Option Ef:=
 match o.op with
 | .load t a=>(match C.tt t,arg C R none 0 a with
   |some ti,some (.ept b e i off p _)=>(match R.row b e with
    |some (l,hs,nd)=>if nd&&hs.all (·=b)&&Zs ops o.dst&&e.off p=off&&e.sub p=some ti.τ then
     (match fm e (l.getD i.toNat e.aa) (fV e (.sha [b])) p with
     |some ⟨.sl σ,x,_⟩=>some (.val (.d ⟨.sl σ,x,.sl (.nst b e i off p true)⟩))
     |_=>none)else none
    |none=>none)
   |_,_=>none)
 | .store t a x=>(match C.tt t,arg C R none 0 a,cZ C R none t x with
   |some ti,some (.ept b e i off p τ),some ⟨.sl σ,y,.sl (.nst b' e' i' off' p' _)⟩=>(match R.row b e with
    |some (l,hs,nd)=>if nd&&hs.all (·=b)&&b'=b&&e'=e&&off'=off&&p'=p&&e.off p=off&&e.sub p=some τ&&Ty.sl σ=τ&&τ=ti.τ then
     (fC e (l.getD i.toNat e.aa) (fV e (.sha [])) p ⟨.sl σ,y,.sl (.sha [])⟩).map fun r=> .nap (decide (i=i')) [] b e (l.set i.toNat r.1) (.row b [b] true) .no
     else none
    |none=>none)
   |_,_,_=>none)
 | .call c=>(match c.callee,c.args.toList,c.argTypes.toList with
   | .builtin .append,[x,y],[t,u]=>(match C.tt t,cZ C R none t x,cZ C R none u y with
     |some ti,some ⟨.sl e,l,.sl (.nst b E i off p true)⟩,some ⟨.sl e',l',.sl m'⟩=>(match fJ ⟨.sl e',l',.leaf⟩ (.sl e),R.row b E,m'.own with
      |some l2,some (L,hs,nd),some ys=>if nd&&hs.all (·=b)&& !ys.contains b&&ti.τ= .sl e&&u=t then
       some (.nap (decide (l.length+l2.length<4294967296)) (tk::ys) b E L (.row b [b] true) (.d ⟨.sl e,l++l2,.sl (.nst b E i off p false)⟩))else none
      |_,_,_=>none)
     |_,_,_=>none)
   |_,_,_=>none)
 |_=>none
def jk(C:Cx)(ops:List Oper)(R:Rd)(tk:Nat)(G:Option (Nat×Bool))(o:Oper):Option Ef:=
 match G with
 |none=>(match pY C ops R tk o with|some b=>some b|none=>bj C ops R tk none o)
 |some g=>bj C ops R tk (some g) o
def guardOf(ops:List Oper)(R:Rd):Option (Nat×Bool)->Option (Option Bool)
 |none=>some none
 |some (j,w)=>match(ops[j]?).bind (·.dst)with
  |none=>none
  |some s=>match R.get s with
   | .d ⟨.bool,b,_⟩=>some (some (b==w))
   | .g _ _ a (.d ⟨.bool,b,_⟩)=>some (some (a&&(b==w)))
   |_=>none
def SV.du:SV->Bool
 | .box _ _=>true
 |_=>false
def SV.jA:SV->SV
 | .g _ _ _ _=> .no
 |v=>v
def dO(G:Option (Nat×Bool))(a:Option Bool)(v:SV):SV:=
 match G,a with|some (j,w),some b=>if v.du then .no else .g j w b v|_,_=>v.jA
def bK:List (Nat×Nat×TV)->List SV->List SV
 | [],E=>E
 |(t,s,v)::l,E=>bK l (E.set s (.box t v))
def Env.elem(E:Env)(gv:List Nat)(b:Nat)(e:Ty)(l:List e.den)(m:M):Env:=
 {E with s:=E.s.map fun s=>((s.aO gv b).bJ b).setRow b e l m}
section
variable{ρ:Type}
def bc(o:Oper)(a:Option Bool)(E:Env)(k:Env->Option ρ):Ef->Option ρ
 | .val v=>k (E.set o.dst (dO o.guard a v))
 | .chk c v=>if(match a with|none=>c|some b=> !b||c)=true then k (E.set o.dst (dO o.guard a v))else none
 | .opt _ z x f=>(match a with|none=>x|some b=>if b=true then x else some z).bind fun r=>k (E.set o.dst (dO o.guard a (f r)))
 | .put b s v=>if a.isNone&&o.dst.isNone then k {E with s:=E.s.set s (.box b v)}else none
 | .app c kl gv t v=>if a.isNone then(if c=true then k (((E.kill kl).aO gv t).set o.dst v.jA)else none)else none
 | .elem gv b e l m=>if a.isNone&&o.dst.isNone then k (E.elem gv b e l m)else none
 | .nap c gv b e l m v=>if a.isNone then(if c=true then k ((E.elem gv b e l m).set o.dst v.jA)else none)else none
 | .call _ x tks f rp=>if a.isNone then x.bind fun r=>let E1:=E.cm tks (rp r);k (Env.set {E1 with s:=bK (f r).2 E1.s} o.dst (f r).1.jA)else none
def xi(C:Cx)(ops:List Oper)(b:Nat):List Oper->Nat->Env->(Env->Option ρ)->Option ρ
 | [],_,E,k=>k E
 |o::l,i,E,k=>match guardOf ops E.rd o.guard with
  |none=>none
  |some a=>match jk C ops E.rd (b+32*i) o.guard o with
   |none=>none
   |some c=>bc o a E (fun E'=>xi C ops b l (i+1) E' k) c
end
def gk(ops:List Oper):Bool:=
 ops.zipIdx.all fun p=>match p.1.guard with
  |none=>true
  |some (j,_)=>j<p.2&&match(ops[j]?).bind (·.dst)with
   |none=>false
   |some d=>ops.zipIdx.all fun q=>q.2=j||q.1.dst≠some d
def keeps(io:List Nat)(ops:List Oper):Bool:=ops.all fun o=>match o.dst with|some d=> !io.contains d|none=>true
def jL(E:Env)(ops:List Oper):Env:=
 if ops.all (·.guard.isNone)then E else {E with s:=E.s.map SV.jA}
section
variable{ρ:Type}
def aM{σ:Type}:Nat->((σ->Option ρ)->σ->Option ρ)->σ->Option ρ
 |0,_,_=>none
 |n+1,f,s=>f (aM n f) s
def aR{σ:Type}(a:(σ->Option ρ)->Option ρ)(b:σ->Option ρ):Option ρ:=a b
end
inductive Tr:Type 1 where
 |id
 |kg (kl gv:List Nat) (t:Nat)
 |el (gv:List Nat) (b:Nat) (e:Ty) (l:List e.den) (m:M)
 |ki (ts:List Nat) (rp:List (Nat×Nat))
def eS(ts:List Nat)(v:SV):SV:=if ts.isEmpty then v else v.kill ts
def ky(ts:List Nat)(t:Nat)(v:SV):SV:=if ts.isEmpty then v else v.aO ts t
def Tr.sv:Tr->SV->SV
 | .id=>fun v=>v
 | .kg ks gv t=>fun v=>ky gv t (eS ks v)
 | .el gv b e l m=>fun v=>((v.aO gv b).bJ b).setRow b e l m
 | .ki ts rp=>fun v=>if rp.isEmpty then eS ts v else v.cm ts rp
def Tr.pM:Tr->Bool
 | .id=>true
 | .kg ks gv _=>ks.isEmpty&&gv.isEmpty
 | .ki ts rp=>ts.isEmpty&&rp.isEmpty
 |_=>false
def Tr.fG:Tr->List Nat
 | .id=>[]
 | .kg ks gv t=>t::(ks++gv)
 | .el gv b _ _ _=>b::gv
 | .ki ts rp=>ts++(rp.map (·.1)++rp.map (·.2))
def Tr.nN:Tr->List Nat
 | .id=>[]
 | .kg ks gv t=>t::(ks++gv)
 | .el gv _ _ _ _=>gv
 | .ki ts rp=>ts++(rp.map (·.1)++rp.map (·.2))
def Tr.ok:Tr->Bool
 | .el _ b _ _ m=>m.ar.contains b
 |_=>true
def wr(d:Option Nat)(v:SV):List (Nat×SV):=match d with|some d=>[(d,v)]|none=>[]
def iV(o:Oper)(a:Option Bool):Ef->Option (Tr×List (Nat×SV))
 | .val v=>some (.id,wr o.dst (dO o.guard a v))
 | .chk c v=>if(match a with|none=>c|some b=> !b||c)=true then some (.id,wr o.dst (dO o.guard a v))else none
 | .opt _ z x f=>(match a with|none=>x|some b=>if b=true then x else some z).bind fun r=>some (.id,wr o.dst (dO o.guard a (f r)))
 | .put b s v=>if a.isNone&&o.dst.isNone then some (.id,[(s,.box b v)])else none
 | .app c kl gv t v=>if a.isNone then(if c=true then some (.kg kl gv t,wr o.dst v.jA)else none)else none
 | .elem gv b e l m=>if a.isNone&&o.dst.isNone then some (.el gv b e l m,[])else none
 | .nap c gv b e l m v=>if a.isNone then(if c=true then some (.el gv b e l m,wr o.dst v.jA)else none)else none
 | .call _ x tks f rp=>if a.isNone then x.bind fun r=>some (.ki tks (rp r),(f r).2.map (fun p=>(p.2.1,SV.box p.1 p.2.2))++wr o.dst (f r).1.jA)else none
def qz{ρ:Type}(o:Oper)(a:Option Bool)(d:Ef)(k:Tr×List (Nat×SV)->Option ρ):Option ρ:=
 match d with
 | .val v=>k (.id,wr o.dst (dO o.guard a v))
 | .chk c v=>if(match a with|none=>c|some b=> !b||c)=true then k (.id,wr o.dst (dO o.guard a v))else none
 | .opt _ z x f=>(match a with|none=>x|some b=>if b=true then x else some z).bind fun r=>k (.id,wr o.dst (dO o.guard a (f r)))
 | .put b s v=>if a.isNone&&o.dst.isNone then k (.id,[(s,.box b v)])else none
 | .app c kl gv t v=>if a.isNone then(if c=true then k (.kg kl gv t,wr o.dst v.jA)else none)else none
 | .elem gv b e l m=>if a.isNone&&o.dst.isNone then k (.el gv b e l m,[])else none
 | .nap c gv b e l m v=>if a.isNone then(if c=true then k (.el gv b e l m,wr o.dst v.jA)else none)else none
 | .call _ x tks f rp=>if a.isNone then x.bind fun r=>k (.ki tks (rp r),(f r).2.map (fun p=>(p.2.1,SV.box p.1 p.2.2))++wr o.dst (f r).1.jA)else none
def cN(ws:List (Nat×SV))(L:List SV):List SV:=ws.foldl (fun L p=>L.set p.1 p.2) L
def Env.gE(E:Env)(r:Tr×List (Nat×SV)):Env:={E with s:=cN r.2 (E.s.map r.1.sv)}
def SV.eE:SV->List Nat
 | .no=>[]
 | .d v=>v.sh.ar
 | .box t v=>t::v.sh.ar
 | .ptr t _ _ _=>[t]
 | .ept t _ _ _ _ _=>[t]
 | .rdp hs v=>hs++v.sh.ar
 | .tup l=>l.flatMap fun v=>v.sh.ar
 | .g _ _ _ v=>v.eE
def SV.clean:SV->Bool
 | .no=>false
 | .d v| .box _ v| .rdp _ v=>v.sh.live
 | .tup l=>l.all fun v=>v.sh.live
 | .g _ _ _ v=>v.clean
 |_=>true
def tmpsOf(o:Oper):List Nat:=o.op.operands.toList.filterMap fun| .tmp s=>some s|_=>none
def SV.strip:SV->SV
 | .g _ _ _ v=>v
 |v=>v
def jH(ops:List Oper)(o:Oper):List Nat:=
 tmpsOf o++(match o.guard with|some (j,_)=>((ops[j]?).bind (·.dst)).toList|none=>[])
def vP(E:Env)(o:Oper):List Nat:=(tmpsOf o).filterMap fun s=>match(E.rd.get s).strip with| .ptr b _ _ _=>some b|_=>none
def Rg:SV->Option (Nat×Ty)
 | .ept b e _ _ _ _=>some (b,e)
 | .d ⟨_,_,.sl (.nst b e _ _ _ _)⟩=>some (b,e)
 |_=>none
def uq(E:Env)(o:Oper):List (Nat×Ty):=(tmpsOf o).filterMap fun s=>Rg (E.rd.get s).strip
def eZ(t:Nat)(e:Ty):List SV->Nat->Option Nat
 | [],_=>none
 | .d v::l,i| .box _ v::l,i=>if(ik t e v.τ v.x v.sh).isSome then some i else eZ t e l (i+1)
 |_::l,i=>eZ t e l (i+1)
def mW(v q:SV):Bool:=
 match v with
 | .no| .ept _ _ _ _ _ _| .rdp _ _=>true
 | .box t _=>(match q with| .box t' _=>t=t'|_=>false)
 |v=>v.clean&&v.eE.isEmpty
def dR(o:Oper):Bool:=match o.op with| .move _| .assign _| .nilCheck _| .fieldAddr _ _ _=>false|_=>true
def SV.tJ:SV->List Nat
 | .ept t _ _ _ _ _=>[t]
 |_=>[]
def SV.xG:SV->List Nat
 | .ept _ _ _ _ _ _=>[]
 |v=>v.eE
structure dJ:Type 1 where
 i:Nat
 rs:List Nat
 ra:List Nat
 te:List Nat
 tk:List Nat
 cl:Bool
 bx:List Nat
 rw:List (Nat×Nat)
 fd:Bool
 dz:Bool
 T:Tr
 ws:List (Nat×SV)
 nb:List Nat
 cp:Option (Nat×Nat×Option Nat×Bool)
def sameBox(v q:SV):Bool:=match v,q with| .box t u,.box t' u'=>t=t'&&u.τ=u'.τ|_,_=>false
def Re(o:Oper):Option (Nat×Nat×Option Nat):=
 match o.guard,o.dst with
 |none,some d=>(match o.op with
  | .move (.tmp s)| .assign (.tmp s)=>some (d,s,none)
  | .extract (.tmp s) j=>some (d,s,some j)
  |_=>none)
 |_,_=>none
def ui(j:Option Nat)(v:SV):Option SV:=
 match j with
 |none=>(match v with| .g _ _ _ _=>none|v=>some (bN v))
 |some j=>(match v with| .tup l=>(l[j]?).map .d|_=>none)
def FA:SV->Bool
 | .d v=>v.τ.flat
 | .no| .ptr _ _ _ _| .ept _ _ _ _ _ _| .rdp _ _=>true
 |_=>false
def fy(ops:List Oper)(i:Nat)(o:Oper)(E:Env)(r:Tr×List (Nat×SV)):dJ:=
 let b:=if dR o=true then vP E o else []
 let q:=if dR o=true then uq E o else []
 let rw:=q.filterMap fun p=>(eZ p.1 p.2 E.s 0).map fun s=>(p.1,s)
 let c:=(jH ops o).filter fun s=>(E.get s).du
 let rs:=(jH ops o).filter (fun s=> !(E.get s).du)++b.filterMap (fun t=>(dE E.s t 0).map (·.1))++rw.map (·.2)
 ⟨i,rs,c,rs.flatMap fun s=>(E.get s).tJ,rs.flatMap fun s=>(E.get s).xG,rs.all fun s=>(E.get s).clean,b,rw,
   rw.length=q.length&&b.all (fun t=>(dE E.s t 0).isSome),
   r.2.all (fun p=>mW (E.get p.1) p.2),r.1,r.2,(r.2.filter fun p=> !sameBox (E.get p.1) p.2).map (·.1),none⟩
def wg(ops:List Oper)(i:Nat)(o:Oper)(E:Env)(r:Tr×List (Nat×SV)):dJ:=
 match Re o with
 |some (d,s,j)=>⟨i,[],[],[],[],true,[],[],true,mW (E.get d) .no,.id,[],[],some (d,s,j,match ui j (E.get s)with|some x=>FA x|none=>false)⟩
 |none=>fy ops i o E r
def dJ.free(a b:dJ):Bool:=
 a.ws.all (fun p=> !b.rs.contains p.1&& !b.ra.contains p.1&&b.ws.all (fun q=>q.1≠p.1)&&
  (match p.2 with| .box t _=> !b.bx.contains t|_=>true)&&b.rw.all (fun q=>q.2<p.1|| !(p.2.du||p.2.eE.contains q.1)))&&
 (a.T.pM||(b.rw.isEmpty&&b.tk.all (!a.T.fG.contains ·)&&b.te.all (!a.T.nN.contains ·)&&b.ws.all fun p=>p.2.xG.all (!a.T.fG.contains ·)&&p.2.tJ.all (!a.T.nN.contains ·)))
def Tr.T3:Tr->Bool
 | .el _ _ _ _ _=>false
 |_=>true
def dJ.T7(a b:dJ):Bool:=
 a.ws.all (fun p=> !b.rs.contains p.1&& !b.ra.contains p.1&&b.ws.all (fun q=>q.1≠p.1)&&
  (match p.2 with| .box t _=> !b.bx.contains t|_=>true)&&b.rw.all (fun q=>q.2<p.1|| !p.2.eE.contains q.1))&&
 (a.T.pM||((b.rw.isEmpty||a.T.T3)&&b.tk.all (!a.T.fG.contains ·)&&b.te.all (!a.T.nN.contains ·)&&b.ws.all fun p=>p.2.xG.all (!a.T.fG.contains ·)&&p.2.tJ.all (!a.T.nN.contains ·)))
def dJ.ind(a b:dJ):Bool:=
 a.free b&&b.T7 a&&(a.T.pM||b.T.pM)&&a.T.ok&&b.T.ok&&(a.T.pM||b.cl)&&a.fd&&b.fd&&a.dz&&b.dz&&(a.T.pM||a.rw.isEmpty)
def dJ.yo(d s:Nat)(e z:Bool)(b:dJ):Bool:=
 z&& !b.rs.contains d&& !b.ra.contains d&&b.ws.all (fun q=>q.1≠d)&& !b.nb.contains s&&b.rw.all (fun q=>e||q.2<d)&&b.fd&&b.dz&&b.T.ok
def dJ.Mr(a b:dJ):Bool:=
 match a.cp,b.cp with
 |none,none=>a.ind b
 |some (d,s,_,e),none=>dJ.yo d s e a.dz b
 |none,some (d,s,_,e)=>dJ.yo d s e b.dz a
 |some (d,s,_,_),some (d',s',_,_)=>d≠d'&&s≠d'&&s'≠d
/-where ways meet-/
abbrev Ren:=List (Nat×Nat)
def K9(r:Ren)(t c:Nat):Option Ren:=
 match r.lookup t with
 |some b=>if c=b then some r else none
 |none=>if r.any (fun p=>p.2=c)then none else some ((t,c)::r)
def QC(c:Nat):Nat:=1000000000+c
def bindM(r:Ren):M->M->Option Ren
 | .row t _ _,.row c _ _=>K9 r t c
 | .sha [],.row c _ _=>K9 r (QC c) c
 | .row _ _ _,.sha _=>some r
 | .sha _,.sha _=>some r
 |_,.dead=>some r
 |_,_=>none
def Eo(r:Ren):Sh->Sh->Option Ren
 | .leaf,.leaf=>some r
 | .sl m,.sl m'=>bindM r m m'
 | .pair a b,.pair a' b'=>(Eo r a a').bind fun r=>Eo r b b'
 |_,_=>none
def me(r:Ren)(h:Nat):Nat:=if h<=3 then h else(r.lookup h).getD 2
def BN(r:Ren):M->M->Bool
 | .row t hs nd,.row c hc nd'=>r.lookup t=some c&&(!nd'||nd)&&hs.all fun h=>hc.contains (me r h)
 | .sha [],.row c _ _=>r.lookup (QC c)=some c
 | .row t hs _,.sha hc=>(t::hs).all fun h=>hc.contains (me r h)
 | .sha hs,.sha hc=>hs.all fun h=>hc.contains (me r h)
 |_,.dead=>true
 |_,_=>false
def DW(r:Ren):Sh->Sh->Bool
 | .leaf,.leaf=>true
 | .sl m,.sl m'=>BN r m m'
 | .pair a b,.pair a' b'=>DW r a a'&&DW r b b'
 |_,_=>false
def aaB(E:Env)(r:Ren)(s:Nat):AK->Option Ren
 | .val _ sh=>match E.get s with| .d v=>Eo r v.sh sh|_=>none
 | .box c _ sh=>match E.get s with| .box t v=>(K9 r t c).bind fun r=>Eo r v.sh sh|_=>none
 | .ptr _ _ _ _=>some r
 | .ept _ _ _ _ _=>some r
 | .rdp _ _ sh=>match E.get s with| .rdp _ v=>Eo r v.sh sh|_=>none
def SP(E:Env):Ren->List (Nat×AK)->Option Ren
 |r,[]=>some r
 |r,(s,a)::l=>(aaB E r s a).bind fun r=>SP E r l
def aW.app:(a:List Ty)->(b:List Ty)->aW a->aW b->aW (a++b)
 | [],_,_,y=>y
 |_::a,b,x,y=>(x.1,aW.app a b x.2 y)
def aW.fst:(a:List Ty)->(b:List Ty)->aW (a++b)->aW a
 | [],_,_=>()
 |_::a,b,x=>(x.1,aW.fst a b x.2)
def aW.snd:(a:List Ty)->(b:List Ty)->aW (a++b)->aW b
 | [],_,x=>x
 |_::a,b,x=>aW.snd a b x.2
def vn(E:Env)(r:Ren)(s:Nat):(a:AK)->Option (aW a.JK)
 | .val τ sh=>match E.get s with
   | .d v=>if DW r v.sh sh then(match fJ v τ with|some x=>some (x,())|none=>none)else none
   |_=>none
 | .box c τ sh=>match E.get s with
   | .box t v=>if DW r v.sh sh&&r.lookup t=some c then(match fJ v τ with|some x=>some (x,())|none=>none)else none
   |_=>none
 | .ptr c o p τ=>match E.get s with
   | .ptr t o' p' τ'=>if r.lookup t=some c&&o'=o&&p'=p&&τ'=τ then some ()else none
   |_=>none
 | .ept c e o p τ=>match E.get s with
   | .ept t e' i o' p' τ'=>if r.lookup t=some c&&e'=e&&o'=o&&p'=p&&τ'=τ then some (i,())else none
   |_=>none
 | .rdp hs τ sh=>match E.get s with
   | .rdp hs' v=>if DW r v.sh sh&&hs'.all (fun h=>hs.contains (me r h))then(match fJ v τ with|some x=>some (x,())|none=>none)else none
   |_=>none
def mY:List (Nat×AK)->List Ty
 | []=>[]
 |(_,a)::l=>a.JK++mY l
def Eu(E:Env)(r:Ren):(l:List (Nat×AK))->Option (aW (mY l))
 | []=>some ()
 |(s,a)::l=>match vn E r s a,Eu E r l with
  |some x,some y=>some (aW.app a.JK (mY l) x y)
  |_,_=>none
def AK.bt:AK->List Nat
 | .box c _ _| .ptr c _ _ _=>[c]
 |_=>[]
def AK.sc:AK->List Nat
 | .val _ sh| .box _ _ sh=>sh.ar
 | .ept c _ _ _ _=>[c]
 | .rdp hs _ sh=>hs++sh.ar
 |_=>[]
def YS(a:sE):Bool:=
 let b:=a.ks.flatMap fun p=>p.2.bt
 let c:=a.ks.flatMap fun p=>p.2.sc
 let s:=a.ks.map (·.1)
 4<=a.nt&&b.all (fun x=>0<x&&x<a.nt&&x≠2&&x≠3)&&c.all (fun x=>0<x&&x<a.nt&& !b.contains x)&&s.eraseDups.length=s.length
def wZ(r:Ren)(b:Nat):Bool:=r.all fun p=>4<=p.2&&p.2<b&&r.find? (·.2=p.2)==some p
def proj(a:sE)(E:Env):Option (aW (mY a.ks)):=
 match SP E [] a.ks with
 |some r=>if E.nt<=1000000000&&YS a&&wZ r a.nt then Eu E r a.ks else none
 |none=>none
def pO:(a:AK)->aW a.JK->SV
 | .val τ sh,x=> .d ⟨τ,x.1,sh⟩
 | .box c τ sh,x=> .box c ⟨τ,x.1,sh⟩
 | .ptr c o p τ,_=> .ptr c o p τ
 | .ept c e o p τ,x=> .ept c e x.1 o p τ
 | .rdp hs τ sh,x=> .rdp hs ⟨τ,x.1,sh⟩
def nj:(l:List (Nat×AK))->aW (mY l)->List SV->List SV
 | [],_,E=>E
 |(s,a)::l,x,E=>nj l (aW.snd a.JK (mY l) x) (E.set s (pO a (aW.fst a.JK (mY l) x)))
def dA(n:Nat)(a:sE)(x:aW (mY a.ks)):Env:=⟨nj a.ks x (ach n .no),a.nt,false⟩
def jd:Code->Option Nat
 | .region id _ _=>some id
 | .seq a _=>jd a
 | .block _ c=>jd c
 | .loop c=>jd c
 | .scope c=>jd c
 |_=>none
/-regions that draw their order-/
def Hn(ops:List Oper):List Nat:=
 ops.foldl (fun acc o=>
  acc++[((o.after.toList.filter (Region.binds .any)).map (·.on)).foldl (fun m j=>m ||| (2^j ||| acc.getD j 0)) 0]) []
def rE(ops:List Oper)(c:List dJ):Bool:=
 let B:=Hn ops
 (ops.zipIdx.all fun p=>(match p.1.guard with|some (j,_)=>(B.getD p.2 0).testBit j|none=>true)&&p.1.after.toList.all fun e=> !Region.binds .any e||e.on<p.2)&&
 c.all fun b=>c.all fun a=>b.i<=a.i||(B.getD b.i 0).testBit a.i||a.Mr b
section
variable{ρ:Type}
def wx(C:Cx)(ops:List Oper)(b:Nat):List Oper->Nat->Env->List dJ->(Env->List dJ->Option ρ)->Option ρ
 | [],_,E,L,k=>k E L
 |o::l,i,E,L,k=>match guardOf ops E.rd o.guard with
  |none=>none
  |some a=>match jk C ops E.rd (b+32*i) o.guard o with
   |none=>none
   |some c=>qz o a c fun r=>wx C ops b l (i+1) (E.gE r) (wg ops i o E r::L) k
def ev(C:Cx):Code->Env->(Env->Option ρ)->List (Nat×(Env->Option ρ))->(Env->Option ρ)->Option ρ
 | .skip,E,kn,_,_=>kn E
 | .region _ ops draw,E,kn,_,_=>if gk ops.toList&&keeps C.io ops.toList then(if draw=true
  then wx C ops.toList E.nt ops.toList 0 E [] (fun E' L=>if rE ops.toList L then kn {jL E' ops.toList with nt:=E.nt+32*ops.size}else none)
  else xi C ops.toList E.nt ops.toList 0 E (fun E'=>kn {jL E' ops.toList with nt:=E.nt+32*ops.size}))else none
 | .seq a b,E,kn,ke,kr=>
   match(jd b).bind C.ja with
   |none=>ev C a E (fun E'=>ev C b E' kn ke kr) ke kr
   |some n=>aR (fun J=>ev C a E (fun E'=>(proj n E').bind J) ke kr) (fun t=>ev C b (dA C.n n t) kn ke kr)
 | .cond c x y,E,kn,ke,kr=>
   match arg C E.rd none 0 c with
   |some (.d ⟨.bool,b,_⟩)=>if b=true then ev C x E kn ke kr else ev C y E kn ke kr
   |_=>none
 | .block id c,E,kn,ke,kr=>ev C c E kn ((id,kn)::ke) kr
 | .loop c,E,_,ke,kr=>
   match(jd c).bind C.la with
   |none=>none
   |some n=>(proj n E).bind (aM C.k (fun G t=>ev C c (dA C.n n t) (fun E'=>(proj n E').bind G) ke kr))
 | .exit id,E,_,ke,_=>match ke.lookup id with|some k=>k E|none=>none
 | .ret,E,_,_,kr=>kr E
 |_,_,_,_,_=>none
end
/-whole functions-/
def bW:(ps:List PK)->aW (ps.map PK.ty)->Nat->List SV×Nat
 | [],_,tk=>([],tk)
 | .val τ p::ps,x,tk=>let s:=aQ p tk [1];let r:=bW ps x.2 s.2;(.d ⟨τ,x.1,s.1⟩::r.1,r.2)
 | .io τ p::ps,x,tk=>let s:=aQ p (tk+1) [1];let r:=bW ps x.2 s.2;(.box tk ⟨τ,x.1,s.1⟩::r.1,r.2)
 | .rd τ::ps,x,tk=>let r:=bW ps x.2 tk;(.rdp [1] ⟨τ,x.1,(aQ (uU τ) tk [1]).1⟩::r.1,r.2)
 | .vx e l::ps,x,tk=>let r:=bW ps x.2 tk;(.d ⟨.sl e,x.1,.sl (.sha (1::l))⟩::r.1,r.2)
def uw(c:Nat):Nat:=if c=1 then 1 else 2
def Ja:Pt->Sh->List Nat
 | .shr,.sl m=>m.ar
 | .hd,.sl (.row _ hs _)=>hs
 | .pair a b,.pair x y=>Ja a x++Ja b y
 |_,_=>[]
def I7(p:Pt)(s:Sh):Bool:= !(Ja p s).contains 3
def wR(c:TypeId->Option TI)(E:Env):(rs:List RK)->List ResultVar->Nat->Option (aW (rs.map RK.ty)×List (Nat×Nat)×Nat)
 | [],[],tk=>some ((),[],tk)
 | .val τ p::rs,v::vs,tk=>match(match v with| .tmp s=>(match E.get s with| .d t=>some t|_=>none)| .cell s ty=>(match E.get s,c ty with| .box _ t,some i=>if i.τ=t.τ then some t else none|_,_=>none))with
   |none=>none
   |some t=>match fJ t τ,wR c E rs vs (aQ p tk []).2 with
    |some x,some (xs,rho,tk')=>if jf p t.sh&&I7 p t.sh then some ((x,xs),fb uw p t.sh tk++rho,tk')else none
    |_,_=>none
 | .nbox τ p::rs,.tmp s::vs,tk=>match pj E.rd (E.rd.get s)with
   |none=>none
   |some (b,_,t)=>match fJ t τ,wR c E rs vs (aQ p (tk+1) []).2 with
    |some x,some (xs,rho,tk')=>if jf p t.sh&&I7 p t.sh then some ((x,xs),(b,tk)::fb uw p t.sh (tk+1)++rho,tk')else none
    |_,_=>none
 |_,_,_=>none
def Bh(E:Env):(ps:List PK)->Nat->Nat->Nat->Option (aW (bn ps)×List (Nat×Nat))
 | [],_,_,_=>some ((),[])
 | .val _ p::ps,i,te,tk=>Bh E ps (i+1) (aQ p te []).2 tk
 | .io τ p::ps,i,te,tk=>match E.get i,Bh E ps (i+1) (aQ p (te+1) []).2 (aQ p tk []).2 with
   | .box b v,some (xs,rho)=>(match fJ v τ with
     |some x=>if jf p v.sh&&I7 p v.sh&&b=te then some ((x,xs),(b,te)::fb uw p v.sh tk++rho)else none
     |none=>none)
   |_,_=>none
 | .rd _::ps,i,te,tk| .vx _ _::ps,i,te,tk=>Bh E ps (i+1) te tk
def ic:List PK->Nat->List Nat
 | [],_=>[]
 | .val _ _::ps,i=>ic ps (i+1)
 | .io _ _::ps,i=>i::ic ps (i+1)
 | .rd _::ps,i| .vx _ _::ps,i=>ic ps (i+1)
def rQ:List PK->Nat->Nat->List (Nat×Ty×Sh)
 | [],_,_=>[]
 | .val _ p::ps,i,te=>rQ ps (i+1) (aL p te)
 | .io τ p::ps,i,te=>(i,τ,(aQ p (te+1) [1]).1)::rQ ps (i+1) (aL p (te+1))
 | .rd _::ps,i,te| .vx _ _::ps,i,te=>rQ ps (i+1) te
def VR(E:Env)(ps:List PK)(b:List (Nat×List Bool)):Bool:=
 b.isEmpty||E.kp&&b.all fun q=>match(rQ ps 0 4)[q.1]? with
  |some (i,τ,sh)=>(match E.get i,kQ sh q.2 with
   | .box _ v,some u=>v.τ=τ&&kQ v.sh q.2==some u
   |_,_=>false)
  |none=>false
def fin(b:TypeId->Option TI)(ps:List PK)(rs:List RK)(c:List (Nat×List Bool))(d:List ResultVar)(e:Nat)(E:Env):Option (aW (rs.map RK.ty++bn ps)):=
 match wR b E rs d e with
 |some (xs,rho,tk)=>(match Bh E ps 0 4 tk with
  |some (ys,rho')=>if Ey (rho++rho')&&VR E ps c then some (aW.app _ _ xs ys)else none
  |none=>none)
 |none=>none
def TJ(C:Cx)(ps:List PK)(rs:List RK)(b:List (Nat×List Bool))(fn:Func)(x:aW (ps.map PK.ty)):Option (aW (rs.map RK.ty++bn ps)):=
 match fn.body with
 |none=>none
 |some c=>
  let e:=bW ps x 4
  ev {C with n:=fn.ntmps,io:=ic ps 0} c ⟨e.1++ach (fn.ntmps-e.1.length) .no,e.2,true⟩ (fin C.tt ps rs b fn.results.toList e.2) [] (fin C.tt ps rs b fn.results.toList e.2)
structure Gh where
 col:Nat->Nat
 hdr:Nat->Value
 bx:Nat->Bool
theorem di.one{α:Type}{w:World}{sz:Nat}{R:α->List Value->List Nat->Prop}{l:List α}{v:Value}{B:List Nat}
 (h:di w sz R l v B):v.oneCell'=true:=by
 rcases h with h|⟨b,off,cap,c,el,fz,Bs,rfl,_⟩;obtain⟨ao,e⟩:=h.1;rw[e];rfl;rfl
theorem di.mono{w w':World}{e:Ty}{l:List e.den}{v:Value}{B:List Nat}(o:∀b∈B,w'.heap[b]?=w.heap[b]?)
 (h:di w e.sz (aK w e) l v B):di w' e.sz (aK w' e) l v B:=by
 have:aK w' (.sl e) l [v] B:=aK.mono o ⟨v,rfl,h⟩;obtain⟨v',p,h⟩:=this;cases p;exact h
def df(o:Nat)(b c:List Value):List Value:=c.take o++b++c.drop (o+b.length)
def abz(w:World)(G:Gh)(v:Value)(b:Nat)(E:Ty)(i:Int)(o:Nat)(fr:Bool):Prop:=
 4<=b/\0<=i/\∃(d off n cap:Nat) (c:Array Value) (el:TypeId) (L:List E.den) (e:List Nat),
  G.hdr b= .slice (some ⟨d,off,none⟩) n cap/\n<=cap/\G.col d=b/\w.heap[d]?=some (.cells c el (0,0))/\off+cap*E.sz<=c.size/\i<n/\o+1<=E.sz/\L.length=n/\
  aN (aK w E) L (df (i.toNat*E.sz+o) [v] ((c.toList.drop off).take (n*E.sz))) e/\(d::e).Nodup/\(∀x∈e,G.col x=b)/\
  (fr=true->((c.toList.drop off).take (n*E.sz))[i.toNat*E.sz+o]?=some v)
def bV(w:World)(G:Gh)(e:Ty)(l:List e.den)(v:Value):M->Prop
 | .row t hs nd=>4<=t/\G.hdr t=v/\∃B,di w e.sz (aK w e) l v B/\
  ∀b c,B=b::c->G.col b=t/\b∉c/\(∀x∈c,G.col x∈hs)/\(nd=true->c.Nodup)
 | .sha hs=>(∃B,di w e.sz (aK w e) l v B/\∀b∈B,G.col b∈hs)/\(hs=[]->v= .slice none 0 0)
 | .nst b E i o p fr=>(∃B,di w e.sz (aK w e) l v B/\∀x∈B,G.col x=b)/\E.sub p=some (.sl e)/\E.off p=o/\abz w G v b E i o fr
 | .dead=>v.oneCell'=true
def bh(w:World)(G:Gh):(τ:Ty)->τ.den->Sh->List Value->Prop
 | .int k,n,.leaf,cs=>cs=[.int k n]
 | .bool,b,.leaf,cs=>cs=[.bool b]
 | .str,s,.leaf,cs=>cs=[.string s]
 | .sl e,l,.sl m,cs=>∃v,cs=[v]/\bV w G e l v m
 | .pair a b,p,.pair s1 s2,cs=>∃c1 c,cs=c1++c/\bh w G a p.1 s1 c1/\bh w G b p.2 s2 c
 |_,_,_,_=>False
def ck(w:World)(G:Gh):SV->Value->Prop
 | .no,_=>True
 | .d v,mv=>∃cs,mv=cT v.τ cs/\bh w G v.τ v.x v.sh cs
 | .box t v,mv=>∃h c el,mv= .pointer (some ⟨h,0,none⟩)/\4<=t/\G.hdr t=mv/\G.col h=t/\w.heap[h]?=some (.cells c el (0,0))/\bh w G v.τ v.x v.sh c.toList
 | .ptr t o _ _,mv=>∃h,4<=t/\G.hdr t= .pointer (some ⟨h,0,none⟩)/\mv= .pointer (some ⟨h,o,none⟩)
 | .ept t e i o _ _,mv=>∃b off n cap,4<=t/\G.hdr t= .slice (some ⟨b,off,none⟩) n cap/\0<=i/\i<n/\mv= .pointer (some ⟨b,off+i.toNat*e.sz+o,none⟩)
 | .rdp hs v,mv=>∃b o c el k,mv= .pointer (some ⟨b,o,none⟩)/\w.heap[b]?=some (.cells c el k)/\o+v.τ.sz<=c.size/\G.col b∈hs/\bh w G v.τ v.x v.sh ((c.toList.drop o).take v.τ.sz)
 | .tup l,mv=>∃j:List Value,mv= .tuple j.toArray/\j.length=l.length/\∀(i:Nat) (v:TV),l[i]?=some v->∃u cs,j[i]?=some u/\u=cT v.τ cs/\bh w G v.τ v.x v.sh cs
 | .g _ _ act v,mv=>(act=true->v.du=false/\ck w G v mv)/\(act=false->mv=undef)
def SV.sc:SV->List Nat
 | .d v| .box _ v=>v.sh.ar
 | .rdp hs v=>hs++v.sh.ar
 | .tup l=>l.flatMap fun v=>v.sh.ar
 | .g _ _ act v=>if act=true then v.sc else []
 |_=>[]
def SV.bt:SV->List Nat
 | .box t _| .ptr t _ _ _=>[t]
 | .g _ _ act v=>if act=true then v.bt else []
 |_=>[]
def SV.rt:SV->List Nat
 | .ept t _ _ _ _ _=>[t]
 | .g _ _ act v=>if act=true then v.rt else []
 |_=>[]
def SV.hc:SV->List Nat
 | .box t v=>t::v.sh.ar
 |v=>v.sc
structure xz(S T:List Nat)(w w':World)(G G':Gh):Prop where
 heap:∀b,G.col b∈S->w'.heap[b]?=w.heap[b]?
 col:∀b,G.col b∈S->G'.col b=G.col b
 hdr:∀t∈T,G'.hdr t=G.hdr t
theorem xz.sub{S p T q:List Nat}{w w':World}{G G':Gh}(h:xz S T w w' G G')(hs:∀c∈p,c∈S)(u:∀c∈q,c∈T):xz p q w w' G G':=
 ⟨fun b o=>h.heap b (hs _ o),fun b o=>h.col b (hs _ o),fun t o=>h.hdr t (u _ o)⟩
theorem bV.agree{w w':World}{G G':Gh}{e:Ty}{l:List e.den}{v:Value}{m:M}(h:xz m.ar m.ar w w' G G')(I:bV w G e l v m):bV w' G' e l v m:=by
 cases m with
 |row t J nd=>
  obtain⟨O,Q,B,D,hc⟩:=I
  have q:∀b∈B,G.col b∈t::J:=by
   intro b y;cases B with
   |nil=>cases y
   |cons x A=>
    obtain⟨K,_,H,_⟩:=hc x A rfl;rcases v7.1 y with rfl|y;simp[K];exact abG _ (H b y)
  refine⟨O,(h.hdr t (by simp[M.ar])).trans Q,B,di.mono (fun b y=>h.heap b (q b y)) D,?_⟩;intro b A e;obtain⟨K,R,H,S⟩:=hc b A e;subst e;refine⟨(h.col b (q b (by simp))).trans K,R,fun x u=> ?_,S⟩;rw[h.col x (q x (by simp[u]))];exact H x u
 |sha J=>
  obtain⟨⟨B,D,hc⟩,V⟩:=I;exact⟨⟨B,di.mono (fun b y=>h.heap b (hc b y)) D,fun b y=>by rw[h.col b (hc b y)];exact hc b y⟩,V⟩
 |nst b E i o p fr=>
  obtain⟨⟨B,D,hc⟩,J,W,H,X,z,off,n,cap,c,el,L,A,g1,g2,g3,g4,g5,g6,g7,g8,g9,g10,g11,g12⟩:=I;have q:∀x,G.col x=b->G.col x∈(M.nst b E i o p fr).ar:=fun x u=>by simp[M.ar,u]
  refine⟨⟨B,di.mono (fun x u=>h.heap x (q x (hc x u))) D,fun x u=>(h.col x (q x (hc x u))).trans (hc x u)⟩,J,W,H,X,z,off,n,cap,c,el,L,A,
   (h.hdr b (by simp[M.ar])).trans g1,g2,(h.col z (q z g3)).trans g3,(h.heap z (q z g3)).trans g4,g5,g6,g7,g8,?_,g10,fun x u=>(h.col x (q x (g11 x u))).trans (g11 x u),g12⟩
  exact aN.mono (fun x=>w'.heap[x]?=w.heap[x]?) (fun _ _ _ N u=>aK.mono N u) (fun x u=>h.heap x (q x (g11 x u))) g9
 |dead=>exact I
theorem bh.agree{w w':World}{G G':Gh}:∀ {τ:Ty} {x:τ.den} {sh:Sh} {cs:List Value},xz sh.ar sh.ar w w' G G'->bh w G τ x sh cs->bh w' G' τ x sh cs
 | .int _,_,.leaf,_,_,h=>h
 | .bool,_,.leaf,_,_,h=>h
 | .str,_,.leaf,_,_,h=>h
 | .sl e,l,.sl m,cs,ha,h=>by obtain⟨v,rfl,o⟩:=h;exact⟨v,rfl,bV.agree ha o⟩
 | .pair a b,p,.pair s1 s2,cs,ha,h=>by
   obtain⟨q,u,rfl,y,z⟩:=h
   exact⟨q,u,rfl,bh.agree (ha.sub (fun c hc=>by simp[Sh.ar,hc]) (fun c hc=>by simp[Sh.ar,hc])) y,
    bh.agree (ha.sub (fun c hc=>by simp[Sh.ar,hc]) (fun c hc=>by simp[Sh.ar,hc])) z⟩
 | .int _,_,.sl _,_,_,h| .int _,_,.pair _ _,_,_,h| .bool,_,.sl _,_,_,h| .bool,_,.pair _ _,_,_,h
 | .str,_,.sl _,_,_,h| .str,_,.pair _ _,_,_,h| .sl _,_,.leaf,_,_,h| .sl _,_,.pair _ _,_,_,h
 | .pair _ _,_,.leaf,_,_,h| .pair _ _,_,.sl _,_,_,h=>h.elim
theorem ck.agree{w w':World}{G G':Gh}:∀ {s:SV} {mv:Value},xz s.hc (s.sc++s.bt++s.rt) w w' G G'->ck w G s mv->ck w' G' s mv
 | .no,_,_,_=>trivial
 | .d v,mv,ha,⟨cs,h1,h2⟩=>⟨cs,h1,bh.agree (ha.sub (fun c hc=>hc) (fun c hc=>by simp[SV.sc,hc])) h2⟩
 | .box t v,mv,ha,⟨bk,c,el,h1,h2,h3,h4,h5,h6⟩=>
   ⟨bk,c,el,h1,h2,(ha.hdr t (by simp[SV.bt])).trans h3,(ha.col bk (by simp[SV.hc,h4])).trans h4,
    (ha.heap bk (by simp[SV.hc,h4])).trans h5,bh.agree (ha.sub (fun c hc=>by simp[SV.hc,hc]) (fun c hc=>by simp[SV.sc,hc])) h6⟩
 | .ptr t o p τ,mv,ha,⟨bk,h1,h2,h3⟩=>⟨bk,h1,(ha.hdr t (by simp[SV.bt])).trans h2,h3⟩
 | .ept t e i o p τ,mv,ha,⟨b,off,n,cap,h1,h2,h3⟩=>⟨b,off,n,cap,h1,(ha.hdr t (by simp[SV.rt])).trans h2,h3⟩
 | .rdp hs v,mv,ha,⟨b,o,c,el,fz,h1,h2,h3,h4,h5⟩=>
   ⟨b,o,c,el,fz,h1,(ha.heap b (by simp[SV.hc,SV.sc,h4])).trans h2,h3,by rw[ha.col b (by simp[SV.hc,SV.sc,h4])];exact h4,
     bh.agree (ha.sub (fun c hc=>by simp[SV.hc,SV.sc,hc]) (fun c hc=>by simp[SV.sc,hc])) h5⟩
 | .tup l,mv,ha,⟨vs,h1,h2,h3⟩=>by
   refine⟨vs,h1,h2,fun i v y=> ?_⟩;obtain⟨u,cs,hu,hm,q⟩:=h3 i v y;have h:∀c∈v.sh.ar,c∈SV.sc (.tup l):=fun c hc=>J8.2 ⟨v,acI y,hc⟩;exact⟨u,cs,hu,hm,bh.agree (ha.sub h (fun c hc=>by simp[h c hc])) q⟩
 | .g j w' false v,mv,ha,⟨h1,h2⟩=>⟨fun e=>absurd e (by simp),h2⟩
 | .g j w' true v,mv,ha,⟨h1,h2⟩=>⟨fun e=>⟨(h1 e).1,ck.agree (s:=v) (by
  have q:=(h1 e).1;cases v with
  |box t v=>simp[SV.du]at q
  |_=>simpa[SV.hc,SV.sc,SV.bt,SV.rt]using ha) (h1 e).2⟩,h2⟩
theorem SV.C5:∀(s:SV) (c:Nat),c∈s.hc->c∈s.sc\/c∈s.bt
 | .no,c,h| .ptr ..,c,h| .ept ..,c,h=>by simp[SV.hc,SV.sc]at h
 | .d v,c,h| .rdp hs v,c,h| .tup l,c,h=> .inl h
 | .box t v,c,h=>by
   rcases v7.1 h with rfl|h;right;simp[SV.bt];left;exact h
 | .g _ _ _ v,c,h=> .inl h
structure C0 where
 col:Nat->Nat
 hdr:Nat->Option Value
structure Inv(w0:World)(c0:C0)(U:Nat->Prop)(E:Env)(a:Act)(w:World)(G:Gh):Prop where
 len:a.tmps.size=E.s.length
 slots:∀s,ck w G (E.s.getD s .no) (a.tmps.getD s undef)
 sc:∀s,∀c∈(E.s.getD s .no).sc,0<c/\U c/\G.bx c=false
 bt:∀s,∀t∈(E.s.getD s .no).bt,0<t/\U t/\G.bx t=true
 rt:∀s,∀t∈(E.s.getD s .no).rt,0<t/\U t/\G.bx t=false
 uni:∀s s' t v v',E.s.getD s .no= .box t v->E.s.getD s' .no= .box t v'->s=s'
 colU:∀b,0<G.col b->U (G.col b)
 lt:∀b,0<G.col b->b<w.heap.size
 fresh:∀b,4<=G.col b->∃c el,w.heap[b]?=some (.cells c el (0,0))
 frame:∀b,b<w0.heap.size->c0.col b<4->G.col b=c0.col b/\w.heap[b]?=w0.heap[b]?
 one:∀b,G.col b=1\/G.col b=3->b<w0.heap.size/\c0.col b=G.col b
 size:w0.heap.size<=w.heap.size
 os:w.os=w0.os
 tape:w.tape=w0.tape
 output:w.output=w0.output
 defers:a.defers=[]
 two:(U 2/\G.bx 2=false)/\U 3/\G.bx 3=false
 hk:E.kp=true->∀t v,c0.hdr t=some v->U t/\G.hdr t=v
theorem dF(l:List SV)(d s:Nat)(v:SV):(l.set d v).getD s .no=if s=d/\d<l.length then v else l.getD s .no:=by
 simp only[acj,List.getElem?_set];by_cases h:d=s;subst h;by_cases b:d<l.length;simp[b];simp[b];simp[h,Ne.symm h]
theorem Qg(a:Act)(d:Option Nat)(v:Value)(s:Nat)(b:∀x,d=some x->x<a.tmps.size):
 (a.put d v).tmps.getD s undef=if some s=d then v else a.tmps.getD s undef:=by
 cases d with
 |none=>simp[Act.put]
 |some d=>
  have:=b d rfl;simp only[Act.put,acM,Array.getElem?_setIfInBounds,aae];by_cases h:d=s;subst h;simp[this];simp[h,Ne.symm h]
theorem Qi(a:Act)(d:Nat)(v:Value)(h:¬d<a.tmps.size):a.put (some d) v=a:=by
 cases a;simp only[Act.put,Act.mk.injEq,and_true];exact Array.setIfInBounds_eq_of_size_le (by simpa using h)
theorem kX(a:Act)(d:Option Nat)(v:Value):(a.put d v).tmps.size=a.tmps.size:=by
 cases d<;>simp[Act.put]
theorem TG(a:Act)(d:Option Nat)(v:Value):(a.put d v).defers=a.defers:=by
 cases d<;>simp[Act.put]
section
variable{w0:World}{c0:C0}{U:Nat->Prop}{E:Env}{a:Act}{w:World}{G:Gh}
theorem Inv.put(h:Inv w0 c0 U E a w G)(d:Option Nat){sv:SV}{v:Value}(hs:ck w G sv v)
 (B:∀c∈sv.sc,0<c/\U c/\G.bx c=false) (D:∀c∈sv.bt,0<c/\U c/\G.bx c=true) (H:∀c∈sv.rt,0<c/\U c/\G.bx c=false)
 (q:∀t u,sv= .box t u->∀s y,E.s.getD s .no≠ .box t y):
 Inv w0 c0 U (E.set d sv) (a.put d v) w G:=by
 cases d with
 |none=>exact h
 |some d=>
  have p:∀s,(E.set (some d) sv).s.getD s .no=if s=d/\d<E.s.length then sv else E.s.getD s .no:=fun s=>dF E.s d s sv
  refine {h with len:= ?_,slots:= ?_,sc:= ?_,bt:= ?_,rt:= ?_,uni:= ?_,defers:=by rw[TG];exact h.defers};rw[kX,h.len];simp[Env.set];intro s;rw[p];by_cases I:d<a.tmps.size;rw[Qg a (some d) v s (by rintro x ⟨⟩;exact I)];by_cases e:s=d;subst e;rw[an ⟨rfl,h.len▸I⟩,an rfl];exact hs;rw[a_ (by simp[e]),a_ (by simp[e])];exact h.slots s;rw[Qi a d v I,a_ (by rw[<-h.len];simp;omega)];exact h.slots s;intro s c o;rw[p]at o;split at o;exact B c o;exact h.sc s c o;intro s c o;rw[p]at o;split at o;exact D c o;exact h.bt s c o;intro s c o;rw[p]at o;split at o;exact H c o;exact h.rt s c o;intro s J t u y z A;rw[p]at z A;split at z<;>split at A;omega;exact absurd A (q t u z J y);exact absurd z (q t y A s u);exact h.uni s J t u y z A
theorem Inv.mono{U':Nat->Prop}(h:Inv w0 c0 U E a w G)(o:∀c,U c->U' c):Inv w0 c0 U' E a w G:=
 {h with
  sc:=fun s c hc=>⟨(h.sc s c hc).1,o _ (h.sc s c hc).2.1,(h.sc s c hc).2.2⟩
  bt:=fun s c hc=>⟨(h.bt s c hc).1,o _ (h.bt s c hc).2.1,(h.bt s c hc).2.2⟩
  rt:=fun s c hc=>⟨(h.rt s c hc).1,o _ (h.rt s c hc).2.1,(h.rt s c hc).2.2⟩
  colU:=fun b p=>o _ (h.colU b p)
  two:=⟨⟨o _ h.two.1.1,h.two.1.2⟩,o _ h.two.2.1,h.two.2.2⟩
  hk:=fun hk t v e=>⟨o _ (h.hk hk t v e).1,(h.hk hk t v e).2⟩}
theorem size_alloc(w:World)(o:Obj):(w.alloc o).heap.size=w.heap.size+1:=Array.size_push ..
def Gh.add(G:Gh)(b t:Nat)(v:Value)(x:Bool):Gh:=
 ⟨fun y=>if y=b then t else G.col y,fun u=>if u=t then v else G.hdr u,fun u=>if u=t then x else G.bx u⟩
theorem Inv.drawn(h:Inv w0 c0 U E a w G)(n:Nat):Inv w0 c0 U E a {w with drawn:=n} G:=by
 refine {h with slots:=fun s=> ?_};exact ck.agree (w:=w) (G:=G) (G':=G) ⟨fun _ _=>rfl,fun _ _=>rfl,fun _ _=>rfl⟩ (h.slots s)
theorem Inv.alloc(h:Inv w0 c0 U E a w G){t:Nat}(ht:4<=t)(I:¬U t)(c:Array Value)(el:TypeId)(v:Value)(x:Bool):
 Inv w0 c0 (fun u=>U u\/u=t) E a (w.alloc (.cells c el)) (G.add w.heap.size t v x):=by
 have D:∀b,0<G.col b->b≠w.heap.size:=fun b o e=>by have:=h.lt b o;omega
 have p:∀u,U u->u≠t:=fun u hu e=>I (e▸hu);refine⟨h.len,fun s=> ?_,fun s c hc=> ?_,fun s c hc=> ?_,fun s c hc=> ?_,h.uni,?_,?_,?_,?_,?_,?_,h.os,h.tape,h.output,h.defers,⟨⟨.inl h.two.1.1,by simp only[Gh.add];rw[a_ (by omega)];exact h.two.1.2⟩,.inl h.two.2.1,by simp only[Gh.add];rw[a_ (by omega)];exact h.two.2.2⟩,fun A z B e=>⟨.inl (h.hk A z B e).1,by simp only[Gh.add];rw[a_ (p z (h.hk A z B e).1)];exact(h.hk A z B e).2⟩⟩;refine ck.agree (w:=w) (G:=G) ⟨fun b o=> ?_,fun b o=> ?_,fun u hu=> ?_⟩ (h.slots s);have:0<G.col b:=by rcases SV.C5 _ _ o with o|o;exact(h.sc s _ o).1;exact(h.bt s _ o).1
 exact heap_alloc_old w _ b (h.lt b this);have:0<G.col b:=by rcases SV.C5 _ _ o with o|o;exact(h.sc s _ o).1;exact(h.bt s _ o).1
 simp[Gh.add,D b this]
 have:U u:=by
  simp only[l9]at hu;rcases hu with(hu|hu)|hu;exact(h.sc s u hu).2.1;exact(h.bt s u hu).2.1;exact(h.rt s u hu).2.1
 simp[Gh.add,p u this];have:=h.sc s c hc;exact⟨this.1,.inl this.2.1,by simp[Gh.add,p c this.2.1,this.2.2]⟩;have:=h.bt s c hc;exact⟨this.1,.inl this.2.1,by simp[Gh.add,p c this.2.1,this.2.2]⟩;have:=h.rt s c hc;exact⟨this.1,.inl this.2.1,by simp[Gh.add,p c this.2.1,this.2.2]⟩;intro b o;by_cases e:b=w.heap.size;right;simp[Gh.add,e];left;simp only[Gh.add,e,if_false]at o|-;exact h.colU b o;intro b o;by_cases e:b=w.heap.size;rw[size_alloc];omega;simp only[Gh.add,e,if_false]at o;have:=h.lt b o;rw[size_alloc];omega;intro b o;by_cases e:b=w.heap.size;exact⟨c,el,by rw[e];exact heap_alloc_new w _⟩;simp only[Gh.add,e,if_false]at o;obtain⟨J,H,y⟩:=h.fresh b o;exact⟨J,H,by rw[heap_alloc_old w _ b (lt_of_block y)];exact y⟩;intro b o hc;have q:b<w.heap.size:=Nat.lt_of_lt_of_le o h.size;refine⟨?_,?_⟩;simp only[Gh.add,a_ (acR q)];exact(h.frame b o hc).1;rw[heap_alloc_old w _ b q];exact(h.frame b o hc).2;intro b o;by_cases e:b=w.heap.size;simp[Gh.add,e]at o;omega;simp only[Gh.add,e,if_false]at o|-;exact h.one b o;have:=h.size;rw[size_alloc];omega
end
def gA(P:Program)(t:TypeId)(τ:Ty):Prop:=
 ∃inf d,P.info? t=some inf/\inf.size=τ.sz/\inf.zero=some (cT τ τ.zero)/\inf.bytes<=32768/\
  P.underlying t=some d/\(d matches .struct _| .array _ _)=τ.cn
structure ED(P:Program)(τ:Ty)(fs:List TypeId)(j:Nat)(f:Field):Prop where
 off:f.offset=τ.off (eG fs.length j)
 ty:fs[j]?=some f.type
 sub:∃σ,τ.sub (eG fs.length j)=some σ/\gA P f.type σ
def LG(P:Program)(t:TypeId)(i:TI):Prop:=
 gA P t i.τ/\match i.τ with
 | .int k=>P.underlying t=some (.int k)
 | .bool=>P.underlying t=some .bool
 | .str=>P.underlying t=some .string
 | .sl e=>P.underlying t=some (.slice i.el)/\gA P i.el e
 | .pair _ _=>∃fields,P.underlying t=some (.struct fields)/\fields.size=i.fs.length/\
  ∀(j:Nat) (f:Field),fields[j]?=some f->ED P i.τ i.fs j f
section
variable{P:Program}{w:World}
theorem PB{t:TypeId}{inf:TypeInfo}(h:P.info? t=some inf):(typeInfo t).run P w= .ok inf w:=by
 simp[typeInfo,h]
theorem dX{t:TypeId}{τ:Ty}(h:gA P t τ):(Go.sizeOf t).run P w= .ok τ.sz w:=by
 obtain⟨inf,d,b,c,_⟩:=h;simp[Go.sizeOf,PB b,c]
theorem OS{t:TypeId}{τ:Ty}(h:gA P t τ):(zeroValue t).run P w= .ok (cT τ τ.zero) w:=by
 obtain⟨inf,d,b,h2,c,_⟩:=h;simp[zeroValue,PB b,c]
theorem uf{t:TypeId}{τ:Ty}(h:gA P t τ):(isAgg t).run P w= .ok τ.cn w:=by
 obtain⟨inf,d,h1,h2,h3,h4,b,h6⟩:=h;rw[<-h6];cases d<;>simp[isAgg,run_underlying b]
theorem kL{τ:Ty}{cs:List Value}(c:cs.length=τ.sz)(d:∀v∈cs,v.oneCell'=true):(cT τ cs).cells.toList=cs:=by
 cases τ with
 |pair a b=>simp[cT,Value.cells]
 |_=>
  simp only[Ty.sz]at c
  match cs,c with
  | [v],_=>
    have:=d v (by simp);cases v<;>simp_all[cT,Value.cells,Value.oneCell']
theorem pL{τ:Ty}{cs:List Value}(b:cs.length=τ.sz)(c:∀v∈cs,v.oneCell'=true):(cT τ cs).cells.size=τ.sz:=by
 have:=congrArg ac9 (kL b c);simpa[b]using this
theorem wi:∀(τ:Ty),∀v∈τ.zero,v.oneCell'=true:=fun τ=>aK.one (aK.zero default τ)
theorem oD{b:Nat}{c:Array Value}{el:TypeId}{d:Nat×Nat}(e:w.heap[b]?=some (.cells c el d))(o:Nat):w.cell? ⟨b,o,none⟩=c[o]?:=by
 simp[World.cell?,e]
theorem L7{c:Array Value}{o n j:Nat}{v:Value}(h:((c.toList.drop o).take n)[j]?=some v):c[o+j]?=some v:=by
 rw[List.getElem?_take]at h;split at h;rw[List.getElem?_drop]at h;simpa using h;cases h
theorem lQ{t:TypeId}{τ:Ty}(h:gA P t τ){b o:Nat}{c:Array Value}{el:TypeId}{l:Nat×Nat}
 (d:w.heap[b]?=some (.cells c el l)) (hs:o+τ.sz<=c.size):(loadVar t ⟨b,o,none⟩).run P w= .ok (cT τ ((c.toList.drop o).take τ.sz)) w:=by
 have hlen:((c.toList.drop o).take τ.sz).length=τ.sz:=by simp;omega
 cases e:τ.cn with
 |true=>
  have i:=run_loadCells_list (P:=P) w ⟨b,o,none⟩ ((c.toList.drop o).take τ.sz) (fun j v k=>by
   rw[Addr.add_lit,oD d];exact L7 k)
  rw[hlen]at i;simp[loadVar,uf h,e,dX h,i];cases τ<;>simp_all[cT,Ty.cn]
 |false=>
  have m:τ.sz=1:=by cases τ<;>simp_all[Ty.cn,Ty.sz]
  have n:o<c.size:=by omega
  have hc:c[o]?=some c[o]:=aa7 n
  have hw:(c.toList.drop o).take 1=[c[o]]:=by
   rw[List.take_one,adb];simp[hc]
  rw[m,hw];have hm:cT τ [c[o]]=c[o]:=by cases τ<;>simp_all[cT,Ty.cn]
  rw[hm];simp only[loadVar,Sem.run_bind,uf h,e,Result.andThen_ok,acN,if_false,run_load,oD d,hc]
theorem rZ{b:Nat}{c:Array Value}{el:TypeId}(d:w.heap[b]?=some (.cells c el (0,0)))(o:Nat):w.frozen? ⟨b,o,none⟩=false:=by
 simp[World.frozen?,d]
theorem bQ(b:Nat):∀(c:List Value) (o:Nat) (w:World) (k:Nat),k≠b->(w.setCells b o c).heap[k]?=w.heap[k]?
 | [],_,_,_,_=>rfl
 |v::r,o,w,k,h=>by
  rw[World.setCells,bQ b r (o+1) _ k h];exact heap_setCell_other w ⟨b,o,none⟩ k v h
theorem fh(b:Nat):∀(c:List Value) (o:Nat) (w:World),(w.setCells b o c).heap.size=w.heap.size
 | [],_,_=>rfl
 |v::r,o,w=>by rw[World.setCells,fh b r (o+1)];simp[World.setCell]
theorem cq(b:Nat):∀(c:List Value) (o:Nat) (w:World),(w.setCells b o c).os=w.os/\(w.setCells b o c).tape=w.tape/\(w.setCells b o c).output=w.output
 | [],_,_=>⟨rfl,rfl,rfl⟩
 |_::r,o,_=>cq b r (o+1) _
theorem gG(b:Nat){el:TypeId}:∀(d:List Value) (o:Nat) (w:World) (c:Array Value),w.heap[b]?=some (.cells c el (0,0))->o+d.length<=c.size->
 (w.setCells b o d).heap[b]?=some (.cells (c.toList.take o++d++c.toList.drop (o+d.length)).toArray el (0,0))
 | [],o,w,c,hb,_=>by simp[World.setCells,hb]
 |v::r,o,w,c,hb,hs=>by
  simp only[acE]at hs
  have e:(w.setCell ⟨b,o,none⟩ v).heap[b]?=some (.cells (c.setIfInBounds o v) el (0,0)):=by
   simp only[World.setCell,Array.getElem?_modify,hb];rfl
  rw[World.setCells,gG b r (o+1) _ _ e (by simp;omega)];congr 3;have h:o<c.toList.length:=by simp at hs|-;omega
  have i:(c.toList.set o v).drop (o+1+r.length)=c.toList.drop (o+(r.length+1)):=by
   rw[ac0 (by omega)];congr 1;omega
  have j:(c.toList.set o v).take (o+1)=c.toList.take o++[v]:=by
   rw[acF (by simpa using h),ac1 (J2 _)];simp
  simp only[acO,acE,i,j];simp
theorem O7{t:TypeId}{τ:Ty}(h:gA P t τ){b o:Nat}{c:Array Value}{el:TypeId}{cs:List Value}
 (i:w.heap[b]?=some (.cells c el (0,0))) (hs:o+τ.sz<=c.size) (k:cs.length=τ.sz) (d:∀v∈cs,v.oneCell'=true):
 (storeVar t ⟨b,o,none⟩ (cT τ cs)).run P w= .ok () (w.setCells b o cs):=by
 have e:=run_storeCells_cells (P:=P) b o cs 0 w (fun j l=>by rw[oD i];simp;omega) (fun j l=>rZ i _) d;simp[storeVar,dX h,pL k d,kL k d];simpa using e
end
section
variable{w:World}{G:Gh}
theorem bh.len:∀ {τ:Ty} {x:τ.den} {sh:Sh} {cs:List Value},bh w G τ x sh cs->cs.length=τ.sz
 | .int _,_,.leaf,_,h=>by rw[show _=_ from h];rfl
 | .bool,_,.leaf,_,h=>by rw[show _=_ from h];rfl
 | .str,_,.leaf,_,h=>by rw[show _=_ from h];rfl
 | .sl e,l,.sl m,cs,h=>by obtain⟨v,rfl,_⟩:=h;rfl
 | .pair a b,p,.pair s1 s2,cs,h=>by
   obtain⟨c1,c2,rfl,o,q⟩:=h;simp[Ty.sz,bh.len o,bh.len q]
 | .int _,_,.sl _,_,h| .int _,_,.pair _ _,_,h| .bool,_,.sl _,_,h| .bool,_,.pair _ _,_,h
 | .str,_,.sl _,_,h| .str,_,.pair _ _,_,h| .sl _,_,.leaf,_,h| .sl _,_,.pair _ _,_,h
 | .pair _ _,_,.leaf,_,h| .pair _ _,_,.sl _,_,h=>h.elim
theorem bV.one{e:Ty}{l:List e.den}{v:Value}{m:M}(h:bV w G e l v m):v.oneCell'=true:=by
 cases m with
 |row t u nd=>obtain⟨_,_,B,q,_⟩:=h;exact q.one
 |sha u=>obtain⟨⟨B,q,_⟩,_⟩:=h;exact q.one
 |nst b E i o p fr=>obtain⟨⟨B,q,_⟩,_⟩:=h;exact q.one
 |dead=>exact h
theorem bh.one:∀ {τ:Ty} {x:τ.den} {sh:Sh} {cs:List Value},bh w G τ x sh cs->∀v∈cs,v.oneCell'=true
 | .int _,_,.leaf,_,h,v,o=>by rw[show _=_ from h]at o;simp at o;subst o;rfl
 | .bool,_,.leaf,_,h,v,o=>by rw[show _=_ from h]at o;simp at o;subst o;rfl
 | .str,_,.leaf,_,h,v,o=>by rw[show _=_ from h]at o;simp at o;subst o;rfl
 | .sl e,l,.sl m,cs,h,v,o=>by obtain⟨u,rfl,q⟩:=h;simp at o;subst o;exact q.one
 | .pair a b,p,.pair s1 s2,cs,h,v,o=>by
   obtain⟨c1,c2,rfl,y,z⟩:=h;rcases l9.1 o with o|o;exact bh.one y v o;exact bh.one z v o
 | .int _,_,.sl _,_,h,_,_| .int _,_,.pair _ _,_,h,_,_| .bool,_,.sl _,_,h,_,_| .bool,_,.pair _ _,_,h,_,_
 | .str,_,.sl _,_,h,_,_| .str,_,.pair _ _,_,h,_,_| .sl _,_,.leaf,_,h,_,_| .sl _,_,.pair _ _,_,h,_,_
 | .pair _ _,_,.leaf,_,h,_,_| .pair _ _,_,.sl _,_,h,_,_=>h.elim
theorem bh.sub:∀ {p:List Bool} {τ:Ty} {x:τ.den} {sh:Sh} {cs:List Value} {r:TV},fm τ x sh p=some r->bh w G τ x sh cs->
 bh w G r.τ r.x r.sh ((cs.drop (τ.off p)).take r.τ.sz)/\τ.off p+r.τ.sz<=τ.sz/\τ.sub p=some r.τ/\(∀c∈r.sh.ar,c∈sh.ar)
 | [],τ,x,sh,cs,r,hr,h=>by
   have:r=⟨τ,x,sh⟩:=by cases τ<;>simp_all[fm]
   subst this;refine⟨?_,?_,?_,fun c hc=>hc⟩;have:=bh.len h;cases τ<;>simpa[Ty.off,ab7 (Nat.le_of_eq this)]using h;cases τ<;>simp[Ty.off];cases τ<;>simp[Ty.sub]
 |false::p,.pair a b,x,.pair s1 s2,cs,r,hr,h=>by
  obtain⟨A,B,rfl,q,z⟩:=h;obtain⟨u,hle,v,hc⟩:=bh.sub (p:=p) (by simpa[fm]using hr) q;have y:=bh.len q;refine⟨?_,by simp only[Ty.off,Ty.sz];omega,by simpa[Ty.sub]using v,fun c o=>by simp[Sh.ar,hc c o]⟩;simp only[Ty.off];rw[acp (by omega),acg (by simp;omega)];exact u
 |true::p,.pair a b,x,.pair s1 s2,cs,r,hr,h=>by
  obtain⟨A,B,rfl,q,z⟩:=h;obtain⟨u,hle,v,hc⟩:=bh.sub (p:=p) (by simpa[fm]using hr) z;have y:=bh.len q;refine⟨?_,by simp only[Ty.off,Ty.sz];omega,by simpa[Ty.sub]using v,fun c o=>by simp[Sh.ar,hc c o]⟩;simp only[Ty.off];rw[<-y,acD,ab8 (by omega)];simpa using u
 |b::p,.int _,_,_,_,_,hr,_|b::p,.bool,_,_,_,_,hr,_|b::p,.str,_,_,_,_,hr,_|b::p,.sl _,_,_,_,_,hr,_=>by simp[fm]at hr
 |false::p,.pair _ _,_,.leaf,_,_,hr,_|false::p,.pair _ _,_,.sl _,_,_,hr,_=>by simp[fm]at hr
 |true::p,.pair _ _,_,.leaf,_,_,hr,_|true::p,.pair _ _,_,.sl _,_,_,hr,_=>by simp[fm]at hr
theorem dv{v:TV}{τ:Ty}{y:τ.den}(h:fJ v τ=some y):v=⟨τ,y,v.sh⟩:=by
 obtain⟨σ,x,sh⟩:=v;unfold fJ at h;split at h;rename_i e;simp only at e;subst e;simp only[cast_eq,aae]at h;subst h;rfl;cases h
theorem bh.put:∀ {p:List Bool} {τ:Ty} {x:τ.den} {sh:Sh} {cs:List Value} {v:TV} {y:τ.den} {s:Sh} {cv:List Value},
 fC τ x sh p v=some (y,s)->bh w G τ x sh cs->bh w G v.τ v.x v.sh cv->
 bh w G τ y s (cs.take (τ.off p)++cv++cs.drop (τ.off p+v.τ.sz))/\τ.off p+v.τ.sz<=τ.sz/\(∀c∈s.ar,c∈sh.ar\/c∈v.sh.ar)
 | [],τ,x,sh,cs,v,y,s,cv,hp,h,hv=>by
   have D:fJ v τ=some y/\s=v.sh:=by
    cases τ<;>(simp only[fC]at hp;split at hp<;>simp_all)
   obtain⟨hc,rfl⟩:=D;have e:=dv hc;have H:=bh.len h;have J:τ.off []=0:=by cases τ<;>rfl
   have K:v.τ=τ:=by rw[e]
   refine⟨?_,by rw[J,K];omega,fun c z=> .inr z⟩;rw[J,K,acX,aci,ac3,ab8 (by omega),aco];rw[e]at hv;exact hv
 |false::p,.pair a b,x,.pair s1 s2,cs,v,y,s,cv,hp,h,hv=>by
  obtain⟨L,N,rfl,u,I⟩:=h;simp only[fC]at hp;split at hp;rename_i O A B;cases hp;obtain⟨o,hle,q⟩:=bh.put B u hv;have H:=bh.len u;refine⟨⟨_,N,?_,o,I⟩,by simp only[Ty.off,Ty.sz];omega,fun c hc=> ?_⟩;simp only[Ty.off];rw[acg (by omega),acp (by omega)];simp;simp only[Sh.ar,l9]at hc|-;rcases hc with hc|hc;rcases q c hc with h|h;exact .inl (.inl h);exact .inr h;exact .inl (.inr hc);cases hp
 |true::p,.pair a b,x,.pair s1 s2,cs,v,y,s,cv,hp,h,hv=>by
  obtain⟨L,N,rfl,u,I⟩:=h;simp only[fC]at hp;split at hp;rename_i O A B;cases hp;obtain⟨o,hle,q⟩:=bh.put B I hv;have H:=bh.len u;refine⟨⟨L,_,?_,u,o⟩,by simp only[Ty.off,Ty.sz];omega,fun c hc=> ?_⟩;simp only[Ty.off];rw[<-H,acQ,ab7 (by omega),acD,ab8 (by omega)];simp[acZ];simp only[Sh.ar,l9]at hc|-;rcases hc with hc|hc;exact .inl (.inl hc);rcases q c hc with h|h;exact .inl (.inr h);exact .inr h;cases hp
 |b::p,.int _,_,_,_,_,_,_,_,hp,_,_|b::p,.bool,_,_,_,_,_,_,_,hp,_,_|b::p,.str,_,_,_,_,_,_,_,hp,_,_|b::p,.sl _,_,_,_,_,_,_,_,hp,_,_=>by simp[fC]at hp
 |false::p,.pair _ _,_,.leaf,_,_,_,_,_,hp,_,_|false::p,.pair _ _,_,.sl _,_,_,_,_,_,hp,_,_=>by simp[fC]at hp
 |true::p,.pair _ _,_,.leaf,_,_,_,_,_,hp,_,_|true::p,.pair _ _,_,.sl _,_,_,_,_,_,hp,_,_=>by simp[fC]at hp
theorem oE:∀(τ:Ty) (m:M),∀c∈(fV τ m).ar,c∈m.ar
 | .int _,_,c,h| .bool,_,c,h| .str,_,c,h=>by simp[fV,Sh.ar]at h
 | .sl _,_,c,h=>h
 | .pair a b,m,c,h=>by
   simp only[fV,Sh.ar,l9]at h;rcases h with h|h;exact oE a m c h;exact oE b m c h
theorem bh.D8:∀ {τ:Ty} {x:τ.den} {cs:List Value} {B:List Nat} {hs:List Nat},aK w τ x cs B->(∀b∈B,G.col b∈hs)->hs≠ []->bh w G τ x (fV τ (.sha hs)) cs
 | .int _,_,_,_,_,h,_,_=>h.1
 | .bool,_,_,_,_,h,_,_=>h.1
 | .str,_,_,_,_,h,_,_=>h.1
 | .sl e,l,cs,B,hs,h,hb,hn=>by obtain⟨v,rfl,q⟩:=h;exact⟨v,rfl,⟨B,q,hb⟩,fun e=>absurd e hn⟩
 | .pair a b,p,cs,B,hs,h,hb,hn=>by
   obtain⟨u,y,B1,B2,rfl,rfl,z,A⟩:=h;exact⟨u,y,rfl,bh.D8 z (fun b o=>hb b (by simp[o])) hn,bh.D8 A (fun b o=>hb b (by simp[o])) hn⟩
theorem bh.zero:∀(τ:Ty),bh w G τ τ.aa (fV τ (.sha [])) τ.zero
 | .int _=>rfl
 | .bool=>rfl
 | .str=>rfl
 | .sl _=>⟨_,rfl,⟨[],.inl ⟨⟨none,rfl⟩,rfl,rfl⟩,by simp⟩,fun _=>rfl⟩
 | .pair a b=>⟨_,_,rfl,bh.zero a,bh.zero b⟩
theorem bV.rep{e:Ty}{l:List e.den}{v:Value}{m:M}(h:bV w G e l v m)(z:m≠ .dead):
 ∃B,di w e.sz (aK w e) l v B/\∀b∈B,G.col b∈m.ar:=by
 cases m with
 |row t H nd=>
  obtain⟨_,_,B,u,hc⟩:=h;refine⟨B,u,fun b q=> ?_⟩;cases B with
  |nil=>cases q
  |cons x I=>
   obtain⟨A,_,D,_⟩:=hc x I rfl;rcases v7.1 q with rfl|q;simp[M.ar,A];simp[M.ar,D b q]
 |sha H=>exact h.1
 |nst b E i o p fr=>obtain⟨⟨B,u,hc⟩,_⟩:=h;exact⟨B,u,fun x y=>by simp[M.ar,hc x y]⟩
 |dead=>exact absurd rfl z
theorem bh.rep:∀ {τ:Ty} {x:τ.den} {sh:Sh} {cs:List Value},bh w G τ x sh cs->sh.live=true->∃B,aK w τ x cs B/\∀b∈B,G.col b∈sh.ar
 | .int _,_,.leaf,_,h,_=>⟨[],⟨h,rfl⟩,by simp⟩
 | .bool,_,.leaf,_,h,_=>⟨[],⟨h,rfl⟩,by simp⟩
 | .str,_,.leaf,_,h,_=>⟨[],⟨h,rfl⟩,by simp⟩
 | .sl e,l,.sl m,cs,h,hl=>by
   obtain⟨v,rfl,A⟩:=h;obtain⟨B,D,hc⟩:=A.rep (by rintro rfl;simp[Sh.live]at hl);exact⟨B,⟨v,rfl,D⟩,hc⟩
 | .pair a b,p,.pair s1 s2,cs,h,hl=>by
   obtain⟨H,I,rfl,J,K⟩:=h;simp only[Sh.live,K_]at hl;obtain⟨y,L,q⟩:=bh.rep J hl.1;obtain⟨z,N,u⟩:=bh.rep K hl.2;refine⟨y++z,⟨H,I,y,z,rfl,rfl,L,N⟩,fun b o=> ?_⟩;simp only[Sh.ar,l9];rcases l9.1 o with o|o;exact .inl (q b o);exact .inr (u b o)
 | .int _,_,.sl _,_,h,_| .int _,_,.pair _ _,_,h,_| .bool,_,.sl _,_,h,_| .bool,_,.pair _ _,_,h,_
 | .str,_,.sl _,_,h,_| .str,_,.pair _ _,_,h,_| .sl _,_,.leaf,_,h,_| .sl _,_,.pair _ _,_,h,_
 | .pair _ _,_,.leaf,_,h,_| .pair _ _,_,.sl _,_,h,_=>h.elim
theorem xK:∀ {τ:Ty} {cs r:List Value} {x:τ.den},decode τ cs=some (x,r)->∃c,cs=c++r/\bh w G τ x (fV τ (.sha [])) c
 | .int k,cs,r,x,h=>by
   match cs,h with
   | .int k' n::r',h=>
     simp only[decode]at h;split at h;rename_i e;simp only[aae,S']at h;obtain⟨rfl,rfl⟩:=h;subst e;exact⟨[_],rfl,rfl⟩;cases h
 | .bool,cs,r,x,h=>by
   match cs,h with
   | .bool b::r',h=>simp only[decode,aae,S']at h;obtain⟨rfl,rfl⟩:=h;exact⟨[_],rfl,rfl⟩
 | .str,cs,r,x,h=>by
   match cs,h with
   | .string b::r',h=>simp only[decode,aae,S']at h;obtain⟨rfl,rfl⟩:=h;exact⟨[_],rfl,rfl⟩
 | .sl e,cs,r,x,h=>by
   match cs,h with
   | .slice none 0 0::r',h=>simp only[decode,aae,S']at h;obtain⟨rfl,rfl⟩:=h;exact⟨[_],rfl,_,rfl,⟨[],.inl ⟨⟨none,rfl⟩,rfl,rfl⟩,by simp⟩,fun _=>rfl⟩
 | .pair a b,cs,r,x,h=>by
   simp only[decode]at h;split at h;rename_i x1 r1 j;split at h;rename_i y1 r2 l;simp only[aae,S']at h;obtain⟨rfl,rfl⟩:=h;obtain⟨d,rfl,g1⟩:=xK j;obtain⟨i,rfl,g2⟩:=xK l;exact⟨d++i,by simp,d,i,rfl,g1,g2⟩;cases h;cases h
theorem Vc{τ:Ty}{v:Value}{r:TV}(h:DA τ v=some r):ck w G (.d r) v/\r.sh=fV r.τ (.sha [])/\r.τ=τ:=by
 unfold DA at h;split at h;rename_i a b cs;split at h;rename_i x i;cases h;obtain⟨c,hc,e⟩:=xK (w:=w) (G:=G) i;refine⟨⟨c,?_,e⟩,rfl,rfl⟩;simp only[aco]at hc;simp[cT,<-hc];cases h;cases h;rename_i hnp;split at h;rename_i x i;cases h;obtain⟨c,hc,e⟩:=xK (w:=w) (G:=G) i;refine⟨⟨c,?_,e⟩,rfl,rfl⟩;simp only[aco]at hc;subst hc;cases τ with
 |pair a b=>
  exfalso;have:=e.len;simp only[List.length_singleton,Ty.sz]at this;have h1:=a.og;have h2:=b.og;omega
 |_=>rfl
 cases h
end
def Xd(P:Program)(t:TypeId)(τ:Ty):Prop:=
 ∀(w:World) (op:BinOp) (x y:Operand) (a b:τ.den) (c1 c:List Value),(op= .eql\/op= .neq)->aK w τ a c1 []->aK w τ b c []->
  (do eqGuard op t x y (cT τ c1) (cT τ c);binOp op t (cT τ c1) (cT τ c)).run P w= .ok (.bool (if op= .eql then eqv τ a b else !eqv τ a b)) w
structure CxTy(P:Program)(C:Cx):Prop where
 tt:∀t i,C.tt t=some i->LG P t i
 eq:∀t i,C.tt t=some i->i.τ.cn=true->i.τ.flat=true->Xd P t i.τ
 fs:∀t i,C.tt t=some i->i.τ.cn=false->i.fs=[]
 u8:∀t i,C.tt t=some i->i.τ= .sl (.int .u8)->P.underlying i.el=some (.int .u8)
def bg(U:Nat->Prop)(G:Gh)(v:SV):Prop:=
 (∀c∈v.sc,0<c/\U c/\G.bx c=false)/\(∀c∈v.bt,0<c/\U c/\G.bx c=true)/\(∀c∈v.rt,0<c/\U c/\G.bx c=false)
def RI(ops:List Oper)(E:Env)(tmps:Array Value):Prop:=
 ∀s j w act v,E.s.getD s .no= .g j w act v->(act=true↔yielded ops.toArray tmps j=some w)
def Gd(ops:List Oper)(tmps:Array Value)(G:Option (Nat×Bool)):Prop:=∀j w,G=some (j,w)->yielded ops.toArray tmps j=some w
def Yields(w0:World)(c0:C0)(U:Nat->Prop)(E:Env)(a:Act)(r:Result Next)(sv:SV):Prop:=
 ∃mv w' G',r= .ok (.value mv) w'/\Inv w0 c0 U E a w' G'/\ck w' G' sv mv/\bg U G' sv/\(∀t u,sv= .box t u->∀s b,E.s.getD s .no≠ .box t b)
section
variable{P:Program}{C:Cx}{w0:World}{c0:C0}{U:Nat->Prop}{E:Env}{a:Act}{w:World}{G:Gh}{ops:List Oper}{g:Option (Nat×Bool)}
theorem Inv.oK(h:Inv w0 c0 U E a w G)(s:Nat):bg U G (E.s.getD s .no):=⟨h.sc s,h.bt s,h.rt s⟩
theorem bg.nil{v:TV}(h:v.sh.ar=[]):bg U G (.d v):=⟨by simp[SV.sc,h],by simp[SV.bt],by simp[SV.rt]⟩
theorem bg.d{v:TV}(h:∀c∈v.sh.ar,0<c/\U c/\G.bx c=false):bg U G (.d v):=⟨h,by simp[SV.bt],by simp[SV.rt]⟩
theorem aap{s:SV}{v:Value}(d:ck w G s v)(i:∀j w' act u,s= .g j w' act u->(act=true↔yielded ops.toArray a.tmps j=some w'))(k:Gd ops a.tmps g){sv:SV}(h:xp g s=some sv):
 ck w G sv v/\(∀c∈sv.sc,c∈s.sc)/\(∀c∈sv.bt,c∈s.bt)/\(∀c∈sv.rt,c∈s.rt):=by
 cases s with
 |g j w' act u=>
  simp only[xp]at h;split at h;rename_i e;cases h;have b:act=true:=(i j w' act sv rfl).2 (k j w' e);subst b;exact⟨(d.1 rfl).2,fun c hc=>by simpa[SV.sc]using hc,fun c hc=>by simpa[SV.bt]using hc,fun c hc=>by simpa[SV.rt]using hc⟩;cases h
 |_=>simp only[xp,aae]at h;subst h;exact⟨d,fun c hc=>hc,fun c hc=>hc,fun c hc=>hc⟩
theorem xh:∀ {sv:SV} {v:Value},ck w G sv v->ck w G (bN sv) v
 | .box t u,v,h=>by obtain⟨i,c,el,b,k,l,h4,h5,h6⟩:=h;exact⟨i,k,l.trans b,b⟩
 | .g j w' act u,v,h=>⟨fun e=>⟨by
  have:=(h.1 e).1;cases u<;>first|rfl|(simp[SV.du]at this),xh (h.1 e).2⟩,h.2⟩
 | .no,_,h| .d _,_,h| .ptr ..,_,h| .ept ..,_,h| .rdp ..,_,h| .tup _,_,h=>h
theorem M3:∀sv:SV,(∀c∈(bN sv).sc,c∈sv.sc)/\(∀c∈(bN sv).bt,c∈sv.bt)/\(∀c∈(bN sv).rt,c∈sv.rt)
 | .box t u=>⟨by simp[bN,SV.sc],by simp[bN,SV.bt],by simp[bN,SV.rt]⟩
 | .g j w' true u=>by
   obtain⟨b,e,i⟩:=M3 u;exact⟨fun c hc=>by simp only[bN,SV.sc,if_true]at hc|-;exact b c hc,fun c hc=>by simp only[bN,SV.bt,if_true]at hc|-;exact e c hc,fun c hc=>by simp only[bN,SV.rt,if_true]at hc|-;exact i c hc⟩
 | .g j w' false u=>⟨fun c hc=>by simp[bN,SV.sc]at hc,fun c hc=>by simp[bN,SV.bt]at hc,fun c hc=>by simp[bN,SV.rt]at hc⟩
 | .no| .d _| .ptr ..| .ept ..| .rdp ..| .tup _=>⟨fun _ h=>h,fun _ h=>h,fun _ h=>h⟩
theorem Fg:∀sv t u,bN sv≠ .box t u
 | .box _ _,_,_,h| .g _ _ _ _,_,_,h| .no,_,_,h| .d _,_,_,h| .ptr ..,_,_,h| .ept ..,_,_,h| .rdp ..,_,_,h| .tup _,_,_,h=>by simp[bN]at h
theorem Su(i:Inv w0 c0 U E a w G){t:TypeId}{x:Operand}{sv:SV}(h:fZ C E.rd t x=some sv):ck w G sv (a.eval x)/\bg U G sv:=by
 cases x with
 |tmp s=>
  simp only[fZ,aae]at h;subst h;have hm:=i.oK s;obtain⟨b,e,j⟩:=M3 (E.s.getD s .no);exact⟨xh (i.slots s),fun c hc=>hm.1 c (b c hc),fun c hc=>hm.2.1 c (e c hc),fun c hc=>hm.2.2 c (j c hc)⟩
 |const v=>
  simp only[fZ]at h;split at h;rw[v8]at h;obtain⟨r,k,rfl⟩:=h;obtain⟨b,e,j⟩:=Vc (w:=w) (G:=G) k;refine⟨b,bg.d fun c hc=> ?_⟩;rw[e]at hc;have:=oE _ _ c hc;simp[M.ar]at this;cases h
 |global g=>simp[fZ]at h
 |func f=>simp[fZ]at h
theorem W0(k:RI ops E a.tmps){t:TypeId}{x:Operand}{s:SV}(h:fZ C E.rd t x=some s):
 ∀j w' act u,s= .g j w' act u->(act=true↔yielded ops.toArray a.tmps j=some w'):=by
 intro j w' act u e;cases x with
 |tmp n=>
  simp only[fZ,aae]at h;have b:bN (E.s.getD n .no)= .g j w' act u:=h.trans e;cases d:E.s.getD n .no with
  |g l i c m=>rw[d]at b;simp only[bN,SV.g.injEq]at b;obtain⟨rfl,rfl,rfl,_⟩:=b;exact k n l i c m d
  |_=>rw[d]at b;simp[bN]at b
 |const v=>
  simp only[fZ]at h;split at h;rw[v8]at h;obtain⟨r,hr,rfl⟩:=h;cases e;cases h
 |global g=>simp[fZ]at h
 |func f=>simp[fZ]at h
theorem fK(e:Inv w0 c0 U E a w G)(i:RI ops E a.tmps)(j:Gd ops a.tmps g){t:TypeId}{x:Operand}{sv:SV}(h:arg C E.rd g t x=some sv):
 ck w G sv (a.eval x)/\bg U G sv:=by
 simp only[arg,acU]at h;obtain⟨s,d,hu⟩:=h;obtain⟨k,b⟩:=Su e d;obtain⟨l,m,n,h6⟩:=aap k (W0 i d) j hu;exact⟨l,fun c hc=>b.1 c (m c hc),fun c hc=>b.2.1 c (n c hc),fun c hc=>b.2.2 c (h6 c hc)⟩
theorem jD(d:Inv w0 c0 U E a w G)(e:RI ops E a.tmps)(i:Gd ops a.tmps g){t:TypeId}{x:Operand}{v:TV}(h:cZ C E.rd g t x=some v):
 (∃cs,a.eval x=cT v.τ cs/\bh w G v.τ v.x v.sh cs)/\(∀c∈v.sh.ar,0<c/\U c/\G.bx c=false)/\v.sh.live=true:=by
 simp only[cZ]at h;split at h;rename_i u hu;split at h;rename_i b;cases h;obtain⟨j,k⟩:=fK d e i hu;exact⟨j,k.1,b⟩;cases h;cases h
/-scalars-/
theorem ei(d:Inv w0 c0 U E a w G)(e:RI ops E a.tmps)(i:Gd ops a.tmps g){t:TypeId}{x:Operand}{k:IntKind}{n:Int}{sh:Sh}
 (h:cZ C E.rd g t x=some ⟨.int k,n,sh⟩):a.eval x= .int k n:=by
 obtain⟨⟨cs,j,c⟩,_⟩:=jD d e i h;cases sh with
 |leaf=>rw[j,show cs=_ from c];rfl
 |sl m=>exact c.elim
 |pair a b=>exact c.elim
theorem DQ(d:Inv w0 c0 U E a w G)(e:RI ops E a.tmps)(i:Gd ops a.tmps g){t:TypeId}{x:Operand}{b:Bool}{sh:Sh}
 (h:cZ C E.rd g t x=some ⟨.bool,b,sh⟩):a.eval x= .bool b:=by
 obtain⟨⟨cs,j,c⟩,_⟩:=jD d e i h;cases sh with
 |leaf=>rw[j,show cs=_ from c];rfl
 |sl m=>exact c.elim
 |pair a b=>exact c.elim
theorem nZ(d:Inv w0 c0 U E a w G)(e:RI ops E a.tmps)(i:Gd ops a.tmps g){t:TypeId}{x:Operand}{s:ByteArray}{sh:Sh}
 (h:cZ C E.rd g t x=some ⟨.str,s,sh⟩):a.eval x= .string s:=by
 obtain⟨⟨cs,j,c⟩,_⟩:=jD d e i h;cases sh with
 |leaf=>rw[j,show cs=_ from c];rfl
 |sl m=>exact c.elim
 |pair a b=>exact c.elim
theorem jJ(i:Inv w0 c0 U E a w G)(j:RI ops E a.tmps)(k:Gd ops a.tmps g){t:TypeId}{x:Operand}{e:Ty}{l:List e.den}{sh:Sh}
 (h:cZ C E.rd g t x=some ⟨.sl e,l,sh⟩):∃m,sh= .sl m/\bV w G e l (a.eval x) m/\m≠ .dead/\(∀c∈m.ar,0<c/\U c/\G.bx c=false):=by
 obtain⟨⟨cs,n,d⟩,o,p⟩:=jD i j k h;cases sh with
 |leaf=>exact d.elim
 |sl m=>
  obtain⟨v,rfl,q⟩:=d;exact⟨m,rfl,by rw[n];exact q,by rintro rfl;simp[Sh.live]at p,o⟩
 |pair a b=>exact d.elim
theorem cR(b:Inv w0 c0 U E a w G){r:Result Next}{sv:SV}{mv:Value}(c:r= .ok (.value mv) w)(hs:ck w G sv mv)(hm:bg U G sv)
 (d:∀t u,sv≠ .box t u):Yields w0 c0 U E a r sv:=⟨mv,w,G,c,b,hs,hm,fun t u e=>absurd e (d t u)⟩
theorem ok_int(k:IntKind)(n:Int):ck w G (vI k n) (.int k n):=⟨_,rfl,rfl⟩
theorem Zo(b:Bool):ck w G (vB b) (.bool b):=⟨_,rfl,rfl⟩
theorem aba(s:ByteArray):ck w G (vS s) (.string s):=⟨_,rfl,rfl⟩
theorem QW(k:IntKind)(n:Int):bg U G (vI k n):=bg.nil rfl
theorem V4(b:Bool):bg U G (vB b):=bg.nil rfl
theorem XX(s:ByteArray):bg U G (vS s):=bg.nil rfl
theorem dV(b:Inv w0 c0 U E a w G){r:Result Next}{k:IntKind}{n:Int}(c:r= .ok (.value (.int k n)) w):Yields w0 c0 U E a r (vI k n):=
 cR b c (ok_int k n) (QW k n) (by rintro t u ⟨⟩)
theorem dg(c:Inv w0 c0 U E a w G){r:Result Next}{b:Bool}(d:r= .ok (.value (.bool b)) w):Yields w0 c0 U E a r (vB b):=
 cR c d (Zo b) (V4 b) (by rintro t u ⟨⟩)
theorem pF(b:Inv w0 c0 U E a w G){r:Result Next}{s:ByteArray}(c:r= .ok (.value (.string s)) w):Yields w0 c0 U E a r (vS s):=
 cR b c (aba s) (XX s) (by rintro t u ⟨⟩)
def lg(w0:World)(c0:C0)(U:Nat->Prop)(E:Env)(a:Act)(r:Result Next):Ef->Prop
 | .val v=>Yields w0 c0 U E a r v
 | .chk c v=>c=true->Yields w0 c0 U E a r v
 |_=>False
/-move,assign-/
theorem S5:∀ {sv:SV} {j w' act u},bN sv= .g j w' act u->∃b,sv= .g j w' act b/\u=bN b
 | .g _ _ _ v,j,w',act,u,h=>by simp only[bN,SV.g.injEq]at h;obtain⟨rfl,rfl,rfl,rfl⟩:=h;exact⟨v,rfl,rfl⟩
 | .box _ _,_,_,_,_,h| .no,_,_,_,_,h| .d _,_,_,_,_,h| .ptr ..,_,_,_,_,h| .ept ..,_,_,_,_,h| .rdp ..,_,_,_,_,h| .tup _,_,_,_,_,h=>by simp[bN]at h
theorem Vn{t:TypeId}{x:Operand}{sv:SV}(h:arg C E.rd g t x=some sv):∀b u,sv≠ .box b u:=by
 intro b u e;subst e;simp only[arg,acU]at h;obtain⟨s,d,hu⟩:=h;cases x with
 |tmp n=>
  simp only[fZ,aae]at d;cases c:s with
  |g j w' act v=>
   obtain⟨u',_,rfl⟩:=S5 (d.trans c);rw[c]at hu;simp only[xp]at hu;split at hu;simp only[aae]at hu;exact Fg _ b u hu;cases hu
  |_=>
   rw[c]at hu;simp only[xp,aae,reduceCtorEq]at hu
   try (rw[<-d]at c;exact Fg _ b u (c.trans hu))
 |const v=>
  simp only[fZ]at d;split at d;rw[v8]at d;obtain⟨r,hr,rfl⟩:=d;simp[xp]at hu;cases d
 |global g=>simp[fZ]at d
 |func f=>simp[fZ]at d
theorem S2(b:Inv w0 c0 U E a w G)(c:RI ops E a.tmps)(d:Gd ops a.tmps g){t:TypeId}{x:Operand}{sv:SV}(h:arg C E.rd g t x=some sv)
 {r:Result Next} (e:r= .ok (.value (a.eval x)) w):Yields w0 c0 U E a r sv:=
 cR b e (fK b c d h).1 (fK b c d h).2 (Vn h)
theorem Zi(c:Inv w0 c0 U E a w G){op:BinOp}{k k':IntKind}{m n:Int}{t:TypeId}{x y:Operand}{e:Ef}(d:k=k'\/op= .shl\/op= .shr)
 (i:a.eval x= .int k m) (j:a.eval y= .int k' n) (h:YP op k m n=some e):
 lg w0 c0 U E a ((do pure (.value (<-(do eqGuard op t x y (a.eval x) (a.eval y);binOp op t (a.eval x) (a.eval y)))):Sem Next).run P w) e:=by
 rw[i,j];have b:∀v,eqGuard op t x y (.int k m) v=pure ():=fun v=>eqGuard_at_int ..;cases op<;>simp only[YP,aae,reduceCtorEq]at h<;>(try cases h)<;>simp only[lg]
 case add=>
  obtain rfl:k=k':=(by simpa using d)
  exact dV c (by simp[b,binOp,Op.intArith])
 case sub=>
  obtain rfl:k=k':=(by simpa using d)
  exact dV c (by simp[b,binOp,Op.intArith])
 case mul=>
  obtain rfl:k=k':=(by simpa using d)
  exact dV c (by simp[b,binOp,Op.intArith])
 case quo=>
  obtain rfl:k=k':=(by simpa using d)
  intro hc;have hc:=e_ hc;exact dV c (by simp[b,binOp,Op.intDiv,hc])
 case rem=>
  obtain rfl:k=k':=(by simpa using d)
  intro hc;have hc:=e_ hc;exact dV c (by simp[b,binOp,Op.intDiv,hc])
 case and=>
  obtain rfl:k=k':=(by simpa using d)
  exact dV c (by simp[b,binOp,Op.intBits,bits])
 case or=>
  obtain rfl:k=k':=(by simpa using d)
  exact dV c (by simp[b,binOp,Op.intBits,bits])
 case xor=>
  obtain rfl:k=k':=(by simpa using d)
  exact dV c (by simp[b,binOp,Op.intBits,bits])
 case shl=>intro hc;have hc:=e_ hc;exact dV c (by simp[b,binOp,Op.shift,Int.not_lt.2 hc])
 case shr=>intro hc;have hc:=e_ hc;exact dV c (by simp[b,binOp,Op.shift,Int.not_lt.2 hc])
 case eql=>
  obtain rfl:k=k':=(by simpa using d)
  exact dg c (by simp[b,binOp,Op.intCmp])
 case neq=>
  obtain rfl:k=k':=(by simpa using d)
  exact dg c (by simp[b,binOp,Op.intCmp])
 case lss=>
  obtain rfl:k=k':=(by simpa using d)
  exact dg c (by simp[b,binOp,Op.intCmp])
 case leq=>
  obtain rfl:k=k':=(by simpa using d)
  exact dg c (by simp[b,binOp,Op.intCmp])
 case gtr=>
  obtain rfl:k=k':=(by simpa using d)
  exact dg c (by simp[b,binOp,Op.intCmp])
 case geq=>
  obtain rfl:k=k':=(by simpa using d)
  exact dg c (by simp[b,binOp,Op.intCmp])
theorem Zm(c:Inv w0 c0 U E a w G){op:BinOp}{m n:ByteArray}{t:TypeId}{x y:Operand}{d:Ef}
 (e:a.eval x= .string m) (i:a.eval y= .string n) (h:Xi op m n=some d):
 lg w0 c0 U E a ((do pure (.value (<-(do eqGuard op t x y (a.eval x) (a.eval y);binOp op t (a.eval x) (a.eval y)))):Sem Next).run P w) d:=by
 rw[e,i];have b:∀v,eqGuard op t x y (.string m) v=pure ():=fun v=>eqGuard_at_string ..;cases op<;>simp only[Xi,aae,reduceCtorEq]at h<;>(try cases h)<;>simp only[lg]
 case add=>
  intro hc;have hc:=e_ hc;have j:¬(9223372036854775807<(m.size:Int)+(n.size:Int)):=by omega
  exact pF c (by simp[b,binOp,Op.stringOp,j])
 case eql=>exact dg c (by simp[b,binOp,Op.stringOp])
 case neq=>exact dg c (by simp[b,binOp,Op.stringOp])
 case lss=>exact dg c (by simp[b,binOp,Op.stringOp])
 case leq=>exact dg c (by simp[b,binOp,Op.stringOp])
 case gtr=>exact dg c (by simp[b,binOp,Op.stringOp])
 case geq=>exact dg c (by simp[b,binOp,Op.stringOp])
theorem Fe:∀(l:List SV) (t k s:Nat) (v:TV),dE l t k=some (s,v)->k<=s/\l.getD (s-k) .no= .box t v
 | [],_,_,_,_,h=>by simp[dE]at h
 |x::l,t,k,s,v,h=>by
  have step:dE l t (k+1)=some (s,v)->k<=s/\(x::l).getD (s-k) .no= .box t v:=by
   intro h;obtain⟨h1,b⟩:=Fe l t (k+1) s v h;refine⟨by omega,?_⟩;rw[show s-k=(s-(k+1))+1 by omega];simpa using b
  cases x with
  |box u y=>
   simp only[dE]at h;split at h;rename_i e;simp only[aae,S']at h;obtain⟨rfl,rfl⟩:=h;subst e;exact⟨J2 _,by simp⟩;exact step h
  |_=>exact step h
theorem Bk:∀ {τ:Ty} {x:τ.den} {sh:Sh} {cs:List Value} {t:Nat} {e:Ty} {l:List e.den} {hs:List Nat} {d:Bool},
 bh w G τ x sh cs->ik t e τ x sh=some (l,hs,d)->∃v,bV w G e l v (.row t hs d)/\(∀c∈hs,c∈sh.ar)/\t∈sh.ar
 | .sl e',l',.sl (.row u hs' nd'),cs,t,e,l,hs,d,hv,h=>by
   obtain⟨v,rfl,i⟩:=hv;simp only[ik]at h;split at h;rename_i j;split at h;rename_i k;subst j k;simp only[cast_eq,aae,S']at h;obtain⟨rfl,rfl,rfl⟩:=h;exact⟨v,i,fun c hc=>by simp[Sh.ar,M.ar,hc],by simp[Sh.ar,M.ar]⟩;cases h;cases h
 | .pair a b,p,.pair s1 s2,cs,t,e,l,hs,d,hv,h=>by
   obtain⟨c1,c2,rfl,m,n⟩:=hv;simp only[ik]at h;split at h;rename_i r i;cases h;obtain⟨v,g1,g2,g3⟩:=Bk m i;exact⟨v,g1,fun c hc=>by simp[Sh.ar,g2 c hc],by simp[Sh.ar,g3]⟩;obtain⟨v,g1,g2,g3⟩:=Bk n h;exact⟨v,g1,fun c hc=>by simp[Sh.ar,g2 c hc],by simp[Sh.ar,g3]⟩
 | .sl _,_,.leaf,_,_,_,_,_,_,_,h| .sl _,_,.pair _ _,_,_,_,_,_,_,_,h| .sl _,_,.sl (.sha _),_,_,_,_,_,_,_,h| .sl _,_,.sl .dead,_,_,_,_,_,_,_,h
 | .int _,_,_,_,_,_,_,_,_,_,h| .bool,_,_,_,_,_,_,_,_,_,h| .str,_,_,_,_,_,_,_,_,_,h
 | .pair _ _,_,.leaf,_,_,_,_,_,_,_,h| .pair _ _,_,.sl _,_,_,_,_,_,_,_,h=>by simp[ik]at h
theorem Jr:∀(L:List SV) {t:Nat} {e:Ty} {l:List e.den} {hs:List Nat} {i:Bool},(∀s∈L,∃mv,ck w G s mv)->eB t e L=some (l,hs,i)->
 ∃s∈L,(∃v,bV w G e l v (.row t hs i))/\(∀c∈hs,c∈s.sc)/\t∈s.sc
 | [],_,_,_,_,_,_,h=>by simp[eB]at h
 |x::L,t,e,l,hs,i,hL,h=>by
  have step:eB t e L=some (l,hs,i)->∃s∈x::L,(∃v,bV w G e l v (.row t hs i))/\(∀c∈hs,c∈s.sc)/\t∈s.sc:=by
   intro h;obtain⟨s,n,o⟩:=Jr L (fun s hs=>hL s (abG _ hs)) h;exact⟨s,abG _ n,o⟩
  obtain⟨mv,m⟩:=hL x (by simp);cases x with
  |d v=>
   simp only[eB]at h;split at h;rename_i r j;cases h;obtain⟨cs,_,k⟩:=m;obtain⟨u,g1,g2,g3⟩:=Bk k j;exact⟨.d v,by simp,⟨u,g1⟩,g2,g3⟩;exact step h
  |box b v=>
   simp only[eB]at h;split at h;rename_i r j;cases h;obtain⟨bk,c,el,_,_,_,_,_,k⟩:=m;obtain⟨u,g1,g2,g3⟩:=Bk k j;exact⟨.box b v,by simp,⟨u,g1⟩,g2,g3⟩;exact step h
  |_=>exact step h
theorem Inv.eB(p:Inv w0 c0 U E a w G){t:Nat}{e:Ty}{l:List e.den}{hs:List Nat}{q:Bool}(h:E.rd.row t e=some (l,hs,q)):
 (∃v,bV w G e l v (.row t hs q))/\(∀c∈t::hs,0<c/\U c/\G.bx c=false):=by
 obtain⟨s,u,y,z,A⟩:=Jr (w:=w) (G:=G) E.s (fun s hs=>by
  obtain⟨i,o,rfl⟩:=acJ.1 hs;exact⟨_,by have:=p.slots i;simpa[acV,o]using this⟩) h
 obtain⟨i,o,rfl⟩:=acJ.1 u;refine⟨y,fun c hc=> ?_⟩;have:=p.sc i c;simp only[acV,o,acw,acS]at this;rcases v7.1 hc with rfl|hc;exact this A;exact this (z c hc)
theorem Inv.box(q:Inv w0 c0 U E a w G){t s:Nat}{v:TV}(h:E.rd.box t=some (s,v)):
 E.s.getD s .no= .box t v/\∃o c el,G.hdr t= .pointer (some ⟨o,0,none⟩)/\4<=t/\G.col o=t/\w.heap[o]?=some (.cells c el (0,0))/\bh w G v.τ v.x v.sh c.toList/\(∀c∈v.sh.ar,0<c/\U c/\G.bx c=false):=by
 obtain⟨_,p⟩:=Fe E.s t 0 s v h;simp only[Nat.sub_zero]at p;have u:=q.slots s;have hc:=q.sc s;rw[p]at u hc;obtain⟨o,c,el,g1,g2,g3,g4,g5,g6⟩:=u;exact⟨p,o,c,el,g3.trans g1,g2,g4,g5,g6,hc⟩
theorem bV.elem{e:Ty}{l:List e.den}{v:Value}{t:Nat}{hs:List Nat}{z:Bool}(h:bV w G e l v (.row t hs z)){i:Nat}(hi:i<l.length):
 ∃b off cap c el q B,v= .slice (some ⟨b,off,none⟩) l.length cap/\w.heap[b]?=some (.cells c el q)/\off+cap*e.sz<=c.size/\l.length<=cap/\G.col b=t/\
  aK w e (l.getD i e.aa) ((c.toList.drop (off+i*e.sz)).take e.sz) B/\(∀x∈B,G.col x∈hs):=by
 obtain⟨_,_,B,A,hc⟩:=h;rcases A with⟨_,rfl,_⟩|⟨b,off,cap,c,el,q,D,H,o,I,u,rfl,J⟩;simp at hi;obtain⟨K,_,L,_⟩:=hc b D rfl;have p:l[i]?=some l[i]:=acw hi;obtain⟨B1,N,B2,rfl,y,_,_⟩:=aN.get (sz:=e.sz) (fun x c B h=>aK.len h) J p;refine⟨b,off,cap,c,el,q,N,H,I,u,o,K,?_,fun x p=>L x (by simp[p])⟩;have hmul:(i+1)*e.sz<=l.length*e.sz:=J_ _ hi;rw[sw,acC]at hmul;rw[acV,p,acS];rw[acm,acy,ack,acv (by omega)]at y;exact y
theorem di.elem{e:Ty}{l:List e.den}{v:Value}{B:List Nat}(h:di w e.sz (aK w e) l v B){i:Nat}(hi:i<l.length):
 ∃b off cap c el q B',v= .slice (some ⟨b,off,none⟩) l.length cap/\w.heap[b]?=some (.cells c el q)/\off+cap*e.sz<=c.size/\l.length<=cap/\b∈B/\
  aK w e (l.getD i e.aa) ((c.toList.drop (off+i*e.sz)).take e.sz) B'/\(∀x∈B',x∈B):=by
 rcases h with⟨_,rfl,_⟩|⟨b,off,cap,c,el,q,Bs,z,o,A,u,rfl,D⟩;simp at hi;have p:l[i]?=some l[i]:=acw hi;obtain⟨B1,H,B2,rfl,y,_,_⟩:=aN.get (sz:=e.sz) (fun x c B h=>aK.len h) D p;refine⟨b,off,cap,c,el,q,H,z,A,u,o,by simp,?_,fun x p=>by simp[p]⟩;have hmul:(i+1)*e.sz<=l.length*e.sz:=J_ _ hi;rw[sw,acC]at hmul;rw[acV,p,acS];rw[acm,acy,ack,acv (by omega)]at y;exact y
theorem Sm{s:TypeId}{i:TI}(d:LG P s i){j:Nat}(hj:j<i.fs.length)(b o:Nat):
 (Instr.fieldAt s (.pointer (some ⟨b,o,none⟩)) j).run P w= .ok (.pointer (some ⟨b,o+i.τ.off (eG i.fs.length j),none⟩)) w\/i.τ.cn=false:=by
 obtain⟨_,d⟩:=d;cases h:i.τ with
 |pair x y=>
  rw[h]at d;obtain⟨fields,hu,hsz,l⟩:=d;left;have c:j<fields.size:=by omega
  obtain⟨m,h2,e,h3,n⟩:=l j fields[j] (aa7 c);have k:e.sz≠0:=Nat.ne_of_gt e.og;simp[Instr.fieldAt,run_underlying hu,aa7 c,Instr.sureAddr,fieldPlace,dX n,k,m,Addr.add_lit]
 |_=>right;rfl
theorem XI{τ σ:Ty}{b:Bool}{p:List Bool}(h:τ.sub (b::p)=some σ):τ.cn=true:=by
 cases τ<;>simp[Ty.sub,Ty.cn]at h|-
theorem Zx{hs:List Nat}{v r:TV}{mv:Value}{p:List Bool}(h:ck w G (.rdp hs v) mv)(d:fm v.τ v.x v.sh p=some r):
 ∃b o,mv= .pointer (some ⟨b,o,none⟩)/\ck w G (.rdp hs r) (.pointer (some ⟨b,o+v.τ.off p,none⟩)):=by
 obtain⟨b,o,c,el,e,i,j,h3,k,l⟩:=h;obtain⟨g1,g2,g3,_⟩:=bh.sub d l;refine⟨b,o,i,b,o+v.τ.off p,c,el,e,rfl,j,by omega,k,?_⟩;rw[acm,acy,ack,acv (by omega)]at g1;exact g1
theorem RJ(i:Inv w0 c0 U E a w G){t:Nat}(j:¬U t)(o:Obj)(v:Value)(x:Bool)(S:List Nat)(h:∀c∈S,0<c/\U c):
 xz S S w (w.alloc o) G (G.add w.heap.size t v x):=by
 refine⟨fun b d=> ?_,fun b d=> ?_,fun u hu=> ?_⟩;exact heap_alloc_old w _ b (i.lt b (h _ d).1);have:=i.lt b (h _ d).1;simp[Gh.add,acR this];have:u≠t:=fun e=>j (e▸(h u hu).2);simp[Gh.add,this]
theorem Rm(b:Inv w0 c0 U E a w G){t:Nat}(c:¬U t)(s:Nat)(u:TV):E.s.getD s .no≠ .box t u:=by
 intro e;have:=b.bt s t (by rw[e];simp[SV.bt]);exact c this.2.1
theorem Nu(d:Inv w0 c0 U E a w G){t:Nat}(j:4<=t)(b:¬U t){v:TV}{cs:List Value}(l:bh w G v.τ v.x v.sh cs)
 (hc:∀c∈v.sh.ar,0<c/\U c/\G.bx c=false) (el:TypeId) {r:Result Next}
 (m:r= .ok (.value (.pointer (some ⟨w.heap.size,0,none⟩))) (w.alloc (.cells cs.toArray el))):Yields w0 c0 (fun u=>U u\/u=t) E a r (.box t v):=by
 refine⟨_,_,G.add w.heap.size t (.pointer (some ⟨w.heap.size,0,none⟩)) true,m,d.alloc j b _ _ _ _,⟨w.heap.size,cs.toArray,el,rfl,j,by simp[Gh.add],by simp[Gh.add],heap_alloc_new w _,?_⟩,⟨?_,?_,?_⟩,?_⟩;exact bh.agree (RJ d b _ _ _ _ (fun c h=>⟨(hc c h).1,(hc c h).2.1⟩)) l;intro c h;have:=hc c h;have i:c≠t:=fun e=>b (e▸this.2.1);exact⟨this.1,.inl this.2.1,by simp[Gh.add,i,this.2.2]⟩;intro c h;simp only[SV.bt,acd]at h;subst h;exact⟨by omega,.inr rfl,by simp[Gh.add]⟩;intro c h;simp[SV.rt]at h;intro t' u e s k;cases e;exact Rm d b s k
theorem CW(p:Inv w0 c0 U E a w G){t:Nat}(y:4<=t)(z:¬U t){e:Ty}{l:List e.den}{cs:List Value}{B:List Nat}{hs:List Nat}{A:Bool}{n cap:Nat}(el:TypeId)
 (H:n=l.length) (D:aN (aK w e) l cs B) (k:n<=cap) (rest:List Value) (hsz:cap*e.sz<=cs.length+rest.length)
 (F:∀b∈B,0<G.col b) (q:∀b∈B,G.col b∈hs) (s:∀c∈hs,(0<c/\U c/\G.bx c=false)\/c=t) (v:A=true->B.Nodup)
 {r:Result Next} (I:r= .ok (.value (.slice (some ⟨w.heap.size,0,none⟩) n cap)) (w.alloc (.cells (cs++rest).toArray el))):
 Yields w0 c0 (fun u=>U u\/u=t) E a r (.d ⟨.sl e,l,.sl (.row t hs A)⟩):=by
 subst H;have hlen:=aN.len (sz:=e.sz) (fun x c B h=>aK.len h) D;refine⟨_,_,G.add w.heap.size t (.slice (some ⟨w.heap.size,0,none⟩) l.length cap) false,I,p.alloc y z _ _ _ _,⟨[_],rfl,_,rfl,y,by simp[Gh.add],w.heap.size::B,?_,?_⟩,bg.d fun c hc=> ?_,by rintro _ _ ⟨⟩⟩;refine .inr ⟨w.heap.size,0,cap,_,el,(0,0),B,rfl,k,heap_alloc_new w _,by simp;omega,rfl,?_⟩;simp only[acY];rw[acg (by omega),ab7 (by omega)];exact aN.mono (fun b=>b<w.heap.size) (fun x c B m j=>aK.mono (fun b o=>heap_alloc_old w _ b (m b o)) j) (fun b o=>p.lt b (F b o)) D;rintro b Bs ⟨⟩;have i:∀x∈B,x≠w.heap.size:=fun x j=>acR (p.lt x (F x j));refine⟨by simp[Gh.add],fun h=>i _ h rfl,fun x j=> ?_,v⟩;simp only[Gh.add,a_ (i x j)];exact q x j;simp only[Sh.ar,M.ar,v7]at hc;rcases hc with rfl|hc;exact⟨by omega,.inr rfl,by simp[Gh.add]⟩;rcases s c hc with h|rfl;have i:c≠t:=fun e=>z (e▸h.2.1);exact⟨h.1,.inl h.2.1,by simp[Gh.add,i,h.2.2]⟩;exact⟨by omega,.inr rfl,by simp[Gh.add]⟩
end
theorem foldl_set(b:List Value):∀(off:Nat) (cs:Array Value) (k:Nat),off+k+b.length<=cs.size->
 ((b.zipIdx k).foldl (fun cs p=>cs.setIfInBounds (off+p.2) p.1) cs).toList=cs.toList.take (off+k)++b++cs.toList.drop (off+k+b.length):=by
 induction b with
 |nil=>intro off cs k h;simp
 |cons v r i=>
  intro off cs k h;simp only[acE]at h;rw[List.zipIdx_cons,List.foldl_cons,i off _ (k+1) (by simp;omega)];have c:off+k<cs.toList.length:=by simp;omega
  simp only[acO]
  have d:(cs.toList.set (off+k) v).drop (off+(k+1)+r.length)=cs.toList.drop (off+k+(r.length+1)):=by
   rw[ac0 (by omega)];congr 1;omega
  have e:(cs.toList.set (off+k) v).take (off+(k+1))=cs.toList.take (off+k)++[v]:=by
   rw[<-acZ,acF (by simpa using c),ac1 (J2 _)];simp
  rw[d,e];simp
theorem BM(v:Array Value)(off:Nat)(cs:Array Value)(h:off+v.size<=cs.size):
 (v.zipIdx.foldl (fun cs (p:Value×Nat)=>cs.setIfInBounds (off+p.2) p.1) cs).toList=cs.toList.take off++v.toList++cs.toList.drop (off+v.size):=by
 rw[<-Array.foldl_toList,Array.toList_zipIdx];simpa using foldl_set v.toList off cs 0 (by simpa using h)
section
variable{P:Program}{C:Cx}{w0:World}{c0:C0}{U:Nat->Prop}{E:Env}{a:Act}{w:World}{G:Gh}{ops:List Oper}{g:Option (Nat×Bool)}
theorem L9:∀ {p:List Bool} {τ:Ty} {x:τ.den} {sh:Sh} {v:TV} {y:τ.den} {s:Sh},fC τ x sh p v=some (y,s)->τ.sub p=some v.τ
 | [],τ,x,sh,v,y,s,h=>by
   have:fJ v τ=some y:=by cases τ<;>(simp only[fC]at h;split at h<;>simp_all)
   rw[dv this];cases τ<;>rfl
 |false::p,.pair a b,x,.pair s1 s2,v,y,s,h=>by
  simp only[fC]at h;split at h;rename_i c;simp only[Ty.sub];exact L9 c;cases h
 |true::p,.pair a b,x,.pair s1 s2,v,y,s,h=>by
  simp only[fC]at h;split at h;rename_i c;simp only[Ty.sub];exact L9 c;cases h
 |b::p,.int _,_,_,_,_,_,h|b::p,.bool,_,_,_,_,_,h|b::p,.str,_,_,_,_,_,h|b::p,.sl _,_,_,_,_,_,h=>by simp[fC]at h
 |false::p,.pair _ _,_,.leaf,_,_,_,h|false::p,.pair _ _,_,.sl _,_,_,_,h=>by simp[fC]at h
 |true::p,.pair _ _,_,.leaf,_,_,_,h|true::p,.pair _ _,_,.sl _,_,_,_,h=>by simp[fC]at h
theorem QY{i:TI}{fields:Array Field}(I:Inv w0 c0 U E a w G)(J:RI ops E a.tmps)(K:Gd ops a.tmps g)
 (L:∀(j:Nat) (f:Field),fields[j]?=some f->ED P i.τ i.fs j f) (A:fields.size=i.fs.length) (place:Nat->Option (Nat×Nat))
 (l:∀(j:Nat) (f:Field) (σ:Ty),fields[j]?=some f->i.τ.sub (eG i.fs.length j)=some σ->place j=some (f.offset,σ.sz)):
 ∀(ps:List (Nat×Operand)) (x:i.τ.den) (sh:Sh) (cells:Array Value) (y:i.τ.den) (s:Sh),bh w G i.τ x sh cells.toList->(∀c∈sh.ar,0<c/\U c/\G.bx c=false)->
  qS C E.rd g i ps x sh=some (y,s)->
  ∃b,Instr.fill place cells (ps.map fun p=>(p.1,a.eval p.2))=some b/\bh w G i.τ y s b.toList/\(∀c∈s.ar,0<c/\U c/\G.bx c=false)
 | [],x,sh,cells,y,s,hx,hc,h=>by
   simp only[qS,aae,S']at h;obtain⟨rfl,rfl⟩:=h;exact⟨cells,rfl,hx,hc⟩
 |(j,o)::ps,x,sh,cells,y,s,hx,hc,h=>by
  simp only[qS]at h;split at h;cases h;rename_i ft r;split at h;cases h;rename_i v Q;split at h;rename_i H s1 t;obtain⟨⟨R,he,d⟩,D,_⟩:=jD I J K Q;obtain⟨h1,h2,S⟩:=bh.put t hx d
  have N:j<fields.size:=by
   have:=(acP.1 r).1;omega
  obtain⟨f1,f2,σ,f3,f4⟩:=L j fields[j] (aa7 N);have m:i.τ.sub (eG i.fs.length j)=some v.τ:=L9 t;have n:=l j fields[j] v.τ (aa7 N) m;rw[f1]at n;simp only[List.map_cons,he]
  have key:∀b,bh w G i.τ H s1 b.toList->∃q,Instr.fill place b (ps.map fun p=>(p.1,a.eval p.2))=some q/\bh w G i.τ y s q.toList/\(∀c∈s.ar,0<c/\U c/\G.bx c=false):=by
   intro b u;refine QY I J K L A place l ps H s1 b y s u (fun c z=> ?_) h;rcases S c z with h|h;exact hc c h;exact D c h
  obtain⟨F,h2',_⟩:=bh.put t hx d;have O:=bh.len hx;have k:=pL (bh.len d) (bh.one d);have B:=kL (bh.len d) (bh.one d);have e:=BM (cT v.τ R).cells (i.τ.off (eG i.fs.length j)) cells (by rw[k];simp at O;omega);rw[B,k]at e;obtain⟨q,T,V,W⟩:=key _ (by rw[e];exact F);refine⟨q,?_,V,W⟩;simp only[Instr.fill,n];rw[a_ (by simp[k];simp at O;omega)];exact T;cases h
theorem M.iv{m:M}{ts:List Nat}(h:m.own=some ts):∀c∈ts,c∈m.ar:=by
 cases m with
 |row t q nd=>
  simp only[M.own]at h;split at h;simp only[aae]at h;subst h;intro c hc;simp only[v7,acW]at hc;rcases hc with rfl|hc;simp[M.ar];simp[M.ar,hc.1];cases h
 |sha q=>
  cases q with
  |nil=>simp only[M.own,aae]at h;subst h;simp
  |cons x l=>simp[M.own]at h
 |nst b E i o p fr=>simp[M.own]at h
 |dead=>simp[M.own]at h
theorem M.jM{t:Nat}{hs:List Nat}{o:Bool}{ts:List Nat}(h:(M.row t hs o).own=some ts):o=true/\(∀c∈hs,4<=c)/\(∀c,c∈ts↔c=t\/c∈hs):=by
 simp only[M.own]at h;split at h;rename_i hc;simp only[K_,acu,b_]at hc;simp only[aae]at h;subst h;refine⟨hc.1,hc.2,fun c=> ?_⟩;simp only[v7,acW,decide_not,acr,d_];by_cases e:c=t<;>simp[e];cases h
theorem bV.own{e:Ty}{l:List e.den}{v:Value}{m:M}{ts:List Nat}(h:bV w G e l v m)(q:m.own=some ts):
 ∃B,di w e.sz (aK w e) l v B/\B.Nodup/\∀b∈B,G.col b∈ts:=by
 cases m with
 |row t A nd=>
  obtain⟨H,h2,z⟩:=M.jM q;obtain⟨_,_,B,u,hc⟩:=h;cases B with
  |nil=>exact⟨[],u,by simp,by simp⟩
  |cons b D=>
   obtain⟨g1,g2,g3,g4⟩:=hc b D rfl;refine⟨b::D,u,List.nodup_cons.2 ⟨g2,g4 H⟩,fun x y=> ?_⟩;rcases v7.1 y with rfl|y;exact(z _).2 (.inl g1);exact(z _).2 (.inr (g3 x y))
 |sha A=>
  cases A with
  |nil=>
   obtain⟨⟨B,u,hc⟩,_⟩:=h;have:B=[]:=by cases B with|nil=>rfl|cons x l=>exact absurd (hc x (by simp)) (by simp)
   subst this;exact⟨[],u,by simp,by simp⟩
  |cons x l=>simp[M.own]at q
 |nst b E i o p fr=>simp[M.own]at q
 |dead=>simp[M.own]at q
theorem M.NK{m:M}{ts:List Nat}(h:m.AA=some ts):(∃t hs q,m= .row t hs q/\(∀c∈hs,4<=c)/\∀c,c∈ts↔c=t\/c∈hs)\/(m= .sha []/\ts=[]):=by
 cases m with
 |row t hs q=>
  simp only[M.AA]at h;split at h;rename_i hc;simp only[acu,b_]at hc;simp only[aae]at h;subst h;refine .inl ⟨t,hs,q,rfl,hc,fun c=> ?_⟩;simp only[v7,acW,decide_not,acr,d_];by_cases e:c=t<;>simp[e];cases h
 |sha hs=>
  cases hs with
  |nil=>simp only[M.AA,aae]at h;subst h;exact .inr ⟨rfl,rfl⟩
  |cons x l=>simp[M.AA]at h
 |nst b E i o p fr=>simp[M.AA]at h
 |dead=>simp[M.AA]at h
theorem bV.nil{e:Ty}{l:List e.den}{v:Value}(h:bV w G e l v (.sha [])):v= .slice none 0 0/\∃B,di w e.sz (aK w e) l v B/\B=[]:=by
 obtain⟨⟨B,o,hc⟩,p⟩:=h;exact⟨p rfl,B,o,by cases B with|nil=>rfl|cons x l=>exact absurd (hc x (by simp)) (by simp)⟩
theorem Sh.iv:∀ {sh:Sh} {ts:List Nat},sh.own=some ts->∀c∈ts,c∈sh.ar
 | .leaf,ts,h,c,hc=>by simp only[Sh.own,aae]at h;subst h;simp at hc
 | .sl m,ts,h,c,hc=>M.iv h c hc
 | .pair a b,ts,h,c,hc=>by
   simp only[Sh.own]at h;split at h;rename_i x y o p;split at h;simp only[aae]at h;subst h;rcases l9.1 hc with hc|hc;simp[Sh.ar,Sh.iv o c hc];simp[Sh.ar,Sh.iv p c hc];cases h;cases h
theorem bh.own:∀ {τ:Ty} {x:τ.den} {sh:Sh} {cs:List Value} {ts:List Nat},bh w G τ x sh cs->sh.own=some ts->∃B,aK w τ x cs B/\B.Nodup/\∀b∈B,G.col b∈ts
 | .int _,_,.leaf,_,_,h,_=>⟨[],⟨h,rfl⟩,by simp,by simp⟩
 | .bool,_,.leaf,_,_,h,_=>⟨[],⟨h,rfl⟩,by simp,by simp⟩
 | .str,_,.leaf,_,_,h,_=>⟨[],⟨h,rfl⟩,by simp,by simp⟩
 | .sl e,l,.sl m,cs,ts,h,ho=>by
   obtain⟨v,rfl,K⟩:=h;obtain⟨B,L,N,hc⟩:=K.own ho;exact⟨B,⟨v,rfl,L⟩,N,hc⟩
 | .pair a b,p,.pair s1 s2,cs,ts,h,ho=>by
   obtain⟨O,Q,rfl,R,S⟩:=h;simp only[Sh.own]at ho;split at ho;rename_i x y I J;split at ho;rename_i u;simp only[aae]at ho;subst ho;obtain⟨z,V,W,A⟩:=bh.own R I;obtain⟨D,X,Y,H⟩:=bh.own S J;refine⟨z++D,⟨O,Q,z,D,rfl,rfl,V,X⟩,acA.2 ⟨W,Y,?_⟩,fun b o=> ?_⟩;intro b o b' q e;subst e;simp only[acu,acr,acf,d_]at u;exact u _ (A b o) (H b q);rcases l9.1 o with o|o;exact abC _ (A b o);exact abI _ (H b o);cases ho;cases ho
 | .int _,_,.sl _,_,_,h,_| .int _,_,.pair _ _,_,_,h,_| .bool,_,.sl _,_,_,h,_| .bool,_,.pair _ _,_,_,h,_
 | .str,_,.sl _,_,_,h,_| .str,_,.pair _ _,_,_,h,_| .sl _,_,.leaf,_,_,h,_| .sl _,_,.pair _ _,_,_,h,_
 | .pair _ _,_,.leaf,_,_,h,_| .pair _ _,_,.sl _,_,_,h,_=>h.elim
def xT(w:World)(G:Gh)(e:Ty):List e.den->List Sh->List (List Value)->Prop
 | [],[],[]=>True
 |x::l,s::ss,c::cs=>bh w G e x s c/\xT w G e l ss cs
 |_,_,_=>False
theorem xT.rep:∀ {e:Ty} {l:List e.den} {p:List Sh} {cs:List (List Value)},xT w G e l p cs->(∀s∈p,s.live=true)->
 ∃B,aN (aK w e) l cs.flatten B/\∀b∈B,G.col b∈p.flatMap Sh.ar
 |e,[],[],[],_,_=>⟨[],⟨rfl,rfl⟩,by simp⟩
 |e,x::l,s::p,c::cs,h,hl=>by
  obtain⟨q,y,z⟩:=h.1.rep (hl s (by simp));obtain⟨u,A,D⟩:=xT.rep h.2 (fun s v=>hl s (by simp[v]));refine⟨q++u,⟨c,_,q,u,by simp,rfl,y,A⟩,fun b o=> ?_⟩;rw[ac7];rcases l9.1 o with o|o;exact abC _ (z b o);exact abI _ (D b o)
 |e,[],_::_,_,h,_|e,[],[],_::_,h,_|e,_::_,[],_,h,_|e,_::_,_::_,[],h,_=>h.elim
theorem xT.own:∀ {e:Ty} {l:List e.den} {q:List Sh} {cs:List (List Value)} {ts:List Nat},xT w G e l q cs->wy q=some ts->
 ∃B,aN (aK w e) l cs.flatten B/\B.Nodup/\∀b∈B,G.col b∈ts
 |e,[],[],[],ts,_,_=>⟨[],⟨rfl,rfl⟩,by simp,by simp⟩
 |e,x::l,s::q,c::cs,ts,h,ho=>by
  simp only[wy]at ho;split at ho;rename_i t1 t2 D H;split at ho;rename_i u;simp only[aae]at ho;subst ho;obtain⟨v,I,J,y⟩:=h.1.own D;obtain⟨z,K,L,A⟩:=xT.own h.2 H;refine⟨v++z,⟨c,_,v,z,by simp,rfl,I,K⟩,acA.2 ⟨J,L,?_⟩,fun b o=> ?_⟩;intro b o b' p e;subst e;simp only[acu,acr,acf,d_]at u;exact u _ (y b o) (A b p);rcases l9.1 o with o|o;exact abC _ (y b o);exact abI _ (A b o);cases ho;cases ho
 |e,[],_::_,_,_,h,_|e,[],[],_::_,_,h,_|e,_::_,[],_,_,h,_|e,_::_,_::_,[],_,h,_=>h.elim
theorem Il:∀ {b:List Sh} {ts:List Nat},wy b=some ts->∀c∈ts,c∈b.flatMap Sh.ar
 | [],ts,h,c,hc=>by simp only[wy,aae]at h;subst h;simp at hc
 |s::b,ts,h,c,hc=>by
  simp only[wy]at h;split at h;rename_i t1 t2 d e;split at h;simp only[aae]at h;subst h;rw[ac7];rcases l9.1 hc with hc|hc;exact abC _ (Sh.iv d c hc);exact abI _ (Il e c hc);cases h;cases h
theorem SQ(J:Inv w0 c0 U E a w G)(K:RI ops E a.tmps)(L:Gd ops a.tmps g){el:TypeId}{e:Ty}:
 ∀(ps:List (Nat×Operand)) (n:Nat) (xs:List e.den) (y:List Sh) (cells:Array Value),uk C E.rd g el e n ps=some (xs,y)->(n+ps.length)*e.sz<=cells.size->
  ∃k b,Instr.fill (fun i=>some (i*e.sz,e.sz)) cells (ps.map fun p=>(p.1,a.eval p.2))=some b/\
   b.toList=cells.toList.take (n*e.sz)++k.flatten++cells.toList.drop ((n+ps.length)*e.sz)/\xT w G e xs y k/\xs.length=ps.length/\(∀s∈y,s.live=true/\∀c∈s.ar,0<c/\U c/\G.bx c=false)
 | [],n,xs,y,cells,h,hs=>by
   simp only[uk,aae,S']at h;obtain⟨rfl,rfl⟩:=h;exact⟨[],cells,rfl,by simp,trivial,rfl,by simp⟩
 |(j,o)::ps,n,xs,y,cells,h,hs=>by
  simp only[uk]at h;split at h;rename_i N;subst N;split at h;cases h;rename_i v O;split at h;rename_i x D F Q R;simp only[aae,S']at h;obtain⟨rfl,rfl⟩:=h;obtain⟨⟨r,he,A⟩,I,u⟩:=jD J K L O;have ev:=dv Q;have B:v.τ=e:=by rw[ev]
  have l:bh w G e x v.sh r:=by rw[ev]at A;exact A
  have hlen:=bh.len l;have m:=pL (τ:=v.τ) (by rw[B];exact hlen) (bh.one l);have z:=kL (τ:=v.τ) (by rw[B];exact hlen) (bh.one l);rw[B]at m z;simp only[acE]at hs;have hmul:(j+1)*e.sz<=(j+(ps.length+1))*e.sz:=J_ _ (by omega);rw[sw,acC]at hmul;have d:=BM (cT e r).cells (j*e.sz) cells (by rw[m];omega);rw[z,m]at d
  have H:(Array.foldl (fun cs (q:Value×Nat)=>cs.setIfInBounds (j*e.sz+q.2) q.1) cells (cT e r).cells.zipIdx).size=cells.size:=by
   have:=congrArg ac9 d;simp only[acn,ace,List.length_take,List.length_drop,hlen]at this;omega
  obtain⟨k,b,W,X,Y,Z,k5⟩:=SQ J K L ps (j+1) D F _ R (by rw[H];rw[show j+1+ps.length=j+(ps.length+1) by omega];exact hs);refine⟨r::k,b,?_,?_,⟨l,Y⟩,by simp[Z],?_⟩;simp only[List.map_cons,he,B,Instr.fill];rw[a_ (by simp[m];omega)];exact W;rw[X,d]
  have S:(cells.toList.take (j*e.sz)++r++cells.toList.drop (j*e.sz+e.sz)).take ((j+1)*e.sz)=cells.toList.take (j*e.sz)++r:=by
   rw[acg (by simp[hlen,sw];omega),ab7 (by simp[hlen,sw];omega)]
  have T:(cells.toList.take (j*e.sz)++r++cells.toList.drop (j*e.sz+e.sz)).drop ((j+1+ps.length)*e.sz)=cells.toList.drop ((j+(ps.length+1))*e.sz):=by
   have V:(j+1+ps.length)*e.sz=(cells.toList.take (j*e.sz)++r).length+ps.length*e.sz:=by
    simp[hlen,sw];omega
   rw[V,acD,ab8 (by omega),aci,Nat.add_sub_cancel_left,ack];congr 1;simp[sw];omega
  rw[S,T];simp;intro s t;rcases v7.1 t with rfl|t;exact⟨u,I⟩;exact k5 s t;cases h;cases h
theorem bg.mono{U U':Nat->Prop}{v:SV}(h:bg U G v)(o:∀u,U u->U' u):bg U' G v:=
 ⟨fun c hc=>⟨(h.1 c hc).1,o _ (h.1 c hc).2.1,(h.1 c hc).2.2⟩,fun c hc=>⟨(h.2.1 c hc).1,o _ (h.2.1 c hc).2.1,(h.2.1 c hc).2.2⟩,
  fun c hc=>⟨(h.2.2 c hc).1,o _ (h.2.2 c hc).2.1,(h.2.2 c hc).2.2⟩⟩
theorem Yields.mono{U U':Nat->Prop}{r:Result Next}{sv:SV}(h:Yields w0 c0 U E a r sv)(o:∀u,U u->U' u):Yields w0 c0 U' E a r sv:=by
 obtain⟨p,q,G',v,y,z,A,B⟩:=h;exact⟨p,q,G',v,y.mono o,z,A.mono o,B⟩
theorem lg.mono{U U':Nat->Prop}{r:Result Next}{o:Ef}(h:lg w0 c0 U E a r o)(p:∀u,U u->U' u):lg w0 c0 U' E a r o:=by
 cases o with
 |val v=>exact Yields.mono h p
 |chk c v=>exact fun hc=>Yields.mono (h hc) p
 |_=>exact h
theorem dP{s:Sem Value}{x:Value}{w':World}(h:s.run P w= .ok x w'):((do pure (.value (<-s))):Sem Next).run P w= .ok (.value x) w':=by
 simp[h]
theorem toNat_lt{i:Int}{n:Nat}(h0:0<=i)(h:i<(n:Int)):i.toNat<n:=by omega
theorem ZA(hC:CxTy P C)(q:Inv w0 c0 U E a w G)(Q:RI ops E a.tmps)(R:Gd ops a.tmps g){tk:Nat}{o:Oper}{t:TypeId}{x:Operand}{Y:Ef}(Z:o.op= .load t x)
 (h:bj C ops E.rd tk g o=some Y):lg w0 c0 U E a ((execOp a.eval o).run P w) Y:=by
 simp only[bj,Z]at h;split at h;cases h;rename_i y L;have hT:=(hC.tt t y L).1
 have m:∀ {b z:Nat} {c:Array Value} {el:TypeId} {I:Nat×Nat},a.eval x= .pointer (some ⟨b,z,none⟩)->w.heap[b]?=some (.cells c el I)->z+y.τ.sz<=c.size->
  (execOp a.eval o).run P w= .ok (.value (cT y.τ ((c.toList.drop z).take y.τ.sz))) w:=by
  intro b z c el I he k J;simp only[execOp,Z];refine dP ?_;simp only[Instr.loadAt,he,Instr.sureAddr];simpa using lQ hT k J
 split at h
 rename_i b off p τ j;obtain⟨H,h2⟩:=fK q Q R j;obtain⟨bk,_,u,K⟩:=H;split at h;rename_i sl v A;obtain⟨_,bk',c,el,g1,_,_,g4,g5,g6⟩:=q.box A;rw[g1]at u;simp only[Value.pointer.injEq,aae,Addr.mk.injEq,and_true]at u;subst u;split at h;rename_i r N;split at h;rename_i hc;simp only[K_,b_]at hc;cases h;obtain⟨q1,q2,q3,q4⟩:=bh.sub N g5;have hlen:=bh.len g5;rw[hc.1]at q1 q2;have k:=m K g4 (by rw[<-hc.2];simp at hlen;omega);rw[<-hc.2]at k;exact cR q k ⟨_,rfl,q1⟩ (bg.d fun c hc=>g6 c (q4 c hc)) (by rintro _ _ ⟨⟩);cases h;cases h;cases h
 rename_i b e i off p τ j;obtain⟨H,_⟩:=fK q Q R j;obtain⟨bk,of,n,cap,_,u,K,k4,T⟩:=H;split at h;rename_i l J nd D;obtain⟨⟨v,V⟩,hm⟩:=q.eB D;split at h;rename_i hc;simp only[K_,b_]at hc;rw[v8]at h;obtain⟨r,N,rfl⟩:=h;have F:=V.2.1;rw[u]at F
 have hlen:n=l.length:=by
  obtain⟨_,_,B,hB,_⟩:=V;rcases hB with⟨⟨ao,e0⟩,W,_⟩|⟨_,_,_,_,_,_,_,hx,_⟩;rw[e0]at F;cases F;rw[W];rfl;rw[<-F]at hx;cases hx;rfl
 have hi:i.toNat<l.length:=by omega
 obtain⟨b',off',cap',c,el,I,B,e1,e2,e3,e4,e5,e6,e7⟩:=V.elem hi;rw[<-F]at e1;cases e1;have S:bh w G e (l.getD i.toNat e.aa) (fV e (.sha (2::J))) _:=bh.D8 e6 (fun b k=>abG _ (e7 b k)) (by simp);obtain⟨q1,q2,q3,q4⟩:=bh.sub N S;have s:r.τ=y.τ:=by have:=q3.symm.trans hc.2;simpa using this
 have hmul:(i.toNat+1)*e.sz<=cap*e.sz:=J_ _ (by omega);rw[sw,acC]at hmul;have k:=m T e2 (by rw[<-s];rw[hc.1]at q2;omega);refine cR q k ⟨(c.toList.drop (of+i.toNat*e.sz+off)).take y.τ.sz,by rw[s],?_⟩ (bg.d fun c O=> ?_) (by rintro _ _ ⟨⟩);rw[hc.1]at q1 q2;rw[acm,acy,ack,acv (by omega)]at q1;rw[<-s];exact q1;have:=oE _ _ c (q4 c O);simp only[M.ar,v7]at this;rcases this with rfl|this;exact⟨by omega,q.two.1⟩;exact hm c (abG _ this);cases h;cases h
 rename_i J v j;obtain⟨H,h2⟩:=fK q Q R j;obtain⟨b,z,c,el,I,k1,u,K,k4,T⟩:=H;split at h;rename_i X;cases h;have k:=m k1 u (by rw[<-X];exact K);rw[<-X]at k;exact cR q k ⟨_,rfl,T⟩ (bg.d fun c hc=>h2.1 c (by simp[SV.sc,hc])) (by rintro _ _ ⟨⟩);cases h;cases h
theorem Qo(Q:CxTy P C)(u:Inv w0 c0 U E a w G)(F:RI ops E a.tmps)(H:Gd ops a.tmps g){tk:Nat}{o:Oper}{s:TypeId}{x:Operand}{j:Nat}{R:Ef}(S:o.op= .fieldAddr s x j)
 (h:bj C ops E.rd tk g o=some R):lg w0 c0 U E a ((execOp a.eval o).run P w) R:=by
 simp only[bj,S]at h;split at h
 ·cases h
 rename_i i O;have T:=Q.tt s i O;split at h;rotate_left
 ·cases h
 rename_i D
 have hpair:∀σ,i.τ.sub (eG i.fs.length j)=some σ->i.τ.cn=true\/(eG i.fs.length j)=[]:=by
  intro σ z;cases X:eG i.fs.length j with
  |nil=>exact .inr rfl
  |cons b p=>rw[X]at z;exact .inl (XI z)
 have k:i.τ.cn=true:=by
  cases B:i.τ with
  |pair a b=>rfl
  |_=>
   exfalso;have:=T.2;rw[B]at this;have I:=Q.fs s i O (by rw[B];rfl);rw[I]at D;simp at D
 have l:∀ {b q:Nat},a.eval x= .pointer (some ⟨b,q,none⟩)->(execOp a.eval o).run P w= .ok (.value (.pointer (some ⟨b,q+i.τ.off (eG i.fs.length j),none⟩))) w:=by
  intro b q he;simp only[execOp,S];refine dP ?_;rw[he];rcases Sm (w:=w) T D b q with h|h
  ·exact h
  ·rw[k]at h;cases h
 split at h
 ·rename_i σ t q p τ z d;split at h
  ·cases h;obtain⟨⟨Y,J,K,L⟩,y⟩:=fK u F H d;exact cR u (l L) ⟨Y,J,K,rfl⟩ ⟨by simp[SV.sc],by simpa[SV.bt]using y.2.1,by simp[SV.rt]⟩ (by rintro _ _ ⟨⟩)
  ·cases h
 ·rename_i σ t e n q p τ z d;split at h
  ·cases h;obtain⟨⟨b,off,m,cap,J,K,L,Z,N⟩,y⟩:=fK u F H d;exact cR u (l N) ⟨b,off,m,cap,J,K,L,Z,by rw[acZ]⟩ ⟨by simp[SV.sc],by simp[SV.bt],by simpa[SV.rt]using y.2.2⟩ (by rintro _ _ ⟨⟩)
  ·cases h
 ·rename_i σ hs v z d;split at h
  ·rename_i B;rw[v8]at h;obtain⟨r,V,rfl⟩:=h;obtain⟨W,y⟩:=fK u F H d;obtain⟨b,q,he,A⟩:=Zx W V;rw[B]at A;refine cR u (l he) A ⟨?_,by simp[SV.bt],by simp[SV.rt]⟩ (by rintro _ _ ⟨⟩);intro c hc;obtain⟨_,_,_,_,_,_,_,_,_,N⟩:=W;have:=(bh.sub V N).2.2.2;simp only[SV.sc,l9]at hc;rcases hc with hc|hc
   ·exact y.1 c (by simp[SV.sc,hc])
   ·exact y.1 c (by simp[SV.sc,this c hc])
  ·cases h
 ·cases h
theorem Px(R:CxTy P C)(v:Inv w0 c0 U E a w G)(F:RI ops E a.tmps)(H:Gd ops a.tmps g){tk:Nat}{o:Oper}{t:TypeId}{x n:Operand}{S:Ef}(N:o.op= .indexAddr t x n)
 (h:bj C ops E.rd tk g o=some S):lg w0 c0 U E a ((execOp a.eval o).run P w) S:=by
 simp only[bj,N]at h;split at h;rename_i J e l u Z nd k i sh s A K;split at h;rename_i L;cases h;intro hc;obtain⟨j,p⟩:=e_ hc;have y:=(R.tt t J s).2;rw[L]at y;obtain⟨m,hm,d,_,r⟩:=jJ v F H A;simp only[Sh.sl.injEq]at hm;subst hm;have z:=ei v F H K;have O:i.toNat<l.length:=toNat_lt j p;obtain⟨b,off,cap,c,el,T,B,I,V,e3,e4,W,X,Y⟩:=d.elem O
 have q:(execOp a.eval o).run P w= .ok (.value (.pointer (some ⟨b,off+i.toNat*e.sz,none⟩))) w:=by
  simp only[execOp,N];refine dP ?_;rw[I,z];simp[Instr.indexAt,asIntOf,run_underlying y.1,dX y.2,j,p,Addr.add_lit]
 refine cR v q ⟨b,off,l.length,cap,d.1,d.2.1.trans I,j,p,rfl⟩ ⟨by simp[SV.sc],by simp[SV.bt],?_⟩ (by rintro _ _ ⟨⟩);intro c hc;simp only[SV.rt,acd]at hc;subst hc;exact r _ (by simp[M.ar]);cases h;rename_i J e l Z k i sh s A K;split at h;rename_i L;cases h;intro hc;obtain⟨j,p⟩:=e_ hc;have y:=(R.tt t J s).2;rw[L]at y;obtain⟨m,hm,d,_,r⟩:=jJ v F H A;simp only[Sh.sl.injEq]at hm;subst hm;have z:=ei v F H K;have O:i.toNat<l.length:=toNat_lt j p;obtain⟨⟨BB,Q,D⟩,_⟩:=d;obtain⟨b,off,cap,c,el,T,B,I,V,e3,e4,W,X,Y⟩:=Q.elem O
 have q:(execOp a.eval o).run P w= .ok (.value (.pointer (some ⟨b,off+i.toNat*e.sz,none⟩))) w:=by
  simp only[execOp,N];refine dP ?_;rw[I,z];simp[Instr.indexAt,asIntOf,run_underlying y.1,dX y.2,j,p,Addr.add_lit]
 have hmul:(i.toNat+1)*e.sz<=cap*e.sz:=J_ _ (by omega);rw[sw,acC]at hmul;refine cR v q ⟨b,off+i.toNat*e.sz,c,el,T,rfl,V,by simp only;omega,D b W,bh.D8 X (fun x A=>abG _ (D x (Y x A))) (by simp)⟩ ⟨?_,by simp[SV.bt],by simp[SV.rt]⟩ (by rintro _ _ ⟨⟩);intro c hc;simp only[SV.sc,l9]at hc;rcases hc with hc|hc;exact r c hc;have:=oE _ _ c hc;simp only[M.ar,v7]at this;rcases this with rfl|this;exact⟨by omega,v.two.1⟩;exact r c this;cases h;cases h
theorem Sq(w:World)(G:Gh)(τ:Ty):bh w G τ τ.aa (fV τ (.sha [])) τ.zero:=bh.zero τ
theorem Tc{τ:Ty}(Q:Nat->Prop):∀c∈(fV τ (.sha [])).ar,Q c:=fun c hc=>by
 have:=oE _ _ c hc;simp[M.ar]at this
theorem Yy(e:CxTy P C)(j:Inv w0 c0 U E a w G){tk:Nat}(k:4<=tk)(l:¬U tk){o:Oper}{t:TypeId}{c:Ef}(d:o.op= .alloc t)
 (h:bj C ops E.rd tk g o=some c):lg w0 c0 (fun u=>U u\/u=tk) E a ((execOp a.eval o).run P w) c:=by
 simp only[bj,d,v8]at h;obtain⟨i,n,rfl⟩:=h;have m:=(e.tt t i n).1;refine Nu j k l (Sq w G i.τ) (Tc _) t ?_;simp only[execOp,d];refine dP ?_;have hc:=kL (τ:=i.τ) i.τ.iW (wi i.τ);have b:(cT i.τ i.τ.zero).cells=i.τ.zero.toArray:=D' (by simpa using hc);simp[Instr.alloc,OS m,newVar,newRow,b]
theorem aao(e:Inv w0 c0 U E a w G)(m:RI ops E a.tmps)(n:Gd ops a.tmps g){tk:Nat}(p:4<=tk)(q:¬U tk){o:Oper}{t:TypeId}{x:Operand}{j:Ef}(k:o.op= .box t x)
 (h:bj C ops E.rd tk g o=some j):lg w0 c0 (fun u=>U u\/u=tk) E a ((execOp a.eval o).run P w) j:=by
 simp only[bj,k]at h;split at h;rename_i i v hi l;split at h;cases h;obtain⟨⟨cs,he,b⟩,hc,_⟩:=jD e m n l;refine Nu e p q b hc t ?_;simp only[execOp,k];refine dP ?_;have c:=kL (bh.len b) (bh.one b);have d:(cT v.τ cs).cells=cs.toArray:=D' (by simpa using c);simp[Instr.box,he,newVar,newRow,d];cases h;cases h
theorem LG.struct{t:TypeId}{i:TI}(h:LG P t i)(o:i.τ.cn=true):∃fields,P.underlying t=some (.struct fields)/\fields.size=i.fs.length/\
 ∀(j:Nat) (f:Field),fields[j]?=some f->ED P i.τ i.fs j f:=by
 obtain⟨τ,fs,el⟩:=i;cases τ with
 |pair x y=>exact h.2
 |_=>cases o
theorem Ho{τ:Ty}(b:τ.cn=true)(cs:List Value):cT τ cs= .agg cs.toArray:=by
 cases τ<;>first|rfl|cases b
theorem aas(J:CxTy P C)(K:Inv w0 c0 U E a w G)(Q:RI ops E a.tmps)(R:Gd ops a.tmps g){tk:Nat}{o:Oper}{t:TypeId}{ps:Array (Nat×Operand)}{N:Ef}(O:o.op= .build t ps)
 (h:bj C ops E.rd tk g o=some N):lg w0 c0 U E a ((execOp a.eval o).run P w) N:=by
 simp only[bj,O]at h;split at h;rename_i i H;split at h;cases h;rename_i q;rw[v8]at h;obtain⟨r,X,rfl⟩:=h;have u:=J.tt t i H;have S:=u.1
 have e:i.τ.cn=true:=by
  cases T:i.τ.cn with
  |true=>rfl
  |false=>rw[J.fs t i H T]at q;simp at q
 obtain⟨fields,hu,B,s⟩:=u.struct e;have V:bh w G i.τ i.τ.aa (fV i.τ (.sha [])) i.τ.zero.toArray.toList:=by simpa using Sq w G i.τ
 obtain⟨inf,d,m,hisz,n,_⟩:=S
 have k:∃c,fields.toList.mapM (fun f=>(P.info? f.type).map fun i=>(f.offset,i.size))=some c/\
  ∀(j:Nat) (f:Field) (σ:Ty),fields[j]?=some f->i.τ.sub (eG i.fs.length j)=some σ->c.toArray[j]?=some (f.offset,σ.sz):=by
  have l:∀f∈fields.toList,∃inf,P.info? f.type=some inf:=by
   intro f y;obtain⟨j,v,rfl⟩:=acJ.1 y;obtain⟨_,_,σ,_,inf,d,Y,_⟩:=s j fields[j] (aa7 (by simpa using v));exact⟨inf,by simpa using Y⟩
  refine⟨fields.toList.map fun f=>(f.offset,((P.info? f.type).map (·.size)).getD 0),?_,?_⟩;generalize fields.toList=L at l
  induction L with
  |nil=>rfl
  |cons f L ih=>
   obtain⟨inf,m⟩:=l f (by simp);simp[List.mapM_cons,m,ih (fun f s=>l f (by simp[s]))]
  intro j f σ v I;obtain⟨_,_,σ',g1,inf,d,g2,g3,_⟩:=s j f v;rw[g1]at I;cases I;simp[v,g2,g3]
 obtain⟨c,D,F⟩:=k;obtain⟨b,Z,k2,k3⟩:=QY (fields:=fields) K Q R s B (fun x=>c.toArray[x]?) F ps.toList _ _ i.τ.zero.toArray r.1 r.2 V (Tc _) X;have z:=kL (τ:=i.τ) i.τ.iW (wi i.τ);have A:(cT i.τ i.τ.zero).cells=i.τ.zero.toArray:=D' (by simpa using z)
 have W:P.built t (ps.map fun p=>(p.1,a.eval p.2)).toList=some b:=by
  unfold Program.built;simp only[m,hu,n,D,A,acT];exact Z
 refine cR K (mv:= .agg b) ?_ ⟨b.toList,?_,k2⟩ (bg.d k3) (by rintro _ _ ⟨⟩);simp only[execOp,O];exact dP (run_build w t _ b W);show Value.agg b=cT i.τ b.toList;rw[Ho e];cases h
theorem YB{e:Ty}(n:Nat)(z:Array Value)(d:z.toList=e.zero):(madeCells z (n*e.sz)).toList=(ach n e.zero).flatten:=by
 have h:z.size=e.sz:=by rw[<-acn,d,e.iW]
 have hpos:=e.og;apply List.ext_getElem?;intro j
 induction n generalizing j with
 |zero=>simp[madeCells]
 |succ n m=>
  rw[acK,ac6];by_cases i:j<e.sz;have l:j<(n+1)*e.sz:=by rw[sw];omega
  rw[List.getElem?_append_left (by rw[e.iW];exact i),<-d];simp only[madeCells,acT,ac4,acB,acL l,ade,h,Nat.mod_eq_of_lt i];simp[show j<z.size by omega];have b:=m (j-e.sz);rw[List.getElem?_append_right (by rw[e.iW];omega),e.iW,<-b];simp only[madeCells,acT,ac4,acB];by_cases c:j<(n+1)*e.sz;have k:j-e.sz<n*e.sz:=by rw[sw]at c;omega
  rw[acL c,acL k];simp only[ade,h];congr 2;rw[<-Nat.mod_eq_sub_mod (by omega)];have k:¬j-e.sz<n*e.sz:=by rw[sw]at c;omega
  rw[acs (by simp;omega),acs (by simp;omega)]
theorem Q9(N:CxTy P C)(m:Inv w0 c0 U E a w G)(z:RI ops E a.tmps)(A:Gd ops a.tmps g){tk:Nat}(O:4<=tk)(Q:¬U tk){o:Oper}{t:TypeId}{n c:Operand}{D:Ef}
 (F:o.op= .makeSlice t n c) (h:bj C ops E.rd tk g o=some D):lg w0 c0 (fun u=>U u\/u=tk) E a ((execOp a.eval o).run P w) D:=by
 simp only[bj,F]at h;split at h;rename_i e fs el x sh y sh' J K k;cases h;intro L;obtain⟨I,v,rfl⟩:=e_ L;have hlt': @LT.lt Int Int.instLTInt y 4294967296:=v;obtain⟨hF,hu,T⟩:=N.tt t _ J;have p:=ei m z A K;have q:=ei m z A k;obtain⟨inf,d,i,j,b,hby,_⟩:=T
 have R:(inf.bytes:Int)*y<=281474976710656:=by
  have S:(inf.bytes:Int)<=32768:=by omega
  have h2:(inf.bytes:Int)*y<=32768*y:=Int.mul_le_mul_of_nonneg_right S I;omega
 have H:=run_make (P:=P) w t el inf _ hu i b .i64 .i64 y y I (Int.le_refl _) R (by omega);have s:=kL (τ:=e) e.iW (wi e);rw[j]at H;refine CW m O Q (e:=e) (l:=ach y.toNat e.aa) (cs:=(ach y.toNat e.zero).flatten) (B:=[]) el (n:=y.toNat) (cap:=y.toNat) (by simp) ?_ (J2 _) [] ?_ (by simp) (by simp) (by simp) (by simp) (r:=_) ?_;exact aN.replicate (aK.zero w e) _;simp[List.length_flatten,e.iW,List.map_replicate,List.sum_replicate_nat];simp only[execOp,F];refine dP ?_;rw[p,q,H];have hm:=YB (e:=e) y.toNat (cT e e.zero).cells s;congr 3;rw[aco];exact D' (by rw[hm]);cases h
theorem NW(hC:CxTy P C)(S:Inv w0 c0 U E a w G)(hR:RI ops E a.tmps)(hg:Gd ops a.tmps g){tk:Nat}(W:4<=tk)(X:¬U tk){o:Oper}{t:TypeId}{n:Nat}{ps:Array (Nat×Operand)}{Y:Ef}
 (Z:o.op= .buildSlice t n ps) (h:bj C ops E.rd tk g o=some Y):lg w0 c0 (fun u=>U u\/u=tk) E a ((execOp a.eval o).run P w) Y:=by
 simp only[bj,Z]at h;split at h;rename_i e fs el hi;split at h;rename_i hc;simp only[K_,b_]at hc;obtain⟨r,hsm⟩:=hc;rw[v8]at h;obtain⟨⟨xs,ss⟩,hr,rfl⟩:=h;obtain⟨hF,hu,hE⟩:=hC.tt t _ hi;obtain⟨inf,d,F,k,v,hby,_⟩:=hE;obtain⟨y,i,R,k2,k3,k4,N⟩:=SQ S hR hg ps.toList 0 xs ss ((Array.range (n*e.sz)).map ((cT e e.zero).cells[·%(cT e e.zero).cells.size]!)) hr (by simp[r]);have hct:=kL (τ:=e) e.iW (wi e);have p:n=xs.length:=by rw[k4];simp[r]
 have H:∀s∈ss,s.live=true:=fun s m=>(N s m).1
 have q:i.toList=y.flatten:=by
  rw[k2];simp only[Nat.zero_mul,acX,aci,ac3];rw[ab8 (by simp[r]),aco]
 have z:(execOp a.eval o).run P w= .ok (.value (.slice (some ⟨w.heap.size,0,none⟩) n n)) (w.alloc (.cells (y.flatten++[]).toArray el)):=by
  simp only[execOp,Z];refine dP ?_;have K:i=(y.flatten++[]).toArray:=D' (by simp[q]);by_cases h0:n*e.sz=0;have T:n=0:=by rcases Nat.mul_eq_zero.1 h0 with h|h;exact h;have:=e.og;omega
  subst T;have A:ps.toList=[]:=by cases V:ps.toList with|nil=>rfl|cons x l=>have:=congrArg ac9 V;simp[r]at this
  have L:ps= #[]:=D' (by simpa using A);rw[A]at R;simp only[List.map_nil,Instr.fill,aae]at R;subst L;simp[Instr.buildSlice,run_underlying hu,Go.sizeOf,typeInfo,F,Instr.fill,newRow];rw[<-aco y.flatten,<-K,<-R];simp[Array.range_zero'];rw[run_buildSlice w t el n _ i inf _ hu F v (by rw[k];omega) (by rw[k];exact h0) (by rw[k];simpa using R),K]
 simp only[aai];split;rename_i ts I;obtain⟨B,O,r2,Q⟩:=xT.own k3 I;have D:=Il I;refine CW S W X (e:=e) (l:=xs) el p O (J2 _) [] ?_ (fun b J=> ?_) Q (fun c hc=> .inl ?_) (fun _=>r2) z;have:=aN.len (sz:=e.sz) (fun x c B h=>aK.len h) O;rw[this,p];simp;obtain⟨s,m,j⟩:=J8.1 (D _ (Q b J));exact((N s m).2 _ j).1;obtain⟨s,m,j⟩:=J8.1 (D _ hc);exact(N s m).2 _ j;obtain⟨B,O,Q⟩:=xT.rep k3 H;refine CW S W X (e:=e) (l:=xs) el p O (J2 _) [] ?_ (fun b J=> ?_) (fun b J=>acx.2 (Q b J)) (fun c hc=> .inl ?_) (by simp) z;have:=aN.len (sz:=e.sz) (fun x c B h=>aK.len h) O;rw[this,p];simp;obtain⟨s,m,j⟩:=J8.1 (Q b J);exact((N s m).2 _ j).1;obtain⟨s,m,j⟩:=J8.1 (acx.1 hc);exact(N s m).2 _ j;cases h;cases h
theorem aN.cut{α:Type}{R:α->List Value->List Nat->Prop}{sz:Nat}(o:∀x c B,R x c B->c.length=sz){l:List α}{cs:List Value}{B:List Nat}
 (h:aN R l cs B) (i j:Nat) (hij:i<=j) (hj:j<=l.length):∃B',aN R ((l.take j).drop i) ((cs.drop (i*sz)).take ((j-i)*sz)) B'/\∀b∈B',b∈B:=by
 have y:l=l.take j++l.drop j:=(acG j l).symm;rw[y]at h;obtain⟨B1,B2,rfl,q,_⟩:=aN.split o h;have p:l.take j=(l.take j).take i++(l.take j).drop i:=(acG i _).symm;rw[p]at q;obtain⟨B3,D,rfl,_,u⟩:=aN.split o q;refine⟨D,?_,fun b v=>by simp[v]⟩;have z:(ac5 i (ac5 j l)++List.drop i (ac5 j l)).length=j:=by rw[<-p];simp;omega
 have A:((l.take j).take i).length=i:=by simp;omega
 rw[z,A,show(cs.take (j*sz)).drop (i*sz)=(cs.drop (i*sz)).take ((j-i)*sz) by rw[acm,Nat.sub_mul]]at u;exact u
theorem di.cut{e:Ty}{l:List e.den}{v:Value}{B:List Nat}(h:di w e.sz (aK w e) l v B)(i j:Nat)(y:i<=j)(u:j<=l.length):
 ∃base n cap,v= .slice base n cap/\n=l.length/\n<=cap/\∃B',di w e.sz (aK w e) ((l.take j).drop i) (.slice (if cap=i then base else base.map (·.add (i*e.sz))) (j-i) (cap-i)) B'/\∀b∈B',b∈B:=by
 rcases h with⟨⟨J,rfl⟩,rfl,rfl⟩|⟨b,off,cap,c,el,z,Bs,K,o,A,hsz,rfl,L⟩;simp only[List.length_nil,Nat.le_zero]at u;subst u;obtain rfl:i=0:=by omega
 exact⟨J,0,0,rfl,rfl,J2 _,[],.inl ⟨⟨_,rfl⟩,by simp,rfl⟩,by simp⟩;refine⟨some ⟨b,off,none⟩,l.length,cap,K,rfl,o,?_⟩;obtain⟨B',q,D⟩:=aN.cut (sz:=e.sz) (fun x c B h=>aK.len h) L i j y u;have hlen:((l.take j).drop i).length=j-i:=by simp;omega
 have hm1:(j-i)*e.sz+i*e.sz=j*e.sz:=by rw[<-sw];congr 1;omega
 have hm2:j*e.sz<=l.length*e.sz:=J_ _ u;have hm3:l.length*e.sz<=cap*e.sz:=J_ _ o;have hm4:(cap-i)*e.sz+i*e.sz=cap*e.sz:=by rw[<-sw];congr 1;omega
 by_cases hc:cap=i;refine⟨b::B',.inr ⟨b,off,cap-i,c,el,z,B',?_,?_,A,?_,rfl,?_⟩,?_⟩;rw[an hc,hlen];rw[hlen];omega;omega;rw[hlen];have H:j-i=0:=by omega
 rw[H]at q|-;simp only[Nat.zero_mul,acX]at q|-;exact q;intro x p;rcases v7.1 p with rfl|p;simp;exact abG _ (D x p);refine⟨b::B',.inr ⟨b,off+i*e.sz,cap-i,c,el,z,B',?_,?_,A,?_,rfl,?_⟩,?_⟩;rw[a_ hc,hlen];simp[Addr.add_lit];rw[hlen];omega;omega;rw[hlen]
 have I:(((c.toList.drop off).take (l.length*e.sz)).drop (i*e.sz)).take ((j-i)*e.sz)=(c.toList.drop (off+i*e.sz)).take ((j-i)*e.sz):=by
  rw[acm,acy,ack,acv (by omega)]
 rw[I]at q;exact q;intro x p;rcases v7.1 p with rfl|p;simp;exact abG _ (D x p)
theorem HZ(D:Inv w0 c0 U E a w G){e:Ty}{l:List e.den}{v:Value}{m:M}(z:bV w G e l v m)(hm:m≠ .dead)(hc:∀c∈m.ar,0<c/\U c/\G.bx c=false)
 (i j:Nat) (k:i<=j) (F:j<=l.length) {r:Result Next}
 (h:∀base n cap,v= .slice base n cap->n=l.length->n<=cap->r= .ok (.value (.slice (if cap=i then base else base.map (·.add (i*e.sz))) (j-i) (cap-i))) w) {y:List e.den} (H:y=(l.take j).drop i):
 Yields w0 c0 U E a r (.d ⟨.sl e,y,.sl (.sha m.ar)⟩):=by
 subst H;obtain⟨B,J,u⟩:=z.rep hm;obtain⟨base,n,cap,x,K,L,N,O,Q⟩:=J.cut i j k F;refine cR D (h base n cap x K L) ⟨[_],rfl,_,rfl,⟨N,O,fun b A=>u b (Q b A)⟩,fun he=> ?_⟩ (bg.d hc) (by rintro _ _ ⟨⟩);cases m with
 |row t R nd=>simp[M.ar]at he
 |sha R=>
  have I:=z.2 he;rw[I]at x;cases x;have q:j=0:=by omega
  have s:i=0:=by omega
  subst q s;rfl
 |nst b E i o p fr=>simp[M.ar]at he
 |dead=>exact absurd rfl hm
theorem jv{k:IntKind}{i:Int}{y:Nat}{code:BoundsCode}(b:0<=i)(c:i<=y):(Instr.sliceBound (.int k i) y code).run P w= .ok i.toNat w:=run_sliceBound w k i y code b c
theorem Yg(hC:CxTy P C)(p:Inv w0 c0 U E a w G)(u:RI ops E a.tmps)(v:Gd ops a.tmps g){tk:Nat}{o:Oper}{t:TypeId}{x:Operand}{lo hi mx:Option Operand}{ef:Ef}
 (Q:o.op= .slice t x lo hi mx) (h:bj C ops E.rd tk g o=some ef):lg w0 c0 U E a ((execOp a.eval o).run P w) ef:=by
 simp only[bj,Q]at h;split at h;cases h;rename_i Y ao;have hT:=hC.tt t Y ao
 have sl:∀ {e:Ty},Y.τ= .sl e->P.underlying t=some (.slice Y.el)/\gA P Y.el e:=by
  intro e he;have:=hT.2;rw[he]at this;exact this
 have st:Y.τ= .str->P.underlying t=some .string:=by intro he;have:=hT.2;rw[he]at this;exact this
 split at h
 rename_i e l m B c r;obtain rfl:=aca.1 c;obtain rfl:=aca.1 r;split at h;rename_i D;cases h;obtain⟨hu,T⟩:=sl D;obtain⟨m',hm,j,V,A⟩:=jJ p u v B;simp only[Sh.sl.injEq]at hm;subst hm;refine HZ p j V A 0 l.length (Nat.zero_le _) (J2 _) ?_ (by simp);intro base n cap R Z F;simp only[execOp,Q];refine dP ?_;rw[R];simp[Instr.sliceAt,Instr.slice,Instr.sliceBounds,run_underlying hu,dX T,Z];cases h
 rename_i e l m q H B c r;obtain⟨W,rfl,b⟩:=v8.1 c;obtain rfl:=aca.1 r;split at h;rename_i D;cases h;intro d;obtain⟨K,L⟩:=e_ d;obtain⟨hu,T⟩:=sl D;obtain⟨m',hm,j,V,A⟩:=jJ p u v B;simp only[Sh.sl.injEq]at hm;subst hm;have J:=ei p u v b;have O: @LE.le Int K' q (l.length:Int):=L;have z: @LE.le Int K' 0 q:=K;refine HZ p j V A q.toNat l.length (by omega) (J2 _) ?_ (by simp);intro base n cap R Z F;simp only[execOp,Q];refine dP ?_;rw[R];have:=jv (P:=P) (w:=w) (k:= .i64) (code:= .sliceB) z O;simp[Instr.sliceAt,Instr.slice,Instr.sliceBounds,run_underlying hu,dX T,Z,J,this];cases h
 rename_i e l m q H B I c;obtain rfl:=aca.1 I;obtain⟨X,rfl,b⟩:=v8.1 c;split at h;rename_i D;cases h;intro d;obtain⟨K,L⟩:=e_ d;obtain⟨hu,T⟩:=sl D;obtain⟨m',hm,j,V,A⟩:=jJ p u v B;simp only[Sh.sl.injEq]at hm;subst hm;have J:=ei p u v b;have O: @LE.le Int K' q (l.length:Int):=L;have z: @LE.le Int K' 0 q:=K;refine HZ p j V A 0 q.toNat (Nat.zero_le _) (by omega) ?_ (by simp);intro base n cap R Z F;simp only[execOp,Q];refine dP ?_;rw[R];have:=jv (P:=P) (w:=w) (k:= .i64) (y:=cap) (code:= .sliceAcap) z (by omega);simp[Instr.sliceAt,Instr.slice,Instr.sliceBounds,run_underlying hu,dX T,J,this];cases h
 rename_i e l m q H bv aB B c r;obtain⟨W,rfl,b⟩:=v8.1 c;obtain⟨X,rfl,N⟩:=v8.1 r;split at h;rename_i D;cases h;intro d;obtain⟨K,L,h2⟩:=e_ d;obtain⟨hu,T⟩:=sl D;obtain⟨m',hm,j,V,A⟩:=jJ p u v B;simp only[Sh.sl.injEq]at hm;subst hm;have J:=ei p u v b;have hb:=ei p u v N;have z: @LE.le Int K' 0 q:=K;have O: @LE.le Int K' q bv:=L;have a1: @LE.le Int K' bv (l.length:Int):=h2;have a6:(bv.toNat:Int)=bv:=ac2 (by omega);refine HZ p j V A q.toNat bv.toNat (by omega) (by omega) ?_ rfl;intro base n cap R Z F;simp only[execOp,Q];refine dP ?_;rw[R];have e1:=jv (P:=P) (w:=w) (k:= .i64) (y:=cap) (code:= .sliceAcap) (i:=bv) (by omega) (by omega);have S:=jv (P:=P) (w:=w) (k:= .i64) (y:=bv.toNat) (code:= .sliceB) (i:=q) z (by omega);simp[Instr.sliceAt,Instr.slice,Instr.sliceBounds,run_underlying hu,dX T,J,hb,e1,S];cases h
 rename_i s ad q H B c r;obtain⟨W,rfl,b⟩:=v8.1 c;obtain rfl:=aca.1 r;split at h;rename_i D;cases h;intro d;obtain⟨K,L⟩:=e_ d;have hs:=nZ p u v B;have J:=ei p u v b;have S:=jv (P:=P) (w:=w) (k:= .i64) (y:=s.size) (code:= .sliceB) (i:=q) K L;refine pF p ?_;simp only[execOp,Q];refine dP ?_;simp[Instr.sliceAt,Instr.slice,Instr.sliceBounds,run_underlying (st D),hs,J,S];cases h
 rename_i s ad q H B I c;obtain rfl:=aca.1 I;obtain⟨X,rfl,b⟩:=v8.1 c;split at h;rename_i D;cases h;intro d;obtain⟨K,L⟩:=e_ d;have hs:=nZ p u v B;have J:=ei p u v b;have S:=jv (P:=P) (w:=w) (k:= .i64) (y:=s.size) (code:= .sliceAlen) (i:=q) K L;refine pF p ?_;simp only[execOp,Q];refine dP ?_;simp[Instr.sliceAt,Instr.slice,Instr.sliceBounds,run_underlying (st D),hs,J,S];cases h
 rename_i s ad q H bv aB B c r;obtain⟨W,rfl,b⟩:=v8.1 c;obtain⟨X,rfl,N⟩:=v8.1 r;split at h;rename_i D;cases h;intro d;obtain⟨K,L,h2⟩:=e_ d;have hs:=nZ p u v B;have J:=ei p u v b;have hb:=ei p u v N;have z: @LE.le Int K' 0 q:=K;have O: @LE.le Int K' q bv:=L;have a1: @LE.le Int K' bv (s.size:Int):=h2;have a6:(bv.toNat:Int)=bv:=ac2 (by omega);have e1:=jv (P:=P) (w:=w) (k:= .i64) (y:=s.size) (code:= .sliceAlen) (i:=bv) (by omega) (by omega);have S:=jv (P:=P) (w:=w) (k:= .i64) (y:=bv.toNat) (code:= .sliceB) (i:=q) z (by omega);refine pF p ?_;simp only[execOp,Q];refine dP ?_;simp[Instr.sliceAt,Instr.slice,Instr.sliceBounds,run_underlying (st D),hs,J,hb,e1,S];cases h;cases h
theorem HG(d:Nat)(t:TypeId)(p q:Bool)(h:P.underlying t=some .bool):(Op.equalIn (d+1) t (.bool p) (.bool q)).run P w= .ok (p==q) w:=by
 simp[Op.equalIn,run_underlying h]
theorem AN:∀ {τ:Ty} {x:τ.den} {cs:List Value} {B:List Nat},τ.flat=true->aK w τ x cs B->B=[]
 | .int _,_,_,_,_,h=>h.2
 | .bool,_,_,_,_,h=>h.2
 | .str,_,_,_,_,h=>h.2
 | .sl _,_,_,_,hf,_=>by simp[Ty.flat]at hf
 | .pair a b,p,cs,B,hf,h=>by
   obtain⟨c1,c2,B1,B2,rfl,rfl,c,d⟩:=h;simp only[Ty.flat,K_]at hf;rw[AN hf.1 c,AN hf.2 d];rfl
theorem aa0(L:CxTy P C)(d:Inv w0 c0 U E a w G)(e:RI ops E a.tmps)(i:Gd ops a.tmps g){tk:Nat}{o:Oper}{op:BinOp}{t u:TypeId}{x y:Operand}{N:Ef}
 (O:o.op= .binOp op t x y u) (h:bj C ops E.rd tk g o=some N):lg w0 c0 U E a ((execOp a.eval o).run P w) N:=by
 simp only[bj,O]at h;split at h;rename_i I p q l z A;split at h;rename_i J;simp only[execOp,O];unfold Y9 at h;split at h;rename_i k m K k' n r;split at h;rename_i j;simp only[Bool.or_eq_true,b_]at j;exact Zi d (by rcases j with(j|j)|j<;>simp[j]) (ei d e i z) (ei d e i A) h;cases h;exact Zm d (nZ d e i z) (nZ d e i A) h;rename_i m K n r;have Q:=(L.tt t I l).2;have R:P.underlying t=some .bool:=by rw[<-J]at Q;exact Q
 have B:=DQ d e i z;have D:=DQ d e i A;rw[B,D];have s:∀v,eqGuard op t x y (.bool m) v=pure ():=fun v=>eqGuard_at_bool ..;split at h;cases h;exact dg d (by simp[s,binOp,Op.equal,Op.maxDepth,HG (w:=w) 9999 t m n R]);cases h;exact dg d (by simp[s,binOp,Op.equal,Op.maxDepth,HG (w:=w) 9999 t m n R]);cases h;rename_i b1 b2 m K τ n r;split at h;rename_i n' W;split at h;rename_i c;have b:=dv W;simp only[TV.mk.injEq]at b;obtain⟨rfl,b⟩:=b;simp only[heq_eq_eq,and_true]at b;subst b;obtain⟨⟨T,B,v1⟩,_,X⟩:=jD d e i z;obtain⟨⟨V,D,v2⟩,_,Y⟩:=jD d e i A;obtain⟨B1,F,_⟩:=v1.rep X;obtain⟨B2,H,_⟩:=v2.rep Y;obtain rfl:=AN c F;obtain rfl:=AN c H;have heq:=L.eq t I l;rw[<-J]at heq;have S:=heq rfl c w;rw[B,D];split at h;cases h;have:=S .eql x y m n T V (.inl rfl) F H;exact dg d (dP (by simpa using this));cases h;have:=S .neq x y m n T V (.inr rfl) F H;exact dg d (dP (by simpa using this));cases h;cases h;cases h;cases h;cases h;cases h
theorem Zf(B:Inv w0 c0 U E a w G)(K:RI ops E a.tmps)(Y:Gd ops a.tmps g){tk:Nat}{o:Oper}{c x y:Operand}{L:Ef}(N:o.op= .pick c x y)
 (h:bj C ops E.rd tk g o=some L):lg w0 c0 U E a ((execOp a.eval o).run P w) L:=by
 simp only[bj,N]at h;split at h;rename_i t S sx sy hc T V;split at h;rename_i p sh1 q sh2 W X;cases h
 have O:a.eval c= .bool t:=by
  obtain⟨⟨cs,H,l⟩,_⟩:=fK B K Y hc;cases S with
  |leaf=>rw[H,show cs=_ from l];rfl
  |sl m=>exact l.elim
  |pair _ _=>exact l.elim
 have arm:∀ {z:Operand} {sz:SV} {b:Bool} {r:Bool} {s:Sh},fZ C E.rd o.type z=some sz->zD ops c b sz=some (.d ⟨.bool,r,s⟩)->t=b->a.eval z= .bool r:=by
  intro z sz b r s J k A;obtain⟨I,_⟩:=Su B J;have D:=W0 K J
  have fin:ck w G (.d ⟨.bool,r,s⟩) (a.eval z)->a.eval z= .bool r:=by
   rintro⟨cs,H,l⟩;cases s with
   |leaf=>rw[H,show cs=_ from l];rfl
   |sl m=>exact l.elim
   |pair _ _=>exact l.elim
  cases sz with
  |g j R act v=>
   simp only[zD]at k;split at k;rename_i n;split at k;rename_i i;simp only[K_,b_]at i;simp only[aae]at k;subst k
   have F:yielded ops.toArray a.tmps j=some R:=by
    have Z:ops.toArray[j]?.bind (·.dst)=some n:=by simpa using i.2
    have e:a.tmps.getD n undef= .bool t:=O
    have u:a.tmps[n]?=some (.bool t):=by
     rw[acM]at e;cases Q:a.tmps[n]? with
     |none=>rw[Q]at e;cases e
     |some v=>rw[Q]at e;simp at e;rw[e]
    simp only[yielded,Z,Option.bind_some,u];rw[A,i.1]
   exact fin (I.1 ((D j R act _ rfl).2 F)).2;cases k;cases k
  |_=>simp only[zD,aae]at k;rw[k]at I;exact fin I
 refine dg B ?_;simp only[execOp,N,O];cases t with
 |true=>simp[asBool,arm T W rfl]
 |false=>simp[asBool,arm V X rfl]
 cases h;cases h
theorem R4(d:Inv w0 c0 U E a w G)(n:RI ops E a.tmps)(q:Gd ops a.tmps g){tk:Nat}{o:Oper}{x:Operand}{r:Ef}(m:o.op= .nilCheck x)
 (h:bj C ops E.rd tk g o=some r):lg w0 c0 U E a ((execOp a.eval o).run P w) r:=by
 simp only[bj,m]at h;split at h;rename_i t u p τ j;cases h;obtain⟨c,l⟩:=fK d n q j;have b:=c;obtain⟨s,_,_,k⟩:=b;exact cR d (by simp only[execOp,m,k];rfl) (k▸c) l (by rintro _ _ ⟨⟩);rename_i t e i u p τ j;cases h;obtain⟨c,l⟩:=fK d n q j;have b:=c;obtain⟨s,_,_,_,_,_,_,_,k⟩:=b;exact cR d (by simp only[execOp,m,k];rfl) (k▸c) l (by rintro _ _ ⟨⟩);rename_i hs v j;cases h;obtain⟨c,l⟩:=fK d n q j;have b:=c;obtain⟨s,_,_,_,_,k,_⟩:=b;exact cR d (by simp only[execOp,m,k];rfl) (k▸c) l (by rintro _ _ ⟨⟩);cases h
theorem Uu(b:Inv w0 c0 U E a w G)(n:RI ops E a.tmps)(p:Gd ops a.tmps g){tk:Nat}{o:Oper}{x:Operand}{j:Nat}{e:Ef}(i:o.op= .extract x j)
 (h:bj C ops E.rd tk g o=some e):lg w0 c0 U E a ((execOp a.eval o).run P w) e:=by
 simp only[bj,i]at h;split at h;rename_i l m;rw[v8]at h;obtain⟨v,k,rfl⟩:=h;obtain⟨⟨vs,q,k2,r⟩,s⟩:=fK b n p m;obtain⟨u,cs,q1,q2,q3⟩:=r j v k;refine cR b (mv:=u) ?_ ⟨cs,q2,q3⟩ (bg.d fun c hc=>s.1 c (J8.2 ⟨v,acI k,hc⟩)) (by rintro _ _ ⟨⟩);simp only[execOp,i,q];refine dP ?_;simp[Instr.extract,q1];cases h
theorem Yd(q:CxTy P C)(t:Inv w0 c0 U E a w G)(F:RI ops E a.tmps)(H:Gd ops a.tmps g){tk:Nat}{o:Oper}{s:TypeId}{x:Operand}{j:Nat}{y:Ef}(z:o.op= .field s x j)
 (h:bj C ops E.rd tk g o=some y):lg w0 c0 U E a ((execOp a.eval o).run P w) y:=by
 simp only[bj,z]at h;split at h;rename_i i v p D;split at h;rename_i hc;simp only[K_,b_]at hc;rw[v8]at h;obtain⟨r,K,rfl⟩:=h;obtain⟨⟨cs,L,B⟩,hm,_⟩:=jD t F H D
 have b:i.τ.cn=true:=by
  cases I:i.τ.cn with
  |true=>rfl
  |false=>rw[q.fs s i p I]at hc;simp at hc
 obtain⟨fields,hu,hsz,N⟩:=(q.tt s i p).struct b;have A:j<fields.size:=by omega
 obtain⟨f1,f2,σ,f3,f4⟩:=N j fields[j] (aa7 A);obtain⟨q1,q2,q3,q4⟩:=bh.sub K B;rw[hc.1,f3]at q3;simp only[aae]at q3;subst q3;refine cR t ?_ ⟨_,rfl,q1⟩ (bg.d fun c m=>hm c (q4 c m)) (by rintro _ _ ⟨⟩);simp only[execOp,z,L];refine dP ?_;have hlen:=bh.len B;rw[Ho (by rw[hc.1];exact b)]
 have e:(part fields[j].type cs.toArray fields[j].offset).run P w= .ok (cT r.τ ((cs.drop (v.τ.off (eG i.fs.length j))).take r.τ.sz)) w:=by
  rw[f1,<-hc.1];cases k:r.τ.cn with
  |true=>simp[part,uf f4,k,dX f4,Ho k,List.extract_eq_take_drop]
  |false=>
   have J:r.τ.sz=1:=by cases n:r.τ<;>simp_all[Ty.cn,Ty.sz]
   have l:v.τ.off (eG i.fs.length j)<cs.length:=by omega
   have hw:(cs.drop (v.τ.off (eG i.fs.length j))).take 1=[cs[v.τ.off (eG i.fs.length j)]]:=by
    rw[List.take_one,adb];simp[l]
   have hm:∀u:Value,cT r.τ [u]=u:=by intro u;cases n:r.τ<;>simp_all[cT,Ty.cn]
   rw[J,hw,hm];simp[part,uf f4,k,l]
 simp[Instr.field,run_underlying hu,aa7 A,asAgg,e];cases h;cases h
theorem abr(c:Inv w0 c0 U E a w G)(i:RI ops E a.tmps)(j:Gd ops a.tmps g){tk:Nat}{o:Oper}{op:UnOp}{t:TypeId}{x:Operand}{l:Ef}
 (e:o.op= .unOp op t x) (h:bj C ops E.rd tk g o=some l):lg w0 c0 U E a ((execOp a.eval o).run P w) l:=by
 simp only[bj,e]at h;split at h;rename_i b m d;cases h;exact dg c (by simp only[execOp,e,DQ c i j d];exact dP (by simp[Op.unary]));rename_i k n m d;cases h;exact dV c (by simp only[execOp,e,ei c i j d];exact dP (by simp[Op.unary,Op.intArith]));cases h
theorem WQ{t:TypeId}{i:TI}(h:LG P t i):∃d,(underlying t).run P w= .ok d w:=by
 obtain⟨⟨inf,d,_,_,_,_,hu,_⟩,_⟩:=h;exact⟨d,run_underlying hu w⟩
theorem Ns:∀ {l:List Int} {cs:List Value} {B:List Nat},aN (aK w (.int .u8)) l cs B->cs=l.map fun n=>Value.int .u8 n
 | [],_,_,h=>h.1
 |n::l,cs,B,h=>by
  obtain⟨c1,c2,B1,B2,rfl,rfl,b,c⟩:=h;rw[b.1,Ns c];rfl
theorem ZQ(t:CxTy P C)(u:Inv w0 c0 U E a w G)(J:RI ops E a.tmps)(K:Gd ops a.tmps g){tk:Nat}{o:Oper}{s d:TypeId}{x:Operand}{V:Ef}
 (I:o.op= .convert s d x) (h:bj C ops E.rd tk g o=some V):lg w0 c0 U E a ((execOp a.eval o).run P w) V:=by
 simp only[bj,I]at h;split at h;rename_i H p;obtain⟨ds,D⟩:=WQ (w:=w) (t.tt s H p);split at h;rename_i k R el k' n S y z;cases h;have hu:P.underlying d=some (.int k):=(t.tt d _ y).2;refine dV u ?_;simp only[execOp,I,ei u J K z];refine dP ?_;simp[convert,D,run_underlying hu,Conv.intToInt];rename_i R el v S y z;cases h;have hu:P.underlying d=some .string:=(t.tt d _ y).2;refine pF u ?_;simp only[execOp,I,nZ u J K z];refine dP ?_;simp[convert,D,run_underlying hu];rename_i R el l S y z;split at h;rename_i T;cases h;have hu:P.underlying d=some .string:=(t.tt d _ y).2;have W:=(t.tt s H p).2;rw[T]at W;obtain⟨r,hel⟩:=W;obtain⟨m,hm,F,N,_⟩:=jJ u J K z;obtain⟨B,X,_⟩:=F.rep N;refine pF u ?_;simp only[execOp,I];refine dP ?_;have q:P.underlying H.el=some (.int .u8):=t.u8 s H p T;rcases X with⟨e,rfl,_⟩|⟨b,off,cap,c,el',fz,Bs,e,hcap,Y,O,rfl,Q⟩;obtain⟨Z,e⟩:=e;rw[e];cases Z with
 |none=>
  simp[convert,run_underlying r,run_underlying hu,run_underlying q,Conv.bytesToString];rfl
 |some ad=>
  have i:=run_loadCells_list (P:=P) w ad [] (fun j v e=>by simp at e);rw[run_convert_bytes_string w s d _ _ _ _ r q hu,run_bytesToString w _ 0 0 [] (by simpa using i),foldl_push_bytes];congr 3
 rw[e];have A:(Ty.int IntKind.u8).sz=1:=rfl;rw[A,Nat.mul_one]at Q O;have L:=Ns Q
 have hlen:((c.toList.drop off).take l.length).length=l.length:=by
  have:=aN.len (sz:=1) (fun x c B h=>aK.len h) Q;simpa using this
 have i:=run_loadCells_list (P:=P) w ⟨b,off,none⟩ ((c.toList.drop off).take l.length) (fun j v e=>by
  rw[Addr.add_lit,oD Y];exact L7 e)
 rw[hlen,L]at i;rw[run_convert_bytes_string w s d _ _ _ _ r q hu,run_bytesToString w _ l.length cap l i,foldl_push_bytes];congr 3;simp;cases h;cases h;cases h
theorem YC(z:CxTy P C)(d:Inv w0 c0 U E a w G)(l:RI ops E a.tmps)(m:Gd ops a.tmps g){tk:Nat}{o:Oper}{t:TypeId}{x n:Operand}{p:Ef}
 (q:o.op= .index t x n) (h:bj C ops E.rd tk g o=some p):lg w0 c0 U E a ((execOp a.eval o).run P w) p:=by
 simp only[bj,q]at h;split at h;rename_i r s sh k i sh' c u v;split at h;rename_i y;cases h;intro hc;obtain⟨B,D⟩:=e_ hc;have hu:P.underlying t=some .string:=by have:=(z.tt t r c).2;rw[y]at this;exact this
 refine dV d ?_;simp only[execOp,q,nZ d l m u,ei d l m v];refine dP ?_;have e: @LE.le Int K' 0 i:=B;have h1': @LT.lt Int Int.instLTInt i (s.size:Int):=D;have j:i.toNat<s.size:=by omega
 have b:s[i.toNat]?=some s[i.toNat]:=getElem?_pos ..
 have A:bt s i=(s[i.toNat].toNat:Int):=by
  simp only[bt]
  have:s.data.toList[i.toNat]?=some s[i.toNat]:=by
   rw[Array.getElem?_toList,aa7 (by exact j)];rfl
  rw[acV,this];rfl
 simp[Instr.index,asIntOf,run_underlying hu,e,b,A];cases h;cases h
theorem aaW(W:CxTy P C)(p:Inv w0 c0 U E a w G)(r:RI ops E a.tmps)(A:Gd ops a.tmps g){tk:Nat}{o:Oper}{c:Call}{b:Builtin}{S:Ef}
 (H:o.op= .call c) (I:c.callee= .builtin b) (Z:∀x y z u v,S≠ .app x y z u v) (h:bj C ops E.rd tk g o=some S):lg w0 c0 U E a ((execOp a.eval o).run P w) S:=by
 simp only[bj,H,I]at h;unfold n9 at h;split at h
 rename_i x t D j;have d:c.args= #[x]:=D' (by simpa using D);have i:c.argTypes= #[t]:=D' (by simpa using j);split at h;cases h;rename_i V F;split at h;rename_i e l L q;split at h;rename_i N;cases h;have J:=(W.tt t V F).2;rw[N]at J;obtain⟨m,hm,K,T,_⟩:=jJ p r A q;obtain⟨B,hB,_⟩:=K.rep T;refine dV p ?_;simp only[execOp,H]
 rcases hB with⟨⟨ao,X⟩,rfl,_⟩|⟨b,off,cap,c,el',fz,Bs,X,_⟩<;>
  simp[resolve,I,invoke,builtin,d,i,X,Builtin.len_,run_underlying J.1,goInt]
 cases h;rename_i s L q;split at h;rename_i N;cases h;have J:=(W.tt t V F).2;rw[N]at J;refine dV p ?_;simp only[execOp,H];simp[resolve,I,invoke,builtin,d,i,nZ p r A q,Builtin.len_,run_underlying J,goInt];cases h;cases h
 rename_i x y t u D j;have d:c.args= #[x,y]:=D' (by simpa using D);have i:c.argTypes= #[t,u]:=D' (by simpa using j);split at h;rename_i k m L Y n O q Q;split at h;rename_i R;subst R;cases h;refine dV p ?_;simp only[execOp,H];simp[resolve,I,invoke,builtin,d,i,ei p r A q,ei p r A Q,Builtin.min_,Builtin.min2];cases h;cases h
 rename_i x y t u D j;have d:c.args= #[x,y]:=D' (by simpa using D);have i:c.argTypes= #[t,u]:=D' (by simpa using j);split at h;rename_i k m L Y n O q Q;split at h;rename_i R;subst R;cases h;refine dV p ?_;simp only[execOp,H];simp[resolve,I,invoke,builtin,d,i,ei p r A q,ei p r A Q,Builtin.max_,Builtin.max2];cases h;cases h
 split at h;split at h;split at h;split at h;cases h;exact absurd rfl (Z _ _ _ _ _);cases h;cases h;cases h;cases h;cases h
def Good(U:Nat->Prop)(G:Gh)(c:Nat):Prop:=0<c/\U c/\G.bx c=false
structure xI(w:World)(U:Nat->Prop)(G:Gh)(U':Nat->Prop)(G':Gh)(f:M->M)(fe:Nat->Bool)(fr:List Nat->Option (List Nat)):Prop where
 row:∀(e:Ty) (l:List e.den) (v:Value) (m:M),bV w G e l v m->(∀c∈m.ar,Good U G c)->bV w G' e l v (f m)
 good:∀m:M,(∀c∈m.ar,Good U G c)->∀c∈(f m).ar,Good U' G' c
 rd:∀hs hs',fr hs=some hs'->(∀c∈hs,Good U G c)->(∀c∈hs',Good U' G' c)/\∀b,G.col b∈hs->G'.col b∈hs'
 hdr:∀t,U t->G'.hdr t=G.hdr t
 bx:∀t,U t->G.bx t=true->G'.bx t=true/\∀b,G.col b=t->G'.col b=t
 ru:∀t,U t->G.bx t=false->G'.bx t=false
 mono:∀t,U t->U' t
section
variable{U':Nat->Prop}{G':Gh}{f:M->M}{fe:Nat->Bool}{fr:List Nat->Option (List Nat)}
theorem Sh.sY(o:xI w U G U' G' f fe fr):∀ {sh:Sh},(∀c∈sh.ar,Good U G c)->∀c∈(sh.map f).ar,Good U' G' c
 | .leaf,_,c,h=>by simp[Sh.map,Sh.ar]at h
 | .sl m,hc,c,h=>o.good m hc c h
 | .pair a b,hc,c,h=>by
   simp only[Sh.map,Sh.ar,l9]at h;exact h.elim (Sh.sY o (fun c h=>hc c (by simp[Sh.ar,h])) c) (Sh.sY o (fun c h=>hc c (by simp[Sh.ar,h])) c)
theorem bh.map(o:xI w U G U' G' f fe fr):∀ {τ:Ty} {x:τ.den} {sh:Sh} {cs:List Value},bh w G τ x sh cs->(∀c∈sh.ar,Good U G c)->
 bh w G' τ x (sh.map f) cs
 | .int _,_,.leaf,_,h,_=>h
 | .bool,_,.leaf,_,h,_=>h
 | .str,_,.leaf,_,h,_=>h
 | .sl e,l,.sl m,cs,h,hc=>by
   obtain⟨v,rfl,q⟩:=h;exact⟨v,rfl,o.row _ _ _ _ q hc⟩
 | .pair a b,p,.pair s1 s2,cs,h,hc=>by
   obtain⟨u,y,rfl,z,A⟩:=h;exact⟨u,y,rfl,bh.map o z (fun c h=>hc c (by simp[Sh.ar,h])),bh.map o A (fun c h=>hc c (by simp[Sh.ar,h]))⟩
 | .int _,_,.sl _,_,h,_| .int _,_,.pair _ _,_,h,_| .bool,_,.sl _,_,h,_| .bool,_,.pair _ _,_,h,_
 | .str,_,.sl _,_,h,_| .str,_,.pair _ _,_,h,_| .sl _,_,.leaf,_,h,_| .sl _,_,.pair _ _,_,h,_
 | .pair _ _,_,.leaf,_,h,_| .pair _ _,_,.sl _,_,h,_=>h.elim
theorem bg.map(q:xI w U G U' G' f fe fr):∀ {s:SV},bg U G s->bg U' G' (s.mapM f fe fr)
 | .no,_=>by simp[SV.mapM,bg,SV.sc,SV.bt,SV.rt]
 | .d v,hm=>bg.d (Sh.sY q hm.1)
 | .box t v,hm=>by
   have h:=hm.2.1 t (by simp[SV.bt]);refine⟨Sh.sY q hm.1,?_,by simp[SV.mapM,SV.rt]⟩;intro c hc;simp only[SV.mapM,SV.bt,acd]at hc;subst hc;exact⟨h.1,q.mono _ h.2.1,(q.bx _ h.2.1 h.2.2).1⟩
 | .ptr t o p τ,hm=>by
   have h:=hm.2.1 t (by simp[SV.bt]);refine⟨by simp[SV.mapM,SV.sc],?_,by simp[SV.mapM,SV.rt]⟩;intro c hc;simp only[SV.mapM,SV.bt,acd]at hc;subst hc;exact⟨h.1,q.mono _ h.2.1,(q.bx _ h.2.1 h.2.2).1⟩
 | .ept t e i o p τ,hm=>by
   simp only[SV.mapM];split;have h:=hm.2.2 t (by simp[SV.rt]);refine⟨by simp[SV.sc],by simp[SV.bt],?_⟩;intro c hc;simp only[SV.rt,acd]at hc;subst hc;exact⟨h.1,q.mono _ h.2.1,q.ru _ h.2.1 h.2.2⟩;simp[bg,SV.sc,SV.bt,SV.rt]
 | .rdp hs v,hm=>by
   simp only[SV.mapM];split;rename_i u y;obtain⟨z,k2⟩:=q.rd hs u y (fun c hc=>hm.1 c (by simp[SV.sc,hc]));refine⟨?_,by simp[SV.bt],by simp[SV.rt]⟩;intro c hc;simp only[SV.sc,l9]at hc;exact hc.elim (z c) (Sh.sY q (fun c hc=>hm.1 c (by simp[SV.sc,hc])) c);simp[bg,SV.sc,SV.bt,SV.rt]
 | .tup l,hm=>by
   refine⟨?_,by simp[SV.mapM,SV.bt],by simp[SV.mapM,SV.rt]⟩;intro c hc;simp only[SV.mapM,SV.sc,ada,J8]at hc;obtain⟨v,A,hc⟩:=hc;exact Sh.sY q (fun c hc=>hm.1 c (J8.2 ⟨v,A,hc⟩)) c hc
 | .g j w' true v,hm=>by
   have:=bg.map (s:=v) q (by simpa[bg,SV.sc,SV.bt,SV.rt]using hm);simpa[bg,SV.mapM,SV.sc,SV.bt,SV.rt]using this
 | .g j w' false v,hm=>by simp[bg,SV.mapM,SV.sc,SV.bt,SV.rt]
theorem ck.map(h:xI w U G U' G' f fe fr):∀ {s:SV} {mv:Value},ck w G s mv->bg U G s->ck w G' (s.mapM f fe fr) mv
 | .no,_,_,_=>trivial
 | .d v,mv,⟨cs,h1,h2⟩,hm=>⟨cs,h1,bh.map h h2 hm.1⟩
 | .box t v,mv,⟨bk,c,el,h1,h2,h3,h4,h5,h6⟩,hm=>by
   have q:=hm.2.1 t (by simp[SV.bt]);have J:=h.bx t q.2.1 q.2.2;exact⟨bk,c,el,h1,h2,(h.hdr t q.2.1).trans h3,J.2 _ h4,h5,bh.map h h6 hm.1⟩
 | .ptr t o p τ,mv,⟨bk,h1,h2,h3⟩,hm=>by
   have q:=hm.2.1 t (by simp[SV.bt]);exact⟨bk,h1,(h.hdr t q.2.1).trans h2,h3⟩
 | .ept t e i o p τ,mv,⟨b,off,n,cap,h1,h2,h3⟩,hm=>by
   simp only[SV.mapM];split;have q:=hm.2.2 t (by simp[SV.rt]);exact⟨b,off,n,cap,h1,(h.hdr t q.2.1).trans h2,h3⟩;trivial
 | .rdp H v,mv,⟨b,o,c,el,fz,h1,h2,h3,h4,h5⟩,hm=>by
   simp only[SV.mapM];split;rename_i z I;obtain⟨k1,K⟩:=h.rd H z I (fun c hc=>hm.1 c (by simp[SV.sc,hc]));exact⟨b,o,c,el,fz,h1,h2,h3,K _ h4,bh.map h h5 (fun c hc=>hm.1 c (by simp[SV.sc,hc]))⟩;trivial
 | .tup l,mv,⟨vs,h1,h2,h3⟩,hm=>by
   refine⟨vs,h1,by simp[h2],fun i v B=> ?_⟩;rw[acB,v8]at B;obtain⟨D,y,rfl⟩:=B;obtain⟨u,cs,hu,A,L⟩:=h3 i D y;exact⟨u,cs,hu,A,bh.map h L (fun c hc=>hm.1 c (J8.2 ⟨D,acI y,hc⟩))⟩
 | .g j w' false v,mv,⟨h1,h2⟩,hm=>⟨fun e=>absurd e (by simp),h2⟩
 | .g j w' true v,mv,⟨h1,h2⟩,hm=>⟨fun e=>⟨by
  have:=(h1 e).1;cases v with
  |box t v=>simp[SV.du]at this
  |ept t e i o p τ=>simp only[SV.mapM];split<;>rfl
  |rdp H v=>simp only[SV.mapM];split<;>rfl
  |_=>rfl,ck.map (s:=v) h (h1 e).2 (by simpa[bg,SV.sc,SV.bt,SV.rt]using hm)⟩,h2⟩
theorem Ai{s:SV}{t:Nat}{u:TV}(h:s.mapM f fe fr= .box t u):∃b,s= .box t b:=by
 cases s with
 |box c v=>simp only[SV.mapM,SV.box.injEq]at h;exact⟨v,by rw[h.1]⟩
 |ept c e i o p τ=>simp only[SV.mapM]at h;split at h<;>cases h
 |rdp hs v=>simp only[SV.mapM]at h;split at h<;>cases h
 |_=>simp[SV.mapM]at h
theorem getD_map{L:List SV}{T:SV->SV}(b:T .no= .no)(s:Nat):(L.map T).getD s .no=T (L.getD s .no):=by
 simp only[acj,acB];cases L[s]?<;>simp[b]
theorem Inv.map(o:Inv w0 c0 U E a w G)(q:xI w U G U' G' f fe fr)(D:∀b,0<G'.col b->U' (G'.col b))
 (p:∀b,(0<G'.col b->0<G.col b)/\(G.col b<4->G'.col b=G.col b)/\(G'.col b<4->G'.col b=G.col b)):
 Inv w0 c0 U' {E with s:=E.s.map (SV.mapM f fe fr)} a w G':=by
 have A:∀s,({E with s:=E.s.map (SV.mapM f fe fr)}:Env).s.getD s .no=(E.s.getD s .no).mapM f fe fr:=fun s=>getD_map (T:=SV.mapM f fe fr) rfl s;have hm:∀s,bg U' G' ((E.s.getD s .no).mapM f fe fr):=fun s=>bg.map q (o.oK s);refine⟨by simpa using o.len,fun s=> ?_,fun s=> ?_,fun s=> ?_,fun s=> ?_,fun s J t v v' z I=> ?_,D,fun b y=>o.lt b ((p b).1 y),fun b y=>o.fresh b ?_,fun b y hc=> ?_,fun b y=> ?_,o.size,o.os,o.tape,o.output,o.defers,⟨⟨q.mono _ o.two.1.1,q.ru _ o.two.1.1 o.two.1.2⟩,q.mono _ o.two.2.1,q.ru _ o.two.2.1 o.two.2.2⟩,fun B t v e=>⟨q.mono _ (o.hk B t v e).1,(q.hdr t (o.hk B t v e).1).trans (o.hk B t v e).2⟩⟩;rw[A];exact ck.map q (o.slots s) (o.oK s);rw[A];exact(hm s).1;rw[A];exact(hm s).2.1;rw[A];exact(hm s).2.2;rw[A]at z I;obtain⟨u,hu⟩:=Ai z;obtain⟨K,H⟩:=Ai I;exact o.uni s J t u K hu H;have z:=(p b).2.1;rcases acH (G.col b) 4 with h|h;have:=z h;omega;exact h;have h:=o.frame b y hc;exact⟨by rw[(p b).2.1 (by rw[h.1];exact hc)];exact h.1,h.2⟩;have z:=(p b).2.2 (by omega);rw[z]at y|-;exact o.one b y
end
theorem pZ{a b:List Nat}(h:meets a b=false):∀c∈a,c∉b:=by
 simp only[meets,List.any_eq_false,acf,b_]at h;exact h
theorem kJ(ts:List Nat)(m:M):∀c∈(m.kill ts).ar,c∈m.ar/\c∉ts:=by
 intro c hc;unfold M.kill at hc;split at hc;simp[M.ar]at hc;rename_i hm;exact⟨hc,pZ (by simpa using hm) c hc⟩
theorem Zu(ts:List Nat):xI w U G U G (M.kill ts) (!ts.contains ·) (fun hs=>if meets hs ts then none else some hs) where
 row e l v m h _:=by
  unfold M.kill;split;exact h.one;exact h
 good m h c hc:=h c (kJ ts m c hc).1
 rd hs hs' h hg:=by
  split at h;cases h;cases h;exact⟨hg,fun b d=>d⟩
 hdr _ _:=rfl
 bx t _ d:=⟨d,fun _ h=>h⟩
 ru _ _ h:=h
 mono _ h:=h
theorem Inv.kill(o:Inv w0 c0 U E a w G)(ts:List Nat):Inv w0 c0 U (E.kill ts) a w G:=by
 unfold Env.kill;split;exact o;exact o.map (Zu ts) o.colU (fun b=>⟨fun h=>h,fun _=>rfl,fun _=>rfl⟩)
theorem Sh.kJ{ts:List Nat}:∀(sh:Sh),∀c∈(sh.map (M.kill ts)).ar,c∈sh.ar/\c∉ts
 | .leaf,c,h=>by simp[Sh.map,Sh.ar]at h
 | .sl m,c,h=>Vg.kJ ts m c h
 | .pair a b,c,h=>by
   simp only[Sh.map,Sh.ar,l9]at h|-;rcases h with h|h;have:=Sh.kJ a c h;exact⟨.inl this.1,this.2⟩;have:=Sh.kJ b c h;exact⟨.inr this.1,this.2⟩
theorem SV.yU{ts:List Nat}:∀(s:SV),∀c∈(s.kill ts).sc,c∈s.sc/\c∉ts
 | .no,c,h| .ptr ..,c,h=>by simp[SV.kill,SV.mapM,SV.sc]at h
 | .d v,c,h=>Sh.kJ v.sh c h
 | .box t v,c,h=>Sh.kJ v.sh c h
 | .ept t e i o p τ,c,h=>by simp only[SV.kill,SV.mapM]at h;split at h<;>simp[SV.sc]at h
 | .rdp hs v,c,h=>by
   simp only[SV.kill,SV.mapM]at h;by_cases hm:meets hs ts=true;simp[hm,SV.sc]at h;simp only[hm,acN,if_false,SV.sc,l9]at h;rcases h with h|h;exact⟨by simp[SV.sc,h],pZ (by simpa using hm) c h⟩;have:=Sh.kJ v.sh c h;exact⟨by simp[SV.sc,this.1],this.2⟩
 | .tup l,c,h=>by
   simp only[SV.kill,SV.mapM,SV.sc,ada,J8]at h;obtain⟨v,q,hc⟩:=h;have:=Sh.kJ v.sh c hc;exact⟨J8.2 ⟨v,q,this.1⟩,this.2⟩
 | .g j w' true v,c,h=>by
   have:=SV.yU (ts:=ts) v c (by simpa[SV.kill,SV.mapM,SV.sc]using h);simpa[SV.sc]using this
 | .g j w' false v,c,h=>by simp[SV.kill,SV.mapM,SV.sc]at h
theorem Env.Al(E:Env)(ts:List Nat)(s:Nat):(E.kill ts).s.getD s .no=if ts.isEmpty then E.s.getD s .no else(E.s.getD s .no).kill ts:=by
 unfold Env.kill;split;rfl;exact getD_map (T:=SV.kill ts) rfl s
theorem Env.yU(E:Env)(ts:List Nat)(s:Nat):∀c∈((E.kill ts).s.getD s .no).sc,c∈(E.s.getD s .no).sc/\c∉ts:=by
 intro c hc;rw[Env.Al]at hc;split at hc;rename_i he;have:ts=[]:=by simpa using he
 subst this;exact⟨hc,by simp⟩;exact SV.yU _ c hc
def Gh.aO(G:Gh)(ts:List Nat)(t:Nat)(v:Value):Gh:=
 ⟨fun b=>if G.col b∈ts then t else G.col b,fun u=>if u=t then v else G.hdr u,fun u=>if u=t then false else G.bx u⟩
theorem yt{ts:List Nat}{t c:Nat}{hs:List Nat}(h:c∈hs):(if c∈ts then t else c)∈ub ts t hs:=by
 unfold ub;rw[acx,List.mem_map];exact⟨c,h,by simp⟩
theorem Q5{ts:List Nat}{t c:Nat}{hs:List Nat}(h:c∈ub ts t hs):c=t\/(c∈hs/\c∉ts):=by
 unfold ub at h;rw[acx,List.mem_map]at h;obtain⟨d,b,rfl⟩:=h;by_cases e:d∈ts;left;simp[e];right;simp[e,b]
theorem La{ts:List Nat}{t:Nat}{hs:List Nat}(h:ub ts t hs=[]):hs=[]:=by
 cases hs with
 |nil=>rfl
 |cons c l=>
  have:=yt (ts:=ts) (t:=t) (List.mem_cons_self (a:=c) (l:=l));rw[h]at this;simp at this
theorem Lx{ts:List Nat}{t:Nat}{v:Value}(h3:4<=t)(D:∀c∈ts,4<=c/\Good U G c)(z:U t->v=G.hdr t/\G.bx t=false):
 xI w U G (fun u=>U u\/u=t) (G.aO ts t v) (M.aO ts t) (!ts.contains ·) (fun hs=>some (if meets hs ts then ub ts t hs else hs)):=by
 have d:∀c,Good U G c->Good (fun u=>U u\/u=t) (G.aO ts t v) c:=by
  rintro c ⟨h1,h2,h4⟩;refine⟨h1,.inl h2,?_⟩;simp only[Gh.aO];split;rfl;exact h4
 have j:∀c hs,(∀c∈hs,Good U G c)->c∈ub ts t hs->Good (fun u=>U u\/u=t) (G.aO ts t v) c:=by
  intro c hs q hc;rcases Q5 hc with rfl|⟨hc,_⟩;exact⟨by omega,.inr rfl,by simp[Gh.aO]⟩;exact d c (q c hc)
 have n:∀b hs,G.col b∈hs->(G.aO ts t v).col b∈ub ts t hs:=fun b hs h=>yt h
 have r:∀b hs,meets hs ts=false->G.col b∈hs->(G.aO ts t v).col b=G.col b:=fun b hs hm k=>by
  have:=pZ hm _ k;simp[Gh.aO,this]
 refine⟨fun e l u m h q=> ?_,fun m q c hc=> ?_,fun hs hs' h q=> ?_,fun u hu=> ?_,fun u hu k=> ?_,fun u hu k=> ?_,fun u hu=> .inl hu⟩;unfold M.aO;cases hm:meets m.ar ts with
 |false=>
  simp only[acN,if_false];refine bV.agree (w:=w) (G:=G) ⟨fun _ _=>rfl,fun b k=>r b _ hm k,fun c hc=> ?_⟩ h;simp only[Gh.aO];split;rename_i e;subst e;exact(z (q _ hc).2.1).1;rfl
 |true=>
  simp only[if_true];cases m with
  |row Q hs R=>
   simp only[M.u4];split;rename_i s;obtain⟨B,y,hc⟩:=h.rep (by simp);exact⟨⟨B,y,fun b k=>n b _ (hc b k)⟩,fun e=>absurd (La e) (by simp)⟩;rename_i s;simp only[acf,b_]at s;obtain⟨g1,g2,B,y,hc⟩:=h;refine⟨g1,?_,B,y,fun b H he=> ?_⟩;simp only[Gh.aO];split;rename_i e;subst e;rw[<-g2];exact(z (q _ (by simp[M.ar])).2.1).1;exact g2;obtain⟨J,K,L,N⟩:=hc b H he;exact⟨by simp only[Gh.aO,J];simp[s],K,fun x I=>n x _ (L x I),N⟩
  |sha hs=>
   obtain⟨⟨B,y,hc⟩,O⟩:=h;exact⟨⟨B,y,fun b k=>n b _ (hc b k)⟩,fun e=>O (La e)⟩
  |nst b E i o p fr=>
   obtain⟨B,y,hc⟩:=h.rep (by simp);exact⟨⟨B,y,fun b k=>n b _ (hc b k)⟩,fun e=>absurd (La e) (by simp)⟩
  |dead=>exact h
 unfold M.aO at hc;split at hc;cases m with
 |row Q hs R=>
  simp only[M.u4]at hc;split at hc;exact j c _ q hc;rename_i s;simp only[M.ar,v7]at hc;rcases hc with rfl|hc;exact d c (q c (by simp[M.ar]));exact j c hs (fun c hc=>q c (by simp[M.ar,hc])) hc
 |sha hs=>exact j c hs q hc
 |nst b E i o p fr=>exact j c [b] q hc
 |dead=>simp[M.u4,M.ar]at hc
 exact d c (q c hc);simp only[aae]at h;subst h;split;exact⟨fun c hc=>j c hs q hc,fun b k=>n b hs k⟩;rename_i hm;exact⟨fun c hc=>d c (q c hc),fun b k=>by rw[r b hs (by simpa using hm) k];exact k⟩;simp only[Gh.aO];split;rename_i e;subst e;exact(z hu).1;rfl
 have F:u≠t:=by
  rintro rfl;rw[(z hu).2]at k;cases k
 refine⟨by simp[Gh.aO,F,k],fun b A=> ?_⟩;have:u∉ts:=fun h=>by rw[(D u h).2.2.2]at k;cases k
 simp[Gh.aO,A,this];simp only[Gh.aO];split;rfl;exact k
theorem Inv.aO(q:Inv w0 c0 U E a w G){ts:List Nat}{t:Nat}{v:Value}(D:4<=t)(y:∀c∈ts,4<=c/\Good U G c)(B:U t->v=G.hdr t/\G.bx t=false):
 Inv w0 c0 (fun u=>U u\/u=t) (E.aO ts t) a w (G.aO ts t v):=by
 have z:∀b,0<(G.aO ts t v).col b->(U ((G.aO ts t v).col b)\/(G.aO ts t v).col b=t):=by
  intro b p;simp only[Gh.aO]at p|-;split;exact .inr rfl;rename_i h;rw[a_ h]at p;exact .inl (q.colU b p)
 have A:∀b,(0<(G.aO ts t v).col b->0<G.col b)/\(G.col b<4->(G.aO ts t v).col b=G.col b)/\((G.aO ts t v).col b<4->(G.aO ts t v).col b=G.col b):=by
  intro b;simp only[Gh.aO];by_cases h:G.col b∈ts;have:=(y _ h).1;simp only[h,if_true];omega;simp[h]
 unfold Env.aO;split;rename_i he;have:ts=[]:=by simpa using he
 subst this;have o:=q.map (f:=M.aO [] t) (Lx (w:=w) (v:=v) D y B) z A;refine {q.mono (U':=fun u=>U u\/u=t) (fun c h=> .inl h)with slots:=fun s=> ?_,sc:=fun s c hc=> ?_,bt:=fun s c hc=> ?_,rt:=fun s c hc=> ?_,colU:=z,fresh:=o.fresh,lt:=o.lt,frame:=o.frame,one:=o.one,two:=o.two,hk:=o.hk};refine ck.agree (w:=w) (G:=G) ⟨fun _ _=>rfl,fun b p=>by simp[Gh.aO],fun u hu=> ?_⟩ (q.slots s)
 have H:U u:=by
  simp only[l9]at hu;rcases hu with(hu|hu)|hu;exact(q.sc s u hu).2.1;exact(q.bt s u hu).2.1;exact(q.rt s u hu).2.1
 simp only[Gh.aO];split;rename_i e;subst e;exact(B H).1;rfl;have:=q.sc s c hc;refine⟨this.1,.inl this.2.1,?_⟩;simp only[Gh.aO];split;rfl;exact this.2.2;have p:=q.bt s c hc;refine⟨p.1,.inl p.2.1,?_⟩;simp only[Gh.aO];split;rename_i e;subst e;have h:=(B p.2.1).2;rw[h]at p;cases p.2.2;exact p.2.2;have:=q.rt s c hc;refine⟨this.1,.inl this.2.1,?_⟩;simp only[Gh.aO];split;rfl;exact this.2.2;exact q.map (Lx D y B) z A
theorem Inv.change(o:Inv w0 c0 U E a w G){ts:List Nat}{U':Nat->Prop}{w':World}{G':Gh}
 (hs:∀s,∀c∈(E.s.getD s .no).hc,c∉ts)
 (z:∀b,0<G.col b->G.col b∉ts->w'.heap[b]?=w.heap[b]?/\G'.col b=G.col b)
 (p:∀t,U t->G'.hdr t=G.hdr t/\G'.bx t=G.bx t) (y:∀c,U c->U' c)
 (A:∀b,0<G'.col b->U' (G'.col b)) (lt:∀b,0<G'.col b->b<w'.heap.size)
 (fresh:∀b,4<=G'.col b->∃c el,w'.heap[b]?=some (.cells c el (0,0)))
 (frame:∀b,b<w0.heap.size->c0.col b<4->G'.col b=c0.col b/\w'.heap[b]?=w0.heap[b]?)
 (one:∀b,G'.col b=1\/G'.col b=3->G.col b=G'.col b) (size:w.heap.size<=w'.heap.size)
 (os:w'.os=w.os) (tape:w'.tape=w.tape) (output:w'.output=w.output):Inv w0 c0 U' E a w' G':=by
 have D:∀s u,u∈(E.s.getD s .no).sc++(E.s.getD s .no).bt++(E.s.getD s .no).rt->U u:=by
  intro s u hu;simp only[l9]at hu;rcases hu with(hu|hu)|hu;exact(o.sc s u hu).2.1;exact(o.bt s u hu).2.1;exact(o.rt s u hu).2.1
 refine⟨o.len,fun s=> ?_,fun s c hc=> ?_,fun s c hc=> ?_,fun s c hc=> ?_,o.uni,A,lt,fresh,frame,fun b q=>by have h:=o.one b (by rw[one b q];exact q);rw[one b q]at h;exact h,Nat.le_trans o.size size,os.trans o.os,tape.trans o.tape,output.trans o.output,o.defers,⟨⟨y _ o.two.1.1,by rw[(p 2 o.two.1.1).2];exact o.two.1.2⟩,y _ o.two.2.1,by rw[(p 3 o.two.2.1).2];exact o.two.2.2⟩,fun B t v e=>⟨y _ (o.hk B t v e).1,(p t (o.hk B t v e).1).1.trans (o.hk B t v e).2⟩⟩;refine ck.agree (w:=w) (G:=G) ⟨fun b q=> ?_,fun b q=> ?_,fun u hu=>(p u (D s u hu)).1⟩ (o.slots s);have:0<G.col b:=by rcases SV.C5 _ _ q with q|q;exact(o.sc s _ q).1;exact(o.bt s _ q).1
 exact(z b this (hs s _ q)).1;have:0<G.col b:=by rcases SV.C5 _ _ q with q|q;exact(o.sc s _ q).1;exact(o.bt s _ q).1
 exact(z b this (hs s _ q)).2;have:=o.sc s c hc;exact⟨this.1,y _ this.2.1,by rw[(p c this.2.1).2];exact this.2.2⟩;have:=o.bt s c hc;exact⟨this.1,y _ this.2.1,by rw[(p c this.2.1).2];exact this.2.2⟩;have:=o.rt s c hc;exact⟨this.1,y _ this.2.1,by rw[(p c this.2.1).2];exact this.2.2⟩
end
section
variable{P:Program}{C:Cx}{w0:World}{c0:C0}{U:Nat->Prop}{E:Env}{a:Act}{w:World}{G:Gh}{ops:List Oper}{g:Option (Nat×Bool)}
def Ld(w:World)(v:Value)(n sz:Nat)(cs:List Value):Prop:=
 cs.length=n*sz/\∃(b:Option Addr) (cap:Nat),v= .slice b n cap/\n<=cap/\(b=none->n=0/\cap=0)/\∀a,b=some a->∀(j:Nat) (u:Value),cs[j]?=some u->w.cell? (a.add j)=some u
theorem di.cells{e:Ty}{l:List e.den}{v:Value}{B:List Nat}(h:di w e.sz (aK w e) l v B):
 ∃cs,Ld w v l.length e.sz cs/\aN (aK w e) l cs (B.drop 1)/\
  (∀p n cap,v= .slice (some p) n cap->0<cap->∃b off,p=⟨b,off,none⟩/\B=b::B.drop 1/\n=l.length/\∃c el q,w.heap[b]?=some (.cells c el q)/\off+cap*e.sz<=c.size/\cs=(c.toList.drop off).take (l.length*e.sz)):=by
 rcases h with⟨⟨J,rfl⟩,rfl,rfl⟩|⟨b,off,cap,c,el,q,Bs,A,o,D,z,rfl,H⟩;exact⟨[],⟨by simp,J,0,rfl,J2 _,fun _=>⟨rfl,rfl⟩,fun a _ j u y=>by simp at y⟩,⟨rfl,rfl⟩,fun p n cap h hc=>by cases h;omega⟩;refine⟨_,⟨aN.len (sz:=e.sz) (fun x c B h=>aK.len h) H,some ⟨b,off,none⟩,cap,A,o,by simp,fun a I j u y=> ?_⟩,H,fun p n' cap' h _=> ?_⟩;cases I;rw[Addr.add_lit,oD D];exact L7 y;rw[A]at h;cases h;exact⟨b,off,rfl,rfl,rfl,c,el,q,D,z,rfl⟩
theorem aN.UY{e:Ty}{l:List e.den}{cs:List Value}{B:List Nat}(h:aN (aK w e) l cs B):∀v∈cs,v.oneCell'=true:=by
 induction l generalizing cs B with
 |nil=>rw[h.1];simp
 |cons x l u=>
  obtain⟨c1,c2,B1,B2,rfl,rfl,p,q⟩:=h;intro v o;rcases l9.1 o with o|o;exact aK.one p v o;exact u q v o
theorem Ss{t ty:TypeId}{el:TypeId}{e:Ty}(hu:P.underlying t=some (.slice el))(hT:gA P el e){y R:Value}{n m:Nat}{xs ys:List Value}
 (hx:Ld w y n e.sz xs) (hy:Ld w R m e.sz ys) (h1:∀u∈ys,u.oneCell'=true) (hb:n+m<4294967296)
 (T:∀F k cap,y= .slice (some F) k cap->0<cap->∃b off,F=⟨b,off,none⟩/\∃c H,w.heap[b]?=some (.cells c H (0,0))/\off+cap*e.sz<=c.size):
 (m=0/\(Builtin.append_ #[t,t] ty #[y,R]).run P w= .ok y w)\/
 (∃b off cap,y= .slice (some ⟨b,off,none⟩) n cap/\n+m<=cap/\0<cap/\(Builtin.append_ #[t,t] ty #[y,R]).run P w= .ok (.slice (some ⟨b,off,none⟩) (n+m) cap) (w.setCells b (off+n*e.sz) ys))\/
 (∃cap rest,n+m<=cap/\cap*e.sz<=(xs++ys++rest).length/\
  (Builtin.append_ #[t,t] ty #[y,R]).run P w= .ok (.slice (some ⟨w.heap.size,0,none⟩) (n+m) cap) (w.drew.alloc (.cells (xs++ys++rest).toArray el))):=by
 obtain⟨inf,d,L,l,Z,N,_⟩:=hT;have I:(cT e e.zero).cells.size=e.sz:=pL e.iW (wi e);obtain⟨z,O,h,rfl,Q,W,s⟩:=hx;obtain⟨p,A,i,rfl,hcy,X,v⟩:=hy;rcases Nat.eq_zero_or_pos m with rfl|hm;left;refine⟨rfl,?_⟩
 have Y:(Builtin.firstCells inf.size 0 (.slice A 0 i)).run P w= .ok #[] w:=by
  cases A with
  |none=>exact run_firstCells_none ..
  |some F=>exact run_firstCells_some (P:=P) w inf.size 0 F 0 i [] (by simp) (by simp)
 cases O with
 |none=>simp[Builtin.append_,run_underlying hu,Go.sizeOf,typeInfo,L,Builtin.lenOf,Y,Q]
 |some F=>simp[Builtin.append_,run_underlying hu,Go.sizeOf,typeInfo,L,Builtin.lenOf,Y,Q,storeCells]
 right;cases A with
 |none=>have:=(X rfl).1;omega
 |some x=>
  have o:=v x rfl;cases O with
  |none=>
   obtain⟨rfl,rfl⟩:=W rfl;right
   have D:=run_append_nil (P:=P) w t ty el inf _ hu L Z x m i ys (by rw[l];exact p) o hm (by omega) (by
    have:m*inf.bytes<=4294967296*32768:=Nat.mul_le_mul (by omega) N;omega)
   have J:=grownCap_ge w m 0 el;have V:xs=[]:=by simpa using z
   subst V;refine⟨grownCap w m 0 el,(Builtin.zeroCells (cT e e.zero).cells (grownCap w m 0 el-m)).toList,by omega,?_,?_⟩;simp only[aci,ace,acn,size_zeroCells,I,p,<-sw];exact J_ _ (by omega);rw[D];simp only[ac3,aci];congr 3;apply D';simp
  |some B=>
   have K:=s B rfl;rcases acH h (n+m)with hg|hg;right
   have D:=run_append_grow (P:=P) w t ty el inf _ hu L Z B n h xs (by rw[l];exact z) K
    x m i ys (by rw[l];exact p) o hg (by omega) (growslice_fits hg (by
    have:(n+m)*inf.bytes<=4294967296*32768:=Nat.mul_le_mul (by omega) N;omega))
   have J:=grownCap_ge w (n+m) h el;refine⟨grownCap w (n+m) h el,(Builtin.zeroCells (cT e e.zero).cells (grownCap w (n+m) h el-(n+m))).toList,J,?_,?_⟩;simp only[ace,acn,size_zeroCells,I,z,p,<-sw];exact J_ _ (by omega);rw[D];congr 3;apply D';simp;left;obtain⟨b,off,rfl,c,H,q,hsize⟩:=T B n h rfl (by omega)
   have r:∀j,j<ys.length->off+n*e.sz+j<c.size:=by
    intro j S;have:(n+m)*e.sz<=h*e.sz:=J_ _ hg;rw[sw]at this;omega
   have D:=run_append_room_cells (P:=P) w t ty el inf hu L b off n h x m i ys (by rw[l];exact p) o h1 hg
    (fun j S=>by rw[oD q,l];simp[r j S]) (fun j S=>rZ q _)
   rw[l]at D;exact⟨b,off,h,rfl,hg,by omega,D⟩
theorem aK.flat:∀ {τ:Ty} {x:τ.den} {cs:List Value} {B:List Nat},τ.flat=true->aK w τ x cs B->B=[]
 | .int _,_,_,_,_,h| .bool,_,_,_,_,h| .str,_,_,_,_,h=>h.2
 | .sl _,_,_,_,h,_=>by simp[Ty.flat]at h
 | .pair a b,p,cs,B,hf,h=>by
   obtain⟨c1,c2,B1,B2,rfl,rfl,o,q⟩:=h;simp only[Ty.flat,K_]at hf;rw[aK.flat hf.1 o,aK.flat hf.2 q];rfl
theorem aN.flat{e:Ty}(o:e.flat=true):∀ {l:List e.den} {cs:List Value} {B:List Nat},aN (aK w e) l cs B->B=[]
 | [],_,_,h=>h.2
 |x::l,cs,B,h=>by
  obtain⟨c1,c2,B1,B2,rfl,rfl,p,q⟩:=h;rw[aK.flat o p,aN.flat o q];rfl
theorem bV.abV{e:Ty}{l:List e.den}{v:Value}{m:M}(h:bV w G e l v m)(D:m≠ .dead):
 ∃B,di w e.sz (aK w e) l v B/\(∀b∈B,G.col b∈m.ar)/\∀b∈B.drop 1,G.col b∈rn m:=by
 cases m with
 |row t I nd=>
  obtain⟨_,_,B,u,hc⟩:=h;cases B with
  |nil=>exact⟨[],u,by simp,by simp⟩
  |cons x A=>
   obtain⟨H,_,z,_⟩:=hc x A rfl;refine⟨x::A,u,fun b q=> ?_,fun b q=>z b (by simpa using q)⟩;rcases v7.1 q with rfl|q;simp[M.ar,H];simp[M.ar,z b q]
 |sha I=>obtain⟨⟨B,u,hc⟩,_⟩:=h;exact⟨B,u,hc,fun b q=>hc b (abD q)⟩
 |nst b E i o p fr=>obtain⟨⟨B,u,hc⟩,_⟩:=h;exact⟨B,u,fun x y=>by simp[M.ar,hc x y],fun x y=>by simp[rn,hc x (abD y)]⟩
 |dead=>exact absurd rfl D
theorem U2{m:M}:∀c∈rn m,c∈m.ar:=by
 cases m<;>simp_all[rn,M.ar]
structure abT(G:Gh)(kl gv:List Nat)(tk:Nat)(mm:M)(Bx By:List Nat):Prop where
 hs:∃hs nd,mm= .row tk hs nd/\(∀b∈Bx.drop 1++By.drop 1,(if G.col b∈gv then tk else G.col b)∈hs)/\(nd=true->(Bx.drop 1++By.drop 1).Nodup)
 head:∀b Bs,Bx=b::Bs->G.col b∈kl/\G.col b∈gv/\b∉Bx.drop 1++By.drop 1
theorem Zb{e:Ty}{l l2:List e.den}{vx vy:Value}{m X mm:M}{tk:Nat}{kl gv:List Nat}(j:bV w G e l vx m)(W:bV w G e l2 vy X)(aB:X≠ .dead)
 (O:∀c∈m.ar,Good U G c) (L:∀c∈X.ar,Good U G c) (h:Yw tk e.flat m X=some (kl,gv,mm)):
 (∀c∈kl,4<=c/\Good U G c)/\(∀c∈gv,4<=c/\Good U G c)/\(∀c∈mm.ar,Good U G c\/c=tk)/\
  ∃D T,di w e.sz (aK w e) l vx D/\di w e.sz (aK w e) l2 vy T/\abT G kl gv tk mm D T:=by
 obtain⟨T,J,b0,Z⟩:=W.abV aB
 have H:∀ {l:List e.den} {v:Value} {B:List Nat},e.flat=true->di w e.sz (aK w e) l v B->B.drop 1=[]:=by
  intro l v B hf h;obtain⟨cs,_,h2,_⟩:=h.cells;exact aN.flat hf h2
 unfold Yw at h;split at h;rename_i t hs nd;obtain⟨s,b3,D,k,q⟩:=j;have I:=O t (by simp[M.ar]);split at h;rename_i hf;cases h;have e1:=H hf k;have Y:=H hf J;refine⟨by simp[s,I],by simp[s,I],by simp[M.ar],D,T,k,J,⟨⟨[],true,rfl,by simp[e1,Y],by simp[e1,Y]⟩,fun b n r=> ?_⟩⟩;have:=(q b n r).1;exact⟨by simp[this],by simp[this],by simp[e1,Y]⟩;split at h;rename_i F;cases X with
 |row u K a8=>
  simp only[M.same,b_]at F;subst F;cases h;have ba:=b3;obtain⟨_,b4,a6,ad,ao⟩:=W;have bb:vx=vy:=ba.symm.trans b4;subst bb;refine⟨by simp[s,I],by simp[s,I],fun c hc=> ?_,D,a6,k,ad,⟨⟨_,false,rfl,fun x j=> ?_,by simp⟩,fun x n j=> ?_⟩⟩;simp only[M.ar,v7]at hc;rcases hc with rfl|hc;exact .inr rfl;rcases Q5 hc with rfl|⟨hc,_⟩;exact .inr rfl;left;rcases l9.1 hc with hc|hc;exact O c (by simp[M.ar,hc]);exact L c (by simp only[rn]at hc;simp[M.ar,hc]);refine yt (ts:=[u]) ?_;rcases l9.1 j with j|j;cases D with
  |nil=>simp at j
  |cons y n=>exact abC _ ((q y n rfl).2.2.1 x (by simpa using j))
  cases a6 with
  |nil=>simp at j
  |cons y n=>exact abI _ ((ao y n rfl).2.2.1 x (by simpa using j))
  obtain⟨Q,k2,k3,k4⟩:=q x n j;refine⟨by simp[Q],by simp[Q],fun d=> ?_⟩;rcases l9.1 d with d|d;rw[j]at d;exact k2 (by simpa using d);cases a6 with
  |nil=>simp at d
  |cons y b6=>
   have bk:y=x:=by
    subst j;rcases k with⟨_,_,e0⟩|⟨b1,o1,c1,_,_,_,_,e1,_,_,_,Y,_⟩;cases e0;rcases ad with⟨_,_,e0⟩|⟨b2,o2,c2,_,_,_,_,e3,_,_,_,e4,_⟩;cases e0;rw[e1]at e3;simp only[Value.slice.injEq,aae,Addr.mk.injEq]at e3;cases Y;cases e4;exact e3.1.1.symm
   subst bk;exact(ao y b6 rfl).2.1 (by simpa using d)
 |_=>simp[M.same]at F
 split at h;cases h;rename_i hnf av;simp only[acf,b_]at av
 have bl:∀b n,D=b::n->b∉T:=by
  intro b n r d;have h1:=b0 b d;rw[(q b n r).1]at h1;exact av h1
 split at h;rename_i a b ha r;split at h;rename_i V;cases h;obtain⟨b5,h3,R⟩:=M.jM ha
 have bs:∀c∈b,c∉a:=by
  simp only[acu,acr,acf,d_]at V;exact V
 obtain⟨S,N,a7,A⟩:=W.own r
 have a1:∀c∈b,4<=c:=by
  intro c hc;cases X with
  |row t' K a8=>
   obtain⟨_,g3,gm⟩:=M.jM r;rcases(gm c).1 hc with rfl|hc;exact W.1;exact g3 c hc
  |sha K=>cases K with
   |nil=>simp only[M.own,aae]at r;subst r;simp at hc
   |cons=>simp[M.own]at r
  |nst b E i o p fr=>simp[M.own]at r
  |dead=>exact absurd rfl aB
 have bx:∀c∈a,4<=c:=fun c hc=>by rcases(R c).1 hc with rfl|hc;exact s;exact h3 c hc
 refine⟨by simp[s,I],fun c hc=> ?_,by simp[M.ar],D,S,k,N,⟨⟨[tk],true,rfl,fun x j=> ?_,fun _=> ?_⟩,fun x n j=> ?_⟩⟩;rcases l9.1 hc with hc|hc;exact⟨bx c hc,O c (M.iv ha c hc)⟩;exact⟨a1 c hc,L c (M.iv r c hc)⟩
 have:G.col x∈a++b:=by
  rcases l9.1 j with j|j;cases D with
  |nil=>simp at j
  |cons y n=>
   refine abC _ ((R _).2 (.inr ?_));exact(q y n rfl).2.2.1 x (by simpa using j)
  exact abI _ (A x (abD j))
 simp only[an this];simp;refine acA.2 ⟨?_,a7.sublist (ac8 ..),?_⟩;cases D with
 |nil=>simp
 |cons y n=>exact(q y n rfl).2.2.2 b5
 intro x j y W e;subst e;refine bs _ (A x (abD W)) ?_;cases D with
 |nil=>simp at j
 |cons z n=>exact(R _).2 (.inr ((q z n rfl).2.2.1 x (by simpa using j)))
 obtain⟨Q,k2,k3,k4⟩:=q x n j;refine⟨by simp[Q],?_,?_⟩;rw[Q];exact abC _ ((R t).2 (.inl rfl));intro d;rcases l9.1 d with d|d;rw[j]at d;exact k2 (by simpa using d);have h1:=M.iv r _ (A x (abD d));rw[Q]at h1;exact av h1;cases h;cases h;refine⟨by simp[s,I],by simp[s,I],fun c hc=> ?_,D,T,k,J,⟨⟨_,false,rfl,fun x j=> ?_,by simp⟩,fun x n j=> ?_⟩⟩;simp only[M.ar,v7]at hc;rcases hc with rfl|hc;exact .inr rfl;rcases Q5 hc with rfl|⟨hc,_⟩;exact .inr rfl;left;rcases l9.1 hc with hc|hc;exact O c (by simp[M.ar,hc]);refine L c ?_;cases X<;>simp_all[rn,M.ar];refine yt (ts:=[t]) ?_;rcases l9.1 j with j|j;cases D with
 |nil=>simp at j
 |cons y n=>exact abC _ ((q y n rfl).2.2.1 x (by simpa using j))
 refine abI _ ?_;exact Z x j;obtain⟨Q,k2,k3,k4⟩:=q x n j;refine⟨by simp[Q],by simp[Q],fun d=> ?_⟩;rcases l9.1 d with d|d;rw[j]at d;exact k2 (by simpa using d);exact bl x n j (abD d)
 have k:∃D,di w e.sz (aK w e) l vx D/\D=[]:=by
  obtain⟨⟨B,hB,hc⟩,_⟩:=j;refine⟨B,hB,?_⟩;cases B with
  |nil=>rfl
  |cons x l=>exact absurd (hc x (by simp)) (by simp)
 obtain⟨_,k,rfl⟩:=k;split at h;rename_i hf;cases h;have Y:=H hf J;exact⟨by simp,by simp,by simp[M.ar],[],T,k,J,⟨⟨[],true,rfl,by simp[Y],by simp[Y]⟩,by simp⟩⟩;split at h;rename_i b r;cases h;obtain⟨S,N,a7,A⟩:=W.own r
 have a1:∀c∈gv,4<=c:=by
  intro c hc;cases X with
  |row t' K a8=>
   obtain⟨_,g3,gm⟩:=M.jM r;rcases(gm c).1 hc with rfl|hc;exact W.1;exact g3 c hc
  |sha K=>cases K with
   |nil=>simp only[M.own,aae]at r;subst r;simp at hc
   |cons=>simp[M.own]at r
  |nst b E i o p fr=>simp[M.own]at r
  |dead=>exact absurd rfl aB
 refine⟨by simp,fun c hc=>⟨a1 c hc,L c (M.iv r c hc)⟩,by simp[M.ar],[],S,k,N,⟨⟨[tk],true,rfl,fun x j=> ?_,fun _=> ?_⟩,by simp⟩⟩;have:=A x (abD (i:=1) (by simpa only[List.drop_nil,aci]using j));simp[this];simpa only[List.drop_nil,aci]using a7.sublist (ac8 1 S);cases h;refine⟨by simp,by simp,fun c hc=> ?_,[],T,k,J,⟨⟨_,false,rfl,fun x j=> ?_,by simp⟩,by simp⟩⟩;simp only[M.ar,v7]at hc;rcases hc with rfl|hc;exact .inr rfl;exact .inl (L c (U2 c hc));simpa using Z x (by simpa using j);cases h
theorem di.bounds{e:Ty}{l:List e.den}{v:Value}{B:List Nat}(h:di w e.sz (aK w e) l v B):∀b∈B,b<w.heap.size:=
 aK.bounds (τ:= .sl e) ⟨v,rfl,h⟩
theorem aN.world{e:Ty}{w':World}{l:List e.den}{cs:List Value}{B:List Nat}(q:∀b∈B,w'.heap[b]?=w.heap[b]?)(h:aN (aK w e) l cs B):aN (aK w' e) l cs B:=
 aN.mono (fun b=>w'.heap[b]?=w.heap[b]?) (fun _ _ _ o p=>aK.mono o p) q h
theorem S6(i:Inv w0 c0 U E a w G){d:List Nat}(e:∀c∈d,4<=c/\Good U G c):∀s,∀c∈((E.kill d).s.getD s .no).hc,c∉d:=by
 intro s c hc b;rcases SV.C5 _ _ hc with hc|hc;exact(Env.yU E d s c hc).2 b;have h:=(i.kill d).bt s c hc;rw[(e c b).2.2.2]at h;exact absurd h.2.2 (by simp)
theorem abc(hC:CxTy P C)(R:Inv w0 c0 U E a w G)(hR:RI ops E a.tmps)(hg:Gd ops a.tmps g){tk:Nat}(h3:4<=tk)(hU:¬U tk){o:Oper}{c:Call}
 {cd:Bool} {kl gv:List Nat} {t:Nat} {v:SV} (ho:o.op= .call c) (hb:c.callee= .builtin .append) (h:bj C ops E.rd tk g o=some (.app cd kl gv t v)) (b3:cd=true):
 t=tk/\Yields w0 c0 (fun u=>U u\/u=tk) ((E.kill kl).aO gv t) a ((execOp a.eval o).run P w) v:=by
 simp only[bj,ho,hb]at h;unfold n9 at h;split at h;contradiction;contradiction;contradiction;rename_i x y t1 u1 _ ha cf;have ao:c.args= #[x,y]:=D' (by simpa using ha);have b4:c.argTypes= #[t1,u1]:=D' (by simpa using cf);split at h;rename_i ti e l m e' l' m' cg hx hy;split at h;rename_i F X;have J:=dv X;simp only[TV.mk.injEq]at J;obtain⟨he,hl,_⟩:=J;cases he;cases hl;split at h;rename_i Y b2 mm hm;split at h;rename_i H;simp only[K_,b_]at H;obtain⟨hτ,rfl⟩:=H;simp only[aae,Ef.app.injEq]at h;obtain⟨b7,rfl,rfl,rfl,rfl⟩:=h;refine⟨rfl,?_⟩;rw[<-b7]at b3;have hlen:l.length+F.length<4294967296:=e_ b3;have hT:=(hC.tt _ ti cg).2;rw[hτ]at hT;obtain⟨hu,cp⟩:=hT;obtain⟨mx,ct,cv,hdx,cy⟩:=jJ R hR hg hx;cases ct;obtain⟨my,cz,cL,cO,c1⟩:=jJ R hR hg hy;cases cz;obtain⟨a6,a7,c2,Bx,By,a8,b8,⟨⟨hs,nd,rfl,ba,bb⟩,A⟩⟩:=Zb cv cL cO cy c1 hm
 have K:∀ {v':Value} {w':World},((Builtin.append_ #[u1,u1] o.type #[a.eval x,a.eval y]).run P w= .ok v' w')->(execOp a.eval o).run P w= .ok (.value v') w':=by
  intro v' w' Z;simp only[execOp,ho];simp[resolve,hb,invoke,builtin,ao,b4,Z]
 obtain⟨xs,bk,b9,ca⟩:=a8.cells;obtain⟨O,bl,bs,_⟩:=b8.cells
 have r:∀(G1:Gh) (mv:Value),(∀c,U c->G.bx c=false->G1.bx c=false)->∀c∈(M.row tk hs nd).ar,Good (fun u=>U u\/u=tk) (G1.aO b2 tk mv) c:=by
  intro G1 mv h1 c hc;rcases c2 c hc with⟨S,T,D⟩|rfl;refine⟨S,.inl T,?_⟩;simp only[Gh.aO];split;rfl;exact h1 c T D;exact⟨by omega,.inr rfl,by simp[Gh.aO]⟩
 have L:=R.kill Y
 have b5:∀ad k cap,a.eval x= .slice (some ad) k cap->0<cap->∃b off,ad=⟨b,off,none⟩/\∃c I,w.heap[b]?=some (.cells c I (0,0))/\off+cap*e.sz<=c.size:=by
  intro ad k cap hv Q;obtain⟨b,off,N,hB,_,c,I,fz,hh,V,_⟩:=ca ad k cap hv Q;obtain⟨S,T,_⟩:=A b _ hB;obtain⟨c',c3,hf⟩:=R.fresh b (a6 _ S).1;rw[hf]at hh;cases hh;exact⟨b,off,N,_,_,hf,V⟩
 have j:∀z∈Bx.drop 1,z<w.heap.size:=fun z i=>a8.bounds z (abD i);have n:∀z∈By.drop 1,z<w.heap.size:=fun z i=>b8.bounds z (abD i);rcases Ss (ty:=o.type) hu cp bk bl (aN.UY bs) hlen b5 with⟨c4,Z⟩|⟨b,off,cap,hv,B,Q,Z⟩|⟨cap,rest,B,V,Z⟩
 have X:F=[]:=List.length_eq_zero_iff.1 c4;subst X;refine⟨_,_,_,K Z,L.aO (v:=a.eval x) h3 a7 (fun h=>absurd h hU),⟨[a.eval x],rfl,_,rfl,h3,by simp[Gh.aO],Bx,?_,?_⟩,bg.d (r G _ (fun _ _ h=>h)),by rintro _ _ ⟨⟩⟩;simpa using a8;intro b Bs hB;obtain⟨S,T,D⟩:=A b Bs hB;subst hB;simp only[List.drop_succ_cons,acY,l9,not_or]at D;refine⟨by simp[Gh.aO,T],D.1,fun z i=> ?_,fun hn=> ?_⟩;exact ba z (abC _ (by simpa using i));have:=(acA.1 (bb hn)).1;simpa using this
 obtain⟨b0,off0,N,c,I,hh,V⟩:=b5 _ _ cap hv Q;cases N;obtain⟨b1,off1,N,hB,_,c',c3,fz,cb,_,cc⟩:=ca _ _ cap hv Q;cases N;rw[hh]at cb;cases cb;obtain⟨S,T,D⟩:=A b _ hB;simp only[l9,not_or]at D;have av:=bl.1;have aB:=bk.1;have hmul:(l.length+F.length)*e.sz<=cap*e.sz:=J_ _ B;rw[sw]at hmul;have W:=gG b (el:=I) O (off+l.length*e.sz) w c hh (by omega)
 have a1:Inv w0 c0 U (E.kill Y) a (w.setCells b (off+l.length*e.sz) O) G:=by
  refine L.change (ts:=Y) (S6 R a6) (fun z _ i=>⟨bQ b _ _ w z (fun e=>i (e▸S)),rfl⟩) (fun _ _=>⟨rfl,rfl⟩) (fun _ h=>h) R.colU
   (fun z i=>by rw[fh];exact R.lt z i) (fun z i=> ?_) (fun z i hc=> ?_) (fun _ _=>rfl) (by rw[fh];exact J2 _)
   (cq b _ _ w).1 (cq b _ _ w).2.1 (cq b _ _ w).2.2
  by_cases e1:z=b;subst e1;exact⟨_,_,W⟩;rw[bQ b _ _ w z e1];exact R.fresh z i;have hf:=R.frame z i hc;refine⟨hf.1,?_⟩;rw[bQ b _ _ w z (fun e=> ?_)];exact hf.2;subst e;have:=(a6 _ S).1;omega
 refine⟨_,_,_,K Z,a1.aO (v:= .slice (some ⟨b,off,none⟩) (l.length+F.length) cap) h3 a7 (fun h=>absurd h hU),⟨[_],rfl,_,rfl,h3,by simp[Gh.aO],b::(Bx.drop 1++By.drop 1),?_,?_⟩,bg.d (r G _ (fun _ _ h=>h)),by rintro _ _ ⟨⟩⟩;refine .inr ⟨b,off,cap,_,I,(0,0),Bx.drop 1++By.drop 1,by simp,by simpa using B,W,?_,rfl,?_⟩;simp;omega
 have p:((c.toList.take (off+l.length*e.sz)++O++c.toList.drop (off+l.length*e.sz+O.length)).drop off).take ((l++F).length*e.sz)=xs++O:=by
  have htl:(c.toList.take (off+l.length*e.sz)).length=off+l.length*e.sz:=by simp;omega
  rw[acz,acp (by omega),acm,cc];rw[show off+l.length*e.sz-off=l.length*e.sz by omega];rw[<-acz]
  have s:(ac5 (l.length*e.sz) (List.drop off c.toList)++O).length=(l++F).length*e.sz:=by
   rw[ace,av,<-cc,aB,ace,sw]
  rw[<-s,adf]
 rw[p];refine aN.append (aN.world (fun z i=>bQ b _ _ w z (fun e=> ?_)) b9) (aN.world (fun z i=>bQ b _ _ w z (fun e=> ?_)) bs);subst e;exact D.1 i;subst e;exact D.2 i;rintro b' Bs ⟨⟩;refine⟨by simp[Gh.aO,T],fun q=>(l9.1 q).elim D.1 D.2,fun z i=>ba z i,fun hn=>bb hn⟩
 have ch:=(L.drawn (w.drawn+1)).alloc h3 hU (xs++O++rest).toArray ti.el (.slice (some ⟨w.heap.size,0,none⟩) (l.length+F.length) cap) false;have a1:=ch.aO (ts:=b2) (t:=tk) (v:= .slice (some ⟨w.heap.size,0,none⟩) (l.length+F.length) cap) h3 (fun c hc=> ?_) (fun _=>⟨by simp[Gh.add],by simp[Gh.add]⟩)
 have b6:∀z,z<w.heap.size->(G.add w.heap.size tk (.slice (some ⟨w.heap.size,0,none⟩) (l.length+F.length) cap) false).col z=G.col z:=fun z i=>by
  simp[Gh.add,acR i]
 refine⟨_,_,_,K Z,a1.mono (fun c hc=>by rcases hc with hc|hc;exact hc;exact .inr hc),⟨[_],rfl,_,rfl,h3,by simp[Gh.aO],w.heap.size::(Bx.drop 1++By.drop 1),?_,?_⟩,
  bg.d (r _ _ (fun c hc h=>by
   have:c≠tk:=fun e=>hU (e▸hc);simp[Gh.add,this,h])),by rintro _ _ ⟨⟩⟩
 refine .inr ⟨w.heap.size,0,cap,_,ti.el,(0,0),Bx.drop 1++By.drop 1,by simp,by simpa using B,heap_alloc_new _ _,by simpa using V,rfl,?_⟩;have aB:=bk.1;have av:=bl.1
 have p:(((xs++O++rest).toArray.toList.drop 0).take ((l++F).length*e.sz))=xs++O:=by
  have s:(xs++O).length=(l++F).length*e.sz:=by rw[ace,av,aB,ace,sw]
  simp only[acY];rw[<-s,adf]
 rw[p];exact aN.append (aN.world (w:=w) (fun z i=>heap_alloc_old w.drew _ z (j z i)) b9) (aN.world (w:=w) (fun z i=>heap_alloc_old w.drew _ z (n z i)) bs);rintro b' Bs ⟨⟩;refine⟨?_,?_,fun z i=> ?_,fun hn=>bb hn⟩;simp[Gh.aO,Gh.add];intro q;rcases l9.1 q with q|q;exact Nat.lt_irrefl _ (j _ q);exact Nat.lt_irrefl _ (n _ q)
 have cl:z<w.heap.size:=by
  rcases l9.1 i with i|i;exact j _ i;exact n _ i
 have:=ba z i;simp only[Gh.aO];have hd:(World.heap {w with drawn:=w.drawn+1}).size=w.heap.size:=rfl;rw[hd,b6 z cl];exact this;obtain⟨S,T,D,k5⟩:=a7 c hc;have:c≠tk:=fun e=>hU (e▸D);exact⟨S,T,.inl D,by simp[Gh.add,this,k5]⟩;cases h;cases h;cases h;cases h;cases h
theorem Inv.Xs(h:Inv w0 c0 U E a w G)(d:Nat){sv:SV}(hs:ck w G sv (a.tmps.getD d undef))(hm:bg U G sv)
 (p:∀t u,sv= .box t u->∀s q,s≠d->E.s.getD s .no≠ .box t q):Inv w0 c0 U {E with s:=E.s.set d sv} a w G:=by
 have o:∀s,({E with s:=E.s.set d sv}:Env).s.getD s .no=if s=d/\d<E.s.length then sv else E.s.getD s .no:=fun s=>dF E.s d s sv
 refine {h with len:=by simpa using h.len,slots:=fun s=> ?_,sc:=fun s c hc=> ?_,bt:=fun s c hc=> ?_,rt:=fun s c hc=> ?_,uni:=fun s z t u q v y=> ?_};rw[o];split;rename_i e;rw[e.1];exact hs;exact h.slots s;rw[o]at hc;split at hc;exact hm.1 c hc;exact h.sc s c hc;rw[o]at hc;split at hc;exact hm.2.1 c hc;exact h.bt s c hc;rw[o]at hc;split at hc;exact hm.2.2 c hc;exact h.rt s c hc;rw[o]at v y;split at v<;>split at y;omega;rename_i A B;by_cases e:z=d;exact absurd ⟨e,A.2⟩ B;exact absurd y (p t u v z q e);rename_i A B;by_cases e:s=d;exact absurd ⟨e,B.2⟩ A;exact absurd v (p t q y s u e);exact h.uni s z t u q v y
theorem Inv.drop(h:Inv w0 c0 U E a w G)(d:Nat):Inv w0 c0 U {E with s:=E.s.set d .no} a w G:=
 h.Xs d (sv:= .no) trivial (by simp[bg,SV.sc,SV.bt,SV.rt]) (by rintro _ _ ⟨⟩)
theorem tF{t:TypeId}{τ:Ty}(h:gA P t τ){x:Value}{b o:Nat}{c:Array Value}{el:TypeId}{cs:List Value}
 (d:w.heap[b]?=some (.cells c el (0,0))) (hs:o+τ.sz<=c.size) (e:cs.length=τ.sz) (i:∀v∈cs,v.oneCell'=true) (j:x= .pointer (some ⟨b,o,none⟩)):
 (Instr.storeAt t x (cT τ cs)).run P w= .ok () (w.setCells b o cs):=by
 subst j;simp only[Instr.storeAt,Instr.sureAddr];simpa using O7 h d hs e i
theorem aaA(hC:CxTy P C)(m:Inv w0 c0 U E a w G)(hR:RI ops E a.tmps)(hg:Gd ops a.tmps g){tk:Nat}{o:Oper}{t:TypeId}{x y:Operand}
 {b s:Nat} {v:TV} (ho:o.op= .store t x y) (h:bj C ops E.rd tk g o=some (.put b s v)):
 ∃w',(execOp a.eval o).run P w= .ok .skip w'/\Inv w0 c0 U {E with s:=E.s.set s (.box b v)} a w' G:=by
 simp only[bj,ho]at h;split at h;rename_i ti D off p τ1 v1 T F hv;split at h;rename_i s1 u H;split at h;rename_i hc;simp only[K_,b_]at hc;rw[v8]at h;obtain⟨r,hr,h⟩:=h;simp only[Ef.put.injEq]at h;obtain⟨rfl,rfl,rfl⟩:=h;obtain⟨W,X⟩:=fK m hR hg F;obtain⟨bk,_,k2,k3⟩:=W;obtain⟨i,j,c,el,g1,g3,g4,g5,g6,g7⟩:=m.box H;rw[g1]at k2;simp only[Value.pointer.injEq,aae,Addr.mk.injEq,and_true]at k2;subst k2;obtain⟨⟨O,a6,B⟩,Q,hlive⟩:=jD m hR hg hv;obtain⟨q1,q2,q3⟩:=bh.put hr g6 B;have hlen:=bh.len g6;have J:=bh.len B;simp only[acn]at hlen;rw[hc.1]at q1 q2;have hT:=(hC.tt t ti T).1;have A:=gG j (el:=el) O off w c g5 (by omega);have K:=tF (P:=P) (t:=t) (τ:=ti.τ) hT g5 (o:=off) (cs:=O) (by rw[<-hc.2];omega) (by rw[J,hc.2]) (bh.one B) k3;have z:G.bx D=true:=((m.bt s1 D (by rw[i];simp[SV.bt])).2.2)
 refine⟨w.setCells j off O,?_,?_⟩;simp only[execOp,ho,a6,hc.2];simp[K];have Z:∀k,G.col k≠D->k≠j:=fun k l e=>l (e▸g4);have hD:=m.drop s1;have L:∀s,({E with s:=E.s.set s1 .no}:Env).s.getD s .no=if s=s1/\s1<E.s.length then .no else E.s.getD s .no:=fun s=>dF E.s s1 s .no
 have ad:∀s,∀c∈(({E with s:=E.s.set s1 .no}:Env).s.getD s .no).hc,c∉ [D]:=by
  intro s c q I;simp only[acd]at I;subst I
  have N:s1<E.s.length:=by
   rcases acH s1 E.s.length with h|h;exact h;rw[acj,acs h]at i;cases i
  rw[L]at q;split at q;simp[SV.hc,SV.sc]at q;rename_i V;have ao:s≠s1:=fun e=>V ⟨e,N⟩
  have av:∀sv:SV,(∀u,sv≠ .box c u)->(∀d∈sv.sc,G.bx d=false)->c∉sv.hc:=by
   intro sv W X S;cases sv with
   |box t v=>
    rcases v7.1 S with rfl|S;exact W v rfl;have:=X c S;rw[z]at this;cases this
   |_=>
    have:=X c S;rw[z]at this;cases this
  exact av _ (fun u' e=>ao (m.uni s s1 c u' _ e i)) (fun d n=>(m.sc s d n).2.2) q
 have aB:Inv w0 c0 U {E with s:=E.s.set s1 .no} a (w.setCells j off O) G:=by
  refine hD.change (ts:=[D]) ad (fun k _ l=>⟨bQ j _ _ w k (Z k (by simpa using l)),rfl⟩) (fun _ _=>⟨rfl,rfl⟩) (fun _ h=>h) m.colU
   (fun k l=>by rw[fh];exact m.lt k l) (fun k l=> ?_) (fun k l Y=> ?_) (fun _ _=>rfl) (by rw[fh];exact J2 _)
   (cq _ _ _ w).1 (cq _ _ _ w).2.1 (cq _ _ _ w).2.2
  by_cases e:k=j;subst e;exact⟨_,_,A⟩;rw[bQ j _ _ w k e];exact m.fresh k l;have hf:=m.frame k l Y;refine⟨hf.1,?_⟩;rw[bQ j _ _ w k (fun e=> ?_)];exact hf.2;subst e;omega
 have N:s1<E.s.length:=by
  rcases acH s1 E.s.length with h|h;exact h;rw[acj,acs h]at i;cases i
 have a1:=aB.Xs s1 (sv:= .box D ⟨u.τ,r.1,r.2⟩) ?_ ?_ ?_;simpa using a1;refine⟨j,_,el,?_,g3,?_,g4,A,?_⟩;have:=m.slots s1;rw[i]at this;obtain⟨a7,c2,a8,e1,e2,R,e4,e5,e6⟩:=this;rw[e1]at R;rw[g1]at R;rw[e1];exact R.symm;have:=m.slots s1;rw[i]at this;obtain⟨a7,c2,a8,e1,e2,R,e4,e5,e6⟩:=this;rw[R];have:O.length=v1.τ.sz:=J;rw[this];refine bh.agree ⟨fun k l=>bQ j _ _ w k (fun e=> ?_),fun _ _=>rfl,fun _ _=>rfl⟩ q1;subst e;rw[g4]at l;rcases q3 _ l with l|l;have:=(g7 _ l).2.2;rw[z]at this;cases this;have:=(Q _ l).2.2;rw[z]at this;cases this;refine⟨fun d n=> ?_,fun d n=> ?_,by simp[SV.rt]⟩;rcases q3 d n with n|n;exact g7 d n;exact Q d n;simp only[SV.bt,acd]at n;subst n;exact m.bt s1 d (by rw[i];simp[SV.bt]);rintro t' u' ⟨rfl,rfl⟩ s' u2 hs' he;rw[L]at he;split at he;cases he;exact hs' (m.uni s' s1 _ u2 _ he i);cases h;cases h;split at h;obtain⟨_,h⟩:=Option.ite_none_right_eq_some.mp h;obtain⟨_,h⟩:=Option.ite_none_left_eq_some.mp h;obtain⟨r,_,h⟩:=v8.mp h;cases h;cases h;cases h
end
end Vg
