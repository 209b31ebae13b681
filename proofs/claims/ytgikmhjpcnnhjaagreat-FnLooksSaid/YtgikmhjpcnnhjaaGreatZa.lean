/- VG, joined: an evaluator of the code over typed values, and its soundness, for any program. -/
import Derived.Calls
import Derived.Below
import Derived.Laws.Append
import Derived.Laws.AppendOwn
import Derived.Laws.Cells
import Derived.Laws.Entries
import Derived.Laws.MakeOwn
import Derived.Laws.IdiomCopy
import Derived.Laws.Slices
import Derived.Great.BuildSlice
import Derived.Laws.Strings
import Derived.Laws.BytesString
import Derived.Laws.BytesArg
import Derived.ArgAppend
set_option linter.unusedSimpArgs false
set_option linter.unusedVariables false
set_option linter.unusedSectionVars false
set_option linter.defProp false
open Option.some renaming injEq -> aar
open List renaming mem_append -> eH,mem_cons -> l_,mem_append_left -> Z_,mem_of_mem_drop -> Z',mem_flatMap -> J_,mem_cons_of_mem -> ahz,mem_append_right -> ahC,take_of_length_le -> ahF,drop_of_length_le -> ahG,mem_singleton -> aiS,length_append -> ajb,contains_eq_mem -> ajz,take_append_of_le_length -> akJ,nil_append -> akO,getD_eq_getElem?_getD -> akQ,drop_drop -> ak9,replicate -> ala,drop_take -> alb,append_nil -> ald,drop_append_of_le_length -> ale,getElem?_eq_none -> alg,all_eq_true -> alh,getElem?_eq_getElem -> alj,mem_eraseDups -> alk,take_take -> aod,append_assoc -> aof,nodup_append -> aog,getElem?_map -> aoh,drop_append -> aoj,length_cons -> aok,take_succ_eq_append_getElem -> aol,take_append_drop -> aom,mem_of_getElem? -> aoo,mem_iff_getElem -> aop,replicate_succ -> aoq,getElem?_range -> aor,getElem?_eq_some_iff -> aov,take_append -> aow,getD -> aoD,mem_filter -> aoE,take_zero -> aoF,drop_zero -> aoG,drop_set_of_lt -> aoI,take_set_of_le -> aoJ,take -> aoN,flatten_cons -> aoO,flatMap_cons -> aoP,drop_sublist -> aoQ,length -> aoR,flatMap_map -> aoS,head?_drop -> aoT,take_left -> aoV
open Option renaming map_eq_some_iff -> m_,map_eq_none_iff -> ahI,getD_some -> aoA,bind_eq_some_iff -> aoC,map_some -> aoU
open Nat renaming add_mul -> j_,mul_le_mul_right -> K_,le_refl -> I',min_eq_left -> ali,one_mul -> aoi,lt_or_ge -> aon,ne_of_lt -> aoz,add_assoc -> aoH,zero_add -> aoL
open Array renaming getElem?_eq_getElem -> adV,ext' -> A',length_toList -> alc,getD_eq_getD_getElem? -> aos,toList_setIfInBounds -> aou,toList_map -> aoB,toList_range -> aoM
open Bool renaming and_eq_true -> K',not_eq_true' -> alf,false_eq_true -> aot
open Int renaming instLEInt -> LA,toNat_of_nonneg -> aoK
open Prod.mk renaming injEq -> P'
def an.{u}{c:Prop}{h:Decidable c}(hc:c){α:Sort u}{t e:α}:ite c t e=t:=if_pos hc
def a_.{u}{c:Prop}{h:Decidable c}(hc:¬c){α:Sort u}{t e:α}:ite c t e=e:=if_neg hc
def b_{p:Prop}[Decidable p]:(decide p=true)=p:=decide_eq_true_eq
def c_{p:Prop}[h:Decidable p]:p→decide p=true:=decide_eq_true
def d_{p:Prop}{h:Decidable p}:decide p=false↔¬p:=decide_eq_false_iff_not
def e_{p:Prop}[h:Decidable p]:decide p=true→p:=of_decide_eq_true
namespace Vg
open Go
inductive Ty where
 |int (k:IntKind)
 |bool
 |str
 |sl (e:Ty)
 |pair (a b:Ty)
 deriving DecidableEq,Inhabited
@[reducible] def Ty.den:Ty->Type
  | .int _=>Int
  | .bool=>Bool
  | .str=>ByteArray
  | .sl e=>List e.den
  | .pair a b=>a.den×b.den
def Ty.sz:Ty->Nat
 | .pair a b=>a.sz+b.sz
 |_=>1
def Ty.aa:(τ:Ty)->τ.den
 | .int _=>(0:Int)
 | .bool=>false
 | .str=>ByteArray.empty
 | .sl _=>[]
 | .pair a b=>(a.aa,b.aa)
def Ty.zero:Ty->List Value
 | .int k=>[.int k 0]
 | .bool=>[.bool false]
 | .str=>[.string .empty]
 | .sl _=>[.slice none 0 0]
 | .pair a b=>a.zero++b.zero
def Ty.cQ:Ty->Bool
 | .pair _ _=>true
 |_=>false
def eF:Ty->List Value->Value
 | .pair _ _,cs=> .agg cs.toArray
 |_,cs=>cs.headD undef
theorem Ty.qO:∀τ:Ty,0<τ.sz
 | .int _| .bool| .str| .sl _=>Nat.one_pos
 | .pair a b=>by have:=a.qO;simp only[Ty.sz];omega
theorem Ty.kA:∀τ:Ty,τ.zero.length=τ.sz
 | .int _| .bool| .str| .sl _=>rfl
 | .pair a b=>by simp[Ty.zero,Ty.sz,a.kA,b.kA]
def aZ{α:Type}(R:α->List Value->List Nat->Prop):List α->List Value->List Nat->Prop
 | [],cs,B=>cs=[]/\B=[]
 |x::l,cs,B=>∃c1 b c d,cs=c1++b/\B=c++d/\R x c1 c/\aZ R l b d
def eX{α:Type}(w:World)(sz:Nat)(R:α->List Value->List Nat->Prop)(l:List α)(v:Value)(B:List Nat):Prop:=
 ((∃e,v= .slice e 0 0)/\l=[]/\B=[])\/
 ∃(b off cap:Nat) (c:Array Value) (el:TypeId) (h:Nat×Nat) (d:List Nat),
  v= .slice (some ⟨b,off,none⟩) l.length cap/\l.length<=cap/\w.heap[b]?=some (.cells c el h)/\off+cap*sz<=c.size/\
  B=b::d/\aZ R l ((c.toList.drop off).take (l.length*sz)) d
def aW(w:World):(τ:Ty)->τ.den->List Value->List Nat->Prop
 | .int k,n,cs,B=>cs=[.int k n]/\B=[]
 | .bool,b,cs,B=>cs=[.bool b]/\B=[]
 | .str,s,cs,B=>cs=[.string s]/\B=[]
 | .pair a b,p,cs,B=>∃c1 c d h,cs=c1++c/\B=d++h/\aW w a p.1 c1 d/\aW w b p.2 c h
 | .sl e,l,cs,B=>∃v,cs=[v]/\eX w e.sz (aW w e) l v B
theorem aZ.len{α:Type}{R:α->List Value->List Nat->Prop}{sz:Nat}(b:∀x c B,R x c B->c.length=sz):
 ∀ {l:List α} {cs:List Value} {B:List Nat},aZ R l cs B->cs.length=l.length*sz
 | [],_,_,h=>by simp[h.1]
 |x::l,cs,B,h=>by
  obtain⟨c1,c2,B1,B2,rfl,rfl,e,o⟩:=h;simp[b _ _ _ e,aZ.len b o,j_,Nat.add_comm]
theorem aW.len{w:World}:∀ {τ:Ty} {x:τ.den} {cs:List Value} {B:List Nat},aW w τ x cs B->cs.length=τ.sz
 | .int _,_,_,_,h=>by rw[h.1];rfl
 | .bool,_,_,_,h=>by rw[h.1];rfl
 | .str,_,_,_,h=>by rw[h.1];rfl
 | .pair a b,p,cs,B,h=>by
   obtain⟨c1,c2,B1,B2,rfl,rfl,c,o⟩:=h;simp[aW.len c,aW.len o,Ty.sz]
 | .sl e,l,cs,B,h=>by obtain⟨v,rfl,_⟩:=h;rfl
theorem aZ.mono{α:Type}{R R':α->List Value->List Nat->Prop}(P:Nat->Prop)(o:∀x c B,(∀b∈B,P b)->R x c B->R' x c B):
 ∀ {l:List α} {cs:List Value} {B:List Nat},(∀b∈B,P b)->aZ R l cs B->aZ R' l cs B
 | [],_,_,_,h=>h
 |x::l,cs,B,hP,h=>by
  obtain⟨p,q,u,v,rfl,rfl,y,z⟩:=h;exact⟨p,q,u,v,rfl,rfl,o _ _ _ (λb e=>hP b (by simp[e])) y,aZ.mono P o (λb e=>hP b (by simp[e])) z⟩
theorem aW.mono{w w':World}:∀ {τ:Ty} {x:τ.den} {cs:List Value} {B:List Nat},(∀b∈B,w'.heap[b]?=w.heap[b]?)->aW w τ x cs B->aW w' τ x cs B
 | .int _,_,_,_,_,h=>h
 | .bool,_,_,_,_,h=>h
 | .str,_,_,_,_,h=>h
 | .pair a b,p,cs,B,hB,h=>by
   obtain⟨J,K,L,N,rfl,rfl,R,S⟩:=h;exact⟨J,K,L,N,rfl,rfl,aW.mono (λb o=>hB b (by simp[o])) R,aW.mono (λb o=>hB b (by simp[o])) S⟩
 | .sl e,l,cs,B,hB,h=>by
   obtain⟨v,rfl,h⟩:=h;refine⟨v,rfl,?_⟩;rcases h with h|⟨b,off,cap,c,el,W,X,Y,q,o,y,rfl,hl⟩;exact .inl h;refine .inr ⟨b,off,cap,c,el,W,X,Y,q,(hB b (by simp)).trans o,y,rfl,?_⟩;exact aZ.mono (λb=>w'.heap[b]?=w.heap[b]?) (λx c B z H=>aW.mono z H) (λI u=>hB I (by simp[u])) hl
theorem aZ.bounds{α:Type}{R:α->List Value->List Nat->Prop}(P:Nat->Prop)(o:∀x c B,R x c B->∀b∈B,P b):
 ∀ {l:List α} {cs:List Value} {B:List Nat},aZ R l cs B->∀b∈B,P b
 | [],_,_,h,b,e=>by rw[h.2]at e;cases e
 |x::l,cs,B,h,b,e=>by
  obtain⟨c1,c2,B1,B2,rfl,rfl,p,q⟩:=h;rcases eH.1 e with e|e;exact o _ _ _ p b e;exact aZ.bounds P o q b e
def lt_of_block{w:World}{b:Nat}{o:Obj}(h:w.heap[b]?=some o):b<w.heap.size:=by
 rcases aon b w.heap.size with c|c;exact c;simp[Array.getElem?_eq_none c]at h
theorem aW.bounds{w:World}:∀ {τ:Ty} {x:τ.den} {cs:List Value} {B:List Nat},aW w τ x cs B->∀b∈B,b<w.heap.size
 | .int _,_,_,_,h,b,o=>by rw[h.2]at o;cases o
 | .bool,_,_,_,h,b,o=>by rw[h.2]at o;cases o
 | .str,_,_,_,h,b,o=>by rw[h.2]at o;cases o
 | .pair a b,p,cs,B,h,b',o=>by
   obtain⟨c1,c2,B1,B2,rfl,rfl,y,z⟩:=h;rcases eH.1 o with o|o;exact aW.bounds y b' o;exact aW.bounds z b' o
 | .sl e,l,cs,B,h,b',o=>by
   obtain⟨v,rfl,h⟩:=h;rcases h with h|⟨b,off,cap,c,el,fz,Bs,hv,hcap,q,hsz,rfl,H⟩;rw[h.2.2]at o;cases o;rcases l_.1 o with rfl|o;exact lt_of_block q;exact aZ.bounds _ (λx c B u=>aW.bounds u) H b' o
theorem aW.zero(w:World):∀τ:Ty,aW w τ τ.aa τ.zero []
 | .int _=>⟨rfl,rfl⟩
 | .bool=>⟨rfl,rfl⟩
 | .str=>⟨rfl,rfl⟩
 | .sl _=>⟨_,rfl,.inl ⟨⟨none,rfl⟩,rfl,rfl⟩⟩
 | .pair a b=>⟨_,_,[],[],rfl,rfl,aW.zero w a,aW.zero w b⟩
theorem aZ.append{α:Type}{R:α->List Value->List Nat->Prop}:∀ {p h:List α} {c1 c:List Value} {o e:List Nat},
 aZ R p c1 o->aZ R h c e->aZ R (p++h) (c1++c) (o++e)
 | [],_,_,_,_,_,h1,h2=>by rw[h1.1,h1.2];exact h2
 |x::l,h,c1,c,o,e,h1,h2=>by
  obtain⟨a,b,A,B,rfl,rfl,q,u⟩:=h1;exact⟨a,b++c,A,B++e,by simp,by simp,q,aZ.append u h2⟩
theorem aZ.split{α:Type}{R:α->List Value->List Nat->Prop}{sz:Nat}(u:∀x c B,R x c B->c.length=sz):
 ∀ {p q:List α} {cs:List Value} {B:List Nat},aZ R (p++q) cs B->
   ∃b o,B=b++o/\aZ R p (cs.take (p.length*sz)) b/\aZ R q (cs.drop (p.length*sz)) o
 | [],q,cs,B,h=>⟨[],B,rfl,⟨by simp,rfl⟩,by simpa using h⟩
 |x::l,q,cs,B,h=>by
  obtain⟨v,c2,y,A2,rfl,rfl,z,H⟩:=h;obtain⟨b,o,rfl,I,J⟩:=aZ.split u H;have hc:=u _ _ _ z;refine⟨y++b,o,by simp,⟨v,_,y,b,?_,rfl,z,I⟩,?_⟩;rw[aow,ahF (by simp[j_];omega)];congr 2;simp[j_];omega;have e:(x::l).length*sz=v.length+l.length*sz:=by simp[j_];omega
  rw[e,aoj,ahG (by omega)];simpa using J
theorem aZ.one{α:Type}{R:α->List Value->List Nat->Prop}{x:α}{cs:List Value}{B:List Nat}(h:R x cs B):aZ R [x] cs B:=
 ⟨cs,[],B,[],by simp,by simp,h,rfl,rfl⟩
theorem aZ.get{α:Type}{R:α->List Value->List Nat->Prop}{sz:Nat}(z:∀x c B,R x c B->c.length=sz)
 {l:List α} {cs:List Value} {B:List Nat} (h:aZ R l cs B) {i:Nat} {x:α} (J:l[i]?=some x):
 ∃p y q,B=p++y++q/\R x ((cs.drop (i*sz)).take sz) y/\
  aZ R (l.take i) (cs.take (i*sz)) p/\aZ R (l.drop (i+1)) (cs.drop ((i+1)*sz)) q:=by
 obtain⟨L,u⟩:=aov.1 J;have e:l=l.take i++(x::l.drop (i+1)):=by rw[<-u,<-List.drop_eq_getElem_cons L,aom]
 rw[e]at h;obtain⟨p,q,rfl,H,I⟩:=aZ.split z h;have K:(l.take i).length=i:=by simp;omega
 rw[K]at H I;obtain⟨c1,N,S,W,hc,rfl,o,v⟩:=I;have b:=z _ _ _ o;refine⟨p,S,W,by simp,?_,H,?_⟩;rw[hc,aow,ahF (by omega)];simpa[b]using o
 have:cs.drop ((i+1)*sz)=N:=by
  rw[j_,aoi,<-ak9,hc,<-b,List.drop_left]
 rw[this];exact v
theorem aZ.set{α:Type}{R:α->List Value->List Nat->Prop}{sz:Nat}
 {l:List α} {i:Nat} {y:α} {cs b:List Value} {c h o:List Nat} (hi:i<l.length) (p:R y b h)
 (q:aZ R (l.take i) (cs.take (i*sz)) c) (u:aZ R (l.drop (i+1)) (cs.drop ((i+1)*sz)) o):
 aZ R (l.set i y) (cs.take (i*sz)++b++cs.drop ((i+1)*sz)) (c++h++o):=by
 have e:l.set i y=l.take i++([y]++l.drop (i+1)):=by
  rw[List.set_eq_take_append_cons_drop,an hi];rfl
 rw[e,aof,aof];exact aZ.append q (aZ.append (aZ.one p) u)
theorem aZ.replicate{α:Type}{R:α->List Value->List Nat->Prop}{x:α}{cs:List Value}(h:R x cs []):
 ∀n:Nat,aZ R (ala n x) (ala n cs).flatten []
 |0=>⟨rfl,rfl⟩
 |n+1=>by
  rw[aoq,aoq,aoO];exact⟨cs,_,[],[],rfl,rfl,h,aZ.replicate h n⟩
theorem aW.one{w:World}:∀ {τ:Ty} {x:τ.den} {cs:List Value} {B:List Nat},aW w τ x cs B->∀v∈cs,v.oneCell'=true
 | .int _,_,_,_,h,v,o=>by rw[h.1]at o;simp at o;subst o;rfl
 | .bool,_,_,_,h,v,o=>by rw[h.1]at o;simp at o;subst o;rfl
 | .str,_,_,_,h,v,o=>by rw[h.1]at o;simp at o;subst o;rfl
 | .pair a b,p,cs,B,h,v,o=>by
   obtain⟨c1,c2,B1,B2,rfl,rfl,q,y⟩:=h;rcases eH.1 o with o|o;exact aW.one q v o;exact aW.one y v o
 | .sl e,l,cs,B,h,v,o=>by
   obtain⟨u,rfl,h⟩:=h;simp at o;subst o;rcases h with h|⟨b,off,cap,c,el,fz,Bs,rfl,_⟩;obtain⟨ao,e⟩:=h.1;rw[e];rfl;rfl
inductive M where
 |row (t:Nat) (hs:List Nat) (nd:Bool)
 |sha (hs:List Nat)
 |nst (b:Nat) (e:Ty) (i:Int) (o:Nat) (p:List Bool) (fr:Bool)
 |dead
 deriving DecidableEq,Inhabited
inductive Sh where
 |leaf
 |sl (m:M)
 |pair (a b:Sh)
 deriving DecidableEq,Inhabited
structure TV where
 τ:Ty
 x:τ.den
 sh:Sh
inductive SV where
 |no
 |d (v:TV)
 |box (t:Nat) (v:TV)
 |ptr (t:Nat) (o:Nat) (path:List Bool) (τ:Ty)
 |ept (t:Nat) (e:Ty) (i:Int) (o:Nat) (path:List Bool) (τ:Ty)
 |rdp (hs:List Nat) (v:TV)
 |tup (l:List TV)
 |g (j:Nat) (want:Bool) (act:Bool) (v:SV)
structure Env where
 s:List SV
 nt:Nat
 kp:Bool:=false
def bu:List Ty->Type
 | []=>Unit
 |τ::l=>τ.den×bu l
def bu.aa:(l:List Ty)->bu l
 | []=>()
 |τ::l=>(τ.aa,bu.aa l)
structure TI where
 τ:Ty
 fs:List TypeId
 el:TypeId
def dZ:Nat->Nat->List Bool
 |0,_=>[]
 |1,_=>[]
 |_+2,0=>[false]
 |n+2,j+1=>true::dZ (n+1) j
def Ty.sub:Ty->List Bool->Option Ty
 |τ,[]=>some τ
 | .pair a _,false::p=>a.sub p
 | .pair _ b,true::p=>b.sub p
 |_,_::_=>none
def Ty.off:Ty->List Bool->Nat
 |_,[]=>0
 | .pair a _,false::p=>a.off p
 | .pair a b,true::p=>a.sz+b.off p
 |_,_::_=>0
def jw:(τ:Ty)->τ.den->Sh->List Bool->Option TV
 |τ,x,sh,[]=>some ⟨τ,x,sh⟩
 | .pair a _,x,.pair s1 _,false::p=>jw a x.1 s1 p
 | .pair _ b,x,.pair _ s2,true::p=>jw b x.2 s2 p
 |_,_,_,_::_=>none
def jE(v:TV)(τ:Ty):Option τ.den:=if h:v.τ=τ then some (cast (congrArg Ty.den h) v.x)else none
def iO:(τ:Ty)->τ.den->Sh->List Bool->TV->Option (τ.den×Sh)
 |τ,_,_,[],v=>match jE v τ with|some y=>some (y,v.sh)|none=>none
 | .pair a _,x,.pair s1 s2,false::p,v=>match iO a x.1 s1 p v with|some (y,s)=>some ((y,x.2),.pair s s2)|none=>none
 | .pair _ b,x,.pair s1 s2,true::p,v=>match iO b x.2 s2 p v with|some (y,s)=>some ((x.1,y),.pair s1 s)|none=>none
 |_,_,_,_::_,_=>none
def iM:Ty->M->Sh
 | .pair a b,m=> .pair (iM a m) (iM b m)
 | .sl _,m=> .sl m
 |_,_=> .leaf
def Ty.flat:Ty->Bool
 | .pair a b=>a.flat&&b.flat
 | .sl _=>false
 |_=>true
def decode:(τ:Ty)->List Value->Option (τ.den×List Value)
 | .int k,.int k' n::r=>if k'=k then some (n,r)else none
 | .bool,.bool b::r=>some (b,r)
 | .str,.string s::r=>some (s,r)
 | .sl _,.slice none 0 0::r=>some ([],r)
 | .pair a b,cs=>match decode a cs with
   |some (x,r)=>(match decode b r with|some (y,r')=>some ((x,y),r')|none=>none)
   |none=>none
 |_,_=>none
def GP(τ:Ty)(v:Value):Option TV:=
 match τ,v with
 | .pair a b,.agg cs=>(match decode (.pair a b) cs.toList with|some (x,[])=>some ⟨.pair a b,x,iM (.pair a b) (.sha [])⟩|_=>none)
 | .pair _ _,_=>none
 |τ,v=>(match decode τ [v]with|some (x,[])=>some ⟨τ,x,iM τ (.sha [])⟩|_=>none)
inductive Pt where
 |leaf|own|shr|hd|pv|rom
 |pair (a b:Pt)
 deriving DecidableEq,Inhabited
def yr:Ty->Pt
 | .sl _=> .shr
 | .pair a b=> .pair (yr a) (yr b)
 |_=> .leaf
def Pt.vX:Pt->Bool
 | .shr| .hd=>true
 | .pair a b=>a.vX||b.vX
 |_=>false
inductive PK where
 |val (τ:Ty) (p:Pt)
 |io (τ:Ty) (p:Pt)
 |rd (τ:Ty)
 |vx (e:Ty) (l:List Nat)
inductive RK where
 |val (τ:Ty) (p:Pt)
 |nbox (τ:Ty) (p:Pt)
def PK.ty:PK->Ty
 | .val τ _| .io τ _| .rd τ=>τ
 | .vx e _=> .sl e
def RK.ty:RK->Ty
 | .val τ _| .nbox τ _=>τ
def bR:List PK->List Ty
 | []=>[]
 | .val _ _::l=>bR l
 | .io τ _::l=>τ::bR l
 | .rd _::l| .vx _ _::l=>bR l
structure wj where
 ps:List PK
 rs:List RK
 F:bu (ps.map PK.ty)->Option (bu (rs.map RK.ty++bR ps))
 kp:List (Nat×List Bool)
inductive AK where
 |val (τ:Ty) (sh:Sh)
 |box (t:Nat) (τ:Ty) (sh:Sh)
 |ptr (t:Nat) (o:Nat) (path:List Bool) (τ:Ty)
 |ept (t:Nat) (e:Ty) (o:Nat) (path:List Bool) (τ:Ty)
 |rdp (hs:List Nat) (τ:Ty) (sh:Sh)
def AK.OZ:AK->List Ty
 | .val τ _=>[τ]
 | .box _ τ _=>[τ]
 | .ptr _ _ _ _=>[]
 | .ept _ _ _ _ _=>[.int .i64]
 | .rdp _ τ _=>[τ]
structure C5 where
 ks:List (Nat×AK)
 nt:Nat
structure Cx where
 tt:TypeId->Option TI
 ct:FuncId->Option wj
 la:Nat->Option C5
 ja:Nat->Option C5
 k:Nat
 n:Nat
 io:List Nat
/-tokens-/
def M.aJ:M->List Nat
 | .row t hs _=>t::hs
 | .sha hs=>hs
 | .nst b _ _ _ _ _=>[b]
 | .dead=>[]
def Sh.aJ:Sh->List Nat
 | .leaf=>[]
 | .sl m=>m.aJ
 | .pair a b=>a.aJ++b.aJ
def Sh.live:Sh->Bool
 | .leaf=>true
 | .sl .dead=>false
 | .sl _=>true
 | .pair a b=>a.live&&b.live
def Sh.map(f:M->M):Sh->Sh
 | .leaf=> .leaf
 | .sl m=> .sl (f m)
 | .pair a b=> .pair (a.map f) (b.map f)
def M.own:M->Option (List Nat)
 | .row t hs nd=>if nd&&hs.all (4<=·)then some (t::hs.filter (·≠t))else none
 | .sha []=>some []
 |_=>none
def M.E6:M->Option (List Nat)
 | .row t hs _=>if hs.all (4<=·)then some (t::hs.filter (·≠t))else none
 | .sha []=>some []
 |_=>none
def Sh.own:Sh->Option (List Nat)
 | .leaf=>some []
 | .sl m=>m.own
 | .pair a b=>match a.own,b.own with
   |some x,some y=>if x.all (!y.contains ·)then some (x++y)else none
   |_,_=>none
def meets(a b:List Nat):Bool:=a.any b.contains
def M.kill(ts:List Nat)(m:M):M:=if meets m.aJ ts then .dead else m
def SV.mapM(f:M->M)(fe:Nat->Bool)(fr:List Nat->Option (List Nat)):SV->SV
 | .d v=> .d {v with sh:=v.sh.map f}
 | .box t v=> .box t {v with sh:=v.sh.map f}
 | .ept t e i o p τ=>if fe t then .ept t e i o p τ else .no
 | .rdp hs v=>(match fr hs with|some hs'=> .rdp hs' {v with sh:=v.sh.map f}|none=> .no)
 | .tup l=> .tup (l.map λv=>{v with sh:=v.sh.map f})
 | .g j w a v=> .g j w a (v.mapM f fe fr)
 |v=>v
def SV.kill(ts:List Nat)(v:SV):SV:=v.mapM (M.kill ts) (!ts.contains ·) (λhs=>if meets hs ts then none else some hs)
def Env.kill(E:Env)(ts:List Nat):Env:=if ts.isEmpty then E else {E with s:=E.s.map (SV.kill ts)}
def SV.cK(ts:List Nat)(c:List (Nat×Nat)):SV->SV
 | .ept b e i o p τ=>match c.lookup b with|some h=> .ept h e i o p τ|none=>if ts.isEmpty then .ept b e i o p τ else SV.kill ts (.ept b e i o p τ)
 |v=>if ts.isEmpty then v else SV.kill ts v
def Env.cK(E:Env)(ts:List Nat)(b:List (Nat×Nat)):Env:=if b.isEmpty then E.kill ts else {E with s:=E.s.map (SV.cK ts b)}
def xH(ts:List Nat)(t:Nat)(hs:List Nat):List Nat:=(hs.map λh=>if ts.contains h then t else h).eraseDups
def M.yC(ts:List Nat)(t:Nat):M->M
 | .row u hs nd=>if ts.contains u then .sha (xH ts t (u::hs))else .row u (xH ts t hs) nd
 | .sha hs=> .sha (xH ts t hs)
 | .nst b _ _ _ _ _=> .sha (xH ts t [b])
 | .dead=> .dead
def M.aX(ts:List Nat)(t:Nat)(m:M):M:=if meets m.aJ ts then m.yC ts t else m
def SV.aX(ts:List Nat)(t:Nat)(v:SV):SV:=v.mapM (M.aX ts t) (!ts.contains ·) (λhs=>some (if meets hs ts then xH ts t hs else hs))
def Env.aX(E:Env)(ts:List Nat)(t:Nat):Env:=if ts.isEmpty then E else {E with s:=E.s.map (SV.aX ts t)}
def Env.get(E:Env)(s:Nat):SV:=E.s.getD s .no
def Env.set(E:Env)(dst:Option Nat)(v:SV):Env:=match dst with|some d=>{E with s:=E.s.set d v}|none=>E
def eK:List SV->Nat->Nat->Option (Nat×TV)
 | [],_,_=>none
 | .box t v::l,u,i=>if t=u then some (i,v)else eK l u (i+1)
 |_::l,u,i=>eK l u (i+1)
def je(t:Nat)(e:Ty):(τ:Ty)->τ.den->Sh->Option (List e.den×List Nat×Bool)
 | .sl e',l,.sl (.row u hs nd)=>if u=t then(if h:e'=e then some (cast (congrArg (λτ=>List (Ty.den τ)) h) l,hs,nd)else none)else none
 | .pair a b,x,.pair s1 s2=>match je t e a x.1 s1 with|some r=>some r|none=>je t e b x.2 s2
 |_,_,_=>none
def fB(t:Nat)(e:Ty):List SV->Option (List e.den×List Nat×Bool)
 | []=>none
 | .d v::l| .box _ v::l=>match je t e v.τ v.x v.sh with|some r=>some r|none=>fB t e l
 |_::l=>fB t e l
def jD(t:Nat)(e:Ty)(y:List e.den)(m:M):(τ:Ty)->τ.den->Sh->τ.den×Sh
 | .sl e',l,.sl (.row u hs nd)=>if u=t then(if h:e'=e then(cast (congrArg (λτ=>List (Ty.den τ)) h.symm) y,.sl m)else(l,.sl .dead))else(l,.sl (.row u hs nd))
 | .pair a b,x,.pair s1 s2=>((jD t e y m a x.1 s1).1,jD t e y m b x.2 s2 |>.1) |> λz=>(z,.pair (jD t e y m a x.1 s1).2 (jD t e y m b x.2 s2).2)
 |_,x,sh=>(x,sh)
def TV.setRow(t:Nat)(e:Ty)(y:List e.den)(m:M)(v:TV):TV:=⟨v.τ,(jD t e y m v.τ v.x v.sh).1,(jD t e y m v.τ v.x v.sh).2⟩
def SV.setRow(t:Nat)(e:Ty)(y:List e.den)(m:M):SV->SV
 | .d v=> .d (v.setRow t e y m)
 | .box b v=> .box b (v.setRow t e y m)
 | .tup l=> .tup (l.map (TV.setRow t e y m))
 | .g j w a v=> .g j w a (v.setRow t e y m)
 | .rdp hs v=>if(hs++v.sh.aJ).contains t then .no else .rdp hs v
 |v=>v
def M.cj(t:Nat):M->M
 | .row u hs nd=>if u=t then .row u hs nd else if hs.contains t then .dead else .row u hs nd
 | .sha hs=>if hs.contains t then .dead else .sha hs
 | .nst b e i o p fr=>if b=t then .dead else .nst b e i o p fr
 | .dead=> .dead
def SV.cj(t:Nat)(v:SV):SV:=v.mapM (M.cj t) (λ_=>true) (λhs=>if hs.contains t then none else some hs)
structure Rd where
 get:Nat->SV
 box:Nat->Option (Nat×TV)
 row:Nat->(e:Ty)->Option (List e.den×List Nat×Bool)
def cA:SV->SV
 | .box t v=> .ptr t 0 [] v.τ
 | .g j w a v=> .g j w a (cA v)
 |v=>v
def Env.rd(E:Env):Rd:=⟨λs=>cA (E.get s),λt=>eK E.s t 0,λt e=>fB t e E.s⟩
/-operands-/
def gR(C:Cx)(R:Rd)(t:TypeId):Operand->Option SV
 | .tmp s=>some (R.get s)
 | .const v=>match C.tt t with|some i=>(GP i.τ v).map .d|none=>none
 |_=>none
def AN(G:Option (Nat×Bool)):SV->Option SV
 | .g j w _ v=>if G=some (j,w)then some v else none
 |v=>some v
def arg(C:Cx)(R:Rd)(G:Option (Nat×Bool))(t:TypeId)(x:Operand):Option SV:=(gR C R t x).bind (AN G)
def dJ(C:Cx)(R:Rd)(G:Option (Nat×Bool))(t:TypeId)(x:Operand):Option TV:=
 match arg C R G t x with|some (.d v)=>if v.sh.live then some v else none|_=>none
inductive Ef:Type 1 where
 |val (v:SV)
 |chk (c:Bool) (v:SV)
 |opt (α:Type) (z:α) (o:Option α) (f:α->SV)
 |put (b:Nat) (s:Nat) (v:TV)
 |app (c:Bool) (kl gv:List Nat) (t:Nat) (v:SV)
 |elem (gv:List Nat) (b:Nat) (e:Ty) (l:List e.den) (m:M)
 |nap (c:Bool) (gv:List Nat) (b:Nat) (e:Ty) (l:List e.den) (m:M) (v:SV)
 |call (α:Type) (o:Option α) (tks:List Nat) (f:α->SV×List (Nat×Nat×TV)) (rp:α->List (Nat×Nat))
def vI(k:IntKind)(n:Int):SV:= .d ⟨.int k,n,.leaf⟩
def vB(b:Bool):SV:= .d ⟨.bool,b,.leaf⟩
def vS(s:ByteArray):SV:= .d ⟨.str,s,.leaf⟩
def bt(s:ByteArray)(i:Int):Int:=((s.data.toList.getD i.toNat 0).toNat:Int)
def eqv:(τ:Ty)->τ.den->τ.den->Bool
 | .int _,a,b=>a==b
 | .bool,a,b=>a==b
 | .str,a,b=>a.toList==b.toList
 | .pair a b,x,y=>eqv a x.1 y.1&&eqv b x.2 y.2
 | .sl _,_,_=>false
def bits(f:∀n,BitVec n->BitVec n->BitVec n)(k:IntKind)(a b:Int):Int:=k.wrap (f k.bits (BitVec.ofInt k.bits a) (BitVec.ofInt k.bits b)).toNat
def agT(op:BinOp)(k:IntKind)(a b:Int):Option Ef:=
 match op with
 | .add=>some (.val (vI k (k.wrap (a+b))))
 | .sub=>some (.val (vI k (k.wrap (a-b))))
 | .mul=>some (.val (vI k (k.wrap (a*b))))
 | .quo=>some (.chk (decide (b≠0)) (vI k (k.wrap (a.tdiv b))))
 | .rem=>some (.chk (decide (b≠0)) (vI k (a.tmod b)))
 | .and=>some (.val (vI k (bits (λ_=>(· &&& ·)) k a b)))
 | .or=>some (.val (vI k (bits (λ_=>(· ||| ·)) k a b)))
 | .xor=>some (.val (vI k (bits (λ_=>(·^^^·)) k a b)))
 | .shr=>some (.chk (decide (0<=b)) (vI k (a.fdiv (2^(min b.toNat k.bits)))))
 | .shl=>some (.chk (decide (0<=b)) (vI k (k.wrap (a*2^(min b.toNat k.bits)))))
 | .eql=>some (.val (vB (a==b)))
 | .neq=>some (.val (vB (a != b)))
 | .lss=>some (.val (vB (decide (a<b))))
 | .leq=>some (.val (vB (decide (a<=b))))
 | .gtr=>some (.val (vB (decide (a>b))))
 | .geq=>some (.val (vB (decide (a>=b))))
 |_=>none
def afx(op:BinOp)(a b:ByteArray):Option Ef:=
 match op with
 | .add=>some (.chk (decide (a.size+b.size<4294967296)) (vS (a++b)))
 | .eql=>some (.val (vB (a.toList==b.toList)))
 | .neq=>some (.val (vB (!(a.toList==b.toList))))
 | .lss=>some (.val (vB (Op.bytesLess a.toList b.toList)))
 | .leq=>some (.val (vB (Op.bytesLess a.toList b.toList||a.toList==b.toList)))
 | .gtr=>some (.val (vB (!(Op.bytesLess a.toList b.toList||a.toList==b.toList))))
 | .geq=>some (.val (vB (!Op.bytesLess a.toList b.toList)))
 |_=>none
def ahs(op:BinOp)(x y:TV):Option Ef:=
 match x,y with
 |⟨.int k,a,_⟩,⟨.int k',b,_⟩=>if k=k'||op= .shl||op= .shr then agT op k a b else none
 |⟨.str,a,_⟩,⟨.str,b,_⟩=>afx op a b
 |⟨.bool,a,_⟩,⟨.bool,b,_⟩=>(match op with| .eql=>some (.val (vB (a==b)))| .neq=>some (.val (vB (!(a==b))))|_=>none)
 |⟨.pair a b,x,_⟩,⟨τ,y,s⟩=>match jE ⟨τ,y,s⟩ (.pair a b)with
  |some y=>if(Ty.pair a b).flat then(match op with| .eql=>some (.val (vB (eqv (.pair a b) x y)))| .neq=>some (.val (vB (!eqv (.pair a b) x y)))|_=>none)else none
  |none=>none
 |_,_=>none
def vc:M->List Nat
 | .row _ hs _=>hs
 | .sha hs=>hs
 | .nst b _ _ _ _ _=>[b]
 | .dead=>[]
def uL(C:Cx)(R:Rd)(G:Option (Nat×Bool))(i:TI):List (Nat×Operand)->i.τ.den->Sh->Option (i.τ.den×Sh)
 | [],x,sh=>some (x,sh)
 |(j,o)::l,x,sh=>match i.fs[j]? with
  |none=>none
  |some b=>match dJ C R G b o with
   |none=>none
   |some v=>match iO i.τ x sh (dZ i.fs.length j) v with
    |some (y,s)=>uL C R G i l y s
    |none=>none
def xK(C:Cx)(R:Rd)(G:Option (Nat×Bool))(el:TypeId)(e:Ty):Nat->List (Nat×Operand)->Option (List e.den×List Sh)
 |_,[]=>some ([],[])
 |n,(j,o)::l=>if j=n then(match dJ C R G el o with
  |none=>none
  |some v=>match jE v e,xK C R G el e (n+1) l with
   |some x,some (xs,ss)=>some (x::xs,v.sh::ss)
   |_,_=>none)else none
def zD:List Sh->Option (List Nat)
 | []=>some []
 |s::l=>match s.own,zD l with
  |some x,some y=>if x.all (!y.contains ·)then some (x++y)else none
  |_,_=>none
def ajK(tk:Nat)(b:List Sh):M:=
 match zD b with
 |some ts=> .row tk ts true
 |none=> .row tk (b.flatMap Sh.aJ).eraseDups false
def M.same(t:Nat):M->Bool
 | .row u _ _=>u=t
 |_=>false
def af1(tk:Nat)(flat:Bool)(s y:M):Option (List Nat×List Nat×M):=
 match s with
 | .row t hs nd=>
   if flat then some ([t],[t],.row tk [] true)else
   if y.same t then some ([t],[t],.row tk (xH [t] tk (hs++vc y)) false)else
   if y.aJ.contains t then none else
   (match(M.row t hs nd).own,y.own with
   |some a,some b=>if b.all (!a.contains ·)then some ([t],a++b,.row tk [tk] true)else none
   |_,_=>some ([t],[t],.row tk (xH [t] tk (hs++vc y)) false))
 | .sha []=>
   if flat then some ([],[],.row tk [] true)else
   (match y.own with
   |some b=>some ([],b,.row tk [tk] true)
   |none=>some ([],[],.row tk (vc y) false))
 |_=>none
def qL(C:Cx)(R:Rd)(tk:Nat)(G:Option (Nat×Bool))(b:Builtin)(args:List Operand)(ts:List TypeId):Option Ef:=
 match b,args,ts with
 | .len,[x],[t]=>(match C.tt t with
   |none=>none
   |some ti=>match dJ C R G t x with
    |some ⟨.sl e,l,_⟩=>if ti.τ= .sl e then some (.val (vI .i64 (l.length:Int)))else none
    |some ⟨.str,s,_⟩=>if ti.τ= .str then some (.val (vI .i64 (s.size:Int)))else none
    |_=>none)
 | .min,[x,y],[t,u]=>(match dJ C R G t x,dJ C R G u y with
   |some ⟨.int k,a,_⟩,some ⟨.int k',b,_⟩=>if k=k' then some (.val (vI k (if b<a then b else a)))else none
   |_,_=>none)
 | .max,[x,y],[t,u]=>(match dJ C R G t x,dJ C R G u y with
   |some ⟨.int k,a,_⟩,some ⟨.int k',b,_⟩=>if k=k' then some (.val (vI k (if b>a then b else a)))else none
   |_,_=>none)
 | .append,[x,y],[t,u]=>(match C.tt t,dJ C R G t x,dJ C R G u y with
   |some ti,some ⟨.sl e,l,.sl m⟩,some ⟨.sl e',l',.sl m'⟩=>
    (match jE ⟨.sl e',l',.leaf⟩ (.sl e)with
    |some c=>(match af1 tk e.flat m m' with
     |some (kl,gv,mm)=>if ti.τ= .sl e&&u=t then some (.app (decide (l.length+c.length<4294967296)) kl gv tk (.d ⟨.sl e,l++c,.sl mm⟩))else none
     |none=>none)
    |none=>none)
   |_,_,_=>none)
 |_,_,_=>none
/-calls-/
def kF:Pt->Sh->Bool
 | .leaf,.leaf=>true
 | .own,.sl m=>m.own.isSome
 | .shr,.sl m=>m≠ .dead
 | .pv,.sl m=>m.E6.isSome
 | .rom,.sl m=>m≠ .dead&&m.aJ.all (·=3)
 | .hd,.sl (.row _ _ _)=>true
 | .hd,.sl (.sha [])=>true
 | .pair a b,.pair x y=>kF a x&&kF b y
 |_,_=>false
def bc:Pt->Nat->List Nat->Sh×Nat
 | .leaf,tk,_=>(.leaf,tk)
 | .own,tk,_=>(.sl (.row tk [tk] true),tk+1)
 | .shr,tk,hs=>(.sl (.sha hs),tk)
 | .hd,tk,hs=>(.sl (.row tk (tk::hs) false),tk+1)
 | .pv,tk,_=>(.sl (.row tk [tk] false),tk+1)
 | .rom,tk,_=>(.sl (.sha [3]),tk)
 | .pair a b,tk,hs=>let x:=bc a tk hs;let y:=bc b x.2 hs;(.pair x.1 y.1,y.2)
def fE(sm:Nat->Nat):Pt->Sh->Nat->List (Nat×Nat)
 | .own,.sl m,tk=>(m.own.getD []).map λc=>(c,tk)
 | .shr,.sl m,_=>m.aJ.map λc=>(c,sm c)
 | .pv,.sl m,tk=>(m.E6.getD []).map λc=>(c,tk)
 | .rom,.sl m,_=>(m.aJ.filter (·=3)).map λc=>(c,3)
 | .hd,.sl (.row t hs _),tk=>(t,tk)::(hs.filter (·≠t)).map λc=>(c,sm c)
 | .pair a b,.pair x y,tk=>fE sm a x tk++fE sm b y (bc a tk []).2
 |_,_,_=>[]
def I7(r:List (Nat×Nat)):Bool:=r.all λp=>r.lookup p.1==some p.2
def rB(R:Rd):SV->Option (Nat×Nat×TV)
 | .ptr t 0 [] _=>(R.box t).map λr=>(t,r.1,r.2)
 |_=>none
def UH(r0:List (Nat×Nat))(l:List Nat)(c:Nat):Nat:=match r0.lookup c with|some k=>if l.contains k then k else 1|none=>1
def bW(R:Rd):(ps:List PK)->List SV->Nat->List (Nat×Nat)->Option (bu (ps.map PK.ty)×List (Nat×Nat)×List (Nat×Nat))
 | [],[],_,_=>some ((),[],[])
 | .val τ p::ps,.d v::as,tk,r0=>match jE v τ,bW R ps as (bc p tk []).2 (r0++fE (λ_=>1) p v.sh tk)with
   |some x,some (xs,rho,bs)=>if kF p v.sh then some ((x,xs),fE (λ_=>1) p v.sh tk++rho,bs)else none
   |_,_=>none
 | .io τ p::ps,a::as,tk,r0=>match rB R a with
   |some (t,s,v)=>(match jE v τ,bW R ps as (bc p (tk+1) []).2 (r0++(t,tk)::fE (λ_=>1) p v.sh (tk+1))with
    |some x,some (xs,rho,bs)=>if kF p v.sh then some ((x,xs),(t,tk)::fE (λ_=>1) p v.sh (tk+1)++rho,(t,s)::bs)else none
    |_,_=>none)
   |none=>none
 | .rd τ::ps,a::as,tk,r0=>match rB R a with
   |some (t,_,v)=>(match jE v τ,bW R ps as tk r0 with
    |some x,some (xs,rho,bs)=>if kF (yr τ) v.sh then some ((x,xs),(t,1)::fE (λ_=>1) (yr τ) v.sh tk++rho,bs)else none
    |_,_=>none)
   |none=>none
 | .vx e l::ps,.d v::as,tk,r0=>match jE v (.sl e),bW R ps as tk r0 with
   |some x,some (xs,rho,bs)=>if kF .shr v.sh then some ((x,xs),fE (UH r0 l) .shr v.sh tk++rho,bs)else none
   |_,_=>none
 |_,_,_,_=>none
def bz:(rs:List RK)->(rest:List Ty)->bu (rs.map RK.ty++rest)->Nat->List Nat->List SV×bu rest×Nat
 | [],_,r,tk,_=>([],r,tk)
 | .val τ p::rs,rest,r,tk,hs=>let s:=bc p tk hs;let z:=bz rs rest r.2 s.2 hs;(.d ⟨τ,r.1,s.1⟩::z.1,z.2)
 | .nbox τ p::rs,rest,r,tk,hs=>let s:=bc p (tk+1) hs;let z:=bz rs rest r.2 s.2 hs;(.box tk ⟨τ,r.1,s.1⟩::z.1,z.2)
def dK(hs:List Nat):(ps:List PK)->bu (bR ps)->List (Nat×Nat)->Nat->List (Nat×Nat×TV)
 | [],_,_,_=>[]
 | .val _ _::ps,r,bs,tk=>dK hs ps r bs tk
 | .io τ p::ps,r,(t,s)::bs,tk=>let z:=bc p tk hs;(t,s,⟨τ,r.1,z.1⟩)::dK hs ps r.2 bs z.2
 | .io _ _::_,_,[],_=>[]
 | .rd _::ps,r,bs,tk| .vx _ _::ps,r,bs,tk=>dK hs ps r bs tk
def eO:List RK->Nat->Nat
 | [],tk=>tk
 | .val _ p::rs,tk=>eO rs (bc p tk []).2
 | .nbox _ p::rs,tk=>eO rs (bc p (tk+1) []).2
def tX:List PK->Nat->Nat
 | [],tk=>tk
 | .val _ _::ps,tk=>tX ps tk
 | .io _ p::ps,tk=>tX ps (bc p tk []).2
 | .rd _::ps,tk| .vx _ _::ps,tk=>tX ps tk
def aU(p:Pt)(tk:Nat):Nat:=(bc p tk []).2
/-the tokens with which a function begins-/
def cE:List PK->Nat->Nat
 | [],tk=>tk
 | .val _ p::ps,tk=>cE ps (aU p tk)
 | .io _ p::ps,tk=>cE ps (aU p (tk+1))
 | .rd _::ps,tk| .vx _ _::ps,tk=>cE ps tk
def dg:List PK->Nat->List Nat
 | [],_=>[]
 | .val _ p::ps,tk=>dg ps (aU p tk)
 | .io _ p::ps,tk=>tk::dg ps (aU p (tk+1))
 | .rd _::ps,tk| .vx _ _::ps,tk=>dg ps tk
def UM:List PK->List Nat
 | []=>[]
 | .vx _ l::ps=>l++UM ps
 | .val _ _::ps| .io _ _::ps| .rd _::ps=>UM ps
def M8:List PK->Bool
 | []=>false
 | .rd _::_=>true
 | .val _ _::ps| .io _ _::ps| .vx _ _::ps=>M8 ps
def RK.pt:RK->Pt
 | .val _ p| .nbox _ p=>p
def E8:List PK->Bool
 | []=>false
 | .io _ p::ps=>p.vX||E8 ps
 | .val _ _::ps| .rd _::ps| .vx _ _::ps=>E8 ps
def WK(ps:List PK)(rs:List RK):Bool:=
 (UM ps).all (λc=>4<=c&&c<cE ps 4&& !(dg ps 4).contains c)&&(!M8 ps|| !(rs.any (λr=>r.pt.vX)||E8 ps))
def mS:Sh->List Bool->Option Nat
 | .sl (.row t _ _),[]=>some t
 | .pair a _,false::p=>mS a p
 | .pair _ b,true::p=>mS b p
 |_,_=>none
def BQ(R:Rd)(bs:List (Nat×Nat))(Io2:List (Nat×Nat×TV))(c:List (Nat×List Bool)):List (Nat×Nat):=
 c.filterMap λq=>match bs[q.1]?,Io2[q.1]? with
  |some b,some z=>(match R.box b.1 with
   |some r=>(match mS r.2.sh q.2,mS z.2.2.sh q.2 with
    |some u,some u'=>some (u,u')
    |_,_=>none)
   |none=>none)
  |_,_=>none
def tS:List SV->Option (List TV)
 | []=>some []
 | .d v::l=>(tS l).map (v::·)
 |_=>none
def oG:List SV->SV
 | [v]=>v
 |l=>match tS l with|some b=> .tup b|none=> .no
def pU(C:Cx)(R:Rd)(G:Option (Nat×Bool)):List Operand->List TypeId->Option (List SV)
 | [],[]=>some []
 |x::xs,t::ts=>match arg C R G t x,pU C R G xs ts with|some v,some vs=>some (v::vs)|_,_=>none
 |_,_=>none
def GY(C:Cx)(R:Rd)(tk:Nat)(G:Option (Nat×Bool))(f:FuncId)(args:List Operand)(ts:List TypeId):Option Ef:=
 match C.ct f with
 |none=>none
 |some c=>match pU C R G args ts with
  |none=>none
  |some as=>match bW R c.ps as 4 []with
   |none=>none
   |some (xs,rho,bs)=>
    if I7 rho&&tX c.ps (eO c.rs 0)<=32&&WK c.ps c.rs then
     let hs:=(2::(rho.filter (·.2=1)).map (·.1)).eraseDups
     let b:=((rho.filter (4<=·.2)).map (·.1)).filter λc=> !bs.any (·.1=c)
     if bs.isEmpty&&b.isEmpty then
      some (.opt _ (bu.aa _) (c.F xs) (λr=>oG (bz c.rs (bR c.ps) r tk hs).1))
     else
      some (.call _ (c.F xs) b (λr=>
       let z:=bz c.rs (bR c.ps) r tk hs
       (oG z.1,dK hs c.ps z.2.1 bs z.2.2))
       (λr=>
        let z:=bz c.rs (bR c.ps) r tk hs
        BQ R bs (dK hs c.ps z.2.1 bs z.2.2) c.kp))
    else none
def Dl(ops:List Oper)(c:Operand)(want:Bool):SV->Option SV
 | .g j w _ v=>(match c with| .tmp s=>if w=want&&(ops[j]?).bind (·.dst)=some s then some v else none|_=>none)
 |v=>some v
def bK(C:Cx)(ops:List Oper)(R:Rd)(tk:Nat)(G:Option (Nat×Bool))(o:Oper):Option Ef:=
 match o.op with
 | .move x| .assign x=>(arg C R G o.type x).map .val
 | .pick c a b=>(match arg C R G 0 c,gR C R o.type a,gR C R o.type b with
   |some (.d ⟨.bool,t,_⟩),some a,some b=>
    (match Dl ops c true a,Dl ops c false b with
    |some (.d ⟨.bool,p,_⟩),some (.d ⟨.bool,q,_⟩)=>some (.val (vB (if t=true then p else q)))
    |_,_=>none)
   |_,_,_=>none)
 | .alloc t=>(C.tt t).map λi=> .val (.box tk ⟨i.τ,i.τ.aa,iM i.τ (.sha [])⟩)
 | .box t x=>(match C.tt t,dJ C R G t x with
   |some i,some v=>if v.τ=i.τ then some (.val (.box tk v))else none
   |_,_=>none)
 | .build t ps=>(match C.tt t with
   |some i=>if i.fs.isEmpty then none else(uL C R G i ps.toList i.τ.aa (iM i.τ (.sha []))).map λr=> .val (.d ⟨i.τ,r.1,r.2⟩)
   |none=>none)
 | .buildSlice t n ps=>(match C.tt t with
   |some ⟨.sl e,_,el⟩=>if ps.size=n&&n*e.sz<=16777216 then(xK C R G el e 0 ps.toList).map λr=> .val (.d ⟨.sl e,r.1,.sl (ajK tk r.2)⟩)else none
   |_=>none)
 | .load t a=>(match C.tt t with
   |none=>none
   |some ti=>match arg C R G 0 a with
    |some (.ptr b o p _)=>(match R.box b with
     |some (_,v)=>(match jw v.τ v.x v.sh p with
      |some r=>if v.τ.off p=o&&r.τ=ti.τ then some (.val (.d r))else none
      |none=>none)
     |none=>none)
    |some (.ept b e i o p _)=>(match R.row b e with
     |some (l,hs,_)=>if e.off p=o&&e.sub p=some ti.τ then(jw e (l.getD i.toNat e.aa) (iM e (.sha (2::hs))) p).map λr=> .val (.d r)else none
     |none=>none)
    |some (.rdp _ v)=>if v.τ=ti.τ then some (.val (.d v))else none
    |_=>none)
 | .store t a x=>(match C.tt t,arg C R G 0 a,dJ C R G t x with
   |some ti,some (.ptr b o p _),some v=>(match R.box b with
    |some (s,u)=>if u.τ.off p=o&&v.τ=ti.τ then(iO u.τ u.x u.sh p v).map λr=> .put b s ⟨u.τ,r.1,r.2⟩else none
    |none=>none)
   |some ti,some (.ept b e i o p τ),some v=>(match R.row b e with
    |some (l,hs,nd)=>
     if e.off p=o&&e.sub p=some τ&&v.τ=τ&&v.τ=ti.τ then
      let own:Option (List Nat):=if τ.flat then none else match(M.row b hs nd).own,v.sh.own with
       |some a,some c=>if c.all (!a.contains ·)then some ((a++c).filter (·≠b))else none
       |_,_=>none
      let gv:=own.getD []
      let m:M:=if own.isSome then .row b [b] true else if τ.flat then .row b hs nd else .row b (hs++v.sh.aJ).eraseDups false
      if own.isNone&&v.sh.aJ.contains b then none else
      (iO e (l.getD i.toNat e.aa) (iM e (.sha [])) p v).map λr=> .elem gv b e (l.set i.toNat r.1) m
     else none
    |none=>none)
   |_,_,_=>none)
 | .nilCheck x=>(match arg C R G 0 x with
   |some (.ptr t o p τ)=>some (.val (.ptr t o p τ))
   |some (.ept t e i o p τ)=>some (.val (.ept t e i o p τ))
   |some (.rdp hs v)=>some (.val (.rdp hs v))
   |_=>none)
 | .binOp op t x y u=>(match C.tt t,dJ C R G t x,dJ C R G u y with|some i,some a,some b=>if a.τ=i.τ then ahs op a b else none|_,_,_=>none)
 | .unOp op t x=>(match op,dJ C R G t x with
   | .not,some ⟨.bool,b,_⟩=>some (.val (vB !b))
   | .neg,some ⟨.int k,n,_⟩=>some (.val (vI k (k.wrap (0-n))))
   |_,_=>none)
 | .convert s d x=>(match C.tt s with
   |some h=>(match C.tt d,dJ C R G s x with
    |some ⟨.int k,_,_⟩,some ⟨.int _,n,_⟩=>some (.val (vI k (k.wrap n)))
    |some ⟨.str,_,_⟩,some ⟨.str,v,_⟩=>some (.val (vS v))
    |some ⟨.str,_,_⟩,some ⟨.sl (.int .u8),l,_⟩=>if h.τ= .sl (.int .u8)then some (.val (vS ⟨(l.map λn=>UInt8.ofNat n.toNat).toArray⟩))else none
    |_,_=>none)
   |none=>none)
 | .makeSlice t n c=>(match C.tt t,dJ C R G 3 n,dJ C R G 3 c with
   |some ⟨.sl e,_,_⟩,some ⟨.int .i64,a,_⟩,some ⟨.int .i64,b,_⟩=>some (.chk (decide (0<=a/\a<4294967296/\b=a)) (.d ⟨.sl e,ala a.toNat e.aa,.sl (.row tk [tk] true)⟩))
   |_,_,_=>none)
 | .slice t x lo hi mx=>(match C.tt t with
   |none=>none
   |some ti=>match dJ C R G t x,lo.map (dJ C R G 3),hi.map (dJ C R G 3),mx with
    |some ⟨.sl e,l,.sl m⟩,none,none,none=>if ti.τ= .sl e then some (.val (.d ⟨.sl e,l,.sl (.sha m.aJ)⟩))else none
    |some ⟨.sl e,l,.sl m⟩,some (some ⟨.int .i64,a,_⟩),none,none=>if ti.τ= .sl e then some (.chk (decide (0<=a/\a<=l.length)) (.d ⟨.sl e,l.drop a.toNat,.sl (.sha m.aJ)⟩))else none
    |some ⟨.sl e,l,.sl m⟩,none,some (some ⟨.int .i64,b,_⟩),none=>if ti.τ= .sl e then some (.chk (decide (0<=b/\b<=l.length)) (.d ⟨.sl e,l.take b.toNat,.sl (.sha m.aJ)⟩))else none
    |some ⟨.sl e,l,.sl m⟩,some (some ⟨.int .i64,a,_⟩),some (some ⟨.int .i64,b,_⟩),none=>if ti.τ= .sl e then some (.chk (decide (0<=a/\a<=b/\b<=l.length)) (.d ⟨.sl e,(l.take b.toNat).drop a.toNat,.sl (.sha m.aJ)⟩))else none
    |some ⟨.str,s,_⟩,some (some ⟨.int .i64,a,_⟩),none,none=>if ti.τ= .str then some (.chk (decide (0<=a/\a<=s.size)) (vS (s.extract a.toNat s.size)))else none
    |some ⟨.str,s,_⟩,none,some (some ⟨.int .i64,b,_⟩),none=>if ti.τ= .str then some (.chk (decide (0<=b/\b<=s.size)) (vS (s.extract 0 b.toNat)))else none
    |some ⟨.str,s,_⟩,some (some ⟨.int .i64,a,_⟩),some (some ⟨.int .i64,b,_⟩),none=>if ti.τ= .str then some (.chk (decide (0<=a/\a<=b/\b<=s.size)) (vS (s.extract a.toNat b.toNat)))else none
    |_,_,_,_=>none)
 | .fieldAddr s x j=>(match C.tt s with
   |none=>none
   |some i=>if j<i.fs.length then
    (match i.τ.sub (dZ i.fs.length j),arg C R G 0 x with
    |some σ,some (.ptr t o p τ)=>if τ=i.τ then some (.val (.ptr t (o+i.τ.off (dZ i.fs.length j)) (p++dZ i.fs.length j) σ))else none
    |some σ,some (.ept t e n o p τ)=>if τ=i.τ then some (.val (.ept t e n (o+i.τ.off (dZ i.fs.length j)) (p++dZ i.fs.length j) σ))else none
    |some _,some (.rdp hs v)=>if v.τ=i.τ then(jw v.τ v.x v.sh (dZ i.fs.length j)).map λr=> .val (.rdp hs r)else none
    |_,_=>none)else none)
 | .field s x j=>(match C.tt s,dJ C R G s x with
   |some i,some v=>if v.τ=i.τ&&j<i.fs.length then(jw v.τ v.x v.sh (dZ i.fs.length j)).map λr=> .val (.d r)else none
   |_,_=>none)
 | .indexAddr t x n=>(match C.tt t,dJ C R G t x,dJ C R G 3 n with
   |some ti,some ⟨.sl e,l,.sl (.row u _ _)⟩,some ⟨.int _,i,_⟩=>if ti.τ= .sl e then some (.chk (decide (0<=i/\i<l.length)) (.ept u e i 0 [] e))else none
   |some ti,some ⟨.sl e,l,.sl (.sha hs)⟩,some ⟨.int _,i,_⟩=>if ti.τ= .sl e then some (.chk (decide (0<=i/\i<l.length)) (.rdp hs ⟨e,l.getD i.toNat e.aa,iM e (.sha (2::hs))⟩))else none
   |_,_,_=>none)
 | .index t x n=>(match C.tt t,dJ C R G t x,dJ C R G 3 n with
   |some ti,some ⟨.str,s,_⟩,some ⟨.int _,i,_⟩=>if ti.τ= .str then some (.chk (decide (0<=i/\i<s.size)) (vI .u8 (bt s i)))else none
   |_,_,_=>none)
 | .extract x j=>(match arg C R G 0 x with
   |some (.tup l)=>(l[j]?).map λv=> .val (.d v)
   |_=>none)
 | .call c=>(match c.callee with
   | .builtin b=>qL C R tk G b c.args.toList c.argTypes.toList
   | .value (.func f)=>GY C R tk G f c.args.toList c.argTypes.toList
   |_=>none)
 |_=>none
def ahU(ops:List Oper)(d:Option Nat):Bool:=
 ops.any λq=>match q.op,d with
  | .call c,some d=>(match c.callee,c.args.toList with| .builtin .append,[.tmp x,_]=>x=d|_,_=>false)
  |_,_=>false
def sX(C:Cx)(ops:List Oper)(R:Rd)(tk:Nat)(o:Oper):Option Ef:=
 match o.op with
 | .load t a=>(match C.tt t,arg C R none 0 a with
   |some ti,some (.ept b e i off p _)=>(match R.row b e with
    |some (l,hs,nd)=>if nd&&hs.all (·=b)&&ahU ops o.dst&&e.off p=off&&e.sub p=some ti.τ then
     (match jw e (l.getD i.toNat e.aa) (iM e (.sha [b])) p with
     |some ⟨.sl σ,x,_⟩=>some (.val (.d ⟨.sl σ,x,.sl (.nst b e i off p true)⟩))
     |_=>none)else none
    |none=>none)
   |_,_=>none)
 | .store t a x=>(match C.tt t,arg C R none 0 a,dJ C R none t x with
   |some ti,some (.ept b e i off p τ),some ⟨.sl σ,y,.sl (.nst b' e' i' off' p' _)⟩=>(match R.row b e with
    |some (l,hs,nd)=>if nd&&hs.all (·=b)&&b'=b&&e'=e&&off'=off&&p'=p&&e.off p=off&&e.sub p=some τ&&Ty.sl σ=τ&&τ=ti.τ then
     (iO e (l.getD i.toNat e.aa) (iM e (.sha [])) p ⟨.sl σ,y,.sl (.sha [])⟩).map λr=> .nap (decide (i=i')) [] b e (l.set i.toNat r.1) (.row b [b] true) .no
     else none
    |none=>none)
   |_,_,_=>none)
 | .call c=>(match c.callee,c.args.toList,c.argTypes.toList with
   | .builtin .append,[x,y],[t,u]=>(match C.tt t,dJ C R none t x,dJ C R none u y with
     |some ti,some ⟨.sl e,l,.sl (.nst b E i off p true)⟩,some ⟨.sl e',l',.sl m'⟩=>(match jE ⟨.sl e',l',.leaf⟩ (.sl e),R.row b E,m'.own with
      |some l2,some (L,hs,nd),some ys=>if nd&&hs.all (·=b)&& !ys.contains b&&ti.τ= .sl e&&u=t then
       some (.nap (decide (l.length+l2.length<4294967296)) (tk::ys) b E L (.row b [b] true) (.d ⟨.sl e,l++l2,.sl (.nst b E i off p false)⟩))else none
      |_,_,_=>none)
     |_,_,_=>none)
   |_,_,_=>none)
 |_=>none
def oj(C:Cx)(ops:List Oper)(R:Rd)(tk:Nat)(G:Option (Nat×Bool))(o:Oper):Option Ef:=
 match G with
 |none=>(match sX C ops R tk o with|some b=>some b|none=>bK C ops R tk none o)
 |some g=>bK C ops R tk (some g) o
def guardOf(ops:List Oper)(R:Rd):Option (Nat×Bool)->Option (Option Bool)
 |none=>some none
 |some (j,w)=>match(ops[j]?).bind (·.dst)with
  |none=>none
  |some s=>match R.get s with
   | .d ⟨.bool,b,_⟩=>some (some (b==w))
   | .g _ _ a (.d ⟨.bool,b,_⟩)=>some (some (a&&(b==w)))
   |_=>none
def SV.dV:SV->Bool
 | .box _ _=>true
 |_=>false
def SV.kT:SV->SV
 | .g _ _ _ _=> .no
 |v=>v
def eQ(G:Option (Nat×Bool))(a:Option Bool)(v:SV):SV:=
 match G,a with|some (j,w),some b=>if v.dV then .no else .g j w b v|_,_=>v.kT
def cg:List (Nat×Nat×TV)->List SV->List SV
 | [],E=>E
 |(t,s,v)::l,E=>cg l (E.set s (.box t v))
def Env.elem(E:Env)(gv:List Nat)(b:Nat)(e:Ty)(l:List e.den)(m:M):Env:=
 {E with s:=E.s.map λs=>((s.aX gv b).cj b).setRow b e l m}
section
variable{ρ:Type}
def bH(o:Oper)(a:Option Bool)(E:Env)(k:Env->Option ρ):Ef->Option ρ
 | .val v=>k (E.set o.dst (eQ o.guard a v))
 | .chk c v=>if(match a with|none=>c|some b=> !b||c)=true then k (E.set o.dst (eQ o.guard a v))else none
 | .opt _ z x f=>(match a with|none=>x|some b=>if b=true then x else some z).bind λr=>k (E.set o.dst (eQ o.guard a (f r)))
 | .put b s v=>if a.isNone&&o.dst.isNone then k {E with s:=E.s.set s (.box b v)}else none
 | .app c kl gv t v=>if a.isNone then(if c=true then k (((E.kill kl).aX gv t).set o.dst v.kT)else none)else none
 | .elem gv b e l m=>if a.isNone&&o.dst.isNone then k (E.elem gv b e l m)else none
 | .nap c gv b e l m v=>if a.isNone then(if c=true then k ((E.elem gv b e l m).set o.dst v.kT)else none)else none
 | .call _ x tks f rp=>if a.isNone then x.bind λr=>let E1:=E.cK tks (rp r);k (Env.set {E1 with s:=cg (f r).2 E1.s} o.dst (f r).1.kT)else none
end
def lC(ops:List Oper):Bool:=
 ops.zipIdx.all λp=>match p.1.guard with
  |none=>true
  |some (j,_)=>j<p.2&&match(ops[j]?).bind (·.dst)with
   |none=>false
   |some d=>ops.zipIdx.all λq=>q.2=j||q.1.dst≠some d
def keeps(io:List Nat)(ops:List Oper):Bool:=ops.all λo=>match o.dst with|some d=> !io.contains d|none=>true
def vo(E:Env)(ops:List Oper):Env:=
 if ops.all (·.guard.isNone)then E else {E with s:=E.s.map SV.kT}
section
variable{ρ:Type}
def aM{σ:Type}:Nat->((σ->Option ρ)->σ->Option ρ)->σ->Option ρ
 |0,_,_=>none
 |n+1,f,s=>f (aM n f) s
def aO{σ:Type}(a:(σ->Option ρ)->Option ρ)(b:σ->Option ρ):Option ρ:=a b
end
inductive Tr:Type 1 where
 |id
 |kg (kl gv:List Nat) (t:Nat)
 |el (gv:List Nat) (b:Nat) (e:Ty) (l:List e.den) (m:M)
 |ki (ts:List Nat) (rp:List (Nat×Nat))
def fq(ts:List Nat)(v:SV):SV:=if ts.isEmpty then v else v.kill ts
def mP(ts:List Nat)(t:Nat)(v:SV):SV:=if ts.isEmpty then v else v.aX ts t
def Tr.sv:Tr->SV->SV
 | .id=>λv=>v
 | .kg ks gv t=>λv=>mP gv t (fq ks v)
 | .el gv b e l m=>λv=>((v.aX gv b).cj b).setRow b e l m
 | .ki ts rp=>λv=>if rp.isEmpty then fq ts v else v.cK ts rp
def Tr.sD:Tr->Bool
 | .id=>true
 | .kg ks gv _=>ks.isEmpty&&gv.isEmpty
 | .ki ts rp=>ts.isEmpty&&rp.isEmpty
 |_=>false
def Tr.gz:Tr->List Nat
 | .id=>[]
 | .kg ks gv t=>t::(ks++gv)
 | .el gv b _ _ _=>b::gv
 | .ki ts rp=>ts++(rp.map (·.1)++rp.map (·.2))
def Tr.qs:Tr->List Nat
 | .id=>[]
 | .kg ks gv t=>t::(ks++gv)
 | .el gv _ _ _ _=>gv
 | .ki ts rp=>ts++(rp.map (·.1)++rp.map (·.2))
def Tr.ok:Tr->Bool
 | .el _ b _ _ m=>m.aJ.contains b
 |_=>true
def wr(d:Option Nat)(v:SV):List (Nat×SV):=match d with|some d=>[(d,v)]|none=>[]
def kj(o:Oper)(a:Option Bool):Ef->Option (Tr×List (Nat×SV))
 | .val v=>some (.id,wr o.dst (eQ o.guard a v))
 | .chk c v=>if(match a with|none=>c|some b=> !b||c)=true then some (.id,wr o.dst (eQ o.guard a v))else none
 | .opt _ z x f=>(match a with|none=>x|some b=>if b=true then x else some z).bind λr=>some (.id,wr o.dst (eQ o.guard a (f r)))
 | .put b s v=>if a.isNone&&o.dst.isNone then some (.id,[(s,.box b v)])else none
 | .app c kl gv t v=>if a.isNone then(if c=true then some (.kg kl gv t,wr o.dst v.kT)else none)else none
 | .elem gv b e l m=>if a.isNone&&o.dst.isNone then some (.el gv b e l m,[])else none
 | .nap c gv b e l m v=>if a.isNone then(if c=true then some (.el gv b e l m,wr o.dst v.kT)else none)else none
 | .call _ x tks f rp=>if a.isNone then x.bind λr=>some (.ki tks (rp r),(f r).2.map (λp=>(p.2.1,SV.box p.1 p.2.2))++wr o.dst (f r).1.kT)else none
def ud{ρ:Type}(o:Oper)(a:Option Bool)(d:Ef)(k:Tr×List (Nat×SV)->Option ρ):Option ρ:=
 match d with
 | .val v=>k (.id,wr o.dst (eQ o.guard a v))
 | .chk c v=>if(match a with|none=>c|some b=> !b||c)=true then k (.id,wr o.dst (eQ o.guard a v))else none
 | .opt _ z x f=>(match a with|none=>x|some b=>if b=true then x else some z).bind λr=>k (.id,wr o.dst (eQ o.guard a (f r)))
 | .put b s v=>if a.isNone&&o.dst.isNone then k (.id,[(s,.box b v)])else none
 | .app c kl gv t v=>if a.isNone then(if c=true then k (.kg kl gv t,wr o.dst v.kT)else none)else none
 | .elem gv b e l m=>if a.isNone&&o.dst.isNone then k (.el gv b e l m,[])else none
 | .nap c gv b e l m v=>if a.isNone then(if c=true then k (.el gv b e l m,wr o.dst v.kT)else none)else none
 | .call _ x tks f rp=>if a.isNone then x.bind λr=>k (.ki tks (rp r),(f r).2.map (λp=>(p.2.1,SV.box p.1 p.2.2))++wr o.dst (f r).1.kT)else none
def fC(ws:List (Nat×SV))(L:List SV):List SV:=ws.foldl (λL p=>L.set p.1 p.2) L
def Env.iD(E:Env)(r:Tr×List (Nat×SV)):Env:={E with s:=fC r.2 (E.s.map r.1.sv)}
def SV.fg:SV->List Nat
 | .no=>[]
 | .d v=>v.sh.aJ
 | .box t v=>t::v.sh.aJ
 | .ptr t _ _ _=>[t]
 | .ept t _ _ _ _ _=>[t]
 | .rdp hs v=>hs++v.sh.aJ
 | .tup l=>l.flatMap λv=>v.sh.aJ
 | .g _ _ _ v=>v.fg
def SV.clean:SV->Bool
 | .no=>false
 | .d v| .box _ v| .rdp _ v=>v.sh.live
 | .tup l=>l.all λv=>v.sh.live
 | .g _ _ _ v=>v.clean
 |_=>true
def tmpsOf(o:Oper):List Nat:=o.op.operands.toList.filterMap λ| .tmp s=>some s|_=>none
def SV.strip:SV->SV
 | .g _ _ _ v=>v
 |v=>v
def kW(ops:List Oper)(o:Oper):List Nat:=
 tmpsOf o++(match o.guard with|some (j,_)=>((ops[j]?).bind (·.dst)).toList|none=>[])
def zv(E:Env)(o:Oper):List Nat:=(tmpsOf o).filterMap λs=>match(E.rd.get s).strip with| .ptr b _ _ _=>some b|_=>none
def XK:SV->Option (Nat×Ty)
 | .ept b e _ _ _ _=>some (b,e)
 | .d ⟨_,_,.sl (.nst b e _ _ _ _)⟩=>some (b,e)
 |_=>none
def xY(E:Env)(o:Oper):List (Nat×Ty):=(tmpsOf o).filterMap λs=>XK (E.rd.get s).strip
def fy(t:Nat)(e:Ty):List SV->Nat->Option Nat
 | [],_=>none
 | .d v::l,i| .box _ v::l,i=>if(je t e v.τ v.x v.sh).isSome then some i else fy t e l (i+1)
 |_::l,i=>fy t e l (i+1)
def pf(v q:SV):Bool:=
 match v with
 | .no| .ept _ _ _ _ _ _| .rdp _ _=>true
 | .box t _=>(match q with| .box t' _=>t=t'|_=>false)
 |v=>v.clean&&v.fg.isEmpty
def eR(o:Oper):Bool:=match o.op with| .move _| .assign _| .nilCheck _| .fieldAddr _ _ _=>false|_=>true
def SV.xc:SV->List Nat
 | .ept t _ _ _ _ _=>[t]
 |_=>[]
def SV.Be:SV->List Nat
 | .ept _ _ _ _ _ _=>[]
 |v=>v.fg
structure eG:Type 1 where
 i:Nat
 rs:List Nat
 ra:List Nat
 te:List Nat
 tk:List Nat
 cl:Bool
 bx:List Nat
 rw:List (Nat×Nat)
 fd:Bool
 dz:Bool
 T:Tr
 ws:List (Nat×SV)
 nb:List Nat
 cp:Option (Nat×Nat×Option Nat×Bool)
def sameBox(v q:SV):Bool:=match v,q with| .box t u,.box t' u'=>t=t'&&u.τ=u'.τ|_,_=>false
def XM(o:Oper):Option (Nat×Nat×Option Nat):=
 match o.guard,o.dst with
 |none,some d=>(match o.op with
  | .move (.tmp s)| .assign (.tmp s)=>some (d,s,none)
  | .extract (.tmp s) j=>some (d,s,some j)
  |_=>none)
 |_,_=>none
def xy(j:Option Nat)(v:SV):Option SV:=
 match j with
 |none=>(match v with| .g _ _ _ _=>none|v=>some (cA v))
 |some j=>(match v with| .tup l=>(l[j]?).map .d|_=>none)
def Kt:SV->Bool
 | .d v=>v.τ.flat
 | .no| .ptr _ _ _ _| .ept _ _ _ _ _ _| .rdp _ _=>true
 |_=>false
def ga(ops:List Oper)(i:Nat)(o:Oper)(E:Env)(r:Tr×List (Nat×SV)):eG:=
 let b:=if eR o=true then zv E o else []
 let q:=if eR o=true then xY E o else []
 let rw:=q.filterMap λp=>(fy p.1 p.2 E.s 0).map λs=>(p.1,s)
 let c:=(kW ops o).filter λs=>(E.get s).dV
 let rs:=(kW ops o).filter (λs=> !(E.get s).dV)++b.filterMap (λt=>(eK E.s t 0).map (·.1))++rw.map (·.2)
 ⟨i,rs,c,rs.flatMap λs=>(E.get s).xc,rs.flatMap λs=>(E.get s).Be,rs.all λs=>(E.get s).clean,b,rw,
   rw.length=q.length&&b.all (λt=>(eK E.s t 0).isSome),
   r.2.all (λp=>pf (E.get p.1) p.2),r.1,r.2,(r.2.filter λp=> !sameBox (E.get p.1) p.2).map (·.1),none⟩
def zK(ops:List Oper)(i:Nat)(o:Oper)(E:Env)(r:Tr×List (Nat×SV)):eG:=
 match XM o with
 |some (d,s,j)=>⟨i,[],[],[],[],true,[],[],true,pf (E.get d) .no,.id,[],[],some (d,s,j,match xy j (E.get s)with|some x=>Kt x|none=>false)⟩
 |none=>ga ops i o E r
def eG.free(a b:eG):Bool:=
 a.ws.all (λp=> !b.rs.contains p.1&& !b.ra.contains p.1&&b.ws.all (λq=>q.1≠p.1)&&
  (match p.2 with| .box t _=> !b.bx.contains t|_=>true)&&b.rw.all (λq=>q.2<p.1|| !(p.2.dV||p.2.fg.contains q.1)))&&
 (a.T.sD||(b.rw.isEmpty&&b.tk.all (!a.T.gz.contains ·)&&b.te.all (!a.T.qs.contains ·)&&b.ws.all λp=>p.2.Be.all (!a.T.gz.contains ·)&&p.2.xc.all (!a.T.qs.contains ·)))
def Tr.abQ:Tr->Bool
 | .el _ _ _ _ _=>false
 |_=>true
def eG.abz(a b:eG):Bool:=
 a.ws.all (λp=> !b.rs.contains p.1&& !b.ra.contains p.1&&b.ws.all (λq=>q.1≠p.1)&&
  (match p.2 with| .box t _=> !b.bx.contains t|_=>true)&&b.rw.all (λq=>q.2<p.1|| !p.2.fg.contains q.1))&&
 (a.T.sD||((b.rw.isEmpty||a.T.abQ)&&b.tk.all (!a.T.gz.contains ·)&&b.te.all (!a.T.qs.contains ·)&&b.ws.all λp=>p.2.Be.all (!a.T.gz.contains ·)&&p.2.xc.all (!a.T.qs.contains ·)))
def eG.ind(a b:eG):Bool:=
 a.free b&&b.abz a&&(a.T.sD||b.T.sD)&&a.T.ok&&b.T.ok&&(a.T.sD||b.cl)&&a.fd&&b.fd&&a.dz&&b.dz&&(a.T.sD||a.rw.isEmpty)
def eG.Ca(d s:Nat)(e z:Bool)(b:eG):Bool:=
 z&& !b.rs.contains d&& !b.ra.contains d&&b.ws.all (λq=>q.1≠d)&& !b.nb.contains s&&b.rw.all (λq=>e||q.2<d)&&b.fd&&b.dz&&b.T.ok
def eG.Tw(a b:eG):Bool:=
 match a.cp,b.cp with
 |none,none=>a.ind b
 |some (d,s,_,e),none=>eG.Ca d s e a.dz b
 |none,some (d,s,_,e)=>eG.Ca d s e b.dz a
 |some (d,s,_,_),some (d',s',_,_)=>d≠d'&&s≠d'&&s'≠d
/-where ways meet-/
abbrev Ren:=List (Nat×Nat)
def SQ(r:Ren)(t c:Nat):Option Ren:=
 match r.lookup t with
 |some b=>if c=b then some r else none
 |none=>if r.any (λp=>p.2=c)then none else some ((t,c)::r)
def W8(c:Nat):Nat:=1000000000+c
def bindM(r:Ren):M->M->Option Ren
 | .row t _ _,.row c _ _=>SQ r t c
 | .sha [],.row c _ _=>SQ r (W8 c) c
 | .row _ _ _,.sha _=>some r
 | .sha _,.sha _=>some r
 |_,.dead=>some r
 |_,_=>none
def HD(r:Ren):Sh->Sh->Option Ren
 | .leaf,.leaf=>some r
 | .sl m,.sl m'=>bindM r m m'
 | .pair a b,.pair a' b'=>(HD r a a').bind λr=>HD r b b'
 |_,_=>none
def nK(r:Ren)(h:Nat):Nat:=if h<=3 then h else(r.lookup h).getD 2
def FC(r:Ren):M->M->Bool
 | .row t hs nd,.row c hc nd'=>r.lookup t=some c&&(!nd'||nd)&&hs.all λh=>hc.contains (nK r h)
 | .sha [],.row c _ _=>r.lookup (W8 c)=some c
 | .row t hs _,.sha hc=>(t::hs).all λh=>hc.contains (nK r h)
 | .sha hs,.sha hc=>hs.all λh=>hc.contains (nK r h)
 |_,.dead=>true
 |_,_=>false
def IP(r:Ren):Sh->Sh->Bool
 | .leaf,.leaf=>true
 | .sl m,.sl m'=>FC r m m'
 | .pair a b,.pair a' b'=>IP r a a'&&IP r b b'
 |_,_=>false
def ajs(E:Env)(r:Ren)(s:Nat):AK->Option Ren
 | .val _ sh=>match E.get s with| .d v=>HD r v.sh sh|_=>none
 | .box c _ sh=>match E.get s with| .box t v=>(SQ r t c).bind λr=>HD r v.sh sh|_=>none
 | .ptr _ _ _ _=>some r
 | .ept _ _ _ _ _=>some r
 | .rdp _ _ sh=>match E.get s with| .rdp _ v=>HD r v.sh sh|_=>none
def aao(E:Env):Ren->List (Nat×AK)->Option Ren
 |r,[]=>some r
 |r,(s,a)::l=>(ajs E r s a).bind λr=>aao E r l
def bu.app:(a:List Ty)->(b:List Ty)->bu a->bu b->bu (a++b)
 | [],_,_,y=>y
 |_::a,b,x,y=>(x.1,bu.app a b x.2 y)
def bu.fst:(a:List Ty)->(b:List Ty)->bu (a++b)->bu a
 | [],_,_=>()
 |_::a,b,x=>(x.1,bu.fst a b x.2)
def bu.snd:(a:List Ty)->(b:List Ty)->bu (a++b)->bu b
 | [],_,x=>x
 |_::a,b,x=>bu.snd a b x.2
def yN(E:Env)(r:Ren)(s:Nat):(a:AK)->Option (bu a.OZ)
 | .val τ sh=>match E.get s with
   | .d v=>if IP r v.sh sh then(match jE v τ with|some x=>some (x,())|none=>none)else none
   |_=>none
 | .box c τ sh=>match E.get s with
   | .box t v=>if IP r v.sh sh&&r.lookup t=some c then(match jE v τ with|some x=>some (x,())|none=>none)else none
   |_=>none
 | .ptr c o p τ=>match E.get s with
   | .ptr t o' p' τ'=>if r.lookup t=some c&&o'=o&&p'=p&&τ'=τ then some ()else none
   |_=>none
 | .ept c e o p τ=>match E.get s with
   | .ept t e' i o' p' τ'=>if r.lookup t=some c&&e'=e&&o'=o&&p'=p&&τ'=τ then some (i,())else none
   |_=>none
 | .rdp hs τ sh=>match E.get s with
   | .rdp hs' v=>if IP r v.sh sh&&hs'.all (λh=>hs.contains (nK r h))then(match jE v τ with|some x=>some (x,())|none=>none)else none
   |_=>none
def qw:List (Nat×AK)->List Ty
 | []=>[]
 |(_,a)::l=>a.OZ++qw l
def Je(E:Env)(r:Ren):(l:List (Nat×AK))->Option (bu (qw l))
 | []=>some ()
 |(s,a)::l=>match yN E r s a,Je E r l with
  |some x,some y=>some (bu.app a.OZ (qw l) x y)
  |_,_=>none
def AK.bt:AK->List Nat
 | .box c _ _| .ptr c _ _ _=>[c]
 |_=>[]
def AK.sc:AK->List Nat
 | .val _ sh| .box _ _ sh=>sh.aJ
 | .ept c _ _ _ _=>[c]
 | .rdp hs _ sh=>hs++sh.aJ
 |_=>[]
def ahJ(a:C5):Bool:=
 let b:=a.ks.flatMap λp=>p.2.bt
 let c:=a.ks.flatMap λp=>p.2.sc
 let s:=a.ks.map (·.1)
 4<=a.nt&&b.all (λx=>0<x&&x<a.nt&&x≠2&&x≠3)&&c.all (λx=>0<x&&x<a.nt&& !b.contains x)&&s.eraseDups.length=s.length
def A0(r:Ren)(b:Nat):Bool:=r.all λp=>4<=p.2&&p.2<b&&r.find? (·.2=p.2)==some p
def proj(a:C5)(E:Env):Option (bu (qw a.ks)):=
 match aao E [] a.ks with
 |some r=>if E.nt<=1000000000&&ahJ a&&A0 r a.nt then Je E r a.ks else none
 |none=>none
def sE:(a:AK)->bu a.OZ->SV
 | .val τ sh,x=> .d ⟨τ,x.1,sh⟩
 | .box c τ sh,x=> .box c ⟨τ,x.1,sh⟩
 | .ptr c o p τ,_=> .ptr c o p τ
 | .ept c e o p τ,x=> .ept c e x.1 o p τ
 | .rdp hs τ sh,x=> .rdp hs ⟨τ,x.1,sh⟩
def pH:(l:List (Nat×AK))->bu (qw l)->List SV->List SV
 | [],_,E=>E
 |(s,a)::l,x,E=>pH l (bu.snd a.OZ (qw l) x) (E.set s (sE a (bu.fst a.OZ (qw l) x)))
def mE(n:Nat)(a:C5)(x:bu (qw a.ks)):Env:=⟨pH a.ks x (ala n .no),a.nt,false⟩
def wA:Code->Option Nat
 | .region id _ _=>some id
 | .seq a _=>wA a
 | .block _ c=>wA c
 | .loop c=>wA c
 | .scope c=>wA c
 |_=>none
/-regions that draw their order-/
def Lk(ops:List Oper):List Nat:=
 ops.foldl (λacc o=>
  acc++[((o.after.toList.filter (Region.binds .any)).map (·.on)).foldl (λm j=>m ||| (2^j ||| acc.getD j 0)) 0]) []
def CZ(ops:List Oper)(c:List eG):Bool:=
 let B:=Lk ops
 (ops.zipIdx.all λp=>(match p.1.guard with|some (j,_)=>(B.getD p.2 0).testBit j|none=>true)&&p.1.after.toList.all λe=> !Region.binds .any e||e.on<p.2)&&
 c.all λb=>c.all λa=>b.i<=a.i||(B.getD b.i 0).testBit a.i||a.Tw b
section
variable{ρ:Type}
def CJ(C:Cx)(ops:List Oper)(b:Nat):List Oper->Nat->Env->List eG->(Env->List eG->Option ρ)->Option ρ
 | [],_,E,L,k=>k E L
 |o::l,i,E,L,k=>match guardOf ops E.rd o.guard with
  |none=>none
  |some a=>match oj C ops E.rd (b+32*i) o.guard o with
   |none=>none
   |some c=>ud o a c λr=>CJ C ops b l (i+1) (E.iD r) (zK ops i o E r::L) k
end
/-whole functions-/
def cI:(ps:List PK)->bu (ps.map PK.ty)->Nat->List SV×Nat
 | [],_,tk=>([],tk)
 | .val τ p::ps,x,tk=>let s:=bc p tk [1];let r:=cI ps x.2 s.2;(.d ⟨τ,x.1,s.1⟩::r.1,r.2)
 | .io τ p::ps,x,tk=>let s:=bc p (tk+1) [1];let r:=cI ps x.2 s.2;(.box tk ⟨τ,x.1,s.1⟩::r.1,r.2)
 | .rd τ::ps,x,tk=>let r:=cI ps x.2 tk;(.rdp [1] ⟨τ,x.1,(bc (yr τ) tk [1]).1⟩::r.1,r.2)
 | .vx e l::ps,x,tk=>let r:=cI ps x.2 tk;(.d ⟨.sl e,x.1,.sl (.sha (1::l))⟩::r.1,r.2)
def xS(c:Nat):Nat:=if c=1 then 1 else 2
def Oj:Pt->Sh->List Nat
 | .shr,.sl m=>m.aJ
 | .hd,.sl (.row _ hs _)=>hs
 | .pair a b,.pair x y=>Oj a x++Oj b y
 |_,_=>[]
def Qo(p:Pt)(s:Sh):Bool:= !(Oj p s).contains 3
def AQ(c:TypeId->Option TI)(E:Env):(rs:List RK)->List ResultVar->Nat->Option (bu (rs.map RK.ty)×List (Nat×Nat)×Nat)
 | [],[],tk=>some ((),[],tk)
 | .val τ p::rs,v::vs,tk=>match(match v with| .tmp s=>(match E.get s with| .d t=>some t|_=>none)| .cell s ty=>(match E.get s,c ty with| .box _ t,some i=>if i.τ=t.τ then some t else none|_,_=>none))with
   |none=>none
   |some t=>match jE t τ,AQ c E rs vs (bc p tk []).2 with
    |some x,some (xs,rho,tk')=>if kF p t.sh&&Qo p t.sh then some ((x,xs),fE xS p t.sh tk++rho,tk')else none
    |_,_=>none
 | .nbox τ p::rs,.tmp s::vs,tk=>match rB E.rd (E.rd.get s)with
   |none=>none
   |some (b,_,t)=>match jE t τ,AQ c E rs vs (bc p (tk+1) []).2 with
    |some x,some (xs,rho,tk')=>if kF p t.sh&&Qo p t.sh then some ((x,xs),(b,tk)::fE xS p t.sh (tk+1)++rho,tk')else none
    |_,_=>none
 |_,_,_=>none
def Fh(E:Env):(ps:List PK)->Nat->Nat->Nat->Option (bu (bR ps)×List (Nat×Nat))
 | [],_,_,_=>some ((),[])
 | .val _ p::ps,i,te,tk=>Fh E ps (i+1) (bc p te []).2 tk
 | .io τ p::ps,i,te,tk=>match E.get i,Fh E ps (i+1) (bc p (te+1) []).2 (bc p tk []).2 with
   | .box b v,some (xs,rho)=>(match jE v τ with
     |some x=>if kF p v.sh&&Qo p v.sh&&b=te then some ((x,xs),(b,te)::fE xS p v.sh tk++rho)else none
     |none=>none)
   |_,_=>none
 | .rd _::ps,i,te,tk| .vx _ _::ps,i,te,tk=>Fh E ps (i+1) te tk
def mq:List PK->Nat->List Nat
 | [],_=>[]
 | .val _ _::ps,i=>mq ps (i+1)
 | .io _ _::ps,i=>i::mq ps (i+1)
 | .rd _::ps,i| .vx _ _::ps,i=>mq ps (i+1)
def uQ:List PK->Nat->Nat->List (Nat×Ty×Sh)
 | [],_,_=>[]
 | .val _ p::ps,i,te=>uQ ps (i+1) (aU p te)
 | .io τ p::ps,i,te=>(i,τ,(bc p (te+1) [1]).1)::uQ ps (i+1) (aU p (te+1))
 | .rd _::ps,i,te| .vx _ _::ps,i,te=>uQ ps (i+1) te
def aez(E:Env)(ps:List PK)(b:List (Nat×List Bool)):Bool:=
 b.isEmpty||E.kp&&b.all λq=>match(uQ ps 0 4)[q.1]? with
  |some (i,τ,sh)=>(match E.get i,mS sh q.2 with
   | .box _ v,some u=>v.τ=τ&&mS v.sh q.2==some u
   |_,_=>false)
  |none=>false
def fin(b:TypeId->Option TI)(ps:List PK)(rs:List RK)(c:List (Nat×List Bool))(d:List ResultVar)(e:Nat)(E:Env):Option (bu (rs.map RK.ty++bR ps)):=
 match AQ b E rs d e with
 |some (xs,rho,tk)=>(match Fh E ps 0 4 tk with
  |some (ys,rho')=>if I7 (rho++rho')&&aez E ps c then some (bu.app _ _ xs ys)else none
  |none=>none)
 |none=>none
structure Gh where
 col:Nat->Nat
 hdr:Nat->Value
 bx:Nat->Bool
theorem eX.one{α:Type}{w:World}{sz:Nat}{R:α->List Value->List Nat->Prop}{l:List α}{v:Value}{B:List Nat}
 (h:eX w sz R l v B):v.oneCell'=true:=by
 rcases h with h|⟨b,off,cap,c,el,fz,Bs,rfl,_⟩;obtain⟨ao,e⟩:=h.1;rw[e];rfl;rfl
theorem eX.mono{w w':World}{e:Ty}{l:List e.den}{v:Value}{B:List Nat}(c:∀b∈B,w'.heap[b]?=w.heap[b]?)
 (h:eX w e.sz (aW w e) l v B):eX w' e.sz (aW w' e) l v B:=by
 have:aW w' (.sl e) l [v] B:=aW.mono c ⟨v,rfl,h⟩;obtain⟨v',o,h⟩:=this;cases o;exact h
def dL(o:Nat)(b c:List Value):List Value:=c.take o++b++c.drop (o+b.length)
def ak7(w:World)(G:Gh)(v:Value)(b:Nat)(E:Ty)(i:Int)(o:Nat)(fr:Bool):Prop:=
 4<=b/\0<=i/\∃(d off n cap:Nat) (c:Array Value) (el:TypeId) (L:List E.den) (e:List Nat),
  G.hdr b= .slice (some ⟨d,off,none⟩) n cap/\n<=cap/\G.col d=b/\w.heap[d]?=some (.cells c el (0,0))/\off+cap*E.sz<=c.size/\i<n/\o+1<=E.sz/\L.length=n/\
  aZ (aW w E) L (dL (i.toNat*E.sz+o) [v] ((c.toList.drop off).take (n*E.sz))) e/\(d::e).Nodup/\(∀x∈e,G.col x=b)/\
  (fr=true->((c.toList.drop off).take (n*E.sz))[i.toNat*E.sz+o]?=some v)
def cL(w:World)(G:Gh)(e:Ty)(l:List e.den)(v:Value):M->Prop
 | .row t hs nd=>4<=t/\G.hdr t=v/\∃B,eX w e.sz (aW w e) l v B/\
  ∀b c,B=b::c->G.col b=t/\b∉c/\(∀x∈c,G.col x∈hs)/\(nd=true->c.Nodup)
 | .sha hs=>(∃B,eX w e.sz (aW w e) l v B/\∀b∈B,G.col b∈hs)/\(hs=[]->v= .slice none 0 0)
 | .nst b E i o p fr=>(∃B,eX w e.sz (aW w e) l v B/\∀x∈B,G.col x=b)/\E.sub p=some (.sl e)/\E.off p=o/\ak7 w G v b E i o fr
 | .dead=>v.oneCell'=true
def bJ(w:World)(G:Gh):(τ:Ty)->τ.den->Sh->List Value->Prop
 | .int k,n,.leaf,cs=>cs=[.int k n]
 | .bool,b,.leaf,cs=>cs=[.bool b]
 | .str,s,.leaf,cs=>cs=[.string s]
 | .sl e,l,.sl m,cs=>∃v,cs=[v]/\cL w G e l v m
 | .pair a b,p,.pair s1 s2,cs=>∃c1 c,cs=c1++c/\bJ w G a p.1 s1 c1/\bJ w G b p.2 s2 c
 |_,_,_,_=>False
def cU(w:World)(G:Gh):SV->Value->Prop
 | .no,_=>True
 | .d v,mv=>∃cs,mv=eF v.τ cs/\bJ w G v.τ v.x v.sh cs
 | .box t v,mv=>∃h c el,mv= .pointer (some ⟨h,0,none⟩)/\4<=t/\G.hdr t=mv/\G.col h=t/\w.heap[h]?=some (.cells c el (0,0))/\bJ w G v.τ v.x v.sh c.toList
 | .ptr t o _ _,mv=>∃h,4<=t/\G.hdr t= .pointer (some ⟨h,0,none⟩)/\mv= .pointer (some ⟨h,o,none⟩)
 | .ept t e i o _ _,mv=>∃b off n cap,4<=t/\G.hdr t= .slice (some ⟨b,off,none⟩) n cap/\0<=i/\i<n/\mv= .pointer (some ⟨b,off+i.toNat*e.sz+o,none⟩)
 | .rdp hs v,mv=>∃b o c el k,mv= .pointer (some ⟨b,o,none⟩)/\w.heap[b]?=some (.cells c el k)/\o+v.τ.sz<=c.size/\G.col b∈hs/\bJ w G v.τ v.x v.sh ((c.toList.drop o).take v.τ.sz)
 | .tup l,mv=>∃j:List Value,mv= .tuple j.toArray/\j.length=l.length/\∀(i:Nat) (v:TV),l[i]?=some v->∃u cs,j[i]?=some u/\u=eF v.τ cs/\bJ w G v.τ v.x v.sh cs
 | .g _ _ act v,mv=>(act=true->v.dV=false/\cU w G v mv)/\(act=false->mv=undef)
def SV.sc:SV->List Nat
 | .d v| .box _ v=>v.sh.aJ
 | .rdp hs v=>hs++v.sh.aJ
 | .tup l=>l.flatMap λv=>v.sh.aJ
 | .g _ _ act v=>if act=true then v.sc else []
 |_=>[]
def SV.bt:SV->List Nat
 | .box t _| .ptr t _ _ _=>[t]
 | .g _ _ act v=>if act=true then v.bt else []
 |_=>[]
def SV.rt:SV->List Nat
 | .ept t _ _ _ _ _=>[t]
 | .g _ _ act v=>if act=true then v.rt else []
 |_=>[]
def SV.hc:SV->List Nat
 | .box t v=>t::v.sh.aJ
 |v=>v.sc
structure EH(S T:List Nat)(w w':World)(G G':Gh):Prop where
 heap:∀b,G.col b∈S->w'.heap[b]?=w.heap[b]?
 col:∀b,G.col b∈S->G'.col b=G.col b
 hdr:∀t∈T,G'.hdr t=G.hdr t
theorem EH.sub{S l T o:List Nat}{w w':World}{G G':Gh}(h:EH S T w w' G G')(hs:∀c∈l,c∈S)(p:∀c∈o,c∈T):EH l o w w' G G':=
 ⟨λb e=>h.heap b (hs _ e),λb e=>h.col b (hs _ e),λt e=>h.hdr t (p _ e)⟩
theorem cL.agree{w w':World}{G G':Gh}{e:Ty}{l:List e.den}{v:Value}{m:M}(h:EH m.aJ m.aJ w w' G G')(N:cL w G e l v m):cL w' G' e l v m:=by
 cases m with
 |row t R nd=>
  obtain⟨ht,hh,B,J,hc⟩:=N
  have q:∀b∈B,G.col b∈t::R:=by
   intro b y;cases B with
   |nil=>cases y
   |cons x I=>
    obtain⟨S,_,K,_⟩:=hc x I rfl;rcases l_.1 y with rfl|y;simp[S];exact ahz _ (K b y)
  refine⟨ht,(h.hdr t (by simp[M.aJ])).trans hh,B,eX.mono (λb y=>h.heap b (q b y)) J,?_⟩;intro b I e;obtain⟨S,h2,K,h4⟩:=hc b I e;subst e;refine⟨(h.col b (q b (by simp))).trans S,h2,λx u=> ?_,h4⟩;rw[h.col x (q x (by simp[u]))];exact K x u
 |sha R=>
  obtain⟨⟨B,J,hc⟩,hn⟩:=N;exact⟨⟨B,eX.mono (λb y=>h.heap b (hc b y)) J,λb y=>by rw[h.col b (hc b y)];exact hc b y⟩,hn⟩
 |nst b E i o p fr=>
  obtain⟨⟨B,J,hc⟩,R,ho,K,hi,z,off,n,cap,c,el,L,I,g1,g2,W,g4,g5,g6,g7,g8,g9,X,H,Y⟩:=N;have q:∀x,G.col x=b->G.col x∈(M.nst b E i o p fr).aJ:=λx u=>by simp[M.aJ,u]
  refine⟨⟨B,eX.mono (λx u=>h.heap x (q x (hc x u))) J,λx u=>(h.col x (q x (hc x u))).trans (hc x u)⟩,R,ho,K,hi,z,off,n,cap,c,el,L,I,
   (h.hdr b (by simp[M.aJ])).trans g1,g2,(h.col z (q z W)).trans W,(h.heap z (q z W)).trans g4,g5,g6,g7,g8,?_,X,λx u=>(h.col x (q x (H x u))).trans (H x u),Y⟩
  exact aZ.mono (λx=>w'.heap[x]?=w.heap[x]?) (λ_ _ _ hP u=>aW.mono hP u) (λx u=>h.heap x (q x (H x u))) g9
 |dead=>exact N
theorem bJ.agree{w w':World}{G G':Gh}:∀ {τ:Ty} {x:τ.den} {sh:Sh} {cs:List Value},EH sh.aJ sh.aJ w w' G G'->bJ w G τ x sh cs->bJ w' G' τ x sh cs
 | .int _,_,.leaf,_,_,h=>h
 | .bool,_,.leaf,_,_,h=>h
 | .str,_,.leaf,_,_,h=>h
 | .sl e,l,.sl m,cs,ha,h=>by obtain⟨v,rfl,o⟩:=h;exact⟨v,rfl,cL.agree ha o⟩
 | .pair a b,p,.pair s1 s2,cs,ha,h=>by
   obtain⟨q,u,rfl,y,z⟩:=h
   exact⟨q,u,rfl,bJ.agree (ha.sub (λc hc=>by simp[Sh.aJ,hc]) (λc hc=>by simp[Sh.aJ,hc])) y,
    bJ.agree (ha.sub (λc hc=>by simp[Sh.aJ,hc]) (λc hc=>by simp[Sh.aJ,hc])) z⟩
 | .int _,_,.sl _,_,_,h| .int _,_,.pair _ _,_,_,h| .bool,_,.sl _,_,_,h| .bool,_,.pair _ _,_,_,h
 | .str,_,.sl _,_,_,h| .str,_,.pair _ _,_,_,h| .sl _,_,.leaf,_,_,h| .sl _,_,.pair _ _,_,_,h
 | .pair _ _,_,.leaf,_,_,h| .pair _ _,_,.sl _,_,_,h=>h.elim
theorem cU.agree{w w':World}{G G':Gh}:∀ {s:SV} {mv:Value},EH s.hc (s.sc++s.bt++s.rt) w w' G G'->cU w G s mv->cU w' G' s mv
 | .no,_,_,_=>trivial
 | .d v,mv,ha,⟨y,h1,h2⟩=>⟨y,h1,bJ.agree (ha.sub (λc hc=>hc) (λc hc=>by simp[SV.sc,hc])) h2⟩
 | .box t v,mv,ha,⟨bk,c,el,h1,h2,h3,h4,h5,h6⟩=>
   ⟨bk,c,el,h1,h2,(ha.hdr t (by simp[SV.bt])).trans h3,(ha.col bk (by simp[SV.hc,h4])).trans h4,
    (ha.heap bk (by simp[SV.hc,h4])).trans h5,bJ.agree (ha.sub (λc hc=>by simp[SV.hc,hc]) (λc hc=>by simp[SV.sc,hc])) h6⟩
 | .ptr t o p τ,mv,ha,⟨bk,h1,h2,h3⟩=>⟨bk,h1,(ha.hdr t (by simp[SV.bt])).trans h2,h3⟩
 | .ept t e i o p τ,mv,ha,⟨b,off,n,cap,h1,h2,h3⟩=>⟨b,off,n,cap,h1,(ha.hdr t (by simp[SV.rt])).trans h2,h3⟩
 | .rdp hs v,mv,ha,⟨b,o,c,el,fz,h1,h2,h3,h4,h5⟩=>
   ⟨b,o,c,el,fz,h1,(ha.heap b (by simp[SV.hc,SV.sc,h4])).trans h2,h3,by rw[ha.col b (by simp[SV.hc,SV.sc,h4])];exact h4,
     bJ.agree (ha.sub (λc hc=>by simp[SV.hc,SV.sc,hc]) (λc hc=>by simp[SV.sc,hc])) h5⟩
 | .tup l,mv,ha,⟨vs,h1,h2,h3⟩=>by
   refine⟨vs,h1,h2,λi v z=> ?_⟩;obtain⟨u,y,B,H,q⟩:=h3 i v z;have h:∀c∈v.sh.aJ,c∈SV.sc (.tup l):=λc hc=>J_.2 ⟨v,aoo z,hc⟩;exact⟨u,y,B,H,bJ.agree (ha.sub h (λc hc=>by simp[h c hc])) q⟩
 | .g j w' false v,mv,ha,⟨h1,h2⟩=>⟨λe=>absurd e (by simp),h2⟩
 | .g j w' true v,mv,ha,⟨h1,h2⟩=>⟨λe=>⟨(h1 e).1,cU.agree (s:=v) (by
  have q:=(h1 e).1;cases v with
  |box t v=>simp[SV.dV]at q
  |_=>simpa[SV.hc,SV.sc,SV.bt,SV.rt]using ha) (h1 e).2⟩,h2⟩
theorem SV.IB:∀(s:SV) (c:Nat),c∈s.hc->c∈s.sc\/c∈s.bt
 | .no,c,h| .ptr ..,c,h| .ept ..,c,h=>by simp[SV.hc,SV.sc]at h
 | .d v,c,h| .rdp hs v,c,h| .tup l,c,h=> .inl h
 | .box t v,c,h=>by
   rcases l_.1 h with rfl|h;right;simp[SV.bt];left;exact h
 | .g _ _ _ v,c,h=> .inl h
structure C0 where
 col:Nat->Nat
 hdr:Nat->Option Value
structure Inv(w0:World)(c0:C0)(U:Nat->Prop)(E:Env)(a:Act)(w:World)(G:Gh):Prop where
 len:a.tmps.size=E.s.length
 slots:∀s,cU w G (E.s.getD s .no) (a.tmps.getD s undef)
 sc:∀s,∀c∈(E.s.getD s .no).sc,0<c/\U c/\G.bx c=false
 bt:∀s,∀t∈(E.s.getD s .no).bt,0<t/\U t/\G.bx t=true
 rt:∀s,∀t∈(E.s.getD s .no).rt,0<t/\U t/\G.bx t=false
 uni:∀s s' t v v',E.s.getD s .no= .box t v->E.s.getD s' .no= .box t v'->s=s'
 colU:∀b,0<G.col b->U (G.col b)
 lt:∀b,0<G.col b->b<w.heap.size
 fresh:∀b,4<=G.col b->∃c el,w.heap[b]?=some (.cells c el (0,0))
 frame:∀b,b<w0.heap.size->c0.col b<4->G.col b=c0.col b/\w.heap[b]?=w0.heap[b]?
 one:∀b,G.col b=1\/G.col b=3->b<w0.heap.size/\c0.col b=G.col b
 size:w0.heap.size<=w.heap.size
 os:w.os=w0.os
 tape:w.tape=w0.tape
 output:w.output=w0.output
 defers:a.defers=[]
 two:(U 2/\G.bx 2=false)/\U 3/\G.bx 3=false
 hk:E.kp=true->∀t v,c0.hdr t=some v->U t/\G.hdr t=v
def fA(l:List SV)(d s:Nat)(v:SV):(l.set d v).getD s .no=if s=d/\d<l.length then v else l.getD s .no:=by
 simp only[akQ,List.getElem?_set];by_cases h:d=s;subst h;by_cases b:d<l.length;simp[b];simp[b];simp[h,Ne.symm h]
def Xz(a:Act)(d:Option Nat)(v:Value)(s:Nat)(b:∀x,d=some x->x<a.tmps.size):
 (a.put d v).tmps.getD s undef=if some s=d then v else a.tmps.getD s undef:=by
 cases d with
 |none=>simp[Act.put]
 |some d=>
  have:=b d rfl;simp only[Act.put,aos,Array.getElem?_setIfInBounds,aar];by_cases h:d=s;subst h;simp[this];simp[h,Ne.symm h]
def W9(a:Act)(d:Nat)(v:Value)(h:¬d<a.tmps.size):a.put (some d) v=a:=by
 cases a;simp only[Act.put,Act.mk.injEq,and_true];exact Array.setIfInBounds_eq_of_size_le (by simpa using h)
def oU(a:Act)(d:Option Nat)(v:Value):(a.put d v).tmps.size=a.tmps.size:=by
 cases d<;>simp[Act.put]
def abH(a:Act)(d:Option Nat)(v:Value):(a.put d v).defers=a.defers:=by
 cases d<;>simp[Act.put]
section
variable{w0:World}{c0:C0}{U:Nat->Prop}{E:Env}{a:Act}{w:World}{G:Gh}
theorem Inv.put(h:Inv w0 c0 U E a w G)(d:Option Nat){sv:SV}{v:Value}(hs:cU w G sv v)
 (z:∀c∈sv.sc,0<c/\U c/\G.bx c=false) (B:∀c∈sv.bt,0<c/\U c/\G.bx c=true) (H:∀c∈sv.rt,0<c/\U c/\G.bx c=false)
 (o:∀t u,sv= .box t u->∀s p,E.s.getD s .no≠ .box t p):
 Inv w0 c0 U (E.set d sv) (a.put d v) w G:=by
 cases d with
 |none=>exact h
 |some d=>
  have l:∀s,(E.set (some d) sv).s.getD s .no=if s=d/\d<E.s.length then sv else E.s.getD s .no:=λs=>fA E.s d s sv
  refine {h with len:= ?_,slots:= ?_,sc:= ?_,bt:= ?_,rt:= ?_,uni:= ?_,defers:=by rw[abH];exact h.defers};rw[oU,h.len];simp[Env.set];intro s;rw[l];by_cases I:d<a.tmps.size;rw[Xz a (some d) v s (by rintro x ⟨⟩;exact I)];by_cases e:s=d;subst e;rw[an ⟨rfl,h.len▸I⟩,an rfl];exact hs;rw[a_ (by simp[e]),a_ (by simp[e])];exact h.slots s;rw[W9 a d v I,a_ (by rw[<-h.len];simp;omega)];exact h.slots s;intro s c b;rw[l]at b;split at b;exact z c b;exact h.sc s c b;intro s c b;rw[l]at b;split at b;exact B c b;exact h.bt s c b;intro s c b;rw[l]at b;split at b;exact H c b;exact h.rt s c b;intro s J t u p q y;rw[l]at q y;split at q<;>split at y;omega;exact absurd y (o t u q J p);exact absurd q (o t p y s u);exact h.uni s J t u p q y
theorem Inv.mono{U':Nat->Prop}(h:Inv w0 c0 U E a w G)(l:∀c,U c->U' c):Inv w0 c0 U' E a w G:=
 {h with
  sc:=λs c hc=>⟨(h.sc s c hc).1,l _ (h.sc s c hc).2.1,(h.sc s c hc).2.2⟩
  bt:=λs c hc=>⟨(h.bt s c hc).1,l _ (h.bt s c hc).2.1,(h.bt s c hc).2.2⟩
  rt:=λs c hc=>⟨(h.rt s c hc).1,l _ (h.rt s c hc).2.1,(h.rt s c hc).2.2⟩
  colU:=λb o=>l _ (h.colU b o)
  two:=⟨⟨l _ h.two.1.1,h.two.1.2⟩,l _ h.two.2.1,h.two.2.2⟩
  hk:=λhk t v e=>⟨l _ (h.hk hk t v e).1,(h.hk hk t v e).2⟩}
def size_alloc(w:World)(o:Obj):(w.alloc o).heap.size=w.heap.size+1:=Array.size_push ..
def Gh.add(G:Gh)(b t:Nat)(v:Value)(x:Bool):Gh:=
 ⟨λy=>if y=b then t else G.col y,λu=>if u=t then v else G.hdr u,λu=>if u=t then x else G.bx u⟩
theorem Inv.drawn(h:Inv w0 c0 U E a w G)(n:Nat):Inv w0 c0 U E a {w with drawn:=n} G:=by
 refine {h with slots:=λs=> ?_};exact cU.agree (w:=w) (G:=G) (G':=G) ⟨λ_ _=>rfl,λ_ _=>rfl,λ_ _=>rfl⟩ (h.slots s)
theorem Inv.alloc(h:Inv w0 c0 U E a w G){t:Nat}(ht:4<=t)(K:¬U t)(c:Array Value)(el:TypeId)(v:Value)(x:Bool):
 Inv w0 c0 (λu=>U u\/u=t) E a (w.alloc (.cells c el)) (G.add w.heap.size t v x):=by
 have I:∀b,0<G.col b->b≠w.heap.size:=λb l e=>by have:=h.lt b l;omega
 have o:∀u,U u->u≠t:=λu p e=>K (e▸p);refine⟨h.len,λs=> ?_,λs c hc=> ?_,λs c hc=> ?_,λs c hc=> ?_,h.uni,?_,?_,?_,?_,?_,?_,h.os,h.tape,h.output,h.defers,⟨⟨.inl h.two.1.1,by simp only[Gh.add];rw[a_ (by omega)];exact h.two.1.2⟩,.inl h.two.2.1,by simp only[Gh.add];rw[a_ (by omega)];exact h.two.2.2⟩,λB z H e=>⟨.inl (h.hk B z H e).1,by simp only[Gh.add];rw[a_ (o z (h.hk B z H e).1)];exact(h.hk B z H e).2⟩⟩;refine cU.agree (w:=w) (G:=G) ⟨λb l=> ?_,λb l=> ?_,λu p=> ?_⟩ (h.slots s);have:0<G.col b:=by rcases SV.IB _ _ l with l|l;exact(h.sc s _ l).1;exact(h.bt s _ l).1
 exact heap_alloc_old w _ b (h.lt b this);have:0<G.col b:=by rcases SV.IB _ _ l with l|l;exact(h.sc s _ l).1;exact(h.bt s _ l).1
 simp[Gh.add,I b this]
 have:U u:=by
  simp only[eH]at p;rcases p with(p|p)|p;exact(h.sc s u p).2.1;exact(h.bt s u p).2.1;exact(h.rt s u p).2.1
 simp[Gh.add,o u this];have:=h.sc s c hc;exact⟨this.1,.inl this.2.1,by simp[Gh.add,o c this.2.1,this.2.2]⟩;have:=h.bt s c hc;exact⟨this.1,.inl this.2.1,by simp[Gh.add,o c this.2.1,this.2.2]⟩;have:=h.rt s c hc;exact⟨this.1,.inl this.2.1,by simp[Gh.add,o c this.2.1,this.2.2]⟩;intro b l;by_cases e:b=w.heap.size;right;simp[Gh.add,e];left;simp only[Gh.add,e,if_false]at l|-;exact h.colU b l;intro b l;by_cases e:b=w.heap.size;rw[size_alloc];omega;simp only[Gh.add,e,if_false]at l;have:=h.lt b l;rw[size_alloc];omega;intro b l;by_cases e:b=w.heap.size;exact⟨c,el,by rw[e];exact heap_alloc_new w _⟩;simp only[Gh.add,e,if_false]at l;obtain⟨L,J,y⟩:=h.fresh b l;exact⟨L,J,by rw[heap_alloc_old w _ b (lt_of_block y)];exact y⟩;intro b l hc;have q:b<w.heap.size:=Nat.lt_of_lt_of_le l h.size;refine⟨?_,?_⟩;simp only[Gh.add,a_ (aoz q)];exact(h.frame b l hc).1;rw[heap_alloc_old w _ b q];exact(h.frame b l hc).2;intro b l;by_cases e:b=w.heap.size;simp[Gh.add,e]at l;omega;simp only[Gh.add,e,if_false]at l|-;exact h.one b l;have:=h.size;rw[size_alloc];omega
end
def jk(P:Program)(t:TypeId)(τ:Ty):Prop:=
 ∃inf d,P.info? t=some inf/\inf.size=τ.sz/\inf.zero=some (eF τ τ.zero)/\inf.bytes<=32768/\
  P.underlying t=some d/\(d matches .struct _| .array _ _)=τ.cQ
structure I8(P:Program)(τ:Ty)(fs:List TypeId)(j:Nat)(f:Field):Prop where
 off:f.offset=τ.off (dZ fs.length j)
 ty:fs[j]?=some f.type
 sub:∃σ,τ.sub (dZ fs.length j)=some σ/\jk P f.type σ
def Rp(P:Program)(t:TypeId)(i:TI):Prop:=
 jk P t i.τ/\match i.τ with
 | .int k=>P.underlying t=some (.int k)
 | .bool=>P.underlying t=some .bool
 | .str=>P.underlying t=some .string
 | .sl e=>P.underlying t=some (.slice i.el)/\jk P i.el e
 | .pair _ _=>∃fields,P.underlying t=some (.struct fields)/\fields.size=i.fs.length/\
  ∀(j:Nat) (f:Field),fields[j]?=some f->I8 P i.τ i.fs j f
section
variable{P:Program}{w:World}
def YM{t:TypeId}{inf:TypeInfo}(h:P.info? t=some inf):(typeInfo t).run P w= .ok inf w:=by
 simp[typeInfo,h]
def eY{t:TypeId}{τ:Ty}(h:jk P t τ):(Go.sizeOf t).run P w= .ok τ.sz w:=by
 obtain⟨inf,d,b,c,_⟩:=h;simp[Go.sizeOf,YM b,c]
def U5{t:TypeId}{τ:Ty}(h:jk P t τ):(zeroValue t).run P w= .ok (eF τ τ.zero) w:=by
 obtain⟨inf,d,b,h2,c,_⟩:=h;simp[zeroValue,YM b,c]
def xE{t:TypeId}{τ:Ty}(h:jk P t τ):(isAgg t).run P w= .ok τ.cQ w:=by
 obtain⟨inf,d,h1,h2,h3,h4,b,h6⟩:=h;rw[<-h6];cases d<;>simp[isAgg,run_underlying b]
def mR{τ:Ty}{cs:List Value}(c:cs.length=τ.sz)(d:∀v∈cs,v.oneCell'=true):(eF τ cs).cells.toList=cs:=by
 cases τ with
 |pair a b=>simp[eF,Value.cells]
 |_=>
  simp only[Ty.sz]at c
  match cs,c with
  | [v],_=>
    have:=d v (by simp);cases v<;>simp_all[eF,Value.cells,Value.oneCell']
def rW{τ:Ty}{cs:List Value}(b:cs.length=τ.sz)(c:∀v∈cs,v.oneCell'=true):(eF τ cs).cells.size=τ.sz:=by
 have:=congrArg aoR (mR b c);simpa[b]using this
def zX:∀(τ:Ty),∀v∈τ.zero,v.oneCell'=true:=λτ=>aW.one (aW.zero default τ)
def qK{b:Nat}{c:Array Value}{el:TypeId}{d:Nat×Nat}(e:w.heap[b]?=some (.cells c el d))(o:Nat):w.cell? ⟨b,o,none⟩=c[o]?:=by
 simp[World.cell?,e]
def TB{c:Array Value}{o n j:Nat}{v:Value}(h:((c.toList.drop o).take n)[j]?=some v):c[o+j]?=some v:=by
 rw[List.getElem?_take]at h;split at h;rw[List.getElem?_drop]at h;simpa using h;cases h
def zC{t:TypeId}{τ:Ty}(h:jk P t τ){b o:Nat}{c:Array Value}{el:TypeId}{l:Nat×Nat}
 (d:w.heap[b]?=some (.cells c el l)) (hs:o+τ.sz<=c.size):(loadVar t ⟨b,o,none⟩).run P w= .ok (eF τ ((c.toList.drop o).take τ.sz)) w:=by
 have hlen:((c.toList.drop o).take τ.sz).length=τ.sz:=by simp;omega
 cases e:τ.cQ with
 |true=>
  have i:=run_loadCells_list (P:=P) w ⟨b,o,none⟩ ((c.toList.drop o).take τ.sz) (λj v k=>by
   rw[Addr.add_lit,qK d];exact TB k)
  rw[hlen]at i;simp[loadVar,xE h,e,eY h,i];cases τ<;>simp_all[eF,Ty.cQ]
 |false=>
  have m:τ.sz=1:=by cases τ<;>simp_all[Ty.cQ,Ty.sz]
  have n:o<c.size:=by omega
  have hc:c[o]?=some c[o]:=adV n
  have p:(c.toList.drop o).take 1=[c[o]]:=by
   rw[List.take_one,aoT];simp[hc]
  rw[m,p];have q:eF τ [c[o]]=c[o]:=by cases τ<;>simp_all[eF,Ty.cQ]
  rw[q];simp only[loadVar,Sem.run_bind,xE h,e,Result.andThen_ok,aot,if_false,run_load,qK d,hc]
def yA{b:Nat}{c:Array Value}{el:TypeId}(d:w.heap[b]?=some (.cells c el (0,0)))(o:Nat):w.frozen? ⟨b,o,none⟩=false:=by
 simp[World.frozen?,d]
theorem cr(b:Nat):∀(c:List Value) (o:Nat) (w:World) (k:Nat),k≠b->(w.setCells b o c).heap[k]?=w.heap[k]?
 | [],_,_,_,_=>rfl
 |v::r,o,w,k,h=>by
  rw[World.setCells,cr b r (o+1) _ k h];exact heap_setCell_other w ⟨b,o,none⟩ k v h
theorem fH(b:Nat):∀(c:List Value) (o:Nat) (w:World),(w.setCells b o c).heap.size=w.heap.size
 | [],_,_=>rfl
 |v::r,o,w=>by rw[World.setCells,fH b r (o+1)];simp[World.setCell]
theorem cP(b:Nat):∀(c:List Value) (o:Nat) (w:World),(w.setCells b o c).os=w.os/\(w.setCells b o c).tape=w.tape/\(w.setCells b o c).output=w.output
 | [],_,_=>⟨rfl,rfl,rfl⟩
 |_::r,o,_=>cP b r (o+1) _
theorem iN(b:Nat){el:TypeId}:∀(d:List Value) (o:Nat) (w:World) (c:Array Value),w.heap[b]?=some (.cells c el (0,0))->o+d.length<=c.size->
 (w.setCells b o d).heap[b]?=some (.cells (c.toList.take o++d++c.toList.drop (o+d.length)).toArray el (0,0))
 | [],o,w,c,hb,_=>by simp[World.setCells,hb]
 |v::r,o,w,c,hb,hs=>by
  simp only[aok]at hs
  have e:(w.setCell ⟨b,o,none⟩ v).heap[b]?=some (.cells (c.setIfInBounds o v) el (0,0)):=by
   simp only[World.setCell,Array.getElem?_modify,hb];rfl
  rw[World.setCells,iN b r (o+1) _ _ e (by simp;omega)];congr 3;have h:o<c.toList.length:=by simp at hs|-;omega
  have i:(c.toList.set o v).drop (o+1+r.length)=c.toList.drop (o+(r.length+1)):=by
   rw[aoI (by omega)];congr 1;omega
  have j:(c.toList.set o v).take (o+1)=c.toList.take o++[v]:=by
   rw[aol (by simpa using h),aoJ (I' _)];simp
  simp only[aou,aok,i,j];simp
def We{t:TypeId}{τ:Ty}(h:jk P t τ){b o:Nat}{c:Array Value}{el:TypeId}{cs:List Value}
 (i:w.heap[b]?=some (.cells c el (0,0))) (hs:o+τ.sz<=c.size) (k:cs.length=τ.sz) (d:∀v∈cs,v.oneCell'=true):
 (storeVar t ⟨b,o,none⟩ (eF τ cs)).run P w= .ok () (w.setCells b o cs):=by
 have e:=run_storeCells_cells (P:=P) b o cs 0 w (λj l=>by rw[qK i];simp;omega) (λj l=>yA i _) d;simp[storeVar,eY h,rW k d,mR k d];simpa using e
end
section
variable{w:World}{G:Gh}
theorem bJ.len:∀ {τ:Ty} {x:τ.den} {sh:Sh} {cs:List Value},bJ w G τ x sh cs->cs.length=τ.sz
 | .int _,_,.leaf,_,h=>by rw[show _=_ from h];rfl
 | .bool,_,.leaf,_,h=>by rw[show _=_ from h];rfl
 | .str,_,.leaf,_,h=>by rw[show _=_ from h];rfl
 | .sl e,l,.sl m,cs,h=>by obtain⟨v,rfl,_⟩:=h;rfl
 | .pair a b,p,.pair s1 s2,cs,h=>by
   obtain⟨c1,c2,rfl,c,o⟩:=h;simp[Ty.sz,bJ.len c,bJ.len o]
 | .int _,_,.sl _,_,h| .int _,_,.pair _ _,_,h| .bool,_,.sl _,_,h| .bool,_,.pair _ _,_,h
 | .str,_,.sl _,_,h| .str,_,.pair _ _,_,h| .sl _,_,.leaf,_,h| .sl _,_,.pair _ _,_,h
 | .pair _ _,_,.leaf,_,h| .pair _ _,_,.sl _,_,h=>h.elim
theorem cL.one{e:Ty}{l:List e.den}{v:Value}{m:M}(h:cL w G e l v m):v.oneCell'=true:=by
 cases m with
 |row t q nd=>obtain⟨_,_,B,c,_⟩:=h;exact c.one
 |sha q=>obtain⟨⟨B,c,_⟩,_⟩:=h;exact c.one
 |nst b E i o p fr=>obtain⟨⟨B,c,_⟩,_⟩:=h;exact c.one
 |dead=>exact h
theorem bJ.one:∀ {τ:Ty} {x:τ.den} {sh:Sh} {cs:List Value},bJ w G τ x sh cs->∀v∈cs,v.oneCell'=true
 | .int _,_,.leaf,_,h,v,c=>by rw[show _=_ from h]at c;simp at c;subst c;rfl
 | .bool,_,.leaf,_,h,v,c=>by rw[show _=_ from h]at c;simp at c;subst c;rfl
 | .str,_,.leaf,_,h,v,c=>by rw[show _=_ from h]at c;simp at c;subst c;rfl
 | .sl e,l,.sl m,cs,h,v,c=>by obtain⟨u,rfl,o⟩:=h;simp at c;subst c;exact o.one
 | .pair a b,p,.pair s1 s2,cs,h,v,c=>by
   obtain⟨c1,c2,rfl,q,y⟩:=h;rcases eH.1 c with c|c;exact bJ.one q v c;exact bJ.one y v c
 | .int _,_,.sl _,_,h,_,_| .int _,_,.pair _ _,_,h,_,_| .bool,_,.sl _,_,h,_,_| .bool,_,.pair _ _,_,h,_,_
 | .str,_,.sl _,_,h,_,_| .str,_,.pair _ _,_,h,_,_| .sl _,_,.leaf,_,h,_,_| .sl _,_,.pair _ _,_,h,_,_
 | .pair _ _,_,.leaf,_,h,_,_| .pair _ _,_,.sl _,_,h,_,_=>h.elim
theorem bJ.sub:∀ {p:List Bool} {τ:Ty} {x:τ.den} {sh:Sh} {cs:List Value} {r:TV},jw τ x sh p=some r->bJ w G τ x sh cs->
 bJ w G r.τ r.x r.sh ((cs.drop (τ.off p)).take r.τ.sz)/\τ.off p+r.τ.sz<=τ.sz/\τ.sub p=some r.τ/\(∀c∈r.sh.aJ,c∈sh.aJ)
 | [],τ,x,sh,cs,r,hr,h=>by
   have:r=⟨τ,x,sh⟩:=by cases τ<;>simp_all[jw]
   subst this;refine⟨?_,?_,?_,λc hc=>hc⟩;have:=bJ.len h;cases τ<;>simpa[Ty.off,ahF (Nat.le_of_eq this)]using h;cases τ<;>simp[Ty.off];cases τ<;>simp[Ty.sub]
 |false::p,.pair a b,x,.pair s1 s2,cs,r,hr,h=>by
  obtain⟨y,z,rfl,l,v⟩:=h;obtain⟨o,hle,q,hc⟩:=bJ.sub (p:=p) (by simpa[jw]using hr) l;have u:=bJ.len l;refine⟨?_,by simp only[Ty.off,Ty.sz];omega,by simpa[Ty.sub]using q,λc e=>by simp[Sh.aJ,hc c e]⟩;simp only[Ty.off];rw[ale (by omega),akJ (by simp;omega)];exact o
 |true::p,.pair a b,x,.pair s1 s2,cs,r,hr,h=>by
  obtain⟨y,z,rfl,l,v⟩:=h;obtain⟨o,hle,q,hc⟩:=bJ.sub (p:=p) (by simpa[jw]using hr) v;have u:=bJ.len l;refine⟨?_,by simp only[Ty.off,Ty.sz];omega,by simpa[Ty.sub]using q,λc e=>by simp[Sh.aJ,hc c e]⟩;simp only[Ty.off];rw[<-u,aoj,ahG (by omega)];simpa using o
 |b::p,.int _,_,_,_,_,hr,_|b::p,.bool,_,_,_,_,hr,_|b::p,.str,_,_,_,_,hr,_|b::p,.sl _,_,_,_,_,hr,_=>by simp[jw]at hr
 |false::p,.pair _ _,_,.leaf,_,_,hr,_|false::p,.pair _ _,_,.sl _,_,_,hr,_=>by simp[jw]at hr
 |true::p,.pair _ _,_,.leaf,_,_,hr,_|true::p,.pair _ _,_,.sl _,_,_,hr,_=>by simp[jw]at hr
def fG{v:TV}{τ:Ty}{y:τ.den}(h:jE v τ=some y):v=⟨τ,y,v.sh⟩:=by
 obtain⟨σ,x,sh⟩:=v;unfold jE at h;split at h;rename_i e;simp only at e;subst e;simp only[cast_eq,aar]at h;subst h;rfl;cases h
theorem bJ.put:∀ {p:List Bool} {τ:Ty} {x:τ.den} {sh:Sh} {cs:List Value} {v:TV} {y:τ.den} {s:Sh} {cv:List Value},
 iO τ x sh p v=some (y,s)->bJ w G τ x sh cs->bJ w G v.τ v.x v.sh cv->
 bJ w G τ y s (cs.take (τ.off p)++cv++cs.drop (τ.off p+v.τ.sz))/\τ.off p+v.τ.sz<=τ.sz/\(∀c∈s.aJ,c∈sh.aJ\/c∈v.sh.aJ)
 | [],τ,x,sh,cs,v,y,s,cv,hp,h,hv=>by
   have H:jE v τ=some y/\s=v.sh:=by
    cases τ<;>(simp only[iO]at hp;split at hp<;>simp_all)
   obtain⟨hc,rfl⟩:=H;have e:=fG hc;have I:=bJ.len h;have K:τ.off []=0:=by cases τ<;>rfl
   have L:v.τ=τ:=by rw[e]
   refine⟨?_,by rw[K,L];omega,λc u=> .inr u⟩;rw[K,L,aoF,akO,aoL,ahG (by omega),ald];rw[e]at hv;exact hv
 |false::p,.pair a b,x,.pair s1 s2,cs,v,y,s,cv,hp,h,hv=>by
  obtain⟨N,R,rfl,q,J⟩:=h;simp only[iO]at hp;split at hp;rename_i S z B;cases hp;obtain⟨l,hle,o⟩:=bJ.put B q hv;have I:=bJ.len q;refine⟨⟨_,R,?_,l,J⟩,by simp only[Ty.off,Ty.sz];omega,λc hc=> ?_⟩;simp only[Ty.off];rw[akJ (by omega),ale (by omega)];simp;simp only[Sh.aJ,eH]at hc|-;rcases hc with hc|hc;rcases o c hc with h|h;exact .inl (.inl h);exact .inr h;exact .inl (.inr hc);cases hp
 |true::p,.pair a b,x,.pair s1 s2,cs,v,y,s,cv,hp,h,hv=>by
  obtain⟨N,R,rfl,q,J⟩:=h;simp only[iO]at hp;split at hp;rename_i S z B;cases hp;obtain⟨l,hle,o⟩:=bJ.put B J hv;have I:=bJ.len q;refine⟨⟨N,_,?_,q,l⟩,by simp only[Ty.off,Ty.sz];omega,λc hc=> ?_⟩;simp only[Ty.off];rw[<-I,aow,ahF (by omega),aoj,ahG (by omega)];simp[aoH];simp only[Sh.aJ,eH]at hc|-;rcases hc with hc|hc;exact .inl (.inl hc);rcases o c hc with h|h;exact .inl (.inr h);exact .inr h;cases hp
 |b::p,.int _,_,_,_,_,_,_,_,hp,_,_|b::p,.bool,_,_,_,_,_,_,_,hp,_,_|b::p,.str,_,_,_,_,_,_,_,hp,_,_|b::p,.sl _,_,_,_,_,_,_,_,hp,_,_=>by simp[iO]at hp
 |false::p,.pair _ _,_,.leaf,_,_,_,_,_,hp,_,_|false::p,.pair _ _,_,.sl _,_,_,_,_,_,hp,_,_=>by simp[iO]at hp
 |true::p,.pair _ _,_,.leaf,_,_,_,_,_,hp,_,_|true::p,.pair _ _,_,.sl _,_,_,_,_,_,hp,_,_=>by simp[iO]at hp
theorem qY:∀(τ:Ty) (m:M),∀c∈(iM τ m).aJ,c∈m.aJ
 | .int _,_,c,h| .bool,_,c,h| .str,_,c,h=>by simp[iM,Sh.aJ]at h
 | .sl _,_,c,h=>h
 | .pair a b,m,c,h=>by
   simp only[iM,Sh.aJ,eH]at h;rcases h with h|h;exact qY a m c h;exact qY b m c h
theorem bJ.Iv:∀ {τ:Ty} {x:τ.den} {cs:List Value} {B:List Nat} {hs:List Nat},aW w τ x cs B->(∀b∈B,G.col b∈hs)->hs≠ []->bJ w G τ x (iM τ (.sha hs)) cs
 | .int _,_,_,_,_,h,_,_=>h.1
 | .bool,_,_,_,_,h,_,_=>h.1
 | .str,_,_,_,_,h,_,_=>h.1
 | .sl e,l,cs,B,hs,h,hb,hn=>by obtain⟨v,rfl,o⟩:=h;exact⟨v,rfl,⟨B,o,hb⟩,λe=>absurd e hn⟩
 | .pair a b,p,cs,B,hs,h,hb,hn=>by
   obtain⟨q,u,B1,B2,rfl,rfl,y,z⟩:=h;exact⟨q,u,rfl,bJ.Iv y (λb c=>hb b (by simp[c])) hn,bJ.Iv z (λb c=>hb b (by simp[c])) hn⟩
theorem bJ.zero:∀(τ:Ty),bJ w G τ τ.aa (iM τ (.sha [])) τ.zero
 | .int _=>rfl
 | .bool=>rfl
 | .str=>rfl
 | .sl _=>⟨_,rfl,⟨[],.inl ⟨⟨none,rfl⟩,rfl,rfl⟩,by simp⟩,λ_=>rfl⟩
 | .pair a b=>⟨_,_,rfl,bJ.zero a,bJ.zero b⟩
theorem cL.rep{e:Ty}{l:List e.den}{v:Value}{m:M}(h:cL w G e l v m)(y:m≠ .dead):
 ∃B,eX w e.sz (aW w e) l v B/\∀b∈B,G.col b∈m.aJ:=by
 cases m with
 |row t I nd=>
  obtain⟨_,_,B,q,hc⟩:=h;refine⟨B,q,λb c=> ?_⟩;cases B with
  |nil=>cases c
  |cons x J=>
   obtain⟨z,_,H,_⟩:=hc x J rfl;rcases l_.1 c with rfl|c;simp[M.aJ,z];simp[M.aJ,H b c]
 |sha I=>exact h.1
 |nst b E i o p fr=>obtain⟨⟨B,q,hc⟩,_⟩:=h;exact⟨B,q,λx u=>by simp[M.aJ,hc x u]⟩
 |dead=>exact absurd rfl y
theorem bJ.rep:∀ {τ:Ty} {x:τ.den} {sh:Sh} {cs:List Value},bJ w G τ x sh cs->sh.live=true->∃B,aW w τ x cs B/\∀b∈B,G.col b∈sh.aJ
 | .int _,_,.leaf,_,h,_=>⟨[],⟨h,rfl⟩,by simp⟩
 | .bool,_,.leaf,_,h,_=>⟨[],⟨h,rfl⟩,by simp⟩
 | .str,_,.leaf,_,h,_=>⟨[],⟨h,rfl⟩,by simp⟩
 | .sl e,l,.sl m,cs,h,hl=>by
   obtain⟨v,rfl,z⟩:=h;obtain⟨B,H,hc⟩:=z.rep (by rintro rfl;simp[Sh.live]at hl);exact⟨B,⟨v,rfl,H⟩,hc⟩
 | .pair a b,p,.pair s1 s2,cs,h,hl=>by
   obtain⟨I,J,rfl,K,L⟩:=h;simp only[Sh.live,K']at hl;obtain⟨u,N,o⟩:=bJ.rep K hl.1;obtain⟨y,R,q⟩:=bJ.rep L hl.2;refine⟨u++y,⟨I,J,u,y,rfl,rfl,N,R⟩,λb c=> ?_⟩;simp only[Sh.aJ,eH];rcases eH.1 c with c|c;exact .inl (o b c);exact .inr (q b c)
 | .int _,_,.sl _,_,h,_| .int _,_,.pair _ _,_,h,_| .bool,_,.sl _,_,h,_| .bool,_,.pair _ _,_,h,_
 | .str,_,.sl _,_,h,_| .str,_,.pair _ _,_,h,_| .sl _,_,.leaf,_,h,_| .sl _,_,.pair _ _,_,h,_
 | .pair _ _,_,.leaf,_,h,_| .pair _ _,_,.sl _,_,h,_=>h.elim
theorem Br:∀ {τ:Ty} {cs r:List Value} {x:τ.den},decode τ cs=some (x,r)->∃c,cs=c++r/\bJ w G τ x (iM τ (.sha [])) c
 | .int k,cs,r,x,h=>by
   match cs,h with
   | .int k' n::r',h=>
     simp only[decode]at h;split at h;rename_i e;simp only[aar,P']at h;obtain⟨rfl,rfl⟩:=h;subst e;exact⟨[_],rfl,rfl⟩;cases h
 | .bool,cs,r,x,h=>by
   match cs,h with
   | .bool b::r',h=>simp only[decode,aar,P']at h;obtain⟨rfl,rfl⟩:=h;exact⟨[_],rfl,rfl⟩
 | .str,cs,r,x,h=>by
   match cs,h with
   | .string b::r',h=>simp only[decode,aar,P']at h;obtain⟨rfl,rfl⟩:=h;exact⟨[_],rfl,rfl⟩
 | .sl e,cs,r,x,h=>by
   match cs,h with
   | .slice none 0 0::r',h=>simp only[decode,aar,P']at h;obtain⟨rfl,rfl⟩:=h;exact⟨[_],rfl,_,rfl,⟨[],.inl ⟨⟨none,rfl⟩,rfl,rfl⟩,by simp⟩,λ_=>rfl⟩
 | .pair a b,cs,r,x,h=>by
   simp only[decode]at h;split at h;rename_i x1 r1 j;split at h;rename_i y1 r2 l;simp only[aar,P']at h;obtain⟨rfl,rfl⟩:=h;obtain⟨d,rfl,m⟩:=Br j;obtain⟨i,rfl,o⟩:=Br l;exact⟨d++i,by simp,d,i,rfl,m,o⟩;cases h;cases h
def aec{τ:Ty}{v:Value}{r:TV}(h:GP τ v=some r):cU w G (.d r) v/\r.sh=iM r.τ (.sha [])/\r.τ=τ:=by
 unfold GP at h;split at h;rename_i a b cs;split at h;rename_i x i;cases h;obtain⟨c,hc,e⟩:=Br (w:=w) (G:=G) i;refine⟨⟨c,?_,e⟩,rfl,rfl⟩;simp only[ald]at hc;simp[eF,<-hc];cases h;cases h;rename_i hnp;split at h;rename_i x i;cases h;obtain⟨c,hc,e⟩:=Br (w:=w) (G:=G) i;refine⟨⟨c,?_,e⟩,rfl,rfl⟩;simp only[ald]at hc;subst hc;cases τ with
 |pair a b=>
  exfalso;have:=e.len;simp only[List.length_singleton,Ty.sz]at this;have h1:=a.qO;have h2:=b.qO;omega
 |_=>rfl
 cases h
end
def ag0(P:Program)(t:TypeId)(τ:Ty):Prop:=
 ∀(w:World) (op:BinOp) (x y:Operand) (a b:τ.den) (c1 c:List Value),(op= .eql\/op= .neq)->aW w τ a c1 []->aW w τ b c []->
  (do eqGuard op t x y (eF τ c1) (eF τ c);binOp op t (eF τ c1) (eF τ c)).run P w= .ok (.bool (if op= .eql then eqv τ a b else !eqv τ a b)) w
structure CxTy(P:Program)(C:Cx):Prop where
 tt:∀t i,C.tt t=some i->Rp P t i
 eq:∀t i,C.tt t=some i->i.τ.cQ=true->i.τ.flat=true->ag0 P t i.τ
 fs:∀t i,C.tt t=some i->i.τ.cQ=false->i.fs=[]
 u8:∀t i,C.tt t=some i->i.τ= .sl (.int .u8)->P.underlying i.el=some (.int .u8)
def bM(U:Nat->Prop)(G:Gh)(v:SV):Prop:=
 (∀c∈v.sc,0<c/\U c/\G.bx c=false)/\(∀c∈v.bt,0<c/\U c/\G.bx c=true)/\(∀c∈v.rt,0<c/\U c/\G.bx c=false)
def RI(ops:List Oper)(E:Env)(tmps:Array Value):Prop:=
 ∀s j w act v,E.s.getD s .no= .g j w act v->(act=true↔yielded ops.toArray tmps j=some w)
def Gd(ops:List Oper)(tmps:Array Value)(G:Option (Nat×Bool)):Prop:=∀j w,G=some (j,w)->yielded ops.toArray tmps j=some w
def Yields(w0:World)(c0:C0)(U:Nat->Prop)(E:Env)(a:Act)(r:Result Next)(sv:SV):Prop:=
 ∃mv w' G',r= .ok (.value mv) w'/\Inv w0 c0 U E a w' G'/\cU w' G' sv mv/\bM U G' sv/\(∀t u,sv= .box t u->∀s b,E.s.getD s .no≠ .box t b)
section
variable{P:Program}{C:Cx}{w0:World}{c0:C0}{U:Nat->Prop}{E:Env}{a:Act}{w:World}{G:Gh}{ops:List Oper}{g:Option (Nat×Bool)}
theorem Inv.wc(h:Inv w0 c0 U E a w G)(s:Nat):bM U G (E.s.getD s .no):=⟨h.sc s,h.bt s,h.rt s⟩
theorem bM.nil{v:TV}(h:v.sh.aJ=[]):bM U G (.d v):=⟨by simp[SV.sc,h],by simp[SV.bt],by simp[SV.rt]⟩
theorem bM.d{v:TV}(h:∀c∈v.sh.aJ,0<c/\U c/\G.bx c=false):bM U G (.d v):=⟨h,by simp[SV.bt],by simp[SV.rt]⟩
def ajV{s:SV}{v:Value}(d:cU w G s v)(i:∀j w' act u,s= .g j w' act u->(act=true↔yielded ops.toArray a.tmps j=some w'))(k:Gd ops a.tmps g){sv:SV}(h:AN g s=some sv):
 cU w G sv v/\(∀c∈sv.sc,c∈s.sc)/\(∀c∈sv.bt,c∈s.bt)/\(∀c∈sv.rt,c∈s.rt):=by
 cases s with
 |g j w' act u=>
  simp only[AN]at h;split at h;rename_i e;cases h;have b:act=true:=(i j w' act sv rfl).2 (k j w' e);subst b;exact⟨(d.1 rfl).2,λc hc=>by simpa[SV.sc]using hc,λc hc=>by simpa[SV.bt]using hc,λc hc=>by simpa[SV.rt]using hc⟩;cases h
 |_=>simp only[AN,aar]at h;subst h;exact⟨d,λc hc=>hc,λc hc=>hc,λc hc=>hc⟩
theorem Iu:∀ {sv:SV} {v:Value},cU w G sv v->cU w G (cA sv) v
 | .box t u,v,h=>by obtain⟨i,c,el,b,k,l,h4,h5,h6⟩:=h;exact⟨i,k,l.trans b,b⟩
 | .g j w' act u,v,h=>⟨λe=>⟨by
  have:=(h.1 e).1;cases u<;>first|rfl|(simp[SV.dV]at this),Iu (h.1 e).2⟩,h.2⟩
 | .no,_,h| .d _,_,h| .ptr ..,_,h| .ept ..,_,h| .rdp ..,_,h| .tup _,_,h=>h
theorem UA:∀sv:SV,(∀c∈(cA sv).sc,c∈sv.sc)/\(∀c∈(cA sv).bt,c∈sv.bt)/\(∀c∈(cA sv).rt,c∈sv.rt)
 | .box t u=>⟨by simp[cA,SV.sc],by simp[cA,SV.bt],by simp[cA,SV.rt]⟩
 | .g j w' true u=>by
   obtain⟨b,e,i⟩:=UA u;exact⟨λc hc=>by simp only[cA,SV.sc,if_true]at hc|-;exact b c hc,λc hc=>by simp only[cA,SV.bt,if_true]at hc|-;exact e c hc,λc hc=>by simp only[cA,SV.rt,if_true]at hc|-;exact i c hc⟩
 | .g j w' false u=>⟨λc hc=>by simp[cA,SV.sc]at hc,λc hc=>by simp[cA,SV.bt]at hc,λc hc=>by simp[cA,SV.rt]at hc⟩
 | .no| .d _| .ptr ..| .ept ..| .rdp ..| .tup _=>⟨λ_ h=>h,λ_ h=>h,λ_ h=>h⟩
def Kz:∀sv t u,cA sv≠ .box t u
 | .box _ _,_,_,h| .g _ _ _ _,_,_,h| .no,_,_,h| .d _,_,_,h| .ptr ..,_,_,h| .ept ..,_,_,h| .rdp ..,_,_,h| .tup _,_,_,h=>by simp[cA]at h
theorem aaC(j:Inv w0 c0 U E a w G){t:TypeId}{x:Operand}{sv:SV}(h:gR C E.rd t x=some sv):cU w G sv (a.eval x)/\bM U G sv:=by
 cases x with
 |tmp s=>
  simp only[gR,aar]at h;subst h;have b:=j.wc s;obtain⟨e,i,k⟩:=UA (E.s.getD s .no);exact⟨Iu (j.slots s),λc hc=>b.1 c (e c hc),λc hc=>b.2.1 c (i c hc),λc hc=>b.2.2 c (k c hc)⟩
 |const v=>
  simp only[gR]at h;split at h;rw[m_]at h;obtain⟨r,l,rfl⟩:=h;obtain⟨e,i,k⟩:=aec (w:=w) (G:=G) l;refine⟨e,bM.d λc hc=> ?_⟩;rw[i]at hc;have:=qY _ _ c hc;simp[M.aJ]at this;cases h
 |global g=>simp[gR]at h
 |func f=>simp[gR]at h
def ae2(k:RI ops E a.tmps){t:TypeId}{x:Operand}{s:SV}(h:gR C E.rd t x=some s):
 ∀j w' act u,s= .g j w' act u->(act=true↔yielded ops.toArray a.tmps j=some w'):=by
 intro j w' act u e;cases x with
 |tmp n=>
  simp only[gR,aar]at h;have b:cA (E.s.getD n .no)= .g j w' act u:=h.trans e;cases d:E.s.getD n .no with
  |g l i c m=>rw[d]at b;simp only[cA,SV.g.injEq]at b;obtain⟨rfl,rfl,rfl,_⟩:=b;exact k n l i c m d
  |_=>rw[d]at b;simp[cA]at b
 |const v=>
  simp only[gR]at h;split at h;rw[m_]at h;obtain⟨r,hr,rfl⟩:=h;cases e;cases h
 |global g=>simp[gR]at h
 |func f=>simp[gR]at h
def gP(e:Inv w0 c0 U E a w G)(i:RI ops E a.tmps)(j:Gd ops a.tmps g){t:TypeId}{x:Operand}{sv:SV}(h:arg C E.rd g t x=some sv):
 cU w G sv (a.eval x)/\bM U G sv:=by
 simp only[arg,aoC]at h;obtain⟨s,d,k⟩:=h;obtain⟨l,b⟩:=aaC e d;obtain⟨m,n,o,h6⟩:=ajV l (ae2 i d) j k;exact⟨m,λc hc=>b.1 c (n c hc),λc hc=>b.2.1 c (o c hc),λc hc=>b.2.2 c (h6 c hc)⟩
def kZ(e:Inv w0 c0 U E a w G)(i:RI ops E a.tmps)(j:Gd ops a.tmps g){t:TypeId}{x:Operand}{v:TV}(h:dJ C E.rd g t x=some v):
 (∃cs,a.eval x=eF v.τ cs/\bJ w G v.τ v.x v.sh cs)/\(∀c∈v.sh.aJ,0<c/\U c/\G.bx c=false)/\v.sh.live=true:=by
 simp only[dJ]at h;split at h;rename_i u b;split at h;rename_i d;cases h;obtain⟨k,l⟩:=gP e i j b;exact⟨k,l.1,d⟩;cases h;cases h
/-scalars-/
def eW(d:Inv w0 c0 U E a w G)(e:RI ops E a.tmps)(i:Gd ops a.tmps g){t:TypeId}{x:Operand}{k:IntKind}{n:Int}{sh:Sh}
 (h:dJ C E.rd g t x=some ⟨.int k,n,sh⟩):a.eval x= .int k n:=by
 obtain⟨⟨j,l,c⟩,_⟩:=kZ d e i h;cases sh with
 |leaf=>rw[l,show j=_ from c];rfl
 |sl m=>exact c.elim
 |pair a b=>exact c.elim
def GO(d:Inv w0 c0 U E a w G)(e:RI ops E a.tmps)(i:Gd ops a.tmps g){t:TypeId}{x:Operand}{b:Bool}{sh:Sh}
 (h:dJ C E.rd g t x=some ⟨.bool,b,sh⟩):a.eval x= .bool b:=by
 obtain⟨⟨j,k,c⟩,_⟩:=kZ d e i h;cases sh with
 |leaf=>rw[k,show j=_ from c];rfl
 |sl m=>exact c.elim
 |pair a b=>exact c.elim
def qI(d:Inv w0 c0 U E a w G)(e:RI ops E a.tmps)(i:Gd ops a.tmps g){t:TypeId}{x:Operand}{s:ByteArray}{sh:Sh}
 (h:dJ C E.rd g t x=some ⟨.str,s,sh⟩):a.eval x= .string s:=by
 obtain⟨⟨j,k,c⟩,_⟩:=kZ d e i h;cases sh with
 |leaf=>rw[k,show j=_ from c];rfl
 |sl m=>exact c.elim
 |pair a b=>exact c.elim
def ll(i:Inv w0 c0 U E a w G)(j:RI ops E a.tmps)(k:Gd ops a.tmps g){t:TypeId}{x:Operand}{e:Ty}{l:List e.den}{sh:Sh}
 (h:dJ C E.rd g t x=some ⟨.sl e,l,sh⟩):∃m,sh= .sl m/\cL w G e l (a.eval x) m/\m≠ .dead/\(∀c∈m.aJ,0<c/\U c/\G.bx c=false):=by
 obtain⟨⟨cs,n,d⟩,o,p⟩:=kZ i j k h;cases sh with
 |leaf=>exact d.elim
 |sl m=>
  obtain⟨v,rfl,q⟩:=d;exact⟨m,rfl,by rw[n];exact q,by rintro rfl;simp[Sh.live]at p,o⟩
 |pair a b=>exact d.elim
def dw(b:Inv w0 c0 U E a w G){r:Result Next}{sv:SV}{mv:Value}(c:r= .ok (.value mv) w)(hs:cU w G sv mv)(d:bM U G sv)
 (h:∀t u,sv≠ .box t u):Yields w0 c0 U E a r sv:=⟨mv,w,G,c,b,hs,d,λt u e=>absurd e (h t u)⟩
def ok_int(k:IntKind)(n:Int):cU w G (vI k n) (.int k n):=⟨_,rfl,rfl⟩
def aiz(b:Bool):cU w G (vB b) (.bool b):=⟨_,rfl,rfl⟩
def ajv(s:ByteArray):cU w G (vS s) (.string s):=⟨_,rfl,rfl⟩
def afR(k:IntKind)(n:Int):bM U G (vI k n):=bM.nil rfl
def ad8(b:Bool):bM U G (vB b):=bM.nil rfl
def afK(s:ByteArray):bM U G (vS s):=bM.nil rfl
def eP(b:Inv w0 c0 U E a w G){r:Result Next}{k:IntKind}{n:Int}(c:r= .ok (.value (.int k n)) w):Yields w0 c0 U E a r (vI k n):=
 dw b c (ok_int k n) (afR k n) (by rintro t u ⟨⟩)
def dM(c:Inv w0 c0 U E a w G){r:Result Next}{b:Bool}(d:r= .ok (.value (.bool b)) w):Yields w0 c0 U E a r (vB b):=
 dw c d (aiz b) (ad8 b) (by rintro t u ⟨⟩)
def rP(b:Inv w0 c0 U E a w G){r:Result Next}{s:ByteArray}(c:r= .ok (.value (.string s)) w):Yields w0 c0 U E a r (vS s):=
 dw b c (ajv s) (afK s) (by rintro t u ⟨⟩)
def nh(w0:World)(c0:C0)(U:Nat->Prop)(E:Env)(a:Act)(r:Result Next):Ef->Prop
 | .val v=>Yields w0 c0 U E a r v
 | .chk c v=>c=true->Yields w0 c0 U E a r v
 |_=>False
/-move,assign-/
def aa3:∀ {sv:SV} {j w' act u},cA sv= .g j w' act u->∃b,sv= .g j w' act b/\u=cA b
 | .g _ _ _ v,j,w',act,u,h=>by simp only[cA,SV.g.injEq]at h;obtain⟨rfl,rfl,rfl,rfl⟩:=h;exact⟨v,rfl,rfl⟩
 | .box _ _,_,_,_,_,h| .no,_,_,_,_,h| .d _,_,_,_,_,h| .ptr ..,_,_,_,_,h| .ept ..,_,_,_,_,h| .rdp ..,_,_,_,_,h| .tup _,_,_,_,_,h=>by simp[cA]at h
def ae1{t:TypeId}{x:Operand}{sv:SV}(h:arg C E.rd g t x=some sv):∀b u,sv≠ .box b u:=by
 intro b u e;subst e;simp only[arg,aoC]at h;obtain⟨s,d,i⟩:=h;cases x with
 |tmp n=>
  simp only[gR,aar]at d;cases c:s with
  |g j w' act v=>
   obtain⟨u',_,rfl⟩:=aa3 (d.trans c);rw[c]at i;simp only[AN]at i;split at i;simp only[aar]at i;exact Kz _ b u i;cases i
  |_=>
   rw[c]at i;simp only[AN,aar,reduceCtorEq]at i
   try (rw[<-d]at c;exact Kz _ b u (c.trans i))
 |const v=>
  simp only[gR]at d;split at d;rw[m_]at d;obtain⟨r,hr,rfl⟩:=d;simp[AN]at i;cases d
 |global g=>simp[gR]at d
 |func f=>simp[gR]at d
def aav(b:Inv w0 c0 U E a w G)(c:RI ops E a.tmps)(d:Gd ops a.tmps g){t:TypeId}{x:Operand}{sv:SV}(h:arg C E.rd g t x=some sv)
 {r:Result Next} (e:r= .ok (.value (a.eval x)) w):Yields w0 c0 U E a r sv:=
 dw b e (gP b c d h).1 (gP b c d h).2 (ae1 h)
def aiq(c:Inv w0 c0 U E a w G){op:BinOp}{k k':IntKind}{m n:Int}{t:TypeId}{x y:Operand}{e:Ef}(d:k=k'\/op= .shl\/op= .shr)
 (i:a.eval x= .int k m) (j:a.eval y= .int k' n) (h:agT op k m n=some e):
 nh w0 c0 U E a ((do pure (.value (<-(do eqGuard op t x y (a.eval x) (a.eval y);binOp op t (a.eval x) (a.eval y)))):Sem Next).run P w) e:=by
 rw[i,j];have b:∀v,eqGuard op t x y (.int k m) v=pure ():=λv=>eqGuard_at_int ..;cases op<;>simp only[agT,aar,reduceCtorEq]at h<;>(try cases h)<;>simp only[nh]
 case add=>
  obtain rfl:k=k':=(by simpa using d)
  exact eP c (by simp[b,binOp,Op.intArith])
 case sub=>
  obtain rfl:k=k':=(by simpa using d)
  exact eP c (by simp[b,binOp,Op.intArith])
 case mul=>
  obtain rfl:k=k':=(by simpa using d)
  exact eP c (by simp[b,binOp,Op.intArith])
 case quo=>
  obtain rfl:k=k':=(by simpa using d)
  intro hc;have hc:=e_ hc;exact eP c (by simp[b,binOp,Op.intDiv,hc])
 case rem=>
  obtain rfl:k=k':=(by simpa using d)
  intro hc;have hc:=e_ hc;exact eP c (by simp[b,binOp,Op.intDiv,hc])
 case and=>
  obtain rfl:k=k':=(by simpa using d)
  exact eP c (by simp[b,binOp,Op.intBits,bits])
 case or=>
  obtain rfl:k=k':=(by simpa using d)
  exact eP c (by simp[b,binOp,Op.intBits,bits])
 case xor=>
  obtain rfl:k=k':=(by simpa using d)
  exact eP c (by simp[b,binOp,Op.intBits,bits])
 case shl=>intro hc;have hc:=e_ hc;exact eP c (by simp[b,binOp,Op.shift,Int.not_lt.2 hc])
 case shr=>intro hc;have hc:=e_ hc;exact eP c (by simp[b,binOp,Op.shift,Int.not_lt.2 hc])
 case eql=>
  obtain rfl:k=k':=(by simpa using d)
  exact dM c (by simp[b,binOp,Op.intCmp])
 case neq=>
  obtain rfl:k=k':=(by simpa using d)
  exact dM c (by simp[b,binOp,Op.intCmp])
 case lss=>
  obtain rfl:k=k':=(by simpa using d)
  exact dM c (by simp[b,binOp,Op.intCmp])
 case leq=>
  obtain rfl:k=k':=(by simpa using d)
  exact dM c (by simp[b,binOp,Op.intCmp])
 case gtr=>
  obtain rfl:k=k':=(by simpa using d)
  exact dM c (by simp[b,binOp,Op.intCmp])
 case geq=>
  obtain rfl:k=k':=(by simpa using d)
  exact dM c (by simp[b,binOp,Op.intCmp])
def ahY(c:Inv w0 c0 U E a w G){op:BinOp}{m n:ByteArray}{t:TypeId}{x y:Operand}{d:Ef}
 (e:a.eval x= .string m) (i:a.eval y= .string n) (h:afx op m n=some d):
 nh w0 c0 U E a ((do pure (.value (<-(do eqGuard op t x y (a.eval x) (a.eval y);binOp op t (a.eval x) (a.eval y)))):Sem Next).run P w) d:=by
 rw[e,i];have b:∀v,eqGuard op t x y (.string m) v=pure ():=λv=>eqGuard_at_string ..;cases op<;>simp only[afx,aar,reduceCtorEq]at h<;>(try cases h)<;>simp only[nh]
 case add=>
  intro hc;have hc:=e_ hc;have j:¬(9223372036854775807<(m.size:Int)+(n.size:Int)):=by omega
  exact rP c (by simp[b,binOp,Op.stringOp,j])
 case eql=>exact dM c (by simp[b,binOp,Op.stringOp])
 case neq=>exact dM c (by simp[b,binOp,Op.stringOp])
 case lss=>exact dM c (by simp[b,binOp,Op.stringOp])
 case leq=>exact dM c (by simp[b,binOp,Op.stringOp])
 case gtr=>exact dM c (by simp[b,binOp,Op.stringOp])
 case geq=>exact dM c (by simp[b,binOp,Op.stringOp])
theorem KC:∀(l:List SV) (t k s:Nat) (v:TV),eK l t k=some (s,v)->k<=s/\l.getD (s-k) .no= .box t v
 | [],_,_,_,_,h=>by simp[eK]at h
 |x::l,t,k,s,v,h=>by
  have step:eK l t (k+1)=some (s,v)->k<=s/\(x::l).getD (s-k) .no= .box t v:=by
   intro h;obtain⟨h1,b⟩:=KC l t (k+1) s v h;refine⟨by omega,?_⟩;rw[show s-k=(s-(k+1))+1 by omega];simpa using b
  cases x with
  |box u y=>
   simp only[eK]at h;split at h;rename_i e;simp only[aar,P']at h;obtain⟨rfl,rfl⟩:=h;subst e;exact⟨I' _,by simp⟩;exact step h
  |_=>exact step h
theorem EO:∀ {τ:Ty} {x:τ.den} {sh:Sh} {cs:List Value} {t:Nat} {e:Ty} {l:List e.den} {hs:List Nat} {d:Bool},
 bJ w G τ x sh cs->je t e τ x sh=some (l,hs,d)->∃v,cL w G e l v (.row t hs d)/\(∀c∈hs,c∈sh.aJ)/\t∈sh.aJ
 | .sl e',l',.sl (.row u hs' nd'),cs,t,e,l,hs,d,hv,h=>by
   obtain⟨v,rfl,i⟩:=hv;simp only[je]at h;split at h;rename_i n;split at h;rename_i o;subst n o;simp only[cast_eq,aar,P']at h;obtain⟨rfl,rfl,rfl⟩:=h;exact⟨v,i,λc hc=>by simp[Sh.aJ,M.aJ,hc],by simp[Sh.aJ,M.aJ]⟩;cases h;cases h
 | .pair a b,p,.pair s1 s2,cs,t,e,l,hs,d,hv,h=>by
   obtain⟨c1,c2,rfl,q,s⟩:=hv;simp only[je]at h;split at h;rename_i r i;cases h;obtain⟨v,j,k,m⟩:=EO q i;exact⟨v,j,λc hc=>by simp[Sh.aJ,k c hc],by simp[Sh.aJ,m]⟩;obtain⟨v,j,k,m⟩:=EO s h;exact⟨v,j,λc hc=>by simp[Sh.aJ,k c hc],by simp[Sh.aJ,m]⟩
 | .sl _,_,.leaf,_,_,_,_,_,_,_,h| .sl _,_,.pair _ _,_,_,_,_,_,_,_,h| .sl _,_,.sl (.sha _),_,_,_,_,_,_,_,h| .sl _,_,.sl .dead,_,_,_,_,_,_,_,h
 | .int _,_,_,_,_,_,_,_,_,_,h| .bool,_,_,_,_,_,_,_,_,_,h| .str,_,_,_,_,_,_,_,_,_,h
 | .pair _ _,_,.leaf,_,_,_,_,_,_,_,h| .pair _ _,_,.sl _,_,_,_,_,_,_,_,h=>by simp[je]at h
theorem NY:∀(L:List SV) {t:Nat} {e:Ty} {l:List e.den} {hs:List Nat} {i:Bool},(∀s∈L,∃mv,cU w G s mv)->fB t e L=some (l,hs,i)->
 ∃s∈L,(∃v,cL w G e l v (.row t hs i))/\(∀c∈hs,c∈s.sc)/\t∈s.sc
 | [],_,_,_,_,_,_,h=>by simp[fB]at h
 |x::L,t,e,l,hs,i,hL,h=>by
  have step:fB t e L=some (l,hs,i)->∃s∈x::L,(∃v,cL w G e l v (.row t hs i))/\(∀c∈hs,c∈s.sc)/\t∈s.sc:=by
   intro h;obtain⟨s,q,y⟩:=NY L (λs hs=>hL s (ahz _ hs)) h;exact⟨s,ahz _ q,y⟩
  obtain⟨mv,p⟩:=hL x (by simp);cases x with
  |d v=>
   simp only[fB]at h;split at h;rename_i r j;cases h;obtain⟨cs,_,k⟩:=p;obtain⟨u,m,n,o⟩:=EO k j;exact⟨.d v,by simp,⟨u,m⟩,n,o⟩;exact step h
  |box b v=>
   simp only[fB]at h;split at h;rename_i r j;cases h;obtain⟨bk,c,el,_,_,_,_,_,k⟩:=p;obtain⟨u,m,n,o⟩:=EO k j;exact⟨.box b v,by simp,⟨u,m⟩,n,o⟩;exact step h
  |_=>exact step h
theorem Inv.fB(o:Inv w0 c0 U E a w G){t:Nat}{e:Ty}{l:List e.den}{hs:List Nat}{p:Bool}(h:E.rd.row t e=some (l,hs,p)):
 (∃v,cL w G e l v (.row t hs p))/\(∀c∈t::hs,0<c/\U c/\G.bx c=false):=by
 obtain⟨s,q,u,y,z⟩:=NY (w:=w) (G:=G) E.s (λs hs=>by
  obtain⟨i,b,rfl⟩:=aop.1 hs;exact⟨_,by have:=o.slots i;simpa[aoD,b]using this⟩) h
 obtain⟨i,b,rfl⟩:=aop.1 q;refine⟨u,λc hc=> ?_⟩;have:=o.sc i c;simp only[aoD,b,alj,aoA]at this;rcases l_.1 hc with rfl|hc;exact this z;exact this (y c hc)
theorem Inv.box(l:Inv w0 c0 U E a w G){t s:Nat}{v:TV}(h:E.rd.box t=some (s,v)):
 E.s.getD s .no= .box t v/\∃b c el,G.hdr t= .pointer (some ⟨b,0,none⟩)/\4<=t/\G.col b=t/\w.heap[b]?=some (.cells c el (0,0))/\bJ w G v.τ v.x v.sh c.toList/\(∀c∈v.sh.aJ,0<c/\U c/\G.bx c=false):=by
 obtain⟨_,e⟩:=KC E.s t 0 s v h;simp only[Nat.sub_zero]at e;have o:=l.slots s;have hc:=l.sc s;rw[e]at o hc;obtain⟨b,c,el,p,q,u,y,z,B⟩:=o;exact⟨e,b,c,el,u.trans p,q,y,z,B,hc⟩
theorem cL.elem{e:Ty}{l:List e.den}{v:Value}{t:Nat}{hs:List Nat}{z:Bool}(h:cL w G e l v (.row t hs z)){i:Nat}(hi:i<l.length):
 ∃b off cap c el q B,v= .slice (some ⟨b,off,none⟩) l.length cap/\w.heap[b]?=some (.cells c el q)/\off+cap*e.sz<=c.size/\l.length<=cap/\G.col b=t/\
  aW w e (l.getD i e.aa) ((c.toList.drop (off+i*e.sz)).take e.sz) B/\(∀x∈B,G.col x∈hs):=by
 obtain⟨_,_,B,H,hc⟩:=h;rcases H with⟨_,rfl,_⟩|⟨b,off,cap,c,el,q,I,J,o,K,u,rfl,L⟩;simp at hi;obtain⟨N,_,R,_⟩:=hc b I rfl;have p:l[i]?=some l[i]:=alj hi;obtain⟨B1,S,B2,rfl,y,_,_⟩:=aZ.get (sz:=e.sz) (λx c B h=>aW.len h) L p;refine⟨b,off,cap,c,el,q,S,J,K,u,o,N,?_,λx p=>R x (by simp[p])⟩;have hmul:(i+1)*e.sz<=l.length*e.sz:=K_ _ hi;rw[j_,aoi]at hmul;rw[aoD,p,aoA];rw[alb,aod,ak9,ali (by omega)]at y;exact y
theorem eX.elem{e:Ty}{l:List e.den}{v:Value}{B:List Nat}(h:eX w e.sz (aW w e) l v B){i:Nat}(hi:i<l.length):
 ∃b off cap c el q B',v= .slice (some ⟨b,off,none⟩) l.length cap/\w.heap[b]?=some (.cells c el q)/\off+cap*e.sz<=c.size/\l.length<=cap/\b∈B/\
  aW w e (l.getD i e.aa) ((c.toList.drop (off+i*e.sz)).take e.sz) B'/\(∀x∈B',x∈B):=by
 rcases h with⟨_,rfl,_⟩|⟨b,off,cap,c,el,q,Bs,z,o,H,u,rfl,I⟩;simp at hi;have p:l[i]?=some l[i]:=alj hi;obtain⟨B1,J,B2,rfl,y,_,_⟩:=aZ.get (sz:=e.sz) (λx c B h=>aW.len h) I p;refine⟨b,off,cap,c,el,q,J,z,H,u,o,by simp,?_,λx p=>by simp[p]⟩;have hmul:(i+1)*e.sz<=l.length*e.sz:=K_ _ hi;rw[j_,aoi]at hmul;rw[aoD,p,aoA];rw[alb,aod,ak9,ali (by omega)]at y;exact y
def Z0{s:TypeId}{i:TI}(d:Rp P s i){j:Nat}(hj:j<i.fs.length)(b o:Nat):
 (Instr.fieldAt s (.pointer (some ⟨b,o,none⟩)) j).run P w= .ok (.pointer (some ⟨b,o+i.τ.off (dZ i.fs.length j),none⟩)) w\/i.τ.cQ=false:=by
 obtain⟨_,d⟩:=d;cases h:i.τ with
 |pair x y=>
  rw[h]at d;obtain⟨fields,l,hsz,m⟩:=d;left;have c:j<fields.size:=by omega
  obtain⟨n,h2,e,h3,p⟩:=m j fields[j] (adV c);have k:e.sz≠0:=Nat.ne_of_gt e.qO;simp[Instr.fieldAt,run_underlying l,adV c,Instr.sureAddr,fieldPlace,eY p,k,n,Addr.add_lit]
 |_=>right;rfl
def afT{τ σ:Ty}{b:Bool}{p:List Bool}(h:τ.sub (b::p)=some σ):τ.cQ=true:=by
 cases τ<;>simp[Ty.sub,Ty.cQ]at h|-
def aiu{hs:List Nat}{v r:TV}{mv:Value}{p:List Bool}(h:cU w G (.rdp hs v) mv)(e:jw v.τ v.x v.sh p=some r):
 ∃b o,mv= .pointer (some ⟨b,o,none⟩)/\cU w G (.rdp hs r) (.pointer (some ⟨b,o+v.τ.off p,none⟩)):=by
 obtain⟨b,o,c,el,i,j,k,h3,l,m⟩:=h;obtain⟨d,g2,g3,_⟩:=bJ.sub e m;refine⟨b,o,j,b,o+v.τ.off p,c,el,i,rfl,k,by omega,l,?_⟩;rw[alb,aod,ak9,ali (by omega)]at d;exact d
def ZV(i:Inv w0 c0 U E a w G){t:Nat}(k:¬U t)(o:Obj)(v:Value)(x:Bool)(S:List Nat)(h:∀c∈S,0<c/\U c):
 EH S S w (w.alloc o) G (G.add w.heap.size t v x):=by
 refine⟨λb d=> ?_,λb d=> ?_,λu j=> ?_⟩;exact heap_alloc_old w _ b (i.lt b (h _ d).1);have:=i.lt b (h _ d).1;simp[Gh.add,aoz this];have:u≠t:=λe=>k (e▸(h u j).2);simp[Gh.add,this]
def Zb(b:Inv w0 c0 U E a w G){t:Nat}(c:¬U t)(s:Nat)(u:TV):E.s.getD s .no≠ .box t u:=by
 intro e;have:=b.bt s t (by rw[e];simp[SV.bt]);exact c this.2.1
def Uz(d:Inv w0 c0 U E a w G){t:Nat}(j:4<=t)(b:¬U t){v:TV}{cs:List Value}(l:bJ w G v.τ v.x v.sh cs)
 (hc:∀c∈v.sh.aJ,0<c/\U c/\G.bx c=false) (el:TypeId) {r:Result Next}
 (m:r= .ok (.value (.pointer (some ⟨w.heap.size,0,none⟩))) (w.alloc (.cells cs.toArray el))):Yields w0 c0 (λu=>U u\/u=t) E a r (.box t v):=by
 refine⟨_,_,G.add w.heap.size t (.pointer (some ⟨w.heap.size,0,none⟩)) true,m,d.alloc j b _ _ _ _,⟨w.heap.size,cs.toArray,el,rfl,j,by simp[Gh.add],by simp[Gh.add],heap_alloc_new w _,?_⟩,⟨?_,?_,?_⟩,?_⟩;exact bJ.agree (ZV d b _ _ _ _ (λc h=>⟨(hc c h).1,(hc c h).2.1⟩)) l;intro c h;have:=hc c h;have i:c≠t:=λe=>b (e▸this.2.1);exact⟨this.1,.inl this.2.1,by simp[Gh.add,i,this.2.2]⟩;intro c h;simp only[SV.bt,aiS]at h;subst h;exact⟨by omega,.inr rfl,by simp[Gh.add]⟩;intro c h;simp[SV.rt]at h;intro t' u e s k;cases e;exact Zb d b s k
theorem Hj(p:Inv w0 c0 U E a w G){t:Nat}(y:4<=t)(z:¬U t){e:Ty}{l:List e.den}{cs:List Value}{B:List Nat}{hs:List Nat}{F:Bool}{n cap:Nat}(el:TypeId)
 (J:n=l.length) (H:aZ (aW w e) l cs B) (k:n<=cap) (rest:List Value) (hsz:cap*e.sz<=cs.length+rest.length)
 (I:∀b∈B,0<G.col b) (q:∀b∈B,G.col b∈hs) (s:∀c∈hs,(0<c/\U c/\G.bx c=false)\/c=t) (v:F=true->B.Nodup)
 {r:Result Next} (K:r= .ok (.value (.slice (some ⟨w.heap.size,0,none⟩) n cap)) (w.alloc (.cells (cs++rest).toArray el))):
 Yields w0 c0 (λu=>U u\/u=t) E a r (.d ⟨.sl e,l,.sl (.row t hs F)⟩):=by
 subst J;have hlen:=aZ.len (sz:=e.sz) (λx c B h=>aW.len h) H;refine⟨_,_,G.add w.heap.size t (.slice (some ⟨w.heap.size,0,none⟩) l.length cap) false,K,p.alloc y z _ _ _ _,⟨[_],rfl,_,rfl,y,by simp[Gh.add],w.heap.size::B,?_,?_⟩,bM.d λc hc=> ?_,by rintro _ _ ⟨⟩⟩;refine .inr ⟨w.heap.size,0,cap,_,el,(0,0),B,rfl,k,heap_alloc_new w _,by simp;omega,rfl,?_⟩;simp only[aoG];rw[akJ (by omega),ahF (by omega)];exact aZ.mono (λb=>b<w.heap.size) (λx c B m j=>aW.mono (λb o=>heap_alloc_old w _ b (m b o)) j) (λb o=>p.lt b (I b o)) H;rintro b Bs ⟨⟩;have i:∀x∈B,x≠w.heap.size:=λx j=>aoz (p.lt x (I x j));refine⟨by simp[Gh.add],λh=>i _ h rfl,λx j=> ?_,v⟩;simp only[Gh.add,a_ (i x j)];exact q x j;simp only[Sh.aJ,M.aJ,l_]at hc;rcases hc with rfl|hc;exact⟨by omega,.inr rfl,by simp[Gh.add]⟩;rcases s c hc with h|rfl;have i:c≠t:=λe=>z (e▸h.2.1);exact⟨h.1,.inl h.2.1,by simp[Gh.add,i,h.2.2]⟩;exact⟨by omega,.inr rfl,by simp[Gh.add]⟩
end
def foldl_set(b:List Value):∀(off:Nat) (cs:Array Value) (k:Nat),off+k+b.length<=cs.size->
 ((b.zipIdx k).foldl (λcs p=>cs.setIfInBounds (off+p.2) p.1) cs).toList=cs.toList.take (off+k)++b++cs.toList.drop (off+k+b.length):=by
 induction b with
 |nil=>intro off cs k h;simp
 |cons v r i=>
  intro off cs k h;simp only[aok]at h;rw[List.zipIdx_cons,List.foldl_cons,i off _ (k+1) (by simp;omega)];have c:off+k<cs.toList.length:=by simp;omega
  simp only[aou]
  have d:(cs.toList.set (off+k) v).drop (off+(k+1)+r.length)=cs.toList.drop (off+k+(r.length+1)):=by
   rw[aoI (by omega)];congr 1;omega
  have e:(cs.toList.set (off+k) v).take (off+(k+1))=cs.toList.take (off+k)++[v]:=by
   rw[<-aoH,aol (by simpa using c),aoJ (I' _)];simp
  rw[d,e];simp
def FT(v:Array Value)(off:Nat)(cs:Array Value)(h:off+v.size<=cs.size):
 (v.zipIdx.foldl (λcs (p:Value×Nat)=>cs.setIfInBounds (off+p.2) p.1) cs).toList=cs.toList.take off++v.toList++cs.toList.drop (off+v.size):=by
 rw[<-Array.foldl_toList,Array.toList_zipIdx];simpa using foldl_set v.toList off cs 0 (by simpa using h)
section
variable{P:Program}{C:Cx}{w0:World}{c0:C0}{U:Nat->Prop}{E:Env}{a:Act}{w:World}{G:Gh}{ops:List Oper}{g:Option (Nat×Bool)}
theorem Rc:∀ {p:List Bool} {τ:Ty} {x:τ.den} {sh:Sh} {v:TV} {y:τ.den} {s:Sh},iO τ x sh p v=some (y,s)->τ.sub p=some v.τ
 | [],τ,x,sh,v,y,s,h=>by
   have:jE v τ=some y:=by cases τ<;>(simp only[iO]at h;split at h<;>simp_all)
   rw[fG this];cases τ<;>rfl
 |false::p,.pair a b,x,.pair s1 s2,v,y,s,h=>by
  simp only[iO]at h;split at h;rename_i c;simp only[Ty.sub];exact Rc c;cases h
 |true::p,.pair a b,x,.pair s1 s2,v,y,s,h=>by
  simp only[iO]at h;split at h;rename_i c;simp only[Ty.sub];exact Rc c;cases h
 |b::p,.int _,_,_,_,_,_,h|b::p,.bool,_,_,_,_,_,h|b::p,.str,_,_,_,_,_,h|b::p,.sl _,_,_,_,_,_,h=>by simp[iO]at h
 |false::p,.pair _ _,_,.leaf,_,_,_,h|false::p,.pair _ _,_,.sl _,_,_,_,h=>by simp[iO]at h
 |true::p,.pair _ _,_,.leaf,_,_,_,h|true::p,.pair _ _,_,.sl _,_,_,_,h=>by simp[iO]at h
theorem WQ{i:TI}{fields:Array Field}(L:Inv w0 c0 U E a w G)(N:RI ops E a.tmps)(R:Gd ops a.tmps g)
 (S:∀(j:Nat) (f:Field),fields[j]?=some f->I8 P i.τ i.fs j f) (B:fields.size=i.fs.length) (place:Nat->Option (Nat×Nat))
 (l:∀(j:Nat) (f:Field) (σ:Ty),fields[j]?=some f->i.τ.sub (dZ i.fs.length j)=some σ->place j=some (f.offset,σ.sz)):
 ∀(ps:List (Nat×Operand)) (x:i.τ.den) (sh:Sh) (cells:Array Value) (y:i.τ.den) (s:Sh),bJ w G i.τ x sh cells.toList->(∀c∈sh.aJ,0<c/\U c/\G.bx c=false)->
  uL C E.rd g i ps x sh=some (y,s)->
  ∃b,Instr.fill place cells (ps.map λp=>(p.1,a.eval p.2))=some b/\bJ w G i.τ y s b.toList/\(∀c∈s.aJ,0<c/\U c/\G.bx c=false)
 | [],x,sh,cells,y,s,hx,hc,h=>by
   simp only[uL,aar,P']at h;obtain⟨rfl,rfl⟩:=h;exact⟨cells,rfl,hx,hc⟩
 |(j,o)::ps,x,sh,cells,y,s,hx,hc,h=>by
  simp only[uL]at h;split at h;cases h;rename_i ft r;split at h;cases h;rename_i v Y;split at h;rename_i J K t;obtain⟨⟨cv,he,d⟩,H,_⟩:=kZ L N R Y;obtain⟨h1,h2,h3⟩:=bJ.put t hx d
  have W:j<fields.size:=by
   have:=(aov.1 r).1;omega
  obtain⟨f1,f2,σ,f3,f4⟩:=S j fields[j] (adV W);have m:i.τ.sub (dZ i.fs.length j)=some v.τ:=Rc t;have n:=l j fields[j] v.τ (adV W) m;rw[f1]at n;simp only[List.map_cons,he]
  have key:∀b,bJ w G i.τ J K b.toList->∃q,Instr.fill place b (ps.map λp=>(p.1,a.eval p.2))=some q/\bJ w G i.τ y s q.toList/\(∀c∈s.aJ,0<c/\U c/\G.bx c=false):=by
   intro b u;refine WQ L N R S B place l ps J K b y s u (λc z=> ?_) h;rcases h3 c z with h|h;exact hc c h;exact H c h
  obtain⟨I,h2',_⟩:=bJ.put t hx d;have X:=bJ.len hx;have k:=rW (bJ.len d) (bJ.one d);have F:=mR (bJ.len d) (bJ.one d);have e:=FT (eF v.τ cv).cells (i.τ.off (dZ i.fs.length j)) cells (by rw[k];simp at X;omega);rw[F,k]at e;obtain⟨q,k1,k2,k3⟩:=key _ (by rw[e];exact I);refine⟨q,?_,k2,k3⟩;simp only[Instr.fill,n];rw[a_ (by simp[k];simp at X;omega)];exact k1;cases h
theorem M.k9{m:M}{ts:List Nat}(h:m.own=some ts):∀c∈ts,c∈m.aJ:=by
 cases m with
 |row t e nd=>
  simp only[M.own]at h;split at h;simp only[aar]at h;subst h;intro c hc;simp only[l_,aoE]at hc;rcases hc with rfl|hc;simp[M.aJ];simp[M.aJ,hc.1];cases h
 |sha e=>
  cases e with
  |nil=>simp only[M.own,aar]at h;subst h;simp
  |cons x l=>simp[M.own]at h
 |nst b E i o p fr=>simp[M.own]at h
 |dead=>simp[M.own]at h
theorem M.nN{t:Nat}{hs:List Nat}{b:Bool}{ts:List Nat}(h:(M.row t hs b).own=some ts):b=true/\(∀c∈hs,4<=c)/\(∀c,c∈ts↔c=t\/c∈hs):=by
 simp only[M.own]at h;split at h;rename_i hc;simp only[K',alh,b_]at hc;simp only[aar]at h;subst h;refine⟨hc.1,hc.2,λc=> ?_⟩;simp only[l_,aoE,decide_not,alf,d_];by_cases e:c=t<;>simp[e];cases h
theorem cL.own{e:Ty}{l:List e.den}{v:Value}{m:M}{ts:List Nat}(h:cL w G e l v m)(c:m.own=some ts):
 ∃B,eX w e.sz (aW w e) l v B/\B.Nodup/\∀b∈B,G.col b∈ts:=by
 cases m with
 |row t z nd=>
  obtain⟨I,h2,y⟩:=M.nN c;obtain⟨_,_,B,q,hc⟩:=h;cases B with
  |nil=>exact⟨[],q,by simp,by simp⟩
  |cons b H=>
   obtain⟨J,K,L,N⟩:=hc b H rfl;refine⟨b::H,q,List.nodup_cons.2 ⟨K,N I⟩,λx u=> ?_⟩;rcases l_.1 u with rfl|u;exact(y _).2 (.inl J);exact(y _).2 (.inr (L x u))
 |sha z=>
  cases z with
  |nil=>
   obtain⟨⟨B,q,hc⟩,_⟩:=h;have:B=[]:=by cases B with|nil=>rfl|cons x l=>exact absurd (hc x (by simp)) (by simp)
   subst this;exact⟨[],q,by simp,by simp⟩
  |cons x l=>simp[M.own]at c
 |nst b E i o p fr=>simp[M.own]at c
 |dead=>simp[M.own]at c
theorem M.TS{m:M}{ts:List Nat}(h:m.E6=some ts):(∃t hs q,m= .row t hs q/\(∀c∈hs,4<=c)/\∀c,c∈ts↔c=t\/c∈hs)\/(m= .sha []/\ts=[]):=by
 cases m with
 |row t hs q=>
  simp only[M.E6]at h;split at h;rename_i hc;simp only[alh,b_]at hc;simp only[aar]at h;subst h;refine .inl ⟨t,hs,q,rfl,hc,λc=> ?_⟩;simp only[l_,aoE,decide_not,alf,d_];by_cases e:c=t<;>simp[e];cases h
 |sha hs=>
  cases hs with
  |nil=>simp only[M.E6,aar]at h;subst h;exact .inr ⟨rfl,rfl⟩
  |cons x l=>simp[M.E6]at h
 |nst b E i o p fr=>simp[M.E6]at h
 |dead=>simp[M.E6]at h
theorem cL.nil{e:Ty}{l:List e.den}{v:Value}(h:cL w G e l v (.sha [])):v= .slice none 0 0/\∃B,eX w e.sz (aW w e) l v B/\B=[]:=by
 obtain⟨⟨B,b,hc⟩,c⟩:=h;exact⟨c rfl,B,b,by cases B with|nil=>rfl|cons x l=>exact absurd (hc x (by simp)) (by simp)⟩
theorem Sh.k9:∀ {sh:Sh} {ts:List Nat},sh.own=some ts->∀c∈ts,c∈sh.aJ
 | .leaf,ts,h,c,hc=>by simp only[Sh.own,aar]at h;subst h;simp at hc
 | .sl m,ts,h,c,hc=>M.k9 h c hc
 | .pair a b,ts,h,c,hc=>by
   simp only[Sh.own]at h;split at h;rename_i x y e l;split at h;simp only[aar]at h;subst h;rcases eH.1 hc with hc|hc;simp[Sh.aJ,Sh.k9 e c hc];simp[Sh.aJ,Sh.k9 l c hc];cases h;cases h
theorem bJ.own:∀ {τ:Ty} {x:τ.den} {sh:Sh} {cs:List Value} {ts:List Nat},bJ w G τ x sh cs->sh.own=some ts->∃B,aW w τ x cs B/\B.Nodup/\∀b∈B,G.col b∈ts
 | .int _,_,.leaf,_,_,h,_=>⟨[],⟨h,rfl⟩,by simp,by simp⟩
 | .bool,_,.leaf,_,_,h,_=>⟨[],⟨h,rfl⟩,by simp,by simp⟩
 | .str,_,.leaf,_,_,h,_=>⟨[],⟨h,rfl⟩,by simp,by simp⟩
 | .sl e,l,.sl m,cs,ts,h,ho=>by
   obtain⟨v,rfl,L⟩:=h;obtain⟨B,N,R,hc⟩:=L.own ho;exact⟨B,⟨v,rfl,N⟩,R,hc⟩
 | .pair a b,p,.pair s1 s2,cs,ts,h,ho=>by
   obtain⟨S,W,rfl,X,Y⟩:=h;simp only[Sh.own]at ho;split at ho;rename_i x y J K;split at ho;rename_i q;simp only[aar]at ho;subst ho;obtain⟨u,r1,n1,z⟩:=bJ.own X J;obtain⟨H,r2,n2,I⟩:=bJ.own Y K;refine⟨u++H,⟨S,W,u,H,rfl,rfl,r1,r2⟩,aog.2 ⟨n1,n2,?_⟩,λb c=> ?_⟩;intro b c b' o e;subst e;simp only[alh,alf,ajz,d_]at q;exact q _ (z b c) (I b o);rcases eH.1 c with c|c;exact Z_ _ (z b c);exact ahC _ (I b c);cases ho;cases ho
 | .int _,_,.sl _,_,_,h,_| .int _,_,.pair _ _,_,_,h,_| .bool,_,.sl _,_,_,h,_| .bool,_,.pair _ _,_,_,h,_
 | .str,_,.sl _,_,_,h,_| .str,_,.pair _ _,_,_,h,_| .sl _,_,.leaf,_,_,h,_| .sl _,_,.pair _ _,_,_,h,_
 | .pair _ _,_,.leaf,_,_,h,_| .pair _ _,_,.sl _,_,_,h,_=>h.elim
def B9(w:World)(G:Gh)(e:Ty):List e.den->List Sh->List (List Value)->Prop
 | [],[],[]=>True
 |x::l,s::ss,c::cs=>bJ w G e x s c/\B9 w G e l ss cs
 |_,_,_=>False
theorem B9.rep:∀ {e:Ty} {l:List e.den} {p:List Sh} {cs:List (List Value)},B9 w G e l p cs->(∀s∈p,s.live=true)->
 ∃B,aZ (aW w e) l cs.flatten B/\∀b∈B,G.col b∈p.flatMap Sh.aJ
 |e,[],[],[],_,_=>⟨[],⟨rfl,rfl⟩,by simp⟩
 |e,x::l,s::p,c::cs,h,hl=>by
  obtain⟨q,y,z⟩:=h.1.rep (hl s (by simp));obtain⟨u,H,I⟩:=B9.rep h.2 (λs v=>hl s (by simp[v]));refine⟨q++u,⟨c,_,q,u,by simp,rfl,y,H⟩,λb o=> ?_⟩;rw[aoP];rcases eH.1 o with o|o;exact Z_ _ (z b o);exact ahC _ (I b o)
 |e,[],_::_,_,h,_|e,[],[],_::_,h,_|e,_::_,[],_,h,_|e,_::_,_::_,[],h,_=>h.elim
theorem B9.own:∀ {e:Ty} {l:List e.den} {q:List Sh} {cs:List (List Value)} {ts:List Nat},B9 w G e l q cs->zD q=some ts->
 ∃B,aZ (aW w e) l cs.flatten B/\B.Nodup/\∀b∈B,G.col b∈ts
 |e,[],[],[],ts,_,_=>⟨[],⟨rfl,rfl⟩,by simp,by simp⟩
 |e,x::l,s::q,c::cs,ts,h,ho=>by
  simp only[zD]at ho;split at ho;rename_i t1 t2 I J;split at ho;rename_i u;simp only[aar]at ho;subst ho;obtain⟨v,K,L,y⟩:=h.1.own I;obtain⟨z,N,R,H⟩:=B9.own h.2 J;refine⟨v++z,⟨c,_,v,z,by simp,rfl,K,N⟩,aog.2 ⟨L,R,?_⟩,λb o=> ?_⟩;intro b o b' p e;subst e;simp only[alh,alf,ajz,d_]at u;exact u _ (y b o) (H b p);rcases eH.1 o with o|o;exact Z_ _ (y b o);exact ahC _ (H b o);cases ho;cases ho
 |e,[],_::_,_,_,h,_|e,[],[],_::_,_,h,_|e,_::_,[],_,_,h,_|e,_::_,_::_,[],_,h,_=>h.elim
theorem M6:∀ {b:List Sh} {ts:List Nat},zD b=some ts->∀c∈ts,c∈b.flatMap Sh.aJ
 | [],ts,h,c,hc=>by simp only[zD,aar]at h;subst h;simp at hc
 |s::b,ts,h,c,hc=>by
  simp only[zD]at h;split at h;rename_i t1 t2 d e;split at h;simp only[aar]at h;subst h;rw[aoP];rcases eH.1 hc with hc|hc;exact Z_ _ (Sh.k9 d c hc);exact ahC _ (M6 e c hc);cases h;cases h
theorem aan(L:Inv w0 c0 U E a w G)(N:RI ops E a.tmps)(R:Gd ops a.tmps g){el:TypeId}{e:Ty}:
 ∀(ps:List (Nat×Operand)) (n:Nat) (xs:List e.den) (y:List Sh) (cells:Array Value),xK C E.rd g el e n ps=some (xs,y)->(n+ps.length)*e.sz<=cells.size->
  ∃k b,Instr.fill (λi=>some (i*e.sz,e.sz)) cells (ps.map λp=>(p.1,a.eval p.2))=some b/\
   b.toList=cells.toList.take (n*e.sz)++k.flatten++cells.toList.drop ((n+ps.length)*e.sz)/\B9 w G e xs y k/\xs.length=ps.length/\(∀s∈y,s.live=true/\∀c∈s.aJ,0<c/\U c/\G.bx c=false)
 | [],n,xs,y,cells,h,hs=>by
   simp only[xK,aar,P']at h;obtain⟨rfl,rfl⟩:=h;exact⟨[],cells,rfl,by simp,trivial,rfl,by simp⟩
 |(j,o)::ps,n,xs,y,cells,h,hs=>by
  simp only[xK]at h;split at h;rename_i W;subst W;split at h;cases h;rename_i v X;split at h;rename_i x H I Y hl;simp only[aar,P']at h;obtain⟨rfl,rfl⟩:=h;obtain⟨⟨r,he,B⟩,K,u⟩:=kZ L N R X;have S:=fG Y;have F:v.τ=e:=by rw[S]
  have l:bJ w G e x v.sh r:=by rw[S]at B;exact B
  have hlen:=bJ.len l;have m:=rW (τ:=v.τ) (by rw[F];exact hlen) (bJ.one l);have z:=mR (τ:=v.τ) (by rw[F];exact hlen) (bJ.one l);rw[F]at m z;simp only[aok]at hs;have hmul:(j+1)*e.sz<=(j+(ps.length+1))*e.sz:=K_ _ (by omega);rw[j_,aoi]at hmul;have d:=FT (eF e r).cells (j*e.sz) cells (by rw[m];omega);rw[z,m]at d
  have J:(Array.foldl (λcs (q:Value×Nat)=>cs.setIfInBounds (j*e.sz+q.2) q.1) cells (eF e r).cells.zipIdx).size=cells.size:=by
   have:=congrArg aoR d;simp only[alc,ajb,List.length_take,List.length_drop,hlen]at this;omega
  obtain⟨k,b,k1,k2,k3,k4,k5⟩:=aan L N R ps (j+1) H I _ hl (by rw[J];rw[show j+1+ps.length=j+(ps.length+1) by omega];exact hs);refine⟨r::k,b,?_,?_,⟨l,k3⟩,by simp[k4],?_⟩;simp only[List.map_cons,he,F,Instr.fill];rw[a_ (by simp[m];omega)];exact k1;rw[k2,d]
  have h1:(cells.toList.take (j*e.sz)++r++cells.toList.drop (j*e.sz+e.sz)).take ((j+1)*e.sz)=cells.toList.take (j*e.sz)++r:=by
   rw[akJ (by simp[hlen,j_];omega),ahF (by simp[hlen,j_];omega)]
  have h2:(cells.toList.take (j*e.sz)++r++cells.toList.drop (j*e.sz+e.sz)).drop ((j+1+ps.length)*e.sz)=cells.toList.drop ((j+(ps.length+1))*e.sz):=by
   have e1:(j+1+ps.length)*e.sz=(cells.toList.take (j*e.sz)++r).length+ps.length*e.sz:=by
    simp[hlen,j_];omega
   rw[e1,aoj,ahG (by omega),akO,Nat.add_sub_cancel_left,ak9];congr 1;simp[j_];omega
  rw[h1,h2];simp;intro s t;rcases l_.1 t with rfl|t;exact⟨u,K⟩;exact k5 s t;cases h;cases h
theorem bM.mono{U U':Nat->Prop}{v:SV}(h:bM U G v)(b:∀u,U u->U' u):bM U' G v:=
 ⟨λc hc=>⟨(h.1 c hc).1,b _ (h.1 c hc).2.1,(h.1 c hc).2.2⟩,λc hc=>⟨(h.2.1 c hc).1,b _ (h.2.1 c hc).2.1,(h.2.1 c hc).2.2⟩,
  λc hc=>⟨(h.2.2 c hc).1,b _ (h.2.2 c hc).2.1,(h.2.2 c hc).2.2⟩⟩
theorem Yields.mono{U U':Nat->Prop}{r:Result Next}{sv:SV}(h:Yields w0 c0 U E a r sv)(b:∀u,U u->U' u):Yields w0 c0 U' E a r sv:=by
 obtain⟨c,e,G',l,o,p,q,v⟩:=h;exact⟨c,e,G',l,o.mono b,p,q.mono b,v⟩
theorem nh.mono{U U':Nat->Prop}{r:Result Next}{b:Ef}(h:nh w0 c0 U E a r b)(e:∀u,U u->U' u):nh w0 c0 U' E a r b:=by
 cases b with
 |val v=>exact Yields.mono h e
 |chk c v=>exact λhc=>Yields.mono (h hc) e
 |_=>exact h
def fM{s:Sem Value}{x:Value}{w':World}(h:s.run P w= .ok x w'):((do pure (.value (<-s))):Sem Next).run P w= .ok (.value x) w':=by
 simp[h]
def toNat_lt{i:Int}{n:Nat}(h0:0<=i)(h:i<(n:Int)):i.toNat<n:=by omega
theorem aiw(hC:CxTy P C)(q:Inv w0 c0 U E a w G)(X:RI ops E a.tmps)(Y:Gd ops a.tmps g){tk:Nat}{o:Oper}{t:TypeId}{x:Operand}{ef:Ef}(ho:o.op= .load t x)
 (h:bK C ops E.rd tk g o=some ef):nh w0 c0 U E a ((execOp a.eval o).run P w) ef:=by
 simp only[bK,ho]at h;split at h;cases h;rename_i y R;have hT:=(hC.tt t y R).1
 have m:∀ {b z:Nat} {c:Array Value} {el:TypeId} {K:Nat×Nat},a.eval x= .pointer (some ⟨b,z,none⟩)->w.heap[b]?=some (.cells c el K)->z+y.τ.sz<=c.size->
  (execOp a.eval o).run P w= .ok (.value (eF y.τ ((c.toList.drop z).take y.τ.sz))) w:=by
  intro b z c el K he k L;simp only[execOp,ho];refine fM ?_;simp only[Instr.loadAt,he,Instr.sureAddr];simpa using zC hT k L
 split at h
 rename_i b off p τ j;obtain⟨J,h2⟩:=gP q X Y j;obtain⟨bk,_,u,N⟩:=J;split at h;rename_i sl v F;obtain⟨_,bk',c,el,g1,_,_,g4,g5,g6⟩:=q.box F;rw[g1]at u;simp only[Value.pointer.injEq,aar,Addr.mk.injEq,and_true]at u;subst u;split at h;rename_i r S;split at h;rename_i hc;simp only[K',b_]at hc;cases h;obtain⟨q1,q2,q3,q4⟩:=bJ.sub S g5;have hlen:=bJ.len g5;rw[hc.1]at q1 q2;have k:=m N g4 (by rw[<-hc.2];simp at hlen;omega);rw[<-hc.2]at k;exact dw q k ⟨_,rfl,q1⟩ (bM.d λc hc=>g6 c (q4 c hc)) (by rintro _ _ ⟨⟩);cases h;cases h;cases h
 rename_i b e i off p τ j;obtain⟨J,_⟩:=gP q X Y j;obtain⟨bk,of,n,cap,_,u,N,k4,k5⟩:=J;split at h;rename_i l L nd H;obtain⟨⟨v,hv⟩,hm⟩:=q.fB H;split at h;rename_i hc;simp only[K',b_]at hc;rw[m_]at h;obtain⟨r,S,rfl⟩:=h;have I:=hv.2.1;rw[u]at I
 have hlen:n=l.length:=by
  obtain⟨_,_,B,hB,_⟩:=hv;rcases hB with⟨⟨ao,e0⟩,h0,_⟩|⟨_,_,_,_,_,_,_,hx,_⟩;rw[e0]at I;cases I;rw[h0];rfl;rw[<-I]at hx;cases hx;rfl
 have hi:i.toNat<l.length:=by omega
 obtain⟨b',off',cap',c,el,K,B,e1,e2,e3,e4,e5,e6,e7⟩:=hv.elem hi;rw[<-I]at e1;cases e1;have b0:bJ w G e (l.getD i.toNat e.aa) (iM e (.sha (2::L))) _:=bJ.Iv e6 (λb k=>ahz _ (e7 b k)) (by simp);obtain⟨q1,q2,q3,q4⟩:=bJ.sub S b0;have s:r.τ=y.τ:=by have:=q3.symm.trans hc.2;simpa using this
 have hmul:(i.toNat+1)*e.sz<=cap*e.sz:=K_ _ (by omega);rw[j_,aoi]at hmul;have k:=m k5 e2 (by rw[<-s];rw[hc.1]at q2;omega);refine dw q k ⟨(c.toList.drop (of+i.toNat*e.sz+off)).take y.τ.sz,by rw[s],?_⟩ (bM.d λc W=> ?_) (by rintro _ _ ⟨⟩);rw[hc.1]at q1 q2;rw[alb,aod,ak9,ali (by omega)]at q1;rw[<-s];exact q1;have:=qY _ _ c (q4 c W);simp only[M.aJ,l_]at this;rcases this with rfl|this;exact⟨by omega,q.two.1⟩;exact hm c (ahz _ this);cases h;cases h
 rename_i L v j;obtain⟨J,h2⟩:=gP q X Y j;obtain⟨b,z,c,el,K,k1,u,N,k4,k5⟩:=J;split at h;rename_i hτ;cases h;have k:=m k1 u (by rw[<-hτ];exact N);rw[<-hτ]at k;exact dw q k ⟨_,rfl,k5⟩ (bM.d λc hc=>h2.1 c (by simp[SV.sc,hc])) (by rintro _ _ ⟨⟩);cases h;cases h
def Ys(Y:CxTy P C)(u:Inv w0 c0 U E a w G)(J:RI ops E a.tmps)(K:Gd ops a.tmps g){tk:Nat}{o:Oper}{s:TypeId}{x:Operand}{j:Nat}{ef:Ef}(ho:o.op= .fieldAddr s x j)
 (h:bK C ops E.rd tk g o=some ef):nh w0 c0 U E a ((execOp a.eval o).run P w) ef:=by
 simp only[bK,ho]at h;split at h
 ·cases h
 rename_i i X;have hT:=Y.tt s i X;split at h;rotate_left
 ·cases h
 rename_i H
 have hpair:∀σ,i.τ.sub (dZ i.fs.length j)=some σ->i.τ.cQ=true\/(dZ i.fs.length j)=[]:=by
  intro σ z;cases hf:dZ i.fs.length j with
  |nil=>exact .inr rfl
  |cons b p=>rw[hf]at z;exact .inl (afT z)
 have k:i.τ.cQ=true:=by
  cases F:i.τ with
  |pair a b=>rfl
  |_=>
   exfalso;have:=hT.2;rw[F]at this;have L:=Y.fs s i X (by rw[F];rfl);rw[L]at H;simp at H
 have l:∀ {b q:Nat},a.eval x= .pointer (some ⟨b,q,none⟩)->(execOp a.eval o).run P w= .ok (.value (.pointer (some ⟨b,q+i.τ.off (dZ i.fs.length j),none⟩))) w:=by
  intro b q I;simp only[execOp,ho];refine fM ?_;rw[I];rcases Z0 (w:=w) hT H b q with h|h
  ·exact h
  ·rw[k]at h;cases h
 split at h
 ·rename_i σ t q p τ z d;split at h
  ·cases h;obtain⟨⟨bk,N,R,S⟩,y⟩:=gP u J K d;exact dw u (l S) ⟨bk,N,R,rfl⟩ ⟨by simp[SV.sc],by simpa[SV.bt]using y.2.1,by simp[SV.rt]⟩ (by rintro _ _ ⟨⟩)
  ·cases h
 ·rename_i σ t e n q p τ z d;split at h
  ·cases h;obtain⟨⟨b,off,m,cap,N,R,S,k4,W⟩,y⟩:=gP u J K d;exact dw u (l W) ⟨b,off,m,cap,N,R,S,k4,by rw[aoH]⟩ ⟨by simp[SV.sc],by simp[SV.bt],by simpa[SV.rt]using y.2.2⟩ (by rintro _ _ ⟨⟩)
  ·cases h
 ·rename_i σ hs v z d;split at h
  ·rename_i F;rw[m_]at h;obtain⟨r,hr,rfl⟩:=h;obtain⟨h1,y⟩:=gP u J K d;obtain⟨b,q,I,B⟩:=aiu h1 hr;rw[F]at B;refine dw u (l I) B ⟨?_,by simp[SV.bt],by simp[SV.rt]⟩ (by rintro _ _ ⟨⟩);intro c hc;obtain⟨_,_,_,_,_,_,_,_,_,W⟩:=h1;have:=(bJ.sub hr W).2.2.2;simp only[SV.sc,eH]at hc;rcases hc with hc|hc
   ·exact y.1 c (by simp[SV.sc,hc])
   ·exact y.1 c (by simp[SV.sc,this c hc])
  ·cases h
 ·cases h
theorem Yu(hC:CxTy P C)(v:Inv w0 c0 U E a w G)(J:RI ops E a.tmps)(K:Gd ops a.tmps g){tk:Nat}{o:Oper}{t:TypeId}{x n:Operand}{ef:Ef}(W:o.op= .indexAddr t x n)
 (h:bK C ops E.rd tk g o=some ef):nh w0 c0 U E a ((execOp a.eval o).run P w) ef:=by
 simp only[bK,W]at h;split at h;rename_i N e l u hs nd k i sh s F R;split at h;rename_i S;cases h;intro hc;obtain⟨j,p⟩:=e_ hc;have y:=(hC.tt t N s).2;rw[S]at y;obtain⟨m,H,d,_,r⟩:=ll v J K F;simp only[Sh.sl.injEq]at H;subst H;have z:=eW v J K R;have X:i.toNat<l.length:=toNat_lt j p;obtain⟨b,off,cap,c,el,fz,B,L,e2,e3,e4,e5,e6,e7⟩:=d.elem X
 have q:(execOp a.eval o).run P w= .ok (.value (.pointer (some ⟨b,off+i.toNat*e.sz,none⟩))) w:=by
  simp only[execOp,W];refine fM ?_;rw[L,z];simp[Instr.indexAt,asIntOf,run_underlying y.1,eY y.2,j,p,Addr.add_lit]
 refine dw v q ⟨b,off,l.length,cap,d.1,d.2.1.trans L,j,p,rfl⟩ ⟨by simp[SV.sc],by simp[SV.bt],?_⟩ (by rintro _ _ ⟨⟩);intro c hc;simp only[SV.rt,aiS]at hc;subst hc;exact r _ (by simp[M.aJ]);cases h;rename_i N e l hs k i sh s F R;split at h;rename_i S;cases h;intro hc;obtain⟨j,p⟩:=e_ hc;have y:=(hC.tt t N s).2;rw[S]at y;obtain⟨m,H,d,_,r⟩:=ll v J K F;simp only[Sh.sl.injEq]at H;subst H;have z:=eW v J K R;have X:i.toNat<l.length:=toNat_lt j p;obtain⟨⟨BB,Y,I⟩,_⟩:=d;obtain⟨b,off,cap,c,el,fz,B,L,e2,e3,e4,e5,e6,e7⟩:=Y.elem X
 have q:(execOp a.eval o).run P w= .ok (.value (.pointer (some ⟨b,off+i.toNat*e.sz,none⟩))) w:=by
  simp only[execOp,W];refine fM ?_;rw[L,z];simp[Instr.indexAt,asIntOf,run_underlying y.1,eY y.2,j,p,Addr.add_lit]
 have hmul:(i.toNat+1)*e.sz<=cap*e.sz:=K_ _ (by omega);rw[j_,aoi]at hmul;refine dw v q ⟨b,off+i.toNat*e.sz,c,el,fz,rfl,e2,by simp only;omega,I b e5,bJ.Iv e6 (λx F=>ahz _ (I x (e7 x F))) (by simp)⟩ ⟨?_,by simp[SV.bt],by simp[SV.rt]⟩ (by rintro _ _ ⟨⟩);intro c hc;simp only[SV.sc,eH]at hc;rcases hc with hc|hc;exact r c hc;have:=qY _ _ c hc;simp only[M.aJ,l_]at this;rcases this with rfl|this;exact⟨by omega,v.two.1⟩;exact r c this;cases h;cases h
def aay(w:World)(G:Gh)(τ:Ty):bJ w G τ τ.aa (iM τ (.sha [])) τ.zero:=bJ.zero τ
def aaA{τ:Ty}(Q:Nat->Prop):∀c∈(iM τ (.sha [])).aJ,Q c:=λc hc=>by
 have:=qY _ _ c hc;simp[M.aJ]at this
def afC(e:CxTy P C)(j:Inv w0 c0 U E a w G){tk:Nat}(k:4<=tk)(l:¬U tk){o:Oper}{t:TypeId}{c:Ef}(d:o.op= .alloc t)
 (h:bK C ops E.rd tk g o=some c):nh w0 c0 (λu=>U u\/u=tk) E a ((execOp a.eval o).run P w) c:=by
 simp only[bK,d,m_]at h;obtain⟨i,n,rfl⟩:=h;have m:=(e.tt t i n).1;refine Uz j k l (aay w G i.τ) (aaA _) t ?_;simp only[execOp,d];refine fM ?_;have hc:=mR (τ:=i.τ) i.τ.kA (zX i.τ);have b:(eF i.τ i.τ.zero).cells=i.τ.zero.toArray:=A' (by simpa using hc);simp[Instr.alloc,U5 m,newVar,newRow,b]
def aiV(e:Inv w0 c0 U E a w G)(n:RI ops E a.tmps)(p:Gd ops a.tmps g){tk:Nat}(q:4<=tk)(r:¬U tk){o:Oper}{t:TypeId}{x:Operand}{j:Ef}(k:o.op= .box t x)
 (h:bK C ops E.rd tk g o=some j):nh w0 c0 (λu=>U u\/u=tk) E a ((execOp a.eval o).run P w) j:=by
 simp only[bK,k]at h;split at h;rename_i i v hi m;split at h;cases h;obtain⟨⟨l,s,b⟩,hc,_⟩:=kZ e n p m;refine Uz e q r b hc t ?_;simp only[execOp,k];refine fM ?_;have c:=mR (bJ.len b) (bJ.one b);have d:(eF v.τ l).cells=l.toArray:=A' (by simpa using c);simp[Instr.box,s,newVar,newRow,d];cases h;cases h
theorem Rp.struct{t:TypeId}{i:TI}(h:Rp P t i)(b:i.τ.cQ=true):∃fields,P.underlying t=some (.struct fields)/\fields.size=i.fs.length/\
 ∀(j:Nat) (f:Field),fields[j]?=some f->I8 P i.τ i.fs j f:=by
 obtain⟨τ,fs,el⟩:=i;cases τ with
 |pair x y=>exact h.2
 |_=>cases b
def LP{τ:Ty}(b:τ.cQ=true)(cs:List Value):eF τ cs= .agg cs.toArray:=by
 cases τ<;>first|rfl|cases b
def akD(N:CxTy P C)(R:Inv w0 c0 U E a w G)(X:RI ops E a.tmps)(Y:Gd ops a.tmps g){tk:Nat}{o:Oper}{t:TypeId}{ps:Array (Nat×Operand)}{S:Ef}(W:o.op= .build t ps)
 (h:bK C ops E.rd tk g o=some S):nh w0 c0 U E a ((execOp a.eval o).run P w) S:=by
 simp only[bK,W]at h;split at h;rename_i i J;split at h;cases h;rename_i q;rw[m_]at h;obtain⟨r,hr,rfl⟩:=h;have u:=N.tt t i J;have hF:=u.1
 have e:i.τ.cQ=true:=by
  cases hp:i.τ.cQ with
  |true=>rfl
  |false=>rw[N.fs t i J hp]at q;simp at q
 obtain⟨fields,hu,F,s⟩:=u.struct e;have hz:bJ w G i.τ i.τ.aa (iM i.τ (.sha [])) i.τ.zero.toArray.toList:=by simpa using aay w G i.τ
 obtain⟨inf,d,m,hisz,n,_⟩:=hF
 have k:∃c,fields.toList.mapM (λf=>(P.info? f.type).map λi=>(f.offset,i.size))=some c/\
  ∀(j:Nat) (f:Field) (σ:Ty),fields[j]?=some f->i.τ.sub (dZ i.fs.length j)=some σ->c.toArray[j]?=some (f.offset,σ.sz):=by
  have l:∀f∈fields.toList,∃inf,P.info? f.type=some inf:=by
   intro f y;obtain⟨j,v,rfl⟩:=aop.1 y;obtain⟨_,_,σ,_,inf,d,h1,_⟩:=s j fields[j] (adV (by simpa using v));exact⟨inf,by simpa using h1⟩
  refine⟨fields.toList.map λf=>(f.offset,((P.info? f.type).map (·.size)).getD 0),?_,?_⟩;generalize fields.toList=L at l
  induction L with
  |nil=>rfl
  |cons f L ih=>
   obtain⟨inf,m⟩:=l f (by simp);simp[List.mapM_cons,m,ih (λf s=>l f (by simp[s]))]
  intro j f σ v K;obtain⟨_,_,σ',g1,inf,d,g2,g3,_⟩:=s j f v;rw[g1]at K;cases K;simp[v,g2,g3]
 obtain⟨c,H,I⟩:=k;obtain⟨b,k1,k2,k3⟩:=WQ (fields:=fields) R X Y s F (λx=>c.toArray[x]?) I ps.toList _ _ i.τ.zero.toArray r.1 r.2 hz (aaA _) hr;have z:=mR (τ:=i.τ) i.τ.kA (zX i.τ);have B:(eF i.τ i.τ.zero).cells=i.τ.zero.toArray:=A' (by simpa using z)
 have hb:P.built t (ps.map λp=>(p.1,a.eval p.2)).toList=some b:=by
  unfold Program.built;simp only[m,hu,n,H,B,aoB];exact k1
 refine dw R (mv:= .agg b) ?_ ⟨b.toList,?_,k2⟩ (bM.d k3) (by rintro _ _ ⟨⟩);simp only[execOp,W];exact fM (run_build w t _ b hb);show Value.agg b=eF i.τ b.toList;rw[LP e];cases h
def agB{e:Ty}(n:Nat)(z:Array Value)(d:z.toList=e.zero):(madeCells z (n*e.sz)).toList=(ala n e.zero).flatten:=by
 have h:z.size=e.sz:=by rw[<-alc,d,e.kA]
 have hpos:=e.qO;apply List.ext_getElem?;intro j
 induction n generalizing j with
 |zero=>simp[madeCells]
 |succ n m=>
  rw[aoq,aoO];by_cases i:j<e.sz;have l:j<(n+1)*e.sz:=by rw[j_];omega
  rw[List.getElem?_append_left (by rw[e.kA];exact i),<-d];simp only[madeCells,aoB,aoM,aoh,aor l,aoU,h,Nat.mod_eq_of_lt i];simp[show j<z.size by omega];have b:=m (j-e.sz);rw[List.getElem?_append_right (by rw[e.kA];omega),e.kA,<-b];simp only[madeCells,aoB,aoM,aoh];by_cases c:j<(n+1)*e.sz;have k:j-e.sz<n*e.sz:=by rw[j_]at c;omega
  rw[aor c,aor k];simp only[aoU,h];congr 2;rw[<-Nat.mod_eq_sub_mod (by omega)];have k:¬j-e.sz<n*e.sz:=by rw[j_]at c;omega
  rw[alg (by simp;omega),alg (by simp;omega)]
def YE(S:CxTy P C)(m:Inv w0 c0 U E a w G)(z:RI ops E a.tmps)(F:Gd ops a.tmps g){tk:Nat}(W:4<=tk)(X:¬U tk){o:Oper}{t:TypeId}{n c:Operand}{H:Ef}
 (I:o.op= .makeSlice t n c) (h:bK C ops E.rd tk g o=some H):nh w0 c0 (λu=>U u\/u=tk) E a ((execOp a.eval o).run P w) H:=by
 simp only[bK,I]at h;split at h;rename_i e fs el x sh y sh' L N k;cases h;intro R;obtain⟨K,v,rfl⟩:=e_ R;have hlt': @LT.lt Int Int.instLTInt y 4294967296:=v;obtain⟨hF,hu,hE⟩:=S.tt t _ L;have p:=eW m z F N;have q:=eW m z F k;obtain⟨inf,d,i,j,b,hby,_⟩:=hE
 have Y:(inf.bytes:Int)*y<=281474976710656:=by
  have h1:(inf.bytes:Int)<=32768:=by omega
  have h2:(inf.bytes:Int)*y<=32768*y:=Int.mul_le_mul_of_nonneg_right h1 K;omega
 have J:=run_make (P:=P) w t el inf _ hu i b .i64 .i64 y y K (Int.le_refl _) Y (by omega);have s:=mR (τ:=e) e.kA (zX e);rw[j]at J;refine Hj m W X (e:=e) (l:=ala y.toNat e.aa) (cs:=(ala y.toNat e.zero).flatten) (B:=[]) el (n:=y.toNat) (cap:=y.toNat) (by simp) ?_ (I' _) [] ?_ (by simp) (by simp) (by simp) (by simp) (r:=_) ?_;exact aZ.replicate (aW.zero w e) _;simp[List.length_flatten,e.kA,List.map_replicate,List.sum_replicate_nat];simp only[execOp,I];refine fM ?_;rw[p,q,J];have hm:=agB (e:=e) y.toNat (eF e e.zero).cells s;congr 3;rw[ald];exact A' (by rw[hm]);cases h
def Vh(hC:CxTy P C)(hI:Inv w0 c0 U E a w G)(hR:RI ops E a.tmps)(hg:Gd ops a.tmps g){tk:Nat}(h3:4<=tk)(hU:¬U tk){o:Oper}{t:TypeId}{n:Nat}{ps:Array (Nat×Operand)}{ef:Ef}
 (ho:o.op= .buildSlice t n ps) (h:bK C ops E.rd tk g o=some ef):nh w0 c0 (λu=>U u\/u=tk) E a ((execOp a.eval o).run P w) ef:=by
 simp only[bK,ho]at h;split at h;rename_i e fs el hi;split at h;rename_i hc;simp only[K',b_]at hc;obtain⟨r,hsm⟩:=hc;rw[m_]at h;obtain⟨⟨Y,ss⟩,hr,rfl⟩:=h;obtain⟨hF,hu,hE⟩:=hC.tt t _ hi;obtain⟨inf,d,I,k,v,hby,_⟩:=hE;obtain⟨y,i,k1,k2,k3,k4,S⟩:=aan hI hR hg ps.toList 0 Y ss ((Array.range (n*e.sz)).map ((eF e e.zero).cells[·%(eF e e.zero).cells.size]!)) hr (by simp[r]);have hct:=mR (τ:=e) e.kA (zX e);have p:n=Y.length:=by rw[k4];simp[r]
 have J:∀s∈ss,s.live=true:=λs m=>(S s m).1
 have q:i.toList=y.flatten:=by
  rw[k2];simp only[Nat.zero_mul,aoF,akO,aoL];rw[ahG (by simp[r]),ald]
 have z:(execOp a.eval o).run P w= .ok (.value (.slice (some ⟨w.heap.size,0,none⟩) n n)) (w.alloc (.cells (y.flatten++[]).toArray el)):=by
  simp only[execOp,ho];refine fM ?_;have N:i=(y.flatten++[]).toArray:=A' (by simp[q]);by_cases h0:n*e.sz=0;have b0:n=0:=by rcases Nat.mul_eq_zero.1 h0 with h|h;exact h;have:=e.qO;omega
  subst b0;have F:ps.toList=[]:=by cases e0:ps.toList with|nil=>rfl|cons x l=>have:=congrArg aoR e0;simp[r]at this
  have R:ps= #[]:=A' (by simpa using F);rw[F]at k1;simp only[List.map_nil,Instr.fill,aar]at k1;subst R;simp[Instr.buildSlice,run_underlying hu,Go.sizeOf,typeInfo,I,Instr.fill,newRow];rw[<-ald y.flatten,<-N,<-k1];simp[Array.range_zero'];rw[run_buildSlice w t el n _ i inf _ hu I v (by rw[k];omega) (by rw[k];exact h0) (by rw[k];simpa using k1),N]
 simp only[ajK];split;rename_i ts K;obtain⟨B,W,r2,X⟩:=B9.own k3 K;have H:=M6 K;refine Hj hI h3 hU (e:=e) (l:=Y) el p W (I' _) [] ?_ (λb L=> ?_) X (λc hc=> .inl ?_) (λ_=>r2) z;have:=aZ.len (sz:=e.sz) (λx c B h=>aW.len h) W;rw[this,p];simp;obtain⟨s,m,j⟩:=J_.1 (H _ (X b L));exact((S s m).2 _ j).1;obtain⟨s,m,j⟩:=J_.1 (H _ hc);exact(S s m).2 _ j;obtain⟨B,W,X⟩:=B9.rep k3 J;refine Hj hI h3 hU (e:=e) (l:=Y) el p W (I' _) [] ?_ (λb L=> ?_) (λb L=>alk.2 (X b L)) (λc hc=> .inl ?_) (by simp) z;have:=aZ.len (sz:=e.sz) (λx c B h=>aW.len h) W;rw[this,p];simp;obtain⟨s,m,j⟩:=J_.1 (X b L);exact((S s m).2 _ j).1;obtain⟨s,m,j⟩:=J_.1 (alk.1 hc);exact(S s m).2 _ j;cases h;cases h
theorem aZ.cut{α:Type}{R:α->List Value->List Nat->Prop}{sz:Nat}(e:∀x c B,R x c B->c.length=sz){l:List α}{cs:List Value}{B:List Nat}
 (h:aZ R l cs B) (i j:Nat) (hij:i<=j) (hj:j<=l.length):∃B',aZ R ((l.take j).drop i) ((cs.drop (i*sz)).take ((j-i)*sz)) B'/\∀b∈B',b∈B:=by
 have v:l=l.take j++l.drop j:=(aom j l).symm;rw[v]at h;obtain⟨B1,B2,rfl,p,_⟩:=aZ.split e h;have o:l.take j=(l.take j).take i++(l.take j).drop i:=(aom i _).symm;rw[o]at p;obtain⟨B3,H,rfl,_,q⟩:=aZ.split e p;refine⟨H,?_,λb u=>by simp[u]⟩;have y:(aoN i (aoN j l)++List.drop i (aoN j l)).length=j:=by rw[<-o];simp;omega
 have z:((l.take j).take i).length=i:=by simp;omega
 rw[y,z,show(cs.take (j*sz)).drop (i*sz)=(cs.drop (i*sz)).take ((j-i)*sz) by rw[alb,Nat.sub_mul]]at q;exact q
theorem eX.cut{e:Ty}{l:List e.den}{v:Value}{B:List Nat}(h:eX w e.sz (aW w e) l v B)(i j:Nat)(y:i<=j)(u:j<=l.length):
 ∃base n cap,v= .slice base n cap/\n=l.length/\n<=cap/\∃B',eX w e.sz (aW w e) ((l.take j).drop i) (.slice (if cap=i then base else base.map (·.add (i*e.sz))) (j-i) (cap-i)) B'/\∀b∈B',b∈B:=by
 rcases h with⟨⟨L,rfl⟩,rfl,rfl⟩|⟨b,off,cap,c,el,z,Bs,N,o,H,hsz,rfl,R⟩;simp only[List.length_nil,Nat.le_zero]at u;subst u;obtain rfl:i=0:=by omega
 exact⟨L,0,0,rfl,rfl,I' _,[],.inl ⟨⟨_,rfl⟩,by simp,rfl⟩,by simp⟩;refine⟨some ⟨b,off,none⟩,l.length,cap,N,rfl,o,?_⟩;obtain⟨B',q,I⟩:=aZ.cut (sz:=e.sz) (λx c B h=>aW.len h) R i j y u;have hlen:((l.take j).drop i).length=j-i:=by simp;omega
 have hm1:(j-i)*e.sz+i*e.sz=j*e.sz:=by rw[<-j_];congr 1;omega
 have hm2:j*e.sz<=l.length*e.sz:=K_ _ u;have hm3:l.length*e.sz<=cap*e.sz:=K_ _ o;have hm4:(cap-i)*e.sz+i*e.sz=cap*e.sz:=by rw[<-j_];congr 1;omega
 by_cases hc:cap=i;refine⟨b::B',.inr ⟨b,off,cap-i,c,el,z,B',?_,?_,H,?_,rfl,?_⟩,?_⟩;rw[an hc,hlen];rw[hlen];omega;omega;rw[hlen];have J:j-i=0:=by omega
 rw[J]at q|-;simp only[Nat.zero_mul,aoF]at q|-;exact q;intro x p;rcases l_.1 p with rfl|p;simp;exact ahz _ (I x p);refine⟨b::B',.inr ⟨b,off+i*e.sz,cap-i,c,el,z,B',?_,?_,H,?_,rfl,?_⟩,?_⟩;rw[a_ hc,hlen];simp[Addr.add_lit];rw[hlen];omega;omega;rw[hlen]
 have K:(((c.toList.drop off).take (l.length*e.sz)).drop (i*e.sz)).take ((j-i)*e.sz)=(c.toList.drop (off+i*e.sz)).take ((j-i)*e.sz):=by
  rw[alb,aod,ak9,ali (by omega)]
 rw[K]at q;exact q;intro x p;rcases l_.1 p with rfl|p;simp;exact ahz _ (I x p)
theorem Qs(J:Inv w0 c0 U E a w G){e:Ty}{l:List e.den}{v:Value}{m:M}(F:cL w G e l v m)(H:m≠ .dead)(hc:∀c∈m.aJ,0<c/\U c/\G.bx c=false)
 (i j:Nat) (q:i<=j) (K:j<=l.length) {r:Result Next}
 (h:∀base n cap,v= .slice base n cap->n=l.length->n<=cap->r= .ok (.value (.slice (if cap=i then base else base.map (·.add (i*e.sz))) (j-i) (cap-i))) w) {y:List e.den} (L:y=(l.take j).drop i):
 Yields w0 c0 U E a r (.d ⟨.sl e,y,.sl (.sha m.aJ)⟩):=by
 subst L;obtain⟨B,R,x⟩:=F.rep H;obtain⟨base,n,cap,z,S,W,X,Y,h5⟩:=R.cut i j q K;refine dw J (h base n cap z S W) ⟨[_],rfl,_,rfl,⟨X,Y,λb I=>x b (h5 b I)⟩,λk=> ?_⟩ (bM.d hc) (by rintro _ _ ⟨⟩);cases m with
 |row t hs nd=>simp[M.aJ]at k
 |sha hs=>
  have N:=F.2 k;rw[N]at z;cases z;have s:j=0:=by omega
  have u:i=0:=by omega
  subst s u;rfl
 |nst b E i o p fr=>simp[M.aJ]at k
 |dead=>exact absurd rfl H
def kO{k:IntKind}{i:Int}{y:Nat}{code:BoundsCode}(b:0<=i)(c:i<=y):(Instr.sliceBound (.int k i) y code).run P w= .ok i.toNat w:=run_sliceBound w k i y code b c
def afS(hC:CxTy P C)(p:Inv w0 c0 U E a w G)(u:RI ops E a.tmps)(v:Gd ops a.tmps g){tk:Nat}{o:Oper}{t:TypeId}{x:Operand}{lo hi mx:Option Operand}{ef:Ef}
 (Y:o.op= .slice t x lo hi mx) (h:bK C ops E.rd tk g o=some ef):nh w0 c0 U E a ((execOp a.eval o).run P w) ef:=by
 simp only[bK,Y]at h;split at h;cases h;rename_i ti o0;have hT:=hC.tt t ti o0
 have sl:∀ {e:Ty},ti.τ= .sl e->P.underlying t=some (.slice ti.el)/\jk P ti.el e:=by
  intro e he;have:=hT.2;rw[he]at this;exact this
 have st:ti.τ= .str->P.underlying t=some .string:=by intro he;have:=hT.2;rw[he]at this;exact this
 split at h
 rename_i e l m F c r;obtain rfl:=ahI.1 c;obtain rfl:=ahI.1 r;split at h;rename_i H;cases h;obtain⟨hu,hE⟩:=sl H;obtain⟨m',N,j,hd,B⟩:=ll p u v F;simp only[Sh.sl.injEq]at N;subst N;refine Qs p j hd B 0 l.length (Nat.zero_le _) (I' _) ?_ (by simp);intro base n cap hv hn I;simp only[execOp,Y];refine fM ?_;rw[hv];simp[Instr.sliceAt,Instr.slice,Instr.sliceBounds,run_underlying hu,eY hE,hn];cases h
 rename_i e l m q J F c r;obtain⟨b0,rfl,b⟩:=m_.1 c;obtain rfl:=ahI.1 r;split at h;rename_i H;cases h;intro d;obtain⟨R,S⟩:=e_ d;obtain⟨hu,hE⟩:=sl H;obtain⟨m',N,j,hd,B⟩:=ll p u v F;simp only[Sh.sl.injEq]at N;subst N;have L:=eW p u v b;have X: @LE.le Int LA q (l.length:Int):=S;have z: @LE.le Int LA 0 q:=R;refine Qs p j hd B q.toNat l.length (by omega) (I' _) ?_ (by simp);intro base n cap hv hn I;simp only[execOp,Y];refine fM ?_;rw[hv];have:=kO (P:=P) (w:=w) (k:= .i64) (code:= .sliceB) z X;simp[Instr.sliceAt,Instr.slice,Instr.sliceBounds,run_underlying hu,eY hE,hn,L,this];cases h
 rename_i e l m q J F K c;obtain rfl:=ahI.1 K;obtain⟨e0,rfl,b⟩:=m_.1 c;split at h;rename_i H;cases h;intro d;obtain⟨R,S⟩:=e_ d;obtain⟨hu,hE⟩:=sl H;obtain⟨m',N,j,hd,B⟩:=ll p u v F;simp only[Sh.sl.injEq]at N;subst N;have L:=eW p u v b;have X: @LE.le Int LA q (l.length:Int):=S;have z: @LE.le Int LA 0 q:=R;refine Qs p j hd B 0 q.toNat (Nat.zero_le _) (by omega) ?_ (by simp);intro base n cap hv hn I;simp only[execOp,Y];refine fM ?_;rw[hv];have:=kO (P:=P) (w:=w) (k:= .i64) (y:=cap) (code:= .sliceAcap) z (by omega);simp[Instr.sliceAt,Instr.slice,Instr.sliceBounds,run_underlying hu,eY hE,L,this];cases h
 rename_i e l m q J bv p0 F c r;obtain⟨b0,rfl,b⟩:=m_.1 c;obtain⟨e0,rfl,W⟩:=m_.1 r;split at h;rename_i H;cases h;intro d;obtain⟨R,S,h2⟩:=e_ d;obtain⟨hu,hE⟩:=sl H;obtain⟨m',N,j,hd,B⟩:=ll p u v F;simp only[Sh.sl.injEq]at N;subst N;have L:=eW p u v b;have hb:=eW p u v W;have z: @LE.le Int LA 0 q:=R;have X: @LE.le Int LA q bv:=S;have r0: @LE.le Int LA bv (l.length:Int):=h2;have s0:(bv.toNat:Int)=bv:=aoK (by omega);refine Qs p j hd B q.toNat bv.toNat (by omega) (by omega) ?_ rfl;intro base n cap hv hn I;simp only[execOp,Y];refine fM ?_;rw[hv];have e1:=kO (P:=P) (w:=w) (k:= .i64) (y:=cap) (code:= .sliceAcap) (i:=bv) (by omega) (by omega);have e2:=kO (P:=P) (w:=w) (k:= .i64) (y:=bv.toNat) (code:= .sliceB) (i:=q) z (by omega);simp[Instr.sliceAt,Instr.slice,Instr.sliceBounds,run_underlying hu,eY hE,L,hb,e1,e2];cases h
 rename_i s k0 q J F c r;obtain⟨b0,rfl,b⟩:=m_.1 c;obtain rfl:=ahI.1 r;split at h;rename_i H;cases h;intro d;obtain⟨R,S⟩:=e_ d;have hs:=qI p u v F;have L:=eW p u v b;have e2:=kO (P:=P) (w:=w) (k:= .i64) (y:=s.size) (code:= .sliceB) (i:=q) R S;refine rP p ?_;simp only[execOp,Y];refine fM ?_;simp[Instr.sliceAt,Instr.slice,Instr.sliceBounds,run_underlying (st H),hs,L,e2];cases h
 rename_i s k0 q J F K c;obtain rfl:=ahI.1 K;obtain⟨e0,rfl,b⟩:=m_.1 c;split at h;rename_i H;cases h;intro d;obtain⟨R,S⟩:=e_ d;have hs:=qI p u v F;have L:=eW p u v b;have e2:=kO (P:=P) (w:=w) (k:= .i64) (y:=s.size) (code:= .sliceAlen) (i:=q) R S;refine rP p ?_;simp only[execOp,Y];refine fM ?_;simp[Instr.sliceAt,Instr.slice,Instr.sliceBounds,run_underlying (st H),hs,L,e2];cases h
 rename_i s k0 q J bv p0 F c r;obtain⟨b0,rfl,b⟩:=m_.1 c;obtain⟨e0,rfl,W⟩:=m_.1 r;split at h;rename_i H;cases h;intro d;obtain⟨R,S,h2⟩:=e_ d;have hs:=qI p u v F;have L:=eW p u v b;have hb:=eW p u v W;have z: @LE.le Int LA 0 q:=R;have X: @LE.le Int LA q bv:=S;have r0: @LE.le Int LA bv (s.size:Int):=h2;have s0:(bv.toNat:Int)=bv:=aoK (by omega);have e1:=kO (P:=P) (w:=w) (k:= .i64) (y:=s.size) (code:= .sliceAlen) (i:=bv) (by omega) (by omega);have e2:=kO (P:=P) (w:=w) (k:= .i64) (y:=bv.toNat) (code:= .sliceB) (i:=q) z (by omega);refine rP p ?_;simp only[execOp,Y];refine fM ?_;simp[Instr.sliceAt,Instr.slice,Instr.sliceBounds,run_underlying (st H),hs,L,hb,e1,e2];cases h;cases h
def PV(d:Nat)(t:TypeId)(p q:Bool)(h:P.underlying t=some .bool):(Op.equalIn (d+1) t (.bool p) (.bool q)).run P w= .ok (p==q) w:=by
 simp[Op.equalIn,run_underlying h]
theorem E4:∀ {τ:Ty} {x:τ.den} {cs:List Value} {B:List Nat},τ.flat=true->aW w τ x cs B->B=[]
 | .int _,_,_,_,_,h=>h.2
 | .bool,_,_,_,_,h=>h.2
 | .str,_,_,_,_,h=>h.2
 | .sl _,_,_,_,hf,_=>by simp[Ty.flat]at hf
 | .pair a b,p,cs,B,hf,h=>by
   obtain⟨c1,c2,B1,B2,rfl,rfl,c,d⟩:=h;simp only[Ty.flat,K']at hf;rw[E4 hf.1 c,E4 hf.2 d];rfl
def ajk(R:CxTy P C)(d:Inv w0 c0 U E a w G)(e:RI ops E a.tmps)(i:Gd ops a.tmps g){tk:Nat}{o:Oper}{op:BinOp}{t u:TypeId}{x y:Operand}{S:Ef}
 (W:o.op= .binOp op t x y u) (h:bK C ops E.rd tk g o=some S):nh w0 c0 U E a ((execOp a.eval o).run P w) S:=by
 simp only[bK,W]at h;split at h;rename_i K p q l z B;split at h;rename_i L;simp only[execOp,W];unfold ahs at h;split at h;rename_i k m N k' n r;split at h;rename_i j;simp only[Bool.or_eq_true,b_]at j;exact aiq d (by rcases j with(j|j)|j<;>simp[j]) (eW d e i z) (eW d e i B) h;cases h;exact ahY d (qI d e i z) (qI d e i B) h;rename_i m N n r;have X:=(R.tt t K l).2;have Y:P.underlying t=some .bool:=by rw[<-L]at X;exact X
 have F:=GO d e i z;have H:=GO d e i B;rw[F,H];have s:∀v,eqGuard op t x y (.bool m) v=pure ():=λv=>eqGuard_at_bool ..;split at h;cases h;exact dM d (by simp[s,binOp,Op.equal,Op.maxDepth,PV (w:=w) 9999 t m n Y]);cases h;exact dM d (by simp[s,binOp,Op.equal,Op.maxDepth,PV (w:=w) 9999 t m n Y]);cases h;rename_i b1 b2 m N τ n r;split at h;rename_i n' hn;split at h;rename_i c;have b:=fG hn;simp only[TV.mk.injEq]at b;obtain⟨rfl,b⟩:=b;simp only[heq_eq_eq,and_true]at b;subst b;obtain⟨⟨c1,F,v1⟩,_,l1⟩:=kZ d e i z;obtain⟨⟨c2,H,v2⟩,_,l2⟩:=kZ d e i B;obtain⟨B1,I,_⟩:=v1.rep l1;obtain⟨B2,J,_⟩:=v2.rep l2;obtain rfl:=E4 c I;obtain rfl:=E4 c J;have heq:=R.eq t K l;rw[<-L]at heq;have hE:=heq rfl c w;rw[F,H];split at h;cases h;have:=hE .eql x y m n c1 c2 (.inl rfl) I J;exact dM d (fM (by simpa using this));cases h;have:=hE .neq x y m n c1 c2 (.inr rfl) I J;exact dM d (fM (by simpa using this));cases h;cases h;cases h;cases h;cases h;cases h
def aiA(F:Inv w0 c0 U E a w G)(R:RI ops E a.tmps)(hg:Gd ops a.tmps g){tk:Nat}{o:Oper}{c x y:Operand}{S:Ef}(W:o.op= .pick c x y)
 (h:bK C ops E.rd tk g o=some S):nh w0 c0 U E a ((execOp a.eval o).run P w) S:=by
 simp only[bK,W]at h;split at h;rename_i t sh sx sy hc hx hy;split at h;rename_i p sh1 q sh2 h1 h2;cases h
 have X:a.eval c= .bool t:=by
  obtain⟨⟨J,K,l⟩,_⟩:=gP F R hg hc;cases sh with
  |leaf=>rw[K,show J=_ from l];rfl
  |sl m=>exact l.elim
  |pair _ _=>exact l.elim
 have arm:∀ {z:Operand} {sz:SV} {b:Bool} {r:Bool} {s:Sh},gR C E.rd o.type z=some sz->Dl ops c b sz=some (.d ⟨.bool,r,s⟩)->t=b->a.eval z= .bool r:=by
  intro z sz b r s N k B;obtain⟨L,_⟩:=aaC F N;have H:=ae2 R N
  have fin:cU w G (.d ⟨.bool,r,s⟩) (a.eval z)->a.eval z= .bool r:=by
   rintro⟨J,K,l⟩;cases s with
   |leaf=>rw[K,show J=_ from l];rfl
   |sl m=>exact l.elim
   |pair _ _=>exact l.elim
  cases sz with
  |g j w' act v=>
   simp only[Dl]at k;split at k;rename_i n;split at k;rename_i i;simp only[K',b_]at i;simp only[aar]at k;subst k
   have I:yielded ops.toArray a.tmps j=some w':=by
    have hb:ops.toArray[j]?.bind (·.dst)=some n:=by simpa using i.2
    have e:a.tmps.getD n undef= .bool t:=X
    have u:a.tmps[n]?=some (.bool t):=by
     rw[aos]at e;cases Y:a.tmps[n]? with
     |none=>rw[Y]at e;cases e
     |some v=>rw[Y]at e;simp at e;rw[e]
    simp only[yielded,hb,Option.bind_some,u];rw[B,i.1]
   exact fin (L.1 ((H j w' act _ rfl).2 I)).2;cases k;cases k
  |_=>simp only[Dl,aar]at k;rw[k]at L;exact fin L
 refine dM F ?_;simp only[execOp,W,X];cases t with
 |true=>simp[asBool,arm hx h1 rfl]
 |false=>simp[asBool,arm hy h2 rfl]
 cases h;cases h
def ZE(d:Inv w0 c0 U E a w G)(n:RI ops E a.tmps)(q:Gd ops a.tmps g){tk:Nat}{o:Oper}{x:Operand}{r:Ef}(m:o.op= .nilCheck x)
 (h:bK C ops E.rd tk g o=some r):nh w0 c0 U E a ((execOp a.eval o).run P w) r:=by
 simp only[bK,m]at h;split at h;rename_i t u p τ j;cases h;obtain⟨c,l⟩:=gP d n q j;have b:=c;obtain⟨s,_,_,k⟩:=b;exact dw d (by simp only[execOp,m,k];rfl) (k▸c) l (by rintro _ _ ⟨⟩);rename_i t e i u p τ j;cases h;obtain⟨c,l⟩:=gP d n q j;have b:=c;obtain⟨s,_,_,_,_,_,_,_,k⟩:=b;exact dw d (by simp only[execOp,m,k];rfl) (k▸c) l (by rintro _ _ ⟨⟩);rename_i hs v j;cases h;obtain⟨c,l⟩:=gP d n q j;have b:=c;obtain⟨s,_,_,_,_,k,_⟩:=b;exact dw d (by simp only[execOp,m,k];rfl) (k▸c) l (by rintro _ _ ⟨⟩);cases h
def aa9(b:Inv w0 c0 U E a w G)(n:RI ops E a.tmps)(p:Gd ops a.tmps g){tk:Nat}{o:Oper}{x:Operand}{j:Nat}{e:Ef}(i:o.op= .extract x j)
 (h:bK C ops E.rd tk g o=some e):nh w0 c0 U E a ((execOp a.eval o).run P w) e:=by
 simp only[bK,i]at h;split at h;rename_i l m;rw[m_]at h;obtain⟨v,k,rfl⟩:=h;obtain⟨⟨vs,q,k2,r⟩,s⟩:=gP b n p m;obtain⟨u,t,q1,q2,q3⟩:=r j v k;refine dw b (mv:=u) ?_ ⟨t,q2,q3⟩ (bM.d λc hc=>s.1 c (J_.2 ⟨v,aoo k,hc⟩)) (by rintro _ _ ⟨⟩);simp only[execOp,i,q];refine fM ?_;simp[Instr.extract,q1];cases h
def ahf(z:CxTy P C)(B:Inv w0 c0 U E a w G)(L:RI ops E a.tmps)(N:Gd ops a.tmps g){tk:Nat}{o:Oper}{s:TypeId}{x:Operand}{j:Nat}{F:Ef}(H:o.op= .field s x j)
 (h:bK C ops E.rd tk g o=some F):nh w0 c0 U E a ((execOp a.eval o).run P w) F:=by
 simp only[bK,H]at h;split at h;rename_i i v y K;split at h;rename_i hc;simp only[K',b_]at hc;rw[m_]at h;obtain⟨r,X,rfl⟩:=h;obtain⟨⟨m,Y,J⟩,q,_⟩:=kZ B L N K
 have b:i.τ.cQ=true:=by
  cases R:i.τ.cQ with
  |true=>rfl
  |false=>rw[z.fs s i y R]at hc;simp at hc
 obtain⟨fields,hu,hsz,hf⟩:=(z.tt s i y).struct b;have I:j<fields.size:=by omega
 obtain⟨f1,f2,σ,f3,t⟩:=hf j fields[j] (adV I);obtain⟨q1,q2,q3,q4⟩:=bJ.sub X J;rw[hc.1,f3]at q3;simp only[aar]at q3;subst q3;refine dw B ?_ ⟨_,rfl,q1⟩ (bM.d λc n=>q c (q4 c n)) (by rintro _ _ ⟨⟩);simp only[execOp,H,Y];refine fM ?_;have hlen:=bJ.len J;rw[LP (by rw[hc.1];exact b)]
 have e:(part fields[j].type m.toArray fields[j].offset).run P w= .ok (eF r.τ ((m.drop (v.τ.off (dZ i.fs.length j))).take r.τ.sz)) w:=by
  rw[f1,<-hc.1];cases k:r.τ.cQ with
  |true=>simp[part,xE t,k,eY t,LP k,List.extract_eq_take_drop]
  |false=>
   have S:r.τ.sz=1:=by cases p:r.τ<;>simp_all[Ty.cQ,Ty.sz]
   have l:v.τ.off (dZ i.fs.length j)<m.length:=by omega
   have W:(m.drop (v.τ.off (dZ i.fs.length j))).take 1=[m[v.τ.off (dZ i.fs.length j)]]:=by
    rw[List.take_one,aoT];simp[l]
   have q:∀u:Value,eF r.τ [u]=u:=by intro u;cases p:r.τ<;>simp_all[eF,Ty.cQ]
   rw[S,W,q];simp[part,xE t,k,l]
 simp[Instr.field,run_underlying hu,adV I,asAgg,e];cases h;cases h
def akW(c:Inv w0 c0 U E a w G)(i:RI ops E a.tmps)(j:Gd ops a.tmps g){tk:Nat}{o:Oper}{op:UnOp}{t:TypeId}{x:Operand}{l:Ef}
 (e:o.op= .unOp op t x) (h:bK C ops E.rd tk g o=some l):nh w0 c0 U E a ((execOp a.eval o).run P w) l:=by
 simp only[bK,e]at h;split at h;rename_i b m d;cases h;exact dM c (by simp only[execOp,e,GO c i j d];exact fM (by simp[Op.unary]));rename_i k n m d;cases h;exact eP c (by simp only[execOp,e,eW c i j d];exact fM (by simp[Op.unary,Op.intArith]));cases h
def aee{t:TypeId}{i:TI}(h:Rp P t i):∃d,(underlying t).run P w= .ok d w:=by
 obtain⟨⟨inf,d,_,_,_,_,b,_⟩,_⟩:=h;exact⟨d,run_underlying b w⟩
theorem TR:∀ {l:List Int} {cs:List Value} {B:List Nat},aZ (aW w (.int .u8)) l cs B->cs=l.map λn=>Value.int .u8 n
 | [],_,_,h=>h.1
 |n::l,cs,B,h=>by
  obtain⟨c1,c2,B1,B2,rfl,rfl,b,c⟩:=h;rw[b.1,TR c];rfl
def ahQ(u:CxTy P C)(y:Inv w0 c0 U E a w G)(N:RI ops E a.tmps)(R:Gd ops a.tmps g){tk:Nat}{o:Oper}{s d:TypeId}{x:Operand}{ef:Ef}
 (L:o.op= .convert s d x) (h:bK C ops E.rd tk g o=some ef):nh w0 c0 U E a ((execOp a.eval o).run P w) ef:=by
 simp only[bK,L]at h;split at h;rename_i K p;obtain⟨ds,I⟩:=aee (w:=w) (u.tt s K p);split at h;rename_i k fs el k' n sh z F;cases h;have q:P.underlying d=some (.int k):=(u.tt d _ z).2;refine eP y ?_;simp only[execOp,L,eW y N R F];refine fM ?_;simp[convert,I,run_underlying q,Conv.intToInt];rename_i fs el v sh z F;cases h;have q:P.underlying d=some .string:=(u.tt d _ z).2;refine rP y ?_;simp only[execOp,L,qI y N R F];refine fM ?_;simp[convert,I,run_underlying q];rename_i fs el l sh z F;split at h;rename_i hτ;cases h;have q:P.underlying d=some .string:=(u.tt d _ z).2;have hT:=(u.tt s K p).2;rw[hτ]at hT;obtain⟨t,hel⟩:=hT;obtain⟨m,hm,J,W,_⟩:=ll y N R F;obtain⟨B,hB,_⟩:=J.rep W;refine rP y ?_;simp only[execOp,L];refine fM ?_;have r:P.underlying K.el=some (.int .u8):=u.u8 s K p hτ;rcases hB with⟨e,rfl,_⟩|⟨b,off,cap,c,el',fz,Bs,e,hcap,hb,X,rfl,Y⟩;obtain⟨ao,e⟩:=e;rw[e];cases ao with
 |none=>
  simp[convert,run_underlying t,run_underlying q,run_underlying r,Conv.bytesToString];rfl
 |some ad=>
  have i:=run_loadCells_list (P:=P) w ad [] (λj v e=>by simp at e);rw[run_convert_bytes_string w s d _ _ _ _ t r q,run_bytesToString w _ 0 0 [] (by simpa using i),foldl_push_bytes];congr 3
 rw[e];have H:(Ty.int IntKind.u8).sz=1:=rfl;rw[H,Nat.mul_one]at Y X;have S:=TR Y
 have hlen:((c.toList.drop off).take l.length).length=l.length:=by
  have:=aZ.len (sz:=1) (λx c B h=>aW.len h) Y;simpa using this
 have i:=run_loadCells_list (P:=P) w ⟨b,off,none⟩ ((c.toList.drop off).take l.length) (λj v e=>by
  rw[Addr.add_lit,qK hb];exact TB e)
 rw[hlen,S]at i;rw[run_convert_bytes_string w s d _ _ _ _ t r q,run_bytesToString w _ l.length cap l i,foldl_push_bytes];congr 3;simp;cases h;cases h;cases h
def ahi(z:CxTy P C)(d:Inv w0 c0 U E a w G)(l:RI ops E a.tmps)(m:Gd ops a.tmps g){tk:Nat}{o:Oper}{t:TypeId}{x n:Operand}{p:Ef}
 (q:o.op= .index t x n) (h:bK C ops E.rd tk g o=some p):nh w0 c0 U E a ((execOp a.eval o).run P w) p:=by
 simp only[bK,q]at h;split at h;rename_i r s sh k i sh' c u v;split at h;rename_i y;cases h;intro hc;obtain⟨H,I⟩:=e_ hc;have B:P.underlying t=some .string:=by have:=(z.tt t r c).2;rw[y]at this;exact this
 refine eP d ?_;simp only[execOp,q,qI d l m u,eW d l m v];refine fM ?_;have e: @LE.le Int LA 0 i:=H;have h1': @LT.lt Int Int.instLTInt i (s.size:Int):=I;have j:i.toNat<s.size:=by omega
 have b:s[i.toNat]?=some s[i.toNat]:=getElem?_pos ..
 have F:bt s i=(s[i.toNat].toNat:Int):=by
  simp only[bt]
  have:s.data.toList[i.toNat]?=some s[i.toNat]:=by
   rw[Array.getElem?_toList,adV (by exact j)];rfl
  rw[aoD,this];rfl
 simp[Instr.index,asIntOf,run_underlying B,e,b,F];cases h;cases h
def ajx(hC:CxTy P C)(p:Inv w0 c0 U E a w G)(r:RI ops E a.tmps)(F:Gd ops a.tmps g){tk:Nat}{o:Oper}{c:Call}{b:Builtin}{ef:Ef}
 (J:o.op= .call c) (K:c.callee= .builtin b) (hq:∀x y z u v,ef≠ .app x y z u v) (h:bK C ops E.rd tk g o=some ef):nh w0 c0 U E a ((execOp a.eval o).run P w) ef:=by
 simp only[bK,J,K]at h;unfold qL at h;split at h
 rename_i x t H j;have d:c.args= #[x]:=A' (by simpa using H);have i:c.argTypes= #[t]:=A' (by simpa using j);split at h;cases h;rename_i ti I;split at h;rename_i e l R q;split at h;rename_i S;cases h;have L:=(hC.tt t ti I).2;rw[S]at L;obtain⟨m,hm,N,b0,_⟩:=ll p r F q;obtain⟨B,hB,_⟩:=N.rep b0;refine eP p ?_;simp only[execOp,J]
 rcases hB with⟨⟨ao,hv⟩,rfl,_⟩|⟨b,off,cap,c,el',fz,Bs,hv,_⟩<;>
  simp[resolve,K,invoke,builtin,d,i,hv,Builtin.len_,run_underlying L.1,goInt]
 cases h;rename_i s R q;split at h;rename_i S;cases h;have L:=(hC.tt t ti I).2;rw[S]at L;refine eP p ?_;simp only[execOp,J];simp[resolve,K,invoke,builtin,d,i,qI p r F q,Builtin.len_,run_underlying L,goInt];cases h;cases h
 rename_i x y t u H j;have d:c.args= #[x,y]:=A' (by simpa using H);have i:c.argTypes= #[t,u]:=A' (by simpa using j);split at h;rename_i k m R k' n W q X;split at h;rename_i Y;subst Y;cases h;refine eP p ?_;simp only[execOp,J];simp[resolve,K,invoke,builtin,d,i,eW p r F q,eW p r F X,Builtin.min_,Builtin.min2];cases h;cases h
 rename_i x y t u H j;have d:c.args= #[x,y]:=A' (by simpa using H);have i:c.argTypes= #[t,u]:=A' (by simpa using j);split at h;rename_i k m R k' n W q X;split at h;rename_i Y;subst Y;cases h;refine eP p ?_;simp only[execOp,J];simp[resolve,K,invoke,builtin,d,i,eW p r F q,eW p r F X,Builtin.max_,Builtin.max2];cases h;cases h
 split at h;split at h;split at h;split at h;cases h;exact absurd rfl (hq _ _ _ _ _);cases h;cases h;cases h;cases h;cases h
def Good(U:Nat->Prop)(G:Gh)(c:Nat):Prop:=0<c/\U c/\G.bx c=false
structure BK(w:World)(U:Nat->Prop)(G:Gh)(U':Nat->Prop)(G':Gh)(f:M->M)(fe:Nat->Bool)(fr:List Nat->Option (List Nat)):Prop where
 row:∀(e:Ty) (l:List e.den) (v:Value) (m:M),cL w G e l v m->(∀c∈m.aJ,Good U G c)->cL w G' e l v (f m)
 good:∀m:M,(∀c∈m.aJ,Good U G c)->∀c∈(f m).aJ,Good U' G' c
 rd:∀hs hs',fr hs=some hs'->(∀c∈hs,Good U G c)->(∀c∈hs',Good U' G' c)/\∀b,G.col b∈hs->G'.col b∈hs'
 hdr:∀t,U t->G'.hdr t=G.hdr t
 bx:∀t,U t->G.bx t=true->G'.bx t=true/\∀b,G.col b=t->G'.col b=t
 ru:∀t,U t->G.bx t=false->G'.bx t=false
 mono:∀t,U t->U' t
section
variable{U':Nat->Prop}{G':Gh}{f:M->M}{fe:Nat->Bool}{fr:List Nat->Option (List Nat)}
theorem Sh.wN(e:BK w U G U' G' f fe fr):∀ {sh:Sh},(∀c∈sh.aJ,Good U G c)->∀c∈(sh.map f).aJ,Good U' G' c
 | .leaf,_,c,h=>by simp[Sh.map,Sh.aJ]at h
 | .sl m,hc,c,h=>e.good m hc c h
 | .pair a b,hc,c,h=>by
   simp only[Sh.map,Sh.aJ,eH]at h;exact h.elim (Sh.wN e (λc h=>hc c (by simp[Sh.aJ,h])) c) (Sh.wN e (λc h=>hc c (by simp[Sh.aJ,h])) c)
theorem bJ.map(o:BK w U G U' G' f fe fr):∀ {τ:Ty} {x:τ.den} {sh:Sh} {cs:List Value},bJ w G τ x sh cs->(∀c∈sh.aJ,Good U G c)->
 bJ w G' τ x (sh.map f) cs
 | .int _,_,.leaf,_,h,_=>h
 | .bool,_,.leaf,_,h,_=>h
 | .str,_,.leaf,_,h,_=>h
 | .sl e,l,.sl m,cs,h,hc=>by
   obtain⟨v,rfl,q⟩:=h;exact⟨v,rfl,o.row _ _ _ _ q hc⟩
 | .pair a b,p,.pair s1 s2,cs,h,hc=>by
   obtain⟨u,y,rfl,z,B⟩:=h;exact⟨u,y,rfl,bJ.map o z (λc h=>hc c (by simp[Sh.aJ,h])),bJ.map o B (λc h=>hc c (by simp[Sh.aJ,h]))⟩
 | .int _,_,.sl _,_,h,_| .int _,_,.pair _ _,_,h,_| .bool,_,.sl _,_,h,_| .bool,_,.pair _ _,_,h,_
 | .str,_,.sl _,_,h,_| .str,_,.pair _ _,_,h,_| .sl _,_,.leaf,_,h,_| .sl _,_,.pair _ _,_,h,_
 | .pair _ _,_,.leaf,_,h,_| .pair _ _,_,.sl _,_,h,_=>h.elim
theorem bM.map(h:BK w U G U' G' f fe fr):∀ {s:SV},bM U G s->bM U' G' (s.mapM f fe fr)
 | .no,_=>by simp[SV.mapM,bM,SV.sc,SV.bt,SV.rt]
 | .d v,hm=>bM.d (Sh.wN h hm.1)
 | .box t v,hm=>by
   have b:=hm.2.1 t (by simp[SV.bt]);refine⟨Sh.wN h hm.1,?_,by simp[SV.mapM,SV.rt]⟩;intro c hc;simp only[SV.mapM,SV.bt,aiS]at hc;subst hc;exact⟨b.1,h.mono _ b.2.1,(h.bx _ b.2.1 b.2.2).1⟩
 | .ptr t o p τ,hm=>by
   have b:=hm.2.1 t (by simp[SV.bt]);refine⟨by simp[SV.mapM,SV.sc],?_,by simp[SV.mapM,SV.rt]⟩;intro c hc;simp only[SV.mapM,SV.bt,aiS]at hc;subst hc;exact⟨b.1,h.mono _ b.2.1,(h.bx _ b.2.1 b.2.2).1⟩
 | .ept t e i o p τ,hm=>by
   simp only[SV.mapM];split;have b:=hm.2.2 t (by simp[SV.rt]);refine⟨by simp[SV.sc],by simp[SV.bt],?_⟩;intro c hc;simp only[SV.rt,aiS]at hc;subst hc;exact⟨b.1,h.mono _ b.2.1,h.ru _ b.2.1 b.2.2⟩;simp[bM,SV.sc,SV.bt,SV.rt]
 | .rdp hs v,hm=>by
   simp only[SV.mapM];split;rename_i q u;obtain⟨y,k2⟩:=h.rd hs q u (λc hc=>hm.1 c (by simp[SV.sc,hc]));refine⟨?_,by simp[SV.bt],by simp[SV.rt]⟩;intro c hc;simp only[SV.sc,eH]at hc;exact hc.elim (y c) (Sh.wN h (λc hc=>hm.1 c (by simp[SV.sc,hc])) c);simp[bM,SV.sc,SV.bt,SV.rt]
 | .tup l,hm=>by
   refine⟨?_,by simp[SV.mapM,SV.bt],by simp[SV.mapM,SV.rt]⟩;intro c hc;simp only[SV.mapM,SV.sc,aoS,J_]at hc;obtain⟨v,z,hc⟩:=hc;exact Sh.wN h (λc hc=>hm.1 c (J_.2 ⟨v,z,hc⟩)) c hc
 | .g j w' true v,hm=>by
   have:=bM.map (s:=v) h (by simpa[bM,SV.sc,SV.bt,SV.rt]using hm);simpa[bM,SV.mapM,SV.sc,SV.bt,SV.rt]using this
 | .g j w' false v,hm=>by simp[bM,SV.mapM,SV.sc,SV.bt,SV.rt]
theorem cU.map(h:BK w U G U' G' f fe fr):∀ {s:SV} {mv:Value},cU w G s mv->bM U G s->cU w G' (s.mapM f fe fr) mv
 | .no,_,_,_=>trivial
 | .d v,mv,⟨B,h1,h2⟩,hm=>⟨B,h1,bJ.map h h2 hm.1⟩
 | .box t v,mv,⟨bk,c,el,h1,h2,h3,h4,h5,h6⟩,hm=>by
   have q:=hm.2.1 t (by simp[SV.bt]);have N:=h.bx t q.2.1 q.2.2;exact⟨bk,c,el,h1,h2,(h.hdr t q.2.1).trans h3,N.2 _ h4,h5,bJ.map h h6 hm.1⟩
 | .ptr t o p τ,mv,⟨bk,h1,h2,h3⟩,hm=>by
   have q:=hm.2.1 t (by simp[SV.bt]);exact⟨bk,h1,(h.hdr t q.2.1).trans h2,h3⟩
 | .ept t e i o p τ,mv,⟨b,off,n,cap,h1,h2,h3⟩,hm=>by
   simp only[SV.mapM];split;have q:=hm.2.2 t (by simp[SV.rt]);exact⟨b,off,n,cap,h1,(h.hdr t q.2.1).trans h2,h3⟩;trivial
 | .rdp K v,mv,⟨b,o,c,el,fz,h1,h2,h3,h4,h5⟩,hm=>by
   simp only[SV.mapM];split;rename_i z L;obtain⟨k1,R⟩:=h.rd K z L (λc hc=>hm.1 c (by simp[SV.sc,hc]));exact⟨b,o,c,el,fz,h1,h2,h3,R _ h4,bJ.map h h5 (λc hc=>hm.1 c (by simp[SV.sc,hc]))⟩;trivial
 | .tup l,mv,⟨vs,h1,h2,h3⟩,hm=>by
   refine⟨vs,h1,by simp[h2],λi v I=> ?_⟩;rw[aoh,m_]at I;obtain⟨J,y,rfl⟩:=I;obtain⟨u,B,S,H,W⟩:=h3 i J y;exact⟨u,B,S,H,bJ.map h W (λc hc=>hm.1 c (J_.2 ⟨J,aoo y,hc⟩))⟩
 | .g j w' false v,mv,⟨h1,h2⟩,hm=>⟨λe=>absurd e (by simp),h2⟩
 | .g j w' true v,mv,⟨h1,h2⟩,hm=>⟨λe=>⟨by
  have:=(h1 e).1;cases v with
  |box t v=>simp[SV.dV]at this
  |ept t e i o p τ=>simp only[SV.mapM];split<;>rfl
  |rdp K v=>simp only[SV.mapM];split<;>rfl
  |_=>rfl,cU.map (s:=v) h (h1 e).2 (by simpa[bM,SV.sc,SV.bt,SV.rt]using hm)⟩,h2⟩
def Ee{s:SV}{t:Nat}{u:TV}(h:s.mapM f fe fr= .box t u):∃b,s= .box t b:=by
 cases s with
 |box c v=>simp only[SV.mapM,SV.box.injEq]at h;exact⟨v,by rw[h.1]⟩
 |ept c e i o p τ=>simp only[SV.mapM]at h;split at h<;>cases h
 |rdp hs v=>simp only[SV.mapM]at h;split at h<;>cases h
 |_=>simp[SV.mapM]at h
def getD_map{L:List SV}{T:SV->SV}(b:T .no= .no)(s:Nat):(L.map T).getD s .no=T (L.getD s .no):=by
 simp only[akQ,aoh];cases L[s]?<;>simp[b]
theorem Inv.map(c:Inv w0 c0 U E a w G)(o:BK w U G U' G' f fe fr)(B:∀b,0<G'.col b->U' (G'.col b))
 (l:∀b,(0<G'.col b->0<G.col b)/\(G.col b<4->G'.col b=G.col b)/\(G'.col b<4->G'.col b=G.col b)):
 Inv w0 c0 U' {E with s:=E.s.map (SV.mapM f fe fr)} a w G':=by
 have y:∀s,({E with s:=E.s.map (SV.mapM f fe fr)}:Env).s.getD s .no=(E.s.getD s .no).mapM f fe fr:=λs=>getD_map (T:=SV.mapM f fe fr) rfl s;have H:∀s,bM U' G' ((E.s.getD s .no).mapM f fe fr):=λs=>bM.map o (c.wc s);refine⟨by simpa using c.len,λs=> ?_,λs=> ?_,λs=> ?_,λs=> ?_,λs K t v v' q J=> ?_,B,λb p=>c.lt b ((l b).1 p),λb p=>c.fresh b ?_,λb p hc=> ?_,λb p=> ?_,c.size,c.os,c.tape,c.output,c.defers,⟨⟨o.mono _ c.two.1.1,o.ru _ c.two.1.1 c.two.1.2⟩,o.mono _ c.two.2.1,o.ru _ c.two.2.1 c.two.2.2⟩,λz t v e=>⟨o.mono _ (c.hk z t v e).1,(o.hdr t (c.hk z t v e).1).trans (c.hk z t v e).2⟩⟩;rw[y];exact cU.map o (c.slots s) (c.wc s);rw[y];exact(H s).1;rw[y];exact(H s).2.1;rw[y];exact(H s).2.2;rw[y]at q J;obtain⟨u,L⟩:=Ee q;obtain⟨N,I⟩:=Ee J;exact c.uni s K t u N L I;have q:=(l b).2.1;rcases aon (G.col b) 4 with h|h;have:=q h;omega;exact h;have h:=c.frame b p hc;exact⟨by rw[(l b).2.1 (by rw[h.1];exact hc)];exact h.1,h.2⟩;have q:=(l b).2.2 (by omega);rw[q]at p|-;exact c.one b p
end
def BU{a b:List Nat}(h:meets a b=false):∀c∈a,c∉b:=by
 simp only[meets,List.any_eq_false,ajz,b_]at h;exact h
def mo(ts:List Nat)(m:M):∀c∈(m.kill ts).aJ,c∈m.aJ/\c∉ts:=by
 intro c hc;unfold M.kill at hc;split at hc;simp[M.aJ]at hc;rename_i b;exact⟨hc,BU (by simpa using b) c hc⟩
def aiy(ts:List Nat):BK w U G U G (M.kill ts) (!ts.contains ·) (λhs=>if meets hs ts then none else some hs) where
 row e l v m h _:=by
  unfold M.kill;split;exact h.one;exact h
 good m h c hc:=h c (mo ts m c hc).1
 rd hs hs' h hg:=by
  split at h;cases h;cases h;exact⟨hg,λb d=>d⟩
 hdr _ _:=rfl
 bx t _ d:=⟨d,λ_ h=>h⟩
 ru _ _ h:=h
 mono _ h:=h
theorem Inv.kill(c:Inv w0 c0 U E a w G)(ts:List Nat):Inv w0 c0 U (E.kill ts) a w G:=by
 unfold Env.kill;split;exact c;exact c.map (aiy ts) c.colU (λb=>⟨λh=>h,λ_=>rfl,λ_=>rfl⟩)
theorem Sh.mo{ts:List Nat}:∀(sh:Sh),∀c∈(sh.map (M.kill ts)).aJ,c∈sh.aJ/\c∉ts
 | .leaf,c,h=>by simp[Sh.map,Sh.aJ]at h
 | .sl m,c,h=>Vg.mo ts m c h
 | .pair a b,c,h=>by
   simp only[Sh.map,Sh.aJ,eH]at h|-;rcases h with h|h;have:=Sh.mo a c h;exact⟨.inl this.1,this.2⟩;have:=Sh.mo b c h;exact⟨.inr this.1,this.2⟩
theorem SV.Du{ts:List Nat}:∀(s:SV),∀c∈(s.kill ts).sc,c∈s.sc/\c∉ts
 | .no,c,h| .ptr ..,c,h=>by simp[SV.kill,SV.mapM,SV.sc]at h
 | .d v,c,h=>Sh.mo v.sh c h
 | .box t v,c,h=>Sh.mo v.sh c h
 | .ept t e i o p τ,c,h=>by simp only[SV.kill,SV.mapM]at h;split at h<;>simp[SV.sc]at h
 | .rdp hs v,c,h=>by
   simp only[SV.kill,SV.mapM]at h;by_cases b:meets hs ts=true;simp[b,SV.sc]at h;simp only[b,aot,if_false,SV.sc,eH]at h;rcases h with h|h;exact⟨by simp[SV.sc,h],BU (by simpa using b) c h⟩;have:=Sh.mo v.sh c h;exact⟨by simp[SV.sc,this.1],this.2⟩
 | .tup l,c,h=>by
   simp only[SV.kill,SV.mapM,SV.sc,aoS,J_]at h;obtain⟨v,q,hc⟩:=h;have:=Sh.mo v.sh c hc;exact⟨J_.2 ⟨v,q,this.1⟩,this.2⟩
 | .g j w' true v,c,h=>by
   have:=SV.Du (ts:=ts) v c (by simpa[SV.kill,SV.mapM,SV.sc]using h);simpa[SV.sc]using this
 | .g j w' false v,c,h=>by simp[SV.kill,SV.mapM,SV.sc]at h
theorem Env.Fk(E:Env)(ts:List Nat)(s:Nat):(E.kill ts).s.getD s .no=if ts.isEmpty then E.s.getD s .no else(E.s.getD s .no).kill ts:=by
 unfold Env.kill;split;rfl;exact getD_map (T:=SV.kill ts) rfl s
theorem Env.Du(E:Env)(ts:List Nat)(s:Nat):∀c∈((E.kill ts).s.getD s .no).sc,c∈(E.s.getD s .no).sc/\c∉ts:=by
 intro c hc;rw[Env.Fk]at hc;split at hc;rename_i b;have:ts=[]:=by simpa using b
 subst this;exact⟨hc,by simp⟩;exact SV.Du _ c hc
def Gh.aX(G:Gh)(ts:List Nat)(t:Nat)(v:Value):Gh:=
 ⟨λb=>if G.col b∈ts then t else G.col b,λu=>if u=t then v else G.hdr u,λu=>if u=t then false else G.bx u⟩
def CM{ts:List Nat}{t c:Nat}{hs:List Nat}(h:c∈hs):(if c∈ts then t else c)∈xH ts t hs:=by
 unfold xH;rw[alk,List.mem_map];exact⟨c,h,by simp⟩
def Xc{ts:List Nat}{t c:Nat}{hs:List Nat}(h:c∈xH ts t hs):c=t\/(c∈hs/\c∉ts):=by
 unfold xH at h;rw[alk,List.mem_map]at h;obtain⟨d,b,rfl⟩:=h;by_cases e:d∈ts;left;simp[e];right;simp[e,b]
def RP{ts:List Nat}{t:Nat}{hs:List Nat}(h:xH ts t hs=[]):hs=[]:=by
 cases hs with
 |nil=>rfl
 |cons c l=>
  have:=CM (ts:=ts) (t:=t) (List.mem_cons_self (a:=c) (l:=l));rw[h]at this;simp at this
theorem Sf{ts:List Nat}{t:Nat}{v:Value}(h3:4<=t)(J:∀c∈ts,4<=c/\Good U G c)(H:U t->v=G.hdr t/\G.bx t=false):
 BK w U G (λu=>U u\/u=t) (G.aX ts t v) (M.aX ts t) (!ts.contains ·) (λhs=>some (if meets hs ts then xH ts t hs else hs)):=by
 have d:∀c,Good U G c->Good (λu=>U u\/u=t) (G.aX ts t v) c:=by
  rintro c ⟨h1,h2,h4⟩;refine⟨h1,.inl h2,?_⟩;simp only[Gh.aX];split;rfl;exact h4
 have j:∀c hs,(∀c∈hs,Good U G c)->c∈xH ts t hs->Good (λu=>U u\/u=t) (G.aX ts t v) c:=by
  intro c hs q hc;rcases Xc hc with rfl|⟨hc,_⟩;exact⟨by omega,.inr rfl,by simp[Gh.aX]⟩;exact d c (q c hc)
 have n:∀b hs,G.col b∈hs->(G.aX ts t v).col b∈xH ts t hs:=λb hs h=>CM h
 have r:∀b hs,meets hs ts=false->G.col b∈hs->(G.aX ts t v).col b=G.col b:=λb hs F k=>by
  have:=BU F _ k;simp[Gh.aX,this]
 refine⟨λe l u m h q=> ?_,λm q c hc=> ?_,λhs hs' h q=> ?_,λu z=> ?_,λu z k=> ?_,λu z k=> ?_,λu z=> .inl z⟩;unfold M.aX;cases F:meets m.aJ ts with
 |false=>
  simp only[aot,if_false];refine cL.agree (w:=w) (G:=G) ⟨λ_ _=>rfl,λb k=>r b _ F k,λc hc=> ?_⟩ h;simp only[Gh.aX];split;rename_i e;subst e;exact(H (q _ hc).2.1).1;rfl
 |true=>
  simp only[if_true];cases m with
  |row u' hs nd=>
   simp only[M.yC];split;rename_i s;obtain⟨B,y,hc⟩:=h.rep (by simp);exact⟨⟨B,y,λb k=>n b _ (hc b k)⟩,λe=>absurd (RP e) (by simp)⟩;rename_i s;simp only[ajz,b_]at s;obtain⟨W,L,B,y,hc⟩:=h;refine⟨W,?_,B,y,λb N R=> ?_⟩;simp only[Gh.aX];split;rename_i e;subst e;rw[<-L];exact(H (q _ (by simp[M.aJ])).2.1).1;exact L;obtain⟨X,Y,k3,k4⟩:=hc b N R;exact⟨by simp only[Gh.aX,X];simp[s],Y,λx S=>n x _ (k3 x S),k4⟩
  |sha hs=>
   obtain⟨⟨B,y,hc⟩,hn⟩:=h;exact⟨⟨B,y,λb k=>n b _ (hc b k)⟩,λe=>hn (RP e)⟩
  |nst b E i o p fr=>
   obtain⟨B,y,hc⟩:=h.rep (by simp);exact⟨⟨B,y,λb k=>n b _ (hc b k)⟩,λe=>absurd (RP e) (by simp)⟩
  |dead=>exact h
 unfold M.aX at hc;split at hc;cases m with
 |row u' hs nd=>
  simp only[M.yC]at hc;split at hc;exact j c _ q hc;rename_i s;simp only[M.aJ,l_]at hc;rcases hc with rfl|hc;exact d c (q c (by simp[M.aJ]));exact j c hs (λc hc=>q c (by simp[M.aJ,hc])) hc
 |sha hs=>exact j c hs q hc
 |nst b E i o p fr=>exact j c [b] q hc
 |dead=>simp[M.yC,M.aJ]at hc
 exact d c (q c hc);simp only[aar]at h;subst h;split;exact⟨λc hc=>j c hs q hc,λb k=>n b hs k⟩;rename_i F;exact⟨λc hc=>d c (q c hc),λb k=>by rw[r b hs (by simpa using F) k];exact k⟩;simp only[Gh.aX];split;rename_i e;subst e;exact(H z).1;rfl
 have K:u≠t:=by
  rintro rfl;rw[(H z).2]at k;cases k
 refine⟨by simp[Gh.aX,K,k],λb I=> ?_⟩;have:u∉ts:=λh=>by rw[(J u h).2.2.2]at k;cases k
 simp[Gh.aX,I,this];simp only[Gh.aX];split;rfl;exact k
theorem Inv.aX(p:Inv w0 c0 U E a w G){ts:List Nat}{t:Nat}{v:Value}(I:4<=t)(y:∀c∈ts,4<=c/\Good U G c)(H:U t->v=G.hdr t/\G.bx t=false):
 Inv w0 c0 (λu=>U u\/u=t) (E.aX ts t) a w (G.aX ts t v):=by
 have z:∀b,0<(G.aX ts t v).col b->(U ((G.aX ts t v).col b)\/(G.aX ts t v).col b=t):=by
  intro b o;simp only[Gh.aX]at o|-;split;exact .inr rfl;rename_i h;rw[a_ h]at o;exact .inl (p.colU b o)
 have B:∀b,(0<(G.aX ts t v).col b->0<G.col b)/\(G.col b<4->(G.aX ts t v).col b=G.col b)/\((G.aX ts t v).col b<4->(G.aX ts t v).col b=G.col b):=by
  intro b;simp only[Gh.aX];by_cases h:G.col b∈ts;have:=(y _ h).1;simp only[h,if_true];omega;simp[h]
 unfold Env.aX;split;rename_i J;have:ts=[]:=by simpa using J
 subst this;have l:=p.map (f:=M.aX [] t) (Sf (w:=w) (v:=v) I y H) z B;refine {p.mono (U':=λu=>U u\/u=t) (λc h=> .inl h)with slots:=λs=> ?_,sc:=λs c hc=> ?_,bt:=λs c hc=> ?_,rt:=λs c hc=> ?_,colU:=z,fresh:=l.fresh,lt:=l.lt,frame:=l.frame,one:=l.one,two:=l.two,hk:=l.hk};refine cU.agree (w:=w) (G:=G) ⟨λ_ _=>rfl,λb o=>by simp[Gh.aX],λu q=> ?_⟩ (p.slots s)
 have K:U u:=by
  simp only[eH]at q;rcases q with(q|q)|q;exact(p.sc s u q).2.1;exact(p.bt s u q).2.1;exact(p.rt s u q).2.1
 simp only[Gh.aX];split;rename_i e;subst e;exact(H K).1;rfl;have:=p.sc s c hc;refine⟨this.1,.inl this.2.1,?_⟩;simp only[Gh.aX];split;rfl;exact this.2.2;have o:=p.bt s c hc;refine⟨o.1,.inl o.2.1,?_⟩;simp only[Gh.aX];split;rename_i e;subst e;have h:=(H o.2.1).2;rw[h]at o;cases o.2.2;exact o.2.2;have:=p.rt s c hc;refine⟨this.1,.inl this.2.1,?_⟩;simp only[Gh.aX];split;rfl;exact this.2.2;exact p.map (Sf I y H) z B
theorem Inv.change(l:Inv w0 c0 U E a w G){ts:List Nat}{U':Nat->Prop}{w':World}{G':Gh}
 (hs:∀s,∀c∈(E.s.getD s .no).hc,c∉ts)
 (z:∀b,0<G.col b->G.col b∉ts->w'.heap[b]?=w.heap[b]?/\G'.col b=G.col b)
 (o:∀t,U t->G'.hdr t=G.hdr t/\G'.bx t=G.bx t) (y:∀c,U c->U' c)
 (B:∀b,0<G'.col b->U' (G'.col b)) (lt:∀b,0<G'.col b->b<w'.heap.size)
 (fresh:∀b,4<=G'.col b->∃c el,w'.heap[b]?=some (.cells c el (0,0)))
 (frame:∀b,b<w0.heap.size->c0.col b<4->G'.col b=c0.col b/\w'.heap[b]?=w0.heap[b]?)
 (one:∀b,G'.col b=1\/G'.col b=3->G.col b=G'.col b) (size:w.heap.size<=w'.heap.size)
 (J:w'.os=w.os) (tape:w'.tape=w.tape) (output:w'.output=w.output):Inv w0 c0 U' E a w' G':=by
 have I:∀s u,u∈(E.s.getD s .no).sc++(E.s.getD s .no).bt++(E.s.getD s .no).rt->U u:=by
  intro s u q;simp only[eH]at q;rcases q with(q|q)|q;exact(l.sc s u q).2.1;exact(l.bt s u q).2.1;exact(l.rt s u q).2.1
 refine⟨l.len,λs=> ?_,λs c hc=> ?_,λs c hc=> ?_,λs c hc=> ?_,l.uni,B,lt,fresh,frame,λb p=>by have h:=l.one b (by rw[one b p];exact p);rw[one b p]at h;exact h,Nat.le_trans l.size size,J.trans l.os,tape.trans l.tape,output.trans l.output,l.defers,⟨⟨y _ l.two.1.1,by rw[(o 2 l.two.1.1).2];exact l.two.1.2⟩,y _ l.two.2.1,by rw[(o 3 l.two.2.1).2];exact l.two.2.2⟩,λH t v e=>⟨y _ (l.hk H t v e).1,(o t (l.hk H t v e).1).1.trans (l.hk H t v e).2⟩⟩;refine cU.agree (w:=w) (G:=G) ⟨λb p=> ?_,λb p=> ?_,λu q=>(o u (I s u q)).1⟩ (l.slots s);have:0<G.col b:=by rcases SV.IB _ _ p with p|p;exact(l.sc s _ p).1;exact(l.bt s _ p).1
 exact(z b this (hs s _ p)).1;have:0<G.col b:=by rcases SV.IB _ _ p with p|p;exact(l.sc s _ p).1;exact(l.bt s _ p).1
 exact(z b this (hs s _ p)).2;have:=l.sc s c hc;exact⟨this.1,y _ this.2.1,by rw[(o c this.2.1).2];exact this.2.2⟩;have:=l.bt s c hc;exact⟨this.1,y _ this.2.1,by rw[(o c this.2.1).2];exact this.2.2⟩;have:=l.rt s c hc;exact⟨this.1,y _ this.2.1,by rw[(o c this.2.1).2];exact this.2.2⟩
end
section
variable{P:Program}{C:Cx}{w0:World}{c0:C0}{U:Nat->Prop}{E:Env}{a:Act}{w:World}{G:Gh}{ops:List Oper}{g:Option (Nat×Bool)}
def SF(w:World)(v:Value)(n sz:Nat)(cs:List Value):Prop:=
 cs.length=n*sz/\∃(b:Option Addr) (cap:Nat),v= .slice b n cap/\n<=cap/\(b=none->n=0/\cap=0)/\∀a,b=some a->∀(j:Nat) (u:Value),cs[j]?=some u->w.cell? (a.add j)=some u
theorem eX.cells{e:Ty}{l:List e.den}{v:Value}{B:List Nat}(h:eX w e.sz (aW w e) l v B):
 ∃cs,SF w v l.length e.sz cs/\aZ (aW w e) l cs (B.drop 1)/\
  (∀p n cap,v= .slice (some p) n cap->0<cap->∃b off,p=⟨b,off,none⟩/\B=b::B.drop 1/\n=l.length/\∃c el q,w.heap[b]?=some (.cells c el q)/\off+cap*e.sz<=c.size/\cs=(c.toList.drop off).take (l.length*e.sz)):=by
 rcases h with⟨⟨L,rfl⟩,rfl,rfl⟩|⟨b,off,cap,c,el,q,Bs,H,o,I,z,rfl,J⟩;exact⟨[],⟨by simp,L,0,rfl,I' _,λ_=>⟨rfl,rfl⟩,λa _ j u y=>by simp at y⟩,⟨rfl,rfl⟩,λp n cap h hc=>by cases h;omega⟩;refine⟨_,⟨aZ.len (sz:=e.sz) (λx c B h=>aW.len h) J,some ⟨b,off,none⟩,cap,H,o,by simp,λa K j u y=> ?_⟩,J,λp n' cap' h _=> ?_⟩;cases K;rw[Addr.add_lit,qK I];exact TB y;rw[H]at h;cases h;exact⟨b,off,rfl,rfl,rfl,c,el,q,I,z,rfl⟩
theorem aZ.ab3{e:Ty}{l:List e.den}{cs:List Value}{B:List Nat}(h:aZ (aW w e) l cs B):∀v∈cs,v.oneCell'=true:=by
 induction l generalizing cs B with
 |nil=>rw[h.1];simp
 |cons x l p=>
  obtain⟨c1,c2,B1,B2,rfl,rfl,c,o⟩:=h;intro v b;rcases eH.1 b with b|b;exact aW.one c v b;exact p o v b
def aaW{t ty:TypeId}{el:TypeId}{e:Ty}(K:P.underlying t=some (.slice el))(hT:jk P el e){y vy:Value}{n m:Nat}{xs ys:List Value}
 (hx:SF w y n e.sz xs) (hy:SF w vy m e.sz ys) (h1:∀u∈ys,u.oneCell'=true) (hb:n+m<4294967296)
 (b0:∀I k cap,y= .slice (some I) k cap->0<cap->∃b off,I=⟨b,off,none⟩/\∃c J,w.heap[b]?=some (.cells c J (0,0))/\off+cap*e.sz<=c.size):
 (m=0/\(Builtin.append_ #[t,t] ty #[y,vy]).run P w= .ok y w)\/
 (∃b off cap,y= .slice (some ⟨b,off,none⟩) n cap/\n+m<=cap/\0<cap/\(Builtin.append_ #[t,t] ty #[y,vy]).run P w= .ok (.slice (some ⟨b,off,none⟩) (n+m) cap) (w.setCells b (off+n*e.sz) ys))\/
 (∃cap rest,n+m<=cap/\cap*e.sz<=(xs++ys++rest).length/\
  (Builtin.append_ #[t,t] ty #[y,vy]).run P w= .ok (.slice (some ⟨w.heap.size,0,none⟩) (n+m) cap) (w.drew.alloc (.cells (xs++ys++rest).toArray el))):=by
 obtain⟨inf,d,S,l,hz,W,_⟩:=hT;have L:(eF e e.zero).cells.size=e.sz:=rW e.kA (zX e);obtain⟨z,X,h,rfl,Y,h0,s⟩:=hx;obtain⟨p,B,i,rfl,hcy,k0,v⟩:=hy;rcases Nat.eq_zero_or_pos m with rfl|hm;left;refine⟨rfl,?_⟩
 have hf:(Builtin.firstCells inf.size 0 (.slice B 0 i)).run P w= .ok #[] w:=by
  cases B with
  |none=>exact run_firstCells_none ..
  |some I=>exact run_firstCells_some (P:=P) w inf.size 0 I 0 i [] (by simp) (by simp)
 cases X with
 |none=>simp[Builtin.append_,run_underlying K,Go.sizeOf,typeInfo,S,Builtin.lenOf,hf,Y]
 |some I=>simp[Builtin.append_,run_underlying K,Go.sizeOf,typeInfo,S,Builtin.lenOf,hf,Y,storeCells]
 right;cases B with
 |none=>have:=(k0 rfl).1;omega
 |some x=>
  have o:=v x rfl;cases X with
  |none=>
   obtain⟨rfl,rfl⟩:=h0 rfl;right
   have H:=run_append_nil (P:=P) w t ty el inf _ K S hz x m i ys (by rw[l];exact p) o hm (by omega) (by
    have:m*inf.bytes<=4294967296*32768:=Nat.mul_le_mul (by omega) W;omega)
   have N:=grownCap_ge w m 0 el;have e0:xs=[]:=by simpa using z
   subst e0;refine⟨grownCap w m 0 el,(Builtin.zeroCells (eF e e.zero).cells (grownCap w m 0 el-m)).toList,by omega,?_,?_⟩;simp only[akO,ajb,alc,size_zeroCells,L,p,<-j_];exact K_ _ (by omega);rw[H];simp only[aoL,akO];congr 3;apply A';simp
  |some F=>
   have R:=s F rfl;rcases aon h (n+m)with hg|hg;right
   have H:=run_append_grow (P:=P) w t ty el inf _ K S hz F n h xs (by rw[l];exact z) R
    x m i ys (by rw[l];exact p) o hg (by omega) (growslice_fits hg (by
    have:(n+m)*inf.bytes<=4294967296*32768:=Nat.mul_le_mul (by omega) W;omega))
   have N:=grownCap_ge w (n+m) h el;refine⟨grownCap w (n+m) h el,(Builtin.zeroCells (eF e e.zero).cells (grownCap w (n+m) h el-(n+m))).toList,N,?_,?_⟩;simp only[ajb,alc,size_zeroCells,L,z,p,<-j_];exact K_ _ (by omega);rw[H];congr 3;apply A';simp;left;obtain⟨b,off,rfl,c,J,q,hsize⟩:=b0 F n h rfl (by omega)
   have r:∀j,j<ys.length->off+n*e.sz+j<c.size:=by
    intro j hj;have:(n+m)*e.sz<=h*e.sz:=K_ _ hg;rw[j_]at this;omega
   have H:=run_append_room_cells (P:=P) w t ty el inf K S b off n h x m i ys (by rw[l];exact p) o h1 hg
    (λj hj=>by rw[qK q,l];simp[r j hj]) (λj hj=>yA q _)
   rw[l]at H;exact⟨b,off,h,rfl,hg,by omega,H⟩
theorem aW.flat:∀ {τ:Ty} {x:τ.den} {cs:List Value} {B:List Nat},τ.flat=true->aW w τ x cs B->B=[]
 | .int _,_,_,_,_,h| .bool,_,_,_,_,h| .str,_,_,_,_,h=>h.2
 | .sl _,_,_,_,h,_=>by simp[Ty.flat]at h
 | .pair a b,p,cs,B,hf,h=>by
   obtain⟨c1,c2,B1,B2,rfl,rfl,c,e⟩:=h;simp only[Ty.flat,K']at hf;rw[aW.flat hf.1 c,aW.flat hf.2 e];rfl
theorem aZ.flat{e:Ty}(b:e.flat=true):∀ {l:List e.den} {cs:List Value} {B:List Nat},aZ (aW w e) l cs B->B=[]
 | [],_,_,h=>h.2
 |x::l,cs,B,h=>by
  obtain⟨c1,c2,B1,B2,rfl,rfl,c,o⟩:=h;rw[aW.flat b c,aZ.flat b o];rfl
theorem cL.alV{e:Ty}{l:List e.den}{v:Value}{m:M}(h:cL w G e l v m)(H:m≠ .dead):
 ∃B,eX w e.sz (aW w e) l v B/\(∀b∈B,G.col b∈m.aJ)/\∀b∈B.drop 1,G.col b∈vc m:=by
 cases m with
 |row t J nd=>
  obtain⟨_,_,B,q,hc⟩:=h;cases B with
  |nil=>exact⟨[],q,by simp,by simp⟩
  |cons x z=>
   obtain⟨I,_,y,_⟩:=hc x z rfl;refine⟨x::z,q,λb c=> ?_,λb c=>y b (by simpa using c)⟩;rcases l_.1 c with rfl|c;simp[M.aJ,I];simp[M.aJ,y b c]
 |sha J=>obtain⟨⟨B,q,hc⟩,_⟩:=h;exact⟨B,q,hc,λb c=>hc b (Z' c)⟩
 |nst b E i o p fr=>obtain⟨⟨B,q,hc⟩,_⟩:=h;exact⟨B,q,λx u=>by simp[M.aJ,hc x u],λx u=>by simp[vc,hc x (Z' u)]⟩
 |dead=>exact absurd rfl H
def ac7{m:M}:∀c∈vc m,c∈m.aJ:=by
 cases m<;>simp_all[vc,M.aJ]
structure anM(G:Gh)(kl gv:List Nat)(tk:Nat)(mm:M)(Bx By:List Nat):Prop where
 hs:∃hs nd,mm= .row tk hs nd/\(∀b∈Bx.drop 1++By.drop 1,(if G.col b∈gv then tk else G.col b)∈hs)/\(nd=true->(Bx.drop 1++By.drop 1).Nodup)
 head:∀b Bs,Bx=b::Bs->G.col b∈kl/\G.col b∈gv/\b∉Bx.drop 1++By.drop 1
theorem aio{e:Ty}{l l2:List e.den}{vx vy:Value}{m m' mm:M}{tk:Nat}{kl gv:List Nat}(j:cL w G e l vx m)(hy:cL w G e l2 vy m')(s0:m'≠ .dead)
 (W:∀c∈m.aJ,Good U G c) (R:∀c∈m'.aJ,Good U G c) (h:af1 tk e.flat m m'=some (kl,gv,mm)):
 (∀c∈kl,4<=c/\Good U G c)/\(∀c∈gv,4<=c/\Good U G c)/\(∀c∈mm.aJ,Good U G c\/c=tk)/\
  ∃H By,eX w e.sz (aW w e) l vx H/\eX w e.sz (aW w e) l2 vy By/\anM G kl gv tk mm H By:=by
 obtain⟨By,L,p1,k0⟩:=hy.alV s0
 have J:∀ {l:List e.den} {v:Value} {B:List Nat},e.flat=true->eX w e.sz (aW w e) l v B->B.drop 1=[]:=by
  intro l v B hf h;obtain⟨cs,_,h2,_⟩:=h.cells;exact aZ.flat hf h2
 unfold af1 at h;split at h;rename_i t hs nd;obtain⟨s,r1,H,k,q⟩:=j;have K:=W t (by simp[M.aJ]);split at h;rename_i hf;cases h;have e1:=J hf k;have e2:=J hf L;refine⟨by simp[s,K],by simp[s,K],by simp[M.aJ],H,By,k,L,⟨⟨[],true,rfl,by simp[e1,e2],by simp[e1,e2]⟩,λb n r=> ?_⟩⟩;have:=(q b n r).1;exact⟨by simp[this],by simp[this],by simp[e1,e2]⟩;split at h;rename_i I;cases m' with
 |row u N G0=>
  simp only[M.same,b_]at I;subst I;cases h;have L0:=r1;obtain⟨_,u1,x0,o0,p0⟩:=hy;have R0:vx=vy:=L0.symm.trans u1;subst R0;refine⟨by simp[s,K],by simp[s,K],λc hc=> ?_,H,x0,k,o0,⟨⟨_,false,rfl,λx j=> ?_,by simp⟩,λx n j=> ?_⟩⟩;simp only[M.aJ,l_]at hc;rcases hc with rfl|hc;exact .inr rfl;rcases Xc hc with rfl|⟨hc,_⟩;exact .inr rfl;left;rcases eH.1 hc with hc|hc;exact W c (by simp[M.aJ,hc]);exact R c (by simp only[vc]at hc;simp[M.aJ,hc]);refine CM (ts:=[u]) ?_;rcases eH.1 j with j|j;cases H with
  |nil=>simp at j
  |cons y n=>exact Z_ _ ((q y n rfl).2.2.1 x (by simpa using j))
  cases x0 with
  |nil=>simp at j
  |cons y n=>exact ahC _ ((p0 y n rfl).2.2.1 x (by simpa using j))
  obtain⟨X,k2,k3,k4⟩:=q x n j;refine⟨by simp[X],by simp[X],λd=> ?_⟩;rcases eH.1 d with d|d;rw[j]at d;exact k2 (by simpa using d);cases x0 with
  |nil=>simp at d
  |cons y x1=>
   have a1:y=x:=by
    subst j;rcases k with⟨_,_,e0⟩|⟨b1,o1,c1,_,_,_,_,e1,_,_,_,e2,_⟩;cases e0;rcases o0 with⟨_,_,e0⟩|⟨b2,o2,c2,_,_,_,_,e3,_,_,_,e4,_⟩;cases e0;rw[e1]at e3;simp only[Value.slice.injEq,aar,Addr.mk.injEq]at e3;cases e2;cases e4;exact e3.1.1.symm
   subst a1;exact(p0 y x1 rfl).2.1 (by simpa using d)
 |_=>simp[M.same]at I
 split at h;cases h;rename_i hnf r0;simp only[ajz,b_]at r0
 have j1:∀b n,H=b::n->b∉By:=by
  intro b n r d;have h1:=p1 b d;rw[(q b n r).1]at h1;exact r0 h1
 split at h;rename_i a b ha r;split at h;rename_i h0;cases h;obtain⟨w1,h3,Y⟩:=M.nN ha
 have l1:∀c∈b,c∉a:=by
  simp only[alh,alf,ajz,d_]at h0;exact h0
 obtain⟨b0,S,E0,F⟩:=hy.own r
 have u0:∀c∈b,4<=c:=by
  intro c hc;cases m' with
  |row t' N G0=>
   obtain⟨_,g3,gm⟩:=M.nN r;rcases(gm c).1 hc with rfl|hc;exact hy.1;exact g3 c hc
  |sha N=>cases N with
   |nil=>simp only[M.own,aar]at r;subst r;simp at hc
   |cons=>simp[M.own]at r
  |nst b E i o p fr=>simp[M.own]at r
  |dead=>exact absurd rfl s0
 have n1:∀c∈a,4<=c:=λc hc=>by rcases(Y c).1 hc with rfl|hc;exact s;exact h3 c hc
 refine⟨by simp[s,K],λc hc=> ?_,by simp[M.aJ],H,b0,k,S,⟨⟨[tk],true,rfl,λx j=> ?_,λ_=> ?_⟩,λx n j=> ?_⟩⟩;rcases eH.1 hc with hc|hc;exact⟨n1 c hc,W c (M.k9 ha c hc)⟩;exact⟨u0 c hc,R c (M.k9 r c hc)⟩
 have:G.col x∈a++b:=by
  rcases eH.1 j with j|j;cases H with
  |nil=>simp at j
  |cons y n=>
   refine Z_ _ ((Y _).2 (.inr ?_));exact(q y n rfl).2.2.1 x (by simpa using j)
  exact ahC _ (F x (Z' j))
 simp only[an this];simp;refine aog.2 ⟨?_,E0.sublist (aoQ ..),?_⟩;cases H with
 |nil=>simp
 |cons y n=>exact(q y n rfl).2.2.2 w1
 intro x j y hy e;subst e;refine l1 _ (F x (Z' hy)) ?_;cases H with
 |nil=>simp at j
 |cons z n=>exact(Y _).2 (.inr ((q z n rfl).2.2.1 x (by simpa using j)))
 obtain⟨X,k2,k3,k4⟩:=q x n j;refine⟨by simp[X],?_,?_⟩;rw[X];exact Z_ _ ((Y t).2 (.inl rfl));intro d;rcases eH.1 d with d|d;rw[j]at d;exact k2 (by simpa using d);have h1:=M.k9 r _ (F x (Z' d));rw[X]at h1;exact r0 h1;cases h;cases h;refine⟨by simp[s,K],by simp[s,K],λc hc=> ?_,H,By,k,L,⟨⟨_,false,rfl,λx j=> ?_,by simp⟩,λx n j=> ?_⟩⟩;simp only[M.aJ,l_]at hc;rcases hc with rfl|hc;exact .inr rfl;rcases Xc hc with rfl|⟨hc,_⟩;exact .inr rfl;left;rcases eH.1 hc with hc|hc;exact W c (by simp[M.aJ,hc]);refine R c ?_;cases m'<;>simp_all[vc,M.aJ];refine CM (ts:=[t]) ?_;rcases eH.1 j with j|j;cases H with
 |nil=>simp at j
 |cons y n=>exact Z_ _ ((q y n rfl).2.2.1 x (by simpa using j))
 refine ahC _ ?_;exact k0 x j;obtain⟨X,k2,k3,k4⟩:=q x n j;refine⟨by simp[X],by simp[X],λd=> ?_⟩;rcases eH.1 d with d|d;rw[j]at d;exact k2 (by simpa using d);exact j1 x n j (Z' d)
 have k:∃H,eX w e.sz (aW w e) l vx H/\H=[]:=by
  obtain⟨⟨B,hB,hc⟩,_⟩:=j;refine⟨B,hB,?_⟩;cases B with
  |nil=>rfl
  |cons x l=>exact absurd (hc x (by simp)) (by simp)
 obtain⟨_,k,rfl⟩:=k;split at h;rename_i hf;cases h;have e2:=J hf L;exact⟨by simp,by simp,by simp[M.aJ],[],By,k,L,⟨⟨[],true,rfl,by simp[e2],by simp[e2]⟩,by simp⟩⟩;split at h;rename_i b r;cases h;obtain⟨b0,S,E0,F⟩:=hy.own r
 have u0:∀c∈gv,4<=c:=by
  intro c hc;cases m' with
  |row t' N G0=>
   obtain⟨_,g3,gm⟩:=M.nN r;rcases(gm c).1 hc with rfl|hc;exact hy.1;exact g3 c hc
  |sha N=>cases N with
   |nil=>simp only[M.own,aar]at r;subst r;simp at hc
   |cons=>simp[M.own]at r
  |nst b E i o p fr=>simp[M.own]at r
  |dead=>exact absurd rfl s0
 refine⟨by simp,λc hc=>⟨u0 c hc,R c (M.k9 r c hc)⟩,by simp[M.aJ],[],b0,k,S,⟨⟨[tk],true,rfl,λx j=> ?_,λ_=> ?_⟩,by simp⟩⟩;have:=F x (Z' (i:=1) (by simpa only[List.drop_nil,akO]using j));simp[this];simpa only[List.drop_nil,akO]using E0.sublist (aoQ 1 b0);cases h;refine⟨by simp,by simp,λc hc=> ?_,[],By,k,L,⟨⟨_,false,rfl,λx j=> ?_,by simp⟩,by simp⟩⟩;simp only[M.aJ,l_]at hc;rcases hc with rfl|hc;exact .inr rfl;exact .inl (R c (ac7 c hc));simpa using k0 x (by simpa using j);cases h
theorem eX.bounds{e:Ty}{l:List e.den}{v:Value}{B:List Nat}(h:eX w e.sz (aW w e) l v B):∀b∈B,b<w.heap.size:=
 aW.bounds (τ:= .sl e) ⟨v,rfl,h⟩
theorem aZ.world{e:Ty}{w':World}{l:List e.den}{cs:List Value}{B:List Nat}(p:∀b∈B,w'.heap[b]?=w.heap[b]?)(h:aZ (aW w e) l cs B):aZ (aW w' e) l cs B:=
 aZ.mono (λb=>w'.heap[b]?=w.heap[b]?) (λ_ _ _ c o=>aW.mono c o) p h
def aas(i:Inv w0 c0 U E a w G){d:List Nat}(e:∀c∈d,4<=c/\Good U G c):∀s,∀c∈((E.kill d).s.getD s .no).hc,c∉d:=by
 intro s c hc b;rcases SV.IB _ _ hc with hc|hc;exact(Env.Du E d s c hc).2 b;have h:=(i.kill d).bt s c hc;rw[(e c b).2.2.2]at h;exact absurd h.2.2 (by simp)
theorem akm(hC:CxTy P C)(Y:Inv w0 c0 U E a w G)(hR:RI ops E a.tmps)(hg:Gd ops a.tmps g){tk:Nat}(h3:4<=tk)(hU:¬U tk){o:Oper}{c:Call}
 {cd:Bool} {kl gv:List Nat} {t:Nat} {v:SV} (ho:o.op= .call c) (hb:c.callee= .builtin .append) (h:bK C ops E.rd tk g o=some (.app cd kl gv t v)) (n1:cd=true):
 t=tk/\Yields w0 c0 (λu=>U u\/u=tk) ((E.kill kl).aX gv t) a ((execOp a.eval o).run P w) v:=by
 simp only[bK,ho,hb]at h;unfold qL at h;split at h;contradiction;contradiction;contradiction;rename_i x y t1 u1 _ ha C1;have p0:c.args= #[x,y]:=A' (by simpa using ha);have o1:c.argTypes= #[t1,u1]:=A' (by simpa using C1);split at h;rename_i ti e l m e' l' m' D1 hx hy;split at h;rename_i I k0;have L:=fG k0;simp only[TV.mk.injEq]at L;obtain⟨he,hl,_⟩:=L;cases he;cases hl;split at h;rename_i o0 l1 mm hm;split at h;rename_i J;simp only[K',b_]at J;obtain⟨hτ,rfl⟩:=J;simp only[aar,Ef.app.injEq]at h;obtain⟨w1,rfl,rfl,rfl,rfl⟩:=h;refine⟨rfl,?_⟩;rw[<-w1]at n1;have hlen:l.length+I.length<4294967296:=e_ n1;have hT:=(hC.tt _ ti D1).2;rw[hτ]at hT;obtain⟨hu,J1⟩:=hT;obtain⟨mx,L1,T1,hdx,W1⟩:=ll Y hR hg hx;cases L1;obtain⟨my,X1,b2,c2,e2⟩:=ll Y hR hg hy;cases X1;obtain⟨x0,E0,h2,Bx,By,G0,x1,⟨⟨hs,nd,rfl,L0,R0⟩,B⟩⟩:=aio T1 b2 c2 W1 e2 hm
 have N:∀ {v':Value} {w':World},((Builtin.append_ #[u1,u1] o.type #[a.eval x,a.eval y]).run P w= .ok v' w')->(execOp a.eval o).run P w= .ok (.value v') w':=by
  intro v' w' hr;simp only[execOp,ho];simp[resolve,hb,invoke,builtin,p0,o1,hr]
 obtain⟨xs,a1,y1,z1⟩:=G0.cells;obtain⟨W,c1,j1,_⟩:=x1.cells
 have r:∀(G1:Gh) (mv:Value),(∀c,U c->G.bx c=false->G1.bx c=false)->∀c∈(M.row tk hs nd).aJ,Good (λu=>U u\/u=tk) (G1.aX l1 tk mv) c:=by
  intro G1 mv h1 c hc;rcases h2 c hc with⟨k1,k2,H⟩|rfl;refine⟨k1,.inl k2,?_⟩;simp only[Gh.aX];split;rfl;exact h1 c k2 H;exact⟨by omega,.inr rfl,by simp[Gh.aX]⟩
 have R:=Y.kill o0
 have p1:∀ad k cap,a.eval x= .slice (some ad) k cap->0<cap->∃b off,ad=⟨b,off,none⟩/\∃c K,w.heap[b]?=some (.cells c K (0,0))/\off+cap*e.sz<=c.size:=by
  intro ad k cap hv X;obtain⟨b,off,S,hB,_,c,K,fz,hh,e0,_⟩:=z1 ad k cap hv X;obtain⟨k1,k2,_⟩:=B b _ hB;obtain⟨c',j2,hf⟩:=Y.fresh b (x0 _ k1).1;rw[hf]at hh;cases hh;exact⟨b,off,S,_,_,hf,e0⟩
 have j:∀z∈Bx.drop 1,z<w.heap.size:=λz i=>G0.bounds z (Z' i);have n:∀z∈By.drop 1,z<w.heap.size:=λz i=>x1.bounds z (Z' i);rcases aaW (ty:=o.type) hu J1 a1 c1 (aZ.ab3 j1) hlen p1 with⟨n2,hr⟩|⟨b,off,cap,hv,F,X,hr⟩|⟨cap,rest,F,e0,hr⟩
 have k0:I=[]:=List.length_eq_zero_iff.1 n2;subst k0;refine⟨_,_,_,N hr,R.aX (v:=a.eval x) h3 E0 (λh=>absurd h hU),⟨[a.eval x],rfl,_,rfl,h3,by simp[Gh.aX],Bx,?_,?_⟩,bM.d (r G _ (λ_ _ h=>h)),by rintro _ _ ⟨⟩⟩;simpa using G0;intro b Bs hB;obtain⟨k1,k2,H⟩:=B b Bs hB;subst hB;simp only[List.drop_succ_cons,aoG,eH,not_or]at H;refine⟨by simp[Gh.aX,k2],H.1,λz i=> ?_,λhn=> ?_⟩;exact L0 z (Z_ _ (by simpa using i));have:=(aog.1 (R0 hn)).1;simpa using this
 obtain⟨b0,off0,S,c,K,hh,e0⟩:=p1 _ _ cap hv X;cases S;obtain⟨b1,off1,S,hB,_,c',j2,fz,A1,_,B1⟩:=z1 _ _ cap hv X;cases S;rw[hh]at A1;cases A1;obtain⟨k1,k2,H⟩:=B b _ hB;simp only[eH,not_or]at H;have r0:=c1.1;have s0:=a1.1;have hmul:(l.length+I.length)*e.sz<=cap*e.sz:=K_ _ F;rw[j_]at hmul;have h0:=iN b (el:=K) W (off+l.length*e.sz) w c hh (by omega)
 have u0:Inv w0 c0 U (E.kill o0) a (w.setCells b (off+l.length*e.sz) W) G:=by
  refine R.change (ts:=o0) (aas Y x0) (λz _ i=>⟨cr b _ _ w z (λe=>i (e▸k1)),rfl⟩) (λ_ _=>⟨rfl,rfl⟩) (λ_ h=>h) Y.colU
   (λz i=>by rw[fH];exact Y.lt z i) (λz i=> ?_) (λz i hc=> ?_) (λ_ _=>rfl) (by rw[fH];exact I' _)
   (cP b _ _ w).1 (cP b _ _ w).2.1 (cP b _ _ w).2.2
  by_cases e1:z=b;subst e1;exact⟨_,_,h0⟩;rw[cr b _ _ w z e1];exact Y.fresh z i;have hf:=Y.frame z i hc;refine⟨hf.1,?_⟩;rw[cr b _ _ w z (λe=> ?_)];exact hf.2;subst e;have:=(x0 _ k1).1;omega
 refine⟨_,_,_,N hr,u0.aX (v:= .slice (some ⟨b,off,none⟩) (l.length+I.length) cap) h3 E0 (λh=>absurd h hU),⟨[_],rfl,_,rfl,h3,by simp[Gh.aX],b::(Bx.drop 1++By.drop 1),?_,?_⟩,bM.d (r G _ (λ_ _ h=>h)),by rintro _ _ ⟨⟩⟩;refine .inr ⟨b,off,cap,_,K,(0,0),Bx.drop 1++By.drop 1,by simp,by simpa using F,h0,?_,rfl,?_⟩;simp;omega
 have p:((c.toList.take (off+l.length*e.sz)++W++c.toList.drop (off+l.length*e.sz+W.length)).drop off).take ((l++I).length*e.sz)=xs++W:=by
  have htl:(c.toList.take (off+l.length*e.sz)).length=off+l.length*e.sz:=by simp;omega
  rw[aof,ale (by omega),alb,B1];rw[show off+l.length*e.sz-off=l.length*e.sz by omega];rw[<-aof]
  have s:(aoN (l.length*e.sz) (List.drop off c.toList)++W).length=(l++I).length*e.sz:=by
   rw[ajb,r0,<-B1,s0,ajb,j_]
  rw[<-s,aoV]
 rw[p];refine aZ.append (aZ.world (λz i=>cr b _ _ w z (λe=> ?_)) y1) (aZ.world (λz i=>cr b _ _ w z (λe=> ?_)) j1);subst e;exact H.1 i;subst e;exact H.2 i;rintro b' Bs ⟨⟩;refine⟨by simp[Gh.aX,k2],λq=>(eH.1 q).elim H.1 H.2,λz i=>L0 z i,λhn=>R0 hn⟩
 have E1:=(R.drawn (w.drawn+1)).alloc h3 hU (xs++W++rest).toArray ti.el (.slice (some ⟨w.heap.size,0,none⟩) (l.length+I.length) cap) false;have u0:=E1.aX (ts:=l1) (t:=tk) (v:= .slice (some ⟨w.heap.size,0,none⟩) (l.length+I.length) cap) h3 (λc hc=> ?_) (λ_=>⟨by simp[Gh.add],by simp[Gh.add]⟩)
 have r1:∀z,z<w.heap.size->(G.add w.heap.size tk (.slice (some ⟨w.heap.size,0,none⟩) (l.length+I.length) cap) false).col z=G.col z:=λz i=>by
  simp[Gh.add,aoz i]
 refine⟨_,_,_,N hr,u0.mono (λc hc=>by rcases hc with hc|hc;exact hc;exact .inr hc),⟨[_],rfl,_,rfl,h3,by simp[Gh.aX],w.heap.size::(Bx.drop 1++By.drop 1),?_,?_⟩,
  bM.d (r _ _ (λc hc h=>by
   have:c≠tk:=λe=>hU (e▸hc);simp[Gh.add,this,h])),by rintro _ _ ⟨⟩⟩
 refine .inr ⟨w.heap.size,0,cap,_,ti.el,(0,0),Bx.drop 1++By.drop 1,by simp,by simpa using F,heap_alloc_new _ _,by simpa using e0,rfl,?_⟩;have s0:=a1.1;have r0:=c1.1
 have p:(((xs++W++rest).toArray.toList.drop 0).take ((l++I).length*e.sz))=xs++W:=by
  have s:(xs++W).length=(l++I).length*e.sz:=by rw[ajb,r0,s0,ajb,j_]
  simp only[aoG];rw[<-s,aoV]
 rw[p];exact aZ.append (aZ.world (w:=w) (λz i=>heap_alloc_old w.drew _ z (j z i)) y1) (aZ.world (w:=w) (λz i=>heap_alloc_old w.drew _ z (n z i)) j1);rintro b' Bs ⟨⟩;refine⟨?_,?_,λz i=> ?_,λhn=>R0 hn⟩;simp[Gh.aX,Gh.add];intro q;rcases eH.1 q with q|q;exact Nat.lt_irrefl _ (j _ q);exact Nat.lt_irrefl _ (n _ q)
 have F1:z<w.heap.size:=by
  rcases eH.1 i with i|i;exact j _ i;exact n _ i
 have:=L0 z i;simp only[Gh.aX];have hd:(World.heap {w with drawn:=w.drawn+1}).size=w.heap.size:=rfl;rw[hd,r1 z F1];exact this;obtain⟨k1,k2,H,k5⟩:=E0 c hc;have:c≠tk:=λe=>hU (e▸H);exact⟨k1,k2,.inl H,by simp[Gh.add,this,k5]⟩;cases h;cases h;cases h;cases h;cases h
theorem Inv.af7(h:Inv w0 c0 U E a w G)(d:Nat){sv:SV}(hs:cU w G sv (a.tmps.getD d undef))(B:bM U G sv)
 (l:∀t u,sv= .box t u->∀s o,s≠d->E.s.getD s .no≠ .box t o):Inv w0 c0 U {E with s:=E.s.set d sv} a w G:=by
 have b:∀s,({E with s:=E.s.set d sv}:Env).s.getD s .no=if s=d/\d<E.s.length then sv else E.s.getD s .no:=λs=>fA E.s d s sv
 refine {h with len:=by simpa using h.len,slots:=λs=> ?_,sc:=λs c hc=> ?_,bt:=λs c hc=> ?_,rt:=λs c hc=> ?_,uni:=λs v t u o p q=> ?_};rw[b];split;rename_i e;rw[e.1];exact hs;exact h.slots s;rw[b]at hc;split at hc;exact B.1 c hc;exact h.sc s c hc;rw[b]at hc;split at hc;exact B.2.1 c hc;exact h.bt s c hc;rw[b]at hc;split at hc;exact B.2.2 c hc;exact h.rt s c hc;rw[b]at p q;split at p<;>split at q;omega;rename_i y z;by_cases e:v=d;exact absurd ⟨e,y.2⟩ z;exact absurd q (l t u p v o e);rename_i y z;by_cases e:s=d;exact absurd ⟨e,z.2⟩ y;exact absurd p (l t o q s u e);exact h.uni s v t u o p q
theorem Inv.drop(h:Inv w0 c0 U E a w G)(d:Nat):Inv w0 c0 U {E with s:=E.s.set d .no} a w G:=
 h.af7 d (sv:= .no) trivial (by simp[bM,SV.sc,SV.bt,SV.rt]) (by rintro _ _ ⟨⟩)
def xf{t:TypeId}{τ:Ty}(h:jk P t τ){x:Value}{b o:Nat}{c:Array Value}{el:TypeId}{cs:List Value}
 (d:w.heap[b]?=some (.cells c el (0,0))) (hs:o+τ.sz<=c.size) (e:cs.length=τ.sz) (i:∀v∈cs,v.oneCell'=true) (j:x= .pointer (some ⟨b,o,none⟩)):
 (Instr.storeAt t x (eF τ cs)).run P w= .ok () (w.setCells b o cs):=by
 subst j;simp only[Instr.storeAt,Instr.sureAddr];simpa using We h d hs e i
def aje(hC:CxTy P C)(n:Inv w0 c0 U E a w G)(hR:RI ops E a.tmps)(hg:Gd ops a.tmps g){tk:Nat}{o:Oper}{t:TypeId}{x y:Operand}
 {b s:Nat} {v:TV} (ho:o.op= .store t x y) (h:bK C ops E.rd tk g o=some (.put b s v)):
 ∃w',(execOp a.eval o).run P w= .ok .skip w'/\Inv w0 c0 U {E with s:=E.s.set s (.box b v)} a w' G:=by
 simp only[bK,ho]at h;split at h;rename_i ti I off p τ1 v1 b0 J hv;split at h;rename_i l u K;split at h;rename_i hc;simp only[K',b_]at hc;rw[m_]at h;obtain⟨r,hr,h⟩:=h;simp only[Ef.put.injEq]at h;obtain⟨rfl,rfl,rfl⟩:=h;obtain⟨h1,h2⟩:=gP n hR hg J;obtain⟨bk,_,k2,k3⟩:=h1;obtain⟨i,j,c,el,g1,g3,g4,g5,g6,g7⟩:=n.box K;rw[g1]at k2;simp only[Value.pointer.injEq,aar,Addr.mk.injEq,and_true]at k2;subst k2;obtain⟨⟨X,x0,H⟩,Y,hlive⟩:=kZ n hR hg hv;obtain⟨q1,q2,q3⟩:=bJ.put hr g6 H;have hlen:=bJ.len g6;have N:=bJ.len H;simp only[alc]at hlen;rw[hc.1]at q1 q2;have hT:=(hC.tt t ti b0).1;have F:=iN j (el:=el) X off w c g5 (by omega);have R:=xf (P:=P) (t:=t) (τ:=ti.τ) hT g5 (o:=off) (cs:=X) (by rw[<-hc.2];omega) (by rw[N,hc.2]) (bJ.one H) k3;have B:G.bx I=true:=((n.bt l I (by rw[i];simp[SV.bt])).2.2)
 refine⟨w.setCells j off X,?_,?_⟩;simp only[execOp,ho,x0,hc.2];simp[R];have k0:∀k,G.col k≠I->k≠j:=λk m e=>m (e▸g4);have hD:=n.drop l;have S:∀s,({E with s:=E.s.set l .no}:Env).s.getD s .no=if s=l/\l<E.s.length then .no else E.s.getD s .no:=λs=>fA E.s l s .no
 have o0:∀s,∀c∈(({E with s:=E.s.set l .no}:Env).s.getD s .no).hc,c∉ [I]:=by
  intro s c z L;simp only[aiS]at L;subst L
  have W:l<E.s.length:=by
   rcases aon l E.s.length with h|h;exact h;rw[akQ,alg h]at i;cases i
  rw[S]at z;split at z;simp[SV.hc,SV.sc]at z;rename_i e0;have p0:s≠l:=λe=>e0 ⟨e,W⟩
  have r0:∀sv:SV,(∀u,sv≠ .box c u)->(∀d∈sv.sc,G.bx d=false)->c∉sv.hc:=by
   intro sv h1 h2 h3;cases sv with
   |box t v=>
    rcases l_.1 h3 with rfl|h3;exact h1 v rfl;have:=h2 c h3;rw[B]at this;cases this
   |_=>
    have:=h2 c h3;rw[B]at this;cases this
  exact r0 _ (λu' e=>p0 (n.uni s l c u' _ e i)) (λd q=>(n.sc s d q).2.2) z
 have s0:Inv w0 c0 U {E with s:=E.s.set l .no} a (w.setCells j off X) G:=by
  refine hD.change (ts:=[I]) o0 (λk _ m=>⟨cr j _ _ w k (k0 k (by simpa using m)),rfl⟩) (λ_ _=>⟨rfl,rfl⟩) (λ_ h=>h) n.colU
   (λk m=>by rw[fH];exact n.lt k m) (λk m=> ?_) (λk m h0=> ?_) (λ_ _=>rfl) (by rw[fH];exact I' _)
   (cP _ _ _ w).1 (cP _ _ _ w).2.1 (cP _ _ _ w).2.2
  by_cases e:k=j;subst e;exact⟨_,_,F⟩;rw[cr j _ _ w k e];exact n.fresh k m;have hf:=n.frame k m h0;refine⟨hf.1,?_⟩;rw[cr j _ _ w k (λe=> ?_)];exact hf.2;subst e;omega
 have W:l<E.s.length:=by
  rcases aon l E.s.length with h|h;exact h;rw[akQ,alg h]at i;cases i
 have u0:=s0.af7 l (sv:= .box I ⟨u.τ,r.1,r.2⟩) ?_ ?_ ?_;simpa using u0;refine⟨j,_,el,?_,g3,?_,g4,F,?_⟩;have:=n.slots l;rw[i]at this;obtain⟨E0,c2,G0,e1,e2,e3,e4,e5,e6⟩:=this;rw[e1]at e3;rw[g1]at e3;rw[e1];exact e3.symm;have:=n.slots l;rw[i]at this;obtain⟨E0,c2,G0,e1,e2,e3,e4,e5,e6⟩:=this;rw[e3];have:X.length=v1.τ.sz:=N;rw[this];refine bJ.agree ⟨λk m=>cr j _ _ w k (λe=> ?_),λ_ _=>rfl,λ_ _=>rfl⟩ q1;subst e;rw[g4]at m;rcases q3 _ m with m|m;have:=(g7 _ m).2.2;rw[B]at this;cases this;have:=(Y _ m).2.2;rw[B]at this;cases this;refine⟨λd q=> ?_,λd q=> ?_,by simp[SV.rt]⟩;rcases q3 d q with q|q;exact g7 d q;exact Y d q;simp only[SV.bt,aiS]at q;subst q;exact n.bt l d (by rw[i];simp[SV.bt]);rintro t' u' ⟨rfl,rfl⟩ s' u2 hs' he;rw[S]at he;split at he;cases he;exact hs' (n.uni s' l _ u2 _ he i);cases h;cases h;split at h;obtain⟨_,h⟩:=Option.ite_none_right_eq_some.mp h;obtain⟨_,h⟩:=Option.ite_none_left_eq_some.mp h;obtain⟨r,_,h⟩:=m_.mp h;cases h;cases h;cases h
end
end Vg
