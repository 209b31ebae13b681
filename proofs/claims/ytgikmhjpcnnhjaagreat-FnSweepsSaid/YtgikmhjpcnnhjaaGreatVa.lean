/- VG, joined: an evaluator of the code over typed values, and its soundness, for any program. -/
import Derived.Calls
import Derived.Below
import Derived.Laws.Append
import Derived.Laws.AppendOwn
import Derived.Laws.Cells
import Derived.Laws.Entries
import Derived.Laws.MakeOwn
import Derived.Laws.IdiomCopy
import Derived.Laws.Slices
import Derived.Great.BuildSlice
import Derived.Laws.Strings
import Derived.Laws.BytesString
import Derived.Laws.BytesArg
import Derived.ArgAppend
set_option linter.unusedSimpArgs false
set_option linter.unusedVariables false
set_option linter.unusedSectionVars false
set_option linter.defProp false
open Option.some renaming injEq -> ac4
open List renaming mem_append -> o_,mem_cons -> S_,mem_append_left -> afS,mem_of_mem_drop -> afX,mem_flatMap -> afY,mem_cons_of_mem -> af1,mem_append_right -> af3,take_of_length_le -> af7,drop_of_length_le -> agb,mem_singleton -> agi,length_append -> agl,contains_eq_mem -> agr,take_append_of_le_length -> ags,nil_append -> agt,getD_eq_getElem?_getD -> agu,drop_drop -> agv,replicate -> agy,drop_take -> agB,append_nil -> agI,drop_append_of_le_length -> agK,getElem?_eq_none -> agR,all_eq_true -> agS,getElem?_eq_getElem -> agV,mem_eraseDups -> agW,take_take -> agX,append_assoc -> agZ,nodup_append -> ag1,getElem?_map -> ag4,drop_append -> ag7,length_cons -> ahb,take_succ_eq_append_getElem -> ahd,take_append_drop -> ahe,mem_of_getElem? -> ahh,mem_iff_getElem -> ahk,replicate_succ -> ahn,getElem?_range -> ahr,getElem?_eq_some_iff -> ahA,take_append -> ahB,getD -> ahJ,mem_filter -> ahM,take_zero -> ahN,drop_zero -> ahR,drop_set_of_lt -> aiZ,take_set_of_le -> ai1,take -> alh,flatten_cons -> alj,flatMap_cons -> aoo,drop_sublist -> aop,length -> aoq,flatMap_map -> aos,head?_drop -> aot,take_left -> aow
open Option renaming map_eq_some_iff -> S',map_eq_none_iff -> agd,getD_some -> ahD,bind_eq_some_iff -> ahH,map_some -> aou
open Nat renaming add_mul -> J8,mul_le_mul_right -> afR,le_refl -> agc,min_eq_left -> agU,one_mul -> ag6,lt_or_ge -> ahf,ne_of_lt -> ahC,add_assoc -> aiV,zero_add -> akb
open Array renaming getElem?_eq_getElem -> afL,ext' -> af2,length_toList -> agH,getD_eq_getD_getElem? -> ahs,toList_setIfInBounds -> ahx,toList_map -> ahF,toList_range -> aky
open Bool renaming and_eq_true -> af0,not_eq_true' -> agL,false_eq_true -> ahv
open Int renaming instLEInt -> af4,toNat_of_nonneg -> ai3
open Prod.mk renaming injEq -> agf
def an.{u}{c:Prop}{h:Decidable c}(hc:c){α:Sort u}{t e:α}:ite c t e=t:=if_pos hc
def a_.{u}{c:Prop}{h:Decidable c}(hc:¬c){α:Sort u}{t e:α}:ite c t e=e:=if_neg hc
def b_{p:Prop}[Decidable p]:(decide p=true)=p:=decide_eq_true_eq
def c_{p:Prop}[h:Decidable p]:p→decide p=true:=decide_eq_true
def d_{p:Prop}{h:Decidable p}:decide p=false↔¬p:=decide_eq_false_iff_not
def e_{p:Prop}[h:Decidable p]:decide p=true→p:=of_decide_eq_true
namespace Vg
open Go
inductive Ty where
 |int (k:IntKind)
 |bool
 |str
 |sl (e:Ty)
 |pair (a b:Ty)
 deriving DecidableEq,Inhabited
@[reducible] def Ty.den:Ty->Type
  | .int _=>Int
  | .bool=>Bool
  | .str=>ByteArray
  | .sl e=>List e.den
  | .pair a b=>a.den×b.den
def Ty.sz:Ty->Nat
 | .pair a b=>a.sz+b.sz
 |_=>1
def Ty.aa:(τ:Ty)->τ.den
 | .int _=>(0:Int)
 | .bool=>false
 | .str=>ByteArray.empty
 | .sl _=>[]
 | .pair a b=>(a.aa,b.aa)
def Ty.zero:Ty->List Value
 | .int k=>[.int k 0]
 | .bool=>[.bool false]
 | .str=>[.string .empty]
 | .sl _=>[.slice none 0 0]
 | .pair a b=>a.zero++b.zero
def Ty.qH:Ty->Bool
 | .pair _ _=>true
 |_=>false
def zE:Ty->List Value->Value
 | .pair _ _,cs=> .agg cs.toArray
 |_,cs=>cs.headD undef
theorem Ty.UY:∀τ:Ty,0<τ.sz
 | .int _| .bool| .str| .sl _=>Nat.one_pos
 | .pair a b=>by have:=a.UY;simp only[Ty.sz];omega
theorem Ty.PU:∀τ:Ty,τ.zero.length=τ.sz
 | .int _| .bool| .str| .sl _=>rfl
 | .pair a b=>by simp[Ty.zero,Ty.sz,a.PU,b.PU]
def fN{α:Type}(R:α->List Value->List Nat->Prop):List α->List Value->List Nat->Prop
 | [],cs,B=>cs=[]/\B=[]
 |x::l,cs,B=>∃c1 b c d,cs=c1++b/\B=c++d/\R x c1 c/\fN R l b d
def Bk{α:Type}(w:World)(sz:Nat)(R:α->List Value->List Nat->Prop)(l:List α)(v:Value)(B:List Nat):Prop:=
 ((∃e,v= .slice e 0 0)/\l=[]/\B=[])\/
 ∃(b off cap:Nat) (c:Array Value) (el:TypeId) (h:Nat×Nat) (d:List Nat),
  v= .slice (some ⟨b,off,none⟩) l.length cap/\l.length<=cap/\w.heap[b]?=some (.cells c el h)/\off+cap*sz<=c.size/\
  B=b::d/\fN R l ((c.toList.drop off).take (l.length*sz)) d
def fl(w:World):(τ:Ty)->τ.den->List Value->List Nat->Prop
 | .int k,n,cs,B=>cs=[.int k n]/\B=[]
 | .bool,b,cs,B=>cs=[.bool b]/\B=[]
 | .str,s,cs,B=>cs=[.string s]/\B=[]
 | .pair a b,p,cs,B=>∃c1 c d h,cs=c1++c/\B=d++h/\fl w a p.1 c1 d/\fl w b p.2 c h
 | .sl e,l,cs,B=>∃v,cs=[v]/\Bk w e.sz (fl w e) l v B
theorem fN.len{α:Type}{R:α->List Value->List Nat->Prop}{sz:Nat}(b:∀x c B,R x c B->c.length=sz):
 ∀ {l:List α} {cs:List Value} {B:List Nat},fN R l cs B->cs.length=l.length*sz
 | [],_,_,h=>by simp[h.1]
 |x::l,cs,B,h=>by
  obtain⟨c1,c2,B1,B2,rfl,rfl,e,o⟩:=h;simp[b _ _ _ e,fN.len b o,J8,Nat.add_comm]
theorem fl.len{w:World}:∀ {τ:Ty} {x:τ.den} {cs:List Value} {B:List Nat},fl w τ x cs B->cs.length=τ.sz
 | .int _,_,_,_,h=>by rw[h.1];rfl
 | .bool,_,_,_,h=>by rw[h.1];rfl
 | .str,_,_,_,h=>by rw[h.1];rfl
 | .pair a b,p,cs,B,h=>by
   obtain⟨c1,c2,B1,B2,rfl,rfl,c,o⟩:=h;simp[fl.len c,fl.len o,Ty.sz]
 | .sl e,l,cs,B,h=>by obtain⟨v,rfl,_⟩:=h;rfl
theorem fN.mono{α:Type}{R R':α->List Value->List Nat->Prop}(P:Nat->Prop)(o:∀x c B,(∀b∈B,P b)->R x c B->R' x c B):
 ∀ {l:List α} {cs:List Value} {B:List Nat},(∀b∈B,P b)->fN R l cs B->fN R' l cs B
 | [],_,_,_,h=>h
 |x::l,cs,B,hP,h=>by
  obtain⟨p,q,u,v,rfl,rfl,y,z⟩:=h;exact⟨p,q,u,v,rfl,rfl,o _ _ _ (fun b e=>hP b (by simp[e])) y,fN.mono P o (fun b e=>hP b (by simp[e])) z⟩
theorem fl.mono{w w':World}:∀ {τ:Ty} {x:τ.den} {cs:List Value} {B:List Nat},(∀b∈B,w'.heap[b]?=w.heap[b]?)->fl w τ x cs B->fl w' τ x cs B
 | .int _,_,_,_,_,h=>h
 | .bool,_,_,_,_,h=>h
 | .str,_,_,_,_,h=>h
 | .pair a b,p,cs,B,hB,h=>by
   obtain⟨I,J,K,L,rfl,rfl,N,R⟩:=h;exact⟨I,J,K,L,rfl,rfl,fl.mono (fun b o=>hB b (by simp[o])) N,fl.mono (fun b o=>hB b (by simp[o])) R⟩
 | .sl e,l,cs,B,hB,h=>by
   obtain⟨v,rfl,h⟩:=h;refine⟨v,rfl,?_⟩;rcases h with h|⟨b,off,cap,c,el,S,W,X,q,o,y,rfl,Y⟩;exact .inl h;refine .inr ⟨b,off,cap,c,el,S,W,X,q,(hB b (by simp)).trans o,y,rfl,?_⟩;exact fN.mono (fun b=>w'.heap[b]?=w.heap[b]?) (fun x c B z D=>fl.mono z D) (fun H u=>hB H (by simp[u])) Y
theorem fN.bounds{α:Type}{R:α->List Value->List Nat->Prop}(P:Nat->Prop)(o:∀x c B,R x c B->∀b∈B,P b):
 ∀ {l:List α} {cs:List Value} {B:List Nat},fN R l cs B->∀b∈B,P b
 | [],_,_,h,b,e=>by rw[h.2]at e;cases e
 |x::l,cs,B,h,b,e=>by
  obtain⟨c1,c2,B1,B2,rfl,rfl,p,q⟩:=h;rcases o_.1 e with e|e;exact o _ _ _ p b e;exact fN.bounds P o q b e
def lt_of_block{w:World}{b:Nat}{o:Obj}(h:w.heap[b]?=some o):b<w.heap.size:=by
 rcases ahf b w.heap.size with c|c;exact c;simp[Array.getElem?_eq_none c]at h
theorem fl.bounds{w:World}:∀ {τ:Ty} {x:τ.den} {cs:List Value} {B:List Nat},fl w τ x cs B->∀b∈B,b<w.heap.size
 | .int _,_,_,_,h,b,o=>by rw[h.2]at o;cases o
 | .bool,_,_,_,h,b,o=>by rw[h.2]at o;cases o
 | .str,_,_,_,h,b,o=>by rw[h.2]at o;cases o
 | .pair a b,p,cs,B,h,b',o=>by
   obtain⟨c1,c2,B1,B2,rfl,rfl,y,z⟩:=h;rcases o_.1 o with o|o;exact fl.bounds y b' o;exact fl.bounds z b' o
 | .sl e,l,cs,B,h,b',o=>by
   obtain⟨v,rfl,h⟩:=h;rcases h with h|⟨b,off,cap,c,el,fz,Bs,hv,hcap,q,hsz,rfl,D⟩;rw[h.2.2]at o;cases o;rcases S_.1 o with rfl|o;exact lt_of_block q;exact fN.bounds _ (fun x c B u=>fl.bounds u) D b' o
theorem fl.zero(w:World):∀τ:Ty,fl w τ τ.aa τ.zero []
 | .int _=>⟨rfl,rfl⟩
 | .bool=>⟨rfl,rfl⟩
 | .str=>⟨rfl,rfl⟩
 | .sl _=>⟨_,rfl,.inl ⟨⟨none,rfl⟩,rfl,rfl⟩⟩
 | .pair a b=>⟨_,_,[],[],rfl,rfl,fl.zero w a,fl.zero w b⟩
theorem fN.append{α:Type}{R:α->List Value->List Nat->Prop}:∀ {p h:List α} {c1 c:List Value} {o e:List Nat},
 fN R p c1 o->fN R h c e->fN R (p++h) (c1++c) (o++e)
 | [],_,_,_,_,_,h1,h2=>by rw[h1.1,h1.2];exact h2
 |x::l,h,c1,c,o,e,h1,h2=>by
  obtain⟨a,b,A,B,rfl,rfl,q,u⟩:=h1;exact⟨a,b++c,A,B++e,by simp,by simp,q,fN.append u h2⟩
theorem fN.split{α:Type}{R:α->List Value->List Nat->Prop}{sz:Nat}(u:∀x c B,R x c B->c.length=sz):
 ∀ {p q:List α} {cs:List Value} {B:List Nat},fN R (p++q) cs B->
   ∃b o,B=b++o/\fN R p (cs.take (p.length*sz)) b/\fN R q (cs.drop (p.length*sz)) o
 | [],q,cs,B,h=>⟨[],B,rfl,⟨by simp,rfl⟩,by simpa using h⟩
 |x::l,q,cs,B,h=>by
  obtain⟨v,c2,y,A2,rfl,rfl,z,D⟩:=h;obtain⟨b,o,rfl,H,I⟩:=fN.split u D;have hc:=u _ _ _ z;refine⟨y++b,o,by simp,⟨v,_,y,b,?_,rfl,z,H⟩,?_⟩;rw[ahB,af7 (by simp[J8];omega)];congr 2;simp[J8];omega;have e:(x::l).length*sz=v.length+l.length*sz:=by simp[J8];omega
  rw[e,ag7,agb (by omega)];simpa using I
theorem fN.one{α:Type}{R:α->List Value->List Nat->Prop}{x:α}{cs:List Value}{B:List Nat}(h:R x cs B):fN R [x] cs B:=
 ⟨cs,[],B,[],by simp,by simp,h,rfl,rfl⟩
theorem fN.get{α:Type}{R:α->List Value->List Nat->Prop}{sz:Nat}(z:∀x c B,R x c B->c.length=sz)
 {l:List α} {cs:List Value} {B:List Nat} (h:fN R l cs B) {i:Nat} {x:α} (I:l[i]?=some x):
 ∃p y q,B=p++y++q/\R x ((cs.drop (i*sz)).take sz) y/\
  fN R (l.take i) (cs.take (i*sz)) p/\fN R (l.drop (i+1)) (cs.drop ((i+1)*sz)) q:=by
 obtain⟨K,u⟩:=ahA.1 I;have e:l=l.take i++(x::l.drop (i+1)):=by rw[<-u,<-List.drop_eq_getElem_cons K,ahe]
 rw[e]at h;obtain⟨p,q,rfl,D,H⟩:=fN.split z h;have J:(l.take i).length=i:=by simp;omega
 rw[J]at D H;obtain⟨c1,L,N,S,hc,rfl,o,v⟩:=H;have b:=z _ _ _ o;refine⟨p,N,S,by simp,?_,D,?_⟩;rw[hc,ahB,af7 (by omega)];simpa[b]using o
 have:cs.drop ((i+1)*sz)=L:=by
  rw[J8,ag6,<-agv,hc,<-b,List.drop_left]
 rw[this];exact v
theorem fN.set{α:Type}{R:α->List Value->List Nat->Prop}{sz:Nat}
 {l:List α} {i:Nat} {y:α} {cs b:List Value} {c h o:List Nat} (p:i<l.length) (q:R y b h)
 (u:fN R (l.take i) (cs.take (i*sz)) c) (v:fN R (l.drop (i+1)) (cs.drop ((i+1)*sz)) o):
 fN R (l.set i y) (cs.take (i*sz)++b++cs.drop ((i+1)*sz)) (c++h++o):=by
 have e:l.set i y=l.take i++([y]++l.drop (i+1)):=by
  rw[List.set_eq_take_append_cons_drop,an p];rfl
 rw[e,agZ,agZ];exact fN.append u (fN.append (fN.one q) v)
theorem fN.replicate{α:Type}{R:α->List Value->List Nat->Prop}{x:α}{cs:List Value}(h:R x cs []):
 ∀n:Nat,fN R (agy n x) (agy n cs).flatten []
 |0=>⟨rfl,rfl⟩
 |n+1=>by
  rw[ahn,ahn,alj];exact⟨cs,_,[],[],rfl,rfl,h,fN.replicate h n⟩
theorem fl.one{w:World}:∀ {τ:Ty} {x:τ.den} {cs:List Value} {B:List Nat},fl w τ x cs B->∀v∈cs,v.oneCell'=true
 | .int _,_,_,_,h,v,o=>by rw[h.1]at o;simp at o;subst o;rfl
 | .bool,_,_,_,h,v,o=>by rw[h.1]at o;simp at o;subst o;rfl
 | .str,_,_,_,h,v,o=>by rw[h.1]at o;simp at o;subst o;rfl
 | .pair a b,p,cs,B,h,v,o=>by
   obtain⟨c1,c2,B1,B2,rfl,rfl,q,y⟩:=h;rcases o_.1 o with o|o;exact fl.one q v o;exact fl.one y v o
 | .sl e,l,cs,B,h,v,o=>by
   obtain⟨u,rfl,h⟩:=h;simp at o;subst o;rcases h with h|⟨b,off,cap,c,el,fz,Bs,rfl,_⟩;obtain⟨ao,e⟩:=h.1;rw[e];rfl;rfl
inductive M where
 |row (t:Nat) (hs:List Nat) (nd:Bool)
 |sha (hs:List Nat)
 |nst (b:Nat) (e:Ty) (i:Int) (o:Nat) (p:List Bool) (fr:Bool)
 |dead
 deriving DecidableEq,Inhabited
inductive Sh where
 |leaf
 |sl (m:M)
 |pair (a b:Sh)
 deriving DecidableEq,Inhabited
structure TV where
 τ:Ty
 x:τ.den
 sh:Sh
inductive SV where
 |no
 |d (v:TV)
 |box (t:Nat) (v:TV)
 |ptr (t:Nat) (o:Nat) (path:List Bool) (τ:Ty)
 |ept (t:Nat) (e:Ty) (i:Int) (o:Nat) (path:List Bool) (τ:Ty)
 |rdp (hs:List Nat) (v:TV)
 |tup (l:List TV)
 |g (j:Nat) (want:Bool) (act:Bool) (v:SV)
structure Env where
 s:List SV
 nt:Nat
 kp:Bool:=false
def iF:List Ty->Type
 | []=>Unit
 |τ::l=>τ.den×iF l
def iF.aa:(l:List Ty)->iF l
 | []=>()
 |τ::l=>(τ.aa,iF.aa l)
structure TI where
 τ:Ty
 fs:List TypeId
 el:TypeId
def nu:Nat->Nat->List Bool
 |0,_=>[]
 |1,_=>[]
 |_+2,0=>[false]
 |n+2,j+1=>true::nu (n+1) j
def Ty.sub:Ty->List Bool->Option Ty
 |τ,[]=>some τ
 | .pair a _,false::p=>a.sub p
 | .pair _ b,true::p=>b.sub p
 |_,_::_=>none
def Ty.off:Ty->List Bool->Nat
 |_,[]=>0
 | .pair a _,false::p=>a.off p
 | .pair a b,true::p=>a.sz+b.off p
 |_,_::_=>0
def OI:(τ:Ty)->τ.den->Sh->List Bool->Option TV
 |τ,x,sh,[]=>some ⟨τ,x,sh⟩
 | .pair a _,x,.pair s1 _,false::p=>OI a x.1 s1 p
 | .pair _ b,x,.pair _ s2,true::p=>OI b x.2 s2 p
 |_,_,_,_::_=>none
def OP(v:TV)(τ:Ty):Option τ.den:=if h:v.τ=τ then some (cast (congrArg Ty.den h) v.x)else none
def N3:(τ:Ty)->τ.den->Sh->List Bool->TV->Option (τ.den×Sh)
 |τ,_,_,[],v=>match OP v τ with|some y=>some (y,v.sh)|none=>none
 | .pair a _,x,.pair s1 s2,false::p,v=>match N3 a x.1 s1 p v with|some (y,s)=>some ((y,x.2),.pair s s2)|none=>none
 | .pair _ b,x,.pair s1 s2,true::p,v=>match N3 b x.2 s2 p v with|some (y,s)=>some ((x.1,y),.pair s1 s)|none=>none
 |_,_,_,_::_,_=>none
def NU:Ty->M->Sh
 | .pair a b,m=> .pair (NU a m) (NU b m)
 | .sl _,m=> .sl m
 |_,_=> .leaf
def Ty.flat:Ty->Bool
 | .pair a b=>a.flat&&b.flat
 | .sl _=>false
 |_=>true
def decode:(τ:Ty)->List Value->Option (τ.den×List Value)
 | .int k,.int k' n::r=>if k'=k then some (n,r)else none
 | .bool,.bool b::r=>some (b,r)
 | .str,.string s::r=>some (s,r)
 | .sl _,.slice none 0 0::r=>some ([],r)
 | .pair a b,cs=>match decode a cs with
   |some (x,r)=>(match decode b r with|some (y,r')=>some ((x,y),r')|none=>none)
   |none=>none
 |_,_=>none
def adn(τ:Ty)(v:Value):Option TV:=
 match τ,v with
 | .pair a b,.agg cs=>(match decode (.pair a b) cs.toList with|some (x,[])=>some ⟨.pair a b,x,NU (.pair a b) (.sha [])⟩|_=>none)
 | .pair _ _,_=>none
 |τ,v=>(match decode τ [v]with|some (x,[])=>some ⟨τ,x,NU τ (.sha [])⟩|_=>none)
inductive Pt where
 |leaf|own|shr|hd|pv|rom
 |pair (a b:Pt)
 deriving DecidableEq,Inhabited
def Yo:Ty->Pt
 | .sl _=> .shr
 | .pair a b=> .pair (Yo a) (Yo b)
 |_=> .leaf
def Pt.Xb:Pt->Bool
 | .shr| .hd=>true
 | .pair a b=>a.Xb||b.Xb
 |_=>false
inductive PK where
 |val (τ:Ty) (p:Pt)
 |io (τ:Ty) (p:Pt)
 |rd (τ:Ty)
 |vx (e:Ty) (l:List Nat)
inductive RK where
 |val (τ:Ty) (p:Pt)
 |nbox (τ:Ty) (p:Pt)
def PK.ty:PK->Ty
 | .val τ _| .io τ _| .rd τ=>τ
 | .vx e _=> .sl e
def RK.ty:RK->Ty
 | .val τ _| .nbox τ _=>τ
def lu:List PK->List Ty
 | []=>[]
 | .val _ _::l=>lu l
 | .io τ _::l=>τ::lu l
 | .rd _::l| .vx _ _::l=>lu l
structure Ou where
 ps:List PK
 rs:List RK
 F:iF (ps.map PK.ty)->Option (iF (rs.map RK.ty++lu ps))
 kp:List (Nat×List Bool)
inductive AK where
 |val (τ:Ty) (sh:Sh)
 |box (t:Nat) (τ:Ty) (sh:Sh)
 |ptr (t:Nat) (o:Nat) (path:List Bool) (τ:Ty)
 |ept (t:Nat) (e:Ty) (o:Nat) (path:List Bool) (τ:Ty)
 |rdp (hs:List Nat) (τ:Ty) (sh:Sh)
def AK.tys:AK->List Ty
 | .val τ _=>[τ]
 | .box _ τ _=>[τ]
 | .ptr _ _ _ _=>[]
 | .ept _ _ _ _ _=>[.int .i64]
 | .rdp _ τ _=>[τ]
structure Ua where
 ks:List (Nat×AK)
 nt:Nat
structure Cx where
 tt:TypeId->Option TI
 ct:FuncId->Option Ou
 la:Nat->Option Ua
 ja:Nat->Option Ua
 k:Nat
 n:Nat
 io:List Nat
/-tokens-/
def M.cO:M->List Nat
 | .row t hs _=>t::hs
 | .sha hs=>hs
 | .nst b _ _ _ _ _=>[b]
 | .dead=>[]
def Sh.cO:Sh->List Nat
 | .leaf=>[]
 | .sl m=>m.cO
 | .pair a b=>a.cO++b.cO
def Sh.live:Sh->Bool
 | .leaf=>true
 | .sl .dead=>false
 | .sl _=>true
 | .pair a b=>a.live&&b.live
def Sh.map(f:M->M):Sh->Sh
 | .leaf=> .leaf
 | .sl m=> .sl (f m)
 | .pair a b=> .pair (a.map f) (b.map f)
def M.own:M->Option (List Nat)
 | .row t hs nd=>if nd&&hs.all (4<=·)then some (t::hs.filter (·≠t))else none
 | .sha []=>some []
 |_=>none
def M.acx:M->Option (List Nat)
 | .row t hs _=>if hs.all (4<=·)then some (t::hs.filter (·≠t))else none
 | .sha []=>some []
 |_=>none
def Sh.own:Sh->Option (List Nat)
 | .leaf=>some []
 | .sl m=>m.own
 | .pair a b=>match a.own,b.own with
   |some x,some y=>if x.all (!y.contains ·)then some (x++y)else none
   |_,_=>none
def meets(a b:List Nat):Bool:=a.any b.contains
def M.kill(ts:List Nat)(m:M):M:=if meets m.cO ts then .dead else m
def SV.mapM(f:M->M)(fe:Nat->Bool)(fr:List Nat->Option (List Nat)):SV->SV
 | .d v=> .d {v with sh:=v.sh.map f}
 | .box t v=> .box t {v with sh:=v.sh.map f}
 | .ept t e i o p τ=>if fe t then .ept t e i o p τ else .no
 | .rdp hs v=>(match fr hs with|some hs'=> .rdp hs' {v with sh:=v.sh.map f}|none=> .no)
 | .tup l=> .tup (l.map fun v=>{v with sh:=v.sh.map f})
 | .g j w a v=> .g j w a (v.mapM f fe fr)
 |v=>v
def SV.kill(ts:List Nat)(v:SV):SV:=v.mapM (M.kill ts) (!ts.contains ·) (fun hs=>if meets hs ts then none else some hs)
def Env.kill(E:Env)(ts:List Nat):Env:=if ts.isEmpty then E else {E with s:=E.s.map (SV.kill ts)}
def SV.qn(ts:List Nat)(c:List (Nat×Nat)):SV->SV
 | .ept b e i o p τ=>match c.lookup b with|some h=> .ept h e i o p τ|none=>if ts.isEmpty then .ept b e i o p τ else SV.kill ts (.ept b e i o p τ)
 |v=>if ts.isEmpty then v else SV.kill ts v
def Env.qn(E:Env)(ts:List Nat)(b:List (Nat×Nat)):Env:=if b.isEmpty then E.kill ts else {E with s:=E.s.map (SV.qn ts b)}
def X2(ts:List Nat)(t:Nat)(hs:List Nat):List Nat:=(hs.map fun h=>if ts.contains h then t else h).eraseDups
def M.YD(ts:List Nat)(t:Nat):M->M
 | .row u hs nd=>if ts.contains u then .sha (X2 ts t (u::hs))else .row u (X2 ts t hs) nd
 | .sha hs=> .sha (X2 ts t hs)
 | .nst b _ _ _ _ _=> .sha (X2 ts t [b])
 | .dead=> .dead
def M.fv(ts:List Nat)(t:Nat)(m:M):M:=if meets m.cO ts then m.YD ts t else m
def SV.fv(ts:List Nat)(t:Nat)(v:SV):SV:=v.mapM (M.fv ts t) (!ts.contains ·) (fun hs=>some (if meets hs ts then X2 ts t hs else hs))
def Env.fv(E:Env)(ts:List Nat)(t:Nat):Env:=if ts.isEmpty then E else {E with s:=E.s.map (SV.fv ts t)}
def Env.get(E:Env)(s:Nat):SV:=E.s.getD s .no
def Env.set(E:Env)(dst:Option Nat)(v:SV):Env:=match dst with|some d=>{E with s:=E.s.set d v}|none=>E
def zG:List SV->Nat->Nat->Option (Nat×TV)
 | [],_,_=>none
 | .box t v::l,u,i=>if t=u then some (i,v)else zG l u (i+1)
 |_::l,u,i=>zG l u (i+1)
def OA(t:Nat)(e:Ty):(τ:Ty)->τ.den->Sh->Option (List e.den×List Nat×Bool)
 | .sl e',l,.sl (.row u hs nd)=>if u=t then(if h:e'=e then some (cast (congrArg (fun τ=>List (Ty.den τ)) h) l,hs,nd)else none)else none
 | .pair a b,x,.pair s1 s2=>match OA t e a x.1 s1 with|some r=>some r|none=>OA t e b x.2 s2
 |_,_,_=>none
def CT(t:Nat)(e:Ty):List SV->Option (List e.den×List Nat×Bool)
 | []=>none
 | .d v::l| .box _ v::l=>match OA t e v.τ v.x v.sh with|some r=>some r|none=>CT t e l
 |_::l=>CT t e l
def ON(t:Nat)(e:Ty)(y:List e.den)(m:M):(τ:Ty)->τ.den->Sh->τ.den×Sh
 | .sl e',l,.sl (.row u hs nd)=>if u=t then(if h:e'=e then(cast (congrArg (fun τ=>List (Ty.den τ)) h.symm) y,.sl m)else(l,.sl .dead))else(l,.sl (.row u hs nd))
 | .pair a b,x,.pair s1 s2=>((ON t e y m a x.1 s1).1,ON t e y m b x.2 s2 |>.1) |> fun z=>(z,.pair (ON t e y m a x.1 s1).2 (ON t e y m b x.2 s2).2)
 |_,x,sh=>(x,sh)
def TV.setRow(t:Nat)(e:Ty)(y:List e.den)(m:M)(v:TV):TV:=⟨v.τ,(ON t e y m v.τ v.x v.sh).1,(ON t e y m v.τ v.x v.sh).2⟩
def SV.setRow(t:Nat)(e:Ty)(y:List e.den)(m:M):SV->SV
 | .d v=> .d (v.setRow t e y m)
 | .box b v=> .box b (v.setRow t e y m)
 | .tup l=> .tup (l.map (TV.setRow t e y m))
 | .g j w a v=> .g j w a (v.setRow t e y m)
 | .rdp hs v=>if(hs++v.sh.cO).contains t then .no else .rdp hs v
 |v=>v
def M.og(t:Nat):M->M
 | .row u hs nd=>if u=t then .row u hs nd else if hs.contains t then .dead else .row u hs nd
 | .sha hs=>if hs.contains t then .dead else .sha hs
 | .nst b e i o p fr=>if b=t then .dead else .nst b e i o p fr
 | .dead=> .dead
def SV.og(t:Nat)(v:SV):SV:=v.mapM (M.og t) (fun _=>true) (fun hs=>if hs.contains t then none else some hs)
structure Rd where
 get:Nat->SV
 box:Nat->Option (Nat×TV)
 row:Nat->(e:Ty)->Option (List e.den×List Nat×Bool)
def pr:SV->SV
 | .box t v=> .ptr t 0 [] v.τ
 | .g j w a v=> .g j w a (pr v)
 |v=>v
def Env.rd(E:Env):Rd:=⟨fun s=>pr (E.get s),fun t=>zG E.s t 0,fun t e=>CT t e E.s⟩
/-operands-/
def KR(C:Cx)(R:Rd)(t:TypeId):Operand->Option SV
 | .tmp s=>some (R.get s)
 | .const v=>match C.tt t with|some i=>(adn i.τ v).map .d|none=>none
 |_=>none
def Zo(G:Option (Nat×Bool)):SV->Option SV
 | .g j w _ v=>if G=some (j,w)then some v else none
 |v=>some v
def arg(C:Cx)(R:Rd)(G:Option (Nat×Bool))(t:TypeId)(x:Operand):Option SV:=(KR C R t x).bind (Zo G)
def vr(C:Cx)(R:Rd)(G:Option (Nat×Bool))(t:TypeId)(x:Operand):Option TV:=
 match arg C R G t x with|some (.d v)=>if v.sh.live then some v else none|_=>none
inductive Ef:Type 1 where
 |val (v:SV)
 |chk (c:Bool) (v:SV)
 |opt (α:Type) (z:α) (o:Option α) (f:α->SV)
 |put (b:Nat) (s:Nat) (v:TV)
 |app (c:Bool) (kl gv:List Nat) (t:Nat) (v:SV)
 |elem (gv:List Nat) (b:Nat) (e:Ty) (l:List e.den) (m:M)
 |nap (c:Bool) (gv:List Nat) (b:Nat) (e:Ty) (l:List e.den) (m:M) (v:SV)
 |call (α:Type) (o:Option α) (tks:List Nat) (f:α->SV×List (Nat×Nat×TV)) (rp:α->List (Nat×Nat))
def vI(k:IntKind)(n:Int):SV:= .d ⟨.int k,n,.leaf⟩
def vB(b:Bool):SV:= .d ⟨.bool,b,.leaf⟩
def vS(s:ByteArray):SV:= .d ⟨.str,s,.leaf⟩
def bt(s:ByteArray)(i:Int):Int:=((s.data.toList.getD i.toNat 0).toNat:Int)
def eqv:(τ:Ty)->τ.den->τ.den->Bool
 | .int _,a,b=>a==b
 | .bool,a,b=>a==b
 | .str,a,b=>a.toList==b.toList
 | .pair a b,x,y=>eqv a x.1 y.1&&eqv b x.2 y.2
 | .sl _,_,_=>false
def bits(f:∀n,BitVec n->BitVec n->BitVec n)(k:IntKind)(a b:Int):Int:=k.wrap (f k.bits (BitVec.ofInt k.bits a) (BitVec.ofInt k.bits b)).toNat
def aoa(op:BinOp)(k:IntKind)(a b:Int):Option Ef:=
 match op with
 | .add=>some (.val (vI k (k.wrap (a+b))))
 | .sub=>some (.val (vI k (k.wrap (a-b))))
 | .mul=>some (.val (vI k (k.wrap (a*b))))
 | .quo=>some (.chk (decide (b≠0)) (vI k (k.wrap (a.tdiv b))))
 | .rem=>some (.chk (decide (b≠0)) (vI k (a.tmod b)))
 | .and=>some (.val (vI k (bits (fun _=>(· &&& ·)) k a b)))
 | .or=>some (.val (vI k (bits (fun _=>(· ||| ·)) k a b)))
 | .xor=>some (.val (vI k (bits (fun _=>(·^^^·)) k a b)))
 | .shr=>some (.chk (decide (0<=b)) (vI k (a.fdiv (2^(min b.toNat k.bits)))))
 | .shl=>some (.chk (decide (0<=b)) (vI k (k.wrap (a*2^(min b.toNat k.bits)))))
 | .eql=>some (.val (vB (a==b)))
 | .neq=>some (.val (vB (a != b)))
 | .lss=>some (.val (vB (decide (a<b))))
 | .leq=>some (.val (vB (decide (a<=b))))
 | .gtr=>some (.val (vB (decide (a>b))))
 | .geq=>some (.val (vB (decide (a>=b))))
 |_=>none
def anw(op:BinOp)(a b:ByteArray):Option Ef:=
 match op with
 | .add=>some (.chk (decide (a.size+b.size<4294967296)) (vS (a++b)))
 | .eql=>some (.val (vB (a.toList==b.toList)))
 | .neq=>some (.val (vB (!(a.toList==b.toList))))
 | .lss=>some (.val (vB (Op.bytesLess a.toList b.toList)))
 | .leq=>some (.val (vB (Op.bytesLess a.toList b.toList||a.toList==b.toList)))
 | .gtr=>some (.val (vB (!(Op.bytesLess a.toList b.toList||a.toList==b.toList))))
 | .geq=>some (.val (vB (!Op.bytesLess a.toList b.toList)))
 |_=>none
def aon(op:BinOp)(x y:TV):Option Ef:=
 match x,y with
 |⟨.int k,a,_⟩,⟨.int k',b,_⟩=>if k=k'||op= .shl||op= .shr then aoa op k a b else none
 |⟨.str,a,_⟩,⟨.str,b,_⟩=>anw op a b
 |⟨.bool,a,_⟩,⟨.bool,b,_⟩=>(match op with| .eql=>some (.val (vB (a==b)))| .neq=>some (.val (vB (!(a==b))))|_=>none)
 |⟨.pair a b,x,_⟩,⟨τ,y,s⟩=>match OP ⟨τ,y,s⟩ (.pair a b)with
  |some y=>if(Ty.pair a b).flat then(match op with| .eql=>some (.val (vB (eqv (.pair a b) x y)))| .neq=>some (.val (vB (!eqv (.pair a b) x y)))|_=>none)else none
  |none=>none
 |_,_=>none
def WO:M->List Nat
 | .row _ hs _=>hs
 | .sha hs=>hs
 | .nst b _ _ _ _ _=>[b]
 | .dead=>[]
def Ww(C:Cx)(R:Rd)(G:Option (Nat×Bool))(i:TI):List (Nat×Operand)->i.τ.den->Sh->Option (i.τ.den×Sh)
 | [],x,sh=>some (x,sh)
 |(j,o)::l,x,sh=>match i.fs[j]? with
  |none=>none
  |some b=>match vr C R G b o with
   |none=>none
   |some v=>match N3 i.τ x sh (nu i.fs.length j) v with
    |some (y,s)=>Ww C R G i l y s
    |none=>none
def X6(C:Cx)(R:Rd)(G:Option (Nat×Bool))(el:TypeId)(e:Ty):Nat->List (Nat×Operand)->Option (List e.den×List Sh)
 |_,[]=>some ([],[])
 |n,(j,o)::l=>if j=n then(match vr C R G el o with
  |none=>none
  |some v=>match OP v e,X6 C R G el e (n+1) l with
   |some x,some (xs,ss)=>some (x::xs,v.sh::ss)
   |_,_=>none)else none
def YU:List Sh->Option (List Nat)
 | []=>some []
 |s::l=>match s.own,YU l with
  |some x,some y=>if x.all (!y.contains ·)then some (x++y)else none
  |_,_=>none
def apu(tk:Nat)(b:List Sh):M:=
 match YU b with
 |some ts=> .row tk ts true
 |none=> .row tk (b.flatMap Sh.cO).eraseDups false
def M.same(t:Nat):M->Bool
 | .row u _ _=>u=t
 |_=>false
def anL(tk:Nat)(flat:Bool)(s y:M):Option (List Nat×List Nat×M):=
 match s with
 | .row t hs nd=>
   if flat then some ([t],[t],.row tk [] true)else
   if y.same t then some ([t],[t],.row tk (X2 [t] tk (hs++WO y)) false)else
   if y.cO.contains t then none else
   (match(M.row t hs nd).own,y.own with
   |some a,some b=>if b.all (!a.contains ·)then some ([t],a++b,.row tk [tk] true)else none
   |_,_=>some ([t],[t],.row tk (X2 [t] tk (hs++WO y)) false))
 | .sha []=>
   if flat then some ([],[],.row tk [] true)else
   (match y.own with
   |some b=>some ([],b,.row tk [tk] true)
   |none=>some ([],[],.row tk (WO y) false))
 |_=>none
def UU(C:Cx)(R:Rd)(tk:Nat)(G:Option (Nat×Bool))(b:Builtin)(args:List Operand)(ts:List TypeId):Option Ef:=
 match b,args,ts with
 | .len,[x],[t]=>(match C.tt t with
   |none=>none
   |some ti=>match vr C R G t x with
    |some ⟨.sl e,l,_⟩=>if ti.τ= .sl e then some (.val (vI .i64 (l.length:Int)))else none
    |some ⟨.str,s,_⟩=>if ti.τ= .str then some (.val (vI .i64 (s.size:Int)))else none
    |_=>none)
 | .min,[x,y],[t,u]=>(match vr C R G t x,vr C R G u y with
   |some ⟨.int k,a,_⟩,some ⟨.int k',b,_⟩=>if k=k' then some (.val (vI k (if b<a then b else a)))else none
   |_,_=>none)
 | .max,[x,y],[t,u]=>(match vr C R G t x,vr C R G u y with
   |some ⟨.int k,a,_⟩,some ⟨.int k',b,_⟩=>if k=k' then some (.val (vI k (if b>a then b else a)))else none
   |_,_=>none)
 | .append,[x,y],[t,u]=>(match C.tt t,vr C R G t x,vr C R G u y with
   |some ti,some ⟨.sl e,l,.sl m⟩,some ⟨.sl e',l',.sl m'⟩=>
    (match OP ⟨.sl e',l',.leaf⟩ (.sl e)with
    |some c=>(match anL tk e.flat m m' with
     |some (kl,gv,mm)=>if ti.τ= .sl e&&u=t then some (.app (decide (l.length+c.length<4294967296)) kl gv tk (.d ⟨.sl e,l++c,.sl mm⟩))else none
     |none=>none)
    |none=>none)
   |_,_,_=>none)
 |_,_,_=>none
/-calls-/
def PZ:Pt->Sh->Bool
 | .leaf,.leaf=>true
 | .own,.sl m=>m.own.isSome
 | .shr,.sl m=>m≠ .dead
 | .pv,.sl m=>m.acx.isSome
 | .rom,.sl m=>m≠ .dead&&m.cO.all (·=3)
 | .hd,.sl (.row _ _ _)=>true
 | .hd,.sl (.sha [])=>true
 | .pair a b,.pair x y=>PZ a x&&PZ b y
 |_,_=>false
def fQ:Pt->Nat->List Nat->Sh×Nat
 | .leaf,tk,_=>(.leaf,tk)
 | .own,tk,_=>(.sl (.row tk [tk] true),tk+1)
 | .shr,tk,hs=>(.sl (.sha hs),tk)
 | .hd,tk,hs=>(.sl (.row tk (tk::hs) false),tk+1)
 | .pv,tk,_=>(.sl (.row tk [tk] false),tk+1)
 | .rom,tk,_=>(.sl (.sha [3]),tk)
 | .pair a b,tk,hs=>let x:=fQ a tk hs;let y:=fQ b x.2 hs;(.pair x.1 y.1,y.2)
def DN(sm:Nat->Nat):Pt->Sh->Nat->List (Nat×Nat)
 | .own,.sl m,tk=>(m.own.getD []).map fun c=>(c,tk)
 | .shr,.sl m,_=>m.cO.map fun c=>(c,sm c)
 | .pv,.sl m,tk=>(m.acx.getD []).map fun c=>(c,tk)
 | .rom,.sl m,_=>(m.cO.filter (·=3)).map fun c=>(c,3)
 | .hd,.sl (.row t hs _),tk=>(t,tk)::(hs.filter (·≠t)).map fun c=>(c,sm c)
 | .pair a b,.pair x y,tk=>DN sm a x tk++DN sm b y (fQ a tk []).2
 |_,_,_=>[]
def aeo(r:List (Nat×Nat)):Bool:=r.all fun p=>r.lookup p.1==some p.2
def Vk(R:Rd):SV->Option (Nat×Nat×TV)
 | .ptr t 0 [] _=>(R.box t).map fun r=>(t,r.1,r.2)
 |_=>none
def vxC(r0:List (Nat×Nat))(l:List Nat)(c:Nat):Nat:=match r0.lookup c with|some k=>if l.contains k then k else 1|none=>1
def nP(R:Rd):(ps:List PK)->List SV->Nat->List (Nat×Nat)->Option (iF (ps.map PK.ty)×List (Nat×Nat)×List (Nat×Nat))
 | [],[],_,_=>some ((),[],[])
 | .val τ p::ps,.d v::as,tk,r0=>match OP v τ,nP R ps as (fQ p tk []).2 (r0++DN (fun _=>1) p v.sh tk)with
   |some x,some (xs,rho,bs)=>if PZ p v.sh then some ((x,xs),DN (fun _=>1) p v.sh tk++rho,bs)else none
   |_,_=>none
 | .io τ p::ps,a::as,tk,r0=>match Vk R a with
   |some (t,s,v)=>(match OP v τ,nP R ps as (fQ p (tk+1) []).2 (r0++(t,tk)::DN (fun _=>1) p v.sh (tk+1))with
    |some x,some (xs,rho,bs)=>if PZ p v.sh then some ((x,xs),(t,tk)::DN (fun _=>1) p v.sh (tk+1)++rho,(t,s)::bs)else none
    |_,_=>none)
   |none=>none
 | .rd τ::ps,a::as,tk,r0=>match Vk R a with
   |some (t,_,v)=>(match OP v τ,nP R ps as tk r0 with
    |some x,some (xs,rho,bs)=>if PZ (Yo τ) v.sh then some ((x,xs),(t,1)::DN (fun _=>1) (Yo τ) v.sh tk++rho,bs)else none
    |_,_=>none)
   |none=>none
 | .vx e l::ps,.d v::as,tk,r0=>match OP v (.sl e),nP R ps as tk r0 with
   |some x,some (xs,rho,bs)=>if PZ .shr v.sh then some ((x,xs),DN (vxC r0 l) .shr v.sh tk++rho,bs)else none
   |_,_=>none
 |_,_,_,_=>none
def jh:(rs:List RK)->(rest:List Ty)->iF (rs.map RK.ty++rest)->Nat->List Nat->List SV×iF rest×Nat
 | [],_,r,tk,_=>([],r,tk)
 | .val τ p::rs,rest,r,tk,hs=>let s:=fQ p tk hs;let z:=jh rs rest r.2 s.2 hs;(.d ⟨τ,r.1,s.1⟩::z.1,z.2)
 | .nbox τ p::rs,rest,r,tk,hs=>let s:=fQ p (tk+1) hs;let z:=jh rs rest r.2 s.2 hs;(.box tk ⟨τ,r.1,s.1⟩::z.1,z.2)
def vC(hs:List Nat):(ps:List PK)->iF (lu ps)->List (Nat×Nat)->Nat->List (Nat×Nat×TV)
 | [],_,_,_=>[]
 | .val _ _::ps,r,bs,tk=>vC hs ps r bs tk
 | .io τ p::ps,r,(t,s)::bs,tk=>let z:=fQ p tk hs;(t,s,⟨τ,r.1,z.1⟩)::vC hs ps r.2 bs z.2
 | .io _ _::_,_,[],_=>[]
 | .rd _::ps,r,bs,tk| .vx _ _::ps,r,bs,tk=>vC hs ps r bs tk
def zX:List RK->Nat->Nat
 | [],tk=>tk
 | .val _ p::rs,tk=>zX rs (fQ p tk []).2
 | .nbox _ p::rs,tk=>zX rs (fQ p (tk+1) []).2
def Wc:List PK->Nat->Nat
 | [],tk=>tk
 | .val _ _::ps,tk=>Wc ps tk
 | .io _ p::ps,tk=>Wc ps (fQ p tk []).2
 | .rd _::ps,tk| .vx _ _::ps,tk=>Wc ps tk
def eV(p:Pt)(tk:Nat):Nat:=(fQ p tk []).2
/-the tokens with which a function begins-/
def qa:List PK->Nat->Nat
 | [],tk=>tk
 | .val _ p::ps,tk=>qa ps (eV p tk)
 | .io _ p::ps,tk=>qa ps (eV p (tk+1))
 | .rd _::ps,tk| .vx _ _::ps,tk=>qa ps tk
def sr:List PK->Nat->List Nat
 | [],_=>[]
 | .val _ p::ps,tk=>sr ps (eV p tk)
 | .io _ p::ps,tk=>tk::sr ps (eV p (tk+1))
 | .rd _::ps,tk| .vx _ _::ps,tk=>sr ps tk
def vxs:List PK->List Nat
 | []=>[]
 | .vx _ l::ps=>l++vxs ps
 | .val _ _::ps| .io _ _::ps| .rd _::ps=>vxs ps
def afO:List PK->Bool
 | []=>false
 | .rd _::_=>true
 | .val _ _::ps| .io _ _::ps| .vx _ _::ps=>afO ps
def RK.pt:RK->Pt
 | .val _ p| .nbox _ p=>p
def acA:List PK->Bool
 | []=>false
 | .io _ p::ps=>p.Xb||acA ps
 | .val _ _::ps| .rd _::ps| .vx _ _::ps=>acA ps
def ajz(ps:List PK)(rs:List RK):Bool:=
 (vxs ps).all (fun c=>4<=c&&c<qa ps 4&& !(sr ps 4).contains c)&&(!afO ps|| !(rs.any (fun r=>r.pt.Xb)||acA ps))
def Sq:Sh->List Bool->Option Nat
 | .sl (.row t _ _),[]=>some t
 | .pair a _,false::p=>Sq a p
 | .pair _ b,true::p=>Sq b p
 |_,_=>none
def ZU(R:Rd)(bs:List (Nat×Nat))(Io2:List (Nat×Nat×TV))(c:List (Nat×List Bool)):List (Nat×Nat):=
 c.filterMap fun q=>match bs[q.1]?,Io2[q.1]? with
  |some b,some z=>(match R.box b.1 with
   |some r=>(match Sq r.2.sh q.2,Sq z.2.2.sh q.2 with
    |some u,some u'=>some (u,u')
    |_,_=>none)
   |none=>none)
  |_,_=>none
def Wa:List SV->Option (List TV)
 | []=>some []
 | .d v::l=>(Wa l).map (v::·)
 |_=>none
def Tu:List SV->SV
 | [v]=>v
 |l=>match Wa l with|some b=> .tup b|none=> .no
def Us(C:Cx)(R:Rd)(G:Option (Nat×Bool)):List Operand->List TypeId->Option (List SV)
 | [],[]=>some []
 |x::xs,t::ts=>match arg C R G t x,Us C R G xs ts with|some v,some vs=>some (v::vs)|_,_=>none
 |_,_=>none
def adu(C:Cx)(R:Rd)(tk:Nat)(G:Option (Nat×Bool))(f:FuncId)(args:List Operand)(ts:List TypeId):Option Ef:=
 match C.ct f with
 |none=>none
 |some c=>match Us C R G args ts with
  |none=>none
  |some as=>match nP R c.ps as 4 []with
   |none=>none
   |some (xs,rho,bs)=>
    if aeo rho&&Wc c.ps (zX c.rs 0)<=32&&ajz c.ps c.rs then
     let hs:=(2::(rho.filter (·.2=1)).map (·.1)).eraseDups
     let b:=((rho.filter (4<=·.2)).map (·.1)).filter fun c=> !bs.any (·.1=c)
     if bs.isEmpty&&b.isEmpty then
      some (.opt _ (iF.aa _) (c.F xs) (fun r=>Tu (jh c.rs (lu c.ps) r tk hs).1))
     else
      some (.call _ (c.F xs) b (fun r=>
       let z:=jh c.rs (lu c.ps) r tk hs
       (Tu z.1,vC hs c.ps z.2.1 bs z.2.2))
       (fun r=>
        let z:=jh c.rs (lu c.ps) r tk hs
        ZU R bs (vC hs c.ps z.2.1 bs z.2.2) c.kp))
    else none
def aav(ops:List Oper)(c:Operand)(want:Bool):SV->Option SV
 | .g j w _ v=>(match c with| .tmp s=>if w=want&&(ops[j]?).bind (·.dst)=some s then some v else none|_=>none)
 |v=>some v
def kH(C:Cx)(ops:List Oper)(R:Rd)(tk:Nat)(G:Option (Nat×Bool))(o:Oper):Option Ef:=
 match o.op with
 | .move x| .assign x=>(arg C R G o.type x).map .val
 | .pick c a b=>(match arg C R G 0 c,KR C R o.type a,KR C R o.type b with
   |some (.d ⟨.bool,t,_⟩),some a,some b=>
    (match aav ops c true a,aav ops c false b with
    |some (.d ⟨.bool,p,_⟩),some (.d ⟨.bool,q,_⟩)=>some (.val (vB (if t=true then p else q)))
    |_,_=>none)
   |_,_,_=>none)
 | .alloc t=>(C.tt t).map fun i=> .val (.box tk ⟨i.τ,i.τ.aa,NU i.τ (.sha [])⟩)
 | .box t x=>(match C.tt t,vr C R G t x with
   |some i,some v=>if v.τ=i.τ then some (.val (.box tk v))else none
   |_,_=>none)
 | .build t ps=>(match C.tt t with
   |some i=>if i.fs.isEmpty then none else(Ww C R G i ps.toList i.τ.aa (NU i.τ (.sha []))).map fun r=> .val (.d ⟨i.τ,r.1,r.2⟩)
   |none=>none)
 | .buildSlice t n ps=>(match C.tt t with
   |some ⟨.sl e,_,el⟩=>if ps.size=n&&n*e.sz<=16777216 then(X6 C R G el e 0 ps.toList).map fun r=> .val (.d ⟨.sl e,r.1,.sl (apu tk r.2)⟩)else none
   |_=>none)
 | .load t a=>(match C.tt t with
   |none=>none
   |some ti=>match arg C R G 0 a with
    |some (.ptr b o p _)=>(match R.box b with
     |some (_,v)=>(match OI v.τ v.x v.sh p with
      |some r=>if v.τ.off p=o&&r.τ=ti.τ then some (.val (.d r))else none
      |none=>none)
     |none=>none)
    |some (.ept b e i o p _)=>(match R.row b e with
     |some (l,hs,_)=>if e.off p=o&&e.sub p=some ti.τ then(OI e (l.getD i.toNat e.aa) (NU e (.sha (2::hs))) p).map fun r=> .val (.d r)else none
     |none=>none)
    |some (.rdp _ v)=>if v.τ=ti.τ then some (.val (.d v))else none
    |_=>none)
 | .store t a x=>(match C.tt t,arg C R G 0 a,vr C R G t x with
   |some ti,some (.ptr b o p _),some v=>(match R.box b with
    |some (s,u)=>if u.τ.off p=o&&v.τ=ti.τ then(N3 u.τ u.x u.sh p v).map fun r=> .put b s ⟨u.τ,r.1,r.2⟩else none
    |none=>none)
   |some ti,some (.ept b e i o p τ),some v=>(match R.row b e with
    |some (l,hs,nd)=>
     if e.off p=o&&e.sub p=some τ&&v.τ=τ&&v.τ=ti.τ then
      let own:Option (List Nat):=if τ.flat then none else match(M.row b hs nd).own,v.sh.own with
       |some a,some c=>if c.all (!a.contains ·)then some ((a++c).filter (·≠b))else none
       |_,_=>none
      let gv:=own.getD []
      let m:M:=if own.isSome then .row b [b] true else if τ.flat then .row b hs nd else .row b (hs++v.sh.cO).eraseDups false
      if own.isNone&&v.sh.cO.contains b then none else
      (N3 e (l.getD i.toNat e.aa) (NU e (.sha [])) p v).map fun r=> .elem gv b e (l.set i.toNat r.1) m
     else none
    |none=>none)
   |_,_,_=>none)
 | .nilCheck x=>(match arg C R G 0 x with
   |some (.ptr t o p τ)=>some (.val (.ptr t o p τ))
   |some (.ept t e i o p τ)=>some (.val (.ept t e i o p τ))
   |some (.rdp hs v)=>some (.val (.rdp hs v))
   |_=>none)
 | .binOp op t x y u=>(match C.tt t,vr C R G t x,vr C R G u y with|some i,some a,some b=>if a.τ=i.τ then aon op a b else none|_,_,_=>none)
 | .unOp op t x=>(match op,vr C R G t x with
   | .not,some ⟨.bool,b,_⟩=>some (.val (vB !b))
   | .neg,some ⟨.int k,n,_⟩=>some (.val (vI k (k.wrap (0-n))))
   |_,_=>none)
 | .convert s d x=>(match C.tt s with
   |some h=>(match C.tt d,vr C R G s x with
    |some ⟨.int k,_,_⟩,some ⟨.int _,n,_⟩=>some (.val (vI k (k.wrap n)))
    |some ⟨.str,_,_⟩,some ⟨.str,v,_⟩=>some (.val (vS v))
    |some ⟨.str,_,_⟩,some ⟨.sl (.int .u8),l,_⟩=>if h.τ= .sl (.int .u8)then some (.val (vS ⟨(l.map fun n=>UInt8.ofNat n.toNat).toArray⟩))else none
    |_,_=>none)
   |none=>none)
 | .makeSlice t n c=>(match C.tt t,vr C R G 3 n,vr C R G 3 c with
   |some ⟨.sl e,_,_⟩,some ⟨.int .i64,a,_⟩,some ⟨.int .i64,b,_⟩=>some (.chk (decide (0<=a/\a<4294967296/\b=a)) (.d ⟨.sl e,agy a.toNat e.aa,.sl (.row tk [tk] true)⟩))
   |_,_,_=>none)
 | .slice t x lo hi mx=>(match C.tt t with
   |none=>none
   |some ti=>match vr C R G t x,lo.map (vr C R G 3),hi.map (vr C R G 3),mx with
    |some ⟨.sl e,l,.sl m⟩,none,none,none=>if ti.τ= .sl e then some (.val (.d ⟨.sl e,l,.sl (.sha m.cO)⟩))else none
    |some ⟨.sl e,l,.sl m⟩,some (some ⟨.int .i64,a,_⟩),none,none=>if ti.τ= .sl e then some (.chk (decide (0<=a/\a<=l.length)) (.d ⟨.sl e,l.drop a.toNat,.sl (.sha m.cO)⟩))else none
    |some ⟨.sl e,l,.sl m⟩,none,some (some ⟨.int .i64,b,_⟩),none=>if ti.τ= .sl e then some (.chk (decide (0<=b/\b<=l.length)) (.d ⟨.sl e,l.take b.toNat,.sl (.sha m.cO)⟩))else none
    |some ⟨.sl e,l,.sl m⟩,some (some ⟨.int .i64,a,_⟩),some (some ⟨.int .i64,b,_⟩),none=>if ti.τ= .sl e then some (.chk (decide (0<=a/\a<=b/\b<=l.length)) (.d ⟨.sl e,(l.take b.toNat).drop a.toNat,.sl (.sha m.cO)⟩))else none
    |some ⟨.str,s,_⟩,some (some ⟨.int .i64,a,_⟩),none,none=>if ti.τ= .str then some (.chk (decide (0<=a/\a<=s.size)) (vS (s.extract a.toNat s.size)))else none
    |some ⟨.str,s,_⟩,none,some (some ⟨.int .i64,b,_⟩),none=>if ti.τ= .str then some (.chk (decide (0<=b/\b<=s.size)) (vS (s.extract 0 b.toNat)))else none
    |some ⟨.str,s,_⟩,some (some ⟨.int .i64,a,_⟩),some (some ⟨.int .i64,b,_⟩),none=>if ti.τ= .str then some (.chk (decide (0<=a/\a<=b/\b<=s.size)) (vS (s.extract a.toNat b.toNat)))else none
    |_,_,_,_=>none)
 | .fieldAddr s x j=>(match C.tt s with
   |none=>none
   |some i=>if j<i.fs.length then
    (match i.τ.sub (nu i.fs.length j),arg C R G 0 x with
    |some σ,some (.ptr t o p τ)=>if τ=i.τ then some (.val (.ptr t (o+i.τ.off (nu i.fs.length j)) (p++nu i.fs.length j) σ))else none
    |some σ,some (.ept t e n o p τ)=>if τ=i.τ then some (.val (.ept t e n (o+i.τ.off (nu i.fs.length j)) (p++nu i.fs.length j) σ))else none
    |some _,some (.rdp hs v)=>if v.τ=i.τ then(OI v.τ v.x v.sh (nu i.fs.length j)).map fun r=> .val (.rdp hs r)else none
    |_,_=>none)else none)
 | .field s x j=>(match C.tt s,vr C R G s x with
   |some i,some v=>if v.τ=i.τ&&j<i.fs.length then(OI v.τ v.x v.sh (nu i.fs.length j)).map fun r=> .val (.d r)else none
   |_,_=>none)
 | .indexAddr t x n=>(match C.tt t,vr C R G t x,vr C R G 3 n with
   |some ti,some ⟨.sl e,l,.sl (.row u _ _)⟩,some ⟨.int _,i,_⟩=>if ti.τ= .sl e then some (.chk (decide (0<=i/\i<l.length)) (.ept u e i 0 [] e))else none
   |some ti,some ⟨.sl e,l,.sl (.sha hs)⟩,some ⟨.int _,i,_⟩=>if ti.τ= .sl e then some (.chk (decide (0<=i/\i<l.length)) (.rdp hs ⟨e,l.getD i.toNat e.aa,NU e (.sha (2::hs))⟩))else none
   |_,_,_=>none)
 | .index t x n=>(match C.tt t,vr C R G t x,vr C R G 3 n with
   |some ti,some ⟨.str,s,_⟩,some ⟨.int _,i,_⟩=>if ti.τ= .str then some (.chk (decide (0<=i/\i<s.size)) (vI .u8 (bt s i)))else none
   |_,_,_=>none)
 | .extract x j=>(match arg C R G 0 x with
   |some (.tup l)=>(l[j]?).map fun v=> .val (.d v)
   |_=>none)
 | .call c=>(match c.callee with
   | .builtin b=>UU C R tk G b c.args.toList c.argTypes.toList
   | .value (.func f)=>adu C R tk G f c.args.toList c.argTypes.toList
   |_=>none)
 |_=>none
def aoM(ops:List Oper)(d:Option Nat):Bool:=
 ops.any fun q=>match q.op,d with
  | .call c,some d=>(match c.callee,c.args.toList with| .builtin .append,[.tmp x,_]=>x=d|_,_=>false)
  |_,_=>false
def V4(C:Cx)(ops:List Oper)(R:Rd)(tk:Nat)(o:Oper):Option Ef:=
 match o.op with
 | .load t a=>(match C.tt t,arg C R none 0 a with
   |some ti,some (.ept b e i off p _)=>(match R.row b e with
    |some (l,hs,nd)=>if nd&&hs.all (·=b)&&aoM ops o.dst&&e.off p=off&&e.sub p=some ti.τ then
     (match OI e (l.getD i.toNat e.aa) (NU e (.sha [b])) p with
     |some ⟨.sl σ,x,_⟩=>some (.val (.d ⟨.sl σ,x,.sl (.nst b e i off p true)⟩))
     |_=>none)else none
    |none=>none)
   |_,_=>none)
 | .store t a x=>(match C.tt t,arg C R none 0 a,vr C R none t x with
   |some ti,some (.ept b e i off p τ),some ⟨.sl σ,y,.sl (.nst b' e' i' off' p' _)⟩=>(match R.row b e with
    |some (l,hs,nd)=>if nd&&hs.all (·=b)&&b'=b&&e'=e&&off'=off&&p'=p&&e.off p=off&&e.sub p=some τ&&Ty.sl σ=τ&&τ=ti.τ then
     (N3 e (l.getD i.toNat e.aa) (NU e (.sha [])) p ⟨.sl σ,y,.sl (.sha [])⟩).map fun r=> .nap (decide (i=i')) [] b e (l.set i.toNat r.1) (.row b [b] true) .no
     else none
    |none=>none)
   |_,_,_=>none)
 | .call c=>(match c.callee,c.args.toList,c.argTypes.toList with
   | .builtin .append,[x,y],[t,u]=>(match C.tt t,vr C R none t x,vr C R none u y with
     |some ti,some ⟨.sl e,l,.sl (.nst b E i off p true)⟩,some ⟨.sl e',l',.sl m'⟩=>(match OP ⟨.sl e',l',.leaf⟩ (.sl e),R.row b E,m'.own with
      |some l2,some (L,hs,nd),some ys=>if nd&&hs.all (·=b)&& !ys.contains b&&ti.τ= .sl e&&u=t then
       some (.nap (decide (l.length+l2.length<4294967296)) (tk::ys) b E L (.row b [b] true) (.d ⟨.sl e,l++l2,.sl (.nst b E i off p false)⟩))else none
      |_,_,_=>none)
     |_,_,_=>none)
   |_,_,_=>none)
 |_=>none
def S7(C:Cx)(ops:List Oper)(R:Rd)(tk:Nat)(G:Option (Nat×Bool))(o:Oper):Option Ef:=
 match G with
 |none=>(match V4 C ops R tk o with|some b=>some b|none=>kH C ops R tk none o)
 |some g=>kH C ops R tk (some g) o
def guardOf(ops:List Oper)(R:Rd):Option (Nat×Bool)->Option (Option Bool)
 |none=>some none
 |some (j,w)=>match(ops[j]?).bind (·.dst)with
  |none=>none
  |some s=>match R.get s with
   | .d ⟨.bool,b,_⟩=>some (some (b==w))
   | .g _ _ a (.d ⟨.bool,b,_⟩)=>some (some (a&&(b==w)))
   |_=>none
def SV.ye:SV->Bool
 | .box _ _=>true
 |_=>false
def SV.Q6:SV->SV
 | .g _ _ _ _=> .no
 |v=>v
def Ap(G:Option (Nat×Bool))(a:Option Bool)(v:SV):SV:=
 match G,a with|some (j,w),some b=>if v.ye then .no else .g j w b v|_,_=>v.Q6
def od:List (Nat×Nat×TV)->List SV->List SV
 | [],E=>E
 |(t,s,v)::l,E=>od l (E.set s (.box t v))
def Env.elem(E:Env)(gv:List Nat)(b:Nat)(e:Ty)(l:List e.den)(m:M):Env:=
 {E with s:=E.s.map fun s=>((s.fv gv b).og b).setRow b e l m}
section
variable{ρ:Type}
def kc(o:Oper)(a:Option Bool)(E:Env)(k:Env->Option ρ):Ef->Option ρ
 | .val v=>k (E.set o.dst (Ap o.guard a v))
 | .chk c v=>if(match a with|none=>c|some b=> !b||c)=true then k (E.set o.dst (Ap o.guard a v))else none
 | .opt _ z x f=>(match a with|none=>x|some b=>if b=true then x else some z).bind fun r=>k (E.set o.dst (Ap o.guard a (f r)))
 | .put b s v=>if a.isNone&&o.dst.isNone then k {E with s:=E.s.set s (.box b v)}else none
 | .app c kl gv t v=>if a.isNone then(if c=true then k (((E.kill kl).fv gv t).set o.dst v.Q6)else none)else none
 | .elem gv b e l m=>if a.isNone&&o.dst.isNone then k (E.elem gv b e l m)else none
 | .nap c gv b e l m v=>if a.isNone then(if c=true then k ((E.elem gv b e l m).set o.dst v.Q6)else none)else none
 | .call _ x tks f rp=>if a.isNone then x.bind fun r=>let E1:=E.qn tks (rp r);k (Env.set {E1 with s:=od (f r).2 E1.s} o.dst (f r).1.Q6)else none
end
def Rh(ops:List Oper):Bool:=
 ops.zipIdx.all fun p=>match p.1.guard with
  |none=>true
  |some (j,_)=>j<p.2&&match(ops[j]?).bind (·.dst)with
   |none=>false
   |some d=>ops.zipIdx.all fun q=>q.2=j||q.1.dst≠some d
def keeps(io:List Nat)(ops:List Oper):Bool:=ops.all fun o=>match o.dst with|some d=> !io.contains d|none=>true
def WX(E:Env)(ops:List Oper):Env:=
 if ops.all (·.guard.isNone)then E else {E with s:=E.s.map SV.Q6}
section
variable{ρ:Type}
def aM{σ:Type}:Nat->((σ->Option ρ)->σ->Option ρ)->σ->Option ρ
 |0,_,_=>none
 |n+1,f,s=>f (aM n f) s
def aN{σ:Type}(a:(σ->Option ρ)->Option ρ)(b:σ->Option ρ):Option ρ:=a b
end
inductive Tr:Type 1 where
 |id
 |kg (kl gv:List Nat) (t:Nat)
 |el (gv:List Nat) (b:Nat) (e:Ty) (l:List e.den) (m:M)
 |ki (ts:List Nat) (rp:List (Nat×Nat))
def CE(ts:List Nat)(v:SV):SV:=if ts.isEmpty then v else v.kill ts
def Sk(ts:List Nat)(t:Nat)(v:SV):SV:=if ts.isEmpty then v else v.fv ts t
def Tr.sv:Tr->SV->SV
 | .id=>fun v=>v
 | .kg ks gv t=>fun v=>Sk gv t (CE ks v)
 | .el gv b e l m=>fun v=>((v.fv gv b).og b).setRow b e l m
 | .ki ts rp=>fun v=>if rp.isEmpty then CE ts v else v.qn ts rp
def Tr.VV:Tr->Bool
 | .id=>true
 | .kg ks gv _=>ks.isEmpty&&gv.isEmpty
 | .ki ts rp=>ts.isEmpty&&rp.isEmpty
 |_=>false
def Tr.IF:Tr->List Nat
 | .id=>[]
 | .kg ks gv t=>t::(ks++gv)
 | .el gv b _ _ _=>b::gv
 | .ki ts rp=>ts++(rp.map (·.1)++rp.map (·.2))
def Tr.UI:Tr->List Nat
 | .id=>[]
 | .kg ks gv t=>t::(ks++gv)
 | .el gv _ _ _ _=>gv
 | .ki ts rp=>ts++(rp.map (·.1)++rp.map (·.2))
def Tr.ok:Tr->Bool
 | .el _ b _ _ m=>m.cO.contains b
 |_=>true
def wr(d:Option Nat)(v:SV):List (Nat×SV):=match d with|some d=>[(d,v)]|none=>[]
def PG(o:Oper)(a:Option Bool):Ef->Option (Tr×List (Nat×SV))
 | .val v=>some (.id,wr o.dst (Ap o.guard a v))
 | .chk c v=>if(match a with|none=>c|some b=> !b||c)=true then some (.id,wr o.dst (Ap o.guard a v))else none
 | .opt _ z x f=>(match a with|none=>x|some b=>if b=true then x else some z).bind fun r=>some (.id,wr o.dst (Ap o.guard a (f r)))
 | .put b s v=>if a.isNone&&o.dst.isNone then some (.id,[(s,.box b v)])else none
 | .app c kl gv t v=>if a.isNone then(if c=true then some (.kg kl gv t,wr o.dst v.Q6)else none)else none
 | .elem gv b e l m=>if a.isNone&&o.dst.isNone then some (.el gv b e l m,[])else none
 | .nap c gv b e l m v=>if a.isNone then(if c=true then some (.el gv b e l m,wr o.dst v.Q6)else none)else none
 | .call _ x tks f rp=>if a.isNone then x.bind fun r=>some (.ki tks (rp r),(f r).2.map (fun p=>(p.2.1,SV.box p.1 p.2.2))++wr o.dst (f r).1.Q6)else none
def Wf{ρ:Type}(o:Oper)(a:Option Bool)(d:Ef)(k:Tr×List (Nat×SV)->Option ρ):Option ρ:=
 match d with
 | .val v=>k (.id,wr o.dst (Ap o.guard a v))
 | .chk c v=>if(match a with|none=>c|some b=> !b||c)=true then k (.id,wr o.dst (Ap o.guard a v))else none
 | .opt _ z x f=>(match a with|none=>x|some b=>if b=true then x else some z).bind fun r=>k (.id,wr o.dst (Ap o.guard a (f r)))
 | .put b s v=>if a.isNone&&o.dst.isNone then k (.id,[(s,.box b v)])else none
 | .app c kl gv t v=>if a.isNone then(if c=true then k (.kg kl gv t,wr o.dst v.Q6)else none)else none
 | .elem gv b e l m=>if a.isNone&&o.dst.isNone then k (.el gv b e l m,[])else none
 | .nap c gv b e l m v=>if a.isNone then(if c=true then k (.el gv b e l m,wr o.dst v.Q6)else none)else none
 | .call _ x tks f rp=>if a.isNone then x.bind fun r=>k (.ki tks (rp r),(f r).2.map (fun p=>(p.2.1,SV.box p.1 p.2.2))++wr o.dst (f r).1.Q6)else none
def C6(ws:List (Nat×SV))(L:List SV):List SV:=ws.foldl (fun L p=>L.set p.1 p.2) L
def Env.MQ(E:Env)(r:Tr×List (Nat×SV)):Env:={E with s:=C6 r.2 (E.s.map r.1.sv)}
def SV.Br:SV->List Nat
 | .no=>[]
 | .d v=>v.sh.cO
 | .box t v=>t::v.sh.cO
 | .ptr t _ _ _=>[t]
 | .ept t _ _ _ _ _=>[t]
 | .rdp hs v=>hs++v.sh.cO
 | .tup l=>l.flatMap fun v=>v.sh.cO
 | .g _ _ _ v=>v.Br
def SV.clean:SV->Bool
 | .no=>false
 | .d v| .box _ v| .rdp _ v=>v.sh.live
 | .tup l=>l.all fun v=>v.sh.live
 | .g _ _ _ v=>v.clean
 |_=>true
def tmpsOf(o:Oper):List Nat:=o.op.operands.toList.filterMap fun| .tmp s=>some s|_=>none
def SV.strip:SV->SV
 | .g _ _ _ v=>v
 |v=>v
def Q8(ops:List Oper)(o:Oper):List Nat:=
 tmpsOf o++(match o.guard with|some (j,_)=>((ops[j]?).bind (·.dst)).toList|none=>[])
def YS(E:Env)(o:Oper):List Nat:=(tmpsOf o).filterMap fun s=>match(E.rd.get s).strip with| .ptr b _ _ _=>some b|_=>none
def ajX:SV->Option (Nat×Ty)
 | .ept b e _ _ _ _=>some (b,e)
 | .d ⟨_,_,.sl (.nst b e _ _ _ _)⟩=>some (b,e)
 |_=>none
def Yl(E:Env)(o:Oper):List (Nat×Ty):=(tmpsOf o).filterMap fun s=>ajX (E.rd.get s).strip
def CR(t:Nat)(e:Ty):List SV->Nat->Option Nat
 | [],_=>none
 | .d v::l,i| .box _ v::l,i=>if(OA t e v.τ v.x v.sh).isSome then some i else CR t e l (i+1)
 |_::l,i=>CR t e l (i+1)
def Ud(v q:SV):Bool:=
 match v with
 | .no| .ept _ _ _ _ _ _| .rdp _ _=>true
 | .box t _=>(match q with| .box t' _=>t=t'|_=>false)
 |v=>v.clean&&v.Br.isEmpty
def AB(o:Oper):Bool:=match o.op with| .move _| .assign _| .nilCheck _| .fieldAddr _ _ _=>false|_=>true
def SV.XH:SV->List Nat
 | .ept t _ _ _ _ _=>[t]
 |_=>[]
def SV.Zz:SV->List Nat
 | .ept _ _ _ _ _ _=>[]
 |v=>v.Br
structure zF:Type 1 where
 i:Nat
 rs:List Nat
 ra:List Nat
 te:List Nat
 tk:List Nat
 cl:Bool
 bx:List Nat
 rw:List (Nat×Nat)
 fd:Bool
 dz:Bool
 T:Tr
 ws:List (Nat×SV)
 nb:List Nat
 cp:Option (Nat×Nat×Option Nat×Bool)
def sameBox(v q:SV):Bool:=match v,q with| .box t u,.box t' u'=>t=t'&&u.τ=u'.τ|_,_=>false
def ajZ(o:Oper):Option (Nat×Nat×Option Nat):=
 match o.guard,o.dst with
 |none,some d=>(match o.op with
  | .move (.tmp s)| .assign (.tmp s)=>some (d,s,none)
  | .extract (.tmp s) j=>some (d,s,some j)
  |_=>none)
 |_,_=>none
def XS(j:Option Nat)(v:SV):Option SV:=
 match j with
 |none=>(match v with| .g _ _ _ _=>none|v=>some (pr v))
 |some j=>(match v with| .tup l=>(l[j]?).map .d|_=>none)
def cpE:SV->Bool
 | .d v=>v.τ.flat
 | .no| .ptr _ _ _ _| .ept _ _ _ _ _ _| .rdp _ _=>true
 |_=>false
def Hq(ops:List Oper)(i:Nat)(o:Oper)(E:Env)(r:Tr×List (Nat×SV)):zF:=
 let b:=if AB o=true then YS E o else []
 let q:=if AB o=true then Yl E o else []
 let rw:=q.filterMap fun p=>(CR p.1 p.2 E.s 0).map fun s=>(p.1,s)
 let c:=(Q8 ops o).filter fun s=>(E.get s).ye
 let rs:=(Q8 ops o).filter (fun s=> !(E.get s).ye)++b.filterMap (fun t=>(zG E.s t 0).map (·.1))++rw.map (·.2)
 ⟨i,rs,c,rs.flatMap fun s=>(E.get s).XH,rs.flatMap fun s=>(E.get s).Zz,rs.all fun s=>(E.get s).clean,b,rw,
   rw.length=q.length&&b.all (fun t=>(zG E.s t 0).isSome),
   r.2.all (fun p=>Ud (E.get p.1) p.2),r.1,r.2,(r.2.filter fun p=> !sameBox (E.get p.1) p.2).map (·.1),none⟩
def YX(ops:List Oper)(i:Nat)(o:Oper)(E:Env)(r:Tr×List (Nat×SV)):zF:=
 match ajZ o with
 |some (d,s,j)=>⟨i,[],[],[],[],true,[],[],true,Ud (E.get d) .no,.id,[],[],some (d,s,j,match XS j (E.get s)with|some x=>cpE x|none=>false)⟩
 |none=>Hq ops i o E r
def zF.free(a b:zF):Bool:=
 a.ws.all (fun p=> !b.rs.contains p.1&& !b.ra.contains p.1&&b.ws.all (fun q=>q.1≠p.1)&&
  (match p.2 with| .box t _=> !b.bx.contains t|_=>true)&&b.rw.all (fun q=>q.2<p.1|| !(p.2.ye||p.2.Br.contains q.1)))&&
 (a.T.VV||(b.rw.isEmpty&&b.tk.all (!a.T.IF.contains ·)&&b.te.all (!a.T.UI.contains ·)&&b.ws.all fun p=>p.2.Zz.all (!a.T.IF.contains ·)&&p.2.XH.all (!a.T.UI.contains ·)))
def Tr.al5:Tr->Bool
 | .el _ _ _ _ _=>false
 |_=>true
def zF.alW(a b:zF):Bool:=
 a.ws.all (fun p=> !b.rs.contains p.1&& !b.ra.contains p.1&&b.ws.all (fun q=>q.1≠p.1)&&
  (match p.2 with| .box t _=> !b.bx.contains t|_=>true)&&b.rw.all (fun q=>q.2<p.1|| !p.2.Br.contains q.1))&&
 (a.T.VV||((b.rw.isEmpty||a.T.al5)&&b.tk.all (!a.T.IF.contains ·)&&b.te.all (!a.T.UI.contains ·)&&b.ws.all fun p=>p.2.Zz.all (!a.T.IF.contains ·)&&p.2.XH.all (!a.T.UI.contains ·)))
def zF.ind(a b:zF):Bool:=
 a.free b&&b.alW a&&(a.T.VV||b.T.VV)&&a.T.ok&&b.T.ok&&(a.T.VV||b.cl)&&a.fd&&b.fd&&a.dz&&b.dz&&(a.T.VV||a.rw.isEmpty)
def zF.aac(d s:Nat)(e z:Bool)(b:zF):Bool:=
 z&& !b.rs.contains d&& !b.ra.contains d&&b.ws.all (fun q=>q.1≠d)&& !b.nb.contains s&&b.rw.all (fun q=>e||q.2<d)&&b.fd&&b.dz&&b.T.ok
def zF.aiD(a b:zF):Bool:=
 match a.cp,b.cp with
 |none,none=>a.ind b
 |some (d,s,_,e),none=>zF.aac d s e a.dz b
 |none,some (d,s,_,e)=>zF.aac d s e b.dz a
 |some (d,s,_,_),some (d',s',_,_)=>d≠d'&&s≠d'&&s'≠d
/-where ways meet-/
abbrev Ren:=List (Nat×Nat)
def aiu(r:Ren)(t c:Nat):Option Ren:=
 match r.lookup t with
 |some b=>if c=b then some r else none
 |none=>if r.any (fun p=>p.2=c)then none else some ((t,c)::r)
def ajH(c:Nat):Nat:=1000000000+c
def bindM(r:Ren):M->M->Option Ren
 | .row t _ _,.row c _ _=>aiu r t c
 | .sha [],.row c _ _=>aiu r (ajH c) c
 | .row _ _ _,.sha _=>some r
 | .sha _,.sha _=>some r
 |_,.dead=>some r
 |_,_=>none
def adK(r:Ren):Sh->Sh->Option Ren
 | .leaf,.leaf=>some r
 | .sl m,.sl m'=>bindM r m m'
 | .pair a b,.pair a' b'=>(adK r a a').bind fun r=>adK r b b'
 |_,_=>none
def S0(r:Ren)(h:Nat):Nat:=if h<=3 then h else(r.lookup h).getD 2
def okM(r:Ren):M->M->Bool
 | .row t hs nd,.row c hc nd'=>r.lookup t=some c&&(!nd'||nd)&&hs.all fun h=>hc.contains (S0 r h)
 | .sha [],.row c _ _=>r.lookup (ajH c)=some c
 | .row t hs _,.sha hc=>(t::hs).all fun h=>hc.contains (S0 r h)
 | .sha hs,.sha hc=>hs.all fun h=>hc.contains (S0 r h)
 |_,.dead=>true
 |_,_=>false
def aef(r:Ren):Sh->Sh->Bool
 | .leaf,.leaf=>true
 | .sl m,.sl m'=>okM r m m'
 | .pair a b,.pair a' b'=>aef r a a'&&aef r b b'
 |_,_=>false
def apo(E:Env)(r:Ren)(s:Nat):AK->Option Ren
 | .val _ sh=>match E.get s with| .d v=>adK r v.sh sh|_=>none
 | .box c _ sh=>match E.get s with| .box t v=>(aiu r t c).bind fun r=>adK r v.sh sh|_=>none
 | .ptr _ _ _ _=>some r
 | .ept _ _ _ _ _=>some r
 | .rdp _ _ sh=>match E.get s with| .rdp _ v=>adK r v.sh sh|_=>none
def ale(E:Env):Ren->List (Nat×AK)->Option Ren
 |r,[]=>some r
 |r,(s,a)::l=>(apo E r s a).bind fun r=>ale E r l
def iF.app:(a:List Ty)->(b:List Ty)->iF a->iF b->iF (a++b)
 | [],_,_,y=>y
 |_::a,b,x,y=>(x.1,iF.app a b x.2 y)
def iF.fst:(a:List Ty)->(b:List Ty)->iF (a++b)->iF a
 | [],_,_=>()
 |_::a,b,x=>(x.1,iF.fst a b x.2)
def iF.snd:(a:List Ty)->(b:List Ty)->iF (a++b)->iF b
 | [],_,x=>x
 |_::a,b,x=>iF.snd a b x.2
def YF(E:Env)(r:Ren)(s:Nat):(a:AK)->Option (iF a.tys)
 | .val τ sh=>match E.get s with
   | .d v=>if aef r v.sh sh then(match OP v τ with|some x=>some (x,())|none=>none)else none
   |_=>none
 | .box c τ sh=>match E.get s with
   | .box t v=>if aef r v.sh sh&&r.lookup t=some c then(match OP v τ with|some x=>some (x,())|none=>none)else none
   |_=>none
 | .ptr c o p τ=>match E.get s with
   | .ptr t o' p' τ'=>if r.lookup t=some c&&o'=o&&p'=p&&τ'=τ then some ()else none
   |_=>none
 | .ept c e o p τ=>match E.get s with
   | .ept t e' i o' p' τ'=>if r.lookup t=some c&&e'=e&&o'=o&&p'=p&&τ'=τ then some (i,())else none
   |_=>none
 | .rdp hs τ sh=>match E.get s with
   | .rdp hs' v=>if aef r v.sh sh&&hs'.all (fun h=>hs.contains (S0 r h))then(match OP v τ with|some x=>some (x,())|none=>none)else none
   |_=>none
def UL:List (Nat×AK)->List Ty
 | []=>[]
 |(_,a)::l=>a.tys++UL l
def aet(E:Env)(r:Ren):(l:List (Nat×AK))->Option (iF (UL l))
 | []=>some ()
 |(s,a)::l=>match YF E r s a,aet E r l with
  |some x,some y=>some (iF.app a.tys (UL l) x y)
  |_,_=>none
def AK.bt:AK->List Nat
 | .box c _ _| .ptr c _ _ _=>[c]
 |_=>[]
def AK.sc:AK->List Nat
 | .val _ sh| .box _ _ sh=>sh.cO
 | .ept c _ _ _ _=>[c]
 | .rdp hs _ sh=>hs++sh.cO
 |_=>[]
def aoH(a:Ua):Bool:=
 let b:=a.ks.flatMap fun p=>p.2.bt
 let c:=a.ks.flatMap fun p=>p.2.sc
 let s:=a.ks.map (·.1)
 4<=a.nt&&b.all (fun x=>0<x&&x<a.nt&&x≠2&&x≠3)&&c.all (fun x=>0<x&&x<a.nt&& !b.contains x)&&s.eraseDups.length=s.length
def Zv(r:Ren)(b:Nat):Bool:=r.all fun p=>4<=p.2&&p.2<b&&r.find? (·.2=p.2)==some p
def proj(a:Ua)(E:Env):Option (iF (UL a.ks)):=
 match ale E [] a.ks with
 |some r=>if E.nt<=1000000000&&aoH a&&Zv r a.nt then aet E r a.ks else none
 |none=>none
def VX:(a:AK)->iF a.tys->SV
 | .val τ sh,x=> .d ⟨τ,x.1,sh⟩
 | .box c τ sh,x=> .box c ⟨τ,x.1,sh⟩
 | .ptr c o p τ,_=> .ptr c o p τ
 | .ept c e o p τ,x=> .ept c e x.1 o p τ
 | .rdp hs τ sh,x=> .rdp hs ⟨τ,x.1,sh⟩
def Ui:(l:List (Nat×AK))->iF (UL l)->List SV->List SV
 | [],_,E=>E
 |(s,a)::l,x,E=>Ui l (iF.snd a.tys (UL l) x) (E.set s (VX a (iF.fst a.tys (UL l) x)))
def R1(n:Nat)(a:Ua)(x:iF (UL a.ks)):Env:=⟨Ui a.ks x (agy n .no),a.nt,false⟩
def Xn:Code->Option Nat
 | .region id _ _=>some id
 | .seq a _=>Xn a
 | .block _ c=>Xn c
 | .loop c=>Xn c
 | .scope c=>Xn c
 |_=>none
/-regions that draw their order-/
def ae4(ops:List Oper):List Nat:=
 ops.foldl (fun acc o=>
  acc++[((o.after.toList.filter (Region.binds .any)).map (·.on)).foldl (fun m j=>m ||| (2^j ||| acc.getD j 0)) 0]) []
def aar(ops:List Oper)(c:List zF):Bool:=
 let B:=ae4 ops
 (ops.zipIdx.all fun p=>(match p.1.guard with|some (j,_)=>(B.getD p.2 0).testBit j|none=>true)&&p.1.after.toList.all fun e=> !Region.binds .any e||e.on<p.2)&&
 c.all fun b=>c.all fun a=>b.i<=a.i||(B.getD b.i 0).testBit a.i||a.aiD b
section
variable{ρ:Type}
def aal(C:Cx)(ops:List Oper)(b:Nat):List Oper->Nat->Env->List zF->(Env->List zF->Option ρ)->Option ρ
 | [],_,E,L,k=>k E L
 |o::l,i,E,L,k=>match guardOf ops E.rd o.guard with
  |none=>none
  |some a=>match S7 C ops E.rd (b+32*i) o.guard o with
   |none=>none
   |some c=>Wf o a c fun r=>aal C ops b l (i+1) (E.MQ r) (YX ops i o E r::L) k
end
/-whole functions-/
def ql:(ps:List PK)->iF (ps.map PK.ty)->Nat->List SV×Nat
 | [],_,tk=>([],tk)
 | .val τ p::ps,x,tk=>let s:=fQ p tk [1];let r:=ql ps x.2 s.2;(.d ⟨τ,x.1,s.1⟩::r.1,r.2)
 | .io τ p::ps,x,tk=>let s:=fQ p (tk+1) [1];let r:=ql ps x.2 s.2;(.box tk ⟨τ,x.1,s.1⟩::r.1,r.2)
 | .rd τ::ps,x,tk=>let r:=ql ps x.2 tk;(.rdp [1] ⟨τ,x.1,(fQ (Yo τ) tk [1]).1⟩::r.1,r.2)
 | .vx e l::ps,x,tk=>let r:=ql ps x.2 tk;(.d ⟨.sl e,x.1,.sl (.sha (1::l))⟩::r.1,r.2)
def Yd(c:Nat):Nat:=if c=1 then 1 else 2
def ago:Pt->Sh->List Nat
 | .shr,.sl m=>m.cO
 | .hd,.sl (.row _ hs _)=>hs
 | .pair a b,.pair x y=>ago a x++ago b y
 |_,_=>[]
def ahE(p:Pt)(s:Sh):Bool:= !(ago p s).contains 3
def Zr(c:TypeId->Option TI)(E:Env):(rs:List RK)->List ResultVar->Nat->Option (iF (rs.map RK.ty)×List (Nat×Nat)×Nat)
 | [],[],tk=>some ((),[],tk)
 | .val τ p::rs,v::vs,tk=>match(match v with| .tmp s=>(match E.get s with| .d t=>some t|_=>none)| .cell s ty=>(match E.get s,c ty with| .box _ t,some i=>if i.τ=t.τ then some t else none|_,_=>none))with
   |none=>none
   |some t=>match OP t τ,Zr c E rs vs (fQ p tk []).2 with
    |some x,some (xs,rho,tk')=>if PZ p t.sh&&ahE p t.sh then some ((x,xs),DN Yd p t.sh tk++rho,tk')else none
    |_,_=>none
 | .nbox τ p::rs,.tmp s::vs,tk=>match Vk E.rd (E.rd.get s)with
   |none=>none
   |some (b,_,t)=>match OP t τ,Zr c E rs vs (fQ p (tk+1) []).2 with
    |some x,some (xs,rho,tk')=>if PZ p t.sh&&ahE p t.sh then some ((x,xs),(b,tk)::DN Yd p t.sh (tk+1)++rho,tk')else none
    |_,_=>none
 |_,_,_=>none
def acT(E:Env):(ps:List PK)->Nat->Nat->Nat->Option (iF (lu ps)×List (Nat×Nat))
 | [],_,_,_=>some ((),[])
 | .val _ p::ps,i,te,tk=>acT E ps (i+1) (fQ p te []).2 tk
 | .io τ p::ps,i,te,tk=>match E.get i,acT E ps (i+1) (fQ p (te+1) []).2 (fQ p tk []).2 with
   | .box b v,some (xs,rho)=>(match OP v τ with
     |some x=>if PZ p v.sh&&ahE p v.sh&&b=te then some ((x,xs),(b,te)::DN Yd p v.sh tk++rho)else none
     |none=>none)
   |_,_=>none
 | .rd _::ps,i,te,tk| .vx _ _::ps,i,te,tk=>acT E ps (i+1) te tk
def RB:List PK->Nat->List Nat
 | [],_=>[]
 | .val _ _::ps,i=>RB ps (i+1)
 | .io _ _::ps,i=>i::RB ps (i+1)
 | .rd _::ps,i| .vx _ _::ps,i=>RB ps (i+1)
def WA:List PK->Nat->Nat->List (Nat×Ty×Sh)
 | [],_,_=>[]
 | .val _ p::ps,i,te=>WA ps (i+1) (eV p te)
 | .io τ p::ps,i,te=>(i,τ,(fQ p (te+1) [1]).1)::WA ps (i+1) (eV p (te+1))
 | .rd _::ps,i,te| .vx _ _::ps,i,te=>WA ps (i+1) te
def am1(E:Env)(ps:List PK)(b:List (Nat×List Bool)):Bool:=
 b.isEmpty||E.kp&&b.all fun q=>match(WA ps 0 4)[q.1]? with
  |some (i,τ,sh)=>(match E.get i,Sq sh q.2 with
   | .box _ v,some u=>v.τ=τ&&Sq v.sh q.2==some u
   |_,_=>false)
  |none=>false
def fin(b:TypeId->Option TI)(ps:List PK)(rs:List RK)(c:List (Nat×List Bool))(d:List ResultVar)(e:Nat)(E:Env):Option (iF (rs.map RK.ty++lu ps)):=
 match Zr b E rs d e with
 |some (xs,rho,tk)=>(match acT E ps 0 4 tk with
  |some (ys,rho')=>if aeo (rho++rho')&&am1 E ps c then some (iF.app _ _ xs ys)else none
  |none=>none)
 |none=>none
structure Gh where
 col:Nat->Nat
 hdr:Nat->Value
 bx:Nat->Bool
theorem Bk.one{α:Type}{w:World}{sz:Nat}{R:α->List Value->List Nat->Prop}{l:List α}{v:Value}{B:List Nat}
 (h:Bk w sz R l v B):v.oneCell'=true:=by
 rcases h with h|⟨b,off,cap,c,el,fz,Bs,rfl,_⟩;obtain⟨ao,e⟩:=h.1;rw[e];rfl;rfl
theorem Bk.mono{w w':World}{e:Ty}{l:List e.den}{v:Value}{B:List Nat}(c:∀b∈B,w'.heap[b]?=w.heap[b]?)
 (h:Bk w e.sz (fl w e) l v B):Bk w' e.sz (fl w' e) l v B:=by
 have:fl w' (.sl e) l [v] B:=fl.mono c ⟨v,rfl,h⟩;obtain⟨v',o,h⟩:=this;cases o;exact h
def wJ(o:Nat)(b c:List Value):List Value:=c.take o++b++c.drop (o+b.length)
def apX(w:World)(G:Gh)(v:Value)(b:Nat)(E:Ty)(i:Int)(o:Nat)(fr:Bool):Prop:=
 4<=b/\0<=i/\∃(d off n cap:Nat) (c:Array Value) (el:TypeId) (L:List E.den) (e:List Nat),
  G.hdr b= .slice (some ⟨d,off,none⟩) n cap/\n<=cap/\G.col d=b/\w.heap[d]?=some (.cells c el (0,0))/\off+cap*E.sz<=c.size/\i<n/\o+1<=E.sz/\L.length=n/\
  fN (fl w E) L (wJ (i.toNat*E.sz+o) [v] ((c.toList.drop off).take (n*E.sz))) e/\(d::e).Nodup/\(∀x∈e,G.col x=b)/\
  (fr=true->((c.toList.drop off).take (n*E.sz))[i.toNat*E.sz+o]?=some v)
def qs(w:World)(G:Gh)(e:Ty)(l:List e.den)(v:Value):M->Prop
 | .row t hs nd=>4<=t/\G.hdr t=v/\∃B,Bk w e.sz (fl w e) l v B/\
  ∀b c,B=b::c->G.col b=t/\b∉c/\(∀x∈c,G.col x∈hs)/\(nd=true->c.Nodup)
 | .sha hs=>(∃B,Bk w e.sz (fl w e) l v B/\∀b∈B,G.col b∈hs)/\(hs=[]->v= .slice none 0 0)
 | .nst b E i o p fr=>(∃B,Bk w e.sz (fl w e) l v B/\∀x∈B,G.col x=b)/\E.sub p=some (.sl e)/\E.off p=o/\apX w G v b E i o fr
 | .dead=>v.oneCell'=true
def kE(w:World)(G:Gh):(τ:Ty)->τ.den->Sh->List Value->Prop
 | .int k,n,.leaf,cs=>cs=[.int k n]
 | .bool,b,.leaf,cs=>cs=[.bool b]
 | .str,s,.leaf,cs=>cs=[.string s]
 | .sl e,l,.sl m,cs=>∃v,cs=[v]/\qs w G e l v m
 | .pair a b,p,.pair s1 s2,cs=>∃c1 c,cs=c1++c/\kE w G a p.1 s1 c1/\kE w G b p.2 s2 c
 |_,_,_,_=>False
def rn(w:World)(G:Gh):SV->Value->Prop
 | .no,_=>True
 | .d v,mv=>∃cs,mv=zE v.τ cs/\kE w G v.τ v.x v.sh cs
 | .box t v,mv=>∃h c el,mv= .pointer (some ⟨h,0,none⟩)/\4<=t/\G.hdr t=mv/\G.col h=t/\w.heap[h]?=some (.cells c el (0,0))/\kE w G v.τ v.x v.sh c.toList
 | .ptr t o _ _,mv=>∃h,4<=t/\G.hdr t= .pointer (some ⟨h,0,none⟩)/\mv= .pointer (some ⟨h,o,none⟩)
 | .ept t e i o _ _,mv=>∃b off n cap,4<=t/\G.hdr t= .slice (some ⟨b,off,none⟩) n cap/\0<=i/\i<n/\mv= .pointer (some ⟨b,off+i.toNat*e.sz+o,none⟩)
 | .rdp hs v,mv=>∃b o c el k,mv= .pointer (some ⟨b,o,none⟩)/\w.heap[b]?=some (.cells c el k)/\o+v.τ.sz<=c.size/\G.col b∈hs/\kE w G v.τ v.x v.sh ((c.toList.drop o).take v.τ.sz)
 | .tup l,mv=>∃j:List Value,mv= .tuple j.toArray/\j.length=l.length/\∀(i:Nat) (v:TV),l[i]?=some v->∃u cs,j[i]?=some u/\u=zE v.τ cs/\kE w G v.τ v.x v.sh cs
 | .g _ _ act v,mv=>(act=true->v.ye=false/\rn w G v mv)/\(act=false->mv=undef)
def SV.sc:SV->List Nat
 | .d v| .box _ v=>v.sh.cO
 | .rdp hs v=>hs++v.sh.cO
 | .tup l=>l.flatMap fun v=>v.sh.cO
 | .g _ _ act v=>if act=true then v.sc else []
 |_=>[]
def SV.bt:SV->List Nat
 | .box t _| .ptr t _ _ _=>[t]
 | .g _ _ act v=>if act=true then v.bt else []
 |_=>[]
def SV.rt:SV->List Nat
 | .ept t _ _ _ _ _=>[t]
 | .g _ _ act v=>if act=true then v.rt else []
 |_=>[]
def SV.hc:SV->List Nat
 | .box t v=>t::v.sh.cO
 |v=>v.sc
structure abw(S T:List Nat)(w w':World)(G G':Gh):Prop where
 heap:∀b,G.col b∈S->w'.heap[b]?=w.heap[b]?
 col:∀b,G.col b∈S->G'.col b=G.col b
 hdr:∀t∈T,G'.hdr t=G.hdr t
theorem abw.sub{S l T o:List Nat}{w w':World}{G G':Gh}(h:abw S T w w' G G')(hs:∀c∈l,c∈S)(p:∀c∈o,c∈T):abw l o w w' G G':=
 ⟨fun b e=>h.heap b (hs _ e),fun b e=>h.col b (hs _ e),fun t e=>h.hdr t (p _ e)⟩
theorem qs.agree{w w':World}{G G':Gh}{e:Ty}{l:List e.den}{v:Value}{m:M}(h:abw m.cO m.cO w w' G G')(K:qs w G e l v m):qs w' G' e l v m:=by
 cases m with
 |row t N nd=>
  obtain⟨ht,hh,B,I,hc⟩:=K
  have q:∀b∈B,G.col b∈t::N:=by
   intro b y;cases B with
   |nil=>cases y
   |cons x H=>
    obtain⟨R,_,J,_⟩:=hc x H rfl;rcases S_.1 y with rfl|y;simp[R];exact af1 _ (J b y)
  refine⟨ht,(h.hdr t (by simp[M.cO])).trans hh,B,Bk.mono (fun b y=>h.heap b (q b y)) I,?_⟩;intro b H e;obtain⟨R,h2,J,h4⟩:=hc b H e;subst e;refine⟨(h.col b (q b (by simp))).trans R,h2,fun x u=> ?_,h4⟩;rw[h.col x (q x (by simp[u]))];exact J x u
 |sha N=>
  obtain⟨⟨B,I,hc⟩,hn⟩:=K;exact⟨⟨B,Bk.mono (fun b y=>h.heap b (hc b y)) I,fun b y=>by rw[h.col b (hc b y)];exact hc b y⟩,hn⟩
 |nst b E i o p fr=>
  obtain⟨⟨B,I,hc⟩,N,ho,J,hi,z,off,n,cap,c,el,L,H,g1,g2,S,g4,g5,g6,g7,g8,g9,W,D,X⟩:=K;have q:∀x,G.col x=b->G.col x∈(M.nst b E i o p fr).cO:=fun x u=>by simp[M.cO,u]
  refine⟨⟨B,Bk.mono (fun x u=>h.heap x (q x (hc x u))) I,fun x u=>(h.col x (q x (hc x u))).trans (hc x u)⟩,N,ho,J,hi,z,off,n,cap,c,el,L,H,
   (h.hdr b (by simp[M.cO])).trans g1,g2,(h.col z (q z S)).trans S,(h.heap z (q z S)).trans g4,g5,g6,g7,g8,?_,W,fun x u=>(h.col x (q x (D x u))).trans (D x u),X⟩
  exact fN.mono (fun x=>w'.heap[x]?=w.heap[x]?) (fun _ _ _ Y u=>fl.mono Y u) (fun x u=>h.heap x (q x (D x u))) g9
 |dead=>exact K
theorem kE.agree{w w':World}{G G':Gh}:∀ {τ:Ty} {x:τ.den} {sh:Sh} {cs:List Value},abw sh.cO sh.cO w w' G G'->kE w G τ x sh cs->kE w' G' τ x sh cs
 | .int _,_,.leaf,_,_,h=>h
 | .bool,_,.leaf,_,_,h=>h
 | .str,_,.leaf,_,_,h=>h
 | .sl e,l,.sl m,cs,ha,h=>by obtain⟨v,rfl,o⟩:=h;exact⟨v,rfl,qs.agree ha o⟩
 | .pair a b,p,.pair s1 s2,cs,ha,h=>by
   obtain⟨q,u,rfl,y,z⟩:=h
   exact⟨q,u,rfl,kE.agree (ha.sub (fun c hc=>by simp[Sh.cO,hc]) (fun c hc=>by simp[Sh.cO,hc])) y,
    kE.agree (ha.sub (fun c hc=>by simp[Sh.cO,hc]) (fun c hc=>by simp[Sh.cO,hc])) z⟩
 | .int _,_,.sl _,_,_,h| .int _,_,.pair _ _,_,_,h| .bool,_,.sl _,_,_,h| .bool,_,.pair _ _,_,_,h
 | .str,_,.sl _,_,_,h| .str,_,.pair _ _,_,_,h| .sl _,_,.leaf,_,_,h| .sl _,_,.pair _ _,_,_,h
 | .pair _ _,_,.leaf,_,_,h| .pair _ _,_,.sl _,_,_,h=>h.elim
theorem rn.agree{w w':World}{G G':Gh}:∀ {s:SV} {mv:Value},abw s.hc (s.sc++s.bt++s.rt) w w' G G'->rn w G s mv->rn w' G' s mv
 | .no,_,_,_=>trivial
 | .d v,mv,ha,⟨y,h1,h2⟩=>⟨y,h1,kE.agree (ha.sub (fun c hc=>hc) (fun c hc=>by simp[SV.sc,hc])) h2⟩
 | .box t v,mv,ha,⟨bk,c,el,h1,h2,h3,h4,h5,h6⟩=>
   ⟨bk,c,el,h1,h2,(ha.hdr t (by simp[SV.bt])).trans h3,(ha.col bk (by simp[SV.hc,h4])).trans h4,
    (ha.heap bk (by simp[SV.hc,h4])).trans h5,kE.agree (ha.sub (fun c hc=>by simp[SV.hc,hc]) (fun c hc=>by simp[SV.sc,hc])) h6⟩
 | .ptr t o p τ,mv,ha,⟨bk,h1,h2,h3⟩=>⟨bk,h1,(ha.hdr t (by simp[SV.bt])).trans h2,h3⟩
 | .ept t e i o p τ,mv,ha,⟨b,off,n,cap,h1,h2,h3⟩=>⟨b,off,n,cap,h1,(ha.hdr t (by simp[SV.rt])).trans h2,h3⟩
 | .rdp hs v,mv,ha,⟨b,o,c,el,fz,h1,h2,h3,h4,h5⟩=>
   ⟨b,o,c,el,fz,h1,(ha.heap b (by simp[SV.hc,SV.sc,h4])).trans h2,h3,by rw[ha.col b (by simp[SV.hc,SV.sc,h4])];exact h4,
     kE.agree (ha.sub (fun c hc=>by simp[SV.hc,SV.sc,hc]) (fun c hc=>by simp[SV.sc,hc])) h5⟩
 | .tup l,mv,ha,⟨vs,h1,h2,h3⟩=>by
   refine⟨vs,h1,h2,fun i v z=> ?_⟩;obtain⟨u,y,B,D,q⟩:=h3 i v z;have h:∀c∈v.sh.cO,c∈SV.sc (.tup l):=fun c hc=>afY.2 ⟨v,ahh z,hc⟩;exact⟨u,y,B,D,kE.agree (ha.sub h (fun c hc=>by simp[h c hc])) q⟩
 | .g j w' false v,mv,ha,⟨h1,h2⟩=>⟨fun e=>absurd e (by simp),h2⟩
 | .g j w' true v,mv,ha,⟨h1,h2⟩=>⟨fun e=>⟨(h1 e).1,rn.agree (s:=v) (by
  have q:=(h1 e).1;cases v with
  |box t v=>simp[SV.ye]at q
  |_=>simpa[SV.hc,SV.sc,SV.bt,SV.rt]using ha) (h1 e).2⟩,h2⟩
theorem SV.ad6:∀(s:SV) (c:Nat),c∈s.hc->c∈s.sc\/c∈s.bt
 | .no,c,h| .ptr ..,c,h| .ept ..,c,h=>by simp[SV.hc,SV.sc]at h
 | .d v,c,h| .rdp hs v,c,h| .tup l,c,h=> .inl h
 | .box t v,c,h=>by
   rcases S_.1 h with rfl|h;right;simp[SV.bt];left;exact h
 | .g _ _ _ v,c,h=> .inl h
structure C0 where
 col:Nat->Nat
 hdr:Nat->Option Value
structure Inv(w0:World)(c0:C0)(U:Nat->Prop)(E:Env)(a:Act)(w:World)(G:Gh):Prop where
 len:a.tmps.size=E.s.length
 slots:∀s,rn w G (E.s.getD s .no) (a.tmps.getD s undef)
 sc:∀s,∀c∈(E.s.getD s .no).sc,0<c/\U c/\G.bx c=false
 bt:∀s,∀t∈(E.s.getD s .no).bt,0<t/\U t/\G.bx t=true
 rt:∀s,∀t∈(E.s.getD s .no).rt,0<t/\U t/\G.bx t=false
 uni:∀s s' t v v',E.s.getD s .no= .box t v->E.s.getD s' .no= .box t v'->s=s'
 colU:∀b,0<G.col b->U (G.col b)
 lt:∀b,0<G.col b->b<w.heap.size
 fresh:∀b,4<=G.col b->∃c el,w.heap[b]?=some (.cells c el (0,0))
 frame:∀b,b<w0.heap.size->c0.col b<4->G.col b=c0.col b/\w.heap[b]?=w0.heap[b]?
 one:∀b,G.col b=1\/G.col b=3->b<w0.heap.size/\c0.col b=G.col b
 size:w0.heap.size<=w.heap.size
 os:w.os=w0.os
 tape:w.tape=w0.tape
 output:w.output=w0.output
 defers:a.defers=[]
 two:(U 2/\G.bx 2=false)/\U 3/\G.bx 3=false
 hk:E.kp=true->∀t v,c0.hdr t=some v->U t/\G.hdr t=v
def CS(l:List SV)(d s:Nat)(v:SV):(l.set d v).getD s .no=if s=d/\d<l.length then v else l.getD s .no:=by
 simp only[agu,List.getElem?_set];by_cases h:d=s;subst h;by_cases b:d<l.length;simp[b];simp[b];simp[h,Ne.symm h]
def ajU(a:Act)(d:Option Nat)(v:Value)(s:Nat)(b:∀x,d=some x->x<a.tmps.size):
 (a.put d v).tmps.getD s undef=if some s=d then v else a.tmps.getD s undef:=by
 cases d with
 |none=>simp[Act.put]
 |some d=>
  have:=b d rfl;simp only[Act.put,ahs,Array.getElem?_setIfInBounds,ac4];by_cases h:d=s;subst h;simp[this];simp[h,Ne.symm h]
def ajI(a:Act)(d:Nat)(v:Value)(h:¬d<a.tmps.size):a.put (some d) v=a:=by
 cases a;simp only[Act.put,Act.mk.injEq,and_true];exact Array.setIfInBounds_eq_of_size_le (by simpa using h)
def TZ(a:Act)(d:Option Nat)(v:Value):(a.put d v).tmps.size=a.tmps.size:=by
 cases d<;>simp[Act.put]
def alZ(a:Act)(d:Option Nat)(v:Value):(a.put d v).defers=a.defers:=by
 cases d<;>simp[Act.put]
section
variable{w0:World}{c0:C0}{U:Nat->Prop}{E:Env}{a:Act}{w:World}{G:Gh}
theorem Inv.put(h:Inv w0 c0 U E a w G)(d:Option Nat){sv:SV}{v:Value}(hs:rn w G sv v)
 (z:∀c∈sv.sc,0<c/\U c/\G.bx c=false) (B:∀c∈sv.bt,0<c/\U c/\G.bx c=true) (D:∀c∈sv.rt,0<c/\U c/\G.bx c=false)
 (o:∀t u,sv= .box t u->∀s p,E.s.getD s .no≠ .box t p):
 Inv w0 c0 U (E.set d sv) (a.put d v) w G:=by
 cases d with
 |none=>exact h
 |some d=>
  have l:∀s,(E.set (some d) sv).s.getD s .no=if s=d/\d<E.s.length then sv else E.s.getD s .no:=fun s=>CS E.s d s sv
  refine {h with len:= ?_,slots:= ?_,sc:= ?_,bt:= ?_,rt:= ?_,uni:= ?_,defers:=by rw[alZ];exact h.defers};rw[TZ,h.len];simp[Env.set];intro s;rw[l];by_cases H:d<a.tmps.size;rw[ajU a (some d) v s (by rintro x ⟨⟩;exact H)];by_cases e:s=d;subst e;rw[an ⟨rfl,h.len▸H⟩,an rfl];exact hs;rw[a_ (by simp[e]),a_ (by simp[e])];exact h.slots s;rw[ajI a d v H,a_ (by rw[<-h.len];simp;omega)];exact h.slots s;intro s c b;rw[l]at b;split at b;exact z c b;exact h.sc s c b;intro s c b;rw[l]at b;split at b;exact B c b;exact h.bt s c b;intro s c b;rw[l]at b;split at b;exact D c b;exact h.rt s c b;intro s I t u p q y;rw[l]at q y;split at q<;>split at y;omega;exact absurd y (o t u q I p);exact absurd q (o t p y s u);exact h.uni s I t u p q y
theorem Inv.mono{U':Nat->Prop}(h:Inv w0 c0 U E a w G)(l:∀c,U c->U' c):Inv w0 c0 U' E a w G:=
 {h with
  sc:=fun s c hc=>⟨(h.sc s c hc).1,l _ (h.sc s c hc).2.1,(h.sc s c hc).2.2⟩
  bt:=fun s c hc=>⟨(h.bt s c hc).1,l _ (h.bt s c hc).2.1,(h.bt s c hc).2.2⟩
  rt:=fun s c hc=>⟨(h.rt s c hc).1,l _ (h.rt s c hc).2.1,(h.rt s c hc).2.2⟩
  colU:=fun b o=>l _ (h.colU b o)
  two:=⟨⟨l _ h.two.1.1,h.two.1.2⟩,l _ h.two.2.1,h.two.2.2⟩
  hk:=fun hk t v e=>⟨l _ (h.hk hk t v e).1,(h.hk hk t v e).2⟩}
def size_alloc(w:World)(o:Obj):(w.alloc o).heap.size=w.heap.size+1:=Array.size_push ..
def Gh.add(G:Gh)(b t:Nat)(v:Value)(x:Bool):Gh:=
 ⟨fun y=>if y=b then t else G.col y,fun u=>if u=t then v else G.hdr u,fun u=>if u=t then x else G.bx u⟩
theorem Inv.drawn(h:Inv w0 c0 U E a w G)(n:Nat):Inv w0 c0 U E a {w with drawn:=n} G:=by
 refine {h with slots:=fun s=> ?_};exact rn.agree (w:=w) (G:=G) (G':=G) ⟨fun _ _=>rfl,fun _ _=>rfl,fun _ _=>rfl⟩ (h.slots s)
theorem Inv.alloc(h:Inv w0 c0 U E a w G){t:Nat}(ht:4<=t)(J:¬U t)(c:Array Value)(el:TypeId)(v:Value)(x:Bool):
 Inv w0 c0 (fun u=>U u\/u=t) E a (w.alloc (.cells c el)) (G.add w.heap.size t v x):=by
 have H:∀b,0<G.col b->b≠w.heap.size:=fun b l e=>by have:=h.lt b l;omega
 have o:∀u,U u->u≠t:=fun u p e=>J (e▸p);refine⟨h.len,fun s=> ?_,fun s c hc=> ?_,fun s c hc=> ?_,fun s c hc=> ?_,h.uni,?_,?_,?_,?_,?_,?_,h.os,h.tape,h.output,h.defers,⟨⟨.inl h.two.1.1,by simp only[Gh.add];rw[a_ (by omega)];exact h.two.1.2⟩,.inl h.two.2.1,by simp only[Gh.add];rw[a_ (by omega)];exact h.two.2.2⟩,fun B z D e=>⟨.inl (h.hk B z D e).1,by simp only[Gh.add];rw[a_ (o z (h.hk B z D e).1)];exact(h.hk B z D e).2⟩⟩;refine rn.agree (w:=w) (G:=G) ⟨fun b l=> ?_,fun b l=> ?_,fun u p=> ?_⟩ (h.slots s);have:0<G.col b:=by rcases SV.ad6 _ _ l with l|l;exact(h.sc s _ l).1;exact(h.bt s _ l).1
 exact heap_alloc_old w _ b (h.lt b this);have:0<G.col b:=by rcases SV.ad6 _ _ l with l|l;exact(h.sc s _ l).1;exact(h.bt s _ l).1
 simp[Gh.add,H b this]
 have:U u:=by
  simp only[o_]at p;rcases p with(p|p)|p;exact(h.sc s u p).2.1;exact(h.bt s u p).2.1;exact(h.rt s u p).2.1
 simp[Gh.add,o u this];have:=h.sc s c hc;exact⟨this.1,.inl this.2.1,by simp[Gh.add,o c this.2.1,this.2.2]⟩;have:=h.bt s c hc;exact⟨this.1,.inl this.2.1,by simp[Gh.add,o c this.2.1,this.2.2]⟩;have:=h.rt s c hc;exact⟨this.1,.inl this.2.1,by simp[Gh.add,o c this.2.1,this.2.2]⟩;intro b l;by_cases e:b=w.heap.size;right;simp[Gh.add,e];left;simp only[Gh.add,e,if_false]at l|-;exact h.colU b l;intro b l;by_cases e:b=w.heap.size;rw[size_alloc];omega;simp only[Gh.add,e,if_false]at l;have:=h.lt b l;rw[size_alloc];omega;intro b l;by_cases e:b=w.heap.size;exact⟨c,el,by rw[e];exact heap_alloc_new w _⟩;simp only[Gh.add,e,if_false]at l;obtain⟨K,I,y⟩:=h.fresh b l;exact⟨K,I,by rw[heap_alloc_old w _ b (lt_of_block y)];exact y⟩;intro b l hc;have q:b<w.heap.size:=Nat.lt_of_lt_of_le l h.size;refine⟨?_,?_⟩;simp only[Gh.add,a_ (ahC q)];exact(h.frame b l hc).1;rw[heap_alloc_old w _ b q];exact(h.frame b l hc).2;intro b l;by_cases e:b=w.heap.size;simp[Gh.add,e]at l;omega;simp only[Gh.add,e,if_false]at l|-;exact h.one b l;have:=h.size;rw[size_alloc];omega
end
def OB(P:Program)(t:TypeId)(τ:Ty):Prop:=
 ∃inf d,P.info? t=some inf/\inf.size=τ.sz/\inf.zero=some (zE τ τ.zero)/\inf.bytes<=32768/\
  P.underlying t=some d/\(d matches .struct _| .array _ _)=τ.qH
structure aep(P:Program)(τ:Ty)(fs:List TypeId)(j:Nat)(f:Field):Prop where
 off:f.offset=τ.off (nu fs.length j)
 ty:fs[j]?=some f.type
 sub:∃σ,τ.sub (nu fs.length j)=some σ/\OB P f.type σ
def aia(P:Program)(t:TypeId)(i:TI):Prop:=
 OB P t i.τ/\match i.τ with
 | .int k=>P.underlying t=some (.int k)
 | .bool=>P.underlying t=some .bool
 | .str=>P.underlying t=some .string
 | .sl e=>P.underlying t=some (.slice i.el)/\OB P i.el e
 | .pair _ _=>∃fields,P.underlying t=some (.struct fields)/\fields.size=i.fs.length/\
  ∀(j:Nat) (f:Field),fields[j]?=some f->aep P i.τ i.fs j f
section
variable{P:Program}{w:World}
def akp{t:TypeId}{inf:TypeInfo}(h:P.info? t=some inf):(typeInfo t).run P w= .ok inf w:=by
 simp[typeInfo,h]
def Bl{t:TypeId}{τ:Ty}(h:OB P t τ):(Go.sizeOf t).run P w= .ok τ.sz w:=by
 obtain⟨inf,d,b,c,_⟩:=h;simp[Go.sizeOf,akp b,c]
def ai7{t:TypeId}{τ:Ty}(h:OB P t τ):(zeroValue t).run P w= .ok (zE τ τ.zero) w:=by
 obtain⟨inf,d,b,h2,c,_⟩:=h;simp[zeroValue,akp b,c]
def XY{t:TypeId}{τ:Ty}(h:OB P t τ):(isAgg t).run P w= .ok τ.qH w:=by
 obtain⟨inf,d,h1,h2,h3,h4,b,h6⟩:=h;rw[<-h6];cases d<;>simp[isAgg,run_underlying b]
def Sn{τ:Ty}{cs:List Value}(c:cs.length=τ.sz)(d:∀v∈cs,v.oneCell'=true):(zE τ cs).cells.toList=cs:=by
 cases τ with
 |pair a b=>simp[zE,Value.cells]
 |_=>
  simp only[Ty.sz]at c
  match cs,c with
  | [v],_=>
    have:=d v (by simp);cases v<;>simp_all[zE,Value.cells,Value.oneCell']
def VF{τ:Ty}{cs:List Value}(b:cs.length=τ.sz)(c:∀v∈cs,v.oneCell'=true):(zE τ cs).cells.size=τ.sz:=by
 have:=congrArg aoq (Sn b c);simpa[b]using this
def Y6:∀(τ:Ty),∀v∈τ.zero,v.oneCell'=true:=fun τ=>fl.one (fl.zero default τ)
def UT{b:Nat}{c:Array Value}{el:TypeId}{d:Nat×Nat}(e:w.heap[b]?=some (.cells c el d))(o:Nat):w.cell? ⟨b,o,none⟩=c[o]?:=by
 simp[World.cell?,e]
def aiE{c:Array Value}{o n j:Nat}{v:Value}(h:((c.toList.drop o).take n)[j]?=some v):c[o+j]?=some v:=by
 rw[List.getElem?_take]at h;split at h;rw[List.getElem?_drop]at h;simpa using h;cases h
def YT{t:TypeId}{τ:Ty}(h:OB P t τ){b o:Nat}{c:Array Value}{el:TypeId}{l:Nat×Nat}
 (d:w.heap[b]?=some (.cells c el l)) (hs:o+τ.sz<=c.size):(loadVar t ⟨b,o,none⟩).run P w= .ok (zE τ ((c.toList.drop o).take τ.sz)) w:=by
 have hlen:((c.toList.drop o).take τ.sz).length=τ.sz:=by simp;omega
 cases e:τ.qH with
 |true=>
  have i:=run_loadCells_list (P:=P) w ⟨b,o,none⟩ ((c.toList.drop o).take τ.sz) (fun j v k=>by
   rw[Addr.add_lit,UT d];exact aiE k)
  rw[hlen]at i;simp[loadVar,XY h,e,Bl h,i];cases τ<;>simp_all[zE,Ty.qH]
 |false=>
  have m:τ.sz=1:=by cases τ<;>simp_all[Ty.qH,Ty.sz]
  have n:o<c.size:=by omega
  have hc:c[o]?=some c[o]:=afL n
  have p:(c.toList.drop o).take 1=[c[o]]:=by
   rw[List.take_one,aot];simp[hc]
  rw[m,p];have q:zE τ [c[o]]=c[o]:=by cases τ<;>simp_all[zE,Ty.qH]
  rw[q];simp only[loadVar,Sem.run_bind,XY h,e,Result.andThen_ok,ahv,if_false,run_load,UT d,hc]
def YB{b:Nat}{c:Array Value}{el:TypeId}(d:w.heap[b]?=some (.cells c el (0,0)))(o:Nat):w.frozen? ⟨b,o,none⟩=false:=by
 simp[World.frozen?,d]
theorem oU(b:Nat):∀(c:List Value) (o:Nat) (w:World) (k:Nat),k≠b->(w.setCells b o c).heap[k]?=w.heap[k]?
 | [],_,_,_,_=>rfl
 |v::r,o,w,k,h=>by
  rw[World.setCells,oU b r (o+1) _ k h];exact heap_setCell_other w ⟨b,o,none⟩ k v h
theorem Eu(b:Nat):∀(c:List Value) (o:Nat) (w:World),(w.setCells b o c).heap.size=w.heap.size
 | [],_,_=>rfl
 |v::r,o,w=>by rw[World.setCells,Eu b r (o+1)];simp[World.setCell]
theorem qG(b:Nat):∀(c:List Value) (o:Nat) (w:World),(w.setCells b o c).os=w.os/\(w.setCells b o c).tape=w.tape/\(w.setCells b o c).output=w.output
 | [],_,_=>⟨rfl,rfl,rfl⟩
 |_::r,o,_=>qG b r (o+1) _
theorem NY(b:Nat){el:TypeId}:∀(d:List Value) (o:Nat) (w:World) (c:Array Value),w.heap[b]?=some (.cells c el (0,0))->o+d.length<=c.size->
 (w.setCells b o d).heap[b]?=some (.cells (c.toList.take o++d++c.toList.drop (o+d.length)).toArray el (0,0))
 | [],o,w,c,hb,_=>by simp[World.setCells,hb]
 |v::r,o,w,c,hb,hs=>by
  simp only[ahb]at hs
  have e:(w.setCell ⟨b,o,none⟩ v).heap[b]?=some (.cells (c.setIfInBounds o v) el (0,0)):=by
   simp only[World.setCell,Array.getElem?_modify,hb];rfl
  rw[World.setCells,NY b r (o+1) _ _ e (by simp;omega)];congr 3;have h:o<c.toList.length:=by simp at hs|-;omega
  have i:(c.toList.set o v).drop (o+1+r.length)=c.toList.drop (o+(r.length+1)):=by
   rw[aiZ (by omega)];congr 1;omega
  have j:(c.toList.set o v).take (o+1)=c.toList.take o++[v]:=by
   rw[ahd (by simpa using h),ai1 (agc _)];simp
  simp only[ahx,ahb,i,j];simp
def ajm{t:TypeId}{τ:Ty}(h:OB P t τ){b o:Nat}{c:Array Value}{el:TypeId}{cs:List Value}
 (i:w.heap[b]?=some (.cells c el (0,0))) (hs:o+τ.sz<=c.size) (k:cs.length=τ.sz) (d:∀v∈cs,v.oneCell'=true):
 (storeVar t ⟨b,o,none⟩ (zE τ cs)).run P w= .ok () (w.setCells b o cs):=by
 have e:=run_storeCells_cells (P:=P) b o cs 0 w (fun j l=>by rw[UT i];simp;omega) (fun j l=>YB i _) d;simp[storeVar,Bl h,VF k d,Sn k d];simpa using e
end
section
variable{w:World}{G:Gh}
theorem kE.len:∀ {τ:Ty} {x:τ.den} {sh:Sh} {cs:List Value},kE w G τ x sh cs->cs.length=τ.sz
 | .int _,_,.leaf,_,h=>by rw[show _=_ from h];rfl
 | .bool,_,.leaf,_,h=>by rw[show _=_ from h];rfl
 | .str,_,.leaf,_,h=>by rw[show _=_ from h];rfl
 | .sl e,l,.sl m,cs,h=>by obtain⟨v,rfl,_⟩:=h;rfl
 | .pair a b,p,.pair s1 s2,cs,h=>by
   obtain⟨c1,c2,rfl,c,o⟩:=h;simp[Ty.sz,kE.len c,kE.len o]
 | .int _,_,.sl _,_,h| .int _,_,.pair _ _,_,h| .bool,_,.sl _,_,h| .bool,_,.pair _ _,_,h
 | .str,_,.sl _,_,h| .str,_,.pair _ _,_,h| .sl _,_,.leaf,_,h| .sl _,_,.pair _ _,_,h
 | .pair _ _,_,.leaf,_,h| .pair _ _,_,.sl _,_,h=>h.elim
theorem qs.one{e:Ty}{l:List e.den}{v:Value}{m:M}(h:qs w G e l v m):v.oneCell'=true:=by
 cases m with
 |row t q nd=>obtain⟨_,_,B,c,_⟩:=h;exact c.one
 |sha q=>obtain⟨⟨B,c,_⟩,_⟩:=h;exact c.one
 |nst b E i o p fr=>obtain⟨⟨B,c,_⟩,_⟩:=h;exact c.one
 |dead=>exact h
theorem kE.one:∀ {τ:Ty} {x:τ.den} {sh:Sh} {cs:List Value},kE w G τ x sh cs->∀v∈cs,v.oneCell'=true
 | .int _,_,.leaf,_,h,v,c=>by rw[show _=_ from h]at c;simp at c;subst c;rfl
 | .bool,_,.leaf,_,h,v,c=>by rw[show _=_ from h]at c;simp at c;subst c;rfl
 | .str,_,.leaf,_,h,v,c=>by rw[show _=_ from h]at c;simp at c;subst c;rfl
 | .sl e,l,.sl m,cs,h,v,c=>by obtain⟨u,rfl,o⟩:=h;simp at c;subst c;exact o.one
 | .pair a b,p,.pair s1 s2,cs,h,v,c=>by
   obtain⟨c1,c2,rfl,q,y⟩:=h;rcases o_.1 c with c|c;exact kE.one q v c;exact kE.one y v c
 | .int _,_,.sl _,_,h,_,_| .int _,_,.pair _ _,_,h,_,_| .bool,_,.sl _,_,h,_,_| .bool,_,.pair _ _,_,h,_,_
 | .str,_,.sl _,_,h,_,_| .str,_,.pair _ _,_,h,_,_| .sl _,_,.leaf,_,h,_,_| .sl _,_,.pair _ _,_,h,_,_
 | .pair _ _,_,.leaf,_,h,_,_| .pair _ _,_,.sl _,_,h,_,_=>h.elim
theorem kE.sub:∀ {p:List Bool} {τ:Ty} {x:τ.den} {sh:Sh} {cs:List Value} {r:TV},OI τ x sh p=some r->kE w G τ x sh cs->
 kE w G r.τ r.x r.sh ((cs.drop (τ.off p)).take r.τ.sz)/\τ.off p+r.τ.sz<=τ.sz/\τ.sub p=some r.τ/\(∀c∈r.sh.cO,c∈sh.cO)
 | [],τ,x,sh,cs,r,hr,h=>by
   have:r=⟨τ,x,sh⟩:=by cases τ<;>simp_all[OI]
   subst this;refine⟨?_,?_,?_,fun c hc=>hc⟩;have:=kE.len h;cases τ<;>simpa[Ty.off,af7 (Nat.le_of_eq this)]using h;cases τ<;>simp[Ty.off];cases τ<;>simp[Ty.sub]
 |false::p,.pair a b,x,.pair s1 s2,cs,r,hr,h=>by
  obtain⟨y,z,rfl,l,v⟩:=h;obtain⟨o,hle,q,hc⟩:=kE.sub (p:=p) (by simpa[OI]using hr) l;have u:=kE.len l;refine⟨?_,by simp only[Ty.off,Ty.sz];omega,by simpa[Ty.sub]using q,fun c e=>by simp[Sh.cO,hc c e]⟩;simp only[Ty.off];rw[agK (by omega),ags (by simp;omega)];exact o
 |true::p,.pair a b,x,.pair s1 s2,cs,r,hr,h=>by
  obtain⟨y,z,rfl,l,v⟩:=h;obtain⟨o,hle,q,hc⟩:=kE.sub (p:=p) (by simpa[OI]using hr) v;have u:=kE.len l;refine⟨?_,by simp only[Ty.off,Ty.sz];omega,by simpa[Ty.sub]using q,fun c e=>by simp[Sh.cO,hc c e]⟩;simp only[Ty.off];rw[<-u,ag7,agb (by omega)];simpa using o
 |b::p,.int _,_,_,_,_,hr,_|b::p,.bool,_,_,_,_,hr,_|b::p,.str,_,_,_,_,hr,_|b::p,.sl _,_,_,_,_,hr,_=>by simp[OI]at hr
 |false::p,.pair _ _,_,.leaf,_,_,hr,_|false::p,.pair _ _,_,.sl _,_,_,hr,_=>by simp[OI]at hr
 |true::p,.pair _ _,_,.leaf,_,_,hr,_|true::p,.pair _ _,_,.sl _,_,_,hr,_=>by simp[OI]at hr
def Ea{v:TV}{τ:Ty}{y:τ.den}(h:OP v τ=some y):v=⟨τ,y,v.sh⟩:=by
 obtain⟨σ,x,sh⟩:=v;unfold OP at h;split at h;rename_i e;simp only at e;subst e;simp only[cast_eq,ac4]at h;subst h;rfl;cases h
theorem kE.put:∀ {p:List Bool} {τ:Ty} {x:τ.den} {sh:Sh} {cs:List Value} {v:TV} {y:τ.den} {s:Sh} {cv:List Value},
 N3 τ x sh p v=some (y,s)->kE w G τ x sh cs->kE w G v.τ v.x v.sh cv->
 kE w G τ y s (cs.take (τ.off p)++cv++cs.drop (τ.off p+v.τ.sz))/\τ.off p+v.τ.sz<=τ.sz/\(∀c∈s.cO,c∈sh.cO\/c∈v.sh.cO)
 | [],τ,x,sh,cs,v,y,s,cv,hp,h,hv=>by
   have D:OP v τ=some y/\s=v.sh:=by
    cases τ<;>(simp only[N3]at hp;split at hp<;>simp_all)
   obtain⟨hc,rfl⟩:=D;have e:=Ea hc;have H:=kE.len h;have J:τ.off []=0:=by cases τ<;>rfl
   have K:v.τ=τ:=by rw[e]
   refine⟨?_,by rw[J,K];omega,fun c u=> .inr u⟩;rw[J,K,ahN,agt,akb,agb (by omega),agI];rw[e]at hv;exact hv
 |false::p,.pair a b,x,.pair s1 s2,cs,v,y,s,cv,hp,h,hv=>by
  obtain⟨L,N,rfl,q,I⟩:=h;simp only[N3]at hp;split at hp;rename_i R z B;cases hp;obtain⟨l,hle,o⟩:=kE.put B q hv;have H:=kE.len q;refine⟨⟨_,N,?_,l,I⟩,by simp only[Ty.off,Ty.sz];omega,fun c hc=> ?_⟩;simp only[Ty.off];rw[ags (by omega),agK (by omega)];simp;simp only[Sh.cO,o_]at hc|-;rcases hc with hc|hc;rcases o c hc with h|h;exact .inl (.inl h);exact .inr h;exact .inl (.inr hc);cases hp
 |true::p,.pair a b,x,.pair s1 s2,cs,v,y,s,cv,hp,h,hv=>by
  obtain⟨L,N,rfl,q,I⟩:=h;simp only[N3]at hp;split at hp;rename_i R z B;cases hp;obtain⟨l,hle,o⟩:=kE.put B I hv;have H:=kE.len q;refine⟨⟨L,_,?_,q,l⟩,by simp only[Ty.off,Ty.sz];omega,fun c hc=> ?_⟩;simp only[Ty.off];rw[<-H,ahB,af7 (by omega),ag7,agb (by omega)];simp[aiV];simp only[Sh.cO,o_]at hc|-;rcases hc with hc|hc;exact .inl (.inl hc);rcases o c hc with h|h;exact .inl (.inr h);exact .inr h;cases hp
 |b::p,.int _,_,_,_,_,_,_,_,hp,_,_|b::p,.bool,_,_,_,_,_,_,_,hp,_,_|b::p,.str,_,_,_,_,_,_,_,hp,_,_|b::p,.sl _,_,_,_,_,_,_,_,hp,_,_=>by simp[N3]at hp
 |false::p,.pair _ _,_,.leaf,_,_,_,_,_,hp,_,_|false::p,.pair _ _,_,.sl _,_,_,_,_,_,hp,_,_=>by simp[N3]at hp
 |true::p,.pair _ _,_,.leaf,_,_,_,_,_,hp,_,_|true::p,.pair _ _,_,.sl _,_,_,_,_,_,hp,_,_=>by simp[N3]at hp
theorem U6:∀(τ:Ty) (m:M),∀c∈(NU τ m).cO,c∈m.cO
 | .int _,_,c,h| .bool,_,c,h| .str,_,c,h=>by simp[NU,Sh.cO]at h
 | .sl _,_,c,h=>h
 | .pair a b,m,c,h=>by
   simp only[NU,Sh.cO,o_]at h;rcases h with h|h;exact U6 a m c h;exact U6 b m c h
theorem kE.ad4:∀ {τ:Ty} {x:τ.den} {cs:List Value} {B:List Nat} {hs:List Nat},fl w τ x cs B->(∀b∈B,G.col b∈hs)->hs≠ []->kE w G τ x (NU τ (.sha hs)) cs
 | .int _,_,_,_,_,h,_,_=>h.1
 | .bool,_,_,_,_,h,_,_=>h.1
 | .str,_,_,_,_,h,_,_=>h.1
 | .sl e,l,cs,B,hs,h,hb,hn=>by obtain⟨v,rfl,o⟩:=h;exact⟨v,rfl,⟨B,o,hb⟩,fun e=>absurd e hn⟩
 | .pair a b,p,cs,B,hs,h,hb,hn=>by
   obtain⟨q,u,B1,B2,rfl,rfl,y,z⟩:=h;exact⟨q,u,rfl,kE.ad4 y (fun b c=>hb b (by simp[c])) hn,kE.ad4 z (fun b c=>hb b (by simp[c])) hn⟩
theorem kE.zero:∀(τ:Ty),kE w G τ τ.aa (NU τ (.sha [])) τ.zero
 | .int _=>rfl
 | .bool=>rfl
 | .str=>rfl
 | .sl _=>⟨_,rfl,⟨[],.inl ⟨⟨none,rfl⟩,rfl,rfl⟩,by simp⟩,fun _=>rfl⟩
 | .pair a b=>⟨_,_,rfl,kE.zero a,kE.zero b⟩
theorem qs.rep{e:Ty}{l:List e.den}{v:Value}{m:M}(h:qs w G e l v m)(y:m≠ .dead):
 ∃B,Bk w e.sz (fl w e) l v B/\∀b∈B,G.col b∈m.cO:=by
 cases m with
 |row t H nd=>
  obtain⟨_,_,B,q,hc⟩:=h;refine⟨B,q,fun b c=> ?_⟩;cases B with
  |nil=>cases c
  |cons x I=>
   obtain⟨z,_,D,_⟩:=hc x I rfl;rcases S_.1 c with rfl|c;simp[M.cO,z];simp[M.cO,D b c]
 |sha H=>exact h.1
 |nst b E i o p fr=>obtain⟨⟨B,q,hc⟩,_⟩:=h;exact⟨B,q,fun x u=>by simp[M.cO,hc x u]⟩
 |dead=>exact absurd rfl y
theorem kE.rep:∀ {τ:Ty} {x:τ.den} {sh:Sh} {cs:List Value},kE w G τ x sh cs->sh.live=true->∃B,fl w τ x cs B/\∀b∈B,G.col b∈sh.cO
 | .int _,_,.leaf,_,h,_=>⟨[],⟨h,rfl⟩,by simp⟩
 | .bool,_,.leaf,_,h,_=>⟨[],⟨h,rfl⟩,by simp⟩
 | .str,_,.leaf,_,h,_=>⟨[],⟨h,rfl⟩,by simp⟩
 | .sl e,l,.sl m,cs,h,hl=>by
   obtain⟨v,rfl,z⟩:=h;obtain⟨B,D,hc⟩:=z.rep (by rintro rfl;simp[Sh.live]at hl);exact⟨B,⟨v,rfl,D⟩,hc⟩
 | .pair a b,p,.pair s1 s2,cs,h,hl=>by
   obtain⟨H,I,rfl,J,K⟩:=h;simp only[Sh.live,af0]at hl;obtain⟨u,L,o⟩:=kE.rep J hl.1;obtain⟨y,N,q⟩:=kE.rep K hl.2;refine⟨u++y,⟨H,I,u,y,rfl,rfl,L,N⟩,fun b c=> ?_⟩;simp only[Sh.cO,o_];rcases o_.1 c with c|c;exact .inl (o b c);exact .inr (q b c)
 | .int _,_,.sl _,_,h,_| .int _,_,.pair _ _,_,h,_| .bool,_,.sl _,_,h,_| .bool,_,.pair _ _,_,h,_
 | .str,_,.sl _,_,h,_| .str,_,.pair _ _,_,h,_| .sl _,_,.leaf,_,h,_| .sl _,_,.pair _ _,_,h,_
 | .pair _ _,_,.leaf,_,h,_| .pair _ _,_,.sl _,_,h,_=>h.elim
theorem ZE:∀ {τ:Ty} {cs r:List Value} {x:τ.den},decode τ cs=some (x,r)->∃c,cs=c++r/\kE w G τ x (NU τ (.sha [])) c
 | .int k,cs,r,x,h=>by
   match cs,h with
   | .int k' n::r',h=>
     simp only[decode]at h;split at h;rename_i e;simp only[ac4,agf]at h;obtain⟨rfl,rfl⟩:=h;subst e;exact⟨[_],rfl,rfl⟩;cases h
 | .bool,cs,r,x,h=>by
   match cs,h with
   | .bool b::r',h=>simp only[decode,ac4,agf]at h;obtain⟨rfl,rfl⟩:=h;exact⟨[_],rfl,rfl⟩
 | .str,cs,r,x,h=>by
   match cs,h with
   | .string b::r',h=>simp only[decode,ac4,agf]at h;obtain⟨rfl,rfl⟩:=h;exact⟨[_],rfl,rfl⟩
 | .sl e,cs,r,x,h=>by
   match cs,h with
   | .slice none 0 0::r',h=>simp only[decode,ac4,agf]at h;obtain⟨rfl,rfl⟩:=h;exact⟨[_],rfl,_,rfl,⟨[],.inl ⟨⟨none,rfl⟩,rfl,rfl⟩,by simp⟩,fun _=>rfl⟩
 | .pair a b,cs,r,x,h=>by
   simp only[decode]at h;split at h;rename_i x1 r1 j;split at h;rename_i y1 r2 l;simp only[ac4,agf]at h;obtain⟨rfl,rfl⟩:=h;obtain⟨d,rfl,m⟩:=ZE j;obtain⟨i,rfl,o⟩:=ZE l;exact⟨d++i,by simp,d,i,rfl,m,o⟩;cases h;cases h
def amQ{τ:Ty}{v:Value}{r:TV}(h:adn τ v=some r):rn w G (.d r) v/\r.sh=NU r.τ (.sha [])/\r.τ=τ:=by
 unfold adn at h;split at h;rename_i a b cs;split at h;rename_i x i;cases h;obtain⟨c,hc,e⟩:=ZE (w:=w) (G:=G) i;refine⟨⟨c,?_,e⟩,rfl,rfl⟩;simp only[agI]at hc;simp[zE,<-hc];cases h;cases h;rename_i hnp;split at h;rename_i x i;cases h;obtain⟨c,hc,e⟩:=ZE (w:=w) (G:=G) i;refine⟨⟨c,?_,e⟩,rfl,rfl⟩;simp only[agI]at hc;subst hc;cases τ with
 |pair a b=>
  exfalso;have:=e.len;simp only[List.length_singleton,Ty.sz]at this;have h1:=a.UY;have h2:=b.UY;omega
 |_=>rfl
 cases h
end
def aod(P:Program)(t:TypeId)(τ:Ty):Prop:=
 ∀(w:World) (op:BinOp) (x y:Operand) (a b:τ.den) (c1 c:List Value),(op= .eql\/op= .neq)->fl w τ a c1 []->fl w τ b c []->
  (do eqGuard op t x y (zE τ c1) (zE τ c);binOp op t (zE τ c1) (zE τ c)).run P w= .ok (.bool (if op= .eql then eqv τ a b else !eqv τ a b)) w
structure CxTy(P:Program)(C:Cx):Prop where
 tt:∀t i,C.tt t=some i->aia P t i
 eq:∀t i,C.tt t=some i->i.τ.qH=true->i.τ.flat=true->aod P t i.τ
 fs:∀t i,C.tt t=some i->i.τ.qH=false->i.fs=[]
 u8:∀t i,C.tt t=some i->i.τ= .sl (.int .u8)->P.underlying i.el=some (.int .u8)
def lg(U:Nat->Prop)(G:Gh)(v:SV):Prop:=
 (∀c∈v.sc,0<c/\U c/\G.bx c=false)/\(∀c∈v.bt,0<c/\U c/\G.bx c=true)/\(∀c∈v.rt,0<c/\U c/\G.bx c=false)
def RI(ops:List Oper)(E:Env)(tmps:Array Value):Prop:=
 ∀s j w act v,E.s.getD s .no= .g j w act v->(act=true↔yielded ops.toArray tmps j=some w)
def Gd(ops:List Oper)(tmps:Array Value)(G:Option (Nat×Bool)):Prop:=∀j w,G=some (j,w)->yielded ops.toArray tmps j=some w
def Yields(w0:World)(c0:C0)(U:Nat->Prop)(E:Env)(a:Act)(r:Result Next)(sv:SV):Prop:=
 ∃mv w' G',r= .ok (.value mv) w'/\Inv w0 c0 U E a w' G'/\rn w' G' sv mv/\lg U G' sv/\(∀t u,sv= .box t u->∀s b,E.s.getD s .no≠ .box t b)
section
variable{P:Program}{C:Cx}{w0:World}{c0:C0}{U:Nat->Prop}{E:Env}{a:Act}{w:World}{G:Gh}{ops:List Oper}{g:Option (Nat×Bool)}
theorem Inv.Xe(h:Inv w0 c0 U E a w G)(s:Nat):lg U G (E.s.getD s .no):=⟨h.sc s,h.bt s,h.rt s⟩
theorem lg.nil{v:TV}(h:v.sh.cO=[]):lg U G (.d v):=⟨by simp[SV.sc,h],by simp[SV.bt],by simp[SV.rt]⟩
theorem lg.d{v:TV}(h:∀c∈v.sh.cO,0<c/\U c/\G.bx c=false):lg U G (.d v):=⟨h,by simp[SV.bt],by simp[SV.rt]⟩
def apw{s:SV}{v:Value}(d:rn w G s v)(i:∀j w' act u,s= .g j w' act u->(act=true↔yielded ops.toArray a.tmps j=some w'))(k:Gd ops a.tmps g){sv:SV}(h:Zo g s=some sv):
 rn w G sv v/\(∀c∈sv.sc,c∈s.sc)/\(∀c∈sv.bt,c∈s.bt)/\(∀c∈sv.rt,c∈s.rt):=by
 cases s with
 |g j w' act u=>
  simp only[Zo]at h;split at h;rename_i e;cases h;have b:act=true:=(i j w' act sv rfl).2 (k j w' e);subst b;exact⟨(d.1 rfl).2,fun c hc=>by simpa[SV.sc]using hc,fun c hc=>by simpa[SV.bt]using hc,fun c hc=>by simpa[SV.rt]using hc⟩;cases h
 |_=>simp only[Zo,ac4]at h;subst h;exact⟨d,fun c hc=>hc,fun c hc=>hc,fun c hc=>hc⟩
theorem ad3:∀ {sv:SV} {v:Value},rn w G sv v->rn w G (pr sv) v
 | .box t u,v,h=>by obtain⟨i,c,el,b,k,l,h4,h5,h6⟩:=h;exact⟨i,k,l.trans b,b⟩
 | .g j w' act u,v,h=>⟨fun e=>⟨by
  have:=(h.1 e).1;cases u<;>first|rfl|(simp[SV.ye]at this),ad3 (h.1 e).2⟩,h.2⟩
 | .no,_,h| .d _,_,h| .ptr ..,_,h| .ept ..,_,h| .rdp ..,_,h| .tup _,_,h=>h
theorem aiY:∀sv:SV,(∀c∈(pr sv).sc,c∈sv.sc)/\(∀c∈(pr sv).bt,c∈sv.bt)/\(∀c∈(pr sv).rt,c∈sv.rt)
 | .box t u=>⟨by simp[pr,SV.sc],by simp[pr,SV.bt],by simp[pr,SV.rt]⟩
 | .g j w' true u=>by
   obtain⟨b,e,i⟩:=aiY u;exact⟨fun c hc=>by simp only[pr,SV.sc,if_true]at hc|-;exact b c hc,fun c hc=>by simp only[pr,SV.bt,if_true]at hc|-;exact e c hc,fun c hc=>by simp only[pr,SV.rt,if_true]at hc|-;exact i c hc⟩
 | .g j w' false u=>⟨fun c hc=>by simp[pr,SV.sc]at hc,fun c hc=>by simp[pr,SV.bt]at hc,fun c hc=>by simp[pr,SV.rt]at hc⟩
 | .no| .d _| .ptr ..| .ept ..| .rdp ..| .tup _=>⟨fun _ h=>h,fun _ h=>h,fun _ h=>h⟩
def aeN:∀sv t u,pr sv≠ .box t u
 | .box _ _,_,_,h| .g _ _ _ _,_,_,h| .no,_,_,h| .d _,_,_,h| .ptr ..,_,_,h| .ept ..,_,_,h| .rdp ..,_,_,h| .tup _,_,_,h=>by simp[pr]at h
theorem alr(j:Inv w0 c0 U E a w G){t:TypeId}{x:Operand}{sv:SV}(h:KR C E.rd t x=some sv):rn w G sv (a.eval x)/\lg U G sv:=by
 cases x with
 |tmp s=>
  simp only[KR,ac4]at h;subst h;have b:=j.Xe s;obtain⟨e,i,k⟩:=aiY (E.s.getD s .no);exact⟨ad3 (j.slots s),fun c hc=>b.1 c (e c hc),fun c hc=>b.2.1 c (i c hc),fun c hc=>b.2.2 c (k c hc)⟩
 |const v=>
  simp only[KR]at h;split at h;rw[S']at h;obtain⟨r,l,rfl⟩:=h;obtain⟨e,i,k⟩:=amQ (w:=w) (G:=G) l;refine⟨e,lg.d fun c hc=> ?_⟩;rw[i]at hc;have:=U6 _ _ c hc;simp[M.cO]at this;cases h
 |global g=>simp[KR]at h
 |func f=>simp[KR]at h
def ank(k:RI ops E a.tmps){t:TypeId}{x:Operand}{s:SV}(h:KR C E.rd t x=some s):
 ∀j w' act u,s= .g j w' act u->(act=true↔yielded ops.toArray a.tmps j=some w'):=by
 intro j w' act u e;cases x with
 |tmp n=>
  simp only[KR,ac4]at h;have b:pr (E.s.getD n .no)= .g j w' act u:=h.trans e;cases d:E.s.getD n .no with
  |g l i c m=>rw[d]at b;simp only[pr,SV.g.injEq]at b;obtain⟨rfl,rfl,rfl,_⟩:=b;exact k n l i c m d
  |_=>rw[d]at b;simp[pr]at b
 |const v=>
  simp only[KR]at h;split at h;rw[S']at h;obtain⟨r,hr,rfl⟩:=h;cases e;cases h
 |global g=>simp[KR]at h
 |func f=>simp[KR]at h
def KM(e:Inv w0 c0 U E a w G)(i:RI ops E a.tmps)(j:Gd ops a.tmps g){t:TypeId}{x:Operand}{sv:SV}(h:arg C E.rd g t x=some sv):
 rn w G sv (a.eval x)/\lg U G sv:=by
 simp only[arg,ahH]at h;obtain⟨s,d,k⟩:=h;obtain⟨l,b⟩:=alr e d;obtain⟨m,n,o,h6⟩:=apw l (ank i d) j k;exact⟨m,fun c hc=>b.1 c (n c hc),fun c hc=>b.2.1 c (o c hc),fun c hc=>b.2.2 c (h6 c hc)⟩
def Q9(e:Inv w0 c0 U E a w G)(i:RI ops E a.tmps)(j:Gd ops a.tmps g){t:TypeId}{x:Operand}{v:TV}(h:vr C E.rd g t x=some v):
 (∃cs,a.eval x=zE v.τ cs/\kE w G v.τ v.x v.sh cs)/\(∀c∈v.sh.cO,0<c/\U c/\G.bx c=false)/\v.sh.live=true:=by
 simp only[vr]at h;split at h;rename_i u b;split at h;rename_i d;cases h;obtain⟨k,l⟩:=KM e i j b;exact⟨k,l.1,d⟩;cases h;cases h
/-scalars-/
def Bj(d:Inv w0 c0 U E a w G)(e:RI ops E a.tmps)(i:Gd ops a.tmps g){t:TypeId}{x:Operand}{k:IntKind}{n:Int}{sh:Sh}
 (h:vr C E.rd g t x=some ⟨.int k,n,sh⟩):a.eval x= .int k n:=by
 obtain⟨⟨j,l,c⟩,_⟩:=Q9 d e i h;cases sh with
 |leaf=>rw[l,show j=_ from c];rfl
 |sl m=>exact c.elim
 |pair a b=>exact c.elim
def adm(d:Inv w0 c0 U E a w G)(e:RI ops E a.tmps)(i:Gd ops a.tmps g){t:TypeId}{x:Operand}{b:Bool}{sh:Sh}
 (h:vr C E.rd g t x=some ⟨.bool,b,sh⟩):a.eval x= .bool b:=by
 obtain⟨⟨j,k,c⟩,_⟩:=Q9 d e i h;cases sh with
 |leaf=>rw[k,show j=_ from c];rfl
 |sl m=>exact c.elim
 |pair a b=>exact c.elim
def US(d:Inv w0 c0 U E a w G)(e:RI ops E a.tmps)(i:Gd ops a.tmps g){t:TypeId}{x:Operand}{s:ByteArray}{sh:Sh}
 (h:vr C E.rd g t x=some ⟨.str,s,sh⟩):a.eval x= .string s:=by
 obtain⟨⟨j,k,c⟩,_⟩:=Q9 d e i h;cases sh with
 |leaf=>rw[k,show j=_ from c];rfl
 |sl m=>exact c.elim
 |pair a b=>exact c.elim
def Rb(i:Inv w0 c0 U E a w G)(j:RI ops E a.tmps)(k:Gd ops a.tmps g){t:TypeId}{x:Operand}{e:Ty}{l:List e.den}{sh:Sh}
 (h:vr C E.rd g t x=some ⟨.sl e,l,sh⟩):∃m,sh= .sl m/\qs w G e l (a.eval x) m/\m≠ .dead/\(∀c∈m.cO,0<c/\U c/\G.bx c=false):=by
 obtain⟨⟨cs,n,d⟩,o,p⟩:=Q9 i j k h;cases sh with
 |leaf=>exact d.elim
 |sl m=>
  obtain⟨v,rfl,q⟩:=d;exact⟨m,rfl,by rw[n];exact q,by rintro rfl;simp[Sh.live]at p,o⟩
 |pair a b=>exact d.elim
def tM(b:Inv w0 c0 U E a w G){r:Result Next}{sv:SV}{mv:Value}(c:r= .ok (.value mv) w)(hs:rn w G sv mv)(d:lg U G sv)
 (h:∀t u,sv≠ .box t u):Yields w0 c0 U E a r sv:=⟨mv,w,G,c,b,hs,d,fun t u e=>absurd e (h t u)⟩
def ok_int(k:IntKind)(n:Int):rn w G (vI k n) (.int k n):=⟨_,rfl,rfl⟩
def ao7(b:Bool):rn w G (vB b) (.bool b):=⟨_,rfl,rfl⟩
def apq(s:ByteArray):rn w G (vS s) (.string s):=⟨_,rfl,rfl⟩
def anE(k:IntKind)(n:Int):lg U G (vI k n):=lg.nil rfl
def amN(b:Bool):lg U G (vB b):=lg.nil rfl
def anC(s:ByteArray):lg U G (vS s):=lg.nil rfl
def zZ(b:Inv w0 c0 U E a w G){r:Result Next}{k:IntKind}{n:Int}(c:r= .ok (.value (.int k n)) w):Yields w0 c0 U E a r (vI k n):=
 tM b c (ok_int k n) (anE k n) (by rintro t u ⟨⟩)
def xz(c:Inv w0 c0 U E a w G){r:Result Next}{b:Bool}(d:r= .ok (.value (.bool b)) w):Yields w0 c0 U E a r (vB b):=
 tM c d (ao7 b) (amN b) (by rintro t u ⟨⟩)
def Vx(b:Inv w0 c0 U E a w G){r:Result Next}{s:ByteArray}(c:r= .ok (.value (.string s)) w):Yields w0 c0 U E a r (vS s):=
 tM b c (apq s) (anC s) (by rintro t u ⟨⟩)
def SN(w0:World)(c0:C0)(U:Nat->Prop)(E:Env)(a:Act)(r:Result Next):Ef->Prop
 | .val v=>Yields w0 c0 U E a r v
 | .chk c v=>c=true->Yields w0 c0 U E a r v
 |_=>False
/-move,assign-/
def alJ:∀ {sv:SV} {j w' act u},pr sv= .g j w' act u->∃b,sv= .g j w' act b/\u=pr b
 | .g _ _ _ v,j,w',act,u,h=>by simp only[pr,SV.g.injEq]at h;obtain⟨rfl,rfl,rfl,rfl⟩:=h;exact⟨v,rfl,rfl⟩
 | .box _ _,_,_,_,_,h| .no,_,_,_,_,h| .d _,_,_,_,_,h| .ptr ..,_,_,_,_,h| .ept ..,_,_,_,_,h| .rdp ..,_,_,_,_,h| .tup _,_,_,_,_,h=>by simp[pr]at h
def anj{t:TypeId}{x:Operand}{sv:SV}(h:arg C E.rd g t x=some sv):∀b u,sv≠ .box b u:=by
 intro b u e;subst e;simp only[arg,ahH]at h;obtain⟨s,d,i⟩:=h;cases x with
 |tmp n=>
  simp only[KR,ac4]at d;cases c:s with
  |g j w' act v=>
   obtain⟨u',_,rfl⟩:=alJ (d.trans c);rw[c]at i;simp only[Zo]at i;split at i;simp only[ac4]at i;exact aeN _ b u i;cases i
  |_=>
   rw[c]at i;simp only[Zo,ac4,reduceCtorEq]at i
   try (rw[<-d]at c;exact aeN _ b u (c.trans i))
 |const v=>
  simp only[KR]at d;split at d;rw[S']at d;obtain⟨r,hr,rfl⟩:=d;simp[Zo]at i;cases d
 |global g=>simp[KR]at d
 |func f=>simp[KR]at d
def alk(b:Inv w0 c0 U E a w G)(c:RI ops E a.tmps)(d:Gd ops a.tmps g){t:TypeId}{x:Operand}{sv:SV}(h:arg C E.rd g t x=some sv)
 {r:Result Next} (e:r= .ok (.value (a.eval x)) w):Yields w0 c0 U E a r sv:=
 tM b e (KM b c d h).1 (KM b c d h).2 (anj h)
def ao1(c:Inv w0 c0 U E a w G){op:BinOp}{k k':IntKind}{m n:Int}{t:TypeId}{x y:Operand}{e:Ef}(d:k=k'\/op= .shl\/op= .shr)
 (i:a.eval x= .int k m) (j:a.eval y= .int k' n) (h:aoa op k m n=some e):
 SN w0 c0 U E a ((do pure (.value (<-(do eqGuard op t x y (a.eval x) (a.eval y);binOp op t (a.eval x) (a.eval y)))):Sem Next).run P w) e:=by
 rw[i,j];have b:∀v,eqGuard op t x y (.int k m) v=pure ():=fun v=>eqGuard_at_int ..;cases op<;>simp only[aoa,ac4,reduceCtorEq]at h<;>(try cases h)<;>simp only[SN]
 case add=>
  obtain rfl:k=k':=(by simpa using d)
  exact zZ c (by simp[b,binOp,Op.intArith])
 case sub=>
  obtain rfl:k=k':=(by simpa using d)
  exact zZ c (by simp[b,binOp,Op.intArith])
 case mul=>
  obtain rfl:k=k':=(by simpa using d)
  exact zZ c (by simp[b,binOp,Op.intArith])
 case quo=>
  obtain rfl:k=k':=(by simpa using d)
  intro hc;have hc:=e_ hc;exact zZ c (by simp[b,binOp,Op.intDiv,hc])
 case rem=>
  obtain rfl:k=k':=(by simpa using d)
  intro hc;have hc:=e_ hc;exact zZ c (by simp[b,binOp,Op.intDiv,hc])
 case and=>
  obtain rfl:k=k':=(by simpa using d)
  exact zZ c (by simp[b,binOp,Op.intBits,bits])
 case or=>
  obtain rfl:k=k':=(by simpa using d)
  exact zZ c (by simp[b,binOp,Op.intBits,bits])
 case xor=>
  obtain rfl:k=k':=(by simpa using d)
  exact zZ c (by simp[b,binOp,Op.intBits,bits])
 case shl=>intro hc;have hc:=e_ hc;exact zZ c (by simp[b,binOp,Op.shift,Int.not_lt.2 hc])
 case shr=>intro hc;have hc:=e_ hc;exact zZ c (by simp[b,binOp,Op.shift,Int.not_lt.2 hc])
 case eql=>
  obtain rfl:k=k':=(by simpa using d)
  exact xz c (by simp[b,binOp,Op.intCmp])
 case neq=>
  obtain rfl:k=k':=(by simpa using d)
  exact xz c (by simp[b,binOp,Op.intCmp])
 case lss=>
  obtain rfl:k=k':=(by simpa using d)
  exact xz c (by simp[b,binOp,Op.intCmp])
 case leq=>
  obtain rfl:k=k':=(by simpa using d)
  exact xz c (by simp[b,binOp,Op.intCmp])
 case gtr=>
  obtain rfl:k=k':=(by simpa using d)
  exact xz c (by simp[b,binOp,Op.intCmp])
 case geq=>
  obtain rfl:k=k':=(by simpa using d)
  exact xz c (by simp[b,binOp,Op.intCmp])
def aoQ(c:Inv w0 c0 U E a w G){op:BinOp}{m n:ByteArray}{t:TypeId}{x y:Operand}{d:Ef}
 (e:a.eval x= .string m) (i:a.eval y= .string n) (h:anw op m n=some d):
 SN w0 c0 U E a ((do pure (.value (<-(do eqGuard op t x y (a.eval x) (a.eval y);binOp op t (a.eval x) (a.eval y)))):Sem Next).run P w) d:=by
 rw[e,i];have b:∀v,eqGuard op t x y (.string m) v=pure ():=fun v=>eqGuard_at_string ..;cases op<;>simp only[anw,ac4,reduceCtorEq]at h<;>(try cases h)<;>simp only[SN]
 case add=>
  intro hc;have hc:=e_ hc;have j:¬(9223372036854775807<(m.size:Int)+(n.size:Int)):=by omega
  exact Vx c (by simp[b,binOp,Op.stringOp,j])
 case eql=>exact xz c (by simp[b,binOp,Op.stringOp])
 case neq=>exact xz c (by simp[b,binOp,Op.stringOp])
 case lss=>exact xz c (by simp[b,binOp,Op.stringOp])
 case leq=>exact xz c (by simp[b,binOp,Op.stringOp])
 case gtr=>exact xz c (by simp[b,binOp,Op.stringOp])
 case geq=>exact xz c (by simp[b,binOp,Op.stringOp])
theorem aeO:∀(l:List SV) (t k s:Nat) (v:TV),zG l t k=some (s,v)->k<=s/\l.getD (s-k) .no= .box t v
 | [],_,_,_,_,h=>by simp[zG]at h
 |x::l,t,k,s,v,h=>by
  have step:zG l t (k+1)=some (s,v)->k<=s/\(x::l).getD (s-k) .no= .box t v:=by
   intro h;obtain⟨h1,b⟩:=aeO l t (k+1) s v h;refine⟨by omega,?_⟩;rw[show s-k=(s-(k+1))+1 by omega];simpa using b
  cases x with
  |box u y=>
   simp only[zG]at h;split at h;rename_i e;simp only[ac4,agf]at h;obtain⟨rfl,rfl⟩:=h;subst e;exact⟨agc _,by simp⟩;exact step h
  |_=>exact step h
theorem abL:∀ {τ:Ty} {x:τ.den} {sh:Sh} {cs:List Value} {t:Nat} {e:Ty} {l:List e.den} {hs:List Nat} {d:Bool},
 kE w G τ x sh cs->OA t e τ x sh=some (l,hs,d)->∃v,qs w G e l v (.row t hs d)/\(∀c∈hs,c∈sh.cO)/\t∈sh.cO
 | .sl e',l',.sl (.row u hs' nd'),cs,t,e,l,hs,d,hv,h=>by
   obtain⟨v,rfl,i⟩:=hv;simp only[OA]at h;split at h;rename_i n;split at h;rename_i o;subst n o;simp only[cast_eq,ac4,agf]at h;obtain⟨rfl,rfl,rfl⟩:=h;exact⟨v,i,fun c hc=>by simp[Sh.cO,M.cO,hc],by simp[Sh.cO,M.cO]⟩;cases h;cases h
 | .pair a b,p,.pair s1 s2,cs,t,e,l,hs,d,hv,h=>by
   obtain⟨c1,c2,rfl,q,s⟩:=hv;simp only[OA]at h;split at h;rename_i r i;cases h;obtain⟨v,j,k,m⟩:=abL q i;exact⟨v,j,fun c hc=>by simp[Sh.cO,k c hc],by simp[Sh.cO,m]⟩;obtain⟨v,j,k,m⟩:=abL s h;exact⟨v,j,fun c hc=>by simp[Sh.cO,k c hc],by simp[Sh.cO,m]⟩
 | .sl _,_,.leaf,_,_,_,_,_,_,_,h| .sl _,_,.pair _ _,_,_,_,_,_,_,_,h| .sl _,_,.sl (.sha _),_,_,_,_,_,_,_,h| .sl _,_,.sl .dead,_,_,_,_,_,_,_,h
 | .int _,_,_,_,_,_,_,_,_,_,h| .bool,_,_,_,_,_,_,_,_,_,h| .str,_,_,_,_,_,_,_,_,_,h
 | .pair _ _,_,.leaf,_,_,_,_,_,_,_,h| .pair _ _,_,.sl _,_,_,_,_,_,_,_,h=>by simp[OA]at h
theorem aga:∀(L:List SV) {t:Nat} {e:Ty} {l:List e.den} {hs:List Nat} {i:Bool},(∀s∈L,∃mv,rn w G s mv)->CT t e L=some (l,hs,i)->
 ∃s∈L,(∃v,qs w G e l v (.row t hs i))/\(∀c∈hs,c∈s.sc)/\t∈s.sc
 | [],_,_,_,_,_,_,h=>by simp[CT]at h
 |x::L,t,e,l,hs,i,hL,h=>by
  have step:CT t e L=some (l,hs,i)->∃s∈x::L,(∃v,qs w G e l v (.row t hs i))/\(∀c∈hs,c∈s.sc)/\t∈s.sc:=by
   intro h;obtain⟨s,q,y⟩:=aga L (fun s hs=>hL s (af1 _ hs)) h;exact⟨s,af1 _ q,y⟩
  obtain⟨mv,p⟩:=hL x (by simp);cases x with
  |d v=>
   simp only[CT]at h;split at h;rename_i r j;cases h;obtain⟨cs,_,k⟩:=p;obtain⟨u,m,n,o⟩:=abL k j;exact⟨.d v,by simp,⟨u,m⟩,n,o⟩;exact step h
  |box b v=>
   simp only[CT]at h;split at h;rename_i r j;cases h;obtain⟨bk,c,el,_,_,_,_,_,k⟩:=p;obtain⟨u,m,n,o⟩:=abL k j;exact⟨.box b v,by simp,⟨u,m⟩,n,o⟩;exact step h
  |_=>exact step h
theorem Inv.CT(o:Inv w0 c0 U E a w G){t:Nat}{e:Ty}{l:List e.den}{hs:List Nat}{p:Bool}(h:E.rd.row t e=some (l,hs,p)):
 (∃v,qs w G e l v (.row t hs p))/\(∀c∈t::hs,0<c/\U c/\G.bx c=false):=by
 obtain⟨s,q,u,y,z⟩:=aga (w:=w) (G:=G) E.s (fun s hs=>by
  obtain⟨i,b,rfl⟩:=ahk.1 hs;exact⟨_,by have:=o.slots i;simpa[ahJ,b]using this⟩) h
 obtain⟨i,b,rfl⟩:=ahk.1 q;refine⟨u,fun c hc=> ?_⟩;have:=o.sc i c;simp only[ahJ,b,agV,ahD]at this;rcases S_.1 hc with rfl|hc;exact this z;exact this (y c hc)
theorem Inv.box(l:Inv w0 c0 U E a w G){t s:Nat}{v:TV}(h:E.rd.box t=some (s,v)):
 E.s.getD s .no= .box t v/\∃b c el,G.hdr t= .pointer (some ⟨b,0,none⟩)/\4<=t/\G.col b=t/\w.heap[b]?=some (.cells c el (0,0))/\kE w G v.τ v.x v.sh c.toList/\(∀c∈v.sh.cO,0<c/\U c/\G.bx c=false):=by
 obtain⟨_,e⟩:=aeO E.s t 0 s v h;simp only[Nat.sub_zero]at e;have o:=l.slots s;have hc:=l.sc s;rw[e]at o hc;obtain⟨b,c,el,p,q,u,y,z,B⟩:=o;exact⟨e,b,c,el,u.trans p,q,y,z,B,hc⟩
theorem qs.elem{e:Ty}{l:List e.den}{v:Value}{t:Nat}{hs:List Nat}{D:Bool}(h:qs w G e l v (.row t hs D)){i:Nat}(u:i<l.length):
 ∃b off cap c el q B,v= .slice (some ⟨b,off,none⟩) l.length cap/\w.heap[b]?=some (.cells c el q)/\off+cap*e.sz<=c.size/\l.length<=cap/\G.col b=t/\
  fl w e (l.getD i e.aa) ((c.toList.drop (off+i*e.sz)).take e.sz) B/\(∀x∈B,G.col x∈hs):=by
 obtain⟨_,_,B,H,hc⟩:=h;rcases H with⟨_,rfl,_⟩|⟨b,off,cap,c,el,q,I,J,o,K,y,rfl,L⟩;simp at u;obtain⟨N,_,R,_⟩:=hc b I rfl;have p:l[i]?=some l[i]:=agV u;obtain⟨B1,S,B2,rfl,z,_,_⟩:=fN.get (sz:=e.sz) (fun x c B h=>fl.len h) L p;refine⟨b,off,cap,c,el,q,S,J,K,y,o,N,?_,fun x p=>R x (by simp[p])⟩;have hmul:(i+1)*e.sz<=l.length*e.sz:=afR _ u;rw[J8,ag6]at hmul;rw[ahJ,p,ahD];rw[agB,agX,agv,agU (by omega)]at z;exact z
theorem Bk.elem{e:Ty}{l:List e.den}{v:Value}{B:List Nat}(h:Bk w e.sz (fl w e) l v B){i:Nat}(u:i<l.length):
 ∃b off cap c el q B',v= .slice (some ⟨b,off,none⟩) l.length cap/\w.heap[b]?=some (.cells c el q)/\off+cap*e.sz<=c.size/\l.length<=cap/\b∈B/\
  fl w e (l.getD i e.aa) ((c.toList.drop (off+i*e.sz)).take e.sz) B'/\(∀x∈B',x∈B):=by
 rcases h with⟨_,rfl,_⟩|⟨b,off,cap,c,el,q,Bs,D,o,H,y,rfl,I⟩;simp at u;have p:l[i]?=some l[i]:=agV u;obtain⟨B1,J,B2,rfl,z,_,_⟩:=fN.get (sz:=e.sz) (fun x c B h=>fl.len h) I p;refine⟨b,off,cap,c,el,q,J,D,H,y,o,by simp,?_,fun x p=>by simp[p]⟩;have hmul:(i+1)*e.sz<=l.length*e.sz:=afR _ u;rw[J8,ag6]at hmul;rw[ahJ,p,ahD];rw[agB,agX,agv,agU (by omega)]at z;exact z
def akZ{s:TypeId}{i:TI}(d:aia P s i){j:Nat}(hj:j<i.fs.length)(b o:Nat):
 (Instr.fieldAt s (.pointer (some ⟨b,o,none⟩)) j).run P w= .ok (.pointer (some ⟨b,o+i.τ.off (nu i.fs.length j),none⟩)) w\/i.τ.qH=false:=by
 obtain⟨_,d⟩:=d;cases h:i.τ with
 |pair x y=>
  rw[h]at d;obtain⟨fields,l,hsz,m⟩:=d;left;have c:j<fields.size:=by omega
  obtain⟨n,h2,e,h3,p⟩:=m j fields[j] (afL c);have k:e.sz≠0:=Nat.ne_of_gt e.UY;simp[Instr.fieldAt,run_underlying l,afL c,Instr.sureAddr,fieldPlace,Bl p,k,n,Addr.add_lit]
 |_=>right;rfl
def anG{τ σ:Ty}{b:Bool}{p:List Bool}(h:τ.sub (b::p)=some σ):τ.qH=true:=by
 cases τ<;>simp[Ty.sub,Ty.qH]at h|-
def ao2{hs:List Nat}{v r:TV}{mv:Value}{p:List Bool}(h:rn w G (.rdp hs v) mv)(e:OI v.τ v.x v.sh p=some r):
 ∃b o,mv= .pointer (some ⟨b,o,none⟩)/\rn w G (.rdp hs r) (.pointer (some ⟨b,o+v.τ.off p,none⟩)):=by
 obtain⟨b,o,c,el,i,j,k,h3,l,m⟩:=h;obtain⟨d,g2,g3,_⟩:=kE.sub e m;refine⟨b,o,j,b,o+v.τ.off p,c,el,i,rfl,k,by omega,l,?_⟩;rw[agB,agX,agv,agU (by omega)]at d;exact d
def akW(i:Inv w0 c0 U E a w G){t:Nat}(k:¬U t)(o:Obj)(v:Value)(x:Bool)(S:List Nat)(h:∀c∈S,0<c/\U c):
 abw S S w (w.alloc o) G (G.add w.heap.size t v x):=by
 refine⟨fun b d=> ?_,fun b d=> ?_,fun u j=> ?_⟩;exact heap_alloc_old w _ b (i.lt b (h _ d).1);have:=i.lt b (h _ d).1;simp[Gh.add,ahC this];have:u≠t:=fun e=>k (e▸(h u j).2);simp[Gh.add,this]
def akz(b:Inv w0 c0 U E a w G){t:Nat}(c:¬U t)(s:Nat)(u:TV):E.s.getD s .no≠ .box t u:=by
 intro e;have:=b.bt s t (by rw[e];simp[SV.bt]);exact c this.2.1
def aiX(d:Inv w0 c0 U E a w G){t:Nat}(j:4<=t)(b:¬U t){v:TV}{cs:List Value}(l:kE w G v.τ v.x v.sh cs)
 (hc:∀c∈v.sh.cO,0<c/\U c/\G.bx c=false) (el:TypeId) {r:Result Next}
 (m:r= .ok (.value (.pointer (some ⟨w.heap.size,0,none⟩))) (w.alloc (.cells cs.toArray el))):Yields w0 c0 (fun u=>U u\/u=t) E a r (.box t v):=by
 refine⟨_,_,G.add w.heap.size t (.pointer (some ⟨w.heap.size,0,none⟩)) true,m,d.alloc j b _ _ _ _,⟨w.heap.size,cs.toArray,el,rfl,j,by simp[Gh.add],by simp[Gh.add],heap_alloc_new w _,?_⟩,⟨?_,?_,?_⟩,?_⟩;exact kE.agree (akW d b _ _ _ _ (fun c h=>⟨(hc c h).1,(hc c h).2.1⟩)) l;intro c h;have:=hc c h;have i:c≠t:=fun e=>b (e▸this.2.1);exact⟨this.1,.inl this.2.1,by simp[Gh.add,i,this.2.2]⟩;intro c h;simp only[SV.bt,agi]at h;subst h;exact⟨by omega,.inr rfl,by simp[Gh.add]⟩;intro c h;simp[SV.rt]at h;intro t' u e s k;cases e;exact akz d b s k
theorem adA(p:Inv w0 c0 U E a w G){t:Nat}(y:4<=t)(z:¬U t){e:Ty}{l:List e.den}{cs:List Value}{B:List Nat}{hs:List Nat}{D:Bool}{n cap:Nat}(el:TypeId)
 (I:n=l.length) (F:fN (fl w e) l cs B) (k:n<=cap) (rest:List Value) (hsz:cap*e.sz<=cs.length+rest.length)
 (H:∀b∈B,0<G.col b) (q:∀b∈B,G.col b∈hs) (s:∀c∈hs,(0<c/\U c/\G.bx c=false)\/c=t) (v:D=true->B.Nodup)
 {r:Result Next} (J:r= .ok (.value (.slice (some ⟨w.heap.size,0,none⟩) n cap)) (w.alloc (.cells (cs++rest).toArray el))):
 Yields w0 c0 (fun u=>U u\/u=t) E a r (.d ⟨.sl e,l,.sl (.row t hs D)⟩):=by
 subst I;have hlen:=fN.len (sz:=e.sz) (fun x c B h=>fl.len h) F;refine⟨_,_,G.add w.heap.size t (.slice (some ⟨w.heap.size,0,none⟩) l.length cap) false,J,p.alloc y z _ _ _ _,⟨[_],rfl,_,rfl,y,by simp[Gh.add],w.heap.size::B,?_,?_⟩,lg.d fun c hc=> ?_,by rintro _ _ ⟨⟩⟩;refine .inr ⟨w.heap.size,0,cap,_,el,(0,0),B,rfl,k,heap_alloc_new w _,by simp;omega,rfl,?_⟩;simp only[ahR];rw[ags (by omega),af7 (by omega)];exact fN.mono (fun b=>b<w.heap.size) (fun x c B m j=>fl.mono (fun b o=>heap_alloc_old w _ b (m b o)) j) (fun b o=>p.lt b (H b o)) F;rintro b Bs ⟨⟩;have i:∀x∈B,x≠w.heap.size:=fun x j=>ahC (p.lt x (H x j));refine⟨by simp[Gh.add],fun h=>i _ h rfl,fun x j=> ?_,v⟩;simp only[Gh.add,a_ (i x j)];exact q x j;simp only[Sh.cO,M.cO,S_]at hc;rcases hc with rfl|hc;exact⟨by omega,.inr rfl,by simp[Gh.add]⟩;rcases s c hc with h|rfl;have i:c≠t:=fun e=>z (e▸h.2.1);exact⟨h.1,.inl h.2.1,by simp[Gh.add,i,h.2.2]⟩;exact⟨by omega,.inr rfl,by simp[Gh.add]⟩
end
def foldl_set(b:List Value):∀(off:Nat) (cs:Array Value) (k:Nat),off+k+b.length<=cs.size->
 ((b.zipIdx k).foldl (fun cs p=>cs.setIfInBounds (off+p.2) p.1) cs).toList=cs.toList.take (off+k)++b++cs.toList.drop (off+k+b.length):=by
 induction b with
 |nil=>intro off cs k h;simp
 |cons v r i=>
  intro off cs k h;simp only[ahb]at h;rw[List.zipIdx_cons,List.foldl_cons,i off _ (k+1) (by simp;omega)];have c:off+k<cs.toList.length:=by simp;omega
  simp only[ahx]
  have d:(cs.toList.set (off+k) v).drop (off+(k+1)+r.length)=cs.toList.drop (off+k+(r.length+1)):=by
   rw[aiZ (by omega)];congr 1;omega
  have e:(cs.toList.set (off+k) v).take (off+(k+1))=cs.toList.take (off+k)++[v]:=by
   rw[<-aiV,ahd (by simpa using c),ai1 (agc _)];simp
  rw[d,e];simp
def ac9(v:Array Value)(off:Nat)(cs:Array Value)(h:off+v.size<=cs.size):
 (v.zipIdx.foldl (fun cs (p:Value×Nat)=>cs.setIfInBounds (off+p.2) p.1) cs).toList=cs.toList.take off++v.toList++cs.toList.drop (off+v.size):=by
 rw[<-Array.foldl_toList,Array.toList_zipIdx];simpa using foldl_set v.toList off cs 0 (by simpa using h)
section
variable{P:Program}{C:Cx}{w0:World}{c0:C0}{U:Nat->Prop}{E:Env}{a:Act}{w:World}{G:Gh}{ops:List Oper}{g:Option (Nat×Bool)}
theorem ah6:∀ {p:List Bool} {τ:Ty} {x:τ.den} {sh:Sh} {v:TV} {y:τ.den} {s:Sh},N3 τ x sh p v=some (y,s)->τ.sub p=some v.τ
 | [],τ,x,sh,v,y,s,h=>by
   have:OP v τ=some y:=by cases τ<;>(simp only[N3]at h;split at h<;>simp_all)
   rw[Ea this];cases τ<;>rfl
 |false::p,.pair a b,x,.pair s1 s2,v,y,s,h=>by
  simp only[N3]at h;split at h;rename_i c;simp only[Ty.sub];exact ah6 c;cases h
 |true::p,.pair a b,x,.pair s1 s2,v,y,s,h=>by
  simp only[N3]at h;split at h;rename_i c;simp only[Ty.sub];exact ah6 c;cases h
 |b::p,.int _,_,_,_,_,_,h|b::p,.bool,_,_,_,_,_,h|b::p,.str,_,_,_,_,_,h|b::p,.sl _,_,_,_,_,_,h=>by simp[N3]at h
 |false::p,.pair _ _,_,.leaf,_,_,_,h|false::p,.pair _ _,_,.sl _,_,_,_,h=>by simp[N3]at h
 |true::p,.pair _ _,_,.leaf,_,_,_,h|true::p,.pair _ _,_,.sl _,_,_,_,h=>by simp[N3]at h
theorem ajC{i:TI}{fields:Array Field}(K:Inv w0 c0 U E a w G)(L:RI ops E a.tmps)(N:Gd ops a.tmps g)
 (R:∀(j:Nat) (f:Field),fields[j]?=some f->aep P i.τ i.fs j f) (B:fields.size=i.fs.length) (place:Nat->Option (Nat×Nat))
 (l:∀(j:Nat) (f:Field) (σ:Ty),fields[j]?=some f->i.τ.sub (nu i.fs.length j)=some σ->place j=some (f.offset,σ.sz)):
 ∀(ps:List (Nat×Operand)) (x:i.τ.den) (sh:Sh) (cells:Array Value) (y:i.τ.den) (s:Sh),kE w G i.τ x sh cells.toList->(∀c∈sh.cO,0<c/\U c/\G.bx c=false)->
  Ww C E.rd g i ps x sh=some (y,s)->
  ∃b,Instr.fill place cells (ps.map fun p=>(p.1,a.eval p.2))=some b/\kE w G i.τ y s b.toList/\(∀c∈s.cO,0<c/\U c/\G.bx c=false)
 | [],x,sh,cells,y,s,hx,hc,h=>by
   simp only[Ww,ac4,agf]at h;obtain⟨rfl,rfl⟩:=h;exact⟨cells,rfl,hx,hc⟩
 |(j,o)::ps,x,sh,cells,y,s,hx,hc,h=>by
  simp only[Ww]at h;split at h;cases h;rename_i ft r;split at h;cases h;rename_i v X;split at h;rename_i I J t;obtain⟨⟨Y,he,d⟩,F,_⟩:=Q9 K L N X;obtain⟨h1,h2,h3⟩:=kE.put t hx d
  have S:j<fields.size:=by
   have:=(ahA.1 r).1;omega
  obtain⟨f1,f2,σ,f3,f4⟩:=R j fields[j] (afL S);have m:i.τ.sub (nu i.fs.length j)=some v.τ:=ah6 t;have n:=l j fields[j] v.τ (afL S) m;rw[f1]at n;simp only[List.map_cons,he]
  have key:∀b,kE w G i.τ I J b.toList->∃q,Instr.fill place b (ps.map fun p=>(p.1,a.eval p.2))=some q/\kE w G i.τ y s q.toList/\(∀c∈s.cO,0<c/\U c/\G.bx c=false):=by
   intro b u;refine ajC K L N R B place l ps I J b y s u (fun c z=> ?_) h;rcases h3 c z with h|h;exact hc c h;exact F c h
  obtain⟨H,h2',_⟩:=kE.put t hx d;have W:=kE.len hx;have k:=VF (kE.len d) (kE.one d);have D:=Sn (kE.len d) (kE.one d);have e:=ac9 (zE v.τ Y).cells (i.τ.off (nu i.fs.length j)) cells (by rw[k];simp at W;omega);rw[D,k]at e;obtain⟨q,k1,k2,k3⟩:=key _ (by rw[e];exact H);refine⟨q,?_,k2,k3⟩;simp only[Instr.fill,n];rw[a_ (by simp[k];simp at W;omega)];exact k1;cases h
theorem M.Ra{m:M}{ts:List Nat}(h:m.own=some ts):∀c∈ts,c∈m.cO:=by
 cases m with
 |row t e nd=>
  simp only[M.own]at h;split at h;simp only[ac4]at h;subst h;intro c hc;simp only[S_,ahM]at hc;rcases hc with rfl|hc;simp[M.cO];simp[M.cO,hc.1];cases h
 |sha e=>
  cases e with
  |nil=>simp only[M.own,ac4]at h;subst h;simp
  |cons x l=>simp[M.own]at h
 |nst b E i o p fr=>simp[M.own]at h
 |dead=>simp[M.own]at h
theorem M.S1{t:Nat}{hs:List Nat}{b:Bool}{ts:List Nat}(h:(M.row t hs b).own=some ts):b=true/\(∀c∈hs,4<=c)/\(∀c,c∈ts↔c=t\/c∈hs):=by
 simp only[M.own]at h;split at h;rename_i hc;simp only[af0,agS,b_]at hc;simp only[ac4]at h;subst h;refine⟨hc.1,hc.2,fun c=> ?_⟩;simp only[S_,ahM,decide_not,agL,d_];by_cases e:c=t<;>simp[e];cases h
theorem qs.own{e:Ty}{l:List e.den}{v:Value}{m:M}{ts:List Nat}(h:qs w G e l v m)(c:m.own=some ts):
 ∃B,Bk w e.sz (fl w e) l v B/\B.Nodup/\∀b∈B,G.col b∈ts:=by
 cases m with
 |row t z nd=>
  obtain⟨H,h2,y⟩:=M.S1 c;obtain⟨_,_,B,q,hc⟩:=h;cases B with
  |nil=>exact⟨[],q,by simp,by simp⟩
  |cons b D=>
   obtain⟨I,J,K,L⟩:=hc b D rfl;refine⟨b::D,q,List.nodup_cons.2 ⟨J,L H⟩,fun x u=> ?_⟩;rcases S_.1 u with rfl|u;exact(y _).2 (.inl I);exact(y _).2 (.inr (K x u))
 |sha z=>
  cases z with
  |nil=>
   obtain⟨⟨B,q,hc⟩,_⟩:=h;have:B=[]:=by cases B with|nil=>rfl|cons x l=>exact absurd (hc x (by simp)) (by simp)
   subst this;exact⟨[],q,by simp,by simp⟩
  |cons x l=>simp[M.own]at c
 |nst b E i o p fr=>simp[M.own]at c
 |dead=>simp[M.own]at c
theorem M.aiK{m:M}{ts:List Nat}(h:m.acx=some ts):(∃t hs q,m= .row t hs q/\(∀c∈hs,4<=c)/\∀c,c∈ts↔c=t\/c∈hs)\/(m= .sha []/\ts=[]):=by
 cases m with
 |row t hs q=>
  simp only[M.acx]at h;split at h;rename_i hc;simp only[agS,b_]at hc;simp only[ac4]at h;subst h;refine .inl ⟨t,hs,q,rfl,hc,fun c=> ?_⟩;simp only[S_,ahM,decide_not,agL,d_];by_cases e:c=t<;>simp[e];cases h
 |sha hs=>
  cases hs with
  |nil=>simp only[M.acx,ac4]at h;subst h;exact .inr ⟨rfl,rfl⟩
  |cons x l=>simp[M.acx]at h
 |nst b E i o p fr=>simp[M.acx]at h
 |dead=>simp[M.acx]at h
theorem qs.nil{e:Ty}{l:List e.den}{v:Value}(h:qs w G e l v (.sha [])):v= .slice none 0 0/\∃B,Bk w e.sz (fl w e) l v B/\B=[]:=by
 obtain⟨⟨B,b,hc⟩,c⟩:=h;exact⟨c rfl,B,b,by cases B with|nil=>rfl|cons x l=>exact absurd (hc x (by simp)) (by simp)⟩
theorem Sh.Ra:∀ {sh:Sh} {ts:List Nat},sh.own=some ts->∀c∈ts,c∈sh.cO
 | .leaf,ts,h,c,hc=>by simp only[Sh.own,ac4]at h;subst h;simp at hc
 | .sl m,ts,h,c,hc=>M.Ra h c hc
 | .pair a b,ts,h,c,hc=>by
   simp only[Sh.own]at h;split at h;rename_i x y e l;split at h;simp only[ac4]at h;subst h;rcases o_.1 hc with hc|hc;simp[Sh.cO,Sh.Ra e c hc];simp[Sh.cO,Sh.Ra l c hc];cases h;cases h
theorem kE.own:∀ {τ:Ty} {x:τ.den} {sh:Sh} {cs:List Value} {ts:List Nat},kE w G τ x sh cs->sh.own=some ts->∃B,fl w τ x cs B/\B.Nodup/\∀b∈B,G.col b∈ts
 | .int _,_,.leaf,_,_,h,_=>⟨[],⟨h,rfl⟩,by simp,by simp⟩
 | .bool,_,.leaf,_,_,h,_=>⟨[],⟨h,rfl⟩,by simp,by simp⟩
 | .str,_,.leaf,_,_,h,_=>⟨[],⟨h,rfl⟩,by simp,by simp⟩
 | .sl e,l,.sl m,cs,ts,h,ho=>by
   obtain⟨v,rfl,K⟩:=h;obtain⟨B,L,N,hc⟩:=K.own ho;exact⟨B,⟨v,rfl,L⟩,N,hc⟩
 | .pair a b,p,.pair s1 s2,cs,ts,h,ho=>by
   obtain⟨R,S,rfl,W,X⟩:=h;simp only[Sh.own]at ho;split at ho;rename_i x y I J;split at ho;rename_i q;simp only[ac4]at ho;subst ho;obtain⟨u,Y,n1,z⟩:=kE.own W I;obtain⟨D,r2,n2,H⟩:=kE.own X J;refine⟨u++D,⟨R,S,u,D,rfl,rfl,Y,r2⟩,ag1.2 ⟨n1,n2,?_⟩,fun b c=> ?_⟩;intro b c b' o e;subst e;simp only[agS,agL,agr,d_]at q;exact q _ (z b c) (H b o);rcases o_.1 c with c|c;exact afS _ (z b c);exact af3 _ (H b c);cases ho;cases ho
 | .int _,_,.sl _,_,_,h,_| .int _,_,.pair _ _,_,_,h,_| .bool,_,.sl _,_,_,h,_| .bool,_,.pair _ _,_,_,h,_
 | .str,_,.sl _,_,_,h,_| .str,_,.pair _ _,_,_,h,_| .sl _,_,.leaf,_,_,h,_| .sl _,_,.pair _ _,_,_,h,_
 | .pair _ _,_,.leaf,_,_,h,_| .pair _ _,_,.sl _,_,_,h,_=>h.elim
def aaa(w:World)(G:Gh)(e:Ty):List e.den->List Sh->List (List Value)->Prop
 | [],[],[]=>True
 |x::l,s::ss,c::cs=>kE w G e x s c/\aaa w G e l ss cs
 |_,_,_=>False
theorem aaa.rep:∀ {e:Ty} {l:List e.den} {p:List Sh} {cs:List (List Value)},aaa w G e l p cs->(∀s∈p,s.live=true)->
 ∃B,fN (fl w e) l cs.flatten B/\∀b∈B,G.col b∈p.flatMap Sh.cO
 |e,[],[],[],_,_=>⟨[],⟨rfl,rfl⟩,by simp⟩
 |e,x::l,s::p,c::cs,h,hl=>by
  obtain⟨q,y,z⟩:=h.1.rep (hl s (by simp));obtain⟨u,D,H⟩:=aaa.rep h.2 (fun s v=>hl s (by simp[v]));refine⟨q++u,⟨c,_,q,u,by simp,rfl,y,D⟩,fun b o=> ?_⟩;rw[aoo];rcases o_.1 o with o|o;exact afS _ (z b o);exact af3 _ (H b o)
 |e,[],_::_,_,h,_|e,[],[],_::_,h,_|e,_::_,[],_,h,_|e,_::_,_::_,[],h,_=>h.elim
theorem aaa.own:∀ {e:Ty} {l:List e.den} {q:List Sh} {cs:List (List Value)} {ts:List Nat},aaa w G e l q cs->YU q=some ts->
 ∃B,fN (fl w e) l cs.flatten B/\B.Nodup/\∀b∈B,G.col b∈ts
 |e,[],[],[],ts,_,_=>⟨[],⟨rfl,rfl⟩,by simp,by simp⟩
 |e,x::l,s::q,c::cs,ts,h,ho=>by
  simp only[YU]at ho;split at ho;rename_i t1 t2 H I;split at ho;rename_i u;simp only[ac4]at ho;subst ho;obtain⟨v,J,K,y⟩:=h.1.own H;obtain⟨z,L,N,D⟩:=aaa.own h.2 I;refine⟨v++z,⟨c,_,v,z,by simp,rfl,J,L⟩,ag1.2 ⟨K,N,?_⟩,fun b o=> ?_⟩;intro b o b' p e;subst e;simp only[agS,agL,agr,d_]at u;exact u _ (y b o) (D b p);rcases o_.1 o with o|o;exact afS _ (y b o);exact af3 _ (D b o);cases ho;cases ho
 |e,[],_::_,_,_,h,_|e,[],[],_::_,_,h,_|e,_::_,[],_,_,h,_|e,_::_,_::_,[],_,h,_=>h.elim
theorem afN:∀ {b:List Sh} {ts:List Nat},YU b=some ts->∀c∈ts,c∈b.flatMap Sh.cO
 | [],ts,h,c,hc=>by simp only[YU,ac4]at h;subst h;simp at hc
 |s::b,ts,h,c,hc=>by
  simp only[YU]at h;split at h;rename_i t1 t2 d e;split at h;simp only[ac4]at h;subst h;rw[aoo];rcases o_.1 hc with hc|hc;exact afS _ (Sh.Ra d c hc);exact af3 _ (afN e c hc);cases h;cases h
theorem alc(K:Inv w0 c0 U E a w G)(L:RI ops E a.tmps)(N:Gd ops a.tmps g){el:TypeId}{e:Ty}:
 ∀(ps:List (Nat×Operand)) (n:Nat) (xs:List e.den) (y:List Sh) (cells:Array Value),X6 C E.rd g el e n ps=some (xs,y)->(n+ps.length)*e.sz<=cells.size->
  ∃k b,Instr.fill (fun i=>some (i*e.sz,e.sz)) cells (ps.map fun p=>(p.1,a.eval p.2))=some b/\
   b.toList=cells.toList.take (n*e.sz)++k.flatten++cells.toList.drop ((n+ps.length)*e.sz)/\aaa w G e xs y k/\xs.length=ps.length/\(∀s∈y,s.live=true/\∀c∈s.cO,0<c/\U c/\G.bx c=false)
 | [],n,xs,y,cells,h,hs=>by
   simp only[X6,ac4,agf]at h;obtain⟨rfl,rfl⟩:=h;exact⟨[],cells,rfl,by simp,trivial,rfl,by simp⟩
 |(j,o)::ps,n,xs,y,cells,h,hs=>by
  simp only[X6]at h;split at h;rename_i S;subst S;split at h;cases h;rename_i v W;split at h;rename_i x F H X Y;simp only[ac4,agf]at h;obtain⟨rfl,rfl⟩:=h;obtain⟨⟨r,he,B⟩,J,u⟩:=Q9 K L N W;have R:=Ea X;have D:v.τ=e:=by rw[R]
  have l:kE w G e x v.sh r:=by rw[R]at B;exact B
  have hlen:=kE.len l;have m:=VF (τ:=v.τ) (by rw[D];exact hlen) (kE.one l);have z:=Sn (τ:=v.τ) (by rw[D];exact hlen) (kE.one l);rw[D]at m z;simp only[ahb]at hs;have hmul:(j+1)*e.sz<=(j+(ps.length+1))*e.sz:=afR _ (by omega);rw[J8,ag6]at hmul;have d:=ac9 (zE e r).cells (j*e.sz) cells (by rw[m];omega);rw[z,m]at d
  have I:(Array.foldl (fun cs (q:Value×Nat)=>cs.setIfInBounds (j*e.sz+q.2) q.1) cells (zE e r).cells.zipIdx).size=cells.size:=by
   have:=congrArg aoq d;simp only[agH,agl,List.length_take,List.length_drop,hlen]at this;omega
  obtain⟨k,b,k1,k2,k3,k4,k5⟩:=alc K L N ps (j+1) F H _ Y (by rw[I];rw[show j+1+ps.length=j+(ps.length+1) by omega];exact hs);refine⟨r::k,b,?_,?_,⟨l,k3⟩,by simp[k4],?_⟩;simp only[List.map_cons,he,D,Instr.fill];rw[a_ (by simp[m];omega)];exact k1;rw[k2,d]
  have h1:(cells.toList.take (j*e.sz)++r++cells.toList.drop (j*e.sz+e.sz)).take ((j+1)*e.sz)=cells.toList.take (j*e.sz)++r:=by
   rw[ags (by simp[hlen,J8];omega),af7 (by simp[hlen,J8];omega)]
  have h2:(cells.toList.take (j*e.sz)++r++cells.toList.drop (j*e.sz+e.sz)).drop ((j+1+ps.length)*e.sz)=cells.toList.drop ((j+(ps.length+1))*e.sz):=by
   have e1:(j+1+ps.length)*e.sz=(cells.toList.take (j*e.sz)++r).length+ps.length*e.sz:=by
    simp[hlen,J8];omega
   rw[e1,ag7,agb (by omega),agt,Nat.add_sub_cancel_left,agv];congr 1;simp[J8];omega
  rw[h1,h2];simp;intro s t;rcases S_.1 t with rfl|t;exact⟨u,J⟩;exact k5 s t;cases h;cases h
theorem lg.mono{U U':Nat->Prop}{v:SV}(h:lg U G v)(b:∀u,U u->U' u):lg U' G v:=
 ⟨fun c hc=>⟨(h.1 c hc).1,b _ (h.1 c hc).2.1,(h.1 c hc).2.2⟩,fun c hc=>⟨(h.2.1 c hc).1,b _ (h.2.1 c hc).2.1,(h.2.1 c hc).2.2⟩,
  fun c hc=>⟨(h.2.2 c hc).1,b _ (h.2.2 c hc).2.1,(h.2.2 c hc).2.2⟩⟩
theorem Yields.mono{U U':Nat->Prop}{r:Result Next}{sv:SV}(h:Yields w0 c0 U E a r sv)(b:∀u,U u->U' u):Yields w0 c0 U' E a r sv:=by
 obtain⟨c,e,G',l,o,p,q,v⟩:=h;exact⟨c,e,G',l,o.mono b,p,q.mono b,v⟩
theorem SN.mono{U U':Nat->Prop}{r:Result Next}{b:Ef}(h:SN w0 c0 U E a r b)(e:∀u,U u->U' u):SN w0 c0 U' E a r b:=by
 cases b with
 |val v=>exact Yields.mono h e
 |chk c v=>exact fun hc=>Yields.mono (h hc) e
 |_=>exact h
def ED{s:Sem Value}{x:Value}{w':World}(h:s.run P w= .ok x w'):((do pure (.value (<-s))):Sem Next).run P w= .ok (.value x) w':=by
 simp[h]
def toNat_lt{i:Int}{n:Nat}(h0:0<=i)(h:i<(n:Int)):i.toNat<n:=by omega
theorem ao5(hC:CxTy P C)(q:Inv w0 c0 U E a w G)(W:RI ops E a.tmps)(X:Gd ops a.tmps g){tk:Nat}{o:Oper}{t:TypeId}{x:Operand}{ef:Ef}(ho:o.op= .load t x)
 (h:kH C ops E.rd tk g o=some ef):SN w0 c0 U E a ((execOp a.eval o).run P w) ef:=by
 simp only[kH,ho]at h;split at h;cases h;rename_i y N;have hT:=(hC.tt t y N).1
 have m:∀ {b z:Nat} {c:Array Value} {el:TypeId} {J:Nat×Nat},a.eval x= .pointer (some ⟨b,z,none⟩)->w.heap[b]?=some (.cells c el J)->z+y.τ.sz<=c.size->
  (execOp a.eval o).run P w= .ok (.value (zE y.τ ((c.toList.drop z).take y.τ.sz))) w:=by
  intro b z c el J he k K;simp only[execOp,ho];refine ED ?_;simp only[Instr.loadAt,he,Instr.sureAddr];simpa using YT hT k K
 split at h
 rename_i b off p τ j;obtain⟨I,h2⟩:=KM q W X j;obtain⟨bk,_,u,L⟩:=I;split at h;rename_i sl v D;obtain⟨_,bk',c,el,g1,_,_,g4,g5,g6⟩:=q.box D;rw[g1]at u;simp only[Value.pointer.injEq,ac4,Addr.mk.injEq,and_true]at u;subst u;split at h;rename_i r R;split at h;rename_i hc;simp only[af0,b_]at hc;cases h;obtain⟨q1,q2,q3,q4⟩:=kE.sub R g5;have hlen:=kE.len g5;rw[hc.1]at q1 q2;have k:=m L g4 (by rw[<-hc.2];simp at hlen;omega);rw[<-hc.2]at k;exact tM q k ⟨_,rfl,q1⟩ (lg.d fun c hc=>g6 c (q4 c hc)) (by rintro _ _ ⟨⟩);cases h;cases h;cases h
 rename_i b e i off p τ j;obtain⟨I,_⟩:=KM q W X j;obtain⟨bk,of,n,cap,_,u,L,k4,k5⟩:=I;split at h;rename_i l K nd F;obtain⟨⟨v,hv⟩,hm⟩:=q.CT F;split at h;rename_i hc;simp only[af0,b_]at hc;rw[S']at h;obtain⟨r,R,rfl⟩:=h;have H:=hv.2.1;rw[u]at H
 have hlen:n=l.length:=by
  obtain⟨_,_,B,hB,_⟩:=hv;rcases hB with⟨⟨ao,e0⟩,b0,_⟩|⟨_,_,_,_,_,_,_,hx,_⟩;rw[e0]at H;cases H;rw[b0];rfl;rw[<-H]at hx;cases hx;rfl
 have hi:i.toNat<l.length:=by omega
 obtain⟨b',off',cap',c,el,J,B,e1,e2,e3,e4,e5,e6,e7⟩:=hv.elem hi;rw[<-H]at e1;cases e1;have Y:kE w G e (l.getD i.toNat e.aa) (NU e (.sha (2::K))) _:=kE.ad4 e6 (fun b k=>af1 _ (e7 b k)) (by simp);obtain⟨q1,q2,q3,q4⟩:=kE.sub R Y;have s:r.τ=y.τ:=by have:=q3.symm.trans hc.2;simpa using this
 have hmul:(i.toNat+1)*e.sz<=cap*e.sz:=afR _ (by omega);rw[J8,ag6]at hmul;have k:=m k5 e2 (by rw[<-s];rw[hc.1]at q2;omega);refine tM q k ⟨(c.toList.drop (of+i.toNat*e.sz+off)).take y.τ.sz,by rw[s],?_⟩ (lg.d fun c S=> ?_) (by rintro _ _ ⟨⟩);rw[hc.1]at q1 q2;rw[agB,agX,agv,agU (by omega)]at q1;rw[<-s];exact q1;have:=U6 _ _ c (q4 c S);simp only[M.cO,S_]at this;rcases this with rfl|this;exact⟨by omega,q.two.1⟩;exact hm c (af1 _ this);cases h;cases h
 rename_i K v j;obtain⟨I,h2⟩:=KM q W X j;obtain⟨b,z,c,el,J,k1,u,L,k4,k5⟩:=I;split at h;rename_i hτ;cases h;have k:=m k1 u (by rw[<-hτ];exact L);rw[<-hτ]at k;exact tM q k ⟨_,rfl,k5⟩ (lg.d fun c hc=>h2.1 c (by simp[SV.sc,hc])) (by rintro _ _ ⟨⟩);cases h;cases h
def akc(X:CxTy P C)(u:Inv w0 c0 U E a w G)(I:RI ops E a.tmps)(J:Gd ops a.tmps g){tk:Nat}{o:Oper}{s:TypeId}{x:Operand}{j:Nat}{Y:Ef}(ho:o.op= .fieldAddr s x j)
 (h:kH C ops E.rd tk g o=some Y):SN w0 c0 U E a ((execOp a.eval o).run P w) Y:=by
 simp only[kH,ho]at h;split at h
 ·cases h
 rename_i i W;have hT:=X.tt s i W;split at h;rotate_left
 ·cases h
 rename_i F
 have hpair:∀σ,i.τ.sub (nu i.fs.length j)=some σ->i.τ.qH=true\/(nu i.fs.length j)=[]:=by
  intro σ z;cases hf:nu i.fs.length j with
  |nil=>exact .inr rfl
  |cons b p=>rw[hf]at z;exact .inl (anG z)
 have k:i.τ.qH=true:=by
  cases D:i.τ with
  |pair a b=>rfl
  |_=>
   exfalso;have:=hT.2;rw[D]at this;have K:=X.fs s i W (by rw[D];rfl);rw[K]at F;simp at F
 have l:∀ {b q:Nat},a.eval x= .pointer (some ⟨b,q,none⟩)->(execOp a.eval o).run P w= .ok (.value (.pointer (some ⟨b,q+i.τ.off (nu i.fs.length j),none⟩))) w:=by
  intro b q H;simp only[execOp,ho];refine ED ?_;rw[H];rcases akZ (w:=w) hT F b q with h|h
  ·exact h
  ·rw[k]at h;cases h
 split at h
 ·rename_i σ t q p τ z d;split at h
  ·cases h;obtain⟨⟨bk,L,N,R⟩,y⟩:=KM u I J d;exact tM u (l R) ⟨bk,L,N,rfl⟩ ⟨by simp[SV.sc],by simpa[SV.bt]using y.2.1,by simp[SV.rt]⟩ (by rintro _ _ ⟨⟩)
  ·cases h
 ·rename_i σ t e n q p τ z d;split at h
  ·cases h;obtain⟨⟨b,off,m,cap,L,N,R,k4,S⟩,y⟩:=KM u I J d;exact tM u (l S) ⟨b,off,m,cap,L,N,R,k4,by rw[aiV]⟩ ⟨by simp[SV.sc],by simp[SV.bt],by simpa[SV.rt]using y.2.2⟩ (by rintro _ _ ⟨⟩)
  ·cases h
 ·rename_i σ hs v z d;split at h
  ·rename_i D;rw[S']at h;obtain⟨r,hr,rfl⟩:=h;obtain⟨h1,y⟩:=KM u I J d;obtain⟨b,q,H,B⟩:=ao2 h1 hr;rw[D]at B;refine tM u (l H) B ⟨?_,by simp[SV.bt],by simp[SV.rt]⟩ (by rintro _ _ ⟨⟩);intro c hc;obtain⟨_,_,_,_,_,_,_,_,_,S⟩:=h1;have:=(kE.sub hr S).2.2.2;simp only[SV.sc,o_]at hc;rcases hc with hc|hc
   ·exact y.1 c (by simp[SV.sc,hc])
   ·exact y.1 c (by simp[SV.sc,this c hc])
  ·cases h
 ·cases h
theorem ake(Y:CxTy P C)(v:Inv w0 c0 U E a w G)(I:RI ops E a.tmps)(J:Gd ops a.tmps g){tk:Nat}{o:Oper}{t:TypeId}{x n:Operand}{ef:Ef}(S:o.op= .indexAddr t x n)
 (h:kH C ops E.rd tk g o=some ef):SN w0 c0 U E a ((execOp a.eval o).run P w) ef:=by
 simp only[kH,S]at h;split at h;rename_i L e l u hs nd k i sh s D N;split at h;rename_i R;cases h;intro hc;obtain⟨j,p⟩:=e_ hc;have y:=(Y.tt t L s).2;rw[R]at y;obtain⟨m,F,d,_,r⟩:=Rb v I J D;simp only[Sh.sl.injEq]at F;subst F;have z:=Bj v I J N;have W:i.toNat<l.length:=toNat_lt j p;obtain⟨b,off,cap,c,el,fz,B,K,e2,e3,e4,e5,e6,e7⟩:=d.elem W
 have q:(execOp a.eval o).run P w= .ok (.value (.pointer (some ⟨b,off+i.toNat*e.sz,none⟩))) w:=by
  simp only[execOp,S];refine ED ?_;rw[K,z];simp[Instr.indexAt,asIntOf,run_underlying y.1,Bl y.2,j,p,Addr.add_lit]
 refine tM v q ⟨b,off,l.length,cap,d.1,d.2.1.trans K,j,p,rfl⟩ ⟨by simp[SV.sc],by simp[SV.bt],?_⟩ (by rintro _ _ ⟨⟩);intro c hc;simp only[SV.rt,agi]at hc;subst hc;exact r _ (by simp[M.cO]);cases h;rename_i L e l hs k i sh s D N;split at h;rename_i R;cases h;intro hc;obtain⟨j,p⟩:=e_ hc;have y:=(Y.tt t L s).2;rw[R]at y;obtain⟨m,F,d,_,r⟩:=Rb v I J D;simp only[Sh.sl.injEq]at F;subst F;have z:=Bj v I J N;have W:i.toNat<l.length:=toNat_lt j p;obtain⟨⟨BB,X,H⟩,_⟩:=d;obtain⟨b,off,cap,c,el,fz,B,K,e2,e3,e4,e5,e6,e7⟩:=X.elem W
 have q:(execOp a.eval o).run P w= .ok (.value (.pointer (some ⟨b,off+i.toNat*e.sz,none⟩))) w:=by
  simp only[execOp,S];refine ED ?_;rw[K,z];simp[Instr.indexAt,asIntOf,run_underlying y.1,Bl y.2,j,p,Addr.add_lit]
 have hmul:(i.toNat+1)*e.sz<=cap*e.sz:=afR _ (by omega);rw[J8,ag6]at hmul;refine tM v q ⟨b,off+i.toNat*e.sz,c,el,fz,rfl,e2,by simp only;omega,H b e5,kE.ad4 e6 (fun x D=>af1 _ (H x (e7 x D))) (by simp)⟩ ⟨?_,by simp[SV.bt],by simp[SV.rt]⟩ (by rintro _ _ ⟨⟩);intro c hc;simp only[SV.sc,o_]at hc;rcases hc with hc|hc;exact r c hc;have:=U6 _ _ c hc;simp only[M.cO,S_]at this;rcases this with rfl|this;exact⟨by omega,v.two.1⟩;exact r c this;cases h;cases h
def aln(w:World)(G:Gh)(τ:Ty):kE w G τ τ.aa (NU τ (.sha [])) τ.zero:=kE.zero τ
def alp{τ:Ty}(Q:Nat->Prop):∀c∈(NU τ (.sha [])).cO,Q c:=fun c hc=>by
 have:=U6 _ _ c hc;simp[M.cO]at this
def anx(e:CxTy P C)(j:Inv w0 c0 U E a w G){tk:Nat}(k:4<=tk)(l:¬U tk){o:Oper}{t:TypeId}{c:Ef}(d:o.op= .alloc t)
 (h:kH C ops E.rd tk g o=some c):SN w0 c0 (fun u=>U u\/u=tk) E a ((execOp a.eval o).run P w) c:=by
 simp only[kH,d,S']at h;obtain⟨i,n,rfl⟩:=h;have m:=(e.tt t i n).1;refine aiX j k l (aln w G i.τ) (alp _) t ?_;simp only[execOp,d];refine ED ?_;have hc:=Sn (τ:=i.τ) i.τ.PU (Y6 i.τ);have b:(zE i.τ i.τ.zero).cells=i.τ.zero.toArray:=af2 (by simpa using hc);simp[Instr.alloc,ai7 m,newVar,newRow,b]
def ape(e:Inv w0 c0 U E a w G)(n:RI ops E a.tmps)(p:Gd ops a.tmps g){tk:Nat}(q:4<=tk)(r:¬U tk){o:Oper}{t:TypeId}{x:Operand}{j:Ef}(k:o.op= .box t x)
 (h:kH C ops E.rd tk g o=some j):SN w0 c0 (fun u=>U u\/u=tk) E a ((execOp a.eval o).run P w) j:=by
 simp only[kH,k]at h;split at h;rename_i i v hi m;split at h;cases h;obtain⟨⟨l,s,b⟩,hc,_⟩:=Q9 e n p m;refine aiX e q r b hc t ?_;simp only[execOp,k];refine ED ?_;have c:=Sn (kE.len b) (kE.one b);have d:(zE v.τ l).cells=l.toArray:=af2 (by simpa using c);simp[Instr.box,s,newVar,newRow,d];cases h;cases h
theorem aia.struct{t:TypeId}{i:TI}(h:aia P t i)(b:i.τ.qH=true):∃fields,P.underlying t=some (.struct fields)/\fields.size=i.fs.length/\
 ∀(j:Nat) (f:Field),fields[j]?=some f->aep P i.τ i.fs j f:=by
 obtain⟨τ,fs,el⟩:=i;cases τ with
 |pair x y=>exact h.2
 |_=>cases b
def afd{τ:Ty}(b:τ.qH=true)(cs:List Value):zE τ cs= .agg cs.toArray:=by
 cases τ<;>first|rfl|cases b
def apN(K:CxTy P C)(N:Inv w0 c0 U E a w G)(W:RI ops E a.tmps)(X:Gd ops a.tmps g){tk:Nat}{o:Oper}{t:TypeId}{ps:Array (Nat×Operand)}{R:Ef}(S:o.op= .build t ps)
 (h:kH C ops E.rd tk g o=some R):SN w0 c0 U E a ((execOp a.eval o).run P w) R:=by
 simp only[kH,S]at h;split at h;rename_i i I;split at h;cases h;rename_i q;rw[S']at h;obtain⟨r,hr,rfl⟩:=h;have u:=K.tt t i I;have Y:=u.1
 have e:i.τ.qH=true:=by
  cases hp:i.τ.qH with
  |true=>rfl
  |false=>rw[K.fs t i I hp]at q;simp at q
 obtain⟨fields,hu,D,s⟩:=u.struct e;have hz:kE w G i.τ i.τ.aa (NU i.τ (.sha [])) i.τ.zero.toArray.toList:=by simpa using aln w G i.τ
 obtain⟨inf,d,m,hisz,n,_⟩:=Y
 have k:∃c,fields.toList.mapM (fun f=>(P.info? f.type).map fun i=>(f.offset,i.size))=some c/\
  ∀(j:Nat) (f:Field) (σ:Ty),fields[j]?=some f->i.τ.sub (nu i.fs.length j)=some σ->c.toArray[j]?=some (f.offset,σ.sz):=by
  have l:∀f∈fields.toList,∃inf,P.info? f.type=some inf:=by
   intro f y;obtain⟨j,v,rfl⟩:=ahk.1 y;obtain⟨_,_,σ,_,inf,d,h1,_⟩:=s j fields[j] (afL (by simpa using v));exact⟨inf,by simpa using h1⟩
  refine⟨fields.toList.map fun f=>(f.offset,((P.info? f.type).map (·.size)).getD 0),?_,?_⟩;generalize fields.toList=L at l
  induction L with
  |nil=>rfl
  |cons f L ih=>
   obtain⟨inf,m⟩:=l f (by simp);simp[List.mapM_cons,m,ih (fun f s=>l f (by simp[s]))]
  intro j f σ v J;obtain⟨_,_,σ',g1,inf,d,g2,g3,_⟩:=s j f v;rw[g1]at J;cases J;simp[v,g2,g3]
 obtain⟨c,F,H⟩:=k;obtain⟨b,k1,k2,k3⟩:=ajC (fields:=fields) N W X s D (fun x=>c.toArray[x]?) H ps.toList _ _ i.τ.zero.toArray r.1 r.2 hz (alp _) hr;have z:=Sn (τ:=i.τ) i.τ.PU (Y6 i.τ);have B:(zE i.τ i.τ.zero).cells=i.τ.zero.toArray:=af2 (by simpa using z)
 have hb:P.built t (ps.map fun p=>(p.1,a.eval p.2)).toList=some b:=by
  unfold Program.built;simp only[m,hu,n,F,B,ahF];exact k1
 refine tM N (mv:= .agg b) ?_ ⟨b.toList,?_,k2⟩ (lg.d k3) (by rintro _ _ ⟨⟩);simp only[execOp,S];exact ED (run_build w t _ b hb);show Value.agg b=zE i.τ b.toList;rw[afd e];cases h
def an7{e:Ty}(n:Nat)(z:Array Value)(d:z.toList=e.zero):(madeCells z (n*e.sz)).toList=(agy n e.zero).flatten:=by
 have h:z.size=e.sz:=by rw[<-agH,d,e.PU]
 have hpos:=e.UY;apply List.ext_getElem?;intro j
 induction n generalizing j with
 |zero=>simp[madeCells]
 |succ n m=>
  rw[ahn,alj];by_cases i:j<e.sz;have l:j<(n+1)*e.sz:=by rw[J8];omega
  rw[List.getElem?_append_left (by rw[e.PU];exact i),<-d];simp only[madeCells,ahF,aky,ag4,ahr l,aou,h,Nat.mod_eq_of_lt i];simp[show j<z.size by omega];have b:=m (j-e.sz);rw[List.getElem?_append_right (by rw[e.PU];omega),e.PU,<-b];simp only[madeCells,ahF,aky,ag4];by_cases c:j<(n+1)*e.sz;have k:j-e.sz<n*e.sz:=by rw[J8]at c;omega
  rw[ahr c,ahr k];simp only[aou,h];congr 2;rw[<-Nat.mod_eq_sub_mod (by omega)];have k:¬j-e.sz<n*e.sz:=by rw[J8]at c;omega
  rw[agR (by simp;omega),agR (by simp;omega)]
def akk(R:CxTy P C)(m:Inv w0 c0 U E a w G)(z:RI ops E a.tmps)(D:Gd ops a.tmps g){tk:Nat}(S:4<=tk)(W:¬U tk){o:Oper}{t:TypeId}{n c:Operand}{F:Ef}
 (H:o.op= .makeSlice t n c) (h:kH C ops E.rd tk g o=some F):SN w0 c0 (fun u=>U u\/u=tk) E a ((execOp a.eval o).run P w) F:=by
 simp only[kH,H]at h;split at h;rename_i e fs el x sh y sh' K L k;cases h;intro N;obtain⟨J,v,rfl⟩:=e_ N;have hlt': @LT.lt Int Int.instLTInt y 4294967296:=v;obtain⟨hF,hu,hE⟩:=R.tt t _ K;have p:=Bj m z D L;have q:=Bj m z D k;obtain⟨inf,d,i,j,b,hby,_⟩:=hE
 have X:(inf.bytes:Int)*y<=281474976710656:=by
  have Y:(inf.bytes:Int)<=32768:=by omega
  have h2:(inf.bytes:Int)*y<=32768*y:=Int.mul_le_mul_of_nonneg_right Y J;omega
 have I:=run_make (P:=P) w t el inf _ hu i b .i64 .i64 y y J (Int.le_refl _) X (by omega);have s:=Sn (τ:=e) e.PU (Y6 e);rw[j]at I;refine adA m S W (e:=e) (l:=agy y.toNat e.aa) (cs:=(agy y.toNat e.zero).flatten) (B:=[]) el (n:=y.toNat) (cap:=y.toNat) (by simp) ?_ (agc _) [] ?_ (by simp) (by simp) (by simp) (by simp) (r:=_) ?_;exact fN.replicate (fl.zero w e) _;simp[List.length_flatten,e.PU,List.map_replicate,List.sum_replicate_nat];simp only[execOp,H];refine ED ?_;rw[p,q,I];have hm:=an7 (e:=e) y.toNat (zE e e.zero).cells s;congr 3;rw[agI];exact af2 (by rw[hm]);cases h
def ajc(hC:CxTy P C)(hI:Inv w0 c0 U E a w G)(hR:RI ops E a.tmps)(hg:Gd ops a.tmps g){tk:Nat}(h3:4<=tk)(hU:¬U tk){o:Oper}{t:TypeId}{n:Nat}{ps:Array (Nat×Operand)}{ef:Ef}
 (ho:o.op= .buildSlice t n ps) (h:kH C ops E.rd tk g o=some ef):SN w0 c0 (fun u=>U u\/u=tk) E a ((execOp a.eval o).run P w) ef:=by
 simp only[kH,ho]at h;split at h;rename_i e fs el hi;split at h;rename_i hc;simp only[af0,b_]at hc;obtain⟨r,hsm⟩:=hc;rw[S']at h;obtain⟨⟨X,ss⟩,hr,rfl⟩:=h;obtain⟨hF,hu,hE⟩:=hC.tt t _ hi;obtain⟨inf,d,H,k,v,hby,_⟩:=hE;obtain⟨y,i,Y,k2,k3,k4,R⟩:=alc hI hR hg ps.toList 0 X ss ((Array.range (n*e.sz)).map ((zE e e.zero).cells[·%(zE e e.zero).cells.size]!)) hr (by simp[r]);have hct:=Sn (τ:=e) e.PU (Y6 e);have p:n=X.length:=by rw[k4];simp[r]
 have I:∀s∈ss,s.live=true:=fun s m=>(R s m).1
 have q:i.toList=y.flatten:=by
  rw[k2];simp only[Nat.zero_mul,ahN,agt,akb];rw[agb (by simp[r]),agI]
 have z:(execOp a.eval o).run P w= .ok (.value (.slice (some ⟨w.heap.size,0,none⟩) n n)) (w.alloc (.cells (y.flatten++[]).toArray el)):=by
  simp only[execOp,ho];refine ED ?_;have L:i=(y.flatten++[]).toArray:=af2 (by simp[q]);by_cases h0:n*e.sz=0;have b0:n=0:=by rcases Nat.mul_eq_zero.1 h0 with h|h;exact h;have:=e.UY;omega
  subst b0;have D:ps.toList=[]:=by cases e0:ps.toList with|nil=>rfl|cons x l=>have:=congrArg aoq e0;simp[r]at this
  have N:ps= #[]:=af2 (by simpa using D);rw[D]at Y;simp only[List.map_nil,Instr.fill,ac4]at Y;subst N;simp[Instr.buildSlice,run_underlying hu,Go.sizeOf,typeInfo,H,Instr.fill,newRow];rw[<-agI y.flatten,<-L,<-Y];simp[Array.range_zero'];rw[run_buildSlice w t el n _ i inf _ hu H v (by rw[k];omega) (by rw[k];exact h0) (by rw[k];simpa using Y),L]
 simp only[apu];split;rename_i ts J;obtain⟨B,S,r2,W⟩:=aaa.own k3 J;have F:=afN J;refine adA hI h3 hU (e:=e) (l:=X) el p S (agc _) [] ?_ (fun b K=> ?_) W (fun c hc=> .inl ?_) (fun _=>r2) z;have:=fN.len (sz:=e.sz) (fun x c B h=>fl.len h) S;rw[this,p];simp;obtain⟨s,m,j⟩:=afY.1 (F _ (W b K));exact((R s m).2 _ j).1;obtain⟨s,m,j⟩:=afY.1 (F _ hc);exact(R s m).2 _ j;obtain⟨B,S,W⟩:=aaa.rep k3 I;refine adA hI h3 hU (e:=e) (l:=X) el p S (agc _) [] ?_ (fun b K=> ?_) (fun b K=>agW.2 (W b K)) (fun c hc=> .inl ?_) (by simp) z;have:=fN.len (sz:=e.sz) (fun x c B h=>fl.len h) S;rw[this,p];simp;obtain⟨s,m,j⟩:=afY.1 (W b K);exact((R s m).2 _ j).1;obtain⟨s,m,j⟩:=afY.1 (agW.1 hc);exact(R s m).2 _ j;cases h;cases h
theorem fN.cut{α:Type}{R:α->List Value->List Nat->Prop}{sz:Nat}(e:∀x c B,R x c B->c.length=sz){l:List α}{cs:List Value}{B:List Nat}
 (h:fN R l cs B) (i j:Nat) (hij:i<=j) (hj:j<=l.length):∃B',fN R ((l.take j).drop i) ((cs.drop (i*sz)).take ((j-i)*sz)) B'/\∀b∈B',b∈B:=by
 have v:l=l.take j++l.drop j:=(ahe j l).symm;rw[v]at h;obtain⟨B1,B2,rfl,p,_⟩:=fN.split e h;have o:l.take j=(l.take j).take i++(l.take j).drop i:=(ahe i _).symm;rw[o]at p;obtain⟨B3,D,rfl,_,q⟩:=fN.split e p;refine⟨D,?_,fun b u=>by simp[u]⟩;have y:(alh i (alh j l)++List.drop i (alh j l)).length=j:=by rw[<-o];simp;omega
 have z:((l.take j).take i).length=i:=by simp;omega
 rw[y,z,show(cs.take (j*sz)).drop (i*sz)=(cs.drop (i*sz)).take ((j-i)*sz) by rw[agB,Nat.sub_mul]]at q;exact q
theorem Bk.cut{e:Ty}{l:List e.den}{v:Value}{B:List Nat}(h:Bk w e.sz (fl w e) l v B)(i j:Nat)(y:i<=j)(u:j<=l.length):
 ∃base n cap,v= .slice base n cap/\n=l.length/\n<=cap/\∃B',Bk w e.sz (fl w e) ((l.take j).drop i) (.slice (if cap=i then base else base.map (·.add (i*e.sz))) (j-i) (cap-i)) B'/\∀b∈B',b∈B:=by
 rcases h with⟨⟨K,rfl⟩,rfl,rfl⟩|⟨b,off,cap,c,el,z,Bs,L,o,D,hsz,rfl,N⟩;simp only[List.length_nil,Nat.le_zero]at u;subst u;obtain rfl:i=0:=by omega
 exact⟨K,0,0,rfl,rfl,agc _,[],.inl ⟨⟨_,rfl⟩,by simp,rfl⟩,by simp⟩;refine⟨some ⟨b,off,none⟩,l.length,cap,L,rfl,o,?_⟩;obtain⟨B',q,H⟩:=fN.cut (sz:=e.sz) (fun x c B h=>fl.len h) N i j y u;have hlen:((l.take j).drop i).length=j-i:=by simp;omega
 have hm1:(j-i)*e.sz+i*e.sz=j*e.sz:=by rw[<-J8];congr 1;omega
 have hm2:j*e.sz<=l.length*e.sz:=afR _ u;have hm3:l.length*e.sz<=cap*e.sz:=afR _ o;have hm4:(cap-i)*e.sz+i*e.sz=cap*e.sz:=by rw[<-J8];congr 1;omega
 by_cases hc:cap=i;refine⟨b::B',.inr ⟨b,off,cap-i,c,el,z,B',?_,?_,D,?_,rfl,?_⟩,?_⟩;rw[an hc,hlen];rw[hlen];omega;omega;rw[hlen];have I:j-i=0:=by omega
 rw[I]at q|-;simp only[Nat.zero_mul,ahN]at q|-;exact q;intro x p;rcases S_.1 p with rfl|p;simp;exact af1 _ (H x p);refine⟨b::B',.inr ⟨b,off+i*e.sz,cap-i,c,el,z,B',?_,?_,D,?_,rfl,?_⟩,?_⟩;rw[a_ hc,hlen];simp[Addr.add_lit];rw[hlen];omega;omega;rw[hlen]
 have J:(((c.toList.drop off).take (l.length*e.sz)).drop (i*e.sz)).take ((j-i)*e.sz)=(c.toList.drop (off+i*e.sz)).take ((j-i)*e.sz):=by
  rw[agB,agX,agv,agU (by omega)]
 rw[J]at q;exact q;intro x p;rcases S_.1 p with rfl|p;simp;exact af1 _ (H x p)
theorem ahK(I:Inv w0 c0 U E a w G){e:Ty}{l:List e.den}{v:Value}{m:M}(D:qs w G e l v m)(F:m≠ .dead)(hc:∀c∈m.cO,0<c/\U c/\G.bx c=false)
 (i j:Nat) (q:i<=j) (J:j<=l.length) {r:Result Next}
 (h:∀base n cap,v= .slice base n cap->n=l.length->n<=cap->r= .ok (.value (.slice (if cap=i then base else base.map (·.add (i*e.sz))) (j-i) (cap-i))) w) {y:List e.den} (K:y=(l.take j).drop i):
 Yields w0 c0 U E a r (.d ⟨.sl e,y,.sl (.sha m.cO)⟩):=by
 subst K;obtain⟨B,N,x⟩:=D.rep F;obtain⟨base,n,cap,z,R,S,W,X,Y⟩:=N.cut i j q J;refine tM I (h base n cap z R S) ⟨[_],rfl,_,rfl,⟨W,X,fun b H=>x b (Y b H)⟩,fun k=> ?_⟩ (lg.d hc) (by rintro _ _ ⟨⟩);cases m with
 |row t hs nd=>simp[M.cO]at k
 |sha hs=>
  have L:=D.2 k;rw[L]at z;cases z;have s:j=0:=by omega
  have u:i=0:=by omega
  subst s u;rfl
 |nst b E i o p fr=>simp[M.cO]at k
 |dead=>exact absurd rfl F
def QY{k:IntKind}{i:Int}{y:Nat}{code:BoundsCode}(b:0<=i)(c:i<=y):(Instr.sliceBound (.int k i) y code).run P w= .ok i.toNat w:=run_sliceBound w k i y code b c
def anF(hC:CxTy P C)(p:Inv w0 c0 U E a w G)(u:RI ops E a.tmps)(v:Gd ops a.tmps g){tk:Nat}{o:Oper}{t:TypeId}{x:Operand}{lo hi mx:Option Operand}{ef:Ef}
 (X:o.op= .slice t x lo hi mx) (h:kH C ops E.rd tk g o=some ef):SN w0 c0 U E a ((execOp a.eval o).run P w) ef:=by
 simp only[kH,X]at h;split at h;cases h;rename_i ti k0;have hT:=hC.tt t ti k0
 have sl:∀ {e:Ty},ti.τ= .sl e->P.underlying t=some (.slice ti.el)/\OB P ti.el e:=by
  intro e he;have:=hT.2;rw[he]at this;exact this
 have st:ti.τ= .str->P.underlying t=some .string:=by intro he;have:=hT.2;rw[he]at this;exact this
 split at h
 rename_i e l m D c r;obtain rfl:=agd.1 c;obtain rfl:=agd.1 r;split at h;rename_i F;cases h;obtain⟨hu,hE⟩:=sl F;obtain⟨m',L,j,hd,B⟩:=Rb p u v D;simp only[Sh.sl.injEq]at L;subst L;refine ahK p j hd B 0 l.length (Nat.zero_le _) (agc _) ?_ (by simp);intro base n cap Y hn H;simp only[execOp,X];refine ED ?_;rw[Y];simp[Instr.sliceAt,Instr.slice,Instr.sliceBounds,run_underlying hu,Bl hE,hn];cases h
 rename_i e l m q I D c r;obtain⟨b0,rfl,b⟩:=S'.1 c;obtain rfl:=agd.1 r;split at h;rename_i F;cases h;intro d;obtain⟨N,R⟩:=e_ d;obtain⟨hu,hE⟩:=sl F;obtain⟨m',L,j,hd,B⟩:=Rb p u v D;simp only[Sh.sl.injEq]at L;subst L;have K:=Bj p u v b;have W: @LE.le Int af4 q (l.length:Int):=R;have z: @LE.le Int af4 0 q:=N;refine ahK p j hd B q.toNat l.length (by omega) (agc _) ?_ (by simp);intro base n cap Y hn H;simp only[execOp,X];refine ED ?_;rw[Y];have:=QY (P:=P) (w:=w) (k:= .i64) (code:= .sliceB) z W;simp[Instr.sliceAt,Instr.slice,Instr.sliceBounds,run_underlying hu,Bl hE,hn,K,this];cases h
 rename_i e l m q I D J c;obtain rfl:=agd.1 J;obtain⟨e0,rfl,b⟩:=S'.1 c;split at h;rename_i F;cases h;intro d;obtain⟨N,R⟩:=e_ d;obtain⟨hu,hE⟩:=sl F;obtain⟨m',L,j,hd,B⟩:=Rb p u v D;simp only[Sh.sl.injEq]at L;subst L;have K:=Bj p u v b;have W: @LE.le Int af4 q (l.length:Int):=R;have z: @LE.le Int af4 0 q:=N;refine ahK p j hd B 0 q.toNat (Nat.zero_le _) (by omega) ?_ (by simp);intro base n cap Y hn H;simp only[execOp,X];refine ED ?_;rw[Y];have:=QY (P:=P) (w:=w) (k:= .i64) (y:=cap) (code:= .sliceAcap) z (by omega);simp[Instr.sliceAt,Instr.slice,Instr.sliceBounds,run_underlying hu,Bl hE,K,this];cases h
 rename_i e l m q I bv o0 D c r;obtain⟨b0,rfl,b⟩:=S'.1 c;obtain⟨e0,rfl,S⟩:=S'.1 r;split at h;rename_i F;cases h;intro d;obtain⟨N,R,h2⟩:=e_ d;obtain⟨hu,hE⟩:=sl F;obtain⟨m',L,j,hd,B⟩:=Rb p u v D;simp only[Sh.sl.injEq]at L;subst L;have K:=Bj p u v b;have hb:=Bj p u v S;have z: @LE.le Int af4 0 q:=N;have W: @LE.le Int af4 q bv:=R;have p0: @LE.le Int af4 bv (l.length:Int):=h2;have r0:(bv.toNat:Int)=bv:=ai3 (by omega);refine ahK p j hd B q.toNat bv.toNat (by omega) (by omega) ?_ rfl;intro base n cap Y hn H;simp only[execOp,X];refine ED ?_;rw[Y];have e1:=QY (P:=P) (w:=w) (k:= .i64) (y:=cap) (code:= .sliceAcap) (i:=bv) (by omega) (by omega);have e2:=QY (P:=P) (w:=w) (k:= .i64) (y:=bv.toNat) (code:= .sliceB) (i:=q) z (by omega);simp[Instr.sliceAt,Instr.slice,Instr.sliceBounds,run_underlying hu,Bl hE,K,hb,e1,e2];cases h
 rename_i s j0 q I D c r;obtain⟨b0,rfl,b⟩:=S'.1 c;obtain rfl:=agd.1 r;split at h;rename_i F;cases h;intro d;obtain⟨N,R⟩:=e_ d;have hs:=US p u v D;have K:=Bj p u v b;have e2:=QY (P:=P) (w:=w) (k:= .i64) (y:=s.size) (code:= .sliceB) (i:=q) N R;refine Vx p ?_;simp only[execOp,X];refine ED ?_;simp[Instr.sliceAt,Instr.slice,Instr.sliceBounds,run_underlying (st F),hs,K,e2];cases h
 rename_i s j0 q I D J c;obtain rfl:=agd.1 J;obtain⟨e0,rfl,b⟩:=S'.1 c;split at h;rename_i F;cases h;intro d;obtain⟨N,R⟩:=e_ d;have hs:=US p u v D;have K:=Bj p u v b;have e2:=QY (P:=P) (w:=w) (k:= .i64) (y:=s.size) (code:= .sliceAlen) (i:=q) N R;refine Vx p ?_;simp only[execOp,X];refine ED ?_;simp[Instr.sliceAt,Instr.slice,Instr.sliceBounds,run_underlying (st F),hs,K,e2];cases h
 rename_i s j0 q I bv o0 D c r;obtain⟨b0,rfl,b⟩:=S'.1 c;obtain⟨e0,rfl,S⟩:=S'.1 r;split at h;rename_i F;cases h;intro d;obtain⟨N,R,h2⟩:=e_ d;have hs:=US p u v D;have K:=Bj p u v b;have hb:=Bj p u v S;have z: @LE.le Int af4 0 q:=N;have W: @LE.le Int af4 q bv:=R;have p0: @LE.le Int af4 bv (s.size:Int):=h2;have r0:(bv.toNat:Int)=bv:=ai3 (by omega);have e1:=QY (P:=P) (w:=w) (k:= .i64) (y:=s.size) (code:= .sliceAlen) (i:=bv) (by omega) (by omega);have e2:=QY (P:=P) (w:=w) (k:= .i64) (y:=bv.toNat) (code:= .sliceB) (i:=q) z (by omega);refine Vx p ?_;simp only[execOp,X];refine ED ?_;simp[Instr.sliceAt,Instr.slice,Instr.sliceBounds,run_underlying (st F),hs,K,hb,e1,e2];cases h;cases h
def aho(d:Nat)(t:TypeId)(p q:Bool)(h:P.underlying t=some .bool):(Op.equalIn (d+1) t (.bool p) (.bool q)).run P w= .ok (p==q) w:=by
 simp[Op.equalIn,run_underlying h]
theorem acu:∀ {τ:Ty} {x:τ.den} {cs:List Value} {B:List Nat},τ.flat=true->fl w τ x cs B->B=[]
 | .int _,_,_,_,_,h=>h.2
 | .bool,_,_,_,_,h=>h.2
 | .str,_,_,_,_,h=>h.2
 | .sl _,_,_,_,hf,_=>by simp[Ty.flat]at hf
 | .pair a b,p,cs,B,hf,h=>by
   obtain⟨c1,c2,B1,B2,rfl,rfl,c,d⟩:=h;simp only[Ty.flat,af0]at hf;rw[acu hf.1 c,acu hf.2 d];rfl
def apm(N:CxTy P C)(d:Inv w0 c0 U E a w G)(e:RI ops E a.tmps)(i:Gd ops a.tmps g){tk:Nat}{o:Oper}{op:BinOp}{t u:TypeId}{x y:Operand}{R:Ef}
 (S:o.op= .binOp op t x y u) (h:kH C ops E.rd tk g o=some R):SN w0 c0 U E a ((execOp a.eval o).run P w) R:=by
 simp only[kH,S]at h;split at h;rename_i J p q l z B;split at h;rename_i K;simp only[execOp,S];unfold aon at h;split at h;rename_i k m L k' n r;split at h;rename_i j;simp only[Bool.or_eq_true,b_]at j;exact ao1 d (by rcases j with(j|j)|j<;>simp[j]) (Bj d e i z) (Bj d e i B) h;cases h;exact aoQ d (US d e i z) (US d e i B) h;rename_i m L n r;have W:=(N.tt t J l).2;have X:P.underlying t=some .bool:=by rw[<-K]at W;exact W
 have D:=adm d e i z;have F:=adm d e i B;rw[D,F];have s:∀v,eqGuard op t x y (.bool m) v=pure ():=fun v=>eqGuard_at_bool ..;split at h;cases h;exact xz d (by simp[s,binOp,Op.equal,Op.maxDepth,aho (w:=w) 9999 t m n X]);cases h;exact xz d (by simp[s,binOp,Op.equal,Op.maxDepth,aho (w:=w) 9999 t m n X]);cases h;rename_i b1 b2 m L τ n r;split at h;rename_i n' hn;split at h;rename_i c;have b:=Ea hn;simp only[TV.mk.injEq]at b;obtain⟨rfl,b⟩:=b;simp only[heq_eq_eq,and_true]at b;subst b;obtain⟨⟨c1,D,v1⟩,_,l1⟩:=Q9 d e i z;obtain⟨⟨c2,F,v2⟩,_,l2⟩:=Q9 d e i B;obtain⟨B1,H,_⟩:=v1.rep l1;obtain⟨B2,I,_⟩:=v2.rep l2;obtain rfl:=acu c H;obtain rfl:=acu c I;have heq:=N.eq t J l;rw[<-K]at heq;have Y:=heq rfl c w;rw[D,F];split at h;cases h;have:=Y .eql x y m n c1 c2 (.inl rfl) H I;exact xz d (ED (by simpa using this));cases h;have:=Y .neq x y m n c1 c2 (.inr rfl) H I;exact xz d (ED (by simpa using this));cases h;cases h;cases h;cases h;cases h;cases h
def ao8(D:Inv w0 c0 U E a w G)(N:RI ops E a.tmps)(hg:Gd ops a.tmps g){tk:Nat}{o:Oper}{c x y:Operand}{R:Ef}(S:o.op= .pick c x y)
 (h:kH C ops E.rd tk g o=some R):SN w0 c0 U E a ((execOp a.eval o).run P w) R:=by
 simp only[kH,S]at h;split at h;rename_i t sh sx sy hc hx hy;split at h;rename_i p sh1 q sh2 h1 h2;cases h
 have W:a.eval c= .bool t:=by
  obtain⟨⟨I,J,l⟩,_⟩:=KM D N hg hc;cases sh with
  |leaf=>rw[J,show I=_ from l];rfl
  |sl m=>exact l.elim
  |pair _ _=>exact l.elim
 have arm:∀ {z:Operand} {sz:SV} {b:Bool} {r:Bool} {s:Sh},KR C E.rd o.type z=some sz->aav ops c b sz=some (.d ⟨.bool,r,s⟩)->t=b->a.eval z= .bool r:=by
  intro z sz b r s L k B;obtain⟨K,_⟩:=alr D L;have F:=ank N L
  have fin:rn w G (.d ⟨.bool,r,s⟩) (a.eval z)->a.eval z= .bool r:=by
   rintro⟨I,J,l⟩;cases s with
   |leaf=>rw[J,show I=_ from l];rfl
   |sl m=>exact l.elim
   |pair _ _=>exact l.elim
  cases sz with
  |g j Y act v=>
   simp only[aav]at k;split at k;rename_i n;split at k;rename_i i;simp only[af0,b_]at i;simp only[ac4]at k;subst k
   have H:yielded ops.toArray a.tmps j=some Y:=by
    have hb:ops.toArray[j]?.bind (·.dst)=some n:=by simpa using i.2
    have e:a.tmps.getD n undef= .bool t:=W
    have u:a.tmps[n]?=some (.bool t):=by
     rw[ahs]at e;cases X:a.tmps[n]? with
     |none=>rw[X]at e;cases e
     |some v=>rw[X]at e;simp at e;rw[e]
    simp only[yielded,hb,Option.bind_some,u];rw[B,i.1]
   exact fin (K.1 ((F j Y act _ rfl).2 H)).2;cases k;cases k
  |_=>simp only[aav,ac4]at k;rw[k]at K;exact fin K
 refine xz D ?_;simp only[execOp,S,W];cases t with
 |true=>simp[asBool,arm hx h1 rfl]
 |false=>simp[asBool,arm hy h2 rfl]
 cases h;cases h
def akM(d:Inv w0 c0 U E a w G)(n:RI ops E a.tmps)(q:Gd ops a.tmps g){tk:Nat}{o:Oper}{x:Operand}{r:Ef}(m:o.op= .nilCheck x)
 (h:kH C ops E.rd tk g o=some r):SN w0 c0 U E a ((execOp a.eval o).run P w) r:=by
 simp only[kH,m]at h;split at h;rename_i t u p τ j;cases h;obtain⟨c,l⟩:=KM d n q j;have b:=c;obtain⟨s,_,_,k⟩:=b;exact tM d (by simp only[execOp,m,k];rfl) (k▸c) l (by rintro _ _ ⟨⟩);rename_i t e i u p τ j;cases h;obtain⟨c,l⟩:=KM d n q j;have b:=c;obtain⟨s,_,_,_,_,_,_,_,k⟩:=b;exact tM d (by simp only[execOp,m,k];rfl) (k▸c) l (by rintro _ _ ⟨⟩);rename_i hs v j;cases h;obtain⟨c,l⟩:=KM d n q j;have b:=c;obtain⟨s,_,_,_,_,k,_⟩:=b;exact tM d (by simp only[execOp,m,k];rfl) (k▸c) l (by rintro _ _ ⟨⟩);cases h
def alN(b:Inv w0 c0 U E a w G)(n:RI ops E a.tmps)(p:Gd ops a.tmps g){tk:Nat}{o:Oper}{x:Operand}{j:Nat}{e:Ef}(i:o.op= .extract x j)
 (h:kH C ops E.rd tk g o=some e):SN w0 c0 U E a ((execOp a.eval o).run P w) e:=by
 simp only[kH,i]at h;split at h;rename_i l m;rw[S']at h;obtain⟨v,k,rfl⟩:=h;obtain⟨⟨vs,q,k2,r⟩,s⟩:=KM b n p m;obtain⟨u,t,q1,q2,q3⟩:=r j v k;refine tM b (mv:=u) ?_ ⟨t,q2,q3⟩ (lg.d fun c hc=>s.1 c (afY.2 ⟨v,ahh k,hc⟩)) (by rintro _ _ ⟨⟩);simp only[execOp,i,q];refine ED ?_;simp[Instr.extract,q1];cases h
def aoh(z:CxTy P C)(B:Inv w0 c0 U E a w G)(K:RI ops E a.tmps)(L:Gd ops a.tmps g){tk:Nat}{o:Oper}{s:TypeId}{x:Operand}{j:Nat}{D:Ef}(F:o.op= .field s x j)
 (h:kH C ops E.rd tk g o=some D):SN w0 c0 U E a ((execOp a.eval o).run P w) D:=by
 simp only[kH,F]at h;split at h;rename_i i v y J;split at h;rename_i hc;simp only[af0,b_]at hc;rw[S']at h;obtain⟨r,W,rfl⟩:=h;obtain⟨⟨m,X,I⟩,q,_⟩:=Q9 B K L J
 have b:i.τ.qH=true:=by
  cases N:i.τ.qH with
  |true=>rfl
  |false=>rw[z.fs s i y N]at hc;simp at hc
 obtain⟨fields,Y,hsz,hf⟩:=(z.tt s i y).struct b;have H:j<fields.size:=by omega
 obtain⟨f1,f2,σ,f3,t⟩:=hf j fields[j] (afL H);obtain⟨q1,q2,q3,q4⟩:=kE.sub W I;rw[hc.1,f3]at q3;simp only[ac4]at q3;subst q3;refine tM B ?_ ⟨_,rfl,q1⟩ (lg.d fun c n=>q c (q4 c n)) (by rintro _ _ ⟨⟩);simp only[execOp,F,X];refine ED ?_;have hlen:=kE.len I;rw[afd (by rw[hc.1];exact b)]
 have e:(part fields[j].type m.toArray fields[j].offset).run P w= .ok (zE r.τ ((m.drop (v.τ.off (nu i.fs.length j))).take r.τ.sz)) w:=by
  rw[f1,<-hc.1];cases k:r.τ.qH with
  |true=>simp[part,XY t,k,Bl t,afd k,List.extract_eq_take_drop]
  |false=>
   have R:r.τ.sz=1:=by cases p:r.τ<;>simp_all[Ty.qH,Ty.sz]
   have l:v.τ.off (nu i.fs.length j)<m.length:=by omega
   have S:(m.drop (v.τ.off (nu i.fs.length j))).take 1=[m[v.τ.off (nu i.fs.length j)]]:=by
    rw[List.take_one,aot];simp[l]
   have q:∀u:Value,zE r.τ [u]=u:=by intro u;cases p:r.τ<;>simp_all[zE,Ty.qH]
   rw[R,S,q];simp[part,XY t,k,l]
 simp[Instr.field,run_underlying Y,afL H,asAgg,e];cases h;cases h
def apT(c:Inv w0 c0 U E a w G)(i:RI ops E a.tmps)(j:Gd ops a.tmps g){tk:Nat}{o:Oper}{op:UnOp}{t:TypeId}{x:Operand}{l:Ef}
 (e:o.op= .unOp op t x) (h:kH C ops E.rd tk g o=some l):SN w0 c0 U E a ((execOp a.eval o).run P w) l:=by
 simp only[kH,e]at h;split at h;rename_i b m d;cases h;exact xz c (by simp only[execOp,e,adm c i j d];exact ED (by simp[Op.unary]));rename_i k n m d;cases h;exact zZ c (by simp only[execOp,e,Bj c i j d];exact ED (by simp[Op.unary,Op.intArith]));cases h
def amS{t:TypeId}{i:TI}(h:aia P t i):∃d,(underlying t).run P w= .ok d w:=by
 obtain⟨⟨inf,d,_,_,_,_,b,_⟩,_⟩:=h;exact⟨d,run_underlying b w⟩
theorem aiJ:∀ {l:List Int} {cs:List Value} {B:List Nat},fN (fl w (.int .u8)) l cs B->cs=l.map fun n=>Value.int .u8 n
 | [],_,_,h=>h.1
 |n::l,cs,B,h=>by
  obtain⟨c1,c2,B1,B2,rfl,rfl,b,c⟩:=h;rw[b.1,aiJ c];rfl
def aoK(u:CxTy P C)(y:Inv w0 c0 U E a w G)(L:RI ops E a.tmps)(N:Gd ops a.tmps g){tk:Nat}{o:Oper}{s d:TypeId}{x:Operand}{ef:Ef}
 (K:o.op= .convert s d x) (h:kH C ops E.rd tk g o=some ef):SN w0 c0 U E a ((execOp a.eval o).run P w) ef:=by
 simp only[kH,K]at h;split at h;rename_i J p;obtain⟨ds,H⟩:=amS (w:=w) (u.tt s J p);split at h;rename_i k Y el k' n sh z D;cases h;have q:P.underlying d=some (.int k):=(u.tt d _ z).2;refine zZ y ?_;simp only[execOp,K,Bj y L N D];refine ED ?_;simp[convert,H,run_underlying q,Conv.intToInt];rename_i Y el v sh z D;cases h;have q:P.underlying d=some .string:=(u.tt d _ z).2;refine Vx y ?_;simp only[execOp,K,US y L N D];refine ED ?_;simp[convert,H,run_underlying q];rename_i Y el l sh z D;split at h;rename_i hτ;cases h;have q:P.underlying d=some .string:=(u.tt d _ z).2;have hT:=(u.tt s J p).2;rw[hτ]at hT;obtain⟨t,hel⟩:=hT;obtain⟨m,hm,I,S,_⟩:=Rb y L N D;obtain⟨B,hB,_⟩:=I.rep S;refine Vx y ?_;simp only[execOp,K];refine ED ?_;have r:P.underlying J.el=some (.int .u8):=u.u8 s J p hτ;rcases hB with⟨e,rfl,_⟩|⟨b,off,cap,c,el',fz,Bs,e,hcap,hb,W,rfl,X⟩;obtain⟨ao,e⟩:=e;rw[e];cases ao with
 |none=>
  simp[convert,run_underlying t,run_underlying q,run_underlying r,Conv.bytesToString];rfl
 |some ad=>
  have i:=run_loadCells_list (P:=P) w ad [] (fun j v e=>by simp at e);rw[run_convert_bytes_string w s d _ _ _ _ t r q,run_bytesToString w _ 0 0 [] (by simpa using i),foldl_push_bytes];congr 3
 rw[e];have F:(Ty.int IntKind.u8).sz=1:=rfl;rw[F,Nat.mul_one]at X W;have R:=aiJ X
 have hlen:((c.toList.drop off).take l.length).length=l.length:=by
  have:=fN.len (sz:=1) (fun x c B h=>fl.len h) X;simpa using this
 have i:=run_loadCells_list (P:=P) w ⟨b,off,none⟩ ((c.toList.drop off).take l.length) (fun j v e=>by
  rw[Addr.add_lit,UT hb];exact aiE e)
 rw[hlen,R]at i;rw[run_convert_bytes_string w s d _ _ _ _ t r q,run_bytesToString w _ l.length cap l i,foldl_push_bytes];congr 3;simp;cases h;cases h;cases h
def aoi(z:CxTy P C)(d:Inv w0 c0 U E a w G)(l:RI ops E a.tmps)(m:Gd ops a.tmps g){tk:Nat}{o:Oper}{t:TypeId}{x n:Operand}{p:Ef}
 (q:o.op= .index t x n) (h:kH C ops E.rd tk g o=some p):SN w0 c0 U E a ((execOp a.eval o).run P w) p:=by
 simp only[kH,q]at h;split at h;rename_i r s sh k i sh' c u v;split at h;rename_i y;cases h;intro hc;obtain⟨F,H⟩:=e_ hc;have B:P.underlying t=some .string:=by have:=(z.tt t r c).2;rw[y]at this;exact this
 refine zZ d ?_;simp only[execOp,q,US d l m u,Bj d l m v];refine ED ?_;have e: @LE.le Int af4 0 i:=F;have h1': @LT.lt Int Int.instLTInt i (s.size:Int):=H;have j:i.toNat<s.size:=by omega
 have b:s[i.toNat]?=some s[i.toNat]:=getElem?_pos ..
 have D:bt s i=(s[i.toNat].toNat:Int):=by
  simp only[bt]
  have:s.data.toList[i.toNat]?=some s[i.toNat]:=by
   rw[Array.getElem?_toList,afL (by exact j)];rfl
  rw[ahJ,this];rfl
 simp[Instr.index,asIntOf,run_underlying B,e,b,D];cases h;cases h
def apr(hC:CxTy P C)(p:Inv w0 c0 U E a w G)(r:RI ops E a.tmps)(D:Gd ops a.tmps g){tk:Nat}{o:Oper}{c:Call}{b:Builtin}{Y:Ef}
 (I:o.op= .call c) (J:c.callee= .builtin b) (hq:∀x y z u v,Y≠ .app x y z u v) (h:kH C ops E.rd tk g o=some Y):SN w0 c0 U E a ((execOp a.eval o).run P w) Y:=by
 simp only[kH,I,J]at h;unfold UU at h;split at h
 rename_i x t F j;have d:c.args= #[x]:=af2 (by simpa using F);have i:c.argTypes= #[t]:=af2 (by simpa using j);split at h;cases h;rename_i ti H;split at h;rename_i e l N q;split at h;rename_i R;cases h;have K:=(hC.tt t ti H).2;rw[R]at K;obtain⟨m,hm,L,b0,_⟩:=Rb p r D q;obtain⟨B,hB,_⟩:=L.rep b0;refine zZ p ?_;simp only[execOp,I]
 rcases hB with⟨⟨ao,hv⟩,rfl,_⟩|⟨b,off,cap,c,el',fz,Bs,hv,_⟩<;>
  simp[resolve,J,invoke,builtin,d,i,hv,Builtin.len_,run_underlying K.1,goInt]
 cases h;rename_i s N q;split at h;rename_i R;cases h;have K:=(hC.tt t ti H).2;rw[R]at K;refine zZ p ?_;simp only[execOp,I];simp[resolve,J,invoke,builtin,d,i,US p r D q,Builtin.len_,run_underlying K,goInt];cases h;cases h
 rename_i x y t u F j;have d:c.args= #[x,y]:=af2 (by simpa using F);have i:c.argTypes= #[t,u]:=af2 (by simpa using j);split at h;rename_i k m N k' n S q W;split at h;rename_i X;subst X;cases h;refine zZ p ?_;simp only[execOp,I];simp[resolve,J,invoke,builtin,d,i,Bj p r D q,Bj p r D W,Builtin.min_,Builtin.min2];cases h;cases h
 rename_i x y t u F j;have d:c.args= #[x,y]:=af2 (by simpa using F);have i:c.argTypes= #[t,u]:=af2 (by simpa using j);split at h;rename_i k m N k' n S q W;split at h;rename_i X;subst X;cases h;refine zZ p ?_;simp only[execOp,I];simp[resolve,J,invoke,builtin,d,i,Bj p r D q,Bj p r D W,Builtin.max_,Builtin.max2];cases h;cases h
 split at h;split at h;split at h;split at h;cases h;exact absurd rfl (hq _ _ _ _ _);cases h;cases h;cases h;cases h;cases h
def Good(U:Nat->Prop)(G:Gh)(c:Nat):Prop:=0<c/\U c/\G.bx c=false
structure ZO(w:World)(U:Nat->Prop)(G:Gh)(U':Nat->Prop)(G':Gh)(f:M->M)(fe:Nat->Bool)(fr:List Nat->Option (List Nat)):Prop where
 row:∀(e:Ty) (l:List e.den) (v:Value) (m:M),qs w G e l v m->(∀c∈m.cO,Good U G c)->qs w G' e l v (f m)
 good:∀m:M,(∀c∈m.cO,Good U G c)->∀c∈(f m).cO,Good U' G' c
 rd:∀hs hs',fr hs=some hs'->(∀c∈hs,Good U G c)->(∀c∈hs',Good U' G' c)/\∀b,G.col b∈hs->G'.col b∈hs'
 hdr:∀t,U t->G'.hdr t=G.hdr t
 bx:∀t,U t->G.bx t=true->G'.bx t=true/\∀b,G.col b=t->G'.col b=t
 ru:∀t,U t->G.bx t=false->G'.bx t=false
 mono:∀t,U t->U' t
section
variable{U':Nat->Prop}{G':Gh}{f:M->M}{fe:Nat->Bool}{fr:List Nat->Option (List Nat)}
theorem Sh.Xu(e:ZO w U G U' G' f fe fr):∀ {sh:Sh},(∀c∈sh.cO,Good U G c)->∀c∈(sh.map f).cO,Good U' G' c
 | .leaf,_,c,h=>by simp[Sh.map,Sh.cO]at h
 | .sl m,hc,c,h=>e.good m hc c h
 | .pair a b,hc,c,h=>by
   simp only[Sh.map,Sh.cO,o_]at h;exact h.elim (Sh.Xu e (fun c h=>hc c (by simp[Sh.cO,h])) c) (Sh.Xu e (fun c h=>hc c (by simp[Sh.cO,h])) c)
theorem kE.map(o:ZO w U G U' G' f fe fr):∀ {τ:Ty} {x:τ.den} {sh:Sh} {cs:List Value},kE w G τ x sh cs->(∀c∈sh.cO,Good U G c)->
 kE w G' τ x (sh.map f) cs
 | .int _,_,.leaf,_,h,_=>h
 | .bool,_,.leaf,_,h,_=>h
 | .str,_,.leaf,_,h,_=>h
 | .sl e,l,.sl m,cs,h,hc=>by
   obtain⟨v,rfl,q⟩:=h;exact⟨v,rfl,o.row _ _ _ _ q hc⟩
 | .pair a b,p,.pair s1 s2,cs,h,hc=>by
   obtain⟨u,y,rfl,z,B⟩:=h;exact⟨u,y,rfl,kE.map o z (fun c h=>hc c (by simp[Sh.cO,h])),kE.map o B (fun c h=>hc c (by simp[Sh.cO,h]))⟩
 | .int _,_,.sl _,_,h,_| .int _,_,.pair _ _,_,h,_| .bool,_,.sl _,_,h,_| .bool,_,.pair _ _,_,h,_
 | .str,_,.sl _,_,h,_| .str,_,.pair _ _,_,h,_| .sl _,_,.leaf,_,h,_| .sl _,_,.pair _ _,_,h,_
 | .pair _ _,_,.leaf,_,h,_| .pair _ _,_,.sl _,_,h,_=>h.elim
theorem lg.map(h:ZO w U G U' G' f fe fr):∀ {s:SV},lg U G s->lg U' G' (s.mapM f fe fr)
 | .no,_=>by simp[SV.mapM,lg,SV.sc,SV.bt,SV.rt]
 | .d v,hm=>lg.d (Sh.Xu h hm.1)
 | .box t v,hm=>by
   have b:=hm.2.1 t (by simp[SV.bt]);refine⟨Sh.Xu h hm.1,?_,by simp[SV.mapM,SV.rt]⟩;intro c hc;simp only[SV.mapM,SV.bt,agi]at hc;subst hc;exact⟨b.1,h.mono _ b.2.1,(h.bx _ b.2.1 b.2.2).1⟩
 | .ptr t o p τ,hm=>by
   have b:=hm.2.1 t (by simp[SV.bt]);refine⟨by simp[SV.mapM,SV.sc],?_,by simp[SV.mapM,SV.rt]⟩;intro c hc;simp only[SV.mapM,SV.bt,agi]at hc;subst hc;exact⟨b.1,h.mono _ b.2.1,(h.bx _ b.2.1 b.2.2).1⟩
 | .ept t e i o p τ,hm=>by
   simp only[SV.mapM];split;have b:=hm.2.2 t (by simp[SV.rt]);refine⟨by simp[SV.sc],by simp[SV.bt],?_⟩;intro c hc;simp only[SV.rt,agi]at hc;subst hc;exact⟨b.1,h.mono _ b.2.1,h.ru _ b.2.1 b.2.2⟩;simp[lg,SV.sc,SV.bt,SV.rt]
 | .rdp hs v,hm=>by
   simp only[SV.mapM];split;rename_i q u;obtain⟨y,k2⟩:=h.rd hs q u (fun c hc=>hm.1 c (by simp[SV.sc,hc]));refine⟨?_,by simp[SV.bt],by simp[SV.rt]⟩;intro c hc;simp only[SV.sc,o_]at hc;exact hc.elim (y c) (Sh.Xu h (fun c hc=>hm.1 c (by simp[SV.sc,hc])) c);simp[lg,SV.sc,SV.bt,SV.rt]
 | .tup l,hm=>by
   refine⟨?_,by simp[SV.mapM,SV.bt],by simp[SV.mapM,SV.rt]⟩;intro c hc;simp only[SV.mapM,SV.sc,aos,afY]at hc;obtain⟨v,z,hc⟩:=hc;exact Sh.Xu h (fun c hc=>hm.1 c (afY.2 ⟨v,z,hc⟩)) c hc
 | .g j w' true v,hm=>by
   have:=lg.map (s:=v) h (by simpa[lg,SV.sc,SV.bt,SV.rt]using hm);simpa[lg,SV.mapM,SV.sc,SV.bt,SV.rt]using this
 | .g j w' false v,hm=>by simp[lg,SV.mapM,SV.sc,SV.bt,SV.rt]
theorem rn.map(h:ZO w U G U' G' f fe fr):∀ {s:SV} {mv:Value},rn w G s mv->lg U G s->rn w G' (s.mapM f fe fr) mv
 | .no,_,_,_=>trivial
 | .d v,mv,⟨B,h1,h2⟩,hm=>⟨B,h1,kE.map h h2 hm.1⟩
 | .box t v,mv,⟨bk,c,el,h1,h2,h3,h4,h5,h6⟩,hm=>by
   have q:=hm.2.1 t (by simp[SV.bt]);have L:=h.bx t q.2.1 q.2.2;exact⟨bk,c,el,h1,h2,(h.hdr t q.2.1).trans h3,L.2 _ h4,h5,kE.map h h6 hm.1⟩
 | .ptr t o p τ,mv,⟨bk,h1,h2,h3⟩,hm=>by
   have q:=hm.2.1 t (by simp[SV.bt]);exact⟨bk,h1,(h.hdr t q.2.1).trans h2,h3⟩
 | .ept t e i o p τ,mv,⟨b,off,n,cap,h1,h2,h3⟩,hm=>by
   simp only[SV.mapM];split;have q:=hm.2.2 t (by simp[SV.rt]);exact⟨b,off,n,cap,h1,(h.hdr t q.2.1).trans h2,h3⟩;trivial
 | .rdp J v,mv,⟨b,o,c,el,fz,h1,h2,h3,h4,h5⟩,hm=>by
   simp only[SV.mapM];split;rename_i z K;obtain⟨k1,N⟩:=h.rd J z K (fun c hc=>hm.1 c (by simp[SV.sc,hc]));exact⟨b,o,c,el,fz,h1,h2,h3,N _ h4,kE.map h h5 (fun c hc=>hm.1 c (by simp[SV.sc,hc]))⟩;trivial
 | .tup l,mv,⟨vs,h1,h2,h3⟩,hm=>by
   refine⟨vs,h1,by simp[h2],fun i v H=> ?_⟩;rw[ag4,S']at H;obtain⟨I,y,rfl⟩:=H;obtain⟨u,B,R,D,S⟩:=h3 i I y;exact⟨u,B,R,D,kE.map h S (fun c hc=>hm.1 c (afY.2 ⟨I,ahh y,hc⟩))⟩
 | .g j w' false v,mv,⟨h1,h2⟩,hm=>⟨fun e=>absurd e (by simp),h2⟩
 | .g j w' true v,mv,⟨h1,h2⟩,hm=>⟨fun e=>⟨by
  have:=(h1 e).1;cases v with
  |box t v=>simp[SV.ye]at this
  |ept t e i o p τ=>simp only[SV.mapM];split<;>rfl
  |rdp J v=>simp only[SV.mapM];split<;>rfl
  |_=>rfl,rn.map (s:=v) h (h1 e).2 (by simpa[lg,SV.sc,SV.bt,SV.rt]using hm)⟩,h2⟩
def aaI{s:SV}{t:Nat}{u:TV}(h:s.mapM f fe fr= .box t u):∃b,s= .box t b:=by
 cases s with
 |box c v=>simp only[SV.mapM,SV.box.injEq]at h;exact⟨v,by rw[h.1]⟩
 |ept c e i o p τ=>simp only[SV.mapM]at h;split at h<;>cases h
 |rdp hs v=>simp only[SV.mapM]at h;split at h<;>cases h
 |_=>simp[SV.mapM]at h
def getD_map{L:List SV}{T:SV->SV}(b:T .no= .no)(s:Nat):(L.map T).getD s .no=T (L.getD s .no):=by
 simp only[agu,ag4];cases L[s]?<;>simp[b]
theorem Inv.map(c:Inv w0 c0 U E a w G)(o:ZO w U G U' G' f fe fr)(B:∀b,0<G'.col b->U' (G'.col b))
 (l:∀b,(0<G'.col b->0<G.col b)/\(G.col b<4->G'.col b=G.col b)/\(G'.col b<4->G'.col b=G.col b)):
 Inv w0 c0 U' {E with s:=E.s.map (SV.mapM f fe fr)} a w G':=by
 have y:∀s,({E with s:=E.s.map (SV.mapM f fe fr)}:Env).s.getD s .no=(E.s.getD s .no).mapM f fe fr:=fun s=>getD_map (T:=SV.mapM f fe fr) rfl s;have D:∀s,lg U' G' ((E.s.getD s .no).mapM f fe fr):=fun s=>lg.map o (c.Xe s);refine⟨by simpa using c.len,fun s=> ?_,fun s=> ?_,fun s=> ?_,fun s=> ?_,fun s J t v v' q I=> ?_,B,fun b p=>c.lt b ((l b).1 p),fun b p=>c.fresh b ?_,fun b p hc=> ?_,fun b p=> ?_,c.size,c.os,c.tape,c.output,c.defers,⟨⟨o.mono _ c.two.1.1,o.ru _ c.two.1.1 c.two.1.2⟩,o.mono _ c.two.2.1,o.ru _ c.two.2.1 c.two.2.2⟩,fun z t v e=>⟨o.mono _ (c.hk z t v e).1,(o.hdr t (c.hk z t v e).1).trans (c.hk z t v e).2⟩⟩;rw[y];exact rn.map o (c.slots s) (c.Xe s);rw[y];exact(D s).1;rw[y];exact(D s).2.1;rw[y];exact(D s).2.2;rw[y]at q I;obtain⟨u,K⟩:=aaI q;obtain⟨L,H⟩:=aaI I;exact c.uni s J t u L K H;have q:=(l b).2.1;rcases ahf (G.col b) 4 with h|h;have:=q h;omega;exact h;have h:=c.frame b p hc;exact⟨by rw[(l b).2.1 (by rw[h.1];exact hc)];exact h.1,h.2⟩;have q:=(l b).2.2 (by omega);rw[q]at p|-;exact c.one b p
end
def ZW{a b:List Nat}(h:meets a b=false):∀c∈a,c∉b:=by
 simp only[meets,List.any_eq_false,agr,b_]at h;exact h
def RA(ts:List Nat)(m:M):∀c∈(m.kill ts).cO,c∈m.cO/\c∉ts:=by
 intro c hc;unfold M.kill at hc;split at hc;simp[M.cO]at hc;rename_i b;exact⟨hc,ZW (by simpa using b) c hc⟩
def ao6(ts:List Nat):ZO w U G U G (M.kill ts) (!ts.contains ·) (fun hs=>if meets hs ts then none else some hs) where
 row e l v m h _:=by
  unfold M.kill;split;exact h.one;exact h
 good m h c hc:=h c (RA ts m c hc).1
 rd hs hs' h hg:=by
  split at h;cases h;cases h;exact⟨hg,fun b d=>d⟩
 hdr _ _:=rfl
 bx t _ d:=⟨d,fun _ h=>h⟩
 ru _ _ h:=h
 mono _ h:=h
theorem Inv.kill(c:Inv w0 c0 U E a w G)(ts:List Nat):Inv w0 c0 U (E.kill ts) a w G:=by
 unfold Env.kill;split;exact c;exact c.map (ao6 ts) c.colU (fun b=>⟨fun h=>h,fun _=>rfl,fun _=>rfl⟩)
theorem Sh.RA{ts:List Nat}:∀(sh:Sh),∀c∈(sh.map (M.kill ts)).cO,c∈sh.cO/\c∉ts
 | .leaf,c,h=>by simp[Sh.map,Sh.cO]at h
 | .sl m,c,h=>Vg.RA ts m c h
 | .pair a b,c,h=>by
   simp only[Sh.map,Sh.cO,o_]at h|-;rcases h with h|h;have:=Sh.RA a c h;exact⟨.inl this.1,this.2⟩;have:=Sh.RA b c h;exact⟨.inr this.1,this.2⟩
theorem SV.aax{ts:List Nat}:∀(s:SV),∀c∈(s.kill ts).sc,c∈s.sc/\c∉ts
 | .no,c,h| .ptr ..,c,h=>by simp[SV.kill,SV.mapM,SV.sc]at h
 | .d v,c,h=>Sh.RA v.sh c h
 | .box t v,c,h=>Sh.RA v.sh c h
 | .ept t e i o p τ,c,h=>by simp only[SV.kill,SV.mapM]at h;split at h<;>simp[SV.sc]at h
 | .rdp hs v,c,h=>by
   simp only[SV.kill,SV.mapM]at h;by_cases b:meets hs ts=true;simp[b,SV.sc]at h;simp only[b,ahv,if_false,SV.sc,o_]at h;rcases h with h|h;exact⟨by simp[SV.sc,h],ZW (by simpa using b) c h⟩;have:=Sh.RA v.sh c h;exact⟨by simp[SV.sc,this.1],this.2⟩
 | .tup l,c,h=>by
   simp only[SV.kill,SV.mapM,SV.sc,aos,afY]at h;obtain⟨v,q,hc⟩:=h;have:=Sh.RA v.sh c hc;exact⟨afY.2 ⟨v,q,this.1⟩,this.2⟩
 | .g j w' true v,c,h=>by
   have:=SV.aax (ts:=ts) v c (by simpa[SV.kill,SV.mapM,SV.sc]using h);simpa[SV.sc]using this
 | .g j w' false v,c,h=>by simp[SV.kill,SV.mapM,SV.sc]at h
theorem Env.ac0(E:Env)(ts:List Nat)(s:Nat):(E.kill ts).s.getD s .no=if ts.isEmpty then E.s.getD s .no else(E.s.getD s .no).kill ts:=by
 unfold Env.kill;split;rfl;exact getD_map (T:=SV.kill ts) rfl s
theorem Env.aax(E:Env)(ts:List Nat)(s:Nat):∀c∈((E.kill ts).s.getD s .no).sc,c∈(E.s.getD s .no).sc/\c∉ts:=by
 intro c hc;rw[Env.ac0]at hc;split at hc;rename_i b;have:ts=[]:=by simpa using b
 subst this;exact⟨hc,by simp⟩;exact SV.aax _ c hc
def Gh.fv(G:Gh)(ts:List Nat)(t:Nat)(v:Value):Gh:=
 ⟨fun b=>if G.col b∈ts then t else G.col b,fun u=>if u=t then v else G.hdr u,fun u=>if u=t then false else G.bx u⟩
def aam{ts:List Nat}{t c:Nat}{hs:List Nat}(h:c∈hs):(if c∈ts then t else c)∈X2 ts t hs:=by
 unfold X2;rw[agW,List.mem_map];exact⟨c,h,by simp⟩
def ajK{ts:List Nat}{t c:Nat}{hs:List Nat}(h:c∈X2 ts t hs):c=t\/(c∈hs/\c∉ts):=by
 unfold X2 at h;rw[agW,List.mem_map]at h;obtain⟨d,b,rfl⟩:=h;by_cases e:d∈ts;left;simp[e];right;simp[e,b]
def aii{ts:List Nat}{t:Nat}{hs:List Nat}(h:X2 ts t hs=[]):hs=[]:=by
 cases hs with
 |nil=>rfl
 |cons c l=>
  have:=aam (ts:=ts) (t:=t) (List.mem_cons_self (a:=c) (l:=l));rw[h]at this;simp at this
theorem ain{ts:List Nat}{t:Nat}{v:Value}(h3:4<=t)(I:∀c∈ts,4<=c/\Good U G c)(F:U t->v=G.hdr t/\G.bx t=false):
 ZO w U G (fun u=>U u\/u=t) (G.fv ts t v) (M.fv ts t) (!ts.contains ·) (fun hs=>some (if meets hs ts then X2 ts t hs else hs)):=by
 have d:∀c,Good U G c->Good (fun u=>U u\/u=t) (G.fv ts t v) c:=by
  rintro c ⟨h1,h2,h4⟩;refine⟨h1,.inl h2,?_⟩;simp only[Gh.fv];split;rfl;exact h4
 have j:∀c hs,(∀c∈hs,Good U G c)->c∈X2 ts t hs->Good (fun u=>U u\/u=t) (G.fv ts t v) c:=by
  intro c hs q hc;rcases ajK hc with rfl|⟨hc,_⟩;exact⟨by omega,.inr rfl,by simp[Gh.fv]⟩;exact d c (q c hc)
 have n:∀b hs,G.col b∈hs->(G.fv ts t v).col b∈X2 ts t hs:=fun b hs h=>aam h
 have r:∀b hs,meets hs ts=false->G.col b∈hs->(G.fv ts t v).col b=G.col b:=fun b hs D k=>by
  have:=ZW D _ k;simp[Gh.fv,this]
 refine⟨fun e l u m h q=> ?_,fun m q c hc=> ?_,fun hs hs' h q=> ?_,fun u z=> ?_,fun u z k=> ?_,fun u z k=> ?_,fun u z=> .inl z⟩;unfold M.fv;cases D:meets m.cO ts with
 |false=>
  simp only[ahv,if_false];refine qs.agree (w:=w) (G:=G) ⟨fun _ _=>rfl,fun b k=>r b _ D k,fun c hc=> ?_⟩ h;simp only[Gh.fv];split;rename_i e;subst e;exact(F (q _ hc).2.1).1;rfl
 |true=>
  simp only[if_true];cases m with
  |row u' hs nd=>
   simp only[M.YD];split;rename_i s;obtain⟨B,y,hc⟩:=h.rep (by simp);exact⟨⟨B,y,fun b k=>n b _ (hc b k)⟩,fun e=>absurd (aii e) (by simp)⟩;rename_i s;simp only[agr,b_]at s;obtain⟨S,K,B,y,hc⟩:=h;refine⟨S,?_,B,y,fun b L N=> ?_⟩;simp only[Gh.fv];split;rename_i e;subst e;rw[<-K];exact(F (q _ (by simp[M.cO])).2.1).1;exact K;obtain⟨W,X,Y,k4⟩:=hc b L N;exact⟨by simp only[Gh.fv,W];simp[s],X,fun x R=>n x _ (Y x R),k4⟩
  |sha hs=>
   obtain⟨⟨B,y,hc⟩,hn⟩:=h;exact⟨⟨B,y,fun b k=>n b _ (hc b k)⟩,fun e=>hn (aii e)⟩
  |nst b E i o p fr=>
   obtain⟨B,y,hc⟩:=h.rep (by simp);exact⟨⟨B,y,fun b k=>n b _ (hc b k)⟩,fun e=>absurd (aii e) (by simp)⟩
  |dead=>exact h
 unfold M.fv at hc;split at hc;cases m with
 |row u' hs nd=>
  simp only[M.YD]at hc;split at hc;exact j c _ q hc;rename_i s;simp only[M.cO,S_]at hc;rcases hc with rfl|hc;exact d c (q c (by simp[M.cO]));exact j c hs (fun c hc=>q c (by simp[M.cO,hc])) hc
 |sha hs=>exact j c hs q hc
 |nst b E i o p fr=>exact j c [b] q hc
 |dead=>simp[M.YD,M.cO]at hc
 exact d c (q c hc);simp only[ac4]at h;subst h;split;exact⟨fun c hc=>j c hs q hc,fun b k=>n b hs k⟩;rename_i D;exact⟨fun c hc=>d c (q c hc),fun b k=>by rw[r b hs (by simpa using D) k];exact k⟩;simp only[Gh.fv];split;rename_i e;subst e;exact(F z).1;rfl
 have J:u≠t:=by
  rintro rfl;rw[(F z).2]at k;cases k
 refine⟨by simp[Gh.fv,J,k],fun b H=> ?_⟩;have:u∉ts:=fun h=>by rw[(I u h).2.2.2]at k;cases k
 simp[Gh.fv,H,this];simp only[Gh.fv];split;rfl;exact k
theorem Inv.fv(p:Inv w0 c0 U E a w G){ts:List Nat}{t:Nat}{v:Value}(H:4<=t)(y:∀c∈ts,4<=c/\Good U G c)(D:U t->v=G.hdr t/\G.bx t=false):
 Inv w0 c0 (fun u=>U u\/u=t) (E.fv ts t) a w (G.fv ts t v):=by
 have z:∀b,0<(G.fv ts t v).col b->(U ((G.fv ts t v).col b)\/(G.fv ts t v).col b=t):=by
  intro b o;simp only[Gh.fv]at o|-;split;exact .inr rfl;rename_i h;rw[a_ h]at o;exact .inl (p.colU b o)
 have B:∀b,(0<(G.fv ts t v).col b->0<G.col b)/\(G.col b<4->(G.fv ts t v).col b=G.col b)/\((G.fv ts t v).col b<4->(G.fv ts t v).col b=G.col b):=by
  intro b;simp only[Gh.fv];by_cases h:G.col b∈ts;have:=(y _ h).1;simp only[h,if_true];omega;simp[h]
 unfold Env.fv;split;rename_i I;have:ts=[]:=by simpa using I
 subst this;have l:=p.map (f:=M.fv [] t) (ain (w:=w) (v:=v) H y D) z B;refine {p.mono (U':=fun u=>U u\/u=t) (fun c h=> .inl h)with slots:=fun s=> ?_,sc:=fun s c hc=> ?_,bt:=fun s c hc=> ?_,rt:=fun s c hc=> ?_,colU:=z,fresh:=l.fresh,lt:=l.lt,frame:=l.frame,one:=l.one,two:=l.two,hk:=l.hk};refine rn.agree (w:=w) (G:=G) ⟨fun _ _=>rfl,fun b o=>by simp[Gh.fv],fun u q=> ?_⟩ (p.slots s)
 have J:U u:=by
  simp only[o_]at q;rcases q with(q|q)|q;exact(p.sc s u q).2.1;exact(p.bt s u q).2.1;exact(p.rt s u q).2.1
 simp only[Gh.fv];split;rename_i e;subst e;exact(D J).1;rfl;have:=p.sc s c hc;refine⟨this.1,.inl this.2.1,?_⟩;simp only[Gh.fv];split;rfl;exact this.2.2;have o:=p.bt s c hc;refine⟨o.1,.inl o.2.1,?_⟩;simp only[Gh.fv];split;rename_i e;subst e;have h:=(D o.2.1).2;rw[h]at o;cases o.2.2;exact o.2.2;have:=p.rt s c hc;refine⟨this.1,.inl this.2.1,?_⟩;simp only[Gh.fv];split;rfl;exact this.2.2;exact p.map (ain H y D) z B
theorem Inv.change(l:Inv w0 c0 U E a w G){ts:List Nat}{U':Nat->Prop}{w':World}{G':Gh}
 (hs:∀s,∀c∈(E.s.getD s .no).hc,c∉ts)
 (z:∀b,0<G.col b->G.col b∉ts->w'.heap[b]?=w.heap[b]?/\G'.col b=G.col b)
 (o:∀t,U t->G'.hdr t=G.hdr t/\G'.bx t=G.bx t) (y:∀c,U c->U' c)
 (B:∀b,0<G'.col b->U' (G'.col b)) (lt:∀b,0<G'.col b->b<w'.heap.size)
 (fresh:∀b,4<=G'.col b->∃c el,w'.heap[b]?=some (.cells c el (0,0)))
 (frame:∀b,b<w0.heap.size->c0.col b<4->G'.col b=c0.col b/\w'.heap[b]?=w0.heap[b]?)
 (one:∀b,G'.col b=1\/G'.col b=3->G.col b=G'.col b) (size:w.heap.size<=w'.heap.size)
 (I:w'.os=w.os) (tape:w'.tape=w.tape) (output:w'.output=w.output):Inv w0 c0 U' E a w' G':=by
 have H:∀s u,u∈(E.s.getD s .no).sc++(E.s.getD s .no).bt++(E.s.getD s .no).rt->U u:=by
  intro s u q;simp only[o_]at q;rcases q with(q|q)|q;exact(l.sc s u q).2.1;exact(l.bt s u q).2.1;exact(l.rt s u q).2.1
 refine⟨l.len,fun s=> ?_,fun s c hc=> ?_,fun s c hc=> ?_,fun s c hc=> ?_,l.uni,B,lt,fresh,frame,fun b p=>by have h:=l.one b (by rw[one b p];exact p);rw[one b p]at h;exact h,Nat.le_trans l.size size,I.trans l.os,tape.trans l.tape,output.trans l.output,l.defers,⟨⟨y _ l.two.1.1,by rw[(o 2 l.two.1.1).2];exact l.two.1.2⟩,y _ l.two.2.1,by rw[(o 3 l.two.2.1).2];exact l.two.2.2⟩,fun D t v e=>⟨y _ (l.hk D t v e).1,(o t (l.hk D t v e).1).1.trans (l.hk D t v e).2⟩⟩;refine rn.agree (w:=w) (G:=G) ⟨fun b p=> ?_,fun b p=> ?_,fun u q=>(o u (H s u q)).1⟩ (l.slots s);have:0<G.col b:=by rcases SV.ad6 _ _ p with p|p;exact(l.sc s _ p).1;exact(l.bt s _ p).1
 exact(z b this (hs s _ p)).1;have:0<G.col b:=by rcases SV.ad6 _ _ p with p|p;exact(l.sc s _ p).1;exact(l.bt s _ p).1
 exact(z b this (hs s _ p)).2;have:=l.sc s c hc;exact⟨this.1,y _ this.2.1,by rw[(o c this.2.1).2];exact this.2.2⟩;have:=l.bt s c hc;exact⟨this.1,y _ this.2.1,by rw[(o c this.2.1).2];exact this.2.2⟩;have:=l.rt s c hc;exact⟨this.1,y _ this.2.1,by rw[(o c this.2.1).2];exact this.2.2⟩
end
section
variable{P:Program}{C:Cx}{w0:World}{c0:C0}{U:Nat->Prop}{E:Env}{a:Act}{w:World}{G:Gh}{ops:List Oper}{g:Option (Nat×Bool)}
def ait(w:World)(v:Value)(n sz:Nat)(cs:List Value):Prop:=
 cs.length=n*sz/\∃(b:Option Addr) (cap:Nat),v= .slice b n cap/\n<=cap/\(b=none->n=0/\cap=0)/\∀a,b=some a->∀(j:Nat) (u:Value),cs[j]?=some u->w.cell? (a.add j)=some u
theorem Bk.cells{e:Ty}{l:List e.den}{v:Value}{B:List Nat}(h:Bk w e.sz (fl w e) l v B):
 ∃cs,ait w v l.length e.sz cs/\fN (fl w e) l cs (B.drop 1)/\
  (∀p n cap,v= .slice (some p) n cap->0<cap->∃b off,p=⟨b,off,none⟩/\B=b::B.drop 1/\n=l.length/\∃c el q,w.heap[b]?=some (.cells c el q)/\off+cap*e.sz<=c.size/\cs=(c.toList.drop off).take (l.length*e.sz)):=by
 rcases h with⟨⟨K,rfl⟩,rfl,rfl⟩|⟨b,off,cap,c,el,q,Bs,D,o,H,z,rfl,I⟩;exact⟨[],⟨by simp,K,0,rfl,agc _,fun _=>⟨rfl,rfl⟩,fun a _ j u y=>by simp at y⟩,⟨rfl,rfl⟩,fun p n cap h hc=>by cases h;omega⟩;refine⟨_,⟨fN.len (sz:=e.sz) (fun x c B h=>fl.len h) I,some ⟨b,off,none⟩,cap,D,o,by simp,fun a J j u y=> ?_⟩,I,fun p n' cap' h _=> ?_⟩;cases J;rw[Addr.add_lit,UT H];exact aiE y;rw[D]at h;cases h;exact⟨b,off,rfl,rfl,rfl,c,el,q,H,z,rfl⟩
theorem fN.ama{e:Ty}{l:List e.den}{cs:List Value}{B:List Nat}(h:fN (fl w e) l cs B):∀v∈cs,v.oneCell'=true:=by
 induction l generalizing cs B with
 |nil=>rw[h.1];simp
 |cons x l p=>
  obtain⟨c1,c2,B1,B2,rfl,rfl,c,o⟩:=h;intro v b;rcases o_.1 b with b|b;exact fl.one c v b;exact p o v b
def alE{t ty:TypeId}{el:TypeId}{e:Ty}(J:P.underlying t=some (.slice el))(hT:OB P el e){y Y:Value}{n m:Nat}{xs ys:List Value}
 (hx:ait w y n e.sz xs) (hy:ait w Y m e.sz ys) (h1:∀u∈ys,u.oneCell'=true) (hb:n+m<4294967296)
 (b0:∀H k cap,y= .slice (some H) k cap->0<cap->∃b off,H=⟨b,off,none⟩/\∃c I,w.heap[b]?=some (.cells c I (0,0))/\off+cap*e.sz<=c.size):
 (m=0/\(Builtin.append_ #[t,t] ty #[y,Y]).run P w= .ok y w)\/
 (∃b off cap,y= .slice (some ⟨b,off,none⟩) n cap/\n+m<=cap/\0<cap/\(Builtin.append_ #[t,t] ty #[y,Y]).run P w= .ok (.slice (some ⟨b,off,none⟩) (n+m) cap) (w.setCells b (off+n*e.sz) ys))\/
 (∃cap rest,n+m<=cap/\cap*e.sz<=(xs++ys++rest).length/\
  (Builtin.append_ #[t,t] ty #[y,Y]).run P w= .ok (.slice (some ⟨w.heap.size,0,none⟩) (n+m) cap) (w.drew.alloc (.cells (xs++ys++rest).toArray el))):=by
 obtain⟨inf,d,R,l,hz,S,_⟩:=hT;have K:(zE e e.zero).cells.size=e.sz:=VF e.PU (Y6 e);obtain⟨z,W,h,rfl,X,h0,s⟩:=hx;obtain⟨p,B,i,rfl,hcy,j0,v⟩:=hy;rcases Nat.eq_zero_or_pos m with rfl|hm;left;refine⟨rfl,?_⟩
 have hf:(Builtin.firstCells inf.size 0 (.slice B 0 i)).run P w= .ok #[] w:=by
  cases B with
  |none=>exact run_firstCells_none ..
  |some H=>exact run_firstCells_some (P:=P) w inf.size 0 H 0 i [] (by simp) (by simp)
 cases W with
 |none=>simp[Builtin.append_,run_underlying J,Go.sizeOf,typeInfo,R,Builtin.lenOf,hf,X]
 |some H=>simp[Builtin.append_,run_underlying J,Go.sizeOf,typeInfo,R,Builtin.lenOf,hf,X,storeCells]
 right;cases B with
 |none=>have:=(j0 rfl).1;omega
 |some x=>
  have o:=v x rfl;cases W with
  |none=>
   obtain⟨rfl,rfl⟩:=h0 rfl;right
   have F:=run_append_nil (P:=P) w t ty el inf _ J R hz x m i ys (by rw[l];exact p) o hm (by omega) (by
    have:m*inf.bytes<=4294967296*32768:=Nat.mul_le_mul (by omega) S;omega)
   have L:=grownCap_ge w m 0 el;have e0:xs=[]:=by simpa using z
   subst e0;refine⟨grownCap w m 0 el,(Builtin.zeroCells (zE e e.zero).cells (grownCap w m 0 el-m)).toList,by omega,?_,?_⟩;simp only[agt,agl,agH,size_zeroCells,K,p,<-J8];exact afR _ (by omega);rw[F];simp only[akb,agt];congr 3;apply af2;simp
  |some D=>
   have N:=s D rfl;rcases ahf h (n+m)with hg|hg;right
   have F:=run_append_grow (P:=P) w t ty el inf _ J R hz D n h xs (by rw[l];exact z) N
    x m i ys (by rw[l];exact p) o hg (by omega) (growslice_fits hg (by
    have:(n+m)*inf.bytes<=4294967296*32768:=Nat.mul_le_mul (by omega) S;omega))
   have L:=grownCap_ge w (n+m) h el;refine⟨grownCap w (n+m) h el,(Builtin.zeroCells (zE e e.zero).cells (grownCap w (n+m) h el-(n+m))).toList,L,?_,?_⟩;simp only[agl,agH,size_zeroCells,K,z,p,<-J8];exact afR _ (by omega);rw[F];congr 3;apply af2;simp;left;obtain⟨b,off,rfl,c,I,q,hsize⟩:=b0 D n h rfl (by omega)
   have r:∀j,j<ys.length->off+n*e.sz+j<c.size:=by
    intro j hj;have:(n+m)*e.sz<=h*e.sz:=afR _ hg;rw[J8]at this;omega
   have F:=run_append_room_cells (P:=P) w t ty el inf J R b off n h x m i ys (by rw[l];exact p) o h1 hg
    (fun j hj=>by rw[UT q,l];simp[r j hj]) (fun j hj=>YB q _)
   rw[l]at F;exact⟨b,off,h,rfl,hg,by omega,F⟩
theorem fl.flat:∀ {τ:Ty} {x:τ.den} {cs:List Value} {B:List Nat},τ.flat=true->fl w τ x cs B->B=[]
 | .int _,_,_,_,_,h| .bool,_,_,_,_,h| .str,_,_,_,_,h=>h.2
 | .sl _,_,_,_,h,_=>by simp[Ty.flat]at h
 | .pair a b,p,cs,B,hf,h=>by
   obtain⟨c1,c2,B1,B2,rfl,rfl,c,e⟩:=h;simp only[Ty.flat,af0]at hf;rw[fl.flat hf.1 c,fl.flat hf.2 e];rfl
theorem fN.flat{e:Ty}(b:e.flat=true):∀ {l:List e.den} {cs:List Value} {B:List Nat},fN (fl w e) l cs B->B=[]
 | [],_,_,h=>h.2
 |x::l,cs,B,h=>by
  obtain⟨c1,c2,B1,B2,rfl,rfl,c,o⟩:=h;rw[fl.flat b c,fN.flat b o];rfl
theorem qs.ap8{e:Ty}{l:List e.den}{v:Value}{m:M}(h:qs w G e l v m)(D:m≠ .dead):
 ∃B,Bk w e.sz (fl w e) l v B/\(∀b∈B,G.col b∈m.cO)/\∀b∈B.drop 1,G.col b∈WO m:=by
 cases m with
 |row t I nd=>
  obtain⟨_,_,B,q,hc⟩:=h;cases B with
  |nil=>exact⟨[],q,by simp,by simp⟩
  |cons x z=>
   obtain⟨H,_,y,_⟩:=hc x z rfl;refine⟨x::z,q,fun b c=> ?_,fun b c=>y b (by simpa using c)⟩;rcases S_.1 c with rfl|c;simp[M.cO,H];simp[M.cO,y b c]
 |sha I=>obtain⟨⟨B,q,hc⟩,_⟩:=h;exact⟨B,q,hc,fun b c=>hc b (afX c)⟩
 |nst b E i o p fr=>obtain⟨⟨B,q,hc⟩,_⟩:=h;exact⟨B,q,fun x u=>by simp[M.cO,hc x u],fun x u=>by simp[WO,hc x (afX u)]⟩
 |dead=>exact absurd rfl D
def amq{m:M}:∀c∈WO m,c∈m.cO:=by
 cases m<;>simp_all[WO,M.cO]
structure aqh(G:Gh)(kl gv:List Nat)(tk:Nat)(mm:M)(Bx By:List Nat):Prop where
 hs:∃hs nd,mm= .row tk hs nd/\(∀b∈Bx.drop 1++By.drop 1,(if G.col b∈gv then tk else G.col b)∈hs)/\(nd=true->(Bx.drop 1++By.drop 1).Nodup)
 head:∀b Bs,Bx=b::Bs->G.col b∈kl/\G.col b∈gv/\b∉Bx.drop 1++By.drop 1
theorem ao0{e:Ty}{l l2:List e.den}{vx vy:Value}{m m' mm:M}{tk:Nat}{kl gv:List Nat}(j:qs w G e l vx m)(hy:qs w G e l2 vy m')(p0:m'≠ .dead)
 (S:∀c∈m.cO,Good U G c) (N:∀c∈m'.cO,Good U G c) (h:anL tk e.flat m m'=some (kl,gv,mm)):
 (∀c∈kl,4<=c/\Good U G c)/\(∀c∈gv,4<=c/\Good U G c)/\(∀c∈mm.cO,Good U G c\/c=tk)/\
  ∃F By,Bk w e.sz (fl w e) l vx F/\Bk w e.sz (fl w e) l2 vy By/\aqh G kl gv tk mm F By:=by
 obtain⟨By,K,l1,h0⟩:=hy.ap8 p0
 have I:∀ {l:List e.den} {v:Value} {B:List Nat},e.flat=true->Bk w e.sz (fl w e) l v B->B.drop 1=[]:=by
  intro l v B hf h;obtain⟨cs,_,h2,_⟩:=h.cells;exact fN.flat hf h2
 unfold anL at h;split at h;rename_i t hs nd;obtain⟨s,n1,F,k,q⟩:=j;have J:=S t (by simp[M.cO]);split at h;rename_i hf;cases h;have e1:=I hf k;have e2:=I hf K;refine⟨by simp[s,J],by simp[s,J],by simp[M.cO],F,By,k,K,⟨⟨[],true,rfl,by simp[e1,e2],by simp[e1,e2]⟩,fun b n r=> ?_⟩⟩;have:=(q b n r).1;exact⟨by simp[this],by simp[this],by simp[e1,e2]⟩;split at h;rename_i H;cases m' with
 |row u L x0=>
  simp only[M.same,b_]at H;subst H;cases h;have E0:=n1;obtain⟨_,p1,s0,j0,k0⟩:=hy;have G0:vx=vy:=E0.symm.trans p1;subst G0;refine⟨by simp[s,J],by simp[s,J],fun c hc=> ?_,F,s0,k,j0,⟨⟨_,false,rfl,fun x j=> ?_,by simp⟩,fun x n j=> ?_⟩⟩;simp only[M.cO,S_]at hc;rcases hc with rfl|hc;exact .inr rfl;rcases ajK hc with rfl|⟨hc,_⟩;exact .inr rfl;left;rcases o_.1 hc with hc|hc;exact S c (by simp[M.cO,hc]);exact N c (by simp only[WO]at hc;simp[M.cO,hc]);refine aam (ts:=[u]) ?_;rcases o_.1 j with j|j;cases F with
  |nil=>simp at j
  |cons y n=>exact afS _ ((q y n rfl).2.2.1 x (by simpa using j))
  cases s0 with
  |nil=>simp at j
  |cons y n=>exact af3 _ ((k0 y n rfl).2.2.1 x (by simpa using j))
  obtain⟨W,k2,k3,k4⟩:=q x n j;refine⟨by simp[W],by simp[W],fun d=> ?_⟩;rcases o_.1 d with d|d;rw[j]at d;exact k2 (by simpa using d);cases s0 with
  |nil=>simp at d
  |cons y u1=>
   have L0:y=x:=by
    subst j;rcases k with⟨_,_,e0⟩|⟨b1,o1,c1,_,_,_,_,e1,_,_,_,e2,_⟩;cases e0;rcases j0 with⟨_,_,e0⟩|⟨b2,o2,c2,_,_,_,_,e3,_,_,_,e4,_⟩;cases e0;rw[e1]at e3;simp only[Value.slice.injEq,ac4,Addr.mk.injEq]at e3;cases e2;cases e4;exact e3.1.1.symm
   subst L0;exact(k0 y u1 rfl).2.1 (by simpa using d)
 |_=>simp[M.same]at H
 split at h;cases h;rename_i hnf o0;simp only[agr,b_]at o0
 have R0:∀b n,F=b::n->b∉By:=by
  intro b n r d;have h1:=l1 b d;rw[(q b n r).1]at h1;exact o0 h1
 split at h;rename_i a b ha r;split at h;rename_i b0;cases h;obtain⟨r1,h3,X⟩:=M.S1 ha
 have a1:∀c∈b,c∉a:=by
  simp only[agS,agL,agr,d_]at b0;exact b0
 obtain⟨Y,R,u0,D⟩:=hy.own r
 have r0:∀c∈b,4<=c:=by
  intro c hc;cases m' with
  |row t' L x0=>
   obtain⟨_,g3,gm⟩:=M.S1 r;rcases(gm c).1 hc with rfl|hc;exact hy.1;exact g3 c hc
  |sha L=>cases L with
   |nil=>simp only[M.own,ac4]at r;subst r;simp at hc
   |cons=>simp[M.own]at r
  |nst b E i o p fr=>simp[M.own]at r
  |dead=>exact absurd rfl p0
 have j1:∀c∈a,4<=c:=fun c hc=>by rcases(X c).1 hc with rfl|hc;exact s;exact h3 c hc
 refine⟨by simp[s,J],fun c hc=> ?_,by simp[M.cO],F,Y,k,R,⟨⟨[tk],true,rfl,fun x j=> ?_,fun _=> ?_⟩,fun x n j=> ?_⟩⟩;rcases o_.1 hc with hc|hc;exact⟨j1 c hc,S c (M.Ra ha c hc)⟩;exact⟨r0 c hc,N c (M.Ra r c hc)⟩
 have:G.col x∈a++b:=by
  rcases o_.1 j with j|j;cases F with
  |nil=>simp at j
  |cons y n=>
   refine afS _ ((X _).2 (.inr ?_));exact(q y n rfl).2.2.1 x (by simpa using j)
  exact af3 _ (D x (afX j))
 simp only[an this];simp;refine ag1.2 ⟨?_,u0.sublist (aop ..),?_⟩;cases F with
 |nil=>simp
 |cons y n=>exact(q y n rfl).2.2.2 r1
 intro x j y hy e;subst e;refine a1 _ (D x (afX hy)) ?_;cases F with
 |nil=>simp at j
 |cons z n=>exact(X _).2 (.inr ((q z n rfl).2.2.1 x (by simpa using j)))
 obtain⟨W,k2,k3,k4⟩:=q x n j;refine⟨by simp[W],?_,?_⟩;rw[W];exact afS _ ((X t).2 (.inl rfl));intro d;rcases o_.1 d with d|d;rw[j]at d;exact k2 (by simpa using d);have h1:=M.Ra r _ (D x (afX d));rw[W]at h1;exact o0 h1;cases h;cases h;refine⟨by simp[s,J],by simp[s,J],fun c hc=> ?_,F,By,k,K,⟨⟨_,false,rfl,fun x j=> ?_,by simp⟩,fun x n j=> ?_⟩⟩;simp only[M.cO,S_]at hc;rcases hc with rfl|hc;exact .inr rfl;rcases ajK hc with rfl|⟨hc,_⟩;exact .inr rfl;left;rcases o_.1 hc with hc|hc;exact S c (by simp[M.cO,hc]);refine N c ?_;cases m'<;>simp_all[WO,M.cO];refine aam (ts:=[t]) ?_;rcases o_.1 j with j|j;cases F with
 |nil=>simp at j
 |cons y n=>exact afS _ ((q y n rfl).2.2.1 x (by simpa using j))
 refine af3 _ ?_;exact h0 x j;obtain⟨W,k2,k3,k4⟩:=q x n j;refine⟨by simp[W],by simp[W],fun d=> ?_⟩;rcases o_.1 d with d|d;rw[j]at d;exact k2 (by simpa using d);exact R0 x n j (afX d)
 have k:∃F,Bk w e.sz (fl w e) l vx F/\F=[]:=by
  obtain⟨⟨B,hB,hc⟩,_⟩:=j;refine⟨B,hB,?_⟩;cases B with
  |nil=>rfl
  |cons x l=>exact absurd (hc x (by simp)) (by simp)
 obtain⟨_,k,rfl⟩:=k;split at h;rename_i hf;cases h;have e2:=I hf K;exact⟨by simp,by simp,by simp[M.cO],[],By,k,K,⟨⟨[],true,rfl,by simp[e2],by simp[e2]⟩,by simp⟩⟩;split at h;rename_i b r;cases h;obtain⟨Y,R,u0,D⟩:=hy.own r
 have r0:∀c∈gv,4<=c:=by
  intro c hc;cases m' with
  |row t' L x0=>
   obtain⟨_,g3,gm⟩:=M.S1 r;rcases(gm c).1 hc with rfl|hc;exact hy.1;exact g3 c hc
  |sha L=>cases L with
   |nil=>simp only[M.own,ac4]at r;subst r;simp at hc
   |cons=>simp[M.own]at r
  |nst b E i o p fr=>simp[M.own]at r
  |dead=>exact absurd rfl p0
 refine⟨by simp,fun c hc=>⟨r0 c hc,N c (M.Ra r c hc)⟩,by simp[M.cO],[],Y,k,R,⟨⟨[tk],true,rfl,fun x j=> ?_,fun _=> ?_⟩,by simp⟩⟩;have:=D x (afX (i:=1) (by simpa only[List.drop_nil,agt]using j));simp[this];simpa only[List.drop_nil,agt]using u0.sublist (aop 1 Y);cases h;refine⟨by simp,by simp,fun c hc=> ?_,[],By,k,K,⟨⟨_,false,rfl,fun x j=> ?_,by simp⟩,by simp⟩⟩;simp only[M.cO,S_]at hc;rcases hc with rfl|hc;exact .inr rfl;exact .inl (N c (amq c hc));simpa using h0 x (by simpa using j);cases h
theorem Bk.bounds{e:Ty}{l:List e.den}{v:Value}{B:List Nat}(h:Bk w e.sz (fl w e) l v B):∀b∈B,b<w.heap.size:=
 fl.bounds (τ:= .sl e) ⟨v,rfl,h⟩
theorem fN.world{e:Ty}{w':World}{l:List e.den}{cs:List Value}{B:List Nat}(p:∀b∈B,w'.heap[b]?=w.heap[b]?)(h:fN (fl w e) l cs B):fN (fl w' e) l cs B:=
 fN.mono (fun b=>w'.heap[b]?=w.heap[b]?) (fun _ _ _ c o=>fl.mono c o) p h
def ali(i:Inv w0 c0 U E a w G){d:List Nat}(e:∀c∈d,4<=c/\Good U G c):∀s,∀c∈((E.kill d).s.getD s .no).hc,c∉d:=by
 intro s c hc b;rcases SV.ad6 _ _ hc with hc|hc;exact(Env.aax E d s c hc).2 b;have h:=(i.kill d).bt s c hc;rw[(e c b).2.2.2]at h;exact absurd h.2.2 (by simp)
theorem apG(hC:CxTy P C)(X:Inv w0 c0 U E a w G)(hR:RI ops E a.tmps)(hg:Gd ops a.tmps g){tk:Nat}(h3:4<=tk)(hU:¬U tk){o:Oper}{c:Call}
 {cd:Bool} {kl gv:List Nat} {t:Nat} {v:SV} (ho:o.op= .call c) (hb:c.callee= .builtin .append) (h:kH C ops E.rd tk g o=some (.app cd kl gv t v)) (l1:cd=true):
 t=tk/\Yields w0 c0 (fun u=>U u\/u=tk) ((E.kill kl).fv gv t) a ((execOp a.eval o).run P w) v:=by
 simp only[kH,ho,hb]at h;unfold UU at h;split at h;contradiction;contradiction;contradiction;rename_i x y t1 u1 _ ha B1;have o0:c.args= #[x,y]:=af2 (by simpa using ha);have n1:c.argTypes= #[t1,u1]:=af2 (by simpa using B1);split at h;rename_i ti e l m e' l' m' C1 hx hy;split at h;rename_i H j0;have K:=Ea j0;simp only[TV.mk.injEq]at K;obtain⟨he,hl,_⟩:=K;cases he;cases hl;split at h;rename_i k0 j1 mm hm;split at h;rename_i I;simp only[af0,b_]at I;obtain⟨hτ,rfl⟩:=I;simp only[ac4,Ef.app.injEq]at h;obtain⟨r1,rfl,rfl,rfl,rfl⟩:=h;refine⟨rfl,?_⟩;rw[<-r1]at l1;have hlen:l.length+H.length<4294967296:=e_ l1;have hT:=(hC.tt _ ti C1).2;rw[hτ]at hT;obtain⟨hu,F1⟩:=hT;obtain⟨mx,J1,L1,hdx,M1⟩:=Rb X hR hg hx;cases J1;obtain⟨my,X1,b2,c2,e2⟩:=Rb X hR hg hy;cases X1;obtain⟨u0,x0,h2,Bx,By,E0,w1,⟨⟨hs,nd,rfl,G0,L0⟩,B⟩⟩:=ao0 L1 b2 c2 M1 e2 hm
 have L:∀ {v':Value} {w':World},((Builtin.append_ #[u1,u1] o.type #[a.eval x,a.eval y]).run P w= .ok v' w')->(execOp a.eval o).run P w= .ok (.value v') w':=by
  intro v' w' hr;simp only[execOp,ho];simp[resolve,hb,invoke,builtin,o0,n1,hr]
 obtain⟨xs,R0,x1,y1⟩:=E0.cells;obtain⟨S,a1,c1,_⟩:=w1.cells
 have r:∀(G1:Gh) (mv:Value),(∀c,U c->G.bx c=false->G1.bx c=false)->∀c∈(M.row tk hs nd).cO,Good (fun u=>U u\/u=tk) (G1.fv j1 tk mv) c:=by
  intro G1 mv h1 c hc;rcases h2 c hc with⟨Y,k2,F⟩|rfl;refine⟨Y,.inl k2,?_⟩;simp only[Gh.fv];split;rfl;exact h1 c k2 F;exact⟨by omega,.inr rfl,by simp[Gh.fv]⟩
 have N:=X.kill k0
 have o1:∀ad k cap,a.eval x= .slice (some ad) k cap->0<cap->∃b off,ad=⟨b,off,none⟩/\∃c J,w.heap[b]?=some (.cells c J (0,0))/\off+cap*e.sz<=c.size:=by
  intro ad k cap hv W;obtain⟨b,off,R,hB,_,c,J,fz,hh,e0,_⟩:=y1 ad k cap hv W;obtain⟨Y,k2,_⟩:=B b _ hB;obtain⟨c',j2,hf⟩:=X.fresh b (u0 _ Y).1;rw[hf]at hh;cases hh;exact⟨b,off,R,_,_,hf,e0⟩
 have j:∀z∈Bx.drop 1,z<w.heap.size:=fun z i=>E0.bounds z (afX i);have n:∀z∈By.drop 1,z<w.heap.size:=fun z i=>w1.bounds z (afX i);rcases alE (ty:=o.type) hu F1 R0 a1 (fN.ama c1) hlen o1 with⟨n2,hr⟩|⟨b,off,cap,hv,D,W,hr⟩|⟨cap,rest,D,e0,hr⟩
 have j0:H=[]:=List.length_eq_zero_iff.1 n2;subst j0;refine⟨_,_,_,L hr,N.fv (v:=a.eval x) h3 x0 (fun h=>absurd h hU),⟨[a.eval x],rfl,_,rfl,h3,by simp[Gh.fv],Bx,?_,?_⟩,lg.d (r G _ (fun _ _ h=>h)),by rintro _ _ ⟨⟩⟩;simpa using E0;intro b Bs hB;obtain⟨Y,k2,F⟩:=B b Bs hB;subst hB;simp only[List.drop_succ_cons,ahR,o_,not_or]at F;refine⟨by simp[Gh.fv,k2],F.1,fun z i=> ?_,fun hn=> ?_⟩;exact G0 z (afS _ (by simpa using i));have:=(ag1.1 (L0 hn)).1;simpa using this
 obtain⟨b0,off0,R,c,J,hh,e0⟩:=o1 _ _ cap hv W;cases R;obtain⟨b1,off1,R,hB,_,c',j2,fz,z1,_,A1⟩:=y1 _ _ cap hv W;cases R;rw[hh]at z1;cases z1;obtain⟨Y,k2,F⟩:=B b _ hB;simp only[o_,not_or]at F;have p0:=a1.1;have r0:=R0.1;have hmul:(l.length+H.length)*e.sz<=cap*e.sz:=afR _ D;rw[J8]at hmul;have h0:=NY b (el:=J) S (off+l.length*e.sz) w c hh (by omega)
 have s0:Inv w0 c0 U (E.kill k0) a (w.setCells b (off+l.length*e.sz) S) G:=by
  refine N.change (ts:=k0) (ali X u0) (fun z _ i=>⟨oU b _ _ w z (fun e=>i (e▸Y)),rfl⟩) (fun _ _=>⟨rfl,rfl⟩) (fun _ h=>h) X.colU
   (fun z i=>by rw[Eu];exact X.lt z i) (fun z i=> ?_) (fun z i hc=> ?_) (fun _ _=>rfl) (by rw[Eu];exact agc _)
   (qG b _ _ w).1 (qG b _ _ w).2.1 (qG b _ _ w).2.2
  by_cases e1:z=b;subst e1;exact⟨_,_,h0⟩;rw[oU b _ _ w z e1];exact X.fresh z i;have hf:=X.frame z i hc;refine⟨hf.1,?_⟩;rw[oU b _ _ w z (fun e=> ?_)];exact hf.2;subst e;have:=(u0 _ Y).1;omega
 refine⟨_,_,_,L hr,s0.fv (v:= .slice (some ⟨b,off,none⟩) (l.length+H.length) cap) h3 x0 (fun h=>absurd h hU),⟨[_],rfl,_,rfl,h3,by simp[Gh.fv],b::(Bx.drop 1++By.drop 1),?_,?_⟩,lg.d (r G _ (fun _ _ h=>h)),by rintro _ _ ⟨⟩⟩;refine .inr ⟨b,off,cap,_,J,(0,0),Bx.drop 1++By.drop 1,by simp,by simpa using D,h0,?_,rfl,?_⟩;simp;omega
 have p:((c.toList.take (off+l.length*e.sz)++S++c.toList.drop (off+l.length*e.sz+S.length)).drop off).take ((l++H).length*e.sz)=xs++S:=by
  have htl:(c.toList.take (off+l.length*e.sz)).length=off+l.length*e.sz:=by simp;omega
  rw[agZ,agK (by omega),agB,A1];rw[show off+l.length*e.sz-off=l.length*e.sz by omega];rw[<-agZ]
  have s:(alh (l.length*e.sz) (List.drop off c.toList)++S).length=(l++H).length*e.sz:=by
   rw[agl,p0,<-A1,r0,agl,J8]
  rw[<-s,aow]
 rw[p];refine fN.append (fN.world (fun z i=>oU b _ _ w z (fun e=> ?_)) x1) (fN.world (fun z i=>oU b _ _ w z (fun e=> ?_)) c1);subst e;exact F.1 i;subst e;exact F.2 i;rintro b' Bs ⟨⟩;refine⟨by simp[Gh.fv,k2],fun q=>(o_.1 q).elim F.1 F.2,fun z i=>G0 z i,fun hn=>L0 hn⟩
 have D1:=(N.drawn (w.drawn+1)).alloc h3 hU (xs++S++rest).toArray ti.el (.slice (some ⟨w.heap.size,0,none⟩) (l.length+H.length) cap) false;have s0:=D1.fv (ts:=j1) (t:=tk) (v:= .slice (some ⟨w.heap.size,0,none⟩) (l.length+H.length) cap) h3 (fun c hc=> ?_) (fun _=>⟨by simp[Gh.add],by simp[Gh.add]⟩)
 have p1:∀z,z<w.heap.size->(G.add w.heap.size tk (.slice (some ⟨w.heap.size,0,none⟩) (l.length+H.length) cap) false).col z=G.col z:=fun z i=>by
  simp[Gh.add,ahC i]
 refine⟨_,_,_,L hr,s0.mono (fun c hc=>by rcases hc with hc|hc;exact hc;exact .inr hc),⟨[_],rfl,_,rfl,h3,by simp[Gh.fv],w.heap.size::(Bx.drop 1++By.drop 1),?_,?_⟩,
  lg.d (r _ _ (fun c hc h=>by
   have:c≠tk:=fun e=>hU (e▸hc);simp[Gh.add,this,h])),by rintro _ _ ⟨⟩⟩
 refine .inr ⟨w.heap.size,0,cap,_,ti.el,(0,0),Bx.drop 1++By.drop 1,by simp,by simpa using D,heap_alloc_new _ _,by simpa using e0,rfl,?_⟩;have r0:=R0.1;have p0:=a1.1
 have p:(((xs++S++rest).toArray.toList.drop 0).take ((l++H).length*e.sz))=xs++S:=by
  have s:(xs++S).length=(l++H).length*e.sz:=by rw[agl,p0,r0,agl,J8]
  simp only[ahR];rw[<-s,aow]
 rw[p];exact fN.append (fN.world (w:=w) (fun z i=>heap_alloc_old w.drew _ z (j z i)) x1) (fN.world (w:=w) (fun z i=>heap_alloc_old w.drew _ z (n z i)) c1);rintro b' Bs ⟨⟩;refine⟨?_,?_,fun z i=> ?_,fun hn=>L0 hn⟩;simp[Gh.fv,Gh.add];intro q;rcases o_.1 q with q|q;exact Nat.lt_irrefl _ (j _ q);exact Nat.lt_irrefl _ (n _ q)
 have E1:z<w.heap.size:=by
  rcases o_.1 i with i|i;exact j _ i;exact n _ i
 have:=G0 z i;simp only[Gh.fv];have hd:(World.heap {w with drawn:=w.drawn+1}).size=w.heap.size:=rfl;rw[hd,p1 z E1];exact this;obtain⟨Y,k2,F,k5⟩:=x0 c hc;have:c≠tk:=fun e=>hU (e▸F);exact⟨Y,k2,.inl F,by simp[Gh.add,this,k5]⟩;cases h;cases h;cases h;cases h;cases h
theorem Inv.anS(h:Inv w0 c0 U E a w G)(d:Nat){sv:SV}(hs:rn w G sv (a.tmps.getD d undef))(B:lg U G sv)
 (l:∀t u,sv= .box t u->∀s o,s≠d->E.s.getD s .no≠ .box t o):Inv w0 c0 U {E with s:=E.s.set d sv} a w G:=by
 have b:∀s,({E with s:=E.s.set d sv}:Env).s.getD s .no=if s=d/\d<E.s.length then sv else E.s.getD s .no:=fun s=>CS E.s d s sv
 refine {h with len:=by simpa using h.len,slots:=fun s=> ?_,sc:=fun s c hc=> ?_,bt:=fun s c hc=> ?_,rt:=fun s c hc=> ?_,uni:=fun s v t u o p q=> ?_};rw[b];split;rename_i e;rw[e.1];exact hs;exact h.slots s;rw[b]at hc;split at hc;exact B.1 c hc;exact h.sc s c hc;rw[b]at hc;split at hc;exact B.2.1 c hc;exact h.bt s c hc;rw[b]at hc;split at hc;exact B.2.2 c hc;exact h.rt s c hc;rw[b]at p q;split at p<;>split at q;omega;rename_i y z;by_cases e:v=d;exact absurd ⟨e,y.2⟩ z;exact absurd q (l t u p v o e);rename_i y z;by_cases e:s=d;exact absurd ⟨e,z.2⟩ y;exact absurd p (l t o q s u e);exact h.uni s v t u o p q
theorem Inv.drop(h:Inv w0 c0 U E a w G)(d:Nat):Inv w0 c0 U {E with s:=E.s.set d .no} a w G:=
 h.anS d (sv:= .no) trivial (by simp[lg,SV.sc,SV.bt,SV.rt]) (by rintro _ _ ⟨⟩)
def XL{t:TypeId}{τ:Ty}(h:OB P t τ){x:Value}{b o:Nat}{c:Array Value}{el:TypeId}{cs:List Value}
 (d:w.heap[b]?=some (.cells c el (0,0))) (hs:o+τ.sz<=c.size) (e:cs.length=τ.sz) (i:∀v∈cs,v.oneCell'=true) (j:x= .pointer (some ⟨b,o,none⟩)):
 (Instr.storeAt t x (zE τ cs)).run P w= .ok () (w.setCells b o cs):=by
 subst j;simp only[Instr.storeAt,Instr.sureAddr];simpa using ajm h d hs e i
def apk(hC:CxTy P C)(n:Inv w0 c0 U E a w G)(hR:RI ops E a.tmps)(hg:Gd ops a.tmps g){tk:Nat}{o:Oper}{t:TypeId}{x y:Operand}
 {b s:Nat} {v:TV} (ho:o.op= .store t x y) (h:kH C ops E.rd tk g o=some (.put b s v)):
 ∃w',(execOp a.eval o).run P w= .ok .skip w'/\Inv w0 c0 U {E with s:=E.s.set s (.box b v)} a w' G:=by
 simp only[kH,ho]at h;split at h;rename_i ti H off p τ1 v1 b0 I hv;split at h;rename_i l u J;split at h;rename_i hc;simp only[af0,b_]at hc;rw[S']at h;obtain⟨r,hr,h⟩:=h;simp only[Ef.put.injEq]at h;obtain⟨rfl,rfl,rfl⟩:=h;obtain⟨h1,h2⟩:=KM n hR hg I;obtain⟨bk,_,k2,k3⟩:=h1;obtain⟨i,j,c,el,g1,g3,g4,g5,g6,g7⟩:=n.box J;rw[g1]at k2;simp only[Value.pointer.injEq,ac4,Addr.mk.injEq,and_true]at k2;subst k2;obtain⟨⟨W,u0,F⟩,X,hlive⟩:=Q9 n hR hg hv;obtain⟨q1,q2,q3⟩:=kE.put hr g6 F;have hlen:=kE.len g6;have L:=kE.len F;simp only[agH]at hlen;rw[hc.1]at q1 q2;have hT:=(hC.tt t ti b0).1;have D:=NY j (el:=el) W off w c g5 (by omega);have N:=XL (P:=P) (t:=t) (τ:=ti.τ) hT g5 (o:=off) (cs:=W) (by rw[<-hc.2];omega) (by rw[L,hc.2]) (kE.one F) k3;have B:G.bx H=true:=((n.bt l H (by rw[i];simp[SV.bt])).2.2)
 refine⟨w.setCells j off W,?_,?_⟩;simp only[execOp,ho,u0,hc.2];simp[N];have j0:∀k,G.col k≠H->k≠j:=fun k m e=>m (e▸g4);have hD:=n.drop l;have R:∀s,({E with s:=E.s.set l .no}:Env).s.getD s .no=if s=l/\l<E.s.length then .no else E.s.getD s .no:=fun s=>CS E.s l s .no
 have k0:∀s,∀c∈(({E with s:=E.s.set l .no}:Env).s.getD s .no).hc,c∉ [H]:=by
  intro s c z K;simp only[agi]at K;subst K
  have S:l<E.s.length:=by
   rcases ahf l E.s.length with h|h;exact h;rw[agu,agR h]at i;cases i
  rw[R]at z;split at z;simp[SV.hc,SV.sc]at z;rename_i e0;have o0:s≠l:=fun e=>e0 ⟨e,S⟩
  have p0:∀sv:SV,(∀u,sv≠ .box c u)->(∀d∈sv.sc,G.bx d=false)->c∉sv.hc:=by
   intro sv h1 h2 h3;cases sv with
   |box t v=>
    rcases S_.1 h3 with rfl|h3;exact h1 v rfl;have:=h2 c h3;rw[B]at this;cases this
   |_=>
    have:=h2 c h3;rw[B]at this;cases this
  exact p0 _ (fun u' e=>o0 (n.uni s l c u' _ e i)) (fun d q=>(n.sc s d q).2.2) z
 have r0:Inv w0 c0 U {E with s:=E.s.set l .no} a (w.setCells j off W) G:=by
  refine hD.change (ts:=[H]) k0 (fun k _ m=>⟨oU j _ _ w k (j0 k (by simpa using m)),rfl⟩) (fun _ _=>⟨rfl,rfl⟩) (fun _ h=>h) n.colU
   (fun k m=>by rw[Eu];exact n.lt k m) (fun k m=> ?_) (fun k m h0=> ?_) (fun _ _=>rfl) (by rw[Eu];exact agc _)
   (qG _ _ _ w).1 (qG _ _ _ w).2.1 (qG _ _ _ w).2.2
  by_cases e:k=j;subst e;exact⟨_,_,D⟩;rw[oU j _ _ w k e];exact n.fresh k m;have hf:=n.frame k m h0;refine⟨hf.1,?_⟩;rw[oU j _ _ w k (fun e=> ?_)];exact hf.2;subst e;omega
 have S:l<E.s.length:=by
  rcases ahf l E.s.length with h|h;exact h;rw[agu,agR h]at i;cases i
 have s0:=r0.anS l (sv:= .box H ⟨u.τ,r.1,r.2⟩) ?_ ?_ ?_;simpa using s0;refine⟨j,_,el,?_,g3,?_,g4,D,?_⟩;have:=n.slots l;rw[i]at this;obtain⟨x0,c2,E0,e1,e2,Y,e4,e5,e6⟩:=this;rw[e1]at Y;rw[g1]at Y;rw[e1];exact Y.symm;have:=n.slots l;rw[i]at this;obtain⟨x0,c2,E0,e1,e2,Y,e4,e5,e6⟩:=this;rw[Y];have:W.length=v1.τ.sz:=L;rw[this];refine kE.agree ⟨fun k m=>oU j _ _ w k (fun e=> ?_),fun _ _=>rfl,fun _ _=>rfl⟩ q1;subst e;rw[g4]at m;rcases q3 _ m with m|m;have:=(g7 _ m).2.2;rw[B]at this;cases this;have:=(X _ m).2.2;rw[B]at this;cases this;refine⟨fun d q=> ?_,fun d q=> ?_,by simp[SV.rt]⟩;rcases q3 d q with q|q;exact g7 d q;exact X d q;simp only[SV.bt,agi]at q;subst q;exact n.bt l d (by rw[i];simp[SV.bt]);rintro t' u' ⟨rfl,rfl⟩ s' u2 hs' he;rw[R]at he;split at he;cases he;exact hs' (n.uni s' l _ u2 _ he i);cases h;cases h;split at h;obtain⟨_,h⟩:=Option.ite_none_right_eq_some.mp h;obtain⟨_,h⟩:=Option.ite_none_left_eq_some.mp h;obtain⟨r,_,h⟩:=S'.mp h;cases h;cases h;cases h
end
end Vg
