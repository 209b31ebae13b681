/- VG, joined: an evaluator of the code over typed values, and its soundness, for any program. -/
import Derived.Calls
import Derived.Below
import Derived.Laws.Append
import Derived.Laws.AppendOwn
import Derived.Laws.Cells
import Derived.Laws.Entries
import Derived.Laws.MakeOwn
import Derived.Laws.IdiomCopy
import Derived.Laws.Slices
import Derived.Great.BuildSlice
import Derived.Laws.Strings
import Derived.Laws.BytesString
import Derived.Laws.BytesArg
import Derived.ArgAppend
set_option linter.unusedSimpArgs false
set_option linter.unusedVariables false
set_option linter.unusedSectionVars false
set_option linter.defProp false
open Option.some renaming injEq -> aaB
open List renaming mem_append -> h_,mem_cons -> B_,mem_append_left -> aa0,mem_of_mem_drop -> aa3,mem_flatMap -> acf,mem_cons_of_mem -> adm,mem_append_right -> aeO,take_of_length_le -> aeR,drop_of_length_le -> ae5,mem_singleton -> afi,length_append -> agf,contains_eq_mem -> agm,take_append_of_le_length -> agn,nil_append -> agp,getD_eq_getElem?_getD -> agq,drop_drop -> ags,replicate -> agv,drop_take -> agx,append_nil -> agz,drop_append_of_le_length -> agB,getElem?_eq_none -> agG,all_eq_true -> agN,getElem?_eq_getElem -> agQ,mem_eraseDups -> agS,take_take -> agT,append_assoc -> agU,nodup_append -> agV,getElem?_map -> agW,drop_append -> ag1,length_cons -> ag8,take_succ_eq_append_getElem -> ag9,take_append_drop -> ahb,mem_of_getElem? -> ahd,mem_iff_getElem -> ahg,replicate_succ -> ahm,getElem?_range -> ahp,getElem?_eq_some_iff -> ahx,take_append -> ahy,getD -> ahH,mem_filter -> ahI,take_zero -> ahK,drop_zero -> ahN,drop_set_of_lt -> ahR,take_set_of_le -> ajm,take -> akg,flatten_cons -> aki,flatMap_cons -> ako,drop_sublist -> akr,length -> akw,flatMap_map -> akA,head?_drop -> akF,take_left -> akJ
open Option renaming map_eq_some_iff -> C_,map_eq_none_iff -> afe,getD_some -> ahB,bind_eq_some_iff -> ahG,map_some -> akH
open Nat renaming add_mul -> sw,mul_le_mul_right -> aaZ,le_refl -> afc,min_eq_left -> agP,one_mul -> agZ,lt_or_ge -> ahc,ne_of_lt -> ahz,add_assoc -> ahO,zero_add -> aj0
open Array renaming getElem?_eq_getElem -> aaY,ext' -> M',length_toList -> agy,getD_eq_getD_getElem? -> ahs,toList_setIfInBounds -> ahw,toList_map -> ahF,toList_range -> aj7
open Bool renaming and_eq_true -> ac7,not_eq_true' -> agC,false_eq_true -> ahv
open Int renaming instLEInt -> aeP,toNat_of_nonneg -> ajn
open Prod.mk renaming injEq -> aff
def an.{u}{c:Prop}{h:Decidable c}(hc:c){α:Sort u}{t e:α}:ite c t e=t:=if_pos hc
def a_.{u}{c:Prop}{h:Decidable c}(hc:¬c){α:Sort u}{t e:α}:ite c t e=e:=if_neg hc
def b_{p:Prop}[Decidable p]:(decide p=true)=p:=decide_eq_true_eq
def c_{p:Prop}[h:Decidable p]:p→decide p=true:=decide_eq_true
def d_{p:Prop}{h:Decidable p}:decide p=false↔¬p:=decide_eq_false_iff_not
def e_{p:Prop}[h:Decidable p]:decide p=true→p:=of_decide_eq_true
namespace Vg
open Go
inductive Ty where
 |int (k:IntKind)
 |bool
 |str
 |sl (e:Ty)
 |pair (a b:Ty)
 deriving DecidableEq,Inhabited
@[reducible] def Ty.den:Ty->Type
  | .int _=>Int
  | .bool=>Bool
  | .str=>ByteArray
  | .sl e=>List e.den
  | .pair a b=>a.den×b.den
def Ty.sz:Ty->Nat
 | .pair a b=>a.sz+b.sz
 |_=>1
def Ty.aa:(τ:Ty)->τ.den
 | .int _=>(0:Int)
 | .bool=>false
 | .str=>ByteArray.empty
 | .sl _=>[]
 | .pair a b=>(a.aa,b.aa)
def Ty.zero:Ty->List Value
 | .int k=>[.int k 0]
 | .bool=>[.bool false]
 | .str=>[.string .empty]
 | .sl _=>[.slice none 0 0]
 | .pair a b=>a.zero++b.zero
def Ty.iu:Ty->Bool
 | .pair _ _=>true
 |_=>false
def kE:Ty->List Value->Value
 | .pair _ _,cs=> .agg cs.toArray
 |_,cs=>cs.headD undef
theorem Ty.JX:∀τ:Ty,0<τ.sz
 | .int _| .bool| .str| .sl _=>Nat.one_pos
 | .pair a b=>by have:=a.JX;simp only[Ty.sz];omega
theorem Ty.y3:∀τ:Ty,τ.zero.length=τ.sz
 | .int _| .bool| .str| .sl _=>rfl
 | .pair a b=>by simp[Ty.zero,Ty.sz,a.y3,b.y3]
def cr{α:Type}(R:α->List Value->List Nat->Prop):List α->List Value->List Nat->Prop
 | [],cs,B=>cs=[]/\B=[]
 |x::l,cs,B=>∃c1 b c B2,cs=c1++b/\B=c++B2/\R x c1 c/\cr R l b B2
def me{α:Type}(w:World)(sz:Nat)(R:α->List Value->List Nat->Prop)(l:List α)(v:Value)(B:List Nat):Prop:=
 ((∃e,v= .slice e 0 0)/\l=[]/\B=[])\/
 ∃(b off cap:Nat) (c:Array Value) (el:TypeId) (h:Nat×Nat) (d:List Nat),
  v= .slice (some ⟨b,off,none⟩) l.length cap/\l.length<=cap/\w.heap[b]?=some (.cells c el h)/\off+cap*sz<=c.size/\
  B=b::d/\cr R l ((c.toList.drop off).take (l.length*sz)) d
def bP(w:World):(τ:Ty)->τ.den->List Value->List Nat->Prop
 | .int k,n,cs,B=>cs=[.int k n]/\B=[]
 | .bool,b,cs,B=>cs=[.bool b]/\B=[]
 | .str,s,cs,B=>cs=[.string s]/\B=[]
 | .pair a b,p,cs,B=>∃c1 c d B2,cs=c1++c/\B=d++B2/\bP w a p.1 c1 d/\bP w b p.2 c B2
 | .sl e,l,cs,B=>∃v,cs=[v]/\me w e.sz (bP w e) l v B
theorem cr.len{α:Type}{R:α->List Value->List Nat->Prop}{sz:Nat}(o:∀x c B,R x c B->c.length=sz):
 ∀ {l:List α} {cs:List Value} {B:List Nat},cr R l cs B->cs.length=l.length*sz
 | [],_,_,h=>by simp[h.1]
 |x::l,cs,B,h=>by
  obtain⟨c1,c2,B1,B2,rfl,rfl,p,q⟩:=h;simp[o _ _ _ p,cr.len o q,sw,Nat.add_comm]
theorem bP.len{w:World}:∀ {τ:Ty} {x:τ.den} {cs:List Value} {B:List Nat},bP w τ x cs B->cs.length=τ.sz
 | .int _,_,_,_,h=>by rw[h.1];rfl
 | .bool,_,_,_,h=>by rw[h.1];rfl
 | .str,_,_,_,h=>by rw[h.1];rfl
 | .pair a b,p,cs,B,h=>by
   obtain⟨c1,c2,B1,B2,rfl,rfl,o,q⟩:=h;simp[bP.len o,bP.len q,Ty.sz]
 | .sl e,l,cs,B,h=>by obtain⟨v,rfl,_⟩:=h;rfl
theorem cr.mono{α:Type}{R R':α->List Value->List Nat->Prop}(P:Nat->Prop)(p:∀x c B,(∀b∈B,P b)->R x c B->R' x c B):
 ∀ {l:List α} {cs:List Value} {B:List Nat},(∀b∈B,P b)->cr R l cs B->cr R' l cs B
 | [],_,_,_,h=>h
 |x::l,cs,B,hP,h=>by
  obtain⟨q,u,v,y,rfl,rfl,z,D⟩:=h;exact⟨q,u,v,y,rfl,rfl,p _ _ _ (fun b o=>hP b (by simp[o])) z,cr.mono P p (fun b o=>hP b (by simp[o])) D⟩
theorem bP.mono{w w':World}:∀ {τ:Ty} {x:τ.den} {cs:List Value} {B:List Nat},(∀b∈B,w'.heap[b]?=w.heap[b]?)->bP w τ x cs B->bP w' τ x cs B
 | .int _,_,_,_,_,h=>h
 | .bool,_,_,_,_,h=>h
 | .str,_,_,_,_,h=>h
 | .pair a b,p,cs,B,hB,h=>by
   obtain⟨I,J,K,L,rfl,rfl,N,Q⟩:=h;exact⟨I,J,K,L,rfl,rfl,bP.mono (fun b o=>hB b (by simp[o])) N,bP.mono (fun b o=>hB b (by simp[o])) Q⟩
 | .sl e,l,cs,B,hB,h=>by
   obtain⟨v,rfl,h⟩:=h;refine⟨v,rfl,?_⟩;rcases h with h|⟨b,off,cap,c,el,R,S,W,q,o,y,rfl,X⟩;exact .inl h;refine .inr ⟨b,off,cap,c,el,R,S,W,q,(hB b (by simp)).trans o,y,rfl,?_⟩;exact cr.mono (fun b=>w'.heap[b]?=w.heap[b]?) (fun x c B z D=>bP.mono z D) (fun H u=>hB H (by simp[u])) X
theorem cr.bounds{α:Type}{R:α->List Value->List Nat->Prop}(P:Nat->Prop)(p:∀x c B,R x c B->∀b∈B,P b):
 ∀ {l:List α} {cs:List Value} {B:List Nat},cr R l cs B->∀b∈B,P b
 | [],_,_,h,b,o=>by rw[h.2]at o;cases o
 |x::l,cs,B,h,b,o=>by
  obtain⟨c1,c2,B1,B2,rfl,rfl,q,u⟩:=h;rcases h_.1 o with o|o;exact p _ _ _ q b o;exact cr.bounds P p u b o
def lt_of_block{w:World}{b:Nat}{o:Obj}(h:w.heap[b]?=some o):b<w.heap.size:=by
 rcases ahc b w.heap.size with c|c;exact c;simp[Array.getElem?_eq_none c]at h
theorem bP.bounds{w:World}:∀ {τ:Ty} {x:τ.den} {cs:List Value} {B:List Nat},bP w τ x cs B->∀b∈B,b<w.heap.size
 | .int _,_,_,_,h,b,o=>by rw[h.2]at o;cases o
 | .bool,_,_,_,h,b,o=>by rw[h.2]at o;cases o
 | .str,_,_,_,h,b,o=>by rw[h.2]at o;cases o
 | .pair a b,p,cs,B,h,b',o=>by
   obtain⟨c1,c2,B1,B2,rfl,rfl,y,z⟩:=h;rcases h_.1 o with o|o;exact bP.bounds y b' o;exact bP.bounds z b' o
 | .sl e,l,cs,B,h,b',o=>by
   obtain⟨v,rfl,h⟩:=h;rcases h with h|⟨b,off,cap,c,el,fz,Bs,hv,hcap,q,hsz,rfl,D⟩;rw[h.2.2]at o;cases o;rcases B_.1 o with rfl|o;exact lt_of_block q;exact cr.bounds _ (fun x c B u=>bP.bounds u) D b' o
theorem bP.zero(w:World):∀τ:Ty,bP w τ τ.aa τ.zero []
 | .int _=>⟨rfl,rfl⟩
 | .bool=>⟨rfl,rfl⟩
 | .str=>⟨rfl,rfl⟩
 | .sl _=>⟨_,rfl,.inl ⟨⟨none,rfl⟩,rfl,rfl⟩⟩
 | .pair a b=>⟨_,_,[],[],rfl,rfl,bP.zero w a,bP.zero w b⟩
theorem cr.append{α:Type}{R:α->List Value->List Nat->Prop}:∀ {q o:List α} {c1 h:List Value} {p B2:List Nat},
 cr R q c1 p->cr R o h B2->cr R (q++o) (c1++h) (p++B2)
 | [],_,_,_,_,_,h1,h2=>by rw[h1.1,h1.2];exact h2
 |x::l,o,c1,h,p,B2,h1,h2=>by
  obtain⟨a,b,A,B,rfl,rfl,u,v⟩:=h1;exact⟨a,b++h,A,B++B2,by simp,by simp,u,cr.append v h2⟩
theorem cr.split{α:Type}{R:α->List Value->List Nat->Prop}{sz:Nat}(u:∀x c B,R x c B->c.length=sz):
 ∀ {p q:List α} {cs:List Value} {B:List Nat},cr R (p++q) cs B->
   ∃o B2,B=o++B2/\cr R p (cs.take (p.length*sz)) o/\cr R q (cs.drop (p.length*sz)) B2
 | [],q,cs,B,h=>⟨[],B,rfl,⟨by simp,rfl⟩,by simpa using h⟩
 |x::l,q,cs,B,h=>by
  obtain⟨v,c2,y,A2,rfl,rfl,z,D⟩:=h;obtain⟨o,B2,rfl,H,I⟩:=cr.split u D;have hc:=u _ _ _ z;refine⟨y++o,B2,by simp,⟨v,_,y,o,?_,rfl,z,H⟩,?_⟩;rw[ahy,aeR (by simp[sw];omega)];congr 2;simp[sw];omega;have e:(x::l).length*sz=v.length+l.length*sz:=by simp[sw];omega
  rw[e,ag1,ae5 (by omega)];simpa using I
theorem cr.one{α:Type}{R:α->List Value->List Nat->Prop}{x:α}{cs:List Value}{B:List Nat}(h:R x cs B):cr R [x] cs B:=
 ⟨cs,[],B,[],by simp,by simp,h,rfl,rfl⟩
theorem cr.get{α:Type}{R:α->List Value->List Nat->Prop}{sz:Nat}(z:∀x c B,R x c B->c.length=sz)
 {l:List α} {cs:List Value} {B:List Nat} (h:cr R l cs B) {i:Nat} {x:α} (I:l[i]?=some x):
 ∃q y B2,B=q++y++B2/\R x ((cs.drop (i*sz)).take sz) y/\
  cr R (l.take i) (cs.take (i*sz)) q/\cr R (l.drop (i+1)) (cs.drop ((i+1)*sz)) B2:=by
 obtain⟨K,u⟩:=ahx.1 I;have e:l=l.take i++(x::l.drop (i+1)):=by rw[<-u,<-List.drop_eq_getElem_cons K,ahb]
 rw[e]at h;obtain⟨q,B2,rfl,D,H⟩:=cr.split z h;have J:(l.take i).length=i:=by simp;omega
 rw[J]at D H;obtain⟨c1,L,N,Q,hc,rfl,p,v⟩:=H;have o:=z _ _ _ p;refine⟨q,N,Q,by simp,?_,D,?_⟩;rw[hc,ahy,aeR (by omega)];simpa[o]using p
 have:cs.drop ((i+1)*sz)=L:=by
  rw[sw,agZ,<-ags,hc,<-o,List.drop_left]
 rw[this];exact v
theorem cr.set{α:Type}{R:α->List Value->List Nat->Prop}{sz:Nat}
 {l:List α} {i:Nat} {y:α} {cs h:List Value} {o p B2:List Nat} (hi:i<l.length) (q:R y h p)
 (u:cr R (l.take i) (cs.take (i*sz)) o) (v:cr R (l.drop (i+1)) (cs.drop ((i+1)*sz)) B2):
 cr R (l.set i y) (cs.take (i*sz)++h++cs.drop ((i+1)*sz)) (o++p++B2):=by
 have e:l.set i y=l.take i++([y]++l.drop (i+1)):=by
  rw[List.set_eq_take_append_cons_drop,an hi];rfl
 rw[e,agU,agU];exact cr.append u (cr.append (cr.one q) v)
theorem cr.replicate{α:Type}{R:α->List Value->List Nat->Prop}{x:α}{cs:List Value}(h:R x cs []):
 ∀n:Nat,cr R (agv n x) (agv n cs).flatten []
 |0=>⟨rfl,rfl⟩
 |n+1=>by
  rw[ahm,ahm,aki];exact⟨cs,_,[],[],rfl,rfl,h,cr.replicate h n⟩
theorem bP.one{w:World}:∀ {τ:Ty} {x:τ.den} {cs:List Value} {B:List Nat},bP w τ x cs B->∀v∈cs,v.oneCell'=true
 | .int _,_,_,_,h,v,o=>by rw[h.1]at o;simp at o;subst o;rfl
 | .bool,_,_,_,h,v,o=>by rw[h.1]at o;simp at o;subst o;rfl
 | .str,_,_,_,h,v,o=>by rw[h.1]at o;simp at o;subst o;rfl
 | .pair a b,p,cs,B,h,v,o=>by
   obtain⟨c1,c2,B1,B2,rfl,rfl,q,y⟩:=h;rcases h_.1 o with o|o;exact bP.one q v o;exact bP.one y v o
 | .sl e,l,cs,B,h,v,o=>by
   obtain⟨u,rfl,h⟩:=h;simp at o;subst o;rcases h with h|⟨b,off,cap,c,el,fz,Bs,rfl,_⟩;obtain⟨ao,e⟩:=h.1;rw[e];rfl;rfl
inductive M where
 |row (t:Nat) (hs:List Nat) (nd:Bool)
 |sha (hs:List Nat)
 |nst (b:Nat) (e:Ty) (i:Int) (o:Nat) (p:List Bool) (fr:Bool)
 |dead
 deriving DecidableEq,Inhabited
inductive Sh where
 |leaf
 |sl (m:M)
 |pair (a b:Sh)
 deriving DecidableEq,Inhabited
structure TV where
 τ:Ty
 x:τ.den
 sh:Sh
inductive SV where
 |no
 |d (v:TV)
 |box (t:Nat) (v:TV)
 |ptr (t:Nat) (o:Nat) (path:List Bool) (τ:Ty)
 |ept (t:Nat) (e:Ty) (i:Int) (o:Nat) (path:List Bool) (τ:Ty)
 |rdp (hs:List Nat) (v:TV)
 |tup (l:List TV)
 |g (j:Nat) (want:Bool) (act:Bool) (v:SV)
structure Env where
 s:List SV
 nt:Nat
 kp:Bool:=false
def du:List Ty->Type
 | []=>Unit
 |τ::l=>τ.den×du l
def du.aa:(l:List Ty)->du l
 | []=>()
 |τ::l=>(τ.aa,du.aa l)
structure TI where
 τ:Ty
 fs:List TypeId
 el:TypeId
def jd:Nat->Nat->List Bool
 |0,_=>[]
 |1,_=>[]
 |_+2,0=>[false]
 |n+2,j+1=>true::jd (n+1) j
def Ty.sub:Ty->List Bool->Option Ty
 |τ,[]=>some τ
 | .pair a _,false::p=>a.sub p
 | .pair _ b,true::p=>b.sub p
 |_,_::_=>none
def Ty.off:Ty->List Bool->Nat
 |_,[]=>0
 | .pair a _,false::p=>a.off p
 | .pair a b,true::p=>a.sz+b.off p
 |_,_::_=>0
def pY:(τ:Ty)->τ.den->Sh->List Bool->Option TV
 |τ,x,sh,[]=>some ⟨τ,x,sh⟩
 | .pair a _,x,.pair s1 _,false::p=>pY a x.1 s1 p
 | .pair _ b,x,.pair _ s2,true::p=>pY b x.2 s2 p
 |_,_,_,_::_=>none
def rE(v:TV)(τ:Ty):Option τ.den:=if h:v.τ=τ then some (cast (congrArg Ty.den h) v.x)else none
def qJ:(τ:Ty)->τ.den->Sh->List Bool->TV->Option (τ.den×Sh)
 |τ,_,_,[],v=>match rE v τ with|some y=>some (y,v.sh)|none=>none
 | .pair a _,x,.pair s1 s2,false::p,v=>match qJ a x.1 s1 p v with|some (y,s)=>some ((y,x.2),.pair s s2)|none=>none
 | .pair _ b,x,.pair s1 s2,true::p,v=>match qJ b x.2 s2 p v with|some (y,s)=>some ((x.1,y),.pair s1 s)|none=>none
 |_,_,_,_::_,_=>none
def sR:Ty->M->Sh
 | .pair a b,m=> .pair (sR a m) (sR b m)
 | .sl _,m=> .sl m
 |_,_=> .leaf
def Ty.flat:Ty->Bool
 | .pair a b=>a.flat&&b.flat
 | .sl _=>false
 |_=>true
def decode:(τ:Ty)->List Value->Option (τ.den×List Value)
 | .int k,.int k' n::r=>if k'=k then some (n,r)else none
 | .bool,.bool b::r=>some (b,r)
 | .str,.string s::r=>some (s,r)
 | .sl _,.slice none 0 0::r=>some ([],r)
 | .pair a b,cs=>match decode a cs with
   |some (x,r)=>(match decode b r with|some (y,r')=>some ((x,y),r')|none=>none)
   |none=>none
 |_,_=>none
def U6(τ:Ty)(v:Value):Option TV:=
 match τ,v with
 | .pair a b,.agg cs=>(match decode (.pair a b) cs.toList with|some (x,[])=>some ⟨.pair a b,x,sR (.pair a b) (.sha [])⟩|_=>none)
 | .pair _ _,_=>none
 |τ,v=>(match decode τ [v]with|some (x,[])=>some ⟨τ,x,sR τ (.sha [])⟩|_=>none)
inductive Pt where
 |leaf|own|shr|hd|pv|rom
 |pair (a b:Pt)
 deriving DecidableEq,Inhabited
def PQ:Ty->Pt
 | .sl _=> .shr
 | .pair a b=> .pair (PQ a) (PQ b)
 |_=> .leaf
def Pt.NF:Pt->Bool
 | .shr| .hd=>true
 | .pair a b=>a.NF||b.NF
 |_=>false
inductive PK where
 |val (τ:Ty) (p:Pt)
 |io (τ:Ty) (p:Pt)
 |rd (τ:Ty)
 |vx (e:Ty) (l:List Nat)
inductive RK where
 |val (τ:Ty) (p:Pt)
 |nbox (τ:Ty) (p:Pt)
def PK.ty:PK->Ty
 | .val τ _| .io τ _| .rd τ=>τ
 | .vx e _=> .sl e
def RK.ty:RK->Ty
 | .val τ _| .nbox τ _=>τ
def eM:List PK->List Ty
 | []=>[]
 | .val _ _::l=>eM l
 | .io τ _::l=>τ::eM l
 | .rd _::l| .vx _ _::l=>eM l
structure BJ where
 ps:List PK
 rs:List RK
 F:du (ps.map PK.ty)->Option (du (rs.map RK.ty++eM ps))
 kp:List (Nat×List Bool)
inductive AK where
 |val (τ:Ty) (sh:Sh)
 |box (t:Nat) (τ:Ty) (sh:Sh)
 |ptr (t:Nat) (o:Nat) (path:List Bool) (τ:Ty)
 |ept (t:Nat) (e:Ty) (o:Nat) (path:List Bool) (τ:Ty)
 |rdp (hs:List Nat) (τ:Ty) (sh:Sh)
def AK.YU:AK->List Ty
 | .val τ _=>[τ]
 | .box _ τ _=>[τ]
 | .ptr _ _ _ _=>[]
 | .ept _ _ _ _ _=>[.int .i64]
 | .rdp _ τ _=>[τ]
structure KO where
 ks:List (Nat×AK)
 nt:Nat
structure Cx where
 tt:TypeId->Option TI
 ct:FuncId->Option BJ
 la:Nat->Option KO
 ja:Nat->Option KO
 k:Nat
 n:Nat
 io:List Nat
/-tokens-/
def M.bc:M->List Nat
 | .row t hs _=>t::hs
 | .sha hs=>hs
 | .nst b _ _ _ _ _=>[b]
 | .dead=>[]
def Sh.bc:Sh->List Nat
 | .leaf=>[]
 | .sl m=>m.bc
 | .pair a b=>a.bc++b.bc
def Sh.live:Sh->Bool
 | .leaf=>true
 | .sl .dead=>false
 | .sl _=>true
 | .pair a b=>a.live&&b.live
def Sh.map(f:M->M):Sh->Sh
 | .leaf=> .leaf
 | .sl m=> .sl (f m)
 | .pair a b=> .pair (a.map f) (b.map f)
def M.own:M->Option (List Nat)
 | .row t hs nd=>if nd&&hs.all (4<=·)then some (t::hs.filter (·≠t))else none
 | .sha []=>some []
 |_=>none
def M.Uw:M->Option (List Nat)
 | .row t hs _=>if hs.all (4<=·)then some (t::hs.filter (·≠t))else none
 | .sha []=>some []
 |_=>none
def Sh.own:Sh->Option (List Nat)
 | .leaf=>some []
 | .sl m=>m.own
 | .pair a b=>match a.own,b.own with
   |some x,some y=>if x.all (!y.contains ·)then some (x++y)else none
   |_,_=>none
def meets(a b:List Nat):Bool:=a.any b.contains
def M.kill(ts:List Nat)(m:M):M:=if meets m.bc ts then .dead else m
def SV.mapM(f:M->M)(fe:Nat->Bool)(fr:List Nat->Option (List Nat)):SV->SV
 | .d v=> .d {v with sh:=v.sh.map f}
 | .box t v=> .box t {v with sh:=v.sh.map f}
 | .ept t e i o p τ=>if fe t then .ept t e i o p τ else .no
 | .rdp hs v=>(match fr hs with|some hs'=> .rdp hs' {v with sh:=v.sh.map f}|none=> .no)
 | .tup l=> .tup (l.map fun v=>{v with sh:=v.sh.map f})
 | .g j w a v=> .g j w a (v.mapM f fe fr)
 |v=>v
def SV.kill(ts:List Nat)(v:SV):SV:=v.mapM (M.kill ts) (!ts.contains ·) (fun hs=>if meets hs ts then none else some hs)
def Env.kill(E:Env)(ts:List Nat):Env:=if ts.isEmpty then E else {E with s:=E.s.map (SV.kill ts)}
def SV.ib(ts:List Nat)(h:List (Nat×Nat)):SV->SV
 | .ept b e i o p τ=>match h.lookup b with|some q=> .ept q e i o p τ|none=>if ts.isEmpty then .ept b e i o p τ else SV.kill ts (.ept b e i o p τ)
 |v=>if ts.isEmpty then v else SV.kill ts v
def Env.ib(E:Env)(ts:List Nat)(h:List (Nat×Nat)):Env:=if h.isEmpty then E.kill ts else {E with s:=E.s.map (SV.ib ts h)}
def O9(ts:List Nat)(t:Nat)(hs:List Nat):List Nat:=(hs.map fun h=>if ts.contains h then t else h).eraseDups
def M.PV(ts:List Nat)(t:Nat):M->M
 | .row u hs nd=>if ts.contains u then .sha (O9 ts t (u::hs))else .row u (O9 ts t hs) nd
 | .sha hs=> .sha (O9 ts t hs)
 | .nst b _ _ _ _ _=> .sha (O9 ts t [b])
 | .dead=> .dead
def M.cu(ts:List Nat)(t:Nat)(m:M):M:=if meets m.bc ts then m.PV ts t else m
def SV.cu(ts:List Nat)(t:Nat)(v:SV):SV:=v.mapM (M.cu ts t) (!ts.contains ·) (fun hs=>some (if meets hs ts then O9 ts t hs else hs))
def Env.cu(E:Env)(ts:List Nat)(t:Nat):Env:=if ts.isEmpty then E else {E with s:=E.s.map (SV.cu ts t)}
def Env.get(E:Env)(s:Nat):SV:=E.s.getD s .no
def Env.set(E:Env)(dst:Option Nat)(v:SV):Env:=match dst with|some d=>{E with s:=E.s.set d v}|none=>E
def mX:List SV->Nat->Nat->Option (Nat×TV)
 | [],_,_=>none
 | .box t v::l,u,i=>if t=u then some (i,v)else mX l u (i+1)
 |_::l,u,i=>mX l u (i+1)
def xc(t:Nat)(e:Ty):(τ:Ty)->τ.den->Sh->Option (List e.den×List Nat×Bool)
 | .sl e',l,.sl (.row u hs nd)=>if u=t then(if h:e'=e then some (cast (congrArg (fun τ=>List (Ty.den τ)) h) l,hs,nd)else none)else none
 | .pair a b,x,.pair s1 s2=>match xc t e a x.1 s1 with|some r=>some r|none=>xc t e b x.2 s2
 |_,_,_=>none
def od(t:Nat)(e:Ty):List SV->Option (List e.den×List Nat×Bool)
 | []=>none
 | .d v::l| .box _ v::l=>match xc t e v.τ v.x v.sh with|some r=>some r|none=>od t e l
 |_::l=>od t e l
def xr(t:Nat)(e:Ty)(y:List e.den)(m:M):(τ:Ty)->τ.den->Sh->τ.den×Sh
 | .sl e',l,.sl (.row u hs nd)=>if u=t then(if h:e'=e then(cast (congrArg (fun τ=>List (Ty.den τ)) h.symm) y,.sl m)else(l,.sl .dead))else(l,.sl (.row u hs nd))
 | .pair a b,x,.pair s1 s2=>((xr t e y m a x.1 s1).1,xr t e y m b x.2 s2 |>.1) |> fun z=>(z,.pair (xr t e y m a x.1 s1).2 (xr t e y m b x.2 s2).2)
 |_,x,sh=>(x,sh)
def TV.setRow(t:Nat)(e:Ty)(y:List e.den)(m:M)(v:TV):TV:=⟨v.τ,(xr t e y m v.τ v.x v.sh).1,(xr t e y m v.τ v.x v.sh).2⟩
def SV.setRow(t:Nat)(e:Ty)(y:List e.den)(m:M):SV->SV
 | .d v=> .d (v.setRow t e y m)
 | .box b v=> .box b (v.setRow t e y m)
 | .tup l=> .tup (l.map (TV.setRow t e y m))
 | .g j w a v=> .g j w a (v.setRow t e y m)
 | .rdp hs v=>if(hs++v.sh.bc).contains t then .no else .rdp hs v
 |v=>v
def M.fD(t:Nat):M->M
 | .row u hs nd=>if u=t then .row u hs nd else if hs.contains t then .dead else .row u hs nd
 | .sha hs=>if hs.contains t then .dead else .sha hs
 | .nst b e i o p fr=>if b=t then .dead else .nst b e i o p fr
 | .dead=> .dead
def SV.fD(t:Nat)(v:SV):SV:=v.mapM (M.fD t) (fun _=>true) (fun hs=>if hs.contains t then none else some hs)
structure Rd where
 get:Nat->SV
 box:Nat->Option (Nat×TV)
 row:Nat->(e:Ty)->Option (List e.den×List Nat×Bool)
def fJ:SV->SV
 | .box t v=> .ptr t 0 [] v.τ
 | .g j w a v=> .g j w a (fJ v)
 |v=>v
def Env.rd(E:Env):Rd:=⟨fun s=>fJ (E.get s),fun t=>mX E.s t 0,fun t e=>od t e E.s⟩
/-operands-/
def sO(C:Cx)(R:Rd)(t:TypeId):Operand->Option SV
 | .tmp s=>some (R.get s)
 | .const v=>match C.tt t with|some i=>(U6 i.τ v).map .d|none=>none
 |_=>none
def RD(G:Option (Nat×Bool)):SV->Option SV
 | .g j w _ v=>if G=some (j,w)then some v else none
 |v=>some v
def arg(C:Cx)(R:Rd)(G:Option (Nat×Bool))(t:TypeId)(x:Operand):Option SV:=(sO C R t x).bind (RD G)
def lr(C:Cx)(R:Rd)(G:Option (Nat×Bool))(t:TypeId)(x:Operand):Option TV:=
 match arg C R G t x with|some (.d v)=>if v.sh.live then some v else none|_=>none
inductive Ef:Type 1 where
 |val (v:SV)
 |chk (c:Bool) (v:SV)
 |opt (α:Type) (z:α) (o:Option α) (f:α->SV)
 |put (b:Nat) (s:Nat) (v:TV)
 |app (c:Bool) (kl gv:List Nat) (t:Nat) (v:SV)
 |elem (gv:List Nat) (b:Nat) (e:Ty) (l:List e.den) (m:M)
 |nap (c:Bool) (gv:List Nat) (b:Nat) (e:Ty) (l:List e.den) (m:M) (v:SV)
 |call (α:Type) (o:Option α) (tks:List Nat) (f:α->SV×List (Nat×Nat×TV)) (rp:α->List (Nat×Nat))
def vI(k:IntKind)(n:Int):SV:= .d ⟨.int k,n,.leaf⟩
def vB(b:Bool):SV:= .d ⟨.bool,b,.leaf⟩
def vS(s:ByteArray):SV:= .d ⟨.str,s,.leaf⟩
def bt(s:ByteArray)(i:Int):Int:=((s.data.toList.getD i.toNat 0).toNat:Int)
def eqv:(τ:Ty)->τ.den->τ.den->Bool
 | .int _,a,b=>a==b
 | .bool,a,b=>a==b
 | .str,a,b=>a.toList==b.toList
 | .pair a b,x,y=>eqv a x.1 y.1&&eqv b x.2 y.2
 | .sl _,_,_=>false
def bits(f:∀n,BitVec n->BitVec n->BitVec n)(k:IntKind)(a b:Int):Int:=k.wrap (f k.bits (BitVec.ofInt k.bits a) (BitVec.ofInt k.bits b)).toNat
def aiY(op:BinOp)(k:IntKind)(a b:Int):Option Ef:=
 match op with
 | .add=>some (.val (vI k (k.wrap (a+b))))
 | .sub=>some (.val (vI k (k.wrap (a-b))))
 | .mul=>some (.val (vI k (k.wrap (a*b))))
 | .quo=>some (.chk (decide (b≠0)) (vI k (k.wrap (a.tdiv b))))
 | .rem=>some (.chk (decide (b≠0)) (vI k (a.tmod b)))
 | .and=>some (.val (vI k (bits (fun _=>(· &&& ·)) k a b)))
 | .or=>some (.val (vI k (bits (fun _=>(· ||| ·)) k a b)))
 | .xor=>some (.val (vI k (bits (fun _=>(·^^^·)) k a b)))
 | .shr=>some (.chk (decide (0<=b)) (vI k (a.fdiv (2^(min b.toNat k.bits)))))
 | .shl=>some (.chk (decide (0<=b)) (vI k (k.wrap (a*2^(min b.toNat k.bits)))))
 | .eql=>some (.val (vB (a==b)))
 | .neq=>some (.val (vB (a != b)))
 | .lss=>some (.val (vB (decide (a<b))))
 | .leq=>some (.val (vB (decide (a<=b))))
 | .gtr=>some (.val (vB (decide (a>b))))
 | .geq=>some (.val (vB (decide (a>=b))))
 |_=>none
def ahY(op:BinOp)(a b:ByteArray):Option Ef:=
 match op with
 | .add=>some (.chk (decide (a.size+b.size<4294967296)) (vS (a++b)))
 | .eql=>some (.val (vB (a.toList==b.toList)))
 | .neq=>some (.val (vB (!(a.toList==b.toList))))
 | .lss=>some (.val (vB (Op.bytesLess a.toList b.toList)))
 | .leq=>some (.val (vB (Op.bytesLess a.toList b.toList||a.toList==b.toList)))
 | .gtr=>some (.val (vB (!(Op.bytesLess a.toList b.toList||a.toList==b.toList))))
 | .geq=>some (.val (vB (!Op.bytesLess a.toList b.toList)))
 |_=>none
def ajl(op:BinOp)(x y:TV):Option Ef:=
 match x,y with
 |⟨.int k,a,_⟩,⟨.int k',b,_⟩=>if k=k'||op= .shl||op= .shr then aiY op k a b else none
 |⟨.str,a,_⟩,⟨.str,b,_⟩=>ahY op a b
 |⟨.bool,a,_⟩,⟨.bool,b,_⟩=>(match op with| .eql=>some (.val (vB (a==b)))| .neq=>some (.val (vB (!(a==b))))|_=>none)
 |⟨.pair a b,x,_⟩,⟨τ,y,s⟩=>match rE ⟨τ,y,s⟩ (.pair a b)with
  |some y=>if(Ty.pair a b).flat then(match op with| .eql=>some (.val (vB (eqv (.pair a b) x y)))| .neq=>some (.val (vB (!eqv (.pair a b) x y)))|_=>none)else none
  |none=>none
 |_,_=>none
def M0:M->List Nat
 | .row _ hs _=>hs
 | .sha hs=>hs
 | .nst b _ _ _ _ _=>[b]
 | .dead=>[]
def Mq(C:Cx)(R:Rd)(G:Option (Nat×Bool))(i:TI):List (Nat×Operand)->i.τ.den->Sh->Option (i.τ.den×Sh)
 | [],x,sh=>some (x,sh)
 |(j,o)::l,x,sh=>match i.fs[j]? with
  |none=>none
  |some b=>match lr C R G b o with
   |none=>none
   |some v=>match qJ i.τ x sh (jd i.fs.length j) v with
    |some (y,s)=>Mq C R G i l y s
    |none=>none
def Ph(C:Cx)(R:Rd)(G:Option (Nat×Bool))(el:TypeId)(e:Ty):Nat->List (Nat×Operand)->Option (List e.den×List Sh)
 |_,[]=>some ([],[])
 |n,(j,o)::l=>if j=n then(match lr C R G el o with
  |none=>none
  |some v=>match rE v e,Ph C R G el e (n+1) l with
   |some x,some (xs,ss)=>some (x::xs,v.sh::ss)
   |_,_=>none)else none
def QD:List Sh->Option (List Nat)
 | []=>some []
 |s::l=>match s.own,QD l with
  |some x,some y=>if x.all (!y.contains ·)then some (x++y)else none
  |_,_=>none
def akv(tk:Nat)(b:List Sh):M:=
 match QD b with
 |some ts=> .row tk ts true
 |none=> .row tk (b.flatMap Sh.bc).eraseDups false
def M.same(t:Nat):M->Bool
 | .row u _ _=>u=t
 |_=>false
def ail(tk:Nat)(flat:Bool)(s y:M):Option (List Nat×List Nat×M):=
 match s with
 | .row t hs nd=>
   if flat then some ([t],[t],.row tk [] true)else
   if y.same t then some ([t],[t],.row tk (O9 [t] tk (hs++M0 y)) false)else
   if y.bc.contains t then none else
   (match(M.row t hs nd).own,y.own with
   |some a,some b=>if b.all (!a.contains ·)then some ([t],a++b,.row tk [tk] true)else none
   |_,_=>some ([t],[t],.row tk (O9 [t] tk (hs++M0 y)) false))
 | .sha []=>
   if flat then some ([],[],.row tk [] true)else
   (match y.own with
   |some b=>some ([],b,.row tk [tk] true)
   |none=>some ([],[],.row tk (M0 y) false))
 |_=>none
def JM(C:Cx)(R:Rd)(tk:Nat)(G:Option (Nat×Bool))(b:Builtin)(args:List Operand)(ts:List TypeId):Option Ef:=
 match b,args,ts with
 | .len,[x],[t]=>(match C.tt t with
   |none=>none
   |some ti=>match lr C R G t x with
    |some ⟨.sl e,l,_⟩=>if ti.τ= .sl e then some (.val (vI .i64 (l.length:Int)))else none
    |some ⟨.str,s,_⟩=>if ti.τ= .str then some (.val (vI .i64 (s.size:Int)))else none
    |_=>none)
 | .min,[x,y],[t,u]=>(match lr C R G t x,lr C R G u y with
   |some ⟨.int k,a,_⟩,some ⟨.int k',b,_⟩=>if k=k' then some (.val (vI k (if b<a then b else a)))else none
   |_,_=>none)
 | .max,[x,y],[t,u]=>(match lr C R G t x,lr C R G u y with
   |some ⟨.int k,a,_⟩,some ⟨.int k',b,_⟩=>if k=k' then some (.val (vI k (if b>a then b else a)))else none
   |_,_=>none)
 | .append,[x,y],[t,u]=>(match C.tt t,lr C R G t x,lr C R G u y with
   |some ti,some ⟨.sl e,l,.sl m⟩,some ⟨.sl e',l',.sl m'⟩=>
    (match rE ⟨.sl e',l',.leaf⟩ (.sl e)with
    |some c=>(match ail tk e.flat m m' with
     |some (kl,gv,mm)=>if ti.τ= .sl e&&u=t then some (.app (decide (l.length+c.length<4294967296)) kl gv tk (.d ⟨.sl e,l++c,.sl mm⟩))else none
     |none=>none)
    |none=>none)
   |_,_,_=>none)
 |_,_,_=>none
/-calls-/
def zq:Pt->Sh->Bool
 | .leaf,.leaf=>true
 | .own,.sl m=>m.own.isSome
 | .shr,.sl m=>m≠ .dead
 | .pv,.sl m=>m.Uw.isSome
 | .rom,.sl m=>m≠ .dead&&m.bc.all (·=3)
 | .hd,.sl (.row _ _ _)=>true
 | .hd,.sl (.sha [])=>true
 | .pair a b,.pair x y=>zq a x&&zq b y
 |_,_=>false
def cI:Pt->Nat->List Nat->Sh×Nat
 | .leaf,tk,_=>(.leaf,tk)
 | .own,tk,_=>(.sl (.row tk [tk] true),tk+1)
 | .shr,tk,hs=>(.sl (.sha hs),tk)
 | .hd,tk,hs=>(.sl (.row tk (tk::hs) false),tk+1)
 | .pv,tk,_=>(.sl (.row tk [tk] false),tk+1)
 | .rom,tk,_=>(.sl (.sha [3]),tk)
 | .pair a b,tk,hs=>let x:=cI a tk hs;let y:=cI b x.2 hs;(.pair x.1 y.1,y.2)
def py(sm:Nat->Nat):Pt->Sh->Nat->List (Nat×Nat)
 | .own,.sl m,tk=>(m.own.getD []).map fun c=>(c,tk)
 | .shr,.sl m,_=>m.bc.map fun c=>(c,sm c)
 | .pv,.sl m,tk=>(m.Uw.getD []).map fun c=>(c,tk)
 | .rom,.sl m,_=>(m.bc.filter (·=3)).map fun c=>(c,3)
 | .hd,.sl (.row t hs _),tk=>(t,tk)::(hs.filter (·≠t)).map fun c=>(c,sm c)
 | .pair a b,.pair x y,tk=>py sm a x tk++py sm b y (cI a tk []).2
 |_,_,_=>[]
def V8(r:List (Nat×Nat)):Bool:=r.all fun p=>r.lookup p.1==some p.2
def KB(R:Rd):SV->Option (Nat×Nat×TV)
 | .ptr t 0 [] _=>(R.box t).map fun r=>(t,r.1,r.2)
 |_=>none
def vxC(r0:List (Nat×Nat))(l:List Nat)(c:Nat):Nat:=match r0.lookup c with|some k=>if l.contains k then k else 1|none=>1
def fl(R:Rd):(ps:List PK)->List SV->Nat->List (Nat×Nat)->Option (du (ps.map PK.ty)×List (Nat×Nat)×List (Nat×Nat))
 | [],[],_,_=>some ((),[],[])
 | .val τ p::ps,.d v::as,tk,r0=>match rE v τ,fl R ps as (cI p tk []).2 (r0++py (fun _=>1) p v.sh tk)with
   |some x,some (xs,rho,bs)=>if zq p v.sh then some ((x,xs),py (fun _=>1) p v.sh tk++rho,bs)else none
   |_,_=>none
 | .io τ p::ps,a::as,tk,r0=>match KB R a with
   |some (t,s,v)=>(match rE v τ,fl R ps as (cI p (tk+1) []).2 (r0++(t,tk)::py (fun _=>1) p v.sh (tk+1))with
    |some x,some (xs,rho,bs)=>if zq p v.sh then some ((x,xs),(t,tk)::py (fun _=>1) p v.sh (tk+1)++rho,(t,s)::bs)else none
    |_,_=>none)
   |none=>none
 | .rd τ::ps,a::as,tk,r0=>match KB R a with
   |some (t,_,v)=>(match rE v τ,fl R ps as tk r0 with
    |some x,some (xs,rho,bs)=>if zq (PQ τ) v.sh then some ((x,xs),(t,1)::py (fun _=>1) (PQ τ) v.sh tk++rho,bs)else none
    |_,_=>none)
   |none=>none
 | .vx e l::ps,.d v::as,tk,r0=>match rE v (.sl e),fl R ps as tk r0 with
   |some x,some (xs,rho,bs)=>if zq .shr v.sh then some ((x,xs),py (vxC r0 l) .shr v.sh tk++rho,bs)else none
   |_,_=>none
 |_,_,_,_=>none
def dE:(rs:List RK)->(rest:List Ty)->du (rs.map RK.ty++rest)->Nat->List Nat->List SV×du rest×Nat
 | [],_,r,tk,_=>([],r,tk)
 | .val τ p::rs,rest,r,tk,hs=>let s:=cI p tk hs;let z:=dE rs rest r.2 s.2 hs;(.d ⟨τ,r.1,s.1⟩::z.1,z.2)
 | .nbox τ p::rs,rest,r,tk,hs=>let s:=cI p (tk+1) hs;let z:=dE rs rest r.2 s.2 hs;(.box tk ⟨τ,r.1,s.1⟩::z.1,z.2)
def lA(hs:List Nat):(ps:List PK)->du (eM ps)->List (Nat×Nat)->Nat->List (Nat×Nat×TV)
 | [],_,_,_=>[]
 | .val _ _::ps,r,bs,tk=>lA hs ps r bs tk
 | .io τ p::ps,r,(t,s)::bs,tk=>let z:=cI p tk hs;(t,s,⟨τ,r.1,z.1⟩)::lA hs ps r.2 bs z.2
 | .io _ _::_,_,[],_=>[]
 | .rd _::ps,r,bs,tk| .vx _ _::ps,r,bs,tk=>lA hs ps r bs tk
def nu:List RK->Nat->Nat
 | [],tk=>tk
 | .val _ p::rs,tk=>nu rs (cI p tk []).2
 | .nbox _ p::rs,tk=>nu rs (cI p (tk+1) []).2
def LQ:List PK->Nat->Nat
 | [],tk=>tk
 | .val _ _::ps,tk=>LQ ps tk
 | .io _ p::ps,tk=>LQ ps (cI p tk []).2
 | .rd _::ps,tk| .vx _ _::ps,tk=>LQ ps tk
def bZ(p:Pt)(tk:Nat):Nat:=(cI p tk []).2
/-the tokens with which a function begins-/
def fV:List PK->Nat->Nat
 | [],tk=>tk
 | .val _ p::ps,tk=>fV ps (bZ p tk)
 | .io _ p::ps,tk=>fV ps (bZ p (tk+1))
 | .rd _::ps,tk| .vx _ _::ps,tk=>fV ps tk
def jM:List PK->Nat->List Nat
 | [],_=>[]
 | .val _ p::ps,tk=>jM ps (bZ p tk)
 | .io _ p::ps,tk=>tk::jM ps (bZ p (tk+1))
 | .rd _::ps,tk| .vx _ _::ps,tk=>jM ps tk
def vxs:List PK->List Nat
 | []=>[]
 | .vx _ l::ps=>l++vxs ps
 | .val _ _::ps| .io _ _::ps| .rd _::ps=>vxs ps
def Yg:List PK->Bool
 | []=>false
 | .rd _::_=>true
 | .val _ _::ps| .io _ _::ps| .vx _ _::ps=>Yg ps
def RK.pt:RK->Pt
 | .val _ p| .nbox _ p=>p
def Ux:List PK->Bool
 | []=>false
 | .io _ p::ps=>p.NF||Ux ps
 | .val _ _::ps| .rd _::ps| .vx _ _::ps=>Ux ps
def abC(ps:List PK)(rs:List RK):Bool:=
 (vxs ps).all (fun c=>4<=c&&c<fV ps 4&& !(jM ps 4).contains c)&&(!Yg ps|| !(rs.any (fun r=>r.pt.NF)||Ux ps))
def DG:Sh->List Bool->Option Nat
 | .sl (.row t _ _),[]=>some t
 | .pair a _,false::p=>DG a p
 | .pair _ b,true::p=>DG b p
 |_,_=>none
def R9(R:Rd)(bs:List (Nat×Nat))(Io2:List (Nat×Nat×TV))(c:List (Nat×List Bool)):List (Nat×Nat):=
 c.filterMap fun q=>match bs[q.1]?,Io2[q.1]? with
  |some b,some z=>(match R.box b.1 with
   |some r=>(match DG r.2.sh q.2,DG z.2.2.sh q.2 with
    |some u,some u'=>some (u,u')
    |_,_=>none)
   |none=>none)
  |_,_=>none
def LN:List SV->Option (List TV)
 | []=>some []
 | .d v::l=>(LN l).map (v::·)
 |_=>none
def GM:List SV->SV
 | [v]=>v
 |l=>match LN l with|some b=> .tup b|none=> .no
def IL(C:Cx)(R:Rd)(G:Option (Nat×Bool)):List Operand->List TypeId->Option (List SV)
 | [],[]=>some []
 |x::xs,t::ts=>match arg C R G t x,IL C R G xs ts with|some v,some vs=>some (v::vs)|_,_=>none
 |_,_=>none
def Vd(C:Cx)(R:Rd)(tk:Nat)(G:Option (Nat×Bool))(f:FuncId)(args:List Operand)(ts:List TypeId):Option Ef:=
 match C.ct f with
 |none=>none
 |some c=>match IL C R G args ts with
  |none=>none
  |some as=>match fl R c.ps as 4 []with
   |none=>none
   |some (xs,rho,bs)=>
    if V8 rho&&LQ c.ps (nu c.rs 0)<=32&&abC c.ps c.rs then
     let hs:=(2::(rho.filter (·.2=1)).map (·.1)).eraseDups
     let b:=((rho.filter (4<=·.2)).map (·.1)).filter fun c=> !bs.any (·.1=c)
     if bs.isEmpty&&b.isEmpty then
      some (.opt _ (du.aa _) (c.F xs) (fun r=>GM (dE c.rs (eM c.ps) r tk hs).1))
     else
      some (.call _ (c.F xs) b (fun r=>
       let z:=dE c.rs (eM c.ps) r tk hs
       (GM z.1,lA hs c.ps z.2.1 bs z.2.2))
       (fun r=>
        let z:=dE c.rs (eM c.ps) r tk hs
        R9 R bs (lA hs c.ps z.2.1 bs z.2.2) c.kp))
    else none
def S9(ops:List Oper)(c:Operand)(want:Bool):SV->Option SV
 | .g j w _ v=>(match c with| .tmp s=>if w=want&&(ops[j]?).bind (·.dst)=some s then some v else none|_=>none)
 |v=>some v
def dY(C:Cx)(ops:List Oper)(R:Rd)(tk:Nat)(G:Option (Nat×Bool))(o:Oper):Option Ef:=
 match o.op with
 | .move x| .assign x=>(arg C R G o.type x).map .val
 | .pick c a b=>(match arg C R G 0 c,sO C R o.type a,sO C R o.type b with
   |some (.d ⟨.bool,t,_⟩),some a,some b=>
    (match S9 ops c true a,S9 ops c false b with
    |some (.d ⟨.bool,p,_⟩),some (.d ⟨.bool,q,_⟩)=>some (.val (vB (if t=true then p else q)))
    |_,_=>none)
   |_,_,_=>none)
 | .alloc t=>(C.tt t).map fun i=> .val (.box tk ⟨i.τ,i.τ.aa,sR i.τ (.sha [])⟩)
 | .box t x=>(match C.tt t,lr C R G t x with
   |some i,some v=>if v.τ=i.τ then some (.val (.box tk v))else none
   |_,_=>none)
 | .build t ps=>(match C.tt t with
   |some i=>if i.fs.isEmpty then none else(Mq C R G i ps.toList i.τ.aa (sR i.τ (.sha []))).map fun r=> .val (.d ⟨i.τ,r.1,r.2⟩)
   |none=>none)
 | .buildSlice t n ps=>(match C.tt t with
   |some ⟨.sl e,_,el⟩=>if ps.size=n&&n*e.sz<=16777216 then(Ph C R G el e 0 ps.toList).map fun r=> .val (.d ⟨.sl e,r.1,.sl (akv tk r.2)⟩)else none
   |_=>none)
 | .load t a=>(match C.tt t with
   |none=>none
   |some ti=>match arg C R G 0 a with
    |some (.ptr b o p _)=>(match R.box b with
     |some (_,v)=>(match pY v.τ v.x v.sh p with
      |some r=>if v.τ.off p=o&&r.τ=ti.τ then some (.val (.d r))else none
      |none=>none)
     |none=>none)
    |some (.ept b e i o p _)=>(match R.row b e with
     |some (l,hs,_)=>if e.off p=o&&e.sub p=some ti.τ then(pY e (l.getD i.toNat e.aa) (sR e (.sha (2::hs))) p).map fun r=> .val (.d r)else none
     |none=>none)
    |some (.rdp _ v)=>if v.τ=ti.τ then some (.val (.d v))else none
    |_=>none)
 | .store t a x=>(match C.tt t,arg C R G 0 a,lr C R G t x with
   |some ti,some (.ptr b o p _),some v=>(match R.box b with
    |some (s,u)=>if u.τ.off p=o&&v.τ=ti.τ then(qJ u.τ u.x u.sh p v).map fun r=> .put b s ⟨u.τ,r.1,r.2⟩else none
    |none=>none)
   |some ti,some (.ept b e i o p τ),some v=>(match R.row b e with
    |some (l,hs,nd)=>
     if e.off p=o&&e.sub p=some τ&&v.τ=τ&&v.τ=ti.τ then
      let own:Option (List Nat):=if τ.flat then none else match(M.row b hs nd).own,v.sh.own with
       |some a,some c=>if c.all (!a.contains ·)then some ((a++c).filter (·≠b))else none
       |_,_=>none
      let gv:=own.getD []
      let m:M:=if own.isSome then .row b [b] true else if τ.flat then .row b hs nd else .row b (hs++v.sh.bc).eraseDups false
      if own.isNone&&v.sh.bc.contains b then none else
      (qJ e (l.getD i.toNat e.aa) (sR e (.sha [])) p v).map fun r=> .elem gv b e (l.set i.toNat r.1) m
     else none
    |none=>none)
   |_,_,_=>none)
 | .nilCheck x=>(match arg C R G 0 x with
   |some (.ptr t o p τ)=>some (.val (.ptr t o p τ))
   |some (.ept t e i o p τ)=>some (.val (.ept t e i o p τ))
   |some (.rdp hs v)=>some (.val (.rdp hs v))
   |_=>none)
 | .binOp op t x y u=>(match C.tt t,lr C R G t x,lr C R G u y with|some i,some a,some b=>if a.τ=i.τ then ajl op a b else none|_,_,_=>none)
 | .unOp op t x=>(match op,lr C R G t x with
   | .not,some ⟨.bool,b,_⟩=>some (.val (vB !b))
   | .neg,some ⟨.int k,n,_⟩=>some (.val (vI k (k.wrap (0-n))))
   |_,_=>none)
 | .convert s d x=>(match C.tt s with
   |some h=>(match C.tt d,lr C R G s x with
    |some ⟨.int k,_,_⟩,some ⟨.int _,n,_⟩=>some (.val (vI k (k.wrap n)))
    |some ⟨.str,_,_⟩,some ⟨.str,v,_⟩=>some (.val (vS v))
    |some ⟨.str,_,_⟩,some ⟨.sl (.int .u8),l,_⟩=>if h.τ= .sl (.int .u8)then some (.val (vS ⟨(l.map fun n=>UInt8.ofNat n.toNat).toArray⟩))else none
    |_,_=>none)
   |none=>none)
 | .makeSlice t n c=>(match C.tt t,lr C R G 3 n,lr C R G 3 c with
   |some ⟨.sl e,_,_⟩,some ⟨.int .i64,a,_⟩,some ⟨.int .i64,b,_⟩=>some (.chk (decide (0<=a/\a<4294967296/\b=a)) (.d ⟨.sl e,agv a.toNat e.aa,.sl (.row tk [tk] true)⟩))
   |_,_,_=>none)
 | .slice t x lo hi mx=>(match C.tt t with
   |none=>none
   |some ti=>match lr C R G t x,lo.map (lr C R G 3),hi.map (lr C R G 3),mx with
    |some ⟨.sl e,l,.sl m⟩,none,none,none=>if ti.τ= .sl e then some (.val (.d ⟨.sl e,l,.sl (.sha m.bc)⟩))else none
    |some ⟨.sl e,l,.sl m⟩,some (some ⟨.int .i64,a,_⟩),none,none=>if ti.τ= .sl e then some (.chk (decide (0<=a/\a<=l.length)) (.d ⟨.sl e,l.drop a.toNat,.sl (.sha m.bc)⟩))else none
    |some ⟨.sl e,l,.sl m⟩,none,some (some ⟨.int .i64,b,_⟩),none=>if ti.τ= .sl e then some (.chk (decide (0<=b/\b<=l.length)) (.d ⟨.sl e,l.take b.toNat,.sl (.sha m.bc)⟩))else none
    |some ⟨.sl e,l,.sl m⟩,some (some ⟨.int .i64,a,_⟩),some (some ⟨.int .i64,b,_⟩),none=>if ti.τ= .sl e then some (.chk (decide (0<=a/\a<=b/\b<=l.length)) (.d ⟨.sl e,(l.take b.toNat).drop a.toNat,.sl (.sha m.bc)⟩))else none
    |some ⟨.str,s,_⟩,some (some ⟨.int .i64,a,_⟩),none,none=>if ti.τ= .str then some (.chk (decide (0<=a/\a<=s.size)) (vS (s.extract a.toNat s.size)))else none
    |some ⟨.str,s,_⟩,none,some (some ⟨.int .i64,b,_⟩),none=>if ti.τ= .str then some (.chk (decide (0<=b/\b<=s.size)) (vS (s.extract 0 b.toNat)))else none
    |some ⟨.str,s,_⟩,some (some ⟨.int .i64,a,_⟩),some (some ⟨.int .i64,b,_⟩),none=>if ti.τ= .str then some (.chk (decide (0<=a/\a<=b/\b<=s.size)) (vS (s.extract a.toNat b.toNat)))else none
    |_,_,_,_=>none)
 | .fieldAddr s x j=>(match C.tt s with
   |none=>none
   |some i=>if j<i.fs.length then
    (match i.τ.sub (jd i.fs.length j),arg C R G 0 x with
    |some σ,some (.ptr t o p τ)=>if τ=i.τ then some (.val (.ptr t (o+i.τ.off (jd i.fs.length j)) (p++jd i.fs.length j) σ))else none
    |some σ,some (.ept t e n o p τ)=>if τ=i.τ then some (.val (.ept t e n (o+i.τ.off (jd i.fs.length j)) (p++jd i.fs.length j) σ))else none
    |some _,some (.rdp hs v)=>if v.τ=i.τ then(pY v.τ v.x v.sh (jd i.fs.length j)).map fun r=> .val (.rdp hs r)else none
    |_,_=>none)else none)
 | .field s x j=>(match C.tt s,lr C R G s x with
   |some i,some v=>if v.τ=i.τ&&j<i.fs.length then(pY v.τ v.x v.sh (jd i.fs.length j)).map fun r=> .val (.d r)else none
   |_,_=>none)
 | .indexAddr t x n=>(match C.tt t,lr C R G t x,lr C R G 3 n with
   |some ti,some ⟨.sl e,l,.sl (.row u _ _)⟩,some ⟨.int _,i,_⟩=>if ti.τ= .sl e then some (.chk (decide (0<=i/\i<l.length)) (.ept u e i 0 [] e))else none
   |some ti,some ⟨.sl e,l,.sl (.sha hs)⟩,some ⟨.int _,i,_⟩=>if ti.τ= .sl e then some (.chk (decide (0<=i/\i<l.length)) (.rdp hs ⟨e,l.getD i.toNat e.aa,sR e (.sha (2::hs))⟩))else none
   |_,_,_=>none)
 | .index t x n=>(match C.tt t,lr C R G t x,lr C R G 3 n with
   |some ti,some ⟨.str,s,_⟩,some ⟨.int _,i,_⟩=>if ti.τ= .str then some (.chk (decide (0<=i/\i<s.size)) (vI .u8 (bt s i)))else none
   |_,_,_=>none)
 | .extract x j=>(match arg C R G 0 x with
   |some (.tup l)=>(l[j]?).map fun v=> .val (.d v)
   |_=>none)
 | .call c=>(match c.callee with
   | .builtin b=>JM C R tk G b c.args.toList c.argTypes.toList
   | .value (.func f)=>Vd C R tk G f c.args.toList c.argTypes.toList
   |_=>none)
 |_=>none
def ajz(ops:List Oper)(d:Option Nat):Bool:=
 ops.any fun q=>match q.op,d with
  | .call c,some d=>(match c.callee,c.args.toList with| .builtin .append,[.tmp x,_]=>x=d|_,_=>false)
  |_,_=>false
def Ly(C:Cx)(ops:List Oper)(R:Rd)(tk:Nat)(o:Oper):Option Ef:=
 match o.op with
 | .load t a=>(match C.tt t,arg C R none 0 a with
   |some ti,some (.ept b e i off p _)=>(match R.row b e with
    |some (l,hs,nd)=>if nd&&hs.all (·=b)&&ajz ops o.dst&&e.off p=off&&e.sub p=some ti.τ then
     (match pY e (l.getD i.toNat e.aa) (sR e (.sha [b])) p with
     |some ⟨.sl σ,x,_⟩=>some (.val (.d ⟨.sl σ,x,.sl (.nst b e i off p true)⟩))
     |_=>none)else none
    |none=>none)
   |_,_=>none)
 | .store t a x=>(match C.tt t,arg C R none 0 a,lr C R none t x with
   |some ti,some (.ept b e i off p τ),some ⟨.sl σ,y,.sl (.nst b' e' i' off' p' _)⟩=>(match R.row b e with
    |some (l,hs,nd)=>if nd&&hs.all (·=b)&&b'=b&&e'=e&&off'=off&&p'=p&&e.off p=off&&e.sub p=some τ&&Ty.sl σ=τ&&τ=ti.τ then
     (qJ e (l.getD i.toNat e.aa) (sR e (.sha [])) p ⟨.sl σ,y,.sl (.sha [])⟩).map fun r=> .nap (decide (i=i')) [] b e (l.set i.toNat r.1) (.row b [b] true) .no
     else none
    |none=>none)
   |_,_,_=>none)
 | .call c=>(match c.callee,c.args.toList,c.argTypes.toList with
   | .builtin .append,[x,y],[t,u]=>(match C.tt t,lr C R none t x,lr C R none u y with
     |some ti,some ⟨.sl e,l,.sl (.nst b E i off p true)⟩,some ⟨.sl e',l',.sl m'⟩=>(match rE ⟨.sl e',l',.leaf⟩ (.sl e),R.row b E,m'.own with
      |some l2,some (L,hs,nd),some ys=>if nd&&hs.all (·=b)&& !ys.contains b&&ti.τ= .sl e&&u=t then
       some (.nap (decide (l.length+l2.length<4294967296)) (tk::ys) b E L (.row b [b] true) (.d ⟨.sl e,l++l2,.sl (.nst b E i off p false)⟩))else none
      |_,_,_=>none)
     |_,_,_=>none)
   |_,_,_=>none)
 |_=>none
def D3(C:Cx)(ops:List Oper)(R:Rd)(tk:Nat)(G:Option (Nat×Bool))(o:Oper):Option Ef:=
 match G with
 |none=>(match Ly C ops R tk o with|some b=>some b|none=>dY C ops R tk none o)
 |some g=>dY C ops R tk (some g) o
def guardOf(ops:List Oper)(R:Rd):Option (Nat×Bool)->Option (Option Bool)
 |none=>some none
 |some (j,w)=>match(ops[j]?).bind (·.dst)with
  |none=>none
  |some s=>match R.get s with
   | .d ⟨.bool,b,_⟩=>some (some (b==w))
   | .g _ _ a (.d ⟨.bool,b,_⟩)=>some (some (a&&(b==w)))
   |_=>none
def SV.mq:SV->Bool
 | .box _ _=>true
 |_=>false
def SV.zZ:SV->SV
 | .g _ _ _ _=> .no
 |v=>v
def nE(G:Option (Nat×Bool))(a:Option Bool)(v:SV):SV:=
 match G,a with|some (j,w),some b=>if v.mq then .no else .g j w b v|_,_=>v.zZ
def fB:List (Nat×Nat×TV)->List SV->List SV
 | [],E=>E
 |(t,s,v)::l,E=>fB l (E.set s (.box t v))
def Env.elem(E:Env)(gv:List Nat)(b:Nat)(e:Ty)(l:List e.den)(m:M):Env:=
 {E with s:=E.s.map fun s=>((s.cu gv b).fD b).setRow b e l m}
section
variable{ρ:Type}
def dT(o:Oper)(a:Option Bool)(E:Env)(k:Env->Option ρ):Ef->Option ρ
 | .val v=>k (E.set o.dst (nE o.guard a v))
 | .chk c v=>if(match a with|none=>c|some b=> !b||c)=true then k (E.set o.dst (nE o.guard a v))else none
 | .opt _ z x f=>(match a with|none=>x|some b=>if b=true then x else some z).bind fun r=>k (E.set o.dst (nE o.guard a (f r)))
 | .put b s v=>if a.isNone&&o.dst.isNone then k {E with s:=E.s.set s (.box b v)}else none
 | .app c kl gv t v=>if a.isNone then(if c=true then k (((E.kill kl).cu gv t).set o.dst v.zZ)else none)else none
 | .elem gv b e l m=>if a.isNone&&o.dst.isNone then k (E.elem gv b e l m)else none
 | .nap c gv b e l m v=>if a.isNone then(if c=true then k ((E.elem gv b e l m).set o.dst v.zZ)else none)else none
 | .call _ x tks f rp=>if a.isNone then x.bind fun r=>let E1:=E.ib tks (rp r);k (Env.set {E1 with s:=fB (f r).2 E1.s} o.dst (f r).1.zZ)else none
end
def xo(ops:List Oper):Bool:=
 ops.zipIdx.all fun p=>match p.1.guard with
  |none=>true
  |some (j,_)=>j<p.2&&match(ops[j]?).bind (·.dst)with
   |none=>false
   |some d=>ops.zipIdx.all fun q=>q.2=j||q.1.dst≠some d
def keeps(io:List Nat)(ops:List Oper):Bool:=ops.all fun o=>match o.dst with|some d=> !io.contains d|none=>true
def CU(E:Env)(ops:List Oper):Env:=
 if ops.all (·.guard.isNone)then E else {E with s:=E.s.map SV.zZ}
section
variable{ρ:Type}
def aM{σ:Type}:Nat->((σ->Option ρ)->σ->Option ρ)->σ->Option ρ
 |0,_,_=>none
 |n+1,f,s=>f (aM n f) s
def aN{σ:Type}(a:(σ->Option ρ)->Option ρ)(b:σ->Option ρ):Option ρ:=a b
end
inductive Tr:Type 1 where
 |id
 |kg (kl gv:List Nat) (t:Nat)
 |el (gv:List Nat) (b:Nat) (e:Ty) (l:List e.den) (m:M)
 |ki (ts:List Nat) (rp:List (Nat×Nat))
def oP(ts:List Nat)(v:SV):SV:=if ts.isEmpty then v else v.kill ts
def Du(ts:List Nat)(t:Nat)(v:SV):SV:=if ts.isEmpty then v else v.cu ts t
def Tr.sv:Tr->SV->SV
 | .id=>fun v=>v
 | .kg ks gv t=>fun v=>Du gv t (oP ks v)
 | .el gv b e l m=>fun v=>((v.cu gv b).fD b).setRow b e l m
 | .ki ts rp=>fun v=>if rp.isEmpty then oP ts v else v.ib ts rp
def Tr.KS:Tr->Bool
 | .id=>true
 | .kg ks gv _=>ks.isEmpty&&gv.isEmpty
 | .ki ts rp=>ts.isEmpty&&rp.isEmpty
 |_=>false
def Tr.qU:Tr->List Nat
 | .id=>[]
 | .kg ks gv t=>t::(ks++gv)
 | .el gv b _ _ _=>b::gv
 | .ki ts rp=>ts++(rp.map (·.1)++rp.map (·.2))
def Tr.IX:Tr->List Nat
 | .id=>[]
 | .kg ks gv t=>t::(ks++gv)
 | .el gv _ _ _ _=>gv
 | .ki ts rp=>ts++(rp.map (·.1)++rp.map (·.2))
def Tr.ok:Tr->Bool
 | .el _ b _ _ m=>m.bc.contains b
 |_=>true
def wr(d:Option Nat)(v:SV):List (Nat×SV):=match d with|some d=>[(d,v)]|none=>[]
def yS(o:Oper)(a:Option Bool):Ef->Option (Tr×List (Nat×SV))
 | .val v=>some (.id,wr o.dst (nE o.guard a v))
 | .chk c v=>if(match a with|none=>c|some b=> !b||c)=true then some (.id,wr o.dst (nE o.guard a v))else none
 | .opt _ z x f=>(match a with|none=>x|some b=>if b=true then x else some z).bind fun r=>some (.id,wr o.dst (nE o.guard a (f r)))
 | .put b s v=>if a.isNone&&o.dst.isNone then some (.id,[(s,.box b v)])else none
 | .app c kl gv t v=>if a.isNone then(if c=true then some (.kg kl gv t,wr o.dst v.zZ)else none)else none
 | .elem gv b e l m=>if a.isNone&&o.dst.isNone then some (.el gv b e l m,[])else none
 | .nap c gv b e l m v=>if a.isNone then(if c=true then some (.el gv b e l m,wr o.dst v.zZ)else none)else none
 | .call _ x tks f rp=>if a.isNone then x.bind fun r=>some (.ki tks (rp r),(f r).2.map (fun p=>(p.2.1,SV.box p.1 p.2.2))++wr o.dst (f r).1.zZ)else none
def LV{ρ:Type}(o:Oper)(a:Option Bool)(d:Ef)(k:Tr×List (Nat×SV)->Option ρ):Option ρ:=
 match d with
 | .val v=>k (.id,wr o.dst (nE o.guard a v))
 | .chk c v=>if(match a with|none=>c|some b=> !b||c)=true then k (.id,wr o.dst (nE o.guard a v))else none
 | .opt _ z x f=>(match a with|none=>x|some b=>if b=true then x else some z).bind fun r=>k (.id,wr o.dst (nE o.guard a (f r)))
 | .put b s v=>if a.isNone&&o.dst.isNone then k (.id,[(s,.box b v)])else none
 | .app c kl gv t v=>if a.isNone then(if c=true then k (.kg kl gv t,wr o.dst v.zZ)else none)else none
 | .elem gv b e l m=>if a.isNone&&o.dst.isNone then k (.el gv b e l m,[])else none
 | .nap c gv b e l m v=>if a.isNone then(if c=true then k (.el gv b e l m,wr o.dst v.zZ)else none)else none
 | .call _ x tks f rp=>if a.isNone then x.bind fun r=>k (.ki tks (rp r),(f r).2.map (fun p=>(p.2.1,SV.box p.1 p.2.2))++wr o.dst (f r).1.zZ)else none
def pw(ws:List (Nat×SV))(L:List SV):List SV:=ws.foldl (fun L p=>L.set p.1 p.2) L
def Env.vf(E:Env)(r:Tr×List (Nat×SV)):Env:={E with s:=pw r.2 (E.s.map r.1.sv)}
def SV.og:SV->List Nat
 | .no=>[]
 | .d v=>v.sh.bc
 | .box t v=>t::v.sh.bc
 | .ptr t _ _ _=>[t]
 | .ept t _ _ _ _ _=>[t]
 | .rdp hs v=>hs++v.sh.bc
 | .tup l=>l.flatMap fun v=>v.sh.bc
 | .g _ _ _ v=>v.og
def SV.clean:SV->Bool
 | .no=>false
 | .d v| .box _ v| .rdp _ v=>v.sh.live
 | .tup l=>l.all fun v=>v.sh.live
 | .g _ _ _ v=>v.clean
 |_=>true
def tmpsOf(o:Oper):List Nat:=o.op.operands.toList.filterMap fun| .tmp s=>some s|_=>none
def SV.strip:SV->SV
 | .g _ _ _ v=>v
 |v=>v
def Ae(ops:List Oper)(o:Oper):List Nat:=
 tmpsOf o++(match o.guard with|some (j,_)=>((ops[j]?).bind (·.dst)).toList|none=>[])
def Qz(E:Env)(o:Oper):List Nat:=(tmpsOf o).filterMap fun s=>match(E.rd.get s).strip with| .ptr b _ _ _=>some b|_=>none
def acy:SV->Option (Nat×Ty)
 | .ept b e _ _ _ _=>some (b,e)
 | .d ⟨_,_,.sl (.nst b e _ _ _ _)⟩=>some (b,e)
 |_=>none
def PF(E:Env)(o:Oper):List (Nat×Ty):=(tmpsOf o).filterMap fun s=>acy (E.rd.get s).strip
def pr(t:Nat)(e:Ty):List SV->Nat->Option Nat
 | [],_=>none
 | .d v::l,i| .box _ v::l,i=>if(xc t e v.τ v.x v.sh).isSome then some i else pr t e l (i+1)
 |_::l,i=>pr t e l (i+1)
def HJ(v q:SV):Bool:=
 match v with
 | .no| .ept _ _ _ _ _ _| .rdp _ _=>true
 | .box t _=>(match q with| .box t' _=>t=t'|_=>false)
 |v=>v.clean&&v.og.isEmpty
def nK(o:Oper):Bool:=match o.op with| .move _| .assign _| .nilCheck _| .fieldAddr _ _ _=>false|_=>true
def SV.Og:SV->List Nat
 | .ept t _ _ _ _ _=>[t]
 |_=>[]
def SV.RR:SV->List Nat
 | .ept _ _ _ _ _ _=>[]
 |v=>v.og
structure nh:Type 1 where
 i:Nat
 rs:List Nat
 ra:List Nat
 te:List Nat
 tk:List Nat
 cl:Bool
 bx:List Nat
 rw:List (Nat×Nat)
 fd:Bool
 dz:Bool
 T:Tr
 ws:List (Nat×SV)
 nb:List Nat
 cp:Option (Nat×Nat×Option Nat×Bool)
def sameBox(v q:SV):Bool:=match v,q with| .box t u,.box t' u'=>t=t'&&u.τ=u'.τ|_,_=>false
def acD(o:Oper):Option (Nat×Nat×Option Nat):=
 match o.guard,o.dst with
 |none,some d=>(match o.op with
  | .move (.tmp s)| .assign (.tmp s)=>some (d,s,none)
  | .extract (.tmp s) j=>some (d,s,some j)
  |_=>none)
 |_,_=>none
def OM(j:Option Nat)(v:SV):Option SV:=
 match j with
 |none=>(match v with| .g _ _ _ _=>none|v=>some (fJ v))
 |some j=>(match v with| .tup l=>(l[j]?).map .d|_=>none)
def WK:SV->Bool
 | .d v=>v.τ.flat
 | .no| .ptr _ _ _ _| .ept _ _ _ _ _ _| .rdp _ _=>true
 |_=>false
def qm(ops:List Oper)(i:Nat)(o:Oper)(E:Env)(r:Tr×List (Nat×SV)):nh:=
 let b:=if nK o=true then Qz E o else []
 let q:=if nK o=true then PF E o else []
 let rw:=q.filterMap fun p=>(pr p.1 p.2 E.s 0).map fun s=>(p.1,s)
 let c:=(Ae ops o).filter fun s=>(E.get s).mq
 let rs:=(Ae ops o).filter (fun s=> !(E.get s).mq)++b.filterMap (fun t=>(mX E.s t 0).map (·.1))++rw.map (·.2)
 ⟨i,rs,c,rs.flatMap fun s=>(E.get s).Og,rs.flatMap fun s=>(E.get s).RR,rs.all fun s=>(E.get s).clean,b,rw,
   rw.length=q.length&&b.all (fun t=>(mX E.s t 0).isSome),
   r.2.all (fun p=>HJ (E.get p.1) p.2),r.1,r.2,(r.2.filter fun p=> !sameBox (E.get p.1) p.2).map (·.1),none⟩
def QL(ops:List Oper)(i:Nat)(o:Oper)(E:Env)(r:Tr×List (Nat×SV)):nh:=
 match acD o with
 |some (d,s,j)=>⟨i,[],[],[],[],true,[],[],true,HJ (E.get d) .no,.id,[],[],some (d,s,j,match OM j (E.get s)with|some x=>WK x|none=>false)⟩
 |none=>qm ops i o E r
def nh.free(a b:nh):Bool:=
 a.ws.all (fun p=> !b.rs.contains p.1&& !b.ra.contains p.1&&b.ws.all (fun q=>q.1≠p.1)&&
  (match p.2 with| .box t _=> !b.bx.contains t|_=>true)&&b.rw.all (fun q=>q.2<p.1|| !(p.2.mq||p.2.og.contains q.1)))&&
 (a.T.KS||(b.rw.isEmpty&&b.tk.all (!a.T.qU.contains ·)&&b.te.all (!a.T.IX.contains ·)&&b.ws.all fun p=>p.2.RR.all (!a.T.qU.contains ·)&&p.2.Og.all (!a.T.IX.contains ·)))
def Tr.afH:Tr->Bool
 | .el _ _ _ _ _=>false
 |_=>true
def nh.afw(a b:nh):Bool:=
 a.ws.all (fun p=> !b.rs.contains p.1&& !b.ra.contains p.1&&b.ws.all (fun q=>q.1≠p.1)&&
  (match p.2 with| .box t _=> !b.bx.contains t|_=>true)&&b.rw.all (fun q=>q.2<p.1|| !p.2.og.contains q.1))&&
 (a.T.KS||((b.rw.isEmpty||a.T.afH)&&b.tk.all (!a.T.qU.contains ·)&&b.te.all (!a.T.IX.contains ·)&&b.ws.all fun p=>p.2.RR.all (!a.T.qU.contains ·)&&p.2.Og.all (!a.T.IX.contains ·)))
def nh.ind(a b:nh):Bool:=
 a.free b&&b.afw a&&(a.T.KS||b.T.KS)&&a.T.ok&&b.T.ok&&(a.T.KS||b.cl)&&a.fd&&b.fd&&a.dz&&b.dz&&(a.T.KS||a.rw.isEmpty)
def nh.St(d s:Nat)(e z:Bool)(b:nh):Bool:=
 z&& !b.rs.contains d&& !b.ra.contains d&&b.ws.all (fun q=>q.1≠d)&& !b.nb.contains s&&b.rw.all (fun q=>e||q.2<d)&&b.fd&&b.dz&&b.T.ok
def nh.aar(a b:nh):Bool:=
 match a.cp,b.cp with
 |none,none=>a.ind b
 |some (d,s,_,e),none=>nh.St d s e a.dz b
 |none,some (d,s,_,e)=>nh.St d s e b.dz a
 |some (d,s,_,_),some (d',s',_,_)=>d≠d'&&s≠d'&&s'≠d
/-where ways meet-/
abbrev Ren:=List (Nat×Nat)
def aal(r:Ren)(t c:Nat):Option Ren:=
 match r.lookup t with
 |some b=>if c=b then some r else none
 |none=>if r.any (fun p=>p.2=c)then none else some ((t,c)::r)
def abX(c:Nat):Nat:=1000000000+c
def bindM(r:Ren):M->M->Option Ren
 | .row t _ _,.row c _ _=>aal r t c
 | .sha [],.row c _ _=>aal r (abX c) c
 | .row _ _ _,.sha _=>some r
 | .sha _,.sha _=>some r
 |_,.dead=>some r
 |_,_=>none
def Vs(r:Ren):Sh->Sh->Option Ren
 | .leaf,.leaf=>some r
 | .sl m,.sl m'=>bindM r m m'
 | .pair a b,.pair a' b'=>(Vs r a a').bind fun r=>Vs r b b'
 |_,_=>none
def Fg(r:Ren)(h:Nat):Nat:=if h<=3 then h else(r.lookup h).getD 2
def UM(r:Ren):M->M->Bool
 | .row t hs nd,.row c hc nd'=>r.lookup t=some c&&(!nd'||nd)&&hs.all fun h=>hc.contains (Fg r h)
 | .sha [],.row c _ _=>r.lookup (abX c)=some c
 | .row t hs _,.sha hc=>(t::hs).all fun h=>hc.contains (Fg r h)
 | .sha hs,.sha hc=>hs.all fun h=>hc.contains (Fg r h)
 |_,.dead=>true
 |_,_=>false
def V3(r:Ren):Sh->Sh->Bool
 | .leaf,.leaf=>true
 | .sl m,.sl m'=>UM r m m'
 | .pair a b,.pair a' b'=>V3 r a a'&&V3 r b b'
 |_,_=>false
def akj(E:Env)(r:Ren)(s:Nat):AK->Option Ren
 | .val _ sh=>match E.get s with| .d v=>Vs r v.sh sh|_=>none
 | .box c _ sh=>match E.get s with| .box t v=>(aal r t c).bind fun r=>Vs r v.sh sh|_=>none
 | .ptr _ _ _ _=>some r
 | .ept _ _ _ _ _=>some r
 | .rdp _ _ sh=>match E.get s with| .rdp _ v=>Vs r v.sh sh|_=>none
def aeK(E:Env):Ren->List (Nat×AK)->Option Ren
 |r,[]=>some r
 |r,(s,a)::l=>(akj E r s a).bind fun r=>aeK E r l
def du.app:(a:List Ty)->(b:List Ty)->du a->du b->du (a++b)
 | [],_,_,y=>y
 |_::a,b,x,y=>(x.1,du.app a b x.2 y)
def du.fst:(a:List Ty)->(b:List Ty)->du (a++b)->du a
 | [],_,_=>()
 |_::a,b,x=>(x.1,du.fst a b x.2)
def du.snd:(a:List Ty)->(b:List Ty)->du (a++b)->du b
 | [],_,x=>x
 |_::a,b,x=>du.snd a b x.2
def P3(E:Env)(r:Ren)(s:Nat):(a:AK)->Option (du a.YU)
 | .val τ sh=>match E.get s with
   | .d v=>if V3 r v.sh sh then(match rE v τ with|some x=>some (x,())|none=>none)else none
   |_=>none
 | .box c τ sh=>match E.get s with
   | .box t v=>if V3 r v.sh sh&&r.lookup t=some c then(match rE v τ with|some x=>some (x,())|none=>none)else none
   |_=>none
 | .ptr c o p τ=>match E.get s with
   | .ptr t o' p' τ'=>if r.lookup t=some c&&o'=o&&p'=p&&τ'=τ then some ()else none
   |_=>none
 | .ept c e o p τ=>match E.get s with
   | .ept t e' i o' p' τ'=>if r.lookup t=some c&&e'=e&&o'=o&&p'=p&&τ'=τ then some (i,())else none
   |_=>none
 | .rdp hs τ sh=>match E.get s with
   | .rdp hs' v=>if V3 r v.sh sh&&hs'.all (fun h=>hs.contains (Fg r h))then(match rE v τ with|some x=>some (x,())|none=>none)else none
   |_=>none
def Hc:List (Nat×AK)->List Ty
 | []=>[]
 |(_,a)::l=>a.YU++Hc l
def Wg(E:Env)(r:Ren):(l:List (Nat×AK))->Option (du (Hc l))
 | []=>some ()
 |(s,a)::l=>match P3 E r s a,Wg E r l with
  |some x,some y=>some (du.app a.YU (Hc l) x y)
  |_,_=>none
def AK.bt:AK->List Nat
 | .box c _ _| .ptr c _ _ _=>[c]
 |_=>[]
def AK.sc:AK->List Nat
 | .val _ sh| .box _ _ sh=>sh.bc
 | .ept c _ _ _ _=>[c]
 | .rdp hs _ sh=>hs++sh.bc
 |_=>[]
def aju(a:KO):Bool:=
 let b:=a.ks.flatMap fun p=>p.2.bt
 let c:=a.ks.flatMap fun p=>p.2.sc
 let s:=a.ks.map (·.1)
 4<=a.nt&&b.all (fun x=>0<x&&x<a.nt&&x≠2&&x≠3)&&c.all (fun x=>0<x&&x<a.nt&& !b.contains x)&&s.eraseDups.length=s.length
def RN(r:Ren)(b:Nat):Bool:=r.all fun p=>4<=p.2&&p.2<b&&r.find? (·.2=p.2)==some p
def proj(a:KO)(E:Env):Option (du (Hc a.ks)):=
 match aeK E [] a.ks with
 |some r=>if E.nt<=1000000000&&aju a&&RN r a.nt then Wg E r a.ks else none
 |none=>none
def KV:(a:AK)->du a.YU->SV
 | .val τ sh,x=> .d ⟨τ,x.1,sh⟩
 | .box c τ sh,x=> .box c ⟨τ,x.1,sh⟩
 | .ptr c o p τ,_=> .ptr c o p τ
 | .ept c e o p τ,x=> .ept c e x.1 o p τ
 | .rdp hs τ sh,x=> .rdp hs ⟨τ,x.1,sh⟩
def IA:(l:List (Nat×AK))->du (Hc l)->List SV->List SV
 | [],_,E=>E
 |(s,a)::l,x,E=>IA l (du.snd a.YU (Hc l) x) (E.set s (KV a (du.fst a.YU (Hc l) x)))
def nc(n:Nat)(a:KO)(x:du (Hc a.ks)):Env:=⟨IA a.ks x (agv n .no),a.nt,false⟩
def Jy:Code->Option Nat
 | .region id _ _=>some id
 | .seq a _=>Jy a
 | .block _ c=>Jy c
 | .loop c=>Jy c
 | .scope c=>Jy c
 |_=>none
/-regions that draw their order-/
def Xi(ops:List Oper):List Nat:=
 ops.foldl (fun acc o=>
  acc++[((o.after.toList.filter (Region.binds .any)).map (·.on)).foldl (fun m j=>m ||| (2^j ||| acc.getD j 0)) 0]) []
def OH(ops:List Oper)(c:List nh):Bool:=
 let B:=Xi ops
 (ops.zipIdx.all fun p=>(match p.1.guard with|some (j,_)=>(B.getD p.2 0).testBit j|none=>true)&&p.1.after.toList.all fun e=> !Region.binds .any e||e.on<p.2)&&
 c.all fun b=>c.all fun a=>b.i<=a.i||(B.getD b.i 0).testBit a.i||a.aar b
section
variable{ρ:Type}
def SJ(C:Cx)(ops:List Oper)(b:Nat):List Oper->Nat->Env->List nh->(Env->List nh->Option ρ)->Option ρ
 | [],_,E,L,k=>k E L
 |o::l,i,E,L,k=>match guardOf ops E.rd o.guard with
  |none=>none
  |some a=>match D3 C ops E.rd (b+32*i) o.guard o with
   |none=>none
   |some c=>LV o a c fun r=>SJ C ops b l (i+1) (E.vf r) (QL ops i o E r::L) k
end
/-whole functions-/
def gU:(ps:List PK)->du (ps.map PK.ty)->Nat->List SV×Nat
 | [],_,tk=>([],tk)
 | .val τ p::ps,x,tk=>let s:=cI p tk [1];let r:=gU ps x.2 s.2;(.d ⟨τ,x.1,s.1⟩::r.1,r.2)
 | .io τ p::ps,x,tk=>let s:=cI p (tk+1) [1];let r:=gU ps x.2 s.2;(.box tk ⟨τ,x.1,s.1⟩::r.1,r.2)
 | .rd τ::ps,x,tk=>let r:=gU ps x.2 tk;(.rdp [1] ⟨τ,x.1,(cI (PQ τ) tk [1]).1⟩::r.1,r.2)
 | .vx e l::ps,x,tk=>let r:=gU ps x.2 tk;(.d ⟨.sl e,x.1,.sl (.sha (1::l))⟩::r.1,r.2)
def Pz(c:Nat):Nat:=if c=1 then 1 else 2
def YH:Pt->Sh->List Nat
 | .shr,.sl m=>m.bc
 | .hd,.sl (.row _ hs _)=>hs
 | .pair a b,.pair x y=>YH a x++YH b y
 |_,_=>[]
def ZB(p:Pt)(s:Sh):Bool:= !(YH p s).contains 3
def RF(c:TypeId->Option TI)(E:Env):(rs:List RK)->List ResultVar->Nat->Option (du (rs.map RK.ty)×List (Nat×Nat)×Nat)
 | [],[],tk=>some ((),[],tk)
 | .val τ p::rs,v::vs,tk=>match(match v with| .tmp s=>(match E.get s with| .d t=>some t|_=>none)| .cell s ty=>(match E.get s,c ty with| .box _ t,some i=>if i.τ=t.τ then some t else none|_,_=>none))with
   |none=>none
   |some t=>match rE t τ,RF c E rs vs (cI p tk []).2 with
    |some x,some (xs,rho,tk')=>if zq p t.sh&&ZB p t.sh then some ((x,xs),py Pz p t.sh tk++rho,tk')else none
    |_,_=>none
 | .nbox τ p::rs,.tmp s::vs,tk=>match KB E.rd (E.rd.get s)with
   |none=>none
   |some (b,_,t)=>match rE t τ,RF c E rs vs (cI p (tk+1) []).2 with
    |some x,some (xs,rho,tk')=>if zq p t.sh&&ZB p t.sh then some ((x,xs),(b,tk)::py Pz p t.sh (tk+1)++rho,tk')else none
    |_,_=>none
 |_,_,_=>none
def UH(E:Env):(ps:List PK)->Nat->Nat->Nat->Option (du (eM ps)×List (Nat×Nat))
 | [],_,_,_=>some ((),[])
 | .val _ p::ps,i,te,tk=>UH E ps (i+1) (cI p te []).2 tk
 | .io τ p::ps,i,te,tk=>match E.get i,UH E ps (i+1) (cI p (te+1) []).2 (cI p tk []).2 with
   | .box b v,some (xs,rho)=>(match rE v τ with
     |some x=>if zq p v.sh&&ZB p v.sh&&b=te then some ((x,xs),(b,te)::py Pz p v.sh tk++rho)else none
     |none=>none)
   |_,_=>none
 | .rd _::ps,i,te,tk| .vx _ _::ps,i,te,tk=>UH E ps (i+1) te tk
def BF:List PK->Nat->List Nat
 | [],_=>[]
 | .val _ _::ps,i=>BF ps (i+1)
 | .io _ _::ps,i=>i::BF ps (i+1)
 | .rd _::ps,i| .vx _ _::ps,i=>BF ps (i+1)
def MD:List PK->Nat->Nat->List (Nat×Ty×Sh)
 | [],_,_=>[]
 | .val _ p::ps,i,te=>MD ps (i+1) (bZ p te)
 | .io τ p::ps,i,te=>(i,τ,(cI p (te+1) [1]).1)::MD ps (i+1) (bZ p (te+1))
 | .rd _::ps,i,te| .vx _ _::ps,i,te=>MD ps (i+1) te
def ag4(E:Env)(ps:List PK)(b:List (Nat×List Bool)):Bool:=
 b.isEmpty||E.kp&&b.all fun q=>match(MD ps 0 4)[q.1]? with
  |some (i,τ,sh)=>(match E.get i,DG sh q.2 with
   | .box _ v,some u=>v.τ=τ&&DG v.sh q.2==some u
   |_,_=>false)
  |none=>false
def fin(b:TypeId->Option TI)(ps:List PK)(rs:List RK)(c:List (Nat×List Bool))(d:List ResultVar)(e:Nat)(E:Env):Option (du (rs.map RK.ty++eM ps)):=
 match RF b E rs d e with
 |some (xs,rho,tk)=>(match UH E ps 0 4 tk with
  |some (ys,rho')=>if V8 (rho++rho')&&ag4 E ps c then some (du.app _ _ xs ys)else none
  |none=>none)
 |none=>none
structure Gh where
 col:Nat->Nat
 hdr:Nat->Value
 bx:Nat->Bool
theorem me.one{α:Type}{w:World}{sz:Nat}{R:α->List Value->List Nat->Prop}{l:List α}{v:Value}{B:List Nat}
 (h:me w sz R l v B):v.oneCell'=true:=by
 rcases h with h|⟨b,off,cap,c,el,fz,Bs,rfl,_⟩;obtain⟨ao,e⟩:=h.1;rw[e];rfl;rfl
theorem me.mono{w w':World}{e:Ty}{l:List e.den}{v:Value}{B:List Nat}(o:∀b∈B,w'.heap[b]?=w.heap[b]?)
 (h:me w e.sz (bP w e) l v B):me w' e.sz (bP w' e) l v B:=by
 have:bP w' (.sl e) l [v] B:=bP.mono o ⟨v,rfl,h⟩;obtain⟨v',p,h⟩:=this;cases p;exact h
def lQ(o:Nat)(b c:List Value):List Value:=c.take o++b++c.drop (o+b.length)
def ala(w:World)(G:Gh)(v:Value)(b:Nat)(E:Ty)(i:Int)(o:Nat)(fr:Bool):Prop:=
 4<=b/\0<=i/\∃(d off n cap:Nat) (c:Array Value) (el:TypeId) (L:List E.den) (e:List Nat),
  G.hdr b= .slice (some ⟨d,off,none⟩) n cap/\n<=cap/\G.col d=b/\w.heap[d]?=some (.cells c el (0,0))/\off+cap*E.sz<=c.size/\i<n/\o+1<=E.sz/\L.length=n/\
  cr (bP w E) L (lQ (i.toNat*E.sz+o) [v] ((c.toList.drop off).take (n*E.sz))) e/\(d::e).Nodup/\(∀x∈e,G.col x=b)/\
  (fr=true->((c.toList.drop off).take (n*E.sz))[i.toNat*E.sz+o]?=some v)
def gq(w:World)(G:Gh)(e:Ty)(l:List e.den)(v:Value):M->Prop
 | .row t hs nd=>4<=t/\G.hdr t=v/\∃B,me w e.sz (bP w e) l v B/\
  ∀b c,B=b::c->G.col b=t/\b∉c/\(∀x∈c,G.col x∈hs)/\(nd=true->c.Nodup)
 | .sha hs=>(∃B,me w e.sz (bP w e) l v B/\∀b∈B,G.col b∈hs)/\(hs=[]->v= .slice none 0 0)
 | .nst b E i o p fr=>(∃B,me w e.sz (bP w e) l v B/\∀x∈B,G.col x=b)/\E.sub p=some (.sl e)/\E.off p=o/\ala w G v b E i o fr
 | .dead=>v.oneCell'=true
def dJ(w:World)(G:Gh):(τ:Ty)->τ.den->Sh->List Value->Prop
 | .int k,n,.leaf,cs=>cs=[.int k n]
 | .bool,b,.leaf,cs=>cs=[.bool b]
 | .str,s,.leaf,cs=>cs=[.string s]
 | .sl e,l,.sl m,cs=>∃v,cs=[v]/\gq w G e l v m
 | .pair a b,p,.pair s1 s2,cs=>∃c1 c,cs=c1++c/\dJ w G a p.1 s1 c1/\dJ w G b p.2 s2 c
 |_,_,_,_=>False
def gQ(w:World)(G:Gh):SV->Value->Prop
 | .no,_=>True
 | .d v,mv=>∃cs,mv=kE v.τ cs/\dJ w G v.τ v.x v.sh cs
 | .box t v,mv=>∃h c el,mv= .pointer (some ⟨h,0,none⟩)/\4<=t/\G.hdr t=mv/\G.col h=t/\w.heap[h]?=some (.cells c el (0,0))/\dJ w G v.τ v.x v.sh c.toList
 | .ptr t o _ _,mv=>∃h,4<=t/\G.hdr t= .pointer (some ⟨h,0,none⟩)/\mv= .pointer (some ⟨h,o,none⟩)
 | .ept t e i o _ _,mv=>∃b off n cap,4<=t/\G.hdr t= .slice (some ⟨b,off,none⟩) n cap/\0<=i/\i<n/\mv= .pointer (some ⟨b,off+i.toNat*e.sz+o,none⟩)
 | .rdp hs v,mv=>∃b o c el k,mv= .pointer (some ⟨b,o,none⟩)/\w.heap[b]?=some (.cells c el k)/\o+v.τ.sz<=c.size/\G.col b∈hs/\dJ w G v.τ v.x v.sh ((c.toList.drop o).take v.τ.sz)
 | .tup l,mv=>∃j:List Value,mv= .tuple j.toArray/\j.length=l.length/\∀(i:Nat) (v:TV),l[i]?=some v->∃u cs,j[i]?=some u/\u=kE v.τ cs/\dJ w G v.τ v.x v.sh cs
 | .g _ _ act v,mv=>(act=true->v.mq=false/\gQ w G v mv)/\(act=false->mv=undef)
def SV.sc:SV->List Nat
 | .d v| .box _ v=>v.sh.bc
 | .rdp hs v=>hs++v.sh.bc
 | .tup l=>l.flatMap fun v=>v.sh.bc
 | .g _ _ act v=>if act=true then v.sc else []
 |_=>[]
def SV.bt:SV->List Nat
 | .box t _| .ptr t _ _ _=>[t]
 | .g _ _ act v=>if act=true then v.bt else []
 |_=>[]
def SV.rt:SV->List Nat
 | .ept t _ _ _ _ _=>[t]
 | .g _ _ act v=>if act=true then v.rt else []
 |_=>[]
def SV.hc:SV->List Nat
 | .box t v=>t::v.sh.bc
 |v=>v.sc
structure RG(S T:List Nat)(w w':World)(G G':Gh):Prop where
 heap:∀b,G.col b∈S->w'.heap[b]?=w.heap[b]?
 col:∀b,G.col b∈S->G'.col b=G.col b
 hdr:∀t∈T,G'.hdr t=G.hdr t
theorem RG.sub{S p T q:List Nat}{w w':World}{G G':Gh}(h:RG S T w w' G G')(hs:∀c∈p,c∈S)(u:∀c∈q,c∈T):RG p q w w' G G':=
 ⟨fun b o=>h.heap b (hs _ o),fun b o=>h.col b (hs _ o),fun t o=>h.hdr t (u _ o)⟩
theorem gq.agree{w w':World}{G G':Gh}{e:Ty}{l:List e.den}{v:Value}{m:M}(h:RG m.bc m.bc w w' G G')(K:gq w G e l v m):gq w' G' e l v m:=by
 cases m with
 |row t N nd=>
  obtain⟨Y,hh,B,I,hc⟩:=K
  have q:∀b∈B,G.col b∈t::N:=by
   intro b y;cases B with
   |nil=>cases y
   |cons x H=>
    obtain⟨Q,_,J,_⟩:=hc x H rfl;rcases B_.1 y with rfl|y;simp[Q];exact adm _ (J b y)
  refine⟨Y,(h.hdr t (by simp[M.bc])).trans hh,B,me.mono (fun b y=>h.heap b (q b y)) I,?_⟩;intro b H e;obtain⟨Q,h2,J,h4⟩:=hc b H e;subst e;refine⟨(h.col b (q b (by simp))).trans Q,h2,fun x u=> ?_,h4⟩;rw[h.col x (q x (by simp[u]))];exact J x u
 |sha N=>
  obtain⟨⟨B,I,hc⟩,hn⟩:=K;exact⟨⟨B,me.mono (fun b y=>h.heap b (hc b y)) I,fun b y=>by rw[h.col b (hc b y)];exact hc b y⟩,hn⟩
 |nst b E i o p fr=>
  obtain⟨⟨B,I,hc⟩,N,ho,J,hi,z,off,n,cap,c,el,L,H,g1,g2,R,g4,g5,g6,g7,g8,g9,S,D,W⟩:=K;have q:∀x,G.col x=b->G.col x∈(M.nst b E i o p fr).bc:=fun x u=>by simp[M.bc,u]
  refine⟨⟨B,me.mono (fun x u=>h.heap x (q x (hc x u))) I,fun x u=>(h.col x (q x (hc x u))).trans (hc x u)⟩,N,ho,J,hi,z,off,n,cap,c,el,L,H,
   (h.hdr b (by simp[M.bc])).trans g1,g2,(h.col z (q z R)).trans R,(h.heap z (q z R)).trans g4,g5,g6,g7,g8,?_,S,fun x u=>(h.col x (q x (D x u))).trans (D x u),W⟩
  exact cr.mono (fun x=>w'.heap[x]?=w.heap[x]?) (fun _ _ _ X u=>bP.mono X u) (fun x u=>h.heap x (q x (D x u))) g9
 |dead=>exact K
theorem dJ.agree{w w':World}{G G':Gh}:∀ {τ:Ty} {x:τ.den} {sh:Sh} {cs:List Value},RG sh.bc sh.bc w w' G G'->dJ w G τ x sh cs->dJ w' G' τ x sh cs
 | .int _,_,.leaf,_,_,h=>h
 | .bool,_,.leaf,_,_,h=>h
 | .str,_,.leaf,_,_,h=>h
 | .sl e,l,.sl m,cs,ha,h=>by obtain⟨v,rfl,o⟩:=h;exact⟨v,rfl,gq.agree ha o⟩
 | .pair a b,p,.pair s1 s2,cs,ha,h=>by
   obtain⟨q,u,rfl,y,z⟩:=h
   exact⟨q,u,rfl,dJ.agree (ha.sub (fun c hc=>by simp[Sh.bc,hc]) (fun c hc=>by simp[Sh.bc,hc])) y,
    dJ.agree (ha.sub (fun c hc=>by simp[Sh.bc,hc]) (fun c hc=>by simp[Sh.bc,hc])) z⟩
 | .int _,_,.sl _,_,_,h| .int _,_,.pair _ _,_,_,h| .bool,_,.sl _,_,_,h| .bool,_,.pair _ _,_,_,h
 | .str,_,.sl _,_,_,h| .str,_,.pair _ _,_,_,h| .sl _,_,.leaf,_,_,h| .sl _,_,.pair _ _,_,_,h
 | .pair _ _,_,.leaf,_,_,h| .pair _ _,_,.sl _,_,_,h=>h.elim
theorem gQ.agree{w w':World}{G G':Gh}:∀ {s:SV} {mv:Value},RG s.hc (s.sc++s.bt++s.rt) w w' G G'->gQ w G s mv->gQ w' G' s mv
 | .no,_,_,_=>trivial
 | .d v,mv,ha,⟨y,h1,h2⟩=>⟨y,h1,dJ.agree (ha.sub (fun c hc=>hc) (fun c hc=>by simp[SV.sc,hc])) h2⟩
 | .box t v,mv,ha,⟨bk,c,el,h1,h2,h3,h4,h5,h6⟩=>
   ⟨bk,c,el,h1,h2,(ha.hdr t (by simp[SV.bt])).trans h3,(ha.col bk (by simp[SV.hc,h4])).trans h4,
    (ha.heap bk (by simp[SV.hc,h4])).trans h5,dJ.agree (ha.sub (fun c hc=>by simp[SV.hc,hc]) (fun c hc=>by simp[SV.sc,hc])) h6⟩
 | .ptr t o p τ,mv,ha,⟨bk,h1,h2,h3⟩=>⟨bk,h1,(ha.hdr t (by simp[SV.bt])).trans h2,h3⟩
 | .ept t e i o p τ,mv,ha,⟨b,off,n,cap,h1,h2,h3⟩=>⟨b,off,n,cap,h1,(ha.hdr t (by simp[SV.rt])).trans h2,h3⟩
 | .rdp hs v,mv,ha,⟨b,o,c,el,fz,h1,h2,h3,h4,h5⟩=>
   ⟨b,o,c,el,fz,h1,(ha.heap b (by simp[SV.hc,SV.sc,h4])).trans h2,h3,by rw[ha.col b (by simp[SV.hc,SV.sc,h4])];exact h4,
     dJ.agree (ha.sub (fun c hc=>by simp[SV.hc,SV.sc,hc]) (fun c hc=>by simp[SV.sc,hc])) h5⟩
 | .tup l,mv,ha,⟨vs,h1,h2,h3⟩=>by
   refine⟨vs,h1,h2,fun i v z=> ?_⟩;obtain⟨u,y,B,D,q⟩:=h3 i v z;have h:∀c∈v.sh.bc,c∈SV.sc (.tup l):=fun c hc=>acf.2 ⟨v,ahd z,hc⟩;exact⟨u,y,B,D,dJ.agree (ha.sub h (fun c hc=>by simp[h c hc])) q⟩
 | .g j w' false v,mv,ha,⟨h1,h2⟩=>⟨fun e=>absurd e (by simp),h2⟩
 | .g j w' true v,mv,ha,⟨h1,h2⟩=>⟨fun e=>⟨(h1 e).1,gQ.agree (s:=v) (by
  have q:=(h1 e).1;cases v with
  |box t v=>simp[SV.mq]at q
  |_=>simpa[SV.hc,SV.sc,SV.bt,SV.rt]using ha) (h1 e).2⟩,h2⟩
theorem SV.VU:∀(s:SV) (c:Nat),c∈s.hc->c∈s.sc\/c∈s.bt
 | .no,c,h| .ptr ..,c,h| .ept ..,c,h=>by simp[SV.hc,SV.sc]at h
 | .d v,c,h| .rdp hs v,c,h| .tup l,c,h=> .inl h
 | .box t v,c,h=>by
   rcases B_.1 h with rfl|h;right;simp[SV.bt];left;exact h
 | .g _ _ _ v,c,h=> .inl h
structure C0 where
 col:Nat->Nat
 hdr:Nat->Option Value
structure Inv(w0:World)(c0:C0)(U:Nat->Prop)(E:Env)(a:Act)(w:World)(G:Gh):Prop where
 len:a.tmps.size=E.s.length
 slots:∀s,gQ w G (E.s.getD s .no) (a.tmps.getD s undef)
 sc:∀s,∀c∈(E.s.getD s .no).sc,0<c/\U c/\G.bx c=false
 bt:∀s,∀t∈(E.s.getD s .no).bt,0<t/\U t/\G.bx t=true
 rt:∀s,∀t∈(E.s.getD s .no).rt,0<t/\U t/\G.bx t=false
 uni:∀s s' t v v',E.s.getD s .no= .box t v->E.s.getD s' .no= .box t v'->s=s'
 colU:∀b,0<G.col b->U (G.col b)
 lt:∀b,0<G.col b->b<w.heap.size
 fresh:∀b,4<=G.col b->∃c el,w.heap[b]?=some (.cells c el (0,0))
 frame:∀b,b<w0.heap.size->c0.col b<4->G.col b=c0.col b/\w.heap[b]?=w0.heap[b]?
 one:∀b,G.col b=1\/G.col b=3->b<w0.heap.size/\c0.col b=G.col b
 size:w0.heap.size<=w.heap.size
 os:w.os=w0.os
 tape:w.tape=w0.tape
 output:w.output=w0.output
 defers:a.defers=[]
 two:(U 2/\G.bx 2=false)/\U 3/\G.bx 3=false
 hk:E.kp=true->∀t v,c0.hdr t=some v->U t/\G.hdr t=v
def mY(l:List SV)(d s:Nat)(v:SV):(l.set d v).getD s .no=if s=d/\d<l.length then v else l.getD s .no:=by
 simp only[agq,List.getElem?_set];by_cases h:d=s;subst h;by_cases b:d<l.length;simp[b];simp[b];simp[h,Ne.symm h]
def aco(a:Act)(d:Option Nat)(v:Value)(s:Nat)(b:∀x,d=some x->x<a.tmps.size):
 (a.put d v).tmps.getD s undef=if some s=d then v else a.tmps.getD s undef:=by
 cases d with
 |none=>simp[Act.put]
 |some d=>
  have:=b d rfl;simp only[Act.put,ahs,Array.getElem?_setIfInBounds,aaB];by_cases h:d=s;subst h;simp[this];simp[h,Ne.symm h]
def abY(a:Act)(d:Nat)(v:Value)(h:¬d<a.tmps.size):a.put (some d) v=a:=by
 cases a;simp only[Act.put,Act.mk.injEq,and_true];exact Array.setIfInBounds_eq_of_size_le (by simpa using h)
def DZ(a:Act)(d:Option Nat)(v:Value):(a.put d v).tmps.size=a.tmps.size:=by
 cases d<;>simp[Act.put]
def afE(a:Act)(d:Option Nat)(v:Value):(a.put d v).defers=a.defers:=by
 cases d<;>simp[Act.put]
section
variable{w0:World}{c0:C0}{U:Nat->Prop}{E:Env}{a:Act}{w:World}{G:Gh}
theorem Inv.put(h:Inv w0 c0 U E a w G)(d:Option Nat){sv:SV}{v:Value}(hs:gQ w G sv v)
 (D:∀c∈sv.sc,0<c/\U c/\G.bx c=false) (H:∀c∈sv.bt,0<c/\U c/\G.bx c=true) (I:∀c∈sv.rt,0<c/\U c/\G.bx c=false)
 (q:∀t u,sv= .box t u->∀s y,E.s.getD s .no≠ .box t y):
 Inv w0 c0 U (E.set d sv) (a.put d v) w G:=by
 cases d with
 |none=>exact h
 |some d=>
  have p:∀s,(E.set (some d) sv).s.getD s .no=if s=d/\d<E.s.length then sv else E.s.getD s .no:=fun s=>mY E.s d s sv
  refine {h with len:= ?_,slots:= ?_,sc:= ?_,bt:= ?_,rt:= ?_,uni:= ?_,defers:=by rw[afE];exact h.defers};rw[DZ,h.len];simp[Env.set];intro s;rw[p];by_cases J:d<a.tmps.size;rw[aco a (some d) v s (by rintro x ⟨⟩;exact J)];by_cases e:s=d;subst e;rw[an ⟨rfl,h.len▸J⟩,an rfl];exact hs;rw[a_ (by simp[e]),a_ (by simp[e])];exact h.slots s;rw[abY a d v J,a_ (by rw[<-h.len];simp;omega)];exact h.slots s;intro s c o;rw[p]at o;split at o;exact D c o;exact h.sc s c o;intro s c o;rw[p]at o;split at o;exact H c o;exact h.bt s c o;intro s c o;rw[p]at o;split at o;exact I c o;exact h.rt s c o;intro s K t u y z B;rw[p]at z B;split at z<;>split at B;omega;exact absurd B (q t u z K y);exact absurd z (q t y B s u);exact h.uni s K t u y z B
theorem Inv.mono{U':Nat->Prop}(h:Inv w0 c0 U E a w G)(o:∀c,U c->U' c):Inv w0 c0 U' E a w G:=
 {h with
  sc:=fun s c hc=>⟨(h.sc s c hc).1,o _ (h.sc s c hc).2.1,(h.sc s c hc).2.2⟩
  bt:=fun s c hc=>⟨(h.bt s c hc).1,o _ (h.bt s c hc).2.1,(h.bt s c hc).2.2⟩
  rt:=fun s c hc=>⟨(h.rt s c hc).1,o _ (h.rt s c hc).2.1,(h.rt s c hc).2.2⟩
  colU:=fun b p=>o _ (h.colU b p)
  two:=⟨⟨o _ h.two.1.1,h.two.1.2⟩,o _ h.two.2.1,h.two.2.2⟩
  hk:=fun hk t v e=>⟨o _ (h.hk hk t v e).1,(h.hk hk t v e).2⟩}
def size_alloc(w:World)(o:Obj):(w.alloc o).heap.size=w.heap.size+1:=Array.size_push ..
def Gh.add(G:Gh)(b t:Nat)(v:Value)(x:Bool):Gh:=
 ⟨fun y=>if y=b then t else G.col y,fun u=>if u=t then v else G.hdr u,fun u=>if u=t then x else G.bx u⟩
theorem Inv.drawn(h:Inv w0 c0 U E a w G)(n:Nat):Inv w0 c0 U E a {w with drawn:=n} G:=by
 refine {h with slots:=fun s=> ?_};exact gQ.agree (w:=w) (G:=G) (G':=G) ⟨fun _ _=>rfl,fun _ _=>rfl,fun _ _=>rfl⟩ (h.slots s)
theorem Inv.alloc(h:Inv w0 c0 U E a w G){t:Nat}(ht:4<=t)(K:¬U t)(c:Array Value)(el:TypeId)(v:Value)(x:Bool):
 Inv w0 c0 (fun u=>U u\/u=t) E a (w.alloc (.cells c el)) (G.add w.heap.size t v x):=by
 have I:∀b,0<G.col b->b≠w.heap.size:=fun b o e=>by have:=h.lt b o;omega
 have p:∀u,U u->u≠t:=fun u q e=>K (e▸q);refine⟨h.len,fun s=> ?_,fun s c hc=> ?_,fun s c hc=> ?_,fun s c hc=> ?_,h.uni,?_,?_,?_,?_,?_,?_,h.os,h.tape,h.output,h.defers,⟨⟨.inl h.two.1.1,by simp only[Gh.add];rw[a_ (by omega)];exact h.two.1.2⟩,.inl h.two.2.1,by simp only[Gh.add];rw[a_ (by omega)];exact h.two.2.2⟩,fun D B H e=>⟨.inl (h.hk D B H e).1,by simp only[Gh.add];rw[a_ (p B (h.hk D B H e).1)];exact(h.hk D B H e).2⟩⟩;refine gQ.agree (w:=w) (G:=G) ⟨fun b o=> ?_,fun b o=> ?_,fun u q=> ?_⟩ (h.slots s);have:0<G.col b:=by rcases SV.VU _ _ o with o|o;exact(h.sc s _ o).1;exact(h.bt s _ o).1
 exact heap_alloc_old w _ b (h.lt b this);have:0<G.col b:=by rcases SV.VU _ _ o with o|o;exact(h.sc s _ o).1;exact(h.bt s _ o).1
 simp[Gh.add,I b this]
 have:U u:=by
  simp only[h_]at q;rcases q with(q|q)|q;exact(h.sc s u q).2.1;exact(h.bt s u q).2.1;exact(h.rt s u q).2.1
 simp[Gh.add,p u this];have:=h.sc s c hc;exact⟨this.1,.inl this.2.1,by simp[Gh.add,p c this.2.1,this.2.2]⟩;have:=h.bt s c hc;exact⟨this.1,.inl this.2.1,by simp[Gh.add,p c this.2.1,this.2.2]⟩;have:=h.rt s c hc;exact⟨this.1,.inl this.2.1,by simp[Gh.add,p c this.2.1,this.2.2]⟩;intro b o;by_cases e:b=w.heap.size;right;simp[Gh.add,e];left;simp only[Gh.add,e,if_false]at o|-;exact h.colU b o;intro b o;by_cases e:b=w.heap.size;rw[size_alloc];omega;simp only[Gh.add,e,if_false]at o;have:=h.lt b o;rw[size_alloc];omega;intro b o;by_cases e:b=w.heap.size;exact⟨c,el,by rw[e];exact heap_alloc_new w _⟩;simp only[Gh.add,e,if_false]at o;obtain⟨L,J,z⟩:=h.fresh b o;exact⟨L,J,by rw[heap_alloc_old w _ b (lt_of_block z)];exact z⟩;intro b o hc;have y:b<w.heap.size:=Nat.lt_of_lt_of_le o h.size;refine⟨?_,?_⟩;simp only[Gh.add,a_ (ahz y)];exact(h.frame b o hc).1;rw[heap_alloc_old w _ b y];exact(h.frame b o hc).2;intro b o;by_cases e:b=w.heap.size;simp[Gh.add,e]at o;omega;simp only[Gh.add,e,if_false]at o|-;exact h.one b o;have:=h.size;rw[size_alloc];omega
end
def tQ(P:Program)(t:TypeId)(τ:Ty):Prop:=
 ∃inf d,P.info? t=some inf/\inf.size=τ.sz/\inf.zero=some (kE τ τ.zero)/\inf.bytes<=32768/\
  P.underlying t=some d/\(d matches .struct _| .array _ _)=τ.iu
structure V9(P:Program)(τ:Ty)(fs:List TypeId)(j:Nat)(f:Field):Prop where
 off:f.offset=τ.off (jd fs.length j)
 ty:fs[j]?=some f.type
 sub:∃σ,τ.sub (jd fs.length j)=some σ/\tQ P f.type σ
def ZX(P:Program)(t:TypeId)(i:TI):Prop:=
 tQ P t i.τ/\match i.τ with
 | .int k=>P.underlying t=some (.int k)
 | .bool=>P.underlying t=some .bool
 | .str=>P.underlying t=some .string
 | .sl e=>P.underlying t=some (.slice i.el)/\tQ P i.el e
 | .pair _ _=>∃fields,P.underlying t=some (.struct fields)/\fields.size=i.fs.length/\
  ∀(j:Nat) (f:Field),fields[j]?=some f->V9 P i.τ i.fs j f
section
variable{P:Program}{w:World}
def adL{t:TypeId}{inf:TypeInfo}(h:P.info? t=some inf):(typeInfo t).run P w= .ok inf w:=by
 simp[typeInfo,h]
def n7{t:TypeId}{τ:Ty}(h:tQ P t τ):(Go.sizeOf t).run P w= .ok τ.sz w:=by
 obtain⟨inf,d,b,c,_⟩:=h;simp[Go.sizeOf,adL b,c]
def aa9{t:TypeId}{τ:Ty}(h:tQ P t τ):(zeroValue t).run P w= .ok (kE τ τ.zero) w:=by
 obtain⟨inf,d,b,h2,c,_⟩:=h;simp[zeroValue,adL b,c]
def O1{t:TypeId}{τ:Ty}(h:tQ P t τ):(isAgg t).run P w= .ok τ.iu w:=by
 obtain⟨inf,d,h1,h2,h3,h4,b,h6⟩:=h;rw[<-h6];cases d<;>simp[isAgg,run_underlying b]
def Dy{τ:Ty}{cs:List Value}(c:cs.length=τ.sz)(d:∀v∈cs,v.oneCell'=true):(kE τ cs).cells.toList=cs:=by
 cases τ with
 |pair a b=>simp[kE,Value.cells]
 |_=>
  simp only[Ty.sz]at c
  match cs,c with
  | [v],_=>
    have:=d v (by simp);cases v<;>simp_all[kE,Value.cells,Value.oneCell']
def KM{τ:Ty}{cs:List Value}(b:cs.length=τ.sz)(c:∀v∈cs,v.oneCell'=true):(kE τ cs).cells.size=τ.sz:=by
 have:=congrArg akw (Dy b c);simpa[b]using this
def Q8:∀(τ:Ty),∀v∈τ.zero,v.oneCell'=true:=fun τ=>bP.one (bP.zero default τ)
def JG{b:Nat}{c:Array Value}{el:TypeId}{d:Nat×Nat}(e:w.heap[b]?=some (.cells c el d))(o:Nat):w.cell? ⟨b,o,none⟩=c[o]?:=by
 simp[World.cell?,e]
def aas{c:Array Value}{o n j:Nat}{v:Value}(h:((c.toList.drop o).take n)[j]?=some v):c[o+j]?=some v:=by
 rw[List.getElem?_take]at h;split at h;rw[List.getElem?_drop]at h;simpa using h;cases h
def Fq{t:TypeId}{τ:Ty}(h:tQ P t τ){b o:Nat}{c:Array Value}{el:TypeId}{l:Nat×Nat}
 (d:w.heap[b]?=some (.cells c el l)) (hs:o+τ.sz<=c.size):(loadVar t ⟨b,o,none⟩).run P w= .ok (kE τ ((c.toList.drop o).take τ.sz)) w:=by
 have hlen:((c.toList.drop o).take τ.sz).length=τ.sz:=by simp;omega
 cases e:τ.iu with
 |true=>
  have i:=run_loadCells_list (P:=P) w ⟨b,o,none⟩ ((c.toList.drop o).take τ.sz) (fun j v k=>by
   rw[Addr.add_lit,JG d];exact aas k)
  rw[hlen]at i;simp[loadVar,O1 h,e,n7 h,i];cases τ<;>simp_all[kE,Ty.iu]
 |false=>
  have m:τ.sz=1:=by cases τ<;>simp_all[Ty.iu,Ty.sz]
  have n:o<c.size:=by omega
  have hc:c[o]?=some c[o]:=aaY n
  have p:(c.toList.drop o).take 1=[c[o]]:=by
   rw[List.take_one,akF];simp[hc]
  rw[m,p];have q:kE τ [c[o]]=c[o]:=by cases τ<;>simp_all[kE,Ty.iu]
  rw[q];simp only[loadVar,Sem.run_bind,O1 h,e,Result.andThen_ok,ahv,if_false,run_load,JG d,hc]
def Nf{b:Nat}{c:Array Value}{el:TypeId}(d:w.heap[b]?=some (.cells c el (0,0)))(o:Nat):w.frozen? ⟨b,o,none⟩=false:=by
 simp[World.frozen?,d]
theorem fN(b:Nat):∀(c:List Value) (o:Nat) (w:World) (k:Nat),k≠b->(w.setCells b o c).heap[k]?=w.heap[k]?
 | [],_,_,_,_=>rfl
 |v::r,o,w,k,h=>by
  rw[World.setCells,fN b r (o+1) _ k h];exact heap_setCell_other w ⟨b,o,none⟩ k v h
theorem pC(b:Nat):∀(c:List Value) (o:Nat) (w:World),(w.setCells b o c).heap.size=w.heap.size
 | [],_,_=>rfl
 |v::r,o,w=>by rw[World.setCells,pC b r (o+1)];simp[World.setCell]
theorem ir(b:Nat):∀(c:List Value) (o:Nat) (w:World),(w.setCells b o c).os=w.os/\(w.setCells b o c).tape=w.tape/\(w.setCells b o c).output=w.output
 | [],_,_=>⟨rfl,rfl,rfl⟩
 |_::r,o,_=>ir b r (o+1) _
theorem vL(b:Nat){el:TypeId}:∀(d:List Value) (o:Nat) (w:World) (c:Array Value),w.heap[b]?=some (.cells c el (0,0))->o+d.length<=c.size->
 (w.setCells b o d).heap[b]?=some (.cells (c.toList.take o++d++c.toList.drop (o+d.length)).toArray el (0,0))
 | [],o,w,c,hb,_=>by simp[World.setCells,hb]
 |v::r,o,w,c,hb,hs=>by
  simp only[ag8]at hs
  have e:(w.setCell ⟨b,o,none⟩ v).heap[b]?=some (.cells (c.setIfInBounds o v) el (0,0)):=by
   simp only[World.setCell,Array.getElem?_modify,hb];rfl
  rw[World.setCells,vL b r (o+1) _ _ e (by simp;omega)];congr 3;have h:o<c.toList.length:=by simp at hs|-;omega
  have i:(c.toList.set o v).drop (o+1+r.length)=c.toList.drop (o+(r.length+1)):=by
   rw[ahR (by omega)];congr 1;omega
  have j:(c.toList.set o v).take (o+1)=c.toList.take o++[v]:=by
   rw[ag9 (by simpa using h),ajm (afc _)];simp
  simp only[ahw,ag8,i,j];simp
def abl{t:TypeId}{τ:Ty}(h:tQ P t τ){b o:Nat}{c:Array Value}{el:TypeId}{cs:List Value}
 (i:w.heap[b]?=some (.cells c el (0,0))) (hs:o+τ.sz<=c.size) (k:cs.length=τ.sz) (d:∀v∈cs,v.oneCell'=true):
 (storeVar t ⟨b,o,none⟩ (kE τ cs)).run P w= .ok () (w.setCells b o cs):=by
 have e:=run_storeCells_cells (P:=P) b o cs 0 w (fun j l=>by rw[JG i];simp;omega) (fun j l=>Nf i _) d;simp[storeVar,n7 h,KM k d,Dy k d];simpa using e
end
section
variable{w:World}{G:Gh}
theorem dJ.len:∀ {τ:Ty} {x:τ.den} {sh:Sh} {cs:List Value},dJ w G τ x sh cs->cs.length=τ.sz
 | .int _,_,.leaf,_,h=>by rw[show _=_ from h];rfl
 | .bool,_,.leaf,_,h=>by rw[show _=_ from h];rfl
 | .str,_,.leaf,_,h=>by rw[show _=_ from h];rfl
 | .sl e,l,.sl m,cs,h=>by obtain⟨v,rfl,_⟩:=h;rfl
 | .pair a b,p,.pair s1 s2,cs,h=>by
   obtain⟨c1,c2,rfl,o,q⟩:=h;simp[Ty.sz,dJ.len o,dJ.len q]
 | .int _,_,.sl _,_,h| .int _,_,.pair _ _,_,h| .bool,_,.sl _,_,h| .bool,_,.pair _ _,_,h
 | .str,_,.sl _,_,h| .str,_,.pair _ _,_,h| .sl _,_,.leaf,_,h| .sl _,_,.pair _ _,_,h
 | .pair _ _,_,.leaf,_,h| .pair _ _,_,.sl _,_,h=>h.elim
theorem gq.one{e:Ty}{l:List e.den}{v:Value}{m:M}(h:gq w G e l v m):v.oneCell'=true:=by
 cases m with
 |row t u nd=>obtain⟨_,_,B,q,_⟩:=h;exact q.one
 |sha u=>obtain⟨⟨B,q,_⟩,_⟩:=h;exact q.one
 |nst b E i o p fr=>obtain⟨⟨B,q,_⟩,_⟩:=h;exact q.one
 |dead=>exact h
theorem dJ.one:∀ {τ:Ty} {x:τ.den} {sh:Sh} {cs:List Value},dJ w G τ x sh cs->∀v∈cs,v.oneCell'=true
 | .int _,_,.leaf,_,h,v,o=>by rw[show _=_ from h]at o;simp at o;subst o;rfl
 | .bool,_,.leaf,_,h,v,o=>by rw[show _=_ from h]at o;simp at o;subst o;rfl
 | .str,_,.leaf,_,h,v,o=>by rw[show _=_ from h]at o;simp at o;subst o;rfl
 | .sl e,l,.sl m,cs,h,v,o=>by obtain⟨u,rfl,q⟩:=h;simp at o;subst o;exact q.one
 | .pair a b,p,.pair s1 s2,cs,h,v,o=>by
   obtain⟨c1,c2,rfl,y,z⟩:=h;rcases h_.1 o with o|o;exact dJ.one y v o;exact dJ.one z v o
 | .int _,_,.sl _,_,h,_,_| .int _,_,.pair _ _,_,h,_,_| .bool,_,.sl _,_,h,_,_| .bool,_,.pair _ _,_,h,_,_
 | .str,_,.sl _,_,h,_,_| .str,_,.pair _ _,_,h,_,_| .sl _,_,.leaf,_,h,_,_| .sl _,_,.pair _ _,_,h,_,_
 | .pair _ _,_,.leaf,_,h,_,_| .pair _ _,_,.sl _,_,h,_,_=>h.elim
theorem dJ.sub:∀ {p:List Bool} {τ:Ty} {x:τ.den} {sh:Sh} {cs:List Value} {r:TV},pY τ x sh p=some r->dJ w G τ x sh cs->
 dJ w G r.τ r.x r.sh ((cs.drop (τ.off p)).take r.τ.sz)/\τ.off p+r.τ.sz<=τ.sz/\τ.sub p=some r.τ/\(∀c∈r.sh.bc,c∈sh.bc)
 | [],τ,x,sh,cs,r,hr,h=>by
   have:r=⟨τ,x,sh⟩:=by cases τ<;>simp_all[pY]
   subst this;refine⟨?_,?_,?_,fun c hc=>hc⟩;have:=dJ.len h;cases τ<;>simpa[Ty.off,aeR (Nat.le_of_eq this)]using h;cases τ<;>simp[Ty.off];cases τ<;>simp[Ty.sub]
 |false::p,.pair a b,x,.pair s1 s2,cs,r,hr,h=>by
  obtain⟨B,D,rfl,q,z⟩:=h;obtain⟨u,hle,v,hc⟩:=dJ.sub (p:=p) (by simpa[pY]using hr) q;have y:=dJ.len q;refine⟨?_,by simp only[Ty.off,Ty.sz];omega,by simpa[Ty.sub]using v,fun c o=>by simp[Sh.bc,hc c o]⟩;simp only[Ty.off];rw[agB (by omega),agn (by simp;omega)];exact u
 |true::p,.pair a b,x,.pair s1 s2,cs,r,hr,h=>by
  obtain⟨B,D,rfl,q,z⟩:=h;obtain⟨u,hle,v,hc⟩:=dJ.sub (p:=p) (by simpa[pY]using hr) z;have y:=dJ.len q;refine⟨?_,by simp only[Ty.off,Ty.sz];omega,by simpa[Ty.sub]using v,fun c o=>by simp[Sh.bc,hc c o]⟩;simp only[Ty.off];rw[<-y,ag1,ae5 (by omega)];simpa using u
 |b::p,.int _,_,_,_,_,hr,_|b::p,.bool,_,_,_,_,hr,_|b::p,.str,_,_,_,_,hr,_|b::p,.sl _,_,_,_,_,hr,_=>by simp[pY]at hr
 |false::p,.pair _ _,_,.leaf,_,_,hr,_|false::p,.pair _ _,_,.sl _,_,_,hr,_=>by simp[pY]at hr
 |true::p,.pair _ _,_,.leaf,_,_,hr,_|true::p,.pair _ _,_,.sl _,_,_,hr,_=>by simp[pY]at hr
def mR{v:TV}{τ:Ty}{y:τ.den}(h:rE v τ=some y):v=⟨τ,y,v.sh⟩:=by
 obtain⟨σ,x,sh⟩:=v;unfold rE at h;split at h;rename_i e;simp only at e;subst e;simp only[cast_eq,aaB]at h;subst h;rfl;cases h
theorem dJ.put:∀ {p:List Bool} {τ:Ty} {x:τ.den} {sh:Sh} {cs:List Value} {v:TV} {y:τ.den} {s:Sh} {cv:List Value},
 qJ τ x sh p v=some (y,s)->dJ w G τ x sh cs->dJ w G v.τ v.x v.sh cv->
 dJ w G τ y s (cs.take (τ.off p)++cv++cs.drop (τ.off p+v.τ.sz))/\τ.off p+v.τ.sz<=τ.sz/\(∀c∈s.bc,c∈sh.bc\/c∈v.sh.bc)
 | [],τ,x,sh,cs,v,y,s,cv,hp,h,hv=>by
   have H:rE v τ=some y/\s=v.sh:=by
    cases τ<;>(simp only[qJ]at hp;split at hp<;>simp_all)
   obtain⟨hc,rfl⟩:=H;have e:=mR hc;have I:=dJ.len h;have K:τ.off []=0:=by cases τ<;>rfl
   have L:v.τ=τ:=by rw[e]
   refine⟨?_,by rw[K,L];omega,fun c z=> .inr z⟩;rw[K,L,ahK,agp,aj0,ae5 (by omega),agz];rw[e]at hv;exact hv
 |false::p,.pair a b,x,.pair s1 s2,cs,v,y,s,cv,hp,h,hv=>by
  obtain⟨N,Q,rfl,u,J⟩:=h;simp only[qJ]at hp;split at hp;rename_i R B D;cases hp;obtain⟨o,hle,q⟩:=dJ.put D u hv;have I:=dJ.len u;refine⟨⟨_,Q,?_,o,J⟩,by simp only[Ty.off,Ty.sz];omega,fun c hc=> ?_⟩;simp only[Ty.off];rw[agn (by omega),agB (by omega)];simp;simp only[Sh.bc,h_]at hc|-;rcases hc with hc|hc;rcases q c hc with h|h;exact .inl (.inl h);exact .inr h;exact .inl (.inr hc);cases hp
 |true::p,.pair a b,x,.pair s1 s2,cs,v,y,s,cv,hp,h,hv=>by
  obtain⟨N,Q,rfl,u,J⟩:=h;simp only[qJ]at hp;split at hp;rename_i R B D;cases hp;obtain⟨o,hle,q⟩:=dJ.put D J hv;have I:=dJ.len u;refine⟨⟨N,_,?_,u,o⟩,by simp only[Ty.off,Ty.sz];omega,fun c hc=> ?_⟩;simp only[Ty.off];rw[<-I,ahy,aeR (by omega),ag1,ae5 (by omega)];simp[ahO];simp only[Sh.bc,h_]at hc|-;rcases hc with hc|hc;exact .inl (.inl hc);rcases q c hc with h|h;exact .inl (.inr h);exact .inr h;cases hp
 |b::p,.int _,_,_,_,_,_,_,_,hp,_,_|b::p,.bool,_,_,_,_,_,_,_,hp,_,_|b::p,.str,_,_,_,_,_,_,_,hp,_,_|b::p,.sl _,_,_,_,_,_,_,_,hp,_,_=>by simp[qJ]at hp
 |false::p,.pair _ _,_,.leaf,_,_,_,_,_,hp,_,_|false::p,.pair _ _,_,.sl _,_,_,_,_,_,hp,_,_=>by simp[qJ]at hp
 |true::p,.pair _ _,_,.leaf,_,_,_,_,_,hp,_,_|true::p,.pair _ _,_,.sl _,_,_,_,_,_,hp,_,_=>by simp[qJ]at hp
theorem Kp:∀(τ:Ty) (m:M),∀c∈(sR τ m).bc,c∈m.bc
 | .int _,_,c,h| .bool,_,c,h| .str,_,c,h=>by simp[sR,Sh.bc]at h
 | .sl _,_,c,h=>h
 | .pair a b,m,c,h=>by
   simp only[sR,Sh.bc,h_]at h;rcases h with h|h;exact Kp a m c h;exact Kp b m c h
theorem dJ.VQ:∀ {τ:Ty} {x:τ.den} {cs:List Value} {B:List Nat} {hs:List Nat},bP w τ x cs B->(∀b∈B,G.col b∈hs)->hs≠ []->dJ w G τ x (sR τ (.sha hs)) cs
 | .int _,_,_,_,_,h,_,_=>h.1
 | .bool,_,_,_,_,h,_,_=>h.1
 | .str,_,_,_,_,h,_,_=>h.1
 | .sl e,l,cs,B,hs,h,hb,hn=>by obtain⟨v,rfl,q⟩:=h;exact⟨v,rfl,⟨B,q,hb⟩,fun e=>absurd e hn⟩
 | .pair a b,p,cs,B,hs,h,hb,hn=>by
   obtain⟨u,y,B1,B2,rfl,rfl,z,D⟩:=h;exact⟨u,y,rfl,dJ.VQ z (fun b o=>hb b (by simp[o])) hn,dJ.VQ D (fun b o=>hb b (by simp[o])) hn⟩
theorem dJ.zero:∀(τ:Ty),dJ w G τ τ.aa (sR τ (.sha [])) τ.zero
 | .int _=>rfl
 | .bool=>rfl
 | .str=>rfl
 | .sl _=>⟨_,rfl,⟨[],.inl ⟨⟨none,rfl⟩,rfl,rfl⟩,by simp⟩,fun _=>rfl⟩
 | .pair a b=>⟨_,_,rfl,dJ.zero a,dJ.zero b⟩
theorem gq.rep{e:Ty}{l:List e.den}{v:Value}{m:M}(h:gq w G e l v m)(z:m≠ .dead):
 ∃B,me w e.sz (bP w e) l v B/\∀b∈B,G.col b∈m.bc:=by
 cases m with
 |row t I nd=>
  obtain⟨_,_,B,u,hc⟩:=h;refine⟨B,u,fun b q=> ?_⟩;cases B with
  |nil=>cases q
  |cons x J=>
   obtain⟨D,_,H,_⟩:=hc x J rfl;rcases B_.1 q with rfl|q;simp[M.bc,D];simp[M.bc,H b q]
 |sha I=>exact h.1
 |nst b E i o p fr=>obtain⟨⟨B,u,hc⟩,_⟩:=h;exact⟨B,u,fun x y=>by simp[M.bc,hc x y]⟩
 |dead=>exact absurd rfl z
theorem dJ.rep:∀ {τ:Ty} {x:τ.den} {sh:Sh} {cs:List Value},dJ w G τ x sh cs->sh.live=true->∃B,bP w τ x cs B/\∀b∈B,G.col b∈sh.bc
 | .int _,_,.leaf,_,h,_=>⟨[],⟨h,rfl⟩,by simp⟩
 | .bool,_,.leaf,_,h,_=>⟨[],⟨h,rfl⟩,by simp⟩
 | .str,_,.leaf,_,h,_=>⟨[],⟨h,rfl⟩,by simp⟩
 | .sl e,l,.sl m,cs,h,hl=>by
   obtain⟨v,rfl,D⟩:=h;obtain⟨B,H,hc⟩:=D.rep (by rintro rfl;simp[Sh.live]at hl);exact⟨B,⟨v,rfl,H⟩,hc⟩
 | .pair a b,p,.pair s1 s2,cs,h,hl=>by
   obtain⟨I,J,rfl,K,L⟩:=h;simp only[Sh.live,ac7]at hl;obtain⟨y,N,q⟩:=dJ.rep K hl.1;obtain⟨z,Q,u⟩:=dJ.rep L hl.2;refine⟨y++z,⟨I,J,y,z,rfl,rfl,N,Q⟩,fun b o=> ?_⟩;simp only[Sh.bc,h_];rcases h_.1 o with o|o;exact .inl (q b o);exact .inr (u b o)
 | .int _,_,.sl _,_,h,_| .int _,_,.pair _ _,_,h,_| .bool,_,.sl _,_,h,_| .bool,_,.pair _ _,_,h,_
 | .str,_,.sl _,_,h,_| .str,_,.pair _ _,_,h,_| .sl _,_,.leaf,_,h,_| .sl _,_,.pair _ _,_,h,_
 | .pair _ _,_,.leaf,_,h,_| .pair _ _,_,.sl _,_,h,_=>h.elim
theorem RV:∀ {τ:Ty} {cs r:List Value} {x:τ.den},decode τ cs=some (x,r)->∃c,cs=c++r/\dJ w G τ x (sR τ (.sha [])) c
 | .int k,cs,r,x,h=>by
   match cs,h with
   | .int k' n::r',h=>
     simp only[decode]at h;split at h;rename_i e;simp only[aaB,aff]at h;obtain⟨rfl,rfl⟩:=h;subst e;exact⟨[_],rfl,rfl⟩;cases h
 | .bool,cs,r,x,h=>by
   match cs,h with
   | .bool b::r',h=>simp only[decode,aaB,aff]at h;obtain⟨rfl,rfl⟩:=h;exact⟨[_],rfl,rfl⟩
 | .str,cs,r,x,h=>by
   match cs,h with
   | .string b::r',h=>simp only[decode,aaB,aff]at h;obtain⟨rfl,rfl⟩:=h;exact⟨[_],rfl,rfl⟩
 | .sl e,cs,r,x,h=>by
   match cs,h with
   | .slice none 0 0::r',h=>simp only[decode,aaB,aff]at h;obtain⟨rfl,rfl⟩:=h;exact⟨[_],rfl,_,rfl,⟨[],.inl ⟨⟨none,rfl⟩,rfl,rfl⟩,by simp⟩,fun _=>rfl⟩
 | .pair a b,cs,r,x,h=>by
   simp only[decode]at h;split at h;rename_i x1 r1 j;split at h;rename_i y1 r2 l;simp only[aaB,aff]at h;obtain⟨rfl,rfl⟩:=h;obtain⟨d,rfl,m⟩:=RV j;obtain⟨i,rfl,o⟩:=RV l;exact⟨d++i,by simp,d,i,rfl,m,o⟩;cases h;cases h
def agJ{τ:Ty}{v:Value}{r:TV}(h:U6 τ v=some r):gQ w G (.d r) v/\r.sh=sR r.τ (.sha [])/\r.τ=τ:=by
 unfold U6 at h;split at h;rename_i a b cs;split at h;rename_i x i;cases h;obtain⟨c,hc,e⟩:=RV (w:=w) (G:=G) i;refine⟨⟨c,?_,e⟩,rfl,rfl⟩;simp only[agz]at hc;simp[kE,<-hc];cases h;cases h;rename_i hnp;split at h;rename_i x i;cases h;obtain⟨c,hc,e⟩:=RV (w:=w) (G:=G) i;refine⟨⟨c,?_,e⟩,rfl,rfl⟩;simp only[agz]at hc;subst hc;cases τ with
 |pair a b=>
  exfalso;have:=e.len;simp only[List.length_singleton,Ty.sz]at this;have h1:=a.JX;have h2:=b.JX;omega
 |_=>rfl
 cases h
end
def ai2(P:Program)(t:TypeId)(τ:Ty):Prop:=
 ∀(w:World) (op:BinOp) (x y:Operand) (a b:τ.den) (c1 c:List Value),(op= .eql\/op= .neq)->bP w τ a c1 []->bP w τ b c []->
  (do eqGuard op t x y (kE τ c1) (kE τ c);binOp op t (kE τ c1) (kE τ c)).run P w= .ok (.bool (if op= .eql then eqv τ a b else !eqv τ a b)) w
structure CxTy(P:Program)(C:Cx):Prop where
 tt:∀t i,C.tt t=some i->ZX P t i
 eq:∀t i,C.tt t=some i->i.τ.iu=true->i.τ.flat=true->ai2 P t i.τ
 fs:∀t i,C.tt t=some i->i.τ.iu=false->i.fs=[]
 u8:∀t i,C.tt t=some i->i.τ= .sl (.int .u8)->P.underlying i.el=some (.int .u8)
def dH(U:Nat->Prop)(G:Gh)(v:SV):Prop:=
 (∀c∈v.sc,0<c/\U c/\G.bx c=false)/\(∀c∈v.bt,0<c/\U c/\G.bx c=true)/\(∀c∈v.rt,0<c/\U c/\G.bx c=false)
def RI(ops:List Oper)(E:Env)(tmps:Array Value):Prop:=
 ∀s j w act v,E.s.getD s .no= .g j w act v->(act=true↔yielded ops.toArray tmps j=some w)
def Gd(ops:List Oper)(tmps:Array Value)(G:Option (Nat×Bool)):Prop:=∀j w,G=some (j,w)->yielded ops.toArray tmps j=some w
def Yields(w0:World)(c0:C0)(U:Nat->Prop)(E:Env)(a:Act)(r:Result Next)(sv:SV):Prop:=
 ∃mv w' G',r= .ok (.value mv) w'/\Inv w0 c0 U E a w' G'/\gQ w' G' sv mv/\dH U G' sv/\(∀t u,sv= .box t u->∀s b,E.s.getD s .no≠ .box t b)
section
variable{P:Program}{C:Cx}{w0:World}{c0:C0}{U:Nat->Prop}{E:Env}{a:Act}{w:World}{G:Gh}{ops:List Oper}{g:Option (Nat×Bool)}
theorem Inv.Kt(h:Inv w0 c0 U E a w G)(s:Nat):dH U G (E.s.getD s .no):=⟨h.sc s,h.bt s,h.rt s⟩
theorem dH.nil{v:TV}(h:v.sh.bc=[]):dH U G (.d v):=⟨by simp[SV.sc,h],by simp[SV.bt],by simp[SV.rt]⟩
theorem dH.d{v:TV}(h:∀c∈v.sh.bc,0<c/\U c/\G.bx c=false):dH U G (.d v):=⟨h,by simp[SV.bt],by simp[SV.rt]⟩
def akz{s:SV}{v:Value}(d:gQ w G s v)(i:∀j w' act u,s= .g j w' act u->(act=true↔yielded ops.toArray a.tmps j=some w'))(k:Gd ops a.tmps g){sv:SV}(h:RD g s=some sv):
 gQ w G sv v/\(∀c∈sv.sc,c∈s.sc)/\(∀c∈sv.bt,c∈s.bt)/\(∀c∈sv.rt,c∈s.rt):=by
 cases s with
 |g j w' act u=>
  simp only[RD]at h;split at h;rename_i e;cases h;have b:act=true:=(i j w' act sv rfl).2 (k j w' e);subst b;exact⟨(d.1 rfl).2,fun c hc=>by simpa[SV.sc]using hc,fun c hc=>by simpa[SV.bt]using hc,fun c hc=>by simpa[SV.rt]using hc⟩;cases h
 |_=>simp only[RD,aaB]at h;subst h;exact⟨d,fun c hc=>hc,fun c hc=>hc,fun c hc=>hc⟩
theorem RQ:∀ {sv:SV} {v:Value},gQ w G sv v->gQ w G (fJ sv) v
 | .box t u,v,h=>by obtain⟨i,c,el,b,k,l,h4,h5,h6⟩:=h;exact⟨i,k,l.trans b,b⟩
 | .g j w' act u,v,h=>⟨fun e=>⟨by
  have:=(h.1 e).1;cases u<;>first|rfl|(simp[SV.mq]at this),RQ (h.1 e).2⟩,h.2⟩
 | .no,_,h| .d _,_,h| .ptr ..,_,h| .ept ..,_,h| .rdp ..,_,h| .tup _,_,h=>h
theorem aaV:∀sv:SV,(∀c∈(fJ sv).sc,c∈sv.sc)/\(∀c∈(fJ sv).bt,c∈sv.bt)/\(∀c∈(fJ sv).rt,c∈sv.rt)
 | .box t u=>⟨by simp[fJ,SV.sc],by simp[fJ,SV.bt],by simp[fJ,SV.rt]⟩
 | .g j w' true u=>by
   obtain⟨b,e,i⟩:=aaV u;exact⟨fun c hc=>by simp only[fJ,SV.sc,if_true]at hc|-;exact b c hc,fun c hc=>by simp only[fJ,SV.bt,if_true]at hc|-;exact e c hc,fun c hc=>by simp only[fJ,SV.rt,if_true]at hc|-;exact i c hc⟩
 | .g j w' false u=>⟨fun c hc=>by simp[fJ,SV.sc]at hc,fun c hc=>by simp[fJ,SV.bt]at hc,fun c hc=>by simp[fJ,SV.rt]at hc⟩
 | .no| .d _| .ptr ..| .ept ..| .rdp ..| .tup _=>⟨fun _ h=>h,fun _ h=>h,fun _ h=>h⟩
def WO:∀sv t u,fJ sv≠ .box t u
 | .box _ _,_,_,h| .g _ _ _ _,_,_,h| .no,_,_,h| .d _,_,_,h| .ptr ..,_,_,h| .ept ..,_,_,h| .rdp ..,_,_,h| .tup _,_,_,h=>by simp[fJ]at h
theorem aeY(j:Inv w0 c0 U E a w G){t:TypeId}{x:Operand}{sv:SV}(h:sO C E.rd t x=some sv):gQ w G sv (a.eval x)/\dH U G sv:=by
 cases x with
 |tmp s=>
  simp only[sO,aaB]at h;subst h;have b:=j.Kt s;obtain⟨e,i,k⟩:=aaV (E.s.getD s .no);exact⟨RQ (j.slots s),fun c hc=>b.1 c (e c hc),fun c hc=>b.2.1 c (i c hc),fun c hc=>b.2.2 c (k c hc)⟩
 |const v=>
  simp only[sO]at h;split at h;rw[C_]at h;obtain⟨r,l,rfl⟩:=h;obtain⟨e,i,k⟩:=agJ (w:=w) (G:=G) l;refine⟨e,dH.d fun c hc=> ?_⟩;rw[i]at hc;have:=Kp _ _ c hc;simp[M.bc]at this;cases h
 |global g=>simp[sO]at h
 |func f=>simp[sO]at h
def ahu(k:RI ops E a.tmps){t:TypeId}{x:Operand}{s:SV}(h:sO C E.rd t x=some s):
 ∀j w' act u,s= .g j w' act u->(act=true↔yielded ops.toArray a.tmps j=some w'):=by
 intro j w' act u e;cases x with
 |tmp n=>
  simp only[sO,aaB]at h;have b:fJ (E.s.getD n .no)= .g j w' act u:=h.trans e;cases d:E.s.getD n .no with
  |g l i c m=>rw[d]at b;simp only[fJ,SV.g.injEq]at b;obtain⟨rfl,rfl,rfl,_⟩:=b;exact k n l i c m d
  |_=>rw[d]at b;simp[fJ]at b
 |const v=>
  simp only[sO]at h;split at h;rw[C_]at h;obtain⟨r,hr,rfl⟩:=h;cases e;cases h
 |global g=>simp[sO]at h
 |func f=>simp[sO]at h
def rb(e:Inv w0 c0 U E a w G)(i:RI ops E a.tmps)(j:Gd ops a.tmps g){t:TypeId}{x:Operand}{sv:SV}(h:arg C E.rd g t x=some sv):
 gQ w G sv (a.eval x)/\dH U G sv:=by
 simp only[arg,ahG]at h;obtain⟨s,d,k⟩:=h;obtain⟨l,b⟩:=aeY e d;obtain⟨m,n,o,h6⟩:=akz l (ahu i d) j k;exact⟨m,fun c hc=>b.1 c (n c hc),fun c hc=>b.2.1 c (o c hc),fun c hc=>b.2.2 c (h6 c hc)⟩
def Ag(e:Inv w0 c0 U E a w G)(i:RI ops E a.tmps)(j:Gd ops a.tmps g){t:TypeId}{x:Operand}{v:TV}(h:lr C E.rd g t x=some v):
 (∃cs,a.eval x=kE v.τ cs/\dJ w G v.τ v.x v.sh cs)/\(∀c∈v.sh.bc,0<c/\U c/\G.bx c=false)/\v.sh.live=true:=by
 simp only[lr]at h;split at h;rename_i u b;split at h;rename_i d;cases h;obtain⟨k,l⟩:=rb e i j b;exact⟨k,l.1,d⟩;cases h;cases h
/-scalars-/
def nY(d:Inv w0 c0 U E a w G)(e:RI ops E a.tmps)(i:Gd ops a.tmps g){t:TypeId}{x:Operand}{k:IntKind}{n:Int}{sh:Sh}
 (h:lr C E.rd g t x=some ⟨.int k,n,sh⟩):a.eval x= .int k n:=by
 obtain⟨⟨j,l,c⟩,_⟩:=Ag d e i h;cases sh with
 |leaf=>rw[l,show j=_ from c];rfl
 |sl m=>exact c.elim
 |pair a b=>exact c.elim
def U5(d:Inv w0 c0 U E a w G)(e:RI ops E a.tmps)(i:Gd ops a.tmps g){t:TypeId}{x:Operand}{b:Bool}{sh:Sh}
 (h:lr C E.rd g t x=some ⟨.bool,b,sh⟩):a.eval x= .bool b:=by
 obtain⟨⟨j,k,c⟩,_⟩:=Ag d e i h;cases sh with
 |leaf=>rw[k,show j=_ from c];rfl
 |sl m=>exact c.elim
 |pair a b=>exact c.elim
def JE(d:Inv w0 c0 U E a w G)(e:RI ops E a.tmps)(i:Gd ops a.tmps g){t:TypeId}{x:Operand}{s:ByteArray}{sh:Sh}
 (h:lr C E.rd g t x=some ⟨.str,s,sh⟩):a.eval x= .string s:=by
 obtain⟨⟨j,k,c⟩,_⟩:=Ag d e i h;cases sh with
 |leaf=>rw[k,show j=_ from c];rfl
 |sl m=>exact c.elim
 |pair a b=>exact c.elim
def Ai(i:Inv w0 c0 U E a w G)(j:RI ops E a.tmps)(k:Gd ops a.tmps g){t:TypeId}{x:Operand}{e:Ty}{l:List e.den}{sh:Sh}
 (h:lr C E.rd g t x=some ⟨.sl e,l,sh⟩):∃m,sh= .sl m/\gq w G e l (a.eval x) m/\m≠ .dead/\(∀c∈m.bc,0<c/\U c/\G.bx c=false):=by
 obtain⟨⟨cs,n,d⟩,o,p⟩:=Ag i j k h;cases sh with
 |leaf=>exact d.elim
 |sl m=>
  obtain⟨v,rfl,q⟩:=d;exact⟨m,rfl,by rw[n];exact q,by rintro rfl;simp[Sh.live]at p,o⟩
 |pair a b=>exact d.elim
def kB(b:Inv w0 c0 U E a w G){r:Result Next}{sv:SV}{mv:Value}(c:r= .ok (.value mv) w)(hs:gQ w G sv mv)(d:dH U G sv)
 (h:∀t u,sv≠ .box t u):Yields w0 c0 U E a r sv:=⟨mv,w,G,c,b,hs,d,fun t u e=>absurd e (h t u)⟩
def ok_int(k:IntKind)(n:Int):gQ w G (vI k n) (.int k n):=⟨_,rfl,rfl⟩
def ajT(b:Bool):gQ w G (vB b) (.bool b):=⟨_,rfl,rfl⟩
def akl(s:ByteArray):gQ w G (vS s) (.string s):=⟨_,rfl,rfl⟩
def ab4(k:IntKind)(n:Int):dH U G (vI k n):=dH.nil rfl
def agF(b:Bool):dH U G (vB b):=dH.nil rfl
def ah6(s:ByteArray):dH U G (vS s):=dH.nil rfl
def nv(b:Inv w0 c0 U E a w G){r:Result Next}{k:IntKind}{n:Int}(c:r= .ok (.value (.int k n)) w):Yields w0 c0 U E a r (vI k n):=
 kB b c (ok_int k n) (ab4 k n) (by rintro t u ⟨⟩)
def ma(c:Inv w0 c0 U E a w G){r:Result Next}{b:Bool}(d:r= .ok (.value (.bool b)) w):Yields w0 c0 U E a r (vB b):=
 kB c d (ajT b) (agF b) (by rintro t u ⟨⟩)
def KI(b:Inv w0 c0 U E a w G){r:Result Next}{s:ByteArray}(c:r= .ok (.value (.string s)) w):Yields w0 c0 U E a r (vS s):=
 kB b c (akl s) (ah6 s) (by rintro t u ⟨⟩)
def D6(w0:World)(c0:C0)(U:Nat->Prop)(E:Env)(a:Act)(r:Result Next):Ef->Prop
 | .val v=>Yields w0 c0 U E a r v
 | .chk c v=>c=true->Yields w0 c0 U E a r v
 |_=>False
/-move,assign-/
def afl:∀ {sv:SV} {j w' act u},fJ sv= .g j w' act u->∃b,sv= .g j w' act b/\u=fJ b
 | .g _ _ _ v,j,w',act,u,h=>by simp only[fJ,SV.g.injEq]at h;obtain⟨rfl,rfl,rfl,rfl⟩:=h;exact⟨v,rfl,rfl⟩
 | .box _ _,_,_,_,_,h| .no,_,_,_,_,h| .d _,_,_,_,_,h| .ptr ..,_,_,_,_,h| .ept ..,_,_,_,_,h| .rdp ..,_,_,_,_,h| .tup _,_,_,_,_,h=>by simp[fJ]at h
def aht{t:TypeId}{x:Operand}{sv:SV}(h:arg C E.rd g t x=some sv):∀b u,sv≠ .box b u:=by
 intro b u e;subst e;simp only[arg,ahG]at h;obtain⟨s,d,i⟩:=h;cases x with
 |tmp n=>
  simp only[sO,aaB]at d;cases c:s with
  |g j w' act v=>
   obtain⟨u',_,rfl⟩:=afl (d.trans c);rw[c]at i;simp only[RD]at i;split at i;simp only[aaB]at i;exact WO _ b u i;cases i
  |_=>
   rw[c]at i;simp only[RD,aaB,reduceCtorEq]at i
   try (rw[<-d]at c;exact WO _ b u (c.trans i))
 |const v=>
  simp only[sO]at d;split at d;rw[C_]at d;obtain⟨r,hr,rfl⟩:=d;simp[RD]at i;cases d
 |global g=>simp[sO]at d
 |func f=>simp[sO]at d
def aeS(b:Inv w0 c0 U E a w G)(c:RI ops E a.tmps)(d:Gd ops a.tmps g){t:TypeId}{x:Operand}{sv:SV}(h:arg C E.rd g t x=some sv)
 {r:Result Next} (e:r= .ok (.value (a.eval x)) w):Yields w0 c0 U E a r sv:=
 kB b e (rb b c d h).1 (rb b c d h).2 (aht h)
def ajN(c:Inv w0 c0 U E a w G){op:BinOp}{k k':IntKind}{m n:Int}{t:TypeId}{x y:Operand}{e:Ef}(d:k=k'\/op= .shl\/op= .shr)
 (i:a.eval x= .int k m) (j:a.eval y= .int k' n) (h:aiY op k m n=some e):
 D6 w0 c0 U E a ((do pure (.value (<-(do eqGuard op t x y (a.eval x) (a.eval y);binOp op t (a.eval x) (a.eval y)))):Sem Next).run P w) e:=by
 rw[i,j];have b:∀v,eqGuard op t x y (.int k m) v=pure ():=fun v=>eqGuard_at_int ..;cases op<;>simp only[aiY,aaB,reduceCtorEq]at h<;>(try cases h)<;>simp only[D6]
 case add=>
  obtain rfl:k=k':=(by simpa using d)
  exact nv c (by simp[b,binOp,Op.intArith])
 case sub=>
  obtain rfl:k=k':=(by simpa using d)
  exact nv c (by simp[b,binOp,Op.intArith])
 case mul=>
  obtain rfl:k=k':=(by simpa using d)
  exact nv c (by simp[b,binOp,Op.intArith])
 case quo=>
  obtain rfl:k=k':=(by simpa using d)
  intro hc;have hc:=e_ hc;exact nv c (by simp[b,binOp,Op.intDiv,hc])
 case rem=>
  obtain rfl:k=k':=(by simpa using d)
  intro hc;have hc:=e_ hc;exact nv c (by simp[b,binOp,Op.intDiv,hc])
 case and=>
  obtain rfl:k=k':=(by simpa using d)
  exact nv c (by simp[b,binOp,Op.intBits,bits])
 case or=>
  obtain rfl:k=k':=(by simpa using d)
  exact nv c (by simp[b,binOp,Op.intBits,bits])
 case xor=>
  obtain rfl:k=k':=(by simpa using d)
  exact nv c (by simp[b,binOp,Op.intBits,bits])
 case shl=>intro hc;have hc:=e_ hc;exact nv c (by simp[b,binOp,Op.shift,Int.not_lt.2 hc])
 case shr=>intro hc;have hc:=e_ hc;exact nv c (by simp[b,binOp,Op.shift,Int.not_lt.2 hc])
 case eql=>
  obtain rfl:k=k':=(by simpa using d)
  exact ma c (by simp[b,binOp,Op.intCmp])
 case neq=>
  obtain rfl:k=k':=(by simpa using d)
  exact ma c (by simp[b,binOp,Op.intCmp])
 case lss=>
  obtain rfl:k=k':=(by simpa using d)
  exact ma c (by simp[b,binOp,Op.intCmp])
 case leq=>
  obtain rfl:k=k':=(by simpa using d)
  exact ma c (by simp[b,binOp,Op.intCmp])
 case gtr=>
  obtain rfl:k=k':=(by simpa using d)
  exact ma c (by simp[b,binOp,Op.intCmp])
 case geq=>
  obtain rfl:k=k':=(by simpa using d)
  exact ma c (by simp[b,binOp,Op.intCmp])
def ajD(c:Inv w0 c0 U E a w G){op:BinOp}{m n:ByteArray}{t:TypeId}{x y:Operand}{d:Ef}
 (e:a.eval x= .string m) (i:a.eval y= .string n) (h:ahY op m n=some d):
 D6 w0 c0 U E a ((do pure (.value (<-(do eqGuard op t x y (a.eval x) (a.eval y);binOp op t (a.eval x) (a.eval y)))):Sem Next).run P w) d:=by
 rw[e,i];have b:∀v,eqGuard op t x y (.string m) v=pure ():=fun v=>eqGuard_at_string ..;cases op<;>simp only[ahY,aaB,reduceCtorEq]at h<;>(try cases h)<;>simp only[D6]
 case add=>
  intro hc;have hc:=e_ hc;have j:¬(9223372036854775807<(m.size:Int)+(n.size:Int)):=by omega
  exact KI c (by simp[b,binOp,Op.stringOp,j])
 case eql=>exact ma c (by simp[b,binOp,Op.stringOp])
 case neq=>exact ma c (by simp[b,binOp,Op.stringOp])
 case lss=>exact ma c (by simp[b,binOp,Op.stringOp])
 case leq=>exact ma c (by simp[b,binOp,Op.stringOp])
 case gtr=>exact ma c (by simp[b,binOp,Op.stringOp])
 case geq=>exact ma c (by simp[b,binOp,Op.stringOp])
theorem WR:∀(l:List SV) (t k s:Nat) (v:TV),mX l t k=some (s,v)->k<=s/\l.getD (s-k) .no= .box t v
 | [],_,_,_,_,h=>by simp[mX]at h
 |x::l,t,k,s,v,h=>by
  have step:mX l t (k+1)=some (s,v)->k<=s/\(x::l).getD (s-k) .no= .box t v:=by
   intro h;obtain⟨h1,b⟩:=WR l t (k+1) s v h;refine⟨by omega,?_⟩;rw[show s-k=(s-(k+1))+1 by omega];simpa using b
  cases x with
  |box u y=>
   simp only[mX]at h;split at h;rename_i e;simp only[aaB,aff]at h;obtain⟨rfl,rfl⟩:=h;subst e;exact⟨afc _,by simp⟩;exact step h
  |_=>exact step h
theorem Ui:∀ {τ:Ty} {x:τ.den} {sh:Sh} {cs:List Value} {t:Nat} {e:Ty} {l:List e.den} {hs:List Nat} {d:Bool},
 dJ w G τ x sh cs->xc t e τ x sh=some (l,hs,d)->∃v,gq w G e l v (.row t hs d)/\(∀c∈hs,c∈sh.bc)/\t∈sh.bc
 | .sl e',l',.sl (.row u hs' nd'),cs,t,e,l,hs,d,hv,h=>by
   obtain⟨v,rfl,i⟩:=hv;simp only[xc]at h;split at h;rename_i n;split at h;rename_i o;subst n o;simp only[cast_eq,aaB,aff]at h;obtain⟨rfl,rfl,rfl⟩:=h;exact⟨v,i,fun c hc=>by simp[Sh.bc,M.bc,hc],by simp[Sh.bc,M.bc]⟩;cases h;cases h
 | .pair a b,p,.pair s1 s2,cs,t,e,l,hs,d,hv,h=>by
   obtain⟨c1,c2,rfl,q,s⟩:=hv;simp only[xc]at h;split at h;rename_i r i;cases h;obtain⟨v,j,k,m⟩:=Ui q i;exact⟨v,j,fun c hc=>by simp[Sh.bc,k c hc],by simp[Sh.bc,m]⟩;obtain⟨v,j,k,m⟩:=Ui s h;exact⟨v,j,fun c hc=>by simp[Sh.bc,k c hc],by simp[Sh.bc,m]⟩
 | .sl _,_,.leaf,_,_,_,_,_,_,_,h| .sl _,_,.pair _ _,_,_,_,_,_,_,_,h| .sl _,_,.sl (.sha _),_,_,_,_,_,_,_,h| .sl _,_,.sl .dead,_,_,_,_,_,_,_,h
 | .int _,_,_,_,_,_,_,_,_,_,h| .bool,_,_,_,_,_,_,_,_,_,h| .str,_,_,_,_,_,_,_,_,_,h
 | .pair _ _,_,.leaf,_,_,_,_,_,_,_,h| .pair _ _,_,.sl _,_,_,_,_,_,_,_,h=>by simp[xc]at h
theorem YA:∀(L:List SV) {t:Nat} {e:Ty} {l:List e.den} {hs:List Nat} {i:Bool},(∀s∈L,∃mv,gQ w G s mv)->od t e L=some (l,hs,i)->
 ∃s∈L,(∃v,gq w G e l v (.row t hs i))/\(∀c∈hs,c∈s.sc)/\t∈s.sc
 | [],_,_,_,_,_,_,h=>by simp[od]at h
 |x::L,t,e,l,hs,i,hL,h=>by
  have step:od t e L=some (l,hs,i)->∃s∈x::L,(∃v,gq w G e l v (.row t hs i))/\(∀c∈hs,c∈s.sc)/\t∈s.sc:=by
   intro h;obtain⟨s,q,y⟩:=YA L (fun s hs=>hL s (adm _ hs)) h;exact⟨s,adm _ q,y⟩
  obtain⟨mv,p⟩:=hL x (by simp);cases x with
  |d v=>
   simp only[od]at h;split at h;rename_i r j;cases h;obtain⟨cs,_,k⟩:=p;obtain⟨u,m,n,o⟩:=Ui k j;exact⟨.d v,by simp,⟨u,m⟩,n,o⟩;exact step h
  |box b v=>
   simp only[od]at h;split at h;rename_i r j;cases h;obtain⟨bk,c,el,_,_,_,_,_,k⟩:=p;obtain⟨u,m,n,o⟩:=Ui k j;exact⟨.box b v,by simp,⟨u,m⟩,n,o⟩;exact step h
  |_=>exact step h
theorem Inv.od(p:Inv w0 c0 U E a w G){t:Nat}{e:Ty}{l:List e.den}{hs:List Nat}{q:Bool}(h:E.rd.row t e=some (l,hs,q)):
 (∃v,gq w G e l v (.row t hs q))/\(∀c∈t::hs,0<c/\U c/\G.bx c=false):=by
 obtain⟨s,u,y,z,B⟩:=YA (w:=w) (G:=G) E.s (fun s hs=>by
  obtain⟨i,o,rfl⟩:=ahg.1 hs;exact⟨_,by have:=p.slots i;simpa[ahH,o]using this⟩) h
 obtain⟨i,o,rfl⟩:=ahg.1 u;refine⟨y,fun c hc=> ?_⟩;have:=p.sc i c;simp only[ahH,o,agQ,ahB]at this;rcases B_.1 hc with rfl|hc;exact this B;exact this (z c hc)
theorem Inv.box(q:Inv w0 c0 U E a w G){t s:Nat}{v:TV}(h:E.rd.box t=some (s,v)):
 E.s.getD s .no= .box t v/\∃o c el,G.hdr t= .pointer (some ⟨o,0,none⟩)/\4<=t/\G.col o=t/\w.heap[o]?=some (.cells c el (0,0))/\dJ w G v.τ v.x v.sh c.toList/\(∀c∈v.sh.bc,0<c/\U c/\G.bx c=false):=by
 obtain⟨_,p⟩:=WR E.s t 0 s v h;simp only[Nat.sub_zero]at p;have u:=q.slots s;have hc:=q.sc s;rw[p]at u hc;obtain⟨o,c,el,y,z,B,D,H,I⟩:=u;exact⟨p,o,c,el,B.trans y,z,D,H,I,hc⟩
theorem gq.elem{e:Ty}{l:List e.den}{v:Value}{t:Nat}{hs:List Nat}{z:Bool}(h:gq w G e l v (.row t hs z)){i:Nat}(hi:i<l.length):
 ∃b off cap c el q B,v= .slice (some ⟨b,off,none⟩) l.length cap/\w.heap[b]?=some (.cells c el q)/\off+cap*e.sz<=c.size/\l.length<=cap/\G.col b=t/\
  bP w e (l.getD i e.aa) ((c.toList.drop (off+i*e.sz)).take e.sz) B/\(∀x∈B,G.col x∈hs):=by
 obtain⟨_,_,B,D,hc⟩:=h;rcases D with⟨_,rfl,_⟩|⟨b,off,cap,c,el,q,H,I,o,J,u,rfl,K⟩;simp at hi;obtain⟨L,_,N,_⟩:=hc b H rfl;have p:l[i]?=some l[i]:=agQ hi;obtain⟨B1,Q,B2,rfl,y,_,_⟩:=cr.get (sz:=e.sz) (fun x c B h=>bP.len h) K p;refine⟨b,off,cap,c,el,q,Q,I,J,u,o,L,?_,fun x p=>N x (by simp[p])⟩;have hmul:(i+1)*e.sz<=l.length*e.sz:=aaZ _ hi;rw[sw,agZ]at hmul;rw[ahH,p,ahB];rw[agx,agT,ags,agP (by omega)]at y;exact y
theorem me.elem{e:Ty}{l:List e.den}{v:Value}{B:List Nat}(h:me w e.sz (bP w e) l v B){i:Nat}(hi:i<l.length):
 ∃b off cap c el q B',v= .slice (some ⟨b,off,none⟩) l.length cap/\w.heap[b]?=some (.cells c el q)/\off+cap*e.sz<=c.size/\l.length<=cap/\b∈B/\
  bP w e (l.getD i e.aa) ((c.toList.drop (off+i*e.sz)).take e.sz) B'/\(∀x∈B',x∈B):=by
 rcases h with⟨_,rfl,_⟩|⟨b,off,cap,c,el,q,Bs,z,o,D,u,rfl,H⟩;simp at hi;have p:l[i]?=some l[i]:=agQ hi;obtain⟨B1,I,B2,rfl,y,_,_⟩:=cr.get (sz:=e.sz) (fun x c B h=>bP.len h) H p;refine⟨b,off,cap,c,el,q,I,z,D,u,o,by simp,?_,fun x p=>by simp[p]⟩;have hmul:(i+1)*e.sz<=l.length*e.sz:=aaZ _ hi;rw[sw,agZ]at hmul;rw[ahH,p,ahB];rw[agx,agT,ags,agP (by omega)]at y;exact y
def aex{s:TypeId}{i:TI}(d:ZX P s i){j:Nat}(hj:j<i.fs.length)(b o:Nat):
 (Instr.fieldAt s (.pointer (some ⟨b,o,none⟩)) j).run P w= .ok (.pointer (some ⟨b,o+i.τ.off (jd i.fs.length j),none⟩)) w\/i.τ.iu=false:=by
 obtain⟨_,d⟩:=d;cases h:i.τ with
 |pair x y=>
  rw[h]at d;obtain⟨fields,l,hsz,m⟩:=d;left;have c:j<fields.size:=by omega
  obtain⟨n,h2,e,h3,p⟩:=m j fields[j] (aaY c);have k:e.sz≠0:=Nat.ne_of_gt e.JX;simp[Instr.fieldAt,run_underlying l,aaY c,Instr.sureAddr,fieldPlace,n7 p,k,n,Addr.add_lit]
 |_=>right;rfl
def aib{τ σ:Ty}{b:Bool}{p:List Bool}(h:τ.sub (b::p)=some σ):τ.iu=true:=by
 cases τ<;>simp[Ty.sub,Ty.iu]at h|-
def ajO{hs:List Nat}{v r:TV}{mv:Value}{p:List Bool}(h:gQ w G (.rdp hs v) mv)(e:pY v.τ v.x v.sh p=some r):
 ∃b o,mv= .pointer (some ⟨b,o,none⟩)/\gQ w G (.rdp hs r) (.pointer (some ⟨b,o+v.τ.off p,none⟩)):=by
 obtain⟨b,o,c,el,i,j,k,h3,l,m⟩:=h;obtain⟨d,g2,g3,_⟩:=dJ.sub e m;refine⟨b,o,j,b,o+v.τ.off p,c,el,i,rfl,k,by omega,l,?_⟩;rw[agx,agT,ags,agP (by omega)]at d;exact d
def aes(i:Inv w0 c0 U E a w G){t:Nat}(k:¬U t)(o:Obj)(v:Value)(x:Bool)(S:List Nat)(h:∀c∈S,0<c/\U c):
 RG S S w (w.alloc o) G (G.add w.heap.size t v x):=by
 refine⟨fun b d=> ?_,fun b d=> ?_,fun u j=> ?_⟩;exact heap_alloc_old w _ b (i.lt b (h _ d).1);have:=i.lt b (h _ d).1;simp[Gh.add,ahz this];have:u≠t:=fun e=>k (e▸(h u j).2);simp[Gh.add,this]
def ad6(b:Inv w0 c0 U E a w G){t:Nat}(c:¬U t)(s:Nat)(u:TV):E.s.getD s .no≠ .box t u:=by
 intro e;have:=b.bt s t (by rw[e];simp[SV.bt]);exact c this.2.1
def aaU(d:Inv w0 c0 U E a w G){t:Nat}(j:4<=t)(b:¬U t){v:TV}{cs:List Value}(l:dJ w G v.τ v.x v.sh cs)
 (hc:∀c∈v.sh.bc,0<c/\U c/\G.bx c=false) (el:TypeId) {r:Result Next}
 (m:r= .ok (.value (.pointer (some ⟨w.heap.size,0,none⟩))) (w.alloc (.cells cs.toArray el))):Yields w0 c0 (fun u=>U u\/u=t) E a r (.box t v):=by
 refine⟨_,_,G.add w.heap.size t (.pointer (some ⟨w.heap.size,0,none⟩)) true,m,d.alloc j b _ _ _ _,⟨w.heap.size,cs.toArray,el,rfl,j,by simp[Gh.add],by simp[Gh.add],heap_alloc_new w _,?_⟩,⟨?_,?_,?_⟩,?_⟩;exact dJ.agree (aes d b _ _ _ _ (fun c h=>⟨(hc c h).1,(hc c h).2.1⟩)) l;intro c h;have:=hc c h;have i:c≠t:=fun e=>b (e▸this.2.1);exact⟨this.1,.inl this.2.1,by simp[Gh.add,i,this.2.2]⟩;intro c h;simp only[SV.bt,afi]at h;subst h;exact⟨by omega,.inr rfl,by simp[Gh.add]⟩;intro c h;simp[SV.rt]at h;intro t' u e s k;cases e;exact ad6 d b s k
theorem Vk(p:Inv w0 c0 U E a w G){t:Nat}(y:4<=t)(z:¬U t){e:Ty}{l:List e.den}{cs:List Value}{B:List Nat}{hs:List Nat}{D:Bool}{n cap:Nat}(el:TypeId)
 (I:n=l.length) (F:cr (bP w e) l cs B) (k:n<=cap) (rest:List Value) (hsz:cap*e.sz<=cs.length+rest.length)
 (H:∀b∈B,0<G.col b) (q:∀b∈B,G.col b∈hs) (s:∀c∈hs,(0<c/\U c/\G.bx c=false)\/c=t) (v:D=true->B.Nodup)
 {r:Result Next} (J:r= .ok (.value (.slice (some ⟨w.heap.size,0,none⟩) n cap)) (w.alloc (.cells (cs++rest).toArray el))):
 Yields w0 c0 (fun u=>U u\/u=t) E a r (.d ⟨.sl e,l,.sl (.row t hs D)⟩):=by
 subst I;have hlen:=cr.len (sz:=e.sz) (fun x c B h=>bP.len h) F;refine⟨_,_,G.add w.heap.size t (.slice (some ⟨w.heap.size,0,none⟩) l.length cap) false,J,p.alloc y z _ _ _ _,⟨[_],rfl,_,rfl,y,by simp[Gh.add],w.heap.size::B,?_,?_⟩,dH.d fun c hc=> ?_,by rintro _ _ ⟨⟩⟩;refine .inr ⟨w.heap.size,0,cap,_,el,(0,0),B,rfl,k,heap_alloc_new w _,by simp;omega,rfl,?_⟩;simp only[ahN];rw[agn (by omega),aeR (by omega)];exact cr.mono (fun b=>b<w.heap.size) (fun x c B m j=>bP.mono (fun b o=>heap_alloc_old w _ b (m b o)) j) (fun b o=>p.lt b (H b o)) F;rintro b Bs ⟨⟩;have i:∀x∈B,x≠w.heap.size:=fun x j=>ahz (p.lt x (H x j));refine⟨by simp[Gh.add],fun h=>i _ h rfl,fun x j=> ?_,v⟩;simp only[Gh.add,a_ (i x j)];exact q x j;simp only[Sh.bc,M.bc,B_]at hc;rcases hc with rfl|hc;exact⟨by omega,.inr rfl,by simp[Gh.add]⟩;rcases s c hc with h|rfl;have i:c≠t:=fun e=>z (e▸h.2.1);exact⟨h.1,.inl h.2.1,by simp[Gh.add,i,h.2.2]⟩;exact⟨by omega,.inr rfl,by simp[Gh.add]⟩
end
def foldl_set(b:List Value):∀(off:Nat) (cs:Array Value) (k:Nat),off+k+b.length<=cs.size->
 ((b.zipIdx k).foldl (fun cs p=>cs.setIfInBounds (off+p.2) p.1) cs).toList=cs.toList.take (off+k)++b++cs.toList.drop (off+k+b.length):=by
 induction b with
 |nil=>intro off cs k h;simp
 |cons v r i=>
  intro off cs k h;simp only[ag8]at h;rw[List.zipIdx_cons,List.foldl_cons,i off _ (k+1) (by simp;omega)];have c:off+k<cs.toList.length:=by simp;omega
  simp only[ahw]
  have d:(cs.toList.set (off+k) v).drop (off+(k+1)+r.length)=cs.toList.drop (off+k+(r.length+1)):=by
   rw[ahR (by omega)];congr 1;omega
  have e:(cs.toList.set (off+k) v).take (off+(k+1))=cs.toList.take (off+k)++[v]:=by
   rw[<-ahO,ag9 (by simpa using c),ajm (afc _)];simp
  rw[d,e];simp
def US(v:Array Value)(off:Nat)(cs:Array Value)(h:off+v.size<=cs.size):
 (v.zipIdx.foldl (fun cs (p:Value×Nat)=>cs.setIfInBounds (off+p.2) p.1) cs).toList=cs.toList.take off++v.toList++cs.toList.drop (off+v.size):=by
 rw[<-Array.foldl_toList,Array.toList_zipIdx];simpa using foldl_set v.toList off cs 0 (by simpa using h)
section
variable{P:Program}{C:Cx}{w0:World}{c0:C0}{U:Nat->Prop}{E:Env}{a:Act}{w:World}{G:Gh}{ops:List Oper}{g:Option (Nat×Bool)}
theorem ZU:∀ {p:List Bool} {τ:Ty} {x:τ.den} {sh:Sh} {v:TV} {y:τ.den} {s:Sh},qJ τ x sh p v=some (y,s)->τ.sub p=some v.τ
 | [],τ,x,sh,v,y,s,h=>by
   have:rE v τ=some y:=by cases τ<;>(simp only[qJ]at h;split at h<;>simp_all)
   rw[mR this];cases τ<;>rfl
 |false::p,.pair a b,x,.pair s1 s2,v,y,s,h=>by
  simp only[qJ]at h;split at h;rename_i c;simp only[Ty.sub];exact ZU c;cases h
 |true::p,.pair a b,x,.pair s1 s2,v,y,s,h=>by
  simp only[qJ]at h;split at h;rename_i c;simp only[Ty.sub];exact ZU c;cases h
 |b::p,.int _,_,_,_,_,_,h|b::p,.bool,_,_,_,_,_,h|b::p,.str,_,_,_,_,_,h|b::p,.sl _,_,_,_,_,_,h=>by simp[qJ]at h
 |false::p,.pair _ _,_,.leaf,_,_,_,h|false::p,.pair _ _,_,.sl _,_,_,_,h=>by simp[qJ]at h
 |true::p,.pair _ _,_,.leaf,_,_,_,h|true::p,.pair _ _,_,.sl _,_,_,_,h=>by simp[qJ]at h
theorem abG{i:TI}{fields:Array Field}(K:Inv w0 c0 U E a w G)(L:RI ops E a.tmps)(N:Gd ops a.tmps g)
 (Q:∀(j:Nat) (f:Field),fields[j]?=some f->V9 P i.τ i.fs j f) (B:fields.size=i.fs.length) (place:Nat->Option (Nat×Nat))
 (l:∀(j:Nat) (f:Field) (σ:Ty),fields[j]?=some f->i.τ.sub (jd i.fs.length j)=some σ->place j=some (f.offset,σ.sz)):
 ∀(ps:List (Nat×Operand)) (x:i.τ.den) (sh:Sh) (cells:Array Value) (y:i.τ.den) (s:Sh),dJ w G i.τ x sh cells.toList->(∀c∈sh.bc,0<c/\U c/\G.bx c=false)->
  Mq C E.rd g i ps x sh=some (y,s)->
  ∃b,Instr.fill place cells (ps.map fun p=>(p.1,a.eval p.2))=some b/\dJ w G i.τ y s b.toList/\(∀c∈s.bc,0<c/\U c/\G.bx c=false)
 | [],x,sh,cells,y,s,hx,hc,h=>by
   simp only[Mq,aaB,aff]at h;obtain⟨rfl,rfl⟩:=h;exact⟨cells,rfl,hx,hc⟩
 |(j,o)::ps,x,sh,cells,y,s,hx,hc,h=>by
  simp only[Mq]at h;split at h;cases h;rename_i ft r;split at h;cases h;rename_i v W;split at h;rename_i I J t;obtain⟨⟨X,Y,d⟩,F,_⟩:=Ag K L N W;obtain⟨h1,h2,h3⟩:=dJ.put t hx d
  have R:j<fields.size:=by
   have:=(ahx.1 r).1;omega
  obtain⟨f1,f2,σ,f3,f4⟩:=Q j fields[j] (aaY R);have m:i.τ.sub (jd i.fs.length j)=some v.τ:=ZU t;have n:=l j fields[j] v.τ (aaY R) m;rw[f1]at n;simp only[List.map_cons,Y]
  have key:∀b,dJ w G i.τ I J b.toList->∃q,Instr.fill place b (ps.map fun p=>(p.1,a.eval p.2))=some q/\dJ w G i.τ y s q.toList/\(∀c∈s.bc,0<c/\U c/\G.bx c=false):=by
   intro b u;refine abG K L N Q B place l ps I J b y s u (fun c z=> ?_) h;rcases h3 c z with h|h;exact hc c h;exact F c h
  obtain⟨H,h2',_⟩:=dJ.put t hx d;have S:=dJ.len hx;have k:=KM (dJ.len d) (dJ.one d);have D:=Dy (dJ.len d) (dJ.one d);have e:=US (kE v.τ X).cells (i.τ.off (jd i.fs.length j)) cells (by rw[k];simp at S;omega);rw[D,k]at e;obtain⟨q,k1,k2,k3⟩:=key _ (by rw[e];exact H);refine⟨q,?_,k2,k3⟩;simp only[Instr.fill,n];rw[a_ (by simp[k];simp at S;omega)];exact k1;cases h
theorem M.xn{m:M}{ts:List Nat}(h:m.own=some ts):∀c∈ts,c∈m.bc:=by
 cases m with
 |row t q nd=>
  simp only[M.own]at h;split at h;simp only[aaB]at h;subst h;intro c hc;simp only[B_,ahI]at hc;rcases hc with rfl|hc;simp[M.bc];simp[M.bc,hc.1];cases h
 |sha q=>
  cases q with
  |nil=>simp only[M.own,aaB]at h;subst h;simp
  |cons x l=>simp[M.own]at h
 |nst b E i o p fr=>simp[M.own]at h
 |dead=>simp[M.own]at h
theorem M.AT{t:Nat}{hs:List Nat}{o:Bool}{ts:List Nat}(h:(M.row t hs o).own=some ts):o=true/\(∀c∈hs,4<=c)/\(∀c,c∈ts↔c=t\/c∈hs):=by
 simp only[M.own]at h;split at h;rename_i hc;simp only[ac7,agN,b_]at hc;simp only[aaB]at h;subst h;refine⟨hc.1,hc.2,fun c=> ?_⟩;simp only[B_,ahI,decide_not,agC,d_];by_cases e:c=t<;>simp[e];cases h
theorem gq.own{e:Ty}{l:List e.den}{v:Value}{m:M}{ts:List Nat}(h:gq w G e l v m)(q:m.own=some ts):
 ∃B,me w e.sz (bP w e) l v B/\B.Nodup/\∀b∈B,G.col b∈ts:=by
 cases m with
 |row t D nd=>
  obtain⟨I,h2,z⟩:=M.AT q;obtain⟨_,_,B,u,hc⟩:=h;cases B with
  |nil=>exact⟨[],u,by simp,by simp⟩
  |cons b H=>
   obtain⟨J,K,L,N⟩:=hc b H rfl;refine⟨b::H,u,List.nodup_cons.2 ⟨K,N I⟩,fun x y=> ?_⟩;rcases B_.1 y with rfl|y;exact(z _).2 (.inl J);exact(z _).2 (.inr (L x y))
 |sha D=>
  cases D with
  |nil=>
   obtain⟨⟨B,u,hc⟩,_⟩:=h;have:B=[]:=by cases B with|nil=>rfl|cons x l=>exact absurd (hc x (by simp)) (by simp)
   subst this;exact⟨[],u,by simp,by simp⟩
  |cons x l=>simp[M.own]at q
 |nst b E i o p fr=>simp[M.own]at q
 |dead=>simp[M.own]at q
theorem M.aay{m:M}{ts:List Nat}(h:m.Uw=some ts):(∃t hs q,m= .row t hs q/\(∀c∈hs,4<=c)/\∀c,c∈ts↔c=t\/c∈hs)\/(m= .sha []/\ts=[]):=by
 cases m with
 |row t hs q=>
  simp only[M.Uw]at h;split at h;rename_i hc;simp only[agN,b_]at hc;simp only[aaB]at h;subst h;refine .inl ⟨t,hs,q,rfl,hc,fun c=> ?_⟩;simp only[B_,ahI,decide_not,agC,d_];by_cases e:c=t<;>simp[e];cases h
 |sha hs=>
  cases hs with
  |nil=>simp only[M.Uw,aaB]at h;subst h;exact .inr ⟨rfl,rfl⟩
  |cons x l=>simp[M.Uw]at h
 |nst b E i o p fr=>simp[M.Uw]at h
 |dead=>simp[M.Uw]at h
theorem gq.nil{e:Ty}{l:List e.den}{v:Value}(h:gq w G e l v (.sha [])):v= .slice none 0 0/\∃B,me w e.sz (bP w e) l v B/\B=[]:=by
 obtain⟨⟨B,o,hc⟩,p⟩:=h;exact⟨p rfl,B,o,by cases B with|nil=>rfl|cons x l=>exact absurd (hc x (by simp)) (by simp)⟩
theorem Sh.xn:∀ {sh:Sh} {ts:List Nat},sh.own=some ts->∀c∈ts,c∈sh.bc
 | .leaf,ts,h,c,hc=>by simp only[Sh.own,aaB]at h;subst h;simp at hc
 | .sl m,ts,h,c,hc=>M.xn h c hc
 | .pair a b,ts,h,c,hc=>by
   simp only[Sh.own]at h;split at h;rename_i x y o p;split at h;simp only[aaB]at h;subst h;rcases h_.1 hc with hc|hc;simp[Sh.bc,Sh.xn o c hc];simp[Sh.bc,Sh.xn p c hc];cases h;cases h
theorem dJ.own:∀ {τ:Ty} {x:τ.den} {sh:Sh} {cs:List Value} {ts:List Nat},dJ w G τ x sh cs->sh.own=some ts->∃B,bP w τ x cs B/\B.Nodup/\∀b∈B,G.col b∈ts
 | .int _,_,.leaf,_,_,h,_=>⟨[],⟨h,rfl⟩,by simp,by simp⟩
 | .bool,_,.leaf,_,_,h,_=>⟨[],⟨h,rfl⟩,by simp,by simp⟩
 | .str,_,.leaf,_,_,h,_=>⟨[],⟨h,rfl⟩,by simp,by simp⟩
 | .sl e,l,.sl m,cs,ts,h,ho=>by
   obtain⟨v,rfl,L⟩:=h;obtain⟨B,N,Q,hc⟩:=L.own ho;exact⟨B,⟨v,rfl,N⟩,Q,hc⟩
 | .pair a b,p,.pair s1 s2,cs,ts,h,ho=>by
   obtain⟨R,S,rfl,W,X⟩:=h;simp only[Sh.own]at ho;split at ho;rename_i x y J K;split at ho;rename_i u;simp only[aaB]at ho;subst ho;obtain⟨z,Y,n1,D⟩:=dJ.own W J;obtain⟨H,r2,n2,I⟩:=dJ.own X K;refine⟨z++H,⟨R,S,z,H,rfl,rfl,Y,r2⟩,agV.2 ⟨n1,n2,?_⟩,fun b o=> ?_⟩;intro b o b' q e;subst e;simp only[agN,agC,agm,d_]at u;exact u _ (D b o) (I b q);rcases h_.1 o with o|o;exact aa0 _ (D b o);exact aeO _ (I b o);cases ho;cases ho
 | .int _,_,.sl _,_,_,h,_| .int _,_,.pair _ _,_,_,h,_| .bool,_,.sl _,_,_,h,_| .bool,_,.pair _ _,_,_,h,_
 | .str,_,.sl _,_,_,h,_| .str,_,.pair _ _,_,_,h,_| .sl _,_,.leaf,_,_,h,_| .sl _,_,.pair _ _,_,_,h,_
 | .pair _ _,_,.leaf,_,_,h,_| .pair _ _,_,.sl _,_,_,h,_=>h.elim
def Ss(w:World)(G:Gh)(e:Ty):List e.den->List Sh->List (List Value)->Prop
 | [],[],[]=>True
 |x::l,s::ss,c::cs=>dJ w G e x s c/\Ss w G e l ss cs
 |_,_,_=>False
theorem Ss.rep:∀ {e:Ty} {l:List e.den} {p:List Sh} {cs:List (List Value)},Ss w G e l p cs->(∀s∈p,s.live=true)->
 ∃B,cr (bP w e) l cs.flatten B/\∀b∈B,G.col b∈p.flatMap Sh.bc
 |e,[],[],[],_,_=>⟨[],⟨rfl,rfl⟩,by simp⟩
 |e,x::l,s::p,c::cs,h,hl=>by
  obtain⟨q,y,z⟩:=h.1.rep (hl s (by simp));obtain⟨u,D,H⟩:=Ss.rep h.2 (fun s v=>hl s (by simp[v]));refine⟨q++u,⟨c,_,q,u,by simp,rfl,y,D⟩,fun b o=> ?_⟩;rw[ako];rcases h_.1 o with o|o;exact aa0 _ (z b o);exact aeO _ (H b o)
 |e,[],_::_,_,h,_|e,[],[],_::_,h,_|e,_::_,[],_,h,_|e,_::_,_::_,[],h,_=>h.elim
theorem Ss.own:∀ {e:Ty} {l:List e.den} {q:List Sh} {cs:List (List Value)} {ts:List Nat},Ss w G e l q cs->QD q=some ts->
 ∃B,cr (bP w e) l cs.flatten B/\B.Nodup/\∀b∈B,G.col b∈ts
 |e,[],[],[],ts,_,_=>⟨[],⟨rfl,rfl⟩,by simp,by simp⟩
 |e,x::l,s::q,c::cs,ts,h,ho=>by
  simp only[QD]at ho;split at ho;rename_i t1 t2 H I;split at ho;rename_i u;simp only[aaB]at ho;subst ho;obtain⟨v,J,K,y⟩:=h.1.own H;obtain⟨z,L,N,D⟩:=Ss.own h.2 I;refine⟨v++z,⟨c,_,v,z,by simp,rfl,J,L⟩,agV.2 ⟨K,N,?_⟩,fun b o=> ?_⟩;intro b o b' p e;subst e;simp only[agN,agC,agm,d_]at u;exact u _ (y b o) (D b p);rcases h_.1 o with o|o;exact aa0 _ (y b o);exact aeO _ (D b o);cases ho;cases ho
 |e,[],_::_,_,_,h,_|e,[],[],_::_,_,h,_|e,_::_,[],_,_,h,_|e,_::_,_::_,[],_,h,_=>h.elim
theorem Yf:∀ {b:List Sh} {ts:List Nat},QD b=some ts->∀c∈ts,c∈b.flatMap Sh.bc
 | [],ts,h,c,hc=>by simp only[QD,aaB]at h;subst h;simp at hc
 |s::b,ts,h,c,hc=>by
  simp only[QD]at h;split at h;rename_i t1 t2 d e;split at h;simp only[aaB]at h;subst h;rw[ako];rcases h_.1 hc with hc|hc;exact aa0 _ (Sh.xn d c hc);exact aeO _ (Yf e c hc);cases h;cases h
theorem aeJ(K:Inv w0 c0 U E a w G)(L:RI ops E a.tmps)(N:Gd ops a.tmps g){el:TypeId}{e:Ty}:
 ∀(ps:List (Nat×Operand)) (n:Nat) (xs:List e.den) (y:List Sh) (cells:Array Value),Ph C E.rd g el e n ps=some (xs,y)->(n+ps.length)*e.sz<=cells.size->
  ∃k b,Instr.fill (fun i=>some (i*e.sz,e.sz)) cells (ps.map fun p=>(p.1,a.eval p.2))=some b/\
   b.toList=cells.toList.take (n*e.sz)++k.flatten++cells.toList.drop ((n+ps.length)*e.sz)/\Ss w G e xs y k/\xs.length=ps.length/\(∀s∈y,s.live=true/\∀c∈s.bc,0<c/\U c/\G.bx c=false)
 | [],n,xs,y,cells,h,hs=>by
   simp only[Ph,aaB,aff]at h;obtain⟨rfl,rfl⟩:=h;exact⟨[],cells,rfl,by simp,trivial,rfl,by simp⟩
 |(j,o)::ps,n,xs,y,cells,h,hs=>by
  simp only[Ph]at h;split at h;rename_i R;subst R;split at h;cases h;rename_i v S;split at h;rename_i x F H W X;simp only[aaB,aff]at h;obtain⟨rfl,rfl⟩:=h;obtain⟨⟨r,he,B⟩,J,u⟩:=Ag K L N S;have Q:=mR W;have D:v.τ=e:=by rw[Q]
  have l:dJ w G e x v.sh r:=by rw[Q]at B;exact B
  have hlen:=dJ.len l;have m:=KM (τ:=v.τ) (by rw[D];exact hlen) (dJ.one l);have z:=Dy (τ:=v.τ) (by rw[D];exact hlen) (dJ.one l);rw[D]at m z;simp only[ag8]at hs;have hmul:(j+1)*e.sz<=(j+(ps.length+1))*e.sz:=aaZ _ (by omega);rw[sw,agZ]at hmul;have d:=US (kE e r).cells (j*e.sz) cells (by rw[m];omega);rw[z,m]at d
  have I:(Array.foldl (fun Y (q:Value×Nat)=>Y.setIfInBounds (j*e.sz+q.2) q.1) cells (kE e r).cells.zipIdx).size=cells.size:=by
   have:=congrArg akw d;simp only[agy,agf,List.length_take,List.length_drop,hlen]at this;omega
  obtain⟨k,b,k1,k2,k3,k4,k5⟩:=aeJ K L N ps (j+1) F H _ X (by rw[I];rw[show j+1+ps.length=j+(ps.length+1) by omega];exact hs);refine⟨r::k,b,?_,?_,⟨l,k3⟩,by simp[k4],?_⟩;simp only[List.map_cons,he,D,Instr.fill];rw[a_ (by simp[m];omega)];exact k1;rw[k2,d]
  have h1:(cells.toList.take (j*e.sz)++r++cells.toList.drop (j*e.sz+e.sz)).take ((j+1)*e.sz)=cells.toList.take (j*e.sz)++r:=by
   rw[agn (by simp[hlen,sw];omega),aeR (by simp[hlen,sw];omega)]
  have h2:(cells.toList.take (j*e.sz)++r++cells.toList.drop (j*e.sz+e.sz)).drop ((j+1+ps.length)*e.sz)=cells.toList.drop ((j+(ps.length+1))*e.sz):=by
   have e1:(j+1+ps.length)*e.sz=(cells.toList.take (j*e.sz)++r).length+ps.length*e.sz:=by
    simp[hlen,sw];omega
   rw[e1,ag1,ae5 (by omega),agp,Nat.add_sub_cancel_left,ags];congr 1;simp[sw];omega
  rw[h1,h2];simp;intro s t;rcases B_.1 t with rfl|t;exact⟨u,J⟩;exact k5 s t;cases h;cases h
theorem dH.mono{U U':Nat->Prop}{v:SV}(h:dH U G v)(o:∀u,U u->U' u):dH U' G v:=
 ⟨fun c hc=>⟨(h.1 c hc).1,o _ (h.1 c hc).2.1,(h.1 c hc).2.2⟩,fun c hc=>⟨(h.2.1 c hc).1,o _ (h.2.1 c hc).2.1,(h.2.1 c hc).2.2⟩,
  fun c hc=>⟨(h.2.2 c hc).1,o _ (h.2.2 c hc).2.1,(h.2.2 c hc).2.2⟩⟩
theorem Yields.mono{U U':Nat->Prop}{r:Result Next}{sv:SV}(h:Yields w0 c0 U E a r sv)(o:∀u,U u->U' u):Yields w0 c0 U' E a r sv:=by
 obtain⟨p,q,G',v,y,z,B,D⟩:=h;exact⟨p,q,G',v,y.mono o,z,B.mono o,D⟩
theorem D6.mono{U U':Nat->Prop}{r:Result Next}{o:Ef}(h:D6 w0 c0 U E a r o)(p:∀u,U u->U' u):D6 w0 c0 U' E a r o:=by
 cases o with
 |val v=>exact Yields.mono h p
 |chk c v=>exact fun hc=>Yields.mono (h hc) p
 |_=>exact h
def nV{s:Sem Value}{x:Value}{w':World}(h:s.run P w= .ok x w'):((do pure (.value (<-s))):Sem Next).run P w= .ok (.value x) w':=by
 simp[h]
def toNat_lt{i:Int}{n:Nat}(h0:0<=i)(h:i<(n:Int)):i.toNat<n:=by omega
theorem ajQ(hC:CxTy P C)(q:Inv w0 c0 U E a w G)(S:RI ops E a.tmps)(W:Gd ops a.tmps g){tk:Nat}{o:Oper}{t:TypeId}{x:Operand}{ef:Ef}(ho:o.op= .load t x)
 (h:dY C ops E.rd tk g o=some ef):D6 w0 c0 U E a ((execOp a.eval o).run P w) ef:=by
 simp only[dY,ho]at h;split at h;cases h;rename_i y N;have hT:=(hC.tt t y N).1
 have m:∀ {b z:Nat} {c:Array Value} {el:TypeId} {J:Nat×Nat},a.eval x= .pointer (some ⟨b,z,none⟩)->w.heap[b]?=some (.cells c el J)->z+y.τ.sz<=c.size->
  (execOp a.eval o).run P w= .ok (.value (kE y.τ ((c.toList.drop z).take y.τ.sz))) w:=by
  intro b z c el J he k K;simp only[execOp,ho];refine nV ?_;simp only[Instr.loadAt,he,Instr.sureAddr];simpa using Fq hT k K
 split at h
 rename_i b off p τ j;obtain⟨I,h2⟩:=rb q S W j;obtain⟨bk,_,u,L⟩:=I;split at h;rename_i sl v D;obtain⟨_,bk',c,el,g1,_,_,g4,g5,g6⟩:=q.box D;rw[g1]at u;simp only[Value.pointer.injEq,aaB,Addr.mk.injEq,and_true]at u;subst u;split at h;rename_i r Q;split at h;rename_i hc;simp only[ac7,b_]at hc;cases h;obtain⟨q1,q2,q3,q4⟩:=dJ.sub Q g5;have hlen:=dJ.len g5;rw[hc.1]at q1 q2;have k:=m L g4 (by rw[<-hc.2];simp at hlen;omega);rw[<-hc.2]at k;exact kB q k ⟨_,rfl,q1⟩ (dH.d fun c hc=>g6 c (q4 c hc)) (by rintro _ _ ⟨⟩);cases h;cases h;cases h
 rename_i b e i off p τ j;obtain⟨I,_⟩:=rb q S W j;obtain⟨bk,of,n,cap,_,u,L,k4,Y⟩:=I;split at h;rename_i l K nd F;obtain⟨⟨v,hv⟩,hm⟩:=q.od F;split at h;rename_i hc;simp only[ac7,b_]at hc;rw[C_]at h;obtain⟨r,Q,rfl⟩:=h;have H:=hv.2.1;rw[u]at H
 have hlen:n=l.length:=by
  obtain⟨_,_,B,hB,_⟩:=hv;rcases hB with⟨⟨ao,e0⟩,b0,_⟩|⟨_,_,_,_,_,_,_,hx,_⟩;rw[e0]at H;cases H;rw[b0];rfl;rw[<-H]at hx;cases hx;rfl
 have hi:i.toNat<l.length:=by omega
 obtain⟨b',off',cap',c,el,J,B,e1,e2,e3,e4,e5,e6,e7⟩:=hv.elem hi;rw[<-H]at e1;cases e1;have X:dJ w G e (l.getD i.toNat e.aa) (sR e (.sha (2::K))) _:=dJ.VQ e6 (fun b k=>adm _ (e7 b k)) (by simp);obtain⟨q1,q2,q3,q4⟩:=dJ.sub Q X;have s:r.τ=y.τ:=by have:=q3.symm.trans hc.2;simpa using this
 have hmul:(i.toNat+1)*e.sz<=cap*e.sz:=aaZ _ (by omega);rw[sw,agZ]at hmul;have k:=m Y e2 (by rw[<-s];rw[hc.1]at q2;omega);refine kB q k ⟨(c.toList.drop (of+i.toNat*e.sz+off)).take y.τ.sz,by rw[s],?_⟩ (dH.d fun c R=> ?_) (by rintro _ _ ⟨⟩);rw[hc.1]at q1 q2;rw[agx,agT,ags,agP (by omega)]at q1;rw[<-s];exact q1;have:=Kp _ _ c (q4 c R);simp only[M.bc,B_]at this;rcases this with rfl|this;exact⟨by omega,q.two.1⟩;exact hm c (adm _ this);cases h;cases h
 rename_i K v j;obtain⟨I,h2⟩:=rb q S W j;obtain⟨b,z,c,el,J,k1,u,L,k4,Y⟩:=I;split at h;rename_i hτ;cases h;have k:=m k1 u (by rw[<-hτ];exact L);rw[<-hτ]at k;exact kB q k ⟨_,rfl,Y⟩ (dH.d fun c hc=>h2.1 c (by simp[SV.sc,hc])) (by rintro _ _ ⟨⟩);cases h;cases h
def ado(W:CxTy P C)(u:Inv w0 c0 U E a w G)(I:RI ops E a.tmps)(J:Gd ops a.tmps g){tk:Nat}{o:Oper}{s:TypeId}{x:Operand}{j:Nat}{X:Ef}(Y:o.op= .fieldAddr s x j)
 (h:dY C ops E.rd tk g o=some X):D6 w0 c0 U E a ((execOp a.eval o).run P w) X:=by
 simp only[dY,Y]at h;split at h
 ·cases h
 rename_i i S;have hT:=W.tt s i S;split at h;rotate_left
 ·cases h
 rename_i F
 have hpair:∀σ,i.τ.sub (jd i.fs.length j)=some σ->i.τ.iu=true\/(jd i.fs.length j)=[]:=by
  intro σ z;cases hf:jd i.fs.length j with
  |nil=>exact .inr rfl
  |cons b p=>rw[hf]at z;exact .inl (aib z)
 have k:i.τ.iu=true:=by
  cases D:i.τ with
  |pair a b=>rfl
  |_=>
   exfalso;have:=hT.2;rw[D]at this;have K:=W.fs s i S (by rw[D];rfl);rw[K]at F;simp at F
 have l:∀ {b q:Nat},a.eval x= .pointer (some ⟨b,q,none⟩)->(execOp a.eval o).run P w= .ok (.value (.pointer (some ⟨b,q+i.τ.off (jd i.fs.length j),none⟩))) w:=by
  intro b q H;simp only[execOp,Y];refine nV ?_;rw[H];rcases aex (w:=w) hT F b q with h|h
  ·exact h
  ·rw[k]at h;cases h
 split at h
 ·rename_i σ t q p τ z d;split at h
  ·cases h;obtain⟨⟨bk,L,N,Q⟩,y⟩:=rb u I J d;exact kB u (l Q) ⟨bk,L,N,rfl⟩ ⟨by simp[SV.sc],by simpa[SV.bt]using y.2.1,by simp[SV.rt]⟩ (by rintro _ _ ⟨⟩)
  ·cases h
 ·rename_i σ t e n q p τ z d;split at h
  ·cases h;obtain⟨⟨b,off,m,cap,L,N,Q,k4,R⟩,y⟩:=rb u I J d;exact kB u (l R) ⟨b,off,m,cap,L,N,Q,k4,by rw[ahO]⟩ ⟨by simp[SV.sc],by simp[SV.bt],by simpa[SV.rt]using y.2.2⟩ (by rintro _ _ ⟨⟩)
  ·cases h
 ·rename_i σ hs v z d;split at h
  ·rename_i D;rw[C_]at h;obtain⟨r,hr,rfl⟩:=h;obtain⟨h1,y⟩:=rb u I J d;obtain⟨b,q,H,B⟩:=ajO h1 hr;rw[D]at B;refine kB u (l H) B ⟨?_,by simp[SV.bt],by simp[SV.rt]⟩ (by rintro _ _ ⟨⟩);intro c hc;obtain⟨_,_,_,_,_,_,_,_,_,R⟩:=h1;have:=(dJ.sub hr R).2.2.2;simp only[SV.sc,h_]at hc;rcases hc with hc|hc
   ·exact y.1 c (by simp[SV.sc,hc])
   ·exact y.1 c (by simp[SV.sc,this c hc])
  ·cases h
 ·cases h
theorem adt(X:CxTy P C)(v:Inv w0 c0 U E a w G)(I:RI ops E a.tmps)(J:Gd ops a.tmps g){tk:Nat}{o:Oper}{t:TypeId}{x n:Operand}{Y:Ef}(R:o.op= .indexAddr t x n)
 (h:dY C ops E.rd tk g o=some Y):D6 w0 c0 U E a ((execOp a.eval o).run P w) Y:=by
 simp only[dY,R]at h;split at h;rename_i L e l u hs nd k i sh s D N;split at h;rename_i Q;cases h;intro hc;obtain⟨j,p⟩:=e_ hc;have y:=(X.tt t L s).2;rw[Q]at y;obtain⟨m,F,d,_,r⟩:=Ai v I J D;simp only[Sh.sl.injEq]at F;subst F;have z:=nY v I J N;have S:i.toNat<l.length:=toNat_lt j p;obtain⟨b,off,cap,c,el,fz,B,K,e2,e3,e4,e5,e6,e7⟩:=d.elem S
 have q:(execOp a.eval o).run P w= .ok (.value (.pointer (some ⟨b,off+i.toNat*e.sz,none⟩))) w:=by
  simp only[execOp,R];refine nV ?_;rw[K,z];simp[Instr.indexAt,asIntOf,run_underlying y.1,n7 y.2,j,p,Addr.add_lit]
 refine kB v q ⟨b,off,l.length,cap,d.1,d.2.1.trans K,j,p,rfl⟩ ⟨by simp[SV.sc],by simp[SV.bt],?_⟩ (by rintro _ _ ⟨⟩);intro c hc;simp only[SV.rt,afi]at hc;subst hc;exact r _ (by simp[M.bc]);cases h;rename_i L e l hs k i sh s D N;split at h;rename_i Q;cases h;intro hc;obtain⟨j,p⟩:=e_ hc;have y:=(X.tt t L s).2;rw[Q]at y;obtain⟨m,F,d,_,r⟩:=Ai v I J D;simp only[Sh.sl.injEq]at F;subst F;have z:=nY v I J N;have S:i.toNat<l.length:=toNat_lt j p;obtain⟨⟨BB,W,H⟩,_⟩:=d;obtain⟨b,off,cap,c,el,fz,B,K,e2,e3,e4,e5,e6,e7⟩:=W.elem S
 have q:(execOp a.eval o).run P w= .ok (.value (.pointer (some ⟨b,off+i.toNat*e.sz,none⟩))) w:=by
  simp only[execOp,R];refine nV ?_;rw[K,z];simp[Instr.indexAt,asIntOf,run_underlying y.1,n7 y.2,j,p,Addr.add_lit]
 have hmul:(i.toNat+1)*e.sz<=cap*e.sz:=aaZ _ (by omega);rw[sw,agZ]at hmul;refine kB v q ⟨b,off+i.toNat*e.sz,c,el,fz,rfl,e2,by simp only;omega,H b e5,dJ.VQ e6 (fun x D=>adm _ (H x (e7 x D))) (by simp)⟩ ⟨?_,by simp[SV.bt],by simp[SV.rt]⟩ (by rintro _ _ ⟨⟩);intro c hc;simp only[SV.sc,h_]at hc;rcases hc with hc|hc;exact r c hc;have:=Kp _ _ c hc;simp only[M.bc,B_]at this;rcases this with rfl|this;exact⟨by omega,v.two.1⟩;exact r c this;cases h;cases h
def aeU(w:World)(G:Gh)(τ:Ty):dJ w G τ τ.aa (sR τ (.sha [])) τ.zero:=dJ.zero τ
def aeW{τ:Ty}(Q:Nat->Prop):∀c∈(sR τ (.sha [])).bc,Q c:=fun c hc=>by
 have:=Kp _ _ c hc;simp[M.bc]at this
def ah0(e:CxTy P C)(j:Inv w0 c0 U E a w G){tk:Nat}(k:4<=tk)(l:¬U tk){o:Oper}{t:TypeId}{c:Ef}(d:o.op= .alloc t)
 (h:dY C ops E.rd tk g o=some c):D6 w0 c0 (fun u=>U u\/u=tk) E a ((execOp a.eval o).run P w) c:=by
 simp only[dY,d,C_]at h;obtain⟨i,n,rfl⟩:=h;have m:=(e.tt t i n).1;refine aaU j k l (aeU w G i.τ) (aeW _) t ?_;simp only[execOp,d];refine nV ?_;have hc:=Dy (τ:=i.τ) i.τ.y3 (Q8 i.τ);have b:(kE i.τ i.τ.zero).cells=i.τ.zero.toArray:=M' (by simpa using hc);simp[Instr.alloc,aa9 m,newVar,newRow,b]
def aj1(e:Inv w0 c0 U E a w G)(n:RI ops E a.tmps)(p:Gd ops a.tmps g){tk:Nat}(q:4<=tk)(r:¬U tk){o:Oper}{t:TypeId}{x:Operand}{j:Ef}(k:o.op= .box t x)
 (h:dY C ops E.rd tk g o=some j):D6 w0 c0 (fun u=>U u\/u=tk) E a ((execOp a.eval o).run P w) j:=by
 simp only[dY,k]at h;split at h;rename_i i v hi m;split at h;cases h;obtain⟨⟨l,s,b⟩,hc,_⟩:=Ag e n p m;refine aaU e q r b hc t ?_;simp only[execOp,k];refine nV ?_;have c:=Dy (dJ.len b) (dJ.one b);have d:(kE v.τ l).cells=l.toArray:=M' (by simpa using c);simp[Instr.box,s,newVar,newRow,d];cases h;cases h
theorem ZX.struct{t:TypeId}{i:TI}(h:ZX P t i)(o:i.τ.iu=true):∃fields,P.underlying t=some (.struct fields)/\fields.size=i.fs.length/\
 ∀(j:Nat) (f:Field),fields[j]?=some f->V9 P i.τ i.fs j f:=by
 obtain⟨τ,fs,el⟩:=i;cases τ with
 |pair x y=>exact h.2
 |_=>cases o
def Xt{τ:Ty}(b:τ.iu=true)(cs:List Value):kE τ cs= .agg cs.toArray:=by
 cases τ<;>first|rfl|cases b
def akZ(K:CxTy P C)(N:Inv w0 c0 U E a w G)(S:RI ops E a.tmps)(W:Gd ops a.tmps g){tk:Nat}{o:Oper}{t:TypeId}{ps:Array (Nat×Operand)}{Q:Ef}(R:o.op= .build t ps)
 (h:dY C ops E.rd tk g o=some Q):D6 w0 c0 U E a ((execOp a.eval o).run P w) Q:=by
 simp only[dY,R]at h;split at h;rename_i i I;split at h;cases h;rename_i q;rw[C_]at h;obtain⟨r,hr,rfl⟩:=h;have u:=K.tt t i I;have X:=u.1
 have e:i.τ.iu=true:=by
  cases Y:i.τ.iu with
  |true=>rfl
  |false=>rw[K.fs t i I Y]at q;simp at q
 obtain⟨fields,hu,D,s⟩:=u.struct e;have hz:dJ w G i.τ i.τ.aa (sR i.τ (.sha [])) i.τ.zero.toArray.toList:=by simpa using aeU w G i.τ
 obtain⟨inf,d,m,hisz,n,_⟩:=X
 have k:∃c,fields.toList.mapM (fun f=>(P.info? f.type).map fun i=>(f.offset,i.size))=some c/\
  ∀(j:Nat) (f:Field) (σ:Ty),fields[j]?=some f->i.τ.sub (jd i.fs.length j)=some σ->c.toArray[j]?=some (f.offset,σ.sz):=by
  have l:∀f∈fields.toList,∃inf,P.info? f.type=some inf:=by
   intro f y;obtain⟨j,v,rfl⟩:=ahg.1 y;obtain⟨_,_,σ,_,inf,d,h1,_⟩:=s j fields[j] (aaY (by simpa using v));exact⟨inf,by simpa using h1⟩
  refine⟨fields.toList.map fun f=>(f.offset,((P.info? f.type).map (·.size)).getD 0),?_,?_⟩;generalize fields.toList=L at l
  induction L with
  |nil=>rfl
  |cons f L ih=>
   obtain⟨inf,m⟩:=l f (by simp);simp[List.mapM_cons,m,ih (fun f s=>l f (by simp[s]))]
  intro j f σ v J;obtain⟨_,_,σ',g1,inf,d,g2,g3,_⟩:=s j f v;rw[g1]at J;cases J;simp[v,g2,g3]
 obtain⟨c,F,H⟩:=k;obtain⟨b,k1,k2,k3⟩:=abG (fields:=fields) N S W s D (fun x=>c.toArray[x]?) H ps.toList _ _ i.τ.zero.toArray r.1 r.2 hz (aeW _) hr;have z:=Dy (τ:=i.τ) i.τ.y3 (Q8 i.τ);have B:(kE i.τ i.τ.zero).cells=i.τ.zero.toArray:=M' (by simpa using z)
 have hb:P.built t (ps.map fun p=>(p.1,a.eval p.2)).toList=some b:=by
  unfold Program.built;simp only[m,hu,n,F,B,ahF];exact k1
 refine kB N (mv:= .agg b) ?_ ⟨b.toList,?_,k2⟩ (dH.d k3) (by rintro _ _ ⟨⟩);simp only[execOp,R];exact nV (run_build w t _ b hb);show Value.agg b=kE i.τ b.toList;rw[Xt e];cases h
def aiO{e:Ty}(n:Nat)(z:Array Value)(d:z.toList=e.zero):(madeCells z (n*e.sz)).toList=(agv n e.zero).flatten:=by
 have h:z.size=e.sz:=by rw[<-agy,d,e.y3]
 have hpos:=e.JX;apply List.ext_getElem?;intro j
 induction n generalizing j with
 |zero=>simp[madeCells]
 |succ n m=>
  rw[ahm,aki];by_cases i:j<e.sz;have l:j<(n+1)*e.sz:=by rw[sw];omega
  rw[List.getElem?_append_left (by rw[e.y3];exact i),<-d];simp only[madeCells,ahF,aj7,agW,ahp l,akH,h,Nat.mod_eq_of_lt i];simp[show j<z.size by omega];have b:=m (j-e.sz);rw[List.getElem?_append_right (by rw[e.y3];omega),e.y3,<-b];simp only[madeCells,ahF,aj7,agW];by_cases c:j<(n+1)*e.sz;have k:j-e.sz<n*e.sz:=by rw[sw]at c;omega
  rw[ahp c,ahp k];simp only[akH,h];congr 2;rw[<-Nat.mod_eq_sub_mod (by omega)];have k:¬j-e.sz<n*e.sz:=by rw[sw]at c;omega
  rw[agG (by simp;omega),agG (by simp;omega)]
def adE(Q:CxTy P C)(m:Inv w0 c0 U E a w G)(z:RI ops E a.tmps)(D:Gd ops a.tmps g){tk:Nat}(R:4<=tk)(S:¬U tk){o:Oper}{t:TypeId}{n c:Operand}{F:Ef}
 (H:o.op= .makeSlice t n c) (h:dY C ops E.rd tk g o=some F):D6 w0 c0 (fun u=>U u\/u=tk) E a ((execOp a.eval o).run P w) F:=by
 simp only[dY,H]at h;split at h;rename_i e fs el x sh y sh' K L k;cases h;intro N;obtain⟨J,v,rfl⟩:=e_ N;have hlt': @LT.lt Int Int.instLTInt y 4294967296:=v;obtain⟨hF,hu,hE⟩:=Q.tt t _ K;have p:=nY m z D L;have q:=nY m z D k;obtain⟨inf,d,i,j,b,hby,_⟩:=hE
 have W:(inf.bytes:Int)*y<=281474976710656:=by
  have X:(inf.bytes:Int)<=32768:=by omega
  have h2:(inf.bytes:Int)*y<=32768*y:=Int.mul_le_mul_of_nonneg_right X J;omega
 have I:=run_make (P:=P) w t el inf _ hu i b .i64 .i64 y y J (Int.le_refl _) W (by omega);have s:=Dy (τ:=e) e.y3 (Q8 e);rw[j]at I;refine Vk m R S (e:=e) (l:=agv y.toNat e.aa) (cs:=(agv y.toNat e.zero).flatten) (B:=[]) el (n:=y.toNat) (cap:=y.toNat) (by simp) ?_ (afc _) [] ?_ (by simp) (by simp) (by simp) (by simp) (r:=_) ?_;exact cr.replicate (bP.zero w e) _;simp[List.length_flatten,e.y3,List.map_replicate,List.sum_replicate_nat];simp only[execOp,H];refine nV ?_;rw[p,q,I];have Y:=aiO (e:=e) y.toNat (kE e e.zero).cells s;congr 3;rw[agz];exact M' (by rw[Y]);cases h
def abb(hC:CxTy P C)(Y:Inv w0 c0 U E a w G)(hR:RI ops E a.tmps)(hg:Gd ops a.tmps g){tk:Nat}(h3:4<=tk)(hU:¬U tk){o:Oper}{t:TypeId}{n:Nat}{ps:Array (Nat×Operand)}{ef:Ef}
 (ho:o.op= .buildSlice t n ps) (h:dY C ops E.rd tk g o=some ef):D6 w0 c0 (fun u=>U u\/u=tk) E a ((execOp a.eval o).run P w) ef:=by
 simp only[dY,ho]at h;split at h;rename_i e fs el hi;split at h;rename_i hc;simp only[ac7,b_]at hc;obtain⟨r,hsm⟩:=hc;rw[C_]at h;obtain⟨⟨W,ss⟩,hr,rfl⟩:=h;obtain⟨hF,hu,hE⟩:=hC.tt t _ hi;obtain⟨inf,d,H,k,v,hby,_⟩:=hE;obtain⟨y,i,X,k2,k3,k4,Q⟩:=aeJ Y hR hg ps.toList 0 W ss ((Array.range (n*e.sz)).map ((kE e e.zero).cells[·%(kE e e.zero).cells.size]!)) hr (by simp[r]);have hct:=Dy (τ:=e) e.y3 (Q8 e);have p:n=W.length:=by rw[k4];simp[r]
 have I:∀s∈ss,s.live=true:=fun s m=>(Q s m).1
 have q:i.toList=y.flatten:=by
  rw[k2];simp only[Nat.zero_mul,ahK,agp,aj0];rw[ae5 (by simp[r]),agz]
 have z:(execOp a.eval o).run P w= .ok (.value (.slice (some ⟨w.heap.size,0,none⟩) n n)) (w.alloc (.cells (y.flatten++[]).toArray el)):=by
  simp only[execOp,ho];refine nV ?_;have L:i=(y.flatten++[]).toArray:=M' (by simp[q]);by_cases h0:n*e.sz=0;have b0:n=0:=by rcases Nat.mul_eq_zero.1 h0 with h|h;exact h;have:=e.JX;omega
  subst b0;have D:ps.toList=[]:=by cases e0:ps.toList with|nil=>rfl|cons x l=>have:=congrArg akw e0;simp[r]at this
  have N:ps= #[]:=M' (by simpa using D);rw[D]at X;simp only[List.map_nil,Instr.fill,aaB]at X;subst N;simp[Instr.buildSlice,run_underlying hu,Go.sizeOf,typeInfo,H,Instr.fill,newRow];rw[<-agz y.flatten,<-L,<-X];simp[Array.range_zero'];rw[run_buildSlice w t el n _ i inf _ hu H v (by rw[k];omega) (by rw[k];exact h0) (by rw[k];simpa using X),L]
 simp only[akv];split;rename_i ts J;obtain⟨B,R,r2,S⟩:=Ss.own k3 J;have F:=Yf J;refine Vk Y h3 hU (e:=e) (l:=W) el p R (afc _) [] ?_ (fun b K=> ?_) S (fun c hc=> .inl ?_) (fun _=>r2) z;have:=cr.len (sz:=e.sz) (fun x c B h=>bP.len h) R;rw[this,p];simp;obtain⟨s,m,j⟩:=acf.1 (F _ (S b K));exact((Q s m).2 _ j).1;obtain⟨s,m,j⟩:=acf.1 (F _ hc);exact(Q s m).2 _ j;obtain⟨B,R,S⟩:=Ss.rep k3 I;refine Vk Y h3 hU (e:=e) (l:=W) el p R (afc _) [] ?_ (fun b K=> ?_) (fun b K=>agS.2 (S b K)) (fun c hc=> .inl ?_) (by simp) z;have:=cr.len (sz:=e.sz) (fun x c B h=>bP.len h) R;rw[this,p];simp;obtain⟨s,m,j⟩:=acf.1 (S b K);exact((Q s m).2 _ j).1;obtain⟨s,m,j⟩:=acf.1 (agS.1 hc);exact(Q s m).2 _ j;cases h;cases h
theorem cr.cut{α:Type}{R:α->List Value->List Nat->Prop}{sz:Nat}(o:∀x c B,R x c B->c.length=sz){l:List α}{cs:List Value}{B:List Nat}
 (h:cr R l cs B) (i j:Nat) (hij:i<=j) (hj:j<=l.length):∃B',cr R ((l.take j).drop i) ((cs.drop (i*sz)).take ((j-i)*sz)) B'/\∀b∈B',b∈B:=by
 have y:l=l.take j++l.drop j:=(ahb j l).symm;rw[y]at h;obtain⟨B1,B2,rfl,q,_⟩:=cr.split o h;have p:l.take j=(l.take j).take i++(l.take j).drop i:=(ahb i _).symm;rw[p]at q;obtain⟨B3,H,rfl,_,u⟩:=cr.split o q;refine⟨H,?_,fun b v=>by simp[v]⟩;have z:(akg i (akg j l)++List.drop i (akg j l)).length=j:=by rw[<-p];simp;omega
 have D:((l.take j).take i).length=i:=by simp;omega
 rw[z,D,show(cs.take (j*sz)).drop (i*sz)=(cs.drop (i*sz)).take ((j-i)*sz) by rw[agx,Nat.sub_mul]]at u;exact u
theorem me.cut{e:Ty}{l:List e.den}{v:Value}{B:List Nat}(h:me w e.sz (bP w e) l v B)(i j:Nat)(y:i<=j)(u:j<=l.length):
 ∃base n cap,v= .slice base n cap/\n=l.length/\n<=cap/\∃B',me w e.sz (bP w e) ((l.take j).drop i) (.slice (if cap=i then base else base.map (·.add (i*e.sz))) (j-i) (cap-i)) B'/\∀b∈B',b∈B:=by
 rcases h with⟨⟨K,rfl⟩,rfl,rfl⟩|⟨b,off,cap,c,el,z,Bs,L,o,D,hsz,rfl,N⟩;simp only[List.length_nil,Nat.le_zero]at u;subst u;obtain rfl:i=0:=by omega
 exact⟨K,0,0,rfl,rfl,afc _,[],.inl ⟨⟨_,rfl⟩,by simp,rfl⟩,by simp⟩;refine⟨some ⟨b,off,none⟩,l.length,cap,L,rfl,o,?_⟩;obtain⟨B',q,H⟩:=cr.cut (sz:=e.sz) (fun x c B h=>bP.len h) N i j y u;have hlen:((l.take j).drop i).length=j-i:=by simp;omega
 have hm1:(j-i)*e.sz+i*e.sz=j*e.sz:=by rw[<-sw];congr 1;omega
 have hm2:j*e.sz<=l.length*e.sz:=aaZ _ u;have hm3:l.length*e.sz<=cap*e.sz:=aaZ _ o;have hm4:(cap-i)*e.sz+i*e.sz=cap*e.sz:=by rw[<-sw];congr 1;omega
 by_cases hc:cap=i;refine⟨b::B',.inr ⟨b,off,cap-i,c,el,z,B',?_,?_,D,?_,rfl,?_⟩,?_⟩;rw[an hc,hlen];rw[hlen];omega;omega;rw[hlen];have I:j-i=0:=by omega
 rw[I]at q|-;simp only[Nat.zero_mul,ahK]at q|-;exact q;intro x p;rcases B_.1 p with rfl|p;simp;exact adm _ (H x p);refine⟨b::B',.inr ⟨b,off+i*e.sz,cap-i,c,el,z,B',?_,?_,D,?_,rfl,?_⟩,?_⟩;rw[a_ hc,hlen];simp[Addr.add_lit];rw[hlen];omega;omega;rw[hlen]
 have J:(((c.toList.drop off).take (l.length*e.sz)).drop (i*e.sz)).take ((j-i)*e.sz)=(c.toList.drop (off+i*e.sz)).take ((j-i)*e.sz):=by
  rw[agx,agT,ags,agP (by omega)]
 rw[J]at q;exact q;intro x p;rcases B_.1 p with rfl|p;simp;exact adm _ (H x p)
theorem ZF(I:Inv w0 c0 U E a w G){e:Ty}{l:List e.den}{v:Value}{m:M}(D:gq w G e l v m)(F:m≠ .dead)(hc:∀c∈m.bc,0<c/\U c/\G.bx c=false)
 (i j:Nat) (q:i<=j) (J:j<=l.length) {r:Result Next}
 (h:∀base n cap,v= .slice base n cap->n=l.length->n<=cap->r= .ok (.value (.slice (if cap=i then base else base.map (·.add (i*e.sz))) (j-i) (cap-i))) w) {y:List e.den} (K:y=(l.take j).drop i):
 Yields w0 c0 U E a r (.d ⟨.sl e,y,.sl (.sha m.bc)⟩):=by
 subst K;obtain⟨B,N,x⟩:=D.rep F;obtain⟨base,n,cap,z,Q,R,S,W,X⟩:=N.cut i j q J;refine kB I (h base n cap z Q R) ⟨[_],rfl,_,rfl,⟨S,W,fun b H=>x b (X b H)⟩,fun k=> ?_⟩ (dH.d hc) (by rintro _ _ ⟨⟩);cases m with
 |row t Y nd=>simp[M.bc]at k
 |sha Y=>
  have L:=D.2 k;rw[L]at z;cases z;have s:j=0:=by omega
  have u:i=0:=by omega
  subst s u;rfl
 |nst b E i o p fr=>simp[M.bc]at k
 |dead=>exact absurd rfl F
def zG{k:IntKind}{i:Int}{y:Nat}{code:BoundsCode}(b:0<=i)(c:i<=y):(Instr.sliceBound (.int k i) y code).run P w= .ok i.toNat w:=run_sliceBound w k i y code b c
def aia(hC:CxTy P C)(p:Inv w0 c0 U E a w G)(u:RI ops E a.tmps)(v:Gd ops a.tmps g){tk:Nat}{o:Oper}{t:TypeId}{x:Operand}{lo hi mx:Option Operand}{ef:Ef}
 (W:o.op= .slice t x lo hi mx) (h:dY C ops E.rd tk g o=some ef):D6 w0 c0 U E a ((execOp a.eval o).run P w) ef:=by
 simp only[dY,W]at h;split at h;cases h;rename_i ti k0;have hT:=hC.tt t ti k0
 have sl:∀ {e:Ty},ti.τ= .sl e->P.underlying t=some (.slice ti.el)/\tQ P ti.el e:=by
  intro e he;have:=hT.2;rw[he]at this;exact this
 have st:ti.τ= .str->P.underlying t=some .string:=by intro he;have:=hT.2;rw[he]at this;exact this
 split at h
 rename_i e l m D c r;obtain rfl:=afe.1 c;obtain rfl:=afe.1 r;split at h;rename_i F;cases h;obtain⟨hu,hE⟩:=sl F;obtain⟨m',L,j,hd,B⟩:=Ai p u v D;simp only[Sh.sl.injEq]at L;subst L;refine ZF p j hd B 0 l.length (Nat.zero_le _) (afc _) ?_ (by simp);intro base n cap X hn H;simp only[execOp,W];refine nV ?_;rw[X];simp[Instr.sliceAt,Instr.slice,Instr.sliceBounds,run_underlying hu,n7 hE,hn];cases h
 rename_i e l m q I D c r;obtain⟨b0,rfl,b⟩:=C_.1 c;obtain rfl:=afe.1 r;split at h;rename_i F;cases h;intro d;obtain⟨N,Q⟩:=e_ d;obtain⟨hu,hE⟩:=sl F;obtain⟨m',L,j,hd,B⟩:=Ai p u v D;simp only[Sh.sl.injEq]at L;subst L;have K:=nY p u v b;have S: @LE.le Int aeP q (l.length:Int):=Q;have z: @LE.le Int aeP 0 q:=N;refine ZF p j hd B q.toNat l.length (by omega) (afc _) ?_ (by simp);intro base n cap X hn H;simp only[execOp,W];refine nV ?_;rw[X];have:=zG (P:=P) (w:=w) (k:= .i64) (code:= .sliceB) z S;simp[Instr.sliceAt,Instr.slice,Instr.sliceBounds,run_underlying hu,n7 hE,hn,K,this];cases h
 rename_i e l m q I D J c;obtain rfl:=afe.1 J;obtain⟨e0,rfl,b⟩:=C_.1 c;split at h;rename_i F;cases h;intro d;obtain⟨N,Q⟩:=e_ d;obtain⟨hu,hE⟩:=sl F;obtain⟨m',L,j,hd,B⟩:=Ai p u v D;simp only[Sh.sl.injEq]at L;subst L;have K:=nY p u v b;have S: @LE.le Int aeP q (l.length:Int):=Q;have z: @LE.le Int aeP 0 q:=N;refine ZF p j hd B 0 q.toNat (Nat.zero_le _) (by omega) ?_ (by simp);intro base n cap X hn H;simp only[execOp,W];refine nV ?_;rw[X];have:=zG (P:=P) (w:=w) (k:= .i64) (y:=cap) (code:= .sliceAcap) z (by omega);simp[Instr.sliceAt,Instr.slice,Instr.sliceBounds,run_underlying hu,n7 hE,K,this];cases h
 rename_i e l m q I bv n0 D c r;obtain⟨b0,rfl,b⟩:=C_.1 c;obtain⟨e0,rfl,R⟩:=C_.1 r;split at h;rename_i F;cases h;intro d;obtain⟨N,Q,h2⟩:=e_ d;obtain⟨hu,hE⟩:=sl F;obtain⟨m',L,j,hd,B⟩:=Ai p u v D;simp only[Sh.sl.injEq]at L;subst L;have K:=nY p u v b;have hb:=nY p u v R;have z: @LE.le Int aeP 0 q:=N;have S: @LE.le Int aeP q bv:=Q;have o0: @LE.le Int aeP bv (l.length:Int):=h2;have p0:(bv.toNat:Int)=bv:=ajn (by omega);refine ZF p j hd B q.toNat bv.toNat (by omega) (by omega) ?_ rfl;intro base n cap X hn H;simp only[execOp,W];refine nV ?_;rw[X];have e1:=zG (P:=P) (w:=w) (k:= .i64) (y:=cap) (code:= .sliceAcap) (i:=bv) (by omega) (by omega);have Y:=zG (P:=P) (w:=w) (k:= .i64) (y:=bv.toNat) (code:= .sliceB) (i:=q) z (by omega);simp[Instr.sliceAt,Instr.slice,Instr.sliceBounds,run_underlying hu,n7 hE,K,hb,e1,Y];cases h
 rename_i s j0 q I D c r;obtain⟨b0,rfl,b⟩:=C_.1 c;obtain rfl:=afe.1 r;split at h;rename_i F;cases h;intro d;obtain⟨N,Q⟩:=e_ d;have hs:=JE p u v D;have K:=nY p u v b;have Y:=zG (P:=P) (w:=w) (k:= .i64) (y:=s.size) (code:= .sliceB) (i:=q) N Q;refine KI p ?_;simp only[execOp,W];refine nV ?_;simp[Instr.sliceAt,Instr.slice,Instr.sliceBounds,run_underlying (st F),hs,K,Y];cases h
 rename_i s j0 q I D J c;obtain rfl:=afe.1 J;obtain⟨e0,rfl,b⟩:=C_.1 c;split at h;rename_i F;cases h;intro d;obtain⟨N,Q⟩:=e_ d;have hs:=JE p u v D;have K:=nY p u v b;have Y:=zG (P:=P) (w:=w) (k:= .i64) (y:=s.size) (code:= .sliceAlen) (i:=q) N Q;refine KI p ?_;simp only[execOp,W];refine nV ?_;simp[Instr.sliceAt,Instr.slice,Instr.sliceBounds,run_underlying (st F),hs,K,Y];cases h
 rename_i s j0 q I bv n0 D c r;obtain⟨b0,rfl,b⟩:=C_.1 c;obtain⟨e0,rfl,R⟩:=C_.1 r;split at h;rename_i F;cases h;intro d;obtain⟨N,Q,h2⟩:=e_ d;have hs:=JE p u v D;have K:=nY p u v b;have hb:=nY p u v R;have z: @LE.le Int aeP 0 q:=N;have S: @LE.le Int aeP q bv:=Q;have o0: @LE.le Int aeP bv (s.size:Int):=h2;have p0:(bv.toNat:Int)=bv:=ajn (by omega);have e1:=zG (P:=P) (w:=w) (k:= .i64) (y:=s.size) (code:= .sliceAlen) (i:=bv) (by omega) (by omega);have Y:=zG (P:=P) (w:=w) (k:= .i64) (y:=bv.toNat) (code:= .sliceB) (i:=q) z (by omega);refine KI p ?_;simp only[execOp,W];refine nV ?_;simp[Instr.sliceAt,Instr.slice,Instr.sliceBounds,run_underlying (st F),hs,K,hb,e1,Y];cases h;cases h
def Zq(d:Nat)(t:TypeId)(p q:Bool)(h:P.underlying t=some .bool):(Op.equalIn (d+1) t (.bool p) (.bool q)).run P w= .ok (p==q) w:=by
 simp[Op.equalIn,run_underlying h]
theorem Uu:∀ {τ:Ty} {x:τ.den} {cs:List Value} {B:List Nat},τ.flat=true->bP w τ x cs B->B=[]
 | .int _,_,_,_,_,h=>h.2
 | .bool,_,_,_,_,h=>h.2
 | .str,_,_,_,_,h=>h.2
 | .sl _,_,_,_,hf,_=>by simp[Ty.flat]at hf
 | .pair a b,p,cs,B,hf,h=>by
   obtain⟨c1,c2,B1,B2,rfl,rfl,c,d⟩:=h;simp only[Ty.flat,ac7]at hf;rw[Uu hf.1 c,Uu hf.2 d];rfl
def ake(N:CxTy P C)(d:Inv w0 c0 U E a w G)(e:RI ops E a.tmps)(i:Gd ops a.tmps g){tk:Nat}{o:Oper}{op:BinOp}{t u:TypeId}{x y:Operand}{Q:Ef}
 (R:o.op= .binOp op t x y u) (h:dY C ops E.rd tk g o=some Q):D6 w0 c0 U E a ((execOp a.eval o).run P w) Q:=by
 simp only[dY,R]at h;split at h;rename_i J p q l z B;split at h;rename_i K;simp only[execOp,R];unfold ajl at h;split at h;rename_i k m L k' n r;split at h;rename_i j;simp only[Bool.or_eq_true,b_]at j;exact ajN d (by rcases j with(j|j)|j<;>simp[j]) (nY d e i z) (nY d e i B) h;cases h;exact ajD d (JE d e i z) (JE d e i B) h;rename_i m L n r;have S:=(N.tt t J l).2;have W:P.underlying t=some .bool:=by rw[<-K]at S;exact S
 have D:=U5 d e i z;have F:=U5 d e i B;rw[D,F];have s:∀v,eqGuard op t x y (.bool m) v=pure ():=fun v=>eqGuard_at_bool ..;split at h;cases h;exact ma d (by simp[s,binOp,Op.equal,Op.maxDepth,Zq (w:=w) 9999 t m n W]);cases h;exact ma d (by simp[s,binOp,Op.equal,Op.maxDepth,Zq (w:=w) 9999 t m n W]);cases h;rename_i b1 b2 m L τ n r;split at h;rename_i n' hn;split at h;rename_i c;have b:=mR hn;simp only[TV.mk.injEq]at b;obtain⟨rfl,b⟩:=b;simp only[heq_eq_eq,and_true]at b;subst b;obtain⟨⟨Y,D,v1⟩,_,l1⟩:=Ag d e i z;obtain⟨⟨c2,F,v2⟩,_,l2⟩:=Ag d e i B;obtain⟨B1,H,_⟩:=v1.rep l1;obtain⟨B2,I,_⟩:=v2.rep l2;obtain rfl:=Uu c H;obtain rfl:=Uu c I;have heq:=N.eq t J l;rw[<-K]at heq;have X:=heq rfl c w;rw[D,F];split at h;cases h;have:=X .eql x y m n Y c2 (.inl rfl) H I;exact ma d (nV (by simpa using this));cases h;have:=X .neq x y m n Y c2 (.inr rfl) H I;exact ma d (nV (by simpa using this));cases h;cases h;cases h;cases h;cases h;cases h
def ajU(D:Inv w0 c0 U E a w G)(N:RI ops E a.tmps)(hg:Gd ops a.tmps g){tk:Nat}{o:Oper}{c x y:Operand}{Q:Ef}(R:o.op= .pick c x y)
 (h:dY C ops E.rd tk g o=some Q):D6 w0 c0 U E a ((execOp a.eval o).run P w) Q:=by
 simp only[dY,R]at h;split at h;rename_i t Y sx sy hc hx hy;split at h;rename_i p sh1 q sh2 h1 h2;cases h
 have S:a.eval c= .bool t:=by
  obtain⟨⟨I,J,l⟩,_⟩:=rb D N hg hc;cases Y with
  |leaf=>rw[J,show I=_ from l];rfl
  |sl m=>exact l.elim
  |pair _ _=>exact l.elim
 have arm:∀ {z:Operand} {sz:SV} {b:Bool} {r:Bool} {s:Sh},sO C E.rd o.type z=some sz->S9 ops c b sz=some (.d ⟨.bool,r,s⟩)->t=b->a.eval z= .bool r:=by
  intro z sz b r s L k B;obtain⟨K,_⟩:=aeY D L;have F:=ahu N L
  have fin:gQ w G (.d ⟨.bool,r,s⟩) (a.eval z)->a.eval z= .bool r:=by
   rintro⟨I,J,l⟩;cases s with
   |leaf=>rw[J,show I=_ from l];rfl
   |sl m=>exact l.elim
   |pair _ _=>exact l.elim
  cases sz with
  |g j X act v=>
   simp only[S9]at k;split at k;rename_i n;split at k;rename_i i;simp only[ac7,b_]at i;simp only[aaB]at k;subst k
   have H:yielded ops.toArray a.tmps j=some X:=by
    have hb:ops.toArray[j]?.bind (·.dst)=some n:=by simpa using i.2
    have e:a.tmps.getD n undef= .bool t:=S
    have u:a.tmps[n]?=some (.bool t):=by
     rw[ahs]at e;cases W:a.tmps[n]? with
     |none=>rw[W]at e;cases e
     |some v=>rw[W]at e;simp at e;rw[e]
    simp only[yielded,hb,Option.bind_some,u];rw[B,i.1]
   exact fin (K.1 ((F j X act _ rfl).2 H)).2;cases k;cases k
  |_=>simp only[S9,aaB]at k;rw[k]at K;exact fin K
 refine ma D ?_;simp only[execOp,R,S];cases t with
 |true=>simp[asBool,arm hx h1 rfl]
 |false=>simp[asBool,arm hy h2 rfl]
 cases h;cases h
def aeh(d:Inv w0 c0 U E a w G)(n:RI ops E a.tmps)(q:Gd ops a.tmps g){tk:Nat}{o:Oper}{x:Operand}{r:Ef}(m:o.op= .nilCheck x)
 (h:dY C ops E.rd tk g o=some r):D6 w0 c0 U E a ((execOp a.eval o).run P w) r:=by
 simp only[dY,m]at h;split at h;rename_i t u p τ j;cases h;obtain⟨c,l⟩:=rb d n q j;have b:=c;obtain⟨s,_,_,k⟩:=b;exact kB d (by simp only[execOp,m,k];rfl) (k▸c) l (by rintro _ _ ⟨⟩);rename_i t e i u p τ j;cases h;obtain⟨c,l⟩:=rb d n q j;have b:=c;obtain⟨s,_,_,_,_,_,_,_,k⟩:=b;exact kB d (by simp only[execOp,m,k];rfl) (k▸c) l (by rintro _ _ ⟨⟩);rename_i hs v j;cases h;obtain⟨c,l⟩:=rb d n q j;have b:=c;obtain⟨s,_,_,_,_,k,_⟩:=b;exact kB d (by simp only[execOp,m,k];rfl) (k▸c) l (by rintro _ _ ⟨⟩);cases h
def afp(b:Inv w0 c0 U E a w G)(n:RI ops E a.tmps)(p:Gd ops a.tmps g){tk:Nat}{o:Oper}{x:Operand}{j:Nat}{e:Ef}(i:o.op= .extract x j)
 (h:dY C ops E.rd tk g o=some e):D6 w0 c0 U E a ((execOp a.eval o).run P w) e:=by
 simp only[dY,i]at h;split at h;rename_i l m;rw[C_]at h;obtain⟨v,k,rfl⟩:=h;obtain⟨⟨vs,q,k2,r⟩,s⟩:=rb b n p m;obtain⟨u,t,q1,q2,q3⟩:=r j v k;refine kB b (mv:=u) ?_ ⟨t,q2,q3⟩ (dH.d fun c hc=>s.1 c (acf.2 ⟨v,ahd k,hc⟩)) (by rintro _ _ ⟨⟩);simp only[execOp,i,q];refine nV ?_;simp[Instr.extract,q1];cases h
def ajg(z:CxTy P C)(B:Inv w0 c0 U E a w G)(K:RI ops E a.tmps)(L:Gd ops a.tmps g){tk:Nat}{o:Oper}{s:TypeId}{x:Operand}{j:Nat}{D:Ef}(F:o.op= .field s x j)
 (h:dY C ops E.rd tk g o=some D):D6 w0 c0 U E a ((execOp a.eval o).run P w) D:=by
 simp only[dY,F]at h;split at h;rename_i i v y J;split at h;rename_i hc;simp only[ac7,b_]at hc;rw[C_]at h;obtain⟨r,S,rfl⟩:=h;obtain⟨⟨m,W,I⟩,q,_⟩:=Ag B K L J
 have b:i.τ.iu=true:=by
  cases N:i.τ.iu with
  |true=>rfl
  |false=>rw[z.fs s i y N]at hc;simp at hc
 obtain⟨fields,X,hsz,Y⟩:=(z.tt s i y).struct b;have H:j<fields.size:=by omega
 obtain⟨f1,f2,σ,f3,t⟩:=Y j fields[j] (aaY H);obtain⟨q1,q2,q3,q4⟩:=dJ.sub S I;rw[hc.1,f3]at q3;simp only[aaB]at q3;subst q3;refine kB B ?_ ⟨_,rfl,q1⟩ (dH.d fun c n=>q c (q4 c n)) (by rintro _ _ ⟨⟩);simp only[execOp,F,W];refine nV ?_;have hlen:=dJ.len I;rw[Xt (by rw[hc.1];exact b)]
 have e:(part fields[j].type m.toArray fields[j].offset).run P w= .ok (kE r.τ ((m.drop (v.τ.off (jd i.fs.length j))).take r.τ.sz)) w:=by
  rw[f1,<-hc.1];cases k:r.τ.iu with
  |true=>simp[part,O1 t,k,n7 t,Xt k,List.extract_eq_take_drop]
  |false=>
   have Q:r.τ.sz=1:=by cases p:r.τ<;>simp_all[Ty.iu,Ty.sz]
   have l:v.τ.off (jd i.fs.length j)<m.length:=by omega
   have R:(m.drop (v.τ.off (jd i.fs.length j))).take 1=[m[v.τ.off (jd i.fs.length j)]]:=by
    rw[List.take_one,akF];simp[l]
   have q:∀u:Value,kE r.τ [u]=u:=by intro u;cases p:r.τ<;>simp_all[kE,Ty.iu]
   rw[Q,R,q];simp[part,O1 t,k,l]
 simp[Instr.field,run_underlying X,aaY H,asAgg,e];cases h;cases h
def ak6(c:Inv w0 c0 U E a w G)(i:RI ops E a.tmps)(j:Gd ops a.tmps g){tk:Nat}{o:Oper}{op:UnOp}{t:TypeId}{x:Operand}{l:Ef}
 (e:o.op= .unOp op t x) (h:dY C ops E.rd tk g o=some l):D6 w0 c0 U E a ((execOp a.eval o).run P w) l:=by
 simp only[dY,e]at h;split at h;rename_i b m d;cases h;exact ma c (by simp only[execOp,e,U5 c i j d];exact nV (by simp[Op.unary]));rename_i k n m d;cases h;exact nv c (by simp only[execOp,e,nY c i j d];exact nV (by simp[Op.unary,Op.intArith]));cases h
def agM{t:TypeId}{i:TI}(h:ZX P t i):∃d,(underlying t).run P w= .ok d w:=by
 obtain⟨⟨inf,d,_,_,_,_,b,_⟩,_⟩:=h;exact⟨d,run_underlying b w⟩
theorem aax:∀ {l:List Int} {cs:List Value} {B:List Nat},cr (bP w (.int .u8)) l cs B->cs=l.map fun n=>Value.int .u8 n
 | [],_,_,h=>h.1
 |n::l,cs,B,h=>by
  obtain⟨c1,c2,B1,B2,rfl,rfl,b,c⟩:=h;rw[b.1,aax c];rfl
def ajx(u:CxTy P C)(y:Inv w0 c0 U E a w G)(L:RI ops E a.tmps)(N:Gd ops a.tmps g){tk:Nat}{o:Oper}{s d:TypeId}{x:Operand}{ef:Ef}
 (K:o.op= .convert s d x) (h:dY C ops E.rd tk g o=some ef):D6 w0 c0 U E a ((execOp a.eval o).run P w) ef:=by
 simp only[dY,K]at h;split at h;rename_i J p;obtain⟨ds,H⟩:=agM (w:=w) (u.tt s J p);split at h;rename_i k X el k' n Y z D;cases h;have q:P.underlying d=some (.int k):=(u.tt d _ z).2;refine nv y ?_;simp only[execOp,K,nY y L N D];refine nV ?_;simp[convert,H,run_underlying q,Conv.intToInt];rename_i X el v Y z D;cases h;have q:P.underlying d=some .string:=(u.tt d _ z).2;refine KI y ?_;simp only[execOp,K,JE y L N D];refine nV ?_;simp[convert,H,run_underlying q];rename_i X el l Y z D;split at h;rename_i hτ;cases h;have q:P.underlying d=some .string:=(u.tt d _ z).2;have hT:=(u.tt s J p).2;rw[hτ]at hT;obtain⟨t,hel⟩:=hT;obtain⟨m,hm,I,R,_⟩:=Ai y L N D;obtain⟨B,hB,_⟩:=I.rep R;refine KI y ?_;simp only[execOp,K];refine nV ?_;have r:P.underlying J.el=some (.int .u8):=u.u8 s J p hτ;rcases hB with⟨e,rfl,_⟩|⟨b,off,cap,c,el',fz,Bs,e,hcap,hb,S,rfl,W⟩;obtain⟨ao,e⟩:=e;rw[e];cases ao with
 |none=>
  simp[convert,run_underlying t,run_underlying q,run_underlying r,Conv.bytesToString];rfl
 |some ad=>
  have i:=run_loadCells_list (P:=P) w ad [] (fun j v e=>by simp at e);rw[run_convert_bytes_string w s d _ _ _ _ t r q,run_bytesToString w _ 0 0 [] (by simpa using i),foldl_push_bytes];congr 3
 rw[e];have F:(Ty.int IntKind.u8).sz=1:=rfl;rw[F,Nat.mul_one]at W S;have Q:=aax W
 have hlen:((c.toList.drop off).take l.length).length=l.length:=by
  have:=cr.len (sz:=1) (fun x c B h=>bP.len h) W;simpa using this
 have i:=run_loadCells_list (P:=P) w ⟨b,off,none⟩ ((c.toList.drop off).take l.length) (fun j v e=>by
  rw[Addr.add_lit,JG hb];exact aas e)
 rw[hlen,Q]at i;rw[run_convert_bytes_string w s d _ _ _ _ t r q,run_bytesToString w _ l.length cap l i,foldl_push_bytes];congr 3;simp;cases h;cases h;cases h
def ajh(z:CxTy P C)(d:Inv w0 c0 U E a w G)(l:RI ops E a.tmps)(m:Gd ops a.tmps g){tk:Nat}{o:Oper}{t:TypeId}{x n:Operand}{p:Ef}
 (q:o.op= .index t x n) (h:dY C ops E.rd tk g o=some p):D6 w0 c0 U E a ((execOp a.eval o).run P w) p:=by
 simp only[dY,q]at h;split at h;rename_i r s sh k i sh' c u v;split at h;rename_i y;cases h;intro hc;obtain⟨F,H⟩:=e_ hc;have B:P.underlying t=some .string:=by have:=(z.tt t r c).2;rw[y]at this;exact this
 refine nv d ?_;simp only[execOp,q,JE d l m u,nY d l m v];refine nV ?_;have e: @LE.le Int aeP 0 i:=F;have h1': @LT.lt Int Int.instLTInt i (s.size:Int):=H;have j:i.toNat<s.size:=by omega
 have b:s[i.toNat]?=some s[i.toNat]:=getElem?_pos ..
 have D:bt s i=(s[i.toNat].toNat:Int):=by
  simp only[bt]
  have:s.data.toList[i.toNat]?=some s[i.toNat]:=by
   rw[Array.getElem?_toList,aaY (by exact j)];rfl
  rw[ahH,this];rfl
 simp[Instr.index,asIntOf,run_underlying B,e,b,D];cases h;cases h
def akm(hC:CxTy P C)(p:Inv w0 c0 U E a w G)(r:RI ops E a.tmps)(D:Gd ops a.tmps g){tk:Nat}{o:Oper}{c:Call}{b:Builtin}{X:Ef}
 (I:o.op= .call c) (J:c.callee= .builtin b) (hq:∀x y z u v,X≠ .app x y z u v) (h:dY C ops E.rd tk g o=some X):D6 w0 c0 U E a ((execOp a.eval o).run P w) X:=by
 simp only[dY,I,J]at h;unfold JM at h;split at h
 rename_i x t F j;have d:c.args= #[x]:=M' (by simpa using F);have i:c.argTypes= #[t]:=M' (by simpa using j);split at h;cases h;rename_i ti H;split at h;rename_i e l N q;split at h;rename_i Q;cases h;have K:=(hC.tt t ti H).2;rw[Q]at K;obtain⟨m,hm,L,Y,_⟩:=Ai p r D q;obtain⟨B,hB,_⟩:=L.rep Y;refine nv p ?_;simp only[execOp,I]
 rcases hB with⟨⟨ao,hv⟩,rfl,_⟩|⟨b,off,cap,c,el',fz,Bs,hv,_⟩<;>
  simp[resolve,J,invoke,builtin,d,i,hv,Builtin.len_,run_underlying K.1,goInt]
 cases h;rename_i s N q;split at h;rename_i Q;cases h;have K:=(hC.tt t ti H).2;rw[Q]at K;refine nv p ?_;simp only[execOp,I];simp[resolve,J,invoke,builtin,d,i,JE p r D q,Builtin.len_,run_underlying K,goInt];cases h;cases h
 rename_i x y t u F j;have d:c.args= #[x,y]:=M' (by simpa using F);have i:c.argTypes= #[t,u]:=M' (by simpa using j);split at h;rename_i k m N k' n R q S;split at h;rename_i W;subst W;cases h;refine nv p ?_;simp only[execOp,I];simp[resolve,J,invoke,builtin,d,i,nY p r D q,nY p r D S,Builtin.min_,Builtin.min2];cases h;cases h
 rename_i x y t u F j;have d:c.args= #[x,y]:=M' (by simpa using F);have i:c.argTypes= #[t,u]:=M' (by simpa using j);split at h;rename_i k m N k' n R q S;split at h;rename_i W;subst W;cases h;refine nv p ?_;simp only[execOp,I];simp[resolve,J,invoke,builtin,d,i,nY p r D q,nY p r D S,Builtin.max_,Builtin.max2];cases h;cases h
 split at h;split at h;split at h;split at h;cases h;exact absurd rfl (hq _ _ _ _ _);cases h;cases h;cases h;cases h;cases h
def Good(U:Nat->Prop)(G:Gh)(c:Nat):Prop:=0<c/\U c/\G.bx c=false
structure R5(w:World)(U:Nat->Prop)(G:Gh)(U':Nat->Prop)(G':Gh)(f:M->M)(fe:Nat->Bool)(fr:List Nat->Option (List Nat)):Prop where
 row:∀(e:Ty) (l:List e.den) (v:Value) (m:M),gq w G e l v m->(∀c∈m.bc,Good U G c)->gq w G' e l v (f m)
 good:∀m:M,(∀c∈m.bc,Good U G c)->∀c∈(f m).bc,Good U' G' c
 rd:∀hs hs',fr hs=some hs'->(∀c∈hs,Good U G c)->(∀c∈hs',Good U' G' c)/\∀b,G.col b∈hs->G'.col b∈hs'
 hdr:∀t,U t->G'.hdr t=G.hdr t
 bx:∀t,U t->G.bx t=true->G'.bx t=true/\∀b,G.col b=t->G'.col b=t
 ru:∀t,U t->G.bx t=false->G'.bx t=false
 mono:∀t,U t->U' t
section
variable{U':Nat->Prop}{G':Gh}{f:M->M}{fe:Nat->Bool}{fr:List Nat->Option (List Nat)}
theorem Sh.N5(o:R5 w U G U' G' f fe fr):∀ {sh:Sh},(∀c∈sh.bc,Good U G c)->∀c∈(sh.map f).bc,Good U' G' c
 | .leaf,_,c,h=>by simp[Sh.map,Sh.bc]at h
 | .sl m,hc,c,h=>o.good m hc c h
 | .pair a b,hc,c,h=>by
   simp only[Sh.map,Sh.bc,h_]at h;exact h.elim (Sh.N5 o (fun c h=>hc c (by simp[Sh.bc,h])) c) (Sh.N5 o (fun c h=>hc c (by simp[Sh.bc,h])) c)
theorem dJ.map(o:R5 w U G U' G' f fe fr):∀ {τ:Ty} {x:τ.den} {sh:Sh} {cs:List Value},dJ w G τ x sh cs->(∀c∈sh.bc,Good U G c)->
 dJ w G' τ x (sh.map f) cs
 | .int _,_,.leaf,_,h,_=>h
 | .bool,_,.leaf,_,h,_=>h
 | .str,_,.leaf,_,h,_=>h
 | .sl e,l,.sl m,cs,h,hc=>by
   obtain⟨v,rfl,q⟩:=h;exact⟨v,rfl,o.row _ _ _ _ q hc⟩
 | .pair a b,p,.pair s1 s2,cs,h,hc=>by
   obtain⟨u,y,rfl,z,B⟩:=h;exact⟨u,y,rfl,dJ.map o z (fun c h=>hc c (by simp[Sh.bc,h])),dJ.map o B (fun c h=>hc c (by simp[Sh.bc,h]))⟩
 | .int _,_,.sl _,_,h,_| .int _,_,.pair _ _,_,h,_| .bool,_,.sl _,_,h,_| .bool,_,.pair _ _,_,h,_
 | .str,_,.sl _,_,h,_| .str,_,.pair _ _,_,h,_| .sl _,_,.leaf,_,h,_| .sl _,_,.pair _ _,_,h,_
 | .pair _ _,_,.leaf,_,h,_| .pair _ _,_,.sl _,_,h,_=>h.elim
theorem dH.map(q:R5 w U G U' G' f fe fr):∀ {s:SV},dH U G s->dH U' G' (s.mapM f fe fr)
 | .no,_=>by simp[SV.mapM,dH,SV.sc,SV.bt,SV.rt]
 | .d v,hm=>dH.d (Sh.N5 q hm.1)
 | .box t v,hm=>by
   have h:=hm.2.1 t (by simp[SV.bt]);refine⟨Sh.N5 q hm.1,?_,by simp[SV.mapM,SV.rt]⟩;intro c hc;simp only[SV.mapM,SV.bt,afi]at hc;subst hc;exact⟨h.1,q.mono _ h.2.1,(q.bx _ h.2.1 h.2.2).1⟩
 | .ptr t o p τ,hm=>by
   have h:=hm.2.1 t (by simp[SV.bt]);refine⟨by simp[SV.mapM,SV.sc],?_,by simp[SV.mapM,SV.rt]⟩;intro c hc;simp only[SV.mapM,SV.bt,afi]at hc;subst hc;exact⟨h.1,q.mono _ h.2.1,(q.bx _ h.2.1 h.2.2).1⟩
 | .ept t e i o p τ,hm=>by
   simp only[SV.mapM];split;have h:=hm.2.2 t (by simp[SV.rt]);refine⟨by simp[SV.sc],by simp[SV.bt],?_⟩;intro c hc;simp only[SV.rt,afi]at hc;subst hc;exact⟨h.1,q.mono _ h.2.1,q.ru _ h.2.1 h.2.2⟩;simp[dH,SV.sc,SV.bt,SV.rt]
 | .rdp hs v,hm=>by
   simp only[SV.mapM];split;rename_i u y;obtain⟨z,k2⟩:=q.rd hs u y (fun c hc=>hm.1 c (by simp[SV.sc,hc]));refine⟨?_,by simp[SV.bt],by simp[SV.rt]⟩;intro c hc;simp only[SV.sc,h_]at hc;exact hc.elim (z c) (Sh.N5 q (fun c hc=>hm.1 c (by simp[SV.sc,hc])) c);simp[dH,SV.sc,SV.bt,SV.rt]
 | .tup l,hm=>by
   refine⟨?_,by simp[SV.mapM,SV.bt],by simp[SV.mapM,SV.rt]⟩;intro c hc;simp only[SV.mapM,SV.sc,akA,acf]at hc;obtain⟨v,B,hc⟩:=hc;exact Sh.N5 q (fun c hc=>hm.1 c (acf.2 ⟨v,B,hc⟩)) c hc
 | .g j w' true v,hm=>by
   have:=dH.map (s:=v) q (by simpa[dH,SV.sc,SV.bt,SV.rt]using hm);simpa[dH,SV.mapM,SV.sc,SV.bt,SV.rt]using this
 | .g j w' false v,hm=>by simp[dH,SV.mapM,SV.sc,SV.bt,SV.rt]
theorem gQ.map(h:R5 w U G U' G' f fe fr):∀ {s:SV} {mv:Value},gQ w G s mv->dH U G s->gQ w G' (s.mapM f fe fr) mv
 | .no,_,_,_=>trivial
 | .d v,mv,⟨B,h1,h2⟩,hm=>⟨B,h1,dJ.map h h2 hm.1⟩
 | .box t v,mv,⟨bk,c,el,h1,h2,h3,h4,h5,h6⟩,hm=>by
   have q:=hm.2.1 t (by simp[SV.bt]);have L:=h.bx t q.2.1 q.2.2;exact⟨bk,c,el,h1,h2,(h.hdr t q.2.1).trans h3,L.2 _ h4,h5,dJ.map h h6 hm.1⟩
 | .ptr t o p τ,mv,⟨bk,h1,h2,h3⟩,hm=>by
   have q:=hm.2.1 t (by simp[SV.bt]);exact⟨bk,h1,(h.hdr t q.2.1).trans h2,h3⟩
 | .ept t e i o p τ,mv,⟨b,off,n,cap,h1,h2,h3⟩,hm=>by
   simp only[SV.mapM];split;have q:=hm.2.2 t (by simp[SV.rt]);exact⟨b,off,n,cap,h1,(h.hdr t q.2.1).trans h2,h3⟩;trivial
 | .rdp J v,mv,⟨b,o,c,el,fz,h1,h2,h3,h4,h5⟩,hm=>by
   simp only[SV.mapM];split;rename_i z K;obtain⟨k1,N⟩:=h.rd J z K (fun c hc=>hm.1 c (by simp[SV.sc,hc]));exact⟨b,o,c,el,fz,h1,h2,h3,N _ h4,dJ.map h h5 (fun c hc=>hm.1 c (by simp[SV.sc,hc]))⟩;trivial
 | .tup l,mv,⟨vs,h1,h2,h3⟩,hm=>by
   refine⟨vs,h1,by simp[h2],fun i v H=> ?_⟩;rw[agW,C_]at H;obtain⟨I,y,rfl⟩:=H;obtain⟨u,B,Q,D,R⟩:=h3 i I y;exact⟨u,B,Q,D,dJ.map h R (fun c hc=>hm.1 c (acf.2 ⟨I,ahd y,hc⟩))⟩
 | .g j w' false v,mv,⟨h1,h2⟩,hm=>⟨fun e=>absurd e (by simp),h2⟩
 | .g j w' true v,mv,⟨h1,h2⟩,hm=>⟨fun e=>⟨by
  have:=(h1 e).1;cases v with
  |box t v=>simp[SV.mq]at this
  |ept t e i o p τ=>simp only[SV.mapM];split<;>rfl
  |rdp J v=>simp only[SV.mapM];split<;>rfl
  |_=>rfl,gQ.map (s:=v) h (h1 e).2 (by simpa[dH,SV.sc,SV.bt,SV.rt]using hm)⟩,h2⟩
def TF{s:SV}{t:Nat}{u:TV}(h:s.mapM f fe fr= .box t u):∃b,s= .box t b:=by
 cases s with
 |box c v=>simp only[SV.mapM,SV.box.injEq]at h;exact⟨v,by rw[h.1]⟩
 |ept c e i o p τ=>simp only[SV.mapM]at h;split at h<;>cases h
 |rdp hs v=>simp only[SV.mapM]at h;split at h<;>cases h
 |_=>simp[SV.mapM]at h
def getD_map{L:List SV}{T:SV->SV}(b:T .no= .no)(s:Nat):(L.map T).getD s .no=T (L.getD s .no):=by
 simp only[agq,agW];cases L[s]?<;>simp[b]
theorem Inv.map(o:Inv w0 c0 U E a w G)(q:R5 w U G U' G' f fe fr)(H:∀b,0<G'.col b->U' (G'.col b))
 (p:∀b,(0<G'.col b->0<G.col b)/\(G.col b<4->G'.col b=G.col b)/\(G'.col b<4->G'.col b=G.col b)):
 Inv w0 c0 U' {E with s:=E.s.map (SV.mapM f fe fr)} a w G':=by
 have B:∀s,({E with s:=E.s.map (SV.mapM f fe fr)}:Env).s.getD s .no=(E.s.getD s .no).mapM f fe fr:=fun s=>getD_map (T:=SV.mapM f fe fr) rfl s;have I:∀s,dH U' G' ((E.s.getD s .no).mapM f fe fr):=fun s=>dH.map q (o.Kt s);refine⟨by simpa using o.len,fun s=> ?_,fun s=> ?_,fun s=> ?_,fun s=> ?_,fun s L t v v' z K=> ?_,H,fun b y=>o.lt b ((p b).1 y),fun b y=>o.fresh b ?_,fun b y hc=> ?_,fun b y=> ?_,o.size,o.os,o.tape,o.output,o.defers,⟨⟨q.mono _ o.two.1.1,q.ru _ o.two.1.1 o.two.1.2⟩,q.mono _ o.two.2.1,q.ru _ o.two.2.1 o.two.2.2⟩,fun D t v e=>⟨q.mono _ (o.hk D t v e).1,(q.hdr t (o.hk D t v e).1).trans (o.hk D t v e).2⟩⟩;rw[B];exact gQ.map q (o.slots s) (o.Kt s);rw[B];exact(I s).1;rw[B];exact(I s).2.1;rw[B];exact(I s).2.2;rw[B]at z K;obtain⟨u,N⟩:=TF z;obtain⟨Q,J⟩:=TF K;exact o.uni s L t u Q N J;have z:=(p b).2.1;rcases ahc (G.col b) 4 with h|h;have:=z h;omega;exact h;have h:=o.frame b y hc;exact⟨by rw[(p b).2.1 (by rw[h.1];exact hc)];exact h.1,h.2⟩;have z:=(p b).2.2 (by omega);rw[z]at y|-;exact o.one b y
end
def Lj{a b:List Nat}(h:meets a b=false):∀c∈a,c∉b:=by
 simp only[meets,List.any_eq_false,agm,b_]at h;exact h
def Cb(ts:List Nat)(m:M):∀c∈(m.kill ts).bc,c∈m.bc/\c∉ts:=by
 intro c hc;unfold M.kill at hc;split at hc;simp[M.bc]at hc;rename_i b;exact⟨hc,Lj (by simpa using b) c hc⟩
def ajS(ts:List Nat):R5 w U G U G (M.kill ts) (!ts.contains ·) (fun hs=>if meets hs ts then none else some hs) where
 row e l v m h _:=by
  unfold M.kill;split;exact h.one;exact h
 good m h c hc:=h c (Cb ts m c hc).1
 rd hs hs' h hg:=by
  split at h;cases h;cases h;exact⟨hg,fun b d=>d⟩
 hdr _ _:=rfl
 bx t _ d:=⟨d,fun _ h=>h⟩
 ru _ _ h:=h
 mono _ h:=h
theorem Inv.kill(o:Inv w0 c0 U E a w G)(ts:List Nat):Inv w0 c0 U (E.kill ts) a w G:=by
 unfold Env.kill;split;exact o;exact o.map (ajS ts) o.colU (fun b=>⟨fun h=>h,fun _=>rfl,fun _=>rfl⟩)
theorem Sh.Cb{ts:List Nat}:∀(sh:Sh),∀c∈(sh.map (M.kill ts)).bc,c∈sh.bc/\c∉ts
 | .leaf,c,h=>by simp[Sh.map,Sh.bc]at h
 | .sl m,c,h=>Vg.Cb ts m c h
 | .pair a b,c,h=>by
   simp only[Sh.map,Sh.bc,h_]at h|-;rcases h with h|h;have:=Sh.Cb a c h;exact⟨.inl this.1,this.2⟩;have:=Sh.Cb b c h;exact⟨.inr this.1,this.2⟩
theorem SV.Te{ts:List Nat}:∀(s:SV),∀c∈(s.kill ts).sc,c∈s.sc/\c∉ts
 | .no,c,h| .ptr ..,c,h=>by simp[SV.kill,SV.mapM,SV.sc]at h
 | .d v,c,h=>Sh.Cb v.sh c h
 | .box t v,c,h=>Sh.Cb v.sh c h
 | .ept t e i o p τ,c,h=>by simp only[SV.kill,SV.mapM]at h;split at h<;>simp[SV.sc]at h
 | .rdp hs v,c,h=>by
   simp only[SV.kill,SV.mapM]at h;by_cases q:meets hs ts=true;simp[q,SV.sc]at h;simp only[q,ahv,if_false,SV.sc,h_]at h;rcases h with h|h;exact⟨by simp[SV.sc,h],Lj (by simpa using q) c h⟩;have:=Sh.Cb v.sh c h;exact⟨by simp[SV.sc,this.1],this.2⟩
 | .tup l,c,h=>by
   simp only[SV.kill,SV.mapM,SV.sc,akA,acf]at h;obtain⟨v,u,hc⟩:=h;have:=Sh.Cb v.sh c hc;exact⟨acf.2 ⟨v,u,this.1⟩,this.2⟩
 | .g j w' true v,c,h=>by
   have:=SV.Te (ts:=ts) v c (by simpa[SV.kill,SV.mapM,SV.sc]using h);simpa[SV.sc]using this
 | .g j w' false v,c,h=>by simp[SV.kill,SV.mapM,SV.sc]at h
theorem Env.UJ(E:Env)(ts:List Nat)(s:Nat):(E.kill ts).s.getD s .no=if ts.isEmpty then E.s.getD s .no else(E.s.getD s .no).kill ts:=by
 unfold Env.kill;split;rfl;exact getD_map (T:=SV.kill ts) rfl s
theorem Env.Te(E:Env)(ts:List Nat)(s:Nat):∀c∈((E.kill ts).s.getD s .no).sc,c∈(E.s.getD s .no).sc/\c∉ts:=by
 intro c hc;rw[Env.UJ]at hc;split at hc;rename_i h;have:ts=[]:=by simpa using h
 subst this;exact⟨hc,by simp⟩;exact SV.Te _ c hc
def Gh.cu(G:Gh)(ts:List Nat)(t:Nat)(v:Value):Gh:=
 ⟨fun b=>if G.col b∈ts then t else G.col b,fun u=>if u=t then v else G.hdr u,fun u=>if u=t then false else G.bx u⟩
def SN{ts:List Nat}{t c:Nat}{hs:List Nat}(h:c∈hs):(if c∈ts then t else c)∈O9 ts t hs:=by
 unfold O9;rw[agS,List.mem_map];exact⟨c,h,by simp⟩
def ab0{ts:List Nat}{t c:Nat}{hs:List Nat}(h:c∈O9 ts t hs):c=t\/(c∈hs/\c∉ts):=by
 unfold O9 at h;rw[agS,List.mem_map]at h;obtain⟨d,b,rfl⟩:=h;by_cases e:d∈ts;left;simp[e];right;simp[e,b]
def Z0{ts:List Nat}{t:Nat}{hs:List Nat}(h:O9 ts t hs=[]):hs=[]:=by
 cases hs with
 |nil=>rfl
 |cons c l=>
  have:=SN (ts:=ts) (t:=t) (List.mem_cons_self (a:=c) (l:=l));rw[h]at this;simp at this
theorem Z9{ts:List Nat}{t:Nat}{v:Value}(h3:4<=t)(I:∀c∈ts,4<=c/\Good U G c)(F:U t->v=G.hdr t/\G.bx t=false):
 R5 w U G (fun u=>U u\/u=t) (G.cu ts t v) (M.cu ts t) (!ts.contains ·) (fun hs=>some (if meets hs ts then O9 ts t hs else hs)):=by
 have d:∀c,Good U G c->Good (fun u=>U u\/u=t) (G.cu ts t v) c:=by
  rintro c ⟨h1,h2,h4⟩;refine⟨h1,.inl h2,?_⟩;simp only[Gh.cu];split;rfl;exact h4
 have j:∀c hs,(∀c∈hs,Good U G c)->c∈O9 ts t hs->Good (fun u=>U u\/u=t) (G.cu ts t v) c:=by
  intro c hs q hc;rcases ab0 hc with rfl|⟨hc,_⟩;exact⟨by omega,.inr rfl,by simp[Gh.cu]⟩;exact d c (q c hc)
 have n:∀b hs,G.col b∈hs->(G.cu ts t v).col b∈O9 ts t hs:=fun b hs h=>SN h
 have r:∀b hs,meets hs ts=false->G.col b∈hs->(G.cu ts t v).col b=G.col b:=fun b hs D k=>by
  have:=Lj D _ k;simp[Gh.cu,this]
 refine⟨fun e l u m h q=> ?_,fun m q c hc=> ?_,fun hs hs' h q=> ?_,fun u z=> ?_,fun u z k=> ?_,fun u z k=> ?_,fun u z=> .inl z⟩;unfold M.cu;cases D:meets m.bc ts with
 |false=>
  simp only[ahv,if_false];refine gq.agree (w:=w) (G:=G) ⟨fun _ _=>rfl,fun b k=>r b _ D k,fun c hc=> ?_⟩ h;simp only[Gh.cu];split;rename_i e;subst e;exact(F (q _ hc).2.1).1;rfl
 |true=>
  simp only[if_true];cases m with
  |row u' hs nd=>
   simp only[M.PV];split;rename_i s;obtain⟨B,y,hc⟩:=h.rep (by simp);exact⟨⟨B,y,fun b k=>n b _ (hc b k)⟩,fun e=>absurd (Z0 e) (by simp)⟩;rename_i s;simp only[agm,b_]at s;obtain⟨R,K,B,y,hc⟩:=h;refine⟨R,?_,B,y,fun b L N=> ?_⟩;simp only[Gh.cu];split;rename_i e;subst e;rw[<-K];exact(F (q _ (by simp[M.bc])).2.1).1;exact K;obtain⟨S,W,X,Y⟩:=hc b L N;exact⟨by simp only[Gh.cu,S];simp[s],W,fun x Q=>n x _ (X x Q),Y⟩
  |sha hs=>
   obtain⟨⟨B,y,hc⟩,hn⟩:=h;exact⟨⟨B,y,fun b k=>n b _ (hc b k)⟩,fun e=>hn (Z0 e)⟩
  |nst b E i o p fr=>
   obtain⟨B,y,hc⟩:=h.rep (by simp);exact⟨⟨B,y,fun b k=>n b _ (hc b k)⟩,fun e=>absurd (Z0 e) (by simp)⟩
  |dead=>exact h
 unfold M.cu at hc;split at hc;cases m with
 |row u' hs nd=>
  simp only[M.PV]at hc;split at hc;exact j c _ q hc;rename_i s;simp only[M.bc,B_]at hc;rcases hc with rfl|hc;exact d c (q c (by simp[M.bc]));exact j c hs (fun c hc=>q c (by simp[M.bc,hc])) hc
 |sha hs=>exact j c hs q hc
 |nst b E i o p fr=>exact j c [b] q hc
 |dead=>simp[M.PV,M.bc]at hc
 exact d c (q c hc);simp only[aaB]at h;subst h;split;exact⟨fun c hc=>j c hs q hc,fun b k=>n b hs k⟩;rename_i D;exact⟨fun c hc=>d c (q c hc),fun b k=>by rw[r b hs (by simpa using D) k];exact k⟩;simp only[Gh.cu];split;rename_i e;subst e;exact(F z).1;rfl
 have J:u≠t:=by
  rintro rfl;rw[(F z).2]at k;cases k
 refine⟨by simp[Gh.cu,J,k],fun b H=> ?_⟩;have:u∉ts:=fun h=>by rw[(I u h).2.2.2]at k;cases k
 simp[Gh.cu,H,this];simp only[Gh.cu];split;rfl;exact k
theorem Inv.cu(q:Inv w0 c0 U E a w G){ts:List Nat}{t:Nat}{v:Value}(I:4<=t)(z:∀c∈ts,4<=c/\Good U G c)(H:U t->v=G.hdr t/\G.bx t=false):
 Inv w0 c0 (fun u=>U u\/u=t) (E.cu ts t) a w (G.cu ts t v):=by
 have B:∀b,0<(G.cu ts t v).col b->(U ((G.cu ts t v).col b)\/(G.cu ts t v).col b=t):=by
  intro b p;simp only[Gh.cu]at p|-;split;exact .inr rfl;rename_i h;rw[a_ h]at p;exact .inl (q.colU b p)
 have D:∀b,(0<(G.cu ts t v).col b->0<G.col b)/\(G.col b<4->(G.cu ts t v).col b=G.col b)/\((G.cu ts t v).col b<4->(G.cu ts t v).col b=G.col b):=by
  intro b;simp only[Gh.cu];by_cases h:G.col b∈ts;have:=(z _ h).1;simp only[h,if_true];omega;simp[h]
 unfold Env.cu;split;rename_i J;have:ts=[]:=by simpa using J
 subst this;have o:=q.map (f:=M.cu [] t) (Z9 (w:=w) (v:=v) I z H) B D;refine {q.mono (U':=fun u=>U u\/u=t) (fun c h=> .inl h)with slots:=fun s=> ?_,sc:=fun s c hc=> ?_,bt:=fun s c hc=> ?_,rt:=fun s c hc=> ?_,colU:=B,fresh:=o.fresh,lt:=o.lt,frame:=o.frame,one:=o.one,two:=o.two,hk:=o.hk};refine gQ.agree (w:=w) (G:=G) ⟨fun _ _=>rfl,fun b p=>by simp[Gh.cu],fun u y=> ?_⟩ (q.slots s)
 have K:U u:=by
  simp only[h_]at y;rcases y with(y|y)|y;exact(q.sc s u y).2.1;exact(q.bt s u y).2.1;exact(q.rt s u y).2.1
 simp only[Gh.cu];split;rename_i e;subst e;exact(H K).1;rfl;have:=q.sc s c hc;refine⟨this.1,.inl this.2.1,?_⟩;simp only[Gh.cu];split;rfl;exact this.2.2;have p:=q.bt s c hc;refine⟨p.1,.inl p.2.1,?_⟩;simp only[Gh.cu];split;rename_i e;subst e;have h:=(H p.2.1).2;rw[h]at p;cases p.2.2;exact p.2.2;have:=q.rt s c hc;refine⟨this.1,.inl this.2.1,?_⟩;simp only[Gh.cu];split;rfl;exact this.2.2;exact q.map (Z9 I z H) B D
theorem Inv.change(o:Inv w0 c0 U E a w G){ts:List Nat}{U':Nat->Prop}{w':World}{G':Gh}
 (hs:∀s,∀c∈(E.s.getD s .no).hc,c∉ts)
 (B:∀b,0<G.col b->G.col b∉ts->w'.heap[b]?=w.heap[b]?/\G'.col b=G.col b)
 (p:∀t,U t->G'.hdr t=G.hdr t/\G'.bx t=G.bx t) (z:∀c,U c->U' c)
 (D:∀b,0<G'.col b->U' (G'.col b)) (lt:∀b,0<G'.col b->b<w'.heap.size)
 (fresh:∀b,4<=G'.col b->∃c el,w'.heap[b]?=some (.cells c el (0,0)))
 (frame:∀b,b<w0.heap.size->c0.col b<4->G'.col b=c0.col b/\w'.heap[b]?=w0.heap[b]?)
 (one:∀b,G'.col b=1\/G'.col b=3->G.col b=G'.col b) (size:w.heap.size<=w'.heap.size)
 (J:w'.os=w.os) (tape:w'.tape=w.tape) (output:w'.output=w.output):Inv w0 c0 U' E a w' G':=by
 have I:∀s u,u∈(E.s.getD s .no).sc++(E.s.getD s .no).bt++(E.s.getD s .no).rt->U u:=by
  intro s u y;simp only[h_]at y;rcases y with(y|y)|y;exact(o.sc s u y).2.1;exact(o.bt s u y).2.1;exact(o.rt s u y).2.1
 refine⟨o.len,fun s=> ?_,fun s c hc=> ?_,fun s c hc=> ?_,fun s c hc=> ?_,o.uni,D,lt,fresh,frame,fun b q=>by have h:=o.one b (by rw[one b q];exact q);rw[one b q]at h;exact h,Nat.le_trans o.size size,J.trans o.os,tape.trans o.tape,output.trans o.output,o.defers,⟨⟨z _ o.two.1.1,by rw[(p 2 o.two.1.1).2];exact o.two.1.2⟩,z _ o.two.2.1,by rw[(p 3 o.two.2.1).2];exact o.two.2.2⟩,fun H t v e=>⟨z _ (o.hk H t v e).1,(p t (o.hk H t v e).1).1.trans (o.hk H t v e).2⟩⟩;refine gQ.agree (w:=w) (G:=G) ⟨fun b q=> ?_,fun b q=> ?_,fun u y=>(p u (I s u y)).1⟩ (o.slots s);have:0<G.col b:=by rcases SV.VU _ _ q with q|q;exact(o.sc s _ q).1;exact(o.bt s _ q).1
 exact(B b this (hs s _ q)).1;have:0<G.col b:=by rcases SV.VU _ _ q with q|q;exact(o.sc s _ q).1;exact(o.bt s _ q).1
 exact(B b this (hs s _ q)).2;have:=o.sc s c hc;exact⟨this.1,z _ this.2.1,by rw[(p c this.2.1).2];exact this.2.2⟩;have:=o.bt s c hc;exact⟨this.1,z _ this.2.1,by rw[(p c this.2.1).2];exact this.2.2⟩;have:=o.rt s c hc;exact⟨this.1,z _ this.2.1,by rw[(p c this.2.1).2];exact this.2.2⟩
end
section
variable{P:Program}{C:Cx}{w0:World}{c0:C0}{U:Nat->Prop}{E:Env}{a:Act}{w:World}{G:Gh}{ops:List Oper}{g:Option (Nat×Bool)}
def aai(w:World)(v:Value)(n sz:Nat)(cs:List Value):Prop:=
 cs.length=n*sz/\∃(b:Option Addr) (cap:Nat),v= .slice b n cap/\n<=cap/\(b=none->n=0/\cap=0)/\∀a,b=some a->∀(j:Nat) (u:Value),cs[j]?=some u->w.cell? (a.add j)=some u
theorem me.cells{e:Ty}{l:List e.den}{v:Value}{B:List Nat}(h:me w e.sz (bP w e) l v B):
 ∃cs,aai w v l.length e.sz cs/\cr (bP w e) l cs (B.drop 1)/\
  (∀p n cap,v= .slice (some p) n cap->0<cap->∃b off,p=⟨b,off,none⟩/\B=b::B.drop 1/\n=l.length/\∃c el q,w.heap[b]?=some (.cells c el q)/\off+cap*e.sz<=c.size/\cs=(c.toList.drop off).take (l.length*e.sz)):=by
 rcases h with⟨⟨K,rfl⟩,rfl,rfl⟩|⟨b,off,cap,c,el,q,Bs,D,o,H,z,rfl,I⟩;exact⟨[],⟨by simp,K,0,rfl,afc _,fun _=>⟨rfl,rfl⟩,fun a _ j u y=>by simp at y⟩,⟨rfl,rfl⟩,fun p n cap h hc=>by cases h;omega⟩;refine⟨_,⟨cr.len (sz:=e.sz) (fun x c B h=>bP.len h) I,some ⟨b,off,none⟩,cap,D,o,by simp,fun a J j u y=> ?_⟩,I,fun p n' cap' h _=> ?_⟩;cases J;rw[Addr.add_lit,JG H];exact aas y;rw[D]at h;cases h;exact⟨b,off,rfl,rfl,rfl,c,el,q,H,z,rfl⟩
theorem cr.afM{e:Ty}{l:List e.den}{cs:List Value}{B:List Nat}(h:cr (bP w e) l cs B):∀v∈cs,v.oneCell'=true:=by
 induction l generalizing cs B with
 |nil=>rw[h.1];simp
 |cons x l u=>
  obtain⟨c1,c2,B1,B2,rfl,rfl,p,q⟩:=h;intro v o;rcases h_.1 o with o|o;exact bP.one p v o;exact u q v o
def afg{t ty:TypeId}{el:TypeId}{e:Ty}(J:P.underlying t=some (.slice el))(hT:tQ P el e){y X:Value}{n m:Nat}{xs ys:List Value}
 (hx:aai w y n e.sz xs) (hy:aai w X m e.sz ys) (h1:∀u∈ys,u.oneCell'=true) (hb:n+m<4294967296)
 (b0:∀H k cap,y= .slice (some H) k cap->0<cap->∃b off,H=⟨b,off,none⟩/\∃c I,w.heap[b]?=some (.cells c I (0,0))/\off+cap*e.sz<=c.size):
 (m=0/\(Builtin.append_ #[t,t] ty #[y,X]).run P w= .ok y w)\/
 (∃b off cap,y= .slice (some ⟨b,off,none⟩) n cap/\n+m<=cap/\0<cap/\(Builtin.append_ #[t,t] ty #[y,X]).run P w= .ok (.slice (some ⟨b,off,none⟩) (n+m) cap) (w.setCells b (off+n*e.sz) ys))\/
 (∃cap rest,n+m<=cap/\cap*e.sz<=(xs++ys++rest).length/\
  (Builtin.append_ #[t,t] ty #[y,X]).run P w= .ok (.slice (some ⟨w.heap.size,0,none⟩) (n+m) cap) (w.drew.alloc (.cells (xs++ys++rest).toArray el))):=by
 obtain⟨inf,d,Q,l,hz,R,_⟩:=hT;have K:(kE e e.zero).cells.size=e.sz:=KM e.y3 (Q8 e);obtain⟨z,S,h,rfl,W,h0,s⟩:=hx;obtain⟨p,B,i,rfl,hcy,j0,v⟩:=hy;rcases Nat.eq_zero_or_pos m with rfl|hm;left;refine⟨rfl,?_⟩
 have hf:(Builtin.firstCells inf.size 0 (.slice B 0 i)).run P w= .ok #[] w:=by
  cases B with
  |none=>exact run_firstCells_none ..
  |some H=>exact run_firstCells_some (P:=P) w inf.size 0 H 0 i [] (by simp) (by simp)
 cases S with
 |none=>simp[Builtin.append_,run_underlying J,Go.sizeOf,typeInfo,Q,Builtin.lenOf,hf,W]
 |some H=>simp[Builtin.append_,run_underlying J,Go.sizeOf,typeInfo,Q,Builtin.lenOf,hf,W,storeCells]
 right;cases B with
 |none=>have:=(j0 rfl).1;omega
 |some x=>
  have o:=v x rfl;cases S with
  |none=>
   obtain⟨rfl,rfl⟩:=h0 rfl;right
   have F:=run_append_nil (P:=P) w t ty el inf _ J Q hz x m i ys (by rw[l];exact p) o hm (by omega) (by
    have:m*inf.bytes<=4294967296*32768:=Nat.mul_le_mul (by omega) R;omega)
   have L:=grownCap_ge w m 0 el;have e0:xs=[]:=by simpa using z
   subst e0;refine⟨grownCap w m 0 el,(Builtin.zeroCells (kE e e.zero).cells (grownCap w m 0 el-m)).toList,by omega,?_,?_⟩;simp only[agp,agf,agy,size_zeroCells,K,p,<-sw];exact aaZ _ (by omega);rw[F];simp only[aj0,agp];congr 3;apply M';simp
  |some D=>
   have N:=s D rfl;rcases ahc h (n+m)with hg|hg;right
   have F:=run_append_grow (P:=P) w t ty el inf _ J Q hz D n h xs (by rw[l];exact z) N
    x m i ys (by rw[l];exact p) o hg (by omega) (growslice_fits hg (by
    have:(n+m)*inf.bytes<=4294967296*32768:=Nat.mul_le_mul (by omega) R;omega))
   have L:=grownCap_ge w (n+m) h el;refine⟨grownCap w (n+m) h el,(Builtin.zeroCells (kE e e.zero).cells (grownCap w (n+m) h el-(n+m))).toList,L,?_,?_⟩;simp only[agf,agy,size_zeroCells,K,z,p,<-sw];exact aaZ _ (by omega);rw[F];congr 3;apply M';simp;left;obtain⟨b,off,rfl,c,I,q,hsize⟩:=b0 D n h rfl (by omega)
   have r:∀j,j<ys.length->off+n*e.sz+j<c.size:=by
    intro j Y;have:(n+m)*e.sz<=h*e.sz:=aaZ _ hg;rw[sw]at this;omega
   have F:=run_append_room_cells (P:=P) w t ty el inf J Q b off n h x m i ys (by rw[l];exact p) o h1 hg
    (fun j Y=>by rw[JG q,l];simp[r j Y]) (fun j Y=>Nf q _)
   rw[l]at F;exact⟨b,off,h,rfl,hg,by omega,F⟩
theorem bP.flat:∀ {τ:Ty} {x:τ.den} {cs:List Value} {B:List Nat},τ.flat=true->bP w τ x cs B->B=[]
 | .int _,_,_,_,_,h| .bool,_,_,_,_,h| .str,_,_,_,_,h=>h.2
 | .sl _,_,_,_,h,_=>by simp[Ty.flat]at h
 | .pair a b,p,cs,B,hf,h=>by
   obtain⟨c1,c2,B1,B2,rfl,rfl,o,q⟩:=h;simp only[Ty.flat,ac7]at hf;rw[bP.flat hf.1 o,bP.flat hf.2 q];rfl
theorem cr.flat{e:Ty}(o:e.flat=true):∀ {l:List e.den} {cs:List Value} {B:List Nat},cr (bP w e) l cs B->B=[]
 | [],_,_,h=>h.2
 |x::l,cs,B,h=>by
  obtain⟨c1,c2,B1,B2,rfl,rfl,p,q⟩:=h;rw[bP.flat o p,cr.flat o q];rfl
theorem gq.als{e:Ty}{l:List e.den}{v:Value}{m:M}(h:gq w G e l v m)(H:m≠ .dead):
 ∃B,me w e.sz (bP w e) l v B/\(∀b∈B,G.col b∈m.bc)/\∀b∈B.drop 1,G.col b∈M0 m:=by
 cases m with
 |row t J nd=>
  obtain⟨_,_,B,u,hc⟩:=h;cases B with
  |nil=>exact⟨[],u,by simp,by simp⟩
  |cons x D=>
   obtain⟨I,_,z,_⟩:=hc x D rfl;refine⟨x::D,u,fun b q=> ?_,fun b q=>z b (by simpa using q)⟩;rcases B_.1 q with rfl|q;simp[M.bc,I];simp[M.bc,z b q]
 |sha J=>obtain⟨⟨B,u,hc⟩,_⟩:=h;exact⟨B,u,hc,fun b q=>hc b (aa3 q)⟩
 |nst b E i o p fr=>obtain⟨⟨B,u,hc⟩,_⟩:=h;exact⟨B,u,fun x y=>by simp[M.bc,hc x y],fun x y=>by simp[M0,hc x (aa3 y)]⟩
 |dead=>exact absurd rfl H
def af5{m:M}:∀c∈M0 m,c∈m.bc:=by
 cases m<;>simp_all[M0,M.bc]
structure al2(G:Gh)(kl gv:List Nat)(tk:Nat)(mm:M)(Bx By:List Nat):Prop where
 hs:∃hs nd,mm= .row tk hs nd/\(∀b∈Bx.drop 1++By.drop 1,(if G.col b∈gv then tk else G.col b)∈hs)/\(nd=true->(Bx.drop 1++By.drop 1).Nodup)
 head:∀b Bs,Bx=b::Bs->G.col b∈kl/\G.col b∈gv/\b∉Bx.drop 1++By.drop 1
theorem ajM{e:Ty}{l l2:List e.den}{vx vy:Value}{m m' mm:M}{tk:Nat}{kl gv:List Nat}(j:gq w G e l vx m)(hy:gq w G e l2 vy m')(o0:m'≠ .dead)
 (R:∀c∈m.bc,Good U G c) (N:∀c∈m'.bc,Good U G c) (h:ail tk e.flat m m'=some (kl,gv,mm)):
 (∀c∈kl,4<=c/\Good U G c)/\(∀c∈gv,4<=c/\Good U G c)/\(∀c∈mm.bc,Good U G c\/c=tk)/\
  ∃F Y,me w e.sz (bP w e) l vx F/\me w e.sz (bP w e) l2 vy Y/\al2 G kl gv tk mm F Y:=by
 obtain⟨Y,K,j1,h0⟩:=hy.als o0
 have I:∀ {l:List e.den} {v:Value} {B:List Nat},e.flat=true->me w e.sz (bP w e) l v B->B.drop 1=[]:=by
  intro l v B hf h;obtain⟨cs,_,h2,_⟩:=h.cells;exact cr.flat hf h2
 unfold ail at h;split at h;rename_i t hs nd;obtain⟨s,l1,F,k,q⟩:=j;have J:=R t (by simp[M.bc]);split at h;rename_i hf;cases h;have e1:=I hf k;have e2:=I hf K;refine⟨by simp[s,J],by simp[s,J],by simp[M.bc],F,Y,k,K,⟨⟨[],true,rfl,by simp[e1,e2],by simp[e1,e2]⟩,fun b n r=> ?_⟩⟩;have:=(q b n r).1;exact⟨by simp[this],by simp[this],by simp[e1,e2]⟩;split at h;rename_i H;cases m' with
 |row u L u0=>
  simp only[M.same,b_]at H;subst H;cases h;have x0:=l1;obtain⟨_,n1,r0,j0,k0⟩:=hy;have E0:vx=vy:=x0.symm.trans n1;subst E0;refine⟨by simp[s,J],by simp[s,J],fun c hc=> ?_,F,r0,k,j0,⟨⟨_,false,rfl,fun x j=> ?_,by simp⟩,fun x n j=> ?_⟩⟩;simp only[M.bc,B_]at hc;rcases hc with rfl|hc;exact .inr rfl;rcases ab0 hc with rfl|⟨hc,_⟩;exact .inr rfl;left;rcases h_.1 hc with hc|hc;exact R c (by simp[M.bc,hc]);exact N c (by simp only[M0]at hc;simp[M.bc,hc]);refine SN (ts:=[u]) ?_;rcases h_.1 j with j|j;cases F with
  |nil=>simp at j
  |cons y n=>exact aa0 _ ((q y n rfl).2.2.1 x (by simpa using j))
  cases r0 with
  |nil=>simp at j
  |cons y n=>exact aeO _ ((k0 y n rfl).2.2.1 x (by simpa using j))
  obtain⟨S,k2,k3,k4⟩:=q x n j;refine⟨by simp[S],by simp[S],fun d=> ?_⟩;rcases h_.1 d with d|d;rw[j]at d;exact k2 (by simpa using d);cases r0 with
  |nil=>simp at d
  |cons y r1=>
   have G0:y=x:=by
    subst j;rcases k with⟨_,_,e0⟩|⟨b1,o1,c1,_,_,_,_,e1,_,_,_,e2,_⟩;cases e0;rcases j0 with⟨_,_,e0⟩|⟨b2,o2,c2,_,_,_,_,e3,_,_,_,e4,_⟩;cases e0;rw[e1]at e3;simp only[Value.slice.injEq,aaB,Addr.mk.injEq]at e3;cases e2;cases e4;exact e3.1.1.symm
   subst G0;exact(k0 y r1 rfl).2.1 (by simpa using d)
 |_=>simp[M.same]at H
 split at h;cases h;rename_i hnf n0;simp only[agm,b_]at n0
 have L0:∀b n,F=b::n->b∉Y:=by
  intro b n r d;have h1:=j1 b d;rw[(q b n r).1]at h1;exact n0 h1
 split at h;rename_i a b ha r;split at h;rename_i b0;cases h;obtain⟨p1,h3,W⟩:=M.AT ha
 have R0:∀c∈b,c∉a:=by
  simp only[agN,agC,agm,d_]at b0;exact b0
 obtain⟨X,Q,s0,D⟩:=hy.own r
 have p0:∀c∈b,4<=c:=by
  intro c hc;cases m' with
  |row t' L u0=>
   obtain⟨_,g3,gm⟩:=M.AT r;rcases(gm c).1 hc with rfl|hc;exact hy.1;exact g3 c hc
  |sha L=>cases L with
   |nil=>simp only[M.own,aaB]at r;subst r;simp at hc
   |cons=>simp[M.own]at r
  |nst b E i o p fr=>simp[M.own]at r
  |dead=>exact absurd rfl o0
 have a1:∀c∈a,4<=c:=fun c hc=>by rcases(W c).1 hc with rfl|hc;exact s;exact h3 c hc
 refine⟨by simp[s,J],fun c hc=> ?_,by simp[M.bc],F,X,k,Q,⟨⟨[tk],true,rfl,fun x j=> ?_,fun _=> ?_⟩,fun x n j=> ?_⟩⟩;rcases h_.1 hc with hc|hc;exact⟨a1 c hc,R c (M.xn ha c hc)⟩;exact⟨p0 c hc,N c (M.xn r c hc)⟩
 have:G.col x∈a++b:=by
  rcases h_.1 j with j|j;cases F with
  |nil=>simp at j
  |cons y n=>
   refine aa0 _ ((W _).2 (.inr ?_));exact(q y n rfl).2.2.1 x (by simpa using j)
  exact aeO _ (D x (aa3 j))
 simp only[an this];simp;refine agV.2 ⟨?_,s0.sublist (akr ..),?_⟩;cases F with
 |nil=>simp
 |cons y n=>exact(q y n rfl).2.2.2 p1
 intro x j y hy e;subst e;refine R0 _ (D x (aa3 hy)) ?_;cases F with
 |nil=>simp at j
 |cons z n=>exact(W _).2 (.inr ((q z n rfl).2.2.1 x (by simpa using j)))
 obtain⟨S,k2,k3,k4⟩:=q x n j;refine⟨by simp[S],?_,?_⟩;rw[S];exact aa0 _ ((W t).2 (.inl rfl));intro d;rcases h_.1 d with d|d;rw[j]at d;exact k2 (by simpa using d);have h1:=M.xn r _ (D x (aa3 d));rw[S]at h1;exact n0 h1;cases h;cases h;refine⟨by simp[s,J],by simp[s,J],fun c hc=> ?_,F,Y,k,K,⟨⟨_,false,rfl,fun x j=> ?_,by simp⟩,fun x n j=> ?_⟩⟩;simp only[M.bc,B_]at hc;rcases hc with rfl|hc;exact .inr rfl;rcases ab0 hc with rfl|⟨hc,_⟩;exact .inr rfl;left;rcases h_.1 hc with hc|hc;exact R c (by simp[M.bc,hc]);refine N c ?_;cases m'<;>simp_all[M0,M.bc];refine SN (ts:=[t]) ?_;rcases h_.1 j with j|j;cases F with
 |nil=>simp at j
 |cons y n=>exact aa0 _ ((q y n rfl).2.2.1 x (by simpa using j))
 refine aeO _ ?_;exact h0 x j;obtain⟨S,k2,k3,k4⟩:=q x n j;refine⟨by simp[S],by simp[S],fun d=> ?_⟩;rcases h_.1 d with d|d;rw[j]at d;exact k2 (by simpa using d);exact L0 x n j (aa3 d)
 have k:∃F,me w e.sz (bP w e) l vx F/\F=[]:=by
  obtain⟨⟨B,hB,hc⟩,_⟩:=j;refine⟨B,hB,?_⟩;cases B with
  |nil=>rfl
  |cons x l=>exact absurd (hc x (by simp)) (by simp)
 obtain⟨_,k,rfl⟩:=k;split at h;rename_i hf;cases h;have e2:=I hf K;exact⟨by simp,by simp,by simp[M.bc],[],Y,k,K,⟨⟨[],true,rfl,by simp[e2],by simp[e2]⟩,by simp⟩⟩;split at h;rename_i b r;cases h;obtain⟨X,Q,s0,D⟩:=hy.own r
 have p0:∀c∈gv,4<=c:=by
  intro c hc;cases m' with
  |row t' L u0=>
   obtain⟨_,g3,gm⟩:=M.AT r;rcases(gm c).1 hc with rfl|hc;exact hy.1;exact g3 c hc
  |sha L=>cases L with
   |nil=>simp only[M.own,aaB]at r;subst r;simp at hc
   |cons=>simp[M.own]at r
  |nst b E i o p fr=>simp[M.own]at r
  |dead=>exact absurd rfl o0
 refine⟨by simp,fun c hc=>⟨p0 c hc,N c (M.xn r c hc)⟩,by simp[M.bc],[],X,k,Q,⟨⟨[tk],true,rfl,fun x j=> ?_,fun _=> ?_⟩,by simp⟩⟩;have:=D x (aa3 (i:=1) (by simpa only[List.drop_nil,agp]using j));simp[this];simpa only[List.drop_nil,agp]using s0.sublist (akr 1 X);cases h;refine⟨by simp,by simp,fun c hc=> ?_,[],Y,k,K,⟨⟨_,false,rfl,fun x j=> ?_,by simp⟩,by simp⟩⟩;simp only[M.bc,B_]at hc;rcases hc with rfl|hc;exact .inr rfl;exact .inl (N c (af5 c hc));simpa using h0 x (by simpa using j);cases h
theorem me.bounds{e:Ty}{l:List e.den}{v:Value}{B:List Nat}(h:me w e.sz (bP w e) l v B):∀b∈B,b<w.heap.size:=
 bP.bounds (τ:= .sl e) ⟨v,rfl,h⟩
theorem cr.world{e:Ty}{w':World}{l:List e.den}{cs:List Value}{B:List Nat}(q:∀b∈B,w'.heap[b]?=w.heap[b]?)(h:cr (bP w e) l cs B):cr (bP w' e) l cs B:=
 cr.mono (fun b=>w'.heap[b]?=w.heap[b]?) (fun _ _ _ o p=>bP.mono o p) q h
def aeN(i:Inv w0 c0 U E a w G){d:List Nat}(e:∀c∈d,4<=c/\Good U G c):∀s,∀c∈((E.kill d).s.getD s .no).hc,c∉d:=by
 intro s c hc b;rcases SV.VU _ _ hc with hc|hc;exact(Env.Te E d s c hc).2 b;have h:=(i.kill d).bt s c hc;rw[(e c b).2.2.2]at h;exact absurd h.2.2 (by simp)
theorem akQ(hC:CxTy P C)(W:Inv w0 c0 U E a w G)(hR:RI ops E a.tmps)(hg:Gd ops a.tmps g){tk:Nat}(h3:4<=tk)(hU:¬U tk){o:Oper}{c:Call}
 {cd:Bool} {kl gv:List Nat} {t:Nat} {v:SV} (ho:o.op= .call c) (hb:c.callee= .builtin .append) (h:dY C ops E.rd tk g o=some (.app cd kl gv t v)) (j1:cd=true):
 t=tk/\Yields w0 c0 (fun u=>U u\/u=tk) ((E.kill kl).cu gv t) a ((execOp a.eval o).run P w) v:=by
 simp only[dY,ho,hb]at h;unfold JM at h;split at h;contradiction;contradiction;contradiction;rename_i x y t1 u1 _ ha A1;have n0:c.args= #[x,y]:=M' (by simpa using ha);have l1:c.argTypes= #[t1,u1]:=M' (by simpa using A1);split at h;rename_i ti e l m e' l' m' B1 hx hy;split at h;rename_i H j0;have K:=mR j0;simp only[TV.mk.injEq]at K;obtain⟨he,hl,_⟩:=K;cases he;cases hl;split at h;rename_i k0 c1 mm hm;split at h;rename_i I;simp only[ac7,b_]at I;obtain⟨hτ,rfl⟩:=I;simp only[aaB,Ef.app.injEq]at h;obtain⟨p1,rfl,rfl,rfl,rfl⟩:=h;refine⟨rfl,?_⟩;rw[<-p1]at j1;have hlen:l.length+H.length<4294967296:=e_ j1;have hT:=(hC.tt _ ti B1).2;rw[hτ]at hT;obtain⟨hu,E1⟩:=hT;obtain⟨mx,F1,J1,hdx,T1⟩:=Ai W hR hg hx;cases F1;obtain⟨my,W1,b2,c2,e2⟩:=Ai W hR hg hy;cases W1;obtain⟨s0,u0,h2,Bx,By,x0,r1,⟨⟨hs,nd,rfl,E0,G0⟩,B⟩⟩:=ajM J1 b2 c2 T1 e2 hm
 have L:∀ {v':Value} {w':World},((Builtin.append_ #[u1,u1] o.type #[a.eval x,a.eval y]).run P w= .ok v' w')->(execOp a.eval o).run P w= .ok (.value v') w':=by
  intro v' w' hr;simp only[execOp,ho];simp[resolve,hb,invoke,builtin,n0,l1,hr]
 obtain⟨xs,L0,w1,x1⟩:=x0.cells;obtain⟨R,R0,a1,_⟩:=r1.cells
 have r:∀(G1:Gh) (mv:Value),(∀c,U c->G.bx c=false->G1.bx c=false)->∀c∈(M.row tk hs nd).bc,Good (fun u=>U u\/u=tk) (G1.cu c1 tk mv) c:=by
  intro G1 mv h1 c hc;rcases h2 c hc with⟨X,Y,F⟩|rfl;refine⟨X,.inl Y,?_⟩;simp only[Gh.cu];split;rfl;exact h1 c Y F;exact⟨by omega,.inr rfl,by simp[Gh.cu]⟩
 have N:=W.kill k0
 have n1:∀ad k cap,a.eval x= .slice (some ad) k cap->0<cap->∃b off,ad=⟨b,off,none⟩/\∃c J,w.heap[b]?=some (.cells c J (0,0))/\off+cap*e.sz<=c.size:=by
  intro ad k cap hv S;obtain⟨b,off,Q,hB,_,c,J,fz,hh,e0,_⟩:=x1 ad k cap hv S;obtain⟨X,Y,_⟩:=B b _ hB;obtain⟨c',j2,hf⟩:=W.fresh b (s0 _ X).1;rw[hf]at hh;cases hh;exact⟨b,off,Q,_,_,hf,e0⟩
 have j:∀z∈Bx.drop 1,z<w.heap.size:=fun z i=>x0.bounds z (aa3 i);have n:∀z∈By.drop 1,z<w.heap.size:=fun z i=>r1.bounds z (aa3 i);rcases afg (ty:=o.type) hu E1 L0 R0 (cr.afM a1) hlen n1 with⟨n2,hr⟩|⟨b,off,cap,hv,D,S,hr⟩|⟨cap,rest,D,e0,hr⟩
 have j0:H=[]:=List.length_eq_zero_iff.1 n2;subst j0;refine⟨_,_,_,L hr,N.cu (v:=a.eval x) h3 u0 (fun h=>absurd h hU),⟨[a.eval x],rfl,_,rfl,h3,by simp[Gh.cu],Bx,?_,?_⟩,dH.d (r G _ (fun _ _ h=>h)),by rintro _ _ ⟨⟩⟩;simpa using x0;intro b Bs hB;obtain⟨X,Y,F⟩:=B b Bs hB;subst hB;simp only[List.drop_succ_cons,ahN,h_,not_or]at F;refine⟨by simp[Gh.cu,Y],F.1,fun z i=> ?_,fun hn=> ?_⟩;exact E0 z (aa0 _ (by simpa using i));have:=(agV.1 (G0 hn)).1;simpa using this
 obtain⟨b0,off0,Q,c,J,hh,e0⟩:=n1 _ _ cap hv S;cases Q;obtain⟨b1,off1,Q,hB,_,c',j2,fz,y1,_,z1⟩:=x1 _ _ cap hv S;cases Q;rw[hh]at y1;cases y1;obtain⟨X,Y,F⟩:=B b _ hB;simp only[h_,not_or]at F;have o0:=R0.1;have p0:=L0.1;have hmul:(l.length+H.length)*e.sz<=cap*e.sz:=aaZ _ D;rw[sw]at hmul;have h0:=vL b (el:=J) R (off+l.length*e.sz) w c hh (by omega)
 have r0:Inv w0 c0 U (E.kill k0) a (w.setCells b (off+l.length*e.sz) R) G:=by
  refine N.change (ts:=k0) (aeN W s0) (fun z _ i=>⟨fN b _ _ w z (fun e=>i (e▸X)),rfl⟩) (fun _ _=>⟨rfl,rfl⟩) (fun _ h=>h) W.colU
   (fun z i=>by rw[pC];exact W.lt z i) (fun z i=> ?_) (fun z i hc=> ?_) (fun _ _=>rfl) (by rw[pC];exact afc _)
   (ir b _ _ w).1 (ir b _ _ w).2.1 (ir b _ _ w).2.2
  by_cases e1:z=b;subst e1;exact⟨_,_,h0⟩;rw[fN b _ _ w z e1];exact W.fresh z i;have hf:=W.frame z i hc;refine⟨hf.1,?_⟩;rw[fN b _ _ w z (fun e=> ?_)];exact hf.2;subst e;have:=(s0 _ X).1;omega
 refine⟨_,_,_,L hr,r0.cu (v:= .slice (some ⟨b,off,none⟩) (l.length+H.length) cap) h3 u0 (fun h=>absurd h hU),⟨[_],rfl,_,rfl,h3,by simp[Gh.cu],b::(Bx.drop 1++By.drop 1),?_,?_⟩,dH.d (r G _ (fun _ _ h=>h)),by rintro _ _ ⟨⟩⟩;refine .inr ⟨b,off,cap,_,J,(0,0),Bx.drop 1++By.drop 1,by simp,by simpa using D,h0,?_,rfl,?_⟩;simp;omega
 have p:((c.toList.take (off+l.length*e.sz)++R++c.toList.drop (off+l.length*e.sz+R.length)).drop off).take ((l++H).length*e.sz)=xs++R:=by
  have htl:(c.toList.take (off+l.length*e.sz)).length=off+l.length*e.sz:=by simp;omega
  rw[agU,agB (by omega),agx,z1];rw[show off+l.length*e.sz-off=l.length*e.sz by omega];rw[<-agU]
  have s:(akg (l.length*e.sz) (List.drop off c.toList)++R).length=(l++H).length*e.sz:=by
   rw[agf,o0,<-z1,p0,agf,sw]
  rw[<-s,akJ]
 rw[p];refine cr.append (cr.world (fun z i=>fN b _ _ w z (fun e=> ?_)) w1) (cr.world (fun z i=>fN b _ _ w z (fun e=> ?_)) a1);subst e;exact F.1 i;subst e;exact F.2 i;rintro b' Bs ⟨⟩;refine⟨by simp[Gh.cu,Y],fun q=>(h_.1 q).elim F.1 F.2,fun z i=>E0 z i,fun hn=>G0 hn⟩
 have C1:=(N.drawn (w.drawn+1)).alloc h3 hU (xs++R++rest).toArray ti.el (.slice (some ⟨w.heap.size,0,none⟩) (l.length+H.length) cap) false;have r0:=C1.cu (ts:=c1) (t:=tk) (v:= .slice (some ⟨w.heap.size,0,none⟩) (l.length+H.length) cap) h3 (fun c hc=> ?_) (fun _=>⟨by simp[Gh.add],by simp[Gh.add]⟩)
 have o1:∀z,z<w.heap.size->(G.add w.heap.size tk (.slice (some ⟨w.heap.size,0,none⟩) (l.length+H.length) cap) false).col z=G.col z:=fun z i=>by
  simp[Gh.add,ahz i]
 refine⟨_,_,_,L hr,r0.mono (fun c hc=>by rcases hc with hc|hc;exact hc;exact .inr hc),⟨[_],rfl,_,rfl,h3,by simp[Gh.cu],w.heap.size::(Bx.drop 1++By.drop 1),?_,?_⟩,
  dH.d (r _ _ (fun c hc h=>by
   have:c≠tk:=fun e=>hU (e▸hc);simp[Gh.add,this,h])),by rintro _ _ ⟨⟩⟩
 refine .inr ⟨w.heap.size,0,cap,_,ti.el,(0,0),Bx.drop 1++By.drop 1,by simp,by simpa using D,heap_alloc_new _ _,by simpa using e0,rfl,?_⟩;have p0:=L0.1;have o0:=R0.1
 have p:(((xs++R++rest).toArray.toList.drop 0).take ((l++H).length*e.sz))=xs++R:=by
  have s:(xs++R).length=(l++H).length*e.sz:=by rw[agf,o0,p0,agf,sw]
  simp only[ahN];rw[<-s,akJ]
 rw[p];exact cr.append (cr.world (w:=w) (fun z i=>heap_alloc_old w.drew _ z (j z i)) w1) (cr.world (w:=w) (fun z i=>heap_alloc_old w.drew _ z (n z i)) a1);rintro b' Bs ⟨⟩;refine⟨?_,?_,fun z i=> ?_,fun hn=>G0 hn⟩;simp[Gh.cu,Gh.add];intro q;rcases h_.1 q with q|q;exact Nat.lt_irrefl _ (j _ q);exact Nat.lt_irrefl _ (n _ q)
 have D1:z<w.heap.size:=by
  rcases h_.1 i with i|i;exact j _ i;exact n _ i
 have:=E0 z i;simp only[Gh.cu];have hd:(World.heap {w with drawn:=w.drawn+1}).size=w.heap.size:=rfl;rw[hd,o1 z D1];exact this;obtain⟨X,Y,F,k5⟩:=u0 c hc;have:c≠tk:=fun e=>hU (e▸F);exact⟨X,Y,.inl F,by simp[Gh.add,this,k5]⟩;cases h;cases h;cases h;cases h;cases h
theorem Inv.ais(h:Inv w0 c0 U E a w G)(d:Nat){sv:SV}(hs:gQ w G sv (a.tmps.getD d undef))(H:dH U G sv)
 (p:∀t u,sv= .box t u->∀s q,s≠d->E.s.getD s .no≠ .box t q):Inv w0 c0 U {E with s:=E.s.set d sv} a w G:=by
 have o:∀s,({E with s:=E.s.set d sv}:Env).s.getD s .no=if s=d/\d<E.s.length then sv else E.s.getD s .no:=fun s=>mY E.s d s sv
 refine {h with len:=by simpa using h.len,slots:=fun s=> ?_,sc:=fun s c hc=> ?_,bt:=fun s c hc=> ?_,rt:=fun s c hc=> ?_,uni:=fun s z t u q v y=> ?_};rw[o];split;rename_i e;rw[e.1];exact hs;exact h.slots s;rw[o]at hc;split at hc;exact H.1 c hc;exact h.sc s c hc;rw[o]at hc;split at hc;exact H.2.1 c hc;exact h.bt s c hc;rw[o]at hc;split at hc;exact H.2.2 c hc;exact h.rt s c hc;rw[o]at v y;split at v<;>split at y;omega;rename_i B D;by_cases e:z=d;exact absurd ⟨e,B.2⟩ D;exact absurd y (p t u v z q e);rename_i B D;by_cases e:s=d;exact absurd ⟨e,D.2⟩ B;exact absurd v (p t q y s u e);exact h.uni s z t u q v y
theorem Inv.drop(h:Inv w0 c0 U E a w G)(d:Nat):Inv w0 c0 U {E with s:=E.s.set d .no} a w G:=
 h.ais d (sv:= .no) trivial (by simp[dH,SV.sc,SV.bt,SV.rt]) (by rintro _ _ ⟨⟩)
def Oj{t:TypeId}{τ:Ty}(h:tQ P t τ){x:Value}{b o:Nat}{c:Array Value}{el:TypeId}{cs:List Value}
 (d:w.heap[b]?=some (.cells c el (0,0))) (hs:o+τ.sz<=c.size) (e:cs.length=τ.sz) (i:∀v∈cs,v.oneCell'=true) (j:x= .pointer (some ⟨b,o,none⟩)):
 (Instr.storeAt t x (kE τ cs)).run P w= .ok () (w.setCells b o cs):=by
 subst j;simp only[Instr.storeAt,Instr.sureAddr];simpa using abl h d hs e i
def akc(hC:CxTy P C)(n:Inv w0 c0 U E a w G)(hR:RI ops E a.tmps)(hg:Gd ops a.tmps g){tk:Nat}{o:Oper}{t:TypeId}{x y:Operand}
 {b s:Nat} {v:TV} (ho:o.op= .store t x y) (h:dY C ops E.rd tk g o=some (.put b s v)):
 ∃w',(execOp a.eval o).run P w= .ok .skip w'/\Inv w0 c0 U {E with s:=E.s.set s (.box b v)} a w' G:=by
 simp only[dY,ho]at h;split at h;rename_i ti H off p τ1 v1 b0 I hv;split at h;rename_i l u J;split at h;rename_i hc;simp only[ac7,b_]at hc;rw[C_]at h;obtain⟨r,hr,h⟩:=h;simp only[Ef.put.injEq]at h;obtain⟨rfl,rfl,rfl⟩:=h;obtain⟨h1,h2⟩:=rb n hR hg I;obtain⟨bk,_,k2,k3⟩:=h1;obtain⟨i,j,c,el,g1,g3,g4,g5,g6,g7⟩:=n.box J;rw[g1]at k2;simp only[Value.pointer.injEq,aaB,Addr.mk.injEq,and_true]at k2;subst k2;obtain⟨⟨S,s0,F⟩,W,hlive⟩:=Ag n hR hg hv;obtain⟨q1,q2,q3⟩:=dJ.put hr g6 F;have hlen:=dJ.len g6;have L:=dJ.len F;simp only[agy]at hlen;rw[hc.1]at q1 q2;have hT:=(hC.tt t ti b0).1;have D:=vL j (el:=el) S off w c g5 (by omega);have N:=Oj (P:=P) (t:=t) (τ:=ti.τ) hT g5 (o:=off) (cs:=S) (by rw[<-hc.2];omega) (by rw[L,hc.2]) (dJ.one F) k3;have B:G.bx H=true:=((n.bt l H (by rw[i];simp[SV.bt])).2.2)
 refine⟨w.setCells j off S,?_,?_⟩;simp only[execOp,ho,s0,hc.2];simp[N];have j0:∀k,G.col k≠H->k≠j:=fun k m e=>m (e▸g4);have hD:=n.drop l;have Q:∀s,({E with s:=E.s.set l .no}:Env).s.getD s .no=if s=l/\l<E.s.length then .no else E.s.getD s .no:=fun s=>mY E.s l s .no
 have k0:∀s,∀c∈(({E with s:=E.s.set l .no}:Env).s.getD s .no).hc,c∉ [H]:=by
  intro s c z K;simp only[afi]at K;subst K
  have R:l<E.s.length:=by
   rcases ahc l E.s.length with h|h;exact h;rw[agq,agG h]at i;cases i
  rw[Q]at z;split at z;simp[SV.hc,SV.sc]at z;rename_i e0;have n0:s≠l:=fun e=>e0 ⟨e,R⟩
  have o0:∀sv:SV,(∀u,sv≠ .box c u)->(∀d∈sv.sc,G.bx d=false)->c∉sv.hc:=by
   intro sv h1 h2 Y;cases sv with
   |box t v=>
    rcases B_.1 Y with rfl|Y;exact h1 v rfl;have:=h2 c Y;rw[B]at this;cases this
   |_=>
    have:=h2 c Y;rw[B]at this;cases this
  exact o0 _ (fun u' e=>n0 (n.uni s l c u' _ e i)) (fun d q=>(n.sc s d q).2.2) z
 have p0:Inv w0 c0 U {E with s:=E.s.set l .no} a (w.setCells j off S) G:=by
  refine hD.change (ts:=[H]) k0 (fun k _ m=>⟨fN j _ _ w k (j0 k (by simpa using m)),rfl⟩) (fun _ _=>⟨rfl,rfl⟩) (fun _ h=>h) n.colU
   (fun k m=>by rw[pC];exact n.lt k m) (fun k m=> ?_) (fun k m h0=> ?_) (fun _ _=>rfl) (by rw[pC];exact afc _)
   (ir _ _ _ w).1 (ir _ _ _ w).2.1 (ir _ _ _ w).2.2
  by_cases e:k=j;subst e;exact⟨_,_,D⟩;rw[fN j _ _ w k e];exact n.fresh k m;have hf:=n.frame k m h0;refine⟨hf.1,?_⟩;rw[fN j _ _ w k (fun e=> ?_)];exact hf.2;subst e;omega
 have R:l<E.s.length:=by
  rcases ahc l E.s.length with h|h;exact h;rw[agq,agG h]at i;cases i
 have r0:=p0.ais l (sv:= .box H ⟨u.τ,r.1,r.2⟩) ?_ ?_ ?_;simpa using r0;refine⟨j,_,el,?_,g3,?_,g4,D,?_⟩;have:=n.slots l;rw[i]at this;obtain⟨u0,c2,x0,e1,e2,X,e4,e5,e6⟩:=this;rw[e1]at X;rw[g1]at X;rw[e1];exact X.symm;have:=n.slots l;rw[i]at this;obtain⟨u0,c2,x0,e1,e2,X,e4,e5,e6⟩:=this;rw[X];have:S.length=v1.τ.sz:=L;rw[this];refine dJ.agree ⟨fun k m=>fN j _ _ w k (fun e=> ?_),fun _ _=>rfl,fun _ _=>rfl⟩ q1;subst e;rw[g4]at m;rcases q3 _ m with m|m;have:=(g7 _ m).2.2;rw[B]at this;cases this;have:=(W _ m).2.2;rw[B]at this;cases this;refine⟨fun d q=> ?_,fun d q=> ?_,by simp[SV.rt]⟩;rcases q3 d q with q|q;exact g7 d q;exact W d q;simp only[SV.bt,afi]at q;subst q;exact n.bt l d (by rw[i];simp[SV.bt]);rintro t' u' ⟨rfl,rfl⟩ s' u2 hs' he;rw[Q]at he;split at he;cases he;exact hs' (n.uni s' l _ u2 _ he i);cases h;cases h;split at h;obtain⟨_,h⟩:=Option.ite_none_right_eq_some.mp h;obtain⟨_,h⟩:=Option.ite_none_left_eq_some.mp h;obtain⟨r,_,h⟩:=C_.mp h;cases h;cases h;cases h
end
end Vg
