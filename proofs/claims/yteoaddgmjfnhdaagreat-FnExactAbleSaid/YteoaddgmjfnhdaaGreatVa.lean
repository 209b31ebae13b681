/- VG, joined: an evaluator of the code over typed values, and its soundness, for any program. -/
import Derived.Calls
import Derived.Below
import Derived.Laws.Append
import Derived.Laws.AppendOwn
import Derived.Laws.Cells
import Derived.Laws.Entries
import Derived.Laws.MakeOwn
import Derived.Laws.IdiomCopy
import Derived.Laws.Slices
import Derived.Great.BuildSlice
import Derived.Laws.Strings
import Derived.Laws.BytesString
import Derived.Laws.BytesArg
import Derived.ArgAppend
set_option linter.unusedSimpArgs false
set_option linter.unusedVariables false
set_option linter.unusedSectionVars false
open Option.some renaming injEq → aaF
open List renaming mem_append → acf,mem_cons → aco,mem_append_left → ade,mem_of_mem_drop → adg,mem_flatMap → adi,mem_cons_of_mem → adL,mem_append_right → adP,take_of_length_le → adY,drop_of_length_le → ael,mem_singleton → aep,length_append → aeq,contains_eq_mem → aeO,take_append_of_le_length → aeP,replicate → aeQ,nil_append → aeR,getD_eq_getElem?_getD → aeS,drop_drop → aeT,drop_take → aeU,append_nil → aeW,drop_append_of_le_length → aeX,getElem?_eq_none → ae0,all_eq_true → ae1,getElem?_eq_getElem → ae3,mem_eraseDups → ae4,take_take → ae5,append_assoc → ae6,nodup_append → ae7,getElem?_map → ae8,drop_append → afa,length_cons → afb,take_succ_eq_append_getElem → afc,take_append_drop → afd,mem_of_getElem? → aff,mem_iff_getElem → afg,replicate_succ → afh,getElem?_range → afi,getElem?_eq_some_iff → afm,take_append → afn,getD → afs,mem_filter → aft,take_zero → afu,drop_zero → afv,drop_set_of_lt → afx,take_set_of_le → afy,take → afC,flatten_cons → afD,flatMap_cons → afE,drop_sublist → afF,length → afG,flatMap_map → afH,head?_drop → afI,take_left → afK
open Option renaming map_eq_some_iff → ach,map_eq_none_iff → aen,getD_some → afp,bind_eq_some_iff → afr,map_some → afJ
open Nat renaming add_mul → aci,mul_le_mul_right → ada,le_refl → aem,min_eq_left → ae2,one_mul → ae9,lt_or_ge → afe,ne_of_lt → afo,add_assoc → afw,zero_add → afA
open Array renaming getElem?_eq_getElem → acv,ext' → adM,length_toList → aeV,getD_eq_getD_getElem? → afj,toList_setIfInBounds → afl,toList_map → afq,toList_range → afB
open Bool renaming and_eq_true → adm,not_eq_true' → aeZ,false_eq_true → afk
open Int renaming instLEInt → adW,toNat_of_nonneg → afz
open Prod.mk renaming injEq → aeo
namespace Vg
open Go
inductive Ty where
 |int (k:IntKind)
 |bool
 |str
 |sl (e:Ty)
 |pair (a b:Ty)
 deriving DecidableEq,Inhabited
@[reducible] def Ty.den:Ty→Type
  | .int _=>Int
  | .bool=>Bool
  | .str=>ByteArray
  | .sl e=>List e.den
  | .pair a b=>a.den×b.den
def Ty.sz:Ty→Nat
 | .pair a b=>a.sz+b.sz
 |_=>1
def Ty.aa:(τ:Ty)→τ.den
 | .int _=>(0:Int)
 | .bool=>false
 | .str=>ByteArray.empty
 | .sl _=>[]
 | .pair a b=>(a.aa,b.aa)
def Ty.zero:Ty→List Value
 | .int k=>[.int k 0]
 | .bool=>[.bool false]
 | .str=>[.string .empty]
 | .sl _=>[.slice none 0 0]
 | .pair a b=>a.zero++b.zero
def Ty.bW:Ty→Bool
 | .pair _ _=>true
 |_=>false
def cw:Ty→List Value→Value
 | .pair _ _,cs=> .agg cs.toArray
 |_,cs=>cs.headD undef
theorem Ty.om:∀τ:Ty,0<τ.sz
 | .int _| .bool| .str| .sl _=>Nat.one_pos
 | .pair a b=>by have:=a.om;simp only[Ty.sz];omega
theorem Ty.iw:∀τ:Ty,τ.zero.length=τ.sz
 | .int _| .bool| .str| .sl _=>rfl
 | .pair a b=>by simp[Ty.zero,Ty.sz,a.iw,b.iw]
def aT {α:Type} (R:α→List Value→List Nat→Prop):List α→List Value→List Nat→Prop
 | [],cs,B=>cs=[]∧B=[]
 |x::l,cs,B=>∃c1 c2 B1 B2,cs=c1++c2∧B=B1++B2∧R x c1 B1∧aT R l c2 B2
def dp {α:Type} (w:World) (sz:Nat) (R:α→List Value→List Nat→Prop) (l:List α) (v:Value) (B:List Nat):Prop:=
 ((∃ao,v= .slice ao 0 0)∧l=[]∧B=[])∨
 ∃(b off cap:Nat) (c:Array Value) (el:TypeId) (fz:Nat×Nat) (Bs:List Nat),
  v= .slice (some ⟨b,off,none⟩) l.length cap∧l.length≤cap∧w.heap[b]?=some (.cells c el fz)∧off+cap*sz≤c.size∧
  B=b::Bs∧aT R l ((c.toList.drop off).take (l.length*sz)) Bs
def aQ (w:World):(τ:Ty)→τ.den→List Value→List Nat→Prop
 | .int k,n,cs,B=>cs=[.int k n]∧B=[]
 | .bool,b,cs,B=>cs=[.bool b]∧B=[]
 | .str,s,cs,B=>cs=[.string s]∧B=[]
 | .pair a b,p,cs,B=>∃c1 c2 B1 B2,cs=c1++c2∧B=B1++B2∧aQ w a p.1 c1 B1∧aQ w b p.2 c2 B2
 | .sl e,l,cs,B=>∃v,cs=[v]∧dp w e.sz (aQ w e) l v B
theorem aT.len {α:Type} {R:α→List Value→List Nat→Prop} {sz:Nat} (hR:∀x c B,R x c B→c.length=sz):
 ∀ {l:List α} {cs:List Value} {B:List Nat},aT R l cs B→cs.length=l.length*sz
 | [],_,_,h=>by simp[h.1]
 |x::l,cs,B,h=>by
  obtain⟨c1,c2,B1,B2,rfl,rfl,h1,h2⟩:=h
  simp[hR _ _ _ h1,aT.len hR h2,aci,Nat.add_comm]
theorem aQ.len {w:World}:∀ {τ:Ty} {x:τ.den} {cs:List Value} {B:List Nat},aQ w τ x cs B→cs.length=τ.sz
 | .int _,_,_,_,h=>by rw[h.1];rfl
 | .bool,_,_,_,h=>by rw[h.1];rfl
 | .str,_,_,_,h=>by rw[h.1];rfl
 | .pair a b,p,cs,B,h=>by
   obtain⟨c1,c2,B1,B2,rfl,rfl,h1,h2⟩:=h
   simp[aQ.len h1,aQ.len h2,Ty.sz]
 | .sl e,l,cs,B,h=>by obtain⟨v,rfl,_⟩:=h;rfl
theorem aT.mono {α:Type} {R R':α→List Value→List Nat→Prop} (P:Nat→Prop) (hR:∀x c B,(∀b∈B,P b)→R x c B→R' x c B):
 ∀ {l:List α} {cs:List Value} {B:List Nat},(∀b∈B,P b)→aT R l cs B→aT R' l cs B
 | [],_,_,_,h=>h
 |x::l,cs,B,hP,h=>by
  obtain⟨c1,c2,B1,B2,rfl,rfl,h1,h2⟩:=h
  exact⟨c1,c2,B1,B2,rfl,rfl,hR _ _ _ (fun b hb=>hP b (by simp[hb])) h1,aT.mono P hR (fun b hb=>hP b (by simp[hb])) h2⟩
theorem aQ.mono {w w':World}:∀ {τ:Ty} {x:τ.den} {cs:List Value} {B:List Nat},(∀b∈B,w'.heap[b]?=w.heap[b]?)→aQ w τ x cs B→aQ w' τ x cs B
 | .int _,_,_,_,_,h=>h
 | .bool,_,_,_,_,h=>h
 | .str,_,_,_,_,h=>h
 | .pair a b,p,cs,B,hB,h=>by
   obtain⟨c1,c2,B1,B2,rfl,rfl,h1,h2⟩:=h
   exact⟨c1,c2,B1,B2,rfl,rfl,aQ.mono (fun b hb=>hB b (by simp[hb])) h1,aQ.mono (fun b hb=>hB b (by simp[hb])) h2⟩
 | .sl e,l,cs,B,hB,h=>by
   obtain⟨v,rfl,h⟩:=h
   refine⟨v,rfl,?_⟩
   rcases h with h|⟨b,off,cap,c,el,fz,Bs,hv,hcap,hb,hsz,rfl,hl⟩
   ·exact .inl h
   ·refine .inr ⟨b,off,cap,c,el,fz,Bs,hv,hcap,(hB b (by simp)).trans hb,hsz,rfl,?_⟩
    exact aT.mono (fun b=>w'.heap[b]?=w.heap[b]?) (fun x c B hP hx=>aQ.mono hP hx) (fun b' hb'=>hB b' (by simp[hb'])) hl
theorem aT.bounds {α:Type} {R:α→List Value→List Nat→Prop} (P:Nat→Prop) (hR:∀x c B,R x c B→∀b∈B,P b):
 ∀ {l:List α} {cs:List Value} {B:List Nat},aT R l cs B→∀b∈B,P b
 | [],_,_,h,b,hb=>by rw[h.2]at hb;cases hb
 |x::l,cs,B,h,b,hb=>by
  obtain⟨c1,c2,B1,B2,rfl,rfl,h1,h2⟩:=h
  rcases acf.1 hb with hb|hb
  ·exact hR _ _ _ h1 b hb
  ·exact aT.bounds P hR h2 b hb
theorem lt_of_block {w:World} {b:Nat} {o:Obj} (h:w.heap[b]?=some o):b<w.heap.size:=by
 rcases afe b w.heap.size with h'|h'
 ·exact h'
 ·simp[Array.getElem?_eq_none h']at h
theorem aQ.bounds {w:World}:∀ {τ:Ty} {x:τ.den} {cs:List Value} {B:List Nat},aQ w τ x cs B→∀b∈B,b<w.heap.size
 | .int _,_,_,_,h,b,hb=>by rw[h.2]at hb;cases hb
 | .bool,_,_,_,h,b,hb=>by rw[h.2]at hb;cases hb
 | .str,_,_,_,h,b,hb=>by rw[h.2]at hb;cases hb
 | .pair a b,p,cs,B,h,b',hb=>by
   obtain⟨c1,c2,B1,B2,rfl,rfl,h1,h2⟩:=h
   rcases acf.1 hb with hb|hb
   ·exact aQ.bounds h1 b' hb
   ·exact aQ.bounds h2 b' hb
 | .sl e,l,cs,B,h,b',hb=>by
   obtain⟨v,rfl,h⟩:=h
   rcases h with h|⟨b,off,cap,c,el,fz,Bs,hv,hcap,hbk,hsz,rfl,hl⟩
   ·rw[h.2.2]at hb;cases hb
   ·rcases aco.1 hb with rfl|hb
    ·exact lt_of_block hbk
    ·exact aT.bounds _ (fun x c B hx=>aQ.bounds hx) hl b' hb
theorem aQ.zero (w:World):∀τ:Ty,aQ w τ τ.aa τ.zero []
 | .int _=>⟨rfl,rfl⟩
 | .bool=>⟨rfl,rfl⟩
 | .str=>⟨rfl,rfl⟩
 | .sl _=>⟨_,rfl,.inl ⟨⟨none,rfl⟩,rfl,rfl⟩⟩
 | .pair a b=>⟨_,_,[],[],rfl,rfl,aQ.zero w a,aQ.zero w b⟩
theorem aT.append {α:Type} {R:α→List Value→List Nat→Prop}:∀ {l1 l2:List α} {c1 c2:List Value} {B1 B2:List Nat},
 aT R l1 c1 B1→aT R l2 c2 B2→aT R (l1++l2) (c1++c2) (B1++B2)
 | [],_,_,_,_,_,h1,h2=>by rw[h1.1,h1.2];exact h2
 |x::l,l2,c1,c2,B1,B2,h1,h2=>by
  obtain⟨a,b,A,B,rfl,rfl,hx,hl⟩:=h1
  exact⟨a,b++c2,A,B++B2,by simp,by simp,hx,aT.append hl h2⟩
theorem aT.split {α:Type} {R:α→List Value→List Nat→Prop} {sz:Nat} (hR:∀x c B,R x c B→c.length=sz):
 ∀ {l1 l2:List α} {cs:List Value} {B:List Nat},aT R (l1++l2) cs B→
   ∃B1 B2,B=B1++B2∧aT R l1 (cs.take (l1.length*sz)) B1∧aT R l2 (cs.drop (l1.length*sz)) B2
 | [],l2,cs,B,h=>⟨[],B,rfl,⟨by simp,rfl⟩,by simpa using h⟩
 |x::l,l2,cs,B,h=>by
  obtain⟨c1,c2,A1,A2,rfl,rfl,hx,hl⟩:=h
  obtain⟨B1,B2,rfl,h1,h2⟩:=aT.split hR hl
  have hc:=hR _ _ _ hx
  refine⟨A1++B1,B2,by simp,⟨c1,_,A1,B1,?_,rfl,hx,h1⟩,?_⟩
  ·rw[afn,adY (by simp[aci];omega)]
   congr 2
   simp[aci];omega
  ·have e:(x::l).length*sz=c1.length+l.length*sz:=by simp[aci];omega
   rw[e,afa,ael (by omega)]
   simpa using h2
theorem aT.one {α:Type} {R:α→List Value→List Nat→Prop} {x:α} {cs:List Value} {B:List Nat} (h:R x cs B):aT R [x] cs B:=
 ⟨cs,[],B,[],by simp,by simp,h,rfl,rfl⟩
theorem aT.get {α:Type} {R:α→List Value→List Nat→Prop} {sz:Nat} (hR:∀x c B,R x c B→c.length=sz)
 {l:List α} {cs:List Value} {B:List Nat} (h:aT R l cs B) {i:Nat} {x:α} (hx:l[i]?=some x):
 ∃B1 Bx B2,B=B1++Bx++B2∧R x ((cs.drop (i*sz)).take sz) Bx∧
  aT R (l.take i) (cs.take (i*sz)) B1∧aT R (l.drop (i+1)) (cs.drop ((i+1)*sz)) B2:=by
 obtain⟨hi,hxi⟩:=afm.1 hx
 have e:l=l.take i++(x::l.drop (i+1)):=by rw[←hxi,←List.drop_eq_getElem_cons hi,afd]
 rw[e]at h
 obtain⟨B1,B2,rfl,h1,h2⟩:=aT.split hR h
 have hl:(l.take i).length=i:=by simp;omega
 rw[hl]at h1 h2
 obtain⟨c1,c2,A1,A2,hc,rfl,hx1,hl2⟩:=h2
 have hc1:=hR _ _ _ hx1
 refine⟨B1,A1,A2,by simp,?_,h1,?_⟩
 ·rw[hc,afn,adY (by omega)]
  simpa[hc1]using hx1
 ·have:cs.drop ((i+1)*sz)=c2:=by
   rw[aci,ae9,←aeT,hc,←hc1,List.drop_left]
  rw[this];exact hl2
theorem aT.set {α:Type} {R:α→List Value→List Nat→Prop} {sz:Nat}
 {l:List α} {i:Nat} {y:α} {cs cy:List Value} {B1 By B2:List Nat} (hi:i<l.length) (hy:R y cy By)
 (h1:aT R (l.take i) (cs.take (i*sz)) B1) (h2:aT R (l.drop (i+1)) (cs.drop ((i+1)*sz)) B2):
 aT R (l.set i y) (cs.take (i*sz)++cy++cs.drop ((i+1)*sz)) (B1++By++B2):=by
 have e:l.set i y=l.take i++([y]++l.drop (i+1)):=by
  rw[List.set_eq_take_append_cons_drop,if_pos hi];rfl
 rw[e,ae6,ae6]
 exact aT.append h1 (aT.append (aT.one hy) h2)
theorem aT.replicate {α:Type} {R:α→List Value→List Nat→Prop} {x:α} {cs:List Value} (h:R x cs []):
 ∀n:Nat,aT R (aeQ n x) (aeQ n cs).flatten []
 |0=>⟨rfl,rfl⟩
 |n+1=>by
  rw[afh,afh,afD]
  exact⟨cs,_,[],[],rfl,rfl,h,aT.replicate h n⟩
theorem aQ.one {w:World}:∀ {τ:Ty} {x:τ.den} {cs:List Value} {B:List Nat},aQ w τ x cs B→∀v∈cs,v.oneCell'=true
 | .int _,_,_,_,h,v,hv=>by rw[h.1]at hv;simp at hv;subst hv;rfl
 | .bool,_,_,_,h,v,hv=>by rw[h.1]at hv;simp at hv;subst hv;rfl
 | .str,_,_,_,h,v,hv=>by rw[h.1]at hv;simp at hv;subst hv;rfl
 | .pair a b,p,cs,B,h,v,hv=>by
   obtain⟨c1,c2,B1,B2,rfl,rfl,h1,h2⟩:=h
   rcases acf.1 hv with hv|hv
   ·exact aQ.one h1 v hv
   ·exact aQ.one h2 v hv
 | .sl e,l,cs,B,h,v,hv=>by
   obtain⟨u,rfl,h⟩:=h
   simp at hv;subst hv
   rcases h with h|⟨b,off,cap,c,el,fz,Bs,rfl,_⟩
   ·obtain⟨ao,e⟩:=h.1;rw[e];rfl
   ·rfl
inductive M where
 |row (t:Nat) (hs:List Nat) (nd:Bool)
 |sha (hs:List Nat)
 |nst (b:Nat) (e:Ty) (i:Int) (o:Nat) (p:List Bool) (fr:Bool)
 |dead
 deriving DecidableEq,Inhabited
inductive Sh where
 |leaf
 |sl (m:M)
 |pair (a b:Sh)
 deriving DecidableEq,Inhabited
structure TV where
 τ:Ty
 x:τ.den
 sh:Sh
inductive SV where
 |no
 |d (v:TV)
 |box (t:Nat) (v:TV)
 |ptr (t:Nat) (o:Nat) (path:List Bool) (τ:Ty)
 |ept (t:Nat) (e:Ty) (i:Int) (o:Nat) (path:List Bool) (τ:Ty)
 |rdp (hs:List Nat) (v:TV)
 |tup (l:List TV)
 |g (j:Nat) (want:Bool) (act:Bool) (v:SV)
structure Env where
 s:List SV
 nt:Nat
 kp:Bool:=false
def aZ:List Ty→Type
 | []=>Unit
 |τ::l=>τ.den×aZ l
def aZ.aa:(l:List Ty)→aZ l
 | []=>()
 |τ::l=>(τ.aa,aZ.aa l)
structure TI where
 τ:Ty
 fs:List TypeId
 el:TypeId
def cQ:Nat→Nat→List Bool
 |0,_=>[]
 |1,_=>[]
 |_+2,0=>[false]
 |n+2,j+1=>true::cQ (n+1) j
def Ty.sub:Ty→List Bool→Option Ty
 |τ,[]=>some τ
 | .pair a _,false::p=>a.sub p
 | .pair _ b,true::p=>b.sub p
 |_,_::_=>none
def Ty.off:Ty→List Bool→Nat
 |_,[]=>0
 | .pair a _,false::p=>a.off p
 | .pair a b,true::p=>a.sz+b.off p
 |_,_::_=>0
def eA:(τ:Ty)→τ.den→Sh→List Bool→Option TV
 |τ,x,sh,[]=>some ⟨τ,x,sh⟩
 | .pair a _,x,.pair s1 _,false::p=>eA a x.1 s1 p
 | .pair _ b,x,.pair _ s2,true::p=>eA b x.2 s2 p
 |_,_,_,_::_=>none
def eU (v:TV) (τ:Ty):Option τ.den:=if h:v.τ=τ then some (cast (congrArg Ty.den h) v.x)else none
def eL:(τ:Ty)→τ.den→Sh→List Bool→TV→Option (τ.den×Sh)
 |τ,_,_,[],v=>match eU v τ with|some y=>some (y,v.sh)|none=>none
 | .pair a _,x,.pair s1 s2,false::p,v=>match eL a x.1 s1 p v with|some (y,s)=>some ((y,x.2),.pair s s2)|none=>none
 | .pair _ b,x,.pair s1 s2,true::p,v=>match eL b x.2 s2 p v with|some (y,s)=>some ((x.1,y),.pair s1 s)|none=>none
 |_,_,_,_::_,_=>none
def fD:Ty→M→Sh
 | .pair a b,m=> .pair (fD a m) (fD b m)
 | .sl _,m=> .sl m
 |_,_=> .leaf
def Ty.flat:Ty→Bool
 | .pair a b=>a.flat&&b.flat
 | .sl _=>false
 |_=>true
def decode:(τ:Ty)→List Value→Option (τ.den×List Value)
 | .int k,.int k' n::r=>if k'=k then some (n,r)else none
 | .bool,.bool b::r=>some (b,r)
 | .str,.string s::r=>some (s,r)
 | .sl _,.slice none 0 0::r=>some ([],r)
 | .pair a b,cs=>match decode a cs with
   |some (x,r)=>(match decode b r with|some (y,r')=>some ((x,y),r')|none=>none)
   |none=>none
 |_,_=>none
def FM (τ:Ty) (v:Value):Option TV:=
 match τ,v with
 | .pair a b,.agg cs=>(match decode (.pair a b) cs.toList with|some (x,[])=>some ⟨.pair a b,x,fD (.pair a b) (.sha [])⟩|_=>none)
 | .pair _ _,_=>none
 |τ,v=>(match decode τ [v]with|some (x,[])=>some ⟨τ,x,fD τ (.sha [])⟩|_=>none)
inductive Pt where
 |leaf|own|shr|hd|pv|rom
 |pair (a b:Pt)
 deriving DecidableEq,Inhabited
def mf:Ty→Pt
 | .sl _=> .shr
 | .pair a b=> .pair (mf a) (mf b)
 |_=> .leaf
def Pt.sH:Pt→Bool
 | .shr| .hd=>true
 | .pair a b=>a.sH||b.sH
 |_=>false
inductive PK where
 |val (τ:Ty) (p:Pt)
 |io (τ:Ty) (p:Pt)
 |rd (τ:Ty)
 |vx (e:Ty) (l:List Nat)
inductive RK where
 |val (τ:Ty) (p:Pt)
 |nbox (τ:Ty) (p:Pt)
def PK.ty:PK→Ty
 | .val τ _| .io τ _| .rd τ=>τ
 | .vx e _=> .sl e
def RK.ty:RK→Ty
 | .val τ _| .nbox τ _=>τ
def bn:List PK→List Ty
 | []=>[]
 | .val _ _::l=>bn l
 | .io τ _::l=>τ::bn l
 | .rd _::l| .vx _ _::l=>bn l
structure rk where
 ps:List PK
 rs:List RK
 F:aZ (ps.map PK.ty)→Option (aZ (rs.map RK.ty++bn ps))
 kp:List (Nat×List Bool)
inductive AK where
 |val (τ:Ty) (sh:Sh)
 |box (t:Nat) (τ:Ty) (sh:Sh)
 |ptr (t:Nat) (o:Nat) (path:List Bool) (τ:Ty)
 |ept (t:Nat) (e:Ty) (o:Nat) (path:List Bool) (τ:Ty)
 |rdp (hs:List Nat) (τ:Ty) (sh:Sh)
def AK.LV:AK→List Ty
 | .val τ _=>[τ]
 | .box _ τ _=>[τ]
 | .ptr _ _ _ _=>[]
 | .ept _ _ _ _ _=>[.int .i64]
 | .rdp _ τ _=>[τ]
structure xw where
 ks:List (Nat×AK)
 nt:Nat
structure Cx where
 tt:TypeId→Option TI
 ct:FuncId→Option rk
 la:Nat→Option xw
 ja:Nat→Option xw
 k:Nat
 n:Nat
 io:List Nat
/-tokens-/
def M.aE:M→List Nat
 | .row t hs _=>t::hs
 | .sha hs=>hs
 | .nst b _ _ _ _ _=>[b]
 | .dead=>[]
def Sh.aE:Sh→List Nat
 | .leaf=>[]
 | .sl m=>m.aE
 | .pair a b=>a.aE++b.aE
def Sh.live:Sh→Bool
 | .leaf=>true
 | .sl .dead=>false
 | .sl _=>true
 | .pair a b=>a.live&&b.live
def Sh.map (f:M→M):Sh→Sh
 | .leaf=> .leaf
 | .sl m=> .sl (f m)
 | .pair a b=> .pair (a.map f) (b.map f)
def M.own:M→Option (List Nat)
 | .row t hs nd=>if nd&&hs.all (4≤·)then some (t::hs.filter (·≠t))else none
 | .sha []=>some []
 |_=>none
def M.Cz:M→Option (List Nat)
 | .row t hs _=>if hs.all (4≤·)then some (t::hs.filter (·≠t))else none
 | .sha []=>some []
 |_=>none
def Sh.own:Sh→Option (List Nat)
 | .leaf=>some []
 | .sl m=>m.own
 | .pair a b=>match a.own,b.own with
   |some x,some y=>if x.all (!y.contains ·)then some (x++y)else none
   |_,_=>none
def meets (a b:List Nat):Bool:=a.any b.contains
def M.kill (ts:List Nat) (m:M):M:=if meets m.aE ts then .dead else m
def SV.mapM (f:M→M) (fe:Nat→Bool) (fr:List Nat→Option (List Nat)):SV→SV
 | .d v=> .d {v with sh:=v.sh.map f}
 | .box t v=> .box t {v with sh:=v.sh.map f}
 | .ept t e i o p τ=>if fe t then .ept t e i o p τ else .no
 | .rdp hs v=>(match fr hs with|some hs'=> .rdp hs' {v with sh:=v.sh.map f}|none=> .no)
 | .tup l=> .tup (l.map fun v=>{v with sh:=v.sh.map f})
 | .g j w a v=> .g j w a (v.mapM f fe fr)
 |v=>v
def SV.kill (ts:List Nat) (v:SV):SV:=v.mapM (M.kill ts) (!ts.contains ·) (fun hs=>if meets hs ts then none else some hs)
def Env.kill (E:Env) (ts:List Nat):Env:=if ts.isEmpty then E else {E with s:=E.s.map (SV.kill ts)}
def SV.bS (ts:List Nat) (rp:List (Nat×Nat)):SV→SV
 | .ept b e i o p τ=>match rp.lookup b with|some b'=> .ept b' e i o p τ|none=>if ts.isEmpty then .ept b e i o p τ else SV.kill ts (.ept b e i o p τ)
 |v=>if ts.isEmpty then v else SV.kill ts v
def Env.bS (E:Env) (ts:List Nat) (rp:List (Nat×Nat)):Env:=if rp.isEmpty then E.kill ts else {E with s:=E.s.map (SV.bS ts rp)}
def uo (ts:List Nat) (t:Nat) (hs:List Nat):List Nat:=(hs.map fun h=>if ts.contains h then t else h).eraseDups
def M.vN (ts:List Nat) (t:Nat):M→M
 | .row u hs nd=>if ts.contains u then .sha (uo ts t (u::hs))else .row u (uo ts t hs) nd
 | .sha hs=> .sha (uo ts t hs)
 | .nst b _ _ _ _ _=> .sha (uo ts t [b])
 | .dead=> .dead
def M.aS (ts:List Nat) (t:Nat) (m:M):M:=if meets m.aE ts then m.vN ts t else m
def SV.aS (ts:List Nat) (t:Nat) (v:SV):SV:=v.mapM (M.aS ts t) (!ts.contains ·) (fun hs=>some (if meets hs ts then uo ts t hs else hs))
def Env.aS (E:Env) (ts:List Nat) (t:Nat):Env:=if ts.isEmpty then E else {E with s:=E.s.map (SV.aS ts t)}
def Env.get (E:Env) (s:Nat):SV:=E.s.getD s .no
def Env.set (E:Env) (dst:Option Nat) (v:SV):Env:=match dst with|some d=>{E with s:=E.s.set d v}|none=>E
def cW:List SV→Nat→Nat→Option (Nat×TV)
 | [],_,_=>none
 | .box t v::l,u,i=>if t=u then some (i,v)else cW l u (i+1)
 |_::l,u,i=>cW l u (i+1)
def ga (t:Nat) (e:Ty):(τ:Ty)→τ.den→Sh→Option (List e.den×List Nat×Bool)
 | .sl e',l,.sl (.row u hs nd)=>if u=t then(if h:e'=e then some (cast (congrArg (fun τ=>List (Ty.den τ)) h) l,hs,nd)else none)else none
 | .pair a b,x,.pair s1 s2=>match ga t e a x.1 s1 with|some r=>some r|none=>ga t e b x.2 s2
 |_,_,_=>none
def dx (t:Nat) (e:Ty):List SV→Option (List e.den×List Nat×Bool)
 | []=>none
 | .d v::l| .box _ v::l=>match ga t e v.τ v.x v.sh with|some r=>some r|none=>dx t e l
 |_::l=>dx t e l
def gJ (t:Nat) (e:Ty) (y:List e.den) (m:M):(τ:Ty)→τ.den→Sh→τ.den×Sh
 | .sl e',l,.sl (.row u hs nd)=>if u=t then(if h:e'=e then(cast (congrArg (fun τ=>List (Ty.den τ)) h.symm) y,.sl m)else(l,.sl .dead))else(l,.sl (.row u hs nd))
 | .pair a b,x,.pair s1 s2=>((gJ t e y m a x.1 s1).1,gJ t e y m b x.2 s2 |>.1) |> fun z=>(z,.pair (gJ t e y m a x.1 s1).2 (gJ t e y m b x.2 s2).2)
 |_,x,sh=>(x,sh)
def TV.setRow (t:Nat) (e:Ty) (y:List e.den) (m:M) (v:TV):TV:=⟨v.τ,(gJ t e y m v.τ v.x v.sh).1,(gJ t e y m v.τ v.x v.sh).2⟩
def SV.setRow (t:Nat) (e:Ty) (y:List e.den) (m:M):SV→SV
 | .d v=> .d (v.setRow t e y m)
 | .box b v=> .box b (v.setRow t e y m)
 | .tup l=> .tup (l.map (TV.setRow t e y m))
 | .g j w a v=> .g j w a (v.setRow t e y m)
 | .rdp hs v=>if(hs++v.sh.aE).contains t then .no else .rdp hs v
 |v=>v
def M.bw (t:Nat):M→M
 | .row u hs nd=>if u=t then .row u hs nd else if hs.contains t then .dead else .row u hs nd
 | .sha hs=>if hs.contains t then .dead else .sha hs
 | .nst b e i o p fr=>if b=t then .dead else .nst b e i o p fr
 | .dead=> .dead
def SV.bw (t:Nat) (v:SV):SV:=v.mapM (M.bw t) (fun _=>true) (fun hs=>if hs.contains t then none else some hs)
structure Rd where
 get:Nat→SV
 box:Nat→Option (Nat×TV)
 row:Nat→(e:Ty)→Option (List e.den×List Nat×Bool)
def bA:SV→SV
 | .box t v=> .ptr t 0 [] v.τ
 | .g j w a v=> .g j w a (bA v)
 |v=>v
def Env.rd (E:Env):Rd:=⟨fun s=>bA (E.get s),fun t=>cW E.s t 0,fun t e=>dx t e E.s⟩
/-operands-/
def ff (C:Cx) (R:Rd) (t:TypeId):Operand→Option SV
 | .tmp s=>some (R.get s)
 | .const v=>match C.tt t with|some i=>(FM i.τ v).map .d|none=>none
 |_=>none
def yF (G:Option (Nat×Bool)):SV→Option SV
 | .g j w _ v=>if G=some (j,w)then some v else none
 |v=>some v
def arg (C:Cx) (R:Rd) (G:Option (Nat×Bool)) (t:TypeId) (x:Operand):Option SV:=(ff C R t x).bind (yF G)
def cF (C:Cx) (R:Rd) (G:Option (Nat×Bool)) (t:TypeId) (x:Operand):Option TV:=
 match arg C R G t x with|some (.d v)=>if v.sh.live then some v else none|_=>none
inductive Ef:Type 1 where
 |val (v:SV)
 |chk (c:Bool) (v:SV)
 |opt (α:Type) (z:α) (o:Option α) (f:α→SV)
 |put (b:Nat) (s:Nat) (v:TV)
 |app (c:Bool) (kl gv:List Nat) (t:Nat) (v:SV)
 |elem (gv:List Nat) (b:Nat) (e:Ty) (l:List e.den) (m:M)
 |nap (c:Bool) (gv:List Nat) (b:Nat) (e:Ty) (l:List e.den) (m:M) (v:SV)
 |call (α:Type) (o:Option α) (tks:List Nat) (f:α→SV×List (Nat×Nat×TV)) (rp:α→List (Nat×Nat))
def vI (k:IntKind) (n:Int):SV:= .d ⟨.int k,n,.leaf⟩
def vB (b:Bool):SV:= .d ⟨.bool,b,.leaf⟩
def vS (s:ByteArray):SV:= .d ⟨.str,s,.leaf⟩
def bt (s:ByteArray) (i:Int):Int:=((s.data.toList.getD i.toNat 0).toNat:Int)
def eqv:(τ:Ty)→τ.den→τ.den→Bool
 | .int _,a,b=>a==b
 | .bool,a,b=>a==b
 | .str,a,b=>a.toList==b.toList
 | .pair a b,x,y=>eqv a x.1 y.1&&eqv b x.2 y.2
 | .sl _,_,_=>false
def bits (f:∀n,BitVec n→BitVec n→BitVec n) (k:IntKind) (a b:Int):Int:=k.wrap (f k.bits (BitVec.ofInt k.bits a) (BitVec.ofInt k.bits b)).toNat
def aaV (op:BinOp) (k:IntKind) (a b:Int):Option Ef:=
 match op with
 | .add=>some (.val (vI k (k.wrap (a+b))))
 | .sub=>some (.val (vI k (k.wrap (a-b))))
 | .mul=>some (.val (vI k (k.wrap (a*b))))
 | .quo=>some (.chk (decide (b≠0)) (vI k (k.wrap (a.tdiv b))))
 | .rem=>some (.chk (decide (b≠0)) (vI k (a.tmod b)))
 | .and=>some (.val (vI k (bits (fun _=>(· &&& ·)) k a b)))
 | .or=>some (.val (vI k (bits (fun _=>(· ||| ·)) k a b)))
 | .xor=>some (.val (vI k (bits (fun _=>(·^^^·)) k a b)))
 | .shr=>some (.chk (decide (0≤b)) (vI k (a.fdiv (2^(min b.toNat k.bits)))))
 | .shl=>some (.chk (decide (0≤b)) (vI k (k.wrap (a*2^(min b.toNat k.bits)))))
 | .eql=>some (.val (vB (a==b)))
 | .neq=>some (.val (vB (a != b)))
 | .lss=>some (.val (vB (decide (a<b))))
 | .leq=>some (.val (vB (decide (a≤b))))
 | .gtr=>some (.val (vB (decide (a>b))))
 | .geq=>some (.val (vB (decide (a≥b))))
 |_=>none
def abD (op:BinOp) (a b:ByteArray):Option Ef:=
 match op with
 | .add=>some (.chk (decide (a.size+b.size<4294967296)) (vS (a++b)))
 | .eql=>some (.val (vB (a.toList==b.toList)))
 | .neq=>some (.val (vB (!(a.toList==b.toList))))
 | .lss=>some (.val (vB (Op.bytesLess a.toList b.toList)))
 | .leq=>some (.val (vB (Op.bytesLess a.toList b.toList||a.toList==b.toList)))
 | .gtr=>some (.val (vB (!(Op.bytesLess a.toList b.toList||a.toList==b.toList))))
 | .geq=>some (.val (vB (!Op.bytesLess a.toList b.toList)))
 |_=>none
def acm (op:BinOp) (x y:TV):Option Ef:=
 match x,y with
 |⟨.int k,a,_⟩,⟨.int k',b,_⟩=>if k=k'||op= .shl||op= .shr then aaV op k a b else none
 |⟨.str,a,_⟩,⟨.str,b,_⟩=>abD op a b
 |⟨.bool,a,_⟩,⟨.bool,b,_⟩=>(match op with| .eql=>some (.val (vB (a==b)))| .neq=>some (.val (vB (!(a==b))))|_=>none)
 |⟨.pair a b,x,_⟩,⟨τ,y,s⟩=>match eU ⟨τ,y,s⟩ (.pair a b)with
  |some y=>if(Ty.pair a b).flat then(match op with| .eql=>some (.val (vB (eqv (.pair a b) x y)))| .neq=>some (.val (vB (!eqv (.pair a b) x y)))|_=>none)else none
  |none=>none
 |_,_=>none
def sg:M→List Nat
 | .row _ hs _=>hs
 | .sha hs=>hs
 | .nst b _ _ _ _ _=>[b]
 | .dead=>[]
def ry (C:Cx) (R:Rd) (G:Option (Nat×Bool)) (i:TI):List (Nat×Operand)→i.τ.den→Sh→Option (i.τ.den×Sh)
 | [],x,sh=>some (x,sh)
 |(j,o)::l,x,sh=>match i.fs[j]? with
  |none=>none
  |some ft=>match cF C R G ft o with
   |none=>none
   |some v=>match eL i.τ x sh (cQ i.fs.length j) v with
    |some (y,s)=>ry C R G i l y s
    |none=>none
def uH (C:Cx) (R:Rd) (G:Option (Nat×Bool)) (el:TypeId) (e:Ty):Nat→List (Nat×Operand)→Option (List e.den×List Sh)
 |_,[]=>some ([],[])
 |n,(j,o)::l=>if j=n then(match cF C R G el o with
  |none=>none
  |some v=>match eU v e,uH C R G el e (n+1) l with
   |some x,some (xs,ss)=>some (x::xs,v.sh::ss)
   |_,_=>none)else none
def wL:List Sh→Option (List Nat)
 | []=>some []
 |s::l=>match s.own,wL l with
  |some x,some y=>if x.all (!y.contains ·)then some (x++y)else none
  |_,_=>none
def ac5 (tk:Nat) (ss:List Sh):M:=
 match wL ss with
 |some ts=> .row tk ts true
 |none=> .row tk (ss.flatMap Sh.aE).eraseDups false
def M.same (t:Nat):M→Bool
 | .row u _ _=>u=t
 |_=>false
def aa2 (tk:Nat) (flat:Bool) (s y:M):Option (List Nat×List Nat×M):=
 match s with
 | .row t hs nd=>
   if flat then some ([t],[t],.row tk [] true)else
   if y.same t then some ([t],[t],.row tk (uo [t] tk (hs++sg y)) false)else
   if y.aE.contains t then none else
   (match(M.row t hs nd).own,y.own with
   |some a,some b=>if b.all (!a.contains ·)then some ([t],a++b,.row tk [tk] true)else none
   |_,_=>some ([t],[t],.row tk (uo [t] tk (hs++sg y)) false))
 | .sha []=>
   if flat then some ([],[],.row tk [] true)else
   (match y.own with
   |some b=>some ([],b,.row tk [tk] true)
   |none=>some ([],[],.row tk (sg y) false))
 |_=>none
def nW (C:Cx) (R:Rd) (tk:Nat) (G:Option (Nat×Bool)) (b:Builtin) (args:List Operand) (ts:List TypeId):Option Ef:=
 match b,args,ts with
 | .len,[x],[t]=>(match C.tt t with
   |none=>none
   |some ti=>match cF C R G t x with
    |some ⟨.sl e,l,_⟩=>if ti.τ= .sl e then some (.val (vI .i64 (l.length:Int)))else none
    |some ⟨.str,s,_⟩=>if ti.τ= .str then some (.val (vI .i64 (s.size:Int)))else none
    |_=>none)
 | .min,[x,y],[t,u]=>(match cF C R G t x,cF C R G u y with
   |some ⟨.int k,a,_⟩,some ⟨.int k',b,_⟩=>if k=k' then some (.val (vI k (if b<a then b else a)))else none
   |_,_=>none)
 | .max,[x,y],[t,u]=>(match cF C R G t x,cF C R G u y with
   |some ⟨.int k,a,_⟩,some ⟨.int k',b,_⟩=>if k=k' then some (.val (vI k (if b>a then b else a)))else none
   |_,_=>none)
 | .append,[x,y],[t,u]=>(match C.tt t,cF C R G t x,cF C R G u y with
   |some ti,some ⟨.sl e,l,.sl m⟩,some ⟨.sl e',l',.sl m'⟩=>
    (match eU ⟨.sl e',l',.leaf⟩ (.sl e)with
    |some l2=>(match aa2 tk e.flat m m' with
     |some (kl,gv,mm)=>if ti.τ= .sl e&&u=t then some (.app (decide (l.length+l2.length<4294967296)) kl gv tk (.d ⟨.sl e,l++l2,.sl mm⟩))else none
     |none=>none)
    |none=>none)
   |_,_,_=>none)
 |_,_,_=>none
/-calls-/
def iG:Pt→Sh→Bool
 | .leaf,.leaf=>true
 | .own,.sl m=>m.own.isSome
 | .shr,.sl m=>m≠ .dead
 | .pv,.sl m=>m.Cz.isSome
 | .rom,.sl m=>m≠ .dead&&m.aE.all (·=3)
 | .hd,.sl (.row _ _ _)=>true
 | .hd,.sl (.sha [])=>true
 | .pair a b,.pair x y=>iG a x&&iG b y
 |_,_=>false
def aV:Pt→Nat→List Nat→Sh×Nat
 | .leaf,tk,_=>(.leaf,tk)
 | .own,tk,_=>(.sl (.row tk [tk] true),tk+1)
 | .shr,tk,hs=>(.sl (.sha hs),tk)
 | .hd,tk,hs=>(.sl (.row tk (tk::hs) false),tk+1)
 | .pv,tk,_=>(.sl (.row tk [tk] false),tk+1)
 | .rom,tk,_=>(.sl (.sha [3]),tk)
 | .pair a b,tk,hs=>let x:=aV a tk hs;let y:=aV b x.2 hs;(.pair x.1 y.1,y.2)
def dV (sm:Nat→Nat):Pt→Sh→Nat→List (Nat×Nat)
 | .own,.sl m,tk=>(m.own.getD []).map fun c=>(c,tk)
 | .shr,.sl m,_=>m.aE.map fun c=>(c,sm c)
 | .pv,.sl m,tk=>(m.Cz.getD []).map fun c=>(c,tk)
 | .rom,.sl m,_=>(m.aE.filter (·=3)).map fun c=>(c,3)
 | .hd,.sl (.row t hs _),tk=>(t,tk)::(hs.filter (·≠t)).map fun c=>(c,sm c)
 | .pair a b,.pair x y,tk=>dV sm a x tk++dV sm b y (aV a tk []).2
 |_,_,_=>[]
def Gl (r:List (Nat×Nat)):Bool:=r.all fun p=>r.lookup p.1==some p.2
def oC (R:Rd):SV→Option (Nat×Nat×TV)
 | .ptr t 0 [] _=>(R.box t).map fun r=>(t,r.1,r.2)
 |_=>none
def RG (r0:List (Nat×Nat)) (l:List Nat) (c:Nat):Nat:=match r0.lookup c with|some k=>if l.contains k then k else 1|none=>1
def br (R:Rd):(ps:List PK)→List SV→Nat→List (Nat×Nat)→Option (aZ (ps.map PK.ty)×List (Nat×Nat)×List (Nat×Nat))
 | [],[],_,_=>some ((),[],[])
 | .val τ p::ps,.d v::as,tk,r0=>match eU v τ,br R ps as (aV p tk []).2 (r0++dV (fun _=>1) p v.sh tk)with
   |some x,some (xs,rho,bs)=>if iG p v.sh then some ((x,xs),dV (fun _=>1) p v.sh tk++rho,bs)else none
   |_,_=>none
 | .io τ p::ps,a::as,tk,r0=>match oC R a with
   |some (t,s,v)=>(match eU v τ,br R ps as (aV p (tk+1) []).2 (r0++(t,tk)::dV (fun _=>1) p v.sh (tk+1))with
    |some x,some (xs,rho,bs)=>if iG p v.sh then some ((x,xs),(t,tk)::dV (fun _=>1) p v.sh (tk+1)++rho,(t,s)::bs)else none
    |_,_=>none)
   |none=>none
 | .rd τ::ps,a::as,tk,r0=>match oC R a with
   |some (t,_,v)=>(match eU v τ,br R ps as tk r0 with
    |some x,some (xs,rho,bs)=>if iG (mf τ) v.sh then some ((x,xs),(t,1)::dV (fun _=>1) (mf τ) v.sh tk++rho,bs)else none
    |_,_=>none)
   |none=>none
 | .vx e l::ps,.d v::as,tk,r0=>match eU v (.sl e),br R ps as tk r0 with
   |some x,some (xs,rho,bs)=>if iG .shr v.sh then some ((x,xs),dV (RG r0 l) .shr v.sh tk++rho,bs)else none
   |_,_=>none
 |_,_,_,_=>none
def bd:(rs:List RK)→(rest:List Ty)→aZ (rs.map RK.ty++rest)→Nat→List Nat→List SV×aZ rest×Nat
 | [],_,r,tk,_=>([],r,tk)
 | .val τ p::rs,rest,r,tk,hs=>let s:=aV p tk hs;let z:=bd rs rest r.2 s.2 hs;(.d ⟨τ,r.1,s.1⟩::z.1,z.2)
 | .nbox τ p::rs,rest,r,tk,hs=>let s:=aV p (tk+1) hs;let z:=bd rs rest r.2 s.2 hs;(.box tk ⟨τ,r.1,s.1⟩::z.1,z.2)
def cK (hs:List Nat):(ps:List PK)→aZ (bn ps)→List (Nat×Nat)→Nat→List (Nat×Nat×TV)
 | [],_,_,_=>[]
 | .val _ _::ps,r,bs,tk=>cK hs ps r bs tk
 | .io τ p::ps,r,(t,s)::bs,tk=>let z:=aV p tk hs;(t,s,⟨τ,r.1,z.1⟩)::cK hs ps r.2 bs z.2
 | .io _ _::_,_,[],_=>[]
 | .rd _::ps,r,bs,tk| .vx _ _::ps,r,bs,tk=>cK hs ps r bs tk
def di:List RK→Nat→Nat
 | [],tk=>tk
 | .val _ p::rs,tk=>di rs (aV p tk []).2
 | .nbox _ p::rs,tk=>di rs (aV p (tk+1) []).2
def qL:List PK→Nat→Nat
 | [],tk=>tk
 | .val _ _::ps,tk=>qL ps tk
 | .io _ p::ps,tk=>qL ps (aV p tk []).2
 | .rd _::ps,tk| .vx _ _::ps,tk=>qL ps tk
def aR (p:Pt) (tk:Nat):Nat:=(aV p tk []).2
/-the tokens with which a function begins-/
def bI:List PK→Nat→Nat
 | [],tk=>tk
 | .val _ p::ps,tk=>bI ps (aR p tk)
 | .io _ p::ps,tk=>bI ps (aR p (tk+1))
 | .rd _::ps,tk| .vx _ _::ps,tk=>bI ps tk
def cn:List PK→Nat→List Nat
 | [],_=>[]
 | .val _ p::ps,tk=>cn ps (aR p tk)
 | .io _ p::ps,tk=>tk::cn ps (aR p (tk+1))
 | .rd _::ps,tk| .vx _ _::ps,tk=>cn ps tk
def RV:List PK→List Nat
 | []=>[]
 | .vx _ l::ps=>l++RV ps
 | .val _ _::ps| .io _ _::ps| .rd _::ps=>RV ps
def KD:List PK→Bool
 | []=>false
 | .rd _::_=>true
 | .val _ _::ps| .io _ _::ps| .vx _ _::ps=>KD ps
def RK.pt:RK→Pt
 | .val _ p| .nbox _ p=>p
def C7:List PK→Bool
 | []=>false
 | .io _ p::ps=>p.sH||C7 ps
 | .val _ _::ps| .rd _::ps| .vx _ _::ps=>C7 ps
def TY (ps:List PK) (rs:List RK):Bool:=
 (RV ps).all (fun c=>4≤c&&c<bI ps 4&& !(cn ps 4).contains c)&&(!KD ps|| !(rs.any (fun r=>r.pt.sH)||C7 ps))
def j9:Sh→List Bool→Option Nat
 | .sl (.row t _ _),[]=>some t
 | .pair a _,false::p=>j9 a p
 | .pair _ b,true::p=>j9 b p
 |_,_=>none
def zA (R:Rd) (bs:List (Nat×Nat)) (IO:List (Nat×Nat×TV)) (kp:List (Nat×List Bool)):List (Nat×Nat):=
 kp.filterMap fun q=>match bs[q.1]?,IO[q.1]? with
  |some b,some z=>(match R.box b.1 with
   |some r=>(match j9 r.2.sh q.2,j9 z.2.2.sh q.2 with
    |some u,some u'=>some (u,u')
    |_,_=>none)
   |none=>none)
  |_,_=>none
def qh:List SV→Option (List TV)
 | []=>some []
 | .d v::l=>(qh l).map (v::·)
 |_=>none
def lY:List SV→SV
 | [v]=>v
 |l=>match qh l with|some vs=> .tup vs|none=> .no
def nm (C:Cx) (R:Rd) (G:Option (Nat×Bool)):List Operand→List TypeId→Option (List SV)
 | [],[]=>some []
 |x::xs,t::ts=>match arg C R G t x,nm C R G xs ts with|some v,some vs=>some (v::vs)|_,_=>none
 |_,_=>none
def FB (C:Cx) (R:Rd) (tk:Nat) (G:Option (Nat×Bool)) (f:FuncId) (args:List Operand) (ts:List TypeId):Option Ef:=
 match C.ct f with
 |none=>none
 |some c=>match nm C R G args ts with
  |none=>none
  |some as=>match br R c.ps as 4 []with
   |none=>none
   |some (xs,rho,bs)=>
    if Gl rho&&qL c.ps (di c.rs 0)≤32&&TY c.ps c.rs then
     let hs:=(2::(rho.filter (·.2=1)).map (·.1)).eraseDups
     let tks:=((rho.filter (4≤·.2)).map (·.1)).filter fun c=> !bs.any (·.1=c)
     if bs.isEmpty&&tks.isEmpty then
      some (.opt _ (aZ.aa _) (c.F xs) (fun r=>lY (bd c.rs (bn c.ps) r tk hs).1))
     else
      some (.call _ (c.F xs) tks (fun r=>
       let z:=bd c.rs (bn c.ps) r tk hs
       (lY z.1,cK hs c.ps z.2.1 bs z.2.2))
       (fun r=>
        let z:=bd c.rs (bn c.ps) r tk hs
        zA R bs (cK hs c.ps z.2.1 bs z.2.2) c.kp))
    else none
def A0 (ops:List Oper) (c:Operand) (want:Bool):SV→Option SV
 | .g j w _ v=>(match c with| .tmp s=>if w=want&&(ops[j]?).bind (·.dst)=some s then some v else none|_=>none)
 |v=>some v
def bl (C:Cx) (ops:List Oper) (R:Rd) (tk:Nat) (G:Option (Nat×Bool)) (o:Oper):Option Ef:=
 match o.op with
 | .move x| .assign x=>(arg C R G o.type x).map .val
 | .pick c a b=>(match arg C R G 0 c,ff C R o.type a,ff C R o.type b with
   |some (.d ⟨.bool,t,_⟩),some a,some b=>
    (match A0 ops c true a,A0 ops c false b with
    |some (.d ⟨.bool,p,_⟩),some (.d ⟨.bool,q,_⟩)=>some (.val (vB (if t=true then p else q)))
    |_,_=>none)
   |_,_,_=>none)
 | .alloc t=>(C.tt t).map fun i=> .val (.box tk ⟨i.τ,i.τ.aa,fD i.τ (.sha [])⟩)
 | .box t x=>(match C.tt t,cF C R G t x with
   |some i,some v=>if v.τ=i.τ then some (.val (.box tk v))else none
   |_,_=>none)
 | .build t ps=>(match C.tt t with
   |some i=>if i.fs.isEmpty then none else(ry C R G i ps.toList i.τ.aa (fD i.τ (.sha []))).map fun r=> .val (.d ⟨i.τ,r.1,r.2⟩)
   |none=>none)
 | .buildSlice t n ps=>(match C.tt t with
   |some ⟨.sl e,_,el⟩=>if ps.size=n&&n*e.sz≤16777216 then(uH C R G el e 0 ps.toList).map fun r=> .val (.d ⟨.sl e,r.1,.sl (ac5 tk r.2)⟩)else none
   |_=>none)
 | .load t a=>(match C.tt t with
   |none=>none
   |some ti=>match arg C R G 0 a with
    |some (.ptr b o p _)=>(match R.box b with
     |some (_,v)=>(match eA v.τ v.x v.sh p with
      |some r=>if v.τ.off p=o&&r.τ=ti.τ then some (.val (.d r))else none
      |none=>none)
     |none=>none)
    |some (.ept b e i o p _)=>(match R.row b e with
     |some (l,hs,_)=>if e.off p=o&&e.sub p=some ti.τ then(eA e (l.getD i.toNat e.aa) (fD e (.sha (2::hs))) p).map fun r=> .val (.d r)else none
     |none=>none)
    |some (.rdp _ v)=>if v.τ=ti.τ then some (.val (.d v))else none
    |_=>none)
 | .store t a x=>(match C.tt t,arg C R G 0 a,cF C R G t x with
   |some ti,some (.ptr b o p _),some v=>(match R.box b with
    |some (s,u)=>if u.τ.off p=o&&v.τ=ti.τ then(eL u.τ u.x u.sh p v).map fun r=> .put b s ⟨u.τ,r.1,r.2⟩else none
    |none=>none)
   |some ti,some (.ept b e i o p τ),some v=>(match R.row b e with
    |some (l,hs,nd)=>
     if e.off p=o&&e.sub p=some τ&&v.τ=τ&&v.τ=ti.τ then
      let own:Option (List Nat):=if τ.flat then none else match(M.row b hs nd).own,v.sh.own with
       |some a,some c=>if c.all (!a.contains ·)then some ((a++c).filter (·≠b))else none
       |_,_=>none
      let gv:=own.getD []
      let m:M:=if own.isSome then .row b [b] true else if τ.flat then .row b hs nd else .row b (hs++v.sh.aE).eraseDups false
      if own.isNone&&v.sh.aE.contains b then none else
      (eL e (l.getD i.toNat e.aa) (fD e (.sha [])) p v).map fun r=> .elem gv b e (l.set i.toNat r.1) m
     else none
    |none=>none)
   |_,_,_=>none)
 | .nilCheck x=>(match arg C R G 0 x with
   |some (.ptr t o p τ)=>some (.val (.ptr t o p τ))
   |some (.ept t e i o p τ)=>some (.val (.ept t e i o p τ))
   |some (.rdp hs v)=>some (.val (.rdp hs v))
   |_=>none)
 | .binOp op t x y u=>(match C.tt t,cF C R G t x,cF C R G u y with|some i,some a,some b=>if a.τ=i.τ then acm op a b else none|_,_,_=>none)
 | .unOp op t x=>(match op,cF C R G t x with
   | .not,some ⟨.bool,b,_⟩=>some (.val (vB !b))
   | .neg,some ⟨.int k,n,_⟩=>some (.val (vI k (k.wrap (0-n))))
   |_,_=>none)
 | .convert s d x=>(match C.tt s with
   |some si=>(match C.tt d,cF C R G s x with
    |some ⟨.int k,_,_⟩,some ⟨.int _,n,_⟩=>some (.val (vI k (k.wrap n)))
    |some ⟨.str,_,_⟩,some ⟨.str,v,_⟩=>some (.val (vS v))
    |some ⟨.str,_,_⟩,some ⟨.sl (.int .u8),l,_⟩=>if si.τ= .sl (.int .u8)then some (.val (vS ⟨(l.map fun n=>UInt8.ofNat n.toNat).toArray⟩))else none
    |_,_=>none)
   |none=>none)
 | .makeSlice t n c=>(match C.tt t,cF C R G 3 n,cF C R G 3 c with
   |some ⟨.sl e,_,_⟩,some ⟨.int .i64,a,_⟩,some ⟨.int .i64,b,_⟩=>some (.chk (decide (0≤a∧a<4294967296∧b=a)) (.d ⟨.sl e,aeQ a.toNat e.aa,.sl (.row tk [tk] true)⟩))
   |_,_,_=>none)
 | .slice t x lo hi mx=>(match C.tt t with
   |none=>none
   |some ti=>match cF C R G t x,lo.map (cF C R G 3),hi.map (cF C R G 3),mx with
    |some ⟨.sl e,l,.sl m⟩,none,none,none=>if ti.τ= .sl e then some (.val (.d ⟨.sl e,l,.sl (.sha m.aE)⟩))else none
    |some ⟨.sl e,l,.sl m⟩,some (some ⟨.int .i64,a,_⟩),none,none=>if ti.τ= .sl e then some (.chk (decide (0≤a∧a≤l.length)) (.d ⟨.sl e,l.drop a.toNat,.sl (.sha m.aE)⟩))else none
    |some ⟨.sl e,l,.sl m⟩,none,some (some ⟨.int .i64,b,_⟩),none=>if ti.τ= .sl e then some (.chk (decide (0≤b∧b≤l.length)) (.d ⟨.sl e,l.take b.toNat,.sl (.sha m.aE)⟩))else none
    |some ⟨.sl e,l,.sl m⟩,some (some ⟨.int .i64,a,_⟩),some (some ⟨.int .i64,b,_⟩),none=>if ti.τ= .sl e then some (.chk (decide (0≤a∧a≤b∧b≤l.length)) (.d ⟨.sl e,(l.take b.toNat).drop a.toNat,.sl (.sha m.aE)⟩))else none
    |some ⟨.str,s,_⟩,some (some ⟨.int .i64,a,_⟩),none,none=>if ti.τ= .str then some (.chk (decide (0≤a∧a≤s.size)) (vS (s.extract a.toNat s.size)))else none
    |some ⟨.str,s,_⟩,none,some (some ⟨.int .i64,b,_⟩),none=>if ti.τ= .str then some (.chk (decide (0≤b∧b≤s.size)) (vS (s.extract 0 b.toNat)))else none
    |some ⟨.str,s,_⟩,some (some ⟨.int .i64,a,_⟩),some (some ⟨.int .i64,b,_⟩),none=>if ti.τ= .str then some (.chk (decide (0≤a∧a≤b∧b≤s.size)) (vS (s.extract a.toNat b.toNat)))else none
    |_,_,_,_=>none)
 | .fieldAddr s x j=>(match C.tt s with
   |none=>none
   |some i=>if j<i.fs.length then
    (match i.τ.sub (cQ i.fs.length j),arg C R G 0 x with
    |some σ,some (.ptr t o p τ)=>if τ=i.τ then some (.val (.ptr t (o+i.τ.off (cQ i.fs.length j)) (p++cQ i.fs.length j) σ))else none
    |some σ,some (.ept t e n o p τ)=>if τ=i.τ then some (.val (.ept t e n (o+i.τ.off (cQ i.fs.length j)) (p++cQ i.fs.length j) σ))else none
    |some _,some (.rdp hs v)=>if v.τ=i.τ then(eA v.τ v.x v.sh (cQ i.fs.length j)).map fun r=> .val (.rdp hs r)else none
    |_,_=>none)else none)
 | .field s x j=>(match C.tt s,cF C R G s x with
   |some i,some v=>if v.τ=i.τ&&j<i.fs.length then(eA v.τ v.x v.sh (cQ i.fs.length j)).map fun r=> .val (.d r)else none
   |_,_=>none)
 | .indexAddr t x n=>(match C.tt t,cF C R G t x,cF C R G 3 n with
   |some ti,some ⟨.sl e,l,.sl (.row u _ _)⟩,some ⟨.int _,i,_⟩=>if ti.τ= .sl e then some (.chk (decide (0≤i∧i<l.length)) (.ept u e i 0 [] e))else none
   |some ti,some ⟨.sl e,l,.sl (.sha hs)⟩,some ⟨.int _,i,_⟩=>if ti.τ= .sl e then some (.chk (decide (0≤i∧i<l.length)) (.rdp hs ⟨e,l.getD i.toNat e.aa,fD e (.sha (2::hs))⟩))else none
   |_,_,_=>none)
 | .index t x n=>(match C.tt t,cF C R G t x,cF C R G 3 n with
   |some ti,some ⟨.str,s,_⟩,some ⟨.int _,i,_⟩=>if ti.τ= .str then some (.chk (decide (0≤i∧i<s.size)) (vI .u8 (bt s i)))else none
   |_,_,_=>none)
 | .extract x j=>(match arg C R G 0 x with
   |some (.tup l)=>(l[j]?).map fun v=> .val (.d v)
   |_=>none)
 | .call c=>(match c.callee with
   | .builtin b=>nW C R tk G b c.args.toList c.argTypes.toList
   | .value (.func f)=>FB C R tk G f c.args.toList c.argTypes.toList
   |_=>none)
 |_=>none
def acF (ops:List Oper) (d:Option Nat):Bool:=
 ops.any fun q=>match q.op,d with
  | .call c,some d=>(match c.callee,c.args.toList with| .builtin .append,[.tmp x,_]=>x=d|_,_=>false)
  |_,_=>false
def qa (C:Cx) (ops:List Oper) (R:Rd) (tk:Nat) (o:Oper):Option Ef:=
 match o.op with
 | .load t a=>(match C.tt t,arg C R none 0 a with
   |some ti,some (.ept b e i off p _)=>(match R.row b e with
    |some (l,hs,nd)=>if nd&&hs.all (·=b)&&acF ops o.dst&&e.off p=off&&e.sub p=some ti.τ then
     (match eA e (l.getD i.toNat e.aa) (fD e (.sha [b])) p with
     |some ⟨.sl σ,x,_⟩=>some (.val (.d ⟨.sl σ,x,.sl (.nst b e i off p true)⟩))
     |_=>none)else none
    |none=>none)
   |_,_=>none)
 | .store t a x=>(match C.tt t,arg C R none 0 a,cF C R none t x with
   |some ti,some (.ept b e i off p τ),some ⟨.sl σ,y,.sl (.nst b' e' i' off' p' _)⟩=>(match R.row b e with
    |some (l,hs,nd)=>if nd&&hs.all (·=b)&&b'=b&&e'=e&&off'=off&&p'=p&&e.off p=off&&e.sub p=some τ&&Ty.sl σ=τ&&τ=ti.τ then
     (eL e (l.getD i.toNat e.aa) (fD e (.sha [])) p ⟨.sl σ,y,.sl (.sha [])⟩).map fun r=> .nap (decide (i=i')) [] b e (l.set i.toNat r.1) (.row b [b] true) .no
     else none
    |none=>none)
   |_,_,_=>none)
 | .call c=>(match c.callee,c.args.toList,c.argTypes.toList with
   | .builtin .append,[x,y],[t,u]=>(match C.tt t,cF C R none t x,cF C R none u y with
     |some ti,some ⟨.sl e,l,.sl (.nst b E i off p true)⟩,some ⟨.sl e',l',.sl m'⟩=>(match eU ⟨.sl e',l',.leaf⟩ (.sl e),R.row b E,m'.own with
      |some l2,some (L,hs,nd),some ys=>if nd&&hs.all (·=b)&& !ys.contains b&&ti.τ= .sl e&&u=t then
       some (.nap (decide (l.length+l2.length<4294967296)) (tk::ys) b E L (.row b [b] true) (.d ⟨.sl e,l++l2,.sl (.nst b E i off p false)⟩))else none
      |_,_,_=>none)
     |_,_,_=>none)
   |_,_,_=>none)
 |_=>none
def iK (C:Cx) (ops:List Oper) (R:Rd) (tk:Nat) (G:Option (Nat×Bool)) (o:Oper):Option Ef:=
 match G with
 |none=>(match qa C ops R tk o with|some ef=>some ef|none=>bl C ops R tk none o)
 |some g=>bl C ops R tk (some g) o
def guardOf (ops:List Oper) (R:Rd):Option (Nat×Bool)→Option (Option Bool)
 |none=>some none
 |some (j,w)=>match(ops[j]?).bind (·.dst)with
  |none=>none
  |some s=>match R.get s with
   | .d ⟨.bool,b,_⟩=>some (some (b==w))
   | .g _ _ a (.d ⟨.bool,b,_⟩)=>some (some (a&&(b==w)))
   |_=>none
def SV.cS:SV→Bool
 | .box _ _=>true
 |_=>false
def SV.iP:SV→SV
 | .g _ _ _ _=> .no
 |v=>v
def dh (G:Option (Nat×Bool)) (a:Option Bool) (v:SV):SV:=
 match G,a with|some (j,w),some b=>if v.cS then .no else .g j w b v|_,_=>v.iP
def bu:List (Nat×Nat×TV)→List SV→List SV
 | [],E=>E
 |(t,s,v)::l,E=>bu l (E.set s (.box t v))
def Env.elem (E:Env) (gv:List Nat) (b:Nat) (e:Ty) (l:List e.den) (m:M):Env:=
 {E with s:=E.s.map fun s=>((s.aS gv b).bw b).setRow b e l m}
section
variable {ρ:Type}
def aY (o:Oper) (a:Option Bool) (E:Env) (k:Env→Option ρ):Ef→Option ρ
 | .val v=>k (E.set o.dst (dh o.guard a v))
 | .chk c v=>if(match a with|none=>c|some b=> !b||c)=true then k (E.set o.dst (dh o.guard a v))else none
 | .opt _ z x f=>(match a with|none=>x|some b=>if b=true then x else some z).bind fun r=>k (E.set o.dst (dh o.guard a (f r)))
 | .put b s v=>if a.isNone&&o.dst.isNone then k {E with s:=E.s.set s (.box b v)}else none
 | .app c kl gv t v=>if a.isNone then(if c=true then k (((E.kill kl).aS gv t).set o.dst v.iP)else none)else none
 | .elem gv b e l m=>if a.isNone&&o.dst.isNone then k (E.elem gv b e l m)else none
 | .nap c gv b e l m v=>if a.isNone then(if c=true then k ((E.elem gv b e l m).set o.dst v.iP)else none)else none
 | .call _ x tks f rp=>if a.isNone then x.bind fun r=>let E1:=E.bS tks (rp r);k (Env.set {E1 with s:=bu (f r).2 E1.s} o.dst (f r).1.iP)else none
def ym (C:Cx) (ops:List Oper) (nt:Nat):List Oper→Nat→Env→(Env→Option ρ)→Option ρ
 | [],_,E,k=>k E
 |o::l,i,E,k=>match guardOf ops E.rd o.guard with
  |none=>none
  |some a=>match iK C ops E.rd (nt+32*i) o.guard o with
   |none=>none
   |some ef=>aY o a E (fun E'=>ym C ops nt l (i+1) E' k) ef
end
def fq (ops:List Oper):Bool:=
 ops.zipIdx.all fun p=>match p.1.guard with
  |none=>true
  |some (j,_)=>j<p.2&&match(ops[j]?).bind (·.dst)with
   |none=>false
   |some d=>ops.zipIdx.all fun q=>q.2=j||q.1.dst≠some d
def keeps (io:List Nat) (ops:List Oper):Bool:=ops.all fun o=>match o.dst with|some d=> !io.contains d|none=>true
def jz (E:Env) (ops:List Oper):Env:=
 if ops.all (·.guard.isNone)then E else {E with s:=E.s.map SV.iP}
section
variable {ρ:Type}
def aH {σ:Type}:Nat→((σ→Option ρ)→σ→Option ρ)→σ→Option ρ
 |0,_,_=>none
 |n+1,f,s=>f (aH n f) s
def aL {σ:Type} (a:(σ→Option ρ)→Option ρ) (b:σ→Option ρ):Option ρ:=a b
end
inductive Tr:Type 1 where
 |id
 |kg (kl gv:List Nat) (t:Nat)
 |el (gv:List Nat) (b:Nat) (e:Ty) (l:List e.den) (m:M)
 |ki (ts:List Nat) (rp:List (Nat×Nat))
def dL (ts:List Nat) (v:SV):SV:=if ts.isEmpty then v else v.kill ts
def j0 (ts:List Nat) (t:Nat) (v:SV):SV:=if ts.isEmpty then v else v.aS ts t
def Tr.sv:Tr→SV→SV
 | .id=>fun v=>v
 | .kg ks gv t=>fun v=>j0 gv t (dL ks v)
 | .el gv b e l m=>fun v=>((v.aS gv b).bw b).setRow b e l m
 | .ki ts rp=>fun v=>if rp.isEmpty then dL ts v else v.bS ts rp
def Tr.pM:Tr→Bool
 | .id=>true
 | .kg ks gv _=>ks.isEmpty&&gv.isEmpty
 | .ki ts rp=>ts.isEmpty&&rp.isEmpty
 |_=>false
def Tr.eR:Tr→List Nat
 | .id=>[]
 | .kg ks gv t=>t::(ks++gv)
 | .el gv b _ _ _=>b::gv
 | .ki ts rp=>ts++(rp.map (·.1)++rp.map (·.2))
def Tr.nK:Tr→List Nat
 | .id=>[]
 | .kg ks gv t=>t::(ks++gv)
 | .el gv _ _ _ _=>gv
 | .ki ts rp=>ts++(rp.map (·.1)++rp.map (·.2))
def Tr.ok:Tr→Bool
 | .el _ b _ _ m=>m.aE.contains b
 |_=>true
def wr (d:Option Nat) (v:SV):List (Nat×SV):=match d with|some d=>[(d,v)]|none=>[]
def iq (o:Oper) (a:Option Bool):Ef→Option (Tr×List (Nat×SV))
 | .val v=>some (.id,wr o.dst (dh o.guard a v))
 | .chk c v=>if(match a with|none=>c|some b=> !b||c)=true then some (.id,wr o.dst (dh o.guard a v))else none
 | .opt _ z x f=>(match a with|none=>x|some b=>if b=true then x else some z).bind fun r=>some (.id,wr o.dst (dh o.guard a (f r)))
 | .put b s v=>if a.isNone&&o.dst.isNone then some (.id,[(s,.box b v)])else none
 | .app c kl gv t v=>if a.isNone then(if c=true then some (.kg kl gv t,wr o.dst v.iP)else none)else none
 | .elem gv b e l m=>if a.isNone&&o.dst.isNone then some (.el gv b e l m,[])else none
 | .nap c gv b e l m v=>if a.isNone then(if c=true then some (.el gv b e l m,wr o.dst v.iP)else none)else none
 | .call _ x tks f rp=>if a.isNone then x.bind fun r=>some (.ki tks (rp r),(f r).2.map (fun p=>(p.2.1,SV.box p.1 p.2.2))++wr o.dst (f r).1.iP)else none
def qX {ρ:Type} (o:Oper) (a:Option Bool) (ef:Ef) (k:Tr×List (Nat×SV)→Option ρ):Option ρ:=
 match ef with
 | .val v=>k (.id,wr o.dst (dh o.guard a v))
 | .chk c v=>if(match a with|none=>c|some b=> !b||c)=true then k (.id,wr o.dst (dh o.guard a v))else none
 | .opt _ z x f=>(match a with|none=>x|some b=>if b=true then x else some z).bind fun r=>k (.id,wr o.dst (dh o.guard a (f r)))
 | .put b s v=>if a.isNone&&o.dst.isNone then k (.id,[(s,.box b v)])else none
 | .app c kl gv t v=>if a.isNone then(if c=true then k (.kg kl gv t,wr o.dst v.iP)else none)else none
 | .elem gv b e l m=>if a.isNone&&o.dst.isNone then k (.el gv b e l m,[])else none
 | .nap c gv b e l m v=>if a.isNone then(if c=true then k (.el gv b e l m,wr o.dst v.iP)else none)else none
 | .call _ x tks f rp=>if a.isNone then x.bind fun r=>k (.ki tks (rp r),(f r).2.map (fun p=>(p.2.1,SV.box p.1 p.2.2))++wr o.dst (f r).1.iP)else none
def cO (ws:List (Nat×SV)) (L:List SV):List SV:=ws.foldl (fun L p=>L.set p.1 p.2) L
def Env.fE (E:Env) (r:Tr×List (Nat×SV)):Env:={E with s:=cO r.2 (E.s.map r.1.sv)}
def SV.dy:SV→List Nat
 | .no=>[]
 | .d v=>v.sh.aE
 | .box t v=>t::v.sh.aE
 | .ptr t _ _ _=>[t]
 | .ept t _ _ _ _ _=>[t]
 | .rdp hs v=>hs++v.sh.aE
 | .tup l=>l.flatMap fun v=>v.sh.aE
 | .g _ _ _ v=>v.dy
def SV.clean:SV→Bool
 | .no=>false
 | .d v| .box _ v| .rdp _ v=>v.sh.live
 | .tup l=>l.all fun v=>v.sh.live
 | .g _ _ _ v=>v.clean
 |_=>true
def tmpsOf (o:Oper):List Nat:=o.op.operands.toList.filterMap fun| .tmp s=>some s|_=>none
def SV.strip:SV→SV
 | .g _ _ _ v=>v
 |v=>v
def ji (ops:List Oper) (o:Oper):List Nat:=
 tmpsOf o++(match o.guard with|some (j,_)=>((ops[j]?).bind (·.dst)).toList|none=>[])
def wY (E:Env) (o:Oper):List Nat:=(tmpsOf o).filterMap fun s=>match(E.rd.get s).strip with| .ptr b _ _ _=>some b|_=>none
def Vy:SV→Option (Nat×Ty)
 | .ept b e _ _ _ _=>some (b,e)
 | .d ⟨_,_,.sl (.nst b e _ _ _ _)⟩=>some (b,e)
 |_=>none
def vc (E:Env) (o:Oper):List (Nat×Ty):=(tmpsOf o).filterMap fun s=>Vy (E.rd.get s).strip
def dU (t:Nat) (e:Ty):List SV→Nat→Option Nat
 | [],_=>none
 | .d v::l,i| .box _ v::l,i=>if(ga t e v.τ v.x v.sh).isSome then some i else dU t e l (i+1)
 |_::l,i=>dU t e l (i+1)
def mC (v q:SV):Bool:=
 match v with
 | .no| .ept _ _ _ _ _ _| .rdp _ _=>true
 | .box t _=>(match q with| .box t' _=>t=t'|_=>false)
 |v=>v.clean&&v.dy.isEmpty
def dg (o:Oper):Bool:=match o.op with| .move _| .assign _| .nilCheck _| .fieldAddr _ _ _=>false|_=>true
def SV.tZ:SV→List Nat
 | .ept t _ _ _ _ _=>[t]
 |_=>[]
def SV.yT:SV→List Nat
 | .ept _ _ _ _ _ _=>[]
 |v=>v.dy
structure c9:Type 1 where
 i:Nat
 rs:List Nat
 ra:List Nat
 te:List Nat
 tk:List Nat
 cl:Bool
 bx:List Nat
 rw:List (Nat×Nat)
 fd:Bool
 dz:Bool
 T:Tr
 ws:List (Nat×SV)
 nb:List Nat
 cp:Option (Nat×Nat×Option Nat×Bool)
def sameBox (v q:SV):Bool:=match v,q with| .box t u,.box t' u'=>t=t'&&u.τ=u'.τ|_,_=>false
def Uf (o:Oper):Option (Nat×Nat×Option Nat):=
 match o.guard,o.dst with
 |none,some d=>(match o.op with
  | .move (.tmp s)| .assign (.tmp s)=>some (d,s,none)
  | .extract (.tmp s) j=>some (d,s,some j)
  |_=>none)
 |_,_=>none
def uQ (j:Option Nat) (v:SV):Option SV:=
 match j with
 |none=>(match v with| .g _ _ _ _=>none|v=>some (bA v))
 |some j=>(match v with| .tup l=>(l[j]?).map .d|_=>none)
def HT:SV→Bool
 | .d v=>v.τ.flat
 | .no| .ptr _ _ _ _| .ept _ _ _ _ _ _| .rdp _ _=>true
 |_=>false
def eK (ops:List Oper) (i:Nat) (o:Oper) (E:Env) (r:Tr×List (Nat×SV)):c9:=
 let b:=if dg o=true then wY E o else []
 let q:=if dg o=true then vc E o else []
 let rw:=q.filterMap fun p=>(dU p.1 p.2 E.s 0).map fun s=>(p.1,s)
 let ra:=(ji ops o).filter fun s=>(E.get s).cS
 let rs:=(ji ops o).filter (fun s=> !(E.get s).cS)++b.filterMap (fun t=>(cW E.s t 0).map (·.1))++rw.map (·.2)
 ⟨i,rs,ra,rs.flatMap fun s=>(E.get s).tZ,rs.flatMap fun s=>(E.get s).yT,rs.all fun s=>(E.get s).clean,b,rw,
   rw.length=q.length&&b.all (fun t=>(cW E.s t 0).isSome),
   r.2.all (fun p=>mC (E.get p.1) p.2),r.1,r.2,(r.2.filter fun p=> !sameBox (E.get p.1) p.2).map (·.1),none⟩
def wQ (ops:List Oper) (i:Nat) (o:Oper) (E:Env) (r:Tr×List (Nat×SV)):c9:=
 match Uf o with
 |some (d,s,j)=>⟨i,[],[],[],[],true,[],[],true,mC (E.get d) .no,.id,[],[],some (d,s,j,match uQ j (E.get s)with|some x=>HT x|none=>false)⟩
 |none=>eK ops i o E r
def c9.free (a b:c9):Bool:=
 a.ws.all (fun p=> !b.rs.contains p.1&& !b.ra.contains p.1&&b.ws.all (fun q=>q.1≠p.1)&&
  (match p.2 with| .box t _=> !b.bx.contains t|_=>true)&&b.rw.all (fun q=>q.2<p.1|| !(p.2.cS||p.2.dy.contains q.1)))&&
 (a.T.pM||(b.rw.isEmpty&&b.tk.all (!a.T.eR.contains ·)&&b.te.all (!a.T.nK.contains ·)&&b.ws.all fun p=>p.2.yT.all (!a.T.eR.contains ·)&&p.2.tZ.all (!a.T.nK.contains ·)))
def Tr.Yb:Tr→Bool
 | .el _ _ _ _ _=>false
 |_=>true
def c9.X9 (a b:c9):Bool:=
 a.ws.all (fun p=> !b.rs.contains p.1&& !b.ra.contains p.1&&b.ws.all (fun q=>q.1≠p.1)&&
  (match p.2 with| .box t _=> !b.bx.contains t|_=>true)&&b.rw.all (fun q=>q.2<p.1|| !p.2.dy.contains q.1))&&
 (a.T.pM||((b.rw.isEmpty||a.T.Yb)&&b.tk.all (!a.T.eR.contains ·)&&b.te.all (!a.T.nK.contains ·)&&b.ws.all fun p=>p.2.yT.all (!a.T.eR.contains ·)&&p.2.tZ.all (!a.T.nK.contains ·)))
def c9.ind (a b:c9):Bool:=
 a.free b&&b.X9 a&&(a.T.pM||b.T.pM)&&a.T.ok&&b.T.ok&&(a.T.pM||b.cl)&&a.fd&&b.fd&&a.dz&&b.dz&&(a.T.pM||a.rw.isEmpty)
def c9.zF (d s:Nat) (e z:Bool) (b:c9):Bool:=
 z&& !b.rs.contains d&& !b.ra.contains d&&b.ws.all (fun q=>q.1≠d)&& !b.nb.contains s&&b.rw.all (fun q=>e||q.2<d)&&b.fd&&b.dz&&b.T.ok
def c9.QX (a b:c9):Bool:=
 match a.cp,b.cp with
 |none,none=>a.ind b
 |some (d,s,_,e),none=>c9.zF d s e a.dz b
 |none,some (d,s,_,e)=>c9.zF d s e b.dz a
 |some (d,s,_,_),some (d',s',_,_)=>d≠d'&&s≠d'&&s'≠d
/-where ways meet-/
abbrev Ren:=List (Nat×Nat)
def QE (r:Ren) (t c:Nat):Option Ren:=
 match r.lookup t with
 |some c'=>if c=c' then some r else none
 |none=>if r.any (fun p=>p.2=c)then none else some ((t,c)::r)
def U0 (c:Nat):Nat:=1000000000+c
def bindM (r:Ren):M→M→Option Ren
 | .row t _ _,.row c _ _=>QE r t c
 | .sha [],.row c _ _=>QE r (U0 c) c
 | .row _ _ _,.sha _=>some r
 | .sha _,.sha _=>some r
 |_,.dead=>some r
 |_,_=>none
def ED (r:Ren):Sh→Sh→Option Ren
 | .leaf,.leaf=>some r
 | .sl m,.sl m'=>bindM r m m'
 | .pair a b,.pair a' b'=>(ED r a a').bind fun r=>ED r b b'
 |_,_=>none
def lr (r:Ren) (h:Nat):Nat:=if h≤3 then h else(r.lookup h).getD 2
def DL (r:Ren):M→M→Bool
 | .row t hs nd,.row c hc nd'=>r.lookup t=some c&&(!nd'||nd)&&hs.all fun h=>hc.contains (lr r h)
 | .sha [],.row c _ _=>r.lookup (U0 c)=some c
 | .row t hs _,.sha hc=>(t::hs).all fun h=>hc.contains (lr r h)
 | .sha hs,.sha hc=>hs.all fun h=>hc.contains (lr r h)
 |_,.dead=>true
 |_,_=>false
def Ge (r:Ren):Sh→Sh→Bool
 | .leaf,.leaf=>true
 | .sl m,.sl m'=>DL r m m'
 | .pair a b,.pair a' b'=>Ge r a a'&&Ge r b b'
 |_,_=>false
def adv (E:Env) (r:Ren) (s:Nat):AK→Option Ren
 | .val _ sh=>match E.get s with| .d v=>ED r v.sh sh|_=>none
 | .box c _ sh=>match E.get s with| .box t v=>(QE r t c).bind fun r=>ED r v.sh sh|_=>none
 | .ptr _ _ _ _=>some r
 | .ept _ _ _ _ _=>some r
 | .rdp _ _ sh=>match E.get s with| .rdp _ v=>ED r v.sh sh|_=>none
def Xf (E:Env):Ren→List (Nat×AK)→Option Ren
 |r,[]=>some r
 |r,(s,a)::l=>(adv E r s a).bind fun r=>Xf E r l
def aZ.app:(a:List Ty)→(b:List Ty)→aZ a→aZ b→aZ (a++b)
 | [],_,_,y=>y
 |_::a,b,x,y=>(x.1,aZ.app a b x.2 y)
def aZ.fst:(a:List Ty)→(b:List Ty)→aZ (a++b)→aZ a
 | [],_,_=>()
 |_::a,b,x=>(x.1,aZ.fst a b x.2)
def aZ.snd:(a:List Ty)→(b:List Ty)→aZ (a++b)→aZ b
 | [],_,x=>x
 |_::a,b,x=>aZ.snd a b x.2
def wa (E:Env) (r:Ren) (s:Nat):(a:AK)→Option (aZ a.LV)
 | .val τ sh=>match E.get s with
   | .d v=>if Ge r v.sh sh then(match eU v τ with|some x=>some (x,())|none=>none)else none
   |_=>none
 | .box c τ sh=>match E.get s with
   | .box t v=>if Ge r v.sh sh&&r.lookup t=some c then(match eU v τ with|some x=>some (x,())|none=>none)else none
   |_=>none
 | .ptr c o p τ=>match E.get s with
   | .ptr t o' p' τ'=>if r.lookup t=some c&&o'=o&&p'=p&&τ'=τ then some ()else none
   |_=>none
 | .ept c e o p τ=>match E.get s with
   | .ept t e' i o' p' τ'=>if r.lookup t=some c&&e'=e&&o'=o&&p'=p&&τ'=τ then some (i,())else none
   |_=>none
 | .rdp hs τ sh=>match E.get s with
   | .rdp hs' v=>if Ge r v.sh sh&&hs'.all (fun h=>hs.contains (lr r h))then(match eU v τ with|some x=>some (x,())|none=>none)else none
   |_=>none
def mL:List (Nat×AK)→List Ty
 | []=>[]
 |(_,a)::l=>a.LV++mL l
def Gp (E:Env) (r:Ren):(l:List (Nat×AK))→Option (aZ (mL l))
 | []=>some ()
 |(s,a)::l=>match wa E r s a,Gp E r l with
  |some x,some y=>some (aZ.app a.LV (mL l) x y)
  |_,_=>none
def AK.bt:AK→List Nat
 | .box c _ _| .ptr c _ _ _=>[c]
 |_=>[]
def AK.sc:AK→List Nat
 | .val _ sh| .box _ _ sh=>sh.aE
 | .ept c _ _ _ _=>[c]
 | .rdp hs _ sh=>hs++sh.aE
 |_=>[]
def ace (a:xw):Bool:=
 let b:=a.ks.flatMap fun p=>p.2.bt
 let c:=a.ks.flatMap fun p=>p.2.sc
 let s:=a.ks.map (·.1)
 4≤a.nt&&b.all (fun x=>0<x&&x<a.nt&&x≠2&&x≠3)&&c.all (fun x=>0<x&&x<a.nt&& !b.contains x)&&s.eraseDups.length=s.length
def yH (r:Ren) (nt:Nat):Bool:=r.all fun p=>4≤p.2&&p.2<nt&&r.find? (·.2=p.2)==some p
def proj (a:xw) (E:Env):Option (aZ (mL a.ks)):=
 match Xf E [] a.ks with
 |some r=>if E.nt≤1000000000&&ace a&&yH r a.nt then Gp E r a.ks else none
 |none=>none
def pK:(a:AK)→aZ a.LV→SV
 | .val τ sh,x=> .d ⟨τ,x.1,sh⟩
 | .box c τ sh,x=> .box c ⟨τ,x.1,sh⟩
 | .ptr c o p τ,_=> .ptr c o p τ
 | .ept c e o p τ,x=> .ept c e x.1 o p τ
 | .rdp hs τ sh,x=> .rdp hs ⟨τ,x.1,sh⟩
def mX:(l:List (Nat×AK))→aZ (mL l)→List SV→List SV
 | [],_,E=>E
 |(s,a)::l,x,E=>mX l (aZ.snd a.LV (mL l) x) (E.set s (pK a (aZ.fst a.LV (mL l) x)))
def eB (n:Nat) (a:xw) (x:aZ (mL a.ks)):Env:=⟨mX a.ks x (aeQ n .no),a.nt,false⟩
def ix:Code→Option Nat
 | .region id _ _=>some id
 | .seq a _=>ix a
 | .block _ c=>ix c
 | .loop c=>ix c
 | .scope c=>ix c
 |_=>none
/-regions that draw their order-/
def JH (ops:List Oper):List Nat:=
 ops.foldl (fun acc o=>
  acc++[((o.after.toList.filter (Region.binds .any)).map (·.on)).foldl (fun m j=>m ||| (2^j ||| acc.getD j 0)) 0]) []
def sD (ops:List Oper) (labs:List c9):Bool:=
 let B:=JH ops
 (ops.zipIdx.all fun p=>(match p.1.guard with|some (j,_)=>(B.getD p.2 0).testBit j|none=>true)&&p.1.after.toList.all fun e=> !Region.binds .any e||e.on<p.2)&&
 labs.all fun b=>labs.all fun a=>b.i≤a.i||(B.getD b.i 0).testBit a.i||a.QX b
section
variable {ρ:Type}
def vY (C:Cx) (ops:List Oper) (nt:Nat):List Oper→Nat→Env→List c9→(Env→List c9→Option ρ)→Option ρ
 | [],_,E,L,k=>k E L
 |o::l,i,E,L,k=>match guardOf ops E.rd o.guard with
  |none=>none
  |some a=>match iK C ops E.rd (nt+32*i) o.guard o with
   |none=>none
   |some ef=>qX o a ef fun r=>vY C ops nt l (i+1) (E.fE r) (wQ ops i o E r::L) k
def ev (C:Cx):Code→Env→(Env→Option ρ)→List (Nat×(Env→Option ρ))→(Env→Option ρ)→Option ρ
 | .skip,E,kn,_,_=>kn E
 | .region _ ops draw,E,kn,_,_=>if fq ops.toList&&keeps C.io ops.toList then(if draw=true
  then vY C ops.toList E.nt ops.toList 0 E [] (fun E' L=>if sD ops.toList L then kn {jz E' ops.toList with nt:=E.nt+32*ops.size}else none)
  else ym C ops.toList E.nt ops.toList 0 E (fun E'=>kn {jz E' ops.toList with nt:=E.nt+32*ops.size}))else none
 | .seq a b,E,kn,ke,kr=>
   match(ix b).bind C.ja with
   |none=>ev C a E (fun E'=>ev C b E' kn ke kr) ke kr
   |some n=>aL (fun J=>ev C a E (fun E'=>(proj n E').bind J) ke kr) (fun t=>ev C b (eB C.n n t) kn ke kr)
 | .cond c x y,E,kn,ke,kr=>
   match arg C E.rd none 0 c with
   |some (.d ⟨.bool,b,_⟩)=>if b=true then ev C x E kn ke kr else ev C y E kn ke kr
   |_=>none
 | .block id c,E,kn,ke,kr=>ev C c E kn ((id,kn)::ke) kr
 | .loop c,E,_,ke,kr=>
   match(ix c).bind C.la with
   |none=>none
   |some n=>(proj n E).bind (aH C.k (fun G t=>ev C c (eB C.n n t) (fun E'=>(proj n E').bind G) ke kr))
 | .exit id,E,_,ke,_=>match ke.lookup id with|some k=>k E|none=>none
 | .ret,E,_,_,kr=>kr E
 |_,_,_,_,_=>none
end
/-whole functions-/
def bK:(ps:List PK)→aZ (ps.map PK.ty)→Nat→List SV×Nat
 | [],_,tk=>([],tk)
 | .val τ p::ps,x,tk=>let s:=aV p tk [1];let r:=bK ps x.2 s.2;(.d ⟨τ,x.1,s.1⟩::r.1,r.2)
 | .io τ p::ps,x,tk=>let s:=aV p (tk+1) [1];let r:=bK ps x.2 s.2;(.box tk ⟨τ,x.1,s.1⟩::r.1,r.2)
 | .rd τ::ps,x,tk=>let r:=bK ps x.2 tk;(.rdp [1] ⟨τ,x.1,(aV (mf τ) tk [1]).1⟩::r.1,r.2)
 | .vx e l::ps,x,tk=>let r:=bK ps x.2 tk;(.d ⟨.sl e,x.1,.sl (.sha (1::l))⟩::r.1,r.2)
def uX (c:Nat):Nat:=if c=1 then 1 else 2
def NX:Pt→Sh→List Nat
 | .shr,.sl m=>m.aE
 | .hd,.sl (.row _ hs _)=>hs
 | .pair a b,.pair x y=>NX a x++NX b y
 |_,_=>[]
def Nz (p:Pt) (s:Sh):Bool:= !(NX p s).contains 3
def xU (tt:TypeId→Option TI) (E:Env):(rs:List RK)→List ResultVar→Nat→Option (aZ (rs.map RK.ty)×List (Nat×Nat)×Nat)
 | [],[],tk=>some ((),[],tk)
 | .val τ p::rs,v::vs,tk=>match(match v with| .tmp s=>(match E.get s with| .d t=>some t|_=>none)| .cell s ty=>(match E.get s,tt ty with| .box _ t,some i=>if i.τ=t.τ then some t else none|_,_=>none))with
   |none=>none
   |some t=>match eU t τ,xU tt E rs vs (aV p tk []).2 with
    |some x,some (xs,rho,tk')=>if iG p t.sh&&Nz p t.sh then some ((x,xs),dV uX p t.sh tk++rho,tk')else none
    |_,_=>none
 | .nbox τ p::rs,.tmp s::vs,tk=>match oC E.rd (E.rd.get s)with
   |none=>none
   |some (b,_,t)=>match eU t τ,xU tt E rs vs (aV p (tk+1) []).2 with
    |some x,some (xs,rho,tk')=>if iG p t.sh&&Nz p t.sh then some ((x,xs),(b,tk)::dV uX p t.sh (tk+1)++rho,tk')else none
    |_,_=>none
 |_,_,_=>none
def Cy (E:Env):(ps:List PK)→Nat→Nat→Nat→Option (aZ (bn ps)×List (Nat×Nat))
 | [],_,_,_=>some ((),[])
 | .val _ p::ps,i,te,tk=>Cy E ps (i+1) (aV p te []).2 tk
 | .io τ p::ps,i,te,tk=>match E.get i,Cy E ps (i+1) (aV p (te+1) []).2 (aV p tk []).2 with
   | .box b v,some (xs,rho)=>(match eU v τ with
     |some x=>if iG p v.sh&&Nz p v.sh&&b=te then some ((x,xs),(b,te)::dV uX p v.sh tk++rho)else none
     |none=>none)
   |_,_=>none
 | .rd _::ps,i,te,tk| .vx _ _::ps,i,te,tk=>Cy E ps (i+1) te tk
def gH:List PK→Nat→List Nat
 | [],_=>[]
 | .val _ _::ps,i=>gH ps (i+1)
 | .io _ _::ps,i=>i::gH ps (i+1)
 | .rd _::ps,i| .vx _ _::ps,i=>gH ps (i+1)
def rL:List PK→Nat→Nat→List (Nat×Ty×Sh)
 | [],_,_=>[]
 | .val _ p::ps,i,te=>rL ps (i+1) (aR p te)
 | .io τ p::ps,i,te=>(i,τ,(aV p (te+1) [1]).1)::rL ps (i+1) (aR p (te+1))
 | .rd _::ps,i,te| .vx _ _::ps,i,te=>rL ps (i+1) te
def ZQ (E:Env) (ps:List PK) (kp:List (Nat×List Bool)):Bool:=
 kp.isEmpty||E.kp&&kp.all fun q=>match(rL ps 0 4)[q.1]? with
  |some (i,τ,sh)=>(match E.get i,j9 sh q.2 with
   | .box _ v,some u=>v.τ=τ&&j9 v.sh q.2==some u
   |_,_=>false)
  |none=>false
def fin (tt:TypeId→Option TI) (ps:List PK) (rs:List RK) (kp:List (Nat×List Bool)) (rv:List ResultVar) (nt:Nat) (E:Env):Option (aZ (rs.map RK.ty++bn ps)):=
 match xU tt E rs rv nt with
 |some (xs,rho,tk)=>(match Cy E ps 0 4 tk with
  |some (ys,rho')=>if Gl (rho++rho')&&ZQ E ps kp then some (aZ.app _ _ xs ys)else none
  |none=>none)
 |none=>none
def Zj (C:Cx) (ps:List PK) (rs:List RK) (kp:List (Nat×List Bool)) (fn:Func) (x:aZ (ps.map PK.ty)):Option (aZ (rs.map RK.ty++bn ps)):=
 match fn.body with
 |none=>none
 |some c=>
  let e:=bK ps x 4
  ev {C with n:=fn.ntmps,io:=gH ps 0} c ⟨e.1++aeQ (fn.ntmps-e.1.length) .no,e.2,true⟩ (fin C.tt ps rs kp fn.results.toList e.2) [] (fin C.tt ps rs kp fn.results.toList e.2)
structure Gh where
 col:Nat→Nat
 hdr:Nat→Value
 bx:Nat→Bool
theorem dp.one {α:Type} {w:World} {sz:Nat} {R:α→List Value→List Nat→Prop} {l:List α} {v:Value} {B:List Nat}
 (h:dp w sz R l v B):v.oneCell'=true:=by
 rcases h with h|⟨b,off,cap,c,el,fz,Bs,rfl,_⟩
 ·obtain⟨ao,e⟩:=h.1;rw[e];rfl
 ·rfl
theorem dp.mono {w w':World} {e:Ty} {l:List e.den} {v:Value} {B:List Nat} (hB:∀b∈B,w'.heap[b]?=w.heap[b]?)
 (h:dp w e.sz (aQ w e) l v B):dp w' e.sz (aQ w' e) l v B:=by
 have:aQ w' (.sl e) l [v] B:=aQ.mono hB ⟨v,rfl,h⟩
 obtain⟨v',hv,h⟩:=this
 cases hv;exact h
def cJ (o:Nat) (vs c:List Value):List Value:=c.take o++vs++c.drop (o+vs.length)
def aej (w:World) (G:Gh) (v:Value) (b:Nat) (E:Ty) (i:Int) (o:Nat) (fr:Bool):Prop:=
 4≤b∧0≤i∧∃(blk off n cap:Nat) (c:Array Value) (el:TypeId) (L:List E.den) (Bs:List Nat),
  G.hdr b= .slice (some ⟨blk,off,none⟩) n cap∧n≤cap∧G.col blk=b∧w.heap[blk]?=some (.cells c el (0,0))∧off+cap*E.sz≤c.size∧i<n∧o+1≤E.sz∧L.length=n∧
  aT (aQ w E) L (cJ (i.toNat*E.sz+o) [v] ((c.toList.drop off).take (n*E.sz))) Bs∧(blk::Bs).Nodup∧(∀x∈Bs,G.col x=b)∧
  (fr=true→((c.toList.drop off).take (n*E.sz))[i.toNat*E.sz+o]?=some v)
def bJ (w:World) (G:Gh) (e:Ty) (l:List e.den) (v:Value):M→Prop
 | .row t hs nd=>4≤t∧G.hdr t=v∧∃B,dp w e.sz (aQ w e) l v B∧
  ∀b Bs,B=b::Bs→G.col b=t∧b∉Bs∧(∀x∈Bs,G.col x∈hs)∧(nd=true→Bs.Nodup)
 | .sha hs=>(∃B,dp w e.sz (aQ w e) l v B∧∀b∈B,G.col b∈hs)∧(hs=[]→v= .slice none 0 0)
 | .nst b E i o p fr=>(∃B,dp w e.sz (aQ w e) l v B∧∀x∈B,G.col x=b)∧E.sub p=some (.sl e)∧E.off p=o∧aej w G v b E i o fr
 | .dead=>v.oneCell'=true
def bg (w:World) (G:Gh):(τ:Ty)→τ.den→Sh→List Value→Prop
 | .int k,n,.leaf,cs=>cs=[.int k n]
 | .bool,b,.leaf,cs=>cs=[.bool b]
 | .str,s,.leaf,cs=>cs=[.string s]
 | .sl e,l,.sl m,cs=>∃v,cs=[v]∧bJ w G e l v m
 | .pair a b,p,.pair s1 s2,cs=>∃c1 c2,cs=c1++c2∧bg w G a p.1 s1 c1∧bg w G b p.2 s2 c2
 |_,_,_,_=>False
def bU (w:World) (G:Gh):SV→Value→Prop
 | .no,_=>True
 | .d v,mv=>∃cs,mv=cw v.τ cs∧bg w G v.τ v.x v.sh cs
 | .box t v,mv=>∃bk c el,mv= .pointer (some ⟨bk,0,none⟩)∧4≤t∧G.hdr t=mv∧G.col bk=t∧w.heap[bk]?=some (.cells c el (0,0))∧bg w G v.τ v.x v.sh c.toList
 | .ptr t o _ _,mv=>∃bk,4≤t∧G.hdr t= .pointer (some ⟨bk,0,none⟩)∧mv= .pointer (some ⟨bk,o,none⟩)
 | .ept t e i o _ _,mv=>∃b off n cap,4≤t∧G.hdr t= .slice (some ⟨b,off,none⟩) n cap∧0≤i∧i<n∧mv= .pointer (some ⟨b,off+i.toNat*e.sz+o,none⟩)
 | .rdp hs v,mv=>∃b o c el fz,mv= .pointer (some ⟨b,o,none⟩)∧w.heap[b]?=some (.cells c el fz)∧o+v.τ.sz≤c.size∧G.col b∈hs∧bg w G v.τ v.x v.sh ((c.toList.drop o).take v.τ.sz)
 | .tup l,mv=>∃vs:List Value,mv= .tuple vs.toArray∧vs.length=l.length∧∀(i:Nat) (v:TV),l[i]?=some v→∃u cs,vs[i]?=some u∧u=cw v.τ cs∧bg w G v.τ v.x v.sh cs
 | .g _ _ act v,mv=>(act=true→v.cS=false∧bU w G v mv)∧(act=false→mv=undef)
def SV.sc:SV→List Nat
 | .d v| .box _ v=>v.sh.aE
 | .rdp hs v=>hs++v.sh.aE
 | .tup l=>l.flatMap fun v=>v.sh.aE
 | .g _ _ act v=>if act=true then v.sc else []
 |_=>[]
def SV.bt:SV→List Nat
 | .box t _| .ptr t _ _ _=>[t]
 | .g _ _ act v=>if act=true then v.bt else []
 |_=>[]
def SV.rt:SV→List Nat
 | .ept t _ _ _ _ _=>[t]
 | .g _ _ act v=>if act=true then v.rt else []
 |_=>[]
def SV.hc:SV→List Nat
 | .box t v=>t::v.sh.aE
 |v=>v.sc
structure yL (S T:List Nat) (w w':World) (G G':Gh):Prop where
 heap:∀b,G.col b∈S→w'.heap[b]?=w.heap[b]?
 col:∀b,G.col b∈S→G'.col b=G.col b
 hdr:∀t∈T,G'.hdr t=G.hdr t
theorem yL.sub {S S' T T':List Nat} {w w':World} {G G':Gh} (h:yL S T w w' G G') (hs:∀c∈S',c∈S) (ht:∀c∈T',c∈T):yL S' T' w w' G G':=
 ⟨fun b hb=>h.heap b (hs _ hb),fun b hb=>h.col b (hs _ hb),fun t hb=>h.hdr t (ht _ hb)⟩
theorem bJ.agree {w w':World} {G G':Gh} {e:Ty} {l:List e.den} {v:Value} {m:M} (h:yL m.aE m.aE w w' G G') (hr:bJ w G e l v m):bJ w' G' e l v m:=by
 cases m with
 |row t hs nd=>
  obtain⟨ht,hh,B,hB,hc⟩:=hr
  have hin:∀b∈B,G.col b∈t::hs:=by
   intro b hb
   cases B with
   |nil=>cases hb
   |cons x Bs=>
    obtain⟨h1,_,h3,_⟩:=hc x Bs rfl
    rcases aco.1 hb with rfl|hb
    ·simp[h1]
    ·exact adL _ (h3 b hb)
  refine⟨ht,(h.hdr t (by simp[M.aE])).trans hh,B,dp.mono (fun b hb=>h.heap b (hin b hb)) hB,?_⟩
  intro b Bs e
  obtain⟨h1,h2,h3,h4⟩:=hc b Bs e
  subst e
  refine⟨(h.col b (hin b (by simp))).trans h1,h2,fun x hx=> ?_,h4⟩
  rw[h.col x (hin x (by simp[hx]))];exact h3 x hx
 |sha hs=>
  obtain⟨⟨B,hB,hc⟩,hn⟩:=hr
  exact⟨⟨B,dp.mono (fun b hb=>h.heap b (hc b hb)) hB,fun b hb=>by rw[h.col b (hc b hb)];exact hc b hb⟩,hn⟩
 |nst b E i o p fr=>
  obtain⟨⟨B,hB,hc⟩,hs,ho,h3,hi,blk,off,n,cap,c,el,L,Bs,g1,g2,g3,g4,g5,g6,g7,g8,g9,g10,g11,g12⟩:=hr
  have hin:∀x,G.col x=b→G.col x∈(M.nst b E i o p fr).aE:=fun x hx=>by simp[M.aE,hx]
  refine⟨⟨B,dp.mono (fun x hx=>h.heap x (hin x (hc x hx))) hB,fun x hx=>(h.col x (hin x (hc x hx))).trans (hc x hx)⟩,hs,ho,h3,hi,blk,off,n,cap,c,el,L,Bs,
   (h.hdr b (by simp[M.aE])).trans g1,g2,(h.col blk (hin blk g3)).trans g3,(h.heap blk (hin blk g3)).trans g4,g5,g6,g7,g8,?_,g10,fun x hx=>(h.col x (hin x (g11 x hx))).trans (g11 x hx),g12⟩
  exact aT.mono (fun x=>w'.heap[x]?=w.heap[x]?) (fun _ _ _ hP hx=>aQ.mono hP hx) (fun x hx=>h.heap x (hin x (g11 x hx))) g9
 |dead=>exact hr
theorem bg.agree {w w':World} {G G':Gh}:∀ {τ:Ty} {x:τ.den} {sh:Sh} {cs:List Value},yL sh.aE sh.aE w w' G G'→bg w G τ x sh cs→bg w' G' τ x sh cs
 | .int _,_,.leaf,_,_,h=>h
 | .bool,_,.leaf,_,_,h=>h
 | .str,_,.leaf,_,_,h=>h
 | .sl e,l,.sl m,cs,ha,h=>by obtain⟨v,rfl,hr⟩:=h;exact⟨v,rfl,bJ.agree ha hr⟩
 | .pair a b,p,.pair s1 s2,cs,ha,h=>by
   obtain⟨c1,c2,rfl,h1,h2⟩:=h
   exact⟨c1,c2,rfl,bg.agree (ha.sub (fun c hc=>by simp[Sh.aE,hc]) (fun c hc=>by simp[Sh.aE,hc])) h1,
    bg.agree (ha.sub (fun c hc=>by simp[Sh.aE,hc]) (fun c hc=>by simp[Sh.aE,hc])) h2⟩
 | .int _,_,.sl _,_,_,h| .int _,_,.pair _ _,_,_,h| .bool,_,.sl _,_,_,h| .bool,_,.pair _ _,_,_,h
 | .str,_,.sl _,_,_,h| .str,_,.pair _ _,_,_,h| .sl _,_,.leaf,_,_,h| .sl _,_,.pair _ _,_,_,h
 | .pair _ _,_,.leaf,_,_,h| .pair _ _,_,.sl _,_,_,h=>h.elim
theorem bU.agree {w w':World} {G G':Gh}:∀ {s:SV} {mv:Value},yL s.hc (s.sc++s.bt++s.rt) w w' G G'→bU w G s mv→bU w' G' s mv
 | .no,_,_,_=>trivial
 | .d v,mv,ha,⟨cs,h1,h2⟩=>⟨cs,h1,bg.agree (ha.sub (fun c hc=>hc) (fun c hc=>by simp[SV.sc,hc])) h2⟩
 | .box t v,mv,ha,⟨bk,c,el,h1,h2,h3,h4,h5,h6⟩=>
   ⟨bk,c,el,h1,h2,(ha.hdr t (by simp[SV.bt])).trans h3,(ha.col bk (by simp[SV.hc,h4])).trans h4,
    (ha.heap bk (by simp[SV.hc,h4])).trans h5,bg.agree (ha.sub (fun c hc=>by simp[SV.hc,hc]) (fun c hc=>by simp[SV.sc,hc])) h6⟩
 | .ptr t o p τ,mv,ha,⟨bk,h1,h2,h3⟩=>⟨bk,h1,(ha.hdr t (by simp[SV.bt])).trans h2,h3⟩
 | .ept t e i o p τ,mv,ha,⟨b,off,n,cap,h1,h2,h3⟩=>⟨b,off,n,cap,h1,(ha.hdr t (by simp[SV.rt])).trans h2,h3⟩
 | .rdp hs v,mv,ha,⟨b,o,c,el,fz,h1,h2,h3,h4,h5⟩=>
   ⟨b,o,c,el,fz,h1,(ha.heap b (by simp[SV.hc,SV.sc,h4])).trans h2,h3,by rw[ha.col b (by simp[SV.hc,SV.sc,h4])];exact h4,
     bg.agree (ha.sub (fun c hc=>by simp[SV.hc,SV.sc,hc]) (fun c hc=>by simp[SV.sc,hc])) h5⟩
 | .tup l,mv,ha,⟨vs,h1,h2,h3⟩=>by
   refine⟨vs,h1,h2,fun i v hi=> ?_⟩
   obtain⟨u,cs,hu,hm,hv⟩:=h3 i v hi
   have hin:∀c∈v.sh.aE,c∈SV.sc (.tup l):=fun c hc=>adi.2 ⟨v,aff hi,hc⟩
   exact⟨u,cs,hu,hm,bg.agree (ha.sub hin (fun c hc=>by simp[hin c hc])) hv⟩
 | .g j w' false v,mv,ha,⟨h1,h2⟩=>⟨fun e=>absurd e (by simp),h2⟩
 | .g j w' true v,mv,ha,⟨h1,h2⟩=>⟨fun e=>⟨(h1 e).1,bU.agree (s:=v) (by
  have hv:=(h1 e).1
  cases v with
  |box t v=>simp[SV.cS]at hv
  |_=>simpa[SV.hc,SV.sc,SV.bt,SV.rt]using ha) (h1 e).2⟩,h2⟩
theorem SV.F3:∀(s:SV) (c:Nat),c∈s.hc→c∈s.sc∨c∈s.bt
 | .no,c,h| .ptr ..,c,h| .ept ..,c,h=>by simp[SV.hc,SV.sc]at h
 | .d v,c,h| .rdp hs v,c,h| .tup l,c,h=> .inl h
 | .box t v,c,h=>by
   rcases aco.1 h with rfl|h
   ·right;simp[SV.bt]
   ·left;exact h
 | .g _ _ _ v,c,h=> .inl h
structure C0 where
 col:Nat→Nat
 hdr:Nat→Option Value
structure Inv (w0:World) (c0:C0) (U:Nat→Prop) (E:Env) (a:Act) (w:World) (G:Gh):Prop where
 len:a.tmps.size=E.s.length
 slots:∀s,bU w G (E.s.getD s .no) (a.tmps.getD s undef)
 sc:∀s,∀c∈(E.s.getD s .no).sc,0<c∧U c∧G.bx c=false
 bt:∀s,∀t∈(E.s.getD s .no).bt,0<t∧U t∧G.bx t=true
 rt:∀s,∀t∈(E.s.getD s .no).rt,0<t∧U t∧G.bx t=false
 uni:∀s s' t v v',E.s.getD s .no= .box t v→E.s.getD s' .no= .box t v'→s=s'
 colU:∀b,0<G.col b→U (G.col b)
 lt:∀b,0<G.col b→b<w.heap.size
 fresh:∀b,4≤G.col b→∃c el,w.heap[b]?=some (.cells c el (0,0))
 frame:∀b,b<w0.heap.size→c0.col b<4→G.col b=c0.col b∧w.heap[b]?=w0.heap[b]?
 one:∀b,G.col b=1∨G.col b=3→b<w0.heap.size∧c0.col b=G.col b
 size:w0.heap.size≤w.heap.size
 os:w.os=w0.os
 tape:w.tape=w0.tape
 output:w.output=w0.output
 defers:a.defers=[]
 two:(U 2∧G.bx 2=false)∧U 3∧G.bx 3=false
 hk:E.kp=true→∀t v,c0.hdr t=some v→U t∧G.hdr t=v
theorem dE (l:List SV) (d s:Nat) (v:SV):(l.set d v).getD s .no=if s=d∧d<l.length then v else l.getD s .no:=by
 simp only[aeS,List.getElem?_set]
 by_cases h:d=s
 ·subst h
  by_cases h':d<l.length
  ·simp[h']
  ·simp[h']
 ·simp[h,Ne.symm h]
theorem UT (a:Act) (d:Option Nat) (v:Value) (s:Nat) (hd:∀x,d=some x→x<a.tmps.size):
 (a.put d v).tmps.getD s undef=if some s=d then v else a.tmps.getD s undef:=by
 cases d with
 |none=>simp[Act.put]
 |some d=>
  have:=hd d rfl
  simp only[Act.put,afj,Array.getElem?_setIfInBounds,aaF]
  by_cases h:d=s
  ·subst h;simp[this]
  ·simp[h,Ne.symm h]
theorem Ve (a:Act) (d:Nat) (v:Value) (h:¬d<a.tmps.size):a.put (some d) v=a:=by
 cases a;simp only[Act.put,Act.mk.injEq,and_true]
 exact Array.setIfInBounds_eq_of_size_le (by simpa using h)
theorem kv (a:Act) (d:Option Nat) (v:Value):(a.put d v).tmps.size=a.tmps.size:=by
 cases d<;>simp[Act.put]
theorem Yc (a:Act) (d:Option Nat) (v:Value):(a.put d v).defers=a.defers:=by
 cases d<;>simp[Act.put]
section
variable {w0:World} {c0:C0} {U:Nat→Prop} {E:Env} {a:Act} {w:World} {G:Gh}
theorem Inv.put (h:Inv w0 c0 U E a w G) (d:Option Nat) {sv:SV} {v:Value} (hs:bU w G sv v)
 (hsc:∀c∈sv.sc,0<c∧U c∧G.bx c=false) (hbt:∀c∈sv.bt,0<c∧U c∧G.bx c=true) (hrt:∀c∈sv.rt,0<c∧U c∧G.bx c=false)
 (hbox:∀t u,sv= .box t u→∀s u',E.s.getD s .no≠ .box t u'):
 Inv w0 c0 U (E.set d sv) (a.put d v) w G:=by
 cases d with
 |none=>exact h
 |some d=>
  have hget:∀s,(E.set (some d) sv).s.getD s .no=if s=d∧d<E.s.length then sv else E.s.getD s .no:=fun s=>dE E.s d s sv
  refine {h with len:= ?_,slots:= ?_,sc:= ?_,bt:= ?_,rt:= ?_,uni:= ?_,defers:=by rw[Yc];exact h.defers}
  ·rw[kv,h.len];simp[Env.set]
  ·intro s
   rw[hget]
   by_cases hd:d<a.tmps.size
   ·rw[UT a (some d) v s (by rintro x ⟨⟩;exact hd)]
    by_cases e:s=d
    ·subst e;rw[if_pos ⟨rfl,h.len▸hd⟩,if_pos rfl];exact hs
    ·rw[if_neg (by simp[e]),if_neg (by simp[e])];exact h.slots s
   ·rw[Ve a d v hd,if_neg (by rw[←h.len];simp;omega)];exact h.slots s
  ·intro s c hcs
   rw[hget]at hcs
   split at hcs
   ·exact hsc c hcs
   ·exact h.sc s c hcs
  ·intro s c hcs
   rw[hget]at hcs
   split at hcs
   ·exact hbt c hcs
   ·exact h.bt s c hcs
  ·intro s c hcs
   rw[hget]at hcs
   split at hcs
   ·exact hrt c hcs
   ·exact h.rt s c hcs
  ·intro s s' t u u' h1 h2
   rw[hget]at h1 h2
   split at h1<;>split at h2
   ·omega
   ·exact absurd h2 (hbox t u h1 s' u')
   ·exact absurd h1 (hbox t u' h2 s u)
   ·exact h.uni s s' t u u' h1 h2
theorem Inv.mono {U':Nat→Prop} (h:Inv w0 c0 U E a w G) (hU:∀c,U c→U' c):Inv w0 c0 U' E a w G:=
 {h with
  sc:=fun s c hc=>⟨(h.sc s c hc).1,hU _ (h.sc s c hc).2.1,(h.sc s c hc).2.2⟩
  bt:=fun s c hc=>⟨(h.bt s c hc).1,hU _ (h.bt s c hc).2.1,(h.bt s c hc).2.2⟩
  rt:=fun s c hc=>⟨(h.rt s c hc).1,hU _ (h.rt s c hc).2.1,(h.rt s c hc).2.2⟩
  colU:=fun b hb=>hU _ (h.colU b hb)
  two:=⟨⟨hU _ h.two.1.1,h.two.1.2⟩,hU _ h.two.2.1,h.two.2.2⟩
  hk:=fun hk t v e=>⟨hU _ (h.hk hk t v e).1,(h.hk hk t v e).2⟩}
theorem size_alloc (w:World) (o:Obj):(w.alloc o).heap.size=w.heap.size+1:=Array.size_push ..
def Gh.add (G:Gh) (b t:Nat) (v:Value) (x:Bool):Gh:=
 ⟨fun y=>if y=b then t else G.col y,fun u=>if u=t then v else G.hdr u,fun u=>if u=t then x else G.bx u⟩
theorem Inv.drawn (h:Inv w0 c0 U E a w G) (n:Nat):Inv w0 c0 U E a {w with drawn:=n} G:=by
 refine {h with slots:=fun s=> ?_}
 exact bU.agree (w:=w) (G:=G) (G':=G) ⟨fun _ _=>rfl,fun _ _=>rfl,fun _ _=>rfl⟩ (h.slots s)
theorem Inv.alloc (h:Inv w0 c0 U E a w G) {t:Nat} (ht:4≤t) (hU:¬U t) (c:Array Value) (el:TypeId) (v:Value) (x:Bool):
 Inv w0 c0 (fun u=>U u∨u=t) E a (w.alloc (.cells c el)) (G.add w.heap.size t v x):=by
 have hb0:∀b,0<G.col b→b≠w.heap.size:=fun b hb e=>by have:=h.lt b hb;omega
 have hne:∀u,U u→u≠t:=fun u hu e=>hU (e▸hu)
 refine⟨h.len,fun s=> ?_,fun s c hc=> ?_,fun s c hc=> ?_,fun s c hc=> ?_,h.uni,?_,?_,?_,?_,?_,?_,h.os,h.tape,h.output,h.defers,⟨⟨.inl h.two.1.1,by simp only[Gh.add];rw[if_neg (by omega)];exact h.two.1.2⟩,.inl h.two.2.1,by simp only[Gh.add];rw[if_neg (by omega)];exact h.two.2.2⟩,fun hk t' v' e=>⟨.inl (h.hk hk t' v' e).1,by simp only[Gh.add];rw[if_neg (hne t' (h.hk hk t' v' e).1)];exact(h.hk hk t' v' e).2⟩⟩
 ·refine bU.agree (w:=w) (G:=G) ⟨fun b hb=> ?_,fun b hb=> ?_,fun u hu=> ?_⟩ (h.slots s)
  ·have:0<G.col b:=by rcases SV.F3 _ _ hb with hb|hb;exact(h.sc s _ hb).1;exact(h.bt s _ hb).1
   exact heap_alloc_old w _ b (h.lt b this)
  ·have:0<G.col b:=by rcases SV.F3 _ _ hb with hb|hb;exact(h.sc s _ hb).1;exact(h.bt s _ hb).1
   simp[Gh.add,hb0 b this]
  ·have:U u:=by
    simp only[acf]at hu
    rcases hu with(hu|hu)|hu
    ·exact(h.sc s u hu).2.1
    ·exact(h.bt s u hu).2.1
    ·exact(h.rt s u hu).2.1
   simp[Gh.add,hne u this]
 ·have:=h.sc s c hc;exact⟨this.1,.inl this.2.1,by simp[Gh.add,hne c this.2.1,this.2.2]⟩
 ·have:=h.bt s c hc;exact⟨this.1,.inl this.2.1,by simp[Gh.add,hne c this.2.1,this.2.2]⟩
 ·have:=h.rt s c hc;exact⟨this.1,.inl this.2.1,by simp[Gh.add,hne c this.2.1,this.2.2]⟩
 ·intro b hb
  by_cases e:b=w.heap.size
  ·right;simp[Gh.add,e]
  ·left;simp only[Gh.add,e,if_false]at hb⊢;exact h.colU b hb
 ·intro b hb
  by_cases e:b=w.heap.size
  ·rw[size_alloc];omega
  ·simp only[Gh.add,e,if_false]at hb
   have:=h.lt b hb;rw[size_alloc];omega
 ·intro b hb
  by_cases e:b=w.heap.size
  ·exact⟨c,el,by rw[e];exact heap_alloc_new w _⟩
  ·simp only[Gh.add,e,if_false]at hb
   obtain⟨c',el',hc'⟩:=h.fresh b hb
   exact⟨c',el',by rw[heap_alloc_old w _ b (lt_of_block hc')];exact hc'⟩
 ·intro b hb hc
  have hlt:b<w.heap.size:=Nat.lt_of_lt_of_le hb h.size
  refine⟨?_,?_⟩
  ·simp only[Gh.add,if_neg (afo hlt)];exact(h.frame b hb hc).1
  ·rw[heap_alloc_old w _ b hlt];exact(h.frame b hb hc).2
 ·intro b hb
  by_cases e:b=w.heap.size
  ·simp[Gh.add,e]at hb;omega
  ·simp only[Gh.add,e,if_false]at hb⊢;exact h.one b hb
 ·have:=h.size;rw[size_alloc];omega
end
def gA (P:Program) (t:TypeId) (τ:Ty):Prop:=
 ∃inf d,P.info? t=some inf∧inf.size=τ.sz∧inf.zero=some (cw τ τ.zero)∧inf.bytes≤32768∧
  P.underlying t=some d∧(d matches .struct _| .array _ _)=τ.bW
structure Gk (P:Program) (τ:Ty) (fs:List TypeId) (j:Nat) (f:Field):Prop where
 off:f.offset=τ.off (cQ fs.length j)
 ty:fs[j]?=some f.type
 sub:∃σ,τ.sub (cQ fs.length j)=some σ∧gA P f.type σ
def Pg (P:Program) (t:TypeId) (i:TI):Prop:=
 gA P t i.τ∧match i.τ with
 | .int k=>P.underlying t=some (.int k)
 | .bool=>P.underlying t=some .bool
 | .str=>P.underlying t=some .string
 | .sl e=>P.underlying t=some (.slice i.el)∧gA P i.el e
 | .pair _ _=>∃fields,P.underlying t=some (.struct fields)∧fields.size=i.fs.length∧
  ∀(j:Nat) (f:Field),fields[j]?=some f→Gk P i.τ i.fs j f
section
variable {P:Program} {w:World}
theorem U1 {t:TypeId} {inf:TypeInfo} (h:P.info? t=some inf):(typeInfo t).run P w= .ok inf w:=by
 simp[typeInfo,h]
theorem du {t:TypeId} {τ:Ty} (h:gA P t τ):(Go.sizeOf t).run P w= .ok τ.sz w:=by
 obtain⟨inf,d,h1,h2,_⟩:=h
 simp[Go.sizeOf,U1 h1,h2]
theorem TN {t:TypeId} {τ:Ty} (h:gA P t τ):(zeroValue t).run P w= .ok (cw τ τ.zero) w:=by
 obtain⟨inf,d,h1,h2,h3,_⟩:=h
 simp[zeroValue,U1 h1,h3]
theorem uP {t:TypeId} {τ:Ty} (h:gA P t τ):(isAgg t).run P w= .ok τ.bW w:=by
 obtain⟨inf,d,h1,h2,h3,h4,h5,h6⟩:=h
 rw[←h6]
 cases d<;>simp[isAgg,run_underlying h5]
theorem jX {τ:Ty} {cs:List Value} (hl:cs.length=τ.sz) (h1:∀v∈cs,v.oneCell'=true):(cw τ cs).cells.toList=cs:=by
 cases τ with
 |pair a b=>simp[cw,Value.cells]
 |_=>
  simp only[Ty.sz]at hl
  match cs,hl with
  | [v],_=>
    have:=h1 v (by simp)
    cases v<;>simp_all[cw,Value.cells,Value.oneCell']
theorem pF {τ:Ty} {cs:List Value} (hl:cs.length=τ.sz) (h1:∀v∈cs,v.oneCell'=true):(cw τ cs).cells.size=τ.sz:=by
 have:=congrArg afG (jX hl h1)
 simpa[hl]using this
theorem wJ:∀(τ:Ty),∀v∈τ.zero,v.oneCell'=true:=fun τ=>aQ.one (aQ.zero default τ)
theorem ot {b:Nat} {c:Array Value} {el:TypeId} {fz:Nat×Nat} (hb:w.heap[b]?=some (.cells c el fz)) (o:Nat):w.cell? ⟨b,o,none⟩=c[o]?:=by
 simp[World.cell?,hb]
theorem O0 {c:Array Value} {o n j:Nat} {v:Value} (h:((c.toList.drop o).take n)[j]?=some v):c[o+j]?=some v:=by
 rw[List.getElem?_take]at h
 split at h
 ·rw[List.getElem?_drop]at h;simpa using h
 ·cases h
theorem oq {t:TypeId} {τ:Ty} (h:gA P t τ) {b o:Nat} {c:Array Value} {el:TypeId} {fz:Nat×Nat}
 (hb:w.heap[b]?=some (.cells c el fz)) (hs:o+τ.sz≤c.size):(loadVar t ⟨b,o,none⟩).run P w= .ok (cw τ ((c.toList.drop o).take τ.sz)) w:=by
 have hlen:((c.toList.drop o).take τ.sz).length=τ.sz:=by simp;omega
 cases hp:τ.bW with
 |true=>
  have hl:=run_loadCells_list (P:=P) w ⟨b,o,none⟩ ((c.toList.drop o).take τ.sz) (fun j v hv=>by
   rw[Addr.add_lit,ot hb];exact O0 hv)
  rw[hlen]at hl
  simp[loadVar,uP h,hp,du h,hl]
  cases τ<;>simp_all[cw,Ty.bW]
 |false=>
  have h1:τ.sz=1:=by cases τ<;>simp_all[Ty.bW,Ty.sz]
  have ho:o<c.size:=by omega
  have hc:c[o]?=some c[o]:=acv ho
  have hw:(c.toList.drop o).take 1=[c[o]]:=by
   rw[List.take_one,afI];simp[hc]
  rw[h1,hw]
  have hm:cw τ [c[o]]=c[o]:=by cases τ<;>simp_all[cw,Ty.bW]
  rw[hm]
  simp only[loadVar,Sem.run_bind,uP h,hp,Result.andThen_ok,afk,if_false,run_load,ot hb,hc]
theorem vK {b:Nat} {c:Array Value} {el:TypeId} (hb:w.heap[b]?=some (.cells c el (0,0))) (o:Nat):w.frozen? ⟨b,o,none⟩=false:=by
 simp[World.frozen?,hb]
theorem bC (b:Nat):∀(vs:List Value) (o:Nat) (w:World) (k:Nat),k≠b→(w.setCells b o vs).heap[k]?=w.heap[k]?
 | [],_,_,_,_=>rfl
 |v::r,o,w,k,h=>by
  rw[World.setCells,bC b r (o+1) _ k h]
  exact heap_setCell_other w ⟨b,o,none⟩ k v h
theorem dY (b:Nat):∀(vs:List Value) (o:Nat) (w:World),(w.setCells b o vs).heap.size=w.heap.size
 | [],_,_=>rfl
 |v::r,o,w=>by rw[World.setCells,dY b r (o+1)];simp[World.setCell]
theorem bV (b:Nat):∀(vs:List Value) (o:Nat) (w:World),(w.setCells b o vs).os=w.os∧(w.setCells b o vs).tape=w.tape∧(w.setCells b o vs).output=w.output
 | [],_,_=>⟨rfl,rfl,rfl⟩
 |_::r,o,_=>bV b r (o+1) _
theorem fO (b:Nat) {el:TypeId}:∀(vs:List Value) (o:Nat) (w:World) (c:Array Value),w.heap[b]?=some (.cells c el (0,0))→o+vs.length≤c.size→
 (w.setCells b o vs).heap[b]?=some (.cells (c.toList.take o++vs++c.toList.drop (o+vs.length)).toArray el (0,0))
 | [],o,w,c,hb,_=>by simp[World.setCells,hb]
 |v::r,o,w,c,hb,hs=>by
  simp only[afb]at hs
  have h1:(w.setCell ⟨b,o,none⟩ v).heap[b]?=some (.cells (c.setIfInBounds o v) el (0,0)):=by
   simp only[World.setCell,Array.getElem?_modify,hb];rfl
  rw[World.setCells,fO b r (o+1) _ _ h1 (by simp;omega)]
  congr 3
  have ho:o<c.toList.length:=by simp at hs⊢;omega
  have hd:(c.toList.set o v).drop (o+1+r.length)=c.toList.drop (o+(r.length+1)):=by
   rw[afx (by omega)];congr 1;omega
  have ht:(c.toList.set o v).take (o+1)=c.toList.take o++[v]:=by
   rw[afc (by simpa using ho),afy (aem _)]
   simp
  simp only[afl,afb,hd,ht]
  simp
theorem S9 {t:TypeId} {τ:Ty} (h:gA P t τ) {b o:Nat} {c:Array Value} {el:TypeId} {cs:List Value}
 (hb:w.heap[b]?=some (.cells c el (0,0))) (hs:o+τ.sz≤c.size) (hl:cs.length=τ.sz) (h1:∀v∈cs,v.oneCell'=true):
 (storeVar t ⟨b,o,none⟩ (cw τ cs)).run P w= .ok () (w.setCells b o cs):=by
 have hst:=run_storeCells_cells (P:=P) b o cs 0 w (fun j hj=>by rw[ot hb];simp;omega) (fun j hj=>vK hb _) h1
 simp[storeVar,du h,pF hl h1,jX hl h1]
 simpa using hst
end
section
variable {w:World} {G:Gh}
theorem bg.len:∀ {τ:Ty} {x:τ.den} {sh:Sh} {cs:List Value},bg w G τ x sh cs→cs.length=τ.sz
 | .int _,_,.leaf,_,h=>by rw[show _=_ from h];rfl
 | .bool,_,.leaf,_,h=>by rw[show _=_ from h];rfl
 | .str,_,.leaf,_,h=>by rw[show _=_ from h];rfl
 | .sl e,l,.sl m,cs,h=>by obtain⟨v,rfl,_⟩:=h;rfl
 | .pair a b,p,.pair s1 s2,cs,h=>by
   obtain⟨c1,c2,rfl,h1,h2⟩:=h
   simp[Ty.sz,bg.len h1,bg.len h2]
 | .int _,_,.sl _,_,h| .int _,_,.pair _ _,_,h| .bool,_,.sl _,_,h| .bool,_,.pair _ _,_,h
 | .str,_,.sl _,_,h| .str,_,.pair _ _,_,h| .sl _,_,.leaf,_,h| .sl _,_,.pair _ _,_,h
 | .pair _ _,_,.leaf,_,h| .pair _ _,_,.sl _,_,h=>h.elim
theorem bJ.one {e:Ty} {l:List e.den} {v:Value} {m:M} (h:bJ w G e l v m):v.oneCell'=true:=by
 cases m with
 |row t hs nd=>obtain⟨_,_,B,hB,_⟩:=h;exact hB.one
 |sha hs=>obtain⟨⟨B,hB,_⟩,_⟩:=h;exact hB.one
 |nst b E i o p fr=>obtain⟨⟨B,hB,_⟩,_⟩:=h;exact hB.one
 |dead=>exact h
theorem bg.one:∀ {τ:Ty} {x:τ.den} {sh:Sh} {cs:List Value},bg w G τ x sh cs→∀v∈cs,v.oneCell'=true
 | .int _,_,.leaf,_,h,v,hv=>by rw[show _=_ from h]at hv;simp at hv;subst hv;rfl
 | .bool,_,.leaf,_,h,v,hv=>by rw[show _=_ from h]at hv;simp at hv;subst hv;rfl
 | .str,_,.leaf,_,h,v,hv=>by rw[show _=_ from h]at hv;simp at hv;subst hv;rfl
 | .sl e,l,.sl m,cs,h,v,hv=>by obtain⟨u,rfl,hr⟩:=h;simp at hv;subst hv;exact hr.one
 | .pair a b,p,.pair s1 s2,cs,h,v,hv=>by
   obtain⟨c1,c2,rfl,h1,h2⟩:=h
   rcases acf.1 hv with hv|hv
   ·exact bg.one h1 v hv
   ·exact bg.one h2 v hv
 | .int _,_,.sl _,_,h,_,_| .int _,_,.pair _ _,_,h,_,_| .bool,_,.sl _,_,h,_,_| .bool,_,.pair _ _,_,h,_,_
 | .str,_,.sl _,_,h,_,_| .str,_,.pair _ _,_,h,_,_| .sl _,_,.leaf,_,h,_,_| .sl _,_,.pair _ _,_,h,_,_
 | .pair _ _,_,.leaf,_,h,_,_| .pair _ _,_,.sl _,_,h,_,_=>h.elim
theorem bg.sub:∀ {p:List Bool} {τ:Ty} {x:τ.den} {sh:Sh} {cs:List Value} {r:TV},eA τ x sh p=some r→bg w G τ x sh cs→
 bg w G r.τ r.x r.sh ((cs.drop (τ.off p)).take r.τ.sz)∧τ.off p+r.τ.sz≤τ.sz∧τ.sub p=some r.τ∧(∀c∈r.sh.aE,c∈sh.aE)
 | [],τ,x,sh,cs,r,hr,h=>by
   have:r=⟨τ,x,sh⟩:=by cases τ<;>simp_all[eA]
   subst this
   refine⟨?_,?_,?_,fun c hc=>hc⟩
   ·have:=bg.len h
    cases τ<;>simpa[Ty.off,adY (Nat.le_of_eq this)]using h
   ·cases τ<;>simp[Ty.off]
   ·cases τ<;>simp[Ty.sub]
 |false::p,.pair a b,x,.pair s1 s2,cs,r,hr,h=>by
  obtain⟨c1,c2,rfl,h1,h2⟩:=h
  obtain⟨hv,hle,hs,hc⟩:=bg.sub (p:=p) (by simpa[eA]using hr) h1
  have hl:=bg.len h1
  refine⟨?_,by simp only[Ty.off,Ty.sz];omega,by simpa[Ty.sub]using hs,fun c hcc=>by simp[Sh.aE,hc c hcc]⟩
  simp only[Ty.off]
  rw[aeX (by omega),aeP (by simp;omega)]
  exact hv
 |true::p,.pair a b,x,.pair s1 s2,cs,r,hr,h=>by
  obtain⟨c1,c2,rfl,h1,h2⟩:=h
  obtain⟨hv,hle,hs,hc⟩:=bg.sub (p:=p) (by simpa[eA]using hr) h2
  have hl:=bg.len h1
  refine⟨?_,by simp only[Ty.off,Ty.sz];omega,by simpa[Ty.sub]using hs,fun c hcc=>by simp[Sh.aE,hc c hcc]⟩
  simp only[Ty.off]
  rw[←hl,afa,ael (by omega)]
  simpa using hv
 |b::p,.int _,_,_,_,_,hr,_|b::p,.bool,_,_,_,_,hr,_|b::p,.str,_,_,_,_,hr,_|b::p,.sl _,_,_,_,_,hr,_=>by simp[eA]at hr
 |false::p,.pair _ _,_,.leaf,_,_,hr,_|false::p,.pair _ _,_,.sl _,_,_,hr,_=>by simp[eA]at hr
 |true::p,.pair _ _,_,.leaf,_,_,hr,_|true::p,.pair _ _,_,.sl _,_,_,hr,_=>by simp[eA]at hr
theorem cV {v:TV} {τ:Ty} {y:τ.den} (h:eU v τ=some y):v=⟨τ,y,v.sh⟩:=by
 obtain⟨σ,x,sh⟩:=v
 unfold eU at h
 split at h
 ·rename_i e;simp only at e;subst e;simp only[cast_eq,aaF]at h;subst h;rfl
 ·cases h
theorem bg.put:∀ {p:List Bool} {τ:Ty} {x:τ.den} {sh:Sh} {cs:List Value} {v:TV} {y:τ.den} {s:Sh} {cv:List Value},
 eL τ x sh p v=some (y,s)→bg w G τ x sh cs→bg w G v.τ v.x v.sh cv→
 bg w G τ y s (cs.take (τ.off p)++cv++cs.drop (τ.off p+v.τ.sz))∧τ.off p+v.τ.sz≤τ.sz∧(∀c∈s.aE,c∈sh.aE∨c∈v.sh.aE)
 | [],τ,x,sh,cs,v,y,s,cv,hp,h,hv=>by
   have hp':eU v τ=some y∧s=v.sh:=by
    cases τ<;>(simp only[eL]at hp;split at hp<;>simp_all)
   obtain⟨hc,rfl⟩:=hp'
   have e:=cV hc
   have hl:=bg.len h
   have h0:τ.off []=0:=by cases τ<;>rfl
   have hτ:v.τ=τ:=by rw[e]
   refine⟨?_,by rw[h0,hτ];omega,fun c hcc=> .inr hcc⟩
   rw[h0,hτ,afu,aeR,afA,ael (by omega),aeW]
   rw[e]at hv;exact hv
 |false::p,.pair a b,x,.pair s1 s2,cs,v,y,s,cv,hp,h,hv=>by
  obtain⟨c1,c2,rfl,h1,h2⟩:=h
  simp only[eL]at hp
  split at hp
  ·rename_i y1 s1' hq
   cases hp
   obtain⟨hv',hle,hcs⟩:=bg.put hq h1 hv
   have hl:=bg.len h1
   refine⟨⟨_,c2,?_,hv',h2⟩,by simp only[Ty.off,Ty.sz];omega,fun c hc=> ?_⟩
   ·simp only[Ty.off]
    rw[aeP (by omega),aeX (by omega)]
    simp
   ·simp only[Sh.aE,acf]at hc⊢
    rcases hc with hc|hc
    ·rcases hcs c hc with h|h
     ·exact .inl (.inl h)
     ·exact .inr h
    ·exact .inl (.inr hc)
  ·cases hp
 |true::p,.pair a b,x,.pair s1 s2,cs,v,y,s,cv,hp,h,hv=>by
  obtain⟨c1,c2,rfl,h1,h2⟩:=h
  simp only[eL]at hp
  split at hp
  ·rename_i y1 s1' hq
   cases hp
   obtain⟨hv',hle,hcs⟩:=bg.put hq h2 hv
   have hl:=bg.len h1
   refine⟨⟨c1,_,?_,h1,hv'⟩,by simp only[Ty.off,Ty.sz];omega,fun c hc=> ?_⟩
   ·simp only[Ty.off]
    rw[←hl,afn,adY (by omega),afa,ael (by omega)]
    simp[afw]
   ·simp only[Sh.aE,acf]at hc⊢
    rcases hc with hc|hc
    ·exact .inl (.inl hc)
    ·rcases hcs c hc with h|h
     ·exact .inl (.inr h)
     ·exact .inr h
  ·cases hp
 |b::p,.int _,_,_,_,_,_,_,_,hp,_,_|b::p,.bool,_,_,_,_,_,_,_,hp,_,_|b::p,.str,_,_,_,_,_,_,_,hp,_,_|b::p,.sl _,_,_,_,_,_,_,_,hp,_,_=>by simp[eL]at hp
 |false::p,.pair _ _,_,.leaf,_,_,_,_,_,hp,_,_|false::p,.pair _ _,_,.sl _,_,_,_,_,_,hp,_,_=>by simp[eL]at hp
 |true::p,.pair _ _,_,.leaf,_,_,_,_,_,hp,_,_|true::p,.pair _ _,_,.sl _,_,_,_,_,_,hp,_,_=>by simp[eL]at hp
theorem oe:∀(τ:Ty) (m:M),∀c∈(fD τ m).aE,c∈m.aE
 | .int _,_,c,h| .bool,_,c,h| .str,_,c,h=>by simp[fD,Sh.aE]at h
 | .sl _,_,c,h=>h
 | .pair a b,m,c,h=>by
   simp only[fD,Sh.aE,acf]at h
   rcases h with h|h
   ·exact oe a m c h
   ·exact oe b m c h
theorem bg.Fu:∀ {τ:Ty} {x:τ.den} {cs:List Value} {B:List Nat} {hs:List Nat},aQ w τ x cs B→(∀b∈B,G.col b∈hs)→hs≠ []→bg w G τ x (fD τ (.sha hs)) cs
 | .int _,_,_,_,_,h,_,_=>h.1
 | .bool,_,_,_,_,h,_,_=>h.1
 | .str,_,_,_,_,h,_,_=>h.1
 | .sl e,l,cs,B,hs,h,hb,hn=>by obtain⟨v,rfl,hr⟩:=h;exact⟨v,rfl,⟨B,hr,hb⟩,fun e=>absurd e hn⟩
 | .pair a b,p,cs,B,hs,h,hb,hn=>by
   obtain⟨c1,c2,B1,B2,rfl,rfl,h1,h2⟩:=h
   exact⟨c1,c2,rfl,bg.Fu h1 (fun b hb'=>hb b (by simp[hb'])) hn,bg.Fu h2 (fun b hb'=>hb b (by simp[hb'])) hn⟩
theorem bg.zero:∀(τ:Ty),bg w G τ τ.aa (fD τ (.sha [])) τ.zero
 | .int _=>rfl
 | .bool=>rfl
 | .str=>rfl
 | .sl _=>⟨_,rfl,⟨[],.inl ⟨⟨none,rfl⟩,rfl,rfl⟩,by simp⟩,fun _=>rfl⟩
 | .pair a b=>⟨_,_,rfl,bg.zero a,bg.zero b⟩
theorem bJ.rep {e:Ty} {l:List e.den} {v:Value} {m:M} (h:bJ w G e l v m) (hl:m≠ .dead):
 ∃B,dp w e.sz (aQ w e) l v B∧∀b∈B,G.col b∈m.aE:=by
 cases m with
 |row t hs nd=>
  obtain⟨_,_,B,hB,hc⟩:=h
  refine⟨B,hB,fun b hb=> ?_⟩
  cases B with
  |nil=>cases hb
  |cons x Bs=>
   obtain⟨h1,_,h3,_⟩:=hc x Bs rfl
   rcases aco.1 hb with rfl|hb
   ·simp[M.aE,h1]
   ·simp[M.aE,h3 b hb]
 |sha hs=>exact h.1
 |nst b E i o p fr=>obtain⟨⟨B,hB,hc⟩,_⟩:=h;exact⟨B,hB,fun x hx=>by simp[M.aE,hc x hx]⟩
 |dead=>exact absurd rfl hl
theorem bg.rep:∀ {τ:Ty} {x:τ.den} {sh:Sh} {cs:List Value},bg w G τ x sh cs→sh.live=true→∃B,aQ w τ x cs B∧∀b∈B,G.col b∈sh.aE
 | .int _,_,.leaf,_,h,_=>⟨[],⟨h,rfl⟩,by simp⟩
 | .bool,_,.leaf,_,h,_=>⟨[],⟨h,rfl⟩,by simp⟩
 | .str,_,.leaf,_,h,_=>⟨[],⟨h,rfl⟩,by simp⟩
 | .sl e,l,.sl m,cs,h,hl=>by
   obtain⟨v,rfl,hr⟩:=h
   obtain⟨B,hB,hc⟩:=hr.rep (by rintro rfl;simp[Sh.live]at hl)
   exact⟨B,⟨v,rfl,hB⟩,hc⟩
 | .pair a b,p,.pair s1 s2,cs,h,hl=>by
   obtain⟨c1,c2,rfl,h1,h2⟩:=h
   simp only[Sh.live,adm]at hl
   obtain⟨B1,r1,hc1⟩:=bg.rep h1 hl.1
   obtain⟨B2,r2,hc2⟩:=bg.rep h2 hl.2
   refine⟨B1++B2,⟨c1,c2,B1,B2,rfl,rfl,r1,r2⟩,fun b hb=> ?_⟩
   simp only[Sh.aE,acf]
   rcases acf.1 hb with hb|hb
   ·exact .inl (hc1 b hb)
   ·exact .inr (hc2 b hb)
 | .int _,_,.sl _,_,h,_| .int _,_,.pair _ _,_,h,_| .bool,_,.sl _,_,h,_| .bool,_,.pair _ _,_,h,_
 | .str,_,.sl _,_,h,_| .str,_,.pair _ _,_,h,_| .sl _,_,.leaf,_,h,_| .sl _,_,.pair _ _,_,h,_
 | .pair _ _,_,.leaf,_,h,_| .pair _ _,_,.sl _,_,h,_=>h.elim
theorem yA:∀ {τ:Ty} {cs r:List Value} {x:τ.den},decode τ cs=some (x,r)→∃c,cs=c++r∧bg w G τ x (fD τ (.sha [])) c
 | .int k,cs,r,x,h=>by
   match cs,h with
   | .int k' n::r',h=>
     simp only[decode]at h
     split at h
     ·rename_i e;simp only[aaF,aeo]at h;obtain⟨rfl,rfl⟩:=h;subst e;exact⟨[_],rfl,rfl⟩
     ·cases h
 | .bool,cs,r,x,h=>by
   match cs,h with
   | .bool b::r',h=>simp only[decode,aaF,aeo]at h;obtain⟨rfl,rfl⟩:=h;exact⟨[_],rfl,rfl⟩
 | .str,cs,r,x,h=>by
   match cs,h with
   | .string b::r',h=>simp only[decode,aaF,aeo]at h;obtain⟨rfl,rfl⟩:=h;exact⟨[_],rfl,rfl⟩
 | .sl e,cs,r,x,h=>by
   match cs,h with
   | .slice none 0 0::r',h=>simp only[decode,aaF,aeo]at h;obtain⟨rfl,rfl⟩:=h;exact⟨[_],rfl,_,rfl,⟨[],.inl ⟨⟨none,rfl⟩,rfl,rfl⟩,by simp⟩,fun _=>rfl⟩
 | .pair a b,cs,r,x,h=>by
   simp only[decode]at h
   split at h
   ·rename_i x1 r1 h1
    split at h
    ·rename_i y1 r2 h2
     simp only[aaF,aeo]at h
     obtain⟨rfl,rfl⟩:=h
     obtain⟨c1,rfl,g1⟩:=yA h1
     obtain⟨c2,rfl,g2⟩:=yA h2
     exact⟨c1++c2,by simp,c1,c2,rfl,g1,g2⟩
    ·cases h
   ·cases h
theorem aaB {τ:Ty} {v:Value} {r:TV} (h:FM τ v=some r):bU w G (.d r) v∧r.sh=fD r.τ (.sha [])∧r.τ=τ:=by
 unfold FM at h
 split at h
 ·rename_i a b cs
  split at h
  ·rename_i x hd
   cases h
   obtain⟨c,hc,hr⟩:=yA (w:=w) (G:=G) hd
   refine⟨⟨c,?_,hr⟩,rfl,rfl⟩
   simp only[aeW]at hc
   simp[cw,←hc]
  ·cases h
 ·cases h
 ·rename_i hnp
  split at h
  ·rename_i x hd
   cases h
   obtain⟨c,hc,hr⟩:=yA (w:=w) (G:=G) hd
   refine⟨⟨c,?_,hr⟩,rfl,rfl⟩
   simp only[aeW]at hc
   subst hc
   cases τ with
   |pair a b=>
    exfalso
    have:=hr.len
    simp only[List.length_singleton,Ty.sz]at this
    have h1:=a.om;have h2:=b.om;omega
   |_=>rfl
  ·cases h
end
def abr (P:Program) (t:TypeId) (τ:Ty):Prop:=
 ∀(w:World) (op:BinOp) (x y:Operand) (a b:τ.den) (c1 c2:List Value),(op= .eql∨op= .neq)→aQ w τ a c1 []→aQ w τ b c2 []→
  (do eqGuard op t x y (cw τ c1) (cw τ c2);binOp op t (cw τ c1) (cw τ c2)).run P w= .ok (.bool (if op= .eql then eqv τ a b else !eqv τ a b)) w
structure CxTy (P:Program) (C:Cx):Prop where
 tt:∀t i,C.tt t=some i→Pg P t i
 eq:∀t i,C.tt t=some i→i.τ.bW=true→i.τ.flat=true→abr P t i.τ
 fs:∀t i,C.tt t=some i→i.τ.bW=false→i.fs=[]
 u8:∀t i,C.tt t=some i→i.τ= .sl (.int .u8)→P.underlying i.el=some (.int .u8)
def bf (U:Nat→Prop) (G:Gh) (v:SV):Prop:=
 (∀c∈v.sc,0<c∧U c∧G.bx c=false)∧(∀c∈v.bt,0<c∧U c∧G.bx c=true)∧(∀c∈v.rt,0<c∧U c∧G.bx c=false)
def RI (ops:List Oper) (E:Env) (tmps:Array Value):Prop:=
 ∀s j w act v,E.s.getD s .no= .g j w act v→(act=true↔yielded ops.toArray tmps j=some w)
def Gd (ops:List Oper) (tmps:Array Value) (G:Option (Nat×Bool)):Prop:=∀j w,G=some (j,w)→yielded ops.toArray tmps j=some w
def Yields (w0:World) (c0:C0) (U:Nat→Prop) (E:Env) (a:Act) (r:Result Next) (sv:SV):Prop:=
 ∃mv w' G',r= .ok (.value mv) w'∧Inv w0 c0 U E a w' G'∧bU w' G' sv mv∧bf U G' sv∧(∀t u,sv= .box t u→∀s u',E.s.getD s .no≠ .box t u')
section
variable {P:Program} {C:Cx} {w0:World} {c0:C0} {U:Nat→Prop} {E:Env} {a:Act} {w:World} {G:Gh} {ops:List Oper} {g:Option (Nat×Bool)}
theorem Inv.ow (h:Inv w0 c0 U E a w G) (s:Nat):bf U G (E.s.getD s .no):=⟨h.sc s,h.bt s,h.rt s⟩
theorem bf.nil {v:TV} (h:v.sh.aE=[]):bf U G (.d v):=⟨by simp[SV.sc,h],by simp[SV.bt],by simp[SV.rt]⟩
theorem bf.d {v:TV} (h:∀c∈v.sh.aE,0<c∧U c∧G.bx c=false):bf U G (.d v):=⟨h,by simp[SV.bt],by simp[SV.rt]⟩
theorem adk {s:SV} {v:Value} (hI:bU w G s v) (hR:∀j w' act u,s= .g j w' act u→(act=true↔yielded ops.toArray a.tmps j=some w')) (hg:Gd ops a.tmps g) {sv:SV} (h:yF g s=some sv):
 bU w G sv v∧(∀c∈sv.sc,c∈s.sc)∧(∀c∈sv.bt,c∈s.bt)∧(∀c∈sv.rt,c∈s.rt):=by
 cases s with
 |g j w' act u=>
  simp only[yF]at h
  split at h
  ·rename_i e
   cases h
   have hact:act=true:=(hR j w' act sv rfl).2 (hg j w' e)
   subst hact
   exact⟨(hI.1 rfl).2,fun c hc=>by simpa[SV.sc]using hc,fun c hc=>by simpa[SV.bt]using hc,fun c hc=>by simpa[SV.rt]using hc⟩
  ·cases h
 |_=>simp only[yF,aaF]at h;subst h;exact⟨hI,fun c hc=>hc,fun c hc=>hc,fun c hc=>hc⟩
theorem xZ:∀ {sv:SV} {v:Value},bU w G sv v→bU w G (bA sv) v
 | .box t u,v,h=>by obtain⟨bk,c,el,h1,h2,h3,h4,h5,h6⟩:=h;exact⟨bk,h2,h3.trans h1,h1⟩
 | .g j w' act u,v,h=>⟨fun e=>⟨by
  have:=(h.1 e).1
  cases u<;>first|rfl|(simp[SV.cS]at this),xZ (h.1 e).2⟩,h.2⟩
 | .no,_,h| .d _,_,h| .ptr ..,_,h| .ept ..,_,h| .rdp ..,_,h| .tup _,_,h=>h
theorem Rp:∀sv:SV,(∀c∈(bA sv).sc,c∈sv.sc)∧(∀c∈(bA sv).bt,c∈sv.bt)∧(∀c∈(bA sv).rt,c∈sv.rt)
 | .box t u=>⟨by simp[bA,SV.sc],by simp[bA,SV.bt],by simp[bA,SV.rt]⟩
 | .g j w' true u=>by
   obtain⟨h1,h2,h3⟩:=Rp u
   exact⟨fun c hc=>by simp only[bA,SV.sc,if_true]at hc⊢;exact h1 c hc,fun c hc=>by simp only[bA,SV.bt,if_true]at hc⊢;exact h2 c hc,fun c hc=>by simp only[bA,SV.rt,if_true]at hc⊢;exact h3 c hc⟩
 | .g j w' false u=>⟨fun c hc=>by simp[bA,SV.sc]at hc,fun c hc=>by simp[bA,SV.bt]at hc,fun c hc=>by simp[bA,SV.rt]at hc⟩
 | .no| .d _| .ptr ..| .ept ..| .rdp ..| .tup _=>⟨fun _ h=>h,fun _ h=>h,fun _ h=>h⟩
theorem HY:∀sv t u,bA sv≠ .box t u
 | .box _ _,_,_,h| .g _ _ _ _,_,_,h| .no,_,_,h| .d _,_,_,h| .ptr ..,_,_,h| .ept ..,_,_,h| .rdp ..,_,_,h| .tup _,_,_,h=>by simp[bA]at h
theorem Xm (hI:Inv w0 c0 U E a w G) {t:TypeId} {x:Operand} {sv:SV} (h:ff C E.rd t x=some sv):bU w G sv (a.eval x)∧bf U G sv:=by
 cases x with
 |tmp s=>
  simp only[ff,aaF]at h
  subst h
  have hm:=hI.ow s
  obtain⟨h1,h2,h3⟩:=Rp (E.s.getD s .no)
  exact⟨xZ (hI.slots s),fun c hc=>hm.1 c (h1 c hc),fun c hc=>hm.2.1 c (h2 c hc),fun c hc=>hm.2.2 c (h3 c hc)⟩
 |const v=>
  simp only[ff]at h
  split at h
  ·rw[ach]at h
   obtain⟨r,hr,rfl⟩:=h
   obtain⟨h1,h2,h3⟩:=aaB (w:=w) (G:=G) hr
   refine⟨h1,bf.d fun c hc=> ?_⟩
   rw[h2]at hc
   have:=oe _ _ c hc
   simp[M.aE]at this
  ·cases h
 |global g=>simp[ff]at h
 |func f=>simp[ff]at h
theorem aac (hR:RI ops E a.tmps) {t:TypeId} {x:Operand} {s:SV} (h:ff C E.rd t x=some s):
 ∀j w' act u,s= .g j w' act u→(act=true↔yielded ops.toArray a.tmps j=some w'):=by
 intro j w' act u e
 cases x with
 |tmp n=>
  simp only[ff,aaF]at h
  have h':bA (E.s.getD n .no)= .g j w' act u:=h.trans e
  cases hs:E.s.getD n .no with
  |g j' w'' act' u'=>rw[hs]at h';simp only[bA,SV.g.injEq]at h';obtain⟨rfl,rfl,rfl,_⟩:=h';exact hR n j' w'' act' u' hs
  |_=>rw[hs]at h';simp[bA]at h'
 |const v=>
  simp only[ff]at h
  split at h
  ·rw[ach]at h;obtain⟨r,hr,rfl⟩:=h;cases e
  ·cases h
 |global g=>simp[ff]at h
 |func f=>simp[ff]at h
theorem eX (hI:Inv w0 c0 U E a w G) (hR:RI ops E a.tmps) (hg:Gd ops a.tmps g) {t:TypeId} {x:Operand} {sv:SV} (h:arg C E.rd g t x=some sv):
 bU w G sv (a.eval x)∧bf U G sv:=by
 simp only[arg,afr]at h
 obtain⟨s,hs,hu⟩:=h
 obtain⟨h1,h2⟩:=Xm hI hs
 obtain⟨h3,h4,h5,h6⟩:=adk h1 (aac hR hs) hg hu
 exact⟨h3,fun c hc=>h2.1 c (h4 c hc),fun c hc=>h2.2.1 c (h5 c hc),fun c hc=>h2.2.2 c (h6 c hc)⟩
theorem jl (hI:Inv w0 c0 U E a w G) (hR:RI ops E a.tmps) (hg:Gd ops a.tmps g) {t:TypeId} {x:Operand} {v:TV} (h:cF C E.rd g t x=some v):
 (∃cs,a.eval x=cw v.τ cs∧bg w G v.τ v.x v.sh cs)∧(∀c∈v.sh.aE,0<c∧U c∧G.bx c=false)∧v.sh.live=true:=by
 simp only[cF]at h
 split at h
 ·rename_i u hu
  split at h
  ·rename_i hl
   cases h
   obtain⟨h1,h2⟩:=eX hI hR hg hu
   exact⟨h1,h2.1,hl⟩
  ·cases h
 ·cases h
/-scalars-/
theorem dq (hI:Inv w0 c0 U E a w G) (hR:RI ops E a.tmps) (hg:Gd ops a.tmps g) {t:TypeId} {x:Operand} {k:IntKind} {n:Int} {sh:Sh}
 (h:cF C E.rd g t x=some ⟨.int k,n,sh⟩):a.eval x= .int k n:=by
 obtain⟨⟨cs,h1,h2⟩,_⟩:=jl hI hR hg h
 cases sh with
 |leaf=>rw[h1,show cs=_ from h2];rfl
 |sl m=>exact h2.elim
 |pair a b=>exact h2.elim
theorem E5 (hI:Inv w0 c0 U E a w G) (hR:RI ops E a.tmps) (hg:Gd ops a.tmps g) {t:TypeId} {x:Operand} {b:Bool} {sh:Sh}
 (h:cF C E.rd g t x=some ⟨.bool,b,sh⟩):a.eval x= .bool b:=by
 obtain⟨⟨cs,h1,h2⟩,_⟩:=jl hI hR hg h
 cases sh with
 |leaf=>rw[h1,show cs=_ from h2];rfl
 |sl m=>exact h2.elim
 |pair a b=>exact h2.elim
theorem ox (hI:Inv w0 c0 U E a w G) (hR:RI ops E a.tmps) (hg:Gd ops a.tmps g) {t:TypeId} {x:Operand} {s:ByteArray} {sh:Sh}
 (h:cF C E.rd g t x=some ⟨.str,s,sh⟩):a.eval x= .string s:=by
 obtain⟨⟨cs,h1,h2⟩,_⟩:=jl hI hR hg h
 cases sh with
 |leaf=>rw[h1,show cs=_ from h2];rfl
 |sl m=>exact h2.elim
 |pair a b=>exact h2.elim
theorem jk (hI:Inv w0 c0 U E a w G) (hR:RI ops E a.tmps) (hg:Gd ops a.tmps g) {t:TypeId} {x:Operand} {e:Ty} {l:List e.den} {sh:Sh}
 (h:cF C E.rd g t x=some ⟨.sl e,l,sh⟩):∃m,sh= .sl m∧bJ w G e l (a.eval x) m∧m≠ .dead∧(∀c∈m.aE,0<c∧U c∧G.bx c=false):=by
 obtain⟨⟨cs,h1,h2⟩,h3,h4⟩:=jl hI hR hg h
 cases sh with
 |leaf=>exact h2.elim
 |sl m=>
  obtain⟨v,rfl,hr⟩:=h2
  exact⟨m,rfl,by rw[h1];exact hr,by rintro rfl;simp[Sh.live]at h4,h3⟩
 |pair a b=>exact h2.elim
theorem cu (hI:Inv w0 c0 U E a w G) {r:Result Next} {sv:SV} {mv:Value} (hr:r= .ok (.value mv) w) (hs:bU w G sv mv) (hm:bf U G sv)
 (hb:∀t u,sv≠ .box t u):Yields w0 c0 U E a r sv:=⟨mv,w,G,hr,hI,hs,hm,fun t u e=>absurd e (hb t u)⟩
theorem ok_int (k:IntKind) (n:Int):bU w G (vI k n) (.int k n):=⟨_,rfl,rfl⟩
theorem acI (b:Bool):bU w G (vB b) (.bool b):=⟨_,rfl,rfl⟩
theorem adj (s:ByteArray):bU w G (vS s) (.string s):=⟨_,rfl,rfl⟩
theorem Uq (k:IntKind) (n:Int):bf U G (vI k n):=bf.nil rfl
theorem aam (b:Bool):bf U G (vB b):=bf.nil rfl
theorem abT (s:ByteArray):bf U G (vS s):=bf.nil rfl
theorem dj (hI:Inv w0 c0 U E a w G) {r:Result Next} {k:IntKind} {n:Int} (hr:r= .ok (.value (.int k n)) w):Yields w0 c0 U E a r (vI k n):=
 cu hI hr (ok_int k n) (Uq k n) (by rintro t u ⟨⟩)
theorem cL (hI:Inv w0 c0 U E a w G) {r:Result Next} {b:Bool} (hr:r= .ok (.value (.bool b)) w):Yields w0 c0 U E a r (vB b):=
 cu hI hr (acI b) (aam b) (by rintro t u ⟨⟩)
theorem oW (hI:Inv w0 c0 U E a w G) {r:Result Next} {s:ByteArray} (hr:r= .ok (.value (.string s)) w):Yields w0 c0 U E a r (vS s):=
 cu hI hr (adj s) (abT s) (by rintro t u ⟨⟩)
def kB (w0:World) (c0:C0) (U:Nat→Prop) (E:Env) (a:Act) (r:Result Next):Ef→Prop
 | .val v=>Yields w0 c0 U E a r v
 | .chk c v=>c=true→Yields w0 c0 U E a r v
 |_=>False
/-move,assign-/
theorem XB:∀ {sv:SV} {j w' act u},bA sv= .g j w' act u→∃u',sv= .g j w' act u'∧u=bA u'
 | .g _ _ _ v,j,w',act,u,h=>by simp only[bA,SV.g.injEq]at h;obtain⟨rfl,rfl,rfl,rfl⟩:=h;exact⟨v,rfl,rfl⟩
 | .box _ _,_,_,_,_,h| .no,_,_,_,_,h| .d _,_,_,_,_,h| .ptr ..,_,_,_,_,h| .ept ..,_,_,_,_,h| .rdp ..,_,_,_,_,h| .tup _,_,_,_,_,h=>by simp[bA]at h
theorem ZF {t:TypeId} {x:Operand} {sv:SV} (h:arg C E.rd g t x=some sv):∀b u,sv≠ .box b u:=by
 intro b u e
 subst e
 simp only[arg,afr]at h
 obtain⟨s,hs,hu⟩:=h
 cases x with
 |tmp n=>
  simp only[ff,aaF]at hs
  cases hsv:s with
  |g j w' act v=>
   obtain⟨u',_,rfl⟩:=XB (hs.trans hsv)
   rw[hsv]at hu
   simp only[yF]at hu
   split at hu
   ·simp only[aaF]at hu;exact HY _ b u hu
   ·cases hu
  |_=>
   rw[hsv]at hu
   simp only[yF,aaF,reduceCtorEq]at hu
   try (rw[←hs]at hsv;exact HY _ b u (hsv.trans hu))
 |const v=>
  simp only[ff]at hs
  split at hs
  ·rw[ach]at hs;obtain⟨r,hr,rfl⟩:=hs;simp[yF]at hu
  ·cases hs
 |global g=>simp[ff]at hs
 |func f=>simp[ff]at hs
theorem Xq (hI:Inv w0 c0 U E a w G) (hR:RI ops E a.tmps) (hg:Gd ops a.tmps g) {t:TypeId} {x:Operand} {sv:SV} (h:arg C E.rd g t x=some sv)
 {r:Result Next} (hr:r= .ok (.value (a.eval x)) w):Yields w0 c0 U E a r sv:=
 cu hI hr (eX hI hR hg h).1 (eX hI hR hg h).2 (ZF h)
theorem ac0 (hI:Inv w0 c0 U E a w G) {op:BinOp} {k k':IntKind} {m n:Int} {t:TypeId} {x y:Operand} {ef:Ef} (hk:k=k'∨op= .shl∨op= .shr)
 (hx:a.eval x= .int k m) (hy:a.eval y= .int k' n) (h:aaV op k m n=some ef):
 kB w0 c0 U E a ((do pure (.value (←(do eqGuard op t x y (a.eval x) (a.eval y);binOp op t (a.eval x) (a.eval y)))):Sem Next).run P w) ef:=by
 rw[hx,hy]
 have hgd:∀v,eqGuard op t x y (.int k m) v=pure ():=fun v=>eqGuard_at_int ..
 cases op<;>simp only[aaV,aaF,reduceCtorEq]at h<;>(try cases h)<;>simp only[kB]
 case add=>
  obtain rfl:k=k':=(by simpa using hk)
  exact dj hI (by simp[hgd,binOp,Op.intArith])
 case sub=>
  obtain rfl:k=k':=(by simpa using hk)
  exact dj hI (by simp[hgd,binOp,Op.intArith])
 case mul=>
  obtain rfl:k=k':=(by simpa using hk)
  exact dj hI (by simp[hgd,binOp,Op.intArith])
 case quo=>
  obtain rfl:k=k':=(by simpa using hk)
  intro hc;have hc:=of_decide_eq_true hc;exact dj hI (by simp[hgd,binOp,Op.intDiv,hc])
 case rem=>
  obtain rfl:k=k':=(by simpa using hk)
  intro hc;have hc:=of_decide_eq_true hc;exact dj hI (by simp[hgd,binOp,Op.intDiv,hc])
 case and=>
  obtain rfl:k=k':=(by simpa using hk)
  exact dj hI (by simp[hgd,binOp,Op.intBits,bits])
 case or=>
  obtain rfl:k=k':=(by simpa using hk)
  exact dj hI (by simp[hgd,binOp,Op.intBits,bits])
 case xor=>
  obtain rfl:k=k':=(by simpa using hk)
  exact dj hI (by simp[hgd,binOp,Op.intBits,bits])
 case shl=>intro hc;have hc:=of_decide_eq_true hc;exact dj hI (by simp[hgd,binOp,Op.shift,Int.not_lt.2 hc])
 case shr=>intro hc;have hc:=of_decide_eq_true hc;exact dj hI (by simp[hgd,binOp,Op.shift,Int.not_lt.2 hc])
 case eql=>
  obtain rfl:k=k':=(by simpa using hk)
  exact cL hI (by simp[hgd,binOp,Op.intCmp])
 case neq=>
  obtain rfl:k=k':=(by simpa using hk)
  exact cL hI (by simp[hgd,binOp,Op.intCmp])
 case lss=>
  obtain rfl:k=k':=(by simpa using hk)
  exact cL hI (by simp[hgd,binOp,Op.intCmp])
 case leq=>
  obtain rfl:k=k':=(by simpa using hk)
  exact cL hI (by simp[hgd,binOp,Op.intCmp])
 case gtr=>
  obtain rfl:k=k':=(by simpa using hk)
  exact cL hI (by simp[hgd,binOp,Op.intCmp])
 case geq=>
  obtain rfl:k=k':=(by simpa using hk)
  exact cL hI (by simp[hgd,binOp,Op.intCmp])
theorem acR (hI:Inv w0 c0 U E a w G) {op:BinOp} {m n:ByteArray} {t:TypeId} {x y:Operand} {ef:Ef}
 (hx:a.eval x= .string m) (hy:a.eval y= .string n) (h:abD op m n=some ef):
 kB w0 c0 U E a ((do pure (.value (←(do eqGuard op t x y (a.eval x) (a.eval y);binOp op t (a.eval x) (a.eval y)))):Sem Next).run P w) ef:=by
 rw[hx,hy]
 have hgd:∀v,eqGuard op t x y (.string m) v=pure ():=fun v=>eqGuard_at_string ..
 cases op<;>simp only[abD,aaF,reduceCtorEq]at h<;>(try cases h)<;>simp only[kB]
 case add=>
  intro hc
  have hc:=of_decide_eq_true hc
  have hn:¬(9223372036854775807<(m.size:Int)+(n.size:Int)):=by omega
  exact oW hI (by simp[hgd,binOp,Op.stringOp,hn])
 case eql=>exact cL hI (by simp[hgd,binOp,Op.stringOp])
 case neq=>exact cL hI (by simp[hgd,binOp,Op.stringOp])
 case lss=>exact cL hI (by simp[hgd,binOp,Op.stringOp])
 case leq=>exact cL hI (by simp[hgd,binOp,Op.stringOp])
 case gtr=>exact cL hI (by simp[hgd,binOp,Op.stringOp])
 case geq=>exact cL hI (by simp[hgd,binOp,Op.stringOp])
theorem Hw:∀(l:List SV) (t k s:Nat) (v:TV),cW l t k=some (s,v)→k≤s∧l.getD (s-k) .no= .box t v
 | [],_,_,_,_,h=>by simp[cW]at h
 |x::l,t,k,s,v,h=>by
  have step:cW l t (k+1)=some (s,v)→k≤s∧(x::l).getD (s-k) .no= .box t v:=by
   intro h
   obtain⟨h1,h2⟩:=Hw l t (k+1) s v h
   refine⟨by omega,?_⟩
   rw[show s-k=(s-(k+1))+1 by omega]
   simpa using h2
  cases x with
  |box u y=>
   simp only[cW]at h
   split at h
   ·rename_i e;simp only[aaF,aeo]at h;obtain⟨rfl,rfl⟩:=h;subst e;exact⟨aem _,by simp⟩
   ·exact step h
  |_=>exact step h
theorem CM:∀ {τ:Ty} {x:τ.den} {sh:Sh} {cs:List Value} {t:Nat} {e:Ty} {l:List e.den} {hs:List Nat} {nd:Bool},
 bg w G τ x sh cs→ga t e τ x sh=some (l,hs,nd)→∃v,bJ w G e l v (.row t hs nd)∧(∀c∈hs,c∈sh.aE)∧t∈sh.aE
 | .sl e',l',.sl (.row u hs' nd'),cs,t,e,l,hs,nd,hv,h=>by
   obtain⟨v,rfl,hr⟩:=hv
   simp only[ga]at h
   split at h
   ·rename_i e1
    split at h
    ·rename_i e2
     subst e1 e2
     simp only[cast_eq,aaF,aeo]at h
     obtain⟨rfl,rfl,rfl⟩:=h
     exact⟨v,hr,fun c hc=>by simp[Sh.aE,M.aE,hc],by simp[Sh.aE,M.aE]⟩
    ·cases h
   ·cases h
 | .pair a b,p,.pair s1 s2,cs,t,e,l,hs,nd,hv,h=>by
   obtain⟨c1,c2,rfl,h1,h2⟩:=hv
   simp only[ga]at h
   split at h
   ·rename_i r hr
    cases h
    obtain⟨v,g1,g2,g3⟩:=CM h1 hr
    exact⟨v,g1,fun c hc=>by simp[Sh.aE,g2 c hc],by simp[Sh.aE,g3]⟩
   ·obtain⟨v,g1,g2,g3⟩:=CM h2 h
    exact⟨v,g1,fun c hc=>by simp[Sh.aE,g2 c hc],by simp[Sh.aE,g3]⟩
 | .sl _,_,.leaf,_,_,_,_,_,_,_,h| .sl _,_,.pair _ _,_,_,_,_,_,_,_,h| .sl _,_,.sl (.sha _),_,_,_,_,_,_,_,h| .sl _,_,.sl .dead,_,_,_,_,_,_,_,h
 | .int _,_,_,_,_,_,_,_,_,_,h| .bool,_,_,_,_,_,_,_,_,_,h| .str,_,_,_,_,_,_,_,_,_,h
 | .pair _ _,_,.leaf,_,_,_,_,_,_,_,h| .pair _ _,_,.sl _,_,_,_,_,_,_,_,h=>by simp[ga]at h
theorem KJ:∀(L:List SV) {t:Nat} {e:Ty} {l:List e.den} {hs:List Nat} {nd:Bool},(∀s∈L,∃mv,bU w G s mv)→dx t e L=some (l,hs,nd)→
 ∃s∈L,(∃v,bJ w G e l v (.row t hs nd))∧(∀c∈hs,c∈s.sc)∧t∈s.sc
 | [],_,_,_,_,_,_,h=>by simp[dx]at h
 |x::L,t,e,l,hs,nd,hL,h=>by
  have step:dx t e L=some (l,hs,nd)→∃s∈x::L,(∃v,bJ w G e l v (.row t hs nd))∧(∀c∈hs,c∈s.sc)∧t∈s.sc:=by
   intro h
   obtain⟨s,h1,h2⟩:=KJ L (fun s hs=>hL s (adL _ hs)) h
   exact⟨s,adL _ h1,h2⟩
  obtain⟨mv,hx⟩:=hL x (by simp)
  cases x with
  |d v=>
   simp only[dx]at h
   split at h
   ·rename_i r hr
    cases h
    obtain⟨cs,_,hv⟩:=hx
    obtain⟨u,g1,g2,g3⟩:=CM hv hr
    exact⟨.d v,by simp,⟨u,g1⟩,g2,g3⟩
   ·exact step h
  |box b v=>
   simp only[dx]at h
   split at h
   ·rename_i r hr
    cases h
    obtain⟨bk,c,el,_,_,_,_,_,hv⟩:=hx
    obtain⟨u,g1,g2,g3⟩:=CM hv hr
    exact⟨.box b v,by simp,⟨u,g1⟩,g2,g3⟩
   ·exact step h
  |_=>exact step h
theorem Inv.dx (hI:Inv w0 c0 U E a w G) {t:Nat} {e:Ty} {l:List e.den} {hs:List Nat} {nd:Bool} (h:E.rd.row t e=some (l,hs,nd)):
 (∃v,bJ w G e l v (.row t hs nd))∧(∀c∈t::hs,0<c∧U c∧G.bx c=false):=by
 obtain⟨s,h1,h2,h3,h4⟩:=KJ (w:=w) (G:=G) E.s (fun s hs=>by
  obtain⟨i,hi,rfl⟩:=afg.1 hs
  exact⟨_,by have:=hI.slots i;simpa[afs,hi]using this⟩) h
 obtain⟨i,hi,rfl⟩:=afg.1 h1
 refine⟨h2,fun c hc=> ?_⟩
 have:=hI.sc i c
 simp only[afs,hi,ae3,afp]at this
 rcases aco.1 hc with rfl|hc
 ·exact this h4
 ·exact this (h3 c hc)
theorem Inv.box (hI:Inv w0 c0 U E a w G) {t s:Nat} {v:TV} (h:E.rd.box t=some (s,v)):
 E.s.getD s .no= .box t v∧∃bk c el,G.hdr t= .pointer (some ⟨bk,0,none⟩)∧4≤t∧G.col bk=t∧w.heap[bk]?=some (.cells c el (0,0))∧bg w G v.τ v.x v.sh c.toList∧(∀c∈v.sh.aE,0<c∧U c∧G.bx c=false):=by
 obtain⟨_,h2⟩:=Hw E.s t 0 s v h
 simp only[Nat.sub_zero]at h2
 have hs:=hI.slots s
 have hc:=hI.sc s
 rw[h2]at hs hc
 obtain⟨bk,c,el,g1,g2,g3,g4,g5,g6⟩:=hs
 exact⟨h2,bk,c,el,g3.trans g1,g2,g4,g5,g6,hc⟩
theorem bJ.elem {e:Ty} {l:List e.den} {v:Value} {t:Nat} {hs:List Nat} {nd:Bool} (h:bJ w G e l v (.row t hs nd)) {i:Nat} (hi:i<l.length):
 ∃b off cap c el fz B,v= .slice (some ⟨b,off,none⟩) l.length cap∧w.heap[b]?=some (.cells c el fz)∧off+cap*e.sz≤c.size∧l.length≤cap∧G.col b=t∧
  aQ w e (l.getD i e.aa) ((c.toList.drop (off+i*e.sz)).take e.sz) B∧(∀x∈B,G.col x∈hs):=by
 obtain⟨_,_,B,hB,hc⟩:=h
 rcases hB with⟨_,rfl,_⟩|⟨b,off,cap,c,el,fz,Bs,hv,hcap,hb,hsz,rfl,hl⟩
 ·simp at hi
 ·obtain⟨h1,_,h3,_⟩:=hc b Bs rfl
  have hx:l[i]?=some l[i]:=ae3 hi
  obtain⟨B1,Bx,B2,rfl,hr,_,_⟩:=aT.get (sz:=e.sz) (fun x c B h=>aQ.len h) hl hx
  refine⟨b,off,cap,c,el,fz,Bx,hv,hb,hsz,hcap,h1,?_,fun x hx=>h3 x (by simp[hx])⟩
  have hmul:(i+1)*e.sz≤l.length*e.sz:=ada _ hi
  rw[aci,ae9]at hmul
  rw[afs,hx,afp]
  rw[aeU,ae5,aeT,ae2 (by omega)]at hr
  exact hr
theorem dp.elem {e:Ty} {l:List e.den} {v:Value} {B:List Nat} (h:dp w e.sz (aQ w e) l v B) {i:Nat} (hi:i<l.length):
 ∃b off cap c el fz B',v= .slice (some ⟨b,off,none⟩) l.length cap∧w.heap[b]?=some (.cells c el fz)∧off+cap*e.sz≤c.size∧l.length≤cap∧b∈B∧
  aQ w e (l.getD i e.aa) ((c.toList.drop (off+i*e.sz)).take e.sz) B'∧(∀x∈B',x∈B):=by
 rcases h with⟨_,rfl,_⟩|⟨b,off,cap,c,el,fz,Bs,hv,hcap,hb,hsz,rfl,hl⟩
 ·simp at hi
 ·have hx:l[i]?=some l[i]:=ae3 hi
  obtain⟨B1,Bx,B2,rfl,hr,_,_⟩:=aT.get (sz:=e.sz) (fun x c B h=>aQ.len h) hl hx
  refine⟨b,off,cap,c,el,fz,Bx,hv,hb,hsz,hcap,by simp,?_,fun x hx=>by simp[hx]⟩
  have hmul:(i+1)*e.sz≤l.length*e.sz:=ada _ hi
  rw[aci,ae9]at hmul
  rw[afs,hx,afp]
  rw[aeU,ae5,aeT,ae2 (by omega)]at hr
  exact hr
theorem Wi {s:TypeId} {i:TI} (hT:Pg P s i) {j:Nat} (hj:j<i.fs.length) (b o:Nat):
 (Instr.fieldAt s (.pointer (some ⟨b,o,none⟩)) j).run P w= .ok (.pointer (some ⟨b,o+i.τ.off (cQ i.fs.length j),none⟩)) w∨i.τ.bW=false:=by
 obtain⟨_,hT⟩:=hT
 cases hτ:i.τ with
 |pair x y=>
  rw[hτ]at hT
  obtain⟨fields,hu,hsz,hf⟩:=hT
  left
  have hjf:j<fields.size:=by omega
  obtain⟨h1,h2,σ',h3,h4⟩:=hf j fields[j] (acv hjf)
  have hz:σ'.sz≠0:=Nat.ne_of_gt σ'.om
  simp[Instr.fieldAt,run_underlying hu,acv hjf,Instr.sureAddr,fieldPlace,du h4,hz,h1,Addr.add_lit]
 |_=>right;rfl
theorem abi {τ σ:Ty} {b:Bool} {p:List Bool} (h:τ.sub (b::p)=some σ):τ.bW=true:=by
 cases τ<;>simp[Ty.sub,Ty.bW]at h⊢
theorem acD {hs:List Nat} {v r:TV} {mv:Value} {p:List Bool} (h:bU w G (.rdp hs v) mv) (hr:eA v.τ v.x v.sh p=some r):
 ∃b o,mv= .pointer (some ⟨b,o,none⟩)∧bU w G (.rdp hs r) (.pointer (some ⟨b,o+v.τ.off p,none⟩)):=by
 obtain⟨b,o,c,el,fz,h1,h2,h3,h4,h5⟩:=h
 obtain⟨g1,g2,g3,_⟩:=bg.sub hr h5
 refine⟨b,o,h1,b,o+v.τ.off p,c,el,fz,rfl,h2,by omega,h4,?_⟩
 rw[aeU,ae5,aeT,ae2 (by omega)]at g1
 exact g1
theorem WD (hI:Inv w0 c0 U E a w G) {t:Nat} (hU:¬U t) (o:Obj) (v:Value) (x:Bool) (S:List Nat) (hS:∀c∈S,0<c∧U c):
 yL S S w (w.alloc o) G (G.add w.heap.size t v x):=by
 refine⟨fun b hb=> ?_,fun b hb=> ?_,fun u hu=> ?_⟩
 ·exact heap_alloc_old w _ b (hI.lt b (hS _ hb).1)
 ·have:=hI.lt b (hS _ hb).1
  simp[Gh.add,afo this]
 ·have:u≠t:=fun e=>hU (e▸(hS u hu).2)
  simp[Gh.add,this]
theorem Wu (hI:Inv w0 c0 U E a w G) {t:Nat} (hU:¬U t) (s:Nat) (u:TV):E.s.getD s .no≠ .box t u:=by
 intro e
 have:=hI.bt s t (by rw[e];simp[SV.bt])
 exact hU this.2.1
theorem Rj (hI:Inv w0 c0 U E a w G) {t:Nat} (ht:4≤t) (hU:¬U t) {v:TV} {cs:List Value} (hv:bg w G v.τ v.x v.sh cs)
 (hc:∀c∈v.sh.aE,0<c∧U c∧G.bx c=false) (el:TypeId) {r:Result Next}
 (hr:r= .ok (.value (.pointer (some ⟨w.heap.size,0,none⟩))) (w.alloc (.cells cs.toArray el))):Yields w0 c0 (fun u=>U u∨u=t) E a r (.box t v):=by
 refine⟨_,_,G.add w.heap.size t (.pointer (some ⟨w.heap.size,0,none⟩)) true,hr,hI.alloc ht hU _ _ _ _,⟨w.heap.size,cs.toArray,el,rfl,ht,by simp[Gh.add],by simp[Gh.add],heap_alloc_new w _,?_⟩,⟨?_,?_,?_⟩,?_⟩
 ·exact bg.agree (WD hI hU _ _ _ _ (fun c h=>⟨(hc c h).1,(hc c h).2.1⟩)) hv
 ·intro c h
  have:=hc c h
  have hne:c≠t:=fun e=>hU (e▸this.2.1)
  exact⟨this.1,.inl this.2.1,by simp[Gh.add,hne,this.2.2]⟩
 ·intro c h
  simp only[SV.bt,aep]at h
  subst h
  exact⟨by omega,.inr rfl,by simp[Gh.add]⟩
 ·intro c h;simp[SV.rt]at h
 ·intro t' u e s u'
  cases e
  exact Wu hI hU s u'
theorem F6 (hI:Inv w0 c0 U E a w G) {t:Nat} (ht:4≤t) (hU:¬U t) {e:Ty} {l:List e.den} {cs:List Value} {B:List Nat} {hs:List Nat} {nd:Bool} {n cap:Nat} (el:TypeId)
 (hn:n=l.length) (hl:aT (aQ w e) l cs B) (hcap:n≤cap) (rest:List Value) (hsz:cap*e.sz≤cs.length+rest.length)
 (hB:∀b∈B,0<G.col b) (hs1:∀b∈B,G.col b∈hs) (hs2:∀c∈hs,(0<c∧U c∧G.bx c=false)∨c=t) (hnd:nd=true→B.Nodup)
 {r:Result Next} (hr:r= .ok (.value (.slice (some ⟨w.heap.size,0,none⟩) n cap)) (w.alloc (.cells (cs++rest).toArray el))):
 Yields w0 c0 (fun u=>U u∨u=t) E a r (.d ⟨.sl e,l,.sl (.row t hs nd)⟩):=by
 subst hn
 have hlen:=aT.len (sz:=e.sz) (fun x c B h=>aQ.len h) hl
 refine⟨_,_,G.add w.heap.size t (.slice (some ⟨w.heap.size,0,none⟩) l.length cap) false,hr,hI.alloc ht hU _ _ _ _,⟨[_],rfl,_,rfl,ht,by simp[Gh.add],w.heap.size::B,?_,?_⟩,bf.d fun c hc=> ?_,by rintro _ _ ⟨⟩⟩
 ·refine .inr ⟨w.heap.size,0,cap,_,el,(0,0),B,rfl,hcap,heap_alloc_new w _,by simp;omega,rfl,?_⟩
  simp only[afv]
  rw[aeP (by omega),adY (by omega)]
  exact aT.mono (fun b=>b<w.heap.size) (fun x c B hlt hx=>aQ.mono (fun b hb=>heap_alloc_old w _ b (hlt b hb)) hx) (fun b hb=>hI.lt b (hB b hb)) hl
 ·rintro b Bs ⟨⟩
  have hne:∀x∈B,x≠w.heap.size:=fun x hx=>afo (hI.lt x (hB x hx))
  refine⟨by simp[Gh.add],fun h=>hne _ h rfl,fun x hx=> ?_,hnd⟩
  simp only[Gh.add,if_neg (hne x hx)]
  exact hs1 x hx
 ·simp only[Sh.aE,M.aE,aco]at hc
  rcases hc with rfl|hc
  ·exact⟨by omega,.inr rfl,by simp[Gh.add]⟩
  ·rcases hs2 c hc with h|rfl
   ·have hne:c≠t:=fun e=>hU (e▸h.2.1)
    exact⟨h.1,.inl h.2.1,by simp[Gh.add,hne,h.2.2]⟩
   ·exact⟨by omega,.inr rfl,by simp[Gh.add]⟩
end
theorem foldl_set (vs:List Value):∀(off:Nat) (cs:Array Value) (k:Nat),off+k+vs.length≤cs.size→
 ((vs.zipIdx k).foldl (fun cs p=>cs.setIfInBounds (off+p.2) p.1) cs).toList=cs.toList.take (off+k)++vs++cs.toList.drop (off+k+vs.length):=by
 induction vs with
 |nil=>intro off cs k h;simp
 |cons v r ih=>
  intro off cs k h
  simp only[afb]at h
  rw[List.zipIdx_cons,List.foldl_cons,ih off _ (k+1) (by simp;omega)]
  have ho:off+k<cs.toList.length:=by simp;omega
  simp only[afl]
  have hd:(cs.toList.set (off+k) v).drop (off+(k+1)+r.length)=cs.toList.drop (off+k+(r.length+1)):=by
   rw[afx (by omega)];congr 1;omega
  have ht:(cs.toList.set (off+k) v).take (off+(k+1))=cs.toList.take (off+k)++[v]:=by
   rw[←afw,afc (by simpa using ho),afy (aem _)]
   simp
  rw[hd,ht]
  simp
theorem Dn (v:Array Value) (off:Nat) (cs:Array Value) (h:off+v.size≤cs.size):
 (v.zipIdx.foldl (fun cs (p:Value×Nat)=>cs.setIfInBounds (off+p.2) p.1) cs).toList=cs.toList.take off++v.toList++cs.toList.drop (off+v.size):=by
 rw[←Array.foldl_toList,Array.toList_zipIdx]
 simpa using foldl_set v.toList off cs 0 (by simpa using h)
section
variable {P:Program} {C:Cx} {w0:World} {c0:C0} {U:Nat→Prop} {E:Env} {a:Act} {w:World} {G:Gh} {ops:List Oper} {g:Option (Nat×Bool)}
theorem Ql:∀ {p:List Bool} {τ:Ty} {x:τ.den} {sh:Sh} {v:TV} {y:τ.den} {s:Sh},eL τ x sh p v=some (y,s)→τ.sub p=some v.τ
 | [],τ,x,sh,v,y,s,h=>by
   have:eU v τ=some y:=by cases τ<;>(simp only[eL]at h;split at h<;>simp_all)
   rw[cV this];cases τ<;>rfl
 |false::p,.pair a b,x,.pair s1 s2,v,y,s,h=>by
  simp only[eL]at h
  split at h
  ·rename_i hq;simp only[Ty.sub];exact Ql hq
  ·cases h
 |true::p,.pair a b,x,.pair s1 s2,v,y,s,h=>by
  simp only[eL]at h
  split at h
  ·rename_i hq;simp only[Ty.sub];exact Ql hq
  ·cases h
 |b::p,.int _,_,_,_,_,_,h|b::p,.bool,_,_,_,_,_,h|b::p,.str,_,_,_,_,_,h|b::p,.sl _,_,_,_,_,_,h=>by simp[eL]at h
 |false::p,.pair _ _,_,.leaf,_,_,_,h|false::p,.pair _ _,_,.sl _,_,_,_,h=>by simp[eL]at h
 |true::p,.pair _ _,_,.leaf,_,_,_,h|true::p,.pair _ _,_,.sl _,_,_,_,h=>by simp[eL]at h
theorem Ue {i:TI} {fields:Array Field} (hI:Inv w0 c0 U E a w G) (hR:RI ops E a.tmps) (hg:Gd ops a.tmps g)
 (hf:∀(j:Nat) (f:Field),fields[j]?=some f→Gk P i.τ i.fs j f) (hsz:fields.size=i.fs.length) (place:Nat→Option (Nat×Nat))
 (hpl:∀(j:Nat) (f:Field) (σ:Ty),fields[j]?=some f→i.τ.sub (cQ i.fs.length j)=some σ→place j=some (f.offset,σ.sz)):
 ∀(ps:List (Nat×Operand)) (x:i.τ.den) (sh:Sh) (cells:Array Value) (y:i.τ.den) (s:Sh),bg w G i.τ x sh cells.toList→(∀c∈sh.aE,0<c∧U c∧G.bx c=false)→
  ry C E.rd g i ps x sh=some (y,s)→
  ∃cells',Instr.fill place cells (ps.map fun p=>(p.1,a.eval p.2))=some cells'∧bg w G i.τ y s cells'.toList∧(∀c∈s.aE,0<c∧U c∧G.bx c=false)
 | [],x,sh,cells,y,s,hx,hc,h=>by
   simp only[ry,aaF,aeo]at h
   obtain⟨rfl,rfl⟩:=h
   exact⟨cells,rfl,hx,hc⟩
 |(j,o)::ps,x,sh,cells,y,s,hx,hc,h=>by
  simp only[ry]at h
  split at h
  ·cases h
  ·rename_i ft hft
   split at h
   ·cases h
   ·rename_i v hv
    split at h
    ·rename_i y1 s1 hp
     obtain⟨⟨cv,he,hvv⟩,hcv,_⟩:=jl hI hR hg hv
     obtain⟨h1,h2,h3⟩:=bg.put hp hx hvv
     have hj:j<fields.size:=by
      have:=(afm.1 hft).1;omega
     obtain⟨f1,f2,σ,f3,f4⟩:=hf j fields[j] (acv hj)
     have hsub:i.τ.sub (cQ i.fs.length j)=some v.τ:=Ql hp
     have hpj:=hpl j fields[j] v.τ (acv hj) hsub
     rw[f1]at hpj
     simp only[List.map_cons,he]
     have key:∀cells',bg w G i.τ y1 s1 cells'.toList→∃c2,Instr.fill place cells' (ps.map fun p=>(p.1,a.eval p.2))=some c2∧bg w G i.τ y s c2.toList∧(∀c∈s.aE,0<c∧U c∧G.bx c=false):=by
      intro cells' hc'
      refine Ue hI hR hg hf hsz place hpl ps y1 s1 cells' y s hc' (fun c hcc=> ?_) h
      rcases h3 c hcc with h|h
      ·exact hc c h
      ·exact hcv c h
     obtain⟨h1',h2',_⟩:=bg.put hp hx hvv
     have hl:=bg.len hx
     have hcs:=pF (bg.len hvv) (bg.one hvv)
     have hct:=jX (bg.len hvv) (bg.one hvv)
     have harr:=Dn (cw v.τ cv).cells (i.τ.off (cQ i.fs.length j)) cells (by rw[hcs];simp at hl;omega)
     rw[hct,hcs]at harr
     obtain⟨c2,k1,k2,k3⟩:=key _ (by rw[harr];exact h1')
     refine⟨c2,?_,k2,k3⟩
     simp only[Instr.fill,hpj]
     rw[if_neg (by simp[hcs];simp at hl;omega)]
     exact k1
    ·cases h
theorem M.il {m:M} {ts:List Nat} (h:m.own=some ts):∀c∈ts,c∈m.aE:=by
 cases m with
 |row t hs nd=>
  simp only[M.own]at h
  split at h
  ·simp only[aaF]at h;subst h
   intro c hc
   simp only[aco,aft]at hc
   rcases hc with rfl|hc
   ·simp[M.aE]
   ·simp[M.aE,hc.1]
  ·cases h
 |sha hs=>
  cases hs with
  |nil=>simp only[M.own,aaF]at h;subst h;simp
  |cons x l=>simp[M.own]at h
 |nst b E i o p fr=>simp[M.own]at h
 |dead=>simp[M.own]at h
theorem M.jT {t:Nat} {hs:List Nat} {nd:Bool} {ts:List Nat} (h:(M.row t hs nd).own=some ts):nd=true∧(∀c∈hs,4≤c)∧(∀c,c∈ts↔c=t∨c∈hs):=by
 simp only[M.own]at h
 split at h
 ·rename_i hc
  simp only[adm,ae1,decide_eq_true_eq]at hc
  simp only[aaF]at h;subst h
  refine⟨hc.1,hc.2,fun c=> ?_⟩
  simp only[aco,aft,decide_not,aeZ,decide_eq_false_iff_not]
  by_cases e:c=t<;>simp[e]
 ·cases h
theorem bJ.own {e:Ty} {l:List e.den} {v:Value} {m:M} {ts:List Nat} (h:bJ w G e l v m) (ho:m.own=some ts):
 ∃B,dp w e.sz (aQ w e) l v B∧B.Nodup∧∀b∈B,G.col b∈ts:=by
 cases m with
 |row t hs nd=>
  obtain⟨h1,h2,h3⟩:=M.jT ho
  obtain⟨_,_,B,hB,hc⟩:=h
  cases B with
  |nil=>exact⟨[],hB,by simp,by simp⟩
  |cons b Bs=>
   obtain⟨g1,g2,g3,g4⟩:=hc b Bs rfl
   refine⟨b::Bs,hB,List.nodup_cons.2 ⟨g2,g4 h1⟩,fun x hx=> ?_⟩
   rcases aco.1 hx with rfl|hx
   ·exact(h3 _).2 (.inl g1)
   ·exact(h3 _).2 (.inr (g3 x hx))
 |sha hs=>
  cases hs with
  |nil=>
   obtain⟨⟨B,hB,hc⟩,_⟩:=h
   have:B=[]:=by cases B with|nil=>rfl|cons x l=>exact absurd (hc x (by simp)) (by simp)
   subst this
   exact⟨[],hB,by simp,by simp⟩
  |cons x l=>simp[M.own]at ho
 |nst b E i o p fr=>simp[M.own]at ho
 |dead=>simp[M.own]at ho
theorem M.Rs {m:M} {ts:List Nat} (h:m.Cz=some ts):(∃t hs nd,m= .row t hs nd∧(∀c∈hs,4≤c)∧∀c,c∈ts↔c=t∨c∈hs)∨(m= .sha []∧ts=[]):=by
 cases m with
 |row t hs nd=>
  simp only[M.Cz]at h
  split at h
  ·rename_i hc
   simp only[ae1,decide_eq_true_eq]at hc
   simp only[aaF]at h;subst h
   refine .inl ⟨t,hs,nd,rfl,hc,fun c=> ?_⟩
   simp only[aco,aft,decide_not,aeZ,decide_eq_false_iff_not]
   by_cases e:c=t<;>simp[e]
  ·cases h
 |sha hs=>
  cases hs with
  |nil=>simp only[M.Cz,aaF]at h;subst h;exact .inr ⟨rfl,rfl⟩
  |cons x l=>simp[M.Cz]at h
 |nst b E i o p fr=>simp[M.Cz]at h
 |dead=>simp[M.Cz]at h
theorem bJ.nil {e:Ty} {l:List e.den} {v:Value} (h:bJ w G e l v (.sha [])):v= .slice none 0 0∧∃B,dp w e.sz (aQ w e) l v B∧B=[]:=by
 obtain⟨⟨B,hB,hc⟩,hn⟩:=h
 exact⟨hn rfl,B,hB,by cases B with|nil=>rfl|cons x l=>exact absurd (hc x (by simp)) (by simp)⟩
theorem Sh.il:∀ {sh:Sh} {ts:List Nat},sh.own=some ts→∀c∈ts,c∈sh.aE
 | .leaf,ts,h,c,hc=>by simp only[Sh.own,aaF]at h;subst h;simp at hc
 | .sl m,ts,h,c,hc=>M.il h c hc
 | .pair a b,ts,h,c,hc=>by
   simp only[Sh.own]at h
   split at h
   ·rename_i x y hx hy
    split at h
    ·simp only[aaF]at h;subst h
     rcases acf.1 hc with hc|hc
     ·simp[Sh.aE,Sh.il hx c hc]
     ·simp[Sh.aE,Sh.il hy c hc]
    ·cases h
   ·cases h
theorem bg.own:∀ {τ:Ty} {x:τ.den} {sh:Sh} {cs:List Value} {ts:List Nat},bg w G τ x sh cs→sh.own=some ts→∃B,aQ w τ x cs B∧B.Nodup∧∀b∈B,G.col b∈ts
 | .int _,_,.leaf,_,_,h,_=>⟨[],⟨h,rfl⟩,by simp,by simp⟩
 | .bool,_,.leaf,_,_,h,_=>⟨[],⟨h,rfl⟩,by simp,by simp⟩
 | .str,_,.leaf,_,_,h,_=>⟨[],⟨h,rfl⟩,by simp,by simp⟩
 | .sl e,l,.sl m,cs,ts,h,ho=>by
   obtain⟨v,rfl,hr⟩:=h
   obtain⟨B,hB,hn,hc⟩:=hr.own ho
   exact⟨B,⟨v,rfl,hB⟩,hn,hc⟩
 | .pair a b,p,.pair s1 s2,cs,ts,h,ho=>by
   obtain⟨c1,c2,rfl,h1,h2⟩:=h
   simp only[Sh.own]at ho
   split at ho
   ·rename_i x y hx hy
    split at ho
    ·rename_i hd
     simp only[aaF]at ho;subst ho
     obtain⟨B1,r1,n1,k1⟩:=bg.own h1 hx
     obtain⟨B2,r2,n2,k2⟩:=bg.own h2 hy
     refine⟨B1++B2,⟨c1,c2,B1,B2,rfl,rfl,r1,r2⟩,ae7.2 ⟨n1,n2,?_⟩,fun b hb=> ?_⟩
     ·intro b hb b' hb' e
      subst e
      simp only[ae1,aeZ,aeO,decide_eq_false_iff_not]at hd
      exact hd _ (k1 b hb) (k2 b hb')
     ·rcases acf.1 hb with hb|hb
      ·exact ade _ (k1 b hb)
      ·exact adP _ (k2 b hb)
    ·cases ho
   ·cases ho
 | .int _,_,.sl _,_,_,h,_| .int _,_,.pair _ _,_,_,h,_| .bool,_,.sl _,_,_,h,_| .bool,_,.pair _ _,_,_,h,_
 | .str,_,.sl _,_,_,h,_| .str,_,.pair _ _,_,_,h,_| .sl _,_,.leaf,_,_,h,_| .sl _,_,.pair _ _,_,_,h,_
 | .pair _ _,_,.leaf,_,_,h,_| .pair _ _,_,.sl _,_,_,h,_=>h.elim
def zB (w:World) (G:Gh) (e:Ty):List e.den→List Sh→List (List Value)→Prop
 | [],[],[]=>True
 |x::l,s::ss,c::cs=>bg w G e x s c∧zB w G e l ss cs
 |_,_,_=>False
theorem zB.rep:∀ {e:Ty} {l:List e.den} {ss:List Sh} {cs:List (List Value)},zB w G e l ss cs→(∀s∈ss,s.live=true)→
 ∃B,aT (aQ w e) l cs.flatten B∧∀b∈B,G.col b∈ss.flatMap Sh.aE
 |e,[],[],[],_,_=>⟨[],⟨rfl,rfl⟩,by simp⟩
 |e,x::l,s::ss,c::cs,h,hl=>by
  obtain⟨B1,r1,k1⟩:=h.1.rep (hl s (by simp))
  obtain⟨B2,r2,k2⟩:=zB.rep h.2 (fun s hs=>hl s (by simp[hs]))
  refine⟨B1++B2,⟨c,_,B1,B2,by simp,rfl,r1,r2⟩,fun b hb=> ?_⟩
  rw[afE]
  rcases acf.1 hb with hb|hb
  ·exact ade _ (k1 b hb)
  ·exact adP _ (k2 b hb)
 |e,[],_::_,_,h,_|e,[],[],_::_,h,_|e,_::_,[],_,h,_|e,_::_,_::_,[],h,_=>h.elim
theorem zB.own:∀ {e:Ty} {l:List e.den} {ss:List Sh} {cs:List (List Value)} {ts:List Nat},zB w G e l ss cs→wL ss=some ts→
 ∃B,aT (aQ w e) l cs.flatten B∧B.Nodup∧∀b∈B,G.col b∈ts
 |e,[],[],[],ts,_,_=>⟨[],⟨rfl,rfl⟩,by simp,by simp⟩
 |e,x::l,s::ss,c::cs,ts,h,ho=>by
  simp only[wL]at ho
  split at ho
  ·rename_i t1 t2 h1 h2
   split at ho
   ·rename_i hd
    simp only[aaF]at ho;subst ho
    obtain⟨B1,r1,n1,k1⟩:=h.1.own h1
    obtain⟨B2,r2,n2,k2⟩:=zB.own h.2 h2
    refine⟨B1++B2,⟨c,_,B1,B2,by simp,rfl,r1,r2⟩,ae7.2 ⟨n1,n2,?_⟩,fun b hb=> ?_⟩
    ·intro b hb b' hb' e
     subst e
     simp only[ae1,aeZ,aeO,decide_eq_false_iff_not]at hd
     exact hd _ (k1 b hb) (k2 b hb')
    ·rcases acf.1 hb with hb|hb
     ·exact ade _ (k1 b hb)
     ·exact adP _ (k2 b hb)
   ·cases ho
  ·cases ho
 |e,[],_::_,_,_,h,_|e,[],[],_::_,_,h,_|e,_::_,[],_,_,h,_|e,_::_,_::_,[],_,h,_=>h.elim
theorem Ls:∀ {ss:List Sh} {ts:List Nat},wL ss=some ts→∀c∈ts,c∈ss.flatMap Sh.aE
 | [],ts,h,c,hc=>by simp only[wL,aaF]at h;subst h;simp at hc
 |s::ss,ts,h,c,hc=>by
  simp only[wL]at h
  split at h
  ·rename_i t1 t2 h1 h2
   split at h
   ·simp only[aaF]at h;subst h
    rw[afE]
    rcases acf.1 hc with hc|hc
    ·exact ade _ (Sh.il h1 c hc)
    ·exact adP _ (Ls h2 c hc)
   ·cases h
  ·cases h
theorem XJ (hI:Inv w0 c0 U E a w G) (hR:RI ops E a.tmps) (hg:Gd ops a.tmps g) {el:TypeId} {e:Ty}:
 ∀(ps:List (Nat×Operand)) (n:Nat) (xs:List e.den) (ss:List Sh) (cells:Array Value),uH C E.rd g el e n ps=some (xs,ss)→(n+ps.length)*e.sz≤cells.size→
  ∃cvs cells',Instr.fill (fun i=>some (i*e.sz,e.sz)) cells (ps.map fun p=>(p.1,a.eval p.2))=some cells'∧
   cells'.toList=cells.toList.take (n*e.sz)++cvs.flatten++cells.toList.drop ((n+ps.length)*e.sz)∧zB w G e xs ss cvs∧xs.length=ps.length∧(∀s∈ss,s.live=true∧∀c∈s.aE,0<c∧U c∧G.bx c=false)
 | [],n,xs,ss,cells,h,hs=>by
   simp only[uH,aaF,aeo]at h
   obtain⟨rfl,rfl⟩:=h
   exact⟨[],cells,rfl,by simp,trivial,rfl,by simp⟩
 |(j,o)::ps,n,xs,ss,cells,h,hs=>by
  simp only[uH]at h
  split at h
  ·rename_i ej
   subst ej
   split at h
   ·cases h
   ·rename_i v hv
    split at h
    ·rename_i x xs' ss' hx hl
     simp only[aaF,aeo]at h
     obtain⟨rfl,rfl⟩:=h
     obtain⟨⟨cv,he,hvv⟩,hcv,hlive⟩:=jl hI hR hg hv
     have ev:=cV hx
     have hτ:v.τ=e:=by rw[ev]
     have hvx:bg w G e x v.sh cv:=by rw[ev]at hvv;exact hvv
     have hlen:=bg.len hvx
     have hcs:=pF (τ:=v.τ) (by rw[hτ];exact hlen) (bg.one hvx)
     have hct:=jX (τ:=v.τ) (by rw[hτ];exact hlen) (bg.one hvx)
     rw[hτ]at hcs hct
     simp only[afb]at hs
     have hmul:(j+1)*e.sz≤(j+(ps.length+1))*e.sz:=ada _ (by omega)
     rw[aci,ae9]at hmul
     have harr:=Dn (cw e cv).cells (j*e.sz) cells (by rw[hcs];omega)
     rw[hct,hcs]at harr
     have hsz:(Array.foldl (fun cs (q:Value×Nat)=>cs.setIfInBounds (j*e.sz+q.2) q.1) cells (cw e cv).cells.zipIdx).size=cells.size:=by
      have:=congrArg afG harr
      simp only[aeV,aeq,List.length_take,List.length_drop,hlen]at this;omega
     obtain⟨cvs,cells',k1,k2,k3,k4,k5⟩:=XJ hI hR hg ps (j+1) xs' ss' _ hl (by rw[hsz];rw[show j+1+ps.length=j+(ps.length+1) by omega];exact hs)
     refine⟨cv::cvs,cells',?_,?_,⟨hvx,k3⟩,by simp[k4],?_⟩
     ·simp only[List.map_cons,he,hτ,Instr.fill]
      rw[if_neg (by simp[hcs];omega)]
      exact k1
     ·rw[k2,harr]
      have h1:(cells.toList.take (j*e.sz)++cv++cells.toList.drop (j*e.sz+e.sz)).take ((j+1)*e.sz)=cells.toList.take (j*e.sz)++cv:=by
       rw[aeP (by simp[hlen,aci];omega),adY (by simp[hlen,aci];omega)]
      have h2:(cells.toList.take (j*e.sz)++cv++cells.toList.drop (j*e.sz+e.sz)).drop ((j+1+ps.length)*e.sz)=cells.toList.drop ((j+(ps.length+1))*e.sz):=by
       have e1:(j+1+ps.length)*e.sz=(cells.toList.take (j*e.sz)++cv).length+ps.length*e.sz:=by
        simp[hlen,aci];omega
       rw[e1,afa,ael (by omega),aeR,Nat.add_sub_cancel_left,aeT]
       congr 1
       simp[aci];omega
      rw[h1,h2]
      simp
     ·intro s hs'
      rcases aco.1 hs' with rfl|hs'
      ·exact⟨hlive,hcv⟩
      ·exact k5 s hs'
    ·cases h
  ·cases h
theorem bf.mono {U U':Nat→Prop} {v:SV} (h:bf U G v) (hU:∀u,U u→U' u):bf U' G v:=
 ⟨fun c hc=>⟨(h.1 c hc).1,hU _ (h.1 c hc).2.1,(h.1 c hc).2.2⟩,fun c hc=>⟨(h.2.1 c hc).1,hU _ (h.2.1 c hc).2.1,(h.2.1 c hc).2.2⟩,
  fun c hc=>⟨(h.2.2 c hc).1,hU _ (h.2.2 c hc).2.1,(h.2.2 c hc).2.2⟩⟩
theorem Yields.mono {U U':Nat→Prop} {r:Result Next} {sv:SV} (h:Yields w0 c0 U E a r sv) (hU:∀u,U u→U' u):Yields w0 c0 U' E a r sv:=by
 obtain⟨mv,w',G',h1,h2,h3,h4,h5⟩:=h
 exact⟨mv,w',G',h1,h2.mono hU,h3,h4.mono hU,h5⟩
theorem kB.mono {U U':Nat→Prop} {r:Result Next} {ef:Ef} (h:kB w0 c0 U E a r ef) (hU:∀u,U u→U' u):kB w0 c0 U' E a r ef:=by
 cases ef with
 |val v=>exact Yields.mono h hU
 |chk c v=>exact fun hc=>Yields.mono (h hc) hU
 |_=>exact h
theorem dK {s:Sem Value} {x:Value} {w':World} (h:s.run P w= .ok x w'):((do pure (.value (←s))):Sem Next).run P w= .ok (.value x) w':=by
 simp[h]
theorem toNat_lt {i:Int} {n:Nat} (h0:0≤i) (h:i<(n:Int)):i.toNat<n:=by omega
theorem acA (hC:CxTy P C) (hI:Inv w0 c0 U E a w G) (hR:RI ops E a.tmps) (hg:Gd ops a.tmps g) {tk:Nat} {o:Oper} {t:TypeId} {x:Operand} {ef:Ef} (ho:o.op= .load t x)
 (h:bl C ops E.rd tk g o=some ef):kB w0 c0 U E a ((execOp a.eval o).run P w) ef:=by
 simp only[bl,ho]at h
 split at h
 ·cases h
 rename_i ti hti
 have hT:=(hC.tt t ti hti).1
 have hrun:∀ {b o':Nat} {c:Array Value} {el:TypeId} {fz:Nat×Nat},a.eval x= .pointer (some ⟨b,o',none⟩)→w.heap[b]?=some (.cells c el fz)→o'+ti.τ.sz≤c.size→
  (execOp a.eval o).run P w= .ok (.value (cw ti.τ ((c.toList.drop o').take ti.τ.sz))) w:=by
  intro b o' c el fz he hb hs
  simp only[execOp,ho]
  refine dK ?_
  simp only[Instr.loadAt,he,Instr.sureAddr]
  simpa using oq hT hb hs
 split at h
 ·
  rename_i b off p τ harg
  obtain⟨h1,h2⟩:=eX hI hR hg harg
  obtain⟨bk,_,k2,k3⟩:=h1
  split at h
  ·rename_i sl v hbox
   obtain⟨_,bk',c,el,g1,_,_,g4,g5,g6⟩:=hI.box hbox
   rw[g1]at k2
   simp only[Value.pointer.injEq,aaF,Addr.mk.injEq,and_true]at k2
   subst k2
   split at h
   ·rename_i r hr
    split at h
    ·rename_i hc
     simp only[adm,decide_eq_true_eq]at hc
     cases h
     obtain⟨q1,q2,q3,q4⟩:=bg.sub hr g5
     have hlen:=bg.len g5
     rw[hc.1]at q1 q2
     have hb:=hrun k3 g4 (by rw[←hc.2];simp at hlen;omega)
     rw[←hc.2]at hb
     exact cu hI hb ⟨_,rfl,q1⟩ (bf.d fun c hc=>g6 c (q4 c hc)) (by rintro _ _ ⟨⟩)
    ·cases h
   ·cases h
  ·cases h
 ·
  rename_i b e i off p τ harg
  obtain⟨h1,_⟩:=eX hI hR hg harg
  obtain⟨bk,of,n,cap,_,k2,k3,k4,k5⟩:=h1
  split at h
  ·rename_i l hs nd hrow
   obtain⟨⟨v,hv⟩,hm⟩:=hI.dx hrow
   split at h
   ·rename_i hc
    simp only[adm,decide_eq_true_eq]at hc
    rw[ach]at h
    obtain⟨r,hr,rfl⟩:=h
    have hh:=hv.2.1
    rw[k2]at hh
    have hlen:n=l.length:=by
     obtain⟨_,_,B,hB,_⟩:=hv
     rcases hB with⟨⟨ao,e0⟩,hl0,_⟩|⟨_,_,_,_,_,_,_,hx,_⟩
     ·rw[e0]at hh;cases hh;rw[hl0];rfl
     ·rw[←hh]at hx;cases hx;rfl
    have hi:i.toNat<l.length:=by omega
    obtain⟨b',off',cap',c,el,fz,B,e1,e2,e3,e4,e5,e6,e7⟩:=hv.elem hi
    rw[←hh]at e1
    cases e1
    have hvk:bg w G e (l.getD i.toNat e.aa) (fD e (.sha (2::hs))) _:=bg.Fu e6 (fun b hb=>adL _ (e7 b hb)) (by simp)
    obtain⟨q1,q2,q3,q4⟩:=bg.sub hr hvk
    have hrτ:r.τ=ti.τ:=by have:=q3.symm.trans hc.2;simpa using this
    have hmul:(i.toNat+1)*e.sz≤cap*e.sz:=ada _ (by omega)
    rw[aci,ae9]at hmul
    have hb:=hrun k5 e2 (by rw[←hrτ];rw[hc.1]at q2;omega)
    refine cu hI hb ⟨(c.toList.drop (of+i.toNat*e.sz+off)).take ti.τ.sz,by rw[hrτ],?_⟩ (bf.d fun c hcc=> ?_) (by rintro _ _ ⟨⟩)
    ·rw[hc.1]at q1 q2
     rw[aeU,ae5,aeT,ae2 (by omega)]at q1
     rw[←hrτ];exact q1
    ·have:=oe _ _ c (q4 c hcc)
     simp only[M.aE,aco]at this
     rcases this with rfl|this
     ·exact⟨by omega,hI.two.1⟩
     ·exact hm c (adL _ this)
   ·cases h
  ·cases h
 ·
  rename_i hs v harg
  obtain⟨h1,h2⟩:=eX hI hR hg harg
  obtain⟨b,o',c,el,fz,k1,k2,k3,k4,k5⟩:=h1
  split at h
  ·rename_i hτ
   cases h
   have hb:=hrun k1 k2 (by rw[←hτ];exact k3)
   rw[←hτ]at hb
   exact cu hI hb ⟨_,rfl,k5⟩ (bf.d fun c hc=>h2.1 c (by simp[SV.sc,hc])) (by rintro _ _ ⟨⟩)
  ·cases h
 ·cases h
theorem VY (hC:CxTy P C) (hI:Inv w0 c0 U E a w G) (hR:RI ops E a.tmps) (hg:Gd ops a.tmps g) {tk:Nat} {o:Oper} {s:TypeId} {x:Operand} {j:Nat} {ef:Ef} (ho:o.op= .fieldAddr s x j)
 (h:bl C ops E.rd tk g o=some ef):kB w0 c0 U E a ((execOp a.eval o).run P w) ef:=by
 simp only[bl,ho]at h
 split at h
 ·cases h
 rename_i i hi
 have hT:=hC.tt s i hi
 split at h
 rotate_left
 ·cases h
 rename_i hj
 have hpair:∀σ,i.τ.sub (cQ i.fs.length j)=some σ→i.τ.bW=true∨(cQ i.fs.length j)=[]:=by
  intro σ hσ
  cases hf:cQ i.fs.length j with
  |nil=>exact .inr rfl
  |cons b p=>rw[hf]at hσ;exact .inl (abi hσ)
 have hstruct:i.τ.bW=true:=by
  cases hτ:i.τ with
  |pair a b=>rfl
  |_=>
   exfalso
   have:=hT.2
   rw[hτ]at this
   have hfs:=hC.fs s i hi (by rw[hτ];rfl)
   rw[hfs]at hj;simp at hj
 have hrun:∀ {b o':Nat},a.eval x= .pointer (some ⟨b,o',none⟩)→(execOp a.eval o).run P w= .ok (.value (.pointer (some ⟨b,o'+i.τ.off (cQ i.fs.length j),none⟩))) w:=by
  intro b o' he
  simp only[execOp,ho]
  refine dK ?_
  rw[he]
  rcases Wi (w:=w) hT hj b o' with h|h
  ·exact h
  ·rw[hstruct]at h;cases h
 split at h
 ·rename_i σ t o' p τ hσ harg
  split at h
  ·cases h
   obtain⟨⟨bk,k1,k2,k3⟩,h2⟩:=eX hI hR hg harg
   exact cu hI (hrun k3) ⟨bk,k1,k2,rfl⟩ ⟨by simp[SV.sc],by simpa[SV.bt]using h2.2.1,by simp[SV.rt]⟩ (by rintro _ _ ⟨⟩)
  ·cases h
 ·rename_i σ t e n o' p τ hσ harg
  split at h
  ·cases h
   obtain⟨⟨b,off,m,cap,k1,k2,k3,k4,k5⟩,h2⟩:=eX hI hR hg harg
   exact cu hI (hrun k5) ⟨b,off,m,cap,k1,k2,k3,k4,by rw[afw]⟩ ⟨by simp[SV.sc],by simp[SV.bt],by simpa[SV.rt]using h2.2.2⟩ (by rintro _ _ ⟨⟩)
  ·cases h
 ·rename_i σ hs v hσ harg
  split at h
  ·rename_i hτ
   rw[ach]at h
   obtain⟨r,hr,rfl⟩:=h
   obtain⟨h1,h2⟩:=eX hI hR hg harg
   obtain⟨b,o',he,hs'⟩:=acD h1 hr
   rw[hτ]at hs'
   refine cu hI (hrun he) hs' ⟨?_,by simp[SV.bt],by simp[SV.rt]⟩ (by rintro _ _ ⟨⟩)
   intro c hc
   obtain⟨_,_,_,_,_,_,_,_,_,k5⟩:=h1
   have:=(bg.sub hr k5).2.2.2
   simp only[SV.sc,acf]at hc
   rcases hc with hc|hc
   ·exact h2.1 c (by simp[SV.sc,hc])
   ·exact h2.1 c (by simp[SV.sc,this c hc])
  ·cases h
 ·cases h
theorem Ui (hC:CxTy P C) (hI:Inv w0 c0 U E a w G) (hR:RI ops E a.tmps) (hg:Gd ops a.tmps g) {tk:Nat} {o:Oper} {t:TypeId} {x n:Operand} {ef:Ef} (ho:o.op= .indexAddr t x n)
 (h:bl C ops E.rd tk g o=some ef):kB w0 c0 U E a ((execOp a.eval o).run P w) ef:=by
 simp only[bl,ho]at h
 split at h
 ·rename_i ti e l u hs nd k i sh hti hx hn
  split at h
  ·rename_i hτ
   cases h
   intro hc
   obtain⟨hi0,hil⟩:=of_decide_eq_true hc
   have hT:=(hC.tt t ti hti).2
   rw[hτ]at hT
   obtain⟨m,hm,hrow,_,hmc⟩:=jk hI hR hg hx
   simp only[Sh.sl.injEq]at hm;subst hm
   have hin:=dq hI hR hg hn
   have hi:i.toNat<l.length:=toNat_lt hi0 hil
   obtain⟨b,off,cap,c,el,fz,B,e1,e2,e3,e4,e5,e6,e7⟩:=hrow.elem hi
   have hrun:(execOp a.eval o).run P w= .ok (.value (.pointer (some ⟨b,off+i.toNat*e.sz,none⟩))) w:=by
    simp only[execOp,ho]
    refine dK ?_
    rw[e1,hin]
    simp[Instr.indexAt,asIntOf,run_underlying hT.1,du hT.2,hi0,hil,Addr.add_lit]
   refine cu hI hrun ⟨b,off,l.length,cap,hrow.1,hrow.2.1.trans e1,hi0,hil,rfl⟩ ⟨by simp[SV.sc],by simp[SV.bt],?_⟩ (by rintro _ _ ⟨⟩)
   intro c hc
   simp only[SV.rt,aep]at hc
   subst hc
   exact hmc _ (by simp[M.aE])
  ·cases h
 ·rename_i ti e l hs k i sh hti hx hn
  split at h
  ·rename_i hτ
   cases h
   intro hc
   obtain⟨hi0,hil⟩:=of_decide_eq_true hc
   have hT:=(hC.tt t ti hti).2
   rw[hτ]at hT
   obtain⟨m,hm,hrow,_,hmc⟩:=jk hI hR hg hx
   simp only[Sh.sl.injEq]at hm;subst hm
   have hin:=dq hI hR hg hn
   have hi:i.toNat<l.length:=toNat_lt hi0 hil
   obtain⟨⟨BB,hBB,hBc⟩,_⟩:=hrow
   obtain⟨b,off,cap,c,el,fz,B,e1,e2,e3,e4,e5,e6,e7⟩:=hBB.elem hi
   have hrun:(execOp a.eval o).run P w= .ok (.value (.pointer (some ⟨b,off+i.toNat*e.sz,none⟩))) w:=by
    simp only[execOp,ho]
    refine dK ?_
    rw[e1,hin]
    simp[Instr.indexAt,asIntOf,run_underlying hT.1,du hT.2,hi0,hil,Addr.add_lit]
   have hmul:(i.toNat+1)*e.sz≤cap*e.sz:=ada _ (by omega)
   rw[aci,ae9]at hmul
   refine cu hI hrun ⟨b,off+i.toNat*e.sz,c,el,fz,rfl,e2,by simp only;omega,hBc b e5,bg.Fu e6 (fun x hx=>adL _ (hBc x (e7 x hx))) (by simp)⟩ ⟨?_,by simp[SV.bt],by simp[SV.rt]⟩ (by rintro _ _ ⟨⟩)
   intro c hc
   simp only[SV.sc,acf]at hc
   rcases hc with hc|hc
   ·exact hmc c hc
   ·have:=oe _ _ c hc
    simp only[M.aE,aco]at this
    rcases this with rfl|this
    ·exact⟨by omega,hI.two.1⟩
    ·exact hmc c this
  ·cases h
 ·cases h
theorem Xl (w:World) (G:Gh) (τ:Ty):bg w G τ τ.aa (fD τ (.sha [])) τ.zero:=bg.zero τ
theorem XH {τ:Ty} (Q:Nat→Prop):∀c∈(fD τ (.sha [])).aE,Q c:=fun c hc=>by
 have:=oe _ _ c hc
 simp[M.aE]at this
theorem abJ (hC:CxTy P C) (hI:Inv w0 c0 U E a w G) {tk:Nat} (h3:4≤tk) (hU:¬U tk) {o:Oper} {t:TypeId} {ef:Ef} (ho:o.op= .alloc t)
 (h:bl C ops E.rd tk g o=some ef):kB w0 c0 (fun u=>U u∨u=tk) E a ((execOp a.eval o).run P w) ef:=by
 simp only[bl,ho,ach]at h
 obtain⟨i,hi,rfl⟩:=h
 have hT:=(hC.tt t i hi).1
 refine Rj hI h3 hU (Xl w G i.τ) (XH _) t ?_
 simp only[execOp,ho]
 refine dK ?_
 have hc:=jX (τ:=i.τ) i.τ.iw (wJ i.τ)
 have hc':(cw i.τ i.τ.zero).cells=i.τ.zero.toArray:=adM (by simpa using hc)
 simp[Instr.alloc,TN hT,newVar,newRow,hc']
theorem adr (hI:Inv w0 c0 U E a w G) (hR:RI ops E a.tmps) (hg:Gd ops a.tmps g) {tk:Nat} (h3:4≤tk) (hU:¬U tk) {o:Oper} {t:TypeId} {x:Operand} {ef:Ef} (ho:o.op= .box t x)
 (h:bl C ops E.rd tk g o=some ef):kB w0 c0 (fun u=>U u∨u=tk) E a ((execOp a.eval o).run P w) ef:=by
 simp only[bl,ho]at h
 split at h
 ·rename_i i v hi hv
  split at h
  ·cases h
   obtain⟨⟨cs,he,hvv⟩,hc,_⟩:=jl hI hR hg hv
   refine Rj hI h3 hU hvv hc t ?_
   simp only[execOp,ho]
   refine dK ?_
   have hct:=jX (bg.len hvv) (bg.one hvv)
   have hc':(cw v.τ cs).cells=cs.toArray:=adM (by simpa using hct)
   simp[Instr.box,he,newVar,newRow,hc']
  ·cases h
 ·cases h
theorem Pg.struct {t:TypeId} {i:TI} (h:Pg P t i) (hp:i.τ.bW=true):∃fields,P.underlying t=some (.struct fields)∧fields.size=i.fs.length∧
 ∀(j:Nat) (f:Field),fields[j]?=some f→Gk P i.τ i.fs j f:=by
 obtain⟨τ,fs,el⟩:=i
 cases τ with
 |pair x y=>exact h.2
 |_=>cases hp
theorem Jz {τ:Ty} (hp:τ.bW=true) (cs:List Value):cw τ cs= .agg cs.toArray:=by
 cases τ<;>first|rfl|cases hp
theorem adU (hC:CxTy P C) (hI:Inv w0 c0 U E a w G) (hR:RI ops E a.tmps) (hg:Gd ops a.tmps g) {tk:Nat} {o:Oper} {t:TypeId} {ps:Array (Nat×Operand)} {ef:Ef} (ho:o.op= .build t ps)
 (h:bl C ops E.rd tk g o=some ef):kB w0 c0 U E a ((execOp a.eval o).run P w) ef:=by
 simp only[bl,ho]at h
 split at h
 ·rename_i i hi
  split at h
  ·cases h
  ·rename_i hne
   rw[ach]at h
   obtain⟨r,hr,rfl⟩:=h
   have hTy:=hC.tt t i hi
   have hF:=hTy.1
   have hstruct:i.τ.bW=true:=by
    cases hp:i.τ.bW with
    |true=>rfl
    |false=>rw[hC.fs t i hi hp]at hne;simp at hne
   obtain⟨fields,hu,hsz,hf⟩:=hTy.struct hstruct
   have hz:bg w G i.τ i.τ.aa (fD i.τ (.sha [])) i.τ.zero.toArray.toList:=by simpa using Xl w G i.τ
   obtain⟨inf,d,hinf,hisz,hizero,_⟩:=hF
   have hplaces:∃places,fields.toList.mapM (fun f=>(P.info? f.type).map fun i=>(f.offset,i.size))=some places∧
    ∀(j:Nat) (f:Field) (σ:Ty),fields[j]?=some f→i.τ.sub (cQ i.fs.length j)=some σ→places.toArray[j]?=some (f.offset,σ.sz):=by
    have hall:∀f∈fields.toList,∃inf,P.info? f.type=some inf:=by
     intro f hf'
     obtain⟨j,hj,rfl⟩:=afg.1 hf'
     obtain⟨_,_,σ,_,inf,d,h1,_⟩:=hf j fields[j] (acv (by simpa using hj))
     exact⟨inf,by simpa using h1⟩
    refine⟨fields.toList.map fun f=>(f.offset,((P.info? f.type).map (·.size)).getD 0),?_,?_⟩
    ·generalize fields.toList=L at hall
     induction L with
     |nil=>rfl
     |cons f L ih=>
      obtain⟨inf,hinf⟩:=hall f (by simp)
      simp[List.mapM_cons,hinf,ih (fun f hf=>hall f (by simp[hf]))]
    ·intro j f σ hj hσ
     obtain⟨_,_,σ',g1,inf,d,g2,g3,_⟩:=hf j f hj
     rw[g1]at hσ;cases hσ
     simp[hj,g2,g3]
   obtain⟨places,hp1,hp2⟩:=hplaces
   obtain⟨cells',k1,k2,k3⟩:=Ue (fields:=fields) hI hR hg hf hsz (fun x=>places.toArray[x]?) hp2 ps.toList _ _ i.τ.zero.toArray r.1 r.2 hz (XH _) hr
   have hct:=jX (τ:=i.τ) i.τ.iw (wJ i.τ)
   have hc':(cw i.τ i.τ.zero).cells=i.τ.zero.toArray:=adM (by simpa using hct)
   have hb:P.built t (ps.map fun p=>(p.1,a.eval p.2)).toList=some cells':=by
    unfold Program.built
    simp only[hinf,hu,hizero,hp1,hc',afq]
    exact k1
   refine cu hI (mv:= .agg cells') ?_ ⟨cells'.toList,?_,k2⟩ (bf.d k3) (by rintro _ _ ⟨⟩)
   ·simp only[execOp,ho]
    exact dK (run_build w t _ cells' hb)
   ·show Value.agg cells'=cw i.τ cells'.toList
    rw[Jz hstruct]
 ·cases h
theorem abA {e:Ty} (n:Nat) (z:Array Value) (hz:z.toList=e.zero):(madeCells z (n*e.sz)).toList=(aeQ n e.zero).flatten:=by
 have hs:z.size=e.sz:=by rw[←aeV,hz,e.iw]
 have hpos:=e.om
 apply List.ext_getElem?
 intro j
 induction n generalizing j with
 |zero=>simp[madeCells]
 |succ n ih=>
  rw[afh,afD]
  by_cases hj:j<e.sz
  ·have h1:j<(n+1)*e.sz:=by rw[aci];omega
   rw[List.getElem?_append_left (by rw[e.iw];exact hj),←hz]
   simp only[madeCells,afq,afB,ae8,afi h1,afJ,hs,Nat.mod_eq_of_lt hj]
   simp[show j<z.size by omega]
  ·have ih':=ih (j-e.sz)
   rw[List.getElem?_append_right (by rw[e.iw];omega),e.iw,←ih']
   simp only[madeCells,afq,afB,ae8]
   by_cases h2:j<(n+1)*e.sz
   ·have h3:j-e.sz<n*e.sz:=by rw[aci]at h2;omega
    rw[afi h2,afi h3]
    simp only[afJ,hs]
    congr 2
    rw[←Nat.mod_eq_sub_mod (by omega)]
   ·have h3:¬j-e.sz<n*e.sz:=by rw[aci]at h2;omega
    rw[ae0 (by simp;omega),ae0 (by simp;omega)]
theorem T7 (hC:CxTy P C) (hI:Inv w0 c0 U E a w G) (hR:RI ops E a.tmps) (hg:Gd ops a.tmps g) {tk:Nat} (h3:4≤tk) (hU:¬U tk) {o:Oper} {t:TypeId} {n c:Operand} {ef:Ef}
 (ho:o.op= .makeSlice t n c) (h:bl C ops E.rd tk g o=some ef):kB w0 c0 (fun u=>U u∨u=tk) E a ((execOp a.eval o).run P w) ef:=by
 simp only[bl,ho]at h
 split at h
 ·rename_i e fs el x sh y sh' hi hn hcc
  cases h
  intro hd
  obtain⟨h0,hlt,rfl⟩:=of_decide_eq_true hd
  have hlt': @LT.lt Int Int.instLTInt y 4294967296:=hlt
  obtain⟨hF,hu,hE⟩:=hC.tt t _ hi
  have he1:=dq hI hR hg hn
  have he2:=dq hI hR hg hcc
  obtain⟨inf,d,hinf,hisz,hizero,hby,_⟩:=hE
  have hb:(inf.bytes:Int)*y≤281474976710656:=by
   have h1:(inf.bytes:Int)≤32768:=by omega
   have h2:(inf.bytes:Int)*y≤32768*y:=Int.mul_le_mul_of_nonneg_right h1 h0
   omega
  have hr:=run_make (P:=P) w t el inf _ hu hinf hizero .i64 .i64 y y h0 (Int.le_refl _) hb (by omega)
  have hct:=jX (τ:=e) e.iw (wJ e)
  rw[hisz]at hr
  refine F6 hI h3 hU (e:=e) (l:=aeQ y.toNat e.aa) (cs:=(aeQ y.toNat e.zero).flatten) (B:=[]) el (n:=y.toNat) (cap:=y.toNat) (by simp) ?_ (aem _) [] ?_ (by simp) (by simp) (by simp) (by simp) (r:=_) ?_
  ·exact aT.replicate (aQ.zero w e) _
  ·simp[List.length_flatten,e.iw,List.map_replicate,List.sum_replicate_nat]
  ·simp only[execOp,ho]
   refine dK ?_
   rw[he1,he2,hr]
   have hm:=abA (e:=e) y.toNat (cw e e.zero).cells hct
   congr 3
   rw[aeW]
   exact adM (by rw[hm])
 ·cases h
theorem TE (hC:CxTy P C) (hI:Inv w0 c0 U E a w G) (hR:RI ops E a.tmps) (hg:Gd ops a.tmps g) {tk:Nat} (h3:4≤tk) (hU:¬U tk) {o:Oper} {t:TypeId} {n:Nat} {ps:Array (Nat×Operand)} {ef:Ef}
 (ho:o.op= .buildSlice t n ps) (h:bl C ops E.rd tk g o=some ef):kB w0 c0 (fun u=>U u∨u=tk) E a ((execOp a.eval o).run P w) ef:=by
 simp only[bl,ho]at h
 split at h
 ·rename_i e fs el hi
  split at h
  ·rename_i hc
   simp only[adm,decide_eq_true_eq]at hc
   obtain⟨hps,hsm⟩:=hc
   rw[ach]at h
   obtain⟨⟨xs,ss⟩,hr,rfl⟩:=h
   obtain⟨hF,hu,hE⟩:=hC.tt t _ hi
   obtain⟨inf,d,hinf,hisz,hizero,hby,_⟩:=hE
   obtain⟨cvs,cells',k1,k2,k3,k4,k5⟩:=XJ hI hR hg ps.toList 0 xs ss ((Array.range (n*e.sz)).map ((cw e e.zero).cells[·%(cw e e.zero).cells.size]!)) hr (by simp[hps])
   have hct:=jX (τ:=e) e.iw (wJ e)
   have hxl:n=xs.length:=by rw[k4];simp[hps]
   have hlive:∀s∈ss,s.live=true:=fun s hs=>(k5 s hs).1
   have hcells:cells'.toList=cvs.flatten:=by
    rw[k2]
    simp only[Nat.zero_mul,afu,aeR,afA]
    rw[ael (by simp[hps]),aeW]
   have hrun:(execOp a.eval o).run P w= .ok (.value (.slice (some ⟨w.heap.size,0,none⟩) n n)) (w.alloc (.cells (cvs.flatten++[]).toArray el)):=by
    simp only[execOp,ho]
    refine dK ?_
    have hcl:cells'=(cvs.flatten++[]).toArray:=adM (by simp[hcells])
    by_cases h0:n*e.sz=0
    ·have hn0:n=0:=by rcases Nat.mul_eq_zero.1 h0 with h|h;exact h;have:=e.om;omega
     subst hn0
     have hps0:ps.toList=[]:=by cases hpl:ps.toList with|nil=>rfl|cons x l=>have:=congrArg afG hpl;simp[hps]at this
     have hps':ps= #[]:=adM (by simpa using hps0)
     rw[hps0]at k1
     simp only[List.map_nil,Instr.fill,aaF]at k1
     subst hps'
     simp[Instr.buildSlice,run_underlying hu,Go.sizeOf,typeInfo,hinf,Instr.fill,newRow]
     rw[←aeW cvs.flatten,←hcl,←k1]
     simp[Array.range_zero']
    ·rw[run_buildSlice w t el n _ cells' inf _ hu hinf hizero (by rw[hisz];omega) (by rw[hisz];exact h0) (by rw[hisz];simpa using k1),hcl]
   simp only[ac5]
   split
   ·rename_i ts hts
    obtain⟨B,r1,r2,r3⟩:=zB.own k3 hts
    have hsub:=Ls hts
    refine F6 hI h3 hU (e:=e) (l:=xs) el hxl r1 (aem _) [] ?_ (fun b hb=> ?_) r3 (fun c hc=> .inl ?_) (fun _=>r2) hrun
    ·have:=aT.len (sz:=e.sz) (fun x c B h=>aQ.len h) r1;rw[this,hxl];simp
    ·obtain⟨s,hs,hcs⟩:=adi.1 (hsub _ (r3 b hb));exact((k5 s hs).2 _ hcs).1
    ·obtain⟨s,hs,hcs⟩:=adi.1 (hsub _ hc);exact(k5 s hs).2 _ hcs
   ·obtain⟨B,r1,r3⟩:=zB.rep k3 hlive
    refine F6 hI h3 hU (e:=e) (l:=xs) el hxl r1 (aem _) [] ?_ (fun b hb=> ?_) (fun b hb=>ae4.2 (r3 b hb)) (fun c hc=> .inl ?_) (by simp) hrun
    ·have:=aT.len (sz:=e.sz) (fun x c B h=>aQ.len h) r1;rw[this,hxl];simp
    ·obtain⟨s,hs,hcs⟩:=adi.1 (r3 b hb);exact((k5 s hs).2 _ hcs).1
    ·obtain⟨s,hs,hcs⟩:=adi.1 (ae4.1 hc);exact(k5 s hs).2 _ hcs
  ·cases h
 ·cases h
theorem aT.cut {α:Type} {R:α→List Value→List Nat→Prop} {sz:Nat} (hR:∀x c B,R x c B→c.length=sz) {l:List α} {cs:List Value} {B:List Nat}
 (h:aT R l cs B) (i j:Nat) (hij:i≤j) (hj:j≤l.length):∃B',aT R ((l.take j).drop i) ((cs.drop (i*sz)).take ((j-i)*sz)) B'∧∀b∈B',b∈B:=by
 have e1:l=l.take j++l.drop j:=(afd j l).symm
 rw[e1]at h
 obtain⟨B1,B2,rfl,h1,_⟩:=aT.split hR h
 have e2:l.take j=(l.take j).take i++(l.take j).drop i:=(afd i _).symm
 rw[e2]at h1
 obtain⟨B3,B4,rfl,_,h4⟩:=aT.split hR h1
 refine⟨B4,?_,fun b hb=>by simp[hb]⟩
 have l1:(afC i (afC j l)++List.drop i (afC j l)).length=j:=by rw[←e2];simp;omega
 have l2:((l.take j).take i).length=i:=by simp;omega
 rw[l1,l2,show(cs.take (j*sz)).drop (i*sz)=(cs.drop (i*sz)).take ((j-i)*sz) by rw[aeU,Nat.sub_mul]]at h4
 exact h4
theorem dp.cut {e:Ty} {l:List e.den} {v:Value} {B:List Nat} (h:dp w e.sz (aQ w e) l v B) (i j:Nat) (hij:i≤j) (hj:j≤l.length):
 ∃base n cap,v= .slice base n cap∧n=l.length∧n≤cap∧∃B',dp w e.sz (aQ w e) ((l.take j).drop i) (.slice (if cap=i then base else base.map (·.add (i*e.sz))) (j-i) (cap-i)) B'∧∀b∈B',b∈B:=by
 rcases h with⟨⟨ao,rfl⟩,rfl,rfl⟩|⟨b,off,cap,c,el,fz,Bs,hv,hcap,hb,hsz,rfl,hl⟩
 ·simp only[List.length_nil,Nat.le_zero]at hj
  subst hj
  obtain rfl:i=0:=by omega
  exact⟨ao,0,0,rfl,rfl,aem _,[],.inl ⟨⟨_,rfl⟩,by simp,rfl⟩,by simp⟩
 ·refine⟨some ⟨b,off,none⟩,l.length,cap,hv,rfl,hcap,?_⟩
  obtain⟨B',h1,h2⟩:=aT.cut (sz:=e.sz) (fun x c B h=>aQ.len h) hl i j hij hj
  have hlen:((l.take j).drop i).length=j-i:=by simp;omega
  have hm1:(j-i)*e.sz+i*e.sz=j*e.sz:=by rw[←aci];congr 1;omega
  have hm2:j*e.sz≤l.length*e.sz:=ada _ hj
  have hm3:l.length*e.sz≤cap*e.sz:=ada _ hcap
  have hm4:(cap-i)*e.sz+i*e.sz=cap*e.sz:=by rw[←aci];congr 1;omega
  by_cases hc:cap=i
  ·refine⟨b::B',.inr ⟨b,off,cap-i,c,el,fz,B',?_,?_,hb,?_,rfl,?_⟩,?_⟩
   ·rw[if_pos hc,hlen]
   ·rw[hlen];omega
   ·omega
   ·rw[hlen]
    have hz:j-i=0:=by omega
    rw[hz]at h1⊢
    simp only[Nat.zero_mul,afu]at h1⊢
    exact h1
   ·intro x hx
    rcases aco.1 hx with rfl|hx
    ·simp
    ·exact adL _ (h2 x hx)
  ·refine⟨b::B',.inr ⟨b,off+i*e.sz,cap-i,c,el,fz,B',?_,?_,hb,?_,rfl,?_⟩,?_⟩
   ·rw[if_neg hc,hlen];simp[Addr.add_lit]
   ·rw[hlen];omega
   ·omega
   ·rw[hlen]
    have e0:(((c.toList.drop off).take (l.length*e.sz)).drop (i*e.sz)).take ((j-i)*e.sz)=(c.toList.drop (off+i*e.sz)).take ((j-i)*e.sz):=by
     rw[aeU,ae5,aeT,ae2 (by omega)]
    rw[e0]at h1
    exact h1
   ·intro x hx
    rcases aco.1 hx with rfl|hx
    ·simp
    ·exact adL _ (h2 x hx)
theorem NQ (hI:Inv w0 c0 U E a w G) {e:Ty} {l:List e.den} {v:Value} {m:M} (hr:bJ w G e l v m) (hm:m≠ .dead) (hc:∀c∈m.aE,0<c∧U c∧G.bx c=false)
 (i j:Nat) (hij:i≤j) (hj:j≤l.length) {r:Result Next}
 (hrun:∀base n cap,v= .slice base n cap→n=l.length→n≤cap→r= .ok (.value (.slice (if cap=i then base else base.map (·.add (i*e.sz))) (j-i) (cap-i))) w) {y:List e.den} (hy:y=(l.take j).drop i):
 Yields w0 c0 U E a r (.d ⟨.sl e,y,.sl (.sha m.aE)⟩):=by
 subst hy
 obtain⟨B,hB,hBc⟩:=hr.rep hm
 obtain⟨base,n,cap,h1,h2,h3,B',h4,h5⟩:=hB.cut i j hij hj
 refine cu hI (hrun base n cap h1 h2 h3) ⟨[_],rfl,_,rfl,⟨B',h4,fun b hb=>hBc b (h5 b hb)⟩,fun he=> ?_⟩ (bf.d hc) (by rintro _ _ ⟨⟩)
 cases m with
 |row t hs nd=>simp[M.aE]at he
 |sha hs=>
  have hv:=hr.2 he
  rw[hv]at h1
  cases h1
  have hj0:j=0:=by omega
  have hi0:i=0:=by omega
  subst hj0 hi0
  rfl
 |nst b E i o p fr=>simp[M.aE]at he
 |dead=>exact absurd rfl hm
theorem iS {k:IntKind} {i:Int} {y:Nat} {code:BoundsCode} (h0:0≤i) (h1:i≤y):(Instr.sliceBound (.int k i) y code).run P w= .ok i.toNat w:=run_sliceBound w k i y code h0 h1
theorem aaZ (hC:CxTy P C) (hI:Inv w0 c0 U E a w G) (hR:RI ops E a.tmps) (hg:Gd ops a.tmps g) {tk:Nat} {o:Oper} {t:TypeId} {x:Operand} {lo hi mx:Option Operand} {ef:Ef}
 (ho:o.op= .slice t x lo hi mx) (h:bl C ops E.rd tk g o=some ef):kB w0 c0 U E a ((execOp a.eval o).run P w) ef:=by
 simp only[bl,ho]at h
 split at h
 ·cases h
 rename_i ti hti
 have hT:=hC.tt t ti hti
 have sl:∀ {e:Ty},ti.τ= .sl e→P.underlying t=some (.slice ti.el)∧gA P ti.el e:=by
  intro e he;have:=hT.2;rw[he]at this;exact this
 have st:ti.τ= .str→P.underlying t=some .string:=by intro he;have:=hT.2;rw[he]at this;exact this
 split at h
 ·
  rename_i e l m hx hlo hhi
  obtain rfl:=aen.1 hlo
  obtain rfl:=aen.1 hhi
  split at h
  ·rename_i hτ
   cases h
   obtain⟨hu,hE⟩:=sl hτ
   obtain⟨m',hm,hrow,hd,hmc⟩:=jk hI hR hg hx
   simp only[Sh.sl.injEq]at hm;subst hm
   refine NQ hI hrow hd hmc 0 l.length (Nat.zero_le _) (aem _) ?_ (by simp)
   intro base n cap hv hn hcap
   simp only[execOp,ho]
   refine dK ?_
   rw[hv]
   simp[Instr.sliceAt,Instr.slice,Instr.sliceBounds,run_underlying hu,du hE,hn]
  ·cases h
 ·
  rename_i e l m av ash hx hlo hhi
  obtain⟨lo',rfl,hlo2⟩:=ach.1 hlo
  obtain rfl:=aen.1 hhi
  split at h
  ·rename_i hτ
   cases h
   intro hcc
   obtain⟨h0,h1⟩:=of_decide_eq_true hcc
   obtain⟨hu,hE⟩:=sl hτ
   obtain⟨m',hm,hrow,hd,hmc⟩:=jk hI hR hg hx
   simp only[Sh.sl.injEq]at hm;subst hm
   have ha:=dq hI hR hg hlo2
   have h1': @LE.le Int adW av (l.length:Int):=h1
   have h0': @LE.le Int adW 0 av:=h0
   refine NQ hI hrow hd hmc av.toNat l.length (by omega) (aem _) ?_ (by simp)
   intro base n cap hv hn hcap
   simp only[execOp,ho]
   refine dK ?_
   rw[hv]
   have:=iS (P:=P) (w:=w) (k:= .i64) (code:= .sliceB) h0' h1'
   simp[Instr.sliceAt,Instr.slice,Instr.sliceBounds,run_underlying hu,du hE,hn,ha,this]
  ·cases h
 ·
  rename_i e l m av ash hx hlo0 hlo
  obtain rfl:=aen.1 hlo0
  obtain⟨hi',rfl,hlo2⟩:=ach.1 hlo
  split at h
  ·rename_i hτ
   cases h
   intro hcc
   obtain⟨h0,h1⟩:=of_decide_eq_true hcc
   obtain⟨hu,hE⟩:=sl hτ
   obtain⟨m',hm,hrow,hd,hmc⟩:=jk hI hR hg hx
   simp only[Sh.sl.injEq]at hm;subst hm
   have ha:=dq hI hR hg hlo2
   have h1': @LE.le Int adW av (l.length:Int):=h1
   have h0': @LE.le Int adW 0 av:=h0
   refine NQ hI hrow hd hmc 0 av.toNat (Nat.zero_le _) (by omega) ?_ (by simp)
   intro base n cap hv hn hcap
   simp only[execOp,ho]
   refine dK ?_
   rw[hv]
   have:=iS (P:=P) (w:=w) (k:= .i64) (y:=cap) (code:= .sliceAcap) h0' (by omega)
   simp[Instr.sliceAt,Instr.slice,Instr.sliceBounds,run_underlying hu,du hE,ha,this]
  ·cases h
 ·
  rename_i e l m av ash bv bsh hx hlo hhi
  obtain⟨lo',rfl,hlo2⟩:=ach.1 hlo
  obtain⟨hi',rfl,hhi2⟩:=ach.1 hhi
  split at h
  ·rename_i hτ
   cases h
   intro hcc
   obtain⟨h0,h1,h2⟩:=of_decide_eq_true hcc
   obtain⟨hu,hE⟩:=sl hτ
   obtain⟨m',hm,hrow,hd,hmc⟩:=jk hI hR hg hx
   simp only[Sh.sl.injEq]at hm;subst hm
   have ha:=dq hI hR hg hlo2
   have hb:=dq hI hR hg hhi2
   have h0': @LE.le Int adW 0 av:=h0
   have h1': @LE.le Int adW av bv:=h1
   have h2': @LE.le Int adW bv (l.length:Int):=h2
   have hbn:(bv.toNat:Int)=bv:=afz (by omega)
   refine NQ hI hrow hd hmc av.toNat bv.toNat (by omega) (by omega) ?_ rfl
   intro base n cap hv hn hcap
   simp only[execOp,ho]
   refine dK ?_
   rw[hv]
   have e1:=iS (P:=P) (w:=w) (k:= .i64) (y:=cap) (code:= .sliceAcap) (i:=bv) (by omega) (by omega)
   have e2:=iS (P:=P) (w:=w) (k:= .i64) (y:=bv.toNat) (code:= .sliceB) (i:=av) h0' (by omega)
   simp[Instr.sliceAt,Instr.slice,Instr.sliceBounds,run_underlying hu,du hE,ha,hb,e1,e2]
  ·cases h
 ·
  rename_i s ssh av ash hx hlo hhi
  obtain⟨lo',rfl,hlo2⟩:=ach.1 hlo
  obtain rfl:=aen.1 hhi
  split at h
  ·rename_i hτ
   cases h
   intro hcc
   obtain⟨h0,h1⟩:=of_decide_eq_true hcc
   have hs:=ox hI hR hg hx
   have ha:=dq hI hR hg hlo2
   have e2:=iS (P:=P) (w:=w) (k:= .i64) (y:=s.size) (code:= .sliceB) (i:=av) h0 h1
   refine oW hI ?_
   simp only[execOp,ho]
   refine dK ?_
   simp[Instr.sliceAt,Instr.slice,Instr.sliceBounds,run_underlying (st hτ),hs,ha,e2]
  ·cases h
 ·
  rename_i s ssh av ash hx hlo0 hlo
  obtain rfl:=aen.1 hlo0
  obtain⟨hi',rfl,hlo2⟩:=ach.1 hlo
  split at h
  ·rename_i hτ
   cases h
   intro hcc
   obtain⟨h0,h1⟩:=of_decide_eq_true hcc
   have hs:=ox hI hR hg hx
   have ha:=dq hI hR hg hlo2
   have e2:=iS (P:=P) (w:=w) (k:= .i64) (y:=s.size) (code:= .sliceAlen) (i:=av) h0 h1
   refine oW hI ?_
   simp only[execOp,ho]
   refine dK ?_
   simp[Instr.sliceAt,Instr.slice,Instr.sliceBounds,run_underlying (st hτ),hs,ha,e2]
  ·cases h
 ·
  rename_i s ssh av ash bv bsh hx hlo hhi
  obtain⟨lo',rfl,hlo2⟩:=ach.1 hlo
  obtain⟨hi',rfl,hhi2⟩:=ach.1 hhi
  split at h
  ·rename_i hτ
   cases h
   intro hcc
   obtain⟨h0,h1,h2⟩:=of_decide_eq_true hcc
   have hs:=ox hI hR hg hx
   have ha:=dq hI hR hg hlo2
   have hb:=dq hI hR hg hhi2
   have h0': @LE.le Int adW 0 av:=h0
   have h1': @LE.le Int adW av bv:=h1
   have h2': @LE.le Int adW bv (s.size:Int):=h2
   have hbn:(bv.toNat:Int)=bv:=afz (by omega)
   have e1:=iS (P:=P) (w:=w) (k:= .i64) (y:=s.size) (code:= .sliceAlen) (i:=bv) (by omega) (by omega)
   have e2:=iS (P:=P) (w:=w) (k:= .i64) (y:=bv.toNat) (code:= .sliceB) (i:=av) h0' (by omega)
   refine oW hI ?_
   simp only[execOp,ho]
   refine dK ?_
   simp[Instr.sliceAt,Instr.slice,Instr.sliceBounds,run_underlying (st hτ),hs,ha,hb,e1,e2]
  ·cases h
 ·cases h
theorem KC (d:Nat) (t:TypeId) (p q:Bool) (h:P.underlying t=some .bool):(Op.equalIn (d+1) t (.bool p) (.bool q)).run P w= .ok (p==q) w:=by
 simp[Op.equalIn,run_underlying h]
theorem C9:∀ {τ:Ty} {x:τ.den} {cs:List Value} {B:List Nat},τ.flat=true→aQ w τ x cs B→B=[]
 | .int _,_,_,_,_,h=>h.2
 | .bool,_,_,_,_,h=>h.2
 | .str,_,_,_,_,h=>h.2
 | .sl _,_,_,_,hf,_=>by simp[Ty.flat]at hf
 | .pair a b,p,cs,B,hf,h=>by
   obtain⟨c1,c2,B1,B2,rfl,rfl,h1,h2⟩:=h
   simp only[Ty.flat,adm]at hf
   rw[C9 hf.1 h1,C9 hf.2 h2];rfl
theorem adQ (hC:CxTy P C) (hI:Inv w0 c0 U E a w G) (hR:RI ops E a.tmps) (hg:Gd ops a.tmps g) {tk:Nat} {o:Oper} {op:BinOp} {t u:TypeId} {x y:Operand} {ef:Ef}
 (ho:o.op= .binOp op t x y u) (h:bl C ops E.rd tk g o=some ef):kB w0 c0 U E a ((execOp a.eval o).run P w) ef:=by
 simp only[bl,ho]at h
 split at h
 ·rename_i ti p q hti hx hy
  split at h
  ·rename_i hτ
   simp only[execOp,ho]
   unfold acm at h
   split at h
   ·rename_i k m sh k' n sh'
    split at h
    ·rename_i hk
     simp only[Bool.or_eq_true,decide_eq_true_eq]at hk
     exact ac0 hI (by rcases hk with(hk|hk)|hk<;>simp[hk]) (dq hI hR hg hx) (dq hI hR hg hy) h
    ·cases h
   ·exact acR hI (ox hI hR hg hx) (ox hI hR hg hy) h
   ·rename_i m sh n sh'
    have hT:=(hC.tt t ti hti).2
    have ht:P.underlying t=some .bool:=by rw[←hτ]at hT;exact hT
    have e1:=E5 hI hR hg hx
    have e2:=E5 hI hR hg hy
    rw[e1,e2]
    have hgd:∀v,eqGuard op t x y (.bool m) v=pure ():=fun v=>eqGuard_at_bool ..
    split at h
    ·cases h;exact cL hI (by simp[hgd,binOp,Op.equal,Op.maxDepth,KC (w:=w) 9999 t m n ht])
    ·cases h;exact cL hI (by simp[hgd,binOp,Op.equal,Op.maxDepth,KC (w:=w) 9999 t m n ht])
    ·cases h
   ·rename_i b1 b2 m sh τ n sh'
    split at h
    ·rename_i n' hn
     split at h
     ·rename_i hflat
      have hcast:=cV hn
      simp only[TV.mk.injEq]at hcast
      obtain⟨rfl,hcast⟩:=hcast
      simp only[heq_eq_eq,and_true]at hcast
      subst hcast
      obtain⟨⟨c1,e1,v1⟩,_,l1⟩:=jl hI hR hg hx
      obtain⟨⟨c2,e2,v2⟩,_,l2⟩:=jl hI hR hg hy
      obtain⟨B1,r1,_⟩:=v1.rep l1
      obtain⟨B2,r2,_⟩:=v2.rep l2
      obtain rfl:=C9 hflat r1
      obtain rfl:=C9 hflat r2
      have heq:=hC.eq t ti hti
      rw[←hτ]at heq
      have hE:=heq rfl hflat w
      rw[e1,e2]
      split at h
      ·cases h
       have:=hE .eql x y m n c1 c2 (.inl rfl) r1 r2
       exact cL hI (dK (by simpa using this))
      ·cases h
       have:=hE .neq x y m n c1 c2 (.inr rfl) r1 r2
       exact cL hI (dK (by simpa using this))
      ·cases h
     ·cases h
    ·cases h
   ·cases h
  ·cases h
 ·cases h
theorem acG (hI:Inv w0 c0 U E a w G) (hR:RI ops E a.tmps) (hg:Gd ops a.tmps g) {tk:Nat} {o:Oper} {c x y:Operand} {ef:Ef} (ho:o.op= .pick c x y)
 (h:bl C ops E.rd tk g o=some ef):kB w0 c0 U E a ((execOp a.eval o).run P w) ef:=by
 simp only[bl,ho]at h
 split at h
 ·rename_i t sh sx sy hc hx hy
  split at h
  ·rename_i p sh1 q sh2 h1 h2
   cases h
   have ec:a.eval c= .bool t:=by
    obtain⟨⟨cs,e1,e2⟩,_⟩:=eX hI hR hg hc
    cases sh with
    |leaf=>rw[e1,show cs=_ from e2];rfl
    |sl m=>exact e2.elim
    |pair _ _=>exact e2.elim
   have arm:∀ {z:Operand} {sz:SV} {b:Bool} {r:Bool} {s:Sh},ff C E.rd o.type z=some sz→A0 ops c b sz=some (.d ⟨.bool,r,s⟩)→t=b→a.eval z= .bool r:=by
    intro z sz b r s hz hp htb
    obtain⟨k1,_⟩:=Xm hI hz
    have hgz:=aac hR hz
    have fin:bU w G (.d ⟨.bool,r,s⟩) (a.eval z)→a.eval z= .bool r:=by
     rintro⟨cs,e1,e2⟩
     cases s with
     |leaf=>rw[e1,show cs=_ from e2];rfl
     |sl m=>exact e2.elim
     |pair _ _=>exact e2.elim
    cases sz with
    |g j w' act v=>
     simp only[A0]at hp
     split at hp
     ·rename_i n
      split at hp
      ·rename_i hcnd
       simp only[adm,decide_eq_true_eq]at hcnd
       simp only[aaF]at hp
       subst hp
       have hy':yielded ops.toArray a.tmps j=some w':=by
        have hb:ops.toArray[j]?.bind (·.dst)=some n:=by simpa using hcnd.2
        have hev:a.tmps.getD n undef= .bool t:=ec
        have hget:a.tmps[n]?=some (.bool t):=by
         rw[afj]at hev
         cases hq:a.tmps[n]? with
         |none=>rw[hq]at hev;cases hev
         |some v=>rw[hq]at hev;simp at hev;rw[hev]
        simp only[yielded,hb,Option.bind_some,hget]
        rw[htb,hcnd.1]
       exact fin (k1.1 ((hgz j w' act _ rfl).2 hy')).2
      ·cases hp
     ·cases hp
    |_=>simp only[A0,aaF]at hp;rw[hp]at k1;exact fin k1
   refine cL hI ?_
   simp only[execOp,ho,ec]
   cases t with
   |true=>simp[asBool,arm hx h1 rfl]
   |false=>simp[asBool,arm hy h2 rfl]
  ·cases h
 ·cases h
theorem Wx (hI:Inv w0 c0 U E a w G) (hR:RI ops E a.tmps) (hg:Gd ops a.tmps g) {tk:Nat} {o:Oper} {x:Operand} {ef:Ef} (ho:o.op= .nilCheck x)
 (h:bl C ops E.rd tk g o=some ef):kB w0 c0 U E a ((execOp a.eval o).run P w) ef:=by
 simp only[bl,ho]at h
 split at h
 ·rename_i t o' p τ hx
  cases h
  obtain⟨h1,h2⟩:=eX hI hR hg hx
  have h1':=h1
  obtain⟨bk,_,_,k⟩:=h1'
  exact cu hI (by simp only[execOp,ho,k];rfl) (k▸h1) h2 (by rintro _ _ ⟨⟩)
 ·rename_i t e i o' p τ hx
  cases h
  obtain⟨h1,h2⟩:=eX hI hR hg hx
  have h1':=h1
  obtain⟨bk,_,_,_,_,_,_,_,k⟩:=h1'
  exact cu hI (by simp only[execOp,ho,k];rfl) (k▸h1) h2 (by rintro _ _ ⟨⟩)
 ·rename_i hs v hx
  cases h
  obtain⟨h1,h2⟩:=eX hI hR hg hx
  have h1':=h1
  obtain⟨bk,_,_,_,_,k,_⟩:=h1'
  exact cu hI (by simp only[execOp,ho,k];rfl) (k▸h1) h2 (by rintro _ _ ⟨⟩)
 ·cases h
theorem Ym (hI:Inv w0 c0 U E a w G) (hR:RI ops E a.tmps) (hg:Gd ops a.tmps g) {tk:Nat} {o:Oper} {x:Operand} {j:Nat} {ef:Ef} (ho:o.op= .extract x j)
 (h:bl C ops E.rd tk g o=some ef):kB w0 c0 U E a ((execOp a.eval o).run P w) ef:=by
 simp only[bl,ho]at h
 split at h
 ·rename_i l hx
  rw[ach]at h
  obtain⟨v,hv,rfl⟩:=h
  obtain⟨⟨vs,k1,k2,k3⟩,h2⟩:=eX hI hR hg hx
  obtain⟨u,cs,q1,q2,q3⟩:=k3 j v hv
  refine cu hI (mv:=u) ?_ ⟨cs,q2,q3⟩ (bf.d fun c hc=>h2.1 c (adi.2 ⟨v,aff hv,hc⟩)) (by rintro _ _ ⟨⟩)
  simp only[execOp,ho,k1]
  refine dK ?_
  simp[Instr.extract,q1]
 ·cases h
theorem aa7 (hC:CxTy P C) (hI:Inv w0 c0 U E a w G) (hR:RI ops E a.tmps) (hg:Gd ops a.tmps g) {tk:Nat} {o:Oper} {s:TypeId} {x:Operand} {j:Nat} {ef:Ef} (ho:o.op= .field s x j)
 (h:bl C ops E.rd tk g o=some ef):kB w0 c0 U E a ((execOp a.eval o).run P w) ef:=by
 simp only[bl,ho]at h
 split at h
 ·rename_i i v hi hx
  split at h
  ·rename_i hc
   simp only[adm,decide_eq_true_eq]at hc
   rw[ach]at h
   obtain⟨r,hr,rfl⟩:=h
   obtain⟨⟨cs,e1,hv⟩,hm,_⟩:=jl hI hR hg hx
   have hstruct:i.τ.bW=true:=by
    cases hp:i.τ.bW with
    |true=>rfl
    |false=>rw[hC.fs s i hi hp]at hc;simp at hc
   obtain⟨fields,hu,hsz,hf⟩:=(hC.tt s i hi).struct hstruct
   have hj:j<fields.size:=by omega
   obtain⟨f1,f2,σ,f3,f4⟩:=hf j fields[j] (acv hj)
   obtain⟨q1,q2,q3,q4⟩:=bg.sub hr hv
   rw[hc.1,f3]at q3
   simp only[aaF]at q3
   subst q3
   refine cu hI ?_ ⟨_,rfl,q1⟩ (bf.d fun c hcc=>hm c (q4 c hcc)) (by rintro _ _ ⟨⟩)
   simp only[execOp,ho,e1]
   refine dK ?_
   have hlen:=bg.len hv
   rw[Jz (by rw[hc.1];exact hstruct)]
   have hpart:(part fields[j].type cs.toArray fields[j].offset).run P w= .ok (cw r.τ ((cs.drop (v.τ.off (cQ i.fs.length j))).take r.τ.sz)) w:=by
    rw[f1,←hc.1]
    cases hpr:r.τ.bW with
    |true=>simp[part,uP f4,hpr,du f4,Jz hpr,List.extract_eq_take_drop]
    |false=>
     have h1:r.τ.sz=1:=by cases hrt:r.τ<;>simp_all[Ty.bW,Ty.sz]
     have hlt:v.τ.off (cQ i.fs.length j)<cs.length:=by omega
     have hw:(cs.drop (v.τ.off (cQ i.fs.length j))).take 1=[cs[v.τ.off (cQ i.fs.length j)]]:=by
      rw[List.take_one,afI];simp[hlt]
     have hm:∀u:Value,cw r.τ [u]=u:=by intro u;cases hrt:r.τ<;>simp_all[cw,Ty.bW]
     rw[h1,hw,hm]
     simp[part,uP f4,hpr,hlt]
   simp[Instr.field,run_underlying hu,acv hj,asAgg,hpart]
  ·cases h
 ·cases h
theorem aef (hI:Inv w0 c0 U E a w G) (hR:RI ops E a.tmps) (hg:Gd ops a.tmps g) {tk:Nat} {o:Oper} {op:UnOp} {t:TypeId} {x:Operand} {ef:Ef}
 (ho:o.op= .unOp op t x) (h:bl C ops E.rd tk g o=some ef):kB w0 c0 U E a ((execOp a.eval o).run P w) ef:=by
 simp only[bl,ho]at h
 split at h
 ·rename_i b sh hx
  cases h
  exact cL hI (by simp only[execOp,ho,E5 hI hR hg hx];exact dK (by simp[Op.unary]))
 ·rename_i k n sh hx
  cases h
  exact dj hI (by simp only[execOp,ho,dq hI hR hg hx];exact dK (by simp[Op.unary,Op.intArith]))
 ·cases h
theorem Zz {t:TypeId} {i:TI} (h:Pg P t i):∃d,(underlying t).run P w= .ok d w:=by
 obtain⟨⟨inf,d,_,_,_,_,hu,_⟩,_⟩:=h
 exact⟨d,run_underlying hu w⟩
theorem Rk:∀ {l:List Int} {cs:List Value} {B:List Nat},aT (aQ w (.int .u8)) l cs B→cs=l.map fun n=>Value.int .u8 n
 | [],_,_,h=>h.1
 |n::l,cs,B,h=>by
  obtain⟨c1,c2,B1,B2,rfl,rfl,h1,h2⟩:=h
  rw[h1.1,Rk h2];rfl
theorem acy (hC:CxTy P C) (hI:Inv w0 c0 U E a w G) (hR:RI ops E a.tmps) (hg:Gd ops a.tmps g) {tk:Nat} {o:Oper} {s d:TypeId} {x:Operand} {ef:Ef}
 (ho:o.op= .convert s d x) (h:bl C ops E.rd tk g o=some ef):kB w0 c0 U E a ((execOp a.eval o).run P w) ef:=by
 simp only[bl,ho]at h
 split at h
 ·rename_i si hsi
  obtain⟨ds,hds⟩:=Zz (w:=w) (hC.tt s si hsi)
  split at h
  ·rename_i k fs el k' n sh hd hx
   cases h
   have hu:P.underlying d=some (.int k):=(hC.tt d _ hd).2
   refine dj hI ?_
   simp only[execOp,ho,dq hI hR hg hx]
   refine dK ?_
   simp[convert,hds,run_underlying hu,Conv.intToInt]
  ·rename_i fs el v sh hd hx
   cases h
   have hu:P.underlying d=some .string:=(hC.tt d _ hd).2
   refine oW hI ?_
   simp only[execOp,ho,ox hI hR hg hx]
   refine dK ?_
   simp[convert,hds,run_underlying hu]
  ·rename_i fs el l sh hd hx
   split at h
   ·rename_i hτ
    cases h
    have hu:P.underlying d=some .string:=(hC.tt d _ hd).2
    have hT:=(hC.tt s si hsi).2
    rw[hτ]at hT
    obtain⟨hus,hel⟩:=hT
    obtain⟨m,hm,hrow,hd',_⟩:=jk hI hR hg hx
    obtain⟨B,hB,_⟩:=hrow.rep hd'
    refine oW hI ?_
    simp only[execOp,ho]
    refine dK ?_
    have hue:P.underlying si.el=some (.int .u8):=hC.u8 s si hsi hτ
    rcases hB with⟨hv,rfl,_⟩|⟨b,off,cap,c,el',fz,Bs,hv,hcap,hb,hsz,rfl,hl⟩
    ·obtain⟨ao,hv⟩:=hv
     rw[hv]
     cases ao with
     |none=>
      simp[convert,run_underlying hus,run_underlying hu,run_underlying hue,Conv.bytesToString]
      rfl
     |some ad=>
      have hld:=run_loadCells_list (P:=P) w ad [] (fun j v hv=>by simp at hv)
      rw[run_convert_bytes_string w s d _ _ _ _ hus hue hu,run_bytesToString w _ 0 0 [] (by simpa using hld),foldl_push_bytes]
      congr 3
    ·rw[hv]
     have hsz1:(Ty.int IntKind.u8).sz=1:=rfl
     rw[hsz1,Nat.mul_one]at hl hsz
     have hcs:=Rk hl
     have hlen:((c.toList.drop off).take l.length).length=l.length:=by
      have:=aT.len (sz:=1) (fun x c B h=>aQ.len h) hl
      simpa using this
     have hld:=run_loadCells_list (P:=P) w ⟨b,off,none⟩ ((c.toList.drop off).take l.length) (fun j v hv=>by
      rw[Addr.add_lit,ot hb];exact O0 hv)
     rw[hlen,hcs]at hld
     rw[run_convert_bytes_string w s d _ _ _ _ hus hue hu,run_bytesToString w _ l.length cap l hld,foldl_push_bytes]
     congr 3
     simp
   ·cases h
  ·cases h
 ·cases h
theorem aaX (hC:CxTy P C) (hI:Inv w0 c0 U E a w G) (hR:RI ops E a.tmps) (hg:Gd ops a.tmps g) {tk:Nat} {o:Oper} {t:TypeId} {x n:Operand} {ef:Ef}
 (ho:o.op= .index t x n) (h:bl C ops E.rd tk g o=some ef):kB w0 c0 U E a ((execOp a.eval o).run P w) ef:=by
 simp only[bl,ho]at h
 split at h
 ·rename_i ti s sh k i sh' hti hx hn
  split at h
  ·rename_i hτ
   cases h
   intro hc
   obtain⟨h0,h1⟩:=of_decide_eq_true hc
   have hu:P.underlying t=some .string:=by have:=(hC.tt t ti hti).2;rw[hτ]at this;exact this
   refine dj hI ?_
   simp only[execOp,ho,ox hI hR hg hx,dq hI hR hg hn]
   refine dK ?_
   have h0': @LE.le Int adW 0 i:=h0
   have h1': @LT.lt Int Int.instLTInt i (s.size:Int):=h1
   have hlt:i.toNat<s.size:=by omega
   have hget:s[i.toNat]?=some s[i.toNat]:=getElem?_pos ..
   have hb:bt s i=(s[i.toNat].toNat:Int):=by
    simp only[bt]
    have:s.data.toList[i.toNat]?=some s[i.toNat]:=by
     rw[Array.getElem?_toList,acv (by exact hlt)];rfl
    rw[afs,this];rfl
   simp[Instr.index,asIntOf,run_underlying hu,h0',hget,hb]
  ·cases h
 ·cases h
theorem ac8 (hC:CxTy P C) (hI:Inv w0 c0 U E a w G) (hR:RI ops E a.tmps) (hg:Gd ops a.tmps g) {tk:Nat} {o:Oper} {c:Call} {b:Builtin} {ef:Ef}
 (ho:o.op= .call c) (hb:c.callee= .builtin b) (hq:∀x y z u v,ef≠ .app x y z u v) (h:bl C ops E.rd tk g o=some ef):kB w0 c0 U E a ((execOp a.eval o).run P w) ef:=by
 simp only[bl,ho,hb]at h
 unfold nW at h
 split at h
 ·
  rename_i x t ha hts
  have hargs:c.args= #[x]:=adM (by simpa using ha)
  have htys:c.argTypes= #[t]:=adM (by simpa using hts)
  split at h
  ·cases h
  ·rename_i ti hti
   split at h
   ·rename_i e l sh hx
    split at h
    ·rename_i hτ
     cases h
     have hT:=(hC.tt t ti hti).2
     rw[hτ]at hT
     obtain⟨m,hm,hrow,hd',_⟩:=jk hI hR hg hx
     obtain⟨B,hB,_⟩:=hrow.rep hd'
     refine dj hI ?_
     simp only[execOp,ho]
     rcases hB with⟨⟨ao,hv⟩,rfl,_⟩|⟨b,off,cap,c,el',fz,Bs,hv,_⟩<;>
      simp[resolve,hb,invoke,builtin,hargs,htys,hv,Builtin.len_,run_underlying hT.1,goInt]
    ·cases h
   ·rename_i s sh hx
    split at h
    ·rename_i hτ
     cases h
     have hT:=(hC.tt t ti hti).2
     rw[hτ]at hT
     refine dj hI ?_
     simp only[execOp,ho]
     simp[resolve,hb,invoke,builtin,hargs,htys,ox hI hR hg hx,Builtin.len_,run_underlying hT,goInt]
    ·cases h
   ·cases h
 ·
  rename_i x y t u ha hts
  have hargs:c.args= #[x,y]:=adM (by simpa using ha)
  have htys:c.argTypes= #[t,u]:=adM (by simpa using hts)
  split at h
  ·rename_i k m sh k' n sh' hx hy
   split at h
   ·rename_i hk
    subst hk
    cases h
    refine dj hI ?_
    simp only[execOp,ho]
    simp[resolve,hb,invoke,builtin,hargs,htys,dq hI hR hg hx,dq hI hR hg hy,Builtin.min_,Builtin.min2]
   ·cases h
  ·cases h
 ·
  rename_i x y t u ha hts
  have hargs:c.args= #[x,y]:=adM (by simpa using ha)
  have htys:c.argTypes= #[t,u]:=adM (by simpa using hts)
  split at h
  ·rename_i k m sh k' n sh' hx hy
   split at h
   ·rename_i hk
    subst hk
    cases h
    refine dj hI ?_
    simp only[execOp,ho]
    simp[resolve,hb,invoke,builtin,hargs,htys,dq hI hR hg hx,dq hI hR hg hy,Builtin.max_,Builtin.max2]
   ·cases h
  ·cases h
 ·
  split at h
  ·split at h
   ·split at h
    ·split at h
     ·cases h;exact absurd rfl (hq _ _ _ _ _)
     ·cases h
    ·cases h
   ·cases h
  ·cases h
 ·cases h
def Good (U:Nat→Prop) (G:Gh) (c:Nat):Prop:=0<c∧U c∧G.bx c=false
structure yb (w:World) (U:Nat→Prop) (G:Gh) (U':Nat→Prop) (G':Gh) (f:M→M) (fe:Nat→Bool) (fr:List Nat→Option (List Nat)):Prop where
 row:∀(e:Ty) (l:List e.den) (v:Value) (m:M),bJ w G e l v m→(∀c∈m.aE,Good U G c)→bJ w G' e l v (f m)
 good:∀m:M,(∀c∈m.aE,Good U G c)→∀c∈(f m).aE,Good U' G' c
 rd:∀hs hs',fr hs=some hs'→(∀c∈hs,Good U G c)→(∀c∈hs',Good U' G' c)∧∀b,G.col b∈hs→G'.col b∈hs'
 hdr:∀t,U t→G'.hdr t=G.hdr t
 bx:∀t,U t→G.bx t=true→G'.bx t=true∧∀b,G.col b=t→G'.col b=t
 ru:∀t,U t→G.bx t=false→G'.bx t=false
 mono:∀t,U t→U' t
section
variable {U':Nat→Prop} {G':Gh} {f:M→M} {fe:Nat→Bool} {fr:List Nat→Option (List Nat)}
theorem Sh.tN (hM:yb w U G U' G' f fe fr):∀ {sh:Sh},(∀c∈sh.aE,Good U G c)→∀c∈(sh.map f).aE,Good U' G' c
 | .leaf,_,c,h=>by simp[Sh.map,Sh.aE]at h
 | .sl m,hc,c,h=>hM.good m hc c h
 | .pair a b,hc,c,h=>by
   simp only[Sh.map,Sh.aE,acf]at h
   exact h.elim (Sh.tN hM (fun c h=>hc c (by simp[Sh.aE,h])) c) (Sh.tN hM (fun c h=>hc c (by simp[Sh.aE,h])) c)
theorem bg.map (hM:yb w U G U' G' f fe fr):∀ {τ:Ty} {x:τ.den} {sh:Sh} {cs:List Value},bg w G τ x sh cs→(∀c∈sh.aE,Good U G c)→
 bg w G' τ x (sh.map f) cs
 | .int _,_,.leaf,_,h,_=>h
 | .bool,_,.leaf,_,h,_=>h
 | .str,_,.leaf,_,h,_=>h
 | .sl e,l,.sl m,cs,h,hc=>by
   obtain⟨v,rfl,hr⟩:=h
   exact⟨v,rfl,hM.row _ _ _ _ hr hc⟩
 | .pair a b,p,.pair s1 s2,cs,h,hc=>by
   obtain⟨c1,c2,rfl,h1,h2⟩:=h
   exact⟨c1,c2,rfl,bg.map hM h1 (fun c h=>hc c (by simp[Sh.aE,h])),bg.map hM h2 (fun c h=>hc c (by simp[Sh.aE,h]))⟩
 | .int _,_,.sl _,_,h,_| .int _,_,.pair _ _,_,h,_| .bool,_,.sl _,_,h,_| .bool,_,.pair _ _,_,h,_
 | .str,_,.sl _,_,h,_| .str,_,.pair _ _,_,h,_| .sl _,_,.leaf,_,h,_| .sl _,_,.pair _ _,_,h,_
 | .pair _ _,_,.leaf,_,h,_| .pair _ _,_,.sl _,_,h,_=>h.elim
theorem bf.map (hM:yb w U G U' G' f fe fr):∀ {s:SV},bf U G s→bf U' G' (s.mapM f fe fr)
 | .no,_=>by simp[SV.mapM,bf,SV.sc,SV.bt,SV.rt]
 | .d v,hm=>bf.d (Sh.tN hM hm.1)
 | .box t v,hm=>by
   have hb:=hm.2.1 t (by simp[SV.bt])
   refine⟨Sh.tN hM hm.1,?_,by simp[SV.mapM,SV.rt]⟩
   intro c hc
   simp only[SV.mapM,SV.bt,aep]at hc
   subst hc
   exact⟨hb.1,hM.mono _ hb.2.1,(hM.bx _ hb.2.1 hb.2.2).1⟩
 | .ptr t o p τ,hm=>by
   have hb:=hm.2.1 t (by simp[SV.bt])
   refine⟨by simp[SV.mapM,SV.sc],?_,by simp[SV.mapM,SV.rt]⟩
   intro c hc
   simp only[SV.mapM,SV.bt,aep]at hc
   subst hc
   exact⟨hb.1,hM.mono _ hb.2.1,(hM.bx _ hb.2.1 hb.2.2).1⟩
 | .ept t e i o p τ,hm=>by
   simp only[SV.mapM]
   split
   ·have hb:=hm.2.2 t (by simp[SV.rt])
    refine⟨by simp[SV.sc],by simp[SV.bt],?_⟩
    intro c hc
    simp only[SV.rt,aep]at hc
    subst hc
    exact⟨hb.1,hM.mono _ hb.2.1,hM.ru _ hb.2.1 hb.2.2⟩
   ·simp[bf,SV.sc,SV.bt,SV.rt]
 | .rdp hs v,hm=>by
   simp only[SV.mapM]
   split
   ·rename_i hs' hr
    obtain⟨k1,k2⟩:=hM.rd hs hs' hr (fun c hc=>hm.1 c (by simp[SV.sc,hc]))
    refine⟨?_,by simp[SV.bt],by simp[SV.rt]⟩
    intro c hc
    simp only[SV.sc,acf]at hc
    exact hc.elim (k1 c) (Sh.tN hM (fun c hc=>hm.1 c (by simp[SV.sc,hc])) c)
   ·simp[bf,SV.sc,SV.bt,SV.rt]
 | .tup l,hm=>by
   refine⟨?_,by simp[SV.mapM,SV.bt],by simp[SV.mapM,SV.rt]⟩
   intro c hc
   simp only[SV.mapM,SV.sc,afH,adi]at hc
   obtain⟨v,hv,hc⟩:=hc
   exact Sh.tN hM (fun c hc=>hm.1 c (adi.2 ⟨v,hv,hc⟩)) c hc
 | .g j w' true v,hm=>by
   have:=bf.map (s:=v) hM (by simpa[bf,SV.sc,SV.bt,SV.rt]using hm)
   simpa[bf,SV.mapM,SV.sc,SV.bt,SV.rt]using this
 | .g j w' false v,hm=>by simp[bf,SV.mapM,SV.sc,SV.bt,SV.rt]
theorem bU.map (hM:yb w U G U' G' f fe fr):∀ {s:SV} {mv:Value},bU w G s mv→bf U G s→bU w G' (s.mapM f fe fr) mv
 | .no,_,_,_=>trivial
 | .d v,mv,⟨cs,h1,h2⟩,hm=>⟨cs,h1,bg.map hM h2 hm.1⟩
 | .box t v,mv,⟨bk,c,el,h1,h2,h3,h4,h5,h6⟩,hm=>by
   have hb:=hm.2.1 t (by simp[SV.bt])
   have hx:=hM.bx t hb.2.1 hb.2.2
   exact⟨bk,c,el,h1,h2,(hM.hdr t hb.2.1).trans h3,hx.2 _ h4,h5,bg.map hM h6 hm.1⟩
 | .ptr t o p τ,mv,⟨bk,h1,h2,h3⟩,hm=>by
   have hb:=hm.2.1 t (by simp[SV.bt])
   exact⟨bk,h1,(hM.hdr t hb.2.1).trans h2,h3⟩
 | .ept t e i o p τ,mv,⟨b,off,n,cap,h1,h2,h3⟩,hm=>by
   simp only[SV.mapM]
   split
   ·have hb:=hm.2.2 t (by simp[SV.rt])
    exact⟨b,off,n,cap,h1,(hM.hdr t hb.2.1).trans h2,h3⟩
   ·trivial
 | .rdp hs v,mv,⟨b,o,c,el,fz,h1,h2,h3,h4,h5⟩,hm=>by
   simp only[SV.mapM]
   split
   ·rename_i hs' hr
    obtain⟨k1,k2⟩:=hM.rd hs hs' hr (fun c hc=>hm.1 c (by simp[SV.sc,hc]))
    exact⟨b,o,c,el,fz,h1,h2,h3,k2 _ h4,bg.map hM h5 (fun c hc=>hm.1 c (by simp[SV.sc,hc]))⟩
   ·trivial
 | .tup l,mv,⟨vs,h1,h2,h3⟩,hm=>by
   refine⟨vs,h1,by simp[h2],fun i v hi=> ?_⟩
   rw[ae8,ach]at hi
   obtain⟨v',hi',rfl⟩:=hi
   obtain⟨u,cs,hu,hmv,hv⟩:=h3 i v' hi'
   exact⟨u,cs,hu,hmv,bg.map hM hv (fun c hc=>hm.1 c (adi.2 ⟨v',aff hi',hc⟩))⟩
 | .g j w' false v,mv,⟨h1,h2⟩,hm=>⟨fun e=>absurd e (by simp),h2⟩
 | .g j w' true v,mv,⟨h1,h2⟩,hm=>⟨fun e=>⟨by
  have:=(h1 e).1
  cases v with
  |box t v=>simp[SV.cS]at this
  |ept t e i o p τ=>simp only[SV.mapM];split<;>rfl
  |rdp hs v=>simp only[SV.mapM];split<;>rfl
  |_=>rfl,bU.map (s:=v) hM (h1 e).2 (by simpa[bf,SV.sc,SV.bt,SV.rt]using hm)⟩,h2⟩
theorem CZ {s:SV} {t:Nat} {u:TV} (h:s.mapM f fe fr= .box t u):∃u',s= .box t u':=by
 cases s with
 |box t' v=>simp only[SV.mapM,SV.box.injEq]at h;exact⟨v,by rw[h.1]⟩
 |ept t' e i o p τ=>simp only[SV.mapM]at h;split at h<;>cases h
 |rdp hs v=>simp only[SV.mapM]at h;split at h<;>cases h
 |_=>simp[SV.mapM]at h
theorem getD_map {L:List SV} {T:SV→SV} (hT:T .no= .no) (s:Nat):(L.map T).getD s .no=T (L.getD s .no):=by
 simp only[aeS,ae8]
 cases L[s]?<;>simp[hT]
theorem Inv.map (hI:Inv w0 c0 U E a w G) (hM:yb w U G U' G' f fe fr) (hcU:∀b,0<G'.col b→U' (G'.col b))
 (hcol:∀b,(0<G'.col b→0<G.col b)∧(G.col b<4→G'.col b=G.col b)∧(G'.col b<4→G'.col b=G.col b)):
 Inv w0 c0 U' {E with s:=E.s.map (SV.mapM f fe fr)} a w G':=by
 have hg:∀s,({E with s:=E.s.map (SV.mapM f fe fr)}:Env).s.getD s .no=(E.s.getD s .no).mapM f fe fr:=fun s=>getD_map (T:=SV.mapM f fe fr) rfl s
 have hm:∀s,bf U' G' ((E.s.getD s .no).mapM f fe fr):=fun s=>bf.map hM (hI.ow s)
 refine⟨by simpa using hI.len,fun s=> ?_,fun s=> ?_,fun s=> ?_,fun s=> ?_,fun s s' t v v' h1 h2=> ?_,hcU,fun b hb=>hI.lt b ((hcol b).1 hb),fun b hb=>hI.fresh b ?_,fun b hb hc=> ?_,fun b hb=> ?_,hI.size,hI.os,hI.tape,hI.output,hI.defers,⟨⟨hM.mono _ hI.two.1.1,hM.ru _ hI.two.1.1 hI.two.1.2⟩,hM.mono _ hI.two.2.1,hM.ru _ hI.two.2.1 hI.two.2.2⟩,fun hk t v e=>⟨hM.mono _ (hI.hk hk t v e).1,(hM.hdr t (hI.hk hk t v e).1).trans (hI.hk hk t v e).2⟩⟩
 ·rw[hg];exact bU.map hM (hI.slots s) (hI.ow s)
 ·rw[hg];exact(hm s).1
 ·rw[hg];exact(hm s).2.1
 ·rw[hg];exact(hm s).2.2
 ·rw[hg]at h1 h2
  obtain⟨u,hu⟩:=CZ h1
  obtain⟨u',hu'⟩:=CZ h2
  exact hI.uni s s' t u u' hu hu'
 ·have h1:=(hcol b).2.1
  rcases afe (G.col b) 4 with h|h
  ·have:=h1 h;omega
  ·exact h
 ·have h:=hI.frame b hb hc
  exact⟨by rw[(hcol b).2.1 (by rw[h.1];exact hc)];exact h.1,h.2⟩
 ·have h1:=(hcol b).2.2 (by omega)
  rw[h1]at hb⊢;exact hI.one b hb
end
theorem pP {a b:List Nat} (h:meets a b=false):∀c∈a,c∉b:=by
 simp only[meets,List.any_eq_false,aeO,decide_eq_true_eq]at h
 exact h
theorem jZ (ts:List Nat) (m:M):∀c∈(m.kill ts).aE,c∈m.aE∧c∉ts:=by
 intro c hc
 unfold M.kill at hc
 split at hc
 ·simp[M.aE]at hc
 ·rename_i hm
  exact⟨hc,pP (by simpa using hm) c hc⟩
theorem ac1 (ts:List Nat):yb w U G U G (M.kill ts) (!ts.contains ·) (fun hs=>if meets hs ts then none else some hs) where
 row e l v m h _:=by
  unfold M.kill
  split
  ·exact h.one
  ·exact h
 good m h c hc:=h c (jZ ts m c hc).1
 rd hs hs' h hg:=by
  split at h
  ·cases h
  ·cases h;exact⟨hg,fun b hb=>hb⟩
 hdr _ _:=rfl
 bx t _ hb:=⟨hb,fun _ h=>h⟩
 ru _ _ h:=h
 mono _ h:=h
theorem Inv.kill (hI:Inv w0 c0 U E a w G) (ts:List Nat):Inv w0 c0 U (E.kill ts) a w G:=by
 unfold Env.kill
 split
 ·exact hI
 ·exact hI.map (ac1 ts) hI.colU (fun b=>⟨fun h=>h,fun _=>rfl,fun _=>rfl⟩)
theorem Sh.jZ {ts:List Nat}:∀(sh:Sh),∀c∈(sh.map (M.kill ts)).aE,c∈sh.aE∧c∉ts
 | .leaf,c,h=>by simp[Sh.map,Sh.aE]at h
 | .sl m,c,h=>Vg.jZ ts m c h
 | .pair a b,c,h=>by
   simp only[Sh.map,Sh.aE,acf]at h⊢
   rcases h with h|h
   ·have:=Sh.jZ a c h;exact⟨.inl this.1,this.2⟩
   ·have:=Sh.jZ b c h;exact⟨.inr this.1,this.2⟩
theorem SV.Ag {ts:List Nat}:∀(s:SV),∀c∈(s.kill ts).sc,c∈s.sc∧c∉ts
 | .no,c,h| .ptr ..,c,h=>by simp[SV.kill,SV.mapM,SV.sc]at h
 | .d v,c,h=>Sh.jZ v.sh c h
 | .box t v,c,h=>Sh.jZ v.sh c h
 | .ept t e i o p τ,c,h=>by simp only[SV.kill,SV.mapM]at h;split at h<;>simp[SV.sc]at h
 | .rdp hs v,c,h=>by
   simp only[SV.kill,SV.mapM]at h
   by_cases hm:meets hs ts=true
   ·simp[hm,SV.sc]at h
   ·simp only[hm,afk,if_false,SV.sc,acf]at h
    rcases h with h|h
    ·exact⟨by simp[SV.sc,h],pP (by simpa using hm) c h⟩
    ·have:=Sh.jZ v.sh c h;exact⟨by simp[SV.sc,this.1],this.2⟩
 | .tup l,c,h=>by
   simp only[SV.kill,SV.mapM,SV.sc,afH,adi]at h
   obtain⟨v,hv,hc⟩:=h
   have:=Sh.jZ v.sh c hc
   exact⟨adi.2 ⟨v,hv,this.1⟩,this.2⟩
 | .g j w' true v,c,h=>by
   have:=SV.Ag (ts:=ts) v c (by simpa[SV.kill,SV.mapM,SV.sc]using h)
   simpa[SV.sc]using this
 | .g j w' false v,c,h=>by simp[SV.kill,SV.mapM,SV.sc]at h
theorem Env.C5 (E:Env) (ts:List Nat) (s:Nat):(E.kill ts).s.getD s .no=if ts.isEmpty then E.s.getD s .no else(E.s.getD s .no).kill ts:=by
 unfold Env.kill
 split
 ·rfl
 ·exact getD_map (T:=SV.kill ts) rfl s
theorem Env.Ag (E:Env) (ts:List Nat) (s:Nat):∀c∈((E.kill ts).s.getD s .no).sc,c∈(E.s.getD s .no).sc∧c∉ts:=by
 intro c hc
 rw[Env.C5]at hc
 split at hc
 ·rename_i he
  have:ts=[]:=by simpa using he
  subst this
  exact⟨hc,by simp⟩
 ·exact SV.Ag _ c hc
def Gh.aS (G:Gh) (ts:List Nat) (t:Nat) (v:Value):Gh:=
 ⟨fun b=>if G.col b∈ts then t else G.col b,fun u=>if u=t then v else G.hdr u,fun u=>if u=t then false else G.bx u⟩
theorem AQ {ts:List Nat} {t c:Nat} {hs:List Nat} (h:c∈hs):(if c∈ts then t else c)∈uo ts t hs:=by
 unfold uo
 rw[ae4,List.mem_map]
 exact⟨c,h,by simp⟩
theorem UA {ts:List Nat} {t c:Nat} {hs:List Nat} (h:c∈uo ts t hs):c=t∨(c∈hs∧c∉ts):=by
 unfold uo at h
 rw[ae4,List.mem_map]at h
 obtain⟨d,hd,rfl⟩:=h
 by_cases e:d∈ts
 ·left;simp[e]
 ·right;simp[e,hd]
theorem Qw {ts:List Nat} {t:Nat} {hs:List Nat} (h:uo ts t hs=[]):hs=[]:=by
 cases hs with
 |nil=>rfl
 |cons c l=>
  have:=AQ (ts:=ts) (t:=t) (List.mem_cons_self (a:=c) (l:=l))
  rw[h]at this;simp at this
theorem OW {ts:List Nat} {t:Nat} {v:Value} (h3:4≤t) (hts:∀c∈ts,4≤c∧Good U G c) (ht:U t→v=G.hdr t∧G.bx t=false):
 yb w U G (fun u=>U u∨u=t) (G.aS ts t v) (M.aS ts t) (!ts.contains ·) (fun hs=>some (if meets hs ts then uo ts t hs else hs)):=by
 have hgood0:∀c,Good U G c→Good (fun u=>U u∨u=t) (G.aS ts t v) c:=by
  rintro c ⟨h1,h2,h4⟩
  refine⟨h1,.inl h2,?_⟩
  simp only[Gh.aS]
  split
  ·rfl
  ·exact h4
 have hgood:∀c hs,(∀c∈hs,Good U G c)→c∈uo ts t hs→Good (fun u=>U u∨u=t) (G.aS ts t v) c:=by
  intro c hs hg hc
  rcases UA hc with rfl|⟨hc,_⟩
  ·exact⟨by omega,.inr rfl,by simp[Gh.aS]⟩
  ·exact hgood0 c (hg c hc)
 have hcol:∀b hs,G.col b∈hs→(G.aS ts t v).col b∈uo ts t hs:=fun b hs h=>AQ h
 have hsame:∀b hs,meets hs ts=false→G.col b∈hs→(G.aS ts t v).col b=G.col b:=fun b hs hm hb=>by
  have:=pP hm _ hb
  simp[Gh.aS,this]
 refine⟨fun e l u m h hg=> ?_,fun m hg c hc=> ?_,fun hs hs' h hg=> ?_,fun u hu=> ?_,fun u hu hb=> ?_,fun u hu hb=> ?_,fun u hu=> .inl hu⟩
 ·unfold M.aS
  cases hm:meets m.aE ts with
  |false=>
   simp only[afk,if_false]
   refine bJ.agree (w:=w) (G:=G) ⟨fun _ _=>rfl,fun b hb=>hsame b _ hm hb,fun c hc=> ?_⟩ h
   simp only[Gh.aS]
   split
   ·rename_i e;subst e;exact(ht (hg _ hc).2.1).1
   ·rfl
  |true=>
   simp only[if_true]
   cases m with
   |row u' hs nd=>
    simp only[M.vN]
    split
    ·rename_i hin
     obtain⟨B,hB,hc⟩:=h.rep (by simp)
     exact⟨⟨B,hB,fun b hb=>hcol b _ (hc b hb)⟩,fun e=>absurd (Qw e) (by simp)⟩
    ·rename_i hin
     simp only[aeO,decide_eq_true_eq]at hin
     obtain⟨g1,g2,B,hB,hc⟩:=h
     refine⟨g1,?_,B,hB,fun b Bs he=> ?_⟩
     ·simp only[Gh.aS]
      split
      ·rename_i e;subst e
       rw[←g2]
       exact(ht (hg _ (by simp[M.aE])).2.1).1
      ·exact g2
     ·obtain⟨k1,k2,k3,k4⟩:=hc b Bs he
      exact⟨by simp only[Gh.aS,k1];simp[hin],k2,fun x hx=>hcol x _ (k3 x hx),k4⟩
   |sha hs=>
    obtain⟨⟨B,hB,hc⟩,hn⟩:=h
    exact⟨⟨B,hB,fun b hb=>hcol b _ (hc b hb)⟩,fun e=>hn (Qw e)⟩
   |nst b E i o p fr=>
    obtain⟨B,hB,hc⟩:=h.rep (by simp)
    exact⟨⟨B,hB,fun b hb=>hcol b _ (hc b hb)⟩,fun e=>absurd (Qw e) (by simp)⟩
   |dead=>exact h
 ·unfold M.aS at hc
  split at hc
  ·cases m with
   |row u' hs nd=>
    simp only[M.vN]at hc
    split at hc
    ·exact hgood c _ hg hc
    ·rename_i hin
     simp only[M.aE,aco]at hc
     rcases hc with rfl|hc
     ·exact hgood0 c (hg c (by simp[M.aE]))
     ·exact hgood c hs (fun c hc=>hg c (by simp[M.aE,hc])) hc
   |sha hs=>exact hgood c hs hg hc
   |nst b E i o p fr=>exact hgood c [b] hg hc
   |dead=>simp[M.vN,M.aE]at hc
  ·exact hgood0 c (hg c hc)
 ·simp only[aaF]at h
  subst h
  split
  ·exact⟨fun c hc=>hgood c hs hg hc,fun b hb=>hcol b hs hb⟩
  ·rename_i hm
   exact⟨fun c hc=>hgood0 c (hg c hc),fun b hb=>by rw[hsame b hs (by simpa using hm) hb];exact hb⟩
 ·simp only[Gh.aS]
  split
  ·rename_i e;subst e;exact(ht hu).1
  ·rfl
 ·have hne:u≠t:=by
   rintro rfl
   rw[(ht hu).2]at hb;cases hb
  refine⟨by simp[Gh.aS,hne,hb],fun b hbc=> ?_⟩
  have:u∉ts:=fun h=>by rw[(hts u h).2.2.2]at hb;cases hb
  simp[Gh.aS,hbc,this]
 ·simp only[Gh.aS]
  split
  ·rfl
  ·exact hb
theorem Inv.aS (hI:Inv w0 c0 U E a w G) {ts:List Nat} {t:Nat} {v:Value} (h3:4≤t) (hts:∀c∈ts,4≤c∧Good U G c) (ht:U t→v=G.hdr t∧G.bx t=false):
 Inv w0 c0 (fun u=>U u∨u=t) (E.aS ts t) a w (G.aS ts t v):=by
 have hc1:∀b,0<(G.aS ts t v).col b→(U ((G.aS ts t v).col b)∨(G.aS ts t v).col b=t):=by
  intro b hb
  simp only[Gh.aS]at hb⊢
  split
  ·exact .inr rfl
  ·rename_i h;rw[if_neg h]at hb;exact .inl (hI.colU b hb)
 have hc2:∀b,(0<(G.aS ts t v).col b→0<G.col b)∧(G.col b<4→(G.aS ts t v).col b=G.col b)∧((G.aS ts t v).col b<4→(G.aS ts t v).col b=G.col b):=by
  intro b
  simp only[Gh.aS]
  by_cases h:G.col b∈ts
  ·have:=(hts _ h).1
   simp only[h,if_true];omega
  ·simp[h]
 unfold Env.aS
 split
 ·rename_i he
  have:ts=[]:=by simpa using he
  subst this
  have hM':=hI.map (f:=M.aS [] t) (OW (w:=w) (v:=v) h3 hts ht) hc1 hc2
  refine {hI.mono (U':=fun u=>U u∨u=t) (fun c h=> .inl h)with slots:=fun s=> ?_,sc:=fun s c hc=> ?_,bt:=fun s c hc=> ?_,rt:=fun s c hc=> ?_,colU:=hc1,fresh:=hM'.fresh,lt:=hM'.lt,frame:=hM'.frame,one:=hM'.one,two:=hM'.two,hk:=hM'.hk}
  ·refine bU.agree (w:=w) (G:=G) ⟨fun _ _=>rfl,fun b hb=>by simp[Gh.aS],fun u hu=> ?_⟩ (hI.slots s)
   have hU:U u:=by
    simp only[acf]at hu
    rcases hu with(hu|hu)|hu
    ·exact(hI.sc s u hu).2.1
    ·exact(hI.bt s u hu).2.1
    ·exact(hI.rt s u hu).2.1
   simp only[Gh.aS]
   split
   ·rename_i e;subst e;exact(ht hU).1
   ·rfl
  ·have:=hI.sc s c hc
   refine⟨this.1,.inl this.2.1,?_⟩
   simp only[Gh.aS];split
   ·rfl
   ·exact this.2.2
  ·have hb:=hI.bt s c hc
   refine⟨hb.1,.inl hb.2.1,?_⟩
   simp only[Gh.aS];split
   ·rename_i e;subst e
    have h:=(ht hb.2.1).2
    rw[h]at hb;cases hb.2.2
   ·exact hb.2.2
  ·have:=hI.rt s c hc
   refine⟨this.1,.inl this.2.1,?_⟩
   simp only[Gh.aS];split
   ·rfl
   ·exact this.2.2
 ·exact hI.map (OW h3 hts ht) hc1 hc2
theorem Inv.change (hI:Inv w0 c0 U E a w G) {ts:List Nat} {U':Nat→Prop} {w':World} {G':Gh}
 (hs:∀s,∀c∈(E.s.getD s .no).hc,c∉ts)
 (hag:∀b,0<G.col b→G.col b∉ts→w'.heap[b]?=w.heap[b]?∧G'.col b=G.col b)
 (hhdr:∀t,U t→G'.hdr t=G.hdr t∧G'.bx t=G.bx t) (hU:∀c,U c→U' c)
 (colU:∀b,0<G'.col b→U' (G'.col b)) (lt:∀b,0<G'.col b→b<w'.heap.size)
 (fresh:∀b,4≤G'.col b→∃c el,w'.heap[b]?=some (.cells c el (0,0)))
 (frame:∀b,b<w0.heap.size→c0.col b<4→G'.col b=c0.col b∧w'.heap[b]?=w0.heap[b]?)
 (one:∀b,G'.col b=1∨G'.col b=3→G.col b=G'.col b) (size:w.heap.size≤w'.heap.size)
 (os:w'.os=w.os) (tape:w'.tape=w.tape) (output:w'.output=w.output):Inv w0 c0 U' E a w' G':=by
 have hU':∀s u,u∈(E.s.getD s .no).sc++(E.s.getD s .no).bt++(E.s.getD s .no).rt→U u:=by
  intro s u hu
  simp only[acf]at hu
  rcases hu with(hu|hu)|hu
  ·exact(hI.sc s u hu).2.1
  ·exact(hI.bt s u hu).2.1
  ·exact(hI.rt s u hu).2.1
 refine⟨hI.len,fun s=> ?_,fun s c hc=> ?_,fun s c hc=> ?_,fun s c hc=> ?_,hI.uni,colU,lt,fresh,frame,fun b hb=>by have h:=hI.one b (by rw[one b hb];exact hb);rw[one b hb]at h;exact h,Nat.le_trans hI.size size,os.trans hI.os,tape.trans hI.tape,output.trans hI.output,hI.defers,⟨⟨hU _ hI.two.1.1,by rw[(hhdr 2 hI.two.1.1).2];exact hI.two.1.2⟩,hU _ hI.two.2.1,by rw[(hhdr 3 hI.two.2.1).2];exact hI.two.2.2⟩,fun hk t v e=>⟨hU _ (hI.hk hk t v e).1,(hhdr t (hI.hk hk t v e).1).1.trans (hI.hk hk t v e).2⟩⟩
 ·refine bU.agree (w:=w) (G:=G) ⟨fun b hb=> ?_,fun b hb=> ?_,fun u hu=>(hhdr u (hU' s u hu)).1⟩ (hI.slots s)
  ·have:0<G.col b:=by rcases SV.F3 _ _ hb with hb|hb;exact(hI.sc s _ hb).1;exact(hI.bt s _ hb).1
   exact(hag b this (hs s _ hb)).1
  ·have:0<G.col b:=by rcases SV.F3 _ _ hb with hb|hb;exact(hI.sc s _ hb).1;exact(hI.bt s _ hb).1
   exact(hag b this (hs s _ hb)).2
 ·have:=hI.sc s c hc;exact⟨this.1,hU _ this.2.1,by rw[(hhdr c this.2.1).2];exact this.2.2⟩
 ·have:=hI.bt s c hc;exact⟨this.1,hU _ this.2.1,by rw[(hhdr c this.2.1).2];exact this.2.2⟩
 ·have:=hI.rt s c hc;exact⟨this.1,hU _ this.2.1,by rw[(hhdr c this.2.1).2];exact this.2.2⟩
end
section
variable {P:Program} {C:Cx} {w0:World} {c0:C0} {U:Nat→Prop} {E:Env} {a:Act} {w:World} {G:Gh} {ops:List Oper} {g:Option (Nat×Bool)}
def QN (w:World) (v:Value) (n sz:Nat) (cs:List Value):Prop:=
 cs.length=n*sz∧∃(ao:Option Addr) (cap:Nat),v= .slice ao n cap∧n≤cap∧(ao=none→n=0∧cap=0)∧∀a,ao=some a→∀(j:Nat) (u:Value),cs[j]?=some u→w.cell? (a.add j)=some u
theorem dp.cells {e:Ty} {l:List e.den} {v:Value} {B:List Nat} (h:dp w e.sz (aQ w e) l v B):
 ∃cs,QN w v l.length e.sz cs∧aT (aQ w e) l cs (B.drop 1)∧
  (∀ad n cap,v= .slice (some ad) n cap→0<cap→∃b off,ad=⟨b,off,none⟩∧B=b::B.drop 1∧n=l.length∧∃c el fz,w.heap[b]?=some (.cells c el fz)∧off+cap*e.sz≤c.size∧cs=(c.toList.drop off).take (l.length*e.sz)):=by
 rcases h with⟨⟨ao,rfl⟩,rfl,rfl⟩|⟨b,off,cap,c,el,fz,Bs,hv,hcap,hb,hsz,rfl,hl⟩
 ·exact⟨[],⟨by simp,ao,0,rfl,aem _,fun _=>⟨rfl,rfl⟩,fun a _ j u hj=>by simp at hj⟩,⟨rfl,rfl⟩,fun ad n cap h hc=>by cases h;omega⟩
 ·refine⟨_,⟨aT.len (sz:=e.sz) (fun x c B h=>aQ.len h) hl,some ⟨b,off,none⟩,cap,hv,hcap,by simp,fun a ha j u hj=> ?_⟩,hl,fun ad n' cap' h _=> ?_⟩
  ·cases ha;rw[Addr.add_lit,ot hb];exact O0 hj
  ·rw[hv]at h;cases h;exact⟨b,off,rfl,rfl,rfl,c,el,fz,hb,hsz,rfl⟩
theorem aT.Ya {e:Ty} {l:List e.den} {cs:List Value} {B:List Nat} (h:aT (aQ w e) l cs B):∀v∈cs,v.oneCell'=true:=by
 induction l generalizing cs B with
 |nil=>rw[h.1];simp
 |cons x l ih=>
  obtain⟨c1,c2,B1,B2,rfl,rfl,h1,h2⟩:=h
  intro v hv
  rcases acf.1 hv with hv|hv
  ·exact aQ.one h1 v hv
  ·exact ih h2 v hv
theorem W7 {t ty:TypeId} {el:TypeId} {e:Ty} (hu:P.underlying t=some (.slice el)) (hT:gA P el e) {vx vy:Value} {n m:Nat} {xs ys:List Value}
 (hx:QN w vx n e.sz xs) (hy:QN w vy m e.sz ys) (h1:∀u∈ys,u.oneCell'=true) (hb:n+m<4294967296)
 (hfr:∀ad k cap,vx= .slice (some ad) k cap→0<cap→∃b off,ad=⟨b,off,none⟩∧∃c el',w.heap[b]?=some (.cells c el' (0,0))∧off+cap*e.sz≤c.size):
 (m=0∧(Builtin.append_ #[t,t] ty #[vx,vy]).run P w= .ok vx w)∨
 (∃b off cap,vx= .slice (some ⟨b,off,none⟩) n cap∧n+m≤cap∧0<cap∧(Builtin.append_ #[t,t] ty #[vx,vy]).run P w= .ok (.slice (some ⟨b,off,none⟩) (n+m) cap) (w.setCells b (off+n*e.sz) ys))∨
 (∃cap rest,n+m≤cap∧cap*e.sz≤(xs++ys++rest).length∧
  (Builtin.append_ #[t,t] ty #[vx,vy]).run P w= .ok (.slice (some ⟨w.heap.size,0,none⟩) (n+m) cap) (w.drew.alloc (.cells (xs++ys++rest).toArray el))):=by
 obtain⟨inf,d,hi,hsz,hz,hby,_⟩:=hT
 have hzs:(cw e e.zero).cells.size=e.sz:=pF e.iw (wJ e)
 obtain⟨hxl,aox,capx,rfl,hcx,hnx,hcellx⟩:=hx
 obtain⟨hyl,aoy,capy,rfl,hcy,hny,hcelly⟩:=hy
 rcases Nat.eq_zero_or_pos m with rfl|hm
 ·left
  refine⟨rfl,?_⟩
  have hf:(Builtin.firstCells inf.size 0 (.slice aoy 0 capy)).run P w= .ok #[] w:=by
   cases aoy with
   |none=>exact run_firstCells_none ..
   |some ad=>exact run_firstCells_some (P:=P) w inf.size 0 ad 0 capy [] (by simp) (by simp)
  cases aox with
  |none=>simp[Builtin.append_,run_underlying hu,Go.sizeOf,typeInfo,hi,Builtin.lenOf,hf,hcx]
  |some ad=>simp[Builtin.append_,run_underlying hu,Go.sizeOf,typeInfo,hi,Builtin.lenOf,hf,hcx,storeCells]
 ·right
  cases aoy with
  |none=>have:=(hny rfl).1;omega
  |some ady=>
   have hcy':=hcelly ady rfl
   cases aox with
   |none=>
    obtain⟨rfl,rfl⟩:=hnx rfl
    right
    have hr:=run_append_nil (P:=P) w t ty el inf _ hu hi hz ady m capy ys (by rw[hsz];exact hyl) hcy' hm (by omega) (by
     have:m*inf.bytes≤4294967296*32768:=Nat.mul_le_mul (by omega) hby
     omega)
    have hge:=grownCap_ge w m 0 el
    have hxs:xs=[]:=by simpa using hxl
    subst hxs
    refine⟨grownCap w m 0 el,(Builtin.zeroCells (cw e e.zero).cells (grownCap w m 0 el-m)).toList,by omega,?_,?_⟩
    ·simp only[aeR,aeq,aeV,size_zeroCells,hzs,hyl,←aci]
     exact ada _ (by omega)
    ·rw[hr];simp only[afA,aeR];congr 3;apply adM;simp
   |some adx=>
    have hcx':=hcellx adx rfl
    rcases afe capx (n+m)with hg|hg
    ·right
     have hr:=run_append_grow (P:=P) w t ty el inf _ hu hi hz adx n capx xs (by rw[hsz];exact hxl) hcx'
      ady m capy ys (by rw[hsz];exact hyl) hcy' hg (by omega) (growslice_fits hg (by
      have:(n+m)*inf.bytes≤4294967296*32768:=Nat.mul_le_mul (by omega) hby
      omega))
     have hge:=grownCap_ge w (n+m) capx el
     refine⟨grownCap w (n+m) capx el,(Builtin.zeroCells (cw e e.zero).cells (grownCap w (n+m) capx el-(n+m))).toList,hge,?_,?_⟩
     ·simp only[aeq,aeV,size_zeroCells,hzs,hxl,hyl,←aci]
      exact ada _ (by omega)
     ·rw[hr]
      congr 3
      apply adM
      simp
    ·left
     obtain⟨b,off,rfl,c,el',hheap,hsize⟩:=hfr adx n capx rfl (by omega)
     have hcell':∀j,j<ys.length→off+n*e.sz+j<c.size:=by
      intro j hj
      have:(n+m)*e.sz≤capx*e.sz:=ada _ hg
      rw[aci]at this
      omega
     have hr:=run_append_room_cells (P:=P) w t ty el inf hu hi b off n capx ady m capy ys (by rw[hsz];exact hyl) hcy' h1 hg
      (fun j hj=>by rw[ot hheap,hsz];simp[hcell' j hj]) (fun j hj=>vK hheap _)
     rw[hsz]at hr
     exact⟨b,off,capx,rfl,hg,by omega,hr⟩
theorem aQ.flat:∀ {τ:Ty} {x:τ.den} {cs:List Value} {B:List Nat},τ.flat=true→aQ w τ x cs B→B=[]
 | .int _,_,_,_,_,h| .bool,_,_,_,_,h| .str,_,_,_,_,h=>h.2
 | .sl _,_,_,_,h,_=>by simp[Ty.flat]at h
 | .pair a b,p,cs,B,hf,h=>by
   obtain⟨c1,c2,B1,B2,rfl,rfl,h1,h2⟩:=h
   simp only[Ty.flat,adm]at hf
   rw[aQ.flat hf.1 h1,aQ.flat hf.2 h2];rfl
theorem aT.flat {e:Ty} (hf:e.flat=true):∀ {l:List e.den} {cs:List Value} {B:List Nat},aT (aQ w e) l cs B→B=[]
 | [],_,_,h=>h.2
 |x::l,cs,B,h=>by
  obtain⟨c1,c2,B1,B2,rfl,rfl,h1,h2⟩:=h
  rw[aQ.flat hf h1,aT.flat hf h2];rfl
theorem bJ.aeD {e:Ty} {l:List e.den} {v:Value} {m:M} (h:bJ w G e l v m) (hl:m≠ .dead):
 ∃B,dp w e.sz (aQ w e) l v B∧(∀b∈B,G.col b∈m.aE)∧∀b∈B.drop 1,G.col b∈sg m:=by
 cases m with
 |row t hs nd=>
  obtain⟨_,_,B,hB,hc⟩:=h
  cases B with
  |nil=>exact⟨[],hB,by simp,by simp⟩
  |cons x Bs=>
   obtain⟨h1,_,h3,_⟩:=hc x Bs rfl
   refine⟨x::Bs,hB,fun b hb=> ?_,fun b hb=>h3 b (by simpa using hb)⟩
   rcases aco.1 hb with rfl|hb
   ·simp[M.aE,h1]
   ·simp[M.aE,h3 b hb]
 |sha hs=>obtain⟨⟨B,hB,hc⟩,_⟩:=h;exact⟨B,hB,hc,fun b hb=>hc b (adg hb)⟩
 |nst b E i o p fr=>obtain⟨⟨B,hB,hc⟩,_⟩:=h;exact⟨B,hB,fun x hx=>by simp[M.aE,hc x hx],fun x hx=>by simp[sg,hc x (adg hx)]⟩
 |dead=>exact absurd rfl hl
theorem Zi {m:M}:∀c∈sg m,c∈m.aE:=by
 cases m<;>simp_all[sg,M.aE]
structure aeB (G:Gh) (kl gv:List Nat) (tk:Nat) (mm:M) (Bx By:List Nat):Prop where
 hs:∃hs nd,mm= .row tk hs nd∧(∀b∈Bx.drop 1++By.drop 1,(if G.col b∈gv then tk else G.col b)∈hs)∧(nd=true→(Bx.drop 1++By.drop 1).Nodup)
 head:∀b Bs,Bx=b::Bs→G.col b∈kl∧G.col b∈gv∧b∉Bx.drop 1++By.drop 1
theorem acK {e:Ty} {l l2:List e.den} {vx vy:Value} {m m' mm:M} {tk:Nat} {kl gv:List Nat} (hx:bJ w G e l vx m) (hy:bJ w G e l2 vy m') (hy0:m'≠ .dead)
 (hgx:∀c∈m.aE,Good U G c) (hgy:∀c∈m'.aE,Good U G c) (h:aa2 tk e.flat m m'=some (kl,gv,mm)):
 (∀c∈kl,4≤c∧Good U G c)∧(∀c∈gv,4≤c∧Good U G c)∧(∀c∈mm.aE,Good U G c∨c=tk)∧
  ∃Bx By,dp w e.sz (aQ w e) l vx Bx∧dp w e.sz (aQ w e) l2 vy By∧aeB G kl gv tk mm Bx By:=by
 obtain⟨By,hBy,hcy,hcy2⟩:=hy.aeD hy0
 have flatB:∀ {l:List e.den} {v:Value} {B:List Nat},e.flat=true→dp w e.sz (aQ w e) l v B→B.drop 1=[]:=by
  intro l v B hf h
  obtain⟨cs,_,h2,_⟩:=h.cells
  exact aT.flat hf h2
 unfold aa2 at h
 split at h
 ·rename_i t hs nd
  obtain⟨ht3,hth,Bx,hBx,hcx⟩:=hx
  have htg:=hgx t (by simp[M.aE])
  split at h
  ·rename_i hf
   cases h
   have e1:=flatB hf hBx
   have e2:=flatB hf hBy
   refine⟨by simp[ht3,htg],by simp[ht3,htg],by simp[M.aE],Bx,By,hBx,hBy,⟨⟨[],true,rfl,by simp[e1,e2],by simp[e1,e2]⟩,fun b Bs hb=> ?_⟩⟩
   have:=(hcx b Bs hb).1
   exact⟨by simp[this],by simp[this],by simp[e1,e2]⟩
  ·split at h
   ·rename_i hsame
    cases m' with
    |row u hs' nd'=>
     simp only[M.same,decide_eq_true_eq]at hsame
     subst hsame
     cases h
     have hhx:=hth
     obtain⟨_,hhy,By2,hBy2,hcy3⟩:=hy
     have hvv:vx=vy:=hhx.symm.trans hhy
     subst hvv
     refine⟨by simp[ht3,htg],by simp[ht3,htg],fun c hc=> ?_,Bx,By2,hBx,hBy2,⟨⟨_,false,rfl,fun x hx=> ?_,by simp⟩,fun x Bs hx=> ?_⟩⟩
     ·simp only[M.aE,aco]at hc
      rcases hc with rfl|hc
      ·exact .inr rfl
      ·rcases UA hc with rfl|⟨hc,_⟩
       ·exact .inr rfl
       ·left
        rcases acf.1 hc with hc|hc
        ·exact hgx c (by simp[M.aE,hc])
        ·exact hgy c (by simp only[sg]at hc;simp[M.aE,hc])
     ·refine AQ (ts:=[u]) ?_
      rcases acf.1 hx with hx|hx
      ·cases Bx with
       |nil=>simp at hx
       |cons y Bs=>exact ade _ ((hcx y Bs rfl).2.2.1 x (by simpa using hx))
      ·cases By2 with
       |nil=>simp at hx
       |cons y Bs=>exact adP _ ((hcy3 y Bs rfl).2.2.1 x (by simpa using hx))
     ·obtain⟨k1,k2,k3,k4⟩:=hcx x Bs hx
      refine⟨by simp[k1],by simp[k1],fun hin=> ?_⟩
      rcases acf.1 hin with hin|hin
      ·rw[hx]at hin;exact k2 (by simpa using hin)
      ·cases By2 with
       |nil=>simp at hin
       |cons y Bs2=>
        have hxy:y=x:=by
         subst hx
         rcases hBx with⟨_,_,e0⟩|⟨b1,o1,c1,_,_,_,_,e1,_,_,_,e2,_⟩
         ·cases e0
         ·rcases hBy2 with⟨_,_,e0⟩|⟨b2,o2,c2,_,_,_,_,e3,_,_,_,e4,_⟩
          ·cases e0
          ·rw[e1]at e3
           simp only[Value.slice.injEq,aaF,Addr.mk.injEq]at e3
           cases e2;cases e4
           exact e3.1.1.symm
        subst hxy
        exact(hcy3 y Bs2 rfl).2.1 (by simpa using hin)
    |_=>simp[M.same]at hsame
   split at h
   ·cases h
   ·rename_i hnf hnc
    simp only[aeO,decide_eq_true_eq]at hnc
    have hyn:∀b Bs,Bx=b::Bs→b∉By:=by
     intro b Bs hb hin
     have h1:=hcy b hin
     rw[(hcx b Bs hb).1]at h1
     exact hnc h1
    split at h
    ·rename_i a b ha hb
     split at h
     ·rename_i hdis
      cases h
      obtain⟨hnd,h3,hma⟩:=M.jT ha
      have hda:∀c∈b,c∉a:=by
       simp only[ae1,aeZ,aeO,decide_eq_false_iff_not]at hdis
       exact hdis
      obtain⟨By',hBy',hny,hcy'⟩:=hy.own hb
      have hb3:∀c∈b,4≤c:=by
       intro c hc
       cases m' with
       |row t' hs' nd'=>
        obtain⟨_,g3,gm⟩:=M.jT hb
        rcases(gm c).1 hc with rfl|hc
        ·exact hy.1
        ·exact g3 c hc
       |sha hs'=>cases hs' with
        |nil=>simp only[M.own,aaF]at hb;subst hb;simp at hc
        |cons=>simp[M.own]at hb
       |nst b E i o p fr=>simp[M.own]at hb
       |dead=>exact absurd rfl hy0
      have ha3:∀c∈a,4≤c:=fun c hc=>by rcases(hma c).1 hc with rfl|hc;exact ht3;exact h3 c hc
      refine⟨by simp[ht3,htg],fun c hc=> ?_,by simp[M.aE],Bx,By',hBx,hBy',⟨⟨[tk],true,rfl,fun x hx=> ?_,fun _=> ?_⟩,fun x Bs hx=> ?_⟩⟩
      ·rcases acf.1 hc with hc|hc
       ·exact⟨ha3 c hc,hgx c (M.il ha c hc)⟩
       ·exact⟨hb3 c hc,hgy c (M.il hb c hc)⟩
      ·have:G.col x∈a++b:=by
        rcases acf.1 hx with hx|hx
        ·cases Bx with
         |nil=>simp at hx
         |cons y Bs=>
          refine ade _ ((hma _).2 (.inr ?_))
          exact(hcx y Bs rfl).2.2.1 x (by simpa using hx)
        ·exact adP _ (hcy' x (adg hx))
       simp only[if_pos this];simp
      ·refine ae7.2 ⟨?_,hny.sublist (afF ..),?_⟩
       ·cases Bx with
        |nil=>simp
        |cons y Bs=>exact(hcx y Bs rfl).2.2.2 hnd
       ·intro x hx y hy e
        subst e
        refine hda _ (hcy' x (adg hy)) ?_
        cases Bx with
        |nil=>simp at hx
        |cons z Bs=>exact(hma _).2 (.inr ((hcx z Bs rfl).2.2.1 x (by simpa using hx)))
      ·obtain⟨k1,k2,k3,k4⟩:=hcx x Bs hx
       refine⟨by simp[k1],?_,?_⟩
       ·rw[k1];exact ade _ ((hma t).2 (.inl rfl))
       ·intro hin
        rcases acf.1 hin with hin|hin
        ·rw[hx]at hin;exact k2 (by simpa using hin)
        ·have h1:=M.il hb _ (hcy' x (adg hin))
         rw[k1]at h1;exact hnc h1
     ·cases h
    ·cases h
     refine⟨by simp[ht3,htg],by simp[ht3,htg],fun c hc=> ?_,Bx,By,hBx,hBy,⟨⟨_,false,rfl,fun x hx=> ?_,by simp⟩,fun x Bs hx=> ?_⟩⟩
     ·simp only[M.aE,aco]at hc
      rcases hc with rfl|hc
      ·exact .inr rfl
      ·rcases UA hc with rfl|⟨hc,_⟩
       ·exact .inr rfl
       ·left
        rcases acf.1 hc with hc|hc
        ·exact hgx c (by simp[M.aE,hc])
        ·refine hgy c ?_
         cases m'<;>simp_all[sg,M.aE]
     ·refine AQ (ts:=[t]) ?_
      rcases acf.1 hx with hx|hx
      ·cases Bx with
       |nil=>simp at hx
       |cons y Bs=>exact ade _ ((hcx y Bs rfl).2.2.1 x (by simpa using hx))
      ·refine adP _ ?_
       exact hcy2 x hx
     ·obtain⟨k1,k2,k3,k4⟩:=hcx x Bs hx
      refine⟨by simp[k1],by simp[k1],fun hin=> ?_⟩
      rcases acf.1 hin with hin|hin
      ·rw[hx]at hin;exact k2 (by simpa using hin)
      ·exact hyn x Bs hx (adg hin)
 ·
  have hBx:∃Bx,dp w e.sz (aQ w e) l vx Bx∧Bx=[]:=by
   obtain⟨⟨B,hB,hc⟩,_⟩:=hx
   refine⟨B,hB,?_⟩
   cases B with
   |nil=>rfl
   |cons x l=>exact absurd (hc x (by simp)) (by simp)
  obtain⟨_,hBx,rfl⟩:=hBx
  split at h
  ·rename_i hf
   cases h
   have e2:=flatB hf hBy
   exact⟨by simp,by simp,by simp[M.aE],[],By,hBx,hBy,⟨⟨[],true,rfl,by simp[e2],by simp[e2]⟩,by simp⟩⟩
  ·split at h
   ·rename_i b hb
    cases h
    obtain⟨By',hBy',hny,hcy'⟩:=hy.own hb
    have hb3:∀c∈gv,4≤c:=by
     intro c hc
     cases m' with
     |row t' hs' nd'=>
      obtain⟨_,g3,gm⟩:=M.jT hb
      rcases(gm c).1 hc with rfl|hc
      ·exact hy.1
      ·exact g3 c hc
     |sha hs'=>cases hs' with
      |nil=>simp only[M.own,aaF]at hb;subst hb;simp at hc
      |cons=>simp[M.own]at hb
     |nst b E i o p fr=>simp[M.own]at hb
     |dead=>exact absurd rfl hy0
    refine⟨by simp,fun c hc=>⟨hb3 c hc,hgy c (M.il hb c hc)⟩,by simp[M.aE],[],By',hBx,hBy',⟨⟨[tk],true,rfl,fun x hx=> ?_,fun _=> ?_⟩,by simp⟩⟩
    ·have:=hcy' x (adg (i:=1) (by simpa only[List.drop_nil,aeR]using hx))
     simp[this]
    ·simpa only[List.drop_nil,aeR]using hny.sublist (afF 1 By')
   ·cases h
    refine⟨by simp,by simp,fun c hc=> ?_,[],By,hBx,hBy,⟨⟨_,false,rfl,fun x hx=> ?_,by simp⟩,by simp⟩⟩
    ·simp only[M.aE,aco]at hc
     rcases hc with rfl|hc
     ·exact .inr rfl
     ·exact .inl (hgy c (Zi c hc))
    ·simpa using hcy2 x (by simpa using hx)
 ·cases h
theorem dp.bounds {e:Ty} {l:List e.den} {v:Value} {B:List Nat} (h:dp w e.sz (aQ w e) l v B):∀b∈B,b<w.heap.size:=
 aQ.bounds (τ:= .sl e) ⟨v,rfl,h⟩
theorem aT.world {e:Ty} {w':World} {l:List e.den} {cs:List Value} {B:List Nat} (hB:∀b∈B,w'.heap[b]?=w.heap[b]?) (h:aT (aQ w e) l cs B):aT (aQ w' e) l cs B:=
 aT.mono (fun b=>w'.heap[b]?=w.heap[b]?) (fun _ _ _ hP hx=>aQ.mono hP hx) hB h
theorem W8 (hI:Inv w0 c0 U E a w G) {kl:List Nat} (hkl:∀c∈kl,4≤c∧Good U G c):∀s,∀c∈((E.kill kl).s.getD s .no).hc,c∉kl:=by
 intro s c hc hin
 rcases SV.F3 _ _ hc with hc|hc
 ·exact(Env.Ag E kl s c hc).2 hin
 ·have h1:=(hI.kill kl).bt s c hc
  rw[(hkl c hin).2.2.2]at h1
  exact absurd h1.2.2 (by simp)
theorem ac6 (hC:CxTy P C) (hI:Inv w0 c0 U E a w G) (hR:RI ops E a.tmps) (hg:Gd ops a.tmps g) {tk:Nat} (h3:4≤tk) (hU:¬U tk) {o:Oper} {c:Call}
 {cd:Bool} {kl gv:List Nat} {t:Nat} {v:SV} (ho:o.op= .call c) (hb:c.callee= .builtin .append) (h:bl C ops E.rd tk g o=some (.app cd kl gv t v)) (hcd:cd=true):
 t=tk∧Yields w0 c0 (fun u=>U u∨u=tk) ((E.kill kl).aS gv t) a ((execOp a.eval o).run P w) v:=by
 simp only[bl,ho,hb]at h
 unfold nW at h
 split at h
 ·contradiction
 ·contradiction
 ·contradiction
 ·rename_i x y t1 u1 _ ha hts
  have hargs:c.args= #[x,y]:=adM (by simpa using ha)
  have htys:c.argTypes= #[t1,u1]:=adM (by simpa using hts)
  split at h
  ·rename_i ti e l m e' l' m' hti hx hy
   split at h
   ·rename_i l2 hl2
    have hcast:=cV hl2
    simp only[TV.mk.injEq]at hcast
    obtain⟨he,hl,_⟩:=hcast
    cases he
    cases hl
    split at h
    ·rename_i kl' gv' mm hm
     split at h
     ·rename_i hcond
      simp only[adm,decide_eq_true_eq]at hcond
      obtain⟨hτ,rfl⟩:=hcond
      simp only[aaF,Ef.app.injEq]at h
      obtain⟨hcd',rfl,rfl,rfl,rfl⟩:=h
      refine⟨rfl,?_⟩
      rw[←hcd']at hcd
      have hlen:l.length+l2.length<4294967296:=of_decide_eq_true hcd
      have hT:=(hC.tt _ ti hti).2
      rw[hτ]at hT
      obtain⟨hu,hel⟩:=hT
      obtain⟨mx,hmx,hrx,hdx,hgx⟩:=jk hI hR hg hx
      cases hmx
      obtain⟨my,hmy,hry,hdy,hgy⟩:=jk hI hR hg hy
      cases hmy
      obtain⟨hkl,hgv,hmm,Bx,By,hBx,hBy,⟨⟨hs,nd,rfl,hhs,hnd⟩,hhead⟩⟩:=acK hrx hry hdy hgx hgy hm
      have hrun:∀ {v':Value} {w':World},((Builtin.append_ #[u1,u1] o.type #[a.eval x,a.eval y]).run P w= .ok v' w')→(execOp a.eval o).run P w= .ok (.value v') w':=by
       intro v' w' hr
       simp only[execOp,ho]
       simp[resolve,hb,invoke,builtin,hargs,htys,hr]
      obtain⟨xs,hcx,hlx,hbx⟩:=hBx.cells
      obtain⟨ys,hcy,hly,_⟩:=hBy.cells
      have hgood:∀(G1:Gh) (mv:Value),(∀c,U c→G.bx c=false→G1.bx c=false)→∀c∈(M.row tk hs nd).aE,Good (fun u=>U u∨u=tk) (G1.aS gv' tk mv) c:=by
       intro G1 mv h1 c hc
       rcases hmm c hc with⟨k1,k2,k4⟩|rfl
       ·refine⟨k1,.inl k2,?_⟩
        simp only[Gh.aS]
        split
        ·rfl
        ·exact h1 c k2 k4
       ·exact⟨by omega,.inr rfl,by simp[Gh.aS]⟩
      have hkl0:=hI.kill kl'
      have hfr:∀ad k cap,a.eval x= .slice (some ad) k cap→0<cap→∃b off,ad=⟨b,off,none⟩∧∃c el',w.heap[b]?=some (.cells c el' (0,0))∧off+cap*e.sz≤c.size:=by
       intro ad k cap hv hc0
       obtain⟨b,off,had,hB,_,c,el',fz,hh,hsz,_⟩:=hbx ad k cap hv hc0
       obtain⟨k1,k2,_⟩:=hhead b _ hB
       obtain⟨c',el2,hf⟩:=hI.fresh b (hkl _ k1).1
       rw[hf]at hh;cases hh
       exact⟨b,off,had,_,_,hf,hsz⟩
      have hdropx:∀z∈Bx.drop 1,z<w.heap.size:=fun z hz=>hBx.bounds z (adg hz)
      have hdropy:∀z∈By.drop 1,z<w.heap.size:=fun z hz=>hBy.bounds z (adg hz)
      rcases W7 (ty:=o.type) hu hel hcx hcy (aT.Ya hly) hlen hfr with⟨hm0,hr⟩|⟨b,off,cap,hv,hcap,hc0,hr⟩|⟨cap,rest,hcap,hsz,hr⟩
      ·
       have hl2:l2=[]:=List.length_eq_zero_iff.1 hm0
       subst hl2
       refine⟨_,_,_,hrun hr,hkl0.aS (v:=a.eval x) h3 hgv (fun h=>absurd h hU),⟨[a.eval x],rfl,_,rfl,h3,by simp[Gh.aS],Bx,?_,?_⟩,bf.d (hgood G _ (fun _ _ h=>h)),by rintro _ _ ⟨⟩⟩
       ·simpa using hBx
       ·intro b Bs hB
        obtain⟨k1,k2,k4⟩:=hhead b Bs hB
        subst hB
        simp only[List.drop_succ_cons,afv,acf,not_or]at k4
        refine⟨by simp[Gh.aS,k2],k4.1,fun z hz=> ?_,fun hn=> ?_⟩
        ·exact hhs z (ade _ (by simpa using hz))
        ·have:=(ae7.1 (hnd hn)).1
         simpa using this
      ·
       obtain⟨b0,off0,had,c,el',hh,hsz⟩:=hfr _ _ cap hv hc0
       cases had
       obtain⟨b1,off1,had,hB,_,c',el2,fz,hh',_,hxs⟩:=hbx _ _ cap hv hc0
       cases had
       rw[hh]at hh';cases hh'
       obtain⟨k1,k2,k4⟩:=hhead b _ hB
       simp only[acf,not_or]at k4
       have hyl:=hcy.1
       have hxl:=hcx.1
       have hmul:(l.length+l2.length)*e.sz≤cap*e.sz:=ada _ hcap
       rw[aci]at hmul
       have hrow:=fO b (el:=el') ys (off+l.length*e.sz) w c hh (by omega)
       have hI2:Inv w0 c0 U (E.kill kl') a (w.setCells b (off+l.length*e.sz) ys) G:=by
        refine hkl0.change (ts:=kl') (W8 hI hkl) (fun z _ hz=>⟨bC b _ _ w z (fun e=>hz (e▸k1)),rfl⟩) (fun _ _=>⟨rfl,rfl⟩) (fun _ h=>h) hI.colU
         (fun z hz=>by rw[dY];exact hI.lt z hz) (fun z hz=> ?_) (fun z hz hc=> ?_) (fun _ _=>rfl) (by rw[dY];exact aem _)
         (bV b _ _ w).1 (bV b _ _ w).2.1 (bV b _ _ w).2.2
        ·by_cases e1:z=b
         ·subst e1;exact⟨_,_,hrow⟩
         ·rw[bC b _ _ w z e1];exact hI.fresh z hz
        ·have hf:=hI.frame z hz hc
         refine⟨hf.1,?_⟩
         rw[bC b _ _ w z (fun e=> ?_)]
         ·exact hf.2
         ·subst e
          have:=(hkl _ k1).1
          omega
       refine⟨_,_,_,hrun hr,hI2.aS (v:= .slice (some ⟨b,off,none⟩) (l.length+l2.length) cap) h3 hgv (fun h=>absurd h hU),⟨[_],rfl,_,rfl,h3,by simp[Gh.aS],b::(Bx.drop 1++By.drop 1),?_,?_⟩,bf.d (hgood G _ (fun _ _ h=>h)),by rintro _ _ ⟨⟩⟩
       ·refine .inr ⟨b,off,cap,_,el',(0,0),Bx.drop 1++By.drop 1,by simp,by simpa using hcap,hrow,?_,rfl,?_⟩
        ·simp;omega
        ·have hcells:((c.toList.take (off+l.length*e.sz)++ys++c.toList.drop (off+l.length*e.sz+ys.length)).drop off).take ((l++l2).length*e.sz)=xs++ys:=by
          have htl:(c.toList.take (off+l.length*e.sz)).length=off+l.length*e.sz:=by simp;omega
          rw[ae6,aeX (by omega),aeU,hxs]
          rw[show off+l.length*e.sz-off=l.length*e.sz by omega]
          rw[←ae6]
          have hlen1:(afC (l.length*e.sz) (List.drop off c.toList)++ys).length=(l++l2).length*e.sz:=by
           rw[aeq,hyl,←hxs,hxl,aeq,aci]
          rw[←hlen1,afK]
         rw[hcells]
         refine aT.append (aT.world (fun z hz=>bC b _ _ w z (fun e=> ?_)) hlx) (aT.world (fun z hz=>bC b _ _ w z (fun e=> ?_)) hly)
         ·subst e;exact k4.1 hz
         ·subst e;exact k4.2 hz
       ·rintro b' Bs ⟨⟩
        refine⟨by simp[Gh.aS,k2],fun hin=>(acf.1 hin).elim k4.1 k4.2,fun z hz=>hhs z hz,fun hn=>hnd hn⟩
      ·
       have hI1:=(hkl0.drawn (w.drawn+1)).alloc h3 hU (xs++ys++rest).toArray ti.el (.slice (some ⟨w.heap.size,0,none⟩) (l.length+l2.length) cap) false
       have hI2:=hI1.aS (ts:=gv') (t:=tk) (v:= .slice (some ⟨w.heap.size,0,none⟩) (l.length+l2.length) cap) h3 (fun c hc=> ?_) (fun _=>⟨by simp[Gh.add],by simp[Gh.add]⟩)
       ·have hgv2:∀z,z<w.heap.size→(G.add w.heap.size tk (.slice (some ⟨w.heap.size,0,none⟩) (l.length+l2.length) cap) false).col z=G.col z:=fun z hz=>by
         simp[Gh.add,afo hz]
        refine⟨_,_,_,hrun hr,hI2.mono (fun c hc=>by rcases hc with hc|hc;exact hc;exact .inr hc),⟨[_],rfl,_,rfl,h3,by simp[Gh.aS],w.heap.size::(Bx.drop 1++By.drop 1),?_,?_⟩,
         bf.d (hgood _ _ (fun c hc h=>by
          have:c≠tk:=fun e=>hU (e▸hc)
          simp[Gh.add,this,h])),by rintro _ _ ⟨⟩⟩
        ·refine .inr ⟨w.heap.size,0,cap,_,ti.el,(0,0),Bx.drop 1++By.drop 1,by simp,by simpa using hcap,heap_alloc_new _ _,by simpa using hsz,rfl,?_⟩
         have hxl:=hcx.1
         have hyl:=hcy.1
         have hcells:(((xs++ys++rest).toArray.toList.drop 0).take ((l++l2).length*e.sz))=xs++ys:=by
          have hlen1:(xs++ys).length=(l++l2).length*e.sz:=by rw[aeq,hyl,hxl,aeq,aci]
          simp only[afv]
          rw[←hlen1,afK]
         rw[hcells]
         exact aT.append (aT.world (w:=w) (fun z hz=>heap_alloc_old w.drew _ z (hdropx z hz)) hlx) (aT.world (w:=w) (fun z hz=>heap_alloc_old w.drew _ z (hdropy z hz)) hly)
        ·rintro b' Bs ⟨⟩
         refine⟨?_,?_,fun z hz=> ?_,fun hn=>hnd hn⟩
         ·simp[Gh.aS,Gh.add]
         ·intro hin
          rcases acf.1 hin with hin|hin
          ·exact Nat.lt_irrefl _ (hdropx _ hin)
          ·exact Nat.lt_irrefl _ (hdropy _ hin)
         ·have hz':z<w.heap.size:=by
           rcases acf.1 hz with hz|hz
           ·exact hdropx _ hz
           ·exact hdropy _ hz
          have:=hhs z hz
          simp only[Gh.aS]
          have hd:(World.heap {w with drawn:=w.drawn+1}).size=w.heap.size:=rfl
          rw[hd,hgv2 z hz']
          exact this
       ·obtain⟨k1,k2,k4,k5⟩:=hgv c hc
        have:c≠tk:=fun e=>hU (e▸k4)
        exact⟨k1,k2,.inl k4,by simp[Gh.add,this,k5]⟩
     ·cases h
    ·cases h
   ·cases h
  ·cases h
 ·cases h
theorem Inv.ab0 (h:Inv w0 c0 U E a w G) (d:Nat) {sv:SV} (hs:bU w G sv (a.tmps.getD d undef)) (hm:bf U G sv)
 (hbox:∀t u,sv= .box t u→∀s u',s≠d→E.s.getD s .no≠ .box t u'):Inv w0 c0 U {E with s:=E.s.set d sv} a w G:=by
 have hget:∀s,({E with s:=E.s.set d sv}:Env).s.getD s .no=if s=d∧d<E.s.length then sv else E.s.getD s .no:=fun s=>dE E.s d s sv
 refine {h with len:=by simpa using h.len,slots:=fun s=> ?_,sc:=fun s c hc=> ?_,bt:=fun s c hc=> ?_,rt:=fun s c hc=> ?_,uni:=fun s s' t u u' h1 h2=> ?_}
 ·rw[hget]
  split
  ·rename_i e;rw[e.1];exact hs
  ·exact h.slots s
 ·rw[hget]at hc
  split at hc
  ·exact hm.1 c hc
  ·exact h.sc s c hc
 ·rw[hget]at hc
  split at hc
  ·exact hm.2.1 c hc
  ·exact h.bt s c hc
 ·rw[hget]at hc
  split at hc
  ·exact hm.2.2 c hc
  ·exact h.rt s c hc
 ·rw[hget]at h1 h2
  split at h1<;>split at h2
  ·omega
  ·rename_i e1 e2
   by_cases e:s'=d
   ·exact absurd ⟨e,e1.2⟩ e2
   ·exact absurd h2 (hbox t u h1 s' u' e)
  ·rename_i e1 e2
   by_cases e:s=d
   ·exact absurd ⟨e,e2.2⟩ e1
   ·exact absurd h1 (hbox t u' h2 s u e)
  ·exact h.uni s s' t u u' h1 h2
theorem Inv.drop (h:Inv w0 c0 U E a w G) (d:Nat):Inv w0 c0 U {E with s:=E.s.set d .no} a w G:=
 h.ab0 d (sv:= .no) trivial (by simp[bf,SV.sc,SV.bt,SV.rt]) (by rintro _ _ ⟨⟩)
theorem uj {t:TypeId} {τ:Ty} (h:gA P t τ) {x:Value} {b o:Nat} {c:Array Value} {el:TypeId} {cs:List Value}
 (hb:w.heap[b]?=some (.cells c el (0,0))) (hs:o+τ.sz≤c.size) (hl:cs.length=τ.sz) (h1:∀v∈cs,v.oneCell'=true) (hx:x= .pointer (some ⟨b,o,none⟩)):
 (Instr.storeAt t x (cw τ cs)).run P w= .ok () (w.setCells b o cs):=by
 subst hx
 simp only[Instr.storeAt,Instr.sureAddr]
 simpa using S9 h hb hs hl h1
theorem ad0 (hC:CxTy P C) (hI:Inv w0 c0 U E a w G) (hR:RI ops E a.tmps) (hg:Gd ops a.tmps g) {tk:Nat} {o:Oper} {t:TypeId} {x y:Operand}
 {b s:Nat} {v:TV} (ho:o.op= .store t x y) (h:bl C ops E.rd tk g o=some (.put b s v)):
 ∃w',(execOp a.eval o).run P w= .ok .skip w'∧Inv w0 c0 U {E with s:=E.s.set s (.box b v)} a w' G:=by
 simp only[bl,ho]at h
 split at h
 ·rename_i ti b1 off p τ1 v1 hti harg hv
  split at h
  ·rename_i s1 u hbox
   split at h
   ·rename_i hc
    simp only[adm,decide_eq_true_eq]at hc
    rw[ach]at h
    obtain⟨r,hr,h⟩:=h
    simp only[Ef.put.injEq]at h
    obtain⟨rfl,rfl,rfl⟩:=h
    obtain⟨h1,h2⟩:=eX hI hR hg harg
    obtain⟨bk,_,k2,k3⟩:=h1
    obtain⟨hslot,bk',c,el,g1,g3,g4,g5,g6,g7⟩:=hI.box hbox
    rw[g1]at k2
    simp only[Value.pointer.injEq,aaF,Addr.mk.injEq,and_true]at k2
    subst k2
    obtain⟨⟨cv,hcv,hvv⟩,hvg,hlive⟩:=jl hI hR hg hv
    obtain⟨q1,q2,q3⟩:=bg.put hr g6 hvv
    have hlen:=bg.len g6
    have hlv:=bg.len hvv
    simp only[aeV]at hlen
    rw[hc.1]at q1 q2
    have hT:=(hC.tt t ti hti).1
    have hrow:=fO bk' (el:=el) cv off w c g5 (by omega)
    have hrun:=uj (P:=P) (t:=t) (τ:=ti.τ) hT g5 (o:=off) (cs:=cv) (by rw[←hc.2];omega) (by rw[hlv,hc.2]) (bg.one hvv) k3
    have hbx:G.bx b1=true:=((hI.bt s1 b1 (by rw[hslot];simp[SV.bt])).2.2)
    refine⟨w.setCells bk' off cv,?_,?_⟩
    ·simp only[execOp,ho,hcv,hc.2]
     simp[hrun]
    ·have hne:∀k,G.col k≠b1→k≠bk':=fun k hk e=>hk (e▸g4)
     have hD:=hI.drop s1
     have hsc:∀s,({E with s:=E.s.set s1 .no}:Env).s.getD s .no=if s=s1∧s1<E.s.length then .no else E.s.getD s .no:=fun s=>dE E.s s1 s .no
     have hhc:∀s,∀c∈(({E with s:=E.s.set s1 .no}:Env).s.getD s .no).hc,c∉ [b1]:=by
      intro s c hcc hin
      simp only[aep]at hin
      subst hin
      have hl1:s1<E.s.length:=by
       rcases afe s1 E.s.length with h|h
       ·exact h
       ·rw[aeS,ae0 h]at hslot;cases hslot
      rw[hsc]at hcc
      split at hcc
      ·simp[SV.hc,SV.sc]at hcc
      ·rename_i hns
       have hs1:s≠s1:=fun e=>hns ⟨e,hl1⟩
       have hno:∀sv:SV,(∀u,sv≠ .box c u)→(∀d∈sv.sc,G.bx d=false)→c∉sv.hc:=by
        intro sv h1 h2 h3
        cases sv with
        |box t v=>
         rcases aco.1 h3 with rfl|h3
         ·exact h1 v rfl
         ·have:=h2 c h3;rw[hbx]at this;cases this
        |_=>
         have:=h2 c h3
         rw[hbx]at this;cases this
       exact hno _ (fun u' e=>hs1 (hI.uni s s1 c u' _ e hslot)) (fun d hd=>(hI.sc s d hd).2.2) hcc
     have hI2:Inv w0 c0 U {E with s:=E.s.set s1 .no} a (w.setCells bk' off cv) G:=by
      refine hD.change (ts:=[b1]) hhc (fun k _ hk=>⟨bC bk' _ _ w k (hne k (by simpa using hk)),rfl⟩) (fun _ _=>⟨rfl,rfl⟩) (fun _ h=>h) hI.colU
       (fun k hk=>by rw[dY];exact hI.lt k hk) (fun k hk=> ?_) (fun k hk hkc=> ?_) (fun _ _=>rfl) (by rw[dY];exact aem _)
       (bV _ _ _ w).1 (bV _ _ _ w).2.1 (bV _ _ _ w).2.2
      ·by_cases e:k=bk'
       ·subst e;exact⟨_,_,hrow⟩
       ·rw[bC bk' _ _ w k e];exact hI.fresh k hk
      ·have hf:=hI.frame k hk hkc
       refine⟨hf.1,?_⟩
       rw[bC bk' _ _ w k (fun e=> ?_)]
       ·exact hf.2
       ·subst e;omega
     have hl1:s1<E.s.length:=by
      rcases afe s1 E.s.length with h|h
      ·exact h
      ·rw[aeS,ae0 h]at hslot;cases hslot
     have hI3:=hI2.ab0 s1 (sv:= .box b1 ⟨u.τ,r.1,r.2⟩) ?_ ?_ ?_
     ·simpa using hI3
     ·refine⟨bk',_,el,?_,g3,?_,g4,hrow,?_⟩
      ·have:=hI.slots s1
       rw[hslot]at this
       obtain⟨bk2,c2,el2,e1,e2,e3,e4,e5,e6⟩:=this
       rw[e1]at e3
       rw[g1]at e3
       rw[e1];exact e3.symm
      ·have:=hI.slots s1
       rw[hslot]at this
       obtain⟨bk2,c2,el2,e1,e2,e3,e4,e5,e6⟩:=this
       rw[e3]
      ·have:cv.length=v1.τ.sz:=hlv
       rw[this]
       refine bg.agree ⟨fun k hk=>bC bk' _ _ w k (fun e=> ?_),fun _ _=>rfl,fun _ _=>rfl⟩ q1
       subst e
       rw[g4]at hk
       rcases q3 _ hk with hk|hk
       ·have:=(g7 _ hk).2.2;rw[hbx]at this;cases this
       ·have:=(hvg _ hk).2.2;rw[hbx]at this;cases this
     ·refine⟨fun d hd=> ?_,fun d hd=> ?_,by simp[SV.rt]⟩
      ·rcases q3 d hd with hd|hd
       ·exact g7 d hd
       ·exact hvg d hd
      ·simp only[SV.bt,aep]at hd
       subst hd
       exact hI.bt s1 d (by rw[hslot];simp[SV.bt])
     ·rintro t' u' ⟨rfl,rfl⟩ s' u2 hs' he
      rw[hsc]at he
      split at he
      ·cases he
      ·exact hs' (hI.uni s' s1 _ u2 _ he hslot)
   ·cases h
  ·cases h
 ·split at h
  ·obtain⟨_,h⟩:=Option.ite_none_right_eq_some.mp h
   obtain⟨_,h⟩:=Option.ite_none_left_eq_some.mp h
   obtain⟨r,_,h⟩:=ach.mp h
   cases h
  ·cases h
 ·cases h
end
end Vg
