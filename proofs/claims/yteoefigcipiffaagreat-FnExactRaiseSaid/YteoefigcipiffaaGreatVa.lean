/- VG, joined: an evaluator of the code over typed values, and its soundness, for any program. -/
import Derived.Calls
import Derived.Below
import Derived.Laws.Append
import Derived.Laws.AppendOwn
import Derived.Laws.Cells
import Derived.Laws.Entries
import Derived.Laws.MakeOwn
import Derived.Laws.IdiomCopy
import Derived.Laws.Slices
import Derived.Great.BuildSlice
import Derived.Laws.Strings
import Derived.Laws.BytesString
import Derived.Laws.BytesArg
import Derived.ArgAppend
set_option linter.unusedSimpArgs false
set_option linter.unusedVariables false
namespace Vg
open Go
inductive Ty where
 |int (k:IntKind)
 |bool
 |str
 |sl (e:Ty)
 |pair (a b:Ty)
 deriving DecidableEq,Inhabited
@[reducible] def Ty.den:Ty→Type
  | .int _=>Int
  | .bool=>Bool
  | .str=>ByteArray
  | .sl e=>List e.den
  | .pair a b=>a.den×b.den
def Ty.sz:Ty→Nat
 | .pair a b=>a.sz+b.sz
 |_=>1
def Ty.aa:(τ:Ty)→τ.den
 | .int _=>(0:Int)
 | .bool=>false
 | .str=>ByteArray.empty
 | .sl _=>[]
 | .pair a b=>(a.aa,b.aa)
def Ty.zero:Ty→List Value
 | .int k=>[.int k 0]
 | .bool=>[.bool false]
 | .str=>[.string .empty]
 | .sl _=>[.slice none 0 0]
 | .pair a b=>a.zero++b.zero
def Ty.bJ:Ty→Bool
 | .pair _ _=>true
 |_=>false
def bT:Ty→List Value→Value
 | .pair _ _,cs=> .agg cs.toArray
 |_,cs=>cs.headD undef
theorem Ty.kG:∀τ:Ty,0<τ.sz
 | .int _| .bool| .str| .sl _=>Nat.one_pos
 | .pair a b=>by have:=a.kG;simp only[Ty.sz];omega
theorem Ty.fw:∀τ:Ty,τ.zero.length=τ.sz
 | .int _| .bool| .str| .sl _=>rfl
 | .pair a b=>by simp[Ty.zero,Ty.sz,a.fw,b.fw]
def bg {α:Type} (R:α→List Value→List Nat→Prop):List α→List Value→List Nat→Prop
 | [],cs,B=>cs=[]∧B=[]
 |x::l,cs,B=>∃c1 c2 B1 B2,cs=c1++c2∧B=B1++B2∧R x c1 B1∧bg R l c2 B2
def dI {α:Type} (w:World) (sz:Nat) (R:α→List Value→List Nat→Prop) (l:List α) (v:Value) (B:List Nat):Prop:=
 ((∃ao,v= .slice ao 0 0)∧l=[]∧B=[])∨
 ∃(b off cap:Nat) (c:Array Value) (el:TypeId) (fz:Nat×Nat) (Bs:List Nat),
  v= .slice (some ⟨b,off,none⟩) l.length cap∧l.length≤cap∧w.heap[b]?=some (.cells c el fz)∧off+cap*sz≤c.size∧
  B=b::Bs∧bg R l ((c.toList.drop off).take (l.length*sz)) Bs
def aR (w:World):(τ:Ty)→τ.den→List Value→List Nat→Prop
 | .int k,n,cs,B=>cs=[.int k n]∧B=[]
 | .bool,b,cs,B=>cs=[.bool b]∧B=[]
 | .str,s,cs,B=>cs=[.string s]∧B=[]
 | .pair a b,p,cs,B=>∃c1 c2 B1 B2,cs=c1++c2∧B=B1++B2∧aR w a p.1 c1 B1∧aR w b p.2 c2 B2
 | .sl e,l,cs,B=>∃v,cs=[v]∧dI w e.sz (aR w e) l v B
theorem bg.len {α:Type} {R:α→List Value→List Nat→Prop} {sz:Nat} (hR:∀x c B,R x c B→c.length=sz):
 ∀ {l:List α} {cs:List Value} {B:List Nat},bg R l cs B→cs.length=l.length*sz
 | [],_,_,h=>by simp[h.1]
 |x::l,cs,B,h=>by
  obtain⟨c1,c2,B1,B2,rfl,rfl,h1,h2⟩:=h
  simp[hR _ _ _ h1,bg.len hR h2,Nat.add_mul,Nat.add_comm]
theorem aR.len {w:World}:∀ {τ:Ty} {x:τ.den} {cs:List Value} {B:List Nat},aR w τ x cs B→cs.length=τ.sz
 | .int _,_,_,_,h=>by rw[h.1];rfl
 | .bool,_,_,_,h=>by rw[h.1];rfl
 | .str,_,_,_,h=>by rw[h.1];rfl
 | .pair a b,p,cs,B,h=>by
   obtain⟨c1,c2,B1,B2,rfl,rfl,h1,h2⟩:=h
   simp[aR.len h1,aR.len h2,Ty.sz]
 | .sl e,l,cs,B,h=>by obtain⟨v,rfl,_⟩:=h;rfl
theorem bg.mono {α:Type} {R R':α→List Value→List Nat→Prop} (P:Nat→Prop) (hR:∀x c B,(∀b∈B,P b)→R x c B→R' x c B):
 ∀ {l:List α} {cs:List Value} {B:List Nat},(∀b∈B,P b)→bg R l cs B→bg R' l cs B
 | [],_,_,_,h=>h
 |x::l,cs,B,hP,h=>by
  obtain⟨c1,c2,B1,B2,rfl,rfl,h1,h2⟩:=h
  exact⟨c1,c2,B1,B2,rfl,rfl,hR _ _ _ (fun b hb=>hP b (by simp[hb])) h1,bg.mono P hR (fun b hb=>hP b (by simp[hb])) h2⟩
theorem aR.mono {w w':World}:∀ {τ:Ty} {x:τ.den} {cs:List Value} {B:List Nat},(∀b∈B,w'.heap[b]?=w.heap[b]?)→aR w τ x cs B→aR w' τ x cs B
 | .int _,_,_,_,_,h=>h
 | .bool,_,_,_,_,h=>h
 | .str,_,_,_,_,h=>h
 | .pair a b,p,cs,B,hB,h=>by
   obtain⟨c1,c2,B1,B2,rfl,rfl,h1,h2⟩:=h
   exact⟨c1,c2,B1,B2,rfl,rfl,aR.mono (fun b hb=>hB b (by simp[hb])) h1,aR.mono (fun b hb=>hB b (by simp[hb])) h2⟩
 | .sl e,l,cs,B,hB,h=>by
   obtain⟨v,rfl,h⟩:=h
   refine⟨v,rfl,?_⟩
   rcases h with h|⟨b,off,cap,c,el,fz,Bs,hv,hcap,hb,hsz,rfl,hl⟩
   ·exact .inl h
   ·refine .inr ⟨b,off,cap,c,el,fz,Bs,hv,hcap,(hB b (by simp)).trans hb,hsz,rfl,?_⟩
    exact bg.mono (fun b=>w'.heap[b]?=w.heap[b]?) (fun x c B hP hx=>aR.mono hP hx) (fun b' hb'=>hB b' (by simp[hb'])) hl
theorem bg.bounds {α:Type} {R:α→List Value→List Nat→Prop} (P:Nat→Prop) (hR:∀x c B,R x c B→∀b∈B,P b):
 ∀ {l:List α} {cs:List Value} {B:List Nat},bg R l cs B→∀b∈B,P b
 | [],_,_,h,b,hb=>by rw[h.2]at hb;cases hb
 |x::l,cs,B,h,b,hb=>by
  obtain⟨c1,c2,B1,B2,rfl,rfl,h1,h2⟩:=h
  rcases List.mem_append.1 hb with hb|hb
  ·exact hR _ _ _ h1 b hb
  ·exact bg.bounds P hR h2 b hb
theorem lt_of_block {w:World} {b:Nat} {o:Obj} (h:w.heap[b]?=some o):b<w.heap.size:=by
 rcases Nat.lt_or_ge b w.heap.size with h'|h'
 ·exact h'
 ·simp[Array.getElem?_eq_none h']at h
theorem aR.bounds {w:World}:∀ {τ:Ty} {x:τ.den} {cs:List Value} {B:List Nat},aR w τ x cs B→∀b∈B,b<w.heap.size
 | .int _,_,_,_,h,b,hb=>by rw[h.2]at hb;cases hb
 | .bool,_,_,_,h,b,hb=>by rw[h.2]at hb;cases hb
 | .str,_,_,_,h,b,hb=>by rw[h.2]at hb;cases hb
 | .pair a b,p,cs,B,h,b',hb=>by
   obtain⟨c1,c2,B1,B2,rfl,rfl,h1,h2⟩:=h
   rcases List.mem_append.1 hb with hb|hb
   ·exact aR.bounds h1 b' hb
   ·exact aR.bounds h2 b' hb
 | .sl e,l,cs,B,h,b',hb=>by
   obtain⟨v,rfl,h⟩:=h
   rcases h with h|⟨b,off,cap,c,el,fz,Bs,hv,hcap,hbk,hsz,rfl,hl⟩
   ·rw[h.2.2]at hb;cases hb
   ·rcases List.mem_cons.1 hb with rfl|hb
    ·exact lt_of_block hbk
    ·exact bg.bounds _ (fun x c B hx=>aR.bounds hx) hl b' hb
theorem aR.zero (w:World):∀τ:Ty,aR w τ τ.aa τ.zero []
 | .int _=>⟨rfl,rfl⟩
 | .bool=>⟨rfl,rfl⟩
 | .str=>⟨rfl,rfl⟩
 | .sl _=>⟨_,rfl,.inl ⟨⟨none,rfl⟩,rfl,rfl⟩⟩
 | .pair a b=>⟨_,_,[],[],rfl,rfl,aR.zero w a,aR.zero w b⟩
theorem bg.append {α:Type} {R:α→List Value→List Nat→Prop}:∀ {l1 l2:List α} {c1 c2:List Value} {B1 B2:List Nat},
 bg R l1 c1 B1→bg R l2 c2 B2→bg R (l1++l2) (c1++c2) (B1++B2)
 | [],_,_,_,_,_,h1,h2=>by rw[h1.1,h1.2];exact h2
 |x::l,l2,c1,c2,B1,B2,h1,h2=>by
  obtain⟨a,b,A,B,rfl,rfl,hx,hl⟩:=h1
  exact⟨a,b++c2,A,B++B2,by simp,by simp,hx,bg.append hl h2⟩
theorem bg.split {α:Type} {R:α→List Value→List Nat→Prop} {sz:Nat} (hR:∀x c B,R x c B→c.length=sz):
 ∀ {l1 l2:List α} {cs:List Value} {B:List Nat},bg R (l1++l2) cs B→
   ∃B1 B2,B=B1++B2∧bg R l1 (cs.take (l1.length*sz)) B1∧bg R l2 (cs.drop (l1.length*sz)) B2
 | [],l2,cs,B,h=>⟨[],B,rfl,⟨by simp,rfl⟩,by simpa using h⟩
 |x::l,l2,cs,B,h=>by
  obtain⟨c1,c2,A1,A2,rfl,rfl,hx,hl⟩:=h
  obtain⟨B1,B2,rfl,h1,h2⟩:=bg.split hR hl
  have hc:=hR _ _ _ hx
  refine⟨A1++B1,B2,by simp,⟨c1,_,A1,B1,?_,rfl,hx,h1⟩,?_⟩
  ·rw[List.take_append,List.take_of_length_le (by simp[Nat.add_mul];omega)]
   congr 2
   simp[Nat.add_mul];omega
  ·have e:(x::l).length*sz=c1.length+l.length*sz:=by simp[Nat.add_mul];omega
   rw[e,List.drop_append,List.drop_of_length_le (by omega)]
   simpa using h2
theorem bg.one {α:Type} {R:α→List Value→List Nat→Prop} {x:α} {cs:List Value} {B:List Nat} (h:R x cs B):bg R [x] cs B:=
 ⟨cs,[],B,[],by simp,by simp,h,rfl,rfl⟩
theorem bg.get {α:Type} {R:α→List Value→List Nat→Prop} {sz:Nat} (hR:∀x c B,R x c B→c.length=sz)
 {l:List α} {cs:List Value} {B:List Nat} (h:bg R l cs B) {i:Nat} {x:α} (hx:l[i]?=some x):
 ∃B1 Bx B2,B=B1++Bx++B2∧R x ((cs.drop (i*sz)).take sz) Bx∧
  bg R (l.take i) (cs.take (i*sz)) B1∧bg R (l.drop (i+1)) (cs.drop ((i+1)*sz)) B2:=by
 obtain⟨hi,hxi⟩:=List.getElem?_eq_some_iff.1 hx
 have e:l=l.take i++(x::l.drop (i+1)):=by rw[←hxi,←List.drop_eq_getElem_cons hi,List.take_append_drop]
 rw[e]at h
 obtain⟨B1,B2,rfl,h1,h2⟩:=bg.split hR h
 have hl:(l.take i).length=i:=by simp;omega
 rw[hl]at h1 h2
 obtain⟨c1,c2,A1,A2,hc,rfl,hx1,hl2⟩:=h2
 have hc1:=hR _ _ _ hx1
 refine⟨B1,A1,A2,by simp,?_,h1,?_⟩
 ·rw[hc,List.take_append,List.take_of_length_le (by omega)]
  simpa[hc1]using hx1
 ·have:cs.drop ((i+1)*sz)=c2:=by
   rw[Nat.add_mul,Nat.one_mul,←List.drop_drop,hc,←hc1,List.drop_left]
  rw[this];exact hl2
theorem bg.set {α:Type} {R:α→List Value→List Nat→Prop} {sz:Nat}
 {l:List α} {i:Nat} {y:α} {cs cy:List Value} {B1 By B2:List Nat} (hi:i<l.length) (hy:R y cy By)
 (h1:bg R (l.take i) (cs.take (i*sz)) B1) (h2:bg R (l.drop (i+1)) (cs.drop ((i+1)*sz)) B2):
 bg R (l.set i y) (cs.take (i*sz)++cy++cs.drop ((i+1)*sz)) (B1++By++B2):=by
 have e:l.set i y=l.take i++([y]++l.drop (i+1)):=by
  rw[List.set_eq_take_append_cons_drop,if_pos hi];rfl
 rw[e,List.append_assoc,List.append_assoc]
 exact bg.append h1 (bg.append (bg.one hy) h2)
theorem bg.replicate {α:Type} {R:α→List Value→List Nat→Prop} {x:α} {cs:List Value} (h:R x cs []):
 ∀n:Nat,bg R (List.replicate n x) (List.replicate n cs).flatten []
 |0=>⟨rfl,rfl⟩
 |n+1=>by
  rw[List.replicate_succ,List.replicate_succ,List.flatten_cons]
  exact⟨cs,_,[],[],rfl,rfl,h,bg.replicate h n⟩
theorem aR.one {w:World}:∀ {τ:Ty} {x:τ.den} {cs:List Value} {B:List Nat},aR w τ x cs B→∀v∈cs,v.oneCell'=true
 | .int _,_,_,_,h,v,hv=>by rw[h.1]at hv;simp at hv;subst hv;rfl
 | .bool,_,_,_,h,v,hv=>by rw[h.1]at hv;simp at hv;subst hv;rfl
 | .str,_,_,_,h,v,hv=>by rw[h.1]at hv;simp at hv;subst hv;rfl
 | .pair a b,p,cs,B,h,v,hv=>by
   obtain⟨c1,c2,B1,B2,rfl,rfl,h1,h2⟩:=h
   rcases List.mem_append.1 hv with hv|hv
   ·exact aR.one h1 v hv
   ·exact aR.one h2 v hv
 | .sl e,l,cs,B,h,v,hv=>by
   obtain⟨u,rfl,h⟩:=h
   simp at hv;subst hv
   rcases h with h|⟨b,off,cap,c,el,fz,Bs,rfl,_⟩
   ·obtain⟨ao,e⟩:=h.1;rw[e];rfl
   ·rfl
end Vg
namespace Vg
open Go
inductive M where
 |row (t:Nat) (hs:List Nat) (nd:Bool)
 |sha (hs:List Nat)
 |dead
 deriving DecidableEq,Inhabited
inductive Sh where
 |leaf
 |sl (m:M)
 |pair (a b:Sh)
 deriving DecidableEq,Inhabited
structure TV where
 τ:Ty
 x:τ.den
 sh:Sh
inductive SV where
 |no
 |d (v:TV)
 |box (t:Nat) (v:TV)
 |ptr (t:Nat) (o:Nat) (path:List Bool) (τ:Ty)
 |ept (t:Nat) (e:Ty) (i:Int) (o:Nat) (path:List Bool) (τ:Ty)
 |rdp (hs:List Nat) (v:TV)
 |tup (l:List TV)
 |g (j:Nat) (want:Bool) (act:Bool) (v:SV)
structure Env where
 s:List SV
 nt:Nat
 kp:Bool:=false
def aT:List Ty→Type
 | []=>Unit
 |τ::l=>τ.den×aT l
def aT.aa:(l:List Ty)→aT l
 | []=>()
 |τ::l=>(τ.aa,aT.aa l)
structure TI where
 τ:Ty
 fs:List TypeId
 el:TypeId
def dv:Nat→Nat→List Bool
 |0,_=>[]
 |1,_=>[]
 |_+2,0=>[false]
 |n+2,j+1=>true::dv (n+1) j
def Ty.sub:Ty→List Bool→Option Ty
 |τ,[]=>some τ
 | .pair a _,false::p=>a.sub p
 | .pair _ b,true::p=>b.sub p
 |_,_::_=>none
def Ty.off:Ty→List Bool→Nat
 |_,[]=>0
 | .pair a _,false::p=>a.off p
 | .pair a b,true::p=>a.sz+b.off p
 |_,_::_=>0
def fI:(τ:Ty)→τ.den→Sh→List Bool→Option TV
 |τ,x,sh,[]=>some ⟨τ,x,sh⟩
 | .pair a _,x,.pair s1 _,false::p=>fI a x.1 s1 p
 | .pair _ b,x,.pair _ s2,true::p=>fI b x.2 s2 p
 |_,_,_,_::_=>none
def ed (v:TV) (τ:Ty):Option τ.den:=if h:v.τ=τ then some (cast (congrArg Ty.den h) v.x)else none
def dU:(τ:Ty)→τ.den→Sh→List Bool→TV→Option (τ.den×Sh)
 |τ,_,_,[],v=>match ed v τ with|some y=>some (y,v.sh)|none=>none
 | .pair a _,x,.pair s1 s2,false::p,v=>match dU a x.1 s1 p v with|some (y,s)=>some ((y,x.2),.pair s s2)|none=>none
 | .pair _ b,x,.pair s1 s2,true::p,v=>match dU b x.2 s2 p v with|some (y,s)=>some ((x.1,y),.pair s1 s)|none=>none
 |_,_,_,_::_,_=>none
def fB:Ty→M→Sh
 | .pair a b,m=> .pair (fB a m) (fB b m)
 | .sl _,m=> .sl m
 |_,_=> .leaf
def Ty.flat:Ty→Bool
 | .pair a b=>a.flat&&b.flat
 | .sl _=>false
 |_=>true
def decode:(τ:Ty)→List Value→Option (τ.den×List Value)
 | .int k,.int k' n::r=>if k'=k then some (n,r)else none
 | .bool,.bool b::r=>some (b,r)
 | .str,.string s::r=>some (s,r)
 | .sl _,.slice none 0 0::r=>some ([],r)
 | .pair a b,cs=>match decode a cs with
   |some (x,r)=>(match decode b r with|some (y,r')=>some ((x,y),r')|none=>none)
   |none=>none
 |_,_=>none
def Ny (τ:Ty) (v:Value):Option TV:=
 match τ,v with
 | .pair a b,.agg cs=>(match decode (.pair a b) cs.toList with|some (x,[])=>some ⟨.pair a b,x,fB (.pair a b) (.sha [])⟩|_=>none)
 | .pair _ _,_=>none
 |τ,v=>(match decode τ [v]with|some (x,[])=>some ⟨τ,x,fB τ (.sha [])⟩|_=>none)
inductive Pt where
 |leaf|own|shr
 |pair (a b:Pt)
 deriving DecidableEq,Inhabited
def jo:Ty→Pt
 | .sl _=> .shr
 | .pair a b=> .pair (jo a) (jo b)
 |_=> .leaf
def Pt.oD:Pt→Bool
 | .shr=>true
 | .pair a b=>a.oD||b.oD
 |_=>false
inductive PK where
 |val (τ:Ty) (p:Pt)
 |io (τ:Ty) (p:Pt)
 |rd (τ:Ty)
 |vx (e:Ty) (l:List Nat)
inductive RK where
 |val (τ:Ty) (p:Pt)
 |nbox (τ:Ty) (p:Pt)
def PK.ty:PK→Ty
 | .val τ _| .io τ _| .rd τ=>τ
 | .vx e _=> .sl e
def RK.ty:RK→Ty
 | .val τ _| .nbox τ _=>τ
def bh:List PK→List Ty
 | []=>[]
 | .val _ _::l=>bh l
 | .io τ _::l=>τ::bh l
 | .rd _::l| .vx _ _::l=>bh l
structure aF where
 ps:List PK
 rs:List RK
 F:aT (ps.map PK.ty)→Option (aT (rs.map RK.ty++bh ps))
 kp:List (Nat×List Bool)
inductive AK where
 |val (τ:Ty) (sh:Sh)
 |box (t:Nat) (τ:Ty) (sh:Sh)
 |ptr (t:Nat) (o:Nat) (path:List Bool) (τ:Ty)
 |ept (t:Nat) (e:Ty) (o:Nat) (path:List Bool) (τ:Ty)
def AK.FZ:AK→List Ty
 | .val τ _=>[τ]
 | .box _ τ _=>[τ]
 | .ptr _ _ _ _=>[]
 | .ept _ _ _ _ _=>[.int .i64]
structure aL where
 ks:List (Nat×AK)
 nt:Nat
structure Cx where
 tt:TypeId→Option TI
 ct:FuncId→Option aF
 la:Nat→Option aL
 ja:Nat→Option aL
 k:Nat
 n:Nat
 io:List Nat
/-tokens-/
def M.aD:M→List Nat
 | .row t hs _=>t::hs
 | .sha hs=>hs
 | .dead=>[]
def Sh.aD:Sh→List Nat
 | .leaf=>[]
 | .sl m=>m.aD
 | .pair a b=>a.aD++b.aD
def Sh.live:Sh→Bool
 | .leaf=>true
 | .sl .dead=>false
 | .sl _=>true
 | .pair a b=>a.live&&b.live
def Sh.map (f:M→M):Sh→Sh
 | .leaf=> .leaf
 | .sl m=> .sl (f m)
 | .pair a b=> .pair (a.map f) (b.map f)
def M.own:M→Option (List Nat)
 | .row t hs nd=>if nd&&hs.all (3≤·)then some (t::hs.filter (·≠t))else none
 | .sha []=>some []
 |_=>none
def Sh.own:Sh→Option (List Nat)
 | .leaf=>some []
 | .sl m=>m.own
 | .pair a b=>match a.own,b.own with
   |some x,some y=>if x.all (!y.contains ·)then some (x++y)else none
   |_,_=>none
def meets (a b:List Nat):Bool:=a.any b.contains
def M.kill (ts:List Nat) (m:M):M:=if meets m.aD ts then .dead else m
def SV.mapM (f:M→M) (fe:Nat→Bool) (fr:List Nat→Option (List Nat)):SV→SV
 | .d v=> .d {v with sh:=v.sh.map f}
 | .box t v=> .box t {v with sh:=v.sh.map f}
 | .ept t e i o p τ=>if fe t then .ept t e i o p τ else .no
 | .rdp hs v=>(match fr hs with|some hs'=> .rdp hs' {v with sh:=v.sh.map f}|none=> .no)
 | .tup l=> .tup (l.map fun v=>{v with sh:=v.sh.map f})
 | .g j w a v=> .g j w a (v.mapM f fe fr)
 |v=>v
def SV.kill (ts:List Nat) (v:SV):SV:=v.mapM (M.kill ts) (!ts.contains ·) (fun hs=>if meets hs ts then none else some hs)
def Env.kill (E:Env) (ts:List Nat):Env:=if ts.isEmpty then E else {E with s:=E.s.map (SV.kill ts)}
def SV.bQ (ts:List Nat) (rp:List (Nat×Nat)):SV→SV
 | .ept b e i o p τ=>match rp.lookup b with|some b'=> .ept b' e i o p τ|none=>if ts.isEmpty then .ept b e i o p τ else SV.kill ts (.ept b e i o p τ)
 |v=>if ts.isEmpty then v else SV.kill ts v
def Env.bQ (E:Env) (ts:List Nat) (rp:List (Nat×Nat)):Env:=if rp.isEmpty then E.kill ts else {E with s:=E.s.map (SV.bQ ts rp)}
def tj (ts:List Nat) (t:Nat) (hs:List Nat):List Nat:=(hs.map fun h=>if ts.contains h then t else h).eraseDups
def M.GR (ts:List Nat) (t:Nat):M→M
 | .row u hs nd=>if ts.contains u then .sha (tj ts t (u::hs))else .row u (tj ts t hs) nd
 | .sha hs=> .sha (tj ts t hs)
 | .dead=> .dead
def M.aS (ts:List Nat) (t:Nat) (m:M):M:=if meets m.aD ts then m.GR ts t else m
def SV.aS (ts:List Nat) (t:Nat) (v:SV):SV:=v.mapM (M.aS ts t) (!ts.contains ·) (fun hs=>some (if meets hs ts then tj ts t hs else hs))
def Env.aS (E:Env) (ts:List Nat) (t:Nat):Env:=if ts.isEmpty then E else {E with s:=E.s.map (SV.aS ts t)}
def Env.get (E:Env) (s:Nat):SV:=E.s.getD s .no
def Env.set (E:Env) (dst:Option Nat) (v:SV):Env:=match dst with|some d=>{E with s:=E.s.set d v}|none=>E
def cF:List SV→Nat→Nat→Option (Nat×TV)
 | [],_,_=>none
 | .box t v::l,u,i=>if t=u then some (i,v)else cF l u (i+1)
 |_::l,u,i=>cF l u (i+1)
def mL (t:Nat) (e:Ty):(τ:Ty)→τ.den→Sh→Option (List e.den×List Nat×Bool)
 | .sl e',l,.sl (.row u hs nd)=>if u=t then(if h:e'=e then some (cast (congrArg (fun τ=>List (Ty.den τ)) h) l,hs,nd)else none)else none
 | .pair a b,x,.pair s1 s2=>match mL t e a x.1 s1 with|some r=>some r|none=>mL t e b x.2 s2
 |_,_,_=>none
def dx (t:Nat) (e:Ty):List SV→Option (List e.den×List Nat×Bool)
 | []=>none
 | .d v::l| .box _ v::l=>match mL t e v.τ v.x v.sh with|some r=>some r|none=>dx t e l
 |_::l=>dx t e l
def fa (t:Nat) (e:Ty) (y:List e.den) (m:M):(τ:Ty)→τ.den→Sh→τ.den×Sh
 | .sl e',l,.sl (.row u hs nd)=>if u=t then(if h:e'=e then(cast (congrArg (fun τ=>List (Ty.den τ)) h.symm) y,.sl m)else(l,.sl .dead))else(l,.sl (.row u hs nd))
 | .pair a b,x,.pair s1 s2=>((fa t e y m a x.1 s1).1,fa t e y m b x.2 s2 |>.1) |> fun z=>(z,.pair (fa t e y m a x.1 s1).2 (fa t e y m b x.2 s2).2)
 |_,x,sh=>(x,sh)
def TV.setRow (t:Nat) (e:Ty) (y:List e.den) (m:M) (v:TV):TV:=⟨v.τ,(fa t e y m v.τ v.x v.sh).1,(fa t e y m v.τ v.x v.sh).2⟩
def SV.setRow (t:Nat) (e:Ty) (y:List e.den) (m:M):SV→SV
 | .d v=> .d (v.setRow t e y m)
 | .box b v=> .box b (v.setRow t e y m)
 | .tup l=> .tup (l.map (TV.setRow t e y m))
 | .g j w a v=> .g j w a (v.setRow t e y m)
 | .rdp hs v=>if(hs++v.sh.aD).contains t then .no else .rdp hs v
 |v=>v
def M.bO (t:Nat):M→M
 | .row u hs nd=>if u=t then .row u hs nd else if hs.contains t then .dead else .row u hs nd
 | .sha hs=>if hs.contains t then .dead else .sha hs
 | .dead=> .dead
def SV.bO (t:Nat) (v:SV):SV:=v.mapM (M.bO t) (fun _=>true) (fun hs=>if hs.contains t then none else some hs)
structure Rd where
 get:Nat→SV
 box:Nat→Option (Nat×TV)
 row:Nat→(e:Ty)→Option (List e.den×List Nat×Bool)
def cu:SV→SV
 | .box t v=> .ptr t 0 [] v.τ
 | .g j w a v=> .g j w a (cu v)
 |v=>v
def Env.rd (E:Env):Rd:=⟨fun s=>cu (E.get s),fun t=>cF E.s t 0,fun t e=>dx t e E.s⟩
/-operands-/
def eY (C:Cx) (R:Rd) (t:TypeId):Operand→Option SV
 | .tmp s=>some (R.get s)
 | .const v=>match C.tt t with|some i=>(Ny i.τ v).map .d|none=>none
 |_=>none
def Cv (G:Option (Nat×Bool)):SV→Option SV
 | .g j w _ v=>if G=some (j,w)then some v else none
 |v=>some v
def arg (C:Cx) (R:Rd) (G:Option (Nat×Bool)) (t:TypeId) (x:Operand):Option SV:=(eY C R t x).bind (Cv G)
def cJ (C:Cx) (R:Rd) (G:Option (Nat×Bool)) (t:TypeId) (x:Operand):Option TV:=
 match arg C R G t x with|some (.d v)=>if v.sh.live then some v else none|_=>none
inductive Ef:Type 1 where
 |val (v:SV)
 |chk (c:Bool) (v:SV)
 |opt (α:Type) (z:α) (o:Option α) (f:α→SV)
 |put (b:Nat) (s:Nat) (v:TV)
 |app (c:Bool) (kl gv:List Nat) (t:Nat) (v:SV)
 |elem (gv:List Nat) (b:Nat) (e:Ty) (l:List e.den) (m:M)
 |call (α:Type) (o:Option α) (tks:List Nat) (f:α→SV×List (Nat×Nat×TV)) (rp:α→List (Nat×Nat))
def vI (k:IntKind) (n:Int):SV:= .d ⟨.int k,n,.leaf⟩
def vB (b:Bool):SV:= .d ⟨.bool,b,.leaf⟩
def vS (s:ByteArray):SV:= .d ⟨.str,s,.leaf⟩
def bt (s:ByteArray) (i:Int):Int:=((s.data.toList.getD i.toNat 0).toNat:Int)
def eqv:(τ:Ty)→τ.den→τ.den→Bool
 | .int _,a,b=>a==b
 | .bool,a,b=>a==b
 | .str,a,b=>a.toList==b.toList
 | .pair a b,x,y=>eqv a x.1 y.1&&eqv b x.2 y.2
 | .sl _,_,_=>false
def bits (f:∀n,BitVec n→BitVec n→BitVec n) (k:IntKind) (a b:Int):Int:=k.wrap (f k.bits (BitVec.ofInt k.bits a) (BitVec.ofInt k.bits b)).toNat
def SH (op:BinOp) (k:IntKind) (a b:Int):Option Ef:=
 match op with
 | .add=>some (.val (vI k (k.wrap (a+b))))
 | .sub=>some (.val (vI k (k.wrap (a-b))))
 | .mul=>some (.val (vI k (k.wrap (a*b))))
 | .quo=>some (.chk (decide (b≠0)) (vI k (k.wrap (a.tdiv b))))
 | .rem=>some (.chk (decide (b≠0)) (vI k (a.tmod b)))
 | .and=>some (.val (vI k (bits (fun _=>(· &&& ·)) k a b)))
 | .or=>some (.val (vI k (bits (fun _=>(· ||| ·)) k a b)))
 | .xor=>some (.val (vI k (bits (fun _=>(·^^^·)) k a b)))
 | .shr=>some (.chk (decide (0≤b)) (vI k (a.fdiv (2^(min b.toNat k.bits)))))
 | .shl=>some (.chk (decide (0≤b)) (vI k (k.wrap (a*2^(min b.toNat k.bits)))))
 | .eql=>some (.val (vB (a==b)))
 | .neq=>some (.val (vB (a != b)))
 | .lss=>some (.val (vB (decide (a<b))))
 | .leq=>some (.val (vB (decide (a≤b))))
 | .gtr=>some (.val (vB (decide (a>b))))
 | .geq=>some (.val (vB (decide (a≥b))))
 |_=>none
def Sy (op:BinOp) (a b:ByteArray):Option Ef:=
 match op with
 | .add=>some (.chk (decide (a.size+b.size<4294967296)) (vS (a++b)))
 | .eql=>some (.val (vB (a.toList==b.toList)))
 | .neq=>some (.val (vB (!(a.toList==b.toList))))
 | .lss=>some (.val (vB (Op.bytesLess a.toList b.toList)))
 | .leq=>some (.val (vB (Op.bytesLess a.toList b.toList||a.toList==b.toList)))
 | .gtr=>some (.val (vB (!(Op.bytesLess a.toList b.toList||a.toList==b.toList))))
 | .geq=>some (.val (vB (!Op.bytesLess a.toList b.toList)))
 |_=>none
def Te (op:BinOp) (x y:TV):Option Ef:=
 match x,y with
 |⟨.int k,a,_⟩,⟨.int k',b,_⟩=>if k=k'||op= .shl||op= .shr then SH op k a b else none
 |⟨.str,a,_⟩,⟨.str,b,_⟩=>Sy op a b
 |⟨.bool,a,_⟩,⟨.bool,b,_⟩=>(match op with| .eql=>some (.val (vB (a==b)))| .neq=>some (.val (vB (!(a==b))))|_=>none)
 |⟨.pair a b,x,_⟩,⟨τ,y,s⟩=>match ed ⟨τ,y,s⟩ (.pair a b)with
  |some y=>if(Ty.pair a b).flat then(match op with| .eql=>some (.val (vB (eqv (.pair a b) x y)))| .neq=>some (.val (vB (!eqv (.pair a b) x y)))|_=>none)else none
  |none=>none
 |_,_=>none
def xk:M→List Nat
 | .row _ hs _=>hs
 | .sha hs=>hs
 | .dead=>[]
def nN (C:Cx) (R:Rd) (G:Option (Nat×Bool)) (i:TI):List (Nat×Operand)→i.τ.den→Sh→Option (i.τ.den×Sh)
 | [],x,sh=>some (x,sh)
 |(j,o)::l,x,sh=>match i.fs[j]? with
  |none=>none
  |some ft=>match cJ C R G ft o with
   |none=>none
   |some v=>match dU i.τ x sh (dv i.fs.length j) v with
    |some (y,s)=>nN C R G i l y s
    |none=>none
def qB (C:Cx) (R:Rd) (G:Option (Nat×Bool)) (el:TypeId) (e:Ty):Nat→List (Nat×Operand)→Option (List e.den×List Sh)
 |_,[]=>some ([],[])
 |n,(j,o)::l=>if j=n then(match cJ C R G el o with
  |none=>none
  |some v=>match ed v e,qB C R G el e (n+1) l with
   |some x,some (xs,ss)=>some (x::xs,v.sh::ss)
   |_,_=>none)else none
def sA:List Sh→Option (List Nat)
 | []=>some []
 |s::l=>match s.own,sA l with
  |some x,some y=>if x.all (!y.contains ·)then some (x++y)else none
  |_,_=>none
def Un (tk:Nat) (ss:List Sh):M:=
 match sA ss with
 |some ts=> .row tk ts true
 |none=> .row tk (ss.flatMap Sh.aD).eraseDups false
def Sd (tk:Nat) (flat:Bool) (s y:M):Option (List Nat×List Nat×M):=
 match s with
 | .row t hs nd=>
   if flat then some ([t],[t],.row tk [] true)else
   if y.aD.contains t then none else
   (match(M.row t hs nd).own,y.own with
   |some a,some b=>if b.all (!a.contains ·)then some ([t],a++b,.row tk [tk] true)else none
   |_,_=>some ([t],[t],.row tk (tj [t] tk (hs++xk y)) false))
 | .sha []=>
   if flat then some ([],[],.row tk [] true)else
   (match y.own with
   |some b=>some ([],b,.row tk [tk] true)
   |none=>some ([],[],.row tk (xk y) false))
 |_=>none
def kY (C:Cx) (R:Rd) (tk:Nat) (G:Option (Nat×Bool)) (b:Builtin) (args:List Operand) (ts:List TypeId):Option Ef:=
 match b,args,ts with
 | .len,[x],[t]=>(match C.tt t with
   |none=>none
   |some ti=>match cJ C R G t x with
    |some ⟨.sl e,l,_⟩=>if ti.τ= .sl e then some (.val (vI .i64 (l.length:Int)))else none
    |some ⟨.str,s,_⟩=>if ti.τ= .str then some (.val (vI .i64 (s.size:Int)))else none
    |_=>none)
 | .min,[x,y],[t,u]=>(match cJ C R G t x,cJ C R G u y with
   |some ⟨.int k,a,_⟩,some ⟨.int k',b,_⟩=>if k=k' then some (.val (vI k (if b<a then b else a)))else none
   |_,_=>none)
 | .max,[x,y],[t,u]=>(match cJ C R G t x,cJ C R G u y with
   |some ⟨.int k,a,_⟩,some ⟨.int k',b,_⟩=>if k=k' then some (.val (vI k (if b>a then b else a)))else none
   |_,_=>none)
 | .append,[x,y],[t,u]=>(match C.tt t,cJ C R G t x,cJ C R G u y with
   |some ti,some ⟨.sl e,l,.sl m⟩,some ⟨.sl e',l',.sl m'⟩=>
    (match ed ⟨.sl e',l',.leaf⟩ (.sl e)with
    |some l2=>(match Sd tk e.flat m m' with
     |some (kl,gv,mm)=>if ti.τ= .sl e&&u=t then some (.app (decide (l.length+l2.length<4294967296)) kl gv tk (.d ⟨.sl e,l++l2,.sl mm⟩))else none
     |none=>none)
    |none=>none)
   |_,_,_=>none)
 |_,_,_=>none
/-calls-/
def gM:Pt→Sh→Bool
 | .leaf,.leaf=>true
 | .own,.sl m=>m.own.isSome
 | .shr,.sl m=>m≠ .dead
 | .pair a b,.pair x y=>gM a x&&gM b y
 |_,_=>false
def aP:Pt→Nat→List Nat→Sh×Nat
 | .leaf,tk,_=>(.leaf,tk)
 | .own,tk,_=>(.sl (.row tk [tk] true),tk+1)
 | .shr,tk,hs=>(.sl (.sha hs),tk)
 | .pair a b,tk,hs=>let x:=aP a tk hs;let y:=aP b x.2 hs;(.pair x.1 y.1,y.2)
def eF (sm:Nat→Nat):Pt→Sh→Nat→List (Nat×Nat)
 | .own,.sl m,tk=>(m.own.getD []).map fun c=>(c,tk)
 | .shr,.sl m,_=>m.aD.map fun c=>(c,sm c)
 | .pair a b,.pair x y,tk=>eF sm a x tk++eF sm b y (aP a tk []).2
 |_,_,_=>[]
def AV (r:List (Nat×Nat)):Bool:=r.all fun p=>r.lookup p.1==some p.2
def lz (R:Rd):SV→Option (Nat×Nat×TV)
 | .ptr t 0 [] _=>(R.box t).map fun r=>(t,r.1,r.2)
 |_=>none
def KC (r0:List (Nat×Nat)) (l:List Nat) (c:Nat):Nat:=match r0.lookup c with|some k=>if l.contains k then k else 1|none=>1
def bn (R:Rd):(ps:List PK)→List SV→Nat→List (Nat×Nat)→Option (aT (ps.map PK.ty)×List (Nat×Nat)×List (Nat×Nat))
 | [],[],_,_=>some ((),[],[])
 | .val τ p::ps,.d v::as,tk,r0=>match ed v τ,bn R ps as (aP p tk []).2 (r0++eF (fun _=>1) p v.sh tk)with
   |some x,some (xs,rho,bs)=>if gM p v.sh then some ((x,xs),eF (fun _=>1) p v.sh tk++rho,bs)else none
   |_,_=>none
 | .io τ p::ps,a::as,tk,r0=>match lz R a with
   |some (t,s,v)=>(match ed v τ,bn R ps as (aP p (tk+1) []).2 (r0++(t,tk)::eF (fun _=>1) p v.sh (tk+1))with
    |some x,some (xs,rho,bs)=>if gM p v.sh then some ((x,xs),(t,tk)::eF (fun _=>1) p v.sh (tk+1)++rho,(t,s)::bs)else none
    |_,_=>none)
   |none=>none
 | .rd τ::ps,a::as,tk,r0=>match lz R a with
   |some (t,_,v)=>(match ed v τ,bn R ps as tk r0 with
    |some x,some (xs,rho,bs)=>if gM (jo τ) v.sh then some ((x,xs),(t,1)::eF (fun _=>1) (jo τ) v.sh tk++rho,bs)else none
    |_,_=>none)
   |none=>none
 | .vx e l::ps,.d v::as,tk,r0=>match ed v (.sl e),bn R ps as tk r0 with
   |some x,some (xs,rho,bs)=>if gM .shr v.sh then some ((x,xs),eF (KC r0 l) .shr v.sh tk++rho,bs)else none
   |_,_=>none
 |_,_,_,_=>none
def aV:(rs:List RK)→(rest:List Ty)→aT (rs.map RK.ty++rest)→Nat→List Nat→List SV×aT rest×Nat
 | [],_,r,tk,_=>([],r,tk)
 | .val τ p::rs,rest,r,tk,hs=>let s:=aP p tk hs;let z:=aV rs rest r.2 s.2 hs;(.d ⟨τ,r.1,s.1⟩::z.1,z.2)
 | .nbox τ p::rs,rest,r,tk,hs=>let s:=aP p (tk+1) hs;let z:=aV rs rest r.2 s.2 hs;(.box tk ⟨τ,r.1,s.1⟩::z.1,z.2)
def cm (hs:List Nat):(ps:List PK)→aT (bh ps)→List (Nat×Nat)→Nat→List (Nat×Nat×TV)
 | [],_,_,_=>[]
 | .val _ _::ps,r,bs,tk=>cm hs ps r bs tk
 | .io τ p::ps,r,(t,s)::bs,tk=>let z:=aP p tk hs;(t,s,⟨τ,r.1,z.1⟩)::cm hs ps r.2 bs z.2
 | .io _ _::_,_,[],_=>[]
 | .rd _::ps,r,bs,tk| .vx _ _::ps,r,bs,tk=>cm hs ps r bs tk
def cN:List RK→Nat→Nat
 | [],tk=>tk
 | .val _ p::rs,tk=>cN rs (aP p tk []).2
 | .nbox _ p::rs,tk=>cN rs (aP p (tk+1) []).2
def nD:List PK→Nat→Nat
 | [],tk=>tk
 | .val _ _::ps,tk=>nD ps tk
 | .io _ p::ps,tk=>nD ps (aP p tk []).2
 | .rd _::ps,tk| .vx _ _::ps,tk=>nD ps tk
def aH (p:Pt) (tk:Nat):Nat:=(aP p tk []).2
/-the tokens with which a function begins-/
def bw:List PK→Nat→Nat
 | [],tk=>tk
 | .val _ p::ps,tk=>bw ps (aH p tk)
 | .io _ p::ps,tk=>bw ps (aH p (tk+1))
 | .rd _::ps,tk| .vx _ _::ps,tk=>bw ps tk
def bR:List PK→Nat→List Nat
 | [],_=>[]
 | .val _ p::ps,tk=>bR ps (aH p tk)
 | .io _ p::ps,tk=>tk::bR ps (aH p (tk+1))
 | .rd _::ps,tk| .vx _ _::ps,tk=>bR ps tk
def GB:List PK→List Nat
 | []=>[]
 | .vx _ l::ps=>l++GB ps
 | .val _ _::ps| .io _ _::ps| .rd _::ps=>GB ps
def Fx:List PK→Bool
 | []=>false
 | .rd _::_=>true
 | .val _ _::ps| .io _ _::ps| .vx _ _::ps=>Fx ps
def RK.pt:RK→Pt
 | .val _ p| .nbox _ p=>p
def xn:List PK→Bool
 | []=>false
 | .io _ p::ps=>p.oD||xn ps
 | .val _ _::ps| .rd _::ps| .vx _ _::ps=>xn ps
def Mo (ps:List PK) (rs:List RK):Bool:=
 (GB ps).all (fun c=>3≤c&&c<bw ps 3&& !(bR ps 3).contains c)&&(!Fx ps|| !(rs.any (fun r=>r.pt.oD)||xn ps))
def gW:Sh→List Bool→Option Nat
 | .sl (.row t _ _),[]=>some t
 | .pair a _,false::p=>gW a p
 | .pair _ b,true::p=>gW b p
 |_,_=>none
def uT (R:Rd) (bs:List (Nat×Nat)) (IO:List (Nat×Nat×TV)) (kp:List (Nat×List Bool)):List (Nat×Nat):=
 kp.filterMap fun q=>match bs[q.1]?,IO[q.1]? with
  |some b,some z=>(match R.box b.1 with
   |some r=>(match gW r.2.sh q.2,gW z.2.2.sh q.2 with
    |some u,some u'=>some (u,u')
    |_,_=>none)
   |none=>none)
  |_,_=>none
def nk:List SV→Option (List TV)
 | []=>some []
 | .d v::l=>(nk l).map (v::·)
 |_=>none
def jC:List SV→SV
 | [v]=>v
 |l=>match nk l with|some vs=> .tup vs|none=> .no
def kA (C:Cx) (R:Rd) (G:Option (Nat×Bool)):List Operand→List TypeId→Option (List SV)
 | [],[]=>some []
 |x::xs,t::ts=>match arg C R G t x,kA C R G xs ts with|some v,some vs=>some (v::vs)|_,_=>none
 |_,_=>none
def AN (C:Cx) (R:Rd) (tk:Nat) (G:Option (Nat×Bool)) (f:FuncId) (args:List Operand) (ts:List TypeId):Option Ef:=
 match C.ct f with
 |none=>none
 |some c=>match kA C R G args ts with
  |none=>none
  |some as=>match bn R c.ps as 3 []with
   |none=>none
   |some (xs,rho,bs)=>
    if AV rho&&nD c.ps (cN c.rs 0)≤32&&Mo c.ps c.rs then
     let hs:=(2::(rho.filter (·.2=1)).map (·.1)).eraseDups
     let tks:=((rho.filter (3≤·.2)).map (·.1)).filter fun c=> !bs.any (·.1=c)
     if bs.isEmpty&&tks.isEmpty then
      some (.opt _ (aT.aa _) (c.F xs) (fun r=>jC (aV c.rs (bh c.ps) r tk hs).1))
     else
      some (.call _ (c.F xs) tks (fun r=>
       let z:=aV c.rs (bh c.ps) r tk hs
       (jC z.1,cm hs c.ps z.2.1 bs z.2.2))
       (fun r=>
        let z:=aV c.rs (bh c.ps) r tk hs
        uT R bs (cm hs c.ps z.2.1 bs z.2.2) c.kp))
    else none
def vj (ops:List Oper) (c:Operand) (want:Bool):SV→Option SV
 | .g j w _ v=>(match c with| .tmp s=>if w=want&&(ops[j]?).bind (·.dst)=some s then some v else none|_=>none)
 |v=>some v
def bm (C:Cx) (ops:List Oper) (R:Rd) (tk:Nat) (G:Option (Nat×Bool)) (o:Oper):Option Ef:=
 match o.op with
 | .move x| .assign x=>(arg C R G o.type x).map .val
 | .pick c a b=>(match arg C R G 0 c,eY C R o.type a,eY C R o.type b with
   |some (.d ⟨.bool,t,_⟩),some a,some b=>
    (match vj ops c true a,vj ops c false b with
    |some (.d ⟨.bool,p,_⟩),some (.d ⟨.bool,q,_⟩)=>some (.val (vB (if t=true then p else q)))
    |_,_=>none)
   |_,_,_=>none)
 | .alloc t=>(C.tt t).map fun i=> .val (.box tk ⟨i.τ,i.τ.aa,fB i.τ (.sha [])⟩)
 | .box t x=>(match C.tt t,cJ C R G t x with
   |some i,some v=>if v.τ=i.τ then some (.val (.box tk v))else none
   |_,_=>none)
 | .build t ps=>(match C.tt t with
   |some i=>if i.fs.isEmpty then none else(nN C R G i ps.toList i.τ.aa (fB i.τ (.sha []))).map fun r=> .val (.d ⟨i.τ,r.1,r.2⟩)
   |none=>none)
 | .buildSlice t n ps=>(match C.tt t with
   |some ⟨.sl e,_,el⟩=>if ps.size=n&&n*e.sz≤16777216 then(qB C R G el e 0 ps.toList).map fun r=> .val (.d ⟨.sl e,r.1,.sl (Un tk r.2)⟩)else none
   |_=>none)
 | .load t a=>(match C.tt t with
   |none=>none
   |some ti=>match arg C R G 0 a with
    |some (.ptr b o p _)=>(match R.box b with
     |some (_,v)=>(match fI v.τ v.x v.sh p with
      |some r=>if v.τ.off p=o&&r.τ=ti.τ then some (.val (.d r))else none
      |none=>none)
     |none=>none)
    |some (.ept b e i o p _)=>(match R.row b e with
     |some (l,hs,_)=>if e.off p=o&&e.sub p=some ti.τ then(fI e (l.getD i.toNat e.aa) (fB e (.sha (2::hs))) p).map fun r=> .val (.d r)else none
     |none=>none)
    |some (.rdp _ v)=>if v.τ=ti.τ then some (.val (.d v))else none
    |_=>none)
 | .store t a x=>(match C.tt t,arg C R G 0 a,cJ C R G t x with
   |some ti,some (.ptr b o p _),some v=>(match R.box b with
    |some (s,u)=>if u.τ.off p=o&&v.τ=ti.τ then(dU u.τ u.x u.sh p v).map fun r=> .put b s ⟨u.τ,r.1,r.2⟩else none
    |none=>none)
   |some ti,some (.ept b e i o p τ),some v=>(match R.row b e with
    |some (l,hs,nd)=>
     if e.off p=o&&e.sub p=some τ&&v.τ=τ&&v.τ=ti.τ then
      let own:Option (List Nat):=if τ.flat then none else match(M.row b hs nd).own,v.sh.own with
       |some a,some c=>if c.all (!a.contains ·)then some ((a++c).filter (·≠b))else none
       |_,_=>none
      let gv:=own.getD []
      let m:M:=if own.isSome then .row b [b] true else if τ.flat then .row b hs nd else .row b (hs++v.sh.aD).eraseDups false
      if own.isNone&&v.sh.aD.contains b then none else
      (dU e (l.getD i.toNat e.aa) (fB e (.sha [])) p v).map fun r=> .elem gv b e (l.set i.toNat r.1) m
     else none
    |none=>none)
   |_,_,_=>none)
 | .nilCheck x=>(match arg C R G 0 x with
   |some (.ptr t o p τ)=>some (.val (.ptr t o p τ))
   |some (.ept t e i o p τ)=>some (.val (.ept t e i o p τ))
   |some (.rdp hs v)=>some (.val (.rdp hs v))
   |_=>none)
 | .binOp op t x y u=>(match C.tt t,cJ C R G t x,cJ C R G u y with|some i,some a,some b=>if a.τ=i.τ then Te op a b else none|_,_,_=>none)
 | .unOp op t x=>(match op,cJ C R G t x with
   | .not,some ⟨.bool,b,_⟩=>some (.val (vB !b))
   | .neg,some ⟨.int k,n,_⟩=>some (.val (vI k (k.wrap (0-n))))
   |_,_=>none)
 | .convert s d x=>(match C.tt s with
   |some si=>(match C.tt d,cJ C R G s x with
    |some ⟨.int k,_,_⟩,some ⟨.int _,n,_⟩=>some (.val (vI k (k.wrap n)))
    |some ⟨.str,_,_⟩,some ⟨.str,v,_⟩=>some (.val (vS v))
    |some ⟨.str,_,_⟩,some ⟨.sl (.int .u8),l,_⟩=>if si.τ= .sl (.int .u8)then some (.val (vS ⟨(l.map fun n=>UInt8.ofNat n.toNat).toArray⟩))else none
    |_,_=>none)
   |none=>none)
 | .makeSlice t n c=>(match C.tt t,cJ C R G 3 n,cJ C R G 3 c with
   |some ⟨.sl e,_,_⟩,some ⟨.int .i64,a,_⟩,some ⟨.int .i64,b,_⟩=>some (.chk (decide (0≤a∧a<4294967296∧b=a)) (.d ⟨.sl e,List.replicate a.toNat e.aa,.sl (.row tk [tk] true)⟩))
   |_,_,_=>none)
 | .slice t x lo hi mx=>(match C.tt t with
   |none=>none
   |some ti=>match cJ C R G t x,lo.map (cJ C R G 3),hi.map (cJ C R G 3),mx with
    |some ⟨.sl e,l,.sl m⟩,none,none,none=>if ti.τ= .sl e then some (.val (.d ⟨.sl e,l,.sl (.sha m.aD)⟩))else none
    |some ⟨.sl e,l,.sl m⟩,some (some ⟨.int .i64,a,_⟩),none,none=>if ti.τ= .sl e then some (.chk (decide (0≤a∧a≤l.length)) (.d ⟨.sl e,l.drop a.toNat,.sl (.sha m.aD)⟩))else none
    |some ⟨.sl e,l,.sl m⟩,none,some (some ⟨.int .i64,b,_⟩),none=>if ti.τ= .sl e then some (.chk (decide (0≤b∧b≤l.length)) (.d ⟨.sl e,l.take b.toNat,.sl (.sha m.aD)⟩))else none
    |some ⟨.sl e,l,.sl m⟩,some (some ⟨.int .i64,a,_⟩),some (some ⟨.int .i64,b,_⟩),none=>if ti.τ= .sl e then some (.chk (decide (0≤a∧a≤b∧b≤l.length)) (.d ⟨.sl e,(l.take b.toNat).drop a.toNat,.sl (.sha m.aD)⟩))else none
    |some ⟨.str,s,_⟩,some (some ⟨.int .i64,a,_⟩),none,none=>if ti.τ= .str then some (.chk (decide (0≤a∧a≤s.size)) (vS (s.extract a.toNat s.size)))else none
    |some ⟨.str,s,_⟩,none,some (some ⟨.int .i64,b,_⟩),none=>if ti.τ= .str then some (.chk (decide (0≤b∧b≤s.size)) (vS (s.extract 0 b.toNat)))else none
    |some ⟨.str,s,_⟩,some (some ⟨.int .i64,a,_⟩),some (some ⟨.int .i64,b,_⟩),none=>if ti.τ= .str then some (.chk (decide (0≤a∧a≤b∧b≤s.size)) (vS (s.extract a.toNat b.toNat)))else none
    |_,_,_,_=>none)
 | .fieldAddr s x j=>(match C.tt s with
   |none=>none
   |some i=>if j<i.fs.length then
    (match i.τ.sub (dv i.fs.length j),arg C R G 0 x with
    |some σ,some (.ptr t o p τ)=>if τ=i.τ then some (.val (.ptr t (o+i.τ.off (dv i.fs.length j)) (p++dv i.fs.length j) σ))else none
    |some σ,some (.ept t e n o p τ)=>if τ=i.τ then some (.val (.ept t e n (o+i.τ.off (dv i.fs.length j)) (p++dv i.fs.length j) σ))else none
    |some _,some (.rdp hs v)=>if v.τ=i.τ then(fI v.τ v.x v.sh (dv i.fs.length j)).map fun r=> .val (.rdp hs r)else none
    |_,_=>none)else none)
 | .field s x j=>(match C.tt s,cJ C R G s x with
   |some i,some v=>if v.τ=i.τ&&j<i.fs.length then(fI v.τ v.x v.sh (dv i.fs.length j)).map fun r=> .val (.d r)else none
   |_,_=>none)
 | .indexAddr t x n=>(match C.tt t,cJ C R G t x,cJ C R G 3 n with
   |some ti,some ⟨.sl e,l,.sl (.row u _ _)⟩,some ⟨.int _,i,_⟩=>if ti.τ= .sl e then some (.chk (decide (0≤i∧i<l.length)) (.ept u e i 0 [] e))else none
   |some ti,some ⟨.sl e,l,.sl (.sha hs)⟩,some ⟨.int _,i,_⟩=>if ti.τ= .sl e then some (.chk (decide (0≤i∧i<l.length)) (.rdp hs ⟨e,l.getD i.toNat e.aa,fB e (.sha (2::hs))⟩))else none
   |_,_,_=>none)
 | .index t x n=>(match C.tt t,cJ C R G t x,cJ C R G 3 n with
   |some ti,some ⟨.str,s,_⟩,some ⟨.int _,i,_⟩=>if ti.τ= .str then some (.chk (decide (0≤i∧i<s.size)) (vI .u8 (bt s i)))else none
   |_,_,_=>none)
 | .extract x j=>(match arg C R G 0 x with
   |some (.tup l)=>(l[j]?).map fun v=> .val (.d v)
   |_=>none)
 | .call c=>(match c.callee with
   | .builtin b=>kY C R tk G b c.args.toList c.argTypes.toList
   | .value (.func f)=>AN C R tk G f c.args.toList c.argTypes.toList
   |_=>none)
 |_=>none
def guardOf (ops:List Oper) (R:Rd):Option (Nat×Bool)→Option (Option Bool)
 |none=>some none
 |some (j,w)=>match(ops[j]?).bind (·.dst)with
  |none=>none
  |some s=>match R.get s with
   | .d ⟨.bool,b,_⟩=>some (some (b==w))
   | .g _ _ a (.d ⟨.bool,b,_⟩)=>some (some (a&&(b==w)))
   |_=>none
def SV.dQ:SV→Bool
 | .box _ _=>true
 |_=>false
def SV.je:SV→SV
 | .g _ _ _ _=> .no
 |v=>v
def cY (G:Option (Nat×Bool)) (a:Option Bool) (v:SV):SV:=
 match G,a with|some (j,w),some b=>if v.dQ then .no else .g j w b v|_,_=>v.je
def bq:List (Nat×Nat×TV)→List SV→List SV
 | [],E=>E
 |(t,s,v)::l,E=>bq l (E.set s (.box t v))
def Env.elem (E:Env) (gv:List Nat) (b:Nat) (e:Ty) (l:List e.den) (m:M):Env:=
 {E with s:=E.s.map fun s=>((s.aS gv b).bO b).setRow b e l m}
section
variable {ρ:Type}
def aZ (o:Oper) (a:Option Bool) (E:Env) (k:Env→Option ρ):Ef→Option ρ
 | .val v=>k (E.set o.dst (cY o.guard a v))
 | .chk c v=>if(match a with|none=>c|some b=> !b||c)=true then k (E.set o.dst (cY o.guard a v))else none
 | .opt _ z x f=>(match a with|none=>x|some b=>if b=true then x else some z).bind fun r=>k (E.set o.dst (cY o.guard a (f r)))
 | .put b s v=>if a.isNone&&o.dst.isNone then k {E with s:=E.s.set s (.box b v)}else none
 | .app c kl gv t v=>if a.isNone then(if c=true then k (((E.kill kl).aS gv t).set o.dst v.je)else none)else none
 | .elem gv b e l m=>if a.isNone&&o.dst.isNone then k (E.elem gv b e l m)else none
 | .call _ x tks f rp=>if a.isNone then x.bind fun r=>let E1:=E.bQ tks (rp r);k (Env.set {E1 with s:=bq (f r).2 E1.s} o.dst (f r).1.je)else none
def ur (C:Cx) (ops:List Oper) (nt:Nat):List Oper→Nat→Env→(Env→Option ρ)→Option ρ
 | [],_,E,k=>k E
 |o::l,i,E,k=>match guardOf ops E.rd o.guard with
  |none=>none
  |some a=>match bm C ops E.rd (nt+32*i) o.guard o with
   |none=>none
   |some ef=>aZ o a E (fun E'=>ur C ops nt l (i+1) E' k) ef
end
def ee (ops:List Oper):Bool:=
 ops.zipIdx.all fun p=>match p.1.guard with
  |none=>true
  |some (j,_)=>j<p.2&&match(ops[j]?).bind (·.dst)with
   |none=>false
   |some d=>ops.zipIdx.all fun q=>q.2=j||q.1.dst≠some d
def keeps (io:List Nat) (ops:List Oper):Bool:=ops.all fun o=>match o.dst with|some d=> !io.contains d|none=>true
def gl (E:Env) (ops:List Oper):Env:=
 if ops.all (·.guard.isNone)then E else {E with s:=E.s.map SV.je}
section
variable {ρ:Type}
def az {σ:Type}:Nat→((σ→Option ρ)→σ→Option ρ)→σ→Option ρ
 |0,_,_=>none
 |n+1,f,s=>f (az n f) s
def aO {σ:Type} (a:(σ→Option ρ)→Option ρ) (b:σ→Option ρ):Option ρ:=a b
end
end Vg
namespace Vg
open Go
inductive Tr:Type 1 where
 |id
 |kg (kl gv:List Nat) (t:Nat)
 |el (gv:List Nat) (b:Nat) (e:Ty) (l:List e.den) (m:M)
 |ki (ts:List Nat) (rp:List (Nat×Nat))
def fm (ts:List Nat) (v:SV):SV:=if ts.isEmpty then v else v.kill ts
def nV (ts:List Nat) (t:Nat) (v:SV):SV:=if ts.isEmpty then v else v.aS ts t
def Tr.sv:Tr→SV→SV
 | .id=>fun v=>v
 | .kg ks gv t=>fun v=>nV gv t (fm ks v)
 | .el gv b e l m=>fun v=>((v.aS gv b).bO b).setRow b e l m
 | .ki ts rp=>fun v=>if rp.isEmpty then fm ts v else v.bQ ts rp
def Tr.nr:Tr→Bool
 | .id=>true
 | .kg ks gv _=>ks.isEmpty&&gv.isEmpty
 | .ki ts rp=>ts.isEmpty&&rp.isEmpty
 |_=>false
def Tr.eS:Tr→List Nat
 | .id=>[]
 | .kg ks gv t=>t::(ks++gv)
 | .el gv b _ _ _=>b::gv
 | .ki ts rp=>ts++(rp.map (·.1)++rp.map (·.2))
def Tr.pW:Tr→List Nat
 | .id=>[]
 | .kg ks gv t=>t::(ks++gv)
 | .el gv _ _ _ _=>gv
 | .ki ts rp=>ts++(rp.map (·.1)++rp.map (·.2))
def Tr.ok:Tr→Bool
 | .el _ b _ _ m=>m.aD.contains b
 |_=>true
def wr (d:Option Nat) (v:SV):List (Nat×SV):=match d with|some d=>[(d,v)]|none=>[]
def ig (o:Oper) (a:Option Bool):Ef→Option (Tr×List (Nat×SV))
 | .val v=>some (.id,wr o.dst (cY o.guard a v))
 | .chk c v=>if(match a with|none=>c|some b=> !b||c)=true then some (.id,wr o.dst (cY o.guard a v))else none
 | .opt _ z x f=>(match a with|none=>x|some b=>if b=true then x else some z).bind fun r=>some (.id,wr o.dst (cY o.guard a (f r)))
 | .put b s v=>if a.isNone&&o.dst.isNone then some (.id,[(s,.box b v)])else none
 | .app c kl gv t v=>if a.isNone then(if c=true then some (.kg kl gv t,wr o.dst v.je)else none)else none
 | .elem gv b e l m=>if a.isNone&&o.dst.isNone then some (.el gv b e l m,[])else none
 | .call _ x tks f rp=>if a.isNone then x.bind fun r=>some (.ki tks (rp r),(f r).2.map (fun p=>(p.2.1,SV.box p.1 p.2.2))++wr o.dst (f r).1.je)else none
def px {ρ:Type} (o:Oper) (a:Option Bool) (ef:Ef) (k:Tr×List (Nat×SV)→Option ρ):Option ρ:=
 match ef with
 | .val v=>k (.id,wr o.dst (cY o.guard a v))
 | .chk c v=>if(match a with|none=>c|some b=> !b||c)=true then k (.id,wr o.dst (cY o.guard a v))else none
 | .opt _ z x f=>(match a with|none=>x|some b=>if b=true then x else some z).bind fun r=>k (.id,wr o.dst (cY o.guard a (f r)))
 | .put b s v=>if a.isNone&&o.dst.isNone then k (.id,[(s,.box b v)])else none
 | .app c kl gv t v=>if a.isNone then(if c=true then k (.kg kl gv t,wr o.dst v.je)else none)else none
 | .elem gv b e l m=>if a.isNone&&o.dst.isNone then k (.el gv b e l m,[])else none
 | .call _ x tks f rp=>if a.isNone then x.bind fun r=>k (.ki tks (rp r),(f r).2.map (fun p=>(p.2.1,SV.box p.1 p.2.2))++wr o.dst (f r).1.je)else none
def dM (ws:List (Nat×SV)) (L:List SV):List SV:=ws.foldl (fun L p=>L.set p.1 p.2) L
def Env.fO (E:Env) (r:Tr×List (Nat×SV)):Env:={E with s:=dM r.2 (E.s.map r.1.sv)}
def SV.dA:SV→List Nat
 | .no=>[]
 | .d v=>v.sh.aD
 | .box t v=>t::v.sh.aD
 | .ptr t _ _ _=>[t]
 | .ept t _ _ _ _ _=>[t]
 | .rdp hs v=>hs++v.sh.aD
 | .tup l=>l.flatMap fun v=>v.sh.aD
 | .g _ _ _ v=>v.dA
def SV.clean:SV→Bool
 | .no=>false
 | .d v| .box _ v| .rdp _ v=>v.sh.live
 | .tup l=>l.all fun v=>v.sh.live
 | .g _ _ _ v=>v.clean
 |_=>true
def tmpsOf (o:Oper):List Nat:=o.op.operands.toList.filterMap fun| .tmp s=>some s|_=>none
def SV.strip:SV→SV
 | .g _ _ _ v=>v
 |v=>v
def fU (ops:List Oper) (o:Oper):List Nat:=
 tmpsOf o++(match o.guard with|some (j,_)=>((ops[j]?).bind (·.dst)).toList|none=>[])
def sB (E:Env) (o:Oper):List Nat:=(tmpsOf o).filterMap fun s=>match(E.rd.get s).strip with| .ptr b _ _ _=>some b|_=>none
def qM (E:Env) (o:Oper):List (Nat×Ty):=(tmpsOf o).filterMap fun s=>match(E.rd.get s).strip with| .ept b e _ _ _ _=>some (b,e)|_=>none
def di (t:Nat) (e:Ty):List SV→Nat→Option Nat
 | [],_=>none
 | .d v::l,i| .box _ v::l,i=>if(mL t e v.τ v.x v.sh).isSome then some i else di t e l (i+1)
 |_::l,i=>di t e l (i+1)
def qi (v q:SV):Bool:=
 match v with
 | .no| .ept _ _ _ _ _ _| .rdp _ _=>true
 | .box t _=>(match q with| .box t' _=>t=t'|_=>false)
 |v=>v.clean&&v.dA.isEmpty
def dp (o:Oper):Bool:=match o.op with| .move _| .assign _| .nilCheck _| .fieldAddr _ _ _=>false|_=>true
def SV.ui:SV→List Nat
 | .ept t _ _ _ _ _=>[t]
 |_=>[]
def SV.A5:SV→List Nat
 | .ept _ _ _ _ _ _=>[]
 |v=>v.dA
structure fC:Type 1 where
 i:Nat
 rs:List Nat
 ra:List Nat
 te:List Nat
 tk:List Nat
 cl:Bool
 bx:List Nat
 rw:List (Nat×Nat)
 fd:Bool
 dz:Bool
 T:Tr
 ws:List (Nat×SV)
def dG (ops:List Oper) (i:Nat) (o:Oper) (E:Env) (r:Tr×List (Nat×SV)):fC:=
 let b:=if dp o=true then sB E o else []
 let q:=if dp o=true then qM E o else []
 let rw:=q.filterMap fun p=>(di p.1 p.2 E.s 0).map fun s=>(p.1,s)
 let ra:=(fU ops o).filter fun s=>(E.get s).dQ
 let rs:=(fU ops o).filter (fun s=> !(E.get s).dQ)++b.filterMap (fun t=>(cF E.s t 0).map (·.1))++rw.map (·.2)
 ⟨i,rs,ra,rs.flatMap fun s=>(E.get s).ui,rs.flatMap fun s=>(E.get s).A5,rs.all fun s=>(E.get s).clean,b,rw,
   rw.length=q.length&&b.all (fun t=>(cF E.s t 0).isSome),
   r.2.all (fun p=>qi (E.get p.1) p.2),r.1,r.2⟩
def fC.free (a b:fC):Bool:=
 a.ws.all (fun p=> !b.rs.contains p.1&& !b.ra.contains p.1&&b.ws.all (fun q=>q.1≠p.1)&&
  (match p.2 with| .box t _=> !b.bx.contains t|_=>true)&&b.rw.all (fun q=>q.2<p.1|| !(p.2.dQ||p.2.dA.contains q.1)))&&
 (a.T.nr||(b.rw.isEmpty&&b.tk.all (!a.T.eS.contains ·)&&b.te.all (!a.T.pW.contains ·)&&b.ws.all fun p=>p.2.A5.all (!a.T.eS.contains ·)&&p.2.ui.all (!a.T.pW.contains ·)))
def fC.ind (a b:fC):Bool:=
 a.free b&&b.free a&&(a.T.nr||b.T.nr)&&a.T.ok&&b.T.ok&&(a.T.nr||b.cl)&&a.fd&&b.fd&&a.dz&&b.dz&&(a.T.nr||a.rw.isEmpty)
end Vg
namespace Vg
open Go
/-where ways meet-/
abbrev Ren:=List (Nat×Nat)
def II (r:Ren) (t c:Nat):Option Ren:=
 match r.lookup t with
 |some c'=>if c=c' then some r else none
 |none=>if r.any (fun p=>p.2=c)then none else some ((t,c)::r)
def MZ (c:Nat):Nat:=1000000000+c
def bindM (r:Ren):M→M→Option Ren
 | .row t _ _,.row c _ _=>II r t c
 | .sha [],.row c _ _=>II r (MZ c) c
 | .row _ _ _,.sha _=>some r
 | .sha _,.sha _=>some r
 |_,.dead=>some r
 |_,_=>none
def GX (r:Ren):Sh→Sh→Option Ren
 | .leaf,.leaf=>some r
 | .sl m,.sl m'=>bindM r m m'
 | .pair a b,.pair a' b'=>(GX r a a').bind fun r=>GX r b b'
 |_,_=>none
def mi (r:Ren) (h:Nat):Nat:=if h≤2 then h else(r.lookup h).getD 2
def EM (r:Ren):M→M→Bool
 | .row t hs nd,.row c hc nd'=>r.lookup t=some c&&(!nd'||nd)&&hs.all fun h=>hc.contains (mi r h)
 | .sha [],.row c _ _=>r.lookup (MZ c)=some c
 | .row t hs _,.sha hc=>(t::hs).all fun h=>hc.contains (mi r h)
 | .sha hs,.sha hc=>hs.all fun h=>hc.contains (mi r h)
 |_,.dead=>true
 |_,_=>false
def El (r:Ren):Sh→Sh→Bool
 | .leaf,.leaf=>true
 | .sl m,.sl m'=>EM r m m'
 | .pair a b,.pair a' b'=>El r a a'&&El r b b'
 |_,_=>false
def Uk (E:Env) (r:Ren) (s:Nat):AK→Option Ren
 | .val _ sh=>match E.get s with| .d v=>GX r v.sh sh|_=>none
 | .box c _ sh=>match E.get s with| .box t v=>(II r t c).bind fun r=>GX r v.sh sh|_=>none
 | .ptr _ _ _ _=>some r
 | .ept _ _ _ _ _=>some r
def Py (E:Env):Ren→List (Nat×AK)→Option Ren
 |r,[]=>some r
 |r,(s,a)::l=>(Uk E r s a).bind fun r=>Py E r l
def aT.app:(a:List Ty)→(b:List Ty)→aT a→aT b→aT (a++b)
 | [],_,_,y=>y
 |_::a,b,x,y=>(x.1,aT.app a b x.2 y)
def aT.fst:(a:List Ty)→(b:List Ty)→aT (a++b)→aT a
 | [],_,_=>()
 |_::a,b,x=>(x.1,aT.fst a b x.2)
def aT.snd:(a:List Ty)→(b:List Ty)→aT (a++b)→aT b
 | [],_,x=>x
 |_::a,b,x=>aT.snd a b x.2
def wR (E:Env) (r:Ren) (s:Nat):(a:AK)→Option (aT a.FZ)
 | .val τ sh=>match E.get s with
   | .d v=>if El r v.sh sh then(match ed v τ with|some x=>some (x,())|none=>none)else none
   |_=>none
 | .box c τ sh=>match E.get s with
   | .box t v=>if El r v.sh sh&&r.lookup t=some c then(match ed v τ with|some x=>some (x,())|none=>none)else none
   |_=>none
 | .ptr c o p τ=>match E.get s with
   | .ptr t o' p' τ'=>if r.lookup t=some c&&o'=o&&p'=p&&τ'=τ then some ()else none
   |_=>none
 | .ept c e o p τ=>match E.get s with
   | .ept t e' i o' p' τ'=>if r.lookup t=some c&&e'=e&&o'=o&&p'=p&&τ'=τ then some (i,())else none
   |_=>none
def jK:List (Nat×AK)→List Ty
 | []=>[]
 |(_,a)::l=>a.FZ++jK l
def AX (E:Env) (r:Ren):(l:List (Nat×AK))→Option (aT (jK l))
 | []=>some ()
 |(s,a)::l=>match wR E r s a,AX E r l with
  |some x,some y=>some (aT.app a.FZ (jK l) x y)
  |_,_=>none
def AK.bt:AK→List Nat
 | .box c _ _| .ptr c _ _ _=>[c]
 |_=>[]
def AK.sc:AK→List Nat
 | .val _ sh| .box _ _ sh=>sh.aD
 | .ept c _ _ _ _=>[c]
 |_=>[]
def Tc (a:aL):Bool:=
 let b:=a.ks.flatMap fun p=>p.2.bt
 let c:=a.ks.flatMap fun p=>p.2.sc
 let s:=a.ks.map (·.1)
 3≤a.nt&&b.all (fun x=>0<x&&x<a.nt&&x≠2)&&c.all (fun x=>0<x&&x<a.nt&& !b.contains x)&&s.eraseDups.length=s.length
def tv (r:Ren) (nt:Nat):Bool:=r.all fun p=>3≤p.2&&p.2<nt&&r.find? (·.2=p.2)==some p
def proj (a:aL) (E:Env):Option (aT (jK a.ks)):=
 match Py E [] a.ks with
 |some r=>if E.nt≤1000000000&&Tc a&&tv r a.nt then AX E r a.ks else none
 |none=>none
def oO:(a:AK)→aT a.FZ→SV
 | .val τ sh,x=> .d ⟨τ,x.1,sh⟩
 | .box c τ sh,x=> .box c ⟨τ,x.1,sh⟩
 | .ptr c o p τ,_=> .ptr c o p τ
 | .ept c e o p τ,x=> .ept c e x.1 o p τ
def kj:(l:List (Nat×AK))→aT (jK l)→List SV→List SV
 | [],_,E=>E
 |(s,a)::l,x,E=>kj l (aT.snd a.FZ (jK l) x) (E.set s (oO a (aT.fst a.FZ (jK l) x)))
def dB (n:Nat) (a:aL) (x:aT (jK a.ks)):Env:=⟨kj a.ks x (List.replicate n .no),a.nt,false⟩
def fx:Code→Option Nat
 | .region id _ _=>some id
 | .seq a _=>fx a
 | .block _ c=>fx c
 | .loop c=>fx c
 | .scope c=>fx c
 |_=>none
/-regions that draw their order-/
def CW (ops:List Oper):List (List Nat):=
 ops.foldl (fun acc o=>
  let d:=(o.after.toList.filter (Region.binds .any)).map (·.on)
  acc++[d++d.flatMap fun j=>acc.getD j []]) []
def oS (ops:List Oper) (labs:List fC):Bool:=
 let B:=CW ops
 (ops.zipIdx.all fun p=>(match p.1.guard with|some (j,_)=>(B.getD p.2 []).contains j|none=>true)&&p.1.after.toList.all fun e=> !Region.binds .any e||e.on<p.2)&&
 labs.all fun b=>labs.all fun a=>b.i≤a.i||(B.getD b.i []).contains a.i||a.ind b
section
variable {ρ:Type}
def sg (C:Cx) (ops:List Oper) (nt:Nat):List Oper→Nat→Env→List fC→(Env→List fC→Option ρ)→Option ρ
 | [],_,E,L,k=>k E L
 |o::l,i,E,L,k=>match guardOf ops E.rd o.guard with
  |none=>none
  |some a=>match bm C ops E.rd (nt+32*i) o.guard o with
   |none=>none
   |some ef=>px o a ef fun r=>sg C ops nt l (i+1) (E.fO r) (dG ops i o E r::L) k
end
section
variable {ρ:Type}
def ev (C:Cx):Code→Env→(Env→Option ρ)→List (Nat×(Env→Option ρ))→(Env→Option ρ)→Option ρ
 | .skip,E,kn,_,_=>kn E
 | .region _ ops draw,E,kn,_,_=>if ee ops.toList&&keeps C.io ops.toList then(if draw=true
  then sg C ops.toList E.nt ops.toList 0 E [] (fun E' L=>if oS ops.toList L then kn {gl E' ops.toList with nt:=E.nt+32*ops.size}else none)
  else ur C ops.toList E.nt ops.toList 0 E (fun E'=>kn {gl E' ops.toList with nt:=E.nt+32*ops.size}))else none
 | .seq a b,E,kn,ke,kr=>
   match(fx b).bind C.ja with
   |none=>ev C a E (fun E'=>ev C b E' kn ke kr) ke kr
   |some n=>aO (fun J=>ev C a E (fun E'=>(proj n E').bind J) ke kr) (fun t=>ev C b (dB C.n n t) kn ke kr)
 | .cond c x y,E,kn,ke,kr=>
   match arg C E.rd none 0 c with
   |some (.d ⟨.bool,b,_⟩)=>if b=true then ev C x E kn ke kr else ev C y E kn ke kr
   |_=>none
 | .block id c,E,kn,ke,kr=>ev C c E kn ((id,kn)::ke) kr
 | .loop c,E,_,ke,kr=>
   match(fx c).bind C.la with
   |none=>none
   |some n=>(proj n E).bind (az C.k (fun G t=>ev C c (dB C.n n t) (fun E'=>(proj n E').bind G) ke kr))
 | .exit id,E,_,ke,_=>match ke.lookup id with|some k=>k E|none=>none
 | .ret,E,_,_,kr=>kr E
 |_,_,_,_,_=>none
end
/-whole functions-/
def br:(ps:List PK)→aT (ps.map PK.ty)→Nat→List SV×Nat
 | [],_,tk=>([],tk)
 | .val τ p::ps,x,tk=>let s:=aP p tk [1];let r:=br ps x.2 s.2;(.d ⟨τ,x.1,s.1⟩::r.1,r.2)
 | .io τ p::ps,x,tk=>let s:=aP p (tk+1) [1];let r:=br ps x.2 s.2;(.box tk ⟨τ,x.1,s.1⟩::r.1,r.2)
 | .rd τ::ps,x,tk=>let r:=br ps x.2 tk;(.rdp [1] ⟨τ,x.1,(aP (jo τ) tk [1]).1⟩::r.1,r.2)
 | .vx e l::ps,x,tk=>let r:=br ps x.2 tk;(.d ⟨.sl e,x.1,.sl (.sha (1::l))⟩::r.1,r.2)
def qG (c:Nat):Nat:=if c=1 then 1 else 2
def tZ (tt:TypeId→Option TI) (E:Env):(rs:List RK)→List ResultVar→Nat→Option (aT (rs.map RK.ty)×List (Nat×Nat)×Nat)
 | [],[],tk=>some ((),[],tk)
 | .val τ p::rs,v::vs,tk=>match(match v with| .tmp s=>(match E.get s with| .d t=>some t|_=>none)| .cell s ty=>(match E.get s,tt ty with| .box _ t,some i=>if i.τ=t.τ then some t else none|_,_=>none))with
   |none=>none
   |some t=>match ed t τ,tZ tt E rs vs (aP p tk []).2 with
    |some x,some (xs,rho,tk')=>if gM p t.sh then some ((x,xs),eF qG p t.sh tk++rho,tk')else none
    |_,_=>none
 | .nbox τ p::rs,.tmp s::vs,tk=>match lz E.rd (E.rd.get s)with
   |none=>none
   |some (b,_,t)=>match ed t τ,tZ tt E rs vs (aP p (tk+1) []).2 with
    |some x,some (xs,rho,tk')=>if gM p t.sh then some ((x,xs),(b,tk)::eF qG p t.sh (tk+1)++rho,tk')else none
    |_,_=>none
 |_,_,_=>none
def xI (E:Env):(ps:List PK)→Nat→Nat→Nat→Option (aT (bh ps)×List (Nat×Nat))
 | [],_,_,_=>some ((),[])
 | .val _ p::ps,i,te,tk=>xI E ps (i+1) (aP p te []).2 tk
 | .io τ p::ps,i,te,tk=>match E.get i,xI E ps (i+1) (aP p (te+1) []).2 (aP p tk []).2 with
   | .box b v,some (xs,rho)=>(match ed v τ with
     |some x=>if gM p v.sh&&b=te then some ((x,xs),(b,te)::eF qG p v.sh tk++rho)else none
     |none=>none)
   |_,_=>none
 | .rd _::ps,i,te,tk| .vx _ _::ps,i,te,tk=>xI E ps (i+1) te tk
def fc:List PK→Nat→List Nat
 | [],_=>[]
 | .val _ _::ps,i=>fc ps (i+1)
 | .io _ _::ps,i=>i::fc ps (i+1)
 | .rd _::ps,i| .vx _ _::ps,i=>fc ps (i+1)
def oY:List PK→Nat→Nat→List (Nat×Ty×Sh)
 | [],_,_=>[]
 | .val _ p::ps,i,te=>oY ps (i+1) (aH p te)
 | .io τ p::ps,i,te=>(i,τ,(aP p (te+1) [1]).1)::oY ps (i+1) (aH p (te+1))
 | .rd _::ps,i,te| .vx _ _::ps,i,te=>oY ps (i+1) te
def Q0 (E:Env) (ps:List PK) (kp:List (Nat×List Bool)):Bool:=
 kp.isEmpty||E.kp&&kp.all fun q=>match(oY ps 0 3)[q.1]? with
  |some (i,τ,sh)=>(match E.get i,gW sh q.2 with
   | .box _ v,some u=>v.τ=τ&&gW v.sh q.2==some u
   |_,_=>false)
  |none=>false
def fin (tt:TypeId→Option TI) (ps:List PK) (rs:List RK) (kp:List (Nat×List Bool)) (rv:List ResultVar) (nt:Nat) (E:Env):Option (aT (rs.map RK.ty++bh ps)):=
 match tZ tt E rs rv nt with
 |some (xs,rho,tk)=>(match xI E ps 0 3 tk with
  |some (ys,rho')=>if AV (rho++rho')&&Q0 E ps kp then some (aT.app _ _ xs ys)else none
  |none=>none)
 |none=>none
def PW (C:Cx) (ps:List PK) (rs:List RK) (kp:List (Nat×List Bool)) (fn:Func) (x:aT (ps.map PK.ty)):Option (aT (rs.map RK.ty++bh ps)):=
 match fn.body with
 |none=>none
 |some c=>
  let e:=br ps x 3
  ev {C with n:=fn.ntmps,io:=fc ps 0} c ⟨e.1++List.replicate (fn.ntmps-e.1.length) .no,e.2,true⟩ (fin C.tt ps rs kp fn.results.toList e.2) [] (fin C.tt ps rs kp fn.results.toList e.2)
end Vg
namespace Vg
open Go
structure Gh where
 col:Nat→Nat
 hdr:Nat→Value
 bx:Nat→Bool
theorem dI.one {α:Type} {w:World} {sz:Nat} {R:α→List Value→List Nat→Prop} {l:List α} {v:Value} {B:List Nat}
 (h:dI w sz R l v B):v.oneCell'=true:=by
 rcases h with h|⟨b,off,cap,c,el,fz,Bs,rfl,_⟩
 ·obtain⟨ao,e⟩:=h.1;rw[e];rfl
 ·rfl
theorem dI.mono {w w':World} {e:Ty} {l:List e.den} {v:Value} {B:List Nat} (hB:∀b∈B,w'.heap[b]?=w.heap[b]?)
 (h:dI w e.sz (aR w e) l v B):dI w' e.sz (aR w' e) l v B:=by
 have:aR w' (.sl e) l [v] B:=aR.mono hB ⟨v,rfl,h⟩
 obtain⟨v',hv,h⟩:=this
 cases hv;exact h
def bW (w:World) (G:Gh) (e:Ty) (l:List e.den) (v:Value):M→Prop
 | .row t hs nd=>3≤t∧G.hdr t=v∧∃B,dI w e.sz (aR w e) l v B∧
  ∀b Bs,B=b::Bs→G.col b=t∧b∉Bs∧(∀x∈Bs,G.col x∈hs)∧(nd=true→Bs.Nodup)
 | .sha hs=>(∃B,dI w e.sz (aR w e) l v B∧∀b∈B,G.col b∈hs)∧(hs=[]→v= .slice none 0 0)
 | .dead=>v.oneCell'=true
def aW (w:World) (G:Gh):(τ:Ty)→τ.den→Sh→List Value→Prop
 | .int k,n,.leaf,cs=>cs=[.int k n]
 | .bool,b,.leaf,cs=>cs=[.bool b]
 | .str,s,.leaf,cs=>cs=[.string s]
 | .sl e,l,.sl m,cs=>∃v,cs=[v]∧bW w G e l v m
 | .pair a b,p,.pair s1 s2,cs=>∃c1 c2,cs=c1++c2∧aW w G a p.1 s1 c1∧aW w G b p.2 s2 c2
 |_,_,_,_=>False
def bI (w:World) (G:Gh):SV→Value→Prop
 | .no,_=>True
 | .d v,mv=>∃cs,mv=bT v.τ cs∧aW w G v.τ v.x v.sh cs
 | .box t v,mv=>∃bk c el,mv= .pointer (some ⟨bk,0,none⟩)∧3≤t∧G.hdr t=mv∧G.col bk=t∧w.heap[bk]?=some (.cells c el (0,0))∧aW w G v.τ v.x v.sh c.toList
 | .ptr t o _ _,mv=>∃bk,3≤t∧G.hdr t= .pointer (some ⟨bk,0,none⟩)∧mv= .pointer (some ⟨bk,o,none⟩)
 | .ept t e i o _ _,mv=>∃b off n cap,3≤t∧G.hdr t= .slice (some ⟨b,off,none⟩) n cap∧0≤i∧i<n∧mv= .pointer (some ⟨b,off+i.toNat*e.sz+o,none⟩)
 | .rdp hs v,mv=>∃b o c el fz,mv= .pointer (some ⟨b,o,none⟩)∧w.heap[b]?=some (.cells c el fz)∧o+v.τ.sz≤c.size∧G.col b∈hs∧aW w G v.τ v.x v.sh ((c.toList.drop o).take v.τ.sz)
 | .tup l,mv=>∃vs:List Value,mv= .tuple vs.toArray∧vs.length=l.length∧∀(i:Nat) (v:TV),l[i]?=some v→∃u cs,vs[i]?=some u∧u=bT v.τ cs∧aW w G v.τ v.x v.sh cs
 | .g _ _ act v,mv=>(act=true→v.dQ=false∧bI w G v mv)∧(act=false→mv=undef)
def SV.sc:SV→List Nat
 | .d v| .box _ v=>v.sh.aD
 | .rdp hs v=>hs++v.sh.aD
 | .tup l=>l.flatMap fun v=>v.sh.aD
 | .g _ _ act v=>if act=true then v.sc else []
 |_=>[]
def SV.bt:SV→List Nat
 | .box t _| .ptr t _ _ _=>[t]
 | .g _ _ act v=>if act=true then v.bt else []
 |_=>[]
def SV.rt:SV→List Nat
 | .ept t _ _ _ _ _=>[t]
 | .g _ _ act v=>if act=true then v.rt else []
 |_=>[]
def SV.hc:SV→List Nat
 | .box t v=>t::v.sh.aD
 |v=>v.sc
structure uM (S T:List Nat) (w w':World) (G G':Gh):Prop where
 heap:∀b,G.col b∈S→w'.heap[b]?=w.heap[b]?
 col:∀b,G.col b∈S→G'.col b=G.col b
 hdr:∀t∈T,G'.hdr t=G.hdr t
theorem uM.sub {S S' T T':List Nat} {w w':World} {G G':Gh} (h:uM S T w w' G G') (hs:∀c∈S',c∈S) (ht:∀c∈T',c∈T):uM S' T' w w' G G':=
 ⟨fun b hb=>h.heap b (hs _ hb),fun b hb=>h.col b (hs _ hb),fun t hb=>h.hdr t (ht _ hb)⟩
theorem bW.agree {w w':World} {G G':Gh} {e:Ty} {l:List e.den} {v:Value} {m:M} (h:uM m.aD m.aD w w' G G') (hr:bW w G e l v m):bW w' G' e l v m:=by
 cases m with
 |row t hs nd=>
  obtain⟨ht,hh,B,hB,hc⟩:=hr
  have hin:∀b∈B,G.col b∈t::hs:=by
   intro b hb
   cases B with
   |nil=>cases hb
   |cons x Bs=>
    obtain⟨h1,_,h3,_⟩:=hc x Bs rfl
    rcases List.mem_cons.1 hb with rfl|hb
    ·simp[h1]
    ·exact List.mem_cons_of_mem _ (h3 b hb)
  refine⟨ht,(h.hdr t (by simp[M.aD])).trans hh,B,dI.mono (fun b hb=>h.heap b (hin b hb)) hB,?_⟩
  intro b Bs e
  obtain⟨h1,h2,h3,h4⟩:=hc b Bs e
  subst e
  refine⟨(h.col b (hin b (by simp))).trans h1,h2,fun x hx=> ?_,h4⟩
  rw[h.col x (hin x (by simp[hx]))];exact h3 x hx
 |sha hs=>
  obtain⟨⟨B,hB,hc⟩,hn⟩:=hr
  exact⟨⟨B,dI.mono (fun b hb=>h.heap b (hc b hb)) hB,fun b hb=>by rw[h.col b (hc b hb)];exact hc b hb⟩,hn⟩
 |dead=>exact hr
theorem aW.agree {w w':World} {G G':Gh}:∀ {τ:Ty} {x:τ.den} {sh:Sh} {cs:List Value},uM sh.aD sh.aD w w' G G'→aW w G τ x sh cs→aW w' G' τ x sh cs
 | .int _,_,.leaf,_,_,h=>h
 | .bool,_,.leaf,_,_,h=>h
 | .str,_,.leaf,_,_,h=>h
 | .sl e,l,.sl m,cs,ha,h=>by obtain⟨v,rfl,hr⟩:=h;exact⟨v,rfl,bW.agree ha hr⟩
 | .pair a b,p,.pair s1 s2,cs,ha,h=>by
   obtain⟨c1,c2,rfl,h1,h2⟩:=h
   exact⟨c1,c2,rfl,aW.agree (ha.sub (fun c hc=>by simp[Sh.aD,hc]) (fun c hc=>by simp[Sh.aD,hc])) h1,
    aW.agree (ha.sub (fun c hc=>by simp[Sh.aD,hc]) (fun c hc=>by simp[Sh.aD,hc])) h2⟩
 | .int _,_,.sl _,_,_,h| .int _,_,.pair _ _,_,_,h| .bool,_,.sl _,_,_,h| .bool,_,.pair _ _,_,_,h
 | .str,_,.sl _,_,_,h| .str,_,.pair _ _,_,_,h| .sl _,_,.leaf,_,_,h| .sl _,_,.pair _ _,_,_,h
 | .pair _ _,_,.leaf,_,_,h| .pair _ _,_,.sl _,_,_,h=>h.elim
theorem bI.agree {w w':World} {G G':Gh}:∀ {s:SV} {mv:Value},uM s.hc (s.sc++s.bt++s.rt) w w' G G'→bI w G s mv→bI w' G' s mv
 | .no,_,_,_=>trivial
 | .d v,mv,ha,⟨cs,h1,h2⟩=>⟨cs,h1,aW.agree (ha.sub (fun c hc=>hc) (fun c hc=>by simp[SV.sc,hc])) h2⟩
 | .box t v,mv,ha,⟨bk,c,el,h1,h2,h3,h4,h5,h6⟩=>
   ⟨bk,c,el,h1,h2,(ha.hdr t (by simp[SV.bt])).trans h3,(ha.col bk (by simp[SV.hc,h4])).trans h4,
    (ha.heap bk (by simp[SV.hc,h4])).trans h5,aW.agree (ha.sub (fun c hc=>by simp[SV.hc,hc]) (fun c hc=>by simp[SV.sc,hc])) h6⟩
 | .ptr t o p τ,mv,ha,⟨bk,h1,h2,h3⟩=>⟨bk,h1,(ha.hdr t (by simp[SV.bt])).trans h2,h3⟩
 | .ept t e i o p τ,mv,ha,⟨b,off,n,cap,h1,h2,h3⟩=>⟨b,off,n,cap,h1,(ha.hdr t (by simp[SV.rt])).trans h2,h3⟩
 | .rdp hs v,mv,ha,⟨b,o,c,el,fz,h1,h2,h3,h4,h5⟩=>
   ⟨b,o,c,el,fz,h1,(ha.heap b (by simp[SV.hc,SV.sc,h4])).trans h2,h3,by rw[ha.col b (by simp[SV.hc,SV.sc,h4])];exact h4,
     aW.agree (ha.sub (fun c hc=>by simp[SV.hc,SV.sc,hc]) (fun c hc=>by simp[SV.sc,hc])) h5⟩
 | .tup l,mv,ha,⟨vs,h1,h2,h3⟩=>by
   refine⟨vs,h1,h2,fun i v hi=> ?_⟩
   obtain⟨u,cs,hu,hm,hv⟩:=h3 i v hi
   have hin:∀c∈v.sh.aD,c∈SV.sc (.tup l):=fun c hc=>List.mem_flatMap.2 ⟨v,List.mem_of_getElem? hi,hc⟩
   exact⟨u,cs,hu,hm,aW.agree (ha.sub hin (fun c hc=>by simp[hin c hc])) hv⟩
 | .g j w' false v,mv,ha,⟨h1,h2⟩=>⟨fun e=>absurd e (by simp),h2⟩
 | .g j w' true v,mv,ha,⟨h1,h2⟩=>⟨fun e=>⟨(h1 e).1,bI.agree (s:=v) (by
  have hv:=(h1 e).1
  cases v with
  |box t v=>simp[SV.dQ]at hv
  |_=>simpa[SV.hc,SV.sc,SV.bt,SV.rt]using ha) (h1 e).2⟩,h2⟩
theorem SV.AF:∀(s:SV) (c:Nat),c∈s.hc→c∈s.sc∨c∈s.bt
 | .no,c,h| .ptr ..,c,h| .ept ..,c,h=>by simp[SV.hc,SV.sc]at h
 | .d v,c,h| .rdp hs v,c,h| .tup l,c,h=> .inl h
 | .box t v,c,h=>by
   rcases List.mem_cons.1 h with rfl|h
   ·right;simp[SV.bt]
   ·left;exact h
 | .g _ _ _ v,c,h=> .inl h
structure C0 where
 col:Nat→Nat
 hdr:Nat→Option Value
structure Inv (w0:World) (c0:C0) (U:Nat→Prop) (E:Env) (a:Act) (w:World) (G:Gh):Prop where
 len:a.tmps.size=E.s.length
 slots:∀s,bI w G (E.s.getD s .no) (a.tmps.getD s undef)
 sc:∀s,∀c∈(E.s.getD s .no).sc,0<c∧U c∧G.bx c=false
 bt:∀s,∀t∈(E.s.getD s .no).bt,0<t∧U t∧G.bx t=true
 rt:∀s,∀t∈(E.s.getD s .no).rt,0<t∧U t∧G.bx t=false
 uni:∀s s' t v v',E.s.getD s .no= .box t v→E.s.getD s' .no= .box t v'→s=s'
 colU:∀b,0<G.col b→U (G.col b)
 lt:∀b,0<G.col b→b<w.heap.size
 fresh:∀b,3≤G.col b→∃c el,w.heap[b]?=some (.cells c el (0,0))
 frame:∀b,b<w0.heap.size→c0.col b<3→G.col b=c0.col b∧w.heap[b]?=w0.heap[b]?
 one:∀b,G.col b=1→b<w0.heap.size∧c0.col b=1
 size:w0.heap.size≤w.heap.size
 os:w.os=w0.os
 tape:w.tape=w0.tape
 output:w.output=w0.output
 defers:a.defers=[]
 two:U 2∧G.bx 2=false
 hk:E.kp=true→∀t v,c0.hdr t=some v→U t∧G.hdr t=v
theorem dF (l:List SV) (d s:Nat) (v:SV):(l.set d v).getD s .no=if s=d∧d<l.length then v else l.getD s .no:=by
 simp only[List.getD_eq_getElem?_getD,List.getElem?_set]
 by_cases h:d=s
 ·subst h
  by_cases h':d<l.length
  ·simp[h']
  ·simp[h']
 ·simp[h,Ne.symm h]
theorem N1 (a:Act) (d:Option Nat) (v:Value) (s:Nat) (hd:∀x,d=some x→x<a.tmps.size):
 (a.put d v).tmps.getD s undef=if some s=d then v else a.tmps.getD s undef:=by
 cases d with
 |none=>simp[Act.put]
 |some d=>
  have:=hd d rfl
  simp only[Act.put,Array.getD_eq_getD_getElem?,Array.getElem?_setIfInBounds,Option.some.injEq]
  by_cases h:d=s
  ·subst h;simp[this]
  ·simp[h,Ne.symm h]
theorem M8 (a:Act) (d:Nat) (v:Value) (h:¬d<a.tmps.size):a.put (some d) v=a:=by
 cases a;simp only[Act.put,Act.mk.injEq,and_true]
 exact Array.setIfInBounds_eq_of_size_le (by simpa using h)
theorem ia (a:Act) (d:Option Nat) (v:Value):(a.put d v).tmps.size=a.tmps.size:=by
 cases d<;>simp[Act.put]
theorem Qe (a:Act) (d:Option Nat) (v:Value):(a.put d v).defers=a.defers:=by
 cases d<;>simp[Act.put]
section
variable {w0:World} {c0:C0} {U:Nat→Prop} {E:Env} {a:Act} {w:World} {G:Gh}
theorem Inv.put (h:Inv w0 c0 U E a w G) (d:Option Nat) {sv:SV} {v:Value} (hs:bI w G sv v)
 (hsc:∀c∈sv.sc,0<c∧U c∧G.bx c=false) (hbt:∀c∈sv.bt,0<c∧U c∧G.bx c=true) (hrt:∀c∈sv.rt,0<c∧U c∧G.bx c=false)
 (hbox:∀t u,sv= .box t u→∀s u',E.s.getD s .no≠ .box t u'):
 Inv w0 c0 U (E.set d sv) (a.put d v) w G:=by
 cases d with
 |none=>exact h
 |some d=>
  have hget:∀s,(E.set (some d) sv).s.getD s .no=if s=d∧d<E.s.length then sv else E.s.getD s .no:=fun s=>dF E.s d s sv
  refine {h with len:= ?_,slots:= ?_,sc:= ?_,bt:= ?_,rt:= ?_,uni:= ?_,defers:=by rw[Qe];exact h.defers}
  ·rw[ia,h.len];simp[Env.set]
  ·intro s
   rw[hget]
   by_cases hd:d<a.tmps.size
   ·rw[N1 a (some d) v s (by rintro x ⟨⟩;exact hd)]
    by_cases e:s=d
    ·subst e;rw[if_pos ⟨rfl,h.len▸hd⟩,if_pos rfl];exact hs
    ·rw[if_neg (by simp[e]),if_neg (by simp[e])];exact h.slots s
   ·rw[M8 a d v hd,if_neg (by rw[←h.len];simp;omega)];exact h.slots s
  ·intro s c hcs
   rw[hget]at hcs
   split at hcs
   ·exact hsc c hcs
   ·exact h.sc s c hcs
  ·intro s c hcs
   rw[hget]at hcs
   split at hcs
   ·exact hbt c hcs
   ·exact h.bt s c hcs
  ·intro s c hcs
   rw[hget]at hcs
   split at hcs
   ·exact hrt c hcs
   ·exact h.rt s c hcs
  ·intro s s' t u u' h1 h2
   rw[hget]at h1 h2
   split at h1<;>split at h2
   ·omega
   ·exact absurd h2 (hbox t u h1 s' u')
   ·exact absurd h1 (hbox t u' h2 s u)
   ·exact h.uni s s' t u u' h1 h2
theorem Inv.mono {U':Nat→Prop} (h:Inv w0 c0 U E a w G) (hU:∀c,U c→U' c):Inv w0 c0 U' E a w G:=
 {h with
  sc:=fun s c hc=>⟨(h.sc s c hc).1,hU _ (h.sc s c hc).2.1,(h.sc s c hc).2.2⟩
  bt:=fun s c hc=>⟨(h.bt s c hc).1,hU _ (h.bt s c hc).2.1,(h.bt s c hc).2.2⟩
  rt:=fun s c hc=>⟨(h.rt s c hc).1,hU _ (h.rt s c hc).2.1,(h.rt s c hc).2.2⟩
  colU:=fun b hb=>hU _ (h.colU b hb)
  two:=⟨hU _ h.two.1,h.two.2⟩
  hk:=fun hk t v e=>⟨hU _ (h.hk hk t v e).1,(h.hk hk t v e).2⟩}
theorem size_alloc (w:World) (o:Obj):(w.alloc o).heap.size=w.heap.size+1:=Array.size_push ..
def Gh.add (G:Gh) (b t:Nat) (v:Value) (x:Bool):Gh:=
 ⟨fun y=>if y=b then t else G.col y,fun u=>if u=t then v else G.hdr u,fun u=>if u=t then x else G.bx u⟩
theorem Inv.drawn (h:Inv w0 c0 U E a w G) (n:Nat):Inv w0 c0 U E a {w with drawn:=n} G:=by
 refine {h with slots:=fun s=> ?_}
 exact bI.agree (w:=w) (G:=G) (G':=G) ⟨fun _ _=>rfl,fun _ _=>rfl,fun _ _=>rfl⟩ (h.slots s)
theorem Inv.alloc (h:Inv w0 c0 U E a w G) {t:Nat} (ht:3≤t) (hU:¬U t) (c:Array Value) (el:TypeId) (v:Value) (x:Bool):
 Inv w0 c0 (fun u=>U u∨u=t) E a (w.alloc (.cells c el)) (G.add w.heap.size t v x):=by
 have hb0:∀b,0<G.col b→b≠w.heap.size:=fun b hb e=>by have:=h.lt b hb;omega
 have hne:∀u,U u→u≠t:=fun u hu e=>hU (e▸hu)
 refine⟨h.len,fun s=> ?_,fun s c hc=> ?_,fun s c hc=> ?_,fun s c hc=> ?_,h.uni,?_,?_,?_,?_,?_,?_,h.os,h.tape,h.output,h.defers,⟨.inl h.two.1,by simp only[Gh.add];rw[if_neg (by omega)];exact h.two.2⟩,fun hk t' v' e=>⟨.inl (h.hk hk t' v' e).1,by simp only[Gh.add];rw[if_neg (hne t' (h.hk hk t' v' e).1)];exact(h.hk hk t' v' e).2⟩⟩
 ·refine bI.agree (w:=w) (G:=G) ⟨fun b hb=> ?_,fun b hb=> ?_,fun u hu=> ?_⟩ (h.slots s)
  ·have:0<G.col b:=by rcases SV.AF _ _ hb with hb|hb;exact(h.sc s _ hb).1;exact(h.bt s _ hb).1
   exact heap_alloc_old w _ b (h.lt b this)
  ·have:0<G.col b:=by rcases SV.AF _ _ hb with hb|hb;exact(h.sc s _ hb).1;exact(h.bt s _ hb).1
   simp[Gh.add,hb0 b this]
  ·have:U u:=by
    simp only[List.mem_append]at hu
    rcases hu with(hu|hu)|hu
    ·exact(h.sc s u hu).2.1
    ·exact(h.bt s u hu).2.1
    ·exact(h.rt s u hu).2.1
   simp[Gh.add,hne u this]
 ·have:=h.sc s c hc;exact⟨this.1,.inl this.2.1,by simp[Gh.add,hne c this.2.1,this.2.2]⟩
 ·have:=h.bt s c hc;exact⟨this.1,.inl this.2.1,by simp[Gh.add,hne c this.2.1,this.2.2]⟩
 ·have:=h.rt s c hc;exact⟨this.1,.inl this.2.1,by simp[Gh.add,hne c this.2.1,this.2.2]⟩
 ·intro b hb
  by_cases e:b=w.heap.size
  ·right;simp[Gh.add,e]
  ·left;simp only[Gh.add,e,if_false]at hb⊢;exact h.colU b hb
 ·intro b hb
  by_cases e:b=w.heap.size
  ·rw[size_alloc];omega
  ·simp only[Gh.add,e,if_false]at hb
   have:=h.lt b hb;rw[size_alloc];omega
 ·intro b hb
  by_cases e:b=w.heap.size
  ·exact⟨c,el,by rw[e];exact heap_alloc_new w _⟩
  ·simp only[Gh.add,e,if_false]at hb
   obtain⟨c',el',hc'⟩:=h.fresh b hb
   exact⟨c',el',by rw[heap_alloc_old w _ b (lt_of_block hc')];exact hc'⟩
 ·intro b hb hc
  have hlt:b<w.heap.size:=Nat.lt_of_lt_of_le hb h.size
  refine⟨?_,?_⟩
  ·simp only[Gh.add,if_neg (Nat.ne_of_lt hlt)];exact(h.frame b hb hc).1
  ·rw[heap_alloc_old w _ b hlt];exact(h.frame b hb hc).2
 ·intro b hb
  by_cases e:b=w.heap.size
  ·simp[Gh.add,e]at hb;omega
  ·simp only[Gh.add,e,if_false]at hb;exact h.one b hb
 ·have:=h.size;rw[size_alloc];omega
end
end Vg
namespace Vg
open Go
def eU (P:Program) (t:TypeId) (τ:Ty):Prop:=
 ∃inf d,P.info? t=some inf∧inf.size=τ.sz∧inf.zero=some (bT τ τ.zero)∧inf.bytes≤32768∧
  P.underlying t=some d∧(d matches .struct _| .array _ _)=τ.bJ
structure A3 (P:Program) (τ:Ty) (fs:List TypeId) (j:Nat) (f:Field):Prop where
 off:f.offset=τ.off (dv fs.length j)
 ty:fs[j]?=some f.type
 sub:∃σ,τ.sub (dv fs.length j)=some σ∧eU P f.type σ
def H6 (P:Program) (t:TypeId) (i:TI):Prop:=
 eU P t i.τ∧match i.τ with
 | .int k=>P.underlying t=some (.int k)
 | .bool=>P.underlying t=some .bool
 | .str=>P.underlying t=some .string
 | .sl e=>P.underlying t=some (.slice i.el)∧eU P i.el e
 | .pair _ _=>∃fields,P.underlying t=some (.struct fields)∧fields.size=i.fs.length∧
  ∀(j:Nat) (f:Field),fields[j]?=some f→A3 P i.τ i.fs j f
section
variable {P:Program} {w:World}
theorem Nb {t:TypeId} {inf:TypeInfo} (h:P.info? t=some inf):(typeInfo t).run P w= .ok inf w:=by
 simp[typeInfo,h]
theorem cV {t:TypeId} {τ:Ty} (h:eU P t τ):(Go.sizeOf t).run P w= .ok τ.sz w:=by
 obtain⟨inf,d,h1,h2,_⟩:=h
 simp[Go.sizeOf,Nb h1,h2]
theorem L6 {t:TypeId} {τ:Ty} (h:eU P t τ):(zeroValue t).run P w= .ok (bT τ τ.zero) w:=by
 obtain⟨inf,d,h1,h2,h3,_⟩:=h
 simp[zeroValue,Nb h1,h3]
theorem qe {t:TypeId} {τ:Ty} (h:eU P t τ):(isAgg t).run P w= .ok τ.bJ w:=by
 obtain⟨inf,d,h1,h2,h3,h4,h5,h6⟩:=h
 rw[←h6]
 cases d<;>simp[isAgg,run_underlying h5]
theorem fh {τ:Ty} {cs:List Value} (hl:cs.length=τ.sz) (h1:∀v∈cs,v.oneCell'=true):(bT τ cs).cells.toList=cs:=by
 cases τ with
 |pair a b=>simp[bT,Value.cells]
 |_=>
  simp only[Ty.sz]at hl
  match cs,hl with
  | [v],_=>
    have:=h1 v (by simp)
    cases v<;>simp_all[bT,Value.cells,Value.oneCell']
theorem lI {τ:Ty} {cs:List Value} (hl:cs.length=τ.sz) (h1:∀v∈cs,v.oneCell'=true):(bT τ cs).cells.size=τ.sz:=by
 have:=congrArg List.length (fh hl h1)
 simpa[hl]using this
theorem sF:∀(τ:Ty),∀v∈τ.zero,v.oneCell'=true:=fun τ=>aR.one (aR.zero default τ)
theorem kW {b:Nat} {c:Array Value} {el:TypeId} {fz:Nat×Nat} (hb:w.heap[b]?=some (.cells c el fz)) (o:Nat):w.cell? ⟨b,o,none⟩=c[o]?:=by
 simp[World.cell?,hb]
theorem H4 {c:Array Value} {o n j:Nat} {v:Value} (h:((c.toList.drop o).take n)[j]?=some v):c[o+j]?=some v:=by
 rw[List.getElem?_take]at h
 split at h
 ·rw[List.getElem?_drop]at h;simpa using h
 ·cases h
theorem oC {t:TypeId} {τ:Ty} (h:eU P t τ) {b o:Nat} {c:Array Value} {el:TypeId} {fz:Nat×Nat}
 (hb:w.heap[b]?=some (.cells c el fz)) (hs:o+τ.sz≤c.size):(loadVar t ⟨b,o,none⟩).run P w= .ok (bT τ ((c.toList.drop o).take τ.sz)) w:=by
 have hlen:((c.toList.drop o).take τ.sz).length=τ.sz:=by simp;omega
 cases hp:τ.bJ with
 |true=>
  have hl:=run_loadCells_list (P:=P) w ⟨b,o,none⟩ ((c.toList.drop o).take τ.sz) (fun j v hv=>by
   rw[Addr.add_lit,kW hb];exact H4 hv)
  rw[hlen]at hl
  simp[loadVar,qe h,hp,cV h,hl]
  cases τ<;>simp_all[bT,Ty.bJ]
 |false=>
  have h1:τ.sz=1:=by cases τ<;>simp_all[Ty.bJ,Ty.sz]
  have ho:o<c.size:=by omega
  have hc:c[o]?=some c[o]:=Array.getElem?_eq_getElem ho
  have hw:(c.toList.drop o).take 1=[c[o]]:=by
   rw[List.take_one,List.head?_drop];simp[hc]
  rw[h1,hw]
  have hm:bT τ [c[o]]=c[o]:=by cases τ<;>simp_all[bT,Ty.bJ]
  rw[hm]
  simp only[loadVar,Sem.run_bind,qe h,hp,Result.andThen_ok,Bool.false_eq_true,if_false,run_load,kW hb,hc]
theorem rA {b:Nat} {c:Array Value} {el:TypeId} (hb:w.heap[b]?=some (.cells c el (0,0))) (o:Nat):w.frozen? ⟨b,o,none⟩=false:=by
 simp[World.frozen?,hb]
theorem bD (b:Nat):∀(vs:List Value) (o:Nat) (w:World) (k:Nat),k≠b→(w.setCells b o vs).heap[k]?=w.heap[k]?
 | [],_,_,_,_=>rfl
 |v::r,o,w,k,h=>by
  rw[World.setCells,bD b r (o+1) _ k h]
  exact heap_setCell_other w ⟨b,o,none⟩ k v h
theorem dY (b:Nat):∀(vs:List Value) (o:Nat) (w:World),(w.setCells b o vs).heap.size=w.heap.size
 | [],_,_=>rfl
 |v::r,o,w=>by rw[World.setCells,dY b r (o+1)];simp[World.setCell]
theorem cx (b:Nat):∀(vs:List Value) (o:Nat) (w:World),(w.setCells b o vs).os=w.os∧(w.setCells b o vs).tape=w.tape∧(w.setCells b o vs).output=w.output
 | [],_,_=>⟨rfl,rfl,rfl⟩
 |_::r,o,_=>cx b r (o+1) _
theorem gj (b:Nat) {el:TypeId}:∀(vs:List Value) (o:Nat) (w:World) (c:Array Value),w.heap[b]?=some (.cells c el (0,0))→o+vs.length≤c.size→
 (w.setCells b o vs).heap[b]?=some (.cells (c.toList.take o++vs++c.toList.drop (o+vs.length)).toArray el (0,0))
 | [],o,w,c,hb,_=>by simp[World.setCells,hb]
 |v::r,o,w,c,hb,hs=>by
  simp only[List.length_cons]at hs
  have h1:(w.setCell ⟨b,o,none⟩ v).heap[b]?=some (.cells (c.setIfInBounds o v) el (0,0)):=by
   simp only[World.setCell,Array.getElem?_modify,hb];rfl
  rw[World.setCells,gj b r (o+1) _ _ h1 (by simp;omega)]
  congr 3
  have ho:o<c.toList.length:=by simp at hs⊢;omega
  have hd:(c.toList.set o v).drop (o+1+r.length)=c.toList.drop (o+(r.length+1)):=by
   rw[List.drop_set_of_lt (by omega)];congr 1;omega
  have ht:(c.toList.set o v).take (o+1)=c.toList.take o++[v]:=by
   rw[List.take_succ_eq_append_getElem (by simpa using ho),List.take_set_of_le (Nat.le_refl _)]
   simp
  simp only[Array.toList_setIfInBounds,List.length_cons,hd,ht]
  simp
theorem Lv {t:TypeId} {τ:Ty} (h:eU P t τ) {b o:Nat} {c:Array Value} {el:TypeId} {cs:List Value}
 (hb:w.heap[b]?=some (.cells c el (0,0))) (hs:o+τ.sz≤c.size) (hl:cs.length=τ.sz) (h1:∀v∈cs,v.oneCell'=true):
 (storeVar t ⟨b,o,none⟩ (bT τ cs)).run P w= .ok () (w.setCells b o cs):=by
 have hst:=run_storeCells_cells (P:=P) b o cs 0 w (fun j hj=>by rw[kW hb];simp;omega) (fun j hj=>rA hb _) h1
 simp[storeVar,cV h,lI hl h1,fh hl h1]
 simpa using hst
end
end Vg
namespace Vg
open Go
section
variable {w:World} {G:Gh}
theorem aW.len:∀ {τ:Ty} {x:τ.den} {sh:Sh} {cs:List Value},aW w G τ x sh cs→cs.length=τ.sz
 | .int _,_,.leaf,_,h=>by rw[show _=_ from h];rfl
 | .bool,_,.leaf,_,h=>by rw[show _=_ from h];rfl
 | .str,_,.leaf,_,h=>by rw[show _=_ from h];rfl
 | .sl e,l,.sl m,cs,h=>by obtain⟨v,rfl,_⟩:=h;rfl
 | .pair a b,p,.pair s1 s2,cs,h=>by
   obtain⟨c1,c2,rfl,h1,h2⟩:=h
   simp[Ty.sz,aW.len h1,aW.len h2]
 | .int _,_,.sl _,_,h| .int _,_,.pair _ _,_,h| .bool,_,.sl _,_,h| .bool,_,.pair _ _,_,h
 | .str,_,.sl _,_,h| .str,_,.pair _ _,_,h| .sl _,_,.leaf,_,h| .sl _,_,.pair _ _,_,h
 | .pair _ _,_,.leaf,_,h| .pair _ _,_,.sl _,_,h=>h.elim
theorem bW.one {e:Ty} {l:List e.den} {v:Value} {m:M} (h:bW w G e l v m):v.oneCell'=true:=by
 cases m with
 |row t hs nd=>obtain⟨_,_,B,hB,_⟩:=h;exact hB.one
 |sha hs=>obtain⟨⟨B,hB,_⟩,_⟩:=h;exact hB.one
 |dead=>exact h
theorem aW.one:∀ {τ:Ty} {x:τ.den} {sh:Sh} {cs:List Value},aW w G τ x sh cs→∀v∈cs,v.oneCell'=true
 | .int _,_,.leaf,_,h,v,hv=>by rw[show _=_ from h]at hv;simp at hv;subst hv;rfl
 | .bool,_,.leaf,_,h,v,hv=>by rw[show _=_ from h]at hv;simp at hv;subst hv;rfl
 | .str,_,.leaf,_,h,v,hv=>by rw[show _=_ from h]at hv;simp at hv;subst hv;rfl
 | .sl e,l,.sl m,cs,h,v,hv=>by obtain⟨u,rfl,hr⟩:=h;simp at hv;subst hv;exact hr.one
 | .pair a b,p,.pair s1 s2,cs,h,v,hv=>by
   obtain⟨c1,c2,rfl,h1,h2⟩:=h
   rcases List.mem_append.1 hv with hv|hv
   ·exact aW.one h1 v hv
   ·exact aW.one h2 v hv
 | .int _,_,.sl _,_,h,_,_| .int _,_,.pair _ _,_,h,_,_| .bool,_,.sl _,_,h,_,_| .bool,_,.pair _ _,_,h,_,_
 | .str,_,.sl _,_,h,_,_| .str,_,.pair _ _,_,h,_,_| .sl _,_,.leaf,_,h,_,_| .sl _,_,.pair _ _,_,h,_,_
 | .pair _ _,_,.leaf,_,h,_,_| .pair _ _,_,.sl _,_,h,_,_=>h.elim
theorem aW.sub:∀ {p:List Bool} {τ:Ty} {x:τ.den} {sh:Sh} {cs:List Value} {r:TV},fI τ x sh p=some r→aW w G τ x sh cs→
 aW w G r.τ r.x r.sh ((cs.drop (τ.off p)).take r.τ.sz)∧τ.off p+r.τ.sz≤τ.sz∧τ.sub p=some r.τ∧(∀c∈r.sh.aD,c∈sh.aD)
 | [],τ,x,sh,cs,r,hr,h=>by
   have:r=⟨τ,x,sh⟩:=by cases τ<;>simp_all[fI]
   subst this
   refine⟨?_,?_,?_,fun c hc=>hc⟩
   ·have:=aW.len h
    cases τ<;>simpa[Ty.off,List.take_of_length_le (Nat.le_of_eq this)]using h
   ·cases τ<;>simp[Ty.off]
   ·cases τ<;>simp[Ty.sub]
 |false::p,.pair a b,x,.pair s1 s2,cs,r,hr,h=>by
  obtain⟨c1,c2,rfl,h1,h2⟩:=h
  obtain⟨hv,hle,hs,hc⟩:=aW.sub (p:=p) (by simpa[fI]using hr) h1
  have hl:=aW.len h1
  refine⟨?_,by simp only[Ty.off,Ty.sz];omega,by simpa[Ty.sub]using hs,fun c hcc=>by simp[Sh.aD,hc c hcc]⟩
  simp only[Ty.off]
  rw[List.drop_append_of_le_length (by omega),List.take_append_of_le_length (by simp;omega)]
  exact hv
 |true::p,.pair a b,x,.pair s1 s2,cs,r,hr,h=>by
  obtain⟨c1,c2,rfl,h1,h2⟩:=h
  obtain⟨hv,hle,hs,hc⟩:=aW.sub (p:=p) (by simpa[fI]using hr) h2
  have hl:=aW.len h1
  refine⟨?_,by simp only[Ty.off,Ty.sz];omega,by simpa[Ty.sub]using hs,fun c hcc=>by simp[Sh.aD,hc c hcc]⟩
  simp only[Ty.off]
  rw[←hl,List.drop_append,List.drop_of_length_le (by omega)]
  simpa using hv
 |b::p,.int _,_,_,_,_,hr,_|b::p,.bool,_,_,_,_,hr,_|b::p,.str,_,_,_,_,hr,_|b::p,.sl _,_,_,_,_,hr,_=>by simp[fI]at hr
 |false::p,.pair _ _,_,.leaf,_,_,hr,_|false::p,.pair _ _,_,.sl _,_,_,hr,_=>by simp[fI]at hr
 |true::p,.pair _ _,_,.leaf,_,_,hr,_|true::p,.pair _ _,_,.sl _,_,_,hr,_=>by simp[fI]at hr
theorem cK {v:TV} {τ:Ty} {y:τ.den} (h:ed v τ=some y):v=⟨τ,y,v.sh⟩:=by
 obtain⟨σ,x,sh⟩:=v
 unfold ed at h
 split at h
 ·rename_i e;simp only at e;subst e;simp only[cast_eq,Option.some.injEq]at h;subst h;rfl
 ·cases h
theorem aW.put:∀ {p:List Bool} {τ:Ty} {x:τ.den} {sh:Sh} {cs:List Value} {v:TV} {y:τ.den} {s:Sh} {cv:List Value},
 dU τ x sh p v=some (y,s)→aW w G τ x sh cs→aW w G v.τ v.x v.sh cv→
 aW w G τ y s (cs.take (τ.off p)++cv++cs.drop (τ.off p+v.τ.sz))∧τ.off p+v.τ.sz≤τ.sz∧(∀c∈s.aD,c∈sh.aD∨c∈v.sh.aD)
 | [],τ,x,sh,cs,v,y,s,cv,hp,h,hv=>by
   have hp':ed v τ=some y∧s=v.sh:=by
    cases τ<;>(simp only[dU]at hp;split at hp<;>simp_all)
   obtain⟨hc,rfl⟩:=hp'
   have e:=cK hc
   have hl:=aW.len h
   have h0:τ.off []=0:=by cases τ<;>rfl
   have hτ:v.τ=τ:=by rw[e]
   refine⟨?_,by rw[h0,hτ];omega,fun c hcc=> .inr hcc⟩
   rw[h0,hτ,List.take_zero,List.nil_append,Nat.zero_add,List.drop_of_length_le (by omega),List.append_nil]
   rw[e]at hv;exact hv
 |false::p,.pair a b,x,.pair s1 s2,cs,v,y,s,cv,hp,h,hv=>by
  obtain⟨c1,c2,rfl,h1,h2⟩:=h
  simp only[dU]at hp
  split at hp
  ·rename_i y1 s1' hq
   cases hp
   obtain⟨hv',hle,hcs⟩:=aW.put hq h1 hv
   have hl:=aW.len h1
   refine⟨⟨_,c2,?_,hv',h2⟩,by simp only[Ty.off,Ty.sz];omega,fun c hc=> ?_⟩
   ·simp only[Ty.off]
    rw[List.take_append_of_le_length (by omega),List.drop_append_of_le_length (by omega)]
    simp
   ·simp only[Sh.aD,List.mem_append]at hc⊢
    rcases hc with hc|hc
    ·rcases hcs c hc with h|h
     ·exact .inl (.inl h)
     ·exact .inr h
    ·exact .inl (.inr hc)
  ·cases hp
 |true::p,.pair a b,x,.pair s1 s2,cs,v,y,s,cv,hp,h,hv=>by
  obtain⟨c1,c2,rfl,h1,h2⟩:=h
  simp only[dU]at hp
  split at hp
  ·rename_i y1 s1' hq
   cases hp
   obtain⟨hv',hle,hcs⟩:=aW.put hq h2 hv
   have hl:=aW.len h1
   refine⟨⟨c1,_,?_,h1,hv'⟩,by simp only[Ty.off,Ty.sz];omega,fun c hc=> ?_⟩
   ·simp only[Ty.off]
    rw[←hl,List.take_append,List.take_of_length_le (by omega),List.drop_append,List.drop_of_length_le (by omega)]
    simp[Nat.add_assoc]
   ·simp only[Sh.aD,List.mem_append]at hc⊢
    rcases hc with hc|hc
    ·exact .inl (.inl hc)
    ·rcases hcs c hc with h|h
     ·exact .inl (.inr h)
     ·exact .inr h
  ·cases hp
 |b::p,.int _,_,_,_,_,_,_,_,hp,_,_|b::p,.bool,_,_,_,_,_,_,_,hp,_,_|b::p,.str,_,_,_,_,_,_,_,hp,_,_|b::p,.sl _,_,_,_,_,_,_,_,hp,_,_=>by simp[dU]at hp
 |false::p,.pair _ _,_,.leaf,_,_,_,_,_,hp,_,_|false::p,.pair _ _,_,.sl _,_,_,_,_,_,hp,_,_=>by simp[dU]at hp
 |true::p,.pair _ _,_,.leaf,_,_,_,_,_,hp,_,_|true::p,.pair _ _,_,.sl _,_,_,_,_,_,hp,_,_=>by simp[dU]at hp
theorem lk:∀(τ:Ty) (m:M),∀c∈(fB τ m).aD,c∈m.aD
 | .int _,_,c,h| .bool,_,c,h| .str,_,c,h=>by simp[fB,Sh.aD]at h
 | .sl _,_,c,h=>h
 | .pair a b,m,c,h=>by
   simp only[fB,Sh.aD,List.mem_append]at h
   rcases h with h|h
   ·exact lk a m c h
   ·exact lk b m c h
theorem aW.Ap:∀ {τ:Ty} {x:τ.den} {cs:List Value} {B:List Nat} {hs:List Nat},aR w τ x cs B→(∀b∈B,G.col b∈hs)→hs≠ []→aW w G τ x (fB τ (.sha hs)) cs
 | .int _,_,_,_,_,h,_,_=>h.1
 | .bool,_,_,_,_,h,_,_=>h.1
 | .str,_,_,_,_,h,_,_=>h.1
 | .sl e,l,cs,B,hs,h,hb,hn=>by obtain⟨v,rfl,hr⟩:=h;exact⟨v,rfl,⟨B,hr,hb⟩,fun e=>absurd e hn⟩
 | .pair a b,p,cs,B,hs,h,hb,hn=>by
   obtain⟨c1,c2,B1,B2,rfl,rfl,h1,h2⟩:=h
   exact⟨c1,c2,rfl,aW.Ap h1 (fun b hb'=>hb b (by simp[hb'])) hn,aW.Ap h2 (fun b hb'=>hb b (by simp[hb'])) hn⟩
theorem aW.zero:∀(τ:Ty),aW w G τ τ.aa (fB τ (.sha [])) τ.zero
 | .int _=>rfl
 | .bool=>rfl
 | .str=>rfl
 | .sl _=>⟨_,rfl,⟨[],.inl ⟨⟨none,rfl⟩,rfl,rfl⟩,by simp⟩,fun _=>rfl⟩
 | .pair a b=>⟨_,_,rfl,aW.zero a,aW.zero b⟩
theorem bW.rep {e:Ty} {l:List e.den} {v:Value} {m:M} (h:bW w G e l v m) (hl:m≠ .dead):
 ∃B,dI w e.sz (aR w e) l v B∧∀b∈B,G.col b∈m.aD:=by
 cases m with
 |row t hs nd=>
  obtain⟨_,_,B,hB,hc⟩:=h
  refine⟨B,hB,fun b hb=> ?_⟩
  cases B with
  |nil=>cases hb
  |cons x Bs=>
   obtain⟨h1,_,h3,_⟩:=hc x Bs rfl
   rcases List.mem_cons.1 hb with rfl|hb
   ·simp[M.aD,h1]
   ·simp[M.aD,h3 b hb]
 |sha hs=>exact h.1
 |dead=>exact absurd rfl hl
theorem aW.rep:∀ {τ:Ty} {x:τ.den} {sh:Sh} {cs:List Value},aW w G τ x sh cs→sh.live=true→∃B,aR w τ x cs B∧∀b∈B,G.col b∈sh.aD
 | .int _,_,.leaf,_,h,_=>⟨[],⟨h,rfl⟩,by simp⟩
 | .bool,_,.leaf,_,h,_=>⟨[],⟨h,rfl⟩,by simp⟩
 | .str,_,.leaf,_,h,_=>⟨[],⟨h,rfl⟩,by simp⟩
 | .sl e,l,.sl m,cs,h,hl=>by
   obtain⟨v,rfl,hr⟩:=h
   obtain⟨B,hB,hc⟩:=hr.rep (by rintro rfl;simp[Sh.live]at hl)
   exact⟨B,⟨v,rfl,hB⟩,hc⟩
 | .pair a b,p,.pair s1 s2,cs,h,hl=>by
   obtain⟨c1,c2,rfl,h1,h2⟩:=h
   simp only[Sh.live,Bool.and_eq_true]at hl
   obtain⟨B1,r1,hc1⟩:=aW.rep h1 hl.1
   obtain⟨B2,r2,hc2⟩:=aW.rep h2 hl.2
   refine⟨B1++B2,⟨c1,c2,B1,B2,rfl,rfl,r1,r2⟩,fun b hb=> ?_⟩
   simp only[Sh.aD,List.mem_append]
   rcases List.mem_append.1 hb with hb|hb
   ·exact .inl (hc1 b hb)
   ·exact .inr (hc2 b hb)
 | .int _,_,.sl _,_,h,_| .int _,_,.pair _ _,_,h,_| .bool,_,.sl _,_,h,_| .bool,_,.pair _ _,_,h,_
 | .str,_,.sl _,_,h,_| .str,_,.pair _ _,_,h,_| .sl _,_,.leaf,_,h,_| .sl _,_,.pair _ _,_,h,_
 | .pair _ _,_,.leaf,_,h,_| .pair _ _,_,.sl _,_,h,_=>h.elim
theorem uw:∀ {τ:Ty} {cs r:List Value} {x:τ.den},decode τ cs=some (x,r)→∃c,cs=c++r∧aW w G τ x (fB τ (.sha [])) c
 | .int k,cs,r,x,h=>by
   match cs,h with
   | .int k' n::r',h=>
     simp only[decode]at h
     split at h
     ·rename_i e;simp only[Option.some.injEq,Prod.mk.injEq]at h;obtain⟨rfl,rfl⟩:=h;subst e;exact⟨[_],rfl,rfl⟩
     ·cases h
 | .bool,cs,r,x,h=>by
   match cs,h with
   | .bool b::r',h=>simp only[decode,Option.some.injEq,Prod.mk.injEq]at h;obtain⟨rfl,rfl⟩:=h;exact⟨[_],rfl,rfl⟩
 | .str,cs,r,x,h=>by
   match cs,h with
   | .string b::r',h=>simp only[decode,Option.some.injEq,Prod.mk.injEq]at h;obtain⟨rfl,rfl⟩:=h;exact⟨[_],rfl,rfl⟩
 | .sl e,cs,r,x,h=>by
   match cs,h with
   | .slice none 0 0::r',h=>simp only[decode,Option.some.injEq,Prod.mk.injEq]at h;obtain⟨rfl,rfl⟩:=h;exact⟨[_],rfl,_,rfl,⟨[],.inl ⟨⟨none,rfl⟩,rfl,rfl⟩,by simp⟩,fun _=>rfl⟩
 | .pair a b,cs,r,x,h=>by
   simp only[decode]at h
   split at h
   ·rename_i x1 r1 h1
    split at h
    ·rename_i y1 r2 h2
     simp only[Option.some.injEq,Prod.mk.injEq]at h
     obtain⟨rfl,rfl⟩:=h
     obtain⟨c1,rfl,g1⟩:=uw h1
     obtain⟨c2,rfl,g2⟩:=uw h2
     exact⟨c1++c2,by simp,c1,c2,rfl,g1,g2⟩
    ·cases h
   ·cases h
theorem QY {τ:Ty} {v:Value} {r:TV} (h:Ny τ v=some r):bI w G (.d r) v∧r.sh=fB r.τ (.sha [])∧r.τ=τ:=by
 unfold Ny at h
 split at h
 ·rename_i a b cs
  split at h
  ·rename_i x hd
   cases h
   obtain⟨c,hc,hr⟩:=uw (w:=w) (G:=G) hd
   refine⟨⟨c,?_,hr⟩,rfl,rfl⟩
   simp only[List.append_nil]at hc
   simp[bT,←hc]
  ·cases h
 ·cases h
 ·rename_i hnp
  split at h
  ·rename_i x hd
   cases h
   obtain⟨c,hc,hr⟩:=uw (w:=w) (G:=G) hd
   refine⟨⟨c,?_,hr⟩,rfl,rfl⟩
   simp only[List.append_nil]at hc
   subst hc
   cases τ with
   |pair a b=>
    exfalso
    have:=hr.len
    simp only[List.length_singleton,Ty.sz]at this
    have h1:=a.kG;have h2:=b.kG;omega
   |_=>rfl
  ·cases h
end
end Vg
namespace Vg
open Go
def SZ (P:Program) (t:TypeId) (τ:Ty):Prop:=
 ∀(w:World) (op:BinOp) (x y:Operand) (a b:τ.den) (c1 c2:List Value),(op= .eql∨op= .neq)→aR w τ a c1 []→aR w τ b c2 []→
  (do eqGuard op t x y (bT τ c1) (bT τ c2);binOp op t (bT τ c1) (bT τ c2)).run P w= .ok (.bool (if op= .eql then eqv τ a b else !eqv τ a b)) w
structure CxTy (P:Program) (C:Cx):Prop where
 tt:∀t i,C.tt t=some i→H6 P t i
 eq:∀t i,C.tt t=some i→i.τ.bJ=true→i.τ.flat=true→SZ P t i.τ
 fs:∀t i,C.tt t=some i→i.τ.bJ=false→i.fs=[]
 u8:∀t i,C.tt t=some i→i.τ= .sl (.int .u8)→P.underlying i.el=some (.int .u8)
def aX (U:Nat→Prop) (G:Gh) (v:SV):Prop:=
 (∀c∈v.sc,0<c∧U c∧G.bx c=false)∧(∀c∈v.bt,0<c∧U c∧G.bx c=true)∧(∀c∈v.rt,0<c∧U c∧G.bx c=false)
def RI (ops:List Oper) (E:Env) (tmps:Array Value):Prop:=
 ∀s j w act v,E.s.getD s .no= .g j w act v→(act=true↔yielded ops.toArray tmps j=some w)
def Gd (ops:List Oper) (tmps:Array Value) (G:Option (Nat×Bool)):Prop:=∀j w,G=some (j,w)→yielded ops.toArray tmps j=some w
def Yields (w0:World) (c0:C0) (U:Nat→Prop) (E:Env) (a:Act) (r:Result Next) (sv:SV):Prop:=
 ∃mv w' G',r= .ok (.value mv) w'∧Inv w0 c0 U E a w' G'∧bI w' G' sv mv∧aX U G' sv∧(∀t u,sv= .box t u→∀s u',E.s.getD s .no≠ .box t u')
section
variable {P:Program} {C:Cx} {w0:World} {c0:C0} {U:Nat→Prop} {E:Env} {a:Act} {w:World} {G:Gh} {ops:List Oper} {g:Option (Nat×Bool)}
theorem Inv.kV (h:Inv w0 c0 U E a w G) (s:Nat):aX U G (E.s.getD s .no):=⟨h.sc s,h.bt s,h.rt s⟩
theorem aX.nil {v:TV} (h:v.sh.aD=[]):aX U G (.d v):=⟨by simp[SV.sc,h],by simp[SV.bt],by simp[SV.rt]⟩
theorem aX.d {v:TV} (h:∀c∈v.sh.aD,0<c∧U c∧G.bx c=false):aX U G (.d v):=⟨h,by simp[SV.bt],by simp[SV.rt]⟩
theorem UB {s:SV} {v:Value} (hI:bI w G s v) (hR:∀j w' act u,s= .g j w' act u→(act=true↔yielded ops.toArray a.tmps j=some w')) (hg:Gd ops a.tmps g) {sv:SV} (h:Cv g s=some sv):
 bI w G sv v∧(∀c∈sv.sc,c∈s.sc)∧(∀c∈sv.bt,c∈s.bt)∧(∀c∈sv.rt,c∈s.rt):=by
 cases s with
 |g j w' act u=>
  simp only[Cv]at h
  split at h
  ·rename_i e
   cases h
   have hact:act=true:=(hR j w' act sv rfl).2 (hg j w' e)
   subst hact
   exact⟨(hI.1 rfl).2,fun c hc=>by simpa[SV.sc]using hc,fun c hc=>by simpa[SV.bt]using hc,fun c hc=>by simpa[SV.rt]using hc⟩
  ·cases h
 |_=>simp only[Cv,Option.some.injEq]at h;subst h;exact⟨hI,fun c hc=>hc,fun c hc=>hc,fun c hc=>hc⟩
theorem tO:∀ {sv:SV} {v:Value},bI w G sv v→bI w G (cu sv) v
 | .box t u,v,h=>by obtain⟨bk,c,el,h1,h2,h3,h4,h5,h6⟩:=h;exact⟨bk,h2,h3.trans h1,h1⟩
 | .g j w' act u,v,h=>⟨fun e=>⟨by
  have:=(h.1 e).1
  cases u<;>first|rfl|(simp[SV.dQ]at this),tO (h.1 e).2⟩,h.2⟩
 | .no,_,h| .d _,_,h| .ptr ..,_,h| .ept ..,_,h| .rdp ..,_,h| .tup _,_,h=>h
theorem KS:∀sv:SV,(∀c∈(cu sv).sc,c∈sv.sc)∧(∀c∈(cu sv).bt,c∈sv.bt)∧(∀c∈(cu sv).rt,c∈sv.rt)
 | .box t u=>⟨by simp[cu,SV.sc],by simp[cu,SV.bt],by simp[cu,SV.rt]⟩
 | .g j w' true u=>by
   obtain⟨h1,h2,h3⟩:=KS u
   exact⟨fun c hc=>by simp only[cu,SV.sc,if_true]at hc⊢;exact h1 c hc,fun c hc=>by simp only[cu,SV.bt,if_true]at hc⊢;exact h2 c hc,fun c hc=>by simp only[cu,SV.rt,if_true]at hc⊢;exact h3 c hc⟩
 | .g j w' false u=>⟨fun c hc=>by simp[cu,SV.sc]at hc,fun c hc=>by simp[cu,SV.bt]at hc,fun c hc=>by simp[cu,SV.rt]at hc⟩
 | .no| .d _| .ptr ..| .ept ..| .rdp ..| .tup _=>⟨fun _ h=>h,fun _ h=>h,fun _ h=>h⟩
theorem Cp:∀sv t u,cu sv≠ .box t u
 | .box _ _,_,_,h| .g _ _ _ _,_,_,h| .no,_,_,h| .d _,_,_,h| .ptr ..,_,_,h| .ept ..,_,_,h| .rdp ..,_,_,h| .tup _,_,_,h=>by simp[cu]at h
theorem Ps (hI:Inv w0 c0 U E a w G) {t:TypeId} {x:Operand} {sv:SV} (h:eY C E.rd t x=some sv):bI w G sv (a.eval x)∧aX U G sv:=by
 cases x with
 |tmp s=>
  simp only[eY,Option.some.injEq]at h
  subst h
  have hm:=hI.kV s
  obtain⟨h1,h2,h3⟩:=KS (E.s.getD s .no)
  exact⟨tO (hI.slots s),fun c hc=>hm.1 c (h1 c hc),fun c hc=>hm.2.1 c (h2 c hc),fun c hc=>hm.2.2 c (h3 c hc)⟩
 |const v=>
  simp only[eY]at h
  split at h
  ·rw[Option.map_eq_some_iff]at h
   obtain⟨r,hr,rfl⟩:=h
   obtain⟨h1,h2,h3⟩:=QY (w:=w) (G:=G) hr
   refine⟨h1,aX.d fun c hc=> ?_⟩
   rw[h2]at hc
   have:=lk _ _ c hc
   simp[M.aD]at this
  ·cases h
 |global g=>simp[eY]at h
 |func f=>simp[eY]at h
theorem Q9 (hR:RI ops E a.tmps) {t:TypeId} {x:Operand} {s:SV} (h:eY C E.rd t x=some s):
 ∀j w' act u,s= .g j w' act u→(act=true↔yielded ops.toArray a.tmps j=some w'):=by
 intro j w' act u e
 cases x with
 |tmp n=>
  simp only[eY,Option.some.injEq]at h
  have h':cu (E.s.getD n .no)= .g j w' act u:=h.trans e
  cases hs:E.s.getD n .no with
  |g j' w'' act' u'=>rw[hs]at h';simp only[cu,SV.g.injEq]at h';obtain⟨rfl,rfl,rfl,_⟩:=h';exact hR n j' w'' act' u' hs
  |_=>rw[hs]at h';simp[cu]at h'
 |const v=>
  simp only[eY]at h
  split at h
  ·rw[Option.map_eq_some_iff]at h;obtain⟨r,hr,rfl⟩:=h;cases e
  ·cases h
 |global g=>simp[eY]at h
 |func f=>simp[eY]at h
theorem en (hI:Inv w0 c0 U E a w G) (hR:RI ops E a.tmps) (hg:Gd ops a.tmps g) {t:TypeId} {x:Operand} {sv:SV} (h:arg C E.rd g t x=some sv):
 bI w G sv (a.eval x)∧aX U G sv:=by
 simp only[arg,Option.bind_eq_some_iff]at h
 obtain⟨s,hs,hu⟩:=h
 obtain⟨h1,h2⟩:=Ps hI hs
 obtain⟨h3,h4,h5,h6⟩:=UB h1 (Q9 hR hs) hg hu
 exact⟨h3,fun c hc=>h2.1 c (h4 c hc),fun c hc=>h2.2.1 c (h5 c hc),fun c hc=>h2.2.2 c (h6 c hc)⟩
theorem fW (hI:Inv w0 c0 U E a w G) (hR:RI ops E a.tmps) (hg:Gd ops a.tmps g) {t:TypeId} {x:Operand} {v:TV} (h:cJ C E.rd g t x=some v):
 (∃cs,a.eval x=bT v.τ cs∧aW w G v.τ v.x v.sh cs)∧(∀c∈v.sh.aD,0<c∧U c∧G.bx c=false)∧v.sh.live=true:=by
 simp only[cJ]at h
 split at h
 ·rename_i u hu
  split at h
  ·rename_i hl
   cases h
   obtain⟨h1,h2⟩:=en hI hR hg hu
   exact⟨h1,h2.1,hl⟩
  ·cases h
 ·cases h
/-scalars-/
theorem cU (hI:Inv w0 c0 U E a w G) (hR:RI ops E a.tmps) (hg:Gd ops a.tmps g) {t:TypeId} {x:Operand} {k:IntKind} {n:Int} {sh:Sh}
 (h:cJ C E.rd g t x=some ⟨.int k,n,sh⟩):a.eval x= .int k n:=by
 obtain⟨⟨cs,h1,h2⟩,_⟩:=fW hI hR hg h
 cases sh with
 |leaf=>rw[h1,show cs=_ from h2];rfl
 |sl m=>exact h2.elim
 |pair a b=>exact h2.elim
theorem zp (hI:Inv w0 c0 U E a w G) (hR:RI ops E a.tmps) (hg:Gd ops a.tmps g) {t:TypeId} {x:Operand} {b:Bool} {sh:Sh}
 (h:cJ C E.rd g t x=some ⟨.bool,b,sh⟩):a.eval x= .bool b:=by
 obtain⟨⟨cs,h1,h2⟩,_⟩:=fW hI hR hg h
 cases sh with
 |leaf=>rw[h1,show cs=_ from h2];rfl
 |sl m=>exact h2.elim
 |pair a b=>exact h2.elim
theorem kU (hI:Inv w0 c0 U E a w G) (hR:RI ops E a.tmps) (hg:Gd ops a.tmps g) {t:TypeId} {x:Operand} {s:ByteArray} {sh:Sh}
 (h:cJ C E.rd g t x=some ⟨.str,s,sh⟩):a.eval x= .string s:=by
 obtain⟨⟨cs,h1,h2⟩,_⟩:=fW hI hR hg h
 cases sh with
 |leaf=>rw[h1,show cs=_ from h2];rfl
 |sl m=>exact h2.elim
 |pair a b=>exact h2.elim
theorem j7 (hI:Inv w0 c0 U E a w G) (hR:RI ops E a.tmps) (hg:Gd ops a.tmps g) {t:TypeId} {x:Operand} {e:Ty} {l:List e.den} {sh:Sh}
 (h:cJ C E.rd g t x=some ⟨.sl e,l,sh⟩):∃m,sh= .sl m∧bW w G e l (a.eval x) m∧m≠ .dead∧(∀c∈m.aD,0<c∧U c∧G.bx c=false):=by
 obtain⟨⟨cs,h1,h2⟩,h3,h4⟩:=fW hI hR hg h
 cases sh with
 |leaf=>exact h2.elim
 |sl m=>
  obtain⟨v,rfl,hr⟩:=h2
  exact⟨m,rfl,by rw[h1];exact hr,by rintro rfl;simp[Sh.live]at h4,h3⟩
 |pair a b=>exact h2.elim
theorem cf (hI:Inv w0 c0 U E a w G) {r:Result Next} {sv:SV} {mv:Value} (hr:r= .ok (.value mv) w) (hs:bI w G sv mv) (hm:aX U G sv)
 (hb:∀t u,sv≠ .box t u):Yields w0 c0 U E a r sv:=⟨mv,w,G,hr,hI,hs,hm,fun t u e=>absurd e (hb t u)⟩
theorem ok_int (k:IntKind) (n:Int):bI w G (vI k n) (.int k n):=⟨_,rfl,rfl⟩
theorem TH (b:Bool):bI w G (vB b) (.bool b):=⟨_,rfl,rfl⟩
theorem UG (s:ByteArray):bI w G (vS s) (.string s):=⟨_,rfl,rfl⟩
theorem MU (k:IntKind) (n:Int):aX U G (vI k n):=aX.nil rfl
theorem Rx (b:Bool):aX U G (vB b):=aX.nil rfl
theorem Si (s:ByteArray):aX U G (vS s):=aX.nil rfl
theorem cQ (hI:Inv w0 c0 U E a w G) {r:Result Next} {k:IntKind} {n:Int} (hr:r= .ok (.value (.int k n)) w):Yields w0 c0 U E a r (vI k n):=
 cf hI hr (ok_int k n) (MU k n) (by rintro t u ⟨⟩)
theorem cq (hI:Inv w0 c0 U E a w G) {r:Result Next} {b:Bool} (hr:r= .ok (.value (.bool b)) w):Yields w0 c0 U E a r (vB b):=
 cf hI hr (TH b) (Rx b) (by rintro t u ⟨⟩)
theorem lS (hI:Inv w0 c0 U E a w G) {r:Result Next} {s:ByteArray} (hr:r= .ok (.value (.string s)) w):Yields w0 c0 U E a r (vS s):=
 cf hI hr (UG s) (Si s) (by rintro t u ⟨⟩)
def ib (w0:World) (c0:C0) (U:Nat→Prop) (E:Env) (a:Act) (r:Result Next):Ef→Prop
 | .val v=>Yields w0 c0 U E a r v
 | .chk c v=>c=true→Yields w0 c0 U E a r v
 |_=>False
/-move,assign-/
theorem O9:∀ {sv:SV} {j w' act u},cu sv= .g j w' act u→∃u',sv= .g j w' act u'∧u=cu u'
 | .g _ _ _ v,j,w',act,u,h=>by simp only[cu,SV.g.injEq]at h;obtain⟨rfl,rfl,rfl,rfl⟩:=h;exact⟨v,rfl,rfl⟩
 | .box _ _,_,_,_,_,h| .no,_,_,_,_,h| .d _,_,_,_,_,h| .ptr ..,_,_,_,_,h| .ept ..,_,_,_,_,h| .rdp ..,_,_,_,_,h| .tup _,_,_,_,_,h=>by simp[cu]at h
theorem RC {t:TypeId} {x:Operand} {sv:SV} (h:arg C E.rd g t x=some sv):∀b u,sv≠ .box b u:=by
 intro b u e
 subst e
 simp only[arg,Option.bind_eq_some_iff]at h
 obtain⟨s,hs,hu⟩:=h
 cases x with
 |tmp n=>
  simp only[eY,Option.some.injEq]at hs
  cases hsv:s with
  |g j w' act v=>
   obtain⟨u',_,rfl⟩:=O9 (hs.trans hsv)
   rw[hsv]at hu
   simp only[Cv]at hu
   split at hu
   ·simp only[Option.some.injEq]at hu;exact Cp _ b u hu
   ·cases hu
  |_=>
   rw[hsv]at hu
   simp only[Cv,Option.some.injEq,reduceCtorEq]at hu
   try (rw[←hs]at hsv;exact Cp _ b u (hsv.trans hu))
 |const v=>
  simp only[eY]at hs
  split at hs
  ·rw[Option.map_eq_some_iff]at hs;obtain⟨r,hr,rfl⟩:=hs;simp[Cv]at hu
  ·cases hs
 |global g=>simp[eY]at hs
 |func f=>simp[eY]at hs
theorem Pz (hI:Inv w0 c0 U E a w G) (hR:RI ops E a.tmps) (hg:Gd ops a.tmps g) {t:TypeId} {x:Operand} {sv:SV} (h:arg C E.rd g t x=some sv)
 {r:Result Next} (hr:r= .ok (.value (a.eval x)) w):Yields w0 c0 U E a r sv:=
 cf hI hr (en hI hR hg h).1 (en hI hR hg h).2 (RC h)
theorem TS (hI:Inv w0 c0 U E a w G) {op:BinOp} {k k':IntKind} {m n:Int} {t:TypeId} {x y:Operand} {ef:Ef} (hk:k=k'∨op= .shl∨op= .shr)
 (hx:a.eval x= .int k m) (hy:a.eval y= .int k' n) (h:SH op k m n=some ef):
 ib w0 c0 U E a ((do pure (.value (←(do eqGuard op t x y (a.eval x) (a.eval y);binOp op t (a.eval x) (a.eval y)))):Sem Next).run P w) ef:=by
 rw[hx,hy]
 have hgd:∀v,eqGuard op t x y (.int k m) v=pure ():=fun v=>eqGuard_at_int ..
 cases op<;>simp only[SH,Option.some.injEq,reduceCtorEq]at h<;>(try cases h)<;>simp only[ib]
 case add=>
  obtain rfl:k=k':=(by simpa using hk)
  exact cQ hI (by simp[hgd,binOp,Op.intArith])
 case sub=>
  obtain rfl:k=k':=(by simpa using hk)
  exact cQ hI (by simp[hgd,binOp,Op.intArith])
 case mul=>
  obtain rfl:k=k':=(by simpa using hk)
  exact cQ hI (by simp[hgd,binOp,Op.intArith])
 case quo=>
  obtain rfl:k=k':=(by simpa using hk)
  intro hc;have hc:=of_decide_eq_true hc;exact cQ hI (by simp[hgd,binOp,Op.intDiv,hc])
 case rem=>
  obtain rfl:k=k':=(by simpa using hk)
  intro hc;have hc:=of_decide_eq_true hc;exact cQ hI (by simp[hgd,binOp,Op.intDiv,hc])
 case and=>
  obtain rfl:k=k':=(by simpa using hk)
  exact cQ hI (by simp[hgd,binOp,Op.intBits,bits])
 case or=>
  obtain rfl:k=k':=(by simpa using hk)
  exact cQ hI (by simp[hgd,binOp,Op.intBits,bits])
 case xor=>
  obtain rfl:k=k':=(by simpa using hk)
  exact cQ hI (by simp[hgd,binOp,Op.intBits,bits])
 case shl=>intro hc;have hc:=of_decide_eq_true hc;exact cQ hI (by simp[hgd,binOp,Op.shift,Int.not_lt.2 hc])
 case shr=>intro hc;have hc:=of_decide_eq_true hc;exact cQ hI (by simp[hgd,binOp,Op.shift,Int.not_lt.2 hc])
 case eql=>
  obtain rfl:k=k':=(by simpa using hk)
  exact cq hI (by simp[hgd,binOp,Op.intCmp])
 case neq=>
  obtain rfl:k=k':=(by simpa using hk)
  exact cq hI (by simp[hgd,binOp,Op.intCmp])
 case lss=>
  obtain rfl:k=k':=(by simpa using hk)
  exact cq hI (by simp[hgd,binOp,Op.intCmp])
 case leq=>
  obtain rfl:k=k':=(by simpa using hk)
  exact cq hI (by simp[hgd,binOp,Op.intCmp])
 case gtr=>
  obtain rfl:k=k':=(by simpa using hk)
  exact cq hI (by simp[hgd,binOp,Op.intCmp])
 case geq=>
  obtain rfl:k=k':=(by simpa using hk)
  exact cq hI (by simp[hgd,binOp,Op.intCmp])
theorem TR (hI:Inv w0 c0 U E a w G) {op:BinOp} {m n:ByteArray} {t:TypeId} {x y:Operand} {ef:Ef}
 (hx:a.eval x= .string m) (hy:a.eval y= .string n) (h:Sy op m n=some ef):
 ib w0 c0 U E a ((do pure (.value (←(do eqGuard op t x y (a.eval x) (a.eval y);binOp op t (a.eval x) (a.eval y)))):Sem Next).run P w) ef:=by
 rw[hx,hy]
 have hgd:∀v,eqGuard op t x y (.string m) v=pure ():=fun v=>eqGuard_at_string ..
 cases op<;>simp only[Sy,Option.some.injEq,reduceCtorEq]at h<;>(try cases h)<;>simp only[ib]
 case add=>
  intro hc
  have hc:=of_decide_eq_true hc
  have hn:¬(9223372036854775807<(m.size:Int)+(n.size:Int)):=by omega
  exact lS hI (by simp[hgd,binOp,Op.stringOp,hn])
 case eql=>exact cq hI (by simp[hgd,binOp,Op.stringOp])
 case neq=>exact cq hI (by simp[hgd,binOp,Op.stringOp])
 case lss=>exact cq hI (by simp[hgd,binOp,Op.stringOp])
 case leq=>exact cq hI (by simp[hgd,binOp,Op.stringOp])
 case gtr=>exact cq hI (by simp[hgd,binOp,Op.stringOp])
 case geq=>exact cq hI (by simp[hgd,binOp,Op.stringOp])
end
end Vg
namespace Vg
open Go
section
variable {P:Program} {C:Cx} {w0:World} {c0:C0} {U:Nat→Prop} {E:Env} {a:Act} {w:World} {G:Gh} {ops:List Oper} {g:Option (Nat×Bool)}
theorem Cc:∀(l:List SV) (t k s:Nat) (v:TV),cF l t k=some (s,v)→k≤s∧l.getD (s-k) .no= .box t v
 | [],_,_,_,_,h=>by simp[cF]at h
 |x::l,t,k,s,v,h=>by
  have step:cF l t (k+1)=some (s,v)→k≤s∧(x::l).getD (s-k) .no= .box t v:=by
   intro h
   obtain⟨h1,h2⟩:=Cc l t (k+1) s v h
   refine⟨by omega,?_⟩
   rw[show s-k=(s-(k+1))+1 by omega]
   simpa using h2
  cases x with
  |box u y=>
   simp only[cF]at h
   split at h
   ·rename_i e;simp only[Option.some.injEq,Prod.mk.injEq]at h;obtain⟨rfl,rfl⟩:=h;subst e;exact⟨Nat.le_refl _,by simp⟩
   ·exact step h
  |_=>exact step h
theorem xB:∀ {τ:Ty} {x:τ.den} {sh:Sh} {cs:List Value} {t:Nat} {e:Ty} {l:List e.den} {hs:List Nat} {nd:Bool},
 aW w G τ x sh cs→mL t e τ x sh=some (l,hs,nd)→∃v,bW w G e l v (.row t hs nd)∧(∀c∈hs,c∈sh.aD)∧t∈sh.aD
 | .sl e',l',.sl (.row u hs' nd'),cs,t,e,l,hs,nd,hv,h=>by
   obtain⟨v,rfl,hr⟩:=hv
   simp only[mL]at h
   split at h
   ·rename_i e1
    split at h
    ·rename_i e2
     subst e1 e2
     simp only[cast_eq,Option.some.injEq,Prod.mk.injEq]at h
     obtain⟨rfl,rfl,rfl⟩:=h
     exact⟨v,hr,fun c hc=>by simp[Sh.aD,M.aD,hc],by simp[Sh.aD,M.aD]⟩
    ·cases h
   ·cases h
 | .pair a b,p,.pair s1 s2,cs,t,e,l,hs,nd,hv,h=>by
   obtain⟨c1,c2,rfl,h1,h2⟩:=hv
   simp only[mL]at h
   split at h
   ·rename_i r hr
    cases h
    obtain⟨v,g1,g2,g3⟩:=xB h1 hr
    exact⟨v,g1,fun c hc=>by simp[Sh.aD,g2 c hc],by simp[Sh.aD,g3]⟩
   ·obtain⟨v,g1,g2,g3⟩:=xB h2 h
    exact⟨v,g1,fun c hc=>by simp[Sh.aD,g2 c hc],by simp[Sh.aD,g3]⟩
 | .sl _,_,.leaf,_,_,_,_,_,_,_,h| .sl _,_,.pair _ _,_,_,_,_,_,_,_,h| .sl _,_,.sl (.sha _),_,_,_,_,_,_,_,h| .sl _,_,.sl .dead,_,_,_,_,_,_,_,h
 | .int _,_,_,_,_,_,_,_,_,_,h| .bool,_,_,_,_,_,_,_,_,_,h| .str,_,_,_,_,_,_,_,_,_,h
 | .pair _ _,_,.leaf,_,_,_,_,_,_,_,h| .pair _ _,_,.sl _,_,_,_,_,_,_,_,h=>by simp[mL]at h
theorem EL:∀(L:List SV) {t:Nat} {e:Ty} {l:List e.den} {hs:List Nat} {nd:Bool},(∀s∈L,∃mv,bI w G s mv)→dx t e L=some (l,hs,nd)→
 ∃s∈L,(∃v,bW w G e l v (.row t hs nd))∧(∀c∈hs,c∈s.sc)∧t∈s.sc
 | [],_,_,_,_,_,_,h=>by simp[dx]at h
 |x::L,t,e,l,hs,nd,hL,h=>by
  have step:dx t e L=some (l,hs,nd)→∃s∈x::L,(∃v,bW w G e l v (.row t hs nd))∧(∀c∈hs,c∈s.sc)∧t∈s.sc:=by
   intro h
   obtain⟨s,h1,h2⟩:=EL L (fun s hs=>hL s (List.mem_cons_of_mem _ hs)) h
   exact⟨s,List.mem_cons_of_mem _ h1,h2⟩
  obtain⟨mv,hx⟩:=hL x (by simp)
  cases x with
  |d v=>
   simp only[dx]at h
   split at h
   ·rename_i r hr
    cases h
    obtain⟨cs,_,hv⟩:=hx
    obtain⟨u,g1,g2,g3⟩:=xB hv hr
    exact⟨.d v,by simp,⟨u,g1⟩,g2,g3⟩
   ·exact step h
  |box b v=>
   simp only[dx]at h
   split at h
   ·rename_i r hr
    cases h
    obtain⟨bk,c,el,_,_,_,_,_,hv⟩:=hx
    obtain⟨u,g1,g2,g3⟩:=xB hv hr
    exact⟨.box b v,by simp,⟨u,g1⟩,g2,g3⟩
   ·exact step h
  |_=>exact step h
theorem Inv.dx (hI:Inv w0 c0 U E a w G) {t:Nat} {e:Ty} {l:List e.den} {hs:List Nat} {nd:Bool} (h:E.rd.row t e=some (l,hs,nd)):
 (∃v,bW w G e l v (.row t hs nd))∧(∀c∈t::hs,0<c∧U c∧G.bx c=false):=by
 obtain⟨s,h1,h2,h3,h4⟩:=EL (w:=w) (G:=G) E.s (fun s hs=>by
  obtain⟨i,hi,rfl⟩:=List.mem_iff_getElem.1 hs
  exact⟨_,by have:=hI.slots i;simpa[List.getD,hi]using this⟩) h
 obtain⟨i,hi,rfl⟩:=List.mem_iff_getElem.1 h1
 refine⟨h2,fun c hc=> ?_⟩
 have:=hI.sc i c
 simp only[List.getD,hi,List.getElem?_eq_getElem,Option.getD_some]at this
 rcases List.mem_cons.1 hc with rfl|hc
 ·exact this h4
 ·exact this (h3 c hc)
theorem Inv.box (hI:Inv w0 c0 U E a w G) {t s:Nat} {v:TV} (h:E.rd.box t=some (s,v)):
 E.s.getD s .no= .box t v∧∃bk c el,G.hdr t= .pointer (some ⟨bk,0,none⟩)∧3≤t∧G.col bk=t∧w.heap[bk]?=some (.cells c el (0,0))∧aW w G v.τ v.x v.sh c.toList∧(∀c∈v.sh.aD,0<c∧U c∧G.bx c=false):=by
 obtain⟨_,h2⟩:=Cc E.s t 0 s v h
 simp only[Nat.sub_zero]at h2
 have hs:=hI.slots s
 have hc:=hI.sc s
 rw[h2]at hs hc
 obtain⟨bk,c,el,g1,g2,g3,g4,g5,g6⟩:=hs
 exact⟨h2,bk,c,el,g3.trans g1,g2,g4,g5,g6,hc⟩
theorem bW.elem {e:Ty} {l:List e.den} {v:Value} {t:Nat} {hs:List Nat} {nd:Bool} (h:bW w G e l v (.row t hs nd)) {i:Nat} (hi:i<l.length):
 ∃b off cap c el fz B,v= .slice (some ⟨b,off,none⟩) l.length cap∧w.heap[b]?=some (.cells c el fz)∧off+cap*e.sz≤c.size∧l.length≤cap∧G.col b=t∧
  aR w e (l.getD i e.aa) ((c.toList.drop (off+i*e.sz)).take e.sz) B∧(∀x∈B,G.col x∈hs):=by
 obtain⟨_,_,B,hB,hc⟩:=h
 rcases hB with⟨_,rfl,_⟩|⟨b,off,cap,c,el,fz,Bs,hv,hcap,hb,hsz,rfl,hl⟩
 ·simp at hi
 ·obtain⟨h1,_,h3,_⟩:=hc b Bs rfl
  have hx:l[i]?=some l[i]:=List.getElem?_eq_getElem hi
  obtain⟨B1,Bx,B2,rfl,hr,_,_⟩:=bg.get (sz:=e.sz) (fun x c B h=>aR.len h) hl hx
  refine⟨b,off,cap,c,el,fz,Bx,hv,hb,hsz,hcap,h1,?_,fun x hx=>h3 x (by simp[hx])⟩
  have hmul:(i+1)*e.sz≤l.length*e.sz:=Nat.mul_le_mul_right _ hi
  rw[Nat.add_mul,Nat.one_mul]at hmul
  rw[List.getD,hx,Option.getD_some]
  rw[List.drop_take,List.take_take,List.drop_drop,Nat.min_eq_left (by omega)]at hr
  exact hr
theorem dI.elem {e:Ty} {l:List e.den} {v:Value} {B:List Nat} (h:dI w e.sz (aR w e) l v B) {i:Nat} (hi:i<l.length):
 ∃b off cap c el fz B',v= .slice (some ⟨b,off,none⟩) l.length cap∧w.heap[b]?=some (.cells c el fz)∧off+cap*e.sz≤c.size∧l.length≤cap∧b∈B∧
  aR w e (l.getD i e.aa) ((c.toList.drop (off+i*e.sz)).take e.sz) B'∧(∀x∈B',x∈B):=by
 rcases h with⟨_,rfl,_⟩|⟨b,off,cap,c,el,fz,Bs,hv,hcap,hb,hsz,rfl,hl⟩
 ·simp at hi
 ·have hx:l[i]?=some l[i]:=List.getElem?_eq_getElem hi
  obtain⟨B1,Bx,B2,rfl,hr,_,_⟩:=bg.get (sz:=e.sz) (fun x c B h=>aR.len h) hl hx
  refine⟨b,off,cap,c,el,fz,Bx,hv,hb,hsz,hcap,by simp,?_,fun x hx=>by simp[hx]⟩
  have hmul:(i+1)*e.sz≤l.length*e.sz:=Nat.mul_le_mul_right _ hi
  rw[Nat.add_mul,Nat.one_mul]at hmul
  rw[List.getD,hx,Option.getD_some]
  rw[List.drop_take,List.take_take,List.drop_drop,Nat.min_eq_left (by omega)]at hr
  exact hr
theorem OQ {s:TypeId} {i:TI} (hT:H6 P s i) {j:Nat} (hj:j<i.fs.length) (b o:Nat):
 (Instr.fieldAt s (.pointer (some ⟨b,o,none⟩)) j).run P w= .ok (.pointer (some ⟨b,o+i.τ.off (dv i.fs.length j),none⟩)) w∨i.τ.bJ=false:=by
 obtain⟨_,hT⟩:=hT
 cases hτ:i.τ with
 |pair x y=>
  rw[hτ]at hT
  obtain⟨fields,hu,hsz,hf⟩:=hT
  left
  have hjf:j<fields.size:=by omega
  obtain⟨h1,h2,σ',h3,h4⟩:=hf j fields[j] (Array.getElem?_eq_getElem hjf)
  have hz:σ'.sz≠0:=Nat.ne_of_gt σ'.kG
  simp[Instr.fieldAt,run_underlying hu,Array.getElem?_eq_getElem hjf,Instr.sureAddr,fieldPlace,cV h4,hz,h1,Addr.add_lit]
 |_=>right;rfl
theorem Sk {τ σ:Ty} {b:Bool} {p:List Bool} (h:τ.sub (b::p)=some σ):τ.bJ=true:=by
 cases τ<;>simp[Ty.sub,Ty.bJ]at h⊢
theorem TC {hs:List Nat} {v r:TV} {mv:Value} {p:List Bool} (h:bI w G (.rdp hs v) mv) (hr:fI v.τ v.x v.sh p=some r):
 ∃b o,mv= .pointer (some ⟨b,o,none⟩)∧bI w G (.rdp hs r) (.pointer (some ⟨b,o+v.τ.off p,none⟩)):=by
 obtain⟨b,o,c,el,fz,h1,h2,h3,h4,h5⟩:=h
 obtain⟨g1,g2,g3,_⟩:=aW.sub hr h5
 refine⟨b,o,h1,b,o+v.τ.off p,c,el,fz,rfl,h2,by omega,h4,?_⟩
 rw[List.drop_take,List.take_take,List.drop_drop,Nat.min_eq_left (by omega)]at g1
 exact g1
theorem OR (hI:Inv w0 c0 U E a w G) {t:Nat} (hU:¬U t) (o:Obj) (v:Value) (x:Bool) (S:List Nat) (hS:∀c∈S,0<c∧U c):
 uM S S w (w.alloc o) G (G.add w.heap.size t v x):=by
 refine⟨fun b hb=> ?_,fun b hb=> ?_,fun u hu=> ?_⟩
 ·exact heap_alloc_old w _ b (hI.lt b (hS _ hb).1)
 ·have:=hI.lt b (hS _ hb).1
  simp[Gh.add,Nat.ne_of_lt this]
 ·have:u≠t:=fun e=>hU (e▸(hS u hu).2)
  simp[Gh.add,this]
theorem Oo (hI:Inv w0 c0 U E a w G) {t:Nat} (hU:¬U t) (s:Nat) (u:TV):E.s.getD s .no≠ .box t u:=by
 intro e
 have:=hI.bt s t (by rw[e];simp[SV.bt])
 exact hU this.2.1
theorem Kt (hI:Inv w0 c0 U E a w G) {t:Nat} (ht:3≤t) (hU:¬U t) {v:TV} {cs:List Value} (hv:aW w G v.τ v.x v.sh cs)
 (hc:∀c∈v.sh.aD,0<c∧U c∧G.bx c=false) (el:TypeId) {r:Result Next}
 (hr:r= .ok (.value (.pointer (some ⟨w.heap.size,0,none⟩))) (w.alloc (.cells cs.toArray el))):Yields w0 c0 (fun u=>U u∨u=t) E a r (.box t v):=by
 refine⟨_,_,G.add w.heap.size t (.pointer (some ⟨w.heap.size,0,none⟩)) true,hr,hI.alloc ht hU _ _ _ _,⟨w.heap.size,cs.toArray,el,rfl,ht,by simp[Gh.add],by simp[Gh.add],heap_alloc_new w _,?_⟩,⟨?_,?_,?_⟩,?_⟩
 ·exact aW.agree (OR hI hU _ _ _ _ (fun c h=>⟨(hc c h).1,(hc c h).2.1⟩)) hv
 ·intro c h
  have:=hc c h
  have hne:c≠t:=fun e=>hU (e▸this.2.1)
  exact⟨this.1,.inl this.2.1,by simp[Gh.add,hne,this.2.2]⟩
 ·intro c h
  simp only[SV.bt,List.mem_singleton]at h
  subst h
  exact⟨by omega,.inr rfl,by simp[Gh.add]⟩
 ·intro c h;simp[SV.rt]at h
 ·intro t' u e s u'
  cases e
  exact Oo hI hU s u'
theorem Am (hI:Inv w0 c0 U E a w G) {t:Nat} (ht:3≤t) (hU:¬U t) {e:Ty} {l:List e.den} {cs:List Value} {B:List Nat} {hs:List Nat} {nd:Bool} {n cap:Nat} (el:TypeId)
 (hn:n=l.length) (hl:bg (aR w e) l cs B) (hcap:n≤cap) (rest:List Value) (hsz:cap*e.sz≤cs.length+rest.length)
 (hB:∀b∈B,0<G.col b) (hs1:∀b∈B,G.col b∈hs) (hs2:∀c∈hs,(0<c∧U c∧G.bx c=false)∨c=t) (hnd:nd=true→B.Nodup)
 {r:Result Next} (hr:r= .ok (.value (.slice (some ⟨w.heap.size,0,none⟩) n cap)) (w.alloc (.cells (cs++rest).toArray el))):
 Yields w0 c0 (fun u=>U u∨u=t) E a r (.d ⟨.sl e,l,.sl (.row t hs nd)⟩):=by
 subst hn
 have hlen:=bg.len (sz:=e.sz) (fun x c B h=>aR.len h) hl
 refine⟨_,_,G.add w.heap.size t (.slice (some ⟨w.heap.size,0,none⟩) l.length cap) false,hr,hI.alloc ht hU _ _ _ _,⟨[_],rfl,_,rfl,ht,by simp[Gh.add],w.heap.size::B,?_,?_⟩,aX.d fun c hc=> ?_,by rintro _ _ ⟨⟩⟩
 ·refine .inr ⟨w.heap.size,0,cap,_,el,(0,0),B,rfl,hcap,heap_alloc_new w _,by simp;omega,rfl,?_⟩
  simp only[List.drop_zero]
  rw[List.take_append_of_le_length (by omega),List.take_of_length_le (by omega)]
  exact bg.mono (fun b=>b<w.heap.size) (fun x c B hlt hx=>aR.mono (fun b hb=>heap_alloc_old w _ b (hlt b hb)) hx) (fun b hb=>hI.lt b (hB b hb)) hl
 ·rintro b Bs ⟨⟩
  have hne:∀x∈B,x≠w.heap.size:=fun x hx=>Nat.ne_of_lt (hI.lt x (hB x hx))
  refine⟨by simp[Gh.add],fun h=>hne _ h rfl,fun x hx=> ?_,hnd⟩
  simp only[Gh.add,if_neg (hne x hx)]
  exact hs1 x hx
 ·simp only[Sh.aD,M.aD,List.mem_cons]at hc
  rcases hc with rfl|hc
  ·exact⟨by omega,.inr rfl,by simp[Gh.add]⟩
  ·rcases hs2 c hc with h|rfl
   ·have hne:c≠t:=fun e=>hU (e▸h.2.1)
    exact⟨h.1,.inl h.2.1,by simp[Gh.add,hne,h.2.2]⟩
   ·exact⟨by omega,.inr rfl,by simp[Gh.add]⟩
end
end Vg
namespace Vg
open Go
theorem foldl_set (vs:List Value):∀(off:Nat) (cs:Array Value) (k:Nat),off+k+vs.length≤cs.size→
 ((vs.zipIdx k).foldl (fun cs p=>cs.setIfInBounds (off+p.2) p.1) cs).toList=cs.toList.take (off+k)++vs++cs.toList.drop (off+k+vs.length):=by
 induction vs with
 |nil=>intro off cs k h;simp
 |cons v r ih=>
  intro off cs k h
  simp only[List.length_cons]at h
  rw[List.zipIdx_cons,List.foldl_cons,ih off _ (k+1) (by simp;omega)]
  have ho:off+k<cs.toList.length:=by simp;omega
  simp only[Array.toList_setIfInBounds]
  have hd:(cs.toList.set (off+k) v).drop (off+(k+1)+r.length)=cs.toList.drop (off+k+(r.length+1)):=by
   rw[List.drop_set_of_lt (by omega)];congr 1;omega
  have ht:(cs.toList.set (off+k) v).take (off+(k+1))=cs.toList.take (off+k)++[v]:=by
   rw[←Nat.add_assoc,List.take_succ_eq_append_getElem (by simpa using ho),List.take_set_of_le (Nat.le_refl _)]
   simp
  rw[hd,ht]
  simp
theorem yG (v:Array Value) (off:Nat) (cs:Array Value) (h:off+v.size≤cs.size):
 (v.zipIdx.foldl (fun cs (p:Value×Nat)=>cs.setIfInBounds (off+p.2) p.1) cs).toList=cs.toList.take off++v.toList++cs.toList.drop (off+v.size):=by
 rw[←Array.foldl_toList,Array.toList_zipIdx]
 simpa using foldl_set v.toList off cs 0 (by simpa using h)
section
variable {P:Program} {C:Cx} {w0:World} {c0:C0} {U:Nat→Prop} {E:Env} {a:Act} {w:World} {G:Gh} {ops:List Oper} {g:Option (Nat×Bool)}
theorem IX:∀ {p:List Bool} {τ:Ty} {x:τ.den} {sh:Sh} {v:TV} {y:τ.den} {s:Sh},dU τ x sh p v=some (y,s)→τ.sub p=some v.τ
 | [],τ,x,sh,v,y,s,h=>by
   have:ed v τ=some y:=by cases τ<;>(simp only[dU]at h;split at h<;>simp_all)
   rw[cK this];cases τ<;>rfl
 |false::p,.pair a b,x,.pair s1 s2,v,y,s,h=>by
  simp only[dU]at h
  split at h
  ·rename_i hq;simp only[Ty.sub];exact IX hq
  ·cases h
 |true::p,.pair a b,x,.pair s1 s2,v,y,s,h=>by
  simp only[dU]at h
  split at h
  ·rename_i hq;simp only[Ty.sub];exact IX hq
  ·cases h
 |b::p,.int _,_,_,_,_,_,h|b::p,.bool,_,_,_,_,_,h|b::p,.str,_,_,_,_,_,h|b::p,.sl _,_,_,_,_,_,h=>by simp[dU]at h
 |false::p,.pair _ _,_,.leaf,_,_,_,h|false::p,.pair _ _,_,.sl _,_,_,_,h=>by simp[dU]at h
 |true::p,.pair _ _,_,.leaf,_,_,_,h|true::p,.pair _ _,_,.sl _,_,_,_,h=>by simp[dU]at h
theorem MG {i:TI} {fields:Array Field} (hI:Inv w0 c0 U E a w G) (hR:RI ops E a.tmps) (hg:Gd ops a.tmps g)
 (hf:∀(j:Nat) (f:Field),fields[j]?=some f→A3 P i.τ i.fs j f) (hsz:fields.size=i.fs.length) (place:Nat→Option (Nat×Nat))
 (hpl:∀(j:Nat) (f:Field) (σ:Ty),fields[j]?=some f→i.τ.sub (dv i.fs.length j)=some σ→place j=some (f.offset,σ.sz)):
 ∀(ps:List (Nat×Operand)) (x:i.τ.den) (sh:Sh) (cells:Array Value) (y:i.τ.den) (s:Sh),aW w G i.τ x sh cells.toList→(∀c∈sh.aD,0<c∧U c∧G.bx c=false)→
  nN C E.rd g i ps x sh=some (y,s)→
  ∃cells',Instr.fill place cells (ps.map fun p=>(p.1,a.eval p.2))=some cells'∧aW w G i.τ y s cells'.toList∧(∀c∈s.aD,0<c∧U c∧G.bx c=false)
 | [],x,sh,cells,y,s,hx,hc,h=>by
   simp only[nN,Option.some.injEq,Prod.mk.injEq]at h
   obtain⟨rfl,rfl⟩:=h
   exact⟨cells,rfl,hx,hc⟩
 |(j,o)::ps,x,sh,cells,y,s,hx,hc,h=>by
  simp only[nN]at h
  split at h
  ·cases h
  ·rename_i ft hft
   split at h
   ·cases h
   ·rename_i v hv
    split at h
    ·rename_i y1 s1 hp
     obtain⟨⟨cv,he,hvv⟩,hcv,_⟩:=fW hI hR hg hv
     obtain⟨h1,h2,h3⟩:=aW.put hp hx hvv
     have hj:j<fields.size:=by
      have:=(List.getElem?_eq_some_iff.1 hft).1;omega
     obtain⟨f1,f2,σ,f3,f4⟩:=hf j fields[j] (Array.getElem?_eq_getElem hj)
     have hsub:i.τ.sub (dv i.fs.length j)=some v.τ:=IX hp
     have hpj:=hpl j fields[j] v.τ (Array.getElem?_eq_getElem hj) hsub
     rw[f1]at hpj
     simp only[List.map_cons,he]
     have key:∀cells',aW w G i.τ y1 s1 cells'.toList→∃c2,Instr.fill place cells' (ps.map fun p=>(p.1,a.eval p.2))=some c2∧aW w G i.τ y s c2.toList∧(∀c∈s.aD,0<c∧U c∧G.bx c=false):=by
      intro cells' hc'
      refine MG hI hR hg hf hsz place hpl ps y1 s1 cells' y s hc' (fun c hcc=> ?_) h
      rcases h3 c hcc with h|h
      ·exact hc c h
      ·exact hcv c h
     obtain⟨h1',h2',_⟩:=aW.put hp hx hvv
     have hl:=aW.len hx
     have hcs:=lI (aW.len hvv) (aW.one hvv)
     have hct:=fh (aW.len hvv) (aW.one hvv)
     have harr:=yG (bT v.τ cv).cells (i.τ.off (dv i.fs.length j)) cells (by rw[hcs];simp at hl;omega)
     rw[hct,hcs]at harr
     obtain⟨c2,k1,k2,k3⟩:=key _ (by rw[harr];exact h1')
     refine⟨c2,?_,k2,k3⟩
     simp only[Instr.fill,hpj]
     rw[if_neg (by simp[hcs];simp at hl;omega)]
     exact k1
    ·cases h
end
end Vg
namespace Vg
open Go
section
variable {P:Program} {C:Cx} {w0:World} {c0:C0} {U:Nat→Prop} {E:Env} {a:Act} {w:World} {G:Gh} {ops:List Oper} {g:Option (Nat×Bool)}
theorem M.fX {m:M} {ts:List Nat} (h:m.own=some ts):∀c∈ts,c∈m.aD:=by
 cases m with
 |row t hs nd=>
  simp only[M.own]at h
  split at h
  ·simp only[Option.some.injEq]at h;subst h
   intro c hc
   simp only[List.mem_cons,List.mem_filter]at hc
   rcases hc with rfl|hc
   ·simp[M.aD]
   ·simp[M.aD,hc.1]
  ·cases h
 |sha hs=>
  cases hs with
  |nil=>simp only[M.own,Option.some.injEq]at h;subst h;simp
  |cons x l=>simp[M.own]at h
 |dead=>simp[M.own]at h
theorem M.hJ {t:Nat} {hs:List Nat} {nd:Bool} {ts:List Nat} (h:(M.row t hs nd).own=some ts):nd=true∧(∀c∈hs,3≤c)∧(∀c,c∈ts↔c=t∨c∈hs):=by
 simp only[M.own]at h
 split at h
 ·rename_i hc
  simp only[Bool.and_eq_true,List.all_eq_true,decide_eq_true_eq]at hc
  simp only[Option.some.injEq]at h;subst h
  refine⟨hc.1,hc.2,fun c=> ?_⟩
  simp only[List.mem_cons,List.mem_filter,decide_not,Bool.not_eq_true',decide_eq_false_iff_not]
  by_cases e:c=t<;>simp[e]
 ·cases h
theorem bW.own {e:Ty} {l:List e.den} {v:Value} {m:M} {ts:List Nat} (h:bW w G e l v m) (ho:m.own=some ts):
 ∃B,dI w e.sz (aR w e) l v B∧B.Nodup∧∀b∈B,G.col b∈ts:=by
 cases m with
 |row t hs nd=>
  obtain⟨h1,h2,h3⟩:=M.hJ ho
  obtain⟨_,_,B,hB,hc⟩:=h
  cases B with
  |nil=>exact⟨[],hB,by simp,by simp⟩
  |cons b Bs=>
   obtain⟨g1,g2,g3,g4⟩:=hc b Bs rfl
   refine⟨b::Bs,hB,List.nodup_cons.2 ⟨g2,g4 h1⟩,fun x hx=> ?_⟩
   rcases List.mem_cons.1 hx with rfl|hx
   ·exact(h3 _).2 (.inl g1)
   ·exact(h3 _).2 (.inr (g3 x hx))
 |sha hs=>
  cases hs with
  |nil=>
   obtain⟨⟨B,hB,hc⟩,_⟩:=h
   have:B=[]:=by cases B with|nil=>rfl|cons x l=>exact absurd (hc x (by simp)) (by simp)
   subst this
   exact⟨[],hB,by simp,by simp⟩
  |cons x l=>simp[M.own]at ho
 |dead=>simp[M.own]at ho
theorem Sh.fX:∀ {sh:Sh} {ts:List Nat},sh.own=some ts→∀c∈ts,c∈sh.aD
 | .leaf,ts,h,c,hc=>by simp only[Sh.own,Option.some.injEq]at h;subst h;simp at hc
 | .sl m,ts,h,c,hc=>M.fX h c hc
 | .pair a b,ts,h,c,hc=>by
   simp only[Sh.own]at h
   split at h
   ·rename_i x y hx hy
    split at h
    ·simp only[Option.some.injEq]at h;subst h
     rcases List.mem_append.1 hc with hc|hc
     ·simp[Sh.aD,Sh.fX hx c hc]
     ·simp[Sh.aD,Sh.fX hy c hc]
    ·cases h
   ·cases h
theorem aW.own:∀ {τ:Ty} {x:τ.den} {sh:Sh} {cs:List Value} {ts:List Nat},aW w G τ x sh cs→sh.own=some ts→∃B,aR w τ x cs B∧B.Nodup∧∀b∈B,G.col b∈ts
 | .int _,_,.leaf,_,_,h,_=>⟨[],⟨h,rfl⟩,by simp,by simp⟩
 | .bool,_,.leaf,_,_,h,_=>⟨[],⟨h,rfl⟩,by simp,by simp⟩
 | .str,_,.leaf,_,_,h,_=>⟨[],⟨h,rfl⟩,by simp,by simp⟩
 | .sl e,l,.sl m,cs,ts,h,ho=>by
   obtain⟨v,rfl,hr⟩:=h
   obtain⟨B,hB,hn,hc⟩:=hr.own ho
   exact⟨B,⟨v,rfl,hB⟩,hn,hc⟩
 | .pair a b,p,.pair s1 s2,cs,ts,h,ho=>by
   obtain⟨c1,c2,rfl,h1,h2⟩:=h
   simp only[Sh.own]at ho
   split at ho
   ·rename_i x y hx hy
    split at ho
    ·rename_i hd
     simp only[Option.some.injEq]at ho;subst ho
     obtain⟨B1,r1,n1,k1⟩:=aW.own h1 hx
     obtain⟨B2,r2,n2,k2⟩:=aW.own h2 hy
     refine⟨B1++B2,⟨c1,c2,B1,B2,rfl,rfl,r1,r2⟩,List.nodup_append.2 ⟨n1,n2,?_⟩,fun b hb=> ?_⟩
     ·intro b hb b' hb' e
      subst e
      simp only[List.all_eq_true,Bool.not_eq_true',List.contains_eq_mem,decide_eq_false_iff_not]at hd
      exact hd _ (k1 b hb) (k2 b hb')
     ·rcases List.mem_append.1 hb with hb|hb
      ·exact List.mem_append_left _ (k1 b hb)
      ·exact List.mem_append_right _ (k2 b hb)
    ·cases ho
   ·cases ho
 | .int _,_,.sl _,_,_,h,_| .int _,_,.pair _ _,_,_,h,_| .bool,_,.sl _,_,_,h,_| .bool,_,.pair _ _,_,_,h,_
 | .str,_,.sl _,_,_,h,_| .str,_,.pair _ _,_,_,h,_| .sl _,_,.leaf,_,_,h,_| .sl _,_,.pair _ _,_,_,h,_
 | .pair _ _,_,.leaf,_,_,h,_| .pair _ _,_,.sl _,_,_,h,_=>h.elim
def u3 (w:World) (G:Gh) (e:Ty):List e.den→List Sh→List (List Value)→Prop
 | [],[],[]=>True
 |x::l,s::ss,c::cs=>aW w G e x s c∧u3 w G e l ss cs
 |_,_,_=>False
theorem u3.rep:∀ {e:Ty} {l:List e.den} {ss:List Sh} {cs:List (List Value)},u3 w G e l ss cs→(∀s∈ss,s.live=true)→
 ∃B,bg (aR w e) l cs.flatten B∧∀b∈B,G.col b∈ss.flatMap Sh.aD
 |e,[],[],[],_,_=>⟨[],⟨rfl,rfl⟩,by simp⟩
 |e,x::l,s::ss,c::cs,h,hl=>by
  obtain⟨B1,r1,k1⟩:=h.1.rep (hl s (by simp))
  obtain⟨B2,r2,k2⟩:=u3.rep h.2 (fun s hs=>hl s (by simp[hs]))
  refine⟨B1++B2,⟨c,_,B1,B2,by simp,rfl,r1,r2⟩,fun b hb=> ?_⟩
  rw[List.flatMap_cons]
  rcases List.mem_append.1 hb with hb|hb
  ·exact List.mem_append_left _ (k1 b hb)
  ·exact List.mem_append_right _ (k2 b hb)
 |e,[],_::_,_,h,_|e,[],[],_::_,h,_|e,_::_,[],_,h,_|e,_::_,_::_,[],h,_=>h.elim
theorem u3.own:∀ {e:Ty} {l:List e.den} {ss:List Sh} {cs:List (List Value)} {ts:List Nat},u3 w G e l ss cs→sA ss=some ts→
 ∃B,bg (aR w e) l cs.flatten B∧B.Nodup∧∀b∈B,G.col b∈ts
 |e,[],[],[],ts,_,_=>⟨[],⟨rfl,rfl⟩,by simp,by simp⟩
 |e,x::l,s::ss,c::cs,ts,h,ho=>by
  simp only[sA]at ho
  split at ho
  ·rename_i t1 t2 h1 h2
   split at ho
   ·rename_i hd
    simp only[Option.some.injEq]at ho;subst ho
    obtain⟨B1,r1,n1,k1⟩:=h.1.own h1
    obtain⟨B2,r2,n2,k2⟩:=u3.own h.2 h2
    refine⟨B1++B2,⟨c,_,B1,B2,by simp,rfl,r1,r2⟩,List.nodup_append.2 ⟨n1,n2,?_⟩,fun b hb=> ?_⟩
    ·intro b hb b' hb' e
     subst e
     simp only[List.all_eq_true,Bool.not_eq_true',List.contains_eq_mem,decide_eq_false_iff_not]at hd
     exact hd _ (k1 b hb) (k2 b hb')
    ·rcases List.mem_append.1 hb with hb|hb
     ·exact List.mem_append_left _ (k1 b hb)
     ·exact List.mem_append_right _ (k2 b hb)
   ·cases ho
  ·cases ho
 |e,[],_::_,_,_,h,_|e,[],[],_::_,_,h,_|e,_::_,[],_,_,h,_|e,_::_,_::_,[],_,h,_=>h.elim
theorem ED:∀ {ss:List Sh} {ts:List Nat},sA ss=some ts→∀c∈ts,c∈ss.flatMap Sh.aD
 | [],ts,h,c,hc=>by simp only[sA,Option.some.injEq]at h;subst h;simp at hc
 |s::ss,ts,h,c,hc=>by
  simp only[sA]at h
  split at h
  ·rename_i t1 t2 h1 h2
   split at h
   ·simp only[Option.some.injEq]at h;subst h
    rw[List.flatMap_cons]
    rcases List.mem_append.1 hc with hc|hc
    ·exact List.mem_append_left _ (Sh.fX h1 c hc)
    ·exact List.mem_append_right _ (ED h2 c hc)
   ·cases h
  ·cases h
theorem Pr (hI:Inv w0 c0 U E a w G) (hR:RI ops E a.tmps) (hg:Gd ops a.tmps g) {el:TypeId} {e:Ty}:
 ∀(ps:List (Nat×Operand)) (n:Nat) (xs:List e.den) (ss:List Sh) (cells:Array Value),qB C E.rd g el e n ps=some (xs,ss)→(n+ps.length)*e.sz≤cells.size→
  ∃cvs cells',Instr.fill (fun i=>some (i*e.sz,e.sz)) cells (ps.map fun p=>(p.1,a.eval p.2))=some cells'∧
   cells'.toList=cells.toList.take (n*e.sz)++cvs.flatten++cells.toList.drop ((n+ps.length)*e.sz)∧u3 w G e xs ss cvs∧xs.length=ps.length∧(∀s∈ss,s.live=true∧∀c∈s.aD,0<c∧U c∧G.bx c=false)
 | [],n,xs,ss,cells,h,hs=>by
   simp only[qB,Option.some.injEq,Prod.mk.injEq]at h
   obtain⟨rfl,rfl⟩:=h
   exact⟨[],cells,rfl,by simp,trivial,rfl,by simp⟩
 |(j,o)::ps,n,xs,ss,cells,h,hs=>by
  simp only[qB]at h
  split at h
  ·rename_i ej
   subst ej
   split at h
   ·cases h
   ·rename_i v hv
    split at h
    ·rename_i x xs' ss' hx hl
     simp only[Option.some.injEq,Prod.mk.injEq]at h
     obtain⟨rfl,rfl⟩:=h
     obtain⟨⟨cv,he,hvv⟩,hcv,hlive⟩:=fW hI hR hg hv
     have ev:=cK hx
     have hτ:v.τ=e:=by rw[ev]
     have hvx:aW w G e x v.sh cv:=by rw[ev]at hvv;exact hvv
     have hlen:=aW.len hvx
     have hcs:=lI (τ:=v.τ) (by rw[hτ];exact hlen) (aW.one hvx)
     have hct:=fh (τ:=v.τ) (by rw[hτ];exact hlen) (aW.one hvx)
     rw[hτ]at hcs hct
     simp only[List.length_cons]at hs
     have hmul:(j+1)*e.sz≤(j+(ps.length+1))*e.sz:=Nat.mul_le_mul_right _ (by omega)
     rw[Nat.add_mul,Nat.one_mul]at hmul
     have harr:=yG (bT e cv).cells (j*e.sz) cells (by rw[hcs];omega)
     rw[hct,hcs]at harr
     have hsz:(Array.foldl (fun cs (q:Value×Nat)=>cs.setIfInBounds (j*e.sz+q.2) q.1) cells (bT e cv).cells.zipIdx).size=cells.size:=by
      have:=congrArg List.length harr
      simp only[Array.length_toList,List.length_append,List.length_take,List.length_drop,hlen]at this;omega
     obtain⟨cvs,cells',k1,k2,k3,k4,k5⟩:=Pr hI hR hg ps (j+1) xs' ss' _ hl (by rw[hsz];rw[show j+1+ps.length=j+(ps.length+1) by omega];exact hs)
     refine⟨cv::cvs,cells',?_,?_,⟨hvx,k3⟩,by simp[k4],?_⟩
     ·simp only[List.map_cons,he,hτ,Instr.fill]
      rw[if_neg (by simp[hcs];omega)]
      exact k1
     ·rw[k2,harr]
      have h1:(cells.toList.take (j*e.sz)++cv++cells.toList.drop (j*e.sz+e.sz)).take ((j+1)*e.sz)=cells.toList.take (j*e.sz)++cv:=by
       rw[List.take_append_of_le_length (by simp[hlen,Nat.add_mul];omega),List.take_of_length_le (by simp[hlen,Nat.add_mul];omega)]
      have h2:(cells.toList.take (j*e.sz)++cv++cells.toList.drop (j*e.sz+e.sz)).drop ((j+1+ps.length)*e.sz)=cells.toList.drop ((j+(ps.length+1))*e.sz):=by
       have e1:(j+1+ps.length)*e.sz=(cells.toList.take (j*e.sz)++cv).length+ps.length*e.sz:=by
        simp[hlen,Nat.add_mul];omega
       rw[e1,List.drop_append,List.drop_of_length_le (by omega),List.nil_append,Nat.add_sub_cancel_left,List.drop_drop]
       congr 1
       simp[Nat.add_mul];omega
      rw[h1,h2]
      simp
     ·intro s hs'
      rcases List.mem_cons.1 hs' with rfl|hs'
      ·exact⟨hlive,hcv⟩
      ·exact k5 s hs'
    ·cases h
  ·cases h
end
end Vg
namespace Vg
open Go
section
variable {P:Program} {C:Cx} {w0:World} {c0:C0} {U:Nat→Prop} {E:Env} {a:Act} {w:World} {G:Gh} {ops:List Oper} {g:Option (Nat×Bool)}
theorem aX.mono {U U':Nat→Prop} {v:SV} (h:aX U G v) (hU:∀u,U u→U' u):aX U' G v:=
 ⟨fun c hc=>⟨(h.1 c hc).1,hU _ (h.1 c hc).2.1,(h.1 c hc).2.2⟩,fun c hc=>⟨(h.2.1 c hc).1,hU _ (h.2.1 c hc).2.1,(h.2.1 c hc).2.2⟩,
  fun c hc=>⟨(h.2.2 c hc).1,hU _ (h.2.2 c hc).2.1,(h.2.2 c hc).2.2⟩⟩
theorem Yields.mono {U U':Nat→Prop} {r:Result Next} {sv:SV} (h:Yields w0 c0 U E a r sv) (hU:∀u,U u→U' u):Yields w0 c0 U' E a r sv:=by
 obtain⟨mv,w',G',h1,h2,h3,h4,h5⟩:=h
 exact⟨mv,w',G',h1,h2.mono hU,h3,h4.mono hU,h5⟩
theorem ib.mono {U U':Nat→Prop} {r:Result Next} {ef:Ef} (h:ib w0 c0 U E a r ef) (hU:∀u,U u→U' u):ib w0 c0 U' E a r ef:=by
 cases ef with
 |val v=>exact Yields.mono h hU
 |chk c v=>exact fun hc=>Yields.mono (h hc) hU
 |_=>exact h
theorem dm {s:Sem Value} {x:Value} {w':World} (h:s.run P w= .ok x w'):((do pure (.value (←s))):Sem Next).run P w= .ok (.value x) w':=by
 simp[h]
theorem toNat_lt {i:Int} {n:Nat} (h0:0≤i) (h:i<(n:Int)):i.toNat<n:=by omega
theorem Tz (hC:CxTy P C) (hI:Inv w0 c0 U E a w G) (hR:RI ops E a.tmps) (hg:Gd ops a.tmps g) {tk:Nat} {o:Oper} {t:TypeId} {x:Operand} {ef:Ef} (ho:o.op= .load t x)
 (h:bm C ops E.rd tk g o=some ef):ib w0 c0 U E a ((execOp a.eval o).run P w) ef:=by
 simp only[bm,ho]at h
 split at h
 ·cases h
 rename_i ti hti
 have hT:=(hC.tt t ti hti).1
 have hrun:∀ {b o':Nat} {c:Array Value} {el:TypeId} {fz:Nat×Nat},a.eval x= .pointer (some ⟨b,o',none⟩)→w.heap[b]?=some (.cells c el fz)→o'+ti.τ.sz≤c.size→
  (execOp a.eval o).run P w= .ok (.value (bT ti.τ ((c.toList.drop o').take ti.τ.sz))) w:=by
  intro b o' c el fz he hb hs
  simp only[execOp,ho]
  refine dm ?_
  simp only[Instr.loadAt,he,Instr.sureAddr]
  simpa using oC hT hb hs
 split at h
 ·
  rename_i b off p τ harg
  obtain⟨h1,h2⟩:=en hI hR hg harg
  obtain⟨bk,_,k2,k3⟩:=h1
  split at h
  ·rename_i sl v hbox
   obtain⟨_,bk',c,el,g1,_,_,g4,g5,g6⟩:=hI.box hbox
   rw[g1]at k2
   simp only[Value.pointer.injEq,Option.some.injEq,Addr.mk.injEq,and_true]at k2
   subst k2
   split at h
   ·rename_i r hr
    split at h
    ·rename_i hc
     simp only[Bool.and_eq_true,decide_eq_true_eq]at hc
     cases h
     obtain⟨q1,q2,q3,q4⟩:=aW.sub hr g5
     have hlen:=aW.len g5
     rw[hc.1]at q1 q2
     have hb:=hrun k3 g4 (by rw[←hc.2];simp at hlen;omega)
     rw[←hc.2]at hb
     exact cf hI hb ⟨_,rfl,q1⟩ (aX.d fun c hc=>g6 c (q4 c hc)) (by rintro _ _ ⟨⟩)
    ·cases h
   ·cases h
  ·cases h
 ·
  rename_i b e i off p τ harg
  obtain⟨h1,_⟩:=en hI hR hg harg
  obtain⟨bk,of,n,cap,_,k2,k3,k4,k5⟩:=h1
  split at h
  ·rename_i l hs nd hrow
   obtain⟨⟨v,hv⟩,hm⟩:=hI.dx hrow
   split at h
   ·rename_i hc
    simp only[Bool.and_eq_true,decide_eq_true_eq]at hc
    rw[Option.map_eq_some_iff]at h
    obtain⟨r,hr,rfl⟩:=h
    have hh:=hv.2.1
    rw[k2]at hh
    have hlen:n=l.length:=by
     obtain⟨_,_,B,hB,_⟩:=hv
     rcases hB with⟨⟨ao,e0⟩,hl0,_⟩|⟨_,_,_,_,_,_,_,hx,_⟩
     ·rw[e0]at hh;cases hh;rw[hl0];rfl
     ·rw[←hh]at hx;cases hx;rfl
    have hi:i.toNat<l.length:=by omega
    obtain⟨b',off',cap',c,el,fz,B,e1,e2,e3,e4,e5,e6,e7⟩:=hv.elem hi
    rw[←hh]at e1
    cases e1
    have hvk:aW w G e (l.getD i.toNat e.aa) (fB e (.sha (2::hs))) _:=aW.Ap e6 (fun b hb=>List.mem_cons_of_mem _ (e7 b hb)) (by simp)
    obtain⟨q1,q2,q3,q4⟩:=aW.sub hr hvk
    have hrτ:r.τ=ti.τ:=by have:=q3.symm.trans hc.2;simpa using this
    have hmul:(i.toNat+1)*e.sz≤cap*e.sz:=Nat.mul_le_mul_right _ (by omega)
    rw[Nat.add_mul,Nat.one_mul]at hmul
    have hb:=hrun k5 e2 (by rw[←hrτ];rw[hc.1]at q2;omega)
    refine cf hI hb ⟨(c.toList.drop (of+i.toNat*e.sz+off)).take ti.τ.sz,by rw[hrτ],?_⟩ (aX.d fun c hcc=> ?_) (by rintro _ _ ⟨⟩)
    ·rw[hc.1]at q1 q2
     rw[List.drop_take,List.take_take,List.drop_drop,Nat.min_eq_left (by omega)]at q1
     rw[←hrτ];exact q1
    ·have:=lk _ _ c (q4 c hcc)
     simp only[M.aD,List.mem_cons]at this
     rcases this with rfl|this
     ·exact⟨by omega,hI.two⟩
     ·exact hm c (List.mem_cons_of_mem _ this)
   ·cases h
  ·cases h
 ·
  rename_i hs v harg
  obtain⟨h1,h2⟩:=en hI hR hg harg
  obtain⟨b,o',c,el,fz,k1,k2,k3,k4,k5⟩:=h1
  split at h
  ·rename_i hτ
   cases h
   have hb:=hrun k1 k2 (by rw[←hτ];exact k3)
   rw[←hτ]at hb
   exact cf hI hb ⟨_,rfl,k5⟩ (aX.d fun c hc=>h2.1 c (by simp[SV.sc,hc])) (by rintro _ _ ⟨⟩)
  ·cases h
 ·cases h
theorem NT (hC:CxTy P C) (hI:Inv w0 c0 U E a w G) (hR:RI ops E a.tmps) (hg:Gd ops a.tmps g) {tk:Nat} {o:Oper} {s:TypeId} {x:Operand} {j:Nat} {ef:Ef} (ho:o.op= .fieldAddr s x j)
 (h:bm C ops E.rd tk g o=some ef):ib w0 c0 U E a ((execOp a.eval o).run P w) ef:=by
 simp only[bm,ho]at h
 split at h
 ·cases h
 rename_i i hi
 have hT:=hC.tt s i hi
 split at h
 rotate_left
 ·cases h
 rename_i hj
 have hpair:∀σ,i.τ.sub (dv i.fs.length j)=some σ→i.τ.bJ=true∨(dv i.fs.length j)=[]:=by
  intro σ hσ
  cases hf:dv i.fs.length j with
  |nil=>exact .inr rfl
  |cons b p=>rw[hf]at hσ;exact .inl (Sk hσ)
 have hstruct:i.τ.bJ=true:=by
  cases hτ:i.τ with
  |pair a b=>rfl
  |_=>
   exfalso
   have:=hT.2
   rw[hτ]at this
   have hfs:=hC.fs s i hi (by rw[hτ];rfl)
   rw[hfs]at hj;simp at hj
 have hrun:∀ {b o':Nat},a.eval x= .pointer (some ⟨b,o',none⟩)→(execOp a.eval o).run P w= .ok (.value (.pointer (some ⟨b,o'+i.τ.off (dv i.fs.length j),none⟩))) w:=by
  intro b o' he
  simp only[execOp,ho]
  refine dm ?_
  rw[he]
  rcases OQ (w:=w) hT hj b o' with h|h
  ·exact h
  ·rw[hstruct]at h;cases h
 split at h
 ·rename_i σ t o' p τ hσ harg
  split at h
  ·cases h
   obtain⟨⟨bk,k1,k2,k3⟩,h2⟩:=en hI hR hg harg
   exact cf hI (hrun k3) ⟨bk,k1,k2,rfl⟩ ⟨by simp[SV.sc],by simpa[SV.bt]using h2.2.1,by simp[SV.rt]⟩ (by rintro _ _ ⟨⟩)
  ·cases h
 ·rename_i σ t e n o' p τ hσ harg
  split at h
  ·cases h
   obtain⟨⟨b,off,m,cap,k1,k2,k3,k4,k5⟩,h2⟩:=en hI hR hg harg
   exact cf hI (hrun k5) ⟨b,off,m,cap,k1,k2,k3,k4,by rw[Nat.add_assoc]⟩ ⟨by simp[SV.sc],by simp[SV.bt],by simpa[SV.rt]using h2.2.2⟩ (by rintro _ _ ⟨⟩)
  ·cases h
 ·rename_i σ hs v hσ harg
  split at h
  ·rename_i hτ
   rw[Option.map_eq_some_iff]at h
   obtain⟨r,hr,rfl⟩:=h
   obtain⟨h1,h2⟩:=en hI hR hg harg
   obtain⟨b,o',he,hs'⟩:=TC h1 hr
   rw[hτ]at hs'
   refine cf hI (hrun he) hs' ⟨?_,by simp[SV.bt],by simp[SV.rt]⟩ (by rintro _ _ ⟨⟩)
   intro c hc
   obtain⟨_,_,_,_,_,_,_,_,_,k5⟩:=h1
   have:=(aW.sub hr k5).2.2.2
   simp only[SV.sc,List.mem_append]at hc
   rcases hc with hc|hc
   ·exact h2.1 c (by simp[SV.sc,hc])
   ·exact h2.1 c (by simp[SV.sc,this c hc])
  ·cases h
 ·cases h
theorem MR (hC:CxTy P C) (hI:Inv w0 c0 U E a w G) (hR:RI ops E a.tmps) (hg:Gd ops a.tmps g) {tk:Nat} {o:Oper} {t:TypeId} {x n:Operand} {ef:Ef} (ho:o.op= .indexAddr t x n)
 (h:bm C ops E.rd tk g o=some ef):ib w0 c0 U E a ((execOp a.eval o).run P w) ef:=by
 simp only[bm,ho]at h
 split at h
 ·rename_i ti e l u hs nd k i sh hti hx hn
  split at h
  ·rename_i hτ
   cases h
   intro hc
   obtain⟨hi0,hil⟩:=of_decide_eq_true hc
   have hT:=(hC.tt t ti hti).2
   rw[hτ]at hT
   obtain⟨m,hm,hrow,_,hmc⟩:=j7 hI hR hg hx
   simp only[Sh.sl.injEq]at hm;subst hm
   have hin:=cU hI hR hg hn
   have hi:i.toNat<l.length:=toNat_lt hi0 hil
   obtain⟨b,off,cap,c,el,fz,B,e1,e2,e3,e4,e5,e6,e7⟩:=hrow.elem hi
   have hrun:(execOp a.eval o).run P w= .ok (.value (.pointer (some ⟨b,off+i.toNat*e.sz,none⟩))) w:=by
    simp only[execOp,ho]
    refine dm ?_
    rw[e1,hin]
    simp[Instr.indexAt,asIntOf,run_underlying hT.1,cV hT.2,hi0,hil,Addr.add_lit]
   refine cf hI hrun ⟨b,off,l.length,cap,hrow.1,hrow.2.1.trans e1,hi0,hil,rfl⟩ ⟨by simp[SV.sc],by simp[SV.bt],?_⟩ (by rintro _ _ ⟨⟩)
   intro c hc
   simp only[SV.rt,List.mem_singleton]at hc
   subst hc
   exact hmc _ (by simp[M.aD])
  ·cases h
 ·rename_i ti e l hs k i sh hti hx hn
  split at h
  ·rename_i hτ
   cases h
   intro hc
   obtain⟨hi0,hil⟩:=of_decide_eq_true hc
   have hT:=(hC.tt t ti hti).2
   rw[hτ]at hT
   obtain⟨m,hm,hrow,_,hmc⟩:=j7 hI hR hg hx
   simp only[Sh.sl.injEq]at hm;subst hm
   have hin:=cU hI hR hg hn
   have hi:i.toNat<l.length:=toNat_lt hi0 hil
   obtain⟨⟨BB,hBB,hBc⟩,_⟩:=hrow
   obtain⟨b,off,cap,c,el,fz,B,e1,e2,e3,e4,e5,e6,e7⟩:=hBB.elem hi
   have hrun:(execOp a.eval o).run P w= .ok (.value (.pointer (some ⟨b,off+i.toNat*e.sz,none⟩))) w:=by
    simp only[execOp,ho]
    refine dm ?_
    rw[e1,hin]
    simp[Instr.indexAt,asIntOf,run_underlying hT.1,cV hT.2,hi0,hil,Addr.add_lit]
   have hmul:(i.toNat+1)*e.sz≤cap*e.sz:=Nat.mul_le_mul_right _ (by omega)
   rw[Nat.add_mul,Nat.one_mul]at hmul
   refine cf hI hrun ⟨b,off+i.toNat*e.sz,c,el,fz,rfl,e2,by simp only;omega,hBc b e5,aW.Ap e6 (fun x hx=>List.mem_cons_of_mem _ (hBc x (e7 x hx))) (by simp)⟩ ⟨?_,by simp[SV.bt],by simp[SV.rt]⟩ (by rintro _ _ ⟨⟩)
   intro c hc
   simp only[SV.sc,List.mem_append]at hc
   rcases hc with hc|hc
   ·exact hmc c hc
   ·have:=lk _ _ c hc
    simp only[M.aD,List.mem_cons]at this
    rcases this with rfl|this
    ·exact⟨by omega,hI.two⟩
    ·exact hmc c this
  ·cases h
 ·cases h
end
end Vg
namespace Vg
open Go
section
variable {P:Program} {C:Cx} {w0:World} {c0:C0} {U:Nat→Prop} {E:Env} {a:Act} {w:World} {G:Gh} {ops:List Oper} {g:Option (Nat×Bool)}
theorem Pe (w:World) (G:Gh) (τ:Ty):aW w G τ τ.aa (fB τ (.sha [])) τ.zero:=aW.zero τ
theorem Ph {τ:Ty} (Q:Nat→Prop):∀c∈(fB τ (.sha [])).aD,Q c:=fun c hc=>by
 have:=lk _ _ c hc
 simp[M.aD]at this
theorem SD (hC:CxTy P C) (hI:Inv w0 c0 U E a w G) {tk:Nat} (h3:3≤tk) (hU:¬U tk) {o:Oper} {t:TypeId} {ef:Ef} (ho:o.op= .alloc t)
 (h:bm C ops E.rd tk g o=some ef):ib w0 c0 (fun u=>U u∨u=tk) E a ((execOp a.eval o).run P w) ef:=by
 simp only[bm,ho,Option.map_eq_some_iff]at h
 obtain⟨i,hi,rfl⟩:=h
 have hT:=(hC.tt t i hi).1
 refine Kt hI h3 hU (Pe w G i.τ) (Ph _) t ?_
 simp only[execOp,ho]
 refine dm ?_
 have hc:=fh (τ:=i.τ) i.τ.fw (sF i.τ)
 have hc':(bT i.τ i.τ.zero).cells=i.τ.zero.toArray:=Array.ext' (by simpa using hc)
 simp[Instr.alloc,L6 hT,newVar,newRow,hc']
theorem UC (hI:Inv w0 c0 U E a w G) (hR:RI ops E a.tmps) (hg:Gd ops a.tmps g) {tk:Nat} (h3:3≤tk) (hU:¬U tk) {o:Oper} {t:TypeId} {x:Operand} {ef:Ef} (ho:o.op= .box t x)
 (h:bm C ops E.rd tk g o=some ef):ib w0 c0 (fun u=>U u∨u=tk) E a ((execOp a.eval o).run P w) ef:=by
 simp only[bm,ho]at h
 split at h
 ·rename_i i v hi hv
  split at h
  ·cases h
   obtain⟨⟨cs,he,hvv⟩,hc,_⟩:=fW hI hR hg hv
   refine Kt hI h3 hU hvv hc t ?_
   simp only[execOp,ho]
   refine dm ?_
   have hct:=fh (aW.len hvv) (aW.one hvv)
   have hc':(bT v.τ cs).cells=cs.toArray:=Array.ext' (by simpa using hct)
   simp[Instr.box,he,newVar,newRow,hc']
  ·cases h
 ·cases h
theorem H6.struct {t:TypeId} {i:TI} (h:H6 P t i) (hp:i.τ.bJ=true):∃fields,P.underlying t=some (.struct fields)∧fields.size=i.fs.length∧
 ∀(j:Nat) (f:Field),fields[j]?=some f→A3 P i.τ i.fs j f:=by
 obtain⟨τ,fs,el⟩:=i
 cases τ with
 |pair x y=>exact h.2
 |_=>cases hp
theorem CG {τ:Ty} (hp:τ.bJ=true) (cs:List Value):bT τ cs= .agg cs.toArray:=by
 cases τ<;>first|rfl|cases hp
theorem Ug (hC:CxTy P C) (hI:Inv w0 c0 U E a w G) (hR:RI ops E a.tmps) (hg:Gd ops a.tmps g) {tk:Nat} {o:Oper} {t:TypeId} {ps:Array (Nat×Operand)} {ef:Ef} (ho:o.op= .build t ps)
 (h:bm C ops E.rd tk g o=some ef):ib w0 c0 U E a ((execOp a.eval o).run P w) ef:=by
 simp only[bm,ho]at h
 split at h
 ·rename_i i hi
  split at h
  ·cases h
  ·rename_i hne
   rw[Option.map_eq_some_iff]at h
   obtain⟨r,hr,rfl⟩:=h
   have hTy:=hC.tt t i hi
   have hF:=hTy.1
   have hstruct:i.τ.bJ=true:=by
    cases hp:i.τ.bJ with
    |true=>rfl
    |false=>rw[hC.fs t i hi hp]at hne;simp at hne
   obtain⟨fields,hu,hsz,hf⟩:=hTy.struct hstruct
   have hz:aW w G i.τ i.τ.aa (fB i.τ (.sha [])) i.τ.zero.toArray.toList:=by simpa using Pe w G i.τ
   obtain⟨inf,d,hinf,hisz,hizero,_⟩:=hF
   have hplaces:∃places,fields.toList.mapM (fun f=>(P.info? f.type).map fun i=>(f.offset,i.size))=some places∧
    ∀(j:Nat) (f:Field) (σ:Ty),fields[j]?=some f→i.τ.sub (dv i.fs.length j)=some σ→places.toArray[j]?=some (f.offset,σ.sz):=by
    have hall:∀f∈fields.toList,∃inf,P.info? f.type=some inf:=by
     intro f hf'
     obtain⟨j,hj,rfl⟩:=List.mem_iff_getElem.1 hf'
     obtain⟨_,_,σ,_,inf,d,h1,_⟩:=hf j fields[j] (Array.getElem?_eq_getElem (by simpa using hj))
     exact⟨inf,by simpa using h1⟩
    refine⟨fields.toList.map fun f=>(f.offset,((P.info? f.type).map (·.size)).getD 0),?_,?_⟩
    ·generalize fields.toList=L at hall
     induction L with
     |nil=>rfl
     |cons f L ih=>
      obtain⟨inf,hinf⟩:=hall f (by simp)
      simp[List.mapM_cons,hinf,ih (fun f hf=>hall f (by simp[hf]))]
    ·intro j f σ hj hσ
     obtain⟨_,_,σ',g1,inf,d,g2,g3,_⟩:=hf j f hj
     rw[g1]at hσ;cases hσ
     simp[hj,g2,g3]
   obtain⟨places,hp1,hp2⟩:=hplaces
   obtain⟨cells',k1,k2,k3⟩:=MG (fields:=fields) hI hR hg hf hsz (fun x=>places.toArray[x]?) hp2 ps.toList _ _ i.τ.zero.toArray r.1 r.2 hz (Ph _) hr
   have hct:=fh (τ:=i.τ) i.τ.fw (sF i.τ)
   have hc':(bT i.τ i.τ.zero).cells=i.τ.zero.toArray:=Array.ext' (by simpa using hct)
   have hb:P.built t (ps.map fun p=>(p.1,a.eval p.2)).toList=some cells':=by
    unfold Program.built
    simp only[hinf,hu,hizero,hp1,hc',Array.toList_map]
    exact k1
   refine cf hI (mv:= .agg cells') ?_ ⟨cells'.toList,?_,k2⟩ (aX.d k3) (by rintro _ _ ⟨⟩)
   ·simp only[execOp,ho]
    exact dm (run_build w t _ cells' hb)
   ·show Value.agg cells'=bT i.τ cells'.toList
    rw[CG hstruct]
 ·cases h
theorem SB {e:Ty} (n:Nat) (z:Array Value) (hz:z.toList=e.zero):(madeCells z (n*e.sz)).toList=(List.replicate n e.zero).flatten:=by
 have hs:z.size=e.sz:=by rw[←Array.length_toList,hz,e.fw]
 have hpos:=e.kG
 apply List.ext_getElem?
 intro j
 induction n generalizing j with
 |zero=>simp[madeCells]
 |succ n ih=>
  rw[List.replicate_succ,List.flatten_cons]
  by_cases hj:j<e.sz
  ·have h1:j<(n+1)*e.sz:=by rw[Nat.add_mul];omega
   rw[List.getElem?_append_left (by rw[e.fw];exact hj),←hz]
   simp only[madeCells,Array.toList_map,Array.toList_range,List.getElem?_map,List.getElem?_range h1,Option.map_some,hs,Nat.mod_eq_of_lt hj]
   simp[show j<z.size by omega]
  ·have ih':=ih (j-e.sz)
   rw[List.getElem?_append_right (by rw[e.fw];omega),e.fw,←ih']
   simp only[madeCells,Array.toList_map,Array.toList_range,List.getElem?_map]
   by_cases h2:j<(n+1)*e.sz
   ·have h3:j-e.sz<n*e.sz:=by rw[Nat.add_mul]at h2;omega
    rw[List.getElem?_range h2,List.getElem?_range h3]
    simp only[Option.map_some,hs]
    congr 2
    rw[←Nat.mod_eq_sub_mod (by omega)]
   ·have h3:¬j-e.sz<n*e.sz:=by rw[Nat.add_mul]at h2;omega
    rw[List.getElem?_eq_none (by simp;omega),List.getElem?_eq_none (by simp;omega)]
theorem NQ (hC:CxTy P C) (hI:Inv w0 c0 U E a w G) (hR:RI ops E a.tmps) (hg:Gd ops a.tmps g) {tk:Nat} (h3:3≤tk) (hU:¬U tk) {o:Oper} {t:TypeId} {n c:Operand} {ef:Ef}
 (ho:o.op= .makeSlice t n c) (h:bm C ops E.rd tk g o=some ef):ib w0 c0 (fun u=>U u∨u=tk) E a ((execOp a.eval o).run P w) ef:=by
 simp only[bm,ho]at h
 split at h
 ·rename_i e fs el x sh y sh' hi hn hcc
  cases h
  intro hd
  obtain⟨h0,hlt,rfl⟩:=of_decide_eq_true hd
  have hlt': @LT.lt Int Int.instLTInt y 4294967296:=hlt
  obtain⟨hF,hu,hE⟩:=hC.tt t _ hi
  have he1:=cU hI hR hg hn
  have he2:=cU hI hR hg hcc
  obtain⟨inf,d,hinf,hisz,hizero,hby,_⟩:=hE
  have hb:(inf.bytes:Int)*y≤281474976710656:=by
   have h1:(inf.bytes:Int)≤32768:=by omega
   have h2:(inf.bytes:Int)*y≤32768*y:=Int.mul_le_mul_of_nonneg_right h1 h0
   omega
  have hr:=run_make (P:=P) w t el inf _ hu hinf hizero .i64 .i64 y y h0 (Int.le_refl _) hb (by omega)
  have hct:=fh (τ:=e) e.fw (sF e)
  rw[hisz]at hr
  refine Am hI h3 hU (e:=e) (l:=List.replicate y.toNat e.aa) (cs:=(List.replicate y.toNat e.zero).flatten) (B:=[]) el (n:=y.toNat) (cap:=y.toNat) (by simp) ?_ (Nat.le_refl _) [] ?_ (by simp) (by simp) (by simp) (by simp) (r:=_) ?_
  ·exact bg.replicate (aR.zero w e) _
  ·simp[List.length_flatten,e.fw,List.map_replicate,List.sum_replicate_nat]
  ·simp only[execOp,ho]
   refine dm ?_
   rw[he1,he2,hr]
   have hm:=SB (e:=e) y.toNat (bT e e.zero).cells hct
   congr 3
   rw[List.append_nil]
   exact Array.ext' (by rw[hm])
 ·cases h
theorem LU (hC:CxTy P C) (hI:Inv w0 c0 U E a w G) (hR:RI ops E a.tmps) (hg:Gd ops a.tmps g) {tk:Nat} (h3:3≤tk) (hU:¬U tk) {o:Oper} {t:TypeId} {n:Nat} {ps:Array (Nat×Operand)} {ef:Ef}
 (ho:o.op= .buildSlice t n ps) (h:bm C ops E.rd tk g o=some ef):ib w0 c0 (fun u=>U u∨u=tk) E a ((execOp a.eval o).run P w) ef:=by
 simp only[bm,ho]at h
 split at h
 ·rename_i e fs el hi
  split at h
  ·rename_i hc
   simp only[Bool.and_eq_true,decide_eq_true_eq]at hc
   obtain⟨hps,hsm⟩:=hc
   rw[Option.map_eq_some_iff]at h
   obtain⟨⟨xs,ss⟩,hr,rfl⟩:=h
   obtain⟨hF,hu,hE⟩:=hC.tt t _ hi
   obtain⟨inf,d,hinf,hisz,hizero,hby,_⟩:=hE
   obtain⟨cvs,cells',k1,k2,k3,k4,k5⟩:=Pr hI hR hg ps.toList 0 xs ss ((Array.range (n*e.sz)).map ((bT e e.zero).cells[·%(bT e e.zero).cells.size]!)) hr (by simp[hps])
   have hct:=fh (τ:=e) e.fw (sF e)
   have hxl:n=xs.length:=by rw[k4];simp[hps]
   have hlive:∀s∈ss,s.live=true:=fun s hs=>(k5 s hs).1
   have hcells:cells'.toList=cvs.flatten:=by
    rw[k2]
    simp only[Nat.zero_mul,List.take_zero,List.nil_append,Nat.zero_add]
    rw[List.drop_of_length_le (by simp[hps]),List.append_nil]
   have hrun:(execOp a.eval o).run P w= .ok (.value (.slice (some ⟨w.heap.size,0,none⟩) n n)) (w.alloc (.cells (cvs.flatten++[]).toArray el)):=by
    simp only[execOp,ho]
    refine dm ?_
    have hcl:cells'=(cvs.flatten++[]).toArray:=Array.ext' (by simp[hcells])
    by_cases h0:n*e.sz=0
    ·have hn0:n=0:=by rcases Nat.mul_eq_zero.1 h0 with h|h;exact h;have:=e.kG;omega
     subst hn0
     have hps0:ps.toList=[]:=by cases hpl:ps.toList with|nil=>rfl|cons x l=>have:=congrArg List.length hpl;simp[hps]at this
     have hps':ps= #[]:=Array.ext' (by simpa using hps0)
     rw[hps0]at k1
     simp only[List.map_nil,Instr.fill,Option.some.injEq]at k1
     subst hps'
     simp[Instr.buildSlice,run_underlying hu,Go.sizeOf,typeInfo,hinf,Instr.fill,newRow]
     rw[←List.append_nil cvs.flatten,←hcl,←k1]
     simp[Array.range_zero']
    ·rw[run_buildSlice w t el n _ cells' inf _ hu hinf hizero (by rw[hisz];omega) (by rw[hisz];exact h0) (by rw[hisz];simpa using k1),hcl]
   simp only[Un]
   split
   ·rename_i ts hts
    obtain⟨B,r1,r2,r3⟩:=u3.own k3 hts
    have hsub:=ED hts
    refine Am hI h3 hU (e:=e) (l:=xs) el hxl r1 (Nat.le_refl _) [] ?_ (fun b hb=> ?_) r3 (fun c hc=> .inl ?_) (fun _=>r2) hrun
    ·have:=bg.len (sz:=e.sz) (fun x c B h=>aR.len h) r1;rw[this,hxl];simp
    ·obtain⟨s,hs,hcs⟩:=List.mem_flatMap.1 (hsub _ (r3 b hb));exact((k5 s hs).2 _ hcs).1
    ·obtain⟨s,hs,hcs⟩:=List.mem_flatMap.1 (hsub _ hc);exact(k5 s hs).2 _ hcs
   ·obtain⟨B,r1,r3⟩:=u3.rep k3 hlive
    refine Am hI h3 hU (e:=e) (l:=xs) el hxl r1 (Nat.le_refl _) [] ?_ (fun b hb=> ?_) (fun b hb=>List.mem_eraseDups.2 (r3 b hb)) (fun c hc=> .inl ?_) (by simp) hrun
    ·have:=bg.len (sz:=e.sz) (fun x c B h=>aR.len h) r1;rw[this,hxl];simp
    ·obtain⟨s,hs,hcs⟩:=List.mem_flatMap.1 (r3 b hb);exact((k5 s hs).2 _ hcs).1
    ·obtain⟨s,hs,hcs⟩:=List.mem_flatMap.1 (List.mem_eraseDups.1 hc);exact(k5 s hs).2 _ hcs
  ·cases h
 ·cases h
end
end Vg
namespace Vg
open Go
section
variable {P:Program} {C:Cx} {w0:World} {c0:C0} {U:Nat→Prop} {E:Env} {a:Act} {w:World} {G:Gh} {ops:List Oper} {g:Option (Nat×Bool)}
theorem bg.cut {α:Type} {R:α→List Value→List Nat→Prop} {sz:Nat} (hR:∀x c B,R x c B→c.length=sz) {l:List α} {cs:List Value} {B:List Nat}
 (h:bg R l cs B) (i j:Nat) (hij:i≤j) (hj:j≤l.length):∃B',bg R ((l.take j).drop i) ((cs.drop (i*sz)).take ((j-i)*sz)) B'∧∀b∈B',b∈B:=by
 have e1:l=l.take j++l.drop j:=(List.take_append_drop j l).symm
 rw[e1]at h
 obtain⟨B1,B2,rfl,h1,_⟩:=bg.split hR h
 have e2:l.take j=(l.take j).take i++(l.take j).drop i:=(List.take_append_drop i _).symm
 rw[e2]at h1
 obtain⟨B3,B4,rfl,_,h4⟩:=bg.split hR h1
 refine⟨B4,?_,fun b hb=>by simp[hb]⟩
 have l1:(List.take i (List.take j l)++List.drop i (List.take j l)).length=j:=by rw[←e2];simp;omega
 have l2:((l.take j).take i).length=i:=by simp;omega
 rw[l1,l2,show(cs.take (j*sz)).drop (i*sz)=(cs.drop (i*sz)).take ((j-i)*sz) by rw[List.drop_take,Nat.sub_mul]]at h4
 exact h4
theorem dI.cut {e:Ty} {l:List e.den} {v:Value} {B:List Nat} (h:dI w e.sz (aR w e) l v B) (i j:Nat) (hij:i≤j) (hj:j≤l.length):
 ∃base n cap,v= .slice base n cap∧n=l.length∧n≤cap∧∃B',dI w e.sz (aR w e) ((l.take j).drop i) (.slice (if cap=i then base else base.map (·.add (i*e.sz))) (j-i) (cap-i)) B'∧∀b∈B',b∈B:=by
 rcases h with⟨⟨ao,rfl⟩,rfl,rfl⟩|⟨b,off,cap,c,el,fz,Bs,hv,hcap,hb,hsz,rfl,hl⟩
 ·simp only[List.length_nil,Nat.le_zero]at hj
  subst hj
  obtain rfl:i=0:=by omega
  exact⟨ao,0,0,rfl,rfl,Nat.le_refl _,[],.inl ⟨⟨_,rfl⟩,by simp,rfl⟩,by simp⟩
 ·refine⟨some ⟨b,off,none⟩,l.length,cap,hv,rfl,hcap,?_⟩
  obtain⟨B',h1,h2⟩:=bg.cut (sz:=e.sz) (fun x c B h=>aR.len h) hl i j hij hj
  have hlen:((l.take j).drop i).length=j-i:=by simp;omega
  have hm1:(j-i)*e.sz+i*e.sz=j*e.sz:=by rw[←Nat.add_mul];congr 1;omega
  have hm2:j*e.sz≤l.length*e.sz:=Nat.mul_le_mul_right _ hj
  have hm3:l.length*e.sz≤cap*e.sz:=Nat.mul_le_mul_right _ hcap
  have hm4:(cap-i)*e.sz+i*e.sz=cap*e.sz:=by rw[←Nat.add_mul];congr 1;omega
  by_cases hc:cap=i
  ·refine⟨b::B',.inr ⟨b,off,cap-i,c,el,fz,B',?_,?_,hb,?_,rfl,?_⟩,?_⟩
   ·rw[if_pos hc,hlen]
   ·rw[hlen];omega
   ·omega
   ·rw[hlen]
    have hz:j-i=0:=by omega
    rw[hz]at h1⊢
    simp only[Nat.zero_mul,List.take_zero]at h1⊢
    exact h1
   ·intro x hx
    rcases List.mem_cons.1 hx with rfl|hx
    ·simp
    ·exact List.mem_cons_of_mem _ (h2 x hx)
  ·refine⟨b::B',.inr ⟨b,off+i*e.sz,cap-i,c,el,fz,B',?_,?_,hb,?_,rfl,?_⟩,?_⟩
   ·rw[if_neg hc,hlen];simp[Addr.add_lit]
   ·rw[hlen];omega
   ·omega
   ·rw[hlen]
    have e0:(((c.toList.drop off).take (l.length*e.sz)).drop (i*e.sz)).take ((j-i)*e.sz)=(c.toList.drop (off+i*e.sz)).take ((j-i)*e.sz):=by
     rw[List.drop_take,List.take_take,List.drop_drop,Nat.min_eq_left (by omega)]
    rw[e0]at h1
    exact h1
   ·intro x hx
    rcases List.mem_cons.1 hx with rfl|hx
    ·simp
    ·exact List.mem_cons_of_mem _ (h2 x hx)
theorem Gr (hI:Inv w0 c0 U E a w G) {e:Ty} {l:List e.den} {v:Value} {m:M} (hr:bW w G e l v m) (hm:m≠ .dead) (hc:∀c∈m.aD,0<c∧U c∧G.bx c=false)
 (i j:Nat) (hij:i≤j) (hj:j≤l.length) {r:Result Next}
 (hrun:∀base n cap,v= .slice base n cap→n=l.length→n≤cap→r= .ok (.value (.slice (if cap=i then base else base.map (·.add (i*e.sz))) (j-i) (cap-i))) w) {y:List e.den} (hy:y=(l.take j).drop i):
 Yields w0 c0 U E a r (.d ⟨.sl e,y,.sl (.sha m.aD)⟩):=by
 subst hy
 obtain⟨B,hB,hBc⟩:=hr.rep hm
 obtain⟨base,n,cap,h1,h2,h3,B',h4,h5⟩:=hB.cut i j hij hj
 refine cf hI (hrun base n cap h1 h2 h3) ⟨[_],rfl,_,rfl,⟨B',h4,fun b hb=>hBc b (h5 b hb)⟩,fun he=> ?_⟩ (aX.d hc) (by rintro _ _ ⟨⟩)
 cases m with
 |row t hs nd=>simp[M.aD]at he
 |sha hs=>
  have hv:=hr.2 he
  rw[hv]at h1
  cases h1
  have hj0:j=0:=by omega
  have hi0:i=0:=by omega
  subst hj0 hi0
  rfl
 |dead=>exact absurd rfl hm
theorem fQ {k:IntKind} {i:Int} {y:Nat} {code:BoundsCode} (h0:0≤i) (h1:i≤y):(Instr.sliceBound (.int k i) y code).run P w= .ok i.toNat w:=run_sliceBound w k i y code h0 h1
theorem Sn (hC:CxTy P C) (hI:Inv w0 c0 U E a w G) (hR:RI ops E a.tmps) (hg:Gd ops a.tmps g) {tk:Nat} {o:Oper} {t:TypeId} {x:Operand} {lo hi mx:Option Operand} {ef:Ef}
 (ho:o.op= .slice t x lo hi mx) (h:bm C ops E.rd tk g o=some ef):ib w0 c0 U E a ((execOp a.eval o).run P w) ef:=by
 simp only[bm,ho]at h
 split at h
 ·cases h
 rename_i ti hti
 have hT:=hC.tt t ti hti
 have sl:∀ {e:Ty},ti.τ= .sl e→P.underlying t=some (.slice ti.el)∧eU P ti.el e:=by
  intro e he;have:=hT.2;rw[he]at this;exact this
 have st:ti.τ= .str→P.underlying t=some .string:=by intro he;have:=hT.2;rw[he]at this;exact this
 split at h
 ·
  rename_i e l m hx hlo hhi
  obtain rfl:=Option.map_eq_none_iff.1 hlo
  obtain rfl:=Option.map_eq_none_iff.1 hhi
  split at h
  ·rename_i hτ
   cases h
   obtain⟨hu,hE⟩:=sl hτ
   obtain⟨m',hm,hrow,hd,hmc⟩:=j7 hI hR hg hx
   simp only[Sh.sl.injEq]at hm;subst hm
   refine Gr hI hrow hd hmc 0 l.length (Nat.zero_le _) (Nat.le_refl _) ?_ (by simp)
   intro base n cap hv hn hcap
   simp only[execOp,ho]
   refine dm ?_
   rw[hv]
   simp[Instr.sliceAt,Instr.slice,Instr.sliceBounds,run_underlying hu,cV hE,hn]
  ·cases h
 ·
  rename_i e l m av ash hx hlo hhi
  obtain⟨lo',rfl,hlo2⟩:=Option.map_eq_some_iff.1 hlo
  obtain rfl:=Option.map_eq_none_iff.1 hhi
  split at h
  ·rename_i hτ
   cases h
   intro hcc
   obtain⟨h0,h1⟩:=of_decide_eq_true hcc
   obtain⟨hu,hE⟩:=sl hτ
   obtain⟨m',hm,hrow,hd,hmc⟩:=j7 hI hR hg hx
   simp only[Sh.sl.injEq]at hm;subst hm
   have ha:=cU hI hR hg hlo2
   have h1': @LE.le Int Int.instLEInt av (l.length:Int):=h1
   have h0': @LE.le Int Int.instLEInt 0 av:=h0
   refine Gr hI hrow hd hmc av.toNat l.length (by omega) (Nat.le_refl _) ?_ (by simp)
   intro base n cap hv hn hcap
   simp only[execOp,ho]
   refine dm ?_
   rw[hv]
   have:=fQ (P:=P) (w:=w) (k:= .i64) (code:= .sliceB) h0' h1'
   simp[Instr.sliceAt,Instr.slice,Instr.sliceBounds,run_underlying hu,cV hE,hn,ha,this]
  ·cases h
 ·
  rename_i e l m av ash hx hlo0 hlo
  obtain rfl:=Option.map_eq_none_iff.1 hlo0
  obtain⟨hi',rfl,hlo2⟩:=Option.map_eq_some_iff.1 hlo
  split at h
  ·rename_i hτ
   cases h
   intro hcc
   obtain⟨h0,h1⟩:=of_decide_eq_true hcc
   obtain⟨hu,hE⟩:=sl hτ
   obtain⟨m',hm,hrow,hd,hmc⟩:=j7 hI hR hg hx
   simp only[Sh.sl.injEq]at hm;subst hm
   have ha:=cU hI hR hg hlo2
   have h1': @LE.le Int Int.instLEInt av (l.length:Int):=h1
   have h0': @LE.le Int Int.instLEInt 0 av:=h0
   refine Gr hI hrow hd hmc 0 av.toNat (Nat.zero_le _) (by omega) ?_ (by simp)
   intro base n cap hv hn hcap
   simp only[execOp,ho]
   refine dm ?_
   rw[hv]
   have:=fQ (P:=P) (w:=w) (k:= .i64) (y:=cap) (code:= .sliceAcap) h0' (by omega)
   simp[Instr.sliceAt,Instr.slice,Instr.sliceBounds,run_underlying hu,cV hE,ha,this]
  ·cases h
 ·
  rename_i e l m av ash bv bsh hx hlo hhi
  obtain⟨lo',rfl,hlo2⟩:=Option.map_eq_some_iff.1 hlo
  obtain⟨hi',rfl,hhi2⟩:=Option.map_eq_some_iff.1 hhi
  split at h
  ·rename_i hτ
   cases h
   intro hcc
   obtain⟨h0,h1,h2⟩:=of_decide_eq_true hcc
   obtain⟨hu,hE⟩:=sl hτ
   obtain⟨m',hm,hrow,hd,hmc⟩:=j7 hI hR hg hx
   simp only[Sh.sl.injEq]at hm;subst hm
   have ha:=cU hI hR hg hlo2
   have hb:=cU hI hR hg hhi2
   have h0': @LE.le Int Int.instLEInt 0 av:=h0
   have h1': @LE.le Int Int.instLEInt av bv:=h1
   have h2': @LE.le Int Int.instLEInt bv (l.length:Int):=h2
   have hbn:(bv.toNat:Int)=bv:=Int.toNat_of_nonneg (by omega)
   refine Gr hI hrow hd hmc av.toNat bv.toNat (by omega) (by omega) ?_ rfl
   intro base n cap hv hn hcap
   simp only[execOp,ho]
   refine dm ?_
   rw[hv]
   have e1:=fQ (P:=P) (w:=w) (k:= .i64) (y:=cap) (code:= .sliceAcap) (i:=bv) (by omega) (by omega)
   have e2:=fQ (P:=P) (w:=w) (k:= .i64) (y:=bv.toNat) (code:= .sliceB) (i:=av) h0' (by omega)
   simp[Instr.sliceAt,Instr.slice,Instr.sliceBounds,run_underlying hu,cV hE,ha,hb,e1,e2]
  ·cases h
 ·
  rename_i s ssh av ash hx hlo hhi
  obtain⟨lo',rfl,hlo2⟩:=Option.map_eq_some_iff.1 hlo
  obtain rfl:=Option.map_eq_none_iff.1 hhi
  split at h
  ·rename_i hτ
   cases h
   intro hcc
   obtain⟨h0,h1⟩:=of_decide_eq_true hcc
   have hs:=kU hI hR hg hx
   have ha:=cU hI hR hg hlo2
   have e2:=fQ (P:=P) (w:=w) (k:= .i64) (y:=s.size) (code:= .sliceB) (i:=av) h0 h1
   refine lS hI ?_
   simp only[execOp,ho]
   refine dm ?_
   simp[Instr.sliceAt,Instr.slice,Instr.sliceBounds,run_underlying (st hτ),hs,ha,e2]
  ·cases h
 ·
  rename_i s ssh av ash hx hlo0 hlo
  obtain rfl:=Option.map_eq_none_iff.1 hlo0
  obtain⟨hi',rfl,hlo2⟩:=Option.map_eq_some_iff.1 hlo
  split at h
  ·rename_i hτ
   cases h
   intro hcc
   obtain⟨h0,h1⟩:=of_decide_eq_true hcc
   have hs:=kU hI hR hg hx
   have ha:=cU hI hR hg hlo2
   have e2:=fQ (P:=P) (w:=w) (k:= .i64) (y:=s.size) (code:= .sliceAlen) (i:=av) h0 h1
   refine lS hI ?_
   simp only[execOp,ho]
   refine dm ?_
   simp[Instr.sliceAt,Instr.slice,Instr.sliceBounds,run_underlying (st hτ),hs,ha,e2]
  ·cases h
 ·
  rename_i s ssh av ash bv bsh hx hlo hhi
  obtain⟨lo',rfl,hlo2⟩:=Option.map_eq_some_iff.1 hlo
  obtain⟨hi',rfl,hhi2⟩:=Option.map_eq_some_iff.1 hhi
  split at h
  ·rename_i hτ
   cases h
   intro hcc
   obtain⟨h0,h1,h2⟩:=of_decide_eq_true hcc
   have hs:=kU hI hR hg hx
   have ha:=cU hI hR hg hlo2
   have hb:=cU hI hR hg hhi2
   have h0': @LE.le Int Int.instLEInt 0 av:=h0
   have h1': @LE.le Int Int.instLEInt av bv:=h1
   have h2': @LE.le Int Int.instLEInt bv (s.size:Int):=h2
   have hbn:(bv.toNat:Int)=bv:=Int.toNat_of_nonneg (by omega)
   have e1:=fQ (P:=P) (w:=w) (k:= .i64) (y:=s.size) (code:= .sliceAlen) (i:=bv) (by omega) (by omega)
   have e2:=fQ (P:=P) (w:=w) (k:= .i64) (y:=bv.toNat) (code:= .sliceB) (i:=av) h0' (by omega)
   refine lS hI ?_
   simp only[execOp,ho]
   refine dm ?_
   simp[Instr.sliceAt,Instr.slice,Instr.sliceBounds,run_underlying (st hτ),hs,ha,hb,e1,e2]
  ·cases h
 ·cases h
end
end Vg
namespace Vg
open Go
section
variable {P:Program} {C:Cx} {w0:World} {c0:C0} {U:Nat→Prop} {E:Env} {a:Act} {w:World} {G:Gh} {ops:List Oper} {g:Option (Nat×Bool)}
theorem F5 (d:Nat) (t:TypeId) (p q:Bool) (h:P.underlying t=some .bool):(Op.equalIn (d+1) t (.bool p) (.bool q)).run P w= .ok (p==q) w:=by
 simp[Op.equalIn,run_underlying h]
theorem xK:∀ {τ:Ty} {x:τ.den} {cs:List Value} {B:List Nat},τ.flat=true→aR w τ x cs B→B=[]
 | .int _,_,_,_,_,h=>h.2
 | .bool,_,_,_,_,h=>h.2
 | .str,_,_,_,_,h=>h.2
 | .sl _,_,_,_,hf,_=>by simp[Ty.flat]at hf
 | .pair a b,p,cs,B,hf,h=>by
   obtain⟨c1,c2,B1,B2,rfl,rfl,h1,h2⟩:=h
   simp only[Ty.flat,Bool.and_eq_true]at hf
   rw[xK hf.1 h1,xK hf.2 h2];rfl
theorem T4 (hC:CxTy P C) (hI:Inv w0 c0 U E a w G) (hR:RI ops E a.tmps) (hg:Gd ops a.tmps g) {tk:Nat} {o:Oper} {op:BinOp} {t u:TypeId} {x y:Operand} {ef:Ef}
 (ho:o.op= .binOp op t x y u) (h:bm C ops E.rd tk g o=some ef):ib w0 c0 U E a ((execOp a.eval o).run P w) ef:=by
 simp only[bm,ho]at h
 split at h
 ·rename_i ti p q hti hx hy
  split at h
  ·rename_i hτ
   simp only[execOp,ho]
   unfold Te at h
   split at h
   ·rename_i k m sh k' n sh'
    split at h
    ·rename_i hk
     simp only[Bool.or_eq_true,decide_eq_true_eq]at hk
     exact TS hI (by rcases hk with(hk|hk)|hk<;>simp[hk]) (cU hI hR hg hx) (cU hI hR hg hy) h
    ·cases h
   ·exact TR hI (kU hI hR hg hx) (kU hI hR hg hy) h
   ·rename_i m sh n sh'
    have hT:=(hC.tt t ti hti).2
    have ht:P.underlying t=some .bool:=by rw[←hτ]at hT;exact hT
    have e1:=zp hI hR hg hx
    have e2:=zp hI hR hg hy
    rw[e1,e2]
    have hgd:∀v,eqGuard op t x y (.bool m) v=pure ():=fun v=>eqGuard_at_bool ..
    split at h
    ·cases h;exact cq hI (by simp[hgd,binOp,Op.equal,Op.maxDepth,F5 (w:=w) 9999 t m n ht])
    ·cases h;exact cq hI (by simp[hgd,binOp,Op.equal,Op.maxDepth,F5 (w:=w) 9999 t m n ht])
    ·cases h
   ·rename_i b1 b2 m sh τ n sh'
    split at h
    ·rename_i n' hn
     split at h
     ·rename_i hflat
      have hcast:=cK hn
      simp only[TV.mk.injEq]at hcast
      obtain⟨rfl,hcast⟩:=hcast
      simp only[heq_eq_eq,and_true]at hcast
      subst hcast
      obtain⟨⟨c1,e1,v1⟩,_,l1⟩:=fW hI hR hg hx
      obtain⟨⟨c2,e2,v2⟩,_,l2⟩:=fW hI hR hg hy
      obtain⟨B1,r1,_⟩:=v1.rep l1
      obtain⟨B2,r2,_⟩:=v2.rep l2
      obtain rfl:=xK hflat r1
      obtain rfl:=xK hflat r2
      have heq:=hC.eq t ti hti
      rw[←hτ]at heq
      have hE:=heq rfl hflat w
      rw[e1,e2]
      split at h
      ·cases h
       have:=hE .eql x y m n c1 c2 (.inl rfl) r1 r2
       exact cq hI (dm (by simpa using this))
      ·cases h
       have:=hE .neq x y m n c1 c2 (.inr rfl) r1 r2
       exact cq hI (dm (by simpa using this))
      ·cases h
     ·cases h
    ·cases h
   ·cases h
  ·cases h
 ·cases h
theorem TD (hI:Inv w0 c0 U E a w G) (hR:RI ops E a.tmps) (hg:Gd ops a.tmps g) {tk:Nat} {o:Oper} {c x y:Operand} {ef:Ef} (ho:o.op= .pick c x y)
 (h:bm C ops E.rd tk g o=some ef):ib w0 c0 U E a ((execOp a.eval o).run P w) ef:=by
 simp only[bm,ho]at h
 split at h
 ·rename_i t sh sx sy hc hx hy
  split at h
  ·rename_i p sh1 q sh2 h1 h2
   cases h
   have ec:a.eval c= .bool t:=by
    obtain⟨⟨cs,e1,e2⟩,_⟩:=en hI hR hg hc
    cases sh with
    |leaf=>rw[e1,show cs=_ from e2];rfl
    |sl m=>exact e2.elim
    |pair _ _=>exact e2.elim
   have arm:∀ {z:Operand} {sz:SV} {b:Bool} {r:Bool} {s:Sh},eY C E.rd o.type z=some sz→vj ops c b sz=some (.d ⟨.bool,r,s⟩)→t=b→a.eval z= .bool r:=by
    intro z sz b r s hz hp htb
    obtain⟨k1,_⟩:=Ps hI hz
    have hgz:=Q9 hR hz
    have fin:bI w G (.d ⟨.bool,r,s⟩) (a.eval z)→a.eval z= .bool r:=by
     rintro⟨cs,e1,e2⟩
     cases s with
     |leaf=>rw[e1,show cs=_ from e2];rfl
     |sl m=>exact e2.elim
     |pair _ _=>exact e2.elim
    cases sz with
    |g j w' act v=>
     simp only[vj]at hp
     split at hp
     ·rename_i n
      split at hp
      ·rename_i hcnd
       simp only[Bool.and_eq_true,decide_eq_true_eq]at hcnd
       simp only[Option.some.injEq]at hp
       subst hp
       have hy':yielded ops.toArray a.tmps j=some w':=by
        have hb:ops.toArray[j]?.bind (·.dst)=some n:=by simpa using hcnd.2
        have hev:a.tmps.getD n undef= .bool t:=ec
        have hget:a.tmps[n]?=some (.bool t):=by
         rw[Array.getD_eq_getD_getElem?]at hev
         cases hq:a.tmps[n]? with
         |none=>rw[hq]at hev;cases hev
         |some v=>rw[hq]at hev;simp at hev;rw[hev]
        simp only[yielded,hb,Option.bind_some,hget]
        rw[htb,hcnd.1]
       exact fin (k1.1 ((hgz j w' act _ rfl).2 hy')).2
      ·cases hp
     ·cases hp
    |_=>simp only[vj,Option.some.injEq]at hp;rw[hp]at k1;exact fin k1
   refine cq hI ?_
   simp only[execOp,ho,ec]
   cases t with
   |true=>simp[asBool,arm hx h1 rfl]
   |false=>simp[asBool,arm hy h2 rfl]
  ·cases h
 ·cases h
theorem Ox (hI:Inv w0 c0 U E a w G) (hR:RI ops E a.tmps) (hg:Gd ops a.tmps g) {tk:Nat} {o:Oper} {x:Operand} {ef:Ef} (ho:o.op= .nilCheck x)
 (h:bm C ops E.rd tk g o=some ef):ib w0 c0 U E a ((execOp a.eval o).run P w) ef:=by
 simp only[bm,ho]at h
 split at h
 ·rename_i t o' p τ hx
  cases h
  obtain⟨h1,h2⟩:=en hI hR hg hx
  have h1':=h1
  obtain⟨bk,_,_,k⟩:=h1'
  exact cf hI (by simp only[execOp,ho,k];rfl) (k▸h1) h2 (by rintro _ _ ⟨⟩)
 ·rename_i t e i o' p τ hx
  cases h
  obtain⟨h1,h2⟩:=en hI hR hg hx
  have h1':=h1
  obtain⟨bk,_,_,_,_,_,_,_,k⟩:=h1'
  exact cf hI (by simp only[execOp,ho,k];rfl) (k▸h1) h2 (by rintro _ _ ⟨⟩)
 ·rename_i hs v hx
  cases h
  obtain⟨h1,h2⟩:=en hI hR hg hx
  have h1':=h1
  obtain⟨bk,_,_,_,_,k,_⟩:=h1'
  exact cf hI (by simp only[execOp,ho,k];rfl) (k▸h1) h2 (by rintro _ _ ⟨⟩)
 ·cases h
theorem P1 (hI:Inv w0 c0 U E a w G) (hR:RI ops E a.tmps) (hg:Gd ops a.tmps g) {tk:Nat} {o:Oper} {x:Operand} {j:Nat} {ef:Ef} (ho:o.op= .extract x j)
 (h:bm C ops E.rd tk g o=some ef):ib w0 c0 U E a ((execOp a.eval o).run P w) ef:=by
 simp only[bm,ho]at h
 split at h
 ·rename_i l hx
  rw[Option.map_eq_some_iff]at h
  obtain⟨v,hv,rfl⟩:=h
  obtain⟨⟨vs,k1,k2,k3⟩,h2⟩:=en hI hR hg hx
  obtain⟨u,cs,q1,q2,q3⟩:=k3 j v hv
  refine cf hI (mv:=u) ?_ ⟨cs,q2,q3⟩ (aX.d fun c hc=>h2.1 c (List.mem_flatMap.2 ⟨v,List.mem_of_getElem? hv,hc⟩)) (by rintro _ _ ⟨⟩)
  simp only[execOp,ho,k1]
  refine dm ?_
  simp[Instr.extract,q1]
 ·cases h
theorem SS (hC:CxTy P C) (hI:Inv w0 c0 U E a w G) (hR:RI ops E a.tmps) (hg:Gd ops a.tmps g) {tk:Nat} {o:Oper} {s:TypeId} {x:Operand} {j:Nat} {ef:Ef} (ho:o.op= .field s x j)
 (h:bm C ops E.rd tk g o=some ef):ib w0 c0 U E a ((execOp a.eval o).run P w) ef:=by
 simp only[bm,ho]at h
 split at h
 ·rename_i i v hi hx
  split at h
  ·rename_i hc
   simp only[Bool.and_eq_true,decide_eq_true_eq]at hc
   rw[Option.map_eq_some_iff]at h
   obtain⟨r,hr,rfl⟩:=h
   obtain⟨⟨cs,e1,hv⟩,hm,_⟩:=fW hI hR hg hx
   have hstruct:i.τ.bJ=true:=by
    cases hp:i.τ.bJ with
    |true=>rfl
    |false=>rw[hC.fs s i hi hp]at hc;simp at hc
   obtain⟨fields,hu,hsz,hf⟩:=(hC.tt s i hi).struct hstruct
   have hj:j<fields.size:=by omega
   obtain⟨f1,f2,σ,f3,f4⟩:=hf j fields[j] (Array.getElem?_eq_getElem hj)
   obtain⟨q1,q2,q3,q4⟩:=aW.sub hr hv
   rw[hc.1,f3]at q3
   simp only[Option.some.injEq]at q3
   subst q3
   refine cf hI ?_ ⟨_,rfl,q1⟩ (aX.d fun c hcc=>hm c (q4 c hcc)) (by rintro _ _ ⟨⟩)
   simp only[execOp,ho,e1]
   refine dm ?_
   have hlen:=aW.len hv
   rw[CG (by rw[hc.1];exact hstruct)]
   have hpart:(part fields[j].type cs.toArray fields[j].offset).run P w= .ok (bT r.τ ((cs.drop (v.τ.off (dv i.fs.length j))).take r.τ.sz)) w:=by
    rw[f1,←hc.1]
    cases hpr:r.τ.bJ with
    |true=>simp[part,qe f4,hpr,cV f4,CG hpr,List.extract_eq_take_drop]
    |false=>
     have h1:r.τ.sz=1:=by cases hrt:r.τ<;>simp_all[Ty.bJ,Ty.sz]
     have hlt:v.τ.off (dv i.fs.length j)<cs.length:=by omega
     have hw:(cs.drop (v.τ.off (dv i.fs.length j))).take 1=[cs[v.τ.off (dv i.fs.length j)]]:=by
      rw[List.take_one,List.head?_drop];simp[hlt]
     have hm:∀u:Value,bT r.τ [u]=u:=by intro u;cases hrt:r.τ<;>simp_all[bT,Ty.bJ]
     rw[h1,hw,hm]
     simp[part,qe f4,hpr,hlt]
   simp[Instr.field,run_underlying hu,Array.getElem?_eq_getElem hj,asAgg,hpart]
  ·cases h
 ·cases h
end
end Vg
namespace Vg
open Go
section
variable {P:Program} {C:Cx} {w0:World} {c0:C0} {U:Nat→Prop} {E:Env} {a:Act} {w:World} {G:Gh} {ops:List Oper} {g:Option (Nat×Bool)}
theorem UR (hI:Inv w0 c0 U E a w G) (hR:RI ops E a.tmps) (hg:Gd ops a.tmps g) {tk:Nat} {o:Oper} {op:UnOp} {t:TypeId} {x:Operand} {ef:Ef}
 (ho:o.op= .unOp op t x) (h:bm C ops E.rd tk g o=some ef):ib w0 c0 U E a ((execOp a.eval o).run P w) ef:=by
 simp only[bm,ho]at h
 split at h
 ·rename_i b sh hx
  cases h
  exact cq hI (by simp only[execOp,ho,zp hI hR hg hx];exact dm (by simp[Op.unary]))
 ·rename_i k n sh hx
  cases h
  exact cQ hI (by simp only[execOp,ho,cU hI hR hg hx];exact dm (by simp[Op.unary,Op.intArith]))
 ·cases h
theorem QV {t:TypeId} {i:TI} (h:H6 P t i):∃d,(underlying t).run P w= .ok d w:=by
 obtain⟨⟨inf,d,_,_,_,_,hu,_⟩,_⟩:=h
 exact⟨d,run_underlying hu w⟩
theorem Kw:∀ {l:List Int} {cs:List Value} {B:List Nat},bg (aR w (.int .u8)) l cs B→cs=l.map fun n=>Value.int .u8 n
 | [],_,_,h=>h.1
 |n::l,cs,B,h=>by
  obtain⟨c1,c2,B1,B2,rfl,rfl,h1,h2⟩:=h
  rw[h1.1,Kw h2];rfl
theorem Tp (hC:CxTy P C) (hI:Inv w0 c0 U E a w G) (hR:RI ops E a.tmps) (hg:Gd ops a.tmps g) {tk:Nat} {o:Oper} {s d:TypeId} {x:Operand} {ef:Ef}
 (ho:o.op= .convert s d x) (h:bm C ops E.rd tk g o=some ef):ib w0 c0 U E a ((execOp a.eval o).run P w) ef:=by
 simp only[bm,ho]at h
 split at h
 ·rename_i si hsi
  obtain⟨ds,hds⟩:=QV (w:=w) (hC.tt s si hsi)
  split at h
  ·rename_i k fs el k' n sh hd hx
   cases h
   have hu:P.underlying d=some (.int k):=(hC.tt d _ hd).2
   refine cQ hI ?_
   simp only[execOp,ho,cU hI hR hg hx]
   refine dm ?_
   simp[convert,hds,run_underlying hu,Conv.intToInt]
  ·rename_i fs el v sh hd hx
   cases h
   have hu:P.underlying d=some .string:=(hC.tt d _ hd).2
   refine lS hI ?_
   simp only[execOp,ho,kU hI hR hg hx]
   refine dm ?_
   simp[convert,hds,run_underlying hu]
  ·rename_i fs el l sh hd hx
   split at h
   ·rename_i hτ
    cases h
    have hu:P.underlying d=some .string:=(hC.tt d _ hd).2
    have hT:=(hC.tt s si hsi).2
    rw[hτ]at hT
    obtain⟨hus,hel⟩:=hT
    obtain⟨m,hm,hrow,hd',_⟩:=j7 hI hR hg hx
    obtain⟨B,hB,_⟩:=hrow.rep hd'
    refine lS hI ?_
    simp only[execOp,ho]
    refine dm ?_
    have hue:P.underlying si.el=some (.int .u8):=hC.u8 s si hsi hτ
    rcases hB with⟨hv,rfl,_⟩|⟨b,off,cap,c,el',fz,Bs,hv,hcap,hb,hsz,rfl,hl⟩
    ·obtain⟨ao,hv⟩:=hv
     rw[hv]
     cases ao with
     |none=>
      simp[convert,run_underlying hus,run_underlying hu,run_underlying hue,Conv.bytesToString]
      rfl
     |some ad=>
      have hld:=run_loadCells_list (P:=P) w ad [] (fun j v hv=>by simp at hv)
      rw[run_convert_bytes_string w s d _ _ _ _ hus hue hu,run_bytesToString w _ 0 0 [] (by simpa using hld),foldl_push_bytes]
      congr 3
    ·rw[hv]
     have hsz1:(Ty.int IntKind.u8).sz=1:=rfl
     rw[hsz1,Nat.mul_one]at hl hsz
     have hcs:=Kw hl
     have hlen:((c.toList.drop off).take l.length).length=l.length:=by
      have:=bg.len (sz:=1) (fun x c B h=>aR.len h) hl
      simpa using this
     have hld:=run_loadCells_list (P:=P) w ⟨b,off,none⟩ ((c.toList.drop off).take l.length) (fun j v hv=>by
      rw[Addr.add_lit,kW hb];exact H4 hv)
     rw[hlen,hcs]at hld
     rw[run_convert_bytes_string w s d _ _ _ _ hus hue hu,run_bytesToString w _ l.length cap l hld,foldl_push_bytes]
     congr 3
     simp
   ·cases h
  ·cases h
 ·cases h
theorem SM (hC:CxTy P C) (hI:Inv w0 c0 U E a w G) (hR:RI ops E a.tmps) (hg:Gd ops a.tmps g) {tk:Nat} {o:Oper} {t:TypeId} {x n:Operand} {ef:Ef}
 (ho:o.op= .index t x n) (h:bm C ops E.rd tk g o=some ef):ib w0 c0 U E a ((execOp a.eval o).run P w) ef:=by
 simp only[bm,ho]at h
 split at h
 ·rename_i ti s sh k i sh' hti hx hn
  split at h
  ·rename_i hτ
   cases h
   intro hc
   obtain⟨h0,h1⟩:=of_decide_eq_true hc
   have hu:P.underlying t=some .string:=by have:=(hC.tt t ti hti).2;rw[hτ]at this;exact this
   refine cQ hI ?_
   simp only[execOp,ho,kU hI hR hg hx,cU hI hR hg hn]
   refine dm ?_
   have h0': @LE.le Int Int.instLEInt 0 i:=h0
   have h1': @LT.lt Int Int.instLTInt i (s.size:Int):=h1
   have hlt:i.toNat<s.size:=by omega
   have hget:s[i.toNat]?=some s[i.toNat]:=getElem?_pos ..
   have hb:bt s i=(s[i.toNat].toNat:Int):=by
    simp only[bt]
    have:s.data.toList[i.toNat]?=some s[i.toNat]:=by
     rw[Array.getElem?_toList,Array.getElem?_eq_getElem (by exact hlt)];rfl
    rw[List.getD,this];rfl
   simp[Instr.index,asIntOf,run_underlying hu,h0',hget,hb]
  ·cases h
 ·cases h
theorem Um (hC:CxTy P C) (hI:Inv w0 c0 U E a w G) (hR:RI ops E a.tmps) (hg:Gd ops a.tmps g) {tk:Nat} {o:Oper} {c:Call} {b:Builtin} {ef:Ef}
 (ho:o.op= .call c) (hb:c.callee= .builtin b) (hq:∀x y z u v,ef≠ .app x y z u v) (h:bm C ops E.rd tk g o=some ef):ib w0 c0 U E a ((execOp a.eval o).run P w) ef:=by
 simp only[bm,ho,hb]at h
 unfold kY at h
 split at h
 ·
  rename_i x t ha hts
  have hargs:c.args= #[x]:=Array.ext' (by simpa using ha)
  have htys:c.argTypes= #[t]:=Array.ext' (by simpa using hts)
  split at h
  ·cases h
  ·rename_i ti hti
   split at h
   ·rename_i e l sh hx
    split at h
    ·rename_i hτ
     cases h
     have hT:=(hC.tt t ti hti).2
     rw[hτ]at hT
     obtain⟨m,hm,hrow,hd',_⟩:=j7 hI hR hg hx
     obtain⟨B,hB,_⟩:=hrow.rep hd'
     refine cQ hI ?_
     simp only[execOp,ho]
     rcases hB with⟨⟨ao,hv⟩,rfl,_⟩|⟨b,off,cap,c,el',fz,Bs,hv,_⟩<;>
      simp[resolve,hb,invoke,builtin,hargs,htys,hv,Builtin.len_,run_underlying hT.1,goInt]
    ·cases h
   ·rename_i s sh hx
    split at h
    ·rename_i hτ
     cases h
     have hT:=(hC.tt t ti hti).2
     rw[hτ]at hT
     refine cQ hI ?_
     simp only[execOp,ho]
     simp[resolve,hb,invoke,builtin,hargs,htys,kU hI hR hg hx,Builtin.len_,run_underlying hT,goInt]
    ·cases h
   ·cases h
 ·
  rename_i x y t u ha hts
  have hargs:c.args= #[x,y]:=Array.ext' (by simpa using ha)
  have htys:c.argTypes= #[t,u]:=Array.ext' (by simpa using hts)
  split at h
  ·rename_i k m sh k' n sh' hx hy
   split at h
   ·rename_i hk
    subst hk
    cases h
    refine cQ hI ?_
    simp only[execOp,ho]
    simp[resolve,hb,invoke,builtin,hargs,htys,cU hI hR hg hx,cU hI hR hg hy,Builtin.min_,Builtin.min2]
   ·cases h
  ·cases h
 ·
  rename_i x y t u ha hts
  have hargs:c.args= #[x,y]:=Array.ext' (by simpa using ha)
  have htys:c.argTypes= #[t,u]:=Array.ext' (by simpa using hts)
  split at h
  ·rename_i k m sh k' n sh' hx hy
   split at h
   ·rename_i hk
    subst hk
    cases h
    refine cQ hI ?_
    simp only[execOp,ho]
    simp[resolve,hb,invoke,builtin,hargs,htys,cU hI hR hg hx,cU hI hR hg hy,Builtin.max_,Builtin.max2]
   ·cases h
  ·cases h
 ·
  split at h
  ·split at h
   ·split at h
    ·split at h
     ·cases h;exact absurd rfl (hq _ _ _ _ _)
     ·cases h
    ·cases h
   ·cases h
  ·cases h
 ·cases h
end
end Vg
namespace Vg
open Go
section
variable {P:Program} {C:Cx} {w0:World} {c0:C0} {U:Nat→Prop} {E:Env} {a:Act} {w:World} {G:Gh} {ops:List Oper} {g:Option (Nat×Bool)}
def Good (U:Nat→Prop) (G:Gh) (c:Nat):Prop:=0<c∧U c∧G.bx c=false
structure uq (w:World) (U:Nat→Prop) (G:Gh) (U':Nat→Prop) (G':Gh) (f:M→M) (fe:Nat→Bool) (fr:List Nat→Option (List Nat)):Prop where
 row:∀(e:Ty) (l:List e.den) (v:Value) (m:M),bW w G e l v m→(∀c∈m.aD,Good U G c)→bW w G' e l v (f m)
 good:∀m:M,(∀c∈m.aD,Good U G c)→∀c∈(f m).aD,Good U' G' c
 rd:∀hs hs',fr hs=some hs'→(∀c∈hs,Good U G c)→(∀c∈hs',Good U' G' c)∧∀b,G.col b∈hs→G'.col b∈hs'
 hdr:∀t,U t→G'.hdr t=G.hdr t
 bx:∀t,U t→G.bx t=true→G'.bx t=true∧∀b,G.col b=t→G'.col b=t
 ru:∀t,U t→G.bx t=false→G'.bx t=false
 mono:∀t,U t→U' t
section
variable {U':Nat→Prop} {G':Gh} {f:M→M} {fe:Nat→Bool} {fr:List Nat→Option (List Nat)}
theorem Sh.pP (hM:uq w U G U' G' f fe fr):∀ {sh:Sh},(∀c∈sh.aD,Good U G c)→∀c∈(sh.map f).aD,Good U' G' c
 | .leaf,_,c,h=>by simp[Sh.map,Sh.aD]at h
 | .sl m,hc,c,h=>hM.good m hc c h
 | .pair a b,hc,c,h=>by
   simp only[Sh.map,Sh.aD,List.mem_append]at h
   exact h.elim (Sh.pP hM (fun c h=>hc c (by simp[Sh.aD,h])) c) (Sh.pP hM (fun c h=>hc c (by simp[Sh.aD,h])) c)
theorem aW.map (hM:uq w U G U' G' f fe fr):∀ {τ:Ty} {x:τ.den} {sh:Sh} {cs:List Value},aW w G τ x sh cs→(∀c∈sh.aD,Good U G c)→
 aW w G' τ x (sh.map f) cs
 | .int _,_,.leaf,_,h,_=>h
 | .bool,_,.leaf,_,h,_=>h
 | .str,_,.leaf,_,h,_=>h
 | .sl e,l,.sl m,cs,h,hc=>by
   obtain⟨v,rfl,hr⟩:=h
   exact⟨v,rfl,hM.row _ _ _ _ hr hc⟩
 | .pair a b,p,.pair s1 s2,cs,h,hc=>by
   obtain⟨c1,c2,rfl,h1,h2⟩:=h
   exact⟨c1,c2,rfl,aW.map hM h1 (fun c h=>hc c (by simp[Sh.aD,h])),aW.map hM h2 (fun c h=>hc c (by simp[Sh.aD,h]))⟩
 | .int _,_,.sl _,_,h,_| .int _,_,.pair _ _,_,h,_| .bool,_,.sl _,_,h,_| .bool,_,.pair _ _,_,h,_
 | .str,_,.sl _,_,h,_| .str,_,.pair _ _,_,h,_| .sl _,_,.leaf,_,h,_| .sl _,_,.pair _ _,_,h,_
 | .pair _ _,_,.leaf,_,h,_| .pair _ _,_,.sl _,_,h,_=>h.elim
theorem aX.map (hM:uq w U G U' G' f fe fr):∀ {s:SV},aX U G s→aX U' G' (s.mapM f fe fr)
 | .no,_=>by simp[SV.mapM,aX,SV.sc,SV.bt,SV.rt]
 | .d v,hm=>aX.d (Sh.pP hM hm.1)
 | .box t v,hm=>by
   have hb:=hm.2.1 t (by simp[SV.bt])
   refine⟨Sh.pP hM hm.1,?_,by simp[SV.mapM,SV.rt]⟩
   intro c hc
   simp only[SV.mapM,SV.bt,List.mem_singleton]at hc
   subst hc
   exact⟨hb.1,hM.mono _ hb.2.1,(hM.bx _ hb.2.1 hb.2.2).1⟩
 | .ptr t o p τ,hm=>by
   have hb:=hm.2.1 t (by simp[SV.bt])
   refine⟨by simp[SV.mapM,SV.sc],?_,by simp[SV.mapM,SV.rt]⟩
   intro c hc
   simp only[SV.mapM,SV.bt,List.mem_singleton]at hc
   subst hc
   exact⟨hb.1,hM.mono _ hb.2.1,(hM.bx _ hb.2.1 hb.2.2).1⟩
 | .ept t e i o p τ,hm=>by
   simp only[SV.mapM]
   split
   ·have hb:=hm.2.2 t (by simp[SV.rt])
    refine⟨by simp[SV.sc],by simp[SV.bt],?_⟩
    intro c hc
    simp only[SV.rt,List.mem_singleton]at hc
    subst hc
    exact⟨hb.1,hM.mono _ hb.2.1,hM.ru _ hb.2.1 hb.2.2⟩
   ·simp[aX,SV.sc,SV.bt,SV.rt]
 | .rdp hs v,hm=>by
   simp only[SV.mapM]
   split
   ·rename_i hs' hr
    obtain⟨k1,k2⟩:=hM.rd hs hs' hr (fun c hc=>hm.1 c (by simp[SV.sc,hc]))
    refine⟨?_,by simp[SV.bt],by simp[SV.rt]⟩
    intro c hc
    simp only[SV.sc,List.mem_append]at hc
    exact hc.elim (k1 c) (Sh.pP hM (fun c hc=>hm.1 c (by simp[SV.sc,hc])) c)
   ·simp[aX,SV.sc,SV.bt,SV.rt]
 | .tup l,hm=>by
   refine⟨?_,by simp[SV.mapM,SV.bt],by simp[SV.mapM,SV.rt]⟩
   intro c hc
   simp only[SV.mapM,SV.sc,List.flatMap_map,List.mem_flatMap]at hc
   obtain⟨v,hv,hc⟩:=hc
   exact Sh.pP hM (fun c hc=>hm.1 c (List.mem_flatMap.2 ⟨v,hv,hc⟩)) c hc
 | .g j w' true v,hm=>by
   have:=aX.map (s:=v) hM (by simpa[aX,SV.sc,SV.bt,SV.rt]using hm)
   simpa[aX,SV.mapM,SV.sc,SV.bt,SV.rt]using this
 | .g j w' false v,hm=>by simp[aX,SV.mapM,SV.sc,SV.bt,SV.rt]
theorem bI.map (hM:uq w U G U' G' f fe fr):∀ {s:SV} {mv:Value},bI w G s mv→aX U G s→bI w G' (s.mapM f fe fr) mv
 | .no,_,_,_=>trivial
 | .d v,mv,⟨cs,h1,h2⟩,hm=>⟨cs,h1,aW.map hM h2 hm.1⟩
 | .box t v,mv,⟨bk,c,el,h1,h2,h3,h4,h5,h6⟩,hm=>by
   have hb:=hm.2.1 t (by simp[SV.bt])
   have hx:=hM.bx t hb.2.1 hb.2.2
   exact⟨bk,c,el,h1,h2,(hM.hdr t hb.2.1).trans h3,hx.2 _ h4,h5,aW.map hM h6 hm.1⟩
 | .ptr t o p τ,mv,⟨bk,h1,h2,h3⟩,hm=>by
   have hb:=hm.2.1 t (by simp[SV.bt])
   exact⟨bk,h1,(hM.hdr t hb.2.1).trans h2,h3⟩
 | .ept t e i o p τ,mv,⟨b,off,n,cap,h1,h2,h3⟩,hm=>by
   simp only[SV.mapM]
   split
   ·have hb:=hm.2.2 t (by simp[SV.rt])
    exact⟨b,off,n,cap,h1,(hM.hdr t hb.2.1).trans h2,h3⟩
   ·trivial
 | .rdp hs v,mv,⟨b,o,c,el,fz,h1,h2,h3,h4,h5⟩,hm=>by
   simp only[SV.mapM]
   split
   ·rename_i hs' hr
    obtain⟨k1,k2⟩:=hM.rd hs hs' hr (fun c hc=>hm.1 c (by simp[SV.sc,hc]))
    exact⟨b,o,c,el,fz,h1,h2,h3,k2 _ h4,aW.map hM h5 (fun c hc=>hm.1 c (by simp[SV.sc,hc]))⟩
   ·trivial
 | .tup l,mv,⟨vs,h1,h2,h3⟩,hm=>by
   refine⟨vs,h1,by simp[h2],fun i v hi=> ?_⟩
   rw[List.getElem?_map,Option.map_eq_some_iff]at hi
   obtain⟨v',hi',rfl⟩:=hi
   obtain⟨u,cs,hu,hmv,hv⟩:=h3 i v' hi'
   exact⟨u,cs,hu,hmv,aW.map hM hv (fun c hc=>hm.1 c (List.mem_flatMap.2 ⟨v',List.mem_of_getElem? hi',hc⟩))⟩
 | .g j w' false v,mv,⟨h1,h2⟩,hm=>⟨fun e=>absurd e (by simp),h2⟩
 | .g j w' true v,mv,⟨h1,h2⟩,hm=>⟨fun e=>⟨by
  have:=(h1 e).1
  cases v with
  |box t v=>simp[SV.dQ]at this
  |ept t e i o p τ=>simp only[SV.mapM];split<;>rfl
  |rdp hs v=>simp only[SV.mapM];split<;>rfl
  |_=>rfl,bI.map (s:=v) hM (h1 e).2 (by simpa[aX,SV.sc,SV.bt,SV.rt]using hm)⟩,h2⟩
theorem xo {s:SV} {t:Nat} {u:TV} (h:s.mapM f fe fr= .box t u):∃u',s= .box t u':=by
 cases s with
 |box t' v=>simp only[SV.mapM,SV.box.injEq]at h;exact⟨v,by rw[h.1]⟩
 |ept t' e i o p τ=>simp only[SV.mapM]at h;split at h<;>cases h
 |rdp hs v=>simp only[SV.mapM]at h;split at h<;>cases h
 |_=>simp[SV.mapM]at h
theorem getD_map {L:List SV} {T:SV→SV} (hT:T .no= .no) (s:Nat):(L.map T).getD s .no=T (L.getD s .no):=by
 simp only[List.getD_eq_getElem?_getD,List.getElem?_map]
 cases L[s]?<;>simp[hT]
theorem Inv.map (hI:Inv w0 c0 U E a w G) (hM:uq w U G U' G' f fe fr) (hcU:∀b,0<G'.col b→U' (G'.col b))
 (hcol:∀b,(0<G'.col b→0<G.col b)∧(G.col b<3→G'.col b=G.col b)∧(G'.col b<3→G'.col b=G.col b)):
 Inv w0 c0 U' {E with s:=E.s.map (SV.mapM f fe fr)} a w G':=by
 have hg:∀s,({E with s:=E.s.map (SV.mapM f fe fr)}:Env).s.getD s .no=(E.s.getD s .no).mapM f fe fr:=fun s=>getD_map (T:=SV.mapM f fe fr) rfl s
 have hm:∀s,aX U' G' ((E.s.getD s .no).mapM f fe fr):=fun s=>aX.map hM (hI.kV s)
 refine⟨by simpa using hI.len,fun s=> ?_,fun s=> ?_,fun s=> ?_,fun s=> ?_,fun s s' t v v' h1 h2=> ?_,hcU,fun b hb=>hI.lt b ((hcol b).1 hb),fun b hb=>hI.fresh b ?_,fun b hb hc=> ?_,fun b hb=>hI.one b ?_,hI.size,hI.os,hI.tape,hI.output,hI.defers,⟨hM.mono _ hI.two.1,hM.ru _ hI.two.1 hI.two.2⟩,fun hk t v e=>⟨hM.mono _ (hI.hk hk t v e).1,(hM.hdr t (hI.hk hk t v e).1).trans (hI.hk hk t v e).2⟩⟩
 ·rw[hg];exact bI.map hM (hI.slots s) (hI.kV s)
 ·rw[hg];exact(hm s).1
 ·rw[hg];exact(hm s).2.1
 ·rw[hg];exact(hm s).2.2
 ·rw[hg]at h1 h2
  obtain⟨u,hu⟩:=xo h1
  obtain⟨u',hu'⟩:=xo h2
  exact hI.uni s s' t u u' hu hu'
 ·have h1:=(hcol b).2.1
  rcases Nat.lt_or_ge (G.col b) 3 with h|h
  ·have:=h1 h;omega
  ·exact h
 ·have h:=hI.frame b hb hc
  exact⟨by rw[(hcol b).2.1 (by rw[h.1];exact hc)];exact h.1,h.2⟩
 ·have h1:=(hcol b).2.2
  rw[←h1 (by omega)];exact hb
end
theorem mC {a b:List Nat} (h:meets a b=false):∀c∈a,c∉b:=by
 simp only[meets,List.any_eq_false,List.contains_eq_mem,decide_eq_true_eq]at h
 exact h
theorem gB (ts:List Nat) (m:M):∀c∈(m.kill ts).aD,c∈m.aD∧c∉ts:=by
 intro c hc
 unfold M.kill at hc
 split at hc
 ·simp[M.aD]at hc
 ·rename_i hm
  exact⟨hc,mC (by simpa using hm) c hc⟩
theorem TO (ts:List Nat):uq w U G U G (M.kill ts) (!ts.contains ·) (fun hs=>if meets hs ts then none else some hs) where
 row e l v m h _:=by
  unfold M.kill
  split
  ·exact h.one
  ·exact h
 good m h c hc:=h c (gB ts m c hc).1
 rd hs hs' h hg:=by
  split at h
  ·cases h
  ·cases h;exact⟨hg,fun b hb=>hb⟩
 hdr _ _:=rfl
 bx t _ hb:=⟨hb,fun _ h=>h⟩
 ru _ _ h:=h
 mono _ h:=h
theorem Inv.kill (hI:Inv w0 c0 U E a w G) (ts:List Nat):Inv w0 c0 U (E.kill ts) a w G:=by
 unfold Env.kill
 split
 ·exact hI
 ·exact hI.map (TO ts) hI.colU (fun b=>⟨fun h=>h,fun _=>rfl,fun _=>rfl⟩)
theorem Sh.gB {ts:List Nat}:∀(sh:Sh),∀c∈(sh.map (M.kill ts)).aD,c∈sh.aD∧c∉ts
 | .leaf,c,h=>by simp[Sh.map,Sh.aD]at h
 | .sl m,c,h=>Vg.gB ts m c h
 | .pair a b,c,h=>by
   simp only[Sh.map,Sh.aD,List.mem_append]at h⊢
   rcases h with h|h
   ·have:=Sh.gB a c h;exact⟨.inl this.1,this.2⟩
   ·have:=Sh.gB b c h;exact⟨.inr this.1,this.2⟩
theorem SV.wj {ts:List Nat}:∀(s:SV),∀c∈(s.kill ts).sc,c∈s.sc∧c∉ts
 | .no,c,h| .ptr ..,c,h=>by simp[SV.kill,SV.mapM,SV.sc]at h
 | .d v,c,h=>Sh.gB v.sh c h
 | .box t v,c,h=>Sh.gB v.sh c h
 | .ept t e i o p τ,c,h=>by simp only[SV.kill,SV.mapM]at h;split at h<;>simp[SV.sc]at h
 | .rdp hs v,c,h=>by
   simp only[SV.kill,SV.mapM]at h
   by_cases hm:meets hs ts=true
   ·simp[hm,SV.sc]at h
   ·simp only[hm,Bool.false_eq_true,if_false,SV.sc,List.mem_append]at h
    rcases h with h|h
    ·exact⟨by simp[SV.sc,h],mC (by simpa using hm) c h⟩
    ·have:=Sh.gB v.sh c h;exact⟨by simp[SV.sc,this.1],this.2⟩
 | .tup l,c,h=>by
   simp only[SV.kill,SV.mapM,SV.sc,List.flatMap_map,List.mem_flatMap]at h
   obtain⟨v,hv,hc⟩:=h
   have:=Sh.gB v.sh c hc
   exact⟨List.mem_flatMap.2 ⟨v,hv,this.1⟩,this.2⟩
 | .g j w' true v,c,h=>by
   have:=SV.wj (ts:=ts) v c (by simpa[SV.kill,SV.mapM,SV.sc]using h)
   simpa[SV.sc]using this
 | .g j w' false v,c,h=>by simp[SV.kill,SV.mapM,SV.sc]at h
theorem Env.xq (E:Env) (ts:List Nat) (s:Nat):(E.kill ts).s.getD s .no=if ts.isEmpty then E.s.getD s .no else(E.s.getD s .no).kill ts:=by
 unfold Env.kill
 split
 ·rfl
 ·exact getD_map (T:=SV.kill ts) rfl s
theorem Env.wj (E:Env) (ts:List Nat) (s:Nat):∀c∈((E.kill ts).s.getD s .no).sc,c∈(E.s.getD s .no).sc∧c∉ts:=by
 intro c hc
 rw[Env.xq]at hc
 split at hc
 ·rename_i he
  have:ts=[]:=by simpa using he
  subst this
  exact⟨hc,by simp⟩
 ·exact SV.wj _ c hc
def Gh.aS (G:Gh) (ts:List Nat) (t:Nat) (v:Value):Gh:=
 ⟨fun b=>if G.col b∈ts then t else G.col b,fun u=>if u=t then v else G.hdr u,fun u=>if u=t then false else G.bx u⟩
theorem A6 {ts:List Nat} {t c:Nat} {hs:List Nat} (h:c∈hs):(if c∈ts then t else c)∈tj ts t hs:=by
 unfold tj
 rw[List.mem_eraseDups,List.mem_map]
 exact⟨c,h,by simp⟩
theorem Rb {ts:List Nat} {t c:Nat} {hs:List Nat} (h:c∈tj ts t hs):c=t∨(c∈hs∧c∉ts):=by
 unfold tj at h
 rw[List.mem_eraseDups,List.mem_map]at h
 obtain⟨d,hd,rfl⟩:=h
 by_cases e:d∈ts
 ·left;simp[e]
 ·right;simp[e,hd]
theorem PE {ts:List Nat} {t:Nat} {hs:List Nat} (h:tj ts t hs=[]):hs=[]:=by
 cases hs with
 |nil=>rfl
 |cons c l=>
  have:=A6 (ts:=ts) (t:=t) (List.mem_cons_self (a:=c) (l:=l))
  rw[h]at this;simp at this
theorem Iy {ts:List Nat} {t:Nat} {v:Value} (h3:3≤t) (hts:∀c∈ts,3≤c∧Good U G c) (ht:U t→v=G.hdr t∧G.bx t=false):
 uq w U G (fun u=>U u∨u=t) (G.aS ts t v) (M.aS ts t) (!ts.contains ·) (fun hs=>some (if meets hs ts then tj ts t hs else hs)):=by
 have hgood0:∀c,Good U G c→Good (fun u=>U u∨u=t) (G.aS ts t v) c:=by
  rintro c ⟨h1,h2,h4⟩
  refine⟨h1,.inl h2,?_⟩
  simp only[Gh.aS]
  split
  ·rfl
  ·exact h4
 have hgood:∀c hs,(∀c∈hs,Good U G c)→c∈tj ts t hs→Good (fun u=>U u∨u=t) (G.aS ts t v) c:=by
  intro c hs hg hc
  rcases Rb hc with rfl|⟨hc,_⟩
  ·exact⟨by omega,.inr rfl,by simp[Gh.aS]⟩
  ·exact hgood0 c (hg c hc)
 have hcol:∀b hs,G.col b∈hs→(G.aS ts t v).col b∈tj ts t hs:=fun b hs h=>A6 h
 have hsame:∀b hs,meets hs ts=false→G.col b∈hs→(G.aS ts t v).col b=G.col b:=fun b hs hm hb=>by
  have:=mC hm _ hb
  simp[Gh.aS,this]
 refine⟨fun e l u m h hg=> ?_,fun m hg c hc=> ?_,fun hs hs' h hg=> ?_,fun u hu=> ?_,fun u hu hb=> ?_,fun u hu hb=> ?_,fun u hu=> .inl hu⟩
 ·unfold M.aS
  cases hm:meets m.aD ts with
  |false=>
   simp only[Bool.false_eq_true,if_false]
   refine bW.agree (w:=w) (G:=G) ⟨fun _ _=>rfl,fun b hb=>hsame b _ hm hb,fun c hc=> ?_⟩ h
   simp only[Gh.aS]
   split
   ·rename_i e;subst e;exact(ht (hg _ hc).2.1).1
   ·rfl
  |true=>
   simp only[if_true]
   cases m with
   |row u' hs nd=>
    simp only[M.GR]
    split
    ·rename_i hin
     obtain⟨B,hB,hc⟩:=h.rep (by simp)
     exact⟨⟨B,hB,fun b hb=>hcol b _ (hc b hb)⟩,fun e=>absurd (PE e) (by simp)⟩
    ·rename_i hin
     simp only[List.contains_eq_mem,decide_eq_true_eq]at hin
     obtain⟨g1,g2,B,hB,hc⟩:=h
     refine⟨g1,?_,B,hB,fun b Bs he=> ?_⟩
     ·simp only[Gh.aS]
      split
      ·rename_i e;subst e
       rw[←g2]
       exact(ht (hg _ (by simp[M.aD])).2.1).1
      ·exact g2
     ·obtain⟨k1,k2,k3,k4⟩:=hc b Bs he
      exact⟨by simp only[Gh.aS,k1];simp[hin],k2,fun x hx=>hcol x _ (k3 x hx),k4⟩
   |sha hs=>
    obtain⟨⟨B,hB,hc⟩,hn⟩:=h
    exact⟨⟨B,hB,fun b hb=>hcol b _ (hc b hb)⟩,fun e=>hn (PE e)⟩
   |dead=>exact h
 ·unfold M.aS at hc
  split at hc
  ·cases m with
   |row u' hs nd=>
    simp only[M.GR]at hc
    split at hc
    ·exact hgood c _ hg hc
    ·rename_i hin
     simp only[M.aD,List.mem_cons]at hc
     rcases hc with rfl|hc
     ·exact hgood0 c (hg c (by simp[M.aD]))
     ·exact hgood c hs (fun c hc=>hg c (by simp[M.aD,hc])) hc
   |sha hs=>exact hgood c hs hg hc
   |dead=>simp[M.GR,M.aD]at hc
  ·exact hgood0 c (hg c hc)
 ·simp only[Option.some.injEq]at h
  subst h
  split
  ·exact⟨fun c hc=>hgood c hs hg hc,fun b hb=>hcol b hs hb⟩
  ·rename_i hm
   exact⟨fun c hc=>hgood0 c (hg c hc),fun b hb=>by rw[hsame b hs (by simpa using hm) hb];exact hb⟩
 ·simp only[Gh.aS]
  split
  ·rename_i e;subst e;exact(ht hu).1
  ·rfl
 ·have hne:u≠t:=by
   rintro rfl
   rw[(ht hu).2]at hb;cases hb
  refine⟨by simp[Gh.aS,hne,hb],fun b hbc=> ?_⟩
  have:u∉ts:=fun h=>by rw[(hts u h).2.2.2]at hb;cases hb
  simp[Gh.aS,hbc,this]
 ·simp only[Gh.aS]
  split
  ·rfl
  ·exact hb
theorem Inv.aS (hI:Inv w0 c0 U E a w G) {ts:List Nat} {t:Nat} {v:Value} (h3:3≤t) (hts:∀c∈ts,3≤c∧Good U G c) (ht:U t→v=G.hdr t∧G.bx t=false):
 Inv w0 c0 (fun u=>U u∨u=t) (E.aS ts t) a w (G.aS ts t v):=by
 have hc1:∀b,0<(G.aS ts t v).col b→(U ((G.aS ts t v).col b)∨(G.aS ts t v).col b=t):=by
  intro b hb
  simp only[Gh.aS]at hb⊢
  split
  ·exact .inr rfl
  ·rename_i h;rw[if_neg h]at hb;exact .inl (hI.colU b hb)
 have hc2:∀b,(0<(G.aS ts t v).col b→0<G.col b)∧(G.col b<3→(G.aS ts t v).col b=G.col b)∧((G.aS ts t v).col b<3→(G.aS ts t v).col b=G.col b):=by
  intro b
  simp only[Gh.aS]
  by_cases h:G.col b∈ts
  ·have:=(hts _ h).1
   simp only[h,if_true];omega
  ·simp[h]
 unfold Env.aS
 split
 ·rename_i he
  have:ts=[]:=by simpa using he
  subst this
  have hM':=hI.map (f:=M.aS [] t) (Iy (w:=w) (v:=v) h3 hts ht) hc1 hc2
  refine {hI.mono (U':=fun u=>U u∨u=t) (fun c h=> .inl h)with slots:=fun s=> ?_,sc:=fun s c hc=> ?_,bt:=fun s c hc=> ?_,rt:=fun s c hc=> ?_,colU:=hc1,fresh:=hM'.fresh,lt:=hM'.lt,frame:=hM'.frame,one:=hM'.one,two:=hM'.two,hk:=hM'.hk}
  ·refine bI.agree (w:=w) (G:=G) ⟨fun _ _=>rfl,fun b hb=>by simp[Gh.aS],fun u hu=> ?_⟩ (hI.slots s)
   have hU:U u:=by
    simp only[List.mem_append]at hu
    rcases hu with(hu|hu)|hu
    ·exact(hI.sc s u hu).2.1
    ·exact(hI.bt s u hu).2.1
    ·exact(hI.rt s u hu).2.1
   simp only[Gh.aS]
   split
   ·rename_i e;subst e;exact(ht hU).1
   ·rfl
  ·have:=hI.sc s c hc
   refine⟨this.1,.inl this.2.1,?_⟩
   simp only[Gh.aS];split
   ·rfl
   ·exact this.2.2
  ·have hb:=hI.bt s c hc
   refine⟨hb.1,.inl hb.2.1,?_⟩
   simp only[Gh.aS];split
   ·rename_i e;subst e
    have h:=(ht hb.2.1).2
    rw[h]at hb;cases hb.2.2
   ·exact hb.2.2
  ·have:=hI.rt s c hc
   refine⟨this.1,.inl this.2.1,?_⟩
   simp only[Gh.aS];split
   ·rfl
   ·exact this.2.2
 ·exact hI.map (Iy h3 hts ht) hc1 hc2
theorem Inv.change (hI:Inv w0 c0 U E a w G) {ts:List Nat} {U':Nat→Prop} {w':World} {G':Gh}
 (hs:∀s,∀c∈(E.s.getD s .no).hc,c∉ts)
 (hag:∀b,0<G.col b→G.col b∉ts→w'.heap[b]?=w.heap[b]?∧G'.col b=G.col b)
 (hhdr:∀t,U t→G'.hdr t=G.hdr t∧G'.bx t=G.bx t) (hU:∀c,U c→U' c)
 (colU:∀b,0<G'.col b→U' (G'.col b)) (lt:∀b,0<G'.col b→b<w'.heap.size)
 (fresh:∀b,3≤G'.col b→∃c el,w'.heap[b]?=some (.cells c el (0,0)))
 (frame:∀b,b<w0.heap.size→c0.col b<3→G'.col b=c0.col b∧w'.heap[b]?=w0.heap[b]?)
 (one:∀b,G'.col b=1→G.col b=1) (size:w.heap.size≤w'.heap.size)
 (os:w'.os=w.os) (tape:w'.tape=w.tape) (output:w'.output=w.output):Inv w0 c0 U' E a w' G':=by
 have hU':∀s u,u∈(E.s.getD s .no).sc++(E.s.getD s .no).bt++(E.s.getD s .no).rt→U u:=by
  intro s u hu
  simp only[List.mem_append]at hu
  rcases hu with(hu|hu)|hu
  ·exact(hI.sc s u hu).2.1
  ·exact(hI.bt s u hu).2.1
  ·exact(hI.rt s u hu).2.1
 refine⟨hI.len,fun s=> ?_,fun s c hc=> ?_,fun s c hc=> ?_,fun s c hc=> ?_,hI.uni,colU,lt,fresh,frame,fun b hb=>hI.one b (one b hb),Nat.le_trans hI.size size,os.trans hI.os,tape.trans hI.tape,output.trans hI.output,hI.defers,⟨hU _ hI.two.1,by rw[(hhdr 2 hI.two.1).2];exact hI.two.2⟩,fun hk t v e=>⟨hU _ (hI.hk hk t v e).1,(hhdr t (hI.hk hk t v e).1).1.trans (hI.hk hk t v e).2⟩⟩
 ·refine bI.agree (w:=w) (G:=G) ⟨fun b hb=> ?_,fun b hb=> ?_,fun u hu=>(hhdr u (hU' s u hu)).1⟩ (hI.slots s)
  ·have:0<G.col b:=by rcases SV.AF _ _ hb with hb|hb;exact(hI.sc s _ hb).1;exact(hI.bt s _ hb).1
   exact(hag b this (hs s _ hb)).1
  ·have:0<G.col b:=by rcases SV.AF _ _ hb with hb|hb;exact(hI.sc s _ hb).1;exact(hI.bt s _ hb).1
   exact(hag b this (hs s _ hb)).2
 ·have:=hI.sc s c hc;exact⟨this.1,hU _ this.2.1,by rw[(hhdr c this.2.1).2];exact this.2.2⟩
 ·have:=hI.bt s c hc;exact⟨this.1,hU _ this.2.1,by rw[(hhdr c this.2.1).2];exact this.2.2⟩
 ·have:=hI.rt s c hc;exact⟨this.1,hU _ this.2.1,by rw[(hhdr c this.2.1).2];exact this.2.2⟩
end
end Vg
namespace Vg
open Go
section
variable {P:Program} {C:Cx} {w0:World} {c0:C0} {U:Nat→Prop} {E:Env} {a:Act} {w:World} {G:Gh} {ops:List Oper} {g:Option (Nat×Bool)}
def Kb (w:World) (v:Value) (n sz:Nat) (cs:List Value):Prop:=
 cs.length=n*sz∧∃(ao:Option Addr) (cap:Nat),v= .slice ao n cap∧n≤cap∧(ao=none→n=0∧cap=0)∧∀a,ao=some a→∀(j:Nat) (u:Value),cs[j]?=some u→w.cell? (a.add j)=some u
theorem dI.cells {e:Ty} {l:List e.den} {v:Value} {B:List Nat} (h:dI w e.sz (aR w e) l v B):
 ∃cs,Kb w v l.length e.sz cs∧bg (aR w e) l cs (B.drop 1)∧
  (∀ad n cap,v= .slice (some ad) n cap→0<cap→∃b off,ad=⟨b,off,none⟩∧B=b::B.drop 1∧n=l.length∧∃c el fz,w.heap[b]?=some (.cells c el fz)∧off+cap*e.sz≤c.size∧cs=(c.toList.drop off).take (l.length*e.sz)):=by
 rcases h with⟨⟨ao,rfl⟩,rfl,rfl⟩|⟨b,off,cap,c,el,fz,Bs,hv,hcap,hb,hsz,rfl,hl⟩
 ·exact⟨[],⟨by simp,ao,0,rfl,Nat.le_refl _,fun _=>⟨rfl,rfl⟩,fun a _ j u hj=>by simp at hj⟩,⟨rfl,rfl⟩,fun ad n cap h hc=>by cases h;omega⟩
 ·refine⟨_,⟨bg.len (sz:=e.sz) (fun x c B h=>aR.len h) hl,some ⟨b,off,none⟩,cap,hv,hcap,by simp,fun a ha j u hj=> ?_⟩,hl,fun ad n' cap' h _=> ?_⟩
  ·cases ha;rw[Addr.add_lit,kW hb];exact H4 hj
  ·rw[hv]at h;cases h;exact⟨b,off,rfl,rfl,rfl,c,el,fz,hb,hsz,rfl⟩
theorem bg.S8 {e:Ty} {l:List e.den} {cs:List Value} {B:List Nat} (h:bg (aR w e) l cs B):∀v∈cs,v.oneCell'=true:=by
 induction l generalizing cs B with
 |nil=>rw[h.1];simp
 |cons x l ih=>
  obtain⟨c1,c2,B1,B2,rfl,rfl,h1,h2⟩:=h
  intro v hv
  rcases List.mem_append.1 hv with hv|hv
  ·exact aR.one h1 v hv
  ·exact ih h2 v hv
theorem TJ {t ty:TypeId} {el:TypeId} {e:Ty} (hu:P.underlying t=some (.slice el)) (hT:eU P el e) {vx vy:Value} {n m:Nat} {xs ys:List Value}
 (hx:Kb w vx n e.sz xs) (hy:Kb w vy m e.sz ys) (h1:∀u∈ys,u.oneCell'=true) (hb:n+m<4294967296)
 (hfr:∀ad k cap,vx= .slice (some ad) k cap→0<cap→∃b off,ad=⟨b,off,none⟩∧∃c el',w.heap[b]?=some (.cells c el' (0,0))∧off+cap*e.sz≤c.size):
 (m=0∧(Builtin.append_ #[t,t] ty #[vx,vy]).run P w= .ok vx w)∨
 (∃b off cap,vx= .slice (some ⟨b,off,none⟩) n cap∧n+m≤cap∧0<cap∧(Builtin.append_ #[t,t] ty #[vx,vy]).run P w= .ok (.slice (some ⟨b,off,none⟩) (n+m) cap) (w.setCells b (off+n*e.sz) ys))∨
 (∃cap rest,n+m≤cap∧cap*e.sz≤(xs++ys++rest).length∧
  (Builtin.append_ #[t,t] ty #[vx,vy]).run P w= .ok (.slice (some ⟨w.heap.size,0,none⟩) (n+m) cap) (w.drew.alloc (.cells (xs++ys++rest).toArray el))):=by
 obtain⟨inf,d,hi,hsz,hz,hby,_⟩:=hT
 have hzs:(bT e e.zero).cells.size=e.sz:=lI e.fw (sF e)
 obtain⟨hxl,aox,capx,rfl,hcx,hnx,hcellx⟩:=hx
 obtain⟨hyl,aoy,capy,rfl,hcy,hny,hcelly⟩:=hy
 rcases Nat.eq_zero_or_pos m with rfl|hm
 ·left
  refine⟨rfl,?_⟩
  have hf:(Builtin.firstCells inf.size 0 (.slice aoy 0 capy)).run P w= .ok #[] w:=by
   cases aoy with
   |none=>exact run_firstCells_none ..
   |some ad=>exact run_firstCells_some (P:=P) w inf.size 0 ad 0 capy [] (by simp) (by simp)
  cases aox with
  |none=>simp[Builtin.append_,run_underlying hu,Go.sizeOf,typeInfo,hi,Builtin.lenOf,hf,hcx]
  |some ad=>simp[Builtin.append_,run_underlying hu,Go.sizeOf,typeInfo,hi,Builtin.lenOf,hf,hcx,storeCells]
 ·right
  cases aoy with
  |none=>have:=(hny rfl).1;omega
  |some ady=>
   have hcy':=hcelly ady rfl
   cases aox with
   |none=>
    obtain⟨rfl,rfl⟩:=hnx rfl
    right
    have hr:=run_append_nil (P:=P) w t ty el inf _ hu hi hz ady m capy ys (by rw[hsz];exact hyl) hcy' hm (by omega) (by
     have:m*inf.bytes≤4294967296*32768:=Nat.mul_le_mul (by omega) hby
     omega)
    have hge:=grownCap_ge w m 0 el
    have hxs:xs=[]:=by simpa using hxl
    subst hxs
    refine⟨grownCap w m 0 el,(Builtin.zeroCells (bT e e.zero).cells (grownCap w m 0 el-m)).toList,by omega,?_,?_⟩
    ·simp only[List.nil_append,List.length_append,Array.length_toList,size_zeroCells,hzs,hyl,←Nat.add_mul]
     exact Nat.mul_le_mul_right _ (by omega)
    ·rw[hr];simp only[Nat.zero_add,List.nil_append];congr 3;apply Array.ext';simp
   |some adx=>
    have hcx':=hcellx adx rfl
    rcases Nat.lt_or_ge capx (n+m)with hg|hg
    ·right
     have hr:=run_append_grow (P:=P) w t ty el inf _ hu hi hz adx n capx xs (by rw[hsz];exact hxl) hcx'
      ady m capy ys (by rw[hsz];exact hyl) hcy' hg (by omega) (growslice_fits hg (by
      have:(n+m)*inf.bytes≤4294967296*32768:=Nat.mul_le_mul (by omega) hby
      omega))
     have hge:=grownCap_ge w (n+m) capx el
     refine⟨grownCap w (n+m) capx el,(Builtin.zeroCells (bT e e.zero).cells (grownCap w (n+m) capx el-(n+m))).toList,hge,?_,?_⟩
     ·simp only[List.length_append,Array.length_toList,size_zeroCells,hzs,hxl,hyl,←Nat.add_mul]
      exact Nat.mul_le_mul_right _ (by omega)
     ·rw[hr]
      congr 3
      apply Array.ext'
      simp
    ·left
     obtain⟨b,off,rfl,c,el',hheap,hsize⟩:=hfr adx n capx rfl (by omega)
     have hcell':∀j,j<ys.length→off+n*e.sz+j<c.size:=by
      intro j hj
      have:(n+m)*e.sz≤capx*e.sz:=Nat.mul_le_mul_right _ hg
      rw[Nat.add_mul]at this
      omega
     have hr:=run_append_room_cells (P:=P) w t ty el inf hu hi b off n capx ady m capy ys (by rw[hsz];exact hyl) hcy' h1 hg
      (fun j hj=>by rw[kW hheap,hsz];simp[hcell' j hj]) (fun j hj=>rA hheap _)
     rw[hsz]at hr
     exact⟨b,off,capx,rfl,hg,by omega,hr⟩
theorem aR.flat:∀ {τ:Ty} {x:τ.den} {cs:List Value} {B:List Nat},τ.flat=true→aR w τ x cs B→B=[]
 | .int _,_,_,_,_,h| .bool,_,_,_,_,h| .str,_,_,_,_,h=>h.2
 | .sl _,_,_,_,h,_=>by simp[Ty.flat]at h
 | .pair a b,p,cs,B,hf,h=>by
   obtain⟨c1,c2,B1,B2,rfl,rfl,h1,h2⟩:=h
   simp only[Ty.flat,Bool.and_eq_true]at hf
   rw[aR.flat hf.1 h1,aR.flat hf.2 h2];rfl
theorem bg.flat {e:Ty} (hf:e.flat=true):∀ {l:List e.den} {cs:List Value} {B:List Nat},bg (aR w e) l cs B→B=[]
 | [],_,_,h=>h.2
 |x::l,cs,B,h=>by
  obtain⟨c1,c2,B1,B2,rfl,rfl,h1,h2⟩:=h
  rw[aR.flat hf h1,bg.flat hf h2];rfl
theorem bW.Va {e:Ty} {l:List e.den} {v:Value} {m:M} (h:bW w G e l v m) (hl:m≠ .dead):
 ∃B,dI w e.sz (aR w e) l v B∧(∀b∈B,G.col b∈m.aD)∧∀b∈B.drop 1,G.col b∈xk m:=by
 cases m with
 |row t hs nd=>
  obtain⟨_,_,B,hB,hc⟩:=h
  cases B with
  |nil=>exact⟨[],hB,by simp,by simp⟩
  |cons x Bs=>
   obtain⟨h1,_,h3,_⟩:=hc x Bs rfl
   refine⟨x::Bs,hB,fun b hb=> ?_,fun b hb=>h3 b (by simpa using hb)⟩
   rcases List.mem_cons.1 hb with rfl|hb
   ·simp[M.aD,h1]
   ·simp[M.aD,h3 b hb]
 |sha hs=>obtain⟨⟨B,hB,hc⟩,_⟩:=h;exact⟨B,hB,hc,fun b hb=>hc b (List.mem_of_mem_drop hb)⟩
 |dead=>exact absurd rfl hl
theorem PN {m:M}:∀c∈xk m,c∈m.aD:=by
 cases m<;>simp_all[xk,M.aD]
structure Vb (G:Gh) (kl gv:List Nat) (tk:Nat) (mm:M) (Bx By:List Nat):Prop where
 hs:∃hs nd,mm= .row tk hs nd∧(∀b∈Bx.drop 1++By.drop 1,(if G.col b∈gv then tk else G.col b)∈hs)∧(nd=true→(Bx.drop 1++By.drop 1).Nodup)
 head:∀b Bs,Bx=b::Bs→G.col b∈kl∧G.col b∈gv∧b∉Bx.drop 1++By.drop 1
theorem Tn {e:Ty} {l l2:List e.den} {vx vy:Value} {m m' mm:M} {tk:Nat} {kl gv:List Nat} (hx:bW w G e l vx m) (hy:bW w G e l2 vy m') (hy0:m'≠ .dead)
 (hgx:∀c∈m.aD,Good U G c) (hgy:∀c∈m'.aD,Good U G c) (h:Sd tk e.flat m m'=some (kl,gv,mm)):
 (∀c∈kl,3≤c∧Good U G c)∧(∀c∈gv,3≤c∧Good U G c)∧(∀c∈mm.aD,Good U G c∨c=tk)∧
  ∃Bx By,dI w e.sz (aR w e) l vx Bx∧dI w e.sz (aR w e) l2 vy By∧Vb G kl gv tk mm Bx By:=by
 obtain⟨By,hBy,hcy,hcy2⟩:=hy.Va hy0
 have flatB:∀ {l:List e.den} {v:Value} {B:List Nat},e.flat=true→dI w e.sz (aR w e) l v B→B.drop 1=[]:=by
  intro l v B hf h
  obtain⟨cs,_,h2,_⟩:=h.cells
  exact bg.flat hf h2
 unfold Sd at h
 split at h
 ·rename_i t hs nd
  obtain⟨ht3,_,Bx,hBx,hcx⟩:=hx
  have htg:=hgx t (by simp[M.aD])
  split at h
  ·rename_i hf
   cases h
   have e1:=flatB hf hBx
   have e2:=flatB hf hBy
   refine⟨by simp[ht3,htg],by simp[ht3,htg],by simp[M.aD],Bx,By,hBx,hBy,⟨⟨[],true,rfl,by simp[e1,e2],by simp[e1,e2]⟩,fun b Bs hb=> ?_⟩⟩
   have:=(hcx b Bs hb).1
   exact⟨by simp[this],by simp[this],by simp[e1,e2]⟩
  ·split at h
   ·cases h
   ·rename_i hnf hnc
    simp only[List.contains_eq_mem,decide_eq_true_eq]at hnc
    have hyn:∀b Bs,Bx=b::Bs→b∉By:=by
     intro b Bs hb hin
     have h1:=hcy b hin
     rw[(hcx b Bs hb).1]at h1
     exact hnc h1
    split at h
    ·rename_i a b ha hb
     split at h
     ·rename_i hdis
      cases h
      obtain⟨hnd,h3,hma⟩:=M.hJ ha
      have hda:∀c∈b,c∉a:=by
       simp only[List.all_eq_true,Bool.not_eq_true',List.contains_eq_mem,decide_eq_false_iff_not]at hdis
       exact hdis
      obtain⟨By',hBy',hny,hcy'⟩:=hy.own hb
      have hb3:∀c∈b,3≤c:=by
       intro c hc
       cases m' with
       |row t' hs' nd'=>
        obtain⟨_,g3,gm⟩:=M.hJ hb
        rcases(gm c).1 hc with rfl|hc
        ·exact hy.1
        ·exact g3 c hc
       |sha hs'=>cases hs' with
        |nil=>simp only[M.own,Option.some.injEq]at hb;subst hb;simp at hc
        |cons=>simp[M.own]at hb
       |dead=>exact absurd rfl hy0
      have ha3:∀c∈a,3≤c:=fun c hc=>by rcases(hma c).1 hc with rfl|hc;exact ht3;exact h3 c hc
      refine⟨by simp[ht3,htg],fun c hc=> ?_,by simp[M.aD],Bx,By',hBx,hBy',⟨⟨[tk],true,rfl,fun x hx=> ?_,fun _=> ?_⟩,fun x Bs hx=> ?_⟩⟩
      ·rcases List.mem_append.1 hc with hc|hc
       ·exact⟨ha3 c hc,hgx c (M.fX ha c hc)⟩
       ·exact⟨hb3 c hc,hgy c (M.fX hb c hc)⟩
      ·have:G.col x∈a++b:=by
        rcases List.mem_append.1 hx with hx|hx
        ·cases Bx with
         |nil=>simp at hx
         |cons y Bs=>
          refine List.mem_append_left _ ((hma _).2 (.inr ?_))
          exact(hcx y Bs rfl).2.2.1 x (by simpa using hx)
        ·exact List.mem_append_right _ (hcy' x (List.mem_of_mem_drop hx))
       simp only[if_pos this];simp
      ·refine List.nodup_append.2 ⟨?_,hny.sublist (List.drop_sublist ..),?_⟩
       ·cases Bx with
        |nil=>simp
        |cons y Bs=>exact(hcx y Bs rfl).2.2.2 hnd
       ·intro x hx y hy e
        subst e
        refine hda _ (hcy' x (List.mem_of_mem_drop hy)) ?_
        cases Bx with
        |nil=>simp at hx
        |cons z Bs=>exact(hma _).2 (.inr ((hcx z Bs rfl).2.2.1 x (by simpa using hx)))
      ·obtain⟨k1,k2,k3,k4⟩:=hcx x Bs hx
       refine⟨by simp[k1],?_,?_⟩
       ·rw[k1];exact List.mem_append_left _ ((hma t).2 (.inl rfl))
       ·intro hin
        rcases List.mem_append.1 hin with hin|hin
        ·rw[hx]at hin;exact k2 (by simpa using hin)
        ·have h1:=M.fX hb _ (hcy' x (List.mem_of_mem_drop hin))
         rw[k1]at h1;exact hnc h1
     ·cases h
    ·cases h
     refine⟨by simp[ht3,htg],by simp[ht3,htg],fun c hc=> ?_,Bx,By,hBx,hBy,⟨⟨_,false,rfl,fun x hx=> ?_,by simp⟩,fun x Bs hx=> ?_⟩⟩
     ·simp only[M.aD,List.mem_cons]at hc
      rcases hc with rfl|hc
      ·exact .inr rfl
      ·rcases Rb hc with rfl|⟨hc,_⟩
       ·exact .inr rfl
       ·left
        rcases List.mem_append.1 hc with hc|hc
        ·exact hgx c (by simp[M.aD,hc])
        ·refine hgy c ?_
         cases m'<;>simp_all[xk,M.aD]
     ·refine A6 (ts:=[t]) ?_
      rcases List.mem_append.1 hx with hx|hx
      ·cases Bx with
       |nil=>simp at hx
       |cons y Bs=>exact List.mem_append_left _ ((hcx y Bs rfl).2.2.1 x (by simpa using hx))
      ·refine List.mem_append_right _ ?_
       exact hcy2 x hx
     ·obtain⟨k1,k2,k3,k4⟩:=hcx x Bs hx
      refine⟨by simp[k1],by simp[k1],fun hin=> ?_⟩
      rcases List.mem_append.1 hin with hin|hin
      ·rw[hx]at hin;exact k2 (by simpa using hin)
      ·exact hyn x Bs hx (List.mem_of_mem_drop hin)
 ·
  have hBx:∃Bx,dI w e.sz (aR w e) l vx Bx∧Bx=[]:=by
   obtain⟨⟨B,hB,hc⟩,_⟩:=hx
   refine⟨B,hB,?_⟩
   cases B with
   |nil=>rfl
   |cons x l=>exact absurd (hc x (by simp)) (by simp)
  obtain⟨_,hBx,rfl⟩:=hBx
  split at h
  ·rename_i hf
   cases h
   have e2:=flatB hf hBy
   exact⟨by simp,by simp,by simp[M.aD],[],By,hBx,hBy,⟨⟨[],true,rfl,by simp[e2],by simp[e2]⟩,by simp⟩⟩
  ·split at h
   ·rename_i b hb
    cases h
    obtain⟨By',hBy',hny,hcy'⟩:=hy.own hb
    have hb3:∀c∈gv,3≤c:=by
     intro c hc
     cases m' with
     |row t' hs' nd'=>
      obtain⟨_,g3,gm⟩:=M.hJ hb
      rcases(gm c).1 hc with rfl|hc
      ·exact hy.1
      ·exact g3 c hc
     |sha hs'=>cases hs' with
      |nil=>simp only[M.own,Option.some.injEq]at hb;subst hb;simp at hc
      |cons=>simp[M.own]at hb
     |dead=>exact absurd rfl hy0
    refine⟨by simp,fun c hc=>⟨hb3 c hc,hgy c (M.fX hb c hc)⟩,by simp[M.aD],[],By',hBx,hBy',⟨⟨[tk],true,rfl,fun x hx=> ?_,fun _=> ?_⟩,by simp⟩⟩
    ·have:=hcy' x (List.mem_of_mem_drop (i:=1) (by simpa only[List.drop_nil,List.nil_append]using hx))
     simp[this]
    ·simpa only[List.drop_nil,List.nil_append]using hny.sublist (List.drop_sublist 1 By')
   ·cases h
    refine⟨by simp,by simp,fun c hc=> ?_,[],By,hBx,hBy,⟨⟨_,false,rfl,fun x hx=> ?_,by simp⟩,by simp⟩⟩
    ·simp only[M.aD,List.mem_cons]at hc
     rcases hc with rfl|hc
     ·exact .inr rfl
     ·exact .inl (hgy c (PN c hc))
    ·simpa using hcy2 x (by simpa using hx)
 ·cases h
theorem dI.bounds {e:Ty} {l:List e.den} {v:Value} {B:List Nat} (h:dI w e.sz (aR w e) l v B):∀b∈B,b<w.heap.size:=
 aR.bounds (τ:= .sl e) ⟨v,rfl,h⟩
theorem bg.world {e:Ty} {w':World} {l:List e.den} {cs:List Value} {B:List Nat} (hB:∀b∈B,w'.heap[b]?=w.heap[b]?) (h:bg (aR w e) l cs B):bg (aR w' e) l cs B:=
 bg.mono (fun b=>w'.heap[b]?=w.heap[b]?) (fun _ _ _ hP hx=>aR.mono hP hx) hB h
theorem Pp (hI:Inv w0 c0 U E a w G) {kl:List Nat} (hkl:∀c∈kl,3≤c∧Good U G c):∀s,∀c∈((E.kill kl).s.getD s .no).hc,c∉kl:=by
 intro s c hc hin
 rcases SV.AF _ _ hc with hc|hc
 ·exact(Env.wj E kl s c hc).2 hin
 ·have h1:=(hI.kill kl).bt s c hc
  rw[(hkl c hin).2.2.2]at h1
  exact absurd h1.2.2 (by simp)
theorem Ud (hC:CxTy P C) (hI:Inv w0 c0 U E a w G) (hR:RI ops E a.tmps) (hg:Gd ops a.tmps g) {tk:Nat} (h3:3≤tk) (hU:¬U tk) {o:Oper} {c:Call}
 {cd:Bool} {kl gv:List Nat} {t:Nat} {v:SV} (ho:o.op= .call c) (hb:c.callee= .builtin .append) (h:bm C ops E.rd tk g o=some (.app cd kl gv t v)) (hcd:cd=true):
 t=tk∧Yields w0 c0 (fun u=>U u∨u=tk) ((E.kill kl).aS gv t) a ((execOp a.eval o).run P w) v:=by
 simp only[bm,ho,hb]at h
 unfold kY at h
 split at h
 ·contradiction
 ·contradiction
 ·contradiction
 ·rename_i x y t1 u1 _ ha hts
  have hargs:c.args= #[x,y]:=Array.ext' (by simpa using ha)
  have htys:c.argTypes= #[t1,u1]:=Array.ext' (by simpa using hts)
  split at h
  ·rename_i ti e l m e' l' m' hti hx hy
   split at h
   ·rename_i l2 hl2
    have hcast:=cK hl2
    simp only[TV.mk.injEq]at hcast
    obtain⟨he,hl,_⟩:=hcast
    cases he
    cases hl
    split at h
    ·rename_i kl' gv' mm hm
     split at h
     ·rename_i hcond
      simp only[Bool.and_eq_true,decide_eq_true_eq]at hcond
      obtain⟨hτ,rfl⟩:=hcond
      simp only[Option.some.injEq,Ef.app.injEq]at h
      obtain⟨hcd',rfl,rfl,rfl,rfl⟩:=h
      refine⟨rfl,?_⟩
      rw[←hcd']at hcd
      have hlen:l.length+l2.length<4294967296:=of_decide_eq_true hcd
      have hT:=(hC.tt _ ti hti).2
      rw[hτ]at hT
      obtain⟨hu,hel⟩:=hT
      obtain⟨mx,hmx,hrx,hdx,hgx⟩:=j7 hI hR hg hx
      cases hmx
      obtain⟨my,hmy,hry,hdy,hgy⟩:=j7 hI hR hg hy
      cases hmy
      obtain⟨hkl,hgv,hmm,Bx,By,hBx,hBy,⟨⟨hs,nd,rfl,hhs,hnd⟩,hhead⟩⟩:=Tn hrx hry hdy hgx hgy hm
      have hrun:∀ {v':Value} {w':World},((Builtin.append_ #[u1,u1] o.type #[a.eval x,a.eval y]).run P w= .ok v' w')→(execOp a.eval o).run P w= .ok (.value v') w':=by
       intro v' w' hr
       simp only[execOp,ho]
       simp[resolve,hb,invoke,builtin,hargs,htys,hr]
      obtain⟨xs,hcx,hlx,hbx⟩:=hBx.cells
      obtain⟨ys,hcy,hly,_⟩:=hBy.cells
      have hgood:∀(G1:Gh) (mv:Value),(∀c,U c→G.bx c=false→G1.bx c=false)→∀c∈(M.row tk hs nd).aD,Good (fun u=>U u∨u=tk) (G1.aS gv' tk mv) c:=by
       intro G1 mv h1 c hc
       rcases hmm c hc with⟨k1,k2,k4⟩|rfl
       ·refine⟨k1,.inl k2,?_⟩
        simp only[Gh.aS]
        split
        ·rfl
        ·exact h1 c k2 k4
       ·exact⟨by omega,.inr rfl,by simp[Gh.aS]⟩
      have hkl0:=hI.kill kl'
      have hfr:∀ad k cap,a.eval x= .slice (some ad) k cap→0<cap→∃b off,ad=⟨b,off,none⟩∧∃c el',w.heap[b]?=some (.cells c el' (0,0))∧off+cap*e.sz≤c.size:=by
       intro ad k cap hv hc0
       obtain⟨b,off,had,hB,_,c,el',fz,hh,hsz,_⟩:=hbx ad k cap hv hc0
       obtain⟨k1,k2,_⟩:=hhead b _ hB
       obtain⟨c',el2,hf⟩:=hI.fresh b (hkl _ k1).1
       rw[hf]at hh;cases hh
       exact⟨b,off,had,_,_,hf,hsz⟩
      have hdropx:∀z∈Bx.drop 1,z<w.heap.size:=fun z hz=>hBx.bounds z (List.mem_of_mem_drop hz)
      have hdropy:∀z∈By.drop 1,z<w.heap.size:=fun z hz=>hBy.bounds z (List.mem_of_mem_drop hz)
      rcases TJ (ty:=o.type) hu hel hcx hcy (bg.S8 hly) hlen hfr with⟨hm0,hr⟩|⟨b,off,cap,hv,hcap,hc0,hr⟩|⟨cap,rest,hcap,hsz,hr⟩
      ·
       have hl2:l2=[]:=List.length_eq_zero_iff.1 hm0
       subst hl2
       refine⟨_,_,_,hrun hr,hkl0.aS (v:=a.eval x) h3 hgv (fun h=>absurd h hU),⟨[a.eval x],rfl,_,rfl,h3,by simp[Gh.aS],Bx,?_,?_⟩,aX.d (hgood G _ (fun _ _ h=>h)),by rintro _ _ ⟨⟩⟩
       ·simpa using hBx
       ·intro b Bs hB
        obtain⟨k1,k2,k4⟩:=hhead b Bs hB
        subst hB
        simp only[List.drop_succ_cons,List.drop_zero,List.mem_append,not_or]at k4
        refine⟨by simp[Gh.aS,k2],k4.1,fun z hz=> ?_,fun hn=> ?_⟩
        ·exact hhs z (List.mem_append_left _ (by simpa using hz))
        ·have:=(List.nodup_append.1 (hnd hn)).1
         simpa using this
      ·
       obtain⟨b0,off0,had,c,el',hh,hsz⟩:=hfr _ _ cap hv hc0
       cases had
       obtain⟨b1,off1,had,hB,_,c',el2,fz,hh',_,hxs⟩:=hbx _ _ cap hv hc0
       cases had
       rw[hh]at hh';cases hh'
       obtain⟨k1,k2,k4⟩:=hhead b _ hB
       simp only[List.mem_append,not_or]at k4
       have hyl:=hcy.1
       have hxl:=hcx.1
       have hmul:(l.length+l2.length)*e.sz≤cap*e.sz:=Nat.mul_le_mul_right _ hcap
       rw[Nat.add_mul]at hmul
       have hrow:=gj b (el:=el') ys (off+l.length*e.sz) w c hh (by omega)
       have hI2:Inv w0 c0 U (E.kill kl') a (w.setCells b (off+l.length*e.sz) ys) G:=by
        refine hkl0.change (ts:=kl') (Pp hI hkl) (fun z _ hz=>⟨bD b _ _ w z (fun e=>hz (e▸k1)),rfl⟩) (fun _ _=>⟨rfl,rfl⟩) (fun _ h=>h) hI.colU
         (fun z hz=>by rw[dY];exact hI.lt z hz) (fun z hz=> ?_) (fun z hz hc=> ?_) (fun _ h=>h) (by rw[dY];exact Nat.le_refl _)
         (cx b _ _ w).1 (cx b _ _ w).2.1 (cx b _ _ w).2.2
        ·by_cases e1:z=b
         ·subst e1;exact⟨_,_,hrow⟩
         ·rw[bD b _ _ w z e1];exact hI.fresh z hz
        ·have hf:=hI.frame z hz hc
         refine⟨hf.1,?_⟩
         rw[bD b _ _ w z (fun e=> ?_)]
         ·exact hf.2
         ·subst e
          have:=(hkl _ k1).1
          omega
       refine⟨_,_,_,hrun hr,hI2.aS (v:= .slice (some ⟨b,off,none⟩) (l.length+l2.length) cap) h3 hgv (fun h=>absurd h hU),⟨[_],rfl,_,rfl,h3,by simp[Gh.aS],b::(Bx.drop 1++By.drop 1),?_,?_⟩,aX.d (hgood G _ (fun _ _ h=>h)),by rintro _ _ ⟨⟩⟩
       ·refine .inr ⟨b,off,cap,_,el',(0,0),Bx.drop 1++By.drop 1,by simp,by simpa using hcap,hrow,?_,rfl,?_⟩
        ·simp;omega
        ·have hcells:((c.toList.take (off+l.length*e.sz)++ys++c.toList.drop (off+l.length*e.sz+ys.length)).drop off).take ((l++l2).length*e.sz)=xs++ys:=by
          have htl:(c.toList.take (off+l.length*e.sz)).length=off+l.length*e.sz:=by simp;omega
          rw[List.append_assoc,List.drop_append_of_le_length (by omega),List.drop_take,hxs]
          rw[show off+l.length*e.sz-off=l.length*e.sz by omega]
          rw[←List.append_assoc]
          have hlen1:(List.take (l.length*e.sz) (List.drop off c.toList)++ys).length=(l++l2).length*e.sz:=by
           rw[List.length_append,hyl,←hxs,hxl,List.length_append,Nat.add_mul]
          rw[←hlen1,List.take_left]
         rw[hcells]
         refine bg.append (bg.world (fun z hz=>bD b _ _ w z (fun e=> ?_)) hlx) (bg.world (fun z hz=>bD b _ _ w z (fun e=> ?_)) hly)
         ·subst e;exact k4.1 hz
         ·subst e;exact k4.2 hz
       ·rintro b' Bs ⟨⟩
        refine⟨by simp[Gh.aS,k2],fun hin=>(List.mem_append.1 hin).elim k4.1 k4.2,fun z hz=>hhs z hz,fun hn=>hnd hn⟩
      ·
       have hI1:=(hkl0.drawn (w.drawn+1)).alloc h3 hU (xs++ys++rest).toArray ti.el (.slice (some ⟨w.heap.size,0,none⟩) (l.length+l2.length) cap) false
       have hI2:=hI1.aS (ts:=gv') (t:=tk) (v:= .slice (some ⟨w.heap.size,0,none⟩) (l.length+l2.length) cap) h3 (fun c hc=> ?_) (fun _=>⟨by simp[Gh.add],by simp[Gh.add]⟩)
       ·have hgv2:∀z,z<w.heap.size→(G.add w.heap.size tk (.slice (some ⟨w.heap.size,0,none⟩) (l.length+l2.length) cap) false).col z=G.col z:=fun z hz=>by
         simp[Gh.add,Nat.ne_of_lt hz]
        refine⟨_,_,_,hrun hr,hI2.mono (fun c hc=>by rcases hc with hc|hc;exact hc;exact .inr hc),⟨[_],rfl,_,rfl,h3,by simp[Gh.aS],w.heap.size::(Bx.drop 1++By.drop 1),?_,?_⟩,
         aX.d (hgood _ _ (fun c hc h=>by
          have:c≠tk:=fun e=>hU (e▸hc)
          simp[Gh.add,this,h])),by rintro _ _ ⟨⟩⟩
        ·refine .inr ⟨w.heap.size,0,cap,_,ti.el,(0,0),Bx.drop 1++By.drop 1,by simp,by simpa using hcap,heap_alloc_new _ _,by simpa using hsz,rfl,?_⟩
         have hxl:=hcx.1
         have hyl:=hcy.1
         have hcells:(((xs++ys++rest).toArray.toList.drop 0).take ((l++l2).length*e.sz))=xs++ys:=by
          have hlen1:(xs++ys).length=(l++l2).length*e.sz:=by rw[List.length_append,hyl,hxl,List.length_append,Nat.add_mul]
          simp only[List.drop_zero]
          rw[←hlen1,List.take_left]
         rw[hcells]
         exact bg.append (bg.world (w:=w) (fun z hz=>heap_alloc_old w.drew _ z (hdropx z hz)) hlx) (bg.world (w:=w) (fun z hz=>heap_alloc_old w.drew _ z (hdropy z hz)) hly)
        ·rintro b' Bs ⟨⟩
         refine⟨?_,?_,fun z hz=> ?_,fun hn=>hnd hn⟩
         ·simp[Gh.aS,Gh.add]
         ·intro hin
          rcases List.mem_append.1 hin with hin|hin
          ·exact Nat.lt_irrefl _ (hdropx _ hin)
          ·exact Nat.lt_irrefl _ (hdropy _ hin)
         ·have hz':z<w.heap.size:=by
           rcases List.mem_append.1 hz with hz|hz
           ·exact hdropx _ hz
           ·exact hdropy _ hz
          have:=hhs z hz
          simp only[Gh.aS]
          have hd:(World.heap {w with drawn:=w.drawn+1}).size=w.heap.size:=rfl
          rw[hd,hgv2 z hz']
          exact this
       ·obtain⟨k1,k2,k4,k5⟩:=hgv c hc
        have:c≠tk:=fun e=>hU (e▸k4)
        exact⟨k1,k2,.inl k4,by simp[Gh.add,this,k5]⟩
     ·cases h
    ·cases h
   ·cases h
  ·cases h
 ·cases h
end
end Vg
namespace Vg
open Go
section
variable {P:Program} {C:Cx} {w0:World} {c0:C0} {U:Nat→Prop} {E:Env} {a:Act} {w:World} {G:Gh} {ops:List Oper} {g:Option (Nat×Bool)}
theorem Inv.SA (h:Inv w0 c0 U E a w G) (d:Nat) {sv:SV} (hs:bI w G sv (a.tmps.getD d undef)) (hm:aX U G sv)
 (hbox:∀t u,sv= .box t u→∀s u',s≠d→E.s.getD s .no≠ .box t u'):Inv w0 c0 U {E with s:=E.s.set d sv} a w G:=by
 have hget:∀s,({E with s:=E.s.set d sv}:Env).s.getD s .no=if s=d∧d<E.s.length then sv else E.s.getD s .no:=fun s=>dF E.s d s sv
 refine {h with len:=by simpa using h.len,slots:=fun s=> ?_,sc:=fun s c hc=> ?_,bt:=fun s c hc=> ?_,rt:=fun s c hc=> ?_,uni:=fun s s' t u u' h1 h2=> ?_}
 ·rw[hget]
  split
  ·rename_i e;rw[e.1];exact hs
  ·exact h.slots s
 ·rw[hget]at hc
  split at hc
  ·exact hm.1 c hc
  ·exact h.sc s c hc
 ·rw[hget]at hc
  split at hc
  ·exact hm.2.1 c hc
  ·exact h.bt s c hc
 ·rw[hget]at hc
  split at hc
  ·exact hm.2.2 c hc
  ·exact h.rt s c hc
 ·rw[hget]at h1 h2
  split at h1<;>split at h2
  ·omega
  ·rename_i e1 e2
   by_cases e:s'=d
   ·exact absurd ⟨e,e1.2⟩ e2
   ·exact absurd h2 (hbox t u h1 s' u' e)
  ·rename_i e1 e2
   by_cases e:s=d
   ·exact absurd ⟨e,e2.2⟩ e1
   ·exact absurd h1 (hbox t u' h2 s u e)
  ·exact h.uni s s' t u u' h1 h2
theorem Inv.drop (h:Inv w0 c0 U E a w G) (d:Nat):Inv w0 c0 U {E with s:=E.s.set d .no} a w G:=
 h.SA d (sv:= .no) trivial (by simp[aX,SV.sc,SV.bt,SV.rt]) (by rintro _ _ ⟨⟩)
theorem uV {t:TypeId} {τ:Ty} (h:eU P t τ) {x:Value} {b o:Nat} {c:Array Value} {el:TypeId} {cs:List Value}
 (hb:w.heap[b]?=some (.cells c el (0,0))) (hs:o+τ.sz≤c.size) (hl:cs.length=τ.sz) (h1:∀v∈cs,v.oneCell'=true) (hx:x= .pointer (some ⟨b,o,none⟩)):
 (Instr.storeAt t x (bT τ cs)).run P w= .ok () (w.setCells b o cs):=by
 subst hx
 simp only[Instr.storeAt,Instr.sureAddr]
 simpa using Lv h hb hs hl h1
theorem UA (hC:CxTy P C) (hI:Inv w0 c0 U E a w G) (hR:RI ops E a.tmps) (hg:Gd ops a.tmps g) {tk:Nat} {o:Oper} {t:TypeId} {x y:Operand}
 {b s:Nat} {v:TV} (ho:o.op= .store t x y) (h:bm C ops E.rd tk g o=some (.put b s v)):
 ∃w',(execOp a.eval o).run P w= .ok .skip w'∧Inv w0 c0 U {E with s:=E.s.set s (.box b v)} a w' G:=by
 simp only[bm,ho]at h
 split at h
 ·rename_i ti b1 off p τ1 v1 hti harg hv
  split at h
  ·rename_i s1 u hbox
   split at h
   ·rename_i hc
    simp only[Bool.and_eq_true,decide_eq_true_eq]at hc
    rw[Option.map_eq_some_iff]at h
    obtain⟨r,hr,h⟩:=h
    simp only[Ef.put.injEq]at h
    obtain⟨rfl,rfl,rfl⟩:=h
    obtain⟨h1,h2⟩:=en hI hR hg harg
    obtain⟨bk,_,k2,k3⟩:=h1
    obtain⟨hslot,bk',c,el,g1,g3,g4,g5,g6,g7⟩:=hI.box hbox
    rw[g1]at k2
    simp only[Value.pointer.injEq,Option.some.injEq,Addr.mk.injEq,and_true]at k2
    subst k2
    obtain⟨⟨cv,hcv,hvv⟩,hvg,hlive⟩:=fW hI hR hg hv
    obtain⟨q1,q2,q3⟩:=aW.put hr g6 hvv
    have hlen:=aW.len g6
    have hlv:=aW.len hvv
    simp only[Array.length_toList]at hlen
    rw[hc.1]at q1 q2
    have hT:=(hC.tt t ti hti).1
    have hrow:=gj bk' (el:=el) cv off w c g5 (by omega)
    have hrun:=uV (P:=P) (t:=t) (τ:=ti.τ) hT g5 (o:=off) (cs:=cv) (by rw[←hc.2];omega) (by rw[hlv,hc.2]) (aW.one hvv) k3
    have hbx:G.bx b1=true:=((hI.bt s1 b1 (by rw[hslot];simp[SV.bt])).2.2)
    refine⟨w.setCells bk' off cv,?_,?_⟩
    ·simp only[execOp,ho,hcv,hc.2]
     simp[hrun]
    ·have hne:∀k,G.col k≠b1→k≠bk':=fun k hk e=>hk (e▸g4)
     have hD:=hI.drop s1
     have hsc:∀s,({E with s:=E.s.set s1 .no}:Env).s.getD s .no=if s=s1∧s1<E.s.length then .no else E.s.getD s .no:=fun s=>dF E.s s1 s .no
     have hhc:∀s,∀c∈(({E with s:=E.s.set s1 .no}:Env).s.getD s .no).hc,c∉ [b1]:=by
      intro s c hcc hin
      simp only[List.mem_singleton]at hin
      subst hin
      have hl1:s1<E.s.length:=by
       rcases Nat.lt_or_ge s1 E.s.length with h|h
       ·exact h
       ·rw[List.getD_eq_getElem?_getD,List.getElem?_eq_none h]at hslot;cases hslot
      rw[hsc]at hcc
      split at hcc
      ·simp[SV.hc,SV.sc]at hcc
      ·rename_i hns
       have hs1:s≠s1:=fun e=>hns ⟨e,hl1⟩
       have hno:∀sv:SV,(∀u,sv≠ .box c u)→(∀d∈sv.sc,G.bx d=false)→c∉sv.hc:=by
        intro sv h1 h2 h3
        cases sv with
        |box t v=>
         rcases List.mem_cons.1 h3 with rfl|h3
         ·exact h1 v rfl
         ·have:=h2 c h3;rw[hbx]at this;cases this
        |_=>
         have:=h2 c h3
         rw[hbx]at this;cases this
       exact hno _ (fun u' e=>hs1 (hI.uni s s1 c u' _ e hslot)) (fun d hd=>(hI.sc s d hd).2.2) hcc
     have hI2:Inv w0 c0 U {E with s:=E.s.set s1 .no} a (w.setCells bk' off cv) G:=by
      refine hD.change (ts:=[b1]) hhc (fun k _ hk=>⟨bD bk' _ _ w k (hne k (by simpa using hk)),rfl⟩) (fun _ _=>⟨rfl,rfl⟩) (fun _ h=>h) hI.colU
       (fun k hk=>by rw[dY];exact hI.lt k hk) (fun k hk=> ?_) (fun k hk hkc=> ?_) (fun _ h=>h) (by rw[dY];exact Nat.le_refl _)
       (cx _ _ _ w).1 (cx _ _ _ w).2.1 (cx _ _ _ w).2.2
      ·by_cases e:k=bk'
       ·subst e;exact⟨_,_,hrow⟩
       ·rw[bD bk' _ _ w k e];exact hI.fresh k hk
      ·have hf:=hI.frame k hk hkc
       refine⟨hf.1,?_⟩
       rw[bD bk' _ _ w k (fun e=> ?_)]
       ·exact hf.2
       ·subst e;omega
     have hl1:s1<E.s.length:=by
      rcases Nat.lt_or_ge s1 E.s.length with h|h
      ·exact h
      ·rw[List.getD_eq_getElem?_getD,List.getElem?_eq_none h]at hslot;cases hslot
     have hI3:=hI2.SA s1 (sv:= .box b1 ⟨u.τ,r.1,r.2⟩) ?_ ?_ ?_
     ·simpa using hI3
     ·refine⟨bk',_,el,?_,g3,?_,g4,hrow,?_⟩
      ·have:=hI.slots s1
       rw[hslot]at this
       obtain⟨bk2,c2,el2,e1,e2,e3,e4,e5,e6⟩:=this
       rw[e1]at e3
       rw[g1]at e3
       rw[e1];exact e3.symm
      ·have:=hI.slots s1
       rw[hslot]at this
       obtain⟨bk2,c2,el2,e1,e2,e3,e4,e5,e6⟩:=this
       rw[e3]
      ·have:cv.length=v1.τ.sz:=hlv
       rw[this]
       refine aW.agree ⟨fun k hk=>bD bk' _ _ w k (fun e=> ?_),fun _ _=>rfl,fun _ _=>rfl⟩ q1
       subst e
       rw[g4]at hk
       rcases q3 _ hk with hk|hk
       ·have:=(g7 _ hk).2.2;rw[hbx]at this;cases this
       ·have:=(hvg _ hk).2.2;rw[hbx]at this;cases this
     ·refine⟨fun d hd=> ?_,fun d hd=> ?_,by simp[SV.rt]⟩
      ·rcases q3 d hd with hd|hd
       ·exact g7 d hd
       ·exact hvg d hd
      ·simp only[SV.bt,List.mem_singleton]at hd
       subst hd
       exact hI.bt s1 d (by rw[hslot];simp[SV.bt])
     ·rintro t' u' ⟨rfl,rfl⟩ s' u2 hs' he
      rw[hsc]at he
      split at he
      ·cases he
      ·exact hs' (hI.uni s' s1 _ u2 _ he hslot)
   ·cases h
  ·cases h
 ·split at h
  ·obtain⟨_,h⟩:=Option.ite_none_right_eq_some.mp h
   obtain⟨_,h⟩:=Option.ite_none_left_eq_some.mp h
   obtain⟨r,_,h⟩:=Option.map_eq_some_iff.mp h
   cases h
  ·cases h
 ·cases h
end
end Vg
namespace Vg
open Go
def eD (o:Nat) (vs c:List Value):List Value:=c.take o++vs++c.drop (o+vs.length)
theorem CF {k o:Nat} {vs c:List Value} (h:k≤o) (hc:o≤c.length):(eD o vs c).drop k=eD (o-k) vs (c.drop k):=by
 unfold eD
 rw[List.append_assoc,List.drop_append_of_le_length (by simp;omega),List.drop_take,List.append_assoc,List.drop_drop]
 congr 3;omega
theorem CC {n o:Nat} {vs c:List Value} (h:o+vs.length≤n) (hn:n≤c.length):(eD o vs c).take n=eD o vs (c.take n):=by
 unfold eD
 have hl:(c.take o++vs).length=o+vs.length:=by simp;omega
 rw[List.take_append,hl,List.take_of_length_le (by omega),List.take_take,Nat.min_eq_left (by omega),List.drop_take]
theorem Ca {k po sz:Nat} {vs c:List Value} (h:po+vs.length≤sz):
 eD (k+po) vs c=c.take k++eD po vs ((c.drop k).take sz)++c.drop (k+sz):=by
 unfold eD
 rw[List.take_take,Nat.min_eq_left (by omega),List.drop_take,List.drop_drop]
 have h1:c.take (k+po)=c.take k++(c.drop k).take po:=by rw[List.take_add]
 have h2:c.drop (k+po+vs.length)=((c.drop (k+(po+vs.length))).take (sz-(po+vs.length)))++c.drop (k+sz):=by
  have:=(List.take_append_drop (sz-(po+vs.length)) (c.drop (k+(po+vs.length)))).symm
  rw[List.drop_drop]at this
  rw[show k+po+vs.length=k+(po+vs.length) by omega]
  rw[show k+sz=k+(po+vs.length)+(sz-(po+vs.length)) by omega]
  exact this
 rw[h1,h2]
 simp[List.append_assoc]
section
variable {P:Program} {C:Cx} {w0:World} {c0:C0} {U:Nat→Prop} {E:Env} {a:Act} {w:World} {G:Gh} {ops:List Oper} {g:Option (Nat×Bool)}
theorem aR.put:∀ {p:List Bool} {τ:Ty} {x:τ.den} {sh:Sh} {cs:List Value} {v:TV} {y:τ.den} {s:Sh} {cv:List Value} {B Bv:List Nat},
 dU τ x sh p v=some (y,s)→aR w τ x cs B→aR w v.τ v.x cv Bv→
 ∃Ba Bo Bb,B=Ba++Bo++Bb∧aR w τ y (eD (τ.off p) cv cs) (Ba++Bv++Bb)∧τ.off p+cv.length≤τ.sz
 | [],τ,x,sh,cs,v,y,s,cv,B,Bv,hp,h,hv=>by
   have hp':ed v τ=some y:=by
    cases τ<;>(simp only[dU]at hp;split at hp<;>simp_all)
   have e:=cK hp'
   have hl:=aR.len h
   have h0:τ.off []=0:=by cases τ<;>rfl
   have hlv:=aR.len hv
   have hτ:v.τ=τ:=by rw[e]
   refine⟨[],B,[],by simp,?_,by rw[h0,hlv,hτ];omega⟩
   unfold eD
   rw[h0,hlv,hτ,List.take_zero,List.nil_append,Nat.zero_add,List.drop_of_length_le (by omega),List.append_nil]
   rw[e]at hv
   simpa using hv
 |false::p,.pair a b,x,.pair s1 s2,cs,v,y,s,cv,B,Bv,hp,h,hv=>by
  obtain⟨c1,c2,B1,B2,rfl,rfl,h1,h2⟩:=h
  simp only[dU]at hp
  split at hp
  ·rename_i y1 s1' hq
   cases hp
   obtain⟨Ba,Bo,Bb,rfl,hr,hle⟩:=aR.put hq h1 hv
   have hl:=aR.len h1
   refine⟨Ba,Bo,Bb++B2,by simp,⟨_,c2,_,B2,?_,by simp,hr,h2⟩,by simp only[Ty.off,Ty.sz];omega⟩
   simp only[Ty.off,eD]
   rw[List.take_append_of_le_length (by omega),List.drop_append_of_le_length (by omega)]
   simp
  ·cases hp
 |true::p,.pair a b,x,.pair s1 s2,cs,v,y,s,cv,B,Bv,hp,h,hv=>by
  obtain⟨c1,c2,B1,B2,rfl,rfl,h1,h2⟩:=h
  simp only[dU]at hp
  split at hp
  ·rename_i y1 s1' hq
   cases hp
   obtain⟨Ba,Bo,Bb,rfl,hr,hle⟩:=aR.put hq h2 hv
   have hl:=aR.len h1
   refine⟨B1++Ba,Bo,Bb,by simp,⟨c1,_,B1,_,?_,by simp,h1,hr⟩,by simp only[Ty.off,Ty.sz];omega⟩
   simp only[Ty.off,eD]
   rw[←hl,List.take_append,List.take_of_length_le (by omega),List.drop_append,List.drop_of_length_le (by omega)]
   simp[Nat.add_assoc]
  ·cases hp
 |b::p,.int _,_,_,_,_,_,_,_,_,_,hp,_,_|b::p,.bool,_,_,_,_,_,_,_,_,_,hp,_,_|b::p,.str,_,_,_,_,_,_,_,_,_,hp,_,_|b::p,.sl _,_,_,_,_,_,_,_,_,_,hp,_,_=>by simp[dU]at hp
 |false::p,.pair _ _,_,.leaf,_,_,_,_,_,_,_,hp,_,_|false::p,.pair _ _,_,.sl _,_,_,_,_,_,_,_,hp,_,_=>by simp[dU]at hp
 |true::p,.pair _ _,_,.leaf,_,_,_,_,_,_,_,hp,_,_|true::p,.pair _ _,_,.sl _,_,_,_,_,_,_,_,hp,_,_=>by simp[dU]at hp
def M.clear (b:Nat):M→Prop
 | .row u hs _=>u=b∨b∉hs
 | .sha hs=>b∉hs
 | .dead=>True
def Sh.clear (b:Nat):Sh→Prop
 | .leaf=>True
 | .sl m=>m.clear b
 | .pair x y=>x.clear b∧y.clear b
theorem dq (b:Nat) (m:M):(m.bO b).clear b:=by
 cases m with
 |row u hs nd=>
  simp only[M.bO]
  split
  ·rename_i h;exact .inl h
  ·split
   ·trivial
   ·rename_i h;right;simpa using h
 |sha hs=>
  simp only[M.bO]
  split
  ·trivial
  ·rename_i h;simpa[M.clear]using h
 |dead=>trivial
theorem Sh.dq (b:Nat):∀sh:Sh,(sh.map (M.bO b)).clear b
 | .leaf=>trivial
 | .sl m=>Vg.dq b m
 | .pair x y=>⟨Sh.dq b x,Sh.dq b y⟩
theorem N6 (b:Nat) (m:M):∀c∈(m.bO b).aD,c∈m.aD:=by
 intro c hc
 cases m with
 |row u hs nd=>
  simp only[M.bO]at hc
  split at hc
  ·exact hc
  ·split at hc
   ·simp[M.aD]at hc
   ·exact hc
 |sha hs=>
  simp only[M.bO]at hc
  split at hc
  ·simp[M.aD]at hc
  ·exact hc
 |dead=>exact hc
theorem EN (b:Nat):uq w U G U G (M.bO b) (fun _=>true) (fun hs=>if hs.contains b then none else some hs) where
 row e l v m h _:=by
  cases m with
  |row u hs nd=>
   simp only[M.bO]
   split
   ·exact h
   ·split
    ·exact h.one
    ·exact h
  |sha hs=>
   simp only[M.bO]
   split
   ·exact h.one
   ·exact h
  |dead=>exact h
 good m h c hc:=h c (N6 b m c hc)
 rd hs hs' h hg:=by
  split at h
  ·cases h
  ·cases h;exact⟨hg,fun b hb=>hb⟩
 hdr _ _:=rfl
 bx t _ hb:=⟨hb,fun _ h=>h⟩
 ru _ _ h:=h
 mono _ h:=h
theorem tq {b:Nat} {e:Ty} {y:List e.den} {m:M} {w':World} (hnew:bW w' G e y (G.hdr b) m) (hag:∀k,0<G.col k→G.col k≠b→w'.heap[k]?=w.heap[k]?):
 ∀ {τ:Ty} {x:τ.den} {sh:Sh} {cs:List Value},aW w G τ x sh cs→sh.clear b→(∀c∈sh.aD,0<c)→
   aW w' G τ (fa b e y m τ x sh).1 (fa b e y m τ x sh).2 cs
 | .int _,_,.leaf,_,h,_,_=>h
 | .bool,_,.leaf,_,h,_,_=>h
 | .str,_,.leaf,_,h,_,_=>h
 | .sl e',l,.sl (.row u hs nd),cs,h,hc,hp=>by
   obtain⟨v,rfl,hr⟩:=h
   simp only[fa]
   split
   ·rename_i hu
    subst hu
    split
    ·rename_i he
     subst he
     refine⟨v,rfl,?_⟩
     have:v=G.hdr u:=hr.2.1.symm
     rw[this]
     exact hnew
    ·exact⟨v,rfl,hr.one⟩
   ·rename_i hu
    refine⟨v,rfl,bW.agree ⟨fun k hk=>hag k (hp _ hk) (fun e1=> ?_),fun _ _=>rfl,fun _ _=>rfl⟩ hr⟩
    simp only[M.aD,List.mem_cons]at hk
    rcases hc with hc|hc
    ·exact hu hc
    ·rcases hk with hk|hk
     ·exact hu (hk.symm.trans e1)
     ·exact hc (e1▸hk)
 | .sl e',l,.sl (.sha hs),cs,h,hc,hp=>by
   obtain⟨v,rfl,hr⟩:=h
   refine⟨v,rfl,bW.agree ⟨fun k hk=>hag k (hp _ hk) (fun e1=> ?_),fun _ _=>rfl,fun _ _=>rfl⟩ hr⟩
   exact hc (e1▸hk)
 | .sl e',l,.sl .dead,cs,h,hc,hp=>by
   obtain⟨v,rfl,hr⟩:=h
   exact⟨v,rfl,hr⟩
 | .pair a b',p,.pair s1 s2,cs,h,hc,hp=>by
   obtain⟨c1,c2,rfl,h1,h2⟩:=h
   exact⟨c1,c2,rfl,tq hnew hag h1 hc.1 (fun c h=>hp c (by simp[Sh.aD,h])),tq hnew hag h2 hc.2 (fun c h=>hp c (by simp[Sh.aD,h]))⟩
 | .int _,_,.sl _,_,h,_,_| .int _,_,.pair _ _,_,h,_,_| .bool,_,.sl _,_,h,_,_| .bool,_,.pair _ _,_,h,_,_
 | .str,_,.sl _,_,h,_,_| .str,_,.pair _ _,_,h,_,_| .sl _,_,.leaf,_,h,_,_| .sl _,_,.pair _ _,_,h,_,_
 | .pair _ _,_,.leaf,_,h,_,_| .pair _ _,_,.sl _,_,h,_,_=>h.elim
theorem oX {b:Nat} {e:Ty} {y:List e.den} {m:M}:∀ {τ:Ty} {x:τ.den} {sh:Sh},∀c∈(fa b e y m τ x sh).2.aD,c∈sh.aD∨c∈m.aD
 | .sl e',l,.sl (.row u hs nd),c,h=>by
   simp only[fa]at h
   split at h
   ·split at h
    ·exact .inr h
    ·simp[Sh.aD,M.aD]at h
   ·exact .inl h
 | .pair a b',p,.pair s1 s2,c,h=>by
   simp only[fa,Sh.aD,List.mem_append]at h⊢
   rcases h with h|h
   ·exact(oX c h).imp .inl id
   ·exact(oX c h).imp .inr id
 | .sl _,_,.leaf,_,h| .sl _,_,.pair _ _,_,h| .sl _,_,.sl (.sha _),_,h| .sl _,_,.sl .dead,_,h
 | .int _,_,.leaf,_,h| .int _,_,.sl _,_,h| .int _,_,.pair _ _,_,h| .bool,_,.leaf,_,h| .bool,_,.sl _,_,h| .bool,_,.pair _ _,_,h
 | .str,_,.leaf,_,h| .str,_,.sl _,_,h| .str,_,.pair _ _,_,h| .pair _ _,_,.leaf,_,h| .pair _ _,_,.sl _,_,h=> .inl h
def SV.clear (b:Nat):SV→Prop
 | .d v| .box _ v=>v.sh.clear b
 | .tup l=>∀v∈l,v.sh.clear b
 | .g _ _ _ v=>v.clear b
 |_=>True
theorem SV.dq (b:Nat):∀s:SV,(s.bO b).clear b
 | .no| .ptr ..=>trivial
 | .d v=>Sh.dq b v.sh
 | .box t v=>Sh.dq b v.sh
 | .ept ..=>by simp only[SV.bO,SV.mapM];split<;>trivial
 | .rdp hs v=>by simp only[SV.bO,SV.mapM];split<;>trivial
 | .tup l=>by
   intro v hv
   simp only[List.mem_map]at hv
   obtain⟨u,_,rfl⟩:=hv
   exact Sh.dq b u.sh
 | .g j w' act v=>SV.dq b v
theorem bI.setRow {b:Nat} {e:Ty} {y:List e.den} {m:M} {w':World} (hnew:bW w' G e y (G.hdr b) m) (hb:G.bx b=false) (hag:∀k,0<G.col k→G.col k≠b→w'.heap[k]?=w.heap[k]?):
 ∀ {s:SV} {mv:Value},bI w G s mv→s.clear b→aX U G s→bI w' G (s.setRow b e y m) mv
 | .no,_,_,_,_=>trivial
 | .d v,mv,⟨cs,h1,h2⟩,hc,hm=>⟨cs,h1,tq hnew hag h2 hc (fun c h=>(hm.1 c h).1)⟩
 | .box t v,mv,⟨bk,c,el,h1,h2,h3,h4,h5,h6⟩,hc,hm=>by
   have ht:=hm.2.1 t (by simp[SV.bt])
   refine⟨bk,c,el,h1,h2,h3,h4,?_,tq hnew hag h6 hc (fun c h=>(hm.1 c h).1)⟩
   rw[hag bk (by rw[h4];exact ht.1) (fun e=> ?_)]
   ·exact h5
   ·rw[h4]at e;rw[e,hb]at ht;cases ht.2.2
 | .ptr t o p τ,mv,h,_,_=>h
 | .ept t e' i o p τ,mv,h,_,_=>h
 | .rdp hs v,mv,⟨bk,o,c,el,fz,h1,h2,h3,h4,h5⟩,_,hm=>by
   simp only[SV.setRow]
   split
   ·trivial
   ·rename_i hnc
    simp only[List.contains_eq_mem,decide_eq_true_eq,List.mem_append,not_or]at hnc
    have ha:∀k,G.col k∈hs++v.sh.aD→w'.heap[k]?=w.heap[k]?:=fun k hk=>hag k (hm.1 _ hk).1 (fun e=>by
     rw[e]at hk
     rcases List.mem_append.1 hk with hk|hk
     ·exact hnc.1 hk
     ·exact hnc.2 hk)
    exact⟨bk,o,c,el,fz,h1,(ha bk (by simp[h4])).trans h2,h3,h4,aW.agree ⟨fun k hk=>ha k (by simp[hk]),fun _ _=>rfl,fun _ _=>rfl⟩ h5⟩
 | .tup l,mv,⟨vs,h1,h2,h3⟩,hc,hm=>by
   refine⟨vs,h1,by simp[h2],fun i v hi=> ?_⟩
   rw[List.getElem?_map,Option.map_eq_some_iff]at hi
   obtain⟨v',hi',rfl⟩:=hi
   obtain⟨u,cs,hu,hmv,hv⟩:=h3 i v' hi'
   exact⟨u,cs,hu,hmv,tq hnew hag hv (hc v' (List.mem_of_getElem? hi')) (fun c hcc=>(hm.1 c (List.mem_flatMap.2 ⟨v',List.mem_of_getElem? hi',hcc⟩)).1)⟩
 | .g j w2 false v,mv,⟨h1,h2⟩,hc,hm=>⟨fun e=>absurd e (by simp),h2⟩
 | .g j w2 true v,mv,⟨h1,h2⟩,hc,hm=>⟨fun e=>⟨by
  have:=(h1 e).1
  cases v with
  |box t v=>simp[SV.dQ]at this
  |rdp hs v=>simp only[SV.setRow];split<;>rfl
  |_=>rfl,bI.setRow (s:=v) hnew hb hag (h1 e).2 hc (by simpa[aX,SV.sc,SV.bt,SV.rt]using hm)⟩,h2⟩
theorem aX.setRow {b:Nat} {e:Ty} {y:List e.den} {m:M} (hm0:∀c∈m.aD,Good U G c):∀ {s:SV},aX U G s→aX U G (s.setRow b e y m)
 | .no,h| .ptr ..,h| .ept ..,h=>h
 | .d v,hm=>aX.d fun c hc=>(oX c hc).elim (hm.1 c) (hm0 c)
 | .box t v,hm=>⟨fun c hc=>(oX c hc).elim (hm.1 c) (hm0 c),hm.2.1,hm.2.2⟩
 | .rdp hs v,hm=>by
   simp only[SV.setRow]
   split
   ·simp[aX,SV.sc,SV.bt,SV.rt]
   ·exact hm
 | .tup l,hm=>by
   refine⟨fun c hc=> ?_,by simp[SV.setRow,SV.bt],by simp[SV.setRow,SV.rt]⟩
   simp only[SV.setRow,SV.sc,List.flatMap_map,List.mem_flatMap]at hc
   obtain⟨v,hv,hc⟩:=hc
   exact(oX c hc).elim (fun h=>hm.1 c (List.mem_flatMap.2 ⟨v,hv,h⟩)) (hm0 c)
 | .g j w2 true v,hm=>by
   have:=aX.setRow (b:=b) (e:=e) (y:=y) (s:=v) hm0 (by simpa[aX,SV.sc,SV.bt,SV.rt]using hm)
   simpa[aX,SV.setRow,SV.sc,SV.bt,SV.rt]using this
 | .g j w2 false v,hm=>by simp[aX,SV.setRow,SV.sc,SV.bt,SV.rt]
theorem Fy {b:Nat} {e:Ty} {y:List e.den} {m:M} {s:SV} {t:Nat} {u:TV} (h:s.setRow b e y m= .box t u):∃u',s= .box t u':=by
 cases s with
 |box t' v=>simp only[SV.setRow,SV.box.injEq]at h;exact⟨v,by rw[h.1]⟩
 |rdp hs v=>simp only[SV.setRow]at h;split at h<;>cases h
 |_=>simp[SV.setRow]at h
theorem Inv.setRow (hI:Inv w0 c0 U E a w G) {b:Nat} {e:Ty} {y:List e.den} {m:M} {w':World} (hnew:bW w' G e y (G.hdr b) m) (hb:G.bx b=false) (hb3:3≤b)
 (hag:∀k,G.col k≠b→w'.heap[k]?=w.heap[k]?) (hcl:∀s,(E.s.getD s .no).clear b) (hm0:∀c∈m.aD,Good U G c)
 (fresh:∀k,G.col k=b→∃c el,w'.heap[k]?=some (.cells c el (0,0))) (size:w.heap.size=w'.heap.size)
 (os:w'.os=w.os) (tape:w'.tape=w.tape) (output:w'.output=w.output):Inv w0 c0 U {E with s:=E.s.map (SV.setRow b e y m)} a w' G:=by
 have hg:∀s,({E with s:=E.s.map (SV.setRow b e y m)}:Env).s.getD s .no=(E.s.getD s .no).setRow b e y m:=fun s=>getD_map (T:=SV.setRow b e y m) rfl s
 have hm:∀s,aX U G ((E.s.getD s .no).setRow b e y m):=fun s=>aX.setRow hm0 (hI.kV s)
 refine⟨by simpa using hI.len,fun s=> ?_,fun s=> ?_,fun s=> ?_,fun s=> ?_,fun s s' t v v' h1 h2=> ?_,hI.colU,fun k hk=>by rw[←size];exact hI.lt k hk,fun k hk=> ?_,fun k hk hc=> ?_,hI.one,by rw[←size];exact hI.size,os.trans hI.os,tape.trans hI.tape,output.trans hI.output,hI.defers,hI.two,hI.hk⟩
 ·rw[hg];exact bI.setRow hnew hb (fun k _ hk=>hag k hk) (hI.slots s) (hcl s) (hI.kV s)
 ·rw[hg];exact(hm s).1
 ·rw[hg];exact(hm s).2.1
 ·rw[hg];exact(hm s).2.2
 ·rw[hg]at h1 h2
  obtain⟨u,hu⟩:=Fy h1
  obtain⟨u',hu'⟩:=Fy h2
  exact hI.uni s s' t u u' hu hu'
 ·by_cases e:G.col k=b
  ·exact fresh k e
  ·rw[hag k e];exact hI.fresh k hk
 ·have hf:=hI.frame k hk hc
  exact⟨hf.1,by rw[hag k (by omega)];exact hf.2⟩
end
end Vg
