/- VG, joined: an evaluator of the code over typed values, and its soundness, for any program. -/
import Derived.Test.YtgikmhjpcnnhjaaGreatXc
import Derived.KernelRfl
import Derived.Test.YtgikmhjpcnnhjaaGreatXa
import Derived.Lib.Join
import Derived.Below
import Derived.Shelf.GgSortMore.Stable
import Derived.Shelf.SlSortFuncK.WholeK
import Derived.Lib.SlicesSearch
import Derived.Deep.LoopGhost
set_option linter.unusedSimpArgs false
set_option linter.unusedVariables false
set_option linter.unusedSectionVars false
set_option linter.defProp false
open Nat renaming le_refl -> gh,lt_or_ge -> Y',one_mul -> apT,zero_le -> aqi,lt_of_lt_of_le -> aqs,add_sub_cancel -> aqv,mul_one -> aqA
open Bool renaming and_eq_true -> z_,false_eq_true -> apl,not_eq_true' -> apC,eq_iff_iff -> aqc,true_and -> aqp,not_eq_false' -> aqw
open List renaming length -> t_,mem_singleton -> apk,filter_append -> apm,getElem?_take -> apq,getElem?_drop -> apr,drop_eq_nil_of_le -> aps,getD_eq_getElem?_getD -> apt,length_cons -> apx,mem_cons -> apz,map_cons -> apA,length_append -> apB,append_assoc -> apD,replicate -> apE,singleton_append -> apF,all_eq_true -> apH,lookup -> apI,getElem_range' -> apK,getElem?_eq_getElem -> apL,mem_cons_self -> apN,filter_cons_of_pos -> apO,take_of_length_le -> apR,take_succ_eq_append_getElem -> apU,getD -> apV,getElem?_eq_none -> apW,mem_append -> apY,getD_cons_succ -> apZ,sum_cons -> ap0,getElem?_append_right -> ap1,mem_range'_1 -> ap3,flatMap_cons -> ap4,drop_eq_getElem_cons -> ap5,getElem?_append_left -> ap6,length_drop -> ap7,range'_succ -> ap8,mem_map -> ap9,map_map -> aqa,pairwise_singleton -> aqb,map_append -> aqd,foldl_cons -> aqe,append_nil -> aqf,nil_append -> aqg,append_eq_nil_iff -> aqh,reverse_singleton -> aqj,filter_eq_nil_iff -> aqk,drop_drop -> aql,lt_irrefl -> aqm,mem_of_getElem? -> aqo,reverse_append -> aqq,map_congr_left -> aqr,pairwise_cons -> aqt,length_range' -> aqu,ext_getElem? -> aqy,range' -> aqz,filter_cons -> aqB,getElem_map -> aqC,head?_drop -> aqD,forIn_cons -> aqE,mem_filter -> aqH,take_left -> aqI,drop_left -> aqJ,mem_range -> aqK
open Array renaming getElem?_toList -> api,getElem?_append_left -> apj,size_modify -> apu,getElem?_eq_getElem -> apv,getElem?_modify -> apG,length_toList -> apJ,size_append -> apQ,eq_empty_of_size_eq_zero -> apX,toList_extract -> aqn,replicate -> aqF
open Option renaming isSome_none -> apo,bind_some -> apy,bind -> apS
open Subtype renaming val -> apw
open Int renaming toNat -> apM,toNat_natCast -> aqx
open Option.some renaming injEq -> apP,inj -> aqG
open List.cons renaming inj -> ap2
namespace Vg
open Go
def afo:Value->Value->Bool
 | .int k n,.int k' n'=>k==k'&&n==n'
 | .bool b,.bool b'=>b==b'
 | .string a,.string b=>a.size==0&&b.size==0
 | .slice none l c,.slice none l' c'=>l==l'&&c==c'
 |_,_=>false
def Jh:List Value->List Value->Bool
 | [],[]=>true
 |a::l,b::m=>afo a b&&Jh l m
 |_,_=>false
def afJ:Ty->Value->Bool
 | .pair a b,.agg cs=>Jh cs.toList (Ty.pair a b).zero
 | .pair _ _,_=>false
 |τ,v=>Jh [v] τ.zero
def ajs{a:ByteArray}(h:a.size=0):a=ByteArray.empty:=by
 cases a with
 |mk d=>
  have:d.size=0:=h;have:d= #[]:=apX this;rw[this];rfl
def ah5{a b:Value}(h:afo a b=true):a=b:=by
 unfold afo at h;split at h;simp only[z_,beq_iff_eq]at h;rw[h.1,h.2];simp only[beq_iff_eq]at h;rw[h];simp only[z_,beq_iff_eq]at h;rw[ajs h.1,ajs h.2];simp only[z_,beq_iff_eq]at h;rw[h.1,h.2];cases h
theorem Mj:∀ {l m:List Value},Jh l m=true->l=m
 | [],[],_=>rfl
 |a::l,b::m,h=>by
  simp only[Jh,z_]at h;rw[ah5 h.1,Mj h.2]
 | [],_::_,h|_::_,[],h=>by simp[Jh]at h
def aiZ{τ:Ty}{v:Value}(h:afJ τ v=true):v=kE τ τ.zero:=by
 cases τ with
 |pair a b=>
  cases v with
  |agg c=>
   have:=Mj (show Jh c.toList (Ty.pair a b).zero=true from h);simp only[kE,<-this,Array.toArray_toList]
  |_=>simp[afJ]at h
 |int k=>have:=Mj (show Jh [v] (Ty.int k).zero=true from h);simpa[kE,Ty.zero]using this
 |bool=>have:=Mj (show Jh [v] Ty.bool.zero=true from h);simpa[kE,Ty.zero]using this
 |str=>have:=Mj (show Jh [v] Ty.str.zero=true from h);simpa[kE,Ty.zero]using this
 |sl e=>have:=Mj (show Jh [v] (Ty.sl e).zero=true from h);simpa[kE,Ty.zero]using this
def ak4:TypeDesc->Bool
 | .struct _| .array _ _=>true
 |_=>false
def Pf(P:Program)(t:TypeId)(τ:Ty):Bool:=
 match P.info? t,P.underlying t with
 |some inf,some d=>inf.size==τ.sz&&(match inf.zero with|some v=>afJ τ v|none=>false)&&decide (inf.bytes<=32768)&&ak4 d==τ.iu
 |_,_=>false
def OP{P:Program}{t:TypeId}{τ:Ty}(h:Pf P t τ=true):tQ P t τ:=by
 unfold Pf at h;split at h;rename_i inf d c e;simp only[z_,beq_iff_eq,b_]at h;obtain⟨⟨⟨g,b⟩,i⟩,h6⟩:=h;refine⟨inf,d,c,g,?_,i,e,?_⟩;split at b;rename_i v f;rw[f,aiZ b];cases b;rw[<-h6];cases d<;>rfl;cases h
def adu(P:Program)(τ:Ty)(b:List TypeId)(j:Nat)(f:Field):Bool:=
 f.offset==τ.off (jd b.length j)&&b[j]?==some f.type&&(match τ.sub (jd b.length j)with|some σ=>Pf P f.type σ|none=>false)
def ahC{P:Program}{τ:Ty}{c:List TypeId}{j:Nat}{f:Field}(h:adu P τ c j f=true):V9 P τ c j f:=by
 simp only[adu,z_,beq_iff_eq]at h;obtain⟨⟨e,g⟩,b⟩:=h;refine⟨e,g,?_⟩;split at b;rename_i σ d;exact⟨σ,d,OP b⟩;cases b
def ZV(P:Program)(c:Ty->TypeId->Bool):Ty->List Field->Nat->Bool
 |τ,[f],off=>f.offset==off&&f.name != "_" &&Pf P f.type τ&&c τ f.type
 | .pair a b,f::g::l,off=>f.offset==off&&f.name != "_" &&Pf P f.type a&&c a f.type&&ZV P c b (g::l) (off+a.sz)
 |_,_,_=>false
def eqN(P:Program):Nat->Ty->TypeId->Bool
 |0,_,_=>false
 |n+1,τ,t=>
  match P.underlying t with
  |some (.int k)=>τ== .int k
  |some .bool=>τ== .bool
  |some .string=>τ== .str
  |some (.struct fs)=>τ.iu&& !P.stoodInHeld t&&ZV P (eqN P n) τ fs.toList 0
  |_=>false
section
variable{P:Program}
def RY{w:World}{t:TypeId}{τ:Ty}(h:tQ P t τ){cs:Array Value}{off:Nat}(f:off+τ.sz<=cs.size):
 (part t cs off).run P w= .ok (kE τ ((cs.toList.drop off).take τ.sz)) w:=by
 unfold part;rw[Sem.run_bind,O1 h,Result.andThen_ok];cases d:τ.iu with
 |true=>
  cases τ with
  |pair a b=>
   simp[n7 h,kE,aqn,List.extract];apply Array.ext';simp[aqn,List.extract]
  |_=>simp[Ty.iu]at d
 |false=>
  have c:τ.sz=1:=by cases τ<;>first|rfl|simp[Ty.iu]at d
  rw[c]at f;have e:cs[off]?=some cs[off]:=apv (by omega);simp only[apl,if_false,e,Sem.run_pure]
  have:(cs.toList.drop off).take τ.sz=[cs[off]]:=by
   rw[c,List.take_one,aqD];simp[e]
  rw[this];cases τ<;>first|rfl|simp[Ty.iu]at d
def ahE(a b:ByteArray):(a==b)=(a.toList==b.toList):=by
 rw[aqc];simp only[beq_iff_eq,ByteArray.toList_eq];constructor;intro h;have:(a.data==b.data)=true:=h;simp only[beq_iff_eq]at this;rw[this];intro h
 have c:a.data=b.data:=by
  have:=congrArg List.toArray h;simpa using this
 show(a.data==b.data)=true;simp[c]
theorem aaA{w:World}{i:Ty->TypeId->Bool}{d:Nat}
 (c:∀ {τ:Ty} {t:TypeId} {a b:τ.den} {c1 n:List Value},i τ t=true->bP w τ a c1 []->bP w τ b n []->(Op.equalIn d t (kE τ c1) (kE τ n)).run P w= .ok (eqv τ a b) w) {xs ys:Array Value}:
 ∀ {v:List Field} {τ:Ty} {off:Nat} {a b:τ.den},ZV P i τ v off=true->bP w τ a (xs.toList.drop off) []->bP w τ b (ys.toList.drop off) []->
 ∃r,(Sem.run P (forIn v ((none,()):Option Bool×Unit) fun f __s=>if f.name= "_" then pure (ForInStep.yield (none,()))else do
  let __do_lift<-part f.type xs f.offset
  let __do_lift_1<-part f.type ys f.offset
  let __do_lift<-Op.equalIn d f.type __do_lift __do_lift_1
  if __do_lift=false then pure (ForInStep.done (some false,()))else pure (ForInStep.yield (none,()))) w)= .ok r w/\r=(if eqv τ a b=true then none else some false,())
 | [],τ,_,_,_,h,_,_=>by cases τ<;>simp[ZV]at h
 | [f],τ,off,a,b,h,ha,hb=>by
   have h:(f.offset==off&&f.name != "_" &&Pf P f.type τ&&i τ f.type)=true:=by cases τ<;>exact h
   simp only[z_,beq_iff_eq,bne_iff_ne,ne_eq]at h;obtain⟨⟨⟨o,p⟩,q⟩,s⟩:=h;have j:=OP q;have k:=ha.len;have m:=hb.len;simp only[ap7,apJ]at k m;have hpos:=τ.JX;have z:(xs.toList.drop off).take τ.sz=xs.toList.drop off:=apR (by simp;omega);have B:(ys.toList.drop off).take τ.sz=ys.toList.drop off:=apR (by simp;omega);simp only[aqE,p,if_false,o,Sem.run_bind,RY j (show off+τ.sz<=xs.size by omega),RY j (show off+τ.sz<=ys.size by omega),Result.andThen_ok,z,B,c s ha hb];cases eqv τ a b<;>simp
 |f::g::l,τ,off,a,b,h,ha,hb=>by
  cases τ with
  |pair e τ2=>
   simp only[ZV,z_,beq_iff_eq,bne_iff_ne,ne_eq]at h;obtain⟨⟨⟨⟨o,p⟩,q⟩,s⟩,N⟩:=h;have j:=OP q;obtain⟨c1,n,B1,B2,q1,q2,x,R⟩:=ha;obtain⟨S,W,D1,D2,u,X,y,Y⟩:=hb;obtain⟨rfl,rfl⟩:=aqh.1 q2.symm;obtain⟨rfl,rfl⟩:=aqh.1 X.symm;have k:=x.len;have m:=y.len;have D:(xs.toList.drop off).take e.sz=c1:=by rw[q1,<-k,aqI]
   have F:(ys.toList.drop off).take e.sz=S:=by rw[u,<-m,aqI]
   have H:xs.toList.drop (off+e.sz)=n:=by rw[<-aql,q1,<-k,aqJ]
   have I:ys.toList.drop (off+e.sz)=W:=by rw[<-aql,u,<-m,aqJ]
   have J:off+e.sz<=xs.size:=by
    have:=congrArg t_ q1;simp only[ap7,apJ,apB,k]at this;have:=e.JX;omega
   have K:off+e.sz<=ys.size:=by
    have:=congrArg t_ u;simp only[ap7,apJ,apB,m]at this;have:=e.JX;omega
   obtain⟨r,k1,k2⟩:=aaA c (xs:=xs) (ys:=ys) N (by rw[H];exact R) (by rw[I];exact Y);rw[aqE];simp only[p,if_false,o,Sem.run_bind,RY j J,RY j K,Result.andThen_ok,D,F,c s x y,eqv];rcases Bool.eq_false_or_eq_true (eqv e a.1 b.1)with he|he;simp only[he,Bool.true_eq_false,if_false,Sem.run_pure,Result.andThen_ok,aqp];exact⟨r,k1,k2⟩;simp[he]
  |_=>simp[ZV]at h
def ak8{w:World}:∀(n d:Nat) {τ:Ty} {t:TypeId} {a b:τ.den} {c1 i:List Value},n<=d->eqN P n τ t=true->bP w τ a c1 []->bP w τ b i []->(Op.equalIn d t (kE τ c1) (kE τ i)).run P w= .ok (eqv τ a b) w:=by
 intro n
 induction n with
 |zero=>intro d τ t a b c1 i _ h;simp[eqN]at h
 |succ n q=>
  intro d τ t a b c1 i hd h f g;obtain⟨d,rfl⟩:∃e,d=e+1:=⟨d-1,by omega⟩
  simp only[eqN]at h;split at h;rename_i k c;simp only[beq_iff_eq]at h;subst h;obtain⟨rfl,_⟩:=f;obtain⟨rfl,_⟩:=g;simp[Op.equalIn,run_underlying c,kE,eqv];rename_i c;simp only[beq_iff_eq]at h;subst h;obtain⟨rfl,_⟩:=f;obtain⟨rfl,_⟩:=g;simp[Op.equalIn,run_underlying c,kE,eqv];rename_i c;simp only[beq_iff_eq]at h;subst h;obtain⟨rfl,_⟩:=f;obtain⟨rfl,_⟩:=g;simp[Op.equalIn,run_underlying c,kE,eqv,ahE];rename_i fs c;simp only[z_,apC]at h;obtain⟨⟨j,l⟩,m⟩:=h;cases τ with
  |pair s u=>
   simp only[kE];obtain⟨r,o,p⟩:=aaA (P:=P) (w:=w) (d:=d) (xs:=c1.toArray) (ys:=i.toArray) (fun h f g=>q d (by omega) h f g) m (by simpa using f) (by simpa using g);simp[Op.equalIn,run_underlying c,l];rw[<-Array.forIn_toList,o,p,Result.andThen_ok];cases eqv (s.pair u) a b<;>simp
  |_=>simp[Ty.iu]at j
  cases h
def ajw{t:TypeId}{τ:Ty}{n:Nat}(i:n<=10000)(j:τ.iu=true)(h:eqN P n τ t=true)(e:P.eqGuardType P.depth t=false):ai2 P t τ:=by
 intro w op x y a b c1 c2 c f g;have d:=ak8 n Op.maxDepth i h f g;cases τ with
 |pair τ1 τ2=>
  simp only[kE]at d|-;rcases c with rfl|rfl;simp[eqGuard,e,binOp,Op.equal,d];simp[eqGuard,e,binOp,Op.equal,d]
 |_=>simp[Ty.iu]at j
def UK(P:Program)(t:TypeId)(i:TI):Bool:=
 Pf P t i.τ&&(match i.τ,P.underlying t with
  | .int k,some (.int k')=>k==k'
  | .bool,some .bool=>true
  | .str,some .string=>true
  | .sl e,some (.slice el)=>el==i.el&&Pf P el e&&(if e== .int .u8 then(match P.underlying el with|some (.int .u8)=>true|_=>false)else true)
  | .pair a b,some (.struct fields)=>fields.size==i.fs.length&&fields.toList.zipIdx.all (fun p=>adu P (.pair a b) i.fs p.2 p.1)&&
   (if(Ty.pair a b).flat then eqN P 20 (.pair a b) t&& !P.eqGuardType P.depth t else true)
  |_,_=>false)&&(i.τ.iu||i.fs.isEmpty)
def Zt{t:TypeId}{i:TI}(h:UK P t i=true):
 ZX P t i/\(i.τ.iu=true->i.τ.flat=true->ai2 P t i.τ)/\(i.τ.iu=false->i.fs=[])/\(i.τ= .sl (.int .u8)->P.underlying i.el=some (.int .u8)):=by
 obtain⟨τ,fs,el⟩:=i;simp only[UK,z_,Bool.or_eq_true]at h;obtain⟨⟨s,c⟩,n⟩:=h;have m:=OP s;cases τ with
 |int k=>
  cases g:P.underlying t with
  |none=>rw[g]at c;simp at c
  |some d=>
   rw[g]at c;cases d<;>simp at c;subst c;exact⟨⟨m,g⟩,by simp[Ty.iu],by simpa[Ty.iu]using n,by simp⟩
 |bool=>
  cases g:P.underlying t with
  |none=>rw[g]at c;simp at c
  |some d=>
   rw[g]at c;cases d<;>simp at c;exact⟨⟨m,g⟩,by simp[Ty.iu],by simpa[Ty.iu]using n,by simp⟩
 |str=>
  cases g:P.underlying t with
  |none=>rw[g]at c;simp at c
  |some d=>
   rw[g]at c;cases d<;>simp at c;exact⟨⟨m,g⟩,by simp[Ty.iu],by simpa[Ty.iu]using n,by simp⟩
 |sl e=>
  cases g:P.underlying t with
  |none=>rw[g]at c;simp at c
  |some d=>
   rw[g]at c;cases d<;>simp only[z_,beq_iff_eq,apl]at c;obtain⟨⟨rfl,p⟩,l⟩:=c;refine⟨⟨m,g,OP p⟩,by simp[Ty.iu],by simpa[Ty.iu]using n,fun q=> ?_⟩;simp only[Ty.sl.injEq]at q;subst q;simp only[if_true]at l;split at l
   assumption
   cases l
 |pair a b=>
  cases g:P.underlying t with
  |none=>rw[g]at c;simp at c
  |some d=>
   rw[g]at c;cases d with
   |struct fields=>
    simp only[z_,beq_iff_eq]at c;obtain⟨⟨p,l⟩,h6⟩:=c;refine⟨⟨m,fields,g,p,fun j f r=> ?_⟩,fun _ o=> ?_,by simp[Ty.iu],by simp⟩;rw[apH]at l;exact ahC (l (f,j) (List.mem_zipIdx_iff_getElem?.2 (by simpa using r)));rw[an o]at h6;simp only[z_,apC]at h6;exact ajw (by omega) rfl h6.1 h6.2
   |_=>simp at c
theorem Sq{α:Type}:∀ {l:List (Nat×α)} {a:Nat} {b:α},l.lookup a=some b->(a,b)∈l
 | [],_,_,h=>by simp[apI]at h
 |(x,y)::l,a,b,h=>by
  simp only[apI]at h;split at h;rename_i e;simp only[beq_iff_eq]at e;simp only[apP]at h;subst e h;simp;exact List.mem_cons_of_mem _ (Sq h)
def ajP{C:Cx}{l:List (Nat×TI)}(b:l.all (fun p=>UK P p.1 p.2)=true)(c:C.tt=fun t=>l.lookup t):CxTy P C:=by
 have:∀t i,C.tt t=some i->UK P t i=true:=by
  intro t i h;rw[c]at h;exact apH.1 b (t,i) (Sq h)
 exact⟨fun t i h=>(Zt (this t i h)).1,fun t i h=>(Zt (this t i h)).2.1,fun t i h=>(Zt (this t i h)).2.2.1,fun t i h=>(Zt (this t i h)).2.2.2⟩
end
def Va(b:List (Nat×TI))(cts:List (FuncId×BJ))(la ja:Nat->Option KO)(k:Nat):Cx:=
 ⟨fun t=>b.lookup t,fun f=>cts.lookup f,la,ja,k,0,[]⟩
def aH(P:Program):List (FuncId×BJ)->Prop
 | []=>True
 |p::l=>BH P p.1 p.2/\aH P l
theorem aH.mem{P:Program}:∀ {l:List (FuncId×BJ)},aH P l->∀p∈l,BH P p.1 p.2
 | [],_,_,h=>by cases h
 |q::l,⟨h1,h2⟩,p,h=>by
  rcases apz.1 h with rfl|h;exact h1;exact aH.mem h2 p h
def YJ{P:Program}{c:List (Nat×TI)}(d:c.all (fun p=>UK P p.1 p.2)=true)(e:P.follows .mixedOrders=true){cts:List (FuncId×BJ)}(hc:aH P cts){la ja:Nat->Option KO}{k:Nat}:
 JR P (Va c cts la ja k):=
 ⟨ajP d rfl,fun f b h=>hc.mem (f,b) (Sq h),e⟩
def fnB(fn:Func)(n:Nat):Bool:=match fn.name== "runtime.NumGoroutine" with|true=>false|false=>decide (n<=fn.ntmps)
def adg{fn:Func}{n:Nat}(h:fnB fn n=true):(fn.name== "runtime.NumGoroutine")=false/\decide (n<=fn.ntmps)=true:=by
 unfold fnB at h;split at h;cases h;rename_i b;exact⟨b,h⟩
def ek{α β:Type}(x:α)(f:α->β):β:=f x
section
variable{P:Program}{C:Cx}{M:NU}{w0:World}{c0:C0}{U:Nat->Prop}{E:Env}{a:Act}{w:World}{G:Gh}{ops:List Oper}{L:Nat->Prop}{Q:Exit->Act->World->Prop}{ρ:Type}
def agX(args:List Value)(n i:Nat)(hi:i<args.length):(args.toArray++aqF (n-args.toArray.size) undef).getD i undef=args.getD i undef:=by
 rw[Array.getD_eq_getD_getElem?,apt,apj (by simpa using hi)];simp
end
section
variable{ρ:Type}
def VX(C:Cx)(ops:List Oper)(b:Nat):List Oper->Nat->Env->(Env->Option ρ)->Option ρ
 | [],_,E,k=>k E
 |o::l,i,E,k=>match untold C o with
  |true=>VX C ops b l (i+1) (E.set o.dst .no) k
  |false=>match guardOf ops E.rd o.guard with
   |none=>none
   |some a=>match D3 C ops E.rd (b+32*i) o.guard o with
    |none=>none
    |some c=>Us o a E (fun E'=>VX C ops b l (i+1) E' k) c
def JD(C:Cx):Code->Env->(Env->Option ρ)->List (Nat×(Env->Option ρ))->(Env->Option ρ)->Option ρ
 | .skip,E,kn,_,_=>kn E
 | .region _ ops draw,E,kn,_,_=>match xo ops.toList&&keeps C.io ops.toList with
   |true=>(match draw with
    |true=>(match Om ops.toList with
     |some d=>V7 C d ops.size E kn
     |none=>SS C ops.toList E.nt ops.toList 0 E [] (fun E' L=>match OH ops.toList L with|true=>kn {CU E' ops.toList with nt:=E.nt+32*ops.size}|false=>none))
    |false=>VX C ops.toList E.nt ops.toList 0 E (fun E'=>kn {CU E' ops.toList with nt:=E.nt+32*ops.size}))
   |false=>none
 | .seq a b,E,kn,ke,kr=>
   match(Jy b).bind C.ja with
   |none=>JD C a E (fun E'=>JD C b E' kn ke kr) ke kr
   |some n=>aN (fun J=>JD C a E (fun E'=>match proj n E' with|some t=>J t|none=>none) ke kr) (fun t=>JD C b (nc C.n n t) kn ke kr)
 | .cond c x y,E,kn,ke,kr=>
   match arg C E.rd none 0 c with
   |some (.d ⟨.bool,b,_⟩)=>if b=true then JD C x E kn ke kr else JD C y E kn ke kr
   |_=>none
 | .block id c,E,kn,ke,kr=>JD C c E kn ((id,kn)::ke) kr
 | .loop c,E,_,ke,kr=>
   match(Jy c).bind C.la with
   |none=>none
   |some n=>match proj n E with
    |some t=>aM C.k (fun G t=>JD C c (nc C.n n t) (fun E'=>match proj n E' with|some t=>G t|none=>none) ke kr) t
    |none=>none
 | .exit id,E,_,ke,_=>match ke.lookup id with|some k=>k E|none=>none
 | .ret,E,_,_,kr=>kr E
 |_,_,_,_,_=>none
end
def TJ(C:Cx)(ps:List PK)(rs:List RK)(b:List (Nat×List Bool))(fn:Func)(x:du (ps.map PK.ty)):Option (du (rs.map RK.ty++eM ps)):=
 match fn.body with
 |none=>none
 |some c=>
  let e:=gU ps x 4
  JD {C with n:=fn.ntmps,io:=BF ps 0} c ⟨e.1++apE (fn.ntmps-e.1.length) .no,e.2,true⟩ (fin C.tt ps rs b fn.results.toList e.2) [] (fin C.tt ps rs b fn.results.toList e.2)
section
variable{P:Program}{C:Cx}{w0:World}{c0:C0}{U:Nat->Prop}{E:Env}{a:Act}{w:World}{G:Gh}{ops:List Oper}{L:Nat->Prop}{Q:Exit->Act->World->Prop}{ρ:Type}
theorem Vz(hC:JR P C){io:List Nat}(d:keeps io ops=true)(b:xo ops=true){m:Nat}(h3:4<=m){k:Env->Option ρ}{r:ρ}:∀ {l:List Oper} {i:Nat} {E:Env} {a:Act} {w:World} {G:Gh},ops.drop i=l->i+l.length=ops.length->
 Inv w0 c0 (fun u=>u<m+32*i) E a w G->Gq ops (fun j=>j<i) E a.tmps->VX C ops m l i E k=some r->
 (∀E' n w' G',Inv w0 c0 (fun u=>u<m+32*ops.length) E' n w' G'->Gq ops (fun j=>j<ops.length) E' n.tmps->E'.s.length=E.s.length->(∀i∈io,n.tmps.getD i undef=a.tmps.getD i undef)->k E'=some r->Q .normal n w')->
 wpOps P ops.toArray Q (aqz i l.length) a w
 | [],i,E,a,w,G,hd,hl,hI,hR,h,hK=>by
   have hi:i=ops.length:=by simpa using hl
   subst hi;exact hK E a w G hI hR rfl (fun _ _=>rfl) h
 |o::l,i,E,a,w,G,hd,hl,hI,hR,h,hK=>by
  simp only[apx]at hl|-
  have f:ops[i]?=some o:=by
   have:=congrArg List.head? hd;simpa[aqD]using this
  have p:ops.drop (i+1)=l:=by rw[<-aql,hd];rfl
  simp only[VX]at h;rw[ap8,wpOps_cons];split at h;rename_i e;unfold untold at e;split at e;rename_i t hg x;have g:Region.wanted o (yielded ops.toArray a.tmps)=true:=by simp[Region.wanted,hg]
  refine kZ f g ?_
  have b0:(execOp a.eval o).run P w= .ok (.value (a.eval (.const t))) w:=by
   simp only[execOp,x];rfl
  unfold Oper.wp;rw[b0];show wpOps P ops.toArray Q _ _ _;have e0:=(hI.abx o.dst (a.eval (.const t))).mono (U':=fun u=>u<m+32*(i+1)) (fun u q=>by omega)
  refine Vz hC d b h3 (l:=l) (i:=i+1) p (by omega) e0 (fun s j y act v z=>by
   obtain⟨q1,q2,q3⟩:=hR.put f b (by omega) (fun j w' c=>Ol b f c) (sv:= .no) (mv:=a.eval (.const t)) (by rintro _ _ _ _ ⟨⟩) s j y act v z;exact⟨q1,by rcases q2 with q2|q2<;>omega,q3⟩) h
   (fun B D F H I J K N R=>hK B D F H I J (K.trans (qV ..)) (fun j c=>(N j c).trans (DA d (aqo f) c)) R)
  cases e;split at h;cases h;rename_i act S;split at h;cases h;rename_i ef W;refine acL hC f hI hR (fun j w' c=>Ol b f c) (by omega) b (tk:=m+32*i) (by omega) (fun u h1 h2 h=>by omega) S W h (fun E' n w' G' hk hlen X Y ⟨v,hav⟩=> ?_)
  refine Vz hC d b h3 (l:=l) (i:=i+1) p (by omega) (X.mono (fun u q=>by rcases q with q|q<;>omega))
   (fun s j y act v z=>by
    obtain⟨q1,q2,q3⟩:=Y s j y act v z;exact⟨q1,by rcases q2 with q2|q2<;>omega,q3⟩) hk (fun B D F H I J K N R=>hK B D F H I J (K.trans hlen) (fun j c=>(N j c).trans (by rw[hav];exact DA d (aqo f) c)) R)
def akE(hC:JR P C){r:ρ}{T:Nat->Value}:∀(c:Code) {E:Env} {a:Act} {w:World} {G:Gh} {I J:Env->Option ρ} {ke:List (Nat×(Env->Option ρ))} {Q:Exit->Act->World->Prop},
 Inv w0 c0 (fun u=>u<E.nt) E a w G->NR E.s->E.s.length=C.n->4<=E.nt->(∀i∈C.io,a.tmps.getD i undef=T i)->JD C c E I ke J=some r->Zf C w0 c0 T r I (Q .normal)->(∀id k,ke.lookup id=some k->Zf C w0 c0 T r k (Q (.exit id)))->Zf C w0 c0 T r J (Q .ret)->
 c.wp P Q a w:=by
 intro c
 induction c with
 |skip=>intro E a w G I J ke Q f p q z B h H o F;exact wp_skip (H E a w G f p q z B h)
 |region id ops draw=>
  intro E a w G I J ke Q f p q z B h j0 o F;simp only[JD]at h;split at h;rename_i hc;simp only[z_]at hc;obtain⟨k0,e0⟩:=hc
  have fin:∀D K w' G',Inv w0 c0 (fun u=>u<E.nt+32*ops.toList.length) D K w' G'->Gq ops.toList (fun j=>j<ops.toList.length) D K.tmps->D.s.length=E.s.length->(∀i∈C.io,K.tmps.getD i undef=a.tmps.getD i undef)->
   I {CU D ops.toList with nt:=E.nt+32*ops.size}=some r->Q .normal K w':=by
   intro D K w' G' N W R S X;obtain⟨k1,k2,k3⟩:=aaz N W;refine j0 {CU D ops.toList with nt:=E.nt+32*ops.size} K w' G' ?_ k2 (by rw[k3,R,q]) (by show 4<=E.nt+32*ops.size;omega) (fun i hi=>(S i hi).trans (B i hi)) X;simpa using k1
  split at h;split at h;rename_i d hd
  have H:0<ops.size:=by
   rcases Nat.eq_zero_or_pos ops.size with h0|h0;have:ops= #[]:=apX h0;subst this;simp[Om]at hd;exact h0
  exact Yk hC.toCxTy hC.mixed f p z hd H e0 h (fun D K w' G' N W R X S g6=>j0 D K w' G' N W (R.trans q) X (fun i hi=>(S i hi).trans (B i hi)) g6);simp only[Ub]at h
  exact aaM (ops:=ops.toList) hC.mixed hC e0 k0 z f p (k:=fun D=>I {CU D ops.toList with nt:=E.nt+32*ops.size}) (by
   rw[<-h];congr 1;funext D L;cases OH ops.toList L<;>rfl) fin
  refine wp_region ?_;have:=Vz (Q:=Q) hC e0 k0 z (l:=ops.toList) (i:=0) (by simp) (by simp) (by simpa using f) (fun s j w1 act v o=>absurd o (p s j w1 act v)) h fin;rw[S4];simpa using this;cases h
 |seq x y Y b0=>
  intro E a w G I J ke Q f p q z B h H o F;refine wp_seq ?_;simp only[JD]at h;split at h;refine Y (Q:=Exit.then (y.wp P Q) Q) f p q z B h (fun D K w' G' N W R X gT S=> ?_) o F;exact b0 N W R X gT S H o F;rename_i n _;simp only[aN]at h;refine Y (Q:=Exit.then (y.wp P Q) Q) f p q z B h (fun D K w' G' N W R X gT S=> ?_) o F;split at S;rename_i t ht;obtain⟨G2,k1,k2,k3,k4⟩:=NW N R ht;exact b0 k1 k2 k3 k4 gT S H o F;cases S
 |cond c x y Y b0=>
  intro E a w G I J ke Q f p q z B h H o F;simp only[JD]at h;split at h;rename_i b sh hb;have hR:RI ([]:List Oper) E a.tmps:=fun s j w1 act v o=>absurd o (p s j w1 act v);obtain⟨⟨cs,h1,h2⟩,_⟩:=rb f hR (g:=none) (by rintro j w' ⟨⟩) hb
  have o0:a.eval c= .bool b:=by
   cases sh with
   |leaf=>rw[h1,show cs=_ from h2];rfl
   |sl m=>exact h2.elim
   |pair a b=>exact h2.elim
  refine wp_cond o0 ?_;split at h;rename_i hb;subst hb;exact Y f p q z B h H o F;rename_i hb;have:b=false:=by simpa using hb
  subst this;exact b0 f p q z B h H o F;cases h
 |block id c ih=>
  intro E a w G I J ke Q f p q z B h H o F;refine wp_block ?_;simp only[JD]at h;refine ih (Q:=Exit.inBlock id Q) f p q z B h H (fun i k hk=> ?_) F;rw[PL]at hk;intro E2 a2 w2 G2 N W R X gT S;show Exit.inBlock id Q (.exit i) a2 w2;simp only[Exit.inBlock];split at hk;rename_i e;simp only[apP]at hk;subst hk;simp only[e,if_true];exact H E2 a2 w2 G2 N W R X gT S;rename_i e;simp only[e,if_false];exact o i k hk E2 a2 w2 G2 N W R X gT S
 |loop c ih=>
  intro E a w G I J ke Q f p q z B h H o F;simp only[JD]at h;split at h;cases h;rename_i n _
  have hq:∃t,proj n E=some t/\aM C.k (fun G t=>JD C c (nc C.n n t) (fun D=>match proj n D with|some t=>G t|none=>none) ke J) t=some r:=by
   split at h;rename_i t ht;exact⟨t,ht,h⟩;cases h
  obtain⟨t,ht,h⟩:=hq;obtain⟨G2,k1,k2,k3,k4⟩:=NW f q ht;refine wp_loop_rounds C.k ?_
  have key:∀(m:Nat) (t:du (Hc n.ks)) (a:Act) (w:World) (G:Gh),aM m (fun G t=>JD C c (nc C.n n t) (fun D=>match proj n D with|some t=>G t|none=>none) ke J) t=some r->
   Inv w0 c0 (fun u=>u<(nc C.n n t).nt) (nc C.n n t) a w G->NR (nc C.n n t).s->(nc C.n n t).s.length=C.n->4<=(nc C.n n t).nt->(∀i∈C.io,a.tmps.getD i undef=T i)->Code.rounds P c Q m a w:=by
   intro m
   induction m with
   |zero=>intro t a w G h;simp[aM]at h
   |succ m p0=>
    intro t a w G h N W R X gT;rw[rounds_succ];simp only[aM]at h;refine ih (Q:=Exit.then (Code.rounds P c Q m) Q) N W R X gT h (fun D K w' G' q1 q2 q3 q4 qT q5=> ?_) o F;split at q5;rename_i t' n0;obtain⟨G3,p1,p2,p3,p4⟩:=NW q1 q3 n0;exact p0 t' K w' G3 q5 p1 p2 p3 p4 qT;cases q5
  exact key C.k t a w G2 h k1 k2 k3 k4 B
 |exit id=>
  intro E a w G I J ke Q f p q z B h H o F;simp only[JD]at h;split at h;rename_i k hk;exact wp_exit (o id k hk E a w G f p q z B h);cases h
 |ret=>intro E a w G I J ke Q f p q z B h H o F;exact wp_ret (F E a w G f p q z B h)
 |_=>intro E a w G I J ke Q f p q z B h H o F;simp[JD]at h
def akD(g:JR P C){f:FuncId}{fn:Func}{con:BJ}(K:P.funcs[f]?=some fn)(l:(fn.name== "runtime.NumGoroutine")=false)(hn:con.ps.length<=fn.ntmps)
 (Y:∀x y,con.F x=some y->TJ C con.ps con.rs con.kp fn x=some y):BH P f con:=by
 intro w o args x y R b;have d:=Y x y R;unfold TJ at d;split at d;cases d;rename_i c B
 have m:(callFunc f args.toArray).run P w= .ok (.enter f args.toArray) w:=by
  have u:fn.name≠ "runtime.NumGoroutine" :=by simpa using l
  unfold callFunc;simp[K,u,B]
 unfold NB;rw[m];simp only;refine calls_of_wp K B ?_;have hal:args.length=con.ps.length:=by rw[b.len,L2]
 have hE:=ad5 b fn.ntmps;have WI:=vt con.ps 4
 have e:Zf {C with n:=fn.ntmps,io:=BF con.ps 0} w (o.Yn (fV con.ps 4)) (fun i=>args.getD i undef) y (fin C.tt con.ps con.rs con.kp fn.results.toList (gU con.ps x 4).2) (fun p w'=>
  p.defers=[]/\∃v,(results fn p.tmps).run P w'= .ok v w'/\∃D,Ending.returned v=Ending.returned D/\∃H q t,QB con w o args y D w' H q t):=by
  intro E' p w' H I g2 g3 g4 S J;rw[N0]at J;obtain⟨N,G2,q,t,k1,k2⟩:=agL g.toCxTy (args:=args) b I J S;exact⟨I.defers,N,k1,N,rfl,G2,q,t,k2⟩
 have z:JR P {C with n:=fn.ntmps,io:=BF con.ps 0}:=⟨⟨g.tt,g.eq,g.fs,g.u8⟩,g.ct,g.mixed⟩
 refine akE (T:=fun i=>args.getD i undef) z c (w0:=w) (c0:=o.Yn (fV con.ps 4)) (G:=o) (r:=y) (by rw[N0];simpa[N0]using hE) (fun s j w1 act v h=> ?_) ?_ ?_ (fun i W=> ?_) d e (fun id k X=>by simp[apI]at X) e;rw[DR]at h;exact ain _ _ _ _ _ h;simp only[apB,List.length_replicate,L2];omega;rw[N0];exact WI;have:=Xc i W;exact agX args fn.ntmps i (by omega)
def agO{c:List (Nat×TI)}(e:c.all (fun p=>UK P p.1 p.2)=true)(g:P.follows .mixedOrders=true){cts:List (FuncId×BJ)}(hc:aH P cts){la ja:Nat->Option KO}{k:Nat}
 {f:FuncId} {fn:Func} (i:P.funcs[f]?=some fn) (b:(fn.name== "runtime.NumGoroutine")=false) {ps:List PK} {rs:List RK} {d:List (Nat×List Bool)} (j:decide (ps.length<=fn.ntmps)=true)
 {F:du (ps.map PK.ty)->Option (du (rs.map RK.ty++eM ps))} (l:∀x,TJ (Va c cts la ja k) ps rs d fn x=F x):BH P f ⟨ps,rs,F,d⟩:=
 akD (YJ e g hc) i b (e_ j) (fun x _ h=>(l x).trans h)
theorem aH.JD{h:List (Nat×TI)}(u:h.all (fun p=>UK P p.1 p.2)=true)(v:P.follows .mixedOrders=true){cts:List (FuncId×BJ)}(hc:aH P cts)(la ja:Nat->Option KO)(k:Nat)
 {f:FuncId} {fn:Func} (y:P.funcs[f]?=some fn) {ps:List PK} (o:fnB fn ps.length=true) {rs:List RK} {q:List (Nat×List Bool)}
 {F:du (ps.map PK.ty)->Option (du (rs.map RK.ty++eM ps))} (z:∀x,TJ (Va h cts la ja k) ps rs q fn x=F x):aH P ((f,⟨ps,rs,F,q⟩)::cts):=
 ⟨agO u v hc y (adg o).1 (adg o).2 z,hc⟩
end
def wrap64{n:Int}(h: -9223372036854775808<=n)(h':n<9223372036854775808):IntKind.i64.wrap n=n:=by
 simp only[IntKind.wrap,IntKind.signed,IntKind.bits];simp;omega
theorem pZ{σ ρ:Type}{f:(σ->Option ρ)->σ->Option ρ}(g:σ->Option ρ)(m:σ->Nat)(I:σ->Prop)
 (h:∀G s,I s->(∀b,I b->m b<m s->G b=g b)->f G s=g s):∀(k:Nat) (s:σ),I s->m s<k->aM k f s=g s
 |0,_,_,hm=>by omega
 |k+1,s,hi,hm=>by
  show f (aM k f) s=g s;exact h _ s hi (fun b c hm'=>pZ g m I h k b c (by omega))
theorem UI{σ c ρ d:Type}{f:(σ->Option ρ)->σ->Option ρ}{e:(c->Option d)->c->Option d}(R:σ->c->Prop)(S:Option ρ->Option d->Prop)(g:S none none)
 (h:∀G G' s b,R s b->(∀t t',R t t'->S (G t) (G' t'))->S (f G s) (e G' b)):∀(k:Nat) (s:σ) (b:c),R s b->S (aM k f s) (aM k e b)
 |0,_,_,_=>g
 |k+1,s,b,hr=>h _ _ s b hr (fun t t' i=>UI R S g h k t t' i)
theorem ON{σ ρ:Type}{f:(σ->Option ρ)->σ->Option ρ}(m:σ->Nat)(I:σ->Prop)(P:ρ->Prop)
 (h:∀G s,I s->(∀b,I b->m b<m s->∃r,G b=some r/\P r)->∃r,f G s=some r/\P r):∀(k:Nat) (s:σ),I s->m s<k->∃r,aM k f s=some r/\P r
 |0,_,_,hm=>by omega
 |k+1,s,hi,hm=>h _ s hi (fun b c hm'=>ON m I P h k b c (by omega))
def ai:(τ:Ty)->τ.den->Nat
 | .int _,_=>0
 | .bool,_=>0
 | .str,s=>s.size
 | .sl e,l=>l.length+(l.map (ai e)).sum
 | .pair a b,p=>ai a p.1+ai b p.2
def cC{α:Type}{l:List α}{i:Nat}{d:α}(h:i<l.length):l.getD i d∈l:=by
 rw[apt,apL h];simp
def fU{α:Type}{l:List α}{i:Nat}{d:α}(h:i<l.length):l.drop i=l.getD i d::l.drop (i+1):=by
 rw[ap5 h,apt,apL h];rfl
def eqS{α:Type}(k:Nat)(d:α)(S:α×α×Unit->Option (Bool×Unit))(x:List α×List α×Unit):Option (Bool×Unit):=
 if((((t_ x.1:Nat):Int):Int) != ((t_ x.2.1:Nat):Int))=true then
  some (false,())
 else
  aM k (fun c (b:List α×List α×Int×Unit)=>
   if(decide ((b.2.2.1:Int)<((t_ b.1:Nat):Int)))=true then
    if(decide (0<=b.2.2.1/\b.2.2.1<((t_ b.1:Nat):Int)))=true then
     if(decide (0<=b.2.2.1/\b.2.2.1<((t_ b.2.1:Nat):Int)))=true then
      apS (S (apV b.1 (apM b.2.2.1) d,apV b.2.1 (apM b.2.2.1) d,())) fun(r3:Bool×Unit)=>
      if(!r3.1)=true then
       some (false,())
      else
       c (b.1,b.2.1,IntKind.i64.wrap (b.2.2.1+1),())
     else
      none
    else
     none
   else
    some (true,())) (x.1,x.2.1,0,())
def allEq{α:Type}(p:α->α->Bool):List α->List α->Bool
 | [],[]=>true
 |a::l,b::m=>p a b&&allEq p l m
 |_,_=>false
theorem VP{α:Type}{p:α->α->Bool}:∀ {l m:List α},l.length≠m.length->allEq p l m=false
 | [],[],h=>absurd rfl h
 |a::l,b::m,h=>by
  simp only[allEq];rw[VP (l:=l) (m:=m) (fun e=>h (by simp[e]))];simp
 | [],_::_,_|_::_,[],_=>rfl
def amc{α:Type}{k:Nat}{d:α}{S:α×α×Unit->Option (Bool×Unit)}{p:α->α->Bool}{l m:List α}(hk:9223372036854775808<=k)(hl:l.length<=281474976710656)(h:∀a∈l,∀b∈m,S (a,b,())=some (p a b,())):
 eqS k d S (l,m,())=some (allEq p l m,()):=by
 unfold eqS;simp only;by_cases hlen:l.length=m.length;rw[a_ (by simp[hlen])]
 rw[pZ (g:=fun(s:List α×List α×Int×Unit)=>some (allEq p (l.drop s.2.2.1.toNat) (m.drop s.2.2.1.toNat),())) (m:=fun(s:List α×List α×Int×Unit)=>l.length-s.2.2.1.toNat)
  (I:=fun(s:List α×List α×Int×Unit)=>s.1=l/\s.2.1=m/\0<=s.2.2.1/\s.2.2.1<=(l.length:Int))]
 simp;rintro G ⟨l',m',i,u⟩ ⟨e1,e2,hi0,hi1⟩ hG;change l'=l at e1;change m'=m at e2;subst e1 e2;simp only at hi0 hi1 hG|-;by_cases c:i<(l'.length:Int);have e:i.toNat<l'.length:=by omega
 have f:i.toNat<m'.length:=by omega
 rw[an (by simpa using c),an (by simpa using⟨hi0,c⟩),an (by simpa using⟨hi0,by omega⟩)];rw[h _ (cC e) _ (cC f),apy,fU (d:=d) e,fU (d:=d) f];simp only[allEq];cases p (l'.getD i.toNat d) (m'.getD i.toNat d)with
 |true=>
  rw[a_ (by simp),wrap64 (by omega) (by omega),hG (l',m',i+1,()) ⟨rfl,rfl,by simp only;omega,by simp only;omega⟩ (by simp only;omega)];simp only[aqp];rw[show(i+1).toNat=i.toNat+1 by omega]
 |false=>rfl
 rw[a_ (by simpa using c),aps (by omega),aps (by omega)];rfl;exact⟨rfl,rfl,by simp,by simp⟩;simp only;omega;rw[an (by simp;omega),VP hlen]
def eqR{α:Type}(k:Nat)(d:α)(S:α×α×Unit->Option (Bool×Unit))(x:List α×List α×Unit):Option (Bool×Unit):=
 if((((t_ x.1:Nat):Int):Int) != ((t_ x.2.1:Nat):Int))=true then
  some (false,())
 else
  aM k (fun c (b:List α×List α×Int×Int×Unit)=>
   if(decide ((b.2.2.2.1:Int)<b.2.2.1))=true then
    if(decide (0<=b.2.2.2.1/\b.2.2.2.1<((t_ b.1:Nat):Int)))=true then
     if(decide (0<=b.2.2.2.1/\b.2.2.2.1<((t_ b.2.1:Nat):Int)))=true then
      apS (S (apV b.1 (apM b.2.2.2.1) d,apV b.2.1 (apM b.2.2.2.1) d,())) fun(r3:Bool×Unit)=>
      if(!r3.1)=true then
       some (false,())
      else
       c (b.1,b.2.1,b.2.2.1,IntKind.i64.wrap (b.2.2.2.1+1),())
     else
      none
    else
     none
   else
    some (true,())) (x.1,x.2.1,((t_ x.1:Nat):Int),0,())
def PY{α:Type}{k:Nat}{d:α}{S:α×α×Unit->Option (Bool×Unit)}{p:α->α->Bool}{l m:List α}(hk:9223372036854775808<=k)(hl:l.length<=281474976710656)(h:∀a∈l,∀b∈m,S (a,b,())=some (p a b,())):
 eqR k d S (l,m,())=some (allEq p l m,()):=by
 unfold eqR;simp only;by_cases hlen:l.length=m.length;rw[a_ (by simp[hlen])]
 rw[pZ (g:=fun(s:List α×List α×Int×Int×Unit)=>some (allEq p (l.drop s.2.2.2.1.toNat) (m.drop s.2.2.2.1.toNat),())) (m:=fun(s:List α×List α×Int×Int×Unit)=>l.length-s.2.2.2.1.toNat)
  (I:=fun(s:List α×List α×Int×Int×Unit)=>s.1=l/\s.2.1=m/\s.2.2.1=(l.length:Int)/\0<=s.2.2.2.1/\s.2.2.2.1<=(l.length:Int))]
 simp;rintro G ⟨l',m',n,i,u⟩ ⟨e1,e2,e3,hi0,hi1⟩ hG;change l'=l at e1;change m'=m at e2;change n=_ at e3;subst e1 e2 e3;simp only at hi0 hi1 hG|-;by_cases c:i<(l'.length:Int);have e:i.toNat<l'.length:=by omega
 have f:i.toNat<m'.length:=by omega
 rw[an (by simpa using c),an (by simpa using⟨hi0,c⟩),an (by simpa using⟨hi0,by omega⟩)];rw[h _ (cC e) _ (cC f),apy,fU (d:=d) e,fU (d:=d) f];simp only[allEq];cases p (l'.getD i.toNat d) (m'.getD i.toNat d)with
 |true=>
  rw[a_ (by simp),wrap64 (by omega) (by omega),hG (l',m',_,i+1,()) ⟨rfl,rfl,rfl,by simp only;omega,by simp only;omega⟩ (by simp only;omega)];simp only[aqp];rw[show(i+1).toNat=i.toNat+1 by omega]
 |false=>rfl
 rw[a_ (by simpa using c),aps (by omega),aps (by omega)];rfl;exact⟨rfl,rfl,rfl,by simp,by simp⟩;simp only;omega;rw[an (by simp;omega),VP hlen]
def cD{α:Type}{c:Prop}[Decidable c](a b:α):(if c then some a else some b)=some (if c then a else b):=by split<;>rfl
def toList_inj{a b:ByteArray}(h:a.toList=b.toList):a=b:=by
 rw[ByteArray.toList_eq,ByteArray.toList_eq]at h;cases a;cases b;simp at h;rw[h]
theorem yU:∀ {τ:Ty} {a b:τ.den},τ.flat=true->(eqv τ a b=true↔a=b)
 | .int _,a,b,_=>by simp[eqv]
 | .bool,a,b,_=>by simp[eqv]
 | .str,a,b,_=>by
   simp only[eqv,beq_iff_eq];exact⟨toList_inj,fun h=>by rw[h]⟩
 | .pair x y,a,b,h=>by
   simp only[Ty.flat,z_]at h;simp only[eqv,z_,yU h.1,yU h.2];exact⟨fun h=>Prod.ext h.1 h.2,fun h=>by rw[h];exact⟨rfl,rfl⟩⟩
 | .sl _,_,_,h=>by simp[Ty.flat]at h
theorem Vb{α:Type}{f:α->Nat}:∀ {l:List α} {x:α},x∈l->f x<=(l.map f).sum
 |y::l,x,h=>by
  simp only[apA,ap0];rcases apz.1 h with rfl|h;omega;have:=Vb (f:=f) h;omega
def cx{e:Ty}{l:List e.den}{x:e.den}(b:x∈l):ai e x<=ai (.sl e) l:=by
 simp only[ai];have:=Vb (f:=ai e) b;omega
def az{e:Ty}{l:List e.den}:l.length<=ai (.sl e) l:=by simp only[ai];omega
def bA(a n:Nat)(p:Nat->Bool):Bool:=(aqz a (n-a)).all p
def bM{a n:Nat}{p:Nat->Bool}:bA a n p=true↔∀i,a<=i->i<n->p i=true:=by
 simp only[bA,apH,ap3];constructor;intro h i b h2;exact h i ⟨b,by omega⟩;intro h i c;exact h i c.1 (by omega)
def RS{a n:Nat}{p:Nat->Bool}(h:a<n):bA a n p=(p a&&bA (a+1) n p):=by
 unfold bA;rw[show n-a=(n-(a+1))+1 by omega,ap8];rfl
def kz{a n:Nat}{p:Nat->Bool}(h:n<=a):bA a n p=true:=by
 unfold bA;rw[show n-a=0 by omega];rfl
def jI{a n:Nat}{p q:Nat->Bool}:bA a n (fun i=>p i&&q i)=(bA a n p&&bA a n q):=by
 rw[aqc,z_,bM,bM,bM];simp only[z_];exact⟨fun H=>⟨fun i b c=>(H i b c).1,fun i b c=>(H i b c).2⟩,fun H i b c=>⟨H.1 i b c,H.2 i b c⟩⟩
def PZ{n m:Nat}:bA 0 n (fun i=>decide (i<m))=decide (n<=m):=by
 rw[aqc,bM];simp only[b_];constructor;intro h;rcases Y' m n with b|b;have:=h m (by omega) b;omega;exact b;intro h i _ h2;omega
theorem dt{σ ρ:Type}{f:(σ->Option ρ)->σ->Option ρ}(st:Nat->σ)(p:Nat->Bool)(n:Nat){e no:Option ρ}
 (b:∀G i,i<n->f G (st i)=if p i=true then G (st (i+1))else no) (c:∀G i,n<=i->f G (st i)=e):
 ∀(k a:Nat),n-a<k->aM k f (st a)=if bA a n p=true then e else no
 |0,_,h=>by omega
 |k+1,a,h=>by
  show f (aM k f) (st a)=_;by_cases d:a<n;rw[b _ a d,RS d,dt st p n b c k (a+1) (by omega)];cases p a<;>simp;rw[c _ a (by omega),kz (by omega),an rfl]
def N3{σ ρ:Type}{f:(σ->Option ρ)->σ->Option ρ}(st:Nat->σ)(p:Nat->Bool)(n:Nat){e yes:Option ρ}
 (b:∀G i,i<n->f G (st i)=if p i=true then yes else G (st (i+1))) (c:∀G i,n<=i->f G (st i)=e) (k a:Nat) (g:n-a<k):
 aM k f (st a)=if bA a n (fun i=> !p i)=true then e else yes:=
 dt st (fun i=> !p i) n (fun G i d=>by rw[b G i d];cases p i<;>rfl) c k a g
theorem bX{σ ρ:Type}{f:(σ->Option ρ)->σ->Option ρ}(st:Nat->σ)(n:Nat){e:Option ρ}(b:∀G i,i<n->f G (st i)=G (st (i+1)))(c:∀G,f G (st n)=e):
 ∀(k a:Nat),a<=n->n-a<k->aM k f (st a)=e
 |0,_,_,h=>by omega
 |k+1,a,ha,h=>by
  show f (aM k f) (st a)=_;by_cases d:a=n;subst d;exact c _;rw[b _ a (by omega),bX st n b c k (a+1) (by omega) (by omega)]
def aX{i:Nat}(h:i<4611686018427387904):IntKind.i64.wrap ((i:Int)+1)=((i+1:Nat):Int):=by
 rw[wrap64 (by omega) (by omega)];rfl
def D8{i:Nat}(h:i<4611686018427387904):IntKind.i64.wrap ((i:Int)-1)=(i:Int)-1:=wrap64 (by omega) (by omega)
def aC{i n:Nat}(h:i<n):(decide ((0:Int)<=(i:Int)/\(i:Int)<(n:Int)))=true:=by simp;omega
def aK{i n:Nat}:(decide ((i:Int)<(n:Int)))=decide (i<n):=by simp
def cE(a b:Int):(a==b)=decide (a=b):=rfl
def im(a b:Int):(a != b)= !decide (a=b):=rfl
def tbf:(true==false)=false:=rfl
def fbt:(false==true)=false:=rfl
def lv{α:Type}{l:List α}{i:Nat}(d:α)(h:i<l.length):l.take (i+1)=l.take i++[l.getD i d]:=by
 rw[apU h,apt,apL h];rfl
def filter_one{α:Type}(p:α->Bool)(a:α):[a].filter p=if p a=true then [a]else []:=by
 cases h:p a<;>simp[List.filter,h]
def map_take{α β:Type}{f:α->β}{l:List α}{i:Nat}(d:α)(h:i<l.length):(l.take (i+1)).map f=(l.take i).map f++[f (l.getD i d)]:=by
 rw[lv d h,aqd];rfl
def cpS{α β:Type}(k:Nat)(d:α)(S:α×Unit->Option (β×Unit))(x:List α×Unit):Option (List β×Unit):=
 aM k (fun e (b:List α×List β×Int×Unit)=>
  if(decide ((b.2.2.1:Int)<((t_ b.1:Nat):Int)))=true then
   if(decide (0<=b.2.2.1/\b.2.2.1<((t_ b.1:Nat):Int)))=true then
    apS (S (apV b.1 (apM b.2.2.1) d,())) fun(c:β×Unit)=>
    if(decide (t_ b.2.1+t_ ([c.1]:List β)<4294967296))=true then
     e (b.1,b.2.1++([c.1]:List β),IntKind.i64.wrap (b.2.2.1+(1:Int)),())
    else
     none
   else
    none
  else
   some (b.2.1,())) (x.1,([]:List β),(0:Int),())
def akY{α β:Type}{k:Nat}{d:α}{S:α×Unit->Option (β×Unit)}(f:α->β){l:List α}(hk:9223372036854775808<=k)(hl:l.length<=1073741824)(c:∀e∈l,S (e,())=some (f e,())):cpS k d S (l,())=some (l.map f,()):=by
 unfold cpS;refine bX (fun i=>(l,(l.take i).map f,(i:Int),())) l.length (fun G i b=> ?_) (fun G=> ?_) k 0 (by omega) (by omega);simp only[aK,aC b,b,decide_true,if_true,aqx];rw[c _ (cC b),apy,an (by simp;omega),aX (by omega),map_take d b];simp
def cpR{α β:Type}(k:Nat)(d:α)(S:α×Unit->Option (β×Unit))(x:List α×Unit):Option (List β×Unit):=
 aM k (fun e (b:List β×List α×Int×Int×Unit)=>
  if(decide ((b.2.2.2.1:Int)<b.2.2.1))=true then
   if(decide (0<=b.2.2.2.1/\b.2.2.2.1<((t_ b.2.1:Nat):Int)))=true then
    apS (S (apV b.2.1 (apM b.2.2.2.1) d,())) fun(c:β×Unit)=>
    if(decide (t_ b.1+t_ ([c.1]:List β)<4294967296))=true then
     e (b.1++([c.1]:List β),b.2.1,b.2.2.1,IntKind.i64.wrap (b.2.2.2.1+(1:Int)),())
    else
     none
   else
    none
  else
   some (b.1,())) (([]:List β),x.1,((t_ x.1:Nat):Int),(0:Int),())
def ak0{α β:Type}{k:Nat}{d:α}{S:α×Unit->Option (β×Unit)}(f:α->β){l:List α}(hk:9223372036854775808<=k)(hl:l.length<=1073741824)(c:∀e∈l,S (e,())=some (f e,())):cpR k d S (l,())=some (l.map f,()):=by
 unfold cpR;refine bX (fun i=>((l.take i).map f,l,(l.length:Int),(i:Int),())) l.length (fun G i b=> ?_) (fun G=> ?_) k 0 (by omega) (by omega);simp only[aK,aC b,b,decide_true,if_true,aqx];rw[c _ (cC b),apy,an (by simp;omega),aX (by omega),map_take d b];simp
def Bt{α:Type}{k:Nat}{d:α}{S:α×Unit->Option (α×Unit)}{l:List α}(b:9223372036854775808<=k)(c:l.length<=1073741824)(f:∀e∈l,S (e,())=some (e,())):cpS k d S (l,())=some (l,()):=by
 have:=akY (d:=d) (fun e=>e) b c f;rwa [List.map_id']at this
def SY{α:Type}{k:Nat}{d:α}{S:α×Unit->Option (α×Unit)}{l:List α}(b:9223372036854775808<=k)(c:l.length<=1073741824)(f:∀e∈l,S (e,())=some (e,())):cpR k d S (l,())=some (l,()):=by
 have:=ak0 (d:=d) (fun e=>e) b c f;rwa [List.map_id']at this
theorem xD{e:Ty}(p:e.den->Bool):∀(l:List e.den),ai (.sl e) (l.filter p)<=ai (.sl e) l
 | []=>gh _
 |x::l=>by
  have:=xD p l;by_cases h:p x=true;rw[apO h];simp only[ai,apx,apA,ap0]at this|-;omega;rw[List.filter_cons_of_neg h];simp only[ai,apx,apA,ap0]at this|-;omega
def gZ{e:Ty}(l m:List e.den):ai (.sl e) (l++m)=ai (.sl e) l+ai (.sl e) m:=by
 simp only[ai,apB,aqd,List.sum_append];omega
def bW{e:Ty}(x:e.den)(l:List e.den):ai (.sl e) (x::l)=1+ai e x+ai (.sl e) l:=by
 simp only[ai,apx,apA,ap0];omega
def bd{e:Ty}:ai (.sl e) ([]:List e.den)=0:=by simp[ai]
theorem mf{e:Ty}:∀(l:List e.den) (i:Nat) (x:e.den),i<l.length->ai (.sl e) (l.set i x)+ai e (l.getD i e.aa)=ai (.sl e) l+ai e x
 | [],i,x,h=>by simp at h
 |y::l,0,x,h=>by rw[List.set_cons_zero,bW,bW];simp;omega
 |y::l,i+1,x,h=>by
  have:=mf l i x (by simpa using h);rw[List.set_cons_succ,bW,bW,apZ];omega
def cB{e:Ty}(l:List e.den)(i:Nat):ai (.sl e) (l.take i)+ai (.sl e) (l.drop i)=ai (.sl e) l:=by
 rw[<-gZ,List.take_append_drop]
def fv(n:Nat)(p:Nat->Bool):Option Nat:=(List.range n).find? p
def dB:Option Nat->Int
 |some i=>(i:Int)
 |none=> -1
def aR{n:Nat}{p:Nat->Bool}{i:Nat}:fv n p=some i↔i<n/\p i=true/\∀j,j<i->p j=false:=by
 unfold fv;rw[List.find?_range_eq_some];constructor;rintro⟨c,d,e⟩;exact⟨aqK.1 d,c,fun j b=>by simpa using e j b⟩;rintro⟨c,d,e⟩;exact⟨d,aqK.2 c,fun j b=>by simpa using e j b⟩
def gB{n:Nat}{p:Nat->Bool}:fv n p=none↔∀i,i<n->p i=false:=by
 unfold fv;rw[List.find?_range_eq_none];constructor;intro h i b;simpa using h i b;intro h i b;simpa using h i b
def fY{σ ρ:Type}{f:(σ->Option ρ)->σ->Option ρ}(st:Nat->σ)(p:Nat->Bool)(n:Nat){e:Option ρ}(b:Nat->Option ρ)
 (c:∀G i,i<n->f G (st i)=if p i=true then b i else G (st (i+1))) (d:∀G,f G (st n)=e) (k:Nat) (hk:n<k):
 aM k f (st 0)=match fv n p with|some i=>b i|none=>e:=by
 have key:∀(k a:Nat),a<=n->n-a<k->(∀j,j<a->p j=false)->aM k f (st a)=match fv n p with|some i=>b i|none=>e:=by
  intro k
  induction k with
  |zero=>intro a _ h;omega
  |succ k o=>
   intro a ha h l;show f (aM k f) (st a)=_;by_cases m:a=n;subst m;rw[d,(gB (n:=a) (p:=p)).2 l];rw[c _ a (by omega)];cases g:p a with
   |true=>rw[an rfl,(aR (i:=a)).2 ⟨by omega,g,l⟩]
   |false=>
    rw[a_ (by simp),o (a+1) (by omega) (by omega) (fun j hj=>by
     rcases Y' j a with h|h;exact l j h;obtain rfl:j=a:=by omega
     exact g)]
 exact key k 0 (by omega) (by omega) (by omega)
def ly(a b:ByteArray):Bool:=Op.bytesLess a.toList b.toList
def bp:List (ByteArray×ByteArray)->List (ByteArray×ByteArray)->Bool
 | [],b=> !b.isEmpty
 |_::_,[]=>false
 |a::l,b::m=>if a.1.toList==b.1.toList then(if a.2.toList==b.2.toList then bp l m else ly a.2 b.2)else ly a.1 b.1
def dv{α:Type}(lt:α->α->Bool)(x:α):List α->List α
 | []=>[x]
 |y::r=>if lt x y=true then y::dv lt x r else x::y::r
def eW{α:Type}(lt:α->α->Bool)(l:List α):List α:=(l.foldl (fun r x=>dv lt x r) []).reverse
abbrev cV(a b:List (ByteArray×ByteArray)×Int×Int×ByteArray):Bool:=bp a.1 b.1
def dC(l:List (List (ByteArray×ByteArray)×Int×Int×ByteArray)):List (List (ByteArray×ByteArray)×Int×Int×ByteArray):=eW cV l
abbrev ph:Ty:= .pair (.sl (.pair .str .str)) (.pair (.int .i64) (.pair (.int .i64) .str))
def ID(N:Nat)(x:List ph.den×Unit):Option (List ph.den×Unit):=
 if(decide (x.1.length<N)&&x.1.all fun a=>decide (a.1.length<4611686018427387904))=true then some (dC x.1,())else none
def Rh(x:List ph.den×Unit):Option (List ph.den×Unit):=ID 1152921504606846976 x
abbrev jY:Ty:= .pair (.int .i64) (.pair (.int .i64) (.pair ph (.pair (.sl (.pair .str .str)) (.pair (.int .i64) (.pair (.int .i64) (.pair (.int .i64) (.pair (.sl ph) (.pair (.int .i64) (.pair (.int .i64) (.pair (.int .i64) (.int .i64)))))))))))
def ql(d:jY.den):Int:=d.2.2.2.2.2.2.2.2.2.2.1
def GI(l:List jY.den)(x y:Int):Bool:=decide (ql (l.getD x.toNat jY.aa)<ql (l.getD y.toNat jY.aa))
def Z4(k:Nat)(x:List jY.den×Unit):Option (List Int×Unit):=
 aN (fun d=>
  aM k (fun c (b:List jY.den×List Int×List jY.den×Int×Int×Unit)=>
   if(decide ((b.2.2.2.2.1:Int)<b.2.2.2.1))=true then
    if(decide (0<=b.2.2.2.2.1/\b.2.2.2.2.1<((t_ b.2.2.1:Nat):Int)))=true then
     if((ql (apV b.2.2.1 (apM b.2.2.2.2.1) jY.aa):Int) != (-1:Int))=true then
      if(decide (t_ b.2.1+t_ ([b.2.2.2.2.1]:List Int)<4294967296))=true then
       c (b.1,b.2.1++([b.2.2.2.2.1]:List Int),b.2.2.1,b.2.2.2.1,IntKind.i64.wrap (b.2.2.2.2.1+(1:Int)),())
      else
       none
     else
      c (b.1,b.2.1,b.2.2.1,b.2.2.2.1,IntKind.i64.wrap (b.2.2.2.2.1+(1:Int)),())
    else
     none
   else
    d (b.1,b.2.1,())) (x.1,([]:List Int),x.1,((t_ x.1:Nat):Int),(0:Int),())) (fun(e:List jY.den×List Int×Unit)=>some e)
 |>.bind fun t=>
  if(decide (t.2.1.length<1152921504606846976)&&decide (t.1.length<4611686018427387904)&&t.2.1.all (fun x=>decide (0<=x/\x<(t.1.length:Int))))=true then some (eW (GI t.1) t.2.1,())else none
end Vg
namespace Vg
open Go Go.RowKit
theorem aci{w:World}:∀ {l:List ByteArray} {cs:List Value} {B:List Nat},cr (bP w .str) l cs B->cs=l.map Value.string
 | [],_,_,h=>h.1
 |x::l,cs,B,h=>by
  obtain⟨c1,c2,B1,B2,rfl,_,b,c⟩:=h;rw[b.1,aci c];rfl
def akT{l:List ByteArray}{j:Nat}{x:ByteArray}(h:l[j]?=some x):(l.map Value.string)[j]?=some (.string x):=by rw[List.getElem?_map,h];rfl
def afW{ps:List PK}{τ:Ty}{F:du (ps.map PK.ty)->Option (du ([RK.val τ .leaf].map RK.ty++eM ps))}{w w':World}{f:Gh}{args:List Value}{j:Nat}{L:List SV}(c:Y6 w f L args j)
 (g:∀x:du (eM ps),lA [2,1] ps x (qc ps 0 4)=fun _=>[]) {y:du ([RK.val τ .leaf].map RK.ty++eM ps)} {mv:Value} (e:Below w.heap.size w w')
 (k:gQ w' f (.d ⟨τ,y.1,.leaf⟩) mv):QB ⟨ps,[.val τ .leaf],F,[]⟩ w f args y mv w' f [mv] j where
 val:=rfl
 len:=rfl
 res i:=by
  cases i with
  |zero=>exact k
  |succ i=>
   have:(dE [RK.val τ .leaf] (eM ps) y (fV ps 4) [2,1]).1.getD (i+1) .no= .no:=by
    show([SV.d ⟨τ,y.1,Sh.leaf⟩]).getD (i+1) .no= .no;rfl
   rw[this];trivial
 ios t i v h:=by rw[g]at h;cases h
 frame b hbs _:=⟨rfl,e.block b hbs⟩
 one b h:=⟨(c.colU b (by omega)).2,rfl⟩
 size:=e.size
 os:=e.os
 tape:=e.tape
 output:=e.output
 lt b h:=aqs (c.colU b h).2 e.size
 fresh b h:=by rw[e.block b (c.colU b (by omega)).2];exact c.fresh b h
 kept q hq:=by cases hq
def T5{P:Program}{f:FuncId}{fn:Func}(i:P.funcs[f]?=some fn)(b:(fn.name== "runtime.NumGoroutine")=false)(j:fn.body.isSome=true){w:World}{args:Array Value}{R:Value->World->Prop}
 (h:Calls P f args w (fun e w'=>∃v,e= .returned v/\R v w')):NB P f args w R:=by
 obtain⟨c,hc⟩:=Option.isSome_iff_exists.1 j
 have d:(callFunc f args).run P w= .ok (.enter f args) w:=by
  have g:fn.name≠ "runtime.NumGoroutine" :=by simpa using b
  unfold callFunc;simp[i,g,hc]
 unfold NB;rw[d];exact h
def xq(l:List ByteArray)(sep:ByteArray):List UInt8:=Lib.join (l.map (·.data.toList)) sep.data.toList
def M4(x:List ByteArray×ByteArray×Unit):Option (ByteArray×Unit):=
 if x.1.length<=140737488355328/\(xq x.1 x.2.1).length<=140737488355328 then some (⟨(xq x.1 x.2.1).toArray⟩,())else none
def TZ{P:Program}{f:FuncId}{fn:Func}(hf:P.funcs[f]?=some fn)(h:(fn.name== "runtime.NumGoroutine")=false)(hb:fn.body.isSome=true)
 (h0:∀(a:Option Addr) (c:Nat) (sep:ByteArray) (w:World),Calls P f #[.slice a 0 c,.string sep] w fun e w'=>e= .returned (.string ⟨#[]⟩)/\w'=w)
 (h1:∀(D o c:Nat) (xs:List ByteArray) (sep:ByteArray) (w:World),(∀(j:Nat) x,xs[j]?=some x->w.cell? ⟨D,o+j,none⟩=some (.string x))->D<w.heap.size->xs.length<=140737488355328->xs.length<=c->
  (Lib.join (xs.map (·.data.toList)) sep.data.toList).length<=140737488355328->
  Calls P f #[.slice (some ⟨D,o,none⟩) xs.length c,.string sep] w fun e w'=>e= .returned (.string ⟨(Lib.join (xs.map (·.data.toList)) sep.data.toList).toArray⟩)/\Below w.heap.size w w'):
 BH P f ⟨[.val (.sl .str) .shr,.val .str .leaf],[.val .str .leaf],M4,[]⟩:=by
 intro w s args x y i g;obtain⟨l,sep,u⟩:=x;have hlen:args.length=2:=g.len
 obtain⟨k,t,rfl⟩:∃k t,args=[k,t]:=by
  match args,hlen with
  | [a,b],_=>exact⟨a,b,rfl⟩
 have s0:gQ w s (.d ⟨.sl .str,l,.sl (.sha [1])⟩) k:=g.slots 0;have s1:gQ w s (.d ⟨.str,sep,.leaf⟩) t:=g.slots 1;obtain⟨W,e1,q1⟩:=s1;have H:W=[.string sep]:=q1;subst H;have I:t= .string sep:=e1;subst I;obtain⟨cs0,e0,v,rfl,m⟩:=s0;have J:k=v:=e0;subst J;have i:M4 (l,sep,u)=some y:=i;unfold M4 at i;split at i;rename_i hc;have K:=aqG i;subst K;refine T5 hf h hb ?_;obtain⟨⟨B,p,_⟩,_⟩:=m
 have fin:∀w',Below w.heap.size w w'->∃Y vs nt,QB ⟨[.val (.sl .str) .shr,.val .str .leaf],[.val .str .leaf],M4,[]⟩ w s [k,.string sep] (⟨(xq l sep).toArray⟩,()) (.string ⟨(xq l sep).toArray⟩) w' Y vs nt:=
  fun w' z=>⟨s,_,_,afW (ps:=[.val (.sl .str) .shr,.val .str .leaf]) (τ:= .str) (F:=M4) (y:=(⟨(xq l sep).toArray⟩,())) g (fun _=>by funext n;rfl) z ⟨[.string ⟨(xq l sep).toArray⟩],rfl,rfl⟩⟩
 rcases p with⟨⟨ao,rfl⟩,rfl,_⟩|⟨b,off,cap,c,el,fz,Bs,rfl,q,r,hsz,_,hl⟩;refine(h0 ao 0 sep w).mono fun e w' ⟨he,hw⟩=>⟨_,he,?_⟩
 subst hw;exact fin _ (Below.refl _ _);have N:=aci hl;refine(h1 b off cap l sep w (fun j x X=> ?_) (lt_of_block r) hc.1 q hc.2).mono fun e w' ⟨he,hw⟩=>⟨_,he,fin _ hw⟩
 unfold World.cell?;simp only[r,apo,apl,if_false];have R:j<l.length:=(List.getElem?_eq_some_iff.1 X).1;have S:=akT (l:=l) X;rw[<-N]at S;simp only[apq,apr,Ty.sz,aqA,R,if_true,api]at S;exact S;cases i
end Vg
namespace Go.Proofs
open Go.Shelf Go.RowKit Go.Lib Go.Sort
variable{P:Program}{ρ:Ren}{α:Type}[Inhabited α]
set_option maxHeartbeats 1600000 in
set_option maxRecDepth 100000 in
def ab6(L:LaysGt.n15 P ρ){enc:α->List Value}{k:Nat}(hk:∀x,(enc x).length=k)(lt:α->α->Bool){g:Nat}{lb:Array Value}{sf:Nat}{sb:Array Value}{blk off:Nat}{d:Array α}{W:World}
 (eg:∀args w,(callFunc g args).run P w= .ok (.enter g args) w) (hless:LessReadsK P g lb enc k lt blk off d.size W) (hswap:SwapSwapsK P sf sb enc k blk off d.size)
 (hH:HoldsK enc k W blk off d) (hblk:blk<W.heap.size) (KQ:d.size<20):
 Calls P (ρ.f 15) #[.agg #[.func (.func g) #[] lb,.func (.func sf) #[] sb],.int .i64 d.size] W fun e w'=>e= .returned (.tuple #[])/\∃n os,w'=sortWorldK enc k W blk off n (Sort.insertionSort lt d 0 d.size) os:=by
 have mixed:=L.mixed;have t0:=L.t0;have a0:=L.a0;have z0:=L.z0;have v0:=L.v0;have t3:=L.t3;have a3:=L.a3;have z3:=L.z3;have v3:=L.v3;have t4:=L.t4;have a4:=L.a4;have z4:=L.z4;have v4:=L.v4;have t26:=L.t26;have a26:=L.a26;have z26:=L.z26;have v26:=L.v26;have t38:=L.t38;have a38:=L.a38;have z38:=L.z38;have v38:=L.v38;have t42:=L.t42;have a42:=L.a42;have z42:=L.z42;have v42:=L.v42;have t47:=L.t47;have a47:=L.a47;have z47:=L.z47;have v47:=L.v47;have u42:=run_underlying L.t42;have e29:∀args w,(callFunc (ρ.f 29) args).run P w= .ok (.enter (ρ.f 29) args) w:=enters_of L.f29 (by kernel_rfl) rfl;have LI:LaysGg.n26 P ρ.viaGt:=({L with}:LaysGt.n29 P ρ).elder;have hS:=(SWK.start hH).alloc (.cells #[.func (.func g) #[] lb,.func (.func sf) #[] sb] (ρ.t 42))
 have hc:Calls P (ρ.f 29) #[.agg #[.func (.func g) #[] lb,.func (.func sf) #[] sb],.int .i64 (0:Nat),.int .i64 d.size] (W.alloc (.cells #[.func (.func g) #[] lb,.func (.func sf) #[] sb] (ρ.t 42))) fun e w'=>e= .returned (.tuple #[])/\∃n os,w'=sortWorldK enc k (W.alloc (.cells #[.func (.func g) #[] lb,.func (.func sf) #[] sb] (ρ.t 42))) blk off n (Sort.insertionSort lt d 0 d.size) os:=
  Any.insertionSort_func_cells_w LI enc k hk lt g lb sf sb blk off 0 d.size d _ eg (hS.lessReads hless hblk rfl) hswap (hS.holds hblk hH rfl) (hS.lt hblk) (aqi _) (gh _) (by omega)
 clear hless hswap hH hS
 go_enter L.f15,BodyGt.n15_ntmps ρ
 go_wp2
 refine wp_loop_rounds 1 ?_;rw[rounds_succ]
 go_wp2_with (go_at_fn (ρ.f 29);refine hc.mono ?_;rintro e w1 ⟨rfl,n,os,rfl⟩)
 refine wp_loop_rounds 1 ?_;rw[rounds_succ]
 go_wp2
 all_goals first|(exfalso;omega)|(go_end0;exact⟨rfl,n,_,by unfold sortWorldK;rw[alloc_eq_grow,ahead_grow,putRowK_grow enc k (Sort.ahead W n) _ blk off _ hblk,grow_grow]⟩)
def ahS(L:LaysGt.n8 P ρ){t e:TypeId}{i ie:TypeInfo}(hi:P.info? t=some i)(z:i.desc= .slice e)(p:P.packed t=false)(m:P.info? e=some ie){ke:Nat}(q:∀w,(Extern.Rtype.kind e).run P w= .ok ke w)
 {enc:α->List Value} {k:Nat} (y:∀x,(enc x).length=k) (r:ie.size=k) (o:∀w,(isAgg e).run P w= .ok true w) (B:∀x,∀v∈enc x,v.oneCell'=true) (lt:α->α->Bool) {g:Nat} {s:Array Value}
 (D:∀args w,(callFunc g args).run P w= .ok (.enter g args) w) {b off c:Nat} {d:Array α} (F:2<=d.size) (KQ:d.size<20)
 {f:Nat} (H:P.funcs.findIdx? (·.name== "internal/reflectlite" ++ ".Swapper$" ++toString (swapperK d.size ie ke))=some f)
 (gS:Bool) (I:∀args W,(callFunc f args).run P W=((Extern.ReflectliteSwapper.swap gS args).run P W).andThen fun v w'=> .ok (.value v) w')
 {w:World} (l:LessReadsK P g s enc k lt b off d.size w) (J:HoldsK enc k w b off d) (h:b<w.heap.size):
 Calls P (ρ.f 8) #[.iface t (.slice (some ⟨b,off,none⟩) d.size c),.func (.func g) #[] s] w fun e w'=>
  e= .returned (.tuple #[])/\∃n u,w'=grow (putRowK enc k (Sort.ahead w n) b off (Sort.insertionSort lt d 0 d.size)) u:=by
 refine Any.sort_SliceStable_of_stable L t e i ie hi z p m ke q _ d.size c (by omega) f H (.func g) #[] s w _ ?_
 have K:sliceBound P e ie ke (some ⟨b,off,none⟩) d.size c= #[.slice (some ⟨b,off,none⟩) d.size c,typeHandle P e]:=by
  unfold sliceBound;rw[a_ (swapperK_gt _ _ _ F)]
 obtain⟨j,N⟩:∃j,stableWorld P ρ t (some ⟨b,off,none⟩) d.size c w=grow w j:=
  ⟨_,by unfold stableWorld;rw[alloc_eq_grow,alloc_eq_grow,grow_grow]⟩
 rw[K,N]
 refine(ab6 (P:=P) (ρ:=ρ) {L with} y lt (d:=d) D (l.grow h j)
  (swapSwapsK_of_literal gS f I e ie m enc k y r o B b off d.size c) (holdsK_grow enc k w _ b off d h J) (by rw[size_grow];omega) KQ).mono ?_
 rintro e w' ⟨rfl,n,u,rfl⟩;exact⟨rfl,n,_,by unfold sortWorldK;rw[ahead_grow,putRowK_grow enc k (Sort.ahead w n) _ b off _ h,grow_grow]⟩
def Ts{α:Type}(enc:α->List Value)(b:α->List (ByteArray×ByteArray))(e:Nat)(w:World):Prop:=
 ∀x:α,∃p c,(enc x)[0]?=some (.slice p (b x).length c)/\(b x).length<4611686018427387904/\
  ∀i,i<(b x).length->∃d o,p=some ⟨d,o,none⟩/\d≠e/\d<w.heap.size/\w.cell? ⟨d,o+i*2,none⟩=some (.string ((b x).getD i (ByteArray.empty,ByteArray.empty)).1)/\
   w.cell? ⟨d,o+i*2+1,none⟩=some (.string ((b x).getD i (ByteArray.empty,ByteArray.empty)).2)
end Go.Proofs
namespace Vg
open Go Go.RowKit
section
variable{α:Type}
theorem WS(lt:α->α->Bool)(x:α):∀r:List α,(dv lt x r).Perm (x::r)
 | []=>List.Perm.refl _
 |y::r=>by
  unfold dv;split
  ·exact((WS lt x r).cons y).trans (List.Perm.swap x y r)
  ·exact List.Perm.refl _
theorem UP(lt:α->α->Bool):∀(l r:List α),(l.foldl (fun r x=>dv lt x r) r).Perm (l++r)
 | [],r=>List.Perm.refl _
 |x::l,r=>by
  rw[aqe];exact(UP lt l _).trans ((List.Perm.append_left l (WS lt x r)).trans (List.perm_middle))
def mi(lt:α->α->Bool)(l:List α):(eW lt l).Perm l:=by
 unfold eW;refine(List.reverse_perm _).trans ?_;have:=UP lt l [];rwa [aqf]at this
theorem YC{β:Type}{lt:α->α->Bool}{lt':β->β->Bool}(f:α->β)(h:∀x y,lt x y=lt' (f x) (f y))(x:α):∀r:List α,(dv lt x r).map f=dv lt' (f x) (r.map f)
 | []=>rfl
 |y::r=>by
  simp only[dv,apA,h];split<;>simp[YC f h x r]
theorem VF{β:Type}{lt:α->α->Bool}{lt':β->β->Bool}(f:α->β)(h:∀x y,lt x y=lt' (f x) (f y)):∀(l r:List α),(l.foldl (fun r x=>dv lt x r) r).map f=(l.map f).foldl (fun r x=>dv lt' x r) (r.map f)
 | [],r=>rfl
 |x::l,r=>by
  rw[aqe,apA,aqe,VF f h l,YC f h]
def Yj{β:Type}{lt:α->α->Bool}{lt':β->β->Bool}(f:α->β)(h:∀x y,lt x y=lt' (f x) (f y))(l:List α):(eW lt l).map f=eW lt' (l.map f):=by
 unfold eW;rw[List.map_reverse,VF f h];rfl
variable[Inhabited α]
theorem aaN(lt:α->α->Bool):∀(j:Nat) (p:List α) (x:α) (r:List α),p.length=j->Go.Sort.insInner lt 0 j (p++x::r).toArray=((dv lt x p.reverse).reverse++r).toArray
 |0,p,x,r,h=>by
  have:p=[]:=List.length_eq_zero_iff.1 h;subst this;rfl
 |j+1,p,x,r,h=>by
  obtain⟨q,y,rfl⟩:∃q y,p=q++[y]:=⟨p.dropLast,p.getLast (by intro e;rw[e]at h;cases h),(List.dropLast_concat_getLast _).symm⟩
  have b:q.length=j:=by simpa using h
  have d:(q++[y]++x::r).toArray[j+1]! =x:=by simp[<-b]
  have f:(q++[y]++x::r).toArray[j]! =y:=by simp[<-b]
  unfold Go.Sort.insInner;rw[d,f];by_cases c:lt x y=true;rw[an (by simp[c])]
  have g:Go.Sort.swp (q++[y]++x::r).toArray (j+1) j=(q++x::(y::r)).toArray:=by
   unfold Go.Sort.swp;rw[d,f];apply Array.ext';simp[<-b]
  rw[g,aaN lt j q x (y::r) b,aqq,aqj,apF];simp[dv,c];rw[a_ (by simp[c]),aqq,aqj,apF];simp[dv,c]
theorem aa1(lt:α->α->Bool)(l:List α):∀(m i:Nat),i+m=l.length->Go.Sort.insOuter lt 0 l.length i (eW lt (l.take i)++l.drop i).toArray=(eW lt l).toArray
 |0,i,h=>by
  unfold Go.Sort.insOuter;rw[a_ (by omega),aps (by omega),apR (by omega),aqf]
 |m+1,i,h=>by
  have b:i<l.length:=by omega
  unfold Go.Sort.insOuter;rw[an b,ap5 b];have hlen:(eW lt (l.take i)).length=i:=by rw[(mi lt (l.take i)).length_eq,List.length_take];omega
  rw[aaN lt i _ _ _ hlen]
  have:(dv lt l[i] (eW lt (l.take i)).reverse).reverse=eW lt (l.take (i+1)):=by
   unfold eW;rw[List.reverse_reverse,apU b,List.foldl_append];rfl
  rw[this];exact aa1 lt l m (i+1) (by omega)
def ade(lt:α->α->Bool)(l:List α)(h:1<=l.length):Go.Sort.insertionSort lt l.toArray 0 l.toArray.size=(eW lt l).toArray:=by
 unfold Go.Sort.insertionSort;have:=aa1 lt l (l.length-1) 1 (by omega)
 have e:eW lt (l.take 1)++l.drop 1=l:=by
  cases l with
  |nil=>cases h
  |cons x l=>rfl
 rw[e]at this;simpa using this
theorem We{enc:α->List Value}{k:Nat}(b:∀x,(enc x).length=k)(d:0<k):∀(L:List α) (t:Nat),t<L.length*k->(L.flatMap enc)[t]?=some ((enc L[t/k]!)[t%k]!)
 | [],t,h=>by simp at h
 |x::L,t,h=>by
  rw[ap4];by_cases c:t<k;rw[ap6 (by rw[b];exact c),Nat.div_eq_of_lt c,Nat.mod_eq_of_lt c];have:t<(enc x).length:=by rw[b];exact c
  simp[this];rw[ap1 (by rw[b];omega),b,We b d L (t-k) (by simp only[apx,Nat.add_mul,apT]at h;omega)];have e:t/k=(t-k)/k+1:=by rw[Nat.div_eq_sub_div d (by omega)]
  have f:t%k=(t-k)%k:=by rw[Nat.mod_eq_sub_mod (by omega)]
  rw[e,f];rfl
def Zb{enc:α->List Value}{k:Nat}(c:∀x,(enc x).length=k)(f:0<k)(L:List α):(Go.Sort.flatK enc k L.toArray).toList=L.flatMap enc:=by
 have g:(L.flatMap enc).length=L.length*k:=by
  induction L with
  |nil=>simp
  |cons x L h=>rw[ap4,apB,h,c,apx,Nat.add_mul,apT,Nat.add_comm]
 apply aqy;intro t;by_cases b:t<L.length*k;rw[We c f L t b];have d:t<(Go.Sort.flatK enc k L.toArray).size:=by simpa using b
 have e:=Go.Sort.get_flatK enc k L.toArray t (by simpa using b);rw[getElem!_pos _ t d]at e;rw[api,apv d,e];simp;rw[apW (by simp;omega),apW (by rw[g];omega)]
end
theorem Yq{β:Type}{R:β->List Value->List Nat->Prop}:∀ {l:List β} {cs:List Value} {B:List Nat},cr R l cs B->
 ∃L:List (β×List Value×List Nat),(∀x∈L,R x.1 x.2.1 x.2.2)/\l=L.map (·.1)/\cs=L.flatMap (·.2.1)/\B=L.flatMap (·.2.2)
 | [],_,_,h=>⟨[],by simp,rfl,h.1,h.2⟩
 |x::l,cs,B,h=>by
  obtain⟨c,c2,d,B2,rfl,rfl,e,f⟩:=h;obtain⟨L,g,rfl,rfl,rfl⟩:=Yq f;exact⟨(x,c,d)::L,(fun y b=>by rcases apz.1 b with rfl|b;exact e;exact g y b),rfl,rfl,rfl⟩
theorem YR{β:Type}{R:β->List Value->List Nat->Prop}:∀(L:List (β×List Value×List Nat)),(∀x∈L,R x.1 x.2.1 x.2.2)->cr R (L.map (·.1)) (L.flatMap (·.2.1)) (L.flatMap (·.2.2))
 | [],_=>⟨rfl,rfl⟩
 |x::L,h=>⟨x.2.1,_,x.2.2,_,rfl,rfl,h x (by simp),YR L (fun y b=>h y (by simp[b]))⟩
theorem adf{w:World}:∀ {l:List (ByteArray×ByteArray)} {cs:List Value} {B:List Nat},cr (bP w (.pair .str .str)) l cs B->B=[]/\∀i,i<l.length->cs[i*2]?=some (.string (l.getD i (ByteArray.empty,ByteArray.empty)).1)/\cs[i*2+1]?=some (.string (l.getD i (ByteArray.empty,ByteArray.empty)).2)
 | [],_,_,h=>⟨h.2,fun i b=>by simp at b⟩
 |x::l,cs,B,h=>by
  obtain⟨c1,c2,B1,B2,rfl,rfl,⟨d1,d2,C1,C2,rfl,rfl,⟨rfl,rfl⟩,⟨rfl,rfl⟩⟩,d⟩:=h;obtain⟨e,q⟩:=adf d;refine⟨by rw[e];rfl,fun i b=> ?_⟩;cases i with
  |zero=>exact⟨rfl,rfl⟩
  |succ i=>
   obtain⟨q1,q2⟩:=q i (by simpa using b);have c:(i+1)*2=i*2+1+1:=by omega
   rw[c];simp only[apF,List.cons_append,aqg,List.getElem?_cons_succ,apZ];exact⟨q1,q2⟩
def WB{e:Ty}{F:du [.sl e]->Option (du [.sl e])}{w w':World}{k:Gh}{v:Value}{l H:List e.den}
 (j:Y6 w k (gU [.val (.sl e) .own] (l,()) 4).1 [v] 5) {B B':List Nat} (hB:me w e.sz (bP w e) l v B) (s:∀b f,B=b::f->k.col b=4/\b∉f/\(∀x∈f,k.col x=4)/\f.Nodup)
 (I:me w' e.sz (bP w' e) H v B') (X:∀b f,B'=b::f->∃o,B=b::o/\f.Perm o)
 (m:∀b,b<w.heap.size->(∀f,B≠b::f)->w'.heap[b]?=w.heap[b]?) (u:∀b f,B=b::f->∃c el,w'.heap[b]?=some (.cells c el (0,0)))
 (n:w.heap.size<=w'.heap.size) (J:w'.os=w.os) (r:w'.tape=w.tape) (y:w'.output=w.output):
 ∃G' K N,QB ⟨[.val (.sl e) .own],[.val (.sl e) .own],F,[]⟩ w k [v] (H,()) v w' G' K N:=by
 refine⟨⟨fun b=>if k.col b=4 then 5 else k.col b,fun t=>if t=5 then v else k.hdr t,fun _=>false⟩,[v],6,?_⟩
 exact {
  kept:=fun q R=>by cases R
  val:=rfl
  len:=rfl
  res:=fun i=>by
   cases i with
   |zero=>
    show gQ w' _ (.d ⟨.sl e,H,.sl (.row 5 [5] true)⟩) v;refine⟨[v],rfl,v,rfl,by omega,rfl,B',I,fun b f p=> ?_⟩;obtain⟨o,e0,g⟩:=X b f p;obtain⟨q1,q2,q3,q4⟩:=s b o e0;refine⟨by simp[q1],fun S=>q2 (g.mem_iff.1 S),fun x W=> ?_,fun _=>g.nodup_iff.2 q4⟩;have:=q3 x (g.mem_iff.1 W);simp[this]
   |succ i=>trivial
  ios:=fun t i x h=>by cases h
  frame:=fun b z hc=>by
   refine⟨by simp only;rw[a_ (by omega)],m b z (fun f p=> ?_)⟩;have:=(s b f p).1;omega
  one:=fun b h=>by
   simp only at h;split at h;omega;rename_i D;exact⟨(j.colU b (by omega)).2,by show k.col b=if k.col b=4 then 5 else k.col b;rw[a_ D]⟩
  size:=n
  os:=J
  tape:=r
  output:=y
  lt:=fun b h=>by
   simp only at h;refine aqs (j.colU b ?_).2 n;split at h<;>omega
  fresh:=fun b h=>by
   simp only at h;have Y:4<=k.col b:=by split at h<;>omega
   obtain⟨c,el,hc⟩:=j.fresh b Y;by_cases z:∃f,B=b::f;obtain⟨f,p⟩:=z;exact u b f p;rw[m b (j.colU b (by omega)).2 (fun f p=>z ⟨f,p⟩)];exact⟨c,el,hc⟩}
def VV{α:Type}(lt:α->α->Bool):∀ {l:List α},l.length<=1->eW lt l=l
 | [],_=>rfl
 | [x],_=>rfl
 |_::_::_,h=>by simp at h
theorem Xa{α:Type}{p:α->Prop}:∀(L:List α),(∀x∈L,p x)->∃b:List {x//p x},b.map apw=L
 | [],_=>⟨[],rfl⟩
 |x::L,h=>by
  obtain⟨b,e⟩:=Xa L (fun y c=>h y (by simp[c]));exact⟨⟨x,h x (by simp)⟩::b,by rw[apA,e]⟩
def acV{F c:Array Value}{off:Nat}(h:off+F.size<=c.size):((Go.Sort.putCells id off F c).toList.drop off).take F.size=F.toList:=by
 apply aqy;intro t;rw[apq];split;rename_i b;rw[apr,api];unfold Go.Sort.putCells;rw[Array.getElem?_mapIdx,apv (show off+t<c.size by omega)];rw[Option.map_some,an ⟨by omega,by omega⟩,api,apv b,show off+t-off=t by omega,getElem!_pos F t b];rfl;rw[apW];simp;omega
def ach(F c:Array Value)(off:Nat):(Go.Sort.putCells id off F c).size=c.size:=by simp[Go.Sort.putCells]
def ahq{w:World}{x:ph.den}{cs:List Value}{B:List Nat}(h:bP w ph x cs B):(∀v∈cs,v.oneCell'=true)/\
 ∃v b,cs[0]?=some v/\(∀y∈b,y∈B)/\me w 2 (bP w (.pair .str .str)) x.1 v b:=by
 obtain⟨c1,c2,b,B2,rfl,rfl,⟨v,rfl,d⟩,⟨d1,d2,C1,C2,rfl,rfl,⟨rfl,rfl⟩,⟨f1,f2,D1,D2,rfl,rfl,⟨rfl,rfl⟩,⟨rfl,rfl⟩⟩⟩⟩:=h;refine⟨fun u c=> ?_,v,b,rfl,fun y e=>List.mem_append_left _ e,d⟩;simp only[apF,apz,List.not_mem_nil,or_false]at c;rcases c with rfl|rfl|rfl|rfl;exact d.one;rfl;rfl;rfl
theorem Su{N:Nat}{P:Program}{f:FuncId}{fn:Func}(hf:P.funcs[f]?=some fn)(u0:(fn.name== "runtime.NumGoroutine")=false)(hb:fn.body.isSome=true)
 (a1:∀(p:Option Addr) (n c:Nat),n<=1->∀w:World,Calls P f #[.slice p n c] w fun e w'=>e= .returned (.slice p n c)/\∃q,w'=Go.Sort.grow w q)
 (G1:∀ {α:Type} [Inhabited α] (enc:α->List Value) (_:∀x,(enc x).length=4) (_:∀x,∀v∈enc x,v.oneCell'=true) (x0:α->List (ByteArray×ByteArray)) (I off c:Nat) (d:Array α) (w:World)
  (_:2<=d.size) (_:d.size<N) (_:Go.Sort.HoldsK enc 4 w I off d) (_:I<w.heap.size) (_:Go.Proofs.Ts enc x0 I w),
  Calls P f #[.slice (some ⟨I,off,none⟩) d.size c] w fun e w'=>
   e= .returned (.slice (some ⟨I,off,none⟩) d.size c)/\∃n q,w'=Go.Sort.grow (Go.Sort.putRowK enc 4 (Go.Sort.ahead w n) I off (Go.Sort.insertionSort (fun x y=>bp (x0 x) (x0 y)) d 0 d.size)) q):
 BH P f ⟨[.val (.sl ph) .own],[.val (.sl ph) .own],ID N,[]⟩:=by
 intro w G0 args x y hy g;have hlen:args.length=1:=g.len
 obtain⟨v,rfl⟩:∃v,args=[v]:=by
  match args,hlen with
  | [a],_=>exact⟨a,rfl⟩
 obtain⟨l,u⟩:=x
 suffices H:∀(l:List ph.den) (y:List ph.den×Unit),ID N (l,())=some y->Y6 w G0 (gU [.val (.sl ph) .own] (l,()) 4).1 [v] 5->
  NB P f [v].toArray w (fun mv w'=>∃G' vs nt,QB ⟨[.val (.sl ph) .own],[.val (.sl ph) .own],ID N,[]⟩ w G0 [v] y mv w' G' vs nt)from H l y hy g
 clear hy g u y hlen l;intro l y hy g;have s0:gQ w G0 (.d ⟨.sl ph,l,.sl (.row 4 [4] true)⟩) v:=g.slots 0;obtain⟨cs,e0,v',rfl,_,_,B,hB,l2⟩:=s0;have J1:v=v':=e0;subst J1;have hB:me w ph.sz (bP w ph) l v B:=hB
 have s:∀b o,B=b::o->G0.col b=4/\b∉o/\(∀x∈o,G0.col x=4)/\o.Nodup:=fun b o he=>by
  obtain⟨q1,q2,q3,q4⟩:=l2 b o he;exact⟨q1,q2,fun x hx=>by simpa using q3 x hx,q4 rfl⟩
 unfold ID at hy;split at hy;rotate_left
 ·cases hy
 rename_i hc;simp only[z_,b_,apH]at hc;obtain⟨KQ,n2⟩:=hc;have T1:=aqG hy;subst T1;refine T5 hf u0 hb ?_
 have j0:l.length<=1->∀q,∃G' vs nt,QB ⟨[.val (.sl ph) .own],[.val (.sl ph) .own],ID N,[]⟩ w G0 [v] (dC l,()) v (Go.Sort.grow w q) G' vs nt:=fun h1 q=>by
  have hs:∀b,b<w.heap.size->(Go.Sort.grow w q).heap[b]?=w.heap[b]?:=fun b h=>by
   show(w.heap++q)[b]?=_;rw[apj h]
  have e:dC l=l:=VV _ h1;rw[e];refine WB (e:=ph) g hB s (B':=B) (hB.mono (fun b hb=>hs b (me.bounds hB b hb))) (fun b o he=>⟨o,he,List.Perm.refl _⟩) (fun b h _=>hs b h) (fun b o he=> ?_) ?_ rfl rfl rfl
  ·obtain⟨c,el,hc⟩:=g.fresh b (by rw[(s b o he).1];exact gh _);exact⟨c,el,by rw[hs b (lt_of_block hc)];exact hc⟩
  ·show w.heap.size<=(w.heap++q).size;rw[apQ];omega
 by_cases h1:l.length<=1
 ·obtain⟨p,n,c,hv,hn⟩:∃p n c,v= .slice p n c/\n<=1:=by
   rcases hB with⟨⟨ao,e⟩,_,_⟩|⟨b,off,cap,c,el,fz,o,e,_⟩
   ·exact⟨ao,0,0,e,by omega⟩
   ·exact⟨_,_,_,e,h1⟩
  subst hv;refine(a1 p n c hn w).mono ?_;rintro e w' ⟨rfl,q,rfl⟩;exact⟨_,rfl,j0 h1 q⟩
 have j1:=hB;rcases hB with⟨_,e,_⟩|⟨b,off,cap,c,el,fz,o,rfl,x1,J,y1,rfl,hl⟩
 ·exact absurd (by rw[e];simp) h1
 obtain⟨q1,q2,q3,q4⟩:=s b o rfl
 have W1:fz=(0,0):=by
  obtain⟨c',el',L0⟩:=g.fresh b (by rw[q1];exact gh _);rw[J]at L0;simp only[apP,Obj.cells.injEq]at L0;exact L0.2.2
 subst W1;obtain⟨L,hL,R0,o2,z1⟩:=Yq hl;have hbnd:∀x∈o,x<w.heap.size:=fun x hx=>me.bounds j1 x (by simp[hx])
 have c2:∀x∈L,bP w ph x.1 x.2.1 x.2.2/\b∉x.2.2/\x.1.1.length<4611686018427387904:=fun x hx=>by
  refine⟨hL x hx,fun hm=>q2 (by rw[z1];exact List.mem_flatMap.2 ⟨x,hx,hm⟩),n2 x.1 ?_⟩;rw[R0];exact ap9.2 ⟨x,hx,rfl⟩
 obtain⟨K,n0⟩:=Xa L c2;have m:K.length=l.length:=by rw[R0,<-n0];simp
 haveI:Inhabited {x:ph.den×List Value×List Nat//bP w ph x.1 x.2.1 x.2.2/\b∉x.2.2/\x.1.1.length<4611686018427387904}:=⟨K.head (by intro e;rw[e]at m;simp at m;omega)⟩
 have E0:∀x:{x:ph.den×List Value×List Nat//bP w ph x.1 x.2.1 x.2.2/\b∉x.2.2/\x.1.1.length<4611686018427387904},x.val.2.1.length=4:=fun x=>bP.len x.property.1
 have S:∀M:List {x:ph.den×List Value×List Nat//bP w ph x.1 x.2.1 x.2.2/\b∉x.2.2/\x.1.1.length<4611686018427387904},(M.map apw).flatMap (fun x=>x.2.1)=M.flatMap (fun x=>x.val.2.1):=fun M=>by
  rw[List.flatMap_map]
 have k1:K.flatMap (fun x=>x.val.2.1)=(c.toList.drop off).take (l.length*4):=by
  rw[<-S,n0];exact o2.symm
 have hH:Go.Sort.HoldsK (fun x:{x:ph.den×List Value×List Nat//bP w ph x.1 x.2.1 x.2.2/\b∉x.2.2/\x.1.1.length<4611686018427387904}=>x.val.2.1) 4 w b off K.toArray:=by
  intro j hj;refine⟨?_,Nf J _⟩;rw[Go.Sort.size_flatK]at hj;have j2:j<K.length*4:=by simpa using hj
  rw[Go.Sort.get_flatK _ _ _ _ hj];have h2:=We (enc:=fun x:{x:ph.den×List Value×List Nat//bP w ph x.1 x.2.1 x.2.2/\b∉x.2.2/\x.1.1.length<4611686018427387904}=>x.val.2.1) E0 (by omega) K j j2;rw[k1,apq,an (by omega),apr,api]at h2;unfold World.cell?;simp only[J,apo,apl,if_false];rw[h2];simp
 have l1:Go.Proofs.Ts (fun x:{x:ph.den×List Value×List Nat//bP w ph x.1 x.2.1 x.2.2/\b∉x.2.2/\x.1.1.length<4611686018427387904}=>x.val.2.1) (fun x=>x.val.1.1) b w:=by
  rintro⟨⟨a,ac,aB⟩,ha,p2,A1⟩;obtain⟨_,v1,B1,C1,D1,E1⟩:=ahq ha;rcases E1 with⟨⟨ao,e1⟩,e2,_⟩|⟨b1,b0,p0,c1,el1,fz1,Bs1,e1,hcap1,h0,hsz1,e2,u2⟩
  ·have n1:a.1=[]:=e2;refine⟨ao,0,?_,A1,fun i hi=> ?_⟩
   ·show ac[0]?=some (.slice ao a.1.length 0);rw[C1,e1,n1];rfl
   ·change i<a.1.length at hi;rw[n1]at hi;simp at hi
  ·refine⟨some ⟨b1,b0,none⟩,p0,?_,A1,fun i hi=> ?_⟩
   ·show ac[0]?=some (.slice (some ⟨b1,b0,none⟩) a.1.length p0);rw[C1,e1]
   ·change i<a.1.length at hi;obtain⟨_,hq⟩:=adf u2;obtain⟨r1,r2⟩:=hq i hi;refine⟨b1,b0,rfl,fun e=>p2 (D1 b (by rw[e2,e];simp)),lt_of_block h0,?_,?_⟩
    ·unfold World.cell?;simp only[h0,apo,apl,if_false];rw[apq,an (by show i*2<a.1.length*2;omega),apr,api]at r1;exact r1
    ·unfold World.cell?;simp only[h0,apo,apl,if_false];rw[apq,an (by show i*2+1<a.1.length*2;omega),apr,api]at r2;exact r2
 have r:=G1 (fun x:{x:ph.den×List Value×List Nat//bP w ph x.1 x.2.1 x.2.2/\b∉x.2.2/\x.1.1.length<4611686018427387904}=>x.val.2.1) E0 (fun x=>(ahq x.property.1).1) (fun x=>x.val.1.1) b off cap K.toArray w
  (by simp;omega) (by simp;omega) hH (lt_of_block J) l1
 rw[ade _ K (by omega)]at r;have o1:K.toArray.size=l.length:=by simpa using m
 rw[o1]at r;refine r.mono ?_;rintro e w' ⟨rfl,n,q,hw⟩;refine⟨_,rfl,?_⟩;have p1:b<w.heap.size:=lt_of_block J;generalize u1:eW (fun x y:{x:ph.den×List Value×List Nat//bP w ph x.1 x.2.1 x.2.2/\b∉x.2.2/\x.1.1.length<4611686018427387904}=>bp x.val.1.1 y.val.1.1) K=LS at hw;have W:LS.Perm K:=by rw[<-u1];exact mi _ _
 have X:∀k,k<w.heap.size->k≠b->w'.heap[k]?=w.heap[k]?:=fun k hk r0=>by
  rw[hw];show((w.heap.modify b _)++q)[k]?=_;rw[apj (by rw[apu];exact hk),apG,a_ (fun h=>r0 h.symm)]
 have o0:w'.heap[b]?=some (.cells (Go.Sort.putCells id off (Go.Sort.flatK (fun x:{x:ph.den×List Value×List Nat//bP w ph x.1 x.2.1 x.2.2/\b∉x.2.2/\x.1.1.length<4611686018427387904}=>x.val.2.1) 4 LS.toArray) c) el (0,0)):=by
  rw[hw];show((w.heap.modify b _)++q)[b]?=_;rw[apj (by rw[apu];exact p1),apG,an rfl,J];rfl
 have t:LS.length=l.length:=by rw[W.length_eq,m]
 have w1:(Go.Sort.flatK (fun x:{x:ph.den×List Value×List Nat//bP w ph x.1 x.2.1 x.2.2/\b∉x.2.2/\x.1.1.length<4611686018427387904}=>x.val.2.1) 4 LS.toArray).size=l.length*4:=by
  rw[Go.Sort.size_flatK];simp[t]
 have hsz4:off+cap*4<=c.size:=y1
 have D:dC l=(LS.map apw).map (·.1):=by
  rw[R0,<-n0,<-u1,aqa,aqa];unfold dC;exact(Yj (lt:=fun x y:{x:ph.den×List Value×List Nat//bP w ph x.1 x.2.1 x.2.2/\b∉x.2.2/\x.1.1.length<4611686018427387904}=>bp x.val.1.1 y.val.1.1) (lt':=cV) ((·.1)∘apw) (fun _ _=>rfl) K).symm
 have k0:((LS.map apw).flatMap (·.2.2)).Perm o:=by
  rw[z1,<-n0];exact List.Perm.flatMap_right _ (W.map _)
 have k2:me w' ph.sz (bP w' ph) (dC l) (.slice (some ⟨b,off,none⟩) l.length cap) (b::(LS.map apw).flatMap (·.2.2)):=by
  have Y:(dC l).length=l.length:=by rw[D];simp[t]
  refine .inr ⟨b,off,cap,_,el,(0,0),_,by rw[Y],by rw[Y];exact x1,o0,by rw[ach];exact y1,rfl,?_⟩
  have:=YR (R:=bP w' ph) (LS.map apw) (fun x hx=>by
   obtain⟨z,hz,rfl⟩:=ap9.1 hx;refine bP.mono (fun k hk=> ?_) z.property.1;refine X k (bP.bounds z.property.1 k hk) (fun e=>z.property.2.1 (e▸hk)))
  rw[Y,D]
  have e2:((Go.Sort.putCells id off (Go.Sort.flatK (fun x:{x:ph.den×List Value×List Nat//bP w ph x.1 x.2.1 x.2.2/\b∉x.2.2/\x.1.1.length<4611686018427387904}=>x.val.2.1) 4 LS.toArray) c).toList.drop off).take (l.length*ph.sz)=(LS.map apw).flatMap (fun x=>x.2.1):=by
   have hp:=acV (F:=Go.Sort.flatK (fun x:{x:ph.den×List Value×List Nat//bP w ph x.1 x.2.1 x.2.2/\b∉x.2.2/\x.1.1.length<4611686018427387904}=>x.val.2.1) 4 LS.toArray) (c:=c) (off:=off) (by rw[w1];omega);rw[w1]at hp;rw[S,<-Zb E0 (by omega) LS];exact hp
  rw[e2];exact this
 refine WB (e:=ph) g j1 s k2 (fun b2 F1 he=> ?_) (fun k hk r0=>X k hk (fun e=>r0 o (by rw[e]))) (fun b2 F1 he=> ?_) ?_ ?_ ?_ ?_
 ·obtain⟨rfl,rfl⟩:=ap2 he;exact⟨o,rfl,k0⟩
 ·obtain⟨rfl,rfl⟩:=ap2 he;exact⟨_,_,o0⟩
 ·rw[hw];show w.heap.size<=((w.heap.modify b _)++q).size;rw[apQ,apu];omega
 ·rw[hw];rfl
 ·rw[hw];rfl
 ·rw[hw];rfl
def akf{w:World}{x:jY.den}{cs:List Value}{B:List Nat}(h:bP w jY x cs B):cs[13]?=some (.int .i64 (ql x)):=by
 obtain⟨_,c1,_,_,rfl,rfl,⟨rfl,rfl⟩,h⟩:=h;obtain⟨_,c2,_,_,rfl,rfl,⟨rfl,rfl⟩,h⟩:=h;obtain⟨e,c3,_,_,rfl,rfl,g,h⟩:=h;obtain⟨cl,c4,_,_,rfl,rfl,⟨vl,rfl,_⟩,h⟩:=h;obtain⟨_,c5,_,_,rfl,rfl,⟨rfl,rfl⟩,h⟩:=h;obtain⟨_,c6,_,_,rfl,rfl,⟨rfl,rfl⟩,h⟩:=h;obtain⟨_,c7,_,_,rfl,rfl,⟨rfl,rfl⟩,h⟩:=h;obtain⟨cg,c8,_,_,rfl,rfl,⟨vg,rfl,_⟩,h⟩:=h;obtain⟨_,c9,_,_,rfl,rfl,⟨rfl,rfl⟩,h⟩:=h;obtain⟨_,c10,_,_,rfl,rfl,⟨rfl,rfl⟩,h⟩:=h;obtain⟨_,c11,_,_,rfl,rfl,⟨rfl,rfl⟩,⟨rfl,rfl⟩⟩:=h;have f:e.length=4:=bP.len g
 obtain⟨q1,q2,q3,q4,rfl⟩:∃q1 q2 q3 q4,e=[q1,q2,q3,q4]:=by
  match e,f with
  | [a,b,c,d],_=>exact⟨a,b,c,d,rfl⟩
 rfl
theorem acb{w:World}:∀ {l:List jY.den} {cs:List Value} {B:List Nat},cr (bP w jY) l cs B->∀i,i<l.length->cs[i*15+13]?=some (.int .i64 (ql (l.getD i jY.aa)))
 | [],_,_,h,i,hi=>by simp at hi
 |x::l,cs,B,h,i,hi=>by
  obtain⟨d,c2,B1,B2,rfl,rfl,b,e⟩:=h;have c:d.length=15:=bP.len b;cases i with
  |zero=>
   rw[ap6 (by omega)];simpa using akf b
  |succ i=>
   rw[ap1 (by omega),c,show(i+1)*15+13-15=i*15+13 by omega];exact acb e i (by simpa using hi)
theorem XX{w:World}:∀ {l:List Int} {cs:List Value} {B:List Nat},cr (bP w (.int .i64)) l cs B->B=[]/\cs=l.map (Value.int .i64)
 | [],_,_,h=>⟨h.2,h.1⟩
 |x::l,_,_,h=>by
  obtain⟨c1,c2,B1,B2,rfl,rfl,⟨rfl,rfl⟩,b⟩:=h;obtain⟨rfl,rfl⟩:=XX b;exact⟨rfl,rfl⟩
theorem ac0{w:World}:∀(l:List Int),cr (bP w (.int .i64)) l (l.map (Value.int .i64)) []
 | []=>⟨rfl,rfl⟩
 |x::l=>⟨[.int .i64 x],l.map (Value.int .i64),[],[],rfl,rfl,⟨rfl,rfl⟩,ac0 l⟩
theorem aaQ{P:Program}{fs less:FuncId}{tA:TypeId}
 (b0:∀(p:Option Addr) (n c:Nat),n<=1->∀(lb:Array Value) (w:World),Calls P fs #[.iface tA (.slice p n c),.func (.func less) #[] lb] w fun e w'=>e= .returned (.tuple #[])/\∃r,w'=Go.Sort.grow w r)
 (b1:∀ {nl:Nat} [Inhabited {x:Nat//x<nl}] (K:Nat->Int) (f off c Bl Bo N ol cl:Nat) (d:Array {x:Nat//x<nl}) (w:World) (_:2<=d.size) (_:d.size<1152921504606846976) (_:nl<4611686018427387904)
  (_:Go.Sort.HoldsK (fun x:{x:Nat//x<nl}=>[Value.int .i64 x.val]) 1 w f off d) (_:f<w.heap.size)
  (_:w.cell? ⟨Bl,0,none⟩=some (.slice (some ⟨N,ol,none⟩) nl cl)) (_:w.cell? ⟨Bo,0,none⟩=some (.slice (some ⟨f,off,none⟩) d.size c))
  (_:∀x,x<nl->w.cell? ⟨N,ol+x*15+13,none⟩=some (.int .i64 (K x))) (_:Bl≠f) (_:Bo≠f) (_:N≠f) (_:Bl<w.heap.size) (_:Bo<w.heap.size) (_:N<w.heap.size),
  Calls P fs #[.iface tA (.slice (some ⟨f,off,none⟩) d.size c),.func (.func less) #[] #[.pointer (some ⟨Bl,0,none⟩),.pointer (some ⟨Bo,0,none⟩)]] w fun e w'=>
   e= .returned (.tuple #[])/\∃n r,w'=Go.Sort.grow (Go.Sort.putRowK (fun x:{x:Nat//x<nl}=>[Value.int .i64 x.val]) 1 (Go.Sort.ahead w n) f off (Go.Sort.insertionSort (fun x y=>decide (K x.val<K y.val)) d 0 d.size)) r)
 {w:World} {out:List Int} {l:List jY.den} {v vl:Value} {B BL:List Nat} {Bl Bo:Nat} (hB:me w 1 (bP w (.int .i64)) out v B) (c1:me w 15 (bP w jY) l vl BL)
 {cL cO:Array Value} {eL eO:TypeId} (e0:w.heap[Bl]?=some (.cells cL eL (0,0))) (h0:cL.toList=[vl]) (j0:w.heap[Bo]?=some (.cells cO eO (0,0))) (k0:cO.toList=[v])
 (n0:∀b∈B,VD w b) (n1:Bl∉B) (n2:Bo∉B) (n3:∀b∈BL,b∉B) (hlen:out.length<1152921504606846976) (e1:l.length<4611686018427387904) (hr:∀x∈out,0<=x/\x<(l.length:Int)):
 Calls P fs #[.iface tA v,.func (.func less) #[] #[.pointer (some ⟨Bl,0,none⟩),.pointer (some ⟨Bo,0,none⟩)]] w fun e w'=>
  e= .returned (.tuple #[])/\∃B',Ut w w' (.sl (.int .i64)) (eW (GI l) out) [v] B B':=by
 have j1:B.Nodup:=by
  rcases hB with⟨_,_,rfl⟩|⟨b,off,cap,c,el,fz,Bs,_,_,_,_,rfl,hl⟩;simp;have:=(XX hl).1;rw[this];simp
 by_cases h1:out.length<=1
 obtain⟨p,n,c,hv,hn⟩:∃p n c,v= .slice p n c/\n<=1:=by
  rcases hB with⟨⟨ao,e⟩,_,_⟩|⟨b,off,cap,c,el,fz,Bs,e,_⟩;exact⟨ao,0,0,e,by omega⟩;exact⟨_,_,_,e,h1⟩
 rw[hv];refine(b0 p n c hn _ w).mono ?_;rintro e w' ⟨rfl,r,rfl⟩
 have hs:∀b,b<w.heap.size->(Go.Sort.grow w r).heap[b]?=w.heap[b]?:=fun b h=>by
  show(w.heap++r)[b]?=_;rw[apj h]
 refine⟨rfl,B,?_,j1,fun b J=> .inl J,fun b J=> ?_,fun b J _=>hs b J,?_,rfl,rfl,rfl⟩;rw[VV _ h1];exact⟨_,rfl,hv▸me.mono (e:= .int .i64) (fun b J=>hs b (me.bounds (e:= .int .i64) hB b J)) hB⟩;obtain⟨c',E0,m⟩:=n0 b J;exact⟨c',E0,by rw[hs b (lt_of_block m)];exact m⟩;show w.heap.size<=(w.heap++r).size;rw[apQ];omega;have hB0:=hB;rcases hB with⟨_,e,_⟩|⟨b,off,cap,c,el,fz,Bs,rfl,G0,t,L0,rfl,hl⟩;exact absurd (by rw[e];simp) h1;obtain⟨rfl,o1⟩:=XX hl
 have k1:fz=(0,0):=by
  obtain⟨c',E0,m⟩:=n0 b (by simp);rw[t]at m;simp only[apP,Obj.cells.injEq]at m;exact m.2.2
 subst k1
 have g:0<l.length:=by
  cases out with
  |nil=>simp at h1
  |cons x o=>have:=hr x (by simp);omega
 rcases c1 with⟨_,e,_⟩|⟨N,ol,R0,cL2,elL,fzL,BsL,rfl,hcapL,I,hszL,rfl,hL⟩;rw[e]at g;simp at g
 obtain⟨D,hD⟩:∃D:List {x:Nat//x<l.length},D.map (fun x=>(x.val:Int))=out:=by
  obtain⟨LA,p1⟩:=Xa (p:=fun x:Nat=>x<l.length) (out.map apM) (fun x q=>by
   obtain⟨y,hy,rfl⟩:=ap9.1 q;have:=hr y hy;omega)
  refine⟨LA,?_⟩;have:LA.map (fun x=>(x.val:Int))=(LA.map apw).map (fun n:Nat=>(n:Int)):=by rw[aqa];rfl
  rw[this,p1,aqa]
  conv=>rhs;rw[<-List.map_id out]
  refine aqr (fun x q=> ?_);have:=hr x q;show((x.toNat:Nat):Int)=x;omega
 have R:D.length=out.length:=by rw[<-hD];simp
 haveI:Inhabited {x:Nat//x<l.length}:=⟨⟨0,g⟩⟩
 have o0:∀x:{x:Nat//x<l.length},([Value.int .i64 (x.val:Int)]).length=1:=fun _=>rfl
 have s:∀M:List {x:Nat//x<l.length},M.flatMap (fun x=>[Value.int .i64 (x.val:Int)])=(M.map (fun x=>(x.val:Int))).map (Value.int .i64):=fun M=>by
  induction M with
  |nil=>rfl
  |cons x M ih=>rw[ap4,ih];rfl
 have p0:D.flatMap (fun x=>[Value.int .i64 (x.val:Int)])=(c.toList.drop off).take (out.length*1):=by rw[s,hD];exact o1.symm
 have z:b<w.heap.size:=lt_of_block t;have hsz4:off+cap*1<=c.size:=L0
 have hH:Go.Sort.HoldsK (fun x:{x:Nat//x<l.length}=>[Value.int .i64 (x.val:Int)]) 1 w b off D.toArray:=by
  intro j hj;refine⟨?_,Nf t _⟩;rw[Go.Sort.size_flatK]at hj;have l1:j<D.length*1:=by simpa using hj
  rw[Go.Sort.get_flatK _ _ _ _ hj];have h2:=We (enc:=fun x:{x:Nat//x<l.length}=>[Value.int .i64 (x.val:Int)]) o0 (by omega) D j l1;rw[p0,apq,an (by omega),apr,api]at h2;unfold World.cell?;simp only[t,apo,apl,if_false];rw[h2];simp
 have cellAt:∀ {bk:Nat} {cc:Array Value} {ee:TypeId} {u:Value},w.heap[bk]?=some (.cells cc ee (0,0))->cc.toList=[u]->w.cell? ⟨bk,0,none⟩=some u:=by
  intro bk cc ee u hh hu;unfold World.cell?;simp only[hh,apo,apl,if_false];rw[<-api,hu];rfl
 have i:=b1 (nl:=l.length) (fun x=>ql (l.getD x jY.aa)) b off cap Bl Bo N ol R0 D.toArray w (by simp;omega) (by simp;omega) e1 hH z (cellAt e0 h0) (by rw[cellAt j0 k0];simp[R])
  (fun x q=>by
   have h3:=acb hL x q;rw[apq,an (by omega),apr,api]at h3;unfold World.cell?;simp only[I,apo,apl,if_false];rw[<-Nat.add_assoc]at h3;exact h3) (fun e=>n1 (by simp[e])) (fun e=>n2 (by simp[e])) (fun e=>n3 N (by simp) (by simp[e])) (lt_of_block e0) (lt_of_block j0) (lt_of_block I)
 rw[ade _ D (by omega)]at i;have r0:D.toArray.size=out.length:=by simpa using R
 rw[r0]at i;refine i.mono ?_;rintro e w' ⟨rfl,n,r,hw⟩;generalize s0:eW (fun x y:{x:Nat//x<l.length}=>decide (ql (l.getD x.val jY.aa)<ql (l.getD y.val jY.aa))) D=DS at hw;have S:DS.Perm D:=by rw[<-s0];exact mi _ _
 have W:∀k,k<w.heap.size->k≠b->w'.heap[k]?=w.heap[k]?:=fun k hk a1=>by
  rw[hw];show((w.heap.modify b _)++r)[k]?=_;rw[apj (by rw[apu];exact hk),apG,a_ (fun h=>a1 h.symm)]
 have H:w'.heap[b]?=some (.cells (Go.Sort.putCells id off (Go.Sort.flatK (fun x:{x:Nat//x<l.length}=>[Value.int .i64 (x.val:Int)]) 1 DS.toArray) c) el (0,0)):=by
  rw[hw];show((w.heap.modify b _)++r)[b]?=_;rw[apj (by rw[apu];exact z),apG,an rfl,t];rfl
 have u0:DS.length=out.length:=by rw[S.length_eq,R]
 have x0:(Go.Sort.flatK (fun x:{x:Nat//x<l.length}=>[Value.int .i64 (x.val:Int)]) 1 DS.toArray).size=out.length*1:=by
  rw[Go.Sort.size_flatK];simp[u0]
 have X:eW (GI l) out=DS.map (fun x=>(x.val:Int)):=by
  rw[<-hD,<-s0];exact(Yj (lt:=fun x y:{x:Nat//x<l.length}=>decide (ql (l.getD x.val jY.aa)<ql (l.getD y.val jY.aa))) (lt':=GI l) (fun x=>(x.val:Int)) (fun x y=>by simp[GI]) D).symm
 have Y:(eW (GI l) out).length=out.length:=(mi _ _).length_eq;refine⟨rfl,[b],⟨_,rfl,.inr ⟨b,off,cap,_,el,(0,0),[],by rw[Y],by rw[Y];exact G0,H,by rw[ach];exact L0,rfl,?_⟩⟩,by simp,fun x q=> .inl q,fun x q=> ?_,fun x q hn=>W x q (fun e=>hn (by simp[e])),?_,?_,?_,?_⟩;have hp:=acV (F:=Go.Sort.flatK (fun x:{x:Nat//x<l.length}=>[Value.int .i64 (x.val:Int)]) 1 DS.toArray) (c:=c) (off:=off) (by rw[x0];omega);rw[x0,Zb o0 (by omega) DS,s,<-X]at hp;rw[Y];show cr (bP w' (.int .i64)) _ (((Go.Sort.putCells id off _ c).toList.drop off).take (out.length*1)) [];rw[hp];exact ac0 _;simp only[apk]at q;subst q;exact⟨_,_,H⟩;rw[hw];show w.heap.size<=((w.heap.modify b _)++r).size;rw[apQ,apu];omega;rw[hw];rfl;rw[hw];rfl;rw[hw];rfl
section
variable{P:Program}{C:Cx}{M:NU}{w0:World}{c0:C0}{U:Nat->Prop}{E:Env}{a:Act}{w w':World}{G:Gh}{Q:Exit->Act->World->Prop}
def ahh(m:Inv w0 c0 U E a w G){τ:Ty}{x y:τ.den}{sh:Sh}{cs:List Value}{ts:List Nat}(k:dJ w G τ x sh cs)(n:∀c∈sh.bc,Good U G c)(l:IE sh=some ts){B B':List Nat}(hc:∀b∈B,G.col b∈ts)(d:Ut w w' τ y cs B B'):
 ∃G',Inv w0 c0 U (E.mark (rowsOf τ y sh)) a w' G':=by
 have e:=T4 k l;have h3:=Sh.AT k e;obtain⟨j,o,f,r,s⟩:=Wa k l d.rep d.nd
 obtain⟨G',q,_⟩:=m.abM (L:=rowsOf τ y sh) (B:=B) (B2:=B') (w':=w') (fun p d=>by
  have i:p.t∈ts:=by rw[<-j];exact List.mem_map_of_mem d
  exact⟨o _ i,n _ (Sh.xn e _ i)⟩) f (fun b g=>by rw[j];exact hc b g)
  (fun b g=>⟨(d.inn b g).imp (fun h=>by rw[j];exact hc b h) id,by rw[j];exact r b g,d.fresh b g⟩) d.frame d.size d.os d.tape d.output s
 exact⟨G',q⟩
def acX{o:Oper}{v:Value}{K:Act->World->Prop}(h:(execOp a.eval o).run P w= .ok (.value v) w)(b:K (a.put o.dst v) w):o.wp P a w K Q:=by
 unfold Oper.wp;rw[h];exact b
def abD(P:Program)(g less:FuncId)(h:TypeId):Prop:=
 ∀ {w:World} {out:List Int} {l:List jY.den} {v c:Value} {B BL:List Nat} {Bl Bo:Nat} (_:me w 1 (bP w (.int .i64)) out v B) (_:me w 15 (bP w jY) l c BL)
   {d f:Array Value} {i j:TypeId} (_:w.heap[Bl]?=some (.cells d i (0,0))) (_:d.toList=[c]) (_:w.heap[Bo]?=some (.cells f j (0,0))) (_:f.toList=[v])
   (_:∀b∈B,VD w b) (_:Bl∉B) (_:Bo∉B) (_:∀b∈BL,b∉B) (_:out.length<1152921504606846976) (_:l.length<4611686018427387904) (_:∀x∈out,0<=x/\x<(l.length:Int)),
   Calls P g #[.iface h v,.func (.func less) #[] #[.pointer (some ⟨Bl,0,none⟩),.pointer (some ⟨Bo,0,none⟩)]] w fun e w'=>
    e= .returned (.tuple #[])/\∃B',Ut w w' (.sl (.int .i64)) (eW (GI l) out) [v] B B'
def Pu:KO:=⟨[(1,.box 4 (.sl jY) (.sl (.sha [1]))),(3,.box 5 (.sl (.int .i64)) (.sl (.row 6 [] true)))],7⟩
def ads(N d0 d1 d2 d3:Nat)(t:List jY.den×List Int×Unit)(s:List Int):Env:=
 (((((nc N Pu t).set (some d0) .no).set (some d1) .no).set (some d2) .no).mark [⟨6,.int .i64,s⟩]).set (some d3) .no
theorem afU(hm:P.funcs.size=P.funcs.size){fs less:FuncId}{f:TypeId}{d:Func}(n0:tQ P f (.sl (.int .i64))){elA:TypeId}(hu:P.underlying f=some (.slice elA))(hS:abD P fs less f)
 (p0:P.funcs[fs]?=some d) (r0:(d.name== "runtime.NumGoroutine")=false) (s0:d.body.isSome=true)
 {N d0 d1 d2 d3 id:Nat} {o0 o1 o2 o3:Oper} {c:Call} {t:List jY.den×List Int×Unit}
 (g0:o0.guard=none/\o0.op= .load f (.tmp 3)/\o0.dst=some d0) (g1:o1.guard=none/\o1.op= .makeInterface f (.tmp d0)/\o1.dst=some d1)
 (g2:o2.guard=none/\o2.op= .makeFunc (.func less) #[] #[.tmp 1,.tmp 3]/\o2.dst=some d2) (I:o3.guard=none/\o3.op= .call c/\c.callee= .value (.func fs)/\c.args= #[.tmp d1,.tmp d2]/\o3.dst=some d3)
 (j:d0≠1/\d0≠3/\d1≠1/\d1≠3/\d1≠d0/\d2≠d1/\d0<N/\d1<N/\d2<N) (h3:3<N)
 (H:Inv w0 c0 (fun u=>u<7) (nc N Pu t) a w G) (hlen:t.2.1.length<1152921504606846976) (u0:t.1.length<4611686018427387904) (hr:∀x∈t.2.1,0<=x/\x<(t.1.length:Int))
 (hK:∀a' w' G',Inv w0 c0 (fun u=>u<7) (ads N d0 d1 d2 d3 t (eW (GI t.1) t.2.1)) a' w' G'->Q .normal a' w'):(Code.region id #[o0,o1,o2,o3] false).wp P Q a w:=by
 obtain⟨l,out,u⟩:=t;have k:(nc N Pu (l,out,u)).s=((apE N SV.no).set 1 (.box 4 ⟨.sl jY,l,.sl (.sha [1])⟩)).set 3 (.box 5 ⟨.sl (.int .i64),out,.sl (.row 6 [] true)⟩):=rfl;have m:(nc N Pu (l,out,u)).s.length=N:=by rw[k];simp
 have s1:(nc N Pu (l,out,u)).s.getD 1 .no= .box 4 ⟨.sl jY,l,.sl (.sha [1])⟩:=by rw[k,mY,a_ (by omega),mY,an ⟨rfl,by simp;omega⟩]
 have s3:(nc N Pu (l,out,u)).s.getD 3 .no= .box 5 ⟨.sl (.int .i64),out,.sl (.row 6 [] true)⟩:=by rw[k,mY,an ⟨rfl,by simp;omega⟩]
 have k1:gQ w G (.box 4 ⟨.sl jY,l,.sl (.sha [1])⟩) (a.tmps.getD 1 undef):=(congrArg (fun z=>gQ w G z (a.tmps.getD 1 undef)) s1).mp (H.slots 1);have k3:gQ w G (.box 5 ⟨.sl (.int .i64),out,.sl (.row 6 [] true)⟩) (a.tmps.getD 3 undef):=(congrArg (fun z=>gQ w G z (a.tmps.getD 3 undef)) s3).mp (H.slots 3);obtain⟨Bl,cL,eL,p1,p2,p3,p4,p5,vl,p6,⟨BL,p7,p8⟩,_⟩:=k1;obtain⟨Bo,cO,eO,q1,q2,q3,q4,q5,v,q6,q7,q8,B,q9,k0⟩:=k3
 have g:∀b∈B,G.col b=6:=by
  intro b i;cases B with
  |nil=>cases i
  |cons b0 Bs=>
   obtain⟨r1,r2,r3,r4⟩:=k0 b0 Bs rfl;rcases apz.1 i with rfl|i;exact r1;exact absurd (r3 b i) (by simp)
 have x0:Bo∉B:=fun h=>by have:=g _ h;omega
 have E0:Bl∉B:=fun h=>by have:=g _ h;omega
 have G0:∀b∈BL,b∉B:=fun b h1 h2=>by
  have e1:=p8 b h1;have e2:=g b h2;simp only[apk]at e1;omega
 have J:a.tmps.size=N:=H.len.trans m;refine wp_region ?_;show wpOps P #[o0,o1,o2,o3] Q [0,1,2,3] a w;rw[wpOps_cons];refine kZ (ops:=[o0,o1,o2,o3]) (o:=o0) rfl (by simp[Region.wanted,g0.1]) (acX (v:=v) ?_ ?_);simp only[execOp,g0.2.1];refine nV ?_;have K:a.eval (.tmp 3)= .pointer (some ⟨Bo,0,none⟩):=q1;simp only[Instr.loadAt,K,Instr.sureAddr]
 have L0:0+(Ty.sl (.int .i64)).sz<=cO.size:=by
  have:=congrArg t_ q6;simp only[apJ,List.length_singleton]at this;rw[this];decide
 have:=Fq (P:=P) n0 q5 (o:=0) L0;rw[List.drop_zero,q6]at this;simpa[show kE (Ty.sl (.int .i64)) (List.take (Ty.sl (Ty.int .i64)).sz [v])=v from rfl]using this;rw[g0.2.2];have n:=H.Hz (some d0) v;generalize hE1:(nc N Pu (l,out,u)).set (some d0) .no=E1 at n;generalize p:a.put (some d0) v=a1 at n|-;have S:∀s,s≠d0->a1.tmps.getD s undef=a.tmps.getD s undef:=fun s hs=>by rw[<-p];exact Qo _ _ _ (fun e=>hs (by cases e;rfl))
 have W:a1.tmps.getD d0 undef=v:=by rw[<-p];exact Q7 d0 v (by rw[J];exact j.2.2.2.2.2.2.1)
 have X:a1.tmps.size=N:=by rw[<-p];simp[Act.put,J]
 rw[wpOps_cons];refine kZ (ops:=[o0,o1,o2,o3]) (o:=o1) rfl (by simp[Region.wanted,g1.1]) (acX (v:= .iface f v) ?_ ?_);simp only[execOp,g1.2.1];refine nV ?_;have K:a1.eval (.tmp d0)=v:=W;simp only[Instr.makeInterface,K];have R0:=run_underlying (w:=w) hu;simp[R0,Result.andThen];rw[g1.2.2];have q:=n.Hz (some d1) (.iface f v);generalize hE2:E1.set (some d1) .no=E2 at q;generalize r:a1.put (some d1) (.iface f v)=a2 at q|-;have Y:∀s,s≠d1->a2.tmps.getD s undef=a1.tmps.getD s undef:=fun s hs=>by rw[<-r];exact Qo _ _ _ (fun e=>hs (by cases e;rfl))
 have e0:a2.tmps.getD d1 undef= .iface f v:=by rw[<-r];exact Q7 d1 _ (by rw[X];exact j.2.2.2.2.2.2.2.1)
 have b1:a2.tmps.size=N:=by rw[<-r];simp[Act.put,X]
 rw[wpOps_cons];have e1:a2.tmps.getD 1 undef= .pointer (some ⟨Bl,0,none⟩):=by rw[Y 1 (Ne.symm j.2.2.1),S 1 (Ne.symm j.1)];exact p1
 have e3:a2.tmps.getD 3 undef= .pointer (some ⟨Bo,0,none⟩):=by rw[Y 3 (Ne.symm j.2.2.2.1),S 3 (Ne.symm j.2.1)];exact q1
 refine kZ (ops:=[o0,o1,o2,o3]) (o:=o2) rfl (by simp[Region.wanted,g2.1]) (acX (v:= .func (.func less) #[] #[.pointer (some ⟨Bl,0,none⟩),.pointer (some ⟨Bo,0,none⟩)]) ?_ ?_);simp only[execOp,g2.2.1];refine nV ?_;have c1:a2.eval (.tmp 1)= .pointer (some ⟨Bl,0,none⟩):=e1;have j1:a2.eval (.tmp 3)= .pointer (some ⟨Bo,0,none⟩):=e3;simp[Instr.makeFunc,c1,j1];rw[g2.2.2];have D:=q.Hz (some d2) (.func (.func less) #[] #[.pointer (some ⟨Bl,0,none⟩),.pointer (some ⟨Bo,0,none⟩)]);generalize hE3:E2.set (some d2) .no=E3 at D;generalize h0:a2.put (some d2) (.func (.func less) #[] #[.pointer (some ⟨Bl,0,none⟩),.pointer (some ⟨Bo,0,none⟩)])=a3 at D|-;have l1:a3.tmps.getD d1 undef= .iface f v:=by rw[<-h0,Qo _ _ _ (fun e=>j.2.2.2.2.2.1 (by cases e;rfl))];exact e0
 have j0:a3.tmps.getD d2 undef= .func (.func less) #[] #[.pointer (some ⟨Bl,0,none⟩),.pointer (some ⟨Bo,0,none⟩)]:=by rw[<-h0];exact Q7 d2 _ (by rw[b1];exact j.2.2.2.2.2.2.2.2)
 rw[wpOps_cons];have n1:me w 1 (bP w (.int .i64)) out v B:=q9;have F:=hS (w:=w) (B:=B) (BL:=BL) (Bl:=Bl) (Bo:=Bo) n1 p7 p5 p6 q5 q6 (fun b i=>H.fresh b (by rw[g b i];omega)) E0 x0 G0 hlen u0 hr;refine kZ (ops:=[o0,o1,o2,o3]) (o:=o3) rfl (by simp[Region.wanted,I.1]) (Uy (R:=fun mv w'=>mv= .tuple #[]/\∃B',Ut w w' (.sl (.int .i64)) (eW (GI l) out) [v] B B') I.2.1 I.2.2.1 ?_ ?_);rw[I.2.2.2.1]
 have K:(#[Operand.tmp d1,.tmp d2].map a3.eval)= #[.iface f v,.func (.func less) #[] #[.pointer (some ⟨Bl,0,none⟩),.pointer (some ⟨Bo,0,none⟩)]]:=by
  have f1:a3.eval (.tmp d1)= .iface f v:=l1;have f2:a3.eval (.tmp d2)= .func (.func less) #[] #[.pointer (some ⟨Bl,0,none⟩),.pointer (some ⟨Bo,0,none⟩)]:=j0;simp[f1,f2]
 rw[K];exact T5 p0 r0 s0 (F.mono fun e w' ⟨h1,h2⟩=>⟨_,h1,rfl,h2⟩);rintro mv w' ⟨rfl,B',hp⟩
 obtain⟨G',x1⟩:=ahh (τ:= .sl (.int .i64)) (x:=out) (y:=eW (GI l) out) (sh:= .sl (.row 6 [] true)) (cs:=[v]) (ts:=[6]) D ⟨v,rfl,q7,q8,B,q9,k0⟩ (fun c hc=>by
  have u1:c=6:=by simpa[Sh.bc,M.bc]using hc
  subst u1;exact H.sc 3 6 ((congrArg (fun z:SV=>6∈z.sc) s3).mpr (by simp[SV.sc,Sh.bc,M.bc]))) rfl (fun b i=>by simp[g b i]) hp
 rw[I.2.2.2.2];have w1:=x1.Hz (some d3) (.tuple #[]);refine hK _ _ G' ?_;exact w1
def ajt(C:Cx)(M:NU)(N d0 d1 d2 d3:Nat)(b:List ResultVar)(x0 x1 x2 x3:Code)(x:List jY.den×Unit):Option (List Int×Unit):=
 (KP {C with n:=N,io:=[]} M x0 ⟨.d ⟨.sl jY,x.1,.sl (.sha [1])⟩::apE (N-1) .no,4,true⟩ (fun E=>KP {C with n:=N,io:=[]} M x1 E (fun E=>KP {C with n:=N,io:=[]} M x2 E (fun E=>proj Pu E) [] (fun _=>none)) [] (fun _=>none)) [] (fun _=>none)).bind fun t=>
  if(decide (t.2.1.length<1152921504606846976)&&decide (t.1.length<4611686018427387904)&&t.2.1.all (fun x=>decide (0<=x/\x<(t.1.length:Int))))=true then
   KP {C with n:=N,io:=[]} M x3 (ads N d0 d1 d2 d3 t (eW (GI t.1) t.2.1)) (fin C.tt [.val (.sl jY) .shr] [.val (.sl (.int .i64)) .own] [] b 4) [] (fin C.tt [.val (.sl jY) .shr] [.val (.sl (.int .i64)) .own] [] b 4)
  else none
def aiQ{N d0 d1 d2 d3:Nat}{t:List jY.den×List Int×Unit}{s:List Int}:NR (ads N d0 d1 d2 d3 t s).s:=by
 intro i j b act v;exact VS X1 (by rintro _ _ _ _ ⟨⟩) i j b act v
def ai1{N d0 d1 d2 d3:Nat}{t:List jY.den×List Int×Unit}{s:List Int}:(ads N d0 d1 d2 d3 t s).s.length=N:=by
 unfold ads;rw[qV,Xb,qV,qV,qV];obtain⟨l,out,u⟩:=t;show(((apE N SV.no).set 1 _).set 3 _).length=N;simp
def aaO(B:JR P C)(hM:acJ P M){fs less:FuncId}{Y:TypeId}{b:Func}(h0:tQ P Y (.sl (.int .i64))){elA:TypeId}(hu:P.underlying Y=some (.slice elA))(hS:abD P fs less Y)
 (j0:P.funcs[fs]?=some b) (k0:(b.name== "runtime.NumGoroutine")=false) (n0:b.body.isSome=true)
 {f:FuncId} {fn:Func} (hf:P.funcs[f]?=some fn) (D:(fn.name== "runtime.NumGoroutine")=false) {x0 x1 x2 x3:Code}
 {N d0 d1 d2 d3 id:Nat} {o0 o1 o2 o3:Oper} {c:Call} (hN:fn.ntmps=N) (h3:3<N) (hb:fn.body=some (.seq x0 (.seq x1 (.seq x2 (.seq (.region id #[o0,o1,o2,o3] false) x3)))))
 (g0:o0.guard=none/\o0.op= .load Y (.tmp 3)/\o0.dst=some d0) (g1:o1.guard=none/\o1.op= .makeInterface Y (.tmp d0)/\o1.dst=some d1)
 (g2:o2.guard=none/\o2.op= .makeFunc (.func less) #[] #[.tmp 1,.tmp 3]/\o2.dst=some d2) (g3:o3.guard=none/\o3.op= .call c/\c.callee= .value (.func fs)/\c.args= #[.tmp d1,.tmp d2]/\o3.dst=some d3)
 (hd:d0≠1/\d0≠3/\d1≠1/\d1≠3/\d1≠d0/\d2≠d1/\d0<N/\d1<N/\d2<N)
 {F:List jY.den×Unit->Option (List Int×Unit)} (hF:∀x,ajt C M N d0 d1 d2 d3 fn.results.toList x0 x1 x2 x3 x=F x):
 BH P f ⟨[.val (.sl jY) .shr],[.val (.sl (.int .i64)) .own],F,[]⟩:=by
 intro w I args x y hy p;have l:=(hF x).trans hy;unfold ajt at l;obtain⟨t,e0,l⟩:=Option.bind_eq_some_iff.1 l;split at l;rotate_left
 ·cases l
 rename_i m;simp only[z_,b_,apH]at m;obtain⟨⟨s0,u0⟩,E0⟩:=m
 have b0:(callFunc f args.toArray).run P w= .ok (.enter f args.toArray) w:=by
  have p0:fn.name≠ "runtime.NumGoroutine" :=by simpa using D
  unfold callFunc;simp[hf,p0,hb]
 unfold NB;rw[b0];simp only;refine calls_of_wp hf hb ?_;have hE:=ad5 (ps:=[.val (.sl jY) .shr]) p fn.ntmps;have o:JR P {C with n:=N,io:=[]}:=⟨⟨B.tt,B.eq,B.fs,B.u8⟩,B.ct,B.mixed⟩
 have g:Zf {C with n:=N,io:=[]} w (I.Yn (fV [.val (.sl jY) .shr] 4)) (fun i=>args.getD i undef) y (fin C.tt [.val (.sl jY) .shr] [.val (.sl (.int .i64)) .own] [] fn.results.toList 4) (fun J w'=>
  J.defers=[]/\∃v,(results fn J.tmps).run P w'= .ok v w'/\∃v',Ending.returned v=Ending.returned v'/\∃G' vs nt,QB ⟨[.val (.sl jY) .shr],[.val (.sl (.int .i64)) .own],F,[]⟩ w I args y v' w' G' vs nt):=by
  intro E' J w' G' q K H S W r;obtain⟨mv,G2,vs,nt,j1,j2⟩:=agL (con:=⟨[.val (.sl jY) .shr],[.val (.sl (.int .i64)) .own],F,[]⟩) B.toCxTy (args:=args) p q r (fun i X=>by simp[BF]at X);exact⟨q.defers,mv,j1,mv,rfl,G2,vs,nt,j2⟩
 have e:∀ {R:Act->World->Prop},Zf {C with n:=N,io:=[]} w (I.Yn (fV [.val (.sl jY) .shr] 4)) (fun i=>args.getD i undef) t (fun _=>none) R:=by
  intro R E' J w' G' _ _ _ _ _ h;cases h
 have r0:Inv w (I.Yn (fV [.val (.sl jY) .shr] 4)) (fun u=>u<4) ⟨.d ⟨.sl jY,x.1,.sl (.sha [1])⟩::apE (N-1) .no,4,true⟩ {tmps:=args.toArray++aqF (fn.ntmps-args.toArray.size) undef,defers:=[]} w I:=by
  rw[<-hN];exact hE
 refine wp_seq ?_;refine Y1 (T:=fun i=>args.getD i undef) o hM x0 r0 (fun s j w1 act v h=> ?_) (by simp;omega) (gh _) (fun i X=>by cases X) e0 (fun E1 a1 w1 G1 q K H S W r=> ?_) (fun id k z=>by simp[apI]at z) e
 ·cases s with
  |zero=>simp at h
  |succ s=>rw[apZ,<-aqg (apE (N-1) SV.no),DR]at h;simp at h
 refine wp_seq ?_;refine Y1 (T:=fun i=>args.getD i undef) o hM x1 q K H S W r (fun E1 a1 w1 G1 q K H S W r=> ?_) (fun id k z=>by simp[apI]at z) e;refine wp_seq ?_;refine Y1 (T:=fun i=>args.getD i undef) o hM x2 q K H S W r (fun E1 a1 w1 G1 q K H S W r=> ?_) (fun id k z=>by simp[apI]at z) e;obtain⟨G2,m1,m2,m3,m4⟩:=NW q H r;refine wp_seq ?_;refine afU rfl h0 hu hS j0 k0 n0 g0 g1 g2 g3 hd h3 m1 s0 u0 E0 (fun J w' G' n1=> ?_);exact Y1 (T:=fun i=>args.getD i undef) o hM x3 (n1.mono (fun u hu=>hu)) aiQ ai1 (show 4<=7 by decide) (fun i X=>by cases X) l g (fun id k z=>by simp[apI]at z) g
end
end Vg
namespace Vg
open Go
structure afR where
 x0:Code
 x1:Code
 x2:Code
 x3:Code
 id:Nat
 o0:Oper
 o1:Oper
 o2:Oper
 o3:Oper
 c:Call
def TA:Option Code->Option afR
 |some (.seq x0 (.seq x1 (.seq x2 (.seq (.region id ⟨[o0,o1,o2,o3]⟩ false) x3))))=>(match o3.op with
  | .call c=>some ⟨x0,x1,x2,x3,id,o0,o1,o2,o3,c⟩
  |_=>none)
 |_=>none
def Oe{b:Option Code}{q:afR}(h:TA b=some q):b=some (.seq q.x0 (.seq q.x1 (.seq q.x2 (.seq (.region q.id #[q.o0,q.o1,q.o2,q.o3] false) q.x3))))/\q.o3.op= .call q.c:=by
 unfold TA at h;split at h;split at h;rename_i hc;cases h;exact⟨rfl,hc⟩;cases h;cases h
end Vg
namespace Go.Proofs
open Go.Shelf Go.RowKit Go.Lib Go.Sort
variable{P:Program}{ρ:Ren}{α:Type}[Inhabited α]
def Ea(d:Array α)(a b:Nat):Nat->Array α
 |0=>d
 |n+1=>swp (Ea d a b n) (a+n) (b+n)
@[simp] theorem sV(d:Array α)(a b:Nat):∀n,(Ea d a b n).size=d.size
  |0=>rfl
  |n+1=>by rw[Ea,size_swp,sV d a b n]
set_option maxHeartbeats 1600000 in
set_option maxRecDepth 1000000 in
def aer(L:LaysGt.n49 P ρ){enc:α->List Value}{k:Nat}(hk:∀x,(enc x).length=k)(lf:Fn)(la lb:Array Value)(sf:Nat)(sb:Array Value){blk off:Nat}(a b n:Nat){d:Array α}{w:World}
 (hswap:SwapSwapsK P sf sb enc k blk off d.size) (hH:HoldsK enc k w blk off d) (hblk:blk<w.heap.size) (ha:a+n<=d.size) (hb:b+n<=d.size) (hsz:d.size<4611686018427387904):
 Calls P (ρ.f 49) #[.agg #[.func lf la lb,.func (.func sf) #[] sb],.int .i64 a,.int .i64 b,.int .i64 n] w fun e w'=>e= .returned (.tuple #[])/\∃m os,w'=sortWorldK enc k w blk off m (Ea d a b n) os:=by
 have mixed:=L.mixed;have t0:=L.t0;have a0:=L.a0;have z0:=L.z0;have v0:=L.v0;have t3:=L.t3;have a3:=L.a3;have z3:=L.z3;have v3:=L.v3;have t4:=L.t4;have a4:=L.a4;have z4:=L.z4;have v4:=L.v4;have t26:=L.t26;have a26:=L.a26;have z26:=L.z26;have v26:=L.v26;have t38:=L.t38;have a38:=L.a38;have z38:=L.z38;have v38:=L.v38;have t42:=L.t42;have a42:=L.a42;have z42:=L.z42;have v42:=L.v42;have u42:=run_underlying L.t42;have hH1:HoldsK enc k (w.alloc (.cells #[.func lf la lb,.func (.func sf) #[] sb] (ρ.t 42))) blk off d:=by rw[alloc_eq_grow];exact holdsK_grow enc k w _ blk off d hblk hH
 go_enter L.f49,BodyGt.n49_ntmps ρ
 go_wp2
 go_loopg [8] n (fun kx s8 wr=>∃(i:Nat) (m:Nat),s8= .int .i64 i/\i<=n/\n-i<=kx/\wr=putRowK enc k (Sort.ahead (w.alloc (.cells #[.func lf la lb,.func (.func sf) #[] sb] (ρ.t 42))) m) blk off (Ea d a b i))
 case atStart=>exact⟨0,0,rfl,by omega,by omega,(putRowK_self enc k _ blk off d hH1).symm⟩
 case round=>
  obtain⟨i,m,rfl,hi,hkx,hwr⟩:=hrel;by_cases hlt:i<n
  ·have hds:(Ea d a b i).size=d.size:=sV d a b i;have hHk:HoldsK enc k wr blk off (Ea d a b i):=by rw[hwr];exact holdsK_putRowK enc k _ blk off d _ (holdsK_ahead enc k _ m blk off d hH1) hds
   have c1:wr.cell? ⟨w.heap.size,1,none⟩=some (.func (.func sf) #[] sb):=by
    rw[hwr,cell?_putRowK_other enc k _ blk off _ _ (by show w.heap.size≠blk;omega)];show((w.alloc (.cells #[.func lf la lb,.func (.func sf) #[] sb] (ρ.t 42)))).cell? _=_;simp
   have hs:=hswap wr _ hHk hds (a+i) (b+i) (by omega) (by omega);have A:Aside (wr=putRowK enc k (Sort.ahead (w.alloc (.cells #[.func lf la lb,.func (.func sf) #[] sb] (ρ.t 42))) m) blk off (Ea d a b i)):=hwr;clear hwr hHk hH hH1 hswap;rw[show(((a+i:Nat):Int))=(a:Int)+i by omega,show(((b+i:Nat):Int))=(b:Int)+i by omega]at hs
   go_wp2
   go_roundg (n-(i+1))
   case measure=>omega
   case rel=>
    exact⟨i+1,m,by simp,by omega,gh _,by rw[A.out,Ea,<-putRowK_swp enc k hk _ blk off _ (a+i) (b+i) (by omega) (by omega)]⟩
  ·obtain rfl:i=n:=by omega
   go_wp2
   go_end0
   exact⟨rfl,m,_,sortWorldK_of_alloc enc k w _ blk off m _ hblk⟩
def LU(m:Nat)(d:Array α)(i j:Nat):Array α:=
 if h:0<i/\0<j/\i≠j then
  if j<i then LU m (Ea d (m-i) m j) (i-j) j else LU m (Ea d (m-i) (m+j-i) i) i (j-i)
 else Ea d (m-i) m i
termination_by i+j
decreasing_by all_goals omega
def rN(m:Nat)(d:Array α)(i j:Nat):(LU m d i j).size=d.size:=by
 fun_induction LU m d i j with
 |case1 d i j c e b=>rw[b,sV]
 |case2 d i j c e b=>rw[b,sV]
 |case3 d i j h=>rw[sV]
set_option maxHeartbeats 3200000 in
set_option maxRecDepth 1000000 in
def ah2(L:LaysGt.n42 P ρ){enc:α->List Value}{k:Nat}(hk:∀x,(enc x).length=k)(lf:Fn)(la lb:Array Value)(sf:Nat)(sb:Array Value){blk off:Nat}(a m b:Nat){d:Array α}{w:World}
 (hswap:SwapSwapsK P sf sb enc k blk off d.size) (hH:HoldsK enc k w blk off d) (hblk:blk<w.heap.size) (ham:a<m) (hmb:m<b) (hb:b<=d.size) (hsz:d.size<4611686018427387904):
 Calls P (ρ.f 42) #[.agg #[.func lf la lb,.func (.func sf) #[] sb],.int .i64 a,.int .i64 m,.int .i64 b] w fun e w'=>e= .returned (.tuple #[])/\∃n os,w'=sortWorldK enc k w blk off n (LU m d (m-a) (b-m)) os:=by
 have mixed:=L.mixed;have t0:=L.t0;have a0:=L.a0;have z0:=L.z0;have v0:=L.v0;have t3:=L.t3;have a3:=L.a3;have z3:=L.z3;have v3:=L.v3;have t4:=L.t4;have a4:=L.a4;have z4:=L.z4;have v4:=L.v4;have t26:=L.t26;have a26:=L.a26;have z26:=L.z26;have v26:=L.v26;have t38:=L.t38;have a38:=L.a38;have z38:=L.z38;have v38:=L.v38;have t42:=L.t42;have a42:=L.a42;have z42:=L.z42;have v42:=L.v42;have u42:=run_underlying L.t42;have e49:∀args w,(callFunc (ρ.f 49) args).run P w= .ok (.enter (ρ.f 49) args) w:=enters_of L.f49 (by kernel_rfl) rfl;have hH1:HoldsK enc k (w.alloc (.cells #[.func lf la lb,.func (.func sf) #[] sb] (ρ.t 42))) blk off d:=by rw[alloc_eq_grow];exact holdsK_grow enc k w _ blk off d hblk hH
 have hb1:blk<(w.alloc (.cells #[.func lf la lb,.func (.func sf) #[] sb] (ρ.t 42))).heap.size:=by rw[alloc_eq_grow,size_grow];omega
 have bx:∀(q:Nat) (v:Value),(w.alloc (.cells #[.func lf la lb,.func (.func sf) #[] sb] (ρ.t 42))).cell? ⟨w.heap.size,q,none⟩=some v->∀n (X:Array α) os,(sortWorldK enc k (w.alloc (.cells #[.func lf la lb,.func (.func sf) #[] sb] (ρ.t 42))) blk off n X os).cell? ⟨w.heap.size,q,none⟩=some v:=fun q v h n X os=>by
  unfold sortWorldK;rw[cell?_grow _ _ _ (by rw[size_putRowK];show w.heap.size<(w.alloc _).heap.size;rw[alloc_eq_grow,size_grow];simp),cell?_putRowK_other enc k _ blk off _ _ (by show w.heap.size≠blk;omega)];exact h
 have bx0:=bx 0 (.func lf la lb) (by simp);have bx1:=bx 1 (.func (.func sf) #[] sb) (by simp)
 have hcall:∀(n:Nat) (X:Array α) os,X.size=d.size->∀x y z:Nat,x+z<=d.size->y+z<=d.size->
  Calls P (ρ.f 49) #[.agg #[.func lf la lb,.func (.func sf) #[] sb],.int .i64 x,.int .i64 y,.int .i64 z] (sortWorldK enc k (w.alloc (.cells #[.func lf la lb,.func (.func sf) #[] sb] (ρ.t 42))) blk off n X os) fun e w'=>
   e= .returned (.tuple #[])/\∃n' os',w'=sortWorldK enc k (w.alloc (.cells #[.func lf la lb,.func (.func sf) #[] sb] (ρ.t 42))) blk off n' (Ea X x y z) os':=fun n X os hX x y z h1 h2=>by
  refine(aer ({L with}:LaysGt.n49 P ρ) hk lf la lb sf sb x y z (d:=X) (by rw[hX];exact hswap) (holdsK_sortWorldK enc k _ blk off n d X os hb1 hH1 hX) ?_ (by omega) (by omega) (by omega)).mono ?_
  ·unfold sortWorldK;rw[size_grow,size_putRowK];show blk<(w.alloc _).heap.size+_;omega
  ·rintro e w' ⟨rfl,n',os',rfl⟩;exact⟨rfl,_,_,sortWorldK_on enc k _ blk off n n' X _ os os' hb1 (sV ..)⟩
 have hstart:=sortWorldK_start enc k _ blk off d hH1
 have hfin:∀n (X:Array α) os,∃n' os',sortWorldK enc k (w.alloc (.cells #[.func lf la lb,.func (.func sf) #[] sb] (ρ.t 42))) blk off n X os=sortWorldK enc k w blk off n' X os':=fun n X os=>
  ⟨n,_,by unfold sortWorldK;rw[alloc_eq_grow,ahead_grow,putRowK_grow enc k (Sort.ahead w n) _ blk off _ hblk,grow_grow]⟩
 clear bx hswap hH hH1;generalize hW1:w.alloc (.cells #[.func lf la lb,.func (.func sf) #[] sb] (ρ.t 42))=W1 at*
 go_enter L.f42,BodyGt.n42_ntmps ρ
 go_wp2
 go_loopg [8,9] (b-a) (fun kx s8 s9 wr=>∃(i j:Nat) (n:Nat) (X:Array α) (os:Array Obj),s8= .int .i64 i/\s9= .int .i64 j/\0<i/\0<j/\i<=m/\m+j<=d.size/\i+j<=kx/\X.size=d.size/\
  wr=sortWorldK enc k W1 blk off n X os/\LU m X i j=LU m d (m-a) (b-m))
 case atStart=>exact⟨m-a,b-m,0,d, #[],by congr 1;omega,by congr 1;omega,by omega,by omega,by omega,by omega,by omega,rfl,hstart.symm,rfl⟩
 case round=>
  obtain⟨i,j,n,X,os,rfl,rfl,hi,hj,him,hmj,hkx,hX,hwr,hR⟩:=hrel;have c0:wr.cell? ⟨w.heap.size,0,none⟩=some (.func lf la lb):=by rw[hwr];exact bx0 n X os
  have c1:wr.cell? ⟨w.heap.size,1,none⟩=some (.func (.func sf) #[] sb):=by rw[hwr];exact bx1 n X os
  have hc:=hcall n X os hX;rw[<-hwr]at hc;clear hwr hcall bx0 bx1;rw[LU]at hR;by_cases heq:i=j
  ·subst heq;rw[dif_neg (by omega)]at hR;have hc:=hc (m-i) m i (by omega) (by omega);rw[show(((m-i:Nat):Int))=(m:Int)-i by omega]at hc
   go_wp2_with (go_at_fn (ρ.f 49);refine hc.mono ?_;rintro e w1 ⟨rfl,n2,os2,rfl⟩)
   go_end0
   exact⟨rfl,hfin _ _ _⟩
  ·rw[dif_pos ⟨hi,hj,heq⟩]at hR;by_cases hji:j<i
   ·rw[an hji]at hR;have hc:=hc (m-i) m j (by omega) (by omega);rw[show(((m-i:Nat):Int))=(m:Int)-i by omega]at hc
    go_wp2_with (go_at_fn (ρ.f 49);refine hc.mono ?_;rintro e w1 ⟨rfl,n2,os2,rfl⟩)
    go_roundg (i+j-j)
    case measure=>omega
    case rel=>exact⟨i-j,j,n2,_,os2,by congr 1;omega,rfl,by omega,by omega,by omega,by omega,by omega,by rw[sV];exact hX,rfl,hR⟩
   ·rw[a_ hji]at hR;have hc:=hc (m-i) (m+j-i) i (by omega) (by omega);rw[show(((m-i:Nat):Int))=(m:Int)-i by omega,show(((m+j-i:Nat):Int))=(m:Int)+j-i by omega]at hc
    go_wp2_with (go_at_fn (ρ.f 49);refine hc.mono ?_;rintro e w1 ⟨rfl,n2,os2,rfl⟩)
    go_roundg (i+j-i)
    case measure=>omega
    case rel=>exact⟨i,j-i,n2,_,os2,rfl,by congr 1;omega,by omega,by omega,by omega,by omega,by omega,by rw[sV];exact hX,rfl,hR⟩
variable{P:Program}{ρ:Ren}{α:Type}[Inhabited α]
def yK(p:Nat->Bool)(i j:Nat):Nat:=
 if h:i<j then(if p ((i+j)/2)then yK p ((i+j)/2+1) j else yK p i ((i+j)/2))else i
termination_by j-i
decreasing_by all_goals omega
def Be(d:Array α)(k e:Nat):Array α:=if k<e then Be (swp d k (k+1)) (k+1) e else d
termination_by e-k
def tc(d:Array α)(k e:Nat):Array α:=if h:e<k then tc (swp d k (k-1)) (k-1) e else d
termination_by k-e
def VH(p:Nat->Bool)(i j:Nat)(h:i<=j):i<=yK p i j/\yK p i j<=j:=by
 fun_induction yK p i j with
 |case1 i j c d b=>have:=b (by omega);omega
 |case2 i j c d b=>have:=b (by omega);omega
 |case3 i j c=>omega
def aeq(d:Array α)(k e:Nat):(Be d k e).size=d.size:=by
 fun_induction Be d k e with
 |case1 d k h b=>rw[b,size_swp]
 |case2 d k h=>rfl
def abc(d:Array α)(k e:Nat):(tc d k e).size=d.size:=by
 fun_induction tc d k e with
 |case1 d k h b=>rw[b,size_swp]
 |case2 d k h=>rfl
def XD(enc:α->List Value)(k:Nat)(w0:World)(b off n q:Nat)(c:Array α)(d:Array Obj):
 (sortWorldK enc k w0 b off n c d).drewN q=sortWorldK enc k w0 b off (n+q) c d:=by
 unfold sortWorldK;rw[<-putRowK_drewN enc k w0 n q b off c];rfl
def YK{enc:α->List Value}{k:Nat}(f:∀x,(enc x).length=k)(w0:World){b off:Nat}(n:Nat){c:Array α}(e:Array Obj)(d:b<w0.heap.size){i j:Nat}(hi:i<c.size)(g:j<c.size):
 ((sortWorldK enc k w0 b off n c e).setCells b (off+i*k) (enc c[j]!)).setCells b (off+j*k) (enc c[i]!)=sortWorldK enc k w0 b off n (swp c i j) e:=by
 unfold sortWorldK;rw[<-putRowK_grow enc k (Sort.ahead w0 n) e b off c d,putRowK_swp enc k f _ b off c i j hi g,putRowK_grow enc k (Sort.ahead w0 n) e b off _ d]
structure afC(P:Program)(enc:α->List Value)(k:Nat)(lt:α->α->Bool)(g:Nat)(lb:Array Value)(sf:Nat)(sb:Array Value)(blk off size hb:Nat)(w W1:World):Prop where
 c0:∀n (X:Array α) os,(sortWorldK enc k W1 blk off n X os).cell? ⟨hb,0,none⟩=some (.func (.func g) #[] lb)
 c1:∀n (X:Array α) os,(sortWorldK enc k W1 blk off n X os).cell? ⟨hb,1,none⟩=some (.func (.func sf) #[] sb)
 less:∀n (X:Array α) os,X.size=size->∀i j:Nat,i<size->j<size->
  Calls P g (#[.int .i64 i,.int .i64 j]++lb) (sortWorldK enc k W1 blk off n X os) fun e w'=>e= .returned (.bool (lt X[i]! X[j]!))/\∃q,w'=sortWorldK enc k W1 blk off (n+q) X os
 swap:∀n (X:Array α) os,X.size=size->∀i j:Nat,i<size->j<size->
  (callFunc sf (#[.int .i64 i,.int .i64 j]++sb)).run P (sortWorldK enc k W1 blk off n X os)= .ok (.value (.tuple #[])) (sortWorldK enc k W1 blk off n (swp X i j) os)
 fin:∀n (X:Array α) os,∃n' os',sortWorldK enc k W1 blk off n X os=sortWorldK enc k w blk off n' X os'
 lt_blk:blk<W1.heap.size
def T3{enc:α->List Value}{k:Nat}(H:∀x,(enc x).length=k){lt:α->α->Bool}{g:Nat}{c:Array Value}{l:Nat}{m:Array Value}{b off:Nat}{d:Array α}{w:World}{t:TypeId}
 (p:LessReadsK P g c enc k lt b off d.size w) (r:SwapSwapsK P l m enc k b off d.size) (I:HoldsK enc k w b off d) (f:b<w.heap.size):
 afC P enc k lt g c l m b off d.size w.heap.size w (w.alloc (.cells #[.func (.func g) #[] c,.func (.func l) #[] m] t))/\
  sortWorldK enc k (w.alloc (.cells #[.func (.func g) #[] c,.func (.func l) #[] m] t)) b off 0 d #[]=w.alloc (.cells #[.func (.func g) #[] c,.func (.func l) #[] m] t):=by
 have u:HoldsK enc k (w.alloc (.cells #[.func (.func g) #[] c,.func (.func l) #[] m] t)) b off d:=by rw[alloc_eq_grow];exact holdsK_grow enc k w _ b off d f I
 have s:b<(w.alloc (.cells #[.func (.func g) #[] c,.func (.func l) #[] m] t)).heap.size:=by rw[alloc_eq_grow,size_grow];omega
 have F:∀(q:Nat) (v:Value),(w.alloc (.cells #[.func (.func g) #[] c,.func (.func l) #[] m] t)).cell? ⟨w.heap.size,q,none⟩=some v->∀n (X:Array α) o,(sortWorldK enc k (w.alloc (.cells #[.func (.func g) #[] c,.func (.func l) #[] m] t)) b off n X o).cell? ⟨w.heap.size,q,none⟩=some v:=fun q v h n X o=>by
  unfold sortWorldK;rw[cell?_grow _ _ _ (by rw[size_putRowK];show w.heap.size<(w.alloc _).heap.size;rw[alloc_eq_grow,size_grow];simp),cell?_putRowK_other enc k _ b off _ _ (by show w.heap.size≠b;omega)];exact h
 have D:LessReadsK P g c enc k lt b off d.size (w.alloc (.cells #[.func (.func g) #[] c,.func (.func l) #[] m] t)):=by rw[alloc_eq_grow];exact p.grow f _
 refine⟨⟨F 0 _ (by simp),F 1 _ (by simp),fun n X o y i j z B=> ?_,fun n X o y i j z B=> ?_,fun n X o=> ?_,s⟩,sortWorldK_start enc k _ b off d u⟩;refine(D n o X y i j z B).mono ?_;rintro e w' ⟨rfl,q,rfl⟩;exact⟨rfl,q,XD ..⟩;rw[r _ X (holdsK_sortWorldK enc k _ b off n d X o s u y) y i j z B,YK H _ n o s (by omega) (by omega)];exact⟨n,_,by unfold sortWorldK;rw[alloc_eq_grow,ahead_grow,putRowK_grow enc k (Sort.ahead w n) _ b off _ f,grow_grow]⟩
set_option maxHeartbeats 3200000 in
set_option maxRecDepth 1000000 in
def agE(L:LaysGt.n30 P ρ){enc:α->List Value}{k:Nat}(hk:∀x,(enc x).length=k)(lt:α->α->Bool){g:Nat}{lb:Array Value}{sf:Nat}{sb:Array Value}{blk off:Nat}(a m b:Nat){d:Array α}{w:World}
 (eg:∀args w,(callFunc g args).run P w= .ok (.enter g args) w) (hless:LessReadsK P g lb enc k lt blk off d.size w) (hswap:SwapSwapsK P sf sb enc k blk off d.size) (hH:HoldsK enc k w blk off d) (hblk:blk<w.heap.size)
 (ham:a<m) (ham2:m<=a+1) (hmb:m<b) (hb:b<=d.size) (hsz:d.size<4611686018427387904):
 Calls P (ρ.f 30) #[.agg #[.func (.func g) #[] lb,.func (.func sf) #[] sb],.int .i64 a,.int .i64 m,.int .i64 b] w fun e w'=>e= .returned (.tuple #[])/\
  ∃n os,w'=sortWorldK enc k w blk off n (Be d a (yK (fun h=>lt d[h]! d[a]!) m b-1)) os:=by
 have mixed:=L.mixed;have t0:=L.t0;have a0:=L.a0;have z0:=L.z0;have v0:=L.v0;have t3:=L.t3;have a3:=L.a3;have z3:=L.z3;have v3:=L.v3;have t4:=L.t4;have a4:=L.a4;have z4:=L.z4;have v4:=L.v4;have t26:=L.t26;have a26:=L.a26;have z26:=L.z26;have v26:=L.v26;have t38:=L.t38;have a38:=L.a38;have z38:=L.z38;have v38:=L.v38;have t42:=L.t42;have a42:=L.a42;have z42:=L.z42;have v42:=L.v42;have t47:=L.t47;have a47:=L.a47;have z47:=L.z47;have v47:=L.v47;have u42:=run_underlying L.t42;obtain⟨B,hstart⟩:=T3 (t:=ρ.t 42) hk hless hswap hH hblk;clear hless hswap hH;generalize hW1:w.alloc (.cells #[.func (.func g) #[] lb,.func (.func sf) #[] sb] (ρ.t 42))=W1 at*
 have q1:((m:Int)-(a:Int)==1)=true:=by rw[beq_iff_eq];omega
 go_enter L.f30,BodyGt.n30_ntmps ρ
 go_wp2
 go_loopg [8,9] (b-a) (fun kx s8 s9 wr=>∃(i j n:Nat) (os:Array Obj),s8= .int .i64 i/\s9= .int .i64 j/\m<=i/\i<=j/\j<=b/\j-i<=kx/\wr=sortWorldK enc k W1 blk off n d os/\
  yK (fun h=>lt d[h]! d[a]!) i j=yK (fun h=>lt d[h]! d[a]!) m b)
 case atStart=>exact⟨m,b,0, #[],rfl,rfl,by omega,by omega,by omega,by omega,hstart.symm,rfl⟩
 case round=>
  obtain⟨i,j,n,os,rfl,rfl,hai,hij,hjb,hkx,hwr,hbs⟩:=hrel;have c0:=B.c0 n d os;have c1:=B.c1 n d os;rw[<-hwr]at c0 c1;by_cases hlt:i<j
  ·have hl:=B.less n d os rfl ((i+j)/2) a (by omega) (by omega);rw[<-hwr]at hl;rw[yK,dif_pos hlt]at hbs;have HB:Hid _:=hbs;clear hwr hbs B;cases hv:lt d[(i+j)/2]! d[a]! with
   |true=>
    rw[hv]at hl HB
    go_wp2_with (go_at_fn g;refine hl.mono ?_;rintro e w' ⟨rfl,q,rfl⟩)
    go_roundg (j-((i+j)/2+1))
    case measure=>omega
    case rel=>exact⟨(i+j)/2+1,j,n+q,os,by go_num,rfl,by omega,by omega,by omega,gh _,rfl,HB.out⟩
   |false=>
    rw[hv]at hl HB
    go_wp2_with (go_at_fn g;refine hl.mono ?_;rintro e w' ⟨rfl,q,rfl⟩)
    go_roundg ((i+j)/2-i)
    case measure=>omega
    case rel=>exact⟨i,(i+j)/2,n+q,os,rfl,by go_num,by omega,by omega,by omega,gh _,rfl,HB.out⟩
  ·obtain rfl:i=j:=by omega
   rw[yK,dif_neg hlt]at hbs;have HB:Hid _:=hbs;clear hbs
   go_wp2
   go_loopg [11] (i-a) (fun kx s11 wr2=>∃(c n:Nat) (X:Array α) (os:Array Obj),s11= .int .i64 c/\a<=c/\c<=i-1/\i-c<=kx/\X.size=d.size/\wr2=sortWorldK enc k W1 blk off n X os/\
    Be X c (i-1)=Be d a (i-1))
   case atStart=>exact⟨a,n,d,os,rfl,by omega,by omega,by omega,rfl,(by first|exact hwr|rfl),rfl⟩
   case round=>
    obtain⟨c,n2,X,os2,rfl,hac,hci,hkx2,hX,hwr2,hmv⟩:=hrel;have c1:=B.c1 n2 X os2;rw[<-hwr2]at c1;by_cases hlt2:c<i-1
    ·have hs:=B.swap n2 X os2 hX c (c+1) (by omega) (by omega);rw[<-hwr2,show(((c+1:Nat):Int))=(c:Int)+1 by omega]at hs;rw[Be,an hlt2]at hmv;have HM:Hid _:=hmv;clear hmv hwr2 hwr B c0
     go_wp2
     go_roundg (i-(c+1))
     case measure=>omega
     case rel=>exact⟨c+1,n2,_,os2,by go_num,by omega,by omega,gh _,by rw[size_swp];exact hX,rfl,HM.out⟩
    ·rw[Be,a_ hlt2]at hmv;have HM:Hid _:=hmv;have hf:=B.fin n2 X os2;rw[<-hwr2]at hf;clear hmv hwr2 hwr B c0
     go_wp2
     (try simp only[Exit.inBlock,Exit.then]);refine bodyPost_ret (results_none rfl _ _ _) rfl ?_
     rw[<-HB.out,<-HM.out];exact⟨rfl,hf⟩
variable{P:Program}{ρ:Ren}{α:Type}[Inhabited α]
set_option maxHeartbeats 3200000 in
set_option maxRecDepth 1000000 in
def af1(L:LaysGt.n30 P ρ){enc:α->List Value}{k:Nat}(hk:∀x,(enc x).length=k)(lt:α->α->Bool){g:Nat}{lb:Array Value}{sf:Nat}{sb:Array Value}{blk off:Nat}(a m b:Nat){d:Array α}{w:World}
 (eg:∀args w,(callFunc g args).run P w= .ok (.enter g args) w) (hless:LessReadsK P g lb enc k lt blk off d.size w) (hswap:SwapSwapsK P sf sb enc k blk off d.size) (hH:HoldsK enc k w blk off d) (hblk:blk<w.heap.size)
 (ham:a+1<m) (hmb:m<b) (hmb2:b<=m+1) (hb:b<=d.size) (hsz:d.size<4611686018427387904):
 Calls P (ρ.f 30) #[.agg #[.func (.func g) #[] lb,.func (.func sf) #[] sb],.int .i64 a,.int .i64 m,.int .i64 b] w fun e w'=>e= .returned (.tuple #[])/\
  ∃n os,w'=sortWorldK enc k w blk off n (tc d m (yK (fun h=> !lt d[m]! d[h]!) a m)) os:=by
 have mixed:=L.mixed;have t0:=L.t0;have a0:=L.a0;have z0:=L.z0;have v0:=L.v0;have t3:=L.t3;have a3:=L.a3;have z3:=L.z3;have v3:=L.v3;have t4:=L.t4;have a4:=L.a4;have z4:=L.z4;have v4:=L.v4;have t26:=L.t26;have a26:=L.a26;have z26:=L.z26;have v26:=L.v26;have t38:=L.t38;have a38:=L.a38;have z38:=L.z38;have v38:=L.v38;have t42:=L.t42;have a42:=L.a42;have z42:=L.z42;have v42:=L.v42;have t47:=L.t47;have a47:=L.a47;have z47:=L.z47;have v47:=L.v47;have u42:=run_underlying L.t42;obtain⟨B,hstart⟩:=T3 (t:=ρ.t 42) hk hless hswap hH hblk;clear hless hswap hH;generalize hW1:w.alloc (.cells #[.func (.func g) #[] lb,.func (.func sf) #[] sb] (ρ.t 42))=W1 at*
 have q1:((m:Int)-(a:Int)==1)=false:=by rw[beq_eq_false_iff_ne];omega
 have q2:((b:Int)-(m:Int)==1)=true:=by rw[beq_iff_eq];omega
 go_enter L.f30,BodyGt.n30_ntmps ρ
 go_wp2
 go_loopg [12,13] (b-a) (fun kx s8 s9 wr=>∃(i j n:Nat) (os:Array Obj),s8= .int .i64 i/\s9= .int .i64 j/\a<=i/\i<=j/\j<=m/\j-i<=kx/\wr=sortWorldK enc k W1 blk off n d os/\
  yK (fun h=> !lt d[m]! d[h]!) i j=yK (fun h=> !lt d[m]! d[h]!) a m)
 case atStart=>exact⟨a,m,0, #[],rfl,rfl,by omega,by omega,by omega,by omega,hstart.symm,rfl⟩
 case round=>
  obtain⟨i,j,n,os,rfl,rfl,hai,hij,hjb,hkx,hwr,hbs⟩:=hrel;have c0:=B.c0 n d os;have c1:=B.c1 n d os;rw[<-hwr]at c0 c1;by_cases hlt:i<j
  ·have hl:=B.less n d os rfl m ((i+j)/2) (by omega) (by omega);rw[<-hwr]at hl;rw[yK,dif_pos hlt]at hbs;have HB:Hid _:=hbs;clear hwr hbs B;cases hv:lt d[m]! d[(i+j)/2]! with
   |false=>
    rw[hv]at hl HB
    go_wp2_with (go_at_fn g;refine hl.mono ?_;rintro e w' ⟨rfl,q,rfl⟩)
    go_roundg (j-((i+j)/2+1))
    case measure=>omega
    case rel=>exact⟨(i+j)/2+1,j,n+q,os,by go_num,rfl,by omega,by omega,by omega,gh _,rfl,HB.out⟩
   |true=>
    rw[hv]at hl HB
    go_wp2_with (go_at_fn g;refine hl.mono ?_;rintro e w' ⟨rfl,q,rfl⟩)
    go_roundg ((i+j)/2-i)
    case measure=>omega
    case rel=>exact⟨i,(i+j)/2,n+q,os,rfl,by go_num,by omega,by omega,by omega,gh _,rfl,HB.out⟩
  ·obtain rfl:i=j:=by omega
   rw[yK,dif_neg hlt]at hbs;have HB:Hid _:=hbs;clear hbs
   go_wp2
   go_loopg [15] (m-i) (fun kx s11 wr2=>∃(c n:Nat) (X:Array α) (os:Array Obj),s11= .int .i64 c/\i<=c/\c<=m/\c-i<=kx/\X.size=d.size/\wr2=sortWorldK enc k W1 blk off n X os/\
    tc X c i=tc d m i)
   case atStart=>exact⟨m,n,d,os,rfl,by omega,by omega,by omega,rfl,(by first|exact hwr|rfl),rfl⟩
   case round=>
    obtain⟨c,n2,X,os2,rfl,hac,hci,hkx2,hX,hwr2,hmv⟩:=hrel;have c1:=B.c1 n2 X os2;rw[<-hwr2]at c1;by_cases hlt2:i<c
    ·have hs:=B.swap n2 X os2 hX c (c-1) (by omega) (by omega);rw[<-hwr2,show(((c-1:Nat):Int))=(c:Int)-1 by omega]at hs;rw[tc,dif_pos hlt2]at hmv;have HM:Hid _:=hmv;clear hmv hwr2 hwr B c0
     go_wp2
     go_roundg (c-1-i)
     case measure=>omega
     case rel=>exact⟨c-1,n2,_,os2,by congr 1;omega,by omega,by omega,gh _,by rw[size_swp];exact hX,rfl,HM.out⟩
    ·rw[tc,dif_neg hlt2]at hmv;have HM:Hid _:=hmv;have hf:=B.fin n2 X os2;rw[<-hwr2]at hf;clear hmv hwr2 hwr B c0
     go_wp2
     (try simp only[Exit.inBlock,Exit.then]);refine bodyPost_ret (results_none rfl _ _ _) rfl ?_
     rw[<-HB.out,<-HM.out];exact⟨rfl,hf⟩
variable{P:Program}{ρ:Ren}{α:Type}[Inhabited α]
def fO(lt:α->α->Bool)(d:Array α)(a m b:Nat):Nat:=
 yK (fun c=> !lt d[(a+b)/2+m-1-c]! d[c]!) (if(a+b)/2<m then(a+b)/2+m-b else a) (if(a+b)/2<m then(a+b)/2 else m)
def oV(lt:α->α->Bool)(d:Array α)(a m b:Nat):Array α:=
 if fO lt d a m b<m/\m<(a+b)/2+m-fO lt d a m b then LU m d (m-fO lt d a m b) ((a+b)/2+m-fO lt d a m b-m)else d
def rn(lt:α->α->Bool)(d:Array α)(a m b:Nat):Array α:=
 if m<=a+1 then Be d a (yK (fun h=>lt d[h]! d[a]!) m b-1)
 else if b<=m+1 then tc d m (yK (fun h=> !lt d[m]! d[h]!) a m)
 else
  let s:=fO lt d a m b
  let d2:=if h:a<s/\s<(a+b)/2 then rn lt (oV lt d a m b) a s ((a+b)/2)else oV lt d a m b
  if h:(a+b)/2<(a+b)/2+m-s/\(a+b)/2+m-s<b then rn lt d2 ((a+b)/2) ((a+b)/2+m-s) b else d2
termination_by b-a
decreasing_by all_goals omega
def WQ{lt:α->α->Bool}{d:Array α}{a m b:Nat}(ham:a<m)(hmb:m<b):
 a<=fO lt d a m b/\fO lt d a m b<=m/\fO lt d a m b<=(a+b)/2/\(a+b)/2+m-b<=fO lt d a m b:=by
 unfold fO;split;have:=VH (fun c=> !lt d[(a+b)/2+m-1-c]! d[c]!) ((a+b)/2+m-b) ((a+b)/2) (by omega);omega;have:=VH (fun c=> !lt d[(a+b)/2+m-1-c]! d[c]!) a m (by omega);omega
def Ix(lt:α->α->Bool)(d:Array α)(a m b:Nat):(oV lt d a m b).size=d.size:=by
 unfold oV;split;rw[rN];rfl
theorem yz(lt:α->α->Bool):∀(N:Nat) (d:Array α) (a m b:Nat),b-a<=N->(rn lt d a m b).size=d.size
 |N,d,a,m,b,h=>by
  rw[rn];split;rw[aeq];split;rw[abc];cases N with
  |zero=>
   dsimp only;split;rename_i c;omega;split;rename_i c;omega;rw[Ix]
  |succ N=>
   have key:(if h:a<fO lt d a m b/\fO lt d a m b<(a+b)/2 then rn lt (oV lt d a m b) a (fO lt d a m b) ((a+b)/2)else oV lt d a m b).size=d.size:=by
    split;rw[yz lt N _ _ _ _ (by omega),Ix];rw[Ix]
   dsimp only;split;rw[yz lt N _ _ _ _ (by omega)];exact key;exact key
def ug(lt:α->α->Bool)(d:Array α)(a m b:Nat):Array α:=
 if a<fO lt d a m b/\fO lt d a m b<(a+b)/2 then rn lt (oV lt d a m b) a (fO lt d a m b) ((a+b)/2)else oV lt d a m b
def XR{lt:α->α->Bool}{d:Array α}{a m b:Nat}(c:¬m<=a+1)(e:¬b<=m+1):
 rn lt d a m b=if(a+b)/2<(a+b)/2+m-fO lt d a m b/\(a+b)/2+m-fO lt d a m b<b then rn lt (ug lt d a m b) ((a+b)/2) ((a+b)/2+m-fO lt d a m b) b else ug lt d a m b:=by
 rw[rn,a_ c,a_ e];simp only[dite_eq_ite];rfl
def aew(lt:α->α->Bool)(d:Array α)(a m b:Nat):(ug lt d a m b).size=d.size:=by
 unfold ug;split;rw[yz lt _ _ _ _ _ (gh _),Ix];rw[Ix]
variable{P:Program}{ρ:Ren}{α:Type}[Inhabited α]
set_option maxHeartbeats 16000000 in
set_option maxRecDepth 1000000 in
def afT(L:LaysGt.n30 P ρ){enc:α->List Value}{k:Nat}(hk:∀x,(enc x).length=k)(lt:α->α->Bool){g:Nat}{lb:Array Value}{sf:Nat}{sb:Array Value}{blk off:Nat}
 (eg:∀args w,(callFunc g args).run P w= .ok (.enter g args) w):∀(N:Nat) (a m b:Nat) {d:Array α} {w:World},
 b-a<=N->LessReadsK P g lb enc k lt blk off d.size w->SwapSwapsK P sf sb enc k blk off d.size->HoldsK enc k w blk off d->blk<w.heap.size->a<m->m<b->b<=d.size->d.size<4611686018427387904->
 Calls P (ρ.f 30) #[.agg #[.func (.func g) #[] lb,.func (.func sf) #[] sb],.int .i64 a,.int .i64 m,.int .i64 b] w fun e w'=>e= .returned (.tuple #[])/\
  ∃n os,w'=sortWorldK enc k w blk off n (rn lt d a m b) os:=by
 intro N
 induction N with
 |zero=>intro a m b d w hN _ _ _ _ ham hmb;omega
 |succ N ih=>
 intro a m b d w hN hless hswap hH hblk ham hmb hb hsz;by_cases hl:m<=a+1
 ·rw[rn,an hl];exact agE L hk lt a m b eg hless hswap hH hblk ham hl hmb hb hsz
 by_cases hr:b<=m+1
 ·rw[rn,a_ hl,an hr];exact af1 L hk lt a m b eg hless hswap hH hblk (by omega) hmb hr hb hsz
 obtain⟨B,hstart⟩:=T3 (t:=ρ.t 42) hk hless hswap hH hblk;have hSW:∀n (X:Array α) os,SWK enc k w blk off X (sortWorldK enc k (w.alloc (.cells #[.func (.func g) #[] lb,.func (.func sf) #[] sb] (ρ.t 42))) blk off n X os):=fun n X os=>B.fin n X os
 have hrot:∀n (X:Array α) os,X.size=d.size->∀(s e:Nat) (zs ze:Int),zs=s->ze=e->s<m->m<e->e<=d.size->
  Calls P (ρ.f 42) #[.agg #[.func (.func g) #[] lb,.func (.func sf) #[] sb],.int .i64 zs,.int .i64 m,.int .i64 ze] (sortWorldK enc k (w.alloc (.cells #[.func (.func g) #[] lb,.func (.func sf) #[] sb] (ρ.t 42))) blk off n X os) fun e' w'=>
   e'= .returned (.tuple #[])/\∃n' os',w'=sortWorldK enc k (w.alloc (.cells #[.func (.func g) #[] lb,.func (.func sf) #[] sb] (ρ.t 42))) blk off n' (LU m X (m-s) (e-m)) os':=by
  intro n X os hX s e zs ze hs he h1 h2 h3;subst hs;subst he;refine(ah2 ({L with}:LaysGt.n42 P ρ) hk (.func g) #[] lb sf sb s m e (d:=X) (by rw[hX];exact hswap) ((hSW n X os).holds hblk hH hX) ((hSW n X os).lt hblk) h1 h2 (by omega) (by omega)).mono ?_;rintro e' w' ⟨rfl,n',os',rfl⟩;exact⟨rfl,_,_,sortWorldK_on enc k _ blk off n n' X _ os os' B.lt_blk (rN ..)⟩
 have hrec:∀n (X:Array α) os,X.size=d.size->∀(a' m' b':Nat) (za zm zb:Int),za=a'->zm=m'->zb=b'->a'<m'->m'<b'->b'<=d.size->b'-a'<=N->
  Calls P (ρ.f 30) #[.agg #[.func (.func g) #[] lb,.func (.func sf) #[] sb],.int .i64 za,.int .i64 zm,.int .i64 zb] (sortWorldK enc k (w.alloc (.cells #[.func (.func g) #[] lb,.func (.func sf) #[] sb] (ρ.t 42))) blk off n X os) fun e' w'=>
   e'= .returned (.tuple #[])/\∃n' os',w'=sortWorldK enc k (w.alloc (.cells #[.func (.func g) #[] lb,.func (.func sf) #[] sb] (ρ.t 42))) blk off n' (rn lt X a' m' b') os':=by
  intro n X os hX a' m' b' za zm zb ha' hm' hb' h1 h2 h3 h4;subst ha';subst hm';subst hb';refine(ih a' m' b' (d:=X) h4 (by rw[hX];exact(hSW n X os).lessReads hless hblk hX) (by rw[hX];exact hswap) ((hSW n X os).holds hblk hH hX) ((hSW n X os).lt hblk) h1 h2 (by omega) (by omega)).mono ?_;rintro e' w' ⟨rfl,n',os',rfl⟩;exact⟨rfl,_,_,sortWorldK_on enc k _ blk off n n' X _ os os' B.lt_blk (yz lt N _ _ _ _ h4)⟩
 have mixed:=L.mixed;have t0:=L.t0;have a0:=L.a0;have z0:=L.z0;have v0:=L.v0;have t3:=L.t3;have a3:=L.a3;have z3:=L.z3;have v3:=L.v3;have t4:=L.t4;have a4:=L.a4;have z4:=L.z4;have v4:=L.v4;have t26:=L.t26;have a26:=L.a26;have z26:=L.z26;have v26:=L.v26;have t38:=L.t38;have a38:=L.a38;have z38:=L.z38;have v38:=L.v38;have t42:=L.t42;have a42:=L.a42;have z42:=L.z42;have v42:=L.v42;have t47:=L.t47;have a47:=L.a47;have z47:=L.z47;have v47:=L.v47;have u42:=run_underlying L.t42;have e42:∀args w,(callFunc (ρ.f 42) args).run P w= .ok (.enter (ρ.f 42) args) w:=enters_of L.f42 (by kernel_rfl) rfl;have e30:∀args w,(callFunc (ρ.f 30) args).run P w= .ok (.enter (ρ.f 30) args) w:=enters_of L.f30 (by kernel_rfl) rfl;clear hless hswap hH hSW ih;generalize hW1:w.alloc (.cells #[.func (.func g) #[] lb,.func (.func sf) #[] sb] (ρ.t 42))=W1 at*
 have q1:((m:Int)-(a:Int)==1)=false:=by rw[beq_eq_false_iff_ne];omega
 have q2:((b:Int)-(m:Int)==1)=false:=by rw[beq_eq_false_iff_ne];omega
 have hle:=WQ (lt:=lt) (d:=d) ham hmb;have hst:fO lt d a m b=yK (fun c=> !lt d[(a+b)/2+m-1-c]! d[c]!) (if(a+b)/2<m then(a+b)/2+m-b else a) (if(a+b)/2<m then(a+b)/2 else m):=rfl;have c0:=B.c0;have c1:=B.c1;have BB:Aside (afC P enc k lt g lb sf sb blk off d.size w.heap.size w W1):=B;clear B;have HR:Aside _:=hrot;have HC:Aside _:=hrec;clear hrot hrec;by_cases hm:(a+b)/2<m
 ·rw[an hm,an hm]at hst;have q3:decide (((a:Int)+(b:Int))/2<(m:Int))=true:=by simp only[b_]<;>omega
  go_enter L.f30,BodyGt.n30_ntmps ρ
  go_wp2
  go_loopg [18,19] (b-a) (fun kx s8 s9 wr=>∃(i j n:Nat) (os:Array Obj),s8= .int .i64 i/\s9= .int .i64 j/\((a+b)/2+m-b)<=i/\i<=j/\j<=((a+b)/2)/\j-i<=kx/\wr=sortWorldK enc k W1 blk off n d os/\
   yK (fun c=> !lt d[(a+b)/2+m-1-c]! d[c]!) i j=fO lt d a m b)
  case atStart=>exact⟨((a+b)/2+m-b),((a+b)/2),0, #[],(by first|rfl|(congr 1;omega)),(by first|rfl|go_num),by omega,by omega,by omega,by omega,hstart.symm,hst.symm⟩
  case round=>
   obtain⟨i,j,n,os,rfl,rfl,hai,hij,hjb,hkx,rfl,hbs⟩:=hrel;by_cases hlt:i<j
   ·have hl:=BB.less n d os rfl ((a+b)/2+m-1-(i+j)/2) ((i+j)/2) (by omega) (by omega);rw[show((((a+b)/2+m-1-(i+j)/2:Nat):Int))=((a:Int)+b)/2+m-1-((i:Int)+j)/2 by omega]at hl;rw[yK,dif_pos hlt]at hbs;have HB:Hid _:=hbs;clear hbs;cases hv:lt d[(a+b)/2+m-1-(i+j)/2]! d[(i+j)/2]! with
    |false=>
     rw[hv]at hl HB
     go_wp2_with (go_at_fn g;refine hl.mono ?_;rintro e w' ⟨rfl,q,rfl⟩)
     go_roundg (j-((i+j)/2+1))
     case measure=>omega
     case rel=>exact⟨(i+j)/2+1,j,n+q,os,by go_num,rfl,by omega,by omega,by omega,gh _,rfl,HB.out⟩
    |true=>
     rw[hv]at hl HB
     go_wp2_with (go_at_fn g;refine hl.mono ?_;rintro e w' ⟨rfl,q,rfl⟩)
     go_roundg ((i+j)/2-i)
     case measure=>omega
     case rel=>exact⟨i,(i+j)/2,n+q,os,rfl,by go_num,by omega,by omega,by omega,gh _,rfl,HB.out⟩
   ·obtain rfl:i=j:=by omega
    rw[yK,dif_neg hlt]at hbs;rw[<-hbs]at hle
    have E1:(i<m/\m<(a+b)/2+m-i/\Hid (oV lt d a m b=LU m d (m-i) ((a+b)/2+m-i-m)))\/(i<m/\¬m<(a+b)/2+m-i/\Hid (oV lt d a m b=d))\/(¬i<m/\Hid (oV lt d a m b=d)):=by
     unfold Hid oV;rw[<-hbs];by_cases h1:i<m<;>by_cases h2:m<(a+b)/2+m-i<;>simp[h1,h2]
    have E2:(a<i/\i<(a+b)/2/\Hid (ug lt d a m b=rn lt (oV lt d a m b) a i ((a+b)/2)))\/(a<i/\¬i<(a+b)/2/\Hid (ug lt d a m b=oV lt d a m b))\/(¬a<i/\Hid (ug lt d a m b=oV lt d a m b)):=by
     unfold Hid ug;rw[<-hbs];by_cases h1:a<i<;>by_cases h2:i<(a+b)/2<;>simp[h1,h2]
    have E3:((a+b)/2<(a+b)/2+m-i/\(a+b)/2+m-i<b/\Hid (rn lt d a m b=rn lt (ug lt d a m b) ((a+b)/2) ((a+b)/2+m-i) b))\/((a+b)/2<(a+b)/2+m-i/\¬(a+b)/2+m-i<b/\Hid (rn lt d a m b=ug lt d a m b))\/
     (¬(a+b)/2<(a+b)/2+m-i/\Hid (rn lt d a m b=ug lt d a m b)):=by
     unfold Hid;rw[XR hl hr,<-hbs];by_cases h1:(a+b)/2<(a+b)/2+m-i<;>by_cases h2:(a+b)/2+m-i<b<;>simp only[h1,h2,and_self,and_true,and_false,true_and,false_and,if_true,if_false,not_true,not_false_iff,or_true,or_false,true_or,false_or]
    clear hbs hst;rcases E1 with⟨p1,p2,E1⟩|⟨p1,p2,E1⟩|⟨p1,E1⟩<;>rcases E2 with⟨r1,r2,E2⟩|⟨r1,r2,E2⟩|⟨r1,E2⟩<;>rcases E3 with⟨u1,u2,E3⟩|⟨u1,u2,E3⟩|⟨u1,E3⟩
    all_goals
     go_wp2_with (first
      |(go_at_fn (ρ.f 42);refine(HR _ _ _ (by first|rfl|exact rN ..|(rw[yz lt _ _ _ _ _ (gh _)];first|rfl|exact rN ..)) i ((a+b)/2+m-i) _ _ (by omega) (by omega) (by omega) (by omega) (by omega)).mono ?_;rintro e' w' ⟨rfl,n2,os2,rfl⟩)
      |(go_at_fn (ρ.f 30);refine(HC _ _ _ (by first|rfl|exact rN ..|(rw[yz lt _ _ _ _ _ (gh _)];first|rfl|exact rN ..)) a i ((a+b)/2) _ _ _ (by omega) (by omega) (by omega) (by omega) (by omega) (by omega) (by omega)).mono ?_;rintro e' w' ⟨rfl,n3,os3,rfl⟩)
      |(go_at_fn (ρ.f 30);refine(HC _ _ _ (by first|rfl|exact rN ..|(rw[yz lt _ _ _ _ _ (gh _)];first|rfl|exact rN ..)) ((a+b)/2) ((a+b)/2+m-i) b _ _ _ (by omega) (by omega) (by omega) (by omega) (by omega) (by omega) (by omega)).mono ?_;rintro e' w' ⟨rfl,n4,os4,rfl⟩))
    all_goals
     go_end0
     refine⟨rfl,?_⟩;rw[E3.out,E2.out,E1.out];exact BB.fin _ _ _
 ·rw[a_ hm,a_ hm]at hst;have q3:decide (((a:Int)+(b:Int))/2<(m:Int))=false:=by simp only[d_]<;>omega
  go_enter L.f30,BodyGt.n30_ntmps ρ
  go_wp2
  go_loopg [18,19] (b-a) (fun kx s8 s9 wr=>∃(i j n:Nat) (os:Array Obj),s8= .int .i64 i/\s9= .int .i64 j/\a<=i/\i<=j/\j<=m/\j-i<=kx/\wr=sortWorldK enc k W1 blk off n d os/\
   yK (fun c=> !lt d[(a+b)/2+m-1-c]! d[c]!) i j=fO lt d a m b)
  case atStart=>exact⟨a,m,0, #[],(by first|rfl|(congr 1;omega)),(by first|rfl|go_num),by omega,by omega,by omega,by omega,hstart.symm,hst.symm⟩
  case round=>
   obtain⟨i,j,n,os,rfl,rfl,hai,hij,hjb,hkx,rfl,hbs⟩:=hrel;by_cases hlt:i<j
   ·have hl:=BB.less n d os rfl ((a+b)/2+m-1-(i+j)/2) ((i+j)/2) (by omega) (by omega);rw[show((((a+b)/2+m-1-(i+j)/2:Nat):Int))=((a:Int)+b)/2+m-1-((i:Int)+j)/2 by omega]at hl;rw[yK,dif_pos hlt]at hbs;have HB:Hid _:=hbs;clear hbs;cases hv:lt d[(a+b)/2+m-1-(i+j)/2]! d[(i+j)/2]! with
    |false=>
     rw[hv]at hl HB
     go_wp2_with (go_at_fn g;refine hl.mono ?_;rintro e w' ⟨rfl,q,rfl⟩)
     go_roundg (j-((i+j)/2+1))
     case measure=>omega
     case rel=>exact⟨(i+j)/2+1,j,n+q,os,by go_num,rfl,by omega,by omega,by omega,gh _,rfl,HB.out⟩
    |true=>
     rw[hv]at hl HB
     go_wp2_with (go_at_fn g;refine hl.mono ?_;rintro e w' ⟨rfl,q,rfl⟩)
     go_roundg ((i+j)/2-i)
     case measure=>omega
     case rel=>exact⟨i,(i+j)/2,n+q,os,rfl,by go_num,by omega,by omega,by omega,gh _,rfl,HB.out⟩
   ·obtain rfl:i=j:=by omega
    rw[yK,dif_neg hlt]at hbs;rw[<-hbs]at hle
    have E1:(i<m/\m<(a+b)/2+m-i/\Hid (oV lt d a m b=LU m d (m-i) ((a+b)/2+m-i-m)))\/(i<m/\¬m<(a+b)/2+m-i/\Hid (oV lt d a m b=d))\/(¬i<m/\Hid (oV lt d a m b=d)):=by
     unfold Hid oV;rw[<-hbs];by_cases h1:i<m<;>by_cases h2:m<(a+b)/2+m-i<;>simp[h1,h2]
    have E2:(a<i/\i<(a+b)/2/\Hid (ug lt d a m b=rn lt (oV lt d a m b) a i ((a+b)/2)))\/(a<i/\¬i<(a+b)/2/\Hid (ug lt d a m b=oV lt d a m b))\/(¬a<i/\Hid (ug lt d a m b=oV lt d a m b)):=by
     unfold Hid ug;rw[<-hbs];by_cases h1:a<i<;>by_cases h2:i<(a+b)/2<;>simp[h1,h2]
    have E3:((a+b)/2<(a+b)/2+m-i/\(a+b)/2+m-i<b/\Hid (rn lt d a m b=rn lt (ug lt d a m b) ((a+b)/2) ((a+b)/2+m-i) b))\/((a+b)/2<(a+b)/2+m-i/\¬(a+b)/2+m-i<b/\Hid (rn lt d a m b=ug lt d a m b))\/
     (¬(a+b)/2<(a+b)/2+m-i/\Hid (rn lt d a m b=ug lt d a m b)):=by
     unfold Hid;rw[XR hl hr,<-hbs];by_cases h1:(a+b)/2<(a+b)/2+m-i<;>by_cases h2:(a+b)/2+m-i<b<;>simp only[h1,h2,and_self,and_true,and_false,true_and,false_and,if_true,if_false,not_true,not_false_iff,or_true,or_false,true_or,false_or]
    clear hbs hst;rcases E1 with⟨p1,p2,E1⟩|⟨p1,p2,E1⟩|⟨p1,E1⟩<;>rcases E2 with⟨r1,r2,E2⟩|⟨r1,r2,E2⟩|⟨r1,E2⟩<;>rcases E3 with⟨u1,u2,E3⟩|⟨u1,u2,E3⟩|⟨u1,E3⟩
    all_goals
     go_wp2_with (first
      |(go_at_fn (ρ.f 42);refine(HR _ _ _ (by first|rfl|exact rN ..|(rw[yz lt _ _ _ _ _ (gh _)];first|rfl|exact rN ..)) i ((a+b)/2+m-i) _ _ (by omega) (by omega) (by omega) (by omega) (by omega)).mono ?_;rintro e' w' ⟨rfl,n2,os2,rfl⟩)
      |(go_at_fn (ρ.f 30);refine(HC _ _ _ (by first|rfl|exact rN ..|(rw[yz lt _ _ _ _ _ (gh _)];first|rfl|exact rN ..)) a i ((a+b)/2) _ _ _ (by omega) (by omega) (by omega) (by omega) (by omega) (by omega) (by omega)).mono ?_;rintro e' w' ⟨rfl,n3,os3,rfl⟩)
      |(go_at_fn (ρ.f 30);refine(HC _ _ _ (by first|rfl|exact rN ..|(rw[yz lt _ _ _ _ _ (gh _)];first|rfl|exact rN ..)) ((a+b)/2) ((a+b)/2+m-i) b _ _ _ (by omega) (by omega) (by omega) (by omega) (by omega) (by omega) (by omega)).mono ?_;rintro e' w' ⟨rfl,n4,os4,rfl⟩))
    all_goals
     go_end0
     refine⟨rfl,?_⟩;rw[E3.out,E2.out,E1.out];exact BB.fin _ _ _
variable{P:Program}{ρ:Ren}{α:Type}[Inhabited α]
def KG(lt:α->α->Bool)(d:Array α)(a n:Nat):Array α:=
 if a+20<=n then KG lt (Sort.insertionSort lt d a (a+20)) (a+20) n else Sort.insertionSort lt d a n
termination_by n-a
def Nq(lt:α->α->Bool)(d:Array α)(c a n:Nat):Array α:=
 if h:0<c/\a+2*c<=n then Nq lt (rn lt d a (a+c) (a+2*c)) c (a+2*c) n
 else if a+c<n then rn lt d a (a+c) n else d
termination_by n-a
def LO(lt:α->α->Bool)(d:Array α)(c n:Nat):Array α:=
 if h:0<c/\c<n then LO lt (Nq lt d c 0 n) (2*c) n else d
termination_by n-c
def F0(lt:α->α->Bool)(d:Array α):Array α:=LO lt (KG lt d 0 d.size) 20 d.size
theorem Pw(lt:α->α->Bool)(a:Nat):∀(j:Nat) (d:Array α),(Sort.insInner lt a j d).size=d.size
 |0,d=>by rw[Sort.insInner]
 |j+1,d=>by
  rw[Sort.insInner];split;rw[Pw lt a j,size_swp];rfl
def abd(lt:α->α->Bool)(a b i:Nat)(d:Array α):(Sort.insOuter lt a b i d).size=d.size:=by
 fun_induction Sort.insOuter lt a b i d with
 |case1 i d h c=>rw[c,Pw]
 |case2 i d h=>rfl
def pW(lt:α->α->Bool)(d:Array α)(a b:Nat):(Sort.insertionSort lt d a b).size=d.size:=abd ..
def Yw(lt:α->α->Bool)(d:Array α)(a n:Nat):(KG lt d a n).size=d.size:=by
 fun_induction KG lt d a n with
 |case1 d a h b=>rw[b,pW]
 |case2 d a h=>rw[pW]
def Ky(lt:α->α->Bool)(d:Array α)(a m b:Nat):(rn lt d a m b).size=d.size:=yz lt _ _ _ _ _ (gh _)
def ZG(lt:α->α->Bool)(d:Array α)(c a n:Nat):(Nq lt d c a n).size=d.size:=by
 fun_induction Nq lt d c a n with
 |case1 d a h b=>rw[b,Ky]
 |case2 d a h e=>rw[Ky]
 |case3 d a h e=>rfl
set_option maxHeartbeats 16000000 in
set_option maxRecDepth 1000000 in
def aiU(L:LaysGt.n15 P ρ){enc:α->List Value}{k:Nat}(hk:∀x,(enc x).length=k)(lt:α->α->Bool){g:Nat}{lb:Array Value}{sf:Nat}{sb:Array Value}{blk off:Nat}{d:Array α}{w:World}
 (eg:∀args w,(callFunc g args).run P w= .ok (.enter g args) w) (hless:LessReadsK P g lb enc k lt blk off d.size w) (hswap:SwapSwapsK P sf sb enc k blk off d.size)
 (hH:HoldsK enc k w blk off d) (hblk:blk<w.heap.size) (hsz:d.size<1152921504606846976):
 Calls P (ρ.f 15) #[.agg #[.func (.func g) #[] lb,.func (.func sf) #[] sb],.int .i64 d.size] w fun e w'=>e= .returned (.tuple #[])/\∃n os,w'=sortWorldK enc k w blk off n (F0 lt d) os:=by
 have LI:LaysGg.n26 P ρ.viaGt:=({L with}:LaysGt.n29 P ρ).elder;obtain⟨B,hstart⟩:=T3 (t:=ρ.t 42) hk hless hswap hH hblk;have hSW:∀n (X:Array α) os,SWK enc k w blk off X (sortWorldK enc k (w.alloc (.cells #[.func (.func g) #[] lb,.func (.func sf) #[] sb] (ρ.t 42))) blk off n X os):=fun n X os=>B.fin n X os
 have hins:∀n (X:Array α) os,X.size=d.size->∀(s e:Nat) (zs ze:Int),zs=s->ze=e->s<=e->e<=d.size->
  Calls P (ρ.f 29) #[.agg #[.func (.func g) #[] lb,.func (.func sf) #[] sb],.int .i64 zs,.int .i64 ze] (sortWorldK enc k (w.alloc (.cells #[.func (.func g) #[] lb,.func (.func sf) #[] sb] (ρ.t 42))) blk off n X os) fun e' w'=>
   e'= .returned (.tuple #[])/\∃n' os',w'=sortWorldK enc k (w.alloc (.cells #[.func (.func g) #[] lb,.func (.func sf) #[] sb] (ρ.t 42))) blk off n' (Sort.insertionSort lt X s e) os':=by
  intro n X os hX s e zs ze hs he h1 h2;subst hs;subst he;refine(Any.insertionSort_func_cells_w LI enc k hk lt g lb sf sb blk off s e X _ eg (by rw[hX];exact(hSW n X os).lessReads hless hblk hX) (by rw[hX];exact hswap) ((hSW n X os).holds hblk hH hX) ((hSW n X os).lt hblk) h1 (by omega) (by omega)).mono ?_;rintro e' w' ⟨rfl,n',os',rfl⟩;exact⟨rfl,_,_,sortWorldK_on enc k _ blk off n n' X _ os os' B.lt_blk (pW ..)⟩
 have hsym:∀n (X:Array α) os,X.size=d.size->∀(a' m' b':Nat) (za zm zb:Int),za=a'->zm=m'->zb=b'->a'<m'->m'<b'->b'<=d.size->
  Calls P (ρ.f 30) #[.agg #[.func (.func g) #[] lb,.func (.func sf) #[] sb],.int .i64 za,.int .i64 zm,.int .i64 zb] (sortWorldK enc k (w.alloc (.cells #[.func (.func g) #[] lb,.func (.func sf) #[] sb] (ρ.t 42))) blk off n X os) fun e' w'=>
   e'= .returned (.tuple #[])/\∃n' os',w'=sortWorldK enc k (w.alloc (.cells #[.func (.func g) #[] lb,.func (.func sf) #[] sb] (ρ.t 42))) blk off n' (rn lt X a' m' b') os':=by
  intro n X os hX a' m' b' za zm zb ha' hm' hb' h1 h2 h3;subst ha';subst hm';subst hb';refine(afT ({L with}:LaysGt.n30 P ρ) hk lt eg _ a' m' b' (d:=X) (gh _) (by rw[hX];exact(hSW n X os).lessReads hless hblk hX) (by rw[hX];exact hswap) ((hSW n X os).holds hblk hH hX) ((hSW n X os).lt hblk) h1 h2 (by omega) (by omega)).mono ?_;rintro e' w' ⟨rfl,n',os',rfl⟩;exact⟨rfl,_,_,sortWorldK_on enc k _ blk off n n' X _ os os' B.lt_blk (Ky ..)⟩
 have mixed:=L.mixed;have t0:=L.t0;have a0:=L.a0;have z0:=L.z0;have v0:=L.v0;have t3:=L.t3;have a3:=L.a3;have z3:=L.z3;have v3:=L.v3;have t4:=L.t4;have a4:=L.a4;have z4:=L.z4;have v4:=L.v4;have t26:=L.t26;have a26:=L.a26;have z26:=L.z26;have v26:=L.v26;have t38:=L.t38;have a38:=L.a38;have z38:=L.z38;have v38:=L.v38;have t42:=L.t42;have a42:=L.a42;have z42:=L.z42;have v42:=L.v42;have t47:=L.t47;have a47:=L.a47;have z47:=L.z47;have v47:=L.v47;have u42:=run_underlying L.t42;have e29:∀args w,(callFunc (ρ.f 29) args).run P w= .ok (.enter (ρ.f 29) args) w:=enters_of L.f29 (by kernel_rfl) rfl;have e30:∀args w,(callFunc (ρ.f 30) args).run P w= .ok (.enter (ρ.f 30) args) w:=enters_of L.f30 (by kernel_rfl) rfl;clear hless hswap hH hSW LI;generalize hW1:w.alloc (.cells #[.func (.func g) #[] lb,.func (.func sf) #[] sb] (ρ.t 42))=W1 at*
 have c0:=B.c0;have c1:=B.c1;have BB:Aside (afC P enc k lt g lb sf sb blk off d.size w.heap.size w W1):=B;clear B;have HI:Aside _:=hins;have HC:Aside _:=hsym;clear hins hsym;have hA:F0 lt d=LO lt (KG lt d 0 d.size) 20 d.size:=rfl;generalize hn:d.size=n at*
 go_enter L.f15,BodyGt.n15_ntmps ρ
 go_wp2
 go_loopg [5,6] n (fun kx s5 s6 wr=>∃(i q:Nat) (X:Array α) (os:Array Obj),s5= .int .i64 i/\s6= .int .i64 (i+20:Nat)/\i<=n/\n-i<=kx/\X.size=n/\wr=sortWorldK enc k W1 blk off q X os/\
  KG lt X i n=KG lt d 0 n)
 case atStart=>exact⟨0,0,d, #[],rfl,rfl,by omega,by omega,hn,hstart.symm,rfl⟩
 case round=>
  obtain⟨i,q,X,os,rfl,rfl,hin,hkx,hX,rfl,hs1⟩:=hrel;by_cases hlt:i+20<=n
  ·rw[KG,an hlt]at hs1;have H1:Hid _:=hs1;clear hs1
   go_wp2_with (go_at_fn (ρ.f 29);refine(HI _ _ _ hX i (i+20) _ _ (by omega) (by omega) (by omega) (by omega)).mono ?_;rintro e' w' ⟨rfl,n2,os2,rfl⟩)
   go_roundg (n-(i+20))
   case measure=>omega
   case rel=>exact⟨i+20,n2,_,os2,rfl,by go_num,by omega,gh _,by rw[pW];exact hX,rfl,H1.out⟩
  ·rw[KG,a_ hlt]at hs1;have H1:Hid _:=hs1;clear hs1
   go_wp2_with (go_at_fn (ρ.f 29);refine(HI _ _ _ hX i n _ _ (by omega) (by omega) (by omega) (by omega)).mono ?_;rintro e' w' ⟨rfl,n2,os2,rfl⟩)
   have hA2:LO lt (Sort.insertionSort lt X i n) 20 n=F0 lt d:=by rw[H1.out,hA]
   have HA2:Hid _:=hA2;clear hA2 hA H1
   go_loopg [4] n (fun kx s4 wr2=>∃(c q:Nat) (X:Array α) (os:Array Obj),s4= .int .i64 c/\20<=c/\c<=3*n+20/\n-c<=kx/\X.size=n/\wr2=sortWorldK enc k W1 blk off q X os/\LO lt X c n=F0 lt d)
   case atStart=>exact⟨20,n2,_,os2,by go_num,by omega,by omega,by omega,by rw[pW];exact hX,rfl,HA2.out⟩
   case round=>
    obtain⟨c,q2,X2,os3,rfl,hc20,hcn,hkx2,hX2,rfl,hs3⟩:=hrel;by_cases hc:c<n
    ·rw[LO,dif_pos ⟨by omega,hc⟩]at hs3;have H3:Hid _:=hs3;clear hs3
     go_wp2
     go_loopg [5,6] n (fun kx s5 s6 wr3=>∃(i q:Nat) (X:Array α) (os:Array Obj),s5= .int .i64 i/\s6= .int .i64 (i+2*c:Nat)/\i<=n/\n-i<=kx/\X.size=n/\wr3=sortWorldK enc k W1 blk off q X os/\
      Nq lt X c i n=Nq lt X2 c 0 n)
     case atStart=>exact⟨0,q2,X2,os3,rfl,by go_num,by omega,by omega,hX2,rfl,rfl⟩
     case round=>
      obtain⟨i3,q3,X3,os4,rfl,rfl,hin3,hkx3,hX3,rfl,hs2⟩:=hrel;by_cases h2c:i3+2*c<=n
      ·rw[Nq,dif_pos ⟨by omega,h2c⟩]at hs2;have H2:Hid _:=hs2;clear hs2
       go_wp2_with (go_at_fn (ρ.f 30);refine(HC _ _ _ hX3 i3 (i3+c) (i3+2*c) _ _ _ (by omega) (by omega) (by omega) (by omega) (by omega) (by omega)).mono ?_;rintro e' w' ⟨rfl,n5,os5,rfl⟩)
       go_roundg (n-(i3+2*c))
       case measure=>omega
       case rel=>exact⟨i3+2*c,n5,_,os5,rfl,(by first|rfl|(congr 1;omega)|go_num),by omega,gh _,by rw[Ky];exact hX3,rfl,H2.out⟩
      ·rw[Nq,dif_neg (by omega)]at hs2;by_cases h1c:i3+c<n
       ·rw[an h1c]at hs2;have H2:Hid _:=hs2;clear hs2
        go_wp2_with (go_at_fn (ρ.f 30);refine(HC _ _ _ hX3 i3 (i3+c) n _ _ _ (by omega) (by omega) (by omega) (by omega) (by omega) (by omega)).mono ?_;rintro e' w' ⟨rfl,n5,os5,rfl⟩)
        go_roundg (n-2*c)
        case measure=>omega
        case rel=>exact⟨2*c,n5,_,os5,(by first|rfl|(congr 1;omega)|go_num),by omega,by omega,gh _,by rw[Ky];exact hX3,rfl,by rw[H2.out];exact H3.out⟩
       ·rw[a_ h1c]at hs2;have H2:Hid _:=hs2;clear hs2
        go_wp2
        go_roundg (n-2*c)
        case measure=>omega
        case rel=>exact⟨2*c,q3,X3,os4,(by first|rfl|(congr 1;omega)|go_num),by omega,by omega,gh _,hX3,rfl,by rw[H2.out];exact H3.out⟩
    ·rw[LO,dif_neg (by omega)]at hs3;have H3:Hid _:=hs3;clear hs3
     go_wp2
     go_end0
     rw[<-H3.out];exact⟨rfl,BB.fin _ _ _⟩
variable{α:Type}
def EL(lt:α->α->Bool)(c x:α):Bool:= !lt c x&& !lt x c
def NT(lt:α->α->Bool)(l:List α):Prop:=l.Pairwise fun x y=>lt y x=false
def aaP{lt:α->α->Bool}(b:SWO lt)(x:α):EL lt x x=true:=by simp[EL,b.irrefl]
def It{lt:α->α->Bool}(e:SWO lt){b d:List α}(h:∀c,b.filter (EL lt c)=d.filter (EL lt c)){x:α}(f:x∈b):x∈d:=by
 have:x∈b.filter (EL lt x):=aqH.2 ⟨f,aaP e x⟩;rw[h x]at this;exact(aqH.1 this).1
theorem YB{lt:α->α->Bool}(b:SWO lt):∀ {f d:List α},NT lt f->NT lt d->(∀c,f.filter (EL lt c)=d.filter (EL lt c))->f=d
 | [],d,_,_,h=>by
   cases d with
   |nil=>rfl
   |cons y r=>exact absurd (It b (fun c=>(h c).symm) (apN (a:=y) (l:=r))) (by simp)
 |x::r1,[],_,_,h=>absurd (It b h (apN (a:=x) (l:=r1))) (by simp)
 |x::r1,y::r2,h1,h2,h=>by
  have j:=aqt.1 h1;have k:=aqt.1 h2
  have g:lt x y=false:=by
   rcases apz.1 (It b h (apN (a:=x) (l:=r1)))with e|e;rw[e];exact b.irrefl y;exact k.1 x e
  have i:lt y x=false:=by
   rcases apz.1 (It b (fun c=>(h c).symm) (apN (a:=y) (l:=r2)))with e|e;rw[e];exact b.irrefl x;exact j.1 y e
  have m:=h x;rw[apO (aaP b x),apO (show EL lt x y=true by simp[EL,g,i])]at m;obtain⟨rfl,_⟩:=ap2 m;congr 1;refine YB b j.2 k.2 fun c=> ?_;have hc:=h c;rw[aqB,aqB]at hc;split at hc;exact(ap2 hc).2;exact hc
def RB{lt:α->α->Bool}(i:SWO lt){X Y:List α}(h:∀x∈X,∀y∈Y,lt y x=true)(c:α):(X++Y).filter (EL lt c)=(Y++X).filter (EL lt c):=by
 rw[apm,apm];by_cases e:∃x∈X,EL lt c x=true;obtain⟨x,e,b⟩:=e
 have:Y.filter (EL lt c)=[]:=by
  rw[aqk];intro y g d;simp only[EL,z_,apC]at b d;have j:=h x e y g;have:=i.ntrans y c x d.2 b.1;rw[j]at this;cases this
 rw[this];simp
 have:X.filter (EL lt c)=[]:=by
  rw[aqk];intro x f b;exact e ⟨x,f,b⟩
 rw[this];simp
variable[Inhabited α]
def fy(d:Array α)(a b:Nat):List α:=(aqz a (b-a)).map fun t=>d[t]!
def qY(d:Array α){a b c:Nat}(h1:a<=b)(h2:b<=c):fy d a c=fy d a b++fy d b c:=by
 unfold fy;rw[<-aqd,show c-a=(b-a)+(c-b) by omega,<-List.range'_append_1,show a+(b-a)=b by omega]
def Ir(d:Array α){a b:Nat}(h:b<=a):fy d a b=[]:=by unfold fy;rw[show b-a=0 by omega];rfl
def JF(d:Array α){a b:Nat}(h:a<b):fy d a b=d[a]! ::fy d (a+1) b:=by
 unfold fy;rw[show b-a=(b-(a+1))+1 by omega,ap8];rfl
def aiS(d:Array α){a b:Nat}(h:a<b):fy d a b=fy d a (b-1)++[d[b-1]!]:=by
 rw[qY d (show a<=b-1 by omega) (show b-1<=b by omega),JF d (a:=b-1) (b:=b) (by omega),Ir d (a:=b-1+1) (b:=b) (by omega)]
def IC{d:Array α}{a b:Nat}{x:α}:x∈fy d a b↔∃t,a<=t/\t<b/\d[t]! =x:=by
 unfold fy;simp only[ap9,ap3];constructor;rintro⟨t,⟨c,e⟩,rfl⟩;exact⟨t,c,by omega,rfl⟩;rintro⟨t,c,e,rfl⟩;exact⟨t,⟨c,by omega⟩,rfl⟩
def wu{d d':Array α}{a b:Nat}(h:∀t,a<=t->t<b->d'[t]! =d[t]!):fy d' a b=fy d a b:=by
 unfold fy;refine aqr fun t c=> ?_;have:=ap3.1 c;exact h t this.1 (by omega)
def RC{d d':Array α}{a b s:Nat}(h:∀t,a<=t->t<b->d'[t]! =d[t+s]!):fy d' a b=fy d (a+s) (b+s):=by
 unfold fy;rw[show b+s-(a+s)=b-a by omega];apply List.ext_getElem;simp;intro i c h2;simp only[List.length_map,aqu]at c;simp only[aqC,apK,apT];rw[h (a+i) (by omega) (by omega),show a+i+s=a+s+i by omega]
def Zw(d:Array α)(a b:Nat):(fy d a b).length=b-a:=by simp[fy]
def Tb{lt:α->α->Bool}{d:Array α}{a b:Nat}:NT lt (fy d a b)↔∀i j,a<=i->i<j->j<b->lt d[j]! d[i]! =false:=by
 unfold NT fy;rw[List.pairwise_map,List.pairwise_iff_getElem];constructor;intro h i j c e f;have:=h (i-a) (j-a) (by simp;omega) (by simp;omega) (by omega);simp only[apK,apT]at this;rwa [show a+(i-a)=i by omega,show a+(j-a)=j by omega]at this;intro h i j c e f;simp only[aqu]at c e;simp only[apK,apT];exact h _ _ (by omega) (by omega) (by omega)
variable{α:Type}[Inhabited α]
def Wc{d:Array α}{i j t:Nat}(hi:i<d.size)(f:j<d.size):(swp d i j)[t]! =if t=j then d[i]! else if t=i then d[j]! else d[t]! :=by
 unfold swp;by_cases c:t<d.size;simp only[getElem!_pos,c,hi,f,Array.size_setIfInBounds,Array.getElem_setIfInBounds];by_cases b:t=j;subst b;simp;by_cases e:t=i;subst e;simp[b,Ne.symm b];simp[b,e,Ne.symm b,Ne.symm e];rw[getElem!_neg _ _ (by simpa using c)];rw[a_ (by omega),a_ (by omega),getElem!_neg _ _ (by simpa using c)]
theorem Mh{d:Array α}{a b:Nat}:∀(n:Nat),a+n<=b->b+n<=d.size->∀t,(Ea d a b n)[t]! =if a<=t/\t<a+n then d[t-a+b]! else if b<=t/\t<b+n then d[t-b+a]! else d[t]!
 |0,_,_,t=>by rw[Ea,a_ (by omega),a_ (by omega)]
 |n+1,h1,h2,t=>by
  rw[Ea,Wc (by rw[sV];omega) (by rw[sV];omega)];rw[Mh n (by omega) (by omega),Mh n (by omega) (by omega),Mh n (by omega) (by omega)];by_cases c:t=b+n;subst c;rw[an rfl,a_ (by omega),a_ (by omega),a_ (by omega),an (by omega)];congr 1;omega;rw[a_ c];by_cases e:t=a+n;subst e;rw[an rfl,a_ (by omega),a_ (by omega),an (by omega)];congr 1;omega;rw[a_ e];by_cases f:a<=t/\t<a+n;rw[an f,an (by omega)];rw[a_ f];by_cases g:b<=t/\t<b+n;rw[an g,a_ (by omega),an (by omega)];rw[a_ g,a_ (by omega),a_ (by omega)]
def aiX{m:Nat}{d:Array α}{i j:Nat}(hi:0<i)(hj:0<j)(him:i<=m)(hmj:m+j<=d.size)(t:Nat):
 (LU m d i j)[t]! =if m-i<=t/\t<m-i+j then d[t+i]! else if m-i+j<=t/\t<m+j then d[t-j]! else d[t]! :=by
 fun_induction LU m d i j with
 |case1 d i j e f c=>
  have g:=fun t=>Mh (d:=d) (a:=m-i) (b:=m) j (by omega) (by omega) t;rw[c (by omega) (by omega) (by omega) (by rw[sV];omega),g,g,g]
  repeat' split
  all_goals first|rfl|(exfalso;omega)|(congr 1;omega)
 |case2 d i j e f c=>
  have g:=fun t=>Mh (d:=d) (a:=m-i) (b:=m+j-i) i (by omega) (by omega) t;rw[c (by omega) (by omega) (by omega) (by rw[sV];omega),g,g,g]
  repeat' split
  all_goals first|rfl|(exfalso;omega)|(congr 1;omega)
 |case3 d i j h=>
  obtain rfl:i=j:=by omega
  rw[Mh (d:=d) (a:=m-i) (b:=m) i (by omega) (by omega) t]
  repeat' split
  all_goals first|rfl|(exfalso;omega)|(congr 1;omega)
def afZ{d:Array α}{k e:Nat}(hk:k<=e)(he:e<d.size)(t:Nat):(Be d k e)[t]! =if k<=t/\t<e then d[t+1]! else if t=e then d[k]! else d[t]! :=by
 fun_induction Be d k e with
 |case1 d k h b=>
  have g:=fun t=>Wc (d:=d) (i:=k) (j:=k+1) (t:=t) (by omega) (by omega);rw[b (by omega) (by rw[size_swp];omega),g,g,g]
  repeat' split
  all_goals first|rfl|(exfalso;omega)|(congr 1;omega)
 |case2 d k h=>
  repeat' split
  all_goals first|rfl|(exfalso;omega)|(congr 1;omega)
def abV{d:Array α}{k e:Nat}(hk:e<=k)(he:k<d.size)(t:Nat):(tc d k e)[t]! =if e<t/\t<=k then d[t-1]! else if t=e then d[k]! else d[t]! :=by
 fun_induction tc d k e with
 |case1 d k h b=>
  have g:=fun t=>Wc (d:=d) (i:=k) (j:=k-1) (t:=t) (by omega) (by omega);rw[b (by omega) (by rw[size_swp];omega),g,g,g]
  repeat' split
  all_goals first|rfl|(exfalso;omega)|(congr 1;omega)
 |case2 d k h=>
  repeat' split
  all_goals first|rfl|(exfalso;omega)|(congr 1;omega)
def W6(p:Nat->Bool){i j lo hi:Nat}(h:i<=j)(d:lo<i->p (i-1)=true)(e:j<hi->p j=false)(g:lo<=i)(k:j<=hi):
 (lo<yK p i j->p (yK p i j-1)=true)/\(yK p i j<hi->p (yK p i j)=false):=by
 fun_induction yK p i j with
 |case1 i j b f c=>exact c (by omega) (fun _=>by rwa [aqv]) e (by omega) k
 |case2 i j b f c=>exact c (by omega) d (fun _=>by simpa using f) g (by omega)
 |case3 i j b=>
  obtain rfl:i=j:=by omega
  exact⟨d,e⟩
variable{α:Type}[Inhabited α]
def asym{lt:α->α->Bool}(b:SWO lt){x y:α}(h:lt x y=true):lt y x=false:=by
 cases c:lt y x with
 |false=>rfl
 |true=>have:=b.trans _ _ _ h c;rw[b.irrefl]at this;cases this
structure SD(lt:α->α->Bool)(d r:Array α)(a b:Nat):Prop where
 asc:NT lt (fy r a b)
 same:∀c,(fy r a b).filter (EL lt c)=(fy d a b).filter (EL lt c)
 out:∀t,t<a\/b<=t->r[t]! =d[t]!
def KD{lt:α->α->Bool}{b c:List α}:NT lt (b++c)↔NT lt b/\NT lt c/\∀x∈b,∀y∈c,lt y x=false:=List.pairwise_append
def ZL{lt:α->α->Bool}(u:SWO lt){d:Array α}{a b:Nat}(hab:a+1<b)(hb:b<=d.size)(z:NT lt (fy d (a+1) b)):
 SD lt d (Be d a (yK (fun h=>lt d[h]! d[a]!) (a+1) b-1)) a b:=by
 have hle:=VH (fun h=>lt d[h]! d[a]!) (a+1) b (by omega);have p:=W6 (fun h=>lt d[h]! d[a]!) (i:=a+1) (j:=b) (lo:=a+1) (hi:=b) (by omega) (fun h=>by omega) (fun h=>by omega) (by omega) (by omega);generalize yK (fun h=>lt d[h]! d[a]!) (a+1) b=i at*
 have B:=Tb.1 z
 have D:∀h,a+1<=h->h<i->lt d[h]! d[a]! =true:=fun h n o=>by
  have e:=p.1 (by omega);rcases Y' h (i-1)with g|g;cases H:lt d[h]! d[a]! with
  |true=>rfl
  |false=>have:=u.ntrans _ _ _ (B h (i-1) n g (by omega)) H;rw[e]at this;cases this
  rw[show h=i-1 by omega];exact e
 have I:∀h,i<=h->h<b->lt d[h]! d[a]! =false:=fun h n o=>by
  have e:=p.2 (by omega);rcases Y' i h with g|g;exact u.ntrans _ _ _ (B i h (by omega) g o) e;rw[show h=i by omega];exact e
 have v:=fun t=>afZ (d:=d) (k:=a) (e:=i-1) (by omega) (by omega) t
 have J:fy (Be d a (i-1)) a (i-1)=fy d (a+1) i:=by
  rw[RC (s:=1) (d:=d) (fun t n o=>by rw[v,an ⟨n,o⟩]),show i-1+1=i by omega]
 have K:fy (Be d a (i-1)) i b=fy d i b:=wu fun t n o=>by rw[v,a_ (by omega),a_ (by omega)]
 have F:fy (Be d a (i-1)) a b=fy d (a+1) i++([d[a]!]++fy d i b):=by
  rw[qY _ (show a<=i-1 by omega) (show i-1<=b by omega),J,JF _ (show i-1<b by omega),show i-1+1=i by omega,K,v,a_ (by omega),an rfl];rfl
 have N:fy d a b=[d[a]!]++(fy d (a+1) i++fy d i b):=by
  rw[JF _ (show a<b by omega),qY d (show a+1<=i by omega) (show i<=b by omega)];rfl
 have l:=KD.1 (by rw[<-qY d (show a+1<=i by omega) (show i<=b by omega)];exact z:NT lt (fy d (a+1) i++fy d i b));refine⟨?_,fun c=> ?_,fun t ht=>by rw[v,a_ (by omega),a_ (by omega)]⟩;rw[F,KD,KD];refine⟨l.1,⟨aqb _ _,l.2.1,fun x m y f=> ?_⟩,fun x m y f=> ?_⟩;obtain rfl:=apk.1 m;obtain⟨t,q,r,rfl⟩:=IC.1 f;exact I t q r;rcases apY.1 f with f|f;obtain rfl:=apk.1 f;obtain⟨t,q,r,rfl⟩:=IC.1 m;exact asym u (D t q r);exact l.2.2 x m y f;rw[F,N,<-apD,<-apD,apm,apm (l₁:=[d[a]!]++fy d (a+1) i)];congr 1;refine(RB u (fun x m y f=> ?_) c).symm;obtain rfl:=apk.1 m;obtain⟨t,q,r,rfl⟩:=IC.1 f;exact D t q r
def YX{lt:α->α->Bool}(u:SWO lt){d:Array α}{a m:Nat}(ham:a<m)(hb:m+1<=d.size)(z:NT lt (fy d a m)):
 SD lt d (tc d m (yK (fun h=> !lt d[m]! d[h]!) a m)) a (m+1):=by
 have hle:=VH (fun h=> !lt d[m]! d[h]!) a m (by omega);have f:=W6 (fun h=> !lt d[m]! d[h]!) (i:=a) (j:=m) (lo:=a) (hi:=m) (by omega) (fun h=>by omega) (fun h=>by omega) (by omega) (by omega);generalize yK (fun h=> !lt d[m]! d[h]!) a m=i at*
 simp only[apC,aqw]at f;have B:=Tb.1 z
 have H:∀h,a<=h->h<i->lt d[m]! d[h]! =false:=fun h q r=>by
  have e:=f.1 (by omega);rcases Y' h (i-1)with g|g;exact u.ntrans _ _ _ e (B h (i-1) q g (by omega));rw[show h=i-1 by omega];exact e
 have D:∀h,i<=h->h<m->lt d[m]! d[h]! =true:=fun h q r=>by
  have e:=f.2 (by omega);rcases Y' i h with g|g;cases I:lt d[m]! d[h]! with
  |true=>rfl
  |false=>have:=u.ntrans _ _ _ I (B i h (by omega) g r);rw[e]at this;cases this
  rw[show h=i by omega];exact e
 have v:=fun t=>abV (d:=d) (k:=m) (e:=i) (by omega) (by omega) t;have J:fy (tc d m i) a i=fy d a i:=wu fun t q r=>by rw[v,a_ (by omega),a_ (by omega)]
 have K:fy d i m=fy (tc d m i) (i+1) (m+1):=RC (s:=1) fun t q r=>by rw[v,an (by omega)];congr 1
 have F:fy (tc d m i) a (m+1)=fy d a i++([d[m]!]++fy d i m):=by
  rw[qY _ (show a<=i by omega) (show i<=m+1 by omega),J,JF _ (show i<m+1 by omega),<-K,v,a_ (by omega),an rfl];rfl
 have N:fy d a (m+1)=fy d a i++(fy d i m++[d[m]!]):=by
  rw[qY _ (show a<=i by omega) (show i<=m+1 by omega),aiS _ (show i<m+1 by omega),aqv]
 have l:=KD.1 (by rw[<-qY d (show a<=i by omega) (show i<=m by omega)];exact z:NT lt (fy d a i++fy d i m));refine⟨?_,fun c=> ?_,fun t ht=>by rw[v,a_ (by omega),a_ (by omega)]⟩;rw[F,KD,KD];refine⟨l.1,⟨aqb _ _,l.2.1,fun x n y b=> ?_⟩,fun x n y b=> ?_⟩;obtain rfl:=apk.1 n;obtain⟨t,o,p,rfl⟩:=IC.1 b;exact asym u (D t o p);rcases apY.1 b with b|b;obtain rfl:=apk.1 b;obtain⟨t,o,p,rfl⟩:=IC.1 n;exact H t o p;exact l.2.2 x n y b;rw[F,N,apm,apm (l₁:=fy d a i)];congr 1;refine(RB u (fun x n y b=> ?_) c).symm;obtain rfl:=apk.1 b;obtain⟨t,o,p,rfl⟩:=IC.1 n;exact D t o p
variable{α:Type}[Inhabited α]
theorem Oo{lt:α->α->Bool}(n:SWO lt):∀(N:Nat) {d:Array α} {a m b:Nat},b-a<=N->a<m->m<b->b<=d.size->NT lt (fy d a m)->NT lt (fy d m b)->SD lt d (rn lt d a m b) a b
 |0,d,a,m,b,hN,ham,hmb,hb,h1,h2=>by omega
 |N+1,d,a,m,b,hN,ham,hmb,hb,h1,h2=>by
  by_cases hl:m<=a+1;obtain rfl:m=a+1:=by omega
  rw[rn,an hl];exact ZL n (by omega) hb h2;by_cases hr:b<=m+1;obtain rfl:b=m+1:=by omega
  rw[rn,a_ hl,an (gh _)];exact YX n ham hb h1;rw[XR hl hr];have hle:=WQ (lt:=lt) (d:=d) ham hmb
  have D:(a<fO lt d a m b->(a+b)/2+m-fO lt d a m b<b->lt d[(a+b)/2+m-fO lt d a m b]! d[fO lt d a m b-1]! =false)/\
   (fO lt d a m b<m->m<(a+b)/2+m-fO lt d a m b->lt d[(a+b)/2+m-fO lt d a m b-1]! d[fO lt d a m b]! =true):=by
   unfold fO
   have H:=W6 (fun c=> !lt d[(a+b)/2+m-1-c]! d[c]!) (i:=if(a+b)/2<m then(a+b)/2+m-b else a) (j:=if(a+b)/2<m then(a+b)/2 else m)
    (lo:=if(a+b)/2<m then(a+b)/2+m-b else a) (hi:=if(a+b)/2<m then(a+b)/2 else m) (by split<;>omega) (fun h=>by omega) (fun h=>by omega) (gh _) (gh _)
   have hb2:=VH (fun c=> !lt d[(a+b)/2+m-1-c]! d[c]!) (if(a+b)/2<m then(a+b)/2+m-b else a) (if(a+b)/2<m then(a+b)/2 else m) (by split<;>omega);generalize yK (fun c=> !lt d[(a+b)/2+m-1-c]! d[c]!) (if(a+b)/2<m then(a+b)/2+m-b else a) (if(a+b)/2<m then(a+b)/2 else m)=s at*
   simp only[apC,aqw]at H;refine⟨fun q v=> ?_,fun q v=> ?_⟩;have:=H.1 (by split<;>omega);rw[show(a+b)/2+m-1-(s-1)=(a+b)/2+m-s by omega]at this;exact this;have:=H.2 (by split<;>omega);rw[show(a+b)/2+m-1-s=(a+b)/2+m-s-1 by omega]at this;exact this
  have k:oV lt d a m b=if fO lt d a m b<m/\m<(a+b)/2+m-fO lt d a m b then LU m d (m-fO lt d a m b) ((a+b)/2+m-fO lt d a m b-m)else d:=rfl
  have l:ug lt d a m b=if a<fO lt d a m b/\fO lt d a m b<(a+b)/2 then rn lt (oV lt d a m b) a (fO lt d a m b) ((a+b)/2)else oV lt d a m b:=rfl
  have hz1:=Ix lt d a m b;have hz2:=aew lt d a m b;generalize fO lt d a m b=s at*
  generalize oV lt d a m b=d1 at*
  generalize ug lt d a m b=d2 at*
  obtain⟨B,X,Y,hs4⟩:=hle;obtain⟨e,H⟩:∃e,e=(a+b)/2+m-s:=⟨_,rfl⟩
  rw[<-H]at D k|-;obtain⟨f,b0⟩:∃f,f=(a+b)/2:=⟨_,rfl⟩
  rw[<-b0]at H l Y|-;have J:=KD.1 (by rw[<-qY d B X];exact h1:NT lt (fy d a s++fy d s m));have K:=KD.1 (by rw[<-qY d (show m<=e by omega) (show e<=b by omega)];exact h2:NT lt (fy d m e++fy d e b));have a1:=Tb.1 h1;have a2:=Tb.1 h2
  have F1:∀x∈fy d s m,∀y∈fy d m e,lt y x=true:=fun x o y p=>by
   obtain⟨t,t1,t2,rfl⟩:=IC.1 o;obtain⟨u,u1,u2,rfl⟩:=IC.1 p;have h0:=D.2 (by omega) (by omega)
   have q1:lt d[t]! d[s]! =false:=by
    rcases Y' s t with g|g;exact a1 s t B g t2;rw[show t=s by omega];exact n.irrefl _
   have q2:lt d[e-1]! d[u]! =false:=by
    rcases Y' u (e-1)with g|g;exact a2 u (e-1) u1 g (by omega);rw[show u=e-1 by omega];exact n.irrefl _
   cases hv:lt d[u]! d[t]! with
   |true=>rfl
   |false=>
    have:=n.ntrans _ _ _ (n.ntrans _ _ _ q2 hv) q1;rw[h0]at this;cases this
  have F2:∀x∈fy d a s,∀y∈fy d e b,lt y x=false:=fun x o y p=>by
   obtain⟨t,t1,t2,rfl⟩:=IC.1 o;obtain⟨u,u1,u2,rfl⟩:=IC.1 p;have h0:=D.1 (by omega) (by omega)
   have q1:lt d[s-1]! d[t]! =false:=by
    rcases Y' t (s-1)with g|g;exact a1 t (s-1) t1 g (by omega);rw[show t=s-1 by omega];exact n.irrefl _
   have q2:lt d[u]! d[e]! =false:=by
    rcases Y' e u with g|g;exact a2 e u (by omega) g u2;rw[show u=e by omega];exact n.irrefl _
   exact n.ntrans _ _ _ q2 (n.ntrans _ _ _ h0 q1)
  have R:fy d1 a s=fy d a s/\fy d1 s f=fy d m e/\fy d1 f e=fy d s m/\fy d1 e b=fy d e b/\∀t,t<a\/b<=t->d1[t]! =d[t]! :=by
   by_cases hc:s<m/\m<e;rw[an hc]at k;have g:=fun t=>aiX (m:=m) (d:=d) (i:=m-s) (j:=e-m) (by omega) (by omega) (by omega) (by omega) t;rw[<-k]at g;refine⟨wu fun t q v=>by rw[g,a_ (by omega),a_ (by omega)],?_,?_,wu fun t q v=>by rw[g,a_ (by omega),a_ (by omega)],fun t F=>by rw[g,a_ (by omega),a_ (by omega)]⟩;rw[RC (s:=m-s) (d:=d) fun t q v=>by rw[g,an (by omega)]];congr 1<;>omega;have:fy d s m=fy d1 (s+(e-m)) (m+(e-m)):=RC fun t q v=>by rw[g,a_ (by omega),an (by omega)];congr 1;omega
   rw[this];congr 1<;>omega;rw[a_ hc]at k;subst k;rcases Y' s m with g|g;have q:e=m:=by omega
   have v:f=s:=by omega
   exact⟨rfl,by rw[Ir _ (by omega),Ir _ (by omega)],by congr 1<;>omega,rfl,fun t F=>rfl⟩;have q:s=m:=by omega
   have v:f=e:=by omega
   exact⟨rfl,by congr 1,by rw[Ir _ (by omega),Ir _ (by omega)],rfl,fun t F=>rfl⟩
  obtain⟨r1,r2,r3,r4,r5⟩:=R
  have I:SD lt d1 d2 a f:=by
   by_cases hc:a<s/\s<f;rw[an hc]at l;rw[l];exact Oo n N (by omega) hc.1 hc.2 (by omega) (by rw[r1];exact J.1) (by rw[r2];exact K.1);rw[a_ hc]at l;subst l;refine⟨?_,fun c=>rfl,fun t F=>rfl⟩;rcases Y' a s with g|g;rw[show f=s by omega,r1];exact J.1;rw[show a=s by omega,r2];exact K.1
  have e0:fy d a b=fy d a s++fy d s m++(fy d m e++fy d e b):=by
   rw[qY d (show a<=m by omega) (show m<=b by omega),qY d B X,qY d (show m<=e by omega) (show e<=b by omega)]
  have S:fy d1 a f=fy d a s++fy d m e:=by rw[qY d1 B Y,r1,r2]
  have k3:fy d2 f e=fy d s m:=by rw[<-r3];exact wu fun t q v=>I.out t (by omega)
  have k4:fy d2 e b=fy d e b:=by rw[<-r4];exact wu fun t q v=>I.out t (by omega)
  have z:fy d2 f b=fy d s m++fy d e b:=by rw[qY d2 (show f<=e by omega) (show e<=b by omega),k3,k4]
  have W:SD lt d2 (if f<e/\e<b then rn lt d2 f e b else d2) f b:=by
   by_cases hc:f<e/\e<b;rw[an hc];exact Oo n N (by omega) hc.1 hc.2 (by omega) (by rw[k3];exact J.2.1) (by rw[k4];exact K.2.1);rw[a_ hc];refine⟨?_,fun c=>rfl,fun t F=>rfl⟩;rcases Y' f e with g|g;rw[z,Ir d (show b<=e by omega),aqf];exact J.2.1;rw[z,Ir d (show m<=s by omega),aqg];exact K.2.1
  generalize (if f<e/\e<b then rn lt d2 f e b else d2)=r at*
  have rA:fy r a f=fy d2 a f:=wu fun t q v=>W.out t (by omega);have rs:fy r a b=fy d2 a f++fy r f b:=by rw[qY r (show a<=f by omega) (show f<=b by omega),rA]
  have m1:∀x∈fy d2 a f,x∈fy d a s\/x∈fy d m e:=fun x o=>by
   have:=It n I.same o;rw[S]at this;exact apY.1 this
  have m2:∀x∈fy r f b,x∈fy d s m\/x∈fy d e b:=fun x o=>by
   have:=It n W.same o;rw[z]at this;exact apY.1 this
  refine⟨?_,fun c=> ?_,fun t F=> ?_⟩;rw[rs,KD];refine⟨I.asc,W.asc,fun x o y p=> ?_⟩;rcases m1 x o with o|o<;>rcases m2 y p with p|p;exact J.2.2 x o y p;exact F2 x o y p;exact asym n (F1 y p x o);exact K.2.2 x o y p;rw[rs,apm,I.same,W.same,S,z,e0];have:=RB n F1 c;simp only[apm]at this|-;rw[apD,<-apD (List.filter (EL lt c) (fy d m e)),<-this];simp only[apD];rw[W.out t (by omega),I.out t (by omega),r5 t F]
variable{α:Type}[Inhabited α]
structure pG(lt:α->α->Bool)(d r:Array α)(a b:Nat):Prop where
 same:∀c,(fy r a b).filter (EL lt c)=(fy d a b).filter (EL lt c)
 out:∀t,t<a\/b<=t->r[t]! =d[t]!
theorem pG.trans{lt:α->α->Bool}{d e r:Array α}{a b:Nat}(o:pG lt d e a b)(p:pG lt e r a b):pG lt d r a b:=
 ⟨fun c=>(p.same c).trans (o.same c),fun t h=>(p.out t h).trans (o.out t h)⟩
theorem pG.Zh{lt:α->α->Bool}{d r:Array α}{a b q o:Nat}(h:pG lt d r a b)(p:a<=b)(u:q<=a)(v:b<=o):pG lt d r q o:=by
 refine⟨fun c=> ?_,fun t ht=>h.out t (by omega)⟩;rw[qY r u (show a<=o by omega),qY r p v,qY d u (show a<=o by omega),qY d p v];rw[wu (d:=d) (d':=r) (a:=q) (b:=a) fun t y z=>h.out t (by omega),wu (d:=d) (d':=r) (a:=b) (b:=o) fun t y z=>h.out t (by omega)];simp only[apm,h.same c]
theorem pG.refl{lt:α->α->Bool}(d:Array α)(a b:Nat):pG lt d d a b:=⟨fun _=>rfl,fun _ _=>rfl⟩
def aiW{lt:α->α->Bool}(f:SWO lt){d:Array α}{j:Nat}(hj:j+1<d.size)(h:lt d[j+1]! d[j]! =true):pG lt d (swp d (j+1) j) j (j+2):=by
 have g:=fun t=>Wc (d:=d) (i:=j+1) (j:=j) (t:=t) (by omega) (by omega);refine⟨fun c=> ?_,fun t ht=>by rw[g,a_ (by omega),a_ (by omega)]⟩;rw[JF (swp d (j+1) j) (show j<j+2 by omega),JF (swp d (j+1) j) (show j+1<j+2 by omega),Ir _ (by omega),JF d (show j<j+2 by omega),JF d (show j+1<j+2 by omega),Ir _ (by omega)];rw[g,g,an rfl,a_ (by omega),an rfl];refine(RB (X:=[d[j]!]) (Y:=[d[j+1]!]) f (fun x b y e=> ?_) c).symm;obtain rfl:=apk.1 b;obtain rfl:=apk.1 e;exact h
theorem UT{lt:α->α->Bool}(c:SWO lt){a b:Nat}:∀(j:Nat) {d:Array α},a<=j->j<b->b<=d.size->pG lt d (Sort.insInner lt a j d) a b
 |0,d,h1,h2,h3=>by rw[Sort.insInner];exact pG.refl ..
 |j+1,d,h1,h2,h3=>by
  rw[Sort.insInner];split;rename_i hc;simp only[gt_iff_lt,z_,b_]at hc;refine((aiW c (by omega) hc.2).Zh (by omega) (by omega) (by omega)).trans (UT c j (by omega) (by omega) (by rw[size_swp];omega));exact pG.refl ..
def aa8{lt:α->α->Bool}(e:SWO lt){a b i:Nat}{d:Array α}(hi:a<=i)(c:b<=d.size):pG lt d (Sort.insOuter lt a b i d) a b:=by
 fun_induction Sort.insOuter lt a b i d with
 |case1 i d h f=>exact(UT e i hi h c).trans (f (by omega) (by rw[Pw];exact c))
 |case2 i d h=>exact pG.refl ..
def LX{lt:α->α->Bool}(e:SWO lt){d:Array α}{a b:Nat}(c:a<=b)(f:b<=d.size):SD lt d (Sort.insertionSort lt d a b) a b:=by
 have g:=aa8 e (a:=a) (b:=b) (i:=a+1) (d:=d) (by omega) f;refine⟨?_,g.same,g.out⟩;have h:=(insertionSort_holds e d a b c f).2;rw[Tb];exact h
def AV(lt:α->α->Bool)(d:Array α)(c a n:Nat):Prop:=if h:0<c/\a<n then NT lt (fy d a (min (a+c) n))/\AV lt d c (a+c) n else True
termination_by n-a
def afu{lt:α->α->Bool}{d r:Array α}{c a n:Nat}(h:∀t,a<=t->r[t]! =d[t]!)(b:AV lt d c a n):AV lt r c a n:=by
 fun_induction AV lt d c a n with
 |case1 a hc f=>
  rw[AV,dif_pos hc];exact⟨by rw[wu fun t e g2=>h t e];exact b.1,f (fun t ht=>h t (by omega)) b.2⟩
 |case2 a hc=>rw[AV,dif_neg hc];trivial
def aij{lt:α->α->Bool}(c:SWO lt){d:Array α}{a n:Nat}(g:a<=n)(e:n<=d.size):pG lt d (KG lt d a n) a n/\AV lt (KG lt d a n) 20 a n:=by
 fun_induction KG lt d a n with
 |case1 d a h j=>
  have m:=LX c (d:=d) (a:=a) (b:=a+20) (by omega) (by omega);obtain⟨f,i⟩:=j h (by rw[pW];exact e);refine⟨(pG.Zh ⟨m.same,m.out⟩ (by omega) (gh _) h).trans (f.Zh h (by omega) (gh _)),?_⟩;rw[AV,dif_pos (by omega)];refine⟨?_,i⟩;rw[show min (a+20) n=a+20 by omega,wu fun t g1 g2=>f.out t (by omega)];exact m.asc
 |case2 d a h=>
  have m:=LX c (d:=d) (a:=a) (b:=n) g e;refine⟨⟨m.same,m.out⟩,?_⟩;rw[AV];split;refine⟨by rw[show min (a+20) n=n by omega];exact m.asc,?_⟩;rw[AV,dif_neg (by omega)];trivial;trivial
def aiT{lt:α->α->Bool}(f:SWO lt){d:Array α}{c a n:Nat}(hc0:0<c)(ha:a<=n)(i:n<=d.size)(e:AV lt d c a n):pG lt d (Nq lt d c a n) a n/\AV lt (Nq lt d c a n) (2*c) a n:=by
 fun_induction Nq lt d c a n with
 |case1 d a h k=>
  rw[AV,dif_pos (by omega),AV,dif_pos (by omega),show min (a+c) n=a+c by omega,show min (a+c+c) n=a+2*c by omega,show a+c+c=a+2*c by omega]at e;have m:=Oo f (d:=d) (a:=a) (m:=a+c) (b:=a+2*c) _ (gh _) (by omega) (by omega) (by omega) e.1 e.2.1;obtain⟨g,j⟩:=k h.2 (by rw[Ky];exact i) (afu (fun t ht=>m.out t (by omega)) e.2.2);refine⟨(pG.Zh ⟨m.same,m.out⟩ (by omega) (gh _) h.2).trans (g.Zh h.2 (by omega) (gh _)),?_⟩;rw[AV,dif_pos (by omega)];refine⟨?_,j⟩;rw[show min (a+2*c) n=a+2*c by omega,wu fun t g1 g2=>g.out t (by omega)];exact m.asc
 |case2 d a h l=>
  rw[AV,dif_pos (by omega),AV,dif_pos (by omega),show min (a+c) n=a+c by omega,show min (a+c+c) n=n by omega]at e;have m:=Oo f (d:=d) (a:=a) (m:=a+c) (b:=n) _ (gh _) (by omega) (by omega) (by omega) e.1 e.2.1;refine⟨⟨m.same,m.out⟩,?_⟩;rw[AV,dif_pos (by omega),show min (a+2*c) n=n by omega];refine⟨m.asc,?_⟩;rw[AV,dif_neg (by omega)];trivial
 |case3 d a h l=>
  refine⟨pG.refl ..,?_⟩;rw[AV]at e|-;split;rw[dif_pos (by omega)]at e;rw[show min (a+2*c) n=n by omega];rw[show min (a+c) n=n by omega]at e;refine⟨e.1,?_⟩;rw[AV,dif_neg (by omega)];trivial;trivial
def ah7{lt:α->α->Bool}(g:SWO lt){d:Array α}{c n:Nat}(e:0<c)(f:n<=d.size)(b:AV lt d c 0 n):pG lt d (LO lt d c n) 0 n/\NT lt (fy (LO lt d c n) 0 n):=by
 fun_induction LO lt d c n with
 |case1 d c h m=>
  obtain⟨i,j⟩:=aiT g e (aqi _) f b;obtain⟨k,l⟩:=m (by omega) (by rw[ZG];exact f) j;exact⟨i.trans k,l⟩
 |case2 d c h=>
  refine⟨pG.refl ..,?_⟩;rw[AV]at b;split at b;rw[show min (0+c) n=n by omega]at b;exact b.1;rw[Ir _ (by omega)];exact List.Pairwise.nil
def afv(lt:α->α->Bool)(d:Array α)(c n:Nat):(LO lt d c n).size=d.size:=by
 fun_induction LO lt d c n with
 |case1 d c h b=>rw[b,ZG]
 |case2 d c h=>rfl
def afd(d:Array α){a b i:Nat}(h:i<(fy d a b).length):(fy d a b)[i]=d[a+i]! :=by
 simp only[fy,aqC,apK,apT]
def af8{lt:α->α->Bool}(h:SWO lt)(d:Array α):F0 lt d=Sort.insertionSort lt d 0 d.size:=by
 have f:=aij h (d:=d) (a:=0) (n:=d.size) (aqi _) (gh _);have k:=ah7 h (d:=KG lt d 0 d.size) (c:=20) (n:=d.size) (by omega) (by rw[Yw];exact gh _) f.2;have l:=LX h (d:=d) (a:=0) (b:=d.size) (aqi _) (gh _);have p:(F0 lt d).size=d.size:=by unfold F0;rw[afv,Yw]
 have e:fy (F0 lt d) 0 d.size=fy (Sort.insertionSort lt d 0 d.size) 0 d.size:=
  YB h k.2 l.asc fun c=>((f.1.trans k.1).same c).trans (l.same c).symm
 apply Array.ext;rw[p,pW];intro i o j;have g:i<d.size:=by omega
 have q:i<(fy (F0 lt d) 0 d.size).length:=by rw[Zw];exact g
 have f:=afd (F0 lt d) q;have m:=afd (Sort.insertionSort lt d 0 d.size) (a:=0) (b:=d.size) (i:=i) (by rw[Zw];exact g);simp only[e]at f;rw[f,Nat.zero_add,getElem!_pos (F0 lt d) i o,getElem!_pos (Sort.insertionSort lt d 0 d.size) i j]at m;exact m
variable{P:Program}{ρ:Ren}{α:Type}[Inhabited α]
def PB(L:LaysGt.n8 P ρ){t e:TypeId}{i ie:TypeInfo}(hi:P.info? t=some i)(y:i.desc= .slice e)(m:P.packed t=false)(o:P.info? e=some ie){ke:Nat}(p:∀w,(Extern.Rtype.kind e).run P w= .ok ke w)
 {enc:α->List Value} {k:Nat} (z:∀x,(enc x).length=k) (h1:∀x,∀v∈enc x,v.oneCell'=true) (lt:α->α->Bool) (B:SWO lt) {g:Nat} {q:Array Value}
 (D:∀args w,(callFunc g args).run P w= .ok (.enter g args) w) {b off c:Nat} {d:Array α} (h2:2<=d.size) (r:d.size<1152921504606846976)
 {f:Nat} (F:P.funcs.findIdx? (·.name== "internal/reflectlite" ++ ".Swapper$" ++toString (swapperK d.size ie ke))=some f)
 (s:SwapSwapsK P f (sliceBound P e ie ke (some ⟨b,off,none⟩) d.size c) enc k b off d.size)
 {w:World} (l:LessReadsK P g q enc k lt b off d.size w) (H:HoldsK enc k w b off d) (h:b<w.heap.size):
 Calls P (ρ.f 8) #[.iface t (.slice (some ⟨b,off,none⟩) d.size c),.func (.func g) #[] q] w fun e w'=>
  e= .returned (.tuple #[])/\∃n u,w'=grow (putRowK enc k (Sort.ahead w n) b off (Sort.insertionSort lt d 0 d.size)) u:=by
 refine Any.sort_SliceStable_of_stable L t e i ie hi y m o ke p _ d.size c (by omega) f F (.func g) #[] q w _ ?_
 obtain⟨j,I⟩:∃j,stableWorld P ρ t (some ⟨b,off,none⟩) d.size c w=grow w j:=
  ⟨_,by unfold stableWorld;rw[alloc_eq_grow,alloc_eq_grow,grow_grow]⟩
 rw[I];refine(aiU (P:=P) (ρ:=ρ) {L with} z lt (d:=d) D (l.grow h j) s (holdsK_grow enc k w _ b off d h H) (by rw[size_grow];omega) r).mono ?_;rintro e w' ⟨rfl,n,u,rfl⟩;rw[af8 B];exact⟨rfl,n,_,by unfold sortWorldK;rw[ahead_grow,putRowK_grow enc k (Sort.ahead w n) _ b off _ h,grow_grow]⟩
def IH(L:LaysGt.n8 P ρ){t e:TypeId}{i ie:TypeInfo}(hi:P.info? t=some i)(D:i.desc= .slice e)(o:P.packed t=false)(j:P.info? e=some ie){ke:Nat}(p:∀w,(Extern.Rtype.kind e).run P w= .ok ke w)
 {enc:α->List Value} {k:Nat} (s:∀x,(enc x).length=k) (q:ie.size=k) (l:∀w,(isAgg e).run P w= .ok true w) (u:∀x,∀v∈enc x,v.oneCell'=true) (lt:α->α->Bool) (F:SWO lt) {g:Nat} {y:Array Value}
 (H:∀args w,(callFunc g args).run P w= .ok (.enter g args) w) {b off c:Nat} {d:Array α} (z:2<=d.size) (r:d.size<1152921504606846976)
 {f:Nat} (I:P.funcs.findIdx? (·.name== "internal/reflectlite" ++ ".Swapper$" ++toString (swapperK d.size ie ke))=some f)
 (gS:Bool) (J:∀args W,(callFunc f args).run P W=((Extern.ReflectliteSwapper.swap gS args).run P W).andThen fun v w'=> .ok (.value v) w')
 {w:World} (h:LessReadsK P g y enc k lt b off d.size w) (K:HoldsK enc k w b off d) (m:b<w.heap.size):
 Calls P (ρ.f 8) #[.iface t (.slice (some ⟨b,off,none⟩) d.size c),.func (.func g) #[] y] w fun e w'=>
  e= .returned (.tuple #[])/\∃n B,w'=grow (putRowK enc k (Sort.ahead w n) b off (Sort.insertionSort lt d 0 d.size)) B:=by
 have N:sliceBound P e ie ke (some ⟨b,off,none⟩) d.size c= #[.slice (some ⟨b,off,none⟩) d.size c,typeHandle P e]:=by
  unfold sliceBound;rw[a_ (swapperK_gt _ _ _ z)]
 exact PB L hi D o j p s u lt F H z r I (by rw[N];exact swapSwapsK_of_literal gS f J e ie j enc k s q l u b off d.size c) h K m
variable{P:Program}{ρ:Ren}{α:Type}[Inhabited α]
def Tz(gS:Bool)(m:Nat)(r:∀args W,(callFunc m args).run P W=((Extern.ReflectliteSwapper.swap gS args).run P W).andThen fun v w'=> .ok (.value v) w')
 (e:TypeId) (ie:TypeInfo) (h:P.info? e=some ie) (hs:ie.size=1) (g:∀w,(isAgg e).run P w= .ok false w) (enc:α->Value) (o:∀x,(enc x).oneCell'=true) (b off n c:Nat):
 SwapSwapsK P m #[.slice (some ⟨b,off,none⟩) n c,typeHandle P e] (fun x=>[enc x]) 1 b off n:=by
 intro W k l hsz i j p q;have d:=l.cell (i:=i) (c:=0) (by omega) (by omega);have f:=l.cell (i:=j) (c:=0) (by omega) (by omega);simp only[aqA,Nat.add_zero,List.getElem!_cons_zero]at d f;have:=run_swap_one (P:=P) gS e ie h hs g b off n c i j p q (enc k[i]!) (enc k[j]!) (o _) (o _) W d.1 f.1 d.2 f.2;rw[r,show(#[Value.int .i64 (i:Int),Value.int .i64 (j:Int)]++ #[Value.slice (some ⟨b,off,none⟩) n c,typeHandle P e])= #[.int .i64 i,.int .i64 j,.slice (some ⟨b,off,none⟩) n c,typeHandle P e]from rfl,this];simp only[aqA];rfl
end Go.Proofs
namespace Vg
open Go Go.Proofs Go.Sort
def BN:List (ByteArray×ByteArray)->List (List UInt8)
 | []=>[]
 |a::l=>a.1.toList::a.2.toList::BN l
def Rb(a b:ByteArray):ly a b=decide (a.toList<b.toList):=bytesLess_eq _ _
theorem GO:∀l m:List (ByteArray×ByteArray),bp l m=decide (BN l<BN m)
 | [],[]=>by simp[bp,BN]
 | [],b::m=>by simp[bp,BN]
 |a::l,[]=>by simp[bp,BN]
 |a::l,b::m=>by
  rw[bp,GO l m,Rb,Rb];simp only[BN,List.cons_lt_cons_iff,beq_iff_eq];by_cases c:a.1.toList=b.1.toList;rw[an c];by_cases d:a.2.toList=b.2.toList;rw[an d];simp[c,d,aqm];rw[a_ d];simp[c,d,aqm];rw[a_ c];simp[c]
def k9:SWO bp where
 irrefl x:=by rw[GO];simp[aqm]
 trans x y z h1 h2:=by
  rw[GO,b_]at*
  exact List.lt_trans h1 h2
 ntrans x y z h1 h2:=by
  rw[GO,d_]at*
  exact fun h=>(List.not_le.2 h) (List.le_trans (List.not_lt.1 h2) (List.not_lt.1 h1))
end Vg
namespace Vg
open Go
def abB{β:Type}{c:Bool}{a b:β}(h:c=false):(if c=true then a else b)=b:=by rw[h];rfl
def Dr{α:Type}(o:Option α)(Q:α->Prop):Prop:=∃a,o=some a/\Q a
def dA{α:Type}{a:α}{Q:α->Prop}(h:Q a):Dr (some a) Q:=⟨a,rfl,h⟩
def ZD{α:Type}{o:Option α}{P Q:α->Prop}(h:Dr o P)(b:∀a,P a->Q a):Dr o Q:=by
 obtain⟨a,e,h⟩:=h;exact⟨a,e,b a h⟩
def cq{α β:Type}{o:Option α}{f:α->Option β}{P:α->Prop}{Q:β->Prop}(h:Dr o P)(c:∀a,P a->Dr (f a) Q):Dr (apS o f) Q:=by
 obtain⟨a,e,h⟩:=h;obtain⟨b,d,g⟩:=c a h;exact⟨b,by rw[e,apy,d],g⟩
def ve{α β:Type}{o:Option α}{a:α}{f:α->Option β}{Q:β->Prop}(e:o=some a)(b:Dr (f a) Q):Dr (apS o f) Q:=by
 rw[e,apy];exact b
def dI{α:Type}{b:Bool}{o p:Option α}{Q:α->Prop}(c:b=true->Dr o Q)(d:b=false->Dr p Q):Dr (if b=true then o else p) Q:=by
 cases b;rw[a_ (by simp)];exact d rfl;rw[an rfl];exact c rfl
def kL{α:Type}{b:Bool}{o p:Option α}{Q:α->Prop}(c:b=true)(h:Dr o Q):Dr (if b=true then o else p) Q:=by rw[an c];exact h
def Nz{σ ρ:Type}{a:(σ->Option ρ)->Option ρ}{b:σ->Option ρ}{Q:ρ->Prop}(P:σ->Prop)(c:∀s,P s->Dr (b s) Q)(h:∀J:σ->Option ρ,(∀s,P s->Dr (J s) Q)->Dr (a J) Q):Dr (aN a b) Q:=h b c
def NP{σ ρ:Type}{f:(σ->Option ρ)->σ->Option ρ}{Q:ρ->Prop}(m:σ->Nat)(I:σ->Prop)
 (h:∀G s,I s->(∀b,I b->m b<m s->Dr (G b) Q)->Dr (f G s) Q) {k:Nat} {s:σ} (c:I s) (d:m s<k):Dr (aM k f s) Q:=
 ON m I Q h k s c d
def SF(a:Int):0<=bits (fun _=>(· &&& ·)) .i64 a (255:Int)/\bits (fun _=>(· &&& ·)) .i64 a (255:Int)<=255:=by
 have key:bits (fun _=>(· &&& ·)) .i64 a (255:Int)=((((BitVec.ofInt 64 a).toNat%256:Nat)):Int):=by
  change IntKind.i64.wrap (((BitVec.ofInt 64 a &&& BitVec.ofInt 64 (255:Int)).toNat:Nat):Int)=_;rw[BitVec.toNat_and];have b:(BitVec.ofInt 64 (255:Int)).toNat=2^8-1:=by decide
  rw[b,Nat.and_two_pow_sub_one_eq_mod,wrap64 (by omega) (by omega)]
 rw[key];omega
def bn(c:List Int×Int×Int):Prop:=c.1.length<=1048576/\0<=c.2.1/\c.2.1<=1048576
end Vg
