/- VG, joined: an evaluator of the code over typed values, and its soundness, for any program. -/
import Derived.Test.YtgikmhjpcnnhjaaGreatVc
import Derived.Lib.SlicesSearch
import Derived.Deep.LoopGhost
set_option linter.unusedSimpArgs false
set_option linter.unusedVariables false
set_option linter.unusedSectionVars false
set_option linter.defProp false
open Array renaming getElem?_toList -> atG,getElem?_append_left -> atJ,getElem?_eq_getElem -> atK,size_modify -> atQ,getElem?_modify -> atU,size_append -> at0
open Subtype renaming val -> atH
open List renaming singleton_append -> atI,getElem?_take -> atL,getElem?_drop -> atM,getElem?_eq_none -> atN,foldl_cons -> atS,reverse_singleton -> atT,lt_irrefl -> atV,map_cons -> atW,reverse_append -> atX,flatMap_cons -> atY,ext_getElem? -> atZ,length_cons -> at1,append_nil -> at3
open Option renaming isSome_none -> atO,bind_some -> at2
open Bool renaming false_eq_true -> atP
open List.cons renaming inj -> at4
namespace Vg
open Go Go.RowKit
section
variable{α:Type}
theorem aeP(lt:α->α->Bool)(x:α):∀r:List α,(eo lt x r).Perm (x::r)
 | []=>List.Perm.refl _
 |y::r=>by
  unfold eo;split
  ·exact((aeP lt x r).cons y).trans (List.Perm.swap x y r)
  ·exact List.Perm.refl _
theorem ac7(lt:α->α->Bool):∀(l r:List α),(l.foldl (fun r x=>eo lt x r) r).Perm (l++r)
 | [],r=>List.Perm.refl _
 |x::l,r=>by
  rw[atS];exact(ac7 lt l _).trans ((List.Perm.append_left l (aeP lt x r)).trans (List.perm_middle))
def rT(lt:α->α->Bool)(l:List α):(iX lt l).Perm l:=by
 unfold iX;refine(List.reverse_perm _).trans ?_;have:=ac7 lt l [];rwa [at3]at this
theorem age{β:Type}{lt:α->α->Bool}{lt':β->β->Bool}(f:α->β)(h:∀x y,lt x y=lt' (f x) (f y))(x:α):∀r:List α,(eo lt x r).map f=eo lt' (f x) (r.map f)
 | []=>rfl
 |y::r=>by
  simp only[eo,atW,h];split<;>simp[age f h x r]
theorem adY{β:Type}{lt:α->α->Bool}{lt':β->β->Bool}(f:α->β)(h:∀x y,lt x y=lt' (f x) (f y)):∀(l r:List α),(l.foldl (fun r x=>eo lt x r) r).map f=(l.map f).foldl (fun r x=>eo lt' x r) (r.map f)
 | [],r=>rfl
 |x::l,r=>by
  rw[atS,atW,atS,adY f h l,age f h]
def alR{β:Type}{lt:α->α->Bool}{lt':β->β->Bool}(f:α->β)(h:∀x y,lt x y=lt' (f x) (f y))(l:List α):(iX lt l).map f=iX lt' (l.map f):=by
 unfold iX;rw[List.map_reverse,adY f h];rfl
variable[Inhabited α]
theorem aiU(lt:α->α->Bool):∀(j:Nat) (p:List α) (x:α) (r:List α),p.length=j->Go.Sort.insInner lt 0 j (p++x::r).toArray=((eo lt x p.reverse).reverse++r).toArray
 |0,p,x,r,h=>by
  have:p=[]:=List.length_eq_zero_iff.1 h;subst this;rfl
 |j+1,p,x,r,h=>by
  obtain⟨q,y,rfl⟩:∃q y,p=q++[y]:=⟨p.dropLast,p.getLast (by intro e;rw[e]at h;cases h),(List.dropLast_concat_getLast _).symm⟩
  have a:q.length=j:=by simpa using h
  have c:(q++[y]++x::r).toArray[j+1]! =x:=by simp[<-a]
  have d:(q++[y]++x::r).toArray[j]! =y:=by simp[<-a]
  unfold Go.Sort.insInner;rw[c,d];by_cases b:lt x y=true;rw[an (by simp[b])]
  have f:Go.Sort.swp (q++[y]++x::r).toArray (j+1) j=(q++x::(y::r)).toArray:=by
   unfold Go.Sort.swp;rw[c,d];apply Array.ext';simp[<-a]
  rw[f,aiU lt j q x (y::r) a,atX,atT,atI];simp[eo,b];rw[a_ (by simp[b]),atX,atT,atI];simp[eo,b]
theorem ai2(lt:α->α->Bool)(l:List α):∀(m i:Nat),i+m=l.length->Go.Sort.insOuter lt 0 l.length i (iX lt (l.take i)++l.drop i).toArray=(iX lt l).toArray
 |0,i,h=>by
  unfold Go.Sort.insOuter;rw[a_ (by omega),List.drop_eq_nil_of_le (by omega),List.take_of_length_le (by omega),at3]
 |m+1,i,h=>by
  have a:i<l.length:=by omega
  unfold Go.Sort.insOuter;rw[an a,List.drop_eq_getElem_cons a];have hlen:(iX lt (l.take i)).length=i:=by rw[(rT lt (l.take i)).length_eq,List.length_take];omega
  rw[aiU lt i _ _ _ hlen]
  have:(eo lt l[i] (iX lt (l.take i)).reverse).reverse=iX lt (l.take (i+1)):=by
   unfold iX;rw[List.reverse_reverse,List.take_succ_eq_append_getElem a,List.foldl_append];rfl
  rw[this];exact ai2 lt l m (i+1) (by omega)
def an8(lt:α->α->Bool)(l:List α)(h:1<=l.length):Go.Sort.insertionSort lt l.toArray 0 l.toArray.size=(iX lt l).toArray:=by
 unfold Go.Sort.insertionSort;have:=ai2 lt l (l.length-1) 1 (by omega)
 have e:iX lt (l.take 1)++l.drop 1=l:=by
  cases l with
  |nil=>cases h
  |cons x l=>rfl
 rw[e]at this;simpa using this
theorem aih{enc:α->List Value}{k:Nat}(a:∀x,(enc x).length=k)(c:0<k):∀(L:List α) (t:Nat),t<L.length*k->(L.flatMap enc)[t]?=some ((enc L[t/k]!)[t%k]!)
 | [],t,h=>by simp at h
 |x::L,t,h=>by
  rw[atY];by_cases b:t<k;rw[List.getElem?_append_left (by rw[a];exact b),Nat.div_eq_of_lt b,Nat.mod_eq_of_lt b];have:t<(enc x).length:=by rw[a];exact b
  simp[this];rw[List.getElem?_append_right (by rw[a];omega),a,aih a c L (t-k) (by simp only[at1,Nat.add_mul,Nat.one_mul]at h;omega)];have d:t/k=(t-k)/k+1:=by rw[Nat.div_eq_sub_div c (by omega)]
  have e:t%k=(t-k)%k:=by rw[Nat.mod_eq_sub_mod (by omega)]
  rw[d,e];rfl
def amm{enc:α->List Value}{k:Nat}(b:∀x,(enc x).length=k)(e:0<k)(L:List α):(Go.Sort.flatK enc k L.toArray).toList=L.flatMap enc:=by
 have f:(L.flatMap enc).length=L.length*k:=by
  induction L with
  |nil=>simp
  |cons x L g=>rw[atY,List.length_append,g,b,at1,Nat.add_mul,Nat.one_mul,Nat.add_comm]
 apply atZ;intro t;by_cases a:t<L.length*k;rw[aih b e L t a];have c:t<(Go.Sort.flatK enc k L.toArray).size:=by simpa using a
 have d:=Go.Sort.get_flatK enc k L.toArray t (by simpa using a);rw[getElem!_pos _ t c]at d;rw[atG,atK c,d];simp;rw[atN (by simp;omega),atN (by rw[f];omega)]
end
theorem afU{β:Type}{R:β->List Value->List Nat->Prop}:∀ {l:List β} {cs:List Value} {B:List Nat},fN R l cs B->
 ∃L:List (β×List Value×List Nat),(∀x∈L,R x.1 x.2.1 x.2.2)/\l=L.map (·.1)/\cs=L.flatMap (·.2.1)/\B=L.flatMap (·.2.2)
 | [],_,_,h=>⟨[],by simp,rfl,h.1,h.2⟩
 |x::l,cs,B,h=>by
  obtain⟨b,c2,c,B2,rfl,rfl,d,e⟩:=h;obtain⟨L,f,rfl,rfl,rfl⟩:=afU e;exact⟨(x,b,c)::L,(fun y a=>by rcases List.mem_cons.1 a with rfl|a;exact d;exact f y a),rfl,rfl,rfl⟩
theorem agC{β:Type}{R:β->List Value->List Nat->Prop}:∀(L:List (β×List Value×List Nat)),(∀x∈L,R x.1 x.2.1 x.2.2)->fN R (L.map (·.1)) (L.flatMap (·.2.1)) (L.flatMap (·.2.2))
 | [],_=>⟨rfl,rfl⟩
 |x::L,h=>⟨x.2.1,_,x.2.2,_,rfl,rfl,h x (by simp),agC L (fun y a=>h y (by simp[a]))⟩
theorem aj8{w:World}:∀ {l:List (ByteArray×ByteArray)} {cs:List Value} {B:List Nat},fN (fl w (.pair .str .str)) l cs B->B=[]/\∀i,i<l.length->cs[i*2]?=some (.string (l.getD i (ByteArray.empty,ByteArray.empty)).1)/\cs[i*2+1]?=some (.string (l.getD i (ByteArray.empty,ByteArray.empty)).2)
 | [],_,_,h=>⟨h.2,fun i a=>by simp at a⟩
 |x::l,cs,B,h=>by
  obtain⟨c1,c2,B1,B2,rfl,rfl,⟨d1,d2,C1,C2,rfl,rfl,⟨rfl,rfl⟩,⟨rfl,rfl⟩⟩,c⟩:=h;obtain⟨e,q⟩:=aj8 c;refine⟨by rw[e];rfl,fun i a=> ?_⟩;cases i with
  |zero=>exact⟨rfl,rfl⟩
  |succ i=>
   obtain⟨q1,q2⟩:=q i (by simpa using a);have b:(i+1)*2=i*2+1+1:=by omega
   rw[b];simp only[atI,List.cons_append,List.nil_append,List.getElem?_cons_succ,List.getD_cons_succ];exact⟨q1,q2⟩
def aeF{e:Ty}{F:iF [.sl e]->Option (iF [.sl e])}{w w':World}{j:Gh}{v:Value}{l C:List e.den}
 (g:Lot w j (ql [.val (.sl e) .own] (l,()) 4).1 [v] 5) {B B':List Nat} (hB:Bk w e.sz (fl w e) l v B) (r:∀b a,B=b::a->j.col b=4/\b∉a/\(∀x∈a,j.col x=4)/\a.Nodup)
 (D:Bk w' e.sz (fl w' e) C v B') (N:∀b a,B'=b::a->∃n,B=b::n/\a.Perm n)
 (k:∀b,b<w.heap.size->(∀a,B≠b::a)->w'.heap[b]?=w.heap[b]?) (s:∀b a,B=b::a->∃c el,w'.heap[b]?=some (.cells c el (0,0)))
 (m:w.heap.size<=w'.heap.size) (G:w'.os=w.os) (p:w'.tape=w.tape) (u:w'.output=w.output):
 ∃G' H I,Z1 ⟨[.val (.sl e) .own],[.val (.sl e) .own],F,[]⟩ w j [v] (C,()) v w' G' H I:=by
 refine⟨⟨fun b=>if j.col b=4 then 5 else j.col b,fun t=>if t=5 then v else j.hdr t,fun _=>false⟩,[v],6,?_⟩
 exact {
  kept:=fun q J=>by cases J
  val:=rfl
  len:=rfl
  res:=fun i=>by
   cases i with
   |zero=>
    show rn w' _ (.d ⟨.sl e,C,.sl (.row 5 [5] true)⟩) v;refine⟨[v],rfl,v,rfl,by omega,rfl,B',D,fun b a o=> ?_⟩;obtain⟨n,S,f⟩:=N b a o;obtain⟨q1,q2,q3,q4⟩:=r b n S;refine⟨by simp[q1],fun K=>q2 (f.mem_iff.1 K),fun x L=> ?_,fun _=>f.nodup_iff.2 q4⟩;have:=q3 x (f.mem_iff.1 L);simp[this]
   |succ i=>trivial
  ios:=fun t i x h=>by cases h
  frame:=fun b y hc=>by
   refine⟨by simp only;rw[a_ (by omega)],k b y (fun a o=> ?_)⟩;have:=(r b a o).1;omega
  one:=fun b h=>by
   simp only at h;split at h;omega;rename_i z;exact⟨(g.colU b (by omega)).2,by show j.col b=if j.col b=4 then 5 else j.col b;rw[a_ z]⟩
  size:=m
  os:=G
  tape:=p
  output:=u
  lt:=fun b h=>by
   simp only at h;refine Nat.lt_of_lt_of_le (g.colU b ?_).2 m;split at h<;>omega
  fresh:=fun b h=>by
   simp only at h;have R:4<=j.col b:=by split at h<;>omega
   obtain⟨c,el,hc⟩:=g.fresh b R;by_cases y:∃a,B=b::a;obtain⟨a,o⟩:=y;exact s b a o;rw[k b (g.colU b (by omega)).2 (fun a o=>y ⟨a,o⟩)];exact⟨c,el,hc⟩}
def akg{α:Type}(lt:α->α->Bool):∀ {l:List α},l.length<=1->iX lt l=l
 | [],_=>rfl
 | [x],_=>rfl
 |_::_::_,h=>by simp at h
theorem ajO{α:Type}{p:α->Prop}:∀(L:List α),(∀x∈L,p x)->∃a:List {x//p x},a.map atH=L
 | [],_=>⟨[],rfl⟩
 |x::L,h=>by
  obtain⟨a,e⟩:=ajO L (fun y b=>h y (by simp[b]));exact⟨⟨x,h x (by simp)⟩::a,by rw[atW,e]⟩
def an0{F c:Array Value}{off:Nat}(h:off+F.size<=c.size):((Go.Sort.putCells id off F c).toList.drop off).take F.size=F.toList:=by
 apply atZ;intro t;rw[atL];split;rename_i a;rw[atM,atG];unfold Go.Sort.putCells;rw[Array.getElem?_mapIdx,atK (show off+t<c.size by omega)];rw[Option.map_some,an ⟨by omega,by omega⟩,atG,atK a,show off+t-off=t by omega,getElem!_pos F t a];rfl;rw[atN];simp;omega
def anI(F c:Array Value)(off:Nat):(Go.Sort.putCells id off F c).size=c.size:=by simp[Go.Sort.putCells]
def anh{w:World}{x:Ey.den}{cs:List Value}{B:List Nat}(h:fl w Ey x cs B):(∀v∈cs,v.oneCell'=true)/\
 ∃v a,cs[0]?=some v/\(∀y∈a,y∈B)/\Bk w 2 (fl w (.pair .str .str)) x.1 v a:=by
 obtain⟨c1,c2,a,B2,rfl,rfl,⟨v,rfl,c⟩,⟨d1,d2,C1,C2,rfl,rfl,⟨rfl,rfl⟩,⟨f1,f2,D1,D2,rfl,rfl,⟨rfl,rfl⟩,⟨rfl,rfl⟩⟩⟩⟩:=h;refine⟨fun u b=> ?_,v,a,rfl,fun y d=>List.mem_append_left _ d,c⟩;simp only[atI,List.mem_cons,List.not_mem_nil,or_false]at b;rcases b with rfl|rfl|rfl|rfl;exact c.one;rfl;rfl;rfl
theorem V5{N:Nat}{P:Program}{f:FuncId}{fn:Func}(hf:P.funcs[f]?=some fn)(p0:(fn.name== "runtime.NumGoroutine")=false)(hb:fn.body.isSome=true)
 (E0:∀(p:Option Addr) (n c:Nat),n<=1->∀w:World,Calls P f #[.slice p n c] w fun e w'=>e= .returned (.slice p n c)/\∃q,w'=Go.Sort.grow w q)
 (D1:∀ {α:Type} [Inhabited α] (enc:α->List Value) (_:∀x,(enc x).length=4) (_:∀x,∀v∈enc x,v.oneCell'=true) (r0:α->List (ByteArray×ByteArray)) (D off c:Nat) (d:Array α) (w:World)
  (_:2<=d.size) (_:d.size<N) (_:Go.Sort.HoldsK enc 4 w D off d) (_:D<w.heap.size) (_:Go.Proofs.Xw enc r0 D w),
  Calls P f #[.slice (some ⟨D,off,none⟩) d.size c] w fun e w'=>
   e= .returned (.slice (some ⟨D,off,none⟩) d.size c)/\∃n q,w'=Go.Sort.grow (Go.Sort.putRowK enc 4 (Go.Sort.ahead w n) D off (Go.Sort.insertionSort (fun x y=>bI (r0 x) (r0 y)) d 0 d.size)) q):
 Qq P f ⟨[.val (.sl Ey) .own],[.val (.sl Ey) .own],On N,[]⟩:=by
 intro w G0 args x y hy g;have hlen:args.length=1:=g.len
 obtain⟨v,rfl⟩:∃v,args=[v]:=by
  match args,hlen with
  | [a],_=>exact⟨a,rfl⟩
 obtain⟨l,u⟩:=x
 suffices H:∀(l:List Ey.den) (y:List Ey.den×Unit),On N (l,())=some y->Lot w G0 (ql [.val (.sl Ey) .own] (l,()) 4).1 [v] 5->
  aiB P f [v].toArray w (fun mv w'=>∃G' vs nt,Z1 ⟨[.val (.sl Ey) .own],[.val (.sl Ey) .own],On N,[]⟩ w G0 [v] y mv w' G' vs nt)from H l y hy g
 clear hy g u y hlen l;intro l y hy g;have s0:rn w G0 (.d ⟨.sl Ey,l,.sl (.row 4 [4] true)⟩) v:=g.slots 0;obtain⟨cs,e0,v',rfl,_,_,B,hB,X1⟩:=s0;have E1:v=v':=e0;subst E1;have hB:Bk w Ey.sz (fl w Ey) l v B:=hB
 have s:∀b o,B=b::o->G0.col b=4/\b∉o/\(∀x∈o,G0.col x=4)/\o.Nodup:=fun b o he=>by
  obtain⟨q1,q2,q3,q4⟩:=X1 b o he;exact⟨q1,q2,fun x hx=>by simpa using q3 x hx,q4 rfl⟩
 unfold On at hy;split at hy;rotate_left
 ·cases hy
 rename_i hc;simp only[Bool.and_eq_true,b_,List.all_eq_true]at hc;obtain⟨SO,c2⟩:=hc;have F1:=Option.some.inj hy;subst F1;refine agq hf p0 hb ?_
 have b0:l.length<=1->∀q,∃G' vs nt,Z1 ⟨[.val (.sl Ey) .own],[.val (.sl Ey) .own],On N,[]⟩ w G0 [v] (dE l,()) v (Go.Sort.grow w q) G' vs nt:=fun h1 q=>by
  have hs:∀b,b<w.heap.size->(Go.Sort.grow w q).heap[b]?=w.heap[b]?:=fun b h=>by
   show(w.heap++q)[b]?=_;rw[atJ h]
  have e:dE l=l:=akg _ h1;rw[e];refine aeF (e:=Ey) g hB s (B':=B) (hB.mono (fun b hb=>hs b (Bk.bounds hB b hb))) (fun b o he=>⟨o,he,List.Perm.refl _⟩) (fun b h _=>hs b h) (fun b o he=> ?_) ?_ rfl rfl rfl
  ·obtain⟨c,el,hc⟩:=g.fresh b (by rw[(s b o he).1];exact Nat.le_refl _);exact⟨c,el,by rw[hs b (lt_of_block hc)];exact hc⟩
  ·show w.heap.size<=(w.heap++q).size;rw[at0];omega
 by_cases h1:l.length<=1
 ·obtain⟨p,n,c,hv,hn⟩:∃p n c,v= .slice p n c/\n<=1:=by
   rcases hB with⟨⟨ao,e⟩,_,_⟩|⟨b,off,cap,c,el,fz,o,e,_⟩
   ·exact⟨ao,0,0,e,by omega⟩
   ·exact⟨_,_,_,e,h1⟩
  subst hv;refine(E0 p n c hn w).mono ?_;rintro e w' ⟨rfl,q,rfl⟩;exact⟨_,rfl,b0 h1 q⟩
 have L0:=hB;rcases hB with⟨_,e,_⟩|⟨b,off,cap,c,el,fz,o,rfl,p1,G,u1,rfl,hl⟩
 ·exact absurd (by rw[e];simp) h1
 obtain⟨q1,q2,q3,q4⟩:=s b o rfl
 have G1:fz=(0,0):=by
  obtain⟨c',el',w0⟩:=g.fresh b (by rw[q1];exact Nat.le_refl _);rw[G]at w0;simp only[Option.some.injEq,Obj.cells.injEq]at w0;exact w0.2.2
 subst G1;obtain⟨L,hL,x0,j2,w1⟩:=afU hl;have hbnd:∀x∈o,x<w.heap.size:=fun x hx=>Bk.bounds L0 x (by simp[hx])
 have J1:∀x∈L,fl w Ey x.1 x.2.1 x.2.2/\b∉x.2.2/\x.1.1.length<4611686018427387904:=fun x hx=>by
  refine⟨hL x hx,fun hm=>q2 (by rw[w1];exact List.mem_flatMap.2 ⟨x,hx,hm⟩),c2 x.1 ?_⟩;rw[x0];exact List.mem_map.2 ⟨x,hx,rfl⟩
 obtain⟨I,h0⟩:=ajO L J1;have m:I.length=l.length:=by rw[x0,<-h0];simp
 haveI:Inhabited {x:Ey.den×List Value×List Nat//fl w Ey x.1 x.2.1 x.2.2/\b∉x.2.2/\x.1.1.length<4611686018427387904}:=⟨I.head (by intro e;rw[e]at m;simp at m;omega)⟩
 have u0:∀x:{x:Ey.den×List Value×List Nat//fl w Ey x.1 x.2.1 x.2.2/\b∉x.2.2/\x.1.1.length<4611686018427387904},x.val.2.1.length=4:=fun x=>fl.len x.property.1
 have J:∀M:List {x:Ey.den×List Value×List Nat//fl w Ey x.1 x.2.1 x.2.2/\b∉x.2.2/\x.1.1.length<4611686018427387904},(M.map atH).flatMap (fun x=>x.2.1)=M.flatMap (fun x=>x.val.2.1):=fun M=>by
  rw[List.flatMap_map]
 have R0:I.flatMap (fun x=>x.val.2.1)=(c.toList.drop off).take (l.length*4):=by
  rw[<-J,h0];exact j2.symm
 have hH:Go.Sort.HoldsK (fun x:{x:Ey.den×List Value×List Nat//fl w Ey x.1 x.2.1 x.2.2/\b∉x.2.2/\x.1.1.length<4611686018427387904}=>x.val.2.1) 4 w b off I.toArray:=by
  intro j hj;refine⟨?_,YB G _⟩;rw[Go.Sort.size_flatK]at hj;have L1:j<I.length*4:=by simpa using hj
  rw[Go.Sort.get_flatK _ _ _ _ hj];have h2:=aih (enc:=fun x:{x:Ey.den×List Value×List Nat//fl w Ey x.1 x.2.1 x.2.2/\b∉x.2.2/\x.1.1.length<4611686018427387904}=>x.val.2.1) u0 (by omega) I j L1;rw[R0,atL,an (by omega),atM,atG]at h2;unfold World.cell?;simp only[G,atO,atP,if_false];rw[h2];simp
 have a1:Go.Proofs.Xw (fun x:{x:Ey.den×List Value×List Nat//fl w Ey x.1 x.2.1 x.2.2/\b∉x.2.2/\x.1.1.length<4611686018427387904}=>x.val.2.1) (fun x=>x.val.1.1) b w:=by
  rintro⟨⟨a,ac,aB⟩,ha,k2,x1⟩;obtain⟨_,v1,B1,y1,z1,A1⟩:=anh ha;rcases A1 with⟨⟨ao,e1⟩,e2,_⟩|⟨b1,X,k0,c1,el1,fz1,Bs1,e1,hcap1,Y,hsz1,e2,l2⟩
  ·have j1:a.1=[]:=e2;refine⟨ao,0,?_,x1,fun i hi=> ?_⟩
   ·show ac[0]?=some (.slice ao a.1.length 0);rw[y1,e1,j1];rfl
   ·change i<a.1.length at hi;rw[j1]at hi;simp at hi
  ·refine⟨some ⟨b1,X,none⟩,k0,?_,x1,fun i hi=> ?_⟩
   ·show ac[0]?=some (.slice (some ⟨b1,X,none⟩) a.1.length k0);rw[y1,e1]
   ·change i<a.1.length at hi;obtain⟨_,hq⟩:=aj8 l2;obtain⟨r1,r2⟩:=hq i hi;refine⟨b1,X,rfl,fun e=>k2 (z1 b (by rw[e2,e];simp)),lt_of_block Y,?_,?_⟩
    ·unfold World.cell?;simp only[Y,atO,atP,if_false];rw[atL,an (by show i*2<a.1.length*2;omega),atM,atG]at r1;exact r1
    ·unfold World.cell?;simp only[Y,atO,atP,if_false];rw[atL,an (by show i*2+1<a.1.length*2;omega),atM,atG]at r2;exact r2
 have r:=D1 (fun x:{x:Ey.den×List Value×List Nat//fl w Ey x.1 x.2.1 x.2.2/\b∉x.2.2/\x.1.1.length<4611686018427387904}=>x.val.2.1) u0 (fun x=>(anh x.property.1).1) (fun x=>x.val.1.1) b off cap I.toArray w
  (by simp;omega) (by simp;omega) hH (lt_of_block G) a1
 rw[an8 _ I (by omega)]at r;have k1:I.toArray.size=l.length:=by simpa using m
 rw[k1]at r;refine r.mono ?_;rintro e w' ⟨rfl,n,q,hw⟩;refine⟨_,rfl,?_⟩;have l1:b<w.heap.size:=lt_of_block G;generalize n1:iX (fun x y:{x:Ey.den×List Value×List Nat//fl w Ey x.1 x.2.1 x.2.2/\b∉x.2.2/\x.1.1.length<4611686018427387904}=>bI x.val.1.1 y.val.1.1) I=LS at hw;have K:LS.Perm I:=by rw[<-n1];exact rT _ _
 have S:∀k,k<w.heap.size->k≠b->w'.heap[k]?=w.heap[k]?:=fun k hk o0=>by
  rw[hw];show((w.heap.modify b _)++q)[k]?=_;rw[atJ (by rw[atQ];exact hk),atU,a_ (fun h=>o0 h.symm)]
 have j0:w'.heap[b]?=some (.cells (Go.Sort.putCells id off (Go.Sort.flatK (fun x:{x:Ey.den×List Value×List Nat//fl w Ey x.1 x.2.1 x.2.2/\b∉x.2.2/\x.1.1.length<4611686018427387904}=>x.val.2.1) 4 LS.toArray) c) el (0,0)):=by
  rw[hw];show((w.heap.modify b _)++q)[b]?=_;rw[atJ (by rw[atQ];exact l1),atU,an rfl,G];rfl
 have t:LS.length=l.length:=by rw[K.length_eq,m]
 have o1:(Go.Sort.flatK (fun x:{x:Ey.den×List Value×List Nat//fl w Ey x.1 x.2.1 x.2.2/\b∉x.2.2/\x.1.1.length<4611686018427387904}=>x.val.2.1) 4 LS.toArray).size=l.length*4:=by
  rw[Go.Sort.size_flatK];simp[t]
 have hsz4:off+cap*4<=c.size:=u1
 have C:dE l=(LS.map atH).map (·.1):=by
  rw[x0,<-h0,<-n1,List.map_map,List.map_map];unfold dE;exact(alR (lt:=fun x y:{x:Ey.den×List Value×List Nat//fl w Ey x.1 x.2.1 x.2.2/\b∉x.2.2/\x.1.1.length<4611686018427387904}=>bI x.val.1.1 y.val.1.1) (lt':=dG) ((·.1)∘atH) (fun _ _=>rfl) I).symm
 have c0:((LS.map atH).flatMap (·.2.2)).Perm o:=by
  rw[w1,<-h0];exact List.Perm.flatMap_right _ (K.map _)
 have M1:Bk w' Ey.sz (fl w' Ey) (dE l) (.slice (some ⟨b,off,none⟩) l.length cap) (b::(LS.map atH).flatMap (·.2.2)):=by
  have W:(dE l).length=l.length:=by rw[C];simp[t]
  refine .inr ⟨b,off,cap,_,el,(0,0),_,by rw[W],by rw[W];exact p1,j0,by rw[anI];exact u1,rfl,?_⟩
  have:=agC (R:=fl w' Ey) (LS.map atH) (fun x hx=>by
   obtain⟨z,hz,rfl⟩:=List.mem_map.1 hx;refine fl.mono (fun k hk=> ?_) z.property.1;refine S k (fl.bounds z.property.1 k hk) (fun e=>z.property.2.1 (e▸hk)))
  rw[W,C]
  have e2:((Go.Sort.putCells id off (Go.Sort.flatK (fun x:{x:Ey.den×List Value×List Nat//fl w Ey x.1 x.2.1 x.2.2/\b∉x.2.2/\x.1.1.length<4611686018427387904}=>x.val.2.1) 4 LS.toArray) c).toList.drop off).take (l.length*Ey.sz)=(LS.map atH).flatMap (fun x=>x.2.1):=by
   have hp:=an0 (F:=Go.Sort.flatK (fun x:{x:Ey.den×List Value×List Nat//fl w Ey x.1 x.2.1 x.2.2/\b∉x.2.2/\x.1.1.length<4611686018427387904}=>x.val.2.1) 4 LS.toArray) (c:=c) (off:=off) (by rw[o1];omega);rw[o1]at hp;rw[J,<-amm u0 (by omega) LS];exact hp
  rw[e2];exact this
 refine aeF (e:=Ey) g L0 s M1 (fun b2 C1 he=> ?_) (fun k hk o0=>S k hk (fun e=>o0 o (by rw[e]))) (fun b2 C1 he=> ?_) ?_ ?_ ?_ ?_
 ·obtain⟨rfl,rfl⟩:=at4 he;exact⟨o,rfl,c0⟩
 ·obtain⟨rfl,rfl⟩:=at4 he;exact⟨_,_,j0⟩
 ·rw[hw];show w.heap.size<=((w.heap.modify b _)++q).size;rw[at0,atQ];omega
 ·rw[hw];rfl
 ·rw[hw];rfl
 ·rw[hw];rfl
end Vg
namespace Vg
open Go
def ag5{β:Type}{c:Bool}{a b:β}(h:c=false):(if c=true then a else b)=b:=by rw[h];rfl
def Dr{α:Type}(o:Option α)(Q:α->Prop):Prop:=∃a,o=some a/\Q a
def bl{α:Type}{a:α}{Q:α->Prop}(h:Q a):Dr (some a) Q:=⟨a,rfl,h⟩
def Y9{α:Type}{o:Option α}{P Q:α->Prop}(h:Dr o P)(b:∀a,P a->Q a):Dr o Q:=by
 obtain⟨a,e,h⟩:=h;exact⟨a,e,b a h⟩
def aS{α β:Type}{o:Option α}{f:α->Option β}{P:α->Prop}{Q:β->Prop}(h:Dr o P)(c:∀a,P a->Dr (f a) Q):Dr (Option.bind o f) Q:=by
 obtain⟨a,e,h⟩:=h;obtain⟨b,d,g⟩:=c a h;exact⟨b,by rw[e,at2,d],g⟩
def fc{α β:Type}{o:Option α}{a:α}{f:α->Option β}{Q:β->Prop}(e:o=some a)(b:Dr (f a) Q):Dr (Option.bind o f) Q:=by
 rw[e,at2];exact b
def bm{α:Type}{b:Bool}{o p:Option α}{Q:α->Prop}(a:b=true->Dr o Q)(c:b=false->Dr p Q):Dr (if b=true then o else p) Q:=by
 cases b;rw[a_ (by simp)];exact c rfl;rw[an rfl];exact a rfl
def dO{α:Type}{b:Bool}{o p:Option α}{Q:α->Prop}(a:b=true)(h:Dr o Q):Dr (if b=true then o else p) Q:=by rw[an a];exact h
def zp{σ ρ:Type}{a:(σ->Option ρ)->Option ρ}{b:σ->Option ρ}{Q:ρ->Prop}(P:σ->Prop)(c:∀s,P s->Dr (b s) Q)(h:∀J:σ->Option ρ,(∀s,P s->Dr (J s) Q)->Dr (a J) Q):Dr (aN a b) Q:=h b c
def vg{σ ρ:Type}{f:(σ->Option ρ)->σ->Option ρ}{Q:ρ->Prop}(m:σ->Nat)(I:σ->Prop)
 (h:∀G s,I s->(∀a,I a->m a<m s->Dr (G a) Q)->Dr (f G s) Q) {k:Nat} {s:σ} (b:I s) (c:m s<k):Dr (aM k f s) Q:=
 UR m I Q h k s b c
def V1(a:Int):0<=bits (fun _=>(· &&& ·)) .i64 a (255:Int)/\bits (fun _=>(· &&& ·)) .i64 a (255:Int)<=255:=by
 have key:bits (fun _=>(· &&& ·)) .i64 a (255:Int)=((((BitVec.ofInt 64 a).toNat%256:Nat)):Int):=by
  change IntKind.i64.wrap (((BitVec.ofInt 64 a &&& BitVec.ofInt 64 (255:Int)).toNat:Nat):Int)=_;rw[BitVec.toNat_and];have b:(BitVec.ofInt 64 (255:Int)).toNat=2^8-1:=by decide
  rw[b,Nat.and_two_pow_sub_one_eq_mod,wrap64 (by omega) (by omega)]
 rw[key];omega
def aR(c:List Int×Int×Int):Prop:=c.1.length<=1048576/\0<=c.2.1/\c.2.1<=1048576
end Vg
namespace Go.Proofs
open Go.Shelf Go.RowKit Go.Lib Go.Sort
variable{P:Program}{ρ:Ren}{α:Type}[Inhabited α]
def alT(d:Array α)(a b:Nat):Nat->Array α
 |0=>d
 |n+1=>swp (alT d a b n) (a+n) (b+n)
@[simp] theorem amr(d:Array α)(a b:Nat):∀n,(alT d a b n).size=d.size
  |0=>rfl
  |n+1=>by rw[alT,size_swp,amr d a b n]
end Go.Proofs
namespace Vg
open Go Go.Proofs Go.Sort
def KP:List (ByteArray×ByteArray)->List (List UInt8)
 | []=>[]
 |a::l=>a.1.toList::a.2.toList::KP l
def Wh(a b:ByteArray):nU a b=decide (a.toList<b.toList):=bytesLess_eq _ _
theorem QA:∀l m:List (ByteArray×ByteArray),bI l m=decide (KP l<KP m)
 | [],[]=>by simp[bI,KP]
 | [],b::m=>by simp[bI,KP]
 |a::l,[]=>by simp[bI,KP]
 |a::l,b::m=>by
  rw[bI,QA l m,Wh,Wh];simp only[KP,List.cons_lt_cons_iff,beq_iff_eq];by_cases c:a.1.toList=b.1.toList;rw[an c];by_cases d:a.2.toList=b.2.toList;rw[an d];simp[c,d,atV];rw[a_ d];simp[c,d,atV];rw[a_ c];simp[c]
def Bf:SWO bI where
 irrefl x:=by rw[QA];simp[atV]
 trans x y z h1 h2:=by
  rw[QA,b_]at*
  exact List.lt_trans h1 h2
 ntrans x y z h1 h2:=by
  rw[QA,d_]at*
  exact fun h=>(List.not_le.2 h) (List.le_trans (List.not_lt.1 h2) (List.not_lt.1 h1))
end Vg
