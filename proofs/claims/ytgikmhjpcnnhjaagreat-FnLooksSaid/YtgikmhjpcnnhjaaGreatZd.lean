/- VG, joined: an evaluator of the code over typed values, and its soundness, for any program. -/
import Derived.Test.YtgikmhjpcnnhjaaGreatZc
import Derived.Lib.SlicesSearch
import Derived.Deep.LoopGhost
set_option linter.unusedSimpArgs false
set_option linter.unusedVariables false
set_option linter.unusedSectionVars false
set_option linter.defProp false
open Nat renaming le_refl -> e8,lt_or_ge -> O_,one_mul -> asY,add_sub_cancel -> atl,zero_le -> atr
open List renaming filter_append -> asL,mem_singleton -> asM,append_assoc -> asQ,singleton_append -> asR,getElem_range' -> asT,getElem?_take -> asV,getElem?_drop -> asW,mem_cons_self -> asX,getElem?_eq_none -> asZ,mem_append -> as0,mem_cons -> as3,filter_cons_of_pos -> as8,pairwise_singleton -> as9,foldl_cons -> ata,append_nil -> atb,reverse_singleton -> atc,filter_eq_nil_iff -> atd,lt_irrefl -> atf,map_cons -> atg,reverse_append -> ath,mem_map -> ati,pairwise_cons -> atj,length_range' -> atk,flatMap_cons -> atn,ext_getElem? -> ato,mem_range'_1 -> atq,length_cons -> ats,filter_cons -> att,getElem_map -> atu,nil_append -> atw,mem_filter -> atx
open Array renaming getElem?_toList -> asO,getElem?_append_left -> asS,getElem?_eq_getElem -> asU,size_modify -> as5,getElem?_modify -> ate,size_append -> atp
open Subtype renaming val -> asP
open Option renaming isSome_none -> as1,bind_some -> atv
open Bool renaming false_eq_true -> as2,not_eq_true' -> as6,and_eq_true -> as7,not_eq_false' -> atm
open List.cons renaming inj -> as4
namespace Vg
open Go Go.RowKit
section
variable{α:Type}
theorem KH(lt:α->α->Bool)(x:α):∀r:List α,(dG lt x r).Perm (x::r)
 | []=>List.Perm.refl _
 |y::r=>by
  unfold dG;split
  ·exact((KH lt x r).cons y).trans (List.Perm.swap x y r)
  ·exact List.Perm.refl _
theorem FH(lt:α->α->Bool):∀(l r:List α),(l.foldl (λr x=>dG lt x r) r).Perm (l++r)
 | [],r=>List.Perm.refl _
 |x::l,r=>by
  rw[ata];exact(FH lt l _).trans ((List.Perm.append_left l (KH lt x r)).trans (List.perm_middle))
def pB(lt:α->α->Bool)(l:List α):(fc lt l).Perm l:=by
 unfold fc;refine(List.reverse_perm _).trans ?_;have:=FH lt l [];rwa [atb]at this
theorem N3{β:Type}{lt:α->α->Bool}{lt':β->β->Bool}(f:α->β)(h:∀x y,lt x y=lt' (f x) (f y))(x:α):∀r:List α,(dG lt x r).map f=dG lt' (f x) (r.map f)
 | []=>rfl
 |y::r=>by
  simp only[dG,atg,h];split<;>simp[N3 f h x r]
theorem Ie{β:Type}{lt:α->α->Bool}{lt':β->β->Bool}(f:α->β)(h:∀x y,lt x y=lt' (f x) (f y)):∀(l r:List α),(l.foldl (λr x=>dG lt x r) r).map f=(l.map f).foldl (λr x=>dG lt' x r) (r.map f)
 | [],r=>rfl
 |x::l,r=>by
  rw[ata,atg,ata,Ie f h l,N3 f h]
def abj{β:Type}{lt:α->α->Bool}{lt':β->β->Bool}(f:α->β)(h:∀x y,lt x y=lt' (f x) (f y))(l:List α):(fc lt l).map f=fc lt' (l.map f):=by
 unfold fc;rw[List.map_reverse,Ie f h];rfl
variable[Inhabited α]
theorem Ul(lt:α->α->Bool):∀(j:Nat) (p:List α) (x:α) (r:List α),p.length=j->Go.Sort.insInner lt 0 j (p++x::r).toArray=((dG lt x p.reverse).reverse++r).toArray
 |0,p,x,r,h=>by
  have:p=[]:=List.length_eq_zero_iff.1 h;subst this;rfl
 |j+1,p,x,r,h=>by
  obtain⟨q,y,rfl⟩:∃q y,p=q++[y]:=⟨p.dropLast,p.getLast (by intro e;rw[e]at h;cases h),(List.dropLast_concat_getLast _).symm⟩
  have a:q.length=j:=by simpa using h
  have c:(q++[y]++x::r).toArray[j+1]! =x:=by simp[<-a]
  have d:(q++[y]++x::r).toArray[j]! =y:=by simp[<-a]
  unfold Go.Sort.insInner;rw[c,d];by_cases b:lt x y=true;rw[an (by simp[b])]
  have f:Go.Sort.swp (q++[y]++x::r).toArray (j+1) j=(q++x::(y::r)).toArray:=by
   unfold Go.Sort.swp;rw[c,d];apply Array.ext';simp[<-a]
  rw[f,Ul lt j q x (y::r) a,ath,atc,asR];simp[dG,b];rw[a_ (by simp[b]),ath,atc,asR];simp[dG,b]
theorem UK(lt:α->α->Bool)(l:List α):∀(m i:Nat),i+m=l.length->Go.Sort.insOuter lt 0 l.length i (fc lt (l.take i)++l.drop i).toArray=(fc lt l).toArray
 |0,i,h=>by
  unfold Go.Sort.insOuter;rw[a_ (by omega),List.drop_eq_nil_of_le (by omega),List.take_of_length_le (by omega),atb]
 |m+1,i,h=>by
  have a:i<l.length:=by omega
  unfold Go.Sort.insOuter;rw[an a,List.drop_eq_getElem_cons a];have hlen:(fc lt (l.take i)).length=i:=by rw[(pB lt (l.take i)).length_eq,List.length_take];omega
  rw[Ul lt i _ _ _ hlen]
  have:(dG lt l[i] (fc lt (l.take i)).reverse).reverse=fc lt (l.take (i+1)):=by
   unfold fc;rw[List.reverse_reverse,List.take_succ_eq_append_getElem a,List.foldl_append];rfl
  rw[this];exact UK lt l m (i+1) (by omega)
def agE(lt:α->α->Bool)(l:List α)(h:1<=l.length):Go.Sort.insertionSort lt l.toArray 0 l.toArray.size=(fc lt l).toArray:=by
 unfold Go.Sort.insertionSort;have:=UK lt l (l.length-1) 1 (by omega)
 have e:fc lt (l.take 1)++l.drop 1=l:=by
  cases l with
  |nil=>cases h
  |cons x l=>rfl
 rw[e]at this;simpa using this
theorem RJ{enc:α->List Value}{k:Nat}(a:∀x,(enc x).length=k)(c:0<k):∀(L:List α) (t:Nat),t<L.length*k->(L.flatMap enc)[t]?=some ((enc L[t/k]!)[t%k]!)
 | [],t,h=>by simp at h
 |x::L,t,h=>by
  rw[atn];by_cases b:t<k;rw[List.getElem?_append_left (by rw[a];exact b),Nat.div_eq_of_lt b,Nat.mod_eq_of_lt b];have:t<(enc x).length:=by rw[a];exact b
  simp[this];rw[List.getElem?_append_right (by rw[a];omega),a,RJ a c L (t-k) (by simp only[ats,Nat.add_mul,asY]at h;omega)];have d:t/k=(t-k)/k+1:=by rw[Nat.div_eq_sub_div c (by omega)]
  have e:t%k=(t-k)%k:=by rw[Nat.mod_eq_sub_mod (by omega)]
  rw[d,e];rfl
def acH{enc:α->List Value}{k:Nat}(b:∀x,(enc x).length=k)(e:0<k)(L:List α):(Go.Sort.flatK enc k L.toArray).toList=L.flatMap enc:=by
 have f:(L.flatMap enc).length=L.length*k:=by
  induction L with
  |nil=>simp
  |cons x L g=>rw[atn,List.length_append,g,b,ats,Nat.add_mul,asY,Nat.add_comm]
 apply ato;intro t;by_cases a:t<L.length*k;rw[RJ b e L t a];have c:t<(Go.Sort.flatK enc k L.toArray).size:=by simpa using a
 have d:=Go.Sort.get_flatK enc k L.toArray t (by simpa using a);rw[getElem!_pos _ t c]at d;rw[asO,asU c,d];simp;rw[asZ (by simp;omega),asZ (by rw[f];omega)]
end
theorem NA{β:Type}{R:β->List Value->List Nat->Prop}:∀ {l:List β} {cs:List Value} {B:List Nat},aZ R l cs B->
 ∃L:List (β×List Value×List Nat),(∀x∈L,R x.1 x.2.1 x.2.2)/\l=L.map (·.1)/\cs=L.flatMap (·.2.1)/\B=L.flatMap (·.2.2)
 | [],_,_,h=>⟨[],by simp,rfl,h.1,h.2⟩
 |x::l,cs,B,h=>by
  obtain⟨b,c2,c,B2,rfl,rfl,d,e⟩:=h;obtain⟨L,f,rfl,rfl,rfl⟩:=NA e;exact⟨(x,b,c)::L,(λy a=>by rcases as3.1 a with rfl|a;exact d;exact f y a),rfl,rfl,rfl⟩
theorem OJ{β:Type}{R:β->List Value->List Nat->Prop}:∀(L:List (β×List Value×List Nat)),(∀x∈L,R x.1 x.2.1 x.2.2)->aZ R (L.map (·.1)) (L.flatMap (·.2.1)) (L.flatMap (·.2.2))
 | [],_=>⟨rfl,rfl⟩
 |x::L,h=>⟨x.2.1,_,x.2.2,_,rfl,rfl,h x (by simp),OJ L (λy a=>h y (by simp[a]))⟩
theorem Yj{w:World}:∀ {l:List (ByteArray×ByteArray)} {cs:List Value} {B:List Nat},aZ (aW w (.pair .str .str)) l cs B->B=[]/\∀i,i<l.length->cs[i*2]?=some (.string (l.getD i (ByteArray.empty,ByteArray.empty)).1)/\cs[i*2+1]?=some (.string (l.getD i (ByteArray.empty,ByteArray.empty)).2)
 | [],_,_,h=>⟨h.2,λi a=>by simp at a⟩
 |x::l,cs,B,h=>by
  obtain⟨c1,c2,B1,B2,rfl,rfl,⟨d1,d2,C1,C2,rfl,rfl,⟨rfl,rfl⟩,⟨rfl,rfl⟩⟩,c⟩:=h;obtain⟨e,q⟩:=Yj c;refine⟨by rw[e];rfl,λi a=> ?_⟩;cases i with
  |zero=>exact⟨rfl,rfl⟩
  |succ i=>
   obtain⟨q1,q2⟩:=q i (by simpa using a);have b:(i+1)*2=i*2+1+1:=by omega
   rw[b];simp only[asR,List.cons_append,atw,List.getElem?_cons_succ,List.getD_cons_succ];exact⟨q1,q2⟩
def Ke{e:Ty}{F:bu [.sl e]->Option (bu [.sl e])}{w w':World}{j:Gh}{v:Value}{l C:List e.den}
 (g:Pd w j (cI [.val (.sl e) .own] (l,()) 4).1 [v] 5) {B B':List Nat} (hB:eX w e.sz (aW w e) l v B) (r:∀b a,B=b::a->j.col b=4/\b∉a/\(∀x∈a,j.col x=4)/\a.Nodup)
 (G:eX w' e.sz (aW w' e) C v B') (R:∀b a,B'=b::a->∃n,B=b::n/\a.Perm n)
 (k:∀b,b<w.heap.size->(∀a,B≠b::a)->w'.heap[b]?=w.heap[b]?) (s:∀b a,B=b::a->∃c el,w'.heap[b]?=some (.cells c el (0,0)))
 (m:w.heap.size<=w'.heap.size) (H:w'.os=w.os) (p:w'.tape=w.tape) (u:w'.output=w.output):
 ∃G' I J,BX ⟨[.val (.sl e) .own],[.val (.sl e) .own],F,[]⟩ w j [v] (C,()) v w' G' I J:=by
 refine⟨⟨λb=>if j.col b=4 then 5 else j.col b,λt=>if t=5 then v else j.hdr t,λ_=>false⟩,[v],6,?_⟩
 exact {
  kept:=λq K=>by cases K
  val:=rfl
  len:=rfl
  res:=λi=>by
   cases i with
   |zero=>
    show cU w' _ (.d ⟨.sl e,C,.sl (.row 5 [5] true)⟩) v;refine⟨[v],rfl,v,rfl,by omega,rfl,B',G,λb a o=> ?_⟩;obtain⟨n,W,f⟩:=R b a o;obtain⟨q1,q2,q3,q4⟩:=r b n W;refine⟨by simp[q1],λL=>q2 (f.mem_iff.1 L),λx N=> ?_,λ_=>f.nodup_iff.2 q4⟩;have:=q3 x (f.mem_iff.1 N);simp[this]
   |succ i=>trivial
  ios:=λt i x h=>by cases h
  frame:=λb y hc=>by
   refine⟨by simp only;rw[a_ (by omega)],k b y (λa o=> ?_)⟩;have:=(r b a o).1;omega
  one:=λb h=>by
   simp only at h;split at h;omega;rename_i z;exact⟨(g.colU b (by omega)).2,by show j.col b=if j.col b=4 then 5 else j.col b;rw[a_ z]⟩
  size:=m
  os:=H
  tape:=p
  output:=u
  lt:=λb h=>by
   simp only at h;refine Nat.lt_of_lt_of_le (g.colU b ?_).2 m;split at h<;>omega
  fresh:=λb h=>by
   simp only at h;have S:4<=j.col b:=by split at h<;>omega
   obtain⟨c,el,hc⟩:=g.fresh b S;by_cases y:∃a,B=b::a;obtain⟨a,o⟩:=y;exact s b a o;rw[k b (g.colU b (by omega)).2 (λa o=>y ⟨a,o⟩)];exact⟨c,el,hc⟩}
def YA{α:Type}(lt:α->α->Bool):∀ {l:List α},l.length<=1->fc lt l=l
 | [],_=>rfl
 | [x],_=>rfl
 |_::_::_,h=>by simp at h
theorem Xj{α:Type}{p:α->Prop}:∀(L:List α),(∀x∈L,p x)->∃a:List {x//p x},a.map asP=L
 | [],_=>⟨[],rfl⟩
 |x::L,h=>by
  obtain⟨a,e⟩:=Xj L (λy b=>h y (by simp[b]));exact⟨⟨x,h x (by simp)⟩::a,by rw[atg,e]⟩
def agl{F c:Array Value}{off:Nat}(h:off+F.size<=c.size):((Go.Sort.putCells id off F c).toList.drop off).take F.size=F.toList:=by
 apply ato;intro t;rw[asV];split;rename_i a;rw[asW,asO];unfold Go.Sort.putCells;rw[Array.getElem?_mapIdx,asU (show off+t<c.size by omega)];rw[Option.map_some,an ⟨by omega,by omega⟩,asO,asU a,show off+t-off=t by omega,getElem!_pos F t a];rfl;rw[asZ];simp;omega
def afX(F c:Array Value)(off:Nat):(Go.Sort.putCells id off F c).size=c.size:=by simp[Go.Sort.putCells]
def aeZ{w:World}{x:fJ.den}{cs:List Value}{B:List Nat}(h:aW w fJ x cs B):(∀v∈cs,v.oneCell'=true)/\
 ∃v a,cs[0]?=some v/\(∀y∈a,y∈B)/\eX w 2 (aW w (.pair .str .str)) x.1 v a:=by
 obtain⟨c1,c2,a,B2,rfl,rfl,⟨v,rfl,c⟩,⟨d1,d2,C1,C2,rfl,rfl,⟨rfl,rfl⟩,⟨f1,f2,D1,D2,rfl,rfl,⟨rfl,rfl⟩,⟨rfl,rfl⟩⟩⟩⟩:=h;refine⟨λu b=> ?_,v,a,rfl,λy d=>List.mem_append_left _ d,c⟩;simp only[asR,as3,List.not_mem_nil,or_false]at b;rcases b with rfl|rfl|rfl|rfl;exact c.one;rfl;rfl;rfl
theorem aah{N:Nat}{P:Program}{f:FuncId}{fn:Func}(hf:P.funcs[f]?=some fn)(u0:(fn.name== "runtime.NumGoroutine")=false)(hb:fn.body.isSome=true)
 (R0:∀(p:Option Addr) (n c:Nat),n<=1->∀w:World,Calls P f #[.slice p n c] w λe w'=>e= .returned (.slice p n c)/\∃q,w'=Go.Sort.grow w q)
 (F1:∀ {α:Type} [Inhabited α] (enc:α->List Value) (_:∀x,(enc x).length=4) (_:∀x,∀v∈enc x,v.oneCell'=true) (w0:α->List (ByteArray×ByteArray)) (G off c:Nat) (d:Array α) (w:World)
  (_:2<=d.size) (_:d.size<N) (_:Go.Sort.HoldsK enc 4 w G off d) (_:G<w.heap.size) (_:Go.Proofs.Tp enc w0 G w),
  Calls P f #[.slice (some ⟨G,off,none⟩) d.size c] w λe w'=>
   e= .returned (.slice (some ⟨G,off,none⟩) d.size c)/\∃n q,w'=Go.Sort.grow (Go.Sort.putRowK enc 4 (Go.Sort.ahead w n) G off (Go.Sort.insertionSort (λx y=>bN (w0 x) (w0 y)) d 0 d.size)) q):
 vd P f ⟨[.val (.sl fJ) .own],[.val (.sl fJ) .own],uJ N,[]⟩:=by
 intro w G0 args x y hy g;have hlen:args.length=1:=g.len
 obtain⟨v,rfl⟩:∃v,args=[v]:=by
  match args,hlen with
  | [a],_=>exact⟨a,rfl⟩
 obtain⟨l,u⟩:=x
 suffices H:∀(l:List fJ.den) (y:List fJ.den×Unit),uJ N (l,())=some y->Pd w G0 (cI [.val (.sl fJ) .own] (l,()) 4).1 [v] 5->
  Ts P f [v].toArray w (λmv w'=>∃G' vs nt,BX ⟨[.val (.sl fJ) .own],[.val (.sl fJ) .own],uJ N,[]⟩ w G0 [v] y mv w' G' vs nt)from H l y hy g
 clear hy g u y hlen l;intro l y hy g;have s0:cU w G0 (.d ⟨.sl fJ,l,.sl (.row 4 [4] true)⟩) v:=g.slots 0;obtain⟨cs,e0,v',rfl,_,_,B,hB,c2⟩:=s0;have G1:v=v':=e0;subst G1;have hB:eX w fJ.sz (aW w fJ) l v B:=hB
 have s:∀b o,B=b::o->G0.col b=4/\b∉o/\(∀x∈o,G0.col x=4)/\o.Nodup:=λb o he=>by
  obtain⟨q1,q2,q3,q4⟩:=c2 b o he;exact⟨q1,q2,λx hx=>by simpa using q3 x hx,q4 rfl⟩
 unfold uJ at hy;split at hy;rotate_left
 ·cases hy
 rename_i hc;simp only[as7,b_,List.all_eq_true]at hc;obtain⟨UD,j2⟩:=hc;have J1:=Option.some.inj hy;subst J1;refine On hf u0 hb ?_
 have c0:l.length<=1->∀q,∃G' vs nt,BX ⟨[.val (.sl fJ) .own],[.val (.sl fJ) .own],uJ N,[]⟩ w G0 [v] (dp l,()) v (Go.Sort.grow w q) G' vs nt:=λh1 q=>by
  have hs:∀b,b<w.heap.size->(Go.Sort.grow w q).heap[b]?=w.heap[b]?:=λb h=>by
   show(w.heap++q)[b]?=_;rw[asS h]
  have e:dp l=l:=YA _ h1;rw[e];refine Ke (e:=fJ) g hB s (B':=B) (hB.mono (λb hb=>hs b (eX.bounds hB b hb))) (λb o he=>⟨o,he,List.Perm.refl _⟩) (λb h _=>hs b h) (λb o he=> ?_) ?_ rfl rfl rfl
  ·obtain⟨c,el,hc⟩:=g.fresh b (by rw[(s b o he).1];exact e8 _);exact⟨c,el,by rw[hs b (lt_of_block hc)];exact hc⟩
  ·show w.heap.size<=(w.heap++q).size;rw[atp];omega
 by_cases h1:l.length<=1
 ·obtain⟨p,n,c,hv,hn⟩:∃p n c,v= .slice p n c/\n<=1:=by
   rcases hB with⟨⟨ao,e⟩,_,_⟩|⟨b,off,cap,c,el,fz,o,e,_⟩
   ·exact⟨ao,0,0,e,by omega⟩
   ·exact⟨_,_,_,e,h1⟩
  subst hv;refine(R0 p n c hn w).mono ?_;rintro e w' ⟨rfl,q,rfl⟩;exact⟨_,rfl,c0 h1 q⟩
 have a1:=hB;rcases hB with⟨_,e,_⟩|⟨b,off,cap,c,el,fz,o,rfl,w1,I,x1,rfl,hl⟩
 ·exact absurd (by rw[e];simp) h1
 obtain⟨q1,q2,q3,q4⟩:=s b o rfl
 have L1:fz=(0,0):=by
  obtain⟨c',el',E0⟩:=g.fresh b (by rw[q1];exact e8 _);rw[I]at E0;simp only[Option.some.injEq,Obj.cells.injEq]at E0;exact E0.2.2
 subst L1;obtain⟨L,hL,L0,k2,y1⟩:=NA hl;have hbnd:∀x∈o,x<w.heap.size:=λx hx=>eX.bounds a1 x (by simp[hx])
 have T1:∀x∈L,aW w fJ x.1 x.2.1 x.2.2/\b∉x.2.2/\x.1.1.length<4611686018427387904:=λx hx=>by
  refine⟨hL x hx,λhm=>q2 (by rw[y1];exact List.mem_flatMap.2 ⟨x,hx,hm⟩),j2 x.1 ?_⟩;rw[L0];exact ati.2 ⟨x,hx,rfl⟩
 obtain⟨J,k0⟩:=Xj L T1;have m:J.length=l.length:=by rw[L0,<-k0];simp
 haveI:Inhabited {x:fJ.den×List Value×List Nat//aW w fJ x.1 x.2.1 x.2.2/\b∉x.2.2/\x.1.1.length<4611686018427387904}:=⟨J.head (by intro e;rw[e]at m;simp at m;omega)⟩
 have x0:∀x:{x:fJ.den×List Value×List Nat//aW w fJ x.1 x.2.1 x.2.2/\b∉x.2.2/\x.1.1.length<4611686018427387904},x.val.2.1.length=4:=λx=>aW.len x.property.1
 have K:∀M:List {x:fJ.den×List Value×List Nat//aW w fJ x.1 x.2.1 x.2.2/\b∉x.2.2/\x.1.1.length<4611686018427387904},(M.map asP).flatMap (λx=>x.2.1)=M.flatMap (λx=>x.val.2.1):=λM=>by
  rw[List.flatMap_map]
 have j1:J.flatMap (λx=>x.val.2.1)=(c.toList.drop off).take (l.length*4):=by
  rw[<-K,k0];exact k2.symm
 have hH:Go.Sort.HoldsK (λx:{x:fJ.den×List Value×List Nat//aW w fJ x.1 x.2.1 x.2.2/\b∉x.2.2/\x.1.1.length<4611686018427387904}=>x.val.2.1) 4 w b off J.toArray:=by
  intro j hj;refine⟨?_,yA I _⟩;rw[Go.Sort.size_flatK]at hj;have W1:j<J.length*4:=by simpa using hj
  rw[Go.Sort.get_flatK _ _ _ _ hj];have h2:=RJ (enc:=λx:{x:fJ.den×List Value×List Nat//aW w fJ x.1 x.2.1 x.2.2/\b∉x.2.2/\x.1.1.length<4611686018427387904}=>x.val.2.1) x0 (by omega) J j W1;rw[j1,asV,an (by omega),asW,asO]at h2;unfold World.cell?;simp only[I,as1,as2,if_false];rw[h2];simp
 have k1:Go.Proofs.Tp (λx:{x:fJ.den×List Value×List Nat//aW w fJ x.1 x.2.1 x.2.2/\b∉x.2.2/\x.1.1.length<4611686018427387904}=>x.val.2.1) (λx=>x.val.1.1) b w:=by
  rintro⟨⟨a,ac,aB⟩,ha,l2,z1⟩;obtain⟨_,v1,B1,A1,C1,D1⟩:=aeZ ha;rcases D1 with⟨⟨ao,e1⟩,e2,_⟩|⟨b1,Y,p0,c1,el1,fz1,Bs1,e1,hcap1,b0,hsz1,e2,n2⟩
  ·have l1:a.1=[]:=e2;refine⟨ao,0,?_,z1,λi hi=> ?_⟩
   ·show ac[0]?=some (.slice ao a.1.length 0);rw[A1,e1,l1];rfl
   ·change i<a.1.length at hi;rw[l1]at hi;simp at hi
  ·refine⟨some ⟨b1,Y,none⟩,p0,?_,z1,λi hi=> ?_⟩
   ·show ac[0]?=some (.slice (some ⟨b1,Y,none⟩) a.1.length p0);rw[A1,e1]
   ·change i<a.1.length at hi;obtain⟨_,hq⟩:=Yj n2;obtain⟨r1,r2⟩:=hq i hi;refine⟨b1,Y,rfl,λe=>l2 (C1 b (by rw[e2,e];simp)),lt_of_block b0,?_,?_⟩
    ·unfold World.cell?;simp only[b0,as1,as2,if_false];rw[asV,an (by show i*2<a.1.length*2;omega),asW,asO]at r1;exact r1
    ·unfold World.cell?;simp only[b0,as1,as2,if_false];rw[asV,an (by show i*2+1<a.1.length*2;omega),asW,asO]at r2;exact r2
 have r:=F1 (λx:{x:fJ.den×List Value×List Nat//aW w fJ x.1 x.2.1 x.2.2/\b∉x.2.2/\x.1.1.length<4611686018427387904}=>x.val.2.1) x0 (λx=>(aeZ x.property.1).1) (λx=>x.val.1.1) b off cap J.toArray w
  (by simp;omega) (by simp;omega) hH (lt_of_block I) k1
 rw[agE _ J (by omega)]at r;have n1:J.toArray.size=l.length:=by simpa using m
 rw[n1]at r;refine r.mono ?_;rintro e w' ⟨rfl,n,q,hw⟩;refine⟨_,rfl,?_⟩;have o1:b<w.heap.size:=lt_of_block I;generalize p1:fc (λx y:{x:fJ.den×List Value×List Nat//aW w fJ x.1 x.2.1 x.2.2/\b∉x.2.2/\x.1.1.length<4611686018427387904}=>bN x.val.1.1 y.val.1.1) J=LS at hw;have S:LS.Perm J:=by rw[<-p1];exact pB _ _
 have W:∀k,k<w.heap.size->k≠b->w'.heap[k]?=w.heap[k]?:=λk hk r0=>by
  rw[hw];show((w.heap.modify b _)++q)[k]?=_;rw[asS (by rw[as5];exact hk),ate,a_ (λh=>r0 h.symm)]
 have o0:w'.heap[b]?=some (.cells (Go.Sort.putCells id off (Go.Sort.flatK (λx:{x:fJ.den×List Value×List Nat//aW w fJ x.1 x.2.1 x.2.2/\b∉x.2.2/\x.1.1.length<4611686018427387904}=>x.val.2.1) 4 LS.toArray) c) el (0,0)):=by
  rw[hw];show((w.heap.modify b _)++q)[b]?=_;rw[asS (by rw[as5];exact o1),ate,an rfl,I];rfl
 have t:LS.length=l.length:=by rw[S.length_eq,m]
 have u1:(Go.Sort.flatK (λx:{x:fJ.den×List Value×List Nat//aW w fJ x.1 x.2.1 x.2.2/\b∉x.2.2/\x.1.1.length<4611686018427387904}=>x.val.2.1) 4 LS.toArray).size=l.length*4:=by
  rw[Go.Sort.size_flatK];simp[t]
 have hsz4:off+cap*4<=c.size:=x1
 have C:dp l=(LS.map asP).map (·.1):=by
  rw[L0,<-k0,<-p1,List.map_map,List.map_map];unfold dp;exact(abj (lt:=λx y:{x:fJ.den×List Value×List Nat//aW w fJ x.1 x.2.1 x.2.2/\b∉x.2.2/\x.1.1.length<4611686018427387904}=>bN x.val.1.1 y.val.1.1) (lt':=ee) ((·.1)∘asP) (λ_ _=>rfl) J).symm
 have h0:((LS.map asP).flatMap (·.2.2)).Perm o:=by
  rw[y1,<-k0];exact List.Perm.flatMap_right _ (S.map _)
 have X1:eX w' fJ.sz (aW w' fJ) (dp l) (.slice (some ⟨b,off,none⟩) l.length cap) (b::(LS.map asP).flatMap (·.2.2)):=by
  have X:(dp l).length=l.length:=by rw[C];simp[t]
  refine .inr ⟨b,off,cap,_,el,(0,0),_,by rw[X],by rw[X];exact w1,o0,by rw[afX];exact x1,rfl,?_⟩
  have:=OJ (R:=aW w' fJ) (LS.map asP) (λx hx=>by
   obtain⟨z,hz,rfl⟩:=ati.1 hx;refine aW.mono (λk hk=> ?_) z.property.1;refine W k (aW.bounds z.property.1 k hk) (λe=>z.property.2.1 (e▸hk)))
  rw[X,C]
  have e2:((Go.Sort.putCells id off (Go.Sort.flatK (λx:{x:fJ.den×List Value×List Nat//aW w fJ x.1 x.2.1 x.2.2/\b∉x.2.2/\x.1.1.length<4611686018427387904}=>x.val.2.1) 4 LS.toArray) c).toList.drop off).take (l.length*fJ.sz)=(LS.map asP).flatMap (λx=>x.2.1):=by
   have hp:=agl (F:=Go.Sort.flatK (λx:{x:fJ.den×List Value×List Nat//aW w fJ x.1 x.2.1 x.2.2/\b∉x.2.2/\x.1.1.length<4611686018427387904}=>x.val.2.1) 4 LS.toArray) (c:=c) (off:=off) (by rw[u1];omega);rw[u1]at hp;rw[K,<-acH x0 (by omega) LS];exact hp
  rw[e2];exact this
 refine Ke (e:=fJ) g a1 s X1 (λb2 E1 he=> ?_) (λk hk r0=>W k hk (λe=>r0 o (by rw[e]))) (λb2 E1 he=> ?_) ?_ ?_ ?_ ?_
 ·obtain⟨rfl,rfl⟩:=as4 he;exact⟨o,rfl,h0⟩
 ·obtain⟨rfl,rfl⟩:=as4 he;exact⟨_,_,o0⟩
 ·rw[hw];show w.heap.size<=((w.heap.modify b _)++q).size;rw[atp,as5];omega
 ·rw[hw];rfl
 ·rw[hw];rfl
 ·rw[hw];rfl
end Vg
namespace Go.Proofs
open Go.Shelf Go.RowKit Go.Lib Go.Sort
variable{P:Program}{ρ:Ren}{α:Type}[Inhabited α]
def nj(d:Array α)(a b:Nat):Nat->Array α
 |0=>d
 |n+1=>swp (nj d a b n) (a+n) (b+n)
@[simp] theorem hZ(d:Array α)(a b:Nat):∀n,(nj d a b n).size=d.size
  |0=>rfl
  |n+1=>by rw[nj,size_swp,hZ d a b n]
set_option maxHeartbeats 1600000 in
set_option maxRecDepth 1000000 in
def ZU(L:LaysGt.n49 P ρ){enc:α->List Value}{k:Nat}(hk:∀x,(enc x).length=k)(lf:Fn)(la lb:Array Value)(sf:Nat)(sb:Array Value){blk off:Nat}(a b n:Nat){d:Array α}{w:World}
 (hswap:SwapSwapsK P sf sb enc k blk off d.size) (hH:HoldsK enc k w blk off d) (hblk:blk<w.heap.size) (ha:a+n<=d.size) (hb:b+n<=d.size) (hsz:d.size<4611686018427387904):
 Calls P (ρ.f 49) #[.agg #[.func lf la lb,.func (.func sf) #[] sb],.int .i64 a,.int .i64 b,.int .i64 n] w λe w'=>e= .returned (.tuple #[])/\∃m os,w'=sortWorldK enc k w blk off m (nj d a b n) os:=by
 have mixed:=L.mixed;have t0:=L.t0;have a0:=L.a0;have z0:=L.z0;have v0:=L.v0;have t3:=L.t3;have a3:=L.a3;have z3:=L.z3;have v3:=L.v3;have t4:=L.t4;have a4:=L.a4;have z4:=L.z4;have v4:=L.v4;have t26:=L.t26;have a26:=L.a26;have z26:=L.z26;have v26:=L.v26;have t38:=L.t38;have a38:=L.a38;have z38:=L.z38;have v38:=L.v38;have t42:=L.t42;have a42:=L.a42;have z42:=L.z42;have v42:=L.v42;have u42:=run_underlying L.t42;have hH1:HoldsK enc k (w.alloc (.cells #[.func lf la lb,.func (.func sf) #[] sb] (ρ.t 42))) blk off d:=by rw[alloc_eq_grow];exact holdsK_grow enc k w _ blk off d hblk hH
 go_enter L.f49,BodyGt.n49_ntmps ρ
 go_wp2
 go_loopg [8] n (λkx s8 wr=>∃(i:Nat) (m:Nat),s8= .int .i64 i/\i<=n/\n-i<=kx/\wr=putRowK enc k (Sort.ahead (w.alloc (.cells #[.func lf la lb,.func (.func sf) #[] sb] (ρ.t 42))) m) blk off (nj d a b i))
 case atStart=>exact⟨0,0,rfl,by omega,by omega,(putRowK_self enc k _ blk off d hH1).symm⟩
 case round=>
  obtain⟨i,m,rfl,hi,hkx,hwr⟩:=hrel;by_cases hlt:i<n
  ·have hds:(nj d a b i).size=d.size:=hZ d a b i;have hHk:HoldsK enc k wr blk off (nj d a b i):=by rw[hwr];exact holdsK_putRowK enc k _ blk off d _ (holdsK_ahead enc k _ m blk off d hH1) hds
   have c1:wr.cell? ⟨w.heap.size,1,none⟩=some (.func (.func sf) #[] sb):=by
    rw[hwr,cell?_putRowK_other enc k _ blk off _ _ (by show w.heap.size≠blk;omega)];show((w.alloc (.cells #[.func lf la lb,.func (.func sf) #[] sb] (ρ.t 42)))).cell? _=_;simp
   have hs:=hswap wr _ hHk hds (a+i) (b+i) (by omega) (by omega);have A:Aside (wr=putRowK enc k (Sort.ahead (w.alloc (.cells #[.func lf la lb,.func (.func sf) #[] sb] (ρ.t 42))) m) blk off (nj d a b i)):=hwr;clear hwr hHk hH hH1 hswap;rw[show(((a+i:Nat):Int))=(a:Int)+i by omega,show(((b+i:Nat):Int))=(b:Int)+i by omega]at hs
   go_wp2
   go_roundg (n-(i+1))
   case measure=>omega
   case rel=>
    exact⟨i+1,m,by simp,by omega,e8 _,by rw[A.out,nj,<-putRowK_swp enc k hk _ blk off _ (a+i) (b+i) (by omega) (by omega)]⟩
  ·obtain rfl:i=n:=by omega
   go_wp2
   go_end0
   exact⟨rfl,m,_,sortWorldK_of_alloc enc k w _ blk off m _ hblk⟩
def ua(m:Nat)(d:Array α)(i j:Nat):Array α:=
 if h:0<i/\0<j/\i≠j then
  if j<i then ua m (nj d (m-i) m j) (i-j) j else ua m (nj d (m-i) (m+j-i) i) i (j-i)
 else nj d (m-i) m i
termination_by i+j
decreasing_by all_goals omega
def gI(m:Nat)(d:Array α)(i j:Nat):(ua m d i j).size=d.size:=by
 fun_induction ua m d i j with
 |case1 d i j b c a=>rw[a,hZ]
 |case2 d i j b c a=>rw[a,hZ]
 |case3 d i j h=>rw[hZ]
set_option maxHeartbeats 3200000 in
set_option maxRecDepth 1000000 in
def afF(L:LaysGt.n42 P ρ){enc:α->List Value}{k:Nat}(hk:∀x,(enc x).length=k)(lf:Fn)(la lb:Array Value)(sf:Nat)(sb:Array Value){blk off:Nat}(a m b:Nat){d:Array α}{w:World}
 (hswap:SwapSwapsK P sf sb enc k blk off d.size) (hH:HoldsK enc k w blk off d) (hblk:blk<w.heap.size) (ham:a<m) (hmb:m<b) (hb:b<=d.size) (hsz:d.size<4611686018427387904):
 Calls P (ρ.f 42) #[.agg #[.func lf la lb,.func (.func sf) #[] sb],.int .i64 a,.int .i64 m,.int .i64 b] w λe w'=>e= .returned (.tuple #[])/\∃n os,w'=sortWorldK enc k w blk off n (ua m d (m-a) (b-m)) os:=by
 have mixed:=L.mixed;have t0:=L.t0;have a0:=L.a0;have z0:=L.z0;have v0:=L.v0;have t3:=L.t3;have a3:=L.a3;have z3:=L.z3;have v3:=L.v3;have t4:=L.t4;have a4:=L.a4;have z4:=L.z4;have v4:=L.v4;have t26:=L.t26;have a26:=L.a26;have z26:=L.z26;have v26:=L.v26;have t38:=L.t38;have a38:=L.a38;have z38:=L.z38;have v38:=L.v38;have t42:=L.t42;have a42:=L.a42;have z42:=L.z42;have v42:=L.v42;have u42:=run_underlying L.t42;have e49:∀args w,(callFunc (ρ.f 49) args).run P w= .ok (.enter (ρ.f 49) args) w:=enters_of L.f49 (by kernel_rfl) rfl;have hH1:HoldsK enc k (w.alloc (.cells #[.func lf la lb,.func (.func sf) #[] sb] (ρ.t 42))) blk off d:=by rw[alloc_eq_grow];exact holdsK_grow enc k w _ blk off d hblk hH
 have hb1:blk<(w.alloc (.cells #[.func lf la lb,.func (.func sf) #[] sb] (ρ.t 42))).heap.size:=by rw[alloc_eq_grow,size_grow];omega
 have bx:∀(q:Nat) (v:Value),(w.alloc (.cells #[.func lf la lb,.func (.func sf) #[] sb] (ρ.t 42))).cell? ⟨w.heap.size,q,none⟩=some v->∀n (X:Array α) os,(sortWorldK enc k (w.alloc (.cells #[.func lf la lb,.func (.func sf) #[] sb] (ρ.t 42))) blk off n X os).cell? ⟨w.heap.size,q,none⟩=some v:=λq v h n X os=>by
  unfold sortWorldK;rw[cell?_grow _ _ _ (by rw[size_putRowK];show w.heap.size<(w.alloc _).heap.size;rw[alloc_eq_grow,size_grow];simp),cell?_putRowK_other enc k _ blk off _ _ (by show w.heap.size≠blk;omega)];exact h
 have bx0:=bx 0 (.func lf la lb) (by simp);have bx1:=bx 1 (.func (.func sf) #[] sb) (by simp)
 have hcall:∀(n:Nat) (X:Array α) os,X.size=d.size->∀x y z:Nat,x+z<=d.size->y+z<=d.size->
  Calls P (ρ.f 49) #[.agg #[.func lf la lb,.func (.func sf) #[] sb],.int .i64 x,.int .i64 y,.int .i64 z] (sortWorldK enc k (w.alloc (.cells #[.func lf la lb,.func (.func sf) #[] sb] (ρ.t 42))) blk off n X os) λe w'=>
   e= .returned (.tuple #[])/\∃n' os',w'=sortWorldK enc k (w.alloc (.cells #[.func lf la lb,.func (.func sf) #[] sb] (ρ.t 42))) blk off n' (nj X x y z) os':=λn X os hX x y z h1 h2=>by
  refine(ZU ({L with}:LaysGt.n49 P ρ) hk lf la lb sf sb x y z (d:=X) (by rw[hX];exact hswap) (holdsK_sortWorldK enc k _ blk off n d X os hb1 hH1 hX) ?_ (by omega) (by omega) (by omega)).mono ?_
  ·unfold sortWorldK;rw[size_grow,size_putRowK];show blk<(w.alloc _).heap.size+_;omega
  ·rintro e w' ⟨rfl,n',os',rfl⟩;exact⟨rfl,_,_,sortWorldK_on enc k _ blk off n n' X _ os os' hb1 (hZ ..)⟩
 have hstart:=sortWorldK_start enc k _ blk off d hH1
 have hfin:∀n (X:Array α) os,∃n' os',sortWorldK enc k (w.alloc (.cells #[.func lf la lb,.func (.func sf) #[] sb] (ρ.t 42))) blk off n X os=sortWorldK enc k w blk off n' X os':=λn X os=>
  ⟨n,_,by unfold sortWorldK;rw[alloc_eq_grow,ahead_grow,putRowK_grow enc k (Sort.ahead w n) _ blk off _ hblk,grow_grow]⟩
 clear bx hswap hH hH1;generalize hW1:w.alloc (.cells #[.func lf la lb,.func (.func sf) #[] sb] (ρ.t 42))=W1 at*
 go_enter L.f42,BodyGt.n42_ntmps ρ
 go_wp2
 go_loopg [8,9] (b-a) (λkx s8 s9 wr=>∃(i j:Nat) (n:Nat) (X:Array α) (os:Array Obj),s8= .int .i64 i/\s9= .int .i64 j/\0<i/\0<j/\i<=m/\m+j<=d.size/\i+j<=kx/\X.size=d.size/\
  wr=sortWorldK enc k W1 blk off n X os/\ua m X i j=ua m d (m-a) (b-m))
 case atStart=>exact⟨m-a,b-m,0,d, #[],by congr 1;omega,by congr 1;omega,by omega,by omega,by omega,by omega,by omega,rfl,hstart.symm,rfl⟩
 case round=>
  obtain⟨i,j,n,X,os,rfl,rfl,hi,hj,him,hmj,hkx,hX,hwr,hR⟩:=hrel;have c0:wr.cell? ⟨w.heap.size,0,none⟩=some (.func lf la lb):=by rw[hwr];exact bx0 n X os
  have c1:wr.cell? ⟨w.heap.size,1,none⟩=some (.func (.func sf) #[] sb):=by rw[hwr];exact bx1 n X os
  have hc:=hcall n X os hX;rw[<-hwr]at hc;clear hwr hcall bx0 bx1;rw[ua]at hR;by_cases heq:i=j
  ·subst heq;rw[dif_neg (by omega)]at hR;have hc:=hc (m-i) m i (by omega) (by omega);rw[show(((m-i:Nat):Int))=(m:Int)-i by omega]at hc
   go_wp2_with (go_at_fn (ρ.f 49);refine hc.mono ?_;rintro e w1 ⟨rfl,n2,os2,rfl⟩)
   go_end0
   exact⟨rfl,hfin _ _ _⟩
  ·rw[dif_pos ⟨hi,hj,heq⟩]at hR;by_cases hji:j<i
   ·rw[an hji]at hR;have hc:=hc (m-i) m j (by omega) (by omega);rw[show(((m-i:Nat):Int))=(m:Int)-i by omega]at hc
    go_wp2_with (go_at_fn (ρ.f 49);refine hc.mono ?_;rintro e w1 ⟨rfl,n2,os2,rfl⟩)
    go_roundg (i+j-j)
    case measure=>omega
    case rel=>exact⟨i-j,j,n2,_,os2,by congr 1;omega,rfl,by omega,by omega,by omega,by omega,by omega,by rw[hZ];exact hX,rfl,hR⟩
   ·rw[a_ hji]at hR;have hc:=hc (m-i) (m+j-i) i (by omega) (by omega);rw[show(((m-i:Nat):Int))=(m:Int)-i by omega,show(((m+j-i:Nat):Int))=(m:Int)+j-i by omega]at hc
    go_wp2_with (go_at_fn (ρ.f 49);refine hc.mono ?_;rintro e w1 ⟨rfl,n2,os2,rfl⟩)
    go_roundg (i+j-i)
    case measure=>omega
    case rel=>exact⟨i,j-i,n2,_,os2,rfl,by congr 1;omega,by omega,by omega,by omega,by omega,by omega,by rw[hZ];exact hX,rfl,hR⟩
variable{P:Program}{ρ:Ren}{α:Type}[Inhabited α]
def j8(p:Nat->Bool)(i j:Nat):Nat:=
 if h:i<j then(if p ((i+j)/2)then j8 p ((i+j)/2+1) j else j8 p i ((i+j)/2))else i
termination_by j-i
decreasing_by all_goals omega
def lG(d:Array α)(k e:Nat):Array α:=if k<e then lG (swp d k (k+1)) (k+1) e else d
termination_by e-k
def ij(d:Array α)(k e:Nat):Array α:=if h:e<k then ij (swp d k (k-1)) (k-1) e else d
termination_by k-e
def Ii(p:Nat->Bool)(i j:Nat)(h:i<=j):i<=j8 p i j/\j8 p i j<=j:=by
 fun_induction j8 p i j with
 |case1 i j b c a=>have:=a (by omega);omega
 |case2 i j b c a=>have:=a (by omega);omega
 |case3 i j b=>omega
def ZT(d:Array α)(k e:Nat):(lG d k e).size=d.size:=by
 fun_induction lG d k e with
 |case1 d k h a=>rw[a,size_swp]
 |case2 d k h=>rfl
def Vs(d:Array α)(k e:Nat):(ij d k e).size=d.size:=by
 fun_induction ij d k e with
 |case1 d k h a=>rw[a,size_swp]
 |case2 d k h=>rfl
def Mc(enc:α->List Value)(k:Nat)(w0:World)(a off n q:Nat)(b:Array α)(c:Array Obj):
 (sortWorldK enc k w0 a off n b c).drewN q=sortWorldK enc k w0 a off (n+q) b c:=by
 unfold sortWorldK;rw[<-putRowK_drewN enc k w0 n q a off b];rfl
def Ot{enc:α->List Value}{k:Nat}(e:∀x,(enc x).length=k)(w0:World){a off:Nat}(n:Nat){b:Array α}(d:Array Obj)(c:a<w0.heap.size){i j:Nat}(hi:i<b.size)(f:j<b.size):
 ((sortWorldK enc k w0 a off n b d).setCells a (off+i*k) (enc b[j]!)).setCells a (off+j*k) (enc b[i]!)=sortWorldK enc k w0 a off n (swp b i j) d:=by
 unfold sortWorldK;rw[<-putRowK_grow enc k (Sort.ahead w0 n) d a off b c,putRowK_swp enc k e _ a off b i j hi f,putRowK_grow enc k (Sort.ahead w0 n) d a off _ c]
structure abG(P:Program)(enc:α->List Value)(k:Nat)(lt:α->α->Bool)(g:Nat)(lb:Array Value)(sf:Nat)(sb:Array Value)(blk off size hb:Nat)(w W1:World):Prop where
 c0:∀n (X:Array α) os,(sortWorldK enc k W1 blk off n X os).cell? ⟨hb,0,none⟩=some (.func (.func g) #[] lb)
 c1:∀n (X:Array α) os,(sortWorldK enc k W1 blk off n X os).cell? ⟨hb,1,none⟩=some (.func (.func sf) #[] sb)
 less:∀n (X:Array α) os,X.size=size->∀i j:Nat,i<size->j<size->
  Calls P g (#[.int .i64 i,.int .i64 j]++lb) (sortWorldK enc k W1 blk off n X os) λe w'=>e= .returned (.bool (lt X[i]! X[j]!))/\∃q,w'=sortWorldK enc k W1 blk off (n+q) X os
 swap:∀n (X:Array α) os,X.size=size->∀i j:Nat,i<size->j<size->
  (callFunc sf (#[.int .i64 i,.int .i64 j]++sb)).run P (sortWorldK enc k W1 blk off n X os)= .ok (.value (.tuple #[])) (sortWorldK enc k W1 blk off n (swp X i j) os)
 fin:∀n (X:Array α) os,∃n' os',sortWorldK enc k W1 blk off n X os=sortWorldK enc k w blk off n' X os'
 lt_blk:blk<W1.heap.size
def Ey{enc:α->List Value}{k:Nat}(F:∀x,(enc x).length=k){lt:α->α->Bool}{g:Nat}{b:Array Value}{f:Nat}{l:Array Value}{a off:Nat}{d:Array α}{w:World}{t:TypeId}
 (o:LessReadsK P g b enc k lt a off d.size w) (p:SwapSwapsK P f l enc k a off d.size) (G:HoldsK enc k w a off d) (c:a<w.heap.size):
 abG P enc k lt g b f l a off d.size w.heap.size w (w.alloc (.cells #[.func (.func g) #[] b,.func (.func f) #[] l] t))/\
  sortWorldK enc k (w.alloc (.cells #[.func (.func g) #[] b,.func (.func f) #[] l] t)) a off 0 d #[]=w.alloc (.cells #[.func (.func g) #[] b,.func (.func f) #[] l] t):=by
 have s:HoldsK enc k (w.alloc (.cells #[.func (.func g) #[] b,.func (.func f) #[] l] t)) a off d:=by rw[alloc_eq_grow];exact holdsK_grow enc k w _ a off d c G
 have r:a<(w.alloc (.cells #[.func (.func g) #[] b,.func (.func f) #[] l] t)).heap.size:=by rw[alloc_eq_grow,size_grow];omega
 have C:∀(q:Nat) (v:Value),(w.alloc (.cells #[.func (.func g) #[] b,.func (.func f) #[] l] t)).cell? ⟨w.heap.size,q,none⟩=some v->∀n (X:Array α) m,(sortWorldK enc k (w.alloc (.cells #[.func (.func g) #[] b,.func (.func f) #[] l] t)) a off n X m).cell? ⟨w.heap.size,q,none⟩=some v:=λq v h n X m=>by
  unfold sortWorldK;rw[cell?_grow _ _ _ (by rw[size_putRowK];show w.heap.size<(w.alloc _).heap.size;rw[alloc_eq_grow,size_grow];simp),cell?_putRowK_other enc k _ a off _ _ (by show w.heap.size≠a;omega)];exact h
 have B:LessReadsK P g b enc k lt a off d.size (w.alloc (.cells #[.func (.func g) #[] b,.func (.func f) #[] l] t)):=by rw[alloc_eq_grow];exact o.grow c _
 refine⟨⟨C 0 _ (by simp),C 1 _ (by simp),λn X m u i j y z=> ?_,λn X m u i j y z=> ?_,λn X m=> ?_,r⟩,sortWorldK_start enc k _ a off d s⟩;refine(B n m X u i j y z).mono ?_;rintro e w' ⟨rfl,q,rfl⟩;exact⟨rfl,q,Mc ..⟩;rw[p _ X (holdsK_sortWorldK enc k _ a off n d X m r s u) u i j y z,Ot F _ n m r (by omega) (by omega)];exact⟨n,_,by unfold sortWorldK;rw[alloc_eq_grow,ahead_grow,putRowK_grow enc k (Sort.ahead w n) _ a off _ c,grow_grow]⟩
set_option maxHeartbeats 3200000 in
set_option maxRecDepth 1000000 in
def ad6(L:LaysGt.n30 P ρ){enc:α->List Value}{k:Nat}(hk:∀x,(enc x).length=k)(lt:α->α->Bool){g:Nat}{lb:Array Value}{sf:Nat}{sb:Array Value}{blk off:Nat}(a m b:Nat){d:Array α}{w:World}
 (eg:∀args w,(callFunc g args).run P w= .ok (.enter g args) w) (hless:LessReadsK P g lb enc k lt blk off d.size w) (hswap:SwapSwapsK P sf sb enc k blk off d.size) (hH:HoldsK enc k w blk off d) (hblk:blk<w.heap.size)
 (ham:a<m) (ham2:m<=a+1) (hmb:m<b) (hb:b<=d.size) (hsz:d.size<4611686018427387904):
 Calls P (ρ.f 30) #[.agg #[.func (.func g) #[] lb,.func (.func sf) #[] sb],.int .i64 a,.int .i64 m,.int .i64 b] w λe w'=>e= .returned (.tuple #[])/\
  ∃n os,w'=sortWorldK enc k w blk off n (lG d a (j8 (λh=>lt d[h]! d[a]!) m b-1)) os:=by
 have mixed:=L.mixed;have t0:=L.t0;have a0:=L.a0;have z0:=L.z0;have v0:=L.v0;have t3:=L.t3;have a3:=L.a3;have z3:=L.z3;have v3:=L.v3;have t4:=L.t4;have a4:=L.a4;have z4:=L.z4;have v4:=L.v4;have t26:=L.t26;have a26:=L.a26;have z26:=L.z26;have v26:=L.v26;have t38:=L.t38;have a38:=L.a38;have z38:=L.z38;have v38:=L.v38;have t42:=L.t42;have a42:=L.a42;have z42:=L.z42;have v42:=L.v42;have t47:=L.t47;have a47:=L.a47;have z47:=L.z47;have v47:=L.v47;have u42:=run_underlying L.t42;obtain⟨B,hstart⟩:=Ey (t:=ρ.t 42) hk hless hswap hH hblk;clear hless hswap hH;generalize hW1:w.alloc (.cells #[.func (.func g) #[] lb,.func (.func sf) #[] sb] (ρ.t 42))=W1 at*
 have q1:((m:Int)-(a:Int)==1)=true:=by rw[beq_iff_eq];omega
 go_enter L.f30,BodyGt.n30_ntmps ρ
 go_wp2
 go_loopg [8,9] (b-a) (λkx s8 s9 wr=>∃(i j n:Nat) (os:Array Obj),s8= .int .i64 i/\s9= .int .i64 j/\m<=i/\i<=j/\j<=b/\j-i<=kx/\wr=sortWorldK enc k W1 blk off n d os/\
  j8 (λh=>lt d[h]! d[a]!) i j=j8 (λh=>lt d[h]! d[a]!) m b)
 case atStart=>exact⟨m,b,0, #[],rfl,rfl,by omega,by omega,by omega,by omega,hstart.symm,rfl⟩
 case round=>
  obtain⟨i,j,n,os,rfl,rfl,hai,hij,hjb,hkx,hwr,hbs⟩:=hrel;have c0:=B.c0 n d os;have c1:=B.c1 n d os;rw[<-hwr]at c0 c1;by_cases hlt:i<j
  ·have hl:=B.less n d os rfl ((i+j)/2) a (by omega) (by omega);rw[<-hwr]at hl;rw[j8,dif_pos hlt]at hbs;have HB:Hid _:=hbs;clear hwr hbs B;cases hv:lt d[(i+j)/2]! d[a]! with
   |true=>
    rw[hv]at hl HB
    go_wp2_with (go_at_fn g;refine hl.mono ?_;rintro e w' ⟨rfl,q,rfl⟩)
    go_roundg (j-((i+j)/2+1))
    case measure=>omega
    case rel=>exact⟨(i+j)/2+1,j,n+q,os,by go_num,rfl,by omega,by omega,by omega,e8 _,rfl,HB.out⟩
   |false=>
    rw[hv]at hl HB
    go_wp2_with (go_at_fn g;refine hl.mono ?_;rintro e w' ⟨rfl,q,rfl⟩)
    go_roundg ((i+j)/2-i)
    case measure=>omega
    case rel=>exact⟨i,(i+j)/2,n+q,os,rfl,by go_num,by omega,by omega,by omega,e8 _,rfl,HB.out⟩
  ·obtain rfl:i=j:=by omega
   rw[j8,dif_neg hlt]at hbs;have HB:Hid _:=hbs;clear hbs
   go_wp2
   go_loopg [11] (i-a) (λkx s11 wr2=>∃(c n:Nat) (X:Array α) (os:Array Obj),s11= .int .i64 c/\a<=c/\c<=i-1/\i-c<=kx/\X.size=d.size/\wr2=sortWorldK enc k W1 blk off n X os/\
    lG X c (i-1)=lG d a (i-1))
   case atStart=>exact⟨a,n,d,os,rfl,by omega,by omega,by omega,rfl,(by first|exact hwr|rfl),rfl⟩
   case round=>
    obtain⟨c,n2,X,os2,rfl,hac,hci,hkx2,hX,hwr2,hmv⟩:=hrel;have c1:=B.c1 n2 X os2;rw[<-hwr2]at c1;by_cases hlt2:c<i-1
    ·have hs:=B.swap n2 X os2 hX c (c+1) (by omega) (by omega);rw[<-hwr2,show(((c+1:Nat):Int))=(c:Int)+1 by omega]at hs;rw[lG,an hlt2]at hmv;have HM:Hid _:=hmv;clear hmv hwr2 hwr B c0
     go_wp2
     go_roundg (i-(c+1))
     case measure=>omega
     case rel=>exact⟨c+1,n2,_,os2,by go_num,by omega,by omega,e8 _,by rw[size_swp];exact hX,rfl,HM.out⟩
    ·rw[lG,a_ hlt2]at hmv;have HM:Hid _:=hmv;have hf:=B.fin n2 X os2;rw[<-hwr2]at hf;clear hmv hwr2 hwr B c0
     go_wp2
     (try simp only[Exit.inBlock,Exit.then]);refine bodyPost_ret (results_none rfl _ _ _) rfl ?_
     rw[<-HB.out,<-HM.out];exact⟨rfl,hf⟩
variable{P:Program}{ρ:Ren}{α:Type}[Inhabited α]
set_option maxHeartbeats 3200000 in
set_option maxRecDepth 1000000 in
def acQ(L:LaysGt.n30 P ρ){enc:α->List Value}{k:Nat}(hk:∀x,(enc x).length=k)(lt:α->α->Bool){g:Nat}{lb:Array Value}{sf:Nat}{sb:Array Value}{blk off:Nat}(a m b:Nat){d:Array α}{w:World}
 (eg:∀args w,(callFunc g args).run P w= .ok (.enter g args) w) (hless:LessReadsK P g lb enc k lt blk off d.size w) (hswap:SwapSwapsK P sf sb enc k blk off d.size) (hH:HoldsK enc k w blk off d) (hblk:blk<w.heap.size)
 (ham:a+1<m) (hmb:m<b) (hmb2:b<=m+1) (hb:b<=d.size) (hsz:d.size<4611686018427387904):
 Calls P (ρ.f 30) #[.agg #[.func (.func g) #[] lb,.func (.func sf) #[] sb],.int .i64 a,.int .i64 m,.int .i64 b] w λe w'=>e= .returned (.tuple #[])/\
  ∃n os,w'=sortWorldK enc k w blk off n (ij d m (j8 (λh=> !lt d[m]! d[h]!) a m)) os:=by
 have mixed:=L.mixed;have t0:=L.t0;have a0:=L.a0;have z0:=L.z0;have v0:=L.v0;have t3:=L.t3;have a3:=L.a3;have z3:=L.z3;have v3:=L.v3;have t4:=L.t4;have a4:=L.a4;have z4:=L.z4;have v4:=L.v4;have t26:=L.t26;have a26:=L.a26;have z26:=L.z26;have v26:=L.v26;have t38:=L.t38;have a38:=L.a38;have z38:=L.z38;have v38:=L.v38;have t42:=L.t42;have a42:=L.a42;have z42:=L.z42;have v42:=L.v42;have t47:=L.t47;have a47:=L.a47;have z47:=L.z47;have v47:=L.v47;have u42:=run_underlying L.t42;obtain⟨B,hstart⟩:=Ey (t:=ρ.t 42) hk hless hswap hH hblk;clear hless hswap hH;generalize hW1:w.alloc (.cells #[.func (.func g) #[] lb,.func (.func sf) #[] sb] (ρ.t 42))=W1 at*
 have q1:((m:Int)-(a:Int)==1)=false:=by rw[beq_eq_false_iff_ne];omega
 have q2:((b:Int)-(m:Int)==1)=true:=by rw[beq_iff_eq];omega
 go_enter L.f30,BodyGt.n30_ntmps ρ
 go_wp2
 go_loopg [12,13] (b-a) (λkx s8 s9 wr=>∃(i j n:Nat) (os:Array Obj),s8= .int .i64 i/\s9= .int .i64 j/\a<=i/\i<=j/\j<=m/\j-i<=kx/\wr=sortWorldK enc k W1 blk off n d os/\
  j8 (λh=> !lt d[m]! d[h]!) i j=j8 (λh=> !lt d[m]! d[h]!) a m)
 case atStart=>exact⟨a,m,0, #[],rfl,rfl,by omega,by omega,by omega,by omega,hstart.symm,rfl⟩
 case round=>
  obtain⟨i,j,n,os,rfl,rfl,hai,hij,hjb,hkx,hwr,hbs⟩:=hrel;have c0:=B.c0 n d os;have c1:=B.c1 n d os;rw[<-hwr]at c0 c1;by_cases hlt:i<j
  ·have hl:=B.less n d os rfl m ((i+j)/2) (by omega) (by omega);rw[<-hwr]at hl;rw[j8,dif_pos hlt]at hbs;have HB:Hid _:=hbs;clear hwr hbs B;cases hv:lt d[m]! d[(i+j)/2]! with
   |false=>
    rw[hv]at hl HB
    go_wp2_with (go_at_fn g;refine hl.mono ?_;rintro e w' ⟨rfl,q,rfl⟩)
    go_roundg (j-((i+j)/2+1))
    case measure=>omega
    case rel=>exact⟨(i+j)/2+1,j,n+q,os,by go_num,rfl,by omega,by omega,by omega,e8 _,rfl,HB.out⟩
   |true=>
    rw[hv]at hl HB
    go_wp2_with (go_at_fn g;refine hl.mono ?_;rintro e w' ⟨rfl,q,rfl⟩)
    go_roundg ((i+j)/2-i)
    case measure=>omega
    case rel=>exact⟨i,(i+j)/2,n+q,os,rfl,by go_num,by omega,by omega,by omega,e8 _,rfl,HB.out⟩
  ·obtain rfl:i=j:=by omega
   rw[j8,dif_neg hlt]at hbs;have HB:Hid _:=hbs;clear hbs
   go_wp2
   go_loopg [15] (m-i) (λkx s11 wr2=>∃(c n:Nat) (X:Array α) (os:Array Obj),s11= .int .i64 c/\i<=c/\c<=m/\c-i<=kx/\X.size=d.size/\wr2=sortWorldK enc k W1 blk off n X os/\
    ij X c i=ij d m i)
   case atStart=>exact⟨m,n,d,os,rfl,by omega,by omega,by omega,rfl,(by first|exact hwr|rfl),rfl⟩
   case round=>
    obtain⟨c,n2,X,os2,rfl,hac,hci,hkx2,hX,hwr2,hmv⟩:=hrel;have c1:=B.c1 n2 X os2;rw[<-hwr2]at c1;by_cases hlt2:i<c
    ·have hs:=B.swap n2 X os2 hX c (c-1) (by omega) (by omega);rw[<-hwr2,show(((c-1:Nat):Int))=(c:Int)-1 by omega]at hs;rw[ij,dif_pos hlt2]at hmv;have HM:Hid _:=hmv;clear hmv hwr2 hwr B c0
     go_wp2
     go_roundg (c-1-i)
     case measure=>omega
     case rel=>exact⟨c-1,n2,_,os2,by congr 1;omega,by omega,by omega,e8 _,by rw[size_swp];exact hX,rfl,HM.out⟩
    ·rw[ij,dif_neg hlt2]at hmv;have HM:Hid _:=hmv;have hf:=B.fin n2 X os2;rw[<-hwr2]at hf;clear hmv hwr2 hwr B c0
     go_wp2
     (try simp only[Exit.inBlock,Exit.then]);refine bodyPost_ret (results_none rfl _ _ _) rfl ?_
     rw[<-HB.out,<-HM.out];exact⟨rfl,hf⟩
variable{P:Program}{ρ:Ren}{α:Type}[Inhabited α]
def cu(lt:α->α->Bool)(d:Array α)(a m b:Nat):Nat:=
 j8 (λc=> !lt d[(a+b)/2+m-1-c]! d[c]!) (if(a+b)/2<m then(a+b)/2+m-b else a) (if(a+b)/2<m then(a+b)/2 else m)
def fv(lt:α->α->Bool)(d:Array α)(a m b:Nat):Array α:=
 if cu lt d a m b<m/\m<(a+b)/2+m-cu lt d a m b then ua m d (m-cu lt d a m b) ((a+b)/2+m-cu lt d a m b-m)else d
def gG(lt:α->α->Bool)(d:Array α)(a m b:Nat):Array α:=
 if m<=a+1 then lG d a (j8 (λh=>lt d[h]! d[a]!) m b-1)
 else if b<=m+1 then ij d m (j8 (λh=> !lt d[m]! d[h]!) a m)
 else
  let s:=cu lt d a m b
  let c:=if h:a<s/\s<(a+b)/2 then gG lt (fv lt d a m b) a s ((a+b)/2)else fv lt d a m b
  if h:(a+b)/2<(a+b)/2+m-s/\(a+b)/2+m-s<b then gG lt c ((a+b)/2) ((a+b)/2+m-s) b else c
termination_by b-a
decreasing_by all_goals omega
def KA{lt:α->α->Bool}{d:Array α}{a m b:Nat}(ham:a<m)(hmb:m<b):
 a<=cu lt d a m b/\cu lt d a m b<=m/\cu lt d a m b<=(a+b)/2/\(a+b)/2+m-b<=cu lt d a m b:=by
 unfold cu;split;have:=Ii (λc=> !lt d[(a+b)/2+m-1-c]! d[c]!) ((a+b)/2+m-b) ((a+b)/2) (by omega);omega;have:=Ii (λc=> !lt d[(a+b)/2+m-1-c]! d[c]!) a m (by omega);omega
def pE(lt:α->α->Bool)(d:Array α)(a m b:Nat):(fv lt d a m b).size=d.size:=by
 unfold fv;split;rw[gI];rfl
theorem jV(lt:α->α->Bool):∀(N:Nat) (d:Array α) (a m b:Nat),b-a<=N->(gG lt d a m b).size=d.size
 |N,d,a,m,b,h=>by
  rw[gG];split;rw[ZT];split;rw[Vs];cases N with
  |zero=>
   dsimp only;split;rename_i c;omega;split;rename_i c;omega;rw[pE]
  |succ N=>
   have key:(if h:a<cu lt d a m b/\cu lt d a m b<(a+b)/2 then gG lt (fv lt d a m b) a (cu lt d a m b) ((a+b)/2)else fv lt d a m b).size=d.size:=by
    split;rw[jV lt N _ _ _ _ (by omega),pE];rw[pE]
   dsimp only;split;rw[jV lt N _ _ _ _ (by omega)];exact key;exact key
def ir(lt:α->α->Bool)(d:Array α)(a m b:Nat):Array α:=
 if a<cu lt d a m b/\cu lt d a m b<(a+b)/2 then gG lt (fv lt d a m b) a (cu lt d a m b) ((a+b)/2)else fv lt d a m b
def Mv{lt:α->α->Bool}{d:Array α}{a m b:Nat}(c:¬m<=a+1)(e:¬b<=m+1):
 gG lt d a m b=if(a+b)/2<(a+b)/2+m-cu lt d a m b/\(a+b)/2+m-cu lt d a m b<b then gG lt (ir lt d a m b) ((a+b)/2) ((a+b)/2+m-cu lt d a m b) b else ir lt d a m b:=by
 rw[gG,a_ c,a_ e];simp only[dite_eq_ite];rfl
def ZZ(lt:α->α->Bool)(d:Array α)(a m b:Nat):(ir lt d a m b).size=d.size:=by
 unfold ir;split;rw[jV lt _ _ _ _ _ (e8 _),pE];rw[pE]
variable{P:Program}{ρ:Ren}{α:Type}[Inhabited α]
set_option maxHeartbeats 16000000 in
set_option maxRecDepth 1000000 in
def ach(L:LaysGt.n30 P ρ){enc:α->List Value}{k:Nat}(hk:∀x,(enc x).length=k)(lt:α->α->Bool){g:Nat}{lb:Array Value}{sf:Nat}{sb:Array Value}{blk off:Nat}
 (eg:∀args w,(callFunc g args).run P w= .ok (.enter g args) w):∀(N:Nat) (a m b:Nat) {d:Array α} {w:World},
 b-a<=N->LessReadsK P g lb enc k lt blk off d.size w->SwapSwapsK P sf sb enc k blk off d.size->HoldsK enc k w blk off d->blk<w.heap.size->a<m->m<b->b<=d.size->d.size<4611686018427387904->
 Calls P (ρ.f 30) #[.agg #[.func (.func g) #[] lb,.func (.func sf) #[] sb],.int .i64 a,.int .i64 m,.int .i64 b] w λe w'=>e= .returned (.tuple #[])/\
  ∃n os,w'=sortWorldK enc k w blk off n (gG lt d a m b) os:=by
 intro N
 induction N with
 |zero=>intro a m b d w hN _ _ _ _ ham hmb;omega
 |succ N ih=>
 intro a m b d w hN hless hswap hH hblk ham hmb hb hsz;by_cases hl:m<=a+1
 ·rw[gG,an hl];exact ad6 L hk lt a m b eg hless hswap hH hblk ham hl hmb hb hsz
 by_cases hr:b<=m+1
 ·rw[gG,a_ hl,an hr];exact acQ L hk lt a m b eg hless hswap hH hblk (by omega) hmb hr hb hsz
 obtain⟨B,hstart⟩:=Ey (t:=ρ.t 42) hk hless hswap hH hblk;have hSW:∀n (X:Array α) os,SWK enc k w blk off X (sortWorldK enc k (w.alloc (.cells #[.func (.func g) #[] lb,.func (.func sf) #[] sb] (ρ.t 42))) blk off n X os):=λn X os=>B.fin n X os
 have hrot:∀n (X:Array α) os,X.size=d.size->∀(s e:Nat) (zs ze:Int),zs=s->ze=e->s<m->m<e->e<=d.size->
  Calls P (ρ.f 42) #[.agg #[.func (.func g) #[] lb,.func (.func sf) #[] sb],.int .i64 zs,.int .i64 m,.int .i64 ze] (sortWorldK enc k (w.alloc (.cells #[.func (.func g) #[] lb,.func (.func sf) #[] sb] (ρ.t 42))) blk off n X os) λe' w'=>
   e'= .returned (.tuple #[])/\∃n' os',w'=sortWorldK enc k (w.alloc (.cells #[.func (.func g) #[] lb,.func (.func sf) #[] sb] (ρ.t 42))) blk off n' (ua m X (m-s) (e-m)) os':=by
  intro n X os hX s e zs ze hs he h1 h2 h3;subst hs;subst he;refine(afF ({L with}:LaysGt.n42 P ρ) hk (.func g) #[] lb sf sb s m e (d:=X) (by rw[hX];exact hswap) ((hSW n X os).holds hblk hH hX) ((hSW n X os).lt hblk) h1 h2 (by omega) (by omega)).mono ?_;rintro e' w' ⟨rfl,n',os',rfl⟩;exact⟨rfl,_,_,sortWorldK_on enc k _ blk off n n' X _ os os' B.lt_blk (gI ..)⟩
 have hrec:∀n (X:Array α) os,X.size=d.size->∀(a' m' b':Nat) (za zm zb:Int),za=a'->zm=m'->zb=b'->a'<m'->m'<b'->b'<=d.size->b'-a'<=N->
  Calls P (ρ.f 30) #[.agg #[.func (.func g) #[] lb,.func (.func sf) #[] sb],.int .i64 za,.int .i64 zm,.int .i64 zb] (sortWorldK enc k (w.alloc (.cells #[.func (.func g) #[] lb,.func (.func sf) #[] sb] (ρ.t 42))) blk off n X os) λe' w'=>
   e'= .returned (.tuple #[])/\∃n' os',w'=sortWorldK enc k (w.alloc (.cells #[.func (.func g) #[] lb,.func (.func sf) #[] sb] (ρ.t 42))) blk off n' (gG lt X a' m' b') os':=by
  intro n X os hX a' m' b' za zm zb ha' hm' hb' h1 h2 h3 h4;subst ha';subst hm';subst hb';refine(ih a' m' b' (d:=X) h4 (by rw[hX];exact(hSW n X os).lessReads hless hblk hX) (by rw[hX];exact hswap) ((hSW n X os).holds hblk hH hX) ((hSW n X os).lt hblk) h1 h2 (by omega) (by omega)).mono ?_;rintro e' w' ⟨rfl,n',os',rfl⟩;exact⟨rfl,_,_,sortWorldK_on enc k _ blk off n n' X _ os os' B.lt_blk (jV lt N _ _ _ _ h4)⟩
 have mixed:=L.mixed;have t0:=L.t0;have a0:=L.a0;have z0:=L.z0;have v0:=L.v0;have t3:=L.t3;have a3:=L.a3;have z3:=L.z3;have v3:=L.v3;have t4:=L.t4;have a4:=L.a4;have z4:=L.z4;have v4:=L.v4;have t26:=L.t26;have a26:=L.a26;have z26:=L.z26;have v26:=L.v26;have t38:=L.t38;have a38:=L.a38;have z38:=L.z38;have v38:=L.v38;have t42:=L.t42;have a42:=L.a42;have z42:=L.z42;have v42:=L.v42;have t47:=L.t47;have a47:=L.a47;have z47:=L.z47;have v47:=L.v47;have u42:=run_underlying L.t42;have e42:∀args w,(callFunc (ρ.f 42) args).run P w= .ok (.enter (ρ.f 42) args) w:=enters_of L.f42 (by kernel_rfl) rfl;have e30:∀args w,(callFunc (ρ.f 30) args).run P w= .ok (.enter (ρ.f 30) args) w:=enters_of L.f30 (by kernel_rfl) rfl;clear hless hswap hH hSW ih;generalize hW1:w.alloc (.cells #[.func (.func g) #[] lb,.func (.func sf) #[] sb] (ρ.t 42))=W1 at*
 have q1:((m:Int)-(a:Int)==1)=false:=by rw[beq_eq_false_iff_ne];omega
 have q2:((b:Int)-(m:Int)==1)=false:=by rw[beq_eq_false_iff_ne];omega
 have hle:=KA (lt:=lt) (d:=d) ham hmb;have hst:cu lt d a m b=j8 (λc=> !lt d[(a+b)/2+m-1-c]! d[c]!) (if(a+b)/2<m then(a+b)/2+m-b else a) (if(a+b)/2<m then(a+b)/2 else m):=rfl;have c0:=B.c0;have c1:=B.c1;have BB:Aside (abG P enc k lt g lb sf sb blk off d.size w.heap.size w W1):=B;clear B;have HR:Aside _:=hrot;have HC:Aside _:=hrec;clear hrot hrec;by_cases hm:(a+b)/2<m
 ·rw[an hm,an hm]at hst;have q3:decide (((a:Int)+(b:Int))/2<(m:Int))=true:=by simp only[b_]<;>omega
  go_enter L.f30,BodyGt.n30_ntmps ρ
  go_wp2
  go_loopg [18,19] (b-a) (λkx s8 s9 wr=>∃(i j n:Nat) (os:Array Obj),s8= .int .i64 i/\s9= .int .i64 j/\((a+b)/2+m-b)<=i/\i<=j/\j<=((a+b)/2)/\j-i<=kx/\wr=sortWorldK enc k W1 blk off n d os/\
   j8 (λc=> !lt d[(a+b)/2+m-1-c]! d[c]!) i j=cu lt d a m b)
  case atStart=>exact⟨((a+b)/2+m-b),((a+b)/2),0, #[],(by first|rfl|(congr 1;omega)),(by first|rfl|go_num),by omega,by omega,by omega,by omega,hstart.symm,hst.symm⟩
  case round=>
   obtain⟨i,j,n,os,rfl,rfl,hai,hij,hjb,hkx,rfl,hbs⟩:=hrel;by_cases hlt:i<j
   ·have hl:=BB.less n d os rfl ((a+b)/2+m-1-(i+j)/2) ((i+j)/2) (by omega) (by omega);rw[show((((a+b)/2+m-1-(i+j)/2:Nat):Int))=((a:Int)+b)/2+m-1-((i:Int)+j)/2 by omega]at hl;rw[j8,dif_pos hlt]at hbs;have HB:Hid _:=hbs;clear hbs;cases hv:lt d[(a+b)/2+m-1-(i+j)/2]! d[(i+j)/2]! with
    |false=>
     rw[hv]at hl HB
     go_wp2_with (go_at_fn g;refine hl.mono ?_;rintro e w' ⟨rfl,q,rfl⟩)
     go_roundg (j-((i+j)/2+1))
     case measure=>omega
     case rel=>exact⟨(i+j)/2+1,j,n+q,os,by go_num,rfl,by omega,by omega,by omega,e8 _,rfl,HB.out⟩
    |true=>
     rw[hv]at hl HB
     go_wp2_with (go_at_fn g;refine hl.mono ?_;rintro e w' ⟨rfl,q,rfl⟩)
     go_roundg ((i+j)/2-i)
     case measure=>omega
     case rel=>exact⟨i,(i+j)/2,n+q,os,rfl,by go_num,by omega,by omega,by omega,e8 _,rfl,HB.out⟩
   ·obtain rfl:i=j:=by omega
    rw[j8,dif_neg hlt]at hbs;rw[<-hbs]at hle
    have E1:(i<m/\m<(a+b)/2+m-i/\Hid (fv lt d a m b=ua m d (m-i) ((a+b)/2+m-i-m)))\/(i<m/\¬m<(a+b)/2+m-i/\Hid (fv lt d a m b=d))\/(¬i<m/\Hid (fv lt d a m b=d)):=by
     unfold Hid fv;rw[<-hbs];by_cases h1:i<m<;>by_cases h2:m<(a+b)/2+m-i<;>simp[h1,h2]
    have E2:(a<i/\i<(a+b)/2/\Hid (ir lt d a m b=gG lt (fv lt d a m b) a i ((a+b)/2)))\/(a<i/\¬i<(a+b)/2/\Hid (ir lt d a m b=fv lt d a m b))\/(¬a<i/\Hid (ir lt d a m b=fv lt d a m b)):=by
     unfold Hid ir;rw[<-hbs];by_cases h1:a<i<;>by_cases h2:i<(a+b)/2<;>simp[h1,h2]
    have E3:((a+b)/2<(a+b)/2+m-i/\(a+b)/2+m-i<b/\Hid (gG lt d a m b=gG lt (ir lt d a m b) ((a+b)/2) ((a+b)/2+m-i) b))\/((a+b)/2<(a+b)/2+m-i/\¬(a+b)/2+m-i<b/\Hid (gG lt d a m b=ir lt d a m b))\/
     (¬(a+b)/2<(a+b)/2+m-i/\Hid (gG lt d a m b=ir lt d a m b)):=by
     unfold Hid;rw[Mv hl hr,<-hbs];by_cases h1:(a+b)/2<(a+b)/2+m-i<;>by_cases h2:(a+b)/2+m-i<b<;>simp only[h1,h2,and_self,and_true,and_false,true_and,false_and,if_true,if_false,not_true,not_false_iff,or_true,or_false,true_or,false_or]
    clear hbs hst;rcases E1 with⟨p1,p2,E1⟩|⟨p1,p2,E1⟩|⟨p1,E1⟩<;>rcases E2 with⟨r1,r2,E2⟩|⟨r1,r2,E2⟩|⟨r1,E2⟩<;>rcases E3 with⟨u1,u2,E3⟩|⟨u1,u2,E3⟩|⟨u1,E3⟩
    all_goals
     go_wp2_with (first
      |(go_at_fn (ρ.f 42);refine(HR _ _ _ (by first|rfl|exact gI ..|(rw[jV lt _ _ _ _ _ (e8 _)];first|rfl|exact gI ..)) i ((a+b)/2+m-i) _ _ (by omega) (by omega) (by omega) (by omega) (by omega)).mono ?_;rintro e' w' ⟨rfl,n2,os2,rfl⟩)
      |(go_at_fn (ρ.f 30);refine(HC _ _ _ (by first|rfl|exact gI ..|(rw[jV lt _ _ _ _ _ (e8 _)];first|rfl|exact gI ..)) a i ((a+b)/2) _ _ _ (by omega) (by omega) (by omega) (by omega) (by omega) (by omega) (by omega)).mono ?_;rintro e' w' ⟨rfl,n3,os3,rfl⟩)
      |(go_at_fn (ρ.f 30);refine(HC _ _ _ (by first|rfl|exact gI ..|(rw[jV lt _ _ _ _ _ (e8 _)];first|rfl|exact gI ..)) ((a+b)/2) ((a+b)/2+m-i) b _ _ _ (by omega) (by omega) (by omega) (by omega) (by omega) (by omega) (by omega)).mono ?_;rintro e' w' ⟨rfl,n4,os4,rfl⟩))
    all_goals
     go_end0
     refine⟨rfl,?_⟩;rw[E3.out,E2.out,E1.out];exact BB.fin _ _ _
 ·rw[a_ hm,a_ hm]at hst;have q3:decide (((a:Int)+(b:Int))/2<(m:Int))=false:=by simp only[d_]<;>omega
  go_enter L.f30,BodyGt.n30_ntmps ρ
  go_wp2
  go_loopg [18,19] (b-a) (λkx s8 s9 wr=>∃(i j n:Nat) (os:Array Obj),s8= .int .i64 i/\s9= .int .i64 j/\a<=i/\i<=j/\j<=m/\j-i<=kx/\wr=sortWorldK enc k W1 blk off n d os/\
   j8 (λc=> !lt d[(a+b)/2+m-1-c]! d[c]!) i j=cu lt d a m b)
  case atStart=>exact⟨a,m,0, #[],(by first|rfl|(congr 1;omega)),(by first|rfl|go_num),by omega,by omega,by omega,by omega,hstart.symm,hst.symm⟩
  case round=>
   obtain⟨i,j,n,os,rfl,rfl,hai,hij,hjb,hkx,rfl,hbs⟩:=hrel;by_cases hlt:i<j
   ·have hl:=BB.less n d os rfl ((a+b)/2+m-1-(i+j)/2) ((i+j)/2) (by omega) (by omega);rw[show((((a+b)/2+m-1-(i+j)/2:Nat):Int))=((a:Int)+b)/2+m-1-((i:Int)+j)/2 by omega]at hl;rw[j8,dif_pos hlt]at hbs;have HB:Hid _:=hbs;clear hbs;cases hv:lt d[(a+b)/2+m-1-(i+j)/2]! d[(i+j)/2]! with
    |false=>
     rw[hv]at hl HB
     go_wp2_with (go_at_fn g;refine hl.mono ?_;rintro e w' ⟨rfl,q,rfl⟩)
     go_roundg (j-((i+j)/2+1))
     case measure=>omega
     case rel=>exact⟨(i+j)/2+1,j,n+q,os,by go_num,rfl,by omega,by omega,by omega,e8 _,rfl,HB.out⟩
    |true=>
     rw[hv]at hl HB
     go_wp2_with (go_at_fn g;refine hl.mono ?_;rintro e w' ⟨rfl,q,rfl⟩)
     go_roundg ((i+j)/2-i)
     case measure=>omega
     case rel=>exact⟨i,(i+j)/2,n+q,os,rfl,by go_num,by omega,by omega,by omega,e8 _,rfl,HB.out⟩
   ·obtain rfl:i=j:=by omega
    rw[j8,dif_neg hlt]at hbs;rw[<-hbs]at hle
    have E1:(i<m/\m<(a+b)/2+m-i/\Hid (fv lt d a m b=ua m d (m-i) ((a+b)/2+m-i-m)))\/(i<m/\¬m<(a+b)/2+m-i/\Hid (fv lt d a m b=d))\/(¬i<m/\Hid (fv lt d a m b=d)):=by
     unfold Hid fv;rw[<-hbs];by_cases h1:i<m<;>by_cases h2:m<(a+b)/2+m-i<;>simp[h1,h2]
    have E2:(a<i/\i<(a+b)/2/\Hid (ir lt d a m b=gG lt (fv lt d a m b) a i ((a+b)/2)))\/(a<i/\¬i<(a+b)/2/\Hid (ir lt d a m b=fv lt d a m b))\/(¬a<i/\Hid (ir lt d a m b=fv lt d a m b)):=by
     unfold Hid ir;rw[<-hbs];by_cases h1:a<i<;>by_cases h2:i<(a+b)/2<;>simp[h1,h2]
    have E3:((a+b)/2<(a+b)/2+m-i/\(a+b)/2+m-i<b/\Hid (gG lt d a m b=gG lt (ir lt d a m b) ((a+b)/2) ((a+b)/2+m-i) b))\/((a+b)/2<(a+b)/2+m-i/\¬(a+b)/2+m-i<b/\Hid (gG lt d a m b=ir lt d a m b))\/
     (¬(a+b)/2<(a+b)/2+m-i/\Hid (gG lt d a m b=ir lt d a m b)):=by
     unfold Hid;rw[Mv hl hr,<-hbs];by_cases h1:(a+b)/2<(a+b)/2+m-i<;>by_cases h2:(a+b)/2+m-i<b<;>simp only[h1,h2,and_self,and_true,and_false,true_and,false_and,if_true,if_false,not_true,not_false_iff,or_true,or_false,true_or,false_or]
    clear hbs hst;rcases E1 with⟨p1,p2,E1⟩|⟨p1,p2,E1⟩|⟨p1,E1⟩<;>rcases E2 with⟨r1,r2,E2⟩|⟨r1,r2,E2⟩|⟨r1,E2⟩<;>rcases E3 with⟨u1,u2,E3⟩|⟨u1,u2,E3⟩|⟨u1,E3⟩
    all_goals
     go_wp2_with (first
      |(go_at_fn (ρ.f 42);refine(HR _ _ _ (by first|rfl|exact gI ..|(rw[jV lt _ _ _ _ _ (e8 _)];first|rfl|exact gI ..)) i ((a+b)/2+m-i) _ _ (by omega) (by omega) (by omega) (by omega) (by omega)).mono ?_;rintro e' w' ⟨rfl,n2,os2,rfl⟩)
      |(go_at_fn (ρ.f 30);refine(HC _ _ _ (by first|rfl|exact gI ..|(rw[jV lt _ _ _ _ _ (e8 _)];first|rfl|exact gI ..)) a i ((a+b)/2) _ _ _ (by omega) (by omega) (by omega) (by omega) (by omega) (by omega) (by omega)).mono ?_;rintro e' w' ⟨rfl,n3,os3,rfl⟩)
      |(go_at_fn (ρ.f 30);refine(HC _ _ _ (by first|rfl|exact gI ..|(rw[jV lt _ _ _ _ _ (e8 _)];first|rfl|exact gI ..)) ((a+b)/2) ((a+b)/2+m-i) b _ _ _ (by omega) (by omega) (by omega) (by omega) (by omega) (by omega) (by omega)).mono ?_;rintro e' w' ⟨rfl,n4,os4,rfl⟩))
    all_goals
     go_end0
     refine⟨rfl,?_⟩;rw[E3.out,E2.out,E1.out];exact BB.fin _ _ _
variable{P:Program}{ρ:Ren}{α:Type}[Inhabited α]
def rO(lt:α->α->Bool)(d:Array α)(a n:Nat):Array α:=
 if a+20<=n then rO lt (Sort.insertionSort lt d a (a+20)) (a+20) n else Sort.insertionSort lt d a n
termination_by n-a
def vz(lt:α->α->Bool)(d:Array α)(c a n:Nat):Array α:=
 if h:0<c/\a+2*c<=n then vz lt (gG lt d a (a+c) (a+2*c)) c (a+2*c) n
 else if a+c<n then gG lt d a (a+c) n else d
termination_by n-a
def tT(lt:α->α->Bool)(d:Array α)(c n:Nat):Array α:=
 if h:0<c/\c<n then tT lt (vz lt d c 0 n) (2*c) n else d
termination_by n-c
def og(lt:α->α->Bool)(d:Array α):Array α:=tT lt (rO lt d 0 d.size) 20 d.size
theorem xN(lt:α->α->Bool)(a:Nat):∀(j:Nat) (d:Array α),(Sort.insInner lt a j d).size=d.size
 |0,d=>by rw[Sort.insInner]
 |j+1,d=>by
  rw[Sort.insInner];split;rw[xN lt a j,size_swp];rfl
def Vw(lt:α->α->Bool)(a b i:Nat)(d:Array α):(Sort.insOuter lt a b i d).size=d.size:=by
 fun_induction Sort.insOuter lt a b i d with
 |case1 i d h c=>rw[c,xN]
 |case2 i d h=>rfl
def fT(lt:α->α->Bool)(d:Array α)(a b:Nat):(Sort.insertionSort lt d a b).size=d.size:=Vw ..
def NS(lt:α->α->Bool)(d:Array α)(a n:Nat):(rO lt d a n).size=d.size:=by
 fun_induction rO lt d a n with
 |case1 d a h b=>rw[b,fT]
 |case2 d a h=>rw[fT]
def rl(lt:α->α->Bool)(d:Array α)(a m b:Nat):(gG lt d a m b).size=d.size:=jV lt _ _ _ _ _ (e8 _)
def Qv(lt:α->α->Bool)(d:Array α)(c a n:Nat):(vz lt d c a n).size=d.size:=by
 fun_induction vz lt d c a n with
 |case1 d a h b=>rw[b,rl]
 |case2 d a h e=>rw[rl]
 |case3 d a h e=>rfl
set_option maxHeartbeats 16000000 in
set_option maxRecDepth 1000000 in
def agJ(L:LaysGt.n15 P ρ){enc:α->List Value}{k:Nat}(hk:∀x,(enc x).length=k)(lt:α->α->Bool){g:Nat}{lb:Array Value}{sf:Nat}{sb:Array Value}{blk off:Nat}{d:Array α}{w:World}
 (eg:∀args w,(callFunc g args).run P w= .ok (.enter g args) w) (hless:LessReadsK P g lb enc k lt blk off d.size w) (hswap:SwapSwapsK P sf sb enc k blk off d.size)
 (hH:HoldsK enc k w blk off d) (hblk:blk<w.heap.size) (hsz:d.size<1152921504606846976):
 Calls P (ρ.f 15) #[.agg #[.func (.func g) #[] lb,.func (.func sf) #[] sb],.int .i64 d.size] w λe w'=>e= .returned (.tuple #[])/\∃n os,w'=sortWorldK enc k w blk off n (og lt d) os:=by
 have LI:LaysGg.n26 P ρ.viaGt:=({L with}:LaysGt.n29 P ρ).elder;obtain⟨B,hstart⟩:=Ey (t:=ρ.t 42) hk hless hswap hH hblk;have hSW:∀n (X:Array α) os,SWK enc k w blk off X (sortWorldK enc k (w.alloc (.cells #[.func (.func g) #[] lb,.func (.func sf) #[] sb] (ρ.t 42))) blk off n X os):=λn X os=>B.fin n X os
 have hins:∀n (X:Array α) os,X.size=d.size->∀(s e:Nat) (zs ze:Int),zs=s->ze=e->s<=e->e<=d.size->
  Calls P (ρ.f 29) #[.agg #[.func (.func g) #[] lb,.func (.func sf) #[] sb],.int .i64 zs,.int .i64 ze] (sortWorldK enc k (w.alloc (.cells #[.func (.func g) #[] lb,.func (.func sf) #[] sb] (ρ.t 42))) blk off n X os) λe' w'=>
   e'= .returned (.tuple #[])/\∃n' os',w'=sortWorldK enc k (w.alloc (.cells #[.func (.func g) #[] lb,.func (.func sf) #[] sb] (ρ.t 42))) blk off n' (Sort.insertionSort lt X s e) os':=by
  intro n X os hX s e zs ze hs he h1 h2;subst hs;subst he;refine(Any.insertionSort_func_cells_w LI enc k hk lt g lb sf sb blk off s e X _ eg (by rw[hX];exact(hSW n X os).lessReads hless hblk hX) (by rw[hX];exact hswap) ((hSW n X os).holds hblk hH hX) ((hSW n X os).lt hblk) h1 (by omega) (by omega)).mono ?_;rintro e' w' ⟨rfl,n',os',rfl⟩;exact⟨rfl,_,_,sortWorldK_on enc k _ blk off n n' X _ os os' B.lt_blk (fT ..)⟩
 have hsym:∀n (X:Array α) os,X.size=d.size->∀(a' m' b':Nat) (za zm zb:Int),za=a'->zm=m'->zb=b'->a'<m'->m'<b'->b'<=d.size->
  Calls P (ρ.f 30) #[.agg #[.func (.func g) #[] lb,.func (.func sf) #[] sb],.int .i64 za,.int .i64 zm,.int .i64 zb] (sortWorldK enc k (w.alloc (.cells #[.func (.func g) #[] lb,.func (.func sf) #[] sb] (ρ.t 42))) blk off n X os) λe' w'=>
   e'= .returned (.tuple #[])/\∃n' os',w'=sortWorldK enc k (w.alloc (.cells #[.func (.func g) #[] lb,.func (.func sf) #[] sb] (ρ.t 42))) blk off n' (gG lt X a' m' b') os':=by
  intro n X os hX a' m' b' za zm zb ha' hm' hb' h1 h2 h3;subst ha';subst hm';subst hb';refine(ach ({L with}:LaysGt.n30 P ρ) hk lt eg _ a' m' b' (d:=X) (e8 _) (by rw[hX];exact(hSW n X os).lessReads hless hblk hX) (by rw[hX];exact hswap) ((hSW n X os).holds hblk hH hX) ((hSW n X os).lt hblk) h1 h2 (by omega) (by omega)).mono ?_;rintro e' w' ⟨rfl,n',os',rfl⟩;exact⟨rfl,_,_,sortWorldK_on enc k _ blk off n n' X _ os os' B.lt_blk (rl ..)⟩
 have mixed:=L.mixed;have t0:=L.t0;have a0:=L.a0;have z0:=L.z0;have v0:=L.v0;have t3:=L.t3;have a3:=L.a3;have z3:=L.z3;have v3:=L.v3;have t4:=L.t4;have a4:=L.a4;have z4:=L.z4;have v4:=L.v4;have t26:=L.t26;have a26:=L.a26;have z26:=L.z26;have v26:=L.v26;have t38:=L.t38;have a38:=L.a38;have z38:=L.z38;have v38:=L.v38;have t42:=L.t42;have a42:=L.a42;have z42:=L.z42;have v42:=L.v42;have t47:=L.t47;have a47:=L.a47;have z47:=L.z47;have v47:=L.v47;have u42:=run_underlying L.t42;have e29:∀args w,(callFunc (ρ.f 29) args).run P w= .ok (.enter (ρ.f 29) args) w:=enters_of L.f29 (by kernel_rfl) rfl;have e30:∀args w,(callFunc (ρ.f 30) args).run P w= .ok (.enter (ρ.f 30) args) w:=enters_of L.f30 (by kernel_rfl) rfl;clear hless hswap hH hSW LI;generalize hW1:w.alloc (.cells #[.func (.func g) #[] lb,.func (.func sf) #[] sb] (ρ.t 42))=W1 at*
 have c0:=B.c0;have c1:=B.c1;have BB:Aside (abG P enc k lt g lb sf sb blk off d.size w.heap.size w W1):=B;clear B;have HI:Aside _:=hins;have HC:Aside _:=hsym;clear hins hsym;have hA:og lt d=tT lt (rO lt d 0 d.size) 20 d.size:=rfl;generalize hn:d.size=n at*
 go_enter L.f15,BodyGt.n15_ntmps ρ
 go_wp2
 go_loopg [5,6] n (λkx s5 s6 wr=>∃(i q:Nat) (X:Array α) (os:Array Obj),s5= .int .i64 i/\s6= .int .i64 (i+20:Nat)/\i<=n/\n-i<=kx/\X.size=n/\wr=sortWorldK enc k W1 blk off q X os/\
  rO lt X i n=rO lt d 0 n)
 case atStart=>exact⟨0,0,d, #[],rfl,rfl,by omega,by omega,hn,hstart.symm,rfl⟩
 case round=>
  obtain⟨i,q,X,os,rfl,rfl,hin,hkx,hX,rfl,hs1⟩:=hrel;by_cases hlt:i+20<=n
  ·rw[rO,an hlt]at hs1;have H1:Hid _:=hs1;clear hs1
   go_wp2_with (go_at_fn (ρ.f 29);refine(HI _ _ _ hX i (i+20) _ _ (by omega) (by omega) (by omega) (by omega)).mono ?_;rintro e' w' ⟨rfl,n2,os2,rfl⟩)
   go_roundg (n-(i+20))
   case measure=>omega
   case rel=>exact⟨i+20,n2,_,os2,rfl,by go_num,by omega,e8 _,by rw[fT];exact hX,rfl,H1.out⟩
  ·rw[rO,a_ hlt]at hs1;have H1:Hid _:=hs1;clear hs1
   go_wp2_with (go_at_fn (ρ.f 29);refine(HI _ _ _ hX i n _ _ (by omega) (by omega) (by omega) (by omega)).mono ?_;rintro e' w' ⟨rfl,n2,os2,rfl⟩)
   have hA2:tT lt (Sort.insertionSort lt X i n) 20 n=og lt d:=by rw[H1.out,hA]
   have HA2:Hid _:=hA2;clear hA2 hA H1
   go_loopg [4] n (λkx s4 wr2=>∃(c q:Nat) (X:Array α) (os:Array Obj),s4= .int .i64 c/\20<=c/\c<=3*n+20/\n-c<=kx/\X.size=n/\wr2=sortWorldK enc k W1 blk off q X os/\tT lt X c n=og lt d)
   case atStart=>exact⟨20,n2,_,os2,by go_num,by omega,by omega,by omega,by rw[fT];exact hX,rfl,HA2.out⟩
   case round=>
    obtain⟨c,q2,X2,os3,rfl,hc20,hcn,hkx2,hX2,rfl,hs3⟩:=hrel;by_cases hc:c<n
    ·rw[tT,dif_pos ⟨by omega,hc⟩]at hs3;have H3:Hid _:=hs3;clear hs3
     go_wp2
     go_loopg [5,6] n (λkx s5 s6 wr3=>∃(i q:Nat) (X:Array α) (os:Array Obj),s5= .int .i64 i/\s6= .int .i64 (i+2*c:Nat)/\i<=n/\n-i<=kx/\X.size=n/\wr3=sortWorldK enc k W1 blk off q X os/\
      vz lt X c i n=vz lt X2 c 0 n)
     case atStart=>exact⟨0,q2,X2,os3,rfl,by go_num,by omega,by omega,hX2,rfl,rfl⟩
     case round=>
      obtain⟨i3,q3,X3,os4,rfl,rfl,hin3,hkx3,hX3,rfl,hs2⟩:=hrel;by_cases h2c:i3+2*c<=n
      ·rw[vz,dif_pos ⟨by omega,h2c⟩]at hs2;have H2:Hid _:=hs2;clear hs2
       go_wp2_with (go_at_fn (ρ.f 30);refine(HC _ _ _ hX3 i3 (i3+c) (i3+2*c) _ _ _ (by omega) (by omega) (by omega) (by omega) (by omega) (by omega)).mono ?_;rintro e' w' ⟨rfl,n5,os5,rfl⟩)
       go_roundg (n-(i3+2*c))
       case measure=>omega
       case rel=>exact⟨i3+2*c,n5,_,os5,rfl,(by first|rfl|(congr 1;omega)|go_num),by omega,e8 _,by rw[rl];exact hX3,rfl,H2.out⟩
      ·rw[vz,dif_neg (by omega)]at hs2;by_cases h1c:i3+c<n
       ·rw[an h1c]at hs2;have H2:Hid _:=hs2;clear hs2
        go_wp2_with (go_at_fn (ρ.f 30);refine(HC _ _ _ hX3 i3 (i3+c) n _ _ _ (by omega) (by omega) (by omega) (by omega) (by omega) (by omega)).mono ?_;rintro e' w' ⟨rfl,n5,os5,rfl⟩)
        go_roundg (n-2*c)
        case measure=>omega
        case rel=>exact⟨2*c,n5,_,os5,(by first|rfl|(congr 1;omega)|go_num),by omega,by omega,e8 _,by rw[rl];exact hX3,rfl,by rw[H2.out];exact H3.out⟩
       ·rw[a_ h1c]at hs2;have H2:Hid _:=hs2;clear hs2
        go_wp2
        go_roundg (n-2*c)
        case measure=>omega
        case rel=>exact⟨2*c,q3,X3,os4,(by first|rfl|(congr 1;omega)|go_num),by omega,by omega,e8 _,hX3,rfl,by rw[H2.out];exact H3.out⟩
    ·rw[tT,dif_neg (by omega)]at hs3;have H3:Hid _:=hs3;clear hs3
     go_wp2
     go_end0
     rw[<-H3.out];exact⟨rfl,BB.fin _ _ _⟩
variable{α:Type}
def nI(lt:α->α->Bool)(c x:α):Bool:= !lt c x&& !lt x c
def wk(lt:α->α->Bool)(l:List α):Prop:=l.Pairwise λx y=>lt y x=false
def Uq{lt:α->α->Bool}(a:SWO lt)(x:α):nI lt x x=true:=by simp[nI,a.irrefl]
def pA{lt:α->α->Bool}(d:SWO lt){a b:List α}(h:∀c,a.filter (nI lt c)=b.filter (nI lt c)){x:α}(e:x∈a):x∈b:=by
 have:x∈a.filter (nI lt x):=atx.2 ⟨e,Uq d x⟩;rw[h x]at this;exact(atx.1 this).1
theorem NZ{lt:α->α->Bool}(b:SWO lt):∀ {f d:List α},wk lt f->wk lt d->(∀c,f.filter (nI lt c)=d.filter (nI lt c))->f=d
 | [],d,_,_,h=>by
   cases d with
   |nil=>rfl
   |cons y r=>exact absurd (pA b (λc=>(h c).symm) (asX (a:=y) (l:=r))) (by simp)
 |x::r1,[],_,_,h=>absurd (pA b h (asX (a:=x) (l:=r1))) (by simp)
 |x::r1,y::r2,h1,h2,h=>by
  have j:=atj.1 h1;have k:=atj.1 h2
  have g:lt x y=false:=by
   rcases as3.1 (pA b h (asX (a:=x) (l:=r1)))with e|e;rw[e];exact b.irrefl y;exact k.1 x e
  have i:lt y x=false:=by
   rcases as3.1 (pA b (λc=>(h c).symm) (asX (a:=y) (l:=r2)))with e|e;rw[e];exact b.irrefl x;exact j.1 y e
  have m:=h x;rw[as8 (Uq b x),as8 (show nI lt x y=true by simp[nI,g,i])]at m;obtain⟨rfl,_⟩:=as4 m;congr 1;refine NZ b j.2 k.2 λc=> ?_;have hc:=h c;rw[att,att]at hc;split at hc;exact(as4 hc).2;exact hc
def AJ{lt:α->α->Bool}(g:SWO lt){X Y:List α}(h:∀x∈X,∀y∈Y,lt y x=true)(c:α):(X++Y).filter (nI lt c)=(Y++X).filter (nI lt c):=by
 rw[asL,asL];by_cases d:∃x∈X,nI lt c x=true;obtain⟨x,d,a⟩:=d
 have:Y.filter (nI lt c)=[]:=by
  rw[atd];intro y f b;simp only[nI,as7,as6]at a b;have i:=h x d y f;have:=g.ntrans y c x b.2 a.1;rw[i]at this;cases this
 rw[this];simp
 have:X.filter (nI lt c)=[]:=by
  rw[atd];intro x e a;exact d ⟨x,e,a⟩
 rw[this];simp
variable[Inhabited α]
def bZ(d:Array α)(a b:Nat):List α:=(List.range' a (b-a)).map λt=>d[t]!
def gD(d:Array α){a b c:Nat}(h1:a<=b)(h2:b<=c):bZ d a c=bZ d a b++bZ d b c:=by
 unfold bZ;rw[<-List.map_append,show c-a=(b-a)+(c-b) by omega,<-List.range'_append_1,show a+(b-a)=b by omega]
def px(d:Array α){a b:Nat}(h:b<=a):bZ d a b=[]:=by unfold bZ;rw[show b-a=0 by omega];rfl
def qJ(d:Array α){a b:Nat}(h:a<b):bZ d a b=d[a]! ::bZ d (a+1) b:=by
 unfold bZ;rw[show b-a=(b-(a+1))+1 by omega,List.range'_succ];rfl
def agH(d:Array α){a b:Nat}(h:a<b):bZ d a b=bZ d a (b-1)++[d[b-1]!]:=by
 rw[gD d (show a<=b-1 by omega) (show b-1<=b by omega),qJ d (a:=b-1) (b:=b) (by omega),px d (a:=b-1+1) (b:=b) (by omega)]
def pJ{d:Array α}{a b:Nat}{x:α}:x∈bZ d a b↔∃t,a<=t/\t<b/\d[t]! =x:=by
 unfold bZ;simp only[ati,atq];constructor;rintro⟨t,⟨c,e⟩,rfl⟩;exact⟨t,c,by omega,rfl⟩;rintro⟨t,c,e,rfl⟩;exact⟨t,⟨c,by omega⟩,rfl⟩
def iW{d d':Array α}{a b:Nat}(h:∀t,a<=t->t<b->d'[t]! =d[t]!):bZ d' a b=bZ d a b:=by
 unfold bZ;refine List.map_congr_left λt c=> ?_;have:=atq.1 c;exact h t this.1 (by omega)
def AM{d d':Array α}{a b s:Nat}(h:∀t,a<=t->t<b->d'[t]! =d[t+s]!):bZ d' a b=bZ d (a+s) (b+s):=by
 unfold bZ;rw[show b+s-(a+s)=b-a by omega];apply List.ext_getElem;simp;intro i c h2;simp only[List.length_map,atk]at c;simp only[atu,asT,asY];rw[h (a+i) (by omega) (by omega),show a+i+s=a+s+i by omega]
def P6(d:Array α)(a b:Nat):(bZ d a b).length=b-a:=by simp[bZ]
def Dm{lt:α->α->Bool}{d:Array α}{a b:Nat}:wk lt (bZ d a b)↔∀i j,a<=i->i<j->j<b->lt d[j]! d[i]! =false:=by
 unfold wk bZ;rw[List.pairwise_map,List.pairwise_iff_getElem];constructor;intro h i j c e f;have:=h (i-a) (j-a) (by simp;omega) (by simp;omega) (by omega);simp only[asT,asY]at this;rwa [show a+(i-a)=i by omega,show a+(j-a)=j by omega]at this;intro h i j c e f;simp only[atk]at c e;simp only[asT,asY];exact h _ _ (by omega) (by omega) (by omega)
variable{α:Type}[Inhabited α]
def I9{d:Array α}{i j t:Nat}(hi:i<d.size)(e:j<d.size):(swp d i j)[t]! =if t=j then d[i]! else if t=i then d[j]! else d[t]! :=by
 unfold swp;by_cases b:t<d.size;simp only[getElem!_pos,b,hi,e,Array.size_setIfInBounds,Array.getElem_setIfInBounds];by_cases a:t=j;subst a;simp;by_cases c:t=i;subst c;simp[a,Ne.symm a];simp[a,c,Ne.symm a,Ne.symm c];rw[getElem!_neg _ _ (by simpa using b)];rw[a_ (by omega),a_ (by omega),getElem!_neg _ _ (by simpa using b)]
theorem uE{d:Array α}{a b:Nat}:∀(n:Nat),a+n<=b->b+n<=d.size->∀t,(nj d a b n)[t]! =if a<=t/\t<a+n then d[t-a+b]! else if b<=t/\t<b+n then d[t-b+a]! else d[t]!
 |0,_,_,t=>by rw[nj,a_ (by omega),a_ (by omega)]
 |n+1,h1,h2,t=>by
  rw[nj,I9 (by rw[hZ];omega) (by rw[hZ];omega)];rw[uE n (by omega) (by omega),uE n (by omega) (by omega),uE n (by omega) (by omega)];by_cases c:t=b+n;subst c;rw[an rfl,a_ (by omega),a_ (by omega),a_ (by omega),an (by omega)];congr 1;omega;rw[a_ c];by_cases e:t=a+n;subst e;rw[an rfl,a_ (by omega),a_ (by omega),an (by omega)];congr 1;omega;rw[a_ e];by_cases f:a<=t/\t<a+n;rw[an f,an (by omega)];rw[a_ f];by_cases g:b<=t/\t<b+n;rw[an g,a_ (by omega),an (by omega)];rw[a_ g,a_ (by omega),a_ (by omega)]
def agS{m:Nat}{d:Array α}{i j:Nat}(hi:0<i)(hj:0<j)(him:i<=m)(hmj:m+j<=d.size)(t:Nat):
 (ua m d i j)[t]! =if m-i<=t/\t<m-i+j then d[t+i]! else if m-i+j<=t/\t<m+j then d[t-j]! else d[t]! :=by
 fun_induction ua m d i j with
 |case1 d i j e f c=>
  have g:=λt=>uE (d:=d) (a:=m-i) (b:=m) j (by omega) (by omega) t;rw[c (by omega) (by omega) (by omega) (by rw[hZ];omega),g,g,g]
  repeat' split
  all_goals first|rfl|(exfalso;omega)|(congr 1;omega)
 |case2 d i j e f c=>
  have g:=λt=>uE (d:=d) (a:=m-i) (b:=m+j-i) i (by omega) (by omega) t;rw[c (by omega) (by omega) (by omega) (by rw[hZ];omega),g,g,g]
  repeat' split
  all_goals first|rfl|(exfalso;omega)|(congr 1;omega)
 |case3 d i j h=>
  obtain rfl:i=j:=by omega
  rw[uE (d:=d) (a:=m-i) (b:=m) i (by omega) (by omega) t]
  repeat' split
  all_goals first|rfl|(exfalso;omega)|(congr 1;omega)
def acK{d:Array α}{k e:Nat}(hk:k<=e)(he:e<d.size)(t:Nat):(lG d k e)[t]! =if k<=t/\t<e then d[t+1]! else if t=e then d[k]! else d[t]! :=by
 fun_induction lG d k e with
 |case1 d k h a=>
  have g:=λt=>I9 (d:=d) (i:=k) (j:=k+1) (t:=t) (by omega) (by omega);rw[a (by omega) (by rw[size_swp];omega),g,g,g]
  repeat' split
  all_goals first|rfl|(exfalso;omega)|(congr 1;omega)
 |case2 d k h=>
  repeat' split
  all_goals first|rfl|(exfalso;omega)|(congr 1;omega)
def W7{d:Array α}{k e:Nat}(hk:e<=k)(he:k<d.size)(t:Nat):(ij d k e)[t]! =if e<t/\t<=k then d[t-1]! else if t=e then d[k]! else d[t]! :=by
 fun_induction ij d k e with
 |case1 d k h a=>
  have g:=λt=>I9 (d:=d) (i:=k) (j:=k-1) (t:=t) (by omega) (by omega);rw[a (by omega) (by rw[size_swp];omega),g,g,g]
  repeat' split
  all_goals first|rfl|(exfalso;omega)|(congr 1;omega)
 |case2 d k h=>
  repeat' split
  all_goals first|rfl|(exfalso;omega)|(congr 1;omega)
def K4(p:Nat->Bool){i j lo hi:Nat}(h:i<=j)(c:lo<i->p (i-1)=true)(d:j<hi->p j=false)(f:lo<=i)(g:j<=hi):
 (lo<j8 p i j->p (j8 p i j-1)=true)/\(j8 p i j<hi->p (j8 p i j)=false):=by
 fun_induction j8 p i j with
 |case1 i j a e b=>exact b (by omega) (λ_=>by rwa [atl]) d (by omega) g
 |case2 i j a e b=>exact b (by omega) c (λ_=>by simpa using e) f (by omega)
 |case3 i j a=>
  obtain rfl:i=j:=by omega
  exact⟨c,d⟩
variable{α:Type}[Inhabited α]
def asym{lt:α->α->Bool}(a:SWO lt){x y:α}(h:lt x y=true):lt y x=false:=by
 cases b:lt y x with
 |false=>rfl
 |true=>have:=a.trans _ _ _ h b;rw[a.irrefl]at this;cases this
structure Cq(lt:α->α->Bool)(d r:Array α)(a b:Nat):Prop where
 asc:wk lt (bZ r a b)
 same:∀c,(bZ r a b).filter (nI lt c)=(bZ d a b).filter (nI lt c)
 out:∀t,t<a\/b<=t->r[t]! =d[t]!
def rG{lt:α->α->Bool}{a b:List α}:wk lt (a++b)↔wk lt a/\wk lt b/\∀x∈a,∀y∈b,lt y x=false:=List.pairwise_append
def QL{lt:α->α->Bool}(u:SWO lt){d:Array α}{a b:Nat}(hab:a+1<b)(hb:b<=d.size)(w:wk lt (bZ d (a+1) b)):
 Cq lt d (lG d a (j8 (λh=>lt d[h]! d[a]!) (a+1) b-1)) a b:=by
 have hle:=Ii (λh=>lt d[h]! d[a]!) (a+1) b (by omega);have p:=K4 (λh=>lt d[h]! d[a]!) (i:=a+1) (j:=b) (lo:=a+1) (hi:=b) (by omega) (λh=>by omega) (λh=>by omega) (by omega) (by omega);generalize j8 (λh=>lt d[h]! d[a]!) (a+1) b=i at*
 have z:=Dm.1 w
 have B:∀h,a+1<=h->h<i->lt d[h]! d[a]! =true:=λh n o=>by
  have e:=p.1 (by omega);rcases O_ h (i-1)with g|g;cases F:lt d[h]! d[a]! with
  |true=>rfl
  |false=>have:=u.ntrans _ _ _ (z h (i-1) n g (by omega)) F;rw[e]at this;cases this
  rw[show h=i-1 by omega];exact e
 have G:∀h,i<=h->h<b->lt d[h]! d[a]! =false:=λh n o=>by
  have e:=p.2 (by omega);rcases O_ i h with g|g;exact u.ntrans _ _ _ (z i h (by omega) g o) e;rw[show h=i by omega];exact e
 have v:=λt=>acK (d:=d) (k:=a) (e:=i-1) (by omega) (by omega) t
 have H:bZ (lG d a (i-1)) a (i-1)=bZ d (a+1) i:=by
  rw[AM (s:=1) (d:=d) (λt n o=>by rw[v,an ⟨n,o⟩]),show i-1+1=i by omega]
 have I:bZ (lG d a (i-1)) i b=bZ d i b:=iW λt n o=>by rw[v,a_ (by omega),a_ (by omega)]
 have C:bZ (lG d a (i-1)) a b=bZ d (a+1) i++([d[a]!]++bZ d i b):=by
  rw[gD _ (show a<=i-1 by omega) (show i-1<=b by omega),H,qJ _ (show i-1<b by omega),show i-1+1=i by omega,I,v,a_ (by omega),an rfl];rfl
 have J:bZ d a b=[d[a]!]++(bZ d (a+1) i++bZ d i b):=by
  rw[qJ _ (show a<b by omega),gD d (show a+1<=i by omega) (show i<=b by omega)];rfl
 have l:=rG.1 (by rw[<-gD d (show a+1<=i by omega) (show i<=b by omega)];exact w:wk lt (bZ d (a+1) i++bZ d i b));refine⟨?_,λc=> ?_,λt ht=>by rw[v,a_ (by omega),a_ (by omega)]⟩;rw[C,rG,rG];refine⟨l.1,⟨as9 _ _,l.2.1,λx m y f=> ?_⟩,λx m y f=> ?_⟩;obtain rfl:=asM.1 m;obtain⟨t,q,r,rfl⟩:=pJ.1 f;exact G t q r;rcases as0.1 f with f|f;obtain rfl:=asM.1 f;obtain⟨t,q,r,rfl⟩:=pJ.1 m;exact asym u (B t q r);exact l.2.2 x m y f;rw[C,J,<-asQ,<-asQ,asL,asL (l₁:=[d[a]!]++bZ d (a+1) i)];congr 1;refine(AJ u (λx m y f=> ?_) c).symm;obtain rfl:=asM.1 m;obtain⟨t,q,r,rfl⟩:=pJ.1 f;exact B t q r
def O3{lt:α->α->Bool}(u:SWO lt){d:Array α}{a m:Nat}(ham:a<m)(hb:m+1<=d.size)(w:wk lt (bZ d a m)):
 Cq lt d (ij d m (j8 (λh=> !lt d[m]! d[h]!) a m)) a (m+1):=by
 have hle:=Ii (λh=> !lt d[m]! d[h]!) a m (by omega);have f:=K4 (λh=> !lt d[m]! d[h]!) (i:=a) (j:=m) (lo:=a) (hi:=m) (by omega) (λh=>by omega) (λh=>by omega) (by omega) (by omega);generalize j8 (λh=> !lt d[m]! d[h]!) a m=i at*
 simp only[as6,atm]at f;have z:=Dm.1 w
 have F:∀h,a<=h->h<i->lt d[m]! d[h]! =false:=λh q r=>by
  have e:=f.1 (by omega);rcases O_ h (i-1)with g|g;exact u.ntrans _ _ _ e (z h (i-1) q g (by omega));rw[show h=i-1 by omega];exact e
 have B:∀h,i<=h->h<m->lt d[m]! d[h]! =true:=λh q r=>by
  have e:=f.2 (by omega);rcases O_ i h with g|g;cases G:lt d[m]! d[h]! with
  |true=>rfl
  |false=>have:=u.ntrans _ _ _ G (z i h (by omega) g r);rw[e]at this;cases this
  rw[show h=i by omega];exact e
 have v:=λt=>W7 (d:=d) (k:=m) (e:=i) (by omega) (by omega) t;have H:bZ (ij d m i) a i=bZ d a i:=iW λt q r=>by rw[v,a_ (by omega),a_ (by omega)]
 have I:bZ d i m=bZ (ij d m i) (i+1) (m+1):=AM (s:=1) λt q r=>by rw[v,an (by omega)];congr 1
 have C:bZ (ij d m i) a (m+1)=bZ d a i++([d[m]!]++bZ d i m):=by
  rw[gD _ (show a<=i by omega) (show i<=m+1 by omega),H,qJ _ (show i<m+1 by omega),<-I,v,a_ (by omega),an rfl];rfl
 have J:bZ d a (m+1)=bZ d a i++(bZ d i m++[d[m]!]):=by
  rw[gD _ (show a<=i by omega) (show i<=m+1 by omega),agH _ (show i<m+1 by omega),atl]
 have l:=rG.1 (by rw[<-gD d (show a<=i by omega) (show i<=m by omega)];exact w:wk lt (bZ d a i++bZ d i m));refine⟨?_,λc=> ?_,λt ht=>by rw[v,a_ (by omega),a_ (by omega)]⟩;rw[C,rG,rG];refine⟨l.1,⟨as9 _ _,l.2.1,λx n y b=> ?_⟩,λx n y b=> ?_⟩;obtain rfl:=asM.1 n;obtain⟨t,o,p,rfl⟩:=pJ.1 b;exact asym u (B t o p);rcases as0.1 b with b|b;obtain rfl:=asM.1 b;obtain⟨t,o,p,rfl⟩:=pJ.1 n;exact F t o p;exact l.2.2 x n y b;rw[C,J,asL,asL (l₁:=bZ d a i)];congr 1;refine(AJ u (λx n y b=> ?_) c).symm;obtain rfl:=asM.1 b;obtain⟨t,o,p,rfl⟩:=pJ.1 n;exact B t o p
variable{α:Type}[Inhabited α]
theorem xh{lt:α->α->Bool}(n:SWO lt):∀(N:Nat) {d:Array α} {a m b:Nat},b-a<=N->a<m->m<b->b<=d.size->wk lt (bZ d a m)->wk lt (bZ d m b)->Cq lt d (gG lt d a m b) a b
 |0,d,a,m,b,hN,ham,hmb,hb,h1,h2=>by omega
 |N+1,d,a,m,b,hN,ham,hmb,hb,h1,h2=>by
  by_cases X:m<=a+1;obtain rfl:m=a+1:=by omega
  rw[gG,an X];exact QL n (by omega) hb h2;by_cases hr:b<=m+1;obtain rfl:b=m+1:=by omega
  rw[gG,a_ X,an (e8 _)];exact O3 n ham hb h1;rw[Mv X hr];have hle:=KA (lt:=lt) (d:=d) ham hmb
  have B:(a<cu lt d a m b->(a+b)/2+m-cu lt d a m b<b->lt d[(a+b)/2+m-cu lt d a m b]! d[cu lt d a m b-1]! =false)/\
   (cu lt d a m b<m->m<(a+b)/2+m-cu lt d a m b->lt d[(a+b)/2+m-cu lt d a m b-1]! d[cu lt d a m b]! =true):=by
   unfold cu
   have F:=K4 (λc=> !lt d[(a+b)/2+m-1-c]! d[c]!) (i:=if(a+b)/2<m then(a+b)/2+m-b else a) (j:=if(a+b)/2<m then(a+b)/2 else m)
    (lo:=if(a+b)/2<m then(a+b)/2+m-b else a) (hi:=if(a+b)/2<m then(a+b)/2 else m) (by split<;>omega) (λh=>by omega) (λh=>by omega) (e8 _) (e8 _)
   have hb2:=Ii (λc=> !lt d[(a+b)/2+m-1-c]! d[c]!) (if(a+b)/2<m then(a+b)/2+m-b else a) (if(a+b)/2<m then(a+b)/2 else m) (by split<;>omega);generalize j8 (λc=> !lt d[(a+b)/2+m-1-c]! d[c]!) (if(a+b)/2<m then(a+b)/2+m-b else a) (if(a+b)/2<m then(a+b)/2 else m)=s at*
   simp only[as6,atm]at F;refine⟨λq v=> ?_,λq v=> ?_⟩;have:=F.1 (by split<;>omega);rw[show(a+b)/2+m-1-(s-1)=(a+b)/2+m-s by omega]at this;exact this;have:=F.2 (by split<;>omega);rw[show(a+b)/2+m-1-s=(a+b)/2+m-s-1 by omega]at this;exact this
  have k:fv lt d a m b=if cu lt d a m b<m/\m<(a+b)/2+m-cu lt d a m b then ua m d (m-cu lt d a m b) ((a+b)/2+m-cu lt d a m b-m)else d:=rfl
  have l:ir lt d a m b=if a<cu lt d a m b/\cu lt d a m b<(a+b)/2 then gG lt (fv lt d a m b) a (cu lt d a m b) ((a+b)/2)else fv lt d a m b:=rfl
  have hz1:=pE lt d a m b;have hz2:=ZZ lt d a m b;generalize cu lt d a m b=s at*
  generalize fv lt d a m b=d1 at*
  generalize ir lt d a m b=d2 at*
  obtain⟨z,L,S,hs4⟩:=hle;obtain⟨e,F⟩:∃e,e=(a+b)/2+m-s:=⟨_,rfl⟩
  rw[<-F]at B k|-;obtain⟨f,W⟩:∃f,f=(a+b)/2:=⟨_,rfl⟩
  rw[<-W]at F l S|-;have H:=rG.1 (by rw[<-gD d z L];exact h1:wk lt (bZ d a s++bZ d s m));have I:=rG.1 (by rw[<-gD d (show m<=e by omega) (show e<=b by omega)];exact h2:wk lt (bZ d m e++bZ d e b));have a1:=Dm.1 h1;have a2:=Dm.1 h2
  have F1:∀x∈bZ d s m,∀y∈bZ d m e,lt y x=true:=λx o y p=>by
   obtain⟨t,t1,t2,rfl⟩:=pJ.1 o;obtain⟨u,u1,u2,rfl⟩:=pJ.1 p;have Y:=B.2 (by omega) (by omega)
   have q1:lt d[t]! d[s]! =false:=by
    rcases O_ s t with g|g;exact a1 s t z g t2;rw[show t=s by omega];exact n.irrefl _
   have q2:lt d[e-1]! d[u]! =false:=by
    rcases O_ u (e-1)with g|g;exact a2 u (e-1) u1 g (by omega);rw[show u=e-1 by omega];exact n.irrefl _
   cases hv:lt d[u]! d[t]! with
   |true=>rfl
   |false=>
    have:=n.ntrans _ _ _ (n.ntrans _ _ _ q2 hv) q1;rw[Y]at this;cases this
  have F2:∀x∈bZ d a s,∀y∈bZ d e b,lt y x=false:=λx o y p=>by
   obtain⟨t,t1,t2,rfl⟩:=pJ.1 o;obtain⟨u,u1,u2,rfl⟩:=pJ.1 p;have Y:=B.1 (by omega) (by omega)
   have q1:lt d[s-1]! d[t]! =false:=by
    rcases O_ t (s-1)with g|g;exact a1 t (s-1) t1 g (by omega);rw[show t=s-1 by omega];exact n.irrefl _
   have q2:lt d[u]! d[e]! =false:=by
    rcases O_ e u with g|g;exact a2 e u (by omega) g u2;rw[show u=e by omega];exact n.irrefl _
   exact n.ntrans _ _ _ q2 (n.ntrans _ _ _ Y q1)
  have R:bZ d1 a s=bZ d a s/\bZ d1 s f=bZ d m e/\bZ d1 f e=bZ d s m/\bZ d1 e b=bZ d e b/\∀t,t<a\/b<=t->d1[t]! =d[t]! :=by
   by_cases hc:s<m/\m<e;rw[an hc]at k;have g:=λt=>agS (m:=m) (d:=d) (i:=m-s) (j:=e-m) (by omega) (by omega) (by omega) (by omega) t;rw[<-k]at g;refine⟨iW λt q v=>by rw[g,a_ (by omega),a_ (by omega)],?_,?_,iW λt q v=>by rw[g,a_ (by omega),a_ (by omega)],λt C=>by rw[g,a_ (by omega),a_ (by omega)]⟩;rw[AM (s:=m-s) (d:=d) λt q v=>by rw[g,an (by omega)]];congr 1<;>omega;have:bZ d s m=bZ d1 (s+(e-m)) (m+(e-m)):=AM λt q v=>by rw[g,a_ (by omega),an (by omega)];congr 1;omega
   rw[this];congr 1<;>omega;rw[a_ hc]at k;subst k;rcases O_ s m with g|g;have q:e=m:=by omega
   have v:f=s:=by omega
   exact⟨rfl,by rw[px _ (by omega),px _ (by omega)],by congr 1<;>omega,rfl,λt C=>rfl⟩;have q:s=m:=by omega
   have v:f=e:=by omega
   exact⟨rfl,by congr 1,by rw[px _ (by omega),px _ (by omega)],rfl,λt C=>rfl⟩
  obtain⟨r1,r2,r3,r4,r5⟩:=R
  have G:Cq lt d1 d2 a f:=by
   by_cases hc:a<s/\s<f;rw[an hc]at l;rw[l];exact xh n N (by omega) hc.1 hc.2 (by omega) (by rw[r1];exact H.1) (by rw[r2];exact I.1);rw[a_ hc]at l;subst l;refine⟨?_,λc=>rfl,λt C=>rfl⟩;rcases O_ a s with g|g;rw[show f=s by omega,r1];exact H.1;rw[show a=s by omega,r2];exact I.1
  have b0:bZ d a b=bZ d a s++bZ d s m++(bZ d m e++bZ d e b):=by
   rw[gD d (show a<=m by omega) (show m<=b by omega),gD d z L,gD d (show m<=e by omega) (show e<=b by omega)]
  have J:bZ d1 a f=bZ d a s++bZ d m e:=by rw[gD d1 z S,r1,r2]
  have k3:bZ d2 f e=bZ d s m:=by rw[<-r3];exact iW λt q v=>G.out t (by omega)
  have k4:bZ d2 e b=bZ d e b:=by rw[<-r4];exact iW λt q v=>G.out t (by omega)
  have w:bZ d2 f b=bZ d s m++bZ d e b:=by rw[gD d2 (show f<=e by omega) (show e<=b by omega),k3,k4]
  have K:Cq lt d2 (if f<e/\e<b then gG lt d2 f e b else d2) f b:=by
   by_cases hc:f<e/\e<b;rw[an hc];exact xh n N (by omega) hc.1 hc.2 (by omega) (by rw[k3];exact H.2.1) (by rw[k4];exact I.2.1);rw[a_ hc];refine⟨?_,λc=>rfl,λt C=>rfl⟩;rcases O_ f e with g|g;rw[w,px d (show b<=e by omega),atb];exact H.2.1;rw[w,px d (show m<=s by omega),atw];exact I.2.1
  generalize (if f<e/\e<b then gG lt d2 f e b else d2)=r at*
  have rA:bZ r a f=bZ d2 a f:=iW λt q v=>K.out t (by omega);have rs:bZ r a b=bZ d2 a f++bZ r f b:=by rw[gD r (show a<=f by omega) (show f<=b by omega),rA]
  have m1:∀x∈bZ d2 a f,x∈bZ d a s\/x∈bZ d m e:=λx o=>by
   have:=pA n G.same o;rw[J]at this;exact as0.1 this
  have m2:∀x∈bZ r f b,x∈bZ d s m\/x∈bZ d e b:=λx o=>by
   have:=pA n K.same o;rw[w]at this;exact as0.1 this
  refine⟨?_,λc=> ?_,λt C=> ?_⟩;rw[rs,rG];refine⟨G.asc,K.asc,λx o y p=> ?_⟩;rcases m1 x o with o|o<;>rcases m2 y p with p|p;exact H.2.2 x o y p;exact F2 x o y p;exact asym n (F1 y p x o);exact I.2.2 x o y p;rw[rs,asL,G.same,K.same,J,w,b0];have:=AJ n F1 c;simp only[asL]at this|-;rw[asQ,<-asQ (List.filter (nI lt c) (bZ d m e)),<-this];simp only[asQ];rw[K.out t (by omega),G.out t (by omega),r5 t C]
variable{α:Type}[Inhabited α]
structure fI(lt:α->α->Bool)(d r:Array α)(a b:Nat):Prop where
 same:∀c,(bZ r a b).filter (nI lt c)=(bZ d a b).filter (nI lt c)
 out:∀t,t<a\/b<=t->r[t]! =d[t]!
theorem fI.trans{lt:α->α->Bool}{d e r:Array α}{a b:Nat}(l:fI lt d e a b)(o:fI lt e r a b):fI lt d r a b:=
 ⟨λc=>(o.same c).trans (l.same c),λt h=>(o.out t h).trans (l.out t h)⟩
theorem fI.Pz{lt:α->α->Bool}{d r:Array α}{a b o e:Nat}(h:fI lt d r a b)(l:a<=b)(p:o<=a)(q:b<=e):fI lt d r o e:=by
 refine⟨λc=> ?_,λt ht=>h.out t (by omega)⟩;rw[gD r p (show a<=e by omega),gD r l q,gD d p (show a<=e by omega),gD d l q];rw[iW (d:=d) (d':=r) (a:=o) (b:=a) λt u v=>h.out t (by omega),iW (d:=d) (d':=r) (a:=b) (b:=e) λt u v=>h.out t (by omega)];simp only[asL,h.same c]
theorem fI.refl{lt:α->α->Bool}(d:Array α)(a b:Nat):fI lt d d a b:=⟨λ_=>rfl,λ_ _=>rfl⟩
def agP{lt:α->α->Bool}(e:SWO lt){d:Array α}{j:Nat}(hj:j+1<d.size)(h:lt d[j+1]! d[j]! =true):fI lt d (swp d (j+1) j) j (j+2):=by
 have g:=λt=>I9 (d:=d) (i:=j+1) (j:=j) (t:=t) (by omega) (by omega);refine⟨λc=> ?_,λt ht=>by rw[g,a_ (by omega),a_ (by omega)]⟩;rw[qJ (swp d (j+1) j) (show j<j+2 by omega),qJ (swp d (j+1) j) (show j+1<j+2 by omega),px _ (by omega),qJ d (show j<j+2 by omega),qJ d (show j+1<j+2 by omega),px _ (by omega)];rw[g,g,an rfl,a_ (by omega),an rfl];refine(AJ (X:=[d[j]!]) (Y:=[d[j+1]!]) e (λx a y b=> ?_) c).symm;obtain rfl:=asM.1 a;obtain rfl:=asM.1 b;exact h
theorem F6{lt:α->α->Bool}(c:SWO lt){a b:Nat}:∀(j:Nat) {d:Array α},a<=j->j<b->b<=d.size->fI lt d (Sort.insInner lt a j d) a b
 |0,d,h1,h2,h3=>by rw[Sort.insInner];exact fI.refl ..
 |j+1,d,h1,h2,h3=>by
  rw[Sort.insInner];split;rename_i hc;simp only[gt_iff_lt,as7,b_]at hc;refine((agP c (by omega) hc.2).Pz (by omega) (by omega) (by omega)).trans (F6 c j (by omega) (by omega) (by rw[size_swp];omega));exact fI.refl ..
def UT{lt:α->α->Bool}(e:SWO lt){a b i:Nat}{d:Array α}(hi:a<=i)(c:b<=d.size):fI lt d (Sort.insOuter lt a b i d) a b:=by
 fun_induction Sort.insOuter lt a b i d with
 |case1 i d h f=>exact(F6 e i hi h c).trans (f (by omega) (by rw[xN];exact c))
 |case2 i d h=>exact fI.refl ..
def ug{lt:α->α->Bool}(e:SWO lt){d:Array α}{a b:Nat}(c:a<=b)(f:b<=d.size):Cq lt d (Sort.insertionSort lt d a b) a b:=by
 have g:=UT e (a:=a) (b:=b) (i:=a+1) (d:=d) (by omega) f;refine⟨?_,g.same,g.out⟩;have h:=(insertionSort_holds e d a b c f).2;rw[Dm];exact h
def lB(lt:α->α->Bool)(d:Array α)(c a n:Nat):Prop:=if h:0<c/\a<n then wk lt (bZ d a (min (a+c) n))/\lB lt d c (a+c) n else True
termination_by n-a
def abu{lt:α->α->Bool}{d r:Array α}{c a n:Nat}(h:∀t,a<=t->r[t]! =d[t]!)(b:lB lt d c a n):lB lt r c a n:=by
 fun_induction lB lt d c a n with
 |case1 a hc f=>
  rw[lB,dif_pos hc];exact⟨by rw[iW λt e g2=>h t e];exact b.1,f (λt ht=>h t (by omega)) b.2⟩
 |case2 a hc=>rw[lB,dif_neg hc];trivial
def afZ{lt:α->α->Bool}(c:SWO lt){d:Array α}{a n:Nat}(g:a<=n)(e:n<=d.size):fI lt d (rO lt d a n) a n/\lB lt (rO lt d a n) 20 a n:=by
 fun_induction rO lt d a n with
 |case1 d a h j=>
  have m:=ug c (d:=d) (a:=a) (b:=a+20) (by omega) (by omega);obtain⟨f,i⟩:=j h (by rw[fT];exact e);refine⟨(fI.Pz ⟨m.same,m.out⟩ (by omega) (e8 _) h).trans (f.Pz h (by omega) (e8 _)),?_⟩;rw[lB,dif_pos (by omega)];refine⟨?_,i⟩;rw[show min (a+20) n=a+20 by omega,iW λt g1 g2=>f.out t (by omega)];exact m.asc
 |case2 d a h=>
  have m:=ug c (d:=d) (a:=a) (b:=n) g e;refine⟨⟨m.same,m.out⟩,?_⟩;rw[lB];split;refine⟨by rw[show min (a+20) n=n by omega];exact m.asc,?_⟩;rw[lB,dif_neg (by omega)];trivial;trivial
def agI{lt:α->α->Bool}(f:SWO lt){d:Array α}{c a n:Nat}(hc0:0<c)(ha:a<=n)(i:n<=d.size)(e:lB lt d c a n):fI lt d (vz lt d c a n) a n/\lB lt (vz lt d c a n) (2*c) a n:=by
 fun_induction vz lt d c a n with
 |case1 d a h k=>
  rw[lB,dif_pos (by omega),lB,dif_pos (by omega),show min (a+c) n=a+c by omega,show min (a+c+c) n=a+2*c by omega,show a+c+c=a+2*c by omega]at e;have m:=xh f (d:=d) (a:=a) (m:=a+c) (b:=a+2*c) _ (e8 _) (by omega) (by omega) (by omega) e.1 e.2.1;obtain⟨g,j⟩:=k h.2 (by rw[rl];exact i) (abu (λt ht=>m.out t (by omega)) e.2.2);refine⟨(fI.Pz ⟨m.same,m.out⟩ (by omega) (e8 _) h.2).trans (g.Pz h.2 (by omega) (e8 _)),?_⟩;rw[lB,dif_pos (by omega)];refine⟨?_,j⟩;rw[show min (a+2*c) n=a+2*c by omega,iW λt g1 g2=>g.out t (by omega)];exact m.asc
 |case2 d a h l=>
  rw[lB,dif_pos (by omega),lB,dif_pos (by omega),show min (a+c) n=a+c by omega,show min (a+c+c) n=n by omega]at e;have m:=xh f (d:=d) (a:=a) (m:=a+c) (b:=n) _ (e8 _) (by omega) (by omega) (by omega) e.1 e.2.1;refine⟨⟨m.same,m.out⟩,?_⟩;rw[lB,dif_pos (by omega),show min (a+2*c) n=n by omega];refine⟨m.asc,?_⟩;rw[lB,dif_neg (by omega)];trivial
 |case3 d a h l=>
  refine⟨fI.refl ..,?_⟩;rw[lB]at e|-;split;rw[dif_pos (by omega)]at e;rw[show min (a+2*c) n=n by omega];rw[show min (a+c) n=n by omega]at e;refine⟨e.1,?_⟩;rw[lB,dif_neg (by omega)];trivial;trivial
def afM{lt:α->α->Bool}(f:SWO lt){d:Array α}{c n:Nat}(b:0<c)(e:n<=d.size)(a:lB lt d c 0 n):fI lt d (tT lt d c n) 0 n/\wk lt (bZ (tT lt d c n) 0 n):=by
 fun_induction tT lt d c n with
 |case1 d c h l=>
  obtain⟨g,i⟩:=agI f b (atr _) e a;obtain⟨j,k⟩:=l (by omega) (by rw[Qv];exact e) i;exact⟨g.trans j,k⟩
 |case2 d c h=>
  refine⟨fI.refl ..,?_⟩;rw[lB]at a;split at a;rw[show min (0+c) n=n by omega]at a;exact a.1;rw[px _ (by omega)];exact List.Pairwise.nil
def abx(lt:α->α->Bool)(d:Array α)(c n:Nat):(tT lt d c n).size=d.size:=by
 fun_induction tT lt d c n with
 |case1 d c h a=>rw[a,Qv]
 |case2 d c h=>rfl
def aaS(d:Array α){a b i:Nat}(h:i<(bZ d a b).length):(bZ d a b)[i]=d[a+i]! :=by
 simp only[bZ,atu,asT,asY]
def adh{lt:α->α->Bool}(h:SWO lt)(d:Array α):og lt d=Sort.insertionSort lt d 0 d.size:=by
 have f:=afZ h (d:=d) (a:=0) (n:=d.size) (atr _) (e8 _);have k:=afM h (d:=rO lt d 0 d.size) (c:=20) (n:=d.size) (by omega) (by rw[NS];exact e8 _) f.2;have l:=ug h (d:=d) (a:=0) (b:=d.size) (atr _) (e8 _);have p:(og lt d).size=d.size:=by unfold og;rw[abx,NS]
 have e:bZ (og lt d) 0 d.size=bZ (Sort.insertionSort lt d 0 d.size) 0 d.size:=
  NZ h k.2 l.asc λc=>((f.1.trans k.1).same c).trans (l.same c).symm
 apply Array.ext;rw[p,fT];intro i o j;have g:i<d.size:=by omega
 have q:i<(bZ (og lt d) 0 d.size).length:=by rw[P6];exact g
 have f:=aaS (og lt d) q;have m:=aaS (Sort.insertionSort lt d 0 d.size) (a:=0) (b:=d.size) (i:=i) (by rw[P6];exact g);simp only[e]at f;rw[f,Nat.zero_add,getElem!_pos (og lt d) i o,getElem!_pos (Sort.insertionSort lt d 0 d.size) i j]at m;exact m
variable{P:Program}{ρ:Ren}{α:Type}[Inhabited α]
def VK(L:LaysGt.n8 P ρ){t e:TypeId}{i ie:TypeInfo}(hi:P.info? t=some i)(u:i.desc= .slice e)(l:P.packed t=false)(m:P.info? e=some ie){ke:Nat}(o:∀w,(Extern.Rtype.kind e).run P w= .ok ke w)
 {enc:α->List Value} {k:Nat} (y:∀x,(enc x).length=k) (h1:∀x,∀v∈enc x,v.oneCell'=true) (lt:α->α->Bool) (z:SWO lt) {g:Nat} {p:Array Value}
 (B:∀args w,(callFunc g args).run P w= .ok (.enter g args) w) {a off c:Nat} {d:Array α} (h2:2<=d.size) (q:d.size<1152921504606846976)
 {f:Nat} (C:P.funcs.findIdx? (·.name== "internal/reflectlite" ++ ".Swapper$" ++toString (swapperK d.size ie ke))=some f)
 (r:SwapSwapsK P f (sliceBound P e ie ke (some ⟨a,off,none⟩) d.size c) enc k a off d.size)
 {w:World} (j:LessReadsK P g p enc k lt a off d.size w) (F:HoldsK enc k w a off d) (b:a<w.heap.size):
 Calls P (ρ.f 8) #[.iface t (.slice (some ⟨a,off,none⟩) d.size c),.func (.func g) #[] p] w λe w'=>
  e= .returned (.tuple #[])/\∃n s,w'=grow (putRowK enc k (Sort.ahead w n) a off (Sort.insertionSort lt d 0 d.size)) s:=by
 refine Any.sort_SliceStable_of_stable L t e i ie hi u l m ke o _ d.size c (by omega) f C (.func g) #[] p w _ ?_
 obtain⟨h,G⟩:∃h,stableWorld P ρ t (some ⟨a,off,none⟩) d.size c w=grow w h:=
  ⟨_,by unfold stableWorld;rw[alloc_eq_grow,alloc_eq_grow,grow_grow]⟩
 rw[G];refine(agJ (P:=P) (ρ:=ρ) {L with} y lt (d:=d) B (j.grow b h) r (holdsK_grow enc k w _ a off d b F) (by rw[size_grow];omega) q).mono ?_;rintro e w' ⟨rfl,n,s,rfl⟩;rw[adh z];exact⟨rfl,n,_,by unfold sortWorldK;rw[ahead_grow,putRowK_grow enc k (Sort.ahead w n) _ a off _ b,grow_grow]⟩
def GK(L:LaysGt.n8 P ρ){t e:TypeId}{i ie:TypeInfo}(hi:P.info? t=some i)(B:i.desc= .slice e)(m:P.packed t=false)(h:P.info? e=some ie){ke:Nat}(o:∀w,(Extern.Rtype.kind e).run P w= .ok ke w)
 {enc:α->List Value} {k:Nat} (r:∀x,(enc x).length=k) (p:ie.size=k) (j:∀w,(isAgg e).run P w= .ok true w) (s:∀x,∀v∈enc x,v.oneCell'=true) (lt:α->α->Bool) (C:SWO lt) {g:Nat} {u:Array Value}
 (F:∀args w,(callFunc g args).run P w= .ok (.enter g args) w) {a off c:Nat} {d:Array α} (y:2<=d.size) (q:d.size<1152921504606846976)
 {f:Nat} (G:P.funcs.findIdx? (·.name== "internal/reflectlite" ++ ".Swapper$" ++toString (swapperK d.size ie ke))=some f)
 (gS:Bool) (H:∀args W,(callFunc f args).run P W=((Extern.ReflectliteSwapper.swap gS args).run P W).andThen λv w'=> .ok (.value v) w')
 {w:World} (b:LessReadsK P g u enc k lt a off d.size w) (I:HoldsK enc k w a off d) (l:a<w.heap.size):
 Calls P (ρ.f 8) #[.iface t (.slice (some ⟨a,off,none⟩) d.size c),.func (.func g) #[] u] w λe w'=>
  e= .returned (.tuple #[])/\∃n z,w'=grow (putRowK enc k (Sort.ahead w n) a off (Sort.insertionSort lt d 0 d.size)) z:=by
 have J:sliceBound P e ie ke (some ⟨a,off,none⟩) d.size c= #[.slice (some ⟨a,off,none⟩) d.size c,typeHandle P e]:=by
  unfold sliceBound;rw[a_ (swapperK_gt _ _ _ y)]
 exact VK L hi B m h o r s lt C F y q G (by rw[J];exact swapSwapsK_of_literal gS f H e ie h enc k r p j s a off d.size c) b I l
end Go.Proofs
namespace Vg
open Go Go.Proofs Go.Sort
def xQ:List (ByteArray×ByteArray)->List (List UInt8)
 | []=>[]
 |a::l=>a.1.toList::a.2.toList::xQ l
def MO(a b:ByteArray):ny a b=decide (a.toList<b.toList):=bytesLess_eq _ _
theorem vm:∀l m:List (ByteArray×ByteArray),bN l m=decide (xQ l<xQ m)
 | [],[]=>by simp[bN,xQ]
 | [],b::m=>by simp[bN,xQ]
 |a::l,[]=>by simp[bN,xQ]
 |a::l,b::m=>by
  rw[bN,vm l m,MO,MO];simp only[xQ,List.cons_lt_cons_iff,beq_iff_eq];by_cases c:a.1.toList=b.1.toList;rw[an c];by_cases d:a.2.toList=b.2.toList;rw[an d];simp[c,d,atf];rw[a_ d];simp[c,d,atf];rw[a_ c];simp[c]
def pz:SWO bN where
 irrefl x:=by rw[vm];simp[atf]
 trans x y z h1 h2:=by
  rw[vm,b_]at*
  exact List.lt_trans h1 h2
 ntrans x y z h1 h2:=by
  rw[vm,d_]at*
  exact λh=>(List.not_le.2 h) (List.le_trans (List.not_lt.1 h2) (List.not_lt.1 h1))
end Vg
namespace Vg
open Go
def ak6{β:Type}{c:Bool}{a b:β}(h:c=false):(if c=true then a else b)=b:=by rw[h];rfl
def Dr{α:Type}(o:Option α)(Q:α->Prop):Prop:=∃a,o=some a/\Q a
def bB{α:Type}{a:α}{Q:α->Prop}(h:Q a):Dr (some a) Q:=⟨a,rfl,h⟩
def drM{α:Type}{o:Option α}{P Q:α->Prop}(h:Dr o P)(b:∀a,P a->Q a):Dr o Q:=by
 obtain⟨a,e,h⟩:=h;exact⟨a,e,b a h⟩
def aV{α β:Type}{o:Option α}{f:α->Option β}{P:α->Prop}{Q:β->Prop}(h:Dr o P)(c:∀a,P a->Dr (f a) Q):Dr (Option.bind o f) Q:=by
 obtain⟨a,e,h⟩:=h;obtain⟨b,d,g⟩:=c a h;exact⟨b,by rw[e,atv,d],g⟩
def eA{α β:Type}{o:Option α}{a:α}{f:α->Option β}{Q:β->Prop}(e:o=some a)(b:Dr (f a) Q):Dr (Option.bind o f) Q:=by
 rw[e,atv];exact b
def bD{α:Type}{b:Bool}{o p:Option α}{Q:α->Prop}(a:b=true->Dr o Q)(c:b=false->Dr p Q):Dr (if b=true then o else p) Q:=by
 cases b;rw[a_ (by simp)];exact c rfl;rw[an rfl];exact a rfl
def ff{α:Type}{b:Bool}{o p:Option α}{Q:α->Prop}(a:b=true)(h:Dr o Q):Dr (if b=true then o else p) Q:=by rw[an a];exact h
def DE{σ ρ:Type}{a:(σ->Option ρ)->Option ρ}{b:σ->Option ρ}{Q:ρ->Prop}(P:σ->Prop)(c:∀s,P s->Dr (b s) Q)(h:∀J:σ->Option ρ,(∀s,P s->Dr (J s) Q)->Dr (a J) Q):Dr (aO a b) Q:=h b c
def y6{σ ρ:Type}{f:(σ->Option ρ)->σ->Option ρ}{Q:ρ->Prop}(m:σ->Nat)(I:σ->Prop)
 (h:∀G s,I s->(∀a,I a->m a<m s->Dr (G a) Q)->Dr (f G s) Q) {k:Nat} {s:σ} (b:I s) (c:m s<k):Dr (aM k f s) Q:=
 H0 m I Q h k s b c
def adI(a:Int):0<=bits (λ_=>(· &&& ·)) .i64 a (255:Int)/\bits (λ_=>(· &&& ·)) .i64 a (255:Int)<=255:=by
 have key:bits (λ_=>(· &&& ·)) .i64 a (255:Int)=((((BitVec.ofInt 64 a).toNat%256:Nat)):Int):=by
  change IntKind.i64.wrap (((BitVec.ofInt 64 a &&& BitVec.ofInt 64 (255:Int)).toNat:Nat):Int)=_;rw[BitVec.toNat_and];have b:(BitVec.ofInt 64 (255:Int)).toNat=2^8-1:=by decide
  rw[b,Nat.and_two_pow_sub_one_eq_mod,wrap64 (by omega) (by omega)]
 rw[key];omega
def aS(c:List Int×Int×Int):Prop:=c.1.length<=1048576/\0<=c.2.1/\c.2.1<=1048576
end Vg
