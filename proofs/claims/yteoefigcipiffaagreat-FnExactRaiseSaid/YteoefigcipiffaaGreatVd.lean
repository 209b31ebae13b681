/- VG, joined: an evaluator of the code over typed values, and its soundness, for any program. -/
import Derived.Test.YteoefigcipiffaaGreatVc
set_option linter.unusedSimpArgs false
set_option linter.unusedVariables false
namespace Vg
open Go Go.RowKit
abbrev dC:Ty:= .pair (.sl (.pair .str .str)) (.pair (.int .i64) (.pair (.int .i64) .str))
def s9 (x:List dC.den×Unit):Option (List dC.den×Unit):=
 if(decide (x.1.length<20)&&x.1.all fun a=>decide (a.1.length<4611686018427387904))=true then some (du x.1,())else none
theorem ND {α:Type} (lt:α→α→Bool):∀ {l:List α},l.length≤1→eO lt l=l
 | [],_=>rfl
 | [x],_=>rfl
 |_::_::_,h=>by simp at h
theorem Mt {α:Type} {p:α→Prop}:∀(L:List α),(∀x∈L,p x)→∃LA:List {x//p x},LA.map Subtype.val=L
 | [],_=>⟨[],rfl⟩
 |x::L,h=>by
  obtain⟨LA,e⟩:=Mt L (fun y hy=>h y (by simp[hy]))
  exact⟨⟨x,h x (by simp)⟩::LA,by rw[List.map_cons,e]⟩
theorem Sc {F c:Array Value} {off:Nat} (h:off+F.size≤c.size):((Go.Sort.putCells id off F c).toList.drop off).take F.size=F.toList:=by
 apply List.ext_getElem?
 intro t
 rw[List.getElem?_take]
 split
 ·rename_i ht
  rw[List.getElem?_drop,Array.getElem?_toList]
  unfold Go.Sort.putCells
  rw[Array.getElem?_mapIdx,Array.getElem?_eq_getElem (show off+t<c.size by omega)]
  rw[Option.map_some,if_pos ⟨by omega,by omega⟩,Array.getElem?_toList,Array.getElem?_eq_getElem ht,show off+t-off=t by omega,getElem!_pos F t ht]
  rfl
 ·rw[List.getElem?_eq_none]
  simp
  omega
theorem Sj (F c:Array Value) (off:Nat):(Go.Sort.putCells id off F c).size=c.size:=by simp[Go.Sort.putCells]
theorem Rp {w:World} {x:dC.den} {cs:List Value} {B:List Nat} (h:aR w dC x cs B):(∀v∈cs,v.oneCell'=true)∧
 ∃v B1,cs[0]?=some v∧(∀y∈B1,y∈B)∧dI w 2 (aR w (.pair .str .str)) x.1 v B1:=by
 obtain⟨c1,c2,B1,B2,rfl,rfl,⟨v,rfl,hv⟩,⟨d1,d2,C1,C2,rfl,rfl,⟨rfl,rfl⟩,⟨f1,f2,D1,D2,rfl,rfl,⟨rfl,rfl⟩,⟨rfl,rfl⟩⟩⟩⟩:=h
 refine⟨fun u hu=> ?_,v,B1,rfl,fun y hy=>List.mem_append_left _ hy,hv⟩
 simp only[List.singleton_append,List.mem_cons,List.not_mem_nil,or_false]at hu
 rcases hu with rfl|rfl|rfl|rfl
 ·exact hv.one
 ·rfl
 ·rfl
 ·rfl
theorem OG {P:Program} {f:FuncId} {fn:Func} (hf:P.funcs[f]?=some fn) (hname:(fn.name== "runtime.NumGoroutine")=false) (hb:fn.body.isSome=true)
 (tiny:∀(p:Option Addr) (n c:Nat),n≤1→∀w:World,Calls P f #[.slice p n c] w fun e w'=>e= .returned (.slice p n c)∧∃os,w'=Go.Sort.grow w os)
 (few:∀ {α:Type} [Inhabited α] (enc:α→List Value) (_:∀x,(enc x).length=4) (_:∀x,∀v∈enc x,v.oneCell'=true) (lab:α→List (ByteArray×ByteArray)) (blk off c:Nat) (d:Array α) (w:World)
  (_:2≤d.size) (_:d.size<20) (_:Go.Sort.HoldsK enc 4 w blk off d) (_:blk<w.heap.size) (_:Go.Proofs.JM enc lab blk w),
  Calls P f #[.slice (some ⟨blk,off,none⟩) d.size c] w fun e w'=>
   e= .returned (.slice (some ⟨blk,off,none⟩) d.size c)∧∃n os,w'=Go.Sort.grow (Go.Sort.putRowK enc 4 (Go.Sort.ahead w n) blk off (Go.Sort.insertionSort (fun x y=>bV (lab x) (lab y)) d 0 d.size)) os):
 oq P f ⟨[.val (.sl dC) .own],[.val (.sl dC) .own],s9,[]⟩:=by
 intro w G0 args x y hy hlot
 have hlen:args.length=1:=hlot.len
 obtain⟨v,rfl⟩:∃v,args=[v]:=by
  match args,hlen with
  | [a],_=>exact⟨a,rfl⟩
 obtain⟨l,u⟩:=x
 suffices H:∀(l:List dC.den) (y:List dC.den×Unit),s9 (l,())=some y→Cu w G0 (br [.val (.sl dC) .own] (l,()) 3).1 [v] 4→
  nu P f [v].toArray w (fun mv w'=>∃G' vs nt,sW ⟨[.val (.sl dC) .own],[.val (.sl dC) .own],s9,[]⟩ w G0 [v] y mv w' G' vs nt)from H l y hy hlot
 clear hy hlot u y hlen l
 intro l y hy hlot
 have s0:bI w G0 (.d ⟨.sl dC,l,.sl (.row 3 [3] true)⟩) v:=hlot.slots 0
 obtain⟨cs,e0,v',rfl,_,_,B,hB,hBo⟩:=s0
 have e0':v=v':=e0
 subst e0'
 have hB:dI w dC.sz (aR w dC) l v B:=hB
 have hBo':∀b Bs,B=b::Bs→G0.col b=3∧b∉Bs∧(∀x∈Bs,G0.col x=3)∧Bs.Nodup:=fun b Bs he=>by
  obtain⟨q1,q2,q3,q4⟩:=hBo b Bs he
  exact⟨q1,q2,fun x hx=>by simpa using q3 x hx,q4 rfl⟩
 unfold s9 at hy
 split at hy
 rotate_left
 ·cases hy
 rename_i hc
 simp only[Bool.and_eq_true,decide_eq_true_eq,List.all_eq_true]at hc
 obtain⟨h20,hll⟩:=hc
 have hy':=Option.some.inj hy
 subst hy'
 refine FB hf hname hb ?_
 have hshort:l.length≤1→∀os,∃G' vs nt,sW ⟨[.val (.sl dC) .own],[.val (.sl dC) .own],s9,[]⟩ w G0 [v] (du l,()) v (Go.Sort.grow w os) G' vs nt:=fun h1 os=>by
  have hs:∀b,b<w.heap.size→(Go.Sort.grow w os).heap[b]?=w.heap[b]?:=fun b h=>by
   show(w.heap++os)[b]?=_
   rw[Array.getElem?_append_left h]
  have e:du l=l:=ND _ h1
  rw[e]
  refine Cg (e:=dC) hlot hB hBo' (B':=B) (hB.mono (fun b hb=>hs b (dI.bounds hB b hb))) (fun b Bs he=>⟨Bs,he,List.Perm.refl _⟩) (fun b h _=>hs b h) (fun b Bs he=> ?_) ?_ rfl rfl rfl
  ·obtain⟨c,el,hc⟩:=hlot.fresh b (by rw[(hBo' b Bs he).1];exact Nat.le_refl _)
   exact⟨c,el,by rw[hs b (lt_of_block hc)];exact hc⟩
  ·show w.heap.size≤(w.heap++os).size
   rw[Array.size_append];omega
 by_cases h1:l.length≤1
 ·obtain⟨p,n,c,hv,hn⟩:∃p n c,v= .slice p n c∧n≤1:=by
   rcases hB with⟨⟨ao,e⟩,_,_⟩|⟨b,off,cap,c,el,fz,Bs,e,_⟩
   ·exact⟨ao,0,0,e,by omega⟩
   ·exact⟨_,_,_,e,h1⟩
  subst hv
  refine(tiny p n c hn w).mono ?_
  rintro e w' ⟨rfl,os,rfl⟩
  exact⟨_,rfl,hshort h1 os⟩
 have hB0:=hB
 rcases hB with⟨_,e,_⟩|⟨b,off,cap,c,el,fz,Bs,rfl,hcap,hbk,hsz,rfl,hl⟩
 ·exact absurd (by rw[e];simp) h1
 obtain⟨q1,q2,q3,q4⟩:=hBo' b Bs rfl
 have hfz:fz=(0,0):=by
  obtain⟨c',el',hc'⟩:=hlot.fresh b (by rw[q1];exact Nat.le_refl _)
  rw[hbk]at hc'
  simp only[Option.some.injEq,Obj.cells.injEq]at hc'
  exact hc'.2.2
 subst hfz
 obtain⟨L,hL,hlL,hcs,hBs⟩:=EW hl
 have hbnd:∀x∈Bs,x<w.heap.size:=fun x hx=>dI.bounds hB0 x (by simp[hx])
 have hLp:∀x∈L,aR w dC x.1 x.2.1 x.2.2∧b∉x.2.2∧x.1.1.length<4611686018427387904:=fun x hx=>by
  refine⟨hL x hx,fun hm=>q2 (by rw[hBs];exact List.mem_flatMap.2 ⟨x,hx,hm⟩),hll x.1 ?_⟩
  rw[hlL];exact List.mem_map.2 ⟨x,hx,rfl⟩
 obtain⟨LA,hLA⟩:=Mt L hLp
 have hlenL:LA.length=l.length:=by rw[hlL,←hLA];simp
 haveI:Inhabited {x:dC.den×List Value×List Nat//aR w dC x.1 x.2.1 x.2.2∧b∉x.2.2∧x.1.1.length<4611686018427387904}:=⟨LA.head (by intro e;rw[e]at hlenL;simp at hlenL;omega)⟩
 have hk4:∀x:{x:dC.den×List Value×List Nat//aR w dC x.1 x.2.1 x.2.2∧b∉x.2.2∧x.1.1.length<4611686018427387904},x.val.2.1.length=4:=fun x=>aR.len x.property.1
 have hflat:∀M:List {x:dC.den×List Value×List Nat//aR w dC x.1 x.2.1 x.2.2∧b∉x.2.2∧x.1.1.length<4611686018427387904},(M.map Subtype.val).flatMap (fun x=>x.2.1)=M.flatMap (fun x=>x.val.2.1):=fun M=>by
  rw[List.flatMap_map]
 have hcs2:LA.flatMap (fun x=>x.val.2.1)=(c.toList.drop off).take (l.length*4):=by
  rw[←hflat,hLA];exact hcs.symm
 have hH:Go.Sort.HoldsK (fun x:{x:dC.den×List Value×List Nat//aR w dC x.1 x.2.1 x.2.2∧b∉x.2.2∧x.1.1.length<4611686018427387904}=>x.val.2.1) 4 w b off LA.toArray:=by
  intro j hj
  refine⟨?_,rA hbk _⟩
  rw[Go.Sort.size_flatK]at hj
  have hj2:j<LA.length*4:=by simpa using hj
  rw[Go.Sort.get_flatK _ _ _ _ hj]
  have h2:=HP (enc:=fun x:{x:dC.den×List Value×List Nat//aR w dC x.1 x.2.1 x.2.2∧b∉x.2.2∧x.1.1.length<4611686018427387904}=>x.val.2.1) hk4 (by omega) LA j hj2
  rw[hcs2,List.getElem?_take,if_pos (by omega),List.getElem?_drop,Array.getElem?_toList]at h2
  unfold World.cell?
  simp only[hbk,Option.isSome_none,Bool.false_eq_true,if_false]
  rw[h2]
  simp
 have hlab:Go.Proofs.JM (fun x:{x:dC.den×List Value×List Nat//aR w dC x.1 x.2.1 x.2.2∧b∉x.2.2∧x.1.1.length<4611686018427387904}=>x.val.2.1) (fun x=>x.val.1.1) b w:=by
  rintro⟨⟨a,ac,aB⟩,ha,hbn,hal⟩
  obtain⟨_,v1,B1,hv1,hsub,hrep⟩:=Rp ha
  rcases hrep with⟨⟨ao,e1⟩,e2,_⟩|⟨b1,off1,cap1,c1,el1,fz1,Bs1,e1,hcap1,hbk1,hsz1,e2,hl1⟩
  ·have e2':a.1=[]:=e2
   refine⟨ao,0,?_,hal,fun i hi=> ?_⟩
   ·show ac[0]?=some (.slice ao a.1.length 0)
    rw[hv1,e1,e2'];rfl
   ·change i<a.1.length at hi
    rw[e2']at hi;simp at hi
  ·refine⟨some ⟨b1,off1,none⟩,cap1,?_,hal,fun i hi=> ?_⟩
   ·show ac[0]?=some (.slice (some ⟨b1,off1,none⟩) a.1.length cap1)
    rw[hv1,e1]
   ·change i<a.1.length at hi
    obtain⟨_,hq⟩:=N3 hl1
    obtain⟨r1,r2⟩:=hq i hi
    refine⟨b1,off1,rfl,fun e=>hbn (hsub b (by rw[e2,e];simp)),lt_of_block hbk1,?_,?_⟩
    ·unfold World.cell?
     simp only[hbk1,Option.isSome_none,Bool.false_eq_true,if_false]
     rw[List.getElem?_take,if_pos (by show i*2<a.1.length*2;omega),List.getElem?_drop,Array.getElem?_toList]at r1
     exact r1
    ·unfold World.cell?
     simp only[hbk1,Option.isSome_none,Bool.false_eq_true,if_false]
     rw[List.getElem?_take,if_pos (by show i*2+1<a.1.length*2;omega),List.getElem?_drop,Array.getElem?_toList]at r2
     exact r2
 have hcall:=few (fun x:{x:dC.den×List Value×List Nat//aR w dC x.1 x.2.1 x.2.2∧b∉x.2.2∧x.1.1.length<4611686018427387904}=>x.val.2.1) hk4 (fun x=>(Rp x.property.1).1) (fun x=>x.val.1.1) b off cap LA.toArray w
  (by simp;omega) (by simp;omega) hH (lt_of_block hbk) hlab
 rw[SG _ LA (by omega)]at hcall
 have hsz2:LA.toArray.size=l.length:=by simpa using hlenL
 rw[hsz2]at hcall
 refine hcall.mono ?_
 rintro e w' ⟨rfl,n,os,hw⟩
 refine⟨_,rfl,?_⟩
 have hblk:b<w.heap.size:=lt_of_block hbk
 generalize hLS:eO (fun x y:{x:dC.den×List Value×List Nat//aR w dC x.1 x.2.1 x.2.2∧b∉x.2.2∧x.1.1.length<4611686018427387904}=>bV x.val.1.1 y.val.1.1) LA=LS at hw
 have hperm:LS.Perm LA:=by rw[←hLS];exact Cs _ _
 have hheap:∀k,k<w.heap.size→k≠b→w'.heap[k]?=w.heap[k]?:=fun k hk hne=>by
  rw[hw]
  show((w.heap.modify b _)++os)[k]?=_
  rw[Array.getElem?_append_left (by rw[Array.size_modify];exact hk),Array.getElem?_modify,if_neg (fun h=>hne h.symm)]
 have hrow:w'.heap[b]?=some (.cells (Go.Sort.putCells id off (Go.Sort.flatK (fun x:{x:dC.den×List Value×List Nat//aR w dC x.1 x.2.1 x.2.2∧b∉x.2.2∧x.1.1.length<4611686018427387904}=>x.val.2.1) 4 LS.toArray) c) el (0,0)):=by
  rw[hw]
  show((w.heap.modify b _)++os)[b]?=_
  rw[Array.getElem?_append_left (by rw[Array.size_modify];exact hblk),Array.getElem?_modify,if_pos rfl,hbk]
  rfl
 have hLSlen:LS.length=l.length:=by rw[hperm.length_eq,hlenL]
 have hFs:(Go.Sort.flatK (fun x:{x:dC.den×List Value×List Nat//aR w dC x.1 x.2.1 x.2.2∧b∉x.2.2∧x.1.1.length<4611686018427387904}=>x.val.2.1) 4 LS.toArray).size=l.length*4:=by
  rw[Go.Sort.size_flatK];simp[hLSlen]
 have hsz4:off+cap*4≤c.size:=hsz
 have hsortl:du l=(LS.map Subtype.val).map (·.1):=by
  rw[hlL,←hLA,←hLS,List.map_map,List.map_map]
  unfold du
  exact(Qa (lt:=fun x y:{x:dC.den×List Value×List Nat//aR w dC x.1 x.2.1 x.2.2∧b∉x.2.2∧x.1.1.length<4611686018427387904}=>bV x.val.1.1 y.val.1.1) (lt':=cO) ((·.1)∘Subtype.val) (fun _ _=>rfl) LA).symm
 have hpermB:((LS.map Subtype.val).flatMap (·.2.2)).Perm Bs:=by
  rw[hBs,←hLA]
  exact List.Perm.flatMap_right _ (hperm.map _)
 have hB':dI w' dC.sz (aR w' dC) (du l) (.slice (some ⟨b,off,none⟩) l.length cap) (b::(LS.map Subtype.val).flatMap (·.2.2)):=by
  have hll':(du l).length=l.length:=by rw[hsortl];simp[hLSlen]
  refine .inr ⟨b,off,cap,_,el,(0,0),_,by rw[hll'],by rw[hll'];exact hcap,hrow,by rw[Sj];exact hsz,rfl,?_⟩
  have:=Fj (R:=aR w' dC) (LS.map Subtype.val) (fun x hx=>by
   obtain⟨z,hz,rfl⟩:=List.mem_map.1 hx
   refine aR.mono (fun k hk=> ?_) z.property.1
   refine hheap k (aR.bounds z.property.1 k hk) (fun e=>z.property.2.1 (e▸hk)))
  rw[hll',hsortl]
  have e2:((Go.Sort.putCells id off (Go.Sort.flatK (fun x:{x:dC.den×List Value×List Nat//aR w dC x.1 x.2.1 x.2.2∧b∉x.2.2∧x.1.1.length<4611686018427387904}=>x.val.2.1) 4 LS.toArray) c).toList.drop off).take (l.length*dC.sz)=(LS.map Subtype.val).flatMap (fun x=>x.2.1):=by
   have hp:=Sc (F:=Go.Sort.flatK (fun x:{x:dC.den×List Value×List Nat//aR w dC x.1 x.2.1 x.2.2∧b∉x.2.2∧x.1.1.length<4611686018427387904}=>x.val.2.1) 4 LS.toArray) (c:=c) (off:=off) (by rw[hFs];omega)
   rw[hFs]at hp
   rw[hflat,←Qs hk4 (by omega) LS]
   exact hp
  rw[e2]
  exact this
 refine Cg (e:=dC) hlot hB0 hBo' hB' (fun b2 Bs2 he=> ?_) (fun k hk hne=>hheap k hk (fun e=>hne Bs (by rw[e]))) (fun b2 Bs2 he=> ?_) ?_ ?_ ?_ ?_
 ·obtain⟨rfl,rfl⟩:=List.cons.inj he
  exact⟨Bs,rfl,hpermB⟩
 ·obtain⟨rfl,rfl⟩:=List.cons.inj he
  exact⟨_,_,hrow⟩
 ·rw[hw]
  show w.heap.size≤((w.heap.modify b _)++os).size
  rw[Array.size_append,Array.size_modify];omega
 ·rw[hw];rfl
 ·rw[hw];rfl
 ·rw[hw];rfl
end Vg
namespace Vg
open Go
def bp:Int:=2147483648
def pF (τ:Ty) (mk:τ.den→Int→Option (Int×τ.den)) (hd:τ.den×Int×Unit→Option (Int×Unit)):Prop:=
 ∀(x:τ.den) (n:Int),1≤n→n+20*(ag τ x:Int)≤bp→∃n' x',mk x n=some (n',x')∧n≤n'∧n'≤n+20*(ag τ x:Int)∧hd (x',n,())=some (n',())
theorem TU {α:Type} (d r:List α) (x y:α):(d++x::r).set d.length y=d++y::r:=by
 simp
theorem au {α:Type} (d r:List α) (x z:α):(d++x::r).getD d.length z=x:=by
 simp
theorem Sm {α β:Type} {d r:List α} {x v:α} {K:List α→β}:bS ((d++x::r).set d.length v) K=K (d++v::r):=by
 unfold bS;rw[TU]
theorem Ur {α:Type} (d r:List α) (x:α):decide ((0:Int)≤((d.length:Nat):Int)∧((d.length:Nat):Int)<(((d++x::r).length:Nat):Int))=true:=by
 simp;omega
theorem aI {α β:Type} {d r:List α} {x:α} {a b:β}:(if decide ((0:Int)≤((d.length:Nat):Int)∧((d.length:Nat):Int)<(((d++x::r).length:Nat):Int))=true then a else b)=a:=if_pos (Ur d r x)
theorem bX {α β:Type} {d r:List α} {x:α} {a b:β}:(if decide (((d.length:Nat):Int)<(((d++x::r).length:Nat):Int))=true then a else b)=a:=if_pos (by simp;omega)
theorem cz {i:Nat} (h:i≤1073741824):IntKind.i64.wrap ((i:Int)+1)=((i+1:Nat):Int):=by
 rw[wrap64 (by omega) (by omega)];rfl
theorem aQ {α β:Type} {d r:List α} {x v y:α} {K:List α→β} (h:v=y):bS ((d++x::r).set d.length v) K=K (d++y::r):=by
 rw[h,Sm]
theorem bu {β:Type} {c:Bool} {a b:β} (h:c=false):(if c=true then a else b)=b:=by rw[h];rfl
theorem cC {a b:Int} (h:a=b):(a != b)=false:=by simp[h]
theorem vl {a b:ByteArray} (h:a=b):(!(a.toList==b.toList))=false:=by simp[h]
theorem Tw {a b:Bool} (h:a=b):(!(a==b))=false:=by simp[h]
theorem bind_eq {α β:Type} {o:Option α} {r:α} (h:o=some r) (f:α→Option β):Option.bind o f=f r:=by rw[h];rfl
def Rl (e:Ty) (fM:(List e.den×Int×Int×Unit→Option (Int×List e.den))→List e.den×Int×Int×Unit→Option (Int×List e.den))
    (fH:(List e.den×Int×Int×Unit→Option (Int×Unit))→List e.den×Int×Int×Unit→Option (Int×Unit)):Prop:=
 ∀(x:e.den) (n:Int),1≤n→n+20*((1+ag e x:Nat):Int)≤bp→∃n' x',n≤n'∧n'≤n+20*((1+ag e x:Nat):Int)∧
  (∀G (d r:List e.den),d.length≤1073741824→fM G (d++x::r,n,(d.length:Int),())=G (d++x'::r,n',((d.length+1:Nat):Int),()))∧
  (∀G (d r:List e.den),d.length≤1073741824→fH G (d++x'::r,n,(d.length:Int),())=G (d++x'::r,n',((d.length+1:Nat):Int),()))
theorem Kx {e:Ty} {fM:(List e.den×Int×Int×Unit→Option (Int×List e.den))→List e.den×Int×Int×Unit→Option (Int×List e.den)}
 {fH:(List e.den×Int×Int×Unit→Option (Int×Unit))→List e.den×Int×Int×Unit→Option (Int×Unit)}
 (endM:∀G (l:List e.den) (n:Int) (i:Nat),l.length≤i→fM G (l,n,(i:Int),())=some (n,l))
 (endH:∀G (l:List e.den) (n:Int) (i:Nat),l.length≤i→fH G (l,n,(i:Int),())=some (n,()))
 (step:Rl e fM fH):∀(r d:List e.den) (n:Int) (kM kH:Nat),r.length<kM→r.length<kH→(d++r).length≤1073741824→1≤n→n+20*(ag (.sl e) r:Int)≤bp→
  ∃n' r',r'.length=r.length∧az kM fM (d++r,n,(d.length:Int),())=some (n',d++r')∧n≤n'∧n'≤n+20*(ag (.sl e) r:Int)∧
   ∀d':List e.den,d'.length=d.length→az kH fH (d'++r',n,(d'.length:Int),())=some (n',())
 | [],d,n,0,_,h1,_,_,_,_=>by simp at h1
 | [],d,n,_+1,0,_,h2,_,_,_=>by simp at h2
 | [],d,n,kM+1,kH+1,_,_,_,_,hb=>by
   refine⟨n,[],rfl,endM _ _ _ _ (by simp),Int.le_refl _,by simp[ag],fun d' hd=> ?_⟩
   exact endH _ _ _ _ (by simp)
 |x::r,d,n,0,_,h1,_,_,_,_=>by simp at h1
 |x::r,d,n,_+1,0,_,h2,_,_,_=>by simp at h2
 |x::r,d,n,kM+1,kH+1,h1,h2,hl,hn,hb=>by
  have ht:ag (.sl e) (x::r)=(1+ag e x)+ag (.sl e) r:=by simp only[ag,List.length_cons,List.map_cons,List.sum_cons];omega
  rw[ht]at hb
  obtain⟨n1,x',a1,a2,a3,a4⟩:=step x n hn (by omega)
  simp only[List.length_cons]at h1 h2
  have hlen:d.length≤1073741824:=by simp at hl;omega
  obtain⟨n',r',b0,b1,b2,b3,b4⟩:=Kx endM endH step r (d++[x']) n1 kM kH (by omega) (by omega) (by simp at hl⊢;omega) (by omega) (by omega)
  refine⟨n',x'::r',by simp[b0],?_,by omega,by rw[ht];omega,fun d' hd=> ?_⟩
  ·show fM (az kM fM) (d++x::r,n,(d.length:Int),())=_
   rw[a3 _ _ _ hlen]
   have:=b1
   simp only[List.append_assoc,List.cons_append,List.nil_append,List.length_append,List.length_cons,List.length_nil]at this
   exact this
  ·show fH (az kH fH) (d'++x'::r',n,(d'.length:Int),())=_
   rw[a4 _ _ _ (by omega)]
   have:=b4 (d'++[x']) (by simp[hd])
   simp only[List.append_assoc,List.cons_append,List.nil_append,List.length_append,List.length_cons,List.length_nil]at this
   exact this
theorem fu {e:Ty} {k:Nat} (hk:9223372036854775808≤k) {fM:(List e.den×Int×Int×Unit→Option (Int×List e.den))→List e.den×Int×Int×Unit→Option (Int×List e.den)}
 {fH:(List e.den×Int×Int×Unit→Option (Int×Unit))→List e.den×Int×Int×Unit→Option (Int×Unit)}
 (endM:∀G (l:List e.den) (n:Int) (i:Nat),l.length≤i→fM G (l,n,(i:Int),())=some (n,l))
 (endH:∀G (l:List e.den) (n:Int) (i:Nat),l.length≤i→fH G (l,n,(i:Int),())=some (n,()))
 (step:Rl e fM fH):pF (.sl e) (fun l n=>az k fM (l,n,(0:Int),())) (fun z=>az k fH (z.1,z.2.1,(0:Int),())):=by
 intro l n hn hb
 have hl:l.length≤1073741824:=by
  have:=aA (e:=e) (l:=l)
  unfold bp at hb
  omega
 obtain⟨n',l',_,h1,h2,h3,h4⟩:=Kx endM endH step l [] n k k (by omega) (by omega) (by simpa using hl) hn hb
 exact⟨n',l',h1,h2,h3,h4 [] rfl⟩
theorem Np {k:Nat} (hk:9223372036854775808≤k) {f:(Int×ByteArray×Unit→Option (ByteArray×Unit))→Int×ByteArray×Unit→Option (ByteArray×Unit)}
 (hend:∀G (n:Int) (s:ByteArray),n≤0→s.size≤2147483649→∃r,f G (n,s,())=some r)
 (hstep:∀G (n:Int) (s:ByteArray),0<n→n≤bp→s.size≤2147483648→∃s',f G (n,s,())=G (n.tdiv 10,s',())∧s'.size=s.size+1) (n:Int) (h:n≤bp):
 ∃r,az k f (n,ByteArray.empty,())=some r:=by
 have:=zQ (f:=f) (fun s=>s.1.toNat) (fun s=>s.1≤bp∧(s.2.1.size:Int)+s.1.toNat≤bp+1) (fun _=>True) (fun G s hs ih=>by
  obtain⟨m,t,u⟩:=s
  simp only at hs ih⊢
  unfold bp at hs
  by_cases h0:m≤0
  ·obtain⟨r,hr⟩:=hend G m t h0 (by omega)
   exact⟨r,hr,trivial⟩
  ·obtain⟨s',h1,h2⟩:=hstep G m t (by omega) (by unfold bp;omega) (by omega)
   have hd:m.tdiv 10<m∧0≤m.tdiv 10:=by
    rw[Int.tdiv_eq_ediv_of_nonneg (by omega)];omega
   obtain⟨r,hr,_⟩:=ih (m.tdiv 10,s',()) ⟨by unfold bp;omega,by simp only;unfold bp;omega⟩ (by simp only;omega)
   exact⟨r,h1.trans hr,trivial⟩) k (n,ByteArray.empty,()) ⟨h,by
    have e:ByteArray.empty.size=0:=rfl
    simp only[e];unfold bp at h⊢;omega⟩ (by simp only;unfold bp at h;omega)
 obtain⟨r,hr,_⟩:=this
 exact⟨r,hr⟩
theorem U1:(decide ((3:Int)≠0))=true:=rfl
end Vg
