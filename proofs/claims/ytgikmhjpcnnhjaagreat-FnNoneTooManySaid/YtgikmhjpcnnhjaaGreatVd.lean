/- VG, joined: an evaluator of the code over typed values, and its soundness, for any program. -/
import Derived.Test.YtgikmhjpcnnhjaaGreatVc
import Derived.KernelRfl
import Derived.Test.YtgikmhjpcnnhjaaGreatVa
import Derived.Lib.Join
import Derived.Below
import Derived.Shelf.GgSortMore.Stable
import Derived.Shelf.SlSortFuncK.WholeK
import Derived.Lib.SlicesSearch
import Derived.Deep.LoopGhost
set_option linter.unusedSimpArgs false
set_option linter.unusedVariables false
set_option linter.unusedSectionVars false
open Nat renaming le_refl -> l5,lt_or_ge -> H_,one_mul -> agS,add_mul -> ahv,mul_le_mul_right -> ahB,lt_of_lt_of_le -> ahG,add_sub_cancel -> ahJ,mul_one -> ahN,zero_le -> ahO
open Bool renaming and_eq_true -> t_,false_eq_true -> N',not_eq_true' -> agT,eq_iff_iff -> ahq,not_eq_false' -> ahK
open Option.some renaming injEq -> C_,inj -> ahU
open List renaming length -> x_,mem_singleton -> O_,filter_append -> agw,getD_eq_getElem?_getD -> agy,getElem?_take -> agA,getElem?_drop -> agB,mem_of_getElem? -> agC,append_assoc -> agD,flatMap_cons -> agE,mem_cons -> agF,length_cons -> agG,nil_append -> agH,lookup -> agK,replicate -> agM,getElem?_eq_getElem -> agN,range'_succ -> agO,map_cons -> agQ,length_append -> agR,drop_drop -> agU,singleton_append -> agV,cons_append -> agX,all_eq_true -> agY,getElem_range' -> ag0,mem_append -> ag1,head?_drop -> ag2,mem_cons_self -> ag3,filter_cons_of_pos -> ag4,take_of_length_le -> ag6,drop_eq_nil_of_le -> ag7,take_succ_eq_append_getElem -> ag8,getElem?_eq_none -> ag9,mem_cons_of_mem -> aha,map_map -> ahb,getD_cons_succ -> ahd,sum_cons -> ahh,getElem?_append_right -> ahi,mem_range'_1 -> ahk,drop_eq_getElem_cons -> ahl,getElem?_append_left -> ahm,length_drop -> ahn,mem_map -> aho,pairwise_singleton -> ahp,getD -> ahr,map_append -> ahs,foldl_cons -> aht,append_nil -> ahu,range' -> ahw,append_eq_nil_iff -> ahx,reverse_singleton -> ahy,filter_eq_nil_iff -> ahz,lt_irrefl -> ahA,head? -> ahC,reverse_append -> ahE,map_congr_left -> ahF,pairwise_cons -> ahH,length_range' -> ahI,ext_getElem? -> ahM,filter_cons -> ahP,getElem_map -> ahQ,forIn_cons -> ahS,mem_filter -> ahV,take_left -> ahW,drop_left -> ahX,mem_range -> ahY
open Array renaming getElem?_toList -> V',getElem?_append_left -> agv,size_modify -> agI,getElem?_eq_getElem -> agJ,length_toList -> agP,getElem?_modify -> agW,size_append -> ag5,eq_empty_of_size_eq_zero -> ahc,getD_eq_getD_getElem? -> ahf,toList_extract -> ahD,ext' -> ahR,replicate -> ahT
open Option renaming bind_eq_some_iff -> agu,isSome_none -> agz,bind_some -> agZ,bind -> ahe
open Subtype renaming val -> agL
open Int renaming toNat -> ahg,toNat_natCast -> ahL
open List.cons renaming inj -> ahj
namespace Vg
open Go
section
variable{P:Program}{C:Cx}{M:qy}{g:Option (Nat×Bool)}{w0:World}{c0:C0}{U:Nat->Prop}{E:Env}{a:Act}{w:World}{G:Gh}{ops:List Oper}{L:Nat->Prop}{Q:Exit->Act->World->Prop}{ρ:Type}
theorem Xy(hC:CxTy P C)(S:Inv w0 c0 U E a w G)(hR:RI ops E a.tmps)(hg:Gd ops a.tmps g){tk:Nat}{o:Oper}{t:TypeId}{x y:Operand}
 {gv:List Nat} {b:Nat} {e:Ty} {l':List e.den} {m:Vg.M} (ho:o.op= .store t x y) (a6:gv≠ []) (h0:jk C ops E.rd tk g o=some (.elem gv b e l' m)):
 ∃w' G',(execOp a.eval o).run P w= .ok .skip w'/\Inv w0 c0 U (E.EF gv b e l') a w' G':=by
 have h:=Wb h0;simp only[bj,ho]at h;split at h;split at h;split at h;obtain⟨r,_,h⟩:=Option.map_eq_some_iff.mp h;cases h;cases h;cases h;rename_i ti f d i off p τ1 v1 b7 aB hv;split at h;rename_i l hs nd a1;obtain⟨hc,h⟩:=Option.ite_none_right_eq_some.mp h;obtain⟨cd,h⟩:=Option.ite_none_left_eq_some.mp h;obtain⟨r,hr,h⟩:=Option.map_eq_some_iff.mp h;simp only[Ef.elem.injEq]at h;obtain⟨b2,rfl,rfl,V,hm⟩:=h;have V:=eq_of_heq V;subst V;simp only[t_,b_]at hc;obtain⟨⟨⟨cf,hc2⟩,cg⟩,W⟩:=hc;obtain⟨h1,_⟩:=fK S hR hg aB;obtain⟨u,of,n,cap,A,k2,k3,k4,k5⟩:=h1;obtain⟨⟨vh,b3⟩,j⟩:=S.eB a1;obtain⟨⟨D,ch,X⟩,cl,Y⟩:=jD S hR hg hv;have a7:vh=G.hdr f:=b3.2.1.symm;have I:=cd;simp only[Bool.not_eq_true]at I;obtain⟨q1,q2,q3,B,Bv,Z,ad,hB,cp,ct,b4⟩:=QE (τ:=τ1) (gv:=gv) (m:=m) b3 j X cl Y cg _ rfl b2.symm hm.symm I;rw[a7,k2]at hB;rcases hB with⟨⟨ao,hB⟩,_⟩|⟨bk',of',cap',c,el,fz,Bs,O,R,q,hsz,rfl,hl⟩;cases hB;exfalso;have k4':i<((0:Nat):Int):=k4;have k3': @LE.le Int Int.instLEInt 0 i:=k3;omega;simp only[Value.slice.injEq,C_,Addr.mk.injEq,and_true]at O;obtain⟨⟨rfl,rfl⟩,rfl,rfl⟩:=O;obtain⟨j1,j2,j3,j4⟩:=b4 u Bs rfl;obtain⟨c',b5,av⟩:=S.fresh u (by rw[j1];exact A);rw[av]at q;simp only[C_,Obj.cells.injEq]at q;obtain⟨rfl,rfl,rfl⟩:=q;have hi:i.toNat<l.length:=toNat_lt k3 k4
 have a8:l[i.toNat]?=some (l.getD i.toNat d.aa):=by
  rw[agy,agN hi];rfl
 obtain⟨B1,Bx,B2,rfl,cy,cz,cL⟩:=aN.get (sz:=d.sz) (fun x c B h=>aK.len h) hl a8;obtain⟨Ba,Bo,Bb,rfl,b6,hle⟩:=aK.put hr cy cp;have ba:=aN.set (sz:=d.sz) hi b6 cz cL;have bb:D.length=v1.τ.sz:=bh.len X;have hmul:(i.toNat+1)*d.sz<=l.length*d.sz:=ahB _ hi;have hmul2:l.length*d.sz<=cap*d.sz:=ahB _ R;rw[ahv,agS]at hmul;have hO:of+i.toNat*d.sz+off+D.length<=c'.size:=by rw[<-cf];omega
 have z:=gG u (el:=b5) D (of+i.toNat*d.sz+off) w c' av hO;have hT:=(hC.tt t ti b7).1;have bl:=tF (P:=P) (t:=t) (τ:=ti.τ) hT av (o:=of+i.toNat*d.sz+off) (cs:=D) (by rw[<-W,<-bb];exact hO) (by rw[bb,W]) (bh.one X) k5;have hU:U f:=(j f (by simp)).2.1;have bs:G.bx f=false:=(j f (by simp)).2.2;have b9:=S.map (Ay (w:=w) f) S.colU (fun b=>⟨fun h=>h,fun _=>rfl,fun _=>rfl⟩);have J:G.col u=f:=j1
 have F:∀k,G.col k≠f->(w.setCells u (of+i.toNat*d.sz+off) D).heap[k]?=w.heap[k]?:=fun k hk=>
  bQ u _ _ w k (fun e=>hk (e▸J))
 have K:=j4 (B1++(Ba++Bv++Bb)++B2) ⟨B1++Ba,Bo,Bb++B2,by simp[agD],by simp[agD]⟩
 have N:u∉B1++(Ba++Bv++Bb)++B2:=by
  simp only[ag1,not_or]at j2|-;exact⟨⟨j2.1.1,⟨j2.1.2.1.1,j3⟩,j2.1.2.2⟩,j2.2⟩
 have ca:Z=[f]/\ad=true:=by
  have key:∀(own:Option (List Nat)) (mm:Vg.M),own.getD []=gv->(if own.isSome=true then(Vg.M.row f [f] true)else mm)= .row f Z ad->Z=[f]/\ad=true:=by
   intro own mm h1 h2;cases own with
   |none=>exact absurd h1.symm a6
   |some ts=>
    simp only[Option.isSome_some,if_true,Vg.M.row.injEq,true_and]at h2;exact⟨h2.1.symm,h2.2.symm⟩
  exact key _ _ b2 (hm.trans ct)
 obtain⟨rfl,rfl⟩:=ca
 have b0:bV (w.setCells u (of+i.toNat*d.sz+off) D) G d (l.set i.toNat r.1) (G.hdr f) (.row f (f::gv) true):=by
  refine⟨A,rfl,u::(B1++(Ba++Bv++Bb)++B2),?_,?_⟩;refine .inr ⟨u,of,cap,_,b5,(0,0),B1++(Ba++Bv++Bb)++B2,by simp[k2],by simpa using R,z,by simp;omega,rfl,?_⟩
  have H:((df (of+i.toNat*d.sz+off) D c'.toList).drop of).take ((l.set i.toNat r.1).length*d.sz)=
   ((c'.toList.drop of).take (l.length*d.sz)).take (i.toNat*d.sz)++df (d.off p) D ((((c'.toList.drop of).take (l.length*d.sz)).drop (i.toNat*d.sz)).take d.sz)++((c'.toList.drop of).take (l.length*d.sz)).drop ((i.toNat+1)*d.sz):=by
   rw[yk (by omega) (by simp;omega),xX (by simp;omega) (by simp;omega)];rw[show of+i.toNat*d.sz+off-of=i.toNat*d.sz+d.off p by omega];rw[tv (sz:=d.sz) hle];rw[ahv,agS];simp
  show aN _ _ (((df (of+i.toNat*d.sz+off) D c'.toList).toArray.toList.drop of).take _) _;rw[List.toList_toArray,H];exact aN.world (fun k hk=>bQ u _ _ w k (fun e=>N (e▸hk))) ba;rintro h' Bs'' ⟨⟩;refine⟨J,N,fun x hx=> ?_,K.2⟩;have:=K.1 x hx;split at this;rename_i b8;exact aha _ b8;simp only[O_]at this;rw[this];simp
 have cb:=b9.setRow b0 bs A F (fun s=> ?_) (fun c hc=> ?_) (fun k hk=> ?_) (by rw[fh]) (cq _ _ _ w).1 (cq _ _ _ w).2.1 (cq _ _ _ w).2.2;have cc:=cb.TL (ts:=gv) (t:=f) (v:=G.hdr f) A q1 hU rfl bs;refine⟨w.setCells u (of+i.toNat*d.sz+off) D,G.aO gv f (G.hdr f),?_,?_⟩;simp only[execOp,ho,ch,W];simp[bl];simpa only[Env.EF,ahb,Function.comp_def,SV.bJ,SV.aO]using cc;have:=getD_map (L:=E.s) (T:=SV.bJ f) rfl s;show SV.clear f ((List.map (SV.bJ f) E.s).getD s .no);rw[this];exact SV.eM f _;simp only[M.ar,agF]at hc;rcases hc with rfl|rfl|hc;exact j _ (by simp);exact j _ (by simp);exact(q1 c hc).2;by_cases e:k=u;subst e;exact⟨_,_,z⟩;rw[bQ u _ _ w k e];exact S.fresh k (by rw[hk];exact A);cases h;cases h
theorem P7{c:Call}{s j:Nat}(h:c.args.toList=[.tmp s,.tmp j])(a:Act):c.args.map a.eval= #[a.tmps.getD s undef,a.tmps.getD j undef]:=by
 have:c.args= #[.tmp s,.tmp j]:=ahR (by simpa using h);rw[this];simp[Act.eval]
theorem vO(d:Nat)(v:Value)(h:d<a.tmps.size):(a.put (some d) v).tmps.getD d undef=v:=by
 simp[Act.put,ahf,h]
theorem YH(hC:mR P C){i:Nat}{o:Oper}(V:ops[i]?=some o)(W:Inv w0 c0 U E a w G)(X:mr ops L E a.tmps)(Z:∀j w',o.guard=some (j,w')->L j)(I:¬L i)(J:gk ops=true)
 {tk:Nat} (h3:4<=tk) (hU:∀u,tk<=u->u<tk+32->¬U u) {act:Option Bool} {ef:Ef} (B:guardOf ops E.rd o.guard=some act) (F:jk C ops E.rd tk o.guard o=some ef)
 {k:Env->Option ρ} {r:ρ} (n:GU o act E k ef=some r) {K:Act->World->Prop}
 (hK:∀E' R w' G',k E'=some r->E'.s.length=E.s.length->Inv w0 c0 (fun u=>U u\/(tk<=u/\u<tk+32)) E' R w' G'->mr ops (fun j=>L j\/j=i) E' R.tmps->(∃v,R=a.put o.dst v)->K R w'):wpOp P ops.toArray Q i K a w:=by
 have ao:=W.mono (U':=fun u=>U u\/(tk<=u/\u<tk+32)) (fun u hu=> .inl hu)
 have av:mw o act E k ef=some r->wpOp P ops.toArray Q i K a w:=by
  intro n;rw[Ff,DZ,agu]at n;obtain⟨E',d,hk⟩:=n
  have hlen:E'.s.length=E.s.length:=by
   cases ef with
   |val v=>simp only[bc,C_]at d;subst d;exact dM ..
   |chk c v=>
    simp only[bc]at d;split at d;split at d;simp only[C_]at d;subst d;exact dM ..;cases d;split at d;simp only[C_]at d;subst d;exact dM ..;cases d
   |opt α z x f=>
    simp only[bc,agu,C_]at d;obtain⟨y,_,d⟩:=d;subst d;exact dM ..
   |put b s v=>
    simp only[bc]at d;split at d;simp only[C_]at d;subst d;simp;cases d
   |app c kl S t v=>
    simp only[bc]at d;split at d;split at d;simp only[C_]at d;subst d;rw[dM,QB,Pn];cases d;cases d
   |elem S b e l m=>
    simp only[bc]at d;split at d;simp only[C_]at d;subst d;simp[Env.elem];cases d
   |nap c S b e l m v=>
    simp only[bc]at d;split at d;split at d;simp only[C_]at d;subst d;rw[dM];simp[Env.elem];cases d;cases d
   |call α x H f rp=>
    simp only[bc]at d;split at d;simp only[agu,C_]at d;obtain⟨y,_,d⟩:=d;subst d;rw[dM,mb,tV];cases d
  exact Ma hC V W X Z I J h3 hU B F d (fun R w' G' g1 g2 g3=>hK E' R w' G' hk hlen g1 g2 g3)
 unfold GU at n;split at n
 rename_i α x H f rp b;cases q:o.guard with
 |none=>rw[q]at B;simp[guardOf]at B
 |some p=>
  obtain⟨j,w'⟩:=p;rw[q]at B F;obtain⟨b',N,hb⟩:=AZ W B;cases N;have hj:=Z j w' q;cases b with
  |true=>
   simp only[if_true,agu]at n;obtain⟨y,hy,hk⟩:=n;have D:=hb.1 rfl;have A:Region.wanted o (yielded ops.toArray a.tmps)=true:=by simp[Region.wanted,q,D]
   have hS:=Lo hC W X.ri (g:=some (j,w')) (by rintro j1 Y ⟨⟩;exact D) h3 hU F;refine dh V A ?_;refine oA (hS y hy) (fun mv Y ⟨G',g1,g2,g3,g4⟩=> ?_);obtain⟨k1,O,k3⟩:=S3 (j:=j) (w':=w') g2 g3;rw[q]at hk;refine hK _ _ _ G' hk (by rw[dM,mb,tV]) ?_ ?_ ⟨_,rfl⟩;exact g1.put o.dst k1 O.1 O.2.1 O.2.2 (fun t u e=>absurd e (k3 t u));refine mr.put (E:={E.cm H (rp y)with s:=bK (f y).2 (E.cm H (rp y)).s}) (X.map (fun s j w' act u h=>Sr (IX h))) V J I Z (fun j1 Y act v e=> ?_);unfold dO at e;simp only at e;split at e;cases e;simp only[SV.g.injEq]at e;obtain⟨rfl,rfl,rfl,_⟩:=e;exact⟨⟨fun _=>D,fun _=>rfl⟩,q⟩
  |false=>
   simp only[N',if_false]at n;have D:yielded ops.toArray a.tmps j≠some w':=fun h=>by have:=hb.2 h;cases this
   have A:Region.wanted o (yielded ops.toArray a.tmps)=false:=by
    simp only[Region.wanted,q];simpa using D
   obtain⟨k1,O,k3⟩:=Sz (w:=w) (G:=G) (U:=fun u=>U u\/(tk<=u/\u<tk+32)) (v:=vB false) (j:=j) (w':=w');rw[q]at n;unfold wpOp;simp only[List.getElem?_toArray,V,A,N',if_false];refine hK _ _ _ G n (dM ..) ?_ ?_ ⟨_,rfl⟩;exact ao.put o.dst k1 O.1 O.2.1 O.2.2 (fun t u e=>absurd e (k3 t u));refine X.put V J I Z (fun j1 Y act v e=> ?_);unfold dO at e;simp only at e;split at e;cases e;simp only[SV.g.injEq]at e;obtain⟨rfl,rfl,rfl,_⟩:=e;exact⟨⟨fun h=>absurd h (by simp),fun h=>absurd h D⟩,q⟩
 rename_i g0 S b e l m;split at n;rename_i t x y hd ad;cases q:o.guard with
 |some p=>
  rw[q]at B;obtain⟨b',N,_⟩:=AZ W B;cases N
 |none=>
  rw[q]at F;have A:Region.wanted o (yielded ops.toArray a.tmps)=true:=by simp[Region.wanted,q]
  refine dh V A ?_;obtain⟨Y,G',h1,h2⟩:=Xy hC.toCxTy W X.ri (g:=none) (by rintro j w' ⟨⟩) ad (by simp) F;unfold Oper.wp;rw[h1];refine hK _ _ _ G' n (by simp[Env.EF]) ?_ ?_ ⟨undef,rfl⟩;rw[hd];exact h2.mono fun u hu=> .inl hu;rw[hd]
  have:=X.map (E':=E.EF (g0::S) b e l) (fun s j w' act u h=>by
   have hh:=getD_map (L:=E.s) (T:=fun s=>((s.bJ b).setRow b e l (.row b (b::(g0::S)) true)).aO (g0::S) b) rfl s;simp only[Env.EF]at h;rw[hh]at h;obtain⟨v1,h1⟩:=zO h;obtain⟨v2,h2⟩:=Ql h1;exact zO h2)
  intro s j w' act v d;obtain⟨q1,q2,q3⟩:=this s j w' act v d;exact⟨q1,.inl q2,q3⟩
 cases n;exact av n
theorem tS(hC:mR P C)(hM:Eg P M){io:List Nat}(B:keeps io ops=true)(F:gk ops=true){S:Nat}(h3:4<=S){k:Env->Option ρ}{r:ρ}:∀ {l:List kc} {i:Nat} {E:Env} {a:Act} {w:World} {G:Gh},ops.drop i=l.flatMap kc.ops->i+(l.flatMap kc.ops).length=ops.length->
 Inv w0 c0 (fun u=>u<S+32*i) E a w G->mr ops (fun j=>j<i) E a.tmps->p9 C M ops S l i E k=some r->
 (∀E' a' w' G',Inv w0 c0 (fun u=>u<S+32*ops.length) E' a' w' G'->mr ops (fun j=>j<ops.length) E' a'.tmps->E'.s.length=E.s.length->(∀i∈io,a'.tmps.getD i undef=a.tmps.getD i undef)->k E'=some r->Q .normal a' w')->
 wpOps P ops.toArray Q (ahw i (l.flatMap kc.ops).length) a w
 | [],i,E,a,w,G,hd,hl,hI,hR,h,hK=>by
   have hi:i=ops.length:=by simpa using hl
   subst hi;exact hK E a w G hI hR rfl (fun _ _=>rfl) h
 | .one o::l,i,E,a,w,G,hd,hl,hI,hR,h,hK=>by
   simp only[agE,kc.ops,agX,agH]at hd;simp only[agE,kc.ops,agX,agH,agG]at hl|-
   have ho:ops[i]?=some o:=by
    have:=congrArg ahC hd;simpa[ag2]using this
   have bb:ops.drop (i+1)=l.flatMap kc.ops:=by rw[<-agU,hd];rfl
   simp only[p9]at h;rw[agO,wpOps_cons];split at h;rename_i f m s j hc;obtain⟨hg,hm,c,a8,ao,K⟩:=FH hc;split at h;rename_i x sh n z;rw[agu]at h;obtain⟨⟨O,y⟩,hF,h⟩:=h;unfold aaK at z;split at z;rename_i v n' b1 hs D;split at z;rename_i x' ts hx b2;cases z;have hv:=hI.slots s;have bl:=hI.oK s;have cz:E.s.getD s .no= .d v:=hs;rw[cz]at hv bl;obtain⟨cs,cb,cd⟩:=hv;have e:=dv hx;rw[e]at cb cd bl b2;have hU:=WN hI (hM f m hm) cd bl.1 b2 hF;have cL:=GO hI D;have J:Region.wanted o (yielded ops.toArray a.tmps)=true:=by simp[Region.wanted,hg]
   refine dh ho J (AB a8 ao (R:=fun mv w'=>mv=Value.int .i64 O/\∃G',Inv w0 c0 (fun u=>u<S+32*i) (E.mark (rowsOf m.τ y v.sh)) a w' G') ?_ (fun mv w' hh=> ?_));rw[P7 K,cb,cL];exact hU;obtain⟨rfl,G',T⟩:=hh;have Y:=(T.abg o.dst O).mono (U':=fun u=>u<S+32*(i+1)) (fun u hu=>by omega)
   refine tS hC hM B F h3 (l:=l) (i:=i+1) bb (by omega) Y (fun s j w1 act v he=>absurd he (Dk Gm (by rintro _ _ _ _ ⟨⟩) s j w1 act v)) h
    (fun E2 a2 w2 G2 g1 g2 g3 g5 g4=>hK E2 a2 w2 G2 g1 g2 (g3.trans ((dM ..).trans (Gn _))) (fun j D=>(g5 j D).trans (mo B (agC ho) D)) g4)
   cases z;cases z;cases h;split at h;rename_i a7;unfold untold at a7;split at a7;rename_i cv hg a8;have J:Region.wanted o (yielded ops.toArray a.tmps)=true:=by simp[Region.wanted,hg]
   refine dh ho J ?_
   have I:(execOp a.eval o).run P w= .ok (.value (a.eval (.const cv))) w:=by
    simp only[execOp,a8];rfl
   unfold Oper.wp;rw[I];show wpOps P ops.toArray Q _ _ _;have Y:=(hI.Tp o.dst (a.eval (.const cv))).mono (U':=fun u=>u<S+32*(i+1)) (fun u hu=>by omega)
   refine tS hC hM B F h3 (l:=l) (i:=i+1) bb (by omega) Y (fun s j w1 act v he=>by
    obtain⟨q1,q2,q3⟩:=hR.put ho F (by omega) (fun j w' D=>xU F ho D) (sv:= .no) (mv:=a.eval (.const cv)) (by rintro _ _ _ _ ⟨⟩) s j w1 act v he;exact⟨q1,by rcases q2 with q2|q2<;>omega,q3⟩) h
    (fun E2 a2 w2 G2 g1 g2 g3 g5 g4=>hK E2 a2 w2 G2 g1 g2 (g3.trans (dM ..)) (fun j D=>(g5 j D).trans (mo B (agC ho) D)) g4)
   cases a7;split at h;cases h;rename_i act cl;split at h;cases h;rename_i ef cp;refine YH hC ho hI hR (fun j w' D=>xU F ho D) (by omega) F (tk:=S+32*i) (by omega) (fun u h1 h2 h=>by omega) cl cp h (fun E' a' w' G' hk hlen T ct ⟨v,hav⟩=> ?_)
   refine tS hC hM B F h3 (l:=l) (i:=i+1) bb (by omega) (T.mono (fun u hu=>by rcases hu with hu|hu<;>omega))
    (fun s j w1 act v he=>by
     obtain⟨q1,q2,q3⟩:=ct s j w1 act v he;exact⟨q1,by rcases q2 with q2|q2<;>omega,q3⟩) hk (fun E2 a2 w2 G2 g1 g2 g3 g5 g4=>hK E2 a2 w2 G2 g1 g2 (g3.trans hlen) (fun j D=>(g5 j D).trans (by rw[hav];exact mo B (agC ho) D)) g4)
 | .nest o1 o2 o3::l,i,E,a,w,G,hd,hl,hI,hR,h,hK=>by
   simp only[agE,kc.ops,agX,agH]at hd;simp only[agE,kc.ops,agX,agH,agG]at hl|-
   have b6:ops[i]?=some o1:=by
    have:=congrArg ahC hd;simpa[ag2]using this
   have b7:ops.drop (i+1)=o2::o3::l.flatMap kc.ops:=by rw[<-agU,hd];rfl
   have b8:ops[i+1]?=some o2:=by
    have:=congrArg ahC b7;simpa[ag2]using this
   have b9:ops.drop (i+1+1)=o3::l.flatMap kc.ops:=by rw[<-agU,b7];rfl
   have ca:ops[i+1+1]?=some o3:=by
    have:=congrArg ahC b9;simpa[ag2]using this
   have cO:ops.drop (i+3)=l.flatMap kc.ops:=by rw[show i+3=i+1+1+1 by omega,<-agU,b9];rfl
   simp only[p9]at h;split at h;rename_i f m t p q d1 d2 hn;obtain⟨g1,cf,b0,g2,c6,cg,c7,c8,c9⟩:=R7 hn;obtain⟨g3,hm,c,dd,ao,K⟩:=FH c9
   have three:∀(cs:List Value) (n O:Int) (L':List uu),a.tmps.getD q undef= .int .i64 n->d1<E.s.length->d2<E.s.length->(execOp a.eval o1).run P w= .ok (.value (cT m.τ cs)) w->
    qx P f #[cT m.τ cs,.int .i64 n] w (fun mv w'=>mv=Value.int .i64 O/\∃G',Inv w0 c0 (fun u=>u<S+32*i) (E.mark L') a w' G')->
    p9 C M ops S l (i+3) ((((E.mark L').set (some d1) .no).set (some d2) .no).set o3.dst (vI .i64 O)) k=some r->
    wpOps P ops.toArray Q (ahw i ((l.flatMap kc.ops).length+1+1+1)) a w:=by
    intro cs n O L' cy V W I hU h;have a6:a.tmps.size=E.s.length:=hI.len;rw[show(l.flatMap kc.ops).length+1+1+1=((l.flatMap kc.ops).length+1+1)+1 from rfl,agO,wpOps_cons];have c1:Region.wanted o1 (yielded ops.toArray a.tmps)=true:=by simp[Region.wanted,g1]
    refine dh b6 c1 ?_;unfold Oper.wp;rw[I];show wpOps P ops.toArray Q _ _ _;rw[agO,wpOps_cons];have c2:Region.wanted o2 (yielded ops.toArray (a.put o1.dst (cT m.τ cs)).tmps)=true:=by simp[Region.wanted,g2]
    refine dh b8 c2 ?_
    have c3:(execOp (a.put o1.dst (cT m.τ cs)).eval o2).run P w= .ok (.value (.int .i64 n)) w:=by
     have:=vq (a:=a) (some d1) (cT m.τ cs) q (by simpa using Ne.symm c8);simp only[execOp,c6,Act.eval,b0,this,cy];rfl
    unfold Oper.wp;rw[c3];show wpOps P ops.toArray Q _ _ _;rw[agO,wpOps_cons];rw[b0,cg];have c4:Region.wanted o3 (yielded ops.toArray ((a.put (some d1) (cT m.τ cs)).put (some d2) (.int .i64 n)).tmps)=true:=by simp[Region.wanted,g3]
    refine dh ca c4 (AB dd ao (R:=fun mv w'=>mv=Value.int .i64 O/\∃G',Inv w0 c0 (fun u=>u<S+32*i) (E.mark L') a w' G') ?_ (fun mv w' hh=> ?_));rw[P7 K,vq (some d2) _ d1 (by simpa using Ne.symm c7),vO d1 _ (by rw[a6];exact V),vO d2 _ (by rw[kX,a6];exact W)];exact hU;obtain⟨rfl,G',T⟩:=hh;have Y:=(((T.Tp (some d1) (cT m.τ cs)).Tp (some d2) (.int .i64 n)).abg o3.dst O).mono (U':=fun u=>u<S+32*(i+3)) (fun u hu=>by omega)
    have hz:=tS hC hM B F h3 (l:=l) (i:=i+3) cO (by omega) Y (fun s j w1 act v he=>absurd he (Dk (Dk (Dk Gm (by rintro _ _ _ _ ⟨⟩)) (by rintro _ _ _ _ ⟨⟩)) (by rintro _ _ _ _ ⟨⟩) s j w1 act v)) h
     (fun E2 a2 w2 G2 g1 g2 g3 g5 g4=>hK E2 a2 w2 G2 g1 g2 (g3.trans ((dM ..).trans ((dM ..).trans ((dM ..).trans (Gn _))))) (fun j D=>by
      rw[g5 j D,mo B (agC ca) D];have k2:=mo (a:=a.put (some d1) (cT m.τ cs)) B (agC b8) (v:= .int .i64 n) D;have k1:=mo (a:=a) B (agC b6) (v:=cT m.τ cs) D;rw[cg]at k2;rw[b0]at k1;rw[k2,k1]) g4)
    exact hz
   split at h;split at h;rename_i x sh n z;rw[agu]at h;obtain⟨⟨O,y⟩,hF,h⟩:=h;unfold aaX at z;split at z;rename_i ti b o path τ0 n' b1 ba hp hq;split at z;rename_i sl v b3;split at z;rename_i rr A X;split at z;rename_i x' ts hx a1;cases z;simp only[t_,b_]at A;obtain⟨⟨N,hτ⟩,V,W⟩:=A;have Z:=xh (hI.slots p);have bs:bN (E.s.getD p .no)= .ptr b o path τ0:=hp;rw[bs]at Z;obtain⟨bk,de,H,av⟩:=Z;obtain⟨hslot,bk',c',el,q1,q2,q3,q4,q5,q6⟩:=hI.box (E:=E) b3;rw[q1]at H;simp only[Value.pointer.injEq,C_,Addr.mk.injEq,and_true]at H;subst H;obtain⟨r1,r2,r3,r4⟩:=bh.sub X q5;have e:=dv hx;generalize hrs:rr.sh=rsh at e a1 h;rw[e]at r1 r2 r4;have hlen:=bh.len q5;simp only[agP]at hlen;have hT:=(hC.tt t ti ba).1;rw[hτ]at hT;have ad:=lQ (P:=P) hT q4 (o:=o) (by rw[<-N,hlen];exact r2)
   have I:(execOp a.eval o1).run P w= .ok (.value (cT m.τ ((c'.toList.drop o).take m.τ.sz))) w:=by
    simp only[execOp,cf];refine dP ?_;simp only[Instr.loadAt,Act.eval,av,Instr.sureAddr];simpa using ad
   rw[N]at r1;exact three _ n O _ (GO hI hq) V W I (WN hI (hM f m hm) r1 (fun c hc=>q6 c (r4 c hc)) a1 hF) h;cases z;cases z;cases z;cases z;cases h;split at h;rename_i d z;rw[agu]at h;obtain⟨⟨O,y⟩,hF,h⟩:=h;split at h;rename_i yy b4;unfold Y6 at z;split at z;rename_i ti b e ii o path τ0 n b1 ba hp hq;split at z;rename_i ll hs nd b5;split at z;rename_i rr A X;split at z;rename_i x hx;cases z;simp only[t_,b_]at A;obtain⟨⟨⟨⟨dk,ds⟩,N⟩,hτ⟩,V,W⟩:=A;subst dk;have Z:=hI.slots p;have bs:E.s.getD p .no= .ept b e ii o path τ0:=hp;rw[bs]at Z;obtain⟨bk,of,nn,cap,de,H,dz,ea,av⟩:=Z;have c5:ii.toNat<nn:=toNat_lt dz ea;obtain⟨⟨cc,el,fz,aB,ch⟩,hU⟩:=Zk hI (hM f m hm) b5 ds H c5 X hx hF b4;have hT:=(hC.tt t ti ba).1;rw[hτ]at hT;rw[N]at ch hU;have ad:=lQ (P:=P) hT aB (o:=of+ii.toNat*e.sz+o) ch
   have bx:cellsOf w bk (of+ii.toNat*e.sz+o) m.τ.sz=(cc.toList.drop (of+ii.toNat*e.sz+o)).take m.τ.sz:=by
    unfold cellsOf;rw[aB]
   rw[bx]at hU
   have I:(execOp a.eval o1).run P w= .ok (.value (cT m.τ ((cc.toList.drop (of+ii.toNat*e.sz+o)).take m.τ.sz))) w:=by
    simp only[execOp,cf];refine dP ?_;simp only[Instr.loadAt,Act.eval,av,Instr.sureAddr];simpa using ad
   exact three _ n O _ (GO hI hq) V W I hU h;cases z;cases z;cases z;cases z;cases h;cases h;cases h
end
section
variable{P:Program}{C:Cx}{M:qy}{w0:World}{c0:C0}{U:Nat->Prop}{E:Env}{a:Act}{w:World}{G:Gh}{ops:List Oper}{L:Nat->Prop}{Q:Exit->Act->World->Prop}{ρ:Type}
theorem C4(hC:mR P C)(hM:Eg P M){r:ρ}{T:Nat->Value}:∀(c:Code) {E:Env} {a:Act} {w:World} {G:Gh} {F H:Env->Option ρ} {ke:List (Nat×(Env->Option ρ))} {Q:Exit->Act->World->Prop},
 Inv w0 c0 (fun u=>u<E.nt) E a w G->sD E.s->E.s.length=C.n->4<=E.nt->(∀i∈C.io,a.tmps.getD i undef=T i)->mu C M c E F ke H=some r->FM C w0 c0 T r F (Q .normal)->(∀id k,ke.lookup id=some k->FM C w0 c0 T r k (Q (.exit id)))->FM C w0 c0 T r H (Q .ret)->
 c.wp P Q a w:=by
 intro c
 induction c with
 |skip=>intro E a w G F H ke Q f o p q z h D he B;exact wp_skip (D E a w G f o p q z h)
 |region id ops draw=>
  intro E a w G F H ke Q f o p q z h W he B;simp only[mu]at h;split at h;rename_i hc;simp only[t_]at hc;obtain⟨ad,V⟩:=hc
  have fin:∀A I w' N,Inv w0 c0 (fun u=>u<E.nt+32*ops.toList.length) A I w' N->mr ops.toList (fun j=>j<ops.toList.length) A I.tmps->A.s.length=E.s.length->(∀i∈C.io,I.tmps.getD i undef=a.tmps.getD i undef)->
   F {jL A ops.toList with nt:=E.nt+32*ops.size}=some r->Q .normal I w':=by
   intro A I w' N g1 g2 g3 g5 g4;obtain⟨k1,k2,k3⟩:=NN g1 g2;refine W {jL A ops.toList with nt:=E.nt+32*ops.size} I w' N ?_ k2 (by rw[k3,g3,p]) (by show 4<=E.nt+32*ops.size;omega) (fun i X=>(g5 i X).trans (z i X)) g4;simpa using k1
  split at h;split at h;rename_i d hd
  have D:0<ops.size:=by
   rcases Nat.eq_zero_or_pos ops.size with h0|h0;have:ops= #[]:=ahc h0;subst this;simp[wX]at hd;exact h0
  exact Uw hC.toCxTy hC.mixed f o q hd D V h (fun A I w' N g1 g2 g3 g4 g5 g6=>W A I w' N g1 g2 (g3.trans p) g4 (fun i X=>(g5 i X).trans (z i X)) g6);simp only[AU]at h
  exact NL (ops:=ops.toList) hC.mixed hC V ad q f o (k:=fun A=>F {jL A ops.toList with nt:=E.nt+32*ops.size}) (by
   rw[<-h];congr 1;funext A L;cases rE ops.toList L<;>rfl) fin
  refine wp_region ?_;have S:=Dc M ops.toList;have:=tS (Q:=Q) hC hM V ad q (l:=steps M ops.toList) (i:=0) (by rw[S];simp) (by rw[S];simp) (by simpa using f) (fun s j w1 act v he=>absurd he (o s j w1 act v)) h fin;rw[zR];rw[S]at this;simpa using this;cases h
 |seq x y J K=>
  intro E a w G F H ke Q f o p q z h D he B;refine wp_seq ?_;simp only[mu]at h;split at h;refine J (Q:=Exit.then (y.wp P Q) Q) f o p q z h (fun A I w' N g1 g2 g3 g4 O g5=> ?_) he B;exact K g1 g2 g3 g4 O g5 D he B;rename_i n _;simp only[aR]at h;refine J (Q:=Exit.then (y.wp P Q) Q) f o p q z h (fun A I w' N g1 g2 g3 g4 O g5=> ?_) he B;split at g5;rename_i t Y;obtain⟨G2,k1,k2,k3,k4⟩:=tf g1 g3 Y;exact K k1 k2 k3 k4 O g5 D he B;cases g5
 |cond c x y J K=>
  intro E a w G F H ke Q f o p q z h D he B;simp only[mu]at h;split at h;rename_i b sh Z;have hR:RI ([]:List Oper) E a.tmps:=fun s j w1 act v he=>absurd he (o s j w1 act v);obtain⟨⟨cs,h1,h2⟩,_⟩:=fK f hR (g:=none) (by rintro j w' ⟨⟩) Z
  have av:a.eval c= .bool b:=by
   cases sh with
   |leaf=>rw[h1,show cs=_ from h2];rfl
   |sl m=>exact h2.elim
   |pair a b=>exact h2.elim
  refine wp_cond av ?_;split at h;rename_i Z;subst Z;exact J f o p q z h D he B;rename_i Z;have:b=false:=by simpa using Z
  subst this;exact K f o p q z h D he B;cases h
 |block id c ih=>
  intro E a w G F H ke Q f o p q z h D he B;refine wp_block ?_;simp only[mu]at h;refine ih (Q:=Exit.inBlock id Q) f o p q z h D (fun i k R=> ?_) B;rw[uM]at R;intro E2 a2 w2 G2 g1 g2 g3 g4 O g5;show Exit.inBlock id Q (.exit i) a2 w2;simp only[Exit.inBlock];split at R;rename_i e;simp only[C_]at R;subst R;simp only[e,if_true];exact D E2 a2 w2 G2 g1 g2 g3 g4 O g5;rename_i e;simp only[e,if_false];exact he i k R E2 a2 w2 G2 g1 g2 g3 g4 O g5
 |loop c ih=>
  intro E a w G F H ke Q f o p q z h D he B;simp only[mu]at h;split at h;cases h;rename_i n _
  have hq:∃t,proj n E=some t/\aM C.k (fun G t=>mu C M c (dA C.n n t) (fun A=>match proj n A with|some t=>G t|none=>none) ke H) t=some r:=by
   split at h;rename_i t Y;exact⟨t,Y,h⟩;cases h
  obtain⟨t,Y,h⟩:=hq;obtain⟨G2,k1,k2,k3,k4⟩:=tf f p Y;refine wp_loop_rounds C.k ?_
  have key:∀(m:Nat) (t:aW (mY n.ks)) (a:Act) (w:World) (G:Gh),aM m (fun G t=>mu C M c (dA C.n n t) (fun A=>match proj n A with|some t=>G t|none=>none) ke H) t=some r->
   Inv w0 c0 (fun u=>u<(dA C.n n t).nt) (dA C.n n t) a w G->sD (dA C.n n t).s->(dA C.n n t).s.length=C.n->4<=(dA C.n n t).nt->(∀i∈C.io,a.tmps.getD i undef=T i)->Code.rounds P c Q m a w:=by
   intro m
   induction m with
   |zero=>intro t a w G h;simp[aM]at h
   |succ m aB=>
    intro t a w G h g1 g2 g3 g4 O;rw[rounds_succ];simp only[aM]at h;refine ih (Q:=Exit.then (Code.rounds P c Q m) Q) g1 g2 g3 g4 O h (fun A I w' N q1 q2 q3 q4 qT q5=> ?_) he B;split at q5;rename_i t' ao;obtain⟨G3,p1,p2,p3,p4⟩:=tf q1 q3 ao;exact aB t' I w' G3 q5 p1 p2 p3 p4 qT;cases q5
  exact key C.k t a w G2 h k1 k2 k3 k4 z
 |exit id=>
  intro E a w G F H ke Q f o p q z h D he B;simp only[mu]at h;split at h;rename_i k R;exact wp_exit (he id k R E a w G f o p q z h);cases h
 |ret=>intro E a w G F H ke Q f o p q z h D he B;exact wp_ret (B E a w G f o p q z h)
 |_=>intro E a w G F H ke Q f o p q z h D he B;simp[mu]at h
end
def Tl:Value->Value->Bool
 | .int k n,.int k' n'=>k==k'&&n==n'
 | .bool b,.bool b'=>b==b'
 | .string a,.string b=>a.size==0&&b.size==0
 | .slice none l c,.slice none l' c'=>l==l'&&c==c'
 |_,_=>false
def oz:List Value->List Value->Bool
 | [],[]=>true
 |a::l,b::m=>Tl a b&&oz l m
 |_,_=>false
def To:Ty->Value->Bool
 | .pair a b,.agg cs=>oz cs.toList (Ty.pair a b).zero
 | .pair _ _,_=>false
 |τ,v=>oz [v] τ.zero
theorem YU{a:ByteArray}(h:a.size=0):a=ByteArray.empty:=by
 cases a with
 |mk d=>
  have:d.size=0:=h;have:d= #[]:=ahc this;rw[this];rfl
theorem W5{a b:Value}(h:Tl a b=true):a=b:=by
 unfold Tl at h;split at h;simp only[t_,beq_iff_eq]at h;rw[h.1,h.2];simp only[beq_iff_eq]at h;rw[h];simp only[t_,beq_iff_eq]at h;rw[YU h.1,YU h.2];simp only[t_,beq_iff_eq]at h;rw[h.1,h.2];cases h
theorem qV:∀ {l m:List Value},oz l m=true->l=m
 | [],[],_=>rfl
 |a::l,b::m,h=>by
  simp only[oz,t_]at h;rw[W5 h.1,qV h.2]
 | [],_::_,h|_::_,[],h=>by simp[oz]at h
theorem XB{τ:Ty}{v:Value}(h:To τ v=true):v=cT τ τ.zero:=by
 cases τ with
 |pair a b=>
  cases v with
  |agg cs=>
   have:=qV (show oz cs.toList (Ty.pair a b).zero=true from h);simp only[cT,<-this,Array.toArray_toList]
  |_=>simp[To]at h
 |int k=>have:=qV (show oz [v] (Ty.int k).zero=true from h);simpa[cT,Ty.zero]using this
 |bool=>have:=qV (show oz [v] Ty.bool.zero=true from h);simpa[cT,Ty.zero]using this
 |str=>have:=qV (show oz [v] Ty.str.zero=true from h);simpa[cT,Ty.zero]using this
 |sl e=>have:=qV (show oz [v] (Ty.sl e).zero=true from h);simpa[cT,Ty.zero]using this
def aaS:TypeDesc->Bool
 | .struct _| .array _ _=>true
 |_=>false
def tT(P:Program)(t:TypeId)(τ:Ty):Bool:=
 match P.info? t,P.underlying t with
 |some inf,some d=>inf.size==τ.sz&&(match inf.zero with|some v=>To τ v|none=>false)&&decide (inf.bytes<=32768)&&aaS d==τ.cn
 |_,_=>false
theorem ua{P:Program}{t:TypeId}{τ:Ty}(h:tT P t τ=true):gA P t τ:=by
 unfold tT at h;split at h;rename_i inf d c e;simp only[t_,beq_iff_eq,b_]at h;obtain⟨⟨⟨i,b⟩,j⟩,h6⟩:=h;refine⟨inf,d,c,i,?_,j,e,?_⟩;split at b;rename_i v f;rw[f,XB b];cases b;rw[<-h6];cases d<;>rfl;cases h
def PY(P:Program)(τ:Ty)(b:List TypeId)(j:Nat)(f:Field):Bool:=
 f.offset==τ.off (eG b.length j)&&b[j]?==some f.type&&(match τ.sub (eG b.length j)with|some σ=>tT P f.type σ|none=>false)
theorem WI{P:Program}{τ:Ty}{c:List TypeId}{j:Nat}{f:Field}(h:PY P τ c j f=true):ED P τ c j f:=by
 simp only[PY,t_,beq_iff_eq]at h;obtain⟨⟨e,i⟩,b⟩:=h;refine⟨e,i,?_⟩;split at b;rename_i σ d;exact⟨σ,d,ua b⟩;cases b
def Me(P:Program)(c:Ty->TypeId->Bool):Ty->List Field->Nat->Bool
 |τ,[f],off=>f.offset==off&&f.name != "_" &&tT P f.type τ&&c τ f.type
 | .pair a b,f::g::l,off=>f.offset==off&&f.name != "_" &&tT P f.type a&&c a f.type&&Me P c b (g::l) (off+a.sz)
 |_,_,_=>false
def SI(P:Program):Nat->Ty->TypeId->Bool
 |0,_,_=>false
 |n+1,τ,t=>
  match P.underlying t with
  |some (.int k)=>τ== .int k
  |some .bool=>τ== .bool
  |some .string=>τ== .str
  |some (.struct fs)=>τ.cn&& !P.stoodInHeld t&&Me P (SI P n) τ fs.toList 0
  |_=>false
section
variable{P:Program}
theorem wJ{w:World}{t:TypeId}{τ:Ty}(h:gA P t τ){cs:Array Value}{off:Nat}(f:off+τ.sz<=cs.size):
 (part t cs off).run P w= .ok (cT τ ((cs.toList.drop off).take τ.sz)) w:=by
 unfold part;rw[Sem.run_bind,uf h,Result.andThen_ok];cases d:τ.cn with
 |true=>
  cases τ with
  |pair a b=>
   simp[dX h,cT,ahD,List.extract];apply ahR;simp[ahD,List.extract]
  |_=>simp[Ty.cn]at d
 |false=>
  have c:τ.sz=1:=by cases τ<;>first|rfl|simp[Ty.cn]at d
  rw[c]at f;have e:cs[off]?=some cs[off]:=agJ (by omega);simp only[N',if_false,e,Sem.run_pure]
  have:(cs.toList.drop off).take τ.sz=[cs[off]]:=by
   rw[c,List.take_one,ag2];simp[e]
  rw[this];cases τ<;>first|rfl|simp[Ty.cn]at d
theorem WL(a b:ByteArray):(a==b)=(a.toList==b.toList):=by
 rw[ahq];simp only[beq_iff_eq,ByteArray.toList_eq];constructor;intro h;have:(a.data==b.data)=true:=h;simp only[beq_iff_eq]at this;rw[this];intro h
 have c:a.data=b.data:=by
  have:=congrArg List.toArray h;simpa using this
 show(a.data==b.data)=true;simp[c]
theorem Nr{w:World}{i:Ty->TypeId->Bool}{d:Nat}
 (c:∀ {τ:Ty} {t:TypeId} {a b:τ.den} {c1 n:List Value},i τ t=true->aK w τ a c1 []->aK w τ b n []->(Op.equalIn d t (cT τ c1) (cT τ n)).run P w= .ok (eqv τ a b) w) {xs ys:Array Value}:
 ∀ {v:List Field} {τ:Ty} {off:Nat} {a b:τ.den},Me P i τ v off=true->aK w τ a (xs.toList.drop off) []->aK w τ b (ys.toList.drop off) []->
 ∃r,(Sem.run P (forIn v ((none,()):Option Bool×Unit) fun f __s=>if f.name= "_" then pure (ForInStep.yield (none,()))else do
  let __do_lift<-part f.type xs f.offset
  let __do_lift_1<-part f.type ys f.offset
  let __do_lift<-Op.equalIn d f.type __do_lift __do_lift_1
  if __do_lift=false then pure (ForInStep.done (some false,()))else pure (ForInStep.yield (none,()))) w)= .ok r w/\r=(if eqv τ a b=true then none else some false,())
 | [],τ,_,_,_,h,_,_=>by cases τ<;>simp[Me]at h
 | [f],τ,off,a,b,h,ha,hb=>by
   have h:(f.offset==off&&f.name != "_" &&tT P f.type τ&&i τ f.type)=true:=by cases τ<;>exact h
   simp only[t_,beq_iff_eq,bne_iff_ne,ne_eq]at h;obtain⟨⟨⟨o,p⟩,q⟩,s⟩:=h;have j:=ua q;have k:=ha.len;have m:=hb.len;simp only[ahn,agP]at k m;have hpos:=τ.og;have y:(xs.toList.drop off).take τ.sz=xs.toList.drop off:=ag6 (by simp;omega);have z:(ys.toList.drop off).take τ.sz=ys.toList.drop off:=ag6 (by simp;omega);simp only[ahS,p,if_false,o,Sem.run_bind,wJ j (show off+τ.sz<=xs.size by omega),wJ j (show off+τ.sz<=ys.size by omega),Result.andThen_ok,y,z,c s ha hb];cases eqv τ a b<;>simp
 |f::g::l,τ,off,a,b,h,ha,hb=>by
  cases τ with
  |pair e τ2=>
   simp only[Me,t_,beq_iff_eq,bne_iff_ne,ne_eq]at h;obtain⟨⟨⟨⟨o,p⟩,q⟩,s⟩,F⟩:=h;have j:=ua q;obtain⟨c1,n,B1,B2,q1,q2,x,H⟩:=ha;obtain⟨d1,d2,D1,D2,u,I,s1,s2⟩:=hb;obtain⟨rfl,rfl⟩:=ahx.1 q2.symm;obtain⟨rfl,rfl⟩:=ahx.1 I.symm;have k:=x.len;have m:=s1.len;have t1:(xs.toList.drop off).take e.sz=c1:=by rw[q1,<-k,ahW]
   have t2:(ys.toList.drop off).take e.sz=d1:=by rw[u,<-m,ahW]
   have A:xs.toList.drop (off+e.sz)=n:=by rw[<-agU,q1,<-k,ahX]
   have B:ys.toList.drop (off+e.sz)=d2:=by rw[<-agU,u,<-m,ahX]
   have D:off+e.sz<=xs.size:=by
    have:=congrArg x_ q1;simp only[ahn,agP,agR,k]at this;have:=e.og;omega
   have z2:off+e.sz<=ys.size:=by
    have:=congrArg x_ u;simp only[ahn,agP,agR,m]at this;have:=e.og;omega
   obtain⟨r,J,K⟩:=Nr c (xs:=xs) (ys:=ys) F (by rw[A];exact H) (by rw[B];exact s2);rw[ahS];simp only[p,if_false,o,Sem.run_bind,wJ j D,wJ j z2,Result.andThen_ok,t1,t2,c s x s1,eqv];rcases Bool.eq_false_or_eq_true (eqv e a.1 b.1)with he|he;simp only[he,Bool.true_eq_false,if_false,Sem.run_pure,Result.andThen_ok,Bool.true_and];exact⟨r,J,K⟩;simp[he]
  |_=>simp[Me]at h
theorem abu{w:World}:∀(n d:Nat) {τ:Ty} {t:TypeId} {a b:τ.den} {c1 i:List Value},n<=d->SI P n τ t=true->aK w τ a c1 []->aK w τ b i []->(Op.equalIn d t (cT τ c1) (cT τ i)).run P w= .ok (eqv τ a b) w:=by
 intro n
 induction n with
 |zero=>intro d τ t a b c1 i _ h;simp[SI]at h
 |succ n q=>
  intro d τ t a b c1 i hd h c f;obtain⟨d,rfl⟩:∃e,d=e+1:=⟨d-1,by omega⟩
  simp only[SI]at h;split at h;rename_i k hu;simp only[beq_iff_eq]at h;subst h;obtain⟨rfl,_⟩:=c;obtain⟨rfl,_⟩:=f;simp[Op.equalIn,run_underlying hu,cT,eqv];rename_i hu;simp only[beq_iff_eq]at h;subst h;obtain⟨rfl,_⟩:=c;obtain⟨rfl,_⟩:=f;simp[Op.equalIn,run_underlying hu,cT,eqv];rename_i hu;simp only[beq_iff_eq]at h;subst h;obtain⟨rfl,_⟩:=c;obtain⟨rfl,_⟩:=f;simp[Op.equalIn,run_underlying hu,cT,eqv,WL];rename_i fs hu;simp only[t_,agT]at h;obtain⟨⟨j,l⟩,m⟩:=h;cases τ with
  |pair s u=>
   simp only[cT];obtain⟨r,o,p⟩:=Nr (P:=P) (w:=w) (d:=d) (xs:=c1.toArray) (ys:=i.toArray) (fun h c f=>q d (by omega) h c f) m (by simpa using c) (by simpa using f);simp[Op.equalIn,run_underlying hu,l];rw[<-Array.forIn_toList,o,p,Result.andThen_ok];cases eqv (s.pair u) a b<;>simp
  |_=>simp[Ty.cn]at j
  cases h
theorem ZU{t:TypeId}{τ:Ty}{n:Nat}(i:n<=10000)(j:τ.cn=true)(h:SI P n τ t=true)(d:P.eqGuardType P.depth t=false):Xd P t τ:=by
 intro w op x y a b c1 c2 c e f;have he:=abu n Op.maxDepth i h e f;cases τ with
 |pair τ1 τ2=>
  simp only[cT]at he|-;rcases c with rfl|rfl;simp[eqGuard,d,binOp,Op.equal,he];simp[eqGuard,d,binOp,Op.equal,he]
 |_=>simp[Ty.cn]at j
def C3(P:Program)(t:TypeId)(i:TI):Bool:=
 tT P t i.τ&&(match i.τ,P.underlying t with
  | .int k,some (.int k')=>k==k'
  | .bool,some .bool=>true
  | .str,some .string=>true
  | .sl e,some (.slice el)=>el==i.el&&tT P el e&&(if e== .int .u8 then(match P.underlying el with|some (.int .u8)=>true|_=>false)else true)
  | .pair a b,some (.struct fields)=>fields.size==i.fs.length&&fields.toList.zipIdx.all (fun p=>PY P (.pair a b) i.fs p.2 p.1)&&
   (if(Ty.pair a b).flat then SI P 20 (.pair a b) t&& !P.eqGuardType P.depth t else true)
  |_,_=>false)&&(i.τ.cn||i.fs.isEmpty)
theorem HX{t:TypeId}{i:TI}(h:C3 P t i=true):
 LG P t i/\(i.τ.cn=true->i.τ.flat=true->Xd P t i.τ)/\(i.τ.cn=false->i.fs=[])/\(i.τ= .sl (.int .u8)->P.underlying i.el=some (.int .u8)):=by
 obtain⟨τ,fs,el⟩:=i;simp only[C3,t_,Bool.or_eq_true]at h;obtain⟨⟨r,c⟩,n⟩:=h;have m:=ua r;cases τ with
 |int k=>
  cases hu:P.underlying t with
  |none=>rw[hu]at c;simp at c
  |some d=>
   rw[hu]at c;cases d<;>simp at c;subst c;exact⟨⟨m,hu⟩,by simp[Ty.cn],by simpa[Ty.cn]using n,by simp⟩
 |bool=>
  cases hu:P.underlying t with
  |none=>rw[hu]at c;simp at c
  |some d=>
   rw[hu]at c;cases d<;>simp at c;exact⟨⟨m,hu⟩,by simp[Ty.cn],by simpa[Ty.cn]using n,by simp⟩
 |str=>
  cases hu:P.underlying t with
  |none=>rw[hu]at c;simp at c
  |some d=>
   rw[hu]at c;cases d<;>simp at c;exact⟨⟨m,hu⟩,by simp[Ty.cn],by simpa[Ty.cn]using n,by simp⟩
 |sl e=>
  cases hu:P.underlying t with
  |none=>rw[hu]at c;simp at c
  |some d=>
   rw[hu]at c;cases d<;>simp only[t_,beq_iff_eq,N']at c;obtain⟨⟨rfl,p⟩,l⟩:=c;refine⟨⟨m,hu,ua p⟩,by simp[Ty.cn],by simpa[Ty.cn]using n,fun he=> ?_⟩;simp only[Ty.sl.injEq]at he;subst he;simp only[if_true]at l;split at l
   assumption
   cases l
 |pair a b=>
  cases hu:P.underlying t with
  |none=>rw[hu]at c;simp at c
  |some d=>
   rw[hu]at c;cases d with
   |struct fields=>
    simp only[t_,beq_iff_eq]at c;obtain⟨⟨p,l⟩,h6⟩:=c;refine⟨⟨m,fields,hu,p,fun j f q=> ?_⟩,fun _ o=> ?_,by simp[Ty.cn],by simp⟩;rw[agY]at l;exact WI (l (f,j) (List.mem_zipIdx_iff_getElem?.2 (by simpa using q)));rw[an o]at h6;simp only[t_,agT]at h6;exact ZU (by omega) rfl h6.1 h6.2
   |_=>simp at c
theorem yf{α:Type}:∀ {l:List (Nat×α)} {a:Nat} {b:α},l.lookup a=some b->(a,b)∈l
 | [],_,_,h=>by simp[agK]at h
 |(x,y)::l,a,b,h=>by
  simp only[agK]at h;split at h;rename_i e;simp only[beq_iff_eq]at e;simp only[C_]at h;subst e h;simp;exact aha _ (yf h)
theorem Zt{C:Cx}{l:List (Nat×TI)}(b:l.all (fun p=>C3 P p.1 p.2)=true)(c:C.tt=fun t=>l.lookup t):CxTy P C:=by
 have:∀t i,C.tt t=some i->C3 P t i=true:=by
  intro t i h;rw[c]at h;exact agY.1 b (t,i) (yf h)
 exact⟨fun t i h=>(HX (this t i h)).1,fun t i h=>(HX (this t i h)).2.1,fun t i h=>(HX (this t i h)).2.2.1,fun t i h=>(HX (this t i h)).2.2.2⟩
end
def Da(b:List (Nat×TI))(cts:List (FuncId×ou))(la ja:Nat->Option sE)(k:Nat):Cx:=
 ⟨fun t=>b.lookup t,fun f=>cts.lookup f,la,ja,k,0,[]⟩
def aH(P:Program):List (FuncId×ou)->Prop
 | []=>True
 |p::l=>mz P p.1 p.2/\aH P l
theorem aH.mem{P:Program}:∀ {l:List (FuncId×ou)},aH P l->∀p∈l,mz P p.1 p.2
 | [],_,_,h=>by cases h
 |q::l,⟨h1,h2⟩,p,h=>by
  rcases agF.1 h with rfl|h;exact h1;exact aH.mem h2 p h
theorem Pd{P:Program}{c:List (Nat×TI)}(d:c.all (fun p=>C3 P p.1 p.2)=true)(hm:P.follows .mixedOrders=true){cts:List (FuncId×ou)}(hc:aH P cts){la ja:Nat->Option sE}{k:Nat}:
 mR P (Da c cts la ja k):=
 ⟨Zt d rfl,fun f b h=>hc.mem (f,b) (yf h),hm⟩
theorem Yq{P:Program}{c:List (Nat×TI)}(e:c.all (fun p=>C3 P p.1 p.2)=true)(hm:P.follows .mixedOrders=true){cts:List (FuncId×ou)}(hc:aH P cts){la ja:Nat->Option sE}{k:Nat}
 {f:FuncId} {fn:Func} (i:P.funcs[f]?=some fn) (b:(fn.name== "runtime.NumGoroutine")=false) {ps:List PK} {rs:List RK} {d:List (Nat×List Bool)} (j:decide (ps.length<=fn.ntmps)=true)
 {F:aW (ps.map PK.ty)->Option (aW (rs.map RK.ty++bn ps))} (l:∀x,IF (Da c cts la ja k) ps rs d fn x=F x):mz P f ⟨ps,rs,F,d⟩:=
 abq (Pd e hm hc) i b (e_ j) (fun x _ h=>(X5 ..).symm.trans ((l x).trans h))
def SJ(fn:Func)(n:Nat):Bool:=match fn.name== "runtime.NumGoroutine" with|true=>false|false=>decide (n<=fn.ntmps)
theorem Ar{fn:Func}{n:Nat}(h:SJ fn n=true):(fn.name== "runtime.NumGoroutine")=false/\decide (n<=fn.ntmps)=true:=by
 unfold SJ at h;split at h;cases h;rename_i b;exact⟨b,h⟩
theorem aH.ev{P:Program}{h:List (Nat×TI)}(u:h.all (fun p=>C3 P p.1 p.2)=true)(hm:P.follows .mixedOrders=true){cts:List (FuncId×ou)}(hc:aH P cts)(la ja:Nat->Option sE)(k:Nat)
 {f:FuncId} {fn:Func} (v:P.funcs[f]?=some fn) {ps:List PK} (o:SJ fn ps.length=true) {rs:List RK} {q:List (Nat×List Bool)}
 {F:aW (ps.map PK.ty)->Option (aW (rs.map RK.ty++bn ps))} (y:∀x,IF (Da h cts la ja k) ps rs q fn x=F x):aH P ((f,⟨ps,rs,F,q⟩)::cts):=
 ⟨Yq u hm hc v (Ar o).1 (Ar o).2 y,hc⟩
def jq{α β:Type}(x:α)(f:α->β):β:=f x
def Xb:Ty->Pt
 | .sl _=> .own
 | .pair a b=> .pair (Xb a) (Xb b)
 |_=> .leaf
def aad(τ:Ty)(b:List ResultVar)(E:Env):Option (Int×τ.den):=
 match b with
 | [.tmp s]=>(match E.get s,E.get 0 with
   | .d ⟨.int .i64,k,_⟩,.d v=>(match fJ v τ,mK v.sh with
     |some y,some _=>some (k,y)
     |_,_=>none)
   |_,_=>none)
 |_=>none
def acq(C:Cx)(M:qy)(τ:Ty)(fn:Func)(x:τ.den)(n:Int):Option (Int×τ.den):=
 match fn.body with
 |none=>none
 |some c=>
  let e:=bW [.val τ (Xb τ),.val (.int .i64) .leaf] (x,n,()) 4
  mu {C with n:=fn.ntmps,io:=[0]} M c ⟨e.1++agM (fn.ntmps-e.1.length) .no,e.2,true⟩ (aad τ fn.results.toList) [] (aad τ fn.results.toList)
def Ih(C:Cx)(M:qy)(ps:List PK)(rs:List RK)(b:List (Nat×List Bool))(fn:Func)(x:aW (ps.map PK.ty)):Option (aW (rs.map RK.ty++bn ps)):=
 match fn.body with
 |none=>none
 |some c=>
  let e:=bW ps x 4
  mu {C with n:=fn.ntmps,io:=ic ps 0} M c ⟨e.1++agM (fn.ntmps-e.1.length) .no,e.2,true⟩ (fin C.tt ps rs b fn.results.toList e.2) [] (fin C.tt ps rs b fn.results.toList e.2)
section
variable{P:Program}{C:Cx}{M:qy}{w0:World}{c0:C0}{U:Nat->Prop}{E:Env}{a:Act}{w:World}{G:Gh}{ops:List Oper}{L:Nat->Prop}{Q:Exit->Act->World->Prop}{ρ:Type}
theorem VF(args:List Value)(n i:Nat)(hi:i<args.length):(args.toArray++ahT (n-args.toArray.size) undef).getD i undef=args.getD i undef:=by
 rw[ahf,agy,agv (by simpa using hi)];simp
theorem aac(l:mR P C)(S:Eg P M){f:FuncId}{fn:Func}{con:ou}(I:P.funcs[f]?=some fn)(m:(fn.name== "runtime.NumGoroutine")=false)(hn:con.ps.length<=fn.ntmps)
 (V:∀x y,con.F x=some y->Ih C M con.ps con.rs con.kp fn x=some y):mz P f con:=by
 intro w p args x y K b;have d:=V x y K;unfold Ih at d;split at d;cases d;rename_i c B
 have o:(callFunc f args.toArray).run P w= .ok (.enter f args.toArray) w:=by
  have z:fn.name≠ "runtime.NumGoroutine" :=by simpa using m
  unfold callFunc;simp[I,z,B]
 unfold qx;rw[o];simp only;refine calls_of_wp I B ?_;have hal:args.length=con.ps.length:=by rw[b.len,mS]
 have W:=Gy b fn.ntmps;have Nb:=gi con.ps 4
 have e:FM {C with n:=fn.ntmps,io:=ic con.ps 0} w (p.DK (bP con.ps 4)) (fun i=>args.getD i undef) y (fin C.tt con.ps con.rs con.kp fn.results.toList (bW con.ps x 4).2) (fun q w'=>
  q.defers=[]/\∃v,(results fn q.tmps).run P w'= .ok v w'/\∃D,Ending.returned v=Ending.returned D/\∃H t u,uB con w p args y D w' H t u):=by
  intro E' q w' H g1 g2 g3 g4 N g5;rw[lC]at g5;obtain⟨J,X,t,u,Y,Z⟩:=pR l.toCxTy (args:=args) b g1 g5 N;exact⟨g1.defers,J,Y,J,rfl,X,t,u,Z⟩
 have A:mR P {C with n:=fn.ntmps,io:=ic con.ps 0}:=⟨⟨l.tt,l.eq,l.fs,l.u8⟩,l.ct,l.mixed⟩
 refine C4 (T:=fun i=>args.getD i undef) A S c (w0:=w) (c0:=p.DK (bP con.ps 4)) (G:=p) (r:=y) (by rw[lC];simpa[lC]using W) (fun s j w1 act v h=> ?_) ?_ ?_ (fun i O=> ?_) d e (fun id k R=>by simp[agK]at R) e;rw[jt]at h;exact Qh _ _ _ _ _ h;simp only[agR,List.length_replicate,mS];omega;rw[lC];exact Nb;have:=Aw i O;exact VF args fn.ntmps i (by omega)
def uT(P:Program):List (FuncId×mf)->Prop
 | []=>True
 |p::l=>DO P p.1 p.2/\uT P l
theorem Fq{f:FuncId}{m:mf}:∀ {l:List (FuncId×mf)},l.lookup f=some m->(f,m)∈l
 | [],h=>by simp[agK]at h
 |(x,y)::l,h=>by
  simp only[agK]at h;split at h;rename_i e;simp only[beq_iff_eq]at e;simp only[C_]at h;subst e h;simp;exact aha _ (Fq h)
theorem uT.mem:∀ {l:List (FuncId×mf)},uT P l->∀p∈l,DO P p.1 p.2
 | [],_,_,h=>by cases h
 |q::l,⟨h1,h2⟩,p,h=>by
  rcases agF.1 h with rfl|h;exact h1;exact uT.mem h2 p h
theorem uT.tab{l:List (FuncId×mf)}(h:uT P l):Eg P (fun f=>l.lookup f):=fun f m hm=>h.mem (f,m) (Fq hm)
theorem WV{e:List (Nat×TI)}(j:e.all (fun p=>C3 P p.1 p.2)=true)(hm:P.follows .mixedOrders=true){cts:List (FuncId×ou)}(hc:aH P cts){c:List (FuncId×mf)}(d:uT P c){la ja:Nat->Option sE}{k:Nat}
 {f:FuncId} {fn:Func} (l:P.funcs[f]?=some fn) (b:(fn.name== "runtime.NumGoroutine")=false) {ps:List PK} {rs:List RK} {i:List (Nat×List Bool)} (m:decide (ps.length<=fn.ntmps)=true)
 {F:aW (ps.map PK.ty)->Option (aW (rs.map RK.ty++bn ps))} (n:∀x,Ih (Da e cts la ja k) (fun f=>c.lookup f) ps rs i fn x=F x):mz P f ⟨ps,rs,F,i⟩:=
 aac (Pd j hm hc) d.tab l b (e_ m) (fun x _ h=>(n x).trans h)
theorem aH.mu{q:List (Nat×TI)}(y:q.all (fun p=>C3 P p.1 p.2)=true)(hm:P.follows .mixedOrders=true){cts:List (FuncId×ou)}(hc:aH P cts){h:List (FuncId×mf)}(o:uT P h)(la ja:Nat->Option sE)(k:Nat)
 {f:FuncId} {fn:Func} (z:P.funcs[f]?=some fn) {ps:List PK} (u:SJ fn ps.length=true) {rs:List RK} {v:List (Nat×List Bool)}
 {F:aW (ps.map PK.ty)->Option (aW (rs.map RK.ty++bn ps))} (A:∀x,Ih (Da q cts la ja k) (fun f=>h.lookup f) ps rs v fn x=F x):aH P ((f,⟨ps,rs,F,v⟩)::cts):=
 ⟨WV y hm hc o z (Ar u).1 (Ar u).2 A,hc⟩
end
theorem wrap64{n:Int}(h: -9223372036854775808<=n)(h':n<9223372036854775808):IntKind.i64.wrap n=n:=by
 simp only[IntKind.wrap,IntKind.signed,IntKind.bits];simp;omega
theorem qK{σ ρ:Type}{f:(σ->Option ρ)->σ->Option ρ}(g:σ->Option ρ)(m:σ->Nat)(I:σ->Prop)
 (h:∀G s,I s->(∀b,I b->m b<m s->G b=g b)->f G s=g s):∀(k:Nat) (s:σ),I s->m s<k->aM k f s=g s
 |0,_,_,hm=>by omega
 |k+1,s,hi,hm=>by
  show f (aM k f) s=g s;exact h _ s hi (fun b c hm'=>qK g m I h k b c (by omega))
theorem Qy{σ c ρ d:Type}{f:(σ->Option ρ)->σ->Option ρ}{e:(c->Option d)->c->Option d}(R:σ->c->Prop)(S:Option ρ->Option d->Prop)(i:S none none)
 (h:∀G G' s b,R s b->(∀t t',R t t'->S (G t) (G' t'))->S (f G s) (e G' b)):∀(k:Nat) (s:σ) (b:c),R s b->S (aM k f s) (aM k e b)
 |0,_,_,_=>i
 |k+1,s,b,hr=>h _ _ s b hr (fun t t' j=>Qy R S i h k t t' j)
theorem Eh{σ ρ:Type}{f:(σ->Option ρ)->σ->Option ρ}(m:σ->Nat)(I:σ->Prop)(P:ρ->Prop)
 (h:∀G s,I s->(∀b,I b->m b<m s->∃r,G b=some r/\P r)->∃r,f G s=some r/\P r):∀(k:Nat) (s:σ),I s->m s<k->∃r,aM k f s=some r/\P r
 |0,_,_,hm=>by omega
 |k+1,s,hi,hm=>h _ s hi (fun b c hm'=>Eh m I P h k b c (by omega))
def ag:(τ:Ty)->τ.den->Nat
 | .int _,_=>0
 | .bool,_=>0
 | .str,s=>s.size
 | .sl e,l=>l.length+(l.map (ag e)).sum
 | .pair a b,p=>ag a p.1+ag b p.2
theorem dp{α:Type}{l:List α}{i:Nat}{d:α}(h:i<l.length):l.getD i d∈l:=by
 rw[agy,agN h];simp
theorem gX{α:Type}{l:List α}{i:Nat}{d:α}(h:i<l.length):l.drop i=l.getD i d::l.drop (i+1):=by
 rw[ahl h,agy,agN h];rfl
def allEq{α:Type}(p:α->α->Bool):List α->List α->Bool
 | [],[]=>true
 |a::l,b::m=>p a b&&allEq p l m
 |_,_=>false
theorem Nn{α:Type}{p:α->α->Bool}:∀ {l m:List α},l.length≠m.length->allEq p l m=false
 | [],[],h=>absurd rfl h
 |a::l,b::m,h=>by
  simp only[allEq];rw[Nn (l:=l) (m:=m) (fun e=>h (by simp[e]))];simp
 | [],_::_,_|_::_,[],_=>rfl
def eqR{α:Type}(k:Nat)(d:α)(S:α×α×Unit->Option (Bool×Unit))(x:List α×List α×Unit):Option (Bool×Unit):=
 if((((x_ x.1:Nat):Int):Int) != ((x_ x.2.1:Nat):Int))=true then
  some (false,())
 else
  aM k (fun b (t2:List α×List α×Int×Int×Unit)=>
   if(decide ((t2.2.2.2.1:Int)<t2.2.2.1))=true then
    if(decide (0<=t2.2.2.2.1/\t2.2.2.2.1<((x_ t2.1:Nat):Int)))=true then
     if(decide (0<=t2.2.2.2.1/\t2.2.2.2.1<((x_ t2.2.1:Nat):Int)))=true then
      ahe (S (ahr t2.1 (ahg t2.2.2.2.1) d,ahr t2.2.1 (ahg t2.2.2.2.1) d,())) fun(r3:Bool×Unit)=>
      if(!r3.1)=true then
       some (false,())
      else
       b (t2.1,t2.2.1,t2.2.2.1,IntKind.i64.wrap (t2.2.2.2.1+1),())
     else
      none
    else
     none
   else
    some (true,())) (x.1,x.2.1,((x_ x.1:Nat):Int),0,())
theorem SY{α:Type}{k:Nat}{d:α}{S:α×α×Unit->Option (Bool×Unit)}{p:α->α->Bool}{l m:List α}(hk:9223372036854775808<=k)(hl:l.length<=281474976710656)(h:∀a∈l,∀b∈m,S (a,b,())=some (p a b,())):
 eqR k d S (l,m,())=some (allEq p l m,()):=by
 unfold eqR;simp only;by_cases hlen:l.length=m.length;rw[a_ (by simp[hlen])]
 rw[qK (g:=fun(s:List α×List α×Int×Int×Unit)=>some (allEq p (l.drop s.2.2.2.1.toNat) (m.drop s.2.2.2.1.toNat),())) (m:=fun(s:List α×List α×Int×Int×Unit)=>l.length-s.2.2.2.1.toNat)
  (I:=fun(s:List α×List α×Int×Int×Unit)=>s.1=l/\s.2.1=m/\s.2.2.1=(l.length:Int)/\0<=s.2.2.2.1/\s.2.2.2.1<=(l.length:Int))]
 simp;rintro G ⟨l',m',n,i,u⟩ ⟨e1,e2,e3,hi0,hi1⟩ hG;change l'=l at e1;change m'=m at e2;change n=_ at e3;subst e1 e2 e3;simp only at hi0 hi1 hG|-;by_cases c:i<(l'.length:Int);have e:i.toNat<l'.length:=by omega
 have f:i.toNat<m'.length:=by omega
 rw[an (by simpa using c),an (by simpa using⟨hi0,c⟩),an (by simpa using⟨hi0,by omega⟩)];rw[h _ (dp e) _ (dp f),agZ,gX (d:=d) e,gX (d:=d) f];simp only[allEq];cases p (l'.getD i.toNat d) (m'.getD i.toNat d)with
 |true=>
  rw[a_ (by simp),wrap64 (by omega) (by omega),hG (l',m',_,i+1,()) ⟨rfl,rfl,rfl,by simp only;omega,by simp only;omega⟩ (by simp only;omega)];simp only[Bool.true_and];rw[show(i+1).toNat=i.toNat+1 by omega]
 |false=>rfl
 rw[a_ (by simpa using c),ag7 (by omega),ag7 (by omega)];rfl;exact⟨rfl,rfl,rfl,by simp,by simp⟩;simp only;omega;rw[an (by simp;omega),Nn hlen]
theorem dn{α:Type}{c:Prop}[Decidable c](a b:α):(if c then some a else some b)=some (if c then a else b):=by split<;>rfl
theorem toList_inj{a b:ByteArray}(h:a.toList=b.toList):a=b:=by
 rw[ByteArray.toList_eq,ByteArray.toList_eq]at h;cases a;cases b;simp at h;rw[h]
theorem vm:∀ {τ:Ty} {a b:τ.den},τ.flat=true->(eqv τ a b=true↔a=b)
 | .int _,a,b,_=>by simp[eqv]
 | .bool,a,b,_=>by simp[eqv]
 | .str,a,b,_=>by
   simp only[eqv,beq_iff_eq];exact⟨toList_inj,fun h=>by rw[h]⟩
 | .pair x y,a,b,h=>by
   simp only[Ty.flat,t_]at h;simp only[eqv,t_,vm h.1,vm h.2];exact⟨fun h=>Prod.ext h.1 h.2,fun h=>by rw[h];exact⟨rfl,rfl⟩⟩
 | .sl _,_,_,h=>by simp[Ty.flat]at h
theorem PI{α:Type}{f:α->Nat}:∀ {l:List α} {x:α},x∈l->f x<=(l.map f).sum
 |y::l,x,h=>by
  simp only[agQ,ahh];rcases agF.1 h with rfl|h;omega;have:=PI (f:=f) h;omega
theorem dK{e:Ty}{l:List e.den}{x:e.den}(b:x∈l):ag e x<=ag (.sl e) l:=by
 simp only[ag];have:=PI (f:=ag e) b;omega
theorem aA{e:Ty}{l:List e.den}:l.length<=ag (.sl e) l:=by simp only[ag];omega
def bL(a n:Nat)(p:Nat->Bool):Bool:=(ahw a (n-a)).all p
theorem cA{a n:Nat}{p:Nat->Bool}:bL a n p=true↔∀i,a<=i->i<n->p i=true:=by
 simp only[bL,agY,ahk];constructor;intro h i b h2;exact h i ⟨b,by omega⟩;intro h i c;exact h i c.1 (by omega)
theorem Na{a n:Nat}{p:Nat->Bool}(h:a<n):bL a n p=(p a&&bL (a+1) n p):=by
 unfold bL;rw[show n-a=(n-(a+1))+1 by omega,agO];rfl
theorem kY{a n:Nat}{p:Nat->Bool}(h:n<=a):bL a n p=true:=by
 unfold bL;rw[show n-a=0 by omega];rfl
theorem k9{a n:Nat}{p q:Nat->Bool}:bL a n (fun i=>p i&&q i)=(bL a n p&&bL a n q):=by
 rw[ahq,t_,cA,cA,cA];simp only[t_];exact⟨fun H=>⟨fun i b c=>(H i b c).1,fun i b c=>(H i b c).2⟩,fun H i b c=>⟨H.1 i b c,H.2 i b c⟩⟩
theorem Sw{n m:Nat}:bL 0 n (fun i=>decide (i<m))=decide (n<=m):=by
 rw[ahq,cA];simp only[b_];constructor;intro h;rcases H_ m n with b|b;have:=h m (by omega) b;omega;exact b;intro h i _ h2;omega
theorem dZ{σ ρ:Type}{f:(σ->Option ρ)->σ->Option ρ}(st:Nat->σ)(p:Nat->Bool)(n:Nat){e no:Option ρ}
 (b:∀G i,i<n->f G (st i)=if p i=true then G (st (i+1))else no) (c:∀G i,n<=i->f G (st i)=e):
 ∀(k a:Nat),n-a<k->aM k f (st a)=if bL a n p=true then e else no
 |0,_,h=>by omega
 |k+1,a,h=>by
  show f (aM k f) (st a)=_;by_cases d:a<n;rw[b _ a d,Na d,dZ st p n b c k (a+1) (by omega)];cases p a<;>simp;rw[c _ a (by omega),kY (by omega),an rfl]
theorem PC{σ ρ:Type}{f:(σ->Option ρ)->σ->Option ρ}(st:Nat->σ)(p:Nat->Bool)(n:Nat){e yes:Option ρ}
 (b:∀G i,i<n->f G (st i)=if p i=true then yes else G (st (i+1))) (c:∀G i,n<=i->f G (st i)=e) (k a:Nat) (h:n-a<k):
 aM k f (st a)=if bL a n (fun i=> !p i)=true then e else yes:=
 dZ st (fun i=> !p i) n (fun G i d=>by rw[b G i d];cases p i<;>rfl) c k a h
theorem cV{σ ρ:Type}{f:(σ->Option ρ)->σ->Option ρ}(st:Nat->σ)(n:Nat){e:Option ρ}(b:∀G i,i<n->f G (st i)=G (st (i+1)))(c:∀G,f G (st n)=e):
 ∀(k a:Nat),a<=n->n-a<k->aM k f (st a)=e
 |0,_,_,h=>by omega
 |k+1,a,ha,h=>by
  show f (aM k f) (st a)=_;by_cases d:a=n;subst d;exact c _;rw[b _ a (by omega),cV st n b c k (a+1) (by omega) (by omega)]
theorem br{i:Nat}(h:i<4611686018427387904):IntKind.i64.wrap ((i:Int)+1)=((i+1:Nat):Int):=by
 rw[wrap64 (by omega) (by omega)];rfl
theorem xA{i:Nat}(h:i<4611686018427387904):IntKind.i64.wrap ((i:Int)-1)=(i:Int)-1:=wrap64 (by omega) (by omega)
theorem aG{i n:Nat}(h:i<n):(decide ((0:Int)<=(i:Int)/\(i:Int)<(n:Int)))=true:=by simp;omega
theorem aJ{i n:Nat}:(decide ((i:Int)<(n:Int)))=decide (i<n):=by simp
theorem eu(a b:Int):(a==b)=decide (a=b):=rfl
theorem lT(a b:Int):(a != b)= !decide (a=b):=rfl
theorem tbf:(true==false)=false:=rfl
theorem fbt:(false==true)=false:=rfl
theorem oI{α:Type}{l:List α}{i:Nat}(d:α)(h:i<l.length):l.take (i+1)=l.take i++[l.getD i d]:=by
 rw[ag8 h,agy,agN h];rfl
theorem filter_one{α:Type}(p:α->Bool)(a:α):[a].filter p=if p a=true then [a]else []:=by
 cases h:p a<;>simp[List.filter,h]
theorem map_take{α β:Type}{f:α->β}{l:List α}{i:Nat}(d:α)(h:i<l.length):(l.take (i+1)).map f=(l.take i).map f++[f (l.getD i d)]:=by
 rw[oI d h,ahs];rfl
def cpS{α β:Type}(k:Nat)(d:α)(S:α×Unit->Option (β×Unit))(x:List α×Unit):Option (List β×Unit):=
 aM k (fun c (t2:List α×List β×Int×Unit)=>
  if(decide ((t2.2.2.1:Int)<((x_ t2.1:Nat):Int)))=true then
   if(decide (0<=t2.2.2.1/\t2.2.2.1<((x_ t2.1:Nat):Int)))=true then
    ahe (S (ahr t2.1 (ahg t2.2.2.1) d,())) fun(b:β×Unit)=>
    if(decide (x_ t2.2.1+x_ ([b.1]:List β)<4294967296))=true then
     c (t2.1,t2.2.1++([b.1]:List β),IntKind.i64.wrap (t2.2.2.1+(1:Int)),())
    else
     none
   else
    none
  else
   some (t2.2.1,())) (x.1,([]:List β),(0:Int),())
theorem aaT{α β:Type}{k:Nat}{d:α}{S:α×Unit->Option (β×Unit)}(f:α->β){l:List α}(hk:9223372036854775808<=k)(hl:l.length<=1073741824)(c:∀e∈l,S (e,())=some (f e,())):cpS k d S (l,())=some (l.map f,()):=by
 unfold cpS;refine cV (fun i=>(l,(l.take i).map f,(i:Int),())) l.length (fun G i b=> ?_) (fun G=> ?_) k 0 (by omega) (by omega);simp only[aJ,aG b,b,decide_true,if_true,ahL];rw[c _ (dp b),agZ,an (by simp;omega),br (by omega),map_take d b];simp
def cpR{α β:Type}(k:Nat)(d:α)(S:α×Unit->Option (β×Unit))(x:List α×Unit):Option (List β×Unit):=
 aM k (fun c (t2:List β×List α×Int×Int×Unit)=>
  if(decide ((t2.2.2.2.1:Int)<t2.2.2.1))=true then
   if(decide (0<=t2.2.2.2.1/\t2.2.2.2.1<((x_ t2.2.1:Nat):Int)))=true then
    ahe (S (ahr t2.2.1 (ahg t2.2.2.2.1) d,())) fun(b:β×Unit)=>
    if(decide (x_ t2.1+x_ ([b.1]:List β)<4294967296))=true then
     c (t2.1++([b.1]:List β),t2.2.1,t2.2.2.1,IntKind.i64.wrap (t2.2.2.2.1+(1:Int)),())
    else
     none
   else
    none
  else
   some (t2.1,())) (([]:List β),x.1,((x_ x.1:Nat):Int),(0:Int),())
theorem aa8{α β:Type}{k:Nat}{d:α}{S:α×Unit->Option (β×Unit)}(f:α->β){l:List α}(hk:9223372036854775808<=k)(hl:l.length<=1073741824)(c:∀e∈l,S (e,())=some (f e,())):cpR k d S (l,())=some (l.map f,()):=by
 unfold cpR;refine cV (fun i=>((l.take i).map f,l,(l.length:Int),(i:Int),())) l.length (fun G i b=> ?_) (fun G=> ?_) k 0 (by omega) (by omega);simp only[aJ,aG b,b,decide_true,if_true,ahL];rw[c _ (dp b),agZ,an (by simp;omega),br (by omega),map_take d b];simp
theorem Dj{α:Type}{k:Nat}{d:α}{S:α×Unit->Option (α×Unit)}{l:List α}(b:9223372036854775808<=k)(c:l.length<=1073741824)(f:∀e∈l,S (e,())=some (e,())):cpS k d S (l,())=some (l,()):=by
 have:=aaT (d:=d) (fun e=>e) b c f;rwa [List.map_id']at this
theorem aaj{α:Type}{k:Nat}{d:α}{S:α×Unit->Option (α×Unit)}{l:List α}(b:9223372036854775808<=k)(c:l.length<=1073741824)(f:∀e∈l,S (e,())=some (e,())):cpR k d S (l,())=some (l,()):=by
 have:=aa8 (d:=d) (fun e=>e) b c f;rwa [List.map_id']at this
theorem uX{e:Ty}(p:e.den->Bool):∀(l:List e.den),ag (.sl e) (l.filter p)<=ag (.sl e) l
 | []=>l5 _
 |x::l=>by
  have:=uX p l;by_cases h:p x=true;rw[ag4 h];simp only[ag,agG,agQ,ahh]at this|-;omega;rw[List.filter_cons_of_neg h];simp only[ag,agG,agQ,ahh]at this|-;omega
theorem iS{e:Ty}(l m:List e.den):ag (.sl e) (l++m)=ag (.sl e) l+ag (.sl e) m:=by
 simp only[ag,agR,ahs,List.sum_append];omega
theorem cG{e:Ty}(x:e.den)(l:List e.den):ag (.sl e) (x::l)=1+ag e x+ag (.sl e) l:=by
 simp only[ag,agG,agQ,ahh];omega
theorem bu{e:Ty}:ag (.sl e) ([]:List e.den)=0:=by simp[ag]
theorem nu{e:Ty}:∀(l:List e.den) (i:Nat) (x:e.den),i<l.length->ag (.sl e) (l.set i x)+ag e (l.getD i e.aa)=ag (.sl e) l+ag e x
 | [],i,x,h=>by simp at h
 |y::l,0,x,h=>by rw[List.set_cons_zero,cG,cG];simp;omega
 |y::l,i+1,x,h=>by
  have:=nu l i x (by simpa using h);rw[List.set_cons_succ,cG,cG,ahd];omega
theorem dw{e:Ty}(l:List e.den)(i:Nat):ag (.sl e) (l.take i)+ag (.sl e) (l.drop i)=ag (.sl e) l:=by
 rw[<-iS,List.take_append_drop]
def gC(n:Nat)(p:Nat->Bool):Option Nat:=(List.range n).find? p
def gD:Option Nat->Int
 |some i=>(i:Int)
 |none=> -1
theorem aV{n:Nat}{p:Nat->Bool}{i:Nat}:gC n p=some i↔i<n/\p i=true/\∀j,j<i->p j=false:=by
 unfold gC;rw[List.find?_range_eq_some];constructor;rintro⟨c,d,e⟩;exact⟨ahY.1 d,c,fun j b=>by simpa using e j b⟩;rintro⟨c,d,e⟩;exact⟨d,ahY.2 c,fun j b=>by simpa using e j b⟩
theorem iQ{n:Nat}{p:Nat->Bool}:gC n p=none↔∀i,i<n->p i=false:=by
 unfold gC;rw[List.find?_range_eq_none];constructor;intro h i b;simpa using h i b;intro h i b;simpa using h i b
theorem kF{σ ρ:Type}{f:(σ->Option ρ)->σ->Option ρ}(st:Nat->σ)(p:Nat->Bool)(n:Nat){e:Option ρ}(b:Nat->Option ρ)
 (c:∀G i,i<n->f G (st i)=if p i=true then b i else G (st (i+1))) (d:∀G,f G (st n)=e) (k:Nat) (hk:n<k):
 aM k f (st 0)=match gC n p with|some i=>b i|none=>e:=by
 have key:∀(k a:Nat),a<=n->n-a<k->(∀j,j<a->p j=false)->aM k f (st a)=match gC n p with|some i=>b i|none=>e:=by
  intro k
  induction k with
  |zero=>intro a _ h;omega
  |succ k q=>
   intro a ha h m;show f (aM k f) (st a)=_;by_cases o:a=n;subst o;rw[d,(iQ (n:=a) (p:=p)).2 m];rw[c _ a (by omega)];cases l:p a with
   |true=>rw[an rfl,(aV (i:=a)).2 ⟨by omega,l,m⟩]
   |false=>
    rw[a_ (by simp),q (a+1) (by omega) (by omega) (fun j hj=>by
     rcases H_ j a with h|h;exact m j h;obtain rfl:j=a:=by omega
     exact l)]
 exact key k 0 (by omega) (by omega) (by omega)
def lr(a b:ByteArray):Bool:=Op.bytesLess a.toList b.toList
def bq:List (ByteArray×ByteArray)->List (ByteArray×ByteArray)->Bool
 | [],b=> !b.isEmpty
 |_::_,[]=>false
 |a::l,b::m=>if a.1.toList==b.1.toList then(if a.2.toList==b.2.toList then bq l m else lr a.2 b.2)else lr a.1 b.1
def cI{α:Type}(lt:α->α->Bool)(x:α):List α->List α
 | []=>[x]
 |y::r=>if lt x y=true then y::cI lt x r else x::y::r
def cD{α:Type}(lt:α->α->Bool)(l:List α):List α:=(l.foldl (fun r x=>cI lt x r) []).reverse
abbrev dB(a b:List (ByteArray×ByteArray)×Int×Int×ByteArray):Bool:=bq a.1 b.1
def dN(l:List (List (ByteArray×ByteArray)×Int×Int×ByteArray)):List (List (ByteArray×ByteArray)×Int×Int×ByteArray):=cD dB l
abbrev fg:Ty:= .pair (.sl (.pair .str .str)) (.pair (.int .i64) (.pair (.int .i64) .str))
def vQ(x:List fg.den×Unit):Option (List fg.den×Unit):=
 if(decide (x.1.length<1152921504606846976)&&x.1.all fun a=>decide (a.1.length<4611686018427387904))=true then some (dN x.1,())else none
abbrev dG:Ty:= .pair (.int .i64) (.pair (.int .i64) (.pair fg (.pair (.sl (.pair .str .str)) (.pair (.int .i64) (.pair (.int .i64) (.pair (.int .i64) (.pair (.sl fg) (.pair (.int .i64) (.pair (.int .i64) (.pair (.int .i64) (.int .i64)))))))))))
def js(d:dG.den):Int:=d.2.2.2.2.2.2.2.2.2.2.1
def oT(l:List dG.den)(x y:Int):Bool:=decide (js (l.getD x.toNat dG.aa)<js (l.getD y.toNat dG.aa))
def XG(k:Nat)(x:List dG.den×Unit):Option (List Int×Unit):=
 aR (fun c=>
  aM k (fun b (t4:List dG.den×List Int×List dG.den×Int×Int×Unit)=>
   if(decide ((t4.2.2.2.2.1:Int)<t4.2.2.2.1))=true then
    if(decide (0<=t4.2.2.2.2.1/\t4.2.2.2.2.1<((x_ t4.2.2.1:Nat):Int)))=true then
     if((js (ahr t4.2.2.1 (ahg t4.2.2.2.2.1) dG.aa):Int) != (-1:Int))=true then
      if(decide (x_ t4.2.1+x_ ([t4.2.2.2.2.1]:List Int)<4294967296))=true then
       b (t4.1,t4.2.1++([t4.2.2.2.2.1]:List Int),t4.2.2.1,t4.2.2.2.1,IntKind.i64.wrap (t4.2.2.2.2.1+(1:Int)),())
      else
       none
     else
      b (t4.1,t4.2.1,t4.2.2.1,t4.2.2.2.1,IntKind.i64.wrap (t4.2.2.2.2.1+(1:Int)),())
    else
     none
   else
    c (t4.1,t4.2.1,())) (x.1,([]:List Int),x.1,((x_ x.1:Nat):Int),(0:Int),())) (fun(t2:List dG.den×List Int×Unit)=>some t2)
 |>.bind fun t=>
  if(decide (t.2.1.length<1152921504606846976)&&decide (t.1.length<4611686018427387904)&&t.2.1.all (fun x=>decide (0<=x/\x<(t.1.length:Int))))=true then some (cD (oT t.1) t.2.1,())else none
end Vg
namespace Vg
open Go Go.RowKit
theorem Qd{w:World}:∀ {l:List ByteArray} {cs:List Value} {B:List Nat},aN (aK w .str) l cs B->cs=l.map Value.string
 | [],_,_,h=>h.1
 |x::l,cs,B,h=>by
  obtain⟨c1,c2,B1,B2,rfl,_,b,c⟩:=h;rw[b.1,Qd c];rfl
theorem aay{l:List ByteArray}{j:Nat}{x:ByteArray}(h:l[j]?=some x):(l.map Value.string)[j]?=some (.string x):=by rw[List.getElem?_map,h];rfl
theorem UN{ps:List PK}{τ:Ty}{F:aW (ps.map PK.ty)->Option (aW ([RK.val τ .leaf].map RK.ty++bn ps))}{w w':World}{f:Gh}{args:List Value}{k:Nat}{L:List SV}(c:Jc w f L args k)
 (j:∀x:aW (bn ps),db [2,1] ps x (fp ps 0 4)=fun _=>[]) {y:aW ([RK.val τ .leaf].map RK.ty++bn ps)} {mv:Value} (e:Below w.heap.size w w')
 (l:ck w' f (.d ⟨τ,y.1,.leaf⟩) mv):uB ⟨ps,[.val τ .leaf],F,[]⟩ w f args y mv w' f [mv] k where
 val:=rfl
 len:=rfl
 res i:=by
  cases i with
  |zero=>exact l
  |succ i=>
   have:(bf [RK.val τ .leaf] (bn ps) y (bP ps 4) [2,1]).1.getD (i+1) .no= .no:=by
    show([SV.d ⟨τ,y.1,Sh.leaf⟩]).getD (i+1) .no= .no;rfl
   rw[this];trivial
 ios t i v h:=by rw[j]at h;cases h
 frame b hbs _:=⟨rfl,e.block b hbs⟩
 one b h:=⟨(c.colU b (by omega)).2,rfl⟩
 size:=e.size
 os:=e.os
 tape:=e.tape
 output:=e.output
 lt b h:=ahG (c.colU b h).2 e.size
 fresh b h:=by rw[e.block b (c.colU b (by omega)).2];exact c.fresh b h
 kept q hq:=by cases hq
theorem A4{P:Program}{f:FuncId}{fn:Func}(j:P.funcs[f]?=some fn)(b:(fn.name== "runtime.NumGoroutine")=false)(k:fn.body.isSome=true){w:World}{args:Array Value}{R:Value->World->Prop}
 (h:Calls P f args w (fun e w'=>∃v,e= .returned v/\R v w')):qx P f args w R:=by
 obtain⟨c,hc⟩:=Option.isSome_iff_exists.1 k
 have d:(callFunc f args).run P w= .ok (.enter f args) w:=by
  have i:fn.name≠ "runtime.NumGoroutine" :=by simpa using b
  unfold callFunc;simp[j,i,hc]
 unfold qx;rw[d];exact h
def fo(l:List ByteArray)(sep:ByteArray):List UInt8:=Lib.join (l.map (·.data.toList)) sep.data.toList
def Bc(x:List ByteArray×ByteArray×Unit):Option (ByteArray×Unit):=
 if x.1.length<=140737488355328/\(fo x.1 x.2.1).length<=140737488355328 then some (⟨(fo x.1 x.2.1).toArray⟩,())else none
theorem TX{P:Program}{f:FuncId}{fn:Func}(W:P.funcs[f]?=some fn)(i:(fn.name== "runtime.NumGoroutine")=false)(X:fn.body.isSome=true)
 (Y:∀(a:Option Addr) (c:Nat) (sep:ByteArray) (w:World),Calls P f #[.slice a 0 c,.string sep] w fun e w'=>e= .returned (.string ⟨#[]⟩)/\w'=w)
 (Z:∀(z o c:Nat) (xs:List ByteArray) (sep:ByteArray) (w:World),(∀(j:Nat) x,xs[j]?=some x->w.cell? ⟨z,o+j,none⟩=some (.string x))->z<w.heap.size->xs.length<=140737488355328->xs.length<=c->
  (Lib.join (xs.map (·.data.toList)) sep.data.toList).length<=140737488355328->
  Calls P f #[.slice (some ⟨z,o,none⟩) xs.length c,.string sep] w fun e w'=>e= .returned (.string ⟨(Lib.join (xs.map (·.data.toList)) sep.data.toList).toArray⟩)/\Below w.heap.size w w'):
 mz P f ⟨[.val (.sl .str) .shr,.val .str .leaf],[.val .str .leaf],Bc,[]⟩:=by
 intro w s args x y k h;obtain⟨l,sep,u⟩:=x;have hlen:args.length=2:=h.len
 obtain⟨v0,v1,rfl⟩:∃v0 v1,args=[v0,v1]:=by
  match args,hlen with
  | [a,b],_=>exact⟨a,b,rfl⟩
 have s0:ck w s (.d ⟨.sl .str,l,.sl (.sha [1])⟩) v0:=h.slots 0;have s1:ck w s (.d ⟨.str,sep,.leaf⟩) v1:=h.slots 1;obtain⟨O,e1,q1⟩:=s1;have A:O=[.string sep]:=q1;subst A;have D:v1= .string sep:=e1;subst D;obtain⟨cs0,e0,v,rfl,m⟩:=s0;have H:v0=v:=e0;subst H;have k:Bc (l,sep,u)=some y:=k;unfold Bc at k;split at k;rename_i hc;have I:=ahU k;subst I;refine A4 W i X ?_;obtain⟨⟨B,p,_⟩,_⟩:=m
 have fin:∀w',Below w.heap.size w w'->∃S T V,uB ⟨[.val (.sl .str) .shr,.val .str .leaf],[.val .str .leaf],Bc,[]⟩ w s [v0,.string sep] (⟨(fo l sep).toArray⟩,()) (.string ⟨(fo l sep).toArray⟩) w' S T V:=
  fun w' t=>⟨s,_,_,UN (ps:=[.val (.sl .str) .shr,.val .str .leaf]) (τ:= .str) (F:=Bc) (y:=(⟨(fo l sep).toArray⟩,())) h (fun _=>by funext n;rfl) t ⟨[.string ⟨(fo l sep).toArray⟩],rfl,rfl⟩⟩
 rcases p with⟨⟨ao,rfl⟩,rfl,_⟩|⟨b,off,cap,c,el,fz,Bs,rfl,q,r,hsz,_,hl⟩;refine(Y ao 0 sep w).mono fun e w' ⟨he,hw⟩=>⟨_,he,?_⟩
 subst hw;exact fin _ (Below.refl _ _);have J:=Qd hl;refine(Z b off cap l sep w (fun j x R=> ?_) (lt_of_block r) hc.1 q hc.2).mono fun e w' ⟨he,hw⟩=>⟨_,he,fin _ hw⟩
 unfold World.cell?;simp only[r,agz,N',if_false];have K:j<l.length:=(List.getElem?_eq_some_iff.1 R).1;have N:=aay (l:=l) R;rw[<-J]at N;simp only[agA,agB,Ty.sz,ahN,K,if_true,V']at N;exact N;cases k
end Vg
namespace Go.Proofs
open Go.Shelf Go.RowKit Go.Lib Go.Sort
variable{P:Program}{ρ:Ren}{α:Type}[Inhabited α]
def L8{α:Type}(enc:α->List Value)(b:α->List (ByteArray×ByteArray))(e:Nat)(w:World):Prop:=
 ∀x:α,∃p c,(enc x)[0]?=some (.slice p (b x).length c)/\(b x).length<4611686018427387904/\
  ∀i,i<(b x).length->∃d o,p=some ⟨d,o,none⟩/\d≠e/\d<w.heap.size/\w.cell? ⟨d,o+i*2,none⟩=some (.string ((b x).getD i (ByteArray.empty,ByteArray.empty)).1)/\
   w.cell? ⟨d,o+i*2+1,none⟩=some (.string ((b x).getD i (ByteArray.empty,ByteArray.empty)).2)
end Go.Proofs
namespace Vg
open Go Go.RowKit
section
variable{α:Type}
theorem Fw(lt:α->α->Bool)(x:α):∀r:List α,(cI lt x r).Perm (x::r)
 | []=>List.Perm.refl _
 |y::r=>by
  unfold cI;split
  ·exact((Fw lt x r).cons y).trans (List.Perm.swap x y r)
  ·exact List.Perm.refl _
theorem Cd(lt:α->α->Bool):∀(l r:List α),(l.foldl (fun r x=>cI lt x r) r).Perm (l++r)
 | [],r=>List.Perm.refl _
 |x::l,r=>by
  rw[aht];exact(Cd lt l _).trans ((List.Perm.append_left l (Fw lt x r)).trans (List.perm_middle))
theorem gF(lt:α->α->Bool)(l:List α):(cD lt l).Perm l:=by
 unfold cD;refine(List.reverse_perm _).trans ?_;have:=Cd lt l [];rwa [ahu]at this
theorem rG{β:Type}{lt:α->α->Bool}{lt':β->β->Bool}(f:α->β)(h:∀x y,lt x y=lt' (f x) (f y))(x:α):∀r:List α,(cI lt x r).map f=cI lt' (f x) (r.map f)
 | []=>rfl
 |y::r=>by
  simp only[cI,agQ,h];split<;>simp[rG f h x r]
theorem CZ{β:Type}{lt:α->α->Bool}{lt':β->β->Bool}(f:α->β)(h:∀x y,lt x y=lt' (f x) (f y)):∀(l r:List α),(l.foldl (fun r x=>cI lt x r) r).map f=(l.map f).foldl (fun r x=>cI lt' x r) (r.map f)
 | [],r=>rfl
 |x::l,r=>by
  rw[aht,agQ,aht,CZ f h l,rG f h]
theorem uY{β:Type}{lt:α->α->Bool}{lt':β->β->Bool}(f:α->β)(h:∀x y,lt x y=lt' (f x) (f y))(l:List α):(cD lt l).map f=cD lt' (l.map f):=by
 unfold cD;rw[List.map_reverse,CZ f h];rfl
variable[Inhabited α]
theorem Nv(lt:α->α->Bool):∀(j:Nat) (p:List α) (x:α) (r:List α),p.length=j->Go.Sort.insInner lt 0 j (p++x::r).toArray=((cI lt x p.reverse).reverse++r).toArray
 |0,p,x,r,h=>by
  have:p=[]:=List.length_eq_zero_iff.1 h;subst this;rfl
 |j+1,p,x,r,h=>by
  obtain⟨q,y,rfl⟩:∃q y,p=q++[y]:=⟨p.dropLast,p.getLast (by intro e;rw[e]at h;cases h),(List.dropLast_concat_getLast _).symm⟩
  have b:q.length=j:=by simpa using h
  have d:(q++[y]++x::r).toArray[j+1]! =x:=by simp[<-b]
  have f:(q++[y]++x::r).toArray[j]! =y:=by simp[<-b]
  unfold Go.Sort.insInner;rw[d,f];by_cases c:lt x y=true;rw[an (by simp[c])]
  have i:Go.Sort.swp (q++[y]++x::r).toArray (j+1) j=(q++x::(y::r)).toArray:=by
   unfold Go.Sort.swp;rw[d,f];apply ahR;simp[<-b]
  rw[i,Nv lt j q x (y::r) b,ahE,ahy,agV];simp[cI,c];rw[a_ (by simp[c]),ahE,ahy,agV];simp[cI,c]
theorem Np(lt:α->α->Bool)(l:List α):∀(m i:Nat),i+m=l.length->Go.Sort.insOuter lt 0 l.length i (cD lt (l.take i)++l.drop i).toArray=(cD lt l).toArray
 |0,i,h=>by
  unfold Go.Sort.insOuter;rw[a_ (by omega),ag7 (by omega),ag6 (by omega),ahu]
 |m+1,i,h=>by
  have b:i<l.length:=by omega
  unfold Go.Sort.insOuter;rw[an b,ahl b];have hlen:(cD lt (l.take i)).length=i:=by rw[(gF lt (l.take i)).length_eq,List.length_take];omega
  rw[Nv lt i _ _ _ hlen]
  have:(cI lt l[i] (cD lt (l.take i)).reverse).reverse=cD lt (l.take (i+1)):=by
   unfold cD;rw[List.reverse_reverse,ag8 b,List.foldl_append];rfl
  rw[this];exact Np lt l m (i+1) (by omega)
theorem Q3(lt:α->α->Bool)(l:List α)(h:1<=l.length):Go.Sort.insertionSort lt l.toArray 0 l.toArray.size=(cD lt l).toArray:=by
 unfold Go.Sort.insertionSort;have:=Np lt l (l.length-1) 1 (by omega)
 have e:cD lt (l.take 1)++l.drop 1=l:=by
  cases l with
  |nil=>cases h
  |cons x l=>rfl
 rw[e]at this;simpa using this
theorem Ew{enc:α->List Value}{k:Nat}(b:∀x,(enc x).length=k)(d:0<k):∀(L:List α) (t:Nat),t<L.length*k->(L.flatMap enc)[t]?=some ((enc L[t/k]!)[t%k]!)
 | [],t,h=>by simp at h
 |x::L,t,h=>by
  rw[agE];by_cases c:t<k;rw[ahm (by rw[b];exact c),Nat.div_eq_of_lt c,Nat.mod_eq_of_lt c];have:t<(enc x).length:=by rw[b];exact c
  simp[this];rw[ahi (by rw[b];omega),b,Ew b d L (t-k) (by simp only[agG,ahv,agS]at h;omega)];have e:t/k=(t-k)/k+1:=by rw[Nat.div_eq_sub_div d (by omega)]
  have f:t%k=(t-k)%k:=by rw[Nat.mod_eq_sub_mod (by omega)]
  rw[e,f];rfl
theorem IE{enc:α->List Value}{k:Nat}(c:∀x,(enc x).length=k)(f:0<k)(L:List α):(Go.Sort.flatK enc k L.toArray).toList=L.flatMap enc:=by
 have h:(L.flatMap enc).length=L.length*k:=by
  induction L with
  |nil=>simp
  |cons x L i=>rw[agE,agR,i,c,agG,ahv,agS,Nat.add_comm]
 apply ahM;intro t;by_cases b:t<L.length*k;rw[Ew c f L t b];have d:t<(Go.Sort.flatK enc k L.toArray).size:=by simpa using b
 have e:=Go.Sort.get_flatK enc k L.toArray t (by simpa using b);rw[getElem!_pos _ t d]at e;rw[V',agJ d,e];simp;rw[ag9 (by simp;omega),ag9 (by rw[h];omega)]
end
theorem Jz{β:Type}{R:β->List Value->List Nat->Prop}:∀ {l:List β} {cs:List Value} {B:List Nat},aN R l cs B->
 ∃L:List (β×List Value×List Nat),(∀x∈L,R x.1 x.2.1 x.2.2)/\l=L.map (·.1)/\cs=L.flatMap (·.2.1)/\B=L.flatMap (·.2.2)
 | [],_,_,h=>⟨[],by simp,rfl,h.1,h.2⟩
 |x::l,cs,B,h=>by
  obtain⟨c,c2,d,B2,rfl,rfl,e,f⟩:=h;obtain⟨L,i,rfl,rfl,rfl⟩:=Jz f;exact⟨(x,c,d)::L,(fun y b=>by rcases agF.1 b with rfl|b;exact e;exact i y b),rfl,rfl,rfl⟩
theorem Kv{β:Type}{R:β->List Value->List Nat->Prop}:∀(L:List (β×List Value×List Nat)),(∀x∈L,R x.1 x.2.1 x.2.2)->aN R (L.map (·.1)) (L.flatMap (·.2.1)) (L.flatMap (·.2.2))
 | [],_=>⟨rfl,rfl⟩
 |x::L,h=>⟨x.2.1,_,x.2.2,_,rfl,rfl,h x (by simp),Kv L (fun y b=>h y (by simp[b]))⟩
theorem Qf{w:World}:∀ {l:List (ByteArray×ByteArray)} {cs:List Value} {B:List Nat},aN (aK w (.pair .str .str)) l cs B->B=[]/\∀i,i<l.length->cs[i*2]?=some (.string (l.getD i (ByteArray.empty,ByteArray.empty)).1)/\cs[i*2+1]?=some (.string (l.getD i (ByteArray.empty,ByteArray.empty)).2)
 | [],_,_,h=>⟨h.2,fun i b=>by simp at b⟩
 |x::l,cs,B,h=>by
  obtain⟨c1,c2,B1,B2,rfl,rfl,⟨d1,d2,C1,C2,rfl,rfl,⟨rfl,rfl⟩,⟨rfl,rfl⟩⟩,d⟩:=h;obtain⟨e,q⟩:=Qf d;refine⟨by rw[e];rfl,fun i b=> ?_⟩;cases i with
  |zero=>exact⟨rfl,rfl⟩
  |succ i=>
   obtain⟨q1,q2⟩:=q i (by simpa using b);have c:(i+1)*2=i*2+1+1:=by omega
   rw[c];simp only[agV,agX,agH,List.getElem?_cons_succ,ahd];exact⟨q1,q2⟩
theorem Fu{e:Ty}{F:aW [.sl e]->Option (aW [.sl e])}{w w':World}{m:Gh}{v:Value}{l D:List e.den}
 (k:Jc w m (bW [.val (.sl e) .own] (l,()) 4).1 [v] 5) {B B':List Nat} (hB:di w e.sz (aK w e) l v B) (s:∀b f,B=b::f->m.col b=4/\b∉f/\(∀x∈f,m.col x=4)/\f.Nodup)
 (H:di w' e.sz (aK w' e) D v B') (R:∀b f,B'=b::f->∃p,B=b::p/\f.Perm p)
 (n:∀b,b<w.heap.size->(∀f,B≠b::f)->w'.heap[b]?=w.heap[b]?) (u:∀b f,B=b::f->∃c el,w'.heap[b]?=some (.cells c el (0,0)))
 (o:w.heap.size<=w'.heap.size) (I:w'.os=w.os) (r:w'.tape=w.tape) (y:w'.output=w.output):
 ∃G' J K,uB ⟨[.val (.sl e) .own],[.val (.sl e) .own],F,[]⟩ w m [v] (D,()) v w' G' J K:=by
 refine⟨⟨fun b=>if m.col b=4 then 5 else m.col b,fun t=>if t=5 then v else m.hdr t,fun _=>false⟩,[v],6,?_⟩
 exact {
  kept:=fun q N=>by cases N
  val:=rfl
  len:=rfl
  res:=fun i=>by
   cases i with
   |zero=>
    show ck w' _ (.d ⟨.sl e,D,.sl (.row 5 [5] true)⟩) v;refine⟨[v],rfl,v,rfl,by omega,rfl,B',H,fun b f he=> ?_⟩;obtain⟨p,T,j⟩:=R b f he;obtain⟨q1,q2,q3,q4⟩:=s b p T;refine⟨by simp[q1],fun hm=>q2 (j.mem_iff.1 hm),fun x O=> ?_,fun _=>j.nodup_iff.2 q4⟩;have:=q3 x (j.mem_iff.1 O);simp[this]
   |succ i=>trivial
  ios:=fun t i x h=>by cases h
  frame:=fun b z hc=>by
   refine⟨by simp only;rw[a_ (by omega)],n b z (fun f he=> ?_)⟩;have:=(s b f he).1;omega
  one:=fun b h=>by
   simp only at h;split at h;omega;rename_i A;exact⟨(k.colU b (by omega)).2,by show m.col b=if m.col b=4 then 5 else m.col b;rw[a_ A]⟩
  size:=o
  os:=I
  tape:=r
  output:=y
  lt:=fun b h=>by
   simp only at h;refine ahG (k.colU b ?_).2 o;split at h<;>omega
  fresh:=fun b h=>by
   simp only at h;have S:4<=m.col b:=by split at h<;>omega
   obtain⟨c,el,hc⟩:=k.fresh b S;by_cases z:∃f,B=b::f;obtain⟨f,he⟩:=z;exact u b f he;rw[n b (k.colU b (by omega)).2 (fun f he=>z ⟨f,he⟩)];exact⟨c,el,hc⟩}
theorem CQ{α:Type}(lt:α->α->Bool):∀ {l:List α},l.length<=1->cD lt l=l
 | [],_=>rfl
 | [x],_=>rfl
 |_::_::_,h=>by simp at h
theorem Gq{α:Type}{p:α->Prop}:∀(L:List α),(∀x∈L,p x)->∃b:List {x//p x},b.map agL=L
 | [],_=>⟨[],rfl⟩
 |x::L,h=>by
  obtain⟨b,e⟩:=Gq L (fun y c=>h y (by simp[c]));exact⟨⟨x,h x (by simp)⟩::b,by rw[agQ,e]⟩
theorem Pq{F c:Array Value}{off:Nat}(h:off+F.size<=c.size):((Go.Sort.putCells id off F c).toList.drop off).take F.size=F.toList:=by
 apply ahM;intro t;rw[agA];split;rename_i b;rw[agB,V'];unfold Go.Sort.putCells;rw[Array.getElem?_mapIdx,agJ (show off+t<c.size by omega)];rw[Option.map_some,an ⟨by omega,by omega⟩,V',agJ b,show off+t-off=t by omega,getElem!_pos F t b];rfl;rw[ag9];simp;omega
theorem PQ(F c:Array Value)(off:Nat):(Go.Sort.putCells id off F c).size=c.size:=by simp[Go.Sort.putCells]
theorem Vv{w:World}{x:fg.den}{cs:List Value}{B:List Nat}(h:aK w fg x cs B):(∀v∈cs,v.oneCell'=true)/\
 ∃v b,cs[0]?=some v/\(∀y∈b,y∈B)/\di w 2 (aK w (.pair .str .str)) x.1 v b:=by
 obtain⟨c1,c2,b,B2,rfl,rfl,⟨v,rfl,c⟩,⟨d1,d2,C1,C2,rfl,rfl,⟨rfl,rfl⟩,⟨f1,f2,D1,D2,rfl,rfl,⟨rfl,rfl⟩,⟨rfl,rfl⟩⟩⟩⟩:=h;refine⟨fun u hu=> ?_,v,b,rfl,fun y d=>List.mem_append_left _ d,c⟩;simp only[agV,agF,List.not_mem_nil,or_false]at hu;rcases hu with rfl|rfl|rfl|rfl;exact c.one;rfl;rfl;rfl
theorem Sl{P:Program}{f:FuncId}{fn:Func}(hf:P.funcs[f]?=some fn)(a6:(fn.name== "runtime.NumGoroutine")=false)(hb:fn.body.isSome=true)
 (bk:∀(p:Option Addr) (n c:Nat),n<=1->∀w:World,Calls P f #[.slice p n c] w fun e w'=>e= .returned (.slice p n c)/\∃os,w'=Go.Sort.grow w os)
 (cg:∀ {α:Type} [Inhabited α] (enc:α->List Value) (_:∀x,(enc x).length=4) (_:∀x,∀v∈enc x,v.oneCell'=true) (a7:α->List (ByteArray×ByteArray)) (D off c:Nat) (d:Array α) (w:World)
  (_:2<=d.size) (_:d.size<1152921504606846976) (_:Go.Sort.HoldsK enc 4 w D off d) (_:D<w.heap.size) (_:Go.Proofs.L8 enc a7 D w),
  Calls P f #[.slice (some ⟨D,off,none⟩) d.size c] w fun e w'=>
   e= .returned (.slice (some ⟨D,off,none⟩) d.size c)/\∃n os,w'=Go.Sort.grow (Go.Sort.putRowK enc 4 (Go.Sort.ahead w n) D off (Go.Sort.insertionSort (fun x y=>bq (a7 x) (a7 y)) d 0 d.size)) os):
 mz P f ⟨[.val (.sl fg) .own],[.val (.sl fg) .own],vQ,[]⟩:=by
 intro w G0 args x y hy m;have hlen:args.length=1:=m.len
 obtain⟨v,rfl⟩:∃v,args=[v]:=by
  match args,hlen with
  | [a],_=>exact⟨a,rfl⟩
 obtain⟨l,u⟩:=x
 suffices H:∀(l:List fg.den) (y:List fg.den×Unit),vQ (l,())=some y->Jc w G0 (bW [.val (.sl fg) .own] (l,()) 4).1 [v] 5->
  qx P f [v].toArray w (fun mv w'=>∃G' vs nt,uB ⟨[.val (.sl fg) .own],[.val (.sl fg) .own],vQ,[]⟩ w G0 [v] y mv w' G' vs nt)from H l y hy m
 clear hy m u y hlen l;intro l y hy m;have s0:ck w G0 (.d ⟨.sl fg,l,.sl (.row 4 [4] true)⟩) v:=m.slots 0;obtain⟨cs,e0,v',rfl,_,_,B,hB,cz⟩:=s0;have ch:v=v':=e0;subst ch;have hB:di w fg.sz (aK w fg) l v B:=hB
 have s:∀b q,B=b::q->G0.col b=4/\b∉q/\(∀x∈q,G0.col x=4)/\q.Nodup:=fun b q he=>by
  obtain⟨q1,q2,q3,q4⟩:=cz b q he;exact⟨q1,q2,fun x W=>by simpa using q3 x W,q4 rfl⟩
 unfold vQ at hy;split at hy;rotate_left
 ·cases hy
 rename_i hc;simp only[t_,b_,agY]at hc;obtain⟨Sp,cL⟩:=hc;have cl:=ahU hy;subst cl;refine A4 hf a6 hb ?_
 have X:l.length<=1->∀os,∃G' vs nt,uB ⟨[.val (.sl fg) .own],[.val (.sl fg) .own],vQ,[]⟩ w G0 [v] (dN l,()) v (Go.Sort.grow w os) G' vs nt:=fun h1 os=>by
  have hs:∀b,b<w.heap.size->(Go.Sort.grow w os).heap[b]?=w.heap[b]?:=fun b h=>by
   show(w.heap++os)[b]?=_;rw[agv h]
  have e:dN l=l:=CQ _ h1;rw[e];refine Fu (e:=fg) m hB s (B':=B) (hB.mono (fun b hb=>hs b (di.bounds hB b hb))) (fun b q he=>⟨q,he,List.Perm.refl _⟩) (fun b h _=>hs b h) (fun b q he=> ?_) ?_ rfl rfl rfl
  ·obtain⟨c,el,hc⟩:=m.fresh b (by rw[(s b q he).1];exact l5 _);exact⟨c,el,by rw[hs b (lt_of_block hc)];exact hc⟩
  ·show w.heap.size<=(w.heap++os).size;rw[ag5];omega
 by_cases h1:l.length<=1
 ·obtain⟨p,n,c,hv,hn⟩:∃p n c,v= .slice p n c/\n<=1:=by
   rcases hB with⟨⟨ao,e⟩,_,_⟩|⟨b,off,cap,c,el,fz,q,e,_⟩
   ·exact⟨ao,0,0,e,by omega⟩
   ·exact⟨_,_,_,e,h1⟩
  subst hv;refine(bk p n c hn w).mono ?_;rintro e w' ⟨rfl,os,rfl⟩;exact⟨_,rfl,X h1 os⟩
 have bl:=hB;rcases hB with⟨_,e,_⟩|⟨b,off,cap,c,el,fz,q,rfl,b7,I,b8,rfl,hl⟩
 ·exact absurd (by rw[e];simp) h1
 obtain⟨q1,q2,q3,q4⟩:=s b q rfl
 have cp:fz=(0,0):=by
  obtain⟨c',el',ba⟩:=m.fresh b (by rw[q1];exact l5 _);rw[I]at ba;simp only[C_,Obj.cells.injEq]at ba;exact ba.2.2
 subst cp;obtain⟨L,hL,bb,cO,b9⟩:=Jz hl;have hbnd:∀x∈q,x<w.heap.size:=fun x W=>di.bounds bl x (by simp[W])
 have ct:∀x∈L,aK w fg x.1 x.2.1 x.2.2/\b∉x.2.2/\x.1.1.length<4611686018427387904:=fun x W=>by
  refine⟨hL x W,fun hm=>q2 (by rw[b9];exact List.mem_flatMap.2 ⟨x,W,hm⟩),cL x.1 ?_⟩;rw[bb];exact aho.2 ⟨x,W,rfl⟩
 obtain⟨J,Z⟩:=Gq L ct;have o:J.length=l.length:=by rw[bb,<-Z];simp
 haveI:Inhabited {x:fg.den×List Value×List Nat//aK w fg x.1 x.2.1 x.2.2/\b∉x.2.2/\x.1.1.length<4611686018427387904}:=⟨J.head (by intro e;rw[e]at o;simp at o;omega)⟩
 have a8:∀x:{x:fg.den×List Value×List Nat//aK w fg x.1 x.2.1 x.2.2/\b∉x.2.2/\x.1.1.length<4611686018427387904},x.val.2.1.length=4:=fun x=>aK.len x.property.1
 have K:∀M:List {x:fg.den×List Value×List Nat//aK w fg x.1 x.2.1 x.2.2/\b∉x.2.2/\x.1.1.length<4611686018427387904},(M.map agL).flatMap (fun x=>x.2.1)=M.flatMap (fun x=>x.val.2.1):=fun M=>by
  rw[List.flatMap_map]
 have bs:J.flatMap (fun x=>x.val.2.1)=(c.toList.drop off).take (l.length*4):=by
  rw[<-K,Z];exact cO.symm
 have hH:Go.Sort.HoldsK (fun x:{x:fg.den×List Value×List Nat//aK w fg x.1 x.2.1 x.2.2/\b∉x.2.2/\x.1.1.length<4611686018427387904}=>x.val.2.1) 4 w b off J.toArray:=by
  intro j hj;refine⟨?_,rZ I _⟩;rw[Go.Sort.size_flatK]at hj;have cv:j<J.length*4:=by simpa using hj
  rw[Go.Sort.get_flatK _ _ _ _ hj];have h2:=Ew (enc:=fun x:{x:fg.den×List Value×List Nat//aK w fg x.1 x.2.1 x.2.2/\b∉x.2.2/\x.1.1.length<4611686018427387904}=>x.val.2.1) a8 (by omega) J j cv;rw[bs,agA,an (by omega),agB,V']at h2;unfold World.cell?;simp only[I,agz,N',if_false];rw[h2];simp
 have bx:Go.Proofs.L8 (fun x:{x:fg.den×List Value×List Nat//aK w fg x.1 x.2.1 x.2.2/\b∉x.2.2/\x.1.1.length<4611686018427387904}=>x.val.2.1) (fun x=>x.val.1.1) b w:=by
  rintro⟨⟨a,ac,aB⟩,ha,c2,ca⟩;obtain⟨_,v1,B1,cb,cc,cd⟩:=Vv ha;rcases cd with⟨⟨ao,e1⟩,e2,_⟩|⟨b1,T,av,c1,el1,fz1,Bs1,e1,hcap1,V,hsz1,e2,c3⟩
  ·have b0:a.1=[]:=e2;refine⟨ao,0,?_,ca,fun i hi=> ?_⟩
   ·show ac[0]?=some (.slice ao a.1.length 0);rw[cb,e1,b0];rfl
   ·change i<a.1.length at hi;rw[b0]at hi;simp at hi
  ·refine⟨some ⟨b1,T,none⟩,av,?_,ca,fun i hi=> ?_⟩
   ·show ac[0]?=some (.slice (some ⟨b1,T,none⟩) a.1.length av);rw[cb,e1]
   ·change i<a.1.length at hi;obtain⟨_,hq⟩:=Qf c3;obtain⟨r1,r2⟩:=hq i hi;refine⟨b1,T,rfl,fun e=>c2 (cc b (by rw[e2,e];simp)),lt_of_block V,?_,?_⟩
    ·unfold World.cell?;simp only[V,agz,N',if_false];rw[agA,an (by show i*2<a.1.length*2;omega),agB,V']at r1;exact r1
    ·unfold World.cell?;simp only[V,agz,N',if_false];rw[agA,an (by show i*2+1<a.1.length*2;omega),agB,V']at r2;exact r2
 have r:=cg (fun x:{x:fg.den×List Value×List Nat//aK w fg x.1 x.2.1 x.2.2/\b∉x.2.2/\x.1.1.length<4611686018427387904}=>x.val.2.1) a8 (fun x=>(Vv x.property.1).1) (fun x=>x.val.1.1) b off cap J.toArray w
  (by simp;omega) (by simp;omega) hH (lt_of_block I) bx
 rw[Q3 _ J (by omega)]at r;have b3:J.toArray.size=l.length:=by simpa using o
 rw[b3]at r;refine r.mono ?_;rintro e w' ⟨rfl,n,os,hw⟩;refine⟨_,rfl,?_⟩;have b4:b<w.heap.size:=lt_of_block I;generalize b5:cD (fun x y:{x:fg.den×List Value×List Nat//aK w fg x.1 x.2.1 x.2.2/\b∉x.2.2/\x.1.1.length<4611686018427387904}=>bq x.val.1.1 y.val.1.1) J=LS at hw;have N:LS.Perm J:=by rw[<-b5];exact gF _ _
 have O:∀k,k<w.heap.size->k≠b->w'.heap[k]?=w.heap[k]?:=fun k hk a1=>by
  rw[hw];show((w.heap.modify b _)++os)[k]?=_;rw[agv (by rw[agI];exact hk),agW,a_ (fun h=>a1 h.symm)]
 have ad:w'.heap[b]?=some (.cells (Go.Sort.putCells id off (Go.Sort.flatK (fun x:{x:fg.den×List Value×List Nat//aK w fg x.1 x.2.1 x.2.2/\b∉x.2.2/\x.1.1.length<4611686018427387904}=>x.val.2.1) 4 LS.toArray) c) el (0,0)):=by
  rw[hw];show((w.heap.modify b _)++os)[b]?=_;rw[agv (by rw[agI];exact b4),agW,an rfl,I];rfl
 have t:LS.length=l.length:=by rw[N.length_eq,o]
 have b6:(Go.Sort.flatK (fun x:{x:fg.den×List Value×List Nat//aK w fg x.1 x.2.1 x.2.2/\b∉x.2.2/\x.1.1.length<4611686018427387904}=>x.val.2.1) 4 LS.toArray).size=l.length*4:=by
  rw[Go.Sort.size_flatK];simp[t]
 have hsz4:off+cap*4<=c.size:=b8
 have A:dN l=(LS.map agL).map (·.1):=by
  rw[bb,<-Z,<-b5,ahb,ahb];unfold dN;exact(uY (lt:=fun x y:{x:fg.den×List Value×List Nat//aK w fg x.1 x.2.1 x.2.2/\b∉x.2.2/\x.1.1.length<4611686018427387904}=>bq x.val.1.1 y.val.1.1) (lt':=dB) ((·.1)∘agL) (fun _ _=>rfl) J).symm
 have Y:((LS.map agL).flatMap (·.2.2)).Perm q:=by
  rw[b9,<-Z];exact List.Perm.flatMap_right _ (N.map _)
 have cy:di w' fg.sz (aK w' fg) (dN l) (.slice (some ⟨b,off,none⟩) l.length cap) (b::(LS.map agL).flatMap (·.2.2)):=by
  have S:(dN l).length=l.length:=by rw[A];simp[t]
  refine .inr ⟨b,off,cap,_,el,(0,0),_,by rw[S],by rw[S];exact b7,ad,by rw[PQ];exact b8,rfl,?_⟩
  have:=Kv (R:=aK w' fg) (LS.map agL) (fun x W=>by
   obtain⟨z,hz,rfl⟩:=aho.1 W;refine aK.mono (fun k hk=> ?_) z.property.1;refine O k (aK.bounds z.property.1 k hk) (fun e=>z.property.2.1 (e▸hk)))
  rw[S,A]
  have e2:((Go.Sort.putCells id off (Go.Sort.flatK (fun x:{x:fg.den×List Value×List Nat//aK w fg x.1 x.2.1 x.2.2/\b∉x.2.2/\x.1.1.length<4611686018427387904}=>x.val.2.1) 4 LS.toArray) c).toList.drop off).take (l.length*fg.sz)=(LS.map agL).flatMap (fun x=>x.2.1):=by
   have hp:=Pq (F:=Go.Sort.flatK (fun x:{x:fg.den×List Value×List Nat//aK w fg x.1 x.2.1 x.2.2/\b∉x.2.2/\x.1.1.length<4611686018427387904}=>x.val.2.1) 4 LS.toArray) (c:=c) (off:=off) (by rw[b6];omega);rw[b6]at hp;rw[K,<-IE a8 (by omega) LS];exact hp
  rw[e2];exact this
 refine Fu (e:=fg) m bl s cy (fun b2 cf he=> ?_) (fun k hk a1=>O k hk (fun e=>a1 q (by rw[e]))) (fun b2 cf he=> ?_) ?_ ?_ ?_ ?_
 ·obtain⟨rfl,rfl⟩:=ahj he;exact⟨q,rfl,Y⟩
 ·obtain⟨rfl,rfl⟩:=ahj he;exact⟨_,_,ad⟩
 ·rw[hw];show w.heap.size<=((w.heap.modify b _)++os).size;rw[ag5,agI];omega
 ·rw[hw];rfl
 ·rw[hw];rfl
 ·rw[hw];rfl
theorem aaN{w:World}{x:dG.den}{cs:List Value}{B:List Nat}(h:aK w dG x cs B):cs[13]?=some (.int .i64 (js x)):=by
 obtain⟨_,c1,_,_,rfl,rfl,⟨rfl,rfl⟩,h⟩:=h;obtain⟨_,c2,_,_,rfl,rfl,⟨rfl,rfl⟩,h⟩:=h;obtain⟨e,c3,_,_,rfl,rfl,i,h⟩:=h;obtain⟨cl,c4,_,_,rfl,rfl,⟨vl,rfl,_⟩,h⟩:=h;obtain⟨_,c5,_,_,rfl,rfl,⟨rfl,rfl⟩,h⟩:=h;obtain⟨_,c6,_,_,rfl,rfl,⟨rfl,rfl⟩,h⟩:=h;obtain⟨_,c7,_,_,rfl,rfl,⟨rfl,rfl⟩,h⟩:=h;obtain⟨cg,c8,_,_,rfl,rfl,⟨vg,rfl,_⟩,h⟩:=h;obtain⟨_,c9,_,_,rfl,rfl,⟨rfl,rfl⟩,h⟩:=h;obtain⟨_,c10,_,_,rfl,rfl,⟨rfl,rfl⟩,h⟩:=h;obtain⟨_,c11,_,_,rfl,rfl,⟨rfl,rfl⟩,⟨rfl,rfl⟩⟩:=h;have f:e.length=4:=aK.len i
 obtain⟨q1,q2,q3,q4,rfl⟩:∃q1 q2 q3 q4,e=[q1,q2,q3,q4]:=by
  match e,f with
  | [a,b,c,d],_=>exact⟨a,b,c,d,rfl⟩
 rfl
theorem Pl{w:World}:∀ {l:List dG.den} {cs:List Value} {B:List Nat},aN (aK w dG) l cs B->∀i,i<l.length->cs[i*15+13]?=some (.int .i64 (js (l.getD i dG.aa)))
 | [],_,_,h,i,hi=>by simp at hi
 |x::l,cs,B,h,i,hi=>by
  obtain⟨d,c2,B1,B2,rfl,rfl,b,e⟩:=h;have c:d.length=15:=aK.len b;cases i with
  |zero=>
   rw[ahm (by omega)];simpa using aaN b
  |succ i=>
   rw[ahi (by omega),c,show(i+1)*15+13-15=i*15+13 by omega];exact Pl e i (by simpa using hi)
theorem Gb{w:World}:∀ {l:List Int} {cs:List Value} {B:List Nat},aN (aK w (.int .i64)) l cs B->B=[]/\cs=l.map (Value.int .i64)
 | [],_,_,h=>⟨h.2,h.1⟩
 |x::l,_,_,h=>by
  obtain⟨c1,c2,B1,B2,rfl,rfl,⟨rfl,rfl⟩,b⟩:=h;obtain⟨rfl,rfl⟩:=Gb b;exact⟨rfl,rfl⟩
theorem QQ{w:World}:∀(l:List Int),aN (aK w (.int .i64)) l (l.map (Value.int .i64)) []
 | []=>⟨rfl,rfl⟩
 |x::l=>⟨[.int .i64 x],l.map (Value.int .i64),[],[],rfl,rfl,⟨rfl,rfl⟩,QQ l⟩
theorem VW{P:Program}{fs less:FuncId}{tA:TypeId}
 (W:∀(p:Option Addr) (n c:Nat),n<=1->∀(lb:Array Value) (w:World),Calls P fs #[.iface tA (.slice p n c),.func (.func less) #[] lb] w fun e w'=>e= .returned (.tuple #[])/\∃os,w'=Go.Sort.grow w os)
 (b2:∀ {nl:Nat} [Inhabited {x:Nat//x<nl}] (J:Nat->Int) (f off c Bl Bo K ol cl:Nat) (d:Array {x:Nat//x<nl}) (w:World) (_:2<=d.size) (_:d.size<1152921504606846976) (_:nl<4611686018427387904)
  (_:Go.Sort.HoldsK (fun x:{x:Nat//x<nl}=>[Value.int .i64 x.val]) 1 w f off d) (_:f<w.heap.size)
  (_:w.cell? ⟨Bl,0,none⟩=some (.slice (some ⟨K,ol,none⟩) nl cl)) (_:w.cell? ⟨Bo,0,none⟩=some (.slice (some ⟨f,off,none⟩) d.size c))
  (_:∀x,x<nl->w.cell? ⟨K,ol+x*15+13,none⟩=some (.int .i64 (J x))) (_:Bl≠f) (_:Bo≠f) (_:K≠f) (_:Bl<w.heap.size) (_:Bo<w.heap.size) (_:K<w.heap.size),
  Calls P fs #[.iface tA (.slice (some ⟨f,off,none⟩) d.size c),.func (.func less) #[] #[.pointer (some ⟨Bl,0,none⟩),.pointer (some ⟨Bo,0,none⟩)]] w fun e w'=>
   e= .returned (.tuple #[])/\∃n os,w'=Go.Sort.grow (Go.Sort.putRowK (fun x:{x:Nat//x<nl}=>[Value.int .i64 x.val]) 1 (Go.Sort.ahead w n) f off (Go.Sort.insertionSort (fun x y=>decide (J x.val<J y.val)) d 0 d.size)) os)
 {w:World} {out:List Int} {l:List dG.den} {v vl:Value} {B BL:List Nat} {Bl Bo:Nat} (V:di w 1 (aK w (.int .i64)) out v B) (b3:di w 15 (aK w dG) l vl BL)
 {cL cO:Array Value} {eL eO:TypeId} (X:w.heap[Bl]?=some (.cells cL eL (0,0))) (Y:cL.toList=[vl]) (Z:w.heap[Bo]?=some (.cells cO eO (0,0))) (ad:cO.toList=[v])
 (av:∀b∈B,Dv w b) (n1:Bl∉B) (n2:Bo∉B) (n3:∀b∈BL,b∉B) (hlen:out.length<1152921504606846976) (b4:l.length<4611686018427387904) (hr:∀x∈out,0<=x/\x<(l.length:Int)):
 Calls P fs #[.iface tA v,.func (.func less) #[] #[.pointer (some ⟨Bl,0,none⟩),.pointer (some ⟨Bo,0,none⟩)]] w fun e w'=>
  e= .returned (.tuple #[])/\∃B',AW w w' (.sl (.int .i64)) (cD (oT l) out) [v] B B':=by
 have b5:B.Nodup:=by
  rcases V with⟨_,_,rfl⟩|⟨b,off,cap,c,el,fz,Bs,_,_,_,_,rfl,hl⟩;simp;have:=(Gb hl).1;rw[this];simp
 by_cases h1:out.length<=1
 obtain⟨p,n,c,hv,hn⟩:∃p n c,v= .slice p n c/\n<=1:=by
  rcases V with⟨⟨ao,e⟩,_,_⟩|⟨b,off,cap,c,el,fz,Bs,e,_⟩;exact⟨ao,0,0,e,by omega⟩;exact⟨_,_,_,e,h1⟩
 rw[hv];refine(W p n c hn _ w).mono ?_;rintro e w' ⟨rfl,os,rfl⟩
 have hs:∀b,b<w.heap.size->(Go.Sort.grow w os).heap[b]?=w.heap[b]?:=fun b h=>by
  show(w.heap++os)[b]?=_;rw[agv h]
 refine⟨rfl,B,?_,b5,fun b I=> .inl I,fun b I=> ?_,fun b I _=>hs b I,?_,rfl,rfl,rfl⟩;rw[CQ _ h1];exact⟨_,rfl,hv▸di.mono (e:= .int .i64) (fun b I=>hs b (di.bounds (e:= .int .i64) V b I)) V⟩;obtain⟨c',bb,q⟩:=av b I;exact⟨c',bb,by rw[hs b (lt_of_block q)];exact q⟩;show w.heap.size<=(w.heap++os).size;rw[ag5];omega;have hB0:=V;rcases V with⟨_,e,_⟩|⟨b,off,cap,c,el,fz,Bs,rfl,bs,t,bx,rfl,hl⟩;exact absurd (by rw[e];simp) h1;obtain⟨rfl,b8⟩:=Gb hl
 have b6:fz=(0,0):=by
  obtain⟨c',bb,q⟩:=av b (by simp);rw[t]at q;simp only[C_,Obj.cells.injEq]at q;exact q.2.2
 subst b6
 have i:0<l.length:=by
  cases out with
  |nil=>simp at h1
  |cons x o=>have:=hr x (by simp);omega
 rcases b3 with⟨_,e,_⟩|⟨K,ol,b0,cL2,elL,fzL,BsL,rfl,hcapL,H,hszL,rfl,hL⟩;rw[e]at i;simp at i
 obtain⟨D,hD⟩:∃D:List {x:Nat//x<l.length},D.map (fun x=>(x.val:Int))=out:=by
  obtain⟨LA,b9⟩:=Gq (p:=fun x:Nat=>x<l.length) (out.map ahg) (fun x r=>by
   obtain⟨y,hy,rfl⟩:=aho.1 r;have:=hr y hy;omega)
  refine⟨LA,?_⟩;have:LA.map (fun x=>(x.val:Int))=(LA.map agL).map (fun n:Nat=>(n:Int)):=by rw[ahb];rfl
  rw[this,b9,ahb]
  conv=>rhs;rw[<-List.map_id out]
  refine ahF (fun x r=> ?_);have:=hr x r;show((x.toNat:Nat):Int)=x;omega
 have N:D.length=out.length:=by rw[<-hD];simp
 haveI:Inhabited {x:Nat//x<l.length}:=⟨⟨0,i⟩⟩
 have aB:∀x:{x:Nat//x<l.length},([Value.int .i64 (x.val:Int)]).length=1:=fun _=>rfl
 have s:∀M:List {x:Nat//x<l.length},M.flatMap (fun x=>[Value.int .i64 (x.val:Int)])=(M.map (fun x=>(x.val:Int))).map (Value.int .i64):=fun M=>by
  induction M with
  |nil=>rfl
  |cons x M ih=>rw[agE,ih];rfl
 have a1:D.flatMap (fun x=>[Value.int .i64 (x.val:Int)])=(c.toList.drop off).take (out.length*1):=by rw[s,hD];exact b8.symm
 have z:b<w.heap.size:=lt_of_block t;have hsz4:off+cap*1<=c.size:=bx
 have hH:Go.Sort.HoldsK (fun x:{x:Nat//x<l.length}=>[Value.int .i64 (x.val:Int)]) 1 w b off D.toArray:=by
  intro j hj;refine⟨?_,rZ t _⟩;rw[Go.Sort.size_flatK]at hj;have b7:j<D.length*1:=by simpa using hj
  rw[Go.Sort.get_flatK _ _ _ _ hj];have h2:=Ew (enc:=fun x:{x:Nat//x<l.length}=>[Value.int .i64 (x.val:Int)]) aB (by omega) D j b7;rw[a1,agA,an (by omega),agB,V']at h2;unfold World.cell?;simp only[t,agz,N',if_false];rw[h2];simp
 have cellAt:∀ {bk:Nat} {cc:Array Value} {ee:TypeId} {u:Value},w.heap[bk]?=some (.cells cc ee (0,0))->cc.toList=[u]->w.cell? ⟨bk,0,none⟩=some u:=by
  intro bk cc ee u hh hu;unfold World.cell?;simp only[hh,agz,N',if_false];rw[<-V',hu];rfl
 have m:=b2 (nl:=l.length) (fun x=>js (l.getD x dG.aa)) b off cap Bl Bo K ol b0 D.toArray w (by simp;omega) (by simp;omega) b4 hH z (cellAt X Y) (by rw[cellAt Z ad];simp[N])
  (fun x r=>by
   have h3:=Pl hL x r;rw[agA,an (by omega),agB,V']at h3;unfold World.cell?;simp only[H,agz,N',if_false];rw[<-Nat.add_assoc]at h3;exact h3) (fun e=>n1 (by simp[e])) (fun e=>n2 (by simp[e])) (fun e=>n3 K (by simp) (by simp[e])) (lt_of_block X) (lt_of_block Z) (lt_of_block H)
 rw[Q3 _ D (by omega)]at m;have a6:D.toArray.size=out.length:=by simpa using N
 rw[a6]at m;refine m.mono ?_;rintro e w' ⟨rfl,n,os,hw⟩;generalize a7:cD (fun x y:{x:Nat//x<l.length}=>decide (js (l.getD x.val dG.aa)<js (l.getD y.val dG.aa))) D=DS at hw;have O:DS.Perm D:=by rw[<-a7];exact gF _ _
 have R:∀k,k<w.heap.size->k≠b->w'.heap[k]?=w.heap[k]?:=fun k hk b1=>by
  rw[hw];show((w.heap.modify b _)++os)[k]?=_;rw[agv (by rw[agI];exact hk),agW,a_ (fun h=>b1 h.symm)]
 have A:w'.heap[b]?=some (.cells (Go.Sort.putCells id off (Go.Sort.flatK (fun x:{x:Nat//x<l.length}=>[Value.int .i64 (x.val:Int)]) 1 DS.toArray) c) el (0,0)):=by
  rw[hw];show((w.heap.modify b _)++os)[b]?=_;rw[agv (by rw[agI];exact z),agW,an rfl,t];rfl
 have a8:DS.length=out.length:=by rw[O.length_eq,N]
 have ba:(Go.Sort.flatK (fun x:{x:Nat//x<l.length}=>[Value.int .i64 (x.val:Int)]) 1 DS.toArray).size=out.length*1:=by
  rw[Go.Sort.size_flatK];simp[a8]
 have S:cD (oT l) out=DS.map (fun x=>(x.val:Int)):=by
  rw[<-hD,<-a7];exact(uY (lt:=fun x y:{x:Nat//x<l.length}=>decide (js (l.getD x.val dG.aa)<js (l.getD y.val dG.aa))) (lt':=oT l) (fun x=>(x.val:Int)) (fun x y=>by simp[oT]) D).symm
 have T:(cD (oT l) out).length=out.length:=(gF _ _).length_eq;refine⟨rfl,[b],⟨_,rfl,.inr ⟨b,off,cap,_,el,(0,0),[],by rw[T],by rw[T];exact bs,A,by rw[PQ];exact bx,rfl,?_⟩⟩,by simp,fun x r=> .inl r,fun x r=> ?_,fun x r hn=>R x r (fun e=>hn (by simp[e])),?_,?_,?_,?_⟩;have hp:=Pq (F:=Go.Sort.flatK (fun x:{x:Nat//x<l.length}=>[Value.int .i64 (x.val:Int)]) 1 DS.toArray) (c:=c) (off:=off) (by rw[ba];omega);rw[ba,IE aB (by omega) DS,s,<-S]at hp;rw[T];show aN (aK w' (.int .i64)) _ (((Go.Sort.putCells id off _ c).toList.drop off).take (out.length*1)) [];rw[hp];exact QQ _;simp only[O_]at r;subst r;exact⟨_,_,A⟩;rw[hw];show w.heap.size<=((w.heap.modify b _)++os).size;rw[ag5,agI];omega;rw[hw];rfl;rw[hw];rfl;rw[hw];rfl
section
variable{P:Program}{C:Cx}{M:qy}{w0:World}{c0:C0}{U:Nat->Prop}{E:Env}{a:Act}{w w':World}{G:Gh}{Q:Exit->Act->World->Prop}
theorem Wc(m:Inv w0 c0 U E a w G){τ:Ty}{x y:τ.den}{sh:Sh}{cs:List Value}{ts:List Nat}(k:bh w G τ x sh cs)(n:∀c∈sh.ar,Good U G c)(l:mK sh=some ts){B B':List Nat}(hc:∀b∈B,G.col b∈ts)(d:AW w w' τ y cs B B'):
 ∃G',Inv w0 c0 U (E.mark (rowsOf τ y sh)) a w' G':=by
 have e:=Ak k l;have h3:=Sh.jM k e;obtain⟨i1,i2,f,o,r⟩:=Ez k l d.rep d.nd
 obtain⟨G',q,_⟩:=m.Q4 (L:=rowsOf τ y sh) (B:=B) (B2:=B') (w':=w') (fun p d=>by
  have j:p.t∈ts:=by rw[<-i1];exact List.mem_map_of_mem d
  exact⟨i2 _ j,n _ (Sh.iv e _ j)⟩) f (fun b i=>by rw[i1];exact hc b i)
  (fun b i=>⟨(d.inn b i).imp (fun h=>by rw[i1];exact hc b h) id,by rw[i1];exact o b i,d.fresh b i⟩) d.frame d.size d.os d.tape d.output r
 exact⟨G',q⟩
theorem PU{o:Oper}{v:Value}{K:Act->World->Prop}(h:(execOp a.eval o).run P w= .ok (.value v) w)(b:K (a.put o.dst v) w):o.wp P a w K Q:=by
 unfold Oper.wp;rw[h];exact b
def TE(P:Program)(h less:FuncId)(i:TypeId):Prop:=
 ∀ {w:World} {out:List Int} {l:List dG.den} {v c:Value} {B BL:List Nat} {Bl Bo:Nat} (_:di w 1 (aK w (.int .i64)) out v B) (_:di w 15 (aK w dG) l c BL)
   {d f:Array Value} {j k:TypeId} (_:w.heap[Bl]?=some (.cells d j (0,0))) (_:d.toList=[c]) (_:w.heap[Bo]?=some (.cells f k (0,0))) (_:f.toList=[v])
   (_:∀b∈B,Dv w b) (_:Bl∉B) (_:Bo∉B) (_:∀b∈BL,b∉B) (_:out.length<1152921504606846976) (_:l.length<4611686018427387904) (_:∀x∈out,0<=x/\x<(l.length:Int)),
   Calls P h #[.iface i v,.func (.func less) #[] #[.pointer (some ⟨Bl,0,none⟩),.pointer (some ⟨Bo,0,none⟩)]] w fun e w'=>
    e= .returned (.tuple #[])/\∃B',AW w w' (.sl (.int .i64)) (cD (oT l) out) [v] B B'
def tP:sE:=⟨[(1,.box 4 (.sl dG) (.sl (.sha [1]))),(3,.box 5 (.sl (.int .i64)) (.sl (.row 6 [] true)))],7⟩
def Qb(N d0 d1 d2 d3:Nat)(t:List dG.den×List Int×Unit)(s:List Int):Env:=
 (((((dA N tP t).set (some d0) .no).set (some d1) .no).set (some d2) .no).mark [⟨6,.int .i64,s⟩]).set (some d3) .no
theorem Ut(hm:P.funcs.size=P.funcs.size){Y less:FuncId}{f:TypeId}{d:Func}(ad:gA P f (.sl (.int .i64))){elA:TypeId}(hu:P.underlying f=some (.slice elA))(hS:TE P Y less f)
 (ao:P.funcs[Y]?=some d) (av:(d.name== "runtime.NumGoroutine")=false) (aB:d.body.isSome=true)
 {N d0 d1 d2 d3 id:Nat} {o0 o1 o2 o3:Oper} {c:Call} {t:List dG.den×List Int×Unit}
 (g0:o0.guard=none/\o0.op= .load f (.tmp 3)/\o0.dst=some d0) (g1:o1.guard=none/\o1.op= .makeInterface f (.tmp d0)/\o1.dst=some d1)
 (g2:o2.guard=none/\o2.op= .makeFunc (.func less) #[] #[.tmp 1,.tmp 3]/\o2.dst=some d2) (g3:o3.guard=none/\o3.op= .call c/\c.callee= .value (.func Y)/\c.args= #[.tmp d1,.tmp d2]/\o3.dst=some d3)
 (k:d0≠1/\d0≠3/\d1≠1/\d1≠3/\d1≠d0/\d2≠d1/\d0<N/\d1<N/\d2<N) (h3:3<N)
 (H:Inv w0 c0 (fun u=>u<7) (dA N tP t) a w G) (hlen:t.2.1.length<1152921504606846976) (a6:t.1.length<4611686018427387904) (hr:∀x∈t.2.1,0<=x/\x<(t.1.length:Int))
 (hK:∀a' w' G',Inv w0 c0 (fun u=>u<7) (Qb N d0 d1 d2 d3 t (cD (oT t.1) t.2.1)) a' w' G'->Q .normal a' w'):(Code.region id #[o0,o1,o2,o3] false).wp P Q a w:=by
 obtain⟨l,out,u⟩:=t;have m:(dA N tP (l,out,u)).s=((agM N SV.no).set 1 (.box 4 ⟨.sl dG,l,.sl (.sha [1])⟩)).set 3 (.box 5 ⟨.sl (.int .i64),out,.sl (.row 6 [] true)⟩):=rfl;have n:(dA N tP (l,out,u)).s.length=N:=by rw[m];simp
 have s1:(dA N tP (l,out,u)).s.getD 1 .no= .box 4 ⟨.sl dG,l,.sl (.sha [1])⟩:=by rw[m,dF,a_ (by omega),dF,an ⟨rfl,by simp;omega⟩]
 have s3:(dA N tP (l,out,u)).s.getD 3 .no= .box 5 ⟨.sl (.int .i64),out,.sl (.row 6 [] true)⟩:=by rw[m,dF,an ⟨rfl,by simp;omega⟩]
 have k1:ck w G (.box 4 ⟨.sl dG,l,.sl (.sha [1])⟩) (a.tmps.getD 1 undef):=(congrArg (fun z=>ck w G z (a.tmps.getD 1 undef)) s1).mp (H.slots 1);have k3:ck w G (.box 5 ⟨.sl (.int .i64),out,.sl (.row 6 [] true)⟩) (a.tmps.getD 3 undef):=(congrArg (fun z=>ck w G z (a.tmps.getD 3 undef)) s3).mp (H.slots 3);obtain⟨Bl,cL,eL,p1,p2,p3,p4,p5,vl,p6,⟨BL,p7,p8⟩,_⟩:=k1;obtain⟨Bo,cO,eO,q1,q2,q3,q4,q5,v,q6,q7,q8,B,q9,X⟩:=k3
 have i:∀b∈B,G.col b=6:=by
  intro b j;cases B with
  |nil=>cases j
  |cons b0 Bs=>
   obtain⟨r1,r2,r3,r4⟩:=X b0 Bs rfl;rcases agF.1 j with rfl|j;exact r1;exact absurd (r3 b j) (by simp)
 have a7:Bo∉B:=fun h=>by have:=i _ h;omega
 have a8:Bl∉B:=fun h=>by have:=i _ h;omega
 have ba:∀b∈BL,b∉B:=fun b Z h2=>by
  have e1:=p8 b Z;have e2:=i b h2;simp only[O_]at e1;omega
 have I:a.tmps.size=N:=H.len.trans n;refine wp_region ?_;show wpOps P #[o0,o1,o2,o3] Q [0,1,2,3] a w;rw[wpOps_cons];refine dh (ops:=[o0,o1,o2,o3]) (o:=o0) rfl (by simp[Region.wanted,g0.1]) (PU (v:=v) ?_ ?_);simp only[execOp,g0.2.1];refine dP ?_;have he:a.eval (.tmp 3)= .pointer (some ⟨Bo,0,none⟩):=q1;simp only[Instr.loadAt,he,Instr.sureAddr]
 have bb:0+(Ty.sl (.int .i64)).sz<=cO.size:=by
  have:=congrArg x_ q6;simp only[agP,List.length_singleton]at this;rw[this];decide
 have:=lQ (P:=P) ad q5 (o:=0) bb;rw[List.drop_zero,q6]at this;simpa[show cT (Ty.sl (.int .i64)) (List.take (Ty.sl (Ty.int .i64)).sz [v])=v from rfl]using this;rw[g0.2.2];have p:=H.mX (some d0) v;generalize hE1:(dA N tP (l,out,u)).set (some d0) .no=E1 at p;generalize q:a.put (some d0) v=a1 at p|-;have J:∀s,s≠d0->a1.tmps.getD s undef=a.tmps.getD s undef:=fun s hs=>by rw[<-q];exact vq _ _ _ (fun e=>hs (by cases e;rfl))
 have K:a1.tmps.getD d0 undef=v:=by rw[<-q];exact vO d0 v (by rw[I];exact k.2.2.2.2.2.2.1)
 have O:a1.tmps.size=N:=by rw[<-q];simp[Act.put,I]
 rw[wpOps_cons];refine dh (ops:=[o0,o1,o2,o3]) (o:=o1) rfl (by simp[Region.wanted,g1.1]) (PU (v:= .iface f v) ?_ ?_);simp only[execOp,g1.2.1];refine dP ?_;have he:a1.eval (.tmp d0)=v:=K;simp only[Instr.makeInterface,he];have bk:=run_underlying (w:=w) hu;simp[bk,Result.andThen];rw[g1.2.2];have r:=p.mX (some d1) (.iface f v);generalize hE2:E1.set (some d1) .no=E2 at r;generalize A:a1.put (some d1) (.iface f v)=a2 at r|-;have S:∀s,s≠d1->a2.tmps.getD s undef=a1.tmps.getD s undef:=fun s hs=>by rw[<-A];exact vq _ _ _ (fun e=>hs (by cases e;rfl))
 have T:a2.tmps.getD d1 undef= .iface f v:=by rw[<-A];exact vO d1 _ (by rw[O];exact k.2.2.2.2.2.2.2.1)
 have bl:a2.tmps.size=N:=by rw[<-A];simp[Act.put,O]
 rw[wpOps_cons];have e1:a2.tmps.getD 1 undef= .pointer (some ⟨Bl,0,none⟩):=by rw[S 1 (Ne.symm k.2.2.1),J 1 (Ne.symm k.1)];exact p1
 have e3:a2.tmps.getD 3 undef= .pointer (some ⟨Bo,0,none⟩):=by rw[S 3 (Ne.symm k.2.2.2.1),J 3 (Ne.symm k.2.1)];exact q1
 refine dh (ops:=[o0,o1,o2,o3]) (o:=o2) rfl (by simp[Region.wanted,g2.1]) (PU (v:= .func (.func less) #[] #[.pointer (some ⟨Bl,0,none⟩),.pointer (some ⟨Bo,0,none⟩)]) ?_ ?_);simp only[execOp,g2.2.1];refine dP ?_;have bs:a2.eval (.tmp 1)= .pointer (some ⟨Bl,0,none⟩):=e1;have bx:a2.eval (.tmp 3)= .pointer (some ⟨Bo,0,none⟩):=e3;simp[Instr.makeFunc,bs,bx];rw[g2.2.2];have D:=r.mX (some d2) (.func (.func less) #[] #[.pointer (some ⟨Bl,0,none⟩),.pointer (some ⟨Bo,0,none⟩)]);generalize hE3:E2.set (some d2) .no=E3 at D;generalize V:a2.put (some d2) (.func (.func less) #[] #[.pointer (some ⟨Bl,0,none⟩),.pointer (some ⟨Bo,0,none⟩)])=a3 at D|-;have b1:a3.tmps.getD d1 undef= .iface f v:=by rw[<-V,vq _ _ _ (fun e=>k.2.2.2.2.2.1 (by cases e;rfl))];exact T
 have W:a3.tmps.getD d2 undef= .func (.func less) #[] #[.pointer (some ⟨Bl,0,none⟩),.pointer (some ⟨Bo,0,none⟩)]:=by rw[<-V];exact vO d2 _ (by rw[bl];exact k.2.2.2.2.2.2.2.2)
 rw[wpOps_cons];have b2:di w 1 (aK w (.int .i64)) out v B:=q9;have F:=hS (w:=w) (B:=B) (BL:=BL) (Bl:=Bl) (Bo:=Bo) b2 p7 p5 p6 q5 q6 (fun b j=>H.fresh b (by rw[i b j];omega)) a8 a7 ba hlen a6 hr;refine dh (ops:=[o0,o1,o2,o3]) (o:=o3) rfl (by simp[Region.wanted,g3.1]) (AB (R:=fun mv w'=>mv= .tuple #[]/\∃B',AW w w' (.sl (.int .i64)) (cD (oT l) out) [v] B B') g3.2.1 g3.2.2.1 ?_ ?_);rw[g3.2.2.2.1]
 have he:(#[Operand.tmp d1,.tmp d2].map a3.eval)= #[.iface f v,.func (.func less) #[] #[.pointer (some ⟨Bl,0,none⟩),.pointer (some ⟨Bo,0,none⟩)]]:=by
  have f1:a3.eval (.tmp d1)= .iface f v:=b1;have f2:a3.eval (.tmp d2)= .func (.func less) #[] #[.pointer (some ⟨Bl,0,none⟩),.pointer (some ⟨Bo,0,none⟩)]:=W;simp[f1,f2]
 rw[he];exact A4 ao av aB (F.mono fun e w' ⟨Z,h2⟩=>⟨_,Z,rfl,h2⟩);rintro mv w' ⟨rfl,B',hp⟩
 obtain⟨G',b5⟩:=Wc (τ:= .sl (.int .i64)) (x:=out) (y:=cD (oT l) out) (sh:= .sl (.row 6 [] true)) (cs:=[v]) (ts:=[6]) D ⟨v,rfl,q7,q8,B,q9,X⟩ (fun c hc=>by
  have b3:c=6:=by simpa[Sh.ar,M.ar]using hc
  subst b3;exact H.sc 3 6 ((congrArg (fun z:SV=>6∈z.sc) s3).mpr (by simp[SV.sc,Sh.ar,M.ar]))) rfl (fun b j=>by simp[i b j]) hp
 rw[g3.2.2.2.2];have b4:=b5.mX (some d3) (.tuple #[]);refine hK _ _ G' ?_;exact b4
def YQ(C:Cx)(M:qy)(N d0 d1 d2 d3:Nat)(b:List ResultVar)(x0 x1 x2 x3:Code)(x:List dG.den×Unit):Option (List Int×Unit):=
 (mu {C with n:=N,io:=[]} M x0 ⟨.d ⟨.sl dG,x.1,.sl (.sha [1])⟩::agM (N-1) .no,4,true⟩ (fun E=>mu {C with n:=N,io:=[]} M x1 E (fun E=>mu {C with n:=N,io:=[]} M x2 E (fun E=>proj tP E) [] (fun _=>none)) [] (fun _=>none)) [] (fun _=>none)).bind fun t=>
  if(decide (t.2.1.length<1152921504606846976)&&decide (t.1.length<4611686018427387904)&&t.2.1.all (fun x=>decide (0<=x/\x<(t.1.length:Int))))=true then
   mu {C with n:=N,io:=[]} M x3 (Qb N d0 d1 d2 d3 t (cD (oT t.1) t.2.1)) (fin C.tt [.val (.sl dG) .shr] [.val (.sl (.int .i64)) .own] [] b 4) [] (fin C.tt [.val (.sl dG) .shr] [.val (.sl (.int .i64)) .own] [] b 4)
  else none
theorem YF{N d0 d1 d2 d3:Nat}{t:List dG.den×List Int×Unit}{s:List Int}:sD (Qb N d0 d1 d2 d3 t s).s:=by
 intro i j b act v;exact Dk Gm (by rintro _ _ _ _ ⟨⟩) i j b act v
theorem XD{N d0 d1 d2 d3:Nat}{t:List dG.den×List Int×Unit}{s:List Int}:(Qb N d0 d1 d2 d3 t s).s.length=N:=by
 unfold Qb;rw[dM,Gn,dM,dM,dM];obtain⟨l,out,u⟩:=t;show(((agM N SV.no).set 1 _).set 3 _).length=N;simp
theorem V7(B:mR P C)(hM:Eg P M){fs less:FuncId}{W:TypeId}{b:Func}(ad:gA P W (.sl (.int .i64))){elA:TypeId}(hu:P.underlying W=some (.slice elA))(hS:TE P fs less W)
 (ao:P.funcs[fs]?=some b) (av:(b.name== "runtime.NumGoroutine")=false) (aB:b.body.isSome=true)
 {f:FuncId} {fn:Func} (hf:P.funcs[f]?=some fn) (D:(fn.name== "runtime.NumGoroutine")=false) {x0 x1 x2 x3:Code}
 {N d0 d1 d2 d3 id:Nat} {o0 o1 o2 o3:Oper} {c:Call} (hN:fn.ntmps=N) (h3:3<N) (hb:fn.body=some (.seq x0 (.seq x1 (.seq x2 (.seq (.region id #[o0,o1,o2,o3] false) x3)))))
 (g0:o0.guard=none/\o0.op= .load W (.tmp 3)/\o0.dst=some d0) (g1:o1.guard=none/\o1.op= .makeInterface W (.tmp d0)/\o1.dst=some d1)
 (g2:o2.guard=none/\o2.op= .makeFunc (.func less) #[] #[.tmp 1,.tmp 3]/\o2.dst=some d2) (g3:o3.guard=none/\o3.op= .call c/\c.callee= .value (.func fs)/\c.args= #[.tmp d1,.tmp d2]/\o3.dst=some d3)
 (hd:d0≠1/\d0≠3/\d1≠1/\d1≠3/\d1≠d0/\d2≠d1/\d0<N/\d1<N/\d2<N)
 {F:List dG.den×Unit->Option (List Int×Unit)} (hF:∀x,YQ C M N d0 d1 d2 d3 fn.results.toList x0 x1 x2 x3 x=F x):
 mz P f ⟨[.val (.sl dG) .shr],[.val (.sl (.int .i64)) .own],F,[]⟩:=by
 intro w I args x y hy q;have m:=(hF x).trans hy;unfold YQ at m;obtain⟨t,Y,m⟩:=agu.1 m;split at m;rotate_left
 ·cases m
 rename_i o;simp only[t_,b_,agY]at o;obtain⟨⟨a8,ba⟩,bb⟩:=o
 have X:(callFunc f args.toArray).run P w= .ok (.enter f args.toArray) w:=by
  have a6:fn.name≠ "runtime.NumGoroutine" :=by simpa using D
  unfold callFunc;simp[hf,a6,hb]
 unfold qx;rw[X];simp only;refine calls_of_wp hf hb ?_;have hE:=Gy (ps:=[.val (.sl dG) .shr]) q fn.ntmps;have p:mR P {C with n:=N,io:=[]}:=⟨⟨B.tt,B.eq,B.fs,B.u8⟩,B.ct,B.mixed⟩
 have l:FM {C with n:=N,io:=[]} w (I.DK (bP [.val (.sl dG) .shr] 4)) (fun i=>args.getD i undef) y (fin C.tt [.val (.sl dG) .shr] [.val (.sl (.int .i64)) .own] [] fn.results.toList 4) (fun J w'=>
  J.defers=[]/\∃v,(results fn J.tmps).run P w'= .ok v w'/\∃v',Ending.returned v=Ending.returned v'/\∃Z vs nt,uB ⟨[.val (.sl dG) .shr],[.val (.sl (.int .i64)) .own],F,[]⟩ w I args y v' w' Z vs nt):=by
  intro E' J w' Z r K H O S z;obtain⟨mv,G2,vs,nt,j1,j2⟩:=pR (con:=⟨[.val (.sl dG) .shr],[.val (.sl (.int .i64)) .own],F,[]⟩) B.toCxTy (args:=args) q r z (fun i V=>by simp[ic]at V);exact⟨r.defers,mv,j1,mv,rfl,G2,vs,nt,j2⟩
 have e:∀ {R:Act->World->Prop},FM {C with n:=N,io:=[]} w (I.DK (bP [.val (.sl dG) .shr] 4)) (fun i=>args.getD i undef) t (fun _=>none) R:=by
  intro R E' J w' Z _ _ _ _ _ h;cases h
 have a7:Inv w (I.DK (bP [.val (.sl dG) .shr] 4)) (fun u=>u<4) ⟨.d ⟨.sl dG,x.1,.sl (.sha [1])⟩::agM (N-1) .no,4,true⟩ {tmps:=args.toArray++ahT (fn.ntmps-args.toArray.size) undef,defers:=[]} w I:=by
  rw[<-hN];exact hE
 refine wp_seq ?_;refine C4 (T:=fun i=>args.getD i undef) p hM x0 a7 (fun s j w1 act v h=> ?_) (by simp;omega) (l5 _) (fun i V=>by cases V) Y (fun E1 a1 w1 G1 r K H O S z=> ?_) (fun id k A=>by simp[agK]at A) e
 ·cases s with
  |zero=>simp at h
  |succ s=>rw[ahd,<-agH (agM (N-1) SV.no),jt]at h;simp at h
 refine wp_seq ?_;refine C4 (T:=fun i=>args.getD i undef) p hM x1 r K H O S z (fun E1 a1 w1 G1 r K H O S z=> ?_) (fun id k A=>by simp[agK]at A) e;refine wp_seq ?_;refine C4 (T:=fun i=>args.getD i undef) p hM x2 r K H O S z (fun E1 a1 w1 G1 r K H O S z=> ?_) (fun id k A=>by simp[agK]at A) e;obtain⟨G2,m1,m2,m3,m4⟩:=tf r H z;refine wp_seq ?_;refine Ut rfl ad hu hS ao av aB g0 g1 g2 g3 hd h3 m1 a8 ba bb (fun J w' Z n1=> ?_);exact C4 (T:=fun i=>args.getD i undef) p hM x3 (n1.mono (fun u hu=>hu)) YF XD (show 4<=7 by decide) (fun i V=>by cases V) m l (fun id k A=>by simp[agK]at A) l
end
end Vg
namespace Vg
open Go
structure W4 where
 x0:Code
 x1:Code
 x2:Code
 x3:Code
 id:Nat
 o0:Oper
 o1:Oper
 o2:Oper
 o3:Oper
 c:Call
def Kc:Option Code->Option W4
 |some (.seq x0 (.seq x1 (.seq x2 (.seq (.region id ⟨[o0,o1,o2,o3]⟩ false) x3))))=>(match o3.op with
  | .call c=>some ⟨x0,x1,x2,x3,id,o0,o1,o2,o3,c⟩
  |_=>none)
 |_=>none
theorem Fc{b:Option Code}{q:W4}(h:Kc b=some q):b=some (.seq q.x0 (.seq q.x1 (.seq q.x2 (.seq (.region q.id #[q.o0,q.o1,q.o2,q.o3] false) q.x3))))/\q.o3.op= .call q.c:=by
 unfold Kc at h;split at h;split at h;rename_i hc;cases h;exact⟨rfl,hc⟩;cases h;cases h
end Vg
namespace Go.Proofs
open Go.Shelf Go.RowKit Go.Lib Go.Sort
variable{P:Program}{ρ:Ren}{α:Type}[Inhabited α]
def ly(d:Array α)(a b:Nat):Nat->Array α
 |0=>d
 |n+1=>swp (ly d a b n) (a+n) (b+n)
@[simp] theorem gf(d:Array α)(a b:Nat):∀n,(ly d a b n).size=d.size
  |0=>rfl
  |n+1=>by rw[ly,size_swp,gf d a b n]
set_option maxHeartbeats 1600000 in
set_option maxRecDepth 1000000 in
theorem RB(L:LaysGt.n49 P ρ){enc:α->List Value}{k:Nat}(hk:∀x,(enc x).length=k)(lf:Fn)(la lb:Array Value)(sf:Nat)(sb:Array Value){blk off:Nat}(a b n:Nat){d:Array α}{w:World}
 (hswap:SwapSwapsK P sf sb enc k blk off d.size) (hH:HoldsK enc k w blk off d) (hblk:blk<w.heap.size) (ha:a+n<=d.size) (hb:b+n<=d.size) (hsz:d.size<4611686018427387904):
 Calls P (ρ.f 49) #[.agg #[.func lf la lb,.func (.func sf) #[] sb],.int .i64 a,.int .i64 b,.int .i64 n] w fun e w'=>e= .returned (.tuple #[])/\∃m os,w'=sortWorldK enc k w blk off m (ly d a b n) os:=by
 have mixed:=L.mixed;have t0:=L.t0;have a0:=L.a0;have z0:=L.z0;have v0:=L.v0;have t3:=L.t3;have a3:=L.a3;have z3:=L.z3;have v3:=L.v3;have t4:=L.t4;have a4:=L.a4;have z4:=L.z4;have v4:=L.v4;have t26:=L.t26;have a26:=L.a26;have z26:=L.z26;have v26:=L.v26;have t38:=L.t38;have a38:=L.a38;have z38:=L.z38;have v38:=L.v38;have t42:=L.t42;have a42:=L.a42;have z42:=L.z42;have v42:=L.v42;have u42:=run_underlying L.t42;have hH1:HoldsK enc k (w.alloc (.cells #[.func lf la lb,.func (.func sf) #[] sb] (ρ.t 42))) blk off d:=by rw[alloc_eq_grow];exact holdsK_grow enc k w _ blk off d hblk hH
 go_enter L.f49,BodyGt.n49_ntmps ρ
 go_wp2
 go_loopg [8] n (fun kx s8 wr=>∃(i:Nat) (m:Nat),s8= .int .i64 i/\i<=n/\n-i<=kx/\wr=putRowK enc k (Sort.ahead (w.alloc (.cells #[.func lf la lb,.func (.func sf) #[] sb] (ρ.t 42))) m) blk off (ly d a b i))
 case atStart=>exact⟨0,0,rfl,by omega,by omega,(putRowK_self enc k _ blk off d hH1).symm⟩
 case round=>
  obtain⟨i,m,rfl,hi,hkx,hwr⟩:=hrel;by_cases hlt:i<n
  ·have hds:(ly d a b i).size=d.size:=gf d a b i;have hHk:HoldsK enc k wr blk off (ly d a b i):=by rw[hwr];exact holdsK_putRowK enc k _ blk off d _ (holdsK_ahead enc k _ m blk off d hH1) hds
   have c1:wr.cell? ⟨w.heap.size,1,none⟩=some (.func (.func sf) #[] sb):=by
    rw[hwr,cell?_putRowK_other enc k _ blk off _ _ (by show w.heap.size≠blk;omega)];show((w.alloc (.cells #[.func lf la lb,.func (.func sf) #[] sb] (ρ.t 42)))).cell? _=_;simp
   have hs:=hswap wr _ hHk hds (a+i) (b+i) (by omega) (by omega);have A:Aside (wr=putRowK enc k (Sort.ahead (w.alloc (.cells #[.func lf la lb,.func (.func sf) #[] sb] (ρ.t 42))) m) blk off (ly d a b i)):=hwr;clear hwr hHk hH hH1 hswap;rw[show(((a+i:Nat):Int))=(a:Int)+i by omega,show(((b+i:Nat):Int))=(b:Int)+i by omega]at hs
   go_wp2
   go_roundg (n-(i+1))
   case measure=>omega
   case rel=>
    exact⟨i+1,m,by simp,by omega,l5 _,by rw[A.out,ly,<-putRowK_swp enc k hk _ blk off _ (a+i) (b+i) (by omega) (by omega)]⟩
  ·obtain rfl:i=n:=by omega
   go_wp2
   go_end0
   exact⟨rfl,m,_,sortWorldK_of_alloc enc k w _ blk off m _ hblk⟩
def qI(m:Nat)(d:Array α)(i j:Nat):Array α:=
 if h:0<i/\0<j/\i≠j then
  if j<i then qI m (ly d (m-i) m j) (i-j) j else qI m (ly d (m-i) (m+j-i) i) i (j-i)
 else ly d (m-i) m i
termination_by i+j
decreasing_by all_goals omega
theorem fR(m:Nat)(d:Array α)(i j:Nat):(qI m d i j).size=d.size:=by
 fun_induction qI m d i j with
 |case1 d i j c e b=>rw[b,gf]
 |case2 d i j c e b=>rw[b,gf]
 |case3 d i j h=>rw[gf]
set_option maxHeartbeats 3200000 in
set_option maxRecDepth 1000000 in
theorem X7(L:LaysGt.n42 P ρ){enc:α->List Value}{k:Nat}(hk:∀x,(enc x).length=k)(lf:Fn)(la lb:Array Value)(sf:Nat)(sb:Array Value){blk off:Nat}(a m b:Nat){d:Array α}{w:World}
 (hswap:SwapSwapsK P sf sb enc k blk off d.size) (hH:HoldsK enc k w blk off d) (hblk:blk<w.heap.size) (ham:a<m) (hmb:m<b) (hb:b<=d.size) (hsz:d.size<4611686018427387904):
 Calls P (ρ.f 42) #[.agg #[.func lf la lb,.func (.func sf) #[] sb],.int .i64 a,.int .i64 m,.int .i64 b] w fun e w'=>e= .returned (.tuple #[])/\∃n os,w'=sortWorldK enc k w blk off n (qI m d (m-a) (b-m)) os:=by
 have mixed:=L.mixed;have t0:=L.t0;have a0:=L.a0;have z0:=L.z0;have v0:=L.v0;have t3:=L.t3;have a3:=L.a3;have z3:=L.z3;have v3:=L.v3;have t4:=L.t4;have a4:=L.a4;have z4:=L.z4;have v4:=L.v4;have t26:=L.t26;have a26:=L.a26;have z26:=L.z26;have v26:=L.v26;have t38:=L.t38;have a38:=L.a38;have z38:=L.z38;have v38:=L.v38;have t42:=L.t42;have a42:=L.a42;have z42:=L.z42;have v42:=L.v42;have u42:=run_underlying L.t42;have e49:∀args w,(callFunc (ρ.f 49) args).run P w= .ok (.enter (ρ.f 49) args) w:=enters_of L.f49 (by kernel_rfl) rfl;have hH1:HoldsK enc k (w.alloc (.cells #[.func lf la lb,.func (.func sf) #[] sb] (ρ.t 42))) blk off d:=by rw[alloc_eq_grow];exact holdsK_grow enc k w _ blk off d hblk hH
 have hb1:blk<(w.alloc (.cells #[.func lf la lb,.func (.func sf) #[] sb] (ρ.t 42))).heap.size:=by rw[alloc_eq_grow,size_grow];omega
 have bx:∀(q:Nat) (v:Value),(w.alloc (.cells #[.func lf la lb,.func (.func sf) #[] sb] (ρ.t 42))).cell? ⟨w.heap.size,q,none⟩=some v->∀n (X:Array α) os,(sortWorldK enc k (w.alloc (.cells #[.func lf la lb,.func (.func sf) #[] sb] (ρ.t 42))) blk off n X os).cell? ⟨w.heap.size,q,none⟩=some v:=fun q v h n X os=>by
  unfold sortWorldK;rw[cell?_grow _ _ _ (by rw[size_putRowK];show w.heap.size<(w.alloc _).heap.size;rw[alloc_eq_grow,size_grow];simp),cell?_putRowK_other enc k _ blk off _ _ (by show w.heap.size≠blk;omega)];exact h
 have bx0:=bx 0 (.func lf la lb) (by simp);have bx1:=bx 1 (.func (.func sf) #[] sb) (by simp)
 have hcall:∀(n:Nat) (X:Array α) os,X.size=d.size->∀x y z:Nat,x+z<=d.size->y+z<=d.size->
  Calls P (ρ.f 49) #[.agg #[.func lf la lb,.func (.func sf) #[] sb],.int .i64 x,.int .i64 y,.int .i64 z] (sortWorldK enc k (w.alloc (.cells #[.func lf la lb,.func (.func sf) #[] sb] (ρ.t 42))) blk off n X os) fun e w'=>
   e= .returned (.tuple #[])/\∃n' os',w'=sortWorldK enc k (w.alloc (.cells #[.func lf la lb,.func (.func sf) #[] sb] (ρ.t 42))) blk off n' (ly X x y z) os':=fun n X os hX x y z h1 h2=>by
  refine(RB ({L with}:LaysGt.n49 P ρ) hk lf la lb sf sb x y z (d:=X) (by rw[hX];exact hswap) (holdsK_sortWorldK enc k _ blk off n d X os hb1 hH1 hX) ?_ (by omega) (by omega) (by omega)).mono ?_
  ·unfold sortWorldK;rw[size_grow,size_putRowK];show blk<(w.alloc _).heap.size+_;omega
  ·rintro e w' ⟨rfl,n',os',rfl⟩;exact⟨rfl,_,_,sortWorldK_on enc k _ blk off n n' X _ os os' hb1 (gf ..)⟩
 have hstart:=sortWorldK_start enc k _ blk off d hH1
 have hfin:∀n (X:Array α) os,∃n' os',sortWorldK enc k (w.alloc (.cells #[.func lf la lb,.func (.func sf) #[] sb] (ρ.t 42))) blk off n X os=sortWorldK enc k w blk off n' X os':=fun n X os=>
  ⟨n,_,by unfold sortWorldK;rw[alloc_eq_grow,ahead_grow,putRowK_grow enc k (Sort.ahead w n) _ blk off _ hblk,grow_grow]⟩
 clear bx hswap hH hH1;generalize hW1:w.alloc (.cells #[.func lf la lb,.func (.func sf) #[] sb] (ρ.t 42))=W1 at*
 go_enter L.f42,BodyGt.n42_ntmps ρ
 go_wp2
 go_loopg [8,9] (b-a) (fun kx s8 s9 wr=>∃(i j:Nat) (n:Nat) (X:Array α) (os:Array Obj),s8= .int .i64 i/\s9= .int .i64 j/\0<i/\0<j/\i<=m/\m+j<=d.size/\i+j<=kx/\X.size=d.size/\
  wr=sortWorldK enc k W1 blk off n X os/\qI m X i j=qI m d (m-a) (b-m))
 case atStart=>exact⟨m-a,b-m,0,d, #[],by congr 1;omega,by congr 1;omega,by omega,by omega,by omega,by omega,by omega,rfl,hstart.symm,rfl⟩
 case round=>
  obtain⟨i,j,n,X,os,rfl,rfl,hi,hj,him,hmj,hkx,hX,hwr,hR⟩:=hrel;have c0:wr.cell? ⟨w.heap.size,0,none⟩=some (.func lf la lb):=by rw[hwr];exact bx0 n X os
  have c1:wr.cell? ⟨w.heap.size,1,none⟩=some (.func (.func sf) #[] sb):=by rw[hwr];exact bx1 n X os
  have hc:=hcall n X os hX;rw[<-hwr]at hc;clear hwr hcall bx0 bx1;rw[qI]at hR;by_cases heq:i=j
  ·subst heq;rw[dif_neg (by omega)]at hR;have hc:=hc (m-i) m i (by omega) (by omega);rw[show(((m-i:Nat):Int))=(m:Int)-i by omega]at hc
   go_wp2_with (go_at_fn (ρ.f 49);refine hc.mono ?_;rintro e w1 ⟨rfl,n2,os2,rfl⟩)
   go_end0
   exact⟨rfl,hfin _ _ _⟩
  ·rw[dif_pos ⟨hi,hj,heq⟩]at hR;by_cases hji:j<i
   ·rw[an hji]at hR;have hc:=hc (m-i) m j (by omega) (by omega);rw[show(((m-i:Nat):Int))=(m:Int)-i by omega]at hc
    go_wp2_with (go_at_fn (ρ.f 49);refine hc.mono ?_;rintro e w1 ⟨rfl,n2,os2,rfl⟩)
    go_roundg (i+j-j)
    case measure=>omega
    case rel=>exact⟨i-j,j,n2,_,os2,by congr 1;omega,rfl,by omega,by omega,by omega,by omega,by omega,by rw[gf];exact hX,rfl,hR⟩
   ·rw[a_ hji]at hR;have hc:=hc (m-i) (m+j-i) i (by omega) (by omega);rw[show(((m-i:Nat):Int))=(m:Int)-i by omega,show(((m+j-i:Nat):Int))=(m:Int)+j-i by omega]at hc
    go_wp2_with (go_at_fn (ρ.f 49);refine hc.mono ?_;rintro e w1 ⟨rfl,n2,os2,rfl⟩)
    go_roundg (i+j-i)
    case measure=>omega
    case rel=>exact⟨i,j-i,n2,_,os2,rfl,by congr 1;omega,by omega,by omega,by omega,by omega,by omega,by rw[gf];exact hX,rfl,hR⟩
variable{P:Program}{ρ:Ren}{α:Type}[Inhabited α]
def iO(p:Nat->Bool)(i j:Nat):Nat:=
 if h:i<j then(if p ((i+j)/2)then iO p ((i+j)/2+1) j else iO p i ((i+j)/2))else i
termination_by j-i
decreasing_by all_goals omega
def jX(d:Array α)(k e:Nat):Array α:=if k<e then jX (swp d k (k+1)) (k+1) e else d
termination_by e-k
def gl(d:Array α)(k e:Nat):Array α:=if h:e<k then gl (swp d k (k-1)) (k-1) e else d
termination_by k-e
theorem DM(p:Nat->Bool)(i j:Nat)(h:i<=j):i<=iO p i j/\iO p i j<=j:=by
 fun_induction iO p i j with
 |case1 i j c d b=>have:=b (by omega);omega
 |case2 i j c d b=>have:=b (by omega);omega
 |case3 i j c=>omega
theorem R6(d:Array α)(k e:Nat):(jX d k e).size=d.size:=by
 fun_induction jX d k e with
 |case1 d k h b=>rw[b,size_swp]
 |case2 d k h=>rfl
theorem On(d:Array α)(k e:Nat):(gl d k e).size=d.size:=by
 fun_induction gl d k e with
 |case1 d k h b=>rw[b,size_swp]
 |case2 d k h=>rfl
theorem Gt(enc:α->List Value)(k:Nat)(w0:World)(b off n q:Nat)(c:Array α)(os:Array Obj):
 (sortWorldK enc k w0 b off n c os).drewN q=sortWorldK enc k w0 b off (n+q) c os:=by
 unfold sortWorldK;rw[<-putRowK_drewN enc k w0 n q b off c];rfl
theorem Kq{enc:α->List Value}{k:Nat}(e:∀x,(enc x).length=k)(w0:World){b off:Nat}(n:Nat){c:Array α}(os:Array Obj)(d:b<w0.heap.size){i j:Nat}(hi:i<c.size)(f:j<c.size):
 ((sortWorldK enc k w0 b off n c os).setCells b (off+i*k) (enc c[j]!)).setCells b (off+j*k) (enc c[i]!)=sortWorldK enc k w0 b off n (swp c i j) os:=by
 unfold sortWorldK;rw[<-putRowK_grow enc k (Sort.ahead w0 n) os b off c d,putRowK_swp enc k e _ b off c i j hi f,putRowK_grow enc k (Sort.ahead w0 n) os b off _ d]
structure TR(P:Program)(enc:α->List Value)(k:Nat)(lt:α->α->Bool)(g:Nat)(lb:Array Value)(sf:Nat)(sb:Array Value)(blk off size hb:Nat)(w W1:World):Prop where
 c0:∀n (X:Array α) os,(sortWorldK enc k W1 blk off n X os).cell? ⟨hb,0,none⟩=some (.func (.func g) #[] lb)
 c1:∀n (X:Array α) os,(sortWorldK enc k W1 blk off n X os).cell? ⟨hb,1,none⟩=some (.func (.func sf) #[] sb)
 less:∀n (X:Array α) os,X.size=size->∀i j:Nat,i<size->j<size->
  Calls P g (#[.int .i64 i,.int .i64 j]++lb) (sortWorldK enc k W1 blk off n X os) fun e w'=>e= .returned (.bool (lt X[i]! X[j]!))/\∃q,w'=sortWorldK enc k W1 blk off (n+q) X os
 swap:∀n (X:Array α) os,X.size=size->∀i j:Nat,i<size->j<size->
  (callFunc sf (#[.int .i64 i,.int .i64 j]++sb)).run P (sortWorldK enc k W1 blk off n X os)= .ok (.value (.tuple #[])) (sortWorldK enc k W1 blk off n (swp X i j) os)
 fin:∀n (X:Array α) os,∃n' os',sortWorldK enc k W1 blk off n X os=sortWorldK enc k w blk off n' X os'
 lt_blk:blk<W1.heap.size
theorem Ap{enc:α->List Value}{k:Nat}(D:∀x,(enc x).length=k){lt:α->α->Bool}{g:Nat}{c:Array Value}{l:Nat}{m:Array Value}{b off:Nat}{d:Array α}{w:World}{t:TypeId}
 (o:LessReadsK P g c enc k lt b off d.size w) (p:SwapSwapsK P l m enc k b off d.size) (F:HoldsK enc k w b off d) (f:b<w.heap.size):
 TR P enc k lt g c l m b off d.size w.heap.size w (w.alloc (.cells #[.func (.func g) #[] c,.func (.func l) #[] m] t))/\
  sortWorldK enc k (w.alloc (.cells #[.func (.func g) #[] c,.func (.func l) #[] m] t)) b off 0 d #[]=w.alloc (.cells #[.func (.func g) #[] c,.func (.func l) #[] m] t):=by
 have s:HoldsK enc k (w.alloc (.cells #[.func (.func g) #[] c,.func (.func l) #[] m] t)) b off d:=by rw[alloc_eq_grow];exact holdsK_grow enc k w _ b off d f F
 have r:b<(w.alloc (.cells #[.func (.func g) #[] c,.func (.func l) #[] m] t)).heap.size:=by rw[alloc_eq_grow,size_grow];omega
 have B:∀(q:Nat) (v:Value),(w.alloc (.cells #[.func (.func g) #[] c,.func (.func l) #[] m] t)).cell? ⟨w.heap.size,q,none⟩=some v->∀n (X:Array α) os,(sortWorldK enc k (w.alloc (.cells #[.func (.func g) #[] c,.func (.func l) #[] m] t)) b off n X os).cell? ⟨w.heap.size,q,none⟩=some v:=fun q v h n X os=>by
  unfold sortWorldK;rw[cell?_grow _ _ _ (by rw[size_putRowK];show w.heap.size<(w.alloc _).heap.size;rw[alloc_eq_grow,size_grow];simp),cell?_putRowK_other enc k _ b off _ _ (by show w.heap.size≠b;omega)];exact h
 have A:LessReadsK P g c enc k lt b off d.size (w.alloc (.cells #[.func (.func g) #[] c,.func (.func l) #[] m] t)):=by rw[alloc_eq_grow];exact o.grow f _
 refine⟨⟨B 0 _ (by simp),B 1 _ (by simp),fun n X os u i j y z=> ?_,fun n X os u i j y z=> ?_,fun n X os=> ?_,r⟩,sortWorldK_start enc k _ b off d s⟩;refine(A n os X u i j y z).mono ?_;rintro e w' ⟨rfl,q,rfl⟩;exact⟨rfl,q,Gt ..⟩;rw[p _ X (holdsK_sortWorldK enc k _ b off n d X os r s u) u i j y z,Kq D _ n os r (by omega) (by omega)];exact⟨n,_,by unfold sortWorldK;rw[alloc_eq_grow,ahead_grow,putRowK_grow enc k (Sort.ahead w n) _ b off _ f,grow_grow]⟩
set_option maxHeartbeats 3200000 in
set_option maxRecDepth 1000000 in
theorem WU(L:LaysGt.n30 P ρ){enc:α->List Value}{k:Nat}(hk:∀x,(enc x).length=k)(lt:α->α->Bool){g:Nat}{lb:Array Value}{sf:Nat}{sb:Array Value}{blk off:Nat}(a m b:Nat){d:Array α}{w:World}
 (eg:∀args w,(callFunc g args).run P w= .ok (.enter g args) w) (hless:LessReadsK P g lb enc k lt blk off d.size w) (hswap:SwapSwapsK P sf sb enc k blk off d.size) (hH:HoldsK enc k w blk off d) (hblk:blk<w.heap.size)
 (ham:a<m) (ham2:m<=a+1) (hmb:m<b) (hb:b<=d.size) (hsz:d.size<4611686018427387904):
 Calls P (ρ.f 30) #[.agg #[.func (.func g) #[] lb,.func (.func sf) #[] sb],.int .i64 a,.int .i64 m,.int .i64 b] w fun e w'=>e= .returned (.tuple #[])/\
  ∃n os,w'=sortWorldK enc k w blk off n (jX d a (iO (fun h=>lt d[h]! d[a]!) m b-1)) os:=by
 have mixed:=L.mixed;have t0:=L.t0;have a0:=L.a0;have z0:=L.z0;have v0:=L.v0;have t3:=L.t3;have a3:=L.a3;have z3:=L.z3;have v3:=L.v3;have t4:=L.t4;have a4:=L.a4;have z4:=L.z4;have v4:=L.v4;have t26:=L.t26;have a26:=L.a26;have z26:=L.z26;have v26:=L.v26;have t38:=L.t38;have a38:=L.a38;have z38:=L.z38;have v38:=L.v38;have t42:=L.t42;have a42:=L.a42;have z42:=L.z42;have v42:=L.v42;have t47:=L.t47;have a47:=L.a47;have z47:=L.z47;have v47:=L.v47;have u42:=run_underlying L.t42;obtain⟨B,hstart⟩:=Ap (t:=ρ.t 42) hk hless hswap hH hblk;clear hless hswap hH;generalize hW1:w.alloc (.cells #[.func (.func g) #[] lb,.func (.func sf) #[] sb] (ρ.t 42))=W1 at*
 have q1:((m:Int)-(a:Int)==1)=true:=by rw[beq_iff_eq];omega
 go_enter L.f30,BodyGt.n30_ntmps ρ
 go_wp2
 go_loopg [8,9] (b-a) (fun kx s8 s9 wr=>∃(i j n:Nat) (os:Array Obj),s8= .int .i64 i/\s9= .int .i64 j/\m<=i/\i<=j/\j<=b/\j-i<=kx/\wr=sortWorldK enc k W1 blk off n d os/\
  iO (fun h=>lt d[h]! d[a]!) i j=iO (fun h=>lt d[h]! d[a]!) m b)
 case atStart=>exact⟨m,b,0, #[],rfl,rfl,by omega,by omega,by omega,by omega,hstart.symm,rfl⟩
 case round=>
  obtain⟨i,j,n,os,rfl,rfl,hai,hij,hjb,hkx,hwr,hbs⟩:=hrel;have c0:=B.c0 n d os;have c1:=B.c1 n d os;rw[<-hwr]at c0 c1;by_cases hlt:i<j
  ·have hl:=B.less n d os rfl ((i+j)/2) a (by omega) (by omega);rw[<-hwr]at hl;rw[iO,dif_pos hlt]at hbs;have HB:Hid _:=hbs;clear hwr hbs B;cases hv:lt d[(i+j)/2]! d[a]! with
   |true=>
    rw[hv]at hl HB
    go_wp2_with (go_at_fn g;refine hl.mono ?_;rintro e w' ⟨rfl,q,rfl⟩)
    go_roundg (j-((i+j)/2+1))
    case measure=>omega
    case rel=>exact⟨(i+j)/2+1,j,n+q,os,by go_num,rfl,by omega,by omega,by omega,l5 _,rfl,HB.out⟩
   |false=>
    rw[hv]at hl HB
    go_wp2_with (go_at_fn g;refine hl.mono ?_;rintro e w' ⟨rfl,q,rfl⟩)
    go_roundg ((i+j)/2-i)
    case measure=>omega
    case rel=>exact⟨i,(i+j)/2,n+q,os,rfl,by go_num,by omega,by omega,by omega,l5 _,rfl,HB.out⟩
  ·obtain rfl:i=j:=by omega
   rw[iO,dif_neg hlt]at hbs;have HB:Hid _:=hbs;clear hbs
   go_wp2
   go_loopg [11] (i-a) (fun kx s11 wr2=>∃(c n:Nat) (X:Array α) (os:Array Obj),s11= .int .i64 c/\a<=c/\c<=i-1/\i-c<=kx/\X.size=d.size/\wr2=sortWorldK enc k W1 blk off n X os/\
    jX X c (i-1)=jX d a (i-1))
   case atStart=>exact⟨a,n,d,os,rfl,by omega,by omega,by omega,rfl,(by first|exact hwr|rfl),rfl⟩
   case round=>
    obtain⟨c,n2,X,os2,rfl,hac,hci,hkx2,hX,hwr2,hmv⟩:=hrel;have c1:=B.c1 n2 X os2;rw[<-hwr2]at c1;by_cases hlt2:c<i-1
    ·have hs:=B.swap n2 X os2 hX c (c+1) (by omega) (by omega);rw[<-hwr2,show(((c+1:Nat):Int))=(c:Int)+1 by omega]at hs;rw[jX,an hlt2]at hmv;have HM:Hid _:=hmv;clear hmv hwr2 hwr B c0
     go_wp2
     go_roundg (i-(c+1))
     case measure=>omega
     case rel=>exact⟨c+1,n2,_,os2,by go_num,by omega,by omega,l5 _,by rw[size_swp];exact hX,rfl,HM.out⟩
    ·rw[jX,a_ hlt2]at hmv;have HM:Hid _:=hmv;have hf:=B.fin n2 X os2;rw[<-hwr2]at hf;clear hmv hwr2 hwr B c0
     go_wp2
     (try simp only[Exit.inBlock,Exit.then]);refine bodyPost_ret (results_none rfl _ _ _) rfl ?_
     rw[<-HB.out,<-HM.out];exact⟨rfl,hf⟩
variable{P:Program}{ρ:Ren}{α:Type}[Inhabited α]
set_option maxHeartbeats 3200000 in
set_option maxRecDepth 1000000 in
theorem UU(L:LaysGt.n30 P ρ){enc:α->List Value}{k:Nat}(hk:∀x,(enc x).length=k)(lt:α->α->Bool){g:Nat}{lb:Array Value}{sf:Nat}{sb:Array Value}{blk off:Nat}(a m b:Nat){d:Array α}{w:World}
 (eg:∀args w,(callFunc g args).run P w= .ok (.enter g args) w) (hless:LessReadsK P g lb enc k lt blk off d.size w) (hswap:SwapSwapsK P sf sb enc k blk off d.size) (hH:HoldsK enc k w blk off d) (hblk:blk<w.heap.size)
 (ham:a+1<m) (hmb:m<b) (hmb2:b<=m+1) (hb:b<=d.size) (hsz:d.size<4611686018427387904):
 Calls P (ρ.f 30) #[.agg #[.func (.func g) #[] lb,.func (.func sf) #[] sb],.int .i64 a,.int .i64 m,.int .i64 b] w fun e w'=>e= .returned (.tuple #[])/\
  ∃n os,w'=sortWorldK enc k w blk off n (gl d m (iO (fun h=> !lt d[m]! d[h]!) a m)) os:=by
 have mixed:=L.mixed;have t0:=L.t0;have a0:=L.a0;have z0:=L.z0;have v0:=L.v0;have t3:=L.t3;have a3:=L.a3;have z3:=L.z3;have v3:=L.v3;have t4:=L.t4;have a4:=L.a4;have z4:=L.z4;have v4:=L.v4;have t26:=L.t26;have a26:=L.a26;have z26:=L.z26;have v26:=L.v26;have t38:=L.t38;have a38:=L.a38;have z38:=L.z38;have v38:=L.v38;have t42:=L.t42;have a42:=L.a42;have z42:=L.z42;have v42:=L.v42;have t47:=L.t47;have a47:=L.a47;have z47:=L.z47;have v47:=L.v47;have u42:=run_underlying L.t42;obtain⟨B,hstart⟩:=Ap (t:=ρ.t 42) hk hless hswap hH hblk;clear hless hswap hH;generalize hW1:w.alloc (.cells #[.func (.func g) #[] lb,.func (.func sf) #[] sb] (ρ.t 42))=W1 at*
 have q1:((m:Int)-(a:Int)==1)=false:=by rw[beq_eq_false_iff_ne];omega
 have q2:((b:Int)-(m:Int)==1)=true:=by rw[beq_iff_eq];omega
 go_enter L.f30,BodyGt.n30_ntmps ρ
 go_wp2
 go_loopg [12,13] (b-a) (fun kx s8 s9 wr=>∃(i j n:Nat) (os:Array Obj),s8= .int .i64 i/\s9= .int .i64 j/\a<=i/\i<=j/\j<=m/\j-i<=kx/\wr=sortWorldK enc k W1 blk off n d os/\
  iO (fun h=> !lt d[m]! d[h]!) i j=iO (fun h=> !lt d[m]! d[h]!) a m)
 case atStart=>exact⟨a,m,0, #[],rfl,rfl,by omega,by omega,by omega,by omega,hstart.symm,rfl⟩
 case round=>
  obtain⟨i,j,n,os,rfl,rfl,hai,hij,hjb,hkx,hwr,hbs⟩:=hrel;have c0:=B.c0 n d os;have c1:=B.c1 n d os;rw[<-hwr]at c0 c1;by_cases hlt:i<j
  ·have hl:=B.less n d os rfl m ((i+j)/2) (by omega) (by omega);rw[<-hwr]at hl;rw[iO,dif_pos hlt]at hbs;have HB:Hid _:=hbs;clear hwr hbs B;cases hv:lt d[m]! d[(i+j)/2]! with
   |false=>
    rw[hv]at hl HB
    go_wp2_with (go_at_fn g;refine hl.mono ?_;rintro e w' ⟨rfl,q,rfl⟩)
    go_roundg (j-((i+j)/2+1))
    case measure=>omega
    case rel=>exact⟨(i+j)/2+1,j,n+q,os,by go_num,rfl,by omega,by omega,by omega,l5 _,rfl,HB.out⟩
   |true=>
    rw[hv]at hl HB
    go_wp2_with (go_at_fn g;refine hl.mono ?_;rintro e w' ⟨rfl,q,rfl⟩)
    go_roundg ((i+j)/2-i)
    case measure=>omega
    case rel=>exact⟨i,(i+j)/2,n+q,os,rfl,by go_num,by omega,by omega,by omega,l5 _,rfl,HB.out⟩
  ·obtain rfl:i=j:=by omega
   rw[iO,dif_neg hlt]at hbs;have HB:Hid _:=hbs;clear hbs
   go_wp2
   go_loopg [15] (m-i) (fun kx s11 wr2=>∃(c n:Nat) (X:Array α) (os:Array Obj),s11= .int .i64 c/\i<=c/\c<=m/\c-i<=kx/\X.size=d.size/\wr2=sortWorldK enc k W1 blk off n X os/\
    gl X c i=gl d m i)
   case atStart=>exact⟨m,n,d,os,rfl,by omega,by omega,by omega,rfl,(by first|exact hwr|rfl),rfl⟩
   case round=>
    obtain⟨c,n2,X,os2,rfl,hac,hci,hkx2,hX,hwr2,hmv⟩:=hrel;have c1:=B.c1 n2 X os2;rw[<-hwr2]at c1;by_cases hlt2:i<c
    ·have hs:=B.swap n2 X os2 hX c (c-1) (by omega) (by omega);rw[<-hwr2,show(((c-1:Nat):Int))=(c:Int)-1 by omega]at hs;rw[gl,dif_pos hlt2]at hmv;have HM:Hid _:=hmv;clear hmv hwr2 hwr B c0
     go_wp2
     go_roundg (c-1-i)
     case measure=>omega
     case rel=>exact⟨c-1,n2,_,os2,by congr 1;omega,by omega,by omega,l5 _,by rw[size_swp];exact hX,rfl,HM.out⟩
    ·rw[gl,dif_neg hlt2]at hmv;have HM:Hid _:=hmv;have hf:=B.fin n2 X os2;rw[<-hwr2]at hf;clear hmv hwr2 hwr B c0
     go_wp2
     (try simp only[Exit.inBlock,Exit.then]);refine bodyPost_ret (results_none rfl _ _ _) rfl ?_
     rw[<-HB.out,<-HM.out];exact⟨rfl,hf⟩
variable{P:Program}{ρ:Ren}{α:Type}[Inhabited α]
def bS(lt:α->α->Bool)(d:Array α)(a m b:Nat):Nat:=
 iO (fun c=> !lt d[(a+b)/2+m-1-c]! d[c]!) (if(a+b)/2<m then(a+b)/2+m-b else a) (if(a+b)/2<m then(a+b)/2 else m)
def eT(lt:α->α->Bool)(d:Array α)(a m b:Nat):Array α:=
 if bS lt d a m b<m/\m<(a+b)/2+m-bS lt d a m b then qI m d (m-bS lt d a m b) ((a+b)/2+m-bS lt d a m b-m)else d
def fM(lt:α->α->Bool)(d:Array α)(a m b:Nat):Array α:=
 if m<=a+1 then jX d a (iO (fun h=>lt d[h]! d[a]!) m b-1)
 else if b<=m+1 then gl d m (iO (fun h=> !lt d[m]! d[h]!) a m)
 else
  let s:=bS lt d a m b
  let d2:=if h:a<s/\s<(a+b)/2 then fM lt (eT lt d a m b) a s ((a+b)/2)else eT lt d a m b
  if h:(a+b)/2<(a+b)/2+m-s/\(a+b)/2+m-s<b then fM lt d2 ((a+b)/2) ((a+b)/2+m-s) b else d2
termination_by b-a
decreasing_by all_goals omega
theorem FL{lt:α->α->Bool}{d:Array α}{a m b:Nat}(ham:a<m)(hmb:m<b):
 a<=bS lt d a m b/\bS lt d a m b<=m/\bS lt d a m b<=(a+b)/2/\(a+b)/2+m-b<=bS lt d a m b:=by
 unfold bS;split;have:=DM (fun c=> !lt d[(a+b)/2+m-1-c]! d[c]!) ((a+b)/2+m-b) ((a+b)/2) (by omega);omega;have:=DM (fun c=> !lt d[(a+b)/2+m-1-c]! d[c]!) a m (by omega);omega
theorem nC(lt:α->α->Bool)(d:Array α)(a m b:Nat):(eT lt d a m b).size=d.size:=by
 unfold eT;split;rw[fR];rfl
theorem iJ(lt:α->α->Bool):∀(N:Nat) (d:Array α) (a m b:Nat),b-a<=N->(fM lt d a m b).size=d.size
 |N,d,a,m,b,h=>by
  rw[fM];split;rw[R6];split;rw[On];cases N with
  |zero=>
   dsimp only;split;rename_i c;omega;split;rename_i c;omega;rw[nC]
  |succ N=>
   have key:(if h:a<bS lt d a m b/\bS lt d a m b<(a+b)/2 then fM lt (eT lt d a m b) a (bS lt d a m b) ((a+b)/2)else eT lt d a m b).size=d.size:=by
    split;rw[iJ lt N _ _ _ _ (by omega),nC];rw[nC]
   dsimp only;split;rw[iJ lt N _ _ _ _ (by omega)];exact key;exact key
def gw(lt:α->α->Bool)(d:Array α)(a m b:Nat):Array α:=
 if a<bS lt d a m b/\bS lt d a m b<(a+b)/2 then fM lt (eT lt d a m b) a (bS lt d a m b) ((a+b)/2)else eT lt d a m b
theorem Hs{lt:α->α->Bool}{d:Array α}{a m b:Nat}(c:¬m<=a+1)(e:¬b<=m+1):
 fM lt d a m b=if(a+b)/2<(a+b)/2+m-bS lt d a m b/\(a+b)/2+m-bS lt d a m b<b then fM lt (gw lt d a m b) ((a+b)/2) ((a+b)/2+m-bS lt d a m b) b else gw lt d a m b:=by
 rw[fM,a_ c,a_ e];simp only[dite_eq_ite];rfl
theorem Ri(lt:α->α->Bool)(d:Array α)(a m b:Nat):(gw lt d a m b).size=d.size:=by
 unfold gw;split;rw[iJ lt _ _ _ _ _ (l5 _),nC];rw[nC]
variable{P:Program}{ρ:Ren}{α:Type}[Inhabited α]
set_option maxHeartbeats 16000000 in
set_option maxRecDepth 1000000 in
theorem Uv(L:LaysGt.n30 P ρ){enc:α->List Value}{k:Nat}(hk:∀x,(enc x).length=k)(lt:α->α->Bool){g:Nat}{lb:Array Value}{sf:Nat}{sb:Array Value}{blk off:Nat}
 (eg:∀args w,(callFunc g args).run P w= .ok (.enter g args) w):∀(N:Nat) (a m b:Nat) {d:Array α} {w:World},
 b-a<=N->LessReadsK P g lb enc k lt blk off d.size w->SwapSwapsK P sf sb enc k blk off d.size->HoldsK enc k w blk off d->blk<w.heap.size->a<m->m<b->b<=d.size->d.size<4611686018427387904->
 Calls P (ρ.f 30) #[.agg #[.func (.func g) #[] lb,.func (.func sf) #[] sb],.int .i64 a,.int .i64 m,.int .i64 b] w fun e w'=>e= .returned (.tuple #[])/\
  ∃n os,w'=sortWorldK enc k w blk off n (fM lt d a m b) os:=by
 intro N
 induction N with
 |zero=>intro a m b d w hN _ _ _ _ ham hmb;omega
 |succ N ih=>
 intro a m b d w hN hless hswap hH hblk ham hmb hb hsz;by_cases hl:m<=a+1
 ·rw[fM,an hl];exact WU L hk lt a m b eg hless hswap hH hblk ham hl hmb hb hsz
 by_cases hr:b<=m+1
 ·rw[fM,a_ hl,an hr];exact UU L hk lt a m b eg hless hswap hH hblk (by omega) hmb hr hb hsz
 obtain⟨B,hstart⟩:=Ap (t:=ρ.t 42) hk hless hswap hH hblk;have hSW:∀n (X:Array α) os,SWK enc k w blk off X (sortWorldK enc k (w.alloc (.cells #[.func (.func g) #[] lb,.func (.func sf) #[] sb] (ρ.t 42))) blk off n X os):=fun n X os=>B.fin n X os
 have hrot:∀n (X:Array α) os,X.size=d.size->∀(s e:Nat) (zs ze:Int),zs=s->ze=e->s<m->m<e->e<=d.size->
  Calls P (ρ.f 42) #[.agg #[.func (.func g) #[] lb,.func (.func sf) #[] sb],.int .i64 zs,.int .i64 m,.int .i64 ze] (sortWorldK enc k (w.alloc (.cells #[.func (.func g) #[] lb,.func (.func sf) #[] sb] (ρ.t 42))) blk off n X os) fun e' w'=>
   e'= .returned (.tuple #[])/\∃n' os',w'=sortWorldK enc k (w.alloc (.cells #[.func (.func g) #[] lb,.func (.func sf) #[] sb] (ρ.t 42))) blk off n' (qI m X (m-s) (e-m)) os':=by
  intro n X os hX s e zs ze hs he h1 h2 h3;subst hs;subst he;refine(X7 ({L with}:LaysGt.n42 P ρ) hk (.func g) #[] lb sf sb s m e (d:=X) (by rw[hX];exact hswap) ((hSW n X os).holds hblk hH hX) ((hSW n X os).lt hblk) h1 h2 (by omega) (by omega)).mono ?_;rintro e' w' ⟨rfl,n',os',rfl⟩;exact⟨rfl,_,_,sortWorldK_on enc k _ blk off n n' X _ os os' B.lt_blk (fR ..)⟩
 have hrec:∀n (X:Array α) os,X.size=d.size->∀(a' m' b':Nat) (za zm zb:Int),za=a'->zm=m'->zb=b'->a'<m'->m'<b'->b'<=d.size->b'-a'<=N->
  Calls P (ρ.f 30) #[.agg #[.func (.func g) #[] lb,.func (.func sf) #[] sb],.int .i64 za,.int .i64 zm,.int .i64 zb] (sortWorldK enc k (w.alloc (.cells #[.func (.func g) #[] lb,.func (.func sf) #[] sb] (ρ.t 42))) blk off n X os) fun e' w'=>
   e'= .returned (.tuple #[])/\∃n' os',w'=sortWorldK enc k (w.alloc (.cells #[.func (.func g) #[] lb,.func (.func sf) #[] sb] (ρ.t 42))) blk off n' (fM lt X a' m' b') os':=by
  intro n X os hX a' m' b' za zm zb ha' hm' hb' h1 h2 h3 h4;subst ha';subst hm';subst hb';refine(ih a' m' b' (d:=X) h4 (by rw[hX];exact(hSW n X os).lessReads hless hblk hX) (by rw[hX];exact hswap) ((hSW n X os).holds hblk hH hX) ((hSW n X os).lt hblk) h1 h2 (by omega) (by omega)).mono ?_;rintro e' w' ⟨rfl,n',os',rfl⟩;exact⟨rfl,_,_,sortWorldK_on enc k _ blk off n n' X _ os os' B.lt_blk (iJ lt N _ _ _ _ h4)⟩
 have mixed:=L.mixed;have t0:=L.t0;have a0:=L.a0;have z0:=L.z0;have v0:=L.v0;have t3:=L.t3;have a3:=L.a3;have z3:=L.z3;have v3:=L.v3;have t4:=L.t4;have a4:=L.a4;have z4:=L.z4;have v4:=L.v4;have t26:=L.t26;have a26:=L.a26;have z26:=L.z26;have v26:=L.v26;have t38:=L.t38;have a38:=L.a38;have z38:=L.z38;have v38:=L.v38;have t42:=L.t42;have a42:=L.a42;have z42:=L.z42;have v42:=L.v42;have t47:=L.t47;have a47:=L.a47;have z47:=L.z47;have v47:=L.v47;have u42:=run_underlying L.t42;have e42:∀args w,(callFunc (ρ.f 42) args).run P w= .ok (.enter (ρ.f 42) args) w:=enters_of L.f42 (by kernel_rfl) rfl;have e30:∀args w,(callFunc (ρ.f 30) args).run P w= .ok (.enter (ρ.f 30) args) w:=enters_of L.f30 (by kernel_rfl) rfl;clear hless hswap hH hSW ih;generalize hW1:w.alloc (.cells #[.func (.func g) #[] lb,.func (.func sf) #[] sb] (ρ.t 42))=W1 at*
 have q1:((m:Int)-(a:Int)==1)=false:=by rw[beq_eq_false_iff_ne];omega
 have q2:((b:Int)-(m:Int)==1)=false:=by rw[beq_eq_false_iff_ne];omega
 have hle:=FL (lt:=lt) (d:=d) ham hmb;have hst:bS lt d a m b=iO (fun c=> !lt d[(a+b)/2+m-1-c]! d[c]!) (if(a+b)/2<m then(a+b)/2+m-b else a) (if(a+b)/2<m then(a+b)/2 else m):=rfl;have c0:=B.c0;have c1:=B.c1;have BB:Aside (TR P enc k lt g lb sf sb blk off d.size w.heap.size w W1):=B;clear B;have HR:Aside _:=hrot;have HC:Aside _:=hrec;clear hrot hrec;by_cases hm:(a+b)/2<m
 ·rw[an hm,an hm]at hst;have q3:decide (((a:Int)+(b:Int))/2<(m:Int))=true:=by simp only[b_]<;>omega
  go_enter L.f30,BodyGt.n30_ntmps ρ
  go_wp2
  go_loopg [18,19] (b-a) (fun kx s8 s9 wr=>∃(i j n:Nat) (os:Array Obj),s8= .int .i64 i/\s9= .int .i64 j/\((a+b)/2+m-b)<=i/\i<=j/\j<=((a+b)/2)/\j-i<=kx/\wr=sortWorldK enc k W1 blk off n d os/\
   iO (fun c=> !lt d[(a+b)/2+m-1-c]! d[c]!) i j=bS lt d a m b)
  case atStart=>exact⟨((a+b)/2+m-b),((a+b)/2),0, #[],(by first|rfl|(congr 1;omega)),(by first|rfl|go_num),by omega,by omega,by omega,by omega,hstart.symm,hst.symm⟩
  case round=>
   obtain⟨i,j,n,os,rfl,rfl,hai,hij,hjb,hkx,rfl,hbs⟩:=hrel;by_cases hlt:i<j
   ·have hl:=BB.less n d os rfl ((a+b)/2+m-1-(i+j)/2) ((i+j)/2) (by omega) (by omega);rw[show((((a+b)/2+m-1-(i+j)/2:Nat):Int))=((a:Int)+b)/2+m-1-((i:Int)+j)/2 by omega]at hl;rw[iO,dif_pos hlt]at hbs;have HB:Hid _:=hbs;clear hbs;cases hv:lt d[(a+b)/2+m-1-(i+j)/2]! d[(i+j)/2]! with
    |false=>
     rw[hv]at hl HB
     go_wp2_with (go_at_fn g;refine hl.mono ?_;rintro e w' ⟨rfl,q,rfl⟩)
     go_roundg (j-((i+j)/2+1))
     case measure=>omega
     case rel=>exact⟨(i+j)/2+1,j,n+q,os,by go_num,rfl,by omega,by omega,by omega,l5 _,rfl,HB.out⟩
    |true=>
     rw[hv]at hl HB
     go_wp2_with (go_at_fn g;refine hl.mono ?_;rintro e w' ⟨rfl,q,rfl⟩)
     go_roundg ((i+j)/2-i)
     case measure=>omega
     case rel=>exact⟨i,(i+j)/2,n+q,os,rfl,by go_num,by omega,by omega,by omega,l5 _,rfl,HB.out⟩
   ·obtain rfl:i=j:=by omega
    rw[iO,dif_neg hlt]at hbs;rw[<-hbs]at hle
    have E1:(i<m/\m<(a+b)/2+m-i/\Hid (eT lt d a m b=qI m d (m-i) ((a+b)/2+m-i-m)))\/(i<m/\¬m<(a+b)/2+m-i/\Hid (eT lt d a m b=d))\/(¬i<m/\Hid (eT lt d a m b=d)):=by
     unfold Hid eT;rw[<-hbs];by_cases h1:i<m<;>by_cases h2:m<(a+b)/2+m-i<;>simp[h1,h2]
    have E2:(a<i/\i<(a+b)/2/\Hid (gw lt d a m b=fM lt (eT lt d a m b) a i ((a+b)/2)))\/(a<i/\¬i<(a+b)/2/\Hid (gw lt d a m b=eT lt d a m b))\/(¬a<i/\Hid (gw lt d a m b=eT lt d a m b)):=by
     unfold Hid gw;rw[<-hbs];by_cases h1:a<i<;>by_cases h2:i<(a+b)/2<;>simp[h1,h2]
    have E3:((a+b)/2<(a+b)/2+m-i/\(a+b)/2+m-i<b/\Hid (fM lt d a m b=fM lt (gw lt d a m b) ((a+b)/2) ((a+b)/2+m-i) b))\/((a+b)/2<(a+b)/2+m-i/\¬(a+b)/2+m-i<b/\Hid (fM lt d a m b=gw lt d a m b))\/
     (¬(a+b)/2<(a+b)/2+m-i/\Hid (fM lt d a m b=gw lt d a m b)):=by
     unfold Hid;rw[Hs hl hr,<-hbs];by_cases h1:(a+b)/2<(a+b)/2+m-i<;>by_cases h2:(a+b)/2+m-i<b<;>simp only[h1,h2,and_self,and_true,and_false,true_and,false_and,if_true,if_false,not_true,not_false_iff,or_true,or_false,true_or,false_or]
    clear hbs hst;rcases E1 with⟨p1,p2,E1⟩|⟨p1,p2,E1⟩|⟨p1,E1⟩<;>rcases E2 with⟨r1,r2,E2⟩|⟨r1,r2,E2⟩|⟨r1,E2⟩<;>rcases E3 with⟨u1,u2,E3⟩|⟨u1,u2,E3⟩|⟨u1,E3⟩
    all_goals
     go_wp2_with (first
      |(go_at_fn (ρ.f 42);refine(HR _ _ _ (by first|rfl|exact fR ..|(rw[iJ lt _ _ _ _ _ (l5 _)];first|rfl|exact fR ..)) i ((a+b)/2+m-i) _ _ (by omega) (by omega) (by omega) (by omega) (by omega)).mono ?_;rintro e' w' ⟨rfl,n2,os2,rfl⟩)
      |(go_at_fn (ρ.f 30);refine(HC _ _ _ (by first|rfl|exact fR ..|(rw[iJ lt _ _ _ _ _ (l5 _)];first|rfl|exact fR ..)) a i ((a+b)/2) _ _ _ (by omega) (by omega) (by omega) (by omega) (by omega) (by omega) (by omega)).mono ?_;rintro e' w' ⟨rfl,n3,os3,rfl⟩)
      |(go_at_fn (ρ.f 30);refine(HC _ _ _ (by first|rfl|exact fR ..|(rw[iJ lt _ _ _ _ _ (l5 _)];first|rfl|exact fR ..)) ((a+b)/2) ((a+b)/2+m-i) b _ _ _ (by omega) (by omega) (by omega) (by omega) (by omega) (by omega) (by omega)).mono ?_;rintro e' w' ⟨rfl,n4,os4,rfl⟩))
    all_goals
     go_end0
     refine⟨rfl,?_⟩;rw[E3.out,E2.out,E1.out];exact BB.fin _ _ _
 ·rw[a_ hm,a_ hm]at hst;have q3:decide (((a:Int)+(b:Int))/2<(m:Int))=false:=by simp only[d_]<;>omega
  go_enter L.f30,BodyGt.n30_ntmps ρ
  go_wp2
  go_loopg [18,19] (b-a) (fun kx s8 s9 wr=>∃(i j n:Nat) (os:Array Obj),s8= .int .i64 i/\s9= .int .i64 j/\a<=i/\i<=j/\j<=m/\j-i<=kx/\wr=sortWorldK enc k W1 blk off n d os/\
   iO (fun c=> !lt d[(a+b)/2+m-1-c]! d[c]!) i j=bS lt d a m b)
  case atStart=>exact⟨a,m,0, #[],(by first|rfl|(congr 1;omega)),(by first|rfl|go_num),by omega,by omega,by omega,by omega,hstart.symm,hst.symm⟩
  case round=>
   obtain⟨i,j,n,os,rfl,rfl,hai,hij,hjb,hkx,rfl,hbs⟩:=hrel;by_cases hlt:i<j
   ·have hl:=BB.less n d os rfl ((a+b)/2+m-1-(i+j)/2) ((i+j)/2) (by omega) (by omega);rw[show((((a+b)/2+m-1-(i+j)/2:Nat):Int))=((a:Int)+b)/2+m-1-((i:Int)+j)/2 by omega]at hl;rw[iO,dif_pos hlt]at hbs;have HB:Hid _:=hbs;clear hbs;cases hv:lt d[(a+b)/2+m-1-(i+j)/2]! d[(i+j)/2]! with
    |false=>
     rw[hv]at hl HB
     go_wp2_with (go_at_fn g;refine hl.mono ?_;rintro e w' ⟨rfl,q,rfl⟩)
     go_roundg (j-((i+j)/2+1))
     case measure=>omega
     case rel=>exact⟨(i+j)/2+1,j,n+q,os,by go_num,rfl,by omega,by omega,by omega,l5 _,rfl,HB.out⟩
    |true=>
     rw[hv]at hl HB
     go_wp2_with (go_at_fn g;refine hl.mono ?_;rintro e w' ⟨rfl,q,rfl⟩)
     go_roundg ((i+j)/2-i)
     case measure=>omega
     case rel=>exact⟨i,(i+j)/2,n+q,os,rfl,by go_num,by omega,by omega,by omega,l5 _,rfl,HB.out⟩
   ·obtain rfl:i=j:=by omega
    rw[iO,dif_neg hlt]at hbs;rw[<-hbs]at hle
    have E1:(i<m/\m<(a+b)/2+m-i/\Hid (eT lt d a m b=qI m d (m-i) ((a+b)/2+m-i-m)))\/(i<m/\¬m<(a+b)/2+m-i/\Hid (eT lt d a m b=d))\/(¬i<m/\Hid (eT lt d a m b=d)):=by
     unfold Hid eT;rw[<-hbs];by_cases h1:i<m<;>by_cases h2:m<(a+b)/2+m-i<;>simp[h1,h2]
    have E2:(a<i/\i<(a+b)/2/\Hid (gw lt d a m b=fM lt (eT lt d a m b) a i ((a+b)/2)))\/(a<i/\¬i<(a+b)/2/\Hid (gw lt d a m b=eT lt d a m b))\/(¬a<i/\Hid (gw lt d a m b=eT lt d a m b)):=by
     unfold Hid gw;rw[<-hbs];by_cases h1:a<i<;>by_cases h2:i<(a+b)/2<;>simp[h1,h2]
    have E3:((a+b)/2<(a+b)/2+m-i/\(a+b)/2+m-i<b/\Hid (fM lt d a m b=fM lt (gw lt d a m b) ((a+b)/2) ((a+b)/2+m-i) b))\/((a+b)/2<(a+b)/2+m-i/\¬(a+b)/2+m-i<b/\Hid (fM lt d a m b=gw lt d a m b))\/
     (¬(a+b)/2<(a+b)/2+m-i/\Hid (fM lt d a m b=gw lt d a m b)):=by
     unfold Hid;rw[Hs hl hr,<-hbs];by_cases h1:(a+b)/2<(a+b)/2+m-i<;>by_cases h2:(a+b)/2+m-i<b<;>simp only[h1,h2,and_self,and_true,and_false,true_and,false_and,if_true,if_false,not_true,not_false_iff,or_true,or_false,true_or,false_or]
    clear hbs hst;rcases E1 with⟨p1,p2,E1⟩|⟨p1,p2,E1⟩|⟨p1,E1⟩<;>rcases E2 with⟨r1,r2,E2⟩|⟨r1,r2,E2⟩|⟨r1,E2⟩<;>rcases E3 with⟨u1,u2,E3⟩|⟨u1,u2,E3⟩|⟨u1,E3⟩
    all_goals
     go_wp2_with (first
      |(go_at_fn (ρ.f 42);refine(HR _ _ _ (by first|rfl|exact fR ..|(rw[iJ lt _ _ _ _ _ (l5 _)];first|rfl|exact fR ..)) i ((a+b)/2+m-i) _ _ (by omega) (by omega) (by omega) (by omega) (by omega)).mono ?_;rintro e' w' ⟨rfl,n2,os2,rfl⟩)
      |(go_at_fn (ρ.f 30);refine(HC _ _ _ (by first|rfl|exact fR ..|(rw[iJ lt _ _ _ _ _ (l5 _)];first|rfl|exact fR ..)) a i ((a+b)/2) _ _ _ (by omega) (by omega) (by omega) (by omega) (by omega) (by omega) (by omega)).mono ?_;rintro e' w' ⟨rfl,n3,os3,rfl⟩)
      |(go_at_fn (ρ.f 30);refine(HC _ _ _ (by first|rfl|exact fR ..|(rw[iJ lt _ _ _ _ _ (l5 _)];first|rfl|exact fR ..)) ((a+b)/2) ((a+b)/2+m-i) b _ _ _ (by omega) (by omega) (by omega) (by omega) (by omega) (by omega) (by omega)).mono ?_;rintro e' w' ⟨rfl,n4,os4,rfl⟩))
    all_goals
     go_end0
     refine⟨rfl,?_⟩;rw[E3.out,E2.out,E1.out];exact BB.fin _ _ _
variable{P:Program}{ρ:Ren}{α:Type}[Inhabited α]
def oX(lt:α->α->Bool)(d:Array α)(a n:Nat):Array α:=
 if a+20<=n then oX lt (Sort.insertionSort lt d a (a+20)) (a+20) n else Sort.insertionSort lt d a n
termination_by n-a
def rk(lt:α->α->Bool)(d:Array α)(c a n:Nat):Array α:=
 if h:0<c/\a+2*c<=n then rk lt (fM lt d a (a+c) (a+2*c)) c (a+2*c) n
 else if a+c<n then fM lt d a (a+c) n else d
termination_by n-a
def qe(lt:α->α->Bool)(d:Array α)(c n:Nat):Array α:=
 if h:0<c/\c<n then qe lt (rk lt d c 0 n) (2*c) n else d
termination_by n-c
def lK(lt:α->α->Bool)(d:Array α):Array α:=qe lt (oX lt d 0 d.size) 20 d.size
theorem uy(lt:α->α->Bool)(a:Nat):∀(j:Nat) (d:Array α),(Sort.insInner lt a j d).size=d.size
 |0,d=>by rw[Sort.insInner]
 |j+1,d=>by
  rw[Sort.insInner];split;rw[uy lt a j,size_swp];rfl
theorem O0(lt:α->α->Bool)(a b i:Nat)(d:Array α):(Sort.insOuter lt a b i d).size=d.size:=by
 fun_induction Sort.insOuter lt a b i d with
 |case1 i d h c=>rw[c,uy]
 |case2 i d h=>rfl
theorem fl(lt:α->α->Bool)(d:Array α)(a b:Nat):(Sort.insertionSort lt d a b).size=d.size:=O0 ..
theorem JZ(lt:α->α->Bool)(d:Array α)(a n:Nat):(oX lt d a n).size=d.size:=by
 fun_induction oX lt d a n with
 |case1 d a h b=>rw[b,fl]
 |case2 d a h=>rw[fl]
theorem pI(lt:α->α->Bool)(d:Array α)(a m b:Nat):(fM lt d a m b).size=d.size:=iJ lt _ _ _ _ _ (l5 _)
theorem IG(lt:α->α->Bool)(d:Array α)(c a n:Nat):(rk lt d c a n).size=d.size:=by
 fun_induction rk lt d c a n with
 |case1 d a h b=>rw[b,pI]
 |case2 d a h e=>rw[pI]
 |case3 d a h e=>rfl
set_option maxHeartbeats 16000000 in
set_option maxRecDepth 1000000 in
theorem Xw(L:LaysGt.n15 P ρ){enc:α->List Value}{k:Nat}(hk:∀x,(enc x).length=k)(lt:α->α->Bool){g:Nat}{lb:Array Value}{sf:Nat}{sb:Array Value}{blk off:Nat}{d:Array α}{w:World}
 (eg:∀args w,(callFunc g args).run P w= .ok (.enter g args) w) (hless:LessReadsK P g lb enc k lt blk off d.size w) (hswap:SwapSwapsK P sf sb enc k blk off d.size)
 (hH:HoldsK enc k w blk off d) (hblk:blk<w.heap.size) (hsz:d.size<1152921504606846976):
 Calls P (ρ.f 15) #[.agg #[.func (.func g) #[] lb,.func (.func sf) #[] sb],.int .i64 d.size] w fun e w'=>e= .returned (.tuple #[])/\∃n os,w'=sortWorldK enc k w blk off n (lK lt d) os:=by
 have LI:LaysGg.n26 P ρ.viaGt:=({L with}:LaysGt.n29 P ρ).elder;obtain⟨B,hstart⟩:=Ap (t:=ρ.t 42) hk hless hswap hH hblk;have hSW:∀n (X:Array α) os,SWK enc k w blk off X (sortWorldK enc k (w.alloc (.cells #[.func (.func g) #[] lb,.func (.func sf) #[] sb] (ρ.t 42))) blk off n X os):=fun n X os=>B.fin n X os
 have hins:∀n (X:Array α) os,X.size=d.size->∀(s e:Nat) (zs ze:Int),zs=s->ze=e->s<=e->e<=d.size->
  Calls P (ρ.f 29) #[.agg #[.func (.func g) #[] lb,.func (.func sf) #[] sb],.int .i64 zs,.int .i64 ze] (sortWorldK enc k (w.alloc (.cells #[.func (.func g) #[] lb,.func (.func sf) #[] sb] (ρ.t 42))) blk off n X os) fun e' w'=>
   e'= .returned (.tuple #[])/\∃n' os',w'=sortWorldK enc k (w.alloc (.cells #[.func (.func g) #[] lb,.func (.func sf) #[] sb] (ρ.t 42))) blk off n' (Sort.insertionSort lt X s e) os':=by
  intro n X os hX s e zs ze hs he h1 h2;subst hs;subst he;refine(Any.insertionSort_func_cells_w LI enc k hk lt g lb sf sb blk off s e X _ eg (by rw[hX];exact(hSW n X os).lessReads hless hblk hX) (by rw[hX];exact hswap) ((hSW n X os).holds hblk hH hX) ((hSW n X os).lt hblk) h1 (by omega) (by omega)).mono ?_;rintro e' w' ⟨rfl,n',os',rfl⟩;exact⟨rfl,_,_,sortWorldK_on enc k _ blk off n n' X _ os os' B.lt_blk (fl ..)⟩
 have hsym:∀n (X:Array α) os,X.size=d.size->∀(a' m' b':Nat) (za zm zb:Int),za=a'->zm=m'->zb=b'->a'<m'->m'<b'->b'<=d.size->
  Calls P (ρ.f 30) #[.agg #[.func (.func g) #[] lb,.func (.func sf) #[] sb],.int .i64 za,.int .i64 zm,.int .i64 zb] (sortWorldK enc k (w.alloc (.cells #[.func (.func g) #[] lb,.func (.func sf) #[] sb] (ρ.t 42))) blk off n X os) fun e' w'=>
   e'= .returned (.tuple #[])/\∃n' os',w'=sortWorldK enc k (w.alloc (.cells #[.func (.func g) #[] lb,.func (.func sf) #[] sb] (ρ.t 42))) blk off n' (fM lt X a' m' b') os':=by
  intro n X os hX a' m' b' za zm zb ha' hm' hb' h1 h2 h3;subst ha';subst hm';subst hb';refine(Uv ({L with}:LaysGt.n30 P ρ) hk lt eg _ a' m' b' (d:=X) (l5 _) (by rw[hX];exact(hSW n X os).lessReads hless hblk hX) (by rw[hX];exact hswap) ((hSW n X os).holds hblk hH hX) ((hSW n X os).lt hblk) h1 h2 (by omega) (by omega)).mono ?_;rintro e' w' ⟨rfl,n',os',rfl⟩;exact⟨rfl,_,_,sortWorldK_on enc k _ blk off n n' X _ os os' B.lt_blk (pI ..)⟩
 have mixed:=L.mixed;have t0:=L.t0;have a0:=L.a0;have z0:=L.z0;have v0:=L.v0;have t3:=L.t3;have a3:=L.a3;have z3:=L.z3;have v3:=L.v3;have t4:=L.t4;have a4:=L.a4;have z4:=L.z4;have v4:=L.v4;have t26:=L.t26;have a26:=L.a26;have z26:=L.z26;have v26:=L.v26;have t38:=L.t38;have a38:=L.a38;have z38:=L.z38;have v38:=L.v38;have t42:=L.t42;have a42:=L.a42;have z42:=L.z42;have v42:=L.v42;have t47:=L.t47;have a47:=L.a47;have z47:=L.z47;have v47:=L.v47;have u42:=run_underlying L.t42;have e29:∀args w,(callFunc (ρ.f 29) args).run P w= .ok (.enter (ρ.f 29) args) w:=enters_of L.f29 (by kernel_rfl) rfl;have e30:∀args w,(callFunc (ρ.f 30) args).run P w= .ok (.enter (ρ.f 30) args) w:=enters_of L.f30 (by kernel_rfl) rfl;clear hless hswap hH hSW LI;generalize hW1:w.alloc (.cells #[.func (.func g) #[] lb,.func (.func sf) #[] sb] (ρ.t 42))=W1 at*
 have c0:=B.c0;have c1:=B.c1;have BB:Aside (TR P enc k lt g lb sf sb blk off d.size w.heap.size w W1):=B;clear B;have HI:Aside _:=hins;have HC:Aside _:=hsym;clear hins hsym;have hA:lK lt d=qe lt (oX lt d 0 d.size) 20 d.size:=rfl;generalize hn:d.size=n at*
 go_enter L.f15,BodyGt.n15_ntmps ρ
 go_wp2
 go_loopg [5,6] n (fun kx s5 s6 wr=>∃(i q:Nat) (X:Array α) (os:Array Obj),s5= .int .i64 i/\s6= .int .i64 (i+20:Nat)/\i<=n/\n-i<=kx/\X.size=n/\wr=sortWorldK enc k W1 blk off q X os/\
  oX lt X i n=oX lt d 0 n)
 case atStart=>exact⟨0,0,d, #[],rfl,rfl,by omega,by omega,hn,hstart.symm,rfl⟩
 case round=>
  obtain⟨i,q,X,os,rfl,rfl,hin,hkx,hX,rfl,hs1⟩:=hrel;by_cases hlt:i+20<=n
  ·rw[oX,an hlt]at hs1;have H1:Hid _:=hs1;clear hs1
   go_wp2_with (go_at_fn (ρ.f 29);refine(HI _ _ _ hX i (i+20) _ _ (by omega) (by omega) (by omega) (by omega)).mono ?_;rintro e' w' ⟨rfl,n2,os2,rfl⟩)
   go_roundg (n-(i+20))
   case measure=>omega
   case rel=>exact⟨i+20,n2,_,os2,rfl,by go_num,by omega,l5 _,by rw[fl];exact hX,rfl,H1.out⟩
  ·rw[oX,a_ hlt]at hs1;have H1:Hid _:=hs1;clear hs1
   go_wp2_with (go_at_fn (ρ.f 29);refine(HI _ _ _ hX i n _ _ (by omega) (by omega) (by omega) (by omega)).mono ?_;rintro e' w' ⟨rfl,n2,os2,rfl⟩)
   have hA2:qe lt (Sort.insertionSort lt X i n) 20 n=lK lt d:=by rw[H1.out,hA]
   have HA2:Hid _:=hA2;clear hA2 hA H1
   go_loopg [4] n (fun kx s4 wr2=>∃(c q:Nat) (X:Array α) (os:Array Obj),s4= .int .i64 c/\20<=c/\c<=3*n+20/\n-c<=kx/\X.size=n/\wr2=sortWorldK enc k W1 blk off q X os/\qe lt X c n=lK lt d)
   case atStart=>exact⟨20,n2,_,os2,by go_num,by omega,by omega,by omega,by rw[fl];exact hX,rfl,HA2.out⟩
   case round=>
    obtain⟨c,q2,X2,os3,rfl,hc20,hcn,hkx2,hX2,rfl,hs3⟩:=hrel;by_cases hc:c<n
    ·rw[qe,dif_pos ⟨by omega,hc⟩]at hs3;have H3:Hid _:=hs3;clear hs3
     go_wp2
     go_loopg [5,6] n (fun kx s5 s6 wr3=>∃(i q:Nat) (X:Array α) (os:Array Obj),s5= .int .i64 i/\s6= .int .i64 (i+2*c:Nat)/\i<=n/\n-i<=kx/\X.size=n/\wr3=sortWorldK enc k W1 blk off q X os/\
      rk lt X c i n=rk lt X2 c 0 n)
     case atStart=>exact⟨0,q2,X2,os3,rfl,by go_num,by omega,by omega,hX2,rfl,rfl⟩
     case round=>
      obtain⟨i3,q3,X3,os4,rfl,rfl,hin3,hkx3,hX3,rfl,hs2⟩:=hrel;by_cases h2c:i3+2*c<=n
      ·rw[rk,dif_pos ⟨by omega,h2c⟩]at hs2;have H2:Hid _:=hs2;clear hs2
       go_wp2_with (go_at_fn (ρ.f 30);refine(HC _ _ _ hX3 i3 (i3+c) (i3+2*c) _ _ _ (by omega) (by omega) (by omega) (by omega) (by omega) (by omega)).mono ?_;rintro e' w' ⟨rfl,n5,os5,rfl⟩)
       go_roundg (n-(i3+2*c))
       case measure=>omega
       case rel=>exact⟨i3+2*c,n5,_,os5,rfl,(by first|rfl|(congr 1;omega)|go_num),by omega,l5 _,by rw[pI];exact hX3,rfl,H2.out⟩
      ·rw[rk,dif_neg (by omega)]at hs2;by_cases h1c:i3+c<n
       ·rw[an h1c]at hs2;have H2:Hid _:=hs2;clear hs2
        go_wp2_with (go_at_fn (ρ.f 30);refine(HC _ _ _ hX3 i3 (i3+c) n _ _ _ (by omega) (by omega) (by omega) (by omega) (by omega) (by omega)).mono ?_;rintro e' w' ⟨rfl,n5,os5,rfl⟩)
        go_roundg (n-2*c)
        case measure=>omega
        case rel=>exact⟨2*c,n5,_,os5,(by first|rfl|(congr 1;omega)|go_num),by omega,by omega,l5 _,by rw[pI];exact hX3,rfl,by rw[H2.out];exact H3.out⟩
       ·rw[a_ h1c]at hs2;have H2:Hid _:=hs2;clear hs2
        go_wp2
        go_roundg (n-2*c)
        case measure=>omega
        case rel=>exact⟨2*c,q3,X3,os4,(by first|rfl|(congr 1;omega)|go_num),by omega,by omega,l5 _,hX3,rfl,by rw[H2.out];exact H3.out⟩
    ·rw[qe,dif_neg (by omega)]at hs3;have H3:Hid _:=hs3;clear hs3
     go_wp2
     go_end0
     rw[<-H3.out];exact⟨rfl,BB.fin _ _ _⟩
variable{α:Type}
def lZ(lt:α->α->Bool)(c x:α):Bool:= !lt c x&& !lt x c
def sB(lt:α->α->Bool)(l:List α):Prop:=l.Pairwise fun x y=>lt y x=false
theorem Nl{lt:α->α->Bool}(b:SWO lt)(x:α):lZ lt x x=true:=by simp[lZ,b.irrefl]
theorem nm{lt:α->α->Bool}(e:SWO lt){b d:List α}(h:∀c,b.filter (lZ lt c)=d.filter (lZ lt c)){x:α}(f:x∈b):x∈d:=by
 have:x∈b.filter (lZ lt x):=ahV.2 ⟨f,Nl e x⟩;rw[h x]at this;exact(ahV.1 this).1
theorem I6{lt:α->α->Bool}(b:SWO lt):∀ {f d:List α},sB lt f->sB lt d->(∀c,f.filter (lZ lt c)=d.filter (lZ lt c))->f=d
 | [],d,_,_,h=>by
   cases d with
   |nil=>rfl
   |cons y r=>exact absurd (nm b (fun c=>(h c).symm) (ag3 (a:=y) (l:=r))) (by simp)
 |x::r1,[],_,_,h=>absurd (nm b h (ag3 (a:=x) (l:=r1))) (by simp)
 |x::r1,y::r2,h1,h2,h=>by
  have k:=ahH.1 h1;have a2:=ahH.1 h2
  have i:lt x y=false:=by
   rcases agF.1 (nm b h (ag3 (a:=x) (l:=r1)))with e|e;rw[e];exact b.irrefl y;exact a2.1 x e
  have j:lt y x=false:=by
   rcases agF.1 (nm b (fun c=>(h c).symm) (ag3 (a:=y) (l:=r2)))with e|e;rw[e];exact b.irrefl x;exact k.1 y e
  have m:=h x;rw[ag4 (Nl b x),ag4 (show lZ lt x y=true by simp[lZ,i,j])]at m;obtain⟨rfl,_⟩:=ahj m;congr 1;refine I6 b k.2 a2.2 fun c=> ?_;have hc:=h c;rw[ahP,ahP]at hc;split at hc;exact(ahj hc).2;exact hc
theorem wT{lt:α->α->Bool}(j:SWO lt){X Y:List α}(h:∀x∈X,∀y∈Y,lt y x=true)(c:α):(X++Y).filter (lZ lt c)=(Y++X).filter (lZ lt c):=by
 rw[agw,agw];by_cases e:∃x∈X,lZ lt c x=true;obtain⟨x,e,b⟩:=e
 have:Y.filter (lZ lt c)=[]:=by
  rw[ahz];intro y i d;simp only[lZ,t_,agT]at b d;have k:=h x e y i;have:=j.ntrans y c x d.2 b.1;rw[k]at this;cases this
 rw[this];simp
 have:X.filter (lZ lt c)=[]:=by
  rw[ahz];intro x f b;exact e ⟨x,f,b⟩
 rw[this];simp
variable[Inhabited α]
def bM(d:Array α)(a b:Nat):List α:=(ahw a (b-a)).map fun t=>d[t]!
theorem fI(d:Array α){a b c:Nat}(h1:a<=b)(h2:b<=c):bM d a c=bM d a b++bM d b c:=by
 unfold bM;rw[<-ahs,show c-a=(b-a)+(c-b) by omega,<-List.range'_append_1,show a+(b-a)=b by omega]
theorem ny(d:Array α){a b:Nat}(h:b<=a):bM d a b=[]:=by unfold bM;rw[show b-a=0 by omega];rfl
theorem oB(d:Array α){a b:Nat}(h:a<b):bM d a b=d[a]! ::bM d (a+1) b:=by
 unfold bM;rw[show b-a=(b-(a+1))+1 by omega,agO];rfl
theorem Yh(d:Array α){a b:Nat}(h:a<b):bM d a b=bM d a (b-1)++[d[b-1]!]:=by
 rw[fI d (show a<=b-1 by omega) (show b-1<=b by omega),oB d (a:=b-1) (b:=b) (by omega),ny d (a:=b-1+1) (b:=b) (by omega)]
theorem nz{d:Array α}{a b:Nat}{x:α}:x∈bM d a b↔∃t,a<=t/\t<b/\d[t]! =x:=by
 unfold bM;simp only[aho,ahk];constructor;rintro⟨t,⟨c,e⟩,rfl⟩;exact⟨t,c,by omega,rfl⟩;rintro⟨t,c,e,rfl⟩;exact⟨t,⟨c,by omega⟩,rfl⟩
theorem gZ{d d':Array α}{a b:Nat}(h:∀t,a<=t->t<b->d'[t]! =d[t]!):bM d' a b=bM d a b:=by
 unfold bM;refine ahF fun t c=> ?_;have:=ahk.1 c;exact h t this.1 (by omega)
theorem xu{d d':Array α}{a b s:Nat}(h:∀t,a<=t->t<b->d'[t]! =d[t+s]!):bM d' a b=bM d (a+s) (b+s):=by
 unfold bM;rw[show b+s-(a+s)=b-a by omega];apply List.ext_getElem;simp;intro i c h2;simp only[List.length_map,ahI]at c;simp only[ahQ,ag0,agS];rw[h (a+i) (by omega) (by omega),show a+i+s=a+s+i by omega]
theorem H5(d:Array α)(a b:Nat):(bM d a b).length=b-a:=by simp[bM]
theorem zY{lt:α->α->Bool}{d:Array α}{a b:Nat}:sB lt (bM d a b)↔∀i j,a<=i->i<j->j<b->lt d[j]! d[i]! =false:=by
 unfold sB bM;rw[List.pairwise_map,List.pairwise_iff_getElem];constructor;intro h i j c e f;have:=h (i-a) (j-a) (by simp;omega) (by simp;omega) (by omega);simp only[ag0,agS]at this;rwa [show a+(i-a)=i by omega,show a+(j-a)=j by omega]at this;intro h i j c e f;simp only[ahI]at c e;simp only[ag0,agS];exact h _ _ (by omega) (by omega) (by omega)
variable{α:Type}[Inhabited α]
theorem EE{d:Array α}{i j t:Nat}(hi:i<d.size)(f:j<d.size):(swp d i j)[t]! =if t=j then d[i]! else if t=i then d[j]! else d[t]! :=by
 unfold swp;by_cases c:t<d.size;simp only[getElem!_pos,c,hi,f,Array.size_setIfInBounds,Array.getElem_setIfInBounds];by_cases b:t=j;subst b;simp;by_cases e:t=i;subst e;simp[b,Ne.symm b];simp[b,e,Ne.symm b,Ne.symm e];rw[getElem!_neg _ _ (by simpa using c)];rw[a_ (by omega),a_ (by omega),getElem!_neg _ _ (by simpa using c)]
theorem qP{d:Array α}{a b:Nat}:∀(n:Nat),a+n<=b->b+n<=d.size->∀t,(ly d a b n)[t]! =if a<=t/\t<a+n then d[t-a+b]! else if b<=t/\t<b+n then d[t-b+a]! else d[t]!
 |0,_,_,t=>by rw[ly,a_ (by omega),a_ (by omega)]
 |n+1,h1,h2,t=>by
  rw[ly,EE (by rw[gf];omega) (by rw[gf];omega)];rw[qP n (by omega) (by omega),qP n (by omega) (by omega),qP n (by omega) (by omega)];by_cases c:t=b+n;subst c;rw[an rfl,a_ (by omega),a_ (by omega),a_ (by omega),an (by omega)];congr 1;omega;rw[a_ c];by_cases e:t=a+n;subst e;rw[an rfl,a_ (by omega),a_ (by omega),an (by omega)];congr 1;omega;rw[a_ e];by_cases f:a<=t/\t<a+n;rw[an f,an (by omega)];rw[a_ f];by_cases h:b<=t/\t<b+n;rw[an h,a_ (by omega),an (by omega)];rw[a_ h,a_ (by omega),a_ (by omega)]
theorem Yc{m:Nat}{d:Array α}{i j:Nat}(hi:0<i)(hj:0<j)(him:i<=m)(hmj:m+j<=d.size)(t:Nat):
 (qI m d i j)[t]! =if m-i<=t/\t<m-i+j then d[t+i]! else if m-i+j<=t/\t<m+j then d[t-j]! else d[t]! :=by
 fun_induction qI m d i j with
 |case1 d i j e f c=>
  have g:=fun t=>qP (d:=d) (a:=m-i) (b:=m) j (by omega) (by omega) t;rw[c (by omega) (by omega) (by omega) (by rw[gf];omega),g,g,g]
  repeat' split
  all_goals first|rfl|(exfalso;omega)|(congr 1;omega)
 |case2 d i j e f c=>
  have g:=fun t=>qP (d:=d) (a:=m-i) (b:=m+j-i) i (by omega) (by omega) t;rw[c (by omega) (by omega) (by omega) (by rw[gf];omega),g,g,g]
  repeat' split
  all_goals first|rfl|(exfalso;omega)|(congr 1;omega)
 |case3 d i j h=>
  obtain rfl:i=j:=by omega
  rw[qP (d:=d) (a:=m-i) (b:=m) i (by omega) (by omega) t]
  repeat' split
  all_goals first|rfl|(exfalso;omega)|(congr 1;omega)
theorem Uk{d:Array α}{k e:Nat}(hk:k<=e)(he:e<d.size)(t:Nat):(jX d k e)[t]! =if k<=t/\t<e then d[t+1]! else if t=e then d[k]! else d[t]! :=by
 fun_induction jX d k e with
 |case1 d k h b=>
  have g:=fun t=>EE (d:=d) (i:=k) (j:=k+1) (t:=t) (by omega) (by omega);rw[b (by omega) (by rw[size_swp];omega),g,g,g]
  repeat' split
  all_goals first|rfl|(exfalso;omega)|(congr 1;omega)
 |case2 d k h=>
  repeat' split
  all_goals first|rfl|(exfalso;omega)|(congr 1;omega)
theorem PE{d:Array α}{k e:Nat}(hk:e<=k)(he:k<d.size)(t:Nat):(gl d k e)[t]! =if e<t/\t<=k then d[t-1]! else if t=e then d[k]! else d[t]! :=by
 fun_induction gl d k e with
 |case1 d k h b=>
  have g:=fun t=>EE (d:=d) (i:=k) (j:=k-1) (t:=t) (by omega) (by omega);rw[b (by omega) (by rw[size_swp];omega),g,g,g]
  repeat' split
  all_goals first|rfl|(exfalso;omega)|(congr 1;omega)
 |case2 d k h=>
  repeat' split
  all_goals first|rfl|(exfalso;omega)|(congr 1;omega)
theorem GA(p:Nat->Bool){i j lo hi:Nat}(h:i<=j)(d:lo<i->p (i-1)=true)(e:j<hi->p j=false)(k:lo<=i)(l:j<=hi):
 (lo<iO p i j->p (iO p i j-1)=true)/\(iO p i j<hi->p (iO p i j)=false):=by
 fun_induction iO p i j with
 |case1 i j b f c=>exact c (by omega) (fun _=>by rwa [ahJ]) e (by omega) l
 |case2 i j b f c=>exact c (by omega) d (fun _=>by simpa using f) k (by omega)
 |case3 i j b=>
  obtain rfl:i=j:=by omega
  exact⟨d,e⟩
variable{α:Type}[Inhabited α]
theorem asym{lt:α->α->Bool}(b:SWO lt){x y:α}(h:lt x y=true):lt y x=false:=by
 cases c:lt y x with
 |false=>rfl
 |true=>have:=b.trans _ _ _ h c;rw[b.irrefl]at this;cases this
structure zG(lt:α->α->Bool)(d r:Array α)(a b:Nat):Prop where
 asc:sB lt (bM r a b)
 same:∀c,(bM r a b).filter (lZ lt c)=(bM d a b).filter (lZ lt c)
 out:∀t,t<a\/b<=t->r[t]! =d[t]!
theorem o9{lt:α->α->Bool}{b c:List α}:sB lt (b++c)↔sB lt b/\sB lt c/\∀x∈b,∀y∈c,lt y x=false:=List.pairwise_append
theorem MJ{lt:α->α->Bool}(o:SWO lt){d:Array α}{a b:Nat}(hab:a+1<b)(hb:b<=d.size)(q:sB lt (bM d (a+1) b)):
 zG lt d (jX d a (iO (fun h=>lt d[h]! d[a]!) (a+1) b-1)) a b:=by
 have hle:=DM (fun h=>lt d[h]! d[a]!) (a+1) b (by omega);have n:=GA (fun h=>lt d[h]! d[a]!) (i:=a+1) (j:=b) (lo:=a+1) (hi:=b) (by omega) (fun h=>by omega) (fun h=>by omega) (by omega) (by omega);generalize iO (fun h=>lt d[h]! d[a]!) (a+1) b=i at*
 have r:=zY.1 q
 have f1:∀h,a+1<=h->h<i->lt d[h]! d[a]! =true:=fun h g1 g2=>by
  have e:=n.1 (by omega);rcases H_ h (i-1)with g|g;cases v:lt d[h]! d[a]! with
  |true=>rfl
  |false=>have:=o.ntrans _ _ _ (r h (i-1) g1 g (by omega)) v;rw[e]at this;cases this
  rw[show h=i-1 by omega];exact e
 have f2:∀h,i<=h->h<b->lt d[h]! d[a]! =false:=fun h g1 g2=>by
  have e:=n.2 (by omega);rcases H_ i h with g|g;exact o.ntrans _ _ _ (r i h (by omega) g g2) e;rw[show h=i by omega];exact e
 have p:=fun t=>Uk (d:=d) (k:=a) (e:=i-1) (by omega) (by omega) t
 have s1:bM (jX d a (i-1)) a (i-1)=bM d (a+1) i:=by
  rw[xu (s:=1) (d:=d) (fun t g1 g2=>by rw[p,an ⟨g1,g2⟩]),show i-1+1=i by omega]
 have s2:bM (jX d a (i-1)) i b=bM d i b:=gZ fun t g1 g2=>by rw[p,a_ (by omega),a_ (by omega)]
 have u:bM (jX d a (i-1)) a b=bM d (a+1) i++([d[a]!]++bM d i b):=by
  rw[fI _ (show a<=i-1 by omega) (show i-1<=b by omega),s1,oB _ (show i-1<b by omega),show i-1+1=i by omega,s2,p,a_ (by omega),an rfl];rfl
 have z:bM d a b=[d[a]!]++(bM d (a+1) i++bM d i b):=by
  rw[oB _ (show a<b by omega),fI d (show a+1<=i by omega) (show i<=b by omega)];rfl
 have l:=o9.1 (by rw[<-fI d (show a+1<=i by omega) (show i<=b by omega)];exact q:sB lt (bM d (a+1) i++bM d i b));refine⟨?_,fun c=> ?_,fun t ht=>by rw[p,a_ (by omega),a_ (by omega)]⟩;rw[u,o9,o9];refine⟨l.1,⟨ahp _ _,l.2.1,fun x m y f=> ?_⟩,fun x m y f=> ?_⟩;obtain rfl:=O_.1 m;obtain⟨t,t1,t2,rfl⟩:=nz.1 f;exact f2 t t1 t2;rcases ag1.1 f with f|f;obtain rfl:=O_.1 f;obtain⟨t,t1,t2,rfl⟩:=nz.1 m;exact asym o (f1 t t1 t2);exact l.2.2 x m y f;rw[u,z,<-agD,<-agD,agw,agw (l₁:=[d[a]!]++bM d (a+1) i)];congr 1;refine(wT o (fun x m y f=> ?_) c).symm;obtain rfl:=O_.1 m;obtain⟨t,t1,t2,rfl⟩:=nz.1 f;exact f1 t t1 t2
theorem HU{lt:α->α->Bool}(o:SWO lt){d:Array α}{a m:Nat}(ham:a<m)(hb:m+1<=d.size)(q:sB lt (bM d a m)):
 zG lt d (gl d m (iO (fun h=> !lt d[m]! d[h]!) a m)) a (m+1):=by
 have hle:=DM (fun h=> !lt d[m]! d[h]!) a m (by omega);have f:=GA (fun h=> !lt d[m]! d[h]!) (i:=a) (j:=m) (lo:=a) (hi:=m) (by omega) (fun h=>by omega) (fun h=>by omega) (by omega) (by omega);generalize iO (fun h=> !lt d[m]! d[h]!) a m=i at*
 simp only[agT,ahK]at f;have r:=zY.1 q
 have f1:∀h,a<=h->h<i->lt d[m]! d[h]! =false:=fun h g1 g2=>by
  have e:=f.1 (by omega);rcases H_ h (i-1)with g|g;exact o.ntrans _ _ _ e (r h (i-1) g1 g (by omega));rw[show h=i-1 by omega];exact e
 have f2:∀h,i<=h->h<m->lt d[m]! d[h]! =true:=fun h g1 g2=>by
  have e:=f.2 (by omega);rcases H_ i h with g|g;cases v:lt d[m]! d[h]! with
  |true=>rfl
  |false=>have:=o.ntrans _ _ _ v (r i h (by omega) g g2);rw[e]at this;cases this
  rw[show h=i by omega];exact e
 have p:=fun t=>PE (d:=d) (k:=m) (e:=i) (by omega) (by omega) t;have s1:bM (gl d m i) a i=bM d a i:=gZ fun t g1 g2=>by rw[p,a_ (by omega),a_ (by omega)]
 have s2:bM d i m=bM (gl d m i) (i+1) (m+1):=xu (s:=1) fun t g1 g2=>by rw[p,an (by omega)];congr 1
 have u:bM (gl d m i) a (m+1)=bM d a i++([d[m]!]++bM d i m):=by
  rw[fI _ (show a<=i by omega) (show i<=m+1 by omega),s1,oB _ (show i<m+1 by omega),<-s2,p,a_ (by omega),an rfl];rfl
 have z:bM d a (m+1)=bM d a i++(bM d i m++[d[m]!]):=by
  rw[fI _ (show a<=i by omega) (show i<=m+1 by omega),Yh _ (show i<m+1 by omega),ahJ]
 have l:=o9.1 (by rw[<-fI d (show a<=i by omega) (show i<=m by omega)];exact q:sB lt (bM d a i++bM d i m));refine⟨?_,fun c=> ?_,fun t ht=>by rw[p,a_ (by omega),a_ (by omega)]⟩;rw[u,o9,o9];refine⟨l.1,⟨ahp _ _,l.2.1,fun x n y b=> ?_⟩,fun x n y b=> ?_⟩;obtain rfl:=O_.1 n;obtain⟨t,t1,t2,rfl⟩:=nz.1 b;exact asym o (f2 t t1 t2);rcases ag1.1 b with b|b;obtain rfl:=O_.1 b;obtain⟨t,t1,t2,rfl⟩:=nz.1 n;exact f1 t t1 t2;exact l.2.2 x n y b;rw[u,z,agw,agw (l₁:=bM d a i)];congr 1;refine(wT o (fun x n y b=> ?_) c).symm;obtain rfl:=O_.1 b;obtain⟨t,t1,t2,rfl⟩:=nz.1 n;exact f2 t t1 t2
variable{α:Type}[Inhabited α]
theorem tM{lt:α->α->Bool}(n:SWO lt):∀(N:Nat) {d:Array α} {a m b:Nat},b-a<=N->a<m->m<b->b<=d.size->sB lt (bM d a m)->sB lt (bM d m b)->zG lt d (fM lt d a m b) a b
 |0,d,a,m,b,hN,ham,hmb,hb,h1,h2=>by omega
 |N+1,d,a,m,b,hN,ham,hmb,hb,h1,h2=>by
  by_cases K:m<=a+1;obtain rfl:m=a+1:=by omega
  rw[fM,an K];exact MJ n (by omega) hb h2;by_cases hr:b<=m+1;obtain rfl:b=m+1:=by omega
  rw[fM,a_ K,an (l5 _)];exact HU n ham hb h1;rw[Hs K hr];have hle:=FL (lt:=lt) (d:=d) ham hmb
  have z:(a<bS lt d a m b->(a+b)/2+m-bS lt d a m b<b->lt d[(a+b)/2+m-bS lt d a m b]! d[bS lt d a m b-1]! =false)/\
   (bS lt d a m b<m->m<(a+b)/2+m-bS lt d a m b->lt d[(a+b)/2+m-bS lt d a m b-1]! d[bS lt d a m b]! =true):=by
   unfold bS
   have he:=GA (fun c=> !lt d[(a+b)/2+m-1-c]! d[c]!) (i:=if(a+b)/2<m then(a+b)/2+m-b else a) (j:=if(a+b)/2<m then(a+b)/2 else m)
    (lo:=if(a+b)/2<m then(a+b)/2+m-b else a) (hi:=if(a+b)/2<m then(a+b)/2 else m) (by split<;>omega) (fun h=>by omega) (fun h=>by omega) (l5 _) (l5 _)
   have hb2:=DM (fun c=> !lt d[(a+b)/2+m-1-c]! d[c]!) (if(a+b)/2<m then(a+b)/2+m-b else a) (if(a+b)/2<m then(a+b)/2 else m) (by split<;>omega);generalize iO (fun c=> !lt d[(a+b)/2+m-1-c]! d[c]!) (if(a+b)/2<m then(a+b)/2+m-b else a) (if(a+b)/2<m then(a+b)/2 else m)=s at*
   simp only[agT,ahK]at he;refine⟨fun g1 g2=> ?_,fun g1 g2=> ?_⟩;have:=he.1 (by split<;>omega);rw[show(a+b)/2+m-1-(s-1)=(a+b)/2+m-s by omega]at this;exact this;have:=he.2 (by split<;>omega);rw[show(a+b)/2+m-1-s=(a+b)/2+m-s-1 by omega]at this;exact this
  have k:eT lt d a m b=if bS lt d a m b<m/\m<(a+b)/2+m-bS lt d a m b then qI m d (m-bS lt d a m b) ((a+b)/2+m-bS lt d a m b-m)else d:=rfl
  have l:gw lt d a m b=if a<bS lt d a m b/\bS lt d a m b<(a+b)/2 then fM lt (eT lt d a m b) a (bS lt d a m b) ((a+b)/2)else eT lt d a m b:=rfl
  have hz1:=nC lt d a m b;have hz2:=Ri lt d a m b;generalize bS lt d a m b=s at*
  generalize eT lt d a m b=d1 at*
  generalize gw lt d a m b=d2 at*
  obtain⟨v,H,I,hs4⟩:=hle;obtain⟨e,he⟩:∃e,e=(a+b)/2+m-s:=⟨_,rfl⟩
  rw[<-he]at z k|-;obtain⟨f,J⟩:∃f,f=(a+b)/2:=⟨_,rfl⟩
  rw[<-J]at he l I|-;have i1:=o9.1 (by rw[<-fI d v H];exact h1:sB lt (bM d a s++bM d s m));have i2:=o9.1 (by rw[<-fI d (show m<=e by omega) (show e<=b by omega)];exact h2:sB lt (bM d m e++bM d e b));have W:=zY.1 h1;have a2:=zY.1 h2
  have X:∀x∈bM d s m,∀y∈bM d m e,lt y x=true:=fun x o y p=>by
   obtain⟨t,t1,t2,rfl⟩:=nz.1 o;obtain⟨u,u1,u2,rfl⟩:=nz.1 p;have O:=z.2 (by omega) (by omega)
   have q1:lt d[t]! d[s]! =false:=by
    rcases H_ s t with g|g;exact W s t v g t2;rw[show t=s by omega];exact n.irrefl _
   have q2:lt d[e-1]! d[u]! =false:=by
    rcases H_ u (e-1)with g|g;exact a2 u (e-1) u1 g (by omega);rw[show u=e-1 by omega];exact n.irrefl _
   cases hv:lt d[u]! d[t]! with
   |true=>rfl
   |false=>
    have:=n.ntrans _ _ _ (n.ntrans _ _ _ q2 hv) q1;rw[O]at this;cases this
  have F2:∀x∈bM d a s,∀y∈bM d e b,lt y x=false:=fun x o y p=>by
   obtain⟨t,t1,t2,rfl⟩:=nz.1 o;obtain⟨u,u1,u2,rfl⟩:=nz.1 p;have O:=z.1 (by omega) (by omega)
   have q1:lt d[s-1]! d[t]! =false:=by
    rcases H_ t (s-1)with g|g;exact W t (s-1) t1 g (by omega);rw[show t=s-1 by omega];exact n.irrefl _
   have q2:lt d[u]! d[e]! =false:=by
    rcases H_ e u with g|g;exact a2 e u (by omega) g u2;rw[show u=e by omega];exact n.irrefl _
   exact n.ntrans _ _ _ q2 (n.ntrans _ _ _ O q1)
  have R:bM d1 a s=bM d a s/\bM d1 s f=bM d m e/\bM d1 f e=bM d s m/\bM d1 e b=bM d e b/\∀t,t<a\/b<=t->d1[t]! =d[t]! :=by
   by_cases hc:s<m/\m<e;rw[an hc]at k;have g:=fun t=>Yc (m:=m) (d:=d) (i:=m-s) (j:=e-m) (by omega) (by omega) (by omega) (by omega) t;rw[<-k]at g;refine⟨gZ fun t g1 g2=>by rw[g,a_ (by omega),a_ (by omega)],?_,?_,gZ fun t g1 g2=>by rw[g,a_ (by omega),a_ (by omega)],fun t A=>by rw[g,a_ (by omega),a_ (by omega)]⟩;rw[xu (s:=m-s) (d:=d) fun t g1 g2=>by rw[g,an (by omega)]];congr 1<;>omega;have:bM d s m=bM d1 (s+(e-m)) (m+(e-m)):=xu fun t g1 g2=>by rw[g,a_ (by omega),an (by omega)];congr 1;omega
   rw[this];congr 1<;>omega;rw[a_ hc]at k;subst k;rcases H_ s m with g|g;have g1:e=m:=by omega
   have g2:f=s:=by omega
   exact⟨rfl,by rw[ny _ (by omega),ny _ (by omega)],by congr 1<;>omega,rfl,fun t A=>rfl⟩;have g1:s=m:=by omega
   have g2:f=e:=by omega
   exact⟨rfl,by congr 1,by rw[ny _ (by omega),ny _ (by omega)],rfl,fun t A=>rfl⟩
  obtain⟨T,V,r3,r4,r5⟩:=R
  have B:zG lt d1 d2 a f:=by
   by_cases hc:a<s/\s<f;rw[an hc]at l;rw[l];exact tM n N (by omega) hc.1 hc.2 (by omega) (by rw[T];exact i1.1) (by rw[V];exact i2.1);rw[a_ hc]at l;subst l;refine⟨?_,fun c=>rfl,fun t A=>rfl⟩;rcases H_ a s with g|g;rw[show f=s by omega,T];exact i1.1;rw[show a=s by omega,V];exact i2.1
  have S:bM d a b=bM d a s++bM d s m++(bM d m e++bM d e b):=by
   rw[fI d (show a<=m by omega) (show m<=b by omega),fI d v H,fI d (show m<=e by omega) (show e<=b by omega)]
  have D:bM d1 a f=bM d a s++bM d m e:=by rw[fI d1 v I,T,V]
  have Y:bM d2 f e=bM d s m:=by rw[<-r3];exact gZ fun t g1 g2=>B.out t (by omega)
  have Z:bM d2 e b=bM d e b:=by rw[<-r4];exact gZ fun t g1 g2=>B.out t (by omega)
  have q:bM d2 f b=bM d s m++bM d e b:=by rw[fI d2 (show f<=e by omega) (show e<=b by omega),Y,Z]
  have F:zG lt d2 (if f<e/\e<b then fM lt d2 f e b else d2) f b:=by
   by_cases hc:f<e/\e<b;rw[an hc];exact tM n N (by omega) hc.1 hc.2 (by omega) (by rw[Y];exact i1.2.1) (by rw[Z];exact i2.2.1);rw[a_ hc];refine⟨?_,fun c=>rfl,fun t A=>rfl⟩;rcases H_ f e with g|g;rw[q,ny d (show b<=e by omega),ahu];exact i1.2.1;rw[q,ny d (show m<=s by omega),agH];exact i2.2.1
  generalize (if f<e/\e<b then fM lt d2 f e b else d2)=r at*
  have rA:bM r a f=bM d2 a f:=gZ fun t g1 g2=>F.out t (by omega);have rs:bM r a b=bM d2 a f++bM r f b:=by rw[fI r (show a<=f by omega) (show f<=b by omega),rA]
  have m1:∀x∈bM d2 a f,x∈bM d a s\/x∈bM d m e:=fun x o=>by
   have:=nm n B.same o;rw[D]at this;exact ag1.1 this
  have m2:∀x∈bM r f b,x∈bM d s m\/x∈bM d e b:=fun x o=>by
   have:=nm n F.same o;rw[q]at this;exact ag1.1 this
  refine⟨?_,fun c=> ?_,fun t A=> ?_⟩;rw[rs,o9];refine⟨B.asc,F.asc,fun x o y p=> ?_⟩;rcases m1 x o with o|o<;>rcases m2 y p with p|p;exact i1.2.2 x o y p;exact F2 x o y p;exact asym n (X y p x o);exact i2.2.2 x o y p;rw[rs,agw,B.same,F.same,D,q,S];have:=wT n X c;simp only[agw]at this|-;rw[agD,<-agD (List.filter (lZ lt c) (bM d m e)),<-this];simp only[agD];rw[F.out t (by omega),B.out t (by omega),r5 t A]
variable{α:Type}[Inhabited α]
structure ff(lt:α->α->Bool)(d r:Array α)(a b:Nat):Prop where
 same:∀c,(bM r a b).filter (lZ lt c)=(bM d a b).filter (lZ lt c)
 out:∀t,t<a\/b<=t->r[t]! =d[t]!
theorem ff.trans{lt:α->α->Bool}{d e r:Array α}{a b:Nat}(o:ff lt d e a b)(p:ff lt e r a b):ff lt d r a b:=
 ⟨fun c=>(p.same c).trans (o.same c),fun t h=>(p.out t h).trans (o.out t h)⟩
theorem ff.HY{lt:α->α->Bool}{d r:Array α}{a b q o:Nat}(h:ff lt d r a b)(p:a<=b)(u:q<=a)(v:b<=o):ff lt d r q o:=by
 refine⟨fun c=> ?_,fun t ht=>h.out t (by omega)⟩;rw[fI r u (show a<=o by omega),fI r p v,fI d u (show a<=o by omega),fI d p v];rw[gZ (d:=d) (d':=r) (a:=q) (b:=a) fun t g1 g2=>h.out t (by omega),gZ (d:=d) (d':=r) (a:=b) (b:=o) fun t g1 g2=>h.out t (by omega)];simp only[agw,h.same c]
theorem ff.refl{lt:α->α->Bool}(d:Array α)(a b:Nat):ff lt d d a b:=⟨fun _=>rfl,fun _ _=>rfl⟩
theorem Xm{lt:α->α->Bool}(f:SWO lt){d:Array α}{j:Nat}(hj:j+1<d.size)(h:lt d[j+1]! d[j]! =true):ff lt d (swp d (j+1) j) j (j+2):=by
 have g:=fun t=>EE (d:=d) (i:=j+1) (j:=j) (t:=t) (by omega) (by omega);refine⟨fun c=> ?_,fun t ht=>by rw[g,a_ (by omega),a_ (by omega)]⟩;rw[oB (swp d (j+1) j) (show j<j+2 by omega),oB (swp d (j+1) j) (show j+1<j+2 by omega),ny _ (by omega),oB d (show j<j+2 by omega),oB d (show j+1<j+2 by omega),ny _ (by omega)];rw[g,g,an rfl,a_ (by omega),an rfl];refine(wT (X:=[d[j]!]) (Y:=[d[j+1]!]) f (fun x b y e=> ?_) c).symm;obtain rfl:=O_.1 b;obtain rfl:=O_.1 e;exact h
theorem BY{lt:α->α->Bool}(c:SWO lt){a b:Nat}:∀(j:Nat) {d:Array α},a<=j->j<b->b<=d.size->ff lt d (Sort.insInner lt a j d) a b
 |0,d,h1,h2,h3=>by rw[Sort.insInner];exact ff.refl ..
 |j+1,d,h1,h2,h3=>by
  rw[Sort.insInner];split;rename_i hc;simp only[gt_iff_lt,t_,b_]at hc;refine((Xm c (by omega) hc.2).HY (by omega) (by omega) (by omega)).trans (BY c j (by omega) (by omega) (by rw[size_swp];omega));exact ff.refl ..
theorem OQ{lt:α->α->Bool}(e:SWO lt){a b i:Nat}{d:Array α}(hi:a<=i)(c:b<=d.size):ff lt d (Sort.insOuter lt a b i d) a b:=by
 fun_induction Sort.insOuter lt a b i d with
 |case1 i d h f=>exact(BY e i hi h c).trans (f (by omega) (by rw[uy];exact c))
 |case2 i d h=>exact ff.refl ..
theorem qG{lt:α->α->Bool}(e:SWO lt){d:Array α}{a b:Nat}(c:a<=b)(f:b<=d.size):zG lt d (Sort.insertionSort lt d a b) a b:=by
 have j:=OQ e (a:=a) (b:=b) (i:=a+1) (d:=d) (by omega) f;refine⟨?_,j.same,j.out⟩;have h:=(insertionSort_holds e d a b c f).2;rw[zY];exact h
def jT(lt:α->α->Bool)(d:Array α)(c a n:Nat):Prop:=if h:0<c/\a<n then sB lt (bM d a (min (a+c) n))/\jT lt d c (a+c) n else True
termination_by n-a
theorem Tz{lt:α->α->Bool}{d r:Array α}{c a n:Nat}(h:∀t,a<=t->r[t]! =d[t]!)(b:jT lt d c a n):jT lt r c a n:=by
 fun_induction jT lt d c a n with
 |case1 a hc e=>
  rw[jT,dif_pos hc];exact⟨by rw[gZ fun t g1 g2=>h t g1];exact b.1,e (fun t ht=>h t (by omega)) b.2⟩
 |case2 a hc=>rw[jT,dif_neg hc];trivial
theorem XC{lt:α->α->Bool}(c:SWO lt){d:Array α}{a n:Nat}(f:a<=n)(e:n<=d.size):ff lt d (oX lt d a n) a n/\jT lt (oX lt d a n) 20 a n:=by
 fun_induction oX lt d a n with
 |case1 d a h i=>
  have m:=qG c (d:=d) (a:=a) (b:=a+20) (by omega) (by omega);obtain⟨i1,i2⟩:=i h (by rw[fl];exact e);refine⟨(ff.HY ⟨m.same,m.out⟩ (by omega) (l5 _) h).trans (i1.HY h (by omega) (l5 _)),?_⟩;rw[jT,dif_pos (by omega)];refine⟨?_,i2⟩;rw[show min (a+20) n=a+20 by omega,gZ fun t g1 g2=>i1.out t (by omega)];exact m.asc
 |case2 d a h=>
  have m:=qG c (d:=d) (a:=a) (b:=n) f e;refine⟨⟨m.same,m.out⟩,?_⟩;rw[jT];split;refine⟨by rw[show min (a+20) n=n by omega];exact m.asc,?_⟩;rw[jT,dif_neg (by omega)];trivial;trivial
theorem YL{lt:α->α->Bool}(f:SWO lt){d:Array α}{c a n:Nat}(hc0:0<c)(ha:a<=n)(i:n<=d.size)(e:jT lt d c a n):ff lt d (rk lt d c a n) a n/\jT lt (rk lt d c a n) (2*c) a n:=by
 fun_induction rk lt d c a n with
 |case1 d a h j=>
  rw[jT,dif_pos (by omega),jT,dif_pos (by omega),show min (a+c) n=a+c by omega,show min (a+c+c) n=a+2*c by omega,show a+c+c=a+2*c by omega]at e;have m:=tM f (d:=d) (a:=a) (m:=a+c) (b:=a+2*c) _ (l5 _) (by omega) (by omega) (by omega) e.1 e.2.1;obtain⟨i1,i2⟩:=j h.2 (by rw[pI];exact i) (Tz (fun t ht=>m.out t (by omega)) e.2.2);refine⟨(ff.HY ⟨m.same,m.out⟩ (by omega) (l5 _) h.2).trans (i1.HY h.2 (by omega) (l5 _)),?_⟩;rw[jT,dif_pos (by omega)];refine⟨?_,i2⟩;rw[show min (a+2*c) n=a+2*c by omega,gZ fun t g1 g2=>i1.out t (by omega)];exact m.asc
 |case2 d a h k=>
  rw[jT,dif_pos (by omega),jT,dif_pos (by omega),show min (a+c) n=a+c by omega,show min (a+c+c) n=n by omega]at e;have m:=tM f (d:=d) (a:=a) (m:=a+c) (b:=n) _ (l5 _) (by omega) (by omega) (by omega) e.1 e.2.1;refine⟨⟨m.same,m.out⟩,?_⟩;rw[jT,dif_pos (by omega),show min (a+2*c) n=n by omega];refine⟨m.asc,?_⟩;rw[jT,dif_neg (by omega)];trivial
 |case3 d a h k=>
  refine⟨ff.refl ..,?_⟩;rw[jT]at e|-;split;rw[dif_pos (by omega)]at e;rw[show min (a+2*c) n=n by omega];rw[show min (a+c) n=n by omega]at e;refine⟨e.1,?_⟩;rw[jT,dif_neg (by omega)];trivial;trivial
theorem Yn{lt:α->α->Bool}(i:SWO lt){d:Array α}{c n:Nat}(e:0<c)(f:n<=d.size)(b:jT lt d c 0 n):ff lt d (qe lt d c n) 0 n/\sB lt (bM (qe lt d c n) 0 n):=by
 fun_induction qe lt d c n with
 |case1 d c h l=>
  obtain⟨i1,i2⟩:=YL i e (ahO _) f b;obtain⟨j,k⟩:=l (by omega) (by rw[IG];exact f) i2;exact⟨i1.trans j,k⟩
 |case2 d c h=>
  refine⟨ff.refl ..,?_⟩;rw[jT]at b;split at b;rw[show min (0+c) n=n by omega]at b;exact b.1;rw[ny _ (by omega)];exact List.Pairwise.nil
theorem UM(lt:α->α->Bool)(d:Array α)(c n:Nat):(qe lt d c n).size=d.size:=by
 fun_induction qe lt d c n with
 |case1 d c h b=>rw[b,IG]
 |case2 d c h=>rfl
theorem SO(d:Array α){a b i:Nat}(h:i<(bM d a b).length):(bM d a b)[i]=d[a+i]! :=by
 simp only[bM,ahQ,ag0,agS]
theorem Ux{lt:α->α->Bool}(j:SWO lt)(d:Array α):lK lt d=Sort.insertionSort lt d 0 d.size:=by
 have f:=XC j (d:=d) (a:=0) (n:=d.size) (ahO _) (l5 _);have l:=Yn j (d:=oX lt d 0 d.size) (c:=20) (n:=d.size) (by omega) (by rw[JZ];exact l5 _) f.2;have hm:=qG j (d:=d) (a:=0) (b:=d.size) (ahO _) (l5 _);have p:(lK lt d).size=d.size:=by unfold lK;rw[UM,JZ]
 have e:bM (lK lt d) 0 d.size=bM (Sort.insertionSort lt d 0 d.size) 0 d.size:=
  I6 j l.2 hm.asc fun c=>((f.1.trans l.1).same c).trans (hm.same c).symm
 apply Array.ext;rw[p,fl];intro i o k;have h:i<d.size:=by omega
 have q:i<(bM (lK lt d) 0 d.size).length:=by rw[H5];exact h
 have f:=SO (lK lt d) q;have m:=SO (Sort.insertionSort lt d 0 d.size) (a:=0) (b:=d.size) (i:=i) (by rw[H5];exact h);simp only[e]at f;rw[f,Nat.zero_add,getElem!_pos (lK lt d) i o,getElem!_pos (Sort.insertionSort lt d 0 d.size) i k]at m;exact m
variable{P:Program}{ρ:Ren}{α:Type}[Inhabited α]
theorem Cr(L:LaysGt.n8 P ρ){t e:TypeId}{i ie:TypeInfo}(hi:P.info? t=some i)(u:i.desc= .slice e)(m:P.packed t=false)(o:P.info? e=some ie){ke:Nat}(p:∀w,(Extern.Rtype.kind e).run P w= .ok ke w)
 {enc:α->List Value} {k:Nat} (y:∀x,(enc x).length=k) (h1:∀x,∀v∈enc x,v.oneCell'=true) (lt:α->α->Bool) (z:SWO lt) {g:Nat} {q:Array Value}
 (A:∀args w,(callFunc g args).run P w= .ok (.enter g args) w) {b off c:Nat} {d:Array α} (h2:2<=d.size) (r:d.size<1152921504606846976)
 {f:Nat} (B:P.funcs.findIdx? (·.name== "internal/reflectlite" ++ ".Swapper$" ++toString (swapperK d.size ie ke))=some f)
 (s:SwapSwapsK P f (sliceBound P e ie ke (some ⟨b,off,none⟩) d.size c) enc k b off d.size)
 {w:World} (l:LessReadsK P g q enc k lt b off d.size w) (D:HoldsK enc k w b off d) (h:b<w.heap.size):
 Calls P (ρ.f 8) #[.iface t (.slice (some ⟨b,off,none⟩) d.size c),.func (.func g) #[] q] w fun e w'=>
  e= .returned (.tuple #[])/\∃n os,w'=grow (putRowK enc k (Sort.ahead w n) b off (Sort.insertionSort lt d 0 d.size)) os:=by
 refine Any.sort_SliceStable_of_stable L t e i ie hi u m o ke p _ d.size c (by omega) f B (.func g) #[] q w _ ?_
 obtain⟨j,F⟩:∃j,stableWorld P ρ t (some ⟨b,off,none⟩) d.size c w=grow w j:=
  ⟨_,by unfold stableWorld;rw[alloc_eq_grow,alloc_eq_grow,grow_grow]⟩
 rw[F];refine(Xw (P:=P) (ρ:=ρ) {L with} y lt (d:=d) A (l.grow h j) s (holdsK_grow enc k w _ b off d h D) (by rw[size_grow];omega) r).mono ?_;rintro e w' ⟨rfl,n,os,rfl⟩;rw[Ux z];exact⟨rfl,n,_,by unfold sortWorldK;rw[ahead_grow,putRowK_grow enc k (Sort.ahead w n) _ b off _ h,grow_grow]⟩
theorem CD(L:LaysGt.n8 P ρ){t e:TypeId}{i ie:TypeInfo}(hi:P.info? t=some i)(A:i.desc= .slice e)(o:P.packed t=false)(j:P.info? e=some ie){ke:Nat}(p:∀w,(Extern.Rtype.kind e).run P w= .ok ke w)
 {enc:α->List Value} {k:Nat} (s:∀x,(enc x).length=k) (q:ie.size=k) (l:∀w,(isAgg e).run P w= .ok true w) (u:∀x,∀v∈enc x,v.oneCell'=true) (lt:α->α->Bool) (B:SWO lt) {g:Nat} {y:Array Value}
 (D:∀args w,(callFunc g args).run P w= .ok (.enter g args) w) {b off c:Nat} {d:Array α} (z:2<=d.size) (r:d.size<1152921504606846976)
 {f:Nat} (F:P.funcs.findIdx? (·.name== "internal/reflectlite" ++ ".Swapper$" ++toString (swapperK d.size ie ke))=some f)
 (gS:Bool) (H:∀args W,(callFunc f args).run P W=((Extern.ReflectliteSwapper.swap gS args).run P W).andThen fun v w'=> .ok (.value v) w')
 {w:World} (h:LessReadsK P g y enc k lt b off d.size w) (I:HoldsK enc k w b off d) (m:b<w.heap.size):
 Calls P (ρ.f 8) #[.iface t (.slice (some ⟨b,off,none⟩) d.size c),.func (.func g) #[] y] w fun e w'=>
  e= .returned (.tuple #[])/\∃n os,w'=grow (putRowK enc k (Sort.ahead w n) b off (Sort.insertionSort lt d 0 d.size)) os:=by
 have J:sliceBound P e ie ke (some ⟨b,off,none⟩) d.size c= #[.slice (some ⟨b,off,none⟩) d.size c,typeHandle P e]:=by
  unfold sliceBound;rw[a_ (swapperK_gt _ _ _ z)]
 exact Cr L hi A o j p s u lt B D z r F (by rw[J];exact swapSwapsK_of_literal gS f H e ie j enc k s q l u b off d.size c) h I m
variable{P:Program}{ρ:Ren}{α:Type}[Inhabited α]
theorem K1(gS:Bool)(o:Nat)(s:∀args W,(callFunc o args).run P W=((Extern.ReflectliteSwapper.swap gS args).run P W).andThen fun v w'=> .ok (.value v) w')
 (e:TypeId) (ie:TypeInfo) (k:P.info? e=some ie) (hs:ie.size=1) (h:∀w,(isAgg e).run P w= .ok false w) (enc:α->Value) (p:∀x,(enc x).oneCell'=true) (b off n c:Nat):
 SwapSwapsK P o #[.slice (some ⟨b,off,none⟩) n c,typeHandle P e] (fun x=>[enc x]) 1 b off n:=by
 intro W l m hsz i j q r;have d:=m.cell (i:=i) (c:=0) (by omega) (by omega);have f:=m.cell (i:=j) (c:=0) (by omega) (by omega);simp only[ahN,Nat.add_zero,List.getElem!_cons_zero]at d f;have:=run_swap_one (P:=P) gS e ie k hs h b off n c i j q r (enc l[i]!) (enc l[j]!) (p _) (p _) W d.1 f.1 d.2 f.2;rw[s,show(#[Value.int .i64 (i:Int),Value.int .i64 (j:Int)]++ #[Value.slice (some ⟨b,off,none⟩) n c,typeHandle P e])= #[.int .i64 i,.int .i64 j,.slice (some ⟨b,off,none⟩) n c,typeHandle P e]from rfl,this];simp only[ahN];rfl
end Go.Proofs
namespace Vg
open Go Go.Proofs Go.Sort
def uA:List (ByteArray×ByteArray)->List (List UInt8)
 | []=>[]
 |a::l=>a.1.toList::a.2.toList::uA l
theorem FW(a b:ByteArray):lr a b=decide (a.toList<b.toList):=bytesLess_eq _ _
theorem rJ:∀l m:List (ByteArray×ByteArray),bq l m=decide (uA l<uA m)
 | [],[]=>by simp[bq,uA]
 | [],b::m=>by simp[bq,uA]
 |a::l,[]=>by simp[bq,uA]
 |a::l,b::m=>by
  rw[bq,rJ l m,FW,FW];simp only[uA,List.cons_lt_cons_iff,beq_iff_eq];by_cases c:a.1.toList=b.1.toList;rw[an c];by_cases d:a.2.toList=b.2.toList;rw[an d];simp[c,d,ahA];rw[a_ d];simp[c,d,ahA];rw[a_ c];simp[c]
theorem nv:SWO bq where
 irrefl x:=by rw[rJ];simp[ahA]
 trans x y z h1 h2:=by
  rw[rJ,b_]at*
  exact List.lt_trans h1 h2
 ntrans x y z h1 h2:=by
  rw[rJ,d_]at*
  exact fun h=>(List.not_le.2 h) (List.le_trans (List.not_lt.1 h2) (List.not_lt.1 h1))
end Vg
namespace Vg
open Go
theorem abm{β:Type}{c:Bool}{a b:β}(h:c=false):(if c=true then a else b)=b:=by rw[h];rfl
def Dr{α:Type}(o:Option α)(Q:α->Prop):Prop:=∃a,o=some a/\Q a
theorem fj{α:Type}{a:α}{Q:α->Prop}(h:Q a):Dr (some a) Q:=⟨a,rfl,h⟩
theorem drM{α:Type}{o:Option α}{P Q:α->Prop}(h:Dr o P)(b:∀a,P a->Q a):Dr o Q:=by
 obtain⟨a,e,h⟩:=h;exact⟨a,e,b a h⟩
theorem dm{α β:Type}{o:Option α}{f:α->Option β}{P:α->Prop}{Q:β->Prop}(h:Dr o P)(c:∀a,P a->Dr (f a) Q):Dr (ahe o f) Q:=by
 obtain⟨a,e,h⟩:=h;obtain⟨b,d,i⟩:=c a h;exact⟨b,by rw[e,agZ,d],i⟩
theorem En{α β:Type}{o:Option α}{a:α}{f:α->Option β}{Q:β->Prop}(e:o=some a)(b:Dr (f a) Q):Dr (ahe o f) Q:=by
 rw[e,agZ];exact b
theorem fx{α:Type}{b:Bool}{o p:Option α}{Q:α->Prop}(c:b=true->Dr o Q)(d:b=false->Dr p Q):Dr (if b=true then o else p) Q:=by
 cases b;rw[a_ (by simp)];exact d rfl;rw[an rfl];exact c rfl
theorem nI{α:Type}{b:Bool}{o p:Option α}{Q:α->Prop}(c:b=true)(h:Dr o Q):Dr (if b=true then o else p) Q:=by rw[an c];exact h
theorem Qs{σ ρ:Type}{a:(σ->Option ρ)->Option ρ}{b:σ->Option ρ}{Q:ρ->Prop}(P:σ->Prop)(c:∀s,P s->Dr (b s) Q)(h:∀J:σ->Option ρ,(∀s,P s->Dr (J s) Q)->Dr (a J) Q):Dr (aR a b) Q:=h b c
theorem Vz{σ ρ:Type}{f:(σ->Option ρ)->σ->Option ρ}{Q:ρ->Prop}(m:σ->Nat)(I:σ->Prop)
 (h:∀G s,I s->(∀b,I b->m b<m s->Dr (G b) Q)->Dr (f G s) Q) {k:Nat} {s:σ} (c:I s) (hm:m s<k):Dr (aM k f s) Q:=
 Eh m I Q h k s c hm
theorem VM(a:Int):0<=bits (fun _=>(· &&& ·)) .i64 a (255:Int)/\bits (fun _=>(· &&& ·)) .i64 a (255:Int)<=255:=by
 have key:bits (fun _=>(· &&& ·)) .i64 a (255:Int)=((((BitVec.ofInt 64 a).toNat%256:Nat)):Int):=by
  change IntKind.i64.wrap (((BitVec.ofInt 64 a &&& BitVec.ofInt 64 (255:Int)).toNat:Nat):Int)=_;rw[BitVec.toNat_and];have b:(BitVec.ofInt 64 (255:Int)).toNat=2^8-1:=by decide
  rw[b,Nat.and_two_pow_sub_one_eq_mod,wrap64 (by omega) (by omega)]
 rw[key];omega
def bG(c:List Int×Int×Int):Prop:=c.1.length<=1048576/\0<=c.2.1/\c.2.1<=1048576
end Vg
