/- VG, joined: an evaluator of the code over typed values, and its soundness, for any program. -/
import Derived.Test.YteoaddgmjfnhdaaGreatVa
import Derived.Orders
set_option linter.unusedSimpArgs false
set_option linter.unusedVariables false
set_option linter.unusedSectionVars false
open Option.some renaming injEq → afL
open List renaming getD_eq_getElem?_getD → afM,mem_cons → afN,mem_append → afO,contains_eq_mem → afQ,mem_cons_of_mem → afT,getD_cons_zero → afW,all_eq_true → afX,getElem?_eq_getElem → afY,mem_map → afZ,getD_cons_succ → af0,mem_append_right → af2,drop_append_of_le_length → af3,not_mem_nil → af5,append_assoc → af6,nodup_append → af8,take_append_of_le_length → af9,drop_take → agb,mem_filter → agd,take_of_length_le → age,drop_of_length_le → agf,mem_of_getElem? → agj,nodup_cons → agk,drop_drop → agl,take_take → agm,mem_singleton → ago,getElem?_eq_none → agq,getElem?_toArray → agr,mem_flatMap → ags,getElem?_cons_succ → agt,mem_eraseDups → agv,mem_zipIdx_iff_getElem? → agx,mem_append_left → agy,toList_toArray → agA,getElem?_eq_some_iff → agB,length_append → agD,length_eq_zero_iff → agE,drop_append → agF,nil_append → agH,drop_zero → agJ,replicate → agK,drop_eq_getElem_cons → agP,take_append → agR,length_cons → agV,getElem?_cons_zero → agW,append_nil → agX,take_append_drop → agY,length_singleton → agZ,mem_of_mem_drop → ag0,map_congr_left → ag2,pairwise_cons → ag4,mem_filterMap → ag5,any_eq_false → ag6,drop_sublist → ag7,lookup → aha,flatMap_map → ahb,cons_append → ahd,append_inj → ahf,take_zero → ahh,take_left → ahi
open Prod.mk renaming injEq → afP
open Nat renaming le_refl → afR,add_comm → afU,lt_succ_self → afV,mul_le_mul_right → af7,le_trans → agh,min_eq_left → agi,add_mul → agn,one_mul → agz,zero_add → agC,lt_of_lt_of_le → agL,add_assoc → agN,lt_irrefl → agO,sub_self → agT,add_zero → agU,le_succ → ag9
open Bool renaming and_eq_true → afS,not_eq_true' → af4,false_eq_true → agu,or_eq_true → agI,true_and → ag1
open Option renaming map_eq_some_iff → af1,getD_some → aga,bind_eq_some_iff → agc,isNone_none → agp,map_some → agw,bind_some → agG,isNone_iff_eq_none → agQ,isSome_iff_exists → agS,isSome_none → ag3,bind_assoc → ag8,getD_none → ahc
open Array renaming getD_eq_getD_getElem? → agM,ext' → ahe
open List.cons renaming injEq → ahg
open Prod renaming ext → ahj
namespace Vg
open Go
theorem zp {k o:Nat} {vs c:List Value} (h:k≤o) (hc:o≤c.length):(cJ o vs c).drop k=cJ (o-k) vs (c.drop k):=by
 unfold cJ
 rw[af6,af3 (by simp;omega),agb,af6,agl]
 congr 3;omega
theorem zx {n o:Nat} {vs c:List Value} (h:o+vs.length≤n) (hn:n≤c.length):(cJ o vs c).take n=cJ o vs (c.take n):=by
 unfold cJ
 have hl:(c.take o++vs).length=o+vs.length:=by simp;omega
 rw[agR,hl,age (by omega),agm,agi (by omega),agb]
theorem uf {k po sz:Nat} {vs c:List Value} (h:po+vs.length≤sz):
 cJ (k+po) vs c=c.take k++cJ po vs ((c.drop k).take sz)++c.drop (k+sz):=by
 unfold cJ
 rw[agm,agi (by omega),agb,agl]
 have h1:c.take (k+po)=c.take k++(c.drop k).take po:=by rw[List.take_add]
 have h2:c.drop (k+po+vs.length)=((c.drop (k+(po+vs.length))).take (sz-(po+vs.length)))++c.drop (k+sz):=by
  have:=(agY (sz-(po+vs.length)) (c.drop (k+(po+vs.length)))).symm
  rw[agl]at this
  rw[show k+po+vs.length=k+(po+vs.length) by omega]
  rw[show k+sz=k+(po+vs.length)+(sz-(po+vs.length)) by omega]
  exact this
 rw[h1,h2]
 simp[af6]
section
variable {P:Program} {C:Cx} {w0:World} {c0:C0} {U:Nat→Prop} {E:Env} {a:Act} {w:World} {G:Gh} {ops:List Oper} {g:Option (Nat×Bool)}
theorem aQ.put:∀ {p:List Bool} {τ:Ty} {x:τ.den} {sh:Sh} {cs:List Value} {v:TV} {y:τ.den} {s:Sh} {cv:List Value} {B Bv:List Nat},
 eL τ x sh p v=some (y,s)→aQ w τ x cs B→aQ w v.τ v.x cv Bv→
 ∃Ba Bo Bb,B=Ba++Bo++Bb∧aQ w τ y (cJ (τ.off p) cv cs) (Ba++Bv++Bb)∧τ.off p+cv.length≤τ.sz
 | [],τ,x,sh,cs,v,y,s,cv,B,Bv,hp,h,hv=>by
   have hp':eU v τ=some y:=by
    cases τ<;>(simp only[eL]at hp;split at hp<;>simp_all)
   have e:=cV hp'
   have hl:=aQ.len h
   have h0:τ.off []=0:=by cases τ<;>rfl
   have hlv:=aQ.len hv
   have hτ:v.τ=τ:=by rw[e]
   refine⟨[],B,[],by simp,?_,by rw[h0,hlv,hτ];omega⟩
   unfold cJ
   rw[h0,hlv,hτ,ahh,agH,agC,agf (by omega),agX]
   rw[e]at hv
   simpa using hv
 |false::p,.pair a b,x,.pair s1 s2,cs,v,y,s,cv,B,Bv,hp,h,hv=>by
  obtain⟨c1,c2,B1,B2,rfl,rfl,h1,h2⟩:=h
  simp only[eL]at hp
  split at hp
  ·rename_i y1 s1' hq
   cases hp
   obtain⟨Ba,Bo,Bb,rfl,hr,hle⟩:=aQ.put hq h1 hv
   have hl:=aQ.len h1
   refine⟨Ba,Bo,Bb++B2,by simp,⟨_,c2,_,B2,?_,by simp,hr,h2⟩,by simp only[Ty.off,Ty.sz];omega⟩
   simp only[Ty.off,cJ]
   rw[af9 (by omega),af3 (by omega)]
   simp
  ·cases hp
 |true::p,.pair a b,x,.pair s1 s2,cs,v,y,s,cv,B,Bv,hp,h,hv=>by
  obtain⟨c1,c2,B1,B2,rfl,rfl,h1,h2⟩:=h
  simp only[eL]at hp
  split at hp
  ·rename_i y1 s1' hq
   cases hp
   obtain⟨Ba,Bo,Bb,rfl,hr,hle⟩:=aQ.put hq h2 hv
   have hl:=aQ.len h1
   refine⟨B1++Ba,Bo,Bb,by simp,⟨c1,_,B1,_,?_,by simp,h1,hr⟩,by simp only[Ty.off,Ty.sz];omega⟩
   simp only[Ty.off,cJ]
   rw[←hl,agR,age (by omega),agF,agf (by omega)]
   simp[agN]
  ·cases hp
 |b::p,.int _,_,_,_,_,_,_,_,_,_,hp,_,_|b::p,.bool,_,_,_,_,_,_,_,_,_,hp,_,_|b::p,.str,_,_,_,_,_,_,_,_,_,hp,_,_|b::p,.sl _,_,_,_,_,_,_,_,_,_,hp,_,_=>by simp[eL]at hp
 |false::p,.pair _ _,_,.leaf,_,_,_,_,_,_,_,hp,_,_|false::p,.pair _ _,_,.sl _,_,_,_,_,_,_,_,hp,_,_=>by simp[eL]at hp
 |true::p,.pair _ _,_,.leaf,_,_,_,_,_,_,_,hp,_,_|true::p,.pair _ _,_,.sl _,_,_,_,_,_,_,_,hp,_,_=>by simp[eL]at hp
def M.clear (b:Nat):M→Prop
 | .row u hs _=>u=b∨b∉hs
 | .sha hs=>b∉hs
 | .nst b' _ _ _ _ _=>b'≠b
 | .dead=>True
def Sh.clear (b:Nat):Sh→Prop
 | .leaf=>True
 | .sl m=>m.clear b
 | .pair x y=>x.clear b∧y.clear b
theorem dD (b:Nat) (m:M):(m.bw b).clear b:=by
 cases m with
 |row u hs nd=>
  simp only[M.bw]
  split
  ·rename_i h;exact .inl h
  ·split
   ·trivial
   ·rename_i h;right;simpa using h
 |sha hs=>
  simp only[M.bw]
  split
  ·trivial
  ·rename_i h;simpa[M.clear]using h
 |nst b' e i o p fr=>
  simp only[M.bw]
  split
  ·trivial
  ·rename_i h;exact h
 |dead=>trivial
theorem Sh.dD (b:Nat):∀sh:Sh,(sh.map (M.bw b)).clear b
 | .leaf=>trivial
 | .sl m=>Vg.dD b m
 | .pair x y=>⟨Sh.dD b x,Sh.dD b y⟩
theorem Uy (b:Nat) (m:M):∀c∈(m.bw b).aE,c∈m.aE:=by
 intro c hc
 cases m with
 |row u hs nd=>
  simp only[M.bw]at hc
  split at hc
  ·exact hc
  ·split at hc
   ·simp[M.aE]at hc
   ·exact hc
 |sha hs=>
  simp only[M.bw]at hc
  split at hc
  ·simp[M.aE]at hc
  ·exact hc
 |nst b' e i o p fr=>
  simp only[M.bw]at hc
  split at hc
  ·simp[M.aE]at hc
  ·exact hc
 |dead=>exact hc
theorem CL (b:Nat):yb w U G U G (M.bw b) (fun _=>true) (fun hs=>if hs.contains b then none else some hs) where
 row e l v m h _:=by
  cases m with
  |row u hs nd=>
   simp only[M.bw]
   split
   ·exact h
   ·split
    ·exact h.one
    ·exact h
  |sha hs=>
   simp only[M.bw]
   split
   ·exact h.one
   ·exact h
  |nst b' E i o p fr=>
   simp only[M.bw]
   split
   ·exact h.one
   ·exact h
  |dead=>exact h
 good m h c hc:=h c (Uy b m c hc)
 rd hs hs' h hg:=by
  split at h
  ·cases h
  ·cases h;exact⟨hg,fun b hb=>hb⟩
 hdr _ _:=rfl
 bx t _ hb:=⟨hb,fun _ h=>h⟩
 ru _ _ h:=h
 mono _ h:=h
theorem wS {b:Nat} {e:Ty} {y:List e.den} {m:M} {w':World} (hnew:bJ w' G e y (G.hdr b) m) (hag:∀k,0<G.col k→G.col k≠b→w'.heap[k]?=w.heap[k]?):
 ∀ {τ:Ty} {x:τ.den} {sh:Sh} {cs:List Value},bg w G τ x sh cs→sh.clear b→(∀c∈sh.aE,0<c)→
   bg w' G τ (gJ b e y m τ x sh).1 (gJ b e y m τ x sh).2 cs
 | .int _,_,.leaf,_,h,_,_=>h
 | .bool,_,.leaf,_,h,_,_=>h
 | .str,_,.leaf,_,h,_,_=>h
 | .sl e',l,.sl (.row u hs nd),cs,h,hc,hp=>by
   obtain⟨v,rfl,hr⟩:=h
   simp only[gJ]
   split
   ·rename_i hu
    subst hu
    split
    ·rename_i he
     subst he
     refine⟨v,rfl,?_⟩
     have:v=G.hdr u:=hr.2.1.symm
     rw[this]
     exact hnew
    ·exact⟨v,rfl,hr.one⟩
   ·rename_i hu
    refine⟨v,rfl,bJ.agree ⟨fun k hk=>hag k (hp _ hk) (fun e1=> ?_),fun _ _=>rfl,fun _ _=>rfl⟩ hr⟩
    simp only[M.aE,afN]at hk
    rcases hc with hc|hc
    ·exact hu hc
    ·rcases hk with hk|hk
     ·exact hu (hk.symm.trans e1)
     ·exact hc (e1▸hk)
 | .sl e',l,.sl (.sha hs),cs,h,hc,hp=>by
   obtain⟨v,rfl,hr⟩:=h
   refine⟨v,rfl,bJ.agree ⟨fun k hk=>hag k (hp _ hk) (fun e1=> ?_),fun _ _=>rfl,fun _ _=>rfl⟩ hr⟩
   exact hc (e1▸hk)
 | .sl e',l,.sl (.nst b' E i o p fr),cs,h,hc,hp=>by
   obtain⟨v,rfl,hr⟩:=h
   refine⟨v,rfl,bJ.agree ⟨fun k hk=>hag k (hp _ hk) (fun e1=> ?_),fun _ _=>rfl,fun _ _=>rfl⟩ hr⟩
   simp only[M.aE,ago]at hk
   exact hc (hk.symm.trans e1)
 | .sl e',l,.sl .dead,cs,h,hc,hp=>by
   obtain⟨v,rfl,hr⟩:=h
   exact⟨v,rfl,hr⟩
 | .pair a b',p,.pair s1 s2,cs,h,hc,hp=>by
   obtain⟨c1,c2,rfl,h1,h2⟩:=h
   exact⟨c1,c2,rfl,wS hnew hag h1 hc.1 (fun c h=>hp c (by simp[Sh.aE,h])),wS hnew hag h2 hc.2 (fun c h=>hp c (by simp[Sh.aE,h]))⟩
 | .int _,_,.sl _,_,h,_,_| .int _,_,.pair _ _,_,h,_,_| .bool,_,.sl _,_,h,_,_| .bool,_,.pair _ _,_,h,_,_
 | .str,_,.sl _,_,h,_,_| .str,_,.pair _ _,_,h,_,_| .sl _,_,.leaf,_,h,_,_| .sl _,_,.pair _ _,_,h,_,_
 | .pair _ _,_,.leaf,_,h,_,_| .pair _ _,_,.sl _,_,h,_,_=>h.elim
theorem sj {b:Nat} {e:Ty} {y:List e.den} {m:M}:∀ {τ:Ty} {x:τ.den} {sh:Sh},∀c∈(gJ b e y m τ x sh).2.aE,c∈sh.aE∨c∈m.aE
 | .sl e',l,.sl (.row u hs nd),c,h=>by
   simp only[gJ]at h
   split at h
   ·split at h
    ·exact .inr h
    ·simp[Sh.aE,M.aE]at h
   ·exact .inl h
 | .pair a b',p,.pair s1 s2,c,h=>by
   simp only[gJ,Sh.aE,afO]at h⊢
   rcases h with h|h
   ·exact(sj c h).imp .inl id
   ·exact(sj c h).imp .inr id
 | .sl _,_,.sl (.nst _ _ _ _ _ _),_,h| .sl _,_,.leaf,_,h| .sl _,_,.pair _ _,_,h| .sl _,_,.sl (.sha _),_,h| .sl _,_,.sl .dead,_,h
 | .int _,_,.leaf,_,h| .int _,_,.sl _,_,h| .int _,_,.pair _ _,_,h| .bool,_,.leaf,_,h| .bool,_,.sl _,_,h| .bool,_,.pair _ _,_,h
 | .str,_,.leaf,_,h| .str,_,.sl _,_,h| .str,_,.pair _ _,_,h| .pair _ _,_,.leaf,_,h| .pair _ _,_,.sl _,_,h=> .inl h
def SV.clear (b:Nat):SV→Prop
 | .d v| .box _ v=>v.sh.clear b
 | .tup l=>∀v∈l,v.sh.clear b
 | .g _ _ _ v=>v.clear b
 |_=>True
theorem SV.dD (b:Nat):∀s:SV,(s.bw b).clear b
 | .no| .ptr ..=>trivial
 | .d v=>Sh.dD b v.sh
 | .box t v=>Sh.dD b v.sh
 | .ept ..=>by simp only[SV.bw,SV.mapM];split<;>trivial
 | .rdp hs v=>by simp only[SV.bw,SV.mapM];split<;>trivial
 | .tup l=>by
   intro v hv
   simp only[afZ]at hv
   obtain⟨u,_,rfl⟩:=hv
   exact Sh.dD b u.sh
 | .g j w' act v=>SV.dD b v
theorem bU.setRow {b:Nat} {e:Ty} {y:List e.den} {m:M} {w':World} (hnew:bJ w' G e y (G.hdr b) m) (hb:G.bx b=false) (hag:∀k,0<G.col k→G.col k≠b→w'.heap[k]?=w.heap[k]?):
 ∀ {s:SV} {mv:Value},bU w G s mv→s.clear b→bf U G s→bU w' G (s.setRow b e y m) mv
 | .no,_,_,_,_=>trivial
 | .d v,mv,⟨cs,h1,h2⟩,hc,hm=>⟨cs,h1,wS hnew hag h2 hc (fun c h=>(hm.1 c h).1)⟩
 | .box t v,mv,⟨bk,c,el,h1,h2,h3,h4,h5,h6⟩,hc,hm=>by
   have ht:=hm.2.1 t (by simp[SV.bt])
   refine⟨bk,c,el,h1,h2,h3,h4,?_,wS hnew hag h6 hc (fun c h=>(hm.1 c h).1)⟩
   rw[hag bk (by rw[h4];exact ht.1) (fun e=> ?_)]
   ·exact h5
   ·rw[h4]at e;rw[e,hb]at ht;cases ht.2.2
 | .ptr t o p τ,mv,h,_,_=>h
 | .ept t e' i o p τ,mv,h,_,_=>h
 | .rdp hs v,mv,⟨bk,o,c,el,fz,h1,h2,h3,h4,h5⟩,_,hm=>by
   simp only[SV.setRow]
   split
   ·trivial
   ·rename_i hnc
    simp only[afQ,decide_eq_true_eq,afO,not_or]at hnc
    have ha:∀k,G.col k∈hs++v.sh.aE→w'.heap[k]?=w.heap[k]?:=fun k hk=>hag k (hm.1 _ hk).1 (fun e=>by
     rw[e]at hk
     rcases afO.1 hk with hk|hk
     ·exact hnc.1 hk
     ·exact hnc.2 hk)
    exact⟨bk,o,c,el,fz,h1,(ha bk (by simp[h4])).trans h2,h3,h4,bg.agree ⟨fun k hk=>ha k (by simp[hk]),fun _ _=>rfl,fun _ _=>rfl⟩ h5⟩
 | .tup l,mv,⟨vs,h1,h2,h3⟩,hc,hm=>by
   refine⟨vs,h1,by simp[h2],fun i v hi=> ?_⟩
   rw[List.getElem?_map,af1]at hi
   obtain⟨v',hi',rfl⟩:=hi
   obtain⟨u,cs,hu,hmv,hv⟩:=h3 i v' hi'
   exact⟨u,cs,hu,hmv,wS hnew hag hv (hc v' (agj hi')) (fun c hcc=>(hm.1 c (ags.2 ⟨v',agj hi',hcc⟩)).1)⟩
 | .g j w2 false v,mv,⟨h1,h2⟩,hc,hm=>⟨fun e=>absurd e (by simp),h2⟩
 | .g j w2 true v,mv,⟨h1,h2⟩,hc,hm=>⟨fun e=>⟨by
  have:=(h1 e).1
  cases v with
  |box t v=>simp[SV.cS]at this
  |rdp hs v=>simp only[SV.setRow];split<;>rfl
  |_=>rfl,bU.setRow (s:=v) hnew hb hag (h1 e).2 hc (by simpa[bf,SV.sc,SV.bt,SV.rt]using hm)⟩,h2⟩
theorem bf.setRow {b:Nat} {e:Ty} {y:List e.den} {m:M} (hm0:∀c∈m.aE,Good U G c):∀ {s:SV},bf U G s→bf U G (s.setRow b e y m)
 | .no,h| .ptr ..,h| .ept ..,h=>h
 | .d v,hm=>bf.d fun c hc=>(sj c hc).elim (hm.1 c) (hm0 c)
 | .box t v,hm=>⟨fun c hc=>(sj c hc).elim (hm.1 c) (hm0 c),hm.2.1,hm.2.2⟩
 | .rdp hs v,hm=>by
   simp only[SV.setRow]
   split
   ·simp[bf,SV.sc,SV.bt,SV.rt]
   ·exact hm
 | .tup l,hm=>by
   refine⟨fun c hc=> ?_,by simp[SV.setRow,SV.bt],by simp[SV.setRow,SV.rt]⟩
   simp only[SV.setRow,SV.sc,ahb,ags]at hc
   obtain⟨v,hv,hc⟩:=hc
   exact(sj c hc).elim (fun h=>hm.1 c (ags.2 ⟨v,hv,h⟩)) (hm0 c)
 | .g j w2 true v,hm=>by
   have:=bf.setRow (b:=b) (e:=e) (y:=y) (s:=v) hm0 (by simpa[bf,SV.sc,SV.bt,SV.rt]using hm)
   simpa[bf,SV.setRow,SV.sc,SV.bt,SV.rt]using this
 | .g j w2 false v,hm=>by simp[bf,SV.setRow,SV.sc,SV.bt,SV.rt]
theorem K3 {b:Nat} {e:Ty} {y:List e.den} {m:M} {s:SV} {t:Nat} {u:TV} (h:s.setRow b e y m= .box t u):∃u',s= .box t u':=by
 cases s with
 |box t' v=>simp only[SV.setRow,SV.box.injEq]at h;exact⟨v,by rw[h.1]⟩
 |rdp hs v=>simp only[SV.setRow]at h;split at h<;>cases h
 |_=>simp[SV.setRow]at h
theorem Inv.setRow (hI:Inv w0 c0 U E a w G) {b:Nat} {e:Ty} {y:List e.den} {m:M} {w':World} (hnew:bJ w' G e y (G.hdr b) m) (hb:G.bx b=false) (hb3:4≤b)
 (hag:∀k,G.col k≠b→w'.heap[k]?=w.heap[k]?) (hcl:∀s,(E.s.getD s .no).clear b) (hm0:∀c∈m.aE,Good U G c)
 (fresh:∀k,G.col k=b→∃c el,w'.heap[k]?=some (.cells c el (0,0))) (size:w.heap.size=w'.heap.size)
 (os:w'.os=w.os) (tape:w'.tape=w.tape) (output:w'.output=w.output):Inv w0 c0 U {E with s:=E.s.map (SV.setRow b e y m)} a w' G:=by
 have hg:∀s,({E with s:=E.s.map (SV.setRow b e y m)}:Env).s.getD s .no=(E.s.getD s .no).setRow b e y m:=fun s=>getD_map (T:=SV.setRow b e y m) rfl s
 have hm:∀s,bf U G ((E.s.getD s .no).setRow b e y m):=fun s=>bf.setRow hm0 (hI.ow s)
 refine⟨by simpa using hI.len,fun s=> ?_,fun s=> ?_,fun s=> ?_,fun s=> ?_,fun s s' t v v' h1 h2=> ?_,hI.colU,fun k hk=>by rw[←size];exact hI.lt k hk,fun k hk=> ?_,fun k hk hc=> ?_,hI.one,by rw[←size];exact hI.size,os.trans hI.os,tape.trans hI.tape,output.trans hI.output,hI.defers,hI.two,hI.hk⟩
 ·rw[hg];exact bU.setRow hnew hb (fun k _ hk=>hag k hk) (hI.slots s) (hcl s) (hI.ow s)
 ·rw[hg];exact(hm s).1
 ·rw[hg];exact(hm s).2.1
 ·rw[hg];exact(hm s).2.2
 ·rw[hg]at h1 h2
  obtain⟨u,hu⟩:=K3 h1
  obtain⟨u',hu'⟩:=K3 h2
  exact hI.uni s s' t u u' hu hu'
 ·by_cases e:G.col k=b
  ·exact fresh k e
  ·rw[hag k e];exact hI.fresh k hk
 ·have hf:=hI.frame k hk hc
  exact⟨hf.1,by rw[hag k (by omega)];exact hf.2⟩
theorem Sh.jT:∀ {τ:Ty} {x:τ.den} {sh:Sh} {cs:List Value} {ts:List Nat},bg w G τ x sh cs→sh.own=some ts→∀c∈ts,4≤c
 | .int _,_,.leaf,_,ts,_,h,c,hc| .bool,_,.leaf,_,ts,_,h,c,hc| .str,_,.leaf,_,ts,_,h,c,hc=>by
   simp only[Sh.own,afL]at h;subst h;simp at hc
 | .sl e,l,.sl m,cs,ts,h,ho,c,hc=>by
   obtain⟨v,rfl,hr⟩:=h
   simp only[Sh.own]at ho
   cases m with
   |row t hs nd=>
    obtain⟨_,g3,gm⟩:=M.jT ho
    rcases(gm c).1 hc with rfl|hc
    ·exact hr.1
    ·exact g3 c hc
   |sha hs=>cases hs with
    |nil=>simp only[M.own,afL]at ho;subst ho;simp at hc
    |cons=>simp[M.own]at ho
   |nst b E i o p fr=>simp[M.own]at ho
   |dead=>simp[M.own]at ho
 | .pair a b,p,.pair s1 s2,cs,ts,h,ho,c,hc=>by
   obtain⟨c1,c2,rfl,h1,h2⟩:=h
   simp only[Sh.own]at ho
   split at ho
   ·rename_i x y hx hy
    split at ho
    ·simp only[afL]at ho;subst ho
     rcases afO.1 hc with hc|hc
     ·exact Sh.jT h1 hx c hc
     ·exact Sh.jT h2 hy c hc
    ·cases ho
   ·cases ho
 | .int _,_,.sl _,_,_,h,_,_,_| .int _,_,.pair _ _,_,_,h,_,_,_| .bool,_,.sl _,_,_,h,_,_,_| .bool,_,.pair _ _,_,_,h,_,_,_
 | .str,_,.sl _,_,_,h,_,_,_| .str,_,.pair _ _,_,_,h,_,_,_| .sl _,_,.leaf,_,_,h,_,_,_| .sl _,_,.pair _ _,_,_,h,_,_,_
 | .pair _ _,_,.leaf,_,_,h,_,_,_| .pair _ _,_,.sl _,_,_,h,_,_,_=>h.elim
theorem UP {τ:Ty} {b:Nat} {hs:List Nat} {nd:Bool} {v:TV} {cv:List Value} {e:Ty} {l:List e.den} {hv:Value} {gv:List Nat} {m:M}
 (hr:bJ w G e l hv (.row b hs nd)) (hg:∀c∈b::hs,Good U G c) (hvv:bg w G v.τ v.x v.sh cv) (hvg:∀c∈v.sh.aE,Good U G c) (hl:v.sh.live=true) (hτ:v.τ=τ)
 (own:Option (List Nat)) (hown:own=if τ.flat then none else match(M.row b hs nd).own,v.sh.own with
  |some a,some c=>if c.all (!a.contains ·)then some ((a++c).filter (·≠b))else none
  |_,_=>none)
 (hgv:gv=own.getD []) (hm:m=if own.isSome then .row b [b] true else if τ.flat then .row b hs nd else .row b (hs++v.sh.aE).eraseDups false)
 (hno:(own.isNone&&v.sh.aE.contains b)=false):
 (∀c∈gv,4≤c∧Good U G c)∧b∉gv∧(∀c∈m.aE,Good U G c)∧
 ∃B Bv hs' nd',dp w e.sz (aQ w e) l hv B∧aQ w v.τ v.x cv Bv∧m= .row b hs' nd'∧
  ∀h Bs,B=h::Bs→G.col h=b∧h∉Bs∧h∉Bv∧∀Bs',(∃A Bo D,Bs=A++Bo++D∧Bs'=A++Bv++D)→
   (∀x∈Bs',(if G.col x∈gv then b else G.col x)∈hs')∧(nd'=true→Bs'.Nodup):=by
 obtain⟨hb3,hh,B,hB,hc⟩:=hr
 by_cases hf:τ.flat=true
 ·rw[if_pos hf]at hown
  subst hown
  simp only[ahc]at hgv
  subst hgv
  simp only[ag3,agu,if_false,hf,if_true]at hm
  subst hm
  obtain⟨Bv,hBv,_⟩:=hvv.rep hl
  have:Bv=[]:=aQ.flat (by rw[hτ];exact hf) hBv
  subst this
  refine⟨by simp,by simp,fun c hcc=>hg c hcc,B,[],hs,nd,hB,hBv,rfl,fun h Bs hBs=> ?_⟩
  obtain⟨k1,k2,k3,k4⟩:=hc h Bs hBs
  refine⟨k1,k2,by simp,?_⟩
  rintro Bs' ⟨A,Bo,D,rfl,rfl⟩
  refine⟨fun x hx=> ?_,fun hn=> ?_⟩
  ·simp only[af5,if_false]
   exact k3 x (by simp at hx⊢;rcases hx with hx|hx<;>simp[hx])
  ·exact(k4 hn).sublist (by
    simp only[agX]
    exact List.Sublist.append (List.sublist_append_left ..) (List.Sublist.refl _))
 ·rw[if_neg hf]at hown
  cases ho:own with
  |some ts=>
   rw[ho]at hown hgv hm
   simp only[aga]at hgv
   simp only[Option.isSome_some,if_true]at hm
   subst hgv hm
   split at hown
   ·rename_i a' c ha' hcv
    split at hown
    ·rename_i hdis
     cases hown
     obtain⟨hnd,h3,hma⟩:=M.jT ha'
     have hda:∀z∈c,z∉a':=by
      simp only[afX,af4,afQ,decide_eq_false_iff_not]at hdis
      exact hdis
     obtain⟨Bv,hBv,hnv,hcvv⟩:=hvv.own hcv
     have hc3:∀z∈c,4≤z:=Sh.jT hvv hcv
     refine⟨fun z hz=> ?_,by simp,by simp only[M.aE];intro z hz;simp only[afN,af5,or_false,or_self]at hz;subst hz;exact hg z (by simp),B,Bv,[b],true,hB,hBv,rfl,fun h Bs hBs=> ?_⟩
     ·simp only[agd,afO]at hz
      rcases hz.1 with h|h
      ·refine⟨?_,hg z ?_⟩
       ·rcases(hma z).1 h with rfl|h
        ·exact hb3
        ·exact h3 z h
       ·rcases(hma z).1 h with rfl|h
        ·simp
        ·simp[h]
      ·exact⟨hc3 z h,hvg z (Sh.il hcv z h)⟩
     ·obtain⟨k1,k2,k3,k4⟩:=hc h Bs hBs
      refine⟨k1,k2,fun hin=> ?_,?_⟩
      ·have:=hcvv h hin
       rw[k1]at this
       exact hda b this ((hma b).2 (.inl rfl))
      ·rintro Bs' ⟨A,Bo,D,rfl,rfl⟩
       have hn:=k4 hnd
       have hxa:∀x∈A++Bo++D,G.col x∈a':=fun x hx=>(hma _).2 (.inr (k3 x hx))
       refine⟨fun x hx=> ?_,fun _=> ?_⟩
       ·have hx':G.col x∈a'∨G.col x∈c:=by
         simp only[afO]at hx
         rcases hx with(hx|hx)|hx
         ·exact .inl (hxa x (by simp[hx]))
         ·exact .inr (hcvv x hx)
         ·exact .inl (hxa x (by simp[hx]))
        by_cases e:G.col x=b
        ·simp[e]
        ·have hin:G.col x∈(a'++c).filter (·≠b):=by
          simp only[agd,afO,ne_eq,decide_not,af4,decide_eq_false_iff_not]
          exact⟨hx',e⟩
         rw[if_pos hin];simp
       ·have hdj:∀x∈Bv,x∉A++Bo++D:=fun x hx hin=>hda _ (hcvv x hx) (hxa x hin)
        rw[af8,af8]at hn
        obtain⟨⟨n1,n2,n3⟩,n4,n5⟩:=hn
        rw[af8,af8]
        refine⟨⟨n1,hnv,fun x hx y hy e=>hdj y hy (by subst e;simp[hx])⟩,n4,fun x hx y hy e=> ?_⟩
        rcases afO.1 hx with hx|hx
        ·exact n5 x (by simp[hx]) y hy e
        ·exact hdj x hx (by subst e;simp[hy])
    ·cases hown
   ·cases hown
  |none=>
   rw[ho]at hgv hm hno
   simp only[ahc]at hgv
   subst hgv
   simp only[ag3,agu,if_false,hf]at hm
   subst hm
   simp only[agp,ag1,afQ,decide_eq_false_iff_not]at hno
   obtain⟨Bv,hBv,hcv⟩:=hvv.rep hl
   refine⟨by simp,by simp,fun c hcc=> ?_,B,Bv,_,false,hB,hBv,rfl,fun h Bs hBs=> ?_⟩
   ·simp only[M.aE,afN,agv,afO]at hcc
    rcases hcc with rfl|hcc|hcc
    ·exact hg c (by simp)
    ·exact hg c (by simp[hcc])
    ·exact hvg c hcc
   ·obtain⟨k1,k2,k3,k4⟩:=hc h Bs hBs
    refine⟨k1,k2,fun hin=> ?_,?_⟩
    ·have:=hcv h hin
     rw[k1]at this
     exact hno this
    ·rintro Bs' ⟨A,Bo,D,rfl,rfl⟩
     refine⟨fun x hx=> ?_,by simp⟩
     simp only[af5,if_false,agv,afO]
     simp only[afO]at hx
     rcases hx with(hx|hx)|hx
     ·exact .inl (k3 x (by simp[hx]))
     ·exact .inr (hcv x hx)
     ·exact .inl (k3 x (by simp[hx]))
theorem Inv.Yf (hI:Inv w0 c0 U E a w G) {ts:List Nat} {t:Nat} {v:Value} (h3:4≤t) (hts:∀c∈ts,4≤c∧Good U G c) (hU:U t) (hv:v=G.hdr t) (hb:G.bx t=false):
 Inv w0 c0 U {E with s:=E.s.map (SV.aS ts t)} a w (G.aS ts t v):=by
 refine(hI.map (f:=M.aS ts t) (OW (w:=w) (v:=v) h3 hts (fun _=>⟨hv,hb⟩)) ?_ ?_).mono (U':=U) (fun c hc=>hc.elim id (fun e=>e▸hU))
 ·intro b hb
  simp only[Gh.aS]at hb⊢
  split
  ·exact .inr rfl
  ·rename_i h;rw[if_neg h]at hb;exact .inl (hI.colU b hb)
 ·intro b
  simp only[Gh.aS]
  by_cases h:G.col b∈ts
  ·have:=(hts _ h).1
   simp only[h,if_true];omega
  ·simp[h]
theorem acL (hC:CxTy P C) (hI:Inv w0 c0 U E a w G) (hR:RI ops E a.tmps) (hg:Gd ops a.tmps g) {tk:Nat} {o:Oper} {t:TypeId} {x y:Operand}
 {gv:List Nat} {b:Nat} {e:Ty} {l':List e.den} {m:M} (ho:o.op= .store t x y) (h:bl C ops E.rd tk g o=some (.elem gv b e l' m)):
 ∃w' G',(execOp a.eval o).run P w= .ok .skip w'∧Inv w0 c0 U (E.elem gv b e l' m) a w' G':=by
 simp only[bl,ho]at h
 split at h
 ·split at h
  ·split at h
   ·obtain⟨r,_,h⟩:=af1.mp h
    cases h
   ·cases h
  ·cases h
 ·rename_i ti b1 e1 i off p τ1 v1 hti harg hv
  split at h
  ·rename_i l hs nd hrow
   obtain⟨hc,h⟩:=Option.ite_none_right_eq_some.mp h
   obtain⟨hno,h⟩:=Option.ite_none_left_eq_some.mp h
   obtain⟨r,hr,h⟩:=af1.mp h
   simp only[Ef.elem.injEq]at h
   obtain⟨hgv,rfl,rfl,hl',hm⟩:=h
   have hl':=eq_of_heq hl'
   subst hl'
   simp only[afS,decide_eq_true_eq]at hc
   obtain⟨⟨⟨hc1,hc2⟩,hc3⟩,hc4⟩:=hc
   obtain⟨h1,_⟩:=eX hI hR hg harg
   obtain⟨bk,of,n,cap,hb3,k2,k3,k4,k5⟩:=h1
   obtain⟨⟨vh,hvh⟩,hgood⟩:=hI.dx hrow
   obtain⟨⟨cv,hcv,hvv⟩,hvg,hlive⟩:=jl hI hR hg hv
   have hvh0:vh=G.hdr b1:=hvh.2.1.symm
   have hno':=hno
   simp only[Bool.not_eq_true]at hno'
   obtain⟨q1,q2,q3,B,Bv,hs',nd',hB,hBv,hm',hblk⟩:=UP (τ:=τ1) (gv:=gv) (m:=m) hvh hgood hvv hvg hlive hc3 _ rfl hgv.symm hm.symm hno'
   rw[hvh0,k2]at hB
   rcases hB with⟨⟨ao,hB⟩,_⟩|⟨bk',of',cap',c,el,fz,Bs,hvv',hcap,hheap,hsz,rfl,hl⟩
   ·cases hB;exfalso;have k4':i<((0:Nat):Int):=k4;have k3': @LE.le Int Int.instLEInt 0 i:=k3;omega
   ·simp only[Value.slice.injEq,afL,Addr.mk.injEq,and_true]at hvv'
    obtain⟨⟨rfl,rfl⟩,rfl,rfl⟩:=hvv'
    obtain⟨j1,j2,j3,j4⟩:=hblk bk Bs rfl
    obtain⟨c',el',hfr⟩:=hI.fresh bk (by rw[j1];exact hb3)
    rw[hfr]at hheap
    simp only[afL,Obj.cells.injEq]at hheap
    obtain⟨rfl,rfl,rfl⟩:=hheap
    have hi:i.toNat<l.length:=toNat_lt k3 k4
    have hget:l[i.toNat]?=some (l.getD i.toNat e1.aa):=by
     rw[afM,afY hi];rfl
    obtain⟨B1,Bx,B2,rfl,hx1,hx2,hx3⟩:=aT.get (sz:=e1.sz) (fun x c B h=>aQ.len h) hl hget
    obtain⟨Ba,Bo,Bb,rfl,hput,hle⟩:=aQ.put hr hx1 hBv
    have hset:=aT.set (sz:=e1.sz) hi hput hx2 hx3
    have hlv:cv.length=v1.τ.sz:=bg.len hvv
    have hmul:(i.toNat+1)*e1.sz≤l.length*e1.sz:=af7 _ hi
    have hmul2:l.length*e1.sz≤cap*e1.sz:=af7 _ hcap
    rw[agn,agz]at hmul
    have hO:of+i.toNat*e1.sz+off+cv.length≤c'.size:=by rw[←hc1];omega
    have hrow':=fO bk (el:=el') cv (of+i.toNat*e1.sz+off) w c' hfr hO
    have hT:=(hC.tt t ti hti).1
    have hrun:=uj (P:=P) (t:=t) (τ:=ti.τ) hT hfr (o:=of+i.toNat*e1.sz+off) (cs:=cv) (by rw[←hc4,←hlv];exact hO) (by rw[hlv,hc4]) (bg.one hvv) k5
    have hU:U b1:=(hgood b1 (by simp)).2.1
    have hbx:G.bx b1=false:=(hgood b1 (by simp)).2.2
    have hI1:=hI.Yf (ts:=gv) (t:=b1) (v:=G.hdr b1) hb3 q1 hU rfl hbx
    have hI2:=hI1.map (CL (w:=w) b1) hI1.colU (fun b=>⟨fun h=>h,fun _=>rfl,fun _=>rfl⟩)
    have hcol:(G.aS gv b1 (G.hdr b1)).col bk=b1:=by simp[Gh.aS,j1,q2]
    have hother:∀k,(G.aS gv b1 (G.hdr b1)).col k≠b1→(w.setCells bk (of+i.toNat*e1.sz+off) cv).heap[k]?=w.heap[k]?:=fun k hk=>
     bC bk _ _ w k (fun e=>hk (e▸hcol))
    have hBs':=j4 (B1++(Ba++Bv++Bb)++B2) ⟨B1++Ba,Bo,Bb++B2,by simp[af6],by simp[af6]⟩
    have hnot:bk∉B1++(Ba++Bv++Bb)++B2:=by
     simp only[afO,not_or]at j2⊢
     exact⟨⟨j2.1.1,⟨j2.1.2.1.1,j3⟩,j2.1.2.2⟩,j2.2⟩
    have hnew:bJ (w.setCells bk (of+i.toNat*e1.sz+off) cv) (G.aS gv b1 (G.hdr b1)) e1 (l.set i.toNat r.1) ((G.aS gv b1 (G.hdr b1)).hdr b1) m:=by
     rw[hm']
     refine⟨hb3,rfl,bk::(B1++(Ba++Bv++Bb)++B2),?_,?_⟩
     ·refine .inr ⟨bk,of,cap,_,el',(0,0),B1++(Ba++Bv++Bb)++B2,by simp[Gh.aS,k2],by simpa using hcap,hrow',by simp;omega,rfl,?_⟩
      have hcells:((cJ (of+i.toNat*e1.sz+off) cv c'.toList).drop of).take ((l.set i.toNat r.1).length*e1.sz)=
       ((c'.toList.drop of).take (l.length*e1.sz)).take (i.toNat*e1.sz)++cJ (e1.off p) cv ((((c'.toList.drop of).take (l.length*e1.sz)).drop (i.toNat*e1.sz)).take e1.sz)++((c'.toList.drop of).take (l.length*e1.sz)).drop ((i.toNat+1)*e1.sz):=by
       rw[zp (by omega) (by simp;omega),zx (by simp;omega) (by simp;omega)]
       rw[show of+i.toNat*e1.sz+off-of=i.toNat*e1.sz+e1.off p by omega]
       rw[uf (sz:=e1.sz) hle]
       rw[agn,agz]
       simp
      show aT _ _ (((cJ (of+i.toNat*e1.sz+off) cv c'.toList).toArray.toList.drop of).take _) _
      rw[agA,hcells]
      exact aT.world (fun k hk=>bC bk _ _ w k (fun e=>hnot (e▸hk))) hset
     ·rintro h' Bs'' ⟨⟩
      exact⟨hcol,hnot,hBs'.1,hBs'.2⟩
    have hI3:=hI2.setRow hnew (by simp[Gh.aS]) hb3 hother (fun s=> ?_) (fun c hc=> ?_) (fun k hk=> ?_) (by rw[dY]) (bV _ _ _ w).1 (bV _ _ _ w).2.1 (bV _ _ _ w).2.2
    ·refine⟨w.setCells bk (of+i.toNat*e1.sz+off) cv,G.aS gv b1 (G.hdr b1),?_,?_⟩
     ·simp only[execOp,ho,hcv,hc4]
      simp[hrun]
     ·simpa only[Env.elem,List.map_map,Function.comp_def,SV.bw,SV.aS]using hI3
    ·have:=getD_map (L:=E.s.map (SV.aS gv b1)) (T:=SV.bw b1) rfl s
     show SV.clear b1 ((List.map (SV.bw b1) (E.s.map (SV.aS gv b1))).getD s .no)
     rw[this]
     exact SV.dD b1 _
    ·obtain⟨p1,p2,p3⟩:=q3 c hc
     refine⟨p1,p2,?_⟩
     simp only[Gh.aS];split
     ·rfl
     ·exact p3
    ·by_cases e:k=bk
     ·subst e;exact⟨_,_,hrow'⟩
     ·rw[bC bk _ _ w k e]
      refine hI.fresh k ?_
      simp only[Gh.aS]at hk
      split at hk
      ·rename_i h;exact(q1 _ h).1
      ·rw[hk];exact hb3
  ·cases h
 ·cases h
end
theorem Dc:∀(p:Pt) (tk:Nat) (hs:List Nat),(aV p tk hs).2=(aV p tk []).2
 | .leaf,_,_| .own,_,_| .shr,_,_| .hd,_,_| .pv,_,_| .rom,_,_=>rfl
 | .pair a b,tk,hs=>by simp only[aV];rw[Dc a tk hs,Dc b _ hs]
theorem cg (p:Pt) (tk:Nat) (hs:List Nat):(aV p tk hs).2=aR p tk:=Dc p tk hs
theorem bq:∀(p:Pt) (tk:Nat),tk≤aR p tk
 | .leaf,_| .shr,_| .rom,_=>afR _
 | .own,_| .hd,_| .pv,_=>ag9 _
 | .pair a b,tk=>by
   have h1:=bq a tk
   have h2:=bq b (aR a tk)
   exact agh h1 h2
theorem fg (a b:Pt) (tk:Nat):aR (.pair a b) tk=aR b (aR a tk):=rfl
theorem na:∀(τ:Ty) (tk:Nat) (hs:List Nat),aV (mf τ) tk hs=(fD τ (.sha hs),tk)
 | .int _,_,_| .bool,_,_| .str,_,_| .sl _,_,_=>rfl
 | .pair a b,tk,hs=>by simp only[mf,aV,na a,na b,fD]
theorem KI (τ:Ty) (tk:Nat):aR (mf τ) tk=tk:=by rw[←cg (mf τ) tk [1],na]
theorem od:∀ {p:Pt} {tk:Nat} {hs:List Nat},∀c∈(aV p tk hs).1.aE,c∈hs∨(tk≤c∧c<aR p tk)∨c=3
 | .leaf,tk,hs,c,h=>by simp[aV,Sh.aE]at h
 | .rom,tk,hs,c,h=>by
   simp only[aV,Sh.aE,M.aE,ago]at h
   exact .inr (.inr h)
 | .own,tk,hs,c,h=>by
   simp only[aV,Sh.aE,M.aE,afN,af5,or_false,or_self]at h
   subst h;exact .inr (.inl ⟨afR _,afV _⟩)
 | .pv,tk,hs,c,h=>by
   simp only[aV,Sh.aE,M.aE,afN,af5,or_false,or_self]at h
   subst h;exact .inr (.inl ⟨afR _,afV _⟩)
 | .hd,tk,hs,c,h=>by
   simp only[aV,Sh.aE,M.aE,afN]at h
   rcases h with rfl|rfl|h
   ·exact .inr (.inl ⟨afR _,afV _⟩)
   ·exact .inr (.inl ⟨afR _,afV _⟩)
   ·exact .inl h
 | .shr,tk,hs,c,h=> .inl h
 | .pair a b,tk,hs,c,h=>by
   simp only[aV,Sh.aE,afO]at h
   have h1:=bq a tk
   have h2:=bq b (aR a tk)
   rw[fg]
   rcases h with h|h
   ·rcases od c h with h|h
    ·exact .inl h
    ·right;omega
   ·rw[cg]at h
    rcases od c h with h|h
    ·exact .inl h
    ·right;omega
theorem kZ:∀ {p:Pt} {tk:Nat} {hs:List Nat},∀c∈(aV p tk hs).1.aE,(c∈hs∧p.sH=true)∨(tk≤c∧c<aR p tk)∨c=3
 | .leaf,tk,hs,c,h=>by simp[aV,Sh.aE]at h
 | .rom,tk,hs,c,h=>by
   simp only[aV,Sh.aE,M.aE,ago]at h
   exact .inr (.inr h)
 | .own,tk,hs,c,h=>by
   simp only[aV,Sh.aE,M.aE,afN,af5,or_false,or_self]at h
   subst h;exact .inr (.inl ⟨afR _,afV _⟩)
 | .pv,tk,hs,c,h=>by
   simp only[aV,Sh.aE,M.aE,afN,af5,or_false,or_self]at h
   subst h;exact .inr (.inl ⟨afR _,afV _⟩)
 | .hd,tk,hs,c,h=>by
   simp only[aV,Sh.aE,M.aE,afN]at h
   rcases h with rfl|rfl|h
   ·exact .inr (.inl ⟨afR _,afV _⟩)
   ·exact .inr (.inl ⟨afR _,afV _⟩)
   ·exact .inl ⟨h,rfl⟩
 | .shr,tk,hs,c,h=> .inl ⟨h,rfl⟩
 | .pair a b,tk,hs,c,h=>by
   simp only[aV,Sh.aE,afO]at h
   have h1:=bq a tk
   have h2:=bq b (aR a tk)
   rw[fg]
   simp only[Pt.sH,agI]
   rcases h with h|h
   ·rcases kZ c h with h|h
    ·exact .inl ⟨h.1,.inl h.2⟩
    ·right;omega
   ·rw[cg]at h
    rcases kZ c h with h|h
    ·exact .inl ⟨h.1,.inr h.2⟩
    ·right;omega
section
variable {P:Program} {C:Cx} {w0:World} {c0:C0} {U:Nat→Prop} {E:Env} {a:Act} {w:World} {G:Gh} {ops:List Oper} {g:Option (Nat×Bool)}
theorem lZ {sm:Nat→Nat} {hs:List Nat}:∀ {p:Pt} {τ:Ty} {x:τ.den} {sh:Sh} {cs:List Value} {tk:Nat},iG p sh=true→bg w G τ x sh cs→4≤tk→(∀c∈sh.aE,sm c∈hs)→hs≠ []→
 ∃H:Nat→Value,∀G1:Gh,(∀c k,(c,k)∈dV sm p sh tk→∀b,G.col b=c→G1.col b=k)→(∀u,tk≤u→u<aR p tk→G1.hdr u=H u)→bg w G1 τ x (aV p tk hs).1 cs
 | .leaf,.int _,x,.leaf,cs,tk,_,h,_,_,_=>⟨fun _=>undef,fun _ _ _=>h⟩
 | .leaf,.bool,x,.leaf,cs,tk,_,h,_,_,_=>⟨fun _=>undef,fun _ _ _=>h⟩
 | .leaf,.str,x,.leaf,cs,tk,_,h,_,_,_=>⟨fun _=>undef,fun _ _ _=>h⟩
 | .own,.sl e,l,.sl m,cs,tk,hf,h,h3,_,_=>by
   obtain⟨v,rfl,hr⟩:=h
   simp only[iG,agS]at hf
   obtain⟨ts,ho⟩:=hf
   obtain⟨B,hB,hn,hc⟩:=hr.own ho
   refine⟨fun _=>v,fun G1 h1 h2=>⟨v,rfl,h3,h2 tk (afR _) (afV _),B,hB,?_⟩⟩
   have hk:∀b∈B,G1.col b=tk:=fun b hb=>h1 (G.col b) tk (by simp only[dV,ho,aga,afZ];exact⟨_,hc b hb,rfl⟩) b rfl
   rintro b Bs rfl
   rw[agk]at hn
   exact⟨hk b (by simp),hn.1,fun x hx=>by simp[hk x (by simp[hx])],fun _=>hn.2⟩
 | .shr,.sl e,l,.sl m,cs,tk,hf,h,h3,hsm,hne=>by
   obtain⟨v,rfl,hr⟩:=h
   simp only[iG,ne_eq,decide_not,af4,decide_eq_false_iff_not]at hf
   obtain⟨B,hB,hc⟩:=hr.rep hf
   refine⟨fun _=>v,fun G1 h1 h2=>⟨v,rfl,⟨B,hB,fun b hb=> ?_⟩,fun e=>absurd e hne⟩⟩
   rw[h1 (G.col b) (sm (G.col b)) (by simp only[dV,afZ];exact⟨_,hc b hb,rfl⟩) b rfl]
   exact hsm _ (hc b hb)
 | .rom,.sl e,l,.sl m,cs,tk,hf,h,h3,_,_=>by
   obtain⟨v,rfl,hr⟩:=h
   simp only[iG,ne_eq,decide_not,afS,af4,decide_eq_false_iff_not,afX,decide_eq_true_eq]at hf
   obtain⟨B,hB,hc⟩:=hr.rep hf.1
   refine⟨fun _=>v,fun G1 h1 h2=>⟨v,rfl,⟨B,hB,fun b hb=> ?_⟩,fun e=>absurd e (by simp)⟩⟩
   have e3:=hf.2 _ (hc b hb)
   rw[h1 3 3 (by simp only[dV,afZ,agd,decide_eq_true_eq];exact⟨3,⟨e3▸hc b hb,rfl⟩,rfl⟩) b e3]
   simp
 | .pv,.sl e,l,.sl m,cs,tk,hf,h,h3,_,_=>by
   obtain⟨v,rfl,hr⟩:=h
   simp only[iG,agS]at hf
   obtain⟨ts,ho⟩:=hf
   rcases M.Rs ho with⟨t,hs',nd,rfl,hge,hts⟩|⟨rfl,rfl⟩
   ·obtain⟨_,_,B,hB,hc⟩:=hr
    refine⟨fun _=>v,fun G1 h1 h2=>⟨v,rfl,h3,h2 tk (afR _) (afV _),B,hB,?_⟩⟩
    rintro b Bs rfl
    obtain⟨q1,q2,q3,_⟩:=hc b Bs rfl
    have hk:∀c,c=t∨c∈hs'→∀b,G.col b=c→G1.col b=tk:=fun c hc=>h1 c tk (by simp only[dV,ho,aga,afZ];exact⟨c,(hts c).2 hc,rfl⟩)
    exact⟨hk t (.inl rfl) b q1,q2,fun x hx=>by simp[hk _ (.inr (q3 x hx)) x rfl],by simp⟩
   ·obtain⟨_,B,hB,rfl⟩:=hr.nil
    exact⟨fun _=>v,fun G1 h1 h2=>⟨v,rfl,h3,h2 tk (afR _) (afV _),[],hB,by rintro b Bs ⟨⟩⟩⟩
 | .hd,.sl e,l,.sl (.row t hs' nd),cs,tk,hf,h,h3,hsm,hne=>by
   obtain⟨v,rfl,_,_,B,hB,hc⟩:=h
   refine⟨fun _=>v,fun G1 h1 h2=>⟨v,rfl,h3,h2 tk (afR _) (afV _),B,hB,?_⟩⟩
   rintro b Bs rfl
   obtain⟨q1,q2,q3,_⟩:=hc b Bs rfl
   refine⟨h1 t tk (by simp[dV]) b q1,q2,fun x hx=> ?_,by simp⟩
   by_cases e:G.col x=t
   ·rw[h1 t tk (by simp[dV]) x e];simp
   ·rw[h1 (G.col x) (sm (G.col x)) (by simp only[dV,afN,afZ,agd];exact .inr ⟨_,⟨q3 x hx,by simpa using e⟩,rfl⟩) x rfl]
    exact afT _ (hsm _ (by simp[Sh.aE,M.aE,q3 x hx]))
 | .hd,.sl e,l,.sl (.sha []),cs,tk,hf,h,h3,hsm,hne=>by
   obtain⟨v,rfl,hr⟩:=h
   obtain⟨_,B,hB,rfl⟩:=bJ.nil hr
   exact⟨fun _=>v,fun G1 h1 h2=>⟨v,rfl,h3,h2 tk (afR _) (afV _),[],hB,by rintro b Bs ⟨⟩⟩⟩
 | .pair p q,.pair a b,x,.pair s1 s2,cs,tk,hf,h,h3,hsm,hne=>by
   obtain⟨c1,c2,rfl,h1,h2⟩:=h
   simp only[iG,afS]at hf
   have hge:=bq p tk
   obtain⟨H1,k1⟩:=lZ hf.1 h1 h3 (fun c hc=>hsm c (by simp[Sh.aE,hc])) hne
   obtain⟨H2,k2⟩:=lZ (tk:=aR p tk) hf.2 h2 (by omega) (fun c hc=>hsm c (by simp[Sh.aE,hc])) hne
   refine⟨fun u=>if u<aR p tk then H1 u else H2 u,fun G1 g1 g2=>⟨c1,c2,rfl,?_,?_⟩⟩
   ·refine k1 G1 (fun c k hck=>g1 c k (by simp only[dV,afO];exact .inl hck)) (fun u hu hu2=> ?_)
    exact(g2 u hu (by rw[fg];exact agL hu2 (bq _ _))).trans (if_pos hu2)
   ·rw[cg]
    refine k2 G1 (fun c k hck=>g1 c k (by simp only[dV,afO];exact .inr hck)) (fun u hu hu2=> ?_)
    exact(g2 u (by omega) (by rw[fg];exact hu2)).trans (if_neg (by omega))
 | .hd,_,_,.sl (.sha (_::_)),_,_,hf,_,_,_,_| .hd,_,_,.sl .dead,_,_,hf,_,_,_,_| .hd,_,_,.leaf,_,_,hf,_,_,_,_| .hd,_,_,.pair _ _,_,_,hf,_,_,_,_
 | .pv,_,_,.leaf,_,_,hf,_,_,_,_| .pv,_,_,.pair _ _,_,_,hf,_,_,_,_| .rom,_,_,.leaf,_,_,hf,_,_,_,_| .rom,_,_,.pair _ _,_,_,hf,_,_,_,_
 | .leaf,_,_,.sl _,_,_,hf,_,_,_,_| .leaf,_,_,.pair _ _,_,_,hf,_,_,_,_| .own,_,_,.leaf,_,_,hf,_,_,_,_| .own,_,_,.pair _ _,_,_,hf,_,_,_,_
 | .shr,_,_,.leaf,_,_,hf,_,_,_,_| .shr,_,_,.pair _ _,_,_,hf,_,_,_,_| .pair _ _,_,_,.leaf,_,_,hf,_,_,_,_| .pair _ _,_,_,.sl _,_,_,hf,_,_,_,_=>by simp[iG]at hf
 | .hd,.int _,_,.sl (.row _ _ _),_,_,_,h,_,_,_| .hd,.bool,_,.sl (.row _ _ _),_,_,_,h,_,_,_| .hd,.str,_,.sl (.row _ _ _),_,_,_,h,_,_,_| .hd,.pair _ _,_,.sl (.row _ _ _),_,_,_,h,_,_,_
 | .hd,.int _,_,.sl (.sha []),_,_,_,h,_,_,_| .hd,.bool,_,.sl (.sha []),_,_,_,h,_,_,_| .hd,.str,_,.sl (.sha []),_,_,_,h,_,_,_| .hd,.pair _ _,_,.sl (.sha []),_,_,_,h,_,_,_
 | .rom,.int _,_,.sl _,_,_,_,h,_,_,_| .rom,.bool,_,.sl _,_,_,_,h,_,_,_| .rom,.str,_,.sl _,_,_,_,h,_,_,_| .rom,.pair _ _,_,.sl _,_,_,_,h,_,_,_
 | .pv,.int _,_,.sl _,_,_,_,h,_,_,_| .pv,.bool,_,.sl _,_,_,_,h,_,_,_| .pv,.str,_,.sl _,_,_,_,h,_,_,_| .pv,.pair _ _,_,.sl _,_,_,_,h,_,_,_
 | .leaf,.sl _,_,.leaf,_,_,_,h,_,_,_| .leaf,.pair _ _,_,.leaf,_,_,_,h,_,_,_| .own,.int _,_,.sl _,_,_,_,h,_,_,_| .own,.bool,_,.sl _,_,_,_,h,_,_,_| .own,.str,_,.sl _,_,_,_,h,_,_,_| .own,.pair _ _,_,.sl _,_,_,_,h,_,_,_
 | .shr,.int _,_,.sl _,_,_,_,h,_,_,_| .shr,.bool,_,.sl _,_,_,_,h,_,_,_| .shr,.str,_,.sl _,_,_,_,h,_,_,_| .shr,.pair _ _,_,.sl _,_,_,_,h,_,_,_
 | .pair _ _,.int _,_,.pair _ _,_,_,_,h,_,_,_| .pair _ _,.bool,_,.pair _ _,_,_,_,h,_,_,_| .pair _ _,.str,_,.pair _ _,_,_,_,h,_,_,_| .pair _ _,.sl _,_,.pair _ _,_,_,_,h,_,_,_=>h.elim
theorem Ik {G1 G2:Gh} {hs hs':List Nat}:∀ {p:Pt} {τ:Ty} {x:τ.den} {cs:List Value} {k k':Nat},bg w G1 τ x (aV p k hs).1 cs→4≤k'→
 (∀u,k≤u→u<aR p k→G2.hdr (k'+(u-k))=G1.hdr u∧∀b,G1.col b=u→G2.col b=k'+(u-k))→(∀b,G1.col b∈hs→G2.col b∈hs')→(∀b,G1.col b=3→G2.col b=3)→hs'≠ []→
 bg w G2 τ x (aV p k' hs').1 cs∧aR p k'-k'=aR p k-k
 | .leaf,.int _,x,cs,k,k',h,_,_,_,_,_=>⟨h,by simp[aR,aV]⟩
 | .leaf,.bool,x,cs,k,k',h,_,_,_,_,_=>⟨h,by simp[aR,aV]⟩
 | .leaf,.str,x,cs,k,k',h,_,_,_,_,_=>⟨h,by simp[aR,aV]⟩
 | .rom,.sl e,l,cs,k,k',h,_,_,_,hrom,_=>by
   obtain⟨v,rfl,⟨B,hB,hc⟩,_⟩:=h
   exact⟨⟨v,rfl,⟨B,hB,fun b hb=>by simp[hrom b (by simpa using hc b hb)]⟩,fun e=>absurd e (by simp)⟩,by simp[aR,aV]⟩
 | .own,.sl e,l,cs,k,k',h,h3,hk,_,_,_=>by
   obtain⟨v,rfl,g1,g2,B,hB,hc⟩:=h
   obtain⟨e1,e2⟩:=hk k (afR _) (afV _)
   simp only[agT,agU]at e1 e2
   refine⟨⟨v,rfl,h3,e1.trans g2,B,hB,fun b Bs hb=> ?_⟩,by simp[aR,aV]⟩
   obtain⟨q1,q2,q3,q4⟩:=hc b Bs hb
   exact⟨e2 b q1,q2,fun x hx=>by simp[e2 x (by simpa using q3 x hx)],q4⟩
 | .pv,.sl e,l,cs,k,k',h,h3,hk,_,_,_=>by
   obtain⟨v,rfl,g1,g2,B,hB,hc⟩:=h
   obtain⟨e1,e2⟩:=hk k (afR _) (afV _)
   simp only[agT,agU]at e1 e2
   refine⟨⟨v,rfl,h3,e1.trans g2,B,hB,fun b Bs hb=> ?_⟩,by simp[aR,aV]⟩
   obtain⟨q1,q2,q3,q4⟩:=hc b Bs hb
   exact⟨e2 b q1,q2,fun x hx=>by simp[e2 x (by simpa using q3 x hx)],q4⟩
 | .hd,.sl e,l,cs,k,k',h,h3,hk,hh,_,hne=>by
   obtain⟨v,rfl,g1,g2,B,hB,hc⟩:=h
   obtain⟨e1,e2⟩:=hk k (afR _) (afV _)
   simp only[agT,agU]at e1 e2
   refine⟨⟨v,rfl,h3,e1.trans g2,B,hB,fun b Bs hb=> ?_⟩,by simp[aR,aV]⟩
   obtain⟨q1,q2,q3,q4⟩:=hc b Bs hb
   refine⟨e2 b q1,q2,fun x hx=> ?_,q4⟩
   rcases afN.1 (q3 x hx)with h|h
   ·rw[e2 x h];simp
   ·exact afT _ (hh x h)
 | .shr,.sl e,l,cs,k,k',h,_,_,hh,_,hne=>by
   obtain⟨v,rfl,⟨B,hB,hc⟩,_⟩:=h
   exact⟨⟨v,rfl,⟨B,hB,fun b hb=>hh b (hc b hb)⟩,fun e=>absurd e hne⟩,by simp[aR,aV]⟩
 | .pair p q,.pair a b,x,cs,k,k',h,h3,hk,hh,hrom,hne=>by
   obtain⟨c1,c2,rfl,h1,h2⟩:=h
   have n1:=bq p k
   have n2:=bq q (aR p k)
   have n3:=bq p k'
   rw[cg]at h2
   obtain⟨r1,d1⟩:=Ik h1 h3 (fun u hu hu2=>hk u hu (by rw[fg];omega)) hh hrom hne
   obtain⟨r2,d2⟩:=Ik (k':=aR p k') h2 (by omega) (fun u hu hu2=>by
    have:=hk u (by omega) (by rw[fg];omega)
    rw[show aR p k'+(u-aR p k)=k'+(u-k) by omega]
    exact this) hh hrom hne
   refine⟨⟨c1,c2,rfl,r1,?_⟩,?_⟩
   ·rw[cg];exact r2
   ·rw[fg,fg]
    have:=bq q (aR p k')
    omega
 | .hd,.int _,_,_,_,_,h,_,_,_,_,_| .hd,.bool,_,_,_,_,h,_,_,_,_,_| .hd,.str,_,_,_,_,h,_,_,_,_,_| .hd,.pair _ _,_,_,_,_,h,_,_,_,_,_
 | .rom,.int _,_,_,_,_,h,_,_,_,_,_| .rom,.bool,_,_,_,_,h,_,_,_,_,_| .rom,.str,_,_,_,_,h,_,_,_,_,_| .rom,.pair _ _,_,_,_,_,h,_,_,_,_,_
 | .pv,.int _,_,_,_,_,h,_,_,_,_,_| .pv,.bool,_,_,_,_,h,_,_,_,_,_| .pv,.str,_,_,_,_,h,_,_,_,_,_| .pv,.pair _ _,_,_,_,_,h,_,_,_,_,_
 | .leaf,.sl _,_,_,_,_,h,_,_,_,_,_| .leaf,.pair _ _,_,_,_,_,h,_,_,_,_,_| .own,.int _,_,_,_,_,h,_,_,_,_,_| .own,.bool,_,_,_,_,h,_,_,_,_,_| .own,.str,_,_,_,_,h,_,_,_,_,_| .own,.pair _ _,_,_,_,_,h,_,_,_,_,_
 | .shr,.int _,_,_,_,_,h,_,_,_,_,_| .shr,.bool,_,_,_,_,h,_,_,_,_,_| .shr,.str,_,_,_,_,h,_,_,_,_,_| .shr,.pair _ _,_,_,_,_,h,_,_,_,_,_
 | .pair _ _,.int _,_,_,_,_,h,_,_,_,_,_| .pair _ _,.bool,_,_,_,_,h,_,_,_,_,_| .pair _ _,.str,_,_,_,_,h,_,_,_,_,_| .pair _ _,.sl _,_,_,_,_,h,_,_,_,_,_=>h.elim
end
theorem fp:∀(ps:List PK) (tk:Nat),tk≤bI ps tk
 | [],_=>afR _
 | .val _ p::ps,tk=>agh (bq p tk) (fp ps _)
 | .io _ p::ps,tk=>agh (agh (ag9 _) (bq p (tk+1))) (fp ps _)
 | .rd _::ps,tk| .vx _ _::ps,tk=>fp ps tk
theorem lu:∀(ps:List PK) (x:aZ (ps.map PK.ty)) (tk:Nat),(bK ps x tk).2=bI ps tk
 | [],_,_=>rfl
 | .val _ p::ps,x,tk=>by simp only[bK,bI];rw[cg];exact lu ps x.2 _
 | .io _ p::ps,x,tk=>by simp only[bK,bI];rw[cg];exact lu ps x.2 _
 | .rd _::ps,x,tk| .vx _ _::ps,x,tk=>by simp only[bK,bI];exact lu ps x.2 _
theorem mc:∀(ps:List PK) (x:aZ (ps.map PK.ty)) (tk:Nat),(bK ps x tk).1.length=ps.length
 | [],_,_=>rfl
 | .val _ p::ps,x,tk=>by simp only[bK,agV];rw[mc ps x.2]
 | .io _ p::ps,x,tk=>by simp only[bK,agV];rw[mc ps x.2]
 | .rd _::ps,x,tk| .vx _ _::ps,x,tk=>by simp only[bK,agV];rw[mc ps x.2]
theorem dC:∀ {ps:List PK} {tk:Nat},∀c∈cn ps tk,tk≤c∧c<bI ps tk
 | [],_,c,h=>by simp[cn]at h
 | .val _ p::ps,tk,c,h=>by
   have:=dC (ps:=ps) (tk:=aR p tk) c h
   have h1:=bq p tk
   exact⟨by omega,this.2⟩
 | .io _ p::ps,tk,c,h=>by
   have h1:=bq p (tk+1)
   have h2:=fp ps (aR p (tk+1))
   simp only[cn,afN]at h
   simp only[bI]
   rcases h with rfl|h
   ·omega
   ·have:=dC (ps:=ps) (tk:=aR p (tk+1)) c h;omega
 | .rd _::ps,tk,c,h| .vx _ _::ps,tk,c,h=>dC (ps:=ps) (tk:=tk) c h
theorem kq:∀ {ps:List PK} {x:aZ (ps.map PK.ty)} {tk:Nat},∀sv∈(bK ps x tk).1,
 (∀c∈sv.sc,(c=1∨c=3)∨(tk≤c∧c<bI ps tk∧c∉cn ps tk)∨c∈RV ps)∧(∀c∈sv.bt,c∈cn ps tk)∧sv.rt=[]
 | .val τ p::ps,x,tk,sv,h=>by
   have n1:=bq p tk
   have n2:=fp ps (aR p tk)
   simp only[bK,afN]at h
   rcases h with rfl|h
   ·refine⟨fun c hc=> ?_,by simp[SV.bt],rfl⟩
    rcases od c hc with h|h|h
    ·left;left;simpa using h
    rotate_left
    ·left;right;exact h
    ·right;left
     simp only[bI,cn]
     exact⟨h.1,by omega,fun hin=>by have:=dC (ps:=ps) (tk:=aR p tk) c hin;omega⟩
   ·rw[cg]at h
    obtain⟨h1,h2,h3⟩:=kq sv h
    refine⟨fun c hc=> ?_,h2,h3⟩
    rcases h1 c hc with h|⟨k1,k2,k3⟩|h
    ·exact .inl h
    ·exact .inr (.inl ⟨by omega,k2,k3⟩)
    ·exact .inr (.inr h)
 | .io τ p::ps,x,tk,sv,h=>by
   have n1:=bq p (tk+1)
   have n2:=fp ps (aR p (tk+1))
   simp only[bK,afN]at h
   rcases h with rfl|h
   ·refine⟨fun c hc=> ?_,by simp[SV.bt,cn],rfl⟩
    rcases od c hc with h|h|h
    ·left;left;simpa using h
    rotate_left
    ·left;right;exact h
    ·right;left
     simp only[bI,cn,afN,not_or]
     exact⟨by omega,by omega,by omega,fun hin=>by have:=dC (ps:=ps) (tk:=aR p (tk+1)) c hin;omega⟩
   ·rw[cg]at h
    obtain⟨h1,h2,h3⟩:=kq sv h
    refine⟨fun c hc=> ?_,fun c hc=>by simp[cn,h2 c hc],h3⟩
    rcases h1 c hc with h|⟨k1,k2,k3⟩|h
    ·exact .inl h
    ·refine .inr (.inl ⟨by omega,k2,?_⟩)
     simp only[cn,afN,not_or]
     exact⟨by omega,k3⟩
    ·exact .inr (.inr h)
 | .rd τ::ps,x,tk,sv,h=>by
   simp only[bK,afN]at h
   rcases h with rfl|h
   ·refine⟨fun c hc=> ?_,by simp[SV.bt],rfl⟩
    simp only[SV.sc,afO]at hc
    rcases hc with hc|hc
    ·left;left;simpa using hc
    ·rw[na]at hc
     left;left;simpa[M.aE]using oe _ _ c hc
   ·obtain⟨h1,h2,h3⟩:=kq sv h
    exact⟨h1,h2,h3⟩
 | .vx e l::ps,x,tk,sv,h=>by
   simp only[bK,afN]at h
   rcases h with rfl|h
   ·refine⟨fun c hc=> ?_,by simp[SV.bt],rfl⟩
    simp only[SV.sc,Sh.aE,M.aE,afN]at hc
    rcases hc with hc|hc
    ·exact .inl (.inl hc)
    ·exact .inr (.inr (by simp[RV,hc]))
   ·obtain⟨h1,h2,h3⟩:=kq sv h
    exact⟨fun c hc=>(h1 c hc).imp id (Or.imp id fun h=>by simp[RV,h]),h2,h3⟩
theorem tE:∀ {ps:List PK} {x:aZ (ps.map PK.ty)} {tk:Nat} {i j t:Nat} {v v':TV},
 (bK ps x tk).1.getD i .no= .box t v→(bK ps x tk).1.getD j .no= .box t v'→i=j
 | [],_,_,_,_,_,_,_,h,_=>by simp[bK]at h
 | .val τ p::ps,x,tk,i,j,t,v,v',h,h'=>by
   simp only[bK]at h h'
   cases i with
   |zero=>simp at h
   |succ i=>
    cases j with
    |zero=>simp at h'
    |succ j=>
     simp only[af0]at h h'
     rw[tE h h']
 | .io τ p::ps,x,tk,i,j,t,v,v',h,h'=>by
   have n1:=bq p (tk+1)
   have key:∀ {n:Nat} {u:TV},(bK ps x.2 (aR p (tk+1))).1.getD n .no≠ .box tk u:=by
    intro n u e
    have hin:SV.box tk u∈(bK ps x.2 (aR p (tk+1))).1:=by
     rw[afM]at e
     cases hq:(bK ps x.2 (aR p (tk+1))).1[n]? with
     |none=>rw[hq]at e;simp at e
     |some z=>rw[hq]at e;simp at e;rw[←e];exact agj hq
    have:=dC tk ((kq _ hin).2.1 tk (by simp[SV.bt]))
    omega
   simp only[bK]at h h'
   rw[cg]at h h'
   cases i with
   |zero=>
    cases j with
    |zero=>rfl
    |succ j=>
     simp only[afW,SV.box.injEq]at h
     simp only[af0]at h'
     rw[←h.1]at h'
     exact absurd h' key
   |succ i=>
    cases j with
    |zero=>
     simp only[afW,SV.box.injEq]at h'
     simp only[af0]at h
     rw[←h'.1]at h
     exact absurd h key
    |succ j=>
     simp only[af0]at h h'
     rw[tE h h']
 | .rd τ::ps,x,tk,i,j,t,v,v',h,h'=>by
   simp only[bK]at h h'
   cases i with
   |zero=>simp at h
   |succ i=>
    cases j with
    |zero=>simp at h'
    |succ j=>
     simp only[af0]at h h'
     rw[tE h h']
 | .vx e l::ps,x,tk,i,j,t,v,v',h,h'=>by
   simp only[bK]at h h'
   cases i with
   |zero=>simp at h
   |succ i=>
    cases j with
    |zero=>simp at h'
    |succ j=>
     simp only[af0]at h h'
     rw[tE h h']
structure M8 (w:World) (G:Gh) (L:List SV) (vs:List Value) (nt:Nat):Prop where
 len:vs.length=L.length
 slots:∀i,bU w G (L.getD i .no) (vs.getD i undef)
 ow:∀i,bf (fun u=>u<nt) G (L.getD i .no)
 uni:∀i j t v v',L.getD i .no= .box t v→L.getD j .no= .box t v'→i=j
 colU:∀b,0<G.col b→G.col b<nt∧b<w.heap.size
 fresh:∀b,4≤G.col b→∃c el,w.heap[b]?=some (.cells c el (0,0))
 two:G.bx 2=false∧G.bx 3=false
 ent:∀b,G.col b≠2
section
variable {P:Program} {C:Cx} {w0:World} {c0:C0} {U:Nat→Prop} {E:Env} {a:Act} {w:World} {G:Gh} {ops:List Oper} {g:Option (Nat×Bool)}
theorem kA {sm:Nat→Nat}:∀ {p:Pt} {τ:Ty} {x:τ.den} {sh:Sh} {cs:List Value} {tk:Nat},bg w G τ x sh cs→∀c k,(c,k)∈dV sm p sh tk→
 c∈sh.aE∧((k=sm c∧c∈NX p sh)∨(4≤c∧tk≤k∧k<aR p tk)∨(c=3∧k=3))
 | .leaf,_,_,_,_,_,_,c,k,hk=>by simp[dV]at hk
 | .own,.sl e,l,.sl m,cs,tk,h,c,k,hk=>by
   simp only[dV,afZ,afP]at hk
   obtain⟨c',hc,rfl,rfl⟩:=hk
   cases ho:m.own with
   |none=>rw[ho]at hc;simp at hc
   |some ts=>
    rw[ho]at hc
    have h3:=Sh.jT (sh:= .sl m) h ho _ hc
    exact⟨M.il ho _ hc,.inr (.inl ⟨h3,afR _,afV _⟩)⟩
 | .shr,.sl e,l,.sl m,cs,tk,h,c,k,hk=>by
   simp only[dV,afZ,afP]at hk
   obtain⟨c',hc,rfl,rfl⟩:=hk
   exact⟨hc,.inl ⟨rfl,hc⟩⟩
 | .rom,_,_,.sl m,cs,tk,h,c,k,hk=>by
   simp only[dV,afZ,agd,afP,decide_eq_true_eq]at hk
   obtain⟨c',⟨hc,rfl⟩,rfl,rfl⟩:=hk
   exact⟨hc,.inr (.inr ⟨rfl,rfl⟩)⟩
 | .pv,.sl e,l,.sl m,cs,tk,h,c,k,hk=>by
   simp only[dV,afZ,afP]at hk
   obtain⟨c',hc,rfl,rfl⟩:=hk
   cases ho:m.Cz with
   |none=>rw[ho]at hc;simp at hc
   |some ts=>
    rw[ho]at hc
    simp only[aga]at hc
    rcases M.Rs ho with⟨t,hs',nd,rfl,hge,hts⟩|⟨rfl,rfl⟩
    ·obtain⟨_,_,h3,_⟩:=h
     rcases(hts _).1 hc with rfl|hc
     ·exact⟨by simp[Sh.aE,M.aE],.inr (.inl ⟨h3,afR _,afV _⟩)⟩
     ·exact⟨by simp[Sh.aE,M.aE,hc],.inr (.inl ⟨hge _ hc,afR _,afV _⟩)⟩
    ·cases hc
 | .hd,.sl e,l,.sl (.row t hs' nd),cs,tk,h,c,k,hk=>by
   obtain⟨_,_,h3,_⟩:=h
   simp only[dV,afN,afP,afZ,agd]at hk
   rcases hk with⟨rfl,rfl⟩|⟨c',⟨hc,_⟩,rfl,rfl⟩
   ·exact⟨by simp[Sh.aE,M.aE],.inr (.inl ⟨h3,afR _,afV _⟩)⟩
   ·exact⟨by simp[Sh.aE,M.aE,hc],.inl ⟨rfl,hc⟩⟩
 | .pair p q,.pair a b,x,.pair s1 s2,cs,tk,h,c,k,hk=>by
   obtain⟨c1,c2,rfl,h1,h2⟩:=h
   have n1:=bq p tk
   have n2:=bq q (aR p tk)
   simp only[dV,afO]at hk
   rw[fg]
   rcases hk with hk|hk
   ·obtain⟨r1,r2⟩:=kA h1 c k hk
    exact⟨by simp[Sh.aE,r1],r2.imp (fun h=>⟨h.1,agy _ h.2⟩) (fun r=>r.imp (fun⟨q1,q2,q3⟩=>⟨q1,q2,by omega⟩) id)⟩
   ·obtain⟨r1,r2⟩:=kA h2 c k hk
    exact⟨by simp[Sh.aE,r1],r2.imp (fun h=>⟨h.1,af2 _ h.2⟩) (fun r=>r.imp (fun⟨q1,q2,q3⟩=>⟨q1,by have:(aV p tk []).2=aR p tk:=rfl;omega,q3⟩) id)⟩
 | .rom,_,_,.leaf,_,_,_,c,k,hk| .rom,_,_,.pair _ _,_,_,_,c,k,hk
 | .pv,_,_,.leaf,_,_,_,c,k,hk| .pv,_,_,.pair _ _,_,_,_,c,k,hk| .hd,_,_,.leaf,_,_,_,c,k,hk| .hd,_,_,.pair _ _,_,_,_,c,k,hk| .hd,_,_,.sl (.sha _),_,_,_,c,k,hk| .hd,_,_,.sl .dead,_,_,_,c,k,hk
 | .own,_,_,.leaf,_,_,_,c,k,hk| .own,_,_,.pair _ _,_,_,_,c,k,hk| .shr,_,_,.leaf,_,_,_,c,k,hk| .shr,_,_,.pair _ _,_,_,_,c,k,hk
 | .pair _ _,_,_,.leaf,_,_,_,c,k,hk| .pair _ _,_,_,.sl _,_,_,_,c,k,hk=>by simp[dV]at hk
 | .pv,.int _,_,.sl _,_,_,h,_,_,_| .pv,.bool,_,.sl _,_,_,h,_,_,_| .pv,.str,_,.sl _,_,_,h,_,_,_| .pv,.pair _ _,_,.sl _,_,_,h,_,_,_
 | .hd,.int _,_,.sl (.row _ _ _),_,_,h,_,_,_| .hd,.bool,_,.sl (.row _ _ _),_,_,h,_,_,_| .hd,.str,_,.sl (.row _ _ _),_,_,h,_,_,_| .hd,.pair _ _,_,.sl (.row _ _ _),_,_,h,_,_,_
 | .own,.int _,_,.sl _,_,_,h,_,_,_| .own,.bool,_,.sl _,_,_,h,_,_,_| .own,.str,_,.sl _,_,_,h,_,_,_| .own,.pair _ _,_,.sl _,_,_,h,_,_,_
 | .shr,.int _,_,.sl _,_,_,h,_,_,_| .shr,.bool,_,.sl _,_,_,h,_,_,_| .shr,.str,_,.sl _,_,_,h,_,_,_| .shr,.pair _ _,_,.sl _,_,_,h,_,_,_
 | .pair _ _,.int _,_,.pair _ _,_,_,h,_,_,_| .pair _ _,.bool,_,.pair _ _,_,_,h,_,_,_| .pair _ _,.str,_,.pair _ _,_,_,h,_,_,_| .pair _ _,.sl _,_,.pair _ _,_,_,h,_,_,_=>h.elim
theorem wW (hI:Inv w0 c0 U E a w G) {sv:SV} {mv:Value} {t s:Nat} {v:TV} (h:oC E.rd sv=some (t,s,v)) (hs:bU w G sv mv):
 E.s.getD s .no= .box t v∧∃bk c el,mv= .pointer (some ⟨bk,0,none⟩)∧G.hdr t=mv∧4≤t∧G.col bk=t∧w.heap[bk]?=some (.cells c el (0,0))∧bg w G v.τ v.x v.sh c.toList∧
  (∀c∈v.sh.aE,Good U G c)∧U t∧G.bx t=true:=by
 unfold oC at h
 split at h
 ·rename_i t' τ
  rw[af1]at h
  obtain⟨r,hr,h⟩:=h
  simp only[afP]at h
  obtain⟨rfl,rfl,rfl⟩:=h
  obtain⟨h1,bk,c,el,g1,g2,g3,g4,g5,g6⟩:=hI.box hr
  obtain⟨bk',_,k2,k3⟩:=hs
  rw[g1]at k2
  simp only[Value.pointer.injEq,afL,Addr.mk.injEq,and_true]at k2
  subst k2
  have hb:=hI.bt r.1 t' (by rw[h1];simp[SV.bt])
  exact⟨h1,bk,c,el,k3,g1.trans k3.symm,g2,g3,g4,g5,g6,hb.2.1,hb.2.2⟩
 ·cases h
theorem adt (r0:List (Nat×Nat)) (l:List Nat) (c:Nat):RG r0 l c∈1::l:=by
 unfold RG
 split
 ·split
  ·rename_i h;simp only[afQ,decide_eq_true_eq]at h;exact afT _ h
  ·simp
 ·simp
theorem Ia:∀ {l:List (Nat×Nat)} {a b:Nat},l.lookup a=some b→(a,b)∈l
 |(x,y)::l,a,b,h=>by
  simp only[aha]at h
  split at h
  ·rename_i e
   simp only[beq_iff_eq]at e
   cases h;simp[e]
  ·exact afT _ (Ia h)
theorem adJ (r0:List (Nat×Nat)) (l:List Nat) (c:Nat):RG r0 l c=1∨((c,RG r0 l c)∈r0∧RG r0 l c∈l):=by
 unfold RG
 split
 ·rename_i k hk
  split
  ·rename_i h;simp only[afQ,decide_eq_true_eq]at h;exact .inr ⟨Ia hk,h⟩
  ·exact .inl rfl
 ·exact .inl rfl
def TU (U:Nat→Prop) (G:Gh) (ps:List PK) (tk:Nat) (bs:List (Nat×Nat)) (c k:Nat):Prop:=
 (k=1∧0<c∧U c∧(G.bx c=false∨KD ps=true))∨(tk≤k∧k<bI ps tk∧4≤c∧((Good U G c∧k∉cn ps tk)∨(k∈cn ps tk∧U c∧G.bx c=true∧∃s,(c,s)∈bs)))∨(c=3∧k=3)
theorem rl (hI:Inv w0 c0 U E a w G):∀ {ps:List PK} {as:List SV} {vals:List Value} {tk:Nat} {r0:List (Nat×Nat)} {xs:aZ (ps.map PK.ty)} {rho bs:List (Nat×Nat)},
 br E.rd ps as tk r0=some (xs,rho,bs)→(∀i,bU w G (as.getD i .no) (vals.getD i undef)∧bf U G (as.getD i .no))→4≤tk→
 as.length=ps.length∧
 (∃H:Nat→Value,∀G1:Gh,(∀c k,(c,k)∈rho→∀b,G.col b=c→G1.col b=k)→(∀u,tk≤u→u<bI ps tk→G1.hdr u=H u)→
  ∀i,bU w G1 ((bK ps xs tk).1.getD i .no) (vals.getD i undef))∧
 (∀c k,(c,k)∈rho→TU U G ps tk bs c k∨((c,k)∈r0∧k≠1))
 | [],[],vals,tk,r0,xs,rho,bs,h,hs,h3=>by
   simp only[br,afL]at h
   obtain⟨rfl,rfl,rfl⟩:=h
   exact⟨rfl,⟨fun _=>undef,fun G1 _ _ i=>by simp[bK,bU]⟩,by simp⟩
 | .val τ p::ps,.d v::as,vals,tk,r0,xs,rho,bs,h,hs,h3=>by
   simp only[br]at h
   split at h
   ·rename_i x xs' rho' bs' hx hg
    split at h
    ·rename_i hf
     simp only[afL,afP]at h
     obtain⟨rfl,rfl,rfl⟩:=h
     have n1:=bq p tk
     have n2:=fp ps (aR p tk)
     have hs0:=hs 0
     simp only[afW]at hs0
     obtain⟨⟨cs,hcs,hv⟩,hm⟩:=hs0
     have e:=cV hx
     rw[e]at hcs hv hf hm⊢
     obtain⟨hl,⟨H2,k2⟩,hr⟩:=rl hI (vals:=vals.drop 1) hg (fun i=>by have:=hs (i+1);simpa[afM,afU]using this) (by exact agh h3 n1)
     obtain⟨H1,k1⟩:=lZ (sm:=fun _=>1) (hs:=[1]) (tk:=tk) hf hv h3 (by simp) (by simp)
     refine⟨by simp[hl],⟨fun u=>if u<aR p tk then H1 u else H2 u,fun G1 g1 g2 i=> ?_⟩,fun c k hck=> ?_⟩
     ·cases i with
      |zero=>
       simp only[bK,afW]
       exact⟨cs,hcs,k1 G1 (fun c k hck=>g1 c k (agy _ hck)) (fun u hu hu2=>(g2 u hu (by simp only[bI];omega)).trans (if_pos hu2))⟩
      |succ i=>
       simp only[bK,af0]
       rw[cg]
       have:=k2 G1 (fun c k hck=>g1 c k (af2 _ hck)) (fun u hu hu2=>(g2 u (by have:(aV p tk []).2=aR p tk:=rfl;omega) hu2).trans (if_neg (by have:(aV p tk []).2=aR p tk:=rfl;omega))) i
       have hpn:(aV p tk []).2=aR p tk:=rfl
       rw[hpn]at this
       simpa[afM,afU]using this
     ·rcases afO.1 hck with hck|hck
      ·obtain⟨r1,r2⟩:=kA hv c k hck
       have hgd:Good U G c:=hm.1 c r1
       left
       rcases r2 with⟨r2,_⟩|⟨r2,r3,r4⟩|r2
       ·exact .inl ⟨r2,hgd.1,hgd.2.1,.inl hgd.2.2⟩
       ·refine .inr (.inl ⟨r3,by simp only[bI];omega,r2,.inl ⟨hgd,fun hin=> ?_⟩⟩)
        have:=dC (ps:=ps) (tk:=aR p tk) k hin
        omega
       ·exact .inr (.inr r2)
      ·rcases hr c k hck with(h|⟨q1,q2,q3,q4⟩|h)|⟨h,hk1⟩
       ·exact .inl (.inl h)
       ·exact .inl (.inr (.inl ⟨agh n1 q1,q2,q3,q4⟩))
       ·exact .inl (.inr (.inr h))
       ·rcases afO.1 h with h|h
        ·exact .inr ⟨h,hk1⟩
        ·obtain⟨r1,r2⟩:=kA hv c k h
         have hgd:Good U G c:=hm.1 c r1
         left
         rcases r2 with⟨r2,_⟩|⟨r2,r3,r4⟩|r2
         ·exact absurd r2 hk1
         ·refine .inr (.inl ⟨r3,by simp only[bI];omega,r2,.inl ⟨hgd,fun hin=> ?_⟩⟩)
          have:=dC (ps:=ps) (tk:=aR p tk) k hin
          omega
         ·exact .inr (.inr r2)
    ·cases h
   ·cases h
 | .io τ p::ps,sv::as,vals,tk,r0,xs,rho,bs,h,hs,h3=>by
   simp only[br]at h
   split at h
   ·rename_i t s v hb
    split at h
    ·rename_i x xs' rho' bs' hx hg
     split at h
     ·rename_i hf
      simp only[afL,afP]at h
      obtain⟨rfl,rfl,rfl⟩:=h
      have n1:=bq p (tk+1)
      have n2:=fp ps (aR p (tk+1))
      have hs0:=hs 0
      simp only[afW]at hs0
      obtain⟨hslot,bk,c,el,b1,b2,b3,b4,b5,b6,b7,b8,b9⟩:=wW hI hb hs0.1
      have e:=cV hx
      rw[e]at hf b6 b7⊢
      obtain⟨hl,⟨H2,k2⟩,hr⟩:=rl hI (vals:=vals.drop 1) hg (fun i=>by have:=hs (i+1);simpa[afM,afU]using this) (by have:(aV p (tk+1) []).2=aR p (tk+1):=rfl;omega)
      obtain⟨H1,k1⟩:=lZ (sm:=fun _=>1) (hs:=[1]) (tk:=tk+1) hf b6 (by omega) (by simp) (by simp)
      refine⟨by simp[hl],⟨fun u=>if u=tk then vals.getD 0 undef else if u<aR p (tk+1)then H1 u else H2 u,fun G1 g1 g2 i=> ?_⟩,fun c k hck=> ?_⟩
      ·cases i with
       |zero=>
        simp only[bK,afW]
        refine⟨bk,c,el,b1,h3,?_,g1 t tk (by simp) bk b4,b5,k1 G1 (fun c k hck=>g1 c k (by simp[hck])) (fun u hu hu2=> ?_)⟩
        ·exact(g2 tk (afR _) (by simp only[bI];omega)).trans (if_pos rfl)
        ·exact((g2 u (by omega) (by simp only[bI];omega)).trans (if_neg (by omega))).trans (if_pos hu2)
       |succ i=>
        simp only[bK,af0]
        rw[cg]
        have hpn:(aV p (tk+1) []).2=aR p (tk+1):=rfl
        have:=k2 G1 (fun c k hck=>g1 c k (by simp[hck])) (fun u hu hu2=>((g2 u (by omega) hu2).trans (if_neg (by omega))).trans (if_neg (by omega))) i
        rw[hpn]at this
        simpa[afM,afU]using this
      ·have key:(c,k)=(t,tk)∨(c,k)∈dV (fun _=>1) p v.sh (tk+1)→TU U G (.io τ p::ps) tk ((t,s)::bs') c k:=by
        intro hck
        rcases hck with hck|hck
        ·simp only[afP]at hck
         obtain⟨rfl,rfl⟩:=hck
         exact .inr (.inl ⟨afR _,by simp only[bI];omega,b3,.inr ⟨by simp[cn],b8,b9,s,by simp⟩⟩)
        ·obtain⟨r1,r2⟩:=kA b6 c k hck
         have hgd:Good U G c:=b7 c r1
         rcases r2 with⟨r2,_⟩|⟨r2,r3,r4⟩|r2
         ·exact .inl ⟨r2,hgd.1,hgd.2.1,.inl hgd.2.2⟩
         ·refine .inr (.inl ⟨by omega,by simp only[bI];omega,r2,.inl ⟨hgd,fun hin=> ?_⟩⟩)
          simp only[cn,afN]at hin
          rcases hin with hin|hin
          ·omega
          ·have:=dC (ps:=ps) (tk:=aR p (tk+1)) k hin
           omega
         ·exact .inr (.inr r2)
       rw[ahd,afN,afO,←or_assoc]at hck
       rcases hck with hck|hck
       ·exact .inl (key hck)
       ·rcases hr c k hck with(h|⟨q1,q2,q3,q4⟩|h)|⟨h,hk1⟩
        ·exact .inl (.inl h)
        ·have hpn:(aV p (tk+1) []).2=aR p (tk+1):=rfl
         refine .inl (.inr (.inl ⟨by omega,q2,q3,?_⟩))
         rcases q4 with⟨q4,q5⟩|⟨q4,q5,q6,s',q7⟩
         ·refine .inl ⟨q4,fun hin=> ?_⟩
          simp only[cn,afN]at hin
          rcases hin with hin|hin
          ·omega
          ·exact q5 hin
         ·exact .inr ⟨by simp only[cn];exact afT _ q4,q5,q6,s',by simp[q7]⟩
        ·exact .inl (.inr (.inr h))
        ·rw[afO,afN]at h
         rcases h with h|h
         ·exact .inr ⟨h,hk1⟩
         ·exact .inl (key h)
     ·cases h
    ·cases h
   ·cases h
 | .rd τ::ps,sv::as,vals,tk,r0,xs,rho,bs,h,hs,h3=>by
   simp only[br]at h
   split at h
   ·rename_i t s v hb
    split at h
    ·rename_i x xs' rho' bs' hx hg
     split at h
     ·rename_i hf
      simp only[afL,afP]at h
      obtain⟨rfl,rfl,rfl⟩:=h
      have hs0:=hs 0
      simp only[afW]at hs0
      obtain⟨hslot,bk,c,el,b1,b2,b3,b4,b5,b6,b7,b8,b9⟩:=wW hI hb hs0.1
      have e:=cV hx
      rw[e]at hf b6 b7⊢
      obtain⟨hl,⟨H2,k2⟩,hr⟩:=rl hI (vals:=vals.drop 1) hg (fun i=>by have:=hs (i+1);simpa[afM,afU]using this) h3
      obtain⟨H1,k1⟩:=lZ (sm:=fun _=>1) (hs:=[1]) (tk:=tk) hf b6 (by omega) (by simp) (by simp)
      refine⟨by simp[hl],⟨H2,fun G1 g1 g2 i=> ?_⟩,fun c k hck=> ?_⟩
      ·cases i with
       |zero=>
        simp only[bK,afW]
        have hv:=k1 G1 (fun c k hck=>g1 c k (by simp[hck])) (fun u hu hu2=>by rw[KI]at hu2;omega)
        have hlen:c.toList.length=τ.sz:=bg.len hv
        refine⟨bk,0,c,el,(0,0),b1,b5,by simp only[Array.length_toList]at hlen;simp[hlen],?_,?_⟩
        ·simp[g1 t 1 (by simp) bk b4]
        ·simp only[agJ]
         rw[age (Nat.le_of_eq hlen)]
         exact hv
       |succ i=>
        simp only[bK,af0]
        have:=k2 G1 (fun c k hck=>g1 c k (by simp[hck])) (fun u hu hu2=>g2 u hu hu2) i
        simpa[afM,afU]using this
      ·rw[ahd,afN,afO]at hck
       rcases hck with hck|hck|hck
       ·simp only[afP]at hck
        obtain⟨rfl,rfl⟩:=hck
        exact .inl (.inl ⟨rfl,by omega,b8,.inr rfl⟩)
       ·obtain⟨r1,r2⟩:=kA b6 c k hck
        have hgd:Good U G c:=b7 c r1
        rw[KI]at r2
        rcases r2 with⟨r2,_⟩|⟨r2,r3,r4⟩|r2
        ·exact .inl (.inl ⟨r2,hgd.1,hgd.2.1,.inr rfl⟩)
        ·omega
        ·exact .inl (.inr (.inr r2))
       ·rcases hr c k hck with(h|⟨q1,q2,q3,q4⟩|h)|h
        ·exact .inl (.inl ⟨h.1,h.2.1,h.2.2.1,.inr rfl⟩)
        ·exact .inl (.inr (.inl ⟨q1,q2,q3,q4⟩))
        ·exact .inl (.inr (.inr h))
        ·exact .inr h
     ·cases h
    ·cases h
   ·cases h
 | .vx e l::ps,.d v::as,vals,tk,r0,xs,rho,bs,h,hs,h3=>by
   simp only[br]at h
   split at h
   ·rename_i x xs' rho' bs' hx hg
    split at h
    ·rename_i hf
     simp only[afL,afP]at h
     obtain⟨rfl,rfl,rfl⟩:=h
     have hs0:=hs 0
     simp only[afW]at hs0
     obtain⟨⟨cs,hcs,hv⟩,hm⟩:=hs0
     have e:=cV hx
     rw[e]at hcs hv hf hm⊢
     obtain⟨hl,⟨H2,k2⟩,hr⟩:=rl hI (vals:=vals.drop 1) hg (fun i=>by have:=hs (i+1);simpa[afM,afU]using this) h3
     obtain⟨H1,k1⟩:=lZ (sm:=RG r0 l) (hs:=1::l) (tk:=tk) hf hv h3 (fun c _=>adt r0 l c) (by simp)
     refine⟨by simp[hl],⟨H2,fun G1 g1 g2 i=> ?_⟩,fun c k hck=> ?_⟩
     ·cases i with
      |zero=>
       simp only[bK,afW]
       exact⟨cs,hcs,k1 G1 (fun c k hck=>g1 c k (agy _ hck)) (fun u hu hu2=>by
        have:aR .shr tk=tk:=rfl
        omega)⟩
      |succ i=>
       simp only[bK,af0]
       have:=k2 G1 (fun c k hck=>g1 c k (af2 _ hck)) (fun u hu hu2=>g2 u hu hu2) i
       simpa[afM,afU]using this
     ·rcases afO.1 hck with hck|hck
      ·obtain⟨r1,r2⟩:=kA hv c k hck
       have hgd:Good U G c:=hm.1 c r1
       rcases r2 with⟨r2,_⟩|⟨r2,r3,r4⟩|r2
       rotate_left 2
       ·exact .inl (.inr (.inr r2))
       ·rcases adJ r0 l c with h|⟨h,h1⟩
        ·exact .inl (.inl ⟨r2.trans h,hgd.1,hgd.2.1,.inl hgd.2.2⟩)
        ·rw[←r2]at h h1
         by_cases hk1:k=1
         ·exact .inl (.inl ⟨hk1,hgd.1,hgd.2.1,.inl hgd.2.2⟩)
         ·exact .inr ⟨h,hk1⟩
       ·have:aR .shr tk=tk:=rfl
        omega
      ·rcases hr c k hck with(h|⟨q1,q2,q3,q4⟩|h)|h
       ·exact .inl (.inl h)
       ·exact .inl (.inr (.inl ⟨q1,q2,q3,q4⟩))
       ·exact .inl (.inr (.inr h))
       ·exact .inr h
    ·cases h
   ·cases h
 | [],_::_,_,_,_,_,_,_,h,_,_| .val _ _::_,[],_,_,_,_,_,_,h,_,_| .io _ _::_,[],_,_,_,_,_,_,h,_,_| .rd _::_,[],_,_,_,_,_,_,h,_,_| .vx _ _::_,[],_,_,_,_,_,_,h,_,_=>by simp[br]at h
 | .vx _ _::_,.no::_,_,_,_,_,_,_,h,_,_| .vx _ _::_,.box _ _::_,_,_,_,_,_,_,h,_,_| .vx _ _::_,.ptr ..::_,_,_,_,_,_,_,h,_,_| .vx _ _::_,.ept ..::_,_,_,_,_,_,_,h,_,_
 | .vx _ _::_,.rdp ..::_,_,_,_,_,_,_,h,_,_| .vx _ _::_,.tup _::_,_,_,_,_,_,_,h,_,_| .vx _ _::_,.g ..::_,_,_,_,_,_,_,h,_,_=>by simp[br]at h
 | .val _ _::_,.no::_,_,_,_,_,_,_,h,_,_| .val _ _::_,.box _ _::_,_,_,_,_,_,_,h,_,_| .val _ _::_,.ptr ..::_,_,_,_,_,_,_,h,_,_| .val _ _::_,.ept ..::_,_,_,_,_,_,_,h,_,_
 | .val _ _::_,.rdp ..::_,_,_,_,_,_,_,h,_,_| .val _ _::_,.tup _::_,_,_,_,_,_,_,h,_,_| .val _ _::_,.g ..::_,_,_,_,_,_,_,h,_,_=>by simp[br]at h
end
theorem fJ:∀ {l:List (Nat×Nat)} {a b:Nat},l.lookup a=some b→(a,b)∈l
 | [],_,_,h=>by simp[aha]at h
 |(x,y)::l,a,b,h=>by
  simp only[aha]at h
  split at h
  ·rename_i e
   simp only[beq_iff_eq]at e
   simp only[afL]at h
   subst e h;simp
  ·exact afT _ (fJ h)
theorem Dd {r:List (Nat×Nat)} (h:Gl r=true) {c k:Nat} (hc:(c,k)∈r):r.lookup c=some k:=by
 simp only[Gl,afX,beq_iff_eq]at h
 exact h (c,k) hc
def eD:List PK→Nat→Nat→List (Nat×Nat)
 | [],_,_=>[]
 | .val _ p::ps,i,te=>eD ps (i+1) (aR p te)
 | .io _ p::ps,i,te=>(te,i)::eD ps (i+1) (aR p (te+1))
 | .rd _::ps,i,te| .vx _ _::ps,i,te=>eD ps (i+1) te
def wD:List Value→Value
 | [v]=>v
 |l=> .tuple l.toArray
structure xc (con:rk) (w:World) (G0:Gh) (args:List Value) (y:aZ (con.rs.map RK.ty++bn con.ps)) (mv:Value) (w':World) (G':Gh) (vs:List Value) (nt:Nat):Prop where
 val:mv=wD vs
 len:vs.length=con.rs.length
 res:∀i,bU w' G' ((bd con.rs (bn con.ps) y (bI con.ps 4) [2,1]).1.getD i .no) (vs.getD i undef)
 ios:∀t i v,(t,i,v)∈cK [2,1] con.ps (bd con.rs (bn con.ps) y (bI con.ps 4) [2,1]).2.1 (eD con.ps 0 4) (bd con.rs (bn con.ps) y (bI con.ps 4) [2,1]).2.2→
  bU w' G' (.box t v) (args.getD i undef)
 frame:∀b,b<w.heap.size→G0.col b<4→G'.col b=G0.col b∧w'.heap[b]?=w.heap[b]?
 one:∀b,G'.col b=1∨G'.col b=3→b<w.heap.size∧G0.col b=G'.col b
 size:w.heap.size≤w'.heap.size
 os:w'.os=w.os
 tape:w'.tape=w.tape
 output:w'.output=w.output
 lt:∀b,0<G'.col b→b<w'.heap.size
 fresh:∀b,4≤G'.col b→∃c el,w'.heap[b]?=some (.cells c el (0,0))
 kept:∀q∈con.kp,∀te i τ,(eD con.ps 0 4)[q.1]?=some (te,i)→(bn con.ps)[q.1]?=some τ→∀bk c el c' el',args.getD i undef= .pointer (some ⟨bk,0,none⟩)→
  w.heap[bk]?=some (.cells c el (0,0))→w'.heap[bk]?=some (.cells c' el' (0,0))→c'.toList[τ.off q.2]?=c.toList[τ.off q.2]?
def sL (P:Program) (f:FuncId) (args:Array Value) (w:World) (R:Value→World→Prop):Prop:=
 match(callFunc f args).run P w with
 | .ok (.enter f' args') w1=>Calls P f' args' w1 (fun e w'=>∃v,e= .returned v∧R v w')
 | .ok (.value v) w1=>R v w1
 |_=>False
def oz (P:Program) (f:FuncId) (con:rk):Prop:=
 ∀(w:World) (G0:Gh) (args:List Value) (x:aZ (con.ps.map PK.ty)) (y:aZ (con.rs.map RK.ty++bn con.ps)),con.F x=some y→
  M8 w G0 (bK con.ps x 4).1 args (bI con.ps 4)→sL P f args.toArray w (fun mv w'=>∃G' vs nt,xc con w G0 args y mv w' G' vs nt)
section
variable {P:Program} {C:Cx} {w0:World} {c0:C0} {U:Nat→Prop} {E:Env} {a:Act} {w:World} {G:Gh} {ops:List Oper} {g:Option (Nat×Bool)}
theorem ad6 (hI:Inv w0 c0 U E a w G) {ps:List PK} {as:List SV} {vals:List Value} {xs:aZ (ps.map PK.ty)} {rho bs:List (Nat×Nat)}
 (h:br E.rd ps as 4 []=some (xs,rho,bs)) (hs:∀i,bU w G (as.getD i .no) (vals.getD i undef)∧bf U G (as.getD i .no)) (hlen:vals.length=as.length) (hr:Gl rho=true)
 (hvx:∀c∈RV ps,4≤c∧c<bI ps 4∧c∉cn ps 4):
 ∃G1:Gh,M8 w G1 (bK ps xs 4).1 vals (bI ps 4)∧(∀b,G1.col b=(rho.lookup (G.col b)).getD 0):=by
 obtain⟨hl,⟨H,k⟩,hin0⟩:=rl hI h hs (afR _)
 have hin:∀c k,(c,k)∈rho→TU U G ps 4 bs c k:=fun c k h=>(hin0 c k h).resolve_right (by simp)
 have hnt:=fp ps 4
 refine⟨⟨fun b=>(rho.lookup (G.col b)).getD 0,H,fun u=>(cn ps 4).contains u⟩,⟨?_,?_,?_,?_,?_,?_,?_,?_⟩,fun b=>rfl⟩
 ·rw[mc,←hl,hlen]
 ·intro i
  refine k _ (fun c k hck b hb=> ?_) (fun u _ _=>rfl) i
  simp only[hb,Dd hr hck,aga]
 ·intro i
  by_cases hi:i<(bK ps xs 4).1.length
  ·have hmem:(bK ps xs 4).1.getD i .no∈(bK ps xs 4).1:=by
    rw[afM,afY hi];simp
   obtain⟨h1,h2,h3⟩:=kq _ hmem
   refine⟨fun c hc=> ?_,fun c hc=> ?_,by rw[h3];simp⟩
   ·rcases h1 c hc with h13|⟨q1,q2,q3⟩|hvc
    ·refine⟨by omega,by omega,?_⟩
     simp only[afQ,decide_eq_false_iff_not]
     intro hin
     have:=dC c hin;omega
    ·exact⟨by omega,q2,by simp only[afQ,decide_eq_false_iff_not];exact q3⟩
    ·obtain⟨q1,q2,q3⟩:=hvx c hvc
     exact⟨by omega,q2,by simp only[afQ,decide_eq_false_iff_not];exact q3⟩
   ·have:=dC c (h2 c hc)
    exact⟨by omega,this.2,by simp only[afQ,decide_eq_true_eq];exact h2 c hc⟩
  ·rw[afM,agq (by omega)]
   simp[bf,SV.sc,SV.bt,SV.rt]
 ·intro i j t v v' h h'
  exact tE h h'
 ·intro b hb
  simp only at hb⊢
  cases hq:rho.lookup (G.col b)with
  |none=>rw[hq]at hb;simp at hb
  |some k=>
   simp only[aga]
   rcases hin _ _ (fJ hq)with⟨rfl,hg⟩|⟨q1,q2,q3,_⟩|⟨q1,q2⟩
   ·exact⟨by omega,hI.lt b hg.1⟩
   ·exact⟨q2,hI.lt b (by omega)⟩
   ·exact⟨by omega,hI.lt b (by omega)⟩
 ·intro b hb
  simp only at hb
  cases hq:rho.lookup (G.col b)with
  |none=>rw[hq]at hb;simp at hb
  |some k=>
   rw[hq]at hb
   simp only[aga]at hb
   rcases hin _ _ (fJ hq)with⟨rfl,_⟩|⟨q1,q2,q3,_⟩|⟨q1,q2⟩
   ·omega
   ·exact hI.fresh b q3
   ·omega
 ·simp only[afQ,decide_eq_false_iff_not]
  exact⟨fun h2=>by have:=dC 2 h2;omega,fun h2=>by have:=dC 3 h2;omega⟩
 ·intro b
  simp only
  cases hq:rho.lookup (G.col b)with
  |none=>simp
  |some k=>
   simp only[aga]
   rcases hin _ _ (fJ hq)with⟨rfl,_⟩|⟨q1,q2,q3,_⟩|⟨q1,q2⟩<;>omega
end
theorem dG:∀(p:Pt) (k d:Nat),aR p (k+d)=aR p k+d
 | .leaf,_,_| .shr,_,_| .rom,_,_=>rfl
 | .own,k,d| .hd,k,d| .pv,k,d=>by simp only[aR,aV];omega
 | .pair a b,k,d=>by rw[fg,fg,dG a,dG b]
theorem rz (τ:Ty) (p:Pt) (rs:List RK) (k:Nat):di (.val τ p::rs) k=di rs (aR p k):=rfl
theorem oJ (τ:Ty) (p:Pt) (rs:List RK) (k:Nat):di (.nbox τ p::rs) k=di rs (aR p (k+1)):=rfl
theorem Gs (τ:Ty) (p:Pt) (ps:List PK) (k:Nat):qL (.io τ p::ps) k=qL ps (aR p k):=rfl
theorem ug:∀(rs:List RK) (k d:Nat),di rs (k+d)=di rs k+d
 | [],_,_=>rfl
 | .val _ p::rs,k,d=>by rw[rz,rz,dG,ug rs]
 | .nbox _ p::rs,k,d=>by rw[oJ,oJ,show k+d+1=k+1+d by omega,dG,ug rs]
theorem Co:∀(ps:List PK) (k d:Nat),qL ps (k+d)=qL ps k+d
 | [],_,_=>rfl
 | .val _ _::ps,k,d| .rd _::ps,k,d| .vx _ _::ps,k,d=>Co ps k d
 | .io _ p::ps,k,d=>by rw[Gs,Gs,dG,Co ps]
theorem lS:∀(rs:List RK) (k:Nat),k≤di rs k
 | [],_=>afR _
 | .val _ p::rs,k=>agh (bq p k) (lS rs _)
 | .nbox _ p::rs,k=>agh (agh (ag9 _) (bq p (k+1))) (lS rs _)
theorem tw:∀(ps:List PK) (k:Nat),k≤qL ps k
 | [],_=>afR _
 | .val _ p::ps,k=>tw ps k
 | .rd _::ps,k| .vx _ _::ps,k=>tw ps k
 | .io _ p::ps,k=>agh (bq p k) (tw ps _)
def iE:List RK→Nat→List Nat
 | [],_=>[]
 | .val _ p::rs,k=>iE rs (aR p k)
 | .nbox _ p::rs,k=>k::iE rs (aR p (k+1))
theorem uu:∀ {rs:List RK} {k:Nat},∀c∈iE rs k,k≤c∧c<di rs k
 | [],_,c,h=>by simp[iE]at h
 | .val _ p::rs,k,c,h=>by
   have:=uu (rs:=rs) (k:=aR p k) c h
   have h1:=bq p k
   rw[rz];omega
 | .nbox _ p::rs,k,c,h=>by
   have h1:=bq p (k+1)
   have h2:=lS rs (aR p (k+1))
   rw[oJ]
   simp only[iE,afN]at h
   rcases h with rfl|h
   ·omega
   ·have:=uu (rs:=rs) (k:=aR p (k+1)) c h;omega
structure Yl (G' G2:Gh) (k0 n tk:Nat) (hs:List Nat):Prop where
 own:∀u,k0≤u→u<n→G2.hdr (tk+(u-k0))=G'.hdr u∧∀b,G'.col b=u→G2.col b=tk+(u-k0)
 shr:∀b,G'.col b∈[2,1]→G2.col b∈hs
 rom:∀b,G'.col b=3→G2.col b=3
 ne:hs≠ []
section
variable {w':World} {G' G2:Gh} {k0 n tk:Nat} {hs:List Nat}
theorem IB (h:Yl G' G2 k0 n tk hs) (h3:4≤tk) {p:Pt} {τ:Ty} {x:τ.den} {cs:List Value} {k:Nat} (hk:k0≤k) (hn:aR p k≤n) (hv:bg w' G' τ x (aV p k [2,1]).1 cs):
 bg w' G2 τ x (aV p (tk+(k-k0)) hs).1 cs:=by
 refine(Ik hv (by omega) (fun u hu hu2=> ?_) h.shr h.rom h.ne).1
 have:=h.own u (by omega) (by omega)
 rw[show tk+(k-k0)+(u-k)=tk+(u-k0) by omega]
 exact this
theorem Da (h3:4≤tk):∀ {rs:List RK} {rest:List Ty} {y:aZ (rs.map RK.ty++rest)} {k:Nat},k0≤k→∀(hs':List Nat),
 (bd rs rest y (tk+(k-k0)) hs').2.1=(bd rs rest y k [2,1]).2.1∧(bd rs rest y (tk+(k-k0)) hs').2.2=tk+(di rs k-k0)∧(bd rs rest y k [2,1]).2.2=di rs k∧
 (bd rs rest y (tk+(k-k0)) hs').1.length=rs.length∧
 (Yl G' G2 k0 n tk hs'→di rs k≤n→∀(vs:List Value),(∀i,bU w' G' ((bd rs rest y k [2,1]).1.getD i .no) (vs.getD i undef))→∀i,bU w' G2 ((bd rs rest y (tk+(k-k0)) hs').1.getD i .no) (vs.getD i undef))∧
 (∀sv∈(bd rs rest y (tk+(k-k0)) hs').1,(∀c∈sv.sc,((c∈hs'∧rs.any (fun r=>r.pt.sH)=true)∨c=3)∨(tk+(k-k0)≤c∧c<tk+(di rs k-k0)∧c∉iE rs (tk+(k-k0))))∧(∀c∈sv.bt,c∈iE rs (tk+(k-k0)))∧sv.rt=[])
 | [],rest,y,k,hk,hs'=>⟨rfl,rfl,rfl,rfl,fun _ _ vs _ i=>by simp[bd,bU],by simp[bd]⟩
 | .val τ p::rs,rest,y,k,hk,hs'=>by
   have n1:=bq p k
   have n2:=lS rs (aR p k)
   obtain⟨i1,i2,i3,i4,i5,i6⟩:=Da h3 (rs:=rs) (rest:=rest) (y:=y.2) (k:=aR p k) (by omega) hs'
   have e1:(aV p (tk+(k-k0)) hs').2=tk+(aR p k-k0):=by
    rw[cg,show tk+(k-k0)=(k-k0)+tk by omega,dG]
    have:=dG p (k-k0) k0
    rw[show k-k0+k0=k by omega]at this
    omega
   have e2:aR p (tk+(k-k0))=tk+(aR p k-k0):=(cg p _ hs').symm.trans e1
   simp only[bd,e1,cg p k [2,1],rz]
   refine⟨i1,i2,i3,by simp[i4],fun hr hn vs hv i=> ?_,fun sv hsv=> ?_⟩
   ·cases i with
    |zero=>
     have:=hv 0
     simp only[afW]at this⊢
     obtain⟨cs,hcs,hvv⟩:=this
     exact⟨cs,hcs,IB hr h3 hk (by omega) hvv⟩
    |succ i=>
     simp only[af0]
     have:=i5 hr hn (vs.drop 1) (fun j=>by have:=hv (j+1);simpa[afM,afU]using this) i
     simpa[afM,afU]using this
   ·simp only[afN]at hsv
    rcases hsv with rfl|hsv
    ·refine⟨fun c hc=> ?_,by simp[SV.bt],rfl⟩
     rcases kZ c hc with h|h|h
     ·exact .inl (.inl ⟨h.1,by simp[RK.pt,h.2]⟩)
     rotate_left
     ·exact .inl (.inr h)
     ·rw[e2]at h
      refine .inr ⟨h.1,by omega,fun hin=> ?_⟩
      simp only[iE]at hin
      rw[e2]at hin
      have:=uu c hin
      omega
    ·obtain⟨q1,q2,q3⟩:=i6 sv hsv
     simp only[iE]
     rw[e2]
     exact⟨fun c hc=>(q1 c hc).imp (fun h=>h.imp (fun h=>⟨h.1,by simp only[List.any_cons,h.2,Bool.or_true]⟩) id) (fun⟨r1,r2,r3⟩=>⟨by omega,r2,r3⟩),q2,q3⟩
 | .nbox τ p::rs,rest,y,k,hk,hs'=>by
   have n1:=bq p (k+1)
   have n2:=lS rs (aR p (k+1))
   obtain⟨i1,i2,i3,i4,i5,i6⟩:=Da h3 (rs:=rs) (rest:=rest) (y:=y.2) (k:=aR p (k+1)) (by omega) hs'
   have e1:(aV p (tk+(k-k0)+1) hs').2=tk+(aR p (k+1)-k0):=by
    rw[cg,show tk+(k-k0)+1=(k+1-k0)+tk by omega,dG]
    have:=dG p (k+1-k0) k0
    rw[show k+1-k0+k0=k+1 by omega]at this
    omega
   have e2:aR p (tk+(k-k0)+1)=tk+(aR p (k+1)-k0):=(cg p _ hs').symm.trans e1
   simp only[bd,e1,cg p (k+1) [2,1],oJ]
   refine⟨i1,i2,i3,by simp[i4],fun hr hn vs hv i=> ?_,fun sv hsv=> ?_⟩
   ·cases i with
    |zero=>
     have:=hv 0
     simp only[afW]at this⊢
     obtain⟨bk,c,el,g1,g2,g3,g4,g5,g6⟩:=this
     obtain⟨r1,r2⟩:=hr.own k hk (by omega)
     refine⟨bk,c,el,g1,by omega,r1.trans g3,r2 bk g4,g5,?_⟩
     have:=IB hr h3 (k:=k+1) (by omega) (by omega) g6
     rw[show tk+(k+1-k0)=tk+(k-k0)+1 by omega]at this
     exact this
    |succ i=>
     simp only[af0]
     have:=i5 hr hn (vs.drop 1) (fun j=>by have:=hv (j+1);simpa[afM,afU]using this) i
     simpa[afM,afU]using this
   ·simp only[afN]at hsv
    rcases hsv with rfl|hsv
    ·refine⟨fun c hc=> ?_,by simp[SV.bt,iE],rfl⟩
     rcases kZ c hc with h|h|h
     ·exact .inl (.inl ⟨h.1,by simp[RK.pt,h.2]⟩)
     rotate_left
     ·exact .inl (.inr h)
     ·rw[e2]at h
      refine .inr ⟨by omega,by omega,fun hin=> ?_⟩
      simp only[iE,afN]at hin
      rw[e2]at hin
      rcases hin with hin|hin
      ·omega
      ·have:=uu c hin
       omega
    ·obtain⟨q1,q2,q3⟩:=i6 sv hsv
     simp only[iE]
     rw[e2]
     refine⟨fun c hc=>(q1 c hc).imp (fun h=>h.imp (fun h=>⟨h.1,by simp only[List.any_cons,h.2,Bool.or_true]⟩) id) (fun⟨r1,r2,r3⟩=>⟨by omega,r2,?_⟩),fun c hc=>by simp[q2 c hc],q3⟩
     simp only[afN,not_or]
     exact⟨by omega,r3⟩
end
theorem ld:∀(l:List (Nat×Nat×TV)) (L:List SV),(bu l L).length=L.length
 | [],_=>rfl
 |(t,s,v)::l,L=>by simp only[bu];rw[ld l];simp
theorem we:∀(l:List (Nat×Nat×TV)) (L:List SV) (j:Nat),(bu l L).getD j .no=L.getD j .no∨∃t v,(t,j,v)∈l∧(bu l L).getD j .no= .box t v
 | [],_,_=> .inl rfl
 |(t,s,v)::l,L,j=>by
  simp only[bu]
  rcases we l (L.set s (.box t v)) j with h|⟨t',v',h1,h2⟩
  ·rw[h,dE]
   split
   ·rename_i e;obtain⟨rfl,_⟩:=e;exact .inr ⟨t,v,by simp,rfl⟩
   ·exact .inl rfl
  ·exact .inr ⟨t',v',by simp[h1],h2⟩
def fA:List (Nat×Nat×TV)→List SV→List SV
 | [],L=>L
 |(_,s,_)::l,L=>fA l (L.set s .no)
theorem A4:∀(l:List (Nat×Nat×TV)) {L L':List SV},L.length=L'.length→(∀j,(∀t v,(t,j,v)∉l)→L.getD j .no=L'.getD j .no)→bu l L=bu l L'
 | [],L,L',hl,h=>by
   refine List.ext_getElem hl (fun i h1 h2=> ?_)
   have:=h i (by simp)
   rw[afM,afM]at this
   simp only[bu]at h1 h2⊢
   rw[afY h1,afY h2]at this
   simpa using this
 |(t,s,v)::l,L,L',hl,h=>by
  simp only[bu]
  refine A4 l (by simpa using hl) (fun j hj=> ?_)
  rw[dE,dE,hl]
  by_cases e:j=s∧s<L'.length
  ·rw[if_pos e,if_pos e]
  ·rw[if_neg e,if_neg e]
   by_cases e2:j=s
   ·subst e2
    have hlt:¬j<L'.length:=fun hh=>e ⟨rfl,hh⟩
    rw[afM,afM,agq (by omega),agq (by omega)]
   ·refine h j (fun t' v' hin=> ?_)
    simp only[afN,afP]at hin
    rcases hin with⟨_,hin,_⟩|hin
    ·exact e2 hin
    ·exact hj t' v' hin
theorem Di:∀(l:List (Nat×Nat×TV)) (L:List SV),(fA l L).length=L.length
 | [],_=>rfl
 |(t,s,v)::l,L=>by simp only[fA];rw[Di l];simp
theorem qn:∀(l:List (Nat×Nat×TV)) (L:List SV) (j:Nat),(∀t v,(t,j,v)∉l)→(fA l L).getD j .no=L.getD j .no
 | [],_,_,_=>rfl
 |(t,s,v)::l,L,j,h=>by
  simp only[fA]
  rw[qn l _ j (fun t' v' hin=>h t' v' (by simp[hin])),dE,if_neg]
  rintro⟨rfl,_⟩
  exact h t v (by simp)
theorem sR:∀(l:List (Nat×Nat×TV)) (L:List SV) (j:Nat),(∃t v,(t,j,v)∈l)→(fA l L).getD j .no= .no∧True
 |(t,s,v)::l,L,j,⟨t',v',h⟩=>by
  simp only[fA]
  by_cases hin:∃t v,(t,j,v)∈l
  ·exact sR l _ j hin
  ·refine⟨?_,trivial⟩
   rw[qn l _ j (fun t v h=>hin ⟨t,v,h⟩),dE]
   simp only[afN,afP]at h
   rcases h with⟨_,rfl,_⟩|h
   ·split
    ·rfl
    ·rename_i e
     rw[afM,agq (by simp at e;omega)];rfl
   ·exact absurd ⟨t',v',h⟩ hin
theorem aaW (l:List (Nat×Nat×TV)) (L:List SV):bu l (fA l L)=bu l L:=
 A4 l (Di l L) (fun j hj=>qn l L j hj)
section
variable {P:Program} {C:Cx} {w0:World} {c0:C0} {U:Nat→Prop} {E:Env} {a:Act} {w:World} {G:Gh} {ops:List Oper} {g:Option (Nat×Bool)}
theorem Inv.Xg:∀(l:List (Nat×Nat×TV)) {E:Env},Inv w0 c0 U E a w G→Inv w0 c0 U {E with s:=fA l E.s} a w G
 | [],_,h=>h
 |(_,s,_)::l,E,h=>Inv.Xg l (E:={E with s:=E.s.set s .no}) (h.drop s)
theorem Inv.ZT:∀(l:List (Nat×Nat×TV)) {E:Env},Inv w0 c0 U E a w G→(∀t s v,(t,s,v)∈l→bU w G (.box t v) (a.tmps.getD s undef)∧bf U G (.box t v))→
 (l.map (·.1)).Pairwise (·≠·)→(∀t s v,(t,s,v)∈l→∀s' u,E.s.getD s' .no≠ .box t u)→Inv w0 c0 U {E with s:=bu l E.s} a w G
 | [],_,h,_,_,_=>h
 |(t,s,v)::l,E,h,h1,h2,h3=>by
  simp only[List.map_cons,ag4]at h2
  obtain⟨g1,g2⟩:=h1 t s v (by simp)
  refine Inv.ZT l (E:={E with s:=E.s.set s (.box t v)}) (h.ab0 s g1 g2 ?_) (fun t' s' v' hin=>h1 t' s' v' (by simp[hin])) h2.2 (fun t' s' v' hin s'' u he=> ?_)
  ·rintro t' u ⟨rfl,rfl⟩ s' u' _ he
   exact h3 t s v (by simp) s' u' he
  ·simp only[dE]at he
   split at he
   ·simp only[SV.box.injEq]at he
    exact h2.1 t' (afZ.2 ⟨(t',s',v'),hin,rfl⟩) he.1
   ·exact h3 t' s' v' (by simp[hin]) s'' u he
theorem AY (hI:Inv w0 c0 U E a w G) {k0 tk:Nat} {hs':List Nat}:∀ {ps:List PK} {as:List SV} {vals:List Value} {te i0:Nat} {r0:List (Nat×Nat)} {xs:aZ (ps.map PK.ty)} {rho bs:List (Nat×Nat)},
 br E.rd ps as te r0=some (xs,rho,bs)→(∀i,bU w G (as.getD i .no) (vals.getD i undef))→∀(R:aZ (bn ps)) (k:Nat),k0≤k→
 (∀t s v2,(t,s,v2)∈cK hs' ps R bs (tk+(k-k0))→∃te' i v1 p k1 v0,(te',i0+i,v1)∈cK [2,1] ps R (eD ps i0 te) k∧(t,te')∈rho∧te'∈cn ps te∧
  E.s.getD s .no= .box t v0∧vals.getD i undef=G.hdr t∧k≤k1∧aR p k1≤qL ps k∧v1=⟨v2.τ,v2.x,(aV p k1 [2,1]).1⟩∧v2.sh=(aV p (tk+(k1-k0)) hs').1∧(p.sH=true→C7 ps=true))∧
 (∀t s,(t,s)∈bs→∃v2,(t,s,v2)∈cK hs' ps R bs (tk+(k-k0)))
 | [],[],vals,te,i0,r0,xs,rho,bs,h,hs,R,k,hk=>by
   simp only[br,afL,afP]at h
   obtain⟨_,rfl,rfl⟩:=h
   simp[cK]
 | .val τ p::ps,.d v::as,vals,te,i0,r0,xs,rho,bs,h,hs,R,k,hk=>by
   simp only[br]at h
   split at h
   ·rename_i x xs' rho' bs' hx hg
    split at h
    ·simp only[afL,afP]at h
     obtain⟨_,rfl,rfl⟩:=h
     obtain⟨h1,h2⟩:=AY hI (k0:=k0) (tk:=tk) (hs':=hs') (i0:=i0+1) (vals:=vals.drop 1) hg (fun i=>by have:=hs (i+1);simpa[afM,afU]using this) R k hk
     refine⟨fun t s v2 hin=> ?_,fun t s hin=>h2 t s hin⟩
     obtain⟨te',i,v1,p',k1,v0,q1,q2,q3,q4,q5,q6,q7,q8,q9⟩:=h1 t s v2 hin
     exact⟨te',i+1,v1,p',k1,v0,by simp only[eD,cK];rw[show i0+(i+1)=i0+1+i by omega];exact q1,af2 _ q2,q3,q4,
      by rw[←q5];simp[afM,afU],q6,q7,q8,q9⟩
    ·cases h
   ·cases h
 | .io τ p::ps,sv::as,vals,te,i0,r0,xs,rho,bs,h,hs,R,k,hk=>by
   simp only[br]at h
   split at h
   ·rename_i t0 s0 v hb
    split at h
    ·rename_i x xs' rho' bs' hx hg
     split at h
     ·simp only[afL,afP]at h
      obtain⟨_,rfl,rfl⟩:=h
      have n1:=bq p k
      have e1:(aV p (tk+(k-k0)) hs').2=tk+(aR p k-k0):=by
       rw[cg,show tk+(k-k0)=(k-k0)+tk by omega,dG]
       have:=dG p (k-k0) k0
       rw[show k-k0+k0=k by omega]at this
       omega
      obtain⟨h1,h2⟩:=AY hI (k0:=k0) (tk:=tk) (hs':=hs') (i0:=i0+1) (vals:=vals.drop 1) hg (fun i=>by have:=hs (i+1);simpa[afM,afU]using this) R.2 (aR p k) (by omega)
      have hs0:=hs 0
      simp only[afW]at hs0
      obtain⟨hslot,bk,c,el,b1,b2,_⟩:=wW hI hb hs0
      refine⟨fun t s v2 hin=> ?_,fun t s hin=> ?_⟩
      ·simp only[cK,afN,afP]at hin
       rcases hin with⟨rfl,rfl,rfl⟩|hin
       ·refine⟨te,0,_,p,k,_,by simp only[eD,cK];exact List.mem_cons_self ..,by simp,by simp[cn],hslot,b2.symm,afR _,tw ps _,rfl,rfl,fun h=>by simp[C7,h]⟩
       ·rw[e1]at hin
        obtain⟨te',i,v1,p',k1,v0,q1,q2,q3,q4,q5,q6,q7,q8,q9⟩:=h1 t s v2 hin
        refine⟨te',i+1,v1,p',k1,v0,?_,by simp[q2],by simp only[cn];exact afT _ q3,q4,
         by rw[←q5];simp[afM,afU],by omega,q7,q8,q9.1,fun h=>by simp[C7,q9.2 h]⟩
        simp only[eD,cK,cg]
        rw[show i0+(i+1)=i0+1+i by omega]
        exact afT _ q1
      ·simp only[afN,afP]at hin
       simp only[cK,e1,afN,afP]
       rcases hin with⟨rfl,rfl⟩|hin
       ·exact⟨_,.inl ⟨rfl,rfl,rfl⟩⟩
       ·obtain⟨v2,hv2⟩:=h2 t s hin
        exact⟨v2,.inr hv2⟩
     ·cases h
    ·cases h
   ·cases h
 | .rd τ::ps,sv::as,vals,te,i0,r0,xs,rho,bs,h,hs,R,k,hk=>by
   simp only[br]at h
   split at h
   ·split at h
    ·rename_i x xs' rho' bs' hx hg
     split at h
     ·simp only[afL,afP]at h
      obtain⟨_,rfl,rfl⟩:=h
      obtain⟨h1,h2⟩:=AY hI (k0:=k0) (tk:=tk) (hs':=hs') (i0:=i0+1) (vals:=vals.drop 1) hg (fun i=>by have:=hs (i+1);simpa[afM,afU]using this) R k hk
      refine⟨fun t s v2 hin=> ?_,fun t s hin=>h2 t s hin⟩
      obtain⟨te',i,v1,p',k1,v0,q1,q2,q3,q4,q5,q6,q7,q8,q9⟩:=h1 t s v2 hin
      exact⟨te',i+1,v1,p',k1,v0,by simp only[eD,cK];rw[show i0+(i+1)=i0+1+i by omega];exact q1,af2 _ q2,q3,q4,
       by rw[←q5];simp[afM,afU],q6,q7,q8,q9⟩
     ·cases h
    ·cases h
   ·cases h
 | .vx e l::ps,.d v::as,vals,te,i0,r0,xs,rho,bs,h,hs,R,k,hk=>by
   simp only[br]at h
   split at h
   ·rename_i x xs' rho' bs' hx hg
    split at h
    ·simp only[afL,afP]at h
     obtain⟨_,rfl,rfl⟩:=h
     obtain⟨h1,h2⟩:=AY hI (k0:=k0) (tk:=tk) (hs':=hs') (i0:=i0+1) (vals:=vals.drop 1) hg (fun i=>by have:=hs (i+1);simpa[afM,afU]using this) R k hk
     refine⟨fun t s v2 hin=> ?_,fun t s hin=>h2 t s hin⟩
     obtain⟨te',i,v1,p',k1,v0,q1,q2,q3,q4,q5,q6,q7,q8,q9⟩:=h1 t s v2 hin
     exact⟨te',i+1,v1,p',k1,v0,by simp only[eD,cK];rw[show i0+(i+1)=i0+1+i by omega];exact q1,af2 _ q2,q3,q4,
      by rw[←q5];simp[afM,afU],q6,q7,q8,q9⟩
    ·cases h
   ·cases h
 | [],_::_,_,_,_,_,_,_,_,h,_,_,_,_| .val _ _::_,[],_,_,_,_,_,_,_,h,_,_,_,_| .io _ _::_,[],_,_,_,_,_,_,_,h,_,_,_,_| .rd _::_,[],_,_,_,_,_,_,_,h,_,_,_,_
 | .vx _ _::_,[],_,_,_,_,_,_,_,h,_,_,_,_=>by simp[br]at h
 | .val _ _::_,.no::_,_,_,_,_,_,_,_,h,_,_,_,_| .val _ _::_,.box _ _::_,_,_,_,_,_,_,_,h,_,_,_,_| .val _ _::_,.ptr ..::_,_,_,_,_,_,_,_,h,_,_,_,_| .val _ _::_,.ept ..::_,_,_,_,_,_,_,_,h,_,_,_,_
 | .val _ _::_,.rdp ..::_,_,_,_,_,_,_,_,h,_,_,_,_| .val _ _::_,.tup _::_,_,_,_,_,_,_,_,h,_,_,_,_| .val _ _::_,.g ..::_,_,_,_,_,_,_,_,h,_,_,_,_=>by simp[br]at h
 | .vx _ _::_,.no::_,_,_,_,_,_,_,_,h,_,_,_,_| .vx _ _::_,.box _ _::_,_,_,_,_,_,_,_,h,_,_,_,_| .vx _ _::_,.ptr ..::_,_,_,_,_,_,_,_,h,_,_,_,_| .vx _ _::_,.ept ..::_,_,_,_,_,_,_,_,h,_,_,_,_
 | .vx _ _::_,.rdp ..::_,_,_,_,_,_,_,_,h,_,_,_,_| .vx _ _::_,.tup _::_,_,_,_,_,_,_,_,h,_,_,_,_| .vx _ _::_,.g ..::_,_,_,_,_,_,_,_,h,_,_,_,_=>by simp[br]at h
theorem ov {rhoT:List (Nat×Nat)} {hs':List Nat} {R0:Rd}:∀ {ps:List PK} {as:List SV} {te:Nat} {r0:List (Nat×Nat)} {xs:aZ (ps.map PK.ty)} {rho bs:List (Nat×Nat)},
 br R0 ps as te r0=some (xs,rho,bs)→(∀c k,(c,k)∈rho→rhoT.lookup c=some k)→∀(R:aZ (bn ps)) (k':Nat),
 ((cK hs' ps R bs k').map (·.1)).Pairwise (·≠·)∧∀t∈(cK hs' ps R bs k').map (·.1),∃u,te≤u∧rhoT.lookup t=some u
 | [],[],te,r0,xs,rho,bs,h,hr,R,k'=>by
   simp only[br,afL,afP]at h
   obtain⟨_,rfl,rfl⟩:=h
   simp[cK]
 | .val τ p::ps,.d v::as,te,r0,xs,rho,bs,h,hr,R,k'=>by
   simp only[br]at h
   split at h
   ·rename_i x xs' rho' bs' hx hg
    split at h
    ·simp only[afL,afP]at h
     obtain⟨_,rfl,rfl⟩:=h
     obtain⟨h1,h2⟩:=ov hg (fun c k h=>hr c k (af2 _ h)) R k'
     exact⟨h1,fun t ht=>by obtain⟨u,q1,q2⟩:=h2 t ht;exact⟨u,agh (bq p te) q1,q2⟩⟩
    ·cases h
   ·cases h
 | .io τ p::ps,sv::as,te,r0,xs,rho,bs,h,hr,R,k'=>by
   simp only[br]at h
   split at h
   ·rename_i t0 s0 v hb
    split at h
    ·rename_i x xs' rho' bs' hx hg
     split at h
     ·simp only[afL,afP]at h
      obtain⟨_,rfl,rfl⟩:=h
      have n1:=bq p (te+1)
      have hpn:(aV p (te+1) []).2=aR p (te+1):=rfl
      obtain⟨h1,h2⟩:=ov hg (fun c k h=>hr c k (by simp[h])) R.2 (aV p k' hs').2
      have h0:=hr t0 te (by simp)
      simp only[cK,List.map_cons,ag4,afN]
      refine⟨⟨fun t ht e=> ?_,h1⟩,fun t ht=> ?_⟩
      ·obtain⟨u,q1,q2⟩:=h2 t ht
       rw[←e,h0]at q2
       simp only[afL]at q2
       omega
      ·rcases ht with rfl|ht
       ·exact⟨te,afR _,h0⟩
       ·obtain⟨u,q1,q2⟩:=h2 t ht
        exact⟨u,by omega,q2⟩
     ·cases h
    ·cases h
   ·cases h
 | .rd τ::ps,sv::as,te,r0,xs,rho,bs,h,hr,R,k'=>by
   simp only[br]at h
   split at h
   ·split at h
    ·rename_i x xs' rho' bs' hx hg
     split at h
     ·simp only[afL,afP]at h
      obtain⟨_,rfl,rfl⟩:=h
      exact ov hg (fun c k h=>hr c k (af2 _ h)) R k'
     ·cases h
    ·cases h
   ·cases h
 | .vx e l::ps,.d v::as,te,r0,xs,rho,bs,h,hr,R,k'=>by
   simp only[br]at h
   split at h
   ·rename_i x xs' rho' bs' hx hg
    split at h
    ·simp only[afL,afP]at h
     obtain⟨_,rfl,rfl⟩:=h
     exact ov hg (fun c k h=>hr c k (af2 _ h)) R k'
    ·cases h
   ·cases h
 | [],_::_,_,_,_,_,_,h,_,_,_| .val _ _::_,[],_,_,_,_,_,h,_,_,_| .io _ _::_,[],_,_,_,_,_,h,_,_,_| .rd _::_,[],_,_,_,_,_,h,_,_,_| .vx _ _::_,[],_,_,_,_,_,h,_,_,_=>by simp[br]at h
 | .val _ _::_,.no::_,_,_,_,_,_,h,_,_,_| .val _ _::_,.box _ _::_,_,_,_,_,_,h,_,_,_| .val _ _::_,.ptr ..::_,_,_,_,_,_,h,_,_,_| .val _ _::_,.ept ..::_,_,_,_,_,_,h,_,_,_
 | .val _ _::_,.rdp ..::_,_,_,_,_,_,h,_,_,_| .val _ _::_,.tup _::_,_,_,_,_,_,h,_,_,_| .val _ _::_,.g ..::_,_,_,_,_,_,h,_,_,_=>by simp[br]at h
 | .vx _ _::_,.no::_,_,_,_,_,_,h,_,_,_| .vx _ _::_,.box _ _::_,_,_,_,_,_,h,_,_,_| .vx _ _::_,.ptr ..::_,_,_,_,_,_,h,_,_,_| .vx _ _::_,.ept ..::_,_,_,_,_,_,h,_,_,_
 | .vx _ _::_,.rdp ..::_,_,_,_,_,_,h,_,_,_| .vx _ _::_,.tup _::_,_,_,_,_,_,h,_,_,_| .vx _ _::_,.g ..::_,_,_,_,_,_,h,_,_,_=>by simp[br]at h
theorem rF (hI:Inv w0 c0 U E a w G) {hs':List Nat}:∀ {ps:List PK} {as:List SV} {vals:List Value} {te i0:Nat} {r0:List (Nat×Nat)} {xs:aZ (ps.map PK.ty)} {rho bs:List (Nat×Nat)},
 br E.rd ps as te r0=some (xs,rho,bs)→(∀i,bU w G (as.getD i .no) (vals.getD i undef))→∀(R:aZ (bn ps)) (k:Nat) (j:Nat) (t s:Nat),bs[j]?=some (t,s)→
 ∃te' i v0 v2 τ,(eD ps i0 te)[j]?=some (te',i0+i)∧(bn ps)[j]?=some τ∧(cK hs' ps R bs k)[j]?=some (t,s,v2)∧v2.τ=τ∧E.rd.box t=some (s,v0)∧v0.τ=τ∧vals.getD i undef=G.hdr t
 | [],[],vals,te,i0,r0,xs,rho,bs,h,hs,R,k,j,t,s,hj=>by
   simp only[br,afL,afP]at h
   obtain⟨_,rfl,rfl⟩:=h
   simp at hj
 | .val τ p::ps,.d v::as,vals,te,i0,r0,xs,rho,bs,h,hs,R,k,j,t,s,hj=>by
   simp only[br]at h
   split at h
   ·rename_i x xs' rho' bs' hx hg
    split at h
    ·simp only[afL,afP]at h
     obtain⟨_,rfl,rfl⟩:=h
     obtain⟨te',i,v0,v2,τ',q1,q2,q3,q4,q5,q6,q7⟩:=rF hI (hs':=hs') (i0:=i0+1) (vals:=vals.drop 1) hg (fun i=>by have:=hs (i+1);simpa[afM,afU]using this) R k j t s hj
     exact⟨te',i+1,v0,v2,τ',by simp only[eD];rw[show i0+(i+1)=i0+1+i by omega];exact q1,q2,q3,q4,q5,q6,by rw[←q7];simp[afM,afU]⟩
    ·cases h
   ·cases h
 | .io τ p::ps,sv::as,vals,te,i0,r0,xs,rho,bs,h,hs,R,k,j,t,s,hj=>by
   simp only[br]at h
   split at h
   ·rename_i t0 s0 v hb
    split at h
    ·rename_i x xs' rho' bs' hx hg
     split at h
     ·simp only[afL,afP]at h
      obtain⟨_,rfl,rfl⟩:=h
      have hs0:=hs 0
      simp only[afW]at hs0
      obtain⟨hslot,bk,c,el,b1,b2,_⟩:=wW hI hb hs0
      have hbox:E.rd.box t0=some (s0,v):=by
       unfold oC at hb
       split at hb
       ·rw[af1]at hb
        obtain⟨r,hr,hb⟩:=hb
        simp only[afP]at hb
        obtain⟨rfl,rfl,rfl⟩:=hb
        exact hr
       ·cases hb
      have hτ:v.τ=τ:=by
       have e:=cV hx
       rw[e]
      cases j with
      |zero=>
       simp only[agW,afL,afP]at hj
       obtain⟨rfl,rfl⟩:=hj
       exact⟨te,0,v,⟨τ,R.1,(aV p k hs').1⟩,τ,by simp[eD],by simp[bn],by simp only[cK,agW],rfl,hbox,hτ,b2.symm⟩
      |succ j=>
       simp only[agt]at hj
       obtain⟨te',i,v0,v2,τ',q1,q2,q3,q4,q5,q6,q7⟩:=rF hI (hs':=hs') (i0:=i0+1) (vals:=vals.drop 1) hg (fun i=>by have:=hs (i+1);simpa[afM,afU]using this) R.2 (aV p k hs').2 j t s hj
       exact⟨te',i+1,v0,v2,τ',by simp only[eD,agt];rw[show i0+(i+1)=i0+1+i by omega];exact q1,by simp only[bn,agt];exact q2,
        by simp only[cK,agt];exact q3,q4,q5,q6,by rw[←q7];simp[afM,afU]⟩
     ·cases h
    ·cases h
   ·cases h
 | .rd τ::ps,sv::as,vals,te,i0,r0,xs,rho,bs,h,hs,R,k,j,t,s,hj=>by
   simp only[br]at h
   split at h
   ·split at h
    ·rename_i x xs' rho' bs' hx hg
     split at h
     ·simp only[afL,afP]at h
      obtain⟨_,rfl,rfl⟩:=h
      obtain⟨te',i,v0,v2,τ',q1,q2,q3,q4,q5,q6,q7⟩:=rF hI (hs':=hs') (i0:=i0+1) (vals:=vals.drop 1) hg (fun i=>by have:=hs (i+1);simpa[afM,afU]using this) R k j t s hj
      exact⟨te',i+1,v0,v2,τ',by simp only[eD];rw[show i0+(i+1)=i0+1+i by omega];exact q1,q2,q3,q4,q5,q6,by rw[←q7];simp[afM,afU]⟩
     ·cases h
    ·cases h
   ·cases h
 | .vx e l::ps,.d v::as,vals,te,i0,r0,xs,rho,bs,h,hs,R,k,j,t,s,hj=>by
   simp only[br]at h
   split at h
   ·rename_i x xs' rho' bs' hx hg
    split at h
    ·simp only[afL,afP]at h
     obtain⟨_,rfl,rfl⟩:=h
     obtain⟨te',i,v0,v2,τ',q1,q2,q3,q4,q5,q6,q7⟩:=rF hI (hs':=hs') (i0:=i0+1) (vals:=vals.drop 1) hg (fun i=>by have:=hs (i+1);simpa[afM,afU]using this) R k j t s hj
     exact⟨te',i+1,v0,v2,τ',by simp only[eD];rw[show i0+(i+1)=i0+1+i by omega];exact q1,q2,q3,q4,q5,q6,by rw[←q7];simp[afM,afU]⟩
    ·cases h
   ·cases h
 | [],_::_,_,_,_,_,_,_,_,h,_,_,_,_,_,_,_| .val _ _::_,[],_,_,_,_,_,_,_,h,_,_,_,_,_,_,_| .io _ _::_,[],_,_,_,_,_,_,_,h,_,_,_,_,_,_,_| .rd _::_,[],_,_,_,_,_,_,_,h,_,_,_,_,_,_,_
 | .vx _ _::_,[],_,_,_,_,_,_,_,h,_,_,_,_,_,_,_=>by simp[br]at h
 | .val _ _::_,.no::_,_,_,_,_,_,_,_,h,_,_,_,_,_,_,_| .val _ _::_,.box _ _::_,_,_,_,_,_,_,_,h,_,_,_,_,_,_,_| .val _ _::_,.ptr ..::_,_,_,_,_,_,_,_,h,_,_,_,_,_,_,_
 | .val _ _::_,.ept ..::_,_,_,_,_,_,_,_,h,_,_,_,_,_,_,_| .val _ _::_,.rdp ..::_,_,_,_,_,_,_,_,h,_,_,_,_,_,_,_| .val _ _::_,.tup _::_,_,_,_,_,_,_,_,h,_,_,_,_,_,_,_
 | .val _ _::_,.g ..::_,_,_,_,_,_,_,_,h,_,_,_,_,_,_,_| .vx _ _::_,.no::_,_,_,_,_,_,_,_,h,_,_,_,_,_,_,_| .vx _ _::_,.box _ _::_,_,_,_,_,_,_,_,h,_,_,_,_,_,_,_
 | .vx _ _::_,.ptr ..::_,_,_,_,_,_,_,_,h,_,_,_,_,_,_,_| .vx _ _::_,.ept ..::_,_,_,_,_,_,_,_,h,_,_,_,_,_,_,_| .vx _ _::_,.rdp ..::_,_,_,_,_,_,_,_,h,_,_,_,_,_,_,_
 | .vx _ _::_,.tup _::_,_,_,_,_,_,_,_,h,_,_,_,_,_,_,_| .vx _ _::_,.g ..::_,_,_,_,_,_,_,_,h,_,_,_,_,_,_,_=>by simp[br]at h
theorem rf:∀ {τ:Ty} {x:τ.den} {sh:Sh} {cs:List Value} {p:List Bool} {t:Nat},bg w G τ x sh cs→j9 sh p=some t→cs[τ.off p]?=some (G.hdr t)∧4≤t∧t∈sh.aE
 | .sl e,l,.sl (.row u hs nd),cs,[],t,h,hr=>by
   simp only[j9,afL]at hr
   subst hr
   obtain⟨v,rfl,h3,hh,_⟩:=h
   exact⟨by simp[Ty.off,hh],h3,by simp[Sh.aE,M.aE]⟩
 | .pair a b,x,.pair s1 s2,cs,false::p,t,h,hr=>by
   obtain⟨c1,c2,rfl,h1,h2⟩:=h
   simp only[j9]at hr
   obtain⟨q1,q2,q3⟩:=rf h1 hr
   refine⟨?_,q2,by simp[Sh.aE,q3]⟩
   simp only[Ty.off]
   rw[List.getElem?_append_left]
   ·exact q1
   ·rcases Nat.lt_or_ge (a.off p) c1.length with h|h
    ·exact h
    ·rw[agq h]at q1;cases q1
 | .pair a b,x,.pair s1 s2,cs,true::p,t,h,hr=>by
   obtain⟨c1,c2,rfl,h1,h2⟩:=h
   simp only[j9]at hr
   obtain⟨q1,q2,q3⟩:=rf h2 hr
   refine⟨?_,q2,by simp[Sh.aE,q3]⟩
   have hl:c1.length=a.sz:=bg.len h1
   simp only[Ty.off]
   rw[List.getElem?_append_right (by omega),show a.sz+b.off p-c1.length=b.off p by omega]
   exact q1
 | .int _,_,.sl _,_,_,_,h,_| .bool,_,.sl _,_,_,_,h,_| .str,_,.sl _,_,_,_,h,_| .pair _ _,_,.sl _,_,_,_,h,_| .int _,_,.pair _ _,_,_,_,h,_| .bool,_,.pair _ _,_,_,_,h,_
 | .str,_,.pair _ _,_,_,_,h,_| .sl _,_,.pair _ _,_,_,_,h,_=>h.elim
 |_,_,.leaf,_,_,_,_,h=>by simp[j9]at h
 |_,_,.sl (.sha _),_,_,_,_,h|_,_,.sl .dead,_,_,_,_,h=>by simp[j9]at h
 |_,_,.sl (.row _ _ _),_,_::_,_,_,h=>by simp[j9]at h
 |_,_,.pair _ _,_,[],_,_,h=>by simp[j9]at h
end
theorem RU:∀ {L:List SV} {vs:List TV},qh L=some vs→L.length=vs.length∧∀i v,vs[i]?=some v→L.getD i .no= .d v
 | [],vs,h=>by simp only[qh,afL]at h;subst h;simp
 | .d v::L,vs,h=>by
   simp only[qh,af1]at h
   obtain⟨vs',h1,rfl⟩:=h
   obtain⟨g1,g2⟩:=RU h1
   refine⟨by simp[g1],fun i v' hi=> ?_⟩
   cases i with
   |zero=>simp at hi⊢;exact hi
   |succ i=>simp at hi;simpa using g2 i v' hi
 | .no::_,_,h| .box _ _::_,_,h| .ptr ..::_,_,h| .ept ..::_,_,h| .rdp ..::_,_,h| .tup _::_,_,h| .g ..::_,_,h=>by simp[qh]at h
theorem RC:∀ {L:List SV} {vs:List TV},qh L=some vs→∀v∈vs,SV.d v∈L
 | [],vs,h,v,hv=>by simp only[qh,afL]at h;subst h;simp at hv
 | .d u::L,vs,h,v,hv=>by
   simp only[qh,af1]at h
   obtain⟨vs',h1,rfl⟩:=h
   simp only[afN]at hv
   rcases hv with rfl|hv
   ·simp
   ·exact afT _ (RC h1 v hv)
 | .no::_,_,h,_,_| .box _ _::_,_,h,_,_| .ptr ..::_,_,h,_,_| .ept ..::_,_,h,_,_| .rdp ..::_,_,h,_,_| .tup _::_,_,h,_,_| .g ..::_,_,h,_,_=>by simp[qh]at h
section
variable {P:Program} {C:Cx} {w0:World} {c0:C0} {U:Nat→Prop} {E:Env} {a:Act} {w:World} {G:Gh} {ops:List Oper} {g:Option (Nat×Bool)}
theorem Jm (L:List SV):(∃sv,L=[sv]∧lY L=sv)∨(∀sv,L≠ [sv])∧((∃vs,qh L=some vs∧lY L= .tup vs)∨lY L= .no):=by
 match L with
 | [sv]=>exact .inl ⟨sv,rfl,rfl⟩
 | []=>exact .inr ⟨by simp,.inl ⟨[],rfl,rfl⟩⟩
 |x::y::l=>
  refine .inr ⟨by simp,?_⟩
  cases h:qh (x::y::l)with
  |none=>right;simp[lY,h]
  |some vs=>left;exact⟨vs,rfl,by simp[lY,h]⟩
theorem aaN {vs:List Value} (h:∀v,vs≠ [v]):wD vs= .tuple vs.toArray:=by
 match vs,h with
 | [],_=>rfl
 | [v],h=>exact absurd rfl (h v)
 |_::_::_,_=>rfl
theorem ab6 {L:List SV} {vs:List Value} (hl:vs.length=L.length) (h:∀i,bU w G (L.getD i .no) (vs.getD i undef)):bU w G (lY L) (wD vs):=by
 rcases Jm L with⟨sv,rfl,e⟩|⟨hn,⟨ts,h1,e⟩|e⟩
 ·rw[e]
  have:=h 0
  match vs,hl with
  | [v],_=>simpa[wD]using this
 ·rw[e,aaN (fun v hv=>by
   subst hv
   simp only[agZ]at hl
   match L,hl with
   | [sv],_=>exact hn sv rfl)]
  obtain⟨g1,g2⟩:=RU h1
  refine⟨vs,rfl,by omega,fun i v hi=> ?_⟩
  have hs:=h i
  rw[g2 i v hi]at hs
  obtain⟨cs,k1,k2⟩:=hs
  have hlt:i<vs.length:=by
   have:=(agB.1 hi).1
   omega
  rw[afM,afY hlt]at k1
  exact⟨_,cs,afY hlt,k1,k2⟩
 ·rw[e];trivial
theorem YU {L:List SV} (h:∀sv∈L,bf U G sv):bf U G (lY L):=by
 rcases Jm L with⟨sv,rfl,e⟩|⟨_,⟨ts,h1,e⟩|e⟩
 ·rw[e];exact h sv (by simp)
 ·rw[e]
  refine⟨fun c hc=> ?_,by simp[SV.bt],by simp[SV.rt]⟩
  simp only[SV.sc,ags]at hc
  obtain⟨v,hv,hc⟩:=hc
  exact(h _ (RC h1 v hv)).1 c hc
 ·rw[e];simp[bf,SV.sc,SV.bt,SV.rt]
def qP (G G1 G':Gh) (n k0 tk:Nat) (bx:List Nat):Gh:=
 ⟨fun b=>if 4≤G'.col b then(if k0≤G'.col b∧G'.col b<k0+32 then tk+(G'.col b-k0)else if b<n then G.col b else 0)
  else if G'.col b=2 then 2 else if G'.col b=1∨G'.col b=3 then G.col b else if b<n∧G1.col b=0 then G.col b else 0,
  fun u=>if tk≤u∧u<tk+32 then G'.hdr (k0+(u-tk))else G.hdr u,
  fun u=>if tk≤u∧u<tk+32 then bx.contains u else G.bx u⟩
theorem XZ (G G1 G':Gh) (n k0 tk:Nat) (bx:List Nat) (b:Nat):
 (k0≤G'.col b∧G'.col b<k0+32∧4≤G'.col b∧(qP G G1 G' n k0 tk bx).col b=tk+(G'.col b-k0))∨
 (4≤G'.col b∧b<n∧(qP G G1 G' n k0 tk bx).col b=G.col b∧¬(k0≤G'.col b∧G'.col b<k0+32))∨
 (4≤G'.col b∧(qP G G1 G' n k0 tk bx).col b=0)∨(G'.col b=2∧(qP G G1 G' n k0 tk bx).col b=2)∨((G'.col b=1∨G'.col b=3)∧(qP G G1 G' n k0 tk bx).col b=G.col b)∨
 (G'.col b=0∧b<n∧G1.col b=0∧(qP G G1 G' n k0 tk bx).col b=G.col b)∨(G'.col b=0∧(qP G G1 G' n k0 tk bx).col b=0∧¬(b<n∧G1.col b=0)):=by
 simp only[qP]
 by_cases h3:4≤G'.col b
 ·simp only[h3,if_true,true_and]
  by_cases h:k0≤G'.col b∧G'.col b<k0+32
  ·simp only[h,and_self,if_true];left;trivial
  ·simp only[h,if_false]
   by_cases hb:b<n
   ·right;left;simp[hb]
   ·right;right;left;simp[hb]
 ·simp only[h3,if_false,false_and,and_false,false_or]
  by_cases h2:G'.col b=2
  ·simp[h2]
  ·by_cases h1:G'.col b=1∨G'.col b=3
   ·rcases h1 with h1|h1<;>simp[h1]
   ·have h0:G'.col b=0:=by omega
    have h1':¬(0=1∨0=3):=by omega
    by_cases hb:b<n∧G1.col b=0
    ·simp[h0,hb]
    ·simp[h0,hb]
theorem adG (hI:Inv w0 c0 U E a w G) {con:rk} {as:List SV} {vals:List Value} {xs:aZ (con.ps.map PK.ty)} {rho bs:List (Nat×Nat)}
 (hcon:TY con.ps con.rs=true) (hg:br E.rd con.ps as 4 []=some (xs,rho,bs)) (hs:∀i,bU w G (as.getD i .no) (vals.getD i undef)∧bf U G (as.getD i .no)) (hr:Gl rho=true)
 {G1:Gh} (hG1:∀b,G1.col b=(rho.lookup (G.col b)).getD 0) {y:aZ (con.rs.map RK.ty++bn con.ps)} {mv:Value} {w':World} {G':Gh} {vs:List Value} {nt:Nat} (hp:xc con w G1 vals y mv w' G' vs nt)
 {tk:Nat} (h3:4≤tk) (hU:∀u,tk≤u→u<tk+32→¬U u) (h32:qL con.ps (di con.rs 0)≤32) {hs' tks:List Nat}
 (hhs:hs'=(2::(rho.filter (·.2=1)).map (·.1)).eraseDups) (htks:tks=((rho.filter (4≤·.2)).map (·.1)).filter fun c=> !bs.any (·.1=c)):
 ∃G2,Inv w0 c0 (fun u=>U u∨(tk≤u∧u<tk+32)) {E.kill tks with s:=bu (cK hs' con.ps (bd con.rs (bn con.ps) y tk hs').2.1 bs (bd con.rs (bn con.ps) y tk hs').2.2) (E.kill tks).s} a w' G2∧
  bU w' G2 (lY (bd con.rs (bn con.ps) y tk hs').1) mv∧bf (fun u=>U u∨(tk≤u∧u<tk+32)) G2 (lY (bd con.rs (bn con.ps) y tk hs').1)∧
  (∀t u,lY (bd con.rs (bn con.ps) y tk hs').1= .box t u→∀s u',
   (bu (cK hs' con.ps (bd con.rs (bn con.ps) y tk hs').2.1 bs (bd con.rs (bn con.ps) y tk hs').2.2) (E.kill tks).s).getD s .no≠ .box t u')∧
  (∀u u',(u,u')∈zA E.rd bs (cK hs' con.ps (bd con.rs (bn con.ps) y tk hs').2.1 bs (bd con.rs (bn con.ps) y tk hs').2.2) con.kp→
   G2.hdr u'=G.hdr u∧4≤u'∧Good (fun u=>U u∨(tk≤u∧u<tk+32)) G2 u')∧
  (∀t s v,(t,s,v)∈cK hs' con.ps (bd con.rs (bn con.ps) y tk hs').2.1 bs (bd con.rs (bn con.ps) y tk hs').2.2→∃v0,E.s.getD s .no= .box t v0):=by
 obtain⟨hl,_,hin0⟩:=rl hI hg hs (afR _)
 have hin:∀c k,(c,k)∈rho→TU U G con.ps 4 bs c k:=fun c k h=>(hin0 c k h).resolve_right (by simp)
 have hk0:=fp con.ps 4
 generalize hk:bI con.ps 4=k0 at hk0
 have hin':∀c k,(c,k)∈rho→(k=1∧0<c∧U c∧(G.bx c=false∨KD con.ps=true))∨(4≤k∧k<k0∧4≤c∧((Good U G c∧k∉cn con.ps 4)∨(k∈cn con.ps 4∧U c∧G.bx c=true∧∃s,(c,s)∈bs)))∨(c=3∧k=3):=by
  intro c k h
  have:=hin c k h
  rw[←hk];exact this
 generalize hG2:qP G G1 G' w.heap.size k0 tk (iE con.rs tk)=G2
 have hcs:=fun b=>XZ G G1 G' w.heap.size k0 tk (iE con.rs tk) b
 rw[hG2]at hcs
 have hsc:=Da (w':=w') (G':=G') (G2:=G2) (k0:=k0) (n:=k0+32) h3 (rs:=con.rs) (rest:=bn con.ps) (y:=y) (k:=k0) (afR _) hs'
 simp only[agT,agU]at hsc
 obtain⟨sc1,sc2,sc3,sc4,sc5,sc6⟩:=hsc
 have hnt1:di con.rs k0=di con.rs 0+k0:=by have:=ug con.rs 0 k0;rwa [agC]at this
 have hnt2:qL con.ps (di con.rs k0)=qL con.ps (di con.rs 0)+k0:=by rw[hnt1];exact Co _ _ _
 have hge1:=tw con.ps (di con.rs k0)
 have hge2:=lS con.rs k0
 have hnot:∀u,U u→¬(tk≤u∧u<tk+32):=fun u hu h=>hU u h.1 h.2 hu
 have hG2h:∀u,U u→G2.hdr u=G.hdr u:=fun u hu=>by rw[←hG2];exact if_neg (hnot u hu)
 have hG2b:∀u,U u→G2.bx u=G.bx u:=fun u hu=>by rw[←hG2];exact if_neg (hnot u hu)
 have hcol1:∀b,(G1.col b=0)∨(G1.col b=1∧(G.col b,1)∈rho)∨(4≤G1.col b∧G1.col b<k0∧(G.col b,G1.col b)∈rho∧4≤G.col b)∨(G1.col b=3∧G.col b=3):=by
  intro b
  rw[hG1 b]
  cases hq:rho.lookup (G.col b)with
  |none=>left;simp
  |some k=>
   simp only[aga]
   have hm:=fJ hq
   rcases hin' _ _ hm with⟨rfl,_⟩|⟨q1,q2,q3,_⟩|⟨q1,q2⟩
   ·exact .inr (.inl ⟨rfl,hm⟩)
   ·exact .inr (.inr (.inl ⟨q1,q2,hm,q3⟩))
   ·exact .inr (.inr (.inr ⟨q2,q1⟩))
 have hRec:Yl G' G2 k0 (k0+32) tk hs':=by
  refine⟨fun u hu hu2=>⟨?_,fun b hb=> ?_⟩,fun b hb=> ?_,fun b hb=> ?_,fun e=> ?_⟩
  rotate_right
  ·have h2:2∈hs':=by rw[hhs,agv];simp
   rw[e]at h2;simp at h2
  ·rw[←hG2]
   simp only[qP]
   rw[if_pos (by omega)]
   congr 1;omega
  ·rcases hcs b with⟨_,_,_,h⟩|⟨q1,q2,q3,q4⟩|⟨q1,q2⟩|h|h|h|h
   ·rw[h,hb]
   ·omega
   ·rw[←hG2]
    simp only[qP]
    rw[if_pos q1,if_pos (by omega),hb]
   ·omega
   ·omega
   ·omega
   ·omega
  ·rw[hhs,agv]
   simp only[afN,af5,or_false]at hb
   rcases hb with hb|hb
   ·have:G2.col b=2:=by
     rcases hcs b with h|h|h|h|h|h|h<;>omega
    simp[this]
   ·have h1:=(hp.one b (.inl hb)).2
    have:G2.col b=G.col b:=by
     rcases hcs b with h|h|h|h|h|h|h<;>omega
    rw[this]
    rcases hcol1 b with h|⟨_,h⟩|h|h
    ·omega
    ·refine afT _ (afZ.2 ⟨(G.col b,1),?_,rfl⟩)
     simp[h]
    ·omega
    ·omega
  ·have h1:=(hp.one b (.inr hb)).2
   rcases hcol1 b with h|h|h|h
   ·omega
   ·omega
   ·omega
   ·rcases hcs b with h'|h'|h'|h'|h'|h'|h'<;>omega
 have hts:∀c,c∈tks→Good U G c∧4≤c∧∀s,(c,s)∉bs:=by
  intro c hc
  rw[htks]at hc
  simp only[agd,afZ,af4,ag6,decide_eq_true_eq]at hc
  obtain⟨⟨⟨c',k⟩,⟨h1,h2⟩,rfl⟩,h4⟩:=hc
  have h4':∀s,(c',s)∉bs:=fun s h=>h4 (c',s) h rfl
  rcases hin' _ _ h1 with⟨rfl,_⟩|⟨_,_,h5,⟨h6,_⟩|⟨_,_,_,s,h6⟩⟩|⟨_,rfl⟩
  rotate_right
  ·simp at h2
  ·simp at h2
  ·exact⟨h6,h5,h4'⟩
  ·exact absurd h6 (h4' s)
 have htaken:∀b,4≤G1.col b→G.col b∈tks∨∃s,(G.col b,s)∈bs:=by
  intro b hb
  rcases hcol1 b with h|⟨h,_⟩|⟨_,_,h,_⟩|⟨h,_⟩
  rotate_right
  ·omega
  ·omega
  ·omega
  ·by_cases hbs:∃s,(G.col b,s)∈bs
   ·exact .inr hbs
   ·left
    rw[htks]
    simp only[agd,afZ,af4,ag6,decide_eq_true_eq]
    refine⟨⟨(G.col b,G1.col b),⟨h,hb⟩,rfl⟩,fun p hp e=>hbs ⟨p.2,?_⟩⟩
    rw[←e];exact hp
 obtain⟨rel1,rel2⟩:=AY hI (k0:=k0) (tk:=tk) (hs':=hs') (i0:=0) hg (fun i=>(hs i).1) (bd con.rs (bn con.ps) y k0 [2,1]).2.1 (di con.rs k0) hge2
 have hpw:=(ov (hs':=hs') (rhoT:=rho) hg (fun c k h=>Dd hr h) (bd con.rs (bn con.ps) y k0 [2,1]).2.1 (tk+(di con.rs k0-k0))).1
 rw[sc1,sc2]
 generalize hio:cK hs' con.ps (bd con.rs (bn con.ps) y k0 [2,1]).2.1 bs (tk+(di con.rs k0-k0))=IO at rel1 rel2 hpw⊢
 have hbs:∀t s,(t,s)∈bs→∃v0,E.s.getD s .no= .box t v0:=by
  intro t s h
  obtain⟨v2,h2⟩:=rel2 t s h
  obtain⟨te',i,v1,p,k1,v0,_,_,_,q4,_⟩:=rel1 t s v2 h2
  exact⟨v0,q4⟩
 have hK:=hI.kill tks
 have hD:=hK.Xg IO
 have hDget:∀s,(fA IO (E.kill tks).s).getD s .no=(E.kill tks).s.getD s .no∨(fA IO (E.kill tks).s).getD s .no= .no:=by
  intro s
  by_cases h:∃t v,(t,s,v)∈IO
  ·exact .inr (sR IO _ s h).1
  ·exact .inl (qn IO _ s (fun t v hh=>h ⟨t,v,hh⟩))
 have hhc:∀s,∀c∈((fA IO (E.kill tks).s).getD s .no).hc,c∉tks++bs.map (·.1):=by
  intro s c hc hin2
  have hsn:(fA IO (E.kill tks).s).getD s .no=(E.kill tks).s.getD s .no:=by
   rcases hDget s with h|h
   ·exact h
   ·rw[h]at hc;simp[SV.hc,SV.sc]at hc
  have hnb:∀t v,(t,s,v)∉IO:=by
   intro t v h
   have:=(sR IO (E.kill tks).s s ⟨t,v,h⟩).1
   rw[this]at hc;simp[SV.hc,SV.sc]at hc
  rw[hsn]at hc
  have hsc':c∈((E.kill tks).s.getD s .no).sc→False:=by
   intro h
   rcases afO.1 hin2 with h2|h2
   ·exact(Env.Ag E tks s c h).2 h2
   ·simp only[afZ]at h2
    obtain⟨⟨t,s2⟩,h2,rfl⟩:=h2
    obtain⟨v0,h4⟩:=hbs t s2 h2
    have h5:=hI.bt s2 t (by rw[h4];simp[SV.bt])
    have h6:=hK.sc s t h
    rw[h6.2.2]at h5;simp at h5
  cases hsv:(E.kill tks).s.getD s .no with
  |box t v=>
   rw[hsv]at hc
   rcases afN.1 hc with rfl|hc
   ·have h5:=hK.bt s c (by rw[hsv];simp[SV.bt])
    rcases afO.1 hin2 with h2|h2
    ·rw[(hts c h2).1.2.2]at h5;simp at h5
    ·simp only[afZ]at h2
     obtain⟨⟨t,s2⟩,h2,rfl⟩:=h2
     obtain⟨v2,h7⟩:=rel2 t s2 h2
     obtain⟨v0,h4⟩:=hbs t s2 h2
     have h8:∃v',E.s.getD s .no= .box t v':=by
      rw[Env.C5]at hsv
      split at hsv
      ·exact⟨v,hsv⟩
      ·exact CZ hsv
     obtain⟨v',h8⟩:=h8
     have:=hI.uni s s2 t v' v0 h8 h4
     subst this
     exact hnb t v2 h7
   ·exact hsc' (by rw[hsv];exact hc)
  |_=>rw[hsv]at hc;exact hsc' (by rw[hsv];exact hc)
 have hsame:∀b,0<G.col b→G.col b∉tks++bs.map (·.1)→w'.heap[b]?=w.heap[b]?∧G2.col b=G.col b:=by
  intro b hb hn
  have hlt:=hI.lt b hb
  have h1:G1.col b<4:=by
   rcases Nat.lt_or_ge (G1.col b) 4 with h|h
   ·exact h
   ·exfalso
    rcases htaken b h with h|⟨s,h⟩
    ·exact hn (agy _ h)
    ·exact hn (af2 _ (afZ.2 ⟨_,h,rfl⟩))
  have hf:=hp.frame b hlt h1
  refine⟨hf.2,?_⟩
  have h2:G1.col b≠2:=by rcases hcol1 b with h|h|h|h<;>omega
  rcases hcs b with h|h|h|h|h|h|h<;>omega
 have hframe:∀b,b<w0.heap.size→c0.col b<4→G2.col b=c0.col b∧w'.heap[b]?=w0.heap[b]?:=by
  intro b hb hc
  have hf:=hI.frame b hb hc
  have hlt:b<w.heap.size:=agL hb hI.size
  have h1:G1.col b<4∧G1.col b≠2:=by rcases hcol1 b with h|h|h|h<;>omega
  have hf2:=hp.frame b hlt h1.1
  refine⟨?_,hf2.2.trans hf.2⟩
  rw[←hf.1]
  rcases hcs b with h|h|h|h|h|h|h<;>omega
 have hC:=hD.change (U':=fun u=>U u∨(tk≤u∧u<tk+32)) (w':=w') (G':=G2) hhc hsame (fun t ht=>⟨hG2h t ht,hG2b t ht⟩) (fun c hc=> .inl hc)
  (fun b hb=>by
   rcases hcs b with h|⟨_,_,h,_⟩|h|⟨_,h⟩|⟨_,h⟩|⟨_,_,_,h⟩|h
   ·right;omega
   ·rw[h]at hb⊢;exact .inl (hI.colU b hb)
   ·omega
   ·rw[h];exact .inl hI.two.1.1
   ·rw[h]at hb⊢;exact .inl (hI.colU b hb)
   ·rw[h]at hb⊢;exact .inl (hI.colU b hb)
   ·omega)
  (fun b hb=>by
   rcases hcs b with h|h|h|h|h|h|h
   ·exact hp.lt b (by omega)
   ·exact hp.lt b (by omega)
   ·exact hp.lt b (by omega)
   ·exact hp.lt b (by omega)
   ·exact hp.lt b (by omega)
   ·exact agL h.2.1 hp.size
   ·omega)
  (fun b hb=>by
   rcases hcs b with h|h|h|h|h|h|h
   ·exact hp.fresh b (by omega)
   ·exact hp.fresh b (by omega)
   ·exact hp.fresh b (by omega)
   ·omega
   ·have h1:=hp.one b h.1
    rw[(hp.frame b h1.1 (by omega)).2]
    exact hI.fresh b (by omega)
   ·rw[(hp.frame b h.2.1 (by omega)).2]
    exact hI.fresh b (by omega)
   ·omega)
  hframe
  (fun b hb=>by
   rcases hcs b with h|h|h|h|h|h|h<;>omega)
  hp.size hp.os hp.tape hp.output
 have hgoodhs:((con.rs.any fun r=>r.pt.sH)=true∨C7 con.ps=true)→∀c∈hs',Good (fun u=>U u∨(tk≤u∧u<tk+32)) G2 c:=by
  intro hsh c hc
  have hnr:KD con.ps=false:=by
   simp only[TY,afS,agI,af4,Bool.or_eq_false_iff]at hcon
   rcases hcon.2 with h|⟨h1,h2⟩
   ·exact h
   ·rcases hsh with h|h
    ·rw[h]at h1;cases h1
    ·rw[h]at h2;cases h2
  rw[hhs,agv,afN]at hc
  rcases hc with rfl|hc
  ·exact⟨by omega,.inl hI.two.1.1,(hG2b 2 hI.two.1.1).trans hI.two.1.2⟩
  ·simp only[afZ,agd,decide_eq_true_eq]at hc
   obtain⟨⟨c',k⟩,⟨h1,h2⟩,rfl⟩:=hc
   simp only at h2
   subst h2
   rcases hin' _ _ h1 with⟨_,q1,q2,q3⟩|h|h
   ·exact⟨q1,.inl q2,(hG2b c' q2).trans (q3.resolve_right (by simp[hnr]))⟩
   ·omega
   ·omega
 have hg3:Good (fun u=>U u∨(tk≤u∧u<tk+32)) G2 3:=⟨by omega,.inl hI.two.2.1,(hG2b 3 hI.two.2.1).trans hI.two.2.2⟩
 have hresB:∀c∈iE con.rs tk,tk≤c∧c<tk+(di con.rs k0-k0):=by
  intro c hc
  have h1:=uu c hc
  have h2:=ug con.rs 0 tk
  rw[agC]at h2
  omega
 have hbox:∀t s v,(t,s,v)∈IO→bU w' G2 (.box t v) (a.tmps.getD s undef)∧bf (fun u=>U u∨(tk≤u∧u<tk+32)) G2 (.box t v):=by
  rintro t s ⟨τ2,x2,sh2⟩ hin2
  obtain⟨te',i,v1,p,k1,v0,q1,q2,q3,q4,q5,q6,q7,rfl,q9,XL⟩:=rel1 t s _ hin2
  simp only at q9
  subst q9
  have hios:=hp.ios te' i ⟨τ2,x2,(aV p k1 [2,1]).1⟩ (by
   rw[hk,sc3]
   rw[agC]at q1
   exact q1)
  obtain⟨bk,c,el,e1,e2,e3,e4,e5,e6⟩:=hios
  have hsl:=hI.slots s
  rw[q4]at hsl
  obtain⟨bk0,c',el',f1,f2,f3,f4,_⟩:=hsl
  rw[q5,f3,f1]at e1
  simp only[Value.pointer.injEq,afL,Addr.mk.injEq,and_true]at e1
  subst e1
  have hte:=dC te' q3
  rw[hk]at hte
  have hUt:=(hI.bt s t (by rw[q4];simp[SV.bt])).2.1
  have hlt:=hI.lt bk0 (by omega)
  refine⟨⟨bk0,c,el,f1,f2,(hG2h t hUt).trans f3,?_,e5,?_⟩,fun d hd=> ?_,fun d hd=> ?_,by simp[SV.rt]⟩
  ·rw[←hG2]
   simp only[qP]
   rw[if_pos (by omega),if_neg (by omega),if_pos hlt]
   exact f4
  ·exact IB hRec h3 (by omega) (by omega) e6
  ·rcases kZ d hd with h|⟨h1,h2⟩|rfl
   ·exact hgoodhs (.inr (XL h.2)) d h.1
   rotate_left
   ·exact hg3
   ·have e7:aR p (tk+(k1-k0))=tk+(aR p k1-k0):=by
     rw[show tk+(k1-k0)=(k1-k0)+tk by omega,dG]
     have:=dG p (k1-k0) k0
     rw[show k1-k0+k0=k1 by omega]at this
     have:=bq p k1
     omega
    have h5:d<tk+32:=by omega
    refine⟨by omega,.inr ⟨by omega,h5⟩,?_⟩
    rw[←hG2]
    simp only[qP]
    rw[if_pos (by omega)]
    simp only[afQ,decide_eq_false_iff_not]
    intro hin3
    have:=hresB d hin3
    omega
  ·simp only[SV.bt,ago]at hd
   subst hd
   have h:=hI.bt s d (by rw[q4];simp[SV.bt])
   exact⟨h.1,.inl h.2.1,(hG2b d h.2.1).trans h.2.2⟩
 have hkb:∀ {s t v},(E.kill tks).s.getD s .no= .box t v→∃v',E.s.getD s .no= .box t v':=by
  intro s t v h
  rw[Env.C5]at h
  split at h
  ·exact⟨v,h⟩
  ·exact CZ h
 have hF:=hC.ZT IO hbox hpw (fun t s v hin2 s' u he=>by
  obtain⟨te',i,v1,p,k1,v0,_,_,_,q4,_⟩:=rel1 t s v hin2
  have h1:(E.kill tks).s.getD s' .no= .box t u:=by
   rcases hDget s' with h|h
   ·exact h.symm.trans he
   ·have:SV.no= .box t u:=h.symm.trans he
    cases this
  obtain⟨v',h2⟩:=hkb h1
  have:=hI.uni s' s t v' v0 h2 q4
  subst this
  have h3:SV.no= .box t u:=(sR IO (E.kill tks).s s' ⟨t,v,hin2⟩).1.symm.trans he
  cases h3)
 simp only[aaW]at hF
 have hres:=sc5 hRec (by omega) vs (fun i=>by have:=hp.res i;rw[hk]at this;exact this)
 have hkeep:∀u u',(u,u')∈zA E.rd bs IO con.kp→G2.hdr u'=G.hdr u∧4≤u'∧Good (fun u=>U u∨(tk≤u∧u<tk+32)) G2 u':=by
  intro u u' hu
  unfold zA at hu
  simp only[ag5]at hu
  obtain⟨q,hq,hu⟩:=hu
  split at hu
  ·rename_i b z hb hz
   split at hu
   ·rename_i rr hr1
    split at hu
    ·rename_i a1 a2 e1 e2
     simp only[afL,afP]at hu
     obtain⟨rfl,rfl⟩:=hu
     obtain⟨te',i,v0,v2,τ,g1,g2,g3,g4,g5,g6,g7⟩:=rF hI (hs':=hs') (i0:=0) hg (fun i=>(hs i).1) (bd con.rs (bn con.ps) y k0 [2,1]).2.1 (tk+(di con.rs k0-k0)) q.1 b.1 b.2 hb
     rw[hio]at g3
     rw[hz]at g3
     simp only[afL]at g3
     subst g3
     rw[g5]at hr1
     simp only[afL]at hr1
     subst hr1
     have hzin:=agj hz
     have hbx:=hbox b.1 b.2 v2 hzin
     obtain⟨h1,bk,c,el,f1,f2,f3,f4,f5⟩:=hI.box g5
     have hsl:=hI.slots b.2
     rw[h1]at hsl
     obtain⟨bk0,c0',el0,k1',k2',k3',k4',k5',k6'⟩:=hsl
     obtain⟨bk1,c1,el1,j1,j2,j3,j4,j5,j6⟩:=hbx.1
     rw[j1]at k1'
     simp only[Value.pointer.injEq,afL,Addr.mk.injEq,and_true]at k1'
     subst k1'
     have r1:=rf k6' e1
     have r2:=rf j6 e2
     have hkp:=hp.kept q hq te' (0+i) τ g1 g2 bk1 c0' el0 c1 el1 (by rw[agC,g7,k3',j1]) k5' j5
     rw[g4]at r2
     simp only[g6]at r1
     rw[r1.1,r2.1]at hkp
     simp only[afL]at hkp
     exact⟨hkp,r2.2.1,hbx.2.1 _ r2.2.2⟩
    ·cases hu
   ·cases hu
  ·cases hu
 refine⟨G2,hF,?_,?_,fun t u he s u' he2=> ?_,hkeep,fun t s v hin2=> ?_⟩
 rotate_right
 ·obtain⟨te',i,v1,p,k1,v0,_,_,_,q4,_⟩:=rel1 t s v hin2
  exact⟨v0,q4⟩
 ·rw[hp.val]
  exact ab6 (by rw[hp.len,sc4]) hres
 ·refine YU (fun sv hsv=> ?_)
  obtain⟨h1,h2,h4⟩:=sc6 sv hsv
  refine⟨fun c hc=> ?_,fun c hc=> ?_,by rw[h4];simp⟩
  ·rcases h1 c hc with(h|rfl)|⟨q1,q2,q3⟩
   ·exact hgoodhs (.inl h.2) c h.1
   ·exact hg3
   ·refine⟨by omega,.inr ⟨q1,by omega⟩,?_⟩
    rw[←hG2]
    simp only[qP]
    rw[if_pos (by omega)]
    simpa using q3
  ·have hb:=hresB c (h2 c hc)
   refine⟨by omega,.inr ⟨hb.1,by omega⟩,?_⟩
   rw[←hG2]
   simp only[qP]
   rw[if_pos (by omega)]
   simpa using h2 c hc
 ·have ht:t∈iE con.rs tk:=by
   rcases Jm (bd con.rs (bn con.ps) y tk hs').1 with⟨sv,hL,e⟩|⟨_,⟨ts,_,e⟩|e⟩
   ·rw[e]at he
    subst he
    exact(sc6 (.box t u) (by rw[hL];simp)).2.1 t (by simp[SV.bt])
   ·rw[e]at he;cases he
   ·rw[e]at he;cases he
  have hb:=hresB t ht
  have hUt:U t:=by
   rcases we IO (E.kill tks).s s with h|⟨t',v',h1,h2⟩
   ·rw[h]at he2
    exact(hK.bt s t (by rw[he2];simp[SV.bt])).2.1
   ·rw[h2]at he2
    simp only[SV.box.injEq]at he2
    obtain⟨te',i,v1,p,k1,v0,_,_,_,q4,_⟩:=rel1 t' s v' h1
    rw[←he2.1]
    exact(hI.bt s t' (by rw[q4];simp[SV.bt])).2.1
  exact hU t hb.1 (by omega) hUt
theorem zi (s:Nat):∀(l:List (Nat×Nat×TV)) {L L':List SV},L.length=L'.length→(bu l L).getD s .no=(bu l L').getD s .no∨((bu l L).getD s .no=L.getD s .no∧(bu l L').getD s .no=L'.getD s .no)
 | [],_,_,_=> .inr ⟨rfl,rfl⟩
 |(t,s0,v)::l,L,L',hl=>by
  simp only[bu]
  rcases zi s l (L:=L.set s0 (.box t v)) (L':=L'.set s0 (.box t v)) (by simpa using hl)with h|⟨h1,h2⟩
  ·exact .inl h
  ·rw[h1,h2,dE,dE,hl]
   by_cases e:s=s0∧s0<L'.length
   ·left;rw[if_pos e,if_pos e]
   ·right;rw[if_neg e,if_neg e];exact⟨rfl,rfl⟩
theorem uJ (E:Env) (ts:List Nat) (rp:List (Nat×Nat)):(E.bS ts rp).s.length=E.s.length:=by
 unfold Env.bS
 split
 ·unfold Env.kill;split<;>simp
 ·simp
theorem FL (E:Env) (ts:List Nat) (rp:List (Nat×Nat)) (s:Nat):(E.bS ts rp).s.getD s .no=(E.kill ts).s.getD s .no∨
 ∃b b' e i o p τ,E.s.getD s .no= .ept b e i o p τ∧rp.lookup b=some b'∧(E.bS ts rp).s.getD s .no= .ept b' e i o p τ:=by
 unfold Env.bS
 split
 ·exact .inl rfl
 ·have h0:SV.bS ts rp .no= .no:=by simp only[SV.bS];split<;>rfl
  simp only[getD_map h0]
  have h1:(E.kill ts).s.getD s .no=if ts.isEmpty then E.s.getD s .no else(E.s.getD s .no).kill ts:=by
   unfold Env.kill
   split
   ·rfl
   ·exact getD_map (T:=SV.kill ts) rfl s
  rw[h1]
  cases hs:E.s.getD s .no with
  |ept b e i o p τ=>
   cases hl:rp.lookup b with
   |none=>left;simp only[SV.bS,hl]
   |some b'=>right;exact⟨b,b',e,i,o,p,τ,rfl,hl,by simp only[SV.bS,hl]⟩
  |_=>left;simp only[SV.bS]
theorem Inv.upd {E2:Env} (hI:Inv w0 c0 U E a w G) (hl:E2.s.length=E.s.length) (hk:E2.kp=E.kp)
 (h:∀s,E2.s.getD s .no=E.s.getD s .no∨(bU w G (E2.s.getD s .no) (a.tmps.getD s undef)∧bf U G (E2.s.getD s .no)∧∀t v,E2.s.getD s .no≠ .box t v)):Inv w0 c0 U E2 a w G:=by
 refine {hI with len:=hI.len.trans hl.symm,slots:=fun s=> ?_,sc:=fun s=> ?_,bt:=fun s=> ?_,rt:=fun s=> ?_,uni:=fun s s' t u u' h1 h2=> ?_,hk:=by rw[hk];exact hI.hk}
 ·rcases h s with h|h
  ·rw[h];exact hI.slots s
  ·exact h.1
 ·rcases h s with h|h
  ·rw[h];exact hI.sc s
  ·exact h.2.1.1
 ·rcases h s with h|h
  ·rw[h];exact hI.bt s
  ·exact h.2.1.2.1
 ·rcases h s with h|h
  ·rw[h];exact hI.rt s
  ·exact h.2.1.2.2
 ·rcases h s with h3|h3
  ·rcases h s' with h4|h4
   ·rw[h3]at h1;rw[h4]at h2;exact hI.uni s s' t u u' h1 h2
   ·exact absurd h2 (h4.2.2 t u')
  ·exact absurd h1 (h3.2.2 t u)
theorem Xi (E:Env) (ts:List Nat):(E.kill ts).kp=E.kp:=by unfold Env.kill;split<;>rfl
theorem aba (E:Env) (ts:List Nat) (rp:List (Nat×Nat)):(E.bS ts rp).kp=E.kp:=by
 unfold Env.bS;split
 ·exact Xi E ts
 ·rfl
theorem Inv.rep {c0':C0} {w0':World} {U':Nat→Prop} {w':World} {G2:Gh} {ts:List Nat} {rp:List (Nat×Nat)} {IO:List (Nat×Nat×TV)}
 (hI:Inv w0 c0 U' {E.kill ts with s:=bu IO (E.kill ts).s} a w' G2) (h0:Inv w0' c0' U E a w G)
 (hrp:∀u u',(u,u')∈rp→G2.hdr u'=G.hdr u∧4≤u'∧Good U' G2 u'):
 Inv w0 c0 U' {E.bS ts rp with s:=bu IO (E.bS ts rp).s} a w' G2:=by
 have hl:(E.bS ts rp).s.length=(E.kill ts).s.length:=by rw[uJ];unfold Env.kill;split<;>simp
 refine hI.upd (by show(bu IO (E.bS ts rp).s).length=(bu IO (E.kill ts).s).length;rw[ld,ld,hl]) (by show(E.bS ts rp).kp=(E.kill ts).kp;rw[Xi,aba]) (fun s=> ?_)
 show(bu IO (E.bS ts rp).s).getD s .no=(bu IO (E.kill ts).s).getD s .no∨_
 rcases zi s IO hl with h|⟨h1,h2⟩
 ·exact .inl h
 ·rcases FL E ts rp s with h|⟨b,b',e,i,o,p,τ,h3,h4,h5⟩
  ·left;rw[h1,h2,h]
  ·right
   show bU w' G2 ((bu IO (E.bS ts rp).s).getD s .no) _∧bf U' G2 ((bu IO (E.bS ts rp).s).getD s .no)∧∀t v,(bu IO (E.bS ts rp).s).getD s .no≠ .box t v
   rw[h1,h5]
   have hs:=h0.slots s
   rw[h3]at hs
   obtain⟨bk,off,n,cap,k1,k2,k3,k4,k5⟩:=hs
   obtain⟨g1,g2,g3⟩:=hrp b b' (fJ h4)
   exact⟨⟨bk,off,n,cap,g2,g1.trans k2,k3,k4,k5⟩,⟨by simp[SV.sc],by simp[SV.bt],by simp only[SV.rt,ago];rintro c rfl;exact g3⟩,by simp⟩
end
def Enters (P:Program) (r:Result Next) (R:Value→World→Prop):Prop:=
 match r with
 | .ok (.enter f args) w1=>Calls P f args w1 (fun e w'=>∃v,e= .returned v∧R v w')
 | .ok (.value v) w1=>R v w1
 |_=>False
theorem Enters.mono {P:Program} {r:Result Next} {R R':Value→World→Prop} (h:Enters P r R) (hR:∀v w,R v w→R' v w):Enters P r R':=by
 unfold Enters at*
 split
 ·rename_i f args w1
  exact Calls.mono h (fun e w' ⟨v,h1,h2⟩=>⟨v,h1,hR v w' h2⟩)
 ·exact hR _ _ h
 ·rename_i h1 h2
  split at h
  ·exact h1 _ _ _ rfl
  ·exact h2 _ _ rfl
  ·exact h
structure n0 (P:Program) (C:Cx):Prop extends CxTy P C where
 ct:∀f con,C.ct f=some con→oz P f con
 mixed:P.follows .mixedOrders=true
section
variable {P:Program} {C:Cx} {w0:World} {c0:C0} {U:Nat→Prop} {E:Env} {a:Act} {w:World} {G:Gh} {ops:List Oper} {g:Option (Nat×Bool)}
theorem Xx (hI:Inv w0 c0 U E a w G) (hR:RI ops E a.tmps) (hg:Gd ops a.tmps g):∀ {xs:List Operand} {ts:List TypeId} {as:List SV},nm C E.rd g xs ts=some as→
 as.length=xs.length∧∀i,bU w G (as.getD i .no) ((xs.map a.eval).getD i undef)∧bf U G (as.getD i .no)
 | [],[],as,h=>by
   simp only[nm,afL]at h
   subst h
   exact⟨rfl,fun i=>⟨trivial,by simp[bf,SV.sc,SV.bt,SV.rt]⟩⟩
 |x::xs,t::ts,as,h=>by
  simp only[nm]at h
  split at h
  ·rename_i v vs h1 h2
   cases h
   obtain⟨g1,g2⟩:=Xx hI hR hg h2
   refine⟨by simp[g1],fun i=> ?_⟩
   cases i with
   |zero=>simpa using eX hI hR hg h1
   |succ i=>simpa using g2 i
  ·cases h
 | [],_::_,_,h|_::_,[],_,h=>by simp[nm]at h
def RA (P:Program) (w0:World) (c0:C0) (U:Nat→Prop) (E:Env) (a:Act) (r:Result Next):Ef→Prop
 | .val v=>Yields w0 c0 U E a r v
 | .chk c v=>c=true→Yields w0 c0 U E a r v
 | .put b s v=>∃w' G',r= .ok .skip w'∧Inv w0 c0 U {E with s:=E.s.set s (.box b v)} a w' G'
 | .app c kl gv t v=>c=true→Yields w0 c0 U ((E.kill kl).aS gv t) a r v
 | .elem gv b e l m=>∃w' G',r= .ok .skip w'∧Inv w0 c0 U (E.elem gv b e l m) a w' G'
 | .nap c gv b e l m v=>c=true→Yields w0 c0 U (E.elem gv b e l m) a r v∨(v= .no∧∃w' G',r= .ok .skip w'∧Inv w0 c0 U (E.elem gv b e l m) a w' G')
 | .opt _ _ x f=>∀y,x=some y→Enters P r (fun mv w'=>∃G',Inv w0 c0 U E a w' G'∧bU w' G' (f y) mv∧bf U G' (f y)∧(∀t u,f y= .box t u→∀s u',E.s.getD s .no≠ .box t u'))
 | .call _ x tks f rp=>∀y,x=some y→Enters P r (fun mv w'=>∃G',Inv w0 c0 U {E.bS tks (rp y)with s:=bu (f y).2 (E.bS tks (rp y)).s} a w' G'∧bU w' G' (f y).1 mv∧bf U G' (f y).1∧
  (∀t u,(f y).1= .box t u→∀s u',(bu (f y).2 (E.bS tks (rp y)).s).getD s .no≠ .box t u'))
theorem RA.ZO {r:Result Next} {ef:Ef} (h:kB w0 c0 U E a r ef):RA P w0 c0 U E a r ef:=by
 cases ef<;>first|exact h|exact h.elim
theorem FI (hs:List Nat):∀(ps:List PK) (r:aZ (bn ps)) (k:Nat),cK hs ps r [] k=[]
 | [],_,_=>rfl
 | .val _ _::ps,r,k=>FI hs ps r k
 | .io _ _::_,_,_=>rfl
 | .rd _::ps,r,k| .vx _ _::ps,r,k=>FI hs ps r k
theorem acS (hC:n0 P C) (hI:Inv w0 c0 U E a w G) (hR:RI ops E a.tmps) (hg:Gd ops a.tmps g) {tk:Nat} (h3:4≤tk) (hU:∀u,tk≤u→u<tk+32→¬U u) {o:Oper} {c:Call} {f:FuncId} {ef:Ef}
 (ho:o.op= .call c) (hb:c.callee= .value (.func f)) (h:bl C ops E.rd tk g o=some ef):
 RA P w0 c0 (fun u=>U u∨(tk≤u∧u<tk+32)) E a ((execOp a.eval o).run P w) ef:=by
 have hrun:(execOp a.eval o).run P w=(callFunc f (c.args.toList.map a.eval).toArray).run P w:=by
  have e:(c.args.toList.map a.eval).toArray=c.args.map a.eval:=ahe (by simp)
  rw[e]
  simp only[execOp,ho]
  simp[resolve,hb,Deferred.ofValue,Act.eval,invoke]
 simp only[bl,ho,hb]at h
 unfold FB at h
 split at h
 ·cases h
 ·rename_i con hct
  have hM:=hC.ct f con hct
  split at h
  ·cases h
  ·rename_i as has
   obtain⟨hlen,hargs⟩:=Xx hI hR hg has
   split at h
   ·cases h
   ·rename_i xs rho bs hga
    split at h
    ·rename_i hcond
     simp only[afS,decide_eq_true_eq]at hcond
     obtain⟨⟨hr,h32⟩,hcon⟩:=hcond
     obtain⟨G1,hlot,hG1⟩:=ad6 hI hga hargs (by simp[hlen]) hr (fun c hc=>by
      simp only[TY,afS,afX,decide_eq_true_eq,af4,afQ,decide_eq_false_iff_not]at hcon
      have:=hcon.1 c hc
      exact⟨this.1.1,this.1.2,this.2⟩)
     have key:∀y,con.F xs=some y→Enters P ((execOp a.eval o).run P w) (fun mv w'=>∃G2,
      Inv w0 c0 (fun u=>U u∨(tk≤u∧u<tk+32)) {E.kill (((rho.filter (4≤·.2)).map (·.1)).filter fun c=> !bs.any (·.1=c))with
       s:=bu (cK (2::(rho.filter (·.2=1)).map (·.1)).eraseDups con.ps (bd con.rs (bn con.ps) y tk (2::(rho.filter (·.2=1)).map (·.1)).eraseDups).2.1 bs (bd con.rs (bn con.ps) y tk (2::(rho.filter (·.2=1)).map (·.1)).eraseDups).2.2) (E.kill (((rho.filter (4≤·.2)).map (·.1)).filter fun c=> !bs.any (·.1=c))).s} a w' G2∧
      bU w' G2 (lY (bd con.rs (bn con.ps) y tk (2::(rho.filter (·.2=1)).map (·.1)).eraseDups).1) mv∧bf (fun u=>U u∨(tk≤u∧u<tk+32)) G2 (lY (bd con.rs (bn con.ps) y tk (2::(rho.filter (·.2=1)).map (·.1)).eraseDups).1)∧
      (∀t u,lY (bd con.rs (bn con.ps) y tk (2::(rho.filter (·.2=1)).map (·.1)).eraseDups).1= .box t u→∀s u',
       (bu (cK (2::(rho.filter (·.2=1)).map (·.1)).eraseDups con.ps (bd con.rs (bn con.ps) y tk (2::(rho.filter (·.2=1)).map (·.1)).eraseDups).2.1 bs (bd con.rs (bn con.ps) y tk (2::(rho.filter (·.2=1)).map (·.1)).eraseDups).2.2) (E.kill (((rho.filter (4≤·.2)).map (·.1)).filter fun c=> !bs.any (·.1=c))).s).getD s .no≠ .box t u')∧
      (∀u u',(u,u')∈zA E.rd bs (cK (2::(rho.filter (·.2=1)).map (·.1)).eraseDups con.ps (bd con.rs (bn con.ps) y tk (2::(rho.filter (·.2=1)).map (·.1)).eraseDups).2.1 bs (bd con.rs (bn con.ps) y tk (2::(rho.filter (·.2=1)).map (·.1)).eraseDups).2.2) con.kp→
       G2.hdr u'=G.hdr u∧4≤u'∧Good (fun u=>U u∨(tk≤u∧u<tk+32)) G2 u')∧
      (∀t s v,(t,s,v)∈cK (2::(rho.filter (·.2=1)).map (·.1)).eraseDups con.ps (bd con.rs (bn con.ps) y tk (2::(rho.filter (·.2=1)).map (·.1)).eraseDups).2.1 bs (bd con.rs (bn con.ps) y tk (2::(rho.filter (·.2=1)).map (·.1)).eraseDups).2.2→∃v0,E.s.getD s .no= .box t v0)):=by
      intro y hy
      rw[hrun]
      have:=hM w G1 (c.args.toList.map a.eval) xs y hy hlot
      exact Enters.mono (show Enters P _ _ from this) (fun mv w' ⟨G',vs,nt,hp⟩=>adG hI hcon hga hargs hr hG1 hp h3 hU h32 rfl rfl)
     simp only at h
     split at h
     ·rename_i hemp
      cases h
      simp only[afS,List.isEmpty_iff]at hemp
      obtain⟨e1,e2⟩:=hemp
      intro y hy
      refine(key y hy).mono (fun mv w' hh=> ?_)
      obtain⟨G2,k1,k2,k3,k4,_⟩:=hh
      rw[e2]at k1 k4
      subst e1
      simp only[FI,bu,Env.kill,List.isEmpty_nil,if_true]at k1 k4
      exact⟨G2,k1,k2,k3,k4⟩
     ·cases h
      intro y hy
      refine(key y hy).mono (fun mv w' hh=> ?_)
      obtain⟨G2,k1,k2,k3,k4,k5,k6⟩:=hh
      refine⟨G2,k1.rep hI k5,k2,k3,fun t u he s u' he2=> ?_⟩
      have hl:(E.bS (((rho.filter (4≤·.2)).map (·.1)).filter fun c=> !bs.any (·.1=c)) (zA E.rd bs (cK (2::(rho.filter (·.2=1)).map (·.1)).eraseDups con.ps (bd con.rs (bn con.ps) y tk (2::(rho.filter (·.2=1)).map (·.1)).eraseDups).2.1 bs (bd con.rs (bn con.ps) y tk (2::(rho.filter (·.2=1)).map (·.1)).eraseDups).2.2) con.kp)).s.length=(E.kill (((rho.filter (4≤·.2)).map (·.1)).filter fun c=> !bs.any (·.1=c))).s.length:=by
       rw[uJ];unfold Env.kill;split<;>simp
      rcases zi s (cK (2::(rho.filter (·.2=1)).map (·.1)).eraseDups con.ps (bd con.rs (bn con.ps) y tk (2::(rho.filter (·.2=1)).map (·.1)).eraseDups).2.1 bs (bd con.rs (bn con.ps) y tk (2::(rho.filter (·.2=1)).map (·.1)).eraseDups).2.2) hl with h|⟨h1,h2⟩
      ·exact k4 t u he s u' (h.symm.trans he2)
      ·rcases FL E (((rho.filter (4≤·.2)).map (·.1)).filter fun c=> !bs.any (·.1=c)) (zA E.rd bs (cK (2::(rho.filter (·.2=1)).map (·.1)).eraseDups con.ps (bd con.rs (bn con.ps) y tk (2::(rho.filter (·.2=1)).map (·.1)).eraseDups).2.1 bs (bd con.rs (bn con.ps) y tk (2::(rho.filter (·.2=1)).map (·.1)).eraseDups).2.2) con.kp) s with h|⟨b,b',e,i,o,p,τ,h3,h4,h5⟩
       ·exact k4 t u he s u' (h2.trans (h.symm.trans (h1.symm.trans he2)))
       ·have:=h5.symm.trans (h1.symm.trans he2)
        cases this
    ·cases h
theorem Vq (hC:n0 P C) (hI:Inv w0 c0 U E a w G) (hR:RI ops E a.tmps) (hg:Gd ops a.tmps g) {tk:Nat} (h3:4≤tk) (hU:∀u,tk≤u→u<tk+32→¬U u) {o:Oper} {ef:Ef}
 (h:bl C ops E.rd tk g o=some ef):RA P w0 c0 (fun u=>U u∨(tk≤u∧u<tk+32)) E a ((execOp a.eval o).run P w) ef:=by
 have hC':=hC.toCxTy
 have m0:kB w0 c0 U E a ((execOp a.eval o).run P w) ef→RA P w0 c0 (fun u=>U u∨(tk≤u∧u<tk+32)) E a ((execOp a.eval o).run P w) ef:=fun h=> .ZO (h.mono fun u hu=> .inl hu)
 have m1:kB w0 c0 (fun u=>U u∨u=tk) E a ((execOp a.eval o).run P w) ef→RA P w0 c0 (fun u=>U u∨(tk≤u∧u<tk+32)) E a ((execOp a.eval o).run P w) ef:=
  fun h=> .ZO (h.mono fun u hu=>hu.imp id fun e=>by omega)
 have hU0:=hU tk (afR _) (by omega)
 cases ho:o.op with
 |move x=>
  have h':=h
  simp only[bl,ho,af1]at h'
  obtain⟨sv,hs,rfl⟩:=h'
  exact m0 (Xq hI hR hg hs (by simp[execOp,ho]))
 |assign x=>
  have h':=h
  simp only[bl,ho,af1]at h'
  obtain⟨sv,hs,rfl⟩:=h'
  exact m0 (Xq hI hR hg hs (by simp[execOp,ho]))
 |pick c x y=>exact m0 (acG hI hR hg ho h)
 |alloc t=>exact m1 (abJ hC' hI h3 hU0 ho h)
 |box t x=>exact m1 (adr hI hR hg h3 hU0 ho h)
 |build t ps=>exact m0 (adU hC' hI hR hg ho h)
 |buildSlice t n ps=>exact m1 (TE hC' hI hR hg h3 hU0 ho h)
 |load t x=>exact m0 (acA hC' hI hR hg ho h)
 |nilCheck x=>exact m0 (Wx hI hR hg ho h)
 |binOp op t x y u=>exact m0 (adQ hC' hI hR hg ho h)
 |unOp op t x=>exact m0 (aef hI hR hg ho h)
 |convert s d x=>exact m0 (acy hC' hI hR hg ho h)
 |makeSlice t n c=>exact m1 (T7 hC' hI hR hg h3 hU0 ho h)
 |slice t x lo hi mx=>exact m0 (aaZ hC' hI hR hg ho h)
 |fieldAddr s x j=>exact m0 (VY hC' hI hR hg ho h)
 |field s x j=>exact m0 (aa7 hC' hI hR hg ho h)
 |indexAddr t x n=>exact m0 (Ui hC' hI hR hg ho h)
 |index t x n=>exact m0 (aaX hC' hI hR hg ho h)
 |extract x j=>exact m0 (Ym hI hR hg ho h)
 |store t x y=>
  have key:∀e,bl C ops E.rd tk g o=some e→(∃b s v,e= .put b s v)∨∃gv b e' l m,e= .elem gv b e' l m:=by
   intro e he
   simp only[bl,ho]at he
   split at he
   ·split at he
    ·obtain⟨r,_,rfl⟩:=af1.mp (Option.ite_none_right_eq_some.mp he).2
     exact .inl ⟨_,_,_,rfl⟩
    ·cases he
   ·split at he
    ·obtain⟨_,he⟩:=Option.ite_none_right_eq_some.mp he
     obtain⟨_,he⟩:=Option.ite_none_left_eq_some.mp he
     obtain⟨r,_,rfl⟩:=af1.mp he
     exact .inr ⟨_,_,_,_,_,rfl⟩
    ·cases he
   ·cases he
  rcases key _ h with⟨b,s,v,rfl⟩|⟨gv,b,e',l,m,rfl⟩
  ·obtain⟨w',h1,h2⟩:=ad0 hC' hI hR hg ho h
   exact⟨w',G,h1,h2.mono fun u hu=> .inl hu⟩
  ·obtain⟨w',G',h1,h2⟩:=acL hC' hI hR hg ho h
   exact⟨w',G',h1,h2.mono fun u hu=> .inl hu⟩
 |call c=>
  cases hb:c.callee with
  |builtin b=>
   by_cases happ:∃cd kl gv t v,ef= .app cd kl gv t v
   ·obtain⟨cd,kl,gv,t,v,rfl⟩:=happ
    have hba:b= .append:=by
     have h':=h
     simp only[bl,ho,hb]at h'
     unfold nW at h'
     split at h'
     ·exfalso
      split at h'
      ·cases h'
      ·split at h'
       ·split at h'<;>cases h'
       ·split at h'<;>cases h'
       ·cases h'
     ·exfalso
      split at h'
      ·split at h'<;>cases h'
      ·cases h'
     ·exfalso
      split at h'
      ·split at h'<;>cases h'
      ·cases h'
     ·rfl
     ·cases h'
    subst hba
    intro hcd
    obtain⟨rfl,hy⟩:=ac6 hC' hI hR hg h3 hU0 ho hb h hcd
    exact hy.mono fun u hu=>hu.imp id fun e=>by omega
   ·exact m0 (ac8 hC' hI hR hg ho hb (fun x y z u v e=>happ ⟨x,y,z,u,v,e⟩) h)
  |value x=>
   cases x with
   |func f=>exact acS hC hI hR hg h3 hU ho hb h
   |_=>simp[bl,ho,hb]at h
  |invoke r m=>simp[bl,ho,hb]at h
 |_=>simp[bl,ho]at h
end
theorem aT.Es {α:Type} {R R':α→List Value→List Nat→Prop} {sz:Nat} (hl:∀x c B,R x c B→c.length=sz) (hl':∀x c B,R' x c B→c.length=sz)
 (hR:∀x x' c B B',R x c B→R' x' c B'→x=x'):∀ {l l':List α} {cs:List Value} {B B':List Nat},aT R l cs B→aT R' l' cs B'→l.length=l'.length→l=l'
 | [],[],_,_,_,_,_,_=>rfl
 |x::l,y::l',cs,B,B',h,h',hn=>by
  obtain⟨c1,c2,B1,B2,rfl,rfl,h1,h2⟩:=h
  obtain⟨d1,d2,D1,D2,he,rfl,k1,k2⟩:=h'
  have e1:c1.length=d1.length:=by rw[hl _ _ _ h1,hl' _ _ _ k1]
  obtain⟨rfl,rfl⟩:=ahf he e1
  rw[hR _ _ _ _ _ h1 k1,aT.Es hl hl' hR h2 k2 (by simpa using hn)]
 | [],_::_,_,_,_,_,_,hn|_::_,[],_,_,_,_,_,hn=>by simp at hn
theorem aQ.Es {w:World}:∀ {τ:Ty} {x x':τ.den} {cs:List Value} {B B':List Nat},aQ w τ x cs B→aQ w τ x' cs B'→x=x'
 | .int _,x,x',cs,_,_,h,h'=>by have:=h.1.symm.trans h'.1;simpa using this
 | .bool,x,x',cs,_,_,h,h'=>by have:=h.1.symm.trans h'.1;simpa using this
 | .str,x,x',cs,_,_,h,h'=>by have:=h.1.symm.trans h'.1;simpa using this
 | .pair a b,x,x',cs,_,_,h,h'=>by
   obtain⟨c1,c2,B1,B2,rfl,rfl,h1,h2⟩:=h
   obtain⟨d1,d2,D1,D2,he,rfl,k1,k2⟩:=h'
   obtain⟨rfl,rfl⟩:=ahf he (by rw[aQ.len h1,aQ.len k1])
   exact ahj (aQ.Es h1 k1) (aQ.Es h2 k2)
 | .sl e,l,l',cs,_,_,h,h'=>by
   obtain⟨v,rfl,h⟩:=h
   obtain⟨v',hv,h'⟩:=h'
   simp only[ahg,and_true]at hv
   subst hv
   rcases h with⟨⟨ao,e1⟩,e1',_⟩|⟨b,off,cap,c,el,fz,Bs,e1,hcap,hb,hsz,_,hl⟩<;>rcases h' with⟨⟨ao',e2⟩,e2',_⟩|⟨b',off',cap',c',el',fz',Bs',e2,hcap',hb',hsz',_,hl'⟩
   ·rw[e1',e2']
   ·rw[e1]at e2
    simp only[Value.slice.injEq]at e2
    rw[e1',agE.1 e2.2.1.symm]
   ·rw[e1]at e2
    simp only[Value.slice.injEq]at e2
    rw[e2',agE.1 e2.2.1]
   ·rw[e1]at e2
    simp only[Value.slice.injEq,afL,Addr.mk.injEq,and_true]at e2
    obtain⟨⟨rfl,rfl⟩,hn,rfl⟩:=e2
    rw[hb]at hb'
    simp only[afL,Obj.cells.injEq]at hb'
    obtain⟨rfl,_,_⟩:=hb'
    rw[←hn]at hl'
    exact aT.Es (sz:=e.sz) (fun x c B h=>aQ.len h) (fun x c B h=>aQ.len h) (fun x x' c B B' h h'=>aQ.Es h h') hl hl' hn
theorem Pf (τ:Ty):τ.sub []=some τ:=by cases τ<;>rfl
theorem Bi (τ:Ty):τ.off []=0:=by cases τ<;>rfl
theorem aQ.place {w:World}:∀ {p:List Bool} {τ σ:Ty} {x:τ.den} {cs:List Value} {B:List Nat},aQ w τ x cs B→τ.sub p=some σ→
 ∃(f:σ.den→τ.den) (z:σ.den) (Ba Bo Bb:List Nat),f z=x∧B=Ba++Bo++Bb∧aQ w σ z ((cs.drop (τ.off p)).take σ.sz) Bo∧τ.off p+σ.sz≤τ.sz∧
  ∀(w':World) (z':σ.den) (cz:List Value) (B':List Nat),(∀k∈Ba++Bb,w'.heap[k]?=w.heap[k]?)→aQ w' σ z' cz B'→aQ w' τ (f z') (cJ (τ.off p) cz cs) (Ba++B'++Bb)
 | [],τ,σ,x,cs,B,h,hs=>by
   rw[Pf]at hs
   cases hs
   have hl:=aQ.len h
   refine⟨id,x,[],B,[],rfl,by simp,?_,by rw[Bi];omega,fun w' z' cz B' _ hz=> ?_⟩
   ·rw[Bi,agJ,age (by omega)];exact h
   ·rw[Bi]
    unfold cJ
    rw[ahh,agH,agC,agf (by rw[hl,aQ.len hz];exact afR _),agX]
    simpa using hz
 |false::p,.pair a b,σ,x,cs,B,h,hs=>by
  obtain⟨c1,c2,B1,B2,rfl,rfl,h1,h2⟩:=h
  simp only[Ty.sub]at hs
  obtain⟨f,z,Ba,Bo,Bb,q1,rfl,q3,q4,q5⟩:=aQ.place h1 hs
  have hl:=aQ.len h1
  refine⟨fun z'=>(f z',x.2),z,Ba,Bo,Bb++B2,ahj q1 rfl,by simp,?_,by simp only[Ty.off,Ty.sz];omega,fun w' z' cz B' hk hz=> ?_⟩
  ·simp only[Ty.off]
   rw[af3 (by omega),af9 (by simp;omega)]
   exact q3
  ·have hlz:=aQ.len hz
   refine⟨_,c2,_,B2,?_,by simp,q5 w' z' cz B' (fun k hk'=>hk k (by simp only[afO]at hk'⊢;rcases hk' with h|h<;>simp[h])) hz,aQ.mono (fun k hk'=>hk k (by simp[hk'])) h2⟩
   simp only[Ty.off,cJ]
   rw[af9 (by omega),af3 (by omega)]
   simp
 |true::p,.pair a b,σ,x,cs,B,h,hs=>by
  obtain⟨c1,c2,B1,B2,rfl,rfl,h1,h2⟩:=h
  simp only[Ty.sub]at hs
  obtain⟨f,z,Ba,Bo,Bb,q1,rfl,q3,q4,q5⟩:=aQ.place h2 hs
  have hl:=aQ.len h1
  refine⟨fun z'=>(x.1,f z'),z,B1++Ba,Bo,Bb,ahj rfl q1,by simp,?_,by simp only[Ty.off,Ty.sz];omega,fun w' z' cz B' hk hz=> ?_⟩
  ·simp only[Ty.off]
   rw[←hl,agF,agf (by omega),agH,show c1.length+b.off p-c1.length=b.off p by omega]
   exact q3
  ·refine⟨c1,_,B1,_,?_,by simp,aQ.mono (fun k hk'=>hk k (by simp[hk'])) h1,q5 w' z' cz B' (fun k hk'=>hk k (by simp only[afO]at hk'⊢;rcases hk' with h|h<;>simp[h])) hz⟩
   simp only[Ty.off,cJ]
   rw[←hl,agR,age (by omega),agF,agf (by omega)]
   simp[agN]
 |b::p,.int _,_,_,_,_,_,hs|b::p,.bool,_,_,_,_,_,hs|b::p,.str,_,_,_,_,_,hs|b::p,.sl _,_,_,_,_,_,hs=>by simp[Ty.sub]at hs
theorem aT.aag {e:Ty} {w w':World} {l:List e.den} {cs:List Value} {B:List Nat} (hB:∀b∈B,w'.heap[b]?=w.heap[b]?) (h:aT (aQ w e) l cs B):aT (aQ w' e) l cs B:=aT.world hB h
theorem A3:∀ {p:List Bool} {τ σ:Ty},τ.sub p=some σ→τ.off p+σ.sz≤τ.sz
 | [],τ,σ,h=>by rw[Pf]at h;cases h;rw[Bi];omega
 |false::p,.pair a b,σ,h=>by have:=A3 (τ:=a) h;simp only[Ty.off,Ty.sz];omega
 |true::p,.pair a b,σ,h=>by have:=A3 (τ:=b) h;simp only[Ty.off,Ty.sz];omega
 |b::p,.int _,_,hs|b::p,.bool,_,hs|b::p,.str,_,hs|b::p,.sl _,_,hs=>by simp[Ty.sub]at hs
theorem Ck:∀ {p:List Bool} {τ:Ty} {x:τ.den} {sh:Sh} {r:TV},eA τ x sh p=some r→τ.sub p=some r.τ
 | [],τ,x,sh,r,h=>by
   have:r=⟨τ,x,sh⟩:=by cases τ<;>(simp only[eA,afL]at h;exact h.symm)
   rw[Pf,this]
 |false::p,.pair a b,x,.pair s1 s2,r,h=>by simp only[eA]at h;simp only[Ty.sub];exact Ck h
 |true::p,.pair a b,x,.pair s1 s2,r,h=>by simp only[eA]at h;simp only[Ty.sub];exact Ck h
 |b::p,.int _,_,_,_,h|b::p,.bool,_,_,_,h|b::p,.str,_,_,_,h|b::p,.sl _,_,_,_,h=>by simp[eA]at h
 |b::p,.pair _ _,_,.leaf,_,h|b::p,.pair _ _,_,.sl _,_,h=>by cases b<;>simp[eA]at h
theorem JB {w:World}:∀ {p:List Bool} {τ:Ty} {x:τ.den} {sh:Sh} {r:TV} {cs:List Value} {B:List Nat},eA τ x sh p=some r→aQ w τ x cs B→
 ∃B',aQ w r.τ r.x ((cs.drop (τ.off p)).take r.τ.sz) B'
 | [],τ,x,sh,r,cs,B,h,hr=>by
   have:r=⟨τ,x,sh⟩:=by cases τ<;>(simp only[eA,afL]at h;exact h.symm)
   subst this
   rw[Bi,agJ,age (by rw[aQ.len hr];exact afR _)]
   exact⟨B,hr⟩
 |false::p,.pair a b,x,.pair s1 s2,r,cs,B,h,hr=>by
  obtain⟨c1,c2,B1,B2,rfl,rfl,h1,h2⟩:=hr
  simp only[eA]at h
  obtain⟨B',h3⟩:=JB h h1
  have hso:=A3 (Ck h)
  have hl:=aQ.len h1
  refine⟨B',?_⟩
  simp only[Ty.off]
  rw[af3 (by omega),af9 (by simp;omega)]
  exact h3
 |true::p,.pair a b,x,.pair s1 s2,r,cs,B,h,hr=>by
  obtain⟨c1,c2,B1,B2,rfl,rfl,h1,h2⟩:=hr
  simp only[eA]at h
  obtain⟨B',h3⟩:=JB h h2
  have hl:=aQ.len h1
  refine⟨B',?_⟩
  simp only[Ty.off]
  rw[←hl,agF,agf (by omega),agH,show c1.length+b.off p-c1.length=b.off p by omega]
  exact h3
 |b::p,.int _,_,_,_,_,_,h,_|b::p,.bool,_,_,_,_,_,h,_|b::p,.str,_,_,_,_,_,h,_|b::p,.sl _,_,_,_,_,_,h,_=>by simp[eA]at h
 |b::p,.pair _ _,_,.leaf,_,_,_,h,_|b::p,.pair _ _,_,.sl _,_,_,_,h,_=>by cases b<;>simp[eA]at h
theorem aT.place {w:World} {τ σ:Ty} {l:List τ.den} {cs:List Value} {B:List Nat} (h:aT (aQ w τ) l cs B) {i:Nat} (hi:i<l.length) {p:List Bool} (hs:τ.sub p=some σ):
 ∃(f:σ.den→List τ.den) (z:σ.den) (Ba Bo Bb:List Nat),f z=l∧B=Ba++Bo++Bb∧aQ w σ z ((cs.drop (i*τ.sz+τ.off p)).take σ.sz) Bo∧i*τ.sz+τ.off p+σ.sz≤l.length*τ.sz∧(∀z',(f z').length=l.length)∧
  ∀(w':World) (z':σ.den) (cz:List Value) (B':List Nat),(∀k∈Ba++Bb,w'.heap[k]?=w.heap[k]?)→aQ w' σ z' cz B'→aT (aQ w' τ) (f z') (cJ (i*τ.sz+τ.off p) cz cs) (Ba++B'++Bb):=by
 have hg:l[i]?=some l[i]:=afY hi
 obtain⟨B1,Bx,B2,rfl,h1,h2,h3⟩:=aT.get (sz:=τ.sz) (fun x c B h=>aQ.len h) h hg
 obtain⟨f,z,Ba,Bo,Bb,q1,rfl,q3,q4,q5⟩:=aQ.place h1 hs
 have hl:=aT.len (sz:=τ.sz) (fun x c B h=>aQ.len h) h
 have hmul:(i+1)*τ.sz≤l.length*τ.sz:=af7 _ hi
 rw[agn,agz]at hmul
 refine⟨fun z'=>l.set i (f z'),z,B1++Ba,Bo,Bb++B2,by show l.set i (f z)=l;rw[q1];simp,by simp,?_,by omega,fun z'=>by simp,fun w' z' cz B' hk hz=> ?_⟩
 ·rw[agb,agm,agl,agi (by omega)]at q3
  exact q3
 ·have hz':=q5 w' z' cz B' (fun k hk'=>hk k (by simp only[afO]at hk'⊢;rcases hk' with h|h<;>simp[h])) hz
  have hset:=aT.set (sz:=τ.sz) (l:=l) (cs:=cs) hi hz' (aT.aag (fun k hk'=>hk k (by simp[hk'])) h2) (aT.aag (fun k hk'=>hk k (by simp[hk'])) h3)
  rw[uf (sz:=τ.sz) (by have:=aQ.len hz;omega),show i*τ.sz+τ.sz=(i+1)*τ.sz by rw[agn,agz]]
  simpa[af6]using hset
section
variable {P:Program} {C:Cx} {w0:World} {c0:C0} {U:Nat→Prop} {E:Env} {a:Act} {w:World} {G:Gh} {ops:List Oper} {g:Option (Nat×Bool)}
theorem Inv.ad8 (hI:Inv w0 c0 U E a w G) {tk:Nat} (hU:¬U tk):Inv w0 c0 (fun u=>U u∨u=tk) E a w {G with bx:=fun u=>if u=tk then false else G.bx u}:=by
 refine hI.change (ts:=[]) (fun _ _ _=>by simp) (fun b _ _=>⟨rfl,rfl⟩) (fun t ht=>⟨rfl,if_neg (fun e:t=tk=>hU (e▸ht))⟩) (fun _ h=> .inl h) (fun b hb=> .inl (hI.colU b hb)) hI.lt hI.fresh hI.frame (fun _ _=>rfl) (afR _) rfl rfl rfl
theorem Inv.acr (hI:Inv w0 c0 U E a w G) {ts:List Nat} {b:Nat} {e:Ty} {l:List e.den} {m:M} {w':World} (hb3:4≤b) (hts:∀c∈ts,4≤c∧Good U G c) (hb:Good U G b) (hm:∀c∈m.aE,Good U G c)
 (hnew:bJ w' (G.aS ts b (G.hdr b)) e l (G.hdr b) m) (hag:∀k,(G.aS ts b (G.hdr b)).col k≠b→w'.heap[k]?=w.heap[k]?)
 (hfr:∀k,(G.aS ts b (G.hdr b)).col k=b→∃c el,w'.heap[k]?=some (.cells c el (0,0))) (size:w.heap.size=w'.heap.size) (os:w'.os=w.os) (tape:w'.tape=w.tape) (output:w'.output=w.output):
 Inv w0 c0 U (E.elem ts b e l m) a w' (G.aS ts b (G.hdr b)):=by
 have hI1:=hI.Yf (ts:=ts) (t:=b) (v:=G.hdr b) hb3 hts hb.2.1 rfl hb.2.2
 have hI2:=hI1.map (CL (w:=w) b) hI1.colU (fun b=>⟨fun h=>h,fun _=>rfl,fun _=>rfl⟩)
 have hI3:=hI2.setRow (m:=m) (y:=l) (w':=w') (e:=e) (b:=b) (by simpa[Gh.aS]using hnew) (by simp[Gh.aS]) hb3 hag (fun s=> ?_) (fun c hc=> ?_) hfr size os tape output
 ·simpa only[Env.elem,List.map_map,Function.comp_def,SV.bw,SV.aS]using hI3
 ·have:=getD_map (L:=E.s.map (SV.aS ts b)) (T:=SV.bw b) rfl s
  show SV.clear b ((List.map (SV.bw b) (E.s.map (SV.aS ts b))).getD s .no)
  rw[this]
  exact SV.dD b _
 ·obtain⟨p1,p2,p3⟩:=hm c hc
  refine⟨p1,p2,?_⟩
  simp only[Gh.aS];split
  ·rfl
  ·exact p3
theorem Gn {e:Ty} {l:List e.den} {v:Value} {b:Nat} {hs:List Nat} (h:bJ w G e l v (.row b hs true)) (hhs:hs.all (·=b)=true) {bk of n cap:Nat} (hv:v= .slice (some ⟨bk,of,none⟩) n cap) (hn:0<n):
 n=l.length∧l.length≤cap∧∃c el fz Bs,w.heap[bk]?=some (.cells c el fz)∧of+cap*e.sz≤c.size∧aT (aQ w e) l ((c.toList.drop of).take (l.length*e.sz)) Bs∧(bk::Bs).Nodup∧G.col bk=b∧∀x∈Bs,G.col x=b:=by
 obtain⟨_,_,B,hB,hc⟩:=h
 rcases hB with⟨⟨ao,e0⟩,hl0,_⟩|⟨b',of',cap',c,el,fz,Bs,e0,hcap,hh,hsz,rfl,hl⟩
 ·rw[hv]at e0;cases e0;omega
 ·rw[hv]at e0
  simp only[Value.slice.injEq,afL,Addr.mk.injEq,and_true]at e0
  obtain⟨⟨rfl,rfl⟩,rfl,rfl⟩:=e0
  obtain⟨k1,k2,k3,k4⟩:=hc _ _ rfl
  simp only[afX,decide_eq_true_eq]at hhs
  exact⟨rfl,hcap,c,el,fz,Bs,hh,hsz,hl,agk.2 ⟨k2,k4 rfl⟩,k1,fun x hx=>hhs _ (k3 x hx)⟩
theorem V1 {q:Nat} {cs:List Value} {v:Value} (h:cs[q]?=some v):cJ q [v] cs=cs:=by
 obtain⟨hq,rfl⟩:=agB.1 h
 unfold cJ
 simp only[agZ,af6,List.singleton_append]
 rw[←agP hq,agY]
theorem Zn {e σ:Ty} {l:List e.den} {b:Nat} {hs:List Nat} {bk of n cap:Nat} {i:Int} {p:List Bool} (h:bJ w G e l (G.hdr b) (.row b hs true)) (hhs:hs.all (·=b)=true) (hv:G.hdr b= .slice (some ⟨bk,of,none⟩) n cap)
 (h0:0≤i) (hn:i<n) (hs:e.sub p=some (.sl σ)) (hI:Inv w0 c0 U E a w G):
 ∃c el z v,w.heap[bk]?=some (.cells c el (0,0))∧of+i.toNat*e.sz+e.off p+1≤c.size∧(c.toList.drop (of+i.toNat*e.sz+e.off p)).take 1=[v]∧bJ w G σ z v (.nst b e i (e.off p) p true):=by
 obtain⟨rfl,hcap,c,el,fz,Bs,hh,hsz,hl,hnd,hcb,hcB⟩:=Gn h hhs hv (by omega)
 obtain⟨c',el',hfr⟩:=hI.fresh bk (by rw[hcb];exact h.1)
 rw[hfr]at hh
 simp only[afL,Obj.cells.injEq]at hh
 obtain⟨rfl,rfl,rfl⟩:=hh
 have hi:i.toNat<l.length:=by omega
 obtain⟨f,z,Ba,Bo,Bb,q1,rfl,q3,q4,q5,q6⟩:=aT.place hl hi hs
 have hmul:l.length*e.sz≤cap*e.sz:=af7 _ hcap
 have hlen:=aT.len (sz:=e.sz) (fun x c B h=>aQ.len h) hl
 simp only[Ty.sz]at q3 q4
 obtain⟨v,hv1,hv2⟩:=q3
 have hget:((c'.toList.drop of).take (l.length*e.sz))[i.toNat*e.sz+e.off p]?=some v:=by
  have:=congrArg List.head? hv1
  rw[List.head?_take,List.head?_drop]at this
  simpa using this
 have hpart:=q6 w z [v] Bo (fun _ _=>rfl) ⟨v,rfl,hv2⟩
 rw[q1]at hpart
 refine⟨c',el',z,v,hfr,by omega,?_,⟨Bo,hv2,fun x hx=>hcB x (by simp[hx])⟩,hs,rfl,h.1,h0,bk,of,l.length,cap,c',el',l,_,hv,hcap,hcb,hfr,hsz,hn,?_,rfl,hpart,hnd,hcB,fun _=>hget⟩
 ·rw[agb,agm,agl,agi (by omega)]at hv1
  rw[show of+i.toNat*e.sz+e.off p=of+(i.toNat*e.sz+e.off p) by omega]
  exact hv1
 ·have hp:=A3 hs
  simpa only[Ty.sz]using hp
theorem abj {e0 e:Ty} {L:List e0.den} {l:List e.den} {b:Nat} {hs:List Nat} {i:Int} {off:Nat} {p:List Bool} {vx:Value} (hx:bJ w G e l vx (.nst b e0 i off p true)) (hrow:bJ w G e0 L (G.hdr b) (.row b hs true)):
 4≤b∧∃(blk of n cap:Nat) (c:Array Value) (el:TypeId) (f:List e.den→List e0.den) (Ba Bo Bb:List Nat),G.hdr b= .slice (some ⟨blk,of,none⟩) n cap∧n≤cap∧G.col blk=b∧w.heap[blk]?=some (.cells c el (0,0))∧of+cap*e0.sz≤c.size∧
  (blk::(Ba++Bo++Bb)).Nodup∧(∀x∈Ba++Bo++Bb,G.col x=b)∧dp w e.sz (aQ w e) l vx Bo∧f l=L∧L.length=n∧
  (∀(w':World) (l':List e.den) (v':Value) (B':List Nat),(∀k∈Ba++Bb,w'.heap[k]?=w.heap[k]?)→dp w' e.sz (aQ w' e) l' v' B'→
   aT (aQ w' e0) (f l') (cJ (i.toNat*e0.sz+off) [v'] ((c.toList.drop of).take (n*e0.sz))) (Ba++B'++Bb))∧(∀l',(f l').length=n)∧
  cJ (i.toNat*e0.sz+off) [vx] ((c.toList.drop of).take (n*e0.sz))=(c.toList.drop of).take (n*e0.sz)∧i<n∧0≤i∧off+1≤e0.sz∧e0.sub p=some (.sl e)∧e0.off p=off:=by
 obtain⟨⟨B,hB,hc⟩,hsub,hoff,h3,hi0,blk,of,n,cap,c,el,L0,Bs,g1,g2,g3,g4,g5,g6,g7,g8,g9,g10,g11,g12⟩:=hx
 have hself:=V1 (g12 rfl)
 rw[hself]at g9
 have hLn:L.length=n∧aT (aQ w e0) L ((c.toList.drop of).take (n*e0.sz)) Bs:=by
  obtain⟨_,_,B',hB',_⟩:=hrow
  rw[g1]at hB'
  rcases hB' with⟨⟨ao,e1⟩,hl0,_⟩|⟨b',of',cap',c',el',fz,Bs',e1,hcap,hh,hsz,_,hl⟩
  ·cases e1;omega
  ·simp only[Value.slice.injEq,afL,Addr.mk.injEq,and_true]at e1
   obtain⟨⟨rfl,rfl⟩,rfl,rfl⟩:=e1
   rw[g4]at hh
   simp only[afL,Obj.cells.injEq]at hh
   obtain⟨rfl,rfl,rfl⟩:=hh
   have:=aT.Es (sz:=e0.sz) (fun x c B h=>aQ.len h) (fun x c B h=>aQ.len h) (fun x x' c B B' h h'=>aQ.Es h h') g9 hl (by omega)
   subst this
   exact⟨rfl,g9⟩
 obtain⟨hLn,hLr⟩:=hLn
 obtain⟨f,z,Ba,Bo,Bb,q1,rfl,q3,q4,q5,q6⟩:=aT.place hLr (i:=i.toNat) (by omega) hsub
 simp only[Ty.sz]at q3 q4
 rw[hoff]at q3 q6
 have hvx:(((c.toList.drop of).take (n*e0.sz)).drop (i.toNat*e0.sz+off)).take 1=[vx]:=by
  obtain⟨hq,hv⟩:=agB.1 (g12 rfl)
  rw[agP hq,hv];rfl
 rw[hvx]at q3
 have hz:z=l:=aQ.Es q3 (show aQ w (.sl e) l [vx] B from⟨vx,rfl,hB⟩)
 subst hz
 obtain⟨v',hv',hS⟩:=q3
 simp only[ahg,and_true]at hv'
 subst hv'
 exact⟨h3,blk,of,n,cap,c,el,f,Ba,Bo,Bb,g1,g2,g3,g4,g5,g10,g11,hS,q1,hLn,fun w' l' v' B' hk hS'=>q6 w' l' [v'] B' hk ⟨v',rfl,hS'⟩,fun l'=>(q5 l').trans hLn,hself,g6,hi0,g7,hsub,hoff⟩
theorem acJ (hC:CxTy P C) (hI:Inv w0 c0 U E a w G) {tk:Nat} (h3:4≤tk) (hU:¬U tk) {o:Oper} {c:Call}
 (ho:o.op= .call c) (hb:c.callee= .builtin .append) {x y:Operand} {t:TypeId} (hargs:c.args= #[x,y]) (htys:c.argTypes= #[t,t]) {ti:TI} (hti:C.tt t=some ti) {e e0:Ty} (hτ:ti.τ= .sl e)
 {l l2:List e.den} {L:List e0.den} {b:Nat} {hs ys:List Nat} {i:Int} {off:Nat} {p:List Bool} {m':M}
 (hx:bJ w G e l (a.eval x) (.nst b e0 i off p true)) (hy:bJ w G e l2 (a.eval y) m') (hgy:∀c∈m'.aE,Good U G c) (hys:m'.own=some ys) (hby:b∉ys)
 (hrow:bJ w G e0 L (G.hdr b) (.row b hs true)) (hgb:Good U G b) (hlen:l.length+l2.length<4294967296):
 Yields w0 c0 (fun u=>U u∨u=tk) (E.elem (tk::ys) b e0 L (.row b [b] true)) a ((execOp a.eval o).run P w) (.d ⟨.sl e,l++l2,.sl (.nst b e0 i off p false)⟩):=by
 obtain⟨hb3,blk,of,n,cap,cc,el,f,Ba,Bo,Bb,q1,q2,q3,q4,q5,q6,q7,hBx,q8,q9,XL,q11,q12,Z1,q14,q15,q16,q17⟩:=abj hx hrow
 have hT:=(hC.tt _ ti hti).2
 rw[hτ]at hT
 obtain⟨hu,hel⟩:=hT
 obtain⟨By,hBy,hny,hcy⟩:=hy.own hys
 have hys3:∀c∈ys,4≤c:=fun c hc=>Sh.jT (τ:= .sl e) (x:=l2) (sh:= .sl m') (cs:=[a.eval y]) ⟨_,rfl,hy⟩ hys c hc
 have hgys:∀c∈ys,Good U G c:=fun c hc=>hgy c (M.il hys c hc)
 have hbtk:b≠tk:=fun e=>hU (e▸hgb.2.1)
 have hytk:∀c∈ys,c≠tk:=fun c hc e=>hU (e▸(hgys c hc).2.1)
 have hrun:∀ {v':Value} {w':World},((Builtin.append_ #[t,t] o.type #[a.eval x,a.eval y]).run P w= .ok v' w')→(execOp a.eval o).run P w= .ok (.value v') w':=by
  intro v' w' hr
  simp only[execOp,ho]
  simp[resolve,hb,invoke,builtin,hargs,htys,hr]
 obtain⟨xs,hcx,hlx,hbx⟩:=hBx.cells
 obtain⟨ysc,hcyc,hly,_⟩:=hBy.cells
 have hBoIn:∀z∈Bo,G.col z=b:=fun z hz=>q7 z (by simp[hz])
 have hfr:∀ad k cap,a.eval x= .slice (some ad) k cap→0<cap→∃b off,ad=⟨b,off,none⟩∧∃c el',w.heap[b]?=some (.cells c el' (0,0))∧off+cap*e.sz≤c.size:=by
  intro ad k cap hv hc0
  obtain⟨b',off',had,hB,_,c',el',fz,hh,hsz,_⟩:=hbx ad k cap hv hc0
  obtain⟨c2,el2,hf⟩:=hI.fresh b' (by rw[hBoIn b' (by rw[hB];simp)];exact hb3)
  rw[hf]at hh;cases hh
  exact⟨b',off',had,_,_,hf,hsz⟩
 have hdis:∀z∈By,z≠blk∧z∉Ba++Bo++Bb:=fun z hz=>by
  have hcz:=hcy z hz
  refine⟨fun e=>hby (by rw[e,q3]at hcz;exact hcz),fun hin=>hby (by rw[q7 z hin]at hcz;exact hcz)⟩
 have hBo1:∀z∈Bo.drop 1,z∈Bo:=fun z hz=>ag0 hz
 have hBy1:∀z∈By.drop 1,z∈By:=fun z hz=>ag0 hz
 rw[agk]at q6
 obtain⟨q6a,q6b⟩:=q6
 have nd3:=q6b
 rw[af8,af8]at nd3
 obtain⟨⟨nA,nO,dAO⟩,nB,dAOB⟩:=nd3
 have ndNew:∀h:Nat,h∉Ba++Bb→h≠blk→h∉Bo.drop 1→h∉By.drop 1→(blk::(Ba++(h::(Bo.drop 1++By.drop 1))++Bb)).Nodup:=by
  intro h h1 h2 h4 h5
  simp only[afO,not_or]at h1
  have hBoN:(Bo.drop 1).Nodup:=nO.sublist (ag7 _ _)
  have hByN:(By.drop 1).Nodup:=hny.sublist (ag7 _ _)
  rw[agk,af8,af8,agk,af8]
  refine⟨?_,⟨nA,⟨fun hin=>(afO.1 hin).elim h4 h5,hBoN,hByN,fun x hx y hy e=> ?_⟩,fun x hx y hy e=> ?_⟩,nB,fun x hx y hy e=> ?_⟩
  ·simp only[afO,afN,not_or]at q6a⊢
   exact⟨⟨q6a.1.1,fun e=>h2 e.symm,fun hin=>q6a.1.2 (hBo1 _ hin),fun hin=>(hdis _ (hBy1 _ hin)).1 rfl⟩,q6a.2⟩
  ·subst e;exact(hdis x (hBy1 x hy)).2 (by simp[hBo1 x hx])
  ·subst e
   rcases afN.1 hy with rfl|hy
   ·exact h1.1 hx
   ·rcases afO.1 hy with hy|hy
    ·exact dAO x hx x (hBo1 x hy) rfl
    ·exact(hdis x (hBy1 x hy)).2 (by simp[hx])
  ·subst e
   rcases afO.1 hx with hx|hx
   ·exact dAOB x (by simp[hx]) x hy rfl
   ·rcases afN.1 hx with rfl|hx
    ·exact h1.2 hy
    ·rcases afO.1 hx with hx|hx
     ·exact dAOB x (by simp[hBo1 x hx]) x hy rfl
     ·exact(hdis x (hBy1 x hx)).2 (by simp[hy])
 have fin:∀ {G0:Gh} {w1 w':World} {v':Value} {Bn:List Nat},Inv w0 c0 (fun u=>U u∨u=tk) E a w1 G0→(∀c,U c→G0.hdr c=G.hdr c∧G0.bx c=G.bx c)→G0.bx tk=false→(∀z,z<w.heap.size→G0.col z=G.col z)→
  (execOp a.eval o).run P w= .ok (.value v') w'→w1.heap.size=w'.heap.size→w'.os=w1.os→w'.tape=w1.tape→w'.output=w1.output→
  (∀k,k∉Bo→w'.heap[k]?=w1.heap[k]?)→(∀k∈blk::(Ba++Bb),w'.heap[k]?=w.heap[k]?)→(∀k∈Bo,∃c el,w'.heap[k]?=some (.cells c el (0,0)))→dp w' e.sz (aQ w' e) l (a.eval x) Bo→
  dp w' e.sz (aQ w' e) (l++l2) v' Bn→(blk::(Ba++Bn++Bb)).Nodup→(∀z∈Bn,z∈Bo∨z∈By∨G0.col z=tk)→
  Yields w0 c0 (fun u=>U u∨u=tk) (E.elem (tk::ys) b e0 L (.row b [b] true)) a ((execOp a.eval o).run P w) (.d ⟨.sl e,l++l2,.sl (.nst b e0 i off p false)⟩):=by
  intro G0 w1 w' v' Bn hI1 hU0 hbx0 hcol0 hr hsz hos htp hout hag hkeep hfresh hS0 hS1 hnd hBn
  have hgb0:Good (fun u=>U u∨u=tk) G0 b:=⟨hgb.1,.inl hgb.2.1,by rw[(hU0 b hgb.2.1).2];exact hgb.2.2⟩
  have hts:∀c∈tk::ys,4≤c∧Good (fun u=>U u∨u=tk) G0 c:=by
   intro c hc
   rcases afN.1 hc with rfl|hc
   ·exact⟨h3,by omega,.inr rfl,hbx0⟩
   ·have:=hgys c hc
    exact⟨hys3 c hc,this.1,.inl this.2.1,by rw[(hU0 c this.2.1).2];exact this.2.2⟩
  have hhdr:G0.hdr b=G.hdr b:=(hU0 b hgb.2.1).1
  have hltx:∀z∈blk::(Ba++Bo++Bb),z<w.heap.size:=by
   intro z hz
   have hz3:G.col z=b:=by
    rcases afN.1 hz with rfl|hz
    ·exact q3
    ·exact q7 z hz
   exact hI.lt z (by omega)
  have hlty:∀z∈By,z<w.heap.size:=hBy.bounds
  have hbn:b∉tk::ys:=by simp[hbtk,hby]
  have hcolB:∀z∈blk::(Ba++Bo++Bb),(G0.aS (tk::ys) b (G0.hdr b)).col z=b:=by
   intro z hz
   have hz3:G.col z=b:=by
    rcases afN.1 hz with rfl|hz
    ·exact q3
    ·exact q7 z hz
   simp only[Gh.aS,hcol0 z (hltx z hz),hz3]
   rw[if_neg hbn]
  have hcolN:∀z∈Bn,(G0.aS (tk::ys) b (G0.hdr b)).col z=b:=by
   intro z hz
   rcases hBn z hz with h|h|h
   ·exact hcolB z (by simp[h])
   ·simp only[Gh.aS,hcol0 z (hlty z h)]
    rw[if_pos (afT _ (hcy z h))]
   ·simp only[Gh.aS,h]
    rw[if_pos (by simp)]
  have hAB:∀k∈Ba++Bb,w'.heap[k]?=w.heap[k]?:=fun k hk=>hkeep k (afT _ hk)
  have hblk:w'.heap[blk]?=some (.cells cc el (0,0)):=(hkeep blk (by simp)).trans q4
  have hrowL:aT (aQ w' e0) L ((cc.toList.drop of).take (n*e0.sz)) (Ba++Bo++Bb):=by
   have:=XL w' l (a.eval x) Bo hAB hS0
   rw[q8,q12]at this
   exact this
  have hI2:=hI1.acr (ts:=tk::ys) (b:=b) (e:=e0) (l:=L) (m:= .row b [b] true) (w':=w') hb3 hts hgb0 (fun c hc=>by simp only[M.aE,afN,af5,or_false,or_self]at hc;subst hc;exact hgb0) ?_ ?_ ?_ hsz hos htp hout
  ·refine⟨v',w',_,hr,hI2,⟨[v'],rfl,v',rfl,⟨Bn,hS1,hcolN⟩,q16,q17,hb3,q14,blk,of,n,cap,cc,el,f (l++l2),Ba++Bn++Bb,by simp[Gh.aS,hhdr,q1],q2,hcolB blk (by simp),hblk,q5,Z1,q15,q11 _,XL w' (l++l2) v' Bn hAB hS1,hnd,fun z hz=> ?_,by simp⟩,bf.d (fun c hc=> ?_),by rintro _ _ ⟨⟩⟩
   ·simp only[afO]at hz
    rcases hz with(hz|hz)|hz
    ·exact hcolB z (by simp[hz])
    ·exact hcolN z hz
    ·exact hcolB z (by simp[hz])
   ·simp only[Sh.aE,M.aE,afN,af5,or_false]at hc
    subst hc
    exact⟨hgb0.1,hgb0.2.1,by simp[Gh.aS]⟩
  ·rw[hhdr]
   refine⟨hb3,by simp[Gh.aS],blk::(Ba++Bo++Bb),?_,?_⟩
   ·rw[q1]
    refine .inr ⟨blk,of,cap,cc,el,(0,0),Ba++Bo++Bb,by rw[q9],by rw[q9];exact q2,hblk,q5,rfl,by rw[q9];exact hrowL⟩
   ·rintro h Bs ⟨⟩
    have hcolB':=hcolB
    rw[hhdr]at hcolB'
    exact⟨hcolB' blk (by simp),q6a,fun z hz=>by simp[hcolB' z (afT _ hz)],fun _=>q6b⟩
  ·intro k hk
   by_cases hin:k∈Bo
   ·exact absurd (hcolB k (by simp[hin])) hk
   ·exact hag k hin
  ·intro k hk
   by_cases hin:k∈Bo
   ·exact hfresh k hin
   ·rw[hag k hin]
    refine hI1.fresh k ?_
    simp only[Gh.aS]at hk
    split at hk
    ·rename_i h;exact(hts _ h).1
    ·rw[hk];exact hb3
 have hBoFr:∀k∈Bo,∃c el,w.heap[k]?=some (.cells c el (0,0)):=fun k hk=>hI.fresh k (by rw[hBoIn k hk];exact hb3)
 have hI0:=hI.ad8 (tk:=tk) hU
 rcases W7 (ty:=o.type) hu hel hcx hcyc (aT.Ya hly) hlen hfr with⟨hm0,hr⟩|⟨h,off2,cap2,hv,hcap,hc0,hr⟩|⟨cap2,rest,hcap,hsz,hr⟩
 ·
  have hl2:l2=[]:=agE.1 hm0
  subst hl2
  refine fin (Bn:=Bo) hI0 (fun c hc=>⟨rfl,if_neg (fun e:c=tk=>hU (e▸hc))⟩) (by simp) (fun _ _=>rfl) (hrun hr) rfl rfl rfl rfl (fun _ _=>rfl) (fun _ _=>rfl) hBoFr hBx (by simpa using hBx) (agk.2 ⟨q6a,q6b⟩) (fun z hz=> .inl hz)
 ·
  obtain⟨h0,off0,had,c2,el2,hh,hsz⟩:=hfr _ _ cap2 hv hc0
  cases had
  obtain⟨h1,off1,had,hB,_,c',el',fz,hh',_,hxs⟩:=hbx _ _ cap2 hv hc0
  cases had
  rw[hh]at hh';cases hh'
  have hyl:=hcyc.1
  have hxl:=hcx.1
  have hmul:(l.length+l2.length)*e.sz≤cap2*e.sz:=af7 _ hcap
  rw[agn]at hmul
  have hrow':=fO h (el:=el2) ysc (off2+l.length*e.sz) w c2 hh (by omega)
  have hhBo:h∈Bo:=by rw[hB];simp
  have hhN:h∉Bo.drop 1:=by
   have:=nO
   rw[hB,agk]at this
   exact this.1
  have hhAB:h∉Ba++Bb:=by
   intro hin
   rcases afO.1 hin with hin|hin
   ·exact dAO h hin h hhBo rfl
   ·exact dAOB h (by simp[hhBo]) h hin rfl
  have hhblk:h≠blk:=by
   rintro rfl
   simp only[afO,not_or]at q6a
   exact q6a.1.2 hhBo
  have hhBy:h∉By:=fun hin=>(hdis h hin).2 (by simp[hhBo])
  have hhBy1:h∉By.drop 1:=fun hin=>hhBy (hBy1 h hin)
  have hother:∀k,k≠h→(w.setCells h (off2+l.length*e.sz) ysc).heap[k]?=w.heap[k]?:=fun k hk=>bC h _ _ w k hk
  have htl:(c2.toList.take (off2+l.length*e.sz)).length=off2+l.length*e.sz:=by simp;omega
  have hpre:((c2.toList.take (off2+l.length*e.sz)++ysc++c2.toList.drop (off2+l.length*e.sz+ysc.length)).drop off2).take (l.length*e.sz)=xs:=by
   rw[af6,af3 (by omega),af9 (by simp;omega),agb,hxs,agm,agi (by omega)]
  have hcells:((c2.toList.take (off2+l.length*e.sz)++ysc++c2.toList.drop (off2+l.length*e.sz+ysc.length)).drop off2).take ((l++l2).length*e.sz)=xs++ysc:=by
   rw[af6,af3 (by omega),agb,hxs]
   rw[show off2+l.length*e.sz-off2=l.length*e.sz by omega]
   rw[←af6]
   have hlen1:(List.take (l.length*e.sz) (List.drop off2 c2.toList)++ysc).length=(l++l2).length*e.sz:=by
    rw[agD,hyl,←hxs,hxl,agD,agn]
   rw[←hlen1,ahi]
  have hlx':aT (aQ (w.setCells h (off2+l.length*e.sz) ysc) e) l xs (Bo.drop 1):=aT.world (fun z hz=>hother z (fun e=>hhN (e▸hz))) hlx
  have hly':aT (aQ (w.setCells h (off2+l.length*e.sz) ysc) e) l2 ysc (By.drop 1):=aT.world (fun z hz=>hother z (fun e=>hhBy1 (e▸hz))) hly
  refine fin (Bn:=h::(Bo.drop 1++By.drop 1)) hI0 (fun c hc=>⟨rfl,if_neg (fun e:c=tk=>hU (e▸hc))⟩) (by simp) (fun _ _=>rfl) (hrun hr) (by rw[dY]) (bV h _ _ w).1 (bV h _ _ w).2.1 (bV h _ _ w).2.2
   (fun k hk=>hother k (fun e=>hk (e▸hhBo))) (fun k hk=>hother k (fun e=> ?_)) (fun k hk=> ?_) ?_ ?_ (ndNew h hhAB hhblk hhN hhBy1) (fun z hz=> ?_)
  ·subst e
   rcases afN.1 hk with hk|hk
   ·exact hhblk hk
   ·exact hhAB hk
  ·by_cases e1:k=h
   ·subst e1;exact⟨_,_,hrow'⟩
   ·rw[hother k e1];exact hBoFr k hk
  ·rw[hv]
   refine .inr ⟨h,off2,cap2,_,el2,(0,0),Bo.drop 1,rfl,by omega,hrow',?_,hB,?_⟩
   ·simp;omega
   ·show aT _ _ ((((c2.toList.take (off2+l.length*e.sz)++ysc++c2.toList.drop (off2+l.length*e.sz+ysc.length)).toArray.toList.drop off2).take (l.length*e.sz))) _
    rw[agA,hpre];exact hlx'
  ·refine .inr ⟨h,off2,cap2,_,el2,(0,0),Bo.drop 1++By.drop 1,by simp,by simpa using hcap,hrow',?_,rfl,?_⟩
   ·simp;omega
   ·show aT _ _ ((((c2.toList.take (off2+l.length*e.sz)++ysc++c2.toList.drop (off2+l.length*e.sz+ysc.length)).toArray.toList.drop off2).take ((l++l2).length*e.sz))) _
    rw[agA,hcells]
    exact aT.append hlx' hly'
  ·rcases afN.1 hz with rfl|hz
   ·exact .inl hhBo
   ·rcases afO.1 hz with hz|hz
    ·exact .inl (hBo1 z hz)
    ·exact .inr (.inl (hBy1 z hz))
 ·
  have hI1:=(hI.drawn (w.drawn+1)).alloc h3 hU (xs++ysc++rest).toArray ti.el (.slice (some ⟨w.heap.size,0,none⟩) (l.length+l2.length) cap2) false
  have hgv2:∀z,z<w.heap.size→(G.add w.heap.size tk (.slice (some ⟨w.heap.size,0,none⟩) (l.length+l2.length) cap2) false).col z=G.col z:=fun z hz=>by
   simp[Gh.add,Nat.ne_of_lt hz]
  have hold:∀k,k<w.heap.size→(w.drew.alloc (.cells (xs++ysc++rest).toArray ti.el)).heap[k]?=w.heap[k]?:=fun k hk=>heap_alloc_old w.drew _ k hk
  have hltx:∀z∈blk::(Ba++Bo++Bb),z<w.heap.size:=by
   intro z hz
   have hz3:G.col z=b:=by
    rcases afN.1 hz with rfl|hz
    ·exact q3
    ·exact q7 z hz
   exact hI.lt z (by omega)
  have hlty:∀z∈By,z<w.heap.size:=hBy.bounds
  have hnin:∀ {z:Nat},z<w.heap.size→z≠w.heap.size:=fun h=>Nat.ne_of_lt h
  refine fin (Bn:=w.heap.size::(Bo.drop 1++By.drop 1)) hI1 (fun c hc=> ?_) (by simp[Gh.add]) hgv2 (hrun hr) rfl rfl rfl rfl (fun _ _=>rfl) (fun k hk=>hold k (hltx k ?_)) (fun k hk=> ?_) ?_ ?_ (ndNew _ ?_ ?_ ?_ ?_) (fun z hz=> ?_)
  ·have:c≠tk:=fun e=>hU (e▸hc)
   simp[Gh.add,this]
  ·simp only[afN,afO]at hk⊢
   rcases hk with hk|hk|hk<;>simp[hk]
  ·rw[hold k (hltx k (by simp[hk]))];exact hBoFr k hk
  ·exact dp.mono (fun z hz=>hold z (hltx z (by simp[hz]))) hBx
  ·refine .inr ⟨w.heap.size,0,cap2,_,ti.el,(0,0),Bo.drop 1++By.drop 1,by simp,by simpa using hcap,heap_alloc_new _ _,by simpa using hsz,rfl,?_⟩
   have hxl:=hcx.1
   have hyl:=hcyc.1
   have hcells:(((xs++ysc++rest).toArray.toList.drop 0).take ((l++l2).length*e.sz))=xs++ysc:=by
    have hlen1:(xs++ysc).length=(l++l2).length*e.sz:=by rw[agD,hyl,hxl,agD,agn]
    simp only[agJ]
    rw[←hlen1,ahi]
   rw[hcells]
   exact aT.append (aT.world (w:=w) (fun z hz=>hold z (hltx z (by simp[hBo1 z hz]))) hlx) (aT.world (w:=w) (fun z hz=>hold z (hlty z (hBy1 z hz))) hly)
  ·intro hin;exact agO _ (hltx _ (by simp only[afN,afO]at hin⊢;rcases hin with h|h<;>simp[h]))
  ·exact fun e=>agO _ (hltx _ (by simp[e]))
  ·exact fun hin=>agO _ (hltx _ (by simp[hBo1 _ hin]))
  ·exact fun hin=>agO _ (hlty _ (hBy1 _ hin))
  ·rcases afN.1 hz with rfl|hz
   ·exact .inr (.inr (by simp[Gh.add]))
   ·rcases afO.1 hz with hz|hz
    ·exact .inl (hBo1 z hz)
    ·exact .inr (.inl (hBy1 z hz))
theorem ZP (hC:CxTy P C) (hI:Inv w0 c0 U E a w G) {o:Oper} {t:TypeId} {x y:Operand} (ho:o.op= .store t x y) {ti:TI} (hti:C.tt t=some ti) {σ e:Ty} (hτ:ti.τ= .sl σ)
 {l:List e.den} {z:List σ.den} {b:Nat} {hs:List Nat} {i:Int} {off:Nat} {p:List Bool} {fr:Bool} {bk of n cap:Nat} {r:e.den×Sh}
 (hx:bJ w G σ z (a.eval y) (.nst b e i off p fr)) (hrow:bJ w G e l (G.hdr b) (.row b hs true)) (hhs:hs.all (·=b)=true) (hgb:Good U G b)
 (k2:G.hdr b= .slice (some ⟨bk,of,none⟩) n cap) (k5:a.eval x= .pointer (some ⟨bk,of+i.toNat*e.sz+off,none⟩))
 (hr:eL e (l.getD i.toNat e.aa) (fD e (.sha [])) p ⟨.sl σ,z,.sl (.sha [])⟩=some r):
 ∃w' G',(execOp a.eval o).run P w= .ok .skip w'∧Inv w0 c0 U (E.elem [] b e (l.set i.toNat r.1) (.row b [b] true)) a w' G':=by
 obtain⟨⟨B,hB,hc⟩,hsub,hoff,h3,hi0,blk,of',n',cap',c,el,L0,Bs,g1,g2,g3,g4,g5,g6,g7,g8,g9,g10,g11,g12⟩:=hx
 rw[k2]at g1
 simp only[Value.slice.injEq,afL,Addr.mk.injEq,and_true]at g1
 obtain⟨⟨rfl,rfl⟩,rfl,rfl⟩:=g1
 obtain⟨hn,hcap,c',el',fz,Bs0,hh,hsz,hl,hnd,hcb,hcB⟩:=Gn hrow hhs k2 (by omega)
 rw[g4]at hh
 simp only[afL,Obj.cells.injEq]at hh
 obtain⟨rfl,rfl,rfl⟩:=hh
 have hi:i.toNat<l.length:=by omega
 have hget:l[i.toNat]?=some (l.getD i.toNat e.aa):=by
  rw[afM,afY hi];rfl
 obtain⟨B1,Bx,B2,rfl,hx1,hx2,hx3⟩:=aT.get (sz:=e.sz) (fun x c B h=>aQ.len h) hl hget
 obtain⟨Ba,Bo,Bb,rfl,hput,hle⟩:=aQ.put (v:=⟨.sl σ,z,.sl (.sha [])⟩) (cv:=[a.eval y]) hr hx1 (show aQ w (.sl σ) z [a.eval y] B from⟨_,rfl,hB⟩)
 have hset:=aT.set (sz:=e.sz) hi hput hx2 hx3
 have hmul:(i.toNat+1)*e.sz≤l.length*e.sz:=af7 _ hi
 have hmul2:l.length*e.sz≤cap*e.sz:=af7 _ hcap
 rw[agn,agz]at hmul
 rw[hoff]at hput hset hle
 have hsp:cJ (i.toNat*e.sz+off) [a.eval y] ((c.toList.drop of).take (l.length*e.sz))=
  ((c.toList.drop of).take (l.length*e.sz)).take (i.toNat*e.sz)++cJ off [a.eval y] ((((c.toList.drop of).take (l.length*e.sz)).drop (i.toNat*e.sz)).take e.sz)++((c.toList.drop of).take (l.length*e.sz)).drop ((i.toNat+1)*e.sz):=by
  rw[uf (sz:=e.sz) (by simpa using g7),agn,agz]
 rw[←hsp]at hset
 rw[←hn]at hset
 have hL:L0=l.set i.toNat r.1:=aT.Es (sz:=e.sz) (fun x c B h=>aQ.len h) (fun x c B h=>aQ.len h) (fun x x' c B B' h h'=>aQ.Es h h') g9 hset (by simp;omega)
 subst hL
 have hO:of+i.toNat*e.sz+off+1≤c.size:=by omega
 have hrow':=fO bk (el:=el) [a.eval y] (of+i.toNat*e.sz+off) w c g4 (by simpa using hO)
 have hT:=(hC.tt t ti hti).1
 have hone:(a.eval y).oneCell'=true:=hB.one
 have hrun:=uj (P:=P) (t:=t) (τ:=ti.τ) hT g4 (o:=of+i.toNat*e.sz+off) (cs:=[a.eval y]) (by rw[hτ];simpa[Ty.sz]using hO) (by rw[hτ];rfl) (by simpa using hone) k5
 have hother:∀k,k≠bk→(w.setCells bk (of+i.toNat*e.sz+off) [a.eval y]).heap[k]?=w.heap[k]?:=fun k hk=>bC bk _ _ w k hk
 rw[agk]at g10
 have hcol:∀k,(G.aS [] b (G.hdr b)).col k=G.col k:=fun k=>by simp[Gh.aS]
 have hI2:=hI.acr (ts:=[]) (b:=b) (e:=e) (l:=l.set i.toNat r.1) (m:= .row b [b] true) (w':=w.setCells bk (of+i.toNat*e.sz+off) [a.eval y]) h3 (by simp) hgb
  (fun c hc=>by simp only[M.aE,afN,af5,or_false,or_self]at hc;subst hc;exact hgb) ?_ (fun k hk=>hother k (fun e1=>hk (by rw[hcol,e1,g3]))) (fun k hk=> ?_)
  (by rw[dY]) (bV _ _ _ w).1 (bV _ _ _ w).2.1 (bV _ _ _ w).2.2
 ·refine⟨_,_,?_,hI2⟩
  simp only[execOp,ho]
  have hmk:cw ti.τ [a.eval y]=a.eval y:=by rw[hτ];rfl
  rw[hmk]at hrun
  simp[hrun]
 ·rw[k2]
  refine⟨h3,by simp[Gh.aS],bk::Bs,.inr ⟨bk,of,cap,_,el,(0,0),Bs,by simp[hn],by simpa using hcap,hrow',by simp;omega,rfl,?_⟩,?_⟩
  ·show aT _ _ ((((c.toList.take (of+i.toNat*e.sz+off)++[a.eval y]++c.toList.drop (of+i.toNat*e.sz+off+ [a.eval y].length)).toArray.toList.drop of).take ((l.set i.toNat r.1).length*e.sz))) _
   rw[agA]
   have hcells:((cJ (of+i.toNat*e.sz+off) [a.eval y] c.toList).drop of).take ((l.set i.toNat r.1).length*e.sz)=cJ (i.toNat*e.sz+off) [a.eval y] ((c.toList.drop of).take (n*e.sz)):=by
    rw[zp (by omega) (by simp;omega),zx (by simp;omega) (by simp;omega),show of+i.toNat*e.sz+off-of=i.toNat*e.sz+off by omega]
    simp[hn]
   show aT _ _ (((cJ (of+i.toNat*e.sz+off) [a.eval y] c.toList).drop of).take ((l.set i.toNat r.1).length*e.sz)) _
   rw[hcells]
   exact aT.world (fun k hk=>hother k (fun e1=>g10.1 (e1▸hk))) g9
  ·rintro h Bs' ⟨⟩
   exact⟨by simp[Gh.aS,g3],g10.1,fun x hx=>by simp[Gh.aS,g11 x hx],fun _=>g10.2⟩
 ·by_cases e1:k=bk
  ·subst e1;exact⟨_,_,hrow'⟩
  ·rw[hother k e1]
   rw[hcol]at hk
   exact hI.fresh k (by rw[hk];exact h3)
theorem Z4 (hC:n0 P C) (hI:Inv w0 c0 U E a w G) (hR:RI ops E a.tmps) {tk:Nat} (h3:4≤tk) (hU:∀u,tk≤u→u<tk+32→¬U u) {o:Oper} {ef:Ef}
 (h:qa C ops E.rd tk o=some ef):RA P w0 c0 (fun u=>U u∨(tk≤u∧u<tk+32)) E a ((execOp a.eval o).run P w) ef:=by
 have hC':=hC.toCxTy
 have hg:Gd ops a.tmps none:=by rintro j w' ⟨⟩
 unfold qa at h
 split at h
 ·
  rename_i t x ho
  split at h
  ·rename_i ti b e i off p τ hti harg
   split at h
   ·rename_i l hs nd hrow
    obtain⟨hc,h⟩:=Option.ite_none_right_eq_some.mp h
    split at h
    ·rename_i σ z sh hsub
     simp only[afL]at h
     subst h
     simp only[afS,decide_eq_true_eq]at hc
     obtain⟨⟨⟨⟨rfl,hhs⟩,_⟩,rfl⟩,hsb⟩:=hc
     obtain⟨h1,_⟩:=eX hI hR hg harg
     obtain⟨bk,of,n,cap,hb3,k2,k3,k4,k5⟩:=h1
     obtain⟨⟨vh,hvh⟩,hgood⟩:=hI.dx hrow
     have hvh0:vh=G.hdr b:=hvh.2.1.symm
     rw[hvh0]at hvh
     have hti2:ti.τ= .sl σ:=by
      have:=Ck hsub
      rw[hsb]at this
      simpa using this
     rw[hti2]at hsb
     obtain⟨c,el,z',v,g1,g2,g3,g4⟩:=Zn hvh hhs k2 k3 k4 hsb hI
     have hT:=(hC'.tt t ti hti).1
     have hrun:(execOp a.eval o).run P w= .ok (.value v) w:=by
      have hl:=oq hT g1 (o:=of+i.toNat*e.sz+e.off p) (by rw[hti2];exact g2)
      rw[hti2,show(Ty.sl σ).sz=1 from rfl,g3,show cw (.sl σ) [v]=v from rfl]at hl
      simp only[execOp,ho]
      refine dK ?_
      simp only[Instr.loadAt,k5,Instr.sureAddr]
      simpa using hl
     have hz:z'=z:=by
      obtain⟨_,hcap,c2,el2,fz,Bs,hh,hsz,hl,_⟩:=Gn hvh hhs k2 (by omega)
      rw[g1]at hh
      simp only[afL,Obj.cells.injEq]at hh
      obtain⟨rfl,rfl,rfl⟩:=hh
      have hi:i.toNat<l.length:=toNat_lt k3 (by obtain⟨hn,_⟩:=Gn hvh hhs k2 (by omega);rw[←hn];exact k4)
      obtain⟨f,z2,Ba,Bo,Bb,q1,_,q3,q4,_,_⟩:=aT.place hl hi hsb
      simp only[Ty.sz]at q3 q4
      rw[agb,agm,agl,agi (by omega),←agN,g3]at q3
      have hget:l[i.toNat]?=some (l.getD i.toNat e.aa):=by
       rw[afM,afY hi];rfl
      obtain⟨B1,Bx,B2,_,hx1,_,_⟩:=aT.get (sz:=e.sz) (fun x c B h=>aQ.len h) hl hget
      have hv2:=JB hsub hx1
      obtain⟨Bv,hv2⟩:=hv2
      have hmul:(i.toNat+1)*e.sz≤l.length*e.sz:=af7 _ hi
      rw[agn,agz]at hmul
      have hpo:=A3 hsb
      simp only[Ty.sz]at hv2 hpo
      rw[agb,agm,agl,agi (by omega),agb,agm,agl,agi (by omega),←agN,g3]at hv2
      obtain⟨⟨B4,g4,_⟩,_⟩:=g4
      exact aQ.Es (show aQ w (.sl σ) z' [v] B4 from⟨v,rfl,g4⟩) hv2
     subst hz
     exact cu (hI.mono (fun u hu=> .inl hu)) hrun ⟨[v],rfl,v,rfl,g4⟩ (bf.d (fun c hc=>by
      simp only[Sh.aE,M.aE,ago]at hc
      subst hc
      have:=hgood c (by simp)
      exact⟨this.1,.inl this.2.1,this.2.2⟩)) (by rintro _ _ ⟨⟩)
    ·cases h
   ·cases h
  ·cases h
 ·
  rename_i t x y ho
  split at h
  ·rename_i ti b e i off p τ σ z b' e' i' off' p' fr hti harg hv
   split at h
   ·rename_i l hs nd hrow
    obtain⟨hc,h⟩:=Option.ite_none_right_eq_some.mp h
    obtain⟨r,hr,h⟩:=af1.mp h
    subst h
    simp only[afS,decide_eq_true_eq]at hc
    obtain⟨⟨⟨⟨⟨⟨⟨⟨⟨rfl,hhs⟩,rfl⟩,rfl⟩,rfl⟩,rfl⟩,hoff⟩,hsb⟩,hστ⟩,hτ⟩:=hc
    intro hcd
    have hii:i=i':=of_decide_eq_true hcd
    subst hii
    obtain⟨h1,_⟩:=eX hI hR hg harg
    obtain⟨bk,of,n,cap,hb3,k2,k3,k4,k5⟩:=h1
    obtain⟨⟨vh,hvh⟩,hgood⟩:=hI.dx hrow
    have hvh0:vh=G.hdr b':=hvh.2.1.symm
    rw[hvh0]at hvh
    obtain⟨m,hm,hx,_,_⟩:=jk hI hR hg hv
    cases hm
    obtain⟨w',G',q1,q2⟩:=ZP hC' hI ho hti (hτ.symm.trans hστ.symm) hx hvh hhs (hgood b' (by simp)) k2 k5 hr
    exact .inr ⟨rfl,w',G',q1,q2.mono fun u hu=> .inl hu⟩
   ·cases h
  ·cases h
 ·
  rename_i c ho
  split at h
  ·rename_i x y t u hb ha hts
   have hargs:c.args= #[x,y]:=ahe (by simpa using ha)
   have htys:c.argTypes= #[t,u]:=ahe (by simpa using hts)
   split at h
   ·rename_i ti e l b E0 i off p e' l' m' hti hx hy
    split at h
    ·rename_i l2 L hs nd ys hl2 hrow hys
     have hcast:=cV hl2
     simp only[TV.mk.injEq]at hcast
     obtain⟨he,hl,_⟩:=hcast
     cases he
     cases hl
     obtain⟨hc,h⟩:=Option.ite_none_right_eq_some.mp h
     simp only[afL]at h
     subst h
     simp only[afS,decide_eq_true_eq,af4,afQ,decide_eq_false_iff_not]at hc
     obtain⟨⟨⟨⟨rfl,hhs⟩,hby⟩,hτ⟩,rfl⟩:=hc
     intro hcd
     have hlen:l.length+l2.length<4294967296:=of_decide_eq_true hcd
     obtain⟨mx,hmx,hrx,_,_⟩:=jk hI hR hg hx
     cases hmx
     obtain⟨my,hmy,hry,_,hgy⟩:=jk hI hR hg hy
     cases hmy
     obtain⟨⟨vh,hvh⟩,hgood⟩:=hI.dx hrow
     have hvh0:vh=G.hdr b:=hvh.2.1.symm
     rw[hvh0]at hvh
     exact .inl ((acJ hC' hI h3 (hU tk (afR _) (by omega)) ho hb hargs htys hti hτ hrx hry hgy hys hby hvh (hgood b (by simp)) hlen).mono fun u hu=>hu.imp id fun e=>by omega)
    ·cases h
   ·cases h
  ·cases h
 ·cases h
theorem W4 {R:Rd} {tk:Nat} {o:Oper} {gv:List Nat} {b:Nat} {e:Ty} {l:List e.den} {m:M} (h:qa C ops R tk o=some (.elem gv b e l m)):False:=by
 unfold qa at h
 split at h
 ·split at h
  ·split at h
   ·obtain⟨_,h⟩:=Option.ite_none_right_eq_some.mp h
    split at h<;>cases h
   ·cases h
  ·cases h
 ·split at h
  ·split at h
   ·obtain⟨_,h⟩:=Option.ite_none_right_eq_some.mp h
    obtain⟨r,_,h⟩:=af1.mp h
    cases h
   ·cases h
  ·cases h
 ·split at h
  ·split at h
   ·split at h
    ·obtain⟨_,h⟩:=Option.ite_none_right_eq_some.mp h
     cases h
    ·cases h
   ·cases h
  ·cases h
 ·cases h
theorem ZV {R:Rd} {tk:Nat} {o:Oper} {gv:List Nat} {b:Nat} {e:Ty} {l:List e.den} {m:M} (h:iK C ops R tk g o=some (.elem gv b e l m)):bl C ops R tk g o=some (.elem gv b e l m):=by
 unfold iK at h
 split at h
 ·split at h
  ·rename_i ef hn
   cases h
   exact(W4 hn).elim
  ·exact h
 ·exact h
theorem QV (hC:n0 P C) (hI:Inv w0 c0 U E a w G) (hR:RI ops E a.tmps) (hg:Gd ops a.tmps g) {tk:Nat} (h3:4≤tk) (hU:∀u,tk≤u→u<tk+32→¬U u) {o:Oper} {ef:Ef}
 (h:iK C ops E.rd tk g o=some ef):RA P w0 c0 (fun u=>U u∨(tk≤u∧u<tk+32)) E a ((execOp a.eval o).run P w) ef:=by
 unfold iK at h
 split at h
 ·split at h
  ·rename_i ef' hn
   cases h
   exact Z4 hC hI hR h3 hU hn
  ·exact Vq hC hI hR hg h3 hU h
 ·exact Vq hC hI hR hg h3 hU h
end
section
variable {P:Program} {C:Cx} {w0:World} {c0:C0} {U:Nat→Prop} {E:Env} {a:Act} {w:World} {G:Gh} {ops:List Oper} {g:Option (Nat×Bool)} {L:Nat→Prop}
def lM (ops:List Oper) (L:Nat→Prop) (E:Env) (tmps:Array Value):Prop:=
 ∀s j w act v,E.s.getD s .no= .g j w act v→(act=true↔yielded ops.toArray tmps j=some w)∧L j∧∃o∈ops,∃w',o.guard=some (j,w')
theorem lM.ri {tmps:Array Value} (h:lM ops L E tmps):RI ops E tmps:=fun s j w act v hs=>(h s j w act v hs).1
theorem lM.map {tmps:Array Value} (h:lM ops L E tmps) {E':Env} (hE:∀s j w act v,E'.s.getD s .no= .g j w act v→∃v',E.s.getD s .no= .g j w act v'):lM ops L E' tmps:=by
 intro s j w act v hs
 obtain⟨v',h'⟩:=hE s j w act v hs
 exact h s j w act v' h'
theorem BC {f:M→M} {fe:Nat→Bool} {fr:List Nat→Option (List Nat)} {s:SV} {j:Nat} {w act:Bool} {v:SV} (h:s.mapM f fe fr= .g j w act v):∃v',s= .g j w act v':=by
 cases s with
 |g j' w' act' u=>simp only[SV.mapM,SV.g.injEq]at h;obtain⟨rfl,rfl,rfl,_⟩:=h;exact⟨u,rfl⟩
 |ept t' e i o p τ=>simp only[SV.mapM]at h;split at h<;>cases h
 |rdp hs v=>simp only[SV.mapM]at h;split at h<;>cases h
 |_=>simp[SV.mapM]at h
theorem Vo {b:Nat} {e:Ty} {y:List e.den} {m:M} {s:SV} {j:Nat} {w act:Bool} {v:SV} (h:s.setRow b e y m= .g j w act v):∃v',s= .g j w act v':=by
 cases s with
 |g j' w' act' u=>simp only[SV.setRow,SV.g.injEq]at h;obtain⟨rfl,rfl,rfl,_⟩:=h;exact⟨u,rfl⟩
 |rdp hs v=>simp only[SV.setRow]at h;split at h<;>cases h
 |_=>simp[SV.setRow]at h
theorem U6 {ts:List Nat} {s j:Nat} {w act:Bool} {v:SV} (h:(E.kill ts).s.getD s .no= .g j w act v):∃v',E.s.getD s .no= .g j w act v':=by
 rw[Env.C5]at h
 split at h
 ·exact⟨v,h⟩
 ·exact BC h
theorem Xs {ts:List Nat} {rp:List (Nat×Nat)} {s j:Nat} {w act:Bool} {v:SV} (h:(E.bS ts rp).s.getD s .no= .g j w act v):∃v',E.s.getD s .no= .g j w act v':=by
 rcases FL E ts rp s with h'|⟨b,b',e,i,o,p,τ,_,_,h'⟩
 ·rw[h']at h;exact U6 h
 ·have:=h'.symm.trans h;cases this
theorem adC {ts:List Nat} {t s j:Nat} {w act:Bool} {v:SV} (h:(E.aS ts t).s.getD s .no= .g j w act v):∃v',E.s.getD s .no= .g j w act v':=by
 unfold Env.aS at h
 split at h
 ·exact⟨v,h⟩
 ·have:=getD_map (L:=E.s) (T:=SV.aS ts t) rfl s
  rw[this]at h
  exact BC h
theorem T4 {gv:List Nat} {b:Nat} {e:Ty} {l:List e.den} {m:M} {s j:Nat} {w act:Bool} {v:SV} (h:(E.elem gv b e l m).s.getD s .no= .g j w act v):∃v',E.s.getD s .no= .g j w act v':=by
 have:=getD_map (L:=E.s) (T:=fun s=>((s.aS gv b).bw b).setRow b e l m) rfl s
 simp only[Env.elem]at h
 rw[this]at h
 obtain⟨v1,h1⟩:=Vo h
 obtain⟨v2,h2⟩:=BC h1
 exact BC h2
theorem N9 {l:List (Nat×Nat×TV)} {K:List SV} {s j:Nat} {w act:Bool} {v:SV} (h:(bu l K).getD s .no= .g j w act v):K.getD s .no= .g j w act v:=by
 rcases we l K s with h'|⟨t,u,_,h'⟩
 ·rw[←h'];exact h
 ·rw[h']at h;cases h
theorem We {a:Act} {d:Option Nat} {v:Value} {j:Nat} (h:∀x,d=some x→(ops[j]?).bind (·.dst)≠some x):
 yielded ops.toArray (a.put d v).tmps j=yielded ops.toArray a.tmps j:=by
 cases d with
 |none=>rfl
 |some d=>
  unfold yielded
  simp only[agr]
  cases hd:(ops[j]?).bind (·.dst)with
  |none=>rfl
  |some s=>
   have hne:d≠s:=fun e=>h d rfl (by rw[hd,e])
   simp[Act.put,Array.getElem?_setIfInBounds_ne hne]
theorem Tk (h:fq ops=true) {o:Oper} (ho:o∈ops) {j:Nat} {w:Bool} (hg:o.guard=some (j,w)) {i:Nat} {o':Oper} (hi:ops[i]?=some o') (hne:i≠j):
 ∀x,o'.dst=some x→(ops[j]?).bind (·.dst)≠some x:=by
 intro x hx
 unfold fq at h
 rw[afX]at h
 obtain⟨k,hk,rfl⟩:=List.mem_iff_getElem.1 ho
 have:=h (ops[k],k) (agx.2 (afY hk))
 simp only[hg,afS]at this
 obtain⟨_,this⟩:=this
 split at this
 ·cases this
 ·rename_i d hd
  rw[afX]at this
  have h2:=this (o',i) (agx.2 hi)
  simp only[agI,decide_eq_true_eq,hne,false_or]at h2
  intro e
  rw[hd]at e
  cases e
  exact h2 hx
theorem zI (h:fq ops=true) {i:Nat} {o:Oper} (hi:ops[i]?=some o) {j:Nat} {w:Bool} (hg:o.guard=some (j,w)):j<i:=by
 unfold fq at h
 rw[afX]at h
 have:=h (o,i) (agx.2 hi)
 simp only[hg,afS,decide_eq_true_eq]at this
 exact this.1
theorem CN (hI:Inv w0 c0 U E a w G) {j:Nat} {w':Bool} {act:Option Bool} (h:guardOf ops E.rd (some (j,w'))=some act):
 ∃b,act=some b∧(b=true↔yielded ops.toArray a.tmps j=some w'):=by
 simp only[guardOf]at h
 split at h
 ·cases h
 ·rename_i s hs
  have hsl:=hI.slots s
  have hget:∀x:Bool,a.tmps.getD s undef= .bool x→yielded ops.toArray a.tmps j=some x:=by
   intro x hx
   unfold yielded
   simp only[agr,hs,agG]
   rw[agM]at hx
   cases hq:a.tmps[s]? with
   |none=>rw[hq]at hx;cases hx
   |some v=>rw[hq]at hx;simp at hx;rw[hx]
  have hnone:a.tmps.getD s undef=undef→yielded ops.toArray a.tmps j=none:=by
   intro hx
   unfold yielded
   simp only[agr,hs,agG]
   rw[agM]at hx
   cases hq:a.tmps[s]? with
   |none=>rfl
   |some v=>rw[hq]at hx;simp at hx;rw[hx];rfl
  have hbool:∀ {x:Bool} {sh:Sh} {mv:Value},bU w G (.d ⟨.bool,x,sh⟩) mv→mv= .bool x:=by
   intro x sh mv hv
   obtain⟨cs,h1,h2⟩:=hv
   cases sh with
   |leaf=>rw[h1,show cs=_ from h2];rfl
   |sl m=>exact h2.elim
   |pair a b=>exact h2.elim
  split at h
  ·rename_i x sh hx
   cases h
   have hv:E.s.getD s .no= .d ⟨.bool,x,sh⟩:=by
    have:bA (E.s.getD s .no)= .d ⟨.bool,x,sh⟩:=hx
    cases hq:E.s.getD s .no with
    |d v=>rw[hq]at this;exact this
    |_=>rw[hq]at this;simp[bA]at this
   rw[hv]at hsl
   refine⟨_,rfl,?_⟩
   rw[hget x (hbool hsl)]
   simp
  ·rename_i j' w'' act' x sh hx
   cases h
   obtain⟨u',hv,hu⟩:=XB (sv:=E.s.getD s .no) hx
   have hu':u'= .d ⟨.bool,x,sh⟩:=by
    cases u' with
    |d v=>exact hu.symm
    |_=>simp[bA]at hu
   subst hu'
   rw[hv]at hsl
   refine⟨_,rfl,?_⟩
   cases act' with
   |true=>
    rw[hget x (hbool (hsl.1 rfl).2)]
    simp
   |false=>
    rw[hnone (hsl.2 rfl)]
    simp
  ·cases h
theorem C6 (v:SV) (o:Option (Nat×Bool)):dh o none v=v.iP:=by
 unfold dh;split<;>simp_all
theorem ad4 {v:SV} {mv:Value} (hs:bU w G v mv) (hm:bf U G v):bU w G v.iP mv∧bf U G v.iP:=by
 cases v with
 |g=>exact⟨trivial,by simp[bf,SV.iP,SV.sc,SV.bt,SV.rt]⟩
 |_=>exact⟨hs,hm⟩
theorem acT {v:SV} {t:Nat} {u:TV} (h:v.iP= .box t u):v= .box t u:=by
 cases v with
 |g=>cases h
 |_=>exact h
theorem acu {v u:SV} {j:Nat} {w act:Bool}:v.iP≠ .g j w act u:=by
 cases v<;>simp[SV.iP]
theorem Xu {v:SV} {mv:Value} {j:Nat} {w':Bool} (hs:bU w G v mv) (hm:bf U G v):bU w G (dh (some (j,w')) (some true) v) mv∧bf U G (dh (some (j,w')) (some true) v)∧∀t u,dh (some (j,w')) (some true) v≠ .box t u:=by
 unfold dh
 cases hb:v.cS with
 |true=>simp only[hb,if_true];exact⟨trivial,by simp[bf,SV.sc,SV.bt,SV.rt],by simp⟩
 |false=>
  simp only[hb,agu,if_false]
  exact⟨⟨fun _=>⟨hb,hs⟩,fun e=>absurd e (by simp)⟩,by simpa[bf,SV.sc,SV.bt,SV.rt]using hm,by simp⟩
theorem Xn {v:SV} {j:Nat} {w':Bool}:bU w G (dh (some (j,w')) (some false) v) undef∧bf U G (dh (some (j,w')) (some false) v)∧∀t u,dh (some (j,w')) (some false) v≠ .box t u:=by
 unfold dh
 cases hb:v.cS with
 |true=>simp only[hb,if_true];exact⟨trivial,by simp[bf,SV.sc,SV.bt,SV.rt],by simp⟩
 |false=>
  simp only[hb,agu,if_false]
  exact⟨⟨fun e=>absurd e (by simp),fun _=>rfl⟩,by simp[bf,SV.sc,SV.bt,SV.rt],by simp⟩
end
section
variable {P:Program} {C:Cx} {w0:World} {c0:C0} {U:Nat→Prop} {E:Env} {a:Act} {w:World} {G:Gh} {ops:List Oper} {L:Nat→Prop} {Q:Exit→Act→World→Prop}
theorem lM.put (h:lM ops L E a.tmps) {i:Nat} {o:Oper} (hi:ops[i]?=some o) (hgo:fq ops=true) (hni:¬L i) (hL:∀j w',o.guard=some (j,w')→L j) {sv:SV} {mv:Value}
 (hg:∀j w' act v,sv= .g j w' act v→(act=true↔yielded ops.toArray a.tmps j=some w')∧o.guard=some (j,w')):
 lM ops (fun j=>L j∨j=i) (E.set o.dst sv) (a.put o.dst mv).tmps:=by
 have hmem:o∈ops:=agj hi
 have keep:∀j,L j→(∃o'∈ops,∃w',o'.guard=some (j,w'))→yielded ops.toArray (a.put o.dst mv).tmps j=yielded ops.toArray a.tmps j:=by
  rintro j hj ⟨o',ho',w',hw'⟩
  exact We (Tk hgo ho' hw' hi (fun e=>hni (e▸hj)))
 intro s j w' act v hs
 have hcase:E.s.getD s .no= .g j w' act v∨sv= .g j w' act v:=by
  cases hd:o.dst with
  |none=>rw[hd]at hs;exact .inl hs
  |some d=>
   rw[hd]at hs
   simp only[Env.set,dE]at hs
   split at hs
   ·exact .inr hs
   ·exact .inl hs
 rcases hcase with hs|hs
 ·obtain⟨h1,h2,h3⟩:=h s j w' act v hs
  rw[keep j h2 h3]
  exact⟨h1,.inl h2,h3⟩
 ·obtain⟨h1,h2⟩:=hg j w' act v hs
  have h3:∃o'∈ops,∃w',o'.guard=some (j,w'):=⟨o,hmem,w',h2⟩
  rw[keep j (hL j w' h2) h3]
  exact⟨h1,.inl (hL j w' h2),h3⟩
theorem ei {i:Nat} {o:Oper} (ho:ops[i]?=some o) {K:Act→World→Prop} (hw:Region.wanted o (yielded ops.toArray a.tmps)=true) (h:o.wp P a w K Q):wpOp P ops.toArray Q i K a w:=by
 unfold wpOp
 simp only[agr,ho,hw,if_true]
 exact .inl h
theorem nU {o:Oper} {K:Act→World→Prop} {R:Value→World→Prop} (h:Enters P ((execOp a.eval o).run P w) R) (hK:∀v w',R v w'→K (a.put o.dst v) w'):o.wp P a w K Q:=by
 unfold Oper.wp
 unfold Enters at h
 split at h
 ·rename_i f args w1 hr
  rw[hr]
  exact Calls.mono h (fun e w' ⟨v,h1,h2⟩=>by subst h1;exact hK v w' h2)
 ·rename_i v w1 hr
  rw[hr]
  exact hK _ _ h
 ·exact h.elim
theorem kT {E':Env} {o:Oper} {K:Act→World→Prop} {sv:SV} (h:Yields w0 c0 U E' a ((execOp a.eval o).run P w) sv)
 (hK:∀v w' G',Inv w0 c0 U E' a w' G'→bU w' G' sv v→bf U G' sv→(∀t u,sv= .box t u→∀s u',E'.s.getD s .no≠ .box t u')→K (a.put o.dst v) w'):o.wp P a w K Q:=by
 obtain⟨mv,w',G',h1,h2,h3,h4,h5⟩:=h
 unfold Oper.wp
 rw[h1]
 exact hK mv w' G' h2 h3 h4 h5
theorem Oi (hC:n0 P C) {i:Nat} {o:Oper} (ho:ops[i]?=some o) (hI:Inv w0 c0 U E a w G) (hR:lM ops L E a.tmps) (hL:∀j w',o.guard=some (j,w')→L j) (hni:¬L i) (hgo:fq ops=true)
 {tk:Nat} (h3:4≤tk) (hU:∀u,tk≤u→u<tk+32→¬U u) {act:Option Bool} {ef:Ef} (hga:guardOf ops E.rd o.guard=some act) (hev:iK C ops E.rd tk o.guard o=some ef)
 {E':Env} (hap:aY o act E some ef=some E') {K:Act→World→Prop}
 (hK:∀a' w' G',Inv w0 c0 (fun u=>U u∨(tk≤u∧u<tk+32)) E' a' w' G'→lM ops (fun j=>L j∨j=i) E' a'.tmps→(∃v,a'=a.put o.dst v)→K a' w'):wpOp P ops.toArray Q i K a w:=by
 have hIm:=hI.mono (U':=fun u=>U u∨(tk≤u∧u<tk+32)) (fun u hu=> .inl hu)
 cases hgd:o.guard with
 |none=>
  rw[hgd]at hga hev
  simp only[guardOf,afL]at hga
  subst hga
  have hwant:Region.wanted o (yielded ops.toArray a.tmps)=true:=by simp[Region.wanted,hgd]
  have hS:=QV hC hI hR.ri (g:=none) (by rintro j w' ⟨⟩) h3 hU hev
  refine ei ho hwant ?_
  have fin:∀ {E1:Env} {sv:SV} {mv:Value} {w':World} {G':Gh},lM ops L E1 a.tmps→E'=E1.set o.dst sv.iP→Inv w0 c0 (fun u=>U u∨(tk≤u∧u<tk+32)) E1 a w' G'→bU w' G' sv mv→
   bf (fun u=>U u∨(tk≤u∧u<tk+32)) G' sv→(∀t u,sv= .box t u→∀s u',E1.s.getD s .no≠ .box t u')→K (a.put o.dst mv) w':=by
   intro E1 sv mv w' G' r1 hE g1 g2 g3 g4
   obtain⟨k1,k2⟩:=ad4 g2 g3
   refine hK _ _ G' ?_ ?_ ⟨_,rfl⟩
   ·rw[hE];exact g1.put o.dst k1 k2.1 k2.2.1 k2.2.2 (fun t u e=>g4 t u (acT e))
   ·rw[hE];exact r1.put ho hgo hni hL (fun j w' act v e=>absurd e acu)
  have skip:∀ {E1:Env} {w':World} {G':Gh},lM ops L E1 a.tmps→E'=E1→o.dst=none→Inv w0 c0 (fun u=>U u∨(tk≤u∧u<tk+32)) E1 a w' G'→K (a.put o.dst undef) w':=by
   intro E1 w' G' r1 hE hd g1
   refine hK _ _ G' ?_ ?_ ⟨_,rfl⟩
   ·rw[hE,hd];exact g1
   ·rw[hE,hd]
    intro s j w' act v hs
    obtain⟨q1,q2,q3⟩:=r1 s j w' act v hs
    exact⟨q1,.inl q2,q3⟩
  cases ef with
  |val v=>
   simp only[aY,afL]at hap
   rw[C6]at hap
   exact kT hS (fun mv w' G' g1 g2 g3 g4=>fin hR hap.symm g1 g2 g3 g4)
  |chk c v=>
   simp only[aY]at hap
   split at hap
   ·rename_i hc
    simp only[afL]at hap
    rw[C6]at hap
    exact kT (hS hc) (fun mv w' G' g1 g2 g3 g4=>fin hR hap.symm g1 g2 g3 g4)
   ·cases hap
  |opt α z x f=>
   simp only[aY,agc,afL]at hap
   obtain⟨y,hy,hap⟩:=hap
   rw[C6]at hap
   exact nU (hS y hy) (fun mv w' ⟨G',g1,g2,g3,g4⟩=>fin hR hap.symm g1 g2 g3 g4)
  |put b s v=>
   simp only[aY]at hap
   split at hap
   ·rename_i hc
    simp only[afL]at hap
    simp only[agp,ag1,agQ]at hc
    obtain⟨w',G',h1,h2⟩:=hS
    unfold Oper.wp
    rw[h1]
    refine skip (E1:={E with s:=E.s.set s (.box b v)}) (hR.map (fun s' j w' act u h=> ?_)) hap.symm hc h2
    simp only[dE]at h
    split at h
    ·cases h
    ·exact⟨u,h⟩
   ·cases hap
  |app c kl gv t v=>
   simp only[aY,agp,if_true]at hap
   split at hap
   ·rename_i hc
    simp only[afL]at hap
    exact kT (hS hc) (fun mv w' G' g1 g2 g3 g4=>fin (hR.map (fun s j w' act u h=>by
     obtain⟨v1,h1⟩:=adC h
     exact U6 h1)) hap.symm g1 g2 g3 g4)
   ·cases hap
  |elem gv b e l m=>
   simp only[aY]at hap
   split at hap
   ·rename_i hc
    simp only[afL]at hap
    simp only[agp,ag1,agQ]at hc
    obtain⟨w',G',h1,h2⟩:=hS
    unfold Oper.wp
    rw[h1]
    exact skip (hR.map (fun s j w' act u h=>T4 h)) hap.symm hc h2
   ·cases hap
  |nap c gv b e l m v=>
   simp only[aY,agp,if_true]at hap
   split at hap
   ·rename_i hc
    simp only[afL]at hap
    rcases hS hc with hY|⟨rfl,w',G',h1,h2⟩
    ·exact kT hY (fun mv w' G' g1 g2 g3 g4=>fin (hR.map (fun s j w' act u h=>T4 h)) hap.symm g1 g2 g3 g4)
    ·unfold Oper.wp
     rw[h1]
     exact fin (sv:= .no) (mv:=undef) (hR.map (fun s j w' act u h=>T4 h)) hap.symm h2 trivial (by simp[bf,SV.sc,SV.bt,SV.rt]) (by rintro _ _ ⟨⟩)
   ·cases hap
  |call α x tks f rp=>
   simp only[aY,agp,if_true,agc,afL]at hap
   obtain⟨y,hy,hap⟩:=hap
   exact nU (hS y hy) (fun mv w' ⟨G',g1,g2,g3,g4⟩=>fin (E1:={E.bS tks (rp y)with s:=bu (f y).2 (E.bS tks (rp y)).s}) (hR.map (fun s j w' act u h=>Xs (N9 h))) hap.symm g1 g2 g3 g4)
 |some p=>
  obtain⟨j,w'⟩:=p
  rw[hgd]at hga hev
  obtain⟨b,rfl,hb⟩:=CN hI hga
  have hj:=hL j w' hgd
  cases b with
  |true=>
   have hy:=hb.1 rfl
   have hwant:Region.wanted o (yielded ops.toArray a.tmps)=true:=by simp[Region.wanted,hgd,hy]
   have hS:=QV hC hI hR.ri (g:=some (j,w')) (by rintro j1 w1 ⟨⟩;exact hy) h3 hU hev
   refine ei ho hwant ?_
   have fin:∀ {sv:SV} {mv:Value} {w1:World} {G':Gh},E'=E.set o.dst (dh (some (j,w')) (some true) sv)→Inv w0 c0 (fun u=>U u∨(tk≤u∧u<tk+32)) E a w1 G'→bU w1 G' sv mv→
    bf (fun u=>U u∨(tk≤u∧u<tk+32)) G' sv→K (a.put o.dst mv) w1:=by
    intro sv mv w1 G' hE g1 g2 g3
    obtain⟨k1,k2,k3⟩:=Xu (j:=j) (w':=w') g2 g3
    refine hK _ _ G' ?_ ?_ ⟨_,rfl⟩
    ·rw[hE];exact g1.put o.dst k1 k2.1 k2.2.1 k2.2.2 (fun t u e=>absurd e (k3 t u))
    ·rw[hE]
     refine hR.put ho hgo hni hL (fun j1 w1 act v e=> ?_)
     unfold dh at e
     simp only at e
     split at e
     ·cases e
     ·simp only[SV.g.injEq]at e
      obtain⟨rfl,rfl,rfl,_⟩:=e
      exact⟨⟨fun _=>hy,fun _=>rfl⟩,hgd⟩
   cases ef with
   |val v=>
    simp only[aY,afL]at hap
    rw[hgd]at hap
    exact kT hS (fun mv w' G' g1 g2 g3 _=>fin hap.symm g1 g2 g3)
   |chk c v=>
    simp only[aY]at hap
    split at hap
    ·rename_i hc
     simp only[afL]at hap
     rw[hgd]at hap
     exact kT (hS (by simpa using hc)) (fun mv w' G' g1 g2 g3 _=>fin hap.symm g1 g2 g3)
    ·cases hap
   |opt α z x f=>
    simp only[aY,if_true,agc,afL]at hap
    obtain⟨y,hy,hap⟩:=hap
    rw[hgd]at hap
    exact nU (hS y hy) (fun mv w' ⟨G',g1,g2,g3,g4⟩=>fin hap.symm g1 g2 g3)
   |put b s v=>simp[aY]at hap
   |app c kl gv t v=>simp[aY]at hap
   |elem gv b e l m=>simp[aY]at hap
   |nap c gv b e l m v=>simp[aY]at hap
   |call α x tks f rp=>simp[aY]at hap
  |false=>
   have hy:yielded ops.toArray a.tmps j≠some w':=fun h=>by have:=hb.2 h;cases this
   have hwant:Region.wanted o (yielded ops.toArray a.tmps)=false:=by
    simp only[Region.wanted,hgd]
    simpa using hy
   have fin:∀ {sv:SV},E'=E.set o.dst (dh (some (j,w')) (some false) sv)→K (a.put o.dst undef) w:=by
    intro sv hE
    obtain⟨k1,k2,k3⟩:=Xn (w:=w) (G:=G) (U:=fun u=>U u∨(tk≤u∧u<tk+32)) (v:=sv) (j:=j) (w':=w')
    refine hK _ _ G ?_ ?_ ⟨_,rfl⟩
    ·rw[hE];exact hIm.put o.dst k1 k2.1 k2.2.1 k2.2.2 (fun t u e=>absurd e (k3 t u))
    ·rw[hE]
     refine hR.put ho hgo hni hL (fun j1 w1 act v e=> ?_)
     unfold dh at e
     simp only at e
     split at e
     ·cases e
     ·simp only[SV.g.injEq]at e
      obtain⟨rfl,rfl,rfl,_⟩:=e
      exact⟨⟨fun h=>absurd h (by simp),fun h=>absurd h hy⟩,hgd⟩
   unfold wpOp
   simp only[agr,ho,hwant,agu,if_false]
   cases ef with
   |val v=>
    simp only[aY,afL]at hap
    rw[hgd]at hap
    exact fin hap.symm
   |chk c v=>
    simp only[aY]at hap
    split at hap
    ·simp only[afL]at hap
     rw[hgd]at hap
     exact fin hap.symm
    ·cases hap
   |opt α z x f=>
    simp only[aY,agc,afL]at hap
    obtain⟨y,hy,hap⟩:=hap
    rw[hgd]at hap
    exact fin hap.symm
   |put b s v=>simp[aY]at hap
   |app c kl gv t v=>simp[aY]at hap
   |elem gv b e l m=>simp[aY]at hap
   |nap c gv b e l m v=>simp[aY]at hap
   |call α x tks f rp=>simp[aY]at hap
def Ng (C:Cx) (ops:List Oper) (nt i:Nat) (o:Oper) (E:Env):Option Env:=
 match guardOf ops E.rd o.guard with
 |none=>none
 |some a=>match iK C ops E.rd (nt+32*i) o.guard o with
  |none=>none
  |some ef=>aY o a E some ef
theorem FD {ρ:Type} (o:Oper) (a:Option Bool) (E:Env) (k:Env→Option ρ) (ef:Ef):aY o a E k ef=(aY o a E some ef).bind k:=by
 cases ef with
 |val v=>rfl
 |chk c v=>simp only[aY];split<;>split<;>rfl
 |opt α z x f=>simp only[aY,ag8];rfl
 |put b s v=>simp only[aY];split<;>rfl
 |app c kl gv t v=>simp only[aY];split<;>(try split)<;>rfl
 |elem gv b e l m=>simp only[aY];split<;>rfl
 |nap c gv b e l m v=>simp only[aY];split<;>(try split)<;>rfl
 |call α x tks f rp=>simp only[aY];split
                     ·simp only[ag8];rfl
                     ·rfl
theorem YL {ρ:Type} (C:Cx) (ops:List Oper) (nt:Nat) (o:Oper) (l:List Oper) (i:Nat) (E:Env) (k:Env→Option ρ):
 ym C ops nt (o::l) i E k=(Ng C ops nt i o E).bind fun E'=>ym C ops nt l (i+1) E' k:=by
 simp only[ym,Ng]
 cases guardOf ops E.rd o.guard with
 |none=>rfl
 |some a=>cases iK C ops E.rd (nt+32*i) o.guard o with
  |none=>rfl
  |some ef=>exact FD ..
end
theorem aZ.Xh:∀(a b:List Ty) (x:aZ a) (y:aZ b),aZ.fst a b (aZ.app a b x y)=x
 | [],_,_,_=>rfl
 |_::a,b,x,y=>by
  show(x.1,aZ.fst a b (aZ.app a b x.2 y))=x
  rw[aZ.Xh a b x.2 y];rfl
theorem aZ.Xc:∀(a b:List Ty) (x:aZ a) (y:aZ b),aZ.snd a b (aZ.app a b x y)=y
 | [],_,_,_=>rfl
 |_::a,b,x,y=>aZ.Xc a b x.2 y
theorem iN {r:Ren} {nt:Nat} (h:yH r nt=true) {t c:Nat} (hl:r.lookup t=some c):4≤c∧c<nt∧r.find? (·.2=c)=some (t,c):=by
 have hm:=fJ hl
 simp only[yH,afX,afS,decide_eq_true_eq,beq_iff_eq]at h
 obtain⟨⟨h1,h2⟩,h3⟩:=h (t,c) hm
 exact⟨h1,h2,h3⟩
theorem W9 {r:Ren} {t c:Nat} (h3:4≤t) (h:r.lookup t=some c):lr r t=c:=by
 unfold lr
 rw[if_neg (by omega),h];rfl
def nV (G:Gh) (r:Ren) (bs:List Nat):Gh:=
 ⟨fun b=>lr r (G.col b),fun c=>match r.find? (·.2=c)with|some p=>if 1000000000≤p.1 then .slice none 0 0 else G.hdr p.1|none=>undef,fun c=>bs.contains c⟩
section
variable {P:Program} {C:Cx} {w0:World} {c0:C0} {U:Nat→Prop} {E:Env} {a:Act} {w:World} {G:Gh} {ops:List Oper} {L:Nat→Prop} {Q:Exit→Act→World→Prop}
theorem Cw {r:Ren} {nt:Nat} (hr:yH r nt=true) {bs:List Nat} {t c:Nat} (hl:r.lookup t=some c) (ht:t<1000000000):(nV G r bs).hdr c=G.hdr t:=by
 obtain⟨_,_,h⟩:=iN hr hl
 simp only[nV,h]
 rw[if_neg (by omega)]
theorem acY {r:Ren} {nt:Nat} (hr:yH r nt=true) {bs:List Nat} {e:Ty} {l:List e.den} {v:Value} {m m':M} (h:bJ w G e l v m) (ho:DL r m m'=true) (hn:∀c∈m.aE,c<1000000000):
 bJ w (nV G r bs) e l v m':=by
 cases m' with
 |dead=>exact h.one
 |row c hc nd'=>
  cases m with
  |row t hs nd=>
   simp only[DL,afS,agI,af4,afX,afQ,decide_eq_true_eq]at ho
   obtain⟨⟨hl,hnd⟩,hhs⟩:=ho
   obtain⟨h3,hh,B,hB,hcc⟩:=h
   obtain⟨g1,g2,g3⟩:=iN hr hl
   refine⟨g1,(Cw hr hl (hn t (by simp[M.aE]))).trans hh,B,hB,fun b Bs hb=> ?_⟩
   obtain⟨k1,k2,k3,k4⟩:=hcc b Bs hb
   refine⟨by simp only[nV,k1];exact W9 h3 hl,k2,fun x hx=>hhs _ (k3 x hx),fun hn'=> ?_⟩
   subst hn'
   rcases hnd with h|h
   ·cases h
   ·exact k4 h
  |sha hs=>
   cases hs with
   |nil=>
    simp only[DL,decide_eq_true_eq]at ho
    obtain⟨g1,g2,g3⟩:=iN hr ho
    obtain⟨⟨B,hB,hcc⟩,hnil⟩:=h
    have hB0:B=[]:=by
     cases B with
     |nil=>rfl
     |cons x l=>exact absurd (hcc x (by simp)) (by simp)
    subst hB0
    have hv:v= .slice none 0 0:=hnil rfl
    refine⟨g1,?_,[],hB,by simp⟩
    simp only[nV,g3]
    rw[if_pos (by simp[U0]),hv]
   |cons x l=>simp[DL]at ho
  |nst=>simp[DL]at ho
  |dead=>simp[DL]at ho
 |nst=>cases m<;>simp[DL]at ho
 |sha hc=>
  cases m with
  |row t hs nd=>
   simp only[DL,afX,afQ,decide_eq_true_eq]at ho
   obtain⟨B,hB,hcc⟩:=h.rep (by simp)
   refine⟨⟨B,hB,fun b hb=>ho _ (hcc b hb)⟩,fun e=> ?_⟩
   have:=ho t (by simp)
   rw[e]at this;simp at this
  |sha hs=>
   simp only[DL,afX,afQ,decide_eq_true_eq]at ho
   obtain⟨⟨B,hB,hcc⟩,hnil⟩:=h
   refine⟨⟨B,hB,fun b hb=>ho _ (hcc b hb)⟩,fun e=> ?_⟩
   cases hs with
   |nil=>exact hnil rfl
   |cons x l=>have:=ho x (by simp);rw[e]at this;simp at this
  |nst=>simp[DL]at ho
  |dead=>simp[DL]at ho
theorem bg.cut {r:Ren} {nt:Nat} (hr:yH r nt=true) {bs:List Nat}:∀ {τ:Ty} {x:τ.den} {sh sh':Sh} {cs:List Value},bg w G τ x sh cs→Ge r sh sh'=true→(∀c∈sh.aE,c<1000000000)→
 bg w (nV G r bs) τ x sh' cs
 | .int _,_,.leaf,.leaf,_,h,_,_| .bool,_,.leaf,.leaf,_,h,_,_| .str,_,.leaf,.leaf,_,h,_,_=>h
 | .sl e,l,.sl m,.sl m',cs,h,ho,hn=>by
   obtain⟨v,rfl,h⟩:=h
   exact⟨v,rfl,acY hr h ho hn⟩
 | .pair a b,p,.pair s1 s2,.pair s1' s2',cs,h,ho,hn=>by
   obtain⟨c1,c2,rfl,h1,h2⟩:=h
   simp only[Ge,afS]at ho
   exact⟨c1,c2,rfl,bg.cut hr h1 ho.1 (fun c h=>hn c (by simp[Sh.aE,h])),bg.cut hr h2 ho.2 (fun c h=>hn c (by simp[Sh.aE,h]))⟩
 |_,_,.leaf,.sl _,_,_,ho,_|_,_,.leaf,.pair _ _,_,_,ho,_|_,_,.sl _,.leaf,_,_,ho,_|_,_,.sl _,.pair _ _,_,_,ho,_|_,_,.pair _ _,.leaf,_,_,ho,_|_,_,.pair _ _,.sl _,_,_,ho,_=>by simp[Ge]at ho
 | .sl _,_,.leaf,.leaf,_,h,_,_| .pair _ _,_,.leaf,.leaf,_,h,_,_| .int _,_,.sl _,.sl _,_,h,_,_| .bool,_,.sl _,.sl _,_,h,_,_| .str,_,.sl _,.sl _,_,h,_,_| .pair _ _,_,.sl _,.sl _,_,h,_,_
 | .int _,_,.pair _ _,.pair _ _,_,h,_,_| .bool,_,.pair _ _,.pair _ _,_,h,_,_| .str,_,.pair _ _,.pair _ _,_,h,_,_| .sl _,_,.pair _ _,.pair _ _,_,h,_,_=>h.elim
theorem aai (hI:Inv w0 c0 U E a w G) (hU:∀u,U u→u<1000000000) {r:Ren} {nt:Nat} (hr:yH r nt=true) {bs:List Nat} {s:Nat} {k:AK} {x:aZ k.LV} (h:wa E r s k=some x):
 bU w (nV G r bs) (pK k x) (a.tmps.getD s undef)∧(∀c v,pK k x= .box c v→∃t u,E.s.getD s .no= .box t u∧r.lookup t=some c):=by
 have hs:=hI.slots s
 have hm:=hI.ow s
 cases k with
 |val τ sh=>
  simp only[wa,Env.get]at h
  split at h
  ·rename_i v hv
   split at h
   ·rename_i ho
    split at h
    ·rename_i y hc
     cases h
     rw[hv]at hs hm
     obtain⟨cs,h1,h2⟩:=hs
     have e:=cV hc
     rw[e]at h1 h2 ho hm
     refine⟨⟨cs,h1,bg.cut hr h2 ho (fun c hc=>hU c (hm.1 c hc).2.1)⟩,?_⟩
     rintro c u ⟨⟩
    ·cases h
   ·cases h
  ·cases h
 |box c τ sh=>
  simp only[wa,Env.get]at h
  split at h
  ·rename_i t v hv
   split at h
   ·rename_i ho
    simp only[afS,decide_eq_true_eq]at ho
    split at h
    ·rename_i y hc
     cases h
     rw[hv]at hs hm
     obtain⟨bk,cl,el,h1,h2,h3,h4,h5,h6⟩:=hs
     have e:=cV hc
     rw[e]at h6 ho hm
     obtain⟨g1,g2,g3⟩:=iN hr ho.2
     refine⟨⟨bk,cl,el,h1,g1,(Cw hr ho.2 (hU t (hm.2.1 t (by simp[SV.bt])).2.1)).trans h3,?_,h5,bg.cut hr h6 ho.1 (fun c hc=>hU c (hm.1 c hc).2.1)⟩,?_⟩
     ·simp only[nV,h4];exact W9 h2 ho.2
     ·rintro c' u ⟨⟩
      exact⟨t,v,hv,ho.2⟩
    ·cases h
   ·cases h
  ·cases h
 |ptr c o p τ=>
  simp only[wa,Env.get]at h
  split at h
  ·rename_i t o' p' τ' hv
   split at h
   ·rename_i ho
    simp only[afS,decide_eq_true_eq]at ho
    obtain⟨⟨⟨ho,rfl⟩,_⟩,_⟩:=ho
    rw[hv]at hs hm
    obtain⟨bk,h1,h2,h3⟩:=hs
    obtain⟨g1,g2,g3⟩:=iN hr ho
    refine⟨⟨bk,g1,(Cw hr ho (hU t (hm.2.1 t (by simp[SV.bt])).2.1)).trans h2,h3⟩,?_⟩
    rintro c' u ⟨⟩
   ·cases h
  ·cases h
 |ept c e o p τ=>
  simp only[wa,Env.get]at h
  split at h
  ·rename_i t e' i o' p' τ' hv
   split at h
   ·rename_i ho
    simp only[afS,decide_eq_true_eq]at ho
    obtain⟨⟨⟨⟨ho,rfl⟩,rfl⟩,_⟩,_⟩:=ho
    cases h
    rw[hv]at hs hm
    obtain⟨b,off,n,cap,h1,h2,h3,h4,h5⟩:=hs
    obtain⟨g1,g2,g3⟩:=iN hr ho
    refine⟨⟨b,off,n,cap,g1,(Cw hr ho (hU t (hm.2.2 t (by simp[SV.rt])).2.1)).trans h2,h3,h4,h5⟩,?_⟩
    rintro c' u ⟨⟩
   ·cases h
  ·cases h
 |rdp hc τ sh=>
  simp only[wa,Env.get]at h
  split at h
  ·rename_i hs' v hv
   split at h
   ·rename_i ho
    simp only[afS,afX,afQ,decide_eq_true_eq]at ho
    split at h
    ·rename_i y hcst
     cases h
     rw[hv]at hs hm
     obtain⟨bk,o,cl,el,fz,h1,h2,h3,h4,h5⟩:=hs
     have e:=cV hcst
     rw[e]at h3 h5 ho hm
     refine⟨⟨bk,o,cl,el,fz,h1,h2,h3,ho.2 _ h4,bg.cut hr h5 ho.1 (fun c hc=>hU c (hm.1 c (by simp[SV.sc,hc])).2.1)⟩,?_⟩
     rintro c u ⟨⟩
    ·cases h
   ·cases h
  ·cases h
theorem Zv {k:AK} {x:aZ k.LV} {G':Gh} {U':Nat→Prop} (hs:∀c∈k.sc,0<c∧U' c∧G'.bx c=false) (hb:∀c∈k.bt,0<c∧U' c∧G'.bx c=true):bf U' G' (pK k x):=by
 cases k with
 |val τ sh=>exact⟨hs,by simp[pK,SV.bt],by simp[pK,SV.rt]⟩
 |box c τ sh=>exact⟨hs,hb,by simp[pK,SV.rt]⟩
 |ptr c o p τ=>exact⟨by simp[pK,SV.sc],hb,by simp[pK,SV.rt]⟩
 |ept c e o p τ=>exact⟨by simp[pK,SV.sc],by simp[pK,SV.bt],hs⟩
 |rdp hc τ sh=>exact⟨hs,by simp[pK,SV.bt],by simp[pK,SV.rt]⟩
theorem adH {k:AK} {x:aZ k.LV} {j:Nat} {w act:Bool} {v:SV}:pK k x≠ .g j w act v:=by
 cases k<;>simp[pK]
def ur (L:List SV):Prop:=∀s j w act v,L.getD s .no≠ .g j w act v
theorem NV (hI:Inv w0 c0 U E a w G) (hU:∀u,U u→u<1000000000) {r:Ren} {nt:Nat} (hr:yH r nt=true) {bs:List Nat} {U':Nat→Prop}:
 ∀ {l:List (Nat×AK)} {t:aZ (mL l)} {K:List SV},Gp E r l=some t→(∀c∈l.flatMap (fun p=>p.2.sc),0<c∧U' c∧(nV G r bs).bx c=false)→(∀c∈l.flatMap (fun p=>p.2.bt),0<c∧U' c∧(nV G r bs).bx c=true)→
 (∀s,bU w (nV G r bs) (K.getD s .no) (a.tmps.getD s undef)∧bf U' (nV G r bs) (K.getD s .no))→(∀s c v,K.getD s .no= .box c v→∃t u,E.s.getD s .no= .box t u∧r.lookup t=some c)→ur K→
 (mX l t K).length=K.length∧(∀s,bU w (nV G r bs) ((mX l t K).getD s .no) (a.tmps.getD s undef)∧bf U' (nV G r bs) ((mX l t K).getD s .no))∧
  (∀s c v,(mX l t K).getD s .no= .box c v→∃t u,E.s.getD s .no= .box t u∧r.lookup t=some c)∧ur (mX l t K)
 | [],t,K,_,_,_,h1,h2,h3=>⟨rfl,h1,h2,h3⟩
 |(s,k)::l,t,K,h,hs,hb,h1,h2,h3=>by
  simp only[Gp]at h
  split at h
  ·rename_i x y hx hy
   cases h
   obtain⟨g1,g2⟩:=aai (bs:=bs) hI hU hr hx
   simp only[List.flatMap_cons,afO]at hs hb
   simp only[mX]
   rw[aZ.Xh,aZ.Xc]
   obtain⟨q1,q2⟩:=NV hI hU hr (K:=K.set s (pK k x)) hy (fun c hc=>hs c (.inr hc)) (fun c hc=>hb c (.inr hc)) (fun s'=>by
    rw[dE]
    split
    ·rename_i e
     rw[e.1]
     exact⟨g1,Zv (fun c hc=>hs c (.inl hc)) (fun c hc=>hb c (.inl hc))⟩
    ·exact h1 s') (fun s' c v he=>by
    rw[dE]at he
    split at he
    ·rename_i e
     rw[e.1];exact g2 c v he
    ·exact h2 s' c v he) (fun s' j w act v he=>by
    rw[dE]at he
    split at he
    ·exact adH he
    ·exact h3 s' j w act v he)
   exact⟨by rw[q1];simp,q2⟩
  ·cases h
theorem vU (hI:Inv w0 c0 (fun u=>u<E.nt) E a w G) {n:xw} {N:Nat} (hN:E.s.length=N) {t:aZ (mL n.ks)} (h:proj n E=some t):
 ∃G',Inv w0 c0 (fun u=>u<(eB N n t).nt) (eB N n t) a w G'∧ur (eB N n t).s∧(eB N n t).s.length=N∧4≤(eB N n t).nt:=by
 unfold proj at h
 split at h
 ·rename_i r hb
  split at h
  ·rename_i hc
   simp only[afS,decide_eq_true_eq]at hc
   obtain⟨⟨hnt,hann⟩,hr⟩:=hc
   simp only[ace,afS,afX,decide_eq_true_eq,af4,afQ,decide_eq_false_iff_not]at hann
   obtain⟨⟨⟨ha1,ha2⟩,ha3⟩,_⟩:=hann
   have hrep:∀s,(agK N SV.no).getD s .no= .no:=by
    intro s
    rw[afM,List.getElem?_replicate]
    split<;>rfl
   obtain⟨q1,q2,q3,q4⟩:=NV (bs:=n.ks.flatMap fun(p:Nat×AK)=>p.2.bt) (U':=fun u=>u<n.nt) (K:=agK N .no) hI (fun u hu=>by omega) hr h
    (fun c hc=>⟨(ha3 c hc).1.1,(ha3 c hc).1.2,by simpa[nV]using(ha3 c hc).2⟩)
    (fun c hc=>⟨(ha2 c hc).1.1.1,(ha2 c hc).1.1.2,by simpa[nV]using hc⟩)
    (fun s=>by rw[hrep];exact⟨trivial,by simp[bf,SV.sc,SV.bt,SV.rt]⟩) (fun s c v he=>by rw[hrep]at he;cases he) (fun s j w act v he=>by rw[hrep]at he;cases he)
   have hcol:∀b,(lr r (G.col b)=G.col b∧G.col b≤3)∨(4≤G.col b∧lr r (G.col b)=2)∨(4≤G.col b∧4≤lr r (G.col b)∧lr r (G.col b)<n.nt):=by
    intro b
    unfold lr
    split
    ·rename_i h;exact .inl ⟨rfl,h⟩
    ·rename_i h
     cases hl:r.lookup (G.col b)with
     |none=>right;left;exact⟨by omega,rfl⟩
     |some k=>
      obtain⟨k1,k2,_⟩:=iN hr hl
      right;right;exact⟨by omega,k1,k2⟩
   refine⟨nV G r (n.ks.flatMap fun(p:Nat×AK)=>p.2.bt),⟨?_,fun s=>(q2 s).1,fun s=>(q2 s).2.1,fun s=>(q2 s).2.2.1,fun s=>(q2 s).2.2.2,?_,fun b hb=> ?_,fun b hb=> ?_,fun b hb=> ?_,fun b hb hc=> ?_,fun b hb=> ?_,hI.size,hI.os,hI.tape,hI.output,hI.defers,?_,fun hk=>by cases hk⟩,q4,by
    show(mX n.ks t (agK N .no)).length=N
    rw[q1];simp,ha1⟩
   ·show a.tmps.size=(mX n.ks t (agK N .no)).length
    rw[q1,hI.len,hN];simp
   ·intro s s' c v v' h1 h2
    obtain⟨t1,u1,e1,l1⟩:=q3 s c v h1
    obtain⟨t2,u2,e2,l2⟩:=q3 s' c v' h2
    have f1:=(iN hr l1).2.2
    have f2:=(iN hr l2).2.2
    rw[f1]at f2
    simp only[afL,afP,and_true]at f2
    subst f2
    exact hI.uni s s' t1 u1 u2 e1 e2
   ·have:lr r (G.col b)<n.nt:=by rcases hcol b with h|h|h<;>omega
    exact this
   ·have hb':0<lr r (G.col b):=hb
    refine hI.lt b ?_
    rcases hcol b with h|h|h<;>omega
   ·have hb':4≤lr r (G.col b):=hb
    refine hI.fresh b ?_
    rcases hcol b with h|h|h<;>omega
   ·have hf:=hI.frame b hb hc
    refine⟨?_,hf.2⟩
    show lr r (G.col b)=c0.col b
    rcases hcol b with h|h|h<;>omega
   ·have hb':lr r (G.col b)=1∨lr r (G.col b)=3:=hb
    show b<_∧c0.col b=lr r (G.col b)
    have e:lr r (G.col b)=G.col b:=by rcases hcol b with h|h|h<;>omega
    rw[e]at hb'⊢
    exact hI.one b hb'
   ·refine⟨⟨by show 2<n.nt;omega,?_⟩,by show 3<n.nt;omega,?_⟩
    ·show List.contains _ 2=false
     simp only[afQ,decide_eq_false_iff_not]
     intro h2
     have:=(ha2 2 h2).1.2
     simp at this
    ·show List.contains _ 3=false
     simp only[afQ,decide_eq_false_iff_not]
     intro h2
     have:=(ha2 3 h2).2
     simp at this
  ·cases h
 ·cases h
end
theorem eo (E:Env) (d:Option Nat) (v:SV):(E.set d v).s.length=E.s.length:=by cases d<;>simp[Env.set]
theorem Mc (E:Env) (d:Option Nat) (v:SV):(E.set d v).nt=E.nt:=by cases d<;>rfl
theorem Vp (E:Env) (ts:List Nat):(E.kill ts).s.length=E.s.length:=by unfold Env.kill;split<;>simp
theorem Ug (E:Env) (ts:List Nat) (t:Nat):(E.aS ts t).s.length=E.s.length:=by unfold Env.aS;split<;>simp
structure dW (o:Oper) (R R':Rd):Prop where
 get:∀s∈tmpsOf o,R'.get s=R.get s
 box:dg o=true→∀s∈tmpsOf o,∀b off p τ,(R.get s).strip= .ptr b off p τ→R'.box b=R.box b
 row:dg o=true→∀s∈tmpsOf o,∀b e,Vy (R.get s).strip=some (b,e)→R'.row b e=R.row b e
section
variable {C:Cx} {R R':Rd} {o:Oper} {ops:List Oper} {tk:Nat} {g:Option (Nat×Bool)}
theorem vC {s:Nat} (h:Operand.tmp s∈o.op.operands.toList):s∈tmpsOf o:=by
 unfold tmpsOf
 exact ag5.2 ⟨.tmp s,h,rfl⟩
theorem Rx (h:dW o R R') {t:TypeId} {x:Operand} (hx:x∈o.op.operands.toList):ff C R' t x=ff C R t x:=by
 cases x with
 |tmp s=>simp only[ff];rw[h.get s (vC hx)]
 |_=>rfl
theorem CD (h:dW o R R') {t:TypeId} {x:Operand} (hx:x∈o.op.operands.toList):arg C R' g t x=arg C R g t x:=by
 simp only[arg,Rx h hx]
theorem gX (h:dW o R R') {t:TypeId} {x:Operand} (hx:x∈o.op.operands.toList):cF C R' g t x=cF C R g t x:=by
 simp only[cF,CD h hx]
theorem RY {t:TypeId} {x:Operand} {sv:SV} (h:arg C R g t x=some sv) (hp:(∃b off p τ,sv= .ptr b off p τ)∨∃b e i off p τ,sv= .ept b e i off p τ):
 ∃s,x= .tmp s∧(R.get s).strip=sv:=by
 simp only[arg,agc]at h
 obtain⟨s0,h1,h2⟩:=h
 cases x with
 |tmp s=>
  simp only[ff,afL]at h1
  refine⟨s,rfl,?_⟩
  rw[h1]
  cases s0 with
  |g j w a v=>simp only[yF]at h2;split at h2<;>simp_all[SV.strip]
  |_=>simp only[yF,afL]at h2;subst h2;rfl
 |const v=>
  exfalso
  simp only[ff]at h1
  split at h1
  ·rw[af1]at h1
   obtain⟨r,_,rfl⟩:=h1
   simp only[yF,afL]at h2
   subst h2
   rcases hp with⟨_,_,_,_,h⟩|⟨_,_,_,_,_,_,h⟩<;>cases h
  ·cases h1
 |global x=>simp[ff]at h1
 |func x=>simp[ff]at h1
theorem IG (h:dW o R R') (hd:dg o=true) {t:TypeId} {x:Operand} (hx:x∈o.op.operands.toList) {b off:Nat} {p:List Bool} {τ:Ty} (ha:arg C R g t x=some (.ptr b off p τ)):R'.box b=R.box b:=by
 obtain⟨s,rfl,hs⟩:=RY ha (.inl ⟨_,_,_,_,rfl⟩)
 exact h.box hd s (vC hx) b off p τ hs
theorem X7 {τ σ:Ty} {v:Value} {z:σ.den} {b off:Nat} {e:Ty} {i:Int} {p:List Bool} {fr:Bool} (h:FM τ v=some ⟨σ,z,.sl (.nst b e i off p fr)⟩):False:=by
 have hs:∀τ:Ty,fD τ (.sha [])≠ .sl (.nst b e i off p fr):=by intro τ;cases τ<;>simp[fD]
 unfold FM at h
 split at h
 ·split at h
  ·simp only[afL,TV.mk.injEq]at h;obtain⟨rfl,_,h⟩:=h;exact hs _ h
  ·cases h
 ·cases h
 ·split at h
  ·simp only[afL,TV.mk.injEq]at h;obtain⟨rfl,_,h⟩:=h;exact hs _ h
  ·cases h
theorem Cq (h:dW o R R') (hd:dg o=true) {t:TypeId} {x:Operand} (hx:x∈o.op.operands.toList) {b off:Nat} {e:Ty} {i:Int} {p:List Bool} {τ:Ty} (ha:arg C R g t x=some (.ept b e i off p τ)):R'.row b e=R.row b e:=by
 obtain⟨s,rfl,hs⟩:=RY ha (.inr ⟨_,_,_,_,_,_,rfl⟩)
 exact h.row hd s (vC hx) b e (by rw[hs];rfl)
theorem aan (h:dW o R R') (hd:dg o=true) {t:TypeId} {x:Operand} (hx:x∈o.op.operands.toList) {b off:Nat} {e:Ty} {i:Int} {p:List Bool} {fr:Bool} {τ:Ty} {z:τ.den}
 (ha:cF C R none t x=some ⟨τ,z,.sl (.nst b e i off p fr)⟩):R'.row b e=R.row b e:=by
 simp only[cF]at ha
 split at ha
 ·rename_i u hu
  split at ha
  ·cases ha
   cases x with
   |tmp s=>
    refine h.row hd s (vC hx) b e ?_
    simp only[arg,ff,agG]at hu
    cases hr:R.get s with
    |g j w a v=>rw[hr]at hu;simp[yF]at hu
    |d v=>
     rw[hr]at hu
     simp only[yF,afL,SV.d.injEq]at hu
     subst hu
     rfl
    |_=>rw[hr]at hu;simp[yF]at hu
   |const v=>
    exfalso
    simp only[arg,ff]at hu
    split at hu
    ·rename_i i' _
     rw[agc]at hu
     obtain⟨u',h1,h2⟩:=hu
     rw[af1]at h1
     obtain⟨r,h1,rfl⟩:=h1
     simp only[yF,afL,SV.d.injEq]at h2
     subst h2
     exact X7 h1
    ·simp at hu
   |global x=>simp[arg,ff]at hu
   |func f=>simp[arg,ff]at hu
  ·cases ha
 ·cases ha
theorem Fh (h:dW o R R') {i:TI}:∀ {l:List (Nat×Operand)} {x:i.τ.den} {sh:Sh},(∀p∈l,p.2∈o.op.operands.toList)→ry C R' g i l x sh=ry C R g i l x sh
 | [],_,_,_=>rfl
 |(j,y)::l,x,sh,hl=>by
  simp only[ry,gX h (hl (j,y) (by simp))]
  cases i.fs[j]? with
  |none=>rfl
  |some ft=>
   simp only
   cases cF C R g ft y with
   |none=>rfl
   |some v=>
    simp only
    cases eL i.τ x sh (cQ i.fs.length j) v with
    |none=>rfl
    |some r=>exact Fh h (fun p hp=>hl p (by simp[hp]))
theorem Hv (h:dW o R R') {el:TypeId} {e:Ty}:∀ {l:List (Nat×Operand)} {n:Nat},(∀p∈l,p.2∈o.op.operands.toList)→uH C R' g el e n l=uH C R g el e n l
 | [],_,_=>rfl
 |(j,y)::l,n,hl=>by
  simp only[uH,gX h (hl (j,y) (by simp)),Hv h (l:=l) (n:=n+1) (fun p hp=>hl p (by simp[hp]))]
theorem Ro (h:dW o R R'):∀ {l:List Operand} {ts:List TypeId},(∀p∈l,p∈o.op.operands.toList)→nm C R' g l ts=nm C R g l ts
 | [],[],_=>rfl
 | [],_::_,_=>rfl
 |_::_,[],_=>rfl
 |y::l,t::ts,hl=>by
  simp only[nm,CD h (hl y (by simp)),Ro h (l:=l) (ts:=ts) (fun p hp=>hl p (by simp[hp]))]
theorem WI {ps:List PK}:∀ {as:List SV} {k:Nat} {r0:List (Nat×Nat)},(∀sv∈as,∀b off p τ,sv= .ptr b off p τ→R'.box b=R.box b)→br R' ps as k r0=br R ps as k r0:=by
 induction ps with
 |nil=>intro as k r0 _;cases as<;>rfl
 |cons p ps ih=>
  intro as k r0 hb
  cases as with
  |nil=>cases p<;>rfl
  |cons a as=>
   have ih':=fun k r0=>ih (as:=as) (k:=k) (r0:=r0) (fun sv hsv=>hb sv (by simp[hsv]))
   cases p with
   |val τ q=>cases a<;>simp only[br,ih']
   |io τ q=>
    have hbo:oC R' a=oC R a:=by
     unfold oC
     split
     ·rename_i t τ';rw[hb _ (by simp) t 0 [] τ' rfl]
     ·rfl
    simp only[br,hbo,ih']
   |rd τ=>
    have hbo:oC R' a=oC R a:=by
     unfold oC
     split
     ·rename_i t τ';rw[hb _ (by simp) t 0 [] τ' rfl]
     ·rfl
    simp only[br,hbo,ih']
   |vx e l=>cases a<;>simp only[br,ih']
theorem ZS {ps:List PK}:∀ {as:List SV} {k:Nat} {r0:List (Nat×Nat)} {xs:aZ (ps.map PK.ty)} {rho bs:List (Nat×Nat)},br R ps as k r0=some (xs,rho,bs)→
 ∀b∈bs,∃τ,SV.ptr b.1 0 [] τ∈as:=by
 induction ps with
 |nil=>
  intro as k r0 xs rho bs h b hb
  cases as with
  |nil=>simp only[br,afL]at h;cases h;cases hb
  |cons _ _=>simp[br]at h
 |cons p ps ih=>
  intro as k r0 xs rho bs h b hb
  cases as with
  |nil=>cases p<;>simp[br]at h
  |cons a as=>
   cases p with
   |val τ q=>
    cases a<;>simp only[br]at h<;>try cases h
    split at h
    ·rename_i hg
     split at h
     ·simp only[afL,afP]at h
      obtain⟨_,_,rfl⟩:=h
      obtain⟨τ,h⟩:=ih hg b hb
      exact⟨τ,afT _ h⟩
     ·cases h
    ·cases h
   |vx e l=>
    cases a<;>simp only[br]at h<;>try cases h
    split at h
    ·rename_i hg
     split at h
     ·simp only[afL,afP]at h
      obtain⟨_,_,rfl⟩:=h
      obtain⟨τ,h⟩:=ih hg b hb
      exact⟨τ,afT _ h⟩
     ·cases h
    ·cases h
   |rd τ=>
    simp only[br]at h
    split at h
    ·split at h
     ·rename_i hg
      split at h
      ·simp only[afL,afP]at h
       obtain⟨_,_,rfl⟩:=h
       obtain⟨τ,h⟩:=ih hg b hb
       exact⟨τ,afT _ h⟩
      ·cases h
     ·cases h
    ·cases h
   |io τ q=>
    simp only[br]at h
    split at h
    ·rename_i t s v hbo
     split at h
     ·rename_i hg
      split at h
      ·simp only[afL,afP]at h
       obtain⟨_,_,rfl⟩:=h
       rcases afN.1 hb with rfl|hb
       ·unfold oC at hbo
        split at hbo
        ·rename_i t' τ'
         rw[af1]at hbo
         obtain⟨r,_,hbo⟩:=hbo
         simp only[afP]at hbo
         obtain⟨rfl,_,_⟩:=hbo
         exact⟨τ',by simp⟩
        ·cases hbo
       ·obtain⟨τ,h⟩:=ih hg b hb
        exact⟨τ,afT _ h⟩
      ·cases h
     ·cases h
    ·cases h
theorem Pz (h:dW o R R') {b:Builtin} {args:List Operand} {ts:List TypeId} (ha:∀x∈args,x∈o.op.operands.toList):nW C R' tk g b args ts=nW C R tk g b args ts:=by
 unfold nW
 split
 ·rename_i x t
  simp only[gX h (ha x (by simp))]
 ·rename_i x y t u
  simp only[gX h (ha x (by simp)),gX h (ha y (by simp))]
 ·rename_i x y t u
  simp only[gX h (ha x (by simp)),gX h (ha y (by simp))]
 ·rename_i x y t u
  simp only[gX h (ha x (by simp)),gX h (ha y (by simp))]
 ·rfl
theorem V6 (h:dW o R R') (hdr:dg o=true) {f:FuncId} {args:List Operand} {ts:List TypeId} (ha:∀x∈args,x∈o.op.operands.toList):FB C R' tk g f args ts=FB C R tk g f args ts:=by
 unfold FB
 rw[Ro h ha]
 cases C.ct f with
 |none=>rfl
 |some c=>
  simp only
  cases has:nm C R g args ts with
  |none=>rfl
  |some as=>
   simp only
   have hall:∀sv∈as,∀b off p τ,sv=SV.ptr b off p τ→R'.box b=R.box b:= ?_
   ·rw[WI (R:=R) (R':=R') hall]
    cases hga:br R c.ps as 4 []with
    |none=>rfl
    |some z=>
     obtain⟨xs,rho,bs⟩:=z
     have hrp:∀IO,zA R' bs IO c.kp=zA R bs IO c.kp:=by
      intro IO
      unfold zA
      congr 1
      funext q
      cases hb:bs[q.1]? with
      |none=>rfl
      |some b=>
       cases hz:IO[q.1]? with
       |none=>rfl
       |some z=>
        obtain⟨τ,hin⟩:=ZS hga b (agj hb)
        simp only[hall _ hin b.1 0 [] τ rfl]
     simp only[hrp]
   intro sv hsv b off p τ he
   subst he
   have:∀ {args:List Operand} {ts:List TypeId} {as:List SV},(∀x∈args,x∈o.op.operands.toList)→nm C R g args ts=some as→SV.ptr b off p τ∈as→∃x∈args,∃t,arg C R g t x=some (.ptr b off p τ):=by
    intro args
    induction args with
    |nil=>intro ts as _ h1 h2;cases ts<;>simp[nm]at h1;subst h1;simp at h2
    |cons y l ih=>
     intro ts as hl h1 h2
     cases ts with
     |nil=>simp[nm]at h1
     |cons t ts=>
      simp only[nm]at h1
      split at h1
      ·rename_i v vs e1 e2
       cases h1
       simp only[afN]at h2
       rcases h2 with rfl|h2
       ·exact⟨y,by simp,t,e1⟩
       ·obtain⟨x,q1,q2⟩:=ih (fun x hx=>hl x (by simp[hx])) e2 h2
        exact⟨x,by simp[q1],q2⟩
      ·cases h1
   obtain⟨x,q1,t,q2⟩:=this ha has hsv
   exact IG h hdr (ha x q1) q2
theorem Kn (h:dW o R R'):bl C ops R' tk g o=bl C ops R tk g o:=by
 have hm:∀ {x:Operand},x∈o.op.operands.toList→∀ {t:TypeId},arg C R' g t x=arg C R g t x:=fun hx=>CD h hx
 have hd:∀ {x:Operand},x∈o.op.operands.toList→∀ {t:TypeId},cF C R' g t x=cF C R g t x:=fun hx=>gX h hx
 have ho:∀ {x:Operand},x∈o.op.operands.toList→∀ {t:TypeId},ff C R' t x=ff C R t x:=fun hx=>Rx h hx
 cases hop:o.op with
 |move x=>rw[hop]at hm;simp only[bl,hop,hm (x:=x) (by simp[Op.operands])]
 |assign x=>rw[hop]at hm;simp only[bl,hop,hm (x:=x) (by simp[Op.operands])]
 |pick c a b=>
  rw[hop]at hm ho
  simp only[bl,hop,hm (x:=c) (by simp[Op.operands]),ho (x:=a) (by simp[Op.operands]),ho (x:=b) (by simp[Op.operands])]
 |alloc t=>simp only[bl,hop]
 |box t x=>rw[hop]at hd;simp only[bl,hop,hd (x:=x) (by simp[Op.operands])]
 |build t ps=>
  simp only[bl,hop]
  cases C.tt t with
  |none=>rfl
  |some i=>simp only[Fh h (l:=ps.toList) (fun p hp=>by rw[hop];simp[Op.operands];exact⟨p.1,by simpa using hp⟩)]
 |buildSlice t n ps=>
  simp only[bl,hop]
  split
  ·rename_i e _ el _
   simp only[Hv h (l:=ps.toList) (fun p hp=>by rw[hop];simp[Op.operands];exact⟨p.1,by simpa using hp⟩)]
  ·rfl
 |load t a=>
  have hx:a∈o.op.operands.toList:=by rw[hop];simp[Op.operands]
  simp only[bl,hop,hm hx]
  cases C.tt t with
  |none=>rfl
  |some ti=>
   simp only
   cases ha:arg C R g 0 a with
   |none=>rfl
   |some sv=>
    cases sv with
    |ptr b off p τ=>simp only[IG h (by simp[dg,hop]) hx ha]
    |ept b e i off p τ=>simp only[Cq h (by simp[dg,hop]) hx ha]
    |_=>rfl
 |store t a x=>
  have hx:a∈o.op.operands.toList:=by rw[hop];simp[Op.operands]
  have hy:x∈o.op.operands.toList:=by rw[hop];simp[Op.operands]
  simp only[bl,hop,hm hx,hd hy]
  cases C.tt t with
  |none=>rfl
  |some ti=>
   cases ha:arg C R g 0 a with
   |none=>rfl
   |some sv=>
    cases sv with
    |ptr b off p τ=>
     cases cF C R g t x with
     |none=>rfl
     |some v=>simp only[IG h (by simp[dg,hop]) hx ha]
    |ept b e i off p τ=>
     cases cF C R g t x with
     |none=>rfl
     |some v=>simp only[Cq h (by simp[dg,hop]) hx ha]
    |_=>rfl
 |nilCheck x=>rw[hop]at hm;simp only[bl,hop,hm (x:=x) (by simp[Op.operands])]
 |binOp op t x y u=>rw[hop]at hd;simp only[bl,hop,hd (x:=x) (by simp[Op.operands]),hd (x:=y) (by simp[Op.operands])]
 |unOp op t x=>rw[hop]at hd;simp only[bl,hop,hd (x:=x) (by simp[Op.operands])]
 |convert s d x=>rw[hop]at hd;simp only[bl,hop,hd (x:=x) (by simp[Op.operands])]
 |makeSlice t n c=>rw[hop]at hd;simp only[bl,hop,hd (x:=n) (by simp[Op.operands]),hd (x:=c) (by simp[Op.operands])]
 |slice t x lo hi mx=>
  rw[hop]at hd
  have e1:∀ {t},cF C R' g t x=cF C R g t x:=hd (by simp[Op.operands])
  have e2:lo.map (cF C R' g 3)=lo.map (cF C R g 3):=by
   cases lo with
   |none=>rfl
   |some l=>simp only[agw];rw[hd (by simp[Op.operands])]
  have e3:hi.map (cF C R' g 3)=hi.map (cF C R g 3):=by
   cases hi with
   |none=>rfl
   |some l=>simp only[agw];rw[hd (by simp[Op.operands])]
  simp only[bl,hop,e1,e2,e3]
 |fieldAddr s x j=>rw[hop]at hm;simp only[bl,hop,hm (x:=x) (by simp[Op.operands])]
 |field s x j=>rw[hop]at hd;simp only[bl,hop,hd (x:=x) (by simp[Op.operands])]
 |indexAddr t x n=>rw[hop]at hd;simp only[bl,hop,hd (x:=x) (by simp[Op.operands]),hd (x:=n) (by simp[Op.operands])]
 |index t x n=>rw[hop]at hd;simp only[bl,hop,hd (x:=x) (by simp[Op.operands]),hd (x:=n) (by simp[Op.operands])]
 |extract x j=>rw[hop]at hm;simp only[bl,hop,hm (x:=x) (by simp[Op.operands])]
 |call c=>
  have hc:∀x∈c.args.toList,x∈o.op.operands.toList:=by
   intro x hx
   rw[hop]
   simp only[Op.operands,Call.operands]
   cases c.callee<;>simp_all
  simp only[bl,hop]
  cases hb:c.callee with
  |builtin b=>simp only[Pz h hc]
  |value f=>
   cases f with
   |func f=>simp only[V6 h (by simp[dg,hop]) hc]
   |_=>rfl
  |invoke r m=>rfl
 |_=>simp only[bl,hop]
theorem W6 (h:dW o R R'):qa C ops R' tk o=qa C ops R tk o:=by
 have hm:∀ {x:Operand},x∈o.op.operands.toList→∀ {t:TypeId},arg C R' none t x=arg C R none t x:=fun hx=>CD h hx
 have hd:∀ {x:Operand},x∈o.op.operands.toList→∀ {t:TypeId},cF C R' none t x=cF C R none t x:=fun hx=>gX h hx
 unfold qa
 cases hop:o.op with
 |load t a=>
  have hx:a∈o.op.operands.toList:=by rw[hop];simp[Op.operands]
  simp only[hm hx]
  cases C.tt t with
  |none=>rfl
  |some ti=>
   cases ha:arg C R none 0 a with
   |none=>rfl
   |some sv=>
    cases sv with
    |ept b e i off p τ=>simp only[Cq h (by simp[dg,hop]) hx ha]
    |_=>rfl
 |store t a x=>
  have hx:a∈o.op.operands.toList:=by rw[hop];simp[Op.operands]
  have hy:x∈o.op.operands.toList:=by rw[hop];simp[Op.operands]
  simp only[hm hx,hd hy]
  cases C.tt t with
  |none=>rfl
  |some ti=>
   cases ha:arg C R none 0 a with
   |none=>rfl
   |some sv=>
    cases sv with
    |ept b e i off p τ=>
     have hrw:=Cq h (by simp[dg,hop]) hx ha
     cases cF C R none t x with
     |none=>rfl
     |some v=>
      obtain⟨τv,xv,shv⟩:=v
      cases shv with
      |sl m=>
       cases m with
       |nst b' e' i' off' p' fr=>
        cases τv with
        |sl σ=>simp only[hrw]
        |_=>rfl
       |_=>cases τv<;>rfl
      |_=>cases τv<;>rfl
    |_=>rfl
 |call c=>
  have hc:∀x∈c.args.toList,x∈o.op.operands.toList:=by
   intro x hx
   rw[hop]
   simp only[Op.operands,Call.operands]
   cases c.callee<;>simp_all
  simp only
  split
  ·rename_i x y t u hb ha hts
   have hx:x∈o.op.operands.toList:=hc x (by rw[ha];simp)
   have hy:y∈o.op.operands.toList:=hc y (by rw[ha];simp)
   simp only[hd hx,hd hy]
   split
   ·rename_i ti e l b E0 i off p e' l' m' hti hvx hvy
    simp only[aan h (by simp[dg,hop]) hx hvx]
   ·rfl
  ·rfl
 |_=>rfl
theorem aaS (h:dW o R R'):iK C ops R' tk g o=iK C ops R tk g o:=by
 unfold iK
 cases g with
 |none=>simp only[W6 h,Kn h]
 |some g=>exact Kn h
end
theorem Wv (a b:List (Nat×SV)) (L:List SV):cO (a++b) L=cO b (cO a L):=List.foldl_append ..
theorem Mp (E:Env) (d:Option Nat) (v:SV):(E.set d v).s=cO (wr d v) E.s:=by cases d<;>rfl
theorem Ee:∀(l:List (Nat×Nat×TV)) (L:List SV),bu l L=cO (l.map (fun p=>(p.2.1,SV.box p.1 p.2.2))) L
 | [],_=>rfl
 |(_,_,_)::l,_=>Ee l _
theorem RH (E:Env) (ts:List Nat):(E.kill ts).s=E.s.map (dL ts):=by
 unfold Env.kill dL
 split
 ·simp
 ·rfl
theorem aaL (E:Env) (ts:List Nat) (t:Nat):(E.aS ts t).s=E.s.map (j0 ts t):=by
 unfold Env.aS j0
 split
 ·simp
 ·rfl
theorem Xo (E:Env) (ts:List Nat):(E.kill ts).nt=E.nt:=by unfold Env.kill;split<;>rfl
theorem ac2 (E:Env) (ts:List Nat) (t:Nat):(E.aS ts t).nt=E.nt:=by unfold Env.aS;split<;>rfl
theorem Env.ext' {E E':Env} (h:E.s=E'.s) (hn:E.nt=E'.nt) (hk:E.kp=E'.kp:=by rfl):E=E':=by cases E;cases E';simp_all
theorem Mg (E:Env) (d:Option Nat) (v:SV):(E.set d v).kp=E.kp:=by cases d<;>rfl
theorem acN (E:Env) (ts:List Nat) (t:Nat):(E.aS ts t).kp=E.kp:=by unfold Env.aS;split<;>rfl
theorem Vn (E:Env) (ts:List Nat):(E.kill ts).kp=E.kp:=by unfold Env.kill;split<;>rfl
theorem ZZ (E:Env) (ts:List Nat) (rp:List (Nat×Nat)):(E.bS ts rp).kp=E.kp:=by unfold Env.bS;split;exact Vn E ts;rfl
theorem acb (E:Env) (ts:List Nat) (rp:List (Nat×Nat)):(E.bS ts rp).nt=E.nt:=by unfold Env.bS;split;exact Xo E ts;rfl
theorem aaO (E:Env) (ts:List Nat) (rp:List (Nat×Nat)):(E.bS ts rp).s=E.s.map (Tr.ki ts rp).sv:=by
 unfold Env.bS
 simp only[Tr.sv]
 split
 ·exact RH E ts
 ·rfl
theorem Wn (o:Oper) (a:Option Bool) (E:Env) (ef:Ef):aY o a E some ef=(iq o a ef).map E.fE:=by
 have hid:∀(d:Option Nat) (v:SV),E.set d v=E.fE (.id,wr d v):=by
  intro d v
  refine Env.ext' ?_ (by rw[Mc];rfl) (by rw[Mg];rfl)
  rw[Mp]
  simp[Env.fE,Tr.sv]
 cases ef with
 |val v=>simp only[aY,iq,agw,hid]
 |chk c v=>simp only[aY,iq,hid];split<;>split<;>rfl
 |opt α z x f=>
  simp only[aY,iq,hid]
  rw[Option.map_bind]
  rfl
 |put b s v=>
  simp only[aY,iq]
  split
  ·simp[Env.fE,Tr.sv,cO]
  ·rfl
 |app c kl gv t v=>
  simp only[aY,iq]
  split
  ·split
   ·simp only[agw,afL]
    refine Env.ext' ?_ (by rw[Mc,ac2,Xo];rfl) (by rw[Mg,acN,Vn];rfl)
    rw[Mp,aaL,RH]
    simp[Env.fE,Tr.sv,Function.comp_def]
   ·rfl
  ·rfl
 |elem gv b e l m=>
  simp only[aY,iq]
  split
  ·simp[Env.fE,Tr.sv,cO,Env.elem]
  ·rfl
 |nap c gv b e l m v=>
  simp only[aY,iq]
  split
  ·split
   ·simp only[agw,afL]
    refine Env.ext' ?_ (by rw[Mc];rfl) (by rw[Mg];rfl)
    rw[Mp]
    simp[Env.fE,Tr.sv,Env.elem]
   ·rfl
  ·rfl
 |call α x tks f rp=>
  simp only[aY,iq]
  split
  ·cases x with
   |none=>rfl
   |some r=>
    simp only[agG,agw,afL]
    refine Env.ext' ?_ (by rw[Mc];exact acb E tks (rp r)) (by rw[Mg];exact ZZ E tks (rp r))
    rw[Mp]
    simp only[Env.fE,Wv,Ee,aaO]
  ·rfl
structure Nt (X:List Nat) (f:M→M) (fe:Nat→Bool) (fr:List Nat→Option (List Nat)):Prop where
 m:∀m,f m=m∨f m= .dead∨∃x∈X,x∈(f m).aE
 r:∀hs hs',fr hs=some hs'→hs'=hs∨∃x∈X,x∈hs'
section
variable {X:List Nat} {f:M→M} {fe:Nat→Bool} {fr:List Nat→Option (List Nat)}
theorem Sh.kJ (h:Nt X f fe fr):∀ {sh:Sh},(sh.map f).live=true→(∀c∈(sh.map f).aE,c∉X)→sh.map f=sh
 | .leaf,_,_=>rfl
 | .sl m,hl,hc=>by
   rcases h.m m with e|e|⟨x,hx,hin⟩
   ·simp only[Sh.map,e]
   ·simp only[Sh.map,e,Sh.live]at hl;cases hl
   ·exact absurd hx (hc x hin)
 | .pair a b,hl,hc=>by
   simp only[Sh.map,Sh.live,afS]at hl
   simp only[Sh.map,Sh.aE,afO]at hc
   simp only[Sh.map]
   rw[Sh.kJ h hl.1 (fun c hh=>hc c (.inl hh)),Sh.kJ h hl.2 (fun c hh=>hc c (.inr hh))]
theorem uR (v:TV) (sh:Sh) (h:sh=v.sh):({v with sh:=sh}:TV)=v:=by subst h;rfl
theorem SV.kJ (h:Nt X f fe fr):∀ {v:SV},(v.mapM f fe fr).clean=true→(∀c∈(v.mapM f fe fr).dy,c∉X)→v.mapM f fe fr=v
 | .no,hl,_=>by simp[SV.mapM,SV.clean]at hl
 | .d v,hl,hc=>by simp only[SV.mapM];rw[uR v _ (Sh.kJ h hl hc)]
 | .box t v,hl,hc=>by
   simp only[SV.mapM]
   rw[uR v _ (Sh.kJ h hl (fun c hh=>hc c (by simp[SV.mapM,SV.dy,hh])))]
 | .ptr ..,_,_=>rfl
 | .ept t e i o p τ,hl,hc=>by
   simp only[SV.mapM]at hl⊢
   split
   ·rfl
   ·rename_i hf;rw[if_neg hf]at hl;cases hl
 | .rdp hs v,hl,hc=>by
   simp only[SV.mapM]at hl hc⊢
   cases hr:fr hs with
   |none=>rw[hr]at hl;cases hl
   |some hs'=>
    rw[hr]at hl hc
    simp only at hl hc⊢
    rcases h.r hs hs' hr with e|⟨x,hx,hin⟩
    ·rw[e,uR v _ (Sh.kJ h hl (fun c hh=>hc c (by simp[SV.dy,hh])))]
    ·exact absurd hx (hc x (by simp[SV.dy,hin]))
 | .tup l,hl,hc=>by
   simp only[SV.mapM]
   congr 1
   have:∀v∈l,({v with sh:=v.sh.map f}:TV)=v:=by
    intro v hv
    simp only[SV.mapM,SV.clean,List.all_map,afX,Function.comp_apply]at hl
    exact uR v _ (Sh.kJ h (hl v hv) (fun c hh=>hc c (by
     simp only[SV.mapM,SV.dy,ahb,ags]
     exact⟨v,hv,hh⟩)))
   conv=>rhs;rw[←List.map_id l]
   exact ag2 this
 | .g j w a v,hl,hc=>by
   simp only[SV.mapM]
   rw[SV.kJ (v:=v) h hl hc]
theorem Sh.stays (hf:∀m:M,(∀c∈m.aE,c∉X)→f m=m):∀ {sh:Sh},(∀c∈sh.aE,c∉X)→sh.map f=sh
 | .leaf,_=>rfl
 | .sl m,hc=>by simp only[Sh.map];rw[hf m hc]
 | .pair a b,hc=>by
   simp only[Sh.aE,afO]at hc
   simp only[Sh.map]
   rw[Sh.stays hf (fun c hh=>hc c (.inl hh)),Sh.stays hf (fun c hh=>hc c (.inr hh))]
theorem SV.stays (hf:∀m:M,(∀c∈m.aE,c∉X)→f m=m) (he:∀t,t∉X→fe t=true) (hr:∀hs,(∀c∈hs,c∉X)→fr hs=some hs):∀ {v:SV},(∀c∈v.dy,c∉X)→v.mapM f fe fr=v
 | .no,_| .ptr ..,_=>rfl
 | .d v,hc=>by simp only[SV.mapM];rw[uR v _ (Sh.stays hf hc)]
 | .box t v,hc=>by
   simp only[SV.mapM]
   rw[uR v _ (Sh.stays hf (fun c hh=>hc c (by simp[SV.dy,hh])))]
 | .ept t e i o p τ,hc=>by simp only[SV.mapM];rw[if_pos (he t (hc t (by simp[SV.dy])))]
 | .rdp hs v,hc=>by
   simp only[SV.mapM,hr hs (fun c hh=>hc c (by simp[SV.dy,hh]))]
   rw[uR v _ (Sh.stays hf (fun c hh=>hc c (by simp[SV.dy,hh])))]
 | .tup l,hc=>by
   simp only[SV.mapM]
   congr 1
   have:∀v∈l,({v with sh:=v.sh.map f}:TV)=v:=fun v hv=>
    uR v _ (Sh.stays hf (fun c hh=>hc c (by simp only[SV.dy,ags];exact⟨v,hv,hh⟩)))
   conv=>rhs;rw[←List.map_id l]
   exact ag2 this
 | .g j w a v,hc=>by simp only[SV.mapM];rw[SV.stays hf he hr (v:=v) hc]
end
end Vg
