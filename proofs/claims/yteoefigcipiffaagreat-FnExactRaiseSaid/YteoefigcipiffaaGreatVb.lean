/- VG, joined: an evaluator of the code over typed values, and its soundness, for any program. -/
import Derived.Test.YteoefigcipiffaaGreatVa
import Derived.Orders
import Derived.LoopN
set_option linter.unusedSimpArgs false
set_option linter.unusedVariables false
namespace Vg
open Go
section
variable {P:Program} {C:Cx} {w0:World} {c0:C0} {U:Nat→Prop} {E:Env} {a:Act} {w:World} {G:Gh} {ops:List Oper} {g:Option (Nat×Bool)}
theorem Sh.hJ:∀ {τ:Ty} {x:τ.den} {sh:Sh} {cs:List Value} {ts:List Nat},aW w G τ x sh cs→sh.own=some ts→∀c∈ts,3≤c
 | .int _,_,.leaf,_,ts,_,h,c,hc| .bool,_,.leaf,_,ts,_,h,c,hc| .str,_,.leaf,_,ts,_,h,c,hc=>by
   simp only[Sh.own,Option.some.injEq]at h;subst h;simp at hc
 | .sl e,l,.sl m,cs,ts,h,ho,c,hc=>by
   obtain⟨v,rfl,hr⟩:=h
   simp only[Sh.own]at ho
   cases m with
   |row t hs nd=>
    obtain⟨_,g3,gm⟩:=M.hJ ho
    rcases(gm c).1 hc with rfl|hc
    ·exact hr.1
    ·exact g3 c hc
   |sha hs=>cases hs with
    |nil=>simp only[M.own,Option.some.injEq]at ho;subst ho;simp at hc
    |cons=>simp[M.own]at ho
   |dead=>simp[M.own]at ho
 | .pair a b,p,.pair s1 s2,cs,ts,h,ho,c,hc=>by
   obtain⟨c1,c2,rfl,h1,h2⟩:=h
   simp only[Sh.own]at ho
   split at ho
   ·rename_i x y hx hy
    split at ho
    ·simp only[Option.some.injEq]at ho;subst ho
     rcases List.mem_append.1 hc with hc|hc
     ·exact Sh.hJ h1 hx c hc
     ·exact Sh.hJ h2 hy c hc
    ·cases ho
   ·cases ho
 | .int _,_,.sl _,_,_,h,_,_,_| .int _,_,.pair _ _,_,_,h,_,_,_| .bool,_,.sl _,_,_,h,_,_,_| .bool,_,.pair _ _,_,_,h,_,_,_
 | .str,_,.sl _,_,_,h,_,_,_| .str,_,.pair _ _,_,_,h,_,_,_| .sl _,_,.leaf,_,_,h,_,_,_| .sl _,_,.pair _ _,_,_,h,_,_,_
 | .pair _ _,_,.leaf,_,_,h,_,_,_| .pair _ _,_,.sl _,_,_,h,_,_,_=>h.elim
theorem NW {τ:Ty} {b:Nat} {hs:List Nat} {nd:Bool} {v:TV} {cv:List Value} {e:Ty} {l:List e.den} {hv:Value} {gv:List Nat} {m:M}
 (hr:bW w G e l hv (.row b hs nd)) (hg:∀c∈b::hs,Good U G c) (hvv:aW w G v.τ v.x v.sh cv) (hvg:∀c∈v.sh.aD,Good U G c) (hl:v.sh.live=true) (hτ:v.τ=τ)
 (own:Option (List Nat)) (hown:own=if τ.flat then none else match(M.row b hs nd).own,v.sh.own with
  |some a,some c=>if c.all (!a.contains ·)then some ((a++c).filter (·≠b))else none
  |_,_=>none)
 (hgv:gv=own.getD []) (hm:m=if own.isSome then .row b [b] true else if τ.flat then .row b hs nd else .row b (hs++v.sh.aD).eraseDups false)
 (hno:(own.isNone&&v.sh.aD.contains b)=false):
 (∀c∈gv,3≤c∧Good U G c)∧b∉gv∧(∀c∈m.aD,Good U G c)∧
 ∃B Bv hs' nd',dI w e.sz (aR w e) l hv B∧aR w v.τ v.x cv Bv∧m= .row b hs' nd'∧
  ∀h Bs,B=h::Bs→G.col h=b∧h∉Bs∧h∉Bv∧∀Bs',(∃A Bo D,Bs=A++Bo++D∧Bs'=A++Bv++D)→
   (∀x∈Bs',(if G.col x∈gv then b else G.col x)∈hs')∧(nd'=true→Bs'.Nodup):=by
 obtain⟨hb3,hh,B,hB,hc⟩:=hr
 by_cases hf:τ.flat=true
 ·rw[if_pos hf]at hown
  subst hown
  simp only[Option.getD_none]at hgv
  subst hgv
  simp only[Option.isSome_none,Bool.false_eq_true,if_false,hf,if_true]at hm
  subst hm
  obtain⟨Bv,hBv,_⟩:=hvv.rep hl
  have:Bv=[]:=aR.flat (by rw[hτ];exact hf) hBv
  subst this
  refine⟨by simp,by simp,fun c hcc=>hg c hcc,B,[],hs,nd,hB,hBv,rfl,fun h Bs hBs=> ?_⟩
  obtain⟨k1,k2,k3,k4⟩:=hc h Bs hBs
  refine⟨k1,k2,by simp,?_⟩
  rintro Bs' ⟨A,Bo,D,rfl,rfl⟩
  refine⟨fun x hx=> ?_,fun hn=> ?_⟩
  ·simp only[List.not_mem_nil,if_false]
   exact k3 x (by simp at hx⊢;rcases hx with hx|hx<;>simp[hx])
  ·exact(k4 hn).sublist (by
    simp only[List.append_nil]
    exact List.Sublist.append (List.sublist_append_left ..) (List.Sublist.refl _))
 ·rw[if_neg hf]at hown
  cases ho:own with
  |some ts=>
   rw[ho]at hown hgv hm
   simp only[Option.getD_some]at hgv
   simp only[Option.isSome_some,if_true]at hm
   subst hgv hm
   split at hown
   ·rename_i a' c ha' hcv
    split at hown
    ·rename_i hdis
     cases hown
     obtain⟨hnd,h3,hma⟩:=M.hJ ha'
     have hda:∀z∈c,z∉a':=by
      simp only[List.all_eq_true,Bool.not_eq_true',List.contains_eq_mem,decide_eq_false_iff_not]at hdis
      exact hdis
     obtain⟨Bv,hBv,hnv,hcvv⟩:=hvv.own hcv
     have hc3:∀z∈c,3≤z:=Sh.hJ hvv hcv
     refine⟨fun z hz=> ?_,by simp,by simp only[M.aD];intro z hz;simp only[List.mem_cons,List.not_mem_nil,or_false,or_self]at hz;subst hz;exact hg z (by simp),B,Bv,[b],true,hB,hBv,rfl,fun h Bs hBs=> ?_⟩
     ·simp only[List.mem_filter,List.mem_append]at hz
      rcases hz.1 with h|h
      ·refine⟨?_,hg z ?_⟩
       ·rcases(hma z).1 h with rfl|h
        ·exact hb3
        ·exact h3 z h
       ·rcases(hma z).1 h with rfl|h
        ·simp
        ·simp[h]
      ·exact⟨hc3 z h,hvg z (Sh.fX hcv z h)⟩
     ·obtain⟨k1,k2,k3,k4⟩:=hc h Bs hBs
      refine⟨k1,k2,fun hin=> ?_,?_⟩
      ·have:=hcvv h hin
       rw[k1]at this
       exact hda b this ((hma b).2 (.inl rfl))
      ·rintro Bs' ⟨A,Bo,D,rfl,rfl⟩
       have hn:=k4 hnd
       have hxa:∀x∈A++Bo++D,G.col x∈a':=fun x hx=>(hma _).2 (.inr (k3 x hx))
       refine⟨fun x hx=> ?_,fun _=> ?_⟩
       ·have hx':G.col x∈a'∨G.col x∈c:=by
         simp only[List.mem_append]at hx
         rcases hx with(hx|hx)|hx
         ·exact .inl (hxa x (by simp[hx]))
         ·exact .inr (hcvv x hx)
         ·exact .inl (hxa x (by simp[hx]))
        by_cases e:G.col x=b
        ·simp[e]
        ·have hin:G.col x∈(a'++c).filter (·≠b):=by
          simp only[List.mem_filter,List.mem_append,ne_eq,decide_not,Bool.not_eq_true',decide_eq_false_iff_not]
          exact⟨hx',e⟩
         rw[if_pos hin];simp
       ·have hdj:∀x∈Bv,x∉A++Bo++D:=fun x hx hin=>hda _ (hcvv x hx) (hxa x hin)
        rw[List.nodup_append,List.nodup_append]at hn
        obtain⟨⟨n1,n2,n3⟩,n4,n5⟩:=hn
        rw[List.nodup_append,List.nodup_append]
        refine⟨⟨n1,hnv,fun x hx y hy e=>hdj y hy (by subst e;simp[hx])⟩,n4,fun x hx y hy e=> ?_⟩
        rcases List.mem_append.1 hx with hx|hx
        ·exact n5 x (by simp[hx]) y hy e
        ·exact hdj x hx (by subst e;simp[hy])
    ·cases hown
   ·cases hown
  |none=>
   rw[ho]at hgv hm hno
   simp only[Option.getD_none]at hgv
   subst hgv
   simp only[Option.isSome_none,Bool.false_eq_true,if_false,hf]at hm
   subst hm
   simp only[Option.isNone_none,Bool.true_and,List.contains_eq_mem,decide_eq_false_iff_not]at hno
   obtain⟨Bv,hBv,hcv⟩:=hvv.rep hl
   refine⟨by simp,by simp,fun c hcc=> ?_,B,Bv,_,false,hB,hBv,rfl,fun h Bs hBs=> ?_⟩
   ·simp only[M.aD,List.mem_cons,List.mem_eraseDups,List.mem_append]at hcc
    rcases hcc with rfl|hcc|hcc
    ·exact hg c (by simp)
    ·exact hg c (by simp[hcc])
    ·exact hvg c hcc
   ·obtain⟨k1,k2,k3,k4⟩:=hc h Bs hBs
    refine⟨k1,k2,fun hin=> ?_,?_⟩
    ·have:=hcv h hin
     rw[k1]at this
     exact hno this
    ·rintro Bs' ⟨A,Bo,D,rfl,rfl⟩
     refine⟨fun x hx=> ?_,by simp⟩
     simp only[List.not_mem_nil,if_false,List.mem_eraseDups,List.mem_append]
     simp only[List.mem_append]at hx
     rcases hx with(hx|hx)|hx
     ·exact .inl (k3 x (by simp[hx]))
     ·exact .inr (hcv x hx)
     ·exact .inl (k3 x (by simp[hx]))
theorem Inv.Th (hI:Inv w0 c0 U E a w G) {ts:List Nat} {t:Nat} {v:Value} (h3:3≤t) (hts:∀c∈ts,3≤c∧Good U G c) (hU:U t) (hv:v=G.hdr t) (hb:G.bx t=false):
 Inv w0 c0 U {E with s:=E.s.map (SV.aS ts t)} a w (G.aS ts t v):=by
 refine(hI.map (f:=M.aS ts t) (Iy (w:=w) (v:=v) h3 hts (fun _=>⟨hv,hb⟩)) ?_ ?_).mono (U':=U) (fun c hc=>hc.elim id (fun e=>e▸hU))
 ·intro b hb
  simp only[Gh.aS]at hb⊢
  split
  ·exact .inr rfl
  ·rename_i h;rw[if_neg h]at hb;exact .inl (hI.colU b hb)
 ·intro b
  simp only[Gh.aS]
  by_cases h:G.col b∈ts
  ·have:=(hts _ h).1
   simp only[h,if_true];omega
  ·simp[h]
theorem TF (hC:CxTy P C) (hI:Inv w0 c0 U E a w G) (hR:RI ops E a.tmps) (hg:Gd ops a.tmps g) {tk:Nat} {o:Oper} {t:TypeId} {x y:Operand}
 {gv:List Nat} {b:Nat} {e:Ty} {l':List e.den} {m:M} (ho:o.op= .store t x y) (h:bm C ops E.rd tk g o=some (.elem gv b e l' m)):
 ∃w' G',(execOp a.eval o).run P w= .ok .skip w'∧Inv w0 c0 U (E.elem gv b e l' m) a w' G':=by
 simp only[bm,ho]at h
 split at h
 ·split at h
  ·split at h
   ·obtain⟨r,_,h⟩:=Option.map_eq_some_iff.mp h
    cases h
   ·cases h
  ·cases h
 ·rename_i ti b1 e1 i off p τ1 v1 hti harg hv
  split at h
  ·rename_i l hs nd hrow
   obtain⟨hc,h⟩:=Option.ite_none_right_eq_some.mp h
   obtain⟨hno,h⟩:=Option.ite_none_left_eq_some.mp h
   obtain⟨r,hr,h⟩:=Option.map_eq_some_iff.mp h
   simp only[Ef.elem.injEq]at h
   obtain⟨hgv,rfl,rfl,hl',hm⟩:=h
   have hl':=eq_of_heq hl'
   subst hl'
   simp only[Bool.and_eq_true,decide_eq_true_eq]at hc
   obtain⟨⟨⟨hc1,hc2⟩,hc3⟩,hc4⟩:=hc
   obtain⟨h1,_⟩:=en hI hR hg harg
   obtain⟨bk,of,n,cap,hb3,k2,k3,k4,k5⟩:=h1
   obtain⟨⟨vh,hvh⟩,hgood⟩:=hI.dx hrow
   obtain⟨⟨cv,hcv,hvv⟩,hvg,hlive⟩:=fW hI hR hg hv
   have hvh0:vh=G.hdr b1:=hvh.2.1.symm
   have hno':=hno
   simp only[Bool.not_eq_true]at hno'
   obtain⟨q1,q2,q3,B,Bv,hs',nd',hB,hBv,hm',hblk⟩:=NW (τ:=τ1) (gv:=gv) (m:=m) hvh hgood hvv hvg hlive hc3 _ rfl hgv.symm hm.symm hno'
   rw[hvh0,k2]at hB
   rcases hB with⟨⟨ao,hB⟩,_⟩|⟨bk',of',cap',c,el,fz,Bs,hvv',hcap,hheap,hsz,rfl,hl⟩
   ·cases hB;exfalso;have k4':i<((0:Nat):Int):=k4;have k3': @LE.le Int Int.instLEInt 0 i:=k3;omega
   ·simp only[Value.slice.injEq,Option.some.injEq,Addr.mk.injEq,and_true]at hvv'
    obtain⟨⟨rfl,rfl⟩,rfl,rfl⟩:=hvv'
    obtain⟨j1,j2,j3,j4⟩:=hblk bk Bs rfl
    obtain⟨c',el',hfr⟩:=hI.fresh bk (by rw[j1];exact hb3)
    rw[hfr]at hheap
    simp only[Option.some.injEq,Obj.cells.injEq]at hheap
    obtain⟨rfl,rfl,rfl⟩:=hheap
    have hi:i.toNat<l.length:=toNat_lt k3 k4
    have hget:l[i.toNat]?=some (l.getD i.toNat e1.aa):=by
     rw[List.getD_eq_getElem?_getD,List.getElem?_eq_getElem hi];rfl
    obtain⟨B1,Bx,B2,rfl,hx1,hx2,hx3⟩:=bg.get (sz:=e1.sz) (fun x c B h=>aR.len h) hl hget
    obtain⟨Ba,Bo,Bb,rfl,hput,hle⟩:=aR.put hr hx1 hBv
    have hset:=bg.set (sz:=e1.sz) hi hput hx2 hx3
    have hlv:cv.length=v1.τ.sz:=aW.len hvv
    have hmul:(i.toNat+1)*e1.sz≤l.length*e1.sz:=Nat.mul_le_mul_right _ hi
    have hmul2:l.length*e1.sz≤cap*e1.sz:=Nat.mul_le_mul_right _ hcap
    rw[Nat.add_mul,Nat.one_mul]at hmul
    have hO:of+i.toNat*e1.sz+off+cv.length≤c'.size:=by rw[←hc1];omega
    have hrow':=gj bk (el:=el') cv (of+i.toNat*e1.sz+off) w c' hfr hO
    have hT:=(hC.tt t ti hti).1
    have hrun:=uV (P:=P) (t:=t) (τ:=ti.τ) hT hfr (o:=of+i.toNat*e1.sz+off) (cs:=cv) (by rw[←hc4,←hlv];exact hO) (by rw[hlv,hc4]) (aW.one hvv) k5
    have hU:U b1:=(hgood b1 (by simp)).2.1
    have hbx:G.bx b1=false:=(hgood b1 (by simp)).2.2
    have hI1:=hI.Th (ts:=gv) (t:=b1) (v:=G.hdr b1) hb3 q1 hU rfl hbx
    have hI2:=hI1.map (EN (w:=w) b1) hI1.colU (fun b=>⟨fun h=>h,fun _=>rfl,fun _=>rfl⟩)
    have hcol:(G.aS gv b1 (G.hdr b1)).col bk=b1:=by simp[Gh.aS,j1,q2]
    have hother:∀k,(G.aS gv b1 (G.hdr b1)).col k≠b1→(w.setCells bk (of+i.toNat*e1.sz+off) cv).heap[k]?=w.heap[k]?:=fun k hk=>
     bD bk _ _ w k (fun e=>hk (e▸hcol))
    have hBs':=j4 (B1++(Ba++Bv++Bb)++B2) ⟨B1++Ba,Bo,Bb++B2,by simp[List.append_assoc],by simp[List.append_assoc]⟩
    have hnot:bk∉B1++(Ba++Bv++Bb)++B2:=by
     simp only[List.mem_append,not_or]at j2⊢
     exact⟨⟨j2.1.1,⟨j2.1.2.1.1,j3⟩,j2.1.2.2⟩,j2.2⟩
    have hnew:bW (w.setCells bk (of+i.toNat*e1.sz+off) cv) (G.aS gv b1 (G.hdr b1)) e1 (l.set i.toNat r.1) ((G.aS gv b1 (G.hdr b1)).hdr b1) m:=by
     rw[hm']
     refine⟨hb3,rfl,bk::(B1++(Ba++Bv++Bb)++B2),?_,?_⟩
     ·refine .inr ⟨bk,of,cap,_,el',(0,0),B1++(Ba++Bv++Bb)++B2,by simp[Gh.aS,k2],by simpa using hcap,hrow',by simp;omega,rfl,?_⟩
      have hcells:((eD (of+i.toNat*e1.sz+off) cv c'.toList).drop of).take ((l.set i.toNat r.1).length*e1.sz)=
       ((c'.toList.drop of).take (l.length*e1.sz)).take (i.toNat*e1.sz)++eD (e1.off p) cv ((((c'.toList.drop of).take (l.length*e1.sz)).drop (i.toNat*e1.sz)).take e1.sz)++((c'.toList.drop of).take (l.length*e1.sz)).drop ((i.toNat+1)*e1.sz):=by
       rw[CF (by omega) (by simp;omega),CC (by simp;omega) (by simp;omega)]
       rw[show of+i.toNat*e1.sz+off-of=i.toNat*e1.sz+e1.off p by omega]
       rw[Ca (sz:=e1.sz) hle]
       rw[Nat.add_mul,Nat.one_mul]
       simp
      show bg _ _ (((eD (of+i.toNat*e1.sz+off) cv c'.toList).toArray.toList.drop of).take _) _
      rw[List.toList_toArray,hcells]
      exact bg.world (fun k hk=>bD bk _ _ w k (fun e=>hnot (e▸hk))) hset
     ·rintro h' Bs'' ⟨⟩
      exact⟨hcol,hnot,hBs'.1,hBs'.2⟩
    have hI3:=hI2.setRow hnew (by simp[Gh.aS]) hb3 hother (fun s=> ?_) (fun c hc=> ?_) (fun k hk=> ?_) (by rw[dY]) (cx _ _ _ w).1 (cx _ _ _ w).2.1 (cx _ _ _ w).2.2
    ·refine⟨w.setCells bk (of+i.toNat*e1.sz+off) cv,G.aS gv b1 (G.hdr b1),?_,?_⟩
     ·simp only[execOp,ho,hcv,hc4]
      simp[hrun]
     ·simpa only[Env.elem,List.map_map,Function.comp_def,SV.bO,SV.aS]using hI3
    ·have:=getD_map (L:=E.s.map (SV.aS gv b1)) (T:=SV.bO b1) rfl s
     show SV.clear b1 ((List.map (SV.bO b1) (E.s.map (SV.aS gv b1))).getD s .no)
     rw[this]
     exact SV.dq b1 _
    ·obtain⟨p1,p2,p3⟩:=q3 c hc
     refine⟨p1,p2,?_⟩
     simp only[Gh.aS];split
     ·rfl
     ·exact p3
    ·by_cases e:k=bk
     ·subst e;exact⟨_,_,hrow'⟩
     ·rw[bD bk _ _ w k e]
      refine hI.fresh k ?_
      simp only[Gh.aS]at hk
      split at hk
      ·rename_i h;exact(q1 _ h).1
      ·rw[hk];exact hb3
  ·cases h
 ·cases h
end
end Vg
namespace Vg
open Go
theorem xw:∀(p:Pt) (tk:Nat) (hs:List Nat),(aP p tk hs).2=(aP p tk []).2
 | .leaf,_,_| .own,_,_| .shr,_,_=>rfl
 | .pair a b,tk,hs=>by simp only[aP];rw[xw a tk hs,xw b _ hs]
theorem bH (p:Pt) (tk:Nat) (hs:List Nat):(aP p tk hs).2=aH p tk:=xw p tk hs
theorem bj:∀(p:Pt) (tk:Nat),tk≤aH p tk
 | .leaf,_| .shr,_=>Nat.le_refl _
 | .own,_=>Nat.le_succ _
 | .pair a b,tk=>by
   have h1:=bj a tk
   have h2:=bj b (aH a tk)
   exact Nat.le_trans h1 h2
theorem de (a b:Pt) (tk:Nat):aH (.pair a b) tk=aH b (aH a tk):=rfl
theorem kh:∀(τ:Ty) (tk:Nat) (hs:List Nat),aP (jo τ) tk hs=(fB τ (.sha hs),tk)
 | .int _,_,_| .bool,_,_| .str,_,_| .sl _,_,_=>rfl
 | .pair a b,tk,hs=>by simp only[jo,aP,kh a,kh b,fB]
theorem Gi (τ:Ty) (tk:Nat):aH (jo τ) tk=tk:=by rw[←bH (jo τ) tk [1],kh]
theorem lq:∀ {p:Pt} {tk:Nat} {hs:List Nat},∀c∈(aP p tk hs).1.aD,c∈hs∨(tk≤c∧c<aH p tk)
 | .leaf,tk,hs,c,h=>by simp[aP,Sh.aD]at h
 | .own,tk,hs,c,h=>by
   simp only[aP,Sh.aD,M.aD,List.mem_cons,List.not_mem_nil,or_false,or_self]at h
   subst h;exact .inr ⟨Nat.le_refl _,Nat.lt_succ_self _⟩
 | .shr,tk,hs,c,h=> .inl h
 | .pair a b,tk,hs,c,h=>by
   simp only[aP,Sh.aD,List.mem_append]at h
   have h1:=bj a tk
   have h2:=bj b (aH a tk)
   rw[de]
   rcases h with h|h
   ·rcases lq c h with h|h
    ·exact .inl h
    ·right;omega
   ·rw[bH]at h
    rcases lq c h with h|h
    ·exact .inl h
    ·right;omega
theorem iH:∀ {p:Pt} {tk:Nat} {hs:List Nat},∀c∈(aP p tk hs).1.aD,(c∈hs∧p.oD=true)∨(tk≤c∧c<aH p tk)
 | .leaf,tk,hs,c,h=>by simp[aP,Sh.aD]at h
 | .own,tk,hs,c,h=>by
   simp only[aP,Sh.aD,M.aD,List.mem_cons,List.not_mem_nil,or_false,or_self]at h
   subst h;exact .inr ⟨Nat.le_refl _,Nat.lt_succ_self _⟩
 | .shr,tk,hs,c,h=> .inl ⟨h,rfl⟩
 | .pair a b,tk,hs,c,h=>by
   simp only[aP,Sh.aD,List.mem_append]at h
   have h1:=bj a tk
   have h2:=bj b (aH a tk)
   rw[de]
   simp only[Pt.oD,Bool.or_eq_true]
   rcases h with h|h
   ·rcases iH c h with h|h
    ·exact .inl ⟨h.1,.inl h.2⟩
    ·right;omega
   ·rw[bH]at h
    rcases iH c h with h|h
    ·exact .inl ⟨h.1,.inr h.2⟩
    ·right;omega
section
variable {P:Program} {C:Cx} {w0:World} {c0:C0} {U:Nat→Prop} {E:Env} {a:Act} {w:World} {G:Gh} {ops:List Oper} {g:Option (Nat×Bool)}
theorem ju {sm:Nat→Nat} {hs:List Nat}:∀ {p:Pt} {τ:Ty} {x:τ.den} {sh:Sh} {cs:List Value} {tk:Nat},gM p sh=true→aW w G τ x sh cs→3≤tk→(∀c∈sh.aD,sm c∈hs)→hs≠ []→
 ∃H:Nat→Value,∀G1:Gh,(∀c k,(c,k)∈eF sm p sh tk→∀b,G.col b=c→G1.col b=k)→(∀u,tk≤u→u<aH p tk→G1.hdr u=H u)→aW w G1 τ x (aP p tk hs).1 cs
 | .leaf,.int _,x,.leaf,cs,tk,_,h,_,_,_=>⟨fun _=>undef,fun _ _ _=>h⟩
 | .leaf,.bool,x,.leaf,cs,tk,_,h,_,_,_=>⟨fun _=>undef,fun _ _ _=>h⟩
 | .leaf,.str,x,.leaf,cs,tk,_,h,_,_,_=>⟨fun _=>undef,fun _ _ _=>h⟩
 | .own,.sl e,l,.sl m,cs,tk,hf,h,h3,_,_=>by
   obtain⟨v,rfl,hr⟩:=h
   simp only[gM,Option.isSome_iff_exists]at hf
   obtain⟨ts,ho⟩:=hf
   obtain⟨B,hB,hn,hc⟩:=hr.own ho
   refine⟨fun _=>v,fun G1 h1 h2=>⟨v,rfl,h3,h2 tk (Nat.le_refl _) (Nat.lt_succ_self _),B,hB,?_⟩⟩
   have hk:∀b∈B,G1.col b=tk:=fun b hb=>h1 (G.col b) tk (by simp only[eF,ho,Option.getD_some,List.mem_map];exact⟨_,hc b hb,rfl⟩) b rfl
   rintro b Bs rfl
   rw[List.nodup_cons]at hn
   exact⟨hk b (by simp),hn.1,fun x hx=>by simp[hk x (by simp[hx])],fun _=>hn.2⟩
 | .shr,.sl e,l,.sl m,cs,tk,hf,h,h3,hsm,hne=>by
   obtain⟨v,rfl,hr⟩:=h
   simp only[gM,ne_eq,decide_not,Bool.not_eq_true',decide_eq_false_iff_not]at hf
   obtain⟨B,hB,hc⟩:=hr.rep hf
   refine⟨fun _=>v,fun G1 h1 h2=>⟨v,rfl,⟨B,hB,fun b hb=> ?_⟩,fun e=>absurd e hne⟩⟩
   rw[h1 (G.col b) (sm (G.col b)) (by simp only[eF,List.mem_map];exact⟨_,hc b hb,rfl⟩) b rfl]
   exact hsm _ (hc b hb)
 | .pair p q,.pair a b,x,.pair s1 s2,cs,tk,hf,h,h3,hsm,hne=>by
   obtain⟨c1,c2,rfl,h1,h2⟩:=h
   simp only[gM,Bool.and_eq_true]at hf
   have hge:=bj p tk
   obtain⟨H1,k1⟩:=ju hf.1 h1 h3 (fun c hc=>hsm c (by simp[Sh.aD,hc])) hne
   obtain⟨H2,k2⟩:=ju (tk:=aH p tk) hf.2 h2 (by omega) (fun c hc=>hsm c (by simp[Sh.aD,hc])) hne
   refine⟨fun u=>if u<aH p tk then H1 u else H2 u,fun G1 g1 g2=>⟨c1,c2,rfl,?_,?_⟩⟩
   ·refine k1 G1 (fun c k hck=>g1 c k (by simp only[eF,List.mem_append];exact .inl hck)) (fun u hu hu2=> ?_)
    exact(g2 u hu (by rw[de];exact Nat.lt_of_lt_of_le hu2 (bj _ _))).trans (if_pos hu2)
   ·rw[bH]
    refine k2 G1 (fun c k hck=>g1 c k (by simp only[eF,List.mem_append];exact .inr hck)) (fun u hu hu2=> ?_)
    exact(g2 u (by omega) (by rw[de];exact hu2)).trans (if_neg (by omega))
 | .leaf,_,_,.sl _,_,_,hf,_,_,_,_| .leaf,_,_,.pair _ _,_,_,hf,_,_,_,_| .own,_,_,.leaf,_,_,hf,_,_,_,_| .own,_,_,.pair _ _,_,_,hf,_,_,_,_
 | .shr,_,_,.leaf,_,_,hf,_,_,_,_| .shr,_,_,.pair _ _,_,_,hf,_,_,_,_| .pair _ _,_,_,.leaf,_,_,hf,_,_,_,_| .pair _ _,_,_,.sl _,_,_,hf,_,_,_,_=>by simp[gM]at hf
 | .leaf,.sl _,_,.leaf,_,_,_,h,_,_,_| .leaf,.pair _ _,_,.leaf,_,_,_,h,_,_,_| .own,.int _,_,.sl _,_,_,_,h,_,_,_| .own,.bool,_,.sl _,_,_,_,h,_,_,_| .own,.str,_,.sl _,_,_,_,h,_,_,_| .own,.pair _ _,_,.sl _,_,_,_,h,_,_,_
 | .shr,.int _,_,.sl _,_,_,_,h,_,_,_| .shr,.bool,_,.sl _,_,_,_,h,_,_,_| .shr,.str,_,.sl _,_,_,_,h,_,_,_| .shr,.pair _ _,_,.sl _,_,_,_,h,_,_,_
 | .pair _ _,.int _,_,.pair _ _,_,_,_,h,_,_,_| .pair _ _,.bool,_,.pair _ _,_,_,_,h,_,_,_| .pair _ _,.str,_,.pair _ _,_,_,_,h,_,_,_| .pair _ _,.sl _,_,.pair _ _,_,_,_,h,_,_,_=>h.elim
theorem D6 {G1 G2:Gh} {hs hs':List Nat}:∀ {p:Pt} {τ:Ty} {x:τ.den} {cs:List Value} {k k':Nat},aW w G1 τ x (aP p k hs).1 cs→3≤k'→
 (∀u,k≤u→u<aH p k→G2.hdr (k'+(u-k))=G1.hdr u∧∀b,G1.col b=u→G2.col b=k'+(u-k))→(∀b,G1.col b∈hs→G2.col b∈hs')→hs'≠ []→
 aW w G2 τ x (aP p k' hs').1 cs∧aH p k'-k'=aH p k-k
 | .leaf,.int _,x,cs,k,k',h,_,_,_,_=>⟨h,by simp[aH,aP]⟩
 | .leaf,.bool,x,cs,k,k',h,_,_,_,_=>⟨h,by simp[aH,aP]⟩
 | .leaf,.str,x,cs,k,k',h,_,_,_,_=>⟨h,by simp[aH,aP]⟩
 | .own,.sl e,l,cs,k,k',h,h3,hk,_,_=>by
   obtain⟨v,rfl,g1,g2,B,hB,hc⟩:=h
   obtain⟨e1,e2⟩:=hk k (Nat.le_refl _) (Nat.lt_succ_self _)
   simp only[Nat.sub_self,Nat.add_zero]at e1 e2
   refine⟨⟨v,rfl,h3,e1.trans g2,B,hB,fun b Bs hb=> ?_⟩,by simp[aH,aP]⟩
   obtain⟨q1,q2,q3,q4⟩:=hc b Bs hb
   exact⟨e2 b q1,q2,fun x hx=>by simp[e2 x (by simpa using q3 x hx)],q4⟩
 | .shr,.sl e,l,cs,k,k',h,_,_,hh,hne=>by
   obtain⟨v,rfl,⟨B,hB,hc⟩,_⟩:=h
   exact⟨⟨v,rfl,⟨B,hB,fun b hb=>hh b (hc b hb)⟩,fun e=>absurd e hne⟩,by simp[aH,aP]⟩
 | .pair p q,.pair a b,x,cs,k,k',h,h3,hk,hh,hne=>by
   obtain⟨c1,c2,rfl,h1,h2⟩:=h
   have n1:=bj p k
   have n2:=bj q (aH p k)
   have n3:=bj p k'
   rw[bH]at h2
   obtain⟨r1,d1⟩:=D6 h1 h3 (fun u hu hu2=>hk u hu (by rw[de];omega)) hh hne
   obtain⟨r2,d2⟩:=D6 (k':=aH p k') h2 (by omega) (fun u hu hu2=>by
    have:=hk u (by omega) (by rw[de];omega)
    rw[show aH p k'+(u-aH p k)=k'+(u-k) by omega]
    exact this) hh hne
   refine⟨⟨c1,c2,rfl,r1,?_⟩,?_⟩
   ·rw[bH];exact r2
   ·rw[de,de]
    have:=bj q (aH p k')
    omega
 | .leaf,.sl _,_,_,_,_,h,_,_,_,_| .leaf,.pair _ _,_,_,_,_,h,_,_,_,_| .own,.int _,_,_,_,_,h,_,_,_,_| .own,.bool,_,_,_,_,h,_,_,_,_| .own,.str,_,_,_,_,h,_,_,_,_| .own,.pair _ _,_,_,_,_,h,_,_,_,_
 | .shr,.int _,_,_,_,_,h,_,_,_,_| .shr,.bool,_,_,_,_,h,_,_,_,_| .shr,.str,_,_,_,_,h,_,_,_,_| .shr,.pair _ _,_,_,_,_,h,_,_,_,_
 | .pair _ _,.int _,_,_,_,_,h,_,_,_,_| .pair _ _,.bool,_,_,_,_,h,_,_,_,_| .pair _ _,.str,_,_,_,_,h,_,_,_,_| .pair _ _,.sl _,_,_,_,_,h,_,_,_,_=>h.elim
end
theorem dH:∀(ps:List PK) (tk:Nat),tk≤bw ps tk
 | [],_=>Nat.le_refl _
 | .val _ p::ps,tk=>Nat.le_trans (bj p tk) (dH ps _)
 | .io _ p::ps,tk=>Nat.le_trans (Nat.le_trans (Nat.le_succ _) (bj p (tk+1))) (dH ps _)
 | .rd _::ps,tk| .vx _ _::ps,tk=>dH ps tk
theorem gw:∀(ps:List PK) (x:aT (ps.map PK.ty)) (tk:Nat),(br ps x tk).2=bw ps tk
 | [],_,_=>rfl
 | .val _ p::ps,x,tk=>by simp only[br,bw];rw[bH];exact gw ps x.2 _
 | .io _ p::ps,x,tk=>by simp only[br,bw];rw[bH];exact gw ps x.2 _
 | .rd _::ps,x,tk| .vx _ _::ps,x,tk=>by simp only[br,bw];exact gw ps x.2 _
theorem hZ:∀(ps:List PK) (x:aT (ps.map PK.ty)) (tk:Nat),(br ps x tk).1.length=ps.length
 | [],_,_=>rfl
 | .val _ p::ps,x,tk=>by simp only[br,List.length_cons];rw[hZ ps x.2]
 | .io _ p::ps,x,tk=>by simp only[br,List.length_cons];rw[hZ ps x.2]
 | .rd _::ps,x,tk| .vx _ _::ps,x,tk=>by simp only[br,List.length_cons];rw[hZ ps x.2]
theorem dj:∀ {ps:List PK} {tk:Nat},∀c∈bR ps tk,tk≤c∧c<bw ps tk
 | [],_,c,h=>by simp[bR]at h
 | .val _ p::ps,tk,c,h=>by
   have:=dj (ps:=ps) (tk:=aH p tk) c h
   have h1:=bj p tk
   exact⟨by omega,this.2⟩
 | .io _ p::ps,tk,c,h=>by
   have h1:=bj p (tk+1)
   have h2:=dH ps (aH p (tk+1))
   simp only[bR,List.mem_cons]at h
   simp only[bw]
   rcases h with rfl|h
   ·omega
   ·have:=dj (ps:=ps) (tk:=aH p (tk+1)) c h;omega
 | .rd _::ps,tk,c,h| .vx _ _::ps,tk,c,h=>dj (ps:=ps) (tk:=tk) c h
theorem fN:∀ {ps:List PK} {x:aT (ps.map PK.ty)} {tk:Nat},∀sv∈(br ps x tk).1,
 (∀c∈sv.sc,c=1∨(tk≤c∧c<bw ps tk∧c∉bR ps tk)∨c∈GB ps)∧(∀c∈sv.bt,c∈bR ps tk)∧sv.rt=[]
 | .val τ p::ps,x,tk,sv,h=>by
   have n1:=bj p tk
   have n2:=dH ps (aH p tk)
   simp only[br,List.mem_cons]at h
   rcases h with rfl|h
   ·refine⟨fun c hc=> ?_,by simp[SV.bt],rfl⟩
    rcases lq c hc with h|h
    ·left;simpa using h
    ·right;left
     simp only[bw,bR]
     exact⟨h.1,by omega,fun hin=>by have:=dj (ps:=ps) (tk:=aH p tk) c hin;omega⟩
   ·rw[bH]at h
    obtain⟨h1,h2,h3⟩:=fN sv h
    refine⟨fun c hc=> ?_,h2,h3⟩
    rcases h1 c hc with h|⟨k1,k2,k3⟩|h
    ·exact .inl h
    ·exact .inr (.inl ⟨by omega,k2,k3⟩)
    ·exact .inr (.inr h)
 | .io τ p::ps,x,tk,sv,h=>by
   have n1:=bj p (tk+1)
   have n2:=dH ps (aH p (tk+1))
   simp only[br,List.mem_cons]at h
   rcases h with rfl|h
   ·refine⟨fun c hc=> ?_,by simp[SV.bt,bR],rfl⟩
    rcases lq c hc with h|h
    ·left;simpa using h
    ·right;left
     simp only[bw,bR,List.mem_cons,not_or]
     exact⟨by omega,by omega,by omega,fun hin=>by have:=dj (ps:=ps) (tk:=aH p (tk+1)) c hin;omega⟩
   ·rw[bH]at h
    obtain⟨h1,h2,h3⟩:=fN sv h
    refine⟨fun c hc=> ?_,fun c hc=>by simp[bR,h2 c hc],h3⟩
    rcases h1 c hc with h|⟨k1,k2,k3⟩|h
    ·exact .inl h
    ·refine .inr (.inl ⟨by omega,k2,?_⟩)
     simp only[bR,List.mem_cons,not_or]
     exact⟨by omega,k3⟩
    ·exact .inr (.inr h)
 | .rd τ::ps,x,tk,sv,h=>by
   simp only[br,List.mem_cons]at h
   rcases h with rfl|h
   ·refine⟨fun c hc=> ?_,by simp[SV.bt],rfl⟩
    simp only[SV.sc,List.mem_append]at hc
    rcases hc with hc|hc
    ·left;simpa using hc
    ·rw[kh]at hc
     left;simpa[M.aD]using lk _ _ c hc
   ·obtain⟨h1,h2,h3⟩:=fN sv h
    exact⟨h1,h2,h3⟩
 | .vx e l::ps,x,tk,sv,h=>by
   simp only[br,List.mem_cons]at h
   rcases h with rfl|h
   ·refine⟨fun c hc=> ?_,by simp[SV.bt],rfl⟩
    simp only[SV.sc,Sh.aD,M.aD,List.mem_cons]at hc
    rcases hc with hc|hc
    ·exact .inl hc
    ·exact .inr (.inr (by simp[GB,hc]))
   ·obtain⟨h1,h2,h3⟩:=fN sv h
    exact⟨fun c hc=>(h1 c hc).imp id (Or.imp id fun h=>by simp[GB,h]),h2,h3⟩
theorem nI:∀ {ps:List PK} {x:aT (ps.map PK.ty)} {tk:Nat} {i j t:Nat} {v v':TV},
 (br ps x tk).1.getD i .no= .box t v→(br ps x tk).1.getD j .no= .box t v'→i=j
 | [],_,_,_,_,_,_,_,h,_=>by simp[br]at h
 | .val τ p::ps,x,tk,i,j,t,v,v',h,h'=>by
   simp only[br]at h h'
   cases i with
   |zero=>simp at h
   |succ i=>
    cases j with
    |zero=>simp at h'
    |succ j=>
     simp only[List.getD_cons_succ]at h h'
     rw[nI h h']
 | .io τ p::ps,x,tk,i,j,t,v,v',h,h'=>by
   have n1:=bj p (tk+1)
   have key:∀ {n:Nat} {u:TV},(br ps x.2 (aH p (tk+1))).1.getD n .no≠ .box tk u:=by
    intro n u e
    have hin:SV.box tk u∈(br ps x.2 (aH p (tk+1))).1:=by
     rw[List.getD_eq_getElem?_getD]at e
     cases hq:(br ps x.2 (aH p (tk+1))).1[n]? with
     |none=>rw[hq]at e;simp at e
     |some z=>rw[hq]at e;simp at e;rw[←e];exact List.mem_of_getElem? hq
    have:=dj tk ((fN _ hin).2.1 tk (by simp[SV.bt]))
    omega
   simp only[br]at h h'
   rw[bH]at h h'
   cases i with
   |zero=>
    cases j with
    |zero=>rfl
    |succ j=>
     simp only[List.getD_cons_zero,SV.box.injEq]at h
     simp only[List.getD_cons_succ]at h'
     rw[←h.1]at h'
     exact absurd h' key
   |succ i=>
    cases j with
    |zero=>
     simp only[List.getD_cons_zero,SV.box.injEq]at h'
     simp only[List.getD_cons_succ]at h
     rw[←h'.1]at h
     exact absurd h key
    |succ j=>
     simp only[List.getD_cons_succ]at h h'
     rw[nI h h']
 | .rd τ::ps,x,tk,i,j,t,v,v',h,h'=>by
   simp only[br]at h h'
   cases i with
   |zero=>simp at h
   |succ i=>
    cases j with
    |zero=>simp at h'
    |succ j=>
     simp only[List.getD_cons_succ]at h h'
     rw[nI h h']
 | .vx e l::ps,x,tk,i,j,t,v,v',h,h'=>by
   simp only[br]at h h'
   cases i with
   |zero=>simp at h
   |succ i=>
    cases j with
    |zero=>simp at h'
    |succ j=>
     simp only[List.getD_cons_succ]at h h'
     rw[nI h h']
structure Cu (w:World) (G:Gh) (L:List SV) (vs:List Value) (nt:Nat):Prop where
 len:vs.length=L.length
 slots:∀i,bI w G (L.getD i .no) (vs.getD i undef)
 kV:∀i,aX (fun u=>u<nt) G (L.getD i .no)
 uni:∀i j t v v',L.getD i .no= .box t v→L.getD j .no= .box t v'→i=j
 colU:∀b,0<G.col b→G.col b<nt∧b<w.heap.size
 fresh:∀b,3≤G.col b→∃c el,w.heap[b]?=some (.cells c el (0,0))
 two:G.bx 2=false
 ent:∀b,G.col b≠2
end Vg
namespace Vg
open Go
section
variable {P:Program} {C:Cx} {w0:World} {c0:C0} {U:Nat→Prop} {E:Env} {a:Act} {w:World} {G:Gh} {ops:List Oper} {g:Option (Nat×Bool)}
theorem hY {sm:Nat→Nat}:∀ {p:Pt} {τ:Ty} {x:τ.den} {sh:Sh} {cs:List Value} {tk:Nat},aW w G τ x sh cs→∀c k,(c,k)∈eF sm p sh tk→
 c∈sh.aD∧(k=sm c∨(3≤c∧tk≤k∧k<aH p tk))
 | .leaf,_,_,_,_,_,_,c,k,hk=>by simp[eF]at hk
 | .own,.sl e,l,.sl m,cs,tk,h,c,k,hk=>by
   simp only[eF,List.mem_map,Prod.mk.injEq]at hk
   obtain⟨c',hc,rfl,rfl⟩:=hk
   cases ho:m.own with
   |none=>rw[ho]at hc;simp at hc
   |some ts=>
    rw[ho]at hc
    have h3:=Sh.hJ (sh:= .sl m) h ho _ hc
    exact⟨M.fX ho _ hc,.inr ⟨h3,Nat.le_refl _,Nat.lt_succ_self _⟩⟩
 | .shr,.sl e,l,.sl m,cs,tk,h,c,k,hk=>by
   simp only[eF,List.mem_map,Prod.mk.injEq]at hk
   obtain⟨c',hc,rfl,rfl⟩:=hk
   exact⟨hc,.inl rfl⟩
 | .pair p q,.pair a b,x,.pair s1 s2,cs,tk,h,c,k,hk=>by
   obtain⟨c1,c2,rfl,h1,h2⟩:=h
   have n1:=bj p tk
   have n2:=bj q (aH p tk)
   simp only[eF,List.mem_append]at hk
   rw[de]
   rcases hk with hk|hk
   ·obtain⟨r1,r2⟩:=hY h1 c k hk
    exact⟨by simp[Sh.aD,r1],r2.imp id (fun⟨q1,q2,q3⟩=>⟨q1,q2,by omega⟩)⟩
   ·obtain⟨r1,r2⟩:=hY h2 c k hk
    exact⟨by simp[Sh.aD,r1],r2.imp id (fun⟨q1,q2,q3⟩=>⟨q1,by have:(aP p tk []).2=aH p tk:=rfl;omega,q3⟩)⟩
 | .own,_,_,.leaf,_,_,_,c,k,hk| .own,_,_,.pair _ _,_,_,_,c,k,hk| .shr,_,_,.leaf,_,_,_,c,k,hk| .shr,_,_,.pair _ _,_,_,_,c,k,hk
 | .pair _ _,_,_,.leaf,_,_,_,c,k,hk| .pair _ _,_,_,.sl _,_,_,_,c,k,hk=>by simp[eF]at hk
 | .own,.int _,_,.sl _,_,_,h,_,_,_| .own,.bool,_,.sl _,_,_,h,_,_,_| .own,.str,_,.sl _,_,_,h,_,_,_| .own,.pair _ _,_,.sl _,_,_,h,_,_,_
 | .shr,.int _,_,.sl _,_,_,h,_,_,_| .shr,.bool,_,.sl _,_,_,h,_,_,_| .shr,.str,_,.sl _,_,_,h,_,_,_| .shr,.pair _ _,_,.sl _,_,_,h,_,_,_
 | .pair _ _,.int _,_,.pair _ _,_,_,h,_,_,_| .pair _ _,.bool,_,.pair _ _,_,_,h,_,_,_| .pair _ _,.str,_,.pair _ _,_,_,h,_,_,_| .pair _ _,.sl _,_,.pair _ _,_,_,h,_,_,_=>h.elim
theorem sM (hI:Inv w0 c0 U E a w G) {sv:SV} {mv:Value} {t s:Nat} {v:TV} (h:lz E.rd sv=some (t,s,v)) (hs:bI w G sv mv):
 E.s.getD s .no= .box t v∧∃bk c el,mv= .pointer (some ⟨bk,0,none⟩)∧G.hdr t=mv∧3≤t∧G.col bk=t∧w.heap[bk]?=some (.cells c el (0,0))∧aW w G v.τ v.x v.sh c.toList∧
  (∀c∈v.sh.aD,Good U G c)∧U t∧G.bx t=true:=by
 unfold lz at h
 split at h
 ·rename_i t' τ
  rw[Option.map_eq_some_iff]at h
  obtain⟨r,hr,h⟩:=h
  simp only[Prod.mk.injEq]at h
  obtain⟨rfl,rfl,rfl⟩:=h
  obtain⟨h1,bk,c,el,g1,g2,g3,g4,g5,g6⟩:=hI.box hr
  obtain⟨bk',_,k2,k3⟩:=hs
  rw[g1]at k2
  simp only[Value.pointer.injEq,Option.some.injEq,Addr.mk.injEq,and_true]at k2
  subst k2
  have hb:=hI.bt r.1 t' (by rw[h1];simp[SV.bt])
  exact⟨h1,bk,c,el,k3,g1.trans k3.symm,g2,g3,g4,g5,g6,hb.2.1,hb.2.2⟩
 ·cases h
theorem Up (r0:List (Nat×Nat)) (l:List Nat) (c:Nat):KC r0 l c∈1::l:=by
 unfold KC
 split
 ·split
  ·rename_i h;simp only[List.contains_eq_mem,decide_eq_true_eq]at h;exact List.mem_cons_of_mem _ h
  ·simp
 ·simp
theorem Cw:∀ {l:List (Nat×Nat)} {a b:Nat},l.lookup a=some b→(a,b)∈l
 |(x,y)::l,a,b,h=>by
  simp only[List.lookup]at h
  split at h
  ·rename_i e
   simp only[beq_iff_eq]at e
   cases h;simp[e]
  ·exact List.mem_cons_of_mem _ (Cw h)
theorem Uu (r0:List (Nat×Nat)) (l:List Nat) (c:Nat):KC r0 l c=1∨((c,KC r0 l c)∈r0∧KC r0 l c∈l):=by
 unfold KC
 split
 ·rename_i k hk
  split
  ·rename_i h;simp only[List.contains_eq_mem,decide_eq_true_eq]at h;exact .inr ⟨Cw hk,h⟩
  ·exact .inl rfl
 ·exact .inl rfl
def Mr (U:Nat→Prop) (G:Gh) (ps:List PK) (tk:Nat) (bs:List (Nat×Nat)) (c k:Nat):Prop:=
 (k=1∧0<c∧U c∧(G.bx c=false∨Fx ps=true))∨(tk≤k∧k<bw ps tk∧3≤c∧((Good U G c∧k∉bR ps tk)∨(k∈bR ps tk∧U c∧G.bx c=true∧∃s,(c,s)∈bs)))
theorem nP (hI:Inv w0 c0 U E a w G):∀ {ps:List PK} {as:List SV} {vals:List Value} {tk:Nat} {r0:List (Nat×Nat)} {xs:aT (ps.map PK.ty)} {rho bs:List (Nat×Nat)},
 bn E.rd ps as tk r0=some (xs,rho,bs)→(∀i,bI w G (as.getD i .no) (vals.getD i undef)∧aX U G (as.getD i .no))→3≤tk→
 as.length=ps.length∧
 (∃H:Nat→Value,∀G1:Gh,(∀c k,(c,k)∈rho→∀b,G.col b=c→G1.col b=k)→(∀u,tk≤u→u<bw ps tk→G1.hdr u=H u)→
  ∀i,bI w G1 ((br ps xs tk).1.getD i .no) (vals.getD i undef))∧
 (∀c k,(c,k)∈rho→Mr U G ps tk bs c k∨((c,k)∈r0∧k≠1))
 | [],[],vals,tk,r0,xs,rho,bs,h,hs,h3=>by
   simp only[bn,Option.some.injEq]at h
   obtain⟨rfl,rfl,rfl⟩:=h
   exact⟨rfl,⟨fun _=>undef,fun G1 _ _ i=>by simp[br,bI]⟩,by simp⟩
 | .val τ p::ps,.d v::as,vals,tk,r0,xs,rho,bs,h,hs,h3=>by
   simp only[bn]at h
   split at h
   ·rename_i x xs' rho' bs' hx hg
    split at h
    ·rename_i hf
     simp only[Option.some.injEq,Prod.mk.injEq]at h
     obtain⟨rfl,rfl,rfl⟩:=h
     have n1:=bj p tk
     have n2:=dH ps (aH p tk)
     have hs0:=hs 0
     simp only[List.getD_cons_zero]at hs0
     obtain⟨⟨cs,hcs,hv⟩,hm⟩:=hs0
     have e:=cK hx
     rw[e]at hcs hv hf hm⊢
     obtain⟨hl,⟨H2,k2⟩,hr⟩:=nP hI (vals:=vals.drop 1) hg (fun i=>by have:=hs (i+1);simpa[List.getD_eq_getElem?_getD,Nat.add_comm]using this) (by exact Nat.le_trans h3 n1)
     obtain⟨H1,k1⟩:=ju (sm:=fun _=>1) (hs:=[1]) (tk:=tk) hf hv h3 (by simp) (by simp)
     refine⟨by simp[hl],⟨fun u=>if u<aH p tk then H1 u else H2 u,fun G1 g1 g2 i=> ?_⟩,fun c k hck=> ?_⟩
     ·cases i with
      |zero=>
       simp only[br,List.getD_cons_zero]
       exact⟨cs,hcs,k1 G1 (fun c k hck=>g1 c k (List.mem_append_left _ hck)) (fun u hu hu2=>(g2 u hu (by simp only[bw];omega)).trans (if_pos hu2))⟩
      |succ i=>
       simp only[br,List.getD_cons_succ]
       rw[bH]
       have:=k2 G1 (fun c k hck=>g1 c k (List.mem_append_right _ hck)) (fun u hu hu2=>(g2 u (by have:(aP p tk []).2=aH p tk:=rfl;omega) hu2).trans (if_neg (by have:(aP p tk []).2=aH p tk:=rfl;omega))) i
       have hpn:(aP p tk []).2=aH p tk:=rfl
       rw[hpn]at this
       simpa[List.getD_eq_getElem?_getD,Nat.add_comm]using this
     ·rcases List.mem_append.1 hck with hck|hck
      ·obtain⟨r1,r2⟩:=hY hv c k hck
       have hgd:Good U G c:=hm.1 c r1
       left
       rcases r2 with r2|⟨r2,r3,r4⟩
       ·exact .inl ⟨r2,hgd.1,hgd.2.1,.inl hgd.2.2⟩
       ·refine .inr ⟨r3,by simp only[bw];omega,r2,.inl ⟨hgd,fun hin=> ?_⟩⟩
        have:=dj (ps:=ps) (tk:=aH p tk) k hin
        omega
      ·rcases hr c k hck with(h|⟨q1,q2,q3,q4⟩)|⟨h,hk1⟩
       ·exact .inl (.inl h)
       ·exact .inl (.inr ⟨Nat.le_trans n1 q1,q2,q3,q4⟩)
       ·rcases List.mem_append.1 h with h|h
        ·exact .inr ⟨h,hk1⟩
        ·obtain⟨r1,r2⟩:=hY hv c k h
         have hgd:Good U G c:=hm.1 c r1
         left
         rcases r2 with r2|⟨r2,r3,r4⟩
         ·exact absurd r2 hk1
         ·refine .inr ⟨r3,by simp only[bw];omega,r2,.inl ⟨hgd,fun hin=> ?_⟩⟩
          have:=dj (ps:=ps) (tk:=aH p tk) k hin
          omega
    ·cases h
   ·cases h
 | .io τ p::ps,sv::as,vals,tk,r0,xs,rho,bs,h,hs,h3=>by
   simp only[bn]at h
   split at h
   ·rename_i t s v hb
    split at h
    ·rename_i x xs' rho' bs' hx hg
     split at h
     ·rename_i hf
      simp only[Option.some.injEq,Prod.mk.injEq]at h
      obtain⟨rfl,rfl,rfl⟩:=h
      have n1:=bj p (tk+1)
      have n2:=dH ps (aH p (tk+1))
      have hs0:=hs 0
      simp only[List.getD_cons_zero]at hs0
      obtain⟨hslot,bk,c,el,b1,b2,b3,b4,b5,b6,b7,b8,b9⟩:=sM hI hb hs0.1
      have e:=cK hx
      rw[e]at hf b6 b7⊢
      obtain⟨hl,⟨H2,k2⟩,hr⟩:=nP hI (vals:=vals.drop 1) hg (fun i=>by have:=hs (i+1);simpa[List.getD_eq_getElem?_getD,Nat.add_comm]using this) (by have:(aP p (tk+1) []).2=aH p (tk+1):=rfl;omega)
      obtain⟨H1,k1⟩:=ju (sm:=fun _=>1) (hs:=[1]) (tk:=tk+1) hf b6 (by omega) (by simp) (by simp)
      refine⟨by simp[hl],⟨fun u=>if u=tk then vals.getD 0 undef else if u<aH p (tk+1)then H1 u else H2 u,fun G1 g1 g2 i=> ?_⟩,fun c k hck=> ?_⟩
      ·cases i with
       |zero=>
        simp only[br,List.getD_cons_zero]
        refine⟨bk,c,el,b1,h3,?_,g1 t tk (by simp) bk b4,b5,k1 G1 (fun c k hck=>g1 c k (by simp[hck])) (fun u hu hu2=> ?_)⟩
        ·exact(g2 tk (Nat.le_refl _) (by simp only[bw];omega)).trans (if_pos rfl)
        ·exact((g2 u (by omega) (by simp only[bw];omega)).trans (if_neg (by omega))).trans (if_pos hu2)
       |succ i=>
        simp only[br,List.getD_cons_succ]
        rw[bH]
        have hpn:(aP p (tk+1) []).2=aH p (tk+1):=rfl
        have:=k2 G1 (fun c k hck=>g1 c k (by simp[hck])) (fun u hu hu2=>((g2 u (by omega) hu2).trans (if_neg (by omega))).trans (if_neg (by omega))) i
        rw[hpn]at this
        simpa[List.getD_eq_getElem?_getD,Nat.add_comm]using this
      ·have key:(c,k)=(t,tk)∨(c,k)∈eF (fun _=>1) p v.sh (tk+1)→Mr U G (.io τ p::ps) tk ((t,s)::bs') c k:=by
        intro hck
        rcases hck with hck|hck
        ·simp only[Prod.mk.injEq]at hck
         obtain⟨rfl,rfl⟩:=hck
         exact .inr ⟨Nat.le_refl _,by simp only[bw];omega,b3,.inr ⟨by simp[bR],b8,b9,s,by simp⟩⟩
        ·obtain⟨r1,r2⟩:=hY b6 c k hck
         have hgd:Good U G c:=b7 c r1
         rcases r2 with r2|⟨r2,r3,r4⟩
         ·exact .inl ⟨r2,hgd.1,hgd.2.1,.inl hgd.2.2⟩
         ·refine .inr ⟨by omega,by simp only[bw];omega,r2,.inl ⟨hgd,fun hin=> ?_⟩⟩
          simp only[bR,List.mem_cons]at hin
          rcases hin with hin|hin
          ·omega
          ·have:=dj (ps:=ps) (tk:=aH p (tk+1)) k hin
           omega
       rw[List.cons_append,List.mem_cons,List.mem_append,←or_assoc]at hck
       rcases hck with hck|hck
       ·exact .inl (key hck)
       ·rcases hr c k hck with(h|⟨q1,q2,q3,q4⟩)|⟨h,hk1⟩
        ·exact .inl (.inl h)
        ·have hpn:(aP p (tk+1) []).2=aH p (tk+1):=rfl
         refine .inl (.inr ⟨by omega,q2,q3,?_⟩)
         rcases q4 with⟨q4,q5⟩|⟨q4,q5,q6,s',q7⟩
         ·refine .inl ⟨q4,fun hin=> ?_⟩
          simp only[bR,List.mem_cons]at hin
          rcases hin with hin|hin
          ·omega
          ·exact q5 hin
         ·exact .inr ⟨by simp only[bR];exact List.mem_cons_of_mem _ q4,q5,q6,s',by simp[q7]⟩
        ·rw[List.mem_append,List.mem_cons]at h
         rcases h with h|h
         ·exact .inr ⟨h,hk1⟩
         ·exact .inl (key h)
     ·cases h
    ·cases h
   ·cases h
 | .rd τ::ps,sv::as,vals,tk,r0,xs,rho,bs,h,hs,h3=>by
   simp only[bn]at h
   split at h
   ·rename_i t s v hb
    split at h
    ·rename_i x xs' rho' bs' hx hg
     split at h
     ·rename_i hf
      simp only[Option.some.injEq,Prod.mk.injEq]at h
      obtain⟨rfl,rfl,rfl⟩:=h
      have hs0:=hs 0
      simp only[List.getD_cons_zero]at hs0
      obtain⟨hslot,bk,c,el,b1,b2,b3,b4,b5,b6,b7,b8,b9⟩:=sM hI hb hs0.1
      have e:=cK hx
      rw[e]at hf b6 b7⊢
      obtain⟨hl,⟨H2,k2⟩,hr⟩:=nP hI (vals:=vals.drop 1) hg (fun i=>by have:=hs (i+1);simpa[List.getD_eq_getElem?_getD,Nat.add_comm]using this) h3
      obtain⟨H1,k1⟩:=ju (sm:=fun _=>1) (hs:=[1]) (tk:=tk) hf b6 (by omega) (by simp) (by simp)
      refine⟨by simp[hl],⟨H2,fun G1 g1 g2 i=> ?_⟩,fun c k hck=> ?_⟩
      ·cases i with
       |zero=>
        simp only[br,List.getD_cons_zero]
        have hv:=k1 G1 (fun c k hck=>g1 c k (by simp[hck])) (fun u hu hu2=>by rw[Gi]at hu2;omega)
        have hlen:c.toList.length=τ.sz:=aW.len hv
        refine⟨bk,0,c,el,(0,0),b1,b5,by simp only[Array.length_toList]at hlen;simp[hlen],?_,?_⟩
        ·simp[g1 t 1 (by simp) bk b4]
        ·simp only[List.drop_zero]
         rw[List.take_of_length_le (Nat.le_of_eq hlen)]
         exact hv
       |succ i=>
        simp only[br,List.getD_cons_succ]
        have:=k2 G1 (fun c k hck=>g1 c k (by simp[hck])) (fun u hu hu2=>g2 u hu hu2) i
        simpa[List.getD_eq_getElem?_getD,Nat.add_comm]using this
      ·rw[List.cons_append,List.mem_cons,List.mem_append]at hck
       rcases hck with hck|hck|hck
       ·simp only[Prod.mk.injEq]at hck
        obtain⟨rfl,rfl⟩:=hck
        exact .inl (.inl ⟨rfl,by omega,b8,.inr rfl⟩)
       ·obtain⟨r1,r2⟩:=hY b6 c k hck
        have hgd:Good U G c:=b7 c r1
        rw[Gi]at r2
        rcases r2 with r2|⟨r2,r3,r4⟩
        ·exact .inl (.inl ⟨r2,hgd.1,hgd.2.1,.inr rfl⟩)
        ·omega
       ·rcases hr c k hck with(h|⟨q1,q2,q3,q4⟩)|h
        ·exact .inl (.inl ⟨h.1,h.2.1,h.2.2.1,.inr rfl⟩)
        ·exact .inl (.inr ⟨q1,q2,q3,q4⟩)
        ·exact .inr h
     ·cases h
    ·cases h
   ·cases h
 | .vx e l::ps,.d v::as,vals,tk,r0,xs,rho,bs,h,hs,h3=>by
   simp only[bn]at h
   split at h
   ·rename_i x xs' rho' bs' hx hg
    split at h
    ·rename_i hf
     simp only[Option.some.injEq,Prod.mk.injEq]at h
     obtain⟨rfl,rfl,rfl⟩:=h
     have hs0:=hs 0
     simp only[List.getD_cons_zero]at hs0
     obtain⟨⟨cs,hcs,hv⟩,hm⟩:=hs0
     have e:=cK hx
     rw[e]at hcs hv hf hm⊢
     obtain⟨hl,⟨H2,k2⟩,hr⟩:=nP hI (vals:=vals.drop 1) hg (fun i=>by have:=hs (i+1);simpa[List.getD_eq_getElem?_getD,Nat.add_comm]using this) h3
     obtain⟨H1,k1⟩:=ju (sm:=KC r0 l) (hs:=1::l) (tk:=tk) hf hv h3 (fun c _=>Up r0 l c) (by simp)
     refine⟨by simp[hl],⟨H2,fun G1 g1 g2 i=> ?_⟩,fun c k hck=> ?_⟩
     ·cases i with
      |zero=>
       simp only[br,List.getD_cons_zero]
       exact⟨cs,hcs,k1 G1 (fun c k hck=>g1 c k (List.mem_append_left _ hck)) (fun u hu hu2=>by
        have:aH .shr tk=tk:=rfl
        omega)⟩
      |succ i=>
       simp only[br,List.getD_cons_succ]
       have:=k2 G1 (fun c k hck=>g1 c k (List.mem_append_right _ hck)) (fun u hu hu2=>g2 u hu hu2) i
       simpa[List.getD_eq_getElem?_getD,Nat.add_comm]using this
     ·rcases List.mem_append.1 hck with hck|hck
      ·obtain⟨r1,r2⟩:=hY hv c k hck
       have hgd:Good U G c:=hm.1 c r1
       rcases r2 with r2|⟨r2,r3,r4⟩
       ·rcases Uu r0 l c with h|⟨h,h1⟩
        ·exact .inl (.inl ⟨r2.trans h,hgd.1,hgd.2.1,.inl hgd.2.2⟩)
        ·rw[←r2]at h h1
         by_cases hk1:k=1
         ·exact .inl (.inl ⟨hk1,hgd.1,hgd.2.1,.inl hgd.2.2⟩)
         ·exact .inr ⟨h,hk1⟩
       ·have:aH .shr tk=tk:=rfl
        omega
      ·rcases hr c k hck with(h|⟨q1,q2,q3,q4⟩)|h
       ·exact .inl (.inl h)
       ·exact .inl (.inr ⟨q1,q2,q3,q4⟩)
       ·exact .inr h
    ·cases h
   ·cases h
 | [],_::_,_,_,_,_,_,_,h,_,_| .val _ _::_,[],_,_,_,_,_,_,h,_,_| .io _ _::_,[],_,_,_,_,_,_,h,_,_| .rd _::_,[],_,_,_,_,_,_,h,_,_| .vx _ _::_,[],_,_,_,_,_,_,h,_,_=>by simp[bn]at h
 | .vx _ _::_,.no::_,_,_,_,_,_,_,h,_,_| .vx _ _::_,.box _ _::_,_,_,_,_,_,_,h,_,_| .vx _ _::_,.ptr ..::_,_,_,_,_,_,_,h,_,_| .vx _ _::_,.ept ..::_,_,_,_,_,_,_,h,_,_
 | .vx _ _::_,.rdp ..::_,_,_,_,_,_,_,h,_,_| .vx _ _::_,.tup _::_,_,_,_,_,_,_,h,_,_| .vx _ _::_,.g ..::_,_,_,_,_,_,_,h,_,_=>by simp[bn]at h
 | .val _ _::_,.no::_,_,_,_,_,_,_,h,_,_| .val _ _::_,.box _ _::_,_,_,_,_,_,_,h,_,_| .val _ _::_,.ptr ..::_,_,_,_,_,_,_,h,_,_| .val _ _::_,.ept ..::_,_,_,_,_,_,_,h,_,_
 | .val _ _::_,.rdp ..::_,_,_,_,_,_,_,h,_,_| .val _ _::_,.tup _::_,_,_,_,_,_,_,h,_,_| .val _ _::_,.g ..::_,_,_,_,_,_,_,h,_,_=>by simp[bn]at h
end
end Vg
namespace Vg
open Go
theorem eE:∀ {l:List (Nat×Nat)} {a b:Nat},l.lookup a=some b→(a,b)∈l
 | [],_,_,h=>by simp[List.lookup]at h
 |(x,y)::l,a,b,h=>by
  simp only[List.lookup]at h
  split at h
  ·rename_i e
   simp only[beq_iff_eq]at e
   simp only[Option.some.injEq]at h
   subst e h;simp
  ·exact List.mem_cons_of_mem _ (eE h)
theorem xH {r:List (Nat×Nat)} (h:AV r=true) {c k:Nat} (hc:(c,k)∈r):r.lookup c=some k:=by
 simp only[AV,List.all_eq_true,beq_iff_eq]at h
 exact h (c,k) hc
def dD:List PK→Nat→Nat→List (Nat×Nat)
 | [],_,_=>[]
 | .val _ p::ps,i,te=>dD ps (i+1) (aH p te)
 | .io _ p::ps,i,te=>(te,i)::dD ps (i+1) (aH p (te+1))
 | .rd _::ps,i,te| .vx _ _::ps,i,te=>dD ps (i+1) te
def sY:List Value→Value
 | [v]=>v
 |l=> .tuple l.toArray
structure sW (con:aF) (w:World) (G0:Gh) (args:List Value) (y:aT (con.rs.map RK.ty++bh con.ps)) (mv:Value) (w':World) (G':Gh) (vs:List Value) (nt:Nat):Prop where
 val:mv=sY vs
 len:vs.length=con.rs.length
 res:∀i,bI w' G' ((aV con.rs (bh con.ps) y (bw con.ps 3) [2,1]).1.getD i .no) (vs.getD i undef)
 ios:∀t i v,(t,i,v)∈cm [2,1] con.ps (aV con.rs (bh con.ps) y (bw con.ps 3) [2,1]).2.1 (dD con.ps 0 3) (aV con.rs (bh con.ps) y (bw con.ps 3) [2,1]).2.2→
  bI w' G' (.box t v) (args.getD i undef)
 frame:∀b,b<w.heap.size→G0.col b<3→G'.col b=G0.col b∧w'.heap[b]?=w.heap[b]?
 one:∀b,G'.col b=1→b<w.heap.size∧G0.col b=1
 size:w.heap.size≤w'.heap.size
 os:w'.os=w.os
 tape:w'.tape=w.tape
 output:w'.output=w.output
 lt:∀b,0<G'.col b→b<w'.heap.size
 fresh:∀b,3≤G'.col b→∃c el,w'.heap[b]?=some (.cells c el (0,0))
 kept:∀q∈con.kp,∀te i τ,(dD con.ps 0 3)[q.1]?=some (te,i)→(bh con.ps)[q.1]?=some τ→∀bk c el c' el',args.getD i undef= .pointer (some ⟨bk,0,none⟩)→
  w.heap[bk]?=some (.cells c el (0,0))→w'.heap[bk]?=some (.cells c' el' (0,0))→c'.toList[τ.off q.2]?=c.toList[τ.off q.2]?
def nu (P:Program) (f:FuncId) (args:Array Value) (w:World) (R:Value→World→Prop):Prop:=
 match(callFunc f args).run P w with
 | .ok (.enter f' args') w1=>Calls P f' args' w1 (fun e w'=>∃v,e= .returned v∧R v w')
 | .ok (.value v) w1=>R v w1
 |_=>False
def oq (P:Program) (f:FuncId) (con:aF):Prop:=
 ∀(w:World) (G0:Gh) (args:List Value) (x:aT (con.ps.map PK.ty)) (y:aT (con.rs.map RK.ty++bh con.ps)),con.F x=some y→
  Cu w G0 (br con.ps x 3).1 args (bw con.ps 3)→nu P f args.toArray w (fun mv w'=>∃G' vs nt,sW con w G0 args y mv w' G' vs nt)
section
variable {P:Program} {C:Cx} {w0:World} {c0:C0} {U:Nat→Prop} {E:Env} {a:Act} {w:World} {G:Gh} {ops:List Oper} {g:Option (Nat×Bool)}
theorem UH (hI:Inv w0 c0 U E a w G) {ps:List PK} {as:List SV} {vals:List Value} {xs:aT (ps.map PK.ty)} {rho bs:List (Nat×Nat)}
 (h:bn E.rd ps as 3 []=some (xs,rho,bs)) (hs:∀i,bI w G (as.getD i .no) (vals.getD i undef)∧aX U G (as.getD i .no)) (hlen:vals.length=as.length) (hr:AV rho=true)
 (hvx:∀c∈GB ps,3≤c∧c<bw ps 3∧c∉bR ps 3):
 ∃G1:Gh,Cu w G1 (br ps xs 3).1 vals (bw ps 3)∧(∀b,G1.col b=(rho.lookup (G.col b)).getD 0):=by
 obtain⟨hl,⟨H,k⟩,hin0⟩:=nP hI h hs (Nat.le_refl _)
 have hin:∀c k,(c,k)∈rho→Mr U G ps 3 bs c k:=fun c k h=>(hin0 c k h).resolve_right (by simp)
 have hnt:=dH ps 3
 refine⟨⟨fun b=>(rho.lookup (G.col b)).getD 0,H,fun u=>(bR ps 3).contains u⟩,⟨?_,?_,?_,?_,?_,?_,?_,?_⟩,fun b=>rfl⟩
 ·rw[hZ,←hl,hlen]
 ·intro i
  refine k _ (fun c k hck b hb=> ?_) (fun u _ _=>rfl) i
  simp only[hb,xH hr hck,Option.getD_some]
 ·intro i
  by_cases hi:i<(br ps xs 3).1.length
  ·have hmem:(br ps xs 3).1.getD i .no∈(br ps xs 3).1:=by
    rw[List.getD_eq_getElem?_getD,List.getElem?_eq_getElem hi];simp
   obtain⟨h1,h2,h3⟩:=fN _ hmem
   refine⟨fun c hc=> ?_,fun c hc=> ?_,by rw[h3];simp⟩
   ·rcases h1 c hc with rfl|⟨q1,q2,q3⟩|hvc
    ·refine⟨by omega,by omega,?_⟩
     simp only[List.contains_eq_mem,decide_eq_false_iff_not]
     intro hin
     have:=dj 1 hin;omega
    ·exact⟨by omega,q2,by simp only[List.contains_eq_mem,decide_eq_false_iff_not];exact q3⟩
    ·obtain⟨q1,q2,q3⟩:=hvx c hvc
     exact⟨by omega,q2,by simp only[List.contains_eq_mem,decide_eq_false_iff_not];exact q3⟩
   ·have:=dj c (h2 c hc)
    exact⟨by omega,this.2,by simp only[List.contains_eq_mem,decide_eq_true_eq];exact h2 c hc⟩
  ·rw[List.getD_eq_getElem?_getD,List.getElem?_eq_none (by omega)]
   simp[aX,SV.sc,SV.bt,SV.rt]
 ·intro i j t v v' h h'
  exact nI h h'
 ·intro b hb
  simp only at hb⊢
  cases hq:rho.lookup (G.col b)with
  |none=>rw[hq]at hb;simp at hb
  |some k=>
   simp only[Option.getD_some]
   rcases hin _ _ (eE hq)with⟨rfl,hg⟩|⟨q1,q2,q3,_⟩
   ·exact⟨by omega,hI.lt b hg.1⟩
   ·exact⟨q2,hI.lt b (by omega)⟩
 ·intro b hb
  simp only at hb
  cases hq:rho.lookup (G.col b)with
  |none=>rw[hq]at hb;simp at hb
  |some k=>
   rw[hq]at hb
   simp only[Option.getD_some]at hb
   rcases hin _ _ (eE hq)with⟨rfl,_⟩|⟨q1,q2,q3,_⟩
   ·omega
   ·exact hI.fresh b q3
 ·simp only[List.contains_eq_mem,decide_eq_false_iff_not]
  intro h2
  have:=dj 2 h2;omega
 ·intro b
  simp only
  cases hq:rho.lookup (G.col b)with
  |none=>simp
  |some k=>
   simp only[Option.getD_some]
   rcases hin _ _ (eE hq)with⟨rfl,_⟩|⟨q1,q2,q3,_⟩<;>omega
end
end Vg
namespace Vg
open Go
theorem da:∀(p:Pt) (k d:Nat),aH p (k+d)=aH p k+d
 | .leaf,_,_| .shr,_,_=>rfl
 | .own,k,d=>by simp only[aH,aP];omega
 | .pair a b,k,d=>by rw[de,de,da a,da b]
theorem nT (τ:Ty) (p:Pt) (rs:List RK) (k:Nat):cN (.val τ p::rs) k=cN rs (aH p k):=rfl
theorem lQ (τ:Ty) (p:Pt) (rs:List RK) (k:Nat):cN (.nbox τ p::rs) k=cN rs (aH p (k+1)):=rfl
theorem A0 (τ:Ty) (p:Pt) (ps:List PK) (k:Nat):nD (.io τ p::ps) k=nD ps (aH p k):=rfl
theorem pX:∀(rs:List RK) (k d:Nat),cN rs (k+d)=cN rs k+d
 | [],_,_=>rfl
 | .val _ p::rs,k,d=>by rw[nT,nT,da,pX rs]
 | .nbox _ p::rs,k,d=>by rw[lQ,lQ,show k+d+1=k+1+d by omega,da,pX rs]
theorem xM:∀(ps:List PK) (k d:Nat),nD ps (k+d)=nD ps k+d
 | [],_,_=>rfl
 | .val _ _::ps,k,d| .rd _::ps,k,d| .vx _ _::ps,k,d=>xM ps k d
 | .io _ p::ps,k,d=>by rw[A0,A0,da,xM ps]
theorem jy:∀(rs:List RK) (k:Nat),k≤cN rs k
 | [],_=>Nat.le_refl _
 | .val _ p::rs,k=>Nat.le_trans (bj p k) (jy rs _)
 | .nbox _ p::rs,k=>Nat.le_trans (Nat.le_trans (Nat.le_succ _) (bj p (k+1))) (jy rs _)
theorem pE:∀(ps:List PK) (k:Nat),k≤nD ps k
 | [],_=>Nat.le_refl _
 | .val _ p::ps,k=>pE ps k
 | .rd _::ps,k| .vx _ _::ps,k=>pE ps k
 | .io _ p::ps,k=>Nat.le_trans (bj p k) (pE ps _)
def fE:List RK→Nat→List Nat
 | [],_=>[]
 | .val _ p::rs,k=>fE rs (aH p k)
 | .nbox _ p::rs,k=>k::fE rs (aH p (k+1))
theorem qh:∀ {rs:List RK} {k:Nat},∀c∈fE rs k,k≤c∧c<cN rs k
 | [],_,c,h=>by simp[fE]at h
 | .val _ p::rs,k,c,h=>by
   have:=qh (rs:=rs) (k:=aH p k) c h
   have h1:=bj p k
   rw[nT];omega
 | .nbox _ p::rs,k,c,h=>by
   have h1:=bj p (k+1)
   have h2:=jy rs (aH p (k+1))
   rw[lQ]
   simp only[fE,List.mem_cons]at h
   rcases h with rfl|h
   ·omega
   ·have:=qh (rs:=rs) (k:=aH p (k+1)) c h;omega
structure QT (G' G2:Gh) (k0 n tk:Nat) (hs:List Nat):Prop where
 own:∀u,k0≤u→u<n→G2.hdr (tk+(u-k0))=G'.hdr u∧∀b,G'.col b=u→G2.col b=tk+(u-k0)
 shr:∀b,G'.col b∈[2,1]→G2.col b∈hs
 ne:hs≠ []
section
variable {w':World} {G' G2:Gh} {k0 n tk:Nat} {hs:List Nat}
theorem Eh (h:QT G' G2 k0 n tk hs) (h3:3≤tk) {p:Pt} {τ:Ty} {x:τ.den} {cs:List Value} {k:Nat} (hk:k0≤k) (hn:aH p k≤n) (hv:aW w' G' τ x (aP p k [2,1]).1 cs):
 aW w' G2 τ x (aP p (tk+(k-k0)) hs).1 cs:=by
 refine(D6 hv (by omega) (fun u hu hu2=> ?_) h.shr h.ne).1
 have:=h.own u (by omega) (by omega)
 rw[show tk+(k-k0)+(u-k)=tk+(u-k0) by omega]
 exact this
theorem xD (h3:3≤tk):∀ {rs:List RK} {rest:List Ty} {y:aT (rs.map RK.ty++rest)} {k:Nat},k0≤k→∀(hs':List Nat),
 (aV rs rest y (tk+(k-k0)) hs').2.1=(aV rs rest y k [2,1]).2.1∧(aV rs rest y (tk+(k-k0)) hs').2.2=tk+(cN rs k-k0)∧(aV rs rest y k [2,1]).2.2=cN rs k∧
 (aV rs rest y (tk+(k-k0)) hs').1.length=rs.length∧
 (QT G' G2 k0 n tk hs'→cN rs k≤n→∀(vs:List Value),(∀i,bI w' G' ((aV rs rest y k [2,1]).1.getD i .no) (vs.getD i undef))→∀i,bI w' G2 ((aV rs rest y (tk+(k-k0)) hs').1.getD i .no) (vs.getD i undef))∧
 (∀sv∈(aV rs rest y (tk+(k-k0)) hs').1,(∀c∈sv.sc,(c∈hs'∧rs.any (fun r=>r.pt.oD)=true)∨(tk+(k-k0)≤c∧c<tk+(cN rs k-k0)∧c∉fE rs (tk+(k-k0))))∧(∀c∈sv.bt,c∈fE rs (tk+(k-k0)))∧sv.rt=[])
 | [],rest,y,k,hk,hs'=>⟨rfl,rfl,rfl,rfl,fun _ _ vs _ i=>by simp[aV,bI],by simp[aV]⟩
 | .val τ p::rs,rest,y,k,hk,hs'=>by
   have n1:=bj p k
   have n2:=jy rs (aH p k)
   obtain⟨i1,i2,i3,i4,i5,i6⟩:=xD h3 (rs:=rs) (rest:=rest) (y:=y.2) (k:=aH p k) (by omega) hs'
   have e1:(aP p (tk+(k-k0)) hs').2=tk+(aH p k-k0):=by
    rw[bH,show tk+(k-k0)=(k-k0)+tk by omega,da]
    have:=da p (k-k0) k0
    rw[show k-k0+k0=k by omega]at this
    omega
   have e2:aH p (tk+(k-k0))=tk+(aH p k-k0):=(bH p _ hs').symm.trans e1
   simp only[aV,e1,bH p k [2,1],nT]
   refine⟨i1,i2,i3,by simp[i4],fun hr hn vs hv i=> ?_,fun sv hsv=> ?_⟩
   ·cases i with
    |zero=>
     have:=hv 0
     simp only[List.getD_cons_zero]at this⊢
     obtain⟨cs,hcs,hvv⟩:=this
     exact⟨cs,hcs,Eh hr h3 hk (by omega) hvv⟩
    |succ i=>
     simp only[List.getD_cons_succ]
     have:=i5 hr hn (vs.drop 1) (fun j=>by have:=hv (j+1);simpa[List.getD_eq_getElem?_getD,Nat.add_comm]using this) i
     simpa[List.getD_eq_getElem?_getD,Nat.add_comm]using this
   ·simp only[List.mem_cons]at hsv
    rcases hsv with rfl|hsv
    ·refine⟨fun c hc=> ?_,by simp[SV.bt],rfl⟩
     rcases iH c hc with h|h
     ·exact .inl ⟨h.1,by simp[RK.pt,h.2]⟩
     ·rw[e2]at h
      refine .inr ⟨h.1,by omega,fun hin=> ?_⟩
      simp only[fE]at hin
      rw[e2]at hin
      have:=qh c hin
      omega
    ·obtain⟨q1,q2,q3⟩:=i6 sv hsv
     simp only[fE]
     rw[e2]
     exact⟨fun c hc=>(q1 c hc).imp (fun h=>⟨h.1,by simp only[List.any_cons,h.2,Bool.or_true]⟩) (fun⟨r1,r2,r3⟩=>⟨by omega,r2,r3⟩),q2,q3⟩
 | .nbox τ p::rs,rest,y,k,hk,hs'=>by
   have n1:=bj p (k+1)
   have n2:=jy rs (aH p (k+1))
   obtain⟨i1,i2,i3,i4,i5,i6⟩:=xD h3 (rs:=rs) (rest:=rest) (y:=y.2) (k:=aH p (k+1)) (by omega) hs'
   have e1:(aP p (tk+(k-k0)+1) hs').2=tk+(aH p (k+1)-k0):=by
    rw[bH,show tk+(k-k0)+1=(k+1-k0)+tk by omega,da]
    have:=da p (k+1-k0) k0
    rw[show k+1-k0+k0=k+1 by omega]at this
    omega
   have e2:aH p (tk+(k-k0)+1)=tk+(aH p (k+1)-k0):=(bH p _ hs').symm.trans e1
   simp only[aV,e1,bH p (k+1) [2,1],lQ]
   refine⟨i1,i2,i3,by simp[i4],fun hr hn vs hv i=> ?_,fun sv hsv=> ?_⟩
   ·cases i with
    |zero=>
     have:=hv 0
     simp only[List.getD_cons_zero]at this⊢
     obtain⟨bk,c,el,g1,g2,g3,g4,g5,g6⟩:=this
     obtain⟨r1,r2⟩:=hr.own k hk (by omega)
     refine⟨bk,c,el,g1,by omega,r1.trans g3,r2 bk g4,g5,?_⟩
     have:=Eh hr h3 (k:=k+1) (by omega) (by omega) g6
     rw[show tk+(k+1-k0)=tk+(k-k0)+1 by omega]at this
     exact this
    |succ i=>
     simp only[List.getD_cons_succ]
     have:=i5 hr hn (vs.drop 1) (fun j=>by have:=hv (j+1);simpa[List.getD_eq_getElem?_getD,Nat.add_comm]using this) i
     simpa[List.getD_eq_getElem?_getD,Nat.add_comm]using this
   ·simp only[List.mem_cons]at hsv
    rcases hsv with rfl|hsv
    ·refine⟨fun c hc=> ?_,by simp[SV.bt,fE],rfl⟩
     rcases iH c hc with h|h
     ·exact .inl ⟨h.1,by simp[RK.pt,h.2]⟩
     ·rw[e2]at h
      refine .inr ⟨by omega,by omega,fun hin=> ?_⟩
      simp only[fE,List.mem_cons]at hin
      rw[e2]at hin
      rcases hin with hin|hin
      ·omega
      ·have:=qh c hin
       omega
    ·obtain⟨q1,q2,q3⟩:=i6 sv hsv
     simp only[fE]
     rw[e2]
     refine⟨fun c hc=>(q1 c hc).imp (fun h=>⟨h.1,by simp only[List.any_cons,h.2,Bool.or_true]⟩) (fun⟨r1,r2,r3⟩=>⟨by omega,r2,?_⟩),fun c hc=>by simp[q2 c hc],q3⟩
     simp only[List.mem_cons,not_or]
     exact⟨by omega,r3⟩
end
end Vg
namespace Vg
open Go
theorem iN:∀(l:List (Nat×Nat×TV)) (L:List SV),(bq l L).length=L.length
 | [],_=>rfl
 |(t,s,v)::l,L=>by simp only[bq];rw[iN l];simp
theorem tu:∀(l:List (Nat×Nat×TV)) (L:List SV) (j:Nat),(bq l L).getD j .no=L.getD j .no∨∃t v,(t,j,v)∈l∧(bq l L).getD j .no= .box t v
 | [],_,_=> .inl rfl
 |(t,s,v)::l,L,j=>by
  simp only[bq]
  rcases tu l (L.set s (.box t v)) j with h|⟨t',v',h1,h2⟩
  ·rw[h,dF]
   split
   ·rename_i e;obtain⟨rfl,_⟩:=e;exact .inr ⟨t,v,by simp,rfl⟩
   ·exact .inl rfl
  ·exact .inr ⟨t',v',by simp[h1],h2⟩
def ek:List (Nat×Nat×TV)→List SV→List SV
 | [],L=>L
 |(_,s,_)::l,L=>ek l (L.set s .no)
theorem vN:∀(l:List (Nat×Nat×TV)) {L L':List SV},L.length=L'.length→(∀j,(∀t v,(t,j,v)∉l)→L.getD j .no=L'.getD j .no)→bq l L=bq l L'
 | [],L,L',hl,h=>by
   refine List.ext_getElem hl (fun i h1 h2=> ?_)
   have:=h i (by simp)
   rw[List.getD_eq_getElem?_getD,List.getD_eq_getElem?_getD]at this
   simp only[bq]at h1 h2⊢
   rw[List.getElem?_eq_getElem h1,List.getElem?_eq_getElem h2]at this
   simpa using this
 |(t,s,v)::l,L,L',hl,h=>by
  simp only[bq]
  refine vN l (by simpa using hl) (fun j hj=> ?_)
  rw[dF,dF,hl]
  by_cases e:j=s∧s<L'.length
  ·rw[if_pos e,if_pos e]
  ·rw[if_neg e,if_neg e]
   by_cases e2:j=s
   ·subst e2
    have hlt:¬j<L'.length:=fun hh=>e ⟨rfl,hh⟩
    rw[List.getD_eq_getElem?_getD,List.getD_eq_getElem?_getD,List.getElem?_eq_none (by omega),List.getElem?_eq_none (by omega)]
   ·refine h j (fun t' v' hin=> ?_)
    simp only[List.mem_cons,Prod.mk.injEq]at hin
    rcases hin with⟨_,hin,_⟩|hin
    ·exact e2 hin
    ·exact hj t' v' hin
theorem xY:∀(l:List (Nat×Nat×TV)) (L:List SV),(ek l L).length=L.length
 | [],_=>rfl
 |(t,s,v)::l,L=>by simp only[ek];rw[xY l];simp
theorem nf:∀(l:List (Nat×Nat×TV)) (L:List SV) (j:Nat),(∀t v,(t,j,v)∉l)→(ek l L).getD j .no=L.getD j .no
 | [],_,_,_=>rfl
 |(t,s,v)::l,L,j,h=>by
  simp only[ek]
  rw[nf l _ j (fun t' v' hin=>h t' v' (by simp[hin])),dF,if_neg]
  rintro⟨rfl,_⟩
  exact h t v (by simp)
theorem oQ:∀(l:List (Nat×Nat×TV)) (L:List SV) (j:Nat),(∃t v,(t,j,v)∈l)→(ek l L).getD j .no= .no∧True
 |(t,s,v)::l,L,j,⟨t',v',h⟩=>by
  simp only[ek]
  by_cases hin:∃t v,(t,j,v)∈l
  ·exact oQ l _ j hin
  ·refine⟨?_,trivial⟩
   rw[nf l _ j (fun t v h=>hin ⟨t,v,h⟩),dF]
   simp only[List.mem_cons,Prod.mk.injEq]at h
   rcases h with⟨_,rfl,_⟩|h
   ·split
    ·rfl
    ·rename_i e
     rw[List.getD_eq_getElem?_getD,List.getElem?_eq_none (by simp at e;omega)];rfl
   ·exact absurd ⟨t',v',h⟩ hin
theorem S3 (l:List (Nat×Nat×TV)) (L:List SV):bq l (ek l L)=bq l L:=
 vN l (xY l L) (fun j hj=>nf l L j hj)
section
variable {P:Program} {C:Cx} {w0:World} {c0:C0} {U:Nat→Prop} {E:Env} {a:Act} {w:World} {G:Gh} {ops:List Oper} {g:Option (Nat×Bool)}
theorem Inv.Pq:∀(l:List (Nat×Nat×TV)) {E:Env},Inv w0 c0 U E a w G→Inv w0 c0 U {E with s:=ek l E.s} a w G
 | [],_,h=>h
 |(_,s,_)::l,E,h=>Inv.Pq l (E:={E with s:=E.s.set s .no}) (h.drop s)
theorem Inv.Rf:∀(l:List (Nat×Nat×TV)) {E:Env},Inv w0 c0 U E a w G→(∀t s v,(t,s,v)∈l→bI w G (.box t v) (a.tmps.getD s undef)∧aX U G (.box t v))→
 (l.map (·.1)).Pairwise (·≠·)→(∀t s v,(t,s,v)∈l→∀s' u,E.s.getD s' .no≠ .box t u)→Inv w0 c0 U {E with s:=bq l E.s} a w G
 | [],_,h,_,_,_=>h
 |(t,s,v)::l,E,h,h1,h2,h3=>by
  simp only[List.map_cons,List.pairwise_cons]at h2
  obtain⟨g1,g2⟩:=h1 t s v (by simp)
  refine Inv.Rf l (E:={E with s:=E.s.set s (.box t v)}) (h.SA s g1 g2 ?_) (fun t' s' v' hin=>h1 t' s' v' (by simp[hin])) h2.2 (fun t' s' v' hin s'' u he=> ?_)
  ·rintro t' u ⟨rfl,rfl⟩ s' u' _ he
   exact h3 t s v (by simp) s' u' he
  ·simp only[dF]at he
   split at he
   ·simp only[SV.box.injEq]at he
    exact h2.1 t' (List.mem_map.2 ⟨(t',s',v'),hin,rfl⟩) he.1
   ·exact h3 t' s' v' (by simp[hin]) s'' u he
theorem wJ (hI:Inv w0 c0 U E a w G) {k0 tk:Nat} {hs':List Nat}:∀ {ps:List PK} {as:List SV} {vals:List Value} {te i0:Nat} {r0:List (Nat×Nat)} {xs:aT (ps.map PK.ty)} {rho bs:List (Nat×Nat)},
 bn E.rd ps as te r0=some (xs,rho,bs)→(∀i,bI w G (as.getD i .no) (vals.getD i undef))→∀(R:aT (bh ps)) (k:Nat),k0≤k→
 (∀t s v2,(t,s,v2)∈cm hs' ps R bs (tk+(k-k0))→∃te' i v1 p k1 v0,(te',i0+i,v1)∈cm [2,1] ps R (dD ps i0 te) k∧(t,te')∈rho∧te'∈bR ps te∧
  E.s.getD s .no= .box t v0∧vals.getD i undef=G.hdr t∧k≤k1∧aH p k1≤nD ps k∧v1=⟨v2.τ,v2.x,(aP p k1 [2,1]).1⟩∧v2.sh=(aP p (tk+(k1-k0)) hs').1∧(p.oD=true→xn ps=true))∧
 (∀t s,(t,s)∈bs→∃v2,(t,s,v2)∈cm hs' ps R bs (tk+(k-k0)))
 | [],[],vals,te,i0,r0,xs,rho,bs,h,hs,R,k,hk=>by
   simp only[bn,Option.some.injEq,Prod.mk.injEq]at h
   obtain⟨_,rfl,rfl⟩:=h
   simp[cm]
 | .val τ p::ps,.d v::as,vals,te,i0,r0,xs,rho,bs,h,hs,R,k,hk=>by
   simp only[bn]at h
   split at h
   ·rename_i x xs' rho' bs' hx hg
    split at h
    ·simp only[Option.some.injEq,Prod.mk.injEq]at h
     obtain⟨_,rfl,rfl⟩:=h
     obtain⟨h1,h2⟩:=wJ hI (k0:=k0) (tk:=tk) (hs':=hs') (i0:=i0+1) (vals:=vals.drop 1) hg (fun i=>by have:=hs (i+1);simpa[List.getD_eq_getElem?_getD,Nat.add_comm]using this) R k hk
     refine⟨fun t s v2 hin=> ?_,fun t s hin=>h2 t s hin⟩
     obtain⟨te',i,v1,p',k1,v0,q1,q2,q3,q4,q5,q6,q7,q8,q9⟩:=h1 t s v2 hin
     exact⟨te',i+1,v1,p',k1,v0,by simp only[dD,cm];rw[show i0+(i+1)=i0+1+i by omega];exact q1,List.mem_append_right _ q2,q3,q4,
      by rw[←q5];simp[List.getD_eq_getElem?_getD,Nat.add_comm],q6,q7,q8,q9⟩
    ·cases h
   ·cases h
 | .io τ p::ps,sv::as,vals,te,i0,r0,xs,rho,bs,h,hs,R,k,hk=>by
   simp only[bn]at h
   split at h
   ·rename_i t0 s0 v hb
    split at h
    ·rename_i x xs' rho' bs' hx hg
     split at h
     ·simp only[Option.some.injEq,Prod.mk.injEq]at h
      obtain⟨_,rfl,rfl⟩:=h
      have n1:=bj p k
      have e1:(aP p (tk+(k-k0)) hs').2=tk+(aH p k-k0):=by
       rw[bH,show tk+(k-k0)=(k-k0)+tk by omega,da]
       have:=da p (k-k0) k0
       rw[show k-k0+k0=k by omega]at this
       omega
      obtain⟨h1,h2⟩:=wJ hI (k0:=k0) (tk:=tk) (hs':=hs') (i0:=i0+1) (vals:=vals.drop 1) hg (fun i=>by have:=hs (i+1);simpa[List.getD_eq_getElem?_getD,Nat.add_comm]using this) R.2 (aH p k) (by omega)
      have hs0:=hs 0
      simp only[List.getD_cons_zero]at hs0
      obtain⟨hslot,bk,c,el,b1,b2,_⟩:=sM hI hb hs0
      refine⟨fun t s v2 hin=> ?_,fun t s hin=> ?_⟩
      ·simp only[cm,List.mem_cons,Prod.mk.injEq]at hin
       rcases hin with⟨rfl,rfl,rfl⟩|hin
       ·refine⟨te,0,_,p,k,_,by simp only[dD,cm];exact List.mem_cons_self ..,by simp,by simp[bR],hslot,b2.symm,Nat.le_refl _,pE ps _,rfl,rfl,fun h=>by simp[xn,h]⟩
       ·rw[e1]at hin
        obtain⟨te',i,v1,p',k1,v0,q1,q2,q3,q4,q5,q6,q7,q8,q9⟩:=h1 t s v2 hin
        refine⟨te',i+1,v1,p',k1,v0,?_,by simp[q2],by simp only[bR];exact List.mem_cons_of_mem _ q3,q4,
         by rw[←q5];simp[List.getD_eq_getElem?_getD,Nat.add_comm],by omega,q7,q8,q9.1,fun h=>by simp[xn,q9.2 h]⟩
        simp only[dD,cm,bH]
        rw[show i0+(i+1)=i0+1+i by omega]
        exact List.mem_cons_of_mem _ q1
      ·simp only[List.mem_cons,Prod.mk.injEq]at hin
       simp only[cm,e1,List.mem_cons,Prod.mk.injEq]
       rcases hin with⟨rfl,rfl⟩|hin
       ·exact⟨_,.inl ⟨rfl,rfl,rfl⟩⟩
       ·obtain⟨v2,hv2⟩:=h2 t s hin
        exact⟨v2,.inr hv2⟩
     ·cases h
    ·cases h
   ·cases h
 | .rd τ::ps,sv::as,vals,te,i0,r0,xs,rho,bs,h,hs,R,k,hk=>by
   simp only[bn]at h
   split at h
   ·split at h
    ·rename_i x xs' rho' bs' hx hg
     split at h
     ·simp only[Option.some.injEq,Prod.mk.injEq]at h
      obtain⟨_,rfl,rfl⟩:=h
      obtain⟨h1,h2⟩:=wJ hI (k0:=k0) (tk:=tk) (hs':=hs') (i0:=i0+1) (vals:=vals.drop 1) hg (fun i=>by have:=hs (i+1);simpa[List.getD_eq_getElem?_getD,Nat.add_comm]using this) R k hk
      refine⟨fun t s v2 hin=> ?_,fun t s hin=>h2 t s hin⟩
      obtain⟨te',i,v1,p',k1,v0,q1,q2,q3,q4,q5,q6,q7,q8,q9⟩:=h1 t s v2 hin
      exact⟨te',i+1,v1,p',k1,v0,by simp only[dD,cm];rw[show i0+(i+1)=i0+1+i by omega];exact q1,List.mem_append_right _ q2,q3,q4,
       by rw[←q5];simp[List.getD_eq_getElem?_getD,Nat.add_comm],q6,q7,q8,q9⟩
     ·cases h
    ·cases h
   ·cases h
 | .vx e l::ps,.d v::as,vals,te,i0,r0,xs,rho,bs,h,hs,R,k,hk=>by
   simp only[bn]at h
   split at h
   ·rename_i x xs' rho' bs' hx hg
    split at h
    ·simp only[Option.some.injEq,Prod.mk.injEq]at h
     obtain⟨_,rfl,rfl⟩:=h
     obtain⟨h1,h2⟩:=wJ hI (k0:=k0) (tk:=tk) (hs':=hs') (i0:=i0+1) (vals:=vals.drop 1) hg (fun i=>by have:=hs (i+1);simpa[List.getD_eq_getElem?_getD,Nat.add_comm]using this) R k hk
     refine⟨fun t s v2 hin=> ?_,fun t s hin=>h2 t s hin⟩
     obtain⟨te',i,v1,p',k1,v0,q1,q2,q3,q4,q5,q6,q7,q8,q9⟩:=h1 t s v2 hin
     exact⟨te',i+1,v1,p',k1,v0,by simp only[dD,cm];rw[show i0+(i+1)=i0+1+i by omega];exact q1,List.mem_append_right _ q2,q3,q4,
      by rw[←q5];simp[List.getD_eq_getElem?_getD,Nat.add_comm],q6,q7,q8,q9⟩
    ·cases h
   ·cases h
 | [],_::_,_,_,_,_,_,_,_,h,_,_,_,_| .val _ _::_,[],_,_,_,_,_,_,_,h,_,_,_,_| .io _ _::_,[],_,_,_,_,_,_,_,h,_,_,_,_| .rd _::_,[],_,_,_,_,_,_,_,h,_,_,_,_
 | .vx _ _::_,[],_,_,_,_,_,_,_,h,_,_,_,_=>by simp[bn]at h
 | .val _ _::_,.no::_,_,_,_,_,_,_,_,h,_,_,_,_| .val _ _::_,.box _ _::_,_,_,_,_,_,_,_,h,_,_,_,_| .val _ _::_,.ptr ..::_,_,_,_,_,_,_,_,h,_,_,_,_| .val _ _::_,.ept ..::_,_,_,_,_,_,_,_,h,_,_,_,_
 | .val _ _::_,.rdp ..::_,_,_,_,_,_,_,_,h,_,_,_,_| .val _ _::_,.tup _::_,_,_,_,_,_,_,_,h,_,_,_,_| .val _ _::_,.g ..::_,_,_,_,_,_,_,_,h,_,_,_,_=>by simp[bn]at h
 | .vx _ _::_,.no::_,_,_,_,_,_,_,_,h,_,_,_,_| .vx _ _::_,.box _ _::_,_,_,_,_,_,_,_,h,_,_,_,_| .vx _ _::_,.ptr ..::_,_,_,_,_,_,_,_,h,_,_,_,_| .vx _ _::_,.ept ..::_,_,_,_,_,_,_,_,h,_,_,_,_
 | .vx _ _::_,.rdp ..::_,_,_,_,_,_,_,_,h,_,_,_,_| .vx _ _::_,.tup _::_,_,_,_,_,_,_,_,h,_,_,_,_| .vx _ _::_,.g ..::_,_,_,_,_,_,_,_,h,_,_,_,_=>by simp[bn]at h
theorem kT {rhoT:List (Nat×Nat)} {hs':List Nat} {R0:Rd}:∀ {ps:List PK} {as:List SV} {te:Nat} {r0:List (Nat×Nat)} {xs:aT (ps.map PK.ty)} {rho bs:List (Nat×Nat)},
 bn R0 ps as te r0=some (xs,rho,bs)→(∀c k,(c,k)∈rho→rhoT.lookup c=some k)→∀(R:aT (bh ps)) (k':Nat),
 ((cm hs' ps R bs k').map (·.1)).Pairwise (·≠·)∧∀t∈(cm hs' ps R bs k').map (·.1),∃u,te≤u∧rhoT.lookup t=some u
 | [],[],te,r0,xs,rho,bs,h,hr,R,k'=>by
   simp only[bn,Option.some.injEq,Prod.mk.injEq]at h
   obtain⟨_,rfl,rfl⟩:=h
   simp[cm]
 | .val τ p::ps,.d v::as,te,r0,xs,rho,bs,h,hr,R,k'=>by
   simp only[bn]at h
   split at h
   ·rename_i x xs' rho' bs' hx hg
    split at h
    ·simp only[Option.some.injEq,Prod.mk.injEq]at h
     obtain⟨_,rfl,rfl⟩:=h
     obtain⟨h1,h2⟩:=kT hg (fun c k h=>hr c k (List.mem_append_right _ h)) R k'
     exact⟨h1,fun t ht=>by obtain⟨u,q1,q2⟩:=h2 t ht;exact⟨u,Nat.le_trans (bj p te) q1,q2⟩⟩
    ·cases h
   ·cases h
 | .io τ p::ps,sv::as,te,r0,xs,rho,bs,h,hr,R,k'=>by
   simp only[bn]at h
   split at h
   ·rename_i t0 s0 v hb
    split at h
    ·rename_i x xs' rho' bs' hx hg
     split at h
     ·simp only[Option.some.injEq,Prod.mk.injEq]at h
      obtain⟨_,rfl,rfl⟩:=h
      have n1:=bj p (te+1)
      have hpn:(aP p (te+1) []).2=aH p (te+1):=rfl
      obtain⟨h1,h2⟩:=kT hg (fun c k h=>hr c k (by simp[h])) R.2 (aP p k' hs').2
      have h0:=hr t0 te (by simp)
      simp only[cm,List.map_cons,List.pairwise_cons,List.mem_cons]
      refine⟨⟨fun t ht e=> ?_,h1⟩,fun t ht=> ?_⟩
      ·obtain⟨u,q1,q2⟩:=h2 t ht
       rw[←e,h0]at q2
       simp only[Option.some.injEq]at q2
       omega
      ·rcases ht with rfl|ht
       ·exact⟨te,Nat.le_refl _,h0⟩
       ·obtain⟨u,q1,q2⟩:=h2 t ht
        exact⟨u,by omega,q2⟩
     ·cases h
    ·cases h
   ·cases h
 | .rd τ::ps,sv::as,te,r0,xs,rho,bs,h,hr,R,k'=>by
   simp only[bn]at h
   split at h
   ·split at h
    ·rename_i x xs' rho' bs' hx hg
     split at h
     ·simp only[Option.some.injEq,Prod.mk.injEq]at h
      obtain⟨_,rfl,rfl⟩:=h
      exact kT hg (fun c k h=>hr c k (List.mem_append_right _ h)) R k'
     ·cases h
    ·cases h
   ·cases h
 | .vx e l::ps,.d v::as,te,r0,xs,rho,bs,h,hr,R,k'=>by
   simp only[bn]at h
   split at h
   ·rename_i x xs' rho' bs' hx hg
    split at h
    ·simp only[Option.some.injEq,Prod.mk.injEq]at h
     obtain⟨_,rfl,rfl⟩:=h
     exact kT hg (fun c k h=>hr c k (List.mem_append_right _ h)) R k'
    ·cases h
   ·cases h
 | [],_::_,_,_,_,_,_,h,_,_,_| .val _ _::_,[],_,_,_,_,_,h,_,_,_| .io _ _::_,[],_,_,_,_,_,h,_,_,_| .rd _::_,[],_,_,_,_,_,h,_,_,_| .vx _ _::_,[],_,_,_,_,_,h,_,_,_=>by simp[bn]at h
 | .val _ _::_,.no::_,_,_,_,_,_,h,_,_,_| .val _ _::_,.box _ _::_,_,_,_,_,_,h,_,_,_| .val _ _::_,.ptr ..::_,_,_,_,_,_,h,_,_,_| .val _ _::_,.ept ..::_,_,_,_,_,_,h,_,_,_
 | .val _ _::_,.rdp ..::_,_,_,_,_,_,h,_,_,_| .val _ _::_,.tup _::_,_,_,_,_,_,h,_,_,_| .val _ _::_,.g ..::_,_,_,_,_,_,h,_,_,_=>by simp[bn]at h
 | .vx _ _::_,.no::_,_,_,_,_,_,h,_,_,_| .vx _ _::_,.box _ _::_,_,_,_,_,_,h,_,_,_| .vx _ _::_,.ptr ..::_,_,_,_,_,_,h,_,_,_| .vx _ _::_,.ept ..::_,_,_,_,_,_,h,_,_,_
 | .vx _ _::_,.rdp ..::_,_,_,_,_,_,h,_,_,_| .vx _ _::_,.tup _::_,_,_,_,_,_,h,_,_,_| .vx _ _::_,.g ..::_,_,_,_,_,_,h,_,_,_=>by simp[bn]at h
theorem og (hI:Inv w0 c0 U E a w G) {hs':List Nat}:∀ {ps:List PK} {as:List SV} {vals:List Value} {te i0:Nat} {r0:List (Nat×Nat)} {xs:aT (ps.map PK.ty)} {rho bs:List (Nat×Nat)},
 bn E.rd ps as te r0=some (xs,rho,bs)→(∀i,bI w G (as.getD i .no) (vals.getD i undef))→∀(R:aT (bh ps)) (k:Nat) (j:Nat) (t s:Nat),bs[j]?=some (t,s)→
 ∃te' i v0 v2 τ,(dD ps i0 te)[j]?=some (te',i0+i)∧(bh ps)[j]?=some τ∧(cm hs' ps R bs k)[j]?=some (t,s,v2)∧v2.τ=τ∧E.rd.box t=some (s,v0)∧v0.τ=τ∧vals.getD i undef=G.hdr t
 | [],[],vals,te,i0,r0,xs,rho,bs,h,hs,R,k,j,t,s,hj=>by
   simp only[bn,Option.some.injEq,Prod.mk.injEq]at h
   obtain⟨_,rfl,rfl⟩:=h
   simp at hj
 | .val τ p::ps,.d v::as,vals,te,i0,r0,xs,rho,bs,h,hs,R,k,j,t,s,hj=>by
   simp only[bn]at h
   split at h
   ·rename_i x xs' rho' bs' hx hg
    split at h
    ·simp only[Option.some.injEq,Prod.mk.injEq]at h
     obtain⟨_,rfl,rfl⟩:=h
     obtain⟨te',i,v0,v2,τ',q1,q2,q3,q4,q5,q6,q7⟩:=og hI (hs':=hs') (i0:=i0+1) (vals:=vals.drop 1) hg (fun i=>by have:=hs (i+1);simpa[List.getD_eq_getElem?_getD,Nat.add_comm]using this) R k j t s hj
     exact⟨te',i+1,v0,v2,τ',by simp only[dD];rw[show i0+(i+1)=i0+1+i by omega];exact q1,q2,q3,q4,q5,q6,by rw[←q7];simp[List.getD_eq_getElem?_getD,Nat.add_comm]⟩
    ·cases h
   ·cases h
 | .io τ p::ps,sv::as,vals,te,i0,r0,xs,rho,bs,h,hs,R,k,j,t,s,hj=>by
   simp only[bn]at h
   split at h
   ·rename_i t0 s0 v hb
    split at h
    ·rename_i x xs' rho' bs' hx hg
     split at h
     ·simp only[Option.some.injEq,Prod.mk.injEq]at h
      obtain⟨_,rfl,rfl⟩:=h
      have hs0:=hs 0
      simp only[List.getD_cons_zero]at hs0
      obtain⟨hslot,bk,c,el,b1,b2,_⟩:=sM hI hb hs0
      have hbox:E.rd.box t0=some (s0,v):=by
       unfold lz at hb
       split at hb
       ·rw[Option.map_eq_some_iff]at hb
        obtain⟨r,hr,hb⟩:=hb
        simp only[Prod.mk.injEq]at hb
        obtain⟨rfl,rfl,rfl⟩:=hb
        exact hr
       ·cases hb
      have hτ:v.τ=τ:=by
       have e:=cK hx
       rw[e]
      cases j with
      |zero=>
       simp only[List.getElem?_cons_zero,Option.some.injEq,Prod.mk.injEq]at hj
       obtain⟨rfl,rfl⟩:=hj
       exact⟨te,0,v,⟨τ,R.1,(aP p k hs').1⟩,τ,by simp[dD],by simp[bh],by simp only[cm,List.getElem?_cons_zero],rfl,hbox,hτ,b2.symm⟩
      |succ j=>
       simp only[List.getElem?_cons_succ]at hj
       obtain⟨te',i,v0,v2,τ',q1,q2,q3,q4,q5,q6,q7⟩:=og hI (hs':=hs') (i0:=i0+1) (vals:=vals.drop 1) hg (fun i=>by have:=hs (i+1);simpa[List.getD_eq_getElem?_getD,Nat.add_comm]using this) R.2 (aP p k hs').2 j t s hj
       exact⟨te',i+1,v0,v2,τ',by simp only[dD,List.getElem?_cons_succ];rw[show i0+(i+1)=i0+1+i by omega];exact q1,by simp only[bh,List.getElem?_cons_succ];exact q2,
        by simp only[cm,List.getElem?_cons_succ];exact q3,q4,q5,q6,by rw[←q7];simp[List.getD_eq_getElem?_getD,Nat.add_comm]⟩
     ·cases h
    ·cases h
   ·cases h
 | .rd τ::ps,sv::as,vals,te,i0,r0,xs,rho,bs,h,hs,R,k,j,t,s,hj=>by
   simp only[bn]at h
   split at h
   ·split at h
    ·rename_i x xs' rho' bs' hx hg
     split at h
     ·simp only[Option.some.injEq,Prod.mk.injEq]at h
      obtain⟨_,rfl,rfl⟩:=h
      obtain⟨te',i,v0,v2,τ',q1,q2,q3,q4,q5,q6,q7⟩:=og hI (hs':=hs') (i0:=i0+1) (vals:=vals.drop 1) hg (fun i=>by have:=hs (i+1);simpa[List.getD_eq_getElem?_getD,Nat.add_comm]using this) R k j t s hj
      exact⟨te',i+1,v0,v2,τ',by simp only[dD];rw[show i0+(i+1)=i0+1+i by omega];exact q1,q2,q3,q4,q5,q6,by rw[←q7];simp[List.getD_eq_getElem?_getD,Nat.add_comm]⟩
     ·cases h
    ·cases h
   ·cases h
 | .vx e l::ps,.d v::as,vals,te,i0,r0,xs,rho,bs,h,hs,R,k,j,t,s,hj=>by
   simp only[bn]at h
   split at h
   ·rename_i x xs' rho' bs' hx hg
    split at h
    ·simp only[Option.some.injEq,Prod.mk.injEq]at h
     obtain⟨_,rfl,rfl⟩:=h
     obtain⟨te',i,v0,v2,τ',q1,q2,q3,q4,q5,q6,q7⟩:=og hI (hs':=hs') (i0:=i0+1) (vals:=vals.drop 1) hg (fun i=>by have:=hs (i+1);simpa[List.getD_eq_getElem?_getD,Nat.add_comm]using this) R k j t s hj
     exact⟨te',i+1,v0,v2,τ',by simp only[dD];rw[show i0+(i+1)=i0+1+i by omega];exact q1,q2,q3,q4,q5,q6,by rw[←q7];simp[List.getD_eq_getElem?_getD,Nat.add_comm]⟩
    ·cases h
   ·cases h
 | [],_::_,_,_,_,_,_,_,_,h,_,_,_,_,_,_,_| .val _ _::_,[],_,_,_,_,_,_,_,h,_,_,_,_,_,_,_| .io _ _::_,[],_,_,_,_,_,_,_,h,_,_,_,_,_,_,_| .rd _::_,[],_,_,_,_,_,_,_,h,_,_,_,_,_,_,_
 | .vx _ _::_,[],_,_,_,_,_,_,_,h,_,_,_,_,_,_,_=>by simp[bn]at h
 | .val _ _::_,.no::_,_,_,_,_,_,_,_,h,_,_,_,_,_,_,_| .val _ _::_,.box _ _::_,_,_,_,_,_,_,_,h,_,_,_,_,_,_,_| .val _ _::_,.ptr ..::_,_,_,_,_,_,_,_,h,_,_,_,_,_,_,_
 | .val _ _::_,.ept ..::_,_,_,_,_,_,_,_,h,_,_,_,_,_,_,_| .val _ _::_,.rdp ..::_,_,_,_,_,_,_,_,h,_,_,_,_,_,_,_| .val _ _::_,.tup _::_,_,_,_,_,_,_,_,h,_,_,_,_,_,_,_
 | .val _ _::_,.g ..::_,_,_,_,_,_,_,_,h,_,_,_,_,_,_,_| .vx _ _::_,.no::_,_,_,_,_,_,_,_,h,_,_,_,_,_,_,_| .vx _ _::_,.box _ _::_,_,_,_,_,_,_,_,h,_,_,_,_,_,_,_
 | .vx _ _::_,.ptr ..::_,_,_,_,_,_,_,_,h,_,_,_,_,_,_,_| .vx _ _::_,.ept ..::_,_,_,_,_,_,_,_,h,_,_,_,_,_,_,_| .vx _ _::_,.rdp ..::_,_,_,_,_,_,_,_,h,_,_,_,_,_,_,_
 | .vx _ _::_,.tup _::_,_,_,_,_,_,_,_,h,_,_,_,_,_,_,_| .vx _ _::_,.g ..::_,_,_,_,_,_,_,_,h,_,_,_,_,_,_,_=>by simp[bn]at h
theorem nL:∀ {τ:Ty} {x:τ.den} {sh:Sh} {cs:List Value} {p:List Bool} {t:Nat},aW w G τ x sh cs→gW sh p=some t→cs[τ.off p]?=some (G.hdr t)∧3≤t∧t∈sh.aD
 | .sl e,l,.sl (.row u hs nd),cs,[],t,h,hr=>by
   simp only[gW,Option.some.injEq]at hr
   subst hr
   obtain⟨v,rfl,h3,hh,_⟩:=h
   exact⟨by simp[Ty.off,hh],h3,by simp[Sh.aD,M.aD]⟩
 | .pair a b,x,.pair s1 s2,cs,false::p,t,h,hr=>by
   obtain⟨c1,c2,rfl,h1,h2⟩:=h
   simp only[gW]at hr
   obtain⟨q1,q2,q3⟩:=nL h1 hr
   refine⟨?_,q2,by simp[Sh.aD,q3]⟩
   simp only[Ty.off]
   rw[List.getElem?_append_left]
   ·exact q1
   ·rcases Nat.lt_or_ge (a.off p) c1.length with h|h
    ·exact h
    ·rw[List.getElem?_eq_none h]at q1;cases q1
 | .pair a b,x,.pair s1 s2,cs,true::p,t,h,hr=>by
   obtain⟨c1,c2,rfl,h1,h2⟩:=h
   simp only[gW]at hr
   obtain⟨q1,q2,q3⟩:=nL h2 hr
   refine⟨?_,q2,by simp[Sh.aD,q3]⟩
   have hl:c1.length=a.sz:=aW.len h1
   simp only[Ty.off]
   rw[List.getElem?_append_right (by omega),show a.sz+b.off p-c1.length=b.off p by omega]
   exact q1
 | .int _,_,.sl _,_,_,_,h,_| .bool,_,.sl _,_,_,_,h,_| .str,_,.sl _,_,_,_,h,_| .pair _ _,_,.sl _,_,_,_,h,_| .int _,_,.pair _ _,_,_,_,h,_| .bool,_,.pair _ _,_,_,_,h,_
 | .str,_,.pair _ _,_,_,_,h,_| .sl _,_,.pair _ _,_,_,_,h,_=>h.elim
 |_,_,.leaf,_,_,_,_,h=>by simp[gW]at h
 |_,_,.sl (.sha _),_,_,_,_,h|_,_,.sl .dead,_,_,_,_,h=>by simp[gW]at h
 |_,_,.sl (.row _ _ _),_,_::_,_,_,h=>by simp[gW]at h
 |_,_,.pair _ _,_,[],_,_,h=>by simp[gW]at h
end
end Vg
namespace Vg
open Go
theorem Ky:∀ {L:List SV} {vs:List TV},nk L=some vs→L.length=vs.length∧∀i v,vs[i]?=some v→L.getD i .no= .d v
 | [],vs,h=>by simp only[nk,Option.some.injEq]at h;subst h;simp
 | .d v::L,vs,h=>by
   simp only[nk,Option.map_eq_some_iff]at h
   obtain⟨vs',h1,rfl⟩:=h
   obtain⟨g1,g2⟩:=Ky h1
   refine⟨by simp[g1],fun i v' hi=> ?_⟩
   cases i with
   |zero=>simp at hi⊢;exact hi
   |succ i=>simp at hi;simpa using g2 i v' hi
 | .no::_,_,h| .box _ _::_,_,h| .ptr ..::_,_,h| .ept ..::_,_,h| .rdp ..::_,_,h| .tup _::_,_,h| .g ..::_,_,h=>by simp[nk]at h
theorem KJ:∀ {L:List SV} {vs:List TV},nk L=some vs→∀v∈vs,SV.d v∈L
 | [],vs,h,v,hv=>by simp only[nk,Option.some.injEq]at h;subst h;simp at hv
 | .d u::L,vs,h,v,hv=>by
   simp only[nk,Option.map_eq_some_iff]at h
   obtain⟨vs',h1,rfl⟩:=h
   simp only[List.mem_cons]at hv
   rcases hv with rfl|hv
   ·simp
   ·exact List.mem_cons_of_mem _ (KJ h1 v hv)
 | .no::_,_,h,_,_| .box _ _::_,_,h,_,_| .ptr ..::_,_,h,_,_| .ept ..::_,_,h,_,_| .rdp ..::_,_,h,_,_| .tup _::_,_,h,_,_| .g ..::_,_,h,_,_=>by simp[nk]at h
section
variable {P:Program} {C:Cx} {w0:World} {c0:C0} {U:Nat→Prop} {E:Env} {a:Act} {w:World} {G:Gh} {ops:List Oper} {g:Option (Nat×Bool)}
theorem En (L:List SV):(∃sv,L=[sv]∧jC L=sv)∨(∀sv,L≠ [sv])∧((∃vs,nk L=some vs∧jC L= .tup vs)∨jC L= .no):=by
 match L with
 | [sv]=>exact .inl ⟨sv,rfl,rfl⟩
 | []=>exact .inr ⟨by simp,.inl ⟨[],rfl,rfl⟩⟩
 |x::y::l=>
  refine .inr ⟨by simp,?_⟩
  cases h:nk (x::y::l)with
  |none=>right;simp[jC,h]
  |some vs=>left;exact⟨vs,rfl,by simp[jC,h]⟩
theorem Rw {vs:List Value} (h:∀v,vs≠ [v]):sY vs= .tuple vs.toArray:=by
 match vs,h with
 | [],_=>rfl
 | [v],h=>exact absurd rfl (h v)
 |_::_::_,_=>rfl
theorem Ss {L:List SV} {vs:List Value} (hl:vs.length=L.length) (h:∀i,bI w G (L.getD i .no) (vs.getD i undef)):bI w G (jC L) (sY vs):=by
 rcases En L with⟨sv,rfl,e⟩|⟨hn,⟨ts,h1,e⟩|e⟩
 ·rw[e]
  have:=h 0
  match vs,hl with
  | [v],_=>simpa[sY]using this
 ·rw[e,Rw (fun v hv=>by
   subst hv
   simp only[List.length_singleton]at hl
   match L,hl with
   | [sv],_=>exact hn sv rfl)]
  obtain⟨g1,g2⟩:=Ky h1
  refine⟨vs,rfl,by omega,fun i v hi=> ?_⟩
  have hs:=h i
  rw[g2 i v hi]at hs
  obtain⟨cs,k1,k2⟩:=hs
  have hlt:i<vs.length:=by
   have:=(List.getElem?_eq_some_iff.1 hi).1
   omega
  rw[List.getD_eq_getElem?_getD,List.getElem?_eq_getElem hlt]at k1
  exact⟨_,cs,List.getElem?_eq_getElem hlt,k1,k2⟩
 ·rw[e];trivial
theorem QL {L:List SV} (h:∀sv∈L,aX U G sv):aX U G (jC L):=by
 rcases En L with⟨sv,rfl,e⟩|⟨_,⟨ts,h1,e⟩|e⟩
 ·rw[e];exact h sv (by simp)
 ·rw[e]
  refine⟨fun c hc=> ?_,by simp[SV.bt],by simp[SV.rt]⟩
  simp only[SV.sc,List.mem_flatMap]at hc
  obtain⟨v,hv,hc⟩:=hc
  exact(h _ (KJ h1 v hv)).1 c hc
 ·rw[e];simp[aX,SV.sc,SV.bt,SV.rt]
def nz (G G1 G':Gh) (n k0 tk:Nat) (bx:List Nat):Gh:=
 ⟨fun b=>if 3≤G'.col b then(if k0≤G'.col b∧G'.col b<k0+32 then tk+(G'.col b-k0)else if b<n then G.col b else 0)
  else if G'.col b=2 then 2 else if G'.col b=1 then G.col b else if b<n∧G1.col b=0 then G.col b else 0,
  fun u=>if tk≤u∧u<tk+32 then G'.hdr (k0+(u-tk))else G.hdr u,
  fun u=>if tk≤u∧u<tk+32 then bx.contains u else G.bx u⟩
theorem QS (G G1 G':Gh) (n k0 tk:Nat) (bx:List Nat) (b:Nat):
 (k0≤G'.col b∧G'.col b<k0+32∧3≤G'.col b∧(nz G G1 G' n k0 tk bx).col b=tk+(G'.col b-k0))∨
 (3≤G'.col b∧b<n∧(nz G G1 G' n k0 tk bx).col b=G.col b∧¬(k0≤G'.col b∧G'.col b<k0+32))∨
 (3≤G'.col b∧(nz G G1 G' n k0 tk bx).col b=0)∨(G'.col b=2∧(nz G G1 G' n k0 tk bx).col b=2)∨(G'.col b=1∧(nz G G1 G' n k0 tk bx).col b=G.col b)∨
 (G'.col b=0∧b<n∧G1.col b=0∧(nz G G1 G' n k0 tk bx).col b=G.col b)∨(G'.col b=0∧(nz G G1 G' n k0 tk bx).col b=0∧¬(b<n∧G1.col b=0)):=by
 simp only[nz]
 by_cases h3:3≤G'.col b
 ·simp only[h3,if_true,true_and]
  by_cases h:k0≤G'.col b∧G'.col b<k0+32
  ·simp only[h,and_self,if_true];left;trivial
  ·simp only[h,if_false]
   by_cases hb:b<n
   ·right;left;simp[hb]
   ·right;right;left;simp[hb]
 ·simp only[h3,if_false,false_and,and_false,false_or]
  by_cases h2:G'.col b=2
  ·simp[h2]
  ·by_cases h1:G'.col b=1
   ·simp[h1]
   ·have h0:G'.col b=0:=by omega
    by_cases hb:b<n∧G1.col b=0
    ·simp[h0,hb]
    ·simp[h0,hb]
theorem Uf (hI:Inv w0 c0 U E a w G) {con:aF} {as:List SV} {vals:List Value} {xs:aT (con.ps.map PK.ty)} {rho bs:List (Nat×Nat)}
 (hcon:Mo con.ps con.rs=true) (hg:bn E.rd con.ps as 3 []=some (xs,rho,bs)) (hs:∀i,bI w G (as.getD i .no) (vals.getD i undef)∧aX U G (as.getD i .no)) (hr:AV rho=true)
 {G1:Gh} (hG1:∀b,G1.col b=(rho.lookup (G.col b)).getD 0) {y:aT (con.rs.map RK.ty++bh con.ps)} {mv:Value} {w':World} {G':Gh} {vs:List Value} {nt:Nat} (hp:sW con w G1 vals y mv w' G' vs nt)
 {tk:Nat} (h3:3≤tk) (hU:∀u,tk≤u→u<tk+32→¬U u) (h32:nD con.ps (cN con.rs 0)≤32) {hs' tks:List Nat}
 (hhs:hs'=(2::(rho.filter (·.2=1)).map (·.1)).eraseDups) (htks:tks=((rho.filter (3≤·.2)).map (·.1)).filter fun c=> !bs.any (·.1=c)):
 ∃G2,Inv w0 c0 (fun u=>U u∨(tk≤u∧u<tk+32)) {E.kill tks with s:=bq (cm hs' con.ps (aV con.rs (bh con.ps) y tk hs').2.1 bs (aV con.rs (bh con.ps) y tk hs').2.2) (E.kill tks).s} a w' G2∧
  bI w' G2 (jC (aV con.rs (bh con.ps) y tk hs').1) mv∧aX (fun u=>U u∨(tk≤u∧u<tk+32)) G2 (jC (aV con.rs (bh con.ps) y tk hs').1)∧
  (∀t u,jC (aV con.rs (bh con.ps) y tk hs').1= .box t u→∀s u',
   (bq (cm hs' con.ps (aV con.rs (bh con.ps) y tk hs').2.1 bs (aV con.rs (bh con.ps) y tk hs').2.2) (E.kill tks).s).getD s .no≠ .box t u')∧
  (∀u u',(u,u')∈uT E.rd bs (cm hs' con.ps (aV con.rs (bh con.ps) y tk hs').2.1 bs (aV con.rs (bh con.ps) y tk hs').2.2) con.kp→
   G2.hdr u'=G.hdr u∧3≤u'∧Good (fun u=>U u∨(tk≤u∧u<tk+32)) G2 u')∧
  (∀t s v,(t,s,v)∈cm hs' con.ps (aV con.rs (bh con.ps) y tk hs').2.1 bs (aV con.rs (bh con.ps) y tk hs').2.2→∃v0,E.s.getD s .no= .box t v0):=by
 obtain⟨hl,_,hin0⟩:=nP hI hg hs (Nat.le_refl _)
 have hin:∀c k,(c,k)∈rho→Mr U G con.ps 3 bs c k:=fun c k h=>(hin0 c k h).resolve_right (by simp)
 have hk0:=dH con.ps 3
 generalize hk:bw con.ps 3=k0 at hk0
 have hin':∀c k,(c,k)∈rho→(k=1∧0<c∧U c∧(G.bx c=false∨Fx con.ps=true))∨(3≤k∧k<k0∧3≤c∧((Good U G c∧k∉bR con.ps 3)∨(k∈bR con.ps 3∧U c∧G.bx c=true∧∃s,(c,s)∈bs))):=by
  intro c k h
  have:=hin c k h
  rw[←hk];exact this
 generalize hG2:nz G G1 G' w.heap.size k0 tk (fE con.rs tk)=G2
 have hcs:=fun b=>QS G G1 G' w.heap.size k0 tk (fE con.rs tk) b
 rw[hG2]at hcs
 have hsc:=xD (w':=w') (G':=G') (G2:=G2) (k0:=k0) (n:=k0+32) h3 (rs:=con.rs) (rest:=bh con.ps) (y:=y) (k:=k0) (Nat.le_refl _) hs'
 simp only[Nat.sub_self,Nat.add_zero]at hsc
 obtain⟨sc1,sc2,sc3,sc4,sc5,sc6⟩:=hsc
 have hnt1:cN con.rs k0=cN con.rs 0+k0:=by have:=pX con.rs 0 k0;rwa [Nat.zero_add]at this
 have hnt2:nD con.ps (cN con.rs k0)=nD con.ps (cN con.rs 0)+k0:=by rw[hnt1];exact xM _ _ _
 have hge1:=pE con.ps (cN con.rs k0)
 have hge2:=jy con.rs k0
 have hnot:∀u,U u→¬(tk≤u∧u<tk+32):=fun u hu h=>hU u h.1 h.2 hu
 have hG2h:∀u,U u→G2.hdr u=G.hdr u:=fun u hu=>by rw[←hG2];exact if_neg (hnot u hu)
 have hG2b:∀u,U u→G2.bx u=G.bx u:=fun u hu=>by rw[←hG2];exact if_neg (hnot u hu)
 have hcol1:∀b,(G1.col b=0)∨(G1.col b=1∧(G.col b,1)∈rho)∨(3≤G1.col b∧G1.col b<k0∧(G.col b,G1.col b)∈rho∧3≤G.col b):=by
  intro b
  rw[hG1 b]
  cases hq:rho.lookup (G.col b)with
  |none=>left;simp
  |some k=>
   simp only[Option.getD_some]
   have hm:=eE hq
   rcases hin' _ _ hm with⟨rfl,_⟩|⟨q1,q2,q3,_⟩
   ·exact .inr (.inl ⟨rfl,hm⟩)
   ·exact .inr (.inr ⟨q1,q2,hm,q3⟩)
 have hRec:QT G' G2 k0 (k0+32) tk hs':=by
  refine⟨fun u hu hu2=>⟨?_,fun b hb=> ?_⟩,fun b hb=> ?_,fun e=> ?_⟩
  rotate_right
  ·have h2:2∈hs':=by rw[hhs,List.mem_eraseDups];simp
   rw[e]at h2;simp at h2
  ·rw[←hG2]
   simp only[nz]
   rw[if_pos (by omega)]
   congr 1;omega
  ·rcases hcs b with⟨_,_,_,h⟩|⟨q1,q2,q3,q4⟩|⟨q1,q2⟩|h|h|h|h
   ·rw[h,hb]
   ·omega
   ·rw[←hG2]
    simp only[nz]
    rw[if_pos q1,if_pos (by omega),hb]
   ·omega
   ·omega
   ·omega
   ·omega
  ·rw[hhs,List.mem_eraseDups]
   simp only[List.mem_cons,List.not_mem_nil,or_false]at hb
   rcases hb with hb|hb
   ·have:G2.col b=2:=by
     rcases hcs b with h|h|h|h|h|h|h<;>omega
    simp[this]
   ·have h1:=(hp.one b hb).2
    have:G2.col b=G.col b:=by
     rcases hcs b with h|h|h|h|h|h|h<;>omega
    rw[this]
    rcases hcol1 b with h|⟨_,h⟩|h
    ·omega
    ·refine List.mem_cons_of_mem _ (List.mem_map.2 ⟨(G.col b,1),?_,rfl⟩)
     simp[h]
    ·omega
 have hts:∀c,c∈tks→Good U G c∧3≤c∧∀s,(c,s)∉bs:=by
  intro c hc
  rw[htks]at hc
  simp only[List.mem_filter,List.mem_map,Bool.not_eq_true',List.any_eq_false,decide_eq_true_eq]at hc
  obtain⟨⟨⟨c',k⟩,⟨h1,h2⟩,rfl⟩,h4⟩:=hc
  have h4':∀s,(c',s)∉bs:=fun s h=>h4 (c',s) h rfl
  rcases hin' _ _ h1 with⟨rfl,_⟩|⟨_,_,h5,⟨h6,_⟩|⟨_,_,_,s,h6⟩⟩
  ·simp at h2
  ·exact⟨h6,h5,h4'⟩
  ·exact absurd h6 (h4' s)
 have htaken:∀b,3≤G1.col b→G.col b∈tks∨∃s,(G.col b,s)∈bs:=by
  intro b hb
  rcases hcol1 b with h|⟨h,_⟩|⟨_,_,h,_⟩
  ·omega
  ·omega
  ·by_cases hbs:∃s,(G.col b,s)∈bs
   ·exact .inr hbs
   ·left
    rw[htks]
    simp only[List.mem_filter,List.mem_map,Bool.not_eq_true',List.any_eq_false,decide_eq_true_eq]
    refine⟨⟨(G.col b,G1.col b),⟨h,hb⟩,rfl⟩,fun p hp e=>hbs ⟨p.2,?_⟩⟩
    rw[←e];exact hp
 obtain⟨rel1,rel2⟩:=wJ hI (k0:=k0) (tk:=tk) (hs':=hs') (i0:=0) hg (fun i=>(hs i).1) (aV con.rs (bh con.ps) y k0 [2,1]).2.1 (cN con.rs k0) hge2
 have hpw:=(kT (hs':=hs') (rhoT:=rho) hg (fun c k h=>xH hr h) (aV con.rs (bh con.ps) y k0 [2,1]).2.1 (tk+(cN con.rs k0-k0))).1
 rw[sc1,sc2]
 generalize hio:cm hs' con.ps (aV con.rs (bh con.ps) y k0 [2,1]).2.1 bs (tk+(cN con.rs k0-k0))=IO at rel1 rel2 hpw⊢
 have hbs:∀t s,(t,s)∈bs→∃v0,E.s.getD s .no= .box t v0:=by
  intro t s h
  obtain⟨v2,h2⟩:=rel2 t s h
  obtain⟨te',i,v1,p,k1,v0,_,_,_,q4,_⟩:=rel1 t s v2 h2
  exact⟨v0,q4⟩
 have hK:=hI.kill tks
 have hD:=hK.Pq IO
 have hDget:∀s,(ek IO (E.kill tks).s).getD s .no=(E.kill tks).s.getD s .no∨(ek IO (E.kill tks).s).getD s .no= .no:=by
  intro s
  by_cases h:∃t v,(t,s,v)∈IO
  ·exact .inr (oQ IO _ s h).1
  ·exact .inl (nf IO _ s (fun t v hh=>h ⟨t,v,hh⟩))
 have hhc:∀s,∀c∈((ek IO (E.kill tks).s).getD s .no).hc,c∉tks++bs.map (·.1):=by
  intro s c hc hin2
  have hsn:(ek IO (E.kill tks).s).getD s .no=(E.kill tks).s.getD s .no:=by
   rcases hDget s with h|h
   ·exact h
   ·rw[h]at hc;simp[SV.hc,SV.sc]at hc
  have hnb:∀t v,(t,s,v)∉IO:=by
   intro t v h
   have:=(oQ IO (E.kill tks).s s ⟨t,v,h⟩).1
   rw[this]at hc;simp[SV.hc,SV.sc]at hc
  rw[hsn]at hc
  have hsc':c∈((E.kill tks).s.getD s .no).sc→False:=by
   intro h
   rcases List.mem_append.1 hin2 with h2|h2
   ·exact(Env.wj E tks s c h).2 h2
   ·simp only[List.mem_map]at h2
    obtain⟨⟨t,s2⟩,h2,rfl⟩:=h2
    obtain⟨v0,h4⟩:=hbs t s2 h2
    have h5:=hI.bt s2 t (by rw[h4];simp[SV.bt])
    have h6:=hK.sc s t h
    rw[h6.2.2]at h5;simp at h5
  cases hsv:(E.kill tks).s.getD s .no with
  |box t v=>
   rw[hsv]at hc
   rcases List.mem_cons.1 hc with rfl|hc
   ·have h5:=hK.bt s c (by rw[hsv];simp[SV.bt])
    rcases List.mem_append.1 hin2 with h2|h2
    ·rw[(hts c h2).1.2.2]at h5;simp at h5
    ·simp only[List.mem_map]at h2
     obtain⟨⟨t,s2⟩,h2,rfl⟩:=h2
     obtain⟨v2,h7⟩:=rel2 t s2 h2
     obtain⟨v0,h4⟩:=hbs t s2 h2
     have h8:∃v',E.s.getD s .no= .box t v':=by
      rw[Env.xq]at hsv
      split at hsv
      ·exact⟨v,hsv⟩
      ·exact xo hsv
     obtain⟨v',h8⟩:=h8
     have:=hI.uni s s2 t v' v0 h8 h4
     subst this
     exact hnb t v2 h7
   ·exact hsc' (by rw[hsv];exact hc)
  |_=>rw[hsv]at hc;exact hsc' (by rw[hsv];exact hc)
 have hsame:∀b,0<G.col b→G.col b∉tks++bs.map (·.1)→w'.heap[b]?=w.heap[b]?∧G2.col b=G.col b:=by
  intro b hb hn
  have hlt:=hI.lt b hb
  have h1:G1.col b<3:=by
   rcases Nat.lt_or_ge (G1.col b) 3 with h|h
   ·exact h
   ·exfalso
    rcases htaken b h with h|⟨s,h⟩
    ·exact hn (List.mem_append_left _ h)
    ·exact hn (List.mem_append_right _ (List.mem_map.2 ⟨_,h,rfl⟩))
  have hf:=hp.frame b hlt h1
  refine⟨hf.2,?_⟩
  have h2:G1.col b≠2:=by rcases hcol1 b with h|h|h<;>omega
  rcases hcs b with h|h|h|h|h|h|h<;>omega
 have hframe:∀b,b<w0.heap.size→c0.col b<3→G2.col b=c0.col b∧w'.heap[b]?=w0.heap[b]?:=by
  intro b hb hc
  have hf:=hI.frame b hb hc
  have hlt:b<w.heap.size:=Nat.lt_of_lt_of_le hb hI.size
  have h1:G1.col b<3∧G1.col b≠2:=by rcases hcol1 b with h|h|h<;>omega
  have hf2:=hp.frame b hlt h1.1
  refine⟨?_,hf2.2.trans hf.2⟩
  rw[←hf.1]
  rcases hcs b with h|h|h|h|h|h|h<;>omega
 have hC:=hD.change (U':=fun u=>U u∨(tk≤u∧u<tk+32)) (w':=w') (G':=G2) hhc hsame (fun t ht=>⟨hG2h t ht,hG2b t ht⟩) (fun c hc=> .inl hc)
  (fun b hb=>by
   rcases hcs b with h|⟨_,_,h,_⟩|h|⟨_,h⟩|⟨_,h⟩|⟨_,_,_,h⟩|h
   ·right;omega
   ·rw[h]at hb⊢;exact .inl (hI.colU b hb)
   ·omega
   ·rw[h];exact .inl hI.two.1
   ·rw[h]at hb⊢;exact .inl (hI.colU b hb)
   ·rw[h]at hb⊢;exact .inl (hI.colU b hb)
   ·omega)
  (fun b hb=>by
   rcases hcs b with h|h|h|h|h|h|h
   ·exact hp.lt b (by omega)
   ·exact hp.lt b (by omega)
   ·exact hp.lt b (by omega)
   ·exact hp.lt b (by omega)
   ·exact hp.lt b (by omega)
   ·exact Nat.lt_of_lt_of_le h.2.1 hp.size
   ·omega)
  (fun b hb=>by
   rcases hcs b with h|h|h|h|h|h|h
   ·exact hp.fresh b (by omega)
   ·exact hp.fresh b (by omega)
   ·exact hp.fresh b (by omega)
   ·omega
   ·have h1:=hp.one b h.1
    rw[(hp.frame b h1.1 (by omega)).2]
    exact hI.fresh b (by omega)
   ·rw[(hp.frame b h.2.1 (by omega)).2]
    exact hI.fresh b (by omega)
   ·omega)
  hframe
  (fun b hb=>by
   rcases hcs b with h|h|h|h|h|h|h<;>omega)
  hp.size hp.os hp.tape hp.output
 have hgoodhs:((con.rs.any fun r=>r.pt.oD)=true∨xn con.ps=true)→∀c∈hs',Good (fun u=>U u∨(tk≤u∧u<tk+32)) G2 c:=by
  intro hsh c hc
  have hnr:Fx con.ps=false:=by
   simp only[Mo,Bool.and_eq_true,Bool.or_eq_true,Bool.not_eq_true',Bool.or_eq_false_iff]at hcon
   rcases hcon.2 with h|⟨h1,h2⟩
   ·exact h
   ·rcases hsh with h|h
    ·rw[h]at h1;cases h1
    ·rw[h]at h2;cases h2
  rw[hhs,List.mem_eraseDups,List.mem_cons]at hc
  rcases hc with rfl|hc
  ·exact⟨by omega,.inl hI.two.1,(hG2b 2 hI.two.1).trans hI.two.2⟩
  ·simp only[List.mem_map,List.mem_filter,decide_eq_true_eq]at hc
   obtain⟨⟨c',k⟩,⟨h1,h2⟩,rfl⟩:=hc
   simp only at h2
   subst h2
   rcases hin' _ _ h1 with⟨_,q1,q2,q3⟩|h
   ·exact⟨q1,.inl q2,(hG2b c' q2).trans (q3.resolve_right (by simp[hnr]))⟩
   ·omega
 have hresB:∀c∈fE con.rs tk,tk≤c∧c<tk+(cN con.rs k0-k0):=by
  intro c hc
  have h1:=qh c hc
  have h2:=pX con.rs 0 tk
  rw[Nat.zero_add]at h2
  omega
 have hbox:∀t s v,(t,s,v)∈IO→bI w' G2 (.box t v) (a.tmps.getD s undef)∧aX (fun u=>U u∨(tk≤u∧u<tk+32)) G2 (.box t v):=by
  rintro t s ⟨τ2,x2,sh2⟩ hin2
  obtain⟨te',i,v1,p,k1,v0,q1,q2,q3,q4,q5,q6,q7,rfl,q9,MF⟩:=rel1 t s _ hin2
  simp only at q9
  subst q9
  have hios:=hp.ios te' i ⟨τ2,x2,(aP p k1 [2,1]).1⟩ (by
   rw[hk,sc3]
   rw[Nat.zero_add]at q1
   exact q1)
  obtain⟨bk,c,el,e1,e2,e3,e4,e5,e6⟩:=hios
  have hsl:=hI.slots s
  rw[q4]at hsl
  obtain⟨bk0,c',el',f1,f2,f3,f4,_⟩:=hsl
  rw[q5,f3,f1]at e1
  simp only[Value.pointer.injEq,Option.some.injEq,Addr.mk.injEq,and_true]at e1
  subst e1
  have hte:=dj te' q3
  rw[hk]at hte
  have hUt:=(hI.bt s t (by rw[q4];simp[SV.bt])).2.1
  have hlt:=hI.lt bk0 (by omega)
  refine⟨⟨bk0,c,el,f1,f2,(hG2h t hUt).trans f3,?_,e5,?_⟩,fun d hd=> ?_,fun d hd=> ?_,by simp[SV.rt]⟩
  ·rw[←hG2]
   simp only[nz]
   rw[if_pos (by omega),if_neg (by omega),if_pos hlt]
   exact f4
  ·exact Eh hRec h3 (by omega) (by omega) e6
  ·rcases iH d hd with h|⟨h1,h2⟩
   ·exact hgoodhs (.inr (MF h.2)) d h.1
   ·have e7:aH p (tk+(k1-k0))=tk+(aH p k1-k0):=by
     rw[show tk+(k1-k0)=(k1-k0)+tk by omega,da]
     have:=da p (k1-k0) k0
     rw[show k1-k0+k0=k1 by omega]at this
     have:=bj p k1
     omega
    have h5:d<tk+32:=by omega
    refine⟨by omega,.inr ⟨by omega,h5⟩,?_⟩
    rw[←hG2]
    simp only[nz]
    rw[if_pos (by omega)]
    simp only[List.contains_eq_mem,decide_eq_false_iff_not]
    intro hin3
    have:=hresB d hin3
    omega
  ·simp only[SV.bt,List.mem_singleton]at hd
   subst hd
   have h:=hI.bt s d (by rw[q4];simp[SV.bt])
   exact⟨h.1,.inl h.2.1,(hG2b d h.2.1).trans h.2.2⟩
 have hkb:∀ {s t v},(E.kill tks).s.getD s .no= .box t v→∃v',E.s.getD s .no= .box t v':=by
  intro s t v h
  rw[Env.xq]at h
  split at h
  ·exact⟨v,h⟩
  ·exact xo h
 have hF:=hC.Rf IO hbox hpw (fun t s v hin2 s' u he=>by
  obtain⟨te',i,v1,p,k1,v0,_,_,_,q4,_⟩:=rel1 t s v hin2
  have h1:(E.kill tks).s.getD s' .no= .box t u:=by
   rcases hDget s' with h|h
   ·exact h.symm.trans he
   ·have:SV.no= .box t u:=h.symm.trans he
    cases this
  obtain⟨v',h2⟩:=hkb h1
  have:=hI.uni s' s t v' v0 h2 q4
  subst this
  have h3:SV.no= .box t u:=(oQ IO (E.kill tks).s s' ⟨t,v,hin2⟩).1.symm.trans he
  cases h3)
 simp only[S3]at hF
 have hres:=sc5 hRec (by omega) vs (fun i=>by have:=hp.res i;rw[hk]at this;exact this)
 have hkeep:∀u u',(u,u')∈uT E.rd bs IO con.kp→G2.hdr u'=G.hdr u∧3≤u'∧Good (fun u=>U u∨(tk≤u∧u<tk+32)) G2 u':=by
  intro u u' hu
  unfold uT at hu
  simp only[List.mem_filterMap]at hu
  obtain⟨q,hq,hu⟩:=hu
  split at hu
  ·rename_i b z hb hz
   split at hu
   ·rename_i rr hr1
    split at hu
    ·rename_i a1 a2 e1 e2
     simp only[Option.some.injEq,Prod.mk.injEq]at hu
     obtain⟨rfl,rfl⟩:=hu
     obtain⟨te',i,v0,v2,τ,g1,g2,g3,g4,g5,g6,g7⟩:=og hI (hs':=hs') (i0:=0) hg (fun i=>(hs i).1) (aV con.rs (bh con.ps) y k0 [2,1]).2.1 (tk+(cN con.rs k0-k0)) q.1 b.1 b.2 hb
     rw[hio]at g3
     rw[hz]at g3
     simp only[Option.some.injEq]at g3
     subst g3
     rw[g5]at hr1
     simp only[Option.some.injEq]at hr1
     subst hr1
     have hzin:=List.mem_of_getElem? hz
     have hbx:=hbox b.1 b.2 v2 hzin
     obtain⟨h1,bk,c,el,f1,f2,f3,f4,f5⟩:=hI.box g5
     have hsl:=hI.slots b.2
     rw[h1]at hsl
     obtain⟨bk0,c0',el0,k1',k2',k3',k4',k5',k6'⟩:=hsl
     obtain⟨bk1,c1,el1,j1,j2,j3,j4,j5,j6⟩:=hbx.1
     rw[j1]at k1'
     simp only[Value.pointer.injEq,Option.some.injEq,Addr.mk.injEq,and_true]at k1'
     subst k1'
     have r1:=nL k6' e1
     have r2:=nL j6 e2
     have hkp:=hp.kept q hq te' (0+i) τ g1 g2 bk1 c0' el0 c1 el1 (by rw[Nat.zero_add,g7,k3',j1]) k5' j5
     rw[g4]at r2
     simp only[g6]at r1
     rw[r1.1,r2.1]at hkp
     simp only[Option.some.injEq]at hkp
     exact⟨hkp,r2.2.1,hbx.2.1 _ r2.2.2⟩
    ·cases hu
   ·cases hu
  ·cases hu
 refine⟨G2,hF,?_,?_,fun t u he s u' he2=> ?_,hkeep,fun t s v hin2=> ?_⟩
 rotate_right
 ·obtain⟨te',i,v1,p,k1,v0,_,_,_,q4,_⟩:=rel1 t s v hin2
  exact⟨v0,q4⟩
 ·rw[hp.val]
  exact Ss (by rw[hp.len,sc4]) hres
 ·refine QL (fun sv hsv=> ?_)
  obtain⟨h1,h2,h4⟩:=sc6 sv hsv
  refine⟨fun c hc=> ?_,fun c hc=> ?_,by rw[h4];simp⟩
  ·rcases h1 c hc with h|⟨q1,q2,q3⟩
   ·exact hgoodhs (.inl h.2) c h.1
   ·refine⟨by omega,.inr ⟨q1,by omega⟩,?_⟩
    rw[←hG2]
    simp only[nz]
    rw[if_pos (by omega)]
    simpa using q3
  ·have hb:=hresB c (h2 c hc)
   refine⟨by omega,.inr ⟨hb.1,by omega⟩,?_⟩
   rw[←hG2]
   simp only[nz]
   rw[if_pos (by omega)]
   simpa using h2 c hc
 ·have ht:t∈fE con.rs tk:=by
   rcases En (aV con.rs (bh con.ps) y tk hs').1 with⟨sv,hL,e⟩|⟨_,⟨ts,_,e⟩|e⟩
   ·rw[e]at he
    subst he
    exact(sc6 (.box t u) (by rw[hL];simp)).2.1 t (by simp[SV.bt])
   ·rw[e]at he;cases he
   ·rw[e]at he;cases he
  have hb:=hresB t ht
  have hUt:U t:=by
   rcases tu IO (E.kill tks).s s with h|⟨t',v',h1,h2⟩
   ·rw[h]at he2
    exact(hK.bt s t (by rw[he2];simp[SV.bt])).2.1
   ·rw[h2]at he2
    simp only[SV.box.injEq]at he2
    obtain⟨te',i,v1,p,k1,v0,_,_,_,q4,_⟩:=rel1 t' s v' h1
    rw[←he2.1]
    exact(hI.bt s t' (by rw[q4];simp[SV.bt])).2.1
  exact hU t hb.1 (by omega) hUt
theorem uX (s:Nat):∀(l:List (Nat×Nat×TV)) {L L':List SV},L.length=L'.length→(bq l L).getD s .no=(bq l L').getD s .no∨((bq l L).getD s .no=L.getD s .no∧(bq l L').getD s .no=L'.getD s .no)
 | [],_,_,_=> .inr ⟨rfl,rfl⟩
 |(t,s0,v)::l,L,L',hl=>by
  simp only[bq]
  rcases uX s l (L:=L.set s0 (.box t v)) (L':=L'.set s0 (.box t v)) (by simpa using hl)with h|⟨h1,h2⟩
  ·exact .inl h
  ·rw[h1,h2,dF,dF,hl]
   by_cases e:s=s0∧s0<L'.length
   ·left;rw[if_pos e,if_pos e]
   ·right;rw[if_neg e,if_neg e];exact⟨rfl,rfl⟩
theorem qd (E:Env) (ts:List Nat) (rp:List (Nat×Nat)):(E.bQ ts rp).s.length=E.s.length:=by
 unfold Env.bQ
 split
 ·unfold Env.kill;split<;>simp
 ·simp
theorem zZ (E:Env) (ts:List Nat) (rp:List (Nat×Nat)) (s:Nat):(E.bQ ts rp).s.getD s .no=(E.kill ts).s.getD s .no∨
 ∃b b' e i o p τ,E.s.getD s .no= .ept b e i o p τ∧rp.lookup b=some b'∧(E.bQ ts rp).s.getD s .no= .ept b' e i o p τ:=by
 unfold Env.bQ
 split
 ·exact .inl rfl
 ·have h0:SV.bQ ts rp .no= .no:=by simp only[SV.bQ];split<;>rfl
  simp only[getD_map h0]
  have h1:(E.kill ts).s.getD s .no=if ts.isEmpty then E.s.getD s .no else(E.s.getD s .no).kill ts:=by
   unfold Env.kill
   split
   ·rfl
   ·exact getD_map (T:=SV.kill ts) rfl s
  rw[h1]
  cases hs:E.s.getD s .no with
  |ept b e i o p τ=>
   cases hl:rp.lookup b with
   |none=>left;simp only[SV.bQ,hl]
   |some b'=>right;exact⟨b,b',e,i,o,p,τ,rfl,hl,by simp only[SV.bQ,hl]⟩
  |_=>left;simp only[SV.bQ]
theorem Inv.Vh {E2:Env} (hI:Inv w0 c0 U E a w G) (hl:E2.s.length=E.s.length) (hk:E2.kp=E.kp)
 (h:∀s,E2.s.getD s .no=E.s.getD s .no∨(bI w G (E2.s.getD s .no) (a.tmps.getD s undef)∧aX U G (E2.s.getD s .no)∧∀t v,E2.s.getD s .no≠ .box t v)):Inv w0 c0 U E2 a w G:=by
 refine {hI with len:=hI.len.trans hl.symm,slots:=fun s=> ?_,sc:=fun s=> ?_,bt:=fun s=> ?_,rt:=fun s=> ?_,uni:=fun s s' t u u' h1 h2=> ?_,hk:=by rw[hk];exact hI.hk}
 ·rcases h s with h|h
  ·rw[h];exact hI.slots s
  ·exact h.1
 ·rcases h s with h|h
  ·rw[h];exact hI.sc s
  ·exact h.2.1.1
 ·rcases h s with h|h
  ·rw[h];exact hI.bt s
  ·exact h.2.1.2.1
 ·rcases h s with h|h
  ·rw[h];exact hI.rt s
  ·exact h.2.1.2.2
 ·rcases h s with h3|h3
  ·rcases h s' with h4|h4
   ·rw[h3]at h1;rw[h4]at h2;exact hI.uni s s' t u u' h1 h2
   ·exact absurd h2 (h4.2.2 t u')
  ·exact absurd h1 (h3.2.2 t u)
theorem Pm (E:Env) (ts:List Nat):(E.kill ts).kp=E.kp:=by unfold Env.kill;split<;>rfl
theorem SQ (E:Env) (ts:List Nat) (rp:List (Nat×Nat)):(E.bQ ts rp).kp=E.kp:=by
 unfold Env.bQ;split
 ·exact Pm E ts
 ·rfl
theorem Inv.rep {c0':C0} {w0':World} {U':Nat→Prop} {w':World} {G2:Gh} {ts:List Nat} {rp:List (Nat×Nat)} {IO:List (Nat×Nat×TV)}
 (hI:Inv w0 c0 U' {E.kill ts with s:=bq IO (E.kill ts).s} a w' G2) (h0:Inv w0' c0' U E a w G)
 (hrp:∀u u',(u,u')∈rp→G2.hdr u'=G.hdr u∧3≤u'∧Good U' G2 u'):
 Inv w0 c0 U' {E.bQ ts rp with s:=bq IO (E.bQ ts rp).s} a w' G2:=by
 have hl:(E.bQ ts rp).s.length=(E.kill ts).s.length:=by rw[qd];unfold Env.kill;split<;>simp
 refine hI.Vh (by show(bq IO (E.bQ ts rp).s).length=(bq IO (E.kill ts).s).length;rw[iN,iN,hl]) (by show(E.bQ ts rp).kp=(E.kill ts).kp;rw[Pm,SQ]) (fun s=> ?_)
 show(bq IO (E.bQ ts rp).s).getD s .no=(bq IO (E.kill ts).s).getD s .no∨_
 rcases uX s IO hl with h|⟨h1,h2⟩
 ·exact .inl h
 ·rcases zZ E ts rp s with h|⟨b,b',e,i,o,p,τ,h3,h4,h5⟩
  ·left;rw[h1,h2,h]
  ·right
   show bI w' G2 ((bq IO (E.bQ ts rp).s).getD s .no) _∧aX U' G2 ((bq IO (E.bQ ts rp).s).getD s .no)∧∀t v,(bq IO (E.bQ ts rp).s).getD s .no≠ .box t v
   rw[h1,h5]
   have hs:=h0.slots s
   rw[h3]at hs
   obtain⟨bk,off,n,cap,k1,k2,k3,k4,k5⟩:=hs
   obtain⟨g1,g2,g3⟩:=hrp b b' (eE h4)
   exact⟨⟨bk,off,n,cap,g2,g1.trans k2,k3,k4,k5⟩,⟨by simp[SV.sc],by simp[SV.bt],by simp only[SV.rt,List.mem_singleton];rintro c rfl;exact g3⟩,by simp⟩
end
end Vg
namespace Vg
open Go
def Enters (P:Program) (r:Result Next) (R:Value→World→Prop):Prop:=
 match r with
 | .ok (.enter f args) w1=>Calls P f args w1 (fun e w'=>∃v,e= .returned v∧R v w')
 | .ok (.value v) w1=>R v w1
 |_=>False
theorem Enters.mono {P:Program} {r:Result Next} {R R':Value→World→Prop} (h:Enters P r R) (hR:∀v w,R v w→R' v w):Enters P r R':=by
 unfold Enters at*
 split
 ·rename_i f args w1
  exact Calls.mono h (fun e w' ⟨v,h1,h2⟩=>⟨v,h1,hR v w' h2⟩)
 ·exact hR _ _ h
 ·rename_i h1 h2
  split at h
  ·exact h1 _ _ _ rfl
  ·exact h2 _ _ rfl
  ·exact h
structure lx (P:Program) (C:Cx):Prop extends CxTy P C where
 ct:∀f con,C.ct f=some con→oq P f con
 mixed:P.follows .mixedOrders=true
section
variable {P:Program} {C:Cx} {w0:World} {c0:C0} {U:Nat→Prop} {E:Env} {a:Act} {w:World} {G:Gh} {ops:List Oper} {g:Option (Nat×Bool)}
theorem O8 (hI:Inv w0 c0 U E a w G) (hR:RI ops E a.tmps) (hg:Gd ops a.tmps g):∀ {xs:List Operand} {ts:List TypeId} {as:List SV},kA C E.rd g xs ts=some as→
 as.length=xs.length∧∀i,bI w G (as.getD i .no) ((xs.map a.eval).getD i undef)∧aX U G (as.getD i .no)
 | [],[],as,h=>by
   simp only[kA,Option.some.injEq]at h
   subst h
   exact⟨rfl,fun i=>⟨trivial,by simp[aX,SV.sc,SV.bt,SV.rt]⟩⟩
 |x::xs,t::ts,as,h=>by
  simp only[kA]at h
  split at h
  ·rename_i v vs h1 h2
   cases h
   obtain⟨g1,g2⟩:=O8 hI hR hg h2
   refine⟨by simp[g1],fun i=> ?_⟩
   cases i with
   |zero=>simpa using en hI hR hg h1
   |succ i=>simpa using g2 i
  ·cases h
 | [],_::_,_,h|_::_,[],_,h=>by simp[kA]at h
def Pj (P:Program) (w0:World) (c0:C0) (U:Nat→Prop) (E:Env) (a:Act) (r:Result Next):Ef→Prop
 | .val v=>Yields w0 c0 U E a r v
 | .chk c v=>c=true→Yields w0 c0 U E a r v
 | .put b s v=>∃w' G',r= .ok .skip w'∧Inv w0 c0 U {E with s:=E.s.set s (.box b v)} a w' G'
 | .app c kl gv t v=>c=true→Yields w0 c0 U ((E.kill kl).aS gv t) a r v
 | .elem gv b e l m=>∃w' G',r= .ok .skip w'∧Inv w0 c0 U (E.elem gv b e l m) a w' G'
 | .opt _ _ x f=>∀y,x=some y→Enters P r (fun mv w'=>∃G',Inv w0 c0 U E a w' G'∧bI w' G' (f y) mv∧aX U G' (f y)∧(∀t u,f y= .box t u→∀s u',E.s.getD s .no≠ .box t u'))
 | .call _ x tks f rp=>∀y,x=some y→Enters P r (fun mv w'=>∃G',Inv w0 c0 U {E.bQ tks (rp y)with s:=bq (f y).2 (E.bQ tks (rp y)).s} a w' G'∧bI w' G' (f y).1 mv∧aX U G' (f y).1∧
  (∀t u,(f y).1= .box t u→∀s u',(bq (f y).2 (E.bQ tks (rp y)).s).getD s .no≠ .box t u'))
theorem Pj.R1 {r:Result Next} {ef:Ef} (h:ib w0 c0 U E a r ef):Pj P w0 c0 U E a r ef:=by
 cases ef<;>first|exact h|exact h.elim
theorem zR (hs:List Nat):∀(ps:List PK) (r:aT (bh ps)) (k:Nat),cm hs ps r [] k=[]
 | [],_,_=>rfl
 | .val _ _::ps,r,k=>zR hs ps r k
 | .io _ _::_,_,_=>rfl
 | .rd _::ps,r,k| .vx _ _::ps,r,k=>zR hs ps r k
theorem Tm (hC:lx P C) (hI:Inv w0 c0 U E a w G) (hR:RI ops E a.tmps) (hg:Gd ops a.tmps g) {tk:Nat} (h3:3≤tk) (hU:∀u,tk≤u→u<tk+32→¬U u) {o:Oper} {c:Call} {f:FuncId} {ef:Ef}
 (ho:o.op= .call c) (hb:c.callee= .value (.func f)) (h:bm C ops E.rd tk g o=some ef):
 Pj P w0 c0 (fun u=>U u∨(tk≤u∧u<tk+32)) E a ((execOp a.eval o).run P w) ef:=by
 have hrun:(execOp a.eval o).run P w=(callFunc f (c.args.toList.map a.eval).toArray).run P w:=by
  have e:(c.args.toList.map a.eval).toArray=c.args.map a.eval:=Array.ext' (by simp)
  rw[e]
  simp only[execOp,ho]
  simp[resolve,hb,Deferred.ofValue,Act.eval,invoke]
 simp only[bm,ho,hb]at h
 unfold AN at h
 split at h
 ·cases h
 ·rename_i con hct
  have hM:=hC.ct f con hct
  split at h
  ·cases h
  ·rename_i as has
   obtain⟨hlen,hargs⟩:=O8 hI hR hg has
   split at h
   ·cases h
   ·rename_i xs rho bs hga
    split at h
    ·rename_i hcond
     simp only[Bool.and_eq_true,decide_eq_true_eq]at hcond
     obtain⟨⟨hr,h32⟩,hcon⟩:=hcond
     obtain⟨G1,hlot,hG1⟩:=UH hI hga hargs (by simp[hlen]) hr (fun c hc=>by
      simp only[Mo,Bool.and_eq_true,List.all_eq_true,decide_eq_true_eq,Bool.not_eq_true',List.contains_eq_mem,decide_eq_false_iff_not]at hcon
      have:=hcon.1 c hc
      exact⟨this.1.1,this.1.2,this.2⟩)
     have key:∀y,con.F xs=some y→Enters P ((execOp a.eval o).run P w) (fun mv w'=>∃G2,
      Inv w0 c0 (fun u=>U u∨(tk≤u∧u<tk+32)) {E.kill (((rho.filter (3≤·.2)).map (·.1)).filter fun c=> !bs.any (·.1=c))with
       s:=bq (cm (2::(rho.filter (·.2=1)).map (·.1)).eraseDups con.ps (aV con.rs (bh con.ps) y tk (2::(rho.filter (·.2=1)).map (·.1)).eraseDups).2.1 bs (aV con.rs (bh con.ps) y tk (2::(rho.filter (·.2=1)).map (·.1)).eraseDups).2.2) (E.kill (((rho.filter (3≤·.2)).map (·.1)).filter fun c=> !bs.any (·.1=c))).s} a w' G2∧
      bI w' G2 (jC (aV con.rs (bh con.ps) y tk (2::(rho.filter (·.2=1)).map (·.1)).eraseDups).1) mv∧aX (fun u=>U u∨(tk≤u∧u<tk+32)) G2 (jC (aV con.rs (bh con.ps) y tk (2::(rho.filter (·.2=1)).map (·.1)).eraseDups).1)∧
      (∀t u,jC (aV con.rs (bh con.ps) y tk (2::(rho.filter (·.2=1)).map (·.1)).eraseDups).1= .box t u→∀s u',
       (bq (cm (2::(rho.filter (·.2=1)).map (·.1)).eraseDups con.ps (aV con.rs (bh con.ps) y tk (2::(rho.filter (·.2=1)).map (·.1)).eraseDups).2.1 bs (aV con.rs (bh con.ps) y tk (2::(rho.filter (·.2=1)).map (·.1)).eraseDups).2.2) (E.kill (((rho.filter (3≤·.2)).map (·.1)).filter fun c=> !bs.any (·.1=c))).s).getD s .no≠ .box t u')∧
      (∀u u',(u,u')∈uT E.rd bs (cm (2::(rho.filter (·.2=1)).map (·.1)).eraseDups con.ps (aV con.rs (bh con.ps) y tk (2::(rho.filter (·.2=1)).map (·.1)).eraseDups).2.1 bs (aV con.rs (bh con.ps) y tk (2::(rho.filter (·.2=1)).map (·.1)).eraseDups).2.2) con.kp→
       G2.hdr u'=G.hdr u∧3≤u'∧Good (fun u=>U u∨(tk≤u∧u<tk+32)) G2 u')∧
      (∀t s v,(t,s,v)∈cm (2::(rho.filter (·.2=1)).map (·.1)).eraseDups con.ps (aV con.rs (bh con.ps) y tk (2::(rho.filter (·.2=1)).map (·.1)).eraseDups).2.1 bs (aV con.rs (bh con.ps) y tk (2::(rho.filter (·.2=1)).map (·.1)).eraseDups).2.2→∃v0,E.s.getD s .no= .box t v0)):=by
      intro y hy
      rw[hrun]
      have:=hM w G1 (c.args.toList.map a.eval) xs y hy hlot
      exact Enters.mono (show Enters P _ _ from this) (fun mv w' ⟨G',vs,nt,hp⟩=>Uf hI hcon hga hargs hr hG1 hp h3 hU h32 rfl rfl)
     simp only at h
     split at h
     ·rename_i hemp
      cases h
      simp only[Bool.and_eq_true,List.isEmpty_iff]at hemp
      obtain⟨e1,e2⟩:=hemp
      intro y hy
      refine(key y hy).mono (fun mv w' hh=> ?_)
      obtain⟨G2,k1,k2,k3,k4,_⟩:=hh
      rw[e2]at k1 k4
      subst e1
      simp only[zR,bq,Env.kill,List.isEmpty_nil,if_true]at k1 k4
      exact⟨G2,k1,k2,k3,k4⟩
     ·cases h
      intro y hy
      refine(key y hy).mono (fun mv w' hh=> ?_)
      obtain⟨G2,k1,k2,k3,k4,k5,k6⟩:=hh
      refine⟨G2,k1.rep hI k5,k2,k3,fun t u he s u' he2=> ?_⟩
      have hl:(E.bQ (((rho.filter (3≤·.2)).map (·.1)).filter fun c=> !bs.any (·.1=c)) (uT E.rd bs (cm (2::(rho.filter (·.2=1)).map (·.1)).eraseDups con.ps (aV con.rs (bh con.ps) y tk (2::(rho.filter (·.2=1)).map (·.1)).eraseDups).2.1 bs (aV con.rs (bh con.ps) y tk (2::(rho.filter (·.2=1)).map (·.1)).eraseDups).2.2) con.kp)).s.length=(E.kill (((rho.filter (3≤·.2)).map (·.1)).filter fun c=> !bs.any (·.1=c))).s.length:=by
       rw[qd];unfold Env.kill;split<;>simp
      rcases uX s (cm (2::(rho.filter (·.2=1)).map (·.1)).eraseDups con.ps (aV con.rs (bh con.ps) y tk (2::(rho.filter (·.2=1)).map (·.1)).eraseDups).2.1 bs (aV con.rs (bh con.ps) y tk (2::(rho.filter (·.2=1)).map (·.1)).eraseDups).2.2) hl with h|⟨h1,h2⟩
      ·exact k4 t u he s u' (h.symm.trans he2)
      ·rcases zZ E (((rho.filter (3≤·.2)).map (·.1)).filter fun c=> !bs.any (·.1=c)) (uT E.rd bs (cm (2::(rho.filter (·.2=1)).map (·.1)).eraseDups con.ps (aV con.rs (bh con.ps) y tk (2::(rho.filter (·.2=1)).map (·.1)).eraseDups).2.1 bs (aV con.rs (bh con.ps) y tk (2::(rho.filter (·.2=1)).map (·.1)).eraseDups).2.2) con.kp) s with h|⟨b,b',e,i,o,p,τ,h3,h4,h5⟩
       ·exact k4 t u he s u' (h2.trans (h.symm.trans (h1.symm.trans he2)))
       ·have:=h5.symm.trans (h1.symm.trans he2)
        cases this
    ·cases h
theorem Ir (hC:lx P C) (hI:Inv w0 c0 U E a w G) (hR:RI ops E a.tmps) (hg:Gd ops a.tmps g) {tk:Nat} (h3:3≤tk) (hU:∀u,tk≤u→u<tk+32→¬U u) {o:Oper} {ef:Ef}
 (h:bm C ops E.rd tk g o=some ef):Pj P w0 c0 (fun u=>U u∨(tk≤u∧u<tk+32)) E a ((execOp a.eval o).run P w) ef:=by
 have hC':=hC.toCxTy
 have m0:ib w0 c0 U E a ((execOp a.eval o).run P w) ef→Pj P w0 c0 (fun u=>U u∨(tk≤u∧u<tk+32)) E a ((execOp a.eval o).run P w) ef:=fun h=> .R1 (h.mono fun u hu=> .inl hu)
 have m1:ib w0 c0 (fun u=>U u∨u=tk) E a ((execOp a.eval o).run P w) ef→Pj P w0 c0 (fun u=>U u∨(tk≤u∧u<tk+32)) E a ((execOp a.eval o).run P w) ef:=
  fun h=> .R1 (h.mono fun u hu=>hu.imp id fun e=>by omega)
 have hU0:=hU tk (Nat.le_refl _) (by omega)
 cases ho:o.op with
 |move x=>
  have h':=h
  simp only[bm,ho,Option.map_eq_some_iff]at h'
  obtain⟨sv,hs,rfl⟩:=h'
  exact m0 (Pz hI hR hg hs (by simp[execOp,ho]))
 |assign x=>
  have h':=h
  simp only[bm,ho,Option.map_eq_some_iff]at h'
  obtain⟨sv,hs,rfl⟩:=h'
  exact m0 (Pz hI hR hg hs (by simp[execOp,ho]))
 |pick c x y=>exact m0 (TD hI hR hg ho h)
 |alloc t=>exact m1 (SD hC' hI h3 hU0 ho h)
 |box t x=>exact m1 (UC hI hR hg h3 hU0 ho h)
 |build t ps=>exact m0 (Ug hC' hI hR hg ho h)
 |buildSlice t n ps=>exact m1 (LU hC' hI hR hg h3 hU0 ho h)
 |load t x=>exact m0 (Tz hC' hI hR hg ho h)
 |nilCheck x=>exact m0 (Ox hI hR hg ho h)
 |binOp op t x y u=>exact m0 (T4 hC' hI hR hg ho h)
 |unOp op t x=>exact m0 (UR hI hR hg ho h)
 |convert s d x=>exact m0 (Tp hC' hI hR hg ho h)
 |makeSlice t n c=>exact m1 (NQ hC' hI hR hg h3 hU0 ho h)
 |slice t x lo hi mx=>exact m0 (Sn hC' hI hR hg ho h)
 |fieldAddr s x j=>exact m0 (NT hC' hI hR hg ho h)
 |field s x j=>exact m0 (SS hC' hI hR hg ho h)
 |indexAddr t x n=>exact m0 (MR hC' hI hR hg ho h)
 |index t x n=>exact m0 (SM hC' hI hR hg ho h)
 |extract x j=>exact m0 (P1 hI hR hg ho h)
 |store t x y=>
  have key:∀e,bm C ops E.rd tk g o=some e→(∃b s v,e= .put b s v)∨∃gv b e' l m,e= .elem gv b e' l m:=by
   intro e he
   simp only[bm,ho]at he
   split at he
   ·split at he
    ·obtain⟨r,_,rfl⟩:=Option.map_eq_some_iff.mp (Option.ite_none_right_eq_some.mp he).2
     exact .inl ⟨_,_,_,rfl⟩
    ·cases he
   ·split at he
    ·obtain⟨_,he⟩:=Option.ite_none_right_eq_some.mp he
     obtain⟨_,he⟩:=Option.ite_none_left_eq_some.mp he
     obtain⟨r,_,rfl⟩:=Option.map_eq_some_iff.mp he
     exact .inr ⟨_,_,_,_,_,rfl⟩
    ·cases he
   ·cases he
  rcases key _ h with⟨b,s,v,rfl⟩|⟨gv,b,e',l,m,rfl⟩
  ·obtain⟨w',h1,h2⟩:=UA hC' hI hR hg ho h
   exact⟨w',G,h1,h2.mono fun u hu=> .inl hu⟩
  ·obtain⟨w',G',h1,h2⟩:=TF hC' hI hR hg ho h
   exact⟨w',G',h1,h2.mono fun u hu=> .inl hu⟩
 |call c=>
  cases hb:c.callee with
  |builtin b=>
   by_cases happ:∃cd kl gv t v,ef= .app cd kl gv t v
   ·obtain⟨cd,kl,gv,t,v,rfl⟩:=happ
    have hba:b= .append:=by
     have h':=h
     simp only[bm,ho,hb]at h'
     unfold kY at h'
     split at h'
     ·exfalso
      split at h'
      ·cases h'
      ·split at h'
       ·split at h'<;>cases h'
       ·split at h'<;>cases h'
       ·cases h'
     ·exfalso
      split at h'
      ·split at h'<;>cases h'
      ·cases h'
     ·exfalso
      split at h'
      ·split at h'<;>cases h'
      ·cases h'
     ·rfl
     ·cases h'
    subst hba
    intro hcd
    obtain⟨rfl,hy⟩:=Ud hC' hI hR hg h3 hU0 ho hb h hcd
    exact hy.mono fun u hu=>hu.imp id fun e=>by omega
   ·exact m0 (Um hC' hI hR hg ho hb (fun x y z u v e=>happ ⟨x,y,z,u,v,e⟩) h)
  |value x=>
   cases x with
   |func f=>exact Tm hC hI hR hg h3 hU ho hb h
   |_=>simp[bm,ho,hb]at h
  |invoke r m=>simp[bm,ho,hb]at h
 |_=>simp[bm,ho]at h
end
end Vg
namespace Vg
open Go
section
variable {P:Program} {C:Cx} {w0:World} {c0:C0} {U:Nat→Prop} {E:Env} {a:Act} {w:World} {G:Gh} {ops:List Oper} {g:Option (Nat×Bool)} {L:Nat→Prop}
def jg (ops:List Oper) (L:Nat→Prop) (E:Env) (tmps:Array Value):Prop:=
 ∀s j w act v,E.s.getD s .no= .g j w act v→(act=true↔yielded ops.toArray tmps j=some w)∧L j∧∃o∈ops,∃w',o.guard=some (j,w')
theorem jg.ri {tmps:Array Value} (h:jg ops L E tmps):RI ops E tmps:=fun s j w act v hs=>(h s j w act v hs).1
theorem jg.map {tmps:Array Value} (h:jg ops L E tmps) {E':Env} (hE:∀s j w act v,E'.s.getD s .no= .g j w act v→∃v',E.s.getD s .no= .g j w act v'):jg ops L E' tmps:=by
 intro s j w act v hs
 obtain⟨v',h'⟩:=hE s j w act v hs
 exact h s j w act v' h'
theorem wY {f:M→M} {fe:Nat→Bool} {fr:List Nat→Option (List Nat)} {s:SV} {j:Nat} {w act:Bool} {v:SV} (h:s.mapM f fe fr= .g j w act v):∃v',s= .g j w act v':=by
 cases s with
 |g j' w' act' u=>simp only[SV.mapM,SV.g.injEq]at h;obtain⟨rfl,rfl,rfl,_⟩:=h;exact⟨u,rfl⟩
 |ept t' e i o p τ=>simp only[SV.mapM]at h;split at h<;>cases h
 |rdp hs v=>simp only[SV.mapM]at h;split at h<;>cases h
 |_=>simp[SV.mapM]at h
theorem MX {b:Nat} {e:Ty} {y:List e.den} {m:M} {s:SV} {j:Nat} {w act:Bool} {v:SV} (h:s.setRow b e y m= .g j w act v):∃v',s= .g j w act v':=by
 cases s with
 |g j' w' act' u=>simp only[SV.setRow,SV.g.injEq]at h;obtain⟨rfl,rfl,rfl,_⟩:=h;exact⟨u,rfl⟩
 |rdp hs v=>simp only[SV.setRow]at h;split at h<;>cases h
 |_=>simp[SV.setRow]at h
theorem M9 {ts:List Nat} {s j:Nat} {w act:Bool} {v:SV} (h:(E.kill ts).s.getD s .no= .g j w act v):∃v',E.s.getD s .no= .g j w act v':=by
 rw[Env.xq]at h
 split at h
 ·exact⟨v,h⟩
 ·exact wY h
theorem O6 {ts:List Nat} {rp:List (Nat×Nat)} {s j:Nat} {w act:Bool} {v:SV} (h:(E.bQ ts rp).s.getD s .no= .g j w act v):∃v',E.s.getD s .no= .g j w act v':=by
 rcases zZ E ts rp s with h'|⟨b,b',e,i,o,p,τ,_,_,h'⟩
 ·rw[h']at h;exact M9 h
 ·have:=h'.symm.trans h;cases this
theorem UI {ts:List Nat} {t s j:Nat} {w act:Bool} {v:SV} (h:(E.aS ts t).s.getD s .no= .g j w act v):∃v',E.s.getD s .no= .g j w act v':=by
 unfold Env.aS at h
 split at h
 ·exact⟨v,h⟩
 ·have:=getD_map (L:=E.s) (T:=SV.aS ts t) rfl s
  rw[this]at h
  exact wY h
theorem Uy {gv:List Nat} {b:Nat} {e:Ty} {l:List e.den} {m:M} {s j:Nat} {w act:Bool} {v:SV} (h:(E.elem gv b e l m).s.getD s .no= .g j w act v):∃v',E.s.getD s .no= .g j w act v':=by
 have:=getD_map (L:=E.s) (T:=fun s=>((s.aS gv b).bO b).setRow b e l m) rfl s
 simp only[Env.elem]at h
 rw[this]at h
 obtain⟨v1,h1⟩:=MX h
 obtain⟨v2,h2⟩:=wY h1
 exact wY h2
theorem Fv {l:List (Nat×Nat×TV)} {K:List SV} {s j:Nat} {w act:Bool} {v:SV} (h:(bq l K).getD s .no= .g j w act v):K.getD s .no= .g j w act v:=by
 rcases tu l K s with h'|⟨t,u,_,h'⟩
 ·rw[←h'];exact h
 ·rw[h']at h;cases h
theorem OO {a:Act} {d:Option Nat} {v:Value} {j:Nat} (h:∀x,d=some x→(ops[j]?).bind (·.dst)≠some x):
 yielded ops.toArray (a.put d v).tmps j=yielded ops.toArray a.tmps j:=by
 cases d with
 |none=>rfl
 |some d=>
  unfold yielded
  simp only[List.getElem?_toArray]
  cases hd:(ops[j]?).bind (·.dst)with
  |none=>rfl
  |some s=>
   have hne:d≠s:=fun e=>h d rfl (by rw[hd,e])
   simp[Act.put,Array.getElem?_setIfInBounds_ne hne]
theorem Lt (h:ee ops=true) {o:Oper} (ho:o∈ops) {j:Nat} {w:Bool} (hg:o.guard=some (j,w)) {i:Nat} {o':Oper} (hi:ops[i]?=some o') (hne:i≠j):
 ∀x,o'.dst=some x→(ops[j]?).bind (·.dst)≠some x:=by
 intro x hx
 unfold ee at h
 rw[List.all_eq_true]at h
 obtain⟨k,hk,rfl⟩:=List.mem_iff_getElem.1 ho
 have:=h (ops[k],k) (List.mem_zipIdx_iff_getElem?.2 (List.getElem?_eq_getElem hk))
 simp only[hg,Bool.and_eq_true]at this
 obtain⟨_,this⟩:=this
 split at this
 ·cases this
 ·rename_i d hd
  rw[List.all_eq_true]at this
  have h2:=this (o',i) (List.mem_zipIdx_iff_getElem?.2 hi)
  simp only[Bool.or_eq_true,decide_eq_true_eq,hne,false_or]at h2
  intro e
  rw[hd]at e
  cases e
  exact h2 hx
theorem u6 (h:ee ops=true) {i:Nat} {o:Oper} (hi:ops[i]?=some o) {j:Nat} {w:Bool} (hg:o.guard=some (j,w)):j<i:=by
 unfold ee at h
 rw[List.all_eq_true]at h
 have:=h (o,i) (List.mem_zipIdx_iff_getElem?.2 hi)
 simp only[hg,Bool.and_eq_true,decide_eq_true_eq]at this
 exact this.1
theorem xv (hI:Inv w0 c0 U E a w G) {j:Nat} {w':Bool} {act:Option Bool} (h:guardOf ops E.rd (some (j,w'))=some act):
 ∃b,act=some b∧(b=true↔yielded ops.toArray a.tmps j=some w'):=by
 simp only[guardOf]at h
 split at h
 ·cases h
 ·rename_i s hs
  have hsl:=hI.slots s
  have hget:∀x:Bool,a.tmps.getD s undef= .bool x→yielded ops.toArray a.tmps j=some x:=by
   intro x hx
   unfold yielded
   simp only[List.getElem?_toArray,hs,Option.bind_some]
   rw[Array.getD_eq_getD_getElem?]at hx
   cases hq:a.tmps[s]? with
   |none=>rw[hq]at hx;cases hx
   |some v=>rw[hq]at hx;simp at hx;rw[hx]
  have hnone:a.tmps.getD s undef=undef→yielded ops.toArray a.tmps j=none:=by
   intro hx
   unfold yielded
   simp only[List.getElem?_toArray,hs,Option.bind_some]
   rw[Array.getD_eq_getD_getElem?]at hx
   cases hq:a.tmps[s]? with
   |none=>rfl
   |some v=>rw[hq]at hx;simp at hx;rw[hx];rfl
  have hbool:∀ {x:Bool} {sh:Sh} {mv:Value},bI w G (.d ⟨.bool,x,sh⟩) mv→mv= .bool x:=by
   intro x sh mv hv
   obtain⟨cs,h1,h2⟩:=hv
   cases sh with
   |leaf=>rw[h1,show cs=_ from h2];rfl
   |sl m=>exact h2.elim
   |pair a b=>exact h2.elim
  split at h
  ·rename_i x sh hx
   cases h
   have hv:E.s.getD s .no= .d ⟨.bool,x,sh⟩:=by
    have:cu (E.s.getD s .no)= .d ⟨.bool,x,sh⟩:=hx
    cases hq:E.s.getD s .no with
    |d v=>rw[hq]at this;exact this
    |_=>rw[hq]at this;simp[cu]at this
   rw[hv]at hsl
   refine⟨_,rfl,?_⟩
   rw[hget x (hbool hsl)]
   simp
  ·rename_i j' w'' act' x sh hx
   cases h
   obtain⟨u',hv,hu⟩:=O9 (sv:=E.s.getD s .no) hx
   have hu':u'= .d ⟨.bool,x,sh⟩:=by
    cases u' with
    |d v=>exact hu.symm
    |_=>simp[cu]at hu
   subst hu'
   rw[hv]at hsl
   refine⟨_,rfl,?_⟩
   cases act' with
   |true=>
    rw[hget x (hbool (hsl.1 rfl).2)]
    simp
   |false=>
    rw[hnone (hsl.2 rfl)]
    simp
  ·cases h
theorem xy (v:SV) (o:Option (Nat×Bool)):cY o none v=v.je:=by
 unfold cY;split<;>simp_all
theorem T7 {v:SV} {mv:Value} (hs:bI w G v mv) (hm:aX U G v):bI w G v.je mv∧aX U G v.je:=by
 cases v with
 |g=>exact⟨trivial,by simp[aX,SV.je,SV.sc,SV.bt,SV.rt]⟩
 |_=>exact⟨hs,hm⟩
theorem To {v:SV} {t:Nat} {u:TV} (h:v.je= .box t u):v= .box t u:=by
 cases v with
 |g=>cases h
 |_=>exact h
theorem Tf {v u:SV} {j:Nat} {w act:Bool}:v.je≠ .g j w act u:=by
 cases v<;>simp[SV.je]
theorem PB {v:SV} {mv:Value} {j:Nat} {w':Bool} (hs:bI w G v mv) (hm:aX U G v):bI w G (cY (some (j,w')) (some true) v) mv∧aX U G (cY (some (j,w')) (some true) v)∧∀t u,cY (some (j,w')) (some true) v≠ .box t u:=by
 unfold cY
 cases hb:v.dQ with
 |true=>simp only[hb,if_true];exact⟨trivial,by simp[aX,SV.sc,SV.bt,SV.rt],by simp⟩
 |false=>
  simp only[hb,Bool.false_eq_true,if_false]
  exact⟨⟨fun _=>⟨hb,hs⟩,fun e=>absurd e (by simp)⟩,by simpa[aX,SV.sc,SV.bt,SV.rt]using hm,by simp⟩
theorem Po {v:SV} {j:Nat} {w':Bool}:bI w G (cY (some (j,w')) (some false) v) undef∧aX U G (cY (some (j,w')) (some false) v)∧∀t u,cY (some (j,w')) (some false) v≠ .box t u:=by
 unfold cY
 cases hb:v.dQ with
 |true=>simp only[hb,if_true];exact⟨trivial,by simp[aX,SV.sc,SV.bt,SV.rt],by simp⟩
 |false=>
  simp only[hb,Bool.false_eq_true,if_false]
  exact⟨⟨fun e=>absurd e (by simp),fun _=>rfl⟩,by simp[aX,SV.sc,SV.bt,SV.rt],by simp⟩
end
end Vg
namespace Vg
open Go
section
variable {P:Program} {C:Cx} {w0:World} {c0:C0} {U:Nat→Prop} {E:Env} {a:Act} {w:World} {G:Gh} {ops:List Oper} {L:Nat→Prop} {Q:Exit→Act→World→Prop}
theorem jg.put (h:jg ops L E a.tmps) {i:Nat} {o:Oper} (hi:ops[i]?=some o) (hgo:ee ops=true) (hni:¬L i) (hL:∀j w',o.guard=some (j,w')→L j) {sv:SV} {mv:Value}
 (hg:∀j w' act v,sv= .g j w' act v→(act=true↔yielded ops.toArray a.tmps j=some w')∧o.guard=some (j,w')):
 jg ops (fun j=>L j∨j=i) (E.set o.dst sv) (a.put o.dst mv).tmps:=by
 have hmem:o∈ops:=List.mem_of_getElem? hi
 have keep:∀j,L j→(∃o'∈ops,∃w',o'.guard=some (j,w'))→yielded ops.toArray (a.put o.dst mv).tmps j=yielded ops.toArray a.tmps j:=by
  rintro j hj ⟨o',ho',w',hw'⟩
  exact OO (Lt hgo ho' hw' hi (fun e=>hni (e▸hj)))
 intro s j w' act v hs
 have hcase:E.s.getD s .no= .g j w' act v∨sv= .g j w' act v:=by
  cases hd:o.dst with
  |none=>rw[hd]at hs;exact .inl hs
  |some d=>
   rw[hd]at hs
   simp only[Env.set,dF]at hs
   split at hs
   ·exact .inr hs
   ·exact .inl hs
 rcases hcase with hs|hs
 ·obtain⟨h1,h2,h3⟩:=h s j w' act v hs
  rw[keep j h2 h3]
  exact⟨h1,.inl h2,h3⟩
 ·obtain⟨h1,h2⟩:=hg j w' act v hs
  have h3:∃o'∈ops,∃w',o'.guard=some (j,w'):=⟨o,hmem,w',h2⟩
  rw[keep j (hL j w' h2) h3]
  exact⟨h1,.inl (hL j w' h2),h3⟩
theorem dr {i:Nat} {o:Oper} (ho:ops[i]?=some o) {K:Act→World→Prop} (hw:Region.wanted o (yielded ops.toArray a.tmps)=true) (h:o.wp P a w K Q):wpOp P ops.toArray Q i K a w:=by
 unfold wpOp
 simp only[List.getElem?_toArray,ho,hw,if_true]
 exact .inl h
theorem kS {o:Oper} {K:Act→World→Prop} {R:Value→World→Prop} (h:Enters P ((execOp a.eval o).run P w) R) (hK:∀v w',R v w'→K (a.put o.dst v) w'):o.wp P a w K Q:=by
 unfold Oper.wp
 unfold Enters at h
 split at h
 ·rename_i f args w1 hr
  rw[hr]
  exact Calls.mono h (fun e w' ⟨v,h1,h2⟩=>by subst h1;exact hK v w' h2)
 ·rename_i v w1 hr
  rw[hr]
  exact hK _ _ h
 ·exact h.elim
theorem lu {E':Env} {o:Oper} {K:Act→World→Prop} {sv:SV} (h:Yields w0 c0 U E' a ((execOp a.eval o).run P w) sv)
 (hK:∀v w' G',Inv w0 c0 U E' a w' G'→bI w' G' sv v→aX U G' sv→(∀t u,sv= .box t u→∀s u',E'.s.getD s .no≠ .box t u')→K (a.put o.dst v) w'):o.wp P a w K Q:=by
 obtain⟨mv,w',G',h1,h2,h3,h4,h5⟩:=h
 unfold Oper.wp
 rw[h1]
 exact hK mv w' G' h2 h3 h4 h5
theorem HQ (hC:lx P C) {i:Nat} {o:Oper} (ho:ops[i]?=some o) (hI:Inv w0 c0 U E a w G) (hR:jg ops L E a.tmps) (hL:∀j w',o.guard=some (j,w')→L j) (hni:¬L i) (hgo:ee ops=true)
 {tk:Nat} (h3:3≤tk) (hU:∀u,tk≤u→u<tk+32→¬U u) {act:Option Bool} {ef:Ef} (hga:guardOf ops E.rd o.guard=some act) (hev:bm C ops E.rd tk o.guard o=some ef)
 {E':Env} (hap:aZ o act E some ef=some E') {K:Act→World→Prop}
 (hK:∀a' w' G',Inv w0 c0 (fun u=>U u∨(tk≤u∧u<tk+32)) E' a' w' G'→jg ops (fun j=>L j∨j=i) E' a'.tmps→(∃v,a'=a.put o.dst v)→K a' w'):wpOp P ops.toArray Q i K a w:=by
 have hIm:=hI.mono (U':=fun u=>U u∨(tk≤u∧u<tk+32)) (fun u hu=> .inl hu)
 cases hgd:o.guard with
 |none=>
  rw[hgd]at hga hev
  simp only[guardOf,Option.some.injEq]at hga
  subst hga
  have hwant:Region.wanted o (yielded ops.toArray a.tmps)=true:=by simp[Region.wanted,hgd]
  have hS:=Ir hC hI hR.ri (g:=none) (by rintro j w' ⟨⟩) h3 hU hev
  refine dr ho hwant ?_
  have fin:∀ {E1:Env} {sv:SV} {mv:Value} {w':World} {G':Gh},jg ops L E1 a.tmps→E'=E1.set o.dst sv.je→Inv w0 c0 (fun u=>U u∨(tk≤u∧u<tk+32)) E1 a w' G'→bI w' G' sv mv→
   aX (fun u=>U u∨(tk≤u∧u<tk+32)) G' sv→(∀t u,sv= .box t u→∀s u',E1.s.getD s .no≠ .box t u')→K (a.put o.dst mv) w':=by
   intro E1 sv mv w' G' r1 hE g1 g2 g3 g4
   obtain⟨k1,k2⟩:=T7 g2 g3
   refine hK _ _ G' ?_ ?_ ⟨_,rfl⟩
   ·rw[hE];exact g1.put o.dst k1 k2.1 k2.2.1 k2.2.2 (fun t u e=>g4 t u (To e))
   ·rw[hE];exact r1.put ho hgo hni hL (fun j w' act v e=>absurd e Tf)
  have skip:∀ {E1:Env} {w':World} {G':Gh},jg ops L E1 a.tmps→E'=E1→o.dst=none→Inv w0 c0 (fun u=>U u∨(tk≤u∧u<tk+32)) E1 a w' G'→K (a.put o.dst undef) w':=by
   intro E1 w' G' r1 hE hd g1
   refine hK _ _ G' ?_ ?_ ⟨_,rfl⟩
   ·rw[hE,hd];exact g1
   ·rw[hE,hd]
    intro s j w' act v hs
    obtain⟨q1,q2,q3⟩:=r1 s j w' act v hs
    exact⟨q1,.inl q2,q3⟩
  cases ef with
  |val v=>
   simp only[aZ,Option.some.injEq]at hap
   rw[xy]at hap
   exact lu hS (fun mv w' G' g1 g2 g3 g4=>fin hR hap.symm g1 g2 g3 g4)
  |chk c v=>
   simp only[aZ]at hap
   split at hap
   ·rename_i hc
    simp only[Option.some.injEq]at hap
    rw[xy]at hap
    exact lu (hS hc) (fun mv w' G' g1 g2 g3 g4=>fin hR hap.symm g1 g2 g3 g4)
   ·cases hap
  |opt α z x f=>
   simp only[aZ,Option.bind_eq_some_iff,Option.some.injEq]at hap
   obtain⟨y,hy,hap⟩:=hap
   rw[xy]at hap
   exact kS (hS y hy) (fun mv w' ⟨G',g1,g2,g3,g4⟩=>fin hR hap.symm g1 g2 g3 g4)
  |put b s v=>
   simp only[aZ]at hap
   split at hap
   ·rename_i hc
    simp only[Option.some.injEq]at hap
    simp only[Option.isNone_none,Bool.true_and,Option.isNone_iff_eq_none]at hc
    obtain⟨w',G',h1,h2⟩:=hS
    unfold Oper.wp
    rw[h1]
    refine skip (E1:={E with s:=E.s.set s (.box b v)}) (hR.map (fun s' j w' act u h=> ?_)) hap.symm hc h2
    simp only[dF]at h
    split at h
    ·cases h
    ·exact⟨u,h⟩
   ·cases hap
  |app c kl gv t v=>
   simp only[aZ,Option.isNone_none,if_true]at hap
   split at hap
   ·rename_i hc
    simp only[Option.some.injEq]at hap
    exact lu (hS hc) (fun mv w' G' g1 g2 g3 g4=>fin (hR.map (fun s j w' act u h=>by
     obtain⟨v1,h1⟩:=UI h
     exact M9 h1)) hap.symm g1 g2 g3 g4)
   ·cases hap
  |elem gv b e l m=>
   simp only[aZ]at hap
   split at hap
   ·rename_i hc
    simp only[Option.some.injEq]at hap
    simp only[Option.isNone_none,Bool.true_and,Option.isNone_iff_eq_none]at hc
    obtain⟨w',G',h1,h2⟩:=hS
    unfold Oper.wp
    rw[h1]
    exact skip (hR.map (fun s j w' act u h=>Uy h)) hap.symm hc h2
   ·cases hap
  |call α x tks f rp=>
   simp only[aZ,Option.isNone_none,if_true,Option.bind_eq_some_iff,Option.some.injEq]at hap
   obtain⟨y,hy,hap⟩:=hap
   exact kS (hS y hy) (fun mv w' ⟨G',g1,g2,g3,g4⟩=>fin (E1:={E.bQ tks (rp y)with s:=bq (f y).2 (E.bQ tks (rp y)).s}) (hR.map (fun s j w' act u h=>O6 (Fv h))) hap.symm g1 g2 g3 g4)
 |some p=>
  obtain⟨j,w'⟩:=p
  rw[hgd]at hga hev
  obtain⟨b,rfl,hb⟩:=xv hI hga
  have hj:=hL j w' hgd
  cases b with
  |true=>
   have hy:=hb.1 rfl
   have hwant:Region.wanted o (yielded ops.toArray a.tmps)=true:=by simp[Region.wanted,hgd,hy]
   have hS:=Ir hC hI hR.ri (g:=some (j,w')) (by rintro j1 w1 ⟨⟩;exact hy) h3 hU hev
   refine dr ho hwant ?_
   have fin:∀ {sv:SV} {mv:Value} {w1:World} {G':Gh},E'=E.set o.dst (cY (some (j,w')) (some true) sv)→Inv w0 c0 (fun u=>U u∨(tk≤u∧u<tk+32)) E a w1 G'→bI w1 G' sv mv→
    aX (fun u=>U u∨(tk≤u∧u<tk+32)) G' sv→K (a.put o.dst mv) w1:=by
    intro sv mv w1 G' hE g1 g2 g3
    obtain⟨k1,k2,k3⟩:=PB (j:=j) (w':=w') g2 g3
    refine hK _ _ G' ?_ ?_ ⟨_,rfl⟩
    ·rw[hE];exact g1.put o.dst k1 k2.1 k2.2.1 k2.2.2 (fun t u e=>absurd e (k3 t u))
    ·rw[hE]
     refine hR.put ho hgo hni hL (fun j1 w1 act v e=> ?_)
     unfold cY at e
     simp only at e
     split at e
     ·cases e
     ·simp only[SV.g.injEq]at e
      obtain⟨rfl,rfl,rfl,_⟩:=e
      exact⟨⟨fun _=>hy,fun _=>rfl⟩,hgd⟩
   cases ef with
   |val v=>
    simp only[aZ,Option.some.injEq]at hap
    rw[hgd]at hap
    exact lu hS (fun mv w' G' g1 g2 g3 _=>fin hap.symm g1 g2 g3)
   |chk c v=>
    simp only[aZ]at hap
    split at hap
    ·rename_i hc
     simp only[Option.some.injEq]at hap
     rw[hgd]at hap
     exact lu (hS (by simpa using hc)) (fun mv w' G' g1 g2 g3 _=>fin hap.symm g1 g2 g3)
    ·cases hap
   |opt α z x f=>
    simp only[aZ,if_true,Option.bind_eq_some_iff,Option.some.injEq]at hap
    obtain⟨y,hy,hap⟩:=hap
    rw[hgd]at hap
    exact kS (hS y hy) (fun mv w' ⟨G',g1,g2,g3,g4⟩=>fin hap.symm g1 g2 g3)
   |put b s v=>simp[aZ]at hap
   |app c kl gv t v=>simp[aZ]at hap
   |elem gv b e l m=>simp[aZ]at hap
   |call α x tks f rp=>simp[aZ]at hap
  |false=>
   have hy:yielded ops.toArray a.tmps j≠some w':=fun h=>by have:=hb.2 h;cases this
   have hwant:Region.wanted o (yielded ops.toArray a.tmps)=false:=by
    simp only[Region.wanted,hgd]
    simpa using hy
   have fin:∀ {sv:SV},E'=E.set o.dst (cY (some (j,w')) (some false) sv)→K (a.put o.dst undef) w:=by
    intro sv hE
    obtain⟨k1,k2,k3⟩:=Po (w:=w) (G:=G) (U:=fun u=>U u∨(tk≤u∧u<tk+32)) (v:=sv) (j:=j) (w':=w')
    refine hK _ _ G ?_ ?_ ⟨_,rfl⟩
    ·rw[hE];exact hIm.put o.dst k1 k2.1 k2.2.1 k2.2.2 (fun t u e=>absurd e (k3 t u))
    ·rw[hE]
     refine hR.put ho hgo hni hL (fun j1 w1 act v e=> ?_)
     unfold cY at e
     simp only at e
     split at e
     ·cases e
     ·simp only[SV.g.injEq]at e
      obtain⟨rfl,rfl,rfl,_⟩:=e
      exact⟨⟨fun h=>absurd h (by simp),fun h=>absurd h hy⟩,hgd⟩
   unfold wpOp
   simp only[List.getElem?_toArray,ho,hwant,Bool.false_eq_true,if_false]
   cases ef with
   |val v=>
    simp only[aZ,Option.some.injEq]at hap
    rw[hgd]at hap
    exact fin hap.symm
   |chk c v=>
    simp only[aZ]at hap
    split at hap
    ·simp only[Option.some.injEq]at hap
     rw[hgd]at hap
     exact fin hap.symm
    ·cases hap
   |opt α z x f=>
    simp only[aZ,Option.bind_eq_some_iff,Option.some.injEq]at hap
    obtain⟨y,hy,hap⟩:=hap
    rw[hgd]at hap
    exact fin hap.symm
   |put b s v=>simp[aZ]at hap
   |app c kl gv t v=>simp[aZ]at hap
   |elem gv b e l m=>simp[aZ]at hap
   |call α x tks f rp=>simp[aZ]at hap
def EV (C:Cx) (ops:List Oper) (nt i:Nat) (o:Oper) (E:Env):Option Env:=
 match guardOf ops E.rd o.guard with
 |none=>none
 |some a=>match bm C ops E.rd (nt+32*i) o.guard o with
  |none=>none
  |some ef=>aZ o a E some ef
theorem AH {ρ:Type} (o:Oper) (a:Option Bool) (E:Env) (k:Env→Option ρ) (ef:Ef):aZ o a E k ef=(aZ o a E some ef).bind k:=by
 cases ef with
 |val v=>rfl
 |chk c v=>simp only[aZ];split<;>split<;>rfl
 |opt α z x f=>simp only[aZ,Option.bind_assoc];rfl
 |put b s v=>simp only[aZ];split<;>rfl
 |app c kl gv t v=>simp only[aZ];split<;>(try split)<;>rfl
 |elem gv b e l m=>simp only[aZ];split<;>rfl
 |call α x tks f rp=>simp only[aZ];split
                     ·simp only[Option.bind_assoc];rfl
                     ·rfl
theorem P2 {ρ:Type} (C:Cx) (ops:List Oper) (nt:Nat) (o:Oper) (l:List Oper) (i:Nat) (E:Env) (k:Env→Option ρ):
 ur C ops nt (o::l) i E k=(EV C ops nt i o E).bind fun E'=>ur C ops nt l (i+1) E' k:=by
 simp only[ur,EV]
 cases guardOf ops E.rd o.guard with
 |none=>rfl
 |some a=>cases bm C ops E.rd (nt+32*i) o.guard o with
  |none=>rfl
  |some ef=>exact AH ..
end
end Vg
namespace Vg
open Go
theorem aT.PA:∀(a b:List Ty) (x:aT a) (y:aT b),aT.fst a b (aT.app a b x y)=x
 | [],_,_,_=>rfl
 |_::a,b,x,y=>by
  show(x.1,aT.fst a b (aT.app a b x.2 y))=x
  rw[aT.PA a b x.2 y];rfl
theorem aT.Pu:∀(a b:List Ty) (x:aT a) (y:aT b),aT.snd a b (aT.app a b x y)=y
 | [],_,_,_=>rfl
 |_::a,b,x,y=>aT.Pu a b x.2 y
theorem fG {r:Ren} {nt:Nat} (h:tv r nt=true) {t c:Nat} (hl:r.lookup t=some c):3≤c∧c<nt∧r.find? (·.2=c)=some (t,c):=by
 have hm:=eE hl
 simp only[tv,List.all_eq_true,Bool.and_eq_true,decide_eq_true_eq,beq_iff_eq]at h
 obtain⟨⟨h1,h2⟩,h3⟩:=h (t,c) hm
 exact⟨h1,h2,h3⟩
theorem O7 {r:Ren} {t c:Nat} (h3:3≤t) (h:r.lookup t=some c):mi r t=c:=by
 unfold mi
 rw[if_neg (by omega),h];rfl
def kQ (G:Gh) (r:Ren) (bs:List Nat):Gh:=
 ⟨fun b=>mi r (G.col b),fun c=>match r.find? (·.2=c)with|some p=>if 1000000000≤p.1 then .slice none 0 0 else G.hdr p.1|none=>undef,fun c=>bs.contains c⟩
section
variable {P:Program} {C:Cx} {w0:World} {c0:C0} {U:Nat→Prop} {E:Env} {a:Act} {w:World} {G:Gh} {ops:List Oper} {L:Nat→Prop} {Q:Exit→Act→World→Prop}
theorem xA {r:Ren} {nt:Nat} (hr:tv r nt=true) {bs:List Nat} {t c:Nat} (hl:r.lookup t=some c) (ht:t<1000000000):(kQ G r bs).hdr c=G.hdr t:=by
 obtain⟨_,_,h⟩:=fG hr hl
 simp only[kQ,h]
 rw[if_neg (by omega)]
theorem Tx {r:Ren} {nt:Nat} (hr:tv r nt=true) {bs:List Nat} {e:Ty} {l:List e.den} {v:Value} {m m':M} (h:bW w G e l v m) (ho:EM r m m'=true) (hn:∀c∈m.aD,c<1000000000):
 bW w (kQ G r bs) e l v m':=by
 cases m' with
 |dead=>exact h.one
 |row c hc nd'=>
  cases m with
  |row t hs nd=>
   simp only[EM,Bool.and_eq_true,Bool.or_eq_true,Bool.not_eq_true',List.all_eq_true,List.contains_eq_mem,decide_eq_true_eq]at ho
   obtain⟨⟨hl,hnd⟩,hhs⟩:=ho
   obtain⟨h3,hh,B,hB,hcc⟩:=h
   obtain⟨g1,g2,g3⟩:=fG hr hl
   refine⟨g1,(xA hr hl (hn t (by simp[M.aD]))).trans hh,B,hB,fun b Bs hb=> ?_⟩
   obtain⟨k1,k2,k3,k4⟩:=hcc b Bs hb
   refine⟨by simp only[kQ,k1];exact O7 h3 hl,k2,fun x hx=>hhs _ (k3 x hx),fun hn'=> ?_⟩
   subst hn'
   rcases hnd with h|h
   ·cases h
   ·exact k4 h
  |sha hs=>
   cases hs with
   |nil=>
    simp only[EM,decide_eq_true_eq]at ho
    obtain⟨g1,g2,g3⟩:=fG hr ho
    obtain⟨⟨B,hB,hcc⟩,hnil⟩:=h
    have hB0:B=[]:=by
     cases B with
     |nil=>rfl
     |cons x l=>exact absurd (hcc x (by simp)) (by simp)
    subst hB0
    have hv:v= .slice none 0 0:=hnil rfl
    refine⟨g1,?_,[],hB,by simp⟩
    simp only[kQ,g3]
    rw[if_pos (by simp[MZ]),hv]
   |cons x l=>simp[EM]at ho
  |dead=>simp[EM]at ho
 |sha hc=>
  cases m with
  |row t hs nd=>
   simp only[EM,List.all_eq_true,List.contains_eq_mem,decide_eq_true_eq]at ho
   obtain⟨B,hB,hcc⟩:=h.rep (by simp)
   refine⟨⟨B,hB,fun b hb=>ho _ (hcc b hb)⟩,fun e=> ?_⟩
   have:=ho t (by simp)
   rw[e]at this;simp at this
  |sha hs=>
   simp only[EM,List.all_eq_true,List.contains_eq_mem,decide_eq_true_eq]at ho
   obtain⟨⟨B,hB,hcc⟩,hnil⟩:=h
   refine⟨⟨B,hB,fun b hb=>ho _ (hcc b hb)⟩,fun e=> ?_⟩
   cases hs with
   |nil=>exact hnil rfl
   |cons x l=>have:=ho x (by simp);rw[e]at this;simp at this
  |dead=>simp[EM]at ho
theorem aW.cut {r:Ren} {nt:Nat} (hr:tv r nt=true) {bs:List Nat}:∀ {τ:Ty} {x:τ.den} {sh sh':Sh} {cs:List Value},aW w G τ x sh cs→El r sh sh'=true→(∀c∈sh.aD,c<1000000000)→
 aW w (kQ G r bs) τ x sh' cs
 | .int _,_,.leaf,.leaf,_,h,_,_| .bool,_,.leaf,.leaf,_,h,_,_| .str,_,.leaf,.leaf,_,h,_,_=>h
 | .sl e,l,.sl m,.sl m',cs,h,ho,hn=>by
   obtain⟨v,rfl,h⟩:=h
   exact⟨v,rfl,Tx hr h ho hn⟩
 | .pair a b,p,.pair s1 s2,.pair s1' s2',cs,h,ho,hn=>by
   obtain⟨c1,c2,rfl,h1,h2⟩:=h
   simp only[El,Bool.and_eq_true]at ho
   exact⟨c1,c2,rfl,aW.cut hr h1 ho.1 (fun c h=>hn c (by simp[Sh.aD,h])),aW.cut hr h2 ho.2 (fun c h=>hn c (by simp[Sh.aD,h]))⟩
 |_,_,.leaf,.sl _,_,_,ho,_|_,_,.leaf,.pair _ _,_,_,ho,_|_,_,.sl _,.leaf,_,_,ho,_|_,_,.sl _,.pair _ _,_,_,ho,_|_,_,.pair _ _,.leaf,_,_,ho,_|_,_,.pair _ _,.sl _,_,_,ho,_=>by simp[El]at ho
 | .sl _,_,.leaf,.leaf,_,h,_,_| .pair _ _,_,.leaf,.leaf,_,h,_,_| .int _,_,.sl _,.sl _,_,h,_,_| .bool,_,.sl _,.sl _,_,h,_,_| .str,_,.sl _,.sl _,_,h,_,_| .pair _ _,_,.sl _,.sl _,_,h,_,_
 | .int _,_,.pair _ _,.pair _ _,_,h,_,_| .bool,_,.pair _ _,.pair _ _,_,h,_,_| .str,_,.pair _ _,.pair _ _,_,h,_,_| .sl _,_,.pair _ _,.pair _ _,_,h,_,_=>h.elim
theorem Ru (hI:Inv w0 c0 U E a w G) (hU:∀u,U u→u<1000000000) {r:Ren} {nt:Nat} (hr:tv r nt=true) {bs:List Nat} {s:Nat} {k:AK} {x:aT k.FZ} (h:wR E r s k=some x):
 bI w (kQ G r bs) (oO k x) (a.tmps.getD s undef)∧(∀c v,oO k x= .box c v→∃t u,E.s.getD s .no= .box t u∧r.lookup t=some c):=by
 have hs:=hI.slots s
 have hm:=hI.kV s
 cases k with
 |val τ sh=>
  simp only[wR,Env.get]at h
  split at h
  ·rename_i v hv
   split at h
   ·rename_i ho
    split at h
    ·rename_i y hc
     cases h
     rw[hv]at hs hm
     obtain⟨cs,h1,h2⟩:=hs
     have e:=cK hc
     rw[e]at h1 h2 ho hm
     refine⟨⟨cs,h1,aW.cut hr h2 ho (fun c hc=>hU c (hm.1 c hc).2.1)⟩,?_⟩
     rintro c u ⟨⟩
    ·cases h
   ·cases h
  ·cases h
 |box c τ sh=>
  simp only[wR,Env.get]at h
  split at h
  ·rename_i t v hv
   split at h
   ·rename_i ho
    simp only[Bool.and_eq_true,decide_eq_true_eq]at ho
    split at h
    ·rename_i y hc
     cases h
     rw[hv]at hs hm
     obtain⟨bk,cl,el,h1,h2,h3,h4,h5,h6⟩:=hs
     have e:=cK hc
     rw[e]at h6 ho hm
     obtain⟨g1,g2,g3⟩:=fG hr ho.2
     refine⟨⟨bk,cl,el,h1,g1,(xA hr ho.2 (hU t (hm.2.1 t (by simp[SV.bt])).2.1)).trans h3,?_,h5,aW.cut hr h6 ho.1 (fun c hc=>hU c (hm.1 c hc).2.1)⟩,?_⟩
     ·simp only[kQ,h4];exact O7 h2 ho.2
     ·rintro c' u ⟨⟩
      exact⟨t,v,hv,ho.2⟩
    ·cases h
   ·cases h
  ·cases h
 |ptr c o p τ=>
  simp only[wR,Env.get]at h
  split at h
  ·rename_i t o' p' τ' hv
   split at h
   ·rename_i ho
    simp only[Bool.and_eq_true,decide_eq_true_eq]at ho
    obtain⟨⟨⟨ho,rfl⟩,_⟩,_⟩:=ho
    rw[hv]at hs hm
    obtain⟨bk,h1,h2,h3⟩:=hs
    obtain⟨g1,g2,g3⟩:=fG hr ho
    refine⟨⟨bk,g1,(xA hr ho (hU t (hm.2.1 t (by simp[SV.bt])).2.1)).trans h2,h3⟩,?_⟩
    rintro c' u ⟨⟩
   ·cases h
  ·cases h
 |ept c e o p τ=>
  simp only[wR,Env.get]at h
  split at h
  ·rename_i t e' i o' p' τ' hv
   split at h
   ·rename_i ho
    simp only[Bool.and_eq_true,decide_eq_true_eq]at ho
    obtain⟨⟨⟨⟨ho,rfl⟩,rfl⟩,_⟩,_⟩:=ho
    cases h
    rw[hv]at hs hm
    obtain⟨b,off,n,cap,h1,h2,h3,h4,h5⟩:=hs
    obtain⟨g1,g2,g3⟩:=fG hr ho
    refine⟨⟨b,off,n,cap,g1,(xA hr ho (hU t (hm.2.2 t (by simp[SV.rt])).2.1)).trans h2,h3,h4,h5⟩,?_⟩
    rintro c' u ⟨⟩
   ·cases h
  ·cases h
theorem R6 {k:AK} {x:aT k.FZ} {G':Gh} {U':Nat→Prop} (hs:∀c∈k.sc,0<c∧U' c∧G'.bx c=false) (hb:∀c∈k.bt,0<c∧U' c∧G'.bx c=true):aX U' G' (oO k x):=by
 cases k with
 |val τ sh=>exact⟨hs,by simp[oO,SV.bt],by simp[oO,SV.rt]⟩
 |box c τ sh=>exact⟨hs,hb,by simp[oO,SV.rt]⟩
 |ptr c o p τ=>exact⟨by simp[oO,SV.sc],hb,by simp[oO,SV.rt]⟩
 |ept c e o p τ=>exact⟨by simp[oO,SV.sc],by simp[oO,SV.bt],hs⟩
theorem Uq {k:AK} {x:aT k.FZ} {j:Nat} {w act:Bool} {v:SV}:oO k x≠ .g j w act v:=by
 cases k<;>simp[oO]
def qf (L:List SV):Prop:=∀s j w act v,L.getD s .no≠ .g j w act v
theorem Hc (hI:Inv w0 c0 U E a w G) (hU:∀u,U u→u<1000000000) {r:Ren} {nt:Nat} (hr:tv r nt=true) {bs:List Nat} {U':Nat→Prop}:
 ∀ {l:List (Nat×AK)} {t:aT (jK l)} {K:List SV},AX E r l=some t→(∀c∈l.flatMap (fun p=>p.2.sc),0<c∧U' c∧(kQ G r bs).bx c=false)→(∀c∈l.flatMap (fun p=>p.2.bt),0<c∧U' c∧(kQ G r bs).bx c=true)→
 (∀s,bI w (kQ G r bs) (K.getD s .no) (a.tmps.getD s undef)∧aX U' (kQ G r bs) (K.getD s .no))→(∀s c v,K.getD s .no= .box c v→∃t u,E.s.getD s .no= .box t u∧r.lookup t=some c)→qf K→
 (kj l t K).length=K.length∧(∀s,bI w (kQ G r bs) ((kj l t K).getD s .no) (a.tmps.getD s undef)∧aX U' (kQ G r bs) ((kj l t K).getD s .no))∧
  (∀s c v,(kj l t K).getD s .no= .box c v→∃t u,E.s.getD s .no= .box t u∧r.lookup t=some c)∧qf (kj l t K)
 | [],t,K,_,_,_,h1,h2,h3=>⟨rfl,h1,h2,h3⟩
 |(s,k)::l,t,K,h,hs,hb,h1,h2,h3=>by
  simp only[AX]at h
  split at h
  ·rename_i x y hx hy
   cases h
   obtain⟨g1,g2⟩:=Ru (bs:=bs) hI hU hr hx
   simp only[List.flatMap_cons,List.mem_append]at hs hb
   simp only[kj]
   rw[aT.PA,aT.Pu]
   obtain⟨q1,q2⟩:=Hc hI hU hr (K:=K.set s (oO k x)) hy (fun c hc=>hs c (.inr hc)) (fun c hc=>hb c (.inr hc)) (fun s'=>by
    rw[dF]
    split
    ·rename_i e
     rw[e.1]
     exact⟨g1,R6 (fun c hc=>hs c (.inl hc)) (fun c hc=>hb c (.inl hc))⟩
    ·exact h1 s') (fun s' c v he=>by
    rw[dF]at he
    split at he
    ·rename_i e
     rw[e.1];exact g2 c v he
    ·exact h2 s' c v he) (fun s' j w act v he=>by
    rw[dF]at he
    split at he
    ·exact Uq he
    ·exact h3 s' j w act v he)
   exact⟨by rw[q1];simp,q2⟩
  ·cases h
theorem rM (hI:Inv w0 c0 (fun u=>u<E.nt) E a w G) {n:aL} {N:Nat} (hN:E.s.length=N) {t:aT (jK n.ks)} (h:proj n E=some t):
 ∃G',Inv w0 c0 (fun u=>u<(dB N n t).nt) (dB N n t) a w G'∧qf (dB N n t).s∧(dB N n t).s.length=N∧3≤(dB N n t).nt:=by
 unfold proj at h
 split at h
 ·rename_i r hb
  split at h
  ·rename_i hc
   simp only[Bool.and_eq_true,decide_eq_true_eq]at hc
   obtain⟨⟨hnt,hann⟩,hr⟩:=hc
   simp only[Tc,Bool.and_eq_true,List.all_eq_true,decide_eq_true_eq,Bool.not_eq_true',List.contains_eq_mem,decide_eq_false_iff_not]at hann
   obtain⟨⟨⟨ha1,ha2⟩,ha3⟩,_⟩:=hann
   have hrep:∀s,(List.replicate N SV.no).getD s .no= .no:=by
    intro s
    rw[List.getD_eq_getElem?_getD,List.getElem?_replicate]
    split<;>rfl
   obtain⟨q1,q2,q3,q4⟩:=Hc (bs:=n.ks.flatMap fun(p:Nat×AK)=>p.2.bt) (U':=fun u=>u<n.nt) (K:=List.replicate N .no) hI (fun u hu=>by omega) hr h
    (fun c hc=>⟨(ha3 c hc).1.1,(ha3 c hc).1.2,by simpa[kQ]using(ha3 c hc).2⟩)
    (fun c hc=>⟨(ha2 c hc).1.1,(ha2 c hc).1.2,by simpa[kQ]using hc⟩)
    (fun s=>by rw[hrep];exact⟨trivial,by simp[aX,SV.sc,SV.bt,SV.rt]⟩) (fun s c v he=>by rw[hrep]at he;cases he) (fun s j w act v he=>by rw[hrep]at he;cases he)
   have hcol:∀b,(mi r (G.col b)=G.col b∧G.col b≤2)∨(3≤G.col b∧mi r (G.col b)=2)∨(3≤G.col b∧3≤mi r (G.col b)∧mi r (G.col b)<n.nt):=by
    intro b
    unfold mi
    split
    ·rename_i h;exact .inl ⟨rfl,h⟩
    ·rename_i h
     cases hl:r.lookup (G.col b)with
     |none=>right;left;exact⟨by omega,rfl⟩
     |some k=>
      obtain⟨k1,k2,_⟩:=fG hr hl
      right;right;exact⟨by omega,k1,k2⟩
   refine⟨kQ G r (n.ks.flatMap fun(p:Nat×AK)=>p.2.bt),⟨?_,fun s=>(q2 s).1,fun s=>(q2 s).2.1,fun s=>(q2 s).2.2.1,fun s=>(q2 s).2.2.2,?_,fun b hb=> ?_,fun b hb=> ?_,fun b hb=> ?_,fun b hb hc=> ?_,fun b hb=> ?_,hI.size,hI.os,hI.tape,hI.output,hI.defers,?_,fun hk=>by cases hk⟩,q4,by
    show(kj n.ks t (List.replicate N .no)).length=N
    rw[q1];simp,ha1⟩
   ·show a.tmps.size=(kj n.ks t (List.replicate N .no)).length
    rw[q1,hI.len,hN];simp
   ·intro s s' c v v' h1 h2
    obtain⟨t1,u1,e1,l1⟩:=q3 s c v h1
    obtain⟨t2,u2,e2,l2⟩:=q3 s' c v' h2
    have f1:=(fG hr l1).2.2
    have f2:=(fG hr l2).2.2
    rw[f1]at f2
    simp only[Option.some.injEq,Prod.mk.injEq,and_true]at f2
    subst f2
    exact hI.uni s s' t1 u1 u2 e1 e2
   ·have:mi r (G.col b)<n.nt:=by rcases hcol b with h|h|h<;>omega
    exact this
   ·have hb':0<mi r (G.col b):=hb
    refine hI.lt b ?_
    rcases hcol b with h|h|h<;>omega
   ·have hb':3≤mi r (G.col b):=hb
    refine hI.fresh b ?_
    rcases hcol b with h|h|h<;>omega
   ·have hf:=hI.frame b hb hc
    refine⟨?_,hf.2⟩
    show mi r (G.col b)=c0.col b
    rcases hcol b with h|h|h<;>omega
   ·have hb':mi r (G.col b)=1:=hb
    refine hI.one b ?_
    rcases hcol b with h|h|h<;>omega
   ·refine⟨by show 2<n.nt;omega,?_⟩
    show List.contains _ 2=false
    simp only[List.contains_eq_mem,decide_eq_false_iff_not]
    intro h2
    have:=(ha2 2 h2).2
    simp at this
  ·cases h
 ·cases h
end
theorem dR (E:Env) (d:Option Nat) (v:SV):(E.set d v).s.length=E.s.length:=by cases d<;>simp[Env.set]
theorem Nw (E:Env) (d:Option Nat) (v:SV):(E.set d v).nt=E.nt:=by cases d<;>rfl
theorem Ni (E:Env) (ts:List Nat):(E.kill ts).s.length=E.s.length:=by unfold Env.kill;split<;>simp
theorem Nu (E:Env) (ts:List Nat) (t:Nat):(E.aS ts t).s.length=E.s.length:=by unfold Env.aS;split<;>simp
end Vg
namespace Vg
open Go
structure qD (o:Oper) (R R':Rd):Prop where
 get:∀s∈tmpsOf o,R'.get s=R.get s
 box:dp o=true→∀s∈tmpsOf o,∀b off p τ,(R.get s).strip= .ptr b off p τ→R'.box b=R.box b
 row:dp o=true→∀s∈tmpsOf o,∀b e i off p τ,(R.get s).strip= .ept b e i off p τ→R'.row b e=R.row b e
section
variable {C:Cx} {R R':Rd} {o:Oper} {ops:List Oper} {tk:Nat} {g:Option (Nat×Bool)}
theorem xm {s:Nat} (h:Operand.tmp s∈o.op.operands.toList):s∈tmpsOf o:=by
 unfold tmpsOf
 exact List.mem_filterMap.2 ⟨.tmp s,h,rfl⟩
theorem KD (h:qD o R R') {t:TypeId} {x:Operand} (hx:x∈o.op.operands.toList):eY C R' t x=eY C R t x:=by
 cases x with
 |tmp s=>simp only[eY];rw[h.get s (xm hx)]
 |_=>rfl
theorem D3 (h:qD o R R') {t:TypeId} {x:Operand} (hx:x∈o.op.operands.toList):arg C R' g t x=arg C R g t x:=by
 simp only[arg,KD h hx]
theorem fK (h:qD o R R') {t:TypeId} {x:Operand} (hx:x∈o.op.operands.toList):cJ C R' g t x=cJ C R g t x:=by
 simp only[cJ,D3 h hx]
theorem Kl {t:TypeId} {x:Operand} {sv:SV} (h:arg C R g t x=some sv) (hp:(∃b off p τ,sv= .ptr b off p τ)∨∃b e i off p τ,sv= .ept b e i off p τ):
 ∃s,x= .tmp s∧(R.get s).strip=sv:=by
 simp only[arg,Option.bind_eq_some_iff]at h
 obtain⟨s0,h1,h2⟩:=h
 cases x with
 |tmp s=>
  simp only[eY,Option.some.injEq]at h1
  refine⟨s,rfl,?_⟩
  rw[h1]
  cases s0 with
  |g j w a v=>simp only[Cv]at h2;split at h2<;>simp_all[SV.strip]
  |_=>simp only[Cv,Option.some.injEq]at h2;subst h2;rfl
 |const v=>
  exfalso
  simp only[eY]at h1
  split at h1
  ·rw[Option.map_eq_some_iff]at h1
   obtain⟨r,_,rfl⟩:=h1
   simp only[Cv,Option.some.injEq]at h2
   subst h2
   rcases hp with⟨_,_,_,_,h⟩|⟨_,_,_,_,_,_,h⟩<;>cases h
  ·cases h1
 |global x=>simp[eY]at h1
 |func x=>simp[eY]at h1
theorem DV (h:qD o R R') (hd:dp o=true) {t:TypeId} {x:Operand} (hx:x∈o.op.operands.toList) {b off:Nat} {p:List Bool} {τ:Ty} (ha:arg C R g t x=some (.ptr b off p τ)):R'.box b=R.box b:=by
 obtain⟨s,rfl,hs⟩:=Kl ha (.inl ⟨_,_,_,_,rfl⟩)
 exact h.box hd s (xm hx) b off p τ hs
theorem NN (h:qD o R R') (hd:dp o=true) {t:TypeId} {x:Operand} (hx:x∈o.op.operands.toList) {b off:Nat} {e:Ty} {i:Int} {p:List Bool} {τ:Ty} (ha:arg C R g t x=some (.ept b e i off p τ)):R'.row b e=R.row b e:=by
 obtain⟨s,rfl,hs⟩:=Kl ha (.inr ⟨_,_,_,_,_,_,rfl⟩)
 exact h.row hd s (xm hx) b e i off p τ hs
theorem Ax (h:qD o R R') {i:TI}:∀ {l:List (Nat×Operand)} {x:i.τ.den} {sh:Sh},(∀p∈l,p.2∈o.op.operands.toList)→nN C R' g i l x sh=nN C R g i l x sh
 | [],_,_,_=>rfl
 |(j,y)::l,x,sh,hl=>by
  simp only[nN,fK h (hl (j,y) (by simp))]
  cases i.fs[j]? with
  |none=>rfl
  |some ft=>
   simp only
   cases cJ C R g ft y with
   |none=>rfl
   |some v=>
    simp only
    cases dU i.τ x sh (dv i.fs.length j) v with
    |none=>rfl
    |some r=>exact Ax h (fun p hp=>hl p (by simp[hp]))
theorem B9 (h:qD o R R') {el:TypeId} {e:Ty}:∀ {l:List (Nat×Operand)} {n:Nat},(∀p∈l,p.2∈o.op.operands.toList)→qB C R' g el e n l=qB C R g el e n l
 | [],_,_=>rfl
 |(j,y)::l,n,hl=>by
  simp only[qB,fK h (hl (j,y) (by simp)),B9 h (l:=l) (n:=n+1) (fun p hp=>hl p (by simp[hp]))]
theorem KP (h:qD o R R'):∀ {l:List Operand} {ts:List TypeId},(∀p∈l,p∈o.op.operands.toList)→kA C R' g l ts=kA C R g l ts
 | [],[],_=>rfl
 | [],_::_,_=>rfl
 |_::_,[],_=>rfl
 |y::l,t::ts,hl=>by
  simp only[kA,D3 h (hl y (by simp)),KP h (l:=l) (ts:=ts) (fun p hp=>hl p (by simp[hp]))]
theorem OE {ps:List PK}:∀ {as:List SV} {k:Nat} {r0:List (Nat×Nat)},(∀sv∈as,∀b off p τ,sv= .ptr b off p τ→R'.box b=R.box b)→bn R' ps as k r0=bn R ps as k r0:=by
 induction ps with
 |nil=>intro as k r0 _;cases as<;>rfl
 |cons p ps ih=>
  intro as k r0 hb
  cases as with
  |nil=>cases p<;>rfl
  |cons a as=>
   have ih':=fun k r0=>ih (as:=as) (k:=k) (r0:=r0) (fun sv hsv=>hb sv (by simp[hsv]))
   cases p with
   |val τ q=>cases a<;>simp only[bn,ih']
   |io τ q=>
    have hbo:lz R' a=lz R a:=by
     unfold lz
     split
     ·rename_i t τ';rw[hb _ (by simp) t 0 [] τ' rfl]
     ·rfl
    simp only[bn,hbo,ih']
   |rd τ=>
    have hbo:lz R' a=lz R a:=by
     unfold lz
     split
     ·rename_i t τ';rw[hb _ (by simp) t 0 [] τ' rfl]
     ·rfl
    simp only[bn,hbo,ih']
   |vx e l=>cases a<;>simp only[bn,ih']
theorem Q5 {ps:List PK}:∀ {as:List SV} {k:Nat} {r0:List (Nat×Nat)} {xs:aT (ps.map PK.ty)} {rho bs:List (Nat×Nat)},bn R ps as k r0=some (xs,rho,bs)→
 ∀b∈bs,∃τ,SV.ptr b.1 0 [] τ∈as:=by
 induction ps with
 |nil=>
  intro as k r0 xs rho bs h b hb
  cases as with
  |nil=>simp only[bn,Option.some.injEq]at h;cases h;cases hb
  |cons _ _=>simp[bn]at h
 |cons p ps ih=>
  intro as k r0 xs rho bs h b hb
  cases as with
  |nil=>cases p<;>simp[bn]at h
  |cons a as=>
   cases p with
   |val τ q=>
    cases a<;>simp only[bn]at h<;>try cases h
    split at h
    ·rename_i hg
     split at h
     ·simp only[Option.some.injEq,Prod.mk.injEq]at h
      obtain⟨_,_,rfl⟩:=h
      obtain⟨τ,h⟩:=ih hg b hb
      exact⟨τ,List.mem_cons_of_mem _ h⟩
     ·cases h
    ·cases h
   |vx e l=>
    cases a<;>simp only[bn]at h<;>try cases h
    split at h
    ·rename_i hg
     split at h
     ·simp only[Option.some.injEq,Prod.mk.injEq]at h
      obtain⟨_,_,rfl⟩:=h
      obtain⟨τ,h⟩:=ih hg b hb
      exact⟨τ,List.mem_cons_of_mem _ h⟩
     ·cases h
    ·cases h
   |rd τ=>
    simp only[bn]at h
    split at h
    ·split at h
     ·rename_i hg
      split at h
      ·simp only[Option.some.injEq,Prod.mk.injEq]at h
       obtain⟨_,_,rfl⟩:=h
       obtain⟨τ,h⟩:=ih hg b hb
       exact⟨τ,List.mem_cons_of_mem _ h⟩
      ·cases h
     ·cases h
    ·cases h
   |io τ q=>
    simp only[bn]at h
    split at h
    ·rename_i t s v hbo
     split at h
     ·rename_i hg
      split at h
      ·simp only[Option.some.injEq,Prod.mk.injEq]at h
       obtain⟨_,_,rfl⟩:=h
       rcases List.mem_cons.1 hb with rfl|hb
       ·unfold lz at hbo
        split at hbo
        ·rename_i t' τ'
         rw[Option.map_eq_some_iff]at hbo
         obtain⟨r,_,hbo⟩:=hbo
         simp only[Prod.mk.injEq]at hbo
         obtain⟨rfl,_,_⟩:=hbo
         exact⟨τ',by simp⟩
        ·cases hbo
       ·obtain⟨τ,h⟩:=ih hg b hb
        exact⟨τ,List.mem_cons_of_mem _ h⟩
      ·cases h
     ·cases h
    ·cases h
end
end Vg
namespace Vg
open Go
section
variable {C:Cx} {R R':Rd} {o:Oper} {ops:List Oper} {tk:Nat} {g:Option (Nat×Bool)}
theorem Jm (h:qD o R R') {b:Builtin} {args:List Operand} {ts:List TypeId} (ha:∀x∈args,x∈o.op.operands.toList):kY C R' tk g b args ts=kY C R tk g b args ts:=by
 unfold kY
 split
 ·rename_i x t
  simp only[fK h (ha x (by simp))]
 ·rename_i x y t u
  simp only[fK h (ha x (by simp)),fK h (ha y (by simp))]
 ·rename_i x y t u
  simp only[fK h (ha x (by simp)),fK h (ha y (by simp))]
 ·rename_i x y t u
  simp only[fK h (ha x (by simp)),fK h (ha y (by simp))]
 ·rfl
theorem O2 (h:qD o R R') (hdr:dp o=true) {f:FuncId} {args:List Operand} {ts:List TypeId} (ha:∀x∈args,x∈o.op.operands.toList):AN C R' tk g f args ts=AN C R tk g f args ts:=by
 unfold AN
 rw[KP h ha]
 cases C.ct f with
 |none=>rfl
 |some c=>
  simp only
  cases has:kA C R g args ts with
  |none=>rfl
  |some as=>
   simp only
   have hall:∀sv∈as,∀b off p τ,sv=SV.ptr b off p τ→R'.box b=R.box b:= ?_
   ·rw[OE (R:=R) (R':=R') hall]
    cases hga:bn R c.ps as 3 []with
    |none=>rfl
    |some z=>
     obtain⟨xs,rho,bs⟩:=z
     have hrp:∀IO,uT R' bs IO c.kp=uT R bs IO c.kp:=by
      intro IO
      unfold uT
      congr 1
      funext q
      cases hb:bs[q.1]? with
      |none=>rfl
      |some b=>
       cases hz:IO[q.1]? with
       |none=>rfl
       |some z=>
        obtain⟨τ,hin⟩:=Q5 hga b (List.mem_of_getElem? hb)
        simp only[hall _ hin b.1 0 [] τ rfl]
     simp only[hrp]
   intro sv hsv b off p τ he
   subst he
   have:∀ {args:List Operand} {ts:List TypeId} {as:List SV},(∀x∈args,x∈o.op.operands.toList)→kA C R g args ts=some as→SV.ptr b off p τ∈as→∃x∈args,∃t,arg C R g t x=some (.ptr b off p τ):=by
    intro args
    induction args with
    |nil=>intro ts as _ h1 h2;cases ts<;>simp[kA]at h1;subst h1;simp at h2
    |cons y l ih=>
     intro ts as hl h1 h2
     cases ts with
     |nil=>simp[kA]at h1
     |cons t ts=>
      simp only[kA]at h1
      split at h1
      ·rename_i v vs e1 e2
       cases h1
       simp only[List.mem_cons]at h2
       rcases h2 with rfl|h2
       ·exact⟨y,by simp,t,e1⟩
       ·obtain⟨x,q1,q2⟩:=ih (fun x hx=>hl x (by simp[hx])) e2 h2
        exact⟨x,by simp[q1],q2⟩
      ·cases h1
   obtain⟨x,q1,t,q2⟩:=this ha has hsv
   exact DV h hdr (ha x q1) q2
theorem Ro (h:qD o R R'):bm C ops R' tk g o=bm C ops R tk g o:=by
 have hm:∀ {x:Operand},x∈o.op.operands.toList→∀ {t:TypeId},arg C R' g t x=arg C R g t x:=fun hx=>D3 h hx
 have hd:∀ {x:Operand},x∈o.op.operands.toList→∀ {t:TypeId},cJ C R' g t x=cJ C R g t x:=fun hx=>fK h hx
 have ho:∀ {x:Operand},x∈o.op.operands.toList→∀ {t:TypeId},eY C R' t x=eY C R t x:=fun hx=>KD h hx
 cases hop:o.op with
 |move x=>rw[hop]at hm;simp only[bm,hop,hm (x:=x) (by simp[Op.operands])]
 |assign x=>rw[hop]at hm;simp only[bm,hop,hm (x:=x) (by simp[Op.operands])]
 |pick c a b=>
  rw[hop]at hm ho
  simp only[bm,hop,hm (x:=c) (by simp[Op.operands]),ho (x:=a) (by simp[Op.operands]),ho (x:=b) (by simp[Op.operands])]
 |alloc t=>simp only[bm,hop]
 |box t x=>rw[hop]at hd;simp only[bm,hop,hd (x:=x) (by simp[Op.operands])]
 |build t ps=>
  simp only[bm,hop]
  cases C.tt t with
  |none=>rfl
  |some i=>simp only[Ax h (l:=ps.toList) (fun p hp=>by rw[hop];simp[Op.operands];exact⟨p.1,by simpa using hp⟩)]
 |buildSlice t n ps=>
  simp only[bm,hop]
  split
  ·rename_i e _ el _
   simp only[B9 h (l:=ps.toList) (fun p hp=>by rw[hop];simp[Op.operands];exact⟨p.1,by simpa using hp⟩)]
  ·rfl
 |load t a=>
  have hx:a∈o.op.operands.toList:=by rw[hop];simp[Op.operands]
  simp only[bm,hop,hm hx]
  cases C.tt t with
  |none=>rfl
  |some ti=>
   simp only
   cases ha:arg C R g 0 a with
   |none=>rfl
   |some sv=>
    cases sv with
    |ptr b off p τ=>simp only[DV h (by simp[dp,hop]) hx ha]
    |ept b e i off p τ=>simp only[NN h (by simp[dp,hop]) hx ha]
    |_=>rfl
 |store t a x=>
  have hx:a∈o.op.operands.toList:=by rw[hop];simp[Op.operands]
  have hy:x∈o.op.operands.toList:=by rw[hop];simp[Op.operands]
  simp only[bm,hop,hm hx,hd hy]
  cases C.tt t with
  |none=>rfl
  |some ti=>
   cases ha:arg C R g 0 a with
   |none=>rfl
   |some sv=>
    cases sv with
    |ptr b off p τ=>
     cases cJ C R g t x with
     |none=>rfl
     |some v=>simp only[DV h (by simp[dp,hop]) hx ha]
    |ept b e i off p τ=>
     cases cJ C R g t x with
     |none=>rfl
     |some v=>simp only[NN h (by simp[dp,hop]) hx ha]
    |_=>rfl
 |nilCheck x=>rw[hop]at hm;simp only[bm,hop,hm (x:=x) (by simp[Op.operands])]
 |binOp op t x y u=>rw[hop]at hd;simp only[bm,hop,hd (x:=x) (by simp[Op.operands]),hd (x:=y) (by simp[Op.operands])]
 |unOp op t x=>rw[hop]at hd;simp only[bm,hop,hd (x:=x) (by simp[Op.operands])]
 |convert s d x=>rw[hop]at hd;simp only[bm,hop,hd (x:=x) (by simp[Op.operands])]
 |makeSlice t n c=>rw[hop]at hd;simp only[bm,hop,hd (x:=n) (by simp[Op.operands]),hd (x:=c) (by simp[Op.operands])]
 |slice t x lo hi mx=>
  rw[hop]at hd
  have e1:∀ {t},cJ C R' g t x=cJ C R g t x:=hd (by simp[Op.operands])
  have e2:lo.map (cJ C R' g 3)=lo.map (cJ C R g 3):=by
   cases lo with
   |none=>rfl
   |some l=>simp only[Option.map_some];rw[hd (by simp[Op.operands])]
  have e3:hi.map (cJ C R' g 3)=hi.map (cJ C R g 3):=by
   cases hi with
   |none=>rfl
   |some l=>simp only[Option.map_some];rw[hd (by simp[Op.operands])]
  simp only[bm,hop,e1,e2,e3]
 |fieldAddr s x j=>rw[hop]at hm;simp only[bm,hop,hm (x:=x) (by simp[Op.operands])]
 |field s x j=>rw[hop]at hd;simp only[bm,hop,hd (x:=x) (by simp[Op.operands])]
 |indexAddr t x n=>rw[hop]at hd;simp only[bm,hop,hd (x:=x) (by simp[Op.operands]),hd (x:=n) (by simp[Op.operands])]
 |index t x n=>rw[hop]at hd;simp only[bm,hop,hd (x:=x) (by simp[Op.operands]),hd (x:=n) (by simp[Op.operands])]
 |extract x j=>rw[hop]at hm;simp only[bm,hop,hm (x:=x) (by simp[Op.operands])]
 |call c=>
  have hc:∀x∈c.args.toList,x∈o.op.operands.toList:=by
   intro x hx
   rw[hop]
   simp only[Op.operands,Call.operands]
   cases c.callee<;>simp_all
  simp only[bm,hop]
  cases hb:c.callee with
  |builtin b=>simp only[Jm h hc]
  |value f=>
   cases f with
   |func f=>simp only[O2 h (by simp[dp,hop]) hc]
   |_=>rfl
  |invoke r m=>rfl
 |_=>simp only[bm,hop]
end
end Vg
namespace Vg
open Go
theorem Og (a b:List (Nat×SV)) (L:List SV):dM (a++b) L=dM b (dM a L):=List.foldl_append ..
theorem Ms (E:Env) (d:Option Nat) (v:SV):(E.set d v).s=dM (wr d v) E.s:=by cases d<;>rfl
theorem yi:∀(l:List (Nat×Nat×TV)) (L:List SV),bq l L=dM (l.map (fun p=>(p.2.1,SV.box p.1 p.2.2))) L
 | [],_=>rfl
 |(_,_,_)::l,_=>yi l _
theorem KG (E:Env) (ts:List Nat):(E.kill ts).s=E.s.map (fm ts):=by
 unfold Env.kill fm
 split
 ·simp
 ·rfl
theorem RR (E:Env) (ts:List Nat) (t:Nat):(E.aS ts t).s=E.s.map (nV ts t):=by
 unfold Env.aS nV
 split
 ·simp
 ·rfl
theorem Px (E:Env) (ts:List Nat):(E.kill ts).nt=E.nt:=by unfold Env.kill;split<;>rfl
theorem TP (E:Env) (ts:List Nat) (t:Nat):(E.aS ts t).nt=E.nt:=by unfold Env.aS;split<;>rfl
theorem Env.ext' {E E':Env} (h:E.s=E'.s) (hn:E.nt=E'.nt) (hk:E.kp=E'.kp:=by rfl):E=E':=by cases E;cases E';simp_all
theorem MV (E:Env) (d:Option Nat) (v:SV):(E.set d v).kp=E.kp:=by cases d<;>rfl
theorem TA (E:Env) (ts:List Nat) (t:Nat):(E.aS ts t).kp=E.kp:=by unfold Env.aS;split<;>rfl
theorem MA (E:Env) (ts:List Nat):(E.kill ts).kp=E.kp:=by unfold Env.kill;split<;>rfl
theorem Rm (E:Env) (ts:List Nat) (rp:List (Nat×Nat)):(E.bQ ts rp).kp=E.kp:=by unfold Env.bQ;split;exact MA E ts;rfl
theorem S5 (E:Env) (ts:List Nat) (rp:List (Nat×Nat)):(E.bQ ts rp).nt=E.nt:=by unfold Env.bQ;split;exact Px E ts;rfl
theorem QW (E:Env) (ts:List Nat) (rp:List (Nat×Nat)):(E.bQ ts rp).s=E.s.map (Tr.ki ts rp).sv:=by
 unfold Env.bQ
 simp only[Tr.sv]
 split
 ·exact KG E ts
 ·rfl
theorem O4 (o:Oper) (a:Option Bool) (E:Env) (ef:Ef):aZ o a E some ef=(ig o a ef).map E.fO:=by
 have hid:∀(d:Option Nat) (v:SV),E.set d v=E.fO (.id,wr d v):=by
  intro d v
  refine Env.ext' ?_ (by rw[Nw];rfl) (by rw[MV];rfl)
  rw[Ms]
  simp[Env.fO,Tr.sv]
 cases ef with
 |val v=>simp only[aZ,ig,Option.map_some,hid]
 |chk c v=>simp only[aZ,ig,hid];split<;>split<;>rfl
 |opt α z x f=>
  simp only[aZ,ig,hid]
  rw[Option.map_bind]
  rfl
 |put b s v=>
  simp only[aZ,ig]
  split
  ·simp[Env.fO,Tr.sv,dM]
  ·rfl
 |app c kl gv t v=>
  simp only[aZ,ig]
  split
  ·split
   ·simp only[Option.map_some,Option.some.injEq]
    refine Env.ext' ?_ (by rw[Nw,TP,Px];rfl) (by rw[MV,TA,MA];rfl)
    rw[Ms,RR,KG]
    simp[Env.fO,Tr.sv,Function.comp_def]
   ·rfl
  ·rfl
 |elem gv b e l m=>
  simp only[aZ,ig]
  split
  ·simp[Env.fO,Tr.sv,dM,Env.elem]
  ·rfl
 |call α x tks f rp=>
  simp only[aZ,ig]
  split
  ·cases x with
   |none=>rfl
   |some r=>
    simp only[Option.bind_some,Option.map_some,Option.some.injEq]
    refine Env.ext' ?_ (by rw[Nw];exact S5 E tks (rp r)) (by rw[MV];exact Rm E tks (rp r))
    rw[Ms]
    simp only[Env.fO,Og,yi,QW]
  ·rfl
end Vg
namespace Vg
open Go
structure HE (X:List Nat) (f:M→M) (fe:Nat→Bool) (fr:List Nat→Option (List Nat)):Prop where
 m:∀m,f m=m∨f m= .dead∨∃x∈X,x∈(f m).aD
 r:∀hs hs',fr hs=some hs'→hs'=hs∨∃x∈X,x∈hs'
section
variable {X:List Nat} {f:M→M} {fe:Nat→Bool} {fr:List Nat→Option (List Nat)}
theorem Sh.im (h:HE X f fe fr):∀ {sh:Sh},(sh.map f).live=true→(∀c∈(sh.map f).aD,c∉X)→sh.map f=sh
 | .leaf,_,_=>rfl
 | .sl m,hl,hc=>by
   rcases h.m m with e|e|⟨x,hx,hin⟩
   ·simp only[Sh.map,e]
   ·simp only[Sh.map,e,Sh.live]at hl;cases hl
   ·exact absurd hx (hc x hin)
 | .pair a b,hl,hc=>by
   simp only[Sh.map,Sh.live,Bool.and_eq_true]at hl
   simp only[Sh.map,Sh.aD,List.mem_append]at hc
   simp only[Sh.map]
   rw[Sh.im h hl.1 (fun c hh=>hc c (.inl hh)),Sh.im h hl.2 (fun c hh=>hc c (.inr hh))]
theorem qw (v:TV) (sh:Sh) (h:sh=v.sh):({v with sh:=sh}:TV)=v:=by subst h;rfl
theorem SV.im (h:HE X f fe fr):∀ {v:SV},(v.mapM f fe fr).clean=true→(∀c∈(v.mapM f fe fr).dA,c∉X)→v.mapM f fe fr=v
 | .no,hl,_=>by simp[SV.mapM,SV.clean]at hl
 | .d v,hl,hc=>by simp only[SV.mapM];rw[qw v _ (Sh.im h hl hc)]
 | .box t v,hl,hc=>by
   simp only[SV.mapM]
   rw[qw v _ (Sh.im h hl (fun c hh=>hc c (by simp[SV.mapM,SV.dA,hh])))]
 | .ptr ..,_,_=>rfl
 | .ept t e i o p τ,hl,hc=>by
   simp only[SV.mapM]at hl⊢
   split
   ·rfl
   ·rename_i hf;rw[if_neg hf]at hl;cases hl
 | .rdp hs v,hl,hc=>by
   simp only[SV.mapM]at hl hc⊢
   cases hr:fr hs with
   |none=>rw[hr]at hl;cases hl
   |some hs'=>
    rw[hr]at hl hc
    simp only at hl hc⊢
    rcases h.r hs hs' hr with e|⟨x,hx,hin⟩
    ·rw[e,qw v _ (Sh.im h hl (fun c hh=>hc c (by simp[SV.dA,hh])))]
    ·exact absurd hx (hc x (by simp[SV.dA,hin]))
 | .tup l,hl,hc=>by
   simp only[SV.mapM]
   congr 1
   have:∀v∈l,({v with sh:=v.sh.map f}:TV)=v:=by
    intro v hv
    simp only[SV.mapM,SV.clean,List.all_map,List.all_eq_true,Function.comp_apply]at hl
    exact qw v _ (Sh.im h (hl v hv) (fun c hh=>hc c (by
     simp only[SV.mapM,SV.dA,List.flatMap_map,List.mem_flatMap]
     exact⟨v,hv,hh⟩)))
   conv=>rhs;rw[←List.map_id l]
   exact List.map_congr_left this
 | .g j w a v,hl,hc=>by
   simp only[SV.mapM]
   rw[SV.im (v:=v) h hl hc]
theorem Sh.stays (hf:∀m:M,(∀c∈m.aD,c∉X)→f m=m):∀ {sh:Sh},(∀c∈sh.aD,c∉X)→sh.map f=sh
 | .leaf,_=>rfl
 | .sl m,hc=>by simp only[Sh.map];rw[hf m hc]
 | .pair a b,hc=>by
   simp only[Sh.aD,List.mem_append]at hc
   simp only[Sh.map]
   rw[Sh.stays hf (fun c hh=>hc c (.inl hh)),Sh.stays hf (fun c hh=>hc c (.inr hh))]
theorem SV.stays (hf:∀m:M,(∀c∈m.aD,c∉X)→f m=m) (he:∀t,t∉X→fe t=true) (hr:∀hs,(∀c∈hs,c∉X)→fr hs=some hs):∀ {v:SV},(∀c∈v.dA,c∉X)→v.mapM f fe fr=v
 | .no,_| .ptr ..,_=>rfl
 | .d v,hc=>by simp only[SV.mapM];rw[qw v _ (Sh.stays hf hc)]
 | .box t v,hc=>by
   simp only[SV.mapM]
   rw[qw v _ (Sh.stays hf (fun c hh=>hc c (by simp[SV.dA,hh])))]
 | .ept t e i o p τ,hc=>by simp only[SV.mapM];rw[if_pos (he t (hc t (by simp[SV.dA])))]
 | .rdp hs v,hc=>by
   simp only[SV.mapM,hr hs (fun c hh=>hc c (by simp[SV.dA,hh]))]
   rw[qw v _ (Sh.stays hf (fun c hh=>hc c (by simp[SV.dA,hh])))]
 | .tup l,hc=>by
   simp only[SV.mapM]
   congr 1
   have:∀v∈l,({v with sh:=v.sh.map f}:TV)=v:=fun v hv=>
    qw v _ (Sh.stays hf (fun c hh=>hc c (by simp only[SV.dA,List.mem_flatMap];exact⟨v,hv,hh⟩)))
   conv=>rhs;rw[←List.map_id l]
   exact List.map_congr_left this
 | .g j w a v,hc=>by simp only[SV.mapM];rw[SV.stays hf he hr (v:=v) hc]
end
end Vg
namespace Vg
open Go
theorem xO {a b:List Nat} (h:∀c∈a,c∉b):meets a b=false:=by
 simp only[meets,List.any_eq_false,List.contains_eq_mem,decide_eq_true_eq]
 exact h
theorem Fa (ts X:List Nat):HE X (M.kill ts) (!ts.contains ·) (fun hs=>if meets hs ts then none else some hs) where
 m m:=by
   unfold M.kill
   split
   ·exact .inr (.inl rfl)
   ·exact .inl rfl
 r hs hs' h:=by
   split at h
   ·cases h
   ·cases h;exact .inl rfl
theorem GV {ts:List Nat} {v:SV} (h:∀c∈v.dA,c∉ts):v.kill ts=v:=
 SV.stays (X:=ts) (fun m hm=>by unfold M.kill;rw[xO hm];rfl) (fun t ht=>by simpa using ht) (fun hs hh=>by simp[xO hh]) h
theorem Hp {a b:List Nat} (h:meets a b=true):∃c,c∈a∧c∈b:=by
 simp only[meets,List.any_eq_true,List.contains_eq_mem,decide_eq_true_eq]at h
 exact h
theorem AU {ts hs:List Nat} {t:Nat} (h:meets hs ts=true):t∈tj ts t hs:=by
 obtain⟨c,h1,h2⟩:=Hp h
 have:=A6 (ts:=ts) (t:=t) h1
 rwa [if_pos h2]at this
theorem Hx {ts X:List Nat} {t:Nat} (hX:t∈X):HE X (M.aS ts t) (!ts.contains ·) (fun hs=>some (if meets hs ts then tj ts t hs else hs)) where
 m m:=by
   unfold M.aS
   split
   ·rename_i hm
    right;right
    refine⟨t,hX,?_⟩
    cases m with
    |row u hs nd=>
     simp only[M.GR]
     split
     ·exact AU hm
     ·rename_i hu
      have:meets hs ts=true:=by
       obtain⟨c,h1,h2⟩:=Hp hm
       simp only[M.aD,List.mem_cons]at h1
       rcases h1 with rfl|h1
       ·simp only[List.contains_eq_mem,decide_eq_true_eq]at hu;exact absurd h2 hu
       ·simp only[meets,List.any_eq_true,List.contains_eq_mem,decide_eq_true_eq];exact⟨c,h1,h2⟩
      simp only[M.aD,List.mem_cons]
      exact .inr (AU this)
    |sha hs=>exact AU hm
    |dead=>simp[M.aD,meets]at hm
   ·exact .inl rfl
 r hs hs' h:=by
   simp only[Option.some.injEq]at h
   subst h
   split
   ·rename_i hm;exact .inr ⟨t,hX,AU hm⟩
   ·exact .inl rfl
theorem HA {ts:List Nat} {t:Nat} {v:SV} (h:∀c∈v.dA,c∉ts):v.aS ts t=v:=
 SV.stays (X:=ts) (fun m hm=>by unfold M.aS;rw[xO hm];rfl) (fun t ht=>by simpa using ht) (fun hs hh=>by simp[xO hh]) h
theorem Lj (b:Nat) (X:List Nat):HE X (M.bO b) (fun _=>true) (fun hs=>if hs.contains b then none else some hs) where
 m m:=by
   cases m with
   |row u hs nd=>
    simp only[M.bO]
    split
    ·exact .inl rfl
    ·split
     ·exact .inr (.inl rfl)
     ·exact .inl rfl
   |sha hs=>
    simp only[M.bO]
    split
    ·exact .inr (.inl rfl)
    ·exact .inl rfl
   |dead=>exact .inl rfl
 r hs hs' h:=by
   split at h
   ·cases h
   ·cases h;exact .inl rfl
theorem LO {b:Nat} {v:SV} (h:∀c∈v.dA,c∉ [b]):v.bO b=v:=
 SV.stays (X:=[b]) (fun m hm=>by
  cases m with
  |row u hs nd=>
   simp only[M.bO]
   split
   ·rfl
   ·rw[if_neg]
    simp only[List.contains_eq_mem,decide_eq_true_eq]
    intro hb
    exact hm b (by simp[M.aD,hb]) (by simp)
  |sha hs=>
   simp only[M.bO]
   rw[if_neg]
   simp only[List.contains_eq_mem,decide_eq_true_eq]
   intro hb
   exact hm b (by simp[M.aD,hb]) (by simp)
  |dead=>rfl) (fun _ _=>rfl) (fun hs hh=>by
  rw[if_neg]
  simp only[List.contains_eq_mem,decide_eq_true_eq]
  intro hb
  exact hh b hb (by simp)) h
theorem uW {b:Nat} {e:Ty} {y:List e.den} {m:M}:∀ {τ:Ty} {x:τ.den} {sh:Sh},b∉sh.aD→fa b e y m τ x sh=(x,sh)
 | .sl e',l,.sl (.row u hs nd),h=>by
   have:u≠b:=fun e=>h (by simp[Sh.aD,M.aD,e])
   simp only[fa,this,if_false]
 | .pair a c,p,.pair s1 s2,h=>by
   simp only[Sh.aD,List.mem_append,not_or]at h
   simp only[fa,uW h.1,uW h.2]
 | .sl _,_,.leaf,_| .sl _,_,.pair _ _,_| .sl _,_,.sl (.sha _),_| .sl _,_,.sl .dead,_
 | .int _,_,.leaf,_| .int _,_,.sl _,_| .int _,_,.pair _ _,_| .bool,_,.leaf,_| .bool,_,.sl _,_| .bool,_,.pair _ _,_
 | .str,_,.leaf,_| .str,_,.sl _,_| .str,_,.pair _ _,_| .pair _ _,_,.leaf,_| .pair _ _,_,.sl _,_=>rfl
theorem uY {b:Nat} {e:Ty} {y:List e.den} {m:M} (hm:b∈m.aD):∀ {τ:Ty} {x:τ.den} {sh:Sh},(fa b e y m τ x sh).2.live=true→b∉(fa b e y m τ x sh).2.aD→fa b e y m τ x sh=(x,sh)
 | .sl e',l,.sl (.row u hs nd),hl,hc=>by
   simp only[fa]at hl hc⊢
   split
   ·rename_i hu
    rw[if_pos hu]at hl hc
    split
    ·rename_i he
     rw[dif_pos he]at hc
     exact absurd hm hc
    ·rename_i he
     rw[dif_neg he]at hl
     cases hl
   ·rfl
 | .pair a c,p,.pair s1 s2,hl,hc=>by
   simp only[fa,Sh.live,Bool.and_eq_true,Sh.aD,List.mem_append,not_or]at hl hc
   simp only[fa,uY hm hl.1 hc.1,uY hm hl.2 hc.2]
 | .sl _,_,.leaf,_,_| .sl _,_,.pair _ _,_,_| .sl _,_,.sl (.sha _),_,_| .sl _,_,.sl .dead,_,_
 | .int _,_,.leaf,_,_| .int _,_,.sl _,_,_| .int _,_,.pair _ _,_,_| .bool,_,.leaf,_,_| .bool,_,.sl _,_,_| .bool,_,.pair _ _,_,_
 | .str,_,.leaf,_,_| .str,_,.sl _,_,_| .str,_,.pair _ _,_,_| .pair _ _,_,.leaf,_,_| .pair _ _,_,.sl _,_,_=>rfl
theorem TV.iu {b:Nat} {e:Ty} {y:List e.den} {m:M} {v:TV} (h:b∉v.sh.aD):v.setRow b e y m=v:=by
 unfold TV.setRow;rw[uW h]
theorem TV.iW {b:Nat} {e:Ty} {y:List e.den} {m:M} (hm:b∈m.aD) {v:TV} (hl:(v.setRow b e y m).sh.live=true) (hc:b∉(v.setRow b e y m).sh.aD):v.setRow b e y m=v:=by
 unfold TV.setRow at hl hc⊢;rw[uY hm hl hc]
theorem iu {b:Nat} {e:Ty} {y:List e.den} {m:M}:∀ {v:SV},b∉v.dA→v.setRow b e y m=v
 | .no,_| .ptr ..,_| .ept ..,_=>rfl
 | .d v,h=>by simp only[SV.setRow];rw[TV.iu h]
 | .box t v,h=>by simp only[SV.setRow];rw[TV.iu (fun hh=>h (by simp[SV.dA,hh]))]
 | .rdp hs v,h=>by
   simp only[SV.setRow]
   rw[if_neg]
   simpa[SV.dA]using h
 | .tup l,h=>by
   simp only[SV.setRow]
   congr 1
   conv=>rhs;rw[←List.map_id l]
   refine List.map_congr_left (fun v hv=>TV.iu (fun hh=>h ?_))
   simp only[SV.dA,List.mem_flatMap];exact⟨v,hv,hh⟩
 | .g j w a v,h=>by simp only[SV.setRow];rw[iu (v:=v) h]
theorem iW {b:Nat} {e:Ty} {y:List e.den} {m:M} (hm:b∈m.aD):∀ {v:SV},(v.setRow b e y m).clean=true→b∉(v.setRow b e y m).dA→v.setRow b e y m=v
 | .no,h,_=>by cases h
 | .ptr ..,_,_| .ept ..,_,_=>rfl
 | .d v,h,hc=>by simp only[SV.setRow];rw[TV.iW hm h hc]
 | .box t v,h,hc=>by simp only[SV.setRow];rw[TV.iW hm h (fun hh=>hc (by simp[SV.setRow,SV.dA,hh]))]
 | .rdp hs v,h,hc=>by
   simp only[SV.setRow]at h⊢
   split
   ·rename_i hh;rw[if_pos hh]at h;cases h
   ·rfl
 | .tup l,h,hc=>by
   simp only[SV.setRow]
   congr 1
   conv=>rhs;rw[←List.map_id l]
   refine List.map_congr_left (fun v hv=> ?_)
   simp only[SV.setRow,SV.clean,List.all_map,List.all_eq_true,Function.comp_apply]at h
   refine TV.iW hm (h v hv) (fun hh=>hc ?_)
   simp only[SV.setRow,SV.dA,List.flatMap_map,List.mem_flatMap]
   exact⟨v,hv,hh⟩
 | .g j w a v,h,hc=>by simp only[SV.setRow];rw[iW hm (v:=v) h hc]
theorem Tr.stays {T:Tr} {v:SV} (h:∀c∈v.dA,c∉T.eS):T.sv v=v:=by
 cases T with
 |id=>rfl
 |kg ks gv t=>
  simp only[Tr.eS,List.mem_cons,List.mem_append,not_or]at h
  simp only[Tr.sv,fm,nV]
  have h1:(if ks.isEmpty=true then v else v.kill ks)=v:=by
   split
   ·rfl
   ·exact GV (fun c hc=>(h c hc).2.1)
  rw[h1]
  split
  ·rfl
  ·exact HA (fun c hc=>(h c hc).2.2)
 |el gv b e l m=>
  simp only[Tr.eS,List.mem_cons,not_or]at h
  simp only[Tr.sv]
  rw[HA (fun c hc=>(h c hc).2),LO (fun c hc=>by simpa using(h c hc).1),iu (fun hc=>(h b hc).1 rfl)]
 |ki ts rp=>
  simp only[Tr.eS,List.mem_append,not_or]at h
  have hk:(if ts.isEmpty=true then v else v.kill ts)=v:=by
   split
   ·rfl
   ·exact GV (fun c hc=>(h c hc).1)
  simp only[Tr.sv,fm]
  split
  ·exact hk
  ·cases v with
   |ept b e i o p τ=>
    simp only[SV.bQ]
    split
    ·rename_i b' hl
     exact absurd (List.mem_map.2 ⟨(b,b'),eE hl,rfl⟩) (h b (by simp[SV.dA])).2.1
    ·exact hk
   |_=>exact hk
theorem Tr.im {T:Tr} (hT:T.ok=true) {v:SV} (hl:(T.sv v).clean=true) (h:∀c∈(T.sv v).dA,c∉T.eS):T.sv v=v:=by
 cases T with
 |id=>rfl
 |kg ks gv t=>
  simp only[Tr.sv,fm,nV]at hl h⊢
  generalize hv1:(if ks.isEmpty=true then v else v.kill ks)=v1 at hl h⊢
  have e1:(if gv.isEmpty=true then v1 else v1.aS gv t)=v1:=by
   split
   ·rfl
   ·rename_i hg
    rw[if_neg hg]at hl h
    exact SV.im (Hx (X:=[t]) (by simp)) hl (fun c hc hx=>h c hc (by simp only[List.mem_singleton]at hx;simp[Tr.eS,hx]))
  rw[e1]at hl h⊢
  rw[←hv1]at hl h⊢
  split
  ·rfl
  ·rename_i hk
   rw[if_neg hk]at hl h
   exact SV.im (Fa ks []) hl (by simp)
 |el gv b e l m=>
  simp only[Tr.ok,List.contains_eq_mem,decide_eq_true_eq]at hT
  simp only[Tr.sv]at hl h⊢
  have e1:=iW hT hl (fun hc=>h b hc (by simp[Tr.eS]))
  rw[e1]at hl h⊢
  have e2:(v.aS gv b).bO b=v.aS gv b:=SV.im (Lj b []) hl (by simp)
  rw[e2]at hl h⊢
  exact SV.im (Hx (X:=[b]) (by simp)) hl (fun c hc hx=>h c hc (by simp only[List.mem_singleton]at hx;simp[Tr.eS,hx]))
 |ki ts rp=>
  have hk:(if ts.isEmpty=true then v else v.kill ts).clean=true→(if ts.isEmpty=true then v else v.kill ts)=v:=by
   intro hl
   split
   ·rfl
   ·rename_i hk
    rw[if_neg hk]at hl
    exact SV.im (Fa ts []) hl (by simp)
  simp only[Tr.sv,fm]at hl h⊢
  split
  ·rename_i he;rw[if_pos he]at hl;exact hk hl
  ·rename_i he
   rw[if_neg he]at hl h
   cases v with
   |ept b e i o p τ=>
    simp only[SV.bQ]at hl h⊢
    split
    ·rename_i b' hlk
     rw[hlk]at h
     exact absurd (by simp only[Tr.eS,List.mem_append,List.mem_map];exact .inr (.inr ⟨(b,b'),eE hlk,rfl⟩)) (h b' (by simp[SV.dA]))
    ·rename_i hlk
     rw[hlk]at hl
     exact hk hl
   |_=>exact hk hl
end Vg
namespace Vg
open Go
theorem kf {T:Tr} (h:T.nr=true) (v:SV):T.sv v=v:=by
 cases T with
 |id=>rfl
 |kg ks gv t=>
  simp only[Tr.nr,Bool.and_eq_true]at h
  simp only[Tr.sv,fm,nV,h.1,h.2,if_true]
 |el gv b e l m=>simp[Tr.nr]at h
 |ki ts rp=>simp only[Tr.nr,Bool.and_eq_true]at h;simp only[Tr.sv,fm,h.1,h.2,if_true]
theorem Tb (T:Tr):T.sv .no= .no:=by
 cases T with
 |id=>rfl
 |kg ks gv t=>simp only[Tr.sv,fm,nV];split<;>split<;>rfl
 |el gv b e l m=>rfl
 |ki ts rp=>simp only[Tr.sv,fm,SV.bQ];split<;>split<;>rfl
theorem MY:∀(ws:List (Nat×SV)) (L:List SV),(dM ws L).length=L.length
 | [],_=>rfl
 |p::ws,L=>by
  show(dM ws (L.set p.1 p.2)).length=L.length
  rw[MY ws];simp
theorem Mv:∀(ws:List (Nat×SV)) (L:List SV) (s:Nat),(∀p∈ws,p.1≠s)→(dM ws L).getD s .no=L.getD s .no
 | [],_,_,_=>rfl
 |p::ws,L,s,h=>by
  show(dM ws (L.set p.1 p.2)).getD s .no=L.getD s .no
  rw[Mv ws _ s (fun q hq=>h q (by simp[hq])),dF,if_neg]
  rintro⟨e,_⟩
  exact h p (by simp) e.symm
theorem Tk {E:Env} {T:Tr} {ws:List (Nat×SV)} {s:Nat} (h:∀p∈ws,p.1≠s):(E.fO (T,ws)).s.getD s .no=T.sv (E.s.getD s .no):=by
 simp only[Env.fO]
 rw[Mv ws _ s h,getD_map (Tb T)]
end Vg
namespace Vg
open Go
def cn (t:Nat):SV→Bool
 | .box u _=>u=t
 |_=>false
theorem Ag:∀(L:List SV) (t k s:Nat) (v:TV),cF L t k=some (s,v)↔k≤s∧L.getD (s-k) .no= .box t v∧∀j,j<s-k→cn t (L.getD j .no)=false
 | [],t,k,s,v=>by simp[cF]
 |x::L,t,k,s,v=>by
  have step:(∀u,x≠ .box t u)→(cF (x::L) t k=some (s,v)↔cF L t (k+1)=some (s,v)):=by
   intro h
   cases x with
   |box u y=>
    simp only[cF]
    rw[if_neg]
    intro e;exact h y (by rw[e])
   |_=>rfl
  by_cases hx:∃u,x= .box t u
  ·obtain⟨u,rfl⟩:=hx
   simp only[cF,if_true,Option.some.injEq,Prod.mk.injEq]
   constructor
   ·rintro⟨rfl,rfl⟩
    exact⟨Nat.le_refl _,by simp,fun j hj=>by omega⟩
   ·rintro⟨h1,h2,h3⟩
    have h0:s-k=0:=by
     rcases Nat.eq_zero_or_pos (s-k)with h|h
     ·exact h
     ·have:=h3 0 h
      simp[cn]at this
    rw[h0]at h2
    simp only[List.getD_cons_zero,SV.box.injEq,true_and]at h2
    exact⟨by omega,h2⟩
  ·have hx':∀u,x≠ .box t u:=fun u e=>hx ⟨u,e⟩
   rw[step hx',Ag L t (k+1) s v]
   have hb:cn t x=false:=by
    cases x with
    |box u y=>simp only[cn,decide_eq_false_iff_not];intro e;exact hx' y (by rw[e])
    |_=>rfl
   constructor
   ·rintro⟨h1,h2,h3⟩
    refine⟨by omega,?_,fun j hj=> ?_⟩
    ·rw[show s-k=(s-(k+1))+1 by omega,List.getD_cons_succ];exact h2
    ·cases j with
     |zero=>simpa using hb
     |succ j=>rw[List.getD_cons_succ];exact h3 j (by omega)
   ·rintro⟨h1,h2,h3⟩
    have hs:k+1≤s:=by
     rcases Nat.lt_or_ge k s with h|h
     ·exact h
     ·rw[show s-k=0 by omega]at h2
      simp only[List.getD_cons_zero]at h2
      exact absurd h2 (hx' v)
    refine⟨hs,?_,fun j hj=> ?_⟩
    ·rw[show s-k=(s-(k+1))+1 by omega,List.getD_cons_succ]at h2;exact h2
    ·have:=h3 (j+1) (by omega)
     rwa [List.getD_cons_succ]at this
theorem Nr {L L':List SV} {t s:Nat} {v:TV} (h:cF L t 0=some (s,v)) (hs:L'.getD s .no=L.getD s .no) (hb:∀j,cn t (L'.getD j .no)=cn t (L.getD j .no)):cF L' t 0=some (s,v):=by
 rw[Ag]at h⊢
 obtain⟨h1,h2,h3⟩:=h
 simp only[Nat.sub_zero]at h2 h3⊢
 exact⟨h1,by rw[hs];exact h2,fun j hj=>by rw[hb];exact h3 j hj⟩
def rowAt (t:Nat) (e:Ty):SV→Option (List e.den×List Nat×Bool)
 | .d v| .box _ v=>mL t e v.τ v.x v.sh
 |_=>none
theorem sL:∀(L:List SV) (t:Nat) (e:Ty) (k s:Nat),di t e L k=some s↔k≤s∧(rowAt t e (L.getD (s-k) .no)).isSome∧∀j,j<s-k→rowAt t e (L.getD j .no)=none
 | [],t,e,k,s=>by simp[di,rowAt]
 |x::L,t,e,k,s=>by
  have hdef:di t e (x::L) k=if(rowAt t e x).isSome then some k else di t e L (k+1):=by
   cases x<;>rfl
  rw[hdef]
  by_cases hx:(rowAt t e x).isSome=true
  ·rw[if_pos hx]
   simp only[Option.some.injEq]
   constructor
   ·rintro rfl
    exact⟨Nat.le_refl _,by simpa using hx,fun j hj=>by omega⟩
   ·rintro⟨h1,h2,h3⟩
    rcases Nat.eq_zero_or_pos (s-k)with h|h
    ·omega
    ·have:=h3 0 h
     simp only[List.getD_cons_zero]at this
     rw[this]at hx;cases hx
  ·rw[if_neg hx,sL L t e (k+1) s]
   have hxn:rowAt t e x=none:=by simpa using hx
   constructor
   ·rintro⟨h1,h2,h3⟩
    refine⟨by omega,?_,fun j hj=> ?_⟩
    ·rw[show s-k=(s-(k+1))+1 by omega,List.getD_cons_succ];exact h2
    ·cases j with
     |zero=>simpa using hxn
     |succ j=>rw[List.getD_cons_succ];exact h3 j (by omega)
   ·rintro⟨h1,h2,h3⟩
    have hs:k+1≤s:=by
     rcases Nat.lt_or_ge k s with h|h
     ·exact h
     ·rw[show s-k=0 by omega]at h2
      simp only[List.getD_cons_zero,hxn]at h2
      cases h2
    refine⟨hs,?_,fun j hj=> ?_⟩
    ·rw[show s-k=(s-(k+1))+1 by omega,List.getD_cons_succ]at h2;exact h2
    ·have:=h3 (j+1) (by omega)
     rwa [List.getD_cons_succ]at this
theorem sO:∀(L:List SV) (t:Nat) (e:Ty) (k s:Nat),di t e L k=some s→dx t e L=rowAt t e (L.getD (s-k) .no)
 | [],t,e,k,s,h=>by simp[di]at h
 |x::L,t,e,k,s,h=>by
  have hdef:di t e (x::L) k=if(rowAt t e x).isSome then some k else di t e L (k+1):=by
   cases x<;>rfl
  have hf:dx t e (x::L)=match rowAt t e x with|some r=>some r|none=>dx t e L:=by
   cases x<;>rfl
  rw[hdef]at h
  by_cases hx:(rowAt t e x).isSome=true
  ·rw[if_pos hx]at h
   simp only[Option.some.injEq]at h
   subst h
   rw[hf]
   obtain⟨r,hr⟩:=Option.isSome_iff_exists.1 hx
   simp[hr]
  ·rw[if_neg hx]at h
   have hxn:rowAt t e x=none:=by simpa using hx
   rw[hf,hxn]
   have hs:=(sL L t e (k+1) s).1 h
   rw[show s-k=(s-(k+1))+1 by omega,List.getD_cons_succ]
   exact sO L t e (k+1) s h
theorem MI {L L':List SV} {t s:Nat} {e:Ty} (h:di t e L 0=some s) (hs:L'.getD s .no=L.getD s .no) (hb:∀j,j<s→rowAt t e (L.getD j .no)=none→rowAt t e (L'.getD j .no)=none):
 di t e L' 0=some s∧dx t e L'=dx t e L:=by
 have h':di t e L' 0=some s:=by
  rw[sL]at h⊢
  obtain⟨h1,h2,h3⟩:=h
  simp only[Nat.sub_zero]at h2 h3⊢
  exact⟨h1,by rw[hs];exact h2,fun j hj=>hb j hj (h3 j hj)⟩
 refine⟨h',?_⟩
 rw[sO L' t e 0 s h',sO L t e 0 s h,Nat.sub_zero,hs]
end Vg
namespace Vg
open Go
structure Ml (b:fC) (E E':Env):Prop where
 get:∀s∈b.rs,E'.get s=E.get s
 ra:∀s∈b.ra,∃t u u',E.get s= .box t u∧E'.get s= .box t u'∧u'.τ=u.τ
 box:∀t∈b.bx,∀j,cn t (E'.get j)=cn t (E.get j)
 row:∀p∈b.rw,∀(e:Ty) (j:Nat),j<p.2→rowAt p.1 e (E.get j)=none→rowAt p.1 e (E'.get j)=none
 dz:∀p∈b.ws,qi (E'.get p.1) p.2=true
section
variable {C:Cx} {ops:List Oper} {i:Nat} {o:Oper} {E E':Env} {r:Tr×List (Nat×SV)}
theorem NH {s:Nat} (h:s∈fU ops o):s∈(dG ops i o E r).rs∨s∈(dG ops i o E r).ra:=by
 simp only[dG,List.mem_append,List.mem_filter]
 cases hb:(E.get s).dQ with
 |true=>exact .inr ⟨h,rfl⟩
 |false=>exact .inl (.inl (.inl ⟨h,rfl⟩))
theorem Om {t s:Nat} {v:TV} (hdr:dp o=true) (ht:t∈sB E o) (h:cF E.s t 0=some (s,v)):s∈(dG ops i o E r).rs:=by
 simp only[dG,List.mem_append]
 refine .inl (.inr ?_)
 rw[List.mem_filterMap]
 exact⟨t,by rw[if_pos hdr];exact ht,by rw[h];rfl⟩
theorem Fp {t s:Nat} {e:Ty} (hdr:dp o=true) (ht:(t,e)∈qM E o) (h:di t e E.s 0=some s):(t,s)∈(dG ops i o E r).rw:=by
 simp only[dG]
 rw[List.mem_filterMap]
 exact⟨(t,e),by rw[if_pos hdr];exact ht,by rw[h];rfl⟩
theorem O0 {t s:Nat} {e:Ty} (hdr:dp o=true) (ht:(t,e)∈qM E o) (h:di t e E.s 0=some s):s∈(dG ops i o E r).rs:=by
 have:=Fp (ops:=ops) (i:=i) (r:=r) hdr ht h
 simp only[dG,List.mem_append]at this⊢
 refine .inr ?_
 rw[List.mem_map]
 exact⟨(t,s),this,rfl⟩
theorem Sr {s b off:Nat} {p:List Bool} {τ:Ty} (hs:s∈tmpsOf o) (h:(E.rd.get s).strip= .ptr b off p τ):b∈sB E o:=by
 unfold sB
 rw[List.mem_filterMap]
 exact⟨s,hs,by rw[h]⟩
theorem S2 {s b off:Nat} {e:Ty} {n:Int} {p:List Bool} {τ:Ty} (hs:s∈tmpsOf o) (h:(E.rd.get s).strip= .ept b e n off p τ):(b,e)∈qM E o:=by
 unfold qM
 rw[List.mem_filterMap]
 exact⟨s,hs,by rw[h]⟩
theorem fZ {α β:Type} {f g:α→Option β}:∀ {l:List α},(∀x∈l,f x=g x)→l.filterMap f=l.filterMap g
 | [],_=>rfl
 |x::l,h=>by
  simp only[List.filterMap_cons,h x (by simp),fZ (l:=l) (fun y hy=>h y (by simp[hy]))]
theorem yw {α β:Type} {f:α→Option β}:∀ {l:List α},(l.filterMap f).length=l.length→∀x∈l,(f x).isSome=true
 | [],_,x,hx=>by cases hx
 |y::l,h,x,hx=>by
  have hle:=List.length_filterMap_le f l
  cases hf:f y with
  |none=>
   rw[List.filterMap_cons_none hf]at h
   simp at h;omega
  |some z=>
   rw[List.filterMap_cons_some hf]at h
   simp only[List.length_cons,Nat.add_right_cancel_iff]at h
   rcases List.mem_cons.1 hx with rfl|hx
   ·rw[hf];rfl
   ·exact yw h x hx
theorem P9 (hK:Ml (dG ops i o E r) E E') (hfd:(dG ops i o E r).fd=true) (hdz:(dG ops i o E r).dz=true):
 qD o E.rd E'.rd∧guardOf ops E'.rd o.guard=guardOf ops E.rd o.guard∧dG ops i o E' r=dG ops i o E r:=by
 have hal:∀s∈fU ops o,cu (E'.get s)=cu (E.get s)∧(E'.get s).dQ=(E.get s).dQ:=fun s hs=>by
  rcases NH (i:=i) (E:=E) (r:=r) hs with h|h
  ·rw[hK.get s h];exact⟨rfl,rfl⟩
  ·obtain⟨t,u,u',h1,h2,h3⟩:=hK.ra s h
   rw[h1,h2]
   simp only[cu,h3,SV.dQ]
   exact⟨trivial,trivial⟩
 have htm:∀s∈tmpsOf o,s∈fU ops o:=fun s hs=>by simp only[fU,List.mem_append];exact .inl hs
 have hrd:∀s∈tmpsOf o,E'.rd.get s=E.rd.get s:=fun s hs=>(hal s (htm s hs)).1
 simp only[dG,Bool.and_eq_true,decide_eq_true_eq,List.all_eq_true]at hfd
 obtain⟨hfr,hfb⟩:=hfd
 have hfr':dp o=true→∀p∈qM E o,(di p.1 p.2 E.s 0).isSome=true:=by
  intro hdr p hp
  rw[if_pos hdr]at hfr
  have:=yw hfr p hp
  simpa using this
 have hbox:dp o=true→∀t∈sB E o,cF E'.s t 0=cF E.s t 0:=by
  intro hdr t ht
  obtain⟨⟨s,v⟩,hsv⟩:=Option.isSome_iff_exists.1 (hfb t (by rw[if_pos hdr];exact ht))
  rw[hsv]
  exact Nr hsv (hK.get s (Om hdr ht hsv)) (fun j=>hK.box t (by simp only[dG];rw[if_pos hdr];exact ht) j)
 have hrow:dp o=true→∀p∈qM E o,di p.1 p.2 E'.s 0=di p.1 p.2 E.s 0∧dx p.1 p.2 E'.s=dx p.1 p.2 E.s:=by
  rintro hdr ⟨t,e⟩ hp
  obtain⟨s,hs⟩:=Option.isSome_iff_exists.1 (hfr' hdr (t,e) hp)
  have:=MI hs (hK.get s (O0 hdr hp hs)) (fun j hj hn=>hK.row (t,s) (Fp hdr hp hs) e j hj hn)
  exact⟨this.1.trans hs.symm,this.2⟩
 refine⟨⟨hrd,fun hdr s hs b off p τ h=>hbox hdr b (Sr hs h),fun hdr s hs b e n off p τ h=>(hrow hdr (b,e) (S2 hs h)).2⟩,?_,?_⟩
 ·cases hg:o.guard with
  |none=>rfl
  |some q=>
   obtain⟨j,w⟩:=q
   simp only[guardOf]
   cases hd:(ops[j]?).bind (·.dst)with
   |none=>rfl
   |some s=>
    have hs:s∈fU ops o:=by
     simp only[fU,List.mem_append]
     refine .inr ?_
     rw[hg]
     simp[hd]
    have:E'.rd.get s=E.rd.get s:=(hal s hs).1
    simp only[this]
 ·have hb:sB E' o=sB E o:=fZ (fun s hs=>by rw[hrd s hs])
  have hr:qM E' o=qM E o:=fZ (fun s hs=>by rw[hrd s hs])
  have hf1:(fU ops o).filter (fun s=>(E'.get s).dQ)=(fU ops o).filter (fun s=>(E.get s).dQ):=List.filter_congr (fun s hs=>(hal s hs).2)
  have hf2:(fU ops o).filter (fun s=> !(E'.get s).dQ)=(fU ops o).filter (fun s=> !(E.get s).dQ):=List.filter_congr (fun s hs=>by rw[(hal s hs).2])
  have hrw:(if dp o=true then qM E o else []).filterMap (fun p=>(di p.1 p.2 E'.s 0).map fun s=>(p.1,s))=(if dp o=true then qM E o else []).filterMap (fun p=>(di p.1 p.2 E.s 0).map fun s=>(p.1,s)):=by
   split
   ·rename_i hdr;exact fZ (fun p hp=>by rw[(hrow hdr p hp).1])
   ·rfl
  have hbb:∀t∈(if dp o=true then sB E o else []),cF E'.s t 0=cF E.s t 0:=by
   split
   ·rename_i hdr;exact hbox hdr
   ·intro t ht;cases ht
  have hbs:(if dp o=true then sB E o else []).filterMap (fun t=>(cF E'.s t 0).map (·.1))=(if dp o=true then sB E o else []).filterMap (fun t=>(cF E.s t 0).map (·.1)):=
   fZ (fun t ht=>by rw[hbb t ht])
  have hgs:=hK.get
  have hdz':=hK.dz
  simp only[dG]at hgs hdz' hdz
  simp only[dG,hb,hr,hrw,hbs,hf1,hf2,fC.mk.injEq,true_and]
  generalize (fU ops o).filter (fun s=> !(E.get s).dQ)++List.filterMap (fun t=>Option.map (fun x=>x.fst) (cF E.s t 0)) (if dp o=true then sB E o else [])++List.map (fun x=>x.snd) (List.filterMap (fun p=>Option.map (fun s=>(p.fst,s)) (di p.fst p.snd E.s 0)) (if dp o=true then qM E o else []))=rs at hgs⊢
  refine⟨?_,?_,?_,?_,?_,trivial⟩
  ·simp only[List.flatMap_def]
   congr 1
   refine List.map_congr_left (fun s hs=> ?_)
   rw[hgs s hs]
  ·simp only[List.flatMap_def]
   congr 1
   refine List.map_congr_left (fun s hs=> ?_)
   rw[hgs s hs]
  ·rw[Bool.eq_iff_iff,List.all_eq_true,List.all_eq_true]
   constructor
   ·intro h s hs;rw[←hgs s hs];exact h s hs
   ·intro h s hs;rw[hgs s hs];exact h s hs
  ·congr 1
   rw[Bool.eq_iff_iff,List.all_eq_true,List.all_eq_true]
   constructor
   ·intro h t ht;rw[←hbb t ht];exact h t ht
   ·intro h t ht;rw[hbb t ht];exact h t ht
  ·rw[hdz,List.all_eq_true]
   exact hdz'
end
end Vg
namespace Vg
open Go
def SV.kd:SV→Nat
 | .no=>0
 | .d _=>1
 | .box _ _=>2
 | .ptr _ _ _ _=>3
 | .ept _ _ _ _ _ _=>4
 | .rdp _ _=>5
 | .tup _=>6
 | .g _ _ _ _=>7
def uZ (v v':SV):Prop:=v'.kd=v.kd∨((v.kd=4∨v.kd=5)∧v'= .no)
theorem pw {f:M→M} {fe:Nat→Bool} {fr:List Nat→Option (List Nat)} (v:SV):uZ v (v.mapM f fe fr):=by
 cases v with
 |ept t e i o p τ=>
  simp only[SV.mapM]
  split
  ·exact .inl rfl
  ·exact .inr ⟨.inl rfl,rfl⟩
 |rdp hs v=>
  simp only[SV.mapM]
  split
  ·exact .inl rfl
  ·exact .inr ⟨.inr rfl,rfl⟩
 |_=>exact .inl rfl
theorem R9 {b:Nat} {e:Ty} {y:List e.den} {m:M} (v:SV):uZ v (v.setRow b e y m):=by
 cases v with
 |rdp hs v=>
  simp only[SV.setRow]
  split
  ·exact .inr ⟨.inr rfl,rfl⟩
  ·exact .inl rfl
 |_=>exact .inl rfl
theorem uZ.refl (v:SV):uZ v v:= .inl rfl
theorem uZ.trans {a b c:SV} (h:uZ a b) (h':uZ b c):uZ a c:=by
 rcases h with h|⟨h,rfl⟩
 ·rcases h' with h'|⟨h',rfl⟩
  ·exact .inl (h'.trans h)
  ·exact .inr ⟨by rw[←h];exact h',rfl⟩
 ·rcases h' with h'|⟨h',_⟩
  ·refine .inr ⟨h,?_⟩
   cases c<;>simp[SV.kd]at h'⊢
  ·simp[SV.kd]at h'
theorem S7 (T:Tr) (v:SV):uZ v (T.sv v):=by
 cases T with
 |id=>exact .refl v
 |kg ks gv t=>
  simp only[Tr.sv,fm,nV]
  split<;>split
  ·exact .refl v
  ·exact pw v
  ·exact pw v
  ·exact(pw v).trans (pw _)
 |el gv b e l m=>exact((pw v).trans (pw _)).trans (R9 _)
 |ki ts rp=>
  have hk:uZ v (if ts.isEmpty=true then v else v.kill ts):=by
   split
   ·exact .refl v
   ·exact pw v
  simp only[Tr.sv,fm]
  split
  ·exact hk
  ·cases v with
   |ept b e i o p τ=>
    simp only[SV.bQ]
    split
    ·exact .inl rfl
    ·exact hk
   |_=>exact hk
theorem sV {f:M→M} {fe:Nat→Bool} {fr:List Nat→Option (List Nat)} (t:Nat) (v:SV):cn t (v.mapM f fe fr)=cn t v:=by
 cases v with
 |ept t e i o p τ=>simp only[SV.mapM];split<;>rfl
 |rdp hs v=>simp only[SV.mapM];split<;>rfl
 |_=>rfl
theorem Io {b:Nat} {e:Ty} {y:List e.den} {m:M} (t:Nat) (v:SV):cn t (v.setRow b e y m)=cn t v:=by
 cases v with
 |rdp hs v=>simp only[SV.setRow];split<;>rfl
 |_=>rfl
theorem oU (T:Tr) (t:Nat) (v:SV):cn t (T.sv v)=cn t v:=by
 cases T with
 |id=>rfl
 |kg ks gv u=>
  simp only[Tr.sv,fm,nV]
  split<;>split<;>simp only[SV.aS,SV.kill,sV]
 |el gv b e l m=>simp only[Tr.sv,Io,SV.bO,SV.aS,sV]
 |ki ts rp=>
  have hk:cn t (if ts.isEmpty=true then v else v.kill ts)=cn t v:=by
   split<;>simp only[SV.kill,sV]
  simp only[Tr.sv,fm]
  split
  ·exact hk
  ·cases v with
   |ept b e i o p τ=>
    simp only[SV.bQ]
    split
    ·rfl
    ·exact hk
   |_=>exact hk
theorem kc {t:Nat} {v:SV} (h:cn t v=true):∃u,v= .box t u:=by
 cases v with
 |box t' u=>simp only[cn,decide_eq_true_eq]at h;subst h;exact⟨u,rfl⟩
 |_=>simp[cn]at h
theorem TB {v q:SV} (h:v.kd=0∨v.kd=4∨v.kd=5):qi v q=true:=by
 cases v<;>first|rfl|simp[SV.kd]at h
theorem DZ {v q:SV} (h:v.kd=1∨v.kd=3∨v.kd=6∨v.kd=7):qi v q=(v.clean&&v.dA.isEmpty):=by
 cases v<;>first|rfl|simp[SV.kd]at h
theorem TN {T:Tr} {v q:SV} (h:qi v q=true):qi (T.sv v) q=true:=by
 have hk:=S7 T v
 have helse:v.kd=1∨v.kd=3∨v.kd=6∨v.kd=7→qi (T.sv v) q=true:=by
  intro he
  have h0:=h
  rw[DZ he,Bool.and_eq_true]at h0
  have:v.dA=[]:=by simpa using h0.2
  rw[Tr.stays (by rw[this];simp)]
  exact h
 have h045:v.kd=0∨v.kd=4∨v.kd=5→qi (T.sv v) q=true:=by
  intro he
  rcases hk with hk|⟨_,hk⟩
  ·exact TB (by rw[hk];exact he)
  ·rw[hk];rfl
 cases v with
 |box t u=>
  obtain⟨u',hu⟩:=kc (t:=t) (v:=T.sv (.box t u)) (by rw[oU];simp[cn])
  rw[hu]
  exact h
 |no=>exact h045 (.inl rfl)
 |ept t e i o p τ=>exact h045 (.inr (.inl rfl))
 |rdp hs v=>exact h045 (.inr (.inr rfl))
 |d v=>exact helse (.inl rfl)
 |ptr t o p τ=>exact helse (.inr (.inl rfl))
 |tup l=>exact helse (.inr (.inr (.inl rfl)))
 |g j w a v=>exact helse (.inr (.inr (.inr rfl)))
theorem Tj {T:Tr} (hT:T.ok=true) {v q:SV} (h:qi (T.sv v) q=true):qi v q=true:=by
 have hk:=S7 T v
 have helse:v.kd=1∨v.kd=3∨v.kd=6∨v.kd=7→qi v q=true:=by
  intro he
  rcases hk with hk|⟨hk,_⟩
  ·have h0:=h
   rw[DZ (by rw[hk];exact he),Bool.and_eq_true]at h0
   have ht:(T.sv v).dA=[]:=by simpa using h0.2
   rw[Tr.im hT h0.1 (by rw[ht];simp)]at h
   exact h
  ·omega
 cases v with
 |box t u=>
  obtain⟨u',hu⟩:=kc (t:=t) (v:=T.sv (.box t u)) (by rw[oU];simp[cn])
  rw[hu]at h
  exact h
 |no|ept t e i o p τ|rdp hs v=>rfl
 |d v=>exact helse (.inl rfl)
 |ptr t o p τ=>exact helse (.inr (.inl rfl))
 |tup l=>exact helse (.inr (.inr (.inl rfl)))
 |g j w a v=>exact helse (.inr (.inr (.inr rfl)))
theorem xt {t:Nat} {e:Ty}:∀ {τ:Ty} {x:τ.den} {sh:Sh},t∉sh.aD→mL t e τ x sh=none
 | .sl e',l,.sl (.row u hs nd),h=>by
   have:u≠t:=fun e=>h (by simp[Sh.aD,M.aD,e])
   simp only[mL,this,if_false]
 | .pair a c,p,.pair s1 s2,h=>by
   simp only[Sh.aD,List.mem_append,not_or]at h
   simp only[mL,xt h.1,xt h.2]
 | .sl _,_,.leaf,_| .sl _,_,.pair _ _,_| .sl _,_,.sl (.sha _),_| .sl _,_,.sl .dead,_
 | .int _,_,.leaf,_| .int _,_,.sl _,_| .int _,_,.pair _ _,_| .bool,_,.leaf,_| .bool,_,.sl _,_| .bool,_,.pair _ _,_
 | .str,_,.leaf,_| .str,_,.sl _,_| .str,_,.pair _ _,_| .pair _ _,_,.leaf,_| .pair _ _,_,.sl _,_=>rfl
theorem Fs {t:Nat} {e:Ty} {v:SV} (hb:v.dQ=false) (h:t∉v.dA):rowAt t e v=none:=by
 cases v with
 |d v=>exact xt h
 |box t v=>simp[SV.dQ]at hb
 |_=>rfl
theorem rJ {E:Env} {T:Tr} {ws:List (Nat×SV)} {j:Nat} (h:∀p∈ws,p.1≠j):(E.fO (T,ws)).get j=T.sv (E.get j):=Tk h
theorem Nj:∀(ws:List (Nat×SV)) (L:List SV) (j:Nat),(dM ws L).getD j .no=L.getD j .no∨∃p∈ws,p.1=j∧(dM ws L).getD j .no=p.2
 | [],_,_=> .inl rfl
 |p::ws,L,j=>by
  rcases Nj ws (L.set p.1 p.2) j with h|⟨q,hq,h1,h2⟩
  ·have h':(dM (p::ws) L).getD j .no=(L.set p.1 p.2).getD j .no:=h
   rw[dF]at h'
   split at h'
   ·rename_i hc
    exact .inr ⟨p,by simp,hc.1.symm,h'⟩
   ·exact .inl h'
  ·exact .inr ⟨q,by simp[hq],h1,h2⟩
theorem Nt (E:Env) (T:Tr) (ws:List (Nat×SV)) (j:Nat):(E.fO (T,ws)).get j=T.sv (E.get j)∨∃p∈ws,p.1=j∧(E.fO (T,ws)).get j=p.2:=by
 rcases Nj ws (E.s.map T.sv) j with h|h
 ·refine .inl ?_
  have:(E.fO (T,ws)).get j=(E.s.map T.sv).getD j .no:=h
  rw[this,getD_map (Tb T)]
  rfl
 ·exact .inr h
structure DO (a b:fC):Prop where
 rs:∀p∈a.ws,p.1∉b.rs
 ra:∀p∈a.ws,p.1∉b.ra
 ws:∀p∈a.ws,∀q∈b.ws,q.1≠p.1
 bx:∀p∈a.ws,∀t u,p.2= .box t u→t∉b.bx
 rw:∀p∈a.ws,∀q∈b.rw,q.2<p.1∨(p.2.dQ=false∧q.1∉p.2.dA)
 tr:a.T.nr=true∨(b.rw=[]∧(∀t∈b.tk,t∉a.T.eS)∧(∀t∈b.te,t∉a.T.pW)∧∀p∈b.ws,(∀t∈p.2.A5,t∉a.T.eS)∧∀t∈p.2.ui,t∉a.T.pW)
theorem free_spec {a b:fC} (h:a.free b=true):DO a b:=by
 simp only[fC.free,Bool.and_eq_true,List.all_eq_true,Bool.or_eq_true,Bool.not_eq_true',List.contains_eq_mem,decide_eq_false_iff_not,decide_eq_true_eq,ne_eq,List.isEmpty_iff]at h
 obtain⟨h1,h2⟩:=h
 refine⟨fun p hp=>(h1 p hp).1.1.1.1,fun p hp=>(h1 p hp).1.1.1.2,fun p hp q hq=>(h1 p hp).1.1.2 q hq,fun p hp t u e=> ?_,fun p hp q hq=> ?_,?_⟩
 ·have:=(h1 p hp).1.2
  rw[e]at this
  simpa using this
 ·rcases(h1 p hp).2 q hq with h|h
  ·exact .inl h
  ·simp only[Bool.or_eq_false_iff,decide_eq_false_iff_not]at h
   exact .inr h
 ·rcases h2 with h|⟨⟨⟨h,h'⟩,h3⟩,h''⟩
  ·exact .inl h
  ·exact .inr ⟨h,h',h3,h''⟩
section
variable {C:Cx} {ops:List Oper} {nt:Nat} {F F1 F2:Env} {a b:fC}
structure Mk (b:fC) (E:Env):Prop where
 tk:∀s∈b.rs,∀t∈(E.get s).A5,t∈b.tk
 te:∀s∈b.rs,∀t∈(E.get s).ui,t∈b.te
 cl:b.cl=true→∀s∈b.rs,(E.get s).clean=true
 ra:∀s∈b.ra,(E.get s).dQ=true
 dz:b.dz=true→∀p∈b.ws,qi (E.get p.1) p.2=true
theorem SK {i:Nat} {o:Oper} {r:Tr×List (Nat×SV)} {E:Env} (h:dG ops i o E r=b):Mk b E:=by
 subst h
 refine⟨fun s hs t ht=> ?_,fun s hs t ht=> ?_,fun h s hs=> ?_,fun s hs=> ?_,fun h p hp=> ?_⟩
 ·simp only[dG,List.mem_flatMap]
  exact⟨s,hs,ht⟩
 ·simp only[dG,List.mem_flatMap]
  exact⟨s,hs,ht⟩
 ·simp only[dG,List.all_eq_true]at h
  exact h s hs
 ·simp only[dG,List.mem_filter]at hs
  exact hs.2
 ·simp only[dG,List.all_eq_true]at h
  exact h p hp
theorem AM (hf:DO a b) (hd:∀p∈a.ws,qi (F.get p.1) p.2=true) (t:Nat) (ht:t∈b.bx) (j:Nat):cn t ((F.fO (a.T,a.ws)).get j)=cn t (F.get j):=by
 rcases Nt F a.T a.ws j with h|⟨p,hp,rfl,h⟩
 ·rw[h,oU]
 ·rw[h]
  have hn:cn t p.2=false:=by
   cases hb:cn t p.2 with
   |false=>rfl
   |true=>
    obtain⟨u,hu⟩:=kc hb
    exact absurd ht (hf.bx p hp t u hu)
  rw[hn]
  cases hb:cn t (F.get p.1)with
  |false=>rfl
  |true=>
   obtain⟨u,hu⟩:=kc hb
   have:=hd p hp
   rw[hu]at this
   simp only[qi]at this
   split at this
   ·rename_i t' u' e
    simp only[decide_eq_true_eq]at this
    subst this
    exact absurd ht (hf.bx p hp _ _ e)
   ·cases this
theorem Tr.Q8 {T:Tr} {t:Nat} {e:Ty} {i:Int} {o:Nat} {p:List Bool} {τ:Ty} (h:t∉T.pW):T.sv (.ept t e i o p τ)= .ept t e i o p τ:=by
 cases T with
 |id=>rfl
 |kg ks gv x=>exact Tr.stays (T:= .kg ks gv x) (fun c hc=>by simp only[SV.dA,List.mem_singleton]at hc;subst hc;exact h)
 |el gv b e' l m=>
  simp only[Tr.pW]at h
  simp[Tr.sv,SV.aS,SV.bO,SV.mapM,SV.setRow,h]
 |ki ts rp=>exact Tr.stays (T:= .ki ts rp) (fun c hc=>by simp only[SV.dA,List.mem_singleton]at hc;subst hc;exact h)
theorem Tr.RU {T:Tr} {v:SV} (h:∀c∈v.A5,c∉T.eS) (h2:∀c∈v.ui,c∉T.pW):T.sv v=v:=by
 cases v with
 |ept t e i o p τ=>exact Tr.Q8 (h2 t (by simp[SV.ui]))
 |_=>exact Tr.stays h
theorem pK {f:M→M} {fe:Nat→Bool} {fr:List Nat→Option (List Nat)} {v:SV} {t:Nat} {e:Ty} {i:Int} {o:Nat} {p:List Bool} {τ:Ty} (h:v.mapM f fe fr= .ept t e i o p τ):v= .ept t e i o p τ:=by
 cases v with
 |ept t' e' i' o' p' τ'=>simp only[SV.mapM]at h;split at h;exact h;cases h
 |rdp hs v=>simp only[SV.mapM]at h;split at h<;>cases h
 |_=>simp[SV.mapM]at h
theorem P6 {b:Nat} {e':Ty} {y:List e'.den} {m:M} {v:SV} {t:Nat} {e:Ty} {i:Int} {o:Nat} {p:List Bool} {τ:Ty} (h:v.setRow b e' y m= .ept t e i o p τ):v= .ept t e i o p τ:=by
 cases v with
 |ept t' e' i' o' p' τ'=>exact h
 |rdp hs v=>simp only[SV.setRow]at h;split at h<;>cases h
 |_=>simp[SV.setRow]at h
theorem Tr.RE {T:Tr} {v:SV} {t:Nat} {e:Ty} {i:Int} {o:Nat} {p:List Bool} {τ:Ty} (he:T.sv v= .ept t e i o p τ) (h:t∉T.pW):v= .ept t e i o p τ:=by
 cases T with
 |id=>exact he
 |kg ks gv x=>
  simp only[Tr.sv,fm,nV]at he
  split at he
  ·split at he
   ·exact he
   ·exact pK he
  ·have:=pK he
   split at this
   ·exact this
   ·exact pK this
 |el gv b e' l m=>exact pK (pK (P6 he))
 |ki ts rp=>
  have hk:(if ts.isEmpty=true then v else v.kill ts)= .ept t e i o p τ→v= .ept t e i o p τ:=by
   intro hh
   split at hh
   ·exact hh
   ·exact pK hh
  simp only[Tr.sv,fm]at he
  split at he
  ·exact hk he
  ·cases v with
   |ept t' e' i' o' p' τ'=>
    simp only[SV.bQ]at he
    split at he
    ·rename_i b' hl
     cases he
     exact absurd (by simp only[Tr.pW,List.mem_append,List.mem_map];exact .inr (.inr ⟨(t',t),eE hl,rfl⟩)) h
    ·exact hk he
   |_=>exact hk he
theorem Tr.Ut {T:Tr} (hT:T.ok=true) {v:SV} (hl:(T.sv v).clean=true) (h:∀c∈(T.sv v).A5,c∉T.eS) (h2:∀c∈(T.sv v).ui,c∉T.pW):T.sv v=v:=by
 cases he:T.sv v with
 |ept t e i o p τ=>
  rw[he]at h2
  exact(Tr.RE he (h2 t (by simp[SV.ui]))).symm
 |_=>
  rw[←he]
  refine Tr.im hT hl ?_
  rw[he]at h⊢
  exact h
theorem UQ (T:Tr) {t:Nat} {u u':TV} (h:T.sv (.box t u)= .box t u'):u'.τ=u.τ:=by
 cases T with
 |id=>cases h;rfl
 |kg ks gv x=>
  simp only[Tr.sv,fm,nV,SV.kill,SV.aS]at h
  split at h<;>split at h<;>(simp only[SV.mapM,SV.box.injEq,true_and]at h;subst h;rfl)
 |el gv b e l m=>simp only[Tr.sv,SV.aS,SV.bO,SV.mapM,SV.setRow,SV.box.injEq,true_and]at h;subst h;rfl
 |ki ts rp=>
  simp only[Tr.sv,fm,SV.bQ,SV.kill]at h
  split at h<;>split at h<;>(simp only[SV.mapM,SV.box.injEq,true_and]at h;subst h;rfl)
theorem RH (T:Tr) {t:Nat} {u:TV}:∃u',T.sv (.box t u)= .box t u'∧u'.τ=u.τ:=by
 obtain⟨u',hu⟩:=kc (t:=t) (v:=T.sv (.box t u)) (by rw[oU];simp[cn])
 exact⟨u',hu,UQ T hu⟩
theorem Nh {v:SV} (h:v.dQ=true):∃t u,v= .box t u:=by
 cases v with
 |box t u=>exact⟨t,u,rfl⟩
 |_=>simp[SV.dQ]at h
theorem Rc (hf:DO a b) (hd:∀p∈a.ws,qi (F.get p.1) p.2=true) (hb:Mk b F) (hbd:b.dz=true):Ml b F (F.fO (a.T,a.ws)) where
 get s hs:=by
  rw[rJ (fun p hp e=>hf.rs p hp (e▸hs))]
  rcases hf.tr with h|⟨_,h,h3,_⟩
  ·exact kf h _
  ·exact Tr.RU (fun c hc=>h c (hb.tk s hs c hc)) (fun c hc=>h3 c (hb.te s hs c hc))
 ra s hs:=by
  obtain⟨t,u,h1⟩:=Nh (hb.ra s hs)
  obtain⟨u',h2,h3⟩:=RH a.T (t:=t) (u:=u)
  refine⟨t,u,u',h1,?_,h3⟩
  rw[rJ (fun p hp e=>hf.ra p hp (e▸hs)),h1,h2]
 box t ht j:=AM hf hd t ht j
 row p hp e j hj hn:=by
  have hid:a.T.nr=true:=by
   rcases hf.tr with h|⟨h,_⟩
   ·exact h
   ·rw[h]at hp;cases hp
  rcases Nt F a.T a.ws j with h|⟨q,hq,rfl,h⟩
  ·rw[h,kf hid];exact hn
  ·rw[h]
   rcases hf.rw q hq p hp with h'|⟨h1,h2⟩
   ·omega
   ·exact Fs h1 h2
 dz p hp:=by
  rw[rJ (fun q hq e=>hf.ws q hq p hp e.symm)]
  exact TN (hb.dz hbd p hp)
theorem Rj (hf:DO a b) (hok:a.T.ok=true) (hcl:a.T.nr=true∨b.cl=true) (hd:∀p∈a.ws,qi (F.get p.1) p.2=true) (hb:Mk b (F.fO (a.T,a.ws))) (hbd:b.dz=true):Ml b (F.fO (a.T,a.ws)) F where
 get s hs:=by
  have he:=rJ (E:=F) (T:=a.T) (ws:=a.ws) (j:=s) (fun p hp e=>hf.rs p hp (e▸hs))
  rcases hf.tr with h|⟨_,h,h3,_⟩
  ·rw[he,kf h]
  ·rcases hcl with hi|hcl
   ·rw[he,kf hi]
   ·have h1:=hb.cl hcl s hs
    have h2:=hb.tk s hs
    have h4:=hb.te s hs
    rw[he]at h1 h2 h4⊢
    exact(Tr.Ut hok h1 (fun c hc=>h c (h2 c hc)) (fun c hc=>h3 c (h4 c hc))).symm
 ra s hs:=by
  have he:=rJ (E:=F) (T:=a.T) (ws:=a.ws) (j:=s) (fun p hp e=>hf.ra p hp (e▸hs))
  obtain⟨t,u,h1⟩:=Nh (hb.ra s hs)
  have h4:cn t (F.get s)=true:=by rw[←oU a.T,←he,h1];simp[cn]
  obtain⟨u0,h5⟩:=kc h4
  obtain⟨u',h2,h3⟩:=RH a.T (t:=t) (u:=u0)
  rw[he,h5,h2]at h1
  simp only[SV.box.injEq,true_and]at h1
  exact⟨t,u',u0,by rw[he,h5,h2],h5,h3.symm⟩
 box t ht j:=(AM hf hd t ht j).symm
 row p hp e j hj hn:=by
  have hid:a.T.nr=true:=by
   rcases hf.tr with h|⟨h,_⟩
   ·exact h
   ·rw[h]at hp;cases hp
  rcases Nt F a.T a.ws j with h|⟨q,hq,rfl,h⟩
  ·rw[h,kf hid]at hn;exact hn
  ·have hdq:=hd q hq
   cases hv:F.get q.1 with
   |d v=>
    rw[hv]at hdq
    rw[DZ (.inl rfl),Bool.and_eq_true]at hdq
    have:(SV.d v).dA=[]:=by simpa using hdq.2
    exact Fs rfl (by rw[this];simp)
   |box t u=>
    rw[hv]at hdq
    simp only[qi]at hdq
    split at hdq
    ·rename_i t' u' e
     rcases hf.rw q hq p hp with h'|⟨h1,h2⟩
     ·omega
     ·rw[e]at h1;simp[SV.dQ]at h1
    ·cases hdq
   |_=>rfl
 dz p hp:=by
  have he:=rJ (E:=F) (T:=a.T) (ws:=a.ws) (j:=p.1) (fun q hq e=>hf.ws q hq p hp e.symm)
  have:=hb.dz hbd p hp
  rw[he]at this
  exact Tj hok this
def tw (C:Cx) (ops:List Oper) (nt:Nat) (E:Env) (b:fC) (E':Env):Prop:=
 ∃o act ef,ops[b.i]?=some o∧guardOf ops E.rd o.guard=some act∧bm C ops E.rd (nt+32*b.i) o.guard o=some ef∧
  ig o act ef=some (b.T,b.ws)∧dG ops b.i o E (b.T,b.ws)=b∧E'=E.fO (b.T,b.ws)
theorem tw.TZ (h:tw C ops nt F b F1) {F':Env} (hK:Ml b F F') (hfd:b.fd=true) (hdz:b.dz=true):tw C ops nt F' b (F'.fO (b.T,b.ws)):=by
 obtain⟨o,act,ef,h1,h2,h3,h4,h5,h6⟩:=h
 have hs:=P9 (ops:=ops) (i:=b.i) (o:=o) (E:=F) (E':=F') (r:=(b.T,b.ws)) (by rw[h5];exact hK) (by rw[h5];exact hfd) (by rw[h5];exact hdz)
 obtain⟨s1,s2,s3⟩:=hs
 exact⟨o,act,ef,h1,by rw[s2];exact h2,by rw[Ro s1];exact h3,h4,by rw[s3];exact h5,rfl⟩
theorem tw.Qz (h:tw C ops nt F b F1):Mk b F:=by
 obtain⟨o,act,ef,h1,h2,h3,h4,h5,h6⟩:=h
 exact SK h5
theorem tw.fO (h:tw C ops nt F b F1):F1=F.fO (b.T,b.ws):=by
 obtain⟨o,act,ef,h1,h2,h3,h4,h5,h6⟩:=h
 exact h6
theorem DK {f:SV→SV}:∀ {ws:List (Nat×SV)} {L:List SV},(∀p∈ws,f p.2=p.2)→(dM ws L).map f=dM ws (L.map f)
 | [],_,_=>rfl
 |p::ws,L,h=>by
  show(dM ws (L.set p.1 p.2)).map f=dM ws ((L.map f).set p.1 p.2)
  rw[DK (fun q hq=>h q (by simp[hq])),List.map_set,h p (by simp)]
theorem NC:∀ {ws:List (Nat×SV)} {L:List SV} {s:Nat} {v:SV},(∀p∈ws,p.1≠s)→(dM ws L).set s v=dM ws (L.set s v)
 | [],_,_,_,_=>rfl
 |p::ws,L,s,v,h=>by
  show(dM ws (L.set p.1 p.2)).set s v=dM ws ((L.set s v).set p.1 p.2)
  rw[NC (fun q hq=>h q (by simp[hq])),List.set_comm _ _ (h p (by simp))]
theorem KK:∀ {ws vs:List (Nat×SV)} {L:List SV},(∀p∈ws,∀q∈vs,q.1≠p.1)→dM ws (dM vs L)=dM vs (dM ws L)
 | [],_,_,_=>rfl
 |p::ws,vs,L,h=>by
  show dM ws ((dM vs L).set p.1 p.2)=dM vs (dM ws (L.set p.1 p.2))
  rw[NC (h p (by simp)),KK (fun q hq=>h q (by simp[hq]))]
theorem Sq (hab:DO a b) (hba:DO b a) (hid:a.T.nr=true∨b.T.nr=true):(F.fO (a.T,a.ws)).fO (b.T,b.ws)=(F.fO (b.T,b.ws)).fO (a.T,a.ws):=by
 have hTv:∀ {c d:fC},DO c d→∀p∈d.ws,c.T.sv p.2=p.2:=by
  intro c d h p hp
  rcases h.tr with h|⟨_,_,_,h⟩
  ·exact kf h _
  ·exact Tr.RU (h p hp).1 (h p hp).2
 refine Env.ext' ?_ rfl
 show dM b.ws ((dM a.ws (F.s.map a.T.sv)).map b.T.sv)=dM a.ws ((dM b.ws (F.s.map b.T.sv)).map a.T.sv)
 rw[DK (hTv hba),DK (hTv hab),KK (fun p hp q hq e=>hab.ws q hq p hp e.symm)]
 congr 2
 rw[List.map_map,List.map_map]
 refine List.map_congr_left (fun v _=> ?_)
 simp only[Function.comp_apply]
 rcases hid with h|h
 ·rw[kf h,kf h]
 ·rw[kf h,kf h]
theorem tw.swap (h1:tw C ops nt F a F1) (h2:tw C ops nt F1 b F2) (hi:a.ind b=true):∃F1',tw C ops nt F b F1'∧tw C ops nt F1' a F2:=by
 simp only[fC.ind,Bool.and_eq_true,Bool.or_eq_true]at hi
 obtain⟨⟨⟨⟨⟨⟨⟨⟨⟨⟨hab,hba⟩,hid⟩,haok⟩,hbok⟩,hcl⟩,hafd⟩,hbfd⟩,hadz⟩,hbdz⟩,_⟩:=hi
 have hab:=free_spec hab
 have hba:=free_spec hba
 have la:=h1.Qz
 have lb:=h2.Qz
 have e1:=h1.fO
 have e2:=h2.fO
 rw[e1]at lb
 have had:=la.dz hadz
 have kb:=Rj hab haok hcl had lb hbdz
 rw[←e1]at kb
 have g1:=h2.TZ kb hbfd hbdz
 have lb':=g1.Qz
 have ka:=Rc hba (lb'.dz hbdz) la hadz
 have g2:=h1.TZ ka hafd hadz
 refine⟨_,g1,?_⟩
 rw[e2,e1,Sq hab hba hid]
 exact g2
end
end Vg
namespace Vg
open Go
def pf (o:Oper):List Nat:=(o.after.toList.filter (Region.binds .any)).map (·.on)
theorem Pl:∀(l:List Oper) (acc:List (List Nat)),∃R,l.foldl (fun acc o=>
 let d:=(o.after.toList.filter (Region.binds .any)).map (·.on)
 acc++[d++d.flatMap fun j=>acc.getD j []]) acc=R∧R.take acc.length=acc∧
 ∀m o,l[m]?=some o→R.getD (acc.length+m) []=pf o++(pf o).flatMap fun j=>(R.take (acc.length+m)).getD j []
 | [],acc=>⟨acc,rfl,by simp,by simp⟩
 |o::l,acc=>by
  obtain⟨R,h1,h2,h3⟩:=Pl l (acc++[pf o++(pf o).flatMap fun j=>acc.getD j []])
  have h2':R.take acc.length=acc:=by
   have:=congrArg (List.take acc.length) h2
   simpa[List.take_take]using this
  refine⟨R,h1,h2',fun m o' ho=> ?_⟩
  cases m with
  |zero=>
   simp only[List.getElem?_cons_zero,Option.some.injEq]at ho
   subst ho
   simp only[Nat.add_zero]
   rw[h2']
   have hg:R.getD acc.length []=(R.take (acc.length+1)).getD acc.length []:=by
    simp[List.getD_eq_getElem?_getD,List.getElem?_take]
   rw[hg]
   simp only[List.length_append,List.length_singleton]at h2
   rw[h2]
   simp[List.getD_eq_getElem?_getD]
  |succ m=>
   simp only[List.getElem?_cons_succ]at ho
   have:=h3 m o' ho
   simp only[List.length_append,List.length_singleton]at this
   rw[show acc.length+(m+1)=acc.length+1+m by omega]
   exact this
theorem SC {ops:List Oper} {i j:Nat} (h:j∈(CW ops).getD i []) {o:Oper} (ho:ops[i]?=some o):j∈pf o∨∃k∈pf o,k<i∧j∈(CW ops).getD k []:=by
 obtain⟨R,h1,_,h3⟩:=Pl ops []
 have hR:CW ops=R:=h1
 have:=h3 i o ho
 simp only[List.length_nil,Nat.zero_add]at this
 rw[hR,this,List.mem_append,List.mem_flatMap]at h
 rcases h with h|⟨k,hk,h⟩
 ·exact .inl h
 ·refine .inr ⟨k,hk,?_⟩
  rw[List.getD_eq_getElem?_getD,List.getElem?_take]at h
  split at h
  ·rename_i hlt
   rw[hR,List.getD_eq_getElem?_getD]
   exact⟨hlt,h⟩
  ·cases h
section
variable {C:Cx} {ops:List Oper} {nt:Nat}
def oL (C:Cx) (ops:List Oper) (nt:Nat):List fC→Env→Env→Prop
 | [],E,E'=>E=E'
 |b::l,E,E'=>∃F,tw C ops nt E b F∧oL C ops nt l F E'
theorem Ri {ρ:Type} (o:Oper) (a:Option Bool) (ef:Ef) (k:Tr×List (Nat×SV)→Option ρ):px o a ef k=(ig o a ef).bind k:=by
 cases ef with
 |val v=>rfl
 |chk c v=>simp only[px,ig];split<;>split<;>rfl
 |opt α z x f=>simp only[px,ig,Option.bind_assoc];rfl
 |put b s v=>simp only[px,ig];split<;>rfl
 |app c kl gv t v=>simp only[px,ig];split<;>(try split)<;>rfl
 |elem gv b e l m=>simp only[px,ig];split<;>rfl
 |call α x tks f rp=>simp only[px,ig];split
                     ·simp only[Option.bind_assoc];rfl
                     ·rfl
theorem Ab {ρ:Type} {k:Env→List fC→Option ρ} {r:ρ}:∀ {l:List Oper} {i:Nat} {E:Env} {L:List fC},ops.drop i=l→sg C ops nt l i E L k=some r→
 ∃bs E',oL C ops nt bs E E'∧bs.map (·.i)=List.range' i l.length∧k E' (bs.reverse++L)=some r
 | [],i,E,L,_,h=>⟨[],E,rfl,rfl,h⟩
 |o::l,i,E,L,hd,h=>by
  have ho:ops[i]?=some o:=by
   have:=congrArg List.head? hd
   simpa[List.head?_drop]using this
  simp only[sg]at h
  split at h
  ·cases h
  ·rename_i a ha
   split at h
   ·cases h
   ·rename_i ef hef
    rw[Ri,Option.bind_eq_some_iff]at h
    obtain⟨⟨T,ws⟩,hr,h⟩:=h
    obtain⟨bs,E',h1,h2,h3⟩:=Ab (l:=l) (i:=i+1) (by rw[←List.drop_drop,hd];rfl) h
    refine⟨dG ops i o E (T,ws)::bs,E',⟨_,⟨o,a,ef,ho,ha,hef,hr,rfl,rfl⟩,h1⟩,?_,?_⟩
    ·simp only[List.map_cons,h2,List.length_cons,List.range'_succ]
     rfl
    ·simpa using h3
theorem oL.front:∀ {pre:List fC} {b:fC} {post:List fC} {E E':Env},oL C ops nt (pre++b::post) E E'→(∀a∈pre,a.ind b=true)→∃F,tw C ops nt E b F∧oL C ops nt (pre++post) F E'
 | [],b,post,E,E',h,_=>h
 |a::pre,b,post,E,E',h,hi=>by
  obtain⟨F,h1,h2⟩:=h
  obtain⟨F2,h3,h4⟩:=oL.front h2 (fun c hc=>hi c (by simp[hc]))
  obtain⟨F1,h5,h6⟩:=h1.swap h3 (hi a (by simp))
  exact⟨F1,h5,F2,h6,h4⟩
end
end Vg
namespace Vg
open Go
section
variable {P:Program} {C:Cx} {w0:World} {c0:C0} {E:Env} {a:Act} {w:World} {G:Gh} {ops:List Oper} {Q:Exit→Act→World→Prop}
theorem jd {io:List Nat} (hk:keeps io ops=true) {o:Oper} (ho:o∈ops) {v:Value} {i:Nat} (hi:i∈io):(a.put o.dst v).tmps.getD i undef=a.tmps.getD i undef:=by
 simp only[keeps,List.all_eq_true]at hk
 have:=hk o ho
 cases hd:o.dst with
 |none=>rfl
 |some d=>
  rw[hd]at this
  simp only[Bool.not_eq_true',List.contains_eq_mem,decide_eq_false_iff_not]at this
  have hne:d≠i:=fun e=>this (e▸hi)
  simp[Act.put,Array.getD_eq_getD_getElem?,Array.getElem?_setIfInBounds_ne hne]
theorem Ep {o:Oper} {j:Nat}:j∈pf o↔∃e∈o.after,Region.binds .any e=true∧e.on=j:=by
 unfold pf
 simp only[List.mem_map,List.mem_filter,Array.mem_toList_iff]
 constructor
 ·rintro⟨e,⟨h1,h2⟩,h3⟩;exact⟨e,h1,h2,h3⟩
 ·rintro⟨e,h1,h2,h3⟩;exact⟨e,⟨h1,h2⟩,h3⟩
theorem Oa {listed:Array Bool} (hcl:∀i o,ops[i]?=some o→listed.getD i true=true→∀j∈pf o,listed.getD j false=true)
 (hsz:listed.size=ops.length):∀(i:Nat) {o:Oper},ops[i]?=some o→(∀j∈pf o,listed.getD j false=true)→∀j∈(CW ops).getD i [],listed.getD j false=true:=by
 intro i
 induction i using Nat.strongRecOn with
 |_ i ih=>
  intro o ho hd j hj
  rcases SC hj ho with h|⟨k,hk,hki,h⟩
  ·exact hd j h
  ·have hlk:=hd k hk
   have hkn:k<ops.length:=by
    rcases Nat.lt_or_ge k ops.length with h|h
    ·exact h
    ·rw[←hsz]at h
     simp[Array.getD,Nat.not_lt.2 h]at hlk
   have hok:ops[k]?=some ops[k]:=List.getElem?_eq_getElem hkn
   have hlk':listed.getD k true=true:=by
    have:k<listed.size:=by omega
    simp[Array.getD,this]at hlk⊢
    exact hlk
   exact ih k hki hok (hcl k _ hok hlk') j h
theorem OU {labs:List fC} (h:oS ops labs=true):
 (∀i o,ops[i]?=some o→∀j w',o.guard=some (j,w')→j∈(CW ops).getD i [])∧(∀i o,ops[i]?=some o→∀j∈pf o,j<i)∧
 ∀a∈labs,∀b∈labs,a.i<b.i→a.i∈(CW ops).getD b.i []∨a.ind b=true:=by
 simp only[oS,Bool.and_eq_true,List.all_eq_true]at h
 obtain⟨h1,h2⟩:=h
 refine⟨fun i o ho j w' hg=> ?_,fun i o ho j hj=> ?_,fun a ha b hb hlt=> ?_⟩
 ·have:=(h1 (o,i) (List.mem_zipIdx_iff_getElem?.2 ho)).1
  simp only[hg]at this
  simpa using this
 ·have:=(h1 (o,i) (List.mem_zipIdx_iff_getElem?.2 ho)).2
  obtain⟨e,he,hb,rfl⟩:=Ep.1 hj
  have:=this e (by simpa using he)
  simpa[hb]using this
 ·have:=h2 b hb a ha
  simp only[Bool.or_eq_true,decide_eq_true_eq,List.contains_eq_mem]at this
  rcases this with(h|h)|h
  ·omega
  ·exact .inl h
  ·exact .inr h
def S9 (nt:Nat) (listed:Array Bool) (u:Nat):Prop:=u<nt∨∃j,listed.getD j false=true∧nt+32*j≤u∧u<nt+32*j+32
theorem Sz (hC:lx P C) {io:List Nat} (hkp:keeps io ops=true) (hgo:ee ops=true) {nt:Nat} (h3:3≤nt) {labs:List fC} (hl:oS ops labs=true) {E':Env} {T:Nat→Value}
 (hQ:∀a' w' G',Inv w0 c0 (fun u=>u<nt+32*ops.length) E' a' w' G'→jg ops (fun j=>j<ops.length) E' a'.tmps→(∀i∈io,a'.tmps.getD i undef=T i)→Q .normal a' w'):
 ∀(fuel:Nat) {bs:List fC} {listed:Array Bool} {E:Env} {a:Act} {w:World} {G:Gh},bs.length≤fuel→oL C ops nt bs E E'→(∀b∈bs,b∈labs)→bs.Pairwise (fun a b=>a.i<b.i)→
 listed.size=ops.length→(∀i,i<ops.length→(listed.getD i true=false↔i∈bs.map (·.i)))→(∀i o,ops[i]?=some o→listed.getD i true=true→∀j∈pf o,listed.getD j false=true)→
 Inv w0 c0 (S9 nt listed) E a w G→jg ops (fun j=>listed.getD j false=true) E a.tmps→(∀i∈io,a.tmps.getD i undef=T i)→
 wpAny P .any ops.toArray Q fuel listed a w:=by
 obtain⟨hlg,hld,hlp⟩:=OU hl
 have gd:∀ {listed:Array Bool} {i:Nat},listed.size=ops.length→i<ops.length→listed.getD i true=listed.getD i false:=by
  intro listed i hs hi
  have:i<listed.size:=by omega
  simp[Array.getD,this]
 have nil:∀ {listed:Array Bool} {E:Env} {a:Act} {w:World} {G:Gh},oL C ops nt [] E E'→listed.size=ops.length→(∀i,i<ops.length→(listed.getD i true=false↔i∈([]:List fC).map (·.i)))→
  Inv w0 c0 (S9 nt listed) E a w G→jg ops (fun j=>listed.getD j false=true) E a.tmps→(∀i∈io,a.tmps.getD i undef=T i)→Q .normal a w:=by
  intro listed E a w G hch hsz hls hI hR hT
  have he:E=E':=hch
  subst he
  have hlt:∀j,listed.getD j false=true→j<ops.length:=by
   intro j hj
   rcases Nat.lt_or_ge j ops.length with h|h
   ·exact h
   ·rw[←hsz]at h
    simp[Array.getD,Nat.not_lt.2 h]at hj
  refine hQ a w G (hI.mono (fun u hu=> ?_)) (fun s j w1 act v he=> ?_) hT
  ·rcases hu with hu|⟨j,hj,h1,h2⟩
   ·omega
   ·have:=hlt j hj;omega
  ·obtain⟨q1,q2,q3⟩:=hR s j w1 act v he
   exact⟨q1,hlt j q2,q3⟩
 intro fuel
 induction fuel with
 |zero=>
  intro bs listed E a w G hf hch hin hpw hsz hls hcl hI hR hT
  have hbs:bs=[]:=by cases bs with|nil=>rfl|cons _ _=>simp at hf
  subst hbs
  refine⟨?_,nil hch hsz hls hI hR hT⟩
  rw[List.eq_nil_iff_forall_not_mem]
  intro j hj
  obtain⟨h1,o,ho,_⟩:=mem_ready.1 hj
  have hlt:j<ops.length:=by
   simp only[List.getElem?_toArray]at ho
   exact(List.getElem?_eq_some_iff.1 ho).1
  have:=(hls j hlt).1 h1
  simp at this
 |succ fuel ih=>
  intro bs listed E a w G hf hch hin hpw hsz hls hcl hI hR hT
  refine⟨fun hr=> ?_,fun i hi=> ?_⟩
  ·cases bs with
   |nil=>exact nil hch hsz hls hI hR hT
   |cons b bs=>
    exfalso
    obtain⟨F,hs,_⟩:=hch
    obtain⟨o,act,ef,ho,_⟩:=hs
    have hlt:=(List.getElem?_eq_some_iff.1 ho).1
    have:b.i∈Region.ready .any ops.toArray listed:=by
     refine mem_ready.2 ⟨(hls b.i hlt).2 (by simp),o,by simpa using ho,fun e he hb=> ?_⟩
     have hj:=hld b.i o ho e.on (Ep.2 ⟨e,he,hb,rfl⟩)
     rw[←gd hsz (by omega)]
     cases hg:listed.getD e.on true with
     |true=>rfl
     |false=>
      have:=(hls e.on (by omega)).1 hg
      simp only[List.map_cons,List.mem_cons,List.mem_map]at this
      rcases this with h|⟨c,hc,h⟩
      ·omega
      ·have:=(List.pairwise_cons.1 hpw).1 c hc
       omega
    rw[hr]at this
    cases this
  ·obtain⟨h1,o,ho,hall⟩:=mem_ready.1 hi
   simp only[List.getElem?_toArray]at ho
   have hlt:=(List.getElem?_eq_some_iff.1 ho).1
   have hmem:=(hls i hlt).1 h1
   rw[List.mem_map]at hmem
   obtain⟨b,hb,rfl⟩:=hmem
   obtain⟨pre,post,rfl⟩:=List.append_of_mem hb
   have hdl:∀j∈pf o,listed.getD j false=true:=by
    intro j hj
    obtain⟨e,he,hbd,rfl⟩:=Ep.1 hj
    exact hall e he hbd
   have hbl:=Oa hcl hsz b.i ho hdl
   have hpre:∀c∈pre,c.ind b=true:=by
    intro c hc
    have hci:c.i<b.i:=by
     rw[List.pairwise_append]at hpw
     exact hpw.2.2 c hc b (by simp)
    rcases hlp c (hin c (by simp[hc])) b (hin b (by simp)) hci with h|h
    ·have h2:=hbl c.i h
     have:listed.getD c.i true=false:=(hls c.i (by omega)).2 (by simp only[List.map_append,List.mem_append,List.mem_map];exact .inl ⟨c,hc,rfl⟩)
     rw[gd hsz (by omega),h2]at this
     cases this
    ·exact h
   obtain⟨F,hstp,hch'⟩:=hch.front hpre
   obtain⟨o',act,ef,ho',hga,hev,hef,hlab,hF⟩:=hstp
   have:o'=o:=by rw[ho]at ho';exact(Option.some.inj ho').symm
   subst this
   have hnl:listed.getD b.i false=false:=by rw[←gd hsz hlt];exact h1
   have hap:aZ o' act E some ef=some F:=by
    rw[O4,hef,hF]
    rfl
   refine HQ (tk:=nt+32*b.i) hC ho hI hR (fun j w' hj=>hbl j (hlg b.i o' ho j w' hj)) (by simp[hnl]) hgo (by omega) (fun u hu1 hu2 hu=> ?_) hga hev hap (fun a' w' G' hI' hR' ⟨v,hav⟩=> ?_)
   ·rcases hu with hu|⟨j,hj,h5,h6⟩
    ·omega
    ·have:j=b.i:=by omega
     subst this
     rw[hnl]at hj
     cases hj
   ·have hset:∀j,(listed.setIfInBounds b.i true).getD j false=true↔listed.getD j false=true∨j=b.i:=by
     intro j
     by_cases hj:b.i=j
     ·subst hj
      have:b.i<listed.size:=by omega
      simp[Array.getD,this]
     ·rw[getD_set_ne false hj]
      simp[Ne.symm hj]
    refine ih (bs:=pre++post) (by simp at hf⊢;omega) hch' (fun c hc=>hin c (by simp only[List.mem_append,List.mem_cons]at hc⊢;rcases hc with h|h<;>simp[h])) ?_ (by simpa using hsz) (fun i' hi'=> ?_) (fun i' o'' ho'' hl' j hj=> ?_) (hI'.mono (fun u hu=> ?_)) (fun s j w1 act1 v1 he=> ?_) (fun j hj=> ?_)
    ·rw[List.pairwise_append]at hpw⊢
     exact⟨hpw.1,(List.pairwise_cons.1 hpw.2.1).2,fun x hx y hy=>hpw.2.2 x hx y (by simp[hy])⟩
    ·by_cases hj:b.i=i'
     ·subst hj
      have:b.i<listed.size:=by omega
      have hno:b.i∉(pre++post).map (·.i):=by
       rw[List.pairwise_append]at hpw
       simp only[List.map_append,List.mem_append,List.mem_map,not_or,not_exists,not_and]
       refine⟨fun c hc e=> ?_,fun c hc e=> ?_⟩
       ·have:=hpw.2.2 c hc b (by simp);omega
       ·have:=(List.pairwise_cons.1 hpw.2.1).1 c hc;omega
      simp only[hno,iff_false]
      simp[Array.getD,this]
     ·rw[getD_set_ne true hj,hls i' hi']
      simp only[List.map_append,List.map_cons,List.mem_append,List.mem_cons]
      constructor
      ·rintro(h|h|h)
       ·exact .inl h
       ·exact absurd h.symm hj
       ·exact .inr h
      ·rintro(h|h)
       ·exact .inl h
       ·exact .inr (.inr h)
    ·rw[hset]
     by_cases hj':b.i=i'
     ·subst hj'
      rw[ho]at ho''
      cases ho''
      exact .inl (hdl j hj)
     ·rw[getD_set_ne true hj']at hl'
      exact .inl (hcl i' o'' ho'' hl' j hj)
    ·rcases hu with(hu|⟨j,hj,h5⟩)|hu
     ·exact .inl hu
     ·exact .inr ⟨j,(hset j).2 (.inl hj),h5⟩
     ·exact .inr ⟨b.i,(hset b.i).2 (.inr rfl),hu⟩
    ·obtain⟨q1,q2,q3⟩:=hR' s j w1 act1 v1 he
     exact⟨q1,(hset j).2 q2,q3⟩
    ·rw[hav]
     exact(jd hkp (List.mem_of_getElem? ho) hj).trans (hT j hj)
theorem oL.len {nt:Nat}:∀ {bs:List fC} {E E':Env},oL C ops nt bs E E'→E'.s.length=E.s.length
 | [],E,E',h=>by cases (show E=E' from h);rfl
 |b::bs,E,E',⟨F,h1,h2⟩=>by
  rw[oL.len h2,h1.fO]
  simp[Env.fO,MY]
theorem KI {ρ:Type} (hm:P.follows .mixedOrders=true) (hC:lx P C) {io:List Nat} (hkp:keeps io ops=true) (hgo:ee ops=true) {nt:Nat} (h3:3≤nt) {k:Env→Option ρ} {r:ρ} {id:Nat}
 (hI:Inv w0 c0 (fun u=>u<nt) E a w G) (hR:∀s j w act v,E.s.getD s .no≠ .g j w act v) (h:sg C ops nt ops 0 E [] (fun E' L=>if oS ops L then k E' else none)=some r)
 (hK:∀E' a' w' G',Inv w0 c0 (fun u=>u<nt+32*ops.length) E' a' w' G'→jg ops (fun j=>j<ops.length) E' a'.tmps→E'.s.length=E.s.length→(∀i∈io,a'.tmps.getD i undef=a.tmps.getD i undef)→k E'=some r→Q .normal a' w'):
 (Code.region id ops.toArray true).wp P Q a w:=by
 obtain⟨bs,E',h1,h2,h4⟩:=Ab (l:=ops) (by simp) h
 split at h4
 ·rename_i hl
  simp only[List.append_nil]at hl
  refine wp_region_any hm ?_
  have hlen:bs.length=ops.length:=by
   have:=congrArg List.length h2
   simpa using this
  refine Sz hC hkp hgo h3 hl (E':=E') (T:=fun i=>a.tmps.getD i undef) (fun a' w' G' g1 g2 g3=>hK E' a' w' G' g1 g2 h1.len g3 h4) _ (bs:=bs) (E:=E) (G:=G) (by simp[hlen]) h1 (fun b hb=>by simpa using hb) ?_ (by simp) ?_ ?_ ?_ ?_ (fun _ _=>rfl)
  ·have:(bs.map (·.i)).Pairwise (·<·):=by rw[h2];exact List.pairwise_lt_range'
   rw[List.pairwise_map]at this
   exact this
  ·intro i hi
   rw[h2]
   simp[Array.getD,hi,List.mem_range'_1]
  ·intro i o ho hl
   have:=(List.getElem?_eq_some_iff.1 ho).1
   simp[Array.getD,this]at hl
  ·refine(hI.drawn _).mono (fun u hu=> .inl hu)
  ·intro s j w1 act v he
   exact absurd he (hR s j w1 act v)
 ·cases h4
end
end Vg
namespace Vg
open Go
theorem vW (n:Nat):List.range n=List.range' 0 n:=List.range_eq_range'
section
variable {P:Program} {C:Cx} {w0:World} {c0:C0} {U:Nat→Prop} {E:Env} {a:Act} {w:World} {G:Gh} {ops:List Oper} {L:Nat→Prop} {Q:Exit→Act→World→Prop} {ρ:Type}
theorem Ry {nt i:Nat} {o:Oper} {E':Env} (h:EV C ops nt i o E=some E'):E'.s.length=E.s.length:=by
 unfold EV at h
 split at h
 ·cases h
 ·split at h
  ·cases h
  ·rename_i ef _
   cases ef with
   |val v=>simp only[aZ,Option.some.injEq]at h;subst h;exact dR ..
   |chk c v=>
    simp only[aZ]at h
    split at h
    ·split at h
     ·simp only[Option.some.injEq]at h;subst h;exact dR ..
     ·cases h
    ·split at h
     ·simp only[Option.some.injEq]at h;subst h;exact dR ..
     ·cases h
   |opt α z x f=>
    simp only[aZ,Option.bind_eq_some_iff,Option.some.injEq]at h
    obtain⟨y,_,h⟩:=h;subst h;exact dR ..
   |put b s v=>
    simp only[aZ]at h
    split at h
    ·simp only[Option.some.injEq]at h;subst h;simp
    ·cases h
   |app c kl gv t v=>
    simp only[aZ]at h
    split at h
    ·split at h
     ·simp only[Option.some.injEq]at h;subst h;rw[dR,Nu,Ni]
     ·cases h
    ·cases h
   |elem gv b e l m=>
    simp only[aZ]at h
    split at h
    ·simp only[Option.some.injEq]at h;subst h;simp[Env.elem]
    ·cases h
   |call α x tks f rp=>
    simp only[aZ]at h
    split at h
    ·simp only[Option.bind_eq_some_iff,Option.some.injEq]at h
     obtain⟨y,_,h⟩:=h;subst h;rw[dR,iN,qd]
    ·cases h
theorem M7 (hC:lx P C) {io:List Nat} (hkp:keeps io ops=true) (hgo:ee ops=true) {nt:Nat} (h3:3≤nt) {k:Env→Option ρ} {r:ρ}:∀ {l:List Oper} {i:Nat} {E:Env} {a:Act} {w:World} {G:Gh},ops.drop i=l→i+l.length=ops.length→
 Inv w0 c0 (fun u=>u<nt+32*i) E a w G→jg ops (fun j=>j<i) E a.tmps→ur C ops nt l i E k=some r→
 (∀E' a' w' G',Inv w0 c0 (fun u=>u<nt+32*ops.length) E' a' w' G'→jg ops (fun j=>j<ops.length) E' a'.tmps→E'.s.length=E.s.length→(∀i∈io,a'.tmps.getD i undef=a.tmps.getD i undef)→k E'=some r→Q .normal a' w')→
 wpOps P ops.toArray Q (List.range' i l.length) a w
 | [],i,E,a,w,G,hd,hl,hI,hR,h,hK=>by
   have hi:i=ops.length:=by simpa using hl
   subst hi
   exact hK E a w G hI hR rfl (fun _ _=>rfl) h
 |o::l,i,E,a,w,G,hd,hl,hI,hR,h,hK=>by
  have ho:ops[i]?=some o:=by
   have:=congrArg List.head? hd
   simpa[List.head?_drop]using this
  rw[P2,Option.bind_eq_some_iff]at h
  obtain⟨E',hs,h⟩:=h
  have hlen:=Ry hs
  unfold EV at hs
  split at hs
  ·cases hs
  ·rename_i act hga
   split at hs
   ·cases hs
   ·rename_i ef hev
    rw[List.length_cons,List.range'_succ,wpOps_cons]
    refine HQ hC ho hI hR (fun j w' hj=>u6 hgo ho hj) (by omega) hgo (tk:=nt+32*i) (by omega) (fun u h1 h2 h=>by omega) hga hev hs (fun a' w' G' hI' hR' ⟨v,hav⟩=> ?_)
    refine M7 hC hkp hgo h3 (l:=l) (i:=i+1) (by rw[←List.drop_drop,hd];rfl) (by simp at hl⊢;omega) (hI'.mono (fun u hu=>by rcases hu with hu|hu<;>omega))
     (fun s j w1 act v he=>by
      obtain⟨q1,q2,q3⟩:=hR' s j w1 act v he
      exact⟨q1,by rcases q2 with q2|q2<;>omega,q3⟩) h (fun E2 a2 w2 G2 g1 g2 g3 g5 g4=>hK E2 a2 w2 G2 g1 g2 (g3.trans hlen) (fun j hj=>(g5 j hj).trans (by rw[hav];exact jd hkp (List.mem_of_getElem? ho) hj)) g4)
theorem Kq {N:Nat} (hI:Inv w0 c0 (fun u=>u<N) E a w G) (hR:jg ops L E a.tmps):Inv w0 c0 (fun u=>u<N) {gl E ops with nt:=N} a w G∧qf (gl E ops).s∧(gl E ops).s.length=E.s.length:=by
 unfold gl
 split
 ·rename_i hn
  refine⟨{hI with},fun s j w act v he=> ?_,rfl⟩
  obtain⟨_,_,o,ho,w',hg⟩:=hR s j w act v he
  rw[List.all_eq_true]at hn
  have:=hn o ho
  rw[hg]at this
  cases this
 ·have hg:∀s,(E.s.map SV.je).getD s .no=(E.s.getD s .no).je:=fun s=>getD_map (T:=SV.je) rfl s
  have hcase:∀s,(E.s.getD s .no).je= .no∨(E.s.getD s .no).je=E.s.getD s .no:=by
   intro s
   cases E.s.getD s .no<;>simp[SV.je]
  refine⟨{hI with len:=by simpa using hI.len,slots:=fun s=> ?_,sc:=fun s c hc=> ?_,bt:=fun s c hc=> ?_,rt:=fun s c hc=> ?_,uni:=fun s s' t v v' h1 h2=> ?_},fun s j w act v he=> ?_,by simp⟩
  ·simp only[hg]
   rcases hcase s with h|h
   ·rw[h];trivial
   ·rw[h];exact hI.slots s
  ·simp only[hg]at hc
   rcases hcase s with h|h
   ·rw[h]at hc;simp[SV.sc]at hc
   ·rw[h]at hc;exact hI.sc s c hc
  ·simp only[hg]at hc
   rcases hcase s with h|h
   ·rw[h]at hc;simp[SV.bt]at hc
   ·rw[h]at hc;exact hI.bt s c hc
  ·simp only[hg]at hc
   rcases hcase s with h|h
   ·rw[h]at hc;simp[SV.rt]at hc
   ·rw[h]at hc;exact hI.rt s c hc
  ·simp only[hg]at h1 h2
   rcases hcase s with h|h<;>rcases hcase s' with h'|h'
   ·rw[h]at h1;cases h1
   ·rw[h]at h1;cases h1
   ·rw[h']at h2;cases h2
   ·rw[h]at h1;rw[h']at h2;exact hI.uni s s' t v v' h1 h2
  ·simp only[hg]at he
   exact Tf he
def FM (C:Cx) (w0:World) (c0:C0) (T:Nat→Value) (r:ρ) (k:Env→Option ρ) (R:Act→World→Prop):Prop:=
 ∀E a w G,Inv w0 c0 (fun u=>u<E.nt) E a w G→qf E.s→E.s.length=C.n→3≤E.nt→(∀i∈C.io,a.tmps.getD i undef=T i)→k E=some r→R a w
theorem rk {id:Nat} {k:Env→Option ρ} {ke:List (Nat×(Env→Option ρ))} {i:Nat}:List.lookup i ((id,k)::ke)=if i=id then some k else List.lookup i ke:=by
 simp only[List.lookup]
 by_cases h:i=id
 ·simp[h]
 ·have:(i==id)=false:=by simpa using h
  simp[this,h]
theorem US (hC:lx P C) {r:ρ} {T:Nat→Value}:∀(c:Code) {E:Env} {a:Act} {w:World} {G:Gh} {kn kr:Env→Option ρ} {ke:List (Nat×(Env→Option ρ))} {Q:Exit→Act→World→Prop},
 Inv w0 c0 (fun u=>u<E.nt) E a w G→qf E.s→E.s.length=C.n→3≤E.nt→(∀i∈C.io,a.tmps.getD i undef=T i)→ev C c E kn ke kr=some r→FM C w0 c0 T r kn (Q .normal)→(∀id k,ke.lookup id=some k→FM C w0 c0 T r k (Q (.exit id)))→FM C w0 c0 T r kr (Q .ret)→
 c.wp P Q a w:=by
 intro c
 induction c with
 |skip=>intro E a w G kn kr ke Q hI hg hl h3 hT h hn he hr;exact wp_skip (hn E a w G hI hg hl h3 hT h)
 |region id ops draw=>
  intro E a w G kn kr ke Q hI hg hl h3 hT h hn he hr
  simp only[ev]at h
  split at h
  ·rename_i hc
   simp only[Bool.and_eq_true]at hc
   obtain⟨hgo,hkp⟩:=hc
   have fin:∀E' a' w' G',Inv w0 c0 (fun u=>u<E.nt+32*ops.toList.length) E' a' w' G'→jg ops.toList (fun j=>j<ops.toList.length) E' a'.tmps→E'.s.length=E.s.length→(∀i∈C.io,a'.tmps.getD i undef=a.tmps.getD i undef)→
    kn {gl E' ops.toList with nt:=E.nt+32*ops.size}=some r→Q .normal a' w':=by
    intro E' a' w' G' g1 g2 g3 g5 g4
    obtain⟨k1,k2,k3⟩:=Kq g1 g2
    refine hn {gl E' ops.toList with nt:=E.nt+32*ops.size} a' w' G' ?_ k2 (by rw[k3,g3,hl]) (by show 3≤E.nt+32*ops.size;omega) (fun i hi=>(g5 i hi).trans (hT i hi)) g4
    simpa using k1
   split at h
   ·rename_i hd
    subst hd
    exact KI (ops:=ops.toList) hC.mixed hC hkp hgo h3 hI hg h fin
   ·rename_i hd
    have hdraw:draw=false:=by simpa using hd
    subst hdraw
    refine wp_region ?_
    have:=M7 (Q:=Q) hC hkp hgo h3 (l:=ops.toList) (i:=0) (by simp) (by simp) (by simpa using hI) (fun s j w1 act v he=>absurd he (hg s j w1 act v)) h fin
    rw[vW]
    simpa using this
  ·cases h
 |seq x y ihx ihy=>
  intro E a w G kn kr ke Q hI hg hl h3 hT h hn he hr
  refine wp_seq ?_
  simp only[ev]at h
  split at h
  ·refine ihx (Q:=Exit.then (y.wp P Q) Q) hI hg hl h3 hT h (fun E' a' w' G' g1 g2 g3 g4 gT g5=> ?_) he hr
   exact ihy g1 g2 g3 g4 gT g5 hn he hr
  ·rename_i n _
   simp only[aO]at h
   refine ihx (Q:=Exit.then (y.wp P Q) Q) hI hg hl h3 hT h (fun E' a' w' G' g1 g2 g3 g4 gT g5=> ?_) he hr
   rw[Option.bind_eq_some_iff]at g5
   obtain⟨t,ht,g5⟩:=g5
   obtain⟨G2,k1,k2,k3,k4⟩:=rM g1 g3 ht
   exact ihy k1 k2 k3 k4 gT g5 hn he hr
 |cond c x y ihx ihy=>
  intro E a w G kn kr ke Q hI hg hl h3 hT h hn he hr
  simp only[ev]at h
  split at h
  ·rename_i b sh hb
   have hR:RI ([]:List Oper) E a.tmps:=fun s j w1 act v he=>absurd he (hg s j w1 act v)
   obtain⟨⟨cs,h1,h2⟩,_⟩:=en hI hR (g:=none) (by rintro j w' ⟨⟩) hb
   have hev:a.eval c= .bool b:=by
    cases sh with
    |leaf=>rw[h1,show cs=_ from h2];rfl
    |sl m=>exact h2.elim
    |pair a b=>exact h2.elim
   refine wp_cond hev ?_
   split at h
   ·rename_i hb;subst hb;exact ihx hI hg hl h3 hT h hn he hr
   ·rename_i hb
    have:b=false:=by simpa using hb
    subst this
    exact ihy hI hg hl h3 hT h hn he hr
  ·cases h
 |block id c ih=>
  intro E a w G kn kr ke Q hI hg hl h3 hT h hn he hr
  refine wp_block ?_
  simp only[ev]at h
  refine ih (Q:=Exit.inBlock id Q) hI hg hl h3 hT h hn (fun i k hk=> ?_) hr
  rw[rk]at hk
  intro E2 a2 w2 G2 g1 g2 g3 g4 gT g5
  show Exit.inBlock id Q (.exit i) a2 w2
  simp only[Exit.inBlock]
  split at hk
  ·rename_i e
   simp only[Option.some.injEq]at hk
   subst hk
   simp only[e,if_true]
   exact hn E2 a2 w2 G2 g1 g2 g3 g4 gT g5
  ·rename_i e
   simp only[e,if_false]
   exact he i k hk E2 a2 w2 G2 g1 g2 g3 g4 gT g5
 |loop c ih=>
  intro E a w G kn kr ke Q hI hg hl h3 hT h hn he hr
  simp only[ev]at h
  split at h
  ·cases h
  ·rename_i n _
   rw[Option.bind_eq_some_iff]at h
   obtain⟨t,ht,h⟩:=h
   obtain⟨G2,k1,k2,k3,k4⟩:=rM hI hl ht
   refine wp_loop_rounds C.k ?_
   have key:∀(m:Nat) (t:aT (jK n.ks)) (a:Act) (w:World) (G:Gh),az m (fun G t=>ev C c (dB C.n n t) (fun E'=>(proj n E').bind G) ke kr) t=some r→
    Inv w0 c0 (fun u=>u<(dB C.n n t).nt) (dB C.n n t) a w G→qf (dB C.n n t).s→(dB C.n n t).s.length=C.n→3≤(dB C.n n t).nt→(∀i∈C.io,a.tmps.getD i undef=T i)→Code.rounds P c Q m a w:=by
    intro m
    induction m with
    |zero=>intro t a w G h;simp[az]at h
    |succ m ihm=>
     intro t a w G h g1 g2 g3 g4 gT
     rw[rounds_succ]
     simp only[az]at h
     refine ih (Q:=Exit.then (Code.rounds P c Q m) Q) g1 g2 g3 g4 gT h (fun E' a' w' G' q1 q2 q3 q4 qT q5=> ?_) he hr
     rw[Option.bind_eq_some_iff]at q5
     obtain⟨t',ht',q5⟩:=q5
     obtain⟨G3,p1,p2,p3,p4⟩:=rM q1 q3 ht'
     exact ihm t' a' w' G3 q5 p1 p2 p3 p4 qT
   exact key C.k t a w G2 h k1 k2 k3 k4 hT
 |exit id=>
  intro E a w G kn kr ke Q hI hg hl h3 hT h hn he hr
  simp only[ev]at h
  split at h
  ·rename_i k hk
   exact wp_exit (he id k hk E a w G hI hg hl h3 hT h)
  ·cases h
 |ret=>intro E a w G kn kr ke Q hI hg hl h3 hT h hn he hr;exact wp_ret (hr E a w G hI hg hl h3 hT h)
 |_=>intro E a w G kn kr ke Q hI hg hl h3 hT h hn he hr;simp[ev]at h
end
end Vg
