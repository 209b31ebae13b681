/- Texts of this law, joined. -/
import Derived.Test.YteoaddgmjfnhdaaGreatE7
import Derived.Test.YteoaddgmjfnhdaaGreatVd
set_option linter.unusedSimpArgs false
set_option linter.unusedVariables false
set_option linter.unusedSectionVars false
open Option renaming bind_some → akR,bind → alu
open Bool renaming false_eq_true → akS,eq_false_or_eq_true → akU,or_true → akW,not_false → akX,not_true → akY,eq_iff_iff → ak1,true_and → ak3,and_eq_true → ak5,true_or → ak8,false_and → ala,and_true → alb,and_false → ald,decide_and → alr,and_self → alv,false_or → alw,or_self → alx,eq_false_iff → alF
open Int renaming toNat_natCast → akT,toNat → alo
open Nat renaming lt_irrefl → akV,le_trans → akZ,add_sub_cancel → alg,le_refl → ali,eq_zero_or_pos → alE
open List renaming length_singleton → ak0,getD_eq_getElem?_getD → ak2,take_length → ak4,take_succ_eq_append_getElem → ak6,length_append → ak7,nil_append → ak9,length → alc,getElem?_eq_getElem → ale,length_reverse → alf,length_nil → alh,length_set → alj,length_cons → alm,length_take → aln,length_filter_le → alp,takeWhile_append_dropWhile → alq,takeWhile_cons → als,map_append → aly,takeWhile_sublist → alz,getD_cons_succ → alA,take → alB,filter_append → alC,map_singleton → alD,filter_cons → alG,ext_getElem → alH,foldl_cons → alI,takeWhile → alJ,replicate → alK
open Prod.mk renaming injEq → alk
open Prod renaming ext → alL,fst → alM
namespace Vg.Tryz
open Go Vg
theorem Kp {j:Nat} (h:j<4611686018427387904):IntKind.i64.wrap (((j+1:Nat):Int)-1)=(j:Int):=by
 rw[wrap64 (by omega) (by omega)];omega
theorem Ns (j:Nat):decide ((((j+1:Nat):Int))>0)=true:=by simp
theorem UB:decide ((((0:Nat):Int))>0)=false:=by simp
def dv (a b:aJ):Bool:=decide (a.1<b.1)||(decide (a.1=b.1)&&decide (a.2<b.2))
def wM (l:List aJ):Bool:=
 bj 0 l.length (fun i=>(decide (0≤(l.getD i aw.aa).1)&&decide (0≤(l.getD i aw.aa).2))&&(i==0|| !dv (l.getD i aw.aa) (l.getD ((i-1)/2) aw.aa)))&&decide (l.length≤16)
abbrev xW (c:aO):List af:=c.2
def bE (p:aG):List af:=p.2.2.flatMap xW
def de (l:List aG):List af:=l.flatMap bE
def lB (l:List aG):Nat:=(de l).length
def jj (p:aG) (f:Int):Option Nat:=gB p.2.2.length (fun i=>decide ((p.2.2.getD i ax.aa).1=f))
def eC:af:=([],0,0,ByteArray.empty)
def sM (k:Nat) (p:aG) (s:List ay):af×Bool:=
 match jj p (dt k s)with
 |none=>(eC,false)
 |some i=>match iu (p.2.2.getD i ax.aa).2 s with
  |none=>(eC,false)
  |some j=>((p.2.2.getD i ax.aa).2.getD j ab.aa,true)
def df (k:Nat) (l:List aG) (s:List ay):Int:=eJ (dt k s) l.length
def dQ (k:Nat) (l:List aG) (s:List ay):af×Bool:=if l.length=0 then(eC,false)else sM k (l.getD (df k l s).toNat aj.aa) s
def yw (c:bT) (g:aD):Int:=IntKind.i64.wrap (if g.2.2.2.1= -1 then g.2.2.1+c.2.2.2.1 else g.2.2.2.1+c.2.2.2.2.1)
theorem ek {α β:Type} {f:α→List β} {l:List α} {i:Nat} (d:α) (h:i<l.length):(l.take (i+1)).flatMap f=(l.take i).flatMap f++f (l.getD i d):=by
 rw[gR d h,List.flatMap_append];simp
section
variable {k:Nat} (hk:9223372036854775808≤k)
include hk
theorem mh {e f:Ty} {g:e.den→List f.den} (h:∀x,ag (.sl f) (g x)≤ag e x):∀l:List e.den,ag (.sl f) (l.flatMap g)≤ag (.sl e) l
 | []=>by simp[ag]
 |x::l=>by
  have h1:=h x
  have h2:=mh h l
  rw[List.flatMap_cons,oN,ez]
  omega
theorem jw (p:aG):ag (.sl ab) (bE p)≤ag aj p:=by
 rw[cM hk]
 exact mh hk (e:=ax) (f:=ab) (g:=xW) (fun c=>by rw[cE hk];exact ali _) p.2.2
theorem fW (l:List aG):ag (.sl ab) (de l)≤ag (.sl aj) l:=mh hk (e:=aj) (f:=ab) (g:=bE) (jw hk) l
theorem fu {p:aG} {i:Nat} (hs:ag aj p≤1048576) (hi:i<p.2.2.length):ag ax (p.2.2.getD i ax.aa)≤1048576∧ag (.sl ab) (p.2.2.getD i ax.aa).2≤1048576:=by
 rw[cM hk]at hs
 have h1:=cY (e:=ax) (d:=ax.aa) hi
 have h2:=cE hk (p.2.2.getD i ax.aa)
 omega
theorem Re {p:aG} {i n:Int} (hs:ag aj p≤1048576):qA k (p,i,n,())=some (mR k p i n,()):=by
 have hl:p.2.2.length≤1048576:=by rw[cM hk]at hs;have:=ar (e:=ax) (l:=p.2.2);omega
 simp only[qA,aL]
 refine(ch (fun j:Nat=>(i,n,p,p.2.2,(p.2.2.length:Int),(j:Int),())) (fun j=>iV k (p.2.2.getD j ax.aa)&&(decide (eJ (p.2.2.getD j ax.aa).1 n=i)&&CY p.2.2 j)) p.2.2.length
  (e:=some (bO p.1 (-1) 4&&decide (0≤p.2.1),())) (no:=some (false,())) ?_ ?_ k 0 (by omega)).trans ?_
 ·intro G j hj
  obtain⟨h1,_⟩:=fu hk hs hj
  cases j with
  |zero=>
   simp only[aF,au hj,hj,UB,decide_true,if_true,akT,xD hk h1,lC hk,akR,cf,beq_self_eq_true,akS,if_false,CY,ak8,alb]
   rw[aU (by omega)]
   generalize iV k (p.2.2.getD 0 ax.aa)=b1
   generalize eJ (p.2.2.getD 0 ax.aa).1 n=f
   cases b1<;>by_cases hf:f=i<;>simp[hf]
  |succ m=>
   have hm:m<p.2.2.length:=by omega
   simp only[aF,au hj,au hm,hj,Ns,Kp (show m<4611686018427387904 by omega),decide_true,if_true,akT,xD hk h1,lC hk,akR,cf,beq_self_eq_true,CY,akW,alg]
   rw[aU (by omega)]
   generalize iV k (p.2.2.getD (m+1) ax.aa)=b1
   generalize eJ (p.2.2.getD (m+1) ax.aa).1 n=f
   generalize (p.2.2.getD m ax.aa).1=u
   generalize (p.2.2.getD (m+1) ax.aa).1=v
   have hb:((m+1:Nat)==0)=false:=rfl
   rw[hb]
   cases b1<;>by_cases hf:f=i<;>by_cases huv:u<v<;>simp[hf,huv]<;>omega
 ·intro G j hj
  simp only[aF]
  rw[if_neg (by simp;omega),fK hk,akR]
  generalize bO p.1 (-1) 4=b
  cases b<;>simp
 ·unfold mR
  cases bj 0 p.2.2.length (fun j=>iV k (p.2.2.getD j ax.aa)&&(decide (eJ (p.2.2.getD j ax.aa).1 n=i)&&CY p.2.2 j))<;>simp
theorem OR {p:aG} {i n:Int} (hs:ag aj p≤1048576):qk k (p,i,n,())=some (mR k p i n,()):=by
 have hl:p.2.2.length≤1048576:=by rw[cM hk]at hs;have:=ar (e:=ax) (l:=p.2.2);omega
 simp only[qk,aL]
 refine(ch (fun j:Nat=>(i,n,p,(j:Int),())) (fun j=>iV k (p.2.2.getD j ax.aa)&&(decide (eJ (p.2.2.getD j ax.aa).1 n=i)&&CY p.2.2 j)) p.2.2.length
  (e:=some (bO p.1 (-1) 4&&decide (0≤p.2.1),())) (no:=some (false,())) ?_ ?_ k 0 (by omega)).trans ?_
 ·intro G j hj
  obtain⟨h1,_⟩:=fu hk hs hj
  cases j with
  |zero=>
   simp only[aF,au hj,hj,UB,decide_true,if_true,akT,zg hk h1,kL hk,akR,cf,beq_self_eq_true,akS,if_false,CY,ak8,alb,akW,ald,akX]
   rw[aU (by omega)]
   generalize iV k (p.2.2.getD 0 ax.aa)=b1
   generalize eJ (p.2.2.getD 0 ax.aa).1 n=f
   cases b1<;>by_cases hf:f=i<;>simp[hf]
  |succ m=>
   have hm:m<p.2.2.length:=by omega
   simp only[aF,au hj,au hm,hj,Ns,Kp (show m<4611686018427387904 by omega),decide_true,if_true,akT,zg hk h1,kL hk,akR,cf,beq_self_eq_true,CY,akW,alg]
   rw[aU (by omega)]
   generalize iV k (p.2.2.getD (m+1) ax.aa)=b1
   generalize eJ (p.2.2.getD (m+1) ax.aa).1 n=f
   generalize (p.2.2.getD m ax.aa).1=u
   generalize (p.2.2.getD (m+1) ax.aa).1=v
   have hb:((m+1:Nat)==0)=false:=rfl
   rw[hb]
   cases b1<;>by_cases hf:f=i<;>by_cases huv:u<v<;>simp[hf,huv]<;>omega
 ·intro G j hj
  simp only[aF]
  rw[if_neg (by simp;omega),iJ hk,akR]
  generalize bO p.1 (-1) 4=b
  cases b<;>simp
 ·unfold mR
  cases bj 0 p.2.2.length (fun j=>iV k (p.2.2.getD j ax.aa)&&(decide (eJ (p.2.2.getD j ax.aa).1 n=i)&&CY p.2.2 j))<;>simp
theorem jg {l:List aG} {i:Nat} (hs:ag (.sl aj) l≤1048576) (hi:i<l.length):ag aj (l.getD i aj.aa)≤1048576:=by
 have h1:=cY (e:=aj) (d:=aj.aa) hi
 omega
theorem Nh {l:List aG} (hs:ag (.sl aj) l≤1048576):oQ k (l,())=some (jL k l,()):=by
 have hl:=ar (e:=aj) (l:=l)
 simp only[oQ]
 rw[fK hk,akR]
 unfold jL
 cases hin:bO l.length 1 3 with
 |false=>simp
 |true=>
  rw[if_neg (by simp)]
  refine(ch (fun i:Nat=>(l,l,(l.length:Int),(i:Int),())) (fun i=>mR k (l.getD i aj.aa) i l.length) l.length (e:=some (true,())) (no:=some (false,())) ?_ ?_ k 0 (by omega)).trans ?_
  ·intro G i hi
   simp only[aF,au hi,hi,decide_true,if_true,akT,Re hk (jg hk hs hi),akR]
   rw[aU (by omega)]
   cases mR k (l.getD i aj.aa) i l.length<;>simp
  ·intro G i hi
   simp only[aF]
   rw[if_neg (by simp;omega)]
  ·cases bj 0 l.length (fun i=>mR k (l.getD i aj.aa) i l.length)<;>simp
theorem Mv {l:List aG} (hs:ag (.sl aj) l≤1048576):pE k (l,())=some (jL k l,()):=by
 have hl:=ar (e:=aj) (l:=l)
 simp only[pE,aL]
 unfold jL
 refine(ch (fun i:Nat=>(l,(i:Int),())) (fun i=>mR k (l.getD i aj.aa) i l.length) l.length (e:=some (bO l.length 1 3,())) (no:=some (false,())) ?_ ?_ k 0 (by omega)).trans ?_
 ·intro G i hi
  simp only[aF,au hi,hi,decide_true,if_true,akT,OR hk (jg hk hs hi),akR]
  rw[aU (by omega)]
  cases mR k (l.getD i aj.aa) i l.length<;>simp
 ·intro G i hi
  simp only[aF]
  rw[if_neg (by simp;omega),iJ hk,akR]
 ·cases bj 0 l.length (fun i=>mR k (l.getD i aj.aa) i l.length)<;>simp
theorem qR {p:aG} (hs:ag aj p≤1048576):ik k (p,())=some (bE p,()):=by
 have hl:p.2.2.length≤1048576:=by rw[cM hk]at hs;have:=ar (e:=ax) (l:=p.2.2);omega
 simp only[ik]
 refine bZ (fun i:Nat=>(p,(p.2.2.take i).flatMap xW,(i:Int),())) p.2.2.length (fun G i hi=> ?_) (fun G=> ?_) k 0 (by omega) (by omega)
 ·obtain⟨h1,h2⟩:=fu hk hs hi
  have hb:=mh hk (e:=ax) (f:=ab) (g:=xW) (fun c=>by rw[cE hk];exact ali _) (p.2.2.take i)
  have hb2:=cN (e:=ax) p.2.2 i
  have hb3:=ar (e:=ab) (l:=(p.2.2.take i).flatMap xW)
  have hb4:=ar (e:=ab) (l:=(p.2.2.getD i ax.aa).2)
  rw[cM hk]at hs
  simp only[aF,au hi,hi,decide_true,if_true,akT]
  rw[gx hk (by omega),akR,if_pos (by simp only[decide_eq_true_eq];omega),aU (by omega),ek ax.aa hi]
 ·simp[bE]
theorem qW {p:aG} (hs:ag aj p≤1048576):ij k (p,())=some (bE p,()):=by
 have hl:p.2.2.length≤1048576:=by rw[cM hk]at hs;have:=ar (e:=ax) (l:=p.2.2);omega
 simp only[ij]
 refine bZ (fun i:Nat=>(p,(p.2.2.take i).flatMap xW,p.2.2,(p.2.2.length:Int),(i:Int),())) p.2.2.length (fun G i hi=> ?_) (fun G=> ?_) k 0 (by omega) (by omega)
 ·obtain⟨h1,h2⟩:=fu hk hs hi
  have hb:=mh hk (e:=ax) (f:=ab) (g:=xW) (fun c=>by rw[cE hk];exact ali _) (p.2.2.take i)
  have hb2:=cN (e:=ax) p.2.2 i
  have hb3:=ar (e:=ab) (l:=(p.2.2.take i).flatMap xW)
  have hb4:=ar (e:=ab) (l:=(p.2.2.getD i ax.aa).2)
  rw[cM hk]at hs
  simp only[aF,au hi,hi,decide_true,if_true,akT]
  rw[cR hk (by omega),akR,if_pos (by simp only[decide_eq_true_eq];omega),aU (by omega),ek ax.aa hi]
 ·simp[bE]
end
theorem Rz {α:Type} (lt:α→α→Bool) (x:α):∀r:List α,dR lt x r=r.takeWhile (lt x)++x::r.dropWhile (lt x)
 | []=>rfl
 |y::r=>by
  simp only[dR,als,List.dropWhile_cons]
  split
  ·rw[Rz lt x r];rfl
  ·rfl
theorem Fb {α:Type} (p:α→Bool) (d:α):∀(r:List α) (m:Nat),m<(r.takeWhile p).length→p (r.getD m d)=true
 | [],m,h=>by simp at h
 |y::r,m,h=>by
  rw[als]at h
  split at h
  ·cases m with
   |zero=>simpa
   |succ m=>rw[alA];exact Fb p d r m (by simpa using h)
  ·simp at h
theorem Em {α:Type} (p:α→Bool) (d:α):∀(r:List α),(r.takeWhile p).length<r.length→p (r.getD (r.takeWhile p).length d)=false
 | [],h=>by simp at h
 |y::r,h=>by
  rw[als]at h⊢
  split
  ·rename_i hp
   rw[if_pos hp]at h
   simp only[alm,alA]
   exact Em p d r (by simpa using h)
  ·simpa using ‹¬p y=true›
theorem Um {α:Type} (d:α) (l:List α) (m:Nat) (h:m<l.length):l.reverse.getD m d=l.getD (l.length-1-m) d:=by
 rw[ak2,List.getElem?_reverse h,←ak2]
def fY {α:Type} (lt:α→α→Bool) (x:α) (out:List α):Nat:=(out.reverse.takeWhile (lt x)).length
theorem abC {α:Type} (lt:α→α→Bool) (x:α) (r:List α):(dR lt x r).reverse=r.reverse.take (r.reverse.length-fY lt x r.reverse)++[x]++r.reverse.drop (r.reverse.length-fY lt x r.reverse):=by
 have hc:(r.takeWhile (lt x)).length≤r.length:=(alz _).length_le
 have hc2:fY lt x r.reverse=(r.takeWhile (lt x)).length:=by unfold fY;rw[List.reverse_reverse]
 have hl:r.reverse.length=r.length:=alf ..
 rw[Rz,hc2,hl,List.take_reverse,List.drop_reverse]
 have e1:r.length-(r.length-(r.takeWhile (lt x)).length)=(r.takeWhile (lt x)).length:=by omega
 rw[e1]
 have e2:r.drop (r.takeWhile (lt x)).length=r.dropWhile (lt x):=by
  conv=>lhs;arg 2;rw[←alq (p:=lt x) (l:=r)]
  rw[List.drop_left]
 have e3:r.take (r.takeWhile (lt x)).length=r.takeWhile (lt x):=by
  conv=>lhs;arg 2;rw[←alq (p:=lt x) (l:=r)]
  rw[List.take_left]
 rw[e2,e3]
 simp
def ui {α:Type} (lt:α→α→Bool) (l:List α):List α:=l.foldl (fun r x=>dR lt x r) []
theorem KH {α:Type} (lt:α→α→Bool) (x:α):∀r:List α,(dR lt x r).length=r.length+1
 | []=>rfl
 |y::r=>by simp only[dR];split<;>simp[KH lt x r]
theorem Zh {α:Type} (lt:α→α→Bool) {l:List α} {i:Nat} (d:α) (h:i<l.length):ui lt (l.take (i+1))=dR lt (l.getD i d) (ui lt (l.take i)):=by
 unfold ui
 rw[gR d h,List.foldl_append];rfl
theorem Ry {α:Type} (lt:α→α→Bool) (l:List α):(ui lt l).length=l.length:=by
 have:∀(l r:List α),(l.foldl (fun r x=>dR lt x r) r).length=l.length+r.length:=by
  intro l
  induction l with
  |nil=>intro r;simp
  |cons x l ih=>intro r;rw[alI,ih,KH,alm];omega
 simpa[ui]using this l []
theorem MV {e:Ty} (lt:e.den→e.den→Bool) (x:e.den):∀r:List e.den,ag (.sl e) (dR lt x r)=1+ag e x+ag (.sl e) r
 | []=>by simp only[dR];rw[ez]
 |y::r=>by
  simp only[dR]
  split
  ·rw[ez,ez,MV lt x r];omega
  ·rw[ez,ez]
theorem Zy {e:Ty} (lt:e.den→e.den→Bool) (l:List e.den):ag (.sl e) (ui lt l)=ag (.sl e) l:=by
 have:∀(l r:List e.den),ag (.sl e) (l.foldl (fun r x=>dR lt x r) r)=ag (.sl e) l+ag (.sl e) r:=by
  intro l
  induction l with
  |nil=>intro r;simp[ag]
  |cons x l ih=>intro r;rw[alI,ih,MV,ez];omega
 have h:=this l []
 rw[rj]at h
 exact h
theorem acZ {e:Ty} (l:List e.den):ag (.sl e) l.reverse=ag (.sl e) l:=by
 simp only[ag,alf,List.map_reverse,List.sum_reverse]
theorem Y7 {e:Ty} (lt:e.den→e.den→Bool) (l:List e.den):ag (.sl e) (gg lt l)=ag (.sl e) l:=by
 show ag (.sl e) (ui lt l).reverse=_
 rw[acZ,Zy]
theorem Rg (l:List af):ag (.sl ab) (dw l)=ag (.sl ab) l:=Y7 (e:=ab) db l
section
variable {k:Nat} (hk:9223372036854775808≤k)
include hk
theorem R4 {l:List af} (hs:ag (.sl ab) l≤1048576):jM k (l,())=some (dw l,()):=by
 have hl:=ar (e:=ab) (l:=l)
 simp only[jM]
 refine bZ (fun i:Nat=>(l,(ui db (l.take i)).reverse,(i:Int),())) l.length (fun G i hi=> ?_) (fun G=> ?_) k 0 (by omega) (by omega)
 ·obtain⟨h1,h2⟩:=fm hk hs hi
  simp only[aF,au hi,hi,decide_true,if_true,akT]
  rw[ew hk (by omega),akR,Zh db ab.aa hi,abC]
  generalize hx:l.getD i ab.aa=x at*
  have hol:(ui db (l.take i)).reverse.length=i:=by rw[alf,Ry];simp;omega
  generalize hout:(ui db (l.take i)).reverse=out at*
  have hcl:fY db x out≤out.length:=by
   unfold fY
   have:=(alz (db x) (l:=out.reverse)).length_le
   simpa using this
  simp only[aL]
  refine bZ (fun m:Nat=>(l,out,(i:Int),x,((out.length-m:Nat):Int),())) (fY db x out) (fun G2 m hm=> ?_) (fun G2=> ?_) k 0 (by omega) (by omega)
  ·have hlt:db x (out.getD (out.length-1-m) ab.aa)=true:=by
    have:=Fb (db x) ab.aa out.reverse m hm
    rwa [Um _ _ _ (by omega)]at this
   obtain⟨q,hq⟩:∃q,out.length-m=q+1:=⟨out.length-m-1,by omega⟩
   have hq2:out.length-(m+1)=q:=by omega
   have hq3:out.length-1-m=q:=by omega
   rw[hq3]at hlt
   simp only[hq,Ns,Kp (show q<4611686018427387904 by omega),au (show q<out.length by omega),akW,if_true,beq_self_eq_true,akT,nv hk h2,nN hk h2,akR,hq2]
   rw[if_pos hlt]
  ·have hend:(if decide (((out.length-fY db x out:Nat):Int)>0)=true then db x (out.getD (out.length-fY db x out-1) ab.aa)else false)=false:=by
    by_cases h0:fY db x out=out.length
    ·rw[h0,Nat.sub_self];rfl
    ·rw[if_pos (by simp;omega)]
     have:=Em (db x) ab.aa out.reverse (by rw[alf];unfold fY at h0 hcl;omega)
     rw[Um _ _ _ (by unfold fY at h0 hcl;omega)]at this
     unfold fY
     rw[show out.length-(alJ (db x) out.reverse).length-1=out.length-1-(alJ (db x) out.reverse).length by omega]
     exact this
   have fin:(if(decide (0≤(((out.length-fY db x out:Nat):Int))∧(((out.length-fY db x out:Nat):Int))≤((alc out:Nat):Int)))=true then
    if(decide (alc ([]:List af)+alc (alB (alo ((out.length-fY db x out:Nat):Int)) out)<4294967296))=true then
     if(decide (alc (([]:List af)++(alB (alo ((out.length-fY db x out:Nat):Int)) out))+alc ([x]:List af)<4294967296))=true then
      if(decide (0≤(((out.length-fY db x out:Nat):Int))∧(((out.length-fY db x out:Nat):Int))≤((alc out:Nat):Int)))=true then
       if(decide (alc ((([]:List af)++(alB (alo ((out.length-fY db x out:Nat):Int)) out))++([x]:List af))+alc (List.drop (alo ((out.length-fY db x out:Nat):Int)) out)<4294967296))=true then
        G (l,((([]:List af)++(alB (alo ((out.length-fY db x out:Nat):Int)) out))++([x]:List af))++(List.drop (alo ((out.length-fY db x out:Nat):Int)) out),IntKind.i64.wrap ((i:Int)+(1:Int)),())
       else none
      else none
     else none
    else none
    else none)=G (l,out.take (out.length-fY db x out)++[x]++out.drop (out.length-fY db x out),((i+1:Nat):Int),()):=by
    rw[if_pos (by simp only[decide_eq_true_eq];omega),if_pos (by simp only[decide_eq_true_eq,alh,aln];omega),if_pos (by simp only[decide_eq_true_eq,ak7,alh,aln,ak0];omega),if_pos (by simp only[decide_eq_true_eq];omega),if_pos (by simp only[decide_eq_true_eq,ak7,alh,aln,ak0,List.length_drop];omega),aU (by omega),akT,ak9]
   by_cases hz:out.length-fY db x out=0
   ·rw[hz]at fin⊢
    simp only[UB,akS,if_false,beq_self_eq_true,akS,akX,ak8,if_true,akR]
    have hg:(!((false:Bool)==true)||decide (0≤IntKind.i64.wrap (((0:Nat):Int)-1)∧IntKind.i64.wrap (((0:Nat):Int)-1)<((out.length:Nat):Int)))=true:=rfl
    rw[if_pos hg]
    exact fin
   ·obtain⟨q,hq⟩:∃q,out.length-fY db x out=q+1:=⟨out.length-fY db x out-1,by omega⟩
    rw[hq]at hend fin⊢
    rw[Ns,if_pos rfl,alg]at hend
    simp only[Ns,Kp (show q<4611686018427387904 by omega),au (show q<out.length by omega),akW,if_true,beq_self_eq_true,akT,nN hk h2,akR]
    have hend2:bD x.1 (out.getD q ab.aa).1=false:=hend
    rw[if_neg (by rw[hend2];simp)]
    exact fin
 ·simp only[aF,akV,decide_false,akS,if_false,ak4]
  rfl
end
theorem xa {β:Type} {c:Bool} {a b:β} (h:c=false):(if c=true then a else b)=b:=by rw[h];rfl
theorem acn {a b:Nat} (h:a+b<4611686018427387904):IntKind.i64.wrap ((a:Int)+(b:Int))=((a+b:Nat):Int):=by
 rw[wrap64 (by omega) (by omega)];omega
theorem vR (u:Int):decide (0≤u)= !decide (u<0):=by by_cases h:u<0<;>simp[h]<;>omega
theorem yh {q:Nat} (h:q<4611686018427387904):IntKind.i64.wrap (Int.tdiv (IntKind.i64.wrap (((q+1:Nat):Int)-1)) 2)=((q/2:Nat):Int):=by
 rw[Kp h,Int.tdiv_eq_ediv_of_nonneg (by omega),wrap64 (by omega) (by omega)]
 omega
section
variable {k:Nat} (hk:9223372036854775808≤k)
include hk
theorem Hl {l:List aG} (hs:ag (.sl aj) l≤1048576):ml k (l,())=some (dw (de l),()):=by
 have hl:=ar (e:=aj) (l:=l)
 simp only[ml,aL]
 refine bZ (fun i:Nat=>(l,(l.take i).flatMap bE,(i:Int),())) l.length (fun G i hi=> ?_) (fun G=> ?_) k 0 (by omega) (by omega)
 ·have h1:=jg hk hs hi
  have hb:=fW hk (l.take i)
  unfold de at hb
  have hb1:=jw hk (l.getD i aj.aa)
  have hb2:=cN (e:=aj) l i
  have hb3:=ar (e:=ab) (l:=(l.take i).flatMap bE)
  have hb4:=ar (e:=ab) (l:=bE (l.getD i aj.aa))
  simp only[aF,au hi,hi,decide_true,if_true,akT]
  rw[qR hk h1,akR,if_pos (by simp only[decide_eq_true_eq];omega),aU (by omega),ek aj.aa hi]
 ·have hb:=fW hk l
  simp only[aF,akV,decide_false,akS,if_false,ak4]
  show alu (jM k (de l,())) _=_
  rw[R4 hk (by omega)]
  rfl
theorem GQ {l:List aG} (hs:ag (.sl aj) l≤1048576) (hn:lB l<20):mb k (l,())=some (dw (de l),()):=by
 have hl:=ar (e:=aj) (l:=l)
 simp only[mb,aL]
 refine bZ (fun i:Nat=>((l.take i).flatMap bE,l,(l.length:Int),(i:Int),())) l.length (fun G i hi=> ?_) (fun G=> ?_) k 0 (by omega) (by omega)
 ·have h1:=jg hk hs hi
  have hb:=fW hk (l.take i)
  unfold de at hb
  have hb1:=jw hk (l.getD i aj.aa)
  have hb2:=cN (e:=aj) l i
  have hb3:=ar (e:=ab) (l:=(l.take i).flatMap bE)
  have hb4:=ar (e:=ab) (l:=bE (l.getD i aj.aa))
  simp only[aF,au hi,hi,decide_true,if_true,akT]
  rw[qW hk h1,akR,if_pos (by simp only[decide_eq_true_eq];omega),aU (by omega),ek aj.aa hi]
 ·simp only[aF,akV,decide_false,akS,if_false,ak4]
  show alu (fG k (de l,())) _=_
  simp only[fG,uw]
  rw[if_pos ?_]
  ·rfl
  ·simp only[ak5,decide_eq_true_eq,List.all_eq_true]
   refine⟨Nat.lt_trans hn (by decide),fun a ha=> ?_⟩
   have hb:=fW hk l
   have hm:=bo (e:=ab) ha
   have h1:=bG hk a
   have h2:=ar (e:=aq) (l:=a.1)
   omega
theorem RO {l:List aG} (hs:ag (.sl aj) l≤1048576):lB l≤1048576:=by
 have h1:=fW hk l
 have h2:=ar (e:=ab) (l:=de l)
 unfold lB
 omega
theorem Mu {l:List aG} (hs:ag (.sl aj) l≤1048576):pC k (l,())=some ((lB l:Int),()):=by
 have hl:=ar (e:=aj) (l:=l)
 simp only[pC]
 refine bZ (fun i:Nat=>(l,((((l.take i).flatMap bE).length:Nat):Int),(i:Int),())) l.length (fun G i hi=> ?_) (fun G=> ?_) k 0 (by omega) (by omega)
 ·have h1:=jg hk hs hi
  have hb:=fW hk (l.take i)
  unfold de at hb
  have hb2:=cN (e:=aj) l i
  have hb3:=ar (e:=ab) (l:=(l.take i).flatMap bE)
  rw[ek aj.aa hi,ak7]
  simp only[aF,hi,decide_true,if_true]
  have hp:=h1
  rw[cM hk]at hp
  have hpl:=ar (e:=ax) (l:=(l.getD i aj.aa).2.2)
  refine bZ (fun j:Nat=>(l,((((l.take i).flatMap bE).length+(((l.getD i aj.aa).2.2.take j).flatMap xW).length:Nat):Int),(i:Int),(j:Int),())) (l.getD i aj.aa).2.2.length (fun G2 j hj=> ?_) (fun G2=> ?_) k 0 (by omega) (by omega)
  ·have hc:=mh hk (e:=ax) (f:=ab) (g:=xW) (fun c=>by rw[cE hk];exact ali _) ((l.getD i aj.aa).2.2.take j)
   have hc1:=cN (e:=ax) (l.getD i aj.aa).2.2 j
   have hc2:=ar (e:=ab) (l:=((l.getD i aj.aa).2.2.take j).flatMap xW)
   obtain⟨h3,h4⟩:=fu hk h1 hj
   have hc3:=ar (e:=ab) (l:=((l.getD i aj.aa).2.2.getD j ax.aa).2)
   simp only[au hi,au hj,aF,hj,decide_true,if_true,akT]
   rw[acn (by omega),aU (by omega),ek ax.aa hj,ak7,Nat.add_assoc]
  ·simp only[au hi,aF,akV,decide_false,akS,if_false,if_true,akT,ak4]
   rw[aU (by omega)]
   rfl
 ·simp only[aF,akV,decide_false,akS,if_false,ak4]
  rfl
theorem y3 {l:List aG} (hs:ag (.sl aj) l≤1048576):lx k (l,())=some ((lB l:Int),()):=by
 have hl:=ar (e:=aj) (l:=l)
 simp only[lx]
 refine bZ (fun i:Nat=>(((((l.take i).flatMap bE).length:Nat):Int),l,(l.length:Int),(i:Int),())) l.length (fun G i hi=> ?_) (fun G=> ?_) k 0 (by omega) (by omega)
 ·have h1:=jg hk hs hi
  have hb:=fW hk (l.take i)
  unfold de at hb
  have hb2:=cN (e:=aj) l i
  have hb3:=ar (e:=ab) (l:=(l.take i).flatMap bE)
  rw[ek aj.aa hi,ak7]
  simp only[aF,au hi,hi,decide_true,if_true,akT]
  have hp:=h1
  rw[cM hk]at hp
  have hpl:=ar (e:=ax) (l:=(l.getD i aj.aa).2.2)
  refine bZ (fun j:Nat=>(((((l.take i).flatMap bE).length+(((l.getD i aj.aa).2.2.take j).flatMap xW).length:Nat):Int),l.getD i aj.aa,l,(l.length:Int),(i:Int),(l.getD i aj.aa).2.2,((l.getD i aj.aa).2.2.length:Int),(j:Int),())) (l.getD i aj.aa).2.2.length (fun G2 j hj=> ?_) (fun G2=> ?_) k 0 (by omega) (by omega)
  ·have hc:=mh hk (e:=ax) (f:=ab) (g:=xW) (fun c=>by rw[cE hk];exact ali _) ((l.getD i aj.aa).2.2.take j)
   have hc1:=cN (e:=ax) (l.getD i aj.aa).2.2 j
   have hc2:=ar (e:=ab) (l:=((l.getD i aj.aa).2.2.take j).flatMap xW)
   obtain⟨h3,h4⟩:=fu hk h1 hj
   have hc3:=ar (e:=ab) (l:=((l.getD i aj.aa).2.2.getD j ax.aa).2)
   simp only[au hj,aF,hj,decide_true,if_true,akT]
   rw[acn (by omega),aU (by omega),ek ax.aa hj,ak7,Nat.add_assoc]
  ·simp only[aF,akV,decide_false,akS,if_false,ak4]
   rw[aU (by omega)]
   rfl
 ·simp only[aF,akV,decide_false,akS,if_false,ak4]
  rfl
theorem sQ {p:aG} {f:Int} (hl:p.2.2.length≤1048576):kz k (p,f,())=some (cT (jj p f),()):=by
 simp only[kz]
 refine(fa (fun i:Nat=>(f,p,(i:Int),())) (fun i=>decide ((p.2.2.getD i ax.aa).1=f)) p.2.2.length (e:=some (-1,())) (fun i=>some ((i:Int),())) (fun G i hi=> ?_) (fun G=> ?_) k (by omega)).trans ?_
 ·simp only[aF,au hi,hi,decide_true,if_true,akT,bP]
  rw[aU (by omega)]
 ·simp
 ·unfold jj
  cases gB p.2.2.length (fun i=>decide ((p.2.2.getD i ax.aa).1=f))<;>rfl
theorem rS {p:aG} {f:Int} (hl:p.2.2.length≤1048576):gF k (p,f,())=some (cT (jj p f),()):=by
 simp only[gF]
 refine(fa (fun i:Nat=>(f,p,p.2.2,(p.2.2.length:Int),(i:Int),())) (fun i=>decide ((p.2.2.getD i ax.aa).1=f)) p.2.2.length (e:=some (-1,())) (fun i=>some ((i:Int),())) (fun G i hi=> ?_) (fun G=> ?_) k (by omega)).trans ?_
 ·simp only[aF,au hi,hi,decide_true,if_true,akT,bP]
  rw[aU (by omega)]
 ·simp
 ·unfold jj
  cases gB p.2.2.length (fun i=>decide ((p.2.2.getD i ax.aa).1=f))<;>rfl
omit hk in
theorem yQ (i:Nat):decide (cT (some i)<0)=false:=decide_eq_false (by simp only[cT];omega)
omit hk in
theorem vQ {i n:Nat} (h:i<n):decide (0≤cT (some i)∧cT (some i)<(n:Int))=true:=by simp only[cT];exact au h
omit hk in
theorem CW (i:Nat):(cT (some i)).toNat=i:=by simp[cT]
theorem Pl {p:aG} {s:List ay} (hs:ag aj p≤1048576) (hl:ag (.sl aq) s≤1048576):qC k (p,s,())=some ((sM k p s).1,(sM k p s).2,()):=by
 have hpl:p.2.2.length≤1048576:=by rw[cM hk]at hs;have:=ar (e:=ax) (l:=p.2.2);omega
 simp only[qC,iX hk hl,sQ hk hpl,akR,sM]
 cases hc:jj p (dt k s)with
 |none=>rfl
 |some i=>
  obtain⟨hi,_,_⟩:=bH.1 hc
  obtain⟨h1,h2⟩:=fu hk hs hi
  refine(xa (yQ i)).trans ?_
  refine(if_pos (vQ hi)).trans ?_
  rw[CW,rQ hk h2,akR]
  dsimp only
  cases hq:iu (p.2.2.getD i ax.aa).2 s with
  |none=>rfl
  |some j=>
   obtain⟨hj,_,_⟩:=bH.1 hq
   have h3:=cY (e:=ab) (d:=ab.aa) hj
   refine(xa (yQ j)).trans ?_
   refine(if_pos (vQ hi)).trans ?_
   refine(if_pos (vQ hj)).trans ?_
   rw[CW,ew hk (by omega)]
   rfl
theorem Qy {p:aG} {s:List ay} (hs:ag aj p≤1048576) (hl:ag (.sl aq) s≤1048576):qm k (p,s,())=some ((sM k p s).1,(sM k p s).2,()):=by
 have hpl:p.2.2.length≤1048576:=by rw[cM hk]at hs;have:=ar (e:=ax) (l:=p.2.2);omega
 simp only[qm,fy hk hl,rS hk hpl,akR,sM]
 cases hc:jj p (dt k s)with
 |none=>rfl
 |some i=>
  obtain⟨hi,_,_⟩:=bH.1 hc
  obtain⟨h1,h2⟩:=fu hk hs hi
  refine(xa (yQ i)).trans ?_
  refine(if_pos (vQ hi)).trans ?_
  rw[CW,rV hk h2,akR]
  dsimp only
  cases hq:iu (p.2.2.getD i ax.aa).2 s with
  |none=>rfl
  |some j=>
   obtain⟨hj,_,_⟩:=bH.1 hq
   have h3:=cY (e:=ab) (d:=ab.aa) hj
   refine(xa (yQ j)).trans ?_
   refine(if_pos (vQ hi)).trans ?_
   refine(if_pos (vQ hj)).trans ?_
   rw[CW,cB hk (by omega)]
   rfl
theorem oF {l:List aG} {s:List ay} (hl:ag (.sl aq) s≤1048576):iB k (l,s,())=some (df k l s,()):=by
 simp only[iB,iX hk hl,kL hk,akR,df]
theorem Bz {l:List aG} {s:List ay} (hl:ag (.sl aq) s≤1048576):mA k (l,s,())=some (df k l s,()):=by
 simp only[mA,fy hk hl,lC hk,akR,df]
omit hk in
theorem lN {l:List aG} {s:List ay} (h:l.length≠0):0≤df k l s∧df k l s<(l.length:Int)∧(df k l s).toNat<l.length:=by
 have:=Lm (f:=dt k s) (n:=(l.length:Int)) (by omega)
 unfold df
 omega
theorem iH {l:List aG} {s:List ay} (hs:ag (.sl aj) l≤1048576) (hl:ag (.sl aq) s≤1048576):fo k (l,s,())=some ((dQ k l s).1,(dQ k l s).2,()):=by
 simp only[fo,oF hk hl,akR,dQ]
 by_cases h0:l.length=0
 ·rw[if_pos (by simpa using h0),if_pos h0];rfl
 ·obtain⟨a,b,c⟩:=lN (k:=k) (l:=l) (s:=s) h0
  rw[if_neg (by simpa using h0),if_pos (by simpa using⟨a,b⟩),Pl hk (jg hk hs c) hl,akR,if_neg h0]
theorem iD {l:List aG} {s:List ay} (hs:ag (.sl aj) l≤1048576) (hl:ag (.sl aq) s≤1048576):fl k (l,s,())=some ((dQ k l s).1,(dQ k l s).2,()):=by
 simp only[fl,Bz hk hl,akR,dQ]
 by_cases h0:l.length=0
 ·rw[if_pos (by simpa using h0),if_pos h0];rfl
 ·obtain⟨a,b,c⟩:=lN (k:=k) (l:=l) (s:=s) h0
  rw[if_neg (by simpa using h0),if_pos (by simpa using⟨a,b⟩),Qy hk (jg hk hs c) hl,akR,if_neg h0]
theorem n9 (a b:aJ):iz k (a,b,())=some (dv a b,()):=by
 simp only[iz,dv,bP]
 by_cases h1:a.1<b.1<;>by_cases h2:a.1=b.1<;>simp[h1,h2]
theorem gC (a b:aJ):iC k (a,b,())=some (dv a b,()):=by
 simp only[iC,dv,bP]
 by_cases h1:a.1<b.1<;>by_cases h2:a.1=b.1<;>simp[h1,h2]
theorem OX {l:List aJ} (hl:l.length≤1048576):qw k (l,())=some (wM l,()):=by
 simp only[qw,aL]
 refine(ch (fun i:Nat=>(l,l,(l.length:Int),(i:Int),())) (fun i=>(decide (0≤(l.getD i aw.aa).1)&&decide (0≤(l.getD i aw.aa).2))&&(i==0|| !dv (l.getD i aw.aa) (l.getD ((i-1)/2) aw.aa))) l.length
  (e:=some (decide (l.length≤16),())) (no:=some (false,())) ?_ ?_ k 0 (by omega)).trans ?_
 ·intro G i hi
  cases i with
  |zero=>
   simp only[aF,au hi,hi,UB,decide_true,if_true,akT,n9 hk,akR,cf]
   rw[aU (by omega)]
   simp only[vR]
   rcases akU (decide ((l.getD 0 aw.aa).1<0))with h1|h1<;>rcases akU (decide ((l.getD 0 aw.aa).2<0))with h2|h2<;>
    simp only[h1,h2,if_true,akS,if_false,beq_self_eq_true,ald,alb,ak3,ala,akX,akY,ak8,akW,tbf,fbt,alx,alv]
  |succ q=>
   have hq:q/2<l.length:=by omega
   simp only[aF,au hi,au hq,hi,Ns,yh (show q<4611686018427387904 by omega),decide_true,if_true,akT,n9 hk,akR,cf,akW,ne_eq,alg]
   rw[aU (by omega)]
   have hb:((q+1:Nat)==0)=false:=rfl
   rw[hb]
   have e2:decide (¬(2:Int)=0)=true:=rfl
   rw[e2]
   simp only[vR]
   rcases akU (decide ((l.getD (q+1) aw.aa).1<0))with h1|h1<;>rcases akU (decide ((l.getD (q+1) aw.aa).2<0))with h2|h2<;>
    rcases akU (dv (l.getD (q+1) aw.aa) (l.getD (q/2) aw.aa))with h3|h3<;>
    simp only[h1,h2,h3,if_true,akS,if_false,beq_self_eq_true,ald,alb,ak3,ala,akX,akY,ak8,akW,Bool.or_false,alw,tbf,fbt,alx,alv]
 ·intro G i hi
  simp only[aF]
  rw[if_neg (by simp;omega)]
  congr 2
  rw[ak1];simp;omega
 ·unfold wM
  generalize bj 0 l.length _=b
  cases b<;>simp
theorem PU {l:List aJ} (hl:l.length≤1048576):qp k (l,())=some (wM l,()):=by
 simp only[qp,aL]
 refine(ch (fun i:Nat=>(l,(i:Int),())) (fun i=>(decide (0≤(l.getD i aw.aa).1)&&decide (0≤(l.getD i aw.aa).2))&&(i==0|| !dv (l.getD i aw.aa) (l.getD ((i-1)/2) aw.aa))) l.length
  (e:=some (decide (l.length≤16),())) (no:=some (false,())) ?_ ?_ k 0 (by omega)).trans ?_
 ·intro G i hi
  cases i with
  |zero=>
   simp only[aF,au hi,hi,UB,decide_true,if_true,akT,gC hk,akR,cf,akW]
   rw[aU (by omega)]
   simp only[vR]
   rcases akU (decide ((l.getD 0 aw.aa).1<0))with h1|h1<;>rcases akU (decide ((l.getD 0 aw.aa).2<0))with h2|h2<;>
    simp only[h1,h2,if_true,akS,if_false,beq_self_eq_true,ald,alb,ak3,ala,akX,akY,ak8,akW,tbf,fbt,alx,alv]
  |succ q=>
   have hq:q/2<l.length:=by omega
   simp only[aF,au hi,au hq,hi,Ns,yh (show q<4611686018427387904 by omega),decide_true,if_true,akT,gC hk,akR,cf,akW,ne_eq,alg]
   rw[aU (by omega)]
   have hb:((q+1:Nat)==0)=false:=rfl
   rw[hb]
   have e2:decide (¬(2:Int)=0)=true:=rfl
   rw[e2]
   simp only[vR]
   rcases akU (decide ((l.getD (q+1) aw.aa).1<0))with h1|h1<;>rcases akU (decide ((l.getD (q+1) aw.aa).2<0))with h2|h2<;>
    rcases akU (dv (l.getD (q+1) aw.aa) (l.getD (q/2) aw.aa))with h3|h3<;>
    simp only[h1,h2,h3,if_true,akS,if_false,beq_self_eq_true,ald,alb,ak3,ala,akX,akY,ak8,akW,Bool.or_false,alw,tbf,fbt,alx,alv]
 ·intro G i hi
  simp only[aF]
  rw[if_neg (by simp;omega)]
  congr 2
  rw[ak1];simp;omega
 ·unfold wM
  generalize bj 0 l.length _=b
  cases b<;>simp
theorem zo {c:bT} {g:aD}:oH k (c,g,())=some (yw c g,()):=by
 simp only[oH,tp,yw,bP]
 by_cases h:g.2.2.2.1= -1<;>simp[h]
theorem HK {c:bT} {g:aD}:sJ k (c,g,())=some (yw c g,()):=by
 simp only[sJ,tg,yw,bP]
 by_cases h:g.2.2.2.1= -1<;>simp[h]
end
def jD (l:List aD) (n:Int):Option Nat:=gB l.length (fun i=>decide ((l.getD i ah.aa).1=n))
def aaa:bm:=(0,[],0,[])
def mw (l:List aD) (n now:Int):List aD:=
 match jD l n with
 |none=>l
 |some i=>if(rX (l.getD i ah.aa) now).2.2.2.2=[]then l.take i++l.drop (i+1)else l.set i (rX (l.getD i ah.aa) now)
def iW (l:List aD) (n now:Int):bm:=
 match jD l n with
 |none=>aaa
 |some i=>MU (l.getD i ah.aa) now
def tG (l:List aD) (n:Int):Bool:=(jD l n).isSome
theorem S7 {α:Type} (l:List α) (i:Nat) (x:α):(l.set i x).take i++(l.set i x).drop (i+1)=l.take i++l.drop (i+1):=by
 rw[List.take_set_of_le (ali _),List.drop_set_of_lt (by omega)]
section
variable {k:Nat} (hk:9223372036854775808≤k)
include hk
theorem sq {l:List aD} (h:ag (.sl ah) l≤1073741824):gq k (l,())=some (l,()):=
 E7 (d:=ah.aa) (S:=gu k) hk (akZ (ar (e:=ah)) h) (fun e he=>CR hk (akZ (bo (e:=ah) he) h))
theorem u9 {l:List aD} (h:ag (.sl ah) l≤1073741824):iI k (l,())=some (l,()):=
 MA (d:=ah.aa) (S:=fj k) hk (akZ (ar (e:=ah)) h) (fun e he=>wu hk (akZ (bo (e:=ah) he) h))
theorem yx {l:List aD} {n:Int} (h:l.length≤1073741824):lG k (l,n,())=some (cT (jD l n),()):=by
 simp only[lG]
 refine(fa (fun i:Nat=>(n,l,(l.length:Int),(i:Int),())) (fun i=>decide ((l.getD i ah.aa).1=n)) l.length (e:=some (-1,())) (fun i=>some ((i:Int),())) (fun G i hi=> ?_) (fun G=> ?_) k (by omega)).trans ?_
 ·simp only[aF,au hi,hi,decide_true,if_true,akT]
  rw[aU (by omega)]
  by_cases hp:(l.getD i ah.aa).1=n<;>simp[hp]
 ·simp
 ·unfold jD
  cases gB l.length (fun i=>decide ((l.getD i ah.aa).1=n))<;>rfl
theorem rW {l:List aD} {n:Int} (h:l.length≤1073741824):je k (l,n,())=some (cT (jD l n),()):=by
 simp only[je]
 refine(fa (fun i:Nat=>(l,n,(i:Int),())) (fun i=>decide ((l.getD i ah.aa).1=n)) l.length (e:=some (-1,())) (fun i=>some ((i:Int),())) (fun G i hi=> ?_) (fun G=> ?_) k (by omega)).trans ?_
 ·simp only[aF,au hi,hi,decide_true,if_true,akT]
  rw[aU (by omega)]
  by_cases hp:(l.getD i ah.aa).1=n<;>simp[hp]
 ·simp
 ·unfold jD
  cases gB l.length (fun i=>decide ((l.getD i ah.aa).1=n))<;>rfl
theorem Ms {l:List aD} {n now:Int} (h:ag (.sl ah) l≤1073741824):oX k (l,n,now,())=some (mw l n now,iW l n now,tG l n,()):=by
 have hl:=ar (e:=ah) (l:=l)
 simp only[oX]
 rw[u9 hk h,akR,yx hk (by omega),akR]
 unfold mw iW tG
 cases hg:jD l n with
 |none=>rfl
 |some i=>
  obtain⟨hi,_,_⟩:=bH.1 hg
  have ht:=bo (e:=ah) (cj (d:=ah.aa) hi)
  dsimp only
  refine(acs (decide_eq_false (by simp only[cT];omega))).trans ?_
  refine(if_pos (by simp[cT];omega)).trans ?_
  have e0:(cT (some i)).toNat=i:=by simp[cT]
  rw[e0]
  rw[TM hk (by omega),akR]
  refine(if_pos (by simp[cT];omega)).trans ?_
  by_cases hz:(rX (l.getD i ah.aa) now).2.2.2.2=[]
  ·rw[if_pos (by rw[hz];rfl)]
   refine(if_pos (by simp[cT];omega)).trans ?_
   rw[S7,if_pos hz]
   rfl
  ·rw[if_neg (by simpa using hz),if_neg hz]
   rfl
theorem LM {l:List aD} {n now:Int} (h:ag (.sl ah) l≤1073741824):pB k (l,n,now,())=some (mw l n now,iW l n now,tG l n,()):=by
 have hl:=ar (e:=ah) (l:=l)
 simp only[pB]
 rw[sq hk h,akR,rW hk (by omega),akR]
 unfold mw iW tG
 cases hg:jD l n with
 |none=>rfl
 |some i=>
  obtain⟨hi,_,_⟩:=bH.1 hg
  have ht:=bo (e:=ah) (cj (d:=ah.aa) hi)
  have h1:=cN (e:=ah) l i
  have h2:=cN (e:=ah) l (i+1)
  dsimp only
  refine(acs (decide_eq_false (by simp only[cT];omega))).trans ?_
  refine(if_pos (by simp[cT];omega)).trans ?_
  have e0:(cT (some i)).toNat=i:=by simp[cT]
  have e1:IntKind.i64.wrap (cT (some i)+1)=((i+1:Nat):Int):=aU (by omega)
  rw[e0]
  rw[Ss hk (by omega),akR]
  refine(if_pos (by simp[cT];omega)).trans ?_
  by_cases hz:(rX (l.getD i ah.aa) now).2.2.2.2=[]
  ·rw[if_pos (by rw[hz];rfl),if_pos hz]
   refine(if_pos (by simp[cT];omega)).trans ?_
   rw[sq hk (by omega),akR,e1]
   refine(if_pos (by simp;omega)).trans ?_
   rw[akT,sq hk (by omega),akR,if_pos (by simp;omega)]
   rfl
  ·rw[if_neg (by simpa using hz),if_neg hz]
   rfl
theorem MG {l:List aD} {n now:Int}:ag (.sl ah) (mw l n now)≤ag (.sl ah) l:=by
 unfold mw
 cases hg:jD l n with
 |none=>exact ali _
 |some i=>
  obtain⟨hi,_,_⟩:=bH.1 hg
  simp only
  split
  ·have h1:=cN (e:=ah) l i
   have h2:=cN (e:=ah) (l.drop i) 1
   rw[List.drop_drop]at h2
   rw[oN]
   omega
  ·have h1:=tI (e:=ah) l i (rX (l.getD i ah.aa) now) hi
   have h2:=YO hk (g:=l.getD i ah.aa) (now:=now)
   omega
theorem Hu {l:List aD} {n now:Int}:ag aX (iW l n now)≤ag (.sl ah) l:=by
 unfold iW
 cases hg:jD l n with
 |none=>simp[aaa,ag]
 |some i=>
  obtain⟨hi,_,_⟩:=bH.1 hg
  have ht:=bo (e:=ah) (cj (d:=ah.aa) hi)
  have h2:=XR hk (g:=l.getD i ah.aa) (now:=now)
  simp only
  omega
theorem R3 {c:aO} (h:ag ax c≤1073741824):mD k (c,())=some (c,()):=by
 have h1:=cE hk c
 simp only[mD]
 rw[gx hk (by omega),akR]
theorem FP {c:aO} (h:ag ax c≤1073741824):ju k (c,())=some (c,()):=by
 have h1:=cE hk c
 simp only[ju]
 rw[cR hk (by omega),akR]
theorem Rr {p:aG} (h:ag aj p≤1073741824):jG k (p,())=some (p,()):=by
 have h1:=cM hk p
 have hl:=ar (e:=ax) (l:=p.2.2)
 simp only[jG]
 refine bZ (fun i=>(p,(0,(0,([]:List aO))),(p.1,p.2.1,p.2.2.take i),(i:Int),())) p.2.2.length (fun G i hi=> ?_) (fun G=> ?_) k 0 (by omega) (by omega)
 ·have hm:=bo (e:=ax) (cj (d:=ax.aa) hi)
  simp only[aF,au hi,hi,decide_true,if_true,akT]
  rw[R3 hk (by omega),akR,if_pos (by simp;omega),aU (by omega),gR ax.aa hi]
 ·simp
theorem H4 {p:aG} (h:ag aj p≤1073741824):ig k (p,())=some (p,()):=by
 have h1:=cM hk p
 have hl:=ar (e:=ax) (l:=p.2.2)
 simp only[ig]
 refine bZ (fun i=>(p,(0,(0,([]:List aO))),(p.1,p.2.1,p.2.2.take i),p.2.2,(p.2.2.length:Int),(i:Int),())) p.2.2.length (fun G i hi=> ?_) (fun G=> ?_) k 0 (by omega) (by omega)
 ·have hm:=bo (e:=ax) (cj (d:=ax.aa) hi)
  simp only[aF,au hi,hi,decide_true,if_true,akT]
  rw[FP hk (by omega),akR,if_pos (by simp;omega),aU (by omega),gR ax.aa hi]
 ·simp
theorem RW {l:List aG} (h:ag (.sl aj) l≤1073741824):qi k (l,())=some (l,()):=
 E7 (d:=aj.aa) (S:=jG k) hk (akZ (ar (e:=aj)) h) (fun e he=>Rr hk (akZ (bo (e:=aj) he) h))
theorem Fc {l:List aG} (h:ag (.sl aj) l≤1073741824):lV k (l,())=some (l,()):=
 MA (d:=aj.aa) (S:=ig k) hk (akZ (ar (e:=aj)) h) (fun e he=>H4 hk (akZ (bo (e:=aj) he) h))
theorem RX {s:bp} (h:ag aW s≤1073741824):jN k (s,())=some (s,()):=by
 have h1:=pz hk s
 simp only[jN]
 rw[gx hk (by omega),akR]
theorem Nn {s:bp} (h:ag aW s≤1073741824):jb k (s,())=some (s,()):=by
 have h1:=pz hk s
 simp only[jb]
 rw[cR hk (by omega),akR]
theorem aa5 {l:List bp} (h:ag (.sl aW) l≤1073741824):xl k (l,())=some (l,()):=
 E7 (d:=aW.aa) (S:=jN k) hk (akZ (ar (e:=aW)) h) (fun e he=>RX hk (akZ (bo (e:=aW) he) h))
theorem Wm {l:List bp} (h:ag (.sl aW) l≤1073741824):sn k (l,())=some (l,()):=
 MA (d:=aW.aa) (S:=jb k) hk (akZ (ar (e:=aW)) h) (fun e he=>Nn hk (akZ (bo (e:=aW) he) h))
theorem vd {l:List aJ} (h:l.length≤1073741824):fR k (l,())=some (l,()):=by
 simp only[fR]
 rw[if_pos (by simp;omega)]
 simp
theorem T6 {b:bm} (h:ag aX b≤1073741824):lQ k (b,())=some (b,()):=by
 have h1:=lP hk b
 have h2:=ar (e:=aq) (l:=b.2.1)
 simp only[lQ]
 rw[oZ hk (by omega),akR,cR hk (by omega),akR]
theorem K4 {t:aN} (h:ag al t≤1073741824):lE k (t,())=some (t,()):=by
 have h1:=cP hk t
 have h2:=ar (e:=aq) (l:=t.2.2.2.1)
 have h3:=ar (e:= .int .i64) (l:=t.2.2.2.2.2.1)
 simp only[lE]
 rw[ew hk (by omega),akR,if_pos (by simp;omega),if_pos (by simp;omega),gx hk (by omega),akR]
 simp
theorem V4 {t:aN} (h:ag al t≤1073741824):nE k (t,())=some (t,()):=by
 have h1:=cP hk t
 have h2:=ar (e:=aq) (l:=t.2.2.2.1)
 have h3:=ar (e:= .int .i64) (l:=t.2.2.2.2.2.1)
 simp only[nE]
 rw[cB hk (by omega),akR,oZ hk (by omega),akR,if_pos (by simp;omega),cR hk (by omega),akR]
 simp
theorem YD {d:aP} (h:ag aI d≤1073741824):kQ k (d,())=some (d,()):=by
 have h1:=ou hk d
 have h2:=ar (e:=aq) (l:=d.2.2.2.1)
 simp only[kQ]
 rw[ew hk (by omega),akR,if_pos (by simp;omega),gx hk (by omega),akR]
 simp
theorem Wg {d:aP} (h:ag aI d≤1073741824):nu k (d,())=some (d,()):=by
 have h1:=ou hk d
 have h2:=ar (e:=aq) (l:=d.2.2.2.1)
 simp only[nu]
 rw[cB hk (by omega),akR,oZ hk (by omega),akR,cR hk (by omega),akR]
theorem Z2 {l:List aP} (h:ag (.sl aI) l≤1073741824):uZ k (l,())=some (l,()):=
 E7 (d:=aI.aa) (S:=kQ k) hk (akZ (ar (e:=aI)) h) (fun e he=>YD hk (akZ (bo (e:=aI) he) h))
theorem VX {b:bm} (h:ag aX b≤1073741824):ib k (b,())=some (b,()):=by
 have h1:=lP hk b
 exact HA hk (by omega) (by omega)
theorem X4 {w:ak} (hs:ag az w≤1073741824):gw k (w,())=some (w,()):=by
 have ht:=nR hk w
 obtain⟨c,tm,now,st,sb,fd,gh,gr,nn,hp,sk,sd,tk,dd⟩:=w
 simp only at ht
 have h1:=ar (e:=aw) (l:=hp)
 have h2:=ar (e:=aX) (l:=sk)
 have h3:=ar (e:=al) (l:=tk)
 simp only[gw,aL]
 rw[XY hk (by omega),akR,RW hk (by omega),akR,aa5 hk (by omega),akR,gx hk (by omega),akR,sq hk (by omega),akR,if_pos (by simp;omega)]
 simp only[ak9]
 refine bZ (fun i=>((c,tm,now,st,sb,fd,gh,gr,nn,hp,sk,sd,tk,dd),_,(c,tm,now,st,sb,fd,gh,gr,nn,hp,sk.take i,sd,tk,dd),c,(i:Int),())) sk.length (fun G i hi=> ?_) (fun G=> ?_) k 0 (by omega) (by omega)
 ·have hm:=bo (e:=aX) (cj (d:=aX.aa) hi)
  simp only[aF,au hi,hi,decide_true,if_true,akT]
  rw[VX hk (by omega),akR,if_pos (by simp;omega),aU (by omega),gR aX.aa hi]
 ·simp only[aF,akV,decide_false,akS,if_false,ak4]
  rw[gx hk (by omega),akR]
  refine bZ (fun i=>((c,tm,now,st,sb,fd,gh,gr,nn,hp,sk,sd,tk,dd),_,(c,tm,now,st,sb,fd,gh,gr,nn,hp,sk,sd,tk.take i,dd),c,(i:Int),())) tk.length (fun G i hi=> ?_) (fun G=> ?_) k 0 (by omega) (by omega)
  ·have hm:=bo (e:=al) (cj (d:=al.aa) hi)
   simp only[aF,au hi,hi,decide_true,if_true,akT]
   rw[K4 hk (by omega),akR,if_pos (by simp;omega),aU (by omega),gR al.aa hi]
  ·simp only[aF,akV,decide_false,akS,if_false,ak4]
   rw[Z2 hk (by omega),akR]
theorem Vd {w:ak} (hs:ag az w≤1073741824):fv k (w,())=some (w,()):=by
 have ht:=nR hk w
 obtain⟨c,tm,now,st,sb,fd,gh,gr,nn,hp,sk,sd,tk,dd⟩:=w
 simp only at ht
 have h1:=ar (e:=aw) (l:=hp)
 have h2:=ar (e:=aX) (l:=sk)
 have h3:=ar (e:=al) (l:=tk)
 have h4:=ar (e:=aI) (l:=dd)
 simp only[fv,aL]
 rw[Wp hk (by omega),akR,Fc hk (by omega),akR,Wm hk (by omega),akR,cR hk (by omega),akR,cR hk (by omega),akR,
  u9 hk (by omega),akR,vd hk (by omega),akR]
 refine bZ (fun i=>((c,tm,now,st,sb,fd,gh,gr,nn,hp,sk,sd,tk,dd),_,sk.take i,sk,(sk.length:Int),(i:Int),())) sk.length (fun G i hi=> ?_) (fun G=> ?_) k 0 (by omega) (by omega)
 ·have hm:=bo (e:=aX) (cj (d:=aX.aa) hi)
  simp only[aF,au hi,hi,decide_true,if_true,akT]
  rw[T6 hk (by omega),akR,if_pos (by simp;omega),aU (by omega),gR aX.aa hi]
 ·simp only[aF,akV,decide_false,akS,if_false,ak4]
  refine bZ (fun i=>((c,tm,now,st,sb,fd,gh,gr,nn,hp,sk,sd,tk,dd),_,sk,tk.take i,tk,(tk.length:Int),(i:Int),())) tk.length (fun G i hi=> ?_) (fun G=> ?_) k 0 (by omega) (by omega)
  ·have hm:=bo (e:=al) (cj (d:=al.aa) hi)
   simp only[aF,au hi,hi,decide_true,if_true,akT]
   rw[V4 hk (by omega),akR,if_pos (by simp;omega),aU (by omega),gR al.aa hi]
  ·simp only[aF,akV,decide_false,akS,if_false,ak4]
   refine bZ (fun i=>((c,tm,now,st,sb,fd,gh,gr,nn,hp,sk,sd,tk,dd),_,sk,tk,dd.take i,dd,(dd.length:Int),(i:Int),())) dd.length (fun G i hi=> ?_) (fun G=> ?_) k 0 (by omega) (by omega)
   ·have hm:=bo (e:=aI) (cj (d:=aI.aa) hi)
    simp only[aF,au hi,hi,decide_true,if_true,akT]
    rw[Wg hk (by omega),akR,if_pos (by simp;omega),aU (by omega),gR aI.aa hi]
   ·simp only[aF,akV,decide_false,akS,if_false,ak4]
end
def BX (a b:af):Bool:=decide (a.2.1≤b.2.2.1)&&decide (b.2.1≤a.2.2.1)
def uC (a b:af):af:=if BX a b=true then(b.1,if b.2.1<a.2.1 then b.2.1 else a.2.1,b.2.2)else b
def CK (c:aO) (a:af):aO:=
 match iu c.2 a.1 with
 |some i=>(c.1,c.2.set i (uC (c.2.getD i ab.aa) a))
 |none=>(c.1,c.2++[a])
def Gf (l:List aO) (f:Int):Nat:=(gB l.length (fun i=> !decide ((l.getD i ax.aa).1<f))).getD l.length
def uU (k:Nat) (p:aG) (a:af):aG×Bool:=
 match jj p (dt k a.1)with
 |some i=>((p.1,IntKind.i64.wrap (p.2.1+1),p.2.2.set i (CK (p.2.2.getD i ax.aa) a)),(iu (p.2.2.getD i ax.aa).2 a.1).isNone)
 |none=>((p.1,IntKind.i64.wrap (p.2.1+1),p.2.2.take (Gf p.2.2 (dt k a.1))++[(dt k a.1,[a])]++p.2.2.drop (Gf p.2.2 (dt k a.1))),true)
def pA (k:Nat) (l:List aG) (a:af):List aG×Bool:=
 if l.length=0 then(l,false)else(l.set (df k l a.1).toNat (uU k (l.getD (df k l a.1).toNat aj.aa) a).1,(uU k (l.getD (df k l a.1).toNat aj.aa) a).2)
theorem Mk {α:Type} (l:List aO) (f:Int) (g:Nat→α):(match gB l.length (fun i=> !decide ((l.getD i ax.aa).1<f))with|some i=>g i|none=>g l.length)=g (Gf l f):=by
 unfold Gf
 cases gB l.length (fun i=> !decide ((l.getD i ax.aa).1<f))<;>rfl
section
variable {k:Nat} (hk:9223372036854775808≤k)
include hk
theorem Dx {a b:af}:rP k (a,b,())=some (BX a b,()):=by
 simp only[rP,BX]
 by_cases h:a.2.1≤b.2.2.1<;>simp[h]
theorem Te {a b:af}:wX k (a,b,())=some (BX a b,()):=Dx hk
theorem Se {a b:af} (hb:ag ab b≤1048576):rJ k (a,b,())=some (uC a b,()):=by
 simp only[rJ]
 rw[cB hk (by omega),akR,Dx hk,akR]
 unfold uC
 cases BX a b<;>simp
theorem S1 {a b:af} (hb:ag ab b≤1048576):sN k (a,b,())=some (uC a b,()):=by
 simp only[sN,wj]
 rw[ew hk (by omega),akR,Te hk,akR]
 unfold uC
 cases BX a b
 ·simp
 ·by_cases h:b.2.1<a.2.1<;>simp[h]
theorem Zd {a b:af}:ag ab (uC a b)=ag ab b:=by
 unfold uC
 split
 ·rw[bG hk,bG hk]
 ·rfl
theorem JS {c:aO} {a:af} (hc:ag ax c≤1048576) (ha:ag ab a≤1048576):ns k (c,a,())=some (CK c a,(iu c.2 a.1).isNone,()):=by
 have h1:=cE hk c
 have h2:=ar (e:=ab) (l:=c.2)
 simp only[ns]
 rw[FP hk (by omega),akR]
 unfold CK
 cases h:iu c.2 a.1 with
 |none=>
  have e:gz k (c,a.1,())=some (-1,()):=by rw[rV hk (by omega),h];rfl
  rw[e,akR,if_neg (by decide),cB hk (by omega),akR,if_pos (by simp;omega)]
  rfl
 |some i=>
  have hi:=(bH.1 h).1
  have e:gz k (c,a.1,())=some ((i:Int),()):=by rw[rV hk (by omega),h];rfl
  rw[e,akR,if_pos (by simp),if_pos (au hi),Se hk ha,akR,if_pos (au hi)]
  rfl
theorem JF {c:aO} {a:af} (hc:ag ax c≤1048576) (ha:ag ab a≤1048576):nF k (c,a,())=some (CK c a,(iu c.2 a.1).isNone,()):=by
 have h1:=cE hk c
 have h2:=ar (e:=ab) (l:=c.2)
 simp only[nF]
 rw[R3 hk (by omega),akR]
 unfold CK
 cases h:iu c.2 a.1 with
 |none=>
  have e:gy k (c,a.1,())=some (-1,()):=by rw[rQ hk (by omega),h];rfl
  rw[e,akR,if_pos (by decide),ew hk (by omega),akR,if_pos (by simp;omega)]
  rfl
 |some i=>
  have hi:=(bH.1 h).1
  have e:gy k (c,a.1,())=some ((i:Int),()):=by rw[rQ hk (by omega),h];rfl
  rw[e,akR,if_neg (by simp),if_pos (au hi),S1 hk ha,akR,if_pos (au hi)]
  rfl
theorem abb {c:aO} {a:af}:ag ax (CK c a)≤ag ax c+ag ab a+1:=by
 have h1:=cE hk c
 have h2:=cE hk (CK c a)
 unfold CK at h2⊢
 cases h:iu c.2 a.1 with
 |none=>
  rw[h]at h2
  dsimp only at h2⊢
  have h3:=oN (e:=ab) c.2 [a]
  have h4:=ez (e:=ab) a []
  have h5:=rj (e:=ab)
  rw[h2]
  omega
 |some i=>
  have hi:=(bH.1 h).1
  rw[h]at h2
  dsimp only at h2⊢
  have h3:=tI (e:=ab) c.2 i (uC (c.2.getD i ab.aa) a) hi
  have h4:=Zd hk (a:=c.2.getD i ab.aa) (b:=a)
  rw[h2]
  omega
theorem SF {p:aG} {a:af} (hp:ag aj p≤1048576) (ha:ag ab a≤1048576):sU k (p,a,())=some ((uU k p a).1,(uU k p a).2,()):=by
 have h1:=cM hk p
 have h2:=ar (e:=ax) (l:=p.2.2)
 have h3:=bG hk a
 simp only[sU]
 rw[H4 hk (by omega),akR,fy hk (by omega),akR]
 unfold uU
 cases h:jj p (dt k a.1)with
 |some i=>
  have hi:=(bH.1 h).1
  have e:gF k (p,dt k a.1,())=some ((i:Int),()):=by rw[rS hk (by omega),h];rfl
  rw[e,akR,if_pos (by simp),if_pos (au hi)]
  simp only[akT]
  rw[JS hk (fu hk hp hi).1 ha,akR,if_pos (au hi)]
 |none=>
  have e:gF k (p,dt k a.1,())=some (-1,()):=by rw[rS hk (by omega),h];rfl
  rw[e,akR,if_neg (by decide)]
  simp only[aL]
  generalize hf:dt k a.1=f at h⊢
  have hno:∀i,i<p.2.2.length→(p.2.2.getD i ax.aa).1≠f:=fun i hi=>by
   have:=y5.1 h i hi
   simpa using this
  refine(fa (fun i:Nat=>(p,a,(0,0,([]:List aO)),(p.1,IntKind.i64.wrap (p.2.1+1),p.2.2),f,(i:Int),())) (fun i=> !decide ((p.2.2.getD i ax.aa).1<f)) p.2.2.length
   (e:=some ((p.1,IntKind.i64.wrap (p.2.1+1),p.2.2.take p.2.2.length++[(f,[a])]++p.2.2.drop p.2.2.length),true,())) (fun i=>some ((p.1,IntKind.i64.wrap (p.2.1+1),p.2.2.take i++[(f,[a])]++p.2.2.drop i),true,())) (fun G i hi=> ?_) (fun G=> ?_) k (by omega)).trans ?_
  ·have hne:=hno i hi
   simp only[aF,au hi,hi,decide_true,if_true,akT,akW]
   by_cases hc:(p.2.2.getD i ax.aa).1<f
   ·have hle:(p.2.2.getD i ax.aa).1≤f:=by omega
    rw[decide_eq_true hc,decide_eq_true hle,aU (by omega)]
    simp
   ·have hle:¬(p.2.2.getD i ax.aa).1≤f:=by omega
    rw[decide_eq_false hc,decide_eq_false hle]
    simp only[akX,if_true,akS,if_false]
    rw[cB hk (by omega),akR,if_pos (decide_eq_true ⟨by omega,by omega⟩),if_pos (decide_eq_true (by simp;omega)),if_pos (decide_eq_true (by simp;omega)),if_pos (decide_eq_true ⟨by omega,by omega⟩),if_pos (decide_eq_true (by simp;omega)),ak9]
  ·simp only[aF,akV,decide_false,akS,if_false,akT]
   rw[if_pos (by simp),cB hk (by omega),akR,if_pos (decide_eq_true ⟨by omega,by omega⟩),if_pos (decide_eq_true (by simp;omega)),if_pos (decide_eq_true (by simp;omega)),if_pos (decide_eq_true ⟨by omega,by omega⟩),if_pos (decide_eq_true (by simp;omega)),ak9]
  ·exact Mk p.2.2 f (fun i=>some ((p.1,IntKind.i64.wrap (p.2.1+1),p.2.2.take i++[(f,[a])]++p.2.2.drop i),true,()))
theorem Tz {p:aG} {a:af} (hp:ag aj p≤1048576) (ha:ag ab a≤1048576):sV k (p,a,())=some ((uU k p a).1,(uU k p a).2,()):=by
 have h1:=cM hk p
 have h2:=ar (e:=ax) (l:=p.2.2)
 have h3:=bG hk a
 simp only[sV]
 rw[Rr hk (by omega),akR,iX hk (by omega),akR]
 unfold uU
 cases h:jj p (dt k a.1)with
 |some i=>
  have hi:=(bH.1 h).1
  have e:kz k (p,dt k a.1,())=some ((i:Int),()):=by rw[sQ hk (by omega),h];rfl
  rw[e,akR,if_pos (by simp),if_pos (au hi)]
  simp only[akT]
  rw[JF hk (fu hk hp hi).1 ha,akR,if_pos (au hi)]
 |none=>
  have e:kz k (p,dt k a.1,())=some (-1,()):=by rw[sQ hk (by omega),h];rfl
  rw[e,akR,if_neg (by decide)]
  simp only[aL]
  generalize hf:dt k a.1=f at h⊢
  refine(fa (fun i:Nat=>(p,a,(0,0,([]:List aO)),(p.1,IntKind.i64.wrap (p.2.1+1),p.2.2),f,(i:Int),())) (fun i=> !decide ((p.2.2.getD i ax.aa).1<f)) p.2.2.length
   (e:=some ((p.1,IntKind.i64.wrap (p.2.1+1),p.2.2.take p.2.2.length++[(f,[a])]++p.2.2.drop p.2.2.length),true,())) (fun i=>some ((p.1,IntKind.i64.wrap (p.2.1+1),p.2.2.take i++[(f,[a])]++p.2.2.drop i),true,())) (fun G i hi=> ?_) (fun G=> ?_) k (by omega)).trans ?_
  ·simp only[aF,au hi,hi,decide_true,if_true,akT,akW]
   by_cases hc:(p.2.2.getD i ax.aa).1<f
   ·rw[decide_eq_true hc,aU (by omega)]
    simp
   ·rw[decide_eq_false hc]
    simp only[akX,if_true,akS,if_false]
    rw[ew hk (by omega),akR,if_pos (decide_eq_true ⟨by omega,by omega⟩),if_pos (decide_eq_true (by simp;omega)),if_pos (decide_eq_true (by simp;omega)),if_pos (decide_eq_true ⟨by omega,by omega⟩),if_pos (decide_eq_true (by simp;omega)),ak9]
  ·simp only[aF,akV,decide_false,akS,if_false,akT]
   rw[if_pos (by simp),ew hk (by omega),akR,if_pos (decide_eq_true ⟨by omega,by omega⟩),if_pos (decide_eq_true (by simp;omega)),if_pos (decide_eq_true (by simp;omega)),if_pos (decide_eq_true ⟨by omega,by omega⟩),if_pos (decide_eq_true (by simp;omega)),ak9]
  ·exact Mk p.2.2 f (fun i=>some ((p.1,IntKind.i64.wrap (p.2.1+1),p.2.2.take i++[(f,[a])]++p.2.2.drop i),true,()))
theorem abG {p:aG} {a:af}:ag aj (uU k p a).1≤ag aj p+ag ab a+2:=by
 have h1:=cM hk p
 have h2:=cM hk (uU k p a).1
 unfold uU at h2⊢
 cases h:jj p (dt k a.1)with
 |some i=>
  have hi:=(bH.1 h).1
  rw[h]at h2
  dsimp only at h2⊢
  have h3:=tI (e:=ax) p.2.2 i (CK (p.2.2.getD i ax.aa) a) hi
  have h4:=abb hk (c:=p.2.2.getD i ax.aa) (a:=a)
  rw[h2]
  omega
 |none=>
  rw[h]at h2
  dsimp only at h2⊢
  have h3:=oN (e:=ax) (p.2.2.take (Gf p.2.2 (dt k a.1))++[(dt k a.1,[a])]) (p.2.2.drop (Gf p.2.2 (dt k a.1)))
  have h4:=oN (e:=ax) (p.2.2.take (Gf p.2.2 (dt k a.1))) [(dt k a.1,[a])]
  have h5:=ez (e:=ax) (dt k a.1,[a]) []
  have h6:=rj (e:=ax)
  have h7:=cE hk (dt k a.1,[a])
  have h8:=ez (e:=ab) a []
  have h9:=rj (e:=ab)
  have h10:=cN (e:=ax) p.2.2 (Gf p.2.2 (dt k a.1))
  dsimp only at h7
  rw[h2]
  omega
theorem Jl {l:List aG} {a:af} (hl:ag (.sl aj) l≤1048576) (ha:ag ab a≤1048576):nj k (l,a,())=some ((pA k l a).1,(pA k l a).2,()):=by
 have h3:=bG hk a
 simp only[nj]
 rw[Fc hk (by omega),akR]
 unfold pA
 by_cases hz:l.length=0
 ·rw[if_pos (by simpa using hz),if_pos hz]
 ·obtain⟨q1,q2,q3⟩:=lN (k:=k) (l:=l) (s:=a.1) hz
  rw[if_neg (by simpa using hz),if_neg hz,Bz hk (by omega),akR,if_pos (decide_eq_true ⟨q1,q2⟩),SF hk (jg hk hl q3) ha,akR,if_pos (decide_eq_true ⟨q1,q2⟩)]
theorem Iu {l:List aG} {a:af} (hl:ag (.sl aj) l≤1048576) (ha:ag ab a≤1048576):nh k (l,a,())=some ((pA k l a).1,(pA k l a).2,()):=by
 have h3:=bG hk a
 simp only[nh]
 rw[RW hk (by omega),akR]
 unfold pA
 by_cases hz:l.length=0
 ·rw[if_pos (by simpa using hz),if_pos hz]
 ·obtain⟨q1,q2,q3⟩:=lN (k:=k) (l:=l) (s:=a.1) hz
  rw[if_neg (by simpa using hz),if_neg hz,oF hk (by omega),akR,if_pos (decide_eq_true ⟨q1,q2⟩),Tz hk (jg hk hl q3) ha,akR,if_pos (decide_eq_true ⟨q1,q2⟩)]
theorem Rv {l:List aG} {a:af}:ag (.sl aj) (pA k l a).1≤ag (.sl aj) l+ag ab a+2:=by
 unfold pA
 by_cases hz:l.length=0
 ·rw[if_pos hz];dsimp only;omega
 ·rw[if_neg hz]
  obtain⟨q1,q2,q3⟩:=lN (k:=k) (l:=l) (s:=a.1) hz
  have h1:=tI (e:=aj) l (df k l a.1).toNat (uU k (l.getD (df k l a.1).toNat aj.aa) a).1 q3
  have h2:=abG hk (p:=l.getD (df k l a.1).toNat aj.aa) (a:=a)
  dsimp only
  omega
end
def ia (now:Int) (l:List af):List af:=l.filter fun a=>decide (a.2.2.1≤now)
def kH (now:Int) (c:aO):aO:=(c.1,gf now c.2)
def vF (now:Int) (l:List aO):List aO:=(l.map (kH now)).filter fun c=>decide (0<c.2.length)
def im (now:Int) (l:List aO):List af:=l.flatMap fun c=>ia now c.2
def xe (p:aG) (now:Int):aG:=(p.1,if 0<(im now p.2.2).length then IntKind.i64.wrap (p.2.1+1)else p.2.1,vF now p.2.2)
def sI (a:af) (s:bp):bp:=if s.2=true then s else if 3≤s.1.length then([],true)else(s.1++[a],s.2)
theorem Hs {α:Type} (p:α→Bool) {l:List α} {i:Nat} (d:α) (h:i<l.length):(l.take (i+1)).filter p=if p (l.getD i d)=true then(l.take i).filter p++[l.getD i d]else(l.take i).filter p:=by
 have hg:l.getD i d=l[i]:=by rw[ak2,ale h];rfl
 rw[ak6 h,alC,hg]
 by_cases hp:p l[i]=true
 ·simp[hp]
 ·simp[hp]
theorem Rt {now:Int} {l:List aO} {i:Nat} (h:i<l.length):vF now (l.take (i+1))=if 0<(gf now (l.getD i ax.aa).2).length then vF now (l.take i)++[kH now (l.getD i ax.aa)]else vF now (l.take i):=by
 have hg:l.getD i ax.aa=l[i]:=by rw[ak2,ale h];rfl
 unfold vF
 rw[ak6 h,aly,alC,hg]
 by_cases hp:0<(gf now (l[i]).2).length
 ·rw[if_pos hp,alD,alG,if_pos (show(decide (0<(kH now l[i]).2.length))=true from decide_eq_true hp)];rfl
 ·rw[if_neg hp,alD,alG,if_neg (show¬(decide (0<(kH now l[i]).2.length))=true from fun h=>hp (of_decide_eq_true h))];simp
section
variable {k:Nat} (hk:9223372036854775808≤k)
include hk
theorem y0 {now:Int} {l:List af}:ag (.sl ab) (ia now l)≤ag (.sl ab) l:=vD (e:=ab) _ l
theorem Jn {c:aO} {now:Int} (hc:ag ax c≤1048576):ni k (c,now,())=some (kH now c,ia now c.2,()):=by
 have h1:=cE hk c
 have h2:=ar (e:=ab) (l:=c.2)
 simp only[ni,aL]
 refine(bZ (fun i:Nat=>(now,c,(0,([]:List af)),(c.1,gf now (c.2.take i)),ia now (c.2.take i),c.2,(c.2.length:Int),(i:Int),())) c.2.length (e:=some (kH now c,ia now c.2,())) (fun G i hi=> ?_) (fun G=> ?_) k 0 (by omega) (by omega))
 ·have l1:=vA (now:=now) (l:=c.2.take i)
  have l2:(ia now (c.2.take i)).length≤(c.2.take i).length:=alp ..
  have l3:(c.2.take i).length≤c.2.length:=by simp;omega
  have hm:ag ab (c.2.getD i ab.aa)≤1048576:=(fm hk (by omega) hi).1
  simp only[aF,au hi,hi,decide_true,if_true,akT,pQ,akR]
  rw[aU (by omega),cB hk (by omega),akR,uc hi]
  unfold ia at l2⊢
  rw[Hs _ ab.aa hi]
  by_cases ho:(c.2.getD i ab.aa).2.2.1≤now
  ·simp only[ho,decide_true,if_true,akY,akS,if_false]
   rw[if_pos (decide_eq_true (by simp only[ak0];omega))]
  ·simp only[ho,decide_false,akS,if_false,akX,if_true]
   rw[akR,if_pos (decide_eq_true (by simp only[ak0];omega))]
 ·simp[kH]
theorem Ij {c:aO} {now:Int} (hc:ag ax c≤1048576):nH k (c,now,())=some (kH now c,ia now c.2,()):=by
 have h1:=cE hk c
 have h2:=ar (e:=ab) (l:=c.2)
 simp only[nH,aL]
 refine(bZ (fun i:Nat=>(now,c,(0,([]:List af)),(c.1,gf now (c.2.take i)),ia now (c.2.take i),(i:Int),())) c.2.length (e:=some (kH now c,ia now c.2,())) (fun G i hi=> ?_) (fun G=> ?_) k 0 (by omega) (by omega))
 ·have l1:=vA (now:=now) (l:=c.2.take i)
  have l2:(ia now (c.2.take i)).length≤(c.2.take i).length:=alp ..
  have l3:(c.2.take i).length≤c.2.length:=by simp;omega
  have hm:ag ab (c.2.getD i ab.aa)≤1048576:=(fm hk (by omega) hi).1
  simp only[aF,au hi,hi,decide_true,if_true,akT,pX]
  rw[aU (by omega),ew hk (by omega),akR,akR,uc hi]
  unfold ia at l2⊢
  rw[Hs _ ab.aa hi]
  by_cases ho:(c.2.getD i ab.aa).2.2.1≤now
  ·simp only[ho,decide_true,if_true,akY,akS,if_false]
   rw[if_pos (decide_eq_true (by simp only[ak0];omega))]
  ·simp only[ho,decide_false,akS,if_false,akX,if_true]
   rw[if_pos (decide_eq_true (by simp only[ak0];omega))]
 ·simp[kH]
theorem Fj {now:Int} (l:List aO):(im now l).length≤ag (.sl ax) l:=by
 have h1:ag (.sl ab) (im now l)≤ag (.sl ax) l:=mh hk (e:=ax) (f:=ab) (g:=fun c=>ia now c.2) (fun c=>akZ (y0 hk) (by rw[cE hk];exact ali _)) l
 exact akZ (ar (e:=ab)) h1
theorem RN {now:Int} (l:List aO):(vF now l).length≤l.length:=by
 unfold vF
 exact akZ (alp ..) (by simp)
theorem MO {p:aG} {now:Int} (hp:ag aj p≤1048576):pD k (p,now,())=some (xe p now,im now p.2.2,()):=by
 have h1:=cM hk p
 have h2:=ar (e:=ax) (l:=p.2.2)
 simp only[pD,aL]
 refine(bZ (fun i:Nat=>(now,p,(0,0,([]:List aO)),(p.1,p.2.1,vF now (p.2.2.take i)),im now (p.2.2.take i),p.2.2,(p.2.2.length:Int),(i:Int),())) p.2.2.length (e:=some (xe p now,im now p.2.2,())) (fun G i hi=> ?_) (fun G=> ?_) k 0 (by omega) (by omega))
 ·have l1:=RN hk (now:=now) (p.2.2.take i)
  have l2:=Fj hk (now:=now) (p.2.2.take i)
  have l3:=cN (e:=ax) p.2.2 i
  have l4:(p.2.2.take i).length≤p.2.2.length:=by simp;omega
  have l5:=Fj hk (now:=now) [p.2.2.getD i ax.aa]
  have l6:(ia now (p.2.2.getD i ax.aa).2).length≤1048576:=akZ (ar (e:=ab)) (akZ (y0 hk) (fu hk hp hi).2)
  simp only[aF,au hi,hi,decide_true,if_true,akT]
  rw[aU (by omega),Jn hk (fu hk hp hi).1,akR,Rt hi]
  have hg:im now (p.2.2.take (i+1))=im now (p.2.2.take i)++ia now (p.2.2.getD i ax.aa).2:=ek (f:=fun c:aO=>ia now c.2) ax.aa hi
  rw[hg]
  by_cases hz:0<(gf now (p.2.2.getD i ax.aa).2).length
  ·rw[if_pos (decide_eq_true (by simp only[kH];omega)),if_pos hz,if_pos (decide_eq_true (by simp only[ak0];first|omega|(dsimp only;omega)|(simp;omega))),if_pos (decide_eq_true (by first|omega|(dsimp only;omega)|(simp;omega)))]
  ·have hz':¬decide ((((kH now (p.2.2.getD i ax.aa)).2.length:Nat):Int)>0)=true:=fun h=>hz (by have h9:=of_decide_eq_true h;simp only[kH]at h9;omega)
   rw[if_neg hz',if_neg hz,if_pos (decide_eq_true (by first|omega|(dsimp only;omega)|(simp;omega)))]
 ·simp only[aF,akV,decide_false,akS,if_false,ak4]
  unfold xe
  by_cases hz:0<(im now p.2.2).length
  ·rw[if_pos (decide_eq_true (by omega)),if_pos hz]
  ·have hz':¬decide ((((im now p.2.2).length:Nat):Int)>0)=true:=fun h=>hz (by have h9:=of_decide_eq_true h;omega)
   rw[if_neg hz',if_neg hz]
theorem Mo {p:aG} {now:Int} (hp:ag aj p≤1048576):oR k (p,now,())=some (xe p now,im now p.2.2,()):=by
 have h1:=cM hk p
 have h2:=ar (e:=ax) (l:=p.2.2)
 simp only[oR,aL]
 refine(bZ (fun i:Nat=>(now,p,(0,0,([]:List aO)),(p.1,p.2.1,vF now (p.2.2.take i)),im now (p.2.2.take i),(i:Int),())) p.2.2.length (e:=some (xe p now,im now p.2.2,())) (fun G i hi=> ?_) (fun G=> ?_) k 0 (by omega) (by omega))
 ·have l1:=RN hk (now:=now) (p.2.2.take i)
  have l2:=Fj hk (now:=now) (p.2.2.take i)
  have l3:=cN (e:=ax) p.2.2 i
  have l4:(p.2.2.take i).length≤p.2.2.length:=by simp;omega
  have l6:(ia now (p.2.2.getD i ax.aa).2).length≤1048576:=akZ (ar (e:=ab)) (akZ (y0 hk) (fu hk hp hi).2)
  simp only[aF,au hi,hi,decide_true,if_true,akT]
  rw[aU (by omega),Ij hk (fu hk hp hi).1,akR,Rt hi]
  have hg:im now (p.2.2.take (i+1))=im now (p.2.2.take i)++ia now (p.2.2.getD i ax.aa).2:=ek (f:=fun c:aO=>ia now c.2) ax.aa hi
  rw[hg,if_pos (decide_eq_true (by first|omega|(dsimp only;omega)|(simp;omega)))]
  by_cases hz:0<(gf now (p.2.2.getD i ax.aa).2).length
  ·rw[if_pos (decide_eq_true (by simp only[kH];omega)),if_pos hz,if_pos (decide_eq_true (by simp only[ak0];first|omega|(dsimp only;omega)|(simp;omega)))]
  ·have hz':¬decide ((((kH now (p.2.2.getD i ax.aa)).2.length:Nat):Int)>0)=true:=fun h=>hz (by have h9:=of_decide_eq_true h;simp only[kH]at h9;omega)
   rw[if_neg hz',if_neg hz]
 ·simp only[aF,akV,decide_false,akS,if_false,ak4]
  unfold xe
  by_cases hz:0<(im now p.2.2).length
  ·rw[if_pos (decide_eq_true (by omega)),if_pos hz]
  ·have hz':¬decide ((((im now p.2.2).length:Nat):Int)>0)=true:=fun h=>hz (by have h9:=of_decide_eq_true h;omega)
   rw[if_neg hz',if_neg hz]
theorem UR {s:bp} {a:af} (hs:ag aW s≤1048576) (ha:ag ab a≤1048576):ub k (s,a,())=some (sI a s,()):=by
 have h1:=pz hk s
 have h2:=ar (e:=ab) (l:=s.1)
 simp only[ub]
 rw[Nn hk (by omega),akR]
 unfold sI
 by_cases hl:s.2=true
 ·rw[if_pos hl,if_pos hl]
 ·rw[if_neg hl,if_neg hl]
  by_cases h3:3≤s.1.length
  ·rw[if_pos (decide_eq_true (by omega)),if_pos h3]
  ·have h3':¬decide (((s.1.length:Nat):Int)≥3)=true:=fun h=>h3 (by have h9:=of_decide_eq_true h;omega)
   rw[if_neg h3',if_neg h3,cB hk (by omega),akR,if_pos (decide_eq_true (by simp only[ak0];omega))]
theorem Vh {s:bp} {a:af} (hs:ag aW s≤1048576) (ha:ag ab a≤1048576):tW k (s,a,())=some (sI a s,()):=by
 have h1:=pz hk s
 have h2:=ar (e:=ab) (l:=s.1)
 simp only[tW]
 rw[RX hk (by omega),akR]
 unfold sI
 by_cases hl:s.2=true
 ·rw[if_pos hl,if_pos hl]
 ·rw[if_neg hl,if_neg hl]
  by_cases h3:3≤s.1.length
  ·rw[if_pos (decide_eq_true (by omega)),if_pos h3]
  ·have h3':¬decide (((s.1.length:Nat):Int)≥3)=true:=fun h=>h3 (by have h9:=of_decide_eq_true h;omega)
   rw[if_neg h3',if_neg h3,ew hk (by omega),akR,if_pos (decide_eq_true (by simp only[ak0];omega))]
theorem NM {l:List bp} {a:af} (hl:ag (.sl aW) l≤1048576) (ha:ag ab a≤1048576):oS k (l,a,())=some (l.map (sI a),()):=by
 have h2:=ar (e:=aW) (l:=l)
 simp only[oS]
 refine(bZ (fun i:Nat=>(a,(l.take i).map (sI a),l,(l.length:Int),(i:Int),())) l.length (e:=some (l.map (sI a),())) (fun G i hi=> ?_) (fun G=> ?_) k 0 (by omega) (by omega))
 ·have hg:l.getD i aW.aa=l[i]:=by rw[ak2,ale hi];rfl
  simp only[aF,au hi,hi,decide_true,if_true,akT]
  rw[aU (by omega),UR hk (Np hk hl hi) ha,akR,if_pos (decide_eq_true (by simp;omega)),ak6 hi,aly,hg]
  rfl
 ·simp
theorem MJ {l:List bp} {a:af} (hl:ag (.sl aW) l≤1048576) (ha:ag ab a≤1048576):oM k (l,a,())=some (l.map (sI a),()):=by
 have h2:=ar (e:=aW) (l:=l)
 simp only[oM]
 refine(bZ (fun i:Nat=>(l,a,(l.take i).map (sI a),(i:Int),())) l.length (e:=some (l.map (sI a),())) (fun G i hi=> ?_) (fun G=> ?_) k 0 (by omega) (by omega))
 ·have hg:l.getD i aW.aa=l[i]:=by rw[ak2,ale hi];rfl
  simp only[aF,au hi,hi,decide_true,if_true,akT]
  rw[aU (by omega),Vh hk (Np hk hl hi) ha,akR,if_pos (decide_eq_true (by simp;omega)),ak6 hi,aly,hg]
  rfl
 ·simp
end
def F5 (l:List aJ) (i j:Nat):List aJ:=(l.set i (l.getD j aw.aa)).set j (l.getD i aw.aa)
theorem lT (l:List aJ) (i j:Nat):(F5 l i j).length=l.length:=by simp[F5]
def XC (l:List aJ) (i:Nat):List aJ:=
 if h:0<i then if dv (l.getD i aw.aa) (l.getD ((i-1)/2) aw.aa)=true then XC (F5 l i ((i-1)/2)) ((i-1)/2)else l else l
termination_by i
decreasing_by omega
def Kg (l:List aJ) (t:aJ):List aJ:=XC (l++[t]) l.length
def gl (l:List aJ) (i:Nat):Nat:=
 if 2*i+2<l.length∧dv (l.getD (2*i+2) aw.aa) (l.getD (2*i+1) aw.aa)=true then 2*i+2 else 2*i+1
def yi (l:List aJ) (i:Nat):List aJ:=
 if h:2*i+1<l.length then
  if dv (l.getD (gl l i) aw.aa) (l.getD i aw.aa)=true then yi (F5 l i (gl l i)) (gl l i)else l
 else l
termination_by l.length-i
decreasing_by
 rw[lT]
 have:i<gl l i:=by unfold gl;split<;>omega
 omega
theorem XI {l:List aJ} {i:Nat} (h:2*i+1<l.length):i<gl l i∧gl l i<l.length:=by unfold gl;split<;>omega
def kK (l:List aJ):List aJ×aJ×Bool:=
 if l.length=0 then([],(0,0),false)
 else(if l.length=1 then []else yi ((l.take (l.length-1)).set 0 (l.getD (l.length-1) aw.aa)) 0,l.getD 0 aw.aa,true)
theorem i2a {i:Nat} (h:i<1073741824):IntKind.i64.wrap (IntKind.i64.wrap ((2:Int)*(i:Int))+1)=((2*i+1:Nat):Int):=by
 have e:(2:Int)*(i:Int)=((2*i:Nat):Int):=by omega
 have w:IntKind.i64.wrap ((2*i:Nat):Int)=((2*i:Nat):Int):=by
  have:=aU (i:=2*i-1) (by omega)
  rcases alE i with h0|h0
  ·subst h0;rfl
  ·have e2:(((2*i-1:Nat):Int)+1)=((2*i:Nat):Int):=by omega
   rw[e2]at this
   rw[this];congr 1;omega
 rw[e,w,aU (by omega)]
theorem i2b {i:Nat} (h:i<1073741824):IntKind.i64.wrap (((2*i+1:Nat):Int)+1)=((2*i+2:Nat):Int):=by
 rw[aU (by omega)]
theorem CX {σ ρ α:Type} {f:(σ→Option ρ)→σ→Option ρ} (st:α→σ) (res:α→Option ρ) (I:α→Prop) (m:α→Nat)
 (h:∀G a,I a→(∃a',I a'∧m a'<m a∧res a'=res a∧f G (st a)=G (st a'))∨f G (st a)=res a):
 ∀n a,I a→m a<n→aH n f (st a)=res a
 |0,a,_,hn=>by omega
 |n+1,a,hI,hn=>by
  rcases h (aH n f) a hI with⟨a',hI',hm,hr,hs⟩|hs
  ·show f (aH n f) (st a)=_
   rw[hs,←hr]
   exact CX st res I m h n a' hI' (by omega)
  ·exact hs
theorem RR {σ ρ α:Type} {f:(σ→Option ρ)→σ→Option ρ} (st:α→σ) (res:α→Option ρ) (I:α→Prop) (m:α→Nat)
 (h:∀a,I a→∃(c:Bool) (a':α),(c=true→I a'∧m a'<m a∧res a'=res a)∧∀G,f G (st a)=if c=true then G (st a')else res a):
 ∀n a,I a→m a<n→aH n f (st a)=res a:=by
 refine CX st res I m (fun G a hI=> ?_)
 obtain⟨c,a',h1,h2⟩:=h a hI
 cases c with
 |true=>exact Or.inl ⟨a',(h1 rfl).1,(h1 rfl).2.1,(h1 rfl).2.2,h2 G⟩
 |false=>exact Or.inr (h2 G)
theorem rZ {n:Nat} (h:n<4611686018427387904):IntKind.i64.wrap (n:Int)=(n:Int):=by
 rcases alE n with h0|h0
 ·subst h0;rfl
 ·have:=aU (i:=n-1) (by omega)
  have e2:(((n-1:Nat):Int)+1)=(n:Int):=by omega
  rw[e2]at this
  rw[this];congr 1;omega
theorem abM {α:Type} {l:List α} {t:α} (h:l.length≤1048576):IntKind.i64.wrap ((((l++[t]).length:Nat):Int)-1)=(l.length:Int):=by
 rw[ak7,ak0]
 have e:(((l.length+1:Nat):Int)-1)=(l.length:Int):=by omega
 rw[e,rZ (by omega)]
section
variable {k:Nat} (hk:9223372036854775808≤k)
include hk
theorem y9 {l:List aJ} {t:aJ} (hl:l.length≤1048576):lj k (l,t,())=some (Kg l t,()):=by
 simp only[lj,vd hk (show l.length≤1073741824 by omega),akR]
 rw[if_pos (decide_eq_true (by simp only[ak0];omega)),abM hl]
 unfold Kg
 have hL:(l++[t]).length≤1048577:=by simp;omega
 have hi:l.length<(l++[t]).length:=by simp
 refine CX (fun a:List aJ×Nat=>(t,a.1,(a.2:Int),())) (fun a=>some (XC a.1 a.2,())) (fun a=>a.2<a.1.length∧a.1.length≤1048577) (fun a=>a.2) ?_ k (l++[t],l.length) ⟨hi,hL⟩ (by dsimp only;omega)
 rintro G ⟨L,i⟩ ⟨hi,hL⟩
 dsimp only at hi hL⊢
 rw[XC]
 cases i with
 |zero=>
  right
  simp only[UB]
  simp
 |succ q=>
  have hq:q/2<L.length:=by omega
  have e2:decide (¬(2:Int)=0)=true:=rfl
  have e3:(q+1-1)/2=q/2:=by omega
  simp only[aF,au hi,au hq,hi,Ns,yh (show q<4611686018427387904 by omega),decide_true,if_true,akT,n9 hk,akR,alj,cG,ne_eq,e2,akW,beq_self_eq_true,e3]
  rw[dif_pos (Nat.succ_pos q)]
  by_cases hb:dv (L.getD (q+1) aw.aa) (L.getD (q/2) aw.aa)=true
  ·left
   refine⟨(F5 L (q+1) (q/2),q/2),⟨by rw[lT];exact hq,by rw[lT];exact hL⟩,by show q/2<q+1;omega,by rw[if_pos hb],?_⟩
   rw[if_pos hb];rfl
  ·right
   rw[if_neg hb,if_neg hb]
theorem LP {l:List aJ} {t:aJ} (hl:l.length≤1048576):oB k (l,t,())=some (Kg l t,()):=by
 simp only[oB,ak9]
 rw[if_pos (decide_eq_true (by simp only[alh];omega)),if_pos (decide_eq_true (by simp only[ak0];omega)),abM hl]
 unfold Kg
 have hL:(l++[t]).length≤1048577:=by simp;omega
 have hi:l.length<(l++[t]).length:=by simp
 refine CX (fun a:List aJ×Nat=>(t,a.1,(a.2:Int),())) (fun a=>some (XC a.1 a.2,())) (fun a=>a.2<a.1.length∧a.1.length≤1048577) (fun a=>a.2) ?_ k (l++[t],l.length) ⟨hi,hL⟩ (by dsimp only;omega)
 rintro G ⟨L,i⟩ ⟨hi,hL⟩
 dsimp only at hi hL⊢
 rw[XC]
 cases i with
 |zero=>
  right
  simp only[UB]
  simp
 |succ q=>
  have hq:q/2<L.length:=by omega
  have e2:decide (¬(2:Int)=0)=true:=rfl
  have e3:(q+1-1)/2=q/2:=by omega
  simp only[aF,au hi,au hq,hi,Ns,yh (show q<4611686018427387904 by omega),decide_true,if_true,akT,gC hk,akR,alj,cG,ne_eq,e2,akW,beq_self_eq_true,e3]
  rw[dif_pos (Nat.succ_pos q)]
  by_cases hb:dv (L.getD (q+1) aw.aa) (L.getD (q/2) aw.aa)=true
  ·left
   refine⟨(F5 L (q+1) (q/2),q/2),⟨by rw[lT];exact hq,by rw[lT];exact hL⟩,by show q/2<q+1;omega,by rw[if_pos hb],?_⟩
   rw[if_pos hb];rfl
  ·right
   rw[if_neg hb,if_neg hb]
theorem Jv {l:List aJ} (hl:l.length≤1048576):nr k (l,())=some ((kK l).1,(kK l).2.1,(kK l).2.2,()):=by
 simp only[nr]
 unfold kK
 by_cases h0:l.length=0
 ·rw[if_pos (by simpa using h0),if_pos h0]
 ·have e1:IntKind.i64.wrap (((l.length:Nat):Int)-1)=((l.length-1:Nat):Int):=by
   have:(((l.length:Nat):Int)-1)=((l.length-1:Nat):Int):=by omega
   rw[this,rZ (by omega)]
  have hi0:decide ((0:Int)≤0∧(0:Int)<(l.length:Int))=true:=decide_eq_true ⟨by omega,by omega⟩
  rw[if_neg (by simpa using h0),if_neg h0,e1,if_pos hi0,if_pos (decide_eq_true ⟨by omega,by omega⟩),akT,vd hk (by simp;omega),akR]
  by_cases h1:l.length=1
  ·rw[if_pos (by simp;omega),if_pos h1]
   have:l.take (l.length-1)=[]:=by rw[h1];rfl
   rw[this];rfl
  ·rw[if_neg (by simp;omega),if_neg h1,if_pos (decide_eq_true ⟨by omega,by omega⟩),if_pos (decide_eq_true ⟨by omega,by simp;omega⟩)]
   have hL:((l.take (l.length-1)).set 0 (l.getD (l.length-1) aw.aa)).length=l.length-1:=by simp
   refine RR (fun a:List aJ×Nat=>((0,0),l.getD 0 aw.aa,((l.length-1:Nat):Int),a.1,(a.2:Int),())) (fun a=>some (yi a.1 a.2,l.getD 0 aw.aa,true,())) (fun a=>a.1.length=l.length-1∧a.2<a.1.length)
    (fun a=>l.length-a.2) ?_ k ((l.take (l.length-1)).set 0 (l.getD (l.length-1) aw.aa),0) ⟨hL,by rw[hL];show 0<_;omega⟩ (by dsimp only;omega)
   rintro⟨L,i⟩ ⟨hn,hi⟩
   dsimp only at hn hi⊢
   generalize l.getD 0 aw.aa=x0
   have hdn:yi L i=_:=yi.eq_1 L i
   by_cases hA1:2*i+1<L.length
   ·rw[dif_pos hA1]at hdn
    obtain⟨k1,k2⟩:=XI hA1
    refine⟨dv (L.getD (gl L i) aw.aa) (L.getD i aw.aa),(F5 L i (gl L i),gl L i),fun hc=> ?_,fun G=> ?_⟩
    ·refine⟨⟨by rw[lT];exact hn,by rw[lT];exact k2⟩,by dsimp only;omega,?_⟩
     rw[if_pos hc]at hdn;rw[hdn]
    ·have hg:decide (((gl L i:Nat):Int)≥(L.length:Int))=false:=decide_eq_false (by omega)
     simp only[i2a (show i<1073741824 by omega),i2b (show i<1073741824 by omega),aL,aF,akT,←hn,alj,cG]
     by_cases hA:2*i+2<L.length
     ·simp only[hA,au hA,au hA1,decide_true,akW,if_true,beq_self_eq_true,n9 hk,akR]
      by_cases hB:dv (L.getD (2*i+2) aw.aa) (L.getD (2*i+1) aw.aa)=true
      ·rw[if_pos hB]
       have hq:gl L i=2*i+2:=if_pos ⟨hA,hB⟩
       simp only[←hq,hg,au k2,au hi,akW,if_true,beq_self_eq_true,n9 hk,akR,akS,if_false]
       rcases akU (dv (L.getD (gl L i) aw.aa) (L.getD i aw.aa))with hb|hb
       ·rw[if_neg (by rw[hb];decide),if_pos hb];rfl
       ·rw[if_pos (by rw[hb];decide),if_neg (by rw[hb];decide),hdn,if_neg (by rw[hb];decide)]
      ·rw[if_neg hB]
       have hq:gl L i=2*i+1:=if_neg (fun h=>hB h.2)
       simp only[←hq,hg,au k2,au hi,akW,if_true,beq_self_eq_true,n9 hk,akR,akS,if_false]
       rcases akU (dv (L.getD (gl L i) aw.aa) (L.getD i aw.aa))with hb|hb
       ·rw[if_neg (by rw[hb];decide),if_pos hb];rfl
       ·rw[if_pos (by rw[hb];decide),if_neg (by rw[hb];decide),hdn,if_neg (by rw[hb];decide)]
     ·have hg':decide (2*i+2<L.length)=false:=decide_eq_false hA
      have eH:(false==true)=false:=rfl
      simp only[hg',eH,akX,ak8,if_true,akS,if_false,akR]
      have hq:gl L i=2*i+1:=if_neg (fun h=>hA h.1)
      simp only[←hq,hg,au k2,au hi,akW,if_true,beq_self_eq_true,n9 hk,akR,akS,if_false]
      rcases akU (dv (L.getD (gl L i) aw.aa) (L.getD i aw.aa))with hb|hb
      ·rw[if_neg (by rw[hb];decide),if_pos hb];rfl
      ·rw[if_pos (by rw[hb];decide),if_neg (by rw[hb];decide),hdn,if_neg (by rw[hb];decide)]
   ·rw[dif_neg hA1]at hdn
    refine⟨false,(L,i),(fun h=>nomatch h),fun G=> ?_⟩
    simp only[i2a (show i<1073741824 by omega),i2b (show i<1073741824 by omega),aL,aF,akT,←hn,alj,cG]
    have hg:decide (2*i+2<L.length)=false:=decide_eq_false (by omega)
    have hg2:decide (((2*i+1:Nat):Int)≥(L.length:Int))=true:=decide_eq_true (by omega)
    have eH:(false==true)=false:=rfl
    have eG:(true==false)=false:=rfl
    simp only[hg,hg2,eH,eG,akX,ak8,akS,if_false,akR,if_true,hdn]
theorem Je {l:List aJ} (hl:l.length≤1048576):nJ k (l,())=some ((kK l).1,(kK l).2.1,(kK l).2.2,()):=by
 simp only[nJ]
 unfold kK
 by_cases h0:l.length=0
 ·rw[if_pos (by simpa using h0),if_pos h0]
 ·have e1:IntKind.i64.wrap (((l.length:Nat):Int)-1)=((l.length-1:Nat):Int):=by
   have:(((l.length:Nat):Int)-1)=((l.length-1:Nat):Int):=by omega
   rw[this,rZ (by omega)]
  have hi0:decide ((0:Int)≤0∧(0:Int)<(l.length:Int))=true:=decide_eq_true ⟨by omega,by omega⟩
  rw[if_neg (by simpa using h0),if_neg h0,e1,if_pos (decide_eq_true ⟨by omega,by omega⟩),akT,if_pos (decide_eq_true (by simp;omega))]
  simp only[aL,ak9,hi0,if_true]
  by_cases h1:l.length=1
  ·rw[if_neg (by simp;omega),if_pos h1]
   have e2:l.take (l.length-1)=[]:=by rw[h1];rfl
   rw[e2]
   obtain⟨q,hq⟩:∃q,k=q+1:=⟨k-1,by omega⟩
   rw[hq]
   simp only[aH,h1]
   rfl
  ·rw[if_pos (by simp;omega),if_neg h1,if_pos (decide_eq_true ⟨by omega,by omega⟩),if_pos (decide_eq_true ⟨by omega,by simp;omega⟩)]
   have hL:((l.take (l.length-1)).set 0 (l.getD (l.length-1) aw.aa)).length=l.length-1:=by simp
   refine RR (fun a:List aJ×Nat=>(l,(0,0),((l.length-1:Nat):Int),a.1,(a.2:Int),())) (fun a=>some (yi a.1 a.2,l.getD 0 aw.aa,true,())) (fun a=>a.1.length=l.length-1∧a.2<a.1.length)
    (fun a=>l.length-a.2) ?_ k ((l.take (l.length-1)).set 0 (l.getD (l.length-1) aw.aa),0) ⟨hL,by rw[hL];show 0<_;omega⟩ (by dsimp only;omega)
   rintro⟨L,i⟩ ⟨hn,hi⟩
   dsimp only at hn hi⊢
   have hx:l.getD (alo 0) aw.aa=l.getD 0 aw.aa:=rfl
   have hdn:yi L i=_:=yi.eq_1 L i
   by_cases hA1:2*i+1<L.length
   ·rw[dif_pos hA1]at hdn
    obtain⟨k1,k2⟩:=XI hA1
    refine⟨dv (L.getD (gl L i) aw.aa) (L.getD i aw.aa),(F5 L i (gl L i),gl L i),fun hc=> ?_,fun G=> ?_⟩
    ·refine⟨⟨by rw[lT];exact hn,by rw[lT];exact k2⟩,by dsimp only;omega,?_⟩
     rw[if_pos hc]at hdn;rw[hdn]
    ·simp only[i2a (show i<1073741824 by omega),i2b (show i<1073741824 by omega),aL,aF,akT,←hn,alj,cG,hA1,decide_true,if_true,hx]
     by_cases hA:2*i+2<L.length
     ·simp only[hA,au hA,au hA1,decide_true,akW,if_true,beq_self_eq_true,gC hk,akR]
      by_cases hB:dv (L.getD (2*i+2) aw.aa) (L.getD (2*i+1) aw.aa)=true
      ·rw[if_pos hB]
       have hq:gl L i=2*i+2:=if_pos ⟨hA,hB⟩
       simp only[←hq,au k2,au hi,akW,if_true,beq_self_eq_true,gC hk,akR,akS,if_false]
       rcases akU (dv (L.getD (gl L i) aw.aa) (L.getD i aw.aa))with hb|hb
       ·rw[if_neg (by rw[hb];decide),if_pos hb];rfl
       ·rw[if_pos (by rw[hb];decide),if_pos hi0,if_neg (by rw[hb];decide),hdn,if_neg (by rw[hb];decide)]
      ·rw[if_neg hB]
       have hq:gl L i=2*i+1:=if_neg (fun h=>hB h.2)
       simp only[←hq,au k2,au hi,akW,if_true,beq_self_eq_true,gC hk,akR,akS,if_false]
       rcases akU (dv (L.getD (gl L i) aw.aa) (L.getD i aw.aa))with hb|hb
       ·rw[if_neg (by rw[hb];decide),if_pos hb];rfl
       ·rw[if_pos (by rw[hb];decide),if_pos hi0,if_neg (by rw[hb];decide),hdn,if_neg (by rw[hb];decide)]
     ·have hg':decide (2*i+2<L.length)=false:=decide_eq_false hA
      have eH:(false==true)=false:=rfl
      simp only[hg',eH,akX,ak8,if_true,akS,if_false,akR]
      have hq:gl L i=2*i+1:=if_neg (fun h=>hA h.1)
      simp only[←hq,au k2,au hi,akW,if_true,beq_self_eq_true,gC hk,akR,akS,if_false]
      rcases akU (dv (L.getD (gl L i) aw.aa) (L.getD i aw.aa))with hb|hb
      ·rw[if_neg (by rw[hb];decide),if_pos hb];rfl
      ·rw[if_pos (by rw[hb];decide),if_pos hi0,if_neg (by rw[hb];decide),hdn,if_neg (by rw[hb];decide)]
   ·rw[dif_neg hA1]at hdn
    refine⟨false,(L,i),(fun h=>nomatch h),fun G=> ?_⟩
    have hg:decide (2*i+1<L.length)=false:=decide_eq_false hA1
    simp only[i2a (show i<1073741824 by omega),aF,←hn,hg,hdn,hi0,if_true,akS,if_false,hx]
end
theorem xX {α:Type} [DecidableEq α]:∀(l m:List α),allEq (fun a b=>decide (a=b)) l m=decide (l=m)
 | [],[]=>by simp[allEq]
 | [],_::_=>by simp[allEq]
 |_::_,[]=>by simp[allEq]
 |a::l,b::m=>by simp only[allEq,xX l m,List.cons.injEq,alr]
theorem DB (a b:ByteArray):(a.toList==b.toList)=decide (a=b):=by
 by_cases h:a=b
 ·simp[h]
 ·have:¬a.toList=b.toList:=fun e=>h (toList_inj e)
  simp[h,this]
instance iLabel:DecidableEq ay:=inferInstance
instance iLabels:DecidableEq (List ay):=inferInstance
instance iAlarm:DecidableEq af:= @instDecidableEqProd _ _ inferInstance inferInstance
instance iAlarms:DecidableEq (List af):=inferInstance
instance iTail:DecidableEq (List Int×(List af×aJ)):=inferInstance
instance iTask:DecidableEq aN:= @instDecidableEqProd _ _ inferInstance (@instDecidableEqProd _ _ inferInstance (@instDecidableEqProd _ _ inferInstance (@instDecidableEqProd _ _ inferInstance (@instDecidableEqProd _ _ inferInstance inferInstance))))
def zT:aN:=(0,0,eC,[],0,[],[],0,0)
def wH (l:List Int):Bool:=bj 0 l.length (fun i=>decide (0≤l.getD i 0))
def Gm (t:aN):Bool:=decide (t.2.2.2.2.1=0)&&decide (t.2.2.2.2.2.1=[])&&decide (t.2.2.2.2.2.2.1=[])
def eO (t:aN) (n:Int):Bool:=
 bO n 0 4&&decide (0≤t.2.2.2.2.2.2.2.2)&&
 ((decide (t.1=0)&&decide (t=zT))||
  (decide (t.1=1)&&decide (n<3)&&bO t.2.1 0 2&&cx t.2.2.1&&decide (t.2.2.2.1=[])&&Gm t&&decide (t.2.2.2.2.2.2.2.1=0))||
  (decide (t.1=2)&&decide (n<3)&&bO t.2.1 0 1&&decide (t.2.2.1=eC)&&fZ t.2.2.2.1&&Gm t&&decide (t.2.2.2.2.2.2.2.1=0))||
  (decide (t.1=3)&&decide (n<3)&&bO t.2.1 0 2&&decide (t.2.2.1=eC)&&decide (t.2.2.2.1=[])&&wH t.2.2.2.2.2.1&&decide ((t.2.2.2.2.2.1.length:Int)=t.2.2.2.2.1)&&cC t.2.2.2.2.2.2.1&&
   (if t.2.1=2 then bO t.2.2.2.2.1 1 3 else bO t.2.2.2.2.1 0 2)&&decide (t.2.2.2.2.2.2.2.1=0))||
  (decide (t.1=4)&&decide (n<3)&&bO t.2.1 0 1&&decide (t.2.2.1=eC)&&decide (t.2.2.2.1=[])&&bO t.2.2.2.2.1 0 2&&decide (t.2.2.2.2.2.1=[])&&decide (t.2.2.2.2.2.2.1=[])&&decide (t.2.2.2.2.2.2.2.1=0))||
  (decide (t.1=5)&&decide (n=3)&&bO t.2.1 0 1&&cx t.2.2.1&&decide (t.2.2.2.1=[])&&Gm t&&decide (t.2.2.2.2.2.2.2.1=0))||
  (decide (t.1=6)&&decide (n=4)&&bO t.2.1 0 1&&decide (t.2.2.1=eC)&&decide (t.2.2.2.1=[])&&Gm t&&decide (0≤t.2.2.2.2.2.2.2.1)))
def wb (k:Nat) (d:aP):Bool:=match jJ k (d,())with|some r=>r.1|none=>false
def cD (k:Nat) (t:aN) (n:Int):Int:=
 if n<1 then-1
 else if t.1=1∧(t.2.1=1∨t.2.1=2)then eJ (dt k t.2.2.1.1) n
 else if t.1=2∧t.2.1=1 then eJ (dt k t.2.2.2.1) n
 else if(t.1=3∨t.1=4)∧t.2.1=1 then t.2.2.2.2.1
 else-1
def en (t:aN):Bool:=(decide (t.1=5)||decide (t.1=6))&&decide (t.2.1=1)
section
variable {k:Nat} (hk:9223372036854775808≤k)
include hk
theorem fT {a b:af} (ha:a.1.length≤1048576):dn k (a,b,())=some (decide (a=b),()):=by
 obtain⟨a1,a2,a3,a4⟩:=a
 obtain⟨b1,b2,b3,b4⟩:=b
 simp only[dn,dN hk ha,akR,bP,DB,alk,alr]
 by_cases h1:a1=b1<;>by_cases h2:a2=b2<;>by_cases h3:a3=b3<;>simp[h1,h2,h3]
theorem kI {a b:af} (ha:a.1.length≤1048576):dm k (a,b,())=some (decide (a=b),()):=by
 obtain⟨a1,a2,a3,a4⟩:=a
 obtain⟨b1,b2,b3,b4⟩:=b
 simp only[dm,eF hk ha,akR,bP,DB,alk,alr]
 by_cases h1:a1=b1<;>by_cases h2:a2=b2<;>by_cases h3:a3=b3<;>simp[h1,h2,h3]
theorem lL {a:af} (h:ag ab a≤1048576):a.1.length≤1048576:=by
 rw[bG hk]at h
 have:=ar (e:=aq) (l:=a.1)
 omega
theorem Pc {a b:List af} (ha:ag (.sl ab) a≤1048576):qH k (a,b,())=some (decide (a=b),()):=by
 rw[←xX]
 have hl:=ar (e:=ab) (l:=a)
 exact acx (d:=ab.aa) (S:=dn k) hk (by omega) (fun x hx y _=>fT hk (lL hk (akZ (bo (e:=ab) hx) ha)))
theorem uk {a b:List af} (ha:ag (.sl ab) a≤1048576):iF k (a,b,())=some (decide (a=b),()):=by
 rw[←xX]
 have hl:=ar (e:=ab) (l:=a)
 exact Xr (d:=ab.aa) (S:=dm k) hk (by omega) (fun x hx y _=>kI hk (lL hk (akZ (bo (e:=ab) hx) ha)))
theorem IP {a b:List Int} (ha:a.length≤1048576):jU k (a,b,())=some (decide (a=b),()):=by
 rw[←xX]
 refine Eq.trans ?_ (Xr (d:=(0:Int)) (S:=fun z=>some (decide ((z.1:Int)=z.2.1),())) (p:=fun a b=>decide (a=b)) hk (by omega) (fun x hx y _=>rfl))
 simp only[jU,eqR,akR,dT]
theorem IX {a b:aN} (ha:ag al a≤1048576):jY k (a,b,())=some (decide (a=b),()):=by
 rw[cP hk]at ha
 have h1:=lL hk (a:=a.2.2.1) (by omega)
 have h2:=ar (e:=aq) (l:=a.2.2.2.1)
 have h3:=ar (e:= .int .i64) (l:=a.2.2.2.2.2.1)
 have q1:∀b,dm k (a.2.2.1,b,())=some (decide (a.2.2.1=b),()):=fun b=>kI hk h1
 have q2:∀b,da k (a.2.2.2.1,b,())=some (decide (a.2.2.2.1=b),()):=fun b=>eF hk (by omega)
 have q3:∀b,jU k (a.2.2.2.2.2.1,b,())=some (decide (a.2.2.2.2.2.1=b),()):=fun b=>IP hk (by omega)
 have q4:∀b,iF k (a.2.2.2.2.2.2.1,b,())=some (decide (a.2.2.2.2.2.2.1=b),()):=fun b=>uk hk (by omega)
 obtain⟨a1,a2,a3,a4,a5,a6,a7,a8,a9⟩:=a
 obtain⟨b1,b2,b3,b4,b5,b6,b7,b8,b9⟩:=b
 simp only at q1 q2 q3 q4
 simp only[jY,q1,q2,q3,q4,cf,akR,bP,alk,alr]
 by_cases e1:a1=b1
 ·by_cases e2:a2=b2
  ·by_cases e3:a3=b3
   ·by_cases e4:a4=b4
    ·by_cases e5:a5=b5
     ·by_cases e6:a6=b6
      ·by_cases e7:a7=b7
       ·by_cases e8:a8=b8<;>simp[e1,e2,e3,e4,e5,e6,e7,e8]
       ·simp[e1,e2,e3,e4,e5,e6,e7]
      ·simp[e1,e2,e3,e4,e5,e6]
     ·simp[e1,e2,e3,e4,e5]
    ·simp[e1,e2,e3,e4]
   ·simp[e1,e2,e3]
  ·simp[e1,e2]
 ·simp[e1]
theorem pL {t:aN} {n:Int} (hs:ag al t≤1048576):jr k (t,n,())=some (cD k t n,()):=by
 rw[cP hk]at hs
 have ha:ag (.sl aq) t.2.2.1.1≤1048576:=by
  have:=bG hk t.2.2.1
  omega
 simp only[jr,mQ,fy hk ha,fy hk (l:=t.2.2.2.1) (by omega),lC hk,akR,bP]
 unfold cD
 by_cases hn:n<1
 ·simp[hn]
 ·by_cases p1:t.2.1=1
  ·by_cases h1:t.1=1
   ·simp[hn,p1,h1]
   ·by_cases h2:t.1=2
    ·simp[hn,p1,h1,h2]
    ·by_cases h3:t.1=3
     ·simp[hn,p1,h1,h2,h3]
     ·by_cases h4:t.1=4<;>simp[hn,p1,h1,h2,h3,h4]
  ·by_cases h1:t.1=1
   ·by_cases p2:t.2.1=2<;>simp[hn,p1,p2,h1]
   ·simp[hn,p1,h1]
theorem Hg {t:aN} {n:Int} (hs:ag al t≤1048576):mi k (t,n,())=some (cD k t n,()):=by
 rw[cP hk]at hs
 have ha:ag (.sl aq) t.2.2.1.1≤1048576:=by
  have:=bG hk t.2.2.1
  omega
 simp only[mi,iX hk ha,iX hk (l:=t.2.2.2.1) (by omega),kL hk,akR,bP]
 unfold cD
 by_cases hn:n<1
 ·simp[hn]
 ·by_cases p1:t.2.1=1
  ·by_cases h1:t.1=1
   ·simp[hn,p1,h1]
   ·by_cases h2:t.1=2
    ·simp[hn,p1,h1,h2]
    ·by_cases h3:t.1=3
     ·simp[hn,p1,h1,h2,h3]
     ·by_cases h4:t.1=4<;>simp[hn,p1,h1,h2,h3,h4]
  ·by_cases h1:t.1=1
   ·by_cases p2:t.2.1=2<;>simp[hn,p1,p2,h1]
   ·simp[hn,p1,h1]
theorem gj {t:aN}:gW k (t,())=some (en t,()):=by
 simp only[gW,en,bP]
 by_cases h1:t.1=5<;>by_cases h2:t.1=6<;>simp[h1,h2]
theorem EC {t:aN}:jQ k (t,())=some (en t,()):=by
 simp only[jQ,en,bP]
 by_cases h1:t.1=5<;>by_cases h2:t.1=6<;>simp[h1,h2]
theorem QY {t:aN} (hs:ag al t≤1048576):qu k (t,())=some (wH t.2.2.2.2.2.1&&(decide ((t.2.2.2.2.2.1.length:Int)=t.2.2.2.2.1)&&cC t.2.2.2.2.2.2.1&&(if t.2.1=2 then bO t.2.2.2.2.1 1 3 else bO t.2.2.2.2.1 0 2)),()):=by
 rw[cP hk]at hs
 have h3:=ar (e:= .int .i64) (l:=t.2.2.2.2.2.1)
 simp only[qu,aL]
 refine(ch (fun i:Nat=>(t,t.2.2.2.2.2.1,(t.2.2.2.2.2.1.length:Int),(i:Int),())) (fun i=>decide (0≤t.2.2.2.2.2.1.getD i 0)) t.2.2.2.2.2.1.length
  (e:=some (decide ((t.2.2.2.2.2.1.length:Int)=t.2.2.2.2.1)&&cC t.2.2.2.2.2.2.1&&(if t.2.1=2 then bO t.2.2.2.2.1 1 3 else bO t.2.2.2.2.1 0 2),())) (no:=some (false,())) ?_ ?_ k 0 (by omega)).trans ?_
 ·intro G i hi
  simp only[aF,au hi,hi,decide_true,if_true,akT,vR]
  rw[aU (by omega)]
  rcases akU (decide (t.2.2.2.2.2.1.getD i 0<0))with h|h<;>simp only[h,if_true,akS,if_false,akY,akX]
 ·intro G i hi
  simp only[aF]
  rw[if_neg (by simp;omega)]
  simp only[mg hk (l:=t.2.2.2.2.2.2.1) (by omega),fK hk,akR,dT,bP,cf]
  by_cases q:(t.2.2.2.2.2.1.length:Int)=t.2.2.2.2.1<;>by_cases p:t.2.1=2<;>cases hb:cC t.2.2.2.2.2.2.1<;>simp[q,p]
 ·unfold wH
  generalize bj 0 t.2.2.2.2.2.1.length _=b
  cases b<;>simp
theorem Lh {t:aN} (hs:ag al t≤1048576):pf k (t,())=some (wH t.2.2.2.2.2.1&&(decide ((t.2.2.2.2.2.1.length:Int)=t.2.2.2.2.1)&&(if t.2.1=2 then bO t.2.2.2.2.1 1 3 else bO t.2.2.2.2.1 0 2)),()):=by
 rw[cP hk]at hs
 have h3:=ar (e:= .int .i64) (l:=t.2.2.2.2.2.1)
 simp only[pf,aL]
 refine(ch (fun i:Nat=>(t,(i:Int),())) (fun i=>decide (0≤t.2.2.2.2.2.1.getD i 0)) t.2.2.2.2.2.1.length
  (e:=some (decide ((t.2.2.2.2.2.1.length:Int)=t.2.2.2.2.1)&&(if t.2.1=2 then bO t.2.2.2.2.1 1 3 else bO t.2.2.2.2.1 0 2),())) (no:=some (false,())) ?_ ?_ k 0 (by omega)).trans ?_
 ·intro G i hi
  simp only[aF,au hi,hi,decide_true,if_true,akT,vR]
  rw[aU (by omega)]
  rcases akU (decide (t.2.2.2.2.2.1.getD i 0<0))with h|h<;>simp only[h,if_true,akS,if_false,akY,akX]
 ·intro G i hi
  simp only[aF]
  rw[if_neg (by simp;omega)]
  simp only[iJ hk,akR,bP,cf]
  generalize t.2.2.2.2.2.1.length=n
  generalize t.2.2.2.2.1=m
  by_cases p:t.2.1=2<;>by_cases q:(n:Int)=m
  ·subst q;simp[p]
  ·have q2:¬m=(n:Int):=fun e=>q e.symm
   simp[p,q,q2]
  ·subst q;simp[p,bO]
  ·simp[p,q]
 ·unfold wH
  generalize bj 0 t.2.2.2.2.2.1.length _=b
  cases b<;>simp
end
theorem cA {σ ρ:Type} {f:(σ→Option ρ)→σ→Option ρ} (st:Nat→σ) (p:Nat→Bool) (n:Nat) {e no:Option ρ}
 (hstep:∀G i,i<n→f G (st i)=if p i=true then G (st (i+1))else no) (hend:∀G,f G (st n)=e):
 ∀(k a:Nat),a≤n→n-a<k→aH k f (st a)=if bj a n p=true then e else no
 |0,_,_,h=>by omega
 |k+1,a,hn,h=>by
  show f (aH k f) (st a)=_
  by_cases ha:a<n
  ·rw[hstep _ a ha,Rn ha,cA st p n hstep hend k (a+1) (by omega) (by omega)]
   cases p a<;>simp
  ·have:a=n:=by omega
   subst this
   rw[hend,T8 (by omega),if_pos rfl]
theorem EK {n:Nat} {p:Nat→Bool}:bj 0 (n+1) p=(bj 0 n p&&p n):=by
 rw[ak1]
 simp only[ak5,eN]
 constructor
 ·intro h;exact⟨fun i h1 h2=>h i h1 (by omega),h n (by omega) (by omega)⟩
 ·rintro⟨h1,h2⟩ i hi hj
  by_cases he:i=n
  ·subst he;exact h2
  ·exact h1 i hi (by omega)
def Gi (st:List aG) (seen:List Int):Bool:=bj 0 seen.length (fun i=> !decide (seen.getD i 0>(st.getD i aj.aa).2.1))
def kf (st:List aG) (seen:List Int):Bool:=bj 0 seen.length (fun i=>decide (seen.getD i 0=(st.getD i aj.aa).2.1))
def nX (st:List aG) (t:aN):Bool:=
 Gi st t.2.2.2.2.2.1&&(!kf st t.2.2.2.2.2.1||decide ((st.take t.2.2.2.2.2.1.length).flatMap bE=t.2.2.2.2.2.2.1))
def me (k:Nat) (w:ak) (t:aN) (d:aP):Bool:=
 if t.1=1 then
  decide (d.1=1)&&(if t.2.1=2 then decide (d.2.2.1.1=t.2.2.1.1)&&(dQ k w.2.2.2.1 t.2.2.1.1).2&&decide ((dQ k w.2.2.2.1 t.2.2.1.1).1=t.2.2.1)else decide (d.2.2.1=t.2.2.1)&&mO t.2.2.1)
 else if t.1=2 then decide (d.1=3)&&decide (d.2.2.2.1=t.2.2.2.1)
 else if t.1=3 then decide (d.1=4)&&((if t.2.1=2 then decide ((t.2.2.2.2.2.1.length:Int)=w.1.1)else decide (t.2.2.2.2.1<w.1.1))&&nX w.2.2.2.1 t)
 else if t.1=4 then decide (d.1=6)&&decide (t.2.2.2.2.1<w.1.1)
 else if t.1=5 then decide (d.1=7)&&decide (d.2.2.1=t.2.2.1)
 else decide (d.1=8)&&(decide (d.2.2.2.2.2.1=t.2.2.2.2.2.2.2.1)&&decide (t.2.2.2.2.2.2.2.1<w.2.2.2.2.2.2.2.2.1))
def cm (k:Nat) (w:ak) (t:aN) (d:aP) (n:Int):Bool:=
 eO t n&&(decide (t.1=0)||(decide (t.2.2.2.2.2.2.2.2<(w.2.2.2.2.2.2.2.2.2.2.2.2.2.length:Int))&&(decide (d.2.1=n)&&decide (d.2.2.2.2.2.2.2.2.2.2.2= -1)&&
  decide ((¬d.2.2.2.2.2.2.2.2.2.2.1= -1)↔(t.1=1∧t.2.1=2))&&me k w t d)))
section
variable {k:Nat} (hk:9223372036854775808≤k)
include hk
theorem j8 {t:aN} (hs:ag al t≤1048576):
 ag ab t.2.2.1≤1048576∧ag (.sl aq) t.2.2.2.1≤1048576∧t.2.2.2.2.2.1.length≤1048576∧ag (.sl ab) t.2.2.2.2.2.2.1≤1048576∧ag (.sl aq) t.2.2.1.1≤1048576:=by
 rw[cP hk]at hs
 have h2:=ar (e:= .int .i64) (l:=t.2.2.2.2.2.1)
 have:=bG hk t.2.2.1
 omega
theorem LB {t:aP} (hs:ag aI t≤1048576):
 ag ab t.2.2.1≤1048576∧ag (.sl aq) t.2.2.2.1≤1048576∧ag (.sl ab) t.2.2.2.2.2.2.2.1≤1048576∧ag (.sl aq) t.2.2.1.1≤1048576:=by
 rw[ou hk]at hs
 have:=bG hk t.2.2.1
 omega
theorem PF {t:aN} {n:Int} (hs:ag al t≤1048576):qs k (t,n,())=some (eO t n,()):=by
 obtain⟨h1,h2,h3,h4,h5⟩:=j8 hk hs
 have h6:=lL hk h1
 simp only[qs,gn,iJ hk,tJ hk h4,ic hk h1,qE hk h2,fT hk h6,Lh hk hs,akR,cf,bP]
 refine congrArg some (alL ?_ rfl)
 simp only[apply_ite alM]
 unfold eO
 obtain⟨op,pc,a,l,i,seen,got,nn,hh⟩:=t
 obtain⟨a1,a2,a3,a4⟩:=a
 clear hs h1 h2 h3 h4 h5 h6
 have hA:cC ([]:List af)=true:=rfl
 have hS:wH ([]:List Int)=true:=rfl
 simp only[zT,eC,bO,Gm,alk]
 rw[ak1]
 by_cases e0:op=0
 ·subst e0;simp;grind
 by_cases e1:op=1
 ·subst e1;simp;grind
 by_cases e2:op=2
 ·subst e2;simp;grind
 by_cases e3:op=3
 ·subst e3;simp;grind
 by_cases e4:op=4
 ·subst e4;simp;grind
 by_cases e5:op=5
 ·subst e5;simp;grind
 by_cases e6:op=6
 ·subst e6;simp;grind
 simp[e0,e1,e2,e3,e4,e5,e6]
theorem PZ {t:aN} {n:Int} (hs:ag al t≤1048576):qD k (t,n,())=some (eO t n,()):=by
 obtain⟨h1,h2,h3,h4,h5⟩:=j8 hk hs
 simp only[qD,aL,fK hk,QY hk hs,km hk h1,qy hk h2,IX hk hs,akR,cf,bP]
 refine congrArg some (alL ?_ rfl)
 simp only[apply_ite alM]
 unfold eO
 obtain⟨op,pc,a,l,i,seen,got,nn,hh⟩:=t
 obtain⟨a1,a2,a3,a4⟩:=a
 clear hs h1 h2 h3 h4 h5
 have hA:cC ([]:List af)=true:=rfl
 have hS:wH ([]:List Int)=true:=rfl
 simp only[zT,eC,bO,Gm,alk]
 rw[ak1]
 by_cases e0:op=0
 ·subst e0;simp;grind
 by_cases e1:op=1
 ·subst e1;simp;grind
 by_cases e2:op=2
 ·subst e2;simp;grind
 by_cases e3:op=3
 ·subst e3;simp;grind
 by_cases e4:op=4
 ·subst e4;simp;grind
 by_cases e5:op=5
 ·subst e5;simp;grind
 by_cases e6:op=6
 ·subst e6;simp;grind
 simp[e0,e1,e2,e3,e4,e5,e6]
end
theorem mP (a b:Int):decide (a≥b)= !decide (a<b):=by by_cases h:a<b<;>simp[h]<;>omega
section
variable {k:Nat} (hk:9223372036854775808≤k)
include hk
theorem Pu {l:List Int} {n:Int} (hl:l.length≤10):qG k (l,n,())=some (decide (n∈l),()):=by
 simp only[qG]
 rw[iA (g:=fun(t:List Int×Int×Int×Unit)=>some (decide (n∈l.drop t.2.2.1.toNat),())) (m:=fun(t:List Int×Int×Int×Unit)=>l.length-t.2.2.1.toNat)
  (I:=fun(t:List Int×Int×Int×Unit)=>t.1=l∧t.2.1=n∧0≤t.2.2.1∧t.2.2.1≤(l.length:Int))]
 ·simp
 ·rintro G ⟨l',n',i,u⟩ ⟨e1,e2,hi0,hi1⟩ hG
  change l'=l at e1
  change n'=n at e2
  subst e1 e2
  simp only at hi0 hi1 hG⊢
  by_cases hi:i<(l'.length:Int)
  ·have h1:i.toNat<l'.length:=by omega
   rw[if_pos (by simpa using hi),if_pos (by simpa using⟨hi0,hi⟩),eu (d:=(0:Int)) h1]
   by_cases he:n'=l'.getD i.toNat 0
   ·rw[if_pos (by rw[he];simp)]
    simp only[List.mem_cons,he,true_or,decide_true]
   ·rw[if_neg (by simp only[beq_iff_eq];exact fun h=>he h.symm),wrap64 (by omega) (by omega),hG (l',n',i+1,()) ⟨rfl,rfl,by simp only;omega,by simp only;omega⟩ (by simp only;omega)]
    simp only[List.mem_cons,he,false_or]
    rw[show(i+1).toNat=i.toNat+1 by omega]
  ·rw[if_neg (by simpa using hi),List.drop_eq_nil_of_le (by omega)]
   simp
 ·exact⟨rfl,rfl,by simp,by simp⟩
 ·simp only
  omega
theorem ab2 (op n:Int):∃l,nx k (op,())=some (l,())∧l.length≤10∧nk k (op,n,())=some (decide (n∈l),()):=by
 simp only[nx,nk,bN,akR,beq_iff_eq]
 split
 ·exact⟨_,rfl,by simp,by congr 2;rw[ak1];simp;omega⟩
 split
 ·exact⟨_,rfl,by simp,by congr 2;rw[ak1];simp;omega⟩
 split
 ·exact⟨_,rfl,by simp,by congr 2;rw[ak1];simp;omega⟩
 split
 ·exact⟨_,rfl,by simp,by congr 2;rw[ak1];simp⟩
 split
 ·exact⟨_,rfl,by simp,by congr 2;rw[ak1];simp;omega⟩
 ·exact⟨_,rfl,by simp,by congr 2;rw[ak1];simp⟩
theorem XK (d:aP):∃r,jJ k (d,())=some r∧mq k (d,())=some r:=by
 obtain⟨op,task,a,l,i,n,code,got,now,inv,lin,res⟩:=d
 obtain⟨cs,c1,c2,c3⟩:=ab2 hk op code
 simp only[jJ,mq,bX,bN,akR,cf,c1,c3,Pu hk c2]
 generalize decide (code∈cs)=q
 refine⟨_,rfl,congrArg some (alL ?_ rfl)⟩
 simp only[apply_ite alM]
 rw[ak1]
 by_cases hl:lin= -1<;>by_cases hr:res= -1<;>by_cases hi:inv≤lin<;>by_cases hj:lin≤res<;>cases q<;>simp[hl,hr,hi,hj]<;>omega
theorem OV {d:aP}:jJ k (d,())=some (wb k d,()):=by
 obtain⟨r,h1,h2⟩:=XK hk d
 unfold wb
 rw[h1]
theorem Ow {d:aP}:mq k (d,())=some (wb k d,()):=by
 obtain⟨r,h1,h2⟩:=XK hk d
 unfold wb
 rw[h1,h2]
theorem rT {w:ak} {t:aN} (hs:ag al t≤1048576) (hw:ag (.sl aj) w.2.2.2.1≤1048576) (hl:t.2.2.2.2.2.1.length≤w.2.2.2.1.length):
 gG k (w,t,())=some (nX w.2.2.2.1 t,()):=by
 obtain⟨h1,h2,h3,h4,h5⟩:=j8 hk hs
 simp only[gG,aL]
 refine(cA (fun i:Nat=>(w,t,(w.2.2.2.1.take i).flatMap bE,bj 0 i (fun i=>decide (t.2.2.2.2.2.1.getD i 0=(w.2.2.2.1.getD i aj.aa).2.1)),(i:Int),()))
  (fun i=> !decide (t.2.2.2.2.2.1.getD i 0>(w.2.2.2.1.getD i aj.aa).2.1)) t.2.2.2.2.2.1.length
  (e:=some (!kf w.2.2.2.1 t.2.2.2.2.2.1||decide ((w.2.2.2.1.take t.2.2.2.2.2.1.length).flatMap bE=t.2.2.2.2.2.2.1),())) (no:=some (false,())) ?_ ?_ k 0 (by omega) (by omega)).trans ?_
 ·intro G i hi
  have hi2:i<w.2.2.2.1.length:=by omega
  have hp:=jg hk hw hi2
  have hb:=fW hk (w.2.2.2.1.take i)
  unfold de at hb
  have hb1:=jw hk (w.2.2.2.1.getD i aj.aa)
  have hb2:=cN (e:=aj) w.2.2.2.1 i
  have hb3:=ar (e:=ab) (l:=(w.2.2.2.1.take i).flatMap bE)
  have hb4:=ar (e:=ab) (l:=bE (w.2.2.2.1.getD i aj.aa))
  have hb5:decide (((w.2.2.2.1.take i).flatMap bE).length+(bE (w.2.2.2.1.getD i aj.aa)).length<4294967296)=true:=by
   simp only[decide_eq_true_eq];omega
  simp only[aF,au hi,au hi2,hi,decide_true,if_true,akT,akW,qR hk hp,akR,hb5]
  rw[aU (by omega),ek aj.aa hi2,EK]
  rcases akU (decide (t.2.2.2.2.2.1.getD i 0>(w.2.2.2.1.getD i aj.aa).2.1))with h|h<;>
   simp only[h,if_true,akY,akX,akS,if_false,bP,A8]
 ·intro G
  simp only[aF,akV,decide_false,akS,if_false]
  show alu (if((!kf w.2.2.2.1 t.2.2.2.2.2.1)==false)=true then qH k ((w.2.2.2.1.take t.2.2.2.2.2.1.length).flatMap bE,t.2.2.2.2.2.2.1,())else some (false,())) _=_
  have hb:=fW hk (w.2.2.2.1.take t.2.2.2.2.2.1.length)
  unfold de at hb
  have hb2:=cN (e:=aj) w.2.2.2.1 t.2.2.2.2.2.1.length
  rw[Pc hk (by omega)]
  show alu _ (fun r6:Bool×Unit=>some (if(!kf w.2.2.2.1 t.2.2.2.2.2.1)=true then true else r6.1,()))=_
  cases kf w.2.2.2.1 t.2.2.2.2.2.1<;>simp
 ·unfold nX
  show(if Gi w.2.2.2.1 t.2.2.2.2.2.1=true then _ else _)=_
  cases Gi w.2.2.2.1 t.2.2.2.2.2.1<;>simp
theorem GW {w:ak} {t:aN} (hs:ag al t≤1048576) (hw:ag (.sl aj) w.2.2.2.1≤1048576) (hl0:(if t.2.1=2 then decide ((t.2.2.2.2.2.1.length:Int)=w.1.1)else decide (t.2.2.2.2.1<w.1.1))=true→t.2.2.2.2.2.1.length≤w.2.2.2.1.length) (hp:t.2.1≤2):
 l0 k (w,t,())=some ((if t.2.1=2 then decide ((t.2.2.2.2.2.1.length:Int)=w.1.1)else decide (t.2.2.2.2.1<w.1.1))&&nX w.2.2.2.1 t,()):=by
 obtain⟨h1,h2,h3,h4,h5⟩:=j8 hk hs
 simp only[l0,aL]
 have hc:(if(if(decide ((t.2.1:Int)<(2:Int)))=true then decide ((t.2.2.2.2.1:Int)≥w.1.1)else false)=true then true else if((t.2.1:Int)==(2:Int))=true then(((alc t.2.2.2.2.2.1:Nat):Int):Int) != w.1.1 else false)
  = !(if t.2.1=2 then decide ((t.2.2.2.2.2.1.length:Int)=w.1.1)else decide (t.2.2.2.2.1<w.1.1)):=by
  rw[mP,dT]
  by_cases q:t.2.1=2
  ·simp[q]
  ·have q2:t.2.1<2:=by have:=hp;omega
   simp[q,q2]
   exact mP _ _
 rw[hc]
 rcases akU (if t.2.1=2 then decide ((t.2.2.2.2.2.1.length:Int)=w.1.1)else decide (t.2.2.2.2.1<w.1.1))with hcc|hcc
 rotate_left
 ·rw[hcc];rfl
 have hl:=hl0 hcc
 rw[hcc,if_neg (by simp)]
 refine(cA (fun i:Nat=>(w,t,bj 0 i (fun i=>decide (t.2.2.2.2.2.1.getD i 0=(w.2.2.2.1.getD i aj.aa).2.1)),(w.2.2.2.1.take i).flatMap bE,t.2.2.2.2.2.1,(t.2.2.2.2.2.1.length:Int),(i:Int),()))
  (fun i=> !decide (t.2.2.2.2.2.1.getD i 0>(w.2.2.2.1.getD i aj.aa).2.1)) t.2.2.2.2.2.1.length
  (e:=some (!kf w.2.2.2.1 t.2.2.2.2.2.1||decide ((w.2.2.2.1.take t.2.2.2.2.2.1.length).flatMap bE=t.2.2.2.2.2.2.1),())) (no:=some (false,())) ?_ ?_ k 0 (by omega) (by omega)).trans ?_
 ·intro G i hi
  have hi2:i<w.2.2.2.1.length:=by omega
  have hp:=jg hk hw hi2
  have hb:=fW hk (w.2.2.2.1.take i)
  unfold de at hb
  have hb1:=jw hk (w.2.2.2.1.getD i aj.aa)
  have hb2:=cN (e:=aj) w.2.2.2.1 i
  have hb3:=ar (e:=ab) (l:=(w.2.2.2.1.take i).flatMap bE)
  have hb4:=ar (e:=ab) (l:=bE (w.2.2.2.1.getD i aj.aa))
  have hb5:decide (((w.2.2.2.1.take i).flatMap bE).length+(bE (w.2.2.2.1.getD i aj.aa)).length<4294967296)=true:=by
   simp only[decide_eq_true_eq];omega
  simp only[aF,au hi,au hi2,hi,decide_true,if_true,akT,akW,qW hk hp,akR,hb5]
  rw[aU (by omega),ek aj.aa hi2,EK]
  rcases akU (decide (t.2.2.2.2.2.1.getD i 0>(w.2.2.2.1.getD i aj.aa).2.1))with h|h<;>
   simp only[h,if_true,akY,akX,akS,if_false,bP,A8]
 ·intro G
  simp only[aF,akV,decide_false,akS,if_false]
  have hb:=fW hk (w.2.2.2.1.take t.2.2.2.2.2.1.length)
  unfold de at hb
  have hb2:=cN (e:=aj) w.2.2.2.1 t.2.2.2.2.2.1.length
  rw[uk hk h4]
  show alu (if((!kf w.2.2.2.1 t.2.2.2.2.2.1)==false)=true then some (decide (t.2.2.2.2.2.2.1=(w.2.2.2.1.take t.2.2.2.2.2.1.length).flatMap bE),())else some (false,())) (fun r6:Bool×Unit=>some (if(!kf w.2.2.2.1 t.2.2.2.2.2.1)=true then true else r6.1,()))=_
  have he:decide (t.2.2.2.2.2.2.1=(w.2.2.2.1.take t.2.2.2.2.2.1.length).flatMap bE)=decide ((w.2.2.2.1.take t.2.2.2.2.2.1.length).flatMap bE=t.2.2.2.2.2.2.1):=by
   rw[ak1];simp only[decide_eq_true_eq];exact eq_comm
  rw[he]
  cases kf w.2.2.2.1 t.2.2.2.2.2.1<;>simp
 ·unfold nX
  show(if Gi w.2.2.2.1 t.2.2.2.2.2.1=true then _ else _)=_
  cases Gi w.2.2.2.1 t.2.2.2.2.2.1<;>simp
end
theorem HO {t:aN} {n:Int} (h:eO t n=true):0≤t.2.2.2.2.2.2.2.2∧(t.1=0∨t.1=1∨t.1=2∨t.1=3∨t.1=4∨t.1=5∨t.1=6):=by
 unfold eO at h
 grind
theorem VZ {t:aN} {n:Int} (h:eO t n=true) (e:t.1=3):(t.2.2.2.2.2.1.length:Int)=t.2.2.2.2.1∧0≤t.2.1∧t.2.1≤2:=by
 unfold eO bO at h
 grind
theorem aa4 {t:aN} {n:Int} (h:eO t n=true) (e:t.1=4):t.2.2.2.2.2.1=[]∧t.2.2.2.2.2.2.1=[]∧t.2.1≤1:=by
 unfold eO bO at h
 grind
section
variable {k:Nat} (hk:9223372036854775808≤k)
include hk
theorem LY {l:List aG} {s:List ay} (hs:ag (.sl aj) l≤1048576):(dQ k l s).1.1.length≤1048576:=by
 unfold dQ
 split
 ·simp[eC]
 ·rename_i h0
  obtain⟨_,_,c⟩:=lN (k:=k) (l:=l) (s:=s) h0
  have hp:=jg hk hs c
  generalize l.getD (df k l s).toNat aj.aa=p at hp⊢
  unfold sM
  cases hc:jj p (dt k s)with
  |none=>simp[eC]
  |some i=>
   obtain⟨hi,_,_⟩:=bH.1 hc
   obtain⟨h1,h2⟩:=fu hk hp hi
   dsimp only
   cases hq:iu (p.2.2.getD i ax.aa).2 s with
   |none=>simp[eC]
   |some j=>
    obtain⟨hj,_,_⟩:=bH.1 hq
    have h3:=cY (e:=ab) (d:=ab.aa) hj
    exact lL hk (a:=(p.2.2.getD i ax.aa).2.getD j ab.aa) (by omega)
theorem fc {w:ak} (hs:ag az w≤1048576):
 ag bQ w.1≤1048576∧ag (.sl aj) w.2.2.2.1≤1048576∧ag (.sl aW) w.2.2.2.2.1≤1048576∧ag (.sl ab) w.2.2.2.2.2.1≤1048576∧ag (.sl ah) w.2.2.2.2.2.2.2.1≤1048576∧
 w.2.2.2.2.2.2.2.2.2.1.length≤1048576∧ag (.sl ab) w.2.2.2.2.2.2.2.2.2.2.2.1≤1048576∧ag (.sl al) w.2.2.2.2.2.2.2.2.2.2.2.2.1≤1048576∧ag (.sl aI) w.2.2.2.2.2.2.2.2.2.2.2.2.2≤1048576:=by
 rw[nR hk]at hs
 have h:=ar (e:=aw) (l:=w.2.2.2.2.2.2.2.2.2.1)
 omega
theorem BF {e:Ty} {l:List e.den} (hd:ag e e.aa=0) (hs:ag (.sl e) l≤1048576) (n:Nat):ag e (l.getD n e.aa)≤1048576:=by
 by_cases h:n<l.length
 ·have:=cY (e:=e) (d:=e.aa) h
  omega
 ·rw[ak2,List.getElem?_eq_none (by omega),Option.getD_none,hd]
  omega
theorem MN {w:ak} {i:Nat} (hs:ag az w≤1048576) (hi:i<w.2.2.2.2.2.2.2.2.2.2.2.2.1.length) (hp:(w.2.2.2.1.length:Int)=w.1.1):
 pr k (w,(i:Int),())=some (cm k w (w.2.2.2.2.2.2.2.2.2.2.2.2.1.getD i al.aa) (w.2.2.2.2.2.2.2.2.2.2.2.2.2.getD (w.2.2.2.2.2.2.2.2.2.2.2.2.1.getD i al.aa).2.2.2.2.2.2.2.2.toNat aI.aa) i,()):=by
 obtain⟨_,w2,_,_,_,_,_,w8,w9⟩:=fc hk hs
 have ht:ag al (w.2.2.2.2.2.2.2.2.2.2.2.2.1.getD i al.aa)≤1048576:=BF hk (e:=al) rfl w8 i
 have hd:ag aI (w.2.2.2.2.2.2.2.2.2.2.2.2.2.getD (w.2.2.2.2.2.2.2.2.2.2.2.2.1.getD i al.aa).2.2.2.2.2.2.2.2.toNat aI.aa)≤1048576:=BF hk (e:=aI) rfl w9 (w.2.2.2.2.2.2.2.2.2.2.2.2.1.getD i al.aa).2.2.2.2.2.2.2.2.toNat
 unfold pr aL
 dsimp only
 rw[if_pos (au hi),akT]
 generalize w.2.2.2.2.2.2.2.2.2.2.2.2.1.getD i al.aa=t at*
 generalize w.2.2.2.2.2.2.2.2.2.2.2.2.2.getD t.2.2.2.2.2.2.2.2.toNat aI.aa=d at*
 rw[PF hk ht,akR]
 unfold cm
 by_cases hok:eO t i=true
 rotate_left
 ·simp[hok]
 obtain⟨hH,hkind⟩:=HO hok
 obtain⟨t1,t2,t3,t4,t5⟩:=j8 hk ht
 obtain⟨d1,d2,d3,d4⟩:=LB hk hd
 have hfl:=LY hk (s:=t.2.2.1.1) w2
 have t6:=lL hk t1
 have d6:=lL hk d1
 have t7:=ar (e:=aq) (l:=t.2.2.1.1)
 have d7:=ar (e:=aq) (l:=d.2.2.1.1)
 have d8:=ar (e:=aq) (l:=d.2.2.2.1)
 by_cases e0:t.1=0
 ·simp[e0,hok]
 by_cases eH:t.2.2.2.2.2.2.2.2<(w.2.2.2.2.2.2.2.2.2.2.2.2.2.length:Int)
 rotate_left
 ·have:decide (t.2.2.2.2.2.2.2.2≥(w.2.2.2.2.2.2.2.2.2.2.2.2.2.length:Int))=true:=by simp only[decide_eq_true_eq];omega
  simp[e0,this,eH,hok]
 have q1:decide (t.2.2.2.2.2.2.2.2≥(w.2.2.2.2.2.2.2.2.2.2.2.2.2.length:Int))=false:=by simp only[decide_eq_false_iff_not];omega
 have q2:decide (0≤t.2.2.2.2.2.2.2.2∧t.2.2.2.2.2.2.2.2<(w.2.2.2.2.2.2.2.2.2.2.2.2.2.length:Int))=true:=by simp only[decide_eq_true_eq];omega
 simp only[hok,q1,q2,hH,and_true,true_and,if_true,akY,akS,if_false,eH,e0,decide_true,decide_false,ak3,alw,bP,dT]
 have hop:eM k (t.1,())=some (List.getD [0,1,3,4,6,7,8] t.1.toNat 0,()):=by
  simp only[eM]
  rw[if_pos (by simp only[decide_eq_true_eq,alm,alh];omega)]
 rw[hop]
 clear hop q1 q2
 by_cases c1:d.2.1=i
 rotate_left
 ·simp[c1,hok]
 by_cases c2:d.2.2.2.2.2.2.2.2.2.2.2= -1
 rotate_left
 ·simp[c1,c2,hok]
 simp only[c1,c2,decide_true,akY,akS,if_false,beq_self_eq_true,if_true,akR,ak3]
 unfold me
 rcases hkind with h|h|h|h|h|h|h
 ·exact absurd h e0
 all_goals
  have hn:t.1.toNat=t.1.toNat:=rfl
  simp only[h]at hn⊢
 ·simp only[iH hk w2 t5,fT hk hfl,fT hk d6,dN hk (a:=d.2.2.1.1) (by omega),F7 hk t1]
  by_cases b1:d.1=1<;>by_cases b2:d.2.2.2.2.2.2.2.2.2.2.1= -1<;>by_cases b3:t.2.1=2<;>simp[b1,b2,b3]
  ·by_cases b4:d.2.2.1=t.2.2.1<;>simp[b4]
  ·simp only[fT hk hfl]
   cases (dQ k w.2.2.2.1 t.2.2.1.1).2<;>by_cases b4:(dQ k w.2.2.2.1 t.2.2.1.1).1=t.2.2.1<;>simp[b4]
 ·simp only[dN hk (a:=d.2.2.2.1) (by omega)]
  by_cases b1:d.1=3<;>by_cases b2:d.2.2.2.2.2.2.2.2.2.2.1= -1<;>simp[b1,b2]
 ·obtain⟨e1,e2,e3⟩:=VZ hok h
  by_cases b1:d.1=4<;>by_cases b2:d.2.2.2.2.2.2.2.2.2.2.1= -1<;>by_cases b3:t.2.1=2<;>simp[b1,b2,b3]
  ·by_cases b4:(t.2.2.2.2.2.1.length:Int)=w.1.1
   ·rw[rT hk ht w2 (by omega)];simp[b4]
   ·simp[b4]
  ·by_cases b4:t.2.2.2.2.1<w.1.1
   ·rw[rT hk ht w2 (by omega)];simp[b4]
   ·simp[b4]
 ·obtain⟨e1,e2,e3⟩:=aa4 hok h
  have b3:¬t.2.1=2:=by have:=e3;omega
  by_cases b1:d.1=6<;>by_cases b2:d.2.2.2.2.2.2.2.2.2.2.1= -1<;>simp[b1,b2,b3]
  have hl:t.2.2.2.2.2.1.length≤w.2.2.2.1.length:=by rw[e1];exact Nat.zero_le _
  have hq:nX w.2.2.2.1 t=true:=by unfold nX Gi;rw[e1,e2];rfl
  rw[rT hk ht w2 hl,hq]
  by_cases b4:t.2.2.2.2.1<w.1.1<;>simp[b4]
 ·simp only[fT hk d6]
  by_cases b1:d.1=7<;>by_cases b2:d.2.2.2.2.2.2.2.2.2.2.1= -1<;>simp[b1,b2]
 ·by_cases b1:d.1=8<;>by_cases b2:d.2.2.2.2.2.2.2.2.2.2.1= -1<;>simp[b1,b2]
theorem Jc {w:ak} {t:aN} {d:aP} {n:Int} (hs:ag az w≤1048576) (hp:(w.2.2.2.1.length:Int)=w.1.1) (ht:ag al t≤1048576) (hd:ag aI d≤1048576) (hok:eO t n=true):
 nI k (w,t,d,())=some (me k w t d,()):=by
 obtain⟨_,w2,_,_,_,_,_,w8,w9⟩:=fc hk hs
 obtain⟨t1,t2,t3,t4,t5⟩:=j8 hk ht
 obtain⟨d1,d2,d3,d4⟩:=LB hk hd
 have hfl:=LY hk (s:=t.2.2.1.1) w2
 have d6:=lL hk d1
 have d7:=ar (e:=aq) (l:=d.2.2.1.1)
 have d8:=ar (e:=aq) (l:=d.2.2.2.1)
 simp only[nI,iD hk w2 t5,kI hk hfl,kI hk d6,eF hk (a:=d.2.2.1.1) (by omega),eF hk (a:=d.2.2.2.1) (by omega),Fi hk t1,akR,bP,cf]
 unfold me
 by_cases h1:t.1=1
 ·by_cases b1:d.1=1<;>by_cases b3:t.2.1=2<;>simp[h1,b1,b3]
  ·by_cases b5:d.2.2.1.1=t.2.2.1.1<;>cases (dQ k w.2.2.2.1 t.2.2.1.1).2<;>by_cases b4:(dQ k w.2.2.2.1 t.2.2.1.1).1=t.2.2.1<;>simp[b4,b5]
  ·by_cases b4:d.2.2.1=t.2.2.1<;>simp[b4]
 by_cases h2:t.1=2
 ·by_cases b1:d.1=3<;>simp[h2,b1]
 by_cases h3:t.1=3
 ·obtain⟨e1,e2,e3⟩:=VZ hok h3
  have hl:(if t.2.1=2 then decide ((t.2.2.2.2.2.1.length:Int)=w.1.1)else decide (t.2.2.2.2.1<w.1.1))=true→t.2.2.2.2.2.1.length≤w.2.2.2.1.length:=by
   by_cases b3:t.2.1=2<;>simp[b3]<;>intro h<;>omega
  rw[GW hk ht w2 hl e3]
  by_cases b1:d.1=4<;>simp[h3,b1]
 by_cases h4:t.1=4
 ·by_cases b1:d.1=6<;>simp[h4,b1]
 by_cases h5:t.1=5
 ·by_cases b1:d.1=7<;>simp[h5,b1]
 by_cases b1:d.1=8<;>by_cases b2:d.2.2.2.2.2.1=t.2.2.2.2.2.2.2.1<;>simp[h1,h2,h3,h4,h5,b1,b2]
end
def cU (h:Nat→Bool):Nat→Int
 |0=> -1
 |j+1=>if h j=true then(j:Int)else cU h j
theorem uI {h:Nat→Bool}:∀ {j:Nat},(∀a,a<j→h a=false)→cU h j= -1
 |0,_=>rfl
 |j+1,H=>by
  unfold cU
  rw[H j (by omega),if_neg (by simp)]
  exact uI (fun a ha=>H a (by omega))
theorem nP {h:Nat→Bool}:∀ {j:Nat},cU h j≠-1→∃a,a<j∧h a=true∧cU h j=(a:Int)
 |0,H=>absurd rfl H
 |j+1,H=>by
  unfold cU at H⊢
  by_cases hj:h j=true
  ·rw[if_pos hj];exact⟨j,by omega,hj,rfl⟩
  ·rw[if_neg hj]at H⊢
   obtain⟨a,h1,h2,h3⟩:=nP H
   exact⟨a,by omega,h2,h3⟩
theorem CJ {h:Nat→Bool} {m:Nat} (hp:∀j,j<m→h j=true→cU h j= -1) {a:Nat} (ha:a<m) (h2:h a=true):cU h m=(a:Int):=by
 have hm:cU h m≠-1:=by
  intro e
  have:∀ {j:Nat},(∀b,b<j→h b=true→False)∨cU h j≠-1:=by
   intro j
   induction j with
   |zero=>exact Or.inl (fun b hb _=>by omega)
   |succ j ih=>
    unfold cU
    by_cases hj:h j=true
    ·rw[if_pos hj];right;omega
    ·rw[if_neg hj]
     rcases ih with ih|ih
     ·left
      intro b hb hbt
      by_cases hbj:b=j
      ·subst hbj;exact hj hbt
      ·exact ih b (by omega) hbt
     ·exact Or.inr ih
  rcases @this m with H|H
  ·exact H a ha h2
  ·exact H e
 obtain⟨b,h3,h4,h5⟩:=nP hm
 rw[h5]
 by_cases hab:a=b
 ·rw[hab]
 ·exfalso
  have key:∀x y:Nat,x<y→y<m→h x=true→h y=true→False:=by
   intro x y hxy hy hx hyt
   have e:=hp y hy hyt
   have:∀ {j:Nat},x<j→cU h j≠-1:=by
    intro j
    induction j with
    |zero=>intro q;omega
    |succ j ih=>
     intro q
     unfold cU
     by_cases hj:h j=true
     ·rw[if_pos hj];omega
     ·rw[if_neg hj]
      by_cases hxj:x=j
      ·subst hxj;exact absurd hx hj
      ·exact ih (by omega)
   exact this hxy e
  rcases Nat.lt_or_ge a b with q|q
  ·exact key a b q h3 h2 h4
  ·exact key b a (by omega) ha h4 h2
def bL (k:Nat) (w:ak) (j:Nat):Int:=cD k (w.2.2.2.2.2.2.2.2.2.2.2.2.1.getD j al.aa) w.2.2.2.1.length
def dX (w:ak) (j:Nat):Bool:=en (w.2.2.2.2.2.2.2.2.2.2.2.2.1.getD j al.aa)
def jK (k:Nat) (w:ak):Bool:=
 bj 0 w.2.2.2.1.length (fun i=>bj 0 w.2.2.2.2.2.2.2.2.2.2.2.2.1.length (fun j=>decide (bL k w j=i)==decide ((w.2.2.2.1.getD i aj.aa).1=j)))&&
 (bj 0 w.2.2.2.2.2.2.2.2.2.2.2.2.1.length (fun j=>dX w j==decide (w.2.2.2.2.2.2.1=j))&&bO w.2.2.2.2.2.2.1 (-1) 4)
def Fx (k:Nat) (w:ak) (j:Nat):Bool:=
 (decide (bL k w j<0)||decide (cU (fun a=>decide (bL k w a=bL k w j)) j= -1))&&(!dX w j||decide (cU (dX w) j= -1))
theorem Yw {k:Nat} {w:ak} (hp:∀i,i<w.2.2.2.1.length→bO (w.2.2.2.1.getD i aj.aa).1 (-1) 4=true) (ht:w.2.2.2.2.2.2.2.2.2.2.2.2.1.length=5)
 (hh:∀j,j<5→bL k w j<w.2.2.2.1.length):
 (bj 0 w.2.2.2.2.2.2.2.2.2.2.2.2.1.length (Fx k w)&&(bj 0 w.2.2.2.1.length (fun i=>decide ((w.2.2.2.1.getD i aj.aa).1=cU (fun a=>decide (bL k w a=i)) w.2.2.2.2.2.2.2.2.2.2.2.2.1.length))&&
  decide (w.2.2.2.2.2.2.1=cU (dX w) w.2.2.2.2.2.2.2.2.2.2.2.2.1.length)))=jK k w:=by
 unfold jK
 rw[ht]
 rw[ak1]
 simp only[ak5,eN,Fx,Bool.or_eq_true,decide_eq_true_eq,Bool.not_eq_true',beq_iff_eq,bO]at hp⊢
 constructor
 ·rintro⟨h1,h2,h3⟩
  refine⟨fun i _ hi j _ hj=> ?_,fun j _ hj=> ?_,?_⟩
  ·rw[h2 i (by omega) hi]
   rw[ak1]
   simp only[decide_eq_true_eq]
   constructor
   ·intro e
    refine CJ (h:=fun a=>decide (bL k w a=i)) (m:=5) (fun b hb hbt=> ?_) hj (by simpa using e)
    have hbe:bL k w b=(i:Int):=by simpa using hbt
    rcases(h1 b (by omega) hb).1 with q|q
    ·omega
    ·rw[hbe]at q;exact q
   ·intro e
    obtain⟨a,_,ha,hb⟩:=nP (h:=fun a=>decide (bL k w a=i)) (j:=5) (by rw[e];omega)
    rw[e]at hb
    have:a=j:=by omega
    subst this
    simpa using ha
  ·rw[h3,ak1]
   simp only[decide_eq_true_eq]
   constructor
   ·intro e
    refine CJ (h:=dX w) (m:=5) (fun b hb hbt=> ?_) hj e
    rcases(h1 b (by omega) hb).2 with q|q
    ·rw[hbt]at q;exact absurd q (by simp)
    ·exact q
   ·intro e
    obtain⟨a,_,ha,hb⟩:=nP (h:=dX w) (j:=5) (by rw[e];omega)
    rw[e]at hb
    have:a=j:=by omega
    subst this
    exact ha
  ·rw[h3]
   by_cases e:cU (dX w) 5= -1
   ·omega
   ·obtain⟨a,h4,_,h5⟩:=nP e
    omega
 ·rintro⟨h1,h2,h3,h4⟩
  have hI:∀i,i<w.2.2.2.1.length→∀j,j<5→(bL k w j=(i:Int)↔(w.2.2.2.1.getD i aj.aa).1=(j:Int)):=by
   intro i hi j hj
   have:=h1 i (by omega) hi j (by omega) hj
   rw[ak1]at this
   simpa only[decide_eq_true_eq]using this
  have hG:∀j,j<5→(dX w j=true↔w.2.2.2.2.2.2.1=(j:Int)):=by
   intro j hj
   have:=h2 j (by omega) hj
   rw[ak1]at this
   simpa only[decide_eq_true_eq]using this
  refine⟨fun j _ hj=>⟨?_,?_⟩,fun i _ hi=> ?_,?_⟩
  ·by_cases hn:bL k w j<0
   ·exact Or.inl hn
   ·right
    apply uI
    intro a ha
    simp only[decide_eq_false_iff_not]
    intro e
    have hlt:=hh j hj
    have q1:=(hI (bL k w j).toNat (by omega) j hj).1 (by omega)
    have q2:=(hI (bL k w j).toNat (by omega) a (by omega)).1 (by omega)
    omega
  ·by_cases hg:dX w j=true
   ·right
    apply uI
    intro a ha
    cases hga:dX w a with
    |false=>rfl
    |true=>
     have q1:=(hG j hj).1 hg
     have q2:=(hG a (by omega)).1 hga
     omega
   ·left;simpa using hg
  ·by_cases e:cU (fun a=>decide (bL k w a=i)) 5= -1
   ·rw[e]
    have hb:=hp i hi
    by_cases e2:(w.2.2.2.1.getD i aj.aa).1= -1
    ·exact e2
    ·exfalso
     have q:=(hI i hi (w.2.2.2.1.getD i aj.aa).1.toNat (by omega)).2 (by omega)
     have:cU (fun a=>decide (bL k w a=i)) 5≠-1:=by
      rw[CJ (h:=fun a=>decide (bL k w a=i)) (m:=5) (a:=(w.2.2.2.1.getD i aj.aa).1.toNat) (fun b hb2 hbt=> ?_) (by omega) (by simpa using q)]
      ·omega
      ·apply uI
       intro a ha
       simp only[decide_eq_false_iff_not]
       intro e3
       have hbe:bL k w b=(i:Int):=by simpa using hbt
       have q1:=(hI i hi b hb2).1 hbe
       have q2:=(hI i hi a (by omega)).1 e3
       omega
     exact this e
   ·obtain⟨a,h5,h6,h7⟩:=nP e
    rw[h7]
    exact(hI i hi a h5).1 (by simpa using h6)
  ·by_cases e:cU (dX w) 5= -1
   ·rw[e]
    by_cases e2:w.2.2.2.2.2.2.1= -1
    ·exact e2
    ·exfalso
     have q:=(hG w.2.2.2.2.2.2.1.toNat (by omega)).2 (by omega)
     have:cU (dX w) 5≠-1:=by
      rw[CJ (h:=dX w) (m:=5) (a:=w.2.2.2.2.2.2.1.toNat) (fun b hb2 hbt=> ?_) (by omega) q]
      ·omega
      ·apply uI
       intro a ha
       cases hga:dX w a with
       |false=>rfl
       |true=>
        have q1:=(hG b hb2).1 hbt
        have q2:=(hG a (by omega)).1 hga
        omega
     exact this e
   ·obtain⟨a,h5,h6,h7⟩:=nP e
    rw[h7]
    exact(hG a h5).1 h6
section
variable {k:Nat} (hk:9223372036854775808≤k)
include hk
theorem E8 {w:ak} (hs:ag az w≤1048576):kC k (w,())=some (jK k w,()):=by
 obtain⟨_,w2,_,_,_,_,_,w8,w9⟩:=fc hk hs
 have hn:=ar (e:=aj) (l:=w.2.2.2.1)
 have hm:=ar (e:=al) (l:=w.2.2.2.2.2.2.2.2.2.2.2.2.1)
 have htask:∀j:Nat,ag al (w.2.2.2.2.2.2.2.2.2.2.2.2.1.getD j al.aa)≤1048576:=fun j=>BF hk (e:=al) rfl w8 j
 simp only[kC,aL]
 refine(cA (fun i:Nat=>(w,w.2.2.2.1,(w.2.2.2.1.length:Int),(i:Int),())) (fun i=>bj 0 w.2.2.2.2.2.2.2.2.2.2.2.2.1.length (fun j=>decide (bL k w j=i)==decide ((w.2.2.2.1.getD i aj.aa).1=j))) w.2.2.2.1.length
  (e:=some (bj 0 w.2.2.2.2.2.2.2.2.2.2.2.2.1.length (fun j=>dX w j==decide (w.2.2.2.2.2.2.1=j))&&bO w.2.2.2.2.2.2.1 (-1) 4,())) (no:=some (false,())) ?_ ?_ k 0 (by omega) (by omega)).trans ?_
 ·intro G i hi
  simp only[aF,au hi,hi,decide_true,if_true,akT]
  refine(cA (fun j:Nat=>(w,(i:Int),w.2.2.2.1.getD i aj.aa,w.2.2.2.1,(w.2.2.2.1.length:Int),(i:Int),w.2.2.2.2.2.2.2.2.2.2.2.2.1,(w.2.2.2.2.2.2.2.2.2.2.2.2.1.length:Int),(j:Int),()))
   (fun j=>decide (bL k w j=i)==decide ((w.2.2.2.1.getD i aj.aa).1=j)) w.2.2.2.2.2.2.2.2.2.2.2.2.1.length
   (e:=G (w,w.2.2.2.1,(w.2.2.2.1.length:Int),((i+1:Nat):Int),())) (no:=some (false,())) ?_ ?_ k 0 (by omega) (by omega)).trans ?_
  ·intro G2 j hj
   simp only[aF,au hj,hj,decide_true,if_true,akT,pL hk (htask j),akR,bP]
   rw[aU (by omega)]
   show(if(!(decide (bL k w j=i)==decide ((w.2.2.2.1.getD i aj.aa).1=j)))=true then _ else _)=_
   cases (decide (bL k w j=i)==decide ((w.2.2.2.1.getD i aj.aa).1=(j:Int)))<;>rfl
  ·intro G2
   simp only[aF,akV,decide_false,akS,if_false]
   rw[aU (by omega)]
  ·rfl
 ·intro G
  simp only[aF,akV,decide_false,akS,if_false]
  refine(cA (fun j:Nat=>(w,w.2.2.2.2.2.2.2.2.2.2.2.2.1,(w.2.2.2.2.2.2.2.2.2.2.2.2.1.length:Int),(j:Int),()))
   (fun j=>dX w j==decide (w.2.2.2.2.2.2.1=j)) w.2.2.2.2.2.2.2.2.2.2.2.2.1.length
   (e:=some (bO w.2.2.2.2.2.2.1 (-1) 4,())) (no:=some (false,())) ?_ ?_ k 0 (by omega) (by omega)).trans ?_
  ·intro G2 j hj
   simp only[aF,au hj,hj,decide_true,if_true,akT,gj hk,akR,bP]
   rw[aU (by omega)]
   show(if(!(dX w j==decide (w.2.2.2.2.2.2.1=j)))=true then _ else _)=_
   cases (dX w j==decide (w.2.2.2.2.2.2.1=(j:Int)))<;>rfl
  ·intro G2
   simp only[aF,akV,decide_false,akS,if_false,fK hk,akR]
  ·cases bj 0 w.2.2.2.2.2.2.2.2.2.2.2.2.1.length (fun j=>dX w j==decide (w.2.2.2.2.2.2.1=j))<;>simp
 ·unfold jK
  cases bj 0 w.2.2.2.1.length (fun i=>bj 0 w.2.2.2.2.2.2.2.2.2.2.2.2.1.length (fun j=>decide (bL k w j=i)==decide ((w.2.2.2.1.getD i aj.aa).1=j)))<;>simp
end
def gI (k:Nat) (w:ak) (j:Nat):List Int:=(List.range w.2.2.2.1.length).map (fun i:Nat=>cU (fun a=>decide (bL k w a=(i:Int))) j)
theorem R5 (k:Nat) (w:ak) (j:Nat):(gI k w j).length=w.2.2.2.1.length:=by simp[gI]
theorem UW (k:Nat) (w:ak) (j:Nat) {i:Nat} (hi:i<w.2.2.2.1.length):(gI k w j).getD i 0=cU (fun a=>decide (bL k w a=(i:Int))) j:=by
 simp[gI,ak2,List.getElem?_map,List.getElem?_range hi]
theorem aaD (k:Nat) (w:ak) (j:Nat) (h:0≤bL k w j):(gI k w j).set (bL k w j).toNat (j:Int)=gI k w (j+1):=by
 apply alH
 ·simp[gI]
 ·intro i h1 h2
  simp only[gI,List.getElem_set,List.getElem_map,List.getElem_range,cU,decide_eq_true_eq]
  by_cases e:bL k w j=(i:Int)
  ·rw[if_pos (by omega),if_pos e]
  ·rw[if_neg (by omega),if_neg e]
theorem XP (k:Nat) (w:ak) (j:Nat) (h:bL k w j<0):gI k w j=gI k w (j+1):=by
 unfold gI
 apply List.map_congr_left
 intro i _
 simp only[cU,decide_eq_true_eq]
 rw[if_neg (by omega)]
theorem Ye (k:Nat) (w:ak):gI k w 0=alK w.2.2.2.1.length (-1):=by
 apply alH
 ·simp[gI]
 ·intro i h1 h2
  simp[gI,cU]
section
variable {k:Nat} (hk:9223372036854775808≤k)
include hk
theorem Jg {w:ak} (hs:ag az w≤1048576) (hp:∀i,i<w.2.2.2.1.length→bO (w.2.2.2.1.getD i aj.aa).1 (-1) 4=true) (ht:w.2.2.2.2.2.2.2.2.2.2.2.2.1.length=5)
 (hh:∀j,j<5→bL k w j<w.2.2.2.1.length):kj k (w,())=some (jK k w,()):=by
 rw[←Yw hp ht hh]
 obtain⟨_,w2,_,_,_,_,_,w8,w9⟩:=fc hk hs
 have hn:=ar (e:=aj) (l:=w.2.2.2.1)
 have htask:∀j:Nat,ag al (w.2.2.2.2.2.2.2.2.2.2.2.2.1.getD j al.aa)≤1048576:=fun j=>BF hk (e:=al) rfl w8 j
 simp only[kj,aL]
 refine bZ (fun i:Nat=>(w,alK i (-1:Int),(i:Int),())) w.2.2.2.1.length (fun G i hi=> ?_) (fun G=> ?_) k 0 (by omega) (by omega)
 ·simp only[aF,hi,decide_true,if_true,List.length_replicate,alm,alh]
  rw[if_pos (by simp only[decide_eq_true_eq];omega),aU (by omega),List.replicate_succ']
 simp only[aF,akV,decide_false,akS,if_false]
 rw[←Ye k w]
 refine(cA (fun j:Nat=>(w,gI k w j,cU (dX w) j,(j:Int),())) (Fx k w) w.2.2.2.2.2.2.2.2.2.2.2.2.1.length
  (e:=some (bj 0 w.2.2.2.1.length (fun i=>decide ((w.2.2.2.1.getD i aj.aa).1=cU (fun a=>decide (bL k w a=i)) w.2.2.2.2.2.2.2.2.2.2.2.2.1.length))&&
   decide (w.2.2.2.2.2.2.1=cU (dX w) w.2.2.2.2.2.2.2.2.2.2.2.2.1.length),())) (no:=some (false,())) ?_ ?_ k 0 (by omega) (by omega)).trans ?_
 ·intro G j hj
  have hlt:=hh j (by omega)
  simp only[aF,au hj,hj,decide_true,if_true,akT,Hg hk (htask j),EC hk,akR,dT,R5]
  change (if decide (bL k w j≥0)=true then(if decide (0≤bL k w j∧bL k w j<(w.2.2.2.1.length:Int))=true then(if(!decide ((gI k w j).getD (bL k w j).toNat 0= -1))=true then some (false,())else(if decide (0≤bL k w j∧bL k w j<(w.2.2.2.1.length:Int))=true then
   (if dX w j=true then(if(!decide (cU (dX w) j= -1))=true then some (false,())else G (w,(gI k w j).set (bL k w j).toNat (j:Int),(j:Int),IntKind.i64.wrap ((j:Int)+1),()))else G (w,(gI k w j).set (bL k w j).toNat (j:Int),cU (dX w) j,IntKind.i64.wrap ((j:Int)+1),()))else none))else none)else
   (if dX w j=true then(if(!decide (cU (dX w) j= -1))=true then some (false,())else G (w,gI k w j,(j:Int),IntKind.i64.wrap ((j:Int)+1),()))else G (w,gI k w j,cU (dX w) j,IntKind.i64.wrap ((j:Int)+1),())))=_
  rw[aU (by omega)]
  have hg:dX w j=true→cU (dX w) (j+1)=(j:Int):=fun h=>by simp[cU,h]
  have hg2:dX w j=false→cU (dX w) (j+1)=cU (dX w) j:=fun h=>by simp[cU,h]
  unfold Fx
  by_cases h0:0≤bL k w j
  ·rw[if_pos (by simpa using h0),if_pos (by simp only[decide_eq_true_eq];omega),UW k w j (show(bL k w j).toNat<_ by omega),aaD k w j h0,Int.toNat_of_nonneg h0]
   rw[show decide (bL k w j<0)=false by simp only[decide_eq_false_iff_not];omega]
   by_cases hw:cU (fun a=>decide (bL k w a=bL k w j)) j= -1
   ·rw[if_neg (by simp[hw])]
    cases hgr:dX w j with
    |true=>rw[hg hgr];by_cases hw2:cU (dX w) j= -1<;>simp[hw,hw2]<;>omega
    |false=>rw[hg2 hgr];simp[hw];omega
   ·rw[if_pos (by simp[hw])];simp[hw]
  ·rw[if_neg (by simp;omega),XP k w j (by omega)]
   rw[show decide (bL k w j<0)=true by simp only[decide_eq_true_eq];omega]
   cases hgr:dX w j with
   |true=>rw[hg hgr];by_cases hw2:cU (dX w) j= -1<;>simp[hw2]
   |false=>rw[hg2 hgr];simp
 ·intro G
  simp only[aF,akV,decide_false,akS,if_false]
  generalize w.2.2.2.2.2.2.2.2.2.2.2.2.1.length=m
  refine(cA (fun i:Nat=>(w,gI k w m,cU (dX w) m,(i:Int),())) (fun i=>decide ((w.2.2.2.1.getD i aj.aa).1=cU (fun a=>decide (bL k w a=i)) m)) w.2.2.2.1.length
   (e:=some (decide (w.2.2.2.2.2.2.1=cU (dX w) m),())) (no:=some (false,())) ?_ ?_ k 0 (by omega) (by omega)).trans ?_
  ·intro G2 i hi
   simp only[aF,R5,au hi,hi,decide_true,if_true,akT,dT,UW k w m hi]
   rw[aU (by omega)]
   rcases akU (decide ((w.2.2.2.1.getD i aj.aa).1=cU (fun a=>decide (bL k w a=(i:Int))) m))with h|h<;>simp only[h,akY,akX,akS,if_false,if_true]
  ·intro G2
   simp only[aF,akV,decide_false,akS,if_false,bP]
  ·cases bj 0 w.2.2.2.1.length (fun i=>decide ((w.2.2.2.1.getD i aj.aa).1=cU (fun a=>decide (bL k w a=i)) m))<;>simp
 ·generalize w.2.2.2.2.2.2.2.2.2.2.2.2.1.length=m
  cases bj 0 m (Fx k w)<;>simp
end
def tP (nn:Int) (h:List aJ):Bool:=
 bj 0 h.length (fun i=>decide ((h.getD i aw.aa).2<nn)&&bj 0 i (fun j=> !decide ((h.getD j aw.aa).2=(h.getD i aw.aa).2)))
def vP (w:ak) (g:aD) (j:Nat):Bool:=
 decide ((w.2.2.2.2.2.2.2.2.2.1.getD j aw.aa).2=g.1)&&decide ((w.2.2.2.2.2.2.2.2.2.1.getD j aw.aa).1=yw w.1 g)
def VA (w:ak) (g:aD):Bool:=
 if decide ((w.2.2.2.2.2.2.2.2.2.2.2.2.1.getD 4 al.aa).1=6)=true then decide ((w.2.2.2.2.2.2.2.2.2.2.2.2.1.getD 4 al.aa).2.2.2.2.2.2.2.1=g.1)else false
def fU (w:ak) (g:aD) (n:Nat):Bool:= !bj 0 n (fun j=> !vP w g j)||VA w g
def tK (w:ak):Bool:=
 bj 0 w.2.2.2.2.2.2.2.1.length (fun i=>(decide ((w.2.2.2.2.2.2.2.1.getD i ah.aa).2.2.1≤w.2.2.1)&&
  (decide ((w.2.2.2.2.2.2.2.1.getD i ah.aa).2.2.2.1≤w.2.2.1)&&decide ((w.2.2.2.2.2.2.2.1.getD i ah.aa).1<w.2.2.2.2.2.2.2.2.1)))&&fU w (w.2.2.2.2.2.2.2.1.getD i ah.aa) w.2.2.2.2.2.2.2.2.2.1.length)
def ee (w:ak):Bool:=
 qU w.2.2.2.2.2.2.2.1 w.1.2.2.2.2.2&&(wM w.2.2.2.2.2.2.2.2.2.1&&(tP w.2.2.2.2.2.2.2.2.1 w.2.2.2.2.2.2.2.2.2.1&&tK w))
theorem Af (w:ak) (g:aD) (n:Nat):fU w g (n+1)=(if fU w g n=true then true else vP w g n):=by
 unfold fU
 rw[EK]
 cases VA w g<;>cases bj 0 n (fun j=> !vP w g j)<;>cases vP w g n<;>rfl
section
variable {k:Nat} (hk:9223372036854775808≤k)
include hk
theorem XD {c:bT} (h:ag bQ c≤1048576):c.2.2.2.2.2.length≤1048576:=by
 rw[ku hk]at h
 have:=ar (e:= .str) (l:=c.2.2.2.2.2)
 omega
theorem Hb {w:ak} (hs:ag az w≤1048576) (ht:w.2.2.2.2.2.2.2.2.2.2.2.2.1.length=5):jx k (w,())=some (ee w,()):=by
 obtain⟨w1,w2,_,_,w5,w6,_,w8,w9⟩:=fc hk hs
 have hb:=XD hk w1
 have hn:=ar (e:=ah) (l:=w.2.2.2.2.2.2.2.1)
 simp only[jx,aL,JV hk w5 hb,PU hk w6,akR]
 unfold ee
 cases qU w.2.2.2.2.2.2.2.1 w.1.2.2.2.2.2 with
 |false=>rfl
 |true=>
  cases wM w.2.2.2.2.2.2.2.2.2.1 with
  |false=>rfl
  |true=>
   simp only[akY,akS,if_false,beq_self_eq_true,if_true,akR]
   refine(cA (fun i:Nat=>(w,(i:Int),())) (fun i=>decide ((w.2.2.2.2.2.2.2.2.2.1.getD i aw.aa).2<w.2.2.2.2.2.2.2.2.1)&&bj 0 i (fun j=> !decide ((w.2.2.2.2.2.2.2.2.2.1.getD j aw.aa).2=(w.2.2.2.2.2.2.2.2.2.1.getD i aw.aa).2))) w.2.2.2.2.2.2.2.2.2.1.length
    (e:=some (tK w,())) (no:=some (false,())) ?_ ?_ k 0 (by omega) (by omega)).trans ?_
   ·intro G i hi
    simp only[aF,au hi,hi,decide_true,if_true,akT,mP]
    rcases akU (decide ((w.2.2.2.2.2.2.2.2.2.1.getD i aw.aa).2<w.2.2.2.2.2.2.2.2.1))with h|h<;>simp only[h,akY,akX,akS,if_false,if_true,ak3,ala]
    refine(cA (fun j:Nat=>(w,(i:Int),(j:Int),())) (fun j=> !decide ((w.2.2.2.2.2.2.2.2.2.1.getD j aw.aa).2=(w.2.2.2.2.2.2.2.2.2.1.getD i aw.aa).2)) i
     (e:=G (w,((i+1:Nat):Int),())) (no:=some (false,())) ?_ ?_ k 0 (by omega) (by omega)).trans ?_
    ·intro G2 j hj
     have hj2:j<w.2.2.2.2.2.2.2.2.2.1.length:=by omega
     simp only[aF,au hj2,au hi,hj,decide_true,if_true,akT,bP]
     rw[aU (by omega)]
     rcases akU (decide ((w.2.2.2.2.2.2.2.2.2.1.getD j aw.aa).2=(w.2.2.2.2.2.2.2.2.2.1.getD i aw.aa).2))with h2|h2<;>simp only[h2,akY,akX,akS,if_false,if_true]
    ·intro G2
     simp only[aF,akV,decide_false,akS,if_false]
     rw[aU (by omega)]
    ·rfl
   ·intro G
    simp only[aF,akV,decide_false,akS,if_false]
    refine(cA (fun i:Nat=>(w,(i:Int),())) (fun i=>(decide ((w.2.2.2.2.2.2.2.1.getD i ah.aa).2.2.1≤w.2.2.1)&&
     (decide ((w.2.2.2.2.2.2.2.1.getD i ah.aa).2.2.2.1≤w.2.2.1)&&decide ((w.2.2.2.2.2.2.2.1.getD i ah.aa).1<w.2.2.2.2.2.2.2.2.1)))&&fU w (w.2.2.2.2.2.2.2.1.getD i ah.aa) w.2.2.2.2.2.2.2.2.2.1.length) w.2.2.2.2.2.2.2.1.length
     (e:=some (true,())) (no:=some (false,())) ?_ ?_ k 0 (by omega) (by omega)).trans ?_
    ·intro G2 i hi
     have h5:decide ((0:Int)≤4∧(4:Int)<(w.2.2.2.2.2.2.2.2.2.2.2.2.1.length:Int))=true:=by rw[ht];rfl
     simp only[aF,au hi,hi,h5,decide_true,if_true,akT,akW,bP]
     generalize w.2.2.2.2.2.2.2.1.getD i ah.aa=g
     refine bZ (fun j:Nat=>(w,(i:Int),g,fU w g j,(j:Int),())) w.2.2.2.2.2.2.2.2.2.1.length (fun G3 j hj=> ?_) (fun G3=> ?_) k 0 (by omega) (by omega)
     ·simp only[aF,au hj,hj,decide_true,if_true,akT,akW,HK hk]
      rw[aU (by omega),Af]
      unfold vP
      cases fU w g j<;>by_cases h2:(w.2.2.2.2.2.2.2.2.2.1.getD j aw.aa).2=g.1<;>simp only[h2,akY,akX,akS,if_false,if_true,decide_true,decide_false,ak3,ala,alb,ald,beq_self_eq_true,akR,beq_iff_eq]<;>rfl
     ·simp only[aF,akV,decide_false,akS,if_false]
      rw[aU (by omega),mP]
      have q1:∀a b:Int,decide (a>b)= !decide (a≤b):=fun a b=>by by_cases h:a≤b<;>simp[h]<;>omega
      rw[q1,q1]
      cases fU w g w.2.2.2.2.2.2.2.2.2.1.length<;>cases decide (g.2.2.1≤w.2.2.1)<;>cases decide (g.2.2.2.1≤w.2.2.1)<;>cases decide (g.1<w.2.2.2.2.2.2.2.2.1)<;>rfl
    ·intro G2
     simp only[aF,akV,decide_false,akS,if_false]
    ·show(if tK w=true then _ else _)=_
     cases tK w<;>simp
   ·show(if tP w.2.2.2.2.2.2.2.2.1 w.2.2.2.2.2.2.2.2.2.1=true then _ else _)=_
    cases tP w.2.2.2.2.2.2.2.2.1 w.2.2.2.2.2.2.2.2.2.1<;>simp
omit hk in
theorem acH {α:Type} (d:α) {l:List α} {i j:Nat} (h:j<i):(l.take i).getD j d=l.getD j d:=by
 simp only[ak2,List.getElem?_take,h,if_true]
theorem Ew {w:ak} (hs:ag az w≤1048576) (ht:w.2.2.2.2.2.2.2.2.2.2.2.2.1.length=5):jV k (w,())=some (ee w,()):=by
 obtain⟨w1,w2,_,_,w5,w6,_,w8,w9⟩:=fc hk hs
 have hb:=XD hk w1
 have hn:=ar (e:=ah) (l:=w.2.2.2.2.2.2.2.1)
 simp only[jV,aL,Jx hk w5 hb,OX hk w6,akR]
 unfold ee
 cases qU w.2.2.2.2.2.2.2.1 w.1.2.2.2.2.2 with
 |false=>rfl
 |true=>
  cases wM w.2.2.2.2.2.2.2.2.2.1 with
  |false=>rfl
  |true=>
   simp only[akY,akS,if_false,beq_self_eq_true,if_true,akR]
   refine(cA (fun i:Nat=>(w,w.2.2.2.2.2.2.2.1,(w.2.2.2.2.2.2.2.1.length:Int),(i:Int),())) (fun i=>(decide ((w.2.2.2.2.2.2.2.1.getD i ah.aa).2.2.1≤w.2.2.1)&&
    (decide ((w.2.2.2.2.2.2.2.1.getD i ah.aa).2.2.2.1≤w.2.2.1)&&decide ((w.2.2.2.2.2.2.2.1.getD i ah.aa).1<w.2.2.2.2.2.2.2.2.1)))&&fU w (w.2.2.2.2.2.2.2.1.getD i ah.aa) w.2.2.2.2.2.2.2.2.2.1.length) w.2.2.2.2.2.2.2.1.length
    (e:=some (tP w.2.2.2.2.2.2.2.2.1 w.2.2.2.2.2.2.2.2.2.1,())) (no:=some (false,())) ?_ ?_ k 0 (by omega) (by omega)).trans ?_
   ·intro G2 i hi
    have h5:decide ((0:Int)≤4∧(4:Int)<(w.2.2.2.2.2.2.2.2.2.2.2.2.1.length:Int))=true:=by rw[ht];rfl
    dsimp only
    rw[aF,decide_eq_true hi,if_pos rfl,if_pos (au hi),akT]
    generalize w.2.2.2.2.2.2.2.1.getD i ah.aa=g
    simp only[h5,decide_true,if_true,akW,bP]
    have q1:∀a b:Int,decide (a>b)= !decide (a≤b):=fun a b=>by by_cases h:a≤b<;>simp[h]<;>omega
    rw[show decide (g.1≥w.2.2.2.2.2.2.2.2.1)= !decide (g.1<w.2.2.2.2.2.2.2.2.1)from mP _ _,q1,q1]
    generalize decide (g.2.2.1≤w.2.2.1)=b1
    generalize decide (g.2.2.2.1≤w.2.2.1)=b2
    generalize decide (g.1<w.2.2.2.2.2.2.2.2.1)=b3
    by_cases hq:b1=true∧b2=true∧b3=true
    rotate_left
    ·cases b1<;>cases b2<;>cases b3<;>first|rfl|(exact absurd hq (by simp))
    obtain⟨e1,e2,e3⟩:=hq
    subst e1 e2 e3
    rw[ak3,ak3,ak3]
    refine(xa rfl).trans ?_
    refine bZ (fun j:Nat=>(w,g,fU w g j,w.2.2.2.2.2.2.2.1,(w.2.2.2.2.2.2.2.1.length:Int),(i:Int),w.2.2.2.2.2.2.2.2.2.1,(w.2.2.2.2.2.2.2.2.2.1.length:Int),(j:Int),())) w.2.2.2.2.2.2.2.2.2.1.length (fun G3 j hj=> ?_) (fun G3=> ?_) k 0 (by omega) (by omega)
    ·simp only[aF,au hj,hj,decide_true,if_true,akT,akW,zo hk]
     rw[aU (by omega),Af]
     unfold vP
     cases fU w g j<;>by_cases h2:(w.2.2.2.2.2.2.2.2.2.1.getD j aw.aa).2=g.1<;>simp only[h2,akY,akX,akS,if_false,if_true,decide_true,decide_false,ak3,ala,alb,ald,beq_self_eq_true,akR,beq_iff_eq]<;>rfl
    ·simp only[aF,akV,decide_false,akS,if_false]
     rw[aU (by omega)]
     cases fU w g w.2.2.2.2.2.2.2.2.2.1.length<;>rfl
   ·intro G
    simp only[aF,akV,decide_false,akS,if_false]
    refine(cA (fun i:Nat=>(w,w.2.2.2.2.2.2.2.2.2.1,(w.2.2.2.2.2.2.2.2.2.1.length:Int),(i:Int),())) (fun i=>decide ((w.2.2.2.2.2.2.2.2.2.1.getD i aw.aa).2<w.2.2.2.2.2.2.2.2.1)&&bj 0 i (fun j=> !decide ((w.2.2.2.2.2.2.2.2.2.1.getD j aw.aa).2=(w.2.2.2.2.2.2.2.2.2.1.getD i aw.aa).2))) w.2.2.2.2.2.2.2.2.2.1.length
     (e:=some (true,())) (no:=some (false,())) ?_ ?_ k 0 (by omega) (by omega)).trans ?_
    ·intro G i hi
     have hl:(w.2.2.2.2.2.2.2.2.2.1.take i).length=i:=by rw[aln];omega
     simp only[aF,au hi,hi,decide_true,if_true,akT,mP,hl]
     rcases akU (decide ((w.2.2.2.2.2.2.2.2.2.1.getD i aw.aa).2<w.2.2.2.2.2.2.2.2.1))with h|h<;>simp only[h,akY,akX,akS,if_false,if_true,ak3,ala]
     rw[if_pos (by simp only[decide_eq_true_eq];omega)]
     refine(cA (fun j:Nat=>(w,w.2.2.2.2.2.2.2.2.2.1.getD i aw.aa,w.2.2.2.2.2.2.2.2.2.1,(w.2.2.2.2.2.2.2.2.2.1.length:Int),(i:Int),w.2.2.2.2.2.2.2.2.2.1.take i,(i:Int),(j:Int),())) (fun j=> !decide ((w.2.2.2.2.2.2.2.2.2.1.getD j aw.aa).2=(w.2.2.2.2.2.2.2.2.2.1.getD i aw.aa).2)) i
      (e:=G (w,w.2.2.2.2.2.2.2.2.2.1,(w.2.2.2.2.2.2.2.2.2.1.length:Int),((i+1:Nat):Int),())) (no:=some (false,())) ?_ ?_ k 0 (by omega) (by omega)).trans ?_
     ·intro G2 j hj
      simp only[aF,hl,au hj,hj,decide_true,if_true,akT,bP,acH aw.aa hj]
      rw[aU (by omega)]
      rcases akU (decide ((w.2.2.2.2.2.2.2.2.2.1.getD j aw.aa).2=(w.2.2.2.2.2.2.2.2.2.1.getD i aw.aa).2))with h2|h2<;>simp only[h2,akY,akX,akS,if_false,if_true]
     ·intro G2
      simp only[aF,akV,decide_false,akS,if_false]
      rw[aU (by omega)]
     ·rfl
    ·intro G2
     simp only[aF,akV,decide_false,akS,if_false]
    ·show(if tP w.2.2.2.2.2.2.2.2.1 w.2.2.2.2.2.2.2.2.2.1=true then _ else _)=_
     cases tP w.2.2.2.2.2.2.2.2.1 w.2.2.2.2.2.2.2.2.2.1<;>simp
   ·show(if tK w=true then _ else _)=_
    cases tK w<;>simp
end
def uv (k:Nat) (w:ak) (d:aP):Bool:=
 wb k d&&(decide (d.2.2.2.2.2.2.2.2.2.1<w.2.1)&&(decide (d.2.2.2.2.2.2.2.2.2.2.1<w.2.1)&&decide (d.2.2.2.2.2.2.2.2.2.2.2<w.2.1)))
def mY (k:Nat) (w:ak):Bool:=bj 0 w.2.2.2.2.2.2.2.2.2.2.2.2.2.length (fun i=>uv k w (w.2.2.2.2.2.2.2.2.2.2.2.2.2.getD i aI.aa))
def kt (w:ak) (t:aN):aP:=w.2.2.2.2.2.2.2.2.2.2.2.2.2.getD t.2.2.2.2.2.2.2.2.toNat aI.aa
def fQ (k:Nat) (w:ak):Bool:=bj 0 w.2.2.2.2.2.2.2.2.2.2.2.2.1.length (fun i=>cm k w (w.2.2.2.2.2.2.2.2.2.2.2.2.1.getD i al.aa) (kt w (w.2.2.2.2.2.2.2.2.2.2.2.2.1.getD i al.aa)) i)
def fM (k:Nat) (w:ak):Bool:=
 jL k w.2.2.2.1&&(decide ((w.2.2.2.1.length:Int)=w.1.1)&&(decide ((lB w.2.2.2.1:Int)≤w.1.2.1)&&bj 0 (dw (de w.2.2.2.1)).length (fun i=>mO ((dw (de w.2.2.2.1)).getD i ab.aa))))
def jd (k:Nat) (w:ak):Bool:=
 kc w.1&&(decide (0≤w.2.1)&&(decide (0≤w.2.2.2.2.2.2.2.2.1)&&(bO w.2.2.1 0 99899&&(fM k w&&(decide ((w.2.2.2.2.1.length:Int)=w.1.2.2.1)&&(decide ((w.2.2.2.2.2.2.2.2.2.2.2.2.1.length:Int)=5)&&(cC w.2.2.2.2.2.1&&(cC w.2.2.2.2.2.2.2.2.2.2.2.1&&
 (uF w.2.2.2.2.1&&(mY k w&&(fQ k w&&(jK k w&&ee w))))))))))))
section
variable {k:Nat} (hk:9223372036854775808≤k)
include hk
theorem EG {w:ak} (hs:ag az w≤1048576) (hp:(w.2.2.2.1.length:Int)=w.1.1):kF k (w,())=some (mY k w&&fQ k w,()):=by
 obtain⟨w1,w2,_,_,w5,w6,_,w8,w9⟩:=fc hk hs
 have hn:=ar (e:=aI) (l:=w.2.2.2.2.2.2.2.2.2.2.2.2.2)
 have hm:=ar (e:=al) (l:=w.2.2.2.2.2.2.2.2.2.2.2.2.1)
 have hdeed:∀j:Nat,ag aI (w.2.2.2.2.2.2.2.2.2.2.2.2.2.getD j aI.aa)≤1048576:=fun j=>BF hk (e:=aI) rfl w9 j
 have htask:∀j:Nat,ag al (w.2.2.2.2.2.2.2.2.2.2.2.2.1.getD j al.aa)≤1048576:=fun j=>BF hk (e:=al) rfl w8 j
 simp only[kF,aL]
 refine(cA (fun i:Nat=>(w,w.2.2.2.2.2.2.2.2.2.2.2.2.2,(w.2.2.2.2.2.2.2.2.2.2.2.2.2.length:Int),(i:Int),())) (fun i=>uv k w (w.2.2.2.2.2.2.2.2.2.2.2.2.2.getD i aI.aa)) w.2.2.2.2.2.2.2.2.2.2.2.2.2.length
  (e:=some (fQ k w,())) (no:=some (false,())) ?_ ?_ k 0 (by omega) (by omega)).trans ?_
 ·intro G i hi
  dsimp only
  rw[aF,decide_eq_true hi,if_pos rfl,if_pos (au hi),akT,Ow hk,akR,aU (by omega)]
  generalize w.2.2.2.2.2.2.2.2.2.2.2.2.2.getD i aI.aa=d
  rw[mP,mP,mP]
  unfold uv
  cases wb k d<;>cases decide (d.2.2.2.2.2.2.2.2.2.1<w.2.1)<;>cases decide (d.2.2.2.2.2.2.2.2.2.2.1<w.2.1)<;>cases decide (d.2.2.2.2.2.2.2.2.2.2.2<w.2.1)<;>rfl
 ·intro G
  simp only[aF,akV,decide_false,akS,if_false]
  refine(cA (fun i:Nat=>(w,w.2.2.2.2.2.2.2.2.2.2.2.2.1,(w.2.2.2.2.2.2.2.2.2.2.2.2.1.length:Int),(i:Int),())) (fun i=>cm k w (w.2.2.2.2.2.2.2.2.2.2.2.2.1.getD i al.aa) (kt w (w.2.2.2.2.2.2.2.2.2.2.2.2.1.getD i al.aa)) i) w.2.2.2.2.2.2.2.2.2.2.2.2.1.length
   (e:=some (true,())) (no:=some (false,())) ?_ ?_ k 0 (by omega) (by omega)).trans ?_
  ·intro G2 i hi
   have ht:ag al (w.2.2.2.2.2.2.2.2.2.2.2.2.1.getD i al.aa)≤1048576:=htask i
   dsimp only
   rw[aF,decide_eq_true hi,if_pos rfl,if_pos (au hi),akT,aU (by omega)]
   generalize w.2.2.2.2.2.2.2.2.2.2.2.2.1.getD i al.aa=t at*
   have hd:ag aI (kt w t)≤1048576:=hdeed _
   unfold kt at hd⊢
   generalize w.2.2.2.2.2.2.2.2.2.2.2.2.2.getD t.2.2.2.2.2.2.2.2.toNat aI.aa=d at*
   rw[PZ hk ht,akR]
   unfold cm
   by_cases hok:eO t i=true
   rotate_left
   ·simp[hok]
   obtain⟨hH,hkind⟩:=HO hok
   rw[Jc hk hs hp ht hd hok]
   by_cases e0:t.1=0
   ·simp[e0,hok]
   by_cases eH:t.2.2.2.2.2.2.2.2<(w.2.2.2.2.2.2.2.2.2.2.2.2.2.length:Int)
   rotate_left
   ·have:decide (t.2.2.2.2.2.2.2.2≥(w.2.2.2.2.2.2.2.2.2.2.2.2.2.length:Int))=true:=by simp only[decide_eq_true_eq];omega
    simp[e0,this,eH,hok]
   have q1:decide (t.2.2.2.2.2.2.2.2≥(w.2.2.2.2.2.2.2.2.2.2.2.2.2.length:Int))=false:=by simp only[decide_eq_false_iff_not];omega
   simp only[hok,q1,hH,and_true,true_and,if_true,akY,akS,if_false,eH,e0,decide_true,decide_false,ak3,alw,bP,dT]
   by_cases c1:d.2.1=i
   rotate_left
   ·simp[c1]
   by_cases c2:d.2.2.2.2.2.2.2.2.2.2.2= -1
   rotate_left
   ·simp[c1,c2]
   by_cases c3:d.2.2.2.2.2.2.2.2.2.2.1= -1<;>by_cases c4:t.1=1<;>by_cases c5:t.2.1=2<;>cases me k w t d<;>simp[c1,c2,c3,c4,c5]
  ·intro G2
   simp only[aF,akV,decide_false,akS,if_false]
  ·show(if fQ k w=true then _ else _)=_
   cases fQ k w<;>simp
 ·show(if mY k w=true then _ else _)=_
  cases mY k w<;>simp
theorem sorted_at {l:List aG} (hs:ag (.sl aj) l≤1048576) {i:Nat} (hi:i<(dw (de l)).length):ag ab ((dw (de l)).getD i ab.aa)≤1048576:=by
 have h1:=fW hk l
 have h2:=Rg (de l)
 have h3:=cY (e:=ab) (d:=ab.aa) hi
 omega
omit hk in
theorem LZ (l:List aG):(dw (de l)).length=lB l:=by
 have:=Ry db (de l)
 unfold dw gg lB
 rw[alf]
 exact this
theorem Ir {w:ak} (hs:ag az w≤1048576):nL k (w,())=some (fM k w,()):=by
 obtain⟨w1,w2,_,_,w5,w6,_,w8,w9⟩:=fc hk hs
 have hc:=RO hk w2
 have hsl:=LZ w.2.2.2.1
 simp only[nL,aL,Mv hk w2,Hl hk w2,akR,dT]
 unfold fM
 cases jL k w.2.2.2.1 with
 |false=>rfl
 |true=>
  rcases akU (decide ((w.2.2.2.1.length:Int)=w.1.1))with hq|hq
  rotate_left
  ·rw[hq];rfl
  ·rw[hq]
   simp only[akY,akS,if_false,ak3]
   refine(cA (fun i:Nat=>(w,dw (de w.2.2.2.1),(i:Int),())) (fun i=>mO ((dw (de w.2.2.2.1)).getD i ab.aa)) (dw (de w.2.2.2.1)).length
    (e:=some (decide ((lB w.2.2.2.1:Int)≤w.1.2.1),())) (no:=some (false,())) ?_ ?_ k 0 (by omega) (by omega)).trans ?_
   ·intro G i hi
    have h1:=sorted_at hk w2 hi
    dsimp only
    rw[aF,decide_eq_true hi,if_pos rfl,if_pos (au hi),akT,F7 hk h1,akR,aU (by omega)]
    cases mO ((dw (de w.2.2.2.1)).getD i ab.aa)<;>rfl
   ·intro G
    simp only[aF,akV,decide_false,akS,if_false,hsl]
   ·cases bj 0 (dw (de w.2.2.2.1)).length (fun i=>mO ((dw (de w.2.2.2.1)).getD i ab.aa))<;>simp
theorem EM {w:ak} (hs:ag az w≤1048576) (h8:w.1.2.1≤8):kG k (w,())=some (fM k w,()):=by
 obtain⟨w1,w2,_,_,w5,w6,_,w8,w9⟩:=fc hk hs
 have hc:=RO hk w2
 have hsl:=LZ w.2.2.2.1
 simp only[kG,aL,Nh hk w2,y3 hk w2,akR,dT]
 unfold fM
 cases jL k w.2.2.2.1 with
 |false=>rfl
 |true=>
  rcases akU (decide ((w.2.2.2.1.length:Int)=w.1.1))with hq|hq
  rotate_left
  ·rw[hq];rfl
  ·rw[hq]
   simp only[akY,akS,if_false,ak3,beq_self_eq_true,if_true,akR]
   by_cases hcap:(lB w.2.2.2.1:Int)≤w.1.2.1
   rotate_left
   ·rw[if_pos (by simp only[decide_eq_true_eq];omega),decide_eq_false hcap];rfl
   rw[if_neg (by simp only[decide_eq_true_eq];omega),decide_eq_true hcap,GQ hk w2 (by omega),akR]
   refine(cA (fun i:Nat=>(w,dw (de w.2.2.2.1),((dw (de w.2.2.2.1)).length:Int),(i:Int),())) (fun i=>mO ((dw (de w.2.2.2.1)).getD i ab.aa)) (dw (de w.2.2.2.1)).length
    (e:=some (true,())) (no:=some (false,())) ?_ ?_ k 0 (by omega) (by omega)).trans ?_
   ·intro G i hi
    have h1:=sorted_at hk w2 hi
    dsimp only
    rw[aF,decide_eq_true hi,if_pos rfl,if_pos (au hi),akT,Fi hk h1,akR,aU (by omega)]
    cases mO ((dw (de w.2.2.2.1)).getD i ab.aa)<;>rfl
   ·intro G
    simp only[aF,akV,decide_false,akS,if_false]
   ·cases bj 0 (dw (de w.2.2.2.1)).length (fun i=>mO ((dw (de w.2.2.2.1)).getD i ab.aa))<;>simp
omit hk in
theorem vX {l:List aG} (h:jL k l=true):(1≤l.length∧l.length≤3)∧∀i,i<l.length→bO (l.getD i aj.aa).1 (-1) 4=true:=by
 unfold jL at h
 simp only[ak5,eN]at h
 obtain⟨h1,h2⟩:=h
 refine⟨?_,fun i hi=> ?_⟩
 ·unfold bO at h2
  simp only[ak5,decide_eq_true_eq]at h2
  omega
 ·have:=h1 i (by omega) hi
  unfold mR at this
  simp only[ak5]at this
  exact this.2.1
omit hk in
theorem acE {w:ak} (hp:(w.2.2.2.1.length:Int)=w.1.1) (h1:1≤w.2.2.2.1.length) (ho:fQ k w=true) {j:Nat} (hj:j<w.2.2.2.2.2.2.2.2.2.2.2.2.1.length):bL k w j<w.2.2.2.1.length:=by
 unfold fQ at ho
 have h:=eN.1 ho j (by omega) hj
 unfold bL cD
 generalize w.2.2.2.2.2.2.2.2.2.2.2.2.1.getD j al.aa=t at*
 have hp1:=fun f:Int=>Lm (f:=f) (n:=(w.2.2.2.1.length:Int)) (by omega)
 split
 ·omega
 split
 ·exact(hp1 _).2
 split
 ·exact(hp1 _).2
 split
 ·rename_i hc
  unfold cm me at h
  rw[hp]
  grind
 ·omega
theorem MM {w:ak} (hs:ag az w≤1048576):oA k (w,())=some (jd k w,()):=by
 obtain⟨w1,w2,w3,w4,w5,w6,w7,w8,w9⟩:=fc hk hs
 have hn:=ar (e:=aI) (l:=w.2.2.2.2.2.2.2.2.2.2.2.2.2)
 have hm:=ar (e:=al) (l:=w.2.2.2.2.2.2.2.2.2.2.2.2.1)
 have hu:=ar (e:=aW) (l:=w.2.2.2.2.1)
 simp only[oA,aL,Pq hk w1,iJ hk,Ir hk hs,tJ hk w4,tJ hk w7,akR,dT,cf]
 have g0:∀a:Int,decide (a<0)= !decide (0≤a):=fun a=>by by_cases h:a<0<;>simp[h]<;>omega
 rw[g0,g0]
 unfold jd
 by_cases hall:kc w.1=true∧0≤w.2.1∧0≤w.2.2.2.2.2.2.2.2.1∧bO w.2.2.1 0 99899=true∧fM k w=true∧(w.2.2.2.2.1.length:Int)=w.1.2.2.1∧(w.2.2.2.2.2.2.2.2.2.2.2.2.1.length:Int)=5∧cC w.2.2.2.2.2.1=true∧cC w.2.2.2.2.2.2.2.2.2.2.2.1=true
 rotate_left
 ·have hf:(kc w.1&&(decide (0≤w.2.1)&&(decide (0≤w.2.2.2.2.2.2.2.2.1)&&(bO w.2.2.1 0 99899&&(fM k w&&(decide ((w.2.2.2.2.1.length:Int)=w.1.2.2.1)&&(decide ((w.2.2.2.2.2.2.2.2.2.2.2.2.1.length:Int)=5)&&(cC w.2.2.2.2.2.1&&(cC w.2.2.2.2.2.2.2.2.2.2.2.1&&
   (uF w.2.2.2.2.1&&(mY k w&&(fQ k w&&(jK k w&&ee w)))))))))))))=false:=by
   rw[alF]
   intro h
   simp only[ak5,decide_eq_true_eq]at h
   exact hall ⟨h.1,h.2.1,h.2.2.1,h.2.2.2.1,h.2.2.2.2.1,h.2.2.2.2.2.1,h.2.2.2.2.2.2.1,h.2.2.2.2.2.2.2.1,h.2.2.2.2.2.2.2.2.1⟩
  rw[hf]
  refine(if_pos ?_).trans rfl
  have hq:¬(kc w.1=true∧decide (0≤w.2.1)=true∧decide (0≤w.2.2.2.2.2.2.2.2.1)=true∧bO w.2.2.1 0 99899=true∧fM k w=true∧decide ((w.2.2.2.2.1.length:Int)=w.1.2.2.1)=true∧decide ((w.2.2.2.2.2.2.2.2.2.2.2.2.1.length:Int)=5)=true∧cC w.2.2.2.2.2.1=true∧cC w.2.2.2.2.2.2.2.2.2.2.2.1=true):=by
   simpa only[decide_eq_true_eq]using hall
  generalize kc w.1=b1 at hq⊢
  generalize decide (0≤w.2.1)=b2 at hq⊢
  generalize decide (0≤w.2.2.2.2.2.2.2.2.1)=b3 at hq⊢
  generalize bO w.2.2.1 0 99899=b4 at hq⊢
  generalize fM k w=b5 at hq⊢
  generalize decide ((w.2.2.2.2.1.length:Int)=w.1.2.2.1)=b6 at hq⊢
  generalize decide ((w.2.2.2.2.2.2.2.2.2.2.2.2.1.length:Int)=5)=b7 at hq⊢
  generalize cC w.2.2.2.2.2.1=b8 at hq⊢
  generalize cC w.2.2.2.2.2.2.2.2.2.2.2.1=b9 at hq⊢
  clear hall hf
  cases b1
  ·rfl
  cases b2
  ·rfl
  cases b3
  ·rfl
  cases b4
  ·rfl
  cases b5
  ·rfl
  cases b6
  ·rfl
  cases b7
  ·rfl
  cases b8
  ·rfl
  cases b9
  ·rfl
  exact absurd ⟨rfl,rfl,rfl,rfl,rfl,rfl,rfl,rfl,rfl⟩ hq
 obtain⟨h1,h2,h3,h4,h5,h6,h7,h8,h9⟩:=hall
 have hst:jL k w.2.2.2.1=true∧(w.2.2.2.1.length:Int)=w.1.1:=by
  unfold fM at h5
  simp only[ak5,decide_eq_true_eq]at h5
  exact⟨h5.1,h5.2.1⟩
 obtain⟨⟨hl1,_⟩,hheld⟩:=vX hst.1
 rw[h1,decide_eq_true h2,decide_eq_true h3,h4,h5,decide_eq_true h6,decide_eq_true h7,h8,h9]
 simp only[ak3]
 refine(xa rfl).trans ?_
 refine(cA (fun i:Nat=>(w,(i:Int),())) (fun i=>ue (w.2.2.2.2.1.getD i aW.aa)) w.2.2.2.2.1.length
  (e:=some (mY k w&&(fQ k w&&(jK k w&&ee w)),())) (no:=some (false,())) ?_ ?_ k 0 (by omega) (by omega)).trans ?_
 ·intro G i hi
  dsimp only
  rw[aF,decide_eq_true hi,if_pos rfl,if_pos (au hi),akT,Tp hk (Np hk w3 hi),akR,aU (by omega)]
  cases ue (w.2.2.2.2.1.getD i aW.aa)<;>rfl
 ·intro G
  simp only[aF,akV,decide_false,akS,if_false]
  refine(cA (fun i:Nat=>(w,(i:Int),())) (fun i=>uv k w (w.2.2.2.2.2.2.2.2.2.2.2.2.2.getD i aI.aa)) w.2.2.2.2.2.2.2.2.2.2.2.2.2.length
   (e:=some (fQ k w&&(jK k w&&ee w),())) (no:=some (false,())) ?_ ?_ k 0 (by omega) (by omega)).trans ?_
  ·intro G i hi
   dsimp only
   rw[aF,decide_eq_true hi,if_pos rfl,if_pos (au hi),akT,OV hk,akR,aU (by omega)]
   generalize w.2.2.2.2.2.2.2.2.2.2.2.2.2.getD i aI.aa=d
   rw[mP,mP,mP]
   unfold uv
   cases wb k d<;>cases decide (d.2.2.2.2.2.2.2.2.2.1<w.2.1)<;>cases decide (d.2.2.2.2.2.2.2.2.2.2.1<w.2.1)<;>cases decide (d.2.2.2.2.2.2.2.2.2.2.2<w.2.1)<;>rfl
  ·intro G
   simp only[aF,akV,decide_false,akS,if_false]
   refine(cA (fun i:Nat=>(w,(i:Int),())) (fun i=>cm k w (w.2.2.2.2.2.2.2.2.2.2.2.2.1.getD i al.aa) (kt w (w.2.2.2.2.2.2.2.2.2.2.2.2.1.getD i al.aa)) i) w.2.2.2.2.2.2.2.2.2.2.2.2.1.length
    (e:=kj k (w,())>>= fun r=>(if(r.1==true)=true then jx k (w,())else some (false,()))>>= fun r2=>some (if r.1=true then r2.1 else false,())) (no:=some (false,())) ?_ ?_ k 0 (by omega) (by omega)).trans ?_
   ·intro G i hi
    dsimp only
    rw[aF,decide_eq_true hi,if_pos rfl,MN hk hs hi hst.2,akR,aU (by omega)]
    show(if(!cm k w (w.2.2.2.2.2.2.2.2.2.2.2.2.1.getD i al.aa) (kt w (w.2.2.2.2.2.2.2.2.2.2.2.2.1.getD i al.aa)) i)=true then _ else _)=_
    cases cm k w (w.2.2.2.2.2.2.2.2.2.2.2.2.1.getD i al.aa) (kt w (w.2.2.2.2.2.2.2.2.2.2.2.2.1.getD i al.aa)) i<;>rfl
   ·intro G
    simp only[aF,akV,decide_false,akS,if_false]
    rfl
   ·show(if fQ k w=true then _ else _)=_
    rcases akU (fQ k w)with ho|ho
    rotate_left
    ·rw[ho];rfl
    ·rw[ho,if_pos rfl,Jg hk hs hheld (by omega) (fun j hj=>acE hst.2 hl1 ho (by omega)),Hb hk hs (by omega)]
     cases jK k w<;>rfl
  ·show(if mY k w=true then _ else _)=_
   cases mY k w<;>simp
 ·show(if uF w.2.2.2.2.1=true then _ else _)=_
  cases uF w.2.2.2.2.1<;>simp
theorem Lu {w:ak} (hs:ag az w≤1048576):oY k (w,())=some (jd k w,()):=by
 obtain⟨w1,w2,w3,w4,w5,w6,w7,w8,w9⟩:=fc hk hs
 simp only[oY,Pd hk w1,fK hk,akR,dT,cf]
 have g0:∀a:Int,decide (a<0)= !decide (0≤a):=fun a=>by by_cases h:a<0<;>simp[h]<;>omega
 rw[g0,g0]
 unfold jd
 by_cases hall:kc w.1=true∧0≤w.2.1∧0≤w.2.2.2.2.2.2.2.2.1∧bO w.2.2.1 0 99899=true∧(w.2.2.2.2.2.2.2.2.2.2.2.2.1.length:Int)=5
 rotate_left
 ·have hf:(kc w.1&&(decide (0≤w.2.1)&&(decide (0≤w.2.2.2.2.2.2.2.2.1)&&(bO w.2.2.1 0 99899&&(fM k w&&(decide ((w.2.2.2.2.1.length:Int)=w.1.2.2.1)&&(decide ((w.2.2.2.2.2.2.2.2.2.2.2.2.1.length:Int)=5)&&(cC w.2.2.2.2.2.1&&(cC w.2.2.2.2.2.2.2.2.2.2.2.1&&
   (uF w.2.2.2.2.1&&(mY k w&&(fQ k w&&(jK k w&&ee w)))))))))))))=false:=by
   rw[alF]
   intro h
   simp only[ak5,decide_eq_true_eq]at h
   exact hall ⟨h.1,h.2.1,h.2.2.1,h.2.2.2.1,h.2.2.2.2.2.2.1⟩
  rw[hf]
  refine(if_pos ?_).trans rfl
  have hq:¬(kc w.1=true∧decide (0≤w.2.1)=true∧decide (0≤w.2.2.2.2.2.2.2.2.1)=true∧bO w.2.2.1 0 99899=true∧decide ((w.2.2.2.2.2.2.2.2.2.2.2.2.1.length:Int)=5)=true):=by
   simpa only[decide_eq_true_eq]using hall
  generalize kc w.1=b1 at hq⊢
  generalize decide (0≤w.2.1)=b2 at hq⊢
  generalize decide (0≤w.2.2.2.2.2.2.2.2.1)=b3 at hq⊢
  generalize bO w.2.2.1 0 99899=b4 at hq⊢
  generalize decide ((w.2.2.2.2.2.2.2.2.2.2.2.2.1.length:Int)=5)=b7 at hq⊢
  clear hall hf
  cases b1
  ·rfl
  cases b2
  ·rfl
  cases b3
  ·rfl
  cases b4
  ·rfl
  cases b7
  ·rfl
  exact absurd ⟨rfl,rfl,rfl,rfl,rfl⟩ hq
 obtain⟨h1,h2,h3,h4,h7⟩:=hall
 have hcap:w.1.2.1≤8:=by
  unfold kc bO at h1
  simp only[ak5,decide_eq_true_eq]at h1
  omega
 rw[h1,decide_eq_true h2,decide_eq_true h3,h4,decide_eq_true h7]
 simp only[ak3]
 refine(xa rfl).trans ?_
 rw[EM hk hs hcap,akR]
 rcases akU (fM k w)with h5|h5
 rotate_left
 ·rw[h5];rfl
 have hst:jL k w.2.2.2.1=true∧(w.2.2.2.1.length:Int)=w.1.1:=by
  unfold fM at h5
  simp only[ak5,decide_eq_true_eq]at h5
  exact⟨h5.1,h5.2.1⟩
 rw[h5,Gz hk w3,mg hk w4,mg hk w7,EG hk hs hst.2,E8 hk hs,Ew hk hs (by omega)]
 generalize decide ((w.2.2.2.2.1.length:Int)=w.1.2.2.1)=c1
 generalize cC w.2.2.2.2.2.1=c2
 generalize cC w.2.2.2.2.2.2.2.2.2.2.2.1=c3
 generalize uF w.2.2.2.2.1=c4
 generalize mY k w=c5
 generalize fQ k w=c6
 generalize jK k w=c7
 generalize ee w=c8
 clear h5 hst
 cases c4<;>cases c1<;>cases c2<;>cases c3<;>cases c5<;>cases c6<;>cases c7<;>first|rfl|(cases c8<;>rfl)
end
abbrev kP (w:ak):List aN:=w.2.2.2.2.2.2.2.2.2.2.2.2.1
abbrev VS (w:ak):List aP:=w.2.2.2.2.2.2.2.2.2.2.2.2.2
section
variable {k:Nat} (hk:9223372036854775808≤k)
include hk
end
end Vg.Tryz
