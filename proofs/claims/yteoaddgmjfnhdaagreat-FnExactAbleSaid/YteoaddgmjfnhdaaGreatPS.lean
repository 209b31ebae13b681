/- Texts of this law, joined. -/
import Derived.Test.YteoaddgmjfnhdaaGreatPF
import Derived.Test.YteoaddgmjfnhdaaGreatVd
import Derived.Test.YteoaddgmjfnhdaaGreatE7
set_option linter.unusedSimpArgs false
set_option linter.unusedVariables false
set_option linter.unusedSectionVars false
open Option renaming bind_some → alN,isNone_none → al2,isNone_some → al3
open Int renaming toNat_natCast → alO,toNat → alV
open Bool renaming false_eq_true → alP,false_ne_true → alT,and_eq_true → alW,not_true → al0,not_false → al1
open List renaming length_set → alQ,length_singleton → alR,set_set → alS,getD_eq_getElem?_getD → alU,length_append → alX,getElem?_append_right → alY,length_nil → al5
open Nat renaming lt_irrefl → alZ,le_refl → al4
namespace Vg.Tryz
open Go Vg
def nY (k:Nat) (t:aN) (n:Int):Int:=
 if n<1 then-1
 else if¬t.2.1=0 then-1
 else if t.1=1 then eJ (dt k t.2.2.1.1) n
 else if t.1=2 then eJ (dt k t.2.2.2.1) n
 else if t.1=3∨t.1=4 then t.2.2.2.2.1
 else-1
theorem Ec {k:Nat} {w:ak} (h:jd k w=true):jL k w.2.2.2.1=true∧(w.2.2.2.1.length:Int)=w.1.1∧w.2.2.2.2.2.2.2.2.2.2.2.2.1.length=5∧fQ k w=true:=by
 unfold jd fM at h
 simp only[alW,decide_eq_true_eq]at h
 obtain⟨_,_,_,_,⟨h1,h2,_⟩,_,h3,_,_,_,_,h4,_⟩:=h
 exact⟨h1,h2,by omega,h4⟩
section
variable {k:Nat} (hk:9223372036854775808≤k)
include hk
theorem Px {t:aN} {n:Int} (hs:ag al t≤1048576):lU k (t,n,())=some (nY k t n,()):=by
 obtain⟨t1,t2,t3,t4,t5⟩:=j8 hk hs
 simp only[lU,mQ,fy hk t5,fy hk t2,lC hk,alN,bP,dT]
 unfold nY
 by_cases hn:n<1
 ·simp[hn]
 ·by_cases p1:t.2.1=0
  ·by_cases h1:t.1=1
   ·simp[hn,p1,h1]
   ·by_cases h2:t.1=2
    ·simp[hn,p1,h1,h2]
    ·by_cases h3:t.1=3
     ·simp[hn,p1,h1,h2,h3]
     ·by_cases h4:t.1=4<;>simp[hn,p1,h1,h2,h3,h4]
  ·simp[hn,p1]
end
def CF (d:aP) (now ti code:Int):aP:=(d.1,d.2.1,d.2.2.1,d.2.2.2.1,d.2.2.2.2.1,d.2.2.2.2.2.1,code,d.2.2.2.2.2.2.2.1,now,d.2.2.2.2.2.2.2.2.2.1,ti,d.2.2.2.2.2.2.2.2.2.2.2)
def CP (d:aP) (ti:Int):aP:=(d.1,d.2.1,d.2.2.1,d.2.2.2.1,d.2.2.2.2.1,d.2.2.2.2.2.1,d.2.2.2.2.2.2.1,d.2.2.2.2.2.2.2.1,d.2.2.2.2.2.2.2.2.1,d.2.2.2.2.2.2.2.2.2.1,d.2.2.2.2.2.2.2.2.2.2.1,ti)
def qZ (d:aP):Int:=d.2.2.2.2.2.2.2.2.2.2.1
def yR (d:aP) (now ti code:Int):aP:=CP (if qZ d= -1 then CF d now ti code else d) ti
def Ov (d:aP) (now inv lin res:Int):aP:=(d.1,d.2.1,d.2.2.1,d.2.2.2.1,d.2.2.2.2.1,d.2.2.2.2.2.1,d.2.2.2.2.2.2.1,d.2.2.2.2.2.2.2.1,now,inv,lin,res)
def sw (st:List aG) (j:Int):List aG:=if 0≤j then st.set j.toNat (-1,(st.getD j.toNat aj.aa).2)else st
def dZ (t:aN):Int:=t.2.2.2.2.2.2.2.2
theorem bc {α:Type} {l:List α} {n:Nat} (a d:α) (h:n<l.length):(l.set n a).getD n d=a:=by
 rw[alU,List.getElem?_set_self h];rfl
section
variable {k:Nat} (hk:9223372036854775808≤k)
include hk
variable {c:bT} {ti now gr nn:Int} {st:List aG} {subs:List bp} {feed said:List af} {groups:List aD} {heap:List aJ} {sink:List bm} {tasks:List aN} {deeds:List aP}
theorem Ox {i n:Nat} {code:Int} (hi:i<tasks.length) (hn:n<deeds.length) (he:dZ (tasks.getD i al.aa)=(n:Int)):
 fb k ((c,ti,now,st,subs,feed,gr,groups,nn,heap,sink,said,tasks,deeds),(i:Int),code,())=
  some ((c,ti,now,st,subs,feed,gr,groups,nn,heap,sink,said,tasks,deeds.set n (CF (deeds.getD n aI.aa) now ti code)),()):=by
 unfold dZ at he
 simp only[fb,alO,he,cG]
 rw[if_pos (au hi),if_pos (au hn)]
 simp only[alS,bc _ _ hn,alQ]
 rfl
theorem Vw {d:aP} (hn:deeds.length≤1048576):
 gZ k ((c,ti,now,st,subs,feed,gr,groups,nn,heap,sink,said,tasks,deeds),d,())=
  some ((deeds.length:Int),(c,ti,now,st,subs,feed,gr,groups,nn,heap,sink,said,tasks,deeds++[Ov d now ti (-1) (-1)]),()):=by
 simp only[gZ]
 rw[if_pos (decide_eq_true (by simp only[alR];omega)),abM hn]
 rfl
theorem aaH {d:aP} (hn:deeds.length≤1048576):
 jA k ((c,ti,now,st,subs,feed,gr,groups,nn,heap,sink,said,tasks,deeds),d,())=
  some ((c,ti,now,st,subs,feed,gr,groups,nn,heap,sink,said,tasks,deeds++[Ov d now ti ti ti]),()):=by
 simp only[jA]
 rw[if_pos (decide_eq_true (by simp only[alR];omega))]
 rfl
theorem VO {d:aP} (hn:deeds.length≤1048576):
 jR k ((c,ti,now,st,subs,feed,gr,groups,nn,heap,sink,said,tasks,deeds),d,())=
  some ((c,ti,now,st,subs,feed,gr,groups,nn,heap,sink,said,tasks,deeds++[Ov d now ti ti ti]),()):=by
 simp only[jR]
 rw[if_pos (decide_eq_true (by simp only[alR];omega))]
 rfl
set_option maxHeartbeats 4000000 in
theorem uN {i n:Nat} {code:Int} (hi:i<tasks.length) (hn:n<deeds.length) (he:dZ (tasks.getD i al.aa)=(n:Int))
 (ht:ag al (tasks.getD i al.aa)≤1048576) (hj:cD k (tasks.getD i al.aa) (st.length:Int)<(st.length:Int)):
 bR k ((c,ti,now,st,subs,feed,gr,groups,nn,heap,sink,said,tasks,deeds),(i:Int),code,())=
  some ((c,ti,now,sw st (cD k (tasks.getD i al.aa) (st.length:Int)),subs,feed,if en (tasks.getD i al.aa)=true then-1 else gr,groups,nn,heap,sink,said,tasks.set i zT,
   deeds.set n (yR (deeds.getD n aI.aa) now ti code)),()):=by
 have he':=he
 unfold dZ at he
 simp only[bR,alO,he,cG,aL]
 rw[if_pos (au hi),if_pos (au hn)]
 have hz:((0,0,(([]:List ay),0,0,ByteArray.empty),([]:List ay),0,([]:List Int),([]:List af),0,0):aN)=zT:=rfl
 unfold yR qZ
 obtain⟨b,hg⟩:∃b,en (tasks.getD i al.aa)=b:=⟨_,rfl⟩
 obtain⟨j,hjj⟩:∃j,cD k (tasks.getD i al.aa) (st.length:Int)=j:=⟨_,rfl⟩
 rw[hjj]at hj
 rw[hg]
 by_cases hl:(deeds.getD n aI.aa).2.2.2.2.2.2.2.2.2.2.1= -1
 ·rw[if_pos (by rw[beq_iff_eq];exact hl),Ox hk hi hn he',alN,if_pos hl]
  dsimp only
  rw[alQ,if_pos (au hn),if_pos (au hi),pL hk ht,alN]
  simp only[bc _ _ hn,alS]
  simp only[hjj]
  by_cases h0:0≤j
  ·have hr:sw st j=st.set j.toNat (-1,(st.getD j.toNat aj.aa).2):=if_pos h0
   rw[if_pos (decide_eq_true h0),if_pos (decide_eq_true ⟨h0,hj⟩)]
   rw[if_pos (au hi),gj hk,alN,hr,hg]
   cases b<;>simp only[au hi,if_true,alP,if_false,hz,CP,CF]
  ·have hr:sw st j=st:=if_neg h0
   rw[if_neg (by simpa using h0)]
   rw[if_pos (au hi),gj hk,alN,hr,hg]
   cases b<;>simp only[au hi,if_true,alP,if_false,hz,CP,CF]
 ·rw[if_neg (by rw[beq_iff_eq];exact hl),if_neg hl,if_pos (au hn)]
  rw[if_pos (au hi),pL hk ht,alN]
  dsimp only
  simp only[hjj]
  by_cases h0:0≤j
  ·have hr:sw st j=st.set j.toNat (-1,(st.getD j.toNat aj.aa).2):=if_pos h0
   rw[if_pos (decide_eq_true h0),if_pos (decide_eq_true ⟨h0,hj⟩)]
   rw[if_pos (au hi),gj hk,alN,hr,hg]
   cases b<;>simp only[au hi,if_true,alP,if_false,hz,CP,CF]
  ·have hr:sw st j=st:=if_neg h0
   rw[if_neg (by simpa using h0)]
   rw[if_pos (au hi),gj hk,alN,hr,hg]
   cases b<;>simp only[au hi,if_true,alP,if_false,hz,CP,CF]
theorem Eo {i:Nat} (hi:i<tasks.length):
 eV k ((c,ti,now,st,subs,feed,gr,groups,nn,heap,sink,said,tasks,deeds),(i:Int),())=
  if gr= -1 then some (true,(c,ti,now,st,subs,feed,(i:Int),groups,nn,heap,sink,said,tasks.set i ((tasks.getD i al.aa).1,1,(tasks.getD i al.aa).2.2),deeds),())
  else some (false,(c,ti,now,st,subs,feed,gr,groups,nn,heap,sink,said,tasks,deeds),()):=by
 simp only[eV,alO,dT]
 by_cases h:gr= -1
 ·rw[if_neg (by simpa using h),if_pos (au hi),if_pos h]
 ·rw[if_pos (by simpa using h),if_neg h]
theorem xP {i:Nat} (hi:i<tasks.length):
 lp k ((c,ti,now,st,subs,feed,gr,groups,nn,heap,sink,said,tasks,deeds),(i:Int),())=
  if gr= -1 then some (true,(c,ti,now,st,subs,feed,(i:Int),groups,nn,heap,sink,said,tasks.set i ((tasks.getD i al.aa).1,1,(tasks.getD i al.aa).2.2),deeds),())
  else some (false,(c,ti,now,st,subs,feed,gr,groups,nn,heap,sink,said,tasks,deeds),()):=by
 simp only[lp,alO,dT]
 by_cases h:gr= -1
 ·rw[if_neg (by simpa using h),if_pos (au hi),if_pos h]
 ·rw[if_pos (by simpa using h),if_neg h]
theorem sT {i j:Nat} (hi:i<tasks.length) (hj:j<st.length):
 jh k ((c,ti,now,st,subs,feed,gr,groups,nn,heap,sink,said,tasks,deeds),(i:Int),(j:Int),())=
  if(st.getD j aj.aa).1= -1 then some (true,(c,ti,now,st.set j ((i:Int),(st.getD j aj.aa).2),subs,feed,gr,groups,nn,heap,sink,said,tasks.set i ((tasks.getD i al.aa).1,1,(tasks.getD i al.aa).2.2),deeds),())
  else some (false,(c,ti,now,st,subs,feed,gr,groups,nn,heap,sink,said,tasks,deeds),()):=by
 simp only[jh,alO,dT]
 rw[if_pos (au hj)]
 by_cases h:(st.getD j aj.aa).1= -1
 ·rw[if_neg (by simpa using h),if_pos (au hj),if_pos (au hi),if_pos h]
 ·rw[if_pos (by simpa using h),if_neg h]
theorem RB {i j:Nat} (hi:i<tasks.length) (hj:j<st.length) (he:(tasks.getD i al.aa).2.2.2.2.1=(j:Int)) (hs:st.length≤1048576):
 gi k ((c,ti,now,st,subs,feed,gr,groups,nn,heap,sink,said,tasks,deeds),(i:Int),())=
  some ((c,ti,now,st.set j (-1,(st.getD j aj.aa).2),subs,feed,gr,groups,nn,heap,sink,said,
   tasks.set i ((tasks.getD i al.aa).1,0,(tasks.getD i al.aa).2.2.1,(tasks.getD i al.aa).2.2.2.1,((j+1:Nat):Int),(tasks.getD i al.aa).2.2.2.2.2),deeds),()):=by
 simp only[gi,alO,he,cG]
 rw[if_pos (au hi),if_pos (au hj),aU (by omega)]
 simp only[alS,bc _ _ hi]
end
def aa3 (d:aP) (now ti code:Int) (got:List af):aP:=(d.1,d.2.1,d.2.2.1,d.2.2.2.1,d.2.2.2.2.1,d.2.2.2.2.2.1,code,got,now,d.2.2.2.2.2.2.2.2.2.1,ti,d.2.2.2.2.2.2.2.2.2.2.2)
def xY (d:aP) (now ti code:Int) (got:List af):aP:=CP (if qZ d= -1 then aa3 d now ti code got else d) ti
section
variable {k:Nat} (hk:9223372036854775808≤k)
include hk
variable {c:bT} {ti now gr nn:Int} {st:List aG} {subs:List bp} {feed said:List af} {groups:List aD} {heap:List aJ} {sink:List bm} {tasks:List aN} {deeds:List aP}
set_option maxHeartbeats 4000000 in
theorem fB {i n:Nat} {code:Int} {got:List af} (hi:i<tasks.length) (hn:n<deeds.length) (he:dZ (tasks.getD i al.aa)=(n:Int))
 (hg:ag (.sl ab) got≤1073741824):
 cr k ((c,ti,now,st,subs,feed,gr,groups,nn,heap,sink,said,tasks,deeds),(i:Int),code,got,())=
  some ((c,ti,now,st,subs,feed,gr,groups,nn,heap,sink,said,tasks.set i zT,deeds.set n (xY (deeds.getD n aI.aa) now ti code got)),()):=by
 unfold dZ at he
 simp only[cr,alO,he,cG,aL]
 rw[if_pos (au hi),if_pos (au hn)]
 have hz:((0,0,(([]:List ay),0,0,ByteArray.empty),([]:List ay),0,([]:List Int),([]:List af),0,0):aN)=zT:=rfl
 unfold xY qZ
 by_cases hl:(deeds.getD n aI.aa).2.2.2.2.2.2.2.2.2.2.1= -1
 ·rw[if_pos (by rw[beq_iff_eq];exact hl),gx hk hg,alN,if_pos hl]
  simp only[bc _ _ hn,alS,alQ,au hi,au hn,if_true,hz,CP,aa3]
 ·rw[if_neg (by rw[beq_iff_eq];exact hl),if_neg hl]
  simp only[bc _ _ hn,alS,alQ,au hi,au hn,if_true,hz,CP,aa3]
theorem wF {i:Nat} {t:aN} {o:Int} (hi:i<tasks.length) (hn:deeds.length≤1048576) (ht:ag al t≤1048576) (hd:eM k (t.1,())=some (o,())) (hA:ag ab t.2.2.1≤1048576) (hL:t.2.2.2.1.length≤1048576):
 kh k ((c,ti,now,st,subs,feed,gr,groups,nn,heap,sink,said,tasks,deeds),(i:Int),t,())=
  some ((c,ti,now,st,subs,feed,gr,groups,nn,heap,sink,said,tasks.set i (t.1,t.2.1,t.2.2.1,t.2.2.2.1,t.2.2.2.2.1,t.2.2.2.2.2.1,t.2.2.2.2.2.2.1,t.2.2.2.2.2.2.2.1,(deeds.length:Int)),
   deeds++[(o,(i:Int),t.2.2.1,t.2.2.2.1,0,t.2.2.2.2.2.2.2.1,0,[],now,ti,-1,-1)]),()):=by
 simp only[kh,K4 hk (show ag al t≤1073741824 by omega),alN,hd,ew hk (show ag ab t.2.2.1≤1073741824 by omega),alO]
 rw[if_pos (au hi),if_pos (decide_eq_true (by simp only[al5];omega)),if_pos (decide_eq_true (by simp only[alR];omega))]
 rfl
theorem Gv {i j:Nat} (hi:i<tasks.length) (hj:j<st.length) (ht:ag al (tasks.getD i al.aa)≤1048576) (hw:nY k (tasks.getD i al.aa) (st.length:Int)=(j:Int)):
 eZ k ((c,ti,now,st,subs,feed,gr,groups,nn,heap,sink,said,tasks,deeds),(i:Int),())=
  if(st.getD j aj.aa).1= -1 then some (true,(c,ti,now,st.set j ((i:Int),(st.getD j aj.aa).2),subs,feed,gr,groups,nn,heap,sink,said,tasks.set i ((tasks.getD i al.aa).1,1,(tasks.getD i al.aa).2.2),deeds),())
  else some (false,(c,ti,now,st,subs,feed,gr,groups,nn,heap,sink,said,tasks,deeds),()):=by
 simp only[eZ,alO,dT,Px hk ht,alN,hw]
 rw[if_pos (au hi),if_pos (au hj)]
 by_cases h:(st.getD j aj.aa).1= -1
 ·rw[if_neg (by simpa using h),if_pos (au hj),if_pos (au hi),if_pos h]
 ·rw[if_pos (by simpa using h),if_neg h]
end
def wE (s x:Bool) (d:aP) (now ti code:Int) (got:List af):aP:=if(s||x)=true then xY d now ti code got else yR d now ti code
def Yv (k:Nat) (c:bT) (st:List aG) (a:af):Bool:= !(dQ k st a.1).2&&decide (c.2.1≤(lB st:Int))
def hZ (st:List aG) (j:Nat) (x:Int):List aG:=st.set j (x,(st.getD j aj.aa).2)
def tick (ti:Int):Int:=IntKind.i64.wrap (ti+1)
def ac3 (i:Int) (a:af):aP:=(2,i,a,[],0,0,8,[],0,0,0,0)
def oG (w:ak) (i j:Nat):Bool×ak:=
 match w with
 |(c,ti,now,st,subs,feed,gr,groups,nn,heap,sink,said,tasks,deeds)=>
  if(st.getD j aj.aa).1= -1 then(true,(c,ti,now,hZ st j i,subs,feed,gr,groups,nn,heap,sink,said,tasks.set i ((tasks.getD i al.aa).1,1,(tasks.getD i al.aa).2.2),deeds))else(false,w)
def gL (r:Bool×ak):Bool×ak:=if r.1=true then(true,(r.2.1,tick r.2.2.1,r.2.2.2))else r
def Ct (s:Bool) (k:Nat) (w:ak) (i:Nat):Bool×ak:=
 match w with
 |(c,ti,now,st,subs,feed,gr,groups,nn,heap,sink,said,tasks,deeds)=>
  let t:=tasks.getD i al.aa
  let n:=(dZ t).toNat
  let j:=(df k st t.2.2.1.1).toNat
  let d:=deeds.getD n aI.aa
  if t.2.1=0 then oG w i j
  else if t.2.1=1 then
   if Yv k c st t.2.2.1=true then(true,(c,ti,now,hZ st j (-1),subs,feed,gr,groups,nn,heap,sink,said,tasks.set i zT,deeds.set n (wE s false d now ti 3 [])))
   else(true,(c,ti,now,(pA k st t.2.2.1).1,subs,feed,gr,groups,nn,heap,sink,said,tasks.set i (t.1,2,(dQ k (pA k st t.2.2.1).1 t.2.2.1.1).1,t.2.2.2),deeds.set n (CF d now ti (if(pA k st t.2.2.1).2=true then 1 else 2))))
  else(true,(c,ti,now,hZ st j (-1),subs.map (sI t.2.2.1),feed++[t.2.2.1],gr,groups,nn,heap,sink,said++[t.2.2.1],tasks.set i zT,(deeds++[Ov (ac3 i t.2.2.1) now ti ti ti]).set n (CP d ti)))
def cO (s:Bool) (k:Nat) (w:ak) (i:Nat):Bool×ak:=gL (Ct s k w i)
theorem rh {α:Type} {l:List α} {n:Nat} (x d:α) (h:n<l.length):(l++[x]).getD n d=l.getD n d:=by
 rw[alU,alU,List.getElem?_append_left h]
theorem L6 {α:Type} {b:Bool} {cnt cap:Int} {X Y:Option α}:(Option.bind (if((!b)==true)=true then some (cnt,())else some (0,())) fun(r:Int×Unit)=>if(if(!b)=true then decide (r.1≥cap)else false)=true then X else Y)=
 if(!b&&decide (cap≤cnt))=true then X else Y:=by cases b<;>simp
theorem xV (st:List aG) (j:Nat):sw st (j:Int)=hZ st j (-1):=by
 unfold sw hZ
 rw[if_pos (by omega),alO]
section
variable {k:Nat} (hk:9223372036854775808≤k)
include hk
variable {c:bT} {ti now gr nn:Int} {st:List aG} {subs:List bp} {feed said:List af} {groups:List aD} {heap:List aJ} {sink:List bm} {tasks:List aN} {deeds:List aP}
theorem dA (hs:ag az (c,ti,now,st,subs,feed,gr,groups,nn,heap,sink,said,tasks,deeds)≤1048576):
 ag bQ c+ag (.sl aj) st+ag (.sl aW) subs+ag (.sl ab) feed+ag (.sl ah) groups+ag (.sl aw) heap+ag (.sl aX) sink+ag (.sl ab) said+ag (.sl al) tasks+ag (.sl aI) deeds≤1048576:=by
 rw[nR hk]at hs
 exact hs
theorem CS {l:List aG} {s:List ay} (h:l.length≠0):∃j:Nat,j<l.length∧df k l s=(j:Int):=by
 obtain⟨h0,h1,h2⟩:=lN (k:=k) (l:=l) (s:=s) h
 exact⟨(df k l s).toNat,h2,by omega⟩
set_option maxHeartbeats 4000000 in
theorem Lp {i n j:Nat} {t:aN} {d:aP} (hs:ag az (c,ti,now,st,subs,feed,gr,groups,nn,heap,sink,said,tasks,deeds)≤1048576) (hi:i<tasks.length) (et:tasks.getD i al.aa=t) (hp:t.1=1)
 (hj:j<st.length) (ej:df k st t.2.2.1.1=(j:Int)) (hn:n<deeds.length) (he:dZ t=(n:Int)) (ed:deeds.getD n aI.aa=d) (hpc:t.2.1=0∨t.2.1=1∨t.2.1=2)
 (hl:t.2.1=2→qZ d≠-1) (hz:t.2.2.2.2.2.2.2.2=(n:Int)):
 iO k ((c,ti,now,st,subs,feed,gr,groups,nn,heap,sink,said,tasks,deeds),(i:Int),())=
  some ((cO false k (c,ti,now,st,subs,feed,gr,groups,nn,heap,sink,said,tasks,deeds) i).1,(cO false k (c,ti,now,st,subs,feed,gr,groups,nn,heap,sink,said,tasks,deeds) i).2,()):=by
 have hsum:=dA hk hs
 have ht0:=cY (e:=al) (d:=al.aa) hi
 rw[et]at ht0
 have hdl:=ar (e:=aI) (l:=deeds)
 have hfl:=ar (e:=ab) (l:=feed)
 have hsl:=ar (e:=ab) (l:=said)
 have htl:=ar (e:=al) (l:=tasks)
 have ht:ag al t≤1048576:=by omega
 have hA:=(j8 hk ht).1
 have hta:=cP hk t
 have htA:=bG hk t.2.2.1
 have hgr:en t=false:=by unfold en;rw[hp];rfl
 simp only[iO,alO,et,hp,aL,cG,bP,dT]
 rw[if_pos (au hi),if_neg (by decide)]
 unfold cO Ct
 simp only[et,he,ed,ej,alO]
 rcases hpc with h0|h0|h0
 ·have hw:nY k (tasks.getD i al.aa) (st.length:Int)=(j:Int):=by
   rw[et];unfold nY
   rw[if_neg (by omega),if_neg (by simp[h0]),if_pos hp]
   exact ej
  rw[h0,if_pos (by decide),Gv hk hi hj (by rw[et];exact ht) hw,if_pos rfl]
  unfold oG gL
  simp only[et,hp]
  split<;>simp[tick,hZ]
 ·have hhold:cD k t (st.length:Int)=(j:Int):=by
   unfold cD
   rw[if_neg (by omega),if_pos ⟨hp,by omega⟩];exact ej
  rw[h0,if_neg (by decide),if_pos (by decide),if_neg (by decide),if_pos rfl,iD hk (by omega) (by omega),alN,y3 hk (by omega),L6]
  unfold Yv
  cases hb:(!(dQ k st t.2.2.1.1).2&&decide (c.2.1≤(lB st:Int)))with
  |true=>
   rw[if_pos rfl,if_pos rfl,uN hk hi hn (by rw[et];exact he) (by rw[et];exact ht) (by rw[et,hhold];omega),alN,et,ed,hhold,xV,hgr]
   rfl
  |false=>
   have hpt:=Rv hk (l:=st) (a:=t.2.2.1)
   rw[if_neg (by simp),if_neg (by simp),Jl hk (by omega) (by omega),alN]
   cases hf:(pA k st t.2.2.1).2 with
   |true=>
    rw[if_pos rfl,if_pos rfl,Ox hk hi hn (by rw[et];exact he),alN]
    dsimp only
    rw[et,ed,iD hk (by omega) (by omega),alN]
    simp only[alS,bc _ _ hi,hp]
    rfl
   |false=>
    rw[if_neg (by simp),if_neg (by simp),Ox hk hi hn (by rw[et];exact he),alN]
    dsimp only
    rw[et,ed,iD hk (by omega) (by omega),alN]
    simp only[alS,bc _ _ hi,hp]
    rfl
 ·have hhold:cD k t (st.length:Int)=(j:Int):=by
   unfold cD
   rw[if_neg (by omega),if_pos ⟨hp,by omega⟩];exact ej
  rw[h0,if_neg (by decide),if_neg (by decide),if_neg (by decide),if_neg (by decide)]
  have hcp:bh k (t.2.2.1,())=some (t.2.2.1,()):=cB hk (by omega)
  simp only[hcp,alN]
  rw[if_pos (decide_eq_true (by simp only[alR];omega)),if_pos (decide_eq_true (by simp only[alR];omega)),NM hk (by omega) (by omega),alN,aaH hk (by omega),alN]
  dsimp only
  rw[uN (n:=n) hk hi (by rw[alX,alR];omega) (by rw[et];exact he) (by rw[et];exact ht) (by rw[et,hhold];omega),alN,et,rh _ _ hn,ed,hhold,xV,hgr]
  unfold yR
  rw[if_neg (hl h0)]
  rfl
theorem rG {i j:Nat} {t:aN} (hi:i<tasks.length) (et:tasks.getD i al.aa=t) (hL:ag (.sl aq) t.2.2.1.1≤1048576) (ej:df k st t.2.2.1.1=(j:Int)):
 jm k ((c,ti,now,st,subs,feed,gr,groups,nn,heap,sink,said,tasks,deeds),(i:Int),())=some ((j:Int),()):=by
 simp only[jm,alO,et]
 rw[if_pos (au hi),oF hk hL,alN,ej]
set_option maxHeartbeats 4000000 in
theorem GV {i n j:Nat} {t:aN} {d:aP} (hs:ag az (c,ti,now,st,subs,feed,gr,groups,nn,heap,sink,said,tasks,deeds)≤1048576) (hi:i<tasks.length) (et:tasks.getD i al.aa=t) (hp:t.1=1)
 (hj:j<st.length) (ej:df k st t.2.2.1.1=(j:Int)) (hn:n<deeds.length) (he:dZ t=(n:Int)) (ed:deeds.getD n aI.aa=d) (hpc:t.2.1=1):
 lR k ((c,ti,now,st,subs,feed,gr,groups,nn,heap,sink,said,tasks,deeds),(i:Int),())=
  some ((Ct true k (c,ti,now,st,subs,feed,gr,groups,nn,heap,sink,said,tasks,deeds) i).2,()):=by
 have hsum:=dA hk hs
 have ht0:=cY (e:=al) (d:=al.aa) hi
 rw[et]at ht0
 have hdl:=ar (e:=aI) (l:=deeds)
 have hta:=cP hk t
 have htA:=bG hk t.2.2.1
 have he':=he
 unfold dZ at he'
 simp only[lR,alO,et,he',aL,cG]
 rw[if_pos (au hi),rG hk hi et (by omega) ej,alN,iH hk (by omega) (by omega),alN,Mu hk (by omega),L6]
 unfold Ct
 simp only[et,he,ed,ej,alO,hpc,Yv]
 rw[if_neg (show¬(1:Int)=0 by decide)]
 cases hb:(!(dQ k st t.2.2.1.1).2&&decide (c.2.1≤(lB st:Int)))with
 |true=>
  rw[if_pos rfl,if_pos rfl,if_pos (au hj),fB hk hi hn (by rw[et];exact he) (by simp[ag]),alN,ed]
  rfl
 |false=>
  have hpt:=Rv hk (l:=st) (a:=t.2.2.1)
  rw[if_neg alT,if_neg alT,Iu hk (by omega) (by omega),alN,if_pos (au hn)]
  cases hf:(pA k st t.2.2.1).2 with
  |true=>
   rw[if_pos rfl]
   dsimp only
   rw[iH hk (by omega) (by omega),alN,if_pos (au hi),alQ,if_pos (au hi)]
   simp only[alS,bc _ _ hi,bc _ _ hn,alO,et,ed,hp]
   rfl
  |false=>
   rw[if_neg alT]
   dsimp only
   rw[iH hk (by omega) (by omega),alN,if_pos (au hi),alQ,if_pos (au hi)]
   simp only[alS,bc _ _ hi,bc _ _ hn,alO,et,ed,hp]
   rfl
set_option maxHeartbeats 4000000 in
theorem LC {i n j:Nat} {t:aN} {d:aP} (hs:ag az (c,ti,now,st,subs,feed,gr,groups,nn,heap,sink,said,tasks,deeds)≤1048576) (hi:i<tasks.length) (et:tasks.getD i al.aa=t) (hp:t.1=1)
 (hj:j<st.length) (ej:df k st t.2.2.1.1=(j:Int)) (hn:n<deeds.length) (he:dZ t=(n:Int)) (ed:deeds.getD n aI.aa=d) (hpc:t.2.1=0∨t.2.1=1∨t.2.1=2)
 (hl:t.2.1=2→qZ d≠-1):
 pG k ((c,ti,now,st,subs,feed,gr,groups,nn,heap,sink,said,tasks,deeds),(i:Int),())=
  some ((cO true k (c,ti,now,st,subs,feed,gr,groups,nn,heap,sink,said,tasks,deeds) i).1,(cO true k (c,ti,now,st,subs,feed,gr,groups,nn,heap,sink,said,tasks,deeds) i).2,()):=by
 have hsum:=dA hk hs
 have ht0:=cY (e:=al) (d:=al.aa) hi
 rw[et]at ht0
 have hdl:=ar (e:=aI) (l:=deeds)
 have hfl:=ar (e:=ab) (l:=feed)
 have hsl:=ar (e:=ab) (l:=said)
 have htl:=ar (e:=al) (l:=tasks)
 have hta:=cP hk t
 have htA:=bG hk t.2.2.1
 simp only[pG,alO,et,hp,aL,cG,bP,dT]
 rw[if_pos (au hi)]
 unfold cO
 rcases hpc with h0|h0|h0
 ·rw[h0,if_pos (by decide),rG hk hi et (by omega) ej,alN]
  dsimp only
  rw[if_pos (au hj),if_pos (au hj),if_pos (au hi)]
  unfold Ct oG gL
  simp only[et,he,ed,ej,alO,h0,hp]
  split<;>simp_all[tick,hZ]
 ·rw[h0,if_neg (by decide),if_pos (by decide),GV hk hs hi et hp hj ej hn he ed h0,alN]
  have h1:(Ct true k (c,ti,now,st,subs,feed,gr,groups,nn,heap,sink,said,tasks,deeds) i).1=true:=by
   unfold Ct
   simp only[et,h0]
   rw[if_neg (by decide)]
   simp only[if_true]
   split<;>rfl
  unfold gL
  rw[h1]
  rfl
 ·rw[h0,if_neg (by decide),if_neg (by decide)]
  have hcp:bM k (t.2.2.1,())=some (t.2.2.1,()):=ew hk (by omega)
  simp only[tD,alO,et,hcp,alN]
  rw[if_pos (au hi),rG hk hi et (by omega) ej,alN,if_pos (decide_eq_true (by simp only[alR];omega)),if_pos (decide_eq_true (by simp only[alR];omega)),
   MJ hk (by omega) (by omega),alN,VO hk (by omega),alN]
  dsimp only
  rw[if_pos (au hj),fB (n:=n) hk hi (by rw[alX,alR];omega) (by rw[et];exact he) (by simp[ag]),alN,alN,rh _ _ hn,ed]
  unfold xY Ct
  simp only[et,he,ed,ej,alO,h0]
  rw[if_neg (hl h0)]
  rfl
end
def Fm (s:Bool) (k:Nat) (w:ak) (i:Nat):Bool×ak:=
 match w with
 |(c,ti,now,st,subs,feed,gr,groups,nn,heap,sink,said,tasks,deeds)=>
  let t:=tasks.getD i al.aa
  let n:=(dZ t).toNat
  let j:=(df k st t.2.2.2.1).toNat
  let d:=deeds.getD n aI.aa
  if t.2.1=0 then oG w i j
  else if(dQ k st t.2.2.2.1).2=true then(true,(c,ti,now,hZ st j (-1),subs,feed,gr,groups,nn,heap,sink,said,tasks.set i zT,deeds.set n (wE s true d now ti 5 [(dQ k st t.2.2.2.1).1])))
  else(true,(c,ti,now,hZ st j (-1),subs,feed,gr,groups,nn,heap,sink,said,tasks.set i zT,deeds.set n (wE s false d now ti 6 [])))
def Of (d:aP) (got:List af):aP:=(d.1,d.2.1,d.2.2.1,d.2.2.2.1,d.2.2.2.2.1,d.2.2.2.2.2.1,d.2.2.2.2.2.2.1,got,d.2.2.2.2.2.2.2.2)
theorem Kl {d:aP} {now ti code:Int} {got:List af} (h:qZ d= -1):yR (Of d got) now ti code=xY d now ti code got:=by
 have h2:qZ (Of d got)= -1:=h
 unfold yR xY
 rw[if_pos h,if_pos h2]
 rfl
section
variable {k:Nat} (hk:9223372036854775808≤k)
include hk
variable {c:bT} {ti now gr nn:Int} {st:List aG} {subs:List bp} {feed said:List af} {groups:List aD} {heap:List aJ} {sink:List bm} {tasks:List aN} {deeds:List aP}
theorem Yi {l:List aG} {s:List ay}:ag ab (dQ k l s).1≤ag (.sl aj) l:=by
 have hz:ag ab eC=0:=by rw[bG hk];rfl
 unfold dQ
 split
 ·rw[hz];omega
 ·rename_i h0
  obtain⟨_,_,c⟩:=lN (k:=k) (l:=l) (s:=s) h0
  have hp:=cY (e:=aj) (d:=aj.aa) c
  generalize l.getD (df k l s).toNat aj.aa=p at hp⊢
  have h3:=cM hk p
  unfold sM
  cases hc:jj p (dt k s)with
  |none=>dsimp only;rw[hz];omega
  |some i=>
   obtain⟨hi,_,_⟩:=bH.1 hc
   have h4:=cY (e:=ax) (d:=ax.aa) hi
   have h5:=cE hk (p.2.2.getD i ax.aa)
   dsimp only
   cases hq:iu (p.2.2.getD i ax.aa).2 s with
   |none=>dsimp only;rw[hz];omega
   |some j=>
    obtain⟨hj,_,_⟩:=bH.1 hq
    have h6:=cY (e:=ab) (d:=ab.aa) hj
    dsimp only
    omega
set_option maxHeartbeats 4000000 in
theorem N6 {i n j:Nat} {t:aN} {d:aP} (hs:ag az (c,ti,now,st,subs,feed,gr,groups,nn,heap,sink,said,tasks,deeds)≤1048576) (hi:i<tasks.length) (et:tasks.getD i al.aa=t) (hp:t.1=2)
 (hj:j<st.length) (ej:df k st t.2.2.2.1=(j:Int)) (hn:n<deeds.length) (he:dZ t=(n:Int)) (ed:deeds.getD n aI.aa=d) (hpc:t.2.1=0∨t.2.1=1)
 (hl:qZ d= -1):
 iM k ((c,ti,now,st,subs,feed,gr,groups,nn,heap,sink,said,tasks,deeds),(i:Int),())=
  some ((Fm false k (c,ti,now,st,subs,feed,gr,groups,nn,heap,sink,said,tasks,deeds) i).1,(Fm false k (c,ti,now,st,subs,feed,gr,groups,nn,heap,sink,said,tasks,deeds) i).2,()):=by
 have hsum:=dA hk hs
 have ht0:=cY (e:=al) (d:=al.aa) hi
 rw[et]at ht0
 have hdl:=ar (e:=aI) (l:=deeds)
 have ht:ag al t≤1048576:=by omega
 have hta:=cP hk t
 have hgr:en t=false:=by unfold en;rw[hp];rfl
 have he':=he
 unfold dZ at he'
 simp only[iM,alO,et,he',cG,bP]
 rw[if_pos (au hi)]
 unfold Fm
 simp only[et,he,ed,ej,alO]
 rcases hpc with h0|h0
 ·have hw:nY k (tasks.getD i al.aa) (st.length:Int)=(j:Int):=by
   rw[et];unfold nY
   rw[if_neg (by omega),if_neg (by simp[h0]),if_neg (by omega),if_pos hp]
   exact ej
  rw[h0,if_pos (by decide),Gv hk hi hj (by rw[et];exact ht) hw,if_pos rfl]
  unfold oG
  simp only[et,hp]
  split<;>simp[hZ]
 ·have hhold:cD k t (st.length:Int)=(j:Int):=by
   unfold cD
   rw[if_neg (by omega),if_neg (by omega),if_pos ⟨hp,h0⟩];exact ej
  rw[h0,if_neg (by decide),if_neg (by decide),iD hk (by omega) (by omega),alN]
  cases hb:(dQ k st t.2.2.2.1).2 with
  |true=>
   rw[if_pos rfl,if_pos rfl,if_pos (au hn),uN (n:=n) hk hi (by rw[alQ];exact hn) (by rw[et];exact he) (by rw[et];exact ht) (by rw[et,hhold];omega),alN,et,hhold,xV,hgr,bc _ _ hn,alS]
   have h1:=Kl (now:=now) (ti:=ti) (code:=5) (got:=[(dQ k st t.2.2.2.1).1]) hl
   unfold Of at h1
   rw[h1]
   rfl
  |false=>
   rw[if_neg alT,if_neg alT,uN hk hi hn (by rw[et];exact he) (by rw[et];exact ht) (by rw[et,hhold];omega),alN,et,hhold,xV,hgr,ed]
   rfl
set_option maxHeartbeats 4000000 in
theorem Oj {i n j:Nat} {t:aN} {d:aP} (hs:ag az (c,ti,now,st,subs,feed,gr,groups,nn,heap,sink,said,tasks,deeds)≤1048576) (hi:i<tasks.length) (et:tasks.getD i al.aa=t) (hp:t.1=2)
 (hj:j<st.length) (ej:df k st t.2.2.2.1=(j:Int)) (hn:n<deeds.length) (he:dZ t=(n:Int)) (ed:deeds.getD n aI.aa=d) (hpc:t.2.1=0∨t.2.1=1):
 qB k ((c,ti,now,st,subs,feed,gr,groups,nn,heap,sink,said,tasks,deeds),(i:Int),())=
  some ((Fm true k (c,ti,now,st,subs,feed,gr,groups,nn,heap,sink,said,tasks,deeds) i).1,(Fm true k (c,ti,now,st,subs,feed,gr,groups,nn,heap,sink,said,tasks,deeds) i).2,()):=by
 have hsum:=dA hk hs
 have ht0:=cY (e:=al) (d:=al.aa) hi
 rw[et]at ht0
 have hta:=cP hk t
 have hfa:=Yi hk (l:=st) (s:=t.2.2.2.1)
 simp only[qB,alO,et,bP]
 rw[if_pos (au hi),oF hk (by omega),alN,ej]
 unfold Fm
 simp only[et,he,ed,ej,alO]
 rcases hpc with h0|h0
 ·rw[h0,if_pos (by decide),sT hk hi hj,if_pos rfl]
  unfold oG
  simp only[et,hp]
  split<;>simp[hZ]
 ·rw[h0,if_neg (by decide),if_neg (by decide),iH hk (by omega) (by omega),alN,if_pos (au hj)]
  cases hb:(dQ k st t.2.2.2.1).2 with
  |true=>
   have h1:ag (.sl ab) [(dQ k st t.2.2.2.1).1]≤1073741824:=by
    rw[ez (e:=ab),rj (e:=ab)];omega
   rw[if_pos rfl,if_pos rfl,fB hk hi hn (by rw[et];exact he) h1,alN,ed]
   rfl
  |false=>
   rw[if_neg alT,if_neg alT,fB hk hi hn (by rw[et];exact he) (by simp[ag]),alN,ed]
   rfl
end
def VJ (st:List aG) (t:aN) (j:Nat):aN:=
 (t.1,if j+1=st.length then 2 else 0,t.2.2.1,t.2.2.2.1,((j+1:Nat):Int),t.2.2.2.2.2.1++[(st.getD j aj.aa).2.1],t.2.2.2.2.2.2.1++bE (st.getD j aj.aa),t.2.2.2.2.2.2.2)
def Zx (n:Int):aN:=(3,0,eC,[],0,[],[],0,n)
def pH (s:Bool) (k:Nat) (w:ak) (i:Nat):Bool×ak:=
 match w with
 |(c,ti,now,st,subs,feed,gr,groups,nn,heap,sink,said,tasks,deeds)=>
  let t:=tasks.getD i al.aa
  let n:=(dZ t).toNat
  let j:=t.2.2.2.2.1.toNat
  let d:=deeds.getD n aI.aa
  if t.2.1=0 then oG w i j
  else if t.2.1=1 then(true,(c,ti,now,hZ st j (-1),subs,feed,gr,groups,nn,heap,sink,said,tasks.set i (VJ st t j),deeds))
  else if kf st t.2.2.2.2.2.1=true then(true,(c,ti,now,st,subs,feed,gr,groups,nn,heap,sink,said,tasks.set i zT,deeds.set n (wE s true d now ti 8 (dw t.2.2.2.2.2.2.1))))
  else(true,(c,ti,now,st,subs,feed,gr,groups,nn,heap,sink,said,tasks.set i (Zx n),deeds))
section
variable {k:Nat} (hk:9223372036854775808≤k)
include hk
variable {c:bT} {ti now gr nn:Int} {st:List aG} {subs:List bp} {feed said:List af} {groups:List aD} {heap:List aJ} {sink:List bm} {tasks:List aN} {deeds:List aP}
theorem GM {w:ak} {t:aN} (h:t.2.2.2.2.2.1.length≤w.2.2.2.1.length) (hl:t.2.2.2.2.2.1.length≤1048576):gP k (w,t,())=some (kf w.2.2.2.1 t.2.2.2.2.2.1,()):=by
 simp only[gP]
 unfold kf
 refine(cA (fun i:Nat=>(w,t,t.2.2.2.2.2.1,((t.2.2.2.2.2.1.length:Nat):Int),(i:Int),())) (fun i=>decide (t.2.2.2.2.2.1.getD i 0=(w.2.2.2.1.getD i aj.aa).2.1)) t.2.2.2.2.2.1.length
  (e:=some (true,())) (no:=some (false,())) ?_ ?_ k 0 (by omega) (by omega)).trans ?_
 ·intro G i hi
  dsimp only
  rw[aF,decide_eq_true hi,if_pos rfl,if_pos (au hi),if_pos (au (by omega)),alO,aU (by omega),dT]
  by_cases e:t.2.2.2.2.2.1.getD i 0=(w.2.2.2.1.getD i aj.aa).2.1
  ·rw[decide_eq_true e,decide_eq_true e.symm];rfl
  ·rw[decide_eq_false e,decide_eq_false (fun h=>e h.symm)];rfl
 ·intro G
  simp only[aF,alZ,decide_false,alP,if_false]
 ·cases bj 0 t.2.2.2.2.2.1.length (fun i=>decide (t.2.2.2.2.2.1.getD i 0=(w.2.2.2.1.getD i aj.aa).2.1))<;>rfl
theorem I9 {l:List af} (h:ag (.sl ab) l≤1048576):fG k (l,())=some (dw l,()):=by
 have h2:=ar (e:=ab) (l:=l)
 simp only[fG,uw]
 rw[if_pos ?_]
 simp only[alW,decide_eq_true_eq,List.all_eq_true]
 refine⟨by omega,fun a ha=> ?_⟩
 have hm:=bo (e:=ab) ha
 have h1:=bG hk a
 have h2:=ar (e:=aq) (l:=a.1)
 omega
set_option maxHeartbeats 8000000 in
theorem Jw {i n j:Nat} {t:aN} {d:aP} (hs:ag az (c,ti,now,st,subs,feed,gr,groups,nn,heap,sink,said,tasks,deeds)≤1048576) (hi:i<tasks.length) (et:tasks.getD i al.aa=t) (hp:t.1=3)
 (ej:t.2.2.2.2.1=(j:Int)) (hj:t.2.1≠2→j<st.length) (hse:t.2.1=2→t.2.2.2.2.2.1.length=st.length) (hn:n<deeds.length) (he:dZ t=(n:Int)) (ed:deeds.getD n aI.aa=d) (hpc:t.2.1=0∨t.2.1=1∨t.2.1=2)
 (hl:qZ d= -1) (hA:t.2.2.1=eC) (hL:t.2.2.2.1=[]) (hN:t.2.2.2.2.2.2.2.1=0):
 eI k ((c,ti,now,st,subs,feed,gr,groups,nn,heap,sink,said,tasks,deeds),(i:Int),())=
  some ((pH false k (c,ti,now,st,subs,feed,gr,groups,nn,heap,sink,said,tasks,deeds) i).1,(pH false k (c,ti,now,st,subs,feed,gr,groups,nn,heap,sink,said,tasks,deeds) i).2,()):=by
 have hsum:=dA hk hs
 have ht0:=cY (e:=al) (d:=al.aa) hi
 rw[et]at ht0
 have hdl:=ar (e:=aI) (l:=deeds)
 have hstl:=ar (e:=aj) (l:=st)
 have ht:ag al t≤1048576:=by omega
 have hta:=cP hk t
 have hsl:=ar (e:= .int .i64) (l:=t.2.2.2.2.2.1)
 have hgl:=ar (e:=ab) (l:=t.2.2.2.2.2.2.1)
 have hgr:en t=false:=by unfold en;rw[hp];rfl
 have he':=he
 unfold dZ at he'
 unfold pH
 simp only[et,he,ed,ej,alO]
 rcases hpc with h0|h0|h0
 ·simp only[eI,alO,et,he',ej,cG,bP]
  rw[if_pos (au hi)]
  have hw:nY k (tasks.getD i al.aa) (st.length:Int)=(j:Int):=by
   have:=hj (by omega)
   rw[et];unfold nY
   rw[if_neg (by omega),if_neg (by simp[h0]),if_neg (by omega),if_neg (by omega),if_pos (by omega)]
   exact ej
  rw[h0,if_pos (by decide),Gv hk hi (hj (by omega)) (by rw[et];exact ht) hw,if_pos rfl]
  unfold oG
  simp only[et,hp]
  split<;>simp[hZ]
 ·have hj:=hj (by omega)
  have hpj:=cY (e:=aj) (d:=aj.aa) hj
  have hai:=jw hk (st.getD j aj.aa)
  have hal:=ar (e:=ab) (l:=bE (st.getD j aj.aa))
  simp only[eI,alO,et,he',ej,cG,bP,alS,bc _ _ hi]
  rw[if_pos (au hi),h0,if_neg (by decide),if_pos (by decide),if_pos (au hj),if_pos (decide_eq_true (by simp only[alR];omega)),if_pos (by simp),qW hk (by omega),alN,
   if_pos (decide_eq_true (by dsimp only;omega)),if_pos (by simp),RB (j:=j) hk (by rw[alQ];exact hi) hj (by rw[bc _ _ hi]) (by omega),alN]
  simp only[alS,bc _ _ hi,alQ]
  unfold VJ
  by_cases e:j+1=st.length
  ·rw[if_pos (decide_eq_true (by omega)),if_neg (show¬(1:Int)=0 by decide),if_pos e];rfl
  ·rw[if_neg (by simp;omega),if_neg (show¬(1:Int)=0 by decide),if_neg e];rfl
 ·simp only[eI,alO,et,he',ej,cG,bP,alS,bc _ _ hi]
  rw[if_pos (au hi),h0,if_neg (by decide),if_neg (by decide),if_neg (by decide),if_neg (by decide),GM hk (by have:=hse h0;dsimp only;omega) (by omega),alN]
  dsimp only
  cases hb:kf st t.2.2.2.2.2.1 with
  |true=>
   have hhold:cD k t (st.length:Int)= -1:=by
    unfold cD
    split
    ·rfl
    ·rw[if_neg (by omega),if_neg (by omega),if_neg (by omega)]
   rw[if_neg (by simp),if_pos rfl,cR hk (by omega),alN,I9 hk (by dsimp only;omega),alN,if_pos (au hn)]
   rw[uN (n:=n) hk hi (by rw[alQ];exact hn) (by rw[et];exact he) (by rw[et];exact ht) (by rw[et,hhold];omega),alN,et,hhold,hgr,bc _ _ hn,alS]
   have h1:=Kl (now:=now) (ti:=ti) (code:=8) (got:=dw t.2.2.2.2.2.2.1) hl
   unfold Of at h1
   rw[ed,h1]
   rfl
  |false=>
   rw[if_pos (by rfl),if_neg (by simp)]
   obtain⟨t1,t2,t3,t4,t5,t6,t7,t8,t9⟩:=t
   dsimp only at hA hL hN hp he'
   subst hA hL hN hp he'
   rfl
end
def T0 (s:Bool) (k:Nat) (w:ak) (i:Nat):Bool×ak:=
 match w with
 |(c,ti,now,st,subs,feed,gr,groups,nn,heap,sink,said,tasks,deeds)=>
  if(tasks.getD i al.aa).1=2 then Fm s k w i else pH s k w i
def qb (s:Bool) (k:Nat) (w:ak) (i:Nat):Bool×ak:=gL (T0 s k w i)
theorem FO {r:Bool×ak}:(if r.1=true then some (r.1,(r.2.1,IntKind.i64.wrap (r.2.2.1+1),r.2.2.2),())else some (r.1,r.2,()))=some ((gL r).1,(gL r).2,()):=by
 obtain⟨b,w⟩:=r
 cases b<;>rfl
section
variable {k:Nat} (hk:9223372036854775808≤k)
include hk
variable {c:bT} {ti now gr nn:Int} {st:List aG} {subs:List bp} {feed said:List af} {groups:List aD} {heap:List aJ} {sink:List bm} {tasks:List aN} {deeds:List aP}
set_option maxHeartbeats 8000000 in
theorem My {i j:Nat} {t:aN} (hs:ag az (c,ti,now,st,subs,feed,gr,groups,nn,heap,sink,said,tasks,deeds)≤1048576) (hi:i<tasks.length) (et:tasks.getD i al.aa=t)
 (ej:t.2.2.2.2.1=(j:Int)) (hj:j<st.length):
 pg k ((c,ti,now,st,subs,feed,gr,groups,nn,heap,sink,said,tasks,deeds),(i:Int),())=some ((c,ti,now,hZ st j (-1),subs,feed,gr,groups,nn,heap,sink,said,tasks.set i (VJ st t j),deeds),()):=by
 have hsum:=dA hk hs
 have ht0:=cY (e:=al) (d:=al.aa) hi
 rw[et]at ht0
 have hstl:=ar (e:=aj) (l:=st)
 have hta:=cP hk t
 have hsl:=ar (e:= .int .i64) (l:=t.2.2.2.2.2.1)
 have hgl:=ar (e:=ab) (l:=t.2.2.2.2.2.2.1)
 have hpj:=cY (e:=aj) (d:=aj.aa) hj
 have hai:=jw hk (st.getD j aj.aa)
 have hal:=ar (e:=ab) (l:=bE (st.getD j aj.aa))
 simp only[pg,alO,et,ej,cG,bP,alS,bc _ _ hi]
 rw[if_pos (au hi),if_pos (au hj),if_pos (decide_eq_true (by simp only[alR];omega)),if_pos (by simp),if_pos (au hj),qR hk (by omega),alN,
  if_pos (decide_eq_true (by dsimp only;omega)),if_pos (by simp),aU (by omega)]
 unfold VJ
 by_cases e:j+1=st.length
 ·rw[if_pos (decide_eq_true (by omega)),if_pos (au hj),if_pos e];rfl
 ·rw[if_neg (by simp;omega),if_pos (au hj),if_neg e];rfl
set_option maxHeartbeats 8000000 in
theorem Jk {i n:Nat} {t:aN} {d:aP} (hs:ag az (c,ti,now,st,subs,feed,gr,groups,nn,heap,sink,said,tasks,deeds)≤1048576) (hi:i<tasks.length) (et:tasks.getD i al.aa=t) (hp:t.1=3)
 (hse:t.2.2.2.2.2.1.length=st.length) (hn:n<deeds.length) (he:dZ t=(n:Int)) (ed:deeds.getD n aI.aa=d) (hpc:t.2.1=2):
 ny k ((c,ti,now,st,subs,feed,gr,groups,nn,heap,sink,said,tasks,deeds),(i:Int),())=
  some ((pH true k (c,ti,now,st,subs,feed,gr,groups,nn,heap,sink,said,tasks,deeds) i).2,()):=by
 have hsum:=dA hk hs
 have ht0:=cY (e:=al) (d:=al.aa) hi
 rw[et]at ht0
 have hta:=cP hk t
 have hstl:=ar (e:=aj) (l:=st)
 have hso:=Rg t.2.2.2.2.2.2.1
 have he':=he
 unfold dZ at he'
 unfold pH
 simp only[et,he,ed,hpc,alO]
 rw[if_neg (show¬(2:Int)=0 by decide),if_neg (show¬(2:Int)=1 by decide)]
 simp only[ny,alO,et,aL]
 rw[if_pos (au hi)]
 refine(cA (fun q:Nat=>((c,ti,now,st,subs,feed,gr,groups,nn,heap,sink,said,tasks,deeds),(i:Int),t,(q:Int),())) (fun q=>decide (t.2.2.2.2.2.1.getD q 0=(st.getD q aj.aa).2.1)) st.length
  (e:=some ((c,ti,now,st,subs,feed,gr,groups,nn,heap,sink,said,tasks.set i zT,deeds.set n (wE true true d now ti 8 (dw t.2.2.2.2.2.2.1))),())) (no:=some ((c,ti,now,st,subs,feed,gr,groups,nn,heap,sink,said,tasks.set i (Zx n),deeds),())) ?_ ?_ k 0 (by omega) (by omega)).trans ?_
 ·intro G q hq
  dsimp only
  rw[aF,decide_eq_true hq,if_pos rfl,if_pos (au hq),if_pos (au (by omega)),if_pos (au hi),alO,aU (by omega),dT]
  by_cases e:t.2.2.2.2.2.1.getD q 0=(st.getD q aj.aa).2.1
  ·rw[decide_eq_true e,decide_eq_true e.symm];rfl
  ·rw[decide_eq_false e,decide_eq_false (fun h=>e h.symm)]
   simp only[al1,if_true,alO]
   rw[he']
   rfl
 ·intro G
  simp only[aF,alZ,decide_false,alP,if_false]
  rw[R4 hk (by omega),alN,fB hk hi hn (by rw[et];exact he) (by dsimp only;omega),alN,ed]
  rfl
 ·unfold kf
  rw[hse]
  cases bj 0 st.length (fun q=>decide (t.2.2.2.2.2.1.getD q 0=(st.getD q aj.aa).2.1))<;>rfl
set_option maxHeartbeats 8000000 in
theorem xg {i n j:Nat} {t:aN} {d:aP} (hs:ag az (c,ti,now,st,subs,feed,gr,groups,nn,heap,sink,said,tasks,deeds)≤1048576) (hi:i<tasks.length) (et:tasks.getD i al.aa=t) (hp:t.1=2∨t.1=3)
 (hj:(t.1=2∨t.2.1≠2)→j<st.length) (ej:if t.1=2 then df k st t.2.2.2.1=(j:Int)else t.2.2.2.2.1=(j:Int)) (hse:t.1=3→t.2.1=2→t.2.2.2.2.2.1.length=st.length) (hn:n<deeds.length) (he:dZ t=(n:Int)) (ed:deeds.getD n aI.aa=d)
 (hpc:t.2.1=0∨t.2.1=1∨t.1=3∧t.2.1=2) (hl:qZ d= -1) (hA:t.2.2.1=eC) (hL:t.1=3→t.2.2.2.1=[]) (hN:t.2.2.2.2.2.2.2.1=0):
 fx k ((c,ti,now,st,subs,feed,gr,groups,nn,heap,sink,said,tasks,deeds),(i:Int),())=
  some ((qb false k (c,ti,now,st,subs,feed,gr,groups,nn,heap,sink,said,tasks,deeds) i).1,(qb false k (c,ti,now,st,subs,feed,gr,groups,nn,heap,sink,said,tasks,deeds) i).2,()):=by
 unfold qb T0
 simp only[fx,aL,alO,et]
 rw[if_pos (au hi)]
 rcases hp with hp|hp
 ·rw[hp,if_pos (by decide),if_pos rfl,N6 hk hs hi et hp (hj (.inl hp)) (by rw[if_pos hp]at ej;exact ej) hn he ed (by omega) hl,alN]
  exact FO
 ·rw[hp,if_neg (by decide),if_pos (by decide),if_neg (show¬(3:Int)=2 by decide),Jw hk hs hi et hp (by rw[if_neg (by omega)]at ej;exact ej) (fun h=>hj (.inr h)) (hse hp) hn he ed (by omega) hl hA (hL hp) hN,alN]
  exact FO
set_option maxHeartbeats 8000000 in
theorem yp {i n j:Nat} {t:aN} {d:aP} (hs:ag az (c,ti,now,st,subs,feed,gr,groups,nn,heap,sink,said,tasks,deeds)≤1048576) (hi:i<tasks.length) (et:tasks.getD i al.aa=t) (hp:t.1=2∨t.1=3)
 (hj:(t.1=2∨t.2.1≠2)→j<st.length) (ej:if t.1=2 then df k st t.2.2.2.1=(j:Int)else t.2.2.2.2.1=(j:Int)) (hse:t.1=3→t.2.1=2→t.2.2.2.2.2.1.length=st.length) (hn:n<deeds.length) (he:dZ t=(n:Int)) (ed:deeds.getD n aI.aa=d)
 (hpc:t.2.1=0∨t.2.1=1∨t.1=3∧t.2.1=2):
 kO k ((c,ti,now,st,subs,feed,gr,groups,nn,heap,sink,said,tasks,deeds),(i:Int),())=
  some ((qb true k (c,ti,now,st,subs,feed,gr,groups,nn,heap,sink,said,tasks,deeds) i).1,(qb true k (c,ti,now,st,subs,feed,gr,groups,nn,heap,sink,said,tasks,deeds) i).2,()):=by
 unfold qb T0
 simp only[kO,aL,alO,et]
 rw[if_pos (au hi)]
 rcases hp with hp|hp
 ·rw[hp,if_pos (by decide),if_pos rfl,Oj hk hs hi et hp (hj (.inl hp)) (by rw[if_pos hp]at ej;exact ej) hn he ed (by omega),alN]
  exact FO
 ·rw[hp,if_neg (by decide),if_neg (show¬(3:Int)=2 by decide),if_pos (au hi)]
  rw[if_neg (by omega)]at ej
  rcases hpc with h0|h0|⟨_,h0⟩
  ·rw[h0,if_pos (by decide),if_pos (au hi),ej,sT hk hi (hj (.inr (by omega)))]
   have h1:pH true k (c,ti,now,st,subs,feed,gr,groups,nn,heap,sink,said,tasks,deeds) i=oG (c,ti,now,st,subs,feed,gr,groups,nn,heap,sink,said,tasks,deeds) i j:=by
    unfold pH
    simp only[et,h0,ej,alO,if_true]
   rw[h1]
   unfold oG
   simp only[et]
   by_cases h:(st.getD j aj.aa).1= -1
   ·rw[if_pos h,if_pos h];rfl
   ·rw[if_neg h,if_neg h];rfl
  ·rw[h0,if_neg (by decide),if_pos (au hi),if_pos (by decide),My hk hs hi et ej (hj (.inr (by omega))),alN]
   have h1:pH true k (c,ti,now,st,subs,feed,gr,groups,nn,heap,sink,said,tasks,deeds) i=(true,(c,ti,now,hZ st j (-1),subs,feed,gr,groups,nn,heap,sink,said,tasks.set i (VJ st t j),deeds)):=by
    unfold pH
    simp only[et,h0,ej,alO,if_true]
    rw[if_neg (show¬(1:Int)=0 by decide)]
   rw[h1]
   rfl
  ·rw[h0,if_neg (by decide),if_pos (au hi),if_neg (by decide),Jk hk hs hi et hp (hse hp h0) hn he ed h0,alN]
   have h1:(pH true k (c,ti,now,st,subs,feed,gr,groups,nn,heap,sink,said,tasks,deeds) i).1=true:=by
    unfold pH
    simp only[et,h0]
    rw[if_neg (show¬(2:Int)=0 by decide),if_neg (show¬(2:Int)=1 by decide)]
    split<;>rfl
   unfold gL
   rw[h1]
   rfl
end
def Xb (i j:Int) (got:List af):aP:=(5,i,eC,[],j,0,8,got,0,0,0,0)
def Ld (s:Bool) (k:Nat) (w:ak) (i:Nat):Bool×ak:=
 match w with
 |(c,ti,now,st,subs,feed,gr,groups,nn,heap,sink,said,tasks,deeds)=>
  let t:=tasks.getD i al.aa
  let n:=(dZ t).toNat
  let j:=t.2.2.2.2.1.toNat
  let d:=deeds.getD n aI.aa
  let p:=st.getD j aj.aa
  if t.2.1=0 then oG w i j
  else(true,(c,ti,now,st.set j (-1,(xe p now).2),subs,feed,gr,groups,nn,heap,sink,said,
   tasks.set i (if j+1=st.length then zT else(t.1,0,t.2.2.1,t.2.2.2.1,((j+1:Nat):Int),t.2.2.2.2.2)),
   if j+1=st.length then(deeds++[Ov (Xb i j (im now p.2.2)) now ti ti ti]).set n (wE s false d now ti 8 [])else deeds++[Ov (Xb i j (im now p.2.2)) now ti ti ti]))
def qg (s:Bool) (k:Nat) (w:ak) (i:Nat):Bool×ak:=gL (Ld s k w i)
section
variable {k:Nat} (hk:9223372036854775808≤k)
include hk
variable {c:bT} {ti now gr nn:Int} {st:List aG} {subs:List bp} {feed said:List af} {groups:List aD} {heap:List aJ} {sink:List bm} {tasks:List aN} {deeds:List aP}
theorem aao {now:Int} (l:List aO):ag (.sl ab) (im now l)≤ag (.sl ax) l:=
 mh hk (e:=ax) (f:=ab) (g:=fun c=>ia now c.2) (fun x=>by
  have h1:=cE hk x
  have h2:=y0 hk (now:=now) (l:=x.2)
  omega) l
set_option maxHeartbeats 8000000 in
theorem Hh {i n j:Nat} {t:aN} {d:aP} (hs:ag az (c,ti,now,st,subs,feed,gr,groups,nn,heap,sink,said,tasks,deeds)≤1048576) (hi:i<tasks.length) (et:tasks.getD i al.aa=t) (hp:t.1=4)
 (ej:t.2.2.2.2.1=(j:Int)) (hj:j<st.length) (hn:n<deeds.length) (he:dZ t=(n:Int)) (ed:deeds.getD n aI.aa=d) (hpc:t.2.1=0∨t.2.1=1):
 gN k ((c,ti,now,st,subs,feed,gr,groups,nn,heap,sink,said,tasks,deeds),(i:Int),())=
  some ((qg false k (c,ti,now,st,subs,feed,gr,groups,nn,heap,sink,said,tasks,deeds) i).1,(qg false k (c,ti,now,st,subs,feed,gr,groups,nn,heap,sink,said,tasks,deeds) i).2,()):=by
 have hsum:=dA hk hs
 have ht0:=cY (e:=al) (d:=al.aa) hi
 rw[et]at ht0
 have hdl:=ar (e:=aI) (l:=deeds)
 have hstl:=ar (e:=aj) (l:=st)
 have ht:ag al t≤1048576:=by omega
 have hta:=cP hk t
 have hpj:=cY (e:=aj) (d:=aj.aa) hj
 have hgr:en t=false:=by unfold en;rw[hp];rfl
 unfold qg Ld
 simp only[et,he,ed,ej,alO]
 simp only[gN,alO,et,ej,cG,aL,bP,dT]
 rw[if_pos (au hi),hp,if_neg (by decide)]
 rcases hpc with h0|h0
 ·have hw:nY k (tasks.getD i al.aa) (st.length:Int)=(j:Int):=by
   rw[et];unfold nY
   rw[if_neg (by omega),if_neg (by simp[h0]),if_neg (by omega),if_neg (by omega),if_pos (by omega)]
   exact ej
  rw[h0,if_pos (by decide),Gv hk hi hj (by rw[et];exact ht) hw,if_pos rfl]
  unfold oG gL
  simp only[et,hp]
  split<;>simp[hZ,tick]
 ·rw[h0,if_neg (by decide),if_pos (au hj),MO hk (by omega),alN,if_pos (au hj),aaH hk (by omega),alN]
  dsimp only
  rw[RB (j:=j) hk hi (by rw[alQ];exact hj) (by rw[et];exact ej) (by rw[alQ];omega),alN]
  simp only[alS,bc _ _ hi,bc _ _ hj,alQ,et]
  rw[if_neg (show¬(1:Int)=0 by decide)]
  by_cases e:j+1=st.length
  ·rw[if_pos (decide_eq_true (by omega)),if_pos e,if_pos e]
   have hhold:cD k (t.1,0,t.2.2.1,t.2.2.2.1,((j+1:Nat):Int),t.2.2.2.2.2) (st.length:Int)= -1:=by
    unfold cD
    split
    ·rfl
    ·rw[if_neg (by dsimp only;omega),if_neg (by dsimp only;omega),if_neg (by dsimp only;omega)]
   have hgr2:en (t.1,0,t.2.2.1,t.2.2.2.1,((j+1:Nat):Int),t.2.2.2.2.2)=false:=by unfold en;dsimp only;rw[hp];rfl
   have ht2:ag al (t.1,0,t.2.2.1,t.2.2.2.1,((j+1:Nat):Int),t.2.2.2.2.2)≤1048576:=by rw[cP hk];dsimp only;omega
   rw[uN (n:=n) hk (by rw[alQ];exact hi) (by rw[alX,alR];omega) (by rw[bc _ _ hi];exact he) (by rw[bc _ _ hi];exact ht2)
    (by rw[bc _ _ hi,alQ,hhold];omega),alN,bc _ _ hi,alQ,hhold,hgr2,rh _ _ hn,ed,alS]
   rfl
  ·rw[if_neg (by simp;omega),if_neg e,if_neg e,hp]
   rfl
set_option maxHeartbeats 8000000 in
theorem MX {i n j:Nat} {t:aN} {d:aP} (hs:ag az (c,ti,now,st,subs,feed,gr,groups,nn,heap,sink,said,tasks,deeds)≤1048576) (hi:i<tasks.length) (et:tasks.getD i al.aa=t) (hp:t.1=4)
 (ej:t.2.2.2.2.1=(j:Int)) (hj:j<st.length) (hn:n<deeds.length) (he:dZ t=(n:Int)) (ed:deeds.getD n aI.aa=d) (hpc:t.2.1=0∨t.2.1=1):
 lg k ((c,ti,now,st,subs,feed,gr,groups,nn,heap,sink,said,tasks,deeds),(i:Int),())=
  some ((qg true k (c,ti,now,st,subs,feed,gr,groups,nn,heap,sink,said,tasks,deeds) i).1,(qg true k (c,ti,now,st,subs,feed,gr,groups,nn,heap,sink,said,tasks,deeds) i).2,()):=by
 have hsum:=dA hk hs
 have hdl:=ar (e:=aI) (l:=deeds)
 have hstl:=ar (e:=aj) (l:=st)
 have hpj:=cY (e:=aj) (d:=aj.aa) hj
 have hgl:=aao hk (now:=now) (st.getD j aj.aa).2.2
 have hpp:=cM hk (st.getD j aj.aa)
 unfold qg Ld
 simp only[et,he,ed,ej,alO]
 simp only[lg,alO,et,ej,cG,aL,bP,dT]
 rw[if_pos (au hi),if_pos (au hi)]
 rcases hpc with h0|h0
 ·rw[h0,if_pos (by decide),sT hk hi hj,if_pos rfl]
  unfold oG gL
  simp only[et,hp]
  split<;>simp[hZ,tick]
 ·rw[h0,if_neg (by decide),if_pos (au hj),Mo hk (by omega),alN,if_pos (au hj),gx hk (by dsimp only;omega),alN]
  dsimp only
  rw[VO hk (by omega),alN]
  simp only[alS,bc _ _ hi,bc _ _ hj,alQ,et]
  rw[if_neg (show¬(1:Int)=0 by decide),if_pos (au hi),if_pos (au hi),aU (by omega)]
  by_cases e:j+1=st.length
  ·rw[if_pos (decide_eq_true (by omega)),if_pos e,if_pos e]
   rw[fB (n:=n) hk (by rw[alQ];exact hi) (by rw[alX,alR];omega) (by rw[bc _ _ hi];exact he) (by simp[ag]),alN,rh _ _ hn,ed,alS]
   rfl
  ·rw[if_neg (by simp;omega),if_neg e,if_neg e]
   rfl
end
section
variable {k:Nat} (hk:9223372036854775808≤k)
include hk
end
def Gt (l:List af) (s:List ay):Option Nat:=gB l.length (fun i=>decide ((l.getD i ab.aa).1=s))
def vM (l:List af) (s:List ay):Nat:=(gB l.length (fun i=>bD s (l.getD i ab.aa).1)).getD l.length
def jW (l:List af) (a:af):List af:=
 match Gt l a.1 with
 |some i=>l.set i a
 |none=>l.take (vM l a.1)++[a]++l.drop (vM l a.1)
def jC (g:aD) (a:af):aD:=(g.1,g.2.1,g.2.2.1,g.2.2.2.1,jW g.2.2.2.2 a)
theorem Hz {α:Type} (l:List af) (s:List ay) (f:Nat→α):(match gB l.length (fun i=>bD s (l.getD i ab.aa).1)with|some i=>f i|none=>f l.length)=f (vM l s):=by
 unfold vM
 cases gB l.length (fun i=>bD s (l.getD i ab.aa).1)<;>rfl
section
variable {k:Nat} (hk:9223372036854775808≤k)
include hk
theorem N8 {l:List af} {i:Nat} (h:ag (.sl ab) l≤1073741824):cq k (l.take i,())=some (l.take i,()):=
 gx hk (by have:=cN (e:=ab) l i;omega)
theorem CV {l:List af} {i:Nat} (h:ag (.sl ab) l≤1073741824):cq k (l.drop i,())=some (l.drop i,()):=
 gx hk (by have:=cN (e:=ab) l i;omega)
theorem yf {l:List af} {i:Nat} (h:ag (.sl ab) l≤1073741824):bB k (l.take i,())=some (l.take i,()):=
 cR hk (by have:=cN (e:=ab) l i;omega)
theorem yz {l:List af} {i:Nat} (h:ag (.sl ab) l≤1073741824):bB k (l.drop i,())=some (l.drop i,()):=
 cR hk (by have:=cN (e:=ab) l i;omega)
theorem Qi {g:aD} {a:af} (hg:ag ah g≤1048576) (ha:ag ab a≤1048576):qj k (g,a,())=some (jC g a,()):=by
 have h1:=dB hk g
 have h2:=ar (e:=ab) (l:=g.2.2.2.2)
 have h3:=bG hk a
 have h4:=ar (e:=aq) (l:=a.1)
 simp only[qj,aL]
 rw[CR hk (by omega),alN,ew hk (by omega),alN]
 refine(fa (fun i:Nat=>(g,a,(0,([]:List ay),0,0,([]:List af)),g,a,(i:Int),())) (fun i=>decide ((g.2.2.2.2.getD i ab.aa).1=a.1)) g.2.2.2.2.length
  (e:=some ((g.1,g.2.1,g.2.2.1,g.2.2.2.1,g.2.2.2.2.take (vM g.2.2.2.2 a.1)++[a]++g.2.2.2.2.drop (vM g.2.2.2.2 a.1)),())) (fun i=>some ((g.1,g.2.1,g.2.2.1,g.2.2.2.1,g.2.2.2.2.set i a),())) (fun G i hi=> ?_) (fun G=> ?_) k (by omega)).trans ?_
 ·simp only[aF,au hi,hi,decide_true,if_true,alO]
  rw[aU (by omega),dN hk (fm hk (by omega) hi).2,alN]
 ·simp only[aF,alZ,decide_false,alP,if_false]
  refine(fa (fun i:Nat=>(g,a,(0,([]:List ay),0,0,([]:List af)),g,a,(i:Int),())) (fun i=>bD a.1 (g.2.2.2.2.getD i ab.aa).1) g.2.2.2.2.length
   (e:=some ((g.1,g.2.1,g.2.2.1,g.2.2.2.1,g.2.2.2.2.take g.2.2.2.2.length++[a]++g.2.2.2.2.drop g.2.2.2.2.length),())) (fun i=>some ((g.1,g.2.1,g.2.2.1,g.2.2.2.1,g.2.2.2.2.take i++[a]++g.2.2.2.2.drop i),())) (fun G i hi=> ?_) (fun G=> ?_) k (by omega)).trans ?_
  ·simp only[aF,au hi,hi,decide_true,if_true,alO,Bool.or_true]
   rw[if_pos (by simp),nN hk (by omega),alN]
   cases hq:bD a.1 (g.2.2.2.2.getD i ab.aa).1
   ·simp only[al1,if_true,alP,if_false]
    rw[aU (by omega)]
   ·simp only[al0,if_true,alP,if_false]
    rw[if_pos (by simp;omega),N8 hk (by omega),alN,if_pos (by simp;omega),if_pos (by simp;omega),CV hk (by omega),alN,if_pos (by simp;omega)]
  ·simp only[aF,alZ,decide_false,alP,if_false,alO]
   rw[if_pos (by simp)]
   simp only[beq_iff_eq,alP,if_false,alN]
   rw[if_pos (by simp),N8 hk (by omega),alN,if_pos (by simp;omega),if_pos (by simp),CV hk (by omega),alN,if_pos (by simp;omega)]
  ·exact Hz g.2.2.2.2 a.1 (fun i=>some ((g.1,g.2.1,g.2.2.1,g.2.2.2.1,g.2.2.2.2.take i++[a]++g.2.2.2.2.drop i),()))
 ·unfold jC jW Gt
  cases gB g.2.2.2.2.length (fun i=>decide ((g.2.2.2.2.getD i ab.aa).1=a.1))<;>rfl
theorem wO {l:List af} {s:List ay} (h:ag (.sl ab) l≤1048576):dO k (l,s,())=some (cT (Gt l s),()):=by
 have h2:=ar (e:=ab) (l:=l)
 simp only[dO]
 refine(fa (fun i:Nat=>(s,l,(l.length:Int),(i:Int),())) (fun i=>decide ((l.getD i ab.aa).1=s)) l.length (e:=some (-1,())) (fun i=>some ((i:Int),())) (fun G i hi=> ?_) (fun G=> ?_) k (by omega)).trans ?_
 ·simp only[aF,au hi,hi,decide_true,if_true,alO]
  rw[aU (by omega),eF hk (fm hk h hi).2,alN]
 ·simp
 ·unfold Gt
  cases gB l.length (fun i=>decide ((l.getD i ab.aa).1=s))<;>rfl
theorem IN {l:List af} {a:af} (h:ag (.sl ab) l≤1048576) (ha:ag ab a≤1048576):nM k (l,a,())=some (l.take (vM l a.1)++[a]++l.drop (vM l a.1),()):=by
 have h2:=ar (e:=ab) (l:=l)
 have h3:=bG hk a
 have h4:=ar (e:=aq) (l:=a.1)
 simp only[nM,aL]
 refine(fa (fun i:Nat=>(l,a,(i:Int),())) (fun i=>bD a.1 (l.getD i ab.aa).1) l.length
  (e:=some (l.take l.length++[a]++l.drop l.length,())) (fun i=>some (l.take i++[a]++l.drop i,())) (fun G i hi=> ?_) (fun G=> ?_) k (by omega)).trans ?_
 ·simp only[aF,au hi,hi,decide_true,if_true,alO,Bool.or_true]
  rw[if_pos (by simp),nv hk (by omega),alN]
  cases hq:bD a.1 (l.getD i ab.aa).1
  ·simp only[al1,if_true,alP,if_false]
   rw[aU (by omega)]
  ·simp only[al0,if_true,alP,if_false]
   rw[if_pos (by simp;omega),yf hk (by omega),alN,cB hk (by omega),alN,if_pos (by simp;omega),if_pos (by simp;omega),yz hk (by omega),alN,if_pos (by simp;omega)]
 ·simp only[aF,alZ,decide_false,alP,if_false,alO]
  rw[if_pos (by simp)]
  simp only[beq_iff_eq,alP,if_false,alN]
  rw[if_pos (by simp),yf hk (by omega),alN,cB hk (by omega),alN,if_pos (by simp;omega),if_pos (by simp),yz hk (by omega),alN,if_pos (by simp;omega)]
 ·exact Hz l a.1 (fun i=>some (l.take i++[a]++l.drop i,()))
theorem Qu {g:aD} {a:af} (hg:ag ah g≤1048576) (ha:ag ab a≤1048576):qq k (g,a,())=some (jC g a,()):=by
 have h1:=dB hk g
 simp only[qq]
 rw[wu hk (by omega),alN]
 unfold jC jW
 cases h:Gt g.2.2.2.2 a.1 with
 |none=>
  have e:dO k (g.2.2.2.2,a.1,())=some (-1,()):=by rw[wO hk (by omega),h];rfl
  rw[e,alN,if_neg (by decide),IN hk (by omega) ha,alN]
 |some i=>
  have hi:=(bH.1 h).1
  have e:dO k (g.2.2.2.2,a.1,())=some ((i:Int),()):=by rw[wO hk (by omega),h];rfl
  rw[e,alN,if_pos (by simp),cB hk (by omega),alN,if_pos (by simp;omega)]
  simp only[alO]
theorem ZN {l:List af} {a:af}:ag (.sl ab) (jW l a)≤ag (.sl ab) l+ag ab a+1:=by
 unfold jW
 cases h:Gt l a.1 with
 |none=>
  dsimp only
  rw[oN (e:=ab),oN (e:=ab),ez (e:=ab),rj]
  have:=cN (e:=ab) l (vM l a.1)
  omega
 |some i=>
  have hi:=(bH.1 h).1
  have:=tI (e:=ab) l i a hi
  dsimp only
  omega
theorem aap {g:aD} {a:af}:ag ah (jC g a)≤ag ah g+ag ab a+1:=by
 have h1:=dB hk g
 have h2:=dB hk (jC g a)
 have h3:=ZN hk (l:=g.2.2.2.2) (a:=a)
 unfold jC at h2⊢
 dsimp only at h2
 omega
theorem ZB (x:af) (l:List af):ag (.sl ab) (x::l)=1+ag ab x+ag (.sl ab) l:=ez (e:=ab) x l
theorem abU:ag (.sl ab) ([]:List af)=0:=rj (e:=ab)
end
def fH (l:List aD) (key:List ay):Option Nat:=gB l.length (fun i=>decide ((l.getD i ah.aa).2.1=key))
def fL (l:List aD) (a:af) (by_:List ByteArray) (n now:Int):List aD:=
 match fH l (keyOf a by_)with
 |some i=>l.set i (jC (l.getD i ah.aa) a)
 |none=>l++[(n,keyOf a by_,now,-1,[a])]
section
variable {k:Nat} (hk:9223372036854775808≤k)
include hk
theorem abR (l m:List aD):ag (.sl ah) (l++m)=ag (.sl ah) l+ag (.sl ah) m:=oN (e:=ah) l m
theorem ZD (x:aD) (l:List aD):ag (.sl ah) (x::l)=1+ag ah x+ag (.sl ah) l:=ez (e:=ah) x l
theorem aa1:ag (.sl ah) ([]:List aD)=0:=rj (e:=ah)
theorem jO {l:List aD} {key:List ay} (h:ag (.sl ah) l≤1048576):dF k (l,key,())=some (cT (fH l key),()):=by
 have h2:=ar (e:=ah) (l:=l)
 simp only[dF]
 refine(fa (fun i:Nat=>(key,l,(l.length:Int),(i:Int),())) (fun i=>decide ((l.getD i ah.aa).2.1=key)) l.length (e:=some (-1,())) (fun i=>some ((i:Int),())) (fun G i hi=> ?_) (fun G=> ?_) k (by omega)).trans ?_
 ·simp only[aF,au hi,hi,decide_true,if_true,alO]
  rw[aU (by omega),eF hk (oj hk h hi).2,alN]
 ·simp
 ·unfold fH
  cases gB l.length (fun i=>decide ((l.getD i ah.aa).2.1=key))<;>rfl
theorem jP {l:List aD} {key:List ay} (h:ag (.sl ah) l≤1048576):fC k (l,key,())=some (cT (fH l key),()):=by
 have h2:=ar (e:=ah) (l:=l)
 simp only[fC]
 refine(fa (fun i:Nat=>(l,key,(i:Int),())) (fun i=>decide ((l.getD i ah.aa).2.1=key)) l.length (e:=some (-1,())) (fun i=>some ((i:Int),())) (fun G i hi=> ?_) (fun G=> ?_) k (by omega)).trans ?_
 ·simp only[aF,au hi,hi,decide_true,if_true,alO]
  rw[aU (by omega),dN hk (oj hk h hi).2,alN]
 ·simp
 ·unfold fH
  cases gB l.length (fun i=>decide ((l.getD i ah.aa).2.1=key))<;>rfl
theorem yB {l:List aD} {a:af} {by_:List ByteArray} {n now:Int} (hl:ag (.sl ah) l≤1048576) (ha:ag ab a≤1048576) (hb:by_.length≤1048576):
 oy k (l,a,by_,n,now,())=some (fL l a by_ n now,(fH l (keyOf a by_)).isNone,()):=by
 have h2:=ar (e:=ah) (l:=l)
 simp only[oy]
 rw[u9 hk (by omega),alN,vf hk ha hb,alN]
 unfold fL
 cases h:fH l (keyOf a by_)with
 |none=>
  have e:dF k (l,keyOf a by_,())=some (-1,()):=by rw[jO hk hl,h];rfl
  rw[e,alN,if_neg (by decide),cB hk (by omega),alN,if_pos (by simp;omega)]
  rfl
 |some i=>
  have hi:=(bH.1 h).1
  have e:dF k (l,keyOf a by_,())=some ((i:Int),()):=by rw[jO hk hl,h];rfl
  rw[e,alN,if_pos (by simp),if_pos (au hi)]
  simp only[alO]
  rw[Qu hk (oj hk hl hi).1 ha,alN,if_pos (au hi)]
  rfl
theorem xI {l:List aD} {a:af} {by_:List ByteArray} {n now:Int} (hl:ag (.sl ah) l≤1048576) (ha:ag ab a≤1048576) (hb:by_.length≤1048576):
 pd k (l,a,by_,n,now,())=some (fL l a by_ n now,(fH l (keyOf a by_)).isNone,()):=by
 have h2:=ar (e:=ah) (l:=l)
 simp only[pd]
 rw[sq hk (by omega),alN,vj hk ha hb,alN]
 unfold fL
 cases h:fH l (keyOf a by_)with
 |none=>
  have e:fC k (l,keyOf a by_,())=some (-1,()):=by rw[jP hk hl,h];rfl
  rw[e,alN,if_neg (by decide),ew hk (by omega),alN,if_pos (by simp;omega)]
  rfl
 |some i=>
  have hi:=(bH.1 h).1
  have e:fC k (l,keyOf a by_,())=some ((i:Int),()):=by rw[jP hk hl,h];rfl
  rw[e,alN,if_pos (by simp),if_pos (au hi)]
  simp only[alO]
  rw[Qi hk (oj hk hl hi).1 ha,alN,if_pos (au hi)]
  rfl
theorem Zu (a:af) (by_:List ByteArray):ag (.sl aq) (keyOf a by_)≤ag ab a:=by
 have h11:ag (.sl aq) (keyOf a by_)≤ag (.sl aq) a.1:=vD (e:=aq) _ _
 have h12:=bG hk a
 omega
theorem EU {l:List aD} {a:af} {by_:List ByteArray} {n now:Int}:ag (.sl ah) (fL l a by_ n now)≤ag (.sl ah) l+2*ag ab a+2:=by
 unfold fL
 cases h:fH l (keyOf a by_)with
 |none=>
  dsimp only
  have h1:=Zu hk a by_
  rw[abR hk,ZD hk,aa1 hk,dB hk]
  dsimp only
  rw[ZB hk,abU hk]
  omega
 |some i=>
  have hi:=(bH.1 h).1
  have h1:=tI (e:=ah) l i (jC (l.getD i ah.aa) a) hi
  have h2:=aap hk (g:=l.getD i ah.aa) (a:=a)
  dsimp only
  omega
end
def PS (d:aP) (n:Int):aP:=(d.1,d.2.1,d.2.2.1,d.2.2.2.1,d.2.2.2.2.1,n,d.2.2.2.2.2.2)
def yn (w:ak) (i:Nat):Bool×ak:=
 match w with
 |(c,ti,now,st,subs,feed,gr,groups,nn,heap,sink,said,tasks,deeds)=>
  if gr= -1 then(true,(c,ti,now,st,subs,feed,(i:Int),groups,nn,heap,sink,said,tasks.set i ((tasks.getD i al.aa).1,1,(tasks.getD i al.aa).2.2),deeds))else(false,w)
def acp (a:af) (h:Int):aN:=(5,0,a,[],0,[],[],0,h)
def ZU (a:af) (now ti:Int):aP:=(7,3,a,[],0,0,0,[],now,ti,-1,-1)
def zH (c:bT) (a:af) (nn now:Int):aD:=(nn,keyOf a c.2.2.2.2.2,now,-1,[a])
def gb (s:Bool) (k:Nat) (w:ak):Bool×ak:=
 match w with
 |(c,ti,now,st,subs,feed,gr,groups,nn,heap,sink,said,tasks,deeds)=>
  let t:=tasks.getD 3 al.aa
  let n:=(dZ t).toNat
  let d:=deeds.getD n aI.aa
  if t.1=0 then
   (if feed.length=0 then(false,w)
    else(true,(c,ti,now,st,subs,feed.drop 1,gr,groups,nn,heap,sink,said,tasks.set 3 (acp (feed.getD 0 ab.aa) deeds.length),deeds++[ZU (feed.getD 0 ab.aa) now ti])))
  else if t.2.1=0 then yn w 3
  else match fH groups (keyOf t.2.2.1 c.2.2.2.2.2)with
   |none=>
    if 12≤groups.length then(true,(c,ti,now,st,subs,feed,-1,groups,nn,heap,sink,said,tasks.set 3 zT,deeds.set n (wE s false d now ti 3 [])))
    else(true,(c,ti,now,st,subs,feed,-1,groups++[zH c t.2.2.1 nn now],IntKind.i64.wrap (nn+1),Kg heap (yw c (zH c t.2.2.1 nn now),nn),sink,said,tasks.set 3 zT,deeds.set n (wE s false (PS d nn) now ti 1 [])))
   |some i=>(true,(c,ti,now,st,subs,feed,-1,groups.set i (jC (groups.getD i ah.aa) t.2.2.1),nn,heap,sink,said,tasks.set 3 zT,deeds.set n (wE s false (PS d (groups.getD i ah.aa).1) now ti 2 [])))
def tV (s:Bool) (k:Nat) (w:ak):Bool×ak:=gL (gb s k w)
theorem RM {l:List aD} {g:aD} {key:List ay} (h:fH l key=none) (hg:g.2.1=key):fH (l++[g]) key=some l.length:=by
 unfold fH at h⊢
 have h2:=y5.1 h
 refine bH.2 ⟨by simp,?_,fun j hj=> ?_⟩
 ·rw[alU,alY (al4 _)]
  simpa using hg
 ·rw[rh _ _ hj];exact h2 j hj
theorem Rw {l:List aD} {g:aD} {key:List ay} {i:Nat} (h:fH l key=some i) (hg:g.2.1=key):fH (l.set i g) key=some i:=by
 unfold fH at h⊢
 obtain⟨h1,h2,h3⟩:=bH.1 h
 refine bH.2 ⟨by simpa using h1,?_,fun j hj=> ?_⟩
 ·rw[bc _ _ h1];simpa using hg
 ·rw[alU,List.getElem?_set_ne (by omega),←alU];exact h3 j hj
theorem Z0 {l:List aD} {g:aD} {n:Int} (h:∀i,i<l.length→(l.getD i ah.aa).1≠n) (hg:g.1=n):jD (l++[g]) n=some l.length:=by
 unfold jD
 refine bH.2 ⟨by simp,?_,fun j hj=> ?_⟩
 ·rw[alU,alY (al4 _)]
  simpa using hg
 ·rw[rh _ _ hj];exact decide_eq_false (h j hj)
theorem I3 {α:Type} (l:List α) (x d:α):(l++[x]).getD l.length d=x:=by
 rw[alU,alY (al4 _)]
 simp
section
variable {c:bT} {ti now gr nn:Int} {st:List aG} {subs:List bp} {feed said:List af} {groups:List aD} {heap:List aJ} {sink:List bm} {tasks:List aN} {deeds:List aP} {i:Nat}
theorem yk (h:gr= -1):yn (c,ti,now,st,subs,feed,gr,groups,nn,heap,sink,said,tasks,deeds) i=(true,(c,ti,now,st,subs,feed,(i:Int),groups,nn,heap,sink,said,tasks.set i ((tasks.getD i al.aa).1,1,(tasks.getD i al.aa).2.2),deeds)):=if_pos h
theorem CE (h:¬gr= -1):yn (c,ti,now,st,subs,feed,gr,groups,nn,heap,sink,said,tasks,deeds) i=(false,(c,ti,now,st,subs,feed,gr,groups,nn,heap,sink,said,tasks,deeds)):=if_neg h
end
section
variable {k:Nat} (hk:9223372036854775808≤k)
include hk
variable {c:bT} {ti now gr nn:Int} {st:List aG} {subs:List bp} {feed said:List af} {groups:List aD} {heap:List aJ} {sink:List bm} {tasks:List aN} {deeds:List aP}
set_option maxHeartbeats 8000000 in
theorem VC (hs:ag az (c,ti,now,st,subs,feed,gr,groups,nn,heap,sink,said,tasks,deeds)≤1048576) (hi:3<tasks.length) (hp:(tasks.getD 3 al.aa).1=0):
 kE k ((c,ti,now,st,subs,feed,gr,groups,nn,heap,sink,said,tasks,deeds),())=
  some ((gb false k (c,ti,now,st,subs,feed,gr,groups,nn,heap,sink,said,tasks,deeds)).1,(gb false k (c,ti,now,st,subs,feed,gr,groups,nn,heap,sink,said,tasks,deeds)).2,()):=by
 have hsum:=dA hk hs
 have hdl:=ar (e:=aI) (l:=deeds)
 have hfl:=ar (e:=ab) (l:=feed)
 have hi':decide ((0:Int)≤3∧(3:Int)<(tasks.length:Int))=true:=decide_eq_true ⟨by omega,by omega⟩
 unfold gb
 simp only[hp,if_true]
 simp only[kE,bP]
 by_cases h0:feed.length=0
 ·rw[if_pos (decide_eq_true (by omega)),if_pos h0]
 ·have hA:=cY (e:=ab) (d:=ab.aa) (l:=feed) (i:=0) (by omega)
  have hcp:bh k (feed.getD 0 ab.aa,())=some (feed.getD 0 ab.aa,()):=cB hk (by omega)
  rw[if_neg (by simp;exact fun h=>h0 (by simp[h])),if_neg h0,if_pos (decide_eq_true (by omega)),if_pos (decide_eq_true (by omega)),if_pos (decide_eq_true (by simp only[al5,List.length_drop];omega))]
  simp only[show alV 0=0 from rfl,show alV 1=1 from rfl,show alV 3=3 from rfl,hcp,alN,List.nil_append]
  rw[Vw hk (by omega),alN,if_pos hi']
  rfl
set_option maxHeartbeats 8000000 in
theorem QD {n:Nat} {t:aN} {d:aP} (hs:ag az (c,ti,now,st,subs,feed,gr,groups,nn,heap,sink,said,tasks,deeds)≤1048576) (hi:3<tasks.length) (et:tasks.getD 3 al.aa=t) (hp:t.1=5) (hpc:t.2.1=1)
 (hn:n<deeds.length) (he:dZ t=(n:Int)) (ed:deeds.getD n aI.aa=d) (hdA:d.2.2.1=t.2.2.1):
 jB k ((c,ti,now,st,subs,feed,gr,groups,nn,heap,sink,said,tasks,deeds),())=
  some ((gb false k (c,ti,now,st,subs,feed,gr,groups,nn,heap,sink,said,tasks,deeds)).2,()):=by
 have hsum:=dA hk hs
 have ht0:=cY (e:=al) (d:=al.aa) hi
 rw[et]at ht0
 have hdl:=ar (e:=aI) (l:=deeds)
 have hgl:=ar (e:=ah) (l:=groups)
 have hhl:=ar (e:=aw) (l:=heap)
 have hd0:=cY (e:=aI) (d:=aI.aa) hn
 rw[ed]at hd0
 have hdd:=ou hk d
 rw[hdA]at hdd
 have ht:ag al t≤1048576:=by omega
 have hta:=cP hk t
 have htt:=EU hk (l:=groups) (a:=t.2.2.1) (by_:=c.2.2.2.2.2) (n:=nn) (now:=now)
 have hcf:=ku hk c
 have hby:=ar (e:= .str) (l:=c.2.2.2.2.2)
 have hi':decide ((0:Int)≤3∧(3:Int)<(tasks.length:Int))=true:=decide_eq_true ⟨by omega,by omega⟩
 have hgr:en t=true:=by unfold en;rw[hp,hpc];rfl
 have hhold:cD k t (st.length:Int)= -1:=by
  unfold cD
  split
  ·rfl
  ·rw[if_neg (by omega),if_neg (by omega),if_neg (by omega)]
 have hrel:sw st (-1)=st:=by unfold sw;rw[if_neg (by omega)]
 have he':=he
 unfold dZ at he'
 unfold gb
 simp only[et,he,ed,hp,hpc,alO]
 rw[if_neg (show¬(5:Int)=0 by decide),if_neg (show¬(1:Int)=0 by decide)]
 simp only[jB,show alV 3=3 from rfl,et,he',cG]
 have hend:∀(groups:List aD) (nn:Int) (heap:List aJ) (deeds:List aP) (d':aP) (code:Int),n<deeds.length→deeds.getD n aI.aa=d'→bR k ((c,ti,now,st,subs,feed,gr,groups,nn,heap,sink,said,tasks,deeds),(3:Int),code,())=
  some ((c,ti,now,st,subs,feed,-1,groups,nn,heap,sink,said,tasks.set 3 zT,deeds.set n (yR d' now ti code)),()):=by
  intro groups nn heap deeds d' code hn ed
  have:=uN (n:=n) (i:=3) (code:=code) (c:=c) (ti:=ti) (now:=now) (gr:=gr) (nn:=nn) (st:=st) (subs:=subs) (feed:=feed) (said:=said) (groups:=groups) (heap:=heap) (sink:=sink) hk hi hn (by rw[et];exact he) (by rw[et];exact ht) (by rw[et,hhold];omega)
  rw[et,hhold,hrel,hgr,if_pos rfl,ed]at this
  exact this
 rw[if_pos hi',vf hk (by omega) (by omega),alN,jO hk (by omega),alN]
 dsimp only
 cases hx:fH groups (keyOf t.2.2.1 c.2.2.2.2.2)with
 |none=>
  by_cases h12:12≤groups.length
  ·rw[if_pos (by simp[cT];omega),hend groups nn heap deeds d 3 hn ed,alN]
   dsimp only
   rw[if_pos h12]
   rfl
  ·have hj:fL groups t.2.2.1 c.2.2.2.2.2 nn now=groups++[zH c t.2.2.1 nn now]:=by unfold fL;rw[hx];rfl
   have hk2:fH (groups++[zH c t.2.2.1 nn now]) (keyOf t.2.2.1 c.2.2.2.2.2)=some groups.length:=RM hx rfl
   rw[hj]at htt
   rw[if_neg (by simp[cT];omega),yB hk (by omega) (by omega) (by omega),alN,hj,hx]
   dsimp only
   have hgi:groups.length<(groups++[zH c t.2.2.1 nn now]).length:=by simp
   rw[jO hk (by omega),alN]
   simp only[hk2,cT]
   rw[if_pos (au hgi),if_pos (au hn)]
   simp only[alO,I3,al2,al0,alP,if_false]
   rw[zo hk,alN,y9 hk (by omega),alN]
   dsimp only
   rw[hend _ _ _ _ (PS d nn) 1 (by rw[alQ];exact hn) (by rw[bc _ _ hn,ed];rfl),alN,if_neg h12,alS]
   rfl
 |some i=>
  have hj:fL groups t.2.2.1 c.2.2.2.2.2 nn now=groups.set i (jC (groups.getD i ah.aa) t.2.2.1):=by unfold fL;rw[hx]
  have hib:i<groups.length:=(bH.1 hx).1
  rw[hj]at htt
  have hk2:fH (groups.set i (jC (groups.getD i ah.aa) t.2.2.1)) (keyOf t.2.2.1 c.2.2.2.2.2)=some i:=Rw hx (by have:=(bH.1 hx).2.1;simpa[jC]using this)
  have hc:(if decide (cT (some i)<0)=true then decide (((groups.length:Nat):Int)≥12)else false)=false:=if_neg (by show¬(decide ((i:Int)<0)=true);rw[decide_eq_true_eq];omega)
  rw[hc,if_neg alT,yB hk (by omega) (by omega) (by omega),alN,hj,hx]
  dsimp only
  have hgi:i<(groups.set i (jC (groups.getD i ah.aa) t.2.2.1)).length:=by simpa using hib
  rw[jO hk (by omega),alN]
  simp only[hk2,cT]
  rw[if_pos (au hgi),if_pos (au hn)]
  simp only[alO,bc _ _ hib,al3,al1,if_true]
  rw[hend _ _ _ _ (PS d (groups.getD i ah.aa).1) 2 (by rw[alQ];exact hn) (by rw[bc _ _ hn,ed];rfl),alN,alS]
  rfl
set_option maxHeartbeats 8000000 in
theorem IA {n:Nat} {t:aN} {d:aP} (hs:ag az (c,ti,now,st,subs,feed,gr,groups,nn,heap,sink,said,tasks,deeds)≤1048576) (hi:3<tasks.length) (et:tasks.getD 3 al.aa=t) (hp:t.1=0∨t.1=5∧(t.2.1=0∨t.2.1=1))
 (hn:t.1=5→n<deeds.length) (he:dZ t=(n:Int)) (ed:deeds.getD n aI.aa=d) (hdA:t.1=5→d.2.2.1=t.2.2.1):
 ir k ((c,ti,now,st,subs,feed,gr,groups,nn,heap,sink,said,tasks,deeds),())=
  some ((tV false k (c,ti,now,st,subs,feed,gr,groups,nn,heap,sink,said,tasks,deeds)).1,(tV false k (c,ti,now,st,subs,feed,gr,groups,nn,heap,sink,said,tasks,deeds)).2,()):=by
 have hi':decide ((0:Int)≤3∧(3:Int)<(tasks.length:Int))=true:=decide_eq_true ⟨by omega,by omega⟩
 simp only[ir,aL,show alV 3=3 from rfl,et]
 rw[if_pos hi']
 unfold tV
 rcases hp with hp|⟨hp,hpc⟩
 ·rw[hp,if_pos (by decide),VC hk hs hi (by rw[et];exact hp),alN]
  unfold gL
  cases h:(gb false k (c,ti,now,st,subs,feed,gr,groups,nn,heap,sink,said,tasks,deeds)).1 with
  |true=>rfl
  |false=>
   show some (false,_,())=_
   rw[if_neg alT,h]
 ·rw[hp,if_neg (by decide)]
  rcases hpc with h0|h0
  ·have h1:gb false k (c,ti,now,st,subs,feed,gr,groups,nn,heap,sink,said,tasks,deeds)=yn (c,ti,now,st,subs,feed,gr,groups,nn,heap,sink,said,tasks,deeds) 3:=by
    unfold gb
    simp only[et,hp,h0,if_true]
    rw[if_neg (show¬(5:Int)=0 by decide)]
   have h2:=Eo (i:=3) (c:=c) (ti:=ti) (now:=now) (gr:=gr) (nn:=nn) (st:=st) (subs:=subs) (feed:=feed) (said:=said) (groups:=groups) (heap:=heap) (sink:=sink) (deeds:=deeds) hk hi
   rw[h0,if_pos (by decide),h1]
   erw[h2]
   by_cases h:gr= -1
   ·rw[if_pos h,yk h];rfl
   ·rw[if_neg h,CE h];rfl
  ·rw[h0,if_neg (by decide),QD hk hs hi et hp h0 (hn hp) he ed (hdA hp),alN]
   have h1:(gb false k (c,ti,now,st,subs,feed,gr,groups,nn,heap,sink,said,tasks,deeds)).1=true:=by
    unfold gb
    simp only[et,hp,h0]
    rw[if_neg (show¬(5:Int)=0 by decide),if_neg (show¬(1:Int)=0 by decide)]
    split
    ·split<;>rfl
    ·rfl
   unfold gL
   rw[h1]
   rfl
theorem Ae {n:Int} {i:Nat} (hg:groups.length≤1048579) (hh:heap.length≤1048576) (hx:jD groups n=some i):
 mK k ((c,ti,now,st,subs,feed,gr,groups,nn,heap,sink,said,tasks,deeds),n,())=
  some ((c,ti,now,st,subs,feed,gr,groups,nn,Kg heap (yw c (groups.getD i ah.aa),n),sink,said,tasks,deeds),()):=by
 have hi:=(bH.1 hx).1
 simp only[mK]
 rw[rW hk (by omega),alN]
 simp only[hx,cT]
 rw[if_pos (au hi),HK hk,alN,LP hk hh,alN,alO]
set_option maxHeartbeats 8000000 in
theorem Nr {n:Nat} {t:aN} {d:aP} (hs:ag az (c,ti,now,st,subs,feed,gr,groups,nn,heap,sink,said,tasks,deeds)≤1048576) (hi:3<tasks.length) (et:tasks.getD 3 al.aa=t) (hp:t.1=5) (hpc:t.2.1=1)
 (hn:n<deeds.length) (he:dZ t=(n:Int)) (ed:deeds.getD n aI.aa=d) (hdA:d.2.2.1=t.2.2.1) (hnn:∀i,i<groups.length→(groups.getD i ah.aa).1≠nn):
 oP k ((c,ti,now,st,subs,feed,gr,groups,nn,heap,sink,said,tasks,deeds),())=
  some ((gb true k (c,ti,now,st,subs,feed,gr,groups,nn,heap,sink,said,tasks,deeds)).2,()):=by
 have hsum:=dA hk hs
 have ht0:=cY (e:=al) (d:=al.aa) hi
 rw[et]at ht0
 have hdl:=ar (e:=aI) (l:=deeds)
 have hgl:=ar (e:=ah) (l:=groups)
 have hhl:=ar (e:=aw) (l:=heap)
 have hd0:=cY (e:=aI) (d:=aI.aa) hn
 rw[ed]at hd0
 have hdd:=ou hk d
 rw[hdA]at hdd
 have hta:=cP hk t
 have htt:=EU hk (l:=groups) (a:=t.2.2.1) (by_:=c.2.2.2.2.2) (n:=nn) (now:=now)
 have hcf:=ku hk c
 have hby:=ar (e:= .str) (l:=c.2.2.2.2.2)
 have hi':decide ((0:Int)≤3∧(3:Int)<(tasks.length:Int))=true:=decide_eq_true ⟨by omega,by omega⟩
 have hend:∀(groups:List aD) (nn:Int) (heap:List aJ) (deeds:List aP) (d':aP) (code:Int),n<deeds.length→deeds.getD n aI.aa=d'→cr k ((c,ti,now,st,subs,feed,-1,groups,nn,heap,sink,said,tasks,deeds),(3:Int),code,[],())=
  some ((c,ti,now,st,subs,feed,-1,groups,nn,heap,sink,said,tasks.set 3 zT,deeds.set n (xY d' now ti code [])),()):=by
  intro groups nn heap deeds d' code hn ed
  have:=fB (n:=n) (i:=3) (code:=code) (got:=[]) (c:=c) (ti:=ti) (now:=now) (gr:= -1) (nn:=nn) (st:=st) (subs:=subs) (feed:=feed) (said:=said) (groups:=groups) (heap:=heap) (sink:=sink) hk hi hn (by rw[et];exact he) (by simp[ag])
  rw[ed]at this
  exact this
 have he':=he
 unfold dZ at he'
 unfold gb
 simp only[et,he,ed,hp,hpc,alO]
 rw[if_neg (show¬(5:Int)=0 by decide),if_neg (show¬(1:Int)=0 by decide)]
 simp only[oP,show alV 3=3 from rfl,et,he',cG]
 have hkey:gQ k (t.2.2.1,c.2.2.2.2.2,())=some (keyOf t.2.2.1 c.2.2.2.2.2,()):=vj hk (by omega) (by omega)
 simp only[hkey,alN]
 rw[if_pos hi',jP hk (by omega),alN]
 dsimp only
 cases hx:fH groups (keyOf t.2.2.1 c.2.2.2.2.2)with
 |none=>
  by_cases h12:12≤groups.length
  ·rw[if_pos (by simp[cT];omega),hend groups nn heap deeds d 3 hn ed,alN]
   dsimp only
   rw[if_pos h12]
   rfl
  ·have hj:fL groups t.2.2.1 c.2.2.2.2.2 nn now=groups++[zH c t.2.2.1 nn now]:=by unfold fL;rw[hx];rfl
   have hk2:fH (groups++[zH c t.2.2.1 nn now]) (keyOf t.2.2.1 c.2.2.2.2.2)=some groups.length:=RM hx rfl
   have hga:jD (groups++[zH c t.2.2.1 nn now]) nn=some groups.length:=Z0 hnn rfl
   rw[hj]at htt
   rw[if_neg (by simp[cT];omega),xI hk (by omega) (by omega) (by omega),alN,hj,hx]
   dsimp only
   have hgi:groups.length<(groups++[zH c t.2.2.1 nn now]).length:=by simp
   rw[jP hk (by omega),alN]
   simp only[hk2,cT]
   rw[if_pos (au hgi),if_pos (au hn)]
   simp only[alO,I3,al2,if_true]
   rw[show(zH c t.2.2.1 nn now).1=nn from rfl,Ae hk (by rw[alX,alR];omega) (by omega) hga,alN]
   dsimp only
   rw[hend _ _ _ _ (PS d nn) 1 (by rw[alQ];exact hn) (by rw[bc _ _ hn,ed];rfl),alN,if_neg h12,alS,I3]
   rfl
 |some i=>
  have hj:fL groups t.2.2.1 c.2.2.2.2.2 nn now=groups.set i (jC (groups.getD i ah.aa) t.2.2.1):=by unfold fL;rw[hx]
  have hib:i<groups.length:=(bH.1 hx).1
  rw[hj]at htt
  have hk2:fH (groups.set i (jC (groups.getD i ah.aa) t.2.2.1)) (keyOf t.2.2.1 c.2.2.2.2.2)=some i:=Rw hx (by have:=(bH.1 hx).2.1;simpa[jC]using this)
  have hc:(if decide (cT (some i)<0)=true then decide (((groups.length:Nat):Int)≥12)else false)=false:=if_neg (by show¬(decide ((i:Int)<0)=true);rw[decide_eq_true_eq];omega)
  rw[hc,if_neg alT,xI hk (by omega) (by omega) (by omega),alN,hj,hx]
  dsimp only
  have hgi:i<(groups.set i (jC (groups.getD i ah.aa) t.2.2.1)).length:=by simpa using hib
  rw[jP hk (by omega),alN]
  simp only[hk2,cT]
  rw[if_pos (au hgi),if_pos (au hn)]
  simp only[alO,bc _ _ hib,al3,alP,if_false]
  rw[hend _ _ _ _ (PS d (groups.getD i ah.aa).1) 2 (by rw[alQ];exact hn) (by rw[bc _ _ hn,ed];rfl),alN,alS]
  rfl
theorem ZG (op n h:Int) (a:af):ag al (op,0,a,[],0,[],[],n,h)=ag ab a:=by rw[cP hk];simp[ag]
set_option maxHeartbeats 8000000 in
theorem tc {n:Nat} {t:aN} {d:aP} (hs:ag az (c,ti,now,st,subs,feed,gr,groups,nn,heap,sink,said,tasks,deeds)≤1048576) (hi:3<tasks.length) (et:tasks.getD 3 al.aa=t) (hp:t.1=0∨t.1=5∧(t.2.1=0∨t.2.1=1))
 (hn:t.1=5→n<deeds.length) (he:dZ t=(n:Int)) (ed:deeds.getD n aI.aa=d) (hdA:t.1=5→d.2.2.1=t.2.2.1) (hnn:∀i,i<groups.length→(groups.getD i ah.aa).1≠nn):
 ko k ((c,ti,now,st,subs,feed,gr,groups,nn,heap,sink,said,tasks,deeds),())=
  some ((tV true k (c,ti,now,st,subs,feed,gr,groups,nn,heap,sink,said,tasks,deeds)).1,(tV true k (c,ti,now,st,subs,feed,gr,groups,nn,heap,sink,said,tasks,deeds)).2,()):=by
 have hsum:=dA hk hs
 have hdl:=ar (e:=aI) (l:=deeds)
 have hfl:=ar (e:=ab) (l:=feed)
 have hi':decide ((0:Int)≤3∧(3:Int)<(tasks.length:Int))=true:=decide_eq_true ⟨by omega,by omega⟩
 simp only[ko,aL,show alV 3=3 from rfl,et]
 rw[if_pos hi']
 unfold tV
 rcases hp with hp|⟨hp,hpc⟩
 ·rw[hp,if_pos (by decide)]
  by_cases h0:feed.length=0
  ·have h1:gb true k (c,ti,now,st,subs,feed,gr,groups,nn,heap,sink,said,tasks,deeds)=(false,(c,ti,now,st,subs,feed,gr,groups,nn,heap,sink,said,tasks,deeds)):=by
    unfold gb
    simp only[et,hp,h0,if_true]
   have h2:decide (((feed.length:Nat):Int)>0)=false:=decide_eq_false (by omega)
   rw[h1]
   simp only[h2,alP,if_false]
   rfl
  ·have hA:=cY (e:=ab) (d:=ab.aa) (l:=feed) (i:=0) (by omega)
   have hAt:=bG hk (feed.getD 0 ab.aa)
   have hAl:=ar (e:=aq) (l:=(feed.getD 0 ab.aa).1)
   have h1:gb true k (c,ti,now,st,subs,feed,gr,groups,nn,heap,sink,said,tasks,deeds)=(true,(c,ti,now,st,subs,feed.drop 1,gr,groups,nn,heap,sink,said,tasks.set 3 (acp (feed.getD 0 ab.aa) deeds.length),deeds++[ZU (feed.getD 0 ab.aa) now ti])):=by
    unfold gb
    simp only[et,hp,h0,if_true,if_false]
   have h2:decide (((feed.length:Nat):Int)>0)=true:=decide_eq_true (by omega)
   have h3:cq k (feed.drop 1,())=some (feed.drop 1,()):=CV hk (by omega)
   have hop:eM k ((5:Int),())=some (7,()):=rfl
   rw[h1]
   simp only[h2,if_true,show alV 0=0 from rfl,show alV 1=1 from rfl]
   rw[if_pos (decide_eq_true (by omega)),if_pos (decide_eq_true (by omega)),h3,alN]
   have hb:=wF (i:=3) (t:=(5,0,feed.getD 0 ab.aa,[],0,[],[],0,0)) (o:=7) (c:=c) (ti:=ti) (now:=now) (gr:=gr) (nn:=nn) (st:=st) (subs:=subs) (feed:=feed.drop 1) (said:=said) (groups:=groups) (heap:=heap) (sink:=sink) (tasks:=tasks) (deeds:=deeds)
    hk hi (by omega) (by rw[ZG hk];omega) hop (by dsimp only;omega) (by simp)
   erw[hb]
   rfl
 ·rw[hp,if_neg (by decide),if_pos hi']
  rcases hpc with h0|h0
  ·have h1:gb true k (c,ti,now,st,subs,feed,gr,groups,nn,heap,sink,said,tasks,deeds)=yn (c,ti,now,st,subs,feed,gr,groups,nn,heap,sink,said,tasks,deeds) 3:=by
    unfold gb
    simp only[et,hp,h0,if_true]
    rw[if_neg (show¬(5:Int)=0 by decide)]
   have h2:=xP (i:=3) (c:=c) (ti:=ti) (now:=now) (gr:=gr) (nn:=nn) (st:=st) (subs:=subs) (feed:=feed) (said:=said) (groups:=groups) (heap:=heap) (sink:=sink) (deeds:=deeds) hk hi
   rw[h0,if_pos (by decide),h1]
   erw[h2]
   by_cases h:gr= -1
   ·rw[if_pos h,yk h];rfl
   ·rw[if_neg h,CE h];rfl
  ·rw[h0,if_neg (by decide),Nr hk hs hi et hp h0 (hn hp) he ed (hdA hp) hnn,alN]
   have h1:(gb true k (c,ti,now,st,subs,feed,gr,groups,nn,heap,sink,said,tasks,deeds)).1=true:=by
    unfold gb
    simp only[et,hp,h0]
    rw[if_neg (show¬(5:Int)=0 by decide),if_neg (show¬(1:Int)=0 by decide)]
    split
    ·split<;>rfl
    ·rfl
   unfold gL
   rw[h1]
   rfl
end
def Gw (heap:List aJ) (now:Int):Bool:=decide (0<heap.length)&&decide ((heap.getD 0 aw.aa).1≤now)
def aaR (n h:Int):aN:=(6,0,eC,[],0,[],[],n,h)
def XA (n now ti:Int):aP:=(8,4,eC,[],0,n,0,[],now,ti,-1,-1)
def Vi (c:bT) (heap:List aJ) (groups:List aD) (n:Int):List aJ:=
 match jD groups n with
 |some i=>Kg heap (yw c (groups.getD i ah.aa),n)
 |none=>heap
def eW (s:Bool) (k:Nat) (w:ak):Bool×ak:=
 match w with
 |(c,ti,now,st,subs,feed,gr,groups,nn,heap,sink,said,tasks,deeds)=>
  let t:=tasks.getD 4 al.aa
  let n:=(dZ t).toNat
  let d:=deeds.getD n aI.aa
  if t.1=0 then
   (if Gw heap now=true then(true,(c,ti,now,st,subs,feed,gr,groups,nn,(kK heap).1,sink,said,tasks.set 4 (aaR (kK heap).2.1.2 deeds.length),deeds++[XA (kK heap).2.1.2 now ti]))else(false,w))
  else if t.2.1=0 then yn w 4
  else if tG groups t.2.2.2.2.2.2.2.1=true then
   (true,(c,ti,now,st,subs,feed,-1,mw groups t.2.2.2.2.2.2.2.1 now,nn,Vi c heap (mw groups t.2.2.2.2.2.2.2.1 now) t.2.2.2.2.2.2.2.1,sink++[iW groups t.2.2.2.2.2.2.2.1 now],said,tasks.set 4 zT,
    deeds.set n (wE s true d now ti 8 (iW groups t.2.2.2.2.2.2.2.1 now).2.2.2)))
  else(true,(c,ti,now,st,subs,feed,-1,groups,nn,heap,sink,said,tasks.set 4 zT,deeds.set n (wE s false d now ti 6 [])))
def pV (s:Bool) (k:Nat) (w:ak):Bool×ak:=gL (eW s k w)
section
variable {k:Nat} (hk:9223372036854775808≤k)
include hk
variable {c:bT} {ti now gr nn:Int} {st:List aG} {subs:List bp} {feed said:List af} {groups:List aD} {heap:List aJ} {sink:List bm} {tasks:List aN} {deeds:List aP}
theorem E4 {w:ak}:ua k (w,())=some (Gw w.2.2.2.2.2.2.2.2.2.1 w.2.2.1,()):=by
 simp only[ua,Gw]
 by_cases h:0<w.2.2.2.2.2.2.2.2.2.1.length
 ·have h1:decide (((w.2.2.2.2.2.2.2.2.2.1.length:Nat):Int)>0)=true:=decide_eq_true (by omega)
  have h2:decide ((0:Int)≤0∧(0:Int)<((w.2.2.2.2.2.2.2.2.2.1.length:Nat):Int))=true:=decide_eq_true ⟨by omega,by omega⟩
  simp[h1,h2,h]
 ·have h1:decide (((w.2.2.2.2.2.2.2.2.2.1.length:Nat):Int)>0)=false:=decide_eq_false (by omega)
  simp[h1,h]
theorem VM {w:ak}:zq k (w,())=some (Gw w.2.2.2.2.2.2.2.2.2.1 w.2.2.1,()):=E4 hk
set_option maxHeartbeats 8000000 in
theorem SP (hs:ag az (c,ti,now,st,subs,feed,gr,groups,nn,heap,sink,said,tasks,deeds)≤1048576) (hi:4<tasks.length) (hp:(tasks.getD 4 al.aa).1=0):
 jS k ((c,ti,now,st,subs,feed,gr,groups,nn,heap,sink,said,tasks,deeds),())=
  some ((eW false k (c,ti,now,st,subs,feed,gr,groups,nn,heap,sink,said,tasks,deeds)).1,(eW false k (c,ti,now,st,subs,feed,gr,groups,nn,heap,sink,said,tasks,deeds)).2,()):=by
 have hsum:=dA hk hs
 have hdl:=ar (e:=aI) (l:=deeds)
 have hhl:=ar (e:=aw) (l:=heap)
 have hi':decide ((0:Int)≤4∧(4:Int)<(tasks.length:Int))=true:=decide_eq_true ⟨by omega,by omega⟩
 unfold eW
 simp only[hp,if_true]
 simp only[jS,E4 hk,alN]
 cases hr:Gw heap now with
 |false=>rfl
 |true=>
  simp only[al0,alP,if_false,if_true]
  rw[Jv hk (by omega),alN]
  dsimp only
  rw[Vw hk (by omega),alN]
  dsimp only
  rw[if_pos hi']
  rfl
theorem U7 {t:aN} (hp:t.1=5∨t.1=6) {n:Int}:cD k t n= -1:=by
 unfold cD
 split
 ·rfl
 ·rw[if_neg (by omega),if_neg (by omega),if_neg (by omega)]
set_option maxHeartbeats 8000000 in
theorem N0 {n:Nat} {t:aN} {d:aP} (hs:ag az (c,ti,now,st,subs,feed,gr,groups,nn,heap,sink,said,tasks,deeds)≤1048576) (hi:4<tasks.length) (et:tasks.getD 4 al.aa=t) (hp:t.1=6) (hpc:t.2.1=1)
 (hn:n<deeds.length) (he:dZ t=(n:Int)) (ed:deeds.getD n aI.aa=d) (hl:qZ d= -1):
 iL k ((c,ti,now,st,subs,feed,gr,groups,nn,heap,sink,said,tasks,deeds),())=
  some ((eW false k (c,ti,now,st,subs,feed,gr,groups,nn,heap,sink,said,tasks,deeds)).2,()):=by
 have hsum:=dA hk hs
 have ht0:=cY (e:=al) (d:=al.aa) hi
 rw[et]at ht0
 have hdl:=ar (e:=aI) (l:=deeds)
 have hgl:=ar (e:=ah) (l:=groups)
 have hhl:=ar (e:=aw) (l:=heap)
 have hsl:=ar (e:=aX) (l:=sink)
 have ht:ag al t≤1048576:=by omega
 have hi':decide ((0:Int)≤4∧(4:Int)<(tasks.length:Int))=true:=decide_eq_true ⟨by omega,by omega⟩
 have hgr:en t=true:=by unfold en;rw[hp,hpc];rfl
 have hhold:=U7 hk (t:=t) (.inr hp) (n:=(st.length:Int))
 have hrel:sw st (-1)=st:=by unfold sw;rw[if_neg (by omega)]
 have he':=he
 unfold dZ at he'
 unfold eW
 simp only[et,he,ed,hp,hpc,alO]
 rw[if_neg (show¬(6:Int)=0 by decide),if_neg (show¬(1:Int)=0 by decide)]
 simp only[iL,show alV 4=4 from rfl,et,he',cG]
 have hend:∀(groups:List aD) (heap:List aJ) (sink:List bm) (deeds:List aP) (d':aP) (code:Int),n<deeds.length→deeds.getD n aI.aa=d'→bR k ((c,ti,now,st,subs,feed,gr,groups,nn,heap,sink,said,tasks,deeds),(4:Int),code,())=
  some ((c,ti,now,st,subs,feed,-1,groups,nn,heap,sink,said,tasks.set 4 zT,deeds.set n (yR d' now ti code)),()):=by
  intro groups heap sink deeds d' code hn ed
  have:=uN (n:=n) (i:=4) (code:=code) (c:=c) (ti:=ti) (now:=now) (gr:=gr) (nn:=nn) (st:=st) (subs:=subs) (feed:=feed) (said:=said) (groups:=groups) (heap:=heap) (sink:=sink) hk hi hn (by rw[et];exact he) (by rw[et];exact ht) (by rw[et,hhold];omega)
  rw[et,hhold,hrel,hgr,if_pos rfl,ed]at this
  exact this
 generalize hN:t.2.2.2.2.2.2.2.1=N
 have hfl:=MG hk (l:=groups) (n:=N) (now:=now)
 have hfb:=Hu hk (l:=groups) (n:=N) (now:=now)
 have hfbt:=lP hk (iW groups N now)
 have hfll:=ar (e:=ah) (l:=mw groups N now)
 rw[if_pos hi',Ms hk (by omega),alN]
 dsimp only
 cases hb:tG groups N with
 |false=>
  rw[if_pos (by rfl),hend groups heap sink deeds d 6 hn ed,alN,if_neg alT]
  rfl
 |true=>
  rw[if_neg (by simp),if_pos (decide_eq_true (by simp only[alR];omega)),cR hk (by omega),alN,if_pos (au hn),yx hk (by omega),alN,if_pos rfl]
  have h1:=Kl (now:=now) (ti:=ti) (code:=8) (got:=(iW groups N now).2.2.2) hl
  unfold Vi
  cases hg:jD (mw groups N now) N with
  |none=>
   have hc:decide (cT (none:Option Nat)≥0)=false:=rfl
   dsimp only
   rw[hc,if_neg alT,hend _ _ _ _ (Of d (iW groups N now).2.2.2) 8 (by rw[alQ];exact hn) (by rw[alO,bc _ _ hn,ed];rfl),alN,alO,alS,h1]
   rfl
  |some i=>
   have hib:=(bH.1 hg).1
   have hc:decide (cT (some i)≥0)=true:=decide_eq_true (by show(i:Int)≥0;omega)
   dsimp only
   rw[hc,if_pos rfl]
   refine(if_pos (au hib)).trans ?_
   rw[zo hk,alN,y9 hk (by omega),alN]
   dsimp only[cT]
   rw[hend _ _ _ _ (Of d (iW groups N now).2.2.2) 8 (by rw[alQ];exact hn) (by simp only[alO];rw[bc _ _ hn,ed];rfl),alN]
   simp only[alO,alS,h1]
   rfl
set_option maxHeartbeats 8000000 in
theorem GY {n:Nat} {t:aN} {d:aP} (hs:ag az (c,ti,now,st,subs,feed,gr,groups,nn,heap,sink,said,tasks,deeds)≤1048576) (hi:4<tasks.length) (et:tasks.getD 4 al.aa=t) (hp:t.1=0∨t.1=6∧(t.2.1=0∨t.2.1=1))
 (hn:t.1=6→n<deeds.length) (he:dZ t=(n:Int)) (ed:deeds.getD n aI.aa=d) (hl:t.1=6→qZ d= -1):
 gM k ((c,ti,now,st,subs,feed,gr,groups,nn,heap,sink,said,tasks,deeds),())=
  some ((pV false k (c,ti,now,st,subs,feed,gr,groups,nn,heap,sink,said,tasks,deeds)).1,(pV false k (c,ti,now,st,subs,feed,gr,groups,nn,heap,sink,said,tasks,deeds)).2,()):=by
 have hi':decide ((0:Int)≤4∧(4:Int)<(tasks.length:Int))=true:=decide_eq_true ⟨by omega,by omega⟩
 simp only[gM,aL,show alV 4=4 from rfl,et]
 rw[if_pos hi']
 unfold pV
 rcases hp with hp|⟨hp,hpc⟩
 ·rw[hp,if_pos (by decide),SP hk hs hi (by rw[et];exact hp),alN]
  unfold gL
  cases h:(eW false k (c,ti,now,st,subs,feed,gr,groups,nn,heap,sink,said,tasks,deeds)).1 with
  |true=>rfl
  |false=>
   show some (false,_,())=_
   rw[if_neg alT,h]
 ·rw[hp,if_neg (by decide)]
  rcases hpc with h0|h0
  ·have h1:eW false k (c,ti,now,st,subs,feed,gr,groups,nn,heap,sink,said,tasks,deeds)=yn (c,ti,now,st,subs,feed,gr,groups,nn,heap,sink,said,tasks,deeds) 4:=by
    unfold eW
    simp only[et,hp,h0,if_true]
    rw[if_neg (show¬(6:Int)=0 by decide)]
   have h2:=Eo (i:=4) (c:=c) (ti:=ti) (now:=now) (gr:=gr) (nn:=nn) (st:=st) (subs:=subs) (feed:=feed) (said:=said) (groups:=groups) (heap:=heap) (sink:=sink) (deeds:=deeds) hk hi
   rw[h0,if_pos (by decide),h1]
   erw[h2]
   by_cases h:gr= -1
   ·rw[if_pos h,yk h];rfl
   ·rw[if_neg h,CE h];rfl
  ·rw[h0,if_neg (by decide),N0 hk hs hi et hp h0 (hn hp) he ed (hl hp),alN]
   have h1:(eW false k (c,ti,now,st,subs,feed,gr,groups,nn,heap,sink,said,tasks,deeds)).1=true:=by
    unfold eW
    simp only[et,hp,h0]
    rw[if_neg (show¬(6:Int)=0 by decide),if_neg (show¬(1:Int)=0 by decide)]
    split<;>rfl
   unfold gL
   rw[h1]
   rfl
set_option maxHeartbeats 8000000 in
theorem JC {n:Nat} {t:aN} {d:aP} (hs:ag az (c,ti,now,st,subs,feed,gr,groups,nn,heap,sink,said,tasks,deeds)≤1048576) (hi:4<tasks.length) (et:tasks.getD 4 al.aa=t) (hp:t.1=6) (hpc:t.2.1=1)
 (hn:n<deeds.length) (he:dZ t=(n:Int)) (ed:deeds.getD n aI.aa=d):
 nw k ((c,ti,now,st,subs,feed,gr,groups,nn,heap,sink,said,tasks,deeds),())=
  some ((eW true k (c,ti,now,st,subs,feed,gr,groups,nn,heap,sink,said,tasks,deeds)).2,()):=by
 have hsum:=dA hk hs
 have hdl:=ar (e:=aI) (l:=deeds)
 have hgl:=ar (e:=ah) (l:=groups)
 have hhl:=ar (e:=aw) (l:=heap)
 have hsl:=ar (e:=aX) (l:=sink)
 have hi':decide ((0:Int)≤4∧(4:Int)<(tasks.length:Int))=true:=decide_eq_true ⟨by omega,by omega⟩
 unfold eW
 simp only[et,he,ed,hp,hpc,alO]
 rw[if_neg (show¬(6:Int)=0 by decide),if_neg (show¬(1:Int)=0 by decide)]
 simp only[nw,show alV 4=4 from rfl,et]
 have hend:∀(groups:List aD) (heap:List aJ) (sink:List bm) (code:Int) (got:List af),ag (.sl ab) got≤1073741824→cr k ((c,ti,now,st,subs,feed,-1,groups,nn,heap,sink,said,tasks,deeds),(4:Int),code,got,())=
  some ((c,ti,now,st,subs,feed,-1,groups,nn,heap,sink,said,tasks.set 4 zT,deeds.set n (xY d now ti code got)),()):=by
  intro groups heap sink code got hgot
  have:=fB (n:=n) (i:=4) (code:=code) (got:=got) (c:=c) (ti:=ti) (now:=now) (gr:= -1) (nn:=nn) (st:=st) (subs:=subs) (feed:=feed) (said:=said) (groups:=groups) (heap:=heap) (sink:=sink) hk hi hn (by rw[et];exact he) hgot
  rw[ed]at this
  exact this
 generalize hN:t.2.2.2.2.2.2.2.1=N
 have hfl:=MG hk (l:=groups) (n:=N) (now:=now)
 have hfb:=Hu hk (l:=groups) (n:=N) (now:=now)
 have hfbt:=lP hk (iW groups N now)
 have hfll:=ar (e:=ah) (l:=mw groups N now)
 rw[if_pos hi',LM hk (by omega),alN]
 dsimp only
 cases hb:tG groups N with
 |false=>
  rw[if_pos (by rfl),hend groups heap sink 6 [] (by simp[ag]),alN,if_neg alT]
  rfl
 |true=>
  rw[if_neg (by simp),if_pos (decide_eq_true (by simp only[alR];omega)),rW hk (by omega),alN,if_pos rfl]
  unfold Vi
  cases hg:jD (mw groups N now) N with
  |none=>
   have hc:decide (cT (none:Option Nat)≥0)=false:=rfl
   dsimp only
   rw[hc,if_neg alT,hend _ _ _ 8 _ (by omega),alN]
   rfl
  |some i=>
   have hc:decide (cT (some i)≥0)=true:=decide_eq_true (by show(i:Int)≥0;omega)
   dsimp only
   rw[hc,if_pos rfl,Ae hk (by omega) (by omega) hg,alN]
   dsimp only
   rw[hend _ _ _ 8 _ (by omega),alN]
   rfl
set_option maxHeartbeats 8000000 in
theorem sa {n:Nat} {t:aN} {d:aP} (hs:ag az (c,ti,now,st,subs,feed,gr,groups,nn,heap,sink,said,tasks,deeds)≤1048576) (hi:4<tasks.length) (et:tasks.getD 4 al.aa=t) (hp:t.1=0∨t.1=6∧(t.2.1=0∨t.2.1=1))
 (hn:t.1=6→n<deeds.length) (he:dZ t=(n:Int)) (ed:deeds.getD n aI.aa=d):
 jE k ((c,ti,now,st,subs,feed,gr,groups,nn,heap,sink,said,tasks,deeds),())=
  some ((pV true k (c,ti,now,st,subs,feed,gr,groups,nn,heap,sink,said,tasks,deeds)).1,(pV true k (c,ti,now,st,subs,feed,gr,groups,nn,heap,sink,said,tasks,deeds)).2,()):=by
 have hsum:=dA hk hs
 have hdl:=ar (e:=aI) (l:=deeds)
 have hhl:=ar (e:=aw) (l:=heap)
 have hi':decide ((0:Int)≤4∧(4:Int)<(tasks.length:Int))=true:=decide_eq_true ⟨by omega,by omega⟩
 simp only[jE,aL,show alV 4=4 from rfl,et]
 rw[if_pos hi']
 unfold pV
 rcases hp with hp|⟨hp,hpc⟩
 ·rw[hp,if_pos (by decide),VM hk,alN]
  dsimp only
  cases hr:Gw heap now with
  |false=>
   have h1:eW true k (c,ti,now,st,subs,feed,gr,groups,nn,heap,sink,said,tasks,deeds)=(false,(c,ti,now,st,subs,feed,gr,groups,nn,heap,sink,said,tasks,deeds)):=by
    unfold eW
    simp only[et,hp,hr,if_true,alP,if_false]
   rw[h1]
   rfl
  |true=>
   have h1:eW true k (c,ti,now,st,subs,feed,gr,groups,nn,heap,sink,said,tasks,deeds)=(true,(c,ti,now,st,subs,feed,gr,groups,nn,(kK heap).1,sink,said,tasks.set 4 (aaR (kK heap).2.1.2 deeds.length),deeds++[XA (kK heap).2.1.2 now ti])):=by
    unfold eW
    simp only[et,hp,hr,if_true]
   have hop:eM k ((6:Int),())=some (8,()):=rfl
   have hz:ag ab eC=0:=by rw[bG hk];rfl
   rw[h1,if_pos rfl,Je hk (by omega),alN]
   have hb:=wF (i:=4) (t:=(6,0,eC,[],0,[],[],(kK heap).2.1.2,0)) (o:=8) (c:=c) (ti:=ti) (now:=now) (gr:=gr) (nn:=nn) (st:=st) (subs:=subs) (feed:=feed) (said:=said) (groups:=groups) (heap:=(kK heap).1) (sink:=sink) (tasks:=tasks) (deeds:=deeds)
    hk hi (by omega) (by rw[ZG hk,hz];omega) hop (by dsimp only;rw[hz];omega) (by simp)
   erw[hb]
   rfl
 ·rw[hp,if_neg (by decide),if_pos hi']
  rcases hpc with h0|h0
  ·have h1:eW true k (c,ti,now,st,subs,feed,gr,groups,nn,heap,sink,said,tasks,deeds)=yn (c,ti,now,st,subs,feed,gr,groups,nn,heap,sink,said,tasks,deeds) 4:=by
    unfold eW
    simp only[et,hp,h0,if_true]
    rw[if_neg (show¬(6:Int)=0 by decide)]
   have h2:=xP (i:=4) (c:=c) (ti:=ti) (now:=now) (gr:=gr) (nn:=nn) (st:=st) (subs:=subs) (feed:=feed) (said:=said) (groups:=groups) (heap:=heap) (sink:=sink) (deeds:=deeds) hk hi
   rw[h0,if_pos (by decide),h1]
   erw[h2]
   by_cases h:gr= -1
   ·rw[if_pos h,yk h];rfl
   ·rw[if_neg h,CE h];rfl
  ·rw[h0,if_neg (by decide),JC hk hs hi et hp h0 (hn hp) he ed,alN]
   have h1:(eW true k (c,ti,now,st,subs,feed,gr,groups,nn,heap,sink,said,tasks,deeds)).1=true:=by
    unfold eW
    simp only[et,hp,h0]
    rw[if_neg (show¬(6:Int)=0 by decide),if_neg (show¬(1:Int)=0 by decide)]
    split<;>rfl
   unfold gL
   rw[h1]
   rfl
end
def wm (s:Bool) (k:Nat) (w:ak) (i:Nat):Bool×ak:=
 if(((kP w).getD i al.aa).1=1)then cO s k w i
 else if(((kP w).getD i al.aa).1=2∨((kP w).getD i al.aa).1=3)then qb s k w i
 else if(((kP w).getD i al.aa).1=4)then qg s k w i
 else if i=3 then tV s k w
 else if i=4 then pV s k w
 else(false,w)
theorem Ri {k:Nat} {w:ak} {t:aN} {d:aP} {i:Nat} (h:cm k w t d (i:Int)=true):
 i≤4∧(t.1=0∨((t.1=1∨t.1=2∨t.1=3∨t.1=4)∧i<3)∨(t.1=5∧i=3)∨(t.1=6∧i=4)):=by
 unfold cm eO bO at h
 grind
theorem Cj {k:Nat} {w:ak} {t:aN} {d:aP} {i:Int} (h:cm k w t d i=true) (hp:t.1≠0):
 0≤dZ t∧dZ t<((VS w).length:Int)∧(qZ d= -1↔¬(t.1=1∧t.2.1=2))∧0≤t.2.1∧t.2.1≤2∧(t.2.1=2→t.1=1∨t.1=3):=by
 unfold cm eO bO at h
 unfold dZ qZ
 grind
theorem Lt {k:Nat} {w:ak} {t:aN} {d:aP} {i:Int} (h:cm k w t d i=true) (hp:t.1=3):
 t.2.2.1=eC∧t.2.2.2.1=[]∧t.2.2.2.2.2.2.2.1=0∧0≤t.2.2.2.2.1∧(t.2.1≠2→t.2.2.2.2.1<w.1.1)∧(t.2.1=2→(t.2.2.2.2.2.1.length:Int)=w.1.1):=by
 unfold cm eO bO me at h
 grind
theorem aaC {k:Nat} {w:ak} {t:aN} {d:aP} {i:Int} (h:cm k w t d i=true) (hp:t.1=2):t.2.2.1=eC∧t.2.2.2.2.2.2.2.1=0:=by
 unfold cm eO bO at h
 grind
theorem HZ {k:Nat} {w:ak} {t:aN} {d:aP} {i:Int} (h:cm k w t d i=true) (hp:t.1=4):0≤t.2.2.2.2.1∧t.2.2.2.2.1<w.1.1:=by
 unfold cm eO bO me at h
 grind
theorem KE {k:Nat} {w:ak} {t:aN} {d:aP} {i:Int} (h:cm k w t d i=true) (hp:t.1=5):d.2.2.1=t.2.2.1:=by
 unfold cm eO bO me at h
 grind
theorem LU {k:Nat} {w:ak} (h:fQ k w=true) {i:Nat} (hi:i<(kP w).length):cm k w ((kP w).getD i al.aa) (kt w ((kP w).getD i al.aa)) (i:Int)=true:=
 eN.1 h i (by omega) hi
theorem Zk {k:Nat} {w:ak} (h:jd k w=true) {i:Nat} (hi:i<w.2.2.2.2.2.2.2.1.length):(w.2.2.2.2.2.2.2.1.getD i ah.aa).1<w.2.2.2.2.2.2.2.2.1:=by
 unfold jd at h
 simp only[alW]at h
 have h1:=h.2.2.2.2.2.2.2.2.2.2.2.2.2
 unfold ee tK at h1
 simp only[alW,eN]at h1
 have h2:=h1.2.2.2 i (by omega) hi
 simpa using h2.1.2.2
section
variable {k:Nat} (hk:9223372036854775808≤k)
include hk
set_option maxHeartbeats 8000000 in
theorem TQ {w:ak} {i:Nat} (hs:ag az w≤1048576) (h:jd k w=true) (hi:i<5):sG k (w,(i:Int),())=some ((wm true k w i).1,(wm true k w i).2,()):=by
 obtain⟨o1,o2,o3,o4⟩:=Ec h
 obtain⟨⟨hl1,_⟩,_⟩:=vX o1
 have hit:i<(kP w).length:=by show i<w.2.2.2.2.2.2.2.2.2.2.2.2.1.length;omega
 have hr:=LU o4 hit
 have hnn:=fun j hj=>Zk h (i:=j) hj
 obtain⟨c,ti,now,st,subs,feed,gr,groups,nn,heap,sink,said,tasks,deeds⟩:=w
 dsimp only at o1 o2 o3 hl1 hnn hit
 obtain⟨t,et⟩:∃t,tasks.getD i al.aa=t:=⟨_,rfl⟩
 have hw:∀s,wm s k (c,ti,now,st,subs,feed,gr,groups,nn,heap,sink,said,tasks,deeds) i=if t.1=1 then cO s k (c,ti,now,st,subs,feed,gr,groups,nn,heap,sink,said,tasks,deeds) i
  else if t.1=2∨t.1=3 then qb s k (c,ti,now,st,subs,feed,gr,groups,nn,heap,sink,said,tasks,deeds) i
  else if t.1=4 then qg s k (c,ti,now,st,subs,feed,gr,groups,nn,heap,sink,said,tasks,deeds) i
  else if i=3 then tV s k (c,ti,now,st,subs,feed,gr,groups,nn,heap,sink,said,tasks,deeds)
  else if i=4 then pV s k (c,ti,now,st,subs,feed,gr,groups,nn,heap,sink,said,tasks,deeds)else(false,(c,ti,now,st,subs,feed,gr,groups,nn,heap,sink,said,tasks,deeds)):=by
  intro s;unfold wm;simp only[kP,et]
 rw[hw]
 dsimp only[kP,kt]at hr
 rw[et]at hr
 obtain⟨d,ed⟩:∃d,deeds.getD (dZ t).toNat aI.aa=d:=⟨_,rfl⟩
 change cm k _ t (deeds.getD (dZ t).toNat aI.aa) _=true at hr
 rw[ed]at hr
 have hops:=Ri hr
 simp only[sG,aL,alO,et]
 rw[if_pos (au hit)]
 by_cases e0:t.1=0
 ·rw[e0,if_neg (by decide),if_neg (by decide),if_neg (by decide),if_neg (by decide)]
  by_cases e3:i=3
  ·subst e3
   obtain⟨n,hn⟩:∃n:Nat,dZ t=(n:Int):=by
    have:t=zT:=by unfold cm eO at hr;grind
    exact⟨0,by rw[this];rfl⟩
   rw[if_pos (by decide),tc (n:=n) (d:=deeds.getD n aI.aa) hk hs hit et (.inl e0) (by omega) hn rfl (by omega) (fun j hj=>by have:=hnn j hj;omega),alN,if_neg (by decide),if_neg (by decide),if_neg (by decide),if_pos rfl]
  ·by_cases e4:i=4
   ·subst e4
    obtain⟨n,hn⟩:∃n:Nat,dZ t=(n:Int):=by
     have:t=zT:=by unfold cm eO at hr;grind
     exact⟨0,by rw[this];rfl⟩
    rw[if_neg (by decide),if_pos (by decide),sa (n:=n) (d:=deeds.getD n aI.aa) hk hs hit et (.inl e0) (by omega) hn rfl,alN,if_neg (by decide),if_neg (by decide),if_neg (by decide),if_neg (by decide),if_pos rfl]
   ·rw[if_neg (by rw[beq_iff_eq];omega),if_neg (by rw[beq_iff_eq];omega),if_neg (by decide),if_neg (by decide),if_neg (by decide),if_neg e3,if_neg e4]
 obtain⟨b1,b2,b3,b4,b5,b6⟩:=Cj hr e0
 dsimp only[VS]at b2
 obtain⟨n,hn⟩:∃n:Nat,dZ t=(n:Int):=⟨(dZ t).toNat,by omega⟩
 rw[hn,alO]at ed
 have hnd:n<deeds.length:=by omega
 rcases hops.2 with h0|⟨h0,hi3⟩|⟨h0,hi3⟩|⟨h0,hi3⟩
 ·exact absurd h0 e0
 ·rcases h0 with h0|h0|h0|h0
  ·obtain⟨j,hj,ej⟩:=CS (k:=k) hk (l:=st) (s:=t.2.2.1.1) (by omega)
   rw[if_pos (by rw[h0];rfl),if_pos h0,LC hk hs hit et h0 hj ej hnd hn ed (by omega) (fun e hl=>by rw[b3]at hl;exact hl ⟨h0,e⟩),alN]
  ·obtain⟨j,hj,ej⟩:=CS (k:=k) hk (l:=st) (s:=t.2.2.2.1) (by omega)
   rw[if_neg (by rw[h0];decide),if_pos (by rw[h0];rfl),if_pos (by rw[h0];rfl),if_neg (by omega),if_pos (.inl h0),
    yp (j:=j) hk hs hit et (.inl h0) (fun _=>hj) (by rw[if_pos h0];exact ej) (by omega) hnd hn ed (by omega),alN]
  ·obtain⟨s1,s2,s3,s4,s5,s6⟩:=Lt hr h0
   dsimp only at s5 s6
   rw[if_neg (by rw[h0];decide),if_neg (by rw[h0];decide),if_pos (by rw[h0];rfl),if_neg (by omega),if_pos (.inr h0),
    yp (j:=t.2.2.2.2.1.toNat) hk hs hit et (.inr h0) (fun e=>by have:=s5 (by omega);omega) (by rw[if_neg (by omega)];omega) (fun _ e=>by have:=s6 e;omega) hnd hn ed (by omega),alN]
  ·obtain⟨s1,s2⟩:=HZ hr h0
   dsimp only at s2
   rw[if_neg (by rw[h0];decide),if_neg (by rw[h0];decide),if_neg (by rw[h0];decide),if_pos (by rw[h0];rfl),if_neg (by omega),if_neg (by omega),if_pos h0,
    MX (j:=t.2.2.2.2.1.toNat) hk hs hit et h0 (by omega) (by omega) hnd hn ed (by omega),alN]
 ·subst hi3
  rw[if_neg (by rw[h0];decide),if_neg (by rw[h0];decide),if_neg (by rw[h0];decide),if_neg (by rw[h0];decide),if_pos (by decide),if_neg (by omega),if_neg (by omega),if_neg (by omega),if_pos rfl,
   tc hk hs hit et (.inr ⟨h0,by omega⟩) (fun _=>hnd) hn ed (fun _=>KE hr h0) (fun j hj=>by have:=hnn j hj;omega),alN]
 ·subst hi3
  rw[if_neg (by rw[h0];decide),if_neg (by rw[h0];decide),if_neg (by rw[h0];decide),if_neg (by rw[h0];decide),if_neg (by decide),if_pos (by decide),if_neg (by omega),if_neg (by omega),if_neg (by omega),if_neg (by decide),if_pos rfl,
   sa hk hs hit et (.inr ⟨h0,by omega⟩) (fun _=>hnd) hn ed,alN]
set_option maxHeartbeats 8000000 in
theorem VQ {w:ak} {i:Nat} (hs:ag az w≤1048576) (h:jd k w=true) (hi:i<5):fS k (w,(i:Int),())=some ((wm false k w i).1,(wm false k w i).2,()):=by
 obtain⟨o1,o2,o3,o4⟩:=Ec h
 obtain⟨⟨hl1,_⟩,_⟩:=vX o1
 have hit:i<(kP w).length:=by show i<w.2.2.2.2.2.2.2.2.2.2.2.2.1.length;omega
 have hr:=LU o4 hit
 obtain⟨c,ti,now,st,subs,feed,gr,groups,nn,heap,sink,said,tasks,deeds⟩:=w
 dsimp only at o1 o2 o3 hl1 hit
 obtain⟨t,et⟩:∃t,tasks.getD i al.aa=t:=⟨_,rfl⟩
 have hw:∀s,wm s k (c,ti,now,st,subs,feed,gr,groups,nn,heap,sink,said,tasks,deeds) i=if t.1=1 then cO s k (c,ti,now,st,subs,feed,gr,groups,nn,heap,sink,said,tasks,deeds) i
  else if t.1=2∨t.1=3 then qb s k (c,ti,now,st,subs,feed,gr,groups,nn,heap,sink,said,tasks,deeds) i
  else if t.1=4 then qg s k (c,ti,now,st,subs,feed,gr,groups,nn,heap,sink,said,tasks,deeds) i
  else if i=3 then tV s k (c,ti,now,st,subs,feed,gr,groups,nn,heap,sink,said,tasks,deeds)
  else if i=4 then pV s k (c,ti,now,st,subs,feed,gr,groups,nn,heap,sink,said,tasks,deeds)else(false,(c,ti,now,st,subs,feed,gr,groups,nn,heap,sink,said,tasks,deeds)):=by
  intro s;unfold wm;simp only[kP,et]
 rw[hw]
 dsimp only[kP,kt]at hr
 rw[et]at hr
 obtain⟨d,ed⟩:∃d,deeds.getD (dZ t).toNat aI.aa=d:=⟨_,rfl⟩
 change cm k _ t (deeds.getD (dZ t).toNat aI.aa) _=true at hr
 rw[ed]at hr
 have hops:=Ri hr
 simp only[fS,alO,et]
 obtain⟨n,hn⟩:∃n:Nat,dZ t=(n:Int):=by
  by_cases e0:t.1=0
  ·have:t=zT:=by unfold cm eO at hr;grind
   exact⟨0,by rw[this];rfl⟩
  ·have:=(Cj hr e0).1
   exact⟨(dZ t).toNat,by omega⟩
 rw[hn,alO]at ed
 have hb:=fun e0=>Cj hr e0
 dsimp only[VS]at hb
 by_cases e3:i=3
 ·subst e3
  have hp:t.1=0∨t.1=5:=by omega
  rw[if_pos (by decide),if_neg (by omega),if_neg (by omega),if_neg (by omega),if_pos rfl,
   IA hk hs hit et (by rcases hp with hp|hp;exact .inl hp;have:=hb (by omega);exact .inr ⟨hp,by omega⟩) (fun e=>by have:=hb (by omega);omega) hn ed (fun e=>KE hr e),alN]
 by_cases e4:i=4
 ·subst e4
  have hp:t.1=0∨t.1=6:=by omega
  rw[if_neg (by decide),if_pos (by decide),if_neg (by omega),if_neg (by omega),if_neg (by omega),if_neg (by omega),if_pos rfl,
   GY hk hs hit et (by rcases hp with hp|hp;exact .inl hp;have:=hb (by omega);exact .inr ⟨hp,by omega⟩) (fun e=>by have:=hb (by omega);omega) hn ed (fun e=>(hb (by omega)).2.2.1.2 (by omega)),alN]
 rw[if_neg (by rw[beq_iff_eq];omega),if_neg (by rw[beq_iff_eq];omega),fK hk,alN,if_neg (by unfold bO;simp;omega),if_pos (au hit)]
 have hp:t.1=0∨t.1=1∨t.1=2∨t.1=3∨t.1=4:=by omega
 rcases hp with h0|h0|h0|h0|h0
 ·rw[h0,if_neg (by decide),if_neg (by decide),if_neg (by decide),if_neg (by decide),if_neg (by decide),if_neg e3,if_neg e4]
  simp only[fx,aL,alO,et,h0]
  rw[if_pos (au hit)]
  rfl
 ·obtain⟨j,hj,ej⟩:=CS (k:=k) hk (l:=st) (s:=t.2.2.1.1) (by omega)
  obtain⟨b1,b2,b3,b4,b5,b6⟩:=hb (by omega)
  rw[if_pos (by rw[h0];rfl),if_pos h0,Lp hk hs hit et h0 hj ej (by omega) hn ed (by omega) (fun e hl=>by rw[b3]at hl;exact hl ⟨h0,e⟩) hn,alN]
 ·obtain⟨j,hj,ej⟩:=CS (k:=k) hk (l:=st) (s:=t.2.2.2.1) (by omega)
  obtain⟨b1,b2,b3,b4,b5,b6⟩:=hb (by omega)
  obtain⟨g1,g2⟩:=aaC hr h0
  rw[if_neg (by rw[h0];decide),if_neg (by rw[h0];decide),if_neg (by omega),if_pos (.inl h0),
   xg (j:=j) hk hs hit et (.inl h0) (fun _=>hj) (by rw[if_pos h0];exact ej) (by omega) (by omega) hn ed (by omega) (b3.2 (by omega)) g1 (by omega) g2,alN]
 ·obtain⟨s1,s2,s3,s4,s5,s6⟩:=Lt hr h0
  obtain⟨b1,b2,b3,b4,b5,b6⟩:=hb (by omega)
  dsimp only at s5 s6
  rw[if_neg (by rw[h0];decide),if_neg (by rw[h0];decide),if_neg (by omega),if_pos (.inr h0),
   xg (j:=t.2.2.2.2.1.toNat) hk hs hit et (.inr h0) (fun e=>by have:=s5 (by omega);omega) (by rw[if_neg (by omega)];omega) (fun _ e=>by have:=s6 e;omega) (by omega) hn ed (by omega) (b3.2 (by omega)) s1 (fun _=>s2) s3,alN]
 ·obtain⟨s1,s2⟩:=HZ hr h0
  obtain⟨b1,b2,b3,b4,b5,b6⟩:=hb (by omega)
  dsimp only at s2
  rw[if_neg (by rw[h0];decide),if_pos (by rw[h0];rfl),if_neg (by omega),if_neg (by omega),if_pos h0,
   Hh (j:=t.2.2.2.2.1.toNat) hk hs hit et h0 (by omega) (by omega) (by omega) hn ed (by omega),alN]
end
theorem iQ (r:Bool×ak):(gL r).1=r.1:=by
 unfold gL
 split
 ·rename_i h;exact h.symm
 ·rfl
theorem acQ (k:Nat) (w:ak) (i:Nat):(wm false k w i).1=(wm true k w i).1:=by
 obtain⟨c,ti,now,st,subs,feed,gr,groups,nn,heap,sink,said,tasks,deeds⟩:=w
 unfold wm
 split
 ·unfold cO Ct
  rw[iQ,iQ]
  dsimp only
  split
  ·rfl
  ·split
   ·split<;>rfl
   ·rfl
 split
 ·unfold qb T0 Fm pH
  rw[iQ,iQ]
  dsimp only
  split
  ·split
   ·rfl
   ·split<;>rfl
  ·split
   ·rfl
   ·split
    ·rfl
    ·split<;>rfl
 split
 ·unfold qg Ld
  rw[iQ,iQ]
  dsimp only
  split<;>rfl
 split
 ·unfold tV gb
  rw[iQ,iQ]
  dsimp only
  split
  ·split<;>rfl
  ·split
   ·rfl
   ·split
    ·split<;>rfl
    ·rfl
 split
 ·unfold pV eW
  rw[iQ,iQ]
  dsimp only
  split
  ·split<;>rfl
  ·split
   ·rfl
   ·split<;>rfl
 ·rfl
def vE (s:Bool) (k:Nat) (w:ak) (i:Int):ak×Bool:=
 if(jd k w&&bO i 0 4)=true then(if(wm s k w i.toNat).1=true then((wm s k w i.toNat).2,true)else(w,false))else(w,false)
section
variable {k:Nat} (hk:9223372036854775808≤k)
include hk
theorem Tb {w:ak} {i:Int} (hi:bO i 0 4=false):fS k (w,i,())=some (false,w,()):=by
 simp only[fS]
 unfold bO at hi
 simp only[Bool.and_eq_false_iff,decide_eq_false_iff_not]at hi
 rw[if_neg (by rw[beq_iff_eq];omega),if_neg (by rw[beq_iff_eq];omega),fK hk,alN,if_pos (by unfold bO;simp;omega)]
theorem VB {w:ak} {i:Int} (hs:ag az w≤1048576):tU k (w,i,())=some ((vE false k w i).1,(vE false k w i).2,()):=by
 have hcp:fv k (w,())=some (w,()):=Vd hk (by omega)
 simp only[tU,hcp,alN,Lu hk hs]
 unfold vE
 cases ho:jd k w with
 |false=>rfl
 |true=>
  rw[if_pos (by rfl)]
  cases hi:bO i 0 4 with
  |false=>
   rw[Tb hk hi,alN]
   rfl
  |true=>
   have hi2:=hi
   unfold bO at hi2
   simp only[alW,decide_eq_true_eq]at hi2
   have e:i=((i.toNat:Nat):Int):=by omega
   have:=VQ hk hs ho (i:=i.toNat) (by omega)
   rw[←e]at this
   rw[this,alN]
   dsimp only
   cases (wm false k w i.toNat).1<;>rfl
theorem Uk {w:ak} {i:Int} (hs:ag az w≤1048576):tT k (w,i,())=some ((vE true k w i).1,(vE true k w i).2,()):=by
 have hcp:gw k (w,())=some (w,()):=X4 hk (by omega)
 simp only[tT,hcp,alN,MM hk hs,iJ hk]
 unfold vE
 cases ho:jd k w with
 |false=>rfl
 |true=>
  cases hi:bO i 0 4 with
  |false=>rfl
  |true=>
   have hi2:=hi
   unfold bO at hi2
   simp only[alW,decide_eq_true_eq]at hi2
   have e:i=((i.toNat:Nat):Int):=by omega
   have:=TQ hk hs ho (i:=i.toNat) (by omega)
   rw[←e]at this
   simp only[al0,alP,if_false,beq_self_eq_true,if_true,alN,this]
   cases (wm true k w i.toNat).1<;>rfl
theorem UF {w:ak} {i:Int} (hs:ag az w≤1048576):uh k (w,i,())=some ((vE true k w i).2,()):=by
 simp only[uh,VB hk hs,alN]
 unfold vE
 rw[acQ]
 split
 ·split<;>rfl
 ·rfl
theorem Va {w:ak} {i:Int} (hs:ag az w≤1048576):tS k (w,i,())=some ((vE true k w i).2,()):=by
 simp only[tS,Uk hk hs,alN]
theorem aa9 {x:ak×Int×Unit} (hx:Fits az x.1):oh k x=some (true,()):=by
 obtain⟨a,n,u⟩:=x
 simp only at hx
 simp only[oh]
 rw[YC hk hx (by omega) (by omega),alN]
 split
 ·rfl
 ·rename_i h1
  have h1:=cZ (by simpa using h1)
  rw[Zl hk (x:=a) (by omega)]
  simp only[alN]
  rw[Va hk (by omega),alN,UF hk (by omega),alN,YE hk (by omega)]
  simp
end
end Vg.Tryz
