/- Texts of this law, joined. -/
import Derived.Test.YtgikmhjpcnnhjaaGreatQbS4
import Derived.Test.YtgikmhjpcnnhjaaGreatRows
import Derived.Test.YtgikmhjpcnnhjaaGreatXc
set_option linter.unusedSimpArgs false
set_option linter.unusedVariables false
set_option linter.unusedSectionVars false
set_option linter.defProp false
open Option renaming bind -> azY,bind_some -> azZ
open Int renaming le_refl -> az0,toNat_natCast -> az1
open Decidable renaming byContradiction -> az2
open List renaming length_singleton -> az3
namespace Vg.Tryz
open Go Vg
def AW(e:bT):Prop:=ai ae e.2.2.1<=2900/\ai (.sl ak) e.2.2.2<=2900
section
variable{k:Nat}(hk:9223372036854775808<=k)
include hk
def vv{a b:Int}:AW (a,b,([],0,0,ByteArray.empty),[]):=by
 have e1:=jQ hk;have e2:ai (.sl ak) ([]:List ag)=0:=bd;exact⟨by show ai ae bU<=2900;omega,by show ai (.sl ak) ([]:List ag)<=2900;omega⟩
def Ta{w:ah}(h:bE k w=true):ai (.sl ae) (dC (bO w.2.2.2.1))<=776/\ai (.sl aj) w.2.2.2.1<=1000:=by
 obtain⟨c,ti,U,st,m_,Z,gr,A,nn,V,n_,l_,O,T⟩:=w;have R:=bF.1 h;have h1:=iK hk (l:=bO st) fun a b=>fc (R.sto.fit a b);have d:=R.sto.cap;have h3:=(nX hk R.cf).2.2.2.1;have e:=Gz hk R.sto.ok;have h5:=(bQ.1 R.sto.ok).2;unfold bu at d e;rw[rH];dsimp only;omega
set_option maxHeartbeats 8000000 in
def NN{c:aO}{w:ah}(hc:bn c)(Y:bE k w=true):Dr (lR k (c,w,())) (fun r=>AW r.1/\bn r.2.1):=by
 have Q:(cA w).length=5:=by
  obtain⟨c,ti,U,st,m_,Z,gr,A,nn,V,n_,l_,O,T⟩:=w;exact(bF.1 Y).tl
 obtain⟨t1,t2⟩:=Ta hk Y;have t3:=az (e:=ae) (l:=dC (bO w.2.2.2.1));have v:=zn hk (l:=w.2.2.2.1) (by omega)
 have o:∀t:aO×ah×bT×Int×af×Unit,(bn t.1/\t.2.1=w/\ai ae t.2.2.2.2.1<=400)->Dr (
  azY (cF k (t.2.1.2.2.2.1,())) fun C=>
  azY (dw k (t.1,())) fun f=>
  if(decide (List.length C.1+List.length ([f.1]:List af)<4294967296))=true then
   azY (cQ k (f.2.1,C.1++([f.1]:List af),())) fun m=>
   azY (bH k (m.2.1,([(0:Int),(3:Int),(9:Int),(60:Int)]:List Int),())) fun n=>
   some (((1:Int),t.2.2.2.1,(m.1,t.2.2.2.2.1.2.1,IntKind.i64.wrap (t.2.2.2.2.1.2.1+n.1),t.2.2.2.2.1.2.2.2),([]:List ag)),n.2.1,())
  else
   none) (fun r:bT×aO×Unit=>AW r.1/\bn r.2.1):=by
  rintro⟨c',w',e,i,a,u⟩ ⟨K,L,g3⟩;dsimp only at K L g3|-;subst L;rw[v,azZ];refine cq (yo hk K) (fun f zt=>kL (c_ (by simp only[az3];omega)) ?_)
  have hl:ai (.sl ae) (dC (bO w'.2.2.2.1)++[f.1])<=1000:=by
   rw[gZ (e:=ae),bW (e:=ae),bd];have:=zt.2;omega
  refine cq (zW hk (l:=dC (bO w'.2.2.2.1)++[f.1]) zt.1 (by omega)) (fun m mS=>cq (ld hk mS.1 (by decide)) (fun n Dc=>dA ⟨⟨?_,?_⟩,Dc⟩))
  ·have e1:=bj hk (m.1,a.2.1,IntKind.i64.wrap (a.2.1+n.1),a.2.2.2);have e2:=bj hk a;have:=mS.2;dsimp only at e1|-;omega
  ·show ai (.sl ak) ([]:List ag)<=2900;rw[bd];omega
 have p:∀(r:aO) (q:af) (i:Int) (J:aO×ah×bT×Int×af×Unit->Option (bT×aO×Unit)),bn r->ai ae q<=121->
  (∀s,(bn s.1/\s.2.1=w/\ai ae s.2.2.2.2.1<=400)->Dr (J s) (fun r:bT×aO×Unit=>AW r.1/\bn r.2.1))->
  Dr (azY (di k (r,(16:Int),())) fun M=>
   if M.1=true then
    azY (gL k (M.2.1,())) fun R=>
    J (R.2.1,w,(0,0,(([]:List ag),0,0,ByteArray.empty),([]:List ag)),i,R.1,())
   else
    J (M.2.1,w,(0,0,(([]:List ag),0,0,ByteArray.empty),([]:List ag)),i,q,())) (fun r:bT×aO×Unit=>AW r.1/\bn r.2.1):=by
  intro r q i J hr hq g;refine cq (mV hk hr) (fun M h8=>dI (fun _=> ?_) (fun _=>g _ ⟨h8,rfl,by dsimp only;omega⟩));exact cq (Qh hk h8) (fun R h9=>g _ ⟨h9.1,rfl,h9.2⟩)
 have d:∀(B:Int) (y:aO) (i:Int) (J:aO×ah×bT×Unit->Option (bT×aO×Unit)),bn y->
  (∀s,(bn s.1/\s.2.1=w)->Dr (J s) (fun r:bT×aO×Unit=>AW r.1/\bn r.2.1))->
  Dr (if((B:Int)==(3:Int))=true then
   azY (cF k (w.2.2.2.1,())) fun S=>
   azY (cQ k (y,S.1,())) fun x=>
   some (((2:Int),i,(([]:List ag),0,0,ByteArray.empty),x.1),x.2.1,())
  else
   if((B:Int)==(4:Int))=true then
    azY (bH k (y,([(3:Int),(4:Int)]:List Int),())) fun D=>
    some ((D.1,i,(([]:List ag),0,0,ByteArray.empty),([]:List ag)),D.2.1,())
   else
    if((B:Int)==(5:Int))=true then
     azY (bH k (y,([(1:Int),(1:Int),(2:Int),(5:Int)]:List Int),())) fun E=>
     some (((7:Int),E.1,(([]:List ag),0,0,ByteArray.empty),([]:List ag)),E.2.1,())
    else
     if((B:Int)==(6:Int))=true then
      azY (bf k (y,(2:Int),())) fun F=>
      some (((6:Int),F.1,(([]:List ag),0,0,ByteArray.empty),([]:List ag)),F.2.1,())
     else
      J (y,w,(0,0,(([]:List ag),0,0,ByteArray.empty),([]:List ag)),())) (fun r:bT×aO×Unit=>AW r.1/\bn r.2.1):=by
  intro B y i J j g;refine dI (fun _=> ?_) (fun _=>dI (fun _=> ?_) (fun _=>dI (fun _=> ?_) (fun _=>dI (fun _=> ?_) (fun _=>g _ ⟨j,rfl⟩))))
  ·rw[v,azZ];refine cq (zW hk j (by dsimp only;omega)) (fun x Gp=>dA ⟨⟨?_,?_⟩,Gp.1⟩)
   ·have:=jQ hk;show ai ae bU<=2900;omega
   ·have:=Gp.2;dsimp only at this|-;omega
  ·exact cq (ld hk j (by decide)) (fun r h=>dA ⟨vv hk,h⟩)
  ·exact cq (ld hk j (by decide)) (fun r h=>dA ⟨vv hk,h⟩)
  ·exact cq (cK hk j) (fun r h=>dA ⟨vv hk,h.1⟩)
 simp only[lR];refine cq (cK hk hc) (fun r1 h1=>Nz (fun t:aO×ah×bT×Unit=>bn t.1/\t.2.1=w) ?_ ?_)
 ·rintro⟨c3,w3,e3,u3⟩ ⟨K,L⟩;dsimp only at K L|-;subst L;refine cq (cK hk K) (fun r47 z=>Nz (fun t:aO×ah×bT×Int×Unit=>bn t.1) (fun t ht=>dA ⟨vv hk,ht⟩) (fun J g=> ?_));refine NP (fun t:aO×ah×bT×Int×Int×Unit=>(3-t.2.2.2.2.1).toNat) (fun t=>bn t.1/\t.2.1=w3/\0<=t.2.2.2.1/\t.2.2.2.1<5/\0<=t.2.2.2.2.1/\t.2.2.2.2.1<=3) ?_ ⟨z.1,rfl,by have:=z.2;dsimp only;omega,by have:=z.2;dsimp only;omega,az0 _,by show(0:Int)<=3;decide⟩ (by dsimp only;omega);rintro G ⟨c5,w5,e5,i5,n5,u5⟩ ⟨q1,q2,q3,q4,q5,q6⟩ hG;dsimp only at q1 q2 q3 q4 q5 q6 hG|-;subst q2;refine dI (fun H=>kL ?_ ?_) (fun _=>g _ q1)
  ·rw[show w5.2.2.2.2.2.2.2.2.2.2.2.2.1.length=5 from Q];exact c_ ⟨q3,by omega⟩
  ·have H:n5<3:=by simpa using H
   have X:∀b:Bool,Dr (if b=true then kA k (w5,())else some (false,())) (fun _=>True):=fun b=>dI (fun _=>⟨_,yG hk,trivial⟩) (fun _=>⟨_,rfl,trivial⟩);refine cq (P:=fun _=>True) (X _) (fun r52 _=>dI (fun _=>g _ q1) (fun _=>cq (cK hk q1) (fun r53 I=> ?_)))
   ·have:=I.2;rw[wrap64 (by omega) (by omega)];exact hG _ ⟨I.1,rfl,by dsimp only;omega,by dsimp only;omega,by dsimp only;omega,by dsimp only;omega⟩ (by dsimp only;omega)
 ·intro J g;refine cq (cK hk h1.1) (fun B N=> ?_);refine dI (fun _=>dI (fun _=> ?_) (fun _=>d _ _ _ _ N.1 g)) (fun _=>dI (fun _=>dI (fun _=> ?_) (fun _=>d _ _ _ _ N.1 g)) (fun _=>dI (fun _=> ?_) (fun _=>d _ _ _ _ N.1 g)))
  all_goals
   exact cq (yo hk N.1) (fun r5 Q=>Nz _ o (fun J' W=>p _ _ _ _ Q.1 Q.2 W))
set_option maxHeartbeats 8000000 in
def ahr{c:aO}{m:Int}(hc:bn c)(hm:m<=1000):Dr (mz k (c,m,())) (fun r=>BI k r.2.2.1/\bn r.2.2.2.1):=by
 simp only[mz];refine cq (NH hk hc) (fun r1 b=> ?_);obtain⟨f,g⟩:=OS hk b.2;have hsz:=F8 hk f g (by omega);have hcs:=(nX hk b.2).1;refine ve (Az hk (by omega)) (ve (BV hk (by dsimp only;omega)) ?_);refine Nz (fun t:aO×ah×ah×List bT×ah×ah×Unit=>bn t.1/\BI k t.2.2.2.2.2.1) (fun t e=>dA ⟨e.2,e.1⟩) (fun J h=> ?_);refine cq (cK hk b.1) (fun r6 h6=> ?_)
 refine NP (fun t:aO×ah×ah×List bT×ah×ah×Int×Unit=>t.2.2.2.2.2.2.1.toNat)
  (fun t=>bn t.1/\bE k t.2.2.2.2.2.1=true/\vo t.2.2.2.1.length t.2.2.2.2.2.1/\t.2.2.2.1.length<=160/\t.2.2.2.2.2.2.1<=2000/\-1<=t.2.2.2.2.2.2.1) ?_ ⟨h6.1,f,g,by simp,?_,?_⟩ ?_
 rintro G ⟨c8,w1,w2,l,w3,w,i,u⟩ ⟨q1,q2,q3,q4,q5,q6⟩ hG;dsimp only at q1 q2 q3 q4 q5 q6 hG|-;refine dI (fun a=> ?_) (fun _=>h _ ⟨q1,q2,_,q4,q3⟩)
 have a:0<i/\(l.length:Int)<160:=by
  by_cases d:(0:Int)<i;rw[an (by simpa using d)]at a;exact⟨d,by simpa using a⟩;rw[a_ (by simpa using d)]at a;cases a
 refine cq (NN hk q1 q2) (fun j h9=>kL (c_ (by simp only[az3];omega)) ?_);have o:=F8 hk q2 q3 q4;refine ve (BV hk (by omega)) (ve (Ij hk (Nat.le_trans o (by decide)) q2 (by have:=h9.1.1;omega) (by have:=h9.1.2;omega)) ?_);have p:IntKind.i64.wrap (i-1)=i-1:=wrap64 (by omega) (by omega);rw[p];have hlen:(l++[j.1]).length=l.length+1:=by simp
 refine dI (fun n=> ?_) (fun _=> ?_);obtain⟨q,s⟩:=Rf hk q2 q3 q4 h9.1.1 n;exact hG _ ⟨h9.2,q,by dsimp only;rw[hlen];exact s,by dsimp only;rw[hlen];omega,by dsimp only;omega,by dsimp only;omega⟩ (by dsimp only;omega);refine hG _ ⟨h9.2,q2,?_,by dsimp only;rw[hlen];omega,by dsimp only;omega,by dsimp only;omega⟩ (by dsimp only;omega);dsimp only;rw[hlen];exact Ex.stay q3;have:=h6.2;dsimp only;rw[wrap64 (by omega) (by omega)];omega;have:=h6.2;dsimp only;rw[wrap64 (by omega) (by omega)];omega;have:=h6.2;dsimp only;rw[wrap64 (by omega) (by omega)];omega
theorem OU{b:List Int}{m:Int}(hb:b.length<=1048576)(a:0<=m):Dr (mr k (b,m,())) (fun r=>0<=r.1/\r.1<=1048576/\(r.1<=m\/m<0)):=by
 simp only[mr]
 have c:Int.tdiv (b.length:Int) 12=((b.length/12:Nat):Int):=by
  rw[Int.tdiv_eq_ediv_of_nonneg (by omega)];rfl
 rw[c,wrap64 (n:=((b.length/12:Nat):Int)) (by omega) (by omega),wrap64 (by omega) (by omega)];refine kL (by decide) (dI (fun h=> ?_) (fun h=> ?_));have h:m<3+((b.length/12:Nat):Int):=by simpa using h
 exact dA ⟨a,by dsimp only;omega,.inl (az0 _)⟩;have h:¬m<3+((b.length/12:Nat):Int):=by simpa using h
 exact dA ⟨by dsimp only;omega,by dsimp only;omega,.inl (by dsimp only;omega)⟩
def aeA{c:aO}{m:Int}(hc:bn c)(a:m<=1000):Dr (kM k (c,m,())) (fun r=>BI k r.1/\bn r.2.1):=by
 simp only[kM];obtain⟨r,e,h⟩:=ahr hk hc a;rw[e,azZ];exact⟨_,rfl,h⟩
def adO{b:List Int}(c:b.length<=1048576):Dr (jX k (b,())) (fun r=>BI k r.1):=by
 simp only[jX];obtain⟨r1,e,f⟩:=Qt hk c;rw[e,azZ];obtain⟨a,g,h2⟩:=OU hk (m:=110) c (by decide);rw[g,azZ];have d:IntKind.i64.wrap (40+a.1)=40+a.1:=wrap64 (by omega) (by omega);rw[d];obtain⟨r3,h,i⟩:=aeA hk f (show 40+a.1<=1000 by omega);rw[h,azZ];exact⟨_,rfl,i.1⟩
end
def XI{k:Nat}{w:ah}{i:Nat}(h:bE k w=true)(hi:i<5):(Eb true k w (i:Int)).2=(lZ true k w i).1:=by
 have a:aZ (i:Int) 0 4=true:=by unfold aZ;simp;omega
 unfold Eb;rw[h,a,az1,an (by rfl)];cases (lZ true k w i).1;rw[a_ (by decide)];rw[an rfl]
section
variable{k:Nat}(hk:9223372036854775808<=k)
include hk
def Bc(w:ah)(i:Nat):Int:=((cA w).getD i aq.aa).1
theorem VC{w:ah}(f:(cA w).length=5):Dr (LK k (w,())) (fun r=>0<=r.1/\(r.1=0↔∀j,j<5->Bc w j=0)):=by
 simp only[LK]
 refine NP (fun t:ah×Int×List aG×Int×Int×Unit=>(5-t.2.2.2.2.1).toNat) (fun t=>t.2.2.1=cA w/\t.2.2.2.1=5/\0<=t.2.2.2.2.1/\t.2.2.2.2.1<=5/\0<=t.2.1/\t.2.1<=5/\t.2.1<=t.2.2.2.2.1/\(t.2.1=0↔∀j:Nat,(j:Int)<t.2.2.2.2.1->Bc w j=0)) ?_
  ⟨rfl,by show((cA w).length:Int)=5;rw[f];rfl,az0 _,by show(0:Int)<=5;decide,az0 _,by show(0:Int)<=5;decide,az0 _,⟨fun _ j c=>absurd c (by show¬(j:Int)<0;omega),fun _=>rfl⟩⟩ (by show(5-(0:Int)).toNat<k;omega)
 rintro G ⟨w1,n,l,m,i,u⟩ ⟨q1,q2,q3,q4,q5,q5',q6,q7⟩ hG;dsimp only at q1 q2 q3 q4 q5 q5' q6 q7 hG|-;subst q1 q2;refine dI (fun a=>kL ?_ ?_) (fun d=>dA ⟨q5,?_⟩);have a:i<5:=by simpa using a
 rw[f];exact c_ ⟨q3,by omega⟩;have a:i<5:=by simpa using a
 have eo:((cA w).getD i.toNat aq.aa).1=Bc w i.toNat:=rfl;refine dI (fun b=> ?_) (fun b=> ?_);have b:¬Bc w i.toNat=0:=by simpa[bne_iff_ne,Bc]using b
 rw[wrap64 (by omega) (by omega),wrap64 (by omega) (by omega)];refine hG _ ⟨rfl,rfl,by dsimp only;omega,by dsimp only;omega,by dsimp only;omega,by dsimp only;omega,by dsimp only;omega,?_⟩ (by dsimp only;omega);dsimp only;exact⟨fun h=>by omega,fun h=>absurd (h i.toNat (by omega)) b⟩;have b:Bc w i.toNat=0:=by simpa[bne_iff_ne,Bc]using b
 rw[wrap64 (by omega) (by omega)];refine hG _ ⟨rfl,rfl,by dsimp only;omega,by dsimp only;omega,q5,q5',by dsimp only;omega,?_⟩ (by dsimp only;omega);dsimp only;refine q7.trans ⟨fun h j c=> ?_,fun h j c=>h j (by omega)⟩;by_cases e:(j:Int)<i;exact h j e;have:j=i.toNat:=by omega
 rw[this];exact b;have d:¬i<5:=by simpa using d
 have:i=5:=by omega
 subst this;dsimp only;exact q7.trans ⟨fun h j c=>h j (by omega),fun h j c=>h j (by omega)⟩
theorem ab3{w:ah}(h:bE k w=true)(p:¬∀j,j<5->Bc w j=0):∃j,j<5/\¬Bc w j=0/\(Eb true k w (j:Int)).2=true:=by
 obtain⟨i,f,d⟩:∃i,i<5/\¬Bc w i=0:=by
  refine az2 fun n=>p fun j o=> ?_;exact az2 fun h=>n ⟨j,o,h⟩
 obtain⟨c,q,U,st,e,Z,r,a,s,V,n_,l_,O,b⟩:=w;have R:=bF.1 h;by_cases l:uG k (c,q,U,st,e,Z,r,a,s,V,n_,l_,O,b) (i:Int)= -1;exact⟨i,f,d,by rw[XI h f,TN R f rfl d];exact c_ l⟩;obtain⟨j,g,j2,j3,m,t⟩:=aa5 R f rfl l;exact⟨j,g,m,by rw[XI h g,TN R g rfl m];exact c_ t⟩
def aeQ{w:ah}(h:BI k w):ai aD w<=1000000:=by
 obtain⟨a,n,b,c⟩:=h;exact F8 hk a c b
omit hk in
theorem Yb{w:ah}(h:bE k w=true):(cA w).length=5:=by
 obtain⟨c,ti,U,st,m_,Z,gr,A,nn,V,n_,l_,O,T⟩:=w;exact(bF.1 h).tl
omit hk in
theorem aeZ{w:ah}(h:bE k w=true){i:Nat}(hi:i<5):xb w (i:Int)=decide (Bc w i=0):=by
 unfold xb aZ;rw[Yb h,az1,c_ (show(0:Int)<=(i:Int) by omega),c_ (show(i:Int)<=((5:Nat):Int)-1 by omega)];rfl
def abr{w:ah}(h:BI k w):Dr (M8 k (w,())) (fun r=>r.1=false):=by
 have hs:=aeQ hk h;have y:=Yb h.1;simp only[M8];refine Nz (fun t:ah×Unit=>t.1=w/\∀j,j<5->Bc w j=0) ?_ (fun J B=> ?_);rintro⟨c,u⟩ ⟨e,v⟩;dsimp only at e|-;subst e;refine cq (VC hk y) (fun C h6=>dA ?_);have:C.1=0:=h6.2.2 v;dsimp only;rw[this];rfl
 refine NP (fun t:ah×List aG×Int×Int×Unit=>(5-t.2.2.2.1).toNat) (fun t=>t.1=w/\t.2.1=cA w/\t.2.2.1=5/\0<=t.2.2.2.1/\t.2.2.2.1<=5/\
  ((∀j,j<5->Bc w j=0)\/∃j:Nat,t.2.2.2.1<=(j:Int)/\j<5/\¬Bc w j=0/\(Eb true k w (j:Int)).2=true)) ?_
  ⟨rfl,rfl,by show((cA w).length:Int)=5;rw[y];rfl,az0 _,by show(0:Int)<=5;decide,?_⟩ (by show(5-(0:Int)).toNat<k;omega)
 rintro G ⟨c,l,m,i,u⟩ ⟨q1,q2,q3,q4,q5,o⟩ hG;dsimp only at q1 q2 q3 q4 q5 o hG|-;subst q1 q2 q3;refine dI (fun b=>kL ?_ ?_) (fun p=>B _ ⟨rfl,?_⟩);have b:i<5:=by simpa using b
 rw[y];exact c_ ⟨q4,by omega⟩;have b:i<5:=by simpa using b
 obtain⟨n,rfl⟩:∃n:Nat,i=(n:Int):=⟨i.toNat,by omega⟩
 rw[az1];have D:IntKind.i64.wrap ((n:Int)+1)=(n:Int)+1:=wrap64 (by omega) (by omega);rw[D];by_cases z:Bc c n=0;have d:(((cA c).getD n aq.aa).1 != (0:Int))=false:=by show(Bc c n != 0)=false;rw[z];rfl
 rw[d];refine cq (P:=fun _=>True) ⟨(false,()),rfl,trivial⟩ (fun r5 _=>dI (fun q=>by cases q) (fun _=>hG _ ⟨rfl,rfl,rfl,by dsimp only;omega,by dsimp only;omega,?_⟩ (by dsimp only;omega)));refine o.imp id ?_;rintro⟨j,x,f,g,s⟩;refine⟨j,?_,f,g,s⟩;have:¬j=n:=fun e=>g (by rw[e];exact z);dsimp only;omega;have d:(((cA c).getD n aq.aa).1 != (0:Int))=true:=by show(Bc c n != 0)=true;simpa[bne_iff_ne]using z
 rw[d];refine ve (a:=((Eb true k c (n:Int)).2,())) (U9 hk (by omega)) (dI (fun _=>dA rfl) (fun q=>hG _ ⟨rfl,rfl,rfl,by dsimp only;omega,by dsimp only;omega,?_⟩ (by dsimp only;omega)));have q:(Eb true k c (n:Int)).2=false:=by simpa using q
 refine o.imp id ?_;rintro⟨j,x,f,g,s⟩;refine⟨j,?_,f,g,s⟩;have:¬j=n:=fun e=>by rw[e,q]at s;cases s
 dsimp only;omega;have p:¬i<5:=by simpa using p
 rcases o with o|⟨j,x,f,_⟩;exact o;omega;by_cases v:∀j,j<5->Bc w j=0;exact .inl v;obtain⟨j,x,f,g⟩:=ab3 hk h.1 v;exact .inr ⟨j,by show(0:Int)<=(j:Int);omega,x,f,g⟩
def W9(x:List Int):vE k (x,())=some (true,()):=by
 have key:Dr (vE k (x,())) (fun r=>r.1=true):=by
  simp only[vE];have B:vT k (x,())=some (decide ((x.length:Int)>1048576),()):=rfl;refine ve B (dI (fun _=>dA rfl) (fun p=> ?_))
  have p:x.length<=1048576:=by have:¬(x.length:Int)>1048576:=by simpa using p
                               omega
  refine cq (adO hk p) (fun X g=>cq (abr hk g) (fun r3 Y=> ?_));obtain⟨w,u⟩:=X;dsimp only at g|-;have hs:=aeQ hk g;have h5:=Yb g.1;rw[Y]
  have e4:(if((false:Bool)==false)=true then iV k (w,())else some (false,()))=some (true,()):=by
   show iV k (w,())=some (true,());rw[vM hk (by omega),g.1]
  refine ve e4 ?_;refine dI (fun v=>by cases v) (fun _=>cq (VC hk h5) (fun r5 J=> ?_))
  refine NP (fun t:ah×Bool×Int×Unit=>(5-t.2.2.1).toNat) (fun t=>t.1=w/\0<=t.2.2.1/\t.2.2.1<=5/\
   (t.2.1=true\/∃j:Nat,t.2.2.1<=(j:Int)/\j<5/\¬Bc w j=0/\(Eb true k w (j:Int)).2=true)) ?_ ⟨rfl,az0 _,by show(0:Int)<=5;decide,?_⟩ (by show(5-(0:Int)).toNat<k;omega)
  rintro G ⟨w1,F,i,u1⟩ ⟨q1,q2,q3,q4⟩ hG;dsimp only at q1 q2 q3 q4 hG|-;subst q1;refine dI (fun y=> ?_) (fun z=>dA ?_);have y:i<5:=by simpa using y
  obtain⟨n,rfl⟩:∃n:Nat,i=(n:Int):=⟨i.toNat,by omega⟩
  have H:n<5:=by omega
  have ew:IntKind.i64.wrap ((n:Int)+1)=(n:Int)+1:=wrap64 (by omega) (by omega);rw[ew];refine ve (VR hk (by omega)) ?_;rw[aeZ g.1 H];refine dI (fun m=>hG _ ⟨rfl,by dsimp only;omega,by dsimp only;omega,?_⟩ (by dsimp only;omega)) (fun m=> ?_);have m:Bc w1 n=0:=by simpa using m
  refine q4.imp id ?_;rintro⟨j,I,q,s,D⟩;refine⟨j,?_,q,s,D⟩;have:¬j=n:=fun e=>s (by rw[e];exact m);dsimp only;omega;have m:¬Bc w1 n=0:=by simpa using m
  have R:=U9 hk (w:=w1) (i:=(n:Int)) (by omega)
  have C:(Eb true k w1 (n:Int)).2=decide (uG k w1 (n:Int)= -1):=by
   rw[XI g.1 H];have h:=g.1;obtain⟨c,ti,U,st,E,Z,gr,l,nn,V,n_,l_,O,o⟩:=w1;exact TN (bF.1 h) H rfl m
  have K:¬uG k w1 (n:Int)= -1->¬uG k w1 (n:Int)=(n:Int)/\xb w1 (uG k w1 (n:Int))=false:=by
   intro d;have h:=g.1
   have:∃j:Nat,j<5/\uG k w1 (n:Int)=(j:Int)/\¬j=n/\¬Bc w1 j=0:=by
    obtain⟨c,ti,U,st,E,Z,gr,l,nn,V,n_,l_,O,o⟩:=w1;obtain⟨j,N,P,W,Q,_⟩:=aa5 (bF.1 h) H rfl d;exact⟨j,N,P,W,Q⟩
   obtain⟨j,N,P,W,Q⟩:=this;rw[P];exact⟨by omega,by rw[aeZ h N];exact decide_eq_false Q⟩
  refine ve (WV hk (by omega)) ?_
  have L:(if((F:Bool)==false)=true then D0 k (w1,(n:Int),())else some (false,()))=some (if F=true then false else(Eb true k w1 (n:Int)).2,()):=by
   cases F;exact R;rfl
  refine ve L (ve R ?_);dsimp only;by_cases d:uG k w1 (n:Int)= -1;have f:(Eb true k w1 (n:Int)).2=true:=by rw[C];exact c_ d
  have M:((-1:Int)==(n:Int))=false:=by simp
  rw[f,d,M];refine ve (a:=(false,())) rfl ?_;refine dI (fun v=>by cases v) (fun _=>hG _ ⟨rfl,by dsimp only;omega,by dsimp only;omega,.inl ?_⟩ (by dsimp only;omega));cases F<;>rfl;have f:(Eb true k w1 (n:Int)).2=false:=by rw[C];exact decide_eq_false d
  obtain⟨b1,b2⟩:=K d;have c1:(uG k w1 (n:Int)==(-1:Int))=false:=by simpa using d
  have c2:(uG k w1 (n:Int)==(n:Int))=false:=by simpa using b1
  have c3:(uG k w1 (n:Int) != (-1:Int))=true:=by simpa[bne_iff_ne]using d
  rw[f,c1,c2,c3];refine ve (a:=(false,())) (show Is k (w1,uG k w1 (n:Int),())=some (false,())from by rw[VR hk (w:=w1) (by omega),b2]) ?_;refine dI (fun v=>by cases v) (fun _=>hG _ ⟨rfl,by dsimp only;omega,by dsimp only;omega,?_⟩ (by dsimp only;omega));rcases q4 with q4|⟨j,I,q,s,D⟩;exact .inl (by rw[q4];rfl);refine .inr ⟨j,?_,q,s,D⟩;have:¬j=n:=fun e=>by rw[e,f]at D;cases D
  dsimp only;omega;have z:¬i<5:=by simpa using z
  rcases q4 with q4|⟨j,I,q,_⟩;exact q4;omega;dsimp only;by_cases S:∀j,j<5->Bc w j=0;exact .inl (by rw[J.2.2 S];rfl);obtain⟨j,I,q,s⟩:=ab3 hk g.1 S;exact .inr ⟨j,by omega,I,q,s⟩
 obtain⟨⟨b,u⟩,e,p⟩:=key;rw[e];dsimp only at p;rw[p]
def Yu{x:List Int×Unit}(hx:Fits (.sl (.int .u8)) x.1):vE k x=some (true,()):=W9 hk x.1
end
end Vg.Tryz
namespace Go.Proofs.YtgikmhjpcnnhjaaGreat.fnNobodyStuck
open Go.ChangeShapes Go.WideShapes Go.ChangeAt Go.RowKit Vg
def laid:laidOutB Tryz.prog=true:=by kernel_rfl
def e_9:(Rows.fnNobodyStuckRow.inPlace==Program.inPlace Tryz.prog 3)=true:=by kernel_rfl
def ad4:(Rows.fnNobodyStuckRow.unfollowed==Program.unfollowed Tryz.prog 3)=true:=by kernel_rfl
def ac8:(Rows.fnNobodyStuckRow.recurses==Program.recurses Tryz.prog 3)=true:=by kernel_rfl
def abS:(Rows.fnNobodyStuckRow.named==Program.varsNamed Tryz.prog 3)=true:=by kernel_rfl
def acG:(Rows.fnNobodyStuckRow.plainKeys==Program.plainKeys Tryz.prog)=true:=by kernel_rfl
def ac6:Program.stopsHeard Tryz.prog=true:=by kernel_rfl
def adw:Program.mayEnter Tryz.prog=true:=by kernel_rfl
def adq:(Rows.fnNobodyStuckRow.lifted==Program.liftsFinal Tryz.prog)=true:=by kernel_rfl
def adH:(Program.make Tryz.prog==some Rows.fnNobodyStuckRow.make)=true:=by kernel_rfl
def facts:joinedFacts Tryz.prog 3 Tryz.f3 Rows.fnNobodyStuckSpec Rows.fnNobodyStuckRow=true:=by
 unfold joinedFacts;simp only[Bool.and_eq_true]
 repeat' apply And.intro
 kernel_rfl
 exact laid
 kernel_rfl
 kernel_rfl
 kernel_rfl
 kernel_rfl
 kernel_rfl
 kernel_rfl
 kernel_rfl
 exact e_9;exact ad4;exact ac8;exact abS
 kernel_rfl
 kernel_rfl
 kernel_rfl
 kernel_rfl
 kernel_rfl
 kernel_rfl
 kernel_rfl
 kernel_rfl
 kernel_rfl
 exact acG
 kernel_rfl
 exact ac6;exact adw;exact adq;exact adH
 kernel_rfl
 kernel_rfl
 kernel_rfl
 kernel_rfl
end Go.Proofs.YtgikmhjpcnnhjaaGreat.fnNobodyStuck
