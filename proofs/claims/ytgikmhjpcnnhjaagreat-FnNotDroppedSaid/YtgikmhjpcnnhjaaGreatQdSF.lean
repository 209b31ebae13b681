/- Texts of this law, joined. -/
import Derived.Test.YtgikmhjpcnnhjaaGreatQdRF
import Derived.Test.YtgikmhjpcnnhjaaGreatQdPH
import Derived.Test.YtgikmhjpcnnhjaaGreatXd
import Derived.Test.YtgikmhjpcnnhjaaGreatQdE1
import Derived.Test.YtgikmhjpcnnhjaaGreatRows
import Derived.Test.YtgikmhjpcnnhjaaGreatXc
set_option linter.unusedSimpArgs false
set_option linter.unusedVariables false
set_option linter.unusedSectionVars false
set_option linter.defProp false
open Option renaming bind_some -> k_,bind -> P',isSome_iff_exists -> awV
open Bool renaming false_eq_true -> A_,and_eq_true -> A',not_eq_true -> awq,not_false -> awD,true_and -> awE,false_and -> awK,true_or -> awP,and_false -> aw3,or_true -> aw7
open List renaming mem_singleton -> awn,length_singleton -> awp,replicate -> awr,length_append -> aws,mem_append_right -> awt,length_set -> awu,mem_append_left -> awv,map_cons -> aww,length -> awx,map_append -> awy,foldl_cons -> awz,getD -> awA,length_drop -> awB,mem_or_eq_of_mem_set -> awG,mem_cons_self -> awI,mem_replicate -> awJ,foldl_append -> awM,length_take -> awN,mem_append -> awO,eq_nil_iff_forall_not_mem -> awQ,getElem_of_mem -> awR,getElem_drop -> awT,map_nil -> awX,filter_cons_of_pos -> awY,filter_cons_of_neg -> awZ,length_map -> aw0,append_nil -> aw1,length_filter_le -> aw2,mem_of_mem_drop -> aw4,reverse_reverse -> aw5,mem_iff_getElem -> aw6,filter_append -> aw8,getElem_take -> aw9,reverse_cons -> axa,mem_reverse -> axb,take_length -> axc,not_mem_nil -> axd,mem_filter -> axe
open Int renaming le_refl -> awC,toNat -> awH,toNat_natCast -> awL
open Nat renaming le_refl -> awF,lt_or_gt_of_ne -> awS,le_trans -> awU,le_add_right -> awW
namespace Vg.Tryz
open Go Vg
def MU(l:List af)(a:af):(gy l a).length<=l.length+1:=by
 unfold gy;split;rw[awu];omega;simp only[aws,awN,awB,awp];omega
def JC(l:List aF)(t:aF):(tf l t).length=l.length+1:=by
 rw[(oY l t).length_eq,aws,awp]
section
variable{k:Nat}(hk:9223372036854775808<=k)
include hk
variable{c:aY}{ti U gr nn:Int}{st:List au}{m_:List bo}{Z l_:List af}{A:List aw}{V:List aF}{n_:List bq}{O:List aG}{T:List aA}{n i:Nat}{t:aG}
omit hk in
theorem Ex.join{t':aG}{u:List af}{a:List aw}{v:Int}{o:List aF}{q:List aA}(h:Ex n c ti st Z A nn V n_ l_ O T)(E:0<=ti)(hn:n<=1000)(tl:O.length=5)(G:O.getD 3 aq.aa=t)
 (hf:ai (.sl ae) u<=ai (.sl ae) Z) (hd:ai (.sl ay) q<=ai (.sl ay) T+3000) (hnn:v<=nn+1) (z:o.length+A.length<=V.length+a.length)
 (w:rU V (O.getD 4 aq.aa)->rU o (O.getD 4 aq.aa)) (hpot:3*j8 a+dZ t'<=3*j8 A+dZ t+1) (H:t'.2.2.2.2.2.2.1.length<=8*t'.2.2.2.2.2.1.length):
 Ex (n+1) c (tick ti) st u a v o n_ l_ (O.set 3 t') q:=by
 have e:=ow E (by have:=h.ti;omega);have B:(O.set 3 t').getD 3 aq.aa=t':=aL _ _ (by omega);have y:(O.set 3 t').getD 4 aq.aa=O.getD 4 aq.aa:=getD_set_ne _ _ (by omega);have a1:=h.ti;have a2:=h.nn;have a3:=h.fe;have a4:=h.sa;have I:=h.pot;have a6:=h.de;have a7:=h.hp;rw[G]at I;refine⟨by rw[e];omega,by omega,fun p z=>by have:=h.ver p z;omega,by rw[y];omega,by rw[y];exact w h.fr,by omega,by omega,by rw[B,y];omega,h.sk,by omega,fun j D=> ?_⟩;by_cases C:3=j;subst C;rw[B];exact H;rw[getD_set_ne _ _ C];exact h.tg j D
def TD(h:Rt k c ti U st m_ Z gr A nn V l_ O T)(y:Ex n c ti st Z A nn V n_ l_ O T)(hn:n<=160):
 (hZ true k (c,ti,U,st,m_,Z,gr,A,nn,V,n_,l_,O,T)).1=true->
 ∃B o H a C p b f,(hZ true k (c,ti,U,st,m_,Z,gr,A,nn,V,n_,l_,O,T)).2=(c,B,U,st,m_,o,H,a,C,p,n_,l_,b,f)/\
  Ex (n+1) c B st o a C p n_ l_ b f:=by
 generalize u:O.getD 3 aq.aa=t;have J:=h.tas 3 (by decide);rw[u]at J;have E:=y.tg 3 (by decide);rw[u]at E;unfold hZ gw;dsimp only;rw[u];by_cases z:t.1=0;rw[an z];by_cases L:Z.length=0;rw[an L];intro D;simp[bC]at D;rw[a_ L,aU];intro _;have ha:=jN hk (h.sub.fee _ (bz (d:=ae.aa) (i:=0) (by omega)));have hdr:=cB (e:=ae) Z 1;refine⟨_,_,_,_,_,_,_,_,rfl,y.join h.ti0 (by omega) h.tl u (by omega) (oy hk ?_) (by omega) (by omega) id ?_ (by unfold vp;simp)⟩;have e:ai ay (Dv (Z.getD 0 ae.aa) U ti)=ai ae (Z.getD 0 ae.aa)+ai (.sl ak) ([]:List ag)+ai (.sl ae) ([]:List af):=cU hk _;rw[e,bd,bd];omega;have:dZ (vp (Z.getD 0 ae.aa) (T.length:Int))=1:=rfl;omega;rw[a_ z]
 have N:t.1=5:=by
  have P:=gM (k:=k) (w:=(c,ti,U,st,m_,Z,gr,A,nn,V,n_,l_,O,T)) (i:=3) J;omega
 have q:=(je N).1 J;obtain⟨_,R,hb,D,hv1,hw⟩:=dM h (by decide) u z;have s:∀(d:aA) (code:Int),ai ay d<=ai ay (T.getD (bm t).toNat ay.aa)->ai (.sl ay) (T.set (bm t).toNat (eC true false d U ti code []))<=ai (.sl ay) T+3000:=fun d code D=>kD hk R (awU (mW hk) (by rw[bd];omega))
 have v:∀m,ai ay (qn (T.getD (bm t).toNat ay.aa) m)<=ai ay (T.getD (bm t).toNat ay.aa):=fun m=>by
  unfold qn;rw[cU hk,cU hk];exact awF _
 by_cases G:t.2.1=0;rw[an G];unfold iy;dsimp only;rw[u];by_cases M:gr= -1;rw[an M,aU];intro _;refine⟨_,_,_,_,_,_,_,_,rfl,y.join h.ti0 (by omega) h.tl u (by omega) (by omega) (by omega) (by omega) id ?_ E⟩;have e1:dZ t=1:=by unfold dZ;rw[a_ z,an G]
 have e2:dZ (t.1,(1:Int),t.2.2)=2:=by unfold dZ;rw[a_ z];rfl
 omega;rw[a_ M];intro D;simp[bC]at D;rw[a_ G];have hnn0:=h.nn0;have hnnb:=y.nn;have ep:dZ t=2:=by unfold dZ;rw[a_ z,a_ G]
 have ez:dZ zT=0:=rfl;cases K:eJ A (keyOf t.2.2.1 c.2.2.2.2.2)with
 |none=>
  dsimp only;by_cases F:12<=A.length;rw[an F,aU];intro _;exact⟨_,_,_,_,_,_,_,_,rfl,y.join h.ti0 (by omega) h.tl u (awF _) (s _ 3 (awF _)) (by omega) (by omega) id (by omega) lp⟩;rw[a_ F,aU];intro _;refine⟨_,_,_,_,_,_,_,_,rfl,y.join h.ti0 (by omega) h.tl u (awF _) (s _ 1 (v nn)) (by rw[wrap64 (by omega) (by omega)];omega) ?_ ?_ ?_ lp⟩;rw[JC,aws,awp];omega;intro I h6 x r;rcases awO.1 ((oY _ _).mem_iff.1 r)with r|r;exact I h6 x r;rw[awn.1 r];have Q:=h.tas 4 (by decide);have:=((fP h6).1 Q).2.2.2.2.2.2.2;show¬nn=_;omega;rw[P5];have:j8 [na c t.2.2.1 nn U]=1:=rfl;omega
 |some j=>
  dsimp only;rw[aU];intro _;refine⟨_,_,_,_,_,_,_,_,rfl,y.join h.ti0 (by omega) h.tl u (awF _) (s _ 2 (v _)) (by omega) (by rw[awu];omega) id ?_ lp⟩;have P:=Br (l:=A) (i:=j) (g:=ij (A.getD j al.aa) t.2.2.1) (pJ K).1;have h2:(ij (A.getD j al.aa) t.2.2.1).2.2.2.2.length<=(A.getD j al.aa).2.2.2.2.length+1:=MU _ _;omega
omit hk in
theorem Ex.flush{t':aG}{o:List aw}{q:List aF}{a:List bq}{u:List aA}(h:Ex n c ti st Z A nn V n_ l_ O T)(D:0<=ti)(hn:n<=1000)(tl:O.length=5)
 (E:ai (.sl ay) u<=3000*(n+1)+97*gS a.length) (y:q.length+(if t'.1=6 then 1 else 0)<=o.length)
 (z:rU q t') (v:3*j8 o+3*a.length+dZ (O.getD 3 aq.aa)+dZ t'<=n+1) (hs:ai (.sl cw) a<=200*a.length+97*gS a.length) (G:t'.2.2.2.2.2.2.1.length<=8*t'.2.2.2.2.2.1.length):
 Ex (n+1) c (tick ti) st Z o nn q a l_ (O.set 4 t') u:=by
 have e:=ow D (by have:=h.ti;omega);have H:(O.set 4 t').getD 3 aq.aa=O.getD 3 aq.aa:=getD_set_ne _ _ (by omega);have w:(O.set 4 t').getD 4 aq.aa=t':=aL _ _ (by omega);have a1:=h.ti;have a2:=h.nn;have a3:=h.fe;have a4:=h.sa;refine⟨by rw[e];omega,by omega,fun p y=>by have:=h.ver p y;omega,by rw[w];exact y,by rw[w];exact z,by omega,by omega,by rw[H,w];exact v,hs,E,fun j C=> ?_⟩;by_cases B:4=j;subst B;rw[w];exact G;rw[getD_set_ne _ _ B];exact h.tg j C
omit hk in
theorem Lk(l:List aw)(m U:Int):j8 (dm l m U)<=j8 l:=by
 unfold dm;cases e:dW l m with
 |none=>exact awF _
 |some i=>
  dsimp only;split;exact QM _ _;have h1:=Br (l:=l) (i:=i) (g:=fR (l.getD i al.aa) U) (fQ e).1
  have h2:(fR (l.getD i al.aa) U).2.2.2.2.length<=(l.getD i al.aa).2.2.2.2.length:=by
   unfold fR dh;exact aw2 _ _
  omega
omit hk in
theorem MW{c:aY}{V:List aF}{l:List aw}{m U:Int}{by_:List ByteArray}(p:dQ l by_=true)(h:V.length+1<=l.length):(sT c V (dm l m U) m).length<=(dm l m U).length:=by
 unfold sT;cases a:dW (dm l m U) m with
 |none=>
  dsimp only;unfold dm;cases e:dW l m with
  |none=>dsimp only;omega
  |some i=>
   dsimp only;have:=(fQ e).1;split;simp only[aws,awN,awB];omega;rw[awu];omega
 |some j=>
  dsimp only;rw[JC];unfold dm at a|-;cases e:dW l m with
  |none=>dsimp only;omega
  |some i=>
   rw[e]at a;dsimp only at a|-;obtain⟨s,k2⟩:=fQ e;by_cases o:(fR (l.getD i al.aa) U).2.2.2.2=[]
   exfalso;rw[an o]at a;obtain⟨u,j2⟩:=fQ a;have r:=bz (d:=al.aa) u;have b:=jh (d:=al.aa).2 (cj.1 p).2.2.1;generalize (l.take i++l.drop (i+1)).getD j al.aa=g at*
   rcases awO.1 r with h|h;obtain⟨q,f,eq⟩:=awR h;rw[awN]at f;rw[aw9]at eq;have:=b i s q (by omega);rw[bJ _ (show q<l.length by omega),eq]at this;omega;obtain⟨q,f,eq⟩:=awR h;rw[awB]at f;rw[awT]at eq;have:=b (i+1+q) (by omega) i (by omega);rw[bJ _ (show i+1+q<l.length by omega),eq]at this;omega;rw[a_ o,awu];omega
def Qd(h:Rt k c ti U st m_ Z gr A nn V l_ O T)(r:Ex n c ti st Z A nn V n_ l_ O T)(hn:n<=160):
 (fq true k (c,ti,U,st,m_,Z,gr,A,nn,V,n_,l_,O,T)).1=true->
 ∃y K b m o f g,(fq true k (c,ti,U,st,m_,Z,gr,A,nn,V,n_,l_,O,T)).2=(c,y,U,st,m_,Z,K,b,nn,m,o,l_,f,g)/\
  Ex (n+1) c y st Z b nn m o l_ f g:=by
 generalize v:O.getD 4 aq.aa=t;have M:=h.tas 4 (by decide);rw[v]at M;have z:=r.tg 4 (by decide);rw[v]at z;have C:=r.hp;have R:=r.fr;have a4:=r.pot;have N:=r.sk;have a6:=r.de;rw[v]at C R a4;unfold fq eX;dsimp only;rw[v];by_cases u:t.1=0;rw[an u];by_cases p:pz V U=true;rw[an p,aU];intro _;have I:0<V.length:=by unfold pz at p;simp only[A',b_]at p;exact p.1
 have S:=vG I;have hlen:=S.length_eq;rw[List.length_cons]at hlen;rw[a_ (by omega)]at C;have ep:dZ t=0:=by unfold dZ;rw[an u]
 have hdd:=oy hk (l:=T) (d:=u7 (dS V).2.1.2 U ti) (B:=1) (by
  have e:ai ay (u7 (dS V).2.1.2 U ti)=ai ae bU+ai (.sl ak) ([]:List ag)+ai (.sl ae) ([]:List af):=cU hk _;rw[e,jQ hk,bd,bd];omega)
 refine⟨_,_,_,_,_,_,_,rfl,r.flush h.ti0 (by omega) h.tl (by omega) (by rw[an (by rfl)];omega) ?_ (by have:dZ (qH (dS V).2.1.2 (T.length:Int))=1:=rfl;omega) N (by unfold qH;simp)⟩;intro _ x L;have P:=(qe S).2 h.grp.ap;have:=(List.pairwise_cons.1 P).1 x L;exact fun e=>this e.symm;rw[a_ p];intro H;simp[bC]at H;rw[a_ u]
 have Q:t.1=6:=by
  have h1:=gM (k:=k) (w:=(c,ti,U,st,m_,Z,gr,A,nn,V,n_,l_,O,T)) (i:=4) M;omega
 have q:=(fP Q).1 M;obtain⟨_,I,hb,H,hv1,hw⟩:=dM h (by decide) v u;rw[an Q]at C;by_cases J:t.2.1=0;rw[an J];unfold iy;dsimp only;rw[v];by_cases D:gr= -1;rw[an D,aU];intro _;have e1:dZ t=1:=by unfold dZ;rw[a_ u,an J]
 have e2:dZ (t.1,(1:Int),t.2.2)=2:=by unfold dZ;rw[a_ u];rfl
 exact⟨_,_,_,_,_,_,_,rfl,r.flush h.ti0 (by omega) h.tl (by omega) (by rw[an Q];exact C) R (by omega) N z⟩;rw[a_ D];intro H;simp[bC]at H;rw[a_ J];have ep:dZ t=2:=by unfold dZ;rw[a_ u,a_ J]
 have ez:dZ zT=0:=rfl;have E:∀l:List aF,rU l zT:=fun l h6=>absurd h6 (by decide);by_cases s:kf A t.2.2.2.2.2.2.2.1=true;rw[an s,aU];intro _;have hm:=Lk A t.2.2.2.2.2.2.2.1 U
 obtain⟨j,X⟩:∃j,dW A t.2.2.2.2.2.2.2.1=some j:=by
  unfold kf at s;exact awV.1 s
 obtain⟨Y,k2⟩:=fQ X;have W:gj A t.2.2.2.2.2.2.2.1 U=qs (A.getD j al.aa) U:=by unfold gj;rw[X]
 have F:=gk.1 ((cj.1 h.grp.go).2.1 _ (bz (d:=al.aa) Y));have t1:=uU hk F.2.1;have t2:=iK hk fun a ha=>(F.2.2.2.2.2.1 a ha).1;have t3:=SM (l:=A) Y;have tb:ai cw (qs (A.getD j al.aa) U)=ai (.sl ak) (A.getD j al.aa).2.1+ai (.sl ae) (A.getD j al.aa).2.2.2.2:=pK hk _;have G:gS (n_.length+1)=gS n_.length+(52-n_.length):=rfl;refine⟨_,_,_,_,_,_,_,rfl,r.flush h.ti0 (by omega) h.tl ?_ ?_ (E _) ?_ ?_ lp⟩;rw[aws,awp,G,W];have hf:=kD hk I (d':=eC true true (T.getD (bm t).toNat ay.aa) U ti 8 (qs (A.getD j al.aa) U).2.2.2) (B:=ai (.sl ae) (A.getD j al.aa).2.2.2.2) (mW hk);omega;rw[a_ (by decide)];exact MW h.grp.go C;rw[aws,awp];omega;rw[aws,awp,G,W,gZ,bW,bd,tb];omega;rw[a_ s,aU];intro _;have hf:=kD hk I (d':=eC true false (T.getD (bm t).toNat ay.aa) U ti 6 []) (B:=0) (awU (mW hk) (by rw[bd];omega));exact⟨_,_,_,_,_,_,_,rfl,r.flush h.ti0 (by omega) h.tl (by omega) (by rw[a_ (by decide)];omega) (E _) (by omega) N lp⟩
end
def dO(s:bo):bo×af×Int:=
 if s.2=true then(([],false),bU,2)else if s.1.length=0 then(([],false),bU,0)else((s.1.drop 1,false),s.1.getD 0 ae.aa,1)
def zl(i:Int)(s:bo)(U ti:Int):aA:=
 (9,-1,bU,[],i,0,if(dO s).2.2=1 then 5 else if(dO s).2.2=2 then 7 else 6,if(dO s).2.2=1 then [(dO s).2.1]else [],U,ti,ti,ti)
def cG(w:ah):List bo:=w.2.2.2.2.1
def O8(w:ah)(i:Int):ah:=
 (w.1,tick w.2.1,w.2.2.1,w.2.2.2.1,(cG w).set i.toNat (dO ((cG w).getD i.toNat aW.aa)).1,w.2.2.2.2.2.1,w.2.2.2.2.2.2.1,w.2.2.2.2.2.2.2.1,w.2.2.2.2.2.2.2.2.1,w.2.2.2.2.2.2.2.2.2.1,w.2.2.2.2.2.2.2.2.2.2.1,w.2.2.2.2.2.2.2.2.2.2.2.1,cA w,
  bG w++[zl i ((cG w).getD i.toNat aW.aa) w.2.2.1 w.2.1])
def V4(w:ah)(n:Int):ah:=(w.1,tick w.2.1,n,w.2.2.2)
def rh(k:Nat)(w:ah)(e:bT):Bool×ah:=
 if e.1=1 then(if cT w e.2.1=true then(true,if cm e.2.2.1=true then gf w e.2.1 (qo e.2.2.1) 1 else refused w e.2.1 e.2.2.1)else(false,w))
 else if e.1=2 then(if(cT w e.2.1&&cZ e.2.2.2)=true then(true,gf w e.2.1 (rY e.2.2.2) 3)else(false,w))
 else if e.1=3 then(if cT w e.2.1=true then(true,gf w e.2.1 oR 4)else(false,w))
 else if e.1=4 then(if cT w e.2.1=true then(true,gf w e.2.1 pd 6)else(false,w))
 else if e.1=5 then(if aZ e.2.1 0 4=true then lZ true k w e.2.1.toNat else(false,w))
 else if e.1=6 then(if aZ e.2.1 0 ((cG w).length-1)=true then(true,O8 w e.2.1)else(false,w))
 else if e.1=7 then(if aZ e.2.1 1 20=true/\w.2.2.1+e.2.1<=99899 then(true,V4 w (w.2.2.1+e.2.1))else(false,w))
 else(false,w)
section
variable{k:Nat}(hk:9223372036854775808<=k)
include hk
def Kl{s:bo}(hs:ai aW s<=1048576):kC k (s,())=some ((dO s).1,(dO s).2.1,(dO s).2.2,()):=by
 rw[nj hk]at hs;have hl:=az (e:=ae) (l:=s.1);simp only[kC];unfold dO;by_cases a:s.2=true;rw[an a,an a];rfl;rw[a_ a,a_ a];by_cases b:s.1.length=0;rw[an (by simpa using b),an b];rfl;have h3:=cB (e:=ae) s.1 1;have h4:=dq (e:=ae) (l:=s.1) (i:=0) (d:=ae.aa) (by omega);rw[a_ (by simpa using b),a_ b,an (by simp;omega),show awH 1=1 from rfl,ff hk (by omega),k_,an (by simp;omega),show awH 0=0 from rfl,cR hk (by omega),k_]
def AH{w:ah}{i:Int}{a:af}(hs:ai aD w<=1048576)(f:ai ae a<=1048576)(hc:cT w i=true):
 kP k (w,i,a,())=some (if cm a=true then gf w i (qo a) 1 else refused w i a,()):=by
 obtain⟨q1,q2,q3⟩:=ym hc;simp only[kP,aN,Jc hk f,k_];by_cases b:cm a=true;have:=Ma hk (w:=w) (i:=i) (t:=qo a) hs (by rw[dy hk];simp[qo,ai]at f|-;omega) (show(0:Int)<=1 by decide) (show(1:Int)<=6 by decide) q1 q3;simp only[Rm]at this;rw[an b,an b];cases d:cS k (w,i,qo a,())with
 |none=>rw[d]at this;cases this
 |some z=>
  rw[d,k_]at this;have e:cS k (w,i,((1:Int),(0,(a,(([]:List ag),(0,(([]:List Int),(([]:List af),(0,0)))))))),())=some z:=d;rw[e,k_];have g:=Option.some.inj this;have h:(z.1.1,(IntKind.i64.wrap (z.1.2.1+(1:Int)),z.1.2.2))=gf w i (qo a) 1:=congrArg Prod.fst g;rw[h]
 rw[awq]at b;rw[a_ (by simp[b]),a_ (by simp[b]),cR hk (by omega),k_,mF hk hs,k_];rfl
def S5{w:ah}{i:Nat}(hs:ai aD w<=1048576)(hi:i<(cG w).length):ai aW ((cG w).getD i aW.aa)<=1048576:=by
 have h1:=iI hk w;have h2:=dq (e:=aW) (l:=cG w) (d:=aW.aa) hi;have h3:ai (.sl aW) (cG w)<=ai aD w:=by unfold cG;omega
 omega
set_option maxHeartbeats 4000000 in
def Ij{w:ah}{e:bT}(hs:ai aD w<=1048000)(h:bE k w=true)(ha:ai ae e.2.2.1<=10000)(J:ai (.sl ak) e.2.2.2<=10000):
 nR k (w,e,())=some ((rh k w e).1,(rh k w e).2,()):=by
 obtain⟨kind,K,a,l⟩:=e;dsimp only at ha J
 have L:(cA w).length=5:=by
  obtain⟨c,ti,U,st,m_,Z,gr,A,nn,V,n_,l_,O,T⟩:=w;exact(bF.1 h).tl
 have hnow:0<=w.2.2.1/\w.2.2.1<=99899:=by
  obtain⟨c,ti,U,st,m_,Z,gr,A,nn,V,n_,l_,O,T⟩:=w;exact(bF.1 h).nw
 have hsub:(cG w).length<=1048576:=by
  have D:=iI hk w;have M:=az (e:=aW) (l:=cG w);have N:ai (.sl aW) (cG w)<=ai aD w:=by unfold cG;omega
  omega
 have f:(!((aZ K 0 2:Bool)==true)||decide (0<=K/\K<((cA w).length:Int)))=true:=by
  rw[L];by_cases b:aZ K 0 2=true;have:0<=K/\K<((5:Nat):Int):=by unfold aZ at b;simp only[A',b_]at b;omega
  rw[c_ this,aw7];rw[awq]at b;rw[b];rfl
 have E:(if aZ K 0 2=true then decide ((w.2.2.2.2.2.2.2.2.2.2.2.2.1.getD K.toNat aq.aa).1=0)else false)=cT w K:=by
  unfold cT xb;rw[L];by_cases b:aZ K 0 2=true;have h6:aZ K 0 ((5:Nat)-1:Int)=true:=by unfold aZ at b|-;simp only[A',b_]at b|-;omega
  rw[an b,b,h6,awE,awE];rw[a_ b];rw[awq]at b;rw[b];rfl
 have F:∀(t:aG),t.2.2.1=vY->t.2.2.2.2.2.1=[]->t.2.2.2.2.2.2.1=[]->ai (.sl ak) t.2.2.2.1<=10000->ai aq t<=1048576:=fun t Y e2 e3 e4=>by
  rw[dy hk,Y,e2,e3];have:ai ae vY=0:=jQ hk;have n1:ai (.sl (.int .i64)) ([]:List Int)=0:=bd;have n2:ai (.sl ae) ([]:List af)=0:=bd;omega
 have d:∀(t:aG),cT w K=true->ai aq t<=1048576->0<=t.1->t.1<=6->dF k (w,K,t,())=some (gf w K t (awA [0,1,3,4,6,7,8] t.1.toNat 0),()):=fun t hc ht h0 D=>by
  obtain⟨q1,q2,q3⟩:=ym hc;exact Hl hk (by omega) ht h0 D q1 q3
 simp only[nR,aN,vF hk,k_];refine(an f).trans ?_;simp only[cE];simp only[E];unfold rh;dsimp only;by_cases g:kind=1;subst g;by_cases hc:cT w K=true;simp only[hc,decide_true,if_true,AH hk (show ai aD w<=1048576 by omega) (show ai ae a<=1048576 by omega) hc,k_];rw[awq]at hc;simp only[hc,decide_true,if_true,A_,if_false];have r:decide ((2:Int)=1)=false:=rfl;have u:decide ((3:Int)=1)=false:=rfl;have v:decide ((3:Int)=2)=false:=rfl;have x:decide ((3:Int)=4)=false:=rfl;have y:decide ((4:Int)=1)=false:=rfl;have z:decide ((4:Int)=2)=false:=rfl;have B:decide ((4:Int)=3)=false:=rfl;by_cases p:kind=2;subst p;by_cases hc:cT w K=true
 have b:dF k (w,K,((2:Int),0,(([]:List ag),0,0,ByteArray.empty),l,0,([]:List Int),([]:List af),0,0),())=some (gf w K (rY l) 3,()):=
  d (rY l) hc (F _ rfl rfl rfl J) (show(0:Int)<=2 by decide) (show(2:Int)<=6 by decide)
 simp only[hc,g,r,decide_true,decide_false,beq_self_eq_true,if_true,pB hk (show ai (.sl ak) l<=1048576 by omega),k_,awE,A_,if_false];by_cases m:cZ l=true;simp only[m,if_true,b,k_];rw[awq]at m;simp only[m,A_,if_false];rw[awq]at hc;simp only[hc,g,r,decide_true,decide_false,if_true,A_,if_false,awK,k_];rfl;by_cases C:kind=3;subst C;by_cases hc:cT w K=true
 have b:dF k (w,K,((3:Int),0,(([]:List ag),0,0,ByteArray.empty),([]:List ag),0,([]:List Int),([]:List af),0,0),())=some (gf w K oR 4,()):=
  d oR hc (F _ rfl rfl rfl (by show ai (.sl ak) ([]:List ag)<=10000;rw[bd];omega)) (show(0:Int)<=3 by decide) (show(3:Int)<=6 by decide)
 simp only[hc,g,p,u,v,x,decide_true,decide_false,if_true,A_,if_false,b,k_];rw[awq]at hc;simp only[hc,g,p,u,v,x,decide_true,decide_false,if_true,A_,if_false];by_cases P:kind=4;subst P;by_cases hc:cT w K=true
 have b:dF k (w,K,((4:Int),0,(([]:List ag),0,0,ByteArray.empty),([]:List ag),0,([]:List Int),([]:List af),0,0),())=some (gf w K pd 6,()):=
  d pd hc (F _ rfl rfl rfl (by show ai (.sl ak) ([]:List ag)<=10000;rw[bd];omega)) (show(0:Int)<=4 by decide) (show(4:Int)<=6 by decide)
 simp only[hc,g,p,C,y,z,B,decide_true,decide_false,if_true,A_,if_false,b,k_];rw[awq]at hc;simp only[hc,g,p,C,y,z,B,decide_true,decide_false,if_true,A_,if_false];simp only[g,p,C,P,decide_false,A_,if_false];by_cases Q:kind=5;subst Q;simp only[decide_true,if_true];by_cases b:aZ K 0 4=true;have h6:0<=K/\K.toNat<5:=by unfold aZ at b;simp only[A',b_]at b;omega
 obtain⟨j,rfl⟩:∃j:Nat,K=(j:Int):=⟨K.toNat,by omega⟩
 have G:=H6 hk (w:=w) (i:=j) (by omega) h (by omega);simp only[b,beq_self_eq_true,if_true,G,k_,awL];rw[awq]at b;simp only[b,A_,if_false];rfl;simp only[Q,decide_false,A_,if_false];by_cases R:kind=6;subst R;simp only[decide_true,if_true]
 have H:IntKind.i64.wrap (((awx w.2.2.2.2.1:Nat):Int)-(1:Int))=((cG w).length:Int)-1:=by
  unfold cG at*
  rw[wrap64 (by omega) (by omega)]
 rw[H];by_cases b:aZ K 0 (((cG w).length:Int)-1)=true;have h6:0<=K/\K<((cG w).length:Int):=by unfold aZ at b;simp only[A',b_]at b;omega
 have G:decide (0<=K/\K<((awx w.2.2.2.2.1:Nat):Int))=true:=c_ h6;have hh:=Kl hk (S5 hk (w:=w) (i:=K.toNat) (by omega) (by omega));have I:kC k (awA w.2.2.2.2.1 K.toNat aW.aa,())=some ((dO ((cG w).getD K.toNat aW.aa)).1,(dO ((cG w).getD K.toNat aW.aa)).2.1,(dO ((cG w).getD K.toNat aW.aa)).2.2,()):=hh
 have o:ai aD (w.1,w.2.1,w.2.2.1,w.2.2.2.1,(cG w).set K.toNat (dO ((cG w).getD K.toNat aW.aa)).1,w.2.2.2.2.2)<=1048576:=by
  have D:=iI hk w;have M:=iI hk (w.1,w.2.1,w.2.2.1,w.2.2.2.1,(cG w).set K.toNat (dO ((cG w).getD K.toNat aW.aa)).1,w.2.2.2.2.2);have N:=mf (e:=aW) (cG w) K.toNat (dO ((cG w).getD K.toNat aW.aa)).1 (by omega)
  have h4:ai aW (dO ((cG w).getD K.toNat aW.aa)).1<=ai aW ((cG w).getD K.toNat aW.aa):=by
   generalize (cG w).getD K.toNat aW.aa=s;rw[nj hk,nj hk];unfold dO;split;rw[bd];omega;split;rw[bd];omega;have:=cB (e:=ae) s.1 1;dsimp only;omega
  have h7:(cG w).getD K.toNat (Ty.aa aW)=(cG w).getD K.toNat aW.aa:=rfl;rw[h7]at N;unfold cG at*
  dsimp only at M;omega
 simp only[b,G,I,k_,Bool.not_true,A_,if_false,if_true];unfold O8 zl;by_cases S:(dO ((cG w).getD K.toNat aW.aa)).2.2=1;simp only[S,decide_true,if_true];erw[mF hk o];rfl;simp only[S,decide_false,A_,if_false];by_cases W:(dO ((cG w).getD K.toNat aW.aa)).2.2=2;simp only[W,decide_true,if_true];erw[mF hk o];rfl;simp only[W,decide_false,A_,if_false];erw[mF hk o];rfl;rw[awq]at b;simp only[b,awD,if_true,A_,if_false];simp only[R,decide_false,A_,if_false];by_cases X:kind=7;subst X;simp only[decide_true,if_true];by_cases b:aZ K 1 20=true;have h6:1<=K/\K<=20:=by unfold aZ at b;simp only[A',b_]at b;omega
 have H:IntKind.i64.wrap (w.2.2.1+K)=w.2.2.1+K:=wrap64 (by omega) (by omega);rw[H];by_cases hg:w.2.2.1+K<=99899;rw[a_ (by simp[b];omega),an ⟨b,hg⟩];rfl;rw[an (by simp[b];omega),a_ (by omega)];rw[an (by simp[b]),a_ (fun q=>b q.1)];simp only[X,decide_false,A_,if_false]
end
def vo(n:Nat)(w:ah):Prop:=Ex n w.1 w.2.1 w.2.2.2.1 w.2.2.2.2.2.1 w.2.2.2.2.2.2.2.1 w.2.2.2.2.2.2.2.2.1 w.2.2.2.2.2.2.2.2.2.1 w.2.2.2.2.2.2.2.2.2.2.1 w.2.2.2.2.2.2.2.2.2.2.2.1 (cA w) (bG w)
section
variable{k:Nat}(hk:9223372036854775808<=k)
include hk
def YN{w:ah}{n i:Nat}(h:bE k w=true)(q:vo n w)(f:n<=160)(hi:i<5):(lZ true k w i).1=true->vo (n+1) (lZ true k w i).2:=by
 obtain⟨c,ti,U,st,m_,Z,gr,A,nn,V,n_,l_,O,T⟩:=w;have R:=bF.1 h;have X:Ex n c ti st Z A nn V n_ l_ O T:=q;generalize d:O.getD i aq.aa=t;have m:=R.tas i hi;rw[d]at m;have ho:=gM (k:=k) (w:=(c,ti,U,st,m_,Z,gr,A,nn,V,n_,l_,O,T)) (i:=i) m;unfold lZ;dsimp only[cA];rw[d];by_cases g:t.1=1;rw[an g];intro b;obtain⟨_,_,_,_,_,_,_,_,e,a⟩:=VO hk R X f (by omega) d g b;rw[e];exact a;rw[a_ g];by_cases o:t.1=2\/t.1=3;rw[an o];unfold kY vd;dsimp only;rw[d];by_cases j:t.1=2;rw[an j];intro b;obtain⟨_,_,_,_,_,_,_,_,e,a⟩:=Vq hk R X f (by omega) d j b;rw[e];exact a;rw[a_ j];intro b;obtain⟨_,_,_,_,_,_,_,_,e,a⟩:=Tu hk R X f (by omega) d (by omega) b;rw[e];exact a;rw[a_ o];by_cases l:t.1=4;rw[an l];intro b;obtain⟨_,_,_,_,_,_,_,_,e,a⟩:=QP hk R X f (by omega) d l b;rw[e];exact a;rw[a_ l];by_cases p:i=3;rw[an p];intro b;obtain⟨_,_,_,_,_,_,_,_,e,a⟩:=TD hk R X f b;rw[e];exact a;rw[a_ p];by_cases h6:i=4;rw[an h6];intro b;obtain⟨_,_,_,_,_,_,_,e,a⟩:=Qd hk R X f b;rw[e];exact a;rw[a_ h6];intro b;cases b
theorem QI{w:ah}{n i:Nat}(h:bE k w=true)(b:vo n w)(hn:n<=160)(hi:i<5):(lZ true k w i).1=true->bE k (lZ true k w i).2=true:=by
 obtain⟨c,ti,U,st,m_,Z,gr,A,nn,V,n_,l_,O,T⟩:=w;have R:=bF.1 h;have X:Ex n c ti st Z A nn V n_ l_ O T:=b;have a1:=X.ti;have a2:=X.nn;have a3:=X.hp;have a4:=(cj.1 R.grp.go).1;refine Qj h hi (by show ti<_;omega) (fun p a=>by have:=X.ver p a;omega) (fun _=>⟨by show nn<_;omega,by show V.length<=15;omega⟩) (fun _=>⟨X.fr,fun _=>by show V.length<=15;omega⟩)
def vk{w:ah}{n:Nat}{i:Int}{t':aG}{op:Int}(h:bE k w=true)(d:vo n w)(hn:n<=160)(hc:cT w i=true)
 (f:(∃a,cm a=true/\t'=qo a/\op=1)\/(∃l,cZ l=true/\t'=rY l/\op=3)\/(t'=oR/\op=4)\/(t'=pd/\op=6)):bE k (gf w i t' op)=true/\vo (n+1) (gf w i t' op):=by
 have hti:w.2.1<=(n:Int):=d.ti;refine⟨LJ (by unfold ET;rw[h,hc];rfl) (by omega) f,?_⟩;obtain⟨q1,q2,q3⟩:=ym hc;obtain⟨c,ti,U,st,m_,Z,gr,A,nn,V,n_,l_,O,T⟩:=w;have R:=bF.1 h;have X:Ex n c ti st Z A nn V n_ l_ O T:=d
 have b:ai ae t'.2.2.1+ai (.sl ak) t'.2.2.2.1<=200/\t'.2.2.2.2.2.2.1=[]:=by
  have ez:ai ae vY=0:=jQ hk;have el:ai (.sl ak) ([]:List ag)=0:=bd;rcases f with⟨a,j,rfl,rfl⟩|⟨l,m,rfl,rfl⟩|⟨rfl,rfl⟩|⟨rfl,rfl⟩;have:=jN hk (fc j);exact⟨by show ai ae a+ai (.sl ak) ([]:List ag)<=200;omega,rfl⟩;have:=uU hk m;exact⟨by show ai ae vY+ai (.sl ak) l<=200;omega,rfl⟩;exact⟨by show ai ae vY+ai (.sl ak) ([]:List ag)<=200;omega,rfl⟩;exact⟨by show ai ae vY+ai (.sl ak) ([]:List ag)<=200;omega,rfl⟩
 refine X.gW (i:=i.toNat) R.ti0 (by omega) R.tl (by omega) (fun p g=>by have:=X.ver p g;omega) (awW _ _) (awW _ _) (oy hk ?_) ?_;have e:ai ay (opened (c,ti,U,st,m_,Z,gr,A,nn,V,n_,l_,O,T) i op t'.2.2.1 t'.2.2.2.1 t'.2.2.2.2.2.2.2.1)=ai ae t'.2.2.1+ai (.sl ak) t'.2.2.2.1+ai (.sl ae) ([]:List af):=cU hk _;rw[e,bd];omega;show t'.2.2.2.2.2.2.1.length<=_;rw[b.2];exact Nat.zero_le _
def Rf{w:ah}{n:Nat}{e:bT}(h:bE k w=true)(g:vo n w)(o:n<=160)(x:ai ae e.2.2.1<=2900)(b:(rh k w e).1=true):bE k (rh k w e).2=true/\vo (n+1) (rh k w e).2:=by
 have p:w.2.1<=(n:Int):=g.ti;unfold rh at b|-;by_cases y:e.1=1;rw[an y]at b|-;by_cases hc:cT w e.2.1=true;rw[an hc]at b|-;dsimp only;by_cases r:cm e.2.2.1=true;rw[an r];exact vk hk h g o hc (.inl ⟨_,r,rfl,rfl⟩);rw[a_ r];refine⟨Hy (by unfold ET;rw[h,hc];rfl) (by omega),?_⟩;obtain⟨c,ti,U,st,m_,Z,gr,A,nn,V,n_,l_,O,T⟩:=w;have R:=bF.1 h;have X:Ex n c ti st Z A nn V n_ l_ O T:=g;refine X.alone R.ti0 (by omega) (oy hk ?_);have I:ai ay ((1,e.2.1,e.2.2.1,[],0,0,4,[],U,ti,ti,ti):aA)=ai ae e.2.2.1+ai (.sl ak) ([]:List ag)+ai (.sl ae) ([]:List af):=cU hk _;have J:ai (.sl ak) ([]:List ag)=0:=bd;have K:ai (.sl ae) ([]:List af)=0:=bd;show ai ay ((1,e.2.1,e.2.2.1,[],0,0,4,[],U,ti,ti,ti):aA)+1<=3000;omega;rw[a_ hc]at b;cases b;rw[a_ y]at b|-;by_cases z:e.1=2;rw[an z]at b|-;by_cases hc:(cT w e.2.1&&cZ e.2.2.2)=true;rw[an hc];simp only[A']at hc;exact vk hk h g o hc.1 (.inr (.inl ⟨_,hc.2,rfl,rfl⟩));rw[a_ hc]at b;cases b;rw[a_ z]at b|-;by_cases B:e.1=3;rw[an B]at b|-;by_cases hc:cT w e.2.1=true;rw[an hc];exact vk hk h g o hc (.inr (.inr (.inl ⟨rfl,rfl⟩)));rw[a_ hc]at b;cases b;rw[a_ B]at b|-;by_cases C:e.1=4;rw[an C]at b|-;by_cases hc:cT w e.2.1=true;rw[an hc];exact vk hk h g o hc (.inr (.inr (.inr ⟨rfl,rfl⟩)));rw[a_ hc]at b;cases b;rw[a_ C]at b|-;by_cases D:e.1=5;rw[an D]at b|-;by_cases f:aZ e.2.1 0 4=true;rw[an f]at b|-;have E:e.2.1.toNat<5:=by unfold aZ at f;simp only[A',b_]at f;omega
 exact⟨QI hk h g o E b,YN hk h g o E b⟩;rw[a_ f]at b;cases b;rw[a_ D]at b|-;by_cases F:e.1=6;rw[an F]at b|-;by_cases f:aZ e.2.1 0 ((cG w).length-1)=true;rw[an f];have h6:0<=e.2.1/\e.2.1.toNat<(cG w).length:=by unfold aZ at f;simp only[A',b_]at f;omega
 obtain⟨c,ti,U,st,m_,Z,gr,A,nn,V,n_,l_,O,T⟩:=w;have R:=bF.1 h;have X:Ex n c ti st Z A nn V n_ l_ O T:=g;have l:=R.sub.sub _ (bz (d:=aW.aa) h6.2)
 have u:(dO (m_.getD e.2.1.toNat aW.aa)).2.2=1->bh (dO (m_.getD e.2.1.toNat aW.aa)).2.1=true:=by
  unfold fp bI at l;simp only[A']at l;generalize m_.getD e.2.1.toNat aW.aa=s at l;unfold dO;split;intro q;cases q;split;intro q;cases q;intro _;exact cX.1 l.2.2 _ (bz (by omega))
 have v:fp (dO (m_.getD e.2.1.toNat aW.aa)).1=true:=by
  unfold fp bI at l;simp only[A',b_]at l;generalize m_.getD e.2.1.toNat aW.aa=s at l;unfold dO;split;unfold fp bI;simp[kz];split;unfold fp bI;simp[kz];unfold fp bI;dsimp only;simp only[A',b_,awD,awP,true_and];refine⟨by rw[awB];omega,cX.2 fun a x=>cX.1 l.2.2 a (aw4 x)⟩
 constructor;refine bF.2 (Kf R (by show ti<_;have:ti<=(n:Int):=p;omega) ⟨?_,by show ti<ti+1;omega,by show ti<ti+1;omega,by show ti<ti+1;omega⟩ ⟨by rw[awu];exact R.sub.len,fun s m=> ?_,R.sub.fee,R.sub.sai⟩);refine sg (op:=9) (i:= -1) (j:=e.2.1) (n:=0) ⟨by decide,by decide⟩ ⟨by decide,by decide⟩ h6.1 (by decide) R.nw.1 R.ti0 ?_;split;decide;split<;>decide;rcases awG m with m|rfl;exact R.sub.sub s m;exact v;refine X.alone R.ti0 (by omega) (oy hk ?_);have I:ai ay (zl e.2.1 (m_.getD e.2.1.toNat aW.aa) U ti)=ai ae bU+ai (.sl ak) ([]:List ag)+ai (.sl ae) (if(dO (m_.getD e.2.1.toNat aW.aa)).2.2=1 then [(dO (m_.getD e.2.1.toNat aW.aa)).2.1]else []):=cU hk _;have J:ai (.sl ak) ([]:List ag)=0:=bd
 have K:ai (.sl ae) (if(dO (m_.getD e.2.1.toNat aW.aa)).2.2=1 then [(dO (m_.getD e.2.1.toNat aW.aa)).2.1]else [])<=97:=by
  split;rename_i H;have:=jN hk (u H);rw[bW (e:=ae),bd];omega;rw[bd];omega
 have e4:=jQ hk;show ai ay (zl e.2.1 (m_.getD e.2.1.toNat aW.aa) U ti)+1<=3000;omega;rw[a_ f]at b;cases b;rw[a_ F]at b|-;by_cases G:e.1=7;rw[an G]at b|-;by_cases f:aZ e.2.1 1 20=true/\w.2.2.1+e.2.1<=99899;rw[an f];have h6:1<=e.2.1:=by have:=f.1;unfold aZ at this;simp only[A',b_]at this;omega
 obtain⟨c,ti,U,st,m_,Z,gr,A,nn,V,n_,l_,O,T⟩:=w;have R:=bF.1 h;have X:Ex n c ti st Z A nn V n_ l_ O T:=g;exact⟨bF.2 (Tg R (by show ti<_;have:ti<=(n:Int):=p;omega) (by show U<=U+e.2.1;omega) f.2),X.alone R.ti0 (by omega) (awW _ _)⟩;rw[a_ f]at b;cases b;rw[a_ G]at b;cases b
def F8{w:ah}{n:Nat}(h:bE k w=true)(a:vo n w)(b:n<=160):ai aD w<=1000000:=by
 obtain⟨c,ti,U,st,m_,Z,gr,A,nn,V,n_,l_,O,T⟩:=w;exact Nl hk (bF.1 h) a b
end
def n9(d:aA):List af:=d.2.2.2.2.2.2.2.1
def qG(l:List aA):Prop:=∀d∈l,dN d= -1->n9 d=[]
theorem qG.app{l:List aA}{d:aA}(h:qG l)(o:dN d= -1->n9 d=[]):qG (l++[d]):=fun x a=>by
 rcases awO.1 a with a|a;exact h x a;rw[awn.1 a];exact o
theorem qG.put{l:List aA}{n:Nat}{d:aA}(h:qG l)(o:dN d= -1->n9 d=[]):qG (l.set n d):=fun x a=>by
 rcases awG a with a|rfl;exact h x a;exact o
theorem qG.at_{l:List aA}{n:Nat}(h:qG l):dN (l.getD n ay.aa)= -1->n9 (l.getD n ay.aa)=[]:=by
 by_cases a:n<l.length;exact h _ (bz a);intro _;have:l.getD n ay.aa=ay.aa:=by rw[List.getD_eq_getElem?_getD,List.getElem?_eq_none (by omega)];rfl
 rw[this];rfl
def aau{x:Bool}{d:aA}{U ti code:Int}{got:List af}(h0:0<=ti):¬dN (eC true x d U ti code got)= -1:=by
 unfold eC oc;rw[an (by rfl)];by_cases h:dN d= -1;rw[an h];show¬ti= -1;omega;rw[a_ h];exact h
def sM(r:Bool×ah):bG (bC r).2=bG r.2:=by
 unfold bC;split<;>rfl
def acM{k:Nat}{w:ah}{i:Nat}(o:0<=w.2.1)(h:qG (bG w)):qG (bG (lZ true k w i).2):=by
 obtain⟨c,ti,U,st,m_,Z,gr,A,nn,V,n_,l_,O,T⟩:=w;have h:qG T:=h;have o:0<=ti:=o
 have f:∀j m,qG (bG (ey (c,ti,U,st,m_,Z,gr,A,nn,V,n_,l_,O,T) j m).2):=by
  intro j m;unfold ey;dsimp only;split<;>exact h
 have p:∀j,qG (bG (iy (c,ti,U,st,m_,Z,gr,A,nn,V,n_,l_,O,T) j).2):=by
  intro j;unfold iy;dsimp only;split<;>exact h
 have b:∀(l:List aA) (x:Bool) (n:Nat) (d:aA) (code:Int) (g:List af),qG l->qG (l.set n (eC true x d U ti code g)):=fun l x n d code g f=>f.put fun e=>absurd e (aau o)
 have a:∀d:aA,dN (gK d U ti ti ti)= -1->n9 (gK d U ti ti ti)=[]:=fun d e=>by
  have:ti= -1:=e;omega
 unfold lZ;split;unfold ia;rw[sM];unfold pA;dsimp only;split;exact f _ _;split;split;exact b _ _ _ _ _ _ h
 exact h.put fun e=>by
  have:ti= -1:=e;omega
 exact(h.app (a _)).put h.at_;split;unfold kY;rw[sM];unfold vd lz fx;dsimp only;split;split;exact f _ _;split;exact b _ _ _ _ _ _ h;exact b _ _ _ _ _ _ h;split;exact f _ _;split;exact h;split;exact b _ _ _ _ _ _ h;exact h;split;unfold fu;rw[sM];unfold qa;dsimp only;split;exact f _ _;show qG (if _ then _ else _);split;exact b _ _ _ _ _ _ (h.app (a _));exact h.app (a _);split;unfold hZ;rw[sM];unfold gw;dsimp only;split;split;exact h;exact h.app fun _=>rfl;split;exact p _;split;split;exact b _ _ _ _ _ _ h;exact b _ _ _ _ _ _ h;exact b _ _ _ _ _ _ h;split;unfold fq;rw[sM];unfold eX;dsimp only;split;split;exact h.app fun _=>rfl;exact h;split;exact p _;split;exact b _ _ _ _ _ _ h;exact b _ _ _ _ _ _ h;exact h
def adi{k:Nat}{w:ah}{e:bT}(b:0<=w.2.1)(h:qG (bG w)):qG (bG (rh k w e).2):=by
 have a:∀i t op,qG (bG (gf w i t op)):=fun i t op=>qG.app (l:=bG w) h fun _=>rfl;unfold rh;split;split;dsimp only;split;exact a _ _ _;exact qG.app (l:=bG w) h fun _=>rfl;exact h;split;split;exact a _ _ _;exact h;split;split;exact a _ _ _;exact h;split;split;exact a _ _ _;exact h;split;split;exact acM b h;exact h;split;split;refine qG.app (l:=bG w) h fun e=> ?_;have:w.2.1= -1:=e;omega;exact h;split;split;exact h;exact h;exact h
def idxs(l:List aA)(n:Nat):List Int:=((List.range n).filter (fun i=>ql (l.getD i jY.aa) != -1)).map (fun i:Nat=>(i:Int))
def fS(l:List aA):List Int:=eW (GI l) (idxs l l.length)
def Pc(l:List aA)(n:Nat):idxs l (n+1)=if(ql (l.getD n jY.aa) != -1)=true then idxs l n++[(n:Int)]else idxs l n:=by
 unfold idxs;rw[List.range_succ,aw8,awy];by_cases h:(ql (l.getD n jY.aa) != -1)=true;rw[an h,awY (by simpa using h)];rfl;rw[a_ h,awZ (by simpa using h)];simp
def L1(l:List aA)(n:Nat):(idxs l n).length<=n:=by
 unfold idxs;rw[aw0];exact awU (aw2 ..) (by simp)
def SZ(l:List aA)(n:Nat):∀x∈idxs l n,0<=x/\x<(n:Int)/\ql (l.getD x.toNat jY.aa)≠-1:=by
 intro x a;unfold idxs at a;obtain⟨i,b,rfl⟩:=List.mem_map.1 a;obtain⟨d,e⟩:=axe.1 b;have:=List.mem_range.1 d;exact⟨by omega,by omega,by simpa using e⟩
def Sf{α:Type}(lt:α->α->Bool)(xs:List α)(x:α):eW lt (xs++[x])=(dv lt x (eW lt xs).reverse).reverse:=by
 unfold eW;rw[awM,aw5];rfl
section
variable{k:Nat}(hk:9223372036854775808<=k)
include hk
theorem Py{l:List aA}(hl:l.length<=1048576):A5 k (l,())=some (fS l,()):=by
 show Z4 k (l,())=_;simp only[Z4,aN]
 have main:aM k (fun d (a:List jY.den×List Int×List jY.den×Int×Int×Unit)=>
  if(decide ((a.2.2.2.2.1:Int)<a.2.2.2.1))=true then
   if(decide (0<=a.2.2.2.2.1/\a.2.2.2.2.1<((awx a.2.2.1:Nat):Int)))=true then
    if((ql (awA a.2.2.1 (awH a.2.2.2.2.1) jY.aa):Int) != (-1:Int))=true then
     if(decide (awx a.2.1+awx ([a.2.2.2.2.1]:List Int)<4294967296))=true then
      d (a.1,a.2.1++([a.2.2.2.2.1]:List Int),a.2.2.1,a.2.2.2.1,IntKind.i64.wrap (a.2.2.2.2.1+(1:Int)),())
     else
      none
    else
     d (a.1,a.2.1,a.2.2.1,a.2.2.2.1,IntKind.i64.wrap (a.2.2.2.2.1+(1:Int)),())
   else
    none
  else
   some (a.1,a.2.1,())) (l,([]:List Int),l,((awx l:Nat):Int),(0:Int),())=some (l,idxs l l.length,()):=by
   refine(bX (fun i:Nat=>(l,idxs l i,l,(l.length:Int),(i:Int),())) l.length (e:=some (l,idxs l l.length,())) (fun G i f=> ?_) (fun G=> ?_) k 0 (by omega) (by omega));have hlen:=L1 l i;simp only[aK,aC f,f,decide_true,if_true,awL];rw[aX (by omega),Pc];by_cases b:(ql (l.getD i jY.aa) != -1)=true;rw[an b,an b,an (by simp;omega)];rw[a_ b,a_ b];simp
 refine(congrArg (fun z=>P' z _) main).trans ?_;rw[k_];have hlen:=L1 l l.length;rw[an ?_];rfl;simp only[A',b_,List.all_eq_true];refine⟨⟨by omega,by omega⟩,fun x g=> ?_⟩;have:=SZ l l.length x g;exact⟨this.1,this.2.1⟩
theorem Uo{l:List aA}:(fS l).length<=l.length:=by
 unfold fS;rw[(mi _ _).length_eq];exact L1 l l.length
end
def Mw{α:Type}{lt:α->α->Bool}{x:α}:∀ {r:List α},(∀y∈r,lt x y=false)->dv lt x r=x::r
 | [],_=>rfl
 |y::r,h=>by
  unfold dv;rw[a_ (by rw[h y (awI ..)];decide)]
def Uh{α:Type}{lt:α->α->Bool}{l:List α}{x:α}(h:∀y∈l,lt x y=false):eW lt (l++[x])=eW lt l++[x]:=by
 rw[Sf,Mw (fun y a=>h y ((mi lt l).mem_iff.1 (axb.1 a))),axa,aw5]
theorem Lx{α:Type}{lt:α->α->Bool}{x:α}:∀(q s:List α),(∀y∈q,lt y x=true)->q.foldl (fun r y=>dv lt y r) (x::s)=x::q.foldl (fun r y=>dv lt y r) s
 | [],s,_=>rfl
 |y::q,s,h=>by
  rw[awz,awz]
  have e:dv lt y (x::s)=x::dv lt y s:=by
   simp only[dv];rw[an (h y (awI ..))]
  rw[e];exact Lx q _ fun z a=>h z (List.mem_cons_of_mem _ a)
def Uv{α:Type}{lt:α->α->Bool}{p q:List α}{x:α}(d:∀y∈p,lt x y=false)(e:∀y∈q,lt y x=true):eW lt (p++x::q)=eW lt (p++q)++[x]:=by
 have a:∀y∈p.foldl (fun r x=>dv lt x r) [],lt x y=false:=fun y b=>d y ((mi lt p).mem_iff.1 (axb.2 b));unfold eW;rw[awM,awz,Mw a,Lx _ _ e,axa,awM]
theorem Le{α β:Type}{lt:β->β->Bool}{f:α->β}{x:α}:∀r:List α,(dv (fun a b=>lt (f a) (f b)) x r).map f=dv lt (f x) (r.map f)
 | []=>rfl
 |y::r=>by
  simp only[dv,aww];by_cases h:lt (f x) (f y)=true;rw[an h,an h,aww,Le r];rw[a_ h,a_ h];rfl
def Sk{α β:Type}{lt:β->β->Bool}{f:α->β}(l:List α):(eW (fun a b=>lt (f a) (f b)) l).map f=eW lt (l.map f):=by
 unfold eW;rw[List.map_reverse];congr 1
 have:∀(l r:List α),(l.foldl (fun r x=>dv (fun a b=>lt (f a) (f b)) x r) r).map f=(l.map f).foldl (fun r x=>dv lt x r) (r.map f):=by
  intro l
  induction l with
  |nil=>intro r;rfl
  |cons a l d=>intro r;rw[awz,d,Le,aww,awz]
 exact this l []
/-! what took place-/
def lu(d:aA):aA:=nf d 0
def KN(a b:aA):Bool:=decide (dN a<dN b)
def xA(l:List aA):List aA:=l.filter fun d=>decide (¬dN d= -1)
def gz(l:List aA):List aA:=eW KN (xA (l.map lu))
def xP(l m:List aA):xA (l++m)=xA l++xA m:=aw8 ..
def Jv{d:aA}{l:List aA}(h:¬dN d= -1):xA (d::l)=d::xA l:=awY (by simpa using h)
def LP{d:aA}{l:List aA}(h:dN d= -1):xA (d::l)=xA l:=awZ (by simpa using h)
def I8{d:aA}{l:List aA}(h:d∈xA (l.map lu)):∃x∈l,d=lu x/\¬dN x= -1:=by
 obtain⟨a,b⟩:=axe.1 h;obtain⟨x,e,rfl⟩:=List.mem_map.1 a;exact⟨x,e,rfl,e_ b⟩
def uh(d:aA):dN (lu d)=dN d:=rfl
def Kk{l:List aA}{d:aA}(h:dN d= -1):gz (l++[d])=gz l:=by
 unfold gz;rw[awy,xP,aww,awX,LP (by rw[uh];exact h)];show eW KN (_++[])=_;rw[aw1]
def LW{l:List aA}{d:aA}(h:¬dN d= -1)(b:∀x∈l,dN x<=dN d):gz (l++[d])=gz l++[lu d]:=by
 unfold gz;rw[awy,xP,aww,awX,Jv (by rw[uh];exact h)];refine Uh fun y a=> ?_;obtain⟨x,e,rfl,_⟩:=I8 a;have:=b x e;unfold KN;rw[uh,uh,d_];omega
def Mi{α:Type}{l:List α}{n:Nat}(x:α)(h:n<l.length):l.set n x=l.take n++x::l.drop (n+1):=by
 rw[List.set_eq_take_append_cons_drop,an h]
def Up{α:Type}{l:List α}{n:Nat}(d:α)(h:n<l.length):l.set n (l.getD n d)=l:=by
 rw[bJ _ h,List.set_getElem_self]
def QR{l:List aA}{n:Nat}{d:aA}(b:n<l.length)(h:dN (l.getD n ay.aa)= -1)(j:¬dN d= -1)(g:∀x∈l,dN x<dN d):gz (l.set n d)=gz l++[lu d]:=by
 have e:gz l=gz (l.take n++l.getD n ay.aa::l.drop (n+1)):=by
  rw[<-Mi _ b,Up _ b]
 rw[e,Mi _ b];unfold gz;rw[awy,awy,aww,aww,xP,xP,LP (d:=lu (l.getD n ay.aa)) h,Jv (d:=lu d) j];refine Uv (fun y a=> ?_) (fun y a=> ?_);obtain⟨x,f,rfl,_⟩:=I8 a;have:=g x (List.mem_of_mem_take f);unfold KN;rw[uh,uh,d_];omega;obtain⟨x,f,rfl,_⟩:=I8 a;have:=g x (aw4 f);unfold KN;rw[uh,uh,b_];omega
def VM{l:List aA}{n:Nat}{d:aA}(a:lu d=lu (l.getD n ay.aa)):gz (l.set n d)=gz l:=by
 unfold gz;by_cases hn:n<l.length;have e:(l.set n d).map lu=l.map lu:=iv (d:=ay.aa) a;rw[e];rw[List.set_eq_of_length_le (by omega)]
def Nx(l:List aA):(fS l).map (fun i=>lu (l.getD i.toNat jY.aa))=gz l:=by
 have j:∀n,n<=l.length->(idxs l n).map (fun i:Int=>lu (l.getD i.toNat jY.aa))=xA ((l.take n).map lu):=by
  intro n
  induction n with
  |zero=>intro _;rfl
  |succ n h=>
   intro hn;have e:l.take (n+1)=l.take n++[l.getD n jY.aa]:=by rw[bJ _ (by omega)];exact List.take_succ_eq_append_getElem (by omega)
   rw[Pc,e,awy,xP,aww,awX];by_cases a:(ql (l.getD n jY.aa) != -1)=true
   have b:¬ql (l.getD n jY.aa)= -1:=by
    intro e;rw[e]at a;exact absurd a (by decide)
   rw[an a,awy,h (by omega),aww,awX,awL,Jv (d:=lu (l.getD n jY.aa)) b];rfl;have b:ql (l.getD n jY.aa)= -1:=by simpa[bne_iff_ne]using a
   rw[a_ a,h (by omega),LP (d:=lu (l.getD n jY.aa)) b];exact(aw1 _).symm
 have g:=Sk (lt:=KN) (f:=fun i:Int=>lu (l.getD i.toNat jY.aa)) (idxs l l.length);rw[j _ (awF _),axc]at g;exact g
def re(d:aA):Int:=d.2.2.2.2.2.2.1
def Mm(d:aA):Int:=d.2.2.2.2.2.1
def iD(w:ah):List aw:=w.2.2.2.2.2.2.2.1
def nS(cap:Int)(s:Option Int)(op code:Int)(g:Nat):Option Int:=
 match s with
 |none=>none
 |some n=>
  if op=1/\code=3/\¬n=cap then none
  else if op=4/\¬(g:Int)=n then none
  else if(if op=1/\code=1 then n+1 else if op=5 then n-g else n)<0\/cap<(if op=1/\code=1 then n+1 else if op=5 then n-g else n)then none
  else some (if op=1/\code=1 then n+1 else if op=5 then n-g else n)
def GN(cap:Int)(s:Option Int)(d:aA):Option Int:=nS cap s d.1 (re d) (n9 d).length
def uD{cap n op code:Int}{g:Nat}(h1:¬(op=1/\(code=1\/code=3)))(h4:¬op=4)(a:¬op=5)(h0:0<=n)(hn:n<=cap):nS cap (some n) op code g=some n:=by
 have e:(if op=1/\code=1 then n+1 else if op=5 then n-g else n)=n:=by rw[a_ (by omega),a_ a]
 unfold nS;dsimp only;rw[e,a_ (by omega),a_ (by omega),a_ (by omega)]
def aaq{cap n:Int}{g:Nat}(h0:0<=n)(hn:n=cap):nS cap (some n) 1 3 g=some n:=by
 have e:(if(1:Int)=1/\(3:Int)=1 then n+1 else if(1:Int)=5 then n-g else n)=n:=by rw[a_ (by omega),a_ (by omega)]
 unfold nS;dsimp only;rw[e,a_ (by omega),a_ (by omega),a_ (by omega)]
def abI{cap n:Int}{g:Nat}(h0:0<=n)(hn:n+1<=cap):nS cap (some n) 1 1 g=some (n+1):=by
 have e:(if(1:Int)=1/\(1:Int)=1 then n+1 else if(1:Int)=5 then n-g else n)=n+1:=by rw[an (by omega)]
 unfold nS;dsimp only;rw[e,a_ (by omega),a_ (by omega),a_ (by omega)]
def ZP{cap n code:Int}{g:Nat}(hn:n<=cap)(hg:(g:Int)=n):nS cap (some n) 4 code g=some n:=by
 have e:(if(4:Int)=1/\code=1 then n+1 else if(4:Int)=5 then n-g else n)=n:=by rw[a_ (by omega),a_ (by omega)]
 unfold nS;dsimp only;rw[e,a_ (by omega),a_ (by omega),a_ (by omega)]
def W3{cap n m code:Int}{g:Nat}(hn:n<=cap)(h0:0<=m)(hg:m+g=n):nS cap (some n) 5 code g=some m:=by
 have e:(if(5:Int)=1/\code=1 then n+1 else if(5:Int)=5 then n-g else n)=m:=by rw[a_ (by omega),an rfl];omega
 unfold nS;dsimp only;rw[e,a_ (by omega),a_ (by omega),a_ (by omega)]
def Sm(l:List aw)(n:Int)(a:af):Prop:=∃g∈l,g.1=n/\a∈g.2.2.2.2
def SH(e:aA)(n:Int)(a:af):Prop:=(e.1=7/\e.2.2.1.1=a.1)\/(e.1=8/\Mm e=n/\a∈n9 e/\sX (n9 e))
def P2(gs b:List aw)(news:List aA):Prop:=
 (∀n a,Sm gs n a->Sm b n a\/∃e∈news,SH e n a)/\(∀d∈news,d.1=7->¬re d=3->Sm b (Mm d) d.2.2.1)
def xm(cap:Int)(st a:List au)(gs b:List aw)(l d:List aA):Prop:=
 ∃news,gz d=gz l++news/\news.foldl (GN cap) (some (bu st:Int))=some (bu a:Int)/\P2 gs b news
def N7{gs:List aw}{news:List aA}(h:∀d∈news,¬d.1=7):P2 gs gs news:=⟨fun _ _ h=> .inl h,fun d a h7 _=>absurd h7 (h d a)⟩
def pg{cap:Int}{st a:List au}{gs:List aw}{l b:List aA}(h:gz b=gz l)(hc:bu a=bu st):xm cap st a gs gs l b:=
 ⟨[],by rw[h,aw1],by rw[hc];rfl,N7 fun d e=>by cases e⟩
def kW{cap:Int}{st a:List au}{gs b:List aw}{l e:List aA}{d:aA}(h:gz e=gz l++[d])(hc:nS cap (some (bu st:Int)) d.1 (re d) (n9 d).length=some (bu a:Int))(f:P2 gs b [d]):xm cap st a gs b l e:=
 ⟨[d],h,hc,f⟩
def vP{gs:List aw}{d:aA}(h:¬d.1=7):P2 gs gs [d]:=N7 fun e a=>by rw[awn.1 a];exact h
def qX{st:List au}{j:Nat}{x:Int}:bu (bL st j x)=bu st:=by unfold bu;rw[DQ]
def nZ{l:List aA}{n:Nat}{d:aA}{x:Bool}{U ti code:Int}{got:List af}(b:∀x∈l,dN x<ti)(h0:0<=ti)(f:n<l.length)(g:dN (l.getD n ay.aa)= -1)(h:dN d= -1):
 gz (l.set n (eC true x d U ti code got))=gz l++[lu (yZ d U ti code got)]:=by
 have e:eC true x d U ti code got=nf (yZ d U ti code got) ti:=by
  unfold eC oc;rw[an (by rfl),an h]
 have a:dN (eC true x d U ti code got)=ti:=by rw[e];rfl
 rw[QR f g (by rw[a];omega) (by rw[a];exact b),e];rfl
def UD{l:List af}{a b:af}(d:b∈l)(g:¬b.1=a.1):b∈gy l a:=by
 unfold gy;split;rename_i i f;obtain⟨j,h,rfl⟩:=iX ae.aa d;by_cases e:i=j;subst e;exact absurd (e_ (aR.1 f).2.1) g;rw[<-getD_set_ne (l:=l) (a) ae.aa e];exact bz (by rw[awu];exact h);rw[<-List.take_append_drop (gu l a.1) l]at d;rcases awO.1 d with d|d;exact awv _ (awv _ d);exact awt _ d
def AE{α:Type}{l:List α}{i:Nat}{x:α}(hi:i<l.length):x∈l.set i x:=by
 have:=aL (l:=l) x x hi;have a:(l.set i x).getD i x∈l.set i x:=bz (by rw[awu];exact hi);rwa [this]at a
def Uq{l:List af}{a:af}:a∈gy l a:=by
 unfold gy;split;rename_i i b;exact AE (aR.1 b).1;exact awv _ (awt _ (awn.2 rfl))
def GV{α:Type}{l:List α}{i j:Nat}{x:α}(d:α)(a:j<l.length)(e:¬i=j):l.getD j d∈l.set i x:=by
 rw[<-getD_set_ne (l:=l) x d e];exact bz (by rw[awu];exact a)
section
variable{k:Nat}{c:aY}{ti U gr nn:Int}{st:List au}{m_:List bo}{Z l_:List af}{A:List aw}{V:List aF}{n_:List bq}{O:List aG}{T:List aA}{i:Nat}{t:aG}
def mQ(h:Rt k c ti U st m_ Z gr A nn V l_ O T):∀x∈T,dN x<ti:=fun x a=>(h.dee x a).2.2.1
def th(h:Rt k c ti U st m_ Z gr A nn V l_ O T):(0:Int)<=(bu st:Int)/\(bu st:Int)<=c.2.1:=⟨by omega,h.sto.cap⟩
def BY{j:Nat}:(bC (ey (c,ti,U,st,m_,Z,gr,A,nn,V,n_,l_,O,T) i j)).1=true->
 xm c.2.1 st (oZ (bC (ey (c,ti,U,st,m_,Z,gr,A,nn,V,n_,l_,O,T) i j)).2) A (iD (bC (ey (c,ti,U,st,m_,Z,gr,A,nn,V,n_,l_,O,T) i j)).2) T (bG (bC (ey (c,ti,U,st,m_,Z,gr,A,nn,V,n_,l_,O,T) i j)).2):=by
 unfold ey;dsimp only;by_cases a:(st.getD j aj.aa).1= -1;rw[an a,aU];intro _;exact pg rfl qX;rw[a_ a];intro b;simp[bC]at b
def MQ{j:Nat}:(bC (iy (c,ti,U,st,m_,Z,gr,A,nn,V,n_,l_,O,T) j)).1=true->
 xm c.2.1 st (oZ (bC (iy (c,ti,U,st,m_,Z,gr,A,nn,V,n_,l_,O,T) j)).2) A (iD (bC (iy (c,ti,U,st,m_,Z,gr,A,nn,V,n_,l_,O,T) j)).2) T (bG (bC (iy (c,ti,U,st,m_,Z,gr,A,nn,V,n_,l_,O,T) j)).2):=by
 unfold iy;dsimp only;by_cases a:gr= -1;rw[an a,aU];intro _;exact pg rfl rfl;rw[a_ a];intro b;simp[bC]at b
def W7(h:Rt k c ti U st m_ Z gr A nn V l_ O T)(z:∀p∈st,p.2.1<4611686018427387904)(hi:i<3)(r:O.getD i aq.aa=t)(B:t.1=1):
 (ia true k (c,ti,U,st,m_,Z,gr,A,nn,V,n_,l_,O,T) i).1=true->
 xm c.2.1 st (oZ (ia true k (c,ti,U,st,m_,Z,gr,A,nn,V,n_,l_,O,T) i).2) A (iD (ia true k (c,ti,U,st,m_,Z,gr,A,nn,V,n_,l_,O,T) i).2) T (bG (ia true k (c,ti,U,st,m_,Z,gr,A,nn,V,n_,l_,O,T) i).2):=by
 have h0:=fI h.sto.ok;obtain⟨D,m,hb,hd,hv1,hw⟩:=dM h (by omega) r (by omega);have s:=(gV B).1 D;obtain⟨g,w⟩:=th h;have hti:=h.ti0;unfold ia pA;dsimp only;rw[r];by_cases u:t.2.1=0;rw[an u];exact BY;rw[a_ u];by_cases v:t.2.1=1;rw[an v];rw[a_ (by omega)]at s;obtain⟨q1,q12,q13,q14,o,f,q17,q⟩:=s
 have j:dN (T.getD (bm t).toNat ay.aa)= -1:=by
  by_cases e:(T.getD (bm t).toNat ay.aa).2.2.2.2.2.2.2.2.2.2.1= -1;exact e;have:=o.1 e;omega
 by_cases a:qZ k c st t.2.2.1=true;rw[an a,aU];intro _;refine kW (nZ (mQ h) h.ti0 m j j) ?_ (vP (by show¬(T.getD (bm t).toNat ay.aa).1=7;omega));show nS c.2.1 (some (bu st:Int)) (T.getD (bm t).toNat ay.aa).1 3 0=some (bu (bL st _ (-1)):Int);rw[f,qX];unfold qZ at a;simp only[A',b_]at a;exact aaq g (by omega);rw[a_ a,aU];intro _;have C:=(LR h.sto.ok q z).2.2.1;refine kW (d:=lu (pI (T.getD (bm t).toNat ay.aa) U ti (if(dn k st t.2.2.1).2=true then 1 else 2))) (QR m j (by show¬ti= -1;omega) (mQ h)) ?_ (vP (by show¬(T.getD (bm t).toNat ay.aa).1=7;omega));show nS c.2.1 (some (bu st:Int)) (T.getD (bm t).toNat ay.aa).1 (if(dn k st t.2.2.1).2=true then 1 else 2) (n9 (T.getD (bm t).toNat ay.aa)).length=some (bu (dn k st t.2.2.1).1:Int);rw[f,C];rw[Kn h.sto.ok];cases l:(bD k st t.2.2.1.1).2;unfold qZ at a;rw[l]at a;have:¬c.2.1<=(bu st:Int):=by simpa using a
 refine(abI g (by omega)).trans ?_;simp;exact uD (by decide) (by decide) (by decide) g w;rw[a_ v,aU];intro _
 have b:gz ((T++[gK (oE i t.2.2.1) U ti ti ti]).set (bm t).toNat (nf (T.getD (bm t).toNat ay.aa) ti))=gz T++[lu (gK (oE i t.2.2.1) U ti ti ti)]:=by
  rw[VM (by rw[jg _ m];rfl)];exact LW (by show¬ti= -1;omega) (fun x y=>by have:=mQ h x y;show dN x<=ti;omega)
 refine kW b ?_ (vP (by show¬(2:Int)=7;decide));show nS c.2.1 (some (bu st:Int)) 2 8 0=some (bu (bL st _ (-1)):Int);rw[qX];exact uD (by decide) (by decide) (by decide) g w
def Xh(h:Rt k c ti U st m_ Z gr A nn V l_ O T)(hi:i<3)(d:O.getD i aq.aa=t)(m:t.1=2):
 (bC (lz true k (c,ti,U,st,m_,Z,gr,A,nn,V,n_,l_,O,T) i)).1=true->
 xm c.2.1 st (oZ (bC (lz true k (c,ti,U,st,m_,Z,gr,A,nn,V,n_,l_,O,T) i)).2) A (iD (bC (lz true k (c,ti,U,st,m_,Z,gr,A,nn,V,n_,l_,O,T) i)).2) T (bG (bC (lz true k (c,ti,U,st,m_,Z,gr,A,nn,V,n_,l_,O,T) i)).2):=by
 obtain⟨o,g,hb,hd,hv1,hw⟩:=dM h (by omega) d (by omega);obtain⟨q1,q12,q13,q14,a,b,q17⟩:=(ny m).1 o;obtain⟨j,l⟩:=th h;unfold lz;dsimp only;rw[d];by_cases e:t.2.1=0;rw[an e];exact BY;rw[a_ e];by_cases f:(bD k st t.2.2.2.1).2=true;rw[an f,aU];intro _;refine kW (nZ (mQ h) h.ti0 g a a) ?_ (vP (by show¬(T.getD (bm t).toNat ay.aa).1=7;omega));show nS c.2.1 (some (bu st:Int)) (T.getD (bm t).toNat ay.aa).1 5 1=some (bu (bL st _ (-1)):Int);rw[b,qX];exact uD (by decide) (by decide) (by decide) j l;rw[a_ f,aU];intro _;refine kW (nZ (mQ h) h.ti0 g a a) ?_ (vP (by show¬(T.getD (bm t).toNat ay.aa).1=7;omega));show nS c.2.1 (some (bu st:Int)) (T.getD (bm t).toNat ay.aa).1 6 0=some (bu (bL st _ (-1)):Int);rw[b,qX];exact uD (by decide) (by decide) (by decide) j l
def aah(h:Rt k c ti U st m_ Z gr A nn V l_ O T)(a:dG st t=true)(hs:jG st t.2.2.2.2.2.1=true)(e:t.2.2.2.2.2.1.length=st.length):bO st=t.2.2.2.2.2.2.1:=by
 rw[rl]at a
 have b:=a.2 fun i d=>by
  unfold jG at hs;have:=bM.1 hs i (by omega) d;exact e_ this
 rw[e,axc]at b;exact b
def Vw(h:Rt k c ti U st m_ Z gr A nn V l_ O T)(hi:i<3)(j:O.getD i aq.aa=t)(o:t.1=3):
 (bC (fx true k (c,ti,U,st,m_,Z,gr,A,nn,V,n_,l_,O,T) i)).1=true->
 xm c.2.1 st (oZ (bC (fx true k (c,ti,U,st,m_,Z,gr,A,nn,V,n_,l_,O,T) i)).2) A (iD (bC (fx true k (c,ti,U,st,m_,Z,gr,A,nn,V,n_,l_,O,T) i)).2) T (bG (bC (fx true k (c,ti,U,st,m_,Z,gr,A,nn,V,n_,l_,O,T) i)).2):=by
 obtain⟨p,q,hb,hd,hv1,hw⟩:=dM h (by omega) j (by omega);obtain⟨⟨r1,r2,r3,r4,r5,r6,r7,r8,r9,r10,r11⟩,q12,q13,q14,b,e,f,g⟩:=(fG o).1 p;obtain⟨c1,r⟩:=th h;have hlen:=h.sto.len;unfold fx;dsimp only;rw[j];by_cases l:t.2.1=0;rw[an l];exact BY;rw[a_ l];by_cases m:t.2.1=1;rw[an m,aU];intro _;exact pg rfl qX;rw[a_ m];rw[an (by omega)]at g;by_cases d:jG st t.2.2.2.2.2.1=true;rw[an d,aU];intro _;have a:=aah h f d (by omega);refine kW (nZ (mQ h) h.ti0 q b b) ?_ (vP (by show¬(T.getD (bm t).toNat ay.aa).1=7;omega));show nS c.2.1 (some (bu st:Int)) (T.getD (bm t).toNat ay.aa).1 8 (dC t.2.2.2.2.2.2.1).length=some (bu st:Int);rw[e];refine ZP r ?_;have:(dC t.2.2.2.2.2.2.1).length=t.2.2.2.2.2.2.1.length:=(mi cV _).length_eq;rw[this,<-a];rfl;rw[a_ d,aU];intro _;exact pg rfl rfl
def Um(h:Rt k c ti U st m_ Z gr A nn V l_ O T)(hi:i<3)(m:O.getD i aq.aa=t)(w:t.1=4):
 (fu true k (c,ti,U,st,m_,Z,gr,A,nn,V,n_,l_,O,T) i).1=true->
 xm c.2.1 st (oZ (fu true k (c,ti,U,st,m_,Z,gr,A,nn,V,n_,l_,O,T) i).2) A (iD (fu true k (c,ti,U,st,m_,Z,gr,A,nn,V,n_,l_,O,T) i).2) T (bG (fu true k (c,ti,U,st,m_,Z,gr,A,nn,V,n_,l_,O,T) i).2):=by
 obtain⟨B,u,j,e,hv1,hw⟩:=dM h (by omega) m (by omega);obtain⟨⟨q1,q2,q3,q4,q5,q6,q7,q8,q9,q10,q11,q11'⟩,q12,q13,q14,a,g,q17⟩:=(gC w).1 B;obtain⟨C,v⟩:=th h;have hlen:=h.sto.len;have hti:=h.ti0;have y:t.2.2.2.2.1.toNat<st.length:=by omega
 unfold fu qa;dsimp only;rw[m];by_cases o:t.2.1=0;rw[an o];exact BY;rw[a_ o,aU];intro _;have hcnt:=count_set (l:=st) (p:=(-1,(dR (st.getD t.2.2.2.2.1.toNat aj.aa) U).2)) y;have hsl:=zP (st.getD t.2.2.2.2.1.toNat aj.aa) U;have hee:(aS (-1,(dR (st.getD t.2.2.2.2.1.toNat aj.aa) U).2)).length=(aS (dR (st.getD t.2.2.2.2.1.toNat aj.aa) U)).length:=rfl;have q:nS c.2.1 (some (bu st:Int)) 5 8 (dg U (st.getD t.2.2.2.2.1.toNat aj.aa).2.2).length=some (bu (st.set t.2.2.2.2.1.toNat (-1,(dR (st.getD t.2.2.2.2.1.toNat aj.aa) U).2)):Int):=W3 v (by omega) (by omega)
 have r:∀l:List aA,(∀x∈l,dN x<=ti)->gz (l++[gK (iA i t.2.2.2.2.1.toNat (dg U (st.getD t.2.2.2.2.1.toNat aj.aa).2.2)) U ti ti ti])=gz l++[lu (gK (iA i t.2.2.2.2.1.toNat (dg U (st.getD t.2.2.2.2.1.toNat aj.aa).2.2)) U ti ti ti)]:=
  fun l j=>LW (by show¬ti= -1;omega) j
 by_cases s:t.2.2.2.2.1.toNat+1=st.length
 have f:(if t.2.2.2.2.1.toNat+1=st.length then(T++[gK (iA i t.2.2.2.2.1.toNat (dg U (st.getD t.2.2.2.2.1.toNat aj.aa).2.2)) U ti ti ti]).set (bm t).toNat (eC true false (T.getD (bm t).toNat ay.aa) U ti 8 [])else T++[gK (iA i t.2.2.2.2.1.toNat (dg U (st.getD t.2.2.2.2.1.toNat aj.aa).2.2)) U ti ti ti])=
  T.set (bm t).toNat (eC true false (T.getD (bm t).toNat ay.aa) U ti 8 [])++[gK (iA i t.2.2.2.2.1.toNat (dg U (st.getD t.2.2.2.2.1.toNat aj.aa).2.2)) U ti ti ti]:=by
  rw[an s,List.set_append_left _ _ u]
 show xm c.2.1 st _ A A T (if _ then _ else _);rw[f];refine⟨[lu (yZ (T.getD (bm t).toNat ay.aa) U ti 8 []),lu (gK (iA i t.2.2.2.2.1.toNat (dg U (st.getD t.2.2.2.2.1.toNat aj.aa).2.2)) U ti ti ti)],?_,?_,N7 fun d e=> ?_⟩;rw[r _ (fun x b=> ?_),nZ (mQ h) h.ti0 u a a,List.append_assoc];rfl;rcases awG b with b|rfl;have:=mQ h x b;omega
 have:dN (eC true false (T.getD (bm t).toNat ay.aa) U ti 8 [])=ti:=by
  unfold eC oc;rw[an (by rfl),an (show dN (T.getD (bm t).toNat ay.aa)= -1 from a)];rfl
 omega
 have z:GN c.2.1 (some (bu st:Int)) (lu (yZ (T.getD (bm t).toNat ay.aa) U ti 8 []))=some (bu st:Int):=by
  show nS c.2.1 (some (bu st:Int)) (T.getD (bm t).toNat ay.aa).1 8 0=some (bu st:Int);rw[g];exact uD (by decide) (by decide) (by decide) C v
 rw[awz,awz,List.foldl_nil,z];exact q;rcases List.mem_cons.1 e with rfl|e;show¬(T.getD (bm t).toNat ay.aa).1=7;omega;rw[awn.1 e];show¬(5:Int)=7;decide
 have f:(if t.2.2.2.2.1.toNat+1=st.length then(T++[gK (iA i t.2.2.2.2.1.toNat (dg U (st.getD t.2.2.2.2.1.toNat aj.aa).2.2)) U ti ti ti]).set (bm t).toNat (eC true false (T.getD (bm t).toNat ay.aa) U ti 8 [])else T++[gK (iA i t.2.2.2.2.1.toNat (dg U (st.getD t.2.2.2.2.1.toNat aj.aa).2.2)) U ti ti ti])=
  T++[gK (iA i t.2.2.2.2.1.toNat (dg U (st.getD t.2.2.2.2.1.toNat aj.aa).2.2)) U ti ti ti]:=a_ s
 show xm c.2.1 st _ A A T (if _ then _ else _);rw[f];exact kW (r _ fun x b=>by have:=mQ h x b;omega) q (vP (by show¬(5:Int)=7;decide))
def Vx(h:Rt k c ti U st m_ Z gr A nn V l_ O T):
 (hZ true k (c,ti,U,st,m_,Z,gr,A,nn,V,n_,l_,O,T)).1=true->
 xm c.2.1 st (oZ (hZ true k (c,ti,U,st,m_,Z,gr,A,nn,V,n_,l_,O,T)).2) A (iD (hZ true k (c,ti,U,st,m_,Z,gr,A,nn,V,n_,l_,O,T)).2) T (bG (hZ true k (c,ti,U,st,m_,Z,gr,A,nn,V,n_,l_,O,T)).2):=by
 obtain⟨I,J⟩:=th h;generalize r:O.getD 3 aq.aa=t;unfold hZ gw;dsimp only;rw[r];by_cases y:t.1=0;rw[an y];by_cases z:Z.length=0;rw[an z];intro f;simp[bC]at f;rw[a_ z,aU];intro _;exact pg (Kk rfl) rfl;rw[a_ y];have s:=h.tas 3 (by decide);rw[r]at s
 have H:t.1=5:=by
  have h1:=gM (k:=k) (w:=(c,ti,U,st,m_,Z,gr,A,nn,V,n_,l_,O,T)) (i:=3) s;omega
 obtain⟨-,v,hb,f,hv1,hw⟩:=dM h (by decide) r (by omega);obtain⟨q1,q12,q13,q14,b,p,o⟩:=(je H).1 s;by_cases B:t.2.1=0;rw[an B];exact MQ;rw[a_ B]
 have l:∀(m code:Int),nS c.2.1 (some (bu st:Int)) (T.getD (bm t).toNat ay.aa).1 code 0=some (bu st:Int):=fun m code=>by
  rw[p];exact uD (by omega) (by decide) (by decide) I J
 cases u:eJ A (keyOf t.2.2.1 c.2.2.2.2.2)with
 |none=>
  dsimp only;by_cases C:12<=A.length;rw[an C,aU];intro _;refine kW (nZ (mQ h) h.ti0 v b b) (l 0 3) ⟨fun _ _ h=> .inl h,fun d f _ q=> ?_⟩;rw[awn.1 f]at q;exact absurd rfl q;rw[a_ C,aU];intro _;refine kW (nZ (mQ h) h.ti0 v b (show dN (qn _ nn)= -1 from b)) (l nn 1) ⟨fun n a h=> ?_,fun d f _ q=> ?_⟩;obtain⟨g,x,e⟩:=h;exact .inl ⟨g,awv _ x,e⟩;rw[awn.1 f];exact⟨na c t.2.2.1 nn U,awt _ (awn.2 rfl),rfl,awn.2 o⟩
 |some i=>
  dsimp only;rw[aU];intro _;obtain⟨E,k2⟩:=pJ u;refine kW (nZ (mQ h) h.ti0 v b (show dN (qn _ _)= -1 from b)) (l 0 2) ⟨fun n a h=> ?_,fun d f _ q=> ?_⟩;obtain⟨g,x,F,G⟩:=h;obtain⟨j,K,rfl⟩:=iX al.aa x;by_cases e:i=j;subst e;by_cases D:a.1=t.2.2.1.1;refine .inr ⟨_,awn.2 rfl,.inl ⟨p,?_⟩⟩;show(T.getD (bm t).toNat ay.aa).2.2.1.1=a.1;rw[o,D];exact .inl ⟨_,AE E,F,UD G D⟩;exact .inl ⟨_,GV al.aa K e,F,G⟩;rw[awn.1 f];refine⟨_,AE E,rfl,?_⟩;show(T.getD (bm t).toNat ay.aa).2.2.1∈gy _ t.2.2.1;rw[o];exact Uq
def T6(h:Rt k c ti U st m_ Z gr A nn V l_ O T):
 (fq true k (c,ti,U,st,m_,Z,gr,A,nn,V,n_,l_,O,T)).1=true->
 xm c.2.1 st (oZ (fq true k (c,ti,U,st,m_,Z,gr,A,nn,V,n_,l_,O,T)).2) A (iD (fq true k (c,ti,U,st,m_,Z,gr,A,nn,V,n_,l_,O,T)).2) T (bG (fq true k (c,ti,U,st,m_,Z,gr,A,nn,V,n_,l_,O,T)).2):=by
 obtain⟨E,F⟩:=th h;generalize p:O.getD 4 aq.aa=t;unfold fq eX;dsimp only;rw[p];by_cases r:t.1=0;rw[an r];by_cases s:pz V U=true;rw[an s,aU];intro _;exact pg (Kk rfl) rfl;rw[a_ s];intro o;simp[bC]at o;rw[a_ r];have q:=h.tas 4 (by decide);rw[p]at q
 have C:t.1=6:=by
  have h1:=gM (k:=k) (w:=(c,ti,U,st,m_,Z,gr,A,nn,V,n_,l_,O,T)) (i:=4) q;omega
 obtain⟨-,x,hb,o,hv1,hw⟩:=dM h (by decide) p (by omega);obtain⟨q1,q12,q13,q14,f,m,q17,q18⟩:=(fP C).1 q;by_cases u:t.2.1=0;rw[an u];exact MQ;rw[a_ u]
 have l:∀(code:Int) (g:Nat),nS c.2.1 (some (bu st:Int)) (T.getD (bm t).toNat ay.aa).1 code g=some (bu st:Int):=fun code g=>by
  rw[m];exact uD (by omega) (by decide) (by decide) E F
 by_cases hk:kf A t.2.2.2.2.2.2.2.1=true;rw[an hk,aU];intro _;refine kW (nZ (mQ h) h.ti0 x f f) (l 8 _) ⟨fun n a B=> ?_,fun d o h7 _=> ?_⟩;obtain⟨g,G,H,y⟩:=B;unfold kf at hk;cases b:dW A t.2.2.2.2.2.2.2.1 with
 |none=>rw[b]at hk;cases hk
 |some i=>
  obtain⟨I,k2⟩:=fQ b;obtain⟨j,z,rfl⟩:=iX al.aa G;have v:gj A t.2.2.2.2.2.2.2.1 U=qs (A.getD i al.aa) U:=by unfold gj;rw[b]
  by_cases e:i=j;subst e;refine .inr ⟨_,awn.2 rfl,.inr ⟨m,?_,?_,?_⟩⟩;show(T.getD (bm t).toNat ay.aa).2.2.2.2.2.1=n;omega;show a∈(gj A t.2.2.2.2.2.2.2.1 U).2.2.2;rw[v];exact y;show sX (gj A t.2.2.2.2.2.2.2.1 U).2.2.2;rw[v];exact(gk.1 ((cj.1 h.grp.go).2.1 _ (bz (d:=al.aa) I))).2.2.2.2.2.2
  have D:A.getD j al.aa∈dm A t.2.2.2.2.2.2.2.1 U:=by
   unfold dm;rw[b];dsimp only;split;rw[bJ _ z];rcases awS e with e|e;refine awt _ (aw6.2 ⟨j-(i+1),by rw[awB];omega,?_⟩);rw[awT];congr 1;omega;exact awv _ (aw6.2 ⟨j,by rw[awN];omega,by rw[aw9]⟩);exact GV al.aa z e
  exact .inl ⟨_,D,H,y⟩
 rw[awn.1 o]at h7;have:(T.getD (bm t).toNat ay.aa).1=7:=h7;omega;rw[a_ hk,aU];intro _;exact kW (nZ (mQ h) h.ti0 x f f) (l 6 0) (vP (by show¬(T.getD (bm t).toNat ay.aa).1=7;omega))
end
def KA(w w':ah):Prop:=xm w.1.2.1 (oZ w) (oZ w') (iD w) (iD w') (bG w) (bG w')
def ZZ{k:Nat}{w:ah}{i:Nat}(h:bE k w=true)(hi:i<5)(m:∀p∈oZ w,p.2.1<4611686018427387904)(b:(lZ true k w i).1=true):KA w (lZ true k w i).2:=by
 obtain⟨c,ti,U,st,m_,Z,gr,A,nn,V,n_,l_,O,T⟩:=w;have R:=bF.1 h;generalize a:O.getD i aq.aa=t;have g:=R.tas i hi;rw[a]at g;have ho:=gM (k:=k) (w:=(c,ti,U,st,m_,Z,gr,A,nn,V,n_,l_,O,T)) (i:=i) g;revert b;unfold KA lZ;dsimp only[cA];rw[a];by_cases d:t.1=1;rw[an d];exact W7 R m (by omega) a d;rw[a_ d];by_cases j:t.1=2\/t.1=3;rw[an j];unfold kY vd;dsimp only;rw[a];by_cases e:t.1=2;rw[an e];exact Xh R (by omega) a e;rw[a_ e];exact Vw R (by omega) a (by omega);rw[a_ j];by_cases f:t.1=4;rw[an f];exact Um R (by omega) a f;rw[a_ f];by_cases l:i=3;rw[an l];exact Vx R;rw[a_ l];by_cases h6:i=4;rw[an h6];exact T6 R;rw[a_ h6];intro b;cases b
def Z3{k:Nat}{w:ah}{e:bT}(h:bE k w=true)(L:∀p∈oZ w,p.2.1<4611686018427387904)(a:(rh k w e).1=true):KA w (rh k w e).2:=by
 have M:=h;have q:∀i t op,KA w (gf w i t op):=fun i t op=>pg (Kk rfl) rfl
 have b:∀(d:aA) (l:ah),0<=w.2.1->(0:Int)<=(bu (oZ w):Int)/\(bu (oZ w):Int)<=w.1.2.1->(∀x∈bG w,dN x<w.2.1)->dN d=w.2.1->(¬(d.1=1/\(re d=1\/re d=3))/\¬d.1=4/\¬d.1=5/\¬d.1=7)->
  oZ l=oZ w->iD l=iD w->bG l=bG w++[d]->KA w l:=by
  intro d l h0 hc G a f H I J;unfold KA;rw[H,I,J];refine kW (LW (by omega) fun x K=>by have:=G x K;omega) ?_ (vP f.2.2.2);exact uD (op:=d.1) (code:=re d) f.1 f.2.1 f.2.2.1 hc.1 hc.2
 have g:0<=w.2.1/\((0:Int)<=(bu (oZ w):Int)/\(bu (oZ w):Int)<=w.1.2.1)/\∀x∈bG w,dN x<w.2.1:=by
  obtain⟨c,ti,U,st,m_,Z,gr,A,nn,V,n_,l_,O,T⟩:=w;have R:=bF.1 M;exact⟨R.ti0,th R,mQ R⟩
 obtain⟨D,E,F⟩:=g;unfold rh at a|-;by_cases r:e.1=1;rw[an r]at a|-;by_cases hc:cT w e.2.1=true;rw[an hc];dsimp only;by_cases s:cm e.2.2.1=true;rw[an s];exact q _ _ _;rw[a_ s];exact b (1,e.2.1,e.2.2.1,[],0,0,4,[],w.2.2.1,w.2.1,w.2.1,w.2.1) _ D E F rfl ⟨by show¬((1:Int)=1/\((4:Int)=1\/(4:Int)=3));decide,by show¬(1:Int)=4;decide,by show¬(1:Int)=5;decide,by show¬(1:Int)=7;decide⟩ rfl rfl rfl;rw[a_ hc]at a;cases a;rw[a_ r]at a|-;by_cases u:e.1=2;rw[an u]at a|-;by_cases hc:(cT w e.2.1&&cZ e.2.2.2)=true;rw[an hc];exact q _ _ _;rw[a_ hc]at a;cases a;rw[a_ u]at a|-;by_cases v:e.1=3;rw[an v]at a|-;by_cases hc:cT w e.2.1=true;rw[an hc];exact q _ _ _;rw[a_ hc]at a;cases a;rw[a_ v]at a|-;by_cases y:e.1=4;rw[an y]at a|-;by_cases hc:cT w e.2.1=true;rw[an hc];exact q _ _ _;rw[a_ hc]at a;cases a;rw[a_ y]at a|-;by_cases z:e.1=5;rw[an z]at a|-;by_cases j:aZ e.2.1 0 4=true;rw[an j]at a|-;have N:e.2.1.toNat<5:=by unfold aZ at j;simp only[A',b_]at j;omega
 exact ZZ h N L a;rw[a_ j]at a;cases a;rw[a_ z]at a|-;by_cases B:e.1=6;rw[an B]at a|-;by_cases m:aZ e.2.1 0 ((cG w).length-1)=true;rw[an m];exact b (zl e.2.1 ((cG w).getD e.2.1.toNat aW.aa) w.2.2.1 w.2.1) _ D E F rfl ⟨by show¬((9:Int)=1/\_);omega,by show¬(9:Int)=4;decide,by show¬(9:Int)=5;decide,by show¬(9:Int)=7;decide⟩ rfl rfl rfl;rw[a_ m]at a;cases a;rw[a_ B]at a|-;by_cases C:e.1=7;rw[an C]at a|-;by_cases o:aZ e.2.1 1 20=true/\w.2.2.1+e.2.1<=99899;rw[an o];exact pg rfl rfl;rw[a_ o]at a;cases a;rw[a_ C]at a;cases a
/-! how many stand-/
def Fu(l:List aA)(i:Nat):aA:=l.getD ((fS l).getD i 0).toNat ay.aa
def IZ(l:List aA):(gz l).length=(fS l).length:=by rw[<-Nx l,aw0]
def Wh{l:List aA}{i:Nat}(h:i<(fS l).length):(gz l).getD i ay.aa=lu (Fu l i):=by
 have e:=Nx l;rw[<-e,bJ _ (by rw[aw0];exact h),List.getElem_map];unfold Fu;rw[bJ _ h]
def Zk{l:List af}{a:af}(h:a∈l):∃j,xa l a.1=some j/\j<l.length/\(l.getD j ae.aa).1=a.1:=by
 obtain⟨j,b,e,f⟩:=tU (d:=ae.aa) (p:=fun x=>decide (x.1=a.1)) h (by simp);exact⟨j,b,e,by simpa using f⟩
def ajR{gs:List aw}{by_:List ByteArray}(h:dQ gs by_=true){n:Int}{a:af}(y:Sm gs n a):Vi gs a.1=n:=by
 obtain⟨g,r,B,w⟩:=y;have hk:=cj.1 h;obtain⟨j0,s,_⟩:=Zk w;obtain⟨i,C,x,D⟩:=tU (d:=al.aa) (p:=fun g:aw=>(xa g.2.2.2.2 a.1).isSome) r (by rw[s];rfl);have q:afF gs a.1=some i:=C;unfold Vi;rw[q];dsimp only;obtain⟨j,E⟩:=awV.1 D;have b:=aR.1 E;have z:((gs.getD i al.aa).2.2.2.2.getD j ae.aa).1=a.1:=e_ b.2.1;have f:=((gk.1 (hk.2.1 _ (bz (d:=al.aa) x))).2.2.2.2.2.1 _ (bz (d:=ae.aa) b.1)).2;have l:=((gk.1 (hk.2.1 _ r)).2.2.2.2.2.1 _ w).2;have o:keyOf ((gs.getD i al.aa).2.2.2.2.getD j ae.aa) by_=keyOf a by_:=by unfold keyOf;rw[z]
 obtain⟨m,u,rfl⟩:=iX al.aa r;have v:=jh (d:=al.aa).2 hk.2.2.2;by_cases e:i=m;rw[e];exact B;exfalso;rcases awS e with h6|h6;exact v m u i h6 (by rw[<-f,o,l]);exact v i x m h6 (by rw[<-f,o,l])
def ML(e d:aA):Bool:=
 (decide (e.1=7)&&decide (e.2.2.1.1=d.2.2.1.1))||
 (decide (e.1=8)&&(decide (Mm e=Mm d)&&(match eU (n9 e) d.2.2.1.1 with|some j=>decide ((n9 e).getD j ae.aa=d.2.2.1)|none=>false)))
def ahA{l:List af}{a:af}(h:sX l)(f:a∈l):∃j,eU l a.1=some j/\j<l.length/\l.getD j ae.aa=a:=by
 obtain⟨j,r,o,p⟩:=Zk f;refine⟨j,r,o,?_⟩;obtain⟨m,u,rfl⟩:=iX ae.aa f;have g:=jh (d:=ae.aa).2 h;by_cases e:j=m;rw[e];exfalso
 have b:∀s,bp s s=true->False:=fun s q=>by
  have:=k9.irrefl s;rw[q]at this;cases this
 rcases awS e with h6|h6;have:=g m u j h6;rw[p]at this;exact b _ this;have:=g j o m h6;rw[p]at this;exact b _ this
def agb{e d:aA}(h:SH e (Mm d) d.2.2.1):ML e d=true:=by
 unfold ML;rcases h with⟨a,b⟩|⟨a,b,f,g⟩;rw[c_ a,c_ b];rfl;obtain⟨j,l,_,m⟩:=ahA g f;rw[c_ a,c_ b,l];dsimp only;rw[c_ m,Bool.and_self,Bool.and_self,aw7]
def Bg{α:Type}{n i:Nat}{a d:α}(h:i<n):(awr n a).getD i d=a:=by
 rw[bJ _ (by simpa using h)];simp
def BI(k:Nat)(w:ah):Prop:=bE k w=true/\∃n,n<=160/\vo n w
section
variable{k:Nat}(hk:9223372036854775808<=k)
include hk
def OS{c:aY}(hc:cY c=true):bE k (mN c)=true/\vo 0 (mN c):=by
 obtain⟨c0,E,F,c3,c4⟩:=nX hk hc
 have hcn:0<=c.2.1/\1<=c.2.2.1:=by
  unfold cY aZ at hc;simp only[A',b_]at hc;omega
 unfold mN;rw[an hc]
 have b:fK c.1=awr c.1.toNat (-1,0,[]):=by
  unfold fK;simp[E,F]
 have hlen:(fK c.1).length=c.1.toNat:=by rw[b];simp
 have f:bO (fK c.1)=[]:=by
  rw[b];refine awQ.2 fun a l=> ?_;obtain⟨p,z,ch,v,_⟩:=I7.1 l;rw[(awJ.1 z).2]at v;exact absurd v (axd)
 have r:∀s∈tG c,fp s=true:=by
  intro s B;unfold tG at B;rw[(awJ.1 B).2];unfold fp bI;simp[kz]
 have w:∀i,i<5->(awr 5 su).getD i aq.aa=zT:=fun i e=>Bg e;constructor
 refine bF.2 ⟨hc,awC _,awC _,⟨by decide,by decide⟩,⟨bQ.2 ⟨fun i e=> ?_,by omega,by omega⟩,by omega,by unfold bu;rw[f];simp;omega,by rw[f];intro a l;cases l⟩,
  ⟨by unfold tG;simp;omega,r,fun a l=>(by cases l),fun a l=>(by cases l)⟩,fun d D=>(by cases D),rfl,fun i e=> ?_,⟨fun q C j m=> ?_,fun j m=> ?_,by decide,by decide⟩,cj.2 ⟨by decide,fun g y=>(by cases y),List.Pairwise.nil,List.Pairwise.nil⟩,qb.2 ⟨fun x o=>(by cases o),fun j m=>by simp at m,by decide⟩,fun x o=>(by cases o),List.Pairwise.nil,fun g y=>(by cases y)⟩
 rw[b]at e|-;rw[Bg (by simpa using e)];exact da.2 ⟨fun c hc=>(by cases hc),List.Pairwise.nil,⟨by decide,by decide⟩,by decide⟩;rw[w i e];exact mO e;rw[w j m,cM (.inl rfl)];rw[b]at C|-;rw[Bg (by simpa using C)];constructor;intro h;omega;intro h;exact absurd h (by show¬(-1:Int)=(j:Int);omega);rw[w j m,eI (.inr rfl)];constructor;intro h;cases h;intro h;omega;refine⟨awC _,awC _,fun p z=> ?_,by show(0:Nat)+(if((awr 5 su).getD 4 aq.aa).1=6 then 1 else 0)<=0;decide,fun _ x o=>(by cases o),by show ai (.sl ae) ([]:List af)<=_;rw[bd];omega,by show ai (.sl ae) ([]:List af)<=_;rw[bd];omega,by show 3*0+3*0+dZ ((awr 5 su).getD 3 aq.aa)+dZ ((awr 5 su).getD 4 aq.aa)<=0;decide,by show ai (.sl cw) ([]:List bq)<=_;rw[bd];omega,by show ai (.sl ay) ([]:List aA)<=_;rw[bd];omega,fun i e=> ?_⟩;have u:p∈fK c.1:=z;rw[b]at u;rw[(awJ.1 u).2];exact awC _;show((awr 5 su).getD i aq.aa).2.2.2.2.2.2.1.length<=8*((awr 5 su).getD i aq.aa).2.2.2.2.2.1.length;rw[w i e];decide
def SX{c:aO}(hc:bn c):Dr (oM k (c,())) (fun r=>bn r.2.1/\qF r.1=true):=by
 simp only[oM];refine cq (cK hk hc) (fun r1 a=>dI (fun _=>dA ⟨a.1,(show qF []=true by decide)⟩) (fun _=>dI (fun _=>dA ⟨a.1,(show qF [⟨#[97,112,112]⟩,⟨#[115,101,118]⟩]=true by decide+kernel)⟩) (fun _=>dI (fun _=>dA ⟨a.1,(show qF [⟨#[104,111,115,116]⟩]=true by decide+kernel)⟩) (fun _=>dA ⟨a.1,(show qF [⟨#[97,112,112]⟩]=true by decide+kernel)⟩))))
def NH{c:aO}(hc:bn c):Dr (lF k (c,())) (fun r=>bn r.2.1/\cY r.1=true):=by
 simp only[lF];refine cq (cK hk hc) (fun r1 a=>cq (Qn hk 1 8 a.1 (by decide) (by decide)) (fun r2 b=>cq (cK hk b.1) (fun r3 d=>cq (cK hk d.1) (fun r4 e=>cq (cK hk e.1) (fun r5 f=>cq (SX hk f.1) (fun r6 h6=>dA ⟨h6.1,?_⟩))))));have g1:=a.2;have g2:=b.2;have g3:=d.2;have g4:=e.2;have g5:=f.2;rw[wrap64 (by omega) (by omega),wrap64 (by omega) (by omega),wrap64 (by omega) (by omega),wrap64 (by omega) (by omega)];unfold cY aZ;simp only[A',b_];exact⟨⟨⟨⟨⟨⟨by omega,by omega⟩,by omega,by omega⟩,by omega,by omega⟩,by omega,by omega⟩,by omega,by omega⟩,h6.2⟩
end
def AW(e:bT):Prop:=ai ae e.2.2.1<=2900/\ai (.sl ak) e.2.2.2<=2900
section
variable{k:Nat}(hk:9223372036854775808<=k)
include hk
def vv{a b:Int}:AW (a,b,([],0,0,ByteArray.empty),[]):=by
 have e1:=jQ hk;have e2:ai (.sl ak) ([]:List ag)=0:=bd;exact⟨by show ai ae bU<=2900;omega,by show ai (.sl ak) ([]:List ag)<=2900;omega⟩
def Ta{w:ah}(h:bE k w=true):ai (.sl ae) (dC (bO w.2.2.2.1))<=776/\ai (.sl aj) w.2.2.2.1<=1000:=by
 obtain⟨c,ti,U,st,m_,Z,gr,A,nn,V,n_,l_,O,T⟩:=w;have R:=bF.1 h;have h1:=iK hk (l:=bO st) fun a b=>fc (R.sto.fit a b);have d:=R.sto.cap;have h3:=(nX hk R.cf).2.2.2.1;have e:=Gz hk R.sto.ok;have h5:=(bQ.1 R.sto.ok).2;unfold bu at d e;rw[rH];dsimp only;omega
set_option maxHeartbeats 8000000 in
def NN{c:aO}{w:ah}(hc:bn c)(hw:bE k w=true):Dr (lR k (c,w,())) (fun r=>AW r.1/\bn r.2.1):=by
 have R:(cA w).length=5:=by
  obtain⟨c,ti,U,st,m_,Z,gr,A,nn,V,n_,l_,O,T⟩:=w;exact(bF.1 hw).tl
 obtain⟨t1,t2⟩:=Ta hk hw;have t3:=az (e:=ae) (l:=dC (bO w.2.2.2.1));have x:=zn hk (l:=w.2.2.2.1) (by omega)
 have p:∀t:aO×ah×bT×Int×af×Unit,(bn t.1/\t.2.1=w/\ai ae t.2.2.2.2.1<=400)->Dr (
  P' (cF k (t.2.1.2.2.2.1,())) fun D=>
  P' (dw k (t.1,())) fun f=>
  if(decide (awx D.1+awx ([f.1]:List af)<4294967296))=true then
   P' (cQ k (f.2.1,D.1++([f.1]:List af),())) fun m=>
   P' (bH k (m.2.1,([(0:Int),(3:Int),(9:Int),(60:Int)]:List Int),())) fun o=>
   some (((1:Int),t.2.2.2.1,(m.1,t.2.2.2.2.1.2.1,IntKind.i64.wrap (t.2.2.2.2.1.2.1+o.1),t.2.2.2.2.1.2.2.2),([]:List ag)),o.2.1,())
  else
   none) (fun r:bT×aO×Unit=>AW r.1/\bn r.2.1):=by
  rintro⟨c',w',e,i,a,u⟩ ⟨L,M,g3⟩;dsimp only at L M g3|-;subst M;rw[x,k_];refine cq (yo hk L) (fun f zt=>kL (c_ (by simp only[awp];omega)) ?_)
  have hl:ai (.sl ae) (dC (bO w'.2.2.2.1)++[f.1])<=1000:=by
   rw[gZ (e:=ae),bW (e:=ae),bd];have:=zt.2;omega
  refine cq (zW hk (l:=dC (bO w'.2.2.2.1)++[f.1]) zt.1 (by omega)) (fun m mS=>cq (ld hk mS.1 (by decide)) (fun o Dc=>dA ⟨⟨?_,?_⟩,Dc⟩))
  ·have e1:=bj hk (m.1,a.2.1,IntKind.i64.wrap (a.2.1+o.1),a.2.2.2);have e2:=bj hk a;have:=mS.2;dsimp only at e1|-;omega
  ·show ai (.sl ak) ([]:List ag)<=2900;rw[bd];omega
 have v:∀(r:aO) (q:af) (i:Int) (J:aO×ah×bT×Int×af×Unit->Option (bT×aO×Unit)),bn r->ai ae q<=121->
  (∀s,(bn s.1/\s.2.1=w/\ai ae s.2.2.2.2.1<=400)->Dr (J s) (fun r:bT×aO×Unit=>AW r.1/\bn r.2.1))->
  Dr (P' (di k (r,(16:Int),())) fun N=>
   if N.1=true then
    P' (gL k (N.2.1,())) fun S=>
    J (S.2.1,w,(0,0,(([]:List ag),0,0,ByteArray.empty),([]:List ag)),i,S.1,())
   else
    J (N.2.1,w,(0,0,(([]:List ag),0,0,ByteArray.empty),([]:List ag)),i,q,())) (fun r:bT×aO×Unit=>AW r.1/\bn r.2.1):=by
  intro r q i J hr hq g;refine cq (mV hk hr) (fun N h8=>dI (fun _=> ?_) (fun _=>g _ ⟨h8,rfl,by dsimp only;omega⟩));exact cq (Qh hk h8) (fun S h9=>g _ ⟨h9.1,rfl,h9.2⟩)
 have d:∀(C:Int) (z:aO) (i:Int) (J:aO×ah×bT×Unit->Option (bT×aO×Unit)),bn z->
  (∀s,(bn s.1/\s.2.1=w)->Dr (J s) (fun r:bT×aO×Unit=>AW r.1/\bn r.2.1))->
  Dr (if((C:Int)==(3:Int))=true then
   P' (cF k (w.2.2.2.1,())) fun W=>
   P' (cQ k (z,W.1,())) fun y=>
   some (((2:Int),i,(([]:List ag),0,0,ByteArray.empty),y.1),y.2.1,())
  else
   if((C:Int)==(4:Int))=true then
    P' (bH k (z,([(3:Int),(4:Int)]:List Int),())) fun E=>
    some ((E.1,i,(([]:List ag),0,0,ByteArray.empty),([]:List ag)),E.2.1,())
   else
    if((C:Int)==(5:Int))=true then
     P' (bH k (z,([(1:Int),(1:Int),(2:Int),(5:Int)]:List Int),())) fun F=>
     some (((7:Int),F.1,(([]:List ag),0,0,ByteArray.empty),([]:List ag)),F.2.1,())
    else
     if((C:Int)==(6:Int))=true then
      P' (bf k (z,(2:Int),())) fun H=>
      some (((6:Int),H.1,(([]:List ag),0,0,ByteArray.empty),([]:List ag)),H.2.1,())
     else
      J (z,w,(0,0,(([]:List ag),0,0,ByteArray.empty),([]:List ag)),())) (fun r:bT×aO×Unit=>AW r.1/\bn r.2.1):=by
  intro C z i J j g;refine dI (fun _=> ?_) (fun _=>dI (fun _=> ?_) (fun _=>dI (fun _=> ?_) (fun _=>dI (fun _=> ?_) (fun _=>g _ ⟨j,rfl⟩))))
  ·rw[x,k_];refine cq (zW hk j (by dsimp only;omega)) (fun y Gp=>dA ⟨⟨?_,?_⟩,Gp.1⟩)
   ·have:=jQ hk;show ai ae bU<=2900;omega
   ·have:=Gp.2;dsimp only at this|-;omega
  ·exact cq (ld hk j (by decide)) (fun r h=>dA ⟨vv hk,h⟩)
  ·exact cq (ld hk j (by decide)) (fun r h=>dA ⟨vv hk,h⟩)
  ·exact cq (cK hk j) (fun r h=>dA ⟨vv hk,h.1⟩)
 simp only[lR];refine cq (cK hk hc) (fun r1 h1=>Nz (fun t:aO×ah×bT×Unit=>bn t.1/\t.2.1=w) ?_ ?_)
 ·rintro⟨c3,w3,e3,u3⟩ ⟨L,M⟩;dsimp only at L M|-;subst M;refine cq (cK hk L) (fun r47 B=>Nz (fun t:aO×ah×bT×Int×Unit=>bn t.1) (fun t ht=>dA ⟨vv hk,ht⟩) (fun J g=> ?_));refine NP (fun t:aO×ah×bT×Int×Int×Unit=>(3-t.2.2.2.2.1).toNat) (fun t=>bn t.1/\t.2.1=w3/\0<=t.2.2.2.1/\t.2.2.2.1<5/\0<=t.2.2.2.2.1/\t.2.2.2.2.1<=3) ?_ ⟨B.1,rfl,by have:=B.2;dsimp only;omega,by have:=B.2;dsimp only;omega,awC _,by show(0:Int)<=3;decide⟩ (by dsimp only;omega);rintro G ⟨c5,w5,e5,i5,n5,u5⟩ ⟨q1,q2,q3,q4,q5,q6⟩ hG;dsimp only at q1 q2 q3 q4 q5 q6 hG|-;subst q2;refine dI (fun I=>kL ?_ ?_) (fun _=>g _ q1)
  ·rw[show w5.2.2.2.2.2.2.2.2.2.2.2.2.1.length=5 from R];exact c_ ⟨q3,by omega⟩
  ·have I:n5<3:=by simpa using I
   have Y:∀b:Bool,Dr (if b=true then kA k (w5,())else some (false,())) (fun _=>True):=fun b=>dI (fun _=>⟨_,yG hk,trivial⟩) (fun _=>⟨_,rfl,trivial⟩);refine cq (P:=fun _=>True) (Y _) (fun r52 _=>dI (fun _=>g _ q1) (fun _=>cq (cK hk q1) (fun r53 K=> ?_)))
   ·have:=K.2;rw[wrap64 (by omega) (by omega)];exact hG _ ⟨K.1,rfl,by dsimp only;omega,by dsimp only;omega,by dsimp only;omega,by dsimp only;omega⟩ (by dsimp only;omega)
 ·intro J g;refine cq (cK hk h1.1) (fun C Q=> ?_);refine dI (fun _=>dI (fun _=> ?_) (fun _=>d _ _ _ _ Q.1 g)) (fun _=>dI (fun _=>dI (fun _=> ?_) (fun _=>d _ _ _ _ Q.1 g)) (fun _=>dI (fun _=> ?_) (fun _=>d _ _ _ _ Q.1 g)))
  all_goals
   exact cq (yo hk Q.1) (fun r5 R=>Nz _ p (fun J' X=>v _ _ _ _ R.1 R.2 X))
theorem OU{b:List Int}{m:Int}(hb:b.length<=1048576)(a:0<=m):Dr (mr k (b,m,())) (fun r=>0<=r.1/\r.1<=1048576/\(r.1<=m\/m<0)):=by
 simp only[mr]
 have d:Int.tdiv (b.length:Int) 12=((b.length/12:Nat):Int):=by
  rw[Int.tdiv_eq_ediv_of_nonneg (by omega)];rfl
 rw[d,wrap64 (n:=((b.length/12:Nat):Int)) (by omega) (by omega),wrap64 (by omega) (by omega)];refine kL (by decide) (dI (fun h=> ?_) (fun h=> ?_));have h:m<3+((b.length/12:Nat):Int):=by simpa using h
 exact dA ⟨a,by dsimp only;omega,.inl (awC _)⟩;have h:¬m<3+((b.length/12:Nat):Int):=by simpa using h
 exact dA ⟨by dsimp only;omega,by dsimp only;omega,.inl (by dsimp only;omega)⟩
end
def ND(hi:List aA)(gs:List aw):Prop:=
 ∀pre d post,hi=pre++d::post->d.1=7->¬re d=3->(∃e∈post,SH e (Mm d) d.2.2.1)\/Sm gs (Mm d) d.2.2.1
def aj5{l:List aA}{gs:List aw}{by_:List ByteArray}(h:ND (gz l) gs)(g:dQ gs by_=true){i:Nat}(hi:i<(fS l).length)(h7:(Fu l i).1=7)(m:¬re (Fu l i)=3):
 (∃j,i<j/\j<(fS l).length/\ML (Fu l j) (Fu l i)=true)\/Vi gs (Fu l i).2.2.1.1=Mm (Fu l i):=by
 have a:i<(gz l).length:=by rw[IZ];exact hi
 have e:gz l=(gz l).take i++(gz l).getD i ay.aa::(gz l).drop (i+1):=by
  rw[<-Mi _ a,Up _ a]
 rw[Wh hi]at e;rcases h _ _ _ e h7 m with⟨x,o,d⟩|p;obtain⟨j,q,f⟩:=awR o;rw[awB,IZ]at q;rw[awT]at f;have b:=Wh (l:=l) (i:=i+1+j) (by omega);rw[bJ _ (by rw[IZ];omega),f]at b;refine .inl ⟨i+1+j,by omega,by omega,agb ?_⟩;rw[b]at d;exact d;exact .inr (ajR g p)
structure N1(w:ah):Prop where
 opg:qG (bG w)
 cnt:(gz (bG w)).foldl (GN w.1.2.1) (some 0)=some (bu (oZ w):Int)
 nd:ND (gz (bG w)) (iD w)
def ab2{hi news:List aA}{gs a:List aw}(h:ND hi gs)(g:P2 gs a news):ND (hi++news) a:=by
 intro pre d post e h7 f;rcases List.append_eq_append_iff.1 e with⟨m,q,b⟩|⟨m,q,b⟩;have j:d∈news:=by rw[b];exact awt _ (awI ..)
 exact .inr (g.2 d j h7 f);cases m with
 |nil=>
  have j:d∈news:=by
   have r:news=d::post:=by simpa using b.symm
   rw[r];exact awI ..
  exact .inr (g.2 d j h7 f)
 |cons x m=>
  rw[List.cons_append]at b;obtain⟨rfl,rfl⟩:=List.cons.inj b;rcases h pre d m q h7 f with⟨x,l,o⟩|p;exact .inl ⟨x,awv _ l,o⟩;rcases g.1 _ _ p with p|⟨x,l,o⟩;exact .inr p;exact .inl ⟨x,awt _ l,o⟩
def vN(r:Bool×ah):(bC r).2.1=r.2.1:=by
 unfold bC;split<;>rfl
def Z7{k:Nat}{w:ah}{i:Nat}:(lZ true k w i).2.1=w.1:=by
 obtain⟨c,ti,U,st,m_,Z,gr,A,nn,V,n_,l_,O,T⟩:=w;unfold lZ;split
 ·unfold ia;rw[vN];unfold pA ey;dsimp only
  repeat' split
  all_goals rfl
 split
 ·unfold kY;rw[vN];unfold vd lz fx ey;dsimp only
  repeat' split
  all_goals rfl
 split
 ·unfold fu;rw[vN];unfold qa ey;dsimp only
  repeat' split
  all_goals rfl
 split
 ·unfold hZ;rw[vN];unfold gw iy;dsimp only
  repeat' split
  all_goals rfl
 split
 ·unfold fq;rw[vN];unfold eX iy;dsimp only
  repeat' split
  all_goals rfl
 rfl
def Z1{k:Nat}{w:ah}{e:bT}:(rh k w e).2.1=w.1:=by
 unfold rh;split;split;dsimp only;split<;>rfl;rfl;split;split<;>rfl;split;split<;>rfl;split;split<;>rfl;split;split;exact Z7;rfl;split;split<;>rfl;split;split<;>rfl;rfl
def ac2{k:Nat}{w:ah}{e:bT}{n:Nat}(h:bE k w=true)(d:vo n w)(hn:n<=160)(f:(rh k w e).1=true)(hi:N1 w):N1 (rh k w e).2:=by
 have g:0<=w.2.1:=by
  obtain⟨c,ti,U,st,m_,Z,gr,A,nn,V,n_,l_,O,T⟩:=w;exact(bF.1 h).ti0
 obtain⟨news,a,j,l⟩:=Z3 h (fun p b=>by have:=d.ver p b;omega) f;refine⟨adi g hi.opg,?_,?_⟩;rw[a,awM,Z1,hi.cnt];exact j;rw[a];exact ab2 hi.nd l
def aav{c:aY}(hc:cY c=true):N1 (mN c):=by
 have g:0<=c.1/\c.1<=3/\1<=c.1:=by
  unfold cY aZ at hc;simp only[A',b_]at hc;omega
 have h:fK c.1=awr c.1.toNat (-1,0,[]):=by
  unfold fK;simp[g]
 have b:bu (fK c.1)=0:=by
  rw[h]
  have:bO (awr c.1.toNat ((-1,0,[]):au))=[]:=by
   refine awQ.2 fun a j=> ?_;obtain⟨p,m,ch,f,_⟩:=I7.1 j;rw[(awJ.1 m).2]at f;exact absurd f (axd)
  unfold bu;rw[this];rfl
 unfold mN;rw[an hc];refine⟨fun d l=>(by cases l),?_,fun pre d post e=> ?_⟩;show some (0:Int)=some ((bu (fK c.1):Nat):Int);rw[b];rfl;have e:([]:List aA)=pre++d::post:=e;simp at e
section
variable{k:Nat}(hk:9223372036854775808<=k)
include hk
set_option maxHeartbeats 8000000 in
def Ug{c:aO}{m:Int}{P:ah->Prop}(q:∀c,cY c=true->P (mN c))(s:∀w e n,bE k w=true->vo n w->n<=160->(rh k w e).1=true->P w->P (rh k w e).2)
 (hc:bn c) (hm:m<=1000):Dr (mz k (c,m,())) (fun r=>(BI k r.2.2.1/\P r.2.2.1)/\bn r.2.2.2.1):=by
 simp only[mz];refine cq (NH hk hc) (fun r1 b=> ?_);obtain⟨h,j⟩:=OS hk b.2;have hsz:=F8 hk h j (by omega);have hcs:=(nX hk b.2).1;refine ve (Az hk (by omega)) (ve (BV hk (by dsimp only;omega)) ?_);refine Nz (fun t:aO×ah×ah×List bT×ah×ah×Unit=>bn t.1/\BI k t.2.2.2.2.2.1/\P t.2.2.2.2.2.1) (fun t f=>dA ⟨f.2,f.1⟩) (fun J o=> ?_);refine cq (cK hk b.1) (fun r6 h6=> ?_)
 refine NP (fun t:aO×ah×ah×List bT×ah×ah×Int×Unit=>t.2.2.2.2.2.2.1.toNat)
  (fun t=>bn t.1/\bE k t.2.2.2.2.2.1=true/\P t.2.2.2.2.2.1/\vo t.2.2.2.1.length t.2.2.2.2.2.1/\t.2.2.2.1.length<=160/\t.2.2.2.2.2.2.1<=2000/\-1<=t.2.2.2.2.2.2.1) ?_ ⟨h6.1,h,q _ b.2,j,by simp,?_,?_⟩ ?_
 rintro G ⟨c8,w1,w2,l,w3,w,i,u⟩ ⟨q1,q2,q0,q3,q4,q5,q6⟩ hG;dsimp only at q1 q2 q0 q3 q4 q5 q6 hG|-;refine dI (fun a=> ?_) (fun _=>o _ ⟨q1,⟨q2,_,q4,q3⟩,q0⟩)
 have a:0<i/\(l.length:Int)<160:=by
  by_cases d:(0:Int)<i;rw[an (by simpa using d)]at a;exact⟨d,by simpa using a⟩;rw[a_ (by simpa using d)]at a;cases a
 refine cq (NN hk q1 q2) (fun p h9=>kL (c_ (by simp only[awp];omega)) ?_);have v:=F8 hk q2 q3 q4;refine ve (BV hk (by omega)) (ve (Ij hk (awU v (by decide)) q2 (by have:=h9.1.1;omega) (by have:=h9.1.2;omega)) ?_);have x:IntKind.i64.wrap (i-1)=i-1:=wrap64 (by omega) (by omega);rw[x];have hlen:(l++[p.1]).length=l.length+1:=by simp
 refine dI (fun g=> ?_) (fun _=> ?_);obtain⟨y,z⟩:=Rf hk q2 q3 q4 h9.1.1 g;exact hG _ ⟨h9.2,y,s _ _ _ q2 q3 q4 g q0,by dsimp only;rw[hlen];exact z,by dsimp only;rw[hlen];omega,by dsimp only;omega,by dsimp only;omega⟩ (by dsimp only;omega);refine hG _ ⟨h9.2,q2,q0,?_,by dsimp only;rw[hlen];omega,by dsimp only;omega,by dsimp only;omega⟩ (by dsimp only;omega);dsimp only;rw[hlen];exact Ex.stay q3;have:=h6.2;dsimp only;rw[wrap64 (by omega) (by omega)];omega;have:=h6.2;dsimp only;rw[wrap64 (by omega) (by omega)];omega;have:=h6.2;dsimp only;rw[wrap64 (by omega) (by omega)];omega
def P4{c:aO}{m:Int}(hc:bn c)(g:m<=1000):Dr (kM k (c,m,())) (fun r=>(BI k r.1/\N1 r.1)/\bn r.2.1):=by
 simp only[kM];obtain⟨r,e,h⟩:=Ug hk (P:=N1) (fun c hc=>aav hc) (fun w e n h a b d f=>ac2 h a b d f) hc g;rw[e,k_];exact⟨_,rfl,h⟩
def PG{b:List Int}(d:b.length<=1048576):Dr (jX k (b,())) (fun r=>BI k r.1/\N1 r.1):=by
 simp only[jX];obtain⟨r1,f,g⟩:=Qt hk d;rw[f,k_];obtain⟨a,h,h2⟩:=OU hk (m:=110) d (by decide);rw[h,k_];have e:IntKind.i64.wrap (40+a.1)=40+a.1:=wrap64 (by omega) (by omega);rw[e];obtain⟨r3,j,l⟩:=P4 hk g (show 40+a.1<=1000 by omega);rw[j,k_];exact⟨_,rfl,l.1⟩
def Xk{w:ah}(h:BI k w):ai aD w<=1000000:=by
 obtain⟨a,n,b,d⟩:=h;exact F8 hk a d b
def VJ{w:ah}(h:ai aD w<=1000000):(bG w).length<=1000000/\ai (.sl ay) (bG w)<=1000000/\ai (.sl aj) (oZ w)<=1000000/\ai (.sl al) (iD w)<=1000000:=by
 have h1:=iI hk w;have h2:=az (e:=ay) (l:=bG w);have h3:ai (.sl ay) (bG w)<=ai aD w:=by unfold bG;omega
 have h4:ai (.sl aj) (oZ w)<=ai aD w:=by unfold oZ;omega
 have h5:ai (.sl al) (iD w)<=ai aD w:=by unfold iD;omega
 omega
omit hk in
theorem Qr{l:List aA}{i:Nat}(h:i<(fS l).length):0<=(fS l).getD i 0/\(fS l).getD i 0<(l.length:Int):=by
 have a:(fS l).getD i 0∈fS l:=bz h;have:=SZ l l.length _ ((mi (GI l) (idxs l l.length)).mem_iff.1 a);exact⟨this.1,this.2.1⟩
def Xd{l:List af}{s:List ag}(hs:ai (.sl ae) l<=1048576):vm k (l,s,())=some (dB (eU l s),()):=by
 simp only[vm];rw[xu hk hs,k_]
def af0{ρ:Type}{E D:aA}{lat:Bool}{K:Bool->Option ρ}{Q:ρ->Prop}(w:ai ay E<=1000000)(o:∀b:Bool,(lat=true\/ML E D=true->b=true)->Dr (K b) Q):
 Dr (P' ((if(((lat:Bool)==false)&&(((E.1:Int)==(7:Int):Bool)==true))=true then cH k (E.2.2.1.1,D.2.2.1.1,())else some (false,()))) fun a=>
  P' ((if((((if lat=true then true else if((E.1:Int)==(7:Int))=true then a.1 else false):Bool)==false)&&(((if((E.1:Int)==(8:Int))=true then(E.2.2.2.2.2.1:Int)==D.2.2.2.2.2.1 else false):Bool)==true))=true then vm k (E.2.2.2.2.2.2.2.1,D.2.2.1.1,())else some (0,()))) fun f=>
  P' ((if((((if lat=true then true else if((E.1:Int)==(7:Int))=true then a.1 else false):Bool)==false)&&(((if(if((E.1:Int)==(8:Int))=true then(E.2.2.2.2.2.1:Int)==D.2.2.2.2.2.1 else false)=true then decide ((f.1:Int)>=(0:Int))else false):Bool)==true))=true then vm k (E.2.2.2.2.2.2.2.1,D.2.2.1.1,())else some (0,()))) fun g=>
  if(!((((if lat=true then true else if((E.1:Int)==(7:Int))=true then a.1 else false):Bool)==false)&&(((if(if((E.1:Int)==(8:Int))=true then(E.2.2.2.2.2.1:Int)==D.2.2.2.2.2.1 else false)=true then decide ((f.1:Int)>=(0:Int))else false):Bool)==true))||(decide (0<=g.1/\g.1<((awx E.2.2.2.2.2.2.2.1:Nat):Int))))=true then
   P' ((if((((if lat=true then true else if((E.1:Int)==(7:Int))=true then a.1 else false):Bool)==false)&&(((if(if((E.1:Int)==(8:Int))=true then(E.2.2.2.2.2.1:Int)==D.2.2.2.2.2.1 else false)=true then decide ((f.1:Int)>=(0:Int))else false):Bool)==true))=true then cN k (awA E.2.2.2.2.2.2.2.1 (awH g.1) ae.aa,D.2.2.1,())else some (false,()))) fun r=>
   K (if(if lat=true then true else if((E.1:Int)==(7:Int))=true then a.1 else false)=true then true else if(if(if((E.1:Int)==(8:Int))=true then(E.2.2.2.2.2.1:Int)==D.2.2.2.2.2.1 else false)=true then decide ((f.1:Int)>=(0:Int))else false)=true then r.1 else false)
  else none) Q:=by
 have ht:ai ae E.2.2.1+ai (.sl ae) E.2.2.2.2.2.2.2.1<=1000000:=by
  rw[cU hk]at w;omega
 have x:E.2.2.1.1.length<=1048576:=by
  have y:=bj hk E.2.2.1;have z:=az (e:=ak) (l:=E.2.2.1.1);omega
 cases lat with
 |true=>
  simp only[show((true:Bool)==false)=false from rfl,awK,A_,if_false,if_true,k_,awD,awP];exact o true fun _=>rfl
 |false=>
  by_cases h7:E.1=7;have p:((E.1:Int)==(8:Int))=false:=by rw[h7];rfl
  have q:((E.1:Int)==(7:Int))=true:=by rw[h7];rfl
  simp only[q,p,show((false:Bool)==false)=true from rfl,show((true:Bool)==true)=true from rfl,awE,Bool.and_true,if_true,A_,if_false,dV hk x,k_,show((false:Bool)==true)=false from rfl,aw3,awD,awP];refine o _ ?_;rintro(h|h);cases h;unfold ML at h;rw[h7]at h;have:¬(7:Int)=8:=by decide
  simp only[decide_true,awE,this,decide_false,awK,Bool.or_false,b_]at h;rw[h];simp;have q:((E.1:Int)==(7:Int))=false:=by simpa using h7
  by_cases h8:E.1=8/\Mm E=Mm D;have p:((E.1:Int)==(8:Int))=true:=by rw[h8.1];rfl
  have B:((E.2.2.2.2.2.1:Int)==D.2.2.2.2.2.1)=true:=by simpa[Mm]using h8.2
  simp only[q,p,B,show((false:Bool)==false)=true from rfl,show((true:Bool)==true)=true from rfl,awE,Bool.and_true,if_true,A_,if_false,show((false:Bool)==true)=false from rfl,aw3,Xd hk (show ai (.sl ae) E.2.2.2.2.2.2.2.1<=1048576 by omega),k_];cases s:eU E.2.2.2.2.2.2.2.1 D.2.2.1.1 with
  |none=>
   have u:decide (dB (none:Option Nat)>=0)=false:=by decide
   simp only[u,show((false:Bool)==true)=false from rfl,A_,if_false,awD,awP,if_true,k_];refine o _ ?_;rintro(h|h);cases h;unfold ML at h;have m:eU (n9 E) D.2.2.1.1=none:=s;rw[m]at h;simp[h7]at h
  |some j=>
   have C:=(aR.1 s).1;have u:decide (((j:Nat):Int)>=0)=true:=c_ (by omega);have F:dB (some j)=(j:Int):=rfl;have G:decide (0<=((j:Nat):Int)/\((j:Nat):Int)<((awx E.2.2.2.2.2.2.2.1:Nat):Int))=true:=c_ (by omega);have ha:=dq (e:=ae) (l:=E.2.2.2.2.2.2.2.1) (d:=ae.aa) C
   have v:(awA E.2.2.2.2.2.2.2.1 j ae.aa).1.length<=1048576:=by
    have y:=bj hk (awA E.2.2.2.2.2.2.2.1 j ae.aa);have z:=az (e:=ak) (l:=(awA E.2.2.2.2.2.2.2.1 j ae.aa).1);omega
   simp only[u,G,show((true:Bool)==true)=true from rfl,if_true,k_,aw7,F,awL,iH hk v];refine o _ ?_;rintro(h|h);cases h;unfold ML at h;have m:eU (n9 E) D.2.2.1.1=some j:=s;rw[m]at h;simp only[h7,decide_false,awK,Bool.false_or,A']at h;exact h.2.2
  have p:(if((E.1:Int)==(8:Int))=true then(E.2.2.2.2.2.1:Int)==D.2.2.2.2.2.1 else false)=false:=by
   by_cases h:E.1=8;rw[an (by simpa using h)];have:¬Mm E=Mm D:=fun e=>h8 ⟨h,e⟩;simpa[Mm]using this;rw[a_ (by simpa using h)]
  simp only[q,p,show((false:Bool)==true)=false from rfl,aw3,A_,if_false,k_,awD,awP,if_true];refine o _ ?_;rintro(h|h);cases h;exfalso;unfold ML at h;simp only[h7,decide_false,awK,Bool.false_or,A',b_]at h;exact h8 ⟨h.1,h.2.1⟩
set_option maxHeartbeats 4000000 in
def Y3(x:List Int):xj k (x,())=some (true,()):=by
 have key:Dr (xj k (x,())) (fun r=>r.1=true):=by
  simp only[xj];have z:vT k (x,())=some (decide ((x.length:Int)>1048576),()):=rfl;refine ve z (dI (fun _=>dA rfl) (fun o=> ?_))
  have o:x.length<=1048576:=by have:¬(x.length:Int)>1048576:=by simpa using o
                               omega
  refine cq (PG hk o) (fun r2 h2=> ?_);obtain⟨w,u⟩:=r2;dsimp only at h2|-;obtain⟨W,hv⟩:=h2;have hs:=Xk hk W;obtain⟨d1,d2,d3,d4⟩:=VJ hk hs;refine ve (Py hk (l:=bG w) (by omega)) ?_;have hol:=Uo hk (l:=bG w);refine ve (vM hk (by omega)) ?_;rw[W.1];refine dI (fun q=>by cases q) (fun _=> ?_)
  have N:dQ (iD w) w.1.2.2.2.2.2=true:=by
   have P:=W.1;obtain⟨c,ti,U,st,m_,Z,gr,A,nn,V,n_,l_,O,T⟩:=w;exact(bF.1 P).grp.go
  refine NP (fun t:ah×List Int×Int×Unit=>(((fS (bG w)).length:Int)-t.2.2.1).toNat)
   (fun t=>t.1=w/\t.2.1=fS (bG w)/\0<=t.2.2.1/\t.2.2.1<=((fS (bG w)).length:Int)) ?_
   ⟨rfl,rfl,awC _,by dsimp only;omega⟩ (by dsimp only;omega)
  rintro G ⟨w1,l,i,u1⟩ ⟨q1,q2,q3,q4⟩ hG;dsimp only at q1 q2 q3 q4 hG|-;subst q1 q2;refine dI (fun s=> ?_) (fun hge=>dA rfl);have s:i<((fS (bG w1)).length:Int):=by simpa using s
  have hi:i.toNat<(fS (bG w1)).length:=by omega
  have ew:IntKind.i64.wrap (i+1)=i+1:=wrap64 (by omega) (by omega);refine kL (c_ ⟨q3,s⟩) (kL (c_ (Qr hi)) ?_);obtain⟨D,M⟩:∃D,Fu (bG w1) i.toNat=D:=⟨_,rfl⟩
  have Q:awA w1.2.2.2.2.2.2.2.2.2.2.2.2.2 (awH (awA (fS (bG w1)) (awH i) 0)) ay.aa=D:=M;simp only[Q,ew];have d:Dr (G (w1,fS (bG w1),i+1,())) (fun r:Bool×Unit=>r.1=true):=hG _ ⟨rfl,rfl,by dsimp only;omega,by dsimp only;omega⟩ (by dsimp only;omega);refine dI (fun _=>d) (fun hc=> ?_)
  have hD:D.1=7/\¬re D=3:=by
   by_cases h7:D.1=7;refine⟨h7,?_⟩;rw[a_ (by simpa using h7)]at hc;simpa[re]using hc;rw[an (by simpa[bne_iff_ne]using h7)]at hc;cases hc
  have B:=aj5 hv.nd N hi (by rw[M];exact hD.1) (by rw[M];exact hD.2);rw[M]at B;refine Nz (fun t:ah×List Int×Int×aA×Bool×Unit=>t.1=w1/\t.2.1=fS (bG w1)/\t.2.2.1=i/\t.2.2.2.1=D/\(t.2.2.2.2.1=true\/Vi (iD w1) D.2.2.1.1=Mm D)) ?_ (fun J hJ=> ?_);rintro⟨f,l2,i2,y,lat,u2⟩ ⟨C,F,H,I,v⟩;dsimp only at C F H I v|-;subst C F H I;rw[ew];cases lat with
  |true=>exact ve (a:=((0:Int),())) rfl (dI (fun q=>by cases q) (fun _=>d))
  |false=>
   have v:=v.resolve_left (by decide);refine ve (a:=(Vi (iD f) y.2.2.1.1,())) (Ya hk (l:=iD f) (by omega)) (dI (fun q=> ?_) (fun _=>d));have q:¬Vi (iD f) y.2.2.1.1=y.2.2.2.2.2.1:=by simpa[bne_iff_ne]using q
   exact absurd v q
  refine NP (fun t:ah×List Int×Int×aA×Bool×Int×Unit=>(((fS (bG w1)).length:Int)-t.2.2.2.2.2.1).toNat)
   (fun t=>t.1=w1/\t.2.1=fS (bG w1)/\t.2.2.1=i/\t.2.2.2.1=D/\i<t.2.2.2.2.2.1/\t.2.2.2.2.2.1<=((fS (bG w1)).length:Int)/\
    ((∃j:Nat,i<(j:Int)/\(j:Int)<t.2.2.2.2.2.1/\ML (Fu (bG w1) j) D=true)->t.2.2.2.2.1=true)) ?_
   ⟨rfl,rfl,rfl,rfl,by dsimp only;omega,by dsimp only;omega,?_⟩ (by dsimp only;omega)
  rintro G2 ⟨f,l2,i2,y,lat,m,u2⟩ ⟨C,F,H,I,v,p6,p7⟩ hG2;dsimp only at C F H I v p6 p7 hG2|-;subst C F H I;refine dI (fun g=> ?_) (fun p=>hJ _ ⟨rfl,rfl,rfl,rfl,?_⟩);have g:m<((fS (bG f)).length:Int):=by simpa using g
  have hm:m.toNat<(fS (bG f)).length:=by omega
  refine kL (c_ ⟨by omega,g⟩) (kL (c_ (Qr hm)) ?_);obtain⟨E,X⟩:∃E,Fu (bG f) m.toNat=E:=⟨_,rfl⟩
  have R:awA f.2.2.2.2.2.2.2.2.2.2.2.2.2 (awH (awA (fS (bG f)) (awH m) 0)) ay.aa=E:=X;have S:IntKind.i64.wrap (m+1)=m+1:=wrap64 (by omega) (by omega);simp only[R,S]
  have hE:ai ay E<=1000000:=by
   have h6:Fu (bG f) m.toNat∈bG f:=bz (by have:=Qr hm;omega);rw[X]at h6;have h7:=cx (e:=ay) h6;omega
  refine af0 hk (E:=E) (D:=y) (lat:=lat) (K:=fun b=>G2 (f,fS (bG f),i2,y,b,m+1,())) hE (fun b o=>hG2 _ ⟨rfl,rfl,rfl,rfl,by dsimp only;omega,by dsimp only;omega,?_⟩ (by dsimp only;omega));dsimp only;rintro⟨j,Y,j2,L⟩;by_cases hj:(j:Int)<m;exact o (.inl (p7 ⟨j,Y,hj,L⟩));have:j=m.toNat:=by omega
  rw[this,X]at L;exact o (.inr L);have p:¬m<((fS (bG f)).length:Int):=by simpa using p
  rcases B with⟨j,Y,j2,L⟩|h;exact .inl (p7 ⟨j,by omega,by omega,L⟩);exact .inr h;dsimp only;rintro⟨j,Y,j2,_⟩;omega
 obtain⟨⟨b,u⟩,e,o⟩:=key;rw[e];dsimp only at o;rw[o]
def aap{x:List Int×Unit}(hx:Fits (.sl (.int .u8)) x.1):xj k x=some (true,()):=Y3 hk x.1
end
end Vg.Tryz
namespace Go.Proofs.YtgikmhjpcnnhjaaGreat.fnNotDropped
open Go.ChangeShapes Go.WideShapes Go.ChangeAt Go.RowKit Vg
def laid:laidOutB Tryz.prog=true:=by kernel_rfl
def e_9:(Rows.fnNotDroppedRow.inPlace==Program.inPlace Tryz.prog 11)=true:=by kernel_rfl
def ad4:(Rows.fnNotDroppedRow.unfollowed==Program.unfollowed Tryz.prog 11)=true:=by kernel_rfl
def ac8:(Rows.fnNotDroppedRow.recurses==Program.recurses Tryz.prog 11)=true:=by kernel_rfl
def abS:(Rows.fnNotDroppedRow.named==Program.varsNamed Tryz.prog 11)=true:=by kernel_rfl
def acG:(Rows.fnNotDroppedRow.plainKeys==Program.plainKeys Tryz.prog)=true:=by kernel_rfl
def ac6:Program.stopsHeard Tryz.prog=true:=by kernel_rfl
def adw:Program.mayEnter Tryz.prog=true:=by kernel_rfl
def adq:(Rows.fnNotDroppedRow.lifted==Program.liftsFinal Tryz.prog)=true:=by kernel_rfl
def adH:(Program.make Tryz.prog==some Rows.fnNotDroppedRow.make)=true:=by kernel_rfl
def facts:joinedFacts Tryz.prog 11 Tryz.f11 Rows.fnNotDroppedSpec Rows.fnNotDroppedRow=true:=by
 unfold joinedFacts;simp only[A']
 repeat' apply And.intro
 kernel_rfl
 exact laid
 kernel_rfl
 kernel_rfl
 kernel_rfl
 kernel_rfl
 kernel_rfl
 kernel_rfl
 kernel_rfl
 exact e_9;exact ad4;exact ac8;exact abS
 kernel_rfl
 kernel_rfl
 kernel_rfl
 kernel_rfl
 kernel_rfl
 kernel_rfl
 kernel_rfl
 kernel_rfl
 kernel_rfl
 exact acG
 kernel_rfl
 exact ac6;exact adw;exact adq;exact adH
 kernel_rfl
 kernel_rfl
 kernel_rfl
 kernel_rfl
end Go.Proofs.YtgikmhjpcnnhjaaGreat.fnNotDropped
