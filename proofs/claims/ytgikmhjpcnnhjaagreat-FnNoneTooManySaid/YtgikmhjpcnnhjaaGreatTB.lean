/- Texts of this law, joined. -/
import Derived.Test.YtgikmhjpcnnhjaaGreatS1
import Derived.Test.YtgikmhjpcnnhjaaGreatVd
import Derived.Test.YtgikmhjpcnnhjaaGreatE1
import Derived.Test.YtgikmhjpcnnhjaaGreatPC
import Derived.Test.YtgikmhjpcnnhjaaGreatRows
import Derived.Test.YtgikmhjpcnnhjaaGreatVc
set_option linter.unusedSimpArgs false
set_option linter.unusedVariables false
set_option linter.unusedSectionVars false
open Bool renaming false_eq_true -> D_,and_eq_true -> A_,not_eq_true -> aku,true_and -> ak0,not_false -> ak8
open Option renaming bind_some -> G5,bind -> akw
open List renaming mem_singleton -> J7,replicate -> akv,mem_append_right -> akx,mem_append_left -> aky,map_cons -> akz,map_append -> akA,foldl_cons -> akB,foldl_append -> akC,length -> akD,mem_or_eq_of_mem_set -> akF,mem_cons_self -> akG,mem_replicate -> akH,take_succ_eq_append_getElem -> akI,length_set -> akJ,eq_nil_iff_forall_not_mem -> akL,map_nil -> akO,take_length -> akP,filter_cons_of_pos -> akQ,filter_cons_of_neg -> akR,getD -> akS,length_map -> akT,append_nil -> akU,take_append_drop -> akV,length_singleton -> akW,mem_of_mem_drop -> akX,reverse_reverse -> akY,mem_iff_getElem -> akZ,filter_append -> ak1,reverse_cons -> ak2,length_drop -> ak3,mem_reverse -> ak4,not_mem_nil -> ak5,mem_append -> ak6,mem_filter -> ak7
open Int renaming le_refl -> akE,toNat_natCast -> akM,toNat -> ak9
open Option.some renaming inj -> akK
open Nat renaming le_add_right -> akN
namespace Vg.Tryz
open Go Vg
section
variable{k:Nat}(hk:9223372036854775808<=k)
include hk
theorem Z8{w:ah}{i:Nat}(hs:ag aF w<=1048576)(hi:i<(dt w).length):ag bp ((dt w).getD i bp.aa)<=1048576:=by
 have h1:=kR hk w;have h2:=fL (e:=bp) (l:=dt w) (d:=bp.aa) hi;have h3:ag (.sl bp) (dt w)<=ag aF w:=by unfold dt;omega
 omega
set_option maxHeartbeats 4000000 in
theorem NY{w:ah}{e:cM}(hs:ag aF w<=1048000)(h:cw k w=true)(Q:ag ab e.2.2.1<=10000)(A:ag (.sl ai) e.2.2.2<=10000):
 rV k (w,e,())=some ((sF k w e).1,(sF k w e).2,()):=by
 obtain⟨kind,K,a,l⟩:=e;dsimp only at Q A
 have B:(eQ w).length=5:=by
  obtain⟨c,ti,j_,st,m_,k_,gr,f_,nn,i_,n_,l_,h_,g_⟩:=w;exact(cr.1 h).tl
 have hnow:0<=w.2.2.1/\w.2.2.1<=99899:=by
  obtain⟨c,ti,j_,st,m_,k_,gr,f_,nn,i_,n_,l_,h_,g_⟩:=w;exact(cr.1 h).nw
 have hsub:(dt w).length<=1048576:=by
  have r:=kR hk w;have C:=aA (e:=bp) (l:=dt w);have D:ag (.sl bp) (dt w)<=ag aF w:=by unfold dt;omega
  omega
 have f:(!((bw K 0 2:Bool)==true)||decide (0<=K/\K<((eQ w).length:Int)))=true:=by
  rw[B];by_cases b:bw K 0 2=true;have:0<=K/\K<((5:Nat):Int):=by unfold bw at b;simp only[A_,b_]at b;omega
  rw[c_ this,Bool.or_true];rw[aku]at b;rw[b];rfl
 have u:(if bw K 0 2=true then decide ((w.2.2.2.2.2.2.2.2.2.2.2.2.1.getD K.toNat al.aa).1=0)else false)=dD w K:=by
  unfold dD JO;rw[B];by_cases b:bw K 0 2=true;have h6:bw K 0 ((5:Nat)-1:Int)=true:=by unfold bw at b|-;simp only[A_,b_]at b|-;omega
  rw[an b,b,h6,ak0,ak0];rw[a_ b];rw[aku]at b;rw[b];rfl
 have v:∀(t:aE),t.2.2.1=BH->t.2.2.2.2.2.1=[]->t.2.2.2.2.2.2.1=[]->ag (.sl ai) t.2.2.2.1<=10000->ag al t<=1048576:=fun t L M N e4=>by
  rw[fO hk,L,M,N];have:ag ab BH=0:=mP hk;have n1:ag (.sl (.int .i64)) ([]:List Int)=0:=bu;have n2:ag (.sl ab) ([]:List ae)=0:=bu;omega
 have d:∀(t:aE),dD w K=true->ag al t<=1048576->0<=t.1->t.1<=6->fq k (w,K,t,())=some (iL w K t (akS [0,1,3,4,6,7,8] t.1.toNat 0),()):=fun t hc O P r=>by
  obtain⟨q1,q2,q3⟩:=Ec hc;exact Oc hk (by omega) O P r q1 q3
 simp only[rV,aR,AY hk,G5];refine(an f).trans ?_;simp only[eu];simp only[u];unfold sF;dsimp only;by_cases g:kind=1;subst g;by_cases hc:dD w K=true;simp only[hc,decide_true,if_true,FZ hk (show ag aF w<=1048576 by omega) (show ag ab a<=1048576 by omega) hc,G5];rw[aku]at hc;simp only[hc,decide_true,if_true,D_,if_false];have d12:decide ((2:Int)=1)=false:=rfl;have d13:decide ((3:Int)=1)=false:=rfl;have d23:decide ((3:Int)=2)=false:=rfl;have d43:decide ((3:Int)=4)=false:=rfl;have d14:decide ((4:Int)=1)=false:=rfl;have d24:decide ((4:Int)=2)=false:=rfl;have d34:decide ((4:Int)=3)=false:=rfl;by_cases o:kind=2;subst o;by_cases hc:dD w K=true
 have b:fq k (w,K,((2:Int),0,(([]:List af),0,0,ByteArray.empty),l,0,([]:List Int),([]:List ae),0,0),())=some (iL w K (xw l) 3,()):=
  d (xw l) hc (v _ rfl rfl rfl A) (show(0:Int)<=2 by decide) (show(2:Int)<=6 by decide)
 simp only[hc,g,d12,decide_true,decide_false,beq_self_eq_true,if_true,uo hk (show ag (.sl ai) l<=1048576 by omega),G5,ak0,D_,if_false];by_cases m:eo l=true;simp only[m,if_true,b,G5];rw[aku]at m;simp only[m,D_,if_false];rw[aku]at hc;simp only[hc,g,d12,decide_true,decide_false,if_true,D_,if_false,Bool.false_and,G5];rfl;by_cases p:kind=3;subst p;by_cases hc:dD w K=true
 have b:fq k (w,K,((3:Int),0,(([]:List af),0,0,ByteArray.empty),([]:List af),0,([]:List Int),([]:List ae),0,0),())=some (iL w K tI 4,()):=
  d tI hc (v _ rfl rfl rfl (by show ag (.sl ai) ([]:List af)<=10000;rw[bu];omega)) (show(0:Int)<=3 by decide) (show(3:Int)<=6 by decide)
 simp only[hc,g,o,d13,d23,d43,decide_true,decide_false,if_true,D_,if_false,b,G5];rw[aku]at hc;simp only[hc,g,o,d13,d23,d43,decide_true,decide_false,if_true,D_,if_false];by_cases E:kind=4;subst E;by_cases hc:dD w K=true
 have b:fq k (w,K,((4:Int),0,(([]:List af),0,0,ByteArray.empty),([]:List af),0,([]:List Int),([]:List ae),0,0),())=some (iL w K tZ 6,()):=
  d tZ hc (v _ rfl rfl rfl (by show ag (.sl ai) ([]:List af)<=10000;rw[bu];omega)) (show(0:Int)<=4 by decide) (show(4:Int)<=6 by decide)
 simp only[hc,g,o,p,d14,d24,d34,decide_true,decide_false,if_true,D_,if_false,b,G5];rw[aku]at hc;simp only[hc,g,o,p,d14,d24,d34,decide_true,decide_false,if_true,D_,if_false];simp only[g,o,p,E,decide_false,D_,if_false];by_cases F:kind=5;subst F;simp only[decide_true,if_true];by_cases b:bw K 0 4=true;have h6:0<=K/\K.toNat<5:=by unfold bw at b;simp only[A_,b_]at b;omega
 obtain⟨j,rfl⟩:∃j:Nat,K=(j:Int):=⟨K.toNat,by omega⟩
 have x:=Oz hk (w:=w) (i:=j) (by omega) h (by omega);simp only[b,beq_self_eq_true,if_true,x,G5,akM];rw[aku]at b;simp only[b,D_,if_false];rfl;simp only[F,decide_false,D_,if_false];by_cases G:kind=6;subst G;simp only[decide_true,if_true]
 have y:IntKind.i64.wrap (((akD w.2.2.2.2.1:Nat):Int)-(1:Int))=((dt w).length:Int)-1:=by
  unfold dt at*
  rw[wrap64 (by omega) (by omega)]
 rw[y];by_cases b:bw K 0 (((dt w).length:Int)-1)=true;have h6:0<=K/\K<((dt w).length:Int):=by unfold bw at b;simp only[A_,b_]at b;omega
 have x:decide (0<=K/\K<((akD w.2.2.2.2.1:Nat):Int))=true:=c_ h6;have R:=P6 hk (Z8 hk (w:=w) (i:=K.toNat) (by omega) (by omega));have z:nD k (akS w.2.2.2.2.1 K.toNat bp.aa,())=some ((fA ((dt w).getD K.toNat bp.aa)).1,(fA ((dt w).getD K.toNat bp.aa)).2.1,(fA ((dt w).getD K.toNat bp.aa)).2.2,()):=R
 have n:ag aF (w.1,w.2.1,w.2.2.1,w.2.2.2.1,(dt w).set K.toNat (fA ((dt w).getD K.toNat bp.aa)).1,w.2.2.2.2.2)<=1048576:=by
  have r:=kR hk w;have C:=kR hk (w.1,w.2.1,w.2.2.1,w.2.2.2.1,(dt w).set K.toNat (fA ((dt w).getD K.toNat bp.aa)).1,w.2.2.2.2.2);have D:=nu (e:=bp) (dt w) K.toNat (fA ((dt w).getD K.toNat bp.aa)).1 (by omega)
  have h4:ag bp (fA ((dt w).getD K.toNat bp.aa)).1<=ag bp ((dt w).getD K.toNat bp.aa):=by
   generalize (dt w).getD K.toNat bp.aa=s;rw[sR hk,sR hk];unfold fA;split;rw[bu];omega;split;rw[bu];omega;have:=dw (e:=ab) s.1 1;dsimp only;omega
  have h7:(dt w).getD K.toNat (Ty.aa bp)=(dt w).getD K.toNat bp.aa:=rfl;rw[h7]at D;unfold dt at*
  dsimp only at C;omega
 simp only[b,x,z,G5,Bool.not_true,D_,if_false,if_true];unfold WY Dn;by_cases H:(fA ((dt w).getD K.toNat bp.aa)).2.2=1;simp only[H,decide_true,if_true];erw[qq hk n];rfl;simp only[H,decide_false,D_,if_false];by_cases I:(fA ((dt w).getD K.toNat bp.aa)).2.2=2;simp only[I,decide_true,if_true];erw[qq hk n];rfl;simp only[I,decide_false,D_,if_false];erw[qq hk n];rfl;rw[aku]at b;simp only[b,ak8,if_true,D_,if_false];simp only[G,decide_false,D_,if_false];by_cases J:kind=7;subst J;simp only[decide_true,if_true];by_cases b:bw K 1 20=true;have h6:1<=K/\K<=20:=by unfold bw at b;simp only[A_,b_]at b;omega
 have y:IntKind.i64.wrap (w.2.2.1+K)=w.2.2.1+K:=wrap64 (by omega) (by omega);rw[y];by_cases S:w.2.2.1+K<=99899;rw[a_ (by simp[b];omega),an ⟨b,S⟩];rfl;rw[an (by simp[b];omega),a_ (by omega)];rw[an (by simp[b]),a_ (fun q=>b q.1)];simp only[J,decide_false,D_,if_false]
end
def yD(n:Nat)(w:ah):Prop:=Ex n w.1 w.2.1 w.2.2.2.1 w.2.2.2.2.2.1 w.2.2.2.2.2.2.2.1 w.2.2.2.2.2.2.2.2.1 w.2.2.2.2.2.2.2.2.2.1 w.2.2.2.2.2.2.2.2.2.2.1 w.2.2.2.2.2.2.2.2.2.2.2.1 (eQ w) (bE w)
section
variable{k:Nat}(hk:9223372036854775808<=k)
include hk
theorem abw{w:ah}{n i:Nat}(h:cw k w=true)(q:yD n w)(f:n<=160)(hi:i<5):(qX true k w i).1=true->yD (n+1) (qX true k w i).2:=by
 obtain⟨c,ti,j_,st,m_,k_,gr,f_,nn,i_,n_,l_,h_,g_⟩:=w;have R:=cr.1 h;have X:Ex n c ti st k_ f_ nn i_ n_ l_ h_ g_:=q;generalize d:h_.getD i al.aa=t;have m:=R.tas i hi;rw[d]at m;have ho:=jw (k:=k) (w:=(c,ti,j_,st,m_,k_,gr,f_,nn,i_,n_,l_,h_,g_)) (i:=i) m;unfold qX;dsimp only[eQ];rw[d];by_cases g:t.1=1;rw[an g];intro b;obtain⟨_,_,_,_,_,_,_,_,e,a⟩:=aaQ hk R X f (by omega) d g b;rw[e];exact a;rw[a_ g];by_cases o:t.1=2\/t.1=3;rw[an o];unfold pU AE;dsimp only;rw[d];by_cases j:t.1=2;rw[an j];intro b;obtain⟨_,_,_,_,_,_,_,_,e,a⟩:=abf hk R X f (by omega) d j b;rw[e];exact a;rw[a_ j];intro b;obtain⟨_,_,_,_,_,_,_,_,e,a⟩:=Z3 hk R X f (by omega) d (by omega) b;rw[e];exact a;rw[a_ o];by_cases l:t.1=4;rw[an l];intro b;obtain⟨_,_,_,_,_,_,_,_,e,a⟩:=Yb hk R X f (by omega) d l b;rw[e];exact a;rw[a_ l];by_cases p:i=3;rw[an p];intro b;obtain⟨_,_,_,_,_,_,_,_,e,a⟩:=ZB hk R X f b;rw[e];exact a;rw[a_ p];by_cases h6:i=4;rw[an h6];intro b;obtain⟨_,_,_,_,_,_,_,e,a⟩:=Yu hk R X f b;rw[e];exact a;rw[a_ h6];intro b;cases b
theorem Yj{w:ah}{n i:Nat}(h:cw k w=true)(b:yD n w)(hn:n<=160)(hi:i<5):(qX true k w i).1=true->cw k (qX true k w i).2=true:=by
 obtain⟨c,ti,j_,st,m_,k_,gr,f_,nn,i_,n_,l_,h_,g_⟩:=w;have R:=cr.1 h;have X:Ex n c ti st k_ f_ nn i_ n_ l_ h_ g_:=b;have a1:=X.ti;have a2:=X.nn;have a3:=X.hp;have a4:=(cY.1 R.grp.go).1;refine XN h hi (by show ti<_;omega) (fun p a=>by have:=X.ver p a;omega) (fun _=>⟨by show nn<_;omega,by show i_.length<=15;omega⟩) (fun _=>⟨X.fr,fun _=>by show i_.length<=15;omega⟩)
theorem Ax{w:ah}{n:Nat}{i:Int}{t':aE}{op:Int}(h:cw k w=true)(d:yD n w)(hn:n<=160)(hc:dD w i=true)
 (f:(∃a,da a=true/\t'=wc a/\op=1)\/(∃l,eo l=true/\t'=xw l/\op=3)\/(t'=tI/\op=4)\/(t'=tZ/\op=6)):cw k (iL w i t' op)=true/\yD (n+1) (iL w i t' op):=by
 have hti:w.2.1<=(n:Int):=d.ti;refine⟨Sk (by unfold Lv;rw[h,hc];rfl) (by omega) f,?_⟩;obtain⟨q1,q2,q3⟩:=Ec hc;obtain⟨c,ti,j_,st,m_,k_,gr,f_,nn,i_,n_,l_,h_,g_⟩:=w;have R:=cr.1 h;have X:Ex n c ti st k_ f_ nn i_ n_ l_ h_ g_:=d
 have b:ag ab t'.2.2.1+ag (.sl ai) t'.2.2.2.1<=200/\t'.2.2.2.2.2.2.1=[]:=by
  have ez:ag ab BH=0:=mP hk;have el:ag (.sl ai) ([]:List af)=0:=bu;rcases f with⟨a,j,rfl,rfl⟩|⟨l,m,rfl,rfl⟩|⟨rfl,rfl⟩|⟨rfl,rfl⟩;have:=ml hk (gL j);exact⟨by show ag ab a+ag (.sl ai) ([]:List af)<=200;omega,rfl⟩;have:=yw hk m;exact⟨by show ag ab BH+ag (.sl ai) l<=200;omega,rfl⟩;exact⟨by show ag ab BH+ag (.sl ai) ([]:List af)<=200;omega,rfl⟩;exact⟨by show ag ab BH+ag (.sl ai) ([]:List af)<=200;omega,rfl⟩
 refine X.jO (i:=i.toNat) R.ti0 (by omega) R.tl (by omega) (fun p g=>by have:=X.ver p g;omega) (akN _ _) (akN _ _) (tj hk ?_) ?_;have e:ag ay (opened (c,ti,j_,st,m_,k_,gr,f_,nn,i_,n_,l_,h_,g_) i op t'.2.2.1 t'.2.2.2.1 t'.2.2.2.2.2.2.2.1)=ag ab t'.2.2.1+ag (.sl ai) t'.2.2.2.1+ag (.sl ab) ([]:List ae):=ek hk _;rw[e,bu];omega;show t'.2.2.2.2.2.2.1.length<=_;rw[b.2];exact Nat.zero_le _
theorem Xf{w:ah}{n:Nat}{e:cM}(h:cw k w=true)(g:yD n w)(o:n<=160)(x:ag ab e.2.2.1<=2900)(b:(sF k w e).1=true):cw k (sF k w e).2=true/\yD (n+1) (sF k w e).2:=by
 have p:w.2.1<=(n:Int):=g.ti;unfold sF at b|-;by_cases y:e.1=1;rw[an y]at b|-;by_cases hc:dD w e.2.1=true;rw[an hc]at b|-;dsimp only;by_cases r:da e.2.2.1=true;rw[an r];exact Ax hk h g o hc (.inl ⟨_,r,rfl,rfl⟩);rw[a_ r];refine⟨ON (by unfold Lv;rw[h,hc];rfl) (by omega),?_⟩;obtain⟨c,ti,j_,st,m_,k_,gr,f_,nn,i_,n_,l_,h_,g_⟩:=w;have R:=cr.1 h;have X:Ex n c ti st k_ f_ nn i_ n_ l_ h_ g_:=g;refine X.alone R.ti0 (by omega) (tj hk ?_);have H:ag ay ((1,e.2.1,e.2.2.1,[],0,0,4,[],j_,ti,ti,ti):ax)=ag ab e.2.2.1+ag (.sl ai) ([]:List af)+ag (.sl ab) ([]:List ae):=ek hk _;have I:ag (.sl ai) ([]:List af)=0:=bu;have J:ag (.sl ab) ([]:List ae)=0:=bu;show ag ay ((1,e.2.1,e.2.2.1,[],0,0,4,[],j_,ti,ti,ti):ax)+1<=3000;omega;rw[a_ hc]at b;cases b;rw[a_ y]at b|-;by_cases z:e.1=2;rw[an z]at b|-;by_cases hc:(dD w e.2.1&&eo e.2.2.2)=true;rw[an hc];simp only[A_]at hc;exact Ax hk h g o hc.1 (.inr (.inl ⟨_,hc.2,rfl,rfl⟩));rw[a_ hc]at b;cases b;rw[a_ z]at b|-;by_cases A:e.1=3;rw[an A]at b|-;by_cases hc:dD w e.2.1=true;rw[an hc];exact Ax hk h g o hc (.inr (.inr (.inl ⟨rfl,rfl⟩)));rw[a_ hc]at b;cases b;rw[a_ A]at b|-;by_cases B:e.1=4;rw[an B]at b|-;by_cases hc:dD w e.2.1=true;rw[an hc];exact Ax hk h g o hc (.inr (.inr (.inr ⟨rfl,rfl⟩)));rw[a_ hc]at b;cases b;rw[a_ B]at b|-;by_cases C:e.1=5;rw[an C]at b|-;by_cases f:bw e.2.1 0 4=true;rw[an f]at b|-;have D:e.2.1.toNat<5:=by unfold bw at f;simp only[A_,b_]at f;omega
 exact⟨Yj hk h g o D b,abw hk h g o D b⟩;rw[a_ f]at b;cases b;rw[a_ C]at b|-;by_cases E:e.1=6;rw[an E]at b|-;by_cases f:bw e.2.1 0 ((dt w).length-1)=true;rw[an f];have h6:0<=e.2.1/\e.2.1.toNat<(dt w).length:=by unfold bw at f;simp only[A_,b_]at f;omega
 obtain⟨c,ti,j_,st,m_,k_,gr,f_,nn,i_,n_,l_,h_,g_⟩:=w;have R:=cr.1 h;have X:Ex n c ti st k_ f_ nn i_ n_ l_ h_ g_:=g;have l:=R.sub.sub _ (bR (d:=bp.aa) h6.2)
 have u:(fA (m_.getD e.2.1.toNat bp.aa)).2.2=1->bB (fA (m_.getD e.2.1.toNat bp.aa)).2.1=true:=by
  unfold ij cx at l;simp only[A_]at l;generalize m_.getD e.2.1.toNat bp.aa=s at l;unfold fA;split;intro q;cases q;split;intro q;cases q;intro _;exact eA.1 l.2.2 _ (bR (by omega))
 have v:ij (fA (m_.getD e.2.1.toNat bp.aa)).1=true:=by
  unfold ij cx at l;simp only[A_,b_]at l;generalize m_.getD e.2.1.toNat bp.aa=s at l;unfold fA;split;unfold ij cx;simp[kY];split;unfold ij cx;simp[kY];unfold ij cx;dsimp only;simp only[A_,b_,ak8,Bool.true_or,true_and];refine⟨by rw[ak3];omega,eA.2 fun a x=>eA.1 l.2.2 a (akX x)⟩
 constructor;refine cr.2 (Pm R (by show ti<_;have:ti<=(n:Int):=p;omega) ⟨?_,by show ti<ti+1;omega,by show ti<ti+1;omega,by show ti<ti+1;omega⟩ ⟨by rw[akJ];exact R.sub.len,fun s m=> ?_,R.sub.fee,R.sub.sai⟩);refine xt (op:=9) (i:= -1) (j:=e.2.1) (n:=0) ⟨by decide,by decide⟩ ⟨by decide,by decide⟩ h6.1 (by decide) R.nw.1 R.ti0 ?_;split;decide;split<;>decide;rcases akF m with m|rfl;exact R.sub.sub s m;exact v;refine X.alone R.ti0 (by omega) (tj hk ?_);have H:ag ay (Dn e.2.1 (m_.getD e.2.1.toNat bp.aa) j_ ti)=ag ab cW+ag (.sl ai) ([]:List af)+ag (.sl ab) (if(fA (m_.getD e.2.1.toNat bp.aa)).2.2=1 then [(fA (m_.getD e.2.1.toNat bp.aa)).2.1]else []):=ek hk _;have I:ag (.sl ai) ([]:List af)=0:=bu
 have J:ag (.sl ab) (if(fA (m_.getD e.2.1.toNat bp.aa)).2.2=1 then [(fA (m_.getD e.2.1.toNat bp.aa)).2.1]else [])<=97:=by
  split;rename_i G;have:=ml hk (u G);rw[cG (e:=ab),bu];omega;rw[bu];omega
 have e4:=mP hk;show ag ay (Dn e.2.1 (m_.getD e.2.1.toNat bp.aa) j_ ti)+1<=3000;omega;rw[a_ f]at b;cases b;rw[a_ E]at b|-;by_cases F:e.1=7;rw[an F]at b|-;by_cases f:bw e.2.1 1 20=true/\w.2.2.1+e.2.1<=99899;rw[an f];have h6:1<=e.2.1:=by have:=f.1;unfold bw at this;simp only[A_,b_]at this;omega
 obtain⟨c,ti,j_,st,m_,k_,gr,f_,nn,i_,n_,l_,h_,g_⟩:=w;have R:=cr.1 h;have X:Ex n c ti st k_ f_ nn i_ n_ l_ h_ g_:=g;exact⟨cr.2 (Zj R (by show ti<_;have:ti<=(n:Int):=p;omega) (by show j_<=j_+e.2.1;omega) f.2),X.alone R.ti0 (by omega) (akN _ _)⟩;rw[a_ f]at b;cases b;rw[a_ F]at b;cases b
theorem KS{w:ah}{n:Nat}(h:cw k w=true)(a:yD n w)(b:n<=160):ag aF w<=1000000:=by
 obtain⟨c,ti,j_,st,m_,k_,gr,f_,nn,i_,n_,l_,h_,g_⟩:=w;exact U7 hk (cr.1 h) a b
end
def jm(d:ax):List ae:=d.2.2.2.2.2.2.2.1
def oh(l:List ax):Prop:=∀d∈l,dH d= -1->jm d=[]
theorem oh.app{l:List ax}{d:ax}(h:oh l)(o:dH d= -1->jm d=[]):oh (l++[d]):=fun x a=>by
 rcases ak6.1 a with a|a;exact h x a;rw[J7.1 a];exact o
theorem oh.put{l:List ax}{n:Nat}{d:ax}(h:oh l)(o:dH d= -1->jm d=[]):oh (l.set n d):=fun x a=>by
 rcases akF a with a|rfl;exact h x a;exact o
theorem oh.at_{l:List ax}{n:Nat}(h:oh l):dH (l.getD n ay.aa)= -1->jm (l.getD n ay.aa)=[]:=by
 by_cases a:n<l.length;exact h _ (bR a);intro _;have:l.getD n ay.aa=ay.aa:=by rw[List.getD_eq_getElem?_getD,List.getElem?_eq_none (by omega)];rfl
 rw[this];rfl
theorem ZT{x:Bool}{d:ax}{j_ ti code:Int}{got:List ae}(h0:0<=ti):¬dH (fv true x d j_ ti code got)= -1:=by
 unfold fv rD;rw[an (by rfl)];by_cases h:dH d= -1;rw[an h];show¬ti= -1;omega;rw[a_ h];exact h
theorem pW(r:Bool×ah):bE (bT r).2=bE r.2:=by
 unfold bT;split<;>rfl
theorem aal{k:Nat}{w:ah}{i:Nat}(o:0<=w.2.1)(h:oh (bE w)):oh (bE (qX true k w i).2):=by
 obtain⟨c,ti,j_,st,m_,k_,gr,f_,nn,i_,n_,l_,h_,g_⟩:=w;have h:oh g_:=h;have o:0<=ti:=o
 have f:∀j m,oh (bE (fF (c,ti,j_,st,m_,k_,gr,f_,nn,i_,n_,l_,h_,g_) j m).2):=by
  intro j m;unfold fF;dsimp only;split<;>exact h
 have p:∀j,oh (bE (jl (c,ti,j_,st,m_,k_,gr,f_,nn,i_,n_,l_,h_,g_) j).2):=by
  intro j;unfold jl;dsimp only;split<;>exact h
 have b:∀(l:List ax) (x:Bool) (n:Nat) (d:ax) (code:Int) (g:List ae),oh l->oh (l.set n (fv true x d j_ ti code g)):=fun l x n d code g f=>f.put fun e=>absurd e (ZT o)
 have a:∀d:ax,dH (iA d j_ ti ti ti)= -1->jm (iA d j_ ti ti ti)=[]:=fun d e=>by
  have:ti= -1:=e;omega
 unfold qX;split;unfold cN;rw[pW];unfold ux;dsimp only;split;exact f _ _;split;split;exact b _ _ _ _ _ _ h
 exact h.put fun e=>by
  have:ti= -1:=e;omega
 exact(h.app (a _)).put h.at_;split;unfold pU;rw[pW];unfold AE oo ig;dsimp only;split;split;exact f _ _;split;exact b _ _ _ _ _ _ h;exact b _ _ _ _ _ _ h;split;exact f _ _;split;exact h;split;exact b _ _ _ _ _ _ h;exact h;split;unfold im;rw[pW];unfold vo;dsimp only;split;exact f _ _;show oh (if _ then _ else _);split;exact b _ _ _ _ _ _ (h.app (a _));exact h.app (a _);split;unfold jZ;rw[pW];unfold lj;dsimp only;split;split;exact h;exact h.app fun _=>rfl;split;exact p _;split;split;exact b _ _ _ _ _ _ h;exact b _ _ _ _ _ _ h;exact b _ _ _ _ _ _ h;split;unfold iq;rw[pW];unfold jg;dsimp only;split;split;exact h.app fun _=>rfl;exact h;split;exact p _;split;exact b _ _ _ _ _ _ h;exact b _ _ _ _ _ _ h;exact h
theorem aav{k:Nat}{w:ah}{e:cM}(b:0<=w.2.1)(h:oh (bE w)):oh (bE (sF k w e).2):=by
 have a:∀i t op,oh (bE (iL w i t op)):=fun i t op=>oh.app (l:=bE w) h fun _=>rfl;unfold sF;split;split;dsimp only;split;exact a _ _ _;exact oh.app (l:=bE w) h fun _=>rfl;exact h;split;split;exact a _ _ _;exact h;split;split;exact a _ _ _;exact h;split;split;exact a _ _ _;exact h;split;split;exact aal b h;exact h;split;split;refine oh.app (l:=bE w) h fun e=> ?_;have:w.2.1= -1:=e;omega;exact h;split;split;exact h;exact h;exact h
def idxs(l:List ax)(n:Nat):List Int:=((List.range n).filter (fun i=>js (l.getD i dG.aa) != -1)).map (fun i:Nat=>(i:Int))
def fX(l:List ax):List Int:=cD (oT l) (idxs l l.length)
theorem MT(l:List ax)(n:Nat):idxs l (n+1)=if(js (l.getD n dG.aa) != -1)=true then idxs l n++[(n:Int)]else idxs l n:=by
 unfold idxs;rw[List.range_succ,ak1,akA];by_cases h:(js (l.getD n dG.aa) != -1)=true;rw[an h,akQ (by simpa using h)];rfl;rw[a_ h,akR (by simpa using h)];simp
theorem Ge(l:List ax)(n:Nat):(idxs l n).length<=n:=by
 unfold idxs;rw[akT];exact Nat.le_trans (List.length_filter_le ..) (by simp)
theorem SH(l:List ax)(n:Nat):∀x∈idxs l n,0<=x/\x<(n:Int)/\js (l.getD x.toNat dG.aa)≠-1:=by
 intro x a;unfold idxs at a;obtain⟨i,b,rfl⟩:=List.mem_map.1 a;obtain⟨d,e⟩:=ak7.1 b;have:=List.mem_range.1 d;exact⟨by omega,by omega,by simpa using e⟩
theorem RV{α:Type}(lt:α->α->Bool)(xs:List α)(x:α):cD lt (xs++[x])=(cI lt x (cD lt xs).reverse).reverse:=by
 unfold cD;rw[akC,akY];rfl
section
variable{k:Nat}(hk:9223372036854775808<=k)
include hk
theorem O5{l:List ax}(hl:l.length<=1048576):vu k (l,())=some (fX l,()):=by
 show XG k (l,())=_;simp only[XG,aR]
 have main:aM k (fun b (t4:List dG.den×List Int×List dG.den×Int×Int×Unit)=>
  if(decide ((t4.2.2.2.2.1:Int)<t4.2.2.2.1))=true then
   if(decide (0<=t4.2.2.2.2.1/\t4.2.2.2.2.1<((akD t4.2.2.1:Nat):Int)))=true then
    if((js (akS t4.2.2.1 (ak9 t4.2.2.2.2.1) dG.aa):Int) != (-1:Int))=true then
     if(decide (akD t4.2.1+akD ([t4.2.2.2.2.1]:List Int)<4294967296))=true then
      b (t4.1,t4.2.1++([t4.2.2.2.2.1]:List Int),t4.2.2.1,t4.2.2.2.1,IntKind.i64.wrap (t4.2.2.2.2.1+(1:Int)),())
     else
      none
    else
     b (t4.1,t4.2.1,t4.2.2.1,t4.2.2.2.1,IntKind.i64.wrap (t4.2.2.2.2.1+(1:Int)),())
   else
    none
  else
   some (t4.1,t4.2.1,())) (l,([]:List Int),l,((akD l:Nat):Int),(0:Int),())=some (l,idxs l l.length,()):=by
   refine(cV (fun i:Nat=>(l,idxs l i,l,(l.length:Int),(i:Int),())) l.length (e:=some (l,idxs l l.length,())) (fun G i d=> ?_) (fun G=> ?_) k 0 (by omega) (by omega));have hlen:=Ge l i;simp only[aJ,aG d,d,decide_true,if_true,akM];rw[br (by omega),MT];by_cases a:(js (l.getD i dG.aa) != -1)=true;rw[an a,an a,an (by simp;omega)];rw[a_ a,a_ a];simp
 refine(congrArg (fun z=>akw z _) main).trans ?_;rw[G5];have hlen:=Ge l l.length;rw[an ?_];rfl;simp only[A_,b_,List.all_eq_true];refine⟨⟨by omega,by omega⟩,fun x f=> ?_⟩;have:=SH l l.length x f;exact⟨this.1,this.2.1⟩
theorem TM{l:List ax}:(fX l).length<=l.length:=by
 unfold fX;rw[(gF _ _).length_eq];exact Ge l l.length
end
theorem I0{α:Type}{lt:α->α->Bool}{x:α}:∀ {r:List α},(∀y∈r,lt x y=false)->cI lt x r=x::r
 | [],_=>rfl
 |y::r,h=>by
  unfold cI;rw[a_ (by rw[h y (akG ..)];decide)]
theorem Tq{α:Type}{lt:α->α->Bool}{l:List α}{x:α}(h:∀y∈l,lt x y=false):cD lt (l++[x])=cD lt l++[x]:=by
 rw[RV,I0 (fun y a=>h y ((gF lt l).mem_iff.1 (ak4.1 a))),ak2,akY]
theorem Fm{α:Type}{lt:α->α->Bool}{x:α}:∀(q s:List α),(∀y∈q,lt y x=true)->q.foldl (fun r y=>cI lt y r) (x::s)=x::q.foldl (fun r y=>cI lt y r) s
 | [],s,_=>rfl
 |y::q,s,h=>by
  rw[akB,akB]
  have e:cI lt y (x::s)=x::cI lt y s:=by
   simp only[cI];rw[an (h y (akG ..))]
  rw[e];exact Fm q _ fun z a=>h z (List.mem_cons_of_mem _ a)
theorem T6{α:Type}{lt:α->α->Bool}{p q:List α}{x:α}(d:∀y∈p,lt x y=false)(e:∀y∈q,lt y x=true):cD lt (p++x::q)=cD lt (p++q)++[x]:=by
 have a:∀y∈p.foldl (fun r x=>cI lt x r) [],lt x y=false:=fun y b=>d y ((gF lt p).mem_iff.1 (ak4.2 b));unfold cD;rw[akC,akB,I0 a,Fm _ _ e,ak2,akC]
theorem rG{α β:Type}{lt:β->β->Bool}{f:α->β}{x:α}:∀r:List α,(cI (fun a b=>lt (f a) (f b)) x r).map f=cI lt (f x) (r.map f)
 | []=>rfl
 |y::r=>by
  simp only[cI,akz];by_cases h:lt (f x) (f y)=true;rw[an h,an h,akz,rG r];rw[a_ h,a_ h];rfl
theorem uY{α β:Type}{lt:β->β->Bool}{f:α->β}(l:List α):(cD (fun a b=>lt (f a) (f b)) l).map f=cD lt (l.map f):=by
 unfold cD;rw[List.map_reverse];congr 1
 have:∀(l r:List α),(l.foldl (fun r x=>cI (fun a b=>lt (f a) (f b)) x r) r).map f=(l.map f).foldl (fun r x=>cI lt x r) (r.map f):=by
  intro l
  induction l with
  |nil=>intro r;rfl
  |cons a l d=>intro r;rw[akB,d,rG,akz,akB]
 exact this l []
/-! what took place-/
def iN(d:ax):ax:=rH d 0
def EA(a b:ax):Bool:=decide (dH a<dH b)
def tD(l:List ax):List ax:=l.filter fun d=>decide (¬dH d= -1)
def fu(l:List ax):List ax:=cD EA (tD (l.map iN))
theorem tX(l m:List ax):tD (l++m)=tD l++tD m:=ak1 ..
theorem Ei{d:ax}{l:List ax}(h:¬dH d= -1):tD (d::l)=d::tD l:=akQ (by simpa using h)
theorem FP{d:ax}{l:List ax}(h:dH d= -1):tD (d::l)=tD l:=akR (by simpa using h)
theorem CM{d:ax}{l:List ax}(h:d∈tD (l.map iN)):∃x∈l,d=iN x/\¬dH x= -1:=by
 obtain⟨a,b⟩:=ak7.1 h;obtain⟨x,e,rfl⟩:=List.mem_map.1 a;exact⟨x,e,rfl,e_ b⟩
theorem qW(d:ax):dH (iN d)=dH d:=rfl
theorem Dp{l:List ax}{d:ax}(h:dH d= -1):fu (l++[d])=fu l:=by
 unfold fu;rw[akA,tX,akz,akO,FP (by rw[qW];exact h)];show cD EA (_++[])=_;rw[akU]
theorem GQ{l:List ax}{d:ax}(h:¬dH d= -1)(b:∀x∈l,dH x<=dH d):fu (l++[d])=fu l++[iN d]:=by
 unfold fu;rw[akA,tX,akz,akO,Ei (by rw[qW];exact h)];refine Tq fun y a=> ?_;obtain⟨x,e,rfl,_⟩:=CM a;have:=b x e;unfold EA;rw[qW,qW,d_];omega
theorem MQ{α:Type}{l:List α}{n:Nat}(x:α)(h:n<l.length):l.set n x=l.take n++x::l.drop (n+1):=by
 rw[List.set_eq_take_append_cons_drop,an h]
theorem Yz{α:Type}{l:List α}{n:Nat}(d:α)(h:n<l.length):l.set n (l.getD n d)=l:=by
 rw[cC _ h,List.set_getElem_self]
theorem QT{l:List ax}{n:Nat}{d:ax}(b:n<l.length)(h:dH (l.getD n ay.aa)= -1)(j:¬dH d= -1)(g:∀x∈l,dH x<dH d):fu (l.set n d)=fu l++[iN d]:=by
 have e:fu l=fu (l.take n++l.getD n ay.aa::l.drop (n+1)):=by
  rw[<-MQ _ b,Yz _ b]
 rw[e,MQ _ b];unfold fu;rw[akA,akA,akz,akz,tX,tX,FP (d:=iN (l.getD n ay.aa)) h,Ei (d:=iN d) j];refine T6 (fun y a=> ?_) (fun y a=> ?_);obtain⟨x,f,rfl,_⟩:=CM a;have:=g x (List.mem_of_mem_take f);unfold EA;rw[qW,qW,d_];omega;obtain⟨x,f,rfl,_⟩:=CM a;have:=g x (akX f);unfold EA;rw[qW,qW,b_];omega
theorem Ww{l:List ax}{n:Nat}{d:ax}(he:iN d=iN (l.getD n ay.aa)):fu (l.set n d)=fu l:=by
 unfold fu;by_cases hn:n<l.length;have e:(l.set n d).map iN=l.map iN:=jN (d:=ay.aa) he;rw[e];rw[List.set_eq_of_length_le (by omega)]
theorem Iq(l:List ax):(fX l).map (fun i=>iN (l.getD i.toNat dG.aa))=fu l:=by
 have j:∀n,n<=l.length->(idxs l n).map (fun i:Int=>iN (l.getD i.toNat dG.aa))=tD ((l.take n).map iN):=by
  intro n
  induction n with
  |zero=>intro _;rfl
  |succ n h=>
   intro hn;have e:l.take (n+1)=l.take n++[l.getD n dG.aa]:=by rw[cC _ (by omega)];exact akI (by omega)
   rw[MT,e,akA,tX,akz,akO];by_cases a:(js (l.getD n dG.aa) != -1)=true
   have b:¬js (l.getD n dG.aa)= -1:=by
    intro e;rw[e]at a;exact absurd a (by decide)
   rw[an a,akA,h (by omega),akz,akO,akM,Ei (d:=iN (l.getD n dG.aa)) b];rfl;have b:js (l.getD n dG.aa)= -1:=by simpa[bne_iff_ne]using a
   rw[a_ a,h (by omega),FP (d:=iN (l.getD n dG.aa)) b];exact(akU _).symm
 have g:=uY (lt:=EA) (f:=fun i:Int=>iN (l.getD i.toNat dG.aa)) (idxs l l.length);rw[j _ (Nat.le_refl _),akP]at g;exact g
def oc(d:ax):Int:=d.2.2.2.2.2.2.1
def YR(d:ax):Int:=d.2.2.2.2.2.1
def gQ(w:ah):List au:=w.2.2.2.2.2.2.2.1
def nS(cap:Int)(s:Option Int)(op code:Int)(g:Nat):Option Int:=
 match s with
 |none=>none
 |some n=>
  if op=1/\code=3/\¬n=cap then none
  else if op=4/\¬(g:Int)=n then none
  else if(if op=1/\code=1 then n+1 else if op=5 then n-g else n)<0\/cap<(if op=1/\code=1 then n+1 else if op=5 then n-g else n)then none
  else some (if op=1/\code=1 then n+1 else if op=5 then n-g else n)
def rY(cap:Int)(s:Option Int)(d:ax):Option Int:=nS cap s d.1 (oc d) (jm d).length
theorem qZ{cap n op code:Int}{g:Nat}(h1:¬(op=1/\(code=1\/code=3)))(h4:¬op=4)(a:¬op=5)(h0:0<=n)(hn:n<=cap):nS cap (some n) op code g=some n:=by
 have e:(if op=1/\code=1 then n+1 else if op=5 then n-g else n)=n:=by rw[a_ (by omega),a_ a]
 unfold nS;dsimp only;rw[e,a_ (by omega),a_ (by omega),a_ (by omega)]
theorem ZR{cap n:Int}{g:Nat}(h0:0<=n)(hn:n=cap):nS cap (some n) 1 3 g=some n:=by
 have e:(if(1:Int)=1/\(3:Int)=1 then n+1 else if(1:Int)=5 then n-g else n)=n:=by rw[a_ (by omega),a_ (by omega)]
 unfold nS;dsimp only;rw[e,a_ (by omega),a_ (by omega),a_ (by omega)]
theorem aaZ{cap n:Int}{g:Nat}(h0:0<=n)(hn:n+1<=cap):nS cap (some n) 1 1 g=some (n+1):=by
 have e:(if(1:Int)=1/\(1:Int)=1 then n+1 else if(1:Int)=5 then n-g else n)=n+1:=by rw[an (by omega)]
 unfold nS;dsimp only;rw[e,a_ (by omega),a_ (by omega),a_ (by omega)]
theorem ZF{cap n code:Int}{g:Nat}(hn:n<=cap)(hg:(g:Int)=n):nS cap (some n) 4 code g=some n:=by
 have e:(if(4:Int)=1/\code=1 then n+1 else if(4:Int)=5 then n-g else n)=n:=by rw[a_ (by omega),a_ (by omega)]
 unfold nS;dsimp only;rw[e,a_ (by omega),a_ (by omega),a_ (by omega)]
theorem XV{cap n m code:Int}{g:Nat}(hn:n<=cap)(h0:0<=m)(hg:m+g=n):nS cap (some n) 5 code g=some m:=by
 have e:(if(5:Int)=1/\code=1 then n+1 else if(5:Int)=5 then n-g else n)=m:=by rw[a_ (by omega),an rfl];omega
 unfold nS;dsimp only;rw[e,a_ (by omega),a_ (by omega),a_ (by omega)]
def U5(l:List au)(n:Int)(a:ae):Prop:=∃g∈l,g.1=n/\a∈g.2.2.2.2
def V0(e:ax)(n:Int)(a:ae):Prop:=(e.1=7/\e.2.2.1.1=a.1)\/(e.1=8/\YR e=n/\a∈jm e/\yi (jm e))
def P2(gs b:List au)(news:List ax):Prop:=
 (∀n a,U5 gs n a->U5 b n a\/∃e∈news,V0 e n a)/\(∀d∈news,d.1=7->¬oc d=3->U5 b (YR d) d.2.2.1)
def sT(cap:Int)(st a:List aq)(gs b:List au)(l d:List ax):Prop:=
 ∃news,fu d=fu l++news/\news.foldl (rY cap) (some (bm st:Int))=some (bm a:Int)/\P2 gs b news
theorem Lr{gs:List au}{news:List ax}(h:∀d∈news,¬d.1=7):P2 gs gs news:=⟨fun _ _ h=> .inl h,fun d a h7 _=>absurd h7 (h d a)⟩
theorem mq{cap:Int}{st a:List aq}{gs:List au}{l b:List ax}(h:fu b=fu l)(hc:bm a=bm st):sT cap st a gs gs l b:=
 ⟨[],by rw[h,akU],by rw[hc];rfl,Lr fun d e=>by cases e⟩
theorem ix{cap:Int}{st a:List aq}{gs b:List au}{l e:List ax}{d:ax}(h:fu e=fu l++[d])(hc:nS cap (some (bm st:Int)) d.1 (oc d) (jm d).length=some (bm a:Int))(f:P2 gs b [d]):sT cap st a gs b l e:=
 ⟨[d],h,hc,f⟩
theorem rm{gs:List au}{d:ax}(h:¬d.1=7):P2 gs gs [d]:=Lr fun e he=>by rw[J7.1 he];exact h
theorem pC{st:List aq}{j:Nat}{x:Int}:bm (cH st j x)=bm st:=by unfold bm;rw[Ha]
theorem kZ{l:List ax}{n:Nat}{d:ax}{x:Bool}{j_ ti code:Int}{got:List ae}(b:∀x∈l,dH x<ti)(h0:0<=ti)(f:n<l.length)(g:dH (l.getD n ay.aa)= -1)(h:dH d= -1):
 fu (l.set n (fv true x d j_ ti code got))=fu l++[iN (AD d j_ ti code got)]:=by
 have e:fv true x d j_ ti code got=rH (AD d j_ ti code got) ti:=by
  unfold fv rD;rw[an (by rfl),an h]
 have a:dH (fv true x d j_ ti code got)=ti:=by rw[e];rfl
 rw[QT f g (by rw[a];omega) (by rw[a];exact b),e];rfl
theorem Tg{l:List ae}{a b:ae}(d:b∈l)(g:¬b.1=a.1):b∈fo l a:=by
 unfold fo;split;rename_i i f;obtain⟨j,h,rfl⟩:=kN ab.aa d;by_cases e:i=j;subst e;exact absurd (e_ (aV.1 f).2.1) g;rw[<-getD_set_ne (l:=l) (a) ab.aa e];exact bR (by rw[akJ];exact h);rw[<-akV (jo l a.1) l]at d;rcases ak6.1 d with d|d;exact aky _ (aky _ d);exact akx _ d
theorem vp{α:Type}{l:List α}{i:Nat}{x:α}(hi:i<l.length):x∈l.set i x:=by
 have:=aT (l:=l) x x hi;have a:(l.set i x).getD i x∈l.set i x:=bR (by rw[akJ];exact hi);rwa [this]at a
theorem UR{l:List ae}{a:ae}:a∈fo l a:=by
 unfold fo;split;rename_i i b;exact vp (aV.1 b).1;exact aky _ (akx _ (J7.2 rfl))
theorem B7{α:Type}{l:List α}{i j:Nat}{x:α}(d:α)(a:j<l.length)(e:¬i=j):l.getD j d∈l.set i x:=by
 rw[<-getD_set_ne (l:=l) x d e];exact bR (by rw[akJ];exact a)
section
variable{k:Nat}{c:bo}{ti j_ gr nn:Int}{st:List aq}{m_:List bU}{k_ l_:List ae}{f_:List au}{i_:List aC}{n_:List bY}{h_:List aE}{g_:List ax}{i:Nat}{t:aE}
theorem jP(h:Rt k c ti j_ st m_ k_ gr f_ nn i_ l_ h_ g_):∀x∈g_,dH x<ti:=fun x a=>(h.dee x a).2.2.1
theorem qC(h:Rt k c ti j_ st m_ k_ gr f_ nn i_ l_ h_ g_):(0:Int)<=(bm st:Int)/\(bm st:Int)<=c.2.1:=⟨by omega,h.sto.cap⟩
theorem wK{j:Nat}:(bT (fF (c,ti,j_,st,m_,k_,gr,f_,nn,i_,n_,l_,h_,g_) i j)).1=true->
 sT c.2.1 st (mi (bT (fF (c,ti,j_,st,m_,k_,gr,f_,nn,i_,n_,l_,h_,g_) i j)).2) f_ (gQ (bT (fF (c,ti,j_,st,m_,k_,gr,f_,nn,i_,n_,l_,h_,g_) i j)).2) g_ (bE (bT (fF (c,ti,j_,st,m_,k_,gr,f_,nn,i_,n_,l_,h_,g_) i j)).2):=by
 unfold fF;dsimp only;by_cases a:(st.getD j aj.aa).1= -1;rw[an a,aX];intro _;exact mq rfl pC;rw[a_ a];intro b;simp[bT]at b
theorem I9{j:Nat}:(bT (jl (c,ti,j_,st,m_,k_,gr,f_,nn,i_,n_,l_,h_,g_) j)).1=true->
 sT c.2.1 st (mi (bT (jl (c,ti,j_,st,m_,k_,gr,f_,nn,i_,n_,l_,h_,g_) j)).2) f_ (gQ (bT (jl (c,ti,j_,st,m_,k_,gr,f_,nn,i_,n_,l_,h_,g_) j)).2) g_ (bE (bT (jl (c,ti,j_,st,m_,k_,gr,f_,nn,i_,n_,l_,h_,g_) j)).2):=by
 unfold jl;dsimp only;by_cases a:gr= -1;rw[an a,aX];intro _;exact mq rfl rfl;rw[a_ a];intro b;simp[bT]at b
theorem XT(h:Rt k c ti j_ st m_ k_ gr f_ nn i_ l_ h_ g_)(y:∀p∈st,p.2.1<4611686018427387904)(hi:i<3)(q:h_.getD i al.aa=t)(z:t.1=1):
 (cN true k (c,ti,j_,st,m_,k_,gr,f_,nn,i_,n_,l_,h_,g_) i).1=true->
 sT c.2.1 st (mi (cN true k (c,ti,j_,st,m_,k_,gr,f_,nn,i_,n_,l_,h_,g_) i).2) f_ (gQ (cN true k (c,ti,j_,st,m_,k_,gr,f_,nn,i_,n_,l_,h_,g_) i).2) g_ (bE (cN true k (c,ti,j_,st,m_,k_,gr,f_,nn,i_,n_,l_,h_,g_) i).2):=by
 have h0:=iK h.sto.ok;obtain⟨B,m,hb,hd,hv1,hw⟩:=eX h (by omega) q (by omega);have r:=(jy z).1 B;obtain⟨g,v⟩:=qC h;have hti:=h.ti0;unfold cN ux;dsimp only;rw[q];by_cases s:t.2.1=0;rw[an s];exact wK;rw[a_ s];by_cases u:t.2.1=1;rw[an u];rw[a_ (by omega)]at r;obtain⟨q1,q12,q13,q14,n,f,q17,o⟩:=r
 have j:dH (g_.getD (bC t).toNat ay.aa)= -1:=by
  by_cases e:(g_.getD (bC t).toNat ay.aa).2.2.2.2.2.2.2.2.2.2.1= -1;exact e;have:=n.1 e;omega
 by_cases a:uW k c st t.2.2.1=true;rw[an a,aX];intro _;refine ix (kZ (jP h) h.ti0 m j j) ?_ (rm (by show¬(g_.getD (bC t).toNat ay.aa).1=7;omega));show nS c.2.1 (some (bm st:Int)) (g_.getD (bC t).toNat ay.aa).1 3 0=some (bm (cH st _ (-1)):Int);rw[f,pC];unfold uW at a;simp only[A_,b_]at a;exact ZR g (by omega);rw[a_ a,aX];intro _;have A:=(PZ h.sto.ok o y).2.2.1;refine ix (d:=iN (xc (g_.getD (bC t).toNat ay.aa) j_ ti (if(fa k st t.2.2.1).2=true then 1 else 2))) (QT m j (by show¬ti= -1;omega) (jP h)) ?_ (rm (by show¬(g_.getD (bC t).toNat ay.aa).1=7;omega));show nS c.2.1 (some (bm st:Int)) (g_.getD (bC t).toNat ay.aa).1 (if(fa k st t.2.2.1).2=true then 1 else 2) (jm (g_.getD (bC t).toNat ay.aa)).length=some (bm (fa k st t.2.2.1).1:Int);rw[f,A];rw[NG h.sto.ok];cases l:(cj k st t.2.2.1.1).2;unfold uW at a;rw[l]at a;have:¬c.2.1<=(bm st:Int):=by simpa using a
 refine(aaZ g (by omega)).trans ?_;simp;exact qZ (by decide) (by decide) (by decide) g v;rw[a_ u,aX];intro _
 have b:fu ((g_++[iA (rC i t.2.2.1) j_ ti ti ti]).set (bC t).toNat (rH (g_.getD (bC t).toNat ay.aa) ti))=fu g_++[iN (iA (rC i t.2.2.1) j_ ti ti ti)]:=by
  rw[Ww (by rw[ld _ m];rfl)];exact GQ (by show¬ti= -1;omega) (fun x w=>by have:=jP h x w;show dH x<=ti;omega)
 refine ix b ?_ (rm (by show¬(2:Int)=7;decide));show nS c.2.1 (some (bm st:Int)) 2 8 0=some (bm (cH st _ (-1)):Int);rw[pC];exact qZ (by decide) (by decide) (by decide) g v
theorem W9(h:Rt k c ti j_ st m_ k_ gr f_ nn i_ l_ h_ g_)(hi:i<3)(d:h_.getD i al.aa=t)(m:t.1=2):
 (bT (oo true k (c,ti,j_,st,m_,k_,gr,f_,nn,i_,n_,l_,h_,g_) i)).1=true->
 sT c.2.1 st (mi (bT (oo true k (c,ti,j_,st,m_,k_,gr,f_,nn,i_,n_,l_,h_,g_) i)).2) f_ (gQ (bT (oo true k (c,ti,j_,st,m_,k_,gr,f_,nn,i_,n_,l_,h_,g_) i)).2) g_ (bE (bT (oo true k (c,ti,j_,st,m_,k_,gr,f_,nn,i_,n_,l_,h_,g_) i)).2):=by
 obtain⟨n,g,hb,hd,hv1,hw⟩:=eX h (by omega) d (by omega);obtain⟨q1,q12,q13,q14,a,b,q17⟩:=(qN m).1 n;obtain⟨j,l⟩:=qC h;unfold oo;dsimp only;rw[d];by_cases e:t.2.1=0;rw[an e];exact wK;rw[a_ e];by_cases f:(cj k st t.2.2.2.1).2=true;rw[an f,aX];intro _;refine ix (kZ (jP h) h.ti0 g a a) ?_ (rm (by show¬(g_.getD (bC t).toNat ay.aa).1=7;omega));show nS c.2.1 (some (bm st:Int)) (g_.getD (bC t).toNat ay.aa).1 5 1=some (bm (cH st _ (-1)):Int);rw[b,pC];exact qZ (by decide) (by decide) (by decide) j l;rw[a_ f,aX];intro _;refine ix (kZ (jP h) h.ti0 g a a) ?_ (rm (by show¬(g_.getD (bC t).toNat ay.aa).1=7;omega));show nS c.2.1 (some (bm st:Int)) (g_.getD (bC t).toNat ay.aa).1 6 0=some (bm (cH st _ (-1)):Int);rw[b,pC];exact qZ (by decide) (by decide) (by decide) j l
theorem Zw(h:Rt k c ti j_ st m_ k_ gr f_ nn i_ l_ h_ g_)(a:fk st t=true)(hs:lV st t.2.2.2.2.2.1=true)(e:t.2.2.2.2.2.1.length=st.length):cK st=t.2.2.2.2.2.2.1:=by
 rw[vK]at a
 have b:=a.2 fun i d=>by
  unfold lV at hs;have:=cA.1 hs i (by omega) d;exact e_ this
 rw[e,akP]at b;exact b
theorem Wk(h:Rt k c ti j_ st m_ k_ gr f_ nn i_ l_ h_ g_)(hi:i<3)(j:h_.getD i al.aa=t)(n:t.1=3):
 (bT (ig true k (c,ti,j_,st,m_,k_,gr,f_,nn,i_,n_,l_,h_,g_) i)).1=true->
 sT c.2.1 st (mi (bT (ig true k (c,ti,j_,st,m_,k_,gr,f_,nn,i_,n_,l_,h_,g_) i)).2) f_ (gQ (bT (ig true k (c,ti,j_,st,m_,k_,gr,f_,nn,i_,n_,l_,h_,g_) i)).2) g_ (bE (bT (ig true k (c,ti,j_,st,m_,k_,gr,f_,nn,i_,n_,l_,h_,g_) i)).2):=by
 obtain⟨o,p,hb,hd,hv1,hw⟩:=eX h (by omega) j (by omega);obtain⟨⟨r1,r2,r3,r4,r5,r6,r7,r8,r9,r10,r11⟩,q12,q13,q14,b,e,f,g⟩:=(iF n).1 o;obtain⟨c1,q⟩:=qC h;have hlen:=h.sto.len;unfold ig;dsimp only;rw[j];by_cases l:t.2.1=0;rw[an l];exact wK;rw[a_ l];by_cases m:t.2.1=1;rw[an m,aX];intro _;exact mq rfl pC;rw[a_ m];rw[an (by omega)]at g;by_cases d:lV st t.2.2.2.2.2.1=true;rw[an d,aX];intro _;have a:=Zw h f d (by omega);refine ix (kZ (jP h) h.ti0 p b b) ?_ (rm (by show¬(g_.getD (bC t).toNat ay.aa).1=7;omega));show nS c.2.1 (some (bm st:Int)) (g_.getD (bC t).toNat ay.aa).1 8 (dN t.2.2.2.2.2.2.1).length=some (bm st:Int);rw[e];refine ZF q ?_;have:(dN t.2.2.2.2.2.2.1).length=t.2.2.2.2.2.2.1.length:=(gF dB _).length_eq;rw[this,<-a];rfl;rw[a_ d,aX];intro _;exact mq rfl rfl
theorem Tj(h:Rt k c ti j_ st m_ k_ gr f_ nn i_ l_ h_ g_)(hi:i<3)(m:h_.getD i al.aa=t)(u:t.1=4):
 (im true k (c,ti,j_,st,m_,k_,gr,f_,nn,i_,n_,l_,h_,g_) i).1=true->
 sT c.2.1 st (mi (im true k (c,ti,j_,st,m_,k_,gr,f_,nn,i_,n_,l_,h_,g_) i).2) f_ (gQ (im true k (c,ti,j_,st,m_,k_,gr,f_,nn,i_,n_,l_,h_,g_) i).2) g_ (bE (im true k (c,ti,j_,st,m_,k_,gr,f_,nn,i_,n_,l_,h_,g_) i).2):=by
 obtain⟨y,r,j,e,hv1,hw⟩:=eX h (by omega) m (by omega);obtain⟨⟨q1,q2,q3,q4,q5,q6,q7,q8,q9,q10,q11,q11'⟩,q12,q13,q14,a,g,q17⟩:=(jB u).1 y;obtain⟨z,s⟩:=qC h;have hlen:=h.sto.len;have hti:=h.ti0;have v:t.2.2.2.2.1.toNat<st.length:=by omega
 unfold im vo;dsimp only;rw[m];by_cases n:t.2.1=0;rw[an n];exact wK;rw[a_ n,aX];intro _;have hcnt:=count_set (l:=st) (p:=(-1,(fD (st.getD t.2.2.2.2.1.toNat aj.aa) j_).2)) v;have hsl:=Es (st.getD t.2.2.2.2.1.toNat aj.aa) j_;have hee:(aU (-1,(fD (st.getD t.2.2.2.2.1.toNat aj.aa) j_).2)).length=(aU (fD (st.getD t.2.2.2.2.1.toNat aj.aa) j_)).length:=rfl;have o:nS c.2.1 (some (bm st:Int)) 5 8 (ey j_ (st.getD t.2.2.2.2.1.toNat aj.aa).2.2).length=some (bm (st.set t.2.2.2.2.1.toNat (-1,(fD (st.getD t.2.2.2.2.1.toNat aj.aa) j_).2)):Int):=XV s (by omega) (by omega)
 have q:∀l:List ax,(∀x∈l,dH x<=ti)->fu (l++[iA (iu i t.2.2.2.2.1.toNat (ey j_ (st.getD t.2.2.2.2.1.toNat aj.aa).2.2)) j_ ti ti ti])=fu l++[iN (iA (iu i t.2.2.2.2.1.toNat (ey j_ (st.getD t.2.2.2.2.1.toNat aj.aa).2.2)) j_ ti ti ti)]:=
  fun l j=>GQ (by show¬ti= -1;omega) j
 by_cases he:t.2.2.2.2.1.toNat+1=st.length
 have f:(if t.2.2.2.2.1.toNat+1=st.length then(g_++[iA (iu i t.2.2.2.2.1.toNat (ey j_ (st.getD t.2.2.2.2.1.toNat aj.aa).2.2)) j_ ti ti ti]).set (bC t).toNat (fv true false (g_.getD (bC t).toNat ay.aa) j_ ti 8 [])else g_++[iA (iu i t.2.2.2.2.1.toNat (ey j_ (st.getD t.2.2.2.2.1.toNat aj.aa).2.2)) j_ ti ti ti])=
  g_.set (bC t).toNat (fv true false (g_.getD (bC t).toNat ay.aa) j_ ti 8 [])++[iA (iu i t.2.2.2.2.1.toNat (ey j_ (st.getD t.2.2.2.2.1.toNat aj.aa).2.2)) j_ ti ti ti]:=by
  rw[an he,List.set_append_left _ _ r]
 show sT c.2.1 st _ f_ f_ g_ (if _ then _ else _);rw[f];refine⟨[iN (AD (g_.getD (bC t).toNat ay.aa) j_ ti 8 []),iN (iA (iu i t.2.2.2.2.1.toNat (ey j_ (st.getD t.2.2.2.2.1.toNat aj.aa).2.2)) j_ ti ti ti)],?_,?_,Lr fun d e=> ?_⟩;rw[q _ (fun x b=> ?_),kZ (jP h) h.ti0 r a a,List.append_assoc];rfl;rcases akF b with b|rfl;have:=jP h x b;omega
 have:dH (fv true false (g_.getD (bC t).toNat ay.aa) j_ ti 8 [])=ti:=by
  unfold fv rD;rw[an (by rfl),an (show dH (g_.getD (bC t).toNat ay.aa)= -1 from a)];rfl
 omega
 have w:rY c.2.1 (some (bm st:Int)) (iN (AD (g_.getD (bC t).toNat ay.aa) j_ ti 8 []))=some (bm st:Int):=by
  show nS c.2.1 (some (bm st:Int)) (g_.getD (bC t).toNat ay.aa).1 8 0=some (bm st:Int);rw[g];exact qZ (by decide) (by decide) (by decide) z s
 rw[akB,akB,List.foldl_nil,w];exact o;rcases List.mem_cons.1 e with rfl|e;show¬(g_.getD (bC t).toNat ay.aa).1=7;omega;rw[J7.1 e];show¬(5:Int)=7;decide
 have f:(if t.2.2.2.2.1.toNat+1=st.length then(g_++[iA (iu i t.2.2.2.2.1.toNat (ey j_ (st.getD t.2.2.2.2.1.toNat aj.aa).2.2)) j_ ti ti ti]).set (bC t).toNat (fv true false (g_.getD (bC t).toNat ay.aa) j_ ti 8 [])else g_++[iA (iu i t.2.2.2.2.1.toNat (ey j_ (st.getD t.2.2.2.2.1.toNat aj.aa).2.2)) j_ ti ti ti])=
  g_++[iA (iu i t.2.2.2.2.1.toNat (ey j_ (st.getD t.2.2.2.2.1.toNat aj.aa).2.2)) j_ ti ti ti]:=a_ he
 show sT c.2.1 st _ f_ f_ g_ (if _ then _ else _);rw[f];exact ix (q _ fun x b=>by have:=jP h x b;omega) o (rm (by show¬(5:Int)=7;decide))
theorem WT(h:Rt k c ti j_ st m_ k_ gr f_ nn i_ l_ h_ g_):
 (jZ true k (c,ti,j_,st,m_,k_,gr,f_,nn,i_,n_,l_,h_,g_)).1=true->
 sT c.2.1 st (mi (jZ true k (c,ti,j_,st,m_,k_,gr,f_,nn,i_,n_,l_,h_,g_)).2) f_ (gQ (jZ true k (c,ti,j_,st,m_,k_,gr,f_,nn,i_,n_,l_,h_,g_)).2) g_ (bE (jZ true k (c,ti,j_,st,m_,k_,gr,f_,nn,i_,n_,l_,h_,g_)).2):=by
 obtain⟨H,I⟩:=qC h;generalize r:h_.getD 3 al.aa=t;unfold jZ lj;dsimp only;rw[r];by_cases y:t.1=0;rw[an y];by_cases z:k_.length=0;rw[an z];intro f;simp[bT]at f;rw[a_ z,aX];intro _;exact mq (Dp rfl) rfl;rw[a_ y];have s:=h.tas 3 (by decide);rw[r]at s
 have G:t.1=5:=by
  have h1:=jw (k:=k) (w:=(c,ti,j_,st,m_,k_,gr,f_,nn,i_,n_,l_,h_,g_)) (i:=3) s;omega
 obtain⟨-,v,hb,f,hv1,hw⟩:=eX h (by decide) r (by omega);obtain⟨q1,q12,q13,q14,b,p,o⟩:=(kE G).1 s;by_cases A:t.2.1=0;rw[an A];exact I9;rw[a_ A]
 have l:∀(m code:Int),nS c.2.1 (some (bm st:Int)) (g_.getD (bC t).toNat ay.aa).1 code 0=some (bm st:Int):=fun m code=>by
  rw[p];exact qZ (by omega) (by decide) (by decide) H I
 cases u:gI f_ (keyOf t.2.2.1 c.2.2.2.2.2)with
 |none=>
  dsimp only;by_cases B:12<=f_.length;rw[an B,aX];intro _;refine ix (kZ (jP h) h.ti0 v b b) (l 0 3) ⟨fun _ _ h=> .inl h,fun d f _ q=> ?_⟩;rw[J7.1 f]at q;exact absurd rfl q;rw[a_ B,aX];intro _;refine ix (kZ (jP h) h.ti0 v b (show dH (vY _ nn)= -1 from b)) (l nn 1) ⟨fun n a h=> ?_,fun d f _ q=> ?_⟩;obtain⟨g,x,e⟩:=h;exact .inl ⟨g,aky _ x,e⟩;rw[J7.1 f];exact⟨rF c t.2.2.1 nn j_,akx _ (J7.2 rfl),rfl,J7.2 o⟩
 |some i=>
  dsimp only;rw[aX];intro _;obtain⟨D,k2⟩:=tL u;refine ix (kZ (jP h) h.ti0 v b (show dH (vY _ _)= -1 from b)) (l 0 2) ⟨fun n a h=> ?_,fun d f _ q=> ?_⟩;obtain⟨g,x,E,F⟩:=h;obtain⟨j,J,rfl⟩:=kN ak.aa x;by_cases e:i=j;subst e;by_cases C:a.1=t.2.2.1.1;refine .inr ⟨_,J7.2 rfl,.inl ⟨p,?_⟩⟩;show(g_.getD (bC t).toNat ay.aa).2.2.1.1=a.1;rw[o,C];exact .inl ⟨_,vp D,E,Tg F C⟩;exact .inl ⟨_,B7 ak.aa J e,E,F⟩;rw[J7.1 f];refine⟨_,vp D,rfl,?_⟩;show(g_.getD (bC t).toNat ay.aa).2.2.1∈fo _ t.2.2.1;rw[o];exact UR
theorem Ul(h:Rt k c ti j_ st m_ k_ gr f_ nn i_ l_ h_ g_):
 (iq true k (c,ti,j_,st,m_,k_,gr,f_,nn,i_,n_,l_,h_,g_)).1=true->
 sT c.2.1 st (mi (iq true k (c,ti,j_,st,m_,k_,gr,f_,nn,i_,n_,l_,h_,g_)).2) f_ (gQ (iq true k (c,ti,j_,st,m_,k_,gr,f_,nn,i_,n_,l_,h_,g_)).2) g_ (bE (iq true k (c,ti,j_,st,m_,k_,gr,f_,nn,i_,n_,l_,h_,g_)).2):=by
 obtain⟨C,D⟩:=qC h;generalize p:h_.getD 4 al.aa=t;unfold iq jg;dsimp only;rw[p];by_cases r:t.1=0;rw[an r];by_cases s:u9 i_ j_=true;rw[an s,aX];intro _;exact mq (Dp rfl) rfl;rw[a_ s];intro o;simp[bT]at o;rw[a_ r];have q:=h.tas 4 (by decide);rw[p]at q
 have A:t.1=6:=by
  have h1:=jw (k:=k) (w:=(c,ti,j_,st,m_,k_,gr,f_,nn,i_,n_,l_,h_,g_)) (i:=4) q;omega
 obtain⟨-,x,hb,o,hv1,hw⟩:=eX h (by decide) p (by omega);obtain⟨q1,q12,q13,q14,f,m,q17,q18⟩:=(iG A).1 q;by_cases u:t.2.1=0;rw[an u];exact I9;rw[a_ u]
 have l:∀(code:Int) (g:Nat),nS c.2.1 (some (bm st:Int)) (g_.getD (bC t).toNat ay.aa).1 code g=some (bm st:Int):=fun code g=>by
  rw[m];exact qZ (by omega) (by decide) (by decide) C D
 by_cases hk:np f_ t.2.2.2.2.2.2.2.1=true;rw[an hk,aX];intro _;refine ix (kZ (jP h) h.ti0 x f f) (l 8 _) ⟨fun n a hm=> ?_,fun d o h7 _=> ?_⟩;obtain⟨g,E,F,y⟩:=hm;unfold np at hk;cases b:fP f_ t.2.2.2.2.2.2.2.1 with
 |none=>rw[b]at hk;cases hk
 |some i=>
  obtain⟨G,k2⟩:=iD b;obtain⟨j,z,rfl⟩:=kN ak.aa E;have v:jF f_ t.2.2.2.2.2.2.2.1 j_=vD (f_.getD i ak.aa) j_:=by unfold jF;rw[b]
  by_cases e:i=j;subst e;refine .inr ⟨_,J7.2 rfl,.inr ⟨m,?_,?_,?_⟩⟩;show(g_.getD (bC t).toNat ay.aa).2.2.2.2.2.1=n;omega;show a∈(jF f_ t.2.2.2.2.2.2.2.1 j_).2.2.2;rw[v];exact y;show yi (jF f_ t.2.2.2.2.2.2.2.1 j_).2.2.2;rw[v];exact(ju.1 ((cY.1 h.grp.go).2.1 _ (bR (d:=ak.aa) G))).2.2.2.2.2.2
  have B:f_.getD j ak.aa∈eV f_ t.2.2.2.2.2.2.2.1 j_:=by
   unfold eV;rw[b];dsimp only;split;rw[cC _ z];rcases Nat.lt_or_gt_of_ne e with e|e;refine akx _ (akZ.2 ⟨j-(i+1),by rw[ak3];omega,?_⟩);rw[List.getElem_drop];congr 1;omega;exact aky _ (akZ.2 ⟨j,by rw[List.length_take];omega,by rw[List.getElem_take]⟩);exact B7 ak.aa z e
  exact .inl ⟨_,B,F,y⟩
 rw[J7.1 o]at h7;have:(g_.getD (bC t).toNat ay.aa).1=7:=h7;omega;rw[a_ hk,aX];intro _;exact ix (kZ (jP h) h.ti0 x f f) (l 6 0) (rm (by show¬(g_.getD (bC t).toNat ay.aa).1=7;omega))
end
def Ev(w w':ah):Prop:=sT w.1.2.1 (mi w) (mi w') (gQ w) (gQ w') (bE w) (bE w')
theorem ZK{k:Nat}{w:ah}{i:Nat}(h:cw k w=true)(hi:i<5)(m:∀p∈mi w,p.2.1<4611686018427387904)(b:(qX true k w i).1=true):Ev w (qX true k w i).2:=by
 obtain⟨c,ti,j_,st,m_,k_,gr,f_,nn,i_,n_,l_,h_,g_⟩:=w;have R:=cr.1 h;generalize a:h_.getD i al.aa=t;have g:=R.tas i hi;rw[a]at g;have ho:=jw (k:=k) (w:=(c,ti,j_,st,m_,k_,gr,f_,nn,i_,n_,l_,h_,g_)) (i:=i) g;revert b;unfold Ev qX;dsimp only[eQ];rw[a];by_cases d:t.1=1;rw[an d];exact XT R m (by omega) a d;rw[a_ d];by_cases j:t.1=2\/t.1=3;rw[an j];unfold pU AE;dsimp only;rw[a];by_cases e:t.1=2;rw[an e];exact W9 R (by omega) a e;rw[a_ e];exact Wk R (by omega) a (by omega);rw[a_ j];by_cases f:t.1=4;rw[an f];exact Tj R (by omega) a f;rw[a_ f];by_cases l:i=3;rw[an l];exact WT R;rw[a_ l];by_cases h6:i=4;rw[an h6];exact Ul R;rw[a_ h6];intro b;cases b
theorem ZP{k:Nat}{w:ah}{e:cM}(h:cw k w=true)(G:∀p∈mi w,p.2.1<4611686018427387904)(a:(sF k w e).1=true):Ev w (sF k w e).2:=by
 have H:=h;have o:∀i t op,Ev w (iL w i t op):=fun i t op=>mq (Dp rfl) rfl
 have b:∀(d:ax) (l:ah),0<=w.2.1->(0:Int)<=(bm (mi w):Int)/\(bm (mi w):Int)<=w.1.2.1->(∀x∈bE w,dH x<w.2.1)->dH d=w.2.1->(¬(d.1=1/\(oc d=1\/oc d=3))/\¬d.1=4/\¬d.1=5/\¬d.1=7)->
  mi l=mi w->gQ l=gQ w->bE l=bE w++[d]->Ev w l:=by
  intro d l h0 hc B a f C D E;unfold Ev;rw[C,D,E];refine ix (GQ (by omega) fun x F=>by have:=B x F;omega) ?_ (rm f.2.2.2);exact qZ (op:=d.1) (code:=oc d) f.1 f.2.1 f.2.2.1 hc.1 hc.2
 have g:0<=w.2.1/\((0:Int)<=(bm (mi w):Int)/\(bm (mi w):Int)<=w.1.2.1)/\∀x∈bE w,dH x<w.2.1:=by
  obtain⟨c,ti,j_,st,m_,k_,gr,f_,nn,i_,n_,l_,h_,g_⟩:=w;have R:=cr.1 H;exact⟨R.ti0,qC R,jP R⟩
 obtain⟨f1,f2,f3⟩:=g;unfold sF at a|-;by_cases q:e.1=1;rw[an q]at a|-;by_cases hc:dD w e.2.1=true;rw[an hc];dsimp only;by_cases r:da e.2.2.1=true;rw[an r];exact o _ _ _;rw[a_ r];exact b (1,e.2.1,e.2.2.1,[],0,0,4,[],w.2.2.1,w.2.1,w.2.1,w.2.1) _ f1 f2 f3 rfl ⟨by show¬((1:Int)=1/\((4:Int)=1\/(4:Int)=3));decide,by show¬(1:Int)=4;decide,by show¬(1:Int)=5;decide,by show¬(1:Int)=7;decide⟩ rfl rfl rfl;rw[a_ hc]at a;cases a;rw[a_ q]at a|-;by_cases s:e.1=2;rw[an s]at a|-;by_cases hc:(dD w e.2.1&&eo e.2.2.2)=true;rw[an hc];exact o _ _ _;rw[a_ hc]at a;cases a;rw[a_ s]at a|-;by_cases u:e.1=3;rw[an u]at a|-;by_cases hc:dD w e.2.1=true;rw[an hc];exact o _ _ _;rw[a_ hc]at a;cases a;rw[a_ u]at a|-;by_cases v:e.1=4;rw[an v]at a|-;by_cases hc:dD w e.2.1=true;rw[an hc];exact o _ _ _;rw[a_ hc]at a;cases a;rw[a_ v]at a|-;by_cases y:e.1=5;rw[an y]at a|-;by_cases j:bw e.2.1 0 4=true;rw[an j]at a|-;have I:e.2.1.toNat<5:=by unfold bw at j;simp only[A_,b_]at j;omega
 exact ZK h I G a;rw[a_ j]at a;cases a;rw[a_ y]at a|-;by_cases z:e.1=6;rw[an z]at a|-;by_cases m:bw e.2.1 0 ((dt w).length-1)=true;rw[an m];exact b (Dn e.2.1 ((dt w).getD e.2.1.toNat bp.aa) w.2.2.1 w.2.1) _ f1 f2 f3 rfl ⟨by show¬((9:Int)=1/\_);omega,by show¬(9:Int)=4;decide,by show¬(9:Int)=5;decide,by show¬(9:Int)=7;decide⟩ rfl rfl rfl;rw[a_ m]at a;cases a;rw[a_ z]at a|-;by_cases A:e.1=7;rw[an A]at a|-;by_cases n:bw e.2.1 1 20=true/\w.2.2.1+e.2.1<=99899;rw[an n];exact mq rfl rfl;rw[a_ n]at a;cases a;rw[a_ A]at a;cases a
/-! how many stand-/
theorem Z0{cap:Int}(l:List ax):l.foldl (rY cap) none=none:=by
 induction l with
 |nil=>rfl
 |cons d l a=>exact a
theorem SE{cap m:Int}{l:List ax}(h:l.foldl (rY cap) (some 0)=some m)(i:Nat):∃n,(l.take i).foldl (rY cap) (some 0)=some n:=by
 have e:l=l.take i++l.drop i:=(akV i l).symm;rw[e,akC]at h;cases a:(l.take i).foldl (rY cap) (some 0)with
 |none=>rw[a,Z0]at h;cases h
 |some n=>exact⟨n,rfl⟩
theorem Tb{cap n m op code:Int}{g:Nat}(h:nS cap (some n) op code g=some m):
 ¬(op=1/\code=3/\¬n=cap)/\¬(op=4/\¬(g:Int)=n)/\m=(if op=1/\code=1 then n+1 else if op=5 then n-g else n)/\0<=m/\m<=cap:=by
 unfold nS at h;dsimp only at h;by_cases a:op=1/\code=3/\¬n=cap;rw[an a]at h;cases h;rw[a_ a]at h;by_cases b:op=4/\¬(g:Int)=n;rw[an b]at h;cases h;rw[a_ b]at h;generalize (if op=1/\code=1 then n+1 else if op=5 then n-g else n)=q at h|-;by_cases d:q<0\/cap<q;rw[an d]at h;cases h;rw[a_ d]at h;have:=akK h;exact⟨a,b,this.symm,by omega,by omega⟩
def Ht(l:List ax)(i:Nat):ax:=l.getD ((fX l).getD i 0).toNat ay.aa
theorem CT(l:List ax):(fu l).length=(fX l).length:=by rw[<-Iq l,akT]
theorem ZC{l:List ax}{i:Nat}(h:i<(fX l).length):(fu l).getD i ay.aa=iN (Ht l i):=by
 have e:=Iq l;rw[<-e,cC _ (by rw[akT];exact h),List.getElem_map];unfold Ht;rw[cC _ h]
theorem MU{cap m:Int}{l:List ax}(h:(fu l).foldl (rY cap) (some 0)=some m){i:Nat}(hi:i<(fX l).length){n:Int}(d:((fu l).take i).foldl (rY cap) (some 0)=some n):
 ∃b,((fu l).take (i+1)).foldl (rY cap) (some 0)=some b/\nS cap (some n) (Ht l i).1 (oc (Ht l i)) (jm (Ht l i)).length=some b:=by
 obtain⟨b,a⟩:=SE h (i+1);refine⟨b,a,?_⟩;rw[akI (by rw[CT];exact hi),akC,d]at a;have e:=ZC hi;rw[cC _ (by rw[CT];exact hi)]at e;rw[e]at a;exact a
/-! what is in its group-/
theorem GR{α:Type}{n i:Nat}{a d:α}(h:i<n):(akv n a).getD i d=a:=by
 rw[cC _ (by simpa using h)];simp
def KC(k:Nat)(w:ah):Prop:=cw k w=true/\∃n,n<=160/\yD n w
section
variable{k:Nat}(hk:9223372036854775808<=k)
include hk
theorem VD{c:bo}(hc:dU c=true):cw k (n7 c)=true/\yD 0 (n7 c):=by
 obtain⟨c0,C,D,c3,c4⟩:=qw hk hc
 have hcn:0<=c.2.1/\1<=c.2.2.1:=by
  unfold dU bw at hc;simp only[A_,b_]at hc;omega
 unfold n7;rw[an hc]
 have b:gJ c.1=akv c.1.toNat (-1,0,[]):=by
  unfold gJ;simp[C,D]
 have hlen:(gJ c.1).length=c.1.toNat:=by rw[b];simp
 have f:cK (gJ c.1)=[]:=by
  rw[b];refine akL.2 fun a l=> ?_;obtain⟨p,y,ch,u,_⟩:=MV.1 l;rw[(akH.1 y).2]at u;exact absurd u (ak5)
 have o:∀s∈Ae c,ij s=true:=by
  intro s z;unfold Ae at z;rw[(akH.1 z).2];unfold ij cx;simp[kY]
 have v:∀i,i<5->(akv 5 xO).getD i al.aa=zT:=fun i e=>GR e;constructor
 refine cr.2 ⟨hc,akE _,akE _,⟨by decide,by decide⟩,⟨cS.2 ⟨fun i e=> ?_,by omega,by omega⟩,by omega,by unfold bm;rw[f];simp;omega,by rw[f];intro a l;cases l⟩,
  ⟨by unfold Ae;simp;omega,o,fun a l=>(by cases l),fun a l=>(by cases l)⟩,fun d B=>(by cases B),rfl,fun i e=> ?_,⟨fun q A j m=> ?_,fun j m=> ?_,by decide,by decide⟩,cY.2 ⟨by decide,fun g w=>(by cases w),List.Pairwise.nil,List.Pairwise.nil⟩,u6.2 ⟨fun x n=>(by cases n),fun j m=>by simp at m,by decide⟩,fun x n=>(by cases n),List.Pairwise.nil,fun g w=>(by cases w)⟩
 rw[b]at e|-;rw[GR (by simpa using e)];exact eJ.2 ⟨fun c hc=>(by cases hc),List.Pairwise.nil,⟨by decide,by decide⟩,by decide⟩;rw[v i e];exact qF e;rw[v j m,dI (.inl rfl)];rw[b]at A|-;rw[GR (by simpa using A)];constructor;intro h;omega;intro h;exact absurd h (by show¬(-1:Int)=(j:Int);omega);rw[v j m,gb (.inr rfl)];constructor;intro h;cases h;intro h;omega;refine⟨akE _,akE _,fun p y=> ?_,by show(0:Nat)+(if((akv 5 xO).getD 4 al.aa).1=6 then 1 else 0)<=0;decide,fun _ x n=>(by cases n),by show ag (.sl ab) ([]:List ae)<=_;rw[bu];omega,by show ag (.sl ab) ([]:List ae)<=_;rw[bu];omega,by show 3*0+3*0+fS ((akv 5 xO).getD 3 al.aa)+fS ((akv 5 xO).getD 4 al.aa)<=0;decide,by show ag (.sl eP) ([]:List bY)<=_;rw[bu];omega,by show ag (.sl ay) ([]:List ax)<=_;rw[bu];omega,fun i e=> ?_⟩;have r:p∈gJ c.1:=y;rw[b]at r;rw[(akH.1 r).2];exact akE _;show((akv 5 xO).getD i al.aa).2.2.2.2.2.2.1.length<=8*((akv 5 xO).getD i al.aa).2.2.2.2.2.1.length;rw[v i e];decide
theorem Z6{c:aP}(hc:bG c):Dr (tH k (c,())) (fun r=>bG r.2.1/\vZ r.1=true):=by
 simp only[tH];refine dm (dC hk hc) (fun r1 a=>fx (fun _=>fj ⟨a.1,(show vZ []=true by decide)⟩) (fun _=>fx (fun _=>fj ⟨a.1,(show vZ [⟨#[97,112,112]⟩,⟨#[115,101,118]⟩]=true by decide+kernel)⟩) (fun _=>fx (fun _=>fj ⟨a.1,(show vZ [⟨#[104,111,115,116]⟩]=true by decide+kernel)⟩) (fun _=>fj ⟨a.1,(show vZ [⟨#[97,112,112]⟩]=true by decide+kernel)⟩))))
theorem UO{c:aP}(hc:bG c):Dr (oU k (c,())) (fun r=>bG r.2.1/\dU r.1=true):=by
 simp only[oU];refine dm (dC hk hc) (fun r1 a=>dm (YK hk 1 8 a.1 (by decide) (by decide)) (fun r2 b=>dm (dC hk b.1) (fun r3 d=>dm (dC hk d.1) (fun r4 e=>dm (dC hk e.1) (fun r5 f=>dm (Z6 hk f.1) (fun r6 h6=>fj ⟨h6.1,?_⟩))))));have g1:=a.2;have g2:=b.2;have g3:=d.2;have g4:=e.2;have g5:=f.2;rw[wrap64 (by omega) (by omega),wrap64 (by omega) (by omega),wrap64 (by omega) (by omega),wrap64 (by omega) (by omega)];unfold dU bw;simp only[A_,b_];exact⟨⟨⟨⟨⟨⟨by omega,by omega⟩,by omega,by omega⟩,by omega,by omega⟩,by omega,by omega⟩,by omega,by omega⟩,h6.2⟩
end
def Ga(e:cM):Prop:=ag ab e.2.2.1<=2900/\ag (.sl ai) e.2.2.2<=2900
section
variable{k:Nat}(hk:9223372036854775808<=k)
include hk
theorem Bi{a b:Int}:Ga (a,b,([],0,0,ByteArray.empty),[]):=by
 have e1:=mP hk;have e2:ag (.sl ai) ([]:List af)=0:=bu;exact⟨by show ag ab cW<=2900;omega,by show ag (.sl ai) ([]:List af)<=2900;omega⟩
theorem ZH{w:ah}(h:cw k w=true):ag (.sl ab) (dN (cK w.2.2.2.1))<=776/\ag (.sl aj) w.2.2.2.1<=1000:=by
 obtain⟨c,ti,j_,st,m_,k_,gr,f_,nn,i_,n_,l_,h_,g_⟩:=w;have R:=cr.1 h;have h1:=kC hk (l:=cK st) fun a b=>gL (R.sto.fit a b);have d:=R.sto.cap;have h3:=(qw hk R.cf).2.2.2.1;have e:=Nw hk R.sto.ok;have h5:=(cS.1 R.sto.ok).2;unfold bm at d e;rw[wG];dsimp only;omega
set_option maxHeartbeats 8000000 in
theorem Uq{c:aP}{w:ah}(hc:bG c)(hw:cw k w=true):Dr (ph k (c,w,())) (fun r=>Ga r.1/\bG r.2.1):=by
 have L:(eQ w).length=5:=by
  obtain⟨c,ti,j_,st,m_,k_,gr,f_,nn,i_,n_,l_,h_,g_⟩:=w;exact(cr.1 hw).tl
 obtain⟨t1,t2⟩:=ZH hk hw;have t3:=aA (e:=ab) (l:=dN (cK w.2.2.2.1));have v:=EU hk (l:=w.2.2.2.1) (by omega)
 have o:∀t:aP×ah×cM×Int×ae×Unit,(bG t.1/\t.2.1=w/\ag ab t.2.2.2.2.1<=400)->Dr (
  akw (dx k (t.2.1.2.2.2.1,())) fun B=>
  akw (fc k (t.1,())) fun f=>
  if(decide (akD B.1+akD ([f.1]:List ae)<4294967296))=true then
   akw (dW k (f.2.1,B.1++([f.1]:List ae),())) fun m=>
   akw (cu k (m.2.1,([(0:Int),(3:Int),(9:Int),(60:Int)]:List Int),())) fun n=>
   some (((1:Int),t.2.2.2.1,(m.1,t.2.2.2.2.1.2.1,IntKind.i64.wrap (t.2.2.2.2.1.2.1+n.1),t.2.2.2.2.1.2.2.2),([]:List af)),n.2.1,())
  else
   none) (fun r:cM×aP×Unit=>Ga r.1/\bG r.2.1):=by
  rintro⟨c',R,e,i,a,u⟩ ⟨g1,g2,g3⟩;dsimp only at g1 g2 g3|-;subst g2;rw[v,G5];refine dm (CY hk g1) (fun f Dl=>nI (c_ (by simp only[akW];omega)) ?_)
  have hl:ag (.sl ab) (dN (cK R.2.2.2.1)++[f.1])<=1000:=by
   rw[iS (e:=ab),cG (e:=ab),bu];have:=Dl.2;omega
  refine dm (FJ hk (l:=dN (cK R.2.2.2.1)++[f.1]) Dl.1 (by omega)) (fun m qQ=>dm (oq hk qQ.1 (by decide)) (fun n FF=>fj ⟨⟨?_,?_⟩,FF⟩))
  ·have V:=bI hk (m.1,a.2.1,IntKind.i64.wrap (a.2.1+n.1),a.2.2.2);have e2:=bI hk a;have:=qQ.2;dsimp only at V|-;omega
  ·show ag (.sl ai) ([]:List af)<=2900;rw[bu];omega
 have p:∀(r:aP) (q:ae) (i:Int) (J:aP×ah×cM×Int×ae×Unit->Option (cM×aP×Unit)),bG r->ag ab q<=121->
  (∀s,(bG s.1/\s.2.1=w/\ag ab s.2.2.2.2.1<=400)->Dr (J s) (fun r:cM×aP×Unit=>Ga r.1/\bG r.2.1))->
  Dr (akw (eN k (r,(16:Int),())) fun I=>
   if I.1=true then
    akw (jU k (I.2.1,())) fun M=>
    J (M.2.1,w,(0,0,(([]:List af),0,0,ByteArray.empty),([]:List af)),i,M.1,())
   else
    J (I.2.1,w,(0,0,(([]:List af),0,0,ByteArray.empty),([]:List af)),i,q,())) (fun r:cM×aP×Unit=>Ga r.1/\bG r.2.1):=by
  intro r q i J S hq g;refine dm (qO hk S) (fun I h8=>fx (fun _=> ?_) (fun _=>g _ ⟨h8,rfl,by dsimp only;omega⟩));exact dm (XE hk h8) (fun M h9=>g _ ⟨h9.1,rfl,h9.2⟩)
 have d:∀(A:Int) (y:aP) (i:Int) (J:aP×ah×cM×Unit->Option (cM×aP×Unit)),bG y->
  (∀s,(bG s.1/\s.2.1=w)->Dr (J s) (fun r:cM×aP×Unit=>Ga r.1/\bG r.2.1))->
  Dr (if((A:Int)==(3:Int))=true then
   akw (dx k (w.2.2.2.1,())) fun N=>
   akw (dW k (y,N.1,())) fun x=>
   some (((2:Int),i,(([]:List af),0,0,ByteArray.empty),x.1),x.2.1,())
  else
   if((A:Int)==(4:Int))=true then
    akw (cu k (y,([(3:Int),(4:Int)]:List Int),())) fun C=>
    some ((C.1,i,(([]:List af),0,0,ByteArray.empty),([]:List af)),C.2.1,())
   else
    if((A:Int)==(5:Int))=true then
     akw (cu k (y,([(1:Int),(1:Int),(2:Int),(5:Int)]:List Int),())) fun D=>
     some (((7:Int),D.1,(([]:List af),0,0,ByteArray.empty),([]:List af)),D.2.1,())
    else
     if((A:Int)==(6:Int))=true then
      akw (bz k (y,(2:Int),())) fun E=>
      some (((6:Int),E.1,(([]:List af),0,0,ByteArray.empty),([]:List af)),E.2.1,())
     else
      J (y,w,(0,0,(([]:List af),0,0,ByteArray.empty),([]:List af)),())) (fun r:cM×aP×Unit=>Ga r.1/\bG r.2.1):=by
  intro A y i J j g;refine fx (fun _=> ?_) (fun _=>fx (fun _=> ?_) (fun _=>fx (fun _=> ?_) (fun _=>fx (fun _=> ?_) (fun _=>g _ ⟨j,rfl⟩))))
  ·rw[v,G5];refine dm (FJ hk j (by dsimp only;omega)) (fun x Nc=>fj ⟨⟨?_,?_⟩,Nc.1⟩)
   ·have:=mP hk;show ag ab cW<=2900;omega
   ·have:=Nc.2;dsimp only at this|-;omega
  ·exact dm (oq hk j (by decide)) (fun r h=>fj ⟨Bi hk,h⟩)
  ·exact dm (oq hk j (by decide)) (fun r h=>fj ⟨Bi hk,h⟩)
  ·exact dm (dC hk j) (fun r h=>fj ⟨Bi hk,h.1⟩)
 simp only[ph];refine dm (dC hk hc) (fun r1 T=>Qs (fun t:aP×ah×cM×Unit=>bG t.1/\t.2.1=w) ?_ ?_)
 ·rintro⟨c3,W,e3,u3⟩ ⟨g1,g2⟩;dsimp only at g1 g2|-;subst g2;refine dm (dC hk g1) (fun r47 z=>Qs (fun t:aP×ah×cM×Int×Unit=>bG t.1) (fun t U=>fj ⟨Bi hk,U⟩) (fun J g=> ?_));refine Vz (fun t:aP×ah×cM×Int×Int×Unit=>(3-t.2.2.2.2.1).toNat) (fun t=>bG t.1/\t.2.1=W/\0<=t.2.2.2.1/\t.2.2.2.1<5/\0<=t.2.2.2.2.1/\t.2.2.2.2.1<=3) ?_ ⟨z.1,rfl,by have:=z.2;dsimp only;omega,by have:=z.2;dsimp only;omega,akE _,by show(0:Int)<=3;decide⟩ (by dsimp only;omega);rintro G ⟨c5,w5,e5,i5,n5,u5⟩ ⟨q1,q2,q3,q4,q5,q6⟩ hG;dsimp only at q1 q2 q3 q4 q5 q6 hG|-;subst q2;refine fx (fun F=>nI ?_ ?_) (fun _=>g _ q1)
  ·rw[show w5.2.2.2.2.2.2.2.2.2.2.2.2.1.length=5 from L];exact c_ ⟨q3,by omega⟩
  ·have F:n5<3:=by simpa using F
   have Q:∀b:Bool,Dr (if b=true then nr k (w5,())else some (false,())) (fun _=>True):=fun b=>fx (fun _=>⟨_,Ee hk,trivial⟩) (fun _=>⟨_,rfl,trivial⟩);refine dm (P:=fun _=>True) (Q _) (fun r52 _=>fx (fun _=>g _ q1) (fun _=>dm (dC hk q1) (fun r53 H=> ?_)))
   ·have:=H.2;rw[wrap64 (by omega) (by omega)];exact hG _ ⟨H.1,rfl,by dsimp only;omega,by dsimp only;omega,by dsimp only;omega,by dsimp only;omega⟩ (by dsimp only;omega)
 ·intro J g;refine dm (dC hk T.1) (fun A K=> ?_);refine fx (fun _=>fx (fun _=> ?_) (fun _=>d _ _ _ _ K.1 g)) (fun _=>fx (fun _=>fx (fun _=> ?_) (fun _=>d _ _ _ _ K.1 g)) (fun _=>fx (fun _=> ?_) (fun _=>d _ _ _ _ K.1 g)))
  all_goals
   exact dm (CY hk K.1) (fun r5 L=>Qs _ o (fun J' O=>p _ _ _ _ L.1 L.2 O))
theorem VL{b:List Int}{m:Int}(hb:b.length<=1048576)(hm:0<=m):Dr (qs k (b,m,())) (fun r=>0<=r.1/\r.1<=1048576/\(r.1<=m\/m<0)):=by
 simp only[qs]
 have a:Int.tdiv (b.length:Int) 12=((b.length/12:Nat):Int):=by
  rw[Int.tdiv_eq_ediv_of_nonneg (by omega)];rfl
 rw[a,wrap64 (n:=((b.length/12:Nat):Int)) (by omega) (by omega),wrap64 (by omega) (by omega)];refine nI (by decide) (fx (fun h=> ?_) (fun h=> ?_));have h:m<3+((b.length/12:Nat):Int):=by simpa using h
 exact fj ⟨hm,by dsimp only;omega,.inl (akE _)⟩;have h:¬m<3+((b.length/12:Nat):Int):=by simpa using h
 exact fj ⟨by dsimp only;omega,by dsimp only;omega,.inl (by dsimp only;omega)⟩
end
def ND(hi:List ax)(gs:List au):Prop:=
 ∀pre d post,hi=pre++d::post->d.1=7->¬oc d=3->(∃e∈post,V0 e (YR d) d.2.2.1)\/U5 gs (YR d) d.2.2.1
structure Md(w:ah):Prop where
 opg:oh (bE w)
 cnt:(fu (bE w)).foldl (rY w.1.2.1) (some 0)=some (bm (mi w):Int)
 nd:ND (fu (bE w)) (gQ w)
theorem aaC{hi news:List ax}{gs a:List au}(h:ND hi gs)(g:P2 gs a news):ND (hi++news) a:=by
 intro pre d post e h7 f;rcases List.append_eq_append_iff.1 e with⟨m,o,b⟩|⟨m,o,b⟩;have j:d∈news:=by rw[b];exact akx _ (akG ..)
 exact .inr (g.2 d j h7 f);cases m with
 |nil=>
  have j:d∈news:=by
   have p:news=d::post:=by simpa using b.symm
   rw[p];exact akG ..
  exact .inr (g.2 d j h7 f)
 |cons x m=>
  rw[List.cons_append]at b;obtain⟨rfl,rfl⟩:=List.cons.inj b;rcases h pre d m o h7 f with⟨x,l,n⟩|hm;exact .inl ⟨x,aky _ l,n⟩;rcases g.1 _ _ hm with hm|⟨x,l,n⟩;exact .inr hm;exact .inl ⟨x,akx _ l,n⟩
theorem ry(r:Bool×ah):(bT r).2.1=r.2.1:=by
 unfold bT;split<;>rfl
theorem ZM{k:Nat}{w:ah}{i:Nat}:(qX true k w i).2.1=w.1:=by
 obtain⟨c,ti,j_,st,m_,k_,gr,f_,nn,i_,n_,l_,h_,g_⟩:=w;unfold qX;split
 ·unfold cN;rw[ry];unfold ux fF;dsimp only
  repeat' split
  all_goals rfl
 split
 ·unfold pU;rw[ry];unfold AE oo ig fF;dsimp only
  repeat' split
  all_goals rfl
 split
 ·unfold im;rw[ry];unfold vo fF;dsimp only
  repeat' split
  all_goals rfl
 split
 ·unfold jZ;rw[ry];unfold lj jl;dsimp only
  repeat' split
  all_goals rfl
 split
 ·unfold iq;rw[ry];unfold jg jl;dsimp only
  repeat' split
  all_goals rfl
 rfl
theorem ZO{k:Nat}{w:ah}{e:cM}:(sF k w e).2.1=w.1:=by
 unfold sF;split;split;dsimp only;split<;>rfl;rfl;split;split<;>rfl;split;split<;>rfl;split;split<;>rfl;split;split;exact ZM;rfl;split;split<;>rfl;split;split<;>rfl;rfl
theorem aaD{k:Nat}{w:ah}{e:cM}{n:Nat}(h:cw k w=true)(d:yD n w)(hn:n<=160)(f:(sF k w e).1=true)(hi:Md w):Md (sF k w e).2:=by
 have g:0<=w.2.1:=by
  obtain⟨c,ti,j_,st,m_,k_,gr,f_,nn,i_,n_,l_,h_,g_⟩:=w;exact(cr.1 h).ti0
 obtain⟨news,a,j,l⟩:=ZP h (fun p b=>by have:=d.ver p b;omega) f;refine⟨aav g hi.opg,?_,?_⟩;rw[a,akC,ZO,hi.cnt];exact j;rw[a];exact aaC hi.nd l
theorem Z7{c:bo}(hc:dU c=true):Md (n7 c):=by
 have g:0<=c.1/\c.1<=3/\1<=c.1:=by
  unfold dU bw at hc;simp only[A_,b_]at hc;omega
 have h:gJ c.1=akv c.1.toNat (-1,0,[]):=by
  unfold gJ;simp[g]
 have b:bm (gJ c.1)=0:=by
  rw[h]
  have:cK (akv c.1.toNat ((-1,0,[]):aq))=[]:=by
   refine akL.2 fun a j=> ?_;obtain⟨p,m,ch,f,_⟩:=MV.1 j;rw[(akH.1 m).2]at f;exact absurd f (ak5)
  unfold bm;rw[this];rfl
 unfold n7;rw[an hc];refine⟨fun d l=>(by cases l),?_,fun pre d post e=> ?_⟩;show some (0:Int)=some ((bm (gJ c.1):Nat):Int);rw[b];rfl;have e:([]:List ax)=pre++d::post:=e;simp at e
section
variable{k:Nat}(hk:9223372036854775808<=k)
include hk
set_option maxHeartbeats 8000000 in
theorem TU{c:aP}{m:Int}{P:ah->Prop}(q:∀c,dU c=true->P (n7 c))(he:∀w e n,cw k w=true->yD n w->n<=160->(sF k w e).1=true->P w->P (sF k w e).2)
 (hc:bG c) (hm:m<=1000):Dr (qv k (c,m,())) (fun r=>(KC k r.2.2.1/\P r.2.2.1)/\bG r.2.2.2.1):=by
 simp only[qv];refine dm (UO hk hc) (fun r1 b=> ?_);obtain⟨h,j⟩:=VD hk b.2;have hsz:=KS hk h j (by omega);have hcs:=(qw hk b.2).1;refine En (GY hk (by omega)) (En (IA hk (by dsimp only;omega)) ?_);refine Qs (fun t:aP×ah×ah×List cM×ah×ah×Unit=>bG t.1/\KC k t.2.2.2.2.2.1/\P t.2.2.2.2.2.1) (fun t f=>fj ⟨f.2,f.1⟩) (fun J o=> ?_);refine dm (dC hk b.1) (fun r6 h6=> ?_)
 refine Vz (fun t:aP×ah×ah×List cM×ah×ah×Int×Unit=>t.2.2.2.2.2.2.1.toNat)
  (fun t=>bG t.1/\cw k t.2.2.2.2.2.1=true/\P t.2.2.2.2.2.1/\yD t.2.2.2.1.length t.2.2.2.2.2.1/\t.2.2.2.1.length<=160/\t.2.2.2.2.2.2.1<=2000/\-1<=t.2.2.2.2.2.2.1) ?_ ⟨h6.1,h,q _ b.2,j,by simp,?_,?_⟩ ?_
 rintro G ⟨c8,w1,w2,l,w3,w,i,u⟩ ⟨q1,q2,q0,q3,q4,q5,q6⟩ hG;dsimp only at q1 q2 q0 q3 q4 q5 q6 hG|-;refine fx (fun a=> ?_) (fun _=>o _ ⟨q1,⟨q2,_,q4,q3⟩,q0⟩)
 have a:0<i/\(l.length:Int)<160:=by
  by_cases d:(0:Int)<i;rw[an (by simpa using d)]at a;exact⟨d,by simpa using a⟩;rw[a_ (by simpa using d)]at a;cases a
 refine dm (Uq hk q1 q2) (fun p h9=>nI (c_ (by simp only[akW];omega)) ?_);have s:=KS hk q2 q3 q4;refine En (IA hk (by omega)) (En (NY hk (Nat.le_trans s (by decide)) q2 (by have:=h9.1.1;omega) (by have:=h9.1.2;omega)) ?_);have v:IntKind.i64.wrap (i-1)=i-1:=wrap64 (by omega) (by omega);rw[v];have hlen:(l++[p.1]).length=l.length+1:=by simp
 refine fx (fun g=> ?_) (fun _=> ?_);obtain⟨g1,g2⟩:=Xf hk q2 q3 q4 h9.1.1 g;exact hG _ ⟨h9.2,g1,he _ _ _ q2 q3 q4 g q0,by dsimp only;rw[hlen];exact g2,by dsimp only;rw[hlen];omega,by dsimp only;omega,by dsimp only;omega⟩ (by dsimp only;omega);refine hG _ ⟨h9.2,q2,q0,?_,by dsimp only;rw[hlen];omega,by dsimp only;omega,by dsimp only;omega⟩ (by dsimp only;omega);dsimp only;rw[hlen];exact Ex.stay q3;have:=h6.2;dsimp only;rw[wrap64 (by omega) (by omega)];omega;have:=h6.2;dsimp only;rw[wrap64 (by omega) (by omega)];omega;have:=h6.2;dsimp only;rw[wrap64 (by omega) (by omega)];omega
theorem Qj{c:aP}{m:Int}(hc:bG c)(hm:m<=1000):Dr (nP k (c,m,())) (fun r=>(KC k r.1/\Md r.1)/\bG r.2.1):=by
 simp only[nP];obtain⟨r,e,h⟩:=TU hk (P:=Md) (fun c hc=>Z7 hc) (fun w e n h a b d f=>aaD h a b d f) hc hm;rw[e,G5];exact⟨_,rfl,h⟩
theorem NV{b:List Int}(d:b.length<=1048576):Dr (mV k (b,())) (fun r=>KC k r.1/\Md r.1):=by
 simp only[mV];obtain⟨r1,e,f⟩:=Yi hk d;rw[e,G5];obtain⟨a,g,h2⟩:=VL hk (m:=110) d (by decide);rw[g,G5];have hw:IntKind.i64.wrap (40+a.1)=40+a.1:=wrap64 (by omega) (by omega);rw[hw];obtain⟨r3,h,j⟩:=Qj hk f (show 40+a.1<=1000 by omega);rw[h,G5];exact⟨_,rfl,j.1⟩
theorem XW{w:ah}(h:KC k w):ag aF w<=1000000:=by
 obtain⟨a,n,b,d⟩:=h;exact KS hk a d b
theorem V6{w:ah}(h:ag aF w<=1000000):(bE w).length<=1000000/\ag (.sl ay) (bE w)<=1000000/\ag (.sl aj) (mi w)<=1000000/\ag (.sl ak) (gQ w)<=1000000:=by
 have h1:=kR hk w;have h2:=aA (e:=ay) (l:=bE w);have h3:ag (.sl ay) (bE w)<=ag aF w:=by unfold bE;omega
 have h4:ag (.sl aj) (mi w)<=ag aF w:=by unfold mi;omega
 have h5:ag (.sl ak) (gQ w)<=ag aF w:=by unfold gQ;omega
 omega
omit hk in
theorem Xh{l:List ax}{i:Nat}(h:i<(fX l).length):0<=(fX l).getD i 0/\(fX l).getD i 0<(l.length:Int):=by
 have hm:(fX l).getD i 0∈fX l:=bR h;have:=SH l l.length _ ((gF (oT l) (idxs l l.length)).mem_iff.1 hm);exact⟨this.1,this.2.1⟩
theorem GI(x:List Int):gH k (x,())=some (true,()):=by
 have key:Dr (gH k (x,())) (fun r=>r.1=true):=by
  simp only[gH];have v:AH k (x,())=some (decide ((x.length:Int)>1048576),()):=rfl;refine En v (fx (fun _=>fj rfl) (fun q=> ?_))
  have q:x.length<=1048576:=by have:¬(x.length:Int)>1048576:=by simpa using q
                               omega
  refine dm (NV hk q) (fun X N=> ?_);obtain⟨w,u⟩:=X;dsimp only at N|-;obtain⟨K,z⟩:=N;have Z:=XW hk K;obtain⟨d1,d2,d3,d4⟩:=V6 hk Z;refine En (O5 hk (l:=bE w) (by omega)) ?_;have hol:=TM hk (l:=bE w);refine Qs (fun t:ah×Int×Unit=>t.1=w/\t.2.1=(bm (mi w):Int)) ?_ (fun J Y=> ?_);rintro⟨d,n,u1⟩ ⟨q1,q2⟩;dsimp only at q1 q2|-;subst q1;refine En (KB hk (by omega)) ?_;rw[K.1];refine En (a:=((bm (mi d):Int),())) (wN hk (l:=mi d) (by omega)) (fj ?_);show(n==(bm (mi d):Int))=true;rw[q2];simp
  refine Vz (fun t:ah×List Int×Int×Int×Unit=>(((fX (bE w)).length:Int)-t.2.2.2.1).toNat)
   (fun t=>t.1=w/\t.2.1=fX (bE w)/\0<=t.2.2.2.1/\t.2.2.2.1<=((fX (bE w)).length:Int)/\((fu (bE w)).take t.2.2.2.1.toNat).foldl (rY w.1.2.1) (some 0)=some t.2.2.1) ?_
   ⟨rfl,rfl,akE _,by dsimp only;omega,rfl⟩ (by dsimp only;omega)
  rintro G ⟨d,l,n,i,u1⟩ ⟨q1,q2,q3,q4,q5⟩ hG;dsimp only at q1 q2 q3 q4 q5 hG|-;subst q1 q2;refine fx (fun h=> ?_) (fun s=>Y _ ⟨rfl,?_⟩);have h:i<((fX (bE d)).length:Int):=by simpa using h
  have P:i.toNat<(fX (bE d)).length:=by omega
  have A:=Xh P;obtain⟨Q,g1,g2⟩:=MU z.cnt P q5;obtain⟨R,a2,a3,a4,a5⟩:=Tb g2;refine nI (c_ ⟨q3,h⟩) (nI (c_ A) ?_);obtain⟨D,L⟩:∃D,Ht (bE d) i.toNat=D:=⟨_,rfl⟩
  rw[L]at R a2 a3;have B:akS d.2.2.2.2.2.2.2.2.2.2.2.2.2 (ak9 (akS (fX (bE d)) (ak9 i) 0)) ay.aa=D:=L;simp only[B];refine Qs (fun t:ah×List Int×Int×Int×Unit=>t.1=d/\t.2.1=fX (bE d)/\t.2.2.1=Q/\t.2.2.2.1=i) ?_ (fun J' j=> ?_);rintro⟨w2,l2,S,i2,u2⟩ ⟨T,U,V,W⟩;dsimp only at T U V W|-;subst T U V W;refine fx (fun O=> ?_) (fun _=> ?_);exfalso;by_cases h0:S<0;omega;rw[a_ (by simpa using h0)]at O;have:S>w2.1.2.1:=by simpa using O
  omega;have ew:IntKind.i64.wrap (i2+1)=i2+1:=wrap64 (by omega) (by omega);rw[ew];refine hG _ ⟨rfl,rfl,by dsimp only;omega,by dsimp only;omega,?_⟩ (by dsimp only;omega);dsimp only;rw[show(i2+1).toNat=i2.toNat+1 by omega];exact g1;have hop:D.1=D.1:=rfl
  have y:(jm D).length<=1000000:=by
   have h6:Ht (bE d) i.toNat∈bE d:=bR (by omega);rw[L]at h6;have h7:=dK (e:=ay) h6;rw[ek hk]at h7;have h8:=aA (e:=ab) (l:=jm D);have h9:ag (.sl ab) (jm D)<=ag (.sl ay) (bE d):=by unfold jm;omega
   omega
  have hn01:0<=n/\n<=1000000:=by
   by_cases hz:i.toNat=0;rw[hz,List.take_zero]at q5;have:(0:Int)=n:=akK q5;omega;obtain⟨n0,M⟩:=SE z.cnt (i.toNat-1);obtain⟨n1,m1,m2⟩:=MU z.cnt (i:=i.toNat-1) (by omega) M;rw[show i.toNat-1+1=i.toNat by omega,q5]at m1;have:n=n1:=akK m1;have m3:=Tb m2
   have hcap:d.1.2.1<=8:=by
    have C:=K.1;obtain⟨c,ti,j_,st,m_,k_,gr,f_,nn,i_,n_,l_,h_,g_⟩:=d;exact(qw hk (cr.1 C).cf).2.2.2.1
   omega
  refine fx (fun f=> ?_) (fun f=> ?_);by_cases g:D.1=1;rw[an (by simpa using g)]at f;have f:D.2.2.2.2.2.2.1=1:=by simpa using f
  have f:oc D=1:=f;rw[an ⟨g,f⟩]at a3;rw[wrap64 (by omega) (by omega)];exact j _ ⟨rfl,rfl,a3.symm,rfl⟩;rw[a_ (by simpa using g)]at f;cases f
  have E:¬(D.1=1/\oc D=1):=by
   rintro⟨e1,e2⟩;rw[an (by simpa using e1)]at f;have:¬D.2.2.2.2.2.2.1=1:=by simpa using f
   exact this e2
  rw[a_ E]at a3;refine fx (fun m=> ?_) (fun m=> ?_);exfalso;by_cases g:D.1=1;by_cases F:oc D=3;have H:D.2.2.2.2.2.2.1=3:=F;rw[g,H]at m;have m:¬n=d.1.2.1:=by simpa using m
  exact R ⟨g,F,m⟩;have H:¬D.2.2.2.2.2.2.1=3:=F;simp[g,H]at m;simp[g]at m;refine fx (fun o=> ?_) (fun o=> ?_);have o:D.1=5:=by simpa using o
  rw[an o]at a3
  have e5:IntKind.i64.wrap (n-((akD D.2.2.2.2.2.2.2.1:Nat):Int))=Q:=by
   rw[a3];exact wrap64 (by unfold jm at y;omega) (by unfold jm at y;omega)
  rw[e5];exact j _ ⟨rfl,rfl,rfl,rfl⟩;have o:¬D.1=5:=by simpa using o
  rw[a_ o]at a3;refine fx (fun p=> ?_) (fun p=>j _ ⟨rfl,rfl,a3.symm,rfl⟩);exfalso;by_cases I:D.1=4;rw[an (by simpa using I)]at p;have p:¬((jm D).length:Int)=n:=by simpa[bne_iff_ne,jm]using p
  exact a2 ⟨I,p⟩;rw[a_ (by simpa using I)]at p;cases p;have s:¬i<((fX (bE d)).length:Int):=by simpa using s
  have e:i.toNat=(fu (bE d)).length:=by rw[CT];omega
  rw[e,akP,z.cnt]at q5;exact(akK q5).symm
 obtain⟨⟨b,u⟩,e,q⟩:=key;rw[e];dsimp only at q;rw[q]
theorem Jo{x:List Int×Unit}(hx:Fits (.sl (.int .u8)) x.1):gH k x=some (true,()):=GI hk x.1
end
end Vg.Tryz
namespace Go.Proofs.YtgikmhjpcnnhjaaGreat.fnNoneTooMany
open Go.ChangeShapes Go.WideShapes Go.ChangeAt Go.RowKit Vg
theorem laid:laidOutB Tryz.prog=true:=by kernel_rfl
theorem e_9:(Rows.fnNoneTooManyRow.inPlace==Program.inPlace Tryz.prog 10)=true:=by kernel_rfl
theorem abQ:(Rows.fnNoneTooManyRow.unfollowed==Program.unfollowed Tryz.prog 10)=true:=by kernel_rfl
theorem abW:(Rows.fnNoneTooManyRow.recurses==Program.recurses Tryz.prog 10)=true:=by kernel_rfl
theorem abU:(Rows.fnNoneTooManyRow.named==Program.varsNamed Tryz.prog 10)=true:=by kernel_rfl
theorem ab3:(Rows.fnNoneTooManyRow.plainKeys==Program.plainKeys Tryz.prog)=true:=by kernel_rfl
theorem ab4:Program.stopsHeard Tryz.prog=true:=by kernel_rfl
theorem abN:Program.mayEnter Tryz.prog=true:=by kernel_rfl
theorem abS:(Rows.fnNoneTooManyRow.lifted==Program.liftsFinal Tryz.prog)=true:=by kernel_rfl
theorem abX:(Program.make Tryz.prog==some Rows.fnNoneTooManyRow.make)=true:=by kernel_rfl
theorem facts:joinedFacts Tryz.prog 10 Tryz.f10 Rows.fnNoneTooManySpec Rows.fnNoneTooManyRow=true:=by
 unfold joinedFacts;simp only[A_]
 repeat' apply And.intro
 kernel_rfl
 exact laid
 kernel_rfl
 kernel_rfl
 kernel_rfl
 kernel_rfl
 kernel_rfl
 kernel_rfl
 kernel_rfl
 exact e_9;exact abQ;exact abW;exact abU
 kernel_rfl
 kernel_rfl
 kernel_rfl
 kernel_rfl
 kernel_rfl
 kernel_rfl
 kernel_rfl
 kernel_rfl
 kernel_rfl
 exact ab3
 kernel_rfl
 exact ab4;exact abN;exact abS;exact abX
 kernel_rfl
 kernel_rfl
 kernel_rfl
 kernel_rfl
end Go.Proofs.YtgikmhjpcnnhjaaGreat.fnNoneTooMany
