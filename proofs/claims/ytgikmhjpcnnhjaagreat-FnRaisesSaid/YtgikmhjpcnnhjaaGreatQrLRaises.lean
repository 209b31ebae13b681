/- Texts of this law, joined. -/
import Derived.Test.YtgikmhjpcnnhjaaGreatQrSB
import Derived.Test.YtgikmhjpcnnhjaaGreatRows
import Derived.Test.YtgikmhjpcnnhjaaGreatVc
set_option linter.unusedSimpArgs false
set_option linter.unusedVariables false
set_option linter.unusedSectionVars false
set_option linter.defProp false
open List renaming length -> aHZ,length_singleton -> aH2,length_append -> aH4,length_set -> aH5
open Bool renaming and_eq_true -> aH0,false_eq_true -> aH3
open Option renaming bind_some -> aH1
namespace Vg.Tryz
open Go Vg
theorem alC{p q:Nat->Bool}:∀n,(∀j,j<n->p j=q j)->OD p n=OD q n
 |0,_=>rfl
 |n+1,h=>by
  unfold OD;rw[alC n (fun j hj=>h j (by omega)),h n (by omega)]
theorem ald{p q:Nat->Bool}{i:Nat}(a:p i=false)(b:q i=true):∀n,i<n->(∀j,j<n->¬j=i->p j=q j)->OD q n=OD p n+1
 |0,hi,_=>by omega
 |n+1,hi,h=>by
  unfold OD;by_cases e:i=n;subst e;rw[alC i (fun j c=>h j (by omega) (by omega)),a,b];rfl;rw[ald a b n (by omega) (fun j c d=>h j (by omega) d),h n (by omega) (by omega)];omega
def aoc{l:List aF}{i:Nat}{t:aF}(a:i<l.length)(c:(l.getD i ak.aa).1=0)(d:¬t.1=0):OD (yo (l.set i t)) (l.set i t).length=OD (yo l) l.length+1:=by
 rw[aH5];refine ald (i:=i) ?_ ?_ l.length a (fun j hj b=> ?_);unfold yo;rw[c_ c];rfl;unfold yo;rw[aT _ _ a,decide_eq_false d];rfl;unfold yo;rw[getD_set_ne _ _ (fun e=>b e.symm)]
section
variable{k:Nat}(Q:9223372036854775808<=k)
include Q
def aea{w:ag}{i:Int}{t:aF}{op:Int}(a:i.toNat<(bF w).length):af az (fk w i t op)<=af az w+af ak t+(af ab t.2.2.1+af (.sl al) t.2.2.2.1+1):=by
 refine Yw Q ?_ ?_;have h1:=ij (e:=ak) (bF w) i.toNat (om t (bV w).length) a;have h2:af ak (om t (bV w).length)=af ak t:=by rw[bw Q,bw Q];rfl
 omega;refine pg Q ?_;have e:af aw (opened w i op t.2.2.1 t.2.2.2.1 t.2.2.2.2.2.2.2.1)=af ab t.2.2.1+af (.sl al) t.2.2.2.1+af (.sl ab) ([]:List ae):=bN Q _;rw[e,aX];omega
def anR{a:ae}:af ak (pA a)=af ab a:=by
 have e:af ak (pA a)=af ab a+af (.sl al) ([]:List ai)+af (.sl (.int .i64)) ([]:List Int)+af (.sl ab) ([]:List ae):=bw Q _;rw[e,aX,aX,aX];rfl
def am9{w:ag}{i:Int}{a:ae}(ha:af ab a<=400):af az (Kg k w i a)<=af az w+1000:=by
 unfold Kg;by_cases b:qu k w i=true;rw[an b];unfold qu at b;simp only[aH0]at b;obtain⟨q1,q2,q3⟩:=rW b.2;by_cases c:cw a=true;rw[an c];have d:=aea Q (w:=w) (i:=i) (t:=pA a) (op:=1) q3;rw[anR Q]at d;have e:af (.sl al) (pA a).2.2.2.1=0:=aX;have e2:af ab (pA a).2.2.1=af ab a:=rfl;omega;rw[a_ c]
 have d:af az (refused w i a)<=af az w+0+500:=Yw Q (by omega) (pg Q (by
  have e:af aw ((1,i,a,[],0,0,4,[],w.2.2.1,w.2.1,w.2.1,w.2.1):aC)=af ab a+af (.sl al) ([]:List ai)+af (.sl ab) ([]:List ae):=bN Q _;rw[e,aX,aX];omega))
 omega;rw[a_ b];omega
theorem akH{w:ag}{i:Int}{a:ae}(c:qu k w i=true)(d:(bF w).length=5):∃D:aC,(Kg k w i a).2.1=IntKind.i64.wrap (w.2.1+1)/\(Kg k w i a).2.2.2.2.2.2.2.2.2.2.2.2.2=w.2.2.2.2.2.2.2.2.2.2.2.2.2++[D]/\
 (Kg k w i a).2.2.2.1=w.2.2.2.1/\D.2.2.1=a/\
 (cw a=true->D.2.2.2.2.2.2.2.2.2.2.1= -1/\(Kg k w i a).2.2.2.2.2.2.2.2.2.2.2.2.1.length=5/\((Kg k w i a).2.2.2.2.2.2.2.2.2.2.2.2.1.getD i.toNat ak.aa).1=1/\Qp (Kg k w i a)=Qp w+1)/\
 (cw a=false->D.2.2.2.2.2.2.1=4/\Qp (Kg k w i a)=Qp w):=by
 have hc:=c;unfold qu at hc;simp only[aH0]at hc;obtain⟨q1,q2,q3⟩:=rW hc.2;unfold Kg;rw[an c];by_cases b:cw a=true;rw[an b];refine⟨opened w i 1 a [] 0,rfl,rfl,rfl,rfl,fun _=>⟨rfl,?_,?_,?_⟩,fun h=>by rw[b]at h;cases h⟩;show((bF w).set i.toNat _).length=5;rw[aH5];exact d;show(((bF w).set i.toNat _).getD i.toNat ak.aa).1=1;rw[aT _ _ q3];rfl
 have e:((bF w).getD i.toNat ak.aa).1=0:=by
  have:=hc.2;unfold cP qv at this;simp only[aH0,b_]at this;exact this.2.2
 have:=aoc (l:=bF w) (t:=om (pA a) (bV w).length) q3 e (by show¬(1:Int)=0;decide);show((OD (yo ((bF w).set i.toNat (om (pA a) (bV w).length))) ((bF w).set i.toNat (om (pA a) (bV w).length)).length:Nat):Int)=_;rw[this];unfold Qp;omega;rw[a_ b];exact⟨(1,i,a,[],0,0,4,[],w.2.2.1,w.2.1,w.2.1,w.2.1),rfl,rfl,rfl,rfl,fun h=>absurd h b,fun _=>⟨rfl,rfl⟩⟩
set_option maxHeartbeats 4000000 in
def ak7(x:List Int):RR k (x,())=some (true,()):=by
 have key:Dr (RR k (x,())) (fun r=>r.1=true):=by
  simp only[RR];have f:xX k (x,())=some (decide ((x.length:Int)>1048576),()):=rfl;refine fc f (bm (fun _=>bl rfl) (fun d=> ?_))
  have d:x.length<=1048576:=by have:¬(x.length:Int)>1048576:=by simpa using d
                               omega
  refine aS (aj4 Q d) (fun F z=> ?_);obtain⟨w,i,a,u2⟩:=F;dsimp only at z|-;obtain⟨C,K⟩:=z;have hw:=C.tt;have hxt:=am9 Q (w:=w) (i:=i) K;refine fc (aje Q (by omega) (by omega)) (fc (ajf Q (by omega) (by omega)) ?_);simp only[beq_self_eq_true,Bool.not_true,if_true,pw Q (show af az (Kg k w i a)<=1048576 by omega),aH1,aH3,if_false];cases c:qu k w i with
  |false=>
   have e:Kg k w i a=w:=by unfold Kg;rw[a_ (by rw[c];decide)]
   simp only[e,Bool.not_false,if_true,pw Q (show af az w<=1048576 by omega),aH1];exact bl rfl
  |true=>
   have g:bC k w=true:=by unfold qu at c;simp only[aH0]at c;exact c.1
   have G:=T8 g;have n:=akL (i:=i) (a:=a) g (by have:=C.ti;omega);obtain⟨q1,q2,q3⟩:=rW (w:=w) (i:=i) (by unfold qu at c;simp only[aH0]at c;exact c.2);obtain⟨D,L,N,P,R,S,W⟩:=akH Q (a:=a) c G;have h:=Px Q (w:=Kg k w i a) (by omega);have j:=lC Q (w:=Kg k w i a) (by omega);generalize Kg k w i a=y at*
   have hdl:=ay (e:=aw) (l:=w.2.2.2.2.2.2.2.2.2.2.2.2.2)
   have hdt:af (.sl aw) w.2.2.2.2.2.2.2.2.2.2.2.2.2<=1048576:=by
    have:=da Q w;omega
   have o:af (.sl ah) w.2.2.2.1<=1048576:=by
    have:=da Q w;omega
   have H:IntKind.i64.wrap (((aHZ (w.2.2.2.2.2.2.2.2.2.2.2.2.2++[D]):Nat):Int)-1)=((aHZ w.2.2.2.2.2.2.2.2.2.2.2.2.2:Nat):Int):=by
    have I:((aHZ (w.2.2.2.2.2.2.2.2.2.2.2.2.2++[D]):Nat):Int)=((aHZ w.2.2.2.2.2.2.2.2.2.2.2.2.2:Nat):Int)+1:=by rw[aH4,aH2];rfl
    rw[I,wrap64 (by omega) (by omega)];omega
   have el:IntKind.i64.wrap (((aHZ w.2.2.2.2.2.2.2.2.2.2.2.2.2:Nat):Int)+1)=((aHZ (w.2.2.2.2.2.2.2.2.2.2.2.2.2++[D]):Nat):Int):=by
    rw[wrap64 (by omega) (by omega),aH4,aH2];rfl
   have J:List.getD (w.2.2.2.2.2.2.2.2.2.2.2.2.2++[D]) (aHZ w.2.2.2.2.2.2.2.2.2.2.2.2.2) aw.aa=D:=re _;have p:decide (0<=((aHZ w.2.2.2.2.2.2.2.2.2.2.2.2.2:Nat):Int)/\((aHZ w.2.2.2.2.2.2.2.2.2.2.2.2.2:Nat):Int)<((aHZ (w.2.2.2.2.2.2.2.2.2.2.2.2.2++[D]):Nat):Int))=true:=c_ (by rw[aH4,aH2];omega)
   have q:bW k (a,a,())=some (true,()):=by
    rw[ee Q (gE Q (by omega))];simp
   simp only[L,N,P,H,el,J,p,Int.toNat_natCast,R,j,n,aH1,Bool.not_true,aH3,if_false,if_true,bne_self_eq_false,beq_self_eq_true,q,EE Q o,xB Q (show af ab a<=1048576 by omega)];have m:=Px Q (w:=w) (by omega)
   have hbn:0<=Qp w/\Qp w<=5:=by
    have:=Wm (yo (bF w)) (bF w).length;unfold Qp;omega
   cases B:cw a with
   |true=>
    obtain⟨t,v,X,Y⟩:=S B;have s:decide (0<=i/\i<((5:Nat):Int))=true:=c_ (by omega);simp only[t,v,X,s,beq_self_eq_true,if_true,Bool.or_true,h,m,aH1,Y];rw[wrap64 (by omega) (by omega)];exact bl (by simp)
   |false=>
    obtain⟨t,v⟩:=W B;simp only[t,beq_self_eq_true,if_true,aH3,if_false,h,m,aH1,v];exact bl rfl
 obtain⟨⟨b,u⟩,e,d⟩:=key;rw[e];dsimp only at d;rw[d]
def amv{x:List Int×Unit}(hx:Fits (.sl (.int .u8)) x.1):RR k x=some (true,()):=ak7 Q x.1
end
end Vg.Tryz
namespace Go.Proofs.YtgikmhjpcnnhjaaGreat.fnRaises
open Go.ChangeShapes Go.WideShapes Go.ChangeAt Go.RowKit Vg
def laid:laidOutB Tryz.prog=true:=by kernel_rfl
def e_9:(Rows.fnRaisesRow.inPlace==Program.inPlace Tryz.prog 5)=true:=by kernel_rfl
def ac2:(Rows.fnRaisesRow.unfollowed==Program.unfollowed Tryz.prog 5)=true:=by kernel_rfl
def abU:(Rows.fnRaisesRow.recurses==Program.recurses Tryz.prog 5)=true:=by kernel_rfl
def aaP:(Rows.fnRaisesRow.named==Program.varsNamed Tryz.prog 5)=true:=by kernel_rfl
def abv:(Rows.fnRaisesRow.plainKeys==Program.plainKeys Tryz.prog)=true:=by kernel_rfl
def abR:Program.stopsHeard Tryz.prog=true:=by kernel_rfl
def acg:Program.mayEnter Tryz.prog=true:=by kernel_rfl
def acb:(Rows.fnRaisesRow.lifted==Program.liftsFinal Tryz.prog)=true:=by kernel_rfl
def acr:(Program.make Tryz.prog==some Rows.fnRaisesRow.make)=true:=by kernel_rfl
def facts:joinedFacts Tryz.prog 5 Tryz.f5 Rows.fnRaisesSpec Rows.fnRaisesRow=true:=by
 unfold joinedFacts;simp only[aH0]
 repeat' apply And.intro
 kernel_rfl
 exact laid
 kernel_rfl
 kernel_rfl
 kernel_rfl
 kernel_rfl
 kernel_rfl
 kernel_rfl
 kernel_rfl
 exact e_9;exact ac2;exact abU;exact aaP
 kernel_rfl
 kernel_rfl
 kernel_rfl
 kernel_rfl
 kernel_rfl
 kernel_rfl
 kernel_rfl
 kernel_rfl
 kernel_rfl
 exact abv
 kernel_rfl
 exact abR;exact acg;exact acb;exact acr
 kernel_rfl
 kernel_rfl
 kernel_rfl
 kernel_rfl
end Go.Proofs.YtgikmhjpcnnhjaaGreat.fnRaises
