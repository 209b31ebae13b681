/- Texts of this law, joined. -/
import Derived.Test.YtgikmhjpcnnhjaaGreatQdPH
import Derived.Test.YtgikmhjpcnnhjaaGreatXd
set_option linter.unusedSimpArgs false
set_option linter.unusedVariables false
set_option linter.unusedSectionVars false
set_option linter.defProp false
open Bool renaming and_eq_true -> eD,or_eq_true -> H_,not_eq_true' -> avK,false_ne_true -> av9,false_eq_true -> awa,not_eq_true -> awh,and_assoc -> awj
open List renaming length_append -> r_,mem_singleton -> sd,mem_flatMap -> G6,mem_append -> C',mem_or_eq_of_mem_set -> avv,getD_eq_getElem?_getD -> avx,length_singleton -> avy,pairwise_singleton -> avz,flatMap_cons -> avA,pairwise_map -> avB,pairwise_append -> avC,getElem_of_mem -> avD,pairwise_iff_getElem -> avF,mem_cons_of_mem -> avG,length_set -> avI,length_nil -> avJ,mem_of_mem_drop -> avL,mem_cons_self -> avM,getElem_take -> avN,mem_of_mem_take -> avO,length_cons -> avP,getElem?_append_left -> avR,getElem_mem -> avS,length_take -> avT,eraseIdx_eq_take_drop_succ -> avU,mem_filter -> avV,flatMap_append -> avW,getElem_drop -> avY,set_eq_of_length_le -> avZ,flatMap_def -> av0,length_drop -> av1,take_append_drop -> av3,eraseIdx_sublist -> av4,mem_append_right -> av5,mem_append_left -> av6,getD_cons_zero -> av7,getD_cons_succ -> av8,set_cons_zero -> awb,take_sublist -> awd,drop_sublist -> awe,ext_getElem -> awf,filter_cons -> awg
open Int renaming le_refl -> kk,toNat_natCast -> avE
open Option renaming bind_some -> avw
open Nat renaming le_trans -> avH,le_refl -> avQ,zero_le -> av2,lt_or_gt_of_ne -> awc,strongRecOn -> awi
open Iff renaming rfl -> avX
namespace Vg.Tryz
open Go Vg
def pz(V:List aF)(U:Int):Bool:=decide (0<V.length)&&decide ((V.getD 0 aE.aa).1<=U)
def qH(n h:Int):aG:=(6,0,bU,[],0,[],[],n,h)
def u7(n U ti:Int):aA:=(8,4,bU,[],0,n,0,[],U,ti,-1,-1)
def sT(c:aY)(V:List aF)(A:List aw)(n:Int):List aF:=
 match dW A n with
 |some i=>tf V (ik c (A.getD i al.aa),n)
 |none=>V
def eX(s:Bool)(k:Nat)(w:ah):Bool×ah:=
 match w with
 |(c,ti,U,st,m_,Z,gr,A,nn,V,n_,l_,O,T)=>
  let t:=O.getD 4 aq.aa
  let n:=(bm t).toNat
  let d:=T.getD n ay.aa
  if t.1=0 then
   (if pz V U=true then(true,(c,ti,U,st,m_,Z,gr,A,nn,(dS V).1,n_,l_,O.set 4 (qH (dS V).2.1.2 T.length),T++[u7 (dS V).2.1.2 U ti]))else(false,w))
  else if t.2.1=0 then iy w 4
  else if kf A t.2.2.2.2.2.2.2.1=true then
   (true,(c,ti,U,st,m_,Z,-1,dm A t.2.2.2.2.2.2.2.1 U,nn,sT c V (dm A t.2.2.2.2.2.2.2.1 U) t.2.2.2.2.2.2.2.1,n_++[gj A t.2.2.2.2.2.2.2.1 U],l_,O.set 4 zT,
    T.set n (eC s true d U ti 8 (gj A t.2.2.2.2.2.2.2.1 U).2.2.2)))
  else(true,(c,ti,U,st,m_,Z,-1,A,nn,V,n_,l_,O.set 4 zT,T.set n (eC s false d U ti 6 [])))
def fq(s:Bool)(k:Nat)(w:ah):Bool×ah:=bC (eX s k w)
section
variable{k:Nat}(hk:9223372036854775808<=k)
include hk
variable{c:aY}{ti U gr nn:Int}{st:List au}{m_:List bo}{Z l_:List af}{A:List aw}{V:List aF}{n_:List bq}{O:List aG}{T:List aA}
theorem yG{w:ah}:kA k (w,())=some (pz w.2.2.2.2.2.2.2.2.2.1 w.2.2.1,()):=by
 simp only[kA,pz];by_cases h:0<w.2.2.2.2.2.2.2.2.2.1.length;have a:decide (((w.2.2.2.2.2.2.2.2.2.1.length:Nat):Int)>0)=true:=c_ (by omega);have b:decide ((0:Int)<=0/\(0:Int)<((w.2.2.2.2.2.2.2.2.2.1.length:Nat):Int))=true:=c_ ⟨by omega,by omega⟩;simp[a,b,h];have a:decide (((w.2.2.2.2.2.2.2.2.2.1.length:Nat):Int)>0)=false:=decide_eq_false (by omega);simp[a,h]
set_option maxHeartbeats 8000000 in
def Ao{n:Nat}{t:aG}{d:aA}(hs:ai aD (c,ti,U,st,m_,Z,gr,A,nn,V,n_,l_,O,T)<=1048576)(hi:4<O.length)(f:O.getD 4 aq.aa=t)(o:t.1=6)(g:t.2.1=1)
 (p:n<T.length) (j:bm t=(n:Int)) (m:T.getD n ay.aa=d):
 kK k ((c,ti,U,st,m_,Z,gr,A,nn,V,n_,l_,O,T),())=
  some ((eX true k (c,ti,U,st,m_,Z,gr,A,nn,V,n_,l_,O,T)).2,()):=by
 have hsum:=eV hk hs;have hdl:=az (e:=ay) (l:=T);have hgl:=az (e:=al) (l:=A);have hhl:=az (e:=aE) (l:=V);have hsl:=az (e:=cw) (l:=n_);have h:decide ((0:Int)<=4/\(4:Int)<(O.length:Int))=true:=c_ ⟨by omega,by omega⟩;unfold eX;simp only[f,j,m,o,g,avE];rw[a_ (show¬(6:Int)=0 by decide),a_ (show¬(1:Int)=0 by decide)];simp only[kK,show Int.toNat 4=4 from rfl,f]
 have a:∀(A:List aw) (V:List aF) (n_:List bq) (code:Int) (got:List af),ai (.sl ae) got<=1073741824->bR k ((c,ti,U,st,m_,Z,-1,A,nn,V,n_,l_,O,T),(4:Int),code,got,())=
  some ((c,ti,U,st,m_,Z,-1,A,nn,V,n_,l_,O.set 4 zT,T.set n (oc d U ti code got)),()):=by
  intro A V n_ code got b;have:=eT (n:=n) (i:=4) (code:=code) (got:=got) (c:=c) (ti:=ti) (U:=U) (gr:= -1) (nn:=nn) (st:=st) (m_:=m_) (Z:=Z) (l_:=l_) (A:=A) (V:=V) (n_:=n_) hk hi p (by rw[f];exact j) b;rw[m]at this;exact this
 generalize hN:t.2.2.2.2.2.2.2.1=N;have hfl:=KC hk (l:=A) (n:=N) (U:=U);have hfb:=Iv hk (l:=A) (n:=N) (U:=U);have hfbt:=pK hk (gj A N U);have hfll:=az (e:=al) (l:=dm A N U);rw[an h,B6 hk (by omega),avw];dsimp only;cases hb:kf A N with
 |false=>
  rw[an (by rfl),a A V n_ 6 [] (by simp[ai]),avw,a_ av9];rfl
 |true=>
  rw[a_ (by simp),an (c_ (by simp only[avy];omega)),nQ hk (by omega),avw,an rfl];unfold sT;cases q:dW (dm A N U) N with
  |none=>
   have hc:decide (dB (none:Option Nat)>=0)=false:=rfl;dsimp only;rw[hc,a_ av9,a _ _ _ 8 _ (by omega),avw];rfl
  |some i=>
   have hc:decide (dB (some i)>=0)=true:=c_ (by show(i:Int)>=0;omega);dsimp only;rw[hc,an rfl,tV hk (by omega) (by omega) q,avw];dsimp only;rw[a _ _ _ 8 _ (by omega),avw];rfl
set_option maxHeartbeats 8000000 in
def nP{n:Nat}{t:aG}{d:aA}(hs:ai aD (c,ti,U,st,m_,Z,gr,A,nn,V,n_,l_,O,T)<=1048576)(hi:4<O.length)(f:O.getD 4 aq.aa=t)(a:t.1=0\/t.1=6/\(t.2.1=0\/t.2.1=1))
 (s:t.1=6->n<T.length) (u:bm t=(n:Int)) (v:T.getD n ay.aa=d):
 ig k ((c,ti,U,st,m_,Z,gr,A,nn,V,n_,l_,O,T),())=
  some ((fq true k (c,ti,U,st,m_,Z,gr,A,nn,V,n_,l_,O,T)).1,(fq true k (c,ti,U,st,m_,Z,gr,A,nn,V,n_,l_,O,T)).2,()):=by
 have hsum:=eV hk hs;have hdl:=az (e:=ay) (l:=T);have hhl:=az (e:=aE) (l:=V);have j:decide ((0:Int)<=4/\(4:Int)<(O.length:Int))=true:=c_ ⟨by omega,by omega⟩;simp only[ig,aN,show Int.toNat 4=4 from rfl,f];rw[an j];unfold fq;rcases a with a|⟨a,p⟩;rw[a,an (by decide),yG hk,avw];dsimp only;cases q:pz V U with
 |false=>
  have b:eX true k (c,ti,U,st,m_,Z,gr,A,nn,V,n_,l_,O,T)=(false,(c,ti,U,st,m_,Z,gr,A,nn,V,n_,l_,O,T)):=by
   unfold eX;simp only[f,a,q,if_true,awa,if_false]
  rw[b];rfl
 |true=>
  have b:eX true k (c,ti,U,st,m_,Z,gr,A,nn,V,n_,l_,O,T)=(true,(c,ti,U,st,m_,Z,gr,A,nn,(dS V).1,n_,l_,O.set 4 (qH (dS V).2.1.2 T.length),T++[u7 (dS V).2.1.2 U ti])):=by
   unfold eX;simp only[f,a,q,if_true]
  have m:eN k ((6:Int),())=some (8,()):=rfl;have r:ai ae bU=0:=by rw[bj hk];rfl
  rw[b,an rfl,Ay hk (by omega),avw]
  have w:=qy (i:=4) (t:=(6,0,bU,[],0,[],[],(dS V).2.1.2,0)) (o:=8) (c:=c) (ti:=ti) (U:=U) (gr:=gr) (nn:=nn) (st:=st) (m_:=m_) (Z:=Z) (l_:=l_) (A:=A) (V:=(dS V).1) (n_:=n_) (O:=O) (T:=T)
   hk hi (by omega) (by rw[Ot hk,r];omega) m (by dsimp only;rw[r];omega) (by simp)
  erw[w];rfl
 rw[a,a_ (by decide),an j];rcases p with g|g
 have b:eX true k (c,ti,U,st,m_,Z,gr,A,nn,V,n_,l_,O,T)=iy (c,ti,U,st,m_,Z,gr,A,nn,V,n_,l_,O,T) 4:=by
  unfold eX;simp only[f,a,g,if_true];rw[a_ (show¬(6:Int)=0 by decide)]
 have x:=rR (i:=4) (c:=c) (ti:=ti) (U:=U) (gr:=gr) (nn:=nn) (st:=st) (m_:=m_) (Z:=Z) (l_:=l_) (A:=A) (V:=V) (n_:=n_) (T:=T) hk hi;rw[g,an (by decide),b];erw[x];by_cases h:gr= -1;rw[an h,zL h];rfl;rw[a_ h,DV h];rfl;rw[g,a_ (by decide),Ao hk hs hi f a g (s a) u v,avw]
 have b:(eX true k (c,ti,U,st,m_,Z,gr,A,nn,V,n_,l_,O,T)).1=true:=by
  unfold eX;simp only[f,a,g];rw[a_ (show¬(6:Int)=0 by decide),a_ (show¬(1:Int)=0 by decide)];split<;>rfl
 unfold bC;rw[b];rfl
end
def lZ(s:Bool)(k:Nat)(w:ah)(i:Nat):Bool×ah:=
 if(((cA w).getD i aq.aa).1=1)then ia s k w i
 else if(((cA w).getD i aq.aa).1=2\/((cA w).getD i aq.aa).1=3)then kY s k w i
 else if(((cA w).getD i aq.aa).1=4)then fu s k w i
 else if i=3 then hZ s k w
 else if i=4 then fq s k w
 else(false,w)
def gM{k:Nat}{w:ah}{t:aG}{d:aA}{i:Nat}(h:cP k w t d (i:Int)=true):
 i<=4/\(t.1=0\/((t.1=1\/t.1=2\/t.1=3\/t.1=4)/\i<3)\/(t.1=5/\i=3)\/(t.1=6/\i=4)):=by
 unfold cP cW aZ at h;grind
def GF{k:Nat}{w:ah}{t:aG}{d:aA}{i:Int}(h:cP k w t d i=true)(hp:t.1≠0):
 0<=bm t/\bm t<((bG w).length:Int)/\(dN d= -1↔¬(t.1=1/\t.2.1=2))/\0<=t.2.1/\t.2.1<=2/\(t.2.1=2->t.1=1\/t.1=3):=by
 unfold cP cW aZ at h;unfold bm dN;grind
def Ku{k:Nat}{w:ah}{t:aG}{d:aA}{i:Int}(h:cP k w t d i=true)(hp:t.1=3):
 t.2.2.1=bU/\t.2.2.2.1=[]/\t.2.2.2.2.2.2.2.1=0/\0<=t.2.2.2.2.1/\(t.2.1≠2->t.2.2.2.2.1<w.1.1)/\(t.2.1=2->(t.2.2.2.2.2.1.length:Int)=w.1.1):=by
 unfold cP cW aZ mg at h;grind
def Iu{k:Nat}{w:ah}{t:aG}{d:aA}{i:Int}(h:cP k w t d i=true)(hp:t.1=4):0<=t.2.2.2.2.1/\t.2.2.2.2.1<w.1.1:=by
 unfold cP cW aZ mg at h;grind
def KF{k:Nat}{w:ah}{t:aG}{d:aA}{i:Int}(h:cP k w t d i=true)(hp:t.1=5):d.2.2.1=t.2.2.1:=by
 unfold cP cW aZ mg at h;grind
def KK{k:Nat}{w:ah}(h:kc k w=true){i:Nat}(hi:i<(cA w).length):cP k w ((cA w).getD i aq.aa) (mh w ((cA w).getD i aq.aa)) (i:Int)=true:=
 bM.1 h i (by omega) hi
def Nh{k:Nat}{w:ah}(h:bE k w=true){i:Nat}(hi:i<w.2.2.2.2.2.2.2.1.length):(w.2.2.2.2.2.2.2.1.getD i al.aa).1<w.2.2.2.2.2.2.2.2.1:=by
 unfold bE at h;simp only[eD]at h;have a:=h.2.2.2.2.2.2.2.2.2.2.2.2.2;unfold fi tq at a;simp only[eD,bM]at a;have b:=a.2.2.2 i (by omega) hi;simpa using b.1.2.2
section
variable{k:Nat}(hk:9223372036854775808<=k)
include hk
set_option maxHeartbeats 8000000 in
def H6{w:ah}{i:Nat}(hs:ai aD w<=1048576)(h:bE k w=true)(hi:i<5):lq k (w,(i:Int),())=some ((lZ true k w i).1,(lZ true k w i).2,()):=by
 obtain⟨E,J,K,L⟩:=wo h;obtain⟨⟨y,_⟩,_⟩:=BC E;have b:i<(cA w).length:=by show i<w.2.2.2.2.2.2.2.2.2.2.2.2.1.length;omega
 have g:=KK L b;have u:=fun j p=>Nh h (i:=j) p;obtain⟨c,ti,U,st,m_,Z,gr,A,nn,V,n_,l_,O,T⟩:=w;dsimp only at E J K y u b;obtain⟨t,m⟩:∃t,O.getD i aq.aa=t:=⟨_,rfl⟩
 have I:∀s,lZ s k (c,ti,U,st,m_,Z,gr,A,nn,V,n_,l_,O,T) i=if t.1=1 then ia s k (c,ti,U,st,m_,Z,gr,A,nn,V,n_,l_,O,T) i
  else if t.1=2\/t.1=3 then kY s k (c,ti,U,st,m_,Z,gr,A,nn,V,n_,l_,O,T) i
  else if t.1=4 then fu s k (c,ti,U,st,m_,Z,gr,A,nn,V,n_,l_,O,T) i
  else if i=3 then hZ s k (c,ti,U,st,m_,Z,gr,A,nn,V,n_,l_,O,T)
  else if i=4 then fq s k (c,ti,U,st,m_,Z,gr,A,nn,V,n_,l_,O,T)else(false,(c,ti,U,st,m_,Z,gr,A,nn,V,n_,l_,O,T)):=by
  intro s;unfold lZ;simp only[cA,m]
 rw[I];dsimp only[cA,mh]at g;rw[m]at g;obtain⟨d,r⟩:∃d,T.getD (bm t).toNat ay.aa=d:=⟨_,rfl⟩
 change cP k _ t (T.getD (bm t).toNat ay.aa) _=true at g;rw[r]at g;have v:=gM g;simp only[lq,aN,avE,m];rw[an (aC b)];by_cases x:t.1=0;rw[x,a_ (by decide),a_ (by decide),a_ (by decide),a_ (by decide)];by_cases C:i=3;subst C
 obtain⟨n,o⟩:∃n:Nat,bm t=(n:Int):=by
  have:t=zT:=by unfold cP cW at g;grind
  exact⟨0,by rw[this];rfl⟩
 rw[an (by decide),oh (n:=n) (d:=T.getD n ay.aa) hk hs b m (.inl x) (by omega) o rfl (by omega) (fun j p=>by have:=u j p;omega),avw,a_ (by decide),a_ (by decide),a_ (by decide),an rfl];by_cases D:i=4;subst D
 obtain⟨n,o⟩:∃n:Nat,bm t=(n:Int):=by
  have:t=zT:=by unfold cP cW at g;grind
  exact⟨0,by rw[this];rfl⟩
 rw[a_ (by decide),an (by decide),nP (n:=n) (d:=T.getD n ay.aa) hk hs b m (.inl x) (by omega) o rfl,avw,a_ (by decide),a_ (by decide),a_ (by decide),a_ (by decide),an rfl];rw[a_ (by rw[beq_iff_eq];omega),a_ (by rw[beq_iff_eq];omega),a_ (by decide),a_ (by decide),a_ (by decide),a_ C,a_ D];obtain⟨b1,M,N,b4,b5,b6⟩:=GF g x;dsimp only[bG]at M;obtain⟨n,o⟩:∃n:Nat,bm t=(n:Int):=⟨(bm t).toNat,by omega⟩
 rw[o,avE]at r;have f:n<T.length:=by omega
 rcases v.2 with a|⟨a,q⟩|⟨a,q⟩|⟨a,q⟩;exact absurd a x;rcases a with a|a|a|a;obtain⟨j,p,z⟩:=D4 (k:=k) hk (l:=st) (s:=t.2.2.1.1) (by omega);rw[an (by rw[a];rfl),an a,Ca hk hs b m a p z f o r (by omega) (fun e B=>by rw[N]at B;exact B ⟨a,e⟩),avw];obtain⟨j,p,z⟩:=D4 (k:=k) hk (l:=st) (s:=t.2.2.2.1) (by omega)
 rw[a_ (by rw[a];decide),an (by rw[a];rfl),an (by rw[a];rfl),a_ (by omega),an (.inl a),
  rQ (j:=j) hk hs b m (.inl a) (fun _=>p) (by rw[an a];exact z) (by omega) f o r (by omega),avw]
 obtain⟨P,F,s3,s4,G,H⟩:=Ku g a;dsimp only at G H
 rw[a_ (by rw[a];decide),a_ (by rw[a];decide),an (by rw[a];rfl),a_ (by omega),an (.inr a),
  rQ (j:=t.2.2.2.2.1.toNat) hk hs b m (.inr a) (fun e=>by have:=G (by omega);omega) (by rw[a_ (by omega)];omega) (fun _ e=>by have:=H e;omega) f o r (by omega),avw]
 obtain⟨P,F⟩:=Iu g a;dsimp only at F
 rw[a_ (by rw[a];decide),a_ (by rw[a];decide),a_ (by rw[a];decide),an (by rw[a];rfl),a_ (by omega),a_ (by omega),an a,
  B5 (j:=t.2.2.2.2.1.toNat) hk hs b m a (by omega) (by omega) f o r (by omega),avw]
 subst q
 rw[a_ (by rw[a];decide),a_ (by rw[a];decide),a_ (by rw[a];decide),a_ (by rw[a];decide),an (by decide),a_ (by omega),a_ (by omega),a_ (by omega),an rfl,
  oh hk hs b m (.inr ⟨a,by omega⟩) (fun _=>f) o r (fun _=>KF g a) (fun j p=>by have:=u j p;omega),avw]
 subst q
 rw[a_ (by rw[a];decide),a_ (by rw[a];decide),a_ (by rw[a];decide),a_ (by rw[a];decide),a_ (by decide),an (by decide),a_ (by omega),a_ (by omega),a_ (by omega),a_ (by decide),an rfl,
  nP hk hs b m (.inr ⟨a,by omega⟩) (fun _=>f) o r,avw]
end
def bJ{α:Type}{l:List α}{i:Nat}(d:α)(h:i<l.length):l.getD i d=l[i]:=by
 rw[avx,List.getElem?_eq_getElem h];rfl
def cX{α:Type}{l:List α}{d:α}{p:α->Bool}:bA 0 l.length (fun i=>p (l.getD i d))=true↔∀x∈l,p x=true:=by
 rw[bM];constructor;intro h x b;obtain⟨i,a,e⟩:=avD b;have:=h i (by omega) a;rwa [bJ _ a,e]at this;intro h i _ a;rw[bJ _ a];exact h _ (avS a)
def DJ{α:Type}{r:α->α->Prop}(p:∀a b c,r a b->r b c->r a c){l:List α}{d:α}:(∀i,i<l.length->i=0\/r (l.getD (i-1) d) (l.getD i d))↔l.Pairwise r:=by
 constructor;intro h;rw[avF];intro i j g e hij;obtain⟨m,rfl⟩:∃m,j=i+m+1:=⟨j-i-1,by omega⟩
 induction m with
 |zero=>
  rcases h (i+0+1) e with o|f;omega;rwa [show i+0+1-1=i by omega,bJ _ g,bJ _ e]at f
 |succ m s=>
  have q:=s (by omega) (by omega);rcases h (i+(m+1)+1) e with o|f;omega;rw[show i+(m+1)+1-1=i+m+1 by omega,bJ _ (show i+m+1<l.length by omega),bJ _ e]at f;exact p _ _ _ q f
 intro h i g;by_cases o:i=0;exact .inl o;rw[bJ _ g,bJ _ (show i-1<l.length by omega)];exact .inr (avF.1 h _ _ _ _ (by omega))
def jh{α:Type}{r:α->α->Prop}{l:List α}{d:α}:(∀i,i<l.length->∀j,j<i->r (l.getD j d) (l.getD i d))↔l.Pairwise r:=by
 rw[avF];constructor;intro h i j b a e;have:=h j a i e;rwa [bJ _ b,bJ _ a]at this;intro h i b j a;rw[bJ _ b,bJ _ (show j<l.length by omega)];exact h _ _ _ _ a
def iv{α β:Type}{f:α->β}{l:List α}{i:Nat}{x d:α}(h:f x=f (l.getD i d)):(l.set i x).map f=l.map f:=by
 by_cases a:i<l.length;rw[bJ _ a]at h;rw[List.map_set,h];apply awf (by simp);intro n h1 h2;rw[List.getElem_set];split
 subst_vars;simp
 rfl;rw[avZ (by omega)]
def bz{α:Type}{l:List α}{i:Nat}{d:α}(h:i<l.length):l.getD i d∈l:=by
 rw[bJ _ h];exact avS h
def iX{α:Type}{l:List α}{x:α}(d:α)(h:x∈l):∃i,i<l.length/\l.getD i d=x:=by
 obtain⟨i,a,e⟩:=avD h;exact⟨i,a,by rw[bJ _ a,e]⟩
def getD_set_ne{α:Type}{l:List α}{n m:Nat}(a d:α)(h:n≠m):(l.set n a).getD m d=l.getD m d:=by
 rw[avx,List.getElem?_set_ne h,<-avx]
def tU{α:Type}{l:List α}{d:α}{p:α->Bool}{x:α}(a:x∈l)(b:p x=true):∃i,fv l.length (fun i=>p (l.getD i d))=some i/\i<l.length/\p (l.getD i d)=true:=by
 cases h:fv l.length (fun i=>p (l.getD i d))with
 |some i=>exact⟨i,rfl,(aR.1 h).1,(aR.1 h).2.1⟩
 |none=>
  obtain⟨i,f,e⟩:=iX d a;have:=gB.1 h i f;rw[e,b]at this;cases this
abbrev ml(l:List aP):Prop:=l.Pairwise (fun a b=>a.1<b.1)
abbrev RX(l:List af):Prop:=l.Pairwise (fun a b=>¬a.1=b.1)
def mo{k:Nat}{c:aP}:dL k c=true↔(∀a∈c.2,bh a=true/\cn k a.1=c.1)/\0<c.2.length/\RX c.2:=by
 unfold dL xK;rw[eD,eD,cX (p:=fun a=>bh a&&decide (cn k a.1=c.1)),decide_eq_true_iff,bM];refine and_congr (by simp) (and_congr avX ?_);unfold RX;rw[<-jh (d:=ae.aa)];simp only[bM,avK,d_];exact⟨fun h i b j e=>h i (by omega) b j (by omega) e,fun h i _ b j _ e=>h i b j e⟩
def da{k:Nat}{p:au}{q n:Int}:gl k p q n=true↔(∀c∈p.2.2,dL k c=true/\dP c.1 n=q)/\ml p.2.2/\(-1<=p.1/\p.1<=4)/\0<=p.2.1:=by
 unfold gl ml;rw[<-DJ (d:=ax.aa) (fun a b c e h2=>by omega)];have:∀j,(dL k (p.2.2.getD j ax.aa)&&(decide (dP (p.2.2.getD j ax.aa).1 n=q)&&yO p.2.2 j))=((dL k (p.2.2.getD j ax.aa)&&decide (dP (p.2.2.getD j ax.aa).1 n=q))&&yO p.2.2 j):=fun j=>(awj ..).symm;simp only[this,jI,eD,aZ,decide_eq_true_iff];have e:=cX (l:=p.2.2) (d:=ax.aa) (p:=fun c=>dL k c&&decide (dP c.1 n=q));simp only[jI,eD,decide_eq_true_iff]at e;rw[e,and_assoc];refine and_congr avX (and_congr ?_ avX);rw[bM];simp only[yO,H_,beq_iff_eq,decide_eq_true_iff];exact⟨fun h i f=>h i (by omega) f,fun h i _ f=>h i f⟩
def bQ{k:Nat}{l:List au}:dp k l=true↔(∀i,i<l.length->gl k (l.getD i aj.aa) (i:Int) (l.length:Int)=true)/\1<=l.length/\l.length<=3:=by
 unfold dp;rw[eD,bM];simp only[aZ,eD,decide_eq_true_iff];exact and_congr ⟨fun h i a=>h i (by omega) a,fun h i _ a=>h i a⟩ (by omega)
def I7{l:List au}{a:af}:a∈bO l↔∃p∈l,∃c∈p.2.2,a∈c.2:=by
 simp only[bO,aS,jv,G6]
/-! one part changes-/
def sQ{k:Nat}{l:List au}{j:Nat}{p:au}(h:dp k l=true)(b:gl k p (j:Int) (l.length:Int)=true):dp k (l.set j p)=true:=by
 rw[bQ]at h|-;rw[avI];refine⟨fun i a=> ?_,h.2⟩;by_cases e:j=i;subst e;rw[aL _ _ a];exact b;rw[getD_set_ne _ _ e];exact h.1 i a
def Aj{α β:Type}{f:α->List β}{l:List α}{j:Nat}{x d:α}(b:j<l.length):((l.set j x).flatMap f).length+(f (l.getD j d)).length=(l.flatMap f).length+(f x).length:=by
 induction l generalizing j with
 |nil=>simp at b
 |cons a l e=>
  cases j with
  |zero=>simp only[awb,avA,r_,av7];omega
  |succ j=>
   have:=e (j:=j) (by simpa using b);simp only[List.set_cons_succ,avA,r_,av8];omega
def xM{α β:Type}{f:α->List β}{l:List α}{j:Nat}{x:α}{b:β}(h:b∈(l.set j x).flatMap f):b∈l.flatMap f\/b∈f x:=by
 obtain⟨y,d,a⟩:=G6.1 h;rcases avv d with e|rfl;exact .inl (G6.2 ⟨y,e,a⟩);exact .inr a
def count_set{l:List au}{j:Nat}{p:au}(a:j<l.length):bu (l.set j p)+(aS (l.getD j aj.aa)).length=bu l+(aS p).length:=Aj a
/-! locks-/
def Tv{k:Nat}{st:List au}{j:Nat}{x:Int}(h:dp k st=true)(a:j<st.length)(b: -1<=x/\x<=4):dp k (bL st j x)=true:=by
 refine sQ h ?_;have:=da.1 ((bQ.1 h).1 j a);exact da.2 ⟨this.1,this.2.1,b,this.2.2.2⟩
def DQ{st:List au}{j:Nat}{x:Int}:bO (bL st j x)=bO st:=by
 unfold bO bL;have:∀l:List au,l.flatMap aS=(l.map aS).flatten:=fun l=>by rw[av0]
 rw[this,this,iv (f:=aS) (l:=st) (i:=j) (x:=(x,(st.getD j aj.aa).2)) (d:=aj.aa) rfl]
/-! putting-/
def yQ(a b:af):(iZ a b).1=b.1:=by unfold iZ;split<;>rfl
def Jg{a b:af}(ha:bh a=true)(d:cm b=true):cm (iZ a b)=true:=by
 unfold iZ;split;unfold cm bh aZ at*
 simp only[eD,b_]at*
 refine⟨⟨⟨⟨d.1.1.1.1,?_⟩,?_⟩,d.1.2⟩,d.2⟩<;>(try split)<;>omega;exact d
def fc{a:af}(h:cm a=true):bh a=true:=by
 unfold cm at h;simp only[eD]at h;exact h.1
def vq(c:aP)(a:af):(jJ c a).1=c.1:=by unfold jJ;split<;>rfl
def I0{c:aP}{a x:af}(h:x∈(jJ c a).2):x∈c.2\/x=a\/∃b∈c.2,x=iZ b a:=by
 unfold jJ at h;split at h;rename_i i e;rcases avv h with d|d;exact .inl d;exact .inr (.inr ⟨_,bz (aR.1 e).1,d⟩);rcases C'.1 h with d|d;exact .inl d;exact .inr (.inl (by simpa using d))
def Jq(c:aP)(a:af):(jJ c a).2.length=c.2.length+if(eU c.2 a.1).isNone=true then 1 else 0:=by
 unfold jJ;split;rename_i i b;simp[b];rename_i b;simp[b]
def M5(c:aP)(a:af):∃x∈(jJ c a).2,x.1=a.1:=by
 unfold jJ;split;rename_i i b;exact⟨_,List.mem_set (h:=(aR.1 b).1) ..,yQ _ _⟩;exact⟨a,by simp,rfl⟩
def S1{k:Nat}{c:aP}{a:af}(h:dL k c=true)(m:cm a=true)(o:cn k a.1=c.1):dL k (jJ c a)=true:=by
 rw[mo]at h|-;obtain⟨q,h2,r⟩:=h;refine⟨fun x g=> ?_,by rw[Jq];omega,?_⟩;rw[vq];rcases I0 g with g|rfl|⟨b,u,rfl⟩;exact q x g;exact⟨fc m,o⟩;exact⟨fc (Jg (q b u).1 m),by rw[yQ];exact o⟩;unfold jJ;split;rename_i i j
 have e:(c.2.set i (iZ (c.2.getD i ae.aa) a)).map (·.1)=c.2.map (·.1):=iv (d:=ae.aa) (by
  rw[yQ];exact(by simpa using(aR.1 j).2.1:(c.2.getD i ae.aa).1=a.1).symm)
 have p:=(avB (f:=fun x:af=>x.1) (R:=fun a b=>¬a=b)).2 r;rw[<-e]at p;exact(avB (f:=fun x:af=>x.1) (R:=fun a b=>¬a=b)).1 p;rename_i j;refine avC.2 ⟨r,avz _ _,fun x g y s=> ?_⟩;obtain⟨i,l,rfl⟩:=iX ae.aa g;have:=gB.1 j i l;rw[sd.1 s];simpa using this
def SK{l:List aP}{f:Int}(i:Nat)(h:i<iq l f):(l.getD i ax.aa).1<f:=by
 unfold iq at h;cases e:fv l.length (fun i=> !decide ((l.getD i ax.aa).1<f))with
 |none=>
  rw[e]at h;have:=gB.1 e i h;simpa using this
 |some j=>
  rw[e]at h;have:=(aR.1 e).2.2 i h;simpa using this
def SR{l:List aP}{f:Int}(h:iq l f<l.length):f<=(l.getD (iq l f) ax.aa).1:=by
 unfold iq at h|-;cases e:fv l.length (fun i=> !decide ((l.getD i ax.aa).1<f))with
 |none=>rw[e]at h;simp at h
 |some j=>
  have:=(aR.1 e).2.1;simp only[Option.getD_some];simpa using this
def MS{l:List aP}{f:Int}{x:aP}(h:ml l)(s:∀c∈l,¬c.1=f)(r:x.1=f):ml (l.take (iq l f)++[x]++l.drop (iq l f)):=by
 have g:∀c∈l.take (iq l f),c.1<f:=by
  intro c hc;obtain⟨i,q,e⟩:=avD hc;rw[avT]at q;have j:=SK (l:=l) (f:=f) i (by omega);rw[bJ _ (by omega)]at j;rw[<-e,avN];exact j
 have o:∀c∈l.drop (iq l f),f<c.1:=by
  intro c hc;obtain⟨i,q,e⟩:=avD hc;rw[av1]at q;have j:=SR (l:=l) (f:=f) (by omega);rw[bJ _ (by omega)]at j;have h2:=s _ (avS (show iq l f<l.length by omega));rw[avY]at e;rw[<-e];by_cases p:i=0;subst p;simp only[Nat.add_zero];omega;have:=avF.1 h (iq l f) (iq l f+i) (by omega) (by omega) (by omega);omega
 unfold ml at*
 rw[avC,avC];refine⟨⟨h.sublist (awd _ _),avz _ _,fun a d b m=> ?_⟩,h.sublist (awe _ _),fun a d b m=> ?_⟩;rw[sd.1 m,r];exact g a d;have:=o b m;rcases C'.1 d with d|d;have:=g a d;omega;rw[sd.1 d,r];exact this
def MP{k:Nat}{p:au}{s:List ag}(o:ml p.2.2):(eR k p s).2=true↔∃c∈p.2.2,c.1=cn k s/\∃x∈c.2,x.1=s:=by
 unfold eR;constructor;intro h;split at h;cases h;rename_i i f;split at h;cases h;rename_i j g;exact⟨_,bz (aR.1 f).1,by simpa using(aR.1 f).2.1,_,bz (aR.1 g).1,by simpa using(aR.1 g).2.1⟩;rintro⟨c,hc,e,x,v,ex⟩;obtain⟨i,w,y,z⟩:=tU (d:=ax.aa) (p:=fun c=>decide (c.1=cn k s)) hc (by simpa using e)
 have q:p.2.2.getD i ax.aa=c:=by
  obtain⟨m,B,em⟩:=iX ax.aa hc;have h4:(p.2.2.getD i ax.aa).1=c.1:=by rw[e];simpa using z
  by_cases b:i=m;rw[b];exact em;have l:=jh (d:=ax.aa).2 o;rcases awc b with h6|h6;have:=l m B i h6;rw[em]at this;omega;have:=l i y m h6;rw[em]at this;omega
 obtain⟨j,C,g2,g3⟩:=tU (d:=ae.aa) (p:=fun a=>decide (a.1=s)) v (by simpa using ex);have r:eY p (cn k s)=some i:=w;have u:eU c.2 s=some j:=C;simp only[r,q,u]
def K8{k:Nat}{p:au}{s:List ag}(h:(eR k p s).2=true):(eR k p s).1.1=s/\(eR k p s).1∈aS p:=by
 unfold eR at h|-;split at h;cases h;rename_i i b;split at h;cases h;rename_i j a;simp only[b,a];exact⟨by simpa using(aR.1 a).2.1,G6.2 ⟨_,bz (aR.1 b).1,bz (aR.1 a).1⟩⟩
def La{k:Nat}{p a:au}{s:List ag}(h:a.2.2=p.2.2):eR k a s=eR k p s:=by
 unfold eR eY;rw[h]
def Ak(k:Nat)(p:au)(a:af):(e9 k p a).1.2.1=IntKind.i64.wrap (p.2.1+1)/\(e9 k p a).1.1=p.1:=by
 unfold e9;split<;>exact⟨rfl,rfl⟩
def Po{k:Nat}{a:af}(d:cm a=true):dL k (cn k a.1,[a])=true:=
 mo.2 ⟨fun x b=>by rw[sd.1 b];exact⟨fc d,rfl⟩,by simp,avz _ _⟩
def I2{p:au}{f:Int}(h:eY p f=none):∀c∈p.2.2,¬c.1=f:=by
 intro c hc;obtain⟨i,a,rfl⟩:=iX ax.aa hc;have:=gB.1 h i a;simpa using this
def S8{k:Nat}{p:au}{a:af}{q n:Int}(h:gl k p q n=true)(m:cm a=true)(u:dP (cn k a.1) n=q)(hv:p.2.1<4611686018427387904):gl k (e9 k p a).1 q n=true:=by
 rw[da]at h|-;obtain⟨j,s,w,h4⟩:=h;have e:=Ak k p a;refine⟨?_,?_,by rw[e.2];exact w,by rw[e.1,wrap64 (by omega) (by omega)];omega⟩;intro c hc;unfold e9 at hc;split at hc;rename_i i g;rcases avv hc with hc|rfl;exact j c hc;have l:(p.2.2.getD i ax.aa).1=cn k a.1:=by simpa using(aR.1 g).2.1
 have o:=j _ (bz (d:=ax.aa) (aR.1 g).1);exact⟨S1 o.1 m l.symm,by rw[vq];exact o.2⟩;rcases C'.1 hc with hc|hc;rcases C'.1 hc with hc|hc;exact j c (avO hc);rw[sd.1 hc];exact⟨Po m,u⟩;exact j c (avL hc);unfold e9;split;rename_i i g;have v:(p.2.2.set i (jJ (p.2.2.getD i ax.aa) a)).map (·.1)=p.2.2.map (·.1):=iv (d:=ax.aa) (vq _ _);have r:=(avB (f:=fun x:aP=>x.1) (R:=fun a b=>a<b)).2 s;rw[<-v]at r;exact(avB (f:=fun x:aP=>x.1) (R:=fun a b=>a<b)).1 r;rename_i g;exact MS s (I2 g) rfl
def Qx{k:Nat}{p:au}{a x:af}(h:x∈aS (e9 k p a).1):x∈aS p\/x=a\/∃b∈aS p,x=iZ b a:=by
 obtain⟨c,hc,d⟩:=G6.1 h;unfold e9 at hc;split at hc;rename_i i f;rcases avv hc with hc|rfl;exact .inl (G6.2 ⟨c,hc,d⟩);have e:p.2.2.getD i ax.aa∈p.2.2:=bz (aR.1 f).1;rcases I0 d with d|d|⟨b,g,d⟩;exact .inl (G6.2 ⟨_,e,d⟩);exact .inr (.inl d);exact .inr (.inr ⟨b,G6.2 ⟨_,e,g⟩,d⟩);rcases C'.1 hc with hc|hc;rcases C'.1 hc with hc|hc;exact .inl (G6.2 ⟨c,avO hc,d⟩);rw[sd.1 hc]at d;exact .inr (.inl (by simpa[jv]using d));exact .inl (G6.2 ⟨c,avL hc,d⟩)
def Qw{k:Nat}{p:au}{a:af}:(aS (e9 k p a).1).length=(aS p).length+if(e9 k p a).2=true then 1 else 0:=by
 unfold aS e9;split;rename_i i b;have:=Aj (f:=jv) (l:=p.2.2) (j:=i) (x:=jJ (p.2.2.getD i ax.aa) a) (d:=ax.aa) (aR.1 b).1;simp only[jv,Jq]at this|-;omega
 have:(p.2.2.flatMap jv).length=((p.2.2.take (iq p.2.2 (cn k a.1))).flatMap jv).length+((p.2.2.drop (iq p.2.2 (cn k a.1))).flatMap jv).length:=by
  rw[<-r_,<-avW,av3]
 simp only[avW,r_,this];simp[jv];omega
def MR{k:Nat}{p:au}{a:af}:∃c∈(e9 k p a).1.2.2,c.1=cn k a.1/\∃x∈c.2,x.1=a.1:=by
 unfold e9;split;rename_i i b;refine⟨_,List.mem_set (h:=(aR.1 b).1) ..,?_,M5 _ _⟩;rw[vq];simpa using(aR.1 b).2.1;exact⟨(cn k a.1,[a]),by simp,rfl,a,by simp,rfl⟩
def fI{k:Nat}{st:List au}(h:dp k st=true):st.length≠0:=by have:=(bQ.1 h).2;omega
def iG{k:Nat}{st:List au}{s:List ag}(h:st.length≠0):(bg k st s).toNat<st.length/\((bg k st s).toNat:Int)=bg k st s:=by
 have:=xB (f:=cn k s) (n:=(st.length:Int)) (by omega);unfold bg;omega
def vn{k:Nat}{st:List au}{a:af}(h:st.length≠0):dn k st a=(st.set (bg k st a.1).toNat (e9 k (st.getD (bg k st a.1).toNat aj.aa) a).1,(e9 k (st.getD (bg k st a.1).toNat aj.aa) a).2):=by
 unfold dn;rw[a_ h]
def LR{k:Nat}{st:List au}{a:af}(h:dp k st=true)(g:cm a=true)(r:∀p∈st,p.2.1<4611686018427387904):
 dp k (dn k st a).1=true/\(dn k st a).1.length=st.length/\bu (dn k st a).1=bu st+(if(dn k st a).2=true then 1 else 0)/\
 (bD k (dn k st a).1 a.1).2=true/\((∀x∈bO st,cm x=true)->∀x∈bO (dn k st a).1,cm x=true):=by
 have j:=fI h;obtain⟨e,v⟩:=iG (k:=k) (s:=a.1) j;rw[vn j];have u:=(bQ.1 h).1 _ e;have m:=S8 u g (by rw[v];rfl) (r _ (bz e));refine⟨sQ h m,by simp,?_,?_,?_⟩;have:=count_set (l:=st) (p:=(e9 k (st.getD (bg k st a.1).toNat aj.aa) a).1) e;have:=Qw (k:=k) (p:=st.getD (bg k st a.1).toNat aj.aa) (a:=a);dsimp only;omega;unfold bD;rw[a_ (by simpa using j),show bg k (st.set (bg k st a.1).toNat (e9 k (st.getD (bg k st a.1).toNat aj.aa) a).1) a.1=bg k st a.1 by unfold bg;rw[avI],aL _ _ e];exact(MP (da.1 m).2.1).2 MR;intro f x d;rcases xM d with d|d;exact f x d;have o:∀y∈aS (st.getD (bg k st a.1).toNat aj.aa),y∈bO st:=fun y q=>G6.2 ⟨_,bz e,q⟩;rcases Qx d with d|rfl|⟨b,w,rfl⟩;exact f x (o x d);exact g;exact Jg (fc (f b (o b w))) g
def zH{k:Nat}{st:List au}{s:List ag}(h:(bD k st s).2=true):(bD k st s).1.1=s/\(bD k st s).1∈bO st:=by
 unfold bD at h|-;split at h;cases h;rename_i a;rw[a_ a];have:=K8 h;exact⟨this.1,G6.2 ⟨_,bz (iG a).1,this.2⟩⟩
def Ld{k:Nat}{st a:List au}{s:List ag}(b:a.length=st.length)(h:(a.getD (bg k st s).toNat aj.aa).2.2=(st.getD (bg k st s).toNat aj.aa).2.2):bD k a s=bD k st s:=by
 unfold bD;rw[b,show bg k a s=bg k st s by unfold bg;rw[b],La h]
def QO{k:Nat}{p:au}{a:af}(hp:ml p.2.2):(e9 k p a).2= !(eR k p a.1).2:=by
 unfold e9 eR;cases h:eY p (cn k a.1)with
 |none=>rfl
 |some i=>cases b:eU (p.2.2.getD i ax.aa).2 a.1<;>simp only[b]<;>rfl
def Kn{k:Nat}{st:List au}{a:af}(h:dp k st=true):(dn k st a).2= !(bD k st a.1).2:=by
 have b:=fI h;obtain⟨d,h2⟩:=iG (k:=k) (s:=a.1) b;rw[vn b];unfold bD;rw[a_ b];exact QO (da.1 ((bQ.1 h).1 _ d)).2.1
/-! sweeping-/
def yB{U:Int}{l:List af}{a:af}:a∈dh U l->a∈l:=by
 unfold dh;intro h;exact(avV.1 h).1
def Qg{k:Nat}{U:Int}{c:aP}(h:dL k c=true)(d:0<(fX U c).2.length):dL k (fX U c)=true:=by
 rw[mo]at h|-;refine⟨fun a b=>h.1 a (yB b),d,?_⟩;unfold fX dh;exact h.2.2.filter _
def Ki{U:Int}{l:List aP}{c:aP}(h:c∈jf U l):0<c.2.length/\∃b∈l,c=fX U b:=by
 unfold jf at h;obtain⟨a,d⟩:=avV.1 h;obtain⟨b,f,e⟩:=List.mem_map.1 a;exact⟨by simpa using d,b,f,e.symm⟩
def Ql{U:Int}{l:List aP}(h:ml l):ml (jf U l):=by
 unfold jf ml;refine List.Pairwise.filter _ ?_;exact avB.2 h
def O5{k:Nat}{p:au}{U q n:Int}(h:gl k p q n=true)(hv:p.2.1<4611686018427387904):gl k (dR p U) q n=true:=by
 rw[da]at h|-;obtain⟨a,e,f,g⟩:=h;refine⟨fun c hc=> ?_,Ql e,f,?_⟩;obtain⟨j,b,d,rfl⟩:=Ki hc;exact⟨Qg (a b d).1 j,(a b d).2⟩;unfold dR;dsimp only;split;rw[wrap64 (by omega) (by omega)];omega;exact g
def Kb(U:Int)(l:List af):(dh U l).length+(gD U l).length=l.length:=by
 unfold dh gD
 induction l with
 |nil=>rfl
 |cons a l b=>
  simp only[awg];by_cases h:a.2.2.1<=U;simp[h]at b|-;omega;simp[h]at b|-;omega
def Pn(U:Int)(l:List aP):(jf U l).flatMap jv=l.flatMap fun c=>dh U c.2:=by
 unfold jf
 induction l with
 |nil=>rfl
 |cons c l a=>
  simp only[List.map_cons,awg,avA];by_cases h:(0:Nat)<(fX U c).2.length;simp only[c_ h,if_true,avA,a];rfl;simp only[decide_eq_false h,awa,if_false,a];have:dh U c.2=[]:=List.eq_nil_of_length_eq_zero (by unfold fX at h;simpa using h);rw[this];rfl
def zP(p:au)(U:Int):(aS (dR p U)).length+(dg U p.2.2).length=(aS p).length:=by
 unfold aS dR dg;simp only[Pn]
 induction p.2.2 with
 |nil=>rfl
 |cons c l a=>
  simp only[avA,r_,jv]at a|-;have:=Kb U c.2;omega
def OD{p:au}{U:Int}{a:af}(h:a∈aS (dR p U)):a∈aS p:=by
 obtain⟨c,hc,d⟩:=G6.1 h;obtain⟨g1,b,e,rfl⟩:=Ki hc;exact G6.2 ⟨b,e,yB d⟩
def MA{k:Nat}{p:au}{U q n:Int}(h:gl k p q n=true)(d:¬0<(dg U p.2.2).length):dR p U=p:=by
 have f:=(da.1 h).1;unfold dR;rw[a_ d]
 have j:∀c∈p.2.2,fX U c=c:=by
  intro c hc
  have l:gD U c.2=[]:=by
   refine List.eq_nil_iff_forall_not_mem.2 fun a e=>d ?_;exact List.length_pos_of_mem (G6.2 ⟨c,hc,e⟩)
  have b:=Kb U c.2;rw[l]at b
  have m:dh U c.2=c.2:=by
   unfold dh at b|-;exact(List.filter_sublist).eq_of_length (by simpa using b)
  unfold fX;rw[m]
 have:jf U p.2.2=p.2.2:=by
  unfold jf;rw[List.map_congr_left (g:=id) (fun c hc=>j c hc),List.map_id];refine List.filter_eq_self.2 fun c hc=> ?_;simpa using(mo.1 (f c hc).1).2.1
 rw[this]
def pO(k:Nat)(ti:Int)(l:List aA):Prop:=∀d∈l,eQ k d=true/\d.2.2.2.2.2.2.2.2.2.1<ti/\d.2.2.2.2.2.2.2.2.2.2.1<ti/\d.2.2.2.2.2.2.2.2.2.2.2<ti
structure xN(k:Nat)(c:aY)(st:List au):Prop where
 ok:dp k st=true
 len:(st.length:Int)=c.1
 cap:(bu st:Int)<=c.2.1
 fit:∀a∈bO st,cm a=true
structure vC(c:aY)(m_:List bo)(Z l_:List af):Prop where
 len:(m_.length:Int)=c.2.2.1
 sub:∀s∈m_,fp s=true
 fee:∀a∈Z,bh a=true
 sai:∀a∈l_,bh a=true
structure pP(k:Nat)(st:List au)(O:List aG)(gr:Int):Prop where
 pt:∀q,q<st.length->∀j,j<5->(aV k (O.getD j aq.aa) st.length=(q:Int)↔(st.getD q aj.aa).1=(j:Int))
 gp:∀j,j<5->(bN (O.getD j aq.aa)=true↔gr=(j:Int))
 gr: -1<=gr/\gr<=4
structure rq(c:aY)(U:Int)(A:List aw)(nn:Int)(V:List aF)(t4:aG):Prop where
 go:dQ A c.2.2.2.2.2=true
 ho:lj V=true
 tm:∀x∈V,x.2<nn
 ap:V.Pairwise (fun a b=>¬a.2=b.2)
 td:∀g∈A,g.2.2.1<=U/\g.2.2.2.1<=U/\g.1<nn/\((∃x∈V,x.2=g.1/\x.1=ik c g)\/(t4.1=6/\t4.2.2.2.2.2.2.2.1=g.1))
def qd(k:Nat)(c1:Int)(st:List au)(nn:Int)(t:aG)(d:aA):Bool:=
 if t.1=1 then
  decide (d.1=1)&&(if t.2.1=2 then decide (d.2.2.1.1=t.2.2.1.1)&&(bD k st t.2.2.1.1).2&&decide ((bD k st t.2.2.1.1).1=t.2.2.1)else decide (d.2.2.1=t.2.2.1)&&cm t.2.2.1)
 else if t.1=2 then decide (d.1=3)&&decide (d.2.2.2.1=t.2.2.2.1)
 else if t.1=3 then decide (d.1=4)&&((if t.2.1=2 then decide ((t.2.2.2.2.2.1.length:Int)=c1)else decide (t.2.2.2.2.1<c1))&&dG st t)
 else if t.1=4 then decide (d.1=6)&&decide (t.2.2.2.2.1<c1)
 else if t.1=5 then decide (d.1=7)&&decide (d.2.2.1=t.2.2.1)
 else decide (d.1=8)&&(decide (d.2.2.2.2.2.1=t.2.2.2.2.2.2.2.1)&&decide (t.2.2.2.2.2.2.2.1<nn))
def bS(k:Nat)(c1:Int)(st:List au)(nn m:Int)(t:aG)(d:aA)(n:Int):Bool:=
 cW t n&&(decide (t.1=0)||(decide (t.2.2.2.2.2.2.2.2<m)&&(decide (d.2.1=n)&&decide (d.2.2.2.2.2.2.2.2.2.2.2= -1)&&
  decide ((¬d.2.2.2.2.2.2.2.2.2.2.1= -1)↔(t.1=1/\t.2.1=2))&&qd k c1 st nn t d)))
def Rz(k:Nat)(c1:Int)(st:List au)(nn:Int)(O:List aG)(T:List aA):Prop:=
 ∀i,i<5->bS k c1 st nn (T.length:Int) (O.getD i aq.aa) (T.getD (bm (O.getD i aq.aa)).toNat ay.aa) (i:Int)=true
structure Rt(k:Nat)(c:aY)(ti U:Int)(st:List au)(m_:List bo)(Z:List af)(gr:Int)(A:List aw)(nn:Int)(V:List aF)(l_:List af)
 (O:List aG) (T:List aA):Prop where
 cf:cY c=true
 ti0:0<=ti
 nn0:0<=nn
 nw:0<=U/\U<=99899
 sto:xN k c st
 sub:vC c m_ Z l_
 dee:pO k ti T
 tl:O.length=5
 tas:Rz k c.1 st nn O T
 loc:pP k st O gr
 grp:rq c U A nn V (O.getD 4 aq.aa)
def Ju{l:List af}{a:af}:a∈dC l↔a∈l:=by
 unfold dC;exact(mi cV l).mem_iff
def S7{α:Type}{l:List α}{d:α}{p:α->Bool}:(!bA 0 l.length (fun i=> !p (l.getD i d)))=true↔∃x∈l,p x=true:=by
 rw[avK,<-awh,cX (p:=fun x=> !p x)];simp
def Oz{c:aY}{ti U gr nn:Int}{st:List au}{m_:List bo}{Z l_:List af}{A:List aw}{V:List aF}{n_:List bq}{O:List aG}{T:List aA}:
 fi (c,ti,U,st,m_,Z,gr,A,nn,V,n_,l_,O,T)=true↔rq c U A nn V (O.getD 4 aq.aa):=by
 unfold fi qO tq;simp only[eD]
 rw[jI,eD,cX (l:=V) (d:=aE.aa) (p:=fun x=>decide (x.2<nn)),
  cX (l:=A) (d:=al.aa) (p:=fun g=>(decide (g.2.2.1<=U)&&(decide (g.2.2.2.1<=U)&&decide (g.1<nn)))&&fM (c,ti,U,st,m_,Z,gr,A,nn,V,n_,l_,O,T) g V.length)]
 have b:∀g:aw,fM (c,ti,U,st,m_,Z,gr,A,nn,V,n_,l_,O,T) g V.length=true↔((∃x∈V,x.2=g.1/\x.1=ik c g)\/((O.getD 4 aq.aa).1=6/\(O.getD 4 aq.aa).2.2.2.2.2.2.2.1=g.1)):=by
  intro g;unfold fM Bu;rw[H_];refine or_congr ?_ ?_;refine(S7 (l:=V) (d:=aE.aa) (p:=fun x=>decide (x.2=g.1)&&decide (x.1=ik c g))).trans ?_;simp only[eD,b_];dsimp only;split;rename_i h;simp only[b_]at h|-;exact⟨fun a=>⟨h,a⟩,fun a=>a.2⟩;rename_i h;simp only[b_]at h|-;exact⟨fun a=>(by cases a),fun a=>absurd a.1 h⟩
 constructor;rintro⟨a,r,⟨s,e⟩,u⟩;refine⟨a,r,fun x f=>e_ (s x f),?_,fun g m=> ?_⟩;rw[<-jh (d:=aE.aa)];intro i o j q;have:=bM.1 (bM.1 e i (by omega) o) j (by omega) q;simpa using this;have:=u g m;simp only[eD,b_,b]at this;exact⟨this.1.1,this.1.2.1,this.1.2.2,this.2⟩;rintro⟨a,r,s,e,u⟩;refine⟨a,r,⟨fun x f=>c_ (s x f),?_⟩,fun g m=> ?_⟩;rw[<-jh (d:=aE.aa)]at e;refine bM.2 fun i _ o=>bM.2 fun j _ q=> ?_;simpa using e i o j q;have:=u g m;simp only[eD,b_,b];exact⟨⟨this.1,this.2.1,this.2.2.1⟩,this.2.2.2⟩
def GC{k:Nat}{c:aY}{ti U gr nn:Int}{st:List au}{m_:List bo}{Z l_:List af}{A:List aw}{V:List aF}{n_:List bq}{O:List aG}{T:List aA}(g:O.length=5):
 oI k (c,ti,U,st,m_,Z,gr,A,nn,V,n_,l_,O,T)=true↔pP k st O gr:=by
 unfold oI qu A3;simp only[eD,bM,beq_iff_eq,g,aZ,b_,decide_eq_decide];constructor;rintro⟨d,e,f⟩;exact⟨fun q b j a=>d q (by omega) b j (by omega) a,fun j a=>by have:=e j (by omega) a;rw[this];simp,f⟩;rintro⟨d,e,f⟩;refine⟨fun q _ b j _ a=>d q b j a,fun j _ a=> ?_,f⟩;rw[Bool.eq_iff_iff,e j a];simp
def bF{k:Nat}{c:aY}{ti U gr nn:Int}{st:List au}{m_:List bo}{Z l_:List af}{A:List aw}{V:List aF}{n_:List bq}{O:List aG}{T:List aA}:
 bE k (c,ti,U,st,m_,Z,gr,A,nn,V,n_,l_,O,T)=true↔Rt k c ti U st m_ Z gr A nn V l_ O T:=by
 unfold bE lg oH kc bI tC;simp only[eD,b_,Oz]
 rw[cX (d:=ae.aa) (p:=cm),cX (d:=ae.aa) (p:=bh),cX (d:=ae.aa) (p:=bh),cX (d:=aW.aa) (p:=fp),
  cX (l:=T) (d:=ay.aa) (p:=fun d=>mZ k (c,ti,U,st,m_,Z,gr,A,nn,V,n_,l_,O,T) d)]
 have s:aZ U 0 99899=true↔0<=U/\U<=99899:=by unfold aZ;simp
 have u:(∀d∈T,mZ k (c,ti,U,st,m_,Z,gr,A,nn,V,n_,l_,O,T) d=true)↔pO k ti T:=by
  unfold pO mZ;simp only[eD,b_]
 have v:(∀a∈dC (bO st),cm a=true)↔∀a∈bO st,cm a=true:=by
  constructor;intro h a e;exact h a (Ju.2 e);intro h a e;exact h a (Ju.1 e)
 have r:∀b:O.length=5,bA 0 O.length (fun i=>cP k (c,ti,U,st,m_,Z,gr,A,nn,V,n_,l_,O,T) (O.getD i aq.aa) (mh (c,ti,U,st,m_,Z,gr,A,nn,V,n_,l_,O,T) (O.getD i aq.aa)) i)=true↔Rz k c.1 st nn O T:=by
  intro b;rw[bM,b];exact⟨fun h i f=>h i (by omega) f,fun h i _ f=>h i f⟩
 rw[s,u,v];constructor;rintro⟨g,j,m,o,⟨q,h6,h7,h8⟩,h9,rO,zt,mS,Dc,Mf,Gp,Pj,OC⟩;have b:O.length=5:=by omega
 exact⟨g,j,m,o,⟨q,h6,h7,h8⟩,⟨h9,Dc,zt,mS⟩,Mf,b,(r b).1 Gp,(GC b).1 Pj,OC⟩;rintro⟨g,j,m,o,⟨q,h6,h7,h8⟩,⟨h9,Dc,zt,mS⟩,Mf,b,Gp,Pj,OC⟩;exact⟨g,j,m,o,⟨q,h6,h7,h8⟩,h9,by show(O.length:Int)=5;omega,zt,mS,Dc,Mf,(r b).2 Gp,(GC b).2 Pj,OC⟩
structure fo(i:Nat)(st st':List au):Prop where
 len:st'.length=st.length
 pt:∀p,p<st.length->(st'.getD p aj.aa).2=(st.getD p aj.aa).2\/((st.getD p aj.aa).1=(i:Int)/\(st.getD p aj.aa).2.1<(st'.getD p aj.aa).2.1)
structure dx(i:Nat)(l l':List aA):Prop where
 len:l.length<=l'.length
 at_:∀n,n<l.length->¬(l.getD n ay.aa).2.1=(i:Int)->l'.getD n ay.aa=l.getD n ay.aa
def rl{st:List au}{t:aG}:dG st t=true↔(∀i,i<t.2.2.2.2.2.1.length->t.2.2.2.2.2.1.getD i 0<=(st.getD i aj.aa).2.1)/\
 ((∀i,i<t.2.2.2.2.2.1.length->t.2.2.2.2.2.1.getD i 0=(st.getD i aj.aa).2.1)->(st.take t.2.2.2.2.2.1.length).flatMap aS=t.2.2.2.2.2.2.1):=by
 unfold dG IJ;rw[eD,bM,H_,avK,<-awh];unfold jG;rw[bM];simp only[avK,d_,b_];refine and_congr ⟨fun h i a=>by have:=h i (by omega) a;omega,fun h i _ a=>by have:=h i a;omega⟩ ?_;constructor;rintro(h|h) g;exact absurd (fun i _ a=>g i a) h;exact h;intro h;by_cases g:∀i,i<t.2.2.2.2.2.1.length->t.2.2.2.2.2.1.getD i 0=(st.getD i aj.aa).2.1;exact .inr (h g);exact .inl fun b=>g fun i a=>b i (by omega) a
def EV{st a:List au}{n:Nat}(e:a.length=st.length)(h:∀p,p<n->p<st.length->(a.getD p aj.aa).2=(st.getD p aj.aa).2):
 (a.take n).flatMap aS=(st.take n).flatMap aS:=by
 rw[av0,av0];congr 1;apply awf (by simp[e]);intro p b d;simp only[List.length_map,avT]at b d;have:=h p (by omega) (by omega);rw[bJ _ (by omega),bJ _ (by omega)]at this;simp only[List.getElem_map,avN];unfold aS;rw[this]
def yj{i:Nat}{st d:List au}{t:aG}(hs:fo i st d)(hl:t.2.2.2.2.2.1.length<=st.length)(h:dG st t=true):dG d t=true:=by
 rw[rl]at h|-
 have f:∀p,p<st.length->(st.getD p aj.aa).2.1<=(d.getD p aj.aa).2.1:=by
  intro p a;rcases hs.pt p a with e|e;rw[e];exact kk _;omega
 refine⟨fun p a=>Int.le_trans (h.1 p a) (f p (by omega)),fun g=> ?_⟩
 have b:∀p,p<t.2.2.2.2.2.1.length->(d.getD p aj.aa).2=(st.getD p aj.aa).2:=by
  intro p a;rcases hs.pt p (by omega)with e|e;exact e;have:=g p a;have:=h.1 p a;omega
 rw[EV hs.len (fun p a _=>b p a)];exact h.2 fun p a=>by rw[g p a,b p a]
def zV{k:Nat}{c1 nn m b e n:Int}{st a:List au}{t:aG}{d:aA}(h:bS k c1 st nn m t d n=true)(hm:m<=e)(hn:nn<=b)
 (hput:t.1=1->t.2.1=2->bD k a t.2.2.1.1=bD k st t.2.2.1.1) (hsee:t.1=3->dG st t=true->dG a t=true):bS k c1 a b e t d n=true:=by
 unfold bS qd at*
 grind
def Mo{k:Nat}{c1 nn m n:Int}{st:List au}{t:aG}{d:aA}(h:bS k c1 st nn m t d n=true)(hc:(st.length:Int)=c1)(h3:t.1=3):t.2.2.2.2.2.1.length<=st.length:=by
 unfold bS qd cW aZ at h;grind
def xY{k:Nat}{c1 nn m n:Int}{st:List au}{t:aG}{d:aA}(h:bS k c1 st nn m t d n=true)(h0:¬t.1=0):d.2.1=n/\0<=bm t/\bm t<m:=by
 unfold bS cW aZ at h;unfold bm;grind
def BX{k:Nat}{c1 nn m n a e:Int}{st b:List au}{t:aG}{d d':aA}(h:bS k c1 st nn m t d n=true)(h0:t.1=0):bS k c1 b a e t d' n=true:=by
 unfold bS at*
 grind
def QU{k:Nat}{c1 nn d gr:Int}{st f:List au}{O:List aG}{T a:List aA}{i:Nat}{t':aG}(hi:i<5)(tl:O.length=5)(hc:(st.length:Int)=c1)(w:st.length≠0)
 (x:pP k st O gr) (h:Rz k c1 st nn O T) (hs:fo i st f) (y:nn<=d) (l:dx i T a)
 (z:bS k c1 f d (a.length:Int) t' (a.getD (bm t').toNat ay.aa) (i:Int)=true):Rz k c1 f d (O.set i t') a:=by
 intro j g;by_cases e:i=j;subst e;rw[aL _ _ (by omega)];exact z;rw[getD_set_ne _ _ e];have b:=h j g;by_cases m:(O.getD j aq.aa).1=0;exact BX b m;obtain⟨B,b2,b3⟩:=xY b m;rw[l.at_ _ (by omega) (by rw[B];omega)];refine zV b (by have:=l.len;omega) y (fun q r=> ?_) (fun u v=>yj hs (Mo b hc u) v);refine Ld hs.len ?_;obtain⟨o,C⟩:=iG (k:=k) (s:=(O.getD j aq.aa).2.2.1.1) w
 have hold:aV k (O.getD j aq.aa) st.length=((bg k st (O.getD j aq.aa).2.2.1.1).toNat:Int):=by
  unfold aV;rw[a_ (by omega),an ⟨q,.inr r⟩,C];rfl
 have hh:=(x.pt _ o j g).1 hold;rcases hs.pt _ o with p|p;rw[p];omega
def ui{k:Nat}{gr l:Int}{st f:List au}{O:List aG}{i:Nat}{t t':aG}(hi:i<5)(tl:O.length=5)(m:pP k st O gr)(v:O.getD i aq.aa=t)(w:f.length=st.length)
 (x:∀q,q<st.length->(f.getD q aj.aa).1=if aV k t' st.length=(q:Int)then(i:Int)else if aV k t st.length=(q:Int)then-1 else(st.getD q aj.aa).1)
 (y:∀q,q<st.length->aV k t' st.length=(q:Int)->aV k t st.length=(q:Int)\/(st.getD q aj.aa).1= -1)
 (p:l=if bN t'=true then(i:Int)else if bN t=true then-1 else gr) (r:bN t'=true->bN t=true\/gr= -1):pP k f (O.set i t') l:=by
 subst v;refine⟨fun q g j o=> ?_,fun j o=> ?_,?_⟩;rw[w]at g|-;have s:=m.pt q g j o;have d:=m.pt q g i hi;have u:=x q g;have z:=y q g;by_cases e:i=j;subst e;rw[aL _ _ (by omega),u];by_cases b:aV k t' st.length=(q:Int)
 simp[b];rw[a_ b];by_cases a:aV k (O.getD i aq.aa) st.length=(q:Int)
 rw[an a];constructor;intro h;exact absurd h b;intro h;omega;rw[a_ a];constructor;intro h;exact absurd h b;intro h;exact absurd (d.2 h) a;rw[getD_set_ne _ _ e,u,s];by_cases b:aV k t' st.length=(q:Int)
 rw[an b];rcases z b with a|a;have:=d.1 a;omega;omega;rw[a_ b];by_cases a:aV k (O.getD i aq.aa) st.length=(q:Int)
 rw[an a];have:=d.1 a;omega;rw[a_ a];have s:=m.gp j o;have d:=m.gp i hi;by_cases e:i=j;subst e;rw[aL _ _ (by omega),p];by_cases b:bN t'=true;simp[b];rw[a_ b];by_cases a:bN (O.getD i aq.aa)=true;rw[an a];constructor;intro h;exact absurd h b;intro h;omega;rw[a_ a];constructor;intro h;exact absurd h b;intro h;exact absurd (d.2 h) a;rw[getD_set_ne _ _ e,p,s];by_cases b:bN t'=true;rw[an b];rcases r b with a|a;have:=d.1 a;omega;omega;rw[a_ b];by_cases a:bN (O.getD i aq.aa)=true;rw[an a];have:=d.1 a;omega;rw[a_ a];have:=m.gr;rw[p];split;omega;split<;>omega
/-! T-/
theorem pO.up{k:Nat}{ti a:Int}{l:List aA}(h:pO k ti l)(ht:ti<=a):pO k a l:=fun d o=>by
 have:=h d o;exact⟨this.1,by omega,by omega,by omega⟩
theorem pO.app{k:Nat}{ti:Int}{l:List aA}{d:aA}(h:pO k ti l)(o:eQ k d=true/\d.2.2.2.2.2.2.2.2.2.1<ti/\d.2.2.2.2.2.2.2.2.2.2.1<ti/\d.2.2.2.2.2.2.2.2.2.2.2<ti):pO k ti (l++[d]):=fun x a=>by
 rcases C'.1 a with a|a;exact h x a;rw[sd.1 a];exact o
theorem pO.put{k:Nat}{ti:Int}{l:List aA}{d:aA}{n:Nat}(h:pO k ti l)(o:eQ k d=true/\d.2.2.2.2.2.2.2.2.2.1<ti/\d.2.2.2.2.2.2.2.2.2.2.1<ti/\d.2.2.2.2.2.2.2.2.2.2.2<ti):pO k ti (l.set n d):=fun x a=>by
 rcases avv a with a|rfl;exact h x a;exact o
theorem dx.refl(i:Nat)(l:List aA):dx i l l:=⟨avQ _,fun _ _ _=>rfl⟩
theorem dx.app(i:Nat)(l:List aA)(d:aA):dx i l (l++[d]):=⟨by simp,fun n a _=>by
 rw[avx,avR a,<-avx]⟩
theorem dx.put{i:Nat}{l:List aA}{n:Nat}{d:aA}(h:(l.getD n ay.aa).2.1=(i:Int)):dx i l (l.set n d):=⟨by simp,fun m hm a=>by
 by_cases e:n=m;subst e;exact absurd h a;rw[getD_set_ne _ _ e]⟩
theorem dx.trans{i:Nat}{l q o:List aA}(h:dx i l q)(u:dx i q o):dx i l o:=⟨avH h.len u.len,fun n p a=>by
 rw[<-h.at_ n p a];exact u.at_ n (Nat.lt_of_lt_of_le p h.len) (by rw[h.at_ n p a];exact a)⟩
theorem fo.refl(i:Nat)(st:List au):fo i st st:=⟨rfl,fun _ _=> .inl rfl⟩
theorem fo.held(i:Nat)(st:List au)(j:Nat)(x:Int):fo i st (bL st j x):=by
 refine⟨by simp[bL],fun p a=> .inl ?_⟩;unfold bL;by_cases e:j=p;subst e;rw[aL _ _ a];rw[getD_set_ne _ _ e]
def mO{k:Nat}{c1 nn m:Int}{st:List au}{d:aA}{i:Nat}(hi:i<5):bS k c1 st nn m zT d (i:Int)=true:=by
 unfold bS cW aZ;have a:decide ((0:Int)<=(i:Int))=true:=c_ (by omega);have b:decide ((i:Int)<=4)=true:=c_ (by omega);simp[a,b,zT]
def xG{k:Nat}{op i n U ti:Int}{a:af}{l:List ag}(ho:1<=op/\op<=9)(hi: -1<=i/\i<=4)(hn:0<=n)(hw:0<=U)(ht:0<=ti):
 eQ k (op,i,a,l,0,n,0,[],U,ti,-1,-1)=true:=by
 unfold eQ aZ;simp;omega
def qg{k:Nat}{s x:Bool}{d:aA}{U ti code:Int}{got:List af}(h:eQ k d=true)(hw:0<=U)(h1:d.2.2.2.2.2.2.2.2.2.1<ti)(h2:d.2.2.2.2.2.2.2.2.2.2.1<ti)(ht:0<=ti)(hc:code∈jn d.1):
 eQ k (eC s x d U ti code got)=true/\(eC s x d U ti code got).2.2.2.2.2.2.2.2.2.1<ti+1/\(eC s x d U ti code got).2.2.2.2.2.2.2.2.2.2.1<ti+1/\(eC s x d U ti code got).2.2.2.2.2.2.2.2.2.2.2<ti+1:=by
 obtain⟨op,task,a,l,i,n,cd,gt,nw,inv,b,res⟩:=d;unfold eC oc GL pI yZ nf dN;unfold eQ aZ at*
 simp only[eD,H_,b_]at*
 by_cases e:b= -1;subst e;cases s<;>cases x<;>simp[hc]<;>omega;cases s<;>cases x<;>simp[e]at h|-<;>(refine⟨⟨?_,h.2⟩,?_,?_⟩<;>omega)
def ow{ti:Int}(h0:0<=ti)(h:ti<4611686018427387904):tick ti=ti+1:=by
 unfold tick;rw[wrap64 (by omega) (by omega)]
def cM{k:Nat}{t:aG}{n:Int}(h:t.2.1=0\/t.1=0\/5<=t.1\/(t.1=3/\t.2.1=2)):aV k t n= -1:=by
 unfold aV;grind
def nM{k:Nat}{t:aG}{st:List au}(a:st.length≠0)(h:t.1=1)(b:t.2.1=1\/t.2.1=2):aV k t st.length=((bg k st t.2.2.1.1).toNat:Int):=by
 rw[(iG a).2];unfold aV;rw[a_ (by omega),an ⟨h,b⟩];rfl
def vK{k:Nat}{t:aG}{st:List au}(a:st.length≠0)(h:t.1=2)(b:t.2.1=1):aV k t st.length=((bg k st t.2.2.2.1).toNat:Int):=by
 rw[(iG a).2];unfold aV;rw[a_ (by omega),a_ (by omega),an ⟨h,b⟩];rfl
def vu{k:Nat}{t:aG}{st:List au}(h0:st.length≠0)(h:t.1=3\/t.1=4)(a:t.2.1=1):aV k t st.length=t.2.2.2.2.1:=by
 unfold aV;rw[a_ (by omega),a_ (by omega),a_ (by omega),an ⟨h,a⟩]
def eI{t:aG}(h:t.1<5\/t.2.1=0):bN t=false:=by
 unfold bN;have:¬((t.1=5\/t.1=6)/\t.2.1=1):=by omega
 simpa using this
def gV{k:Nat}{c1 nn m n:Int}{st:List au}{t:aG}{d:aA}(a:t.1=1):bS k c1 st nn m t d n=true↔
 (0<=n/\n<3/\0<=t.2.2.2.2.2.2.2.2/\0<=t.2.1/\t.2.1<=2/\bh t.2.2.1=true/\t.2.2.2.1=[]/\t.2.2.2.2.1=0/\t.2.2.2.2.2.1=[]/\t.2.2.2.2.2.2.1=[]/\t.2.2.2.2.2.2.2.1=0)/\
 t.2.2.2.2.2.2.2.2<m/\d.2.1=n/\d.2.2.2.2.2.2.2.2.2.2.2= -1/\(¬d.2.2.2.2.2.2.2.2.2.2.1= -1↔t.2.1=2)/\d.1=1/\
 (if t.2.1=2 then d.2.2.1.1=t.2.2.1.1/\(bD k st t.2.2.1.1).2=true/\(bD k st t.2.2.1.1).1=t.2.2.1 else d.2.2.1=t.2.2.1/\cm t.2.2.1=true):=by
 unfold bS qd cW aZ nm;by_cases b:t.2.1=2;simp only[a,b,if_true,eD,H_,b_];grind;simp only[a,b,if_true,if_false,eD,H_,b_];grind
def ny{k:Nat}{c1 nn m n:Int}{st:List au}{t:aG}{d:aA}(a:t.1=2):bS k c1 st nn m t d n=true↔
 (0<=n/\n<3/\0<=t.2.2.2.2.2.2.2.2/\0<=t.2.1/\t.2.1<=1/\t.2.2.1=bU/\cZ t.2.2.2.1=true/\t.2.2.2.2.1=0/\t.2.2.2.2.2.1=[]/\t.2.2.2.2.2.2.1=[]/\t.2.2.2.2.2.2.2.1=0)/\
 t.2.2.2.2.2.2.2.2<m/\d.2.1=n/\d.2.2.2.2.2.2.2.2.2.2.2= -1/\d.2.2.2.2.2.2.2.2.2.2.1= -1/\d.1=3/\d.2.2.2.1=t.2.2.2.1:=by
 unfold bS qd cW aZ nm;simp only[a,if_true,if_false,eD,H_,b_];grind
def fG{k:Nat}{c1 nn m n:Int}{st:List au}{t:aG}{d:aA}(a:t.1=3):bS k c1 st nn m t d n=true↔
 (0<=n/\n<3/\0<=t.2.2.2.2.2.2.2.2/\0<=t.2.1/\t.2.1<=2/\t.2.2.1=bU/\t.2.2.2.1=[]/\lh t.2.2.2.2.2.1=true/\(t.2.2.2.2.2.1.length:Int)=t.2.2.2.2.1/\bI t.2.2.2.2.2.2.1=true/\t.2.2.2.2.2.2.2.1=0)/\
 t.2.2.2.2.2.2.2.2<m/\d.2.1=n/\d.2.2.2.2.2.2.2.2.2.2.2= -1/\d.2.2.2.2.2.2.2.2.2.2.1= -1/\d.1=4/\dG st t=true/\
 (if t.2.1=2 then 1<=t.2.2.2.2.1/\t.2.2.2.2.1<=3/\t.2.2.2.2.1=c1 else 0<=t.2.2.2.2.1/\t.2.2.2.2.1<=2/\t.2.2.2.2.1<c1):=by
 unfold bS qd cW aZ nm;by_cases b:t.2.1=2;simp only[a,b,if_true,if_false,eD,H_,b_];grind;simp only[a,b,if_true,if_false,eD,H_,b_];grind
def gC{k:Nat}{c1 nn m n:Int}{st:List au}{t:aG}{d:aA}(a:t.1=4):bS k c1 st nn m t d n=true↔
 (0<=n/\n<3/\0<=t.2.2.2.2.2.2.2.2/\0<=t.2.1/\t.2.1<=1/\t.2.2.1=bU/\t.2.2.2.1=[]/\0<=t.2.2.2.2.1/\t.2.2.2.2.1<=2/\t.2.2.2.2.2.1=[]/\t.2.2.2.2.2.2.1=[]/\t.2.2.2.2.2.2.2.1=0)/\
 t.2.2.2.2.2.2.2.2<m/\d.2.1=n/\d.2.2.2.2.2.2.2.2.2.2.2= -1/\d.2.2.2.2.2.2.2.2.2.2.1= -1/\d.1=6/\t.2.2.2.2.1<c1:=by
 unfold bS qd cW aZ nm;simp only[a,if_true,if_false,eD,H_,b_];grind
def je{k:Nat}{c1 nn m n:Int}{st:List au}{t:aG}{d:aA}(a:t.1=5):bS k c1 st nn m t d n=true↔
 (n=3/\0<=t.2.2.2.2.2.2.2.2/\0<=t.2.1/\t.2.1<=1/\bh t.2.2.1=true/\t.2.2.2.1=[]/\t.2.2.2.2.1=0/\t.2.2.2.2.2.1=[]/\t.2.2.2.2.2.2.1=[]/\t.2.2.2.2.2.2.2.1=0)/\
 t.2.2.2.2.2.2.2.2<m/\d.2.1=n/\d.2.2.2.2.2.2.2.2.2.2.2= -1/\d.2.2.2.2.2.2.2.2.2.2.1= -1/\d.1=7/\d.2.2.1=t.2.2.1:=by
 unfold bS qd cW aZ nm;simp only[a,if_true,if_false,eD,H_,b_];grind
def fP{k:Nat}{c1 nn m n:Int}{st:List au}{t:aG}{d:aA}(a:t.1=6):bS k c1 st nn m t d n=true↔
 (n=4/\0<=t.2.2.2.2.2.2.2.2/\0<=t.2.1/\t.2.1<=1/\t.2.2.1=bU/\t.2.2.2.1=[]/\t.2.2.2.2.1=0/\t.2.2.2.2.2.1=[]/\t.2.2.2.2.2.2.1=[]/\0<=t.2.2.2.2.2.2.2.1)/\
 t.2.2.2.2.2.2.2.2<m/\d.2.1=n/\d.2.2.2.2.2.2.2.2.2.2.2= -1/\d.2.2.2.2.2.2.2.2.2.2.1= -1/\d.1=8/\d.2.2.2.2.2.1=t.2.2.2.2.2.2.2.1/\t.2.2.2.2.2.2.2.1<nn:=by
 unfold bS qd cW aZ nm;simp only[a,if_true,if_false,eD,H_,b_];grind
section
variable{k:Nat}{c:aY}{ti U gr nn:Int}{st:List au}{m_:List bo}{Z l_:List af}{A:List aw}{V:List aF}{n_:List bq}{O:List aG}{T:List aA}{i:Nat}{t:aG}
def SE{j:Nat}{t':aG}(hi:i<5)(d:O.length=5)(f:pP k st O gr)(g:O.getD i aq.aa=t)(h0:aV k t st.length= -1)(l:aV k t' st.length=(j:Int))(hj:j<st.length)
 (m:(st.getD j aj.aa).1= -1) (o:bN t=false) (b:bN t'=false):pP k (bL st j (i:Int)) (O.set i t') gr:=by
 refine ui hi d f g (by simp[bL]) (fun q a=> ?_) (fun q a hh=> ?_) (by rw[o,b];rfl) (by rw[b];intro h;cases h);unfold bL;by_cases e:j=q;subst e;rw[aL _ _ a,an l];rw[getD_set_ne _ _ e,a_ (by omega),a_ (by omega)];have:j=q:=by omega
 subst this;exact .inr m
def uR{j:Nat}{t':aG}{a:List au}(hi:i<5)(g:O.length=5)(l:pP k st O gr)(m:O.getD i aq.aa=t)(o:aV k t st.length=(j:Int))(h1:aV k t' st.length= -1)(p:a.length=st.length)
 (r:(a.getD j aj.aa).1= -1) (d:∀q,q<st.length->¬j=q->(a.getD q aj.aa).1=(st.getD q aj.aa).1) (s:bN t=false) (f:bN t'=false):pP k a (O.set i t') gr:=by
 refine ui hi g l m p (fun q b=> ?_) (fun q d hh=>by omega) (by rw[s,f];rfl) (by rw[f];intro h;cases h);rw[a_ (by omega)];by_cases e:j=q;subst e;rw[an o,r];rw[a_ (by omega),d q b e]
def tB{t':aG}{a:List au}(hi:i<5)(m:O.length=5)(d:pP k st O gr)(o:O.getD i aq.aa=t)(g:aV k t' st.length=aV k t st.length)(p:a.length=st.length)
 (f:∀q,q<st.length->(a.getD q aj.aa).1=(st.getD q aj.aa).1) (j:bN t'=bN t):pP k a (O.set i t') gr:=by
 subst o;refine ui hi m d rfl p (fun q b=> ?_) (fun q f l=> .inl (by rw[<-g];exact l)) ?_ (fun h=> .inl (by rw[<-j];exact h));rw[g,f q b];by_cases e:aV k (O.getD i aq.aa) st.length=(q:Int)
 rw[an e,(d.pt q b i hi).1 e];rw[a_ e,a_ e];rw[j];by_cases e:bN (O.getD i aq.aa)=true;rw[an e,(d.gp i hi).1 e];rw[a_ e,a_ e]
def QJ{t':aG}(hi:i<5)(b:O.length=5)(d:pP k st O gr)(e:O.getD i aq.aa=t)(h0:aV k t st.length= -1)(h1:aV k t' st.length= -1)
 (f:gr= -1) (g:bN t'=true):pP k st (O.set i t') (i:Int):=by
 refine ui hi b d e rfl (fun q a=> ?_) (fun q a hh=>by omega) (by rw[g];rfl) (fun _=> .inr f);rw[a_ (by omega),a_ (by omega)]
def Kq{t':aG}(hi:i<5)(d:O.length=5)(e:pP k st O gr)(f:O.getD i aq.aa=t)(h0:aV k t st.length= -1)(h1:aV k t' st.length= -1)
 (g:bN t=true) (a:bN t'=false):pP k st (O.set i t') (-1):=by
 refine ui hi d e f rfl (fun q b=> ?_) (fun q b hh=>by omega) (by rw[g,a];rfl) (by rw[a];intro h;cases h);rw[a_ (by omega),a_ (by omega)]
def Al{j:Nat}{x:Int}(a:j<st.length):((bL st j x).getD j aj.aa).1=x:=by
 unfold bL;rw[aL _ _ a]
def sS{j q:Nat}{x:Int}(h:¬j=q):((bL st j x).getD q aj.aa).1=(st.getD q aj.aa).1:=by
 unfold bL;rw[getD_set_ne _ _ h]
theorem xN.held{j:Nat}{x:Int}(h:xN k c st)(a:j<st.length)(o: -1<=x/\x<=4):xN k c (bL st j x):=
 ⟨Tv h.ok a o,by rw[<-h.len];simp[bL],by unfold bu;rw[DQ];exact h.cap,by rw[DQ];exact h.fit⟩
def fW{t':aG}{d:List au}{f:List bo}{g j:List af}{o m:Int}{b:List aw}{l:List aF}{a:List aA}
 (h:Rt k c ti U st m_ Z gr A nn V l_ O T) (w:ti<4611686018427387904) (hi:i<5) (p:xN k c d) (q:vC c f g j) (r:pO k (ti+1) a) (hrel:fo i st d)
 (s:dx i T a) (x:nn<=m) (y:bS k c.1 d m (a.length:Int) t' (a.getD (bm t').toNat ay.aa) (i:Int)=true) (u:pP k d (O.set i t') o)
 (v:rq c U b m l ((O.set i t').getD 4 aq.aa)):Rt k c (tick ti) U d f g o b m l j (O.set i t') a:=by
 have z:=fI h.sto.ok;have e:=ow h.ti0 w
 exact⟨h.cf,by have:=h.ti0;omega,by have:=h.nn0;omega,h.nw,p,q,by rw[e];exact r,by simp[h.tl],
  QU hi h.tl h.sto.len z h.loc h.tas hrel x s y,u,v⟩
theorem rq.other{t':aG}(h:rq c U A nn V (O.getD 4 aq.aa))(hi:¬i=4):rq c U A nn V ((O.set i t').getD 4 aq.aa):=by
 rw[getD_set_ne _ _ hi];exact h
def ME{c1 m n:Int}{st a:List au}{t:aG}{d:aA}(h:bS k c1 st nn m t d n=true)(b:t.2.1=0)(ho:1<=t.1/\t.1<=4)(hs:t.1=3->dG st t=true->dG a t=true):
 bS k c1 a nn m (t.1,1,t.2.2) d n=true:=by
 obtain h1|h1|h1|h1:t.1=1\/t.1=2\/t.1=3\/t.1=4:=by omega
 have q:=(gV h1).1 h;rw[a_ (by omega)]at q;refine(gV (t:=(t.1,1,t.2.2)) h1).2 ?_;rw[a_ (by show¬(1:Int)=2;omega)];exact⟨⟨q.1.1,q.1.2.1,q.1.2.2.1,(show(0:Int)<=1 by decide),(show(1:Int)<=2 by decide),q.1.2.2.2.2.2⟩,q.2.1,q.2.2.1,q.2.2.2.1,q.2.2.2.2.1.trans (by rw[b];exact(show((0:Int)=2↔(1:Int)=2) by decide)),q.2.2.2.2.2⟩;have q:=(ny h1).1 h;exact(ny (t:=(t.1,1,t.2.2)) h1).2 ⟨⟨q.1.1,q.1.2.1,q.1.2.2.1,(show(0:Int)<=1 by decide),(show(1:Int)<=1 by decide),q.1.2.2.2.2.2⟩,q.2⟩;have q:=(fG h1).1 h;rw[a_ (by omega)]at q;refine(fG (t:=(t.1,1,t.2.2)) h1).2 ?_;rw[a_ (by show¬(1:Int)=2;omega)];exact⟨⟨q.1.1,q.1.2.1,q.1.2.2.1,(show(0:Int)<=1 by decide),(show(1:Int)<=2 by decide),q.1.2.2.2.2.2⟩,q.2.1,q.2.2.1,q.2.2.2.1,q.2.2.2.2.1,q.2.2.2.2.2.1,hs h1 q.2.2.2.2.2.2.1,q.2.2.2.2.2.2.2⟩;have q:=(gC h1).1 h;exact(gC (t:=(t.1,1,t.2.2)) h1).2 ⟨⟨q.1.1,q.1.2.1,q.1.2.2.1,(show(0:Int)<=1 by decide),(show(1:Int)<=1 by decide),q.1.2.2.2.2.2⟩,q.2⟩
def yW{j:Nat}(h:Rt k c ti U st m_ Z gr A nn V l_ O T)(a:ti<4611686018427387904)(hi:i<3)(e:O.getD i aq.aa=t)(m:1<=t.1/\t.1<=4)(b:t.2.1=0)
 (o:aV k (t.1,1,t.2.2) st.length=(j:Int)) (f:j<st.length) (p:(st.getD j aj.aa).1= -1):
 Rt k c (tick ti) U (bL st j (i:Int)) m_ Z gr A nn V l_ (O.set i (t.1,1,t.2.2)) T:=by
 have d:=h.tas i (by omega);rw[e]at d;have q:=Mo d h.sto.len
 exact fW h a (by omega) (h.sto.held f (by omega)) h.sub (h.dee.up (by omega)) (fo.held i st j i) (dx.refl i T) (kk _)
  (ME d b m fun g l=>yj (fo.held i st j i) (q g) l)
  (SE (by omega) h.tl h.loc e (cM (.inl b)) o f p (eI (.inr b)) (eI (.inl (by show t.1<5;omega)))) (h.grp.other (by omega))
def dM(h:Rt k c ti U st m_ Z gr A nn V l_ O T)(hi:i<5)(f:O.getD i aq.aa=t)(g:¬t.1=0):
 bS k c.1 st nn (T.length:Int) t (T.getD (bm t).toNat ay.aa) (i:Int)=true/\(bm t).toNat<T.length/\(T.getD (bm t).toNat ay.aa).2.1=(i:Int)/\
 eQ k (T.getD (bm t).toNat ay.aa)=true/\(T.getD (bm t).toNat ay.aa).2.2.2.2.2.2.2.2.2.1<ti/\(T.getD (bm t).toNat ay.aa).2.2.2.2.2.2.2.2.2.2.1<ti:=by
 have a:=h.tas i hi;rw[f]at a;obtain⟨j,b2,b3⟩:=xY a g;have e:(bm t).toNat<T.length:=by omega
 have b:=h.dee _ (bz (d:=ay.aa) e);exact⟨a,e,j,b.1,b.2.1,b.2.2.1⟩
def JQ{s x:Bool}{j:Nat}{code:Int}{got:List af}(h:Rt k c ti U st m_ Z gr A nn V l_ O T)(a:ti<4611686018427387904)(hi:i<3)(b:O.getD i aq.aa=t)(ho:1<=t.1/\t.1<=4)
 (f:aV k t st.length=(j:Int)) (d:j<st.length) (hc:code∈jn (T.getD (bm t).toNat ay.aa).1):
 Rt k c (tick ti) U (bL st j (-1)) m_ Z gr A nn V l_ (O.set i zT) (T.set (bm t).toNat (eC s x (T.getD (bm t).toNat ay.aa) U ti code got)):=by
 obtain⟨hr,hn,g,l,m,o⟩:=dM h (by omega) b (by omega)
 exact fW h a (by omega) (h.sto.held d (by omega)) h.sub ((h.dee.up (by omega)).put (qg l h.nw.1 m o h.ti0 hc)) (fo.held i st j (-1)) (dx.put g) (kk _) (mO (by omega))
  (uR (by omega) h.tl h.loc b f (cM (.inl rfl)) (by simp[bL]) (Al d) (fun q _ e=>sS e) (eI (.inl (by omega))) (eI (.inl (by decide)))) (h.grp.other (by omega))
end
def sg{k:Nat}{op i j n U ti code:Int}{a:af}{l:List ag}{got:List af}(ho:1<=op/\op<=9)(hi: -1<=i/\i<=4)(hj:0<=j)(hn:0<=n)(hw:0<=U)(ht:0<=ti)(hc:code∈jn op):
 eQ k (op,i,a,l,j,n,code,got,U,ti,ti,ti)=true:=by
 unfold eQ aZ;have b:¬ti= -1:=by omega
 simp[b,hc];omega
def S0{a:af}{s:bo}(e:bh a=true)(hs:fp s=true):fp (mU a s)=true:=by
 unfold mU;split;exact hs;rename_i h;split;unfold fp bI;simp[kz];unfold fp bI at*
 have f:s.2=false:=by simpa using h
 simp only[eD,b_,f,Bool.not_false,Bool.true_or,true_and]at hs|-;rw[cX (d:=ae.aa) (p:=bh)]at hs|-;refine⟨by simp;omega,fun x b=> ?_⟩;rcases C'.1 b with b|b;exact hs.2 x b;rw[sd.1 b];exact e
section
variable{k:Nat}{c:aY}{ti U gr nn:Int}{st:List au}{m_:List bo}{Z l_:List af}{A:List aw}{V:List aF}{n_:List bq}{O:List aG}{T:List aA}{i:Nat}{t:aG}
theorem vC.tell{a:af}(h:vC c m_ Z l_)(p:bh a=true):vC c (m_.map (mU a)) (Z++[a]) (l_++[a]):=by
 refine⟨by simp[h.len],fun s q=> ?_,fun x o=> ?_,fun x o=> ?_⟩;obtain⟨u,v,rfl⟩:=List.mem_map.1 q;exact S0 p (h.sub u v);rcases C'.1 o with o|o;exact h.fee x o;rw[sd.1 o];exact p;rcases C'.1 o with o|o;exact h.sai x o;rw[sd.1 o];exact p
def Tp{a:af}{st:List au}(h:dp k st=true)(l:∀p∈st,p.2.1<4611686018427387904)(m:(st.getD (bg k st a.1).toNat aj.aa).1=(i:Int)):
 fo i st (dn k st a).1/\∀q,((dn k st a).1.getD q aj.aa).1=(st.getD q aj.aa).1:=by
 have j:=fI h;obtain⟨g,h2⟩:=iG (k:=k) (s:=a.1) j;rw[vn j];have hp:=(da.1 ((bQ.1 h).1 _ g)).2.2.2;have hvv:=l _ (bz (d:=aj.aa) g);have e:=Ak k (st.getD (bg k st a.1).toNat aj.aa) a;refine⟨⟨by simp,fun p f=> ?_⟩,fun q=> ?_⟩;by_cases b:(bg k st a.1).toNat=p;subst b;refine .inr ⟨m,?_⟩;dsimp only;rw[aL _ _ f,e.1,wrap64 (by omega) (by omega)];omega;exact .inl (by dsimp only;rw[getD_set_ne _ _ b]);dsimp only;by_cases b:(bg k st a.1).toNat=q;subst b;rw[aL _ _ g,e.2];rw[getD_set_ne _ _ b]
def Pr(h:Rt k c ti U st m_ Z gr A nn V l_ O T)(o:ti<4611686018427387904)(I:∀p∈st,p.2.1<4611686018427387904)(hi:i<3)(r:O.getD i aq.aa=t)(m:t.1=1)(N:t.2.1=1)
 (u:qZ k c st t.2.2.1=false):
 Rt k c (tick ti) U (dn k st t.2.2.1).1 m_ Z gr A nn V l_ (O.set i (t.1,2,(bD k (dn k st t.2.2.1).1 t.2.2.1.1).1,t.2.2.2))
  (T.set (bm t).toNat (pI (T.getD (bm t).toNat ay.aa) U ti (if(dn k st t.2.2.1).2=true then 1 else 2))):=by
 obtain⟨Q,R,S,f,hv1,hw⟩:=dM h (by omega) r (by omega);have J:=(gV m).1 Q;rw[a_ (by omega)]at J;obtain⟨⟨q1,q2,q3,q4,q5,q6,W,X,Y,B,C⟩,D,E,j,F,l,G,H⟩:=J;have v:=fI h.sto.ok;obtain⟨g1,g2⟩:=iG (k:=k) (s:=t.2.2.1.1) v;have a:=nM (k:=k) v m (.inl N);have d:=(h.loc.pt _ g1 i (by omega)).1 (by rw[r];exact a);obtain⟨p1,K,p3,L,p5⟩:=LR h.sto.ok H I;obtain⟨r1,r2⟩:=Tp (i:=i) h.sto.ok I d;obtain⟨M,f2⟩:=zH L;have b:=p5 h.sto.fit
 have hlin:(T.getD (bm t).toNat ay.aa).2.2.2.2.2.2.2.2.2.2.1= -1:=by
  by_cases e:(T.getD (bm t).toNat ay.aa).2.2.2.2.2.2.2.2.2.2.1= -1;exact e;have:=F.1 e;omega
 have g:xN k c (dn k st t.2.2.1).1:=by
  refine⟨p1,by rw[K];exact h.sto.len,?_,b⟩;have hc:=h.sto.cap;rw[p3,Kn h.sto.ok];unfold qZ at u;cases w:(bD k st t.2.2.1.1).2;rw[w]at u;have:¬c.2.1<=(bu st:Int):=by simpa using u
  simp;omega;simp[hc]
 refine fW h o (by omega) g h.sub ((h.dee.up (by omega)).put ?_) r1 (dx.put S) (kk _) ?_ ?_ (h.grp.other (by omega));unfold pI;dsimp only;refine⟨?_,by omega,by omega,by omega⟩;have x:=h.nw;have y:=h.ti0;unfold eQ aZ at f|-;simp only[eD,H_,b_]at f|-
 have z:(if(dn k st t.2.2.1).2=true then(1:Int)else 2)∈jn (T.getD (bm t).toNat ay.aa).1:=by
  rw[l];split<;>decide
 rw[a_ (by omega),b_];exact⟨⟨⟨⟨⟨⟨⟨⟨f.1.1.1.1.1.1.1.1,f.1.1.1.1.1.1.1.2⟩,f.1.1.1.1.1.1.2⟩,f.1.1.1.1.1.2⟩,f.1.1.1.1.2⟩,x.1⟩,.inr (by omega)⟩,.inl j⟩,z⟩;refine(gV (t:=(t.1,2,(bD k (dn k st t.2.2.1).1 t.2.2.1.1).1,t.2.2.2)) m).2 ?_;have P:bm (t.1,(2:Int),(bD k (dn k st t.2.2.1).1 t.2.2.1.1).1,t.2.2.2)=bm t:=rfl;rw[an rfl,P,aL _ _ R];dsimp only;unfold pI;dsimp only;rw[avI,M];have y:=h.ti0;exact⟨⟨q1,q2,q3,by omega,by omega,fc (b _ f2),W,X,Y,B,C⟩,D,E,j,⟨fun _=>rfl,fun _=>by omega⟩,l,by rw[G],L,rfl⟩;refine tB (by omega) h.tl h.loc r ?_ K (fun q _=>r2 q) ?_;rw[a,nM (t:=(t.1,2,(bD k (dn k st t.2.2.1).1 t.2.2.1.1).1,t.2.2.2)) v m (.inr rfl)];dsimp only;rw[M];rw[eI (.inl (by omega)),eI (.inl (by show t.1<5;omega))]
def Ti(h:Rt k c ti U st m_ Z gr A nn V l_ O T)(f:ti<4611686018427387904)(hi:i<3)(o:O.getD i aq.aa=t)(p:t.1=1)(g:t.2.1=2):
 Rt k c (tick ti) U (bL st (bg k st t.2.2.1.1).toNat (-1)) (m_.map (mU t.2.2.1)) (Z++[t.2.2.1]) gr A nn V (l_++[t.2.2.1]) (O.set i zT)
  ((T++[gK (oE i t.2.2.1) U ti ti ti]).set (bm t).toNat (nf (T.getD (bm t).toNat ay.aa) ti)):=by
 obtain⟨w,x,y,d,hv1,hw⟩:=dM h (by omega) o (by omega);have r:=(gV p).1 w;rw[an g]at r;obtain⟨⟨q1,q2,q3,q4,q5,z,q7,q8,q9,q10,q11⟩,q12,q13,q14,m,q16,q17,q18,q19⟩:=r;have u:=fI h.sto.ok;obtain⟨v,g2⟩:=iG (k:=k) (s:=t.2.2.1.1) u;have a:=nM (k:=k) u p (.inr g);have b:=m.2 g;have j:=h.nw;have l:=h.ti0
 refine fW h f (by omega) (h.sto.held v (by omega)) (h.sub.tell z) ((pO.app (h.dee.up (by omega)) ?_).put ?_) (fo.held i st _ (-1)) ((dx.app i T _).trans (dx.put ?_)) (kk _) (mO (by omega))
  (uR (by omega) h.tl h.loc o a (cM (.inl rfl)) (by simp[bL]) (Al v) (fun q _ e=>sS e) (eI (.inl (by omega))) (eI (.inl (by decide)))) (h.grp.other (by omega))
 unfold gK oE;dsimp only;refine⟨?_,by omega,by omega,by omega⟩;exact sg ⟨by decide,by decide⟩ (by omega) (by decide) (by decide) j.1 l (by decide);unfold nf;dsimp only;refine⟨?_,by omega,by omega,by omega⟩;unfold eQ aZ at d|-;simp only[eD,H_,b_]at d|-;refine⟨⟨d.1.1,.inr ⟨by simpa using b,by omega⟩⟩,d.2⟩;rw[avx,avR x,<-avx];exact y
def aU{b:aY}{a:Int}{r:Int×List au×List bo×List af×Int×List aw×Int×List aF×List bq×List af×List aG×List aA}:
 bC (true,b,a,r)=(true,b,tick a,r):=rfl
def Pe{s:Bool}(h:Rt k c ti U st m_ Z gr A nn V l_ O T)(a:ti<4611686018427387904)(q:∀p∈st,p.2.1<4611686018427387904)(hi:i<3)(b:O.getD i aq.aa=t)(e:t.1=1):
 (ia s k (c,ti,U,st,m_,Z,gr,A,nn,V,n_,l_,O,T) i).1=true->bE k (ia s k (c,ti,U,st,m_,Z,gr,A,nn,V,n_,l_,O,T) i).2=true:=by
 have g:=fI h.sto.ok;obtain⟨o,g2⟩:=iG (k:=k) (s:=t.2.2.1.1) g;obtain⟨r,hn,hb,l,hv1,hw⟩:=dM h (by omega) b (by omega);have m:=(gV e).1 r;unfold ia pA;dsimp only;rw[b];by_cases j:t.2.1=0;rw[an j];unfold ey;dsimp only;rw[b];by_cases d:(st.getD (bg k st t.2.2.1.1).toNat aj.aa).1= -1;rw[an d,aU];intro _;exact bF.2 (yW h a hi b (by omega) j (nM (t:=(t.1,1,t.2.2)) g e (.inl rfl)) o d);rw[a_ d];intro l;simp[bC]at l;rw[a_ j];by_cases f:t.2.1=1;rw[an f];by_cases d:qZ k c st t.2.2.1=true;rw[an d,aU];intro _;exact bF.2 (JQ h a hi b (by omega) (nM g e (.inl f)) o (by rw[m.2.2.2.2.2.1];decide));rw[a_ d,aU];intro _;exact bF.2 (Pr h a q hi b e f (by simpa using d));rw[a_ f,aU];intro _;have:=m.1.2.2.2;exact bF.2 (Ti h a hi b e (by omega))
def OA{s:Bool}(h:Rt k c ti U st m_ Z gr A nn V l_ O T)(a:ti<4611686018427387904)(hi:i<3)(b:O.getD i aq.aa=t)(e:t.1=2):
 (bC (lz s k (c,ti,U,st,m_,Z,gr,A,nn,V,n_,l_,O,T) i)).1=true->bE k (bC (lz s k (c,ti,U,st,m_,Z,gr,A,nn,V,n_,l_,O,T) i)).2=true:=by
 have f:=fI h.sto.ok;obtain⟨l,g2⟩:=iG (k:=k) (s:=t.2.2.2.1) f;obtain⟨p,hn,hb,m,hv1,hw⟩:=dM h (by omega) b (by omega);have g:=(ny e).1 p;unfold lz;dsimp only;rw[b];by_cases j:t.2.1=0;rw[an j];unfold ey;dsimp only;rw[b];by_cases d:(st.getD (bg k st t.2.2.2.1).toNat aj.aa).1= -1;rw[an d,aU];intro _;exact bF.2 (yW h a hi b (by omega) j (vK (t:=(t.1,1,t.2.2)) f e rfl) l d);rw[a_ d];intro m;simp[bC]at m;have o:t.2.1=1:=by have:=g.1;omega
 rw[a_ j];by_cases d:(bD k st t.2.2.2.1).2=true;rw[an d,aU];intro _;exact bF.2 (JQ h a hi b (by omega) (vK f e o) l (by rw[g.2.2.2.2.2.1];decide));rw[a_ d,aU];intro _;exact bF.2 (JQ h a hi b (by omega) (vK f e o) l (by rw[g.2.2.2.2.2.1];decide))
def M1{l m:List af}(e:bI l=true)(f:∀a∈m,bh a=true):bI (l++m)=true:=by
 unfold bI at*
 rw[cX (d:=ae.aa) (p:=bh)]at*
 intro x b;rcases C'.1 b with b|b;exact e x b;exact f x b
def Q3{l:List Int}{v:Int}(b:lh l=true)(e:0<=v):lh (l++[v])=true:=by
 unfold lh at*
 rw[cX (d:=(0:Int)) (p:=fun x=>decide (0<=x))]at*
 intro x a;rcases C'.1 a with a|a;exact b x a;rw[sd.1 a];exact c_ e
def jg{α:Type}{l m:List α}{n:Nat}(d:α)(h:n<l.length):(l++m).getD n d=l.getD n d:=by
 rw[avx,avR h,<-avx]
def rZ{α:Type}{l:List α}{x:α}(d:α):(l++[x]).getD l.length d=x:=by
 rw[avx,List.getElem?_append_right (avQ _)];simp
def OE{st:List au}{t:aG}{j:Nat}(h:dG st t=true)(b:j<st.length)(d:t.2.2.2.2.2.1.length=j):dG st (ky st t j)=true:=by
 rw[rl]at h|-;unfold ky;dsimp only;subst d;rw[r_,avy];constructor;intro p a;by_cases e:p<t.2.2.2.2.2.1.length;rw[jg _ e];exact h.1 p e;have:p=t.2.2.2.2.2.1.length:=by omega
 subst this;rw[rZ];exact kk _;intro g;rw[dK aj.aa b,h.2 fun p a=> ?_];have:=g p (by omega);rwa [jg _ a]at this
def Vy(h:Rt k c ti U st m_ Z gr A nn V l_ O T)(g:ti<4611686018427387904)(hi:i<3)(w:O.getD i aq.aa=t)(j:t.1=3)(C:t.2.1=1):
 Rt k c (tick ti) U (bL st t.2.2.2.2.1.toNat (-1)) m_ Z gr A nn V l_ (O.set i (ky st t t.2.2.2.2.1.toNat)) T:=by
 obtain⟨H,hn,hb,hd,hv1,hw⟩:=dM h (by omega) w (by omega);have x:=(fG j).1 H;rw[a_ (by omega)]at x;obtain⟨⟨q1,q2,q3,q4,q5,I,J,K,q9,l,m⟩,o,p,r,s,u,v,q18⟩:=x;have D:=fI h.sto.ok;have hlen:=h.sto.len;have h3:=(bQ.1 h.sto.ok).2;have f:t.2.2.2.2.1.toNat<st.length:=by omega
 have b:=da.1 ((bQ.1 h.sto.ok).1 _ f);have d:aV k t st.length=(t.2.2.2.2.1.toNat:Int):=by rw[vu D (.inl j) C];omega
 have y:(ky st t t.2.2.2.2.1.toNat).1=3:=j
 have z:(ky st t t.2.2.2.2.1.toNat).2.1=0\/(ky st t t.2.2.2.2.1.toNat).2.1=2/\t.2.2.2.2.1.toNat+1=st.length:=by
  unfold ky;dsimp only;split;exact .inr ⟨rfl,by assumption⟩;exact .inl rfl
 have E:¬(ky st t t.2.2.2.2.1.toNat).2.1=2->¬t.2.2.2.2.1.toNat+1=st.length:=by
  unfold ky;dsimp only;split;intro h;exact absurd rfl h;intro _;assumption
 refine fW h g (by omega) (h.sto.held f (by omega)) h.sub (h.dee.up (by omega)) (fo.held i st _ (-1)) (dx.refl i T) (kk _) ?_
  (uR (by omega) h.tl h.loc w d (cM (by rcases z with e|e;exact .inl e;exact .inr (.inr (.inr ⟨y,e.1⟩)))) (by simp[bL]) (Al f) (fun q _ e=>sS e) (eI (.inl (by omega))) (eI (.inl (by omega)))) (h.grp.other (by omega))
 have F:bm (ky st t t.2.2.2.2.1.toNat)=bm t:=rfl;rw[F];refine(fG y).2 ⟨⟨q1,q2,q3,by omega,by omega,I,J,Q3 K b.2.2.2,?_,M1 l fun a B=>fc (h.sto.fit a (G6.2 ⟨_,bz f,B⟩)),m⟩,o,p,r,s,u,?_,?_⟩;unfold ky;dsimp only;rw[r_,avy];omega;refine yj (fo.held i st _ (-1)) ?_ (OE v f (by omega));unfold ky;dsimp only;rw[r_,avy];omega;have G:(ky st t t.2.2.2.2.1.toNat).2.2.2.2.1=((t.2.2.2.2.1.toNat+1:Nat):Int):=rfl;rw[G];split;rename_i e;rcases z with L|L<;>omega;rename_i e;have:=E e;omega
def Gr{t':aG}{a:List aA}(h:Rt k c ti U st m_ Z gr A nn V l_ O T)(e:ti<4611686018427387904)(hi:i<3)(f:O.getD i aq.aa=t)(g:aV k t st.length= -1)(j:aV k t' st.length= -1)
 (l:t.1<5) (m:t'.1<5) (b:pO k (ti+1) a) (d:dx i T a) (o:bS k c.1 st nn (a.length:Int) t' (a.getD (bm t').toNat ay.aa) (i:Int)=true):
 Rt k c (tick ti) U st m_ Z gr A nn V l_ (O.set i t') a:=
 fW h e (by omega) h.sto h.sub b (fo.refl i st) d (kk _) o
  (tB (by omega) h.tl h.loc f (by rw[g,j]) rfl (fun _ _=>rfl) (by rw[eI (.inl l),eI (.inl m)])) (h.grp.other (by omega))
def MG{s:Bool}(h:Rt k c ti U st m_ Z gr A nn V l_ O T)(a:ti<4611686018427387904)(hi:i<3)(b:O.getD i aq.aa=t)(f:t.1=3):
 (bC (fx s k (c,ti,U,st,m_,Z,gr,A,nn,V,n_,l_,O,T) i)).1=true->bE k (bC (fx s k (c,ti,U,st,m_,Z,gr,A,nn,V,n_,l_,O,T) i)).2=true:=by
 have y:=fI h.sto.ok;obtain⟨E,hn,F,g,o,G⟩:=dM h (by omega) b (by omega);have z:=(fG f).1 E;obtain⟨⟨q1,q2,q3,q4,q5,q6,q7,q8,q9,q10,q11⟩,q12,q,r,u,e,q17,v⟩:=z;have hlen:=h.sto.len;unfold fx;dsimp only;rw[b];by_cases j:t.2.1=0;rw[an j];rw[a_ (by omega)]at v;have B:t.2.2.2.2.1.toNat<st.length:=by omega
 unfold ey;dsimp only;rw[b];by_cases l:(st.getD t.2.2.2.2.1.toNat aj.aa).1= -1;rw[an l,aU];intro _;exact bF.2 (yW h a hi b (by omega) j (by rw[vu (t:=(t.1,1,t.2.2)) y (.inl f) rfl];dsimp only;omega) B l);rw[a_ l];intro g;simp[bC]at g;rw[a_ j];by_cases m:t.2.1=1;rw[an m,aU];intro _;exact bF.2 (Vy h a hi b f m);rw[a_ m];have C:t.2.1=2:=by omega
 have d:aV k t st.length= -1:=cM (.inr (.inr (.inr ⟨f,C⟩)));by_cases w:jG st t.2.2.2.2.2.1=true;rw[an w,aU];intro _;exact bF.2 (Gr h a hi b d (cM (.inl rfl)) (by omega) (by decide) ((h.dee.up (by omega)).put (qg g h.nw.1 o G h.ti0 (by rw[e];decide))) (dx.put F) (mO (by omega)));rw[a_ w,aU];intro _;refine bF.2 (Gr h a hi b d (cM (.inl rfl)) (by omega) (by show(3:Int)<5;decide) (h.dee.up (by omega)) (dx.refl i T) ?_);have D:bm (oX ((bm t).toNat:Int))=((bm t).toNat:Int):=rfl;rw[D,avE];refine(fG (t:=oX ((bm t).toNat:Int)) rfl).2 ?_;have h3:=(bQ.1 h.sto.ok).2;rw[a_ (by show¬(0:Int)=2;decide)];refine⟨⟨q1,q2,by show(0:Int)<=((bm t).toNat:Int);omega,kk _,by show(0:Int)<=2;decide,rfl,rfl,by unfold lh oX;simp[kz],rfl,by unfold bI oX;simp[kz],rfl⟩,by show((bm t).toNat:Int)<_;omega,q,r,u,e,?_,kk _,by show(0:Int)<=2;decide,by show(0:Int)<_;omega⟩;rw[rl];unfold oX;exact⟨fun p x=>by simp at x,fun _=>by simp⟩
def Gy{j:Nat}(h:dp k st=true)(a:j<st.length)(g:(st.getD j aj.aa).1=(i:Int))(l:∀p∈st,p.2.1<4611686018427387904):
 fo i st (st.set j (-1,(dR (st.getD j aj.aa) U).2)):=by
 refine⟨by simp,fun p f=> ?_⟩;by_cases e:j=p;subst e;rw[aL _ _ f];by_cases b:0<(dg U (st.getD j aj.aa).2.2).length;refine .inr ⟨g,?_⟩;have hp2:=(da.1 ((bQ.1 h).1 _ a)).2.2.2;have hvv:=l _ (bz (d:=aj.aa) a);unfold dR;dsimp only;rw[an b,wrap64 (by omega) (by omega)];omega;rw[MA ((bQ.1 h).1 _ a) b];exact .inl rfl;rw[getD_set_ne _ _ e];exact .inl rfl
def Gn{j:Nat}(h:xN k c st)(d:j<st.length)(f:∀p∈st,p.2.1<4611686018427387904):xN k c (st.set j (-1,(dR (st.getD j aj.aa) U).2)):=by
 have e:=da.1 (O5 (U:=U) ((bQ.1 h.ok).1 _ d) (f _ (bz d)));refine⟨sQ h.ok (da.2 ⟨e.1,e.2.1,⟨by show(-1:Int)<=-1;decide,by show(-1:Int)<=4;decide⟩,e.2.2.2⟩),by rw[avI];exact h.len,?_,fun a b=> ?_⟩;have h1:=count_set (l:=st) (p:=(-1,(dR (st.getD j aj.aa) U).2)) d;have h2:=zP (st.getD j aj.aa) U;have h3:(aS (-1,(dR (st.getD j aj.aa) U).2)).length=(aS (dR (st.getD j aj.aa) U)).length:=rfl;have:=h.cap;omega;rcases xM b with b|b;exact h.fit a b;exact h.fit a (G6.2 ⟨_,bz d,OD (U:=U) b⟩)
def K3{s:Bool}(h:Rt k c ti U st m_ Z gr A nn V l_ O T)(g:ti<4611686018427387904)(u:∀p∈st,p.2.1<4611686018427387904)(hi:i<3)(l:O.getD i aq.aa=t)(v:t.1=4):
 (fu s k (c,ti,U,st,m_,Z,gr,A,nn,V,n_,l_,O,T) i).1=true->bE k (fu s k (c,ti,U,st,m_,Z,gr,A,nn,V,n_,l_,O,T) i).2=true:=by
 have H:=fI h.sto.ok;obtain⟨M,J,N,x,B,P⟩:=dM h (by omega) l (by omega);obtain⟨⟨q1,q2,q3,q4,q5,Q,R,q8,q9,C,D,o⟩,q12,E,F,G,r,q17⟩:=(gC v).1 M;have hlen:=h.sto.len;have f:t.2.2.2.2.1.toNat<st.length:=by omega
 unfold fu qa;dsimp only;rw[l];by_cases y:t.2.1=0;rw[an y];unfold ey;dsimp only;rw[l];by_cases z:(st.getD t.2.2.2.2.1.toNat aj.aa).1= -1;rw[an z,aU];intro _;exact bF.2 (yW h g hi l (by omega) y (by rw[vu (t:=(t.1,1,t.2.2)) H (.inr v) rfl];dsimp only;omega) f z);rw[a_ z];intro x;simp[bC]at x;have K:t.2.1=1:=by omega
 rw[a_ y,aU];intro _;have a:aV k t st.length=(t.2.2.2.2.1.toNat:Int):=by rw[vu H (.inr v) K];omega
 have b:=(h.loc.pt _ f i (by omega)).1 (by rw[l];exact a)
 have m:eQ k (gK (iA i t.2.2.2.2.1.toNat (dg U (st.getD t.2.2.2.2.1.toNat aj.aa).2.2)) U ti ti ti)=true:=
  sg (op:=5) (i:=(i:Int)) (j:=(t.2.2.2.2.1.toNat:Int)) (n:=0) (code:=8) ⟨by decide,by decide⟩ (by omega) (by omega) (by decide) h.nw.1 h.ti0 (by decide)
 have I:=pO.app (h.dee.up (show ti<=ti+1 by omega)) (d:=gK (iA i t.2.2.2.2.1.toNat (dg U (st.getD t.2.2.2.2.1.toNat aj.aa).2.2)) U ti ti ti) ⟨m,by show ti<ti+1;omega,by show ti<ti+1;omega,by show ti<ti+1;omega⟩;refine bF.2 ?_;by_cases w:t.2.2.2.2.1.toNat+1=st.length;rw[an w,an w]
 exact fW h g (by omega) (Gn h.sto f u) h.sub (I.put (qg x h.nw.1 B P h.ti0 (by rw[r];decide))) (Gy h.sto.ok f b u)
  ((dx.app i T _).trans (dx.put (by rw[jg _ J];exact N))) (kk _) (mO (by omega))
  (uR (by omega) h.tl h.loc l a (cM (.inl rfl)) (by simp) (by rw[aL _ _ f]) (fun q _ e=>by rw[getD_set_ne _ _ e]) (eI (.inl (by omega))) (eI (.inl (by decide)))) (h.grp.other (by omega))
 rw[a_ w,a_ w]
 refine fW h g (by omega) (Gn h.sto f u) h.sub I (Gy h.sto.ok f b u) (dx.app i T _) (kk _) ?_
  (uR (by omega) h.tl h.loc l a (cM (.inl rfl)) (by simp) (by rw[aL _ _ f]) (fun q _ e=>by rw[getD_set_ne _ _ e]) (eI (.inl (by omega))) (eI (.inl (by show t.1<5;omega)))) (h.grp.other (by omega))
 have L:bm (t.1,(0:Int),t.2.2.1,t.2.2.2.1,((t.2.2.2.2.1.toNat+1:Nat):Int),t.2.2.2.2.2)=bm t:=rfl;rw[L,jg _ J,r_,avy];refine(gC (t:=(t.1,(0:Int),t.2.2.1,t.2.2.2.1,((t.2.2.2.2.1.toNat+1:Nat):Int),t.2.2.2.2.2)) v).2 ?_;have h3:=(bQ.1 h.sto.ok).2;exact⟨⟨q1,q2,q3,kk _,by show(0:Int)<=1;decide,Q,R,by dsimp only;omega,by dsimp only;omega,C,D,o⟩,by dsimp only;omega,E,F,G,r,by dsimp only;omega⟩
end
def sP{a b:aF}(h:bw a b=true):bw b a=false:=by
 unfold bw at*;simp at*;omega
def before_trans{a b c:aF}(h:bw a b=true)(h2:bw b c=true):bw a c=true:=by
 unfold bw at*;simp at*;omega
def wE{a b c:aF}(h:bw a b=false)(h2:bw b c=false):bw a c=false:=by
 unfold bw at*;simp at*;omega
abbrev kt(l:List aF)(i:Nat):aF:=l.getD i aE.aa
def HP(l:List aF):Prop:=∀j,j<l.length->0<j->bw (kt l j) (kt l ((j-1)/2))=false
def HPu(l:List aF)(i:Nat):Prop:=
 (∀j,j<l.length->0<j->¬j=i->bw (kt l j) (kt l ((j-1)/2))=false)/\
 (0<i->∀j,j<l.length->0<j->(j-1)/2=i->bw (kt l j) (kt l ((i-1)/2))=false)
def HPd(l:List aF)(i:Nat):Prop:=
 (∀j,j<l.length->0<j->¬(j-1)/2=i->bw (kt l j) (kt l ((j-1)/2))=false)/\
 (0<i->∀j,j<l.length->0<j->(j-1)/2=i->bw (kt l j) (kt l ((i-1)/2))=false)
def Pg{l:List aF}{i j:Nat}(hi:i<l.length)(b:j<l.length)(n:Nat):kt (qS l i j) n=if n=j then kt l i else if n=i then kt l j else kt l n:=by
 unfold qS kt;by_cases e:n=j;subst e;rw[an rfl,aL _ _ (by simpa using b)];rw[a_ e,getD_set_ne _ _ (Ne.symm e)];by_cases a:n=i;subst a;rw[an rfl,aL _ _ hi];rw[a_ a,getD_set_ne _ _ (Ne.symm a)]
def JI{l:List aF}{i j:Nat}(hi:i<l.length)(a:j<l.length):(qS l i j).Perm l:=by
 unfold qS;rw[bJ _ hi,bJ _ a];exact List.set_set_perm hi a
def P9:∀(i:Nat) {l:List aF},i<l.length->HPu l i->HP (D7 l i):=by
 intro i
 induction i using awi with
 |_ i y=>
  intro l u h;rw[D7];by_cases p:0<i;rw[dif_pos p];by_cases g:bw (l.getD i aE.aa) (l.getD ((i-1)/2) aE.aa)=true;rw[an g];have w:(i-1)/2<i:=by omega
  have m:=Pg (l:=l) u (show(i-1)/2<l.length by omega);refine y _ w (by rw[dX];omega) ⟨fun j b a o=> ?_,fun f j b a v=> ?_⟩;rw[dX]at b;rw[m,m,a_ o];by_cases d:j=i;subst d;rw[an rfl,an rfl];exact sP g;rw[a_ d];by_cases q:(j-1)/2=(i-1)/2;rw[an q];have:=h.1 j b a d;rw[q]at this;cases x:bw (kt l j) (kt l i);rfl;rw[before_trans x g]at this;cases this;rw[a_ q];by_cases r:(j-1)/2=i;rw[an r];exact h.2 p j b a r;rw[a_ r];exact h.1 j b a d;rw[dX]at b;rw[m,m,a_ (by omega),a_ (show¬((i-1)/2-1)/2=(i-1)/2 by omega),a_ (show¬((i-1)/2-1)/2=i by omega)];by_cases d:j=i;rw[an d];exact h.1 _ (by omega) f (by omega);rw[a_ d];have s:=h.1 j b a d;rw[v]at s;exact wE s (h.1 _ (by omega) f (by omega));rw[a_ g];intro j b a;by_cases e:j=i;subst e;simpa using g;exact h.1 j b a e;rw[dif_neg p];intro j b a;exact h.1 j b a (by omega)
def QE:∀(i:Nat) {l:List aF},i<l.length->(D7 l i).Perm l:=by
 intro i
 induction i using awi with
 |_ i e=>
  intro l d;rw[D7];by_cases a:0<i;rw[dif_pos a];by_cases b:bw (l.getD i aE.aa) (l.getD ((i-1)/2) aE.aa)=true;rw[an b];exact(e _ (by omega) (by rw[dX];omega)).trans (JI d (by omega));rw[a_ b];rw[dif_neg a]
def OJ{l:List aF}{i:Nat}(h:2*i+1<l.length):eZ l i<l.length/\(eZ l i-1)/2=i/\i<eZ l i:=by
 unfold eZ;split<;>omega
def GD{l:List aF}{i j:Nat}(h:2*i+1<l.length)(b:j<l.length)(h0:0<j)(he:(j-1)/2=i):bw (kt l j) (kt l (eZ l i))=false:=by
 have a:bw (kt l j) (kt l j)=false:=by unfold bw;simp
 unfold eZ;split;rename_i hk;obtain rfl|rfl:j=2*i+1\/j=2*i+2:=by omega
 exact sP hk.2;exact a;rename_i hk;obtain rfl|rfl:j=2*i+1\/j=2*i+2:=by omega
 exact a;have:¬bw (kt l (2*i+2)) (kt l (2*i+1))=true:=fun h=>hk ⟨b,h⟩;simpa using this
def NJ:∀n (l:List aF) (i:Nat),l.length-i<=n->i<l.length->HPd l i->HP (oQ l i):=by
 intro n
 induction n with
 |zero=>intro l i v r h;omega
 |succ n x=>
  intro l i v r h;rw[oQ];by_cases f:2*i+1<l.length;rw[dif_pos f];obtain⟨u,q,k3⟩:=OJ f;by_cases g:bw (l.getD (eZ l i) aE.aa) (l.getD i aE.aa)=true;rw[an g];have m:=Pg (l:=l) r u;refine x _ _ (by rw[dX];omega) (by rw[dX];omega) ⟨fun j b a o=> ?_,fun hp0 j b a w=> ?_⟩;rw[dX]at b;rw[m,m,a_ o];by_cases d:(j-1)/2=i;rw[an d];by_cases s:j=eZ l i;rw[an s];exact sP g;rw[a_ s,a_ (by omega)];exact GD f b a d;rw[a_ d,a_ (by intro e;rw[e]at d;exact d q)];by_cases p:j=i;rw[an p];subst p;exact h.2 a _ u (by omega) q;rw[a_ p];exact h.1 j b a d;rw[dX]at b;rw[q,m,m,a_ (by omega),a_ (by omega),a_ (by omega),an rfl];have:=h.1 j b a (by omega);rwa [w]at this;rw[a_ g];intro j b a;by_cases e:(j-1)/2=i;rw[e];exact wE (GD f b a e) (by simpa using g);exact h.1 j b a e;rw[dif_neg f];intro j b a;exact h.1 j b a (by omega)
def Mv:∀n (l:List aF) (i:Nat),l.length-i<=n->i<l.length->(oQ l i).Perm l:=by
 intro n
 induction n with
 |zero=>intro l i e b;omega
 |succ n g=>
  intro l i e b;rw[oQ];by_cases a:2*i+1<l.length;rw[dif_pos a];obtain⟨f,k2,k3⟩:=OJ a;by_cases d:bw (l.getD (eZ l i) aE.aa) (l.getD i aE.aa)=true;rw[an d];exact(g _ _ (by rw[dX];omega) (by rw[dX];omega)).trans (JI b f);rw[a_ d];rw[dif_neg a]
def qb{l:List aF}:lj l=true↔(∀x∈l,0<=x.1/\0<=x.2)/\HP l/\l.length<=16:=by
 unfold lj;rw[jI,eD,eD,cX (d:=aE.aa) (p:=fun x=>decide (0<=x.1)&&decide (0<=x.2)),decide_eq_true_iff,and_assoc,bM];refine and_congr (by simp) (and_congr ?_ avX);unfold HP;simp only[H_,beq_iff_eq,avK]
 exact⟨fun h j a h0=>(h j (by omega) a).resolve_left (by omega),fun h j _ a=>by
  by_cases e:j=0;exact .inl e;exact .inr (h j a (by omega))⟩
def oY(l:List aF)(t:aF):(tf l t).Perm (l++[t]):=QE _ (by simp)
def L5{l:List aF}{t:aF}(h:lj l=true)(f:0<=t.1/\0<=t.2)(hl:l.length<=15):lj (tf l t)=true:=by
 rw[qb]at h|-;have e:=oY l t;refine⟨fun x a=> ?_,P9 _ (by simp) ⟨fun j b d hne=> ?_,fun d j b hj0 he=> ?_⟩,by rw[e.length_eq];simp;omega⟩;rcases C'.1 (e.mem_iff.1 a)with a|a;exact h.1 x a;rw[sd.1 a];exact f;rw[r_,avy]at b;unfold kt;rw[jg _ (by omega),jg _ (by omega)];exact h.2.1 j (by omega) d;rw[r_,avy]at b;omega
def vG{l:List aF}(h:0<l.length):((dS l).2.1::(dS l).1).Perm l:=by
 unfold dS;rw[a_ (by omega)];dsimp only;by_cases b:l.length=1;rw[an b];obtain⟨x,rfl⟩:=List.length_eq_one_iff.1 b;exact List.Perm.refl _;rw[a_ b];have hlen:((l.take (l.length-1)).set 0 (l.getD (l.length-1) aE.aa)).length=l.length-1:=by simp
 refine((Mv _ _ 0 (avQ _) (by omega)).cons _).trans ?_;cases l with
 |nil=>simp at h
 |cons a l=>
  have hl:0<l.length:=by rw[avP]at b;omega
  obtain⟨m,hm⟩:∃m,l.length=m+1:=⟨l.length-1,by omega⟩
  have d:(a::l).length-1=m+1:=by simp;omega
  rw[d,List.take_succ_cons,awb,av7,av8];refine List.Perm.cons a ?_
  have e:l=l.take m++[l.getD m aE.aa]:=by
   have:=av3 m l;rw[bJ _ (by omega)]
   conv=>lhs;rw[<-this]
   congr 1;rw[List.drop_eq_getElem_cons (by omega),List.drop_eq_nil_of_le (by omega)]
  conv=>rhs;rw[e]
  exact(List.perm_append_singleton _ _).symm
def P6{l:List aF}(h:lj l=true)(d:0<l.length):lj (dS l).1=true:=by
 have e:=vG d;rw[qb]at h|-;refine⟨fun x g=>h.1 x (e.mem_iff.1 (avG _ g)),?_,by have:=e.length_eq;simp at this;omega⟩;unfold dS;rw[a_ (by omega)];dsimp only;by_cases f:l.length=1;rw[an f];intro j a;simp at a;rw[a_ f];have hlen:((l.take (l.length-1)).set 0 (l.getD (l.length-1) aE.aa)).length=l.length-1:=by simp
 refine NJ _ _ 0 (avQ _) (by omega) ⟨fun j a b hne=> ?_,fun d=>by omega⟩;rw[hlen]at a;unfold kt;rw[getD_set_ne _ _ (by omega),getD_set_ne _ _ (by omega)]
 have:∀n,n<l.length-1->(l.take (l.length-1)).getD n aE.aa=l.getD n aE.aa:=by
  intro n hn;rw[bJ _ (by simp;omega),bJ _ (by omega),avN]
 rw[this _ a,this _ (by omega)];exact h.2.1 j (by omega) b
def bytes_inj{a b:ByteArray}(h:a.toList=b.toList):a=b:=by
 have:=wg a b;rw[h,beq_self_eq_true]at this;exact e_ this.symm
theorem I3:∀ {l m:List ag},BN l=BN m->l=m
 | [],[],_=>rfl
 | [],b::m,h=>by simp[BN]at h
 |a::l,[],h=>by simp[BN]at h
 |(a1,a2)::l,(b1,b2)::m,h=>by
  simp only[BN,List.cons.injEq]at h;rw[bytes_inj h.1,bytes_inj h.2.1,I3 h.2.2]
def SI{s x:List ag}(a:bp s x=false)(d:¬x=s):bp x s=true:=by
 rw[GO]at a|-;rw[d_]at a;rw[b_];refine Decidable.byContradiction fun b=>d ?_;exact I3 (List.le_antisymm (List.not_lt.1 a) (List.not_lt.1 b))
abbrev sX(l:List af):Prop:=l.Pairwise (fun a b=>bp a.1 b.1=true)
def LG{l:List af}{key:List ag}{by_:List ByteArray}:qh l key by_=true↔(∀a∈l,bh a=true/\keyOf a by_=key)/\sX l:=by
 unfold qh sX;rw[<-DJ (r:=fun a b:af=>bp a.1 b.1=true) (d:=ae.aa) (fun a b c f g=>k9.trans _ _ _ f g)];have:∀j,(bh (l.getD j ae.aa)&&(decide (keyOf (l.getD j ae.aa) by_=key)&&yd l j))=((bh (l.getD j ae.aa)&&decide (keyOf (l.getD j ae.aa) by_=key))&&yd l j):=fun j=>(awj ..).symm;simp only[this];rw[jI,eD,cX (d:=ae.aa) (p:=fun a=>bh a&&decide (keyOf a by_=key)),bM];refine and_congr (by simp) ?_;simp only[yd,H_,beq_iff_eq];exact⟨fun h i e=>h i (by omega) e,fun h i _ e=>h i e⟩
def gk{g:aw}{by_:List ByteArray}:eB g by_=true↔0<=g.1/\cZ g.2.1=true/\(0<=g.2.2.1/\g.2.2.1<=99999)/\(g.2.2.2.1= -1\/(g.2.2.1<=g.2.2.2.1/\g.2.2.2.1<=99999))/\0<g.2.2.2.2.length/\(∀a∈g.2.2.2.2,bh a=true/\keyOf a by_=g.2.1)/\sX g.2.2.2.2:=by
 unfold eB aZ;simp only[eD,H_,b_,LG]
def cj{l:List aw}{by_:List ByteArray}:dQ l by_=true↔l.length<=12/\(∀g∈l,eB g by_=true)/\l.Pairwise (fun a b=>a.1<b.1)/\l.Pairwise (fun a b=>¬a.2.1=b.2.1):=by
 unfold dQ;rw[<-DJ (d:=al.aa) (fun a b c h1 h2=>by omega),<-jh (d:=al.aa),jI,jI];simp only[eD,b_,cX (l:=l) (d:=al.aa) (p:=fun g=>eB g by_),bM,JK,pn,H_,beq_iff_eq,avK,d_];refine and_congr avX (and_congr avX (and_congr ?_ ?_));exact⟨fun h i e=>h i (by omega) e,fun h i _ e=>h i e⟩;exact⟨fun h i e j f=>h i (by omega) e j (by omega) f,fun h i _ e j _ f=>h i e j f⟩
def Ks{l:List af}{s:List ag}(i:Nat)(h:i<gu l s):bp s (l.getD i ae.aa).1=false:=by
 unfold gu at h;cases e:fv l.length (fun i=>bp s (l.getD i ae.aa).1)with
 |none=>rw[e]at h;exact gB.1 e i h
 |some j=>rw[e]at h;exact(aR.1 e).2.2 i h
def Rl{l:List af}{s:List ag}(h:gu l s<l.length):bp s (l.getD (gu l s) ae.aa).1=true:=by
 unfold gu at h|-;cases e:fv l.length (fun i=>bp s (l.getD i ae.aa).1)with
 |none=>rw[e]at h;simp at h
 |some j=>exact(aR.1 e).2.1
def P1{l:List af}{a:af}(h:sX l)(q:∀x∈l,¬x.1=a.1):sX (l.take (gu l a.1)++[a]++l.drop (gu l a.1)):=by
 have g:∀c∈l.take (gu l a.1),bp c.1 a.1=true:=by
  intro c hc;obtain⟨i,p,e⟩:=avD hc;rw[avT]at p;have f:=Ks (l:=l) (s:=a.1) i (by omega);rw[bJ _ (by omega)]at f;rw[<-e,avN];exact SI f (q _ (avS _))
 have m:∀c∈l.drop (gu l a.1),bp a.1 c.1=true:=by
  intro c hc;obtain⟨i,p,e⟩:=avD hc;rw[av1]at p;have f:=Rl (l:=l) (s:=a.1) (by omega);rw[bJ _ (by omega)]at f;rw[avY]at e;rw[<-e];by_cases o:i=0;subst o;exact f;have:=avF.1 h (gu l a.1) (gu l a.1+i) (by omega) (by omega) (by omega);exact k9.trans _ _ _ f this
 unfold sX at*
 rw[avC,avC];refine⟨⟨h.sublist (awd _ _),avz _ _,fun x d b j=> ?_⟩,h.sublist (awe _ _),fun x d b j=> ?_⟩;rw[sd.1 j];exact g x d;have:=m b j;rcases C'.1 d with d|d;exact k9.trans _ _ _ (g x d) this;rw[sd.1 d];exact this
def O0{l:List af}{a x:af}(h:x∈gy l a):x∈l\/x=a:=by
 unfold gy at h;split at h;exact avv h;rcases C'.1 h with h|h;rcases C'.1 h with h|h;exact .inl (avO h);exact .inr (sd.1 h);exact .inl (avL h)
def Rk{g:aw}{a:af}{by_:List ByteArray}(h:eB g by_=true)(o:bh a=true)(hk:keyOf a by_=g.2.1):eB (ij g a) by_=true:=by
 rw[gk]at h|-;obtain⟨p,q,r,s,u,h6,h7⟩:=h;refine⟨p,q,r,s,?_,fun x j=> ?_,?_⟩;show 0<(gy g.2.2.2.2 a).length;unfold gy;split;rw[avI];exact u;simp only[r_,avy];omega;rcases O0 j with j|rfl;exact h6 x j;exact⟨o,hk⟩;show sX (gy g.2.2.2.2 a);unfold gy;split;rename_i i l;have e:(g.2.2.2.2.set i a).map (·.1)=g.2.2.2.2.map (·.1):=iv (d:=ae.aa) (e_ (aR.1 l).2.1).symm;have h8:=(avB (f:=fun x:af=>x.1) (R:=fun a b=>bp a b=true)).2 h7;rw[<-e]at h8;exact(avB (f:=fun x:af=>x.1) (R:=fun a b=>bp a b=true)).1 h8;rename_i l;refine P1 h7 fun x j=> ?_;obtain⟨i,m,rfl⟩:=iX ae.aa j;have:=gB.1 l i m;simpa using this
def Gt{l:List ag}:cZ l=true↔l.length<=4/\(∀x∈l,eA x=true)/\l.Pairwise (fun a b=>ly a.1 b.1=true):=by
 unfold cZ
 rw[<-DJ (r:=fun a b:ag=>ly a.1 b.1=true) (d:=ak.aa) (fun a b c f g=>by
  rw[Rb,b_]at f g|-;exact List.lt_trans f g),jI]
 simp only[eD,b_,cX (l:=l) (d:=ak.aa) (p:=eA),bM,xF,H_,beq_iff_eq];refine and_congr avX (and_congr avX ?_);exact⟨fun h i e=>h i (by omega) e,fun h i _ e=>h i e⟩
def QV{a:af}{by_:List ByteArray}(h:bh a=true):cZ (keyOf a by_)=true:=by
 have b:cZ a.1=true:=by unfold bh at h;simp only[eD]at h;exact h.1.1.1.1
 rw[Gt]at b|-;unfold keyOf;exact⟨avH (List.length_filter_le _ _) b.1,fun x d=>b.2.1 x ((avV.1 d).1),b.2.2.filter _⟩
def SU{c:aY}{a:af}{nn U:Int}(h:bh a=true)(d:0<=nn)(e:0<=U/\U<=99899):eB (na c a nn U) c.2.2.2.2.2=true:=
 gk.2 ⟨d,QV h,⟨e.1,by show U<=99999;omega⟩,.inl rfl,by show 0< [a].length;simp,fun x b=>by
  have:x=a:=sd.1 b;subst this;exact⟨h,rfl⟩,avz _ _⟩
def pJ{l:List aw}{key:List ag}{i:Nat}(h:eJ l key=some i):i<l.length/\(l.getD i al.aa).2.1=key:=
 ⟨(aR.1 h).1,by simpa using(aR.1 h).2.1⟩
def K7{l:List aw}{key:List ag}(h:eJ l key=none):∀g∈l,¬g.2.1=key:=by
 intro g a;obtain⟨i,b,rfl⟩:=iX al.aa a;have:=gB.1 h i b;simpa using this
def Ck{l:List aw}{i:Nat}{g:aw}{by_:List ByteArray}(h:dQ l by_=true)(m:eB g by_=true)(o:g.1=(l.getD i al.aa).1)(p:g.2.1=(l.getD i al.aa).2.1):dQ (l.set i g) by_=true:=by
 rw[cj]at h|-;refine⟨by rw[avI];exact h.1,fun x j=> ?_,?_,?_⟩;rcases avv j with j|rfl;exact h.2.1 x j;exact m;have e:(l.set i g).map (·.1)=l.map (·.1):=iv (d:=al.aa) o;have h8:=(avB (f:=fun x:aw=>x.1) (R:=fun a b=>a<b)).2 h.2.2.1;rw[<-e]at h8;exact(avB (f:=fun x:aw=>x.1) (R:=fun a b=>a<b)).1 h8;have e:(l.set i g).map (·.2.1)=l.map (·.2.1):=iv (d:=al.aa) p;have h8:=(avB (f:=fun x:aw=>x.2.1) (R:=fun a b=>¬a=b)).2 h.2.2.2;rw[<-e]at h8;exact(avB (f:=fun x:aw=>x.2.1) (R:=fun a b=>¬a=b)).1 h8
def M7{l:List aw}{g:aw}{by_:List ByteArray}(h:dQ l by_=true)(j:eB g by_=true)(hl:l.length<12)(m:∀x∈l,x.1<g.1)(o:∀x∈l,¬x.2.1=g.2.1):dQ (l++[g]) by_=true:=by
 rw[cj]at h|-;refine⟨by simp;omega,fun x d=> ?_,avC.2 ⟨h.2.2.1,avz _ _,fun a e b f=> ?_⟩,avC.2 ⟨h.2.2.2,avz _ _,fun a e b f=> ?_⟩⟩;rcases C'.1 d with d|d;exact h.2.1 x d;rw[sd.1 d];exact j;rw[sd.1 f];exact m a e;rw[sd.1 f];exact o a e
def MY{l:List aw}{i:Nat}{by_:List ByteArray}(h:dQ l by_=true):dQ (l.take i++l.drop (i+1)) by_=true:=by
 rw[cj]at h|-
 have a:(l.take i++l.drop (i+1)).Sublist l:=by
  rw[<-avU];exact av4 _ _
 exact⟨avH a.length_le h.1,fun x b=>h.2.1 x (a.subset b),h.2.2.1.sublist a,h.2.2.2.sublist a⟩
def fQ{l:List aw}{n:Int}{i:Nat}(h:dW l n=some i):i<l.length/\(l.getD i al.aa).1=n:=
 ⟨(aR.1 h).1,by simpa using(aR.1 h).2.1⟩
def zN{l:List aw}{n:Int}(h:dW l n=none):∀g∈l,¬g.1=n:=by
 intro g a;obtain⟨i,b,rfl⟩:=iX al.aa a;have:=gB.1 h i b;simpa using this
def Pk{g:aw}{U:Int}{by_:List ByteArray}(h:eB g by_=true)(e:g.2.2.1<=U)(h2:U<=99899)(b:¬(fR g U).2.2.2.2=[]):eB (fR g U) by_=true:=by
 rw[gk]at h|-;obtain⟨q1,q2,q3,q4,q5,f,j⟩:=h;refine⟨q1,q2,q3,.inr ⟨e,by show U<=99999;omega⟩,List.length_pos_iff.2 b,fun a d=>f a (yB d),?_⟩;show sX (dh U g.2.2.2.2);unfold dh;exact j.filter _
def Co{l:List aw}{by_:List ByteArray}(h:dQ l by_=true){g:aw}{i:Nat}(b:g∈l)(hi:i<l.length)(he:g.1=(l.getD i al.aa).1):g=l.getD i al.aa:=by
 obtain⟨j,m,rfl⟩:=iX al.aa b;have f:=(cj.1 h).2.2.1;by_cases e:i=j;rw[e];have a:=jh (d:=al.aa).2 f;rcases awc e with h6|h6;have:=a j m i h6;omega;have:=a i hi j h6;omega
def qe{l m:List aF}(h:l.Perm m):l.Pairwise (fun a b=>¬a.2=b.2)↔m.Pairwise (fun a b=>¬a.2=b.2):=h.pairwise_iff (fun h e=>h e.symm)
section
variable{k:Nat}{c:aY}{ti U gr nn:Int}{st:List au}{m_:List bo}{Z l_:List af}{A:List aw}{V:List aF}{n_:List bq}{O:List aG}{T:List aA}{t:aG}
def Ow(h:cY c=true):1<=c.2.2.2.1/\c.2.2.2.1<=9/\1<=c.2.2.2.2.1/\c.2.2.2.2.1<=9:=by
 unfold cY aZ at h;simp only[eD,b_]at h;omega
def OX{g:aw}(hc:cY c=true)(h1:0<=g.2.2.1/\g.2.2.1<=99999)(h2:g.2.2.2.1= -1\/(g.2.2.1<=g.2.2.2.1/\g.2.2.2.1<=99999)):0<=ik c g:=by
 have:=Ow hc;unfold ik;split;rw[wrap64 (by omega) (by omega)];omega;rw[wrap64 (by omega) (by omega)];omega
theorem vC.drop{n:Nat}(h:vC c m_ Z l_):vC c m_ (Z.drop n) l_:=⟨h.len,h.sub,fun a o=>h.fee a (avL o),h.sai⟩
def JV{i:Nat}(h:Rt k c ti U st m_ Z gr A nn V l_ O T)(d:ti<4611686018427387904)(hi:i=3/\t.1=5\/i=4/\t.1=6)(b:O.getD i aq.aa=t)(j:t.2.1=0)(l:gr= -1):
 Rt k c (tick ti) U st m_ Z (i:Int) A nn V l_ (O.set i (t.1,1,t.2.2)) T:=by
 have a:i<5:=by omega
 have e:=h.tas i a;rw[b]at e
 have f:bN (t.1,(1:Int),t.2.2)=true:=by
  unfold bN;rcases hi with hi|hi<;>simp[hi.2]
 have m:5<=t.1:=by omega
 refine fW h d a h.sto h.sub (h.dee.up (by omega)) (fo.refl i st) (dx.refl i T) (kk _) ?_ (QJ a h.tl h.loc b (cM (.inl j)) (cM (.inr (.inr (.inl m)))) l f) ?_;have o:bm (t.1,(1:Int),t.2.2)=bm t:=rfl;rw[o];rcases hi with hi|hi;have q:=(je hi.2).1 e;exact(je (t:=(t.1,(1:Int),t.2.2)) hi.2).2 ⟨⟨q.1.1,q.1.2.1,(show(0:Int)<=1 by decide),(show(1:Int)<=1 by decide),q.1.2.2.2.2⟩,q.2⟩;have q:=(fP hi.2).1 e;exact(fP (t:=(t.1,(1:Int),t.2.2)) hi.2).2 ⟨⟨q.1.1,q.1.2.1,(show(0:Int)<=1 by decide),(show(1:Int)<=1 by decide),q.1.2.2.2.2⟩,q.2⟩;rcases hi with hi|hi;exact h.grp.other (by omega);rw[hi.1]at b|-;rw[aL _ _ (by rw[h.tl];decide)];have g:=h.grp;rw[b]at g;exact⟨g.go,g.ho,g.tm,g.ap,g.td⟩
def OK{a:af}{n:Nat}(h:Rt k c ti U st m_ Z gr A nn V l_ O T)(b:ti<4611686018427387904)(d:O.getD 3 aq.aa=t)(e:t.1=0)(f:bh a=true):
 Rt k c (tick ti) U st m_ (Z.drop n) gr A nn V l_ (O.set 3 (vp a T.length)) (T++[Dv a U ti]):=by
 refine fW h b (by decide) h.sto h.sub.drop ((h.dee.up (by omega)).app ⟨xG ⟨by decide,by decide⟩ ⟨by decide,by decide⟩ (by decide) h.nw.1 h.ti0,by show ti<ti+1;omega,by show-1<ti+1;have:=h.ti0;omega,by show-1<ti+1;have:=h.ti0;omega⟩)
  (fo.refl _ st) (dx.app _ T _) (kk _) ?_ (tB (by decide) h.tl h.loc d (by rw[cM (.inl rfl),cM (.inr (.inl e))]) rfl (fun _ _=>rfl) (by rw[eI (.inr rfl),eI (.inl (by omega))])) (h.grp.other (by decide))
 have g:bm (vp a (T.length:Int))=((T.length:Nat):Int):=rfl;rw[g,avE,rZ];refine(je (t:=vp a (T.length:Int)) rfl).2 ⟨⟨rfl,by show(0:Int)<=(T.length:Int);omega,kk _,(show(0:Int)<=1 by decide),f,rfl,rfl,rfl,rfl,rfl⟩,by show(T.length:Int)<_;rw[r_,avy];omega,rfl,rfl,rfl,rfl,rfl⟩
def EA{s x:Bool}{code:Int}{got:List af}{b:List aw}{g n:Int}{e:List aF}{setit:Bool}(h:Rt k c ti U st m_ Z gr A nn V l_ O T)(p:ti<4611686018427387904)(r:O.getD 3 aq.aa=t)(u:t.1=5)(y:t.2.1=1)
 (z:nn<=g) (hc:code∈jn 7) (B:0<=n) (j:rq c U b g e (O.getD 4 aq.aa)):
 Rt k c (tick ti) U st m_ Z (-1) b g e l_ (O.set 3 zT) (T.set (bm t).toNat (eC s x (if setit=true then qn (T.getD (bm t).toNat ay.aa) n else T.getD (bm t).toNat ay.aa) U ti code got)):=by
 obtain⟨C,hn1,D,f,o,w⟩:=dM h (by decide) r (by omega);have q:=(je u).1 C
 refine fW h p (by decide) h.sto h.sub ((h.dee.up (by omega)).put ?_) (fo.refl _ st) (dx.put D) z (mO (by decide))
  (Kq (by decide) h.tl h.loc r (cM (.inr (.inr (.inl (by omega))))) (cM (.inl rfl)) (by unfold bN;simp[u,y]) (eI (.inl (by decide)))) ?_
 have v:=q.2.2.2.2.2.1;generalize T.getD (bm t).toNat ay.aa=d at*
 cases setit;exact qg f h.nw.1 o w h.ti0 (by rw[a_ (by decide),v];exact hc);refine qg (d:=qn d n) ?_ h.nw.1 o w h.ti0 (by show code∈jn d.1;rw[v];exact hc);obtain⟨op,task,a,l,i,m,cd,gt,nw,inv,lin,res⟩:=d;unfold qn;unfold eQ at f|-;simp only[eD,b_]at f|-;exact⟨⟨⟨⟨⟨⟨⟨⟨f.1.1.1.1.1.1.1.1,f.1.1.1.1.1.1.1.2⟩,f.1.1.1.1.1.1.2⟩,f.1.1.1.1.1.2⟩,B⟩,f.1.1.1.2⟩,f.1.1.2⟩,f.1.2⟩,f.2⟩;rw[getD_set_ne _ _ (by decide)];exact j
def Nb{i:Nat}{e:aG}{a:af}(b:rq c U A nn V e)(j:bh a=true)(hi:eJ A (keyOf a c.2.2.2.2.2)=some i):rq c U (A.set i (ij (A.getD i al.aa) a)) nn V e:=by
 obtain⟨l,m⟩:=pJ hi;have f:=bz (d:=al.aa) l;refine⟨Ck b.go (Rk ((cj.1 b.go).2.1 _ f) j m.symm) rfl rfl,b.ho,b.tm,b.ap,fun g h=> ?_⟩;rcases avv h with h|rfl;exact b.td g h;have:=b.td _ f;exact⟨this.1,this.2.1,this.2.2.1,this.2.2.2⟩
def TB{m:aG}{a:af}(l:cY c=true)(o:0<=U/\U<=99899)(p:0<=nn)(hn2:nn<4611686018427387904)(d:rq c U A nn V m)(r:bh a=true)(hi:eJ A (keyOf a c.2.2.2.2.2)=none)(s:A.length<12)(u:V.length<=15):
 rq c U (A++[na c a nn U]) (IntKind.i64.wrap (nn+1)) (tf V (ik c (na c a nn U),nn)) m:=by
 have j:=oY V (ik c (na c a nn U),nn);rw[wrap64 (by omega) (by omega)];have f:0<=ik c (na c a nn U):=OX l ⟨o.1,by show U<=99999;omega⟩ (.inl rfl);refine⟨M7 d.go (SU r p o) s (fun g h=>(d.td g h).2.2.1) (K7 hi),L5 d.ho ⟨f,p⟩ u,fun x b=> ?_,(qe j).2 ?_,fun g h=> ?_⟩;rcases C'.1 (j.mem_iff.1 b)with b|b;have:=d.tm x b;omega;rw[sd.1 b];show nn<nn+1;omega;refine avC.2 ⟨d.ap,avz _ _,fun x b y q=> ?_⟩;rw[sd.1 q];have:=d.tm x b;show¬x.2=nn;omega;rcases C'.1 h with h|h;obtain⟨v,w,h3,z⟩:=d.td g h;refine⟨v,w,by omega,z.imp (fun⟨x,b,e⟩=>⟨x,j.mem_iff.2 (av6 _ b),e⟩) id⟩;rw[sd.1 h];refine⟨kk _,by show(-1:Int)<=U;omega,by show nn<nn+1;omega,.inl ⟨_,j.mem_iff.2 (av5 _ (sd.2 rfl)),rfl,rfl⟩⟩
def Na{s:Bool}(h:Rt k c ti U st m_ Z gr A nn V l_ O T)(a:ti<4611686018427387904)(j:nn<4611686018427387904)(y:V.length<=15):
 (hZ s k (c,ti,U,st,m_,Z,gr,A,nn,V,n_,l_,O,T)).1=true->bE k (hZ s k (c,ti,U,st,m_,Z,gr,A,nn,V,n_,l_,O,T)).2=true:=by
 generalize b:O.getD 3 aq.aa=t;unfold hZ gw;dsimp only;rw[b];by_cases l:t.1=0;rw[an l];by_cases u:Z.length=0;rw[an u];intro g;simp[bC]at g;rw[a_ u,aU];intro _;exact bF.2 (OK h a b l (h.sub.fee _ (bz (by omega))));rw[a_ l];have m:=h.tas 3 (by decide);rw[b]at m
 have f:t.1=5:=by
  have v:=gM (k:=k) (w:=(c,ti,U,st,m_,Z,gr,A,nn,V,n_,l_,O,T)) (i:=3) m;omega
 have q:=(je f).1 m;by_cases o:t.2.1=0;rw[an o];unfold iy;dsimp only;rw[b];by_cases p:gr= -1;rw[an p,aU];intro _;exact bF.2 (JV h a (.inl ⟨rfl,f⟩) b o p);rw[a_ p];intro g;simp[bC]at g;rw[a_ o];have r:t.2.1=1:=by omega
 have hnn0:=h.nn0;cases e:eJ A (keyOf t.2.2.1 c.2.2.2.2.2)with
 |none=>
  dsimp only;by_cases x:12<=A.length;rw[an x,aU];intro _;exact bF.2 (EA (setit:=false) (n:=0) h a b f r (kk _) (by decide) (kk _) h.grp);rw[a_ x,aU];intro _
  exact bF.2 (EA (setit:=true) (n:=nn) h a b f r (by rw[wrap64 (by omega) (by omega)];omega) (by decide) h.nn0
   (TB h.cf h.nw h.nn0 j h.grp q.1.2.2.2.2.1 e (by omega) y))
 |some i=>
  dsimp only;rw[aU];intro _;have v:=(gk.1 ((cj.1 h.grp.go).2.1 _ (bz (d:=al.aa) (pJ e).1))).1;exact bF.2 (EA (setit:=true) (n:=(A.getD i al.aa).1) h a b f r (kk _) (by decide) v (Nb h.grp q.1.2.2.2.2.1 e))
def Ox(h:Rt k c ti U st m_ Z gr A nn V l_ O T)(d:ti<4611686018427387904)(l:O.getD 4 aq.aa=t)(m:t.1=0)(o:0<V.length):
 Rt k c (tick ti) U st m_ Z gr A nn (dS V).1 l_ (O.set 4 (qH (dS V).2.1.2 T.length)) (T++[u7 (dS V).2.1.2 U ti]):=by
 have b:=vG o;have p:(dS V).2.1∈V:=b.mem_iff.1 (avM ..);have a:=(qb.1 h.grp.ho).1 _ p;have f:=h.grp.tm _ p;have ht0:=h.ti0
 refine fW h d (by decide) h.sto h.sub ((h.dee.up (by omega)).app ⟨xG ⟨by decide,by decide⟩ ⟨by decide,by decide⟩ a.2 h.nw.1 h.ti0,by show ti<ti+1;omega,by show-1<ti+1;omega,by show-1<ti+1;omega⟩)
  (fo.refl _ st) (dx.app _ T _) (kk _) ?_ (tB (by decide) h.tl h.loc l (by rw[cM (.inl rfl),cM (.inr (.inl m))]) rfl (fun _ _=>rfl) (by rw[eI (.inr rfl),eI (.inl (by omega))])) ?_
 have r:bm (qH (dS V).2.1.2 (T.length:Int))=((T.length:Nat):Int):=rfl;rw[r,avE,rZ];exact(fP (t:=qH (dS V).2.1.2 (T.length:Int)) rfl).2 ⟨⟨rfl,by show(0:Int)<=(T.length:Int);omega,kk _,(show(0:Int)<=1 by decide),rfl,rfl,rfl,rfl,rfl,a.2⟩,by show(T.length:Int)<_;rw[r_,avy];omega,rfl,rfl,rfl,rfl,rfl,f⟩;rw[aL _ _ (by rw[h.tl];decide)];have g:=h.grp;rw[l]at g;refine⟨g.go,P6 g.ho o,fun x a=>g.tm x (b.mem_iff.1 (avG _ a)),((qe b).2 g.ap).tail,fun y q=> ?_⟩;obtain⟨s,u,v,j⟩:=g.td y q;refine⟨s,u,v,?_⟩;rcases j with⟨x,a,e⟩|j;rcases List.mem_cons.1 (b.mem_iff.2 a)with a|a;exact .inr ⟨rfl,by rw[<-e.1,a];rfl⟩;exact .inl ⟨x,a,e⟩;exact absurd (m.symm.trans j.1) (by decide)
def Ml{s x:Bool}{code:Int}{got:List af}{a:List aw}{b:List aF}(h:Rt k c ti U st m_ Z gr A nn V l_ O T)(e:ti<4611686018427387904)(g:O.getD 4 aq.aa=t)(j:t.1=6)(l:t.2.1=1)
 (hc:code∈jn 8) (d:rq c U a nn b zT):
 Rt k c (tick ti) U st m_ Z (-1) a nn b l_ (O.set 4 zT) (T.set (bm t).toNat (eC s x (T.getD (bm t).toNat ay.aa) U ti code got)):=by
 obtain⟨m,hn1,o,p,f,r⟩:=dM h (by decide) g (by omega);have q:=(fP j).1 m
 refine fW h e (by decide) h.sto h.sub ((h.dee.up (by omega)).put (qg p h.nw.1 f r h.ti0 (by rw[q.2.2.2.2.2.1];exact hc))) (fo.refl _ st) (dx.put o) (kk _) (mO (by decide))
  (Kq (by decide) h.tl h.loc g (cM (.inr (.inr (.inl (by omega))))) (cM (.inl rfl)) (by unfold bN;simp[j,l]) (eI (.inl (by decide)))) ?_
 rw[aL _ _ (by rw[h.tl];decide)];exact d
def rU(V:List aF)(a:aG):Prop:=a.1=6->∀x∈V,¬x.2=a.2.2.2.2.2.2.2.1
def P0(G:cY c=true)(K:0<=U/\U<=99899)(b:rq c U A nn V t)(L:t.1=6)(M:t.2.2.2.2.2.2.2.1<nn)(H:0<=t.2.2.2.2.2.2.2.1)(I:rU V t)(N:V.length<=15):
 rq c U (dm A t.2.2.2.2.2.2.2.1 U) nn (sT c V (dm A t.2.2.2.2.2.2.2.1 U) t.2.2.2.2.2.2.2.1) zT:=by
 have I:=I L;generalize P:t.2.2.2.2.2.2.2.1=n at*
 have o:∀g∈dm A n U,(g∈A/\¬g.1=n)\/(∃v∈A,v.1=n/\g=fR v U):=by
  intro g h;unfold dm at h;cases e:dW A n with
  |none=>rw[e]at h;exact .inl ⟨h,zN e g h⟩
  |some i=>
   rw[e]at h;obtain⟨q,E⟩:=fQ e;dsimp only at h;have hu:∀x∈A,x.1=n->x=A.getD i al.aa:=fun x m ex=>Co b.go m q (by rw[ex,E]);by_cases z:(fR (A.getD i al.aa) U).2.2.2.2=[]
   rw[an z]at h;refine .inl ?_;have B:=(cj.1 b.go).2.2.1;have p:=jh (d:=al.aa).2 B;rcases C'.1 h with h|h;obtain⟨j,w,r⟩:=avD h;rw[avT]at w;rw[avN]at r;have:=p i q j (by omega);rw[bJ _ (show j<A.length by omega),r]at this;exact⟨avO h,by omega⟩;obtain⟨j,w,r⟩:=avD h;rw[av1]at w;rw[avY]at r;have:=p (i+1+j) (by omega) i (by omega);rw[bJ _ (show i+1+j<A.length by omega),r]at this;exact⟨avL h,by omega⟩;rw[a_ z]at h;obtain⟨j,w,r⟩:=iX al.aa h;rw[avI]at w;by_cases C:i=j;subst C;rw[aL _ _ q]at r;exact .inr ⟨_,bz q,E,r.symm⟩;rw[getD_set_ne _ _ C]at r;subst r;refine .inl ⟨bz w,fun e3=>C ?_⟩;have p:=jh (d:=al.aa).2 (cj.1 b.go).2.2.1;rcases Nat.lt_trichotomy i j with h6|h6|h6;have:=p j w i h6;omega;exact h6;have:=p i q j h6;omega
 have u:dQ (dm A n U) c.2.2.2.2.2=true:=by
  unfold dm;cases e:dW A n with
  |none=>exact b.go
  |some i=>
   obtain⟨q,E⟩:=fQ e;have F:=bz (d:=al.aa) q;dsimp only;by_cases z:(fR (A.getD i al.aa) U).2.2.2.2=[]
   rw[an z];exact MY b.go;rw[a_ z];exact Ck b.go (Pk ((cj.1 b.go).2.1 _ F) (b.td _ F).1 K.2 z) rfl rfl
 have hold:∀g∈A,¬g.1=n->∃x∈V,x.2=g.1/\x.1=ik c g:=fun g h f=>(b.td g h).2.2.2.resolve_right fun s=>f (s.2.symm.trans P)
 have a:∀g∈dm A n U,g.2.2.1<=U/\g.2.2.2.1<=U/\g.1<nn:=by
  intro g h;rcases o g h with⟨l,s⟩|⟨v,l,s,rfl⟩;exact⟨(b.td g l).1,(b.td g l).2.1,(b.td g l).2.2.1⟩;exact⟨(b.td v l).1,kk _,(b.td v l).2.2.1⟩
 unfold sT;cases e:dW (dm A n U) n with
 |none=>
  refine⟨u,b.ho,b.tm,b.ap,fun g h=> ?_⟩;refine⟨(a g h).1,(a g h).2.1,(a g h).2.2,.inl ?_⟩;have f:=zN e g h;rcases o g h with⟨l,s⟩|⟨v,l,s,rfl⟩;exact hold g l f;exact absurd s f
 |some i=>
  obtain⟨q,E⟩:=fQ e;have F:=bz (d:=al.aa) q;dsimp only;have B:=oY V (ik c ((dm A n U).getD i al.aa),n);have D:=gk.1 ((cj.1 u).2.1 _ F);refine⟨u,L5 b.ho ⟨OX G D.2.2.1 D.2.2.2.1,H⟩ N,fun x m=> ?_,(qe B).2 ?_,fun g h=> ?_⟩;rcases C'.1 (B.mem_iff.1 m)with m|m;exact b.tm x m;rw[sd.1 m];exact M;refine avC.2 ⟨b.ap,avz _ _,fun x m y J=> ?_⟩;rw[sd.1 J];exact I x m;refine⟨(a g h).1,(a g h).2.1,(a g h).2.2,.inl ?_⟩;by_cases f:g.1=n;refine⟨_,B.mem_iff.2 (av5 _ (sd.2 rfl)),f.symm,?_⟩;rw[Co u h q (by rw[f,E])];rcases o g h with⟨l,s⟩|⟨v,l,s,rfl⟩;obtain⟨x,m,C⟩:=hold g l f;exact⟨x,B.mem_iff.2 (av6 _ m),C⟩;exact absurd s f
def LC{s:Bool}(h:Rt k c ti U st m_ Z gr A nn V l_ O T)(a:ti<4611686018427387904)(v:rU V (O.getD 4 aq.aa))(y:(O.getD 4 aq.aa).1=6->V.length<=15):
 (fq s k (c,ti,U,st,m_,Z,gr,A,nn,V,n_,l_,O,T)).1=true->bE k (fq s k (c,ti,U,st,m_,Z,gr,A,nn,V,n_,l_,O,T)).2=true:=by
 generalize e:O.getD 4 aq.aa=t at v y;unfold fq eX;dsimp only;rw[e];by_cases o:t.1=0;rw[an o];by_cases b:pz V U=true;rw[an b,aU];intro _;have B:0<V.length:=by unfold pz at b;simp only[eD,b_]at b;exact b.1
 exact bF.2 (Ox h a e o B);rw[a_ b];intro m;simp[bC]at m;rw[a_ o];have b:=h.tas 4 (by decide);rw[e]at b
 have l:t.1=6:=by
  have h1:=gM (k:=k) (w:=(c,ti,U,st,m_,Z,gr,A,nn,V,n_,l_,O,T)) (i:=4) b;omega
 have q:=(fP l).1 b;have f:=h.grp;rw[e]at f;by_cases r:t.2.1=0;rw[an r];unfold iy;dsimp only;rw[e];by_cases j:gr= -1;rw[an j,aU];intro _;exact bF.2 (JV h a (.inr ⟨rfl,l⟩) e r j);rw[a_ j];intro m;simp[bC]at m;rw[a_ r];have z:t.2.1=1:=by omega
 by_cases hk:kf A t.2.2.2.2.2.2.2.1=true;rw[an hk,aU];intro _;exact bF.2 (Ml h a e l z (by decide) (P0 h.cf h.nw f l q.2.2.2.2.2.2.2 q.1.2.2.2.2.2.2.2.2.2 v (y l)));rw[a_ hk,aU];intro _;refine bF.2 (Ml h a e l z (by decide) ⟨f.go,f.ho,f.tm,f.ap,fun g u=> ?_⟩);obtain⟨C,D,E,h6⟩:=f.td g u;refine⟨C,D,E,.inl (h6.resolve_right fun h7=>hk ?_)⟩;unfold kf;obtain⟨i,F,_⟩:=tU (d:=al.aa) (p:=fun x:aw=>decide (x.1=t.2.2.2.2.2.2.2.1)) u (by simpa using h7.2.symm);have:dW A t.2.2.2.2.2.2.2.1=some i:=F;rw[this];rfl
end
def oZ(w:ah):List au:=w.2.2.2.1
def No(w:ah):List aF:=w.2.2.2.2.2.2.2.2.2.1
def nnW(w:ah):Int:=w.2.2.2.2.2.2.2.2.1
def Qj{s:Bool}{k:Nat}{w:ah}{i:Nat}(h:bE k w=true)(hi:i<5)(a:w.2.1<4611686018427387904)(j:∀p∈oZ w,p.2.1<4611686018427387904)
 (l:i=3->nnW w<4611686018427387904/\(No w).length<=15) (m:i=4->rU (No w) ((cA w).getD 4 aq.aa)/\(((cA w).getD 4 aq.aa).1=6->(No w).length<=15)):
 (lZ s k w i).1=true->bE k (lZ s k w i).2=true:=by
 obtain⟨c,ti,U,st,m_,Z,gr,A,nn,V,n_,l_,O,T⟩:=w;have R:=bF.1 h;generalize b:O.getD i aq.aa=t;have o:=R.tas i hi;rw[b]at o;have ho:=gM (k:=k) (w:=(c,ti,U,st,m_,Z,gr,A,nn,V,n_,l_,O,T)) (i:=i) o;unfold lZ;dsimp only[cA];rw[b];by_cases e:t.1=1;rw[an e];exact Pe R a j (by omega) b e;rw[a_ e];by_cases q:t.1=2\/t.1=3;rw[an q];unfold kY vd;dsimp only;rw[b];by_cases f:t.1=2;rw[an f];exact OA R a (by omega) b f;rw[a_ f];exact MG R a (by omega) b (by omega);rw[a_ q];by_cases g:t.1=4;rw[an g];exact K3 R a j (by omega) b g;rw[a_ g];by_cases d:i=3;rw[an d];exact Na R a (l d).1 (l d).2;rw[a_ d];by_cases h6:i=4;rw[an h6];exact LC R a (m h6).1 (m h6).2;rw[a_ h6];intro r;cases r
section
variable{k:Nat}{c:aY}{ti U gr nn:Int}{st:List au}{m_:List bo}{Z l_:List af}{A:List aw}{V:List aF}{n_:List bq}{O:List aG}{T:List aA}{t:aG}
def vJ{i:Nat}{t':aG}{op:Int}(h:Rt k c ti U st m_ Z gr A nn V l_ O T)(a:ti<4611686018427387904)(hi:i<3)(f:O.getD i aq.aa=t)(g:t.1=0)(e:t'.2.1=0)
 (b:1<=op/\op<=9) (j:0<=t'.2.2.2.2.2.2.2.1)
 (l:bS k c.1 st nn ((T.length:Int)+1) (pR t' T.length) (op,(i:Int),t'.2.2.1,t'.2.2.2.1,0,t'.2.2.2.2.2.2.2.1,0,[],U,ti,-1,-1) (i:Int)=true):
 Rt k c (tick ti) U st m_ Z gr A nn V l_ (O.set i (pR t' T.length)) (T++[(op,(i:Int),t'.2.2.1,t'.2.2.2.1,0,t'.2.2.2.2.2.2.2.1,0,[],U,ti,-1,-1)]):=by
 have d:=h.ti0
 refine fW h a (by omega) h.sto h.sub ((h.dee.up (by omega)).app ⟨xG b (by omega) j h.nw.1 d,by show ti<ti+1;omega,by show-1<ti+1;omega,by show-1<ti+1;omega⟩)
  (fo.refl _ st) (dx.app _ T _) (kk _) ?_ (tB (by omega) h.tl h.loc f (by rw[cM (t:=pR t' T.length) (.inl e),cM (.inr (.inl g))]) rfl (fun _ _=>rfl) (by rw[eI (t:=pR t' T.length) (.inr e),eI (.inl (by omega))])) (h.grp.other (by omega))
 have m:bm (pR t' (T.length:Int))=((T.length:Nat):Int):=rfl;rw[m,avE,rZ,r_,avy];exact l
def Kf{d:aA}{a:List bo}(h:Rt k c ti U st m_ Z gr A nn V l_ O T)(f:ti<4611686018427387904)(o:eQ k d=true/\d.2.2.2.2.2.2.2.2.2.1<ti+1/\d.2.2.2.2.2.2.2.2.2.2.1<ti+1/\d.2.2.2.2.2.2.2.2.2.2.2<ti+1)
 (hs:vC c a Z l_):Rt k c (tick ti) U st a Z gr A nn V l_ O (T++[d]):=by
 have g:=h.ti0;have e:=ow g f;refine⟨h.cf,by omega,h.nn0,h.nw,h.sto,hs,by rw[e];exact(h.dee.up (by omega)).app o,h.tl,fun j m=> ?_,h.loc,h.grp⟩;have b:=h.tas j m;by_cases l:(O.getD j aq.aa).1=0;exact BX b l;obtain⟨b1,b2,b3⟩:=xY b l;rw[jg _ (by omega)];exact zV b (by rw[r_];omega) (kk _) (fun _ _=>rfl) (fun _ h=>h)
def Tg{a:Int}(h:Rt k c ti U st m_ Z gr A nn V l_ O T)(b:ti<4611686018427387904)(h1:U<=a)(h2:a<=99899):
 Rt k c (tick ti) a st m_ Z gr A nn V l_ O T:=by
 have d:=h.ti0;have e:=ow d b;have hw:=h.nw;refine⟨h.cf,by omega,h.nn0,by omega,h.sto,h.sub,by rw[e];exact h.dee.up (by omega),h.tl,h.tas,h.loc,h.grp.go,h.grp.ho,h.grp.tm,h.grp.ap,fun g f=> ?_⟩;have:=h.grp.td g f;exact⟨by omega,by omega,this.2.2.1,this.2.2.2⟩
end
def Lv{k:Nat}{c1 nn m U ti:Int}{st:List au}{i:Nat}{a:af}{l:List ag}(hi:i<3)(b:0<=m)(hc:0<c1):
 (cm a=true->bS k c1 st nn (m+1) (pR (qo a) m) (1,(i:Int),a,[],0,0,0,[],U,ti,-1,-1) (i:Int)=true)/\
 (cZ l=true->bS k c1 st nn (m+1) (pR (rY l) m) (3,(i:Int),vY,l,0,0,0,[],U,ti,-1,-1) (i:Int)=true)/\
 bS k c1 st nn (m+1) (pR oR m) (4,(i:Int),vY,[],0,0,0,[],U,ti,-1,-1) (i:Int)=true/\
 bS k c1 st nn (m+1) (pR pd m) (6,(i:Int),vY,[],0,0,0,[],U,ti,-1,-1) (i:Int)=true:=by
 have g:lh []=true:=by unfold lh;simp[kz]
 have h:bI []=true:=by unfold bI;simp[kz]
 refine⟨fun d=>(gV (t:=pR (qo a) m) rfl).2 ?_,fun e=>(ny (t:=pR (rY l) m) rfl).2 ?_,(fG (t:=pR oR m) rfl).2 ?_,(gC (t:=pR pd m) rfl).2 ?_⟩;rw[a_ (by show¬(0:Int)=2;decide)];exact⟨⟨by omega,by omega,b,kk _,by show(0:Int)<=2;decide,fc d,rfl,rfl,rfl,rfl,rfl⟩,by show m<m+1;omega,rfl,rfl,by show(¬(-1:Int)= -1↔(0:Int)=2);decide,rfl,rfl,d⟩;exact⟨⟨by omega,by omega,b,kk _,by show(0:Int)<=1;decide,rfl,e,rfl,rfl,rfl,rfl⟩,by show m<m+1;omega,rfl,rfl,rfl,rfl,rfl⟩;rw[a_ (by show¬(0:Int)=2;decide)];exact⟨⟨by omega,by omega,b,kk _,by show(0:Int)<=2;decide,rfl,rfl,g,rfl,h,rfl⟩,by show m<m+1;omega,rfl,rfl,rfl,rfl,rl.2 ⟨fun p f=>by simp[pR,oR]at f,fun _=>by simp[pR,oR]⟩,kk _,by show(0:Int)<=2;decide,hc⟩;exact⟨⟨by omega,by omega,b,kk _,by show(0:Int)<=1;decide,rfl,rfl,kk _,by show(0:Int)<=2;decide,rfl,rfl,rfl⟩,by show m<m+1;omega,rfl,rfl,rfl,rfl,hc⟩
def LJ{k:Nat}{w:ah}{i:Int}{t':aG}{op:Int}(h:ET k w i=true)(b:w.2.1<4611686018427387904)
 (f:(∃a,cm a=true/\t'=qo a/\op=1)\/(∃l,cZ l=true/\t'=rY l/\op=3)\/(t'=oR/\op=4)\/(t'=pd/\op=6)):bE k (gf w i t' op)=true:=by
 obtain⟨c,ti,U,st,m_,Z,gr,A,nn,V,n_,l_,O,T⟩:=w;unfold ET cT xb aZ at h;simp only[eD,b_]at h;obtain⟨g,⟨h2,h3⟩,h4,d⟩:=h;have R:=bF.1 g;obtain⟨j,rfl⟩:∃j:Nat,i=(j:Int):=⟨i.toNat,by omega⟩
 rw[avE]at d;have h0:=fI R.sto.ok;have e:=R.sto.len;have hc:0<c.1:=by omega
 obtain⟨o,p,q,r⟩:=Lv (k:=k) (c1:=c.1) (nn:=nn) (m:=(T.length:Int)) (U:=U) (ti:=ti) (st:=st) (i:=j) (a:=t'.2.2.1) (l:=t'.2.2.2.1) (by omega) (by omega) hc;refine bF.2 ?_;rcases f with⟨a,s,rfl,rfl⟩|⟨l,e,rfl,rfl⟩|⟨rfl,rfl⟩|⟨rfl,rfl⟩;exact vJ (t':=qo a) (op:=1) R b (by omega) rfl d rfl (by decide) (kk _) (o s);exact vJ (t':=rY l) (op:=3) R b (by omega) rfl d rfl (by decide) (kk _) (p e);exact vJ (t':=oR) (op:=4) R b (by omega) rfl d rfl (by decide) (kk _) q;exact vJ (t':=pd) (op:=6) R b (by omega) rfl d rfl (by decide) (kk _) r
def Hy{k:Nat}{w:ah}{i:Int}{a:af}(h:ET k w i=true)(b:w.2.1<4611686018427387904):bE k (refused w i a)=true:=by
 obtain⟨c,ti,U,st,m_,Z,gr,A,nn,V,n_,l_,O,T⟩:=w;unfold ET cT xb aZ at h;simp only[eD,b_]at h;obtain⟨d,⟨h2,h3⟩,h4,h5⟩:=h;have R:=bF.1 d;exact bF.2 (Kf R b ⟨sg (op:=1) (j:=0) (n:=0) (code:=4) ⟨by decide,by decide⟩ (by omega) (by decide) (by decide) R.nw.1 R.ti0 (by decide),by show ti<ti+1;omega,by show ti<ti+1;omega,by show ti<ti+1;omega⟩ R.sub)
theorem ou{e:Ty}{B:Nat}:∀ {l:List e.den},(∀x∈l,ai e x<=B)->ai (.sl e) l<=(B+1)*l.length
 | [],_=>by rw[bd];exact av2 _
 |x::l,h=>by
  have h1:=h x (avM ..);have h2:=ou (l:=l) fun y a=>h y (avG _ a);rw[bW,avP,Nat.mul_add];omega
def gS:Nat->Nat
 |0=>0
 |s+1=>gS s+(52-s)
def Yt(s:Nat)(h:s<=53):gS s<=1378:=by
 have:∀s,s<54->gS s<=1378:=by decide
 exact this s (by omega)
def dZ(t:aG):Nat:=if t.1=0 then 0 else if t.2.1=0 then 1 else 2
def j8(l:List aw):Nat:=(l.flatMap fun g=>g.2.2.2.2).length
structure Ex(n:Nat)(c:aY)(ti:Int)(st:List au)(Z:List af)(A:List aw)(nn:Int)(V:List aF)(n_:List bq)(l_:List af)(O:List aG)(T:List aA):Prop where
 ti:ti<=n
 nn:nn<=n
 ver:∀p∈st,p.2.1<=n
 hp:V.length+(if(O.getD 4 aq.aa).1=6 then 1 else 0)<=A.length
 fr:rU V (O.getD 4 aq.aa)
 fe:ai (.sl ae) Z<=100*n
 sa:ai (.sl ae) l_<=100*n
 pot:3*j8 A+3*n_.length+dZ (O.getD 3 aq.aa)+dZ (O.getD 4 aq.aa)<=n
 sk:ai (.sl cw) n_<=200*n_.length+97*gS n_.length
 de:ai (.sl ay) T<=3000*n+97*gS n_.length
 tg:∀i,i<5->(O.getD i aq.aa).2.2.2.2.2.2.1.length<=8*(O.getD i aq.aa).2.2.2.2.2.1.length
section
variable{k:Nat}(hk:9223372036854775808<=k)
include hk
def O2{x:ag}(h:eA x=true):ai ak x<=20:=by
 rw[lx hk];unfold eA eP iE at h;simp only[eD,b_]at h;omega
def uU{l:List ag}(h:cZ l=true):ai (.sl ak) l<=84:=by
 have a:=Gt.1 h;have h2:=ou (e:=ak) (B:=20) (l:=l) fun x b=>O2 hk (a.2.1 x b);have:21*l.length<=21*4:=Nat.mul_le_mul_left _ a.1;omega
def jN{a:af}(h:bh a=true):ai ae a<=96:=by
 rw[bj hk];unfold bh iE at h;simp only[eD,b_]at h;have:=uU hk h.1.1.1.1;omega
def iK{l:List af}(h:∀a∈l,bh a=true):ai (.sl ae) l<=97*l.length:=
 ou (e:=ae) (B:=96) fun a b=>jN hk (h a b)
theorem CF:∀ {l:List aP},(∀c∈l,dL k c=true)->ai (.sl ax) l<=98*(l.flatMap jv).length
 | [],_=>by rw[bd];exact av2 _
 |c::l,h=>by
  have b:=mo.1 (h c (avM ..));have h2:=CF (l:=l) fun y d=>h y (avG _ d);have h3:=iK hk fun a e=>(b.1 a e).1;rw[bW,df hk,avA,r_];simp only[jv];have:=b.2.1;omega
def Gz{st:List au}(h:dp k st=true):ai (.sl aj) st<=st.length+98*bu st:=by
 have a:∀p∈st,∀c∈p.2.2,dL k c=true:=by
  intro p b c hc;obtain⟨i,e,rfl⟩:=iX aj.aa b;exact((da.1 ((bQ.1 h).1 i e)).1 c hc).1
 unfold bu bO;clear h
 induction st with
 |nil=>rw[bd];exact av2 _
 |cons p st f=>
  have h2:=f fun q d=>a q (avG _ d);have h3:=CF hk (a p (avM ..));have h4:(aS p).length=(p.2.2.flatMap jv).length:=rfl;rw[bW,dj hk,avA,r_,avP];omega
def Mx{l:List aw}{by_:List ByteArray}(h:∀g∈l,eB g by_=true):ai (.sl al) l<=85*l.length+97*j8 l:=by
 unfold j8
 induction l with
 |nil=>rw[bd];exact av2 _
 |cons g l f=>
  have h2:=f fun q d=>h q (avG _ d);have b:=gk.1 (h g (avM ..));have h4:=uU hk b.2.1;have h5:=iK hk fun a e=>(b.2.2.2.2.2.1 a e).1;rw[bW,eK hk,avA,r_,avP];omega
def QQ{l:List bo}(h:∀s∈l,fp s=true):ai (.sl aW) l<=292*l.length:=
 ou (e:=aW) (B:=291) fun s b=>by
  have a:=h s b;unfold fp bI at a;simp only[eD,b_]at a;have h2:=iK hk (cX.1 a.2.2);rw[nj hk];omega
theorem Q4(l:List Int):ai (.sl (.int .i64)) l=l.length:=by
 induction l with
 |nil=>exact bd
 |cons a l b=>
  have:ai (.sl (.int .i64)) (a::l)=1+ai (.int .i64) a+ai (.sl (.int .i64)) l:=bW (e:= .int .i64) a l;rw[this,b,avP];simp only[ai];omega
def nX{c:aY}(h:cY c=true):ai db c<=18/\1<=c.1/\c.1<=3/\c.2.1<=8/\c.2.2.1<=2:=by
 unfold cY qF aZ at h;simp only[eD,b_]at h
 have h1:=ou (e:= .str) (B:=8) (l:=c.2.2.2.2.2) fun x a=>by
  have:=cX.1 h.2.1 x a;unfold eP at this;simp only[eD,b_]at this;show x.size<=8;omega
 rw[ng hk];have:=h.2.2.1;omega
variable{c:aY}{ti U gr nn:Int}{st:List au}{m_:List bo}{Z l_:List af}{A:List aw}{V:List aF}{n_:List bq}{O:List aG}{T:List aA}{n:Nat}
def Q2{t:aG}{c1 nn m i:Int}{d:aA}(h:bS k c1 st nn m t d i=true)(hl:t.2.2.2.2.2.2.1.length<=8*t.2.2.2.2.2.1.length):ai aq t<=2600:=by
 have e:cW t i=true:=by unfold bS at h;simp only[eD]at h;exact h.1
 rw[dy hk,Q4 hk];have b:ai ae bU=0:=by rw[bj hk];unfold bU;rw[bd];rfl
 have el:ai (.sl ak) ([]:List ag)=0:=bd;have a:ai (.sl ae) ([]:List af)=0:=bd;by_cases f:t.1=1;have q:=((gV f).1 h).1;have:=jN hk q.2.2.2.2.2.1;rw[q.2.2.2.2.2.2.1,q.2.2.2.2.2.2.2.2.1,q.2.2.2.2.2.2.2.2.2.1,el,a];simp only[avJ];omega;by_cases g:t.1=2;have q:=((ny g).1 h).1;have:=uU hk q.2.2.2.2.2.2.1;rw[q.2.2.2.2.2.1,q.2.2.2.2.2.2.2.2.1,q.2.2.2.2.2.2.2.2.2.1,b,a];simp only[avJ];omega;by_cases j:t.1=3;have q0:=(fG j).1 h;have q:=q0.1;have l:=q.2.2.2.2.2.2.2.2.2.1;unfold bI at l;have:=iK hk (cX.1 l)
 have hI:t.2.2.2.2.1<=3:=by
  have:=q0.2.2.2.2.2.2.2;split at this<;>omega
 have hI2:=q.2.2.2.2.2.2.2.2.1;rw[q.2.2.2.2.2.1,q.2.2.2.2.2.2.1,b,el];omega;by_cases o:t.1=4;have q:=((gC o).1 h).1;rw[q.2.2.2.2.2.1,q.2.2.2.2.2.2.1,q.2.2.2.2.2.2.2.2.2.1,q.2.2.2.2.2.2.2.2.2.2.1,b,el,a];simp only[avJ];omega;by_cases p:t.1=5;have q:=((je p).1 h).1;have:=jN hk q.2.2.2.2.1;rw[q.2.2.2.2.2.1,q.2.2.2.2.2.2.2.1,q.2.2.2.2.2.2.2.2.1,el,a];simp only[avJ];omega;by_cases h6:t.1=6;have q:=((fP h6).1 h).1;rw[q.2.2.2.2.1,q.2.2.2.2.2.1,q.2.2.2.2.2.2.2.1,q.2.2.2.2.2.2.2.2.1,b,el,a];simp only[avJ];omega
 have r:t=zT:=by
  unfold cW at e;simp only[f,g,j,o,p,h6,decide_false,Bool.false_and,Bool.or_false,eD,b_]at e;exact e.2.2
 rw[r];unfold zT;rw[b,el,a];simp only[avJ];omega
def Nl(h:Rt k c ti U st m_ Z gr A nn V l_ O T)(a:Ex n c ti st Z A nn V n_ l_ O T)(hn:n<=160):ai aD (c,ti,U,st,m_,Z,gr,A,nn,V,n_,l_,O,T)<=1000000:=by
 obtain⟨c0,c1,c2,c3,c4⟩:=nX hk h.cf;have a1:=Gz hk h.sto.ok;have a2:=h.sto.cap;have a3:=(bQ.1 h.sto.ok).2;have a4:=QQ hk h.sub.sub;have a5:=h.sub.len;have a6:=Mx hk (cj.1 h.grp.go).2.1;have a7:=(cj.1 h.grp.go).1;have a8:=a.pot;have a9:=a.hp;have b1:=Yt n_.length (by omega);have b2:=a.sk;have b3:=a.de;have b4:=a.fe;have b5:=a.sa
 have f:ai (.sl aq) O<=2601*O.length:=ou (e:=aq) (B:=2600) fun t d=>by
  obtain⟨i,b,rfl⟩:=iX aq.aa d;rw[h.tl]at b;exact Q2 hk (h.tas i b) (a.tg i b)
 have b7:ai (.sl aE) V<=1*V.length:=ou (e:=aE) (B:=0) fun t d=>by rw[Pb hk];exact avQ _
 rw[h.tl]at f;rw[iI hk];dsimp only;omega
end
def P5(l m:List aw):j8 (l++m)=j8 l+j8 m:=by unfold j8;rw[avW,r_]
def Br{l:List aw}{i:Nat}{g:aw}(hi:i<l.length):j8 (l.set i g)+(l.getD i al.aa).2.2.2.2.length=j8 l+g.2.2.2.2.length:=Aj (f:=fun g:aw=>g.2.2.2.2) hi
def SM{l:List aw}{i:Nat}(hi:i<l.length):(l.getD i al.aa).2.2.2.2.length<=j8 l:=by
 have:=Br (l:=l) (i:=i) (g:=(0,[],0,0,[])) hi;simp only[avJ]at this;omega
def QM(l:List aw)(i:Nat):j8 (l.take i++l.drop (i+1))<=j8 l:=by
 have b:(l.take i++l.drop (i+1)).Sublist l:=by
  rw[<-avU];exact av4 _ _
 unfold j8;generalize l.take i++l.drop (i+1)=m at b
 induction b with
 |slnil=>exact avQ _
 |cons a h d=>rw[avA,r_];omega
 |cons_cons a h d=>rw[avA,avA,r_,r_];omega
section
variable{k:Nat}(hk:9223372036854775808<=k)
include hk
def mW{x:Bool}{d:aA}{U ti code:Int}{got:List af}:ai ay (eC true x d U ti code got)<=ai ay d+ai (.sl ae) got:=by
 unfold eC oc yZ nf;rw[an (by rfl)];split;rw[cU hk,cU hk];dsimp only;omega;rw[cU hk,cU hk];dsimp only;omega
theorem kD{l:List aA}{n:Nat}{d':aA}{B:Nat}(a:n<l.length)(h:ai ay d'<=ai ay (l.getD n ay.aa)+B):ai (.sl ay) (l.set n d')<=ai (.sl ay) l+B:=by
 have:=mf (e:=ay) l n d' a;have e:l.getD n (Ty.aa ay)=l.getD n ay.aa:=rfl;omega
theorem oy{l:List aA}{d:aA}{B:Nat}(h:ai ay d+1<=B):ai (.sl ay) (l++[d])<=ai (.sl ay) l+B:=by
 rw[gZ,bW,bd];omega
def jQ:ai ae bU=0:=by rw[bj hk];unfold bU;rw[bd];rfl
variable{c:aY}{ti U gr nn:Int}{st:List au}{m_:List bo}{Z l_:List af}{A:List aw}{V:List aF}{n_:List bq}{O:List aG}{T:List aA}{n i:Nat}{t:aG}
omit hk in
theorem Ex.gW{t':aG}{u:List au}{o q:List af}{a:List aA}(h:Ex n c ti st Z A nn V n_ l_ O T)(B:0<=ti)(hn:n<=1000)(tl:O.length=5)(hi:i<3)
 (C:∀p∈u,p.2.1<=(n:Int)+1) (hf:ai (.sl ae) o<=ai (.sl ae) Z+100) (hs:ai (.sl ae) q<=ai (.sl ae) l_+100) (hd:ai (.sl ay) a<=ai (.sl ay) T+3000)
 (D:t'.2.2.2.2.2.2.1.length<=8*t'.2.2.2.2.2.1.length):Ex (n+1) c (tick ti) u o A nn V n_ q (O.set i t') a:=by
 have e:=ow B (by have:=h.ti;omega);have E:(O.set i t').getD 3 aq.aa=O.getD 3 aq.aa:=getD_set_ne _ _ (by omega);have v:(O.set i t').getD 4 aq.aa=O.getD 4 aq.aa:=getD_set_ne _ _ (by omega);have:=h.ti;have:=h.nn;have:=h.fe;have:=h.sa;have:=h.pot;have:=h.de;refine⟨by rw[e];omega,by omega,fun p y=>by have:=C p y;omega,by rw[v];exact h.hp,by rw[v];exact h.fr,by omega,by omega,by rw[E,v];omega,h.sk,by omega,fun j z=> ?_⟩;by_cases w:i=j;subst w;rw[aL _ _ (by omega)];exact D;rw[getD_set_ne _ _ w];exact h.tg j z
omit hk in
theorem Ex.alone{a:List aA}(h:Ex n c ti st Z A nn V n_ l_ O T)(q:0<=ti)(hn:n<=1000)(hd:ai (.sl ay) a<=ai (.sl ay) T+3000):
 Ex (n+1) c (tick ti) st Z A nn V n_ l_ O a:=by
 have e:=ow q (by have:=h.ti;omega);have:=h.ti;have:=h.nn;have:=h.fe;have:=h.sa;have:=h.pot;have:=h.de;exact⟨by rw[e];omega,by omega,fun p o=>by have:=h.ver p o;omega,h.hp,h.fr,by omega,by omega,by omega,h.sk,by omega,h.tg⟩
omit hk in
theorem Ex.stay(h:Ex n c ti st Z A nn V n_ l_ O T):Ex (n+1) c ti st Z A nn V n_ l_ O T:=by
 have:=h.ti;have:=h.nn;have:=h.fe;have:=h.sa;have:=h.pot;have:=h.de;exact⟨by omega,by omega,fun p a=>by have:=h.ver p a;omega,h.hp,h.fr,by omega,by omega,by omega,h.sk,by omega,h.tg⟩
omit hk in
theorem jU{st:List au}{j:Nat}{x:Int}{B:Int}(h:∀p∈st,p.2.1<=B):∀p∈bL st j x,p.2.1<=B:=by
 intro p a;unfold bL at a;by_cases b:j<st.length;rcases avv a with a|rfl;exact h p a;exact h (st.getD j aj.aa) (bz b);rw[avZ (by omega)]at a;exact h p a
omit hk in
theorem lp:zT.2.2.2.2.2.2.1.length<=8*zT.2.2.2.2.2.1.length:=by decide
def VO(h:Rt k c ti U st m_ Z gr A nn V l_ O T)(o:Ex n c ti st Z A nn V n_ l_ O T)(hn:n<=160)(hi:i<3)(x:O.getD i aq.aa=t)(H:t.1=1):
 (ia true k (c,ti,U,st,m_,Z,gr,A,nn,V,n_,l_,O,T) i).1=true->
 ∃u v m g y j a b,(ia true k (c,ti,U,st,m_,Z,gr,A,nn,V,n_,l_,O,T) i).2=(c,u,U,v,m,g,y,A,nn,V,n_,j,a,b)/\
  Ex (n+1) c u v g A nn V n_ j a b:=by
 have C:=fI h.sto.ok;obtain⟨G,g2⟩:=iG (k:=k) (s:=t.2.2.1.1) C;obtain⟨J,z,hb,B,hv1,hw⟩:=dM h (by omega) x (by omega);have I:=(gV H).1 J;have f:∀p∈st,p.2.1<=(n:Int)+1:=fun p r=>by have:=o.ver p r;omega
 have q:=o.tg i (by omega);rw[x]at q;unfold ia pA;dsimp only;rw[x];by_cases D:t.2.1=0;rw[an D];unfold ey;dsimp only;rw[x];by_cases w:(st.getD (bg k st t.2.2.1.1).toNat aj.aa).1= -1;rw[an w,aU];intro _;exact⟨_,_,_,_,_,_,_,_,rfl,o.gW h.ti0 (by omega) h.tl hi (jU f) (by omega) (by omega) (by omega) q⟩;rw[a_ w];intro B;simp[bC]at B;rw[a_ D];by_cases E:t.2.1=1;rw[an E];by_cases w:qZ k c st t.2.2.1=true;rw[an w,aU];intro _;exact⟨_,_,_,_,_,_,_,_,rfl,o.gW h.ti0 (by omega) h.tl hi (jU f) (by omega) (by omega) (kD hk z (avH (mW hk) (by rw[bd];omega))) lp⟩;rw[a_ w,aU];intro _;refine⟨_,_,_,_,_,_,_,_,rfl,o.gW h.ti0 (by omega) h.tl hi (fun p r=> ?_) (by omega) (by omega) (kD hk z ?_) q⟩;rw[vn C]at r;rcases avv r with r|rfl;exact f p r;have hv:=o.ver _ (bz (d:=aj.aa) G);have hv0:=(da.1 ((bQ.1 h.sto.ok).1 _ G)).2.2.2;rw[(Ak k _ _).1,wrap64 (by omega) (by omega)];omega;unfold pI;rw[cU hk,cU hk];dsimp only;omega;rw[a_ E,aU];intro _;have ha:=jN hk I.1.2.2.2.2.2.1
 have F:∀l:List af,ai (.sl ae) (l++[t.2.2.1])<=ai (.sl ae) l+100:=fun l=>by
  rw[gZ (e:=ae),bW (e:=ae),bd];omega
 refine⟨_,_,_,_,_,_,_,_,rfl,o.gW h.ti0 (by omega) h.tl hi (jU f) (F _) (F _) ?_ lp⟩
 have a1:ai (.sl ay) (T++[gK (oE i t.2.2.1) U ti ti ti])<=ai (.sl ay) T+200:=oy hk (by
  unfold gK oE;rw[cU hk];dsimp only;rw[bd,bd];omega)
 have a2:ai (.sl ay) ((T++[gK (oE i t.2.2.1) U ti ti ti]).set (bm t).toNat (nf (T.getD (bm t).toNat ay.aa) ti))<=ai (.sl ay) (T++[gK (oE i t.2.2.1) U ti ti ti])+0:=kD hk (by rw[r_];omega) (by
  rw[jg _ z];unfold nf;rw[cU hk,cU hk];exact avQ _)
 omega
end
section
variable{k:Nat}(hk:9223372036854775808<=k)
include hk
variable{c:aY}{ti U gr nn:Int}{st:List au}{m_:List bo}{Z l_:List af}{A:List aw}{V:List aF}{n_:List bq}{O:List aG}{T:List aA}{n i:Nat}{t:aG}
def Vq(h:Rt k c ti U st m_ Z gr A nn V l_ O T)(q:Ex n c ti st Z A nn V n_ l_ O T)(hn:n<=160)(hi:i<3)(s:O.getD i aq.aa=t)(ho:t.1=2):
 (bC (lz true k (c,ti,U,st,m_,Z,gr,A,nn,V,n_,l_,O,T) i)).1=true->
 ∃m o j d u f a b,(bC (lz true k (c,ti,U,st,m_,Z,gr,A,nn,V,n_,l_,O,T) i)).2=(c,m,U,o,j,d,u,A,nn,V,n_,f,a,b)/\
  Ex (n+1) c m o d A nn V n_ f a b:=by
 have h0:=fI h.sto.ok;obtain⟨hr,x,hb,v,hv1,hw⟩:=dM h (by omega) s (by omega);have g:∀p∈st,p.2.1<=(n:Int)+1:=fun p y=>by have:=q.ver p y;omega
 have r:=q.tg i (by omega);rw[s]at r;unfold lz;dsimp only;rw[s];by_cases w:t.2.1=0;rw[an w];unfold ey;dsimp only;rw[s];by_cases l:(st.getD (bg k st t.2.2.2.1).toNat aj.aa).1= -1;rw[an l,aU];intro _;exact⟨_,_,_,_,_,_,_,_,rfl,q.gW h.ti0 (by omega) h.tl hi (jU g) (by omega) (by omega) (by omega) r⟩;rw[a_ l];intro v;simp[bC]at v;rw[a_ w];by_cases l:(bD k st t.2.2.2.1).2=true;rw[an l,aU];intro _;have ha:=jN hk (fc (h.sto.fit _ (zH l).2));exact⟨_,_,_,_,_,_,_,_,rfl,q.gW h.ti0 (by omega) h.tl hi (jU g) (by omega) (by omega) (kD hk x (avH (mW hk) (by rw[bW (e:=ae),bd];omega))) lp⟩;rw[a_ l,aU];intro _;exact⟨_,_,_,_,_,_,_,_,rfl,q.gW h.ti0 (by omega) h.tl hi (jU g) (by omega) (by omega) (kD hk x (avH (mW hk) (by rw[bd];omega))) lp⟩
omit hk in
theorem Ja{st:List au}{j:Nat}(a:j<st.length):(aS (st.getD j aj.aa)).length<=bu st:=by
 have:=count_set (l:=st) (p:=(0,0,[])) a;have e:(aS ((0,0,[]):au)).length=0:=rfl;omega
def Tu(h:Rt k c ti U st m_ Z gr A nn V l_ O T)(j:Ex n c ti st Z A nn V n_ l_ O T)(hn:n<=160)(hi:i<3)(s:O.getD i aq.aa=t)(C:t.1=3):
 (bC (fx true k (c,ti,U,st,m_,Z,gr,A,nn,V,n_,l_,O,T) i)).1=true->
 ∃l m g e u f a b,(bC (fx true k (c,ti,U,st,m_,Z,gr,A,nn,V,n_,l_,O,T) i)).2=(c,l,U,m,g,e,u,A,nn,V,n_,f,a,b)/\
  Ex (n+1) c l m e A nn V n_ f a b:=by
 have h0:=fI h.sto.ok;obtain⟨F,G,hb,v,hv1,hw⟩:=dM h (by omega) s (by omega);have D:=(fG C).1 F;obtain⟨⟨q1,q2,q3,q4,q5,q6,q7,q8,q9,q,q11⟩,q12,q13,q14,q15,q16,q17,r⟩:=D;have d:∀p∈st,p.2.1<=(n:Int)+1:=fun p B=>by have:=j.ver p B;omega
 have o:=j.tg i (by omega);rw[s]at o;have hlen:=h.sto.len;have h3:=(bQ.1 h.sto.ok).2;unfold fx;dsimp only;rw[s];by_cases w:t.2.1=0;rw[an w];unfold ey;dsimp only;rw[s];by_cases x:(st.getD t.2.2.2.2.1.toNat aj.aa).1= -1;rw[an x,aU];intro _;exact⟨_,_,_,_,_,_,_,_,rfl,j.gW h.ti0 (by omega) h.tl hi (jU d) (by omega) (by omega) (by omega) o⟩;rw[a_ x];intro v;simp[bC]at v;rw[a_ w];by_cases y:t.2.1=1;rw[an y,aU];intro _;rw[a_ (by omega)]at r;have E:t.2.2.2.2.1.toNat<st.length:=by omega
 have:=Ja E;have:=h.sto.cap;have:=(nX hk h.cf).2.2.2.1;refine⟨_,_,_,_,_,_,_,_,rfl,j.gW h.ti0 (by omega) h.tl hi (jU d) (by omega) (by omega) (by omega) ?_⟩;unfold ky;dsimp only;rw[r_,r_,avy];omega;rw[a_ y];by_cases z:jG st t.2.2.2.2.2.1=true;rw[an z,aU];intro _;have hI:t.2.2.2.2.1<=3:=by split at r<;>omega
 unfold bI at q;have:=iK hk (cX.1 q);exact⟨_,_,_,_,_,_,_,_,rfl,j.gW h.ti0 (by omega) h.tl hi d (by omega) (by omega) (kD hk G (avH (mW hk) (by rw[rH];omega))) lp⟩;rw[a_ z,aU];intro _;exact⟨_,_,_,_,_,_,_,_,rfl,j.gW h.ti0 (by omega) h.tl hi d (by omega) (by omega) (by omega) (by unfold oX;simp)⟩
omit hk in
theorem QA{p:au}{U:Int}{a:af}(h:a∈dg U p.2.2):a∈aS p:=by
 obtain⟨c,hc,b⟩:=G6.1 h;unfold gD at b;exact G6.2 ⟨c,hc,(avV.1 b).1⟩
def QP(h:Rt k c ti U st m_ Z gr A nn V l_ O T)(r:Ex n c ti st Z A nn V n_ l_ O T)(hn:n<=160)(hi:i<3)(y:O.getD i aq.aa=t)(J:t.1=4):
 (fu true k (c,ti,U,st,m_,Z,gr,A,nn,V,n_,l_,O,T) i).1=true->
 ∃s u q g C j b f,(fu true k (c,ti,U,st,m_,Z,gr,A,nn,V,n_,l_,O,T) i).2=(c,s,U,u,q,g,C,A,nn,V,n_,j,b,f)/\
  Ex (n+1) c s u g A nn V n_ j b f:=by
 have h0:=fI h.sto.ok;obtain⟨K,L,hb,F,hv1,hw⟩:=dM h (by omega) y (by omega);obtain⟨⟨q1,q2,q3,q4,q5,q6,q7,q8,q9,D,E,q11'⟩,q12,q13,q14,q15,q16,q17⟩:=(gC J).1 K;have o:∀p∈st,p.2.1<=(n:Int)+1:=fun p v=>by have:=r.ver p v;omega
 have w:=r.tg i (by omega);rw[y]at w;have hlen:=h.sto.len;have z:t.2.2.2.2.1.toNat<st.length:=by omega
 unfold fu qa;dsimp only;rw[y];by_cases G:t.2.1=0;rw[an G];unfold ey;dsimp only;rw[y];by_cases H:(st.getD t.2.2.2.2.1.toNat aj.aa).1= -1;rw[an H,aU];intro _;exact⟨_,_,_,_,_,_,_,_,rfl,r.gW h.ti0 (by omega) h.tl hi (jU o) (by omega) (by omega) (by omega) w⟩;rw[a_ H];intro F;simp[bC]at F;rw[a_ G,aU];intro _
 have x:∀p∈st.set t.2.2.2.2.1.toNat (-1,(dR (st.getD t.2.2.2.2.1.toNat aj.aa) U).2),p.2.1<=(n:Int)+1:=by
  intro p v;rcases avv v with v|rfl;exact o p v;have hv:=r.ver _ (bz (d:=aj.aa) z);have hv0:=(da.1 ((bQ.1 h.sto.ok).1 _ z)).2.2.2;unfold dR;dsimp only;split;rw[wrap64 (by omega) (by omega)];omega;omega
 have hgl:=zP (st.getD t.2.2.2.2.1.toNat aj.aa) U;have:=Ja z;have:=h.sto.cap;have:=(nX hk h.cf).2.2.2.1;have hgt:=iK hk (l:=dg U (st.getD t.2.2.2.2.1.toNat aj.aa).2.2) fun a I=>fc (h.sto.fit a (G6.2 ⟨_,bz z,QA I⟩))
 have a1:ai (.sl ay) (T++[gK (iA i t.2.2.2.2.1.toNat (dg U (st.getD t.2.2.2.2.1.toNat aj.aa).2.2)) U ti ti ti])<=ai (.sl ay) T+800:=oy hk (by
  have e:ai ay (gK (iA i t.2.2.2.2.1.toNat (dg U (st.getD t.2.2.2.2.1.toNat aj.aa).2.2)) U ti ti ti)=ai ae bU+ai (.sl ak) ([]:List ag)+ai (.sl ae) (dg U (st.getD t.2.2.2.2.1.toNat aj.aa).2.2):=cU hk _;rw[e,jQ hk,bd];omega)
 by_cases m:t.2.2.2.2.1.toNat+1=st.length;rw[an m,an m];refine⟨_,_,_,_,_,_,_,_,rfl,r.gW h.ti0 (by omega) h.tl hi x (by omega) (by omega) ?_ lp⟩;refine avH (kD hk (B:=0) (by rw[r_];omega) ?_) (by omega);rw[jg _ L];exact avH (mW hk) (by rw[bd];omega);rw[a_ m,a_ m];exact⟨_,_,_,_,_,_,_,_,rfl,r.gW h.ti0 (by omega) h.tl hi x (by omega) (by omega) (by omega) (by dsimp only;rw[D,E];decide)⟩
end
end Vg.Tryz
