/- Texts of this law, joined. -/
import Derived.Test.YtgikmhjpcnnhjaaGreatQjS8
import Derived.Test.YtgikmhjpcnnhjaaGreatQjPH
import Derived.Test.YtgikmhjpcnnhjaaGreatQjRB
import Derived.Test.YtgikmhjpcnnhjaaGreatRows
import Derived.Test.YtgikmhjpcnnhjaaGreatVc
set_option linter.unusedSimpArgs false
set_option linter.unusedVariables false
set_option linter.unusedSectionVars false
set_option linter.defProp false
open Option renaming bind_some -> C',bind -> aAU
open Bool renaming false_eq_true -> aAN,not_true -> aAS,and_eq_true -> aAW,not_false -> aAY
open List renaming length -> N',mem_singleton -> aAP,mem_append_right -> aAR,length_set -> aAT,mem_append_left -> aAV,length_singleton -> aAX,mem_iff_getElem -> aAZ,mem_cons_self -> aA1,length_append -> aA3,length_take -> aA4,foldl_cons -> aA5,replicate -> aA6
open Int renaming toNat_natCast -> aAQ,toNat -> aA2
open Nat renaming lt_or_gt_of_ne -> aA0
namespace Vg.Tryz
open Go Vg
def s9(d:aC):Int:=d.2.2.2.2.2.2.1
def UC(d:aC):Int:=d.2.2.2.2.2.1
def iA(w:ag):List au:=w.2.2.2.2.2.2.2.1
def nS(cap:Int)(s:Option Int)(op code:Int)(g:Nat):Option Int:=
 match s with
 |none=>none
 |some n=>
  if op=1/\code=3/\¬n=cap then none
  else if op=4/\¬(g:Int)=n then none
  else if(if op=1/\code=1 then n+1 else if op=5 then n-g else n)<0\/cap<(if op=1/\code=1 then n+1 else if op=5 then n-g else n)then none
  else some (if op=1/\code=1 then n+1 else if op=5 then n-g else n)
def Qs(cap:Int)(s:Option Int)(d:aC):Option Int:=nS cap s d.1 (s9 d) (lA d).length
def pj{cap n op code:Int}{g:Nat}(h1:¬(op=1/\(code=1\/code=3)))(h4:¬op=4)(a:¬op=5)(h0:0<=n)(hn:n<=cap):nS cap (some n) op code g=some n:=by
 have e:(if op=1/\code=1 then n+1 else if op=5 then n-g else n)=n:=by rw[a_ (by omega),a_ a]
 unfold nS;dsimp only;rw[e,a_ (by omega),a_ (by omega),a_ (by omega)]
def VL{cap n:Int}{g:Nat}(h0:0<=n)(hn:n=cap):nS cap (some n) 1 3 g=some n:=by
 have e:(if(1:Int)=1/\(3:Int)=1 then n+1 else if(1:Int)=5 then n-g else n)=n:=by rw[a_ (by omega),a_ (by omega)]
 unfold nS;dsimp only;rw[e,a_ (by omega),a_ (by omega),a_ (by omega)]
def Wx{cap n:Int}{g:Nat}(h0:0<=n)(hn:n+1<=cap):nS cap (some n) 1 1 g=some (n+1):=by
 have e:(if(1:Int)=1/\(1:Int)=1 then n+1 else if(1:Int)=5 then n-g else n)=n+1:=by rw[an (by omega)]
 unfold nS;dsimp only;rw[e,a_ (by omega),a_ (by omega),a_ (by omega)]
def U9{cap n code:Int}{g:Nat}(hn:n<=cap)(hg:(g:Int)=n):nS cap (some n) 4 code g=some n:=by
 have e:(if(4:Int)=1/\code=1 then n+1 else if(4:Int)=5 then n-g else n)=n:=by rw[a_ (by omega),a_ (by omega)]
 unfold nS;dsimp only;rw[e,a_ (by omega),a_ (by omega),a_ (by omega)]
def Tj{cap n m code:Int}{g:Nat}(hn:n<=cap)(h0:0<=m)(hg:m+g=n):nS cap (some n) 5 code g=some m:=by
 have e:(if(5:Int)=1/\code=1 then n+1 else if(5:Int)=5 then n-g else n)=m:=by rw[a_ (by omega),an rfl];omega
 unfold nS;dsimp only;rw[e,a_ (by omega),a_ (by omega),a_ (by omega)]
def PT(l:List au)(n:Int)(a:ae):Prop:=∃g∈l,g.1=n/\a∈g.2.2.2.2
def RC(e:aC)(n:Int)(a:ae):Prop:=(e.1=7/\e.2.2.1.1=a.1)\/(e.1=8/\UC e=n/\a∈lA e/\vj (lA e))
def P2(gs b:List au)(news:List aC):Prop:=
 (∀n a,PT gs n a->PT b n a\/∃e∈news,RC e n a)/\(∀d∈news,d.1=7->¬s9 d=3->PT b (UC d) d.2.2.1)
def qt(cap:Int)(st a:List ar)(gs b:List au)(l d:List aC):Prop:=
 ∃news,fM d=fM l++news/\news.foldl (Qs cap) (some (bq st:Int))=some (bq a:Int)/\P2 gs b news
def Kb{gs:List au}{news:List aC}(h:∀d∈news,¬d.1=7):P2 gs gs news:=⟨fun _ _ h=> .inl h,fun d a h7 _=>absurd h7 (h d a)⟩
def kL{cap:Int}{st a:List ar}{gs:List au}{l b:List aC}(h:fM b=fM l)(hc:bq a=bq st):qt cap st a gs gs l b:=
 ⟨[],by rw[h,List.append_nil],by rw[hc];rfl,Kb fun d e=>by cases e⟩
def fY{cap:Int}{st a:List ar}{gs b:List au}{l e:List aC}{d:aC}(h:fM e=fM l++[d])(hc:nS cap (some (bq st:Int)) d.1 (s9 d) (lA d).length=some (bq a:Int))(f:P2 gs b [d]):qt cap st a gs b l e:=
 ⟨[d],h,hc,f⟩
def qe{gs:List au}{d:aC}(h:¬d.1=7):P2 gs gs [d]:=Kb fun e a=>by rw[aAP.1 a];exact h
def mR{st:List ar}{j:Nat}{x:Int}:bq (bT st j x)=bq st:=by unfold bq;rw[Cc]
def jP{l:List aC}{n:Nat}{d:aC}{x:Bool}{O ti code:Int}{got:List ae}(b:∀x∈l,cW x<ti)(h0:0<=ti)(f:n<l.length)(g:cW (l.getD n aw.aa)= -1)(h:cW d= -1):
 fM (l.set n (dA true x d O ti code got))=fM l++[lj (xQ d O ti code got)]:=by
 have e:dA true x d O ti code got=lP (xQ d O ti code got) ti:=by
  unfold dA ot;rw[an (by rfl),an h]
 have a:cW (dA true x d O ti code got)=ti:=by rw[e];rfl
 rw[NW f g (by rw[a];omega) (by rw[a];exact b),e];rfl
def QQ{l:List ae}{a b:ae}(d:b∈l)(g:¬b.1=a.1):b∈gw l a:=by
 unfold gw;split;rename_i i f;obtain⟨j,h,rfl⟩:=jb ab.aa d;by_cases e:i=j;subst e;exact absurd (e_ (aZ.1 f).2.1) g;rw[<-getD_set_ne (l:=l) (a) ab.aa e];exact bK (by rw[aAT];exact h);rw[<-List.take_append_drop (ib l a.1) l]at d;rcases List.mem_append.1 d with d|d;exact aAV _ (aAV _ d);exact aAR _ d
def rV{α:Type}{l:List α}{i:Nat}{x:α}(a:i<l.length):x∈l.set i x:=by
 have:=aT (l:=l) x x a;have b:(l.set i x).getD i x∈l.set i x:=bK (by rw[aAT];exact a);rwa [this]at b
def O9{l:List ae}{a:ae}:a∈gw l a:=by
 unfold gw;split;rename_i i b;exact rV (aZ.1 b).1;exact aAV _ (aAR _ (aAP.2 rfl))
def yh{α:Type}{l:List α}{i j:Nat}{x:α}(d:α)(a:j<l.length)(e:¬i=j):l.getD j d∈l.set i x:=by
 rw[<-getD_set_ne (l:=l) x d e];exact bK (by rw[aAT];exact a)
section
variable{k:Nat}{c:bh}{ti O gr nn:Int}{st:List ar}{Z:List bg}{U V:List ae}{A:List au}{T:List aJ}{n_:List br}{E:List aF}{M:List aC}{i:Nat}{t:aF}
def iJ(h:Rt k c ti O st Z U gr A nn T V E M):∀x∈M,cW x<ti:=fun x a=>(h.dee x a).2.2.1
def oZ(h:Rt k c ti O st Z U gr A nn T V E M):(0:Int)<=(bq st:Int)/\(bq st:Int)<=c.2.1:=⟨by omega,h.sto.cap⟩
def tU{j:Nat}:(bH (dZ (c,ti,O,st,Z,U,gr,A,nn,T,n_,V,E,M) i j)).1=true->
 qt c.2.1 st (mH (bH (dZ (c,ti,O,st,Z,U,gr,A,nn,T,n_,V,E,M) i j)).2) A (iA (bH (dZ (c,ti,O,st,Z,U,gr,A,nn,T,n_,V,E,M) i j)).2) M (bV (bH (dZ (c,ti,O,st,Z,U,gr,A,nn,T,n_,V,E,M) i j)).2):=by
 unfold dZ;dsimp only;by_cases a:(st.getD j ah.aa).1= -1;rw[an a,aY];intro _;exact kL rfl mR;rw[a_ a];intro b;simp[bH]at b
def Ff{j:Nat}:(bH (gL (c,ti,O,st,Z,U,gr,A,nn,T,n_,V,E,M) j)).1=true->
 qt c.2.1 st (mH (bH (gL (c,ti,O,st,Z,U,gr,A,nn,T,n_,V,E,M) j)).2) A (iA (bH (gL (c,ti,O,st,Z,U,gr,A,nn,T,n_,V,E,M) j)).2) M (bV (bH (gL (c,ti,O,st,Z,U,gr,A,nn,T,n_,V,E,M) j)).2):=by
 unfold gL;dsimp only;by_cases a:gr= -1;rw[an a,aY];intro _;exact kL rfl rfl;rw[a_ a];intro b;simp[bH]at b
theorem Tl(h:Rt k c ti O st Z U gr A nn T V E M)(y:∀p∈st,p.2.1<4611686018427387904)(hi:i<3)(q:E.getD i ak.aa=t)(z:t.1=1):
 (fy true k (c,ti,O,st,Z,U,gr,A,nn,T,n_,V,E,M) i).1=true->
 qt c.2.1 st (mH (fy true k (c,ti,O,st,Z,U,gr,A,nn,T,n_,V,E,M) i).2) A (iA (fy true k (c,ti,O,st,Z,U,gr,A,nn,T,n_,V,E,M) i).2) M (bV (fy true k (c,ti,O,st,Z,U,gr,A,nn,T,n_,V,E,M) i).2):=by
 have h0:=fT h.sto.ok;obtain⟨C,m,hb,hd,hv1,hw⟩:=dH h (by omega) q (by omega);have r:=(gF z).1 C;obtain⟨g,v⟩:=oZ h;have hti:=h.ti0;unfold fy qj;dsimp only;rw[q];by_cases s:t.2.1=0;rw[an s];exact tU;rw[a_ s];by_cases u:t.2.1=1;rw[an u];rw[a_ (by omega)]at r;obtain⟨q1,q12,q13,q14,n,f,q17,o⟩:=r
 have j:cW (M.getD (bf t).toNat aw.aa)= -1:=by
  by_cases e:(M.getD (bf t).toNat aw.aa).2.2.2.2.2.2.2.2.2.2.1= -1;exact e;have:=n.1 e;omega
 by_cases a:rl k c st t.2.2.1=true;rw[an a,aY];intro _;refine fY (jP (iJ h) h.ti0 m j j) ?_ (qe (by show¬(M.getD (bf t).toNat aw.aa).1=7;omega));show nS c.2.1 (some (bq st:Int)) (M.getD (bf t).toNat aw.aa).1 3 0=some (bq (bT st _ (-1)):Int);rw[f,mR];unfold rl at a;simp only[aAW,b_]at a;exact VL g (by omega);rw[a_ a,aY];intro _;have B:=(Kk h.sto.ok o y).2.2.1;refine fY (d:=lj (nT (M.getD (bf t).toNat aw.aa) O ti (if(cZ k st t.2.2.1).2=true then 1 else 2))) (NW m j (by show¬ti= -1;omega) (iJ h)) ?_ (qe (by show¬(M.getD (bf t).toNat aw.aa).1=7;omega));show nS c.2.1 (some (bq st:Int)) (M.getD (bf t).toNat aw.aa).1 (if(cZ k st t.2.2.1).2=true then 1 else 2) (lA (M.getD (bf t).toNat aw.aa)).length=some (bq (cZ k st t.2.2.1).1:Int);rw[f,B];rw[KK h.sto.ok];cases l:(bL k st t.2.2.1.1).2;unfold rl at a;rw[l]at a;have:¬c.2.1<=(bq st:Int):=by simpa using a
 refine(Wx g (by omega)).trans ?_;simp;exact pj (by decide) (by decide) (by decide) g v;rw[a_ u,aY];intro _
 have b:fM ((M++[eT (mO i t.2.2.1) O ti ti ti]).set (bf t).toNat (lP (M.getD (bf t).toNat aw.aa) ti))=fM M++[lj (eT (mO i t.2.2.1) O ti ti ti)]:=by
  rw[R8 (by rw[ig _ m];rfl)];exact D5 (by show¬ti= -1;omega) (fun x w=>by have:=iJ h x w;show cW x<=ti;omega)
 refine fY b ?_ (qe (by show¬(2:Int)=7;decide));show nS c.2.1 (some (bq st:Int)) 2 8 0=some (bq (bT st _ (-1)):Int);rw[mR];exact pj (by decide) (by decide) (by decide) g v
theorem Tp(h:Rt k c ti O st Z U gr A nn T V E M)(hi:i<3)(d:E.getD i ak.aa=t)(m:t.1=2):
 (bH (mF true k (c,ti,O,st,Z,U,gr,A,nn,T,n_,V,E,M) i)).1=true->
 qt c.2.1 st (mH (bH (mF true k (c,ti,O,st,Z,U,gr,A,nn,T,n_,V,E,M) i)).2) A (iA (bH (mF true k (c,ti,O,st,Z,U,gr,A,nn,T,n_,V,E,M) i)).2) M (bV (bH (mF true k (c,ti,O,st,Z,U,gr,A,nn,T,n_,V,E,M) i)).2):=by
 obtain⟨n,g,hb,hd,hv1,hw⟩:=dH h (by omega) d (by omega);obtain⟨q1,q12,q13,q14,a,b,q17⟩:=(pf m).1 n;obtain⟨j,l⟩:=oZ h;unfold mF;dsimp only;rw[d];by_cases e:t.2.1=0;rw[an e];exact tU;rw[a_ e];by_cases f:(bL k st t.2.2.2.1).2=true;rw[an f,aY];intro _;refine fY (jP (iJ h) h.ti0 g a a) ?_ (qe (by show¬(M.getD (bf t).toNat aw.aa).1=7;omega));show nS c.2.1 (some (bq st:Int)) (M.getD (bf t).toNat aw.aa).1 5 1=some (bq (bT st _ (-1)):Int);rw[b,mR];exact pj (by decide) (by decide) (by decide) j l;rw[a_ f,aY];intro _;refine fY (jP (iJ h) h.ti0 g a a) ?_ (qe (by show¬(M.getD (bf t).toNat aw.aa).1=7;omega));show nS c.2.1 (some (bq st:Int)) (M.getD (bf t).toNat aw.aa).1 6 0=some (bq (bT st _ (-1)):Int);rw[b,mR];exact pj (by decide) (by decide) (by decide) j l
def VA(h:Rt k c ti O st Z U gr A nn T V E M)(a:dm st t=true)(hs:gC st t.2.2.2.2.2.1=true)(e:t.2.2.2.2.2.1.length=st.length):bU st=t.2.2.2.2.2.2.1:=by
 rw[tB]at a
 have b:=a.2 fun i d=>by
  unfold gC at hs;have:=ck.1 hs i (by omega) d;exact e_ this
 rw[e,List.take_length]at b;exact b
theorem RW(h:Rt k c ti O st Z U gr A nn T V E M)(hi:i<3)(j:E.getD i ak.aa=t)(n:t.1=3):
 (bH (fH true k (c,ti,O,st,Z,U,gr,A,nn,T,n_,V,E,M) i)).1=true->
 qt c.2.1 st (mH (bH (fH true k (c,ti,O,st,Z,U,gr,A,nn,T,n_,V,E,M) i)).2) A (iA (bH (fH true k (c,ti,O,st,Z,U,gr,A,nn,T,n_,V,E,M) i)).2) M (bV (bH (fH true k (c,ti,O,st,Z,U,gr,A,nn,T,n_,V,E,M) i)).2):=by
 obtain⟨o,p,hb,hd,hv1,hw⟩:=dH h (by omega) j (by omega);obtain⟨⟨r1,r2,r3,r4,r5,r6,r7,r8,r9,r10,r11⟩,q12,q13,q14,b,e,f,g⟩:=(gl n).1 o;obtain⟨c1,q⟩:=oZ h;have hlen:=h.sto.len;unfold fH;dsimp only;rw[j];by_cases l:t.2.1=0;rw[an l];exact tU;rw[a_ l];by_cases m:t.2.1=1;rw[an m,aY];intro _;exact kL rfl mR;rw[a_ m];rw[an (by omega)]at g;by_cases d:gC st t.2.2.2.2.2.1=true;rw[an d,aY];intro _;have a:=VA h f d (by omega);refine fY (jP (iJ h) h.ti0 p b b) ?_ (qe (by show¬(M.getD (bf t).toNat aw.aa).1=7;omega));show nS c.2.1 (some (bq st:Int)) (M.getD (bf t).toNat aw.aa).1 8 (dE t.2.2.2.2.2.2.1).length=some (bq st:Int);rw[e];refine U9 q ?_;have:(dE t.2.2.2.2.2.2.1).length=t.2.2.2.2.2.2.1.length:=(rT dG _).length_eq;rw[this,<-a];rfl;rw[a_ d,aY];intro _;exact kL rfl rfl
theorem QE(h:Rt k c ti O st Z U gr A nn T V E M)(hi:i<3)(m:E.getD i ak.aa=t)(v:t.1=4):
 (eF true k (c,ti,O,st,Z,U,gr,A,nn,T,n_,V,E,M) i).1=true->
 qt c.2.1 st (mH (eF true k (c,ti,O,st,Z,U,gr,A,nn,T,n_,V,E,M) i).2) A (iA (eF true k (c,ti,O,st,Z,U,gr,A,nn,T,n_,V,E,M) i).2) M (bV (eF true k (c,ti,O,st,Z,U,gr,A,nn,T,n_,V,E,M) i).2):=by
 obtain⟨z,s,j,e,hv1,hw⟩:=dH h (by omega) m (by omega);obtain⟨⟨q1,q2,q3,q4,q5,q6,q7,q8,q9,q10,q11,q11'⟩,q12,q13,q14,a,g,q17⟩:=(gD v).1 z;obtain⟨B,u⟩:=oZ h;have hlen:=h.sto.len;have hti:=h.ti0;have w:t.2.2.2.2.1.toNat<st.length:=by omega
 unfold eF qJ;dsimp only;rw[m];by_cases n:t.2.1=0;rw[an n];exact tU;rw[a_ n,aY];intro _;have hcnt:=count_set (l:=st) (p:=(-1,(dU (st.getD t.2.2.2.2.1.toNat ah.aa) O).2)) w;have hsl:=zA (st.getD t.2.2.2.2.1.toNat ah.aa) O;have hee:(aW (-1,(dU (st.getD t.2.2.2.2.1.toNat ah.aa) O).2)).length=(aW (dU (st.getD t.2.2.2.2.1.toNat ah.aa) O)).length:=rfl;have o:nS c.2.1 (some (bq st:Int)) 5 8 (db O (st.getD t.2.2.2.2.1.toNat ah.aa).2.2).length=some (bq (st.set t.2.2.2.2.1.toNat (-1,(dU (st.getD t.2.2.2.2.1.toNat ah.aa) O).2)):Int):=Tj u (by omega) (by omega)
 have q:∀l:List aC,(∀x∈l,cW x<=ti)->fM (l++[eT (fb i t.2.2.2.2.1.toNat (db O (st.getD t.2.2.2.2.1.toNat ah.aa).2.2)) O ti ti ti])=fM l++[lj (eT (fb i t.2.2.2.2.1.toNat (db O (st.getD t.2.2.2.2.1.toNat ah.aa).2.2)) O ti ti ti)]:=
  fun l j=>D5 (by show¬ti= -1;omega) j
 by_cases r:t.2.2.2.2.1.toNat+1=st.length
 have f:(if t.2.2.2.2.1.toNat+1=st.length then(M++[eT (fb i t.2.2.2.2.1.toNat (db O (st.getD t.2.2.2.2.1.toNat ah.aa).2.2)) O ti ti ti]).set (bf t).toNat (dA true false (M.getD (bf t).toNat aw.aa) O ti 8 [])else M++[eT (fb i t.2.2.2.2.1.toNat (db O (st.getD t.2.2.2.2.1.toNat ah.aa).2.2)) O ti ti ti])=
  M.set (bf t).toNat (dA true false (M.getD (bf t).toNat aw.aa) O ti 8 [])++[eT (fb i t.2.2.2.2.1.toNat (db O (st.getD t.2.2.2.2.1.toNat ah.aa).2.2)) O ti ti ti]:=by
  rw[an r,List.set_append_left _ _ s]
 show qt c.2.1 st _ A A M (if _ then _ else _);rw[f];refine⟨[lj (xQ (M.getD (bf t).toNat aw.aa) O ti 8 []),lj (eT (fb i t.2.2.2.2.1.toNat (db O (st.getD t.2.2.2.2.1.toNat ah.aa).2.2)) O ti ti ti)],?_,?_,Kb fun d e=> ?_⟩;rw[q _ (fun x b=> ?_),jP (iJ h) h.ti0 s a a,List.append_assoc];rfl;rcases List.mem_or_eq_of_mem_set b with b|rfl;have:=iJ h x b;omega
 have:cW (dA true false (M.getD (bf t).toNat aw.aa) O ti 8 [])=ti:=by
  unfold dA ot;rw[an (by rfl),an (show cW (M.getD (bf t).toNat aw.aa)= -1 from a)];rfl
 omega
 have y:Qs c.2.1 (some (bq st:Int)) (lj (xQ (M.getD (bf t).toNat aw.aa) O ti 8 []))=some (bq st:Int):=by
  show nS c.2.1 (some (bq st:Int)) (M.getD (bf t).toNat aw.aa).1 8 0=some (bq st:Int);rw[g];exact pj (by decide) (by decide) (by decide) B u
 rw[aA5,aA5,List.foldl_nil,y];exact o;rcases List.mem_cons.1 e with rfl|e;show¬(M.getD (bf t).toNat aw.aa).1=7;omega;rw[aAP.1 e];show¬(5:Int)=7;decide
 have f:(if t.2.2.2.2.1.toNat+1=st.length then(M++[eT (fb i t.2.2.2.2.1.toNat (db O (st.getD t.2.2.2.2.1.toNat ah.aa).2.2)) O ti ti ti]).set (bf t).toNat (dA true false (M.getD (bf t).toNat aw.aa) O ti 8 [])else M++[eT (fb i t.2.2.2.2.1.toNat (db O (st.getD t.2.2.2.2.1.toNat ah.aa).2.2)) O ti ti ti])=
  M++[eT (fb i t.2.2.2.2.1.toNat (db O (st.getD t.2.2.2.2.1.toNat ah.aa).2.2)) O ti ti ti]:=a_ r
 show qt c.2.1 st _ A A M (if _ then _ else _);rw[f];exact fY (q _ fun x b=>by have:=iJ h x b;omega) o (qe (by show¬(5:Int)=7;decide))
theorem RX(h:Rt k c ti O st Z U gr A nn T V E M):
 (eW true k (c,ti,O,st,Z,U,gr,A,nn,T,n_,V,E,M)).1=true->
 qt c.2.1 st (mH (eW true k (c,ti,O,st,Z,U,gr,A,nn,T,n_,V,E,M)).2) A (iA (eW true k (c,ti,O,st,Z,U,gr,A,nn,T,n_,V,E,M)).2) M (bV (eW true k (c,ti,O,st,Z,U,gr,A,nn,T,n_,V,E,M)).2):=by
 obtain⟨J,K⟩:=oZ h;generalize r:E.getD 3 ak.aa=t;unfold eW gH;dsimp only;rw[r];by_cases y:t.1=0;rw[an y];by_cases z:U.length=0;rw[an z];intro f;simp[bH]at f;rw[a_ z,aY];intro _;exact kL (A6 rfl) rfl;rw[a_ y];have s:=h.tas 3 (by decide);rw[r]at s
 have I:t.1=5:=by
  have h1:=gx (k:=k) (w:=(c,ti,O,st,Z,U,gr,A,nn,T,n_,V,E,M)) (i:=3) s;omega
 obtain⟨-,v,hb,f,hv1,hw⟩:=dH h (by decide) r (by omega);obtain⟨q1,q12,q13,q14,b,p,o⟩:=(iM I).1 s;by_cases B:t.2.1=0;rw[an B];exact Ff;rw[a_ B]
 have l:∀(m code:Int),nS c.2.1 (some (bq st:Int)) (M.getD (bf t).toNat aw.aa).1 code 0=some (bq st:Int):=fun m code=>by
  rw[p];exact pj (by omega) (by decide) (by decide) J K
 cases u:eR A (keyOf t.2.2.1 c.2.2.2.2.2)with
 |none=>
  dsimp only;by_cases C:12<=A.length;rw[an C,aY];intro _;refine fY (jP (iJ h) h.ti0 v b b) (l 0 3) ⟨fun _ _ h=> .inl h,fun d f _ q=> ?_⟩;rw[aAP.1 f]at q;exact absurd rfl q;rw[a_ C,aY];intro _;refine fY (jP (iJ h) h.ti0 v b (show cW (ou _ nn)= -1 from b)) (l nn 1) ⟨fun n a h=> ?_,fun d f _ q=> ?_⟩;obtain⟨g,x,e⟩:=h;exact .inl ⟨g,aAV _ x,e⟩;rw[aAP.1 f];exact⟨mB c t.2.2.1 nn O,aAR _ (aAP.2 rfl),rfl,aAP.2 o⟩
 |some i=>
  dsimp only;rw[aY];intro _;obtain⟨F,k2⟩:=qi u;refine fY (jP (iJ h) h.ti0 v b (show cW (ou _ _)= -1 from b)) (l 0 2) ⟨fun n a h=> ?_,fun d f _ q=> ?_⟩;obtain⟨g,x,G,H⟩:=h;obtain⟨j,L,rfl⟩:=jb aj.aa x;by_cases e:i=j;subst e;by_cases D:a.1=t.2.2.1.1;refine .inr ⟨_,aAP.2 rfl,.inl ⟨p,?_⟩⟩;show(M.getD (bf t).toNat aw.aa).2.2.1.1=a.1;rw[o,D];exact .inl ⟨_,rV F,G,QQ H D⟩;exact .inl ⟨_,yh aj.aa L e,G,H⟩;rw[aAP.1 f];refine⟨_,rV F,rfl,?_⟩;show(M.getD (bf t).toNat aw.aa).2.2.1∈gw _ t.2.2.1;rw[o];exact O9
theorem Qr(h:Rt k c ti O st Z U gr A nn T V E M):
 (fK true k (c,ti,O,st,Z,U,gr,A,nn,T,n_,V,E,M)).1=true->
 qt c.2.1 st (mH (fK true k (c,ti,O,st,Z,U,gr,A,nn,T,n_,V,E,M)).2) A (iA (fK true k (c,ti,O,st,Z,U,gr,A,nn,T,n_,V,E,M)).2) M (bV (fK true k (c,ti,O,st,Z,U,gr,A,nn,T,n_,V,E,M)).2):=by
 obtain⟨F,G⟩:=oZ h;generalize p:E.getD 4 ak.aa=t;unfold fK gP;dsimp only;rw[p];by_cases r:t.1=0;rw[an r];by_cases s:rY T O=true;rw[an s,aY];intro _;exact kL (A6 rfl) rfl;rw[a_ s];intro o;simp[bH]at o;rw[a_ r];have q:=h.tas 4 (by decide);rw[p]at q
 have C:t.1=6:=by
  have h1:=gx (k:=k) (w:=(c,ti,O,st,Z,U,gr,A,nn,T,n_,V,E,M)) (i:=4) q;omega
 obtain⟨-,x,hb,o,hv1,hw⟩:=dH h (by decide) p (by omega);obtain⟨q1,q12,q13,q14,f,m,q17,q18⟩:=(gj C).1 q;by_cases u:t.2.1=0;rw[an u];exact Ff;rw[a_ u]
 have l:∀(code:Int) (g:Nat),nS c.2.1 (some (bq st:Int)) (M.getD (bf t).toNat aw.aa).1 code g=some (bq st:Int):=fun code g=>by
  rw[m];exact pj (by omega) (by decide) (by decide) F G
 by_cases Q:lM A t.2.2.2.2.2.2.2.1=true;rw[an Q,aY];intro _;refine fY (jP (iJ h) h.ti0 x f f) (l 8 _) ⟨fun n a B=> ?_,fun d o h7 _=> ?_⟩;obtain⟨g,H,I,y⟩:=B;unfold lM at Q;cases b:eM A t.2.2.2.2.2.2.2.1 with
 |none=>rw[b]at Q;cases Q
 |some i=>
  obtain⟨J,k2⟩:=gq b;obtain⟨j,z,rfl⟩:=jb aj.aa H;have v:iy A t.2.2.2.2.2.2.2.1 O=sK (A.getD i aj.aa) O:=by unfold iy;rw[b]
  by_cases e:i=j;subst e;refine .inr ⟨_,aAP.2 rfl,.inr ⟨m,?_,?_,?_⟩⟩;show(M.getD (bf t).toNat aw.aa).2.2.2.2.2.1=n;omega;show a∈(iy A t.2.2.2.2.2.2.2.1 O).2.2.2;rw[v];exact y;show vj (iy A t.2.2.2.2.2.2.2.1 O).2.2.2;rw[v];exact(gW.1 ((cG.1 h.grp.go).2.1 _ (bK (d:=aj.aa) J))).2.2.2.2.2.2
  have D:A.getD j aj.aa∈dQ A t.2.2.2.2.2.2.2.1 O:=by
   unfold dQ;rw[b];dsimp only;split;rw[cx _ z];rcases aA0 e with e|e;refine aAR _ (aAZ.2 ⟨j-(i+1),by rw[List.length_drop];omega,?_⟩);rw[List.getElem_drop];congr 1;omega;exact aAV _ (aAZ.2 ⟨j,by rw[aA4];omega,by rw[List.getElem_take]⟩);exact yh aj.aa z e
  exact .inl ⟨_,D,I,y⟩
 rw[aAP.1 o]at h7;have:(M.getD (bf t).toNat aw.aa).1=7:=h7;omega;rw[a_ Q,aY];intro _;exact fY (jP (iJ h) h.ti0 x f f) (l 6 0) (qe (by show¬(M.getD (bf t).toNat aw.aa).1=7;omega))
end
def Bp(w w':ag):Prop:=qt w.1.2.1 (mH w) (mH w') (iA w) (iA w') (bV w) (bV w')
def Vj{k:Nat}{w:ag}{i:Nat}(h:bC k w=true)(m:i<5)(n:∀p∈mH w,p.2.1<4611686018427387904)(b:(iU true k w i).1=true):Bp w (iU true k w i).2:=by
 obtain⟨c,ti,O,st,Z,U,gr,A,nn,T,n_,V,E,M⟩:=w;have R:=bR.1 h;generalize a:E.getD i ak.aa=t;have g:=R.tas i m;rw[a]at g;have ho:=gx (k:=k) (w:=(c,ti,O,st,Z,U,gr,A,nn,T,n_,V,E,M)) (i:=i) g;revert b;unfold Bp iU;dsimp only[bF];rw[a];by_cases d:t.1=1;rw[an d];exact Tl R n (by omega) a d;rw[a_ d];by_cases j:t.1=2\/t.1=3;rw[an j];unfold nW wV;dsimp only;rw[a];by_cases e:t.1=2;rw[an e];exact Tp R (by omega) a e;rw[a_ e];exact RW R (by omega) a (by omega);rw[a_ j];by_cases f:t.1=4;rw[an f];exact QE R (by omega) a f;rw[a_ f];by_cases l:i=3;rw[an l];exact RX R;rw[a_ l];by_cases h6:i=4;rw[an h6];exact Qr R;rw[a_ h6];intro b;cases b
def Vo{k:Nat}{w:ag}{e:cq}(h:bC k w=true)(L:∀p∈mH w,p.2.1<4611686018427387904)(a:(pz k w e).1=true):Bp w (pz k w e).2:=by
 have N:=h;have o:∀i t op,Bp w (fk w i t op):=fun i t op=>kL (A6 rfl) rfl
 have b:∀(d:aC) (l:ag),0<=w.2.1->(0:Int)<=(bq (mH w):Int)/\(bq (mH w):Int)<=w.1.2.1->(∀x∈bV w,cW x<w.2.1)->cW d=w.2.1->(¬(d.1=1/\(s9 d=1\/s9 d=3))/\¬d.1=4/\¬d.1=5/\¬d.1=7)->
  mH l=mH w->iA l=iA w->bV l=bV w++[d]->Bp w l:=by
  intro d l h0 hc G a f H I J;unfold Bp;rw[H,I,J];refine fY (D5 (by omega) fun x K=>by have:=G x K;omega) ?_ (qe f.2.2.2);exact pj (op:=d.1) (code:=s9 d) f.1 f.2.1 f.2.2.1 hc.1 hc.2
 have g:0<=w.2.1/\((0:Int)<=(bq (mH w):Int)/\(bq (mH w):Int)<=w.1.2.1)/\∀x∈bV w,cW x<w.2.1:=by
  obtain⟨c,ti,O,st,Z,U,gr,A,nn,T,n_,V,E,M⟩:=w;have R:=bR.1 N;exact⟨R.ti0,oZ R,iJ R⟩
 obtain⟨C,D,F⟩:=g;unfold pz at a|-;by_cases q:e.1=1;rw[an q]at a|-;by_cases hc:cP w e.2.1=true;rw[an hc];dsimp only;by_cases r:cw e.2.2.1=true;rw[an r];exact o _ _ _;rw[a_ r];exact b (1,e.2.1,e.2.2.1,[],0,0,4,[],w.2.2.1,w.2.1,w.2.1,w.2.1) _ C D F rfl ⟨by show¬((1:Int)=1/\((4:Int)=1\/(4:Int)=3));decide,by show¬(1:Int)=4;decide,by show¬(1:Int)=5;decide,by show¬(1:Int)=7;decide⟩ rfl rfl rfl;rw[a_ hc]at a;cases a;rw[a_ q]at a|-;by_cases s:e.1=2;rw[an s]at a|-;by_cases hc:(cP w e.2.1&&dt e.2.2.2)=true;rw[an hc];exact o _ _ _;rw[a_ hc]at a;cases a;rw[a_ s]at a|-;by_cases u:e.1=3;rw[an u]at a|-;by_cases hc:cP w e.2.1=true;rw[an hc];exact o _ _ _;rw[a_ hc]at a;cases a;rw[a_ u]at a|-;by_cases v:e.1=4;rw[an v]at a|-;by_cases hc:cP w e.2.1=true;rw[an hc];exact o _ _ _;rw[a_ hc]at a;cases a;rw[a_ v]at a|-;by_cases y:e.1=5;rw[an y]at a|-;by_cases j:bc e.2.1 0 4=true;rw[an j]at a|-;have P:e.2.1.toNat<5:=by unfold bc at j;simp only[aAW,b_]at j;omega
 exact Vj h P L a;rw[a_ j]at a;cases a;rw[a_ y]at a|-;by_cases z:e.1=6;rw[an z]at a|-;by_cases m:bc e.2.1 0 ((df w).length-1)=true;rw[an m];exact b (AL e.2.1 ((df w).getD e.2.1.toNat aU.aa) w.2.2.1 w.2.1) _ C D F rfl ⟨by show¬((9:Int)=1/\_);omega,by show¬(9:Int)=4;decide,by show¬(9:Int)=5;decide,by show¬(9:Int)=7;decide⟩ rfl rfl rfl;rw[a_ m]at a;cases a;rw[a_ z]at a|-;by_cases B:e.1=7;rw[an B]at a|-;by_cases n:bc e.2.1 1 20=true/\w.2.2.1+e.2.1<=99899;rw[an n];exact kL rfl rfl;rw[a_ n]at a;cases a;rw[a_ B]at a;cases a
/-! how many stand-/
def amp{l:List ae}{a:ae}(h:a∈l):∃j,Hp l a.1=some j/\j<l.length/\(l.getD j ab.aa).1=a.1:=by
 obtain⟨j,b,e,f⟩:=xY (d:=ab.aa) (p:=fun x=>decide (x.1=a.1)) h (by simp);exact⟨j,b,e,by simpa using f⟩
def alD{gs:List au}{by_:List ByteArray}(h:dR gs by_=true){n:Int}{a:ae}(y:PT gs n a):ah3 gs a.1=n:=by
 obtain⟨g,r,B,w⟩:=y;have Q:=cG.1 h;obtain⟨j0,s,_⟩:=amp w;obtain⟨i,C,x,D⟩:=xY (d:=aj.aa) (p:=fun g:au=>(Hp g.2.2.2.2 a.1).isSome) r (by rw[s];rfl);have q:al3 gs a.1=some i:=C;unfold ah3;rw[q];dsimp only;obtain⟨j,F⟩:=Option.isSome_iff_exists.1 D;have b:=aZ.1 F;have z:((gs.getD i aj.aa).2.2.2.2.getD j ab.aa).1=a.1:=e_ b.2.1;have f:=((gW.1 (Q.2.1 _ (bK (d:=aj.aa) x))).2.2.2.2.2.1 _ (bK (d:=ab.aa) b.1)).2;have l:=((gW.1 (Q.2.1 _ r)).2.2.2.2.2.1 _ w).2;have o:keyOf ((gs.getD i aj.aa).2.2.2.2.getD j ab.aa) by_=keyOf a by_:=by unfold keyOf;rw[z]
 obtain⟨m,u,rfl⟩:=jb aj.aa r;have v:=kI (d:=aj.aa).2 Q.2.2.2;by_cases e:i=m;rw[e];exact B;exfalso;rcases aA0 e with h6|h6;exact v m u i h6 (by rw[<-f,o,l]);exact v i x m h6 (by rw[<-f,o,l])
def DS(e:cq):Prop:=af ab e.2.2.1<=2900/\af (.sl al) e.2.2.2<=2900
section
variable{k:Nat}(Q:9223372036854775808<=k)
include Q
def xK{a b:Int}:DS (a,b,([],0,0,ByteArray.empty),[]):=by
 have e1:=gZ Q;have e2:af (.sl al) ([]:List ai)=0:=aX;exact⟨by show af ab cF<=2900;omega,by show af (.sl al) ([]:List ai)<=2900;omega⟩
def Vz{w:ag}(h:bC k w=true):af (.sl ab) (dE (bU w.2.2.2.1))<=776/\af (.sl ah) w.2.2.2.1<=1000:=by
 obtain⟨c,ti,O,st,Z,U,gr,A,nn,T,n_,V,E,M⟩:=w;have R:=bR.1 h;have h1:=jo Q (l:=bU st) fun a b=>fm (R.sto.fit a b);have d:=R.sto.cap;have h3:=(kT Q R.cf).2.2.2.1;have e:=Hx Q R.sto.ok;have h5:=(cE.1 R.sto.ok).2;unfold bq at d e;rw[tL];dsimp only;omega
set_option maxHeartbeats 8000000 in
def Po{c:aE}{w:ag}(hc:aR c)(hw:bC k w=true):Dr (nF k (c,w,())) (fun r=>DS r.1/\aR r.2.1):=by
 have W:(bF w).length=5:=by
  obtain⟨c,ti,O,st,Z,U,gr,A,nn,T,n_,V,E,M⟩:=w;exact(bR.1 hw).tl
 obtain⟨t1,t2⟩:=Vz Q hw;have t3:=ay (e:=ab) (l:=dE (bU w.2.2.2.1));have v:=rL Q (l:=w.2.2.2.1) (by omega)
 have o:∀t:aE×ag×cq×Int×ae×Unit,(aR t.1/\t.2.1=w/\af ab t.2.2.2.2.1<=400)->Dr (
  aAU (cS k (t.2.1.2.2.2.1,())) fun C=>
  aAU (bJ k (t.1,())) fun f=>
  if(decide (N' C.1+N' ([f.1]:List ae)<4294967296))=true then
   aAU (dD k (f.2.1,C.1++([f.1]:List ae),())) fun m=>
   aAU (bd k (m.2.1,([(0:Int),(3:Int),(9:Int),(60:Int)]:List Int),())) fun n=>
   some (((1:Int),t.2.2.2.1,(m.1,t.2.2.2.2.1.2.1,IntKind.i64.wrap (t.2.2.2.2.1.2.1+n.1),t.2.2.2.2.1.2.2.2),([]:List ai)),n.2.1,())
  else
   none) (fun r:cq×aE×Unit=>DS r.1/\aR r.2.1):=by
  rintro⟨c',w',e,i,a,u⟩ ⟨L,N,g3⟩;dsimp only at L N g3|-;subst N;rw[v,C'];refine aS (dY Q L) (fun f xe=>dO (c_ (by simp only[aAX];omega)) ?_)
  have hl:af (.sl ab) (dE (bU w'.2.2.2.1)++[f.1])<=1000:=by
   rw[dP (e:=ab),bS (e:=ab),aX];have:=xe.2;omega
  refine aS (CB Q (l:=dE (bU w'.2.2.2.1)++[f.1]) xe.1 (by omega)) (fun m mE=>aS (cQ Q mE.1 (by decide)) (fun n vq=>bl ⟨⟨?_,?_⟩,vq⟩))
  ·have e1:=bo Q (m.1,a.2.1,IntKind.i64.wrap (a.2.1+n.1),a.2.2.2);have e2:=bo Q a;have:=mE.2;dsimp only at e1|-;omega
  ·show af (.sl al) ([]:List ai)<=2900;rw[aX];omega
 have p:∀(r:aE) (q:ae) (i:Int) (J:aE×ag×cq×Int×ae×Unit->Option (cq×aE×Unit)),aR r->af ab q<=121->
  (∀s,(aR s.1/\s.2.1=w/\af ab s.2.2.2.2.1<=400)->Dr (J s) (fun r:cq×aE×Unit=>DS r.1/\aR r.2.1))->
  Dr (aAU (cB k (r,(16:Int),())) fun R=>
   if R.1=true then
    aAU (dy k (R.2.1,())) fun X=>
    J (X.2.1,w,(0,0,(([]:List ai),0,0,ByteArray.empty),([]:List ai)),i,X.1,())
   else
    J (R.2.1,w,(0,0,(([]:List ai),0,0,ByteArray.empty),([]:List ai)),i,q,())) (fun r:cq×aE×Unit=>DS r.1/\aR r.2.1):=by
  intro r q i J hr hq g;refine aS (gu Q hr) (fun R h8=>bm (fun _=> ?_) (fun _=>g _ ⟨h8,rfl,by dsimp only;omega⟩));exact aS (mG Q h8) (fun X h9=>g _ ⟨h9.1,rfl,h9.2⟩)
 have d:∀(B:Int) (y:aE) (i:Int) (J:aE×ag×cq×Unit->Option (cq×aE×Unit)),aR y->
  (∀s,(aR s.1/\s.2.1=w)->Dr (J s) (fun r:cq×aE×Unit=>DS r.1/\aR r.2.1))->
  Dr (if((B:Int)==(3:Int))=true then
   aAU (cS k (w.2.2.2.1,())) fun Y=>
   aAU (dD k (y,Y.1,())) fun x=>
   some (((2:Int),i,(([]:List ai),0,0,ByteArray.empty),x.1),x.2.1,())
  else
   if((B:Int)==(4:Int))=true then
    aAU (bd k (y,([(3:Int),(4:Int)]:List Int),())) fun D=>
    some ((D.1,i,(([]:List ai),0,0,ByteArray.empty),([]:List ai)),D.2.1,())
   else
    if((B:Int)==(5:Int))=true then
     aAU (bd k (y,([(1:Int),(1:Int),(2:Int),(5:Int)]:List Int),())) fun F=>
     some (((7:Int),F.1,(([]:List ai),0,0,ByteArray.empty),([]:List ai)),F.2.1,())
    else
     if((B:Int)==(6:Int))=true then
      aAU (aL k (y,(2:Int),())) fun H=>
      some (((6:Int),H.1,(([]:List ai),0,0,ByteArray.empty),([]:List ai)),H.2.1,())
     else
      J (y,w,(0,0,(([]:List ai),0,0,ByteArray.empty),([]:List ai)),())) (fun r:cq×aE×Unit=>DS r.1/\aR r.2.1):=by
  intro B y i J j g;refine bm (fun _=> ?_) (fun _=>bm (fun _=> ?_) (fun _=>bm (fun _=> ?_) (fun _=>bm (fun _=> ?_) (fun _=>g _ ⟨j,rfl⟩))))
  ·rw[v,C'];refine aS (CB Q j (by dsimp only;omega)) (fun x Kv=>bl ⟨⟨?_,?_⟩,Kv.1⟩)
   ·have:=gZ Q;show af ab cF<=2900;omega
   ·have:=Kv.2;dsimp only at this|-;omega
  ·exact aS (cQ Q j (by decide)) (fun r h=>bl ⟨xK Q,h⟩)
  ·exact aS (cQ Q j (by decide)) (fun r h=>bl ⟨xK Q,h⟩)
  ·exact aS (aQ Q j) (fun r h=>bl ⟨xK Q,h.1⟩)
 simp only[nF];refine aS (aQ Q hc) (fun r1 h1=>zp (fun t:aE×ag×cq×Unit=>aR t.1/\t.2.1=w) ?_ ?_)
 ·rintro⟨c3,w3,e3,u3⟩ ⟨L,N⟩;dsimp only at L N|-;subst N;refine aS (aQ Q L) (fun r47 z=>zp (fun t:aE×ag×cq×Int×Unit=>aR t.1) (fun t ht=>bl ⟨xK Q,ht⟩) (fun J g=> ?_));refine vg (fun t:aE×ag×cq×Int×Int×Unit=>(3-t.2.2.2.2.1).toNat) (fun t=>aR t.1/\t.2.1=w3/\0<=t.2.2.2.1/\t.2.2.2.1<5/\0<=t.2.2.2.2.1/\t.2.2.2.2.1<=3) ?_ ⟨z.1,rfl,by have:=z.2;dsimp only;omega,by have:=z.2;dsimp only;omega,Int.le_refl _,by show(0:Int)<=3;decide⟩ (by dsimp only;omega);rintro G ⟨c5,w5,e5,i5,n5,u5⟩ ⟨q1,q2,q3,q4,q5,q6⟩ hG;dsimp only at q1 q2 q3 q4 q5 q6 hG|-;subst q2;refine bm (fun I=>dO ?_ ?_) (fun _=>g _ q1)
  ·rw[show w5.2.2.2.2.2.2.2.2.2.2.2.2.1.length=5 from W];exact c_ ⟨q3,by omega⟩
  ·have I:n5<3:=by simpa using I
   have c0:∀b:Bool,Dr (if b=true then lL k (w5,())else some (false,())) (fun _=>True):=fun b=>bm (fun _=>⟨_,AW Q,trivial⟩) (fun _=>⟨_,rfl,trivial⟩);refine aS (P:=fun _=>True) (c0 _) (fun r52 _=>bm (fun _=>g _ q1) (fun _=>aS (aQ Q q1) (fun r53 K=> ?_)))
   ·have:=K.2;rw[wrap64 (by omega) (by omega)];exact hG _ ⟨K.1,rfl,by dsimp only;omega,by dsimp only;omega,by dsimp only;omega,by dsimp only;omega⟩ (by dsimp only;omega)
 ·intro J g;refine aS (aQ Q h1.1) (fun B S=> ?_);refine bm (fun _=>bm (fun _=> ?_) (fun _=>d _ _ _ _ S.1 g)) (fun _=>bm (fun _=>bm (fun _=> ?_) (fun _=>d _ _ _ _ S.1 g)) (fun _=>bm (fun _=> ?_) (fun _=>d _ _ _ _ S.1 g)))
  all_goals
   exact aS (dY Q S.1) (fun r5 W=>zp _ o (fun J' b0=>p _ _ _ _ W.1 W.2 b0))
theorem Pz{b:List Int}{m:Int}(hb:b.length<=1048576)(a:0<=m):Dr (mX k (b,m,())) (fun r=>0<=r.1/\r.1<=1048576/\(r.1<=m\/m<0)):=by
 simp only[mX]
 have d:Int.tdiv (b.length:Int) 12=((b.length/12:Nat):Int):=by
  rw[Int.tdiv_eq_ediv_of_nonneg (by omega)];rfl
 rw[d,wrap64 (n:=((b.length/12:Nat):Int)) (by omega) (by omega),wrap64 (by omega) (by omega)];refine dO (by decide) (bm (fun h=> ?_) (fun h=> ?_));have h:m<3+((b.length/12:Nat):Int):=by simpa using h
 exact bl ⟨a,by dsimp only;omega,.inl (Int.le_refl _)⟩;have h:¬m<3+((b.length/12:Nat):Int):=by simpa using h
 exact bl ⟨by dsimp only;omega,by dsimp only;omega,.inl (by dsimp only;omega)⟩
end
def ND(a:List aC)(gs:List au):Prop:=
 ∀pre d post,a=pre++d::post->d.1=7->¬s9 d=3->(∃e∈post,RC e (UC d) d.2.2.1)\/PT gs (UC d) d.2.2.1
structure NL(w:ag):Prop where
 opg:ml (bV w)
 cnt:(fM (bV w)).foldl (Qs w.1.2.1) (some 0)=some (bq (mH w):Int)
 nd:ND (fM (bV w)) (iA w)
def WE{p news:List aC}{gs a:List au}(h:ND p gs)(g:P2 gs a news):ND (p++news) a:=by
 intro pre d post e h7 f;rcases List.append_eq_append_iff.1 e with⟨m,q,b⟩|⟨m,q,b⟩;have j:d∈news:=by rw[b];exact aAR _ (aA1 ..)
 exact .inr (g.2 d j h7 f);cases m with
 |nil=>
  have j:d∈news:=by
   have r:news=d::post:=by simpa using b.symm
   rw[r];exact aA1 ..
  exact .inr (g.2 d j h7 f)
 |cons x m=>
  rw[List.cons_append]at b;obtain⟨rfl,rfl⟩:=List.cons.inj b;rcases h pre d m q h7 f with⟨x,l,n⟩|o;exact .inl ⟨x,aAV _ l,n⟩;rcases g.1 _ _ o with o|⟨x,l,n⟩;exact .inr o;exact .inl ⟨x,aAR _ l,n⟩
def qc(r:Bool×ag):(bH r).2.1=r.2.1:=by
 unfold bH;split<;>rfl
def Vs{k:Nat}{w:ag}{i:Nat}:(iU true k w i).2.1=w.1:=by
 obtain⟨c,ti,O,st,Z,U,gr,A,nn,T,n_,V,E,M⟩:=w;unfold iU;split
 ·unfold fy;rw[qc];unfold qj dZ;dsimp only
  repeat' split
  all_goals rfl
 split
 ·unfold nW;rw[qc];unfold wV mF fH dZ;dsimp only
  repeat' split
  all_goals rfl
 split
 ·unfold eF;rw[qc];unfold qJ dZ;dsimp only
  repeat' split
  all_goals rfl
 split
 ·unfold eW;rw[qc];unfold gH gL;dsimp only
  repeat' split
  all_goals rfl
 split
 ·unfold fK;rw[qc];unfold gP gL;dsimp only
  repeat' split
  all_goals rfl
 rfl
def Vn{k:Nat}{w:ag}{e:cq}:(pz k w e).2.1=w.1:=by
 unfold pz;split;split;dsimp only;split<;>rfl;rfl;split;split<;>rfl;split;split<;>rfl;split;split<;>rfl;split;split;exact Vs;rfl;split;split<;>rfl;split;split<;>rfl;rfl
def WW{k:Nat}{w:ag}{e:cq}{n:Nat}(h:bC k w=true)(f:vt n w)(hn:n<=160)(g:(pz k w e).1=true)(a:NL w):NL (pz k w e).2:=by
 have j:0<=w.2.1:=by
  obtain⟨c,ti,O,st,Z,U,gr,A,nn,T,n_,V,E,M⟩:=w;exact(bR.1 h).ti0
 obtain⟨news,b,l,m⟩:=Vo h (fun p d=>by have:=f.ver p d;omega) g;refine⟨W1 j a.opg,?_,?_⟩;rw[b,List.foldl_append,Vn,a.cnt];exact l;rw[b];exact WE a.nd m
def VS{c:bh}(hc:cR c=true):NL (iG c):=by
 have g:0<=c.1/\c.1<=3/\1<=c.1:=by
  unfold cR bc at hc;simp only[aAW,b_]at hc;omega
 have h:dq c.1=aA6 c.1.toNat (-1,0,[]):=by
  unfold dq;simp[g]
 have b:bq (dq c.1)=0:=by
  rw[h]
  have:bU (aA6 c.1.toNat ((-1,0,[]):ar))=[]:=by
   refine List.eq_nil_iff_forall_not_mem.2 fun a j=> ?_;obtain⟨p,m,ch,f,_⟩:=Kr.1 j;rw[(List.mem_replicate.1 m).2]at f;exact absurd f (List.not_mem_nil)
  unfold bq;rw[this];rfl
 unfold iG;rw[an hc];refine⟨fun d l=>(by cases l),?_,fun pre d post e=> ?_⟩;show some (0:Int)=some ((bq (dq c.1):Nat):Int);rw[b];rfl;have e:([]:List aC)=pre++d::post:=e;simp at e
section
variable{k:Nat}(Q:9223372036854775808<=k)
include Q
set_option maxHeartbeats 8000000 in
def Qv{c:aE}{m:Int}{P:ag->Prop}(q:∀c,cR c=true->P (iG c))(s:∀w e n,bC k w=true->vt n w->n<=160->(pz k w e).1=true->P w->P (pz k w e).2)
 (hc:aR c) (hm:m<=1000):Dr (mY k (c,m,())) (fun r=>(MN k r.2.2.1/\P r.2.2.1)/\aR r.2.2.2.1):=by
 simp only[mY];refine aS (Es Q hc) (fun r1 b=> ?_);obtain⟨h,j⟩:=Oq Q b.2;have hsz:=Ck Q h j (by omega);have hcs:=(kT Q b.2).1;refine fc (zi Q (by omega)) (fc (tN Q (by dsimp only;omega)) ?_);refine zp (fun t:aE×ag×ag×List cq×ag×ag×Unit=>aR t.1/\MN k t.2.2.2.2.2.1/\P t.2.2.2.2.2.1) (fun t f=>bl ⟨f.2,f.1⟩) (fun J o=> ?_);refine aS (aQ Q b.1) (fun r6 h6=> ?_)
 refine vg (fun t:aE×ag×ag×List cq×ag×ag×Int×Unit=>t.2.2.2.2.2.2.1.toNat)
  (fun t=>aR t.1/\bC k t.2.2.2.2.2.1=true/\P t.2.2.2.2.2.1/\vt t.2.2.2.1.length t.2.2.2.2.2.1/\t.2.2.2.1.length<=160/\t.2.2.2.2.2.2.1<=2000/\-1<=t.2.2.2.2.2.2.1) ?_ ⟨h6.1,h,q _ b.2,j,by simp,?_,?_⟩ ?_
 rintro G ⟨c8,w1,w2,l,w3,w,i,u⟩ ⟨q1,q2,q0,q3,q4,q5,q6⟩ hG;dsimp only at q1 q2 q0 q3 q4 q5 q6 hG|-;refine bm (fun a=> ?_) (fun _=>o _ ⟨q1,⟨q2,_,q4,q3⟩,q0⟩)
 have a:0<i/\(l.length:Int)<160:=by
  by_cases d:(0:Int)<i;rw[an (by simpa using d)]at a;exact⟨d,by simpa using a⟩;rw[a_ (by simpa using d)]at a;cases a
 refine aS (Po Q q1 q2) (fun p h9=>dO (c_ (by simp only[aAX];omega)) ?_);have v:=Ck Q q2 q3 q4;refine fc (tN Q (by omega)) (fc (EB Q (Nat.le_trans v (by decide)) q2 (by have:=h9.1.1;omega) (by have:=h9.1.2;omega)) ?_);have x:IntKind.i64.wrap (i-1)=i-1:=wrap64 (by omega) (by omega);rw[x];have hlen:(l++[p.1]).length=l.length+1:=by simp
 refine bm (fun g=> ?_) (fun _=> ?_);obtain⟨y,z⟩:=SM Q q2 q3 q4 h9.1.1 g;exact hG _ ⟨h9.2,y,s _ _ _ q2 q3 q4 g q0,by dsimp only;rw[hlen];exact z,by dsimp only;rw[hlen];omega,by dsimp only;omega,by dsimp only;omega⟩ (by dsimp only;omega);refine hG _ ⟨h9.2,q2,q0,?_,by dsimp only;rw[hlen];omega,by dsimp only;omega,by dsimp only;omega⟩ (by dsimp only;omega);dsimp only;rw[hlen];exact Ex.stay q3;have:=h6.2;dsimp only;rw[wrap64 (by omega) (by omega)];omega;have:=h6.2;dsimp only;rw[wrap64 (by omega) (by omega)];omega;have:=h6.2;dsimp only;rw[wrap64 (by omega) (by omega)];omega
def MY{c:aE}{m:Int}(hc:aR c)(g:m<=1000):Dr (km k (c,m,())) (fun r=>(MN k r.1/\NL r.1)/\aR r.2.1):=by
 simp only[km];obtain⟨r,e,h⟩:=Qv Q (P:=NL) (fun c hc=>VS hc) (fun w e n h a b d f=>WW h a b d f) hc g;rw[e,C'];exact⟨_,rfl,h⟩
end
def D3{d:aC}{O ti code:Int}(h:cW d= -1->lA d=[]):dA false false d O ti code []=dA true false d O ti code []:=by
 unfold dA ot Lj;simp only[Bool.or_false,aAN,if_false,if_true];by_cases e:cW d= -1;rw[an e,an e];have b:=h e;obtain⟨op,task,a,l,i,n,cd,gt,nw,inv,lin,res⟩:=d;unfold lA at b;dsimp only at b;subst b;rfl;rw[a_ e,a_ e]
def X0(w:ag)(i:Nat):aC:=(bV w).getD (bf ((bF w).getD i ak.aa)).toNat aw.aa
section
variable{k:Nat}(Q:9223372036854775808<=k)
include Q
omit Q in
theorem T8{w:ag}(h:bC k w=true):(bF w).length=5:=by
 obtain⟨c,ti,O,st,Z,U,gr,A,nn,T,n_,V,E,M⟩:=w;exact(bR.1 h).tl
end
def Gp(E:List aF)(M:List aC):Prop:=
 E.length=5->∀i,i<5->¬(E.getD i ak.aa).1=0->cW (M.getD (bf (E.getD i ak.aa)).toNat aw.aa)= -1->lA (M.getD (bf (E.getD i ak.aa)).toNat aw.aa)=[]
structure JT(w:ag):Prop where
 tt:af az w<=1040000
 ti:w.2.1<=1000
 nn:Zg w<=1000
 ver:∀p∈mH w,p.2.1<=1000
 hp:(EC w).length<=15\/17<=(EC w).length
 got:Gp (bF w) (bV w)
theorem JT.aph{k:Nat}{w:ag}(h:JT w)(a:bC k w=true):(EC w).length<=15:=by
 obtain⟨c,ti,O,st,Z,U,gr,A,nn,T,n_,V,E,M⟩:=w;have h1:=(rC.1 (bR.1 a).grp.ho).2.2;have h2:T.length<=15\/17<=T.length:=h.hp;show T.length<=15;omega
section
variable{k:Nat}(Q:9223372036854775808<=k)
include Q
def fV{c:bh}{ti O gr nn:Int}{st:List ar}{Z:List bg}{U V:List ae}{A:List au}{T:List aJ}{n_:List br}{E:List aF}{M:List aC}
 (h:af cM c+af (.sl ah) st+af (.sl aU) Z+af (.sl ab) U+af (.sl aj) A+af (.sl aD) T+af (.sl bM) n_+af (.sl ab) V+af (.sl ak) E+af (.sl aw) M<=1040000)
 (a:ti<=1000) (b:nn<=1000) (d:∀p∈st,p.2.1<=1000) (e:T.length<=15\/17<=T.length) (f:Gp E M):JT (c,ti,O,st,Z,U,gr,A,nn,T,n_,V,E,M):=
 ⟨by rw[da Q];exact h,a,b,d,e,f⟩
set_option maxHeartbeats 4000000 in
def Oo{c:aE}{m:Int}(hc:aR c)(H:m<=1000):Dr (mJ k (c,m,())) (fun r=>JT r.1/\aR r.2.1):=by
 simp only[mJ];refine aS (MY Q hc H) (fun D j=>aS (aQ Q j.2) (fun r2 f=> ?_));obtain⟨⟨⟨z,n,J,B⟩,K⟩,-⟩:=j;have x:=Ck Q z B J;obtain⟨w,cc,u⟩:=D;obtain⟨C,ti,O,st,Z,U,gr,A,nn,T,n_,V,E,M⟩:=w;have R:=bR.1 z;have X:Ex n C ti st U A nn T n_ V E M:=B;have v:ml M:=K.opg;rw[da Q]at x;dsimp only at x|-;have hti:=X.ti;have hnn:=X.nn;have b:∀p∈st,p.2.1<=1000:=fun p o=>by have:=X.ver p o;omega
 have a:T.length<=15\/17<=T.length:=by
  have j:=X.hp;have f:=(cG.1 R.grp.go).1;exact .inl (by omega)
 have d:Gp E M:=fun _ i q _=>v.at_;have hA:af (.sl ab) ([]:List ae)=0:=aX;have hS:af (.sl aU) ([]:List bg)=0:=aX;have hD:af (.sl aw) ([]:List aC)=0:=aX;have l1:=ay (e:=aU) (l:=Z);have l2:=ay (e:=ab) (l:=U);have l3:=ay (e:=aw) (l:=M);have l4:=ay (e:=ab) (l:=V);refine bm (fun _=>aS (Q5 Q f.1) (fun r h=>bl ⟨fV Q (by have:=h.2;omega) (by omega) (by omega) b a d,h.1⟩)) (fun _=> ?_);refine bm (fun _=>bl ⟨fV Q (by omega) (by omega) (by omega) b a d,f.1⟩) (fun _=> ?_);refine bm (fun _=>aS (D6 Q f.1) (fun r h=>bl ⟨fV Q (by omega) (by omega) (by omega) b a d,h⟩)) (fun _=> ?_);refine bm (fun _=>aS (TK Q f.1) (fun r h=>bl ⟨fV Q (by have:=h.2.1;omega) (by omega) (by omega) (fun p o=>by have:=h.2.2 p o;omega) a d,h.1⟩)) (fun _=> ?_);refine bm (fun _=>aS (TF Q f.1) (fun r h=>dO (by simp;omega) (bl ⟨fV Q (by have:=h.2;rw[dP (e:=aU),bS (e:=aU)];omega) (by omega) (by omega) b a d,h.1⟩))) (fun _=> ?_);refine bm (fun _=>aS (mG Q f.1) (fun r h=>dO (by simp;omega) (bl ⟨fV Q (by have:=h.2;rw[dP (e:=ab),bS (e:=ab)];omega) (by omega) (by omega) b a d,h.1⟩))) (fun _=> ?_);refine bm (fun _=>aS (aQ Q f.1) (fun r h=>bl ⟨fV Q (by omega) (by omega) (by omega) b a d,h.1⟩)) (fun _=> ?_);refine bm (fun _=>aS (RS Q f.1 (by have:=(kT Q R.cf).1;rw[js Q]at this;have:=ay (e:= .str) (l:=C.2.2.2.2.2);omega)) (fun r h=>bl ⟨fV Q (by have:=h.2;omega) (by omega) (by omega) b a d,h.1⟩)) (fun _=> ?_);refine bm (fun _=>aS (Nn Q (-1) 1 f.1 (by decide) (by decide)) (fun r h=>bl ⟨fV Q (by omega) (by omega) (by have:=h.2;omega) b a d,h.1⟩)) (fun _=> ?_);refine bm (fun _=>aS (RF Q f.1) (fun r h=>bl ⟨fV Q (by have:=h.2;have:=aa7 Q r.1;omega) (by omega) (by omega) b (by have:=h.2;omega) d,h.1⟩)) (fun _=> ?_);refine bm (fun _=> ?_) (fun _=> ?_);refine aS (aQ Q f.1) (fun g mE=>aS (RY Q mE.1) (fun s vq=>dO (c_ ?_) (bl ⟨fV Q ?_ (by omega) (by omega) b a (fun _ i q _=>v.at_),vq.1⟩)));have:=mE.2;have:=R.tl;omega;have I:g.1.toNat<E.length:=by have:=mE.2;have:=R.tl;omega
 have:=ij (e:=ak) E g.1.toNat s.1 I;have:=vq.2;omega;refine bm (fun _=> ?_) (fun _=> ?_);refine aS (Sr Q f.1) (fun r14 FJ=>dO (by simp;omega) (bl ⟨fV Q (by have:=FJ.2;rw[dP (e:=aw),bS (e:=aw)];omega) (by omega) (by omega) b a ?_,FJ.1⟩));intro _ i q F;have hb:=uk (R.tas i q) F;rw[ig _ (by omega)];exact v.at_;refine bm (fun _=> ?_) (fun _=> ?_);have y:aA2 4=4:=rfl;have ht:=cN (e:=ak) E 4;refine dO (c_ ⟨by decide,by have:=R.tl;omega⟩) (bl ⟨fV Q (by rw[y];omega) (by omega) (by omega) b a ?_,f.1⟩);intro G;rw[aA4,y]at G;omega;refine bm (fun _=>aS (mG Q f.1) (fun r h=>dO (by simp;omega) (bl ⟨fV Q (by have:=h.2;rw[dP (e:=ab),bS (e:=ab)];omega) (by omega) (by omega) b a d,h.1⟩))) (fun _=> ?_);exact bl ⟨fV Q (by omega) (by omega) (by omega) b a d,f.1⟩
def af9{b:List Int}(a:b.length<=1048576):Dr (Rn k (b,())) (fun r=>JT r.1):=by
 simp only[Rn];exact aS (MC Q a) (fun r1 d=>aS (Pz Q (m:=90) a (by decide)) (fun r2 h2=>aS (Oo Q d (by omega)) (fun r3 e=>bl e.1)))
theorem HJ{l:List ByteArray}(hl:l.length<=1048576):kW k (l,l,())=some (true,()):=by
 simp only[kW];rw[a_ (by simp)];refine(bG (fun i:Nat=>(l,l,(l.length:Int),(i:Int),())) l.length (e:=some (true,())) (fun G i a=> ?_) (fun G=> ?_) k 0 (by omega) (by omega));simp only[aH,aA a,a,decide_true,if_true,aAQ];rw[aV (by omega)];simp;simp
def Mq{c:bh}(h:af cM c<=1048576):ma k (c,c,())=some (true,()):=by
 rw[kF Q]at h;have hl:=ay (e:= .str) (l:=c.2.2.2.2.2);simp only[ma,beq_self_eq_true,if_true,HJ Q (show c.2.2.2.2.2.length<=1048576 by omega),C']
def Jp{c:aP}(h:af ax c<=1048576):ll k (c,c,())=some (true,()):=by
 rw[cu Q]at h;simp only[ll,beq_self_eq_true,if_true,ey Q h,C',decide_true]
def Mp{p:ar}(h:af ah p<=1048576):mu k (p,p,())=some (true,()):=by
 have b:=h;rw[bY Q]at b;have hl:=ay (e:=ax) (l:=p.2.2);simp only[mu];rw[a_ (by simp)];refine(bG (fun i:Nat=>(p,p,(p.2.2.length:Int),(i:Int),())) p.2.2.length (e:=some (true,())) (fun G i a=> ?_) (fun G=> ?_) k 0 (by omega) (by omega));simp only[aH,aA a,a,decide_true,if_true,aAQ];rw[aV (by omega),Jp Q (fJ Q h a).1,C'];simp;simp
def EE{l:List ar}(h:af (.sl ah) l<=1048576):kG k (l,l,())=some (true,()):=by
 have hl:=ay (e:=ah) (l:=l);simp only[kG];rw[a_ (by simp)];refine(bG (fun i:Nat=>(l,l,(i:Int),())) l.length (e:=some (true,())) (fun G i a=> ?_) (fun G=> ?_) k 0 (by omega) (by omega));simp only[aH,aA a,a,decide_true,if_true,aAQ];rw[aV (by omega),Mp Q (il Q h a),C'];simp;simp
def Nw{s:bg}(h:af aU s<=1048576):nE k (s,s,())=some (true,()):=by
 rw[eG Q]at h;simp only[nE,beq_self_eq_true,if_true,ey Q h,C',decide_true]
def HD{l:List bg}(h:af (.sl aU) l<=1048576):lD k (l,l,())=some (true,()):=by
 have hl:=ay (e:=aU) (l:=l);simp only[lD];rw[a_ (by simp)];refine(bG (fun i:Nat=>(l,l,(i:Int),())) l.length (e:=some (true,())) (fun G i a=> ?_) (fun G=> ?_) k 0 (by omega) (by omega));simp only[aH,aA a,a,decide_true,if_true,aAQ];have:=dw (e:=aU) (l:=l) (i:=i) (d:=aU.aa) a;rw[aV (by omega),Nw Q (s:=l.getD i aU.aa) (by omega),C'];simp;simp
theorem LV{l:List aJ}(h:af (.sl aD) l<=1048576):mj k (l,l,())=some (true,()):=by
 have hl:=ay (e:=aD) (l:=l);have b:∀t:aJ,eqv aD t t=true:=fun t=>(yc rfl).2 rfl;simp only[mj];rw[a_ (by simp)];refine(bG (fun i:Nat=>(l,l,(i:Int),())) l.length (e:=some (true,())) (fun G i a=> ?_) (fun G=> ?_) k 0 (by omega) (by omega));simp only[aH,aA a,a,decide_true,if_true,aAQ,b];rw[aV (by omega)];simp;simp
def LR{l:List br}(h:af (.sl bM) l<=1048576):mz k (l,l,())=some (true,()):=by
 have hl:=ay (e:=bM) (l:=l);simp only[mz];rw[a_ (by simp)];refine(bG (fun i:Nat=>(l,l,(i:Int),())) l.length (e:=some (true,())) (fun G i a=> ?_) (fun G=> ?_) k 0 (by omega) (by omega));simp only[aH,aA a,a,decide_true,if_true,aAQ];have:=dw (e:=bM) (l:=l) (i:=i) (d:=bM.aa) a;rw[aV (by omega),B7 Q (g:=l.getD i bM.aa) (by omega),C'];simp;simp
theorem KW{l:List Int}(hl:l.length<=1048576):jr k (l,l,())=some (true,()):=by
 simp only[jr];rw[a_ (by simp)];refine(bG (fun i:Nat=>(l,l,(i:Int),())) l.length (e:=some (true,())) (fun G i a=> ?_) (fun G=> ?_) k 0 (by omega) (by omega));simp only[aH,aA a,a,decide_true,if_true,aAQ];rw[aV (by omega)];simp;simp
def LG{d:aC}(h:af aw d<=1048576):mg k (d,d,())=some (true,()):=by
 rw[bN Q]at h;have a:bW k (d.2.2.1,d.2.2.1,())=some (true,()):=by rw[ee Q (gE Q (by omega))];simp
 have b:cg k (d.2.2.2.1,d.2.2.2.1,())=some (true,()):=by
  have:=ay (e:=al) (l:=d.2.2.2.1);rw[du Q (by omega)];simp
 have f:cY k (d.2.2.2.2.2.2.2.1,d.2.2.2.2.2.2.2.1,())=some (true,()):=by rw[ey Q (by omega)];simp
 simp only[mg,beq_self_eq_true,if_true,a,b,f,C']
def JZ{l:List aC}(h:af (.sl aw) l<=1048576):kP k (l,l,())=some (true,()):=by
 have hl:=ay (e:=aw) (l:=l);simp only[kP];rw[a_ (by simp)];refine(bG (fun i:Nat=>(l,l,(i:Int),())) l.length (e:=some (true,())) (fun G i a=> ?_) (fun G=> ?_) k 0 (by omega) (by omega));simp only[aH,aA a,a,decide_true,if_true,aAQ];have:=dw (e:=aw) (l:=l) (i:=i) (d:=aw.aa) a;rw[aV (by omega),LG Q (d:=l.getD i aw.aa) (by omega),C'];simp;simp
def IT{l:List aF}(h:af (.sl ak) l<=1048576):k9 k (l,l,())=some (true,()):=by
 have hl:=ay (e:=ak) (l:=l);simp only[k9];rw[a_ (by simp)];refine(bG (fun i:Nat=>(l,l,(i:Int),())) l.length (e:=some (true,())) (fun G i a=> ?_) (fun G=> ?_) k 0 (by omega) (by omega));simp only[aH,aA a,a,decide_true,if_true,aAQ];have b:=dw (e:=ak) (l:=l) (i:=i) (d:=ak.aa) a;generalize hd:List.getD l i ak.aa=d at b|-;rw[bw Q]at b;have f:bW k (d.2.2.1,d.2.2.1,())=some (true,()):=by rw[ee Q (gE Q (by omega))];simp
 have g:cg k (d.2.2.2.1,d.2.2.2.1,())=some (true,()):=by
  have:=ay (e:=al) (l:=d.2.2.2.1);rw[du Q (by omega)];simp
 have j:jr k (d.2.2.2.2.2.1,d.2.2.2.2.2.1,())=some (true,()):=KW Q (by rw[pR Q]at b;omega);have m:eI k (d.2.2.2.2.2.2.1,d.2.2.2.2.2.2.1,())=some (true,()):=rq Q (by omega);rw[aV (by omega)];simp only[bne_self_eq_false,aAN,if_false,f,g,j,m,C',aAS,beq_self_eq_true,if_true];simp
def pw{w:ag}(h:af az w<=1048576):iN k (w,w,())=some (true,()):=by
 rw[da Q]at h
 simp only[iN,beq_self_eq_true,if_true,Mq Q (c:=w.1) (by omega),EE Q (l:=w.2.2.2.1) (by omega),HD Q (l:=w.2.2.2.2.1) (by omega),rq Q (l:=w.2.2.2.2.2.1) (by omega),
  HF Q (l:=w.2.2.2.2.2.2.2.1) (by omega),LV Q (l:=w.2.2.2.2.2.2.2.2.2.1) (by omega),LR Q (l:=w.2.2.2.2.2.2.2.2.2.2.1) (by omega),rq Q (l:=w.2.2.2.2.2.2.2.2.2.2.2.1) (by omega),
  IT Q (l:=w.2.2.2.2.2.2.2.2.2.2.2.2.1) (by omega),JZ Q (l:=w.2.2.2.2.2.2.2.2.2.2.2.2.2) (by omega),C']
end
theorem amk{k:Nat}{w:ag}(h:¬((bF w).getD 3 ak.aa).1=0->cW (X0 w 3)= -1->lA (X0 w 3)=[]):eW false k w=eW true k w:=by
 obtain⟨c,ti,O,st,Z,U,gr,A,nn,T,n_,V,E,M⟩:=w;have h:¬(E.getD 3 ak.aa).1=0->cW (M.getD (bf (E.getD 3 ak.aa)).toNat aw.aa)= -1->lA (M.getD (bf (E.getD 3 ak.aa)).toNat aw.aa)=[]:=h;unfold eW gH;dsimp only;by_cases a:(E.getD 3 ak.aa).1=0;rw[an a,an a];rw[a_ a,a_ a];have b:∀n:Int,cW (ou (M.getD (bf (E.getD 3 ak.aa)).toNat aw.aa) n)= -1->lA (ou (M.getD (bf (E.getD 3 ak.aa)).toNat aw.aa) n)=[]:=fun n=>h a;rw[D3 (h a),D3 (b nn)];cases eR A (keyOf (E.getD 3 ak.aa).2.2.1 c.2.2.2.2.2)with
 |none=>rfl
 |some j=>dsimp only;rw[D3 (b _)]
section
variable{k:Nat}(Q:9223372036854775808<=k)
include Q
variable{c:bh}{ti O gr nn:Int}{st:List ar}{Z:List bg}{U V:List ae}{A:List au}{T:List aJ}{n_:List br}{E:List aF}{M:List aC}{i:Nat}{t:aF}
omit Q in
theorem aku(h:Rt k c ti O st Z U gr A nn T V E M)(f:E.getD 3 ak.aa=t):∃n:Nat,bf t=(n:Int)/\(t.1=0\/t.1=5/\(t.2.1=0\/t.2.1=1))/\(t.1=5->n<M.length/\(M.getD n aw.aa).2.2.1=t.2.2.1):=by
 have a:=h.tas 3 (by decide);rw[f]at a;have h1:=gx (k:=k) (w:=(c,ti,O,st,Z,U,gr,A,nn,T,[],V,E,M)) (i:=3) a;by_cases b:t.1=0
 have l:t=zT:=by
  have g:cV t (3:Nat)=true:=by unfold cC at a;simp only[aAW]at a;exact a.1
  unfold cV at g;simp only[b,show¬(0:Int)=1 by decide,show¬(0:Int)=2 by decide,show¬(0:Int)=3 by decide,show¬(0:Int)=4 by decide,show¬(0:Int)=5 by decide,show¬(0:Int)=6 by decide,decide_false,Bool.false_and,Bool.or_false,aAW,b_]at g;grind
 exact⟨0,by rw[l];rfl,.inl b,fun e=>by omega⟩;have j:t.1=5:=by omega
 obtain⟨-,m,hb,hd,hv1,hw⟩:=dH h (by decide) f b;obtain⟨⟨q1,q2,q3,q4,q5⟩,q12,q13,q14,q15,q16,d⟩:=(iM j).1 a;have:0<=bf t:=q2;exact⟨(bf t).toNat,by omega,.inr ⟨j,by omega⟩,fun _=>⟨m,d⟩⟩
def ag2(hs:af az (c,ti,O,st,Z,U,gr,A,nn,T,n_,V,E,M)<=1048576)(h:Rt k c ti O st Z U gr A nn T V E M):
 MK k ((c,ti,O,st,Z,U,gr,A,nn,T,n_,V,E,M),())=
  some ((eW false k (c,ti,O,st,Z,U,gr,A,nn,T,n_,V,E,M)).1,(eW false k (c,ti,O,st,Z,U,gr,A,nn,T,n_,V,E,M)).2,()):=by
 obtain⟨n,b,d,a⟩:=aku h rfl;exact afp Q hs (by rw[h.tl];decide) rfl d (fun e=>(a e).1) b rfl (fun e=>(a e).2)
def agF(hs:af az (c,ti,O,st,Z,U,gr,A,nn,T,n_,V,E,M)<=1048576)(h:Rt k c ti O st Z U gr A nn T V E M):
 iH k ((c,ti,O,st,Z,U,gr,A,nn,T,n_,V,E,M),())=
  some ((eW true k (c,ti,O,st,Z,U,gr,A,nn,T,n_,V,E,M)).1,(eW true k (c,ti,O,st,Z,U,gr,A,nn,T,n_,V,E,M)).2,()):=by
 obtain⟨n,f,g,a⟩:=aku h rfl;exact pB Q hs (by rw[h.tl];decide) rfl g (fun e=>(a e).1) f rfl (fun e=>(a e).2) (fun i b=>by have:=(h.grp.td _ (bK (d:=aj.aa) b)).2.2.1;omega)
end
def V7(s:Bool)(k:Nat)(w:ag):ag×Bool:=
 if bC k w=true then(if(eW s k w).1=true then((eW s k w).2,true)else(w,false))else(w,false)
section
variable{k:Nat}(Q:9223372036854775808<=k)
include Q
def afj{w:ag}(hs:af az w<=1048576):Uz k (w,())=some ((V7 false k w).1,(V7 false k w).2,()):=by
 simp only[Uz];rw[Py Q (by omega),C',lC Q hs,C'];unfold V7;cases a:bC k w with
 |false=>rfl
 |true=>
  obtain⟨c,ti,O,st,Z,U,gr,A,nn,T,n_,V,E,M⟩:=w;have R:=bR.1 a;simp only[aAS,aAN,if_false,show((false:Bool)==false)=true from rfl,if_true,ag2 Q hs R,C'];cases (eW false k (c,ti,O,st,Z,U,gr,A,nn,T,n_,V,E,M)).1;simp only[aAY,if_true,aAN,if_false];simp only[aAS,aAN,if_false,if_true]
def aeZ{w:ag}(hs:af az w<=1048576):Up k (w,())=some ((V7 true k w).1,(V7 true k w).2,()):=by
 simp only[Up];rw[tN Q (by omega),C',A7 Q hs,C'];unfold V7;cases a:bC k w with
 |false=>rfl
 |true=>
  obtain⟨c,ti,O,st,Z,U,gr,A,nn,T,n_,V,E,M⟩:=w;have R:=bR.1 a;simp only[aAS,aAN,if_false,show((false:Bool)==false)=true from rfl,if_true,agF Q hs R,C'];cases (eW true k (c,ti,O,st,Z,U,gr,A,nn,T,n_,V,E,M)).1;simp only[aAY,if_true,aAN,if_false];simp only[aAS,aAN,if_false,if_true]
def X4(r:Bool×ag):af az (bH r).2=af az r.2:=by
 unfold bH;split;rw[da Q,da Q];rfl
theorem Rl{E:List aF}{i B:Nat}{t':aF}(h:af ak t'<=af ak (E.getD i ak.aa)+B):af (.sl ak) (E.set i t')<=af (.sl ak) E+B:=by
 by_cases a:i<E.length;have h1:=ij (e:=ak) E i t' a;have h3:af ak (E.getD i (Ty.aa ak))=af ak (E.getD i ak.aa):=rfl;omega;rw[List.set_eq_of_length_le (by omega)];omega
def aaE:af ak zT=0:=by
 have e:af ak zT=af ab cF+af (.sl al) ([]:List ai)+af (.sl (.int .i64)) ([]:List Int)+af (.sl ab) ([]:List ae):=bw Q _;rw[e,aX,aX,aX,gZ Q]
variable{c:bh}{ti O gr nn:Int}{st:List ar}{Z:List bg}{U V:List ae}{A:List au}{T:List aJ}{n_:List br}{E:List aF}{M:List aC}{i:Nat}{t:aF}
def ane:af az (gL (c,ti,O,st,Z,U,gr,A,nn,T,n_,V,E,M) i).2<=af az (c,ti,O,st,Z,U,gr,A,nn,T,n_,V,E,M):=by
 unfold gL;dsimp only;split;rw[da Q,da Q];dsimp only;have h2:=Rl Q (E:=E) (i:=i) (B:=0) (t':=((E.getD i ak.aa).1,1,(E.getD i ak.aa).2.2)) (by rw[bw Q,bw Q];exact Nat.le_refl _);omega;exact Nat.le_refl _
theorem am8(h:Rt k c ti O st Z U gr A nn T V E M):
 af az (eW true k (c,ti,O,st,Z,U,gr,A,nn,T,n_,V,E,M)).2<=af az (c,ti,O,st,Z,U,gr,A,nn,T,n_,V,E,M)+2000:=by
 generalize n:E.getD 3 ak.aa=t;have hz:af (.sl ak) (E.set 3 zT)<=af (.sl ak) E+0:=Rl Q (by rw[aaE Q];omega);have hnl:af (.sl al) ([]:List ai)=0:=aX;have hna:af (.sl ab) ([]:List ae)=0:=aX;have hni:af (.sl (.int .i64)) ([]:List Int)=0:=aX;unfold eW;rw[X4 Q];unfold gH;dsimp only;rw[n];by_cases s:t.1=0;rw[an s];by_cases u:U.length=0;rw[an u];exact Nat.le_add_right _ _;rw[a_ u,da Q,da Q];dsimp only;have D:=iS Q (h.sub.fee _ (bK (d:=ab.aa) (i:=0) (l:=U) (by omega)));have F:=cN (e:=ab) U 1
 have o:=Rl Q (E:=E) (i:=3) (B:=96) (t':=tK (U.getD 0 ab.aa) M.length) (by
  have e:af ak (tK (U.getD 0 ab.aa) M.length)=af ab (U.getD 0 ab.aa)+af (.sl al) ([]:List ai)+af (.sl (.int .i64)) ([]:List Int)+af (.sl ab) ([]:List ae):=bw Q _;omega)
 have v:af (.sl aw) (M++[AU (U.getD 0 ab.aa) O ti])<=af (.sl aw) M+97:=pg Q (by
  have e:af aw (AU (U.getD 0 ab.aa) O ti)=af ab (U.getD 0 ab.aa)+af (.sl al) ([]:List ai)+af (.sl ab) ([]:List ae):=bN Q _;omega)
 omega;rw[a_ s];have p:=h.tas 3 (by decide);rw[n]at p
 have G:t.1=5:=by
  have F:=gx (k:=k) (w:=(c,ti,O,st,Z,U,gr,A,nn,T,n_,V,E,M)) (i:=3) p;omega
 obtain⟨-,I,hb,hd,hv1,hw⟩:=dH h (by decide) n (by omega);have q:=(iM G).1 p;have D:=iS Q q.1.2.2.2.2.1;by_cases y:t.2.1=0;rw[an y];have:=ane Q (c:=c) (ti:=ti) (O:=O) (st:=st) (Z:=Z) (U:=U) (gr:=gr) (A:=A) (nn:=nn) (T:=T) (n_:=n_) (V:=V) (E:=E) (M:=M) (i:=3);omega;rw[a_ y]
 have f:∀m:Int,af aw (ou (M.getD (bf t).toNat aw.aa) m)=af aw (M.getD (bf t).toNat aw.aa):=fun m=>by
  rw[bN Q,bN Q];rfl
 have b:∀(d:aC) (code:Int),af aw d=af aw (M.getD (bf t).toNat aw.aa)->af (.sl aw) (M.set (bf t).toNat (dA true false d O ti code []))<=af (.sl aw) M+0:=fun d code e=>kv Q I (by
  have:=oc Q (x:=false) (d:=d) (O:=O) (ti:=ti) (code:=code) (got:=[]);omega)
 cases r:eR A (keyOf t.2.2.1 c.2.2.2.2.2)with
 |none=>
  dsimp only;by_cases z:12<=A.length;rw[an z,da Q,da Q];dsimp only;have o:=b (M.getD (bf t).toNat aw.aa) 3 rfl;omega;rw[a_ z,da Q,da Q];dsimp only;have o:=b (ou (M.getD (bf t).toNat aw.aa) nn) 1 (f nn);have hg:=vp Q (SK (by_:=c.2.2.2.2.2) q.1.2.2.2.2.1);have e:af aj (mB c t.2.2.1 nn O)=af (.sl al) (keyOf t.2.2.1 c.2.2.2.2.2)+af (.sl ab) [t.2.2.1]:=cn Q _;have e2:af (.sl ab) [t.2.2.1]=1+af ab t.2.2.1+af (.sl ab) ([]:List ae):=bS (e:=ab) _ _;have v:af (.sl aj) (A++[mB c t.2.2.1 nn O])=af (.sl aj) A+(1+af aj (mB c t.2.2.1 nn O)+af (.sl aj) ([]:List au)):=by rw[dP (e:=aj),bS (e:=aj)]
  have H:af (.sl aj) ([]:List au)=0:=aX
  have C:∀l:List aJ,af (.sl aD) l=l.length:=fun l=>by
   induction l with
   |nil=>exact aX
   |cons a l J=>
    have:af (.sl aD) (a::l)=1+af aD a+af (.sl aD) l:=bS (e:=aD) a l;rw[this,J,Hy Q,List.length_cons];omega
  rw[C,C,Bi];omega
 |some j=>
  dsimp only;rw[da Q,da Q];dsimp only;have o:=b (ou (M.getD (bf t).toNat aw.aa) (A.getD j aj.aa).1) 2 (f _);have v:=Hv Q (g:=A.getD j aj.aa) (a:=t.2.2.1);have H:=ij (e:=aj) A j (im (A.getD j aj.aa) t.2.2.1) (qi r).1;have h5:af aj (A.getD j (Ty.aa aj))=af aj (A.getD j aj.aa):=rfl;omega
end
def akJ{k:Nat}{w:ag}:V7 true k w=(w,false)\/(bC k w=true/\(eW true k w).1=true/\V7 true k w=((eW true k w).2,true)):=by
 unfold V7;by_cases h:bC k w=true;rw[an h];by_cases a:(eW true k w).1=true;rw[an a];exact .inr ⟨h,a,rfl⟩;rw[a_ a];exact .inl rfl;rw[a_ h];exact .inl rfl
def aml{k:Nat}{w:ag}(a:Gp (bF w) (bV w)):V7 false k w=V7 true k w:=by
 unfold V7;by_cases h:bC k w=true;rw[amk (a (T8 h) 3 (by decide))];rw[a_ h,a_ h]
section
variable{k:Nat}(Q:9223372036854775808<=k)
include Q
set_option maxHeartbeats 8000000 in
theorem ahY(x:List Int):PB k (x,())=some (true,()):=by
 have key:Dr (PB k (x,())) (fun r=>r.1=true):=by
  simp only[PB];have W:xX k (x,())=some (decide ((x.length:Int)>1048576),()):=rfl;refine fc W (bm (fun _=>bl rfl) (fun N=> ?_))
  have N:x.length<=1048576:=by have:¬(x.length:Int)>1048576:=by simpa using N
                               omega
  refine aS (af9 Q N) (fun r2 P=> ?_);obtain⟨w,u2⟩:=r2;dsimp only at P|-;have hw:=P.tt;refine fc (afj Q (by omega)) (fc (aeZ Q (by omega)) ?_);rw[aml P.got];rcases akJ (k:=k) (w:=w)with e|⟨hok,hd,e⟩;rw[e];simp only[beq_self_eq_true,aAS,if_true,pw Q (show af az w<=1048576 by omega),C',aAN,if_false,aAY];exact bl rfl;rw[e];have X:=P.ti;have G:=P.nn;have q:=P.aph hok;obtain⟨c,ti,O,st,Z,U,gr,A,nn,T,n_,V,E,M⟩:=w;have R:=bR.1 hok;have X:ti<=1000:=X;have G:nn<=1000:=G;have q:T.length<=15:=q;have f:=O7 (s:=true) (n_:=n_) R (by omega) (by omega) q hd;have h:=am8 Q (n_:=n_) R;have Y:=hw;rw[da Q]at Y;dsimp only at Y;have htl:=R.tl;have hr:=R.tas 3 (by decide);have b0:=gx (k:=k) (w:=(c,ti,O,st,Z,U,gr,A,nn,T,n_,V,E,M)) (i:=3) hr;obtain⟨t,p⟩:∃t,E.getD 3 ak.aa=t:=⟨_,rfl⟩
  rw[p]at hr b0;have v:decide ((0:Int)<=3/\(3:Int)<((N' E:Nat):Int))=true:=c_ (by omega);have e3:aA2 3=3:=rfl;have hgl:=ay (e:=aj) (l:=A);have hnn0:=R.nn0;by_cases H:t.1=0;by_cases hf:U.length=0;exfalso
  have:(eW true k (c,ti,O,st,Z,U,gr,A,nn,T,n_,V,E,M)).1=false:=by
   unfold eW gH;dsimp only;rw[p,an H,an hf];rfl
  rw[this]at hd;cases hd
  have C:eW true k (c,ti,O,st,Z,U,gr,A,nn,T,n_,V,E,M)=(true,(c,tick ti,O,st,Z,U.drop 1,gr,A,nn,T,n_,V,E.set 3 (tK (U.getD 0 ab.aa) M.length),M++[AU (U.getD 0 ab.aa) O ti])):=by
   unfold eW gH;dsimp only;rw[p,an H,a_ hf,aY]
  rw[C]at f h|-;have j:=pw Q (w:=(c,tick ti,O,st,Z,U.drop 1,gr,A,nn,T,n_,V,E.set 3 (tK (U.getD 0 ab.aa) M.length),M++[AU (U.getD 0 ab.aa) O ti])) (by dsimp only at h;omega);have g:=lC Q (w:=(c,tick ti,O,st,Z,U.drop 1,gr,A,nn,T,n_,V,E.set 3 (tK (U.getD 0 ab.aa) M.length),M++[AU (U.getD 0 ab.aa) O ti])) (by dsimp only at h;omega);dsimp only at f;rw[f]at g;simp only[beq_self_eq_true,aAS,if_true,j,C',aAN,if_false,p,e3];refine dO v (fc g (bm (fun o=>by simp[tick]at o) (fun _=>bm (fun _=> ?_) (fun o=>by simp[H]at o))));have ha:=iS Q (R.sub.fee _ (bK (d:=ab.aa) (i:=0) (l:=U) (by omega)))
  have e0:bW k (U.getD 0 ab.aa,U.getD 0 ab.aa,())=some (true,()):=by
   rw[ee Q (gE Q (by omega))];simp
  have hj:(tK (U.getD 0 ab.aa) (M.length:Int)).2.2.1=U.getD 0 ab.aa:=rfl;have hdr:=cN (e:=ab) U 1;have h0:decide ((0:Int)<=1/\(1:Int)<=((N' U:Nat):Int))=true:=c_ (by omega);have j0:decide ((0:Int)<=3/\(3:Int)<((N' (E.set 3 (tK (U.getD 0 ab.aa) M.length)):Nat):Int))=true:=c_ (by rw[aAT];omega);have k0:decide ((0:Int)<=0/\(0:Int)<((N' U:Nat):Int))=true:=c_ (by omega);refine dO j0 (dO k0 ?_);simp only[aT _ _ (show 3<E.length by omega),hj,show aA2 0=0 from rfl,show aA2 1=1 from rfl,e0,C',h0,Bool.or_true,if_true,beq_self_eq_true,rq Q (l:=U.drop 1) (by omega)];exact bl rfl;have S:t.1=5:=by omega
  obtain⟨-,hn,hb1,hd1,hv1,hw1⟩:=dH R (show 3<5 by decide) p (by omega);have hq:=(iM S).1 hr;obtain⟨q1,q12,q13,q14,c0,q16,q17⟩:=hq
  have hO:bf t=((bf t).toNat:Int):=by
   have:0<=bf t:=q1.2.1;omega
  have I:t.2.2.2.2.2.2.2.2=((bf t).toNat:Int):=hO;have ha:=iS Q q1.2.2.2.2.1;have htA:=bo Q t.2.2.1;by_cases B:t.2.1=0;by_cases hg:gr= -1
  have C:eW true k (c,ti,O,st,Z,U,gr,A,nn,T,n_,V,E,M)=(true,(c,tick ti,O,st,Z,U,3,A,nn,T,n_,V,E.set 3 (t.1,1,t.2.2),M)):=by
   unfold eW gH;dsimp only;rw[p,a_ H,an B];unfold gL;dsimp only;rw[p,an hg,aY];rfl
  rw[C]at f h|-;have j:=pw Q (w:=(c,tick ti,O,st,Z,U,3,A,nn,T,n_,V,E.set 3 (t.1,1,t.2.2),M)) (by dsimp only at h;omega);have g:=lC Q (w:=(c,tick ti,O,st,Z,U,3,A,nn,T,n_,V,E.set 3 (t.1,1,t.2.2),M)) (by dsimp only at h;omega);dsimp only at f;rw[f]at g;simp only[beq_self_eq_true,aAS,if_true,j,C',aAN,if_false,p,e3];refine dO v (fc g (bm (fun o=>by simp[tick]at o) (fun _=>bm (fun o=>by simp[S]at o) (fun _=>bm (fun _=>bl rfl) (fun o=>by simp[B]at o)))));exfalso
  have:(eW true k (c,ti,O,st,Z,U,gr,A,nn,T,n_,V,E,M)).1=false:=by
   unfold eW gH;dsimp only;rw[p,a_ H,an B];unfold gL;dsimp only;rw[a_ hg];rfl
  rw[this]at hd;cases hd;have hc1:((t.2.1:Int)==(0:Int))=false:=by simpa using B
  have hc0:((t.1:Int)==(0:Int))=false:=by rw[S];rfl
  have D:∀(m code:Int),(dA true false (ou (M.getD (bf t).toNat aw.aa) m) O ti code []).2.2.2.2.2.2.1=code/\(dA true false (ou (M.getD (bf t).toNat aw.aa) m) O ti code []).2.2.2.2.2.1=m:=fun m code=>by
   unfold dA ot;rw[an (by rfl),an (show cW (ou _ m)= -1 from c0)];exact⟨rfl,rfl⟩
  cases F:eR A (keyOf t.2.2.1 c.2.2.2.2.2)with
  |none=>
   by_cases hl:12<=A.length
   have C:eW true k (c,ti,O,st,Z,U,gr,A,nn,T,n_,V,E,M)=(true,(c,tick ti,O,st,Z,U,-1,A,nn,T,n_,V,E.set 3 zT,M.set (bf t).toNat (dA true false (M.getD (bf t).toNat aw.aa) O ti 3 []))):=by
    unfold eW gH;dsimp only;rw[p,a_ H,a_ B,F];dsimp only;rw[an hl,aY]
   rw[C]at f h|-;have j:=pw Q (w:=(c,tick ti,O,st,Z,U,-1,A,nn,T,n_,V,E.set 3 zT,M.set (bf t).toNat (dA true false (M.getD (bf t).toNat aw.aa) O ti 3 []))) (by dsimp only at h;omega);have g:=lC Q (w:=(c,tick ti,O,st,Z,U,-1,A,nn,T,n_,V,E.set 3 zT,M.set (bf t).toNat (dA true false (M.getD (bf t).toNat aw.aa) O ti 3 []))) (by dsimp only at h;omega);dsimp only at f;rw[f]at g;simp only[beq_self_eq_true,aAS,if_true,j,C',aAN,if_false,p,e3,I,aAQ];refine dO v (fc g (bm (fun o=>by simp[tick]at o) (fun _=>bm (fun o=>by simp[S]at o) (fun _=>bm (fun o=>by simp[B]at o) (fun _=> ?_)))));have y:decide (0<=(((bf t).toNat:Nat):Int)/\(((bf t).toNat:Nat):Int)<((N' (M.set (bf t).toNat (dA true false (M.getD (bf t).toNat aw.aa) O ti 3 [])):Nat):Int))=true:=c_ (by rw[aAT];omega);refine dO y ?_
   have J:(dA true false (M.getD (bf t).toNat aw.aa) O ti 3 []).2.2.2.2.2.2.1=3:=by
    unfold dA ot;rw[an (by rfl),an (show cW _= -1 from c0)];rfl
   simp only[aT _ _ hn,J,beq_self_eq_true,if_true,HF Q (l:=A) (by omega),C'];exact bl rfl
   have C:eW true k (c,ti,O,st,Z,U,gr,A,nn,T,n_,V,E,M)=(true,(c,tick ti,O,st,Z,U,-1,A++[mB c t.2.2.1 nn O],IntKind.i64.wrap (nn+1),vf T (iq c (mB c t.2.2.1 nn O),nn),n_,V,E.set 3 zT,M.set (bf t).toNat (dA true false (ou (M.getD (bf t).toNat aw.aa) nn) O ti 1 []))):=by
    unfold eW gH;dsimp only;rw[p,a_ H,a_ B,F];dsimp only;rw[a_ hl,aY]
   rw[C]at f h|-;have j:=pw Q (w:=(c,tick ti,O,st,Z,U,-1,A++[mB c t.2.2.1 nn O],IntKind.i64.wrap (nn+1),vf T (iq c (mB c t.2.2.1 nn O),nn),n_,V,E.set 3 zT,M.set (bf t).toNat (dA true false (ou (M.getD (bf t).toNat aw.aa) nn) O ti 1 []))) (by dsimp only at h;omega);have g:=lC Q (w:=(c,tick ti,O,st,Z,U,-1,A++[mB c t.2.2.1 nn O],IntKind.i64.wrap (nn+1),vf T (iq c (mB c t.2.2.1 nn O),nn),n_,V,E.set 3 zT,M.set (bf t).toNat (dA true false (ou (M.getD (bf t).toNat aw.aa) nn) O ti 1 []))) (by dsimp only at h;omega);dsimp only at f;rw[f]at g;have K:=(bR.1 f).grp.go
   have L:af (.sl aj) (A++[mB c t.2.2.1 nn O])<=1048576:=by
    dsimp only at h;rw[da Q]at h;dsimp only at h;omega
   have z:ah3 (A++[mB c t.2.2.1 nn O]) t.2.2.1.1=nn:=alD K (a:=t.2.2.1) ⟨mB c t.2.2.1 nn O,aAR _ (aAP.2 rfl),rfl,aAP.2 rfl⟩;simp only[beq_self_eq_true,aAS,if_true,j,C',aAN,if_false,p,e3,I,aAQ];refine dO v (fc g (bm (fun o=>by simp[tick]at o) (fun _=>bm (fun o=>by simp[S]at o) (fun _=>bm (fun o=>by simp[B]at o) (fun _=> ?_)))));have y:decide (0<=(((bf t).toNat:Nat):Int)/\(((bf t).toNat:Nat):Int)<((N' (M.set (bf t).toNat (dA true false (ou (M.getD (bf t).toNat aw.aa) nn) O ti 1 [])):Nat):Int))=true:=c_ (by rw[aAT];omega);refine dO y ?_
   have h1:(((N' (A++[mB c t.2.2.1 nn O]):Nat):Int)==IntKind.i64.wrap (((N' A:Nat):Int)+1))=true:=by
    rw[wrap64 (by omega) (by omega),aA3,aAX];simp
   have h3:(((N' (vf T (iq c (mB c t.2.2.1 nn O),nn)):Nat):Int)==IntKind.i64.wrap (IntKind.i64.wrap (((N' T:Nat):Int)+((N' (A++[mB c t.2.2.1 nn O]):Nat):Int))-((N' A:Nat):Int)))=true:=by
    rw[Bi,aA3,aAX,wrap64 (n:=((N' T:Nat):Int)+((A.length+1:Nat):Int)) (by omega) (by omega),wrap64 (by omega) (by omega),beq_iff_eq];omega
   simp only[aT _ _ hn,(D nn 1).1,(D nn 1).2,show((1:Int)==(3:Int))=false from rfl,aAN,if_false,Za Q L,z,C',beq_self_eq_true,if_true,h1,h3];exact bl rfl
  |some i=>
   obtain⟨k1,k2⟩:=qi F
   have C:eW true k (c,ti,O,st,Z,U,gr,A,nn,T,n_,V,E,M)=(true,(c,tick ti,O,st,Z,U,-1,A.set i (im (A.getD i aj.aa) t.2.2.1),nn,T,n_,V,E.set 3 zT,M.set (bf t).toNat (dA true false (ou (M.getD (bf t).toNat aw.aa) (A.getD i aj.aa).1) O ti 2 []))):=by
    unfold eW gH;dsimp only;rw[p,a_ H,a_ B,F];dsimp only;rw[aY]
   rw[C]at f h|-;have j:=pw Q (w:=(c,tick ti,O,st,Z,U,-1,A.set i (im (A.getD i aj.aa) t.2.2.1),nn,T,n_,V,E.set 3 zT,M.set (bf t).toNat (dA true false (ou (M.getD (bf t).toNat aw.aa) (A.getD i aj.aa).1) O ti 2 []))) (by dsimp only at h;omega);have g:=lC Q (w:=(c,tick ti,O,st,Z,U,-1,A.set i (im (A.getD i aj.aa) t.2.2.1),nn,T,n_,V,E.set 3 zT,M.set (bf t).toNat (dA true false (ou (M.getD (bf t).toNat aw.aa) (A.getD i aj.aa).1) O ti 2 []))) (by dsimp only at h;omega);dsimp only at f;rw[f]at g;have K:=(bR.1 f).grp.go
   have L:af (.sl aj) (A.set i (im (A.getD i aj.aa) t.2.2.1))<=1048576:=by
    dsimp only at h;rw[da Q]at h;dsimp only at h;omega
   have z:ah3 (A.set i (im (A.getD i aj.aa) t.2.2.1)) t.2.2.1.1=(A.getD i aj.aa).1:=alD K (a:=t.2.2.1) ⟨_,rV k1,rfl,O9⟩;simp only[beq_self_eq_true,aAS,if_true,j,C',aAN,if_false,p,e3,I,aAQ];refine dO v (fc g (bm (fun o=>by simp[tick]at o) (fun _=>bm (fun o=>by simp[S]at o) (fun _=>bm (fun o=>by simp[B]at o) (fun _=> ?_)))));have y:decide (0<=(((bf t).toNat:Nat):Int)/\(((bf t).toNat:Nat):Int)<((N' (M.set (bf t).toNat (dA true false (ou (M.getD (bf t).toNat aw.aa) (A.getD i aj.aa).1) O ti 2 [])):Nat):Int))=true:=c_ (by rw[aAT];omega);refine dO y ?_
   have h1:(((N' (A.set i (im (A.getD i aj.aa) t.2.2.1)):Nat):Int)==IntKind.i64.wrap (((N' A:Nat):Int)+1))=false:=by
    rw[wrap64 (by omega) (by omega),aAT,beq_eq_false_iff_ne];omega
   have h3:(((N' T:Nat):Int)==IntKind.i64.wrap (IntKind.i64.wrap (((N' T:Nat):Int)+((N' (A.set i (im (A.getD i aj.aa) t.2.2.1)):Nat):Int))-((N' A:Nat):Int)))=true:=by
    rw[aAT,wrap64 (n:=((N' T:Nat):Int)+((A.length:Nat):Int)) (by omega) (by omega),wrap64 (by omega) (by omega),beq_iff_eq];omega
   simp only[aT _ _ hn,(D (A.getD i aj.aa).1 2).1,(D (A.getD i aj.aa).1 2).2,show((2:Int)==(3:Int))=false from rfl,show((2:Int)==(1:Int))=false from rfl,aAN,if_false,Za Q L,z,C',beq_self_eq_true,if_true,h1,h3];exact bl rfl
 obtain⟨⟨b,u⟩,e,N⟩:=key;rw[e];dsimp only at N;rw[N]
def ajd{x:List Int×Unit}(hx:Fits (.sl (.int .u8)) x.1):PB k x=some (true,()):=ahY Q x.1
end
end Vg.Tryz
namespace Go.Proofs.YtgikmhjpcnnhjaaGreat.fnJoinSteps
open Go.ChangeShapes Go.WideShapes Go.ChangeAt Go.RowKit Vg
def laid:laidOutB Tryz.prog=true:=by kernel_rfl
def e_9:(Rows.fnJoinStepsRow.inPlace==Program.inPlace Tryz.prog 6)=true:=by kernel_rfl
def ac2:(Rows.fnJoinStepsRow.unfollowed==Program.unfollowed Tryz.prog 6)=true:=by kernel_rfl
def abU:(Rows.fnJoinStepsRow.recurses==Program.recurses Tryz.prog 6)=true:=by kernel_rfl
def aaP:(Rows.fnJoinStepsRow.named==Program.varsNamed Tryz.prog 6)=true:=by kernel_rfl
def abv:(Rows.fnJoinStepsRow.plainKeys==Program.plainKeys Tryz.prog)=true:=by kernel_rfl
def abR:Program.stopsHeard Tryz.prog=true:=by kernel_rfl
def acg:Program.mayEnter Tryz.prog=true:=by kernel_rfl
def acb:(Rows.fnJoinStepsRow.lifted==Program.liftsFinal Tryz.prog)=true:=by kernel_rfl
def acr:(Program.make Tryz.prog==some Rows.fnJoinStepsRow.make)=true:=by kernel_rfl
def facts:joinedFacts Tryz.prog 6 Tryz.f6 Rows.fnJoinStepsSpec Rows.fnJoinStepsRow=true:=by
 unfold joinedFacts;simp only[aAW]
 repeat' apply And.intro
 kernel_rfl
 exact laid
 kernel_rfl
 kernel_rfl
 kernel_rfl
 kernel_rfl
 kernel_rfl
 kernel_rfl
 kernel_rfl
 exact e_9;exact ac2;exact abU;exact aaP
 kernel_rfl
 kernel_rfl
 kernel_rfl
 kernel_rfl
 kernel_rfl
 kernel_rfl
 kernel_rfl
 kernel_rfl
 kernel_rfl
 exact abv
 kernel_rfl
 exact abR;exact acg;exact acb;exact acr
 kernel_rfl
 kernel_rfl
 kernel_rfl
 kernel_rfl
end Go.Proofs.YtgikmhjpcnnhjaaGreat.fnJoinSteps
