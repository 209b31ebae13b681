/- Texts of this law, joined. -/
import Derived.Test.YtgikmhjpcnnhjaaGreatQbR5
import Derived.Test.YtgikmhjpcnnhjaaGreatXd
import Derived.Test.YtgikmhjpcnnhjaaGreatQbP7
set_option linter.unusedSimpArgs false
set_option linter.unusedVariables false
set_option linter.unusedSectionVars false
set_option linter.defProp false
open Bool renaming and_eq_true -> eH,false_eq_true -> K_,or_eq_true -> K',not_eq_true -> azl,not_eq_true' -> azG,not_false -> azM,true_and -> azS,false_and -> azX
open List renaming length_append -> lk,mem_singleton -> E_,length_singleton -> L_,mem_append -> M_,mem_or_eq_of_mem_set -> azj,getD_eq_getElem?_getD -> azk,length_set -> azm,pairwise_singleton -> azo,mem_cons_of_mem -> azq,pairwise_append -> azr,getElem_of_mem -> azt,replicate -> azu,length_nil -> azv,pairwise_map -> azw,flatMap_cons -> azx,length_take -> azy,length_cons -> azz,length_drop -> azA,mem_cons_self -> azB,getElem_take -> azC,mem_flatMap -> azD,mem_of_mem_drop -> azE,getElem?_append_left -> azF,eraseIdx_eq_take_drop_succ -> azH,mem_replicate -> azJ,getElem_drop -> azK,length_filter_le -> azN,eraseIdx_sublist -> azO,mem_append_right -> azP,mem_of_mem_take -> azQ,mem_append_left -> azR,flatMap_def -> azU,mem_filter -> azW
open Int renaming le_refl -> g_,toNat_natCast -> azs
open Option renaming bind_some -> azg
open Nat renaming le_refl -> azn,le_trans -> azp,zero_le -> azI,le_add_right -> azL,strongRecOn -> azV
open Iff renaming rfl -> azT
namespace Vg.Tryz
open Go Vg
structure fo(i:Nat)(st st':List au):Prop where
 len:st'.length=st.length
 pt:∀p,p<st.length->(st'.getD p aj.aa).2=(st.getD p aj.aa).2\/((st.getD p aj.aa).1=(i:Int)/\(st.getD p aj.aa).2.1<(st'.getD p aj.aa).2.1)
structure dx(i:Nat)(l l':List aA):Prop where
 len:l.length<=l'.length
 at_:∀n,n<l.length->¬(l.getD n ay.aa).2.1=(i:Int)->l'.getD n ay.aa=l.getD n ay.aa
def rl{st:List au}{t:aG}:dG st t=true↔(∀i,i<t.2.2.2.2.2.1.length->t.2.2.2.2.2.1.getD i 0<=(st.getD i aj.aa).2.1)/\
 ((∀i,i<t.2.2.2.2.2.1.length->t.2.2.2.2.2.1.getD i 0=(st.getD i aj.aa).2.1)->(st.take t.2.2.2.2.2.1.length).flatMap aS=t.2.2.2.2.2.2.1):=by
 unfold dG IJ;rw[eH,bM,K',azG,<-azl];unfold jG;rw[bM];simp only[azG,d_,b_];refine and_congr ⟨fun h i a=>by have:=h i (by omega) a;omega,fun h i _ a=>by have:=h i a;omega⟩ ?_;constructor;rintro(h|h) g;exact absurd (fun i _ a=>g i a) h;exact h;intro h;by_cases g:∀i,i<t.2.2.2.2.2.1.length->t.2.2.2.2.2.1.getD i 0=(st.getD i aj.aa).2.1;exact .inr (h g);exact .inl fun b=>g fun i a=>b i (by omega) a
def EV{st a:List au}{n:Nat}(e:a.length=st.length)(h:∀p,p<n->p<st.length->(a.getD p aj.aa).2=(st.getD p aj.aa).2):
 (a.take n).flatMap aS=(st.take n).flatMap aS:=by
 rw[azU,azU];congr 1;apply List.ext_getElem (by simp[e]);intro p b d;simp only[List.length_map,azy]at b d;have:=h p (by omega) (by omega);rw[bJ _ (by omega),bJ _ (by omega)]at this;simp only[List.getElem_map,azC];unfold aS;rw[this]
def yj{i:Nat}{st d:List au}{t:aG}(hs:fo i st d)(hl:t.2.2.2.2.2.1.length<=st.length)(h:dG st t=true):dG d t=true:=by
 rw[rl]at h|-
 have f:∀p,p<st.length->(st.getD p aj.aa).2.1<=(d.getD p aj.aa).2.1:=by
  intro p a;rcases hs.pt p a with e|e;rw[e];exact g_ _;omega
 refine⟨fun p a=>Int.le_trans (h.1 p a) (f p (by omega)),fun g=> ?_⟩
 have b:∀p,p<t.2.2.2.2.2.1.length->(d.getD p aj.aa).2=(st.getD p aj.aa).2:=by
  intro p a;rcases hs.pt p (by omega)with e|e;exact e;have:=g p a;have:=h.1 p a;omega
 rw[EV hs.len (fun p a _=>b p a)];exact h.2 fun p a=>by rw[g p a,b p a]
def zV{k:Nat}{c1 nn m b e n:Int}{st a:List au}{t:aG}{d:aA}(h:bS k c1 st nn m t d n=true)(hm:m<=e)(hn:nn<=b)
 (hput:t.1=1->t.2.1=2->bD k a t.2.2.1.1=bD k st t.2.2.1.1) (hsee:t.1=3->dG st t=true->dG a t=true):bS k c1 a b e t d n=true:=by
 unfold bS qd at*
 grind
def Mo{k:Nat}{c1 nn m n:Int}{st:List au}{t:aG}{d:aA}(h:bS k c1 st nn m t d n=true)(hc:(st.length:Int)=c1)(h3:t.1=3):t.2.2.2.2.2.1.length<=st.length:=by
 unfold bS qd cW aZ at h;grind
def xY{k:Nat}{c1 nn m n:Int}{st:List au}{t:aG}{d:aA}(h:bS k c1 st nn m t d n=true)(h0:¬t.1=0):d.2.1=n/\0<=bm t/\bm t<m:=by
 unfold bS cW aZ at h;unfold bm;grind
def BX{k:Nat}{c1 nn m n a e:Int}{st b:List au}{t:aG}{d d':aA}(h:bS k c1 st nn m t d n=true)(h0:t.1=0):bS k c1 b a e t d' n=true:=by
 unfold bS at*
 grind
def QU{k:Nat}{c1 nn d gr:Int}{st f:List au}{O:List aG}{T a:List aA}{i:Nat}{t':aG}(hi:i<5)(tl:O.length=5)(hc:(st.length:Int)=c1)(w:st.length≠0)
 (x:pP k st O gr) (h:Rz k c1 st nn O T) (hs:fo i st f) (y:nn<=d) (l:dx i T a)
 (z:bS k c1 f d (a.length:Int) t' (a.getD (bm t').toNat ay.aa) (i:Int)=true):Rz k c1 f d (O.set i t') a:=by
 intro j g;by_cases e:i=j;subst e;rw[aL _ _ (by omega)];exact z;rw[getD_set_ne _ _ e];have b:=h j g;by_cases m:(O.getD j aq.aa).1=0;exact BX b m;obtain⟨B,b2,b3⟩:=xY b m;rw[l.at_ _ (by omega) (by rw[B];omega)];refine zV b (by have:=l.len;omega) y (fun q r=> ?_) (fun u v=>yj hs (Mo b hc u) v);refine Ld hs.len ?_;obtain⟨o,C⟩:=iG (k:=k) (s:=(O.getD j aq.aa).2.2.1.1) w
 have hold:aV k (O.getD j aq.aa) st.length=((bg k st (O.getD j aq.aa).2.2.1.1).toNat:Int):=by
  unfold aV;rw[a_ (by omega),an ⟨q,.inr r⟩,C];rfl
 have hh:=(x.pt _ o j g).1 hold;rcases hs.pt _ o with p|p;rw[p];omega
def ui{k:Nat}{gr l:Int}{st f:List au}{O:List aG}{i:Nat}{t t':aG}(hi:i<5)(tl:O.length=5)(m:pP k st O gr)(v:O.getD i aq.aa=t)(w:f.length=st.length)
 (x:∀q,q<st.length->(f.getD q aj.aa).1=if aV k t' st.length=(q:Int)then(i:Int)else if aV k t st.length=(q:Int)then-1 else(st.getD q aj.aa).1)
 (y:∀q,q<st.length->aV k t' st.length=(q:Int)->aV k t st.length=(q:Int)\/(st.getD q aj.aa).1= -1)
 (p:l=if bN t'=true then(i:Int)else if bN t=true then-1 else gr) (r:bN t'=true->bN t=true\/gr= -1):pP k f (O.set i t') l:=by
 subst v;refine⟨fun q g j o=> ?_,fun j o=> ?_,?_⟩;rw[w]at g|-;have s:=m.pt q g j o;have d:=m.pt q g i hi;have u:=x q g;have z:=y q g;by_cases e:i=j;subst e;rw[aL _ _ (by omega),u];by_cases b:aV k t' st.length=(q:Int)
 simp[b];rw[a_ b];by_cases a:aV k (O.getD i aq.aa) st.length=(q:Int)
 rw[an a];constructor;intro h;exact absurd h b;intro h;omega;rw[a_ a];constructor;intro h;exact absurd h b;intro h;exact absurd (d.2 h) a;rw[getD_set_ne _ _ e,u,s];by_cases b:aV k t' st.length=(q:Int)
 rw[an b];rcases z b with a|a;have:=d.1 a;omega;omega;rw[a_ b];by_cases a:aV k (O.getD i aq.aa) st.length=(q:Int)
 rw[an a];have:=d.1 a;omega;rw[a_ a];have s:=m.gp j o;have d:=m.gp i hi;by_cases e:i=j;subst e;rw[aL _ _ (by omega),p];by_cases b:bN t'=true;simp[b];rw[a_ b];by_cases a:bN (O.getD i aq.aa)=true;rw[an a];constructor;intro h;exact absurd h b;intro h;omega;rw[a_ a];constructor;intro h;exact absurd h b;intro h;exact absurd (d.2 h) a;rw[getD_set_ne _ _ e,p,s];by_cases b:bN t'=true;rw[an b];rcases r b with a|a;have:=d.1 a;omega;omega;rw[a_ b];by_cases a:bN (O.getD i aq.aa)=true;rw[an a];have:=d.1 a;omega;rw[a_ a];have:=m.gr;rw[p];split;omega;split<;>omega
/-! T-/
theorem pO.up{k:Nat}{ti a:Int}{l:List aA}(h:pO k ti l)(ht:ti<=a):pO k a l:=fun d o=>by
 have:=h d o;exact⟨this.1,by omega,by omega,by omega⟩
theorem pO.app{k:Nat}{ti:Int}{l:List aA}{d:aA}(h:pO k ti l)(o:eQ k d=true/\d.2.2.2.2.2.2.2.2.2.1<ti/\d.2.2.2.2.2.2.2.2.2.2.1<ti/\d.2.2.2.2.2.2.2.2.2.2.2<ti):pO k ti (l++[d]):=fun x a=>by
 rcases M_.1 a with a|a;exact h x a;rw[E_.1 a];exact o
theorem pO.put{k:Nat}{ti:Int}{l:List aA}{d:aA}{n:Nat}(h:pO k ti l)(o:eQ k d=true/\d.2.2.2.2.2.2.2.2.2.1<ti/\d.2.2.2.2.2.2.2.2.2.2.1<ti/\d.2.2.2.2.2.2.2.2.2.2.2<ti):pO k ti (l.set n d):=fun x a=>by
 rcases azj a with a|rfl;exact h x a;exact o
theorem dx.refl(i:Nat)(l:List aA):dx i l l:=⟨azn _,fun _ _ _=>rfl⟩
theorem dx.app(i:Nat)(l:List aA)(d:aA):dx i l (l++[d]):=⟨by simp,fun n a _=>by
 rw[azk,azF a,<-azk]⟩
theorem dx.put{i:Nat}{l:List aA}{n:Nat}{d:aA}(h:(l.getD n ay.aa).2.1=(i:Int)):dx i l (l.set n d):=⟨by simp,fun m hm a=>by
 by_cases e:n=m;subst e;exact absurd h a;rw[getD_set_ne _ _ e]⟩
theorem dx.trans{i:Nat}{l q o:List aA}(h:dx i l q)(u:dx i q o):dx i l o:=⟨azp h.len u.len,fun n p a=>by
 rw[<-h.at_ n p a];exact u.at_ n (Nat.lt_of_lt_of_le p h.len) (by rw[h.at_ n p a];exact a)⟩
theorem fo.refl(i:Nat)(st:List au):fo i st st:=⟨rfl,fun _ _=> .inl rfl⟩
theorem fo.held(i:Nat)(st:List au)(j:Nat)(x:Int):fo i st (bL st j x):=by
 refine⟨by simp[bL],fun p a=> .inl ?_⟩;unfold bL;by_cases e:j=p;subst e;rw[aL _ _ a];rw[getD_set_ne _ _ e]
def mO{k:Nat}{c1 nn m:Int}{st:List au}{d:aA}{i:Nat}(hi:i<5):bS k c1 st nn m zT d (i:Int)=true:=by
 unfold bS cW aZ;have a:decide ((0:Int)<=(i:Int))=true:=c_ (by omega);have b:decide ((i:Int)<=4)=true:=c_ (by omega);simp[a,b,zT]
def xG{k:Nat}{op i n U ti:Int}{a:af}{l:List ag}(ho:1<=op/\op<=9)(hi: -1<=i/\i<=4)(hn:0<=n)(hw:0<=U)(ht:0<=ti):
 eQ k (op,i,a,l,0,n,0,[],U,ti,-1,-1)=true:=by
 unfold eQ aZ;simp;omega
def qg{k:Nat}{s x:Bool}{d:aA}{U ti code:Int}{got:List af}(h:eQ k d=true)(hw:0<=U)(h1:d.2.2.2.2.2.2.2.2.2.1<ti)(h2:d.2.2.2.2.2.2.2.2.2.2.1<ti)(ht:0<=ti)(hc:code∈jn d.1):
 eQ k (eC s x d U ti code got)=true/\(eC s x d U ti code got).2.2.2.2.2.2.2.2.2.1<ti+1/\(eC s x d U ti code got).2.2.2.2.2.2.2.2.2.2.1<ti+1/\(eC s x d U ti code got).2.2.2.2.2.2.2.2.2.2.2<ti+1:=by
 obtain⟨op,task,a,l,i,n,cd,gt,nw,inv,b,res⟩:=d;unfold eC oc GL pI yZ nf dN;unfold eQ aZ at*
 simp only[eH,K',b_]at*
 by_cases e:b= -1;subst e;cases s<;>cases x<;>simp[hc]<;>omega;cases s<;>cases x<;>simp[e]at h|-<;>(refine⟨⟨?_,h.2⟩,?_,?_⟩<;>omega)
def ow{ti:Int}(h0:0<=ti)(h:ti<4611686018427387904):tick ti=ti+1:=by
 unfold tick;rw[wrap64 (by omega) (by omega)]
def cM{k:Nat}{t:aG}{n:Int}(h:t.2.1=0\/t.1=0\/5<=t.1\/(t.1=3/\t.2.1=2)):aV k t n= -1:=by
 unfold aV;grind
def nM{k:Nat}{t:aG}{st:List au}(a:st.length≠0)(h:t.1=1)(b:t.2.1=1\/t.2.1=2):aV k t st.length=((bg k st t.2.2.1.1).toNat:Int):=by
 rw[(iG a).2];unfold aV;rw[a_ (by omega),an ⟨h,b⟩];rfl
def vK{k:Nat}{t:aG}{st:List au}(a:st.length≠0)(h:t.1=2)(b:t.2.1=1):aV k t st.length=((bg k st t.2.2.2.1).toNat:Int):=by
 rw[(iG a).2];unfold aV;rw[a_ (by omega),a_ (by omega),an ⟨h,b⟩];rfl
def vu{k:Nat}{t:aG}{st:List au}(h0:st.length≠0)(h:t.1=3\/t.1=4)(a:t.2.1=1):aV k t st.length=t.2.2.2.2.1:=by
 unfold aV;rw[a_ (by omega),a_ (by omega),a_ (by omega),an ⟨h,a⟩]
def eI{t:aG}(h:t.1<5\/t.2.1=0):bN t=false:=by
 unfold bN;have:¬((t.1=5\/t.1=6)/\t.2.1=1):=by omega
 simpa using this
def gV{k:Nat}{c1 nn m n:Int}{st:List au}{t:aG}{d:aA}(a:t.1=1):bS k c1 st nn m t d n=true↔
 (0<=n/\n<3/\0<=t.2.2.2.2.2.2.2.2/\0<=t.2.1/\t.2.1<=2/\bh t.2.2.1=true/\t.2.2.2.1=[]/\t.2.2.2.2.1=0/\t.2.2.2.2.2.1=[]/\t.2.2.2.2.2.2.1=[]/\t.2.2.2.2.2.2.2.1=0)/\
 t.2.2.2.2.2.2.2.2<m/\d.2.1=n/\d.2.2.2.2.2.2.2.2.2.2.2= -1/\(¬d.2.2.2.2.2.2.2.2.2.2.1= -1↔t.2.1=2)/\d.1=1/\
 (if t.2.1=2 then d.2.2.1.1=t.2.2.1.1/\(bD k st t.2.2.1.1).2=true/\(bD k st t.2.2.1.1).1=t.2.2.1 else d.2.2.1=t.2.2.1/\cm t.2.2.1=true):=by
 unfold bS qd cW aZ nm;by_cases b:t.2.1=2;simp only[a,b,if_true,eH,K',b_];grind;simp only[a,b,if_true,if_false,eH,K',b_];grind
def ny{k:Nat}{c1 nn m n:Int}{st:List au}{t:aG}{d:aA}(a:t.1=2):bS k c1 st nn m t d n=true↔
 (0<=n/\n<3/\0<=t.2.2.2.2.2.2.2.2/\0<=t.2.1/\t.2.1<=1/\t.2.2.1=bU/\cZ t.2.2.2.1=true/\t.2.2.2.2.1=0/\t.2.2.2.2.2.1=[]/\t.2.2.2.2.2.2.1=[]/\t.2.2.2.2.2.2.2.1=0)/\
 t.2.2.2.2.2.2.2.2<m/\d.2.1=n/\d.2.2.2.2.2.2.2.2.2.2.2= -1/\d.2.2.2.2.2.2.2.2.2.2.1= -1/\d.1=3/\d.2.2.2.1=t.2.2.2.1:=by
 unfold bS qd cW aZ nm;simp only[a,if_true,if_false,eH,K',b_];grind
def fG{k:Nat}{c1 nn m n:Int}{st:List au}{t:aG}{d:aA}(a:t.1=3):bS k c1 st nn m t d n=true↔
 (0<=n/\n<3/\0<=t.2.2.2.2.2.2.2.2/\0<=t.2.1/\t.2.1<=2/\t.2.2.1=bU/\t.2.2.2.1=[]/\lh t.2.2.2.2.2.1=true/\(t.2.2.2.2.2.1.length:Int)=t.2.2.2.2.1/\bI t.2.2.2.2.2.2.1=true/\t.2.2.2.2.2.2.2.1=0)/\
 t.2.2.2.2.2.2.2.2<m/\d.2.1=n/\d.2.2.2.2.2.2.2.2.2.2.2= -1/\d.2.2.2.2.2.2.2.2.2.2.1= -1/\d.1=4/\dG st t=true/\
 (if t.2.1=2 then 1<=t.2.2.2.2.1/\t.2.2.2.2.1<=3/\t.2.2.2.2.1=c1 else 0<=t.2.2.2.2.1/\t.2.2.2.2.1<=2/\t.2.2.2.2.1<c1):=by
 unfold bS qd cW aZ nm;by_cases b:t.2.1=2;simp only[a,b,if_true,if_false,eH,K',b_];grind;simp only[a,b,if_true,if_false,eH,K',b_];grind
def gC{k:Nat}{c1 nn m n:Int}{st:List au}{t:aG}{d:aA}(a:t.1=4):bS k c1 st nn m t d n=true↔
 (0<=n/\n<3/\0<=t.2.2.2.2.2.2.2.2/\0<=t.2.1/\t.2.1<=1/\t.2.2.1=bU/\t.2.2.2.1=[]/\0<=t.2.2.2.2.1/\t.2.2.2.2.1<=2/\t.2.2.2.2.2.1=[]/\t.2.2.2.2.2.2.1=[]/\t.2.2.2.2.2.2.2.1=0)/\
 t.2.2.2.2.2.2.2.2<m/\d.2.1=n/\d.2.2.2.2.2.2.2.2.2.2.2= -1/\d.2.2.2.2.2.2.2.2.2.2.1= -1/\d.1=6/\t.2.2.2.2.1<c1:=by
 unfold bS qd cW aZ nm;simp only[a,if_true,if_false,eH,K',b_];grind
def je{k:Nat}{c1 nn m n:Int}{st:List au}{t:aG}{d:aA}(a:t.1=5):bS k c1 st nn m t d n=true↔
 (n=3/\0<=t.2.2.2.2.2.2.2.2/\0<=t.2.1/\t.2.1<=1/\bh t.2.2.1=true/\t.2.2.2.1=[]/\t.2.2.2.2.1=0/\t.2.2.2.2.2.1=[]/\t.2.2.2.2.2.2.1=[]/\t.2.2.2.2.2.2.2.1=0)/\
 t.2.2.2.2.2.2.2.2<m/\d.2.1=n/\d.2.2.2.2.2.2.2.2.2.2.2= -1/\d.2.2.2.2.2.2.2.2.2.2.1= -1/\d.1=7/\d.2.2.1=t.2.2.1:=by
 unfold bS qd cW aZ nm;simp only[a,if_true,if_false,eH,K',b_];grind
def fP{k:Nat}{c1 nn m n:Int}{st:List au}{t:aG}{d:aA}(a:t.1=6):bS k c1 st nn m t d n=true↔
 (n=4/\0<=t.2.2.2.2.2.2.2.2/\0<=t.2.1/\t.2.1<=1/\t.2.2.1=bU/\t.2.2.2.1=[]/\t.2.2.2.2.1=0/\t.2.2.2.2.2.1=[]/\t.2.2.2.2.2.2.1=[]/\0<=t.2.2.2.2.2.2.2.1)/\
 t.2.2.2.2.2.2.2.2<m/\d.2.1=n/\d.2.2.2.2.2.2.2.2.2.2.2= -1/\d.2.2.2.2.2.2.2.2.2.2.1= -1/\d.1=8/\d.2.2.2.2.2.1=t.2.2.2.2.2.2.2.1/\t.2.2.2.2.2.2.2.1<nn:=by
 unfold bS qd cW aZ nm;simp only[a,if_true,if_false,eH,K',b_];grind
section
variable{k:Nat}{c:aY}{ti U gr nn:Int}{st:List au}{m_:List bo}{Z l_:List af}{A:List aw}{V:List aF}{n_:List bq}{O:List aG}{T:List aA}{i:Nat}{t:aG}
def SE{j:Nat}{t':aG}(hi:i<5)(d:O.length=5)(f:pP k st O gr)(g:O.getD i aq.aa=t)(h0:aV k t st.length= -1)(l:aV k t' st.length=(j:Int))(hj:j<st.length)
 (m:(st.getD j aj.aa).1= -1) (o:bN t=false) (b:bN t'=false):pP k (bL st j (i:Int)) (O.set i t') gr:=by
 refine ui hi d f g (by simp[bL]) (fun q a=> ?_) (fun q a hh=> ?_) (by rw[o,b];rfl) (by rw[b];intro h;cases h);unfold bL;by_cases e:j=q;subst e;rw[aL _ _ a,an l];rw[getD_set_ne _ _ e,a_ (by omega),a_ (by omega)];have:j=q:=by omega
 subst this;exact .inr m
def uR{j:Nat}{t':aG}{a:List au}(hi:i<5)(g:O.length=5)(l:pP k st O gr)(m:O.getD i aq.aa=t)(o:aV k t st.length=(j:Int))(h1:aV k t' st.length= -1)(p:a.length=st.length)
 (r:(a.getD j aj.aa).1= -1) (d:∀q,q<st.length->¬j=q->(a.getD q aj.aa).1=(st.getD q aj.aa).1) (s:bN t=false) (f:bN t'=false):pP k a (O.set i t') gr:=by
 refine ui hi g l m p (fun q b=> ?_) (fun q d hh=>by omega) (by rw[s,f];rfl) (by rw[f];intro h;cases h);rw[a_ (by omega)];by_cases e:j=q;subst e;rw[an o,r];rw[a_ (by omega),d q b e]
def tB{t':aG}{a:List au}(hi:i<5)(m:O.length=5)(d:pP k st O gr)(o:O.getD i aq.aa=t)(g:aV k t' st.length=aV k t st.length)(p:a.length=st.length)
 (f:∀q,q<st.length->(a.getD q aj.aa).1=(st.getD q aj.aa).1) (j:bN t'=bN t):pP k a (O.set i t') gr:=by
 subst o;refine ui hi m d rfl p (fun q b=> ?_) (fun q f l=> .inl (by rw[<-g];exact l)) ?_ (fun h=> .inl (by rw[<-j];exact h));rw[g,f q b];by_cases e:aV k (O.getD i aq.aa) st.length=(q:Int)
 rw[an e,(d.pt q b i hi).1 e];rw[a_ e,a_ e];rw[j];by_cases e:bN (O.getD i aq.aa)=true;rw[an e,(d.gp i hi).1 e];rw[a_ e,a_ e]
def QJ{t':aG}(hi:i<5)(b:O.length=5)(d:pP k st O gr)(e:O.getD i aq.aa=t)(h0:aV k t st.length= -1)(h1:aV k t' st.length= -1)
 (f:gr= -1) (g:bN t'=true):pP k st (O.set i t') (i:Int):=by
 refine ui hi b d e rfl (fun q a=> ?_) (fun q a hh=>by omega) (by rw[g];rfl) (fun _=> .inr f);rw[a_ (by omega),a_ (by omega)]
def Kq{t':aG}(hi:i<5)(d:O.length=5)(e:pP k st O gr)(f:O.getD i aq.aa=t)(h0:aV k t st.length= -1)(h1:aV k t' st.length= -1)
 (g:bN t=true) (a:bN t'=false):pP k st (O.set i t') (-1):=by
 refine ui hi d e f rfl (fun q b=> ?_) (fun q b hh=>by omega) (by rw[g,a];rfl) (by rw[a];intro h;cases h);rw[a_ (by omega),a_ (by omega)]
def Al{j:Nat}{x:Int}(a:j<st.length):((bL st j x).getD j aj.aa).1=x:=by
 unfold bL;rw[aL _ _ a]
def sS{j q:Nat}{x:Int}(h:¬j=q):((bL st j x).getD q aj.aa).1=(st.getD q aj.aa).1:=by
 unfold bL;rw[getD_set_ne _ _ h]
theorem xN.held{j:Nat}{x:Int}(h:xN k c st)(a:j<st.length)(o: -1<=x/\x<=4):xN k c (bL st j x):=
 ⟨Tv h.ok a o,by rw[<-h.len];simp[bL],by unfold bu;rw[DQ];exact h.cap,by rw[DQ];exact h.fit⟩
def fW{t':aG}{d:List au}{f:List bo}{g j:List af}{o m:Int}{b:List aw}{l:List aF}{a:List aA}
 (h:Rt k c ti U st m_ Z gr A nn V l_ O T) (w:ti<4611686018427387904) (hi:i<5) (p:xN k c d) (q:vC c f g j) (r:pO k (ti+1) a) (hrel:fo i st d)
 (s:dx i T a) (x:nn<=m) (y:bS k c.1 d m (a.length:Int) t' (a.getD (bm t').toNat ay.aa) (i:Int)=true) (u:pP k d (O.set i t') o)
 (v:rq c U b m l ((O.set i t').getD 4 aq.aa)):Rt k c (tick ti) U d f g o b m l j (O.set i t') a:=by
 have z:=fI h.sto.ok;have e:=ow h.ti0 w
 exact⟨h.cf,by have:=h.ti0;omega,by have:=h.nn0;omega,h.nw,p,q,by rw[e];exact r,by simp[h.tl],
  QU hi h.tl h.sto.len z h.loc h.tas hrel x s y,u,v⟩
theorem rq.other{t':aG}(h:rq c U A nn V (O.getD 4 aq.aa))(hi:¬i=4):rq c U A nn V ((O.set i t').getD 4 aq.aa):=by
 rw[getD_set_ne _ _ hi];exact h
def ME{c1 m n:Int}{st a:List au}{t:aG}{d:aA}(h:bS k c1 st nn m t d n=true)(b:t.2.1=0)(ho:1<=t.1/\t.1<=4)(hs:t.1=3->dG st t=true->dG a t=true):
 bS k c1 a nn m (t.1,1,t.2.2) d n=true:=by
 obtain h1|h1|h1|h1:t.1=1\/t.1=2\/t.1=3\/t.1=4:=by omega
 have q:=(gV h1).1 h;rw[a_ (by omega)]at q;refine(gV (t:=(t.1,1,t.2.2)) h1).2 ?_;rw[a_ (by show¬(1:Int)=2;omega)];exact⟨⟨q.1.1,q.1.2.1,q.1.2.2.1,(show(0:Int)<=1 by decide),(show(1:Int)<=2 by decide),q.1.2.2.2.2.2⟩,q.2.1,q.2.2.1,q.2.2.2.1,q.2.2.2.2.1.trans (by rw[b];exact(show((0:Int)=2↔(1:Int)=2) by decide)),q.2.2.2.2.2⟩;have q:=(ny h1).1 h;exact(ny (t:=(t.1,1,t.2.2)) h1).2 ⟨⟨q.1.1,q.1.2.1,q.1.2.2.1,(show(0:Int)<=1 by decide),(show(1:Int)<=1 by decide),q.1.2.2.2.2.2⟩,q.2⟩;have q:=(fG h1).1 h;rw[a_ (by omega)]at q;refine(fG (t:=(t.1,1,t.2.2)) h1).2 ?_;rw[a_ (by show¬(1:Int)=2;omega)];exact⟨⟨q.1.1,q.1.2.1,q.1.2.2.1,(show(0:Int)<=1 by decide),(show(1:Int)<=2 by decide),q.1.2.2.2.2.2⟩,q.2.1,q.2.2.1,q.2.2.2.1,q.2.2.2.2.1,q.2.2.2.2.2.1,hs h1 q.2.2.2.2.2.2.1,q.2.2.2.2.2.2.2⟩;have q:=(gC h1).1 h;exact(gC (t:=(t.1,1,t.2.2)) h1).2 ⟨⟨q.1.1,q.1.2.1,q.1.2.2.1,(show(0:Int)<=1 by decide),(show(1:Int)<=1 by decide),q.1.2.2.2.2.2⟩,q.2⟩
def yW{j:Nat}(h:Rt k c ti U st m_ Z gr A nn V l_ O T)(a:ti<4611686018427387904)(hi:i<3)(e:O.getD i aq.aa=t)(m:1<=t.1/\t.1<=4)(b:t.2.1=0)
 (o:aV k (t.1,1,t.2.2) st.length=(j:Int)) (f:j<st.length) (p:(st.getD j aj.aa).1= -1):
 Rt k c (tick ti) U (bL st j (i:Int)) m_ Z gr A nn V l_ (O.set i (t.1,1,t.2.2)) T:=by
 have d:=h.tas i (by omega);rw[e]at d;have q:=Mo d h.sto.len
 exact fW h a (by omega) (h.sto.held f (by omega)) h.sub (h.dee.up (by omega)) (fo.held i st j i) (dx.refl i T) (g_ _)
  (ME d b m fun g l=>yj (fo.held i st j i) (q g) l)
  (SE (by omega) h.tl h.loc e (cM (.inl b)) o f p (eI (.inr b)) (eI (.inl (by show t.1<5;omega)))) (h.grp.other (by omega))
def dM(h:Rt k c ti U st m_ Z gr A nn V l_ O T)(hi:i<5)(f:O.getD i aq.aa=t)(g:¬t.1=0):
 bS k c.1 st nn (T.length:Int) t (T.getD (bm t).toNat ay.aa) (i:Int)=true/\(bm t).toNat<T.length/\(T.getD (bm t).toNat ay.aa).2.1=(i:Int)/\
 eQ k (T.getD (bm t).toNat ay.aa)=true/\(T.getD (bm t).toNat ay.aa).2.2.2.2.2.2.2.2.2.1<ti/\(T.getD (bm t).toNat ay.aa).2.2.2.2.2.2.2.2.2.2.1<ti:=by
 have a:=h.tas i hi;rw[f]at a;obtain⟨j,b2,b3⟩:=xY a g;have e:(bm t).toNat<T.length:=by omega
 have b:=h.dee _ (bz (d:=ay.aa) e);exact⟨a,e,j,b.1,b.2.1,b.2.2.1⟩
def JQ{s x:Bool}{j:Nat}{code:Int}{got:List af}(h:Rt k c ti U st m_ Z gr A nn V l_ O T)(a:ti<4611686018427387904)(hi:i<3)(b:O.getD i aq.aa=t)(ho:1<=t.1/\t.1<=4)
 (f:aV k t st.length=(j:Int)) (d:j<st.length) (hc:code∈jn (T.getD (bm t).toNat ay.aa).1):
 Rt k c (tick ti) U (bL st j (-1)) m_ Z gr A nn V l_ (O.set i zT) (T.set (bm t).toNat (eC s x (T.getD (bm t).toNat ay.aa) U ti code got)):=by
 obtain⟨hr,hn,g,l,m,o⟩:=dM h (by omega) b (by omega)
 exact fW h a (by omega) (h.sto.held d (by omega)) h.sub ((h.dee.up (by omega)).put (qg l h.nw.1 m o h.ti0 hc)) (fo.held i st j (-1)) (dx.put g) (g_ _) (mO (by omega))
  (uR (by omega) h.tl h.loc b f (cM (.inl rfl)) (by simp[bL]) (Al d) (fun q _ e=>sS e) (eI (.inl (by omega))) (eI (.inl (by decide)))) (h.grp.other (by omega))
end
def sg{k:Nat}{op i j n U ti code:Int}{a:af}{l:List ag}{got:List af}(ho:1<=op/\op<=9)(hi: -1<=i/\i<=4)(hj:0<=j)(hn:0<=n)(hw:0<=U)(ht:0<=ti)(hc:code∈jn op):
 eQ k (op,i,a,l,j,n,code,got,U,ti,ti,ti)=true:=by
 unfold eQ aZ;have b:¬ti= -1:=by omega
 simp[b,hc];omega
def S0{a:af}{s:bo}(e:bh a=true)(hs:fp s=true):fp (mU a s)=true:=by
 unfold mU;split;exact hs;rename_i h;split;unfold fp bI;simp[kz];unfold fp bI at*
 have f:s.2=false:=by simpa using h
 simp only[eH,b_,f,azM,Bool.true_or,true_and]at hs|-;rw[cX (d:=ae.aa) (p:=bh)]at hs|-;refine⟨by simp;omega,fun x b=> ?_⟩;rcases M_.1 b with b|b;exact hs.2 x b;rw[E_.1 b];exact e
section
variable{k:Nat}{c:aY}{ti U gr nn:Int}{st:List au}{m_:List bo}{Z l_:List af}{A:List aw}{V:List aF}{n_:List bq}{O:List aG}{T:List aA}{i:Nat}{t:aG}
theorem vC.tell{a:af}(h:vC c m_ Z l_)(p:bh a=true):vC c (m_.map (mU a)) (Z++[a]) (l_++[a]):=by
 refine⟨by simp[h.len],fun s q=> ?_,fun x o=> ?_,fun x o=> ?_⟩;obtain⟨u,v,rfl⟩:=List.mem_map.1 q;exact S0 p (h.sub u v);rcases M_.1 o with o|o;exact h.fee x o;rw[E_.1 o];exact p;rcases M_.1 o with o|o;exact h.sai x o;rw[E_.1 o];exact p
def Tp{a:af}{st:List au}(h:dp k st=true)(l:∀p∈st,p.2.1<4611686018427387904)(m:(st.getD (bg k st a.1).toNat aj.aa).1=(i:Int)):
 fo i st (dn k st a).1/\∀q,((dn k st a).1.getD q aj.aa).1=(st.getD q aj.aa).1:=by
 have j:=fI h;obtain⟨g,h2⟩:=iG (k:=k) (s:=a.1) j;rw[vn j];have hp:=(da.1 ((bQ.1 h).1 _ g)).2.2.2;have hvv:=l _ (bz (d:=aj.aa) g);have e:=Ak k (st.getD (bg k st a.1).toNat aj.aa) a;refine⟨⟨by simp,fun p f=> ?_⟩,fun q=> ?_⟩;by_cases b:(bg k st a.1).toNat=p;subst b;refine .inr ⟨m,?_⟩;dsimp only;rw[aL _ _ f,e.1,wrap64 (by omega) (by omega)];omega;exact .inl (by dsimp only;rw[getD_set_ne _ _ b]);dsimp only;by_cases b:(bg k st a.1).toNat=q;subst b;rw[aL _ _ g,e.2];rw[getD_set_ne _ _ b]
def Pr(h:Rt k c ti U st m_ Z gr A nn V l_ O T)(o:ti<4611686018427387904)(I:∀p∈st,p.2.1<4611686018427387904)(hi:i<3)(r:O.getD i aq.aa=t)(m:t.1=1)(N:t.2.1=1)
 (u:qZ k c st t.2.2.1=false):
 Rt k c (tick ti) U (dn k st t.2.2.1).1 m_ Z gr A nn V l_ (O.set i (t.1,2,(bD k (dn k st t.2.2.1).1 t.2.2.1.1).1,t.2.2.2))
  (T.set (bm t).toNat (pI (T.getD (bm t).toNat ay.aa) U ti (if(dn k st t.2.2.1).2=true then 1 else 2))):=by
 obtain⟨Q,R,S,f,hv1,hw⟩:=dM h (by omega) r (by omega);have J:=(gV m).1 Q;rw[a_ (by omega)]at J;obtain⟨⟨q1,q2,q3,q4,q5,q6,W,X,Y,B,C⟩,D,E,j,F,l,G,H⟩:=J;have v:=fI h.sto.ok;obtain⟨g1,g2⟩:=iG (k:=k) (s:=t.2.2.1.1) v;have a:=nM (k:=k) v m (.inl N);have d:=(h.loc.pt _ g1 i (by omega)).1 (by rw[r];exact a);obtain⟨p1,K,p3,L,p5⟩:=LR h.sto.ok H I;obtain⟨r1,r2⟩:=Tp (i:=i) h.sto.ok I d;obtain⟨M,f2⟩:=zH L;have b:=p5 h.sto.fit
 have hlin:(T.getD (bm t).toNat ay.aa).2.2.2.2.2.2.2.2.2.2.1= -1:=by
  by_cases e:(T.getD (bm t).toNat ay.aa).2.2.2.2.2.2.2.2.2.2.1= -1;exact e;have:=F.1 e;omega
 have g:xN k c (dn k st t.2.2.1).1:=by
  refine⟨p1,by rw[K];exact h.sto.len,?_,b⟩;have hc:=h.sto.cap;rw[p3,Kn h.sto.ok];unfold qZ at u;cases w:(bD k st t.2.2.1.1).2;rw[w]at u;have:¬c.2.1<=(bu st:Int):=by simpa using u
  simp;omega;simp[hc]
 refine fW h o (by omega) g h.sub ((h.dee.up (by omega)).put ?_) r1 (dx.put S) (g_ _) ?_ ?_ (h.grp.other (by omega));unfold pI;dsimp only;refine⟨?_,by omega,by omega,by omega⟩;have x:=h.nw;have y:=h.ti0;unfold eQ aZ at f|-;simp only[eH,K',b_]at f|-
 have z:(if(dn k st t.2.2.1).2=true then(1:Int)else 2)∈jn (T.getD (bm t).toNat ay.aa).1:=by
  rw[l];split<;>decide
 rw[a_ (by omega),b_];exact⟨⟨⟨⟨⟨⟨⟨⟨f.1.1.1.1.1.1.1.1,f.1.1.1.1.1.1.1.2⟩,f.1.1.1.1.1.1.2⟩,f.1.1.1.1.1.2⟩,f.1.1.1.1.2⟩,x.1⟩,.inr (by omega)⟩,.inl j⟩,z⟩;refine(gV (t:=(t.1,2,(bD k (dn k st t.2.2.1).1 t.2.2.1.1).1,t.2.2.2)) m).2 ?_;have P:bm (t.1,(2:Int),(bD k (dn k st t.2.2.1).1 t.2.2.1.1).1,t.2.2.2)=bm t:=rfl;rw[an rfl,P,aL _ _ R];dsimp only;unfold pI;dsimp only;rw[azm,M];have y:=h.ti0;exact⟨⟨q1,q2,q3,by omega,by omega,fc (b _ f2),W,X,Y,B,C⟩,D,E,j,⟨fun _=>rfl,fun _=>by omega⟩,l,by rw[G],L,rfl⟩;refine tB (by omega) h.tl h.loc r ?_ K (fun q _=>r2 q) ?_;rw[a,nM (t:=(t.1,2,(bD k (dn k st t.2.2.1).1 t.2.2.1.1).1,t.2.2.2)) v m (.inr rfl)];dsimp only;rw[M];rw[eI (.inl (by omega)),eI (.inl (by show t.1<5;omega))]
def Ti(h:Rt k c ti U st m_ Z gr A nn V l_ O T)(f:ti<4611686018427387904)(hi:i<3)(o:O.getD i aq.aa=t)(p:t.1=1)(g:t.2.1=2):
 Rt k c (tick ti) U (bL st (bg k st t.2.2.1.1).toNat (-1)) (m_.map (mU t.2.2.1)) (Z++[t.2.2.1]) gr A nn V (l_++[t.2.2.1]) (O.set i zT)
  ((T++[gK (oE i t.2.2.1) U ti ti ti]).set (bm t).toNat (nf (T.getD (bm t).toNat ay.aa) ti)):=by
 obtain⟨w,x,y,d,hv1,hw⟩:=dM h (by omega) o (by omega);have r:=(gV p).1 w;rw[an g]at r;obtain⟨⟨q1,q2,q3,q4,q5,z,q7,q8,q9,q10,q11⟩,q12,q13,q14,m,q16,q17,q18,q19⟩:=r;have u:=fI h.sto.ok;obtain⟨v,g2⟩:=iG (k:=k) (s:=t.2.2.1.1) u;have a:=nM (k:=k) u p (.inr g);have b:=m.2 g;have j:=h.nw;have l:=h.ti0
 refine fW h f (by omega) (h.sto.held v (by omega)) (h.sub.tell z) ((pO.app (h.dee.up (by omega)) ?_).put ?_) (fo.held i st _ (-1)) ((dx.app i T _).trans (dx.put ?_)) (g_ _) (mO (by omega))
  (uR (by omega) h.tl h.loc o a (cM (.inl rfl)) (by simp[bL]) (Al v) (fun q _ e=>sS e) (eI (.inl (by omega))) (eI (.inl (by decide)))) (h.grp.other (by omega))
 unfold gK oE;dsimp only;refine⟨?_,by omega,by omega,by omega⟩;exact sg ⟨by decide,by decide⟩ (by omega) (by decide) (by decide) j.1 l (by decide);unfold nf;dsimp only;refine⟨?_,by omega,by omega,by omega⟩;unfold eQ aZ at d|-;simp only[eH,K',b_]at d|-;refine⟨⟨d.1.1,.inr ⟨by simpa using b,by omega⟩⟩,d.2⟩;rw[azk,azF x,<-azk];exact y
def aU{b:aY}{a:Int}{r:Int×List au×List bo×List af×Int×List aw×Int×List aF×List bq×List af×List aG×List aA}:
 bC (true,b,a,r)=(true,b,tick a,r):=rfl
def Pe{s:Bool}(h:Rt k c ti U st m_ Z gr A nn V l_ O T)(a:ti<4611686018427387904)(q:∀p∈st,p.2.1<4611686018427387904)(hi:i<3)(b:O.getD i aq.aa=t)(e:t.1=1):
 (ia s k (c,ti,U,st,m_,Z,gr,A,nn,V,n_,l_,O,T) i).1=true->bE k (ia s k (c,ti,U,st,m_,Z,gr,A,nn,V,n_,l_,O,T) i).2=true:=by
 have g:=fI h.sto.ok;obtain⟨o,g2⟩:=iG (k:=k) (s:=t.2.2.1.1) g;obtain⟨r,hn,hb,l,hv1,hw⟩:=dM h (by omega) b (by omega);have m:=(gV e).1 r;unfold ia pA;dsimp only;rw[b];by_cases j:t.2.1=0;rw[an j];unfold ey;dsimp only;rw[b];by_cases d:(st.getD (bg k st t.2.2.1.1).toNat aj.aa).1= -1;rw[an d,aU];intro _;exact bF.2 (yW h a hi b (by omega) j (nM (t:=(t.1,1,t.2.2)) g e (.inl rfl)) o d);rw[a_ d];intro l;simp[bC]at l;rw[a_ j];by_cases f:t.2.1=1;rw[an f];by_cases d:qZ k c st t.2.2.1=true;rw[an d,aU];intro _;exact bF.2 (JQ h a hi b (by omega) (nM g e (.inl f)) o (by rw[m.2.2.2.2.2.1];decide));rw[a_ d,aU];intro _;exact bF.2 (Pr h a q hi b e f (by simpa using d));rw[a_ f,aU];intro _;have:=m.1.2.2.2;exact bF.2 (Ti h a hi b e (by omega))
def OA{s:Bool}(h:Rt k c ti U st m_ Z gr A nn V l_ O T)(a:ti<4611686018427387904)(hi:i<3)(b:O.getD i aq.aa=t)(e:t.1=2):
 (bC (lz s k (c,ti,U,st,m_,Z,gr,A,nn,V,n_,l_,O,T) i)).1=true->bE k (bC (lz s k (c,ti,U,st,m_,Z,gr,A,nn,V,n_,l_,O,T) i)).2=true:=by
 have f:=fI h.sto.ok;obtain⟨l,g2⟩:=iG (k:=k) (s:=t.2.2.2.1) f;obtain⟨p,hn,hb,m,hv1,hw⟩:=dM h (by omega) b (by omega);have g:=(ny e).1 p;unfold lz;dsimp only;rw[b];by_cases j:t.2.1=0;rw[an j];unfold ey;dsimp only;rw[b];by_cases d:(st.getD (bg k st t.2.2.2.1).toNat aj.aa).1= -1;rw[an d,aU];intro _;exact bF.2 (yW h a hi b (by omega) j (vK (t:=(t.1,1,t.2.2)) f e rfl) l d);rw[a_ d];intro m;simp[bC]at m;have o:t.2.1=1:=by have:=g.1;omega
 rw[a_ j];by_cases d:(bD k st t.2.2.2.1).2=true;rw[an d,aU];intro _;exact bF.2 (JQ h a hi b (by omega) (vK f e o) l (by rw[g.2.2.2.2.2.1];decide));rw[a_ d,aU];intro _;exact bF.2 (JQ h a hi b (by omega) (vK f e o) l (by rw[g.2.2.2.2.2.1];decide))
def M1{l m:List af}(e:bI l=true)(f:∀a∈m,bh a=true):bI (l++m)=true:=by
 unfold bI at*
 rw[cX (d:=ae.aa) (p:=bh)]at*
 intro x b;rcases M_.1 b with b|b;exact e x b;exact f x b
def Q3{l:List Int}{v:Int}(b:lh l=true)(e:0<=v):lh (l++[v])=true:=by
 unfold lh at*
 rw[cX (d:=(0:Int)) (p:=fun x=>decide (0<=x))]at*
 intro x a;rcases M_.1 a with a|a;exact b x a;rw[E_.1 a];exact c_ e
def jg{α:Type}{l m:List α}{n:Nat}(d:α)(h:n<l.length):(l++m).getD n d=l.getD n d:=by
 rw[azk,azF h,<-azk]
def rZ{α:Type}{l:List α}{x:α}(d:α):(l++[x]).getD l.length d=x:=by
 rw[azk,List.getElem?_append_right (azn _)];simp
def OE{st:List au}{t:aG}{j:Nat}(h:dG st t=true)(b:j<st.length)(d:t.2.2.2.2.2.1.length=j):dG st (ky st t j)=true:=by
 rw[rl]at h|-;unfold ky;dsimp only;subst d;rw[lk,L_];constructor;intro p a;by_cases e:p<t.2.2.2.2.2.1.length;rw[jg _ e];exact h.1 p e;have:p=t.2.2.2.2.2.1.length:=by omega
 subst this;rw[rZ];exact g_ _;intro g;rw[dK aj.aa b,h.2 fun p a=> ?_];have:=g p (by omega);rwa [jg _ a]at this
def Vy(h:Rt k c ti U st m_ Z gr A nn V l_ O T)(g:ti<4611686018427387904)(hi:i<3)(w:O.getD i aq.aa=t)(j:t.1=3)(C:t.2.1=1):
 Rt k c (tick ti) U (bL st t.2.2.2.2.1.toNat (-1)) m_ Z gr A nn V l_ (O.set i (ky st t t.2.2.2.2.1.toNat)) T:=by
 obtain⟨H,hn,hb,hd,hv1,hw⟩:=dM h (by omega) w (by omega);have x:=(fG j).1 H;rw[a_ (by omega)]at x;obtain⟨⟨q1,q2,q3,q4,q5,I,J,K,q9,l,m⟩,o,p,r,s,u,v,q18⟩:=x;have D:=fI h.sto.ok;have hlen:=h.sto.len;have h3:=(bQ.1 h.sto.ok).2;have f:t.2.2.2.2.1.toNat<st.length:=by omega
 have b:=da.1 ((bQ.1 h.sto.ok).1 _ f);have d:aV k t st.length=(t.2.2.2.2.1.toNat:Int):=by rw[vu D (.inl j) C];omega
 have y:(ky st t t.2.2.2.2.1.toNat).1=3:=j
 have z:(ky st t t.2.2.2.2.1.toNat).2.1=0\/(ky st t t.2.2.2.2.1.toNat).2.1=2/\t.2.2.2.2.1.toNat+1=st.length:=by
  unfold ky;dsimp only;split;exact .inr ⟨rfl,by assumption⟩;exact .inl rfl
 have E:¬(ky st t t.2.2.2.2.1.toNat).2.1=2->¬t.2.2.2.2.1.toNat+1=st.length:=by
  unfold ky;dsimp only;split;intro h;exact absurd rfl h;intro _;assumption
 refine fW h g (by omega) (h.sto.held f (by omega)) h.sub (h.dee.up (by omega)) (fo.held i st _ (-1)) (dx.refl i T) (g_ _) ?_
  (uR (by omega) h.tl h.loc w d (cM (by rcases z with e|e;exact .inl e;exact .inr (.inr (.inr ⟨y,e.1⟩)))) (by simp[bL]) (Al f) (fun q _ e=>sS e) (eI (.inl (by omega))) (eI (.inl (by omega)))) (h.grp.other (by omega))
 have F:bm (ky st t t.2.2.2.2.1.toNat)=bm t:=rfl;rw[F];refine(fG y).2 ⟨⟨q1,q2,q3,by omega,by omega,I,J,Q3 K b.2.2.2,?_,M1 l fun a B=>fc (h.sto.fit a (azD.2 ⟨_,bz f,B⟩)),m⟩,o,p,r,s,u,?_,?_⟩;unfold ky;dsimp only;rw[lk,L_];omega;refine yj (fo.held i st _ (-1)) ?_ (OE v f (by omega));unfold ky;dsimp only;rw[lk,L_];omega;have G:(ky st t t.2.2.2.2.1.toNat).2.2.2.2.1=((t.2.2.2.2.1.toNat+1:Nat):Int):=rfl;rw[G];split;rename_i e;rcases z with L|L<;>omega;rename_i e;have:=E e;omega
def Gr{t':aG}{a:List aA}(h:Rt k c ti U st m_ Z gr A nn V l_ O T)(e:ti<4611686018427387904)(hi:i<3)(f:O.getD i aq.aa=t)(g:aV k t st.length= -1)(j:aV k t' st.length= -1)
 (l:t.1<5) (m:t'.1<5) (b:pO k (ti+1) a) (d:dx i T a) (o:bS k c.1 st nn (a.length:Int) t' (a.getD (bm t').toNat ay.aa) (i:Int)=true):
 Rt k c (tick ti) U st m_ Z gr A nn V l_ (O.set i t') a:=
 fW h e (by omega) h.sto h.sub b (fo.refl i st) d (g_ _) o
  (tB (by omega) h.tl h.loc f (by rw[g,j]) rfl (fun _ _=>rfl) (by rw[eI (.inl l),eI (.inl m)])) (h.grp.other (by omega))
def MG{s:Bool}(h:Rt k c ti U st m_ Z gr A nn V l_ O T)(a:ti<4611686018427387904)(hi:i<3)(b:O.getD i aq.aa=t)(f:t.1=3):
 (bC (fx s k (c,ti,U,st,m_,Z,gr,A,nn,V,n_,l_,O,T) i)).1=true->bE k (bC (fx s k (c,ti,U,st,m_,Z,gr,A,nn,V,n_,l_,O,T) i)).2=true:=by
 have y:=fI h.sto.ok;obtain⟨E,hn,F,g,o,G⟩:=dM h (by omega) b (by omega);have z:=(fG f).1 E;obtain⟨⟨q1,q2,q3,q4,q5,q6,q7,q8,q9,q10,q11⟩,q12,q,r,u,e,q17,v⟩:=z;have hlen:=h.sto.len;unfold fx;dsimp only;rw[b];by_cases j:t.2.1=0;rw[an j];rw[a_ (by omega)]at v;have B:t.2.2.2.2.1.toNat<st.length:=by omega
 unfold ey;dsimp only;rw[b];by_cases l:(st.getD t.2.2.2.2.1.toNat aj.aa).1= -1;rw[an l,aU];intro _;exact bF.2 (yW h a hi b (by omega) j (by rw[vu (t:=(t.1,1,t.2.2)) y (.inl f) rfl];dsimp only;omega) B l);rw[a_ l];intro g;simp[bC]at g;rw[a_ j];by_cases m:t.2.1=1;rw[an m,aU];intro _;exact bF.2 (Vy h a hi b f m);rw[a_ m];have C:t.2.1=2:=by omega
 have d:aV k t st.length= -1:=cM (.inr (.inr (.inr ⟨f,C⟩)));by_cases w:jG st t.2.2.2.2.2.1=true;rw[an w,aU];intro _;exact bF.2 (Gr h a hi b d (cM (.inl rfl)) (by omega) (by decide) ((h.dee.up (by omega)).put (qg g h.nw.1 o G h.ti0 (by rw[e];decide))) (dx.put F) (mO (by omega)));rw[a_ w,aU];intro _;refine bF.2 (Gr h a hi b d (cM (.inl rfl)) (by omega) (by show(3:Int)<5;decide) (h.dee.up (by omega)) (dx.refl i T) ?_);have D:bm (oX ((bm t).toNat:Int))=((bm t).toNat:Int):=rfl;rw[D,azs];refine(fG (t:=oX ((bm t).toNat:Int)) rfl).2 ?_;have h3:=(bQ.1 h.sto.ok).2;rw[a_ (by show¬(0:Int)=2;decide)];refine⟨⟨q1,q2,by show(0:Int)<=((bm t).toNat:Int);omega,g_ _,by show(0:Int)<=2;decide,rfl,rfl,by unfold lh oX;simp[kz],rfl,by unfold bI oX;simp[kz],rfl⟩,by show((bm t).toNat:Int)<_;omega,q,r,u,e,?_,g_ _,by show(0:Int)<=2;decide,by show(0:Int)<_;omega⟩;rw[rl];unfold oX;exact⟨fun p x=>by simp at x,fun _=>by simp⟩
def Gy{j:Nat}(h:dp k st=true)(a:j<st.length)(g:(st.getD j aj.aa).1=(i:Int))(l:∀p∈st,p.2.1<4611686018427387904):
 fo i st (st.set j (-1,(dR (st.getD j aj.aa) U).2)):=by
 refine⟨by simp,fun p f=> ?_⟩;by_cases e:j=p;subst e;rw[aL _ _ f];by_cases b:0<(dg U (st.getD j aj.aa).2.2).length;refine .inr ⟨g,?_⟩;have hp2:=(da.1 ((bQ.1 h).1 _ a)).2.2.2;have hvv:=l _ (bz (d:=aj.aa) a);unfold dR;dsimp only;rw[an b,wrap64 (by omega) (by omega)];omega;rw[MA ((bQ.1 h).1 _ a) b];exact .inl rfl;rw[getD_set_ne _ _ e];exact .inl rfl
def Gn{j:Nat}(h:xN k c st)(d:j<st.length)(f:∀p∈st,p.2.1<4611686018427387904):xN k c (st.set j (-1,(dR (st.getD j aj.aa) U).2)):=by
 have e:=da.1 (O5 (U:=U) ((bQ.1 h.ok).1 _ d) (f _ (bz d)));refine⟨sQ h.ok (da.2 ⟨e.1,e.2.1,⟨by show(-1:Int)<=-1;decide,by show(-1:Int)<=4;decide⟩,e.2.2.2⟩),by rw[azm];exact h.len,?_,fun a b=> ?_⟩;have h1:=count_set (l:=st) (p:=(-1,(dR (st.getD j aj.aa) U).2)) d;have h2:=zP (st.getD j aj.aa) U;have h3:(aS (-1,(dR (st.getD j aj.aa) U).2)).length=(aS (dR (st.getD j aj.aa) U)).length:=rfl;have:=h.cap;omega;rcases xM b with b|b;exact h.fit a b;exact h.fit a (azD.2 ⟨_,bz d,OD (U:=U) b⟩)
def K3{s:Bool}(h:Rt k c ti U st m_ Z gr A nn V l_ O T)(g:ti<4611686018427387904)(u:∀p∈st,p.2.1<4611686018427387904)(hi:i<3)(l:O.getD i aq.aa=t)(v:t.1=4):
 (fu s k (c,ti,U,st,m_,Z,gr,A,nn,V,n_,l_,O,T) i).1=true->bE k (fu s k (c,ti,U,st,m_,Z,gr,A,nn,V,n_,l_,O,T) i).2=true:=by
 have H:=fI h.sto.ok;obtain⟨M,J,N,x,B,P⟩:=dM h (by omega) l (by omega);obtain⟨⟨q1,q2,q3,q4,q5,Q,R,q8,q9,C,D,o⟩,q12,E,F,G,r,q17⟩:=(gC v).1 M;have hlen:=h.sto.len;have f:t.2.2.2.2.1.toNat<st.length:=by omega
 unfold fu qa;dsimp only;rw[l];by_cases y:t.2.1=0;rw[an y];unfold ey;dsimp only;rw[l];by_cases z:(st.getD t.2.2.2.2.1.toNat aj.aa).1= -1;rw[an z,aU];intro _;exact bF.2 (yW h g hi l (by omega) y (by rw[vu (t:=(t.1,1,t.2.2)) H (.inr v) rfl];dsimp only;omega) f z);rw[a_ z];intro x;simp[bC]at x;have K:t.2.1=1:=by omega
 rw[a_ y,aU];intro _;have a:aV k t st.length=(t.2.2.2.2.1.toNat:Int):=by rw[vu H (.inr v) K];omega
 have b:=(h.loc.pt _ f i (by omega)).1 (by rw[l];exact a)
 have m:eQ k (gK (iA i t.2.2.2.2.1.toNat (dg U (st.getD t.2.2.2.2.1.toNat aj.aa).2.2)) U ti ti ti)=true:=
  sg (op:=5) (i:=(i:Int)) (j:=(t.2.2.2.2.1.toNat:Int)) (n:=0) (code:=8) ⟨by decide,by decide⟩ (by omega) (by omega) (by decide) h.nw.1 h.ti0 (by decide)
 have I:=pO.app (h.dee.up (show ti<=ti+1 by omega)) (d:=gK (iA i t.2.2.2.2.1.toNat (dg U (st.getD t.2.2.2.2.1.toNat aj.aa).2.2)) U ti ti ti) ⟨m,by show ti<ti+1;omega,by show ti<ti+1;omega,by show ti<ti+1;omega⟩;refine bF.2 ?_;by_cases w:t.2.2.2.2.1.toNat+1=st.length;rw[an w,an w]
 exact fW h g (by omega) (Gn h.sto f u) h.sub (I.put (qg x h.nw.1 B P h.ti0 (by rw[r];decide))) (Gy h.sto.ok f b u)
  ((dx.app i T _).trans (dx.put (by rw[jg _ J];exact N))) (g_ _) (mO (by omega))
  (uR (by omega) h.tl h.loc l a (cM (.inl rfl)) (by simp) (by rw[aL _ _ f]) (fun q _ e=>by rw[getD_set_ne _ _ e]) (eI (.inl (by omega))) (eI (.inl (by decide)))) (h.grp.other (by omega))
 rw[a_ w,a_ w]
 refine fW h g (by omega) (Gn h.sto f u) h.sub I (Gy h.sto.ok f b u) (dx.app i T _) (g_ _) ?_
  (uR (by omega) h.tl h.loc l a (cM (.inl rfl)) (by simp) (by rw[aL _ _ f]) (fun q _ e=>by rw[getD_set_ne _ _ e]) (eI (.inl (by omega))) (eI (.inl (by show t.1<5;omega)))) (h.grp.other (by omega))
 have L:bm (t.1,(0:Int),t.2.2.1,t.2.2.2.1,((t.2.2.2.2.1.toNat+1:Nat):Int),t.2.2.2.2.2)=bm t:=rfl;rw[L,jg _ J,lk,L_];refine(gC (t:=(t.1,(0:Int),t.2.2.1,t.2.2.2.1,((t.2.2.2.2.1.toNat+1:Nat):Int),t.2.2.2.2.2)) v).2 ?_;have h3:=(bQ.1 h.sto.ok).2;exact⟨⟨q1,q2,q3,g_ _,by show(0:Int)<=1;decide,Q,R,by dsimp only;omega,by dsimp only;omega,C,D,o⟩,by dsimp only;omega,E,F,G,r,by dsimp only;omega⟩
end
def sP{a b:aF}(h:bw a b=true):bw b a=false:=by
 unfold bw at*;simp at*;omega
def before_trans{a b c:aF}(h:bw a b=true)(h2:bw b c=true):bw a c=true:=by
 unfold bw at*;simp at*;omega
def wE{a b c:aF}(h:bw a b=false)(h2:bw b c=false):bw a c=false:=by
 unfold bw at*;simp at*;omega
abbrev kt(l:List aF)(i:Nat):aF:=l.getD i aE.aa
def HP(l:List aF):Prop:=∀j,j<l.length->0<j->bw (kt l j) (kt l ((j-1)/2))=false
def HPu(l:List aF)(i:Nat):Prop:=
 (∀j,j<l.length->0<j->¬j=i->bw (kt l j) (kt l ((j-1)/2))=false)/\
 (0<i->∀j,j<l.length->0<j->(j-1)/2=i->bw (kt l j) (kt l ((i-1)/2))=false)
def HPd(l:List aF)(i:Nat):Prop:=
 (∀j,j<l.length->0<j->¬(j-1)/2=i->bw (kt l j) (kt l ((j-1)/2))=false)/\
 (0<i->∀j,j<l.length->0<j->(j-1)/2=i->bw (kt l j) (kt l ((i-1)/2))=false)
def Pg{l:List aF}{i j:Nat}(hi:i<l.length)(b:j<l.length)(n:Nat):kt (qS l i j) n=if n=j then kt l i else if n=i then kt l j else kt l n:=by
 unfold qS kt;by_cases e:n=j;subst e;rw[an rfl,aL _ _ (by simpa using b)];rw[a_ e,getD_set_ne _ _ (Ne.symm e)];by_cases a:n=i;subst a;rw[an rfl,aL _ _ hi];rw[a_ a,getD_set_ne _ _ (Ne.symm a)]
def JI{l:List aF}{i j:Nat}(hi:i<l.length)(a:j<l.length):(qS l i j).Perm l:=by
 unfold qS;rw[bJ _ hi,bJ _ a];exact List.set_set_perm hi a
def P9:∀(i:Nat) {l:List aF},i<l.length->HPu l i->HP (D7 l i):=by
 intro i
 induction i using azV with
 |_ i y=>
  intro l u h;rw[D7];by_cases p:0<i;rw[dif_pos p];by_cases g:bw (l.getD i aE.aa) (l.getD ((i-1)/2) aE.aa)=true;rw[an g];have w:(i-1)/2<i:=by omega
  have m:=Pg (l:=l) u (show(i-1)/2<l.length by omega);refine y _ w (by rw[dX];omega) ⟨fun j b a o=> ?_,fun f j b a v=> ?_⟩;rw[dX]at b;rw[m,m,a_ o];by_cases d:j=i;subst d;rw[an rfl,an rfl];exact sP g;rw[a_ d];by_cases q:(j-1)/2=(i-1)/2;rw[an q];have:=h.1 j b a d;rw[q]at this;cases x:bw (kt l j) (kt l i);rfl;rw[before_trans x g]at this;cases this;rw[a_ q];by_cases r:(j-1)/2=i;rw[an r];exact h.2 p j b a r;rw[a_ r];exact h.1 j b a d;rw[dX]at b;rw[m,m,a_ (by omega),a_ (show¬((i-1)/2-1)/2=(i-1)/2 by omega),a_ (show¬((i-1)/2-1)/2=i by omega)];by_cases d:j=i;rw[an d];exact h.1 _ (by omega) f (by omega);rw[a_ d];have s:=h.1 j b a d;rw[v]at s;exact wE s (h.1 _ (by omega) f (by omega));rw[a_ g];intro j b a;by_cases e:j=i;subst e;simpa using g;exact h.1 j b a e;rw[dif_neg p];intro j b a;exact h.1 j b a (by omega)
def QE:∀(i:Nat) {l:List aF},i<l.length->(D7 l i).Perm l:=by
 intro i
 induction i using azV with
 |_ i e=>
  intro l d;rw[D7];by_cases a:0<i;rw[dif_pos a];by_cases b:bw (l.getD i aE.aa) (l.getD ((i-1)/2) aE.aa)=true;rw[an b];exact(e _ (by omega) (by rw[dX];omega)).trans (JI d (by omega));rw[a_ b];rw[dif_neg a]
def OJ{l:List aF}{i:Nat}(h:2*i+1<l.length):eZ l i<l.length/\(eZ l i-1)/2=i/\i<eZ l i:=by
 unfold eZ;split<;>omega
def GD{l:List aF}{i j:Nat}(h:2*i+1<l.length)(b:j<l.length)(h0:0<j)(he:(j-1)/2=i):bw (kt l j) (kt l (eZ l i))=false:=by
 have a:bw (kt l j) (kt l j)=false:=by unfold bw;simp
 unfold eZ;split;rename_i hk;obtain rfl|rfl:j=2*i+1\/j=2*i+2:=by omega
 exact sP hk.2;exact a;rename_i hk;obtain rfl|rfl:j=2*i+1\/j=2*i+2:=by omega
 exact a;have:¬bw (kt l (2*i+2)) (kt l (2*i+1))=true:=fun h=>hk ⟨b,h⟩;simpa using this
def NJ:∀n (l:List aF) (i:Nat),l.length-i<=n->i<l.length->HPd l i->HP (oQ l i):=by
 intro n
 induction n with
 |zero=>intro l i v r h;omega
 |succ n x=>
  intro l i v r h;rw[oQ];by_cases f:2*i+1<l.length;rw[dif_pos f];obtain⟨u,q,k3⟩:=OJ f;by_cases g:bw (l.getD (eZ l i) aE.aa) (l.getD i aE.aa)=true;rw[an g];have m:=Pg (l:=l) r u;refine x _ _ (by rw[dX];omega) (by rw[dX];omega) ⟨fun j b a o=> ?_,fun hp0 j b a w=> ?_⟩;rw[dX]at b;rw[m,m,a_ o];by_cases d:(j-1)/2=i;rw[an d];by_cases s:j=eZ l i;rw[an s];exact sP g;rw[a_ s,a_ (by omega)];exact GD f b a d;rw[a_ d,a_ (by intro e;rw[e]at d;exact d q)];by_cases p:j=i;rw[an p];subst p;exact h.2 a _ u (by omega) q;rw[a_ p];exact h.1 j b a d;rw[dX]at b;rw[q,m,m,a_ (by omega),a_ (by omega),a_ (by omega),an rfl];have:=h.1 j b a (by omega);rwa [w]at this;rw[a_ g];intro j b a;by_cases e:(j-1)/2=i;rw[e];exact wE (GD f b a e) (by simpa using g);exact h.1 j b a e;rw[dif_neg f];intro j b a;exact h.1 j b a (by omega)
def Mv:∀n (l:List aF) (i:Nat),l.length-i<=n->i<l.length->(oQ l i).Perm l:=by
 intro n
 induction n with
 |zero=>intro l i e b;omega
 |succ n g=>
  intro l i e b;rw[oQ];by_cases a:2*i+1<l.length;rw[dif_pos a];obtain⟨f,k2,k3⟩:=OJ a;by_cases d:bw (l.getD (eZ l i) aE.aa) (l.getD i aE.aa)=true;rw[an d];exact(g _ _ (by rw[dX];omega) (by rw[dX];omega)).trans (JI b f);rw[a_ d];rw[dif_neg a]
def qb{l:List aF}:lj l=true↔(∀x∈l,0<=x.1/\0<=x.2)/\HP l/\l.length<=16:=by
 unfold lj;rw[jI,eH,eH,cX (d:=aE.aa) (p:=fun x=>decide (0<=x.1)&&decide (0<=x.2)),decide_eq_true_iff,and_assoc,bM];refine and_congr (by simp) (and_congr ?_ azT);unfold HP;simp only[K',beq_iff_eq,azG]
 exact⟨fun h j a h0=>(h j (by omega) a).resolve_left (by omega),fun h j _ a=>by
  by_cases e:j=0;exact .inl e;exact .inr (h j a (by omega))⟩
def oY(l:List aF)(t:aF):(tf l t).Perm (l++[t]):=QE _ (by simp)
def L5{l:List aF}{t:aF}(h:lj l=true)(f:0<=t.1/\0<=t.2)(hl:l.length<=15):lj (tf l t)=true:=by
 rw[qb]at h|-;have e:=oY l t;refine⟨fun x a=> ?_,P9 _ (by simp) ⟨fun j b d hne=> ?_,fun d j b hj0 he=> ?_⟩,by rw[e.length_eq];simp;omega⟩;rcases M_.1 (e.mem_iff.1 a)with a|a;exact h.1 x a;rw[E_.1 a];exact f;rw[lk,L_]at b;unfold kt;rw[jg _ (by omega),jg _ (by omega)];exact h.2.1 j (by omega) d;rw[lk,L_]at b;omega
def vG{l:List aF}(h:0<l.length):((dS l).2.1::(dS l).1).Perm l:=by
 unfold dS;rw[a_ (by omega)];dsimp only;by_cases b:l.length=1;rw[an b];obtain⟨x,rfl⟩:=List.length_eq_one_iff.1 b;exact List.Perm.refl _;rw[a_ b];have hlen:((l.take (l.length-1)).set 0 (l.getD (l.length-1) aE.aa)).length=l.length-1:=by simp
 refine((Mv _ _ 0 (azn _) (by omega)).cons _).trans ?_;cases l with
 |nil=>simp at h
 |cons a l=>
  have hl:0<l.length:=by rw[azz]at b;omega
  obtain⟨m,hm⟩:∃m,l.length=m+1:=⟨l.length-1,by omega⟩
  have d:(a::l).length-1=m+1:=by simp;omega
  rw[d,List.take_succ_cons,List.set_cons_zero,List.getD_cons_zero,List.getD_cons_succ];refine List.Perm.cons a ?_
  have e:l=l.take m++[l.getD m aE.aa]:=by
   have:=List.take_append_drop m l;rw[bJ _ (by omega)]
   conv=>lhs;rw[<-this]
   congr 1;rw[List.drop_eq_getElem_cons (by omega),List.drop_eq_nil_of_le (by omega)]
  conv=>rhs;rw[e]
  exact(List.perm_append_singleton _ _).symm
def P6{l:List aF}(h:lj l=true)(d:0<l.length):lj (dS l).1=true:=by
 have e:=vG d;rw[qb]at h|-;refine⟨fun x g=>h.1 x (e.mem_iff.1 (azq _ g)),?_,by have:=e.length_eq;simp at this;omega⟩;unfold dS;rw[a_ (by omega)];dsimp only;by_cases f:l.length=1;rw[an f];intro j a;simp at a;rw[a_ f];have hlen:((l.take (l.length-1)).set 0 (l.getD (l.length-1) aE.aa)).length=l.length-1:=by simp
 refine NJ _ _ 0 (azn _) (by omega) ⟨fun j a b hne=> ?_,fun d=>by omega⟩;rw[hlen]at a;unfold kt;rw[getD_set_ne _ _ (by omega),getD_set_ne _ _ (by omega)]
 have:∀n,n<l.length-1->(l.take (l.length-1)).getD n aE.aa=l.getD n aE.aa:=by
  intro n hn;rw[bJ _ (by simp;omega),bJ _ (by omega),azC]
 rw[this _ a,this _ (by omega)];exact h.2.1 j (by omega) b
def bytes_inj{a b:ByteArray}(h:a.toList=b.toList):a=b:=by
 have:=wg a b;rw[h,beq_self_eq_true]at this;exact e_ this.symm
theorem I3:∀ {l m:List ag},BN l=BN m->l=m
 | [],[],_=>rfl
 | [],b::m,h=>by simp[BN]at h
 |a::l,[],h=>by simp[BN]at h
 |(a1,a2)::l,(b1,b2)::m,h=>by
  simp only[BN,List.cons.injEq]at h;rw[bytes_inj h.1,bytes_inj h.2.1,I3 h.2.2]
def SI{s x:List ag}(a:bp s x=false)(d:¬x=s):bp x s=true:=by
 rw[GO]at a|-;rw[d_]at a;rw[b_];refine Decidable.byContradiction fun b=>d ?_;exact I3 (List.le_antisymm (List.not_lt.1 a) (List.not_lt.1 b))
abbrev sX(l:List af):Prop:=l.Pairwise (fun a b=>bp a.1 b.1=true)
def LG{l:List af}{key:List ag}{by_:List ByteArray}:qh l key by_=true↔(∀a∈l,bh a=true/\keyOf a by_=key)/\sX l:=by
 unfold qh sX;rw[<-DJ (r:=fun a b:af=>bp a.1 b.1=true) (d:=ae.aa) (fun a b c f g=>k9.trans _ _ _ f g)];have:∀j,(bh (l.getD j ae.aa)&&(decide (keyOf (l.getD j ae.aa) by_=key)&&yd l j))=((bh (l.getD j ae.aa)&&decide (keyOf (l.getD j ae.aa) by_=key))&&yd l j):=fun j=>(Bool.and_assoc ..).symm;simp only[this];rw[jI,eH,cX (d:=ae.aa) (p:=fun a=>bh a&&decide (keyOf a by_=key)),bM];refine and_congr (by simp) ?_;simp only[yd,K',beq_iff_eq];exact⟨fun h i e=>h i (by omega) e,fun h i _ e=>h i e⟩
def gk{g:aw}{by_:List ByteArray}:eB g by_=true↔0<=g.1/\cZ g.2.1=true/\(0<=g.2.2.1/\g.2.2.1<=99999)/\(g.2.2.2.1= -1\/(g.2.2.1<=g.2.2.2.1/\g.2.2.2.1<=99999))/\0<g.2.2.2.2.length/\(∀a∈g.2.2.2.2,bh a=true/\keyOf a by_=g.2.1)/\sX g.2.2.2.2:=by
 unfold eB aZ;simp only[eH,K',b_,LG]
def cj{l:List aw}{by_:List ByteArray}:dQ l by_=true↔l.length<=12/\(∀g∈l,eB g by_=true)/\l.Pairwise (fun a b=>a.1<b.1)/\l.Pairwise (fun a b=>¬a.2.1=b.2.1):=by
 unfold dQ;rw[<-DJ (d:=al.aa) (fun a b c h1 h2=>by omega),<-jh (d:=al.aa),jI,jI];simp only[eH,b_,cX (l:=l) (d:=al.aa) (p:=fun g=>eB g by_),bM,JK,pn,K',beq_iff_eq,azG,d_];refine and_congr azT (and_congr azT (and_congr ?_ ?_));exact⟨fun h i e=>h i (by omega) e,fun h i _ e=>h i e⟩;exact⟨fun h i e j f=>h i (by omega) e j (by omega) f,fun h i _ e j _ f=>h i e j f⟩
def Ks{l:List af}{s:List ag}(i:Nat)(h:i<gu l s):bp s (l.getD i ae.aa).1=false:=by
 unfold gu at h;cases e:fv l.length (fun i=>bp s (l.getD i ae.aa).1)with
 |none=>rw[e]at h;exact gB.1 e i h
 |some j=>rw[e]at h;exact(aR.1 e).2.2 i h
def Rl{l:List af}{s:List ag}(h:gu l s<l.length):bp s (l.getD (gu l s) ae.aa).1=true:=by
 unfold gu at h|-;cases e:fv l.length (fun i=>bp s (l.getD i ae.aa).1)with
 |none=>rw[e]at h;simp at h
 |some j=>exact(aR.1 e).2.1
def P1{l:List af}{a:af}(h:sX l)(q:∀x∈l,¬x.1=a.1):sX (l.take (gu l a.1)++[a]++l.drop (gu l a.1)):=by
 have g:∀c∈l.take (gu l a.1),bp c.1 a.1=true:=by
  intro c hc;obtain⟨i,p,e⟩:=azt hc;rw[azy]at p;have f:=Ks (l:=l) (s:=a.1) i (by omega);rw[bJ _ (by omega)]at f;rw[<-e,azC];exact SI f (q _ (List.getElem_mem _))
 have m:∀c∈l.drop (gu l a.1),bp a.1 c.1=true:=by
  intro c hc;obtain⟨i,p,e⟩:=azt hc;rw[azA]at p;have f:=Rl (l:=l) (s:=a.1) (by omega);rw[bJ _ (by omega)]at f;rw[azK]at e;rw[<-e];by_cases o:i=0;subst o;exact f;have:=List.pairwise_iff_getElem.1 h (gu l a.1) (gu l a.1+i) (by omega) (by omega) (by omega);exact k9.trans _ _ _ f this
 unfold sX at*
 rw[azr,azr];refine⟨⟨h.sublist (List.take_sublist _ _),azo _ _,fun x d b j=> ?_⟩,h.sublist (List.drop_sublist _ _),fun x d b j=> ?_⟩;rw[E_.1 j];exact g x d;have:=m b j;rcases M_.1 d with d|d;exact k9.trans _ _ _ (g x d) this;rw[E_.1 d];exact this
def O0{l:List af}{a x:af}(h:x∈gy l a):x∈l\/x=a:=by
 unfold gy at h;split at h;exact azj h;rcases M_.1 h with h|h;rcases M_.1 h with h|h;exact .inl (azQ h);exact .inr (E_.1 h);exact .inl (azE h)
def Rk{g:aw}{a:af}{by_:List ByteArray}(h:eB g by_=true)(o:bh a=true)(hk:keyOf a by_=g.2.1):eB (ij g a) by_=true:=by
 rw[gk]at h|-;obtain⟨p,q,r,s,u,h6,h7⟩:=h;refine⟨p,q,r,s,?_,fun x j=> ?_,?_⟩;show 0<(gy g.2.2.2.2 a).length;unfold gy;split;rw[azm];exact u;simp only[lk,L_];omega;rcases O0 j with j|rfl;exact h6 x j;exact⟨o,hk⟩;show sX (gy g.2.2.2.2 a);unfold gy;split;rename_i i l;have e:(g.2.2.2.2.set i a).map (·.1)=g.2.2.2.2.map (·.1):=iv (d:=ae.aa) (e_ (aR.1 l).2.1).symm;have h8:=(azw (f:=fun x:af=>x.1) (R:=fun a b=>bp a b=true)).2 h7;rw[<-e]at h8;exact(azw (f:=fun x:af=>x.1) (R:=fun a b=>bp a b=true)).1 h8;rename_i l;refine P1 h7 fun x j=> ?_;obtain⟨i,m,rfl⟩:=iX ae.aa j;have:=gB.1 l i m;simpa using this
def Gt{l:List ag}:cZ l=true↔l.length<=4/\(∀x∈l,eA x=true)/\l.Pairwise (fun a b=>ly a.1 b.1=true):=by
 unfold cZ
 rw[<-DJ (r:=fun a b:ag=>ly a.1 b.1=true) (d:=ak.aa) (fun a b c f g=>by
  rw[Rb,b_]at f g|-;exact List.lt_trans f g),jI]
 simp only[eH,b_,cX (l:=l) (d:=ak.aa) (p:=eA),bM,xF,K',beq_iff_eq];refine and_congr azT (and_congr azT ?_);exact⟨fun h i e=>h i (by omega) e,fun h i _ e=>h i e⟩
def QV{a:af}{by_:List ByteArray}(h:bh a=true):cZ (keyOf a by_)=true:=by
 have b:cZ a.1=true:=by unfold bh at h;simp only[eH]at h;exact h.1.1.1.1
 rw[Gt]at b|-;unfold keyOf;exact⟨azp (azN _ _) b.1,fun x d=>b.2.1 x ((azW.1 d).1),b.2.2.filter _⟩
def SU{c:aY}{a:af}{nn U:Int}(h:bh a=true)(d:0<=nn)(e:0<=U/\U<=99899):eB (na c a nn U) c.2.2.2.2.2=true:=
 gk.2 ⟨d,QV h,⟨e.1,by show U<=99999;omega⟩,.inl rfl,by show 0< [a].length;simp,fun x b=>by
  have:x=a:=E_.1 b;subst this;exact⟨h,rfl⟩,azo _ _⟩
def pJ{l:List aw}{key:List ag}{i:Nat}(h:eJ l key=some i):i<l.length/\(l.getD i al.aa).2.1=key:=
 ⟨(aR.1 h).1,by simpa using(aR.1 h).2.1⟩
def K7{l:List aw}{key:List ag}(h:eJ l key=none):∀g∈l,¬g.2.1=key:=by
 intro g a;obtain⟨i,b,rfl⟩:=iX al.aa a;have:=gB.1 h i b;simpa using this
def Ck{l:List aw}{i:Nat}{g:aw}{by_:List ByteArray}(h:dQ l by_=true)(m:eB g by_=true)(o:g.1=(l.getD i al.aa).1)(p:g.2.1=(l.getD i al.aa).2.1):dQ (l.set i g) by_=true:=by
 rw[cj]at h|-;refine⟨by rw[azm];exact h.1,fun x j=> ?_,?_,?_⟩;rcases azj j with j|rfl;exact h.2.1 x j;exact m;have e:(l.set i g).map (·.1)=l.map (·.1):=iv (d:=al.aa) o;have h8:=(azw (f:=fun x:aw=>x.1) (R:=fun a b=>a<b)).2 h.2.2.1;rw[<-e]at h8;exact(azw (f:=fun x:aw=>x.1) (R:=fun a b=>a<b)).1 h8;have e:(l.set i g).map (·.2.1)=l.map (·.2.1):=iv (d:=al.aa) p;have h8:=(azw (f:=fun x:aw=>x.2.1) (R:=fun a b=>¬a=b)).2 h.2.2.2;rw[<-e]at h8;exact(azw (f:=fun x:aw=>x.2.1) (R:=fun a b=>¬a=b)).1 h8
def M7{l:List aw}{g:aw}{by_:List ByteArray}(h:dQ l by_=true)(j:eB g by_=true)(hl:l.length<12)(m:∀x∈l,x.1<g.1)(o:∀x∈l,¬x.2.1=g.2.1):dQ (l++[g]) by_=true:=by
 rw[cj]at h|-;refine⟨by simp;omega,fun x d=> ?_,azr.2 ⟨h.2.2.1,azo _ _,fun a e b f=> ?_⟩,azr.2 ⟨h.2.2.2,azo _ _,fun a e b f=> ?_⟩⟩;rcases M_.1 d with d|d;exact h.2.1 x d;rw[E_.1 d];exact j;rw[E_.1 f];exact m a e;rw[E_.1 f];exact o a e
def MY{l:List aw}{i:Nat}{by_:List ByteArray}(h:dQ l by_=true):dQ (l.take i++l.drop (i+1)) by_=true:=by
 rw[cj]at h|-
 have a:(l.take i++l.drop (i+1)).Sublist l:=by
  rw[<-azH];exact azO _ _
 exact⟨azp a.length_le h.1,fun x b=>h.2.1 x (a.subset b),h.2.2.1.sublist a,h.2.2.2.sublist a⟩
def fQ{l:List aw}{n:Int}{i:Nat}(h:dW l n=some i):i<l.length/\(l.getD i al.aa).1=n:=
 ⟨(aR.1 h).1,by simpa using(aR.1 h).2.1⟩
def zN{l:List aw}{n:Int}(h:dW l n=none):∀g∈l,¬g.1=n:=by
 intro g a;obtain⟨i,b,rfl⟩:=iX al.aa a;have:=gB.1 h i b;simpa using this
def Pk{g:aw}{U:Int}{by_:List ByteArray}(h:eB g by_=true)(e:g.2.2.1<=U)(h2:U<=99899)(b:¬(fR g U).2.2.2.2=[]):eB (fR g U) by_=true:=by
 rw[gk]at h|-;obtain⟨q1,q2,q3,q4,q5,f,j⟩:=h;refine⟨q1,q2,q3,.inr ⟨e,by show U<=99999;omega⟩,List.length_pos_iff.2 b,fun a d=>f a (yB d),?_⟩;show sX (dh U g.2.2.2.2);unfold dh;exact j.filter _
def Co{l:List aw}{by_:List ByteArray}(h:dQ l by_=true){g:aw}{i:Nat}(b:g∈l)(hi:i<l.length)(he:g.1=(l.getD i al.aa).1):g=l.getD i al.aa:=by
 obtain⟨j,m,rfl⟩:=iX al.aa b;have f:=(cj.1 h).2.2.1;by_cases e:i=j;rw[e];have a:=jh (d:=al.aa).2 f;rcases Nat.lt_or_gt_of_ne e with h6|h6;have:=a j m i h6;omega;have:=a i hi j h6;omega
def qe{l m:List aF}(h:l.Perm m):l.Pairwise (fun a b=>¬a.2=b.2)↔m.Pairwise (fun a b=>¬a.2=b.2):=h.pairwise_iff (fun h e=>h e.symm)
section
variable{k:Nat}{c:aY}{ti U gr nn:Int}{st:List au}{m_:List bo}{Z l_:List af}{A:List aw}{V:List aF}{n_:List bq}{O:List aG}{T:List aA}{t:aG}
def Ow(h:cY c=true):1<=c.2.2.2.1/\c.2.2.2.1<=9/\1<=c.2.2.2.2.1/\c.2.2.2.2.1<=9:=by
 unfold cY aZ at h;simp only[eH,b_]at h;omega
def OX{g:aw}(hc:cY c=true)(h1:0<=g.2.2.1/\g.2.2.1<=99999)(h2:g.2.2.2.1= -1\/(g.2.2.1<=g.2.2.2.1/\g.2.2.2.1<=99999)):0<=ik c g:=by
 have:=Ow hc;unfold ik;split;rw[wrap64 (by omega) (by omega)];omega;rw[wrap64 (by omega) (by omega)];omega
theorem vC.drop{n:Nat}(h:vC c m_ Z l_):vC c m_ (Z.drop n) l_:=⟨h.len,h.sub,fun a o=>h.fee a (azE o),h.sai⟩
def JV{i:Nat}(h:Rt k c ti U st m_ Z gr A nn V l_ O T)(d:ti<4611686018427387904)(hi:i=3/\t.1=5\/i=4/\t.1=6)(b:O.getD i aq.aa=t)(j:t.2.1=0)(l:gr= -1):
 Rt k c (tick ti) U st m_ Z (i:Int) A nn V l_ (O.set i (t.1,1,t.2.2)) T:=by
 have a:i<5:=by omega
 have e:=h.tas i a;rw[b]at e
 have f:bN (t.1,(1:Int),t.2.2)=true:=by
  unfold bN;rcases hi with hi|hi<;>simp[hi.2]
 have m:5<=t.1:=by omega
 refine fW h d a h.sto h.sub (h.dee.up (by omega)) (fo.refl i st) (dx.refl i T) (g_ _) ?_ (QJ a h.tl h.loc b (cM (.inl j)) (cM (.inr (.inr (.inl m)))) l f) ?_;have o:bm (t.1,(1:Int),t.2.2)=bm t:=rfl;rw[o];rcases hi with hi|hi;have q:=(je hi.2).1 e;exact(je (t:=(t.1,(1:Int),t.2.2)) hi.2).2 ⟨⟨q.1.1,q.1.2.1,(show(0:Int)<=1 by decide),(show(1:Int)<=1 by decide),q.1.2.2.2.2⟩,q.2⟩;have q:=(fP hi.2).1 e;exact(fP (t:=(t.1,(1:Int),t.2.2)) hi.2).2 ⟨⟨q.1.1,q.1.2.1,(show(0:Int)<=1 by decide),(show(1:Int)<=1 by decide),q.1.2.2.2.2⟩,q.2⟩;rcases hi with hi|hi;exact h.grp.other (by omega);rw[hi.1]at b|-;rw[aL _ _ (by rw[h.tl];decide)];have g:=h.grp;rw[b]at g;exact⟨g.go,g.ho,g.tm,g.ap,g.td⟩
def OK{a:af}{n:Nat}(h:Rt k c ti U st m_ Z gr A nn V l_ O T)(b:ti<4611686018427387904)(d:O.getD 3 aq.aa=t)(e:t.1=0)(f:bh a=true):
 Rt k c (tick ti) U st m_ (Z.drop n) gr A nn V l_ (O.set 3 (vp a T.length)) (T++[Dv a U ti]):=by
 refine fW h b (by decide) h.sto h.sub.drop ((h.dee.up (by omega)).app ⟨xG ⟨by decide,by decide⟩ ⟨by decide,by decide⟩ (by decide) h.nw.1 h.ti0,by show ti<ti+1;omega,by show-1<ti+1;have:=h.ti0;omega,by show-1<ti+1;have:=h.ti0;omega⟩)
  (fo.refl _ st) (dx.app _ T _) (g_ _) ?_ (tB (by decide) h.tl h.loc d (by rw[cM (.inl rfl),cM (.inr (.inl e))]) rfl (fun _ _=>rfl) (by rw[eI (.inr rfl),eI (.inl (by omega))])) (h.grp.other (by decide))
 have g:bm (vp a (T.length:Int))=((T.length:Nat):Int):=rfl;rw[g,azs,rZ];refine(je (t:=vp a (T.length:Int)) rfl).2 ⟨⟨rfl,by show(0:Int)<=(T.length:Int);omega,g_ _,(show(0:Int)<=1 by decide),f,rfl,rfl,rfl,rfl,rfl⟩,by show(T.length:Int)<_;rw[lk,L_];omega,rfl,rfl,rfl,rfl,rfl⟩
def EA{s x:Bool}{code:Int}{got:List af}{b:List aw}{g n:Int}{e:List aF}{setit:Bool}(h:Rt k c ti U st m_ Z gr A nn V l_ O T)(p:ti<4611686018427387904)(r:O.getD 3 aq.aa=t)(u:t.1=5)(y:t.2.1=1)
 (z:nn<=g) (hc:code∈jn 7) (B:0<=n) (j:rq c U b g e (O.getD 4 aq.aa)):
 Rt k c (tick ti) U st m_ Z (-1) b g e l_ (O.set 3 zT) (T.set (bm t).toNat (eC s x (if setit=true then qn (T.getD (bm t).toNat ay.aa) n else T.getD (bm t).toNat ay.aa) U ti code got)):=by
 obtain⟨C,hn1,D,f,o,w⟩:=dM h (by decide) r (by omega);have q:=(je u).1 C
 refine fW h p (by decide) h.sto h.sub ((h.dee.up (by omega)).put ?_) (fo.refl _ st) (dx.put D) z (mO (by decide))
  (Kq (by decide) h.tl h.loc r (cM (.inr (.inr (.inl (by omega))))) (cM (.inl rfl)) (by unfold bN;simp[u,y]) (eI (.inl (by decide)))) ?_
 have v:=q.2.2.2.2.2.1;generalize T.getD (bm t).toNat ay.aa=d at*
 cases setit;exact qg f h.nw.1 o w h.ti0 (by rw[a_ (by decide),v];exact hc);refine qg (d:=qn d n) ?_ h.nw.1 o w h.ti0 (by show code∈jn d.1;rw[v];exact hc);obtain⟨op,task,a,l,i,m,cd,gt,nw,inv,lin,res⟩:=d;unfold qn;unfold eQ at f|-;simp only[eH,b_]at f|-;exact⟨⟨⟨⟨⟨⟨⟨⟨f.1.1.1.1.1.1.1.1,f.1.1.1.1.1.1.1.2⟩,f.1.1.1.1.1.1.2⟩,f.1.1.1.1.1.2⟩,B⟩,f.1.1.1.2⟩,f.1.1.2⟩,f.1.2⟩,f.2⟩;rw[getD_set_ne _ _ (by decide)];exact j
def Nb{i:Nat}{e:aG}{a:af}(b:rq c U A nn V e)(j:bh a=true)(hi:eJ A (keyOf a c.2.2.2.2.2)=some i):rq c U (A.set i (ij (A.getD i al.aa) a)) nn V e:=by
 obtain⟨l,m⟩:=pJ hi;have f:=bz (d:=al.aa) l;refine⟨Ck b.go (Rk ((cj.1 b.go).2.1 _ f) j m.symm) rfl rfl,b.ho,b.tm,b.ap,fun g h=> ?_⟩;rcases azj h with h|rfl;exact b.td g h;have:=b.td _ f;exact⟨this.1,this.2.1,this.2.2.1,this.2.2.2⟩
def TB{m:aG}{a:af}(l:cY c=true)(o:0<=U/\U<=99899)(p:0<=nn)(hn2:nn<4611686018427387904)(d:rq c U A nn V m)(r:bh a=true)(hi:eJ A (keyOf a c.2.2.2.2.2)=none)(s:A.length<12)(u:V.length<=15):
 rq c U (A++[na c a nn U]) (IntKind.i64.wrap (nn+1)) (tf V (ik c (na c a nn U),nn)) m:=by
 have j:=oY V (ik c (na c a nn U),nn);rw[wrap64 (by omega) (by omega)];have f:0<=ik c (na c a nn U):=OX l ⟨o.1,by show U<=99999;omega⟩ (.inl rfl);refine⟨M7 d.go (SU r p o) s (fun g h=>(d.td g h).2.2.1) (K7 hi),L5 d.ho ⟨f,p⟩ u,fun x b=> ?_,(qe j).2 ?_,fun g h=> ?_⟩;rcases M_.1 (j.mem_iff.1 b)with b|b;have:=d.tm x b;omega;rw[E_.1 b];show nn<nn+1;omega;refine azr.2 ⟨d.ap,azo _ _,fun x b y q=> ?_⟩;rw[E_.1 q];have:=d.tm x b;show¬x.2=nn;omega;rcases M_.1 h with h|h;obtain⟨v,w,h3,z⟩:=d.td g h;refine⟨v,w,by omega,z.imp (fun⟨x,b,e⟩=>⟨x,j.mem_iff.2 (azR _ b),e⟩) id⟩;rw[E_.1 h];refine⟨g_ _,by show(-1:Int)<=U;omega,by show nn<nn+1;omega,.inl ⟨_,j.mem_iff.2 (azP _ (E_.2 rfl)),rfl,rfl⟩⟩
def Na{s:Bool}(h:Rt k c ti U st m_ Z gr A nn V l_ O T)(a:ti<4611686018427387904)(j:nn<4611686018427387904)(y:V.length<=15):
 (hZ s k (c,ti,U,st,m_,Z,gr,A,nn,V,n_,l_,O,T)).1=true->bE k (hZ s k (c,ti,U,st,m_,Z,gr,A,nn,V,n_,l_,O,T)).2=true:=by
 generalize b:O.getD 3 aq.aa=t;unfold hZ gw;dsimp only;rw[b];by_cases l:t.1=0;rw[an l];by_cases u:Z.length=0;rw[an u];intro g;simp[bC]at g;rw[a_ u,aU];intro _;exact bF.2 (OK h a b l (h.sub.fee _ (bz (by omega))));rw[a_ l];have m:=h.tas 3 (by decide);rw[b]at m
 have f:t.1=5:=by
  have v:=gM (k:=k) (w:=(c,ti,U,st,m_,Z,gr,A,nn,V,n_,l_,O,T)) (i:=3) m;omega
 have q:=(je f).1 m;by_cases o:t.2.1=0;rw[an o];unfold iy;dsimp only;rw[b];by_cases p:gr= -1;rw[an p,aU];intro _;exact bF.2 (JV h a (.inl ⟨rfl,f⟩) b o p);rw[a_ p];intro g;simp[bC]at g;rw[a_ o];have r:t.2.1=1:=by omega
 have hnn0:=h.nn0;cases e:eJ A (keyOf t.2.2.1 c.2.2.2.2.2)with
 |none=>
  dsimp only;by_cases x:12<=A.length;rw[an x,aU];intro _;exact bF.2 (EA (setit:=false) (n:=0) h a b f r (g_ _) (by decide) (g_ _) h.grp);rw[a_ x,aU];intro _
  exact bF.2 (EA (setit:=true) (n:=nn) h a b f r (by rw[wrap64 (by omega) (by omega)];omega) (by decide) h.nn0
   (TB h.cf h.nw h.nn0 j h.grp q.1.2.2.2.2.1 e (by omega) y))
 |some i=>
  dsimp only;rw[aU];intro _;have v:=(gk.1 ((cj.1 h.grp.go).2.1 _ (bz (d:=al.aa) (pJ e).1))).1;exact bF.2 (EA (setit:=true) (n:=(A.getD i al.aa).1) h a b f r (g_ _) (by decide) v (Nb h.grp q.1.2.2.2.2.1 e))
def Ox(h:Rt k c ti U st m_ Z gr A nn V l_ O T)(d:ti<4611686018427387904)(l:O.getD 4 aq.aa=t)(m:t.1=0)(o:0<V.length):
 Rt k c (tick ti) U st m_ Z gr A nn (dS V).1 l_ (O.set 4 (qH (dS V).2.1.2 T.length)) (T++[u7 (dS V).2.1.2 U ti]):=by
 have b:=vG o;have p:(dS V).2.1∈V:=b.mem_iff.1 (azB ..);have a:=(qb.1 h.grp.ho).1 _ p;have f:=h.grp.tm _ p;have ht0:=h.ti0
 refine fW h d (by decide) h.sto h.sub ((h.dee.up (by omega)).app ⟨xG ⟨by decide,by decide⟩ ⟨by decide,by decide⟩ a.2 h.nw.1 h.ti0,by show ti<ti+1;omega,by show-1<ti+1;omega,by show-1<ti+1;omega⟩)
  (fo.refl _ st) (dx.app _ T _) (g_ _) ?_ (tB (by decide) h.tl h.loc l (by rw[cM (.inl rfl),cM (.inr (.inl m))]) rfl (fun _ _=>rfl) (by rw[eI (.inr rfl),eI (.inl (by omega))])) ?_
 have r:bm (qH (dS V).2.1.2 (T.length:Int))=((T.length:Nat):Int):=rfl;rw[r,azs,rZ];exact(fP (t:=qH (dS V).2.1.2 (T.length:Int)) rfl).2 ⟨⟨rfl,by show(0:Int)<=(T.length:Int);omega,g_ _,(show(0:Int)<=1 by decide),rfl,rfl,rfl,rfl,rfl,a.2⟩,by show(T.length:Int)<_;rw[lk,L_];omega,rfl,rfl,rfl,rfl,rfl,f⟩;rw[aL _ _ (by rw[h.tl];decide)];have g:=h.grp;rw[l]at g;refine⟨g.go,P6 g.ho o,fun x a=>g.tm x (b.mem_iff.1 (azq _ a)),((qe b).2 g.ap).tail,fun y q=> ?_⟩;obtain⟨s,u,v,j⟩:=g.td y q;refine⟨s,u,v,?_⟩;rcases j with⟨x,a,e⟩|j;rcases List.mem_cons.1 (b.mem_iff.2 a)with a|a;exact .inr ⟨rfl,by rw[<-e.1,a];rfl⟩;exact .inl ⟨x,a,e⟩;exact absurd (m.symm.trans j.1) (by decide)
def Ml{s x:Bool}{code:Int}{got:List af}{a:List aw}{b:List aF}(h:Rt k c ti U st m_ Z gr A nn V l_ O T)(e:ti<4611686018427387904)(g:O.getD 4 aq.aa=t)(j:t.1=6)(l:t.2.1=1)
 (hc:code∈jn 8) (d:rq c U a nn b zT):
 Rt k c (tick ti) U st m_ Z (-1) a nn b l_ (O.set 4 zT) (T.set (bm t).toNat (eC s x (T.getD (bm t).toNat ay.aa) U ti code got)):=by
 obtain⟨m,hn1,o,p,f,r⟩:=dM h (by decide) g (by omega);have q:=(fP j).1 m
 refine fW h e (by decide) h.sto h.sub ((h.dee.up (by omega)).put (qg p h.nw.1 f r h.ti0 (by rw[q.2.2.2.2.2.1];exact hc))) (fo.refl _ st) (dx.put o) (g_ _) (mO (by decide))
  (Kq (by decide) h.tl h.loc g (cM (.inr (.inr (.inl (by omega))))) (cM (.inl rfl)) (by unfold bN;simp[j,l]) (eI (.inl (by decide)))) ?_
 rw[aL _ _ (by rw[h.tl];decide)];exact d
def rU(V:List aF)(a:aG):Prop:=a.1=6->∀x∈V,¬x.2=a.2.2.2.2.2.2.2.1
def P0(G:cY c=true)(K:0<=U/\U<=99899)(b:rq c U A nn V t)(L:t.1=6)(M:t.2.2.2.2.2.2.2.1<nn)(H:0<=t.2.2.2.2.2.2.2.1)(I:rU V t)(N:V.length<=15):
 rq c U (dm A t.2.2.2.2.2.2.2.1 U) nn (sT c V (dm A t.2.2.2.2.2.2.2.1 U) t.2.2.2.2.2.2.2.1) zT:=by
 have I:=I L;generalize P:t.2.2.2.2.2.2.2.1=n at*
 have o:∀g∈dm A n U,(g∈A/\¬g.1=n)\/(∃v∈A,v.1=n/\g=fR v U):=by
  intro g h;unfold dm at h;cases e:dW A n with
  |none=>rw[e]at h;exact .inl ⟨h,zN e g h⟩
  |some i=>
   rw[e]at h;obtain⟨q,E⟩:=fQ e;dsimp only at h;have hu:∀x∈A,x.1=n->x=A.getD i al.aa:=fun x m ex=>Co b.go m q (by rw[ex,E]);by_cases z:(fR (A.getD i al.aa) U).2.2.2.2=[]
   rw[an z]at h;refine .inl ?_;have B:=(cj.1 b.go).2.2.1;have p:=jh (d:=al.aa).2 B;rcases M_.1 h with h|h;obtain⟨j,w,r⟩:=azt h;rw[azy]at w;rw[azC]at r;have:=p i q j (by omega);rw[bJ _ (show j<A.length by omega),r]at this;exact⟨azQ h,by omega⟩;obtain⟨j,w,r⟩:=azt h;rw[azA]at w;rw[azK]at r;have:=p (i+1+j) (by omega) i (by omega);rw[bJ _ (show i+1+j<A.length by omega),r]at this;exact⟨azE h,by omega⟩;rw[a_ z]at h;obtain⟨j,w,r⟩:=iX al.aa h;rw[azm]at w;by_cases C:i=j;subst C;rw[aL _ _ q]at r;exact .inr ⟨_,bz q,E,r.symm⟩;rw[getD_set_ne _ _ C]at r;subst r;refine .inl ⟨bz w,fun e3=>C ?_⟩;have p:=jh (d:=al.aa).2 (cj.1 b.go).2.2.1;rcases Nat.lt_trichotomy i j with h6|h6|h6;have:=p j w i h6;omega;exact h6;have:=p i q j h6;omega
 have u:dQ (dm A n U) c.2.2.2.2.2=true:=by
  unfold dm;cases e:dW A n with
  |none=>exact b.go
  |some i=>
   obtain⟨q,E⟩:=fQ e;have F:=bz (d:=al.aa) q;dsimp only;by_cases z:(fR (A.getD i al.aa) U).2.2.2.2=[]
   rw[an z];exact MY b.go;rw[a_ z];exact Ck b.go (Pk ((cj.1 b.go).2.1 _ F) (b.td _ F).1 K.2 z) rfl rfl
 have hold:∀g∈A,¬g.1=n->∃x∈V,x.2=g.1/\x.1=ik c g:=fun g h f=>(b.td g h).2.2.2.resolve_right fun s=>f (s.2.symm.trans P)
 have a:∀g∈dm A n U,g.2.2.1<=U/\g.2.2.2.1<=U/\g.1<nn:=by
  intro g h;rcases o g h with⟨l,s⟩|⟨v,l,s,rfl⟩;exact⟨(b.td g l).1,(b.td g l).2.1,(b.td g l).2.2.1⟩;exact⟨(b.td v l).1,g_ _,(b.td v l).2.2.1⟩
 unfold sT;cases e:dW (dm A n U) n with
 |none=>
  refine⟨u,b.ho,b.tm,b.ap,fun g h=> ?_⟩;refine⟨(a g h).1,(a g h).2.1,(a g h).2.2,.inl ?_⟩;have f:=zN e g h;rcases o g h with⟨l,s⟩|⟨v,l,s,rfl⟩;exact hold g l f;exact absurd s f
 |some i=>
  obtain⟨q,E⟩:=fQ e;have F:=bz (d:=al.aa) q;dsimp only;have B:=oY V (ik c ((dm A n U).getD i al.aa),n);have D:=gk.1 ((cj.1 u).2.1 _ F);refine⟨u,L5 b.ho ⟨OX G D.2.2.1 D.2.2.2.1,H⟩ N,fun x m=> ?_,(qe B).2 ?_,fun g h=> ?_⟩;rcases M_.1 (B.mem_iff.1 m)with m|m;exact b.tm x m;rw[E_.1 m];exact M;refine azr.2 ⟨b.ap,azo _ _,fun x m y J=> ?_⟩;rw[E_.1 J];exact I x m;refine⟨(a g h).1,(a g h).2.1,(a g h).2.2,.inl ?_⟩;by_cases f:g.1=n;refine⟨_,B.mem_iff.2 (azP _ (E_.2 rfl)),f.symm,?_⟩;rw[Co u h q (by rw[f,E])];rcases o g h with⟨l,s⟩|⟨v,l,s,rfl⟩;obtain⟨x,m,C⟩:=hold g l f;exact⟨x,B.mem_iff.2 (azR _ m),C⟩;exact absurd s f
def LC{s:Bool}(h:Rt k c ti U st m_ Z gr A nn V l_ O T)(a:ti<4611686018427387904)(v:rU V (O.getD 4 aq.aa))(y:(O.getD 4 aq.aa).1=6->V.length<=15):
 (fq s k (c,ti,U,st,m_,Z,gr,A,nn,V,n_,l_,O,T)).1=true->bE k (fq s k (c,ti,U,st,m_,Z,gr,A,nn,V,n_,l_,O,T)).2=true:=by
 generalize e:O.getD 4 aq.aa=t at v y;unfold fq eX;dsimp only;rw[e];by_cases o:t.1=0;rw[an o];by_cases b:pz V U=true;rw[an b,aU];intro _;have B:0<V.length:=by unfold pz at b;simp only[eH,b_]at b;exact b.1
 exact bF.2 (Ox h a e o B);rw[a_ b];intro m;simp[bC]at m;rw[a_ o];have b:=h.tas 4 (by decide);rw[e]at b
 have l:t.1=6:=by
  have h1:=gM (k:=k) (w:=(c,ti,U,st,m_,Z,gr,A,nn,V,n_,l_,O,T)) (i:=4) b;omega
 have q:=(fP l).1 b;have f:=h.grp;rw[e]at f;by_cases r:t.2.1=0;rw[an r];unfold iy;dsimp only;rw[e];by_cases j:gr= -1;rw[an j,aU];intro _;exact bF.2 (JV h a (.inr ⟨rfl,l⟩) e r j);rw[a_ j];intro m;simp[bC]at m;rw[a_ r];have z:t.2.1=1:=by omega
 by_cases hk:kf A t.2.2.2.2.2.2.2.1=true;rw[an hk,aU];intro _;exact bF.2 (Ml h a e l z (by decide) (P0 h.cf h.nw f l q.2.2.2.2.2.2.2 q.1.2.2.2.2.2.2.2.2.2 v (y l)));rw[a_ hk,aU];intro _;refine bF.2 (Ml h a e l z (by decide) ⟨f.go,f.ho,f.tm,f.ap,fun g u=> ?_⟩);obtain⟨C,D,E,h6⟩:=f.td g u;refine⟨C,D,E,.inl (h6.resolve_right fun h7=>hk ?_)⟩;unfold kf;obtain⟨i,F,_⟩:=tU (d:=al.aa) (p:=fun x:aw=>decide (x.1=t.2.2.2.2.2.2.2.1)) u (by simpa using h7.2.symm);have:dW A t.2.2.2.2.2.2.2.1=some i:=F;rw[this];rfl
end
def oZ(w:ah):List au:=w.2.2.2.1
def No(w:ah):List aF:=w.2.2.2.2.2.2.2.2.2.1
def nnW(w:ah):Int:=w.2.2.2.2.2.2.2.2.1
def Qj{s:Bool}{k:Nat}{w:ah}{i:Nat}(h:bE k w=true)(hi:i<5)(a:w.2.1<4611686018427387904)(j:∀p∈oZ w,p.2.1<4611686018427387904)
 (l:i=3->nnW w<4611686018427387904/\(No w).length<=15) (m:i=4->rU (No w) ((cA w).getD 4 aq.aa)/\(((cA w).getD 4 aq.aa).1=6->(No w).length<=15)):
 (lZ s k w i).1=true->bE k (lZ s k w i).2=true:=by
 obtain⟨c,ti,U,st,m_,Z,gr,A,nn,V,n_,l_,O,T⟩:=w;have R:=bF.1 h;generalize b:O.getD i aq.aa=t;have o:=R.tas i hi;rw[b]at o;have ho:=gM (k:=k) (w:=(c,ti,U,st,m_,Z,gr,A,nn,V,n_,l_,O,T)) (i:=i) o;unfold lZ;dsimp only[cA];rw[b];by_cases e:t.1=1;rw[an e];exact Pe R a j (by omega) b e;rw[a_ e];by_cases q:t.1=2\/t.1=3;rw[an q];unfold kY vd;dsimp only;rw[b];by_cases f:t.1=2;rw[an f];exact OA R a (by omega) b f;rw[a_ f];exact MG R a (by omega) b (by omega);rw[a_ q];by_cases g:t.1=4;rw[an g];exact K3 R a j (by omega) b g;rw[a_ g];by_cases d:i=3;rw[an d];exact Na R a (l d).1 (l d).2;rw[a_ d];by_cases h6:i=4;rw[an h6];exact LC R a (m h6).1 (m h6).2;rw[a_ h6];intro r;cases r
section
variable{k:Nat}{c:aY}{ti U gr nn:Int}{st:List au}{m_:List bo}{Z l_:List af}{A:List aw}{V:List aF}{n_:List bq}{O:List aG}{T:List aA}{t:aG}
def vJ{i:Nat}{t':aG}{op:Int}(h:Rt k c ti U st m_ Z gr A nn V l_ O T)(a:ti<4611686018427387904)(hi:i<3)(f:O.getD i aq.aa=t)(g:t.1=0)(e:t'.2.1=0)
 (b:1<=op/\op<=9) (j:0<=t'.2.2.2.2.2.2.2.1)
 (l:bS k c.1 st nn ((T.length:Int)+1) (pR t' T.length) (op,(i:Int),t'.2.2.1,t'.2.2.2.1,0,t'.2.2.2.2.2.2.2.1,0,[],U,ti,-1,-1) (i:Int)=true):
 Rt k c (tick ti) U st m_ Z gr A nn V l_ (O.set i (pR t' T.length)) (T++[(op,(i:Int),t'.2.2.1,t'.2.2.2.1,0,t'.2.2.2.2.2.2.2.1,0,[],U,ti,-1,-1)]):=by
 have d:=h.ti0
 refine fW h a (by omega) h.sto h.sub ((h.dee.up (by omega)).app ⟨xG b (by omega) j h.nw.1 d,by show ti<ti+1;omega,by show-1<ti+1;omega,by show-1<ti+1;omega⟩)
  (fo.refl _ st) (dx.app _ T _) (g_ _) ?_ (tB (by omega) h.tl h.loc f (by rw[cM (t:=pR t' T.length) (.inl e),cM (.inr (.inl g))]) rfl (fun _ _=>rfl) (by rw[eI (t:=pR t' T.length) (.inr e),eI (.inl (by omega))])) (h.grp.other (by omega))
 have m:bm (pR t' (T.length:Int))=((T.length:Nat):Int):=rfl;rw[m,azs,rZ,lk,L_];exact l
def Kf{d:aA}{a:List bo}(h:Rt k c ti U st m_ Z gr A nn V l_ O T)(f:ti<4611686018427387904)(o:eQ k d=true/\d.2.2.2.2.2.2.2.2.2.1<ti+1/\d.2.2.2.2.2.2.2.2.2.2.1<ti+1/\d.2.2.2.2.2.2.2.2.2.2.2<ti+1)
 (hs:vC c a Z l_):Rt k c (tick ti) U st a Z gr A nn V l_ O (T++[d]):=by
 have g:=h.ti0;have e:=ow g f;refine⟨h.cf,by omega,h.nn0,h.nw,h.sto,hs,by rw[e];exact(h.dee.up (by omega)).app o,h.tl,fun j m=> ?_,h.loc,h.grp⟩;have b:=h.tas j m;by_cases l:(O.getD j aq.aa).1=0;exact BX b l;obtain⟨b1,b2,b3⟩:=xY b l;rw[jg _ (by omega)];exact zV b (by rw[lk];omega) (g_ _) (fun _ _=>rfl) (fun _ h=>h)
def Tg{a:Int}(h:Rt k c ti U st m_ Z gr A nn V l_ O T)(b:ti<4611686018427387904)(h1:U<=a)(h2:a<=99899):
 Rt k c (tick ti) a st m_ Z gr A nn V l_ O T:=by
 have d:=h.ti0;have e:=ow d b;have hw:=h.nw;refine⟨h.cf,by omega,h.nn0,by omega,h.sto,h.sub,by rw[e];exact h.dee.up (by omega),h.tl,h.tas,h.loc,h.grp.go,h.grp.ho,h.grp.tm,h.grp.ap,fun g f=> ?_⟩;have:=h.grp.td g f;exact⟨by omega,by omega,this.2.2.1,this.2.2.2⟩
end
def Lv{k:Nat}{c1 nn m U ti:Int}{st:List au}{i:Nat}{a:af}{l:List ag}(hi:i<3)(b:0<=m)(hc:0<c1):
 (cm a=true->bS k c1 st nn (m+1) (pR (qo a) m) (1,(i:Int),a,[],0,0,0,[],U,ti,-1,-1) (i:Int)=true)/\
 (cZ l=true->bS k c1 st nn (m+1) (pR (rY l) m) (3,(i:Int),vY,l,0,0,0,[],U,ti,-1,-1) (i:Int)=true)/\
 bS k c1 st nn (m+1) (pR oR m) (4,(i:Int),vY,[],0,0,0,[],U,ti,-1,-1) (i:Int)=true/\
 bS k c1 st nn (m+1) (pR pd m) (6,(i:Int),vY,[],0,0,0,[],U,ti,-1,-1) (i:Int)=true:=by
 have g:lh []=true:=by unfold lh;simp[kz]
 have h:bI []=true:=by unfold bI;simp[kz]
 refine⟨fun d=>(gV (t:=pR (qo a) m) rfl).2 ?_,fun e=>(ny (t:=pR (rY l) m) rfl).2 ?_,(fG (t:=pR oR m) rfl).2 ?_,(gC (t:=pR pd m) rfl).2 ?_⟩;rw[a_ (by show¬(0:Int)=2;decide)];exact⟨⟨by omega,by omega,b,g_ _,by show(0:Int)<=2;decide,fc d,rfl,rfl,rfl,rfl,rfl⟩,by show m<m+1;omega,rfl,rfl,by show(¬(-1:Int)= -1↔(0:Int)=2);decide,rfl,rfl,d⟩;exact⟨⟨by omega,by omega,b,g_ _,by show(0:Int)<=1;decide,rfl,e,rfl,rfl,rfl,rfl⟩,by show m<m+1;omega,rfl,rfl,rfl,rfl,rfl⟩;rw[a_ (by show¬(0:Int)=2;decide)];exact⟨⟨by omega,by omega,b,g_ _,by show(0:Int)<=2;decide,rfl,rfl,g,rfl,h,rfl⟩,by show m<m+1;omega,rfl,rfl,rfl,rfl,rl.2 ⟨fun p f=>by simp[pR,oR]at f,fun _=>by simp[pR,oR]⟩,g_ _,by show(0:Int)<=2;decide,hc⟩;exact⟨⟨by omega,by omega,b,g_ _,by show(0:Int)<=1;decide,rfl,rfl,g_ _,by show(0:Int)<=2;decide,rfl,rfl,rfl⟩,by show m<m+1;omega,rfl,rfl,rfl,rfl,hc⟩
def LJ{k:Nat}{w:ah}{i:Int}{t':aG}{op:Int}(h:ET k w i=true)(b:w.2.1<4611686018427387904)
 (f:(∃a,cm a=true/\t'=qo a/\op=1)\/(∃l,cZ l=true/\t'=rY l/\op=3)\/(t'=oR/\op=4)\/(t'=pd/\op=6)):bE k (gf w i t' op)=true:=by
 obtain⟨c,ti,U,st,m_,Z,gr,A,nn,V,n_,l_,O,T⟩:=w;unfold ET cT xb aZ at h;simp only[eH,b_]at h;obtain⟨g,⟨h2,h3⟩,h4,d⟩:=h;have R:=bF.1 g;obtain⟨j,rfl⟩:∃j:Nat,i=(j:Int):=⟨i.toNat,by omega⟩
 rw[azs]at d;have h0:=fI R.sto.ok;have e:=R.sto.len;have hc:0<c.1:=by omega
 obtain⟨o,p,q,r⟩:=Lv (k:=k) (c1:=c.1) (nn:=nn) (m:=(T.length:Int)) (U:=U) (ti:=ti) (st:=st) (i:=j) (a:=t'.2.2.1) (l:=t'.2.2.2.1) (by omega) (by omega) hc;refine bF.2 ?_;rcases f with⟨a,s,rfl,rfl⟩|⟨l,e,rfl,rfl⟩|⟨rfl,rfl⟩|⟨rfl,rfl⟩;exact vJ (t':=qo a) (op:=1) R b (by omega) rfl d rfl (by decide) (g_ _) (o s);exact vJ (t':=rY l) (op:=3) R b (by omega) rfl d rfl (by decide) (g_ _) (p e);exact vJ (t':=oR) (op:=4) R b (by omega) rfl d rfl (by decide) (g_ _) q;exact vJ (t':=pd) (op:=6) R b (by omega) rfl d rfl (by decide) (g_ _) r
def Hy{k:Nat}{w:ah}{i:Int}{a:af}(h:ET k w i=true)(b:w.2.1<4611686018427387904):bE k (refused w i a)=true:=by
 obtain⟨c,ti,U,st,m_,Z,gr,A,nn,V,n_,l_,O,T⟩:=w;unfold ET cT xb aZ at h;simp only[eH,b_]at h;obtain⟨d,⟨h2,h3⟩,h4,h5⟩:=h;have R:=bF.1 d;exact bF.2 (Kf R b ⟨sg (op:=1) (j:=0) (n:=0) (code:=4) ⟨by decide,by decide⟩ (by omega) (by decide) (by decide) R.nw.1 R.ti0 (by decide),by show ti<ti+1;omega,by show ti<ti+1;omega,by show ti<ti+1;omega⟩ R.sub)
theorem ou{e:Ty}{B:Nat}:∀ {l:List e.den},(∀x∈l,ai e x<=B)->ai (.sl e) l<=(B+1)*l.length
 | [],_=>by rw[bd];exact azI _
 |x::l,h=>by
  have h1:=h x (azB ..);have h2:=ou (l:=l) fun y a=>h y (azq _ a);rw[bW,azz,Nat.mul_add];omega
def gS:Nat->Nat
 |0=>0
 |s+1=>gS s+(52-s)
def Yt(s:Nat)(h:s<=53):gS s<=1378:=by
 have:∀s,s<54->gS s<=1378:=by decide
 exact this s (by omega)
def dZ(t:aG):Nat:=if t.1=0 then 0 else if t.2.1=0 then 1 else 2
def j8(l:List aw):Nat:=(l.flatMap fun g=>g.2.2.2.2).length
structure Ex(n:Nat)(c:aY)(ti:Int)(st:List au)(Z:List af)(A:List aw)(nn:Int)(V:List aF)(n_:List bq)(l_:List af)(O:List aG)(T:List aA):Prop where
 ti:ti<=n
 nn:nn<=n
 ver:∀p∈st,p.2.1<=n
 hp:V.length+(if(O.getD 4 aq.aa).1=6 then 1 else 0)<=A.length
 fr:rU V (O.getD 4 aq.aa)
 fe:ai (.sl ae) Z<=100*n
 sa:ai (.sl ae) l_<=100*n
 pot:3*j8 A+3*n_.length+dZ (O.getD 3 aq.aa)+dZ (O.getD 4 aq.aa)<=n
 sk:ai (.sl cw) n_<=200*n_.length+97*gS n_.length
 de:ai (.sl ay) T<=3000*n+97*gS n_.length
 tg:∀i,i<5->(O.getD i aq.aa).2.2.2.2.2.2.1.length<=8*(O.getD i aq.aa).2.2.2.2.2.1.length
section
variable{k:Nat}(hk:9223372036854775808<=k)
include hk
def O2{x:ag}(h:eA x=true):ai ak x<=20:=by
 rw[lx hk];unfold eA eP iE at h;simp only[eH,b_]at h;omega
def uU{l:List ag}(h:cZ l=true):ai (.sl ak) l<=84:=by
 have a:=Gt.1 h;have h2:=ou (e:=ak) (B:=20) (l:=l) fun x b=>O2 hk (a.2.1 x b);have:21*l.length<=21*4:=Nat.mul_le_mul_left _ a.1;omega
def jN{a:af}(h:bh a=true):ai ae a<=96:=by
 rw[bj hk];unfold bh iE at h;simp only[eH,b_]at h;have:=uU hk h.1.1.1.1;omega
def iK{l:List af}(h:∀a∈l,bh a=true):ai (.sl ae) l<=97*l.length:=
 ou (e:=ae) (B:=96) fun a b=>jN hk (h a b)
theorem CF:∀ {l:List aP},(∀c∈l,dL k c=true)->ai (.sl ax) l<=98*(l.flatMap jv).length
 | [],_=>by rw[bd];exact azI _
 |c::l,h=>by
  have b:=mo.1 (h c (azB ..));have h2:=CF (l:=l) fun y d=>h y (azq _ d);have h3:=iK hk fun a e=>(b.1 a e).1;rw[bW,df hk,azx,lk];simp only[jv];have:=b.2.1;omega
def Gz{st:List au}(h:dp k st=true):ai (.sl aj) st<=st.length+98*bu st:=by
 have a:∀p∈st,∀c∈p.2.2,dL k c=true:=by
  intro p b c hc;obtain⟨i,e,rfl⟩:=iX aj.aa b;exact((da.1 ((bQ.1 h).1 i e)).1 c hc).1
 unfold bu bO;clear h
 induction st with
 |nil=>rw[bd];exact azI _
 |cons p st f=>
  have h2:=f fun q d=>a q (azq _ d);have h3:=CF hk (a p (azB ..));have h4:(aS p).length=(p.2.2.flatMap jv).length:=rfl;rw[bW,dj hk,azx,lk,azz];omega
def Mx{l:List aw}{by_:List ByteArray}(h:∀g∈l,eB g by_=true):ai (.sl al) l<=85*l.length+97*j8 l:=by
 unfold j8
 induction l with
 |nil=>rw[bd];exact azI _
 |cons g l f=>
  have h2:=f fun q d=>h q (azq _ d);have b:=gk.1 (h g (azB ..));have h4:=uU hk b.2.1;have h5:=iK hk fun a e=>(b.2.2.2.2.2.1 a e).1;rw[bW,eK hk,azx,lk,azz];omega
def QQ{l:List bo}(h:∀s∈l,fp s=true):ai (.sl aW) l<=292*l.length:=
 ou (e:=aW) (B:=291) fun s b=>by
  have a:=h s b;unfold fp bI at a;simp only[eH,b_]at a;have h2:=iK hk (cX.1 a.2.2);rw[nj hk];omega
theorem Q4(l:List Int):ai (.sl (.int .i64)) l=l.length:=by
 induction l with
 |nil=>exact bd
 |cons a l b=>
  have:ai (.sl (.int .i64)) (a::l)=1+ai (.int .i64) a+ai (.sl (.int .i64)) l:=bW (e:= .int .i64) a l;rw[this,b,azz];simp only[ai];omega
def nX{c:aY}(h:cY c=true):ai db c<=18/\1<=c.1/\c.1<=3/\c.2.1<=8/\c.2.2.1<=2:=by
 unfold cY qF aZ at h;simp only[eH,b_]at h
 have h1:=ou (e:= .str) (B:=8) (l:=c.2.2.2.2.2) fun x a=>by
  have:=cX.1 h.2.1 x a;unfold eP at this;simp only[eH,b_]at this;show x.size<=8;omega
 rw[ng hk];have:=h.2.2.1;omega
variable{c:aY}{ti U gr nn:Int}{st:List au}{m_:List bo}{Z l_:List af}{A:List aw}{V:List aF}{n_:List bq}{O:List aG}{T:List aA}{n:Nat}
def Q2{t:aG}{c1 nn m i:Int}{d:aA}(h:bS k c1 st nn m t d i=true)(hl:t.2.2.2.2.2.2.1.length<=8*t.2.2.2.2.2.1.length):ai aq t<=2600:=by
 have e:cW t i=true:=by unfold bS at h;simp only[eH]at h;exact h.1
 rw[dy hk,Q4 hk];have b:ai ae bU=0:=by rw[bj hk];unfold bU;rw[bd];rfl
 have el:ai (.sl ak) ([]:List ag)=0:=bd;have a:ai (.sl ae) ([]:List af)=0:=bd;by_cases f:t.1=1;have q:=((gV f).1 h).1;have:=jN hk q.2.2.2.2.2.1;rw[q.2.2.2.2.2.2.1,q.2.2.2.2.2.2.2.2.1,q.2.2.2.2.2.2.2.2.2.1,el,a];simp only[azv];omega;by_cases g:t.1=2;have q:=((ny g).1 h).1;have:=uU hk q.2.2.2.2.2.2.1;rw[q.2.2.2.2.2.1,q.2.2.2.2.2.2.2.2.1,q.2.2.2.2.2.2.2.2.2.1,b,a];simp only[azv];omega;by_cases j:t.1=3;have q0:=(fG j).1 h;have q:=q0.1;have l:=q.2.2.2.2.2.2.2.2.2.1;unfold bI at l;have:=iK hk (cX.1 l)
 have hI:t.2.2.2.2.1<=3:=by
  have:=q0.2.2.2.2.2.2.2;split at this<;>omega
 have hI2:=q.2.2.2.2.2.2.2.2.1;rw[q.2.2.2.2.2.1,q.2.2.2.2.2.2.1,b,el];omega;by_cases o:t.1=4;have q:=((gC o).1 h).1;rw[q.2.2.2.2.2.1,q.2.2.2.2.2.2.1,q.2.2.2.2.2.2.2.2.2.1,q.2.2.2.2.2.2.2.2.2.2.1,b,el,a];simp only[azv];omega;by_cases p:t.1=5;have q:=((je p).1 h).1;have:=jN hk q.2.2.2.2.1;rw[q.2.2.2.2.2.1,q.2.2.2.2.2.2.2.1,q.2.2.2.2.2.2.2.2.1,el,a];simp only[azv];omega;by_cases h6:t.1=6;have q:=((fP h6).1 h).1;rw[q.2.2.2.2.1,q.2.2.2.2.2.1,q.2.2.2.2.2.2.2.1,q.2.2.2.2.2.2.2.2.1,b,el,a];simp only[azv];omega
 have r:t=zT:=by
  unfold cW at e;simp only[f,g,j,o,p,h6,decide_false,azX,Bool.or_false,eH,b_]at e;exact e.2.2
 rw[r];unfold zT;rw[b,el,a];simp only[azv];omega
def Nl(h:Rt k c ti U st m_ Z gr A nn V l_ O T)(a:Ex n c ti st Z A nn V n_ l_ O T)(hn:n<=160):ai aD (c,ti,U,st,m_,Z,gr,A,nn,V,n_,l_,O,T)<=1000000:=by
 obtain⟨c0,c1,c2,c3,c4⟩:=nX hk h.cf;have a1:=Gz hk h.sto.ok;have a2:=h.sto.cap;have a3:=(bQ.1 h.sto.ok).2;have a4:=QQ hk h.sub.sub;have a5:=h.sub.len;have a6:=Mx hk (cj.1 h.grp.go).2.1;have a7:=(cj.1 h.grp.go).1;have a8:=a.pot;have a9:=a.hp;have b1:=Yt n_.length (by omega);have b2:=a.sk;have b3:=a.de;have b4:=a.fe;have b5:=a.sa
 have f:ai (.sl aq) O<=2601*O.length:=ou (e:=aq) (B:=2600) fun t d=>by
  obtain⟨i,b,rfl⟩:=iX aq.aa d;rw[h.tl]at b;exact Q2 hk (h.tas i b) (a.tg i b)
 have b7:ai (.sl aE) V<=1*V.length:=ou (e:=aE) (B:=0) fun t d=>by rw[Pb hk];exact azn _
 rw[h.tl]at f;rw[iI hk];dsimp only;omega
end
def P5(l m:List aw):j8 (l++m)=j8 l+j8 m:=by unfold j8;rw[List.flatMap_append,lk]
def Br{l:List aw}{i:Nat}{g:aw}(hi:i<l.length):j8 (l.set i g)+(l.getD i al.aa).2.2.2.2.length=j8 l+g.2.2.2.2.length:=Aj (f:=fun g:aw=>g.2.2.2.2) hi
def SM{l:List aw}{i:Nat}(hi:i<l.length):(l.getD i al.aa).2.2.2.2.length<=j8 l:=by
 have:=Br (l:=l) (i:=i) (g:=(0,[],0,0,[])) hi;simp only[azv]at this;omega
def QM(l:List aw)(i:Nat):j8 (l.take i++l.drop (i+1))<=j8 l:=by
 have b:(l.take i++l.drop (i+1)).Sublist l:=by
  rw[<-azH];exact azO _ _
 unfold j8;generalize l.take i++l.drop (i+1)=m at b
 induction b with
 |slnil=>exact azn _
 |cons a h d=>rw[azx,lk];omega
 |cons_cons a h d=>rw[azx,azx,lk,lk];omega
section
variable{k:Nat}(hk:9223372036854775808<=k)
include hk
def mW{x:Bool}{d:aA}{U ti code:Int}{got:List af}:ai ay (eC true x d U ti code got)<=ai ay d+ai (.sl ae) got:=by
 unfold eC oc yZ nf;rw[an (by rfl)];split;rw[cU hk,cU hk];dsimp only;omega;rw[cU hk,cU hk];dsimp only;omega
theorem kD{l:List aA}{n:Nat}{d':aA}{B:Nat}(a:n<l.length)(h:ai ay d'<=ai ay (l.getD n ay.aa)+B):ai (.sl ay) (l.set n d')<=ai (.sl ay) l+B:=by
 have:=mf (e:=ay) l n d' a;have e:l.getD n (Ty.aa ay)=l.getD n ay.aa:=rfl;omega
theorem oy{l:List aA}{d:aA}{B:Nat}(h:ai ay d+1<=B):ai (.sl ay) (l++[d])<=ai (.sl ay) l+B:=by
 rw[gZ,bW,bd];omega
def jQ:ai ae bU=0:=by rw[bj hk];unfold bU;rw[bd];rfl
variable{c:aY}{ti U gr nn:Int}{st:List au}{m_:List bo}{Z l_:List af}{A:List aw}{V:List aF}{n_:List bq}{O:List aG}{T:List aA}{n i:Nat}{t:aG}
omit hk in
theorem Ex.gW{t':aG}{u:List au}{o q:List af}{a:List aA}(h:Ex n c ti st Z A nn V n_ l_ O T)(B:0<=ti)(hn:n<=1000)(tl:O.length=5)(hi:i<3)
 (C:∀p∈u,p.2.1<=(n:Int)+1) (hf:ai (.sl ae) o<=ai (.sl ae) Z+100) (hs:ai (.sl ae) q<=ai (.sl ae) l_+100) (hd:ai (.sl ay) a<=ai (.sl ay) T+3000)
 (D:t'.2.2.2.2.2.2.1.length<=8*t'.2.2.2.2.2.1.length):Ex (n+1) c (tick ti) u o A nn V n_ q (O.set i t') a:=by
 have e:=ow B (by have:=h.ti;omega);have E:(O.set i t').getD 3 aq.aa=O.getD 3 aq.aa:=getD_set_ne _ _ (by omega);have v:(O.set i t').getD 4 aq.aa=O.getD 4 aq.aa:=getD_set_ne _ _ (by omega);have:=h.ti;have:=h.nn;have:=h.fe;have:=h.sa;have:=h.pot;have:=h.de;refine⟨by rw[e];omega,by omega,fun p y=>by have:=C p y;omega,by rw[v];exact h.hp,by rw[v];exact h.fr,by omega,by omega,by rw[E,v];omega,h.sk,by omega,fun j z=> ?_⟩;by_cases w:i=j;subst w;rw[aL _ _ (by omega)];exact D;rw[getD_set_ne _ _ w];exact h.tg j z
omit hk in
theorem Ex.alone{a:List aA}(h:Ex n c ti st Z A nn V n_ l_ O T)(q:0<=ti)(hn:n<=1000)(hd:ai (.sl ay) a<=ai (.sl ay) T+3000):
 Ex (n+1) c (tick ti) st Z A nn V n_ l_ O a:=by
 have e:=ow q (by have:=h.ti;omega);have:=h.ti;have:=h.nn;have:=h.fe;have:=h.sa;have:=h.pot;have:=h.de;exact⟨by rw[e];omega,by omega,fun p o=>by have:=h.ver p o;omega,h.hp,h.fr,by omega,by omega,by omega,h.sk,by omega,h.tg⟩
omit hk in
theorem Ex.stay(h:Ex n c ti st Z A nn V n_ l_ O T):Ex (n+1) c ti st Z A nn V n_ l_ O T:=by
 have:=h.ti;have:=h.nn;have:=h.fe;have:=h.sa;have:=h.pot;have:=h.de;exact⟨by omega,by omega,fun p a=>by have:=h.ver p a;omega,h.hp,h.fr,by omega,by omega,by omega,h.sk,by omega,h.tg⟩
omit hk in
theorem jU{st:List au}{j:Nat}{x:Int}{B:Int}(h:∀p∈st,p.2.1<=B):∀p∈bL st j x,p.2.1<=B:=by
 intro p a;unfold bL at a;by_cases b:j<st.length;rcases azj a with a|rfl;exact h p a;exact h (st.getD j aj.aa) (bz b);rw[List.set_eq_of_length_le (by omega)]at a;exact h p a
omit hk in
theorem lp:zT.2.2.2.2.2.2.1.length<=8*zT.2.2.2.2.2.1.length:=by decide
def VO(h:Rt k c ti U st m_ Z gr A nn V l_ O T)(o:Ex n c ti st Z A nn V n_ l_ O T)(hn:n<=160)(hi:i<3)(x:O.getD i aq.aa=t)(H:t.1=1):
 (ia true k (c,ti,U,st,m_,Z,gr,A,nn,V,n_,l_,O,T) i).1=true->
 ∃u v m g y j a b,(ia true k (c,ti,U,st,m_,Z,gr,A,nn,V,n_,l_,O,T) i).2=(c,u,U,v,m,g,y,A,nn,V,n_,j,a,b)/\
  Ex (n+1) c u v g A nn V n_ j a b:=by
 have C:=fI h.sto.ok;obtain⟨G,g2⟩:=iG (k:=k) (s:=t.2.2.1.1) C;obtain⟨J,z,hb,B,hv1,hw⟩:=dM h (by omega) x (by omega);have I:=(gV H).1 J;have f:∀p∈st,p.2.1<=(n:Int)+1:=fun p r=>by have:=o.ver p r;omega
 have q:=o.tg i (by omega);rw[x]at q;unfold ia pA;dsimp only;rw[x];by_cases D:t.2.1=0;rw[an D];unfold ey;dsimp only;rw[x];by_cases w:(st.getD (bg k st t.2.2.1.1).toNat aj.aa).1= -1;rw[an w,aU];intro _;exact⟨_,_,_,_,_,_,_,_,rfl,o.gW h.ti0 (by omega) h.tl hi (jU f) (by omega) (by omega) (by omega) q⟩;rw[a_ w];intro B;simp[bC]at B;rw[a_ D];by_cases E:t.2.1=1;rw[an E];by_cases w:qZ k c st t.2.2.1=true;rw[an w,aU];intro _;exact⟨_,_,_,_,_,_,_,_,rfl,o.gW h.ti0 (by omega) h.tl hi (jU f) (by omega) (by omega) (kD hk z (azp (mW hk) (by rw[bd];omega))) lp⟩;rw[a_ w,aU];intro _;refine⟨_,_,_,_,_,_,_,_,rfl,o.gW h.ti0 (by omega) h.tl hi (fun p r=> ?_) (by omega) (by omega) (kD hk z ?_) q⟩;rw[vn C]at r;rcases azj r with r|rfl;exact f p r;have hv:=o.ver _ (bz (d:=aj.aa) G);have hv0:=(da.1 ((bQ.1 h.sto.ok).1 _ G)).2.2.2;rw[(Ak k _ _).1,wrap64 (by omega) (by omega)];omega;unfold pI;rw[cU hk,cU hk];dsimp only;omega;rw[a_ E,aU];intro _;have ha:=jN hk I.1.2.2.2.2.2.1
 have F:∀l:List af,ai (.sl ae) (l++[t.2.2.1])<=ai (.sl ae) l+100:=fun l=>by
  rw[gZ (e:=ae),bW (e:=ae),bd];omega
 refine⟨_,_,_,_,_,_,_,_,rfl,o.gW h.ti0 (by omega) h.tl hi (jU f) (F _) (F _) ?_ lp⟩
 have a1:ai (.sl ay) (T++[gK (oE i t.2.2.1) U ti ti ti])<=ai (.sl ay) T+200:=oy hk (by
  unfold gK oE;rw[cU hk];dsimp only;rw[bd,bd];omega)
 have a2:ai (.sl ay) ((T++[gK (oE i t.2.2.1) U ti ti ti]).set (bm t).toNat (nf (T.getD (bm t).toNat ay.aa) ti))<=ai (.sl ay) (T++[gK (oE i t.2.2.1) U ti ti ti])+0:=kD hk (by rw[lk];omega) (by
  rw[jg _ z];unfold nf;rw[cU hk,cU hk];exact azn _)
 omega
end
section
variable{k:Nat}(hk:9223372036854775808<=k)
include hk
variable{c:aY}{ti U gr nn:Int}{st:List au}{m_:List bo}{Z l_:List af}{A:List aw}{V:List aF}{n_:List bq}{O:List aG}{T:List aA}{n i:Nat}{t:aG}
def Vq(h:Rt k c ti U st m_ Z gr A nn V l_ O T)(q:Ex n c ti st Z A nn V n_ l_ O T)(hn:n<=160)(hi:i<3)(s:O.getD i aq.aa=t)(ho:t.1=2):
 (bC (lz true k (c,ti,U,st,m_,Z,gr,A,nn,V,n_,l_,O,T) i)).1=true->
 ∃m o j d u f a b,(bC (lz true k (c,ti,U,st,m_,Z,gr,A,nn,V,n_,l_,O,T) i)).2=(c,m,U,o,j,d,u,A,nn,V,n_,f,a,b)/\
  Ex (n+1) c m o d A nn V n_ f a b:=by
 have h0:=fI h.sto.ok;obtain⟨hr,x,hb,v,hv1,hw⟩:=dM h (by omega) s (by omega);have g:∀p∈st,p.2.1<=(n:Int)+1:=fun p y=>by have:=q.ver p y;omega
 have r:=q.tg i (by omega);rw[s]at r;unfold lz;dsimp only;rw[s];by_cases w:t.2.1=0;rw[an w];unfold ey;dsimp only;rw[s];by_cases l:(st.getD (bg k st t.2.2.2.1).toNat aj.aa).1= -1;rw[an l,aU];intro _;exact⟨_,_,_,_,_,_,_,_,rfl,q.gW h.ti0 (by omega) h.tl hi (jU g) (by omega) (by omega) (by omega) r⟩;rw[a_ l];intro v;simp[bC]at v;rw[a_ w];by_cases l:(bD k st t.2.2.2.1).2=true;rw[an l,aU];intro _;have ha:=jN hk (fc (h.sto.fit _ (zH l).2));exact⟨_,_,_,_,_,_,_,_,rfl,q.gW h.ti0 (by omega) h.tl hi (jU g) (by omega) (by omega) (kD hk x (azp (mW hk) (by rw[bW (e:=ae),bd];omega))) lp⟩;rw[a_ l,aU];intro _;exact⟨_,_,_,_,_,_,_,_,rfl,q.gW h.ti0 (by omega) h.tl hi (jU g) (by omega) (by omega) (kD hk x (azp (mW hk) (by rw[bd];omega))) lp⟩
omit hk in
theorem Ja{st:List au}{j:Nat}(a:j<st.length):(aS (st.getD j aj.aa)).length<=bu st:=by
 have:=count_set (l:=st) (p:=(0,0,[])) a;have e:(aS ((0,0,[]):au)).length=0:=rfl;omega
def Tu(h:Rt k c ti U st m_ Z gr A nn V l_ O T)(j:Ex n c ti st Z A nn V n_ l_ O T)(hn:n<=160)(hi:i<3)(s:O.getD i aq.aa=t)(C:t.1=3):
 (bC (fx true k (c,ti,U,st,m_,Z,gr,A,nn,V,n_,l_,O,T) i)).1=true->
 ∃l m g e u f a b,(bC (fx true k (c,ti,U,st,m_,Z,gr,A,nn,V,n_,l_,O,T) i)).2=(c,l,U,m,g,e,u,A,nn,V,n_,f,a,b)/\
  Ex (n+1) c l m e A nn V n_ f a b:=by
 have h0:=fI h.sto.ok;obtain⟨F,G,hb,v,hv1,hw⟩:=dM h (by omega) s (by omega);have D:=(fG C).1 F;obtain⟨⟨q1,q2,q3,q4,q5,q6,q7,q8,q9,q,q11⟩,q12,q13,q14,q15,q16,q17,r⟩:=D;have d:∀p∈st,p.2.1<=(n:Int)+1:=fun p B=>by have:=j.ver p B;omega
 have o:=j.tg i (by omega);rw[s]at o;have hlen:=h.sto.len;have h3:=(bQ.1 h.sto.ok).2;unfold fx;dsimp only;rw[s];by_cases w:t.2.1=0;rw[an w];unfold ey;dsimp only;rw[s];by_cases x:(st.getD t.2.2.2.2.1.toNat aj.aa).1= -1;rw[an x,aU];intro _;exact⟨_,_,_,_,_,_,_,_,rfl,j.gW h.ti0 (by omega) h.tl hi (jU d) (by omega) (by omega) (by omega) o⟩;rw[a_ x];intro v;simp[bC]at v;rw[a_ w];by_cases y:t.2.1=1;rw[an y,aU];intro _;rw[a_ (by omega)]at r;have E:t.2.2.2.2.1.toNat<st.length:=by omega
 have:=Ja E;have:=h.sto.cap;have:=(nX hk h.cf).2.2.2.1;refine⟨_,_,_,_,_,_,_,_,rfl,j.gW h.ti0 (by omega) h.tl hi (jU d) (by omega) (by omega) (by omega) ?_⟩;unfold ky;dsimp only;rw[lk,lk,L_];omega;rw[a_ y];by_cases z:jG st t.2.2.2.2.2.1=true;rw[an z,aU];intro _;have hI:t.2.2.2.2.1<=3:=by split at r<;>omega
 unfold bI at q;have:=iK hk (cX.1 q);exact⟨_,_,_,_,_,_,_,_,rfl,j.gW h.ti0 (by omega) h.tl hi d (by omega) (by omega) (kD hk G (azp (mW hk) (by rw[rH];omega))) lp⟩;rw[a_ z,aU];intro _;exact⟨_,_,_,_,_,_,_,_,rfl,j.gW h.ti0 (by omega) h.tl hi d (by omega) (by omega) (by omega) (by unfold oX;simp)⟩
omit hk in
theorem QA{p:au}{U:Int}{a:af}(h:a∈dg U p.2.2):a∈aS p:=by
 obtain⟨c,hc,b⟩:=azD.1 h;unfold gD at b;exact azD.2 ⟨c,hc,(azW.1 b).1⟩
def QP(h:Rt k c ti U st m_ Z gr A nn V l_ O T)(r:Ex n c ti st Z A nn V n_ l_ O T)(hn:n<=160)(hi:i<3)(y:O.getD i aq.aa=t)(J:t.1=4):
 (fu true k (c,ti,U,st,m_,Z,gr,A,nn,V,n_,l_,O,T) i).1=true->
 ∃s u q g C j b f,(fu true k (c,ti,U,st,m_,Z,gr,A,nn,V,n_,l_,O,T) i).2=(c,s,U,u,q,g,C,A,nn,V,n_,j,b,f)/\
  Ex (n+1) c s u g A nn V n_ j b f:=by
 have h0:=fI h.sto.ok;obtain⟨K,L,hb,F,hv1,hw⟩:=dM h (by omega) y (by omega);obtain⟨⟨q1,q2,q3,q4,q5,q6,q7,q8,q9,D,E,q11'⟩,q12,q13,q14,q15,q16,q17⟩:=(gC J).1 K;have o:∀p∈st,p.2.1<=(n:Int)+1:=fun p v=>by have:=r.ver p v;omega
 have w:=r.tg i (by omega);rw[y]at w;have hlen:=h.sto.len;have z:t.2.2.2.2.1.toNat<st.length:=by omega
 unfold fu qa;dsimp only;rw[y];by_cases G:t.2.1=0;rw[an G];unfold ey;dsimp only;rw[y];by_cases H:(st.getD t.2.2.2.2.1.toNat aj.aa).1= -1;rw[an H,aU];intro _;exact⟨_,_,_,_,_,_,_,_,rfl,r.gW h.ti0 (by omega) h.tl hi (jU o) (by omega) (by omega) (by omega) w⟩;rw[a_ H];intro F;simp[bC]at F;rw[a_ G,aU];intro _
 have x:∀p∈st.set t.2.2.2.2.1.toNat (-1,(dR (st.getD t.2.2.2.2.1.toNat aj.aa) U).2),p.2.1<=(n:Int)+1:=by
  intro p v;rcases azj v with v|rfl;exact o p v;have hv:=r.ver _ (bz (d:=aj.aa) z);have hv0:=(da.1 ((bQ.1 h.sto.ok).1 _ z)).2.2.2;unfold dR;dsimp only;split;rw[wrap64 (by omega) (by omega)];omega;omega
 have hgl:=zP (st.getD t.2.2.2.2.1.toNat aj.aa) U;have:=Ja z;have:=h.sto.cap;have:=(nX hk h.cf).2.2.2.1;have hgt:=iK hk (l:=dg U (st.getD t.2.2.2.2.1.toNat aj.aa).2.2) fun a I=>fc (h.sto.fit a (azD.2 ⟨_,bz z,QA I⟩))
 have a1:ai (.sl ay) (T++[gK (iA i t.2.2.2.2.1.toNat (dg U (st.getD t.2.2.2.2.1.toNat aj.aa).2.2)) U ti ti ti])<=ai (.sl ay) T+800:=oy hk (by
  have e:ai ay (gK (iA i t.2.2.2.2.1.toNat (dg U (st.getD t.2.2.2.2.1.toNat aj.aa).2.2)) U ti ti ti)=ai ae bU+ai (.sl ak) ([]:List ag)+ai (.sl ae) (dg U (st.getD t.2.2.2.2.1.toNat aj.aa).2.2):=cU hk _;rw[e,jQ hk,bd];omega)
 by_cases m:t.2.2.2.2.1.toNat+1=st.length;rw[an m,an m];refine⟨_,_,_,_,_,_,_,_,rfl,r.gW h.ti0 (by omega) h.tl hi x (by omega) (by omega) ?_ lp⟩;refine azp (kD hk (B:=0) (by rw[lk];omega) ?_) (by omega);rw[jg _ L];exact azp (mW hk) (by rw[bd];omega);rw[a_ m,a_ m];exact⟨_,_,_,_,_,_,_,_,rfl,r.gW h.ti0 (by omega) h.tl hi x (by omega) (by omega) (by omega) (by dsimp only;rw[D,E];decide)⟩
end
def MU(l:List af)(a:af):(gy l a).length<=l.length+1:=by
 unfold gy;split;rw[azm];omega;simp only[lk,azy,azA,L_];omega
def JC(l:List aF)(t:aF):(tf l t).length=l.length+1:=by
 rw[(oY l t).length_eq,lk,L_]
section
variable{k:Nat}(hk:9223372036854775808<=k)
include hk
variable{c:aY}{ti U gr nn:Int}{st:List au}{m_:List bo}{Z l_:List af}{A:List aw}{V:List aF}{n_:List bq}{O:List aG}{T:List aA}{n i:Nat}{t:aG}
omit hk in
theorem Ex.join{t':aG}{u:List af}{a:List aw}{v:Int}{o:List aF}{q:List aA}(h:Ex n c ti st Z A nn V n_ l_ O T)(E:0<=ti)(hn:n<=1000)(tl:O.length=5)(G:O.getD 3 aq.aa=t)
 (hf:ai (.sl ae) u<=ai (.sl ae) Z) (hd:ai (.sl ay) q<=ai (.sl ay) T+3000) (hnn:v<=nn+1) (z:o.length+A.length<=V.length+a.length)
 (w:rU V (O.getD 4 aq.aa)->rU o (O.getD 4 aq.aa)) (hpot:3*j8 a+dZ t'<=3*j8 A+dZ t+1) (H:t'.2.2.2.2.2.2.1.length<=8*t'.2.2.2.2.2.1.length):
 Ex (n+1) c (tick ti) st u a v o n_ l_ (O.set 3 t') q:=by
 have e:=ow E (by have:=h.ti;omega);have B:(O.set 3 t').getD 3 aq.aa=t':=aL _ _ (by omega);have y:(O.set 3 t').getD 4 aq.aa=O.getD 4 aq.aa:=getD_set_ne _ _ (by omega);have a1:=h.ti;have a2:=h.nn;have a3:=h.fe;have a4:=h.sa;have I:=h.pot;have a6:=h.de;have a7:=h.hp;rw[G]at I;refine⟨by rw[e];omega,by omega,fun p z=>by have:=h.ver p z;omega,by rw[y];omega,by rw[y];exact w h.fr,by omega,by omega,by rw[B,y];omega,h.sk,by omega,fun j D=> ?_⟩;by_cases C:3=j;subst C;rw[B];exact H;rw[getD_set_ne _ _ C];exact h.tg j D
def TD(h:Rt k c ti U st m_ Z gr A nn V l_ O T)(y:Ex n c ti st Z A nn V n_ l_ O T)(hn:n<=160):
 (hZ true k (c,ti,U,st,m_,Z,gr,A,nn,V,n_,l_,O,T)).1=true->
 ∃B o H a C p b f,(hZ true k (c,ti,U,st,m_,Z,gr,A,nn,V,n_,l_,O,T)).2=(c,B,U,st,m_,o,H,a,C,p,n_,l_,b,f)/\
  Ex (n+1) c B st o a C p n_ l_ b f:=by
 generalize u:O.getD 3 aq.aa=t;have J:=h.tas 3 (by decide);rw[u]at J;have E:=y.tg 3 (by decide);rw[u]at E;unfold hZ gw;dsimp only;rw[u];by_cases z:t.1=0;rw[an z];by_cases L:Z.length=0;rw[an L];intro D;simp[bC]at D;rw[a_ L,aU];intro _;have ha:=jN hk (h.sub.fee _ (bz (d:=ae.aa) (i:=0) (by omega)));have hdr:=cB (e:=ae) Z 1;refine⟨_,_,_,_,_,_,_,_,rfl,y.join h.ti0 (by omega) h.tl u (by omega) (oy hk ?_) (by omega) (by omega) id ?_ (by unfold vp;simp)⟩;have e:ai ay (Dv (Z.getD 0 ae.aa) U ti)=ai ae (Z.getD 0 ae.aa)+ai (.sl ak) ([]:List ag)+ai (.sl ae) ([]:List af):=cU hk _;rw[e,bd,bd];omega;have:dZ (vp (Z.getD 0 ae.aa) (T.length:Int))=1:=rfl;omega;rw[a_ z]
 have N:t.1=5:=by
  have P:=gM (k:=k) (w:=(c,ti,U,st,m_,Z,gr,A,nn,V,n_,l_,O,T)) (i:=3) J;omega
 have q:=(je N).1 J;obtain⟨_,R,hb,D,hv1,hw⟩:=dM h (by decide) u z;have s:∀(d:aA) (code:Int),ai ay d<=ai ay (T.getD (bm t).toNat ay.aa)->ai (.sl ay) (T.set (bm t).toNat (eC true false d U ti code []))<=ai (.sl ay) T+3000:=fun d code D=>kD hk R (azp (mW hk) (by rw[bd];omega))
 have v:∀m,ai ay (qn (T.getD (bm t).toNat ay.aa) m)<=ai ay (T.getD (bm t).toNat ay.aa):=fun m=>by
  unfold qn;rw[cU hk,cU hk];exact azn _
 by_cases G:t.2.1=0;rw[an G];unfold iy;dsimp only;rw[u];by_cases M:gr= -1;rw[an M,aU];intro _;refine⟨_,_,_,_,_,_,_,_,rfl,y.join h.ti0 (by omega) h.tl u (by omega) (by omega) (by omega) (by omega) id ?_ E⟩;have e1:dZ t=1:=by unfold dZ;rw[a_ z,an G]
 have e2:dZ (t.1,(1:Int),t.2.2)=2:=by unfold dZ;rw[a_ z];rfl
 omega;rw[a_ M];intro D;simp[bC]at D;rw[a_ G];have hnn0:=h.nn0;have hnnb:=y.nn;have ep:dZ t=2:=by unfold dZ;rw[a_ z,a_ G]
 have ez:dZ zT=0:=rfl;cases K:eJ A (keyOf t.2.2.1 c.2.2.2.2.2)with
 |none=>
  dsimp only;by_cases F:12<=A.length;rw[an F,aU];intro _;exact⟨_,_,_,_,_,_,_,_,rfl,y.join h.ti0 (by omega) h.tl u (azn _) (s _ 3 (azn _)) (by omega) (by omega) id (by omega) lp⟩;rw[a_ F,aU];intro _;refine⟨_,_,_,_,_,_,_,_,rfl,y.join h.ti0 (by omega) h.tl u (azn _) (s _ 1 (v nn)) (by rw[wrap64 (by omega) (by omega)];omega) ?_ ?_ ?_ lp⟩;rw[JC,lk,L_];omega;intro I h6 x r;rcases M_.1 ((oY _ _).mem_iff.1 r)with r|r;exact I h6 x r;rw[E_.1 r];have Q:=h.tas 4 (by decide);have:=((fP h6).1 Q).2.2.2.2.2.2.2;show¬nn=_;omega;rw[P5];have:j8 [na c t.2.2.1 nn U]=1:=rfl;omega
 |some j=>
  dsimp only;rw[aU];intro _;refine⟨_,_,_,_,_,_,_,_,rfl,y.join h.ti0 (by omega) h.tl u (azn _) (s _ 2 (v _)) (by omega) (by rw[azm];omega) id ?_ lp⟩;have P:=Br (l:=A) (i:=j) (g:=ij (A.getD j al.aa) t.2.2.1) (pJ K).1;have h2:(ij (A.getD j al.aa) t.2.2.1).2.2.2.2.length<=(A.getD j al.aa).2.2.2.2.length+1:=MU _ _;omega
omit hk in
theorem Ex.flush{t':aG}{o:List aw}{q:List aF}{a:List bq}{u:List aA}(h:Ex n c ti st Z A nn V n_ l_ O T)(D:0<=ti)(hn:n<=1000)(tl:O.length=5)
 (E:ai (.sl ay) u<=3000*(n+1)+97*gS a.length) (y:q.length+(if t'.1=6 then 1 else 0)<=o.length)
 (z:rU q t') (v:3*j8 o+3*a.length+dZ (O.getD 3 aq.aa)+dZ t'<=n+1) (hs:ai (.sl cw) a<=200*a.length+97*gS a.length) (G:t'.2.2.2.2.2.2.1.length<=8*t'.2.2.2.2.2.1.length):
 Ex (n+1) c (tick ti) st Z o nn q a l_ (O.set 4 t') u:=by
 have e:=ow D (by have:=h.ti;omega);have H:(O.set 4 t').getD 3 aq.aa=O.getD 3 aq.aa:=getD_set_ne _ _ (by omega);have w:(O.set 4 t').getD 4 aq.aa=t':=aL _ _ (by omega);have a1:=h.ti;have a2:=h.nn;have a3:=h.fe;have a4:=h.sa;refine⟨by rw[e];omega,by omega,fun p y=>by have:=h.ver p y;omega,by rw[w];exact y,by rw[w];exact z,by omega,by omega,by rw[H,w];exact v,hs,E,fun j C=> ?_⟩;by_cases B:4=j;subst B;rw[w];exact G;rw[getD_set_ne _ _ B];exact h.tg j C
omit hk in
theorem Lk(l:List aw)(m U:Int):j8 (dm l m U)<=j8 l:=by
 unfold dm;cases e:dW l m with
 |none=>exact azn _
 |some i=>
  dsimp only;split;exact QM _ _;have h1:=Br (l:=l) (i:=i) (g:=fR (l.getD i al.aa) U) (fQ e).1
  have h2:(fR (l.getD i al.aa) U).2.2.2.2.length<=(l.getD i al.aa).2.2.2.2.length:=by
   unfold fR dh;exact azN _ _
  omega
omit hk in
theorem MW{c:aY}{V:List aF}{l:List aw}{m U:Int}{by_:List ByteArray}(p:dQ l by_=true)(h:V.length+1<=l.length):(sT c V (dm l m U) m).length<=(dm l m U).length:=by
 unfold sT;cases a:dW (dm l m U) m with
 |none=>
  dsimp only;unfold dm;cases e:dW l m with
  |none=>dsimp only;omega
  |some i=>
   dsimp only;have:=(fQ e).1;split;simp only[lk,azy,azA];omega;rw[azm];omega
 |some j=>
  dsimp only;rw[JC];unfold dm at a|-;cases e:dW l m with
  |none=>dsimp only;omega
  |some i=>
   rw[e]at a;dsimp only at a|-;obtain⟨s,k2⟩:=fQ e;by_cases o:(fR (l.getD i al.aa) U).2.2.2.2=[]
   exfalso;rw[an o]at a;obtain⟨u,j2⟩:=fQ a;have r:=bz (d:=al.aa) u;have b:=jh (d:=al.aa).2 (cj.1 p).2.2.1;generalize (l.take i++l.drop (i+1)).getD j al.aa=g at*
   rcases M_.1 r with h|h;obtain⟨q,f,eq⟩:=azt h;rw[azy]at f;rw[azC]at eq;have:=b i s q (by omega);rw[bJ _ (show q<l.length by omega),eq]at this;omega;obtain⟨q,f,eq⟩:=azt h;rw[azA]at f;rw[azK]at eq;have:=b (i+1+q) (by omega) i (by omega);rw[bJ _ (show i+1+q<l.length by omega),eq]at this;omega;rw[a_ o,azm];omega
def Qd(h:Rt k c ti U st m_ Z gr A nn V l_ O T)(r:Ex n c ti st Z A nn V n_ l_ O T)(hn:n<=160):
 (fq true k (c,ti,U,st,m_,Z,gr,A,nn,V,n_,l_,O,T)).1=true->
 ∃y K b m o f g,(fq true k (c,ti,U,st,m_,Z,gr,A,nn,V,n_,l_,O,T)).2=(c,y,U,st,m_,Z,K,b,nn,m,o,l_,f,g)/\
  Ex (n+1) c y st Z b nn m o l_ f g:=by
 generalize v:O.getD 4 aq.aa=t;have M:=h.tas 4 (by decide);rw[v]at M;have z:=r.tg 4 (by decide);rw[v]at z;have C:=r.hp;have R:=r.fr;have a4:=r.pot;have N:=r.sk;have a6:=r.de;rw[v]at C R a4;unfold fq eX;dsimp only;rw[v];by_cases u:t.1=0;rw[an u];by_cases p:pz V U=true;rw[an p,aU];intro _;have I:0<V.length:=by unfold pz at p;simp only[eH,b_]at p;exact p.1
 have S:=vG I;have hlen:=S.length_eq;rw[azz]at hlen;rw[a_ (by omega)]at C;have ep:dZ t=0:=by unfold dZ;rw[an u]
 have hdd:=oy hk (l:=T) (d:=u7 (dS V).2.1.2 U ti) (B:=1) (by
  have e:ai ay (u7 (dS V).2.1.2 U ti)=ai ae bU+ai (.sl ak) ([]:List ag)+ai (.sl ae) ([]:List af):=cU hk _;rw[e,jQ hk,bd,bd];omega)
 refine⟨_,_,_,_,_,_,_,rfl,r.flush h.ti0 (by omega) h.tl (by omega) (by rw[an (by rfl)];omega) ?_ (by have:dZ (qH (dS V).2.1.2 (T.length:Int))=1:=rfl;omega) N (by unfold qH;simp)⟩;intro _ x L;have P:=(qe S).2 h.grp.ap;have:=(List.pairwise_cons.1 P).1 x L;exact fun e=>this e.symm;rw[a_ p];intro H;simp[bC]at H;rw[a_ u]
 have Q:t.1=6:=by
  have h1:=gM (k:=k) (w:=(c,ti,U,st,m_,Z,gr,A,nn,V,n_,l_,O,T)) (i:=4) M;omega
 have q:=(fP Q).1 M;obtain⟨_,I,hb,H,hv1,hw⟩:=dM h (by decide) v u;rw[an Q]at C;by_cases J:t.2.1=0;rw[an J];unfold iy;dsimp only;rw[v];by_cases D:gr= -1;rw[an D,aU];intro _;have e1:dZ t=1:=by unfold dZ;rw[a_ u,an J]
 have e2:dZ (t.1,(1:Int),t.2.2)=2:=by unfold dZ;rw[a_ u];rfl
 exact⟨_,_,_,_,_,_,_,rfl,r.flush h.ti0 (by omega) h.tl (by omega) (by rw[an Q];exact C) R (by omega) N z⟩;rw[a_ D];intro H;simp[bC]at H;rw[a_ J];have ep:dZ t=2:=by unfold dZ;rw[a_ u,a_ J]
 have ez:dZ zT=0:=rfl;have E:∀l:List aF,rU l zT:=fun l h6=>absurd h6 (by decide);by_cases s:kf A t.2.2.2.2.2.2.2.1=true;rw[an s,aU];intro _;have hm:=Lk A t.2.2.2.2.2.2.2.1 U
 obtain⟨j,X⟩:∃j,dW A t.2.2.2.2.2.2.2.1=some j:=by
  unfold kf at s;exact Option.isSome_iff_exists.1 s
 obtain⟨Y,k2⟩:=fQ X;have W:gj A t.2.2.2.2.2.2.2.1 U=qs (A.getD j al.aa) U:=by unfold gj;rw[X]
 have F:=gk.1 ((cj.1 h.grp.go).2.1 _ (bz (d:=al.aa) Y));have t1:=uU hk F.2.1;have t2:=iK hk fun a ha=>(F.2.2.2.2.2.1 a ha).1;have t3:=SM (l:=A) Y;have tb:ai cw (qs (A.getD j al.aa) U)=ai (.sl ak) (A.getD j al.aa).2.1+ai (.sl ae) (A.getD j al.aa).2.2.2.2:=pK hk _;have G:gS (n_.length+1)=gS n_.length+(52-n_.length):=rfl;refine⟨_,_,_,_,_,_,_,rfl,r.flush h.ti0 (by omega) h.tl ?_ ?_ (E _) ?_ ?_ lp⟩;rw[lk,L_,G,W];have hf:=kD hk I (d':=eC true true (T.getD (bm t).toNat ay.aa) U ti 8 (qs (A.getD j al.aa) U).2.2.2) (B:=ai (.sl ae) (A.getD j al.aa).2.2.2.2) (mW hk);omega;rw[a_ (by decide)];exact MW h.grp.go C;rw[lk,L_];omega;rw[lk,L_,G,W,gZ,bW,bd,tb];omega;rw[a_ s,aU];intro _;have hf:=kD hk I (d':=eC true false (T.getD (bm t).toNat ay.aa) U ti 6 []) (B:=0) (azp (mW hk) (by rw[bd];omega));exact⟨_,_,_,_,_,_,_,rfl,r.flush h.ti0 (by omega) h.tl (by omega) (by rw[a_ (by decide)];omega) (E _) (by omega) N lp⟩
end
section
variable{k:Nat}{c:aY}{ti U gr nn:Int}{st:List au}{m_:List bo}{Z l_:List af}{A:List aw}{V:List aF}{n_:List bq}{O:List aG}{T:List aA}{i:Nat}{t:aG}
def RT{j:Nat}:(bC (ey (c,ti,U,st,m_,Z,gr,A,nn,V,n_,l_,O,T) i j)).1=decide ((st.getD j aj.aa).1= -1):=by
 rw[o9];unfold ey;dsimp only;by_cases h:(st.getD j aj.aa).1= -1;rw[an h,c_ h];rw[a_ h,decide_eq_false h]
def aaS:(bC (iy (c,ti,U,st,m_,Z,gr,A,nn,V,n_,l_,O,T) i)).1=decide (gr= -1):=by
 rw[o9];unfold iy;dsimp only;by_cases h:gr= -1;rw[an h,c_ h];rw[a_ h,decide_eq_false h]
def XK(h:Rt k c ti U st m_ Z gr A nn V l_ O T)(hi:i<5)(a:O.getD i aq.aa=t):
 uG k (c,ti,U,st,m_,Z,gr,A,nn,V,n_,l_,O,T) (i:Int)=
  if 0<=jL k t st.length then(st.getD (jL k t st.length).toNat aj.aa).1 else if Ad t=true then gr else-1:=by
 unfold uG;have b:aZ (i:Int) 0 4=true:=by unfold aZ;simp;omega
 rw[bF.2 h,b];dsimp only;rw[azs,a,an (by rfl)]
def TN(h:Rt k c ti U st m_ Z gr A nn V l_ O T)(hi:i<5)(a:O.getD i aq.aa=t)(o:¬t.1=0):
 (lZ true k (c,ti,U,st,m_,Z,gr,A,nn,V,n_,l_,O,T) i).1=decide (uG k (c,ti,U,st,m_,Z,gr,A,nn,V,n_,l_,O,T) (i:Int)= -1):=by
 rw[XK h hi a];have hz:=fI h.sto.ok;have p:=h.tas i hi;rw[a]at p;have hlen:=h.sto.len;have ho:=gM (k:=k) (w:=(c,ti,U,st,m_,Z,gr,A,nn,V,n_,l_,O,T)) (i:=i) p;have d:=fun f:Int=>xB (f:=f) (n:=(st.length:Int)) (by omega);unfold lZ;dsimp only[cA];rw[a];by_cases b:t.2.1=0
 by_cases g:t.1=1;have e:jL k t st.length=bg k st t.2.2.1.1:=by unfold jL bg;rw[a_ (by omega),a_ (by omega),an g]
 rw[an g,e,an (show 0<=bg k st t.2.2.1.1 from(d _).1)];unfold ia pA;dsimp only;rw[a,an b,RT];rw[a_ g];by_cases l:t.1=2\/t.1=3;rw[an l];unfold kY vd;dsimp only;rw[a];by_cases r:t.1=2;have e:jL k t st.length=bg k st t.2.2.2.1:=by unfold jL bg;rw[a_ (by omega),a_ (by omega),a_ g,an r]
 rw[an r,e,an (show 0<=bg k st t.2.2.2.1 from(d _).1)];unfold lz;dsimp only;rw[a,an b,RT];have m:t.1=3:=by omega
 have q:=(fG m).1 p;have s:0<=t.2.2.2.2.1:=by have:=q.1.2.2.2.2.2.2.2.2.1;omega
 have e:jL k t st.length=t.2.2.2.2.1:=by unfold jL;rw[a_ (by omega),a_ (by omega),a_ g,a_ r,an (.inl m)]
 rw[a_ r,e,an s];unfold fx;dsimp only;rw[a,an b,RT];rw[a_ l];by_cases j:t.1=4;have q:=(gC j).1 p;have s:0<=t.2.2.2.2.1:=q.1.2.2.2.2.2.2.2.1;have e:jL k t st.length=t.2.2.2.2.1:=by unfold jL;rw[a_ (by omega),a_ (by omega),a_ g,a_ (by omega),an (.inr j)]
 rw[an j,e,an s];unfold fu qa;dsimp only;rw[a,an b,RT];have e:jL k t st.length= -1:=by unfold jL;rw[a_ (by omega),a_ (by omega),a_ g,a_ (by omega),a_ (by omega)]
 have u:Ad t=true:=by
  unfold Ad;have:(t.1=5\/t.1=6)/\t.2.1=0:=by omega
  simpa using this
 rw[a_ j,e,a_ (show¬(0:Int)<=-1 by decide),an u];by_cases v:i=3;subst v;rw[an rfl];unfold hZ gw;dsimp only;rw[a,a_ o,an b,aaS];have h6:i=4:=by omega
 subst h6;rw[a_ (by decide),an rfl];unfold fq eX;dsimp only;rw[a,a_ o,an b,aaS];have e:jL k t st.length= -1:=by unfold jL;rw[a_ (by omega),an b]
 have u:Ad t=false:=by unfold Ad;simp[b]
 rw[e,a_ (show¬(0:Int)<=-1 by decide),u,a_ (show¬false=true by decide),c_ (rfl:(-1:Int)= -1)];by_cases g:t.1=1;rw[an g];unfold ia pA;dsimp only;rw[a,a_ b,o9];split;split<;>rfl;rfl;rw[a_ g];by_cases l:t.1=2\/t.1=3;rw[an l];unfold kY vd;dsimp only;rw[a,o9];split;unfold lz;dsimp only;rw[a,a_ b];split<;>rfl;unfold fx;dsimp only;rw[a,a_ b];split;rfl;split<;>rfl;rw[a_ l];by_cases j:t.1=4;rw[an j];unfold fu qa;dsimp only;rw[a,a_ b,o9];rw[a_ j];by_cases v:i=3;subst v;rw[an rfl];unfold hZ gw;dsimp only;rw[a,a_ o,a_ b,o9];split;split<;>rfl;rfl;have h6:i=4:=by omega
 subst h6;rw[a_ (by decide),an rfl];unfold fq eX;dsimp only;rw[a,a_ o,a_ b,o9];split<;>rfl
def aa5(h:Rt k c ti U st m_ Z gr A nn V l_ O T)(hi:i<5)(o:O.getD i aq.aa=t)
 (g:¬uG k (c,ti,U,st,m_,Z,gr,A,nn,V,n_,l_,O,T) (i:Int)= -1):
 ∃j:Nat,j<5/\uG k (c,ti,U,st,m_,Z,gr,A,nn,V,n_,l_,O,T) (i:Int)=(j:Int)/\¬j=i/\¬(O.getD j aq.aa).1=0/\
  uG k (c,ti,U,st,m_,Z,gr,A,nn,V,n_,l_,O,T) (j:Int)= -1:=by
 have hz:=fI h.sto.ok;have l:=abK (k:=k) (w:=(c,ti,U,st,m_,Z,gr,A,nn,V,n_,l_,O,T)) (bF.2 h) (j:=i) hi;dsimp only at l;rw[o]at l;rw[XK h hi o]at g|-
 have d:∀j,j<5->¬(O.getD j aq.aa).2.1=0->uG k (c,ti,U,st,m_,Z,gr,A,nn,V,n_,l_,O,T) (j:Int)= -1:=by
  intro j f b;rw[XK h f rfl];have e:jL k (O.getD j aq.aa) st.length= -1:=by unfold jL;rw[a_ (by omega),an b]
  have v:Ad (O.getD j aq.aa)=false:=by unfold Ad;rw[decide_eq_false b,Bool.and_false]
  rw[e,a_ (show¬(0:Int)<=-1 by decide),v,a_ (show¬false=true by decide)]
 by_cases s:0<=jL k t st.length;rw[an s]at g|-;have u:(jL k t st.length).toNat<st.length:=by omega
 have hheld:=(da.1 ((bQ.1 h.sto.ok).1 _ u)).2.2.1;obtain⟨j,f⟩:∃j:Nat,(st.getD (jL k t st.length).toNat aj.aa).1=(j:Int):=⟨(st.getD (jL k t st.length).toNat aj.aa).1.toNat,by omega⟩
 have a:j<5:=by omega
 have m:=(h.loc.pt _ u j a).2 f;have b:¬(O.getD j aq.aa).2.1=0:=fun e=>by rw[cM (.inl e)]at m;omega
 have q:¬(O.getD j aq.aa).1=0:=fun e=>by rw[cM (.inr (.inl e))]at m;omega
 refine⟨j,a,f,fun e=> ?_,q,d j a b⟩;subst e;rw[o]at b;have e:jL k t st.length= -1:=by unfold jL;rw[a_ (by omega),an b]
 omega;rw[a_ s]at g|-;by_cases p:Ad t=true;rw[an p]at g|-;have hgr:=h.loc.gr;obtain⟨j,f⟩:∃j:Nat,gr=(j:Int):=⟨gr.toNat,by omega⟩
 have a:j<5:=by omega
 have m:=(h.loc.gp j a).2 f;have r:((O.getD j aq.aa).1=5\/(O.getD j aq.aa).1=6)/\(O.getD j aq.aa).2.1=1:=by unfold bN at m;simpa using m
 refine⟨j,a,f,fun e=> ?_,by omega,d j a (by omega)⟩;subst e;rw[o]at r;unfold Ad at p;simp only[eH,b_]at p;omega;rw[a_ p]at g;exact absurd rfl g
end
def dO(s:bo):bo×af×Int:=
 if s.2=true then(([],false),bU,2)else if s.1.length=0 then(([],false),bU,0)else((s.1.drop 1,false),s.1.getD 0 ae.aa,1)
def zl(i:Int)(s:bo)(U ti:Int):aA:=
 (9,-1,bU,[],i,0,if(dO s).2.2=1 then 5 else if(dO s).2.2=2 then 7 else 6,if(dO s).2.2=1 then [(dO s).2.1]else [],U,ti,ti,ti)
def cG(w:ah):List bo:=w.2.2.2.2.1
def O8(w:ah)(i:Int):ah:=
 (w.1,tick w.2.1,w.2.2.1,w.2.2.2.1,(cG w).set i.toNat (dO ((cG w).getD i.toNat aW.aa)).1,w.2.2.2.2.2.1,w.2.2.2.2.2.2.1,w.2.2.2.2.2.2.2.1,w.2.2.2.2.2.2.2.2.1,w.2.2.2.2.2.2.2.2.2.1,w.2.2.2.2.2.2.2.2.2.2.1,w.2.2.2.2.2.2.2.2.2.2.2.1,cA w,
  bG w++[zl i ((cG w).getD i.toNat aW.aa) w.2.2.1 w.2.1])
def V4(w:ah)(n:Int):ah:=(w.1,tick w.2.1,n,w.2.2.2)
def rh(k:Nat)(w:ah)(e:bT):Bool×ah:=
 if e.1=1 then(if cT w e.2.1=true then(true,if cm e.2.2.1=true then gf w e.2.1 (qo e.2.2.1) 1 else refused w e.2.1 e.2.2.1)else(false,w))
 else if e.1=2 then(if(cT w e.2.1&&cZ e.2.2.2)=true then(true,gf w e.2.1 (rY e.2.2.2) 3)else(false,w))
 else if e.1=3 then(if cT w e.2.1=true then(true,gf w e.2.1 oR 4)else(false,w))
 else if e.1=4 then(if cT w e.2.1=true then(true,gf w e.2.1 pd 6)else(false,w))
 else if e.1=5 then(if aZ e.2.1 0 4=true then lZ true k w e.2.1.toNat else(false,w))
 else if e.1=6 then(if aZ e.2.1 0 ((cG w).length-1)=true then(true,O8 w e.2.1)else(false,w))
 else if e.1=7 then(if aZ e.2.1 1 20=true/\w.2.2.1+e.2.1<=99899 then(true,V4 w (w.2.2.1+e.2.1))else(false,w))
 else(false,w)
section
variable{k:Nat}(hk:9223372036854775808<=k)
include hk
def Kl{s:bo}(hs:ai aW s<=1048576):kC k (s,())=some ((dO s).1,(dO s).2.1,(dO s).2.2,()):=by
 rw[nj hk]at hs;have hl:=az (e:=ae) (l:=s.1);simp only[kC];unfold dO;by_cases a:s.2=true;rw[an a,an a];rfl;rw[a_ a,a_ a];by_cases b:s.1.length=0;rw[an (by simpa using b),an b];rfl;have h3:=cB (e:=ae) s.1 1;have h4:=dq (e:=ae) (l:=s.1) (i:=0) (d:=ae.aa) (by omega);rw[a_ (by simpa using b),a_ b,an (by simp;omega),show Int.toNat 1=1 from rfl,ff hk (by omega),azg,an (by simp;omega),show Int.toNat 0=0 from rfl,cR hk (by omega),azg]
def AH{w:ah}{i:Int}{a:af}(hs:ai aD w<=1048576)(f:ai ae a<=1048576)(hc:cT w i=true):
 kP k (w,i,a,())=some (if cm a=true then gf w i (qo a) 1 else refused w i a,()):=by
 obtain⟨q1,q2,q3⟩:=ym hc;simp only[kP,aN,Jc hk f,azg];by_cases b:cm a=true;have:=Ma hk (w:=w) (i:=i) (t:=qo a) hs (by rw[dy hk];simp[qo,ai]at f|-;omega) (show(0:Int)<=1 by decide) (show(1:Int)<=6 by decide) q1 q3;simp only[Rm]at this;rw[an b,an b];cases d:cS k (w,i,qo a,())with
 |none=>rw[d]at this;cases this
 |some z=>
  rw[d,azg]at this;have e:cS k (w,i,((1:Int),(0,(a,(([]:List ag),(0,(([]:List Int),(([]:List af),(0,0)))))))),())=some z:=d;rw[e,azg];have g:=Option.some.inj this;have h:(z.1.1,(IntKind.i64.wrap (z.1.2.1+(1:Int)),z.1.2.2))=gf w i (qo a) 1:=congrArg Prod.fst g;rw[h]
 rw[azl]at b;rw[a_ (by simp[b]),a_ (by simp[b]),cR hk (by omega),azg,mF hk hs,azg];rfl
def S5{w:ah}{i:Nat}(hs:ai aD w<=1048576)(hi:i<(cG w).length):ai aW ((cG w).getD i aW.aa)<=1048576:=by
 have h1:=iI hk w;have h2:=dq (e:=aW) (l:=cG w) (d:=aW.aa) hi;have h3:ai (.sl aW) (cG w)<=ai aD w:=by unfold cG;omega
 omega
set_option maxHeartbeats 4000000 in
def Ij{w:ah}{e:bT}(hs:ai aD w<=1048000)(h:bE k w=true)(ha:ai ae e.2.2.1<=10000)(J:ai (.sl ak) e.2.2.2<=10000):
 nR k (w,e,())=some ((rh k w e).1,(rh k w e).2,()):=by
 obtain⟨kind,K,a,l⟩:=e;dsimp only at ha J
 have L:(cA w).length=5:=by
  obtain⟨c,ti,U,st,m_,Z,gr,A,nn,V,n_,l_,O,T⟩:=w;exact(bF.1 h).tl
 have hnow:0<=w.2.2.1/\w.2.2.1<=99899:=by
  obtain⟨c,ti,U,st,m_,Z,gr,A,nn,V,n_,l_,O,T⟩:=w;exact(bF.1 h).nw
 have hsub:(cG w).length<=1048576:=by
  have D:=iI hk w;have M:=az (e:=aW) (l:=cG w);have N:ai (.sl aW) (cG w)<=ai aD w:=by unfold cG;omega
  omega
 have f:(!((aZ K 0 2:Bool)==true)||decide (0<=K/\K<((cA w).length:Int)))=true:=by
  rw[L];by_cases b:aZ K 0 2=true;have:0<=K/\K<((5:Nat):Int):=by unfold aZ at b;simp only[eH,b_]at b;omega
  rw[c_ this,Bool.or_true];rw[azl]at b;rw[b];rfl
 have E:(if aZ K 0 2=true then decide ((w.2.2.2.2.2.2.2.2.2.2.2.2.1.getD K.toNat aq.aa).1=0)else false)=cT w K:=by
  unfold cT xb;rw[L];by_cases b:aZ K 0 2=true;have h6:aZ K 0 ((5:Nat)-1:Int)=true:=by unfold aZ at b|-;simp only[eH,b_]at b|-;omega
  rw[an b,b,h6,azS,azS];rw[a_ b];rw[azl]at b;rw[b];rfl
 have F:∀(t:aG),t.2.2.1=vY->t.2.2.2.2.2.1=[]->t.2.2.2.2.2.2.1=[]->ai (.sl ak) t.2.2.2.1<=10000->ai aq t<=1048576:=fun t Y e2 e3 e4=>by
  rw[dy hk,Y,e2,e3];have:ai ae vY=0:=jQ hk;have n1:ai (.sl (.int .i64)) ([]:List Int)=0:=bd;have n2:ai (.sl ae) ([]:List af)=0:=bd;omega
 have d:∀(t:aG),cT w K=true->ai aq t<=1048576->0<=t.1->t.1<=6->dF k (w,K,t,())=some (gf w K t (List.getD [0,1,3,4,6,7,8] t.1.toNat 0),()):=fun t hc ht h0 D=>by
  obtain⟨q1,q2,q3⟩:=ym hc;exact Hl hk (by omega) ht h0 D q1 q3
 simp only[nR,aN,vF hk,azg];refine(an f).trans ?_;simp only[cE];simp only[E];unfold rh;dsimp only;by_cases g:kind=1;subst g;by_cases hc:cT w K=true;simp only[hc,decide_true,if_true,AH hk (show ai aD w<=1048576 by omega) (show ai ae a<=1048576 by omega) hc,azg];rw[azl]at hc;simp only[hc,decide_true,if_true,K_,if_false];have r:decide ((2:Int)=1)=false:=rfl;have u:decide ((3:Int)=1)=false:=rfl;have v:decide ((3:Int)=2)=false:=rfl;have x:decide ((3:Int)=4)=false:=rfl;have y:decide ((4:Int)=1)=false:=rfl;have z:decide ((4:Int)=2)=false:=rfl;have B:decide ((4:Int)=3)=false:=rfl;by_cases p:kind=2;subst p;by_cases hc:cT w K=true
 have b:dF k (w,K,((2:Int),0,(([]:List ag),0,0,ByteArray.empty),l,0,([]:List Int),([]:List af),0,0),())=some (gf w K (rY l) 3,()):=
  d (rY l) hc (F _ rfl rfl rfl J) (show(0:Int)<=2 by decide) (show(2:Int)<=6 by decide)
 simp only[hc,g,r,decide_true,decide_false,beq_self_eq_true,if_true,pB hk (show ai (.sl ak) l<=1048576 by omega),azg,azS,K_,if_false];by_cases m:cZ l=true;simp only[m,if_true,b,azg];rw[azl]at m;simp only[m,K_,if_false];rw[azl]at hc;simp only[hc,g,r,decide_true,decide_false,if_true,K_,if_false,azX,azg];rfl;by_cases C:kind=3;subst C;by_cases hc:cT w K=true
 have b:dF k (w,K,((3:Int),0,(([]:List ag),0,0,ByteArray.empty),([]:List ag),0,([]:List Int),([]:List af),0,0),())=some (gf w K oR 4,()):=
  d oR hc (F _ rfl rfl rfl (by show ai (.sl ak) ([]:List ag)<=10000;rw[bd];omega)) (show(0:Int)<=3 by decide) (show(3:Int)<=6 by decide)
 simp only[hc,g,p,u,v,x,decide_true,decide_false,if_true,K_,if_false,b,azg];rw[azl]at hc;simp only[hc,g,p,u,v,x,decide_true,decide_false,if_true,K_,if_false];by_cases P:kind=4;subst P;by_cases hc:cT w K=true
 have b:dF k (w,K,((4:Int),0,(([]:List ag),0,0,ByteArray.empty),([]:List ag),0,([]:List Int),([]:List af),0,0),())=some (gf w K pd 6,()):=
  d pd hc (F _ rfl rfl rfl (by show ai (.sl ak) ([]:List ag)<=10000;rw[bd];omega)) (show(0:Int)<=4 by decide) (show(4:Int)<=6 by decide)
 simp only[hc,g,p,C,y,z,B,decide_true,decide_false,if_true,K_,if_false,b,azg];rw[azl]at hc;simp only[hc,g,p,C,y,z,B,decide_true,decide_false,if_true,K_,if_false];simp only[g,p,C,P,decide_false,K_,if_false];by_cases Q:kind=5;subst Q;simp only[decide_true,if_true];by_cases b:aZ K 0 4=true;have h6:0<=K/\K.toNat<5:=by unfold aZ at b;simp only[eH,b_]at b;omega
 obtain⟨j,rfl⟩:∃j:Nat,K=(j:Int):=⟨K.toNat,by omega⟩
 have G:=H6 hk (w:=w) (i:=j) (by omega) h (by omega);simp only[b,beq_self_eq_true,if_true,G,azg,azs];rw[azl]at b;simp only[b,K_,if_false];rfl;simp only[Q,decide_false,K_,if_false];by_cases R:kind=6;subst R;simp only[decide_true,if_true]
 have H:IntKind.i64.wrap (((List.length w.2.2.2.2.1:Nat):Int)-(1:Int))=((cG w).length:Int)-1:=by
  unfold cG at*
  rw[wrap64 (by omega) (by omega)]
 rw[H];by_cases b:aZ K 0 (((cG w).length:Int)-1)=true;have h6:0<=K/\K<((cG w).length:Int):=by unfold aZ at b;simp only[eH,b_]at b;omega
 have G:decide (0<=K/\K<((List.length w.2.2.2.2.1:Nat):Int))=true:=c_ h6;have hh:=Kl hk (S5 hk (w:=w) (i:=K.toNat) (by omega) (by omega));have I:kC k (List.getD w.2.2.2.2.1 K.toNat aW.aa,())=some ((dO ((cG w).getD K.toNat aW.aa)).1,(dO ((cG w).getD K.toNat aW.aa)).2.1,(dO ((cG w).getD K.toNat aW.aa)).2.2,()):=hh
 have o:ai aD (w.1,w.2.1,w.2.2.1,w.2.2.2.1,(cG w).set K.toNat (dO ((cG w).getD K.toNat aW.aa)).1,w.2.2.2.2.2)<=1048576:=by
  have D:=iI hk w;have M:=iI hk (w.1,w.2.1,w.2.2.1,w.2.2.2.1,(cG w).set K.toNat (dO ((cG w).getD K.toNat aW.aa)).1,w.2.2.2.2.2);have N:=mf (e:=aW) (cG w) K.toNat (dO ((cG w).getD K.toNat aW.aa)).1 (by omega)
  have h4:ai aW (dO ((cG w).getD K.toNat aW.aa)).1<=ai aW ((cG w).getD K.toNat aW.aa):=by
   generalize (cG w).getD K.toNat aW.aa=s;rw[nj hk,nj hk];unfold dO;split;rw[bd];omega;split;rw[bd];omega;have:=cB (e:=ae) s.1 1;dsimp only;omega
  have h7:(cG w).getD K.toNat (Ty.aa aW)=(cG w).getD K.toNat aW.aa:=rfl;rw[h7]at N;unfold cG at*
  dsimp only at M;omega
 simp only[b,G,I,azg,Bool.not_true,K_,if_false,if_true];unfold O8 zl;by_cases S:(dO ((cG w).getD K.toNat aW.aa)).2.2=1;simp only[S,decide_true,if_true];erw[mF hk o];rfl;simp only[S,decide_false,K_,if_false];by_cases W:(dO ((cG w).getD K.toNat aW.aa)).2.2=2;simp only[W,decide_true,if_true];erw[mF hk o];rfl;simp only[W,decide_false,K_,if_false];erw[mF hk o];rfl;rw[azl]at b;simp only[b,azM,if_true,K_,if_false];simp only[R,decide_false,K_,if_false];by_cases X:kind=7;subst X;simp only[decide_true,if_true];by_cases b:aZ K 1 20=true;have h6:1<=K/\K<=20:=by unfold aZ at b;simp only[eH,b_]at b;omega
 have H:IntKind.i64.wrap (w.2.2.1+K)=w.2.2.1+K:=wrap64 (by omega) (by omega);rw[H];by_cases hg:w.2.2.1+K<=99899;rw[a_ (by simp[b];omega),an ⟨b,hg⟩];rfl;rw[an (by simp[b];omega),a_ (by omega)];rw[an (by simp[b]),a_ (fun q=>b q.1)];simp only[X,decide_false,K_,if_false]
end
def vo(n:Nat)(w:ah):Prop:=Ex n w.1 w.2.1 w.2.2.2.1 w.2.2.2.2.2.1 w.2.2.2.2.2.2.2.1 w.2.2.2.2.2.2.2.2.1 w.2.2.2.2.2.2.2.2.2.1 w.2.2.2.2.2.2.2.2.2.2.1 w.2.2.2.2.2.2.2.2.2.2.2.1 (cA w) (bG w)
section
variable{k:Nat}(hk:9223372036854775808<=k)
include hk
def YN{w:ah}{n i:Nat}(h:bE k w=true)(q:vo n w)(f:n<=160)(hi:i<5):(lZ true k w i).1=true->vo (n+1) (lZ true k w i).2:=by
 obtain⟨c,ti,U,st,m_,Z,gr,A,nn,V,n_,l_,O,T⟩:=w;have R:=bF.1 h;have X:Ex n c ti st Z A nn V n_ l_ O T:=q;generalize d:O.getD i aq.aa=t;have m:=R.tas i hi;rw[d]at m;have ho:=gM (k:=k) (w:=(c,ti,U,st,m_,Z,gr,A,nn,V,n_,l_,O,T)) (i:=i) m;unfold lZ;dsimp only[cA];rw[d];by_cases g:t.1=1;rw[an g];intro b;obtain⟨_,_,_,_,_,_,_,_,e,a⟩:=VO hk R X f (by omega) d g b;rw[e];exact a;rw[a_ g];by_cases o:t.1=2\/t.1=3;rw[an o];unfold kY vd;dsimp only;rw[d];by_cases j:t.1=2;rw[an j];intro b;obtain⟨_,_,_,_,_,_,_,_,e,a⟩:=Vq hk R X f (by omega) d j b;rw[e];exact a;rw[a_ j];intro b;obtain⟨_,_,_,_,_,_,_,_,e,a⟩:=Tu hk R X f (by omega) d (by omega) b;rw[e];exact a;rw[a_ o];by_cases l:t.1=4;rw[an l];intro b;obtain⟨_,_,_,_,_,_,_,_,e,a⟩:=QP hk R X f (by omega) d l b;rw[e];exact a;rw[a_ l];by_cases p:i=3;rw[an p];intro b;obtain⟨_,_,_,_,_,_,_,_,e,a⟩:=TD hk R X f b;rw[e];exact a;rw[a_ p];by_cases h6:i=4;rw[an h6];intro b;obtain⟨_,_,_,_,_,_,_,e,a⟩:=Qd hk R X f b;rw[e];exact a;rw[a_ h6];intro b;cases b
theorem QI{w:ah}{n i:Nat}(h:bE k w=true)(b:vo n w)(hn:n<=160)(hi:i<5):(lZ true k w i).1=true->bE k (lZ true k w i).2=true:=by
 obtain⟨c,ti,U,st,m_,Z,gr,A,nn,V,n_,l_,O,T⟩:=w;have R:=bF.1 h;have X:Ex n c ti st Z A nn V n_ l_ O T:=b;have a1:=X.ti;have a2:=X.nn;have a3:=X.hp;have a4:=(cj.1 R.grp.go).1;refine Qj h hi (by show ti<_;omega) (fun p a=>by have:=X.ver p a;omega) (fun _=>⟨by show nn<_;omega,by show V.length<=15;omega⟩) (fun _=>⟨X.fr,fun _=>by show V.length<=15;omega⟩)
def vk{w:ah}{n:Nat}{i:Int}{t':aG}{op:Int}(h:bE k w=true)(d:vo n w)(hn:n<=160)(hc:cT w i=true)
 (f:(∃a,cm a=true/\t'=qo a/\op=1)\/(∃l,cZ l=true/\t'=rY l/\op=3)\/(t'=oR/\op=4)\/(t'=pd/\op=6)):bE k (gf w i t' op)=true/\vo (n+1) (gf w i t' op):=by
 have hti:w.2.1<=(n:Int):=d.ti;refine⟨LJ (by unfold ET;rw[h,hc];rfl) (by omega) f,?_⟩;obtain⟨q1,q2,q3⟩:=ym hc;obtain⟨c,ti,U,st,m_,Z,gr,A,nn,V,n_,l_,O,T⟩:=w;have R:=bF.1 h;have X:Ex n c ti st Z A nn V n_ l_ O T:=d
 have b:ai ae t'.2.2.1+ai (.sl ak) t'.2.2.2.1<=200/\t'.2.2.2.2.2.2.1=[]:=by
  have ez:ai ae vY=0:=jQ hk;have el:ai (.sl ak) ([]:List ag)=0:=bd;rcases f with⟨a,j,rfl,rfl⟩|⟨l,m,rfl,rfl⟩|⟨rfl,rfl⟩|⟨rfl,rfl⟩;have:=jN hk (fc j);exact⟨by show ai ae a+ai (.sl ak) ([]:List ag)<=200;omega,rfl⟩;have:=uU hk m;exact⟨by show ai ae vY+ai (.sl ak) l<=200;omega,rfl⟩;exact⟨by show ai ae vY+ai (.sl ak) ([]:List ag)<=200;omega,rfl⟩;exact⟨by show ai ae vY+ai (.sl ak) ([]:List ag)<=200;omega,rfl⟩
 refine X.gW (i:=i.toNat) R.ti0 (by omega) R.tl (by omega) (fun p g=>by have:=X.ver p g;omega) (azL _ _) (azL _ _) (oy hk ?_) ?_;have e:ai ay (opened (c,ti,U,st,m_,Z,gr,A,nn,V,n_,l_,O,T) i op t'.2.2.1 t'.2.2.2.1 t'.2.2.2.2.2.2.2.1)=ai ae t'.2.2.1+ai (.sl ak) t'.2.2.2.1+ai (.sl ae) ([]:List af):=cU hk _;rw[e,bd];omega;show t'.2.2.2.2.2.2.1.length<=_;rw[b.2];exact azI _
def Rf{w:ah}{n:Nat}{e:bT}(h:bE k w=true)(g:vo n w)(o:n<=160)(x:ai ae e.2.2.1<=2900)(b:(rh k w e).1=true):bE k (rh k w e).2=true/\vo (n+1) (rh k w e).2:=by
 have p:w.2.1<=(n:Int):=g.ti;unfold rh at b|-;by_cases y:e.1=1;rw[an y]at b|-;by_cases hc:cT w e.2.1=true;rw[an hc]at b|-;dsimp only;by_cases r:cm e.2.2.1=true;rw[an r];exact vk hk h g o hc (.inl ⟨_,r,rfl,rfl⟩);rw[a_ r];refine⟨Hy (by unfold ET;rw[h,hc];rfl) (by omega),?_⟩;obtain⟨c,ti,U,st,m_,Z,gr,A,nn,V,n_,l_,O,T⟩:=w;have R:=bF.1 h;have X:Ex n c ti st Z A nn V n_ l_ O T:=g;refine X.alone R.ti0 (by omega) (oy hk ?_);have I:ai ay ((1,e.2.1,e.2.2.1,[],0,0,4,[],U,ti,ti,ti):aA)=ai ae e.2.2.1+ai (.sl ak) ([]:List ag)+ai (.sl ae) ([]:List af):=cU hk _;have J:ai (.sl ak) ([]:List ag)=0:=bd;have K:ai (.sl ae) ([]:List af)=0:=bd;show ai ay ((1,e.2.1,e.2.2.1,[],0,0,4,[],U,ti,ti,ti):aA)+1<=3000;omega;rw[a_ hc]at b;cases b;rw[a_ y]at b|-;by_cases z:e.1=2;rw[an z]at b|-;by_cases hc:(cT w e.2.1&&cZ e.2.2.2)=true;rw[an hc];simp only[eH]at hc;exact vk hk h g o hc.1 (.inr (.inl ⟨_,hc.2,rfl,rfl⟩));rw[a_ hc]at b;cases b;rw[a_ z]at b|-;by_cases B:e.1=3;rw[an B]at b|-;by_cases hc:cT w e.2.1=true;rw[an hc];exact vk hk h g o hc (.inr (.inr (.inl ⟨rfl,rfl⟩)));rw[a_ hc]at b;cases b;rw[a_ B]at b|-;by_cases C:e.1=4;rw[an C]at b|-;by_cases hc:cT w e.2.1=true;rw[an hc];exact vk hk h g o hc (.inr (.inr (.inr ⟨rfl,rfl⟩)));rw[a_ hc]at b;cases b;rw[a_ C]at b|-;by_cases D:e.1=5;rw[an D]at b|-;by_cases f:aZ e.2.1 0 4=true;rw[an f]at b|-;have E:e.2.1.toNat<5:=by unfold aZ at f;simp only[eH,b_]at f;omega
 exact⟨QI hk h g o E b,YN hk h g o E b⟩;rw[a_ f]at b;cases b;rw[a_ D]at b|-;by_cases F:e.1=6;rw[an F]at b|-;by_cases f:aZ e.2.1 0 ((cG w).length-1)=true;rw[an f];have h6:0<=e.2.1/\e.2.1.toNat<(cG w).length:=by unfold aZ at f;simp only[eH,b_]at f;omega
 obtain⟨c,ti,U,st,m_,Z,gr,A,nn,V,n_,l_,O,T⟩:=w;have R:=bF.1 h;have X:Ex n c ti st Z A nn V n_ l_ O T:=g;have l:=R.sub.sub _ (bz (d:=aW.aa) h6.2)
 have u:(dO (m_.getD e.2.1.toNat aW.aa)).2.2=1->bh (dO (m_.getD e.2.1.toNat aW.aa)).2.1=true:=by
  unfold fp bI at l;simp only[eH]at l;generalize m_.getD e.2.1.toNat aW.aa=s at l;unfold dO;split;intro q;cases q;split;intro q;cases q;intro _;exact cX.1 l.2.2 _ (bz (by omega))
 have v:fp (dO (m_.getD e.2.1.toNat aW.aa)).1=true:=by
  unfold fp bI at l;simp only[eH,b_]at l;generalize m_.getD e.2.1.toNat aW.aa=s at l;unfold dO;split;unfold fp bI;simp[kz];split;unfold fp bI;simp[kz];unfold fp bI;dsimp only;simp only[eH,b_,azM,Bool.true_or,true_and];refine⟨by rw[azA];omega,cX.2 fun a x=>cX.1 l.2.2 a (azE x)⟩
 constructor;refine bF.2 (Kf R (by show ti<_;have:ti<=(n:Int):=p;omega) ⟨?_,by show ti<ti+1;omega,by show ti<ti+1;omega,by show ti<ti+1;omega⟩ ⟨by rw[azm];exact R.sub.len,fun s m=> ?_,R.sub.fee,R.sub.sai⟩);refine sg (op:=9) (i:= -1) (j:=e.2.1) (n:=0) ⟨by decide,by decide⟩ ⟨by decide,by decide⟩ h6.1 (by decide) R.nw.1 R.ti0 ?_;split;decide;split<;>decide;rcases azj m with m|rfl;exact R.sub.sub s m;exact v;refine X.alone R.ti0 (by omega) (oy hk ?_);have I:ai ay (zl e.2.1 (m_.getD e.2.1.toNat aW.aa) U ti)=ai ae bU+ai (.sl ak) ([]:List ag)+ai (.sl ae) (if(dO (m_.getD e.2.1.toNat aW.aa)).2.2=1 then [(dO (m_.getD e.2.1.toNat aW.aa)).2.1]else []):=cU hk _;have J:ai (.sl ak) ([]:List ag)=0:=bd
 have K:ai (.sl ae) (if(dO (m_.getD e.2.1.toNat aW.aa)).2.2=1 then [(dO (m_.getD e.2.1.toNat aW.aa)).2.1]else [])<=97:=by
  split;rename_i H;have:=jN hk (u H);rw[bW (e:=ae),bd];omega;rw[bd];omega
 have e4:=jQ hk;show ai ay (zl e.2.1 (m_.getD e.2.1.toNat aW.aa) U ti)+1<=3000;omega;rw[a_ f]at b;cases b;rw[a_ F]at b|-;by_cases G:e.1=7;rw[an G]at b|-;by_cases f:aZ e.2.1 1 20=true/\w.2.2.1+e.2.1<=99899;rw[an f];have h6:1<=e.2.1:=by have:=f.1;unfold aZ at this;simp only[eH,b_]at this;omega
 obtain⟨c,ti,U,st,m_,Z,gr,A,nn,V,n_,l_,O,T⟩:=w;have R:=bF.1 h;have X:Ex n c ti st Z A nn V n_ l_ O T:=g;exact⟨bF.2 (Tg R (by show ti<_;have:ti<=(n:Int):=p;omega) (by show U<=U+e.2.1;omega) f.2),X.alone R.ti0 (by omega) (azL _ _)⟩;rw[a_ f]at b;cases b;rw[a_ G]at b;cases b
def F8{w:ah}{n:Nat}(h:bE k w=true)(a:vo n w)(b:n<=160):ai aD w<=1000000:=by
 obtain⟨c,ti,U,st,m_,Z,gr,A,nn,V,n_,l_,O,T⟩:=w;exact Nl hk (bF.1 h) a b
end
def Bg{α:Type}{n i:Nat}{a d:α}(h:i<n):(azu n a).getD i d=a:=by
 rw[bJ _ (by simpa using h)];simp
def BI(k:Nat)(w:ah):Prop:=bE k w=true/\∃n,n<=160/\vo n w
section
variable{k:Nat}(hk:9223372036854775808<=k)
include hk
def OS{c:aY}(hc:cY c=true):bE k (mN c)=true/\vo 0 (mN c):=by
 obtain⟨c0,E,F,c3,c4⟩:=nX hk hc
 have hcn:0<=c.2.1/\1<=c.2.2.1:=by
  unfold cY aZ at hc;simp only[eH,b_]at hc;omega
 unfold mN;rw[an hc]
 have b:fK c.1=azu c.1.toNat (-1,0,[]):=by
  unfold fK;simp[E,F]
 have hlen:(fK c.1).length=c.1.toNat:=by rw[b];simp
 have f:bO (fK c.1)=[]:=by
  rw[b];refine List.eq_nil_iff_forall_not_mem.2 fun a l=> ?_;obtain⟨p,z,ch,v,_⟩:=I7.1 l;rw[(azJ.1 z).2]at v;exact absurd v (List.not_mem_nil)
 have r:∀s∈tG c,fp s=true:=by
  intro s B;unfold tG at B;rw[(azJ.1 B).2];unfold fp bI;simp[kz]
 have w:∀i,i<5->(azu 5 su).getD i aq.aa=zT:=fun i e=>Bg e;constructor
 refine bF.2 ⟨hc,g_ _,g_ _,⟨by decide,by decide⟩,⟨bQ.2 ⟨fun i e=> ?_,by omega,by omega⟩,by omega,by unfold bu;rw[f];simp;omega,by rw[f];intro a l;cases l⟩,
  ⟨by unfold tG;simp;omega,r,fun a l=>(by cases l),fun a l=>(by cases l)⟩,fun d D=>(by cases D),rfl,fun i e=> ?_,⟨fun q C j m=> ?_,fun j m=> ?_,by decide,by decide⟩,cj.2 ⟨by decide,fun g y=>(by cases y),List.Pairwise.nil,List.Pairwise.nil⟩,qb.2 ⟨fun x o=>(by cases o),fun j m=>by simp at m,by decide⟩,fun x o=>(by cases o),List.Pairwise.nil,fun g y=>(by cases y)⟩
 rw[b]at e|-;rw[Bg (by simpa using e)];exact da.2 ⟨fun c hc=>(by cases hc),List.Pairwise.nil,⟨by decide,by decide⟩,by decide⟩;rw[w i e];exact mO e;rw[w j m,cM (.inl rfl)];rw[b]at C|-;rw[Bg (by simpa using C)];constructor;intro h;omega;intro h;exact absurd h (by show¬(-1:Int)=(j:Int);omega);rw[w j m,eI (.inr rfl)];constructor;intro h;cases h;intro h;omega;refine⟨g_ _,g_ _,fun p z=> ?_,by show(0:Nat)+(if((azu 5 su).getD 4 aq.aa).1=6 then 1 else 0)<=0;decide,fun _ x o=>(by cases o),by show ai (.sl ae) ([]:List af)<=_;rw[bd];omega,by show ai (.sl ae) ([]:List af)<=_;rw[bd];omega,by show 3*0+3*0+dZ ((azu 5 su).getD 3 aq.aa)+dZ ((azu 5 su).getD 4 aq.aa)<=0;decide,by show ai (.sl cw) ([]:List bq)<=_;rw[bd];omega,by show ai (.sl ay) ([]:List aA)<=_;rw[bd];omega,fun i e=> ?_⟩;have u:p∈fK c.1:=z;rw[b]at u;rw[(azJ.1 u).2];exact g_ _;show((azu 5 su).getD i aq.aa).2.2.2.2.2.2.1.length<=8*((azu 5 su).getD i aq.aa).2.2.2.2.2.1.length;rw[w i e];decide
def SX{c:aO}(hc:bn c):Dr (oM k (c,())) (fun r=>bn r.2.1/\qF r.1=true):=by
 simp only[oM];refine cq (cK hk hc) (fun r1 a=>dI (fun _=>dA ⟨a.1,(show qF []=true by decide)⟩) (fun _=>dI (fun _=>dA ⟨a.1,(show qF [⟨#[97,112,112]⟩,⟨#[115,101,118]⟩]=true by decide+kernel)⟩) (fun _=>dI (fun _=>dA ⟨a.1,(show qF [⟨#[104,111,115,116]⟩]=true by decide+kernel)⟩) (fun _=>dA ⟨a.1,(show qF [⟨#[97,112,112]⟩]=true by decide+kernel)⟩))))
def NH{c:aO}(hc:bn c):Dr (lF k (c,())) (fun r=>bn r.2.1/\cY r.1=true):=by
 simp only[lF];refine cq (cK hk hc) (fun r1 a=>cq (Qn hk 1 8 a.1 (by decide) (by decide)) (fun r2 b=>cq (cK hk b.1) (fun r3 d=>cq (cK hk d.1) (fun r4 e=>cq (cK hk e.1) (fun r5 f=>cq (SX hk f.1) (fun r6 h6=>dA ⟨h6.1,?_⟩))))));have g1:=a.2;have g2:=b.2;have g3:=d.2;have g4:=e.2;have g5:=f.2;rw[wrap64 (by omega) (by omega),wrap64 (by omega) (by omega),wrap64 (by omega) (by omega),wrap64 (by omega) (by omega)];unfold cY aZ;simp only[eH,b_];exact⟨⟨⟨⟨⟨⟨by omega,by omega⟩,by omega,by omega⟩,by omega,by omega⟩,by omega,by omega⟩,by omega,by omega⟩,h6.2⟩
end
end Vg.Tryz
