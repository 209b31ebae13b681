/- Texts of this law, joined. -/
import Derived.Test.YtgikmhjpcnnhjaaGreatQsFa
import Derived.Shelf.Strings.OnBuilder
import Derived.Test.YtgikmhjpcnnhjaaGreatProg
import Derived.Test.YtgikmhjpcnnhjaaGreatVc
import Derived.Deep.QuietTactic
import Derived.WalkKit
import Derived.Shelf.GgSortFunc.Lays
import Derived.Shelf.GgSortMore.Bridge
import Derived.Ground.GgtProg
import Derived.Test.YtgikmhjpcnnhjaaGreatVd
set_option linter.unusedSimpArgs false
set_option linter.unusedVariables false
set_option linter.unusedSectionVars false
set_option linter.defProp false
open List renaming drop_eq_getElem_cons -> aH7,getElem?_eq_getElem -> aH8,drop_length -> aH9,length_drop -> aIa
open Go.Proofs.Tryz
namespace Vg.Tryz
open Go Vg
open List renaming getD->gd,length->ln,set->se,drop->dr,take->ta
open Int renaming toNat->tn
open Option renaming bind->bi
open Decidable renaming decide->dc
def jD(k:Nat)(x:ag×Unit):Option (Bool×Unit):=aN (fun r=>aM k (fun s (d:ag×List Int×Int×Unit)=>if dc (d.2.2.1<ln d.1.2.2.2.1)then if dc (ln d.2.1+ln ([(-1:Int)]:List Int)<4294967296)then s (d.1,d.2.1++([(-1:Int)]:List Int),IntKind.i64.wrap (d.2.2.1+1),())else none else r (d.1,d.2.1,())) (x.1,[],0,())) (fun(q:ag×List Int×Unit)=>aN (fun t=>aM k (fun p (c:ag×List Int×Int×Int×Unit)=>let o:=c.1.2.2.2.2.2.2.2.2.2.2.2.2.1;let g:=c.2.2.2.1;if dc (g<ln o)then if dc (0<=g/\g<ln o)then bi (lr k (gd o (tn g) ak.aa,(ln c.1.2.2.2.1:Int),())) fun f=>aN (fun h=>if dc (f.1>=0)then if dc (0<=f.1/\f.1<ln c.2.1)then if((gd c.2.1 (tn f.1) 0):Int) != -1 then some (false,())else if dc (0<=f.1/\f.1<ln c.2.1)then h (c.1,se c.2.1 (tn f.1) g,c.2.2.1,g,())else none else none else h (c.1,c.2.1,c.2.2.1,g,())) (fun(a:ag×List Int×Int×Int×Unit)=>if dc (0<=a.2.2.2.1/\a.2.2.2.1<ln a.1.2.2.2.2.2.2.2.2.2.2.2.2.1)then bi (jm k (gd a.1.2.2.2.2.2.2.2.2.2.2.2.2.1 (tn a.2.2.2.1) ak.aa,())) fun j=>if j.1 then if a.2.2.1 != -1 then some (false,())else p (a.1,a.2.1,a.2.2.2.1,IntKind.i64.wrap (a.2.2.2.1+1),())else p (a.1,a.2.1,a.2.2.1,IntKind.i64.wrap (a.2.2.2.1+1),())else none)else none else t (c.1,c.2.1,c.2.2.1,())) (q.1,q.2.1,-1,0,())) (fun(n:ag×List Int×Int×Unit)=>aN (fun l=>aM k (fun m (b:ag×List Int×Int×Int×Unit)=>let e:=b.2.2.2.1;if dc (e<ln b.1.2.2.2.1)then if dc (0<=e/\e<ln b.1.2.2.2.1)then if dc (0<=e/\e<ln b.2.1)then if(gd b.1.2.2.2.1 (tn e) ah.aa).1 != (gd b.2.1 (tn e) 0)then some (false,())else m (b.1,b.2.1,b.2.2.1,IntKind.i64.wrap (e+1),())else none else none else l (b.1,b.2.2.1,())) (n.1,n.2.1,n.2.2.1,0,())) (fun(i:ag×Int×Unit)=>some (i.1.2.2.2.2.2.2.1==i.2.1,()))))
def na(k:Nat)(x:au×List ByteArray×Unit):Option (Bool×Unit):=aN (fun m=>aM k (fun n (c:List ByteArray×au×Int×Unit)=>let a:=c.2.2.1;let d:=a>0;let f:=c.2.1.2.2.2.2;let g:=(ln f:Int);let l:=IntKind.i64.wrap (a-1);if dc (a<g)then if dc (0<=a/\a<g)then bi (dW k (gd f (tn a) ab.aa,())) fun r5=>if !(((!r5.1)==false)&&(dc d==true))||(dc (0<=l/\l<g))then if !(((!r5.1)==false)&&(dc d==true))||(dc (0<=a/\a<g))then bi (if((!r5.1)==false)&&(dc d==true)then iu k ((gd f (tn l) ab.aa).1,(gd f (tn a) ab.aa).1,())else some (false,())) fun r6=>if !(((if !r5.1 then true else if dc d then !r6.1 else false):Bool)==false)||(dc (0<=a/\a<g))then bi (if((if !r5.1 then true else if dc d then !r6.1 else false):Bool)==false then ek k (gd f (tn a) ab.aa,c.1,())else some (([]:List ai),())) fun o=>bi (if((if !r5.1 then true else if dc d then !r6.1 else false):Bool)==false then cL k (o.1,c.2.1.2.1,())else some (false,())) fun r8=>if if if !r5.1 then true else if dc d then !r6.1 else false then true else !r8.1 then some (false,())else n (c.1,c.2.1,IntKind.i64.wrap (a+1),())else none else none else none else none else m (c.2.1,())) (x.2.1,x.1,0,())) (fun(b:au×Unit)=>let h:=b.1.1>=0;bi (if dc h==true then gB k (b.1.2.1,())else some (false,())) fun i=>bi (if((if dc h then i.1 else false):Bool)==true then bD k (b.1.2.2.1,0,99999,())else some (false,())) fun e=>bi (if(((if if dc h then i.1 else false then e.1 else false):Bool)==true)&&(((b.1.2.2.2.1== -1):Bool)==false)then bD k (b.1.2.2.2.1,b.1.2.2.1,99999,())else some (false,())) fun j=>some (if if if if dc h then i.1 else false then e.1 else false then if b.1.2.2.2.1== -1 then true else j.1 else false then dc ((ln b.1.2.2.2.2:Int)>0)else false,()))
def lZ(k:Nat)(x:List au×List ByteArray×Unit):Option (Bool×Unit):=aN (fun g=>aM k (fun h (c:List au×List ByteArray×Int×Unit)=>let d:=(ln c.1:Int);let b:=c.2.2.1;let e:=IntKind.i64.wrap (b-1);let f:=b>0;if dc (b<d)then if dc (0<=b/\b<d)then bi (na k (gd c.1 (tn b) aj.aa,c.2.1,())) fun r5=>if !(((!r5.1)==false)&&(dc f==true))||(dc (0<=e/\e<d))then if !(((!r5.1)==false)&&(dc f==true))||(dc (0<=b/\b<d))then if if !r5.1 then true else if dc f then dc ((gd c.1 (tn e) aj.aa).1>=(gd c.1 (tn b) aj.aa).1)else false then some (false,())else aM k (fun i (a:List au×List ByteArray×Int×Int×Unit)=>if dc (a.2.2.2.1<a.2.2.1)then if dc (0<=a.2.2.2.1/\a.2.2.2.1<ln a.1)then if dc (0<=a.2.2.1/\a.2.2.1<ln a.1)then bi (cL k ((gd a.1 (tn a.2.2.2.1) aj.aa).2.1,(gd a.1 (tn a.2.2.1) aj.aa).2.1,())) fun j=>if j.1 then some (false,())else i (a.1,a.2.1,a.2.2.1,IntKind.i64.wrap (a.2.2.2.1+1),())else none else none else h (a.1,a.2.1,IntKind.i64.wrap (a.2.2.1+1),())) (c.1,c.2.1,b,0,())else none else none else none else g (c.1,())) (x.1,x.2.1,0,())) (fun(l:List au×Unit)=>some (dc ((ln l.1:Int)<=12),()))
def oJ(k:Nat)(x:List aJ×Unit):Option (Bool×Unit):=aN (fun i=>aM k (fun j (b:List aJ×Int×Unit)=>let a:=b.2.1;let h:=gd b.1 (tn a) aD.aa;let g:=IntKind.i64.wrap (Int.tdiv (IntKind.i64.wrap (a-1)) (2:Int));let c:=h.1<0;let d:=(ln b.1:Int);let e:=a>0;let f:=h.2<0;if dc (a<d)then if dc (0<=a/\a<d)then if !(dc c==false)||(dc (0<=a/\a<d))then if !((((if dc c then true else dc f):Bool)==false)&&(dc e==true))||(dc (0<=a/\a<d))then if !((((if dc c then true else dc f):Bool)==false)&&(dc e==true))||(dc ((2:Int)≠0))then if !((((if dc c then true else dc f):Bool)==false)&&(dc e==true))||(dc (0<=g/\g<d))then bi (if(((if dc c then true else dc f):Bool)==false)&&(dc e==true)then gR k (gd b.1 (tn a) aD.aa,gd b.1 (tn g) aD.aa,())else some (false,())) fun l=>if if if dc c then true else dc f then true else if dc e then l.1 else false then some (false,())else j (b.1,IntKind.i64.wrap (a+1),())else none else none else none else none else none else i (b.1,())) (x.1,0,())) (fun(m:List aJ×Unit)=>some (dc ((ln m.1:Int)<=16),()))
def iL(k:Nat)(x:ag×Unit):Option (Bool×Unit):=bi (lZ k (x.1.2.2.2.2.2.2.2.1,x.1.1.2.2.2.2.2,())) fun r1=>bi (if(!r1.1)==false then oJ k (x.1.2.2.2.2.2.2.2.2.2.1,())else some (false,())) fun r2=>if if !r1.1 then true else !r2.1 then some (false,())else aN (fun q=>aM k (fun r (f:ag×Int×Unit)=>let h:=f.1.2.2.2.2.2.2.2.2;if dc (f.2.1<ln h.2.1)then if dc (0<=f.2.1/\f.2.1<ln h.2.1)then if dc ((gd h.2.1 (tn f.2.1) aD.aa).2>=h.1)then some (false,())else aM k (fun s (e:ag×Int×Int×Unit)=>let i:=e.1.2.2.2.2.2.2.2.2.2.1;if dc (e.2.2.1<e.2.1)then if dc (0<=e.2.2.1/\e.2.2.1<ln i)then if dc (0<=e.2.1/\e.2.1<ln i)then if(gd i (tn e.2.2.1) aD.aa).2==(gd i (tn e.2.1) aD.aa).2 then some (false,())else s (e.1,e.2.1,IntKind.i64.wrap (e.2.2.1+1),())else none else none else r (e.1,IntKind.i64.wrap (e.2.1+1),())) (f.1,f.2.1,0,())else none else q (f.1,())) (x.1,0,())) (fun(u:ag×Unit)=>aM k (fun t (a:ag×Int×Unit)=>let g:=a.1.2.2.2.2.2.2.2;let n:=gd g.2.2.2.2.2.1 (tn (4:Int)) ak.aa;if dc (a.2.1<ln g.1)then if dc (0<=a.2.1/\a.2.1<ln g.1)then if dc (0<=(4:Int)/\(4:Int)<(ln g.2.2.2.2.2.1:Int))then if !(((n.1==6):Bool)==true)||(dc (0<=(4:Int)/\(4:Int)<(ln g.2.2.2.2.2.1:Int)))then aN (fun j=>aM k (fun l (b:ag×Int×au×Bool×Int×Unit)=>let d:=b.2.2;let o:=gd b.1.2.2.2.2.2.2.2.2.2.1 (tn d.2.2.1) aD.aa;let p:=(ln b.1.2.2.2.2.2.2.2.2.2.1:Int);let v:=(d.2.1==false)&&(((o.2==d.1.1):Bool)==true);if dc (d.2.2.1<p)then if !(d.2.1==false)||(dc (0<=d.2.2.1/\d.2.2.1<p))then if !v||(dc (0<=d.2.2.1/\d.2.2.1<p))then bi (if v then pF k (b.1.1,d.1,())else some (0,())) fun m=>l (b.1,b.2.1,d.1,if d.2.1 then true else if o.2==d.1.1 then o.1==m.1 else false,IntKind.i64.wrap (d.2.2.1+1),())else none else none else j (b.1,b.2.1,d.1,d.2.1,())) (a.1,a.2.1,gd g.1 (tn a.2.1) aj.aa,if n.1==6 then n.2.2.2.2.2.2.2.1==(gd g.1 (tn a.2.1) aj.aa).1 else false,0,())) (fun(c:ag×Int×au×Bool×Unit)=>if if if if !c.2.2.2.1 then true else dc (c.2.2.1.2.2.1>c.1.2.2.1)then true else dc (c.2.2.1.2.2.2.1>c.1.2.2.1)then true else dc (c.2.2.1.1>=c.1.2.2.2.2.2.2.2.2.1)then some (false,())else t (c.1,IntKind.i64.wrap (c.2.1+1),()))else none else none else none else some (true,())) (u.1,0,()))
def lT(k:Nat)(x:ag×Unit):Option (Bool×Unit):=let f:=x.1.2.2.2.2.2.2.2.2.1<0;let p:=((ln x.1.2.2.2.2.2.2.2.2.2.2.2.2.1:Int):Int);let g:=x.1.2.1<0;let q:=((ln x.1.2.2.2.2.1:Int):Int);bi (lE k (x.1.1,())) fun r1=>bi (if((if if !r1.1 then true else dc g then true else dc f):Bool)==false then bD k (x.1.2.2.1,0,99899,())else some (false,())) fun r2=>bi (if((if if if !r1.1 then true else dc g then true else dc f then true else !r2.1):Bool)==false then mr k (x.1,())else some (false,())) fun r3=>bi (if((if if if if if if !r1.1 then true else dc g then true else dc f then true else !r2.1 then true else !r3.1 then true else q != x.1.1.2.2.1 then true else p != 5):Bool)==false then jj k (x.1.2.2.2.2.2.1,())else some (false,())) fun r4=>bi (if((if if if if if if if !r1.1 then true else dc g then true else dc f then true else !r2.1 then true else !r3.1 then true else q != x.1.1.2.2.1 then true else p != 5 then true else !r4.1):Bool)==false then jj k (x.1.2.2.2.2.2.2.2.2.2.2.2.1,())else some (false,())) fun r5=>if if if if if if if if if !r1.1 then true else dc g then true else dc f then true else !r2.1 then true else !r3.1 then true else q != x.1.1.2.2.1 then true else p != 5 then true else !r4.1 then true else !r5.1 then some (false,())else aN (fun s=>aM k (fun t (c:ag×Int×Unit)=>if dc (c.2.1<ln c.1.2.2.2.2.1)then if dc (0<=c.2.1/\c.2.1<ln c.1.2.2.2.2.1)then bi (pT k (gd c.1.2.2.2.2.1 (tn c.2.1) aU.aa,())) fun r10=>if !r10.1 then some (false,())else t (c.1,IntKind.i64.wrap (c.2.1+1),())else none else s (c.1,())) (x.1,0,())) (fun(u:ag×Unit)=>aN (fun i=>aM k (fun j (a:ag×Int×Unit)=>let h:=a.1.2.2.2.2.2.2.2.2.2.2.2.2.2;let r:=(gd h (tn a.2.1) aw.aa).2.2.2.2.2.2.2.2.2;if dc (a.2.1<ln h)then if dc (0<=a.2.1/\a.2.1<ln h)then bi (oI k (gd h (tn a.2.1) aw.aa,())) fun r15=>if if if if !r15.1 then true else dc (r.1>=a.1.2.1)then true else dc (r.2.1>=a.1.2.1)then true else dc (r.2.2>=a.1.2.1)then some (false,())else j (a.1,IntKind.i64.wrap (a.2.1+1),())else none else i (a.1,())) (u.1,0,())) (fun(o:ag×Unit)=>aN (fun l=>aM k (fun m (b:ag×Int×Unit)=>if dc (b.2.1<ln b.1.2.2.2.2.2.2.2.2.2.2.2.2.1)then bi (nm k (b.1,b.2.1,())) fun r20=>if !r20.1 then some (false,())else m (b.1,IntKind.i64.wrap (b.2.1+1),())else l (b.1,())) (o.1,0,())) (fun(e:ag×Unit)=>bi (jD k (e.1,())) fun d=>bi (if d.1==true then iL k (e.1,())else some (false,())) fun n=>some (if d.1 then n.1 else false,()))))
def OC(k:Nat)(x:ag×cq×Unit):Option (ag×Bool×Unit):=bi (fp k (x.1,())) fun a=>bi (lT k (x.1,())) fun r2=>if(!r2.1)==false then bi (pq k (a.1,x.2.1,())) fun b=>if if !r2.1 then true else !b.1 then bi (fp k (x.1,())) fun c=>some (c.1,false,())else some (b.2.1,true,())else if if !r2.1 then true else !false then bi (fp k (x.1,())) fun d=>some (d.1,false,())else some (a.1,true,())
def Qc(k:Nat)(x:List Int×Unit):Option (ag×Int×Unit):=bi (mA k (x.1,())) fun e=>bi (mX k (x.1,70,())) fun f=>bi (mJ k (e.1,f.1,())) fun a=>let b:=(ln a.1.2.2.2.2.2.2.2.2.2.2.2.2.1:Int);bi (JH k (a.2.1,a.1,([(4:Int)]:List Int),())) fun c=>bi (cB k (c.2.1,2,())) fun d=>if !(((if d.1 then b==5 else false):Bool)==true)||(dc (0<=(0:Int)/\(0:Int)<b))then if if if d.1 then b==5 else false then(gd a.1.2.2.2.2.2.2.2.2.2.2.2.2.1 (tn (0:Int)) ak.aa).1==0 else false then bi (OC k (a.1,((4:Int),0,(([]:List ai),0,0,ByteArray.empty),[]),())) fun g=>bi (OC k (g.1,((5:Int),0,(([]:List ai),0,0,ByteArray.empty),[]),())) fun h=>some (h.1,0,())else some (a.1,c.1,())else none
def mc(k:Nat)(x:bh×Unit):Option (bh×Unit):=if dc (ln ([]:List ByteArray)+ln x.1.2.2.2.2.2<4294967296)then some ((x.1.1,x.1.2.1,x.1.2.2.1,x.1.2.2.2.1,x.1.2.2.2.2.1,([]:List ByteArray)++x.1.2.2.2.2.2),())else none
def fP(k:Nat)(x:List ai×Unit):Option (List ai×Unit):=if dc (ln ([]:List ai)+ln x.1<4294967296)then some (([]:List ai)++x.1,())else none
def c9(k:Nat)(x:ae×Unit):Option (ae×Unit):=bi (fP k (x.1.1,())) fun a=>some ((a.1,x.1.2),())
def dj(k:Nat)(x:List ae×Unit):Option (List ae×Unit):=aM k (fun c (a:List ae×List ae×Int×Int×Unit)=>if dc (a.2.2.2.1<a.2.2.1)then if dc (0<=a.2.2.2.1/\a.2.2.2.1<ln a.2.1)then bi (c9 k (gd a.2.1 (tn a.2.2.2.1) ab.aa,())) fun b=>if dc (ln a.1+ln [b.1]<4294967296)then c (a.1++([b.1]:List ae),a.2.1,a.2.2.1,IntKind.i64.wrap (a.2.2.2.1+1),())else none else none else some (a.1,())) (([]:List ae),x.1,(ln x.1:Int),0,())
def oe(k:Nat)(x:aP×Unit):Option (aP×Unit):=bi (dj k (x.1.2,())) fun a=>some ((x.1.1,a.1),())
def mw(k:Nat)(x:ar×Unit):Option (ar×Unit):=aM k (fun d (b:ar×ar×ar×List aP×Int×Int×Unit)=>let a:=b.2.2;if dc (a.2.2.2.1<a.2.2.1)then if dc (0<=a.2.2.2.1/\a.2.2.2.1<ln a.2.1)then bi (oe k (gd a.2.1 (tn a.2.2.2.1) ax.aa,())) fun c=>if dc (ln a.1.2.2+ln [c.1]<4294967296)then d (b.1,b.2.1,(a.1.1,a.1.2.1,a.1.2.2++([c.1]:List aP)),a.2.1,a.2.2.1,IntKind.i64.wrap (a.2.2.2.1+1),())else none else none else some (a.1,())) (x.1,(0,0,[]),(x.1.1,x.1.2.1,[]),x.1.2.2,(ln x.1.2.2:Int),0,())
def qR(k:Nat)(x:List ar×Unit):Option (List ar×Unit):=aM k (fun c (a:List ar×List ar×Int×Int×Unit)=>if dc (a.2.2.2.1<a.2.2.1)then if dc (0<=a.2.2.2.1/\a.2.2.2.1<ln a.2.1)then bi (mw k (gd a.2.1 (tn a.2.2.2.1) ah.aa,())) fun b=>if dc (ln a.1+ln [b.1]<4294967296)then c (a.1++([b.1]:List ar),a.2.1,a.2.2.1,IntKind.i64.wrap (a.2.2.2.1+1),())else none else none else some (a.1,())) (([]:List ar),x.1,(ln x.1:Int),0,())
def nk(k:Nat)(x:bg×Unit):Option (bg×Unit):=bi (dj k (x.1.1,())) fun a=>some ((a.1,x.1.2),())
def tC(k:Nat)(x:List bg×Unit):Option (List bg×Unit):=aM k (fun c (a:List bg×List bg×Int×Int×Unit)=>if dc (a.2.2.2.1<a.2.2.1)then if dc (0<=a.2.2.2.1/\a.2.2.2.1<ln a.2.1)then bi (nk k (gd a.2.1 (tn a.2.2.2.1) aU.aa,())) fun b=>if dc (ln a.1+ln [b.1]<4294967296)then c (a.1++([b.1]:List bg),a.2.1,a.2.2.1,IntKind.i64.wrap (a.2.2.2.1+1),())else none else none else some (a.1,())) (([]:List bg),x.1,(ln x.1:Int),0,())
def kX(k:Nat)(x:au×Unit):Option (au×Unit):=bi (fP k (x.1.2.1,())) fun a=>bi (dj k (x.1.2.2.2.2,())) fun b=>some ((x.1.1,a.1,x.1.2.2.1,x.1.2.2.2.1,b.1),())
def qk(k:Nat)(x:List au×Unit):Option (List au×Unit):=aM k (fun c (a:List au×List au×Int×Int×Unit)=>if dc (a.2.2.2.1<a.2.2.1)then if dc (0<=a.2.2.2.1/\a.2.2.2.1<ln a.2.1)then bi (kX k (gd a.2.1 (tn a.2.2.2.1) aj.aa,())) fun b=>if dc (ln a.1+ln [b.1]<4294967296)then c (a.1++([b.1]:List au),a.2.1,a.2.2.1,IntKind.i64.wrap (a.2.2.2.1+1),())else none else none else some (a.1,())) (([]:List au),x.1,(ln x.1:Int),0,())
def mT(k:Nat)(x:List aJ×Unit):Option (List aJ×Unit):=if dc (ln ([]:List aJ)+ln x.1<4294967296)then some (([]:List aJ)++x.1,())else none
def oV(k:Nat)(x:br×Unit):Option (br×Unit):=bi (fP k (x.1.2.1,())) fun a=>bi (dj k (x.1.2.2.2,())) fun b=>some ((x.1.1,a.1,x.1.2.2.1,b.1),())
def pY(k:Nat)(x:aF×Unit):Option (aF×Unit):=bi (c9 k (x.1.2.2.1,())) fun a=>bi (fP k (x.1.2.2.2.1,())) fun b=>if dc (ln ([]:List Int)+ln x.1.2.2.2.2.2.1<4294967296)then bi (dj k (x.1.2.2.2.2.2.2.1,())) fun c=>some ((x.1.1,x.1.2.1,a.1,b.1,x.1.2.2.2.2.1,([]:List Int)++x.1.2.2.2.2.2.1,c.1,x.1.2.2.2.2.2.2.2),())else none
def qf(k:Nat)(x:aC×Unit):Option (aC×Unit):=bi (c9 k (x.1.2.2.1,())) fun a=>bi (fP k (x.1.2.2.2.1,())) fun b=>bi (dj k (x.1.2.2.2.2.2.2.2.1,())) fun c=>some ((x.1.1,x.1.2.1,a.1,b.1,x.1.2.2.2.2.1,x.1.2.2.2.2.2.1,x.1.2.2.2.2.2.2.1,c.1,x.1.2.2.2.2.2.2.2.2),())
def fF(k:Nat)(x:ag×Unit):Option (ag×Unit):=let i:=x.1.2.2.2.2.2.2.2;bi (mc k (x.1.1,())) fun u=>bi (qR k (x.1.2.2.2.1,())) fun v=>bi (tC k (x.1.2.2.2.2.1,())) fun w=>bi (dj k (x.1.2.2.2.2.2.1,())) fun y=>bi (dj k (i.2.2.2.2.1,())) fun z=>bi (qk k (i.1,())) fun B=>bi (mT k (i.2.2.1,())) fun C=>aN (fun D=>aM k (fun p (b:ag×ag×List br×List br×Int×Int×Unit)=>let h:=b.2.2.2;if dc (h.2.2.1<h.2.1)then if dc (0<=h.2.2.1/\h.2.2.1<ln h.1)then bi (oV k (gd h.1 (tn h.2.2.1) bM.aa,())) fun l=>if dc (ln b.2.2.1+ln [l.1]<4294967296)then p (b.1,b.2.1,b.2.2.1++([l.1]:List br),h.1,h.2.1,IntKind.i64.wrap (h.2.2.1+1),())else none else none else D (b.1,b.2.1,b.2.2.1,())) ((u.1,x.1.2.1,x.1.2.2.1,v.1,w.1,y.1,x.1.2.2.2.2.2.2.1,B.1,i.2.1,C.1,i.2.2.2.1,z.1,i.2.2.2.2.2),((0,0,0,0,0,[]),0,0,[],[],[],0,[],0,[],[],[],[],[]),[],i.2.2.2.1,(ln i.2.2.2.1:Int),0,())) (fun(o:ag×ag×List br×Unit)=>aN (fun q=>aM k (fun r (d:ag×ag×List br×List aF×List aF×Int×Int×Unit)=>let f:=d.2.2.2;if dc (f.2.2.2.1<f.2.2.1)then if dc (0<=f.2.2.2.1/\f.2.2.2.1<ln f.2.1)then bi (pY k (gd f.2.1 (tn f.2.2.2.1) ak.aa,())) fun m=>if dc (ln f.1+ln [m.1]<4294967296)then r (d.1,d.2.1,d.2.2.1,f.1++([m.1]:List aF),f.2.1,f.2.2.1,IntKind.i64.wrap (f.2.2.2.1+1),())else none else none else q (d.1,d.2.1,d.2.2.1,f.1,())) (o.1,o.2.1,o.2.2.1,[],o.1.2.2.2.2.2.2.2.2.2.2.2.2.1,(ln o.1.2.2.2.2.2.2.2.2.2.2.2.2.1:Int),0,())) (fun(e:ag×ag×List br×List aF×Unit)=>aN (fun s=>aM k (fun t (a:ag×ag×List br×List aF×List aC×List aC×Int×Int×Unit)=>let g:=a.2.2.2.2;if dc (g.2.2.2.1<g.2.2.1)then if dc (0<=g.2.2.2.1/\g.2.2.2.1<ln g.2.1)then bi (qf k (gd g.2.1 (tn g.2.2.2.1) aw.aa,())) fun n=>if dc (ln g.1+ln [n.1]<4294967296)then t (a.1,a.2.1,a.2.2.1,a.2.2.2.1,g.1++([n.1]:List aC),g.2.1,g.2.2.1,IntKind.i64.wrap (g.2.2.2.1+1),())else none else none else s (a.1,a.2.1,a.2.2.1,a.2.2.2.1,g.1,())) (e.1,e.2.1,e.2.2.1,e.2.2.2.1,[],e.1.2.2.2.2.2.2.2.2.2.2.2.2.2,(ln e.1.2.2.2.2.2.2.2.2.2.2.2.2.2:Int),0,())) (fun(c:ag×ag×List br×List aF×List aC×Unit)=>let j:=c.1.2.2.2.2;some ((c.1.1,c.1.2.1,c.1.2.2.1,c.1.2.2.2.1,j.1,j.2.1,j.2.2.1,j.2.2.2.1,j.2.2.2.2.1,j.2.2.2.2.2.1,c.2.2.1,j.2.2.2.2.2.2.2.1,c.2.2.2.1,c.2.2.2.2.1),()))))
def bP(k:Nat)(x:Int×Int×Int×Unit):Option (Bool×Unit):=some (if dc (x.1>=x.2.1)then dc (x.1<=x.2.2.1)else false,())
def lJ(k:Nat)(x:ByteArray×Unit):Option (Bool×Unit):=bi (bP k (((ByteArray.size x.1:Nat):Int),1,8,())) fun r1=>if !r1.1 then some (false,())else aM k (fun G2 (a:ByteArray×Int×Unit)=>if dc (a.2.1<((ByteArray.size a.1:Nat):Int))then if dc (0<=a.2.1/\a.2.1<((ByteArray.size a.1:Nat):Int))then if !(dc (((bt a.1 a.2.1):Int)<97)==false)||(dc (0<=a.2.1/\a.2.1<((ByteArray.size a.1:Nat):Int)))then if if dc (((bt a.1 a.2.1):Int)<97)then true else dc (((bt a.1 a.2.1):Int)>122)then some (false,())else G2 (a.1,IntKind.i64.wrap (a.2.1+1),())else none else none else some (true,())) (x.1,0,())
def nC(k:Nat)(x:List ByteArray×Unit):Option (Bool×Unit):=aM k (fun d (a:List ByteArray×Int×Unit)=>let b:=IntKind.i64.wrap (a.2.1-1);let c:=(ln a.1:Int);if dc (a.2.1<c)then if dc (0<=b/\b<c)then if dc (0<=a.2.1/\a.2.1<c)then if !(Op.bytesLess (ByteArray.toList (gd a.1 (tn b) ByteArray.empty)) (ByteArray.toList (gd a.1 (tn a.2.1) ByteArray.empty)))then some (false,())else d (a.1,IntKind.i64.wrap (a.2.1+1),())else none else none else some (true,())) (x.1,1,())
def qM(k:Nat)(x:List ByteArray×Unit):Option (Bool×Unit):=aN (fun d=>aM k (fun e (a:List ByteArray×List ByteArray×Int×Int×Unit)=>if dc (a.2.2.2.1<a.2.2.1)then if dc (0<=a.2.2.2.1/\a.2.2.2.1<ln a.2.1)then bi (lJ k (gd a.2.1 (tn a.2.2.2.1) ByteArray.empty,())) fun r5=>if !r5.1 then some (false,())else e (a.1,a.2.1,a.2.2.1,IntKind.i64.wrap (a.2.2.2.1+1),())else none else d (a.1,())) (x.1,x.1,(ln x.1:Int),0,())) (fun(b:List ByteArray×Unit)=>let c:=(ln b.1:Int)<=2;bi (if dc c==true then nC k (b.1,())else some (false,())) fun f=>some (if dc c then f.1 else false,()))
def mI(k:Nat)(x:bh×Unit):Option (Bool×Unit):=bi (bP k (x.1.1,1,3,())) fun a=>bi (if a.1==true then bP k (x.1.2.1,1,8,())else some (false,())) fun b=>bi (if((if a.1 then b.1 else false):Bool)==true then bP k (x.1.2.2.1,1,2,())else some (false,())) fun c=>bi (if((if if a.1 then b.1 else false then c.1 else false):Bool)==true then bP k (x.1.2.2.2.1,1,9,())else some (false,())) fun d=>bi (if((if if if a.1 then b.1 else false then c.1 else false then d.1 else false):Bool)==true then bP k (x.1.2.2.2.2.1,1,9,())else some (false,())) fun e=>bi (if((if if if if a.1 then b.1 else false then c.1 else false then d.1 else false then e.1 else false):Bool)==true then qM k (x.1.2.2.2.2.2,())else some (false,())) fun f=>some (if if if if if a.1 then b.1 else false then c.1 else false then d.1 else false then e.1 else false then f.1 else false,())
def kh(k:Nat)(x:ByteArray×Unit):Option (Bool×Unit):=if dc ((((ByteArray.size x.1:Nat):Int):Int)>12)then some (false,())else aM k (fun b (a:ByteArray×Int×Unit)=>if dc (a.2.1<((ByteArray.size a.1:Nat):Int))then if dc (0<=a.2.1/\a.2.1<((ByteArray.size a.1:Nat):Int))then if if if if dc (((bt a.1 a.2.1):Int)<32)then true else dc (((bt a.1 a.2.1):Int)>126)then true else((bt a.1 a.2.1):Int)==34 then true else((bt a.1 a.2.1):Int)==92 then some (false,())else b (a.1,IntKind.i64.wrap (a.2.1+1),())else none else some (true,())) (x.1,0,())
def nh(k:Nat)(x:ai×Unit):Option (Bool×Unit):=bi (lJ k (x.1.1,())) fun a=>bi (if a.1==true then kh k (x.1.2,())else some (false,())) fun b=>some (if a.1 then b.1 else false,())
def iP(k:Nat)(x:List ai×Unit):Option (Bool×Unit):=aM k (fun e (a:List ai×List ai×Int×Int×Unit)=>let b:=a.2.2.2.1;let c:=IntKind.i64.wrap (b-1);let d:=b>=4;if dc (b<a.2.2.1)then if dc (0<=b/\b<ln a.2.1)then bi (if dc d==false then nh k (gd a.2.1 (tn b) al.aa,())else some (false,())) fun r3=>if !((((if dc d then true else !r3.1):Bool)==false)&&(dc (b>0)==true))||(dc (0<=c/\c<ln a.1))then if if if dc d then true else !r3.1 then true else if dc (b>0)then !(Op.bytesLess (ByteArray.toList (gd a.1 (tn c) al.aa).1) (ByteArray.toList (gd a.2.1 (tn b) al.aa).1))else false then some (false,())else e (a.1,a.2.1,a.2.2.1,IntKind.i64.wrap (b+1),())else none else none else some (true,())) (x.1,x.1,(ln x.1:Int),0,())
def eC(k:Nat)(x:ae×Unit):Option (Bool×Unit):=let a:=(ln x.1.1:Int)>0;bi (if dc a==true then iP k (x.1.1,())else some (false,())) fun b=>bi (if((if dc a then b.1 else false):Bool)==true then bP k (x.1.2.1,0,99999,())else some (false,())) fun c=>bi (if((if if dc a then b.1 else false then c.1 else false):Bool)==true then bP k (x.1.2.2.1,x.1.2.1,99999,())else some (false,())) fun d=>bi (if((if if if dc a then b.1 else false then c.1 else false then d.1 else false):Bool)==true then kh k (x.1.2.2.2,())else some (false,())) fun e=>some (if if if if dc a then b.1 else false then c.1 else false then d.1 else false then e.1 else false,())
def nJ(k:Nat)(x:List ai×Unit):Option (ByteArray×Unit):=bi (iP k (x.1,())) fun r1=>if !r1.1 then some ((⟨#[]⟩:ByteArray),())else aN (fun e=>aM k (fun f (a:List ByteArray×List ai×Int×Int×Unit)=>let b:=gd a.2.1 (tn a.2.2.2.1) al.aa;let c:=b.1++(⟨#[61,34]⟩:ByteArray);if dc (a.2.2.2.1<a.2.2.1)then if dc (0<=a.2.2.2.1/\a.2.2.2.1<ln a.2.1)then if dc ((b.1).size+(⟨#[61,34]⟩:ByteArray).size<4294967296)then if dc ((c).size+(b.2).size<4294967296)then if dc ((c++b.2).size+(⟨#[34]⟩:ByteArray).size<4294967296)then if dc (ln a.1+ln ([(c++b.2)++(⟨#[34]⟩:ByteArray)]:List ByteArray)<4294967296)then f (a.1++([(c++b.2)++(⟨#[34]⟩:ByteArray)]:List ByteArray),a.2.1,a.2.2.1,IntKind.i64.wrap (a.2.2.2.1+1),())else none else none else none else none else none else e (a.1,())) (([]:List ByteArray),x.1,(ln x.1:Int),0,())) (fun(g:List ByteArray×Unit)=>bi (qA k (g.1,(⟨#[44,32]⟩:ByteArray),())) fun d=>if dc ((⟨#[123]⟩:ByteArray).size+(d.1).size<4294967296)then if dc (((⟨#[123]⟩:ByteArray)++d.1).size+(⟨#[125]⟩:ByteArray).size<4294967296)then some (((⟨#[123]⟩:ByteArray)++d.1)++(⟨#[125]⟩:ByteArray),())else none else none)
def pS(k:Nat)(x:ByteArray×Unit):Option (Int×Unit):=aN (fun b=>aM k (fun c (a:ByteArray×Int×Int×Unit)=>if dc (a.2.2.1<((ByteArray.size a.1:Nat):Int))then if dc (0<=a.2.2.1/\a.2.2.1<((ByteArray.size a.1:Nat):Int))then c (a.1,IntKind.u32.wrap ((bits (fun _=>(·^^^·)) .u32 a.2.1 (IntKind.u32.wrap (bt a.1 a.2.2.1)))*(16777619:Int)),IntKind.i64.wrap (a.2.2.1+1),())else none else b (a.2.1,())) (x.1,2166136261,0,())) (fun(d:Int×Unit)=>some (IntKind.i64.wrap d.1,()))
def eP(k:Nat)(x:List ai×Unit):Option (Int×Unit):=bi (nJ k (x.1,())) fun b=>bi (pS k (b.1,())) fun a=>if dc (0<=(16:Int))then if dc ((32:Int)≠0)then some (Int.tmod (bits (fun _=>(·^^^·)) .i64 a.1 (Int.fdiv a.1 (2^(min (tn (16:Int)) IntKind.i64.bits)))) (32:Int),())else none else none
def cg(k:Nat)(x:List ai×List ai×Unit):Option (Bool×Unit):=if(ln x.1:Int) != (ln x.2.1:Int)then some (false,())else aM k (fun c (a:List ai×List ai×Int×Int×Unit)=>let b:=a.2.2.2.1;if dc (b<a.2.2.1)then if dc (0<=b/\b<ln a.1)then if dc (0<=b/\b<ln a.2.1)then if !(eqv al (gd a.1 (tn b) al.aa) (gd a.2.1 (tn b) al.aa))then some (false,())else c (a.1,a.2.1,a.2.2.1,IntKind.i64.wrap (b+1),())else none else none else some (true,())) (x.1,x.2.1,(ln x.1:Int),0,())
def gy(k:Nat)(x:List ae×List ai×Unit):Option (Int×Unit):=aM k (fun b (a:List ai×List ae×Int×Int×Unit)=>if dc (a.2.2.2.1<a.2.2.1)then if dc (0<=a.2.2.2.1/\a.2.2.2.1<ln a.2.1)then bi (cg k ((gd a.2.1 (tn a.2.2.2.1) ab.aa).1,a.1,())) fun c=>if c.1 then some (a.2.2.2.1,())else b (a.1,a.2.1,a.2.2.1,IntKind.i64.wrap (a.2.2.2.1+1),())else none else some ((-1:Int),())) (x.2.1,x.1,(ln x.1:Int),0,())
def jl(k:Nat)(x:List ae×Unit):Option (Bool×Unit):=aM k (fun c (a:List ae×List ae×Int×Int×Unit)=>let b:=a.2.2.2.1;if dc (b<a.2.2.1)then if dc (0<=b/\b<ln a.2.1)then if dc (0<=b/\b<=ln a.1)then bi (gy k (ta (tn b) a.1,(gd a.2.1 (tn b) ab.aa).1,())) fun d=>if dc (d.1>=0)then some (false,())else c (a.1,a.2.1,a.2.2.1,IntKind.i64.wrap (b+1),())else none else none else some (true,())) (x.1,x.1,(ln x.1:Int),0,())
def nr(k:Nat)(x:aP×Unit):Option (Bool×Unit):=aN (fun d=>aM k (fun e (a:aP×List ae×Int×Int×Unit)=>if dc (a.2.2.2.1<a.2.2.1)then if dc (0<=a.2.2.2.1/\a.2.2.2.1<ln a.2.1)then bi (eC k (gd a.2.1 (tn a.2.2.2.1) ab.aa,())) fun r5=>bi (if(!r5.1)==false then eP k ((gd a.2.1 (tn a.2.2.2.1) ab.aa).1,())else some (0,())) fun f=>if if !r5.1 then true else f.1 != a.1.1 then some (false,())else e (a.1,a.2.1,a.2.2.1,IntKind.i64.wrap (a.2.2.2.1+1),())else none else d (a.1,())) (x.1,x.1.2,(ln x.1.2:Int),0,())) (fun(b:aP×Unit)=>let c:=(ln b.1.2:Int)>0;bi (if dc c==true then jl k (b.1.2,())else some (false,())) fun g=>some (if dc c then g.1 else false,()))
def gQ(k:Nat)(x:Int×Int×Unit):Option (Int×Unit):=if if dc (x.2.1<1)then true else dc (x.1<0)then some ((0:Int),())else if dc (x.2.1≠0)then some (Int.tmod x.1 x.2.1,())else none
def oQ(k:Nat)(x:ar×Int×Int×Unit):Option (Bool×Unit):=aN (fun g=>aM k (fun h (a:Int×Int×ar×List aP×Int×Int×Unit)=>let b:=a.2.2.2.2.2.1;let c:=IntKind.i64.wrap (b-1);let f:=gd a.2.2.2.1 (tn b) ax.aa;if dc (b<a.2.2.2.2.1)then if dc (0<=b/\b<ln a.2.2.2.1)then bi (nr k (gd a.2.2.2.1 (tn b) ax.aa,())) fun r5=>bi (if(!r5.1)==false then gQ k (f.1,a.2.1,())else some (0,())) fun d=>if !((((if !r5.1 then true else d.1 != a.1):Bool)==false)&&(dc (b>0)==true))||(dc (0<=c/\c<ln a.2.2.1.2.2))then if if if !r5.1 then true else d.1 != a.1 then true else if dc (b>0)then dc ((gd a.2.2.1.2.2 (tn c) ax.aa).1>=f.1)else false then some (false,())else h (a.1,a.2.1,a.2.2.1,a.2.2.2.1,a.2.2.2.2.1,IntKind.i64.wrap (b+1),())else none else none else g (a.2.2.1,())) (x.2.1,x.2.2.1,x.1,x.1.2.2,(ln x.1.2.2:Int),0,())) (fun(e:ar×Unit)=>bi (bP k (e.1.1,-1,4,())) fun i=>some (if i.1 then dc (e.1.2.1>=0)else false,()))
def ng(k:Nat)(x:List ar×Unit):Option (Bool×Unit):=bi (bP k ((ln x.1:Int),1,3,())) fun r1=>if !r1.1 then some (false,())else aM k (fun G2 (a:List ar×List ar×Int×Int×Unit)=>if dc (a.2.2.2.1<a.2.2.1)then if dc (0<=a.2.2.2.1/\a.2.2.2.1<ln a.2.1)then bi (oQ k (gd a.2.1 (tn a.2.2.2.1) ah.aa,a.2.2.2.1,(ln a.1:Int),())) fun r4=>if !r4.1 then some (false,())else G2 (a.1,a.2.1,a.2.2.1,IntKind.i64.wrap (a.2.2.2.1+1),())else none else some (true,())) (x.1,x.1,(ln x.1:Int),0,())
def jQ(k:Nat)(x:List ar×Unit):Option (Int×Unit):=aM k (fun e (a:Int×List ar×Int×Int×Unit)=>let d:=(gd a.2.1 (tn a.2.2.2.1) ah.aa).2;if dc (a.2.2.2.1<a.2.2.1)then if dc (0<=a.2.2.2.1/\a.2.2.2.1<ln a.2.1)then aM k (fun f (b:Int×ar×List ar×Int×Int×List aP×Int×Int×Unit)=>let c:=b.2.2.2.2.2;if dc (c.2.2.1<c.2.1)then if dc (0<=c.2.2.1/\c.2.2.1<ln c.1)then f (IntKind.i64.wrap (b.1+((ln (gd c.1 (tn c.2.2.1) ax.aa).2:Nat):Int)),b.2.1,b.2.2.1,b.2.2.2.1,b.2.2.2.2.1,c.1,c.2.1,IntKind.i64.wrap (c.2.2.1+1),())else none else e (b.1,b.2.2.1,b.2.2.2.1,IntKind.i64.wrap (b.2.2.2.2.1+1),())) (a.1,gd a.2.1 (tn a.2.2.2.1) ah.aa,a.2.1,a.2.2.1,a.2.2.2.1,d.2,((ln (d.2):Nat):Int),0,())else none else some (a.1,())) ((0:Int),x.1,(ln x.1:Int),0,())
def iK(k:Nat)(x:ar×Unit):Option (List ae×Unit):=aM k (fun c (a:ar×List ae×List aP×Int×Int×Unit)=>if dc (a.2.2.2.2.1<a.2.2.2.1)then if dc (0<=a.2.2.2.2.1/\a.2.2.2.2.1<ln a.2.2.1)then bi (dj k ((gd a.2.2.1 (tn a.2.2.2.2.1) ax.aa).2,())) fun b=>if dc (ln a.2.1+ln b.1<4294967296)then c (a.1,a.2.1++b.1,a.2.2.1,a.2.2.2.1,IntKind.i64.wrap (a.2.2.2.2.1+1),())else none else none else some (a.2.1,())) (x.1,[],x.1.2.2,(ln x.1.2.2:Int),0,())
def jF(k:Nat)(x:List ar×Unit):Option (List ae×Unit):=aN (fun c=>aM k (fun d (a:List ae×List ar×Int×Int×Unit)=>if dc (a.2.2.2.1<a.2.2.1)then if dc (0<=a.2.2.2.1/\a.2.2.2.1<ln a.2.1)then bi (iK k (gd a.2.1 (tn a.2.2.2.1) ah.aa,())) fun b=>if dc (ln a.1+ln b.1<4294967296)then d (a.1++b.1,a.2.1,a.2.2.1,IntKind.i64.wrap (a.2.2.2.1+1),())else none else none else c (a.1,())) (([]:List ae),x.1,(ln x.1:Int),0,())) (fun(f:List ae×Unit)=>bi (mh k (f.1,())) fun e=>some (e.1,()))
def mU(k:Nat)(x:bh×ae×Unit):Option (Bool×Unit):=bi (eC k (x.2.1,())) fun a=>some (if a.1 then dc (x.2.1.2.2.1<=99899)else false,())
def j8(k:Nat)(x:ag×Unit):Option (Bool×Unit):=let c:=((ln x.1.2.2.2.1:Int):Int);bi (ng k (x.1.2.2.2.1,())) fun r1=>bi (if((if !r1.1 then true else c != x.1.1.1):Bool)==false then jQ k (x.1.2.2.2.1,())else some (0,())) fun d=>if if if !r1.1 then true else c != x.1.1.1 then true else dc (d.1>x.1.1.2.1)then some (false,())else bi (jF k (x.1.2.2.2.1,())) fun b=>aM k (fun e (a:ag×List ae×Int×Int×Unit)=>if dc (a.2.2.2.1<a.2.2.1)then if dc (0<=a.2.2.2.1/\a.2.2.2.1<ln a.2.1)then bi (mU k (a.1.1,gd a.2.1 (tn a.2.2.2.1) ab.aa,())) fun r6=>if !r6.1 then some (false,())else e (a.1,a.2.1,a.2.2.1,IntKind.i64.wrap (a.2.2.2.1+1),())else none else some (true,())) (x.1,b.1,(ln b.1:Int),0,())
def fA(k:Nat)(x:List ae×Unit):Option (Bool×Unit):=aM k (fun b (a:List ae×Int×Int×Unit)=>if dc (a.2.2.1<a.2.1)then if dc (0<=a.2.2.1/\a.2.2.1<ln a.1)then bi (eC k (gd a.1 (tn a.2.2.1) ab.aa,())) fun r3=>if !r3.1 then some (false,())else b (a.1,a.2.1,IntKind.i64.wrap (a.2.2.1+1),())else none else some (true,())) (x.1,(ln x.1:Int),0,())
def pV(k:Nat)(x:bg×Unit):Option (Bool×Unit):=let a:=((ln x.1.1:Int):Int);if x.1.2 then some (a==0,())else bi (if dc (a<=3)==true then fA k (x.1.1,())else some (false,())) fun b=>some (if dc (a<=3)then b.1 else false,())
def lp(k:Nat)(x:List bg×bh×Unit):Option (Bool×Unit):=aN (fun c=>aM k (fun d (a:List bg×bh×List bg×Int×Int×Unit)=>if dc (a.2.2.2.2.1<a.2.2.2.1)then if dc (0<=a.2.2.2.2.1/\a.2.2.2.2.1<ln a.2.2.1)then bi (pV k (gd a.2.2.1 (tn a.2.2.2.2.1) aU.aa,())) fun r5=>if !r5.1 then some (false,())else d (a.1,a.2.1,a.2.2.1,a.2.2.2.1,IntKind.i64.wrap (a.2.2.2.2.1+1),())else none else c (a.1,a.2.1,())) (x.1,x.2.1,x.1,(ln x.1:Int),0,())) (fun(b:List bg×bh×Unit)=>some ((ln b.1:Int)==b.2.1.2.2.1,()))
def lY(k:Nat)(x:Int×Int×Unit):Option (Bool×Unit):=if x.1==1 then bi (bP k (x.2.1,1,4,())) fun a=>some (a.1,())else if x.1==3 then bi (bP k (x.2.1,5,6,())) fun b=>some (b.1,())else if x.1==7 then bi (bP k (x.2.1,1,3,())) fun c=>some (c.1,())else if x.1==8 then some (if x.2.1==8 then true else x.2.1==6,())else if x.1==9 then bi (bP k (x.2.1,5,7,())) fun d=>some (d.1,())else some (x.2.1==8,())
def oF(k:Nat)(x:aC×Unit):Option (Bool×Unit):=let b:=x.1.2.2.2.2;let a:=b.2.2.2.2.2;let c:=a.2.2== -1;bi (bP k (x.1.1,1,9,())) fun r1=>bi (if(!r1.1)==false then bP k (x.1.2.1,-1,4,())else some (false,())) fun r2=>if if if if if if !r1.1 then true else !r2.1 then true else dc (a.1<0)then true else dc (b.1<0)then true else dc (b.2.1<0)then true else dc (b.2.2.2.2.1<0)then some (false,())else if a.2.1== -1 then some (if c then b.2.2.1==0 else false,())else bi (if((if dc (a.2.1>=a.1)then if c then true else dc (a.2.2>=a.2.1)else false):Bool)==true then lY k (x.1.1,b.2.2.1,())else some (false,())) fun d=>some (if if dc (a.2.1>=a.1)then if c then true else dc (a.2.2>=a.2.1)else false then d.1 else false,())
def bW(k:Nat)(x:ae×ae×Unit):Option (Bool×Unit):=bi (cg k (x.1.1,x.2.1.1,())) fun a=>some (if if if a.1 then x.1.2.1==x.2.1.2.1 else false then x.1.2.2.1==x.2.1.2.2.1 else false then ByteArray.toList x.1.2.2.2==ByteArray.toList x.2.1.2.2.2 else false,())
def jy(k:Nat)(x:List Int×List Int×Unit):Option (Bool×Unit):=if(ln x.1:Int) != (ln x.2.1:Int)then some (false,())else aM k (fun c (a:List Int×List Int×Int×Int×Unit)=>let b:=a.2.2.2.1;if dc (b<a.2.2.1)then if dc (0<=b/\b<ln a.1)then if dc (0<=b/\b<ln a.2.1)then if((gd a.1 (tn b) 0):Int) != (gd a.2.1 (tn b) 0)then some (false,())else c (a.1,a.2.1,a.2.2.1,IntKind.i64.wrap (b+1),())else none else none else some (true,())) (x.1,x.2.1,(ln x.1:Int),0,())
def cY(k:Nat)(x:List ae×List ae×Unit):Option (Bool×Unit):=if(ln x.1:Int) != (ln x.2.1:Int)then some (false,())else aM k (fun c (a:List ae×List ae×Int×Int×Unit)=>let b:=a.2.2.2.1;if dc (b<a.2.2.1)then if dc (0<=b/\b<ln a.1)then if dc (0<=b/\b<ln a.2.1)then bi (bW k (gd a.1 (tn b) ab.aa,gd a.2.1 (tn b) ab.aa,())) fun r3=>if !r3.1 then some (false,())else c (a.1,a.2.1,a.2.2.1,IntKind.i64.wrap (b+1),())else none else none else some (true,())) (x.1,x.2.1,(ln x.1:Int),0,())
def jt(k:Nat)(x:aF×aF×Unit):Option (Bool×Unit):=let c:=x.1.1==x.2.1.1;let a:=x.2.1.2.2.2.2;let b:=x.1.2.2.2.2;let d:=(x.1.2.1:Int);bi (if((if c then d==x.2.1.2.1 else false):Bool)==true then bW k (x.1.2.2.1,x.2.1.2.2.1,())else some (false,())) fun e=>bi (if((if if c then d==x.2.1.2.1 else false then e.1 else false):Bool)==true then cg k (x.1.2.2.2.1,x.2.1.2.2.2.1,())else some (false,())) fun f=>bi (if((if if if if c then d==x.2.1.2.1 else false then e.1 else false then f.1 else false then b.1==a.1 else false):Bool)==true then jy k (b.2.1,a.2.1,())else some (false,())) fun g=>bi (if((if if if if if c then d==x.2.1.2.1 else false then e.1 else false then f.1 else false then b.1==a.1 else false then g.1 else false):Bool)==true then cY k (b.2.2.1,a.2.2.1,())else some (false,())) fun h=>some (if if if if if if if if c then d==x.2.1.2.1 else false then e.1 else false then f.1 else false then b.1==a.1 else false then g.1 else false then h.1 else false then b.2.2.2.1==a.2.2.2.1 else false then b.2.2.2.2==a.2.2.2.2 else false,())
def oP(k:Nat)(x:aF×Unit):Option (Bool×Unit):=aN (fun d=>aM k (fun e (a:aF×List Int×Int×Int×Unit)=>if dc (a.2.2.2.1<a.2.2.1)then if dc (0<=a.2.2.2.1/\a.2.2.2.1<ln a.2.1)then if dc (((gd a.2.1 (tn a.2.2.2.1) 0):Int)<0)then some (false,())else e (a.1,a.2.1,a.2.2.1,IntKind.i64.wrap (a.2.2.2.1+1),())else none else d (a.1,())) (x.1,x.1.2.2.2.2.2.1,(ln x.1.2.2.2.2.2.1:Int),0,())) (fun(b:aF×Unit)=>let c:=(ln b.1.2.2.2.2.2.1:Int) != b.1.2.2.2.2.1;bi (if c==false then fA k (b.1.2.2.2.2.2.2.1,())else some (false,())) fun r5=>if if c then true else !r5.1 then some (false,())else if b.1.2.1==2 then bi (bP k (b.1.2.2.2.2.1,1,3,())) fun f=>some (f.1,())else bi (bP k (b.1.2.2.2.2.1,0,2,())) fun g=>some (g.1,()))
def oS(k:Nat)(x:aF×Int×Unit):Option (Bool×Unit):=let d:=x.1.2.2.2.2;let f:=x.2.1<3;let b:=d.2.2.2;aN (fun c=>bi (bP k (x.2.1,0,4,())) fun r3=>if !r3.1 then some (false,())else if x.1.1==0 then bi (jt k (x.1,(0,0,(([]:List ai),0,0,ByteArray.empty),[],0,[],[],0,0),())) fun h=>some (h.1,())else if if x.1.1==1 then dc f else false then bi (eC k (x.1.2.2.1,())) fun i=>c (x.1,(x.1.1,x.1.2.1,x.1.2.2.1,[],0,[],[],0,b.2),i.1,2,())else if if x.1.1==2 then dc f else false then bi (iP k (x.1.2.2.2.1,())) fun j=>c (x.1,(x.1.1,x.1.2.1,(([]:List ai),0,0,ByteArray.empty),x.1.2.2.2.1,0,[],[],0,b.2),j.1,1,())else if if x.1.1==3 then dc f else false then bi (oP k (x.1,())) fun l=>c (x.1,(x.1.1,x.1.2.1,(([]:List ai),0,0,ByteArray.empty),[],d.1,d.2.1,d.2.2.1,0,b.2),l.1,2,())else if if x.1.1==4 then dc f else false then bi (bP k (d.1,0,2,())) fun m=>c (x.1,(x.1.1,x.1.2.1,(([]:List ai),0,0,ByteArray.empty),[],d.1,[],[],0,b.2),m.1,1,())else if if x.1.1==5 then x.2.1==3 else false then bi (eC k (x.1.2.2.1,())) fun n=>c (x.1,(x.1.1,x.1.2.1,x.1.2.2.1,[],0,[],[],0,b.2),n.1,1,())else if if x.1.1==6 then x.2.1==4 else false then c (x.1,(x.1.1,x.1.2.1,(([]:List ai),0,0,ByteArray.empty),[],0,[],[],b),dc (b.1>=0),1,())else c (x.1,(x.1.1,x.1.2.1,(([]:List ai),0,0,ByteArray.empty),[],0,[],[],0,b.2),false,1,())) (fun(a:aF×aF×Bool×Int×Unit)=>bi (if a.2.2.1==true then bP k (a.1.2.1,0,a.2.2.2.1,())else some (false,())) fun e=>bi (if((if if a.2.2.1 then e.1 else false then dc (a.1.2.2.2.2.2.2.2.2>=0)else false):Bool)==true then jt k (a.1,a.2.1,())else some (false,())) fun g=>some (if if if a.2.2.1 then e.1 else false then dc (a.1.2.2.2.2.2.2.2.2>=0)else false then g.1 else false,()))
def mZ(k:Nat)(x:List ar×List ai×Unit):Option (Int×Unit):=bi (eP k (x.2.1,())) fun a=>bi (gQ k (a.1,(ln x.1:Int),())) fun b=>some (b.1,())
def lv(k:Nat)(x:ar×Int×Unit):Option (Int×Unit):=aM k (fun c (a:Int×ar×List aP×Int×Int×Unit)=>let b:=a.2.2.2.2.1;if dc (b<a.2.2.2.1)then if dc (0<=b/\b<ln a.2.2.1)then if(gd a.2.2.1 (tn b) ax.aa).1==a.1 then some (b,())else c (a.1,a.2.1,a.2.2.1,a.2.2.2.1,IntKind.i64.wrap (b+1),())else none else some ((-1:Int),())) (x.2.1,x.1,x.1.2.2,(ln x.1.2.2:Int),0,())
def lx(k:Nat)(x:aP×List ai×Unit):Option (Int×Unit):=bi (gy k (x.1.2,x.2.1,())) fun a=>some (a.1,())
def oC(k:Nat)(x:ar×List ai×Unit):Option (ae×Bool×Unit):=bi (eP k (x.2.1,())) fun d=>bi (lv k (x.1,d.1,())) fun a=>let c:=(gd x.1.2.2 (tn a.1) ax.aa).2;if dc (a.1<0)then some ((([]:List ai),0,0,ByteArray.empty),false,())else if dc (0<=a.1/\a.1<ln x.1.2.2)then bi (lx k (gd x.1.2.2 (tn a.1) ax.aa,x.2.1,())) fun b=>if dc (b.1<0)then some ((([]:List ai),0,0,ByteArray.empty),false,())else if dc (0<=a.1/\a.1<ln x.1.2.2)then if dc (0<=b.1/\b.1<ln c)then bi (c9 k (gd c (tn b.1) ab.aa,())) fun e=>some (e.1,true,())else none else none else none
def iW(k:Nat)(x:List ar×List ai×Unit):Option (ae×Bool×Unit):=if(ln x.1:Int)==0 then some ((([]:List ai),0,0,ByteArray.empty),false,())else bi (mZ k (x.1,x.2.1,())) fun a=>if dc (0<=a.1/\a.1<ln x.1)then bi (oC k (gd x.1 (tn a.1) ah.aa,x.2.1,())) fun b=>some (b.1,b.2.1,())else none
def ld(k:Nat)(x:ag×aF×Unit):Option (Bool×Unit):=let g:=(ln x.2.1.2.2.2.2.2.1:Int);if if if dc (x.2.1.2.1<2)then dc (x.2.1.2.2.2.2.1>=x.1.1.1)else false then true else if x.2.1.2.1==2 then g != x.1.1.1 else false then some (false,())else aN (fun i=>aM k (fun j (b:ag×aF×Bool×List ae×List Int×Int×Int×Unit)=>let c:=b.2.2.2;let a:=c.2.2.2.1;let d:=(ln b.1.2.2.2.1:Int);let h:=(gd b.1.2.2.2.1 (tn a) ah.aa).2.1;if dc (a<c.2.2.1)then if dc (0<=a/\a<ln c.2.1)then if dc (0<=a/\a<d)then if dc (((gd c.2.1 (tn a) 0):Int)>h)then some (false,())else if !(b.2.2.1==true)||(dc (0<=a/\a<d))then if dc (0<=a/\a<d)then bi (iK k (gd b.1.2.2.2.1 (tn a) ah.aa,())) fun e=>if dc (ln c.1+ln e.1<4294967296)then j (b.1,b.2.1,if b.2.2.1 then((gd c.2.1 (tn a) 0):Int)==h else false,c.1++e.1,c.2.1,c.2.2.1,IntKind.i64.wrap (a+1),())else none else none else none else none else none else i (b.1,b.2.1,b.2.2.1,c.1,())) (x.1,x.2.1,true,[],x.2.1.2.2.2.2.2.1,g,0,())) (fun(f:ag×aF×Bool×List ae×Unit)=>bi (if(!f.2.2.1)==false then cY k (f.2.1.2.2.2.2.2.2.1,f.2.2.2.1,())else some (false,())) fun l=>some (if !f.2.2.1 then true else l.1,()))
def mi(k:Nat)(x:ag×aF×aC×Unit):Option (Bool×Unit):=let b:=(x.2.2.1.1:Int);let c:=b==1;let a:=x.2.1.2.2;let d:=(x.2.1.1:Int);if d==1 then if x.2.1.2.1==2 then bi (iW k (x.1.2.2.2.1,a.1.1,())) fun e=>bi (if c==true then cg k (x.2.2.1.2.2.1.1,a.1.1,())else some (false,())) fun f=>bi (if((if if c then f.1 else false then e.2.1 else false):Bool)==true then bW k (e.1,a.1,())else some (false,())) fun h=>some (if if if c then f.1 else false then e.2.1 else false then h.1 else false,())else bi (if c==true then bW k (x.2.2.1.2.2.1,a.1,())else some (false,())) fun g=>bi (if((if c then g.1 else false):Bool)==true then mU k (x.1.1,a.1,())else some (false,())) fun i=>some (if if c then g.1 else false then i.1 else false,())else if d==2 then bi (if((b==3):Bool)==true then cg k (x.2.2.1.2.2.2.1,a.2.1,())else some (false,())) fun j=>some (if b==3 then j.1 else false,())else if d==3 then bi (if((b==4):Bool)==true then ld k (x.1,x.2.1,())else some (false,())) fun l=>some (if b==4 then l.1 else false,())else if d==4 then some (if b==6 then dc (a.2.2.1<x.1.1.1)else false,())else if d==5 then bi (if((b==7):Bool)==true then bW k (x.2.2.1.2.2.1,a.1,())else some (false,())) fun m=>some (if b==7 then m.1 else false,())else some (if if b==8 then x.2.2.1.2.2.2.2.2.1==a.2.2.2.2.2.1 else false then dc (a.2.2.2.2.2.1<x.1.2.2.2.2.2.2.2.2.1)else false,())
def jZ(k:Nat)(x:ag×Unit):Option (Bool×Unit):=aN (fun m=>aM k (fun n (a:ag×List aC×Int×Int×Unit)=>let h:=(gd a.2.1 (tn a.2.2.2.1) aw.aa).2.2.2.2.2.2.2.2.2;if dc (a.2.2.2.1<a.2.2.1)then if dc (0<=a.2.2.2.1/\a.2.2.2.1<ln a.2.1)then bi (oF k (gd a.2.1 (tn a.2.2.2.1) aw.aa,())) fun r5=>if if if if !r5.1 then true else dc (h.1>=a.1.2.1)then true else dc (h.2.1>=a.1.2.1)then true else dc (h.2.2>=a.1.2.1)then some (false,())else n (a.1,a.2.1,a.2.2.1,IntKind.i64.wrap (a.2.2.2.1+1),())else none else m (a.1,())) (x.1,x.1.2.2.2.2.2.2.2.2.2.2.2.2.2,(ln x.1.2.2.2.2.2.2.2.2.2.2.2.2.2:Int),0,())) (fun(g:ag×Unit)=>aM k (fun l (b:ag×List aF×Int×Int×Unit)=>let c:=b.2.2.2.1;let f:=gd b.2.1 (tn c) ak.aa;let d:=f.2.2.2.2.2.2.2.2;let e:=b.1.2.2.2.2.2.2.2.2.2.2.2.2.2;let i:=(gd e (tn d) aw.aa).2;let j:=i.2.2.2.2.2.2.2.2.2;let v4:=((j.1 != -1):Bool)==(if f.1==1 then f.2.1==2 else false);if dc (c<b.2.2.1)then if dc (0<=c/\c<ln b.2.1)then bi (oS k (gd b.2.1 (tn c) ak.aa,c,())) fun r8=>if !r8.1 then some (false,())else if f.1==0 then l (b.1,b.2.1,b.2.2.1,IntKind.i64.wrap (c+1),())else if dc (d>=(ln e:Int))then some (false,())else if dc (0<=d/\d<ln e)then bi (if((if if i.1 != c then true else j.2 != -1 then true else !v4):Bool)==false then mi k (b.1,gd b.2.1 (tn c) ak.aa,gd e (tn d) aw.aa,())else some (false,())) fun r9=>if if if if i.1 != c then true else j.2 != -1 then true else !v4 then true else !r9.1 then some (false,())else l (b.1,b.2.1,b.2.2.1,IntKind.i64.wrap (c+1),())else none else none else some (true,())) (g.1,g.1.2.2.2.2.2.2.2.2.2.2.2.2.1,(ln g.1.2.2.2.2.2.2.2.2.2.2.2.2.1:Int),0,()))
def pn(k:Nat)(x:aF×Int×Bool×Unit):Option (Int×Unit):=if if dc (x.2.1<1)then true else !x.2.2.1 then some ((-1:Int),())else if x.1.1==1 then bi (eP k (x.1.2.2.1.1,())) fun a=>bi (gQ k (a.1,x.2.1,())) fun b=>some (b.1,())else if x.1.1==2 then bi (eP k (x.1.2.2.2.1,())) fun c=>bi (gQ k (c.1,x.2.1,())) fun d=>some (d.1,())else if if x.1.1==3 then true else x.1.1==4 then some (x.1.2.2.2.2.1,())else some ((-1:Int),())
def jJ(k:Nat)(x:aF×Int×Unit):Option (Int×Unit):=bi (pn k (x.1,x.2.1,if x.1.2.1==1 then true else if x.1.1==1 then x.1.2.1==2 else false,())) fun a=>some (a.1,())
def ik(k:Nat)(x:aF×Unit):Option (Bool×Unit):=some (if if x.1.1==5 then true else x.1.1==6 then x.1.2.1==1 else false,())
def j7(k:Nat)(x:ag×Unit):Option (Bool×Unit):=aN (fun j=>aM k (fun l (b:ag×List ar×Int×Int×Unit)=>if dc (b.2.2.2.1<b.2.2.1)then if dc (0<=b.2.2.2.1/\b.2.2.2.1<ln b.2.1)then aM k (fun m (c:ag×Int×ar×List ar×Int×Int×List aF×Int×Int×Unit)=>let d:=c.2.2.2.2.2.2;if dc (d.2.2.1<d.2.1)then if dc (0<=d.2.2.1/\d.2.2.1<ln d.1)then bi (jJ k (gd d.1 (tn d.2.2.1) ak.aa,(ln c.1.2.2.2.1:Int),())) fun n=>if !(((n.1==c.2.1):Bool)==(c.2.2.1.1==d.2.2.1))then some (false,())else m (c.1,c.2.1,c.2.2.1,c.2.2.2.1,c.2.2.2.2.1,c.2.2.2.2.2.1,d.1,d.2.1,IntKind.i64.wrap (d.2.2.1+1),())else none else l (c.1,c.2.2.2.1,c.2.2.2.2.1,IntKind.i64.wrap (c.2.2.2.2.2.1+1),())) (b.1,b.2.2.2.1,gd b.2.1 (tn b.2.2.2.1) ah.aa,b.2.1,b.2.2.1,b.2.2.2.1,b.1.2.2.2.2.2.2.2.2.2.2.2.2.1,(ln b.1.2.2.2.2.2.2.2.2.2.2.2.2.1:Int),0,())else none else j (b.1,())) (x.1,x.1.2.2.2.1,(ln x.1.2.2.2.1:Int),0,())) (fun(i:ag×Unit)=>aN (fun o=>aM k (fun f (a:ag×List aF×Int×Int×Unit)=>let e:=a.2.2.2.1;if dc (e<a.2.2.1)then if dc (0<=e/\e<ln a.2.1)then bi (ik k (gd a.2.1 (tn e) ak.aa,())) fun g=>if !(g.1==(a.1.2.2.2.2.2.2.1==e))then some (false,())else f (a.1,a.2.1,a.2.2.1,IntKind.i64.wrap (e+1),())else none else o (a.1,())) (i.1,i.1.2.2.2.2.2.2.2.2.2.2.2.2.1,(ln i.1.2.2.2.2.2.2.2.2.2.2.2.2.1:Int),0,())) (fun(p:ag×Unit)=>bi (bP k (p.1.2.2.2.2.2.2.1,-1,4,())) fun h=>some (h.1,())))
def nL(k:Nat)(x:List ByteArray×ByteArray×Unit):Option (Bool×Unit):=aM k (fun b (a:ByteArray×List ByteArray×Int×Int×Unit)=>if dc (a.2.2.2.1<a.2.2.1)then if dc (0<=a.2.2.2.1/\a.2.2.2.1<ln a.2.1)then if ByteArray.toList (gd a.2.1 (tn a.2.2.2.1) ByteArray.empty)==ByteArray.toList a.1 then some (true,())else b (a.1,a.2.1,a.2.2.1,IntKind.i64.wrap (a.2.2.2.1+1),())else none else some (false,())) (x.2.1,x.1,(ln x.1:Int),0,())
def qy(k:Nat)(x:List ai×List ByteArray×Unit):Option (List ai×Unit):=aM k (fun c (a:List ByteArray×List ai×List ai×Int×Int×Unit)=>let b:=a.2.2.2.2.1;if dc (b<a.2.2.2.1)then if dc (0<=b/\b<ln a.2.2.1)then bi (nL k (a.1,(gd a.2.2.1 (tn b) al.aa).1,())) fun d=>if d.1 then if dc (ln a.2.1+ln [gd a.2.2.1 (tn b) al.aa]<4294967296)then c (a.1,a.2.1++([gd a.2.2.1 (tn b) al.aa]:List ai),a.2.2.1,a.2.2.2.1,IntKind.i64.wrap (b+1),())else none else c (a.1,a.2.1,a.2.2.1,a.2.2.2.1,IntKind.i64.wrap (b+1),())else none else some (a.2.1,())) (x.2.1,[],x.1,(ln x.1:Int),0,())
def oT(k:Nat)(x:ae×List ByteArray×Unit):Option (List ai×Unit):=bi (qy k (x.1.1,x.2.1,())) fun a=>some (a.1,())
def jR(k:Nat)(x:List ai×List ai×Unit):Option (Bool×Unit):=aN (fun h=>aM k (fun i (b:List ai×List ai×Int×Unit)=>let a:=b.2.2.1;let e:=gd b.2.1 (tn a) al.aa;let c:=(ln b.2.1:Int);let f:=gd b.1 (tn a) al.aa;let d:=(ln b.1:Int);if if dc (a<d)then dc (a<c)else false then if dc (0<=a/\a<d)then if dc (0<=a/\a<c)then if !(ByteArray.toList f.1==ByteArray.toList e.1)then if dc (0<=a/\a<d)then if dc (0<=a/\a<c)then some (Op.bytesLess (ByteArray.toList f.1) (ByteArray.toList e.1),())else none else none else if dc (0<=a/\a<d)then if dc (0<=a/\a<c)then if !(ByteArray.toList f.2==ByteArray.toList e.2)then if dc (0<=a/\a<d)then if dc (0<=a/\a<c)then some (Op.bytesLess (ByteArray.toList f.2) (ByteArray.toList e.2),())else none else none else i (b.1,b.2.1,IntKind.i64.wrap (a+1),())else none else none else none else none else h (b.1,b.2.1,())) (x.1,x.2.1,0,())) (fun(g:List ai×List ai×Unit)=>some (dc ((ln g.1:Int)<(ln g.2.1:Int)),()))
def nv(k:Nat)(x:List ae×List ai×List ByteArray×Unit):Option (Bool×Unit):=aM k (fun f (b:List ae×List ai×List ByteArray×List ae×Int×Int×Unit)=>let c:=b.2.2.2;let a:=c.2.2.1;let d:=IntKind.i64.wrap (a-1);let e:=a>0;if dc (a<c.2.1)then if dc (0<=a/\a<ln c.1)then bi (eC k (gd c.1 (tn a) ab.aa,())) fun r3=>bi (if(!r3.1)==false then oT k (gd c.1 (tn a) ab.aa,b.2.2.1,())else some (([]:List ai),())) fun g=>bi (if(!r3.1)==false then cg k (g.1,b.2.1,())else some (false,())) fun r5=>if !((((if !r3.1 then true else !r5.1):Bool)==false)&&(dc e==true))||(dc (0<=d/\d<ln b.1))then bi (if(((if !r3.1 then true else !r5.1):Bool)==false)&&(dc e==true)then jR k ((gd b.1 (tn d) ab.aa).1,(gd c.1 (tn a) ab.aa).1,())else some (false,())) fun r6=>if if if !r3.1 then true else !r5.1 then true else if dc e then !r6.1 else false then some (false,())else f (b.1,b.2.1,b.2.2.1,c.1,c.2.1,IntKind.i64.wrap (a+1),())else none else none else some (true,())) (x.1,x.2.1,x.2.2.1,x.1,(ln x.1:Int),0,())
def nH(k:Nat)(x:au×List ByteArray×Unit):Option (Bool×Unit):=let a:=x.1.1<0;let b:=(ln x.1.2.2.2.2:Int)>0;bi (if dc a==false then iP k (x.1.2.1,())else some (false,())) fun r1=>bi (if((if dc a then true else !r1.1):Bool)==false then bP k (x.1.2.2.1,0,99999,())else some (false,())) fun r2=>bi (if(((if if dc a then true else !r1.1 then true else !r2.1):Bool)==false)&&(((x.1.2.2.2.1 != -1):Bool)==true)then bP k (x.1.2.2.2.1,x.1.2.2.1,99999,())else some (false,())) fun r3=>if if if if dc a then true else !r1.1 then true else !r2.1 then true else if x.1.2.2.2.1 != -1 then !r3.1 else false then some (false,())else bi (if dc b==true then nv k (x.1.2.2.2.2,x.1.2.1,x.2.1,())else some (false,())) fun c=>some (if dc b then c.1 else false,())
def jG(k:Nat)(x:List au×List ai×Unit):Option (Int×Unit):=aM k (fun b (a:List ai×List au×Int×Int×Unit)=>if dc (a.2.2.2.1<a.2.2.1)then if dc (0<=a.2.2.2.1/\a.2.2.2.1<ln a.2.1)then bi (cg k ((gd a.2.1 (tn a.2.2.2.1) aj.aa).2.1,a.1,())) fun c=>if c.1 then some (a.2.2.2.1,())else b (a.1,a.2.1,a.2.2.1,IntKind.i64.wrap (a.2.2.2.1+1),())else none else some ((-1:Int),())) (x.2.1,x.1,(ln x.1:Int),0,())
def l0(k:Nat)(x:List au×List ByteArray×Unit):Option (Bool×Unit):=aM k (fun h (a:List au×List ByteArray×List au×Int×Int×Unit)=>let b:=a.2.2.2.2.1;let d:=IntKind.i64.wrap (b-1);let f:=gd a.2.2.1 (tn b) aj.aa;let g:=(gd a.1 (tn d) aj.aa).1>=(f.1);let c:=b>=12;let e:=b>0;if dc (b<a.2.2.2.1)then if dc (0<=b/\b<ln a.2.2.1)then bi (if dc c==false then nH k (gd a.2.2.1 (tn b) aj.aa,a.2.1,())else some (false,())) fun r3=>if !((((if dc c then true else !r3.1):Bool)==false)&&(dc e==true))||(dc (0<=d/\d<ln a.1))then bi (if((if if dc c then true else !r3.1 then true else if dc e then dc g else false):Bool)==false then jG k (a.1,f.2.1,())else some (0,())) fun i=>if if if if dc c then true else !r3.1 then true else if dc e then dc g else false then true else i.1 != b then some (false,())else h (a.1,a.2.1,a.2.2.1,a.2.2.2.1,IntKind.i64.wrap (b+1),())else none else none else some (true,())) (x.1,x.2.1,x.1,(ln x.1:Int),0,())
def n0(k:Nat)(x:aJ×aJ×Unit):Option (Bool×Unit):=some (if dc (x.1.1<x.2.1.1)then true else if x.1.1==x.2.1.1 then dc (x.1.2<x.2.1.2)else false,())
def ox(k:Nat)(x:List aJ×Unit):Option (Bool×Unit):=aN (fun h=>aM k (fun i (a:List aJ×List aJ×Int×Int×Unit)=>let b:=a.2.2.2.1;let g:=gd a.2.1 (tn b) aD.aa;let f:=IntKind.i64.wrap (Int.tdiv (IntKind.i64.wrap (b-1)) (2:Int));let c:=b>0;let d:=g.2<0;let e:=g.1<0;if dc (b<a.2.2.1)then if dc (0<=b/\b<ln a.2.1)then if !((((if dc e then true else dc d):Bool)==false)&&(dc c==true))||(dc ((2:Int)≠0))then if !((((if dc e then true else dc d):Bool)==false)&&(dc c==true))||(dc (0<=f/\f<ln a.1))then bi (if(((if dc e then true else dc d):Bool)==false)&&(dc c==true)then n0 k (gd a.2.1 (tn b) aD.aa,gd a.1 (tn f) aD.aa,())else some (false,())) fun j=>if if if dc e then true else dc d then true else if dc c then j.1 else false then some (false,())else i (a.1,a.2.1,a.2.2.1,IntKind.i64.wrap (b+1),())else none else none else none else h (a.1,())) (x.1,x.1,(ln x.1:Int),0,())) (fun(l:List aJ×Unit)=>some (dc ((ln l.1:Int)<=16),()))
def qx(k:Nat)(x:au×Int×Int×Unit):Option (Int×Unit):=if x.1.2.2.2.1== -1 then some (IntKind.i64.wrap (x.1.2.2.1+x.2.1),())else some (IntKind.i64.wrap (x.1.2.2.2.1+x.2.2.1),())
def rE(k:Nat)(x:bh×au×Unit):Option (Int×Unit):=bi (qx k (x.2.1,x.1.2.2.2.1,x.1.2.2.2.2.1,())) fun a=>some (a.1,())
def jq(k:Nat)(x:ag×Unit):Option (Bool×Unit):=let j:=x.1.2.2.2.2.2.2.2;bi (l0 k (j.1,x.1.1.2.2.2.2.2,())) fun r1=>bi (if(!r1.1)==false then ox k (j.2.2.1,())else some (false,())) fun r2=>if if !r1.1 then true else !r2.1 then some (false,())else aN (fun t=>aM k (fun u (d:ag×List au×Int×Int×Unit)=>let l:=gd d.2.1 (tn d.2.2.2.1) aj.aa;let h:=d.1.2.2.2.2.2.2.2.2;let r:=gd h.2.2.2.2.1 (tn (4:Int)) ak.aa;if dc (d.2.2.2.1<d.2.2.1)then if dc (0<=d.2.2.2.1/\d.2.2.2.1<ln d.2.1)then if if if dc (l.2.2.1>d.1.2.2.1)then true else dc (l.2.2.2.1>d.1.2.2.1)then true else dc (l.1>=h.1)then some (false,())else if dc (0<=(4:Int)/\(4:Int)<(ln h.2.2.2.2.1:Int))then if !(((r.1==6):Bool)==true)||(dc (0<=(4:Int)/\(4:Int)<(ln h.2.2.2.2.1:Int)))then aN (fun v=>aM k (fun w (a:ag×au×Bool×List au×Int×Int×List aJ×Int×Int×Unit)=>let e:=a.2.2.2.2.2.2;let s:=gd e.1 (tn e.2.2.1) aD.aa;if dc (e.2.2.1<e.2.1)then if dc (0<=e.2.2.1/\e.2.2.1<ln e.1)then bi (if(a.2.2.1==false)&&(((s.2==a.2.1.1):Bool)==true)then rE k (a.1.1,a.2.1,())else some (0,())) fun n=>w (a.1,a.2.1,if a.2.2.1 then true else if s.2==a.2.1.1 then s.1==n.1 else false,a.2.2.2.1,a.2.2.2.2.1,a.2.2.2.2.2.1,e.1,e.2.1,IntKind.i64.wrap (e.2.2.1+1),())else none else v (a.1,a.2.1,a.2.2.1,a.2.2.2.1,a.2.2.2.2.1,a.2.2.2.2.2.1,())) (d.1,gd d.2.1 (tn d.2.2.2.1) aj.aa,if r.1==6 then r.2.2.2.2.2.2.2.1==(l.1)else false,d.2.1,d.2.2.1,d.2.2.2.1,h.2.1,(ln h.2.1:Int),0,())) (fun(i:ag×au×Bool×List au×Int×Int×Unit)=>if !i.2.2.1 then some (false,())else u (i.1,i.2.2.2.1,i.2.2.2.2.1,IntKind.i64.wrap (i.2.2.2.2.2.1+1),()))else none else none else none else t (d.1,())) (x.1,j.1,(ln j.1:Int),0,())) (fun(q:ag×Unit)=>aM k (fun o (c:ag×List aJ×Int×Int×Unit)=>let f:=c.2.2.2.1;let m:=c.1.2.2.2.2.2.2.2.2;if dc (f<c.2.2.1)then if dc (0<=f/\f<ln c.2.1)then if dc ((gd c.2.1 (tn f) aD.aa).2>=m.1)then some (false,())else if dc (0<=f/\f<=ln m.2.1)then aM k (fun p (b:ag×aJ×List aJ×Int×Int×List aJ×Int×Int×Unit)=>let g:=b.2.2.2.2.2;if dc (g.2.2.1<g.2.1)then if dc (0<=g.2.2.1/\g.2.2.1<ln g.1)then if(gd g.1 (tn g.2.2.1) aD.aa).2==b.2.1.2 then some (false,())else p (b.1,b.2.1,b.2.2.1,b.2.2.2.1,b.2.2.2.2.1,g.1,g.2.1,IntKind.i64.wrap (g.2.2.1+1),())else none else o (b.1,b.2.2.1,b.2.2.2.1,IntKind.i64.wrap (b.2.2.2.2.1+1),())) (c.1,gd c.2.1 (tn f) aD.aa,c.2.1,c.2.2.1,f,ta (tn f) m.2.1,((ln (ta (tn f) m.2.1):Nat):Int),0,())else none else none else some (true,())) (q.1,q.1.2.2.2.2.2.2.2.2.2.1,(ln q.1.2.2.2.2.2.2.2.2.2.1:Int),0,()))
def iz(k:Nat)(x:ag×Unit):Option (Bool×Unit):=let e:=x.1.2.2.2.2.2.2.2.2;bi (mI k (x.1.1,())) fun r1=>bi (if((if if !r1.1 then true else dc (x.1.2.1<0)then true else dc (e.1<0)):Bool)==false then bP k (x.1.2.2.1,0,99899,())else some (false,())) fun r2=>if if if if if !r1.1 then true else dc (x.1.2.1<0)then true else dc (e.1<0)then true else !r2.1 then true else(ln e.2.2.2.2.1:Int) != 5 then some (false,())else bi (j8 k (x.1,())) fun a=>bi (if a.1==true then lp k (x.1.2.2.2.2.1,x.1.1,())else some (false,())) fun b=>bi (if((if a.1 then b.1 else false):Bool)==true then fA k (x.1.2.2.2.2.2.1,())else some (false,())) fun c=>bi (if((if if a.1 then b.1 else false then c.1 else false):Bool)==true then fA k (e.2.2.2.1,())else some (false,())) fun d=>bi (if((if if if a.1 then b.1 else false then c.1 else false then d.1 else false):Bool)==true then jZ k (x.1,())else some (false,())) fun f=>bi (if((if if if if a.1 then b.1 else false then c.1 else false then d.1 else false then f.1 else false):Bool)==true then j7 k (x.1,())else some (false,())) fun g=>bi (if((if if if if if a.1 then b.1 else false then c.1 else false then d.1 else false then f.1 else false then g.1 else false):Bool)==true then jq k (x.1,())else some (false,())) fun h=>some (if if if if if if a.1 then b.1 else false then c.1 else false then d.1 else false then f.1 else false then g.1 else false then h.1 else false,())
def DF(k:Nat)(x:aF×Int×Unit):Option (Int×Unit):=bi (pn k (x.1,x.2.1,x.1.2.1==0,())) fun a=>some (a.1,())
def BJ(k:Nat)(x:ag×Int×Unit):Option (Bool×ag×Unit):=let a:=x.1.2.2.2;let b:=a.2.2.2.2.2.2;let d:=(ln a.1:Int);let e:=gd b.2.2.2.1 (tn x.2.1) ak.aa;if dc (0<=x.2.1/\x.2.1<ln b.2.2.2.1)then bi (DF k (gd b.2.2.2.1 (tn x.2.1) ak.aa,d,())) fun c=>let f:=gd a.1 (tn c.1) ah.aa;if dc (0<=c.1/\c.1<d)then if f.1 != -1 then some (false,x.1,())else if dc (0<=c.1/\c.1<d)then if dc (0<=x.2.1/\x.2.1<ln b.2.2.2.1)then some (true,(x.1.1,x.1.2.1,x.1.2.2.1,se a.1 (tn c.1) (x.2.1,f.2),a.2.1,a.2.2.1,a.2.2.2.1,a.2.2.2.2.1,a.2.2.2.2.2.1,b.1,b.2.1,b.2.2.1,se b.2.2.2.1 (tn x.2.1) (e.1,1,e.2.2),b.2.2.2.2),())else none else none else none else none
def V3(k:Nat)(x:ae×Int×Unit):Option (Bool×Unit):=some (dc (x.1.2.2.1<=x.2.1),())
def UF(k:Nat)(x:aP×Int×Unit):Option (aP×List ae×Unit):=aN (fun i=>aM k (fun e (a:Int×aP×aP×aP×List ae×List ae×Int×Int×Unit)=>let b:=a.2.2.2;let c:=b.2.2;let d:=c.2.2.1;if dc (d<c.2.1)then if dc (0<=d/\d<ln c.1)then bi (V3 k (gd c.1 (tn d) ab.aa,a.1,())) fun j=>if j.1 then bi (c9 k (gd c.1 (tn d) ab.aa,())) fun f=>if dc (ln b.2.1+ln [f.1]<4294967296)then e (a.1,a.2.1,a.2.2.1,b.1,b.2.1++([f.1]:List ae),c.1,c.2.1,IntKind.i64.wrap (d+1),())else none else bi (c9 k (gd c.1 (tn d) ab.aa,())) fun g=>if dc (ln b.1.2+ln [g.1]<4294967296)then e (a.1,a.2.1,a.2.2.1,(b.1.1,b.1.2++([g.1]:List ae)),b.2.1,c.1,c.2.1,IntKind.i64.wrap (d+1),())else none else none else i (a.2.1,a.2.2.1,b.1,b.2.1,())) (x.2.1,x.1,(0,[]),(x.1.1,[]),[],x.1.2,(ln x.1.2:Int),0,())) (fun(h:aP×aP×aP×List ae×Unit)=>some (h.2.2.1,h.2.2.2.1,()))
def VD(k:Nat)(x:ar×Int×Unit):Option (ar×List ae×Unit):=aN (fun h=>aM k (fun f (b:Int×ar×ar×ar×List ae×List aP×Int×Int×Unit)=>let a:=b.2.2.2;let e:=a.2.2.2.2.1;if dc (e<a.2.2.2.1)then if dc (0<=e/\e<ln a.2.2.1)then bi (UF k (gd a.2.2.1 (tn e) ax.aa,b.1,())) fun d=>let g:=ln a.2.1+ln d.2.1<4294967296;if dc ((ln d.1.2:Int)>0)then if dc (ln a.1.2.2+ln [d.1]<4294967296)then if dc g then f (b.1,b.2.1,b.2.2.1,(a.1.1,a.1.2.1,a.1.2.2++([d.1]:List aP)),a.2.1++d.2.1,a.2.2.1,a.2.2.2.1,IntKind.i64.wrap (e+1),())else none else none else if dc g then f (b.1,b.2.1,b.2.2.1,a.1,a.2.1++d.2.1,a.2.2.1,a.2.2.2.1,IntKind.i64.wrap (e+1),())else none else none else h (b.2.1,b.2.2.1,a.1,a.2.1,())) (x.2.1,x.1,(0,0,[]),(x.1.1,x.1.2.1,[]),[],x.1.2.2,(ln x.1.2.2:Int),0,())) (fun(c:ar×ar×ar×List ae×Unit)=>if dc ((ln c.2.2.2.1:Int)>0)then some ((c.2.2.1.1,IntKind.i64.wrap (c.2.2.1.2.1+1),c.2.2.1.2.2),c.2.2.2.1,())else some (c.2.2.1,c.2.2.2.1,()))
def DE(k:Nat)(x:ag×aC×Unit):Option (ag×Unit):=let a:=x.1.2;let c:=a.2.2.2.2.2.2;let b:=x.2.1.2.2.2;if dc (ln c.2.2.2.2.2.2+ln [(x.2.1.1,x.2.1.2.1,x.2.1.2.2.1,b.1,b.2.1,b.2.2.1,b.2.2.2.1,b.2.2.2.2.1,a.2.1,a.1,a.1,a.1)]<4294967296)then some ((x.1.1,a.1,a.2.1,a.2.2.1,a.2.2.2.1,a.2.2.2.2.1,a.2.2.2.2.2.1,c.1,c.2.1,c.2.2.1,c.2.2.2.1,c.2.2.2.2.1,c.2.2.2.2.2.1,c.2.2.2.2.2.2++([(x.2.1.1,x.2.1.2.1,x.2.1.2.2.1,b.1,b.2.1,b.2.2.1,b.2.2.2.1,b.2.2.2.2.1,a.2.1,a.1,a.1,a.1)]:List aC)),())else none
def Rq(k:Nat)(x:ag×Int×Unit):Option (ag×Unit):=let b:=x.1.2.2.2;let a:=b.2.2.2.2;let d:=tn x.2.1;let e:=gd a.2.2.2.2.2.1 d ak.aa;let c:=e.2.2.2.2;if dc (0<=x.2.1/\x.2.1<ln a.2.2.2.2.2.1)then if dc (0<=c.1/\c.1<ln b.1)then fu (se a.2.2.2.2.2.1 d (e.1,e.2.1,e.2.2.1,e.2.2.2.1,IntKind.i64.wrap (c.1+1),c.2)) fun f=>some ((x.1.1,x.1.2.1,x.1.2.2.1,se b.1 (tn c.1) ((-1:Int),(gd b.1 (tn c.1) ah.aa).2),b.2.1,b.2.2.1,b.2.2.2.1,a.1,a.2.1,a.2.2.1,a.2.2.2.1,a.2.2.2.2.1,se f d ((gd f d ak.aa).1,0,(gd f d ak.aa).2.2),a.2.2.2.2.2.2),())else none else none
def mW(k:Nat)(x:ag×Int×Int×Unit):Option (ag×Unit):=let b:=x.1.2.2.2.2.2.2;let e:=b.2.2.2.2.2.2;let j:=(gd e.1 (tn x.2.1) ak.aa).2.2.2.2.2.2.2.2;let c:=tn j;let d:=gd e.2 c aw.aa;if dc (0<=x.2.1/\x.2.1<ln e.1)then if dc (0<=j/\j<ln e.2)then fu (se e.2 c (d.1,d.2.1,d.2.2.1,d.2.2.2.1,d.2.2.2.2.1,d.2.2.2.2.2.1,x.2.2.1,d.2.2.2.2.2.2.2)) fun m=>let l:=gd m c aw.aa;let f:=l.2.2;let g:=f.2.2.2.2;fu (se m c (l.1,l.2.1,f.1,f.2.1,f.2.2.1,f.2.2.2.1,g.1,g.2.1,g.2.2.1,g.2.2.2.1,x.1.2.1,g.2.2.2.2.2)) fun i=>let h:=(gd i c aw.aa).2;let a:=h.2.2.2;fu (se i c ((gd i c aw.aa).1,h.1,h.2.1,h.2.2.1,a.1,a.2.1,a.2.2.1,a.2.2.2.1,x.1.2.2.1,a.2.2.2.2.2)) fun n=>some ((x.1.1,x.1.2.1,x.1.2.2.1,x.1.2.2.2.1,x.1.2.2.2.2.1,x.1.2.2.2.2.2.1,b.1,b.2.1,b.2.2.1,b.2.2.2.1,b.2.2.2.2.1,b.2.2.2.2.2.1,e.1,n),())else none else none
def pC(k:Nat)(x:ag×Int×Int×Unit):Option (ag×Unit):=let n:=x.1.2.2.2.2.2.2.2.2.2.2.2.2;let m:=(gd n.1 (tn x.2.1) ak.aa).2.2.2.2.2.2.2;if dc (0<=x.2.1/\x.2.1<ln n.1)then aN (fun p=>if dc (0<=m.2/\m.2<ln n.2)then if(gd n.2 (tn m.2) aw.aa).2.2.2.2.2.2.2.2.2.2.1== -1 then bi (mW k (x.1,x.2.1,x.2.2.1,())) fun s=>p (s.1,x.2.1,m.2,())else p (x.1,x.2.1,m.2,())else none) (fun(a:ag×Int×Int×Unit)=>let e:=a.1.2.2.2;let f:=e.2.2.2.2;let g:=f.2.2.2.2;let i:=gd g.2.2 (tn a.2.2.1) aw.aa;let j:=i.2.2.2.2.2;if dc (0<=a.2.2.1/\a.2.2.1<ln g.2.2)then fu (se g.2.2 (tn a.2.2.1) (i.1,i.2.1,i.2.2.1,i.2.2.2.1,i.2.2.2.2.1,j.1,j.2.1,j.2.2.1,j.2.2.2.1,j.2.2.2.2.1,j.2.2.2.2.2.1,a.1.2.1)) fun q=>aN (fun r=>if dc (0<=a.2.1/\a.2.1<ln g.2.1)then bi (jJ k (gd g.2.1 (tn a.2.1) ak.aa,(ln e.1:Int),())) fun l=>if dc (l.1>=0)then if dc (0<=l.1/\l.1<ln e.1)then r ((a.1.1,a.1.2.1,a.1.2.2.1,se e.1 (tn l.1) ((-1:Int),(gd e.1 (tn l.1) ah.aa).2),e.2.1,e.2.2.1,e.2.2.2.1,f.1,f.2.1,f.2.2.1,f.2.2.2.1,g.1,g.2.1,q),a.2.1,())else none else r ((a.1.1,a.1.2.1,a.1.2.2.1,e.1,e.2.1,e.2.2.1,e.2.2.2.1,f.1,f.2.1,f.2.2.1,f.2.2.2.1,g.1,g.2.1,q),a.2.1,())else none) (fun(d:ag×Int×Unit)=>let b:=d.1.2.2.2;let h:=b.2.2.2.2;let c:=h.2.2.2.2;let o:=(ln c.2.1:Int);if dc (0<=d.2.1/\d.2.1<o)then bi (ik k (gd c.2.1 (tn d.2.1) ak.aa,())) fun t=>if t.1 then if dc (0<=d.2.1/\d.2.1<o)then some ((d.1.1,d.1.2.1,d.1.2.2.1,b.1,b.2.1,b.2.2.1,-1,h.1,h.2.1,h.2.2.1,h.2.2.2.1,c.1,se c.2.1 (tn d.2.1) (0,0,(([]:List ai),0,0,ByteArray.empty),[],0,[],[],0,0),c.2.2),())else none else if dc (0<=d.2.1/\d.2.1<o)then some ((d.1.1,d.1.2.1,d.1.2.2.1,b.1,b.2.1,b.2.2.1,b.2.2.2.1,h.1,h.2.1,h.2.2.1,h.2.2.2.1,c.1,se c.2.1 (tn d.2.1) (0,0,(([]:List ai),0,0,ByteArray.empty),[],0,[],[],0,0),c.2.2),())else none else none)else none)else none
def Bm(k:Nat)(x:ag×Int×Unit):Option (Bool×ag×Unit):=let a:=x.1.2.2.2;let f:=gd a.2.2.2.2.2.2.2.2.2.1 (tn x.2.1) ak.aa;let b:=f.2.2.2.2.1;if dc (0<=x.2.1/\x.2.1<ln a.2.2.2.2.2.2.2.2.2.1)then if f.1 != 4 then some (false,x.1,())else if f.2.1==0 then bi (BJ k (x.1,x.2.1,())) fun c=>if !c.1 then some (false,c.2.1,())else some (true,(c.2.1.1,IntKind.i64.wrap (c.2.1.2.1+1),c.2.1.2.2),())else if dc (0<=b/\b<ln a.1)then bi (VD k (gd a.1 (tn b) ah.aa,x.1.2.2.1,())) fun d=>if dc (0<=b/\b<ln a.1)then bi (DE k ((x.1.1,x.1.2.1,x.1.2.2.1,se a.1 (tn b) d.1,a.2),((5:Int),x.2.1,(([]:List ai),0,0,ByteArray.empty),[],f.2.2.2.2.1,0,8,d.2.1,0,0,0,0),())) fun i=>bi (Rq k (i.1,x.2.1,())) fun e=>aN (fun h=>if(gd e.1.2.2.2.2.2.2.2.2.2.2.2.2.1 (tn x.2.1) ak.aa).2.2.2.2.1==(ln e.1.2.2.2.1:Int)then bi (pC k (e.1,x.2.1,8,())) fun j=>h (j.1,d.1,())else h (e.1,d.1,())) (fun(g:ag×ar×Unit)=>some (true,(g.1.1,IntKind.i64.wrap (g.1.2.1+1),g.1.2.2),()))else none else none else none
def Tq(k:Nat)(x:ag×Int×Unit):Option (ag×Bool×Unit):=bi (fF k (x.1,())) fun a=>bi (iz k (x.1,())) fun r2=>bi (if(!r2.1)==false then bP k (x.2.1,0,4,())else some (false,())) fun r3=>if((if !r2.1 then true else !r3.1):Bool)==false then bi (Bm k (a.1,x.2.1,())) fun b=>if if if !r2.1 then true else !r3.1 then true else !b.1 then bi (fF k (x.1,())) fun c=>some (c.1,false,())else some (b.2.1,true,())else if if if !r2.1 then true else !r3.1 then true else !false then bi (fF k (x.1,())) fun d=>some (d.1,false,())else some (a.1,true,())
def T0(k:Nat)(x:ag×Int×Unit):Option (ag×Bool×Unit):=let a:=((gd x.1.2.2.2.2.2.2.2.2.2.2.2.2.1 (tn x.2.1) ak.aa).1:Int);bi (fp k (x.1,())) fun b=>bi (lT k (x.1,())) fun r2=>bi (if(!r2.1)==false then bD k (x.2.1,0,2,())else some (false,())) fun r3=>if !(((if !r2.1 then true else !r3.1):Bool)==false)||(dc (0<=x.2.1/\x.2.1<ln x.1.2.2.2.2.2.2.2.2.2.2.2.2.1))then if((if if !r2.1 then true else !r3.1 then true else a != 4):Bool)==false then bi (jI k (b.1,x.2.1,())) fun c=>if if if if !r2.1 then true else !r3.1 then true else a != 4 then true else !c.1 then bi (fp k (x.1,())) fun d=>some (d.1,false,())else some (c.2.1,true,())else if if if if !r2.1 then true else !r3.1 then true else a != 4 then true else !false then bi (fp k (x.1,())) fun e=>some (e.1,false,())else some (b.1,true,())else none
def UD(k:Nat)(x:List Int×Unit):Option (ag×Int×Unit):=bi (mA k (x.1,())) fun b=>bi (mX k (x.1,50,())) fun c=>bi (mJ k (b.1,c.1,())) fun a=>bi (aL k (a.2.1,5,())) fun d=>some (a.1,IntKind.i64.wrap (d.1-1),())
def T9(k:Nat)(x:List Int×Unit):Option (ag×Int×Unit):=bi (UD k (x.1,())) fun a=>some (a.1,a.2.1,())
def rS(k:Nat)(x:ag×Int×Unit):Option (Bool×Unit):=let b:=(ln x.1.2.2.2.2.2.2.2.2.2.2.2.2.1:Int);bi (bP k (x.2.1,0,IntKind.i64.wrap (b-1),())) fun a=>if !(a.1==true)||(dc (0<=x.2.1/\x.2.1<b))then some (if a.1 then(gd x.1.2.2.2.2.2.2.2.2.2.2.2.2.1 (tn x.2.1) ak.aa).1==0 else false,())else none
def Mb(k:Nat)(x:ag×Int×Unit):Option (Bool×Unit):=bi (bP k (x.2.1,0,2,())) fun a=>bi (if a.1==true then rS k (x.1,x.2.1,())else some (false,())) fun b=>some (if a.1 then b.1 else false,())
def qZ(k:Nat)(x:ag×aC×Unit):Option (Int×ag×Unit):=let a:=x.2.1.2.2.2;let b:=x.1.2.2;let c:=b.2.2.2.2.2;if dc (ln c.2.2.2.2.2.2+ln [(x.2.1.1,x.2.1.2.1,x.2.1.2.2.1,a.1,a.2.1,a.2.2.1,a.2.2.2.1,a.2.2.2.2.1,b.1,x.1.2.1,-1,-1)]<4294967296)then some (IntKind.i64.wrap (((ln (c.2.2.2.2.2.2++([(x.2.1.1,x.2.1.2.1,x.2.1.2.2.1,a.1,a.2.1,a.2.2.1,a.2.2.2.1,a.2.2.2.2.1,b.1,x.1.2.1,-1,-1)]:List aC)):Nat):Int)-1),(x.1.1,x.1.2.1,b.1,b.2.1,b.2.2.1,b.2.2.2.1,b.2.2.2.2.1,c.1,c.2.1,c.2.2.1,c.2.2.2.1,c.2.2.2.2.1,c.2.2.2.2.2.1,c.2.2.2.2.2.2++([(x.2.1.1,x.2.1.2.1,x.2.1.2.2.1,a.1,a.2.1,a.2.2.1,a.2.2.2.1,a.2.2.2.2.1,b.1,x.1.2.1,-1,-1)]:List aC)),())else none
def Sf(k:Nat)(x:ag×Int×aF×aC×Unit):Option (Bool×ag×Unit):=let c:=x.2.2.1.2.2;bi (Mb k (x.1,x.2.1,())) fun r1=>if !r1.1 then some (false,x.1,())else bi (qZ k (x.1,(x.2.2.2.1.1,x.2.1,x.2.2.2.1.2.2),())) fun b=>let a:=b.2.1.2.2.2.2.2.2;if dc (0<=x.2.1/\x.2.1<ln a.2.2.2.2.2.2.1)then some (true,(b.2.1.1,IntKind.i64.wrap (b.2.1.2.1+1),b.2.1.2.2.1,b.2.1.2.2.2.1,b.2.1.2.2.2.2.1,b.2.1.2.2.2.2.2.1,a.1,a.2.1,a.2.2.1,a.2.2.2.1,a.2.2.2.2.1,a.2.2.2.2.2.1,se a.2.2.2.2.2.2.1 (tn x.2.1) (x.2.2.1.1,x.2.2.1.2.1,c.1,c.2.1,c.2.2.1,c.2.2.2.1,c.2.2.2.2.1,c.2.2.2.2.2.1,b.1),a.2.2.2.2.2.2.2),())else none
def U0(k:Nat)(x:ag×Int×Unit):Option (Bool×ag×Unit):=bi (Sf k (x.1,x.2.1,((4:Int),0,(([]:List ai),0,0,ByteArray.empty),[],0,[],[],0,0),((6:Int),0,(([]:List ai),0,0,ByteArray.empty),[],0,0,0,[],0,0,0,0),())) fun a=>some (a.1,a.2.1,())
def W4(k:Nat)(x:ag×Int×Unit):Option (ag×Bool×Unit):=bi (fF k (x.1,())) fun a=>bi (iz k (x.1,())) fun r2=>if(!r2.1)==false then bi (U0 k (a.1,x.2.1,())) fun b=>if if !r2.1 then true else !b.1 then bi (fF k (x.1,())) fun c=>some (c.1,false,())else some (b.2.1,true,())else if if !r2.1 then true else !false then bi (fF k (x.1,())) fun d=>some (d.1,false,())else some (a.1,true,())
def CC(k:Nat)(x:ag×Int×Unit):Option (Bool×Unit):=let b:=(ln x.1.2.2.2.2.2.2.2.2.2.2.2.2.1:Int);bi (bD k (x.2.1,0,IntKind.i64.wrap (b-1),())) fun a=>if !(a.1==true)||(dc (0<=x.2.1/\x.2.1<b))then some (if a.1 then(gd x.1.2.2.2.2.2.2.2.2.2.2.2.2.1 (tn x.2.1) ak.aa).1==0 else false,())else none
def W6(k:Nat)(x:ag×Int×Unit):Option (ag×Bool×Unit):=bi (fp k (x.1,())) fun a=>bi (lT k (x.1,())) fun r2=>bi (if(!r2.1)==false then bD k (x.2.1,0,2,())else some (false,())) fun r3=>bi (if((if !r2.1 then true else !r3.1):Bool)==false then CC k (x.1,x.2.1,())else some (false,())) fun r4=>if if if !r2.1 then true else !r3.1 then true else !r4.1 then some (a.1,false,())else bi (dX k (a.1,x.2.1,((4:Int),0,(([]:List ai),0,0,ByteArray.empty),[],0,[],[],0,0),())) fun b=>some (b.1,true,())
def Ta(k:Nat)(x:List Int×Unit):Option (List ae×Int×Unit):=bi (mA k (x.1,())) fun b=>bi (kO k (b.1,())) fun a=>bi (aL k (a.2.1,30,())) fun c=>some (a.1,c.1,())
def S2(k:Nat)(x:List ae×Int×Unit):Option (List ae×Unit):=aM k (fun c (a:Int×List ae×List ae×Int×Int×Unit)=>let b:=a.2.2.2.2.1;if dc (b<a.2.2.2.1)then if dc (0<=b/\b<ln a.2.2.1)then bi (V3 k (gd a.2.2.1 (tn b) ab.aa,a.1,())) fun r3=>if !r3.1 then bi (c9 k (gd a.2.2.1 (tn b) ab.aa,())) fun d=>if dc (ln a.2.1+ln [d.1]<4294967296)then c (a.1,a.2.1++([d.1]:List ae),a.2.2.1,a.2.2.2.1,IntKind.i64.wrap (b+1),())else none else c (a.1,a.2.1,a.2.2.1,a.2.2.2.1,IntKind.i64.wrap (b+1),())else none else some (a.2.1,())) (x.2.1,[],x.1,(ln x.1:Int),0,())
def kW(k:Nat)(x:List ByteArray×List ByteArray×Unit):Option (Bool×Unit):=if(ln x.1:Int) != (ln x.2.1:Int)then some (false,())else aM k (fun c (a:List ByteArray×List ByteArray×Int×Int×Unit)=>let b:=a.2.2.2.1;if dc (b<a.2.2.1)then if dc (0<=b/\b<ln a.1)then if dc (0<=b/\b<ln a.2.1)then if !(ByteArray.toList (gd a.1 (tn b) ByteArray.empty)==ByteArray.toList (gd a.2.1 (tn b) ByteArray.empty))then some (false,())else c (a.1,a.2.1,a.2.2.1,IntKind.i64.wrap (b+1),())else none else none else some (true,())) (x.1,x.2.1,(ln x.1:Int),0,())
def ma(k:Nat)(x:bh×bh×Unit):Option (Bool×Unit):=let a:=x.2.1.2.2;bi (if((if if if if x.1.1==x.2.1.1 then x.1.2.1==x.2.1.2.1 else false then x.1.2.2.1==a.1 else false then x.1.2.2.2.1==a.2.1 else false then x.1.2.2.2.2.1==a.2.2.1 else false):Bool)==true then kW k (x.1.2.2.2.2.2,a.2.2.2,())else some (false,())) fun b=>some (if if if if if x.1.1==x.2.1.1 then x.1.2.1==x.2.1.2.1 else false then x.1.2.2.1==a.1 else false then x.1.2.2.2.1==a.2.1 else false then x.1.2.2.2.2.1==a.2.2.1 else false then b.1 else false,())
def ll(k:Nat)(x:aP×aP×Unit):Option (Bool×Unit):=bi (if((x.1.1==x.2.1.1):Bool)==true then cY k (x.1.2,x.2.1.2,())else some (false,())) fun a=>some (if x.1.1==x.2.1.1 then a.1 else false,())
def mu(k:Nat)(x:ar×ar×Unit):Option (Bool×Unit):=if if if x.1.1 != x.2.1.1 then true else x.1.2.1 != x.2.1.2.1 then true else(ln x.1.2.2:Int) != (ln x.2.1.2.2:Int)then some (false,())else aM k (fun c (a:ar×ar×Int×Int×Unit)=>let b:=a.2.2.2.1;if dc (b<a.2.2.1)then if dc (0<=b/\b<ln a.1.2.2)then if dc (0<=b/\b<ln a.2.1.2.2)then bi (ll k (gd a.1.2.2 (tn b) ax.aa,gd a.2.1.2.2 (tn b) ax.aa,())) fun r3=>if !r3.1 then some (false,())else c (a.1,a.2.1,a.2.2.1,IntKind.i64.wrap (b+1),())else none else none else some (true,())) (x.1,x.2.1,(ln x.1.2.2:Int),0,())
def kG(k:Nat)(x:List ar×List ar×Unit):Option (Bool×Unit):=if(ln x.1:Int) != (ln x.2.1:Int)then some (false,())else aM k (fun c (a:List ar×List ar×Int×Unit)=>let b:=a.2.2.1;if dc (b<ln a.1)then if dc (0<=b/\b<ln a.1)then if dc (0<=b/\b<ln a.2.1)then bi (mu k (gd a.1 (tn b) ah.aa,gd a.2.1 (tn b) ah.aa,())) fun r3=>if !r3.1 then some (false,())else c (a.1,a.2.1,IntKind.i64.wrap (b+1),())else none else none else some (true,())) (x.1,x.2.1,0,())
def nE(k:Nat)(x:bg×bg×Unit):Option (Bool×Unit):=bi (if((x.1.2==x.2.1.2):Bool)==true then cY k (x.1.1,x.2.1.1,())else some (false,())) fun a=>some (if x.1.2==x.2.1.2 then a.1 else false,())
def lD(k:Nat)(x:List bg×List bg×Unit):Option (Bool×Unit):=if(ln x.1:Int) != (ln x.2.1:Int)then some (false,())else aM k (fun c (a:List bg×List bg×Int×Unit)=>let b:=a.2.2.1;if dc (b<ln a.1)then if dc (0<=b/\b<ln a.1)then if dc (0<=b/\b<ln a.2.1)then bi (nE k (gd a.1 (tn b) aU.aa,gd a.2.1 (tn b) aU.aa,())) fun r3=>if !r3.1 then some (false,())else c (a.1,a.2.1,IntKind.i64.wrap (b+1),())else none else none else some (true,())) (x.1,x.2.1,0,())
def eI(k:Nat)(x:List ae×List ae×Unit):Option (Bool×Unit):=if(ln x.1:Int) != (ln x.2.1:Int)then some (false,())else aM k (fun c (a:List ae×List ae×Int×Unit)=>let b:=a.2.2.1;if dc (b<ln a.1)then if dc (0<=b/\b<ln a.1)then if dc (0<=b/\b<ln a.2.1)then bi (bW k (gd a.1 (tn b) ab.aa,gd a.2.1 (tn b) ab.aa,())) fun r3=>if !r3.1 then some (false,())else c (a.1,a.2.1,IntKind.i64.wrap (b+1),())else none else none else some (true,())) (x.1,x.2.1,0,())
def kS(k:Nat)(x:au×au×Unit):Option (Bool×Unit):=let a:=x.1.1==x.2.1.1;bi (if a==true then cg k (x.1.2.1,x.2.1.2.1,())else some (false,())) fun b=>bi (if((if if if a then b.1 else false then x.1.2.2.1==x.2.1.2.2.1 else false then x.1.2.2.2.1==x.2.1.2.2.2.1 else false):Bool)==true then cY k (x.1.2.2.2.2,x.2.1.2.2.2.2,())else some (false,())) fun c=>some (if if if if a then b.1 else false then x.1.2.2.1==x.2.1.2.2.1 else false then x.1.2.2.2.1==x.2.1.2.2.2.1 else false then c.1 else false,())
def jL(k:Nat)(x:List au×List au×Unit):Option (Bool×Unit):=if(ln x.1:Int) != (ln x.2.1:Int)then some (false,())else aM k (fun c (a:List au×List au×Int×Unit)=>let b:=a.2.2.1;if dc (b<ln a.1)then if dc (0<=b/\b<ln a.1)then if dc (0<=b/\b<ln a.2.1)then bi (kS k (gd a.1 (tn b) aj.aa,gd a.2.1 (tn b) aj.aa,())) fun r3=>if !r3.1 then some (false,())else c (a.1,a.2.1,IntKind.i64.wrap (b+1),())else none else none else some (true,())) (x.1,x.2.1,0,())
def mj(k:Nat)(x:List aJ×List aJ×Unit):Option (Bool×Unit):=if(ln x.1:Int) != (ln x.2.1:Int)then some (false,())else aM k (fun c (a:List aJ×List aJ×Int×Unit)=>let b:=a.2.2.1;if dc (b<ln a.1)then if dc (0<=b/\b<ln a.1)then if dc (0<=b/\b<ln a.2.1)then if !(eqv aD (gd a.1 (tn b) aD.aa) (gd a.2.1 (tn b) aD.aa))then some (false,())else c (a.1,a.2.1,IntKind.i64.wrap (b+1),())else none else none else some (true,())) (x.1,x.2.1,0,())
def kR(k:Nat)(x:br×br×Unit):Option (Bool×Unit):=let a:=x.1.1==x.2.1.1;bi (if a==true then cg k (x.1.2.1,x.2.1.2.1,())else some (false,())) fun b=>bi (if((if if a then b.1 else false then x.1.2.2.1==x.2.1.2.2.1 else false):Bool)==true then cY k (x.1.2.2.2,x.2.1.2.2.2,())else some (false,())) fun c=>some (if if if a then b.1 else false then x.1.2.2.1==x.2.1.2.2.1 else false then c.1 else false,())
def mz(k:Nat)(x:List br×List br×Unit):Option (Bool×Unit):=if(ln x.1:Int) != (ln x.2.1:Int)then some (false,())else aM k (fun c (a:List br×List br×Int×Unit)=>let b:=a.2.2.1;if dc (b<ln a.1)then if dc (0<=b/\b<ln a.1)then if dc (0<=b/\b<ln a.2.1)then bi (kR k (gd a.1 (tn b) bM.aa,gd a.2.1 (tn b) bM.aa,())) fun r3=>if !r3.1 then some (false,())else c (a.1,a.2.1,IntKind.i64.wrap (b+1),())else none else none else some (true,())) (x.1,x.2.1,0,())
def jr(k:Nat)(x:List Int×List Int×Unit):Option (Bool×Unit):=if(ln x.1:Int) != (ln x.2.1:Int)then some (false,())else aM k (fun c (a:List Int×List Int×Int×Unit)=>let b:=a.2.2.1;if dc (b<ln a.1)then if dc (0<=b/\b<ln a.1)then if dc (0<=b/\b<ln a.2.1)then if((gd a.1 (tn b) 0):Int) != (gd a.2.1 (tn b) 0)then some (false,())else c (a.1,a.2.1,IntKind.i64.wrap (b+1),())else none else none else some (true,())) (x.1,x.2.1,0,())
def k9(k:Nat)(x:List aF×List aF×Unit):Option (Bool×Unit):=if(ln x.1:Int) != (ln x.2.1:Int)then some (false,())else aM k (fun i (b:List aF×List aF×Int×Unit)=>let c:=b.2.2.1;let a:=gd b.2.1 (tn c) ak.aa;let f:=gd b.1 (tn c) ak.aa;let g:=f.1 != (a.1);let d:=f.2.2.2.2;let e:=a.2.2.2.2;let h:=(f.2.1:Int);if dc (c<ln b.1)then if dc (0<=c/\c<ln b.1)then if dc (0<=c/\c<ln b.2.1)then bi (if((if g then true else h != a.2.1):Bool)==false then bW k (f.2.2.1,a.2.2.1,())else some (false,())) fun r3=>bi (if((if if g then true else h != a.2.1 then true else !r3.1):Bool)==false then cg k (f.2.2.2.1,a.2.2.2.1,())else some (false,())) fun r4=>bi (if((if if if if g then true else h != a.2.1 then true else !r3.1 then true else !r4.1 then true else d.1 != e.1):Bool)==false then jr k (d.2.1,e.2.1,())else some (false,())) fun r5=>bi (if((if if if if if g then true else h != a.2.1 then true else !r3.1 then true else !r4.1 then true else d.1 != e.1 then true else !r5.1):Bool)==false then eI k (d.2.2.1,e.2.2.1,())else some (false,())) fun r6=>if if if if if if if if if g then true else h != a.2.1 then true else !r3.1 then true else !r4.1 then true else d.1 != e.1 then true else !r5.1 then true else !r6.1 then true else d.2.2.2.1 != e.2.2.2.1 then true else d.2.2.2.2 != e.2.2.2.2 then some (false,())else i (b.1,b.2.1,IntKind.i64.wrap (c+1),())else none else none else some (true,())) (x.1,x.2.1,0,())
def mg(k:Nat)(x:aC×aC×Unit):Option (Bool×Unit):=let a:=x.2.1.2.2.2.2;let b:=x.1.2.2.2.2;let c:=x.1.1==x.2.1.1;bi (if((if c then x.1.2.1==x.2.1.2.1 else false):Bool)==true then bW k (x.1.2.2.1,x.2.1.2.2.1,())else some (false,())) fun d=>bi (if((if if c then x.1.2.1==x.2.1.2.1 else false then d.1 else false):Bool)==true then cg k (x.1.2.2.2.1,x.2.1.2.2.2.1,())else some (false,())) fun e=>bi (if((if if if if if if c then x.1.2.1==x.2.1.2.1 else false then d.1 else false then e.1 else false then b.1==a.1 else false then b.2.1==a.2.1 else false then b.2.2.1==a.2.2.1 else false):Bool)==true then cY k (b.2.2.2.1,a.2.2.2.1,())else some (false,())) fun f=>some (if if if if if if if if if if if c then x.1.2.1==x.2.1.2.1 else false then d.1 else false then e.1 else false then b.1==a.1 else false then b.2.1==a.2.1 else false then b.2.2.1==a.2.2.1 else false then f.1 else false then b.2.2.2.2.1==a.2.2.2.2.1 else false then b.2.2.2.2.2.1==a.2.2.2.2.2.1 else false then b.2.2.2.2.2.2.1==a.2.2.2.2.2.2.1 else false then b.2.2.2.2.2.2.2==a.2.2.2.2.2.2.2 else false,())
def kP(k:Nat)(x:List aC×List aC×Unit):Option (Bool×Unit):=if(ln x.1:Int) != (ln x.2.1:Int)then some (false,())else aM k (fun c (a:List aC×List aC×Int×Unit)=>let b:=a.2.2.1;if dc (b<ln a.1)then if dc (0<=b/\b<ln a.1)then if dc (0<=b/\b<ln a.2.1)then bi (mg k (gd a.1 (tn b) aw.aa,gd a.2.1 (tn b) aw.aa,())) fun r3=>if !r3.1 then some (false,())else c (a.1,a.2.1,IntKind.i64.wrap (b+1),())else none else none else some (true,())) (x.1,x.2.1,0,())
def iN(k:Nat)(x:ag×ag×Unit):Option (Bool×Unit):=let a:=x.2.1.2;let h:=a.2.2.2.2.2;let b:=x.1.2.2.2.2.2.2;let e:=(x.1.2.2.1:Int);let f:=(x.1.2.1:Int);let m:=(b.2.2.1:Int);let c:=h.2.2;bi (ma k (x.1.1,x.2.1.1,())) fun d=>bi (if((if if d.1 then f==a.1 else false then e==a.2.1 else false):Bool)==true then kG k (x.1.2.2.2.1,a.2.2.1,())else some (false,())) fun g=>bi (if((if if if d.1 then f==a.1 else false then e==a.2.1 else false then g.1 else false):Bool)==true then lD k (x.1.2.2.2.2.1,a.2.2.2.1,())else some (false,())) fun i=>bi (if((if if if if d.1 then f==a.1 else false then e==a.2.1 else false then g.1 else false then i.1 else false):Bool)==true then eI k (x.1.2.2.2.2.2.1,a.2.2.2.2.1,())else some (false,())) fun j=>bi (if((if if if if if if d.1 then f==a.1 else false then e==a.2.1 else false then g.1 else false then i.1 else false then j.1 else false then b.1==h.1 else false):Bool)==true then jL k (b.2.1,h.2.1,())else some (false,())) fun l=>bi (if((if if if if if if if if d.1 then f==a.1 else false then e==a.2.1 else false then g.1 else false then i.1 else false then j.1 else false then b.1==h.1 else false then l.1 else false then m==c.1 else false):Bool)==true then mj k (b.2.2.2.1,c.2.1,())else some (false,())) fun n=>bi (if((if if if if if if if if if d.1 then f==a.1 else false then e==a.2.1 else false then g.1 else false then i.1 else false then j.1 else false then b.1==h.1 else false then l.1 else false then m==c.1 else false then n.1 else false):Bool)==true then mz k (b.2.2.2.2.1,c.2.2.1,())else some (false,())) fun o=>bi (if((if if if if if if if if if if d.1 then f==a.1 else false then e==a.2.1 else false then g.1 else false then i.1 else false then j.1 else false then b.1==h.1 else false then l.1 else false then m==c.1 else false then n.1 else false then o.1 else false):Bool)==true then eI k (b.2.2.2.2.2.1,c.2.2.2.1,())else some (false,())) fun p=>bi (if((if if if if if if if if if if if d.1 then f==a.1 else false then e==a.2.1 else false then g.1 else false then i.1 else false then j.1 else false then b.1==h.1 else false then l.1 else false then m==c.1 else false then n.1 else false then o.1 else false then p.1 else false):Bool)==true then k9 k (b.2.2.2.2.2.2.1,c.2.2.2.2.1,())else some (false,())) fun r=>bi (if((if if if if if if if if if if if if d.1 then f==a.1 else false then e==a.2.1 else false then g.1 else false then i.1 else false then j.1 else false then b.1==h.1 else false then l.1 else false then m==c.1 else false then n.1 else false then o.1 else false then p.1 else false then r.1 else false):Bool)==true then kP k (b.2.2.2.2.2.2.2,c.2.2.2.2.2,())else some (false,())) fun q=>some (if if if if if if if if if if if if if d.1 then f==a.1 else false then e==a.2.1 else false then g.1 else false then i.1 else false then j.1 else false then b.1==h.1 else false then l.1 else false then m==c.1 else false then n.1 else false then o.1 else false then p.1 else false then r.1 else false then q.1 else false,())
def Xa(k:Nat)(x:List ae×Int×Unit):Option (List ae×Unit):=aM k (fun d (a:List ae×Int×List ae×Int×Unit)=>let b:=a.2.2.2.1;let c:=(ln a.1:Int);if dc (b<c)then if dc (0<=b/\b<c)then bi (mV k (gd a.1 (tn b) ab.aa,a.2.1,())) fun r3=>if !r3.1 then if dc (0<=b/\b<c)then bi (bE k (gd a.1 (tn b) ab.aa,())) fun e=>if dc (ln a.2.2.1+ln [e.1]<4294967296)then d (a.1,a.2.1,a.2.2.1++([e.1]:List ae),IntKind.i64.wrap (b+1),())else none else none else d (a.1,a.2.1,a.2.2.1,IntKind.i64.wrap (b+1),())else none else some (a.2.2.1,())) (x.1,x.2.1,[],0,())
def RT(k:Nat)(x:List Int×Unit):Option (Bool×Unit):=bi (xX k (x.1,())) fun G=>if G.1 then some (true,())else bi (Qc k (x.1,())) fun b=>let y:=b.1.2.2.2.2.2.2.2.2.2.2.2.2;let F:=(gd y.1 (tn b.2.1) ak.aa).2;let a:=F.2.2.2.1;let z:=(ln y.2:Int);let H:=tn z;bi (Tq k (b.1,b.2.1,())) fun c=>let B:=gd c.1.2.2.2.2.2.2.2.2.2.2.2.2.2 H aw.aa;let d:=(B.2.2.2.2.1:Int);let e:=B.1==5;let I:=(c.2.1:Bool);let g:=(ln c.1.2.2.2.1:Int);let m:=((ln (B.2.2.2.2.2.2.2.1):Nat):Int);let n:=((gd c.1.2.2.2.1 (tn a) ah.aa).1:Int);bi (T0 k (b.1,b.2.1,())) fun C=>let v13:=I==C.2.1;bi (T9 k (x.1,())) fun p=>bi (W4 k (p.1,p.2.1,())) fun h=>let o:=(h.2.1:Bool);bi (W6 k (p.1,p.2.1,())) fun D=>let v15:=o==D.2.1;bi (Ta k (x.1,())) fun i=>bi (S2 k (i.1,i.2.1,())) fun q=>bi (if(!v13)==false then iN k (c.1,C.1,())else some (false,())) fun r10=>bi (if((if if !v13 then true else !r10.1 then true else !v15):Bool)==false then iN k (h.1,D.1,())else some (false,())) fun r11=>bi (if((if if if !v13 then true else !r10.1 then true else !v15 then true else !r11.1):Bool)==false then Xa k (i.1,i.2.1,())else some (([]:List ae),())) fun r=>bi (if((if if if !v13 then true else !r10.1 then true else !v15 then true else !r11.1):Bool)==false then eI k (q.1,r.1,())else some (false,())) fun r13=>bi (if(((if if if if !v13 then true else !r10.1 then true else !v15 then true else !r11.1 then true else !r13.1):Bool)==false)&&(o==true)then iz k (h.1,())else some (false,())) fun r14=>bi (if((if if if if if !v13 then true else !r10.1 then true else !v15 then true else !r11.1 then true else !r13.1 then true else if h.2.1 then !r14.1 else false):Bool)==false then S2 k (q.1,i.2.1,())else some (([]:List ae),())) fun s=>bi (if((if if if if if !v13 then true else !r10.1 then true else !v15 then true else !r11.1 then true else !r13.1 then true else if h.2.1 then !r14.1 else false):Bool)==false then eI k (s.1,q.1,())else some (false,())) fun r16=>if if if if if if if !v13 then true else !r10.1 then true else !v15 then true else !r11.1 then true else !r13.1 then true else if h.2.1 then !r14.1 else false then true else !r16.1 then some (false,())else if !c.2.1 then bi (iN k (c.1,b.1,())) fun t=>some (t.1,())else if dc (0<=b.2.1/\b.2.1<ln y.1)then bi (iz k (c.1,())) fun r18=>if !r18.1 then some (false,())else if F.1==0 then if dc (0<=a/\a<g)then some (n==b.2.1,())else none else if dc (0<=z/\z<ln c.1.2.2.2.2.2.2.2.2.2.2.2.2.2)then if !(((if e then d==a else false):Bool)==true)||(dc (0<=a/\a<g))then bi (if((if e then d==a else false):Bool)==true then iK k (gd c.1.2.2.2.1 (tn a) ah.aa,())else some (([]:List ae),())) fun u=>if !(((if e then d==a else false):Bool)==true)||(dc (0<=a/\a<ln b.1.2.2.2.1))then bi (if((if e then d==a else false):Bool)==true then iK k (gd b.1.2.2.2.1 (tn a) ah.aa,())else some (([]:List ae),())) fun v=>bi (if((if e then d==a else false):Bool)==true then S2 k (v.1,b.1.2.2.1,())else some (([]:List ae),())) fun w=>bi (if((if e then d==a else false):Bool)==true then eI k (u.1,w.1,())else some (false,())) fun f=>bi (if((if if e then d==a else false then f.1 else false):Bool)==true then jQ k (c.1.2.2.2.1,())else some (0,())) fun j=>bi (if((if if e then d==a else false then f.1 else false):Bool)==true then jQ k (b.1.2.2.2.1,())else some (0,())) fun l=>if !(((if if if e then d==a else false then f.1 else false then((IntKind.i64.wrap (j.1+m)):Int)==l.1 else false):Bool)==true)||(dc (0<=a/\a<g))then some (if if if if e then d==a else false then f.1 else false then((IntKind.i64.wrap (j.1+m)):Int)==l.1 else false then n== -1 else false,())else none else none else none else none else none
end Vg.Tryz
namespace Go.Proofs
open Go.Shelf
def Tryz.Cz:Go.Shelf.Ren:=⟨fun|156=>318|165=>363|166=>364|169=>365|240=>380|241=>381|276=>388|277=>389|n=>n,fun|31=>24|9=>9|3=>3|4=>4|0=>0|20=>20|72=>271|76=>274|70=>269|37=>22|75=>273|127=>285|164=>220|5=>5|80=>276|n=>n,fun|n=>n⟩
theorem Tryz.PN:Go.Proofs.Lays.n156 prog Tryz.Cz:={
 mixed:=by kernel_rfl
 f156:=func318.trans (congrArg some (by kernel_rfl))
 f165:=func363.trans (congrArg some (by kernel_rfl))
 f166:=func364.trans (congrArg some (by kernel_rfl))
 f169:=func365.trans (congrArg some (by kernel_rfl))
 f240:=func380.trans (congrArg some (by kernel_rfl))
 f241:=func381.trans (congrArg some (by kernel_rfl))
 f276:=func388.trans (congrArg some (by kernel_rfl))
 f277:=func389.trans (congrArg some (by kernel_rfl))
 t0:=Tryz.underlying0
 a0:=Tryz.isAgg0
 z0:=Tryz.sizeOf0
 v0:=Tryz.zeroValue0
 t3:=Tryz.underlying3
 a3:=Tryz.isAgg3
 z3:=Tryz.sizeOf3
 v3:=Tryz.zeroValue3
 t4:=Tryz.underlying4
 a4:=Tryz.isAgg4
 z4:=Tryz.sizeOf4
 v4:=Tryz.zeroValue4
 t9:=Tryz.underlying9
 a9:=Tryz.isAgg9
 z9:=Tryz.sizeOf9
 v9:=Tryz.zeroValue9
 t20:=Tryz.underlying20
 a20:=Tryz.isAgg20
 z20:=Tryz.sizeOf20
 v20:=Tryz.zeroValue20
 t31:=Tryz.underlying24
 a31:=Tryz.isAgg24
 z31:=Tryz.sizeOf24
 v31:=Tryz.zeroValue24
 t37:=Tryz.underlying22
 a37:=Tryz.isAgg22
 z37:=Tryz.sizeOf22
 v37:=Tryz.zeroValue22
 t70:=Tryz.underlying269
 a70:=Tryz.isAgg269
 z70:=Tryz.sizeOf269
 v70:=Tryz.zeroValue269
 t72:=Tryz.underlying271
 a72:=Tryz.isAgg271
 z72:=Tryz.sizeOf271
 v72:=Tryz.zeroValue271
 t75:=Tryz.underlying273
 a75:=Tryz.isAgg273
 z75:=Tryz.sizeOf273
 v75:=Tryz.zeroValue273
 t76:=Tryz.underlying274
 a76:=Tryz.isAgg274
 z76:=Tryz.sizeOf274
 v76:=Tryz.zeroValue274
 t127:=Tryz.underlying285
 a127:=Tryz.isAgg285
 z127:=Tryz.sizeOf285
 v127:=Tryz.zeroValue285
 t164:=Tryz.underlying220
 a164:=Tryz.isAgg220
 z164:=Tryz.sizeOf220
 v164:=Tryz.zeroValue220}
theorem Tryz.rQ:Builder.Extra prog Tryz.Cz:={
 sizeBuilder:=by kernel_rfl
 liesBuilder:=by kernel_rfl
 t5:=Tryz.underlying5
 a5:=Tryz.isAgg5
 z5:=Tryz.sizeOf5
 v5:=Tryz.zeroValue5
 infoByte:=by kernel_rfl
 cellsByte:=by kernel_rfl
 sizeByte:=by kernel_rfl
 neB5:=by decide}
open Go.RowKit in
theorem Tryz.strings_Join_none(a:Option Addr)(c:Nat)(sep:ByteArray)(w:World):
 Calls prog 318 #[.slice a 0 c,.string sep] w fun e w'=>e= .returned (.string ⟨#[]⟩)/\w'=w:=Any.strings_Join_none Tryz.PN Tryz.rQ a c sep w
open Go.RowKit in
theorem Tryz.strings_Join(h o c:Nat)(xs:List ByteArray)(sep:ByteArray)(w:World)(a:∀(j:Nat) x,xs[j]?=some x->w.cell? ⟨h,o+j,none⟩=some (.string x))(l:h<w.heap.size)(p:xs.length<=140737488355328)(b:xs.length<=c)(hlen:(Lib.join (xs.map (·.data.toList)) sep.data.toList).length<=140737488355328):
 Calls prog 318 #[.slice (some ⟨h,o,none⟩) xs.length c,.string sep] w fun e w'=>e= .returned (.string ⟨(Lib.join (xs.map (·.data.toList)) sep.data.toList).toArray⟩)/\Below w.heap.size w w':=Any.strings_Join Tryz.PN Tryz.rQ h o c xs sep w a l p b hlen
end Go.Proofs
namespace Vg.Tryz
open Go Vg Go.Proofs
def vP(k:Nat):Ou:=⟨[.val (.sl .str) .shr,.val .str .leaf],[.val .str .leaf],qA k,[]⟩
set_option maxRecDepth 1000000 in
def Kd(k:Nat):Qq prog 318 (vP k):=WM func318 (by kernel_rfl) (by kernel_rfl) Tryz.strings_Join_none Tryz.strings_Join
end Vg.Tryz
namespace Go.Proofs
open Go.RowKit
def PJ:Value->Int| .int _ q=>q|_=>0
set_option maxHeartbeats 4000000 in
set_option maxRecDepth 100000 in
theorem Tryz.Mx(pa pb:Option Addr)(ca cb:Nat)(a b:List (ByteArray×ByteArray))(W:World)(la:a.length<4611686018427387904)(lb:b.length<4611686018427387904)
 (ha:∀i,i<a.length->∃bk o,pa=some ⟨bk,o,none⟩/\W.cell? ⟨bk,o+i*2,none⟩=some (.string (a.getD i (ByteArray.empty,ByteArray.empty)).1)/\W.cell? ⟨bk,o+i*2+1,none⟩=some (.string (a.getD i (ByteArray.empty,ByteArray.empty)).2))
 (hb:∀i,i<b.length->∃bk o,pb=some ⟨bk,o,none⟩/\W.cell? ⟨bk,o+i*2,none⟩=some (.string (b.getD i (ByteArray.empty,ByteArray.empty)).1)/\W.cell? ⟨bk,o+i*2+1,none⟩=some (.string (b.getD i (ByteArray.empty,ByteArray.empty)).2)):
 Calls prog 240 #[.slice pa a.length ca,.slice pb b.length cb] W fun e w'=>e= .returned (.bool (Vg.bI a b))/\∃q,w'=W.drewN q:=by
 go_enter func240,Tryz.ntmps240
 go_wp2
 go_loopw [5] (fun vi wr=>∃(t q:Nat),vi= .int .i64 (t:Int)/\t<=a.length/\t<=b.length/\wr=W.drewN q/\Vg.bI a b=Vg.bI (a.drop t) (b.drop t)) (fun vi _=>a.length+1-(PJ vi).toNat)
 case atStart=>exact⟨0,0,rfl,by omega,by omega,rfl,rfl⟩
 case round=>
  obtain⟨t,q,rfl,ht1,ht2,hw,hR⟩:=hrel;by_cases hin:t<a.length/\t<b.length
  ·obtain⟨hi1,hi2⟩:=hin;obtain⟨ba,oa,ea,a1,a2⟩:=ha t hi1;obtain⟨bb,ob,eb,b1,b2⟩:=hb t hi2;have c1:wr.cell? ⟨ba,oa+t*2,none⟩=some (.string (a.getD t (ByteArray.empty,ByteArray.empty)).1):=by rw[hw];exact a1
   have c2:wr.cell? ⟨ba,oa+t*2+1,none⟩=some (.string (a.getD t (ByteArray.empty,ByteArray.empty)).2):=by rw[hw];exact a2
   have c3:wr.cell? ⟨bb,ob+t*2,none⟩=some (.string (b.getD t (ByteArray.empty,ByteArray.empty)).1):=by rw[hw];exact b1
   have c4:wr.cell? ⟨bb,ob+t*2+1,none⟩=some (.string (b.getD t (ByteArray.empty,ByteArray.empty)).2):=by rw[hw];exact b2
   have hs:Vg.bI (a.drop t) (b.drop t)=if(a.getD t (ByteArray.empty,ByteArray.empty)).1.toList==(b.getD t (ByteArray.empty,ByteArray.empty)).1.toList then(if(a.getD t (ByteArray.empty,ByteArray.empty)).2.toList==(b.getD t (ByteArray.empty,ByteArray.empty)).2.toList then Vg.bI (a.drop (t+1)) (b.drop (t+1))else Vg.nU (a.getD t (ByteArray.empty,ByteArray.empty)).2 (b.getD t (ByteArray.empty,ByteArray.empty)).2)else Vg.nU (a.getD t (ByteArray.empty,ByteArray.empty)).1 (b.getD t (ByteArray.empty,ByteArray.empty)).1:=by
    rw[aH7 hi1,aH7 hi2];simp only[Vg.bI,List.getD_eq_getElem?_getD,aH8 hi1,aH8 hi2,Option.getD_some]
   generalize (a.getD t (ByteArray.empty,ByteArray.empty)).1=x1 at c1 hs;generalize (a.getD t (ByteArray.empty,ByteArray.empty)).2=x2 at c2 hs;generalize (b.getD t (ByteArray.empty,ByteArray.empty)).1=y1 at c3 hs;generalize (b.getD t (ByteArray.empty,ByteArray.empty)).2=y2 at c4 hs;subst ea eb;have HW:Hid (wr=W.drewN q):=hw;have HR:Hid (Vg.bI a b=Vg.bI (a.drop t) (b.drop t)):=hR;have HS:Hid (_=_):=hs;clear hw hR hs ha hb a1 a2 b1 b2
   go_wp2
   go_quiet (fail)
   go_wp2
   ·have hne:(!x1.toList==y1.toList)=true:=by assumption
    go_quiet (fail)
    go_wp2
    go_ret
    have hv:Vg.bI a b=Op.bytesLess x1.toList y1.toList:=by
     rw[HR.out,HS.out,a_ (by simpa using hne)];rfl
    refine⟨?_,_,by rw[HW.out,World.drewN_drewN,World.drewN_drewN]⟩;rw[hv];rfl
   ·have hne:(!x1.toList==y1.toList)=false:=by assumption
    go_quiet (fail)
    go_wp2
    ·have hne2:(!x2.toList==y2.toList)=true:=by assumption
     go_quiet (fail)
     go_wp2
     go_ret
     have hv:Vg.bI a b=Op.bytesLess x2.toList y2.toList:=by
      rw[HR.out,HS.out,an (by simpa using hne),a_ (by simpa using hne2)];rfl
     refine⟨?_,_,by rw[HW.out,World.drewN_drewN,World.drewN_drewN,World.drewN_drewN]⟩;rw[hv];rfl
    ·have hne2:(!x2.toList==y2.toList)=false:=by assumption
     refine⟨⟨t+1,_,by congr 1,by omega,by omega,by rw[HW.out,World.drewN_drewN],?_⟩,?_⟩
     ·rw[HR.out,HS.out,an (by simpa using hne),an (by simpa using hne2)]
     ·simp[PJ];omega
  ·have hv:Vg.bI a b=decide (a.length<b.length):=by
    rw[hR];by_cases h1:t<a.length
    ·have h2:t=b.length:=by omega
     subst h2;rw[aH9,aH7 h1];simp only[Vg.bI];rw[decide_eq_false (by omega)]
    ·have h2:t=a.length:=by omega
     subst h2;rw[aH9];cases hd:b.drop a.length with
     |nil=>
      have:=congrArg List.length hd;simp only[aIa,List.length_nil]at this;simp only[Vg.bI,List.isEmpty_nil,Bool.not_true];rw[decide_eq_false (by omega)]
     |cons z zs=>
      have:=congrArg List.length hd;simp only[aIa,List.length_cons]at this;simp only[Vg.bI,List.isEmpty_cons,Bool.not_false];rw[c_ (by omega)]
   have HW:Hid (wr=W.drewN q):=hw;have HV:Hid (_=_):=hv;clear hw hR hv ha hb;by_cases h1:t<a.length
   ·have h2:¬t<b.length:=fun h=>hin ⟨h1,h⟩;clear hin
    go_wp2
    go_ret
    refine⟨?_,_,HW.out⟩;rw[HV.out];rfl
   ·clear hin
    go_wp2
    go_ret
    refine⟨?_,_,HW.out⟩;rw[HV.out];rfl
set_option maxHeartbeats 4000000 in
set_option maxRecDepth 100000 in
theorem Tryz.Mi(blk off c Bs n:Nat)(W:World)(i j:Nat)(hi:i<n)(hj:j<n)(hn:n<4611686018427387904)(va vb:Value)(r:Bool)
 (hs:W.cell? ⟨Bs,0,none⟩=some (.slice (some ⟨blk,off,none⟩) n c)) (hva:W.cell? ⟨blk,off+i*4,none⟩=some va) (hvb:W.cell? ⟨blk,off+j*4,none⟩=some vb)
 (hc:∀q,Calls prog 240 #[va,vb] (W.drewN q) fun e w'=>e= .returned (.bool r)/\∃m,w'=(W.drewN q).drewN m):
 Calls prog 239 #[.int .i64 i,.int .i64 j,.pointer (some ⟨Bs,0,none⟩)] W fun e w'=>e= .returned (.bool r)/\∃q,w'=W.drewN q:=by
 have HC:Hid (∀q,Calls prog 240 #[va,vb] (W.drewN q) fun e w'=>e= .returned (.bool r)/\∃m,w'=(W.drewN q).drewN m):=hc;clear hc
 go_enter func239,Tryz.ntmps239
 go_wp2
 go_quiet (first|(go_at_call 240;refine Calls.quiet_of (HC.out _)))
 go_wp2
 go_ret
 trace_state
 exact⟨rfl,nq,rfl⟩
end Go.Proofs
namespace Go.Proofs
open Go.Shelf
def Tryz.VK:Go.Shelf.Ren:=⟨fun|8=>148|13=>258|14=>259|16=>261|15=>260|29=>334|30=>335|42=>367|49=>384|n=>n,fun|20=>20|26=>147|36=>223|0=>0|38=>198|42=>228|3=>3|4=>4|47=>208|17=>17|33=>220|34=>221|89=>301|12=>12|56=>248|82=>295|5=>5|83=>296|84=>297|85=>285|86=>298|87=>299|n=>n,fun|n=>n⟩
theorem Tryz.Zq:Go.Proofs.LaysGt.n8 prog Tryz.VK:={
 mixed:=by kernel_rfl
 f8:=func148.trans (congrArg some (by kernel_rfl))
 f13:=func258.trans (congrArg some (by kernel_rfl))
 f14:=func259.trans (congrArg some (by kernel_rfl))
 f15:=func260.trans (congrArg some (by kernel_rfl))
 f16:=func261.trans (congrArg some (by kernel_rfl))
 f29:=func334.trans (congrArg some (by kernel_rfl))
 f30:=func335.trans (congrArg some (by kernel_rfl))
 f42:=func367.trans (congrArg some (by kernel_rfl))
 f49:=func384.trans (congrArg some (by kernel_rfl))
 t0:=Tryz.underlying0
 a0:=Tryz.isAgg0
 z0:=Tryz.sizeOf0
 v0:=Tryz.zeroValue0
 i0:=by kernel_rfl
 t3:=Tryz.underlying3
 a3:=Tryz.isAgg3
 z3:=Tryz.sizeOf3
 v3:=Tryz.zeroValue3
 i3:=by kernel_rfl
 t4:=Tryz.underlying4
 a4:=Tryz.isAgg4
 z4:=Tryz.sizeOf4
 v4:=Tryz.zeroValue4
 i4:=by kernel_rfl
 t5:=Tryz.underlying5
 a5:=Tryz.isAgg5
 z5:=Tryz.sizeOf5
 v5:=Tryz.zeroValue5
 i5:=by kernel_rfl
 t12:=Tryz.underlying12
 a12:=Tryz.isAgg12
 z12:=Tryz.sizeOf12
 v12:=Tryz.zeroValue12
 i12:=by kernel_rfl
 t17:=Tryz.underlying17
 a17:=Tryz.isAgg17
 z17:=Tryz.sizeOf17
 v17:=Tryz.zeroValue17
 i17:=by kernel_rfl
 t20:=Tryz.underlying20
 a20:=Tryz.isAgg20
 z20:=Tryz.sizeOf20
 v20:=Tryz.zeroValue20
 i20:=by kernel_rfl
 t26:=Tryz.underlying147
 a26:=Tryz.isAgg147
 z26:=Tryz.sizeOf147
 v26:=Tryz.zeroValue147
 i26:=by kernel_rfl
 t33:=Tryz.underlying220
 a33:=Tryz.isAgg220
 z33:=Tryz.sizeOf220
 v33:=Tryz.zeroValue220
 i33:=by kernel_rfl
 t34:=Tryz.underlying221
 a34:=Tryz.isAgg221
 z34:=Tryz.sizeOf221
 v34:=Tryz.zeroValue221
 i34:=by kernel_rfl
 t36:=Tryz.underlying223
 a36:=Tryz.isAgg223
 z36:=Tryz.sizeOf223
 v36:=Tryz.zeroValue223
 i36:=by kernel_rfl
 t38:=Tryz.underlying198
 a38:=Tryz.isAgg198
 z38:=Tryz.sizeOf198
 v38:=Tryz.zeroValue198
 i38:=by kernel_rfl
 t42:=Tryz.underlying228
 a42:=Tryz.isAgg228
 z42:=Tryz.sizeOf228
 v42:=Tryz.zeroValue228
 i42:=by kernel_rfl
 t47:=Tryz.underlying208
 a47:=Tryz.isAgg208
 z47:=Tryz.sizeOf208
 v47:=Tryz.zeroValue208
 i47:=by kernel_rfl
 t56:=Tryz.underlying248
 a56:=Tryz.isAgg248
 z56:=Tryz.sizeOf248
 v56:=Tryz.zeroValue248
 i56:=by kernel_rfl
 t82:=Tryz.underlying295
 a82:=Tryz.isAgg295
 z82:=Tryz.sizeOf295
 v82:=Tryz.zeroValue295
 i82:=by kernel_rfl
 t83:=Tryz.underlying296
 a83:=Tryz.isAgg296
 z83:=Tryz.sizeOf296
 v83:=Tryz.zeroValue296
 i83:=by kernel_rfl
 t84:=Tryz.underlying297
 a84:=Tryz.isAgg297
 z84:=Tryz.sizeOf297
 v84:=Tryz.zeroValue297
 i84:=by kernel_rfl
 t85:=Tryz.underlying285
 a85:=Tryz.isAgg285
 z85:=Tryz.sizeOf285
 v85:=Tryz.zeroValue285
 i85:=by kernel_rfl
 t86:=Tryz.underlying298
 a86:=Tryz.isAgg298
 z86:=Tryz.sizeOf298
 v86:=Tryz.zeroValue298
 i86:=by kernel_rfl
 t87:=Tryz.underlying299
 a87:=Tryz.isAgg299
 z87:=Tryz.sizeOf299
 v87:=Tryz.zeroValue299
 i87:=by kernel_rfl
 t89:=Tryz.underlying301
 a89:=Tryz.isAgg301
 z89:=Tryz.sizeOf301
 v89:=Tryz.zeroValue301
 i89:=by kernel_rfl}
end Go.Proofs
namespace Go.Proofs
open Go.Shelf Go.RowKit Go.Lib Go.Sort
noncomputable def Tryz.Zn:TypeInfo:=(prog.info? 29).get (by kernel_rfl)
noncomputable def Tryz.RH:TypeInfo:=(prog.info? 50).get (by kernel_rfl)
theorem Tryz.siK(n:Nat)(h2:2<=n)(ke:Nat):Lib.swapperK n Tryz.RH ke=Lib.swapperK 2 Tryz.RH ke:=by
 have c:(n==0)=false:=by simp;omega
 have d:(n==1)=false:=by simp;omega
 simp[Lib.swapperK,c,d]
set_option maxHeartbeats 4000000 in
set_option maxRecDepth 100000 in
theorem Tryz.Ny{α:Type}[Inhabited α](enc:α->List Value)(Q:∀x,(enc x).length=4)(h1:∀x,∀v∈enc x,v.oneCell'=true)(lab:α->List (ByteArray×ByteArray))(blk off c:Nat)(d:Array α)(w:World)
 (h2:2<=d.size) (SO:d.size<20) (hH:HoldsK enc 4 w blk off d) (hblk:blk<w.heap.size) (hlab:Xw enc lab blk w):
 Calls prog 129 #[.slice (some ⟨blk,off,none⟩) d.size c] w fun e w'=>
  e= .returned (.slice (some ⟨blk,off,none⟩) d.size c)/\∃n os,w'=grow (putRowK enc 4 (Sort.ahead w n) blk off (Sort.insertionSort (fun x y=>Vg.bI (lab x) (lab y)) d 0 d.size)) os:=by
 have hW1:w.alloc (.cells #[.slice (some ⟨blk,off,none⟩) d.size c] 29)=grow w #[.cells #[.slice (some ⟨blk,off,none⟩) d.size c] 29]:=alloc_eq_grow _ _;have hH1:HoldsK enc 4 (w.alloc (.cells #[.slice (some ⟨blk,off,none⟩) d.size c] 29)) blk off d:=by rw[hW1];exact holdsK_grow enc 4 w _ blk off d hblk hH
 have hb1:blk<(w.alloc (.cells #[.slice (some ⟨blk,off,none⟩) d.size c] 29)).heap.size:=by rw[hW1,size_grow];omega
 have hbox:∀m os (dk:Array α),(sortWorldK enc 4 (w.alloc (.cells #[.slice (some ⟨blk,off,none⟩) d.size c] 29)) blk off m dk os).cell? ⟨w.heap.size,0,none⟩=some (.slice (some ⟨blk,off,none⟩) d.size c):=by
  intro m os dk;rw[cell?_sortWorldK_other enc 4 _ blk off m dk os _ (by show w.heap.size≠blk;omega) (by show w.heap.size<_;rw[hW1,size_grow];simp)];simp
 have hless:LessReadsK prog 239 #[.pointer (some ⟨w.heap.size,0,none⟩)] enc 4 (fun x y=>Vg.bI (lab x) (lab y)) blk off d.size (w.alloc (.cells #[.slice (some ⟨blk,off,none⟩) d.size c] 29)):=by
  intro m os dk hs i j hi hj
  have hcell:∀x:Nat,x<d.size->∀v,(enc dk[x]!)[0]?=some v->(sortWorldK enc 4 (w.alloc (.cells #[.slice (some ⟨blk,off,none⟩) d.size c] 29)) blk off m dk os).cell? ⟨blk,off+x*4,none⟩=some v:=by
   intro x hx v hv;have hh:=holdsK_sortWorldK enc 4 _ blk off m d dk os hb1 hH1 hs;have:=(hh.cell (i:=x) (c:=0) (by omega) (by omega)).1;rw[Nat.add_zero]at this;rw[this];simp[hv]
  have hl:∀(x:α) (q:Nat),∃p c',(enc x)[0]?=some (.slice p (lab x).length c')/\(lab x).length<4611686018427387904/\
   ∀i,i<(lab x).length->∃bk o,p=some ⟨bk,o,none⟩/\((sortWorldK enc 4 (w.alloc (.cells #[.slice (some ⟨blk,off,none⟩) d.size c] 29)) blk off m dk os).drewN q).cell? ⟨bk,o+i*2,none⟩=some (.string ((lab x).getD i (ByteArray.empty,ByteArray.empty)).1)/\
    ((sortWorldK enc 4 (w.alloc (.cells #[.slice (some ⟨blk,off,none⟩) d.size c] 29)) blk off m dk os).drewN q).cell? ⟨bk,o+i*2+1,none⟩=some (.string ((lab x).getD i (ByteArray.empty,ByteArray.empty)).2):=by
   intro x q;obtain⟨p,c',e1,e2,e3⟩:=hlab x;refine⟨p,c',e1,e2,fun i hi=> ?_⟩;obtain⟨bk,o,q1,q2,q3,q4,q5⟩:=e3 i hi
   have ho:∀o',((sortWorldK enc 4 (w.alloc (.cells #[.slice (some ⟨blk,off,none⟩) d.size c] 29)) blk off m dk os).drewN q).cell? ⟨bk,o',none⟩=w.cell? ⟨bk,o',none⟩:=by
    intro o';show(sortWorldK enc 4 (w.alloc (.cells #[.slice (some ⟨blk,off,none⟩) d.size c] 29)) blk off m dk os).cell? ⟨bk,o',none⟩=_;rw[cell?_sortWorldK_other enc 4 _ blk off m dk os _ q2 (by show bk<_;rw[hW1,size_grow];omega),hW1,cell?_grow _ _ _ q3]
   exact⟨bk,o,q1,by rw[ho];exact q4,by rw[ho];exact q5⟩
  obtain⟨pa,ca,a1,a2,_⟩:=hl dk[i]! 0;obtain⟨pb,cb,b1,b2,_⟩:=hl dk[j]! 0;refine Tryz.Mi blk off c w.heap.size d.size _ i j hi hj (by omega) _ _ _ (hbox m os dk) (hcell i hi _ a1) (hcell j hj _ b1) (fun q=> ?_);obtain⟨pa',ca',a1',_,a3⟩:=hl dk[i]! q;obtain⟨pb',cb',b1',_,b3⟩:=hl dk[j]! q;rw[a1]at a1';rw[b1]at b1';cases a1';cases b1';exact Tryz.Mx pa pb ca cb _ _ _ a2 b2 a3 b3
 have hS:=PX Tryz.Zq (i:=Tryz.Zn) (ie:=Tryz.RH) (t:=29) (e:=50) (by kernel_rfl) (by kernel_rfl) (by kernel_rfl) (by kernel_rfl) (ke:=25) (fun _=>by kernel_rfl) Q (by kernel_rfl) (fun _=>by kernel_rfl) h1
  (fun x y=>Vg.bI (lab x) (lab y)) (g:=239) (enters_of func239 (by kernel_rfl) rfl) (c:=c) h2 SO (f:=333) (by rw[Tryz.siK _ h2];kernel_rfl) false
  (fun args W=>run_callFunc_extern (f:=333) func333 (by kernel_rfl) (by kernel_rfl) (by kernel_rfl) (e:=Extern.ReflectliteSwapper.swap false) (by kernel_rfl) args W) hless hH1 hb1
 change Calls prog 148 _ _ _ at hS;have HB:Hid (∀m os (dk:Array α),(sortWorldK enc 4 (w.alloc (.cells #[.slice (some ⟨blk,off,none⟩) d.size c] 29)) blk off m dk os).cell? ⟨w.heap.size,0,none⟩=some (.slice (some ⟨blk,off,none⟩) d.size c)):=hbox;clear hless hH1 hH hlab hbox hW1 hb1
 go_enter func129,Tryz.ntmps129
 go_wp2_with (go_at_call 148;refine hS.mono ?_;rintro e w1 ⟨rfl,n,os,hw⟩;have hcell:w1.cell? ⟨w.heap.size,0,none⟩=some (.slice (some ⟨blk,off,none⟩) d.size c):=(by rw[hw];exact HB.out n os _);have HW:Hid (w1=_):=hw;clear hw)
 go_ret
 exact⟨rfl,n,_,by rw[HW.out,alloc_eq_grow,ahead_grow,putRowK_grow enc 4 (Sort.ahead w n) _ blk off _ hblk,grow_grow]⟩
set_option maxHeartbeats 4000000 in
set_option maxRecDepth 100000 in
theorem Tryz.Lp(p:Option Addr)(n c:Nat)(h1:n<=1)(w:World):
 Calls prog 129 #[.slice p n c] w fun e w'=>e= .returned (.slice p n c)/\∃os,w'=grow w os:=by
 have hS:=fun W f hf=>Any.sort_SliceStable_tiny Tryz.Zq 29 50 Tryz.Zn Tryz.RH (by kernel_rfl) (by kernel_rfl) (by kernel_rfl) (by kernel_rfl) 25 (fun _=>by kernel_rfl) p n c h1 f hf (.func 239) #[] #[.pointer (some ⟨w.heap.size,0,none⟩)] W
 obtain⟨f,hf⟩:∃f,prog.funcs.findIdx? (·.name== "internal/reflectlite" ++ ".Swapper$" ++toString (swapperK n Tryz.RH 25))=some f:=by
  rcases Nat.eq_zero_or_pos n with h|h
  ·subst h;exact⟨325,by kernel_rfl⟩
  ·obtain rfl:n=1:=by omega
   exact⟨326,by kernel_rfl⟩
 have hS2:=fun W=>hS W f hf;change∀W,Calls prog 148 _ W _ at hS2;clear hS
 have HB:Hid (∀os,(grow (w.alloc (.cells #[.slice p n c] 29)) os).cell? ⟨w.heap.size,0,none⟩=some (.slice p n c)):=by
  intro os;rw[cell?_grow _ _ _ (by show w.heap.size<_;rw[alloc_eq_grow,size_grow];simp)];simp
 go_enter func129,Tryz.ntmps129
 go_wp2_with (go_at_call 148;refine(hS2 _).mono ?_;rintro e w1 ⟨rfl,os,hw⟩;have hcell:w1.cell? ⟨w.heap.size,0,none⟩=some (.slice p n c):=(by rw[hw];exact HB.out os);have HW:Hid (w1=_):=hw;clear hw)
 go_ret
 exact⟨rfl,_,by rw[HW.out,alloc_eq_grow,grow_grow]⟩
end Go.Proofs
namespace Vg.Tryz
open Go Vg Go.Proofs
def tV(k:Nat):Ou:=⟨[.val (.sl ab) .own],[.val (.sl ab) .own],mh k,[]⟩
set_option maxRecDepth 1000000 in
def GR(k:Nat):Qq prog 129 (tV k):=V5 (N:=20) func129 (by kernel_rfl) (by kernel_rfl) Tryz.Lp Tryz.Ny
def TT:List (Nat×TI):=[(3,⟨(.int .i64),[],0⟩),(4,⟨.bool,[],0⟩),(5,⟨(.int .u8),[],0⟩),(9,⟨.str,[],0⟩),(22,⟨(.sl (.int .u8)),[],5⟩),(24,⟨(.sl .str),[],9⟩),(26,⟨cM,[3,3,3,3,3,24],0⟩),(27,⟨(.sl ah),[],72⟩),(28,⟨(.sl aU),[],103⟩),(29,⟨(.sl ab),[],50⟩),(30,⟨(.sl aj),[],123⟩),(31,⟨(.sl aD),[],161⟩),(32,⟨(.sl bM),[],179⟩),(33,⟨(.sl ak),[],62⟩),(34,⟨(.sl aw),[],56⟩),(36,⟨az,[26,3,3,27,28,29,3,30,3,31,32,29,33,34],0⟩),(48,⟨(.sl al),[],149⟩),(50,⟨ab,[48,3,3,9],0⟩),(56,⟨aw,[3,3,50,48,3,3,3,29,3,3,3,3],0⟩),(60,⟨(.sl (.int .i64)),[],3⟩),(62,⟨ak,[3,3,50,48,3,60,29,3,3],0⟩),(70,⟨(.sl ax),[],131⟩),(72,⟨ah,[3,3,70],0⟩),(103,⟨aU,[29,4],0⟩),(123,⟨aj,[3,48,3,3,29],0⟩),(131,⟨ax,[3,29],0⟩),(142,⟨jY,[3,3,50,48],0⟩),(149,⟨al,[9,9],0⟩),(151,⟨bp,[22,3,3],0⟩),(152,⟨(.sl jY),[],142⟩),(161,⟨aD,[3,3],0⟩),(179,⟨bM,[3,48,3,29],0⟩),(208,⟨(.int .u64),[],0⟩),(248,⟨(.int .u32),[],0⟩)]
def abx:TT.all (fun p=>tyB prog p.1 p.2)=true:=by kernel_rfl
def mixed:prog.follows .mixedOrders=true:=by kernel_rfl
set_option maxRecDepth 1000000
def nA:Nat->Option Ua:=fun _=>none
def nX:Sh:=(.pair .leaf (.pair .leaf (.sl (.sha []))))
def WQ:Sh:=(.pair (.sl (.row 15 [15] true)) (.sl (.sha [1])))
def Af:Sh:=(.pair (.sl (.sha [])) (.pair .leaf (.pair .leaf .leaf)))
def FJ:Sh:=(.pair (.sl (.sha [])) (.pair (.sl (.sha [])) (.sl (.sha []))))
def Ka:Sh:=(.pair .leaf (.pair .leaf (.sl (.sha [1,2]))))
def Tn:Sh:=(.pair (.sl (.row 12 [12] true)) (.sl (.row 13 [1,2,13] false)))
def qo:Sh:=(.pair (.sl (.sha [1])) (.pair .leaf (.pair .leaf .leaf)))
def W2:Sh:=(.pair (.sl (.row 12 [12] true)) (.sl (.row 13 [1,13] false)))
def Xv:Sh:=(.pair (.sl (.sha [2,12])) (.pair .leaf (.pair .leaf .leaf)))
def Xx:Sh:=(.pair (.sl (.sha [2,12])) (.pair .leaf .leaf))
def aaf:Sh:=(.pair .leaf (.pair .leaf (.sl (.sha [1,2,15]))))
def TS:Sh:=(.pair (.sl (.row 12 [12] true)) (.sl (.row 13 [1,2,13,15] false)))
def Yk:Sh:=(.pair .leaf (.pair .leaf (.sl (.row 9 [9] true))))
def YP:Sh:=(.pair (.sl (.row 17 [17] true)) (.sl (.row 18 [18] true)))
def XC:Sh:=(.pair .leaf (.pair .leaf (.sl (.sha [2]))))
def ab8:Sh:=(.pair (.sl (.row 27 [27] true)) (.sl (.row 28 [2,28] false)))
def WV:Sh:=(.pair (.sl (.row 7 [7] true)) (.pair .leaf (.pair .leaf .leaf)))
def YI:Sh:=(.pair .leaf (.sl (.row 10 [7,10] true)))
def Pv:Sh:=(.pair .leaf (.pair .leaf (.sl (.row 7 [7] true))))
def Yg:Sh:=(.pair (.sl (.sha [])) (.pair .leaf .leaf))
def ZT:Sh:=(.pair (.sl (.row 10 [10] true)) (.pair .leaf .leaf))
def aae:Sh:=(.pair .leaf (.pair .leaf (.pair .leaf .leaf)))
def aee:Sh:=(.pair (.sl (.sha [1])) (.pair .leaf .leaf))
def apd:Sh:=(.pair .leaf (.pair .leaf (.sl (.row 5 [5] true))))
def h6:Sh:=(.pair .leaf (.pair .leaf (.sl (.sha [1]))))
def SY:Sh:=(.pair (.sl (.sha [1])) (.sl (.sha [1])))
def q0:Pt:=(.pair .leaf (.pair .leaf (.pair .leaf .own)))
def WU:Pt:=(.pair .shr (.pair .shr (.pair .shr .shr)))
def WR:Pt:=(.pair .hd (.pair .hd (.pair .own .hd)))
def q3:Pt:=(.pair .leaf (.pair .leaf (.pair .leaf .shr)))
def ZG:Pt:=(.pair .own (.pair .own (.pair .own .own)))
def fU:Pt:=(.pair .shr (.pair .leaf (.pair .leaf .leaf)))
def so:Pt:=(.pair .own (.pair .leaf (.pair .leaf .leaf)))
def ZD:Pt:=(.pair .shr (.pair .leaf (.pair .leaf .shr)))
def Zj:Pt:=(.pair .own (.pair .leaf (.pair .leaf .own)))
def ZB:Pt:=(.pair .shr (.pair .shr (.pair .leaf .leaf)))
def ZF:Pt:=(.pair .own (.pair .own (.pair .leaf .leaf)))
def Uq:Pt:=(.pair .leaf (.pair .leaf (.pair .leaf .leaf)))
abbrev aO:=Nat->Option Ua
abbrev aI:=List (FuncId×Ou)
abbrev aq:Ty:= .int .i64
def SB:Sh:= .pair .leaf (.pair .leaf (.pair .leaf h6))
def bu:Sh:= .sl (.sha [1])
def cX:Sh:= .pair SB (.pair .leaf (.pair .leaf (.pair bu (.pair bu (.pair bu (.pair .leaf (.pair bu (.pair .leaf (.pair bu (.pair bu (.pair bu SY)))))))))))
def jW:Sh:= .sl (.sha [])
def Ti:Sh:= .pair jW (.pair .leaf (.pair jW (.pair .leaf (.pair jW (.pair jW FJ)))))
def n9:Sh:= .pair (.pair .leaf (.pair .leaf (.pair .leaf nX))) (.pair .leaf (.pair .leaf (.pair jW (.pair jW Ti))))
def Bt:Sh:= .sl (.row 5 [1,2,5] false)
def bX:Sh:= .pair (.pair .leaf (.pair .leaf (.pair .leaf Ka))) (.pair .leaf (.pair .leaf (.pair Bt (.pair (.sl (.row 6 [1,2,6] false)) (.pair (.sl (.row 7 [1,2,7] false)) (.pair .leaf (.pair (.sl (.row 8 [1,2,8] false)) (.pair .leaf (.pair (.sl (.row 9 [1,2,9] false)) (.pair (.sl (.row 10 [1,2,10] false)) (.pair (.sl (.row 11 [1,2,11] false)) Tn)))))))))))
def Um:Sh:= .sl (.row 6 [6] true)
def ir:Sh:= .sl (.row 7 [7] true)
def qI:Sh:= .sl (.row 8 [8] true)
def CO:Sh:= .sl (.row 9 [9] true)
def OJ:Sh:= .sl (.row 10 [10] true)
def Rr:Sh:= .sl (.row 11 [11] true)
def KT:Sh:= .pair (.pair .leaf (.pair .leaf (.pair .leaf apd))) (.pair .leaf (.pair .leaf (.pair Um (.pair ir (.pair qI (.pair .leaf (.pair CO (.pair .leaf (.pair OJ (.pair bu (.pair Rr SY)))))))))))
def MO:Sh:= .pair (.sl (.row 6 [1,6] false)) (.pair (.sl (.row 7 [1,7] false)) (.pair .leaf (.pair (.sl (.row 8 [1,8] false)) (.pair .leaf (.pair (.sl (.row 9 [1,9] false)) (.pair (.sl (.row 10 [1,10] false)) (.pair (.sl (.row 11 [1,11] false)) W2)))))))
def Oy:Sh:= .pair SB (.pair .leaf (.pair .leaf (.pair (.sl (.row 5 [1,5] false)) MO)))
def qL:Sh:= .pair .leaf (.pair .leaf (.pair qo (.pair bu (.pair .leaf (.pair bu aee)))))
def Bh:Sh:= .pair .leaf (.pair .leaf (.pair .leaf Pv))
def S4:Sh:= .pair (.pair .leaf (.pair .leaf (.pair .leaf aaf))) (.pair .leaf (.pair .leaf (.pair (.sl (.row 5 [1,2,5,15] false)) (.pair (.sl (.row 6 [1,2,6,15] false)) (.pair (.sl (.row 7 [1,2,7,15] false)) (.pair .leaf (.pair (.sl (.row 8 [1,2,8,15] false)) (.pair .leaf (.pair (.sl (.row 9 [1,2,9,15] false)) (.pair (.sl (.row 10 [1,2,10,15] false)) (.pair (.sl (.row 11 [1,2,11,15] false)) TS)))))))))))
def VZ:Sh:= .pair (.pair .leaf (.pair .leaf (.pair .leaf XC))) (.pair .leaf (.pair .leaf (.pair (.sl (.row 20 [2,20] false)) (.pair (.sl (.row 21 [2,21] false)) (.pair (.sl (.row 22 [2,22] false)) (.pair .leaf (.pair (.sl (.row 23 [2,23] false)) (.pair .leaf (.pair (.sl (.row 24 [2,24] false)) (.pair (.sl (.row 25 [2,25] false)) (.pair (.sl (.row 26 [2,26] false)) ab8)))))))))))
def EG:Sh:= .sl (.row 13 [13] true)
def Un:Sh:= .sl (.row 14 [14] true)
def De:Sh:= .sl (.row 15 [15] true)
def PR:Sh:= .pair (.pair .leaf (.pair .leaf (.pair .leaf Yk))) (.pair .leaf (.pair .leaf (.pair OJ (.pair Rr (.pair (.sl (.row 12 [12] true)) (.pair .leaf (.pair EG (.pair .leaf (.pair Un (.pair De (.pair (.sl (.row 16 [16] true)) YP)))))))))))
def T1:Sh:= .pair jW (.pair .leaf (.pair .leaf (.pair .leaf (.pair jW aae))))
def KS:Sh:= .pair .leaf (.pair .leaf (.pair Af T1))
def Ow:Sh:= .sl (.row 4 [4] true)
def vu:Sh:= .pair Bh (.pair .leaf (.pair .leaf (.pair qI (.pair CO (.pair OJ (.pair .leaf (.pair Rr (.pair .leaf (.pair (.sl (.row 12 [] true)) (.pair EG (.pair Un WQ)))))))))))
def U3:Sh:= .pair Bh (.pair .leaf (.pair .leaf (.pair qI (.pair CO (.pair OJ (.pair .leaf (.pair Rr (.pair .leaf (.pair (.sl (.row 12 [] true)) (.pair EG (.pair bu SY)))))))))))
def Dd:Sh:= .pair .leaf (.pair .leaf (.pair Af (.pair jW (.pair .leaf (.pair jW Yg)))))
def Bu:Sh:= .pair .leaf (.pair .leaf (.pair Xv (.pair (.sl (.sha [2,12])) (.pair .leaf (.pair (.sl (.sha [2,12])) Xx)))))
def yb:Sh:= .sl (.row 5 [] true)
def Ev:Sh:= .pair .leaf (.pair jW nX)
def zC:Sh:= .pair .leaf (.pair bu h6)
def MP:Sh:= .pair Bh (.pair .leaf (.pair .leaf (.pair qI (.pair CO Ti))))
def Cd:Sh:= .sl (.sha [1,2])
def C3:Sh:= .sl (.row 5 [5] true)
def DO:Sh:= .pair .leaf (.pair qI Yk)
def Ox:Sh:= .pair .leaf bu
def Km:Sh:= .pair .leaf .leaf
def Ho:Sh:= .pair .leaf (.pair .leaf (.pair Af jW))
def VU:Sh:= .pair .leaf ir
def PS:Sh:= .pair .leaf (.pair .leaf (.pair WV (.pair qI (.pair .leaf (.pair (.sl (.row 9 [] true)) ZT)))))
def Re:Sh:= .pair .leaf (.pair .leaf (.pair Af (.pair jW (.pair .leaf (.pair (.sl (.row 7 [] true)) Yg)))))
def SZ:Sh:= .pair .leaf (.pair Cd Ka)
def Rc:Sh:= .pair .leaf jW
def SD:Sh:= .sl (.row 4 [] true)
def tP:Sh:= .sl (.row 4 [2] false)
def nQ:Sh:= .pair .leaf (.pair CO (.pair .leaf YI))
def lS:Sh:= .pair .leaf (.pair .leaf (.pair qo bu))
def sE:Pt:= .pair .leaf (.pair .leaf q3)
def gi:Pt:= .pair sE (.pair .leaf (.pair .leaf (.pair .hd (.pair .hd (.pair .hd (.pair .leaf (.pair .hd (.pair .leaf (.pair .hd WR)))))))))
def nR:Pt:= .pair sE (.pair .leaf (.pair .leaf (.pair .shr (.pair .shr (.pair .shr (.pair .leaf (.pair .shr (.pair .leaf (.pair .shr WU)))))))))
def MH:Pt:= .pair .leaf .leaf
def pD:Pt:= .pair .rom MH
def rm:Pt:= .pair .leaf (.pair .leaf (.pair fU (.pair .shr (.pair .leaf ZB))))
def qK:Pt:= .pair .leaf (.pair .leaf (.pair fU (.pair .shr (.pair .leaf (.pair .leaf (.pair .leaf (.pair .shr Uq)))))))
def OE:Pt:= .pair .leaf (.pair .leaf q0)
def Jw:Pt:= .pair OE (.pair .leaf (.pair .leaf (.pair .own (.pair .own (.pair .own (.pair .leaf (.pair .own (.pair .leaf (.pair .own ZG)))))))))
def xF:Pt:= .pair .leaf .shr
def xN:Pt:= .pair .leaf xF
def zl:Pt:= .pair .leaf (.pair .leaf (.pair so (.pair .own (.pair .leaf (.pair .leaf (.pair .leaf (.pair .own Uq)))))))
def Pr:Pt:= .pair .leaf (.pair .leaf (.pair so (.pair .own (.pair .leaf ZF))))
def HN:Pt:= .pair .leaf ZD
def CN:Pt:= .pair .leaf .own
def SH:Pt:= .pair .shr .leaf
def Xt:Pt:= .pair .own .leaf
def aiH:Pt:= .pair .leaf Zj
def an9:Pt:= .pair .leaf (.pair .leaf .pv)
def al1:Pt:= .pair .leaf CN
def apx:Pt:= .pair .leaf (.pair .leaf (.pair fU .shr))
def q1:Pt:=(.pair .leaf q0)
def q2:Pt:=(.pair .leaf q1)
def q4:Pt:=(.pair .leaf q3)
def q5:Pt:=(.pair .leaf q4)
def h7:Sh:=(.pair .leaf h6)
def h8:Sh:=(.pair .leaf h7)
def h9:Sh:=(.pair .leaf h8)
def xe:Sh:=(.pair .leaf nX)
def mE:Sh:=(.pair .leaf xe)
def vq:Sh:=(.pair .leaf mE)
def Kv:Sh:=(.pair (.sl (.sha [])) FJ)
def St:Sh:=(.pair (.sl (.sha [])) Kv)
def RO:Sh:=(.pair .leaf St)
def h18:Sh:=(.pair (.sl (.sha [])) RO)
def UB:Sh:=(.pair .leaf h18)
def SO:Sh:=(.pair (.sl (.sha [])) UB)
def Gs:Sh:=(.pair (.sl (.sha [])) SO)
def h22:Sh:=(.pair (.sl (.sha [])) Gs)
def h23:Sh:=(.pair .leaf h22)
def h24:Sh:=(.pair .leaf h23)
def h25:Sh:=(.pair vq h24)
def h27:Sh:=(.pair .leaf Pv)
def h28:Sh:=(.pair .leaf h27)
def WG:Sh:=(.pair .leaf h28)
def Zy:Sh:=(.pair (.sl (.row 9 [9] true)) SO)
def h31:Sh:=(.pair (.sl (.row 8 [8] true)) Zy)
def h32:Sh:=(.pair .leaf h31)
def Wn:Sh:=(.pair .leaf h32)
def h34:Sh:=(.pair WG Wn)
def q36:Pt:=(.pair .own ZG)
def q37:Pt:=(.pair .leaf q36)
def q38:Pt:=(.pair .own q37)
def q39:Pt:=(.pair .leaf q38)
def q40:Pt:=(.pair .own q39)
def q41:Pt:=(.pair .own q40)
def q42:Pt:=(.pair .own q41)
def q43:Pt:=(.pair .leaf q42)
def q44:Pt:=(.pair .leaf q43)
def q45:Pt:=(.pair q2 q44)
def q49:Pt:=(.pair .leaf ZD)
def q51:Pt:=(.pair .leaf Zj)
def U4:Pt:=(.pair .leaf (.pair .shr (.pair .leaf .shr)))
def UO:Pt:=(.pair .leaf (.pair .own (.pair .leaf .own)))
def q55:Pt:=(.pair .leaf ZB)
def q56:Pt:=(.pair .shr q55)
def q57:Pt:=(.pair fU q56)
def q58:Pt:=(.pair .leaf q57)
def q59:Pt:=(.pair .leaf q58)
def q61:Pt:=(.pair .leaf ZF)
def q62:Pt:=(.pair .own q61)
def q63:Pt:=(.pair so q62)
def q64:Pt:=(.pair .leaf q63)
def q65:Pt:=(.pair .leaf q64)
def q67:Pt:=(.pair .shr Uq)
def q68:Pt:=(.pair .leaf q67)
def q69:Pt:=(.pair .leaf q68)
def q70:Pt:=(.pair .leaf q69)
def q71:Pt:=(.pair .shr q70)
def q72:Pt:=(.pair fU q71)
def q73:Pt:=(.pair .leaf q72)
def q74:Pt:=(.pair .leaf q73)
def q75:Pt:=(.pair .own Uq)
def q76:Pt:=(.pair .leaf q75)
def q77:Pt:=(.pair .leaf q76)
def q78:Pt:=(.pair .leaf q77)
def q79:Pt:=(.pair .own q78)
def q80:Pt:=(.pair so q79)
def q81:Pt:=(.pair .leaf q80)
def q82:Pt:=(.pair .leaf q81)
def Zi:Sh:=(.pair (.sl (.sha [1])) SY)
def h85:Sh:=(.pair (.sl (.sha [1])) Zi)
def h86:Sh:=(.pair (.sl (.sha [1])) h85)
def h87:Sh:=(.pair .leaf h86)
def h88:Sh:=(.pair (.sl (.sha [1])) h87)
def h89:Sh:=(.pair .leaf h88)
def h90:Sh:=(.pair (.sl (.sha [1])) h89)
def h91:Sh:=(.pair (.sl (.sha [1])) h90)
def h92:Sh:=(.pair (.sl (.sha [1])) h91)
def h93:Sh:=(.pair .leaf h92)
def h94:Sh:=(.pair .leaf h93)
def h95:Sh:=(.pair h9 h94)
def h96:Sh:=(.pair (.sl (.row 13 [13] true)) Zi)
def h97:Sh:=(.pair (.sl (.row 12 [] true)) h96)
def h98:Sh:=(.pair .leaf h97)
def h99:Sh:=(.pair (.sl (.row 11 [11] true)) h98)
def acG:Sh:=(.pair .leaf h99)
def abK:Sh:=(.pair (.sl (.row 10 [10] true)) acG)
def abo:Sh:=(.pair (.sl (.row 9 [9] true)) abK)
def aaN:Sh:=(.pair (.sl (.row 8 [8] true)) abo)
def ab0:Sh:=(.pair .leaf aaN)
def acZ:Sh:=(.pair .leaf ab0)
def al0:Sh:=(.pair WG acZ)
def aa0:Sh:=(.pair (.sl (.row 14 [14] true)) WQ)
def acI:Sh:=(.pair (.sl (.row 13 [13] true)) aa0)
def abe:Sh:=(.pair (.sl (.row 12 [] true)) acI)
def acY:Sh:=(.pair .leaf abe)
def aa2:Sh:=(.pair (.sl (.row 11 [11] true)) acY)
def acU:Sh:=(.pair .leaf aa2)
def abW:Sh:=(.pair (.sl (.row 10 [10] true)) acU)
def aco:Sh:=(.pair (.sl (.row 9 [9] true)) abW)
def acy:Sh:=(.pair (.sl (.row 8 [8] true)) aco)
def ab4:Sh:=(.pair .leaf acy)
def aa5:Sh:=(.pair .leaf ab4)
def amd:Sh:=(.pair WG aa5)
def acB:Pt:=(.pair .shr WU)
def ab7:Pt:=(.pair .leaf acB)
def acE:Pt:=(.pair .shr ab7)
def acm:Pt:=(.pair .leaf acE)
def abY:Pt:=(.pair .shr acm)
def abH:Pt:=(.pair .shr abY)
def ab6:Pt:=(.pair .shr abH)
def aaG:Pt:=(.pair .leaf ab6)
def ace:Pt:=(.pair .leaf aaG)
def alO:Pt:=(.pair q5 ace)
def gX:Sh:=(.pair (.sl (.sha [3])) (.pair .leaf .leaf))
def WY:Sh:=(.pair (.sl (.row 6 [6] true)) (.pair .leaf (.pair .leaf .leaf)))
def abC:Sh:=(.pair Af (.sl (.sha [])))
def aa9:Sh:=(.pair .leaf abC)
def al8:Sh:=(.pair .leaf aa9)
def ab3:Pt:=(.pair .hd WR)
def abb:Pt:=(.pair .leaf ab3)
def acv:Pt:=(.pair .hd abb)
def abE:Pt:=(.pair .leaf acv)
def abI:Pt:=(.pair .hd abE)
def abD:Pt:=(.pair .hd abI)
def acd:Pt:=(.pair .hd abD)
def acf:Pt:=(.pair .leaf acd)
def acX:Pt:=(.pair .leaf acf)
def alU:Pt:=(.pair q5 acX)
def aaW:Sh:=(.pair .leaf Ka)
def aaM:Sh:=(.pair .leaf aaW)
def ab1:Sh:=(.pair .leaf aaM)
def abl:Sh:=(.pair (.sl (.row 11 [1,2,11] false)) Tn)
def acK:Sh:=(.pair (.sl (.row 10 [1,2,10] false)) abl)
def acL:Sh:=(.pair (.sl (.row 9 [1,2,9] false)) acK)
def acV:Sh:=(.pair .leaf acL)
def aaK:Sh:=(.pair (.sl (.row 8 [1,2,8] false)) acV)
def abn:Sh:=(.pair .leaf aaK)
def abq:Sh:=(.pair (.sl (.row 7 [1,2,7] false)) abn)
def abQ:Sh:=(.pair (.sl (.row 6 [1,2,6] false)) abq)
def acN:Sh:=(.pair (.sl (.row 5 [1,2,5] false)) abQ)
def aaL:Sh:=(.pair .leaf acN)
def ack:Sh:=(.pair .leaf aaL)
def ams:Sh:=(.pair ab1 ack)
def VY:Sh:=(.pair .leaf (.pair .leaf (.sl (.row 8 [8] true))))
def abV:Sh:=(.pair (.sl (.row 11 [1,11] false)) W2)
def aa4:Sh:=(.pair (.sl (.row 10 [1,10] false)) abV)
def aca:Sh:=(.pair (.sl (.row 9 [1,9] false)) aa4)
def abM:Sh:=(.pair .leaf aca)
def abO:Sh:=(.pair (.sl (.row 8 [1,8] false)) abM)
def aa3:Sh:=(.pair .leaf abO)
def abT:Sh:=(.pair (.sl (.row 7 [1,7] false)) aa3)
def ZV:Sh:=(.pair (.sl (.row 6 [1,6] false)) abT)
def acq:Sh:=(.pair (.sl (.sha [2,12])) Xx)
def adH:Sh:=(.pair .leaf acq)
def Z8:Sh:=(.pair (.sl (.sha [2,12])) adH)
def aad:Sh:=(.pair Xv Z8)
def abi:Sh:=(.pair .leaf aad)
def ajQ:Sh:=(.pair .leaf abi)
def ac1:Sh:=(.pair (.sl (.row 5 [1,5] false)) ZV)
def acW:Sh:=(.pair .leaf ac1)
def abc:Sh:=(.pair .leaf acW)
def amn:Sh:=(.pair h9 abc)
def aiA:Sh:=(.pair .leaf aaf)
def acP:Sh:=(.pair .leaf aiA)
def akm:Sh:=(.pair .leaf acP)
def aed:Sh:=(.pair (.sl (.row 11 [1,2,11,15] false)) TS)
def ah2:Sh:=(.pair (.sl (.row 10 [1,2,10,15] false)) aed)
def U5:Sh:=(.pair (.sl (.row 9 [1,2,9,15] false)) ah2)
def Uo:Sh:=(.pair .leaf U5)
def ahU:Sh:=(.pair (.sl (.row 8 [1,2,8,15] false)) Uo)
def adD:Sh:=(.pair .leaf ahU)
def X8:Sh:=(.pair (.sl (.row 7 [1,2,7,15] false)) adD)
def adO:Sh:=(.pair (.sl (.row 6 [1,2,6,15] false)) X8)
def adq:Sh:=(.pair (.sl (.row 5 [1,2,5,15] false)) adO)
def ab2:Sh:=(.pair .leaf adq)
def abZ:Sh:=(.pair .leaf ab2)
def Z2:Sh:=(.pair akm abZ)
def ZX:Sh:=(.pair .leaf (.pair .leaf (.sl (.row 15 [15] true))))
def acn:Sh:=(.pair (.sl (.sha [1])) h6)
def adp:Sh:=(.pair .leaf acn)
def aab:Sh:=(.pair (.sl (.sha [])) nX)
def adt:Sh:=(.pair .leaf aab)
def aa6:Sh:=(.pair (.sl (.row 8 [8] true)) Yk)
def ad7:Sh:=(.pair .leaf aa6)
def Ya:Sh:=(.pair (.sl (.row 11 [11] true)) (.pair .leaf (.pair .leaf .leaf)))
def YH:Sh:=(.pair (.sl (.sha [])) (.pair .leaf (.sl (.sha []))))
def aek:Sh:=(.pair .leaf YH)
def ah8:Sh:=(.pair qo (.sl (.sha [1])))
def X7:Sh:=(.pair .leaf ah8)
def adM:Sh:=(.pair .leaf X7)
def aqf:Pt:=(.pair fU .shr)
def aqi:Pt:=(.pair .leaf aqf)
def aqo:Pt:=(.pair .leaf aqi)
def acO:Sh:=(.pair .leaf Yk)
def ach:Sh:=(.pair .leaf acO)
def abd:Sh:=(.pair .leaf ach)
def aaT:Sh:=(.pair (.sl (.row 16 [16] true)) YP)
def acF:Sh:=(.pair (.sl (.row 15 [15] true)) aaT)
def aaF:Sh:=(.pair (.sl (.row 14 [14] true)) acF)
def acw:Sh:=(.pair .leaf aaF)
def aaS:Sh:=(.pair (.sl (.row 13 [13] true)) acw)
def abB:Sh:=(.pair .leaf aaS)
def abF:Sh:=(.pair (.sl (.row 12 [12] true)) abB)
def ail:Sh:=(.pair (.sl (.row 11 [11] true)) abF)
def OG:Sh:=(.pair (.sl (.row 10 [10] true)) ail)
def Yf:Sh:=(.pair .leaf OG)
def abm:Sh:=(.pair .leaf Yf)
def afl:Sh:=(.pair abd abm)
def Tv:Sh:=(.pair .leaf XC)
def aaR:Sh:=(.pair .leaf Tv)
def aaV:Sh:=(.pair .leaf aaR)
def Yc:Sh:=(.pair (.sl (.row 26 [2,26] false)) ab8)
def acR:Sh:=(.pair (.sl (.row 25 [2,25] false)) Yc)
def aid:Sh:=(.pair (.sl (.row 24 [2,24] false)) acR)
def acz:Sh:=(.pair .leaf aid)
def aa8:Sh:=(.pair (.sl (.row 23 [2,23] false)) acz)
def abP:Sh:=(.pair .leaf aa8)
def aej:Sh:=(.pair (.sl (.row 22 [2,22] false)) abP)
def abj:Sh:=(.pair (.sl (.row 21 [2,21] false)) aej)
def ahW:Sh:=(.pair (.sl (.row 20 [2,20] false)) abj)
def Ye:Sh:=(.pair .leaf ahW)
def abf:Sh:=(.pair .leaf Ye)
def adL:Sh:=(.pair aaV abf)
def acC:Sh:=(.pair .leaf YI)
def ah5:Sh:=(.pair (.sl (.row 9 [9] true)) acC)
def U1:Sh:=(.pair .leaf ah5)
def acS:Sh:=(.pair (.sl (.sha [])) Yg)
def adB:Sh:=(.pair .leaf acS)
def X9:Sh:=(.pair (.sl (.sha [])) adB)
def acs:Sh:=(.pair Af X9)
def ac3:Sh:=(.pair .leaf acs)
def ad2:Sh:=(.pair .leaf ac3)
def aiy:Sh:=(.pair (.sl (.row 7 [] true)) Yg)
def Yj:Sh:=(.pair .leaf aiy)
def acj:Sh:=(.pair (.sl (.sha [])) Yj)
def ab9:Sh:=(.pair Af acj)
def adN:Sh:=(.pair .leaf ab9)
def abA:Sh:=(.pair .leaf adN)
def adW:Sh:=(.pair (.sl (.row 9 [] true)) ZT)
def aba:Sh:=(.pair .leaf adW)
def adE:Sh:=(.pair (.sl (.row 8 [8] true)) aba)
def ZY:Sh:=(.pair WV adE)
def aeX:Sh:=(.pair .leaf ZY)
def ais:Sh:=(.pair .leaf aeX)
def aeT:Sh:=(.pair (.sl (.sha [])) aae)
def afx:Sh:=(.pair .leaf aeT)
def akr:Sh:=(.pair .leaf afx)
def abk:Sh:=(.pair .leaf akr)
def ae2:Sh:=(.pair (.sl (.sha [])) abk)
def afI:Sh:=(.pair Af ae2)
def aiw:Sh:=(.pair .leaf afI)
def ae6:Sh:=(.pair .leaf aiw)
def ajS:Sh:=(.pair (.sl (.sha [1])) aee)
def afc:Sh:=(.pair .leaf ajS)
def aki:Sh:=(.pair (.sl (.sha [1])) afc)
def abg:Sh:=(.pair qo aki)
def apD:Sh:=(.pair .leaf abg)
def apf:Sh:=(.pair .leaf apD)
def aoj:Sh:=(.pair (.sl (.sha [1,2])) (.pair .leaf (.pair .leaf .leaf)))
def amo:Sh:=(.pair (.sl (.sha [1,2])) Ka)
def aqp:Sh:=(.pair .leaf amo)
def ap9:Sh:=(.pair .leaf apd)
def aqk:Sh:=(.pair .leaf ap9)
def ap6:Sh:=(.pair .leaf aqk)
def aqa:Sh:=(.pair (.sl (.row 11 [11] true)) SY)
def ap4:Sh:=(.pair (.sl (.sha [1])) aqa)
def ap5:Sh:=(.pair (.sl (.row 10 [10] true)) ap4)
def aqe:Sh:=(.pair .leaf ap5)
def ap1:Sh:=(.pair (.sl (.row 9 [9] true)) aqe)
def aqd:Sh:=(.pair .leaf ap1)
def aqg:Sh:=(.pair (.sl (.row 8 [8] true)) aqd)
def ap7:Sh:=(.pair (.sl (.row 7 [7] true)) aqg)
def aqc:Sh:=(.pair (.sl (.row 6 [6] true)) ap7)
def ap2:Sh:=(.pair .leaf aqc)
def aqb:Sh:=(.pair .leaf ap2)
def aqn:Sh:=(.pair ap6 aqb)
def aK{a:List (FuncId×Ou)}(hc:aG prog a)(b c:Nat->Option Ua)(k:Nat){f:FuncId}{fn:Func}(e:prog.funcs[f]?=some fn){ps:List PK}(g:fnB fn ps.length=true){rs:List RK}{d:List (Nat×List Bool)}{F:iF (ps.map PK.ty)->Option (iF (rs.map RK.ty++lu ps))}(h:∀x,Yr (adr TT a b c k) ps rs d fn x=F x):aG prog ((f,⟨ps,rs,F,d⟩)::a):=aG.Uc abx mixed hc b c k e g h
section
variable(k:Nat)
def xy:aI:=(318,vP k)::([]:List (FuncId×Ou))
def Et:aG prog (xy k):=⟨Kd k,(show aG prog []from trivial)⟩
def uU:aI:=(129,tV k)::(xy k)
def BS:aG prog (uU k):=⟨GR k,(Et k)⟩
def FZ:aI:=(12,⟨[.val (.sl (.int .u8)) .rom],[.val .bool .leaf],xX k,[]⟩)::(uU k)
def QI:aG prog (FZ k):=aK (BS k) nA nA k func12 (by kernel_rfl) (fun x=>by kernel_rfl)
def Mw:aO:=fun|3=>some ⟨[(0,.val (.sl (.int .u8)) (.sl (.sha [3]))),(3,.val aq .leaf),(4,.val aq .leaf)],4⟩|_=>none
def Lb:aO:=fun|6=>some ⟨[(0,.val (.sl (.int .u8)) (.sl (.sha [3]))),(3,.val aq .leaf)],4⟩|_=>none
def Au:aI:=(74,⟨[.val (.sl (.int .u8)) .rom],[.nbox bp pD],mA k,[]⟩)::(FZ k)
def M7:aG prog (Au k):=aK (QI k) Mw Lb k func74 (by kernel_rfl) (fun x=>by kernel_rfl)
def yB:aI:=(76,⟨[.val (.sl (.int .u8)) .rom,.val aq .leaf],[.val aq .leaf],mX k,[]⟩)::(Au k)
def LJ:aG prog (yB k):=aK (M7 k) nA nA k func76 (by kernel_rfl) (fun x=>by kernel_rfl)
def y5:aI:=(172,⟨[.io bp pD],[.val aq .leaf],gU k,[]⟩)::(yB k)
def Mv:aG prog (y5 k):=aK (LJ k) nA nA k func172 (by kernel_rfl) (fun x=>by kernel_rfl)
def vM:aI:=(91,⟨[.io bp pD,.val aq .leaf],[.val aq .leaf],aL k,[]⟩)::(y5 k)
def JJ:aG prog (vM k):=aK (Mv k) nA nA k func91 (by kernel_rfl) (fun x=>by kernel_rfl)
def Ag:aI:=(109,⟨[.io bp pD,.val (.sl aq) .shr],[.val aq .leaf],bd k,[]⟩)::(vM k)
def Ns:aG prog (Ag k):=aK (JJ k) nA nA k func109 (by kernel_rfl) (fun x=>by kernel_rfl)
def Cr:aI:=(281,⟨[.io bp pD],[.val (.sl .str) .own],jN k,[]⟩)::(Ag k)
def OT:aG prog (Cr k):=aK (Ns k) nA nA k func281 (by kernel_rfl) (fun x=>by kernel_rfl)
def xq:aI:=(170,⟨[.io bp pD],[.val cM OE],kf k,[]⟩)::(Cr k)
def JK:aG prog (xq k):=aK (OT k) nA nA k func170 (by kernel_rfl) (fun x=>by kernel_rfl)
def Cw:aI:=(93,⟨[.val aq .leaf,.val aq .leaf,.val aq .leaf],[.val .bool .leaf],bD k,[]⟩)::(xq k)
def Pb:aG prog (Cw k):=aK (JK k) nA nA k func93 (by kernel_rfl) (fun x=>by kernel_rfl)
def Il:aO:=fun|2=>some ⟨[(0,.val .str .leaf),(3,.val aq .leaf)],4⟩|_=>none
def It:aO:=fun|6=>some ⟨[(0,.val .str .leaf)],4⟩|_=>none
def y8:aI:=(282,⟨[.val .str .leaf],[.val .bool .leaf],lz k,[]⟩)::(Cw k)
def Lz:aG prog (y8 k):=aK (Pb k) Il It k func282 (by kernel_rfl) (fun x=>by kernel_rfl)
def Cp:aI:=(246,⟨[.val .str .leaf,.val .str .leaf],[.val .bool .leaf],gn k,[]⟩)::(y8 k)
def Pf:aG prog (Cp k):=aK (Lz k) nA nA k func246 (by kernel_rfl) (fun x=>by kernel_rfl)
def Fa:aO:=fun|2=>some ⟨[(0,.val (.sl .str) bu),(3,.val aq .leaf)],4⟩|_=>none
def wG:aI:=(283,⟨[.val (.sl .str) .shr],[.val .bool .leaf],iD k,[]⟩)::(Cp k)
def Jq:aG prog (wG k):=aK (Pf k) Fa nA k func283 (by kernel_rfl) (fun x=>by kernel_rfl)
def Nz:aO:=fun|2=>some ⟨[(0,.val (.sl .str) bu),(3,.val aq .leaf)],4⟩|_=>none
def NI:aO:=fun|6=>some ⟨[(0,.val (.sl .str) bu)],4⟩|_=>none
def Cq:aI:=(173,⟨[.val (.sl .str) .shr],[.val .bool .leaf],qN k,[]⟩)::(wG k)
def Pe:aG prog (Cq k):=aK (Jq k) Nz NI k func173 (by kernel_rfl) (fun x=>by kernel_rfl)
def yQ:aI:=(92,⟨[.val cM sE],[.val .bool .leaf],lE k,[]⟩)::(Cq k)
def Lr:aG prog (yQ k):=aK (Pe k) nA nA k func92 (by kernel_rfl) (fun x=>by kernel_rfl)
def wO:aI:=(106,⟨[.val cM sE],[.val cM OE],kB k,[]⟩)::(yQ k)
def Ii:aG prog (wO k):=aK (Lr k) nA nA k func106 (by kernel_rfl) (fun x=>by kernel_rfl)
def Ei:aO:=fun|2=>some ⟨[(0,.val aq .leaf),(3,.val (.sl ah) Ow)],5⟩|_=>none
def uN:aI:=(107,⟨[.val aq .leaf],[.val (.sl ah) .own],jk k,[]⟩)::(wO k)
def Gn:aG prog (uN k):=aK (Ii k) Ei nA k func107 (by kernel_rfl) (fun x=>by kernel_rfl)
def DW:aO:=fun|5=>some ⟨[(1,.box 4 cM SB),(2,.box 5 az n9),(3,.box 6 az MP),(4,.val aq .leaf)],10⟩|9=>some ⟨[(1,.box 4 cM SB),(2,.box 5 az n9),(3,.box 6 az (.pair Bh (.pair .leaf (.pair .leaf (.pair qI (.pair CO (.pair jW (.pair .leaf (.pair jW (.pair .leaf (.pair jW (.pair jW (.pair jW (.pair OJ jW)))))))))))))),(5,.val aq .leaf)],11⟩|_=>none
def DK:aO:=fun|8=>some ⟨[(1,.box 4 cM SB),(2,.box 5 az n9),(3,.box 6 az MP)],10⟩|_=>none
def tX:aI:=(27,⟨[.val cM sE],[.val az Jw],lB k,[]⟩)::(uN k)
def Fi:aG prog (tX k):=aK (Gn k) DW DK k func27 (by kernel_rfl) (fun x=>by kernel_rfl)
def zf:aI:=(146,⟨[.val ab fU],[.val ab so],bE k,[]⟩)::(tX k)
def LK:aG prog (zf k):=aK (Fi k) nA nA k func146 (by kernel_rfl) (fun x=>by kernel_rfl)
def K3:aO:=fun|3=>some ⟨[(0,.val (.sl ab) bu),(3,.val (.sl ab) Ow),(4,.val aq .leaf)],5⟩|_=>none
def zQ:aI:=(210,⟨[.val (.sl ab) .shr],[.val (.sl ab) .own],cm k,[]⟩)::(zf k)
def No:aG prog (zQ k):=aK (LK k) K3 nA k func210 (by kernel_rfl) (fun x=>by kernel_rfl)
def y0:aI:=(345,⟨[.val ax xF],[.val ax CN],jd k,[]⟩)::(zQ k)
def Lt:aG prog (y0 k):=aK (No k) nA nA k func345 (by kernel_rfl) (fun x=>by kernel_rfl)
def HM:aO:=fun|3=>some ⟨[(1,.box 4 ah h6),(2,.box 5 ah nX),(3,.box 6 ah Pv),(4,.val aq .leaf)],8⟩|_=>none
def yY:aI:=(302,⟨[.val ah xN],[.val ah al1],ji k,[]⟩)::(y0 k)
def K8:aG prog (yY k):=aK (Lt k) HM nA k func302 (by kernel_rfl) (fun x=>by kernel_rfl)
def H4:aO:=fun|3=>some ⟨[(0,.val (.sl ah) bu),(3,.val (.sl ah) Ow),(4,.val aq .leaf)],5⟩|_=>none
def yt:aI:=(208,⟨[.val (.sl ah) .shr],[.val (.sl ah) .own],oD k,[]⟩)::(yY k)
def Lf:aG prog (yt k):=aK (K8 k) H4 nA k func208 (by kernel_rfl) (fun x=>by kernel_rfl)
def yl:aI:=(303,⟨[.val aU SH],[.val aU Xt],jc k,[]⟩)::(yt k)
def La:aG prog (yl k):=aK (Lf k) nA nA k func303 (by kernel_rfl) (fun x=>by kernel_rfl)
end
end Vg.Tryz
namespace Vg.Tryz
open Go Vg Go.Proofs
set_option maxRecDepth 1000000
def LL:aO:=fun|3=>some ⟨[(0,.val (.sl aU) bu),(3,.val (.sl aU) Ow),(4,.val aq .leaf)],5⟩|_=>none
section
variable(k:Nat)
def As:aI:=(209,⟨[.val (.sl aU) .shr],[.val (.sl aU) .own],tF k,[]⟩)::(yl k)
def NQ:aG prog (As k):=aK (La k) LL nA k func209 (by kernel_rfl) (fun x=>by kernel_rfl)
def vU:aI:=(304,⟨[.val aj HN],[.val aj aiH],ga k,[]⟩)::(As k)
def JA:aG prog (vU k):=aK (NQ k) nA nA k func304 (by kernel_rfl) (fun x=>by kernel_rfl)
def FV:aO:=fun|3=>some ⟨[(0,.val (.sl aj) bu),(3,.val (.sl aj) Ow),(4,.val aq .leaf)],5⟩|_=>none
def wC:aI:=(211,⟨[.val (.sl aj) .shr],[.val (.sl aj) .own],gg k,[]⟩)::(vU k)
def Ie:aG prog (wC k):=aK (JA k) FV nA k func211 (by kernel_rfl) (fun x=>by kernel_rfl)
def uR:aI:=(212,⟨[.val bM U4],[.val bM UO],gJ k,[]⟩)::(wC k)
def Fy:aG prog (uR k):=aK (Ie k) nA nA k func212 (by kernel_rfl) (fun x=>by kernel_rfl)
def vz:aI:=(213,⟨[.val ak rm],[.val ak Pr],kk k,[]⟩)::(uR k)
def I6:aG prog (vz k):=aK (Fy k) nA nA k func213 (by kernel_rfl) (fun x=>by kernel_rfl)
def wY:aI:=(305,⟨[.val aw qK],[.val aw zl],kx k,[]⟩)::(vz k)
def Jd:aG prog (wY k):=aK (I6 k) nA nA k func305 (by kernel_rfl) (fun x=>by kernel_rfl)
def H6:aO:=fun|3=>some ⟨[(0,.val (.sl aw) bu),(3,.val (.sl aw) Ow),(4,.val aq .leaf)],5⟩|_=>none
def yv:aI:=(214,⟨[.val (.sl aw) .shr],[.val (.sl aw) .own],rD k,[]⟩)::(wY k)
def Mm:aG prog (yv k):=aK (Jd k) H6 nA k func214 (by kernel_rfl) (fun x=>by kernel_rfl)
def FK:aO:=fun|11=>some ⟨[(1,.box 4 az cX),(2,.box 5 az n9),(3,.box 6 az U3),(4,.box 14 cM Bh),(5,.val aq .leaf)],15⟩|18=>some ⟨[(1,.box 4 az cX),(2,.box 5 az n9),(3,.box 6 az vu),(4,.box 16 cM Bh),(7,.val aq .leaf)],17⟩|_=>none
def E5:aO:=fun|15=>some ⟨[(1,.box 4 az cX),(2,.box 5 az n9),(3,.box 6 az U3),(4,.box 14 cM Bh)],15⟩|22=>some ⟨[(1,.box 4 az cX),(2,.box 5 az n9),(3,.box 6 az vu),(4,.box 16 cM Bh)],17⟩|_=>none
def vO:aI:=(113,⟨[.val az nR],[.val az Jw],fp k,[]⟩)::(yv k)
def Jf:aG prog (vO k):=aK (Mm k) FK E5 k func113 (by kernel_rfl) (fun x=>by kernel_rfl)
def zM:aI:=(299,⟨[.io bp pD,.val (.sl .str) .shr],[.val .str .leaf],eS k,[]⟩)::(vO k)
def Od:aG prog (zM k):=aK (Jf k) nA nA k func299 (by kernel_rfl) (fun x=>by kernel_rfl)
def yk:aI:=(137,⟨[.io bp pD,.val aq .leaf],[.val .bool .leaf],cB k,[]⟩)::(zM k)
def Ld:aG prog (yk k):=aK (Od k) nA nA k func137 (by kernel_rfl) (fun x=>by kernel_rfl)
def I0:aO:=fun|3=>some ⟨[(0,.box 4 bp gX),(3,.val (.sl al) yb),(11,.val (.sl .str) (.sl (.row 6 [] true))),(12,.val aq .leaf),(13,.val aq .leaf)],7⟩|_=>none
def yW:aI:=(241,⟨[.io bp pD],[.val (.sl al) .own],eB k,[]⟩)::(yk k)
def K4:aG prog (yW k):=aK (Ld k) I0 nA k func241 (by kernel_rfl) (fun x=>by kernel_rfl)
def wK:aI:=(298,⟨[.io bp pD],[.val .str .leaf],kA k,[]⟩)::(yW k)
def JX:aG prog (wK k):=aK (K4 k) nA nA k func298 (by kernel_rfl) (fun x=>by kernel_rfl)
def yH:aI:=(197,⟨[.io bp pD],[.val ab so],bJ k,[]⟩)::(wK k)
def Lx:aG prog (yH k):=aK (JX k) nA nA k func197 (by kernel_rfl) (fun x=>by kernel_rfl)
def wT:aI:=(319,⟨[.io bp pD],[.val .str .leaf],nG k,[]⟩)::(yH k)
def H0:aG prog (wT k):=aK (Lx k) nA nA k func319 (by kernel_rfl) (fun x=>by kernel_rfl)
def sI:aI:=(242,⟨[.io bp pD],[.val .str .leaf],iQ k,[]⟩)::(wT k)
def Db:aG prog (sI k):=aK (H0 k) nA nA k func242 (by kernel_rfl) (fun x=>by kernel_rfl)
def rO:aI:=(198,⟨[.io bp pD],[.val .str .leaf],fD k,[]⟩)::(sI k)
def BQ:aG prog (rO k):=aK (Db k) nA nA k func198 (by kernel_rfl) (fun x=>by kernel_rfl)
def zW:aI:=(130,⟨[.io bp pD],[.val (.sl al) .own],ko k,[]⟩)::(rO k)
def Nu:aG prog (zW k):=aK (BQ k) nA nA k func130 (by kernel_rfl) (fun x=>by kernel_rfl)
def Aj:aI:=(273,⟨[.io bp pD],[.val aq .leaf],pX k,[]⟩)::(zW k)
def NB:aG prog (Aj k):=aK (Nu k) nA nA k func273 (by kernel_rfl) (fun x=>by kernel_rfl)
def AP:aI:=(163,⟨[.io bp pD],[.val aq .leaf],kq k,[]⟩)::(Aj k)
def NM:aG prog (AP k):=aK (NB k) nA nA k func163 (by kernel_rfl) (fun x=>by kernel_rfl)
def A8:aI:=(110,⟨[.io bp pD],[.val ab so],dy k,[]⟩)::(AP k)
def Nj:aG prog (A8 k):=aK (NM k) nA nA k func110 (by kernel_rfl) (fun x=>by kernel_rfl)
def DM:aO:=fun|3=>some ⟨[(1,.box 4 ah h6),(3,.val (.sl ab) C3),(4,.val aq .leaf)],6⟩|_=>none
def uD:aI:=(285,⟨[.val ah xN],[.val (.sl ab) .own],gI k,[]⟩)::(A8 k)
def E7:aG prog (uD k):=aK (Nj k) DM nA k func285 (by kernel_rfl) (fun x=>by kernel_rfl)
def Hd:aO:=fun|2=>some ⟨[(0,.val (.sl al) bu),(1,.val (.sl al) bu),(5,.val aq .leaf)],4⟩|_=>none
def F7:aO:=fun|8=>some ⟨[(0,.val (.sl al) bu),(1,.val (.sl al) bu)],4⟩|_=>none
def wZ:aI:=(350,⟨[.val (.sl al) .shr,.val (.sl al) .shr],[.val .bool .leaf],iu k,[]⟩)::(uD k)
def IU:aG prog (wZ k):=aK (E7 k) Hd F7 k func350 (by kernel_rfl) (fun x=>by kernel_rfl)
def H7:aO:=fun|3=>some ⟨[(0,.val (.sl ab) bu),(3,.val (.sl ab) tP),(4,.val aq .leaf)],5⟩|7=>some ⟨[(0,.val (.sl ab) bu),(3,.val (.sl ab) tP),(4,.val aq .leaf),(5,.box 5 ab WY),(6,.val aq .leaf)],7⟩|_=>none
def Jk:aO:=fun|9=>some ⟨[(0,.val (.sl ab) bu),(3,.val (.sl ab) tP),(4,.val aq .leaf),(5,.box 5 ab WY),(6,.val aq .leaf)],7⟩|_=>none
def yO:aI:=(286,⟨[.val (.sl ab) .shr],[.val (.sl ab) .hd],je k,[]⟩)::(wZ k)
def LP:aG prog (yO k):=aK (IU k) H7 Jk k func286 (by kernel_rfl) (fun x=>by kernel_rfl)
def BC:aO:=fun|3=>some ⟨[(0,.val (.sl ah) bu),(3,.val (.sl ab) Ow),(4,.val aq .leaf)],5⟩|_=>none
def BE:aO:=fun|6=>some ⟨[(3,.val (.sl ab) Ow)],5⟩|_=>none
def tq:aI:=(175,⟨[.val (.sl ah) .shr],[.val (.sl ab) .hd],cS k,[]⟩)::(yO k)
def Dn:aG prog (tq k):=aK (LP k) BC BE k func175 (by kernel_rfl) (fun x=>by kernel_rfl)
def vc:aI:=(336,⟨[.io bp pD,.val (.sl ab) .shr],[.val (.sl al) .own],dD k,[]⟩)::(tq k)
def Gx:aG prog (vc k):=aK (Dn k) nA nA k func336 (by kernel_rfl) (fun x=>by kernel_rfl)
def Co:aI:=(337,⟨[.val az nR],[.val .bool .leaf],lL k,[]⟩)::(vc k)
def OL:aG prog (Co k):=aK (Gx k) nA nA k func337 (by kernel_rfl) (fun x=>by kernel_rfl)
def GY:aO:=fun|22=>some ⟨[(0,.box 4 bp gX),(3,.box 5 az cX),(4,.box 6 jY Ho),(5,.val aq .leaf),(7,.val aq .leaf)],7⟩|_=>none
def Fc:aO:=fun|9=>some ⟨[(0,.box 4 bp gX),(3,.box 5 az cX),(4,.box 6 jY Ho),(5,.val aq .leaf),(6,.box 7 ab (.pair qI (.pair .leaf Km)))],9⟩|20=>some ⟨[(0,.box 4 bp gX),(3,.box 5 az cX),(4,.box 6 jY Ho)],7⟩|26=>some ⟨[(0,.box 4 bp gX),(3,.box 5 az cX),(4,.box 6 jY Ho),(5,.val aq .leaf)],7⟩|_=>none
def wU:aI:=(262,⟨[.io bp pD,.val az nR],[.val jY (.pair .leaf (.pair .leaf (.pair so .own)))],nF k,[]⟩)::(Co k)
def HU:aG prog (wU k):=aK (OL k) GY Fc k func262 (by kernel_rfl) (fun x=>by kernel_rfl)
def Fm:aO:=fun|2=>some ⟨[(0,.val .str .leaf),(3,.val aq .leaf)],4⟩|_=>none
def FN:aO:=fun|6=>some ⟨[(0,.val .str .leaf)],4⟩|_=>none
def wy:aI:=(287,⟨[.val .str .leaf],[.val .bool .leaf],kC k,[]⟩)::(wU k)
def JQ:aG prog (wy k):=aK (HU k) Fm FN k func287 (by kernel_rfl) (fun x=>by kernel_rfl)
def vT:aI:=(245,⟨[.val al MH],[.val .bool .leaf],np k,[]⟩)::(wy k)
def JY:aG prog (vT k):=aK (JQ k) nA nA k func245 (by kernel_rfl) (fun x=>by kernel_rfl)
def KY:aO:=fun|2=>some ⟨[(0,.val (.sl al) bu),(3,.val aq .leaf)],4⟩|_=>none
def LZ:aO:=fun|6=>some ⟨[(0,.val (.sl al) bu)],4⟩|_=>none
def Ab:aI:=(132,⟨[.val (.sl al) .shr],[.val .bool .leaf],gB k,[]⟩)::(vT k)
def NV:aG prog (Ab k):=aK (JY k) KY LZ k func132 (by kernel_rfl) (fun x=>by kernel_rfl)
def wW:aI:=(177,⟨[.val ab fU],[.val .bool .leaf],dW k,[]⟩)::(Ab k)
def Jb:aG prog (wW k):=aK (NV k) nA nA k func177 (by kernel_rfl) (fun x=>by kernel_rfl)
def Cv:aI:=(176,⟨[.val cM sE,.val ab fU],[.val .bool .leaf],lO k,[]⟩)::(wW k)
def OK:aG prog (Cv k):=aK (Jb k) nA nA k func176 (by kernel_rfl) (fun x=>by kernel_rfl)
def tJ:aI:=(181,⟨[.val aq .leaf],[.val aq .leaf],dI k,[]⟩)::(Cv k)
def DC:aG prog (tJ k):=aK (OK k) nA nA k func181 (by kernel_rfl) (fun x=>by kernel_rfl)
def tT:aI:=(215,⟨[.io az gi,.val aq .leaf,.val ak rm],[],dv k,[(0,(nu 14 12))]⟩)::(tJ k)
def GI:aG prog (tT k):=aK (DC k) nA nA k func215 (by kernel_rfl) (fun x=>by kernel_rfl)
def ug:aI:=(216,⟨[.io az gi,.val aw qK],[],cK k,[(0,(nu 14 12))]⟩)::(tT k)
def GS:aG prog (ug k):=aK (GI k) nA nA k func216 (by kernel_rfl) (fun x=>by kernel_rfl)
def Dg:aO:=fun|4=>some ⟨[(0,.box 4 az bX),(5,.box 14 ab qo)],15⟩|_=>none
def uK:aI:=(114,⟨[.io az gi,.val aq .leaf,.val ab fU],[],kM k,[]⟩)::(ug k)
def E3:aG prog (uK k):=aK (GS k) nA Dg k func114 (by kernel_rfl) (fun x=>by kernel_rfl)
def tY:aI:=(133,⟨[.io az gi,.val aq .leaf,.val ak rm],[],dX k,[]⟩)::(uK k)
def He:aG prog (tY k):=aK (E3 k) nA nA k func133 (by kernel_rfl) (fun x=>by kernel_rfl)
def GC:aO:=fun|5=>some ⟨[(0,.val (.sl al) bu),(3,.val .str .leaf),(4,.val aq .leaf)],4⟩|_=>none
def GN:aO:=fun|9=>some ⟨[(0,.val (.sl al) bu),(3,.val .str .leaf),(4,.val aq .leaf)],4⟩|10=>some ⟨[(3,.val .str .leaf)],4⟩|_=>none
def wB:aI:=(354,⟨[.val (.sl al) .shr],[.val .str .leaf],nI k,[]⟩)::(tY k)
def IZ:aG prog (wB k):=aK (He k) GC GN k func354 (by kernel_rfl) (fun x=>by kernel_rfl)
def Pj:aO:=fun|3=>some ⟨[(0,.val .str .leaf),(3,.val aq .leaf),(4,.val aq .leaf)],4⟩|_=>none
def Hk:aI:=(353,⟨[.val .str .leaf],[.val aq .leaf],kU k,[]⟩)::(wB k)
def Qb:aG prog (Hk k):=aK (IZ k) Pj nA k func353 (by kernel_rfl) (fun x=>by kernel_rfl)
def yp:aI:=(294,⟨[.val (.sl al) .shr],[.val aq .leaf],dg k,[]⟩)::(Hk k)
def Mf:aG prog (yp k):=aK (Qb k) nA nA k func294 (by kernel_rfl) (fun x=>by kernel_rfl)
def yP:aI:=(293,⟨[.val aq .leaf,.val aq .leaf],[.val aq .leaf],eY k,[]⟩)::(yp k)
def Mk:aG prog (yP k):=aK (Mf k) nA nA k func293 (by kernel_rfl) (fun x=>by kernel_rfl)
def yw:aI:=(291,⟨[.val (.sl ah) .shr,.val (.sl al) .shr],[.val aq .leaf],gV k,[]⟩)::(yP k)
def LU:aG prog (yw k):=aK (Mk k) nA nA k func291 (by kernel_rfl) (fun x=>by kernel_rfl)
def wg:aI:=(231,⟨[.rd az,.val aq .leaf],[.val aq .leaf],iE k,[]⟩)::(yw k)
def JN:aG prog (wg k):=aK (LU k) nA nA k func231 (by kernel_rfl) (fun x=>by kernel_rfl)
def NA:aO:=fun|2=>some ⟨[(1,.val aq .leaf),(2,.box 4 ah h6),(5,.val aq .leaf)],5⟩|_=>none
def CD:aI:=(351,⟨[.val ah xN,.val aq .leaf],[.val aq .leaf],jM k,[]⟩)::(wg k)
def OS:aG prog (CD k):=aK (JN k) NA nA k func351 (by kernel_rfl) (fun x=>by kernel_rfl)
def EH:aO:=fun|4=>some ⟨[(0,.val (.sl al) bu),(1,.val (.sl al) bu),(5,.val aq .leaf)],4⟩|_=>none
def xi:aI:=(184,⟨[.val (.sl al) .shr,.val (.sl al) .shr],[.val .bool .leaf],cL k,[]⟩)::(CD k)
def I3:aG prog (xi k):=aK (OS k) EH nA k func184 (by kernel_rfl) (fun x=>by kernel_rfl)
def GB:aO:=fun|2=>some ⟨[(1,.val (.sl al) bu),(2,.box 4 ax Ox),(5,.val aq .leaf)],5⟩|_=>none
def wN:aI:=(352,⟨[.val ax xF,.val (.sl al) .shr],[.val aq .leaf],gf k,[]⟩)::(xi k)
def JC:aG prog (wN k):=aK (I3 k) GB nA k func352 (by kernel_rfl) (fun x=>by kernel_rfl)
def yj:aI:=(290,⟨[.val ah xN,.val (.sl al) .shr],[.val ab so,.val .bool .leaf],oE k,[]⟩)::(wN k)
def K6:aG prog (yj k):=aK (JC k) nA nA k func290 (by kernel_rfl) (fun x=>by kernel_rfl)
def sM:aI:=(182,⟨[.val (.sl ah) .shr,.val (.sl al) .shr],[.val ab so,.val .bool .leaf],fa k,[]⟩)::(yj k)
def DZ:aG prog (sM k):=aK (K6 k) nA nA k func182 (by kernel_rfl) (fun x=>by kernel_rfl)
def EM:aO:=fun|3=>some ⟨[(0,.val (.sl ah) bu),(3,.val aq .leaf),(4,.val aq .leaf)],4⟩|6=>some ⟨[(0,.val (.sl ah) bu),(3,.val aq .leaf),(4,.val aq .leaf),(5,.val aq .leaf)],4⟩|_=>none
def wo:aI:=(315,⟨[.val (.sl ah) .shr],[.val aq .leaf],nM k,[]⟩)::(sM k)
def JB:aG prog (wo k):=aK (DZ k) EM nA k func315 (by kernel_rfl) (fun x=>by kernel_rfl)
def Jl:aO:=fun|6=>some ⟨[(0,.box 4 az (.pair SB (.pair .leaf (.pair .leaf (.pair (.sl (.row 5 [1,5] false)) (.pair (.sl (.row 6 [1,6] false)) (.pair (.sl (.row 7 [1,7] false)) (.pair .leaf (.pair (.sl (.row 8 [1,8] false)) (.pair .leaf (.pair (.sl (.row 9 [1,9] false)) (.pair (.sl (.row 10 [1,10] false)) (.pair (.sl (.row 11 [1,11] false)) Tn))))))))))))),(1,.val aq .leaf),(8,.ept 13 aw 0 [] aw)],14⟩|_=>none
def yq:aI:=(257,⟨[.io az gi,.val aq .leaf,.val aq .leaf,.vx ab [12]],[],cD k,[]⟩)::(wo k)
def Me:aG prog (yq k):=aK (JB k) nA Jl k func257 (by kernel_rfl) (fun x=>by kernel_rfl)
def Az:aI:=(391,⟨[.val ab fU,.val ab fU],[.val .bool .leaf],qg k,[]⟩)::(yq k)
def Ol:aG prog (Az k):=aK (Me k) nA nA k func391 (by kernel_rfl) (fun x=>by kernel_rfl)
def AM:aI:=(392,⟨[.val aq .leaf,.val aq .leaf],[.val aq .leaf],sH k,[]⟩)::(Az k)
def N8:aG prog (AM k):=aK (Ol k) nA nA k func392 (by kernel_rfl) (fun x=>by kernel_rfl)
def Av:aI:=(387,⟨[.val ab fU,.val ab fU],[.val ab so],pN k,[]⟩)::(AM k)
def MW:aG prog (Av k):=aK (N8 k) nA nA k func387 (by kernel_rfl) (fun x=>by kernel_rfl)
def uJ:aI:=(379,⟨[.val ax xF,.val ab fU],[.val ax CN,.val .bool .leaf],jn k,[]⟩)::(Av k)
def FI:aG prog (uJ k):=aK (MW k) nA nA k func379 (by kernel_rfl) (fun x=>by kernel_rfl)
def Mg:aO:=fun|10=>some ⟨[(2,.box 4 ah h6),(3,.box 5 ab qo),(4,.box 6 ah nX),(6,.box 7 ah VY),(7,.val aq .leaf),(8,.val aq .leaf)],9⟩|_=>none
def LD:aO:=fun|12=>some ⟨[(2,.box 4 ah h6),(3,.box 5 ab qo),(4,.box 6 ah nX),(6,.box 7 ah VY),(7,.val aq .leaf),(8,.val aq .leaf)],9⟩|_=>none
def A0:aI:=(362,⟨[.val ah xN,.val ab fU],[.val ah an9,.val .bool .leaf],mK k,[]⟩)::(uJ k)
def Nt:aG prog (A0 k):=aK (FI k) Mg LD k func362 (by kernel_rfl) (fun x=>by kernel_rfl)
def uF:aI:=(316,⟨[.val (.sl ah) .shr,.val ab fU],[.val (.sl ah) .pv,.val .bool .leaf],jC k,[]⟩)::(A0 k)
def FB:aG prog (uF k):=aK (Nt k) nA nA k func316 (by kernel_rfl) (fun x=>by kernel_rfl)
def BW:aO:=fun|12=>some ⟨[(0,.box 4 az (.pair SB (.pair .leaf (.pair .leaf (.pair (.sl (.row 5 [5] false)) MO))))),(1,.val aq .leaf),(4,.box 14 ak Bu),(6,.box 15 ab (.pair (.sl (.row 16 [16] true)) (.pair .leaf Km))),(10,.ept 13 aw 0 [] aw)],17⟩|_=>none
def tH:aI:=(232,⟨[.io az gi,.val aq .leaf],[],lh k,[]⟩)::(uF k)
def Df:aG prog (tH k):=aK (FB k) nA BW k func232 (by kernel_rfl) (fun x=>by kernel_rfl)
def Cy:aI:=(346,⟨[.val aU SH,.val ab fU],[.val aU Xt],oj k,[]⟩)::(tH k)
def O8:aG prog (Cy k):=aK (Df k) nA nA k func346 (by kernel_rfl) (fun x=>by kernel_rfl)
def Gm:aO:=fun|3=>some ⟨[(0,.val (.sl aU) bu),(3,.box 4 ab qo),(5,.val (.sl aU) C3),(6,.val aq .leaf)],6⟩|_=>none
def wM:aI:=(317,⟨[.val (.sl aU) .shr,.val ab fU],[.val (.sl aU) .own],nj k,[]⟩)::(Cy k)
def Js:aG prog (wM k):=aK (O8 k) Gm nA k func317 (by kernel_rfl) (fun x=>by kernel_rfl)
def xw:aI:=(233,⟨[.io az gi,.val aq .leaf],[],qB k,[]⟩)::(wM k)
def Io:aG prog (xw k):=aK (Js k) nA nA k func233 (by kernel_rfl) (fun x=>by kernel_rfl)
def EN:aO:=fun|11=>some ⟨[(0,.box 4 az bX)],14⟩|_=>none
def vZ:aI:=(123,⟨[.io az gi,.val aq .leaf],[.val .bool .leaf],lV k,[]⟩)::(xw k)
def IB:aG prog (vZ k):=aK (Io k) nA EN k func123 (by kernel_rfl) (fun x=>by kernel_rfl)
def xd:aI:=(250,⟨[.io az gi,.val aq .leaf,.val aq .leaf],[.val .bool .leaf],iB k,[(0,(nu 14 12))]⟩)::(vZ k)
def HY:aG prog (xd k):=aK (IB k) nA nA k func250 (by kernel_rfl) (fun x=>by kernel_rfl)
def yz:aI:=(249,⟨[.io az gi,.val aq .leaf],[.val .bool .leaf],oz k,[]⟩)::(xd k)
def LM:aG prog (yz k):=aK (HY k) nA nA k func249 (by kernel_rfl) (fun x=>by kernel_rfl)
def xt:aI:=(251,⟨[.io az gi,.val aq .leaf],[],nK k,[(0,(nu 14 12))]⟩)::(yz k)
def Jv:aG prog (xt k):=aK (LM k) nA nA k func251 (by kernel_rfl) (fun x=>by kernel_rfl)
def D7:aO:=fun|2=>some ⟨[(0,.box 4 az Oy),(1,.val aq .leaf),(4,.box 14 ak Bu),(5,.val aq .leaf)],15⟩|_=>none
def DQ:aO:=fun|6=>some ⟨[(0,.box 4 az Oy),(1,.val aq .leaf),(4,.box 14 ak Bu)],15⟩|_=>none
def tZ:aI:=(252,⟨[.io az gi,.val aq .leaf],[],mn k,[]⟩)::(xt k)
def FG:aG prog (tZ k):=aK (Jv k) D7 DQ k func252 (by kernel_rfl) (fun x=>by kernel_rfl)
def E9:aO:=fun|9=>some ⟨[(0,.box 4 az bX),(5,.val .bool .leaf)],14⟩|_=>none
def xa:aI:=(136,⟨[.io az gi,.val aq .leaf],[.val .bool .leaf],ky k,[]⟩)::(tZ k)
def HX:aG prog (xa k):=aK (FG k) nA E9 k func136 (by kernel_rfl) (fun x=>by kernel_rfl)
def CK:aI:=(145,⟨[.val ab fU,.val aq .leaf],[.val .bool .leaf],mV k,[]⟩)::(xa k)
def O3:aG prog (CK k):=aK (HX k) nA nA k func145 (by kernel_rfl) (fun x=>by kernel_rfl)
def DU:aO:=fun|4=>some ⟨[(1,.val aq .leaf),(2,.box 4 ax Ox),(4,.box 5 ax Rc),(6,.box 6 ax VU),(7,.val (.sl ab) qI),(8,.val aq .leaf)],9⟩|_=>none
def D9:aO:=fun|10=>some ⟨[(2,.box 4 ax Ox),(4,.box 5 ax Rc),(6,.box 6 ax VU),(7,.val (.sl ab) qI)],9⟩|_=>none
def uP:aI:=(324,⟨[.val ax xF,.val aq .leaf],[.val ax CN,.val (.sl ab) .own],mq k,[]⟩)::(CK k)
def Gi:aG prog (uP k):=aK (O3 k) DU D9 k func324 (by kernel_rfl) (fun x=>by kernel_rfl)
def Gr:aO:=fun|4=>some ⟨[(1,.val aq .leaf),(2,.box 4 ah h6),(4,.box 5 ah nX),(6,.box 6 ah Pv),(7,.val (.sl ab) qI),(8,.val aq .leaf)],9⟩|_=>none
def EL:aO:=fun|10=>some ⟨[(2,.box 4 ah h6),(4,.box 5 ah nX),(6,.box 6 ah Pv),(7,.val (.sl ab) qI)],9⟩|_=>none
def wF:aI:=(256,⟨[.val ah xN,.val aq .leaf],[.val ah al1,.val (.sl ab) .own],nD k,[]⟩)::(uP k)
def II:aG prog (wF k):=aK (Gi k) Gr EL k func256 (by kernel_rfl) (fun x=>by kernel_rfl)
def Fg:aO:=fun|15=>some ⟨[(0,.box 4 az S4),(6,.box 14 ah ZX)],16⟩|_=>none
def xn:aI:=(140,⟨[.io az gi,.val aq .leaf],[.val .bool .leaf],jI k,[]⟩)::(wF k)
def JI:aG prog (xn k):=aK (II k) nA Fg k func140 (by kernel_rfl) (fun x=>by kernel_rfl)
def wA:aI:=(223,⟨[.io az gi,.val aq .leaf],[.val .bool .leaf],kj k,[(0,(nu 14 12))]⟩)::(xn k)
def Ib:aG prog (wA k):=aK (JI k) nA nA k func223 (by kernel_rfl) (fun x=>by kernel_rfl)
def Ly:aO:=fun|2=>some ⟨[(0,.val (.sl .str) bu),(1,.val .str .leaf),(5,.val aq .leaf)],4⟩|_=>none
def Ae:aI:=(377,⟨[.val (.sl .str) .shr,.val .str .leaf],[.val .bool .leaf],pK k,[]⟩)::(wA k)
def Nf:aG prog (Ae k):=aK (Ib k) Ly nA k func377 (by kernel_rfl) (fun x=>by kernel_rfl)
def FW:aO:=fun|3=>some ⟨[(0,.val (.sl al) bu),(1,.val (.sl .str) bu),(5,.val (.sl al) SD),(6,.val aq .leaf)],5⟩|_=>none
def vw:aI:=(358,⟨[.val (.sl al) .shr,.val (.sl .str) .shr],[.val (.sl al) .own],qE k,[]⟩)::(Ae k)
def Ja:aG prog (vw k):=aK (Nf k) FW nA k func358 (by kernel_rfl) (fun x=>by kernel_rfl)
def Be:aI:=(311,⟨[.val ab fU,.val (.sl .str) .shr],[.val (.sl al) .own],ek k,[]⟩)::(vw k)
def NK:aG prog (Be k):=aK (Ja k) nA nA k func311 (by kernel_rfl) (fun x=>by kernel_rfl)
def Hn:aO:=fun|2=>some ⟨[(0,.val (.sl aj) bu),(1,.val (.sl al) bu),(5,.val aq .leaf)],4⟩|_=>none
def vA:aI:=(310,⟨[.val (.sl aj) .shr,.val (.sl al) .shr],[.val aq .leaf],fh k,[]⟩)::(Be k)
def Kf:aG prog (vA k):=aK (NK k) Hn nA k func310 (by kernel_rfl) (fun x=>by kernel_rfl)
end
end Vg.Tryz
