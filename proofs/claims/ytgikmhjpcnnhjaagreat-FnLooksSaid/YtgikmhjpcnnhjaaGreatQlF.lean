/- Texts of this law, joined. -/
import Derived.Test.YtgikmhjpcnnhjaaGreatQlFa
import Derived.Shelf.Strings.OnBuilder
import Derived.Test.YtgikmhjpcnnhjaaGreatProg
import Derived.Test.YtgikmhjpcnnhjaaGreatZc
import Derived.Deep.QuietTactic
import Derived.WalkKit
import Derived.Shelf.GgSortFunc.Lays
import Derived.Shelf.GgSortMore.Bridge
import Derived.Ground.GgtProg
import Derived.Test.YtgikmhjpcnnhjaaGreatZd
set_option linter.unusedSimpArgs false
set_option linter.unusedVariables false
set_option linter.unusedSectionVars false
set_option linter.defProp false
open List renaming drop_eq_getElem_cons -> atA,getElem?_eq_getElem -> atB,drop_length -> atC,length_drop -> atD
open Go.Proofs.Tryz
namespace Vg.Tryz
open Go Vg
open List renaming getD->gd,length->ln,set->se,drop->dr,take->ta
open Int renaming toNat->tn
open Option renaming bind->bi,some->sm,none->nn
open Decidable renaming decide->dc
def kk(k:Nat)(x:aq×Unit):Option (List ae×Unit):=aM k (λc (a:aq×List ae×List aR×Int×Int×Unit)=>if dc (a.2.2.2.2.1<a.2.2.2.1)then if dc (0<=a.2.2.2.2.1/\a.2.2.2.2.1<ln a.2.2.1)then bi (dE k ((gd a.2.2.1 (tn a.2.2.2.2.1) az.aa).2,())) λb=>if dc (ln a.2.1+ln b.1<4294967296)then c (a.1,a.2.1++b.1,a.2.2.1,a.2.2.2.1,IntKind.i64.wrap (a.2.2.2.2.1+1),())else nn else nn else sm (a.2.1,())) (x.1,[],x.1.2.2,(ln x.1.2.2:Int),0,())
def ig(k:Nat)(x:List aq×Unit):Option (List ae×Unit):=aO (λc=>aM k (λd (a:List ae×List aq×Int×Int×Unit)=>if dc (a.2.2.2.1<a.2.2.1)then if dc (0<=a.2.2.2.1/\a.2.2.2.1<ln a.2.1)then bi (kk k (gd a.2.1 (tn a.2.2.2.1) aj.aa,())) λb=>if dc (ln a.1+ln b.1<4294967296)then d (a.1++b.1,a.2.1,a.2.2.1,IntKind.i64.wrap (a.2.2.2.1+1),())else nn else nn else c (a.1,())) (([]:List ae),x.1,(ln x.1:Int),0,())) (λ(f:List ae×Unit)=>bi (iI k (f.1,())) λe=>sm (e.1,()))
def sP(k:Nat)(x:bw×ae×Unit):Option (Bool×Unit):=bi (gy k (x.2.1,())) λa=>sm (if a.1 then dc (x.2.1.2.2.1<=99899)else false,())
def nu(k:Nat)(x:af×Unit):Option (Bool×Unit):=let c:=((ln x.1.2.2.2.1:Int):Int);bi (rf k (x.1.2.2.2.1,())) λr1=>bi (if((if !r1.1 then true else c != x.1.1.1):Bool)==false then ry k (x.1.2.2.2.1,())else sm (0,())) λd=>if if if !r1.1 then true else c != x.1.1.1 then true else dc (d.1>x.1.1.2.1)then sm (false,())else bi (ig k (x.1.2.2.2.1,())) λb=>aM k (λe (a:af×List ae×Int×Int×Unit)=>if dc (a.2.2.2.1<a.2.2.1)then if dc (0<=a.2.2.2.1/\a.2.2.2.1<ln a.2.1)then bi (sP k (a.1.1,gd a.2.1 (tn a.2.2.2.1) ab.aa,())) λr6=>if !r6.1 then sm (false,())else e (a.1,a.2.1,a.2.2.1,IntKind.i64.wrap (a.2.2.2.1+1),())else nn else sm (true,())) (x.1,b.1,(ln b.1:Int),0,())
def iH(k:Nat)(x:List ae×Unit):Option (Bool×Unit):=aM k (λb (a:List ae×Int×Int×Unit)=>if dc (a.2.2.1<a.2.1)then if dc (0<=a.2.2.1/\a.2.2.1<ln a.1)then bi (gy k (gd a.1 (tn a.2.2.1) ab.aa,())) λr3=>if !r3.1 then sm (false,())else b (a.1,a.2.1,IntKind.i64.wrap (a.2.2.1+1),())else nn else sm (true,())) (x.1,(ln x.1:Int),0,())
def vu(k:Nat)(x:bp×Unit):Option (Bool×Unit):=let a:=((ln x.1.1:Int):Int);if x.1.2 then sm (a==0,())else bi (if dc (a<=3)==true then iH k (x.1.1,())else sm (false,())) λb=>sm (if dc (a<=3)then b.1 else false,())
def oW(k:Nat)(x:List bp×bw×Unit):Option (Bool×Unit):=aO (λc=>aM k (λd (a:List bp×bw×List bp×Int×Int×Unit)=>if dc (a.2.2.2.2.1<a.2.2.2.1)then if dc (0<=a.2.2.2.2.1/\a.2.2.2.2.1<ln a.2.2.1)then bi (vu k (gd a.2.2.1 (tn a.2.2.2.2.1) bj.aa,())) λr5=>if !r5.1 then sm (false,())else d (a.1,a.2.1,a.2.2.1,a.2.2.2.1,IntKind.i64.wrap (a.2.2.2.2.1+1),())else nn else c (a.1,a.2.1,())) (x.1,x.2.1,x.1,(ln x.1:Int),0,())) (λ(b:List bp×bw×Unit)=>sm ((ln b.1:Int)==b.2.1.2.2.1,()))
def pO(k:Nat)(x:Int×Int×Unit):Option (Bool×Unit):=if x.1==1 then bi (cq k (x.2.1,1,4,())) λa=>sm (a.1,())else if x.1==3 then bi (cq k (x.2.1,5,6,())) λb=>sm (b.1,())else if x.1==7 then bi (cq k (x.2.1,1,3,())) λc=>sm (c.1,())else if x.1==8 then sm (if x.2.1==8 then true else x.2.1==6,())else if x.1==9 then bi (cq k (x.2.1,5,7,())) λd=>sm (d.1,())else sm (x.2.1==8,())
def tC(k:Nat)(x:ay×Unit):Option (Bool×Unit):=let b:=x.1.2.2.2.2;let a:=b.2.2.2.2.2;let c:=a.2.2== -1;bi (cq k (x.1.1,1,9,())) λr1=>bi (if(!r1.1)==false then cq k (x.1.2.1,-1,4,())else sm (false,())) λr2=>if if if if if if !r1.1 then true else !r2.1 then true else dc (a.1<0)then true else dc (b.1<0)then true else dc (b.2.1<0)then true else dc (b.2.2.2.2.1<0)then sm (false,())else if a.2.1== -1 then sm (if c then b.2.2.1==0 else false,())else bi (if((if dc (a.2.1>=a.1)then if c then true else dc (a.2.2>=a.2.1)else false):Bool)==true then pO k (x.1.1,b.2.2.1,())else sm (false,())) λd=>sm (if if dc (a.2.1>=a.1)then if c then true else dc (a.2.2>=a.2.1)else false then d.1 else false,())
def cR(k:Nat)(x:ae×ae×Unit):Option (Bool×Unit):=bi (cT k (x.1.1,x.2.1.1,())) λa=>sm (if if if a.1 then x.1.2.1==x.2.1.2.1 else false then x.1.2.2.1==x.2.1.2.2.1 else false then ByteArray.toList x.1.2.2.2==ByteArray.toList x.2.1.2.2.2 else false,())
def mG(k:Nat)(x:List Int×List Int×Unit):Option (Bool×Unit):=if(ln x.1:Int) != (ln x.2.1:Int)then sm (false,())else aM k (λc (a:List Int×List Int×Int×Int×Unit)=>let b:=a.2.2.2.1;if dc (b<a.2.2.1)then if dc (0<=b/\b<ln a.1)then if dc (0<=b/\b<ln a.2.1)then if((gd a.1 (tn b) 0):Int) != (gd a.2.1 (tn b) 0)then sm (false,())else c (a.1,a.2.1,a.2.2.1,IntKind.i64.wrap (b+1),())else nn else nn else sm (true,())) (x.1,x.2.1,(ln x.1:Int),0,())
def dT(k:Nat)(x:List ae×List ae×Unit):Option (Bool×Unit):=if(ln x.1:Int) != (ln x.2.1:Int)then sm (false,())else aM k (λc (a:List ae×List ae×Int×Int×Unit)=>let b:=a.2.2.2.1;if dc (b<a.2.2.1)then if dc (0<=b/\b<ln a.1)then if dc (0<=b/\b<ln a.2.1)then bi (cR k (gd a.1 (tn b) ab.aa,gd a.2.1 (tn b) ab.aa,())) λr3=>if !r3.1 then sm (false,())else c (a.1,a.2.1,a.2.2.1,IntKind.i64.wrap (b+1),())else nn else nn else sm (true,())) (x.1,x.2.1,(ln x.1:Int),0,())
def mu(k:Nat)(x:aA×aA×Unit):Option (Bool×Unit):=let c:=x.1.1==x.2.1.1;let a:=x.2.1.2.2.2.2;let b:=x.1.2.2.2.2;let d:=(x.1.2.1:Int);bi (if((if c then d==x.2.1.2.1 else false):Bool)==true then cR k (x.1.2.2.1,x.2.1.2.2.1,())else sm (false,())) λe=>bi (if((if if c then d==x.2.1.2.1 else false then e.1 else false):Bool)==true then cT k (x.1.2.2.2.1,x.2.1.2.2.2.1,())else sm (false,())) λf=>bi (if((if if if if c then d==x.2.1.2.1 else false then e.1 else false then f.1 else false then b.1==a.1 else false):Bool)==true then mG k (b.2.1,a.2.1,())else sm (false,())) λg=>bi (if((if if if if if c then d==x.2.1.2.1 else false then e.1 else false then f.1 else false then b.1==a.1 else false then g.1 else false):Bool)==true then dT k (b.2.2.1,a.2.2.1,())else sm (false,())) λh=>sm (if if if if if if if if c then d==x.2.1.2.1 else false then e.1 else false then f.1 else false then b.1==a.1 else false then g.1 else false then h.1 else false then b.2.2.2.1==a.2.2.2.1 else false then b.2.2.2.2==a.2.2.2.2 else false,())
def tQ(k:Nat)(x:aA×Unit):Option (Bool×Unit):=aO (λd=>aM k (λe (a:aA×List Int×Int×Int×Unit)=>if dc (a.2.2.2.1<a.2.2.1)then if dc (0<=a.2.2.2.1/\a.2.2.2.1<ln a.2.1)then if dc (((gd a.2.1 (tn a.2.2.2.1) 0):Int)<0)then sm (false,())else e (a.1,a.2.1,a.2.2.1,IntKind.i64.wrap (a.2.2.2.1+1),())else nn else d (a.1,())) (x.1,x.1.2.2.2.2.2.1,(ln x.1.2.2.2.2.2.1:Int),0,())) (λ(b:aA×Unit)=>let c:=(ln b.1.2.2.2.2.2.1:Int) != b.1.2.2.2.2.1;bi (if c==false then iH k (b.1.2.2.2.2.2.2.1,())else sm (false,())) λr5=>if if c then true else !r5.1 then sm (false,())else if b.1.2.1==2 then bi (cq k (b.1.2.2.2.2.1,1,3,())) λf=>sm (f.1,())else bi (cq k (b.1.2.2.2.2.1,0,2,())) λg=>sm (g.1,()))
def tV(k:Nat)(x:aA×Int×Unit):Option (Bool×Unit):=let d:=x.1.2.2.2.2;let f:=x.2.1<3;let b:=d.2.2.2;aO (λc=>bi (cq k (x.2.1,0,4,())) λr3=>if !r3.1 then sm (false,())else if x.1.1==0 then bi (mu k (x.1,(0,0,(([]:List ai),0,0,ByteArray.empty),[],0,[],[],0,0),())) λh=>sm (h.1,())else if if x.1.1==1 then dc f else false then bi (gy k (x.1.2.2.1,())) λi=>c (x.1,(x.1.1,x.1.2.1,x.1.2.2.1,[],0,[],[],0,b.2),i.1,2,())else if if x.1.1==2 then dc f else false then bi (j0 k (x.1.2.2.2.1,())) λj=>c (x.1,(x.1.1,x.1.2.1,(([]:List ai),0,0,ByteArray.empty),x.1.2.2.2.1,0,[],[],0,b.2),j.1,1,())else if if x.1.1==3 then dc f else false then bi (tQ k (x.1,())) λl=>c (x.1,(x.1.1,x.1.2.1,(([]:List ai),0,0,ByteArray.empty),[],d.1,d.2.1,d.2.2.1,0,b.2),l.1,2,())else if if x.1.1==4 then dc f else false then bi (cq k (d.1,0,2,())) λm=>c (x.1,(x.1.1,x.1.2.1,(([]:List ai),0,0,ByteArray.empty),[],d.1,[],[],0,b.2),m.1,1,())else if if x.1.1==5 then x.2.1==3 else false then bi (gy k (x.1.2.2.1,())) λn=>c (x.1,(x.1.1,x.1.2.1,x.1.2.2.1,[],0,[],[],0,b.2),n.1,1,())else if if x.1.1==6 then x.2.1==4 else false then c (x.1,(x.1.1,x.1.2.1,(([]:List ai),0,0,ByteArray.empty),[],0,[],[],b),dc (b.1>=0),1,())else c (x.1,(x.1.1,x.1.2.1,(([]:List ai),0,0,ByteArray.empty),[],0,[],[],0,b.2),false,1,())) (λ(a:aA×aA×Bool×Int×Unit)=>bi (if a.2.2.1==true then cq k (a.1.2.1,0,a.2.2.2.1,())else sm (false,())) λe=>bi (if((if if a.2.2.1 then e.1 else false then dc (a.1.2.2.2.2.2.2.2.2>=0)else false):Bool)==true then mu k (a.1,a.2.1,())else sm (false,())) λg=>sm (if if if a.2.2.1 then e.1 else false then dc (a.1.2.2.2.2.2.2.2.2>=0)else false then g.1 else false,()))
def tG(k:Nat)(x:List aq×List ai×Unit):Option (Int×Unit):=bi (gX k (x.2.1,())) λa=>bi (kv k (a.1,(ln x.1:Int),())) λb=>sm (b.1,())
def rX(k:Nat)(x:aq×Int×Unit):Option (Int×Unit):=aM k (λc (a:Int×aq×List aR×Int×Int×Unit)=>let b:=a.2.2.2.2.1;if dc (b<a.2.2.2.1)then if dc (0<=b/\b<ln a.2.2.1)then if(gd a.2.2.1 (tn b) az.aa).1==a.1 then sm (b,())else c (a.1,a.2.1,a.2.2.1,a.2.2.2.1,IntKind.i64.wrap (b+1),())else nn else sm ((-1:Int),())) (x.2.1,x.1,x.1.2.2,(ln x.1.2.2:Int),0,())
def sj(k:Nat)(x:aR×List ai×Unit):Option (Int×Unit):=bi (mD k (x.1.2,x.2.1,())) λa=>sm (a.1,())
def tw(k:Nat)(x:aq×List ai×Unit):Option (ae×Bool×Unit):=bi (gX k (x.2.1,())) λd=>bi (rX k (x.1,d.1,())) λa=>let c:=(gd x.1.2.2 (tn a.1) az.aa).2;if dc (a.1<0)then sm ((([]:List ai),0,0,ByteArray.empty),false,())else if dc (0<=a.1/\a.1<ln x.1.2.2)then bi (sj k (gd x.1.2.2 (tn a.1) az.aa,x.2.1,())) λb=>if dc (b.1<0)then sm ((([]:List ai),0,0,ByteArray.empty),false,())else if dc (0<=a.1/\a.1<ln x.1.2.2)then if dc (0<=b.1/\b.1<ln c)then bi (gi k (gd c (tn b.1) ab.aa,())) λe=>sm (e.1,true,())else nn else nn else nn
def jq(k:Nat)(x:List aq×List ai×Unit):Option (ae×Bool×Unit):=if(ln x.1:Int)==0 then sm ((([]:List ai),0,0,ByteArray.empty),false,())else bi (tG k (x.1,x.2.1,())) λa=>if dc (0<=a.1/\a.1<ln x.1)then bi (tw k (gd x.1 (tn a.1) aj.aa,x.2.1,())) λb=>sm (b.1,b.2.1,())else nn
def oK(k:Nat)(x:af×aA×Unit):Option (Bool×Unit):=let g:=(ln x.2.1.2.2.2.2.2.1:Int);if if if dc (x.2.1.2.1<2)then dc (x.2.1.2.2.2.2.1>=x.1.1.1)else false then true else if x.2.1.2.1==2 then g != x.1.1.1 else false then sm (false,())else aO (λi=>aM k (λj (b:af×aA×Bool×List ae×List Int×Int×Int×Unit)=>let c:=b.2.2.2;let a:=c.2.2.2.1;let d:=(ln b.1.2.2.2.1:Int);let h:=(gd b.1.2.2.2.1 (tn a) aj.aa).2.1;if dc (a<c.2.2.1)then if dc (0<=a/\a<ln c.2.1)then if dc (0<=a/\a<d)then if dc (((gd c.2.1 (tn a) 0):Int)>h)then sm (false,())else if !(b.2.2.1==true)||(dc (0<=a/\a<d))then if dc (0<=a/\a<d)then bi (kk k (gd b.1.2.2.2.1 (tn a) aj.aa,())) λe=>if dc (ln c.1+ln e.1<4294967296)then j (b.1,b.2.1,if b.2.2.1 then((gd c.2.1 (tn a) 0):Int)==h else false,c.1++e.1,c.2.1,c.2.2.1,IntKind.i64.wrap (a+1),())else nn else nn else nn else nn else nn else i (b.1,b.2.1,b.2.2.1,c.1,())) (x.1,x.2.1,true,[],x.2.1.2.2.2.2.2.1,g,0,())) (λ(f:af×aA×Bool×List ae×Unit)=>bi (if(!f.2.2.1)==false then dT k (f.2.1.2.2.2.2.2.2.1,f.2.2.2.1,())else sm (false,())) λl=>sm (if !f.2.2.1 then true else l.1,()))
def qb(k:Nat)(x:af×aA×ay×Unit):Option (Bool×Unit):=let b:=(x.2.2.1.1:Int);let c:=b==1;let a:=x.2.1.2.2;let d:=(x.2.1.1:Int);if d==1 then if x.2.1.2.1==2 then bi (jq k (x.1.2.2.2.1,a.1.1,())) λe=>bi (if c==true then cT k (x.2.2.1.2.2.1.1,a.1.1,())else sm (false,())) λf=>bi (if((if if c then f.1 else false then e.2.1 else false):Bool)==true then cR k (e.1,a.1,())else sm (false,())) λh=>sm (if if if c then f.1 else false then e.2.1 else false then h.1 else false,())else bi (if c==true then cR k (x.2.2.1.2.2.1,a.1,())else sm (false,())) λg=>bi (if((if c then g.1 else false):Bool)==true then sP k (x.1.1,a.1,())else sm (false,())) λi=>sm (if if c then g.1 else false then i.1 else false,())else if d==2 then bi (if((b==3):Bool)==true then cT k (x.2.2.1.2.2.2.1,a.2.1,())else sm (false,())) λj=>sm (if b==3 then j.1 else false,())else if d==3 then bi (if((b==4):Bool)==true then oK k (x.1,x.2.1,())else sm (false,())) λl=>sm (if b==4 then l.1 else false,())else if d==4 then sm (if b==6 then dc (a.2.2.1<x.1.1.1)else false,())else if d==5 then bi (if((b==7):Bool)==true then cR k (x.2.2.1.2.2.1,a.1,())else sm (false,())) λm=>sm (if b==7 then m.1 else false,())else sm (if if b==8 then x.2.2.1.2.2.2.2.2.1==a.2.2.2.2.2.1 else false then dc (a.2.2.2.2.2.1<x.1.2.2.2.2.2.2.2.2.1)else false,())
def nk(k:Nat)(x:af×Unit):Option (Bool×Unit):=aO (λm=>aM k (λn (a:af×List ay×Int×Int×Unit)=>let h:=(gd a.2.1 (tn a.2.2.2.1) aw.aa).2.2.2.2.2.2.2.2.2;if dc (a.2.2.2.1<a.2.2.1)then if dc (0<=a.2.2.2.1/\a.2.2.2.1<ln a.2.1)then bi (tC k (gd a.2.1 (tn a.2.2.2.1) aw.aa,())) λr5=>if if if if !r5.1 then true else dc (h.1>=a.1.2.1)then true else dc (h.2.1>=a.1.2.1)then true else dc (h.2.2>=a.1.2.1)then sm (false,())else n (a.1,a.2.1,a.2.2.1,IntKind.i64.wrap (a.2.2.2.1+1),())else nn else m (a.1,())) (x.1,x.1.2.2.2.2.2.2.2.2.2.2.2.2.2,(ln x.1.2.2.2.2.2.2.2.2.2.2.2.2.2:Int),0,())) (λ(g:af×Unit)=>aM k (λl (b:af×List aA×Int×Int×Unit)=>let c:=b.2.2.2.1;let f:=gd b.2.1 (tn c) ah.aa;let d:=f.2.2.2.2.2.2.2.2;let e:=b.1.2.2.2.2.2.2.2.2.2.2.2.2.2;let i:=(gd e (tn d) aw.aa).2;let j:=i.2.2.2.2.2.2.2.2.2;let v4:=((j.1 != -1):Bool)==(if f.1==1 then f.2.1==2 else false);if dc (c<b.2.2.1)then if dc (0<=c/\c<ln b.2.1)then bi (tV k (gd b.2.1 (tn c) ah.aa,c,())) λr8=>if !r8.1 then sm (false,())else if f.1==0 then l (b.1,b.2.1,b.2.2.1,IntKind.i64.wrap (c+1),())else if dc (d>=(ln e:Int))then sm (false,())else if dc (0<=d/\d<ln e)then bi (if((if if i.1 != c then true else j.2 != -1 then true else !v4):Bool)==false then qb k (b.1,gd b.2.1 (tn c) ah.aa,gd e (tn d) aw.aa,())else sm (false,())) λr9=>if if if if i.1 != c then true else j.2 != -1 then true else !v4 then true else !r9.1 then sm (false,())else l (b.1,b.2.1,b.2.2.1,IntKind.i64.wrap (c+1),())else nn else nn else sm (true,())) (g.1,g.1.2.2.2.2.2.2.2.2.2.2.2.2.1,(ln g.1.2.2.2.2.2.2.2.2.2.2.2.2.1:Int),0,()))
def pd(k:Nat)(x:aA×Int×Bool×Unit):Option (Int×Unit):=if if dc (x.2.1<1)then true else !x.2.2.1 then sm ((-1:Int),())else if x.1.1==1 then bi (gX k (x.1.2.2.1.1,())) λa=>bi (kv k (a.1,x.2.1,())) λb=>sm (b.1,())else if x.1.1==2 then bi (gX k (x.1.2.2.2.1,())) λc=>bi (kv k (c.1,x.2.1,())) λd=>sm (d.1,())else if if x.1.1==3 then true else x.1.1==4 then sm (x.1.2.2.2.2.1,())else sm ((-1:Int),())
def lK(k:Nat)(x:aA×Int×Unit):Option (Int×Unit):=bi (pd k (x.1,x.2.1,if x.1.2.1==1 then true else if x.1.1==1 then x.1.2.1==2 else false,())) λa=>sm (a.1,())
def jT(k:Nat)(x:aA×Unit):Option (Bool×Unit):=sm (if if x.1.1==5 then true else x.1.1==6 then x.1.2.1==1 else false,())
def np(k:Nat)(x:af×Unit):Option (Bool×Unit):=aO (λj=>aM k (λl (b:af×List aq×Int×Int×Unit)=>if dc (b.2.2.2.1<b.2.2.1)then if dc (0<=b.2.2.2.1/\b.2.2.2.1<ln b.2.1)then aM k (λm (c:af×Int×aq×List aq×Int×Int×List aA×Int×Int×Unit)=>let d:=c.2.2.2.2.2.2;if dc (d.2.2.1<d.2.1)then if dc (0<=d.2.2.1/\d.2.2.1<ln d.1)then bi (lK k (gd d.1 (tn d.2.2.1) ah.aa,(ln c.1.2.2.2.1:Int),())) λn=>if !(((n.1==c.2.1):Bool)==(c.2.2.1.1==d.2.2.1))then sm (false,())else m (c.1,c.2.1,c.2.2.1,c.2.2.2.1,c.2.2.2.2.1,c.2.2.2.2.2.1,d.1,d.2.1,IntKind.i64.wrap (d.2.2.1+1),())else nn else l (c.1,c.2.2.2.1,c.2.2.2.2.1,IntKind.i64.wrap (c.2.2.2.2.2.1+1),())) (b.1,b.2.2.2.1,gd b.2.1 (tn b.2.2.2.1) aj.aa,b.2.1,b.2.2.1,b.2.2.2.1,b.1.2.2.2.2.2.2.2.2.2.2.2.2.1,(ln b.1.2.2.2.2.2.2.2.2.2.2.2.2.1:Int),0,())else nn else j (b.1,())) (x.1,x.1.2.2.2.1,(ln x.1.2.2.2.1:Int),0,())) (λ(i:af×Unit)=>aO (λo=>aM k (λf (a:af×List aA×Int×Int×Unit)=>let e:=a.2.2.2.1;if dc (e<a.2.2.1)then if dc (0<=e/\e<ln a.2.1)then bi (jT k (gd a.2.1 (tn e) ah.aa,())) λg=>if !(g.1==(a.1.2.2.2.2.2.2.1==e))then sm (false,())else f (a.1,a.2.1,a.2.2.1,IntKind.i64.wrap (e+1),())else nn else o (a.1,())) (i.1,i.1.2.2.2.2.2.2.2.2.2.2.2.2.1,(ln i.1.2.2.2.2.2.2.2.2.2.2.2.2.1:Int),0,())) (λ(p:af×Unit)=>bi (cq k (p.1.2.2.2.2.2.2.1,-1,4,())) λh=>sm (h.1,())))
def sg(k:Nat)(x:List ByteArray×ByteArray×Unit):Option (Bool×Unit):=aM k (λb (a:ByteArray×List ByteArray×Int×Int×Unit)=>if dc (a.2.2.2.1<a.2.2.1)then if dc (0<=a.2.2.2.1/\a.2.2.2.1<ln a.2.1)then if ByteArray.toList (gd a.2.1 (tn a.2.2.2.1) ByteArray.empty)==ByteArray.toList a.1 then sm (true,())else b (a.1,a.2.1,a.2.2.1,IntKind.i64.wrap (a.2.2.2.1+1),())else nn else sm (false,())) (x.2.1,x.1,(ln x.1:Int),0,())
def wD(k:Nat)(x:List ai×List ByteArray×Unit):Option (List ai×Unit):=aM k (λc (a:List ByteArray×List ai×List ai×Int×Int×Unit)=>let b:=a.2.2.2.2.1;if dc (b<a.2.2.2.1)then if dc (0<=b/\b<ln a.2.2.1)then bi (sg k (a.1,(gd a.2.2.1 (tn b) al.aa).1,())) λd=>if d.1 then if dc (ln a.2.1+ln [gd a.2.2.1 (tn b) al.aa]<4294967296)then c (a.1,a.2.1++([gd a.2.2.1 (tn b) al.aa]:List ai),a.2.2.1,a.2.2.2.1,IntKind.i64.wrap (b+1),())else nn else c (a.1,a.2.1,a.2.2.1,a.2.2.2.1,IntKind.i64.wrap (b+1),())else nn else sm (a.2.1,())) (x.2.1,[],x.1,(ln x.1:Int),0,())
def vA(k:Nat)(x:ae×List ByteArray×Unit):Option (List ai×Unit):=bi (wD k (x.1.1,x.2.1,())) λa=>sm (a.1,())
def nR(k:Nat)(x:List ai×List ai×Unit):Option (Bool×Unit):=aO (λh=>aM k (λi (b:List ai×List ai×Int×Unit)=>let a:=b.2.2.1;let e:=gd b.2.1 (tn a) al.aa;let c:=(ln b.2.1:Int);let f:=gd b.1 (tn a) al.aa;let d:=(ln b.1:Int);if if dc (a<d)then dc (a<c)else false then if dc (0<=a/\a<d)then if dc (0<=a/\a<c)then if !(ByteArray.toList f.1==ByteArray.toList e.1)then if dc (0<=a/\a<d)then if dc (0<=a/\a<c)then sm (Op.bytesLess (ByteArray.toList f.1) (ByteArray.toList e.1),())else nn else nn else if dc (0<=a/\a<d)then if dc (0<=a/\a<c)then if !(ByteArray.toList f.2==ByteArray.toList e.2)then if dc (0<=a/\a<d)then if dc (0<=a/\a<c)then sm (Op.bytesLess (ByteArray.toList f.2) (ByteArray.toList e.2),())else nn else nn else i (b.1,b.2.1,IntKind.i64.wrap (a+1),())else nn else nn else nn else nn else h (b.1,b.2.1,())) (x.1,x.2.1,0,())) (λ(g:List ai×List ai×Unit)=>sm (dc ((ln g.1:Int)<(ln g.2.1:Int)),()))
def rE(k:Nat)(x:List ae×List ai×List ByteArray×Unit):Option (Bool×Unit):=aM k (λf (b:List ae×List ai×List ByteArray×List ae×Int×Int×Unit)=>let c:=b.2.2.2;let a:=c.2.2.1;let d:=IntKind.i64.wrap (a-1);let e:=a>0;if dc (a<c.2.1)then if dc (0<=a/\a<ln c.1)then bi (gy k (gd c.1 (tn a) ab.aa,())) λr3=>bi (if(!r3.1)==false then vA k (gd c.1 (tn a) ab.aa,b.2.2.1,())else sm (([]:List ai),())) λg=>bi (if(!r3.1)==false then cT k (g.1,b.2.1,())else sm (false,())) λr5=>if !((((if !r3.1 then true else !r5.1):Bool)==false)&&(dc e==true))||(dc (0<=d/\d<ln b.1))then bi (if(((if !r3.1 then true else !r5.1):Bool)==false)&&(dc e==true)then nR k ((gd b.1 (tn d) ab.aa).1,(gd c.1 (tn a) ab.aa).1,())else sm (false,())) λr6=>if if if !r3.1 then true else !r5.1 then true else if dc e then !r6.1 else false then sm (false,())else f (b.1,b.2.1,b.2.2.1,c.1,c.2.1,IntKind.i64.wrap (a+1),())else nn else nn else sm (true,())) (x.1,x.2.1,x.2.2.1,x.1,(ln x.1:Int),0,())
def rS(k:Nat)(x:ar×List ByteArray×Unit):Option (Bool×Unit):=let a:=x.1.1<0;let b:=(ln x.1.2.2.2.2:Int)>0;bi (if dc a==false then j0 k (x.1.2.1,())else sm (false,())) λr1=>bi (if((if dc a then true else !r1.1):Bool)==false then cq k (x.1.2.2.1,0,99999,())else sm (false,())) λr2=>bi (if(((if if dc a then true else !r1.1 then true else !r2.1):Bool)==false)&&(((x.1.2.2.2.1 != -1):Bool)==true)then cq k (x.1.2.2.2.1,x.1.2.2.1,99999,())else sm (false,())) λr3=>if if if if dc a then true else !r1.1 then true else !r2.1 then true else if x.1.2.2.2.1 != -1 then !r3.1 else false then sm (false,())else bi (if dc b==true then rE k (x.1.2.2.2.2,x.1.2.1,x.2.1,())else sm (false,())) λc=>sm (if dc b then c.1 else false,())
def rz(k:Nat)(x:List ar×List ai×Unit):Option (Int×Unit):=aM k (λb (a:List ai×List ar×Int×Int×Unit)=>if dc (a.2.2.2.1<a.2.2.1)then if dc (0<=a.2.2.2.1/\a.2.2.2.1<ln a.2.1)then bi (cT k ((gd a.2.1 (tn a.2.2.2.1) ak.aa).2.1,a.1,())) λc=>if c.1 then sm (a.2.2.2.1,())else b (a.1,a.2.1,a.2.2.1,IntKind.i64.wrap (a.2.2.2.1+1),())else nn else sm ((-1:Int),())) (x.2.1,x.1,(ln x.1:Int),0,())
def pR(k:Nat)(x:List ar×List ByteArray×Unit):Option (Bool×Unit):=aM k (λh (a:List ar×List ByteArray×List ar×Int×Int×Unit)=>let b:=a.2.2.2.2.1;let d:=IntKind.i64.wrap (b-1);let f:=gd a.2.2.1 (tn b) ak.aa;let g:=(gd a.1 (tn d) ak.aa).1>=(f.1);let c:=b>=12;let e:=b>0;if dc (b<a.2.2.2.1)then if dc (0<=b/\b<ln a.2.2.1)then bi (if dc c==false then rS k (gd a.2.2.1 (tn b) ak.aa,a.2.1,())else sm (false,())) λr3=>if !((((if dc c then true else !r3.1):Bool)==false)&&(dc e==true))||(dc (0<=d/\d<ln a.1))then bi (if((if if dc c then true else !r3.1 then true else if dc e then dc g else false):Bool)==false then rz k (a.1,f.2.1,())else sm (0,())) λi=>if if if if dc c then true else !r3.1 then true else if dc e then dc g else false then true else i.1 != b then sm (false,())else h (a.1,a.2.1,a.2.2.1,a.2.2.2.1,IntKind.i64.wrap (b+1),())else nn else nn else sm (true,())) (x.1,x.2.1,x.1,(ln x.1:Int),0,())
def tM(k:Nat)(x:aI×aI×Unit):Option (Bool×Unit):=sm (if dc (x.1.1<x.2.1.1)then true else if x.1.1==x.2.1.1 then dc (x.1.2<x.2.1.2)else false,())
def tf(k:Nat)(x:List aI×Unit):Option (Bool×Unit):=aO (λh=>aM k (λi (a:List aI×List aI×Int×Int×Unit)=>let b:=a.2.2.2.1;let g:=gd a.2.1 (tn b) aL.aa;let f:=IntKind.i64.wrap (Int.tdiv (IntKind.i64.wrap (b-1)) (2:Int));let c:=b>0;let d:=g.2<0;let e:=g.1<0;if dc (b<a.2.2.1)then if dc (0<=b/\b<ln a.2.1)then if !((((if dc e then true else dc d):Bool)==false)&&(dc c==true))||(dc ((2:Int)≠0))then if !((((if dc e then true else dc d):Bool)==false)&&(dc c==true))||(dc (0<=f/\f<ln a.1))then bi (if(((if dc e then true else dc d):Bool)==false)&&(dc c==true)then tM k (gd a.2.1 (tn b) aL.aa,gd a.1 (tn f) aL.aa,())else sm (false,())) λj=>if if if dc e then true else dc d then true else if dc c then j.1 else false then sm (false,())else i (a.1,a.2.1,a.2.2.1,IntKind.i64.wrap (b+1),())else nn else nn else nn else h (a.1,())) (x.1,x.1,(ln x.1:Int),0,())) (λ(l:List aI×Unit)=>sm (dc ((ln l.1:Int)<=16),()))
def wC(k:Nat)(x:ar×Int×Int×Unit):Option (Int×Unit):=if x.1.2.2.2.1== -1 then sm (IntKind.i64.wrap (x.1.2.2.1+x.2.1),())else sm (IntKind.i64.wrap (x.1.2.2.2.1+x.2.2.1),())
def yF(k:Nat)(x:bw×ar×Unit):Option (Int×Unit):=bi (wC k (x.2.1,x.1.2.2.2.1,x.1.2.2.2.2.1,())) λa=>sm (a.1,())
def mj(k:Nat)(x:af×Unit):Option (Bool×Unit):=let j:=x.1.2.2.2.2.2.2.2;bi (pR k (j.1,x.1.1.2.2.2.2.2,())) λr1=>bi (if(!r1.1)==false then tf k (j.2.2.1,())else sm (false,())) λr2=>if if !r1.1 then true else !r2.1 then sm (false,())else aO (λt=>aM k (λu (d:af×List ar×Int×Int×Unit)=>let l:=gd d.2.1 (tn d.2.2.2.1) ak.aa;let h:=d.1.2.2.2.2.2.2.2.2;let r:=gd h.2.2.2.2.1 (tn (4:Int)) ah.aa;if dc (d.2.2.2.1<d.2.2.1)then if dc (0<=d.2.2.2.1/\d.2.2.2.1<ln d.2.1)then if if if dc (l.2.2.1>d.1.2.2.1)then true else dc (l.2.2.2.1>d.1.2.2.1)then true else dc (l.1>=h.1)then sm (false,())else if dc (0<=(4:Int)/\(4:Int)<(ln h.2.2.2.2.1:Int))then if !(((r.1==6):Bool)==true)||(dc (0<=(4:Int)/\(4:Int)<(ln h.2.2.2.2.1:Int)))then aO (λv=>aM k (λw (a:af×ar×Bool×List ar×Int×Int×List aI×Int×Int×Unit)=>let e:=a.2.2.2.2.2.2;let s:=gd e.1 (tn e.2.2.1) aL.aa;if dc (e.2.2.1<e.2.1)then if dc (0<=e.2.2.1/\e.2.2.1<ln e.1)then bi (if(a.2.2.1==false)&&(((s.2==a.2.1.1):Bool)==true)then yF k (a.1.1,a.2.1,())else sm (0,())) λn=>w (a.1,a.2.1,if a.2.2.1 then true else if s.2==a.2.1.1 then s.1==n.1 else false,a.2.2.2.1,a.2.2.2.2.1,a.2.2.2.2.2.1,e.1,e.2.1,IntKind.i64.wrap (e.2.2.1+1),())else nn else v (a.1,a.2.1,a.2.2.1,a.2.2.2.1,a.2.2.2.2.1,a.2.2.2.2.2.1,())) (d.1,gd d.2.1 (tn d.2.2.2.1) ak.aa,if r.1==6 then r.2.2.2.2.2.2.2.1==(l.1)else false,d.2.1,d.2.2.1,d.2.2.2.1,h.2.1,(ln h.2.1:Int),0,())) (λ(i:af×ar×Bool×List ar×Int×Int×Unit)=>if !i.2.2.1 then sm (false,())else u (i.1,i.2.2.2.1,i.2.2.2.2.1,IntKind.i64.wrap (i.2.2.2.2.2.1+1),()))else nn else nn else nn else t (d.1,())) (x.1,j.1,(ln j.1:Int),0,())) (λ(q:af×Unit)=>aM k (λo (c:af×List aI×Int×Int×Unit)=>let f:=c.2.2.2.1;let m:=c.1.2.2.2.2.2.2.2.2;if dc (f<c.2.2.1)then if dc (0<=f/\f<ln c.2.1)then if dc ((gd c.2.1 (tn f) aL.aa).2>=m.1)then sm (false,())else if dc (0<=f/\f<=ln m.2.1)then aM k (λp (b:af×aI×List aI×Int×Int×List aI×Int×Int×Unit)=>let g:=b.2.2.2.2.2;if dc (g.2.2.1<g.2.1)then if dc (0<=g.2.2.1/\g.2.2.1<ln g.1)then if(gd g.1 (tn g.2.2.1) aL.aa).2==b.2.1.2 then sm (false,())else p (b.1,b.2.1,b.2.2.1,b.2.2.2.1,b.2.2.2.2.1,g.1,g.2.1,IntKind.i64.wrap (g.2.2.1+1),())else nn else o (b.1,b.2.2.1,b.2.2.2.1,IntKind.i64.wrap (b.2.2.2.2.1+1),())) (c.1,gd c.2.1 (tn f) aL.aa,c.2.1,c.2.2.1,f,ta (tn f) m.2.1,((ln (ta (tn f) m.2.1):Nat):Int),0,())else nn else nn else sm (true,())) (q.1,q.1.2.2.2.2.2.2.2.2.2.1,(ln q.1.2.2.2.2.2.2.2.2.2.1:Int),0,()))
def fO(k:Nat)(x:af×Unit):Option (Bool×Unit):=let e:=x.1.2.2.2.2.2.2.2.2;bi (tF k (x.1.1,())) λr1=>bi (if((if if !r1.1 then true else dc (x.1.2.1<0)then true else dc (e.1<0)):Bool)==false then cq k (x.1.2.2.1,0,99899,())else sm (false,())) λr2=>if if if if if !r1.1 then true else dc (x.1.2.1<0)then true else dc (e.1<0)then true else !r2.1 then true else(ln e.2.2.2.2.1:Int) != 5 then sm (false,())else bi (nu k (x.1,())) λa=>bi (if a.1==true then oW k (x.1.2.2.2.2.1,x.1.1,())else sm (false,())) λb=>bi (if((if a.1 then b.1 else false):Bool)==true then iH k (x.1.2.2.2.2.2.1,())else sm (false,())) λc=>bi (if((if if a.1 then b.1 else false then c.1 else false):Bool)==true then iH k (e.2.2.2.1,())else sm (false,())) λd=>bi (if((if if if a.1 then b.1 else false then c.1 else false then d.1 else false):Bool)==true then nk k (x.1,())else sm (false,())) λf=>bi (if((if if if if a.1 then b.1 else false then c.1 else false then d.1 else false then f.1 else false):Bool)==true then np k (x.1,())else sm (false,())) λg=>bi (if((if if if if if a.1 then b.1 else false then c.1 else false then d.1 else false then f.1 else false then g.1 else false):Bool)==true then mj k (x.1,())else sm (false,())) λh=>sm (if if if if if if a.1 then b.1 else false then c.1 else false then d.1 else false then f.1 else false then g.1 else false then h.1 else false,())
def sM(k:Nat)(x:af×Int×Unit):Option (Bool×Unit):=let b:=(ln x.1.2.2.2.2.2.2.2.2.2.2.2.2.1:Int);bi (cq k (x.2.1,0,IntKind.i64.wrap (b-1),())) λa=>if !(a.1==true)||(dc (0<=x.2.1/\x.2.1<b))then sm (if a.1 then(gd x.1.2.2.2.2.2.2.2.2.2.2.2.2.1 (tn x.2.1) ah.aa).1==0 else false,())else nn
def tN(k:Nat)(x:af×Int×Unit):Option (Bool×Unit):=bi (cq k (x.2.1,0,2,())) λa=>bi (if a.1==true then sM k (x.1,x.2.1,())else sm (false,())) λb=>sm (if a.1 then b.1 else false,())
def mC(k:Nat)(x:af×ay×Unit):Option (Int×af×Unit):=let a:=x.2.1.2.2.2;let b:=x.1.2.2;let c:=b.2.2.2.2.2;if dc (ln c.2.2.2.2.2.2+ln [(x.2.1.1,x.2.1.2.1,x.2.1.2.2.1,a.1,a.2.1,a.2.2.1,a.2.2.2.1,a.2.2.2.2.1,b.1,x.1.2.1,-1,-1)]<4294967296)then sm (IntKind.i64.wrap (((ln (c.2.2.2.2.2.2++([(x.2.1.1,x.2.1.2.1,x.2.1.2.2.1,a.1,a.2.1,a.2.2.1,a.2.2.2.1,a.2.2.2.2.1,b.1,x.1.2.1,-1,-1)]:List ay)):Nat):Int)-1),(x.1.1,x.1.2.1,b.1,b.2.1,b.2.2.1,b.2.2.2.1,b.2.2.2.2.1,c.1,c.2.1,c.2.2.1,c.2.2.2.1,c.2.2.2.2.1,c.2.2.2.2.2.1,c.2.2.2.2.2.2++([(x.2.1.1,x.2.1.2.1,x.2.1.2.2.1,a.1,a.2.1,a.2.2.1,a.2.2.2.1,a.2.2.2.2.1,b.1,x.1.2.1,-1,-1)]:List ay)),())else nn
def jW(k:Nat)(x:af×Int×aA×ay×Unit):Option (Bool×af×Unit):=let c:=x.2.2.1.2.2;bi (tN k (x.1,x.2.1,())) λr1=>if !r1.1 then sm (false,x.1,())else bi (mC k (x.1,(x.2.2.2.1.1,x.2.1,x.2.2.2.1.2.2),())) λb=>let a:=b.2.1.2.2.2.2.2.2;if dc (0<=x.2.1/\x.2.1<ln a.2.2.2.2.2.2.1)then sm (true,(b.2.1.1,IntKind.i64.wrap (b.2.1.2.1+1),b.2.1.2.2.1,b.2.1.2.2.2.1,b.2.1.2.2.2.2.1,b.2.1.2.2.2.2.2.1,a.1,a.2.1,a.2.2.1,a.2.2.2.1,a.2.2.2.2.1,a.2.2.2.2.2.1,se a.2.2.2.2.2.2.1 (tn x.2.1) (x.2.2.1.1,x.2.2.1.2.1,c.1,c.2.1,c.2.2.1,c.2.2.2.1,c.2.2.2.2.1,c.2.2.2.2.2.1,b.1),a.2.2.2.2.2.2.2),())else nn
def sJ(k:Nat)(x:af×Int×List ai×Unit):Option (Bool×af×Unit):=bi (j0 k (x.2.2.1,())) λa=>let b:=a.1==true;bi (if b then fN k (x.2.2.1,())else sm (([]:List ai),())) λd=>bi (if b then fN k (x.2.2.1,())else sm (([]:List ai),())) λe=>if b then bi (jW k (x.1,x.2.1,((2:Int),0,(([]:List ai),0,0,ByteArray.empty),d.1,0,[],[],0,0),((3:Int),0,(([]:List ai),0,0,ByteArray.empty),e.1,0,0,0,[],0,0,0,0),())) λc=>sm (if a.1 then c.1 else false,c.2.1,())else sm (if a.1 then false else false,x.1,())
def xl(k:Nat)(x:af×Int×List ai×Unit):Option (af×Bool×Unit):=bi (cZ k (x.1,())) λa=>bi (fO k (x.1,())) λr2=>if(!r2.1)==false then bi (sJ k (a.1,x.2.1,x.2.2.1,())) λb=>if if !r2.1 then true else !b.1 then bi (cZ k (x.1,())) λc=>sm (c.1,false,())else sm (b.2.1,true,())else if if !r2.1 then true else !false then bi (cZ k (x.1,())) λd=>sm (d.1,false,())else sm (a.1,true,())
def rI(k:Nat)(x:aR×Unit):Option (Bool×Unit):=aO (λd=>aM k (λe (b:aR×Int×Unit)=>let c:=(ln b.1.2:Int);if dc (b.2.1<c)then if dc (0<=b.2.1/\b.2.1<c)then bi (fP k (gd b.1.2 (tn b.2.1) ab.aa,())) λr5=>if !((!r5.1)==false)||(dc (0<=b.2.1/\b.2.1<c))then bi (if(!r5.1)==false then dX k ((gd b.1.2 (tn b.2.1) ab.aa).1,())else sm (0,())) λf=>if if !r5.1 then true else f.1 != b.1.1 then sm (false,())else aM k (λg (a:aR×Int×Int×Unit)=>if dc (a.2.2.1<a.2.1)then if dc (0<=a.2.2.1/\a.2.2.1<ln a.1.2)then if dc (0<=a.2.1/\a.2.1<ln a.1.2)then bi (dD k ((gd a.1.2 (tn a.2.2.1) ab.aa).1,(gd a.1.2 (tn a.2.1) ab.aa).1,())) λh=>if h.1 then sm (false,())else g (a.1,a.2.1,IntKind.i64.wrap (a.2.2.1+1),())else nn else nn else e (a.1,IntKind.i64.wrap (a.2.1+1),())) (b.1,b.2.1,0,())else nn else nn else d (b.1,())) (x.1,0,())) (λ(i:aR×Unit)=>sm (dc ((ln i.1.2:Int)>0),()))
def tL(k:Nat)(x:aq×Int×Int×Unit):Option (Bool×Unit):=aO (λi=>aM k (λj (b:Int×Int×aq×Int×Unit)=>let a:=b.2.2.2.1;let e:=IntKind.i64.wrap (a-1);let h:=gd b.2.2.1.2.2 (tn a) az.aa;let f:=(gd b.2.2.1.2.2 (tn e) az.aa).1>=(h.1);let c:=(ln b.2.2.1.2.2:Int);let d:=a>0;if dc (a<c)then if dc (0<=a/\a<c)then bi (rI k (gd b.2.2.1.2.2 (tn a) az.aa,())) λr5=>if !(((!r5.1)==false)&&(dc d==true))||(dc (0<=e/\e<c))then if !(((!r5.1)==false)&&(dc d==true))||(dc (0<=a/\a<c))then if !(((if !r5.1 then true else if dc d then dc f else false):Bool)==false)||(dc (0<=a/\a<c))then bi (if((if !r5.1 then true else if dc d then dc f else false):Bool)==false then ia k (h.1,b.2.1,())else sm (0,())) λl=>if if if !r5.1 then true else if dc d then dc f else false then true else l.1 != b.1 then sm (false,())else j (b.1,b.2.1,b.2.2.1,IntKind.i64.wrap (a+1),())else nn else nn else nn else nn else i (b.2.2.1,())) (x.2.1,x.2.2.1,x.1,0,())) (λ(g:aq×Unit)=>bi (bP k (g.1.1,-1,4,())) λm=>sm (if m.1 then dc (g.1.2.1>=0)else false,()))
def sB(k:Nat)(x:List aq×Unit):Option (Bool×Unit):=aO (λc=>aM k (λd (a:List aq×Int×Unit)=>let b:=(ln a.1:Int);if dc (a.2.1<b)then if dc (0<=a.2.1/\a.2.1<b)then bi (tL k (gd a.1 (tn a.2.1) aj.aa,a.2.1,b,())) λr5=>if !r5.1 then sm (false,())else d (a.1,IntKind.i64.wrap (a.2.1+1),())else nn else c (a.1,())) (x.1,0,())) (λ(f:List aq×Unit)=>bi (bP k ((ln f.1:Int),1,3,())) λe=>sm (e.1,()))
def qo(k:Nat)(x:af×Unit):Option (Bool×Unit):=bi (sB k (x.1.2.2.2.1,())) λr1=>if if !r1.1 then true else(ln x.1.2.2.2.1:Int) != x.1.1.1 then sm (false,())else bi (dN k (x.1.2.2.2.1,())) λc=>aO (λd=>aM k (λe (a:af×List ae×Int×Unit)=>if dc (a.2.2.1<ln a.2.1)then if dc (0<=a.2.2.1/\a.2.2.1<ln a.2.1)then bi (pM k (a.1.1,gd a.2.1 (tn a.2.2.1) ab.aa,())) λr7=>if !r7.1 then sm (false,())else e (a.1,a.2.1,IntKind.i64.wrap (a.2.2.1+1),())else nn else d (a.1,a.2.1,())) (x.1,c.1,0,())) (λ(b:af×List ae×Unit)=>sm (dc ((ln b.2.1:Int)<=b.1.1.2.1),()))
def mc(k:Nat)(x:List ae×Unit):Option (Bool×Unit):=aM k (λb (a:List ae×Int×Unit)=>if dc (a.2.1<ln a.1)then if dc (0<=a.2.1/\a.2.1<ln a.1)then bi (fP k (gd a.1 (tn a.2.1) ab.aa,())) λr3=>if !r3.1 then sm (false,())else b (a.1,IntKind.i64.wrap (a.2.1+1),())else nn else sm (true,())) (x.1,0,())
def vp(k:Nat)(x:bp×Unit):Option (Bool×Unit):=aO (λc=>aM k (λd (a:bp×Int×Unit)=>if dc (a.2.1<ln a.1.1)then if dc (0<=a.2.1/\a.2.1<ln a.1.1)then bi (fP k (gd a.1.1 (tn a.2.1) ab.aa,())) λr5=>if !r5.1 then sm (false,())else d (a.1,IntKind.i64.wrap (a.2.1+1),())else nn else c (a.1,())) (x.1,0,())) (λ(b:bp×Unit)=>sm (if dc ((ln b.1.1:Int)<=3)then if !b.1.2 then true else(ln b.1.1:Int)==0 else false,()))
def lX(k:Nat)(x:List Int×Int×Unit):Option (Bool×Unit):=aM k (λb (a:List Int×Int×Int×Unit)=>if dc (a.2.2.1<ln a.1)then if dc (0<=a.2.2.1/\a.2.2.1<ln a.1)then if((gd a.1 (tn a.2.2.1) 0):Int)==a.2.1 then sm (true,())else b (a.1,a.2.1,IntKind.i64.wrap (a.2.2.1+1),())else nn else sm (false,())) (x.1,x.2.1,0,())
def tH(k:Nat)(x:ay×Unit):Option (Bool×Unit):=let a:=x.1.2.2.2.2.2.2.2.2;let b:=(a.2.2.1:Int);bi (bP k (x.1.1,1,9,())) λr1=>bi (if(!r1.1)==false then bP k (x.1.2.1,-1,4,())else sm (false,())) λr2=>if if if if if if !r1.1 then true else !r2.1 then true else dc (a.2.1<0)then true else dc (x.1.2.2.2.2.1<0)then true else dc (x.1.2.2.2.2.2.1<0)then true else dc (a.1<0)then sm (false,())else if if if b != -1 then dc (b<a.2.1)else false then true else if a.2.2.2 != -1 then if b== -1 then true else dc (a.2.2.2<a.2.2.1)else false then sm (false,())else if b== -1 then sm (x.1.2.2.2.2.2.2.1==0,())else bi (mw k (x.1.1,())) λc=>bi (lX k (c.1,x.1.2.2.2.2.2.2.1,())) λd=>sm (d.1,())
def eZ(k:Nat)(x:ae×ae×Unit):Option (Bool×Unit):=bi (dD k (x.1.1,x.2.1.1,())) λa=>sm (if if if a.1 then x.1.2.1==x.2.1.2.1 else false then x.1.2.2.1==x.2.1.2.2.1 else false then ByteArray.toList x.1.2.2.2==ByteArray.toList x.2.1.2.2.2 else false,())
def jl(k:Nat)(x:ae×Unit):Option (Bool×Unit):=bi (eZ k (x.1,(([]:List ai),0,0,ByteArray.empty),())) λa=>sm (a.1,())
def rj(k:Nat)(x:aA×Unit):Option (Bool×Unit):=aO (λe=>aM k (λf (a:aA×Int×Unit)=>let d:=(ln a.1.2.2.2.2.2.1:Int);if dc (a.2.1<d)then if dc (0<=a.2.1/\a.2.1<d)then if dc (((gd a.1.2.2.2.2.2.1 (tn a.2.1) 0):Int)<0)then sm (false,())else f (a.1,IntKind.i64.wrap (a.2.1+1),())else nn else e (a.1,())) (x.1,0,())) (λ(b:aA×Unit)=>let c:=(ln b.1.2.2.2.2.2.1:Int);if b.1.2.1==2 then bi (bP k (c,1,3,())) λg=>sm (if g.1 then b.1.2.2.2.2.1==c else false,())else sm (if c==b.1.2.2.2.2.1 then dc (b.1.2.2.2.2.1<=2)else false,()))
def tJ(k:Nat)(x:aA×Int×Unit):Option (Bool×Unit):=let a:=x.1.2.2;let c:=a.2.2;let f:=((ln a.2.1:Int):Int);let b:=x.2.1<3;let d:=x.1.2.1<2;let g:=((ln c.2.2.1:Int):Int);let h:=((ln c.2.1:Int):Int);let e:=(c.2.2.2.1:Int);let i:=c.1==0;let j:=c.2.2.2.2<0;bi (if dc j==false then bP k (x.1.2.1,0,2,())else sm (false,())) λr1=>bi (if((if dc j then true else !r1.1):Bool)==false then bP k (x.2.1,0,4,())else sm (false,())) λr2=>bi (if((if if dc j then true else !r1.1 then true else !r2.1):Bool)==false then mc k (c.2.2.1,())else sm (false,())) λr3=>if if if if if if dc j then true else !r1.1 then true else !r2.1 then true else !r3.1 then true else dc (c.1<0)then true else dc (e<0)then sm (false,())else if x.1.1==0 then bi (if((x.1.2.1==0):Bool)==true then jl k (a.1,())else sm (false,())) λq=>sm (if if if if if x.1.2.1==0 then q.1 else false then f==0 else false then if if i then h==0 else false then g==0 else false else false then e==0 else false then c.2.2.2.2==0 else false,())else if x.1.1==1 then bi (if dc b==true then fP k (a.1,())else sm (false,())) λr=>sm (if if if if dc b then r.1 else false then f==0 else false then if if i then h==0 else false then g==0 else false else false then e==0 else false,())else if x.1.1==2 then bi (if((if dc b then dc d else false):Bool)==true then jl k (a.1,())else sm (false,())) λo=>bi (if((if if dc b then dc d else false then o.1 else false):Bool)==true then iQ k (a.2.1,())else sm (false,())) λs=>sm (if if if if if dc b then dc d else false then o.1 else false then s.1 else false then if if i then h==0 else false then g==0 else false else false then e==0 else false,())else if x.1.1==3 then bi (if dc b==true then jl k (a.1,())else sm (false,())) λp=>bi (if((if if if dc b then p.1 else false then f==0 else false then e==0 else false):Bool)==true then rj k (x.1,())else sm (false,())) λt=>sm (if if if if dc b then p.1 else false then f==0 else false then e==0 else false then t.1 else false,())else if x.1.1==4 then bi (if((if dc b then dc d else false):Bool)==true then jl k (a.1,())else sm (false,())) λl=>sm (if if if if if if if dc b then dc d else false then l.1 else false then f==0 else false then e==0 else false then dc (c.1<=2)else false then h==0 else false then g==0 else false,())else if x.1.1==5 then bi (if((if x.2.1==3 then dc d else false):Bool)==true then fP k (a.1,())else sm (false,())) λm=>sm (if if if if if x.2.1==3 then dc d else false then m.1 else false then f==0 else false then if if i then h==0 else false then g==0 else false else false then e==0 else false,())else if x.1.1==6 then bi (if((if x.2.1==4 then dc d else false):Bool)==true then jl k (a.1,())else sm (false,())) λn=>sm (if if if if x.2.1==4 then dc d else false then n.1 else false then f==0 else false then if if i then h==0 else false then g==0 else false else false,())else sm (false,())
def tP(k:Nat)(x:List ae×List ae×Unit):Option (Bool×Unit):=if(ln x.1:Int) != (ln x.2.1:Int)then sm (false,())else aM k (λc (a:List ae×List ae×Int×Unit)=>let b:=a.2.2.1;if dc (b<ln a.1)then if dc (0<=b/\b<ln a.1)then if dc (0<=b/\b<ln a.2.1)then bi (eZ k (gd a.1 (tn b) ab.aa,gd a.2.1 (tn b) ab.aa,())) λr3=>if !r3.1 then sm (false,())else c (a.1,a.2.1,IntKind.i64.wrap (b+1),())else nn else nn else sm (true,())) (x.1,x.2.1,0,())
def js(k:Nat)(x:af×aA×Unit):Option (Bool×Unit):=aO (λi=>aM k (λj (a:af×aA×List ae×Bool×Int×Unit)=>let b:=a.2.2.2.2.1;let c:=(ln a.2.1.2.2.2.2.2.1:Int);let d:=(ln a.1.2.2.2.1:Int);let g:=(gd a.1.2.2.2.1 (tn b) aj.aa).2.1;let h:=((gd a.2.1.2.2.2.2.2.1 (tn b) 0):Int);if dc (b<c)then if dc (0<=b/\b<c)then if dc (0<=b/\b<d)then if dc (h>g)then sm (false,())else if !(a.2.2.2.1==true)||(dc (0<=b/\b<c))then if !(a.2.2.2.1==true)||(dc (0<=b/\b<d))then if dc (0<=b/\b<d)then bi (kc k (gd a.1.2.2.2.1 (tn b) aj.aa,())) λe=>if dc (ln a.2.2.1+ln e.1<4294967296)then j (a.1,a.2.1,a.2.2.1++e.1,if a.2.2.2.1 then h==g else false,IntKind.i64.wrap (b+1),())else nn else nn else nn else nn else nn else nn else i (a.1,a.2.1,a.2.2.1,a.2.2.2.1,())) (x.1,x.2.1,[],true,0,())) (λ(f:af×aA×List ae×Bool×Unit)=>bi (if(!f.2.2.2.1)==false then tP k (f.2.2.1,f.2.1.2.2.2.2.2.2.1,())else sm (false,())) λl=>sm (if !f.2.2.2.1 then true else l.1,()))
def rn(k:Nat)(x:af×Int×Unit):Option (Bool×Unit):=let a:=x.1.2.2.2.2.2.2.2.2.2.2.2.2;let f:=tn x.2.1;let b:=gd a.1 f ah.aa;let t:=b.2.2.2.2;let h:=t.2.2.2.2;let c:=gd a.2 (tn h) aw.aa;let l:=(((ln (t.2.1):Nat):Int):Int)==x.1.1.1;let d:=(b.1:Int);let u:=c.2.2.2.2.2.2.2.2.2.2;let e:=t.1<x.1.1.1;let g:=b.2.1==2;if dc (0<=x.2.1/\x.2.1<ln a.1)then bi (tJ k (gd a.1 f ah.aa,x.2.1,())) λr1=>if !r1.1 then sm (false,())else if d==0 then sm (true,())else if dc (h>=(ln a.2:Int))then sm (false,())else if dc (0<=h/\h<ln a.2)then bi (if((if c.2.1 != x.2.1 then true else u.2 != -1):Bool)==false then eV k (b.1,())else sm (0,())) λz=>if if if if c.2.1 != x.2.1 then true else u.2 != -1 then true else c.1 != z.1 then true else !(((u.1 != -1):Bool)==(if d==1 then b.2.1==2 else false))then sm (false,())else aO (λv=>if d==1 then if g then bi (il k (x.1.2.2.2.1,b.2.2.1.1,())) λi=>bi (if i.2.1==true then eZ k (i.1,b.2.2.1,())else sm (false,())) λw=>bi (if((if i.2.1 then w.1 else false):Bool)==true then dD k (c.2.2.1.1,b.2.2.1.1,())else sm (false,())) λB=>sm (if if i.2.1 then w.1 else false then B.1 else false,())else bi (eZ k (c.2.2.1,b.2.2.1,())) λy=>bi (if y.1==true then pM k (x.1.1,b.2.2.1,())else sm (false,())) λC=>sm (if y.1 then C.1 else false,())else if d==2 then bi (dD k (c.2.2.2.1,b.2.2.2.1,())) λm=>sm (m.1,())else if d==3 then if d==3 then if g then bi (if l==true then js k (x.1,gd a.1 f ah.aa,())else sm (false,())) λn=>sm (if l then n.1 else false,())else bi (if dc e==true then js k (x.1,gd a.1 f ah.aa,())else sm (false,())) λo=>sm (if dc e then o.1 else false,())else if d==5 then bi (eZ k (c.2.2.1,b.2.2.1,())) λp=>sm (p.1,())else v (x.1,gd a.1 f ah.aa,gd a.2 (tn h) aw.aa,())else if d==4 then if g then bi (if l==true then js k (x.1,gd a.1 f ah.aa,())else sm (false,())) λq=>sm (if l then q.1 else false,())else bi (if dc e==true then js k (x.1,gd a.1 f ah.aa,())else sm (false,())) λr=>sm (if dc e then r.1 else false,())else if d==5 then bi (eZ k (c.2.2.1,b.2.2.1,())) λs=>sm (s.1,())else v (x.1,gd a.1 f ah.aa,gd a.2 (tn h) aw.aa,())) (λ(j:af×aA×ay×Unit)=>sm (if j.2.2.1.2.2.2.2.2.1==j.2.1.2.2.2.2.2.2.2.1 then dc (j.2.1.2.2.2.2.2.2.2.1<j.1.2.2.2.2.2.2.2.2.1)else false,()))else nn else nn
def oZ(k:Nat)(x:aA×Int×Unit):Option (Int×Unit):=if dc (x.2.1<1)then sm ((-1:Int),())else if if x.1.1==1 then if x.1.2.1==1 then true else x.1.2.1==2 else false then bi (dX k (x.1.2.2.1.1,())) λa=>bi (ia k (a.1,x.2.1,())) λb=>sm (b.1,())else if if x.1.1==2 then x.1.2.1==1 else false then bi (dX k (x.1.2.2.2.1,())) λc=>bi (ia k (c.1,x.2.1,())) λd=>sm (d.1,())else if if if x.1.1==3 then true else x.1.1==4 then x.1.2.1==1 else false then sm (x.1.2.2.2.2.1,())else sm ((-1:Int),())
def mg(k:Nat)(x:aA×Unit):Option (Bool×Unit):=sm (if if x.1.1==5 then true else x.1.1==6 then x.1.2.1==1 else false,())
def mN(k:Nat)(x:af×Unit):Option (Bool×Unit):=aO (λr=>aM k (λs (d:af×List Int×Int×Unit)=>if dc (d.2.2.1<ln d.1.2.2.2.1)then if dc (ln d.2.1+ln ([(-1:Int)]:List Int)<4294967296)then s (d.1,d.2.1++([(-1:Int)]:List Int),IntKind.i64.wrap (d.2.2.1+1),())else nn else r (d.1,d.2.1,())) (x.1,[],0,())) (λ(q:af×List Int×Unit)=>aO (λt=>aM k (λp (c:af×List Int×Int×Int×Unit)=>let o:=c.1.2.2.2.2.2.2.2.2.2.2.2.2.1;let g:=c.2.2.2.1;if dc (g<ln o)then if dc (0<=g/\g<ln o)then bi (oZ k (gd o (tn g) ah.aa,(ln c.1.2.2.2.1:Int),())) λf=>aO (λh=>if dc (f.1>=0)then if dc (0<=f.1/\f.1<ln c.2.1)then if((gd c.2.1 (tn f.1) 0):Int) != -1 then sm (false,())else if dc (0<=f.1/\f.1<ln c.2.1)then h (c.1,se c.2.1 (tn f.1) g,c.2.2.1,g,())else nn else nn else h (c.1,c.2.1,c.2.2.1,g,())) (λ(a:af×List Int×Int×Int×Unit)=>if dc (0<=a.2.2.2.1/\a.2.2.2.1<ln a.1.2.2.2.2.2.2.2.2.2.2.2.2.1)then bi (mg k (gd a.1.2.2.2.2.2.2.2.2.2.2.2.2.1 (tn a.2.2.2.1) ah.aa,())) λj=>if j.1 then if a.2.2.1 != -1 then sm (false,())else p (a.1,a.2.1,a.2.2.2.1,IntKind.i64.wrap (a.2.2.2.1+1),())else p (a.1,a.2.1,a.2.2.1,IntKind.i64.wrap (a.2.2.2.1+1),())else nn)else nn else t (c.1,c.2.1,c.2.2.1,())) (q.1,q.2.1,-1,0,())) (λ(n:af×List Int×Int×Unit)=>aO (λl=>aM k (λm (b:af×List Int×Int×Int×Unit)=>let e:=b.2.2.2.1;if dc (e<ln b.1.2.2.2.1)then if dc (0<=e/\e<ln b.1.2.2.2.1)then if dc (0<=e/\e<ln b.2.1)then if(gd b.1.2.2.2.1 (tn e) aj.aa).1 != (gd b.2.1 (tn e) 0)then sm (false,())else m (b.1,b.2.1,b.2.2.1,IntKind.i64.wrap (e+1),())else nn else nn else l (b.1,b.2.2.1,())) (n.1,n.2.1,n.2.2.1,0,())) (λ(i:af×Int×Unit)=>sm (i.1.2.2.2.2.2.2.1==i.2.1,()))))
def qZ(k:Nat)(x:ar×List ByteArray×Unit):Option (Bool×Unit):=aO (λm=>aM k (λn (c:List ByteArray×ar×Int×Unit)=>let a:=c.2.2.1;let d:=a>0;let f:=c.2.1.2.2.2.2;let g:=(ln f:Int);let l:=IntKind.i64.wrap (a-1);if dc (a<g)then if dc (0<=a/\a<g)then bi (fP k (gd f (tn a) ab.aa,())) λr5=>if !(((!r5.1)==false)&&(dc d==true))||(dc (0<=l/\l<g))then if !(((!r5.1)==false)&&(dc d==true))||(dc (0<=a/\a<g))then bi (if((!r5.1)==false)&&(dc d==true)then kV k ((gd f (tn l) ab.aa).1,(gd f (tn a) ab.aa).1,())else sm (false,())) λr6=>if !(((if !r5.1 then true else if dc d then !r6.1 else false):Bool)==false)||(dc (0<=a/\a<g))then bi (if((if !r5.1 then true else if dc d then !r6.1 else false):Bool)==false then gf k (gd f (tn a) ab.aa,c.1,())else sm (([]:List ai),())) λo=>bi (if((if !r5.1 then true else if dc d then !r6.1 else false):Bool)==false then dD k (o.1,c.2.1.2.1,())else sm (false,())) λr8=>if if if !r5.1 then true else if dc d then !r6.1 else false then true else !r8.1 then sm (false,())else n (c.1,c.2.1,IntKind.i64.wrap (a+1),())else nn else nn else nn else nn else m (c.2.1,())) (x.2.1,x.1,0,())) (λ(b:ar×Unit)=>let h:=b.1.1>=0;bi (if dc h==true then iQ k (b.1.2.1,())else sm (false,())) λi=>bi (if((if dc h then i.1 else false):Bool)==true then bP k (b.1.2.2.1,0,99999,())else sm (false,())) λe=>bi (if(((if if dc h then i.1 else false then e.1 else false):Bool)==true)&&(((b.1.2.2.2.1== -1):Bool)==false)then bP k (b.1.2.2.2.1,b.1.2.2.1,99999,())else sm (false,())) λj=>sm (if if if if dc h then i.1 else false then e.1 else false then if b.1.2.2.2.1== -1 then true else j.1 else false then dc ((ln b.1.2.2.2.2:Int)>0)else false,()))
def pQ(k:Nat)(x:List ar×List ByteArray×Unit):Option (Bool×Unit):=aO (λg=>aM k (λh (c:List ar×List ByteArray×Int×Unit)=>let d:=(ln c.1:Int);let b:=c.2.2.1;let e:=IntKind.i64.wrap (b-1);let f:=b>0;if dc (b<d)then if dc (0<=b/\b<d)then bi (qZ k (gd c.1 (tn b) ak.aa,c.2.1,())) λr5=>if !(((!r5.1)==false)&&(dc f==true))||(dc (0<=e/\e<d))then if !(((!r5.1)==false)&&(dc f==true))||(dc (0<=b/\b<d))then if if !r5.1 then true else if dc f then dc ((gd c.1 (tn e) ak.aa).1>=(gd c.1 (tn b) ak.aa).1)else false then sm (false,())else aM k (λi (a:List ar×List ByteArray×Int×Int×Unit)=>if dc (a.2.2.2.1<a.2.2.1)then if dc (0<=a.2.2.2.1/\a.2.2.2.1<ln a.1)then if dc (0<=a.2.2.1/\a.2.2.1<ln a.1)then bi (dD k ((gd a.1 (tn a.2.2.2.1) ak.aa).2.1,(gd a.1 (tn a.2.2.1) ak.aa).2.1,())) λj=>if j.1 then sm (false,())else i (a.1,a.2.1,a.2.2.1,IntKind.i64.wrap (a.2.2.2.1+1),())else nn else nn else h (a.1,a.2.1,IntKind.i64.wrap (a.2.2.1+1),())) (c.1,c.2.1,b,0,())else nn else nn else nn else g (c.1,())) (x.1,x.2.1,0,())) (λ(l:List ar×Unit)=>sm (dc ((ln l.1:Int)<=12),()))
def tI(k:Nat)(x:List aI×Unit):Option (Bool×Unit):=aO (λi=>aM k (λj (b:List aI×Int×Unit)=>let a:=b.2.1;let h:=gd b.1 (tn a) aL.aa;let g:=IntKind.i64.wrap (Int.tdiv (IntKind.i64.wrap (a-1)) (2:Int));let c:=h.1<0;let d:=(ln b.1:Int);let e:=a>0;let f:=h.2<0;if dc (a<d)then if dc (0<=a/\a<d)then if !(dc c==false)||(dc (0<=a/\a<d))then if !((((if dc c then true else dc f):Bool)==false)&&(dc e==true))||(dc (0<=a/\a<d))then if !((((if dc c then true else dc f):Bool)==false)&&(dc e==true))||(dc ((2:Int)≠0))then if !((((if dc c then true else dc f):Bool)==false)&&(dc e==true))||(dc (0<=g/\g<d))then bi (if(((if dc c then true else dc f):Bool)==false)&&(dc e==true)then ky k (gd b.1 (tn a) aL.aa,gd b.1 (tn g) aL.aa,())else sm (false,())) λl=>if if if dc c then true else dc f then true else if dc e then l.1 else false then sm (false,())else j (b.1,IntKind.i64.wrap (a+1),())else nn else nn else nn else nn else nn else i (b.1,())) (x.1,0,())) (λ(m:List aI×Unit)=>sm (dc ((ln m.1:Int)<=16),()))
def lF(k:Nat)(x:af×Unit):Option (Bool×Unit):=bi (pQ k (x.1.2.2.2.2.2.2.2.1,x.1.1.2.2.2.2.2,())) λr1=>bi (if(!r1.1)==false then tI k (x.1.2.2.2.2.2.2.2.2.2.1,())else sm (false,())) λr2=>if if !r1.1 then true else !r2.1 then sm (false,())else aO (λq=>aM k (λr (f:af×Int×Unit)=>let h:=f.1.2.2.2.2.2.2.2.2;if dc (f.2.1<ln h.2.1)then if dc (0<=f.2.1/\f.2.1<ln h.2.1)then if dc ((gd h.2.1 (tn f.2.1) aL.aa).2>=h.1)then sm (false,())else aM k (λs (e:af×Int×Int×Unit)=>let i:=e.1.2.2.2.2.2.2.2.2.2.1;if dc (e.2.2.1<e.2.1)then if dc (0<=e.2.2.1/\e.2.2.1<ln i)then if dc (0<=e.2.1/\e.2.1<ln i)then if(gd i (tn e.2.2.1) aL.aa).2==(gd i (tn e.2.1) aL.aa).2 then sm (false,())else s (e.1,e.2.1,IntKind.i64.wrap (e.2.2.1+1),())else nn else nn else r (e.1,IntKind.i64.wrap (e.2.1+1),())) (f.1,f.2.1,0,())else nn else q (f.1,())) (x.1,0,())) (λ(u:af×Unit)=>aM k (λt (a:af×Int×Unit)=>let g:=a.1.2.2.2.2.2.2.2;let n:=gd g.2.2.2.2.2.1 (tn (4:Int)) ah.aa;if dc (a.2.1<ln g.1)then if dc (0<=a.2.1/\a.2.1<ln g.1)then if dc (0<=(4:Int)/\(4:Int)<(ln g.2.2.2.2.2.1:Int))then if !(((n.1==6):Bool)==true)||(dc (0<=(4:Int)/\(4:Int)<(ln g.2.2.2.2.2.1:Int)))then aO (λj=>aM k (λl (b:af×Int×ar×Bool×Int×Unit)=>let d:=b.2.2;let o:=gd b.1.2.2.2.2.2.2.2.2.2.1 (tn d.2.2.1) aL.aa;let p:=(ln b.1.2.2.2.2.2.2.2.2.2.1:Int);let v:=(d.2.1==false)&&(((o.2==d.1.1):Bool)==true);if dc (d.2.2.1<p)then if !(d.2.1==false)||(dc (0<=d.2.2.1/\d.2.2.1<p))then if !v||(dc (0<=d.2.2.1/\d.2.2.1<p))then bi (if v then uP k (b.1.1,d.1,())else sm (0,())) λm=>l (b.1,b.2.1,d.1,if d.2.1 then true else if o.2==d.1.1 then o.1==m.1 else false,IntKind.i64.wrap (d.2.2.1+1),())else nn else nn else j (b.1,b.2.1,d.1,d.2.1,())) (a.1,a.2.1,gd g.1 (tn a.2.1) ak.aa,if n.1==6 then n.2.2.2.2.2.2.2.1==(gd g.1 (tn a.2.1) ak.aa).1 else false,0,())) (λ(c:af×Int×ar×Bool×Unit)=>if if if if !c.2.2.2.1 then true else dc (c.2.2.1.2.2.1>c.1.2.2.1)then true else dc (c.2.2.1.2.2.2.1>c.1.2.2.1)then true else dc (c.2.2.1.1>=c.1.2.2.2.2.2.2.2.2.1)then sm (false,())else t (c.1,IntKind.i64.wrap (c.2.1+1),()))else nn else nn else nn else sm (true,())) (u.1,0,()))
def lh(k:Nat)(x:af×Unit):Option (Bool×Unit):=let f:=x.1.2.2.2.2.2.2.2.2.1<0;let p:=((ln x.1.2.2.2.2.2.2.2.2.2.2.2.2.1:Int):Int);let g:=x.1.2.1<0;let q:=((ln x.1.2.2.2.2.1:Int):Int);bi (ph k (x.1.1,())) λr1=>bi (if((if if !r1.1 then true else dc g then true else dc f):Bool)==false then bP k (x.1.2.2.1,0,99899,())else sm (false,())) λr2=>bi (if((if if if !r1.1 then true else dc g then true else dc f then true else !r2.1):Bool)==false then qo k (x.1,())else sm (false,())) λr3=>bi (if((if if if if if if !r1.1 then true else dc g then true else dc f then true else !r2.1 then true else !r3.1 then true else q != x.1.1.2.2.1 then true else p != 5):Bool)==false then mc k (x.1.2.2.2.2.2.1,())else sm (false,())) λr4=>bi (if((if if if if if if if !r1.1 then true else dc g then true else dc f then true else !r2.1 then true else !r3.1 then true else q != x.1.1.2.2.1 then true else p != 5 then true else !r4.1):Bool)==false then mc k (x.1.2.2.2.2.2.2.2.2.2.2.2.1,())else sm (false,())) λr5=>if if if if if if if if if !r1.1 then true else dc g then true else dc f then true else !r2.1 then true else !r3.1 then true else q != x.1.1.2.2.1 then true else p != 5 then true else !r4.1 then true else !r5.1 then sm (false,())else aO (λs=>aM k (λt (c:af×Int×Unit)=>if dc (c.2.1<ln c.1.2.2.2.2.1)then if dc (0<=c.2.1/\c.2.1<ln c.1.2.2.2.2.1)then bi (vp k (gd c.1.2.2.2.2.1 (tn c.2.1) bj.aa,())) λr10=>if !r10.1 then sm (false,())else t (c.1,IntKind.i64.wrap (c.2.1+1),())else nn else s (c.1,())) (x.1,0,())) (λ(u:af×Unit)=>aO (λi=>aM k (λj (a:af×Int×Unit)=>let h:=a.1.2.2.2.2.2.2.2.2.2.2.2.2.2;let r:=(gd h (tn a.2.1) aw.aa).2.2.2.2.2.2.2.2.2;if dc (a.2.1<ln h)then if dc (0<=a.2.1/\a.2.1<ln h)then bi (tH k (gd h (tn a.2.1) aw.aa,())) λr15=>if if if if !r15.1 then true else dc (r.1>=a.1.2.1)then true else dc (r.2.1>=a.1.2.1)then true else dc (r.2.2>=a.1.2.1)then sm (false,())else j (a.1,IntKind.i64.wrap (a.2.1+1),())else nn else i (a.1,())) (u.1,0,())) (λ(o:af×Unit)=>aO (λl=>aM k (λm (b:af×Int×Unit)=>if dc (b.2.1<ln b.1.2.2.2.2.2.2.2.2.2.2.2.2.1)then bi (rn k (b.1,b.2.1,())) λr20=>if !r20.1 then sm (false,())else m (b.1,IntKind.i64.wrap (b.2.1+1),())else l (b.1,())) (o.1,0,())) (λ(e:af×Unit)=>bi (mN k (e.1,())) λd=>bi (if d.1==true then lF k (e.1,())else sm (false,())) λn=>sm (if d.1 then n.1 else false,()))))
def sT(k:Nat)(x:af×Int×Unit):Option (Bool×Unit):=let b:=(ln x.1.2.2.2.2.2.2.2.2.2.2.2.2.1:Int);bi (bP k (x.2.1,0,IntKind.i64.wrap (b-1),())) λa=>if !(a.1==true)||(dc (0<=x.2.1/\x.2.1<b))then sm (if a.1 then(gd x.1.2.2.2.2.2.2.2.2.2.2.2.2.1 (tn x.2.1) ah.aa).1==0 else false,())else nn
def wV(k:Nat)(x:af×Int×List ai×Unit):Option (af×Bool×Unit):=bi (fQ k (x.1,())) λa=>bi (lh k (x.1,())) λr2=>bi (if(!r2.1)==false then bP k (x.2.1,0,2,())else sm (false,())) λr3=>bi (if((if !r2.1 then true else !r3.1):Bool)==false then sT k (x.1,x.2.1,())else sm (false,())) λr4=>bi (if((if if !r2.1 then true else !r3.1 then true else !r4.1):Bool)==false then iQ k (x.2.2.1,())else sm (false,())) λr5=>if if if if !r2.1 then true else !r3.1 then true else !r4.1 then true else !r5.1 then sm (a.1,false,())else bi (eM k (a.1,x.2.1,((2:Int),0,(([]:List ai),0,0,ByteArray.empty),x.2.2.1,0,[],[],0,0),())) λb=>sm (b.1,true,())
def qh(k:Nat)(x:List Int×Unit):Option (af×Int×Unit):=bi (nP k (x.1,())) λb=>bi (lT k (x.1,50,())) λc=>bi (mb k (b.1,c.1,())) λa=>bi (aH k (a.2.1,5,())) λd=>sm (a.1,IntKind.i64.wrap (d.1-1),())
def sI(k:Nat)(x:af×Int×Unit):Option (Bool×af×Unit):=bi (jW k (x.1,x.2.1,((3:Int),0,(([]:List ai),0,0,ByteArray.empty),[],0,[],[],0,0),((4:Int),0,(([]:List ai),0,0,ByteArray.empty),[],0,0,0,[],0,0,0,0),())) λa=>sm (a.1,a.2.1,())
def xk(k:Nat)(x:af×Int×Unit):Option (af×Bool×Unit):=bi (cZ k (x.1,())) λa=>bi (fO k (x.1,())) λr2=>if(!r2.1)==false then bi (sI k (a.1,x.2.1,())) λb=>if if !r2.1 then true else !b.1 then bi (cZ k (x.1,())) λc=>sm (c.1,false,())else sm (b.2.1,true,())else if if !r2.1 then true else !false then bi (cZ k (x.1,())) λd=>sm (d.1,false,())else sm (a.1,true,())
def xb(k:Nat)(x:af×Int×Unit):Option (af×Bool×Unit):=bi (fQ k (x.1,())) λa=>bi (lh k (x.1,())) λr2=>bi (if(!r2.1)==false then bP k (x.2.1,0,2,())else sm (false,())) λr3=>bi (if((if !r2.1 then true else !r3.1):Bool)==false then sT k (x.1,x.2.1,())else sm (false,())) λr4=>if if if !r2.1 then true else !r3.1 then true else !r4.1 then sm (a.1,false,())else bi (eM k (a.1,x.2.1,((3:Int),0,(([]:List ai),0,0,ByteArray.empty),[],0,[],[],0,0),())) λb=>sm (b.1,true,())
def sn(k:Nat)(x:aD×af×List Int×Unit):Option (Int×aD×Unit):=bi (aH k (x.1,5,())) λd=>aO (λg=>aM k (λh (a:aD×List Int×af×Int×Int×Unit)=>let c:=(ln a.2.2.1.2.2.2.2.2.2.2.2.2.2.2.2.1:Int);let b:=a.2.2.2.1;if dc (a.2.2.2.2.1<5)then if !(dc (b<c)==true)||(dc (0<=b/\b<c))then bi (if dc (b<c)==true then lX k (a.2.1,(gd a.2.2.1.2.2.2.2.2.2.2.2.2.2.2.2.1 (tn b) ah.aa).1,())else sm (false,())) λi=>if if dc (b<c)then i.1 else false then sm (b,a.1,())else if dc ((5:Int)≠0)then h (a.1,a.2.1,a.2.2.1,Int.tmod (IntKind.i64.wrap (b+1)) (5:Int),IntKind.i64.wrap (a.2.2.2.2.1+1),())else nn else nn else g (a.1,a.2.2.1,b,())) (d.2.1,x.2.2.1,x.2.1,d.1,0,())) (λ(f:aD×af×Int×Unit)=>bi (bo k (f.1,([f.2.2.1,-1,(5:Int)]:List Int),())) λe=>sm (e.1,e.2.1,()))
def lM(k:Nat)(x:List Int×Unit):Option (af×Int×Unit):=bi (nP k (x.1,())) λb=>bi (lT k (x.1,70,())) λc=>bi (mb k (b.1,c.1,())) λa=>bi (sn k (a.2.1,a.1,([(2:Int),(3:Int)]:List Int),())) λd=>sm (a.1,d.1,())
def oF(k:Nat)(x:aA×Int×Unit):Option (Int×Unit):=bi (pd k (x.1,x.2.1,x.1.2.1==0,())) λa=>sm (a.1,())
def kE(k:Nat)(x:af×Int×Unit):Option (Bool×af×Unit):=let a:=x.1.2.2.2;let b:=a.2.2.2.2.2.2;let d:=(ln a.1:Int);let e:=gd b.2.2.2.1 (tn x.2.1) ah.aa;if dc (0<=x.2.1/\x.2.1<ln b.2.2.2.1)then bi (oF k (gd b.2.2.2.1 (tn x.2.1) ah.aa,d,())) λc=>let f:=gd a.1 (tn c.1) aj.aa;if dc (0<=c.1/\c.1<d)then if f.1 != -1 then sm (false,x.1,())else if dc (0<=c.1/\c.1<d)then if dc (0<=x.2.1/\x.2.1<ln b.2.2.2.1)then sm (true,(x.1.1,x.1.2.1,x.1.2.2.1,se a.1 (tn c.1) (x.2.1,f.2),a.2.1,a.2.2.1,a.2.2.2.1,a.2.2.2.2.1,a.2.2.2.2.2.1,b.1,b.2.1,b.2.2.1,se b.2.2.2.1 (tn x.2.1) (e.1,1,e.2.2),b.2.2.2.2),())else nn else nn else nn else nn
def jM(k:Nat)(x:af×Int×Int×Unit):Option (af×Unit):=let b:=x.1.2.2.2.2.2.2;let e:=b.2.2.2.2.2.2;let j:=(gd e.1 (tn x.2.1) ah.aa).2.2.2.2.2.2.2.2;let c:=tn j;let d:=gd e.2 c aw.aa;if dc (0<=x.2.1/\x.2.1<ln e.1)then if dc (0<=j/\j<ln e.2)then fu (se e.2 c (d.1,d.2.1,d.2.2.1,d.2.2.2.1,d.2.2.2.2.1,d.2.2.2.2.2.1,x.2.2.1,d.2.2.2.2.2.2.2)) λm=>let l:=gd m c aw.aa;let f:=l.2.2;let g:=f.2.2.2.2;fu (se m c (l.1,l.2.1,f.1,f.2.1,f.2.2.1,f.2.2.2.1,g.1,g.2.1,g.2.2.1,g.2.2.2.1,x.1.2.1,g.2.2.2.2.2)) λi=>let h:=(gd i c aw.aa).2;let a:=h.2.2.2;fu (se i c ((gd i c aw.aa).1,h.1,h.2.1,h.2.2.1,a.1,a.2.1,a.2.2.1,a.2.2.2.1,x.1.2.2.1,a.2.2.2.2.2)) λn=>sm ((x.1.1,x.1.2.1,x.1.2.2.1,x.1.2.2.2.1,x.1.2.2.2.2.1,x.1.2.2.2.2.2.1,b.1,b.2.1,b.2.2.1,b.2.2.2.1,b.2.2.2.2.1,b.2.2.2.2.2.1,e.1,n),())else nn else nn
def jr(k:Nat)(x:af×Int×Int×Unit):Option (af×Unit):=let n:=x.1.2.2.2.2.2.2.2.2.2.2.2.2;let m:=(gd n.1 (tn x.2.1) ah.aa).2.2.2.2.2.2.2;if dc (0<=x.2.1/\x.2.1<ln n.1)then aO (λp=>if dc (0<=m.2/\m.2<ln n.2)then if(gd n.2 (tn m.2) aw.aa).2.2.2.2.2.2.2.2.2.2.1== -1 then bi (jM k (x.1,x.2.1,x.2.2.1,())) λs=>p (s.1,x.2.1,m.2,())else p (x.1,x.2.1,m.2,())else nn) (λ(a:af×Int×Int×Unit)=>let e:=a.1.2.2.2;let f:=e.2.2.2.2;let g:=f.2.2.2.2;let i:=gd g.2.2 (tn a.2.2.1) aw.aa;let j:=i.2.2.2.2.2;if dc (0<=a.2.2.1/\a.2.2.1<ln g.2.2)then fu (se g.2.2 (tn a.2.2.1) (i.1,i.2.1,i.2.2.1,i.2.2.2.1,i.2.2.2.2.1,j.1,j.2.1,j.2.2.1,j.2.2.2.1,j.2.2.2.2.1,j.2.2.2.2.2.1,a.1.2.1)) λq=>aO (λr=>if dc (0<=a.2.1/\a.2.1<ln g.2.1)then bi (lK k (gd g.2.1 (tn a.2.1) ah.aa,(ln e.1:Int),())) λl=>if dc (l.1>=0)then if dc (0<=l.1/\l.1<ln e.1)then r ((a.1.1,a.1.2.1,a.1.2.2.1,se e.1 (tn l.1) ((-1:Int),(gd e.1 (tn l.1) aj.aa).2),e.2.1,e.2.2.1,e.2.2.2.1,f.1,f.2.1,f.2.2.1,f.2.2.2.1,g.1,g.2.1,q),a.2.1,())else nn else r ((a.1.1,a.1.2.1,a.1.2.2.1,e.1,e.2.1,e.2.2.1,e.2.2.2.1,f.1,f.2.1,f.2.2.1,f.2.2.2.1,g.1,g.2.1,q),a.2.1,())else nn) (λ(d:af×Int×Unit)=>let b:=d.1.2.2.2;let h:=b.2.2.2.2;let c:=h.2.2.2.2;let o:=(ln c.2.1:Int);if dc (0<=d.2.1/\d.2.1<o)then bi (jT k (gd c.2.1 (tn d.2.1) ah.aa,())) λt=>if t.1 then if dc (0<=d.2.1/\d.2.1<o)then sm ((d.1.1,d.1.2.1,d.1.2.2.1,b.1,b.2.1,b.2.2.1,-1,h.1,h.2.1,h.2.2.1,h.2.2.2.1,c.1,se c.2.1 (tn d.2.1) (0,0,(([]:List ai),0,0,ByteArray.empty),[],0,[],[],0,0),c.2.2),())else nn else if dc (0<=d.2.1/\d.2.1<o)then sm ((d.1.1,d.1.2.1,d.1.2.2.1,b.1,b.2.1,b.2.2.1,b.2.2.2.1,h.1,h.2.1,h.2.2.1,h.2.2.2.1,c.1,se c.2.1 (tn d.2.1) (0,0,(([]:List ai),0,0,ByteArray.empty),[],0,[],[],0,0),c.2.2),())else nn else nn)else nn)else nn
def kJ(k:Nat)(x:af×Int×Unit):Option (Bool×af×Unit):=let a:=x.1.2.2.2;let c:=a.2.2.2.2.2;let b:=c.2.2.2.2;let g:=(gd b.1 (tn x.2.1) ah.aa).2;let e:=g.2.2.2.2.2.2.2;let f:=gd b.2 (tn e) aw.aa;let d:=f.2.2.2;if dc (0<=x.2.1/\x.2.1<ln b.1)then if g.1==0 then bi (kE k (x.1,x.2.1,())) λh=>sm (h.1,h.2.1,())else bi (jq k (a.1,g.2.2.1,())) λi=>if i.2.1 then if dc (0<=e/\e<ln b.2)then fu (se b.2 (tn e) (f.1,f.2.1,f.2.2.1,d.1,d.2.1,d.2.2.1,d.2.2.2.1,([i.1]:List ae),d.2.2.2.2.2)) λj=>bi (jr k ((x.1.1,x.1.2.1,x.1.2.2.1,a.1,a.2.1,a.2.2.1,a.2.2.2.1,a.2.2.2.2.1,c.1,c.2.1,c.2.2.1,c.2.2.2.1,b.1,j),x.2.1,5,())) λl=>sm (true,l.1,())else nn else bi (jr k (x.1,x.2.1,6,())) λm=>sm (true,m.1,())else nn
def lL(k:Nat)(x:af×Int×Unit):Option (af×Unit):=let b:=x.1.2.2.2;let a:=b.2.2.2.2;let d:=tn x.2.1;let e:=gd a.2.2.2.2.2.1 d ah.aa;let c:=e.2.2.2.2;if dc (0<=x.2.1/\x.2.1<ln a.2.2.2.2.2.1)then if dc (0<=c.1/\c.1<ln b.1)then fu (se a.2.2.2.2.2.1 d (e.1,e.2.1,e.2.2.1,e.2.2.2.1,IntKind.i64.wrap (c.1+1),c.2)) λf=>sm ((x.1.1,x.1.2.1,x.1.2.2.1,se b.1 (tn c.1) ((-1:Int),(gd b.1 (tn c.1) aj.aa).2),b.2.1,b.2.2.1,b.2.2.2.1,a.1,a.2.1,a.2.2.1,a.2.2.2.1,a.2.2.2.2.1,se f d ((gd f d ah.aa).1,0,(gd f d ah.aa).2.2),a.2.2.2.2.2.2),())else nn else nn
def jH(k:Nat)(x:af×aA×Unit):Option (Bool×Unit):=aM k (λc (a:af×aA×List Int×Int×Int×Unit)=>let b:=a.2.2.2.2.1;if dc (b<a.2.2.2.1)then if dc (0<=b/\b<ln a.2.2.1)then if dc (0<=b/\b<ln a.1.2.2.2.1)then if(gd a.1.2.2.2.1 (tn b) aj.aa).2.1 != (gd a.2.2.1 (tn b) 0)then sm (false,())else c (a.1,a.2.1,a.2.2.1,a.2.2.2.1,IntKind.i64.wrap (b+1),())else nn else nn else sm (true,())) (x.1,x.2.1,x.2.1.2.2.2.2.2.1,(ln x.2.1.2.2.2.2.2.1:Int),0,())
def fY(k:Nat)(x:af×Int×Unit):Option (Bool×af×Unit):=let f:=tn x.2.1;let b:=x.1.2.2.2;let g:=b.2.2.2.2.2;let a:=g.2.2.2.2;let m:=gd a.1 f ah.aa;let l:=m.2.2.2.2;let q:=(gd b.1 (tn l.1) aj.aa).2;let C:=se a.1 f (m.1,m.2.1,m.2.2.1,m.2.2.2.1,l.1,l.2.1++([q.1]:List Int),l.2.2);let r:=gd C f ah.aa;let n:=l.2.2.2.2;let v:=gd a.2 (tn n) aw.aa;let s:=se a.1 f (m.1,0,m.2.2);let t:=gd s f ah.aa;let i:=r.2.2.2.2;let j:=v.2.2.2;if dc (0<=x.2.1/\x.2.1<ln a.1)then if m.2.1==0 then bi (kE k (x.1,x.2.1,())) λy=>sm (y.1,y.2.1,())else if m.2.1==1 then if dc (0<=l.1/\l.1<ln b.1)then if dc (ln l.2.1+ln [q.1]<4294967296)then if dc ((x.2.1:Int)=x.2.1)then bi (kk k (gd b.1 (tn l.1) aj.aa,())) λz=>if dc (ln i.2.2.1+ln z.1<4294967296)then if dc ((x.2.1:Int)=x.2.1)then bi (lL k ((x.1.1,x.1.2.1,x.1.2.2.1,b.1,b.2.1,b.2.2.1,b.2.2.2.1,b.2.2.2.2.1,g.1,g.2.1,g.2.2.1,g.2.2.2.1,se C f (r.1,r.2.1,r.2.2.1,r.2.2.2.1,i.1,i.2.1,i.2.2.1++z.1,i.2.2.2),a.2),x.2.1,())) λp=>let c:=p.1.2.2.2;let d:=c.2.2.2.2.2;let o:=gd d.2.2.2.2.1 f ah.aa;if o.2.2.2.2.1==ln c.1 then sm (true,(p.1.1,p.1.2.1,p.1.2.2.1,c.1,c.2.1,c.2.2.1,c.2.2.2.1,c.2.2.2.2.1,d.1,d.2.1,d.2.2.1,d.2.2.2.1,se d.2.2.2.2.1 f (o.1,2,o.2.2),d.2.2.2.2.2),())else sm (true,p.1,())else nn else nn else nn else nn else nn else bi (jH k (x.1,gd a.1 f ah.aa,())) λr4=>if !r4.1 then fu (se s f (t.1,t.2.1,t.2.2.1,t.2.2.2.1,0,t.2.2.2.2.2)) λB=>let h:=gd B f ah.aa;let u:=se B f (h.1,h.2.1,h.2.2.1,h.2.2.2.1,h.2.2.2.2.1,[],h.2.2.2.2.2.2);let e:=gd u f ah.aa;fu (se u f (e.1,e.2.1,e.2.2.1,e.2.2.2.1,e.2.2.2.2.1,e.2.2.2.2.2.1,[],e.2.2.2.2.2.2.2)) λF=>sm (true,(x.1.1,x.1.2.1,x.1.2.2.1,b.1,b.2.1,b.2.2.1,b.2.2.2.1,b.2.2.2.2.1,g.1,g.2.1,g.2.2.1,g.2.2.2.1,F,a.2),())else bi (dE k (l.2.2.1,())) λG=>bi (iI k (G.1,())) λH=>if dc (0<=n/\n<ln a.2)then fu (se a.2 (tn n) (v.1,v.2.1,v.2.2.1,j.1,j.2.1,j.2.2.1,j.2.2.2.1,H.1,j.2.2.2.2.2)) λI=>bi (jr k ((x.1.1,x.1.2.1,x.1.2.2.1,b.1,b.2.1,b.2.2.1,b.2.2.2.1,b.2.2.2.2.1,g.1,g.2.1,g.2.2.1,g.2.2.2.1,a.1,I),x.2.1,8,())) λw=>sm (true,w.1,())else nn else nn
def fm(k:Nat)(x:af×Int×Unit):Option (Bool×af×Unit):=let e:=((gd x.1.2.2.2.2.2.2.2.2.2.2.2.2.1 (tn x.2.1) ah.aa).1:Int);aO (λb=>if dc (0<=x.2.1/\x.2.1<ln x.1.2.2.2.2.2.2.2.2.2.2.2.2.1)then if e==2 then bi (kJ k (x.1,x.2.1,())) λc=>b (c.2.1,c.1,())else if e==3 then bi (fY k (x.1,x.2.1,())) λd=>b (d.2.1,d.1,())else b (x.1,false,())else nn) (λ(a:af×Bool×Unit)=>if a.2.1 then sm (a.2.1,(a.1.1,IntKind.i64.wrap (a.1.2.1+1),a.1.2.2),())else sm (a.2.1,a.1,()))
def pP(k:Nat)(x:af×Int×Unit):Option (af×Bool×Unit):=bi (cZ k (x.1,())) λa=>bi (fO k (x.1,())) λr2=>bi (if(!r2.1)==false then cq k (x.2.1,0,4,())else sm (false,())) λr3=>if((if !r2.1 then true else !r3.1):Bool)==false then bi (fm k (a.1,x.2.1,())) λb=>if if if !r2.1 then true else !r3.1 then true else !b.1 then bi (cZ k (x.1,())) λc=>sm (c.1,false,())else sm (b.2.1,true,())else if if if !r2.1 then true else !r3.1 then true else !false then bi (cZ k (x.1,())) λd=>sm (d.1,false,())else sm (a.1,true,())
def qa(k:Nat)(x:af×Int×Unit):Option (af×Bool×Unit):=let a:=((gd x.1.2.2.2.2.2.2.2.2.2.2.2.2.1 (tn x.2.1) ah.aa).1:Int);let d:=(ln x.1.2.2.2.2.2.2.2.2.2.2.2.2.1:Int);let b:=a != 2;bi (fQ k (x.1,())) λc=>bi (lh k (x.1,())) λr2=>bi (if(!r2.1)==false then bP k (x.2.1,0,2,())else sm (false,())) λr3=>if !(((if !r2.1 then true else !r3.1):Bool)==false)||(dc (0<=x.2.1/\x.2.1<d))then if !((((if !r2.1 then true else !r3.1):Bool)==false)&&(b==true))||(dc (0<=x.2.1/\x.2.1<d))then if((if if !r2.1 then true else !r3.1 then true else if b then a != 3 else false):Bool)==false then bi (jv k (c.1,x.2.1,())) λe=>if if if if !r2.1 then true else !r3.1 then true else if b then a != 3 else false then true else !e.1 then bi (fQ k (x.1,())) λf=>sm (f.1,false,())else sm (e.2.1,true,())else if if if if !r2.1 then true else !r3.1 then true else if b then a != 3 else false then true else !false then bi (fQ k (x.1,())) λg=>sm (g.1,false,())else sm (c.1,true,())else nn else nn
def oC(k:Nat)(x:List ByteArray×List ByteArray×Unit):Option (Bool×Unit):=if(ln x.1:Int) != (ln x.2.1:Int)then sm (false,())else aM k (λc (a:List ByteArray×List ByteArray×Int×Int×Unit)=>let b:=a.2.2.2.1;if dc (b<a.2.2.1)then if dc (0<=b/\b<ln a.1)then if dc (0<=b/\b<ln a.2.1)then if !(ByteArray.toList (gd a.1 (tn b) ByteArray.empty)==ByteArray.toList (gd a.2.1 (tn b) ByteArray.empty))then sm (false,())else c (a.1,a.2.1,a.2.2.1,IntKind.i64.wrap (b+1),())else nn else nn else sm (true,())) (x.1,x.2.1,(ln x.1:Int),0,())
def pS(k:Nat)(x:bw×bw×Unit):Option (Bool×Unit):=let a:=x.2.1.2.2;bi (if((if if if if x.1.1==x.2.1.1 then x.1.2.1==x.2.1.2.1 else false then x.1.2.2.1==a.1 else false then x.1.2.2.2.1==a.2.1 else false then x.1.2.2.2.2.1==a.2.2.1 else false):Bool)==true then oC k (x.1.2.2.2.2.2,a.2.2.2,())else sm (false,())) λb=>sm (if if if if if x.1.1==x.2.1.1 then x.1.2.1==x.2.1.2.1 else false then x.1.2.2.1==a.1 else false then x.1.2.2.2.1==a.2.1 else false then x.1.2.2.2.2.1==a.2.2.1 else false then b.1 else false,())
def oT(k:Nat)(x:aR×aR×Unit):Option (Bool×Unit):=bi (if((x.1.1==x.2.1.1):Bool)==true then dT k (x.1.2,x.2.1.2,())else sm (false,())) λa=>sm (if x.1.1==x.2.1.1 then a.1 else false,())
def qp(k:Nat)(x:aq×aq×Unit):Option (Bool×Unit):=if if if x.1.1 != x.2.1.1 then true else x.1.2.1 != x.2.1.2.1 then true else(ln x.1.2.2:Int) != (ln x.2.1.2.2:Int)then sm (false,())else aM k (λc (a:aq×aq×Int×Int×Unit)=>let b:=a.2.2.2.1;if dc (b<a.2.2.1)then if dc (0<=b/\b<ln a.1.2.2)then if dc (0<=b/\b<ln a.2.1.2.2)then bi (oT k (gd a.1.2.2 (tn b) az.aa,gd a.2.1.2.2 (tn b) az.aa,())) λr3=>if !r3.1 then sm (false,())else c (a.1,a.2.1,a.2.2.1,IntKind.i64.wrap (b+1),())else nn else nn else sm (true,())) (x.1,x.2.1,(ln x.1.2.2:Int),0,())
def lJ(k:Nat)(x:List aq×List aq×Unit):Option (Bool×Unit):=if(ln x.1:Int) != (ln x.2.1:Int)then sm (false,())else aM k (λc (a:List aq×List aq×Int×Unit)=>let b:=a.2.2.1;if dc (b<ln a.1)then if dc (0<=b/\b<ln a.1)then if dc (0<=b/\b<ln a.2.1)then bi (qp k (gd a.1 (tn b) aj.aa,gd a.2.1 (tn b) aj.aa,())) λr3=>if !r3.1 then sm (false,())else c (a.1,a.2.1,IntKind.i64.wrap (b+1),())else nn else nn else sm (true,())) (x.1,x.2.1,0,())
def rM(k:Nat)(x:bp×bp×Unit):Option (Bool×Unit):=bi (if((x.1.2==x.2.1.2):Bool)==true then dT k (x.1.1,x.2.1.1,())else sm (false,())) λa=>sm (if x.1.2==x.2.1.2 then a.1 else false,())
def qi(k:Nat)(x:List bp×List bp×Unit):Option (Bool×Unit):=if(ln x.1:Int) != (ln x.2.1:Int)then sm (false,())else aM k (λc (a:List bp×List bp×Int×Unit)=>let b:=a.2.2.1;if dc (b<ln a.1)then if dc (0<=b/\b<ln a.1)then if dc (0<=b/\b<ln a.2.1)then bi (rM k (gd a.1 (tn b) bj.aa,gd a.2.1 (tn b) bj.aa,())) λr3=>if !r3.1 then sm (false,())else c (a.1,a.2.1,IntKind.i64.wrap (b+1),())else nn else nn else sm (true,())) (x.1,x.2.1,0,())
def fV(k:Nat)(x:List ae×List ae×Unit):Option (Bool×Unit):=if(ln x.1:Int) != (ln x.2.1:Int)then sm (false,())else aM k (λc (a:List ae×List ae×Int×Unit)=>let b:=a.2.2.1;if dc (b<ln a.1)then if dc (0<=b/\b<ln a.1)then if dc (0<=b/\b<ln a.2.1)then bi (cR k (gd a.1 (tn b) ab.aa,gd a.2.1 (tn b) ab.aa,())) λr3=>if !r3.1 then sm (false,())else c (a.1,a.2.1,IntKind.i64.wrap (b+1),())else nn else nn else sm (true,())) (x.1,x.2.1,0,())
def oy(k:Nat)(x:ar×ar×Unit):Option (Bool×Unit):=let a:=x.1.1==x.2.1.1;bi (if a==true then cT k (x.1.2.1,x.2.1.2.1,())else sm (false,())) λb=>bi (if((if if if a then b.1 else false then x.1.2.2.1==x.2.1.2.2.1 else false then x.1.2.2.2.1==x.2.1.2.2.2.1 else false):Bool)==true then dT k (x.1.2.2.2.2,x.2.1.2.2.2.2,())else sm (false,())) λc=>sm (if if if if a then b.1 else false then x.1.2.2.1==x.2.1.2.2.1 else false then x.1.2.2.2.1==x.2.1.2.2.2.1 else false then c.1 else false,())
def nr(k:Nat)(x:List ar×List ar×Unit):Option (Bool×Unit):=if(ln x.1:Int) != (ln x.2.1:Int)then sm (false,())else aM k (λc (a:List ar×List ar×Int×Unit)=>let b:=a.2.2.1;if dc (b<ln a.1)then if dc (0<=b/\b<ln a.1)then if dc (0<=b/\b<ln a.2.1)then bi (oy k (gd a.1 (tn b) ak.aa,gd a.2.1 (tn b) ak.aa,())) λr3=>if !r3.1 then sm (false,())else c (a.1,a.2.1,IntKind.i64.wrap (b+1),())else nn else nn else sm (true,())) (x.1,x.2.1,0,())
def qc(k:Nat)(x:List aI×List aI×Unit):Option (Bool×Unit):=if(ln x.1:Int) != (ln x.2.1:Int)then sm (false,())else aM k (λc (a:List aI×List aI×Int×Unit)=>let b:=a.2.2.1;if dc (b<ln a.1)then if dc (0<=b/\b<ln a.1)then if dc (0<=b/\b<ln a.2.1)then if !(eqv aL (gd a.1 (tn b) aL.aa) (gd a.2.1 (tn b) aL.aa))then sm (false,())else c (a.1,a.2.1,IntKind.i64.wrap (b+1),())else nn else nn else sm (true,())) (x.1,x.2.1,0,())
def ow(k:Nat)(x:bE×bE×Unit):Option (Bool×Unit):=let a:=x.1.1==x.2.1.1;bi (if a==true then cT k (x.1.2.1,x.2.1.2.1,())else sm (false,())) λb=>bi (if((if if a then b.1 else false then x.1.2.2.1==x.2.1.2.2.1 else false):Bool)==true then dT k (x.1.2.2.2,x.2.1.2.2.2,())else sm (false,())) λc=>sm (if if if a then b.1 else false then x.1.2.2.1==x.2.1.2.2.1 else false then c.1 else false,())
def qq(k:Nat)(x:List bE×List bE×Unit):Option (Bool×Unit):=if(ln x.1:Int) != (ln x.2.1:Int)then sm (false,())else aM k (λc (a:List bE×List bE×Int×Unit)=>let b:=a.2.2.1;if dc (b<ln a.1)then if dc (0<=b/\b<ln a.1)then if dc (0<=b/\b<ln a.2.1)then bi (ow k (gd a.1 (tn b) cJ.aa,gd a.2.1 (tn b) cJ.aa,())) λr3=>if !r3.1 then sm (false,())else c (a.1,a.2.1,IntKind.i64.wrap (b+1),())else nn else nn else sm (true,())) (x.1,x.2.1,0,())
def ml(k:Nat)(x:List Int×List Int×Unit):Option (Bool×Unit):=if(ln x.1:Int) != (ln x.2.1:Int)then sm (false,())else aM k (λc (a:List Int×List Int×Int×Unit)=>let b:=a.2.2.1;if dc (b<ln a.1)then if dc (0<=b/\b<ln a.1)then if dc (0<=b/\b<ln a.2.1)then if((gd a.1 (tn b) 0):Int) != (gd a.2.1 (tn b) 0)then sm (false,())else c (a.1,a.2.1,IntKind.i64.wrap (b+1),())else nn else nn else sm (true,())) (x.1,x.2.1,0,())
def oJ(k:Nat)(x:List aA×List aA×Unit):Option (Bool×Unit):=if(ln x.1:Int) != (ln x.2.1:Int)then sm (false,())else aM k (λi (b:List aA×List aA×Int×Unit)=>let c:=b.2.2.1;let a:=gd b.2.1 (tn c) ah.aa;let f:=gd b.1 (tn c) ah.aa;let g:=f.1 != (a.1);let d:=f.2.2.2.2;let e:=a.2.2.2.2;let h:=(f.2.1:Int);if dc (c<ln b.1)then if dc (0<=c/\c<ln b.1)then if dc (0<=c/\c<ln b.2.1)then bi (if((if g then true else h != a.2.1):Bool)==false then cR k (f.2.2.1,a.2.2.1,())else sm (false,())) λr3=>bi (if((if if g then true else h != a.2.1 then true else !r3.1):Bool)==false then cT k (f.2.2.2.1,a.2.2.2.1,())else sm (false,())) λr4=>bi (if((if if if if g then true else h != a.2.1 then true else !r3.1 then true else !r4.1 then true else d.1 != e.1):Bool)==false then ml k (d.2.1,e.2.1,())else sm (false,())) λr5=>bi (if((if if if if if g then true else h != a.2.1 then true else !r3.1 then true else !r4.1 then true else d.1 != e.1 then true else !r5.1):Bool)==false then fV k (d.2.2.1,e.2.2.1,())else sm (false,())) λr6=>if if if if if if if if if g then true else h != a.2.1 then true else !r3.1 then true else !r4.1 then true else d.1 != e.1 then true else !r5.1 then true else !r6.1 then true else d.2.2.2.1 != e.2.2.2.1 then true else d.2.2.2.2 != e.2.2.2.2 then sm (false,())else i (b.1,b.2.1,IntKind.i64.wrap (c+1),())else nn else nn else sm (true,())) (x.1,x.2.1,0,())
def pY(k:Nat)(x:ay×ay×Unit):Option (Bool×Unit):=let a:=x.2.1.2.2.2.2;let b:=x.1.2.2.2.2;let c:=x.1.1==x.2.1.1;bi (if((if c then x.1.2.1==x.2.1.2.1 else false):Bool)==true then cR k (x.1.2.2.1,x.2.1.2.2.1,())else sm (false,())) λd=>bi (if((if if c then x.1.2.1==x.2.1.2.1 else false then d.1 else false):Bool)==true then cT k (x.1.2.2.2.1,x.2.1.2.2.2.1,())else sm (false,())) λe=>bi (if((if if if if if if c then x.1.2.1==x.2.1.2.1 else false then d.1 else false then e.1 else false then b.1==a.1 else false then b.2.1==a.2.1 else false then b.2.2.1==a.2.2.1 else false):Bool)==true then dT k (b.2.2.2.1,a.2.2.2.1,())else sm (false,())) λf=>sm (if if if if if if if if if if if c then x.1.2.1==x.2.1.2.1 else false then d.1 else false then e.1 else false then b.1==a.1 else false then b.2.1==a.2.1 else false then b.2.2.1==a.2.2.1 else false then f.1 else false then b.2.2.2.2.1==a.2.2.2.2.1 else false then b.2.2.2.2.2.1==a.2.2.2.2.2.1 else false then b.2.2.2.2.2.2.1==a.2.2.2.2.2.2.1 else false then b.2.2.2.2.2.2.2==a.2.2.2.2.2.2.2 else false,())
def ou(k:Nat)(x:List ay×List ay×Unit):Option (Bool×Unit):=if(ln x.1:Int) != (ln x.2.1:Int)then sm (false,())else aM k (λc (a:List ay×List ay×Int×Unit)=>let b:=a.2.2.1;if dc (b<ln a.1)then if dc (0<=b/\b<ln a.1)then if dc (0<=b/\b<ln a.2.1)then bi (pY k (gd a.1 (tn b) aw.aa,gd a.2.1 (tn b) aw.aa,())) λr3=>if !r3.1 then sm (false,())else c (a.1,a.2.1,IntKind.i64.wrap (b+1),())else nn else nn else sm (true,())) (x.1,x.2.1,0,())
def ik(k:Nat)(x:af×af×Unit):Option (Bool×Unit):=let a:=x.2.1.2;let h:=a.2.2.2.2.2;let b:=x.1.2.2.2.2.2.2;let e:=(x.1.2.2.1:Int);let f:=(x.1.2.1:Int);let m:=(b.2.2.1:Int);let c:=h.2.2;bi (pS k (x.1.1,x.2.1.1,())) λd=>bi (if((if if d.1 then f==a.1 else false then e==a.2.1 else false):Bool)==true then lJ k (x.1.2.2.2.1,a.2.2.1,())else sm (false,())) λg=>bi (if((if if if d.1 then f==a.1 else false then e==a.2.1 else false then g.1 else false):Bool)==true then qi k (x.1.2.2.2.2.1,a.2.2.2.1,())else sm (false,())) λi=>bi (if((if if if if d.1 then f==a.1 else false then e==a.2.1 else false then g.1 else false then i.1 else false):Bool)==true then fV k (x.1.2.2.2.2.2.1,a.2.2.2.2.1,())else sm (false,())) λj=>bi (if((if if if if if if d.1 then f==a.1 else false then e==a.2.1 else false then g.1 else false then i.1 else false then j.1 else false then b.1==h.1 else false):Bool)==true then nr k (b.2.1,h.2.1,())else sm (false,())) λl=>bi (if((if if if if if if if if d.1 then f==a.1 else false then e==a.2.1 else false then g.1 else false then i.1 else false then j.1 else false then b.1==h.1 else false then l.1 else false then m==c.1 else false):Bool)==true then qc k (b.2.2.2.1,c.2.1,())else sm (false,())) λn=>bi (if((if if if if if if if if if d.1 then f==a.1 else false then e==a.2.1 else false then g.1 else false then i.1 else false then j.1 else false then b.1==h.1 else false then l.1 else false then m==c.1 else false then n.1 else false):Bool)==true then qq k (b.2.2.2.2.1,c.2.2.1,())else sm (false,())) λo=>bi (if((if if if if if if if if if if d.1 then f==a.1 else false then e==a.2.1 else false then g.1 else false then i.1 else false then j.1 else false then b.1==h.1 else false then l.1 else false then m==c.1 else false then n.1 else false then o.1 else false):Bool)==true then fV k (b.2.2.2.2.2.1,c.2.2.2.1,())else sm (false,())) λp=>bi (if((if if if if if if if if if if if d.1 then f==a.1 else false then e==a.2.1 else false then g.1 else false then i.1 else false then j.1 else false then b.1==h.1 else false then l.1 else false then m==c.1 else false then n.1 else false then o.1 else false then p.1 else false):Bool)==true then oJ k (b.2.2.2.2.2.2.1,c.2.2.2.2.1,())else sm (false,())) λr=>bi (if((if if if if if if if if if if if if d.1 then f==a.1 else false then e==a.2.1 else false then g.1 else false then i.1 else false then j.1 else false then b.1==h.1 else false then l.1 else false then m==c.1 else false then n.1 else false then o.1 else false then p.1 else false then r.1 else false):Bool)==true then ou k (b.2.2.2.2.2.2.2,c.2.2.2.2.2,())else sm (false,())) λq=>sm (if if if if if if if if if if if if if d.1 then f==a.1 else false then e==a.2.1 else false then g.1 else false then i.1 else false then j.1 else false then b.1==h.1 else false then l.1 else false then m==c.1 else false then n.1 else false then o.1 else false then p.1 else false then r.1 else false then q.1 else false,())
def nD(k:Nat)(x:List Int×Unit):Option (Bool×Unit):=bi (Fj k (x.1,())) λB=>if B.1 then sm (true,())else bi (qj k (x.1,())) λe=>bi (xl k (e.1,e.2.1,e.2.2.1,())) λf=>let s:=(f.2.1:Bool);bi (wV k (e.1,e.2.1,e.2.2.1,())) λw=>let v2:=s==w.2.1;bi (qh k (x.1,())) λj=>bi (xk k (j.1,j.2.1,())) λl=>let z:=(l.2.1:Bool);bi (xb k (j.1,j.2.1,())) λy=>let v4:=z==y.2.1;bi (lM k (x.1,())) λa=>let t:=gd a.1.2.2.2.2.2.2.2.2.2.2.2.2.1 (tn a.2.1) ah.aa;let u:=t.2.2.2.2.2.2.2.2;let C:=tn u;bi (pP k (a.1,a.2.1,())) λd=>let h:=(gd d.1.2.2.2.2.2.2.2.2.2.2.2.2.2 C aw.aa).2.2.2.2.2.2;let i:=((ln (h.2.1):Nat):Int);let v:=(d.2.1:Bool);let b:=(h.1:Int);bi (qa k (a.1,a.2.1,())) λg=>let v12:=v==g.2.1;bi (if(!v2)==false then ik k (f.1,w.1,())else sm (false,())) λr11=>bi (if((if if !v2 then true else !r11.1 then true else !v4):Bool)==false then ik k (l.1,y.1,())else sm (false,())) λr12=>bi (if((if if if if !v2 then true else !r11.1 then true else !v4 then true else !r12.1 then true else !v12):Bool)==false then ik k (d.1,g.1,())else sm (false,())) λr13=>bi (if(((if if if if if !v2 then true else !r11.1 then true else !v4 then true else !r12.1 then true else !v12 then true else !r13.1):Bool)==false)&&(s==true)then fO k (f.1,())else sm (false,())) λr14=>bi (if((((if if if if if !v2 then true else !r11.1 then true else !v4 then true else !r12.1 then true else !v12 then true else !r13.1):Bool)==false)&&(s==true))&&((!r14.1)==false)then lJ k (f.1.2.2.2.1,e.1.2.2.2.1,())else sm (false,())) λr15=>bi (if(((if if if if if if !v2 then true else !r11.1 then true else !v4 then true else !r12.1 then true else !v12 then true else !r13.1 then true else if f.2.1 then if !r14.1 then true else !r15.1 else false):Bool)==false)&&(z==true)then fO k (l.1,())else sm (false,())) λr16=>if if if if if if if if !v2 then true else !r11.1 then true else !v4 then true else !r12.1 then true else !v12 then true else !r13.1 then true else if f.2.1 then if !r14.1 then true else !r15.1 else false then true else if l.2.1 then !r16.1 else false then sm (false,())else if !d.2.1 then bi (ik k (d.1,a.1,())) λm=>sm (m.1,())else if dc (0<=a.2.1/\a.2.1<ln a.1.2.2.2.2.2.2.2.2.2.2.2.2.1)then if dc (0<=u/\u<ln d.1.2.2.2.2.2.2.2.2.2.2.2.2.2)then bi (fO k (d.1,())) λr18=>bi (if(!r18.1)==false then ig k (d.1.2.2.2.1,())else sm (([]:List ae),())) λn=>bi (if(!r18.1)==false then ig k (a.1.2.2.2.1,())else sm (([]:List ae),())) λo=>bi (if(!r18.1)==false then fV k (n.1,o.1,())else sm (false,())) λr21=>if if !r18.1 then true else !r21.1 then sm (false,())else bi (sM k (d.1,a.2.1,())) λr22=>if !r22.1 then sm (h.2.2.2.2.1== -1,())else if t.1==3 then bi (ig k (a.1.2.2.2.1,())) λp=>bi (fV k (h.2.1,p.1,())) λq=>sm (if q.1 then b==8 else false,())else bi (jq k (a.1.2.2.2.1,t.2.2.2.1,())) λc=>if !(((if if c.2.1 then b==5 else false then i==1 else false):Bool)==true)||(dc (0<=(0:Int)/\(0:Int)<i))then bi (if((if if c.2.1 then b==5 else false then i==1 else false):Bool)==true then cR k (gd (h.2.1) (tn (0:Int)) ab.aa,c.1,())else sm (false,())) λr=>sm (if if if if c.2.1 then b==5 else false then i==1 else false then r.1 else false then true else if if !c.2.1 then b==6 else false then i==0 else false,())else nn else nn else nn
end Vg.Tryz
namespace Go.Proofs
open Go.Shelf
def Tryz.Ko:Go.Shelf.Ren:=⟨λ|156=>318|165=>363|166=>364|169=>365|240=>380|241=>381|276=>388|277=>389|n=>n,λ|31=>24|9=>9|3=>3|4=>4|0=>0|20=>20|72=>271|76=>274|70=>269|37=>22|75=>273|127=>285|164=>220|5=>5|80=>276|n=>n,λ|n=>n⟩
theorem Tryz.aa2:Go.Proofs.Lays.n156 prog Tryz.Ko:={
 mixed:=by kernel_rfl
 f156:=func318.trans (congrArg some (by kernel_rfl))
 f165:=func363.trans (congrArg some (by kernel_rfl))
 f166:=func364.trans (congrArg some (by kernel_rfl))
 f169:=func365.trans (congrArg some (by kernel_rfl))
 f240:=func380.trans (congrArg some (by kernel_rfl))
 f241:=func381.trans (congrArg some (by kernel_rfl))
 f276:=func388.trans (congrArg some (by kernel_rfl))
 f277:=func389.trans (congrArg some (by kernel_rfl))
 t0:=Tryz.underlying0
 a0:=Tryz.isAgg0
 z0:=Tryz.sizeOf0
 v0:=Tryz.zeroValue0
 t3:=Tryz.underlying3
 a3:=Tryz.isAgg3
 z3:=Tryz.sizeOf3
 v3:=Tryz.zeroValue3
 t4:=Tryz.underlying4
 a4:=Tryz.isAgg4
 z4:=Tryz.sizeOf4
 v4:=Tryz.zeroValue4
 t9:=Tryz.underlying9
 a9:=Tryz.isAgg9
 z9:=Tryz.sizeOf9
 v9:=Tryz.zeroValue9
 t20:=Tryz.underlying20
 a20:=Tryz.isAgg20
 z20:=Tryz.sizeOf20
 v20:=Tryz.zeroValue20
 t31:=Tryz.underlying24
 a31:=Tryz.isAgg24
 z31:=Tryz.sizeOf24
 v31:=Tryz.zeroValue24
 t37:=Tryz.underlying22
 a37:=Tryz.isAgg22
 z37:=Tryz.sizeOf22
 v37:=Tryz.zeroValue22
 t70:=Tryz.underlying269
 a70:=Tryz.isAgg269
 z70:=Tryz.sizeOf269
 v70:=Tryz.zeroValue269
 t72:=Tryz.underlying271
 a72:=Tryz.isAgg271
 z72:=Tryz.sizeOf271
 v72:=Tryz.zeroValue271
 t75:=Tryz.underlying273
 a75:=Tryz.isAgg273
 z75:=Tryz.sizeOf273
 v75:=Tryz.zeroValue273
 t76:=Tryz.underlying274
 a76:=Tryz.isAgg274
 z76:=Tryz.sizeOf274
 v76:=Tryz.zeroValue274
 t127:=Tryz.underlying285
 a127:=Tryz.isAgg285
 z127:=Tryz.sizeOf285
 v127:=Tryz.zeroValue285
 t164:=Tryz.underlying220
 a164:=Tryz.isAgg220
 z164:=Tryz.sizeOf220
 v164:=Tryz.zeroValue220}
theorem Tryz.yo:Builder.Extra prog Tryz.Ko:={
 sizeBuilder:=by kernel_rfl
 liesBuilder:=by kernel_rfl
 t5:=Tryz.underlying5
 a5:=Tryz.isAgg5
 z5:=Tryz.sizeOf5
 v5:=Tryz.zeroValue5
 infoByte:=by kernel_rfl
 cellsByte:=by kernel_rfl
 sizeByte:=by kernel_rfl
 neB5:=by decide}
open Go.RowKit in
theorem Tryz.strings_Join_none(a:Option Addr)(c:Nat)(sep:ByteArray)(w:World):
 Calls prog 318 #[.slice a 0 c,.string sep] w λe w'=>e= .returned (.string ⟨#[]⟩)/\w'=w:=Any.strings_Join_none Tryz.aa2 Tryz.yo a c sep w
open Go.RowKit in
theorem Tryz.strings_Join(h o c:Nat)(xs:List ByteArray)(sep:ByteArray)(w:World)(a:∀(j:Nat) x,xs[j]?=some x->w.cell? ⟨h,o+j,none⟩=some (.string x))(l:h<w.heap.size)(p:xs.length<=140737488355328)(b:xs.length<=c)(hlen:(Lib.join (xs.map (·.data.toList)) sep.data.toList).length<=140737488355328):
 Calls prog 318 #[.slice (some ⟨h,o,none⟩) xs.length c,.string sep] w λe w'=>e= .returned (.string ⟨(Lib.join (xs.map (·.data.toList)) sep.data.toList).toArray⟩)/\Below w.heap.size w w':=Any.strings_Join Tryz.aa2 Tryz.yo h o c xs sep w a l p b hlen
end Go.Proofs
namespace Vg.Tryz
open Go Vg Go.Proofs
def Cw(k:Nat):wj:=⟨[.val (.sl .str) .shr,.val .str .leaf],[.val .str .leaf],wG k,[]⟩
set_option maxRecDepth 1000000 in
def TN(k:Nat):vd prog 318 (Cw k):=abJ func318 (by kernel_rfl) (by kernel_rfl) Tryz.strings_Join_none Tryz.strings_Join
end Vg.Tryz
namespace Go.Proofs
open Go.RowKit
def aaT:Value->Int| .int _ q=>q|_=>0
set_option maxHeartbeats 4000000 in
set_option maxRecDepth 100000 in
theorem Tryz.WE(pa pb:Option Addr)(ca cb:Nat)(a b:List (ByteArray×ByteArray))(W:World)(la:a.length<4611686018427387904)(lb:b.length<4611686018427387904)
 (ha:∀i,i<a.length->∃bk o,pa=some ⟨bk,o,none⟩/\W.cell? ⟨bk,o+i*2,none⟩=some (.string (a.getD i (ByteArray.empty,ByteArray.empty)).1)/\W.cell? ⟨bk,o+i*2+1,none⟩=some (.string (a.getD i (ByteArray.empty,ByteArray.empty)).2))
 (hb:∀i,i<b.length->∃bk o,pb=some ⟨bk,o,none⟩/\W.cell? ⟨bk,o+i*2,none⟩=some (.string (b.getD i (ByteArray.empty,ByteArray.empty)).1)/\W.cell? ⟨bk,o+i*2+1,none⟩=some (.string (b.getD i (ByteArray.empty,ByteArray.empty)).2)):
 Calls prog 240 #[.slice pa a.length ca,.slice pb b.length cb] W λe w'=>e= .returned (.bool (Vg.bN a b))/\∃q,w'=W.drewN q:=by
 go_enter func240,Tryz.ntmps240
 go_wp2
 go_loopw [5] (λvi wr=>∃(t q:Nat),vi= .int .i64 (t:Int)/\t<=a.length/\t<=b.length/\wr=W.drewN q/\Vg.bN a b=Vg.bN (a.drop t) (b.drop t)) (λvi _=>a.length+1-(aaT vi).toNat)
 case atStart=>exact⟨0,0,rfl,by omega,by omega,rfl,rfl⟩
 case round=>
  obtain⟨t,q,rfl,ht1,ht2,hw,hR⟩:=hrel;by_cases hin:t<a.length/\t<b.length
  ·obtain⟨hi1,hi2⟩:=hin;obtain⟨ba,oa,ea,a1,a2⟩:=ha t hi1;obtain⟨bb,ob,eb,b1,b2⟩:=hb t hi2;have c1:wr.cell? ⟨ba,oa+t*2,none⟩=some (.string (a.getD t (ByteArray.empty,ByteArray.empty)).1):=by rw[hw];exact a1
   have c2:wr.cell? ⟨ba,oa+t*2+1,none⟩=some (.string (a.getD t (ByteArray.empty,ByteArray.empty)).2):=by rw[hw];exact a2
   have c3:wr.cell? ⟨bb,ob+t*2,none⟩=some (.string (b.getD t (ByteArray.empty,ByteArray.empty)).1):=by rw[hw];exact b1
   have c4:wr.cell? ⟨bb,ob+t*2+1,none⟩=some (.string (b.getD t (ByteArray.empty,ByteArray.empty)).2):=by rw[hw];exact b2
   have hs:Vg.bN (a.drop t) (b.drop t)=if(a.getD t (ByteArray.empty,ByteArray.empty)).1.toList==(b.getD t (ByteArray.empty,ByteArray.empty)).1.toList then(if(a.getD t (ByteArray.empty,ByteArray.empty)).2.toList==(b.getD t (ByteArray.empty,ByteArray.empty)).2.toList then Vg.bN (a.drop (t+1)) (b.drop (t+1))else Vg.ny (a.getD t (ByteArray.empty,ByteArray.empty)).2 (b.getD t (ByteArray.empty,ByteArray.empty)).2)else Vg.ny (a.getD t (ByteArray.empty,ByteArray.empty)).1 (b.getD t (ByteArray.empty,ByteArray.empty)).1:=by
    rw[atA hi1,atA hi2];simp only[Vg.bN,List.getD_eq_getElem?_getD,atB hi1,atB hi2,Option.getD_some]
   generalize (a.getD t (ByteArray.empty,ByteArray.empty)).1=x1 at c1 hs;generalize (a.getD t (ByteArray.empty,ByteArray.empty)).2=x2 at c2 hs;generalize (b.getD t (ByteArray.empty,ByteArray.empty)).1=y1 at c3 hs;generalize (b.getD t (ByteArray.empty,ByteArray.empty)).2=y2 at c4 hs;subst ea eb;have HW:Hid (wr=W.drewN q):=hw;have HR:Hid (Vg.bN a b=Vg.bN (a.drop t) (b.drop t)):=hR;have HS:Hid (_=_):=hs;clear hw hR hs ha hb a1 a2 b1 b2
   go_wp2
   go_quiet (fail)
   go_wp2
   ·have hne:(!x1.toList==y1.toList)=true:=by assumption
    go_quiet (fail)
    go_wp2
    go_ret
    have hv:Vg.bN a b=Op.bytesLess x1.toList y1.toList:=by
     rw[HR.out,HS.out,a_ (by simpa using hne)];rfl
    refine⟨?_,_,by rw[HW.out,World.drewN_drewN,World.drewN_drewN]⟩;rw[hv];rfl
   ·have hne:(!x1.toList==y1.toList)=false:=by assumption
    go_quiet (fail)
    go_wp2
    ·have hne2:(!x2.toList==y2.toList)=true:=by assumption
     go_quiet (fail)
     go_wp2
     go_ret
     have hv:Vg.bN a b=Op.bytesLess x2.toList y2.toList:=by
      rw[HR.out,HS.out,an (by simpa using hne),a_ (by simpa using hne2)];rfl
     refine⟨?_,_,by rw[HW.out,World.drewN_drewN,World.drewN_drewN,World.drewN_drewN]⟩;rw[hv];rfl
    ·have hne2:(!x2.toList==y2.toList)=false:=by assumption
     refine⟨⟨t+1,_,by congr 1,by omega,by omega,by rw[HW.out,World.drewN_drewN],?_⟩,?_⟩
     ·rw[HR.out,HS.out,an (by simpa using hne),an (by simpa using hne2)]
     ·simp[aaT];omega
  ·have hv:Vg.bN a b=decide (a.length<b.length):=by
    rw[hR];by_cases h1:t<a.length
    ·have h2:t=b.length:=by omega
     subst h2;rw[atC,atA h1];simp only[Vg.bN];rw[decide_eq_false (by omega)]
    ·have h2:t=a.length:=by omega
     subst h2;rw[atC];cases hd:b.drop a.length with
     |nil=>
      have:=congrArg List.length hd;simp only[atD,List.length_nil]at this;simp only[Vg.bN,List.isEmpty_nil,Bool.not_true];rw[decide_eq_false (by omega)]
     |cons z zs=>
      have:=congrArg List.length hd;simp only[atD,List.length_cons]at this;simp only[Vg.bN,List.isEmpty_cons,Bool.not_false];rw[c_ (by omega)]
   have HW:Hid (wr=W.drewN q):=hw;have HV:Hid (_=_):=hv;clear hw hR hv ha hb;by_cases h1:t<a.length
   ·have h2:¬t<b.length:=λh=>hin ⟨h1,h⟩;clear hin
    go_wp2
    go_ret
    refine⟨?_,_,HW.out⟩;rw[HV.out];rfl
   ·clear hin
    go_wp2
    go_ret
    refine⟨?_,_,HW.out⟩;rw[HV.out];rfl
set_option maxHeartbeats 4000000 in
set_option maxRecDepth 100000 in
theorem Tryz.Wo(blk off c Bs n:Nat)(W:World)(i j:Nat)(hi:i<n)(hj:j<n)(hn:n<4611686018427387904)(va vb:Value)(r:Bool)
 (hs:W.cell? ⟨Bs,0,none⟩=some (.slice (some ⟨blk,off,none⟩) n c)) (hva:W.cell? ⟨blk,off+i*4,none⟩=some va) (hvb:W.cell? ⟨blk,off+j*4,none⟩=some vb)
 (hc:∀q,Calls prog 240 #[va,vb] (W.drewN q) λe w'=>e= .returned (.bool r)/\∃m,w'=(W.drewN q).drewN m):
 Calls prog 239 #[.int .i64 i,.int .i64 j,.pointer (some ⟨Bs,0,none⟩)] W λe w'=>e= .returned (.bool r)/\∃q,w'=W.drewN q:=by
 have HC:Hid (∀q,Calls prog 240 #[va,vb] (W.drewN q) λe w'=>e= .returned (.bool r)/\∃m,w'=(W.drewN q).drewN m):=hc;clear hc
 go_enter func239,Tryz.ntmps239
 go_wp2
 go_quiet (first|(go_at_call 240;refine Calls.quiet_of (HC.out _)))
 go_wp2
 go_ret
 trace_state
 exact⟨rfl,nq,rfl⟩
end Go.Proofs
namespace Go.Proofs
open Go.Shelf
def Tryz.aiE:Go.Shelf.Ren:=⟨λ|8=>148|13=>258|14=>259|16=>261|15=>260|29=>334|30=>335|42=>367|49=>384|n=>n,λ|20=>20|26=>147|36=>223|0=>0|38=>198|42=>228|3=>3|4=>4|47=>208|17=>17|33=>220|34=>221|89=>301|12=>12|56=>248|82=>295|5=>5|83=>296|84=>297|85=>285|86=>298|87=>299|n=>n,λ|n=>n⟩
theorem Tryz.gt8:Go.Proofs.LaysGt.n8 prog Tryz.aiE:={
 mixed:=by kernel_rfl
 f8:=func148.trans (congrArg some (by kernel_rfl))
 f13:=func258.trans (congrArg some (by kernel_rfl))
 f14:=func259.trans (congrArg some (by kernel_rfl))
 f15:=func260.trans (congrArg some (by kernel_rfl))
 f16:=func261.trans (congrArg some (by kernel_rfl))
 f29:=func334.trans (congrArg some (by kernel_rfl))
 f30:=func335.trans (congrArg some (by kernel_rfl))
 f42:=func367.trans (congrArg some (by kernel_rfl))
 f49:=func384.trans (congrArg some (by kernel_rfl))
 t0:=Tryz.underlying0
 a0:=Tryz.isAgg0
 z0:=Tryz.sizeOf0
 v0:=Tryz.zeroValue0
 i0:=by kernel_rfl
 t3:=Tryz.underlying3
 a3:=Tryz.isAgg3
 z3:=Tryz.sizeOf3
 v3:=Tryz.zeroValue3
 i3:=by kernel_rfl
 t4:=Tryz.underlying4
 a4:=Tryz.isAgg4
 z4:=Tryz.sizeOf4
 v4:=Tryz.zeroValue4
 i4:=by kernel_rfl
 t5:=Tryz.underlying5
 a5:=Tryz.isAgg5
 z5:=Tryz.sizeOf5
 v5:=Tryz.zeroValue5
 i5:=by kernel_rfl
 t12:=Tryz.underlying12
 a12:=Tryz.isAgg12
 z12:=Tryz.sizeOf12
 v12:=Tryz.zeroValue12
 i12:=by kernel_rfl
 t17:=Tryz.underlying17
 a17:=Tryz.isAgg17
 z17:=Tryz.sizeOf17
 v17:=Tryz.zeroValue17
 i17:=by kernel_rfl
 t20:=Tryz.underlying20
 a20:=Tryz.isAgg20
 z20:=Tryz.sizeOf20
 v20:=Tryz.zeroValue20
 i20:=by kernel_rfl
 t26:=Tryz.underlying147
 a26:=Tryz.isAgg147
 z26:=Tryz.sizeOf147
 v26:=Tryz.zeroValue147
 i26:=by kernel_rfl
 t33:=Tryz.underlying220
 a33:=Tryz.isAgg220
 z33:=Tryz.sizeOf220
 v33:=Tryz.zeroValue220
 i33:=by kernel_rfl
 t34:=Tryz.underlying221
 a34:=Tryz.isAgg221
 z34:=Tryz.sizeOf221
 v34:=Tryz.zeroValue221
 i34:=by kernel_rfl
 t36:=Tryz.underlying223
 a36:=Tryz.isAgg223
 z36:=Tryz.sizeOf223
 v36:=Tryz.zeroValue223
 i36:=by kernel_rfl
 t38:=Tryz.underlying198
 a38:=Tryz.isAgg198
 z38:=Tryz.sizeOf198
 v38:=Tryz.zeroValue198
 i38:=by kernel_rfl
 t42:=Tryz.underlying228
 a42:=Tryz.isAgg228
 z42:=Tryz.sizeOf228
 v42:=Tryz.zeroValue228
 i42:=by kernel_rfl
 t47:=Tryz.underlying208
 a47:=Tryz.isAgg208
 z47:=Tryz.sizeOf208
 v47:=Tryz.zeroValue208
 i47:=by kernel_rfl
 t56:=Tryz.underlying248
 a56:=Tryz.isAgg248
 z56:=Tryz.sizeOf248
 v56:=Tryz.zeroValue248
 i56:=by kernel_rfl
 t82:=Tryz.underlying295
 a82:=Tryz.isAgg295
 z82:=Tryz.sizeOf295
 v82:=Tryz.zeroValue295
 i82:=by kernel_rfl
 t83:=Tryz.underlying296
 a83:=Tryz.isAgg296
 z83:=Tryz.sizeOf296
 v83:=Tryz.zeroValue296
 i83:=by kernel_rfl
 t84:=Tryz.underlying297
 a84:=Tryz.isAgg297
 z84:=Tryz.sizeOf297
 v84:=Tryz.zeroValue297
 i84:=by kernel_rfl
 t85:=Tryz.underlying285
 a85:=Tryz.isAgg285
 z85:=Tryz.sizeOf285
 v85:=Tryz.zeroValue285
 i85:=by kernel_rfl
 t86:=Tryz.underlying298
 a86:=Tryz.isAgg298
 z86:=Tryz.sizeOf298
 v86:=Tryz.zeroValue298
 i86:=by kernel_rfl
 t87:=Tryz.underlying299
 a87:=Tryz.isAgg299
 z87:=Tryz.sizeOf299
 v87:=Tryz.zeroValue299
 i87:=by kernel_rfl
 t89:=Tryz.underlying301
 a89:=Tryz.isAgg301
 z89:=Tryz.sizeOf301
 v89:=Tryz.zeroValue301
 i89:=by kernel_rfl}
end Go.Proofs
namespace Go.Proofs
open Go.Shelf Go.RowKit Go.Lib Go.Sort
noncomputable def Tryz.siT:TypeInfo:=(prog.info? 29).get (by kernel_rfl)
noncomputable def Tryz.siE:TypeInfo:=(prog.info? 50).get (by kernel_rfl)
theorem Tryz.siK(n:Nat)(h2:2<=n)(ke:Nat):Lib.swapperK n Tryz.siE ke=Lib.swapperK 2 Tryz.siE ke:=by
 have c:(n==0)=false:=by simp;omega
 have d:(n==1)=false:=by simp;omega
 simp[Lib.swapperK,c,d]
set_option maxHeartbeats 4000000 in
set_option maxRecDepth 100000 in
theorem Tryz.XU{α:Type}[Inhabited α](enc:α->List Value)(O:∀x,(enc x).length=4)(h1:∀x,∀v∈enc x,v.oneCell'=true)(lab:α->List (ByteArray×ByteArray))(blk off c:Nat)(d:Array α)(w:World)
 (h2:2<=d.size) (UD:d.size<1152921504606846976) (hH:HoldsK enc 4 w blk off d) (hblk:blk<w.heap.size) (hlab:Tp enc lab blk w):
 Calls prog 129 #[.slice (some ⟨blk,off,none⟩) d.size c] w λe w'=>
  e= .returned (.slice (some ⟨blk,off,none⟩) d.size c)/\∃n os,w'=grow (putRowK enc 4 (Sort.ahead w n) blk off (Sort.insertionSort (λx y=>Vg.bN (lab x) (lab y)) d 0 d.size)) os:=by
 have hW1:w.alloc (.cells #[.slice (some ⟨blk,off,none⟩) d.size c] 29)=grow w #[.cells #[.slice (some ⟨blk,off,none⟩) d.size c] 29]:=alloc_eq_grow _ _;have hH1:HoldsK enc 4 (w.alloc (.cells #[.slice (some ⟨blk,off,none⟩) d.size c] 29)) blk off d:=by rw[hW1];exact holdsK_grow enc 4 w _ blk off d hblk hH
 have hb1:blk<(w.alloc (.cells #[.slice (some ⟨blk,off,none⟩) d.size c] 29)).heap.size:=by rw[hW1,size_grow];omega
 have hbox:∀m os (dk:Array α),(sortWorldK enc 4 (w.alloc (.cells #[.slice (some ⟨blk,off,none⟩) d.size c] 29)) blk off m dk os).cell? ⟨w.heap.size,0,none⟩=some (.slice (some ⟨blk,off,none⟩) d.size c):=by
  intro m os dk;rw[cell?_sortWorldK_other enc 4 _ blk off m dk os _ (by show w.heap.size≠blk;omega) (by show w.heap.size<_;rw[hW1,size_grow];simp)];simp
 have hless:LessReadsK prog 239 #[.pointer (some ⟨w.heap.size,0,none⟩)] enc 4 (λx y=>Vg.bN (lab x) (lab y)) blk off d.size (w.alloc (.cells #[.slice (some ⟨blk,off,none⟩) d.size c] 29)):=by
  intro m os dk hs i j hi hj
  have hcell:∀x:Nat,x<d.size->∀v,(enc dk[x]!)[0]?=some v->(sortWorldK enc 4 (w.alloc (.cells #[.slice (some ⟨blk,off,none⟩) d.size c] 29)) blk off m dk os).cell? ⟨blk,off+x*4,none⟩=some v:=by
   intro x hx v hv;have hh:=holdsK_sortWorldK enc 4 _ blk off m d dk os hb1 hH1 hs;have:=(hh.cell (i:=x) (c:=0) (by omega) (by omega)).1;rw[Nat.add_zero]at this;rw[this];simp[hv]
  have hl:∀(x:α) (q:Nat),∃p c',(enc x)[0]?=some (.slice p (lab x).length c')/\(lab x).length<4611686018427387904/\
   ∀i,i<(lab x).length->∃bk o,p=some ⟨bk,o,none⟩/\((sortWorldK enc 4 (w.alloc (.cells #[.slice (some ⟨blk,off,none⟩) d.size c] 29)) blk off m dk os).drewN q).cell? ⟨bk,o+i*2,none⟩=some (.string ((lab x).getD i (ByteArray.empty,ByteArray.empty)).1)/\
    ((sortWorldK enc 4 (w.alloc (.cells #[.slice (some ⟨blk,off,none⟩) d.size c] 29)) blk off m dk os).drewN q).cell? ⟨bk,o+i*2+1,none⟩=some (.string ((lab x).getD i (ByteArray.empty,ByteArray.empty)).2):=by
   intro x q;obtain⟨p,c',e1,e2,e3⟩:=hlab x;refine⟨p,c',e1,e2,λi hi=> ?_⟩;obtain⟨bk,o,q1,q2,q3,q4,q5⟩:=e3 i hi
   have ho:∀o',((sortWorldK enc 4 (w.alloc (.cells #[.slice (some ⟨blk,off,none⟩) d.size c] 29)) blk off m dk os).drewN q).cell? ⟨bk,o',none⟩=w.cell? ⟨bk,o',none⟩:=by
    intro o';show(sortWorldK enc 4 (w.alloc (.cells #[.slice (some ⟨blk,off,none⟩) d.size c] 29)) blk off m dk os).cell? ⟨bk,o',none⟩=_;rw[cell?_sortWorldK_other enc 4 _ blk off m dk os _ q2 (by show bk<_;rw[hW1,size_grow];omega),hW1,cell?_grow _ _ _ q3]
   exact⟨bk,o,q1,by rw[ho];exact q4,by rw[ho];exact q5⟩
  obtain⟨pa,ca,a1,a2,_⟩:=hl dk[i]! 0;obtain⟨pb,cb,b1,b2,_⟩:=hl dk[j]! 0;refine Tryz.Wo blk off c w.heap.size d.size _ i j hi hj (by omega) _ _ _ (hbox m os dk) (hcell i hi _ a1) (hcell j hj _ b1) (λq=> ?_);obtain⟨pa',ca',a1',_,a3⟩:=hl dk[i]! q;obtain⟨pb',cb',b1',_,b3⟩:=hl dk[j]! q;rw[a1]at a1';rw[b1]at b1';cases a1';cases b1';exact Tryz.WE pa pb ca cb _ _ _ a2 b2 a3 b3
 have hS:=GK Tryz.gt8 (i:=Tryz.siT) (ie:=Tryz.siE) (t:=29) (e:=50) (by kernel_rfl) (by kernel_rfl) (by kernel_rfl) (by kernel_rfl) (ke:=25) (λ_=>by kernel_rfl) O (by kernel_rfl) (λ_=>by kernel_rfl) h1
  (λx y=>Vg.bN (lab x) (lab y)) ⟨λx=>Vg.pz.irrefl _,λx y z=>Vg.pz.trans _ _ _,λx y z=>Vg.pz.ntrans _ _ _⟩ (g:=239) (enters_of func239 (by kernel_rfl) rfl) (c:=c) h2 UD (f:=333) (by rw[Tryz.siK _ h2];kernel_rfl) false
  (λargs W=>run_callFunc_extern (f:=333) func333 (by kernel_rfl) (by kernel_rfl) (by kernel_rfl) (e:=Extern.ReflectliteSwapper.swap false) (by kernel_rfl) args W) hless hH1 hb1
 change Calls prog 148 _ _ _ at hS;have HB:Hid (∀m os (dk:Array α),(sortWorldK enc 4 (w.alloc (.cells #[.slice (some ⟨blk,off,none⟩) d.size c] 29)) blk off m dk os).cell? ⟨w.heap.size,0,none⟩=some (.slice (some ⟨blk,off,none⟩) d.size c)):=hbox;clear hless hH1 hH hlab hbox hW1 hb1
 go_enter func129,Tryz.ntmps129
 go_wp2_with (go_at_call 148;refine hS.mono ?_;rintro e w1 ⟨rfl,n,os,hw⟩;have hcell:w1.cell? ⟨w.heap.size,0,none⟩=some (.slice (some ⟨blk,off,none⟩) d.size c):=(by rw[hw];exact HB.out n os _);have HW:Hid (w1=_):=hw;clear hw)
 go_ret
 exact⟨rfl,n,_,by rw[HW.out,alloc_eq_grow,ahead_grow,putRowK_grow enc 4 (Sort.ahead w n) _ blk off _ hblk,grow_grow]⟩
set_option maxHeartbeats 4000000 in
set_option maxRecDepth 100000 in
theorem Tryz.Vt(p:Option Addr)(n c:Nat)(h1:n<=1)(w:World):
 Calls prog 129 #[.slice p n c] w λe w'=>e= .returned (.slice p n c)/\∃os,w'=grow w os:=by
 have hS:=λW f hf=>Any.sort_SliceStable_tiny Tryz.gt8 29 50 Tryz.siT Tryz.siE (by kernel_rfl) (by kernel_rfl) (by kernel_rfl) (by kernel_rfl) 25 (λ_=>by kernel_rfl) p n c h1 f hf (.func 239) #[] #[.pointer (some ⟨w.heap.size,0,none⟩)] W
 obtain⟨f,hf⟩:∃f,prog.funcs.findIdx? (·.name== "internal/reflectlite" ++ ".Swapper$" ++toString (swapperK n Tryz.siE 25))=some f:=by
  rcases Nat.eq_zero_or_pos n with h|h
  ·subst h;exact⟨325,by kernel_rfl⟩
  ·obtain rfl:n=1:=by omega
   exact⟨326,by kernel_rfl⟩
 have hS2:=λW=>hS W f hf;change∀W,Calls prog 148 _ W _ at hS2;clear hS
 have HB:Hid (∀os,(grow (w.alloc (.cells #[.slice p n c] 29)) os).cell? ⟨w.heap.size,0,none⟩=some (.slice p n c)):=by
  intro os;rw[cell?_grow _ _ _ (by show w.heap.size<_;rw[alloc_eq_grow,size_grow];simp)];simp
 go_enter func129,Tryz.ntmps129
 go_wp2_with (go_at_call 148;refine(hS2 _).mono ?_;rintro e w1 ⟨rfl,os,hw⟩;have hcell:w1.cell? ⟨w.heap.size,0,none⟩=some (.slice p n c):=(by rw[hw];exact HB.out os);have HW:Hid (w1=_):=hw;clear hw)
 go_ret
 exact⟨rfl,_,by rw[HW.out,alloc_eq_grow,grow_grow]⟩
end Go.Proofs
namespace Vg.Tryz
open Go Vg Go.Proofs
def Al(k:Nat):wj:=⟨[.val (.sl ab) .own],[.val (.sl ab) .own],iI k,[]⟩
set_option maxRecDepth 1000000 in
def P0(k:Nat):vd prog 129 (Al k):=aah (N:=1152921504606846976) func129 (by kernel_rfl) (by kernel_rfl) Tryz.Vt Tryz.XU
def TT:List (Nat×TI):=[(3,⟨(.int .i64),[],0⟩),(4,⟨.bool,[],0⟩),(5,⟨(.int .u8),[],0⟩),(9,⟨.str,[],0⟩),(22,⟨(.sl (.int .u8)),[],5⟩),(24,⟨(.sl .str),[],9⟩),(26,⟨fX,[3,3,3,3,3,24],0⟩),(27,⟨(.sl aj),[],72⟩),(28,⟨(.sl bj),[],103⟩),(29,⟨(.sl ab),[],50⟩),(30,⟨(.sl ak),[],123⟩),(31,⟨(.sl aL),[],161⟩),(32,⟨(.sl cJ),[],179⟩),(33,⟨(.sl ah),[],62⟩),(34,⟨(.sl aw),[],56⟩),(36,⟨aN,[26,3,3,27,28,29,3,30,3,31,32,29,33,34],0⟩),(48,⟨(.sl al),[],149⟩),(50,⟨ab,[48,3,3,9],0⟩),(56,⟨aw,[3,3,50,48,3,3,3,29,3,3,3,3],0⟩),(60,⟨(.sl (.int .i64)),[],3⟩),(62,⟨ah,[3,3,50,48,3,60,29,3,3],0⟩),(70,⟨(.sl az),[],131⟩),(72,⟨aj,[3,3,70],0⟩),(103,⟨bj,[29,4],0⟩),(123,⟨ak,[3,48,3,3,29],0⟩),(131,⟨az,[3,29],0⟩),(142,⟨vD,[3,3,50,48],0⟩),(149,⟨al,[9,9],0⟩),(151,⟨qF,[22,3,3],0⟩),(152,⟨(.sl vD),[],142⟩),(161,⟨aL,[3,3],0⟩),(179,⟨cJ,[3,48,3,29],0⟩),(208,⟨(.int .u64),[],0⟩),(248,⟨(.int .u32),[],0⟩)]
def amv:TT.all (λp=>T4 prog p.1 p.2)=true:=by kernel_rfl
def mixed:prog.follows .mixedOrders=true:=by kernel_rfl
set_option maxRecDepth 1000000
def nA:Nat->Option C5:=λ_=>none
def xw:Sh:=(.pair .leaf (.pair .leaf (.sl (.sha []))))
def ajD:Sh:=(.pair (.sl (.row 15 [15] true)) (.sl (.sha [1])))
def HF:Sh:=(.pair (.sl (.sha [])) (.pair .leaf (.pair .leaf .leaf)))
def Ou:Sh:=(.pair (.sl (.sha [])) (.pair (.sl (.sha [])) (.sl (.sha []))))
def TH:Sh:=(.pair .leaf (.pair .leaf (.sl (.sha [1,2]))))
def afQ:Sh:=(.pair (.sl (.row 12 [12] true)) (.sl (.row 13 [1,2,13] false)))
def Mr:Sh:=(.pair (.sl (.sha [1])) (.pair .leaf (.pair .leaf .leaf)))
def aj8:Sh:=(.pair (.sl (.row 12 [12] true)) (.sl (.row 13 [1,13] false)))
def akx:Sh:=(.pair (.sl (.sha [2,12])) (.pair .leaf (.pair .leaf .leaf)))
def akz:Sh:=(.pair (.sl (.sha [2,12])) (.pair .leaf .leaf))
def ac1:Sh:=(.pair .leaf (.pair .leaf (.sl (.row 9 [9] true))))
def ajY:Sh:=(.pair (.sl (.row 17 [17] true)) (.sl (.row 18 [18] true)))
def aiY:Sh:=(.pair .leaf (.pair .leaf (.sl (.sha [2]))))
def aju:Sh:=(.pair (.sl (.row 27 [27] true)) (.sl (.row 28 [2,28] false)))
def XZ:Sh:=(.pair (.sl (.row 7 [7] true)) (.pair .leaf (.pair .leaf .leaf)))
def ajR:Sh:=(.pair .leaf (.sl (.row 10 [7,10] true)))
def ab1:Sh:=(.pair (.sl (.sha [])) (.pair .leaf .leaf))
def ajF:Sh:=(.pair (.sl (.row 10 [10] true)) (.pair .leaf .leaf))
def ade:Sh:=(.pair .leaf (.pair .leaf (.pair .leaf .leaf)))
def h26:Sh:=(.pair .leaf (.pair .leaf (.sl (.row 7 [7] true))))
def akq:Sh:=(.pair .leaf (.pair .leaf (.sl (.row 5 [5] true))))
def ajw:Sh:=(.pair (.sl (.sha [1])) (.pair .leaf .leaf))
def h6:Sh:=(.pair .leaf (.pair .leaf (.sl (.sha [1]))))
def h83:Sh:=(.pair (.sl (.sha [1])) (.sl (.sha [1])))
def q0:Pt:=(.pair .leaf (.pair .leaf (.pair .leaf .own)))
def ajS:Pt:=(.pair .shr (.pair .shr (.pair .shr .shr)))
def ajG:Pt:=(.pair .hd (.pair .hd (.pair .own .hd)))
def q3:Pt:=(.pair .leaf (.pair .leaf (.pair .leaf .shr)))
def q35:Pt:=(.pair .own (.pair .own (.pair .own .own)))
def sO:Pt:=(.pair .shr (.pair .leaf (.pair .leaf .leaf)))
def UP:Pt:=(.pair .own (.pair .leaf (.pair .leaf .leaf)))
def q48:Pt:=(.pair .shr (.pair .leaf (.pair .leaf .shr)))
def q50:Pt:=(.pair .own (.pair .leaf (.pair .leaf .own)))
def q54:Pt:=(.pair .shr (.pair .shr (.pair .leaf .leaf)))
def q60:Pt:=(.pair .own (.pair .own (.pair .leaf .leaf)))
def q66:Pt:=(.pair .leaf (.pair .leaf (.pair .leaf .leaf)))
abbrev aP:=Nat->Option C5
abbrev aE:=List (FuncId×wj)
abbrev dO:Ty:= .int .i64
def Yi:Sh:= .pair .leaf (.pair .leaf (.pair .leaf h6))
def jz:Sh:= .sl (.sha [1])
def ahc:Sh:= .pair Yi (.pair .leaf (.pair .leaf (.pair jz (.pair jz (.pair jz (.pair .leaf (.pair jz (.pair .leaf (.pair jz (.pair jz (.pair jz h83)))))))))))
def lR:Sh:= .sl (.sha [])
def ajH:Sh:= .pair lR (.pair .leaf (.pair lR (.pair .leaf (.pair lR (.pair lR Ou)))))
def abo:Sh:= .pair (.pair .leaf (.pair .leaf (.pair .leaf xw))) (.pair .leaf (.pair .leaf (.pair lR (.pair lR ajH))))
def ai3:Sh:= .sl (.row 5 [1,2,5] false)
def amI:Sh:= .pair (.pair .leaf (.pair .leaf (.pair .leaf TH))) (.pair .leaf (.pair .leaf (.pair ai3 (.pair (.sl (.row 6 [1,2,6] false)) (.pair (.sl (.row 7 [1,2,7] false)) (.pair .leaf (.pair (.sl (.row 8 [1,2,8] false)) (.pair .leaf (.pair (.sl (.row 9 [1,2,9] false)) (.pair (.sl (.row 10 [1,2,10] false)) (.pair (.sl (.row 11 [1,2,11] false)) afQ)))))))))))
def akA:Sh:= .sl (.row 6 [6] true)
def agp:Sh:= .sl (.row 7 [7] true)
def BT:Sh:= .sl (.row 8 [8] true)
def Li:Sh:= .sl (.row 9 [9] true)
def XN:Sh:= .sl (.row 10 [10] true)
def adf:Sh:= .sl (.row 11 [11] true)
def anh:Sh:= .pair (.pair .leaf (.pair .leaf (.pair .leaf akq))) (.pair .leaf (.pair .leaf (.pair akA (.pair agp (.pair BT (.pair .leaf (.pair Li (.pair .leaf (.pair XN (.pair jz (.pair adf h83)))))))))))
def akK:Sh:= .pair (.sl (.row 6 [1,6] false)) (.pair (.sl (.row 7 [1,7] false)) (.pair .leaf (.pair (.sl (.row 8 [1,8] false)) (.pair .leaf (.pair (.sl (.row 9 [1,9] false)) (.pair (.sl (.row 10 [1,10] false)) (.pair (.sl (.row 11 [1,11] false)) aj8)))))))
def amb:Sh:= .pair Yi (.pair .leaf (.pair .leaf (.pair (.sl (.row 5 [1,5] false)) akK)))
def akf:Sh:= .pair .leaf (.pair .leaf (.pair Mr (.pair jz (.pair .leaf (.pair jz ajw)))))
def He:Sh:= .pair .leaf (.pair .leaf (.pair .leaf h26))
def akb:Sh:= .pair (.pair .leaf (.pair .leaf (.pair .leaf aiY))) (.pair .leaf (.pair .leaf (.pair (.sl (.row 20 [2,20] false)) (.pair (.sl (.row 21 [2,21] false)) (.pair (.sl (.row 22 [2,22] false)) (.pair .leaf (.pair (.sl (.row 23 [2,23] false)) (.pair .leaf (.pair (.sl (.row 24 [2,24] false)) (.pair (.sl (.row 25 [2,25] false)) (.pair (.sl (.row 26 [2,26] false)) aju)))))))))))
def ab4:Sh:= .sl (.row 13 [13] true)
def ag5:Sh:= .sl (.row 14 [14] true)
def afD:Sh:= .sl (.row 15 [15] true)
def ake:Sh:= .pair (.pair .leaf (.pair .leaf (.pair .leaf ac1))) (.pair .leaf (.pair .leaf (.pair XN (.pair adf (.pair (.sl (.row 12 [12] true)) (.pair .leaf (.pair ab4 (.pair .leaf (.pair ag5 (.pair afD (.pair (.sl (.row 16 [16] true)) ajY)))))))))))
def ajd:Sh:= .pair lR (.pair .leaf (.pair .leaf (.pair .leaf (.pair lR ade))))
def ai8:Sh:= .pair .leaf (.pair .leaf (.pair HF ajd))
def aiW:Sh:= .pair He (.pair .leaf (.pair .leaf (.pair BT (.pair Li (.pair XN (.pair .leaf (.pair adf (.pair .leaf (.pair (.sl (.row 12 [] true)) (.pair ab4 (.pair ag5 ajD)))))))))))
def ajc:Sh:= .pair He (.pair .leaf (.pair .leaf (.pair BT (.pair Li (.pair XN (.pair .leaf (.pair adf (.pair .leaf (.pair (.sl (.row 12 [] true)) (.pair ab4 (.pair jz h83)))))))))))
def SZ:Sh:= .sl (.row 4 [4] true)
def amd:Sh:= .pair .leaf (.pair .leaf (.pair HF (.pair lR (.pair .leaf (.pair lR ab1)))))
def alH:Sh:= .pair .leaf (.pair .leaf (.pair akx (.pair (.sl (.sha [2,12])) (.pair .leaf (.pair (.sl (.sha [2,12])) akz)))))
def agZ:Sh:= .sl (.row 5 [] true)
def aj1:Sh:= .pair .leaf (.pair lR xw)
def amg:Sh:= .pair .leaf (.pair jz h6)
def ai4:Sh:= .pair He (.pair .leaf (.pair .leaf (.pair BT (.pair Li ajH))))
def MJ:Sh:= .sl (.sha [1,2])
def acI:Sh:= .sl (.row 5 [5] true)
def alr:Sh:= .pair .leaf (.pair BT ac1)
def XX:Sh:= .pair .leaf .leaf
def ama:Sh:= .pair .leaf (.pair .leaf (.pair HF lR))
def am7:Sh:= .pair .leaf jz
def ajU:Sh:= .pair .leaf (.pair .leaf (.pair XZ (.pair BT (.pair .leaf (.pair (.sl (.row 9 [] true)) ajF)))))
def aji:Sh:= .pair .leaf (.pair .leaf (.pair HF (.pair lR (.pair .leaf (.pair (.sl (.row 7 [] true)) ab1)))))
def alU:Sh:= .pair .leaf (.pair MJ TH)
def afB:Sh:= .sl (.row 4 [] true)
def amc:Sh:= .sl (.row 4 [2] false)
def aja:Sh:= .pair .leaf (.pair Li (.pair .leaf ajR))
def ajE:Sh:= .pair .leaf (.pair .leaf (.pair Mr jz))
def Ir:Pt:= .pair .leaf (.pair .leaf q3)
def wK:Pt:= .pair Ir (.pair .leaf (.pair .leaf (.pair .hd (.pair .hd (.pair .hd (.pair .leaf (.pair .hd (.pair .leaf (.pair .hd ajG)))))))))
def xW:Pt:= .pair Ir (.pair .leaf (.pair .leaf (.pair .shr (.pair .shr (.pair .shr (.pair .leaf (.pair .shr (.pair .leaf (.pair .shr ajS)))))))))
def Fe:Pt:= .pair .leaf (.pair .leaf (.pair sO (.pair .shr (.pair .leaf q54))))
def Ho:Pt:= .pair .leaf .leaf
def Ff:Pt:= .pair .rom Ho
def TL:Pt:= .pair .leaf (.pair .leaf (.pair sO (.pair .shr (.pair .leaf (.pair .leaf (.pair .leaf (.pair .shr q66)))))))
def ai2:Pt:= .pair .leaf (.pair .leaf q0)
def akN:Pt:= .pair ai2 (.pair .leaf (.pair .leaf (.pair .own (.pair .own (.pair .own (.pair .leaf (.pair .own (.pair .leaf (.pair .own q35)))))))))
def Mg:Pt:= .pair .leaf .shr
def KO:Pt:= .pair .leaf Mg
def anl:Pt:= .pair .leaf (.pair .leaf (.pair UP (.pair .own (.pair .leaf (.pair .leaf (.pair .leaf (.pair .own q66)))))))
def ajI:Pt:= .pair .leaf (.pair .leaf (.pair UP (.pair .own (.pair .leaf q60))))
def Eb:Pt:= .pair .leaf q48
def WU:Pt:= .pair .leaf .own
def ab5:Pt:= .pair .shr .leaf
def akt:Pt:= .pair .own .leaf
def ajp:Pt:= .pair .leaf q50
def agt:Pt:= .pair .leaf (.pair .leaf .pv)
def q1:Pt:=(.pair .leaf q0)
def q2:Pt:=(.pair .leaf q1)
def q4:Pt:=(.pair .leaf q3)
def q5:Pt:=(.pair .leaf q4)
def h7:Sh:=(.pair .leaf h6)
def h8:Sh:=(.pair .leaf h7)
def h9:Sh:=(.pair .leaf h8)
def DL:Sh:=(.pair .leaf xw)
def qX:Sh:=(.pair .leaf DL)
def zM:Sh:=(.pair .leaf qX)
def Ub:Sh:=(.pair (.sl (.sha [])) Ou)
def h16:Sh:=(.pair (.sl (.sha [])) Ub)
def h17:Sh:=(.pair .leaf h16)
def h18:Sh:=(.pair (.sl (.sha [])) h17)
def h19:Sh:=(.pair .leaf h18)
def UD:Sh:=(.pair (.sl (.sha [])) h19)
def Pq:Sh:=(.pair (.sl (.sha [])) UD)
def h22:Sh:=(.pair (.sl (.sha [])) Pq)
def h23:Sh:=(.pair .leaf h22)
def h24:Sh:=(.pair .leaf h23)
def h25:Sh:=(.pair zM h24)
def h27:Sh:=(.pair .leaf h26)
def h28:Sh:=(.pair .leaf h27)
def h29:Sh:=(.pair .leaf h28)
def h30:Sh:=(.pair (.sl (.row 9 [9] true)) UD)
def h31:Sh:=(.pair (.sl (.row 8 [8] true)) h30)
def h32:Sh:=(.pair .leaf h31)
def h33:Sh:=(.pair .leaf h32)
def h34:Sh:=(.pair h29 h33)
def q36:Pt:=(.pair .own q35)
def q37:Pt:=(.pair .leaf q36)
def q38:Pt:=(.pair .own q37)
def q39:Pt:=(.pair .leaf q38)
def q40:Pt:=(.pair .own q39)
def q41:Pt:=(.pair .own q40)
def q42:Pt:=(.pair .own q41)
def q43:Pt:=(.pair .leaf q42)
def q44:Pt:=(.pair .leaf q43)
def q45:Pt:=(.pair q2 q44)
def q49:Pt:=(.pair .leaf q48)
def q51:Pt:=(.pair .leaf q50)
def q52:Pt:=(.pair .leaf (.pair .shr (.pair .leaf .shr)))
def q53:Pt:=(.pair .leaf (.pair .own (.pair .leaf .own)))
def q55:Pt:=(.pair .leaf q54)
def q56:Pt:=(.pair .shr q55)
def q57:Pt:=(.pair sO q56)
def q58:Pt:=(.pair .leaf q57)
def q59:Pt:=(.pair .leaf q58)
def q61:Pt:=(.pair .leaf q60)
def q62:Pt:=(.pair .own q61)
def q63:Pt:=(.pair UP q62)
def q64:Pt:=(.pair .leaf q63)
def q65:Pt:=(.pair .leaf q64)
def q67:Pt:=(.pair .shr q66)
def q68:Pt:=(.pair .leaf q67)
def q69:Pt:=(.pair .leaf q68)
def q70:Pt:=(.pair .leaf q69)
def q71:Pt:=(.pair .shr q70)
def q72:Pt:=(.pair sO q71)
def q73:Pt:=(.pair .leaf q72)
def q74:Pt:=(.pair .leaf q73)
def q75:Pt:=(.pair .own q66)
def q76:Pt:=(.pair .leaf q75)
def q77:Pt:=(.pair .leaf q76)
def q78:Pt:=(.pair .leaf q77)
def q79:Pt:=(.pair .own q78)
def q80:Pt:=(.pair UP q79)
def q81:Pt:=(.pair .leaf q80)
def q82:Pt:=(.pair .leaf q81)
def h84:Sh:=(.pair (.sl (.sha [1])) h83)
def h85:Sh:=(.pair (.sl (.sha [1])) h84)
def h86:Sh:=(.pair (.sl (.sha [1])) h85)
def h87:Sh:=(.pair .leaf h86)
def h88:Sh:=(.pair (.sl (.sha [1])) h87)
def h89:Sh:=(.pair .leaf h88)
def h90:Sh:=(.pair (.sl (.sha [1])) h89)
def h91:Sh:=(.pair (.sl (.sha [1])) h90)
def h92:Sh:=(.pair (.sl (.sha [1])) h91)
def h93:Sh:=(.pair .leaf h92)
def h94:Sh:=(.pair .leaf h93)
def h95:Sh:=(.pair h9 h94)
def h96:Sh:=(.pair (.sl (.row 13 [13] true)) h84)
def h97:Sh:=(.pair (.sl (.row 12 [] true)) h96)
def h98:Sh:=(.pair .leaf h97)
def h99:Sh:=(.pair (.sl (.row 11 [11] true)) h98)
def anO:Sh:=(.pair .leaf h99)
def amJ:Sh:=(.pair (.sl (.row 10 [10] true)) anO)
def amp:Sh:=(.pair (.sl (.row 9 [9] true)) amJ)
def alx:Sh:=(.pair (.sl (.row 8 [8] true)) amp)
def am2:Sh:=(.pair .leaf alx)
def an7:Sh:=(.pair .leaf am2)
def apj:Sh:=(.pair h29 an7)
def alM:Sh:=(.pair (.sl (.row 14 [14] true)) ajD)
def anQ:Sh:=(.pair (.sl (.row 13 [13] true)) alM)
def al8:Sh:=(.pair (.sl (.row 12 [] true)) anQ)
def an6:Sh:=(.pair .leaf al8)
def alO:Sh:=(.pair (.sl (.row 11 [11] true)) an6)
def an0:Sh:=(.pair .leaf alO)
def amZ:Sh:=(.pair (.sl (.row 10 [10] true)) an0)
def ant:Sh:=(.pair (.sl (.row 9 [9] true)) amZ)
def anD:Sh:=(.pair (.sl (.row 8 [8] true)) ant)
def am6:Sh:=(.pair .leaf anD)
def alT:Sh:=(.pair .leaf am6)
def apr:Sh:=(.pair h29 alT)
def anG:Pt:=(.pair .shr ajS)
def ana:Pt:=(.pair .leaf anG)
def anI:Pt:=(.pair .shr ana)
def anr:Pt:=(.pair .leaf anI)
def am0:Pt:=(.pair .shr anr)
def amG:Pt:=(.pair .shr am0)
def am9:Pt:=(.pair .shr amG)
def aln:Pt:=(.pair .leaf am9)
def anj:Pt:=(.pair .leaf aln)
def apc:Pt:=(.pair q5 anj)
def amE:Sh:=(.pair (.sl (.sha [3])) (.pair .leaf .leaf))
def aj2:Sh:=(.pair (.sl (.row 6 [6] true)) (.pair .leaf (.pair .leaf .leaf)))
def amz:Sh:=(.pair HF (.sl (.sha [])))
def al3:Sh:=(.pair .leaf amz)
def apn:Sh:=(.pair .leaf al3)
def am5:Pt:=(.pair .hd ajG)
def al5:Pt:=(.pair .leaf am5)
def anA:Pt:=(.pair .hd al5)
def amC:Pt:=(.pair .leaf anA)
def amH:Pt:=(.pair .hd amC)
def amB:Pt:=(.pair .hd amH)
def ani:Pt:=(.pair .hd amB)
def ank:Pt:=(.pair .leaf ani)
def an5:Pt:=(.pair .leaf ank)
def apg:Pt:=(.pair q5 an5)
def alK:Sh:=(.pair .leaf TH)
def alw:Sh:=(.pair .leaf alK)
def am3:Sh:=(.pair .leaf alw)
def amj:Sh:=(.pair (.sl (.row 11 [1,2,11] false)) afQ)
def anR:Sh:=(.pair (.sl (.row 10 [1,2,10] false)) amj)
def anS:Sh:=(.pair (.sl (.row 9 [1,2,9] false)) anR)
def an1:Sh:=(.pair .leaf anS)
def als:Sh:=(.pair (.sl (.row 8 [1,2,8] false)) an1)
def amo:Sh:=(.pair .leaf als)
def amr:Sh:=(.pair (.sl (.row 7 [1,2,7] false)) amo)
def amT:Sh:=(.pair (.sl (.row 6 [1,2,6] false)) amr)
def anU:Sh:=(.pair (.sl (.row 5 [1,2,5] false)) amT)
def alv:Sh:=(.pair .leaf anU)
def anq:Sh:=(.pair .leaf alv)
def apx:Sh:=(.pair am3 anq)
def ajW:Sh:=(.pair .leaf (.pair .leaf (.sl (.row 8 [8] true))))
def amY:Sh:=(.pair (.sl (.row 11 [1,11] false)) aj8)
def alS:Sh:=(.pair (.sl (.row 10 [1,10] false)) amY)
def anf:Sh:=(.pair (.sl (.row 9 [1,9] false)) alS)
def amM:Sh:=(.pair .leaf anf)
def amR:Sh:=(.pair (.sl (.row 8 [1,8] false)) amM)
def alQ:Sh:=(.pair .leaf amR)
def amV:Sh:=(.pair (.sl (.row 7 [1,7] false)) alQ)
def amq:Sh:=(.pair (.sl (.row 6 [1,6] false)) amV)
def anv:Sh:=(.pair (.sl (.sha [2,12])) akz)
def alX:Sh:=(.pair .leaf anv)
def anu:Sh:=(.pair (.sl (.sha [2,12])) alX)
def anJ:Sh:=(.pair akx anu)
def amh:Sh:=(.pair .leaf anJ)
def apk:Sh:=(.pair .leaf amh)
def an9:Sh:=(.pair (.sl (.row 5 [1,5] false)) amq)
def an2:Sh:=(.pair .leaf an9)
def al6:Sh:=(.pair .leaf an2)
def apt:Sh:=(.pair h9 al6)
def anX:Sh:=(.pair (.sl (.sha [1])) h6)
def apv:Sh:=(.pair .leaf anX)
def anW:Sh:=(.pair (.sl (.sha [])) xw)
def apw:Sh:=(.pair .leaf anW)
def anC:Sh:=(.pair (.sl (.row 8 [8] true)) ac1)
def apf:Sh:=(.pair .leaf anC)
def an8:Sh:=(.pair (.sl (.row 11 [11] true)) (.pair .leaf (.pair .leaf .leaf)))
def aj7:Sh:=(.pair (.sl (.sha [])) (.pair .leaf (.sl (.sha []))))
def apd:Sh:=(.pair .leaf aj7)
def alL:Sh:=(.pair Mr (.sl (.sha [1])))
def alq:Sh:=(.pair .leaf alL)
def apo:Sh:=(.pair .leaf alq)
def alp:Sh:=(.pair .leaf ac1)
def am4:Sh:=(.pair .leaf alp)
def am1:Sh:=(.pair .leaf am4)
def amw:Sh:=(.pair (.sl (.row 16 [16] true)) ajY)
def ans:Sh:=(.pair (.sl (.row 15 [15] true)) amw)
def alo:Sh:=(.pair (.sl (.row 14 [14] true)) ans)
def anz:Sh:=(.pair .leaf alo)
def alu:Sh:=(.pair (.sl (.row 13 [13] true)) anz)
def an4:Sh:=(.pair .leaf alu)
def alW:Sh:=(.pair (.sl (.row 12 [12] true)) an4)
def anp:Sh:=(.pair (.sl (.row 11 [11] true)) alW)
def alY:Sh:=(.pair (.sl (.row 10 [10] true)) anp)
def alD:Sh:=(.pair .leaf alY)
def anT:Sh:=(.pair .leaf alD)
def api:Sh:=(.pair am1 anT)
def amk:Sh:=(.pair .leaf aiY)
def amP:Sh:=(.pair .leaf amk)
def amK:Sh:=(.pair .leaf amP)
def anV:Sh:=(.pair (.sl (.row 26 [2,26] false)) aju)
def ann:Sh:=(.pair (.sl (.row 25 [2,25] false)) anV)
def al7:Sh:=(.pair (.sl (.row 24 [2,24] false)) ann)
def amu:Sh:=(.pair .leaf al7)
def alG:Sh:=(.pair (.sl (.row 23 [2,23] false)) amu)
def anK:Sh:=(.pair .leaf alG)
def alm:Sh:=(.pair (.sl (.row 22 [2,22] false)) anK)
def anB:Sh:=(.pair (.sl (.row 21 [2,21] false)) alm)
def alF:Sh:=(.pair (.sl (.row 20 [2,20] false)) anB)
def amy:Sh:=(.pair .leaf alF)
def amF:Sh:=(.pair .leaf amy)
def apq:Sh:=(.pair amK amF)
def aml:Sh:=(.pair .leaf ajR)
def amQ:Sh:=(.pair (.sl (.row 9 [9] true)) aml)
def apz:Sh:=(.pair .leaf amQ)
def alC:Sh:=(.pair (.sl (.sha [])) ab1)
def alJ:Sh:=(.pair .leaf alC)
def anb:Sh:=(.pair (.sl (.sha [])) alJ)
def amn:Sh:=(.pair HF anb)
def anY:Sh:=(.pair .leaf amn)
def apm:Sh:=(.pair .leaf anY)
def anF:Sh:=(.pair (.sl (.row 7 [] true)) ab1)
def al2:Sh:=(.pair .leaf anF)
def amS:Sh:=(.pair (.sl (.sha [])) al2)
def anN:Sh:=(.pair HF amS)
def ami:Sh:=(.pair .leaf anN)
def ape:Sh:=(.pair .leaf ami)
def al9:Sh:=(.pair (.sl (.row 9 [] true)) ajF)
def amf:Sh:=(.pair .leaf al9)
def amO:Sh:=(.pair (.sl (.row 8 [8] true)) amf)
def alE:Sh:=(.pair XZ amO)
def anH:Sh:=(.pair .leaf alE)
def aph:Sh:=(.pair .leaf anH)
def amL:Sh:=(.pair (.sl (.sha [])) ade)
def anZ:Sh:=(.pair .leaf amL)
def alI:Sh:=(.pair .leaf anZ)
def alR:Sh:=(.pair .leaf alI)
def anx:Sh:=(.pair (.sl (.sha [])) alR)
def aoc:Sh:=(.pair HF anx)
def am8:Sh:=(.pair .leaf aoc)
def aps:Sh:=(.pair .leaf am8)
def ano:Sh:=(.pair .leaf akq)
def anc:Sh:=(.pair .leaf ano)
def amm:Sh:=(.pair .leaf anc)
def amx:Sh:=(.pair (.sl (.row 11 [11] true)) h83)
def al1:Sh:=(.pair (.sl (.sha [1])) amx)
def amN:Sh:=(.pair (.sl (.row 10 [10] true)) al1)
def al4:Sh:=(.pair .leaf amN)
def alP:Sh:=(.pair (.sl (.row 9 [9] true)) al4)
def amA:Sh:=(.pair .leaf alP)
def alB:Sh:=(.pair (.sl (.row 8 [8] true)) amA)
def amX:Sh:=(.pair (.sl (.row 7 [7] true)) alB)
def anP:Sh:=(.pair (.sl (.row 6 [6] true)) amX)
def aly:Sh:=(.pair .leaf anP)
def anL:Sh:=(.pair .leaf aly)
def apy:Sh:=(.pair amm anL)
def alZ:Sh:=(.pair (.sl (.sha [1])) ajw)
def aoa:Sh:=(.pair .leaf alZ)
def ane:Sh:=(.pair (.sl (.sha [1])) aoa)
def ame:Sh:=(.pair Mr ane)
def anE:Sh:=(.pair .leaf ame)
def apl:Sh:=(.pair .leaf anE)
def amD:Sh:=(.pair (.sl (.sha [1,2])) TH)
def apu:Sh:=(.pair .leaf amD)
def ajq:Sh:=(.pair (.sl (.sha [1,2])) (.pair .leaf (.pair .leaf .leaf)))
def aK:AK:= .val dO .leaf
def bm:List RK:=[.val .bool .leaf]
def eE:AK:= .box 4 aN ahc
def fU:List RK:=[.val dO .leaf]
def jC:List PK:=[.io qF Ff]
def j7:AK:= .box 4 qF amE
def jZ:AK:= .val (.sl al) jz
def nX:AK:= .val (.sl .str) jz
def oO:AK:= .val (.sl ab) jz
def qP:List PK:=[.io aN wK,.val dO .leaf]
def sG:AK:= .val (.sl aj) jz
def uf:AK:= .box 4 aj h6
def ub:AK:= .val (.sl ak) jz
def um:AK:= .val (.sl aL) jz
def vL:AK:= .val .bool .leaf
def wo:AK:= .val .str .leaf
def xV:List PK:=[.val aN xW]
def E9:AK:= .box 5 aN abo
def EG:AK:= .box 4 aN amI
def Eo:AK:= .val (.sl dO) jz
def GU:List PK:=[.val (.sl aj) .shr]
def Hp:AK:= .val (.sl bj) jz
def Ht:List RK:=[.val (.sl al) .own]
def Ib:AK:= .box 4 az am7
def Hc:AK:= .box 4 ak amg
def IC:List PK:=[.val aN xW,.val dO .leaf]
def Mn:List RK:=[.val .str .leaf]
def LL:List PK:=[.val (.sl al) .shr]
def Te:List PK:=[.val (.sl (.int .u8)) .rom]
def Q7:List PK:=[.val .str .leaf]
def R5:AK:= .val (.sl ab) SZ
def RY:List PK:=[.val (.sl ab) .shr]
def RG:List RK:=[.val (.sl ab) .own]
def Tm:List PK:=[.val ah Fe]
def QM:AK:= .box 5 aN ahc
def QJ:AK:= .box 5 ab Mr
def Sz:AK:= .box 7 ak alr
def Tb:AK:= .box 4 aN anh
def QQ:AK:= .box 12 aN abo
def S5:AK:= .val (.sl cJ) ab4
def RQ:AK:= .val (.sl ah) jz
def Q0:AK:= .box 4 ah akf
def RL:List RK:=[.val aN wK,.val .bool .leaf]
def RD:AK:= .val (.sl dO) agZ
def YK:List PK:=[.io qF Ff,.val dO .leaf]
def YQ:List PK:=[.val fX Ir]
def Xs:AK:= .box 4 fX Yi
def YC:List PK:=[.val ab sO]
def YO:List RK:=[.val ab UP]
def Xw:AK:= .box 5 aj xw
def Yk:List PK:=[.val bj ab5]
def WS:List RK:=[.val bj akt]
def WZ:List RK:=[.val ak ajp]
def Xn:AK:= .val (.sl aw) jz
def XL:List PK:=[.io qF Ff,.val (.sl .str) .shr]
def Yh:AK:= .box 4 aL XX
def Yw:AK:= .val (.sl aL) agZ
def XP:AK:= .box 5 ah akf
def Yy:List PK:=[.val ah Fe,.val dO .leaf]
def acs:List RK:=[.val fX ai2]
def acR:List PK:=[.val (.sl .str) .shr]
def abm:List PK:=[.val az Mg]
def acE:List RK:=[.val az WU]
def ads:AK:= .box 6 aj h26
def acN:List PK:=[.val aj KO]
def abd:List RK:=[.val (.sl ak) .own]
def acU:List PK:=[.val aw TL]
def acX:AK:= .val (.sl ab) acI
def acT:List PK:=[.val (.sl al) .shr,.val (.sl al) .shr]
def ab9:AK:= .box 6 vD ama
def acg:List PK:=[.val dO .leaf,.val dO .leaf]
def ac2:List PK:=[.val (.sl aj) .shr,.val (.sl al) .shr]
def ac9:List RK:=[.val ab UP,.val .bool .leaf]
def abk:List PK:=[.val ab sO,.val ab sO]
def abM:AK:= .box 4 aN amb
def ada:AK:= .val (.sl ab) BT
def abW:AK:= .box 6 ak aj1
def acd:AK:= .box 10 ab an8
def ac6:List RK:=[.val (.sl aL) .own]
def ac8:List PK:=[.io aN wK]
def abv:List PK:=[.val (.sl aL) .shr]
def abS:AK:= .box 5 ak aj1
def abZ:AK:= .box 5 ah amd
def acZ:AK:= .val (.sl az) jz
def acG:AK:= .val (.sl ah) ag5
def adn:AK:= .val (.sl ab) akA
def acY:AK:= .box 5 ak alU
def ahq:AK:= .val (.sl aj) SZ
def agF:List PK:=[.val dO .leaf]
def agu:List RK:=[.val (.sl aj) .own]
def af9:List RK:=[.val aN akN]
def ahl:List RK:=[.val (.sl bj) .own]
def agW:List RK:=[.val ah ajI]
def ag3:List RK:=[.val aw anl]
def ag8:AK:= .val (.sl ab) amc
def agL:List PK:=[.val aj KO,.val dO .leaf]
def aha:AK:= .box 14 ah alH
def afH:List PK:=[.io aN wK,.val dO .leaf,.val dO .leaf]
def ag7:AK:= .box 5 az (.pair .leaf lR)
def agj:AK:= .box 6 ab XZ
def ahj:AK:= .box 5 aw ai8
def agY:AK:= .val (.sl cJ) jz
def afA:List PK:=[.val (.sl ab) .shr,.val (.sl ab) .shr]
def aiT:AK:= .val (.sl (.int .u8)) (.sl (.sha [3]))
def ajT:List RK:=[.val (.sl .str) .own]
def ajN:List PK:=[.val dO .leaf,.val dO .leaf,.val dO .leaf]
def aiQ:List RK:=[.val aj (.pair .leaf WU)]
def akI:List PK:=[.val (.sl bj) .shr]
def akc:AK:= .val (.sl ak) SZ
def akS:List PK:=[.val (.sl ak) .shr]
def akR:List RK:=[.val (.sl ab) .hd]
def ajo:List PK:=[.val fX Ir,.val ab sO]
def ajm:List PK:=[.io aN wK,.val dO .leaf,.val ah Fe]
def aj9:List PK:=[.io aN wK,.val aw TL]
def akw:List PK:=[.val az Mg,.val (.sl al) .shr]
def akM:List PK:=[.val aj KO,.val (.sl al) .shr]
def ajf:AK:= .ept 13 aw 0 [] aw
def akE:AK:= .box 6 az (.pair .leaf agp)
def ai1:List PK:=[.val (.sl .str) .shr,.val .str .leaf]
def aiZ:AK:= .val (.sl al) afB
def akj:List PK:=[.val (.sl al) .shr,.val (.sl .str) .shr]
def ajZ:List PK:=[.val ab sO,.val (.sl .str) .shr]
def ajB:List PK:=[.val (.sl ak) .shr,.val (.sl al) .shr]
def aku:List PK:=[.val ak Eb,.val dO .leaf,.val dO .leaf]
def ai7:List PK:=[.val fX Ir,.val ak Eb]
def ajg:List PK:=[.val aL Ho,.val aL Ho]
def ako:AK:= .box 6 cJ (.pair .leaf aj7)
def akF:AK:= .val (.sl vD) (.sl (.row 7 [2] false))
def akg:List RK:=[.val (.sl aj) .pv]
def ajr:List PK:=[.io qF Ff,.val dO .leaf,.val dO .leaf]
def akh:AK:= .val (.sl aL) acI
def aiU:AK:= .val (.sl aw) afD
def ajA:AK:= .val (.int .u32) .leaf
def ajl:List PK:=[.val aj KO,.val dO .leaf,.val dO .leaf]
def akL:List PK:=[.val (.sl dO) .shr,.val (.sl dO) .shr]
def ajQ:List PK:=[.val aN xW,.val ah Fe]
def ajj:List PK:=[.val ak Eb,.val (.sl .str) .shr]
def ajt:List PK:=[.val (.sl ak) .shr,.val (.sl .str) .shr]
def akk:List PK:=[.val aN xW,.val dO .leaf,.val (.sl al) .shr]
def ajP:AK:= .val (.sl ab) ai3
def ajO:AK:= .box 4 bj (.pair jz .leaf)
def akr:List RK:=[.val aN xW,.val dO .leaf]
def aF{a:List (FuncId×wj)}(hc:aC prog a)(b c:Nat->Option C5)(k:Nat){f:FuncId}{fn:Func}(e:prog.funcs[f]?=some fn){ps:List PK}{rs:List RK}{d:List (Nat×List Bool)}{F:bu (ps.map PK.ty)->Option (bu (rs.map RK.ty++bR ps))}(h:(fnB fn ps.length,λx=>Nl (abh TT a b c k) ps rs d fn x)=(true,F)):aC prog ((f,⟨ps,rs,F,d⟩)::a):=aC.sQ amv mixed hc b c k e (congrArg Prod.fst h) (λx=>congrFun (congrArg Prod.snd h) x)
section
variable(k:Nat)
def Ea:aE:=(318,Cw k)::([]:List (FuncId×wj))
def MU:aC prog (Ea k):=⟨TN k,(show aC prog []from trivial)⟩
def Bw:aE:=(129,Al k)::(Ea k)
def JH:aC prog (Bw k):=⟨P0 k,(MU k)⟩
def OR:aE:=(12,⟨Te,bm,Fj k,[]⟩)::(Bw k)
def acF:aC prog (OR k):=aF (JH k) nA nA k func12 (by kernel_rfl)
def WD:aP:=λ|3=>some ⟨[(0,aiT),(3,aK),(4,aK)],4⟩|_=>none
def Vb:aP:=λ|6=>some ⟨[(0,aiT),(3,aK)],4⟩|_=>none
def H7:aE:=(74,⟨Te,[.nbox qF Ff],nP k,[]⟩)::(OR k)
def W0:aC prog (H7 k):=aF (acF k) WD Vb k func74 (by kernel_rfl)
def FL:aE:=(76,⟨[.val (.sl (.int .u8)) .rom,.val dO .leaf],fU,lT k,[]⟩)::(H7 k)
def VV:aC prog (FL k):=aF (W0 k) nA nA k func76 (by kernel_rfl)
def Gq:aE:=(172,⟨jC,fU,kz k,[]⟩)::(FL k)
def WC:aC prog (Gq k):=aF (VV k) nA nA k func172 (by kernel_rfl)
def Ct:aE:=(91,⟨YK,fU,aH k,[]⟩)::(Gq k)
def Tg:aC prog (Ct k):=aF (WC k) nA nA k func91 (by kernel_rfl)
def HH:aE:=(109,⟨[.io qF Ff,.val (.sl dO) .shr],fU,bo k,[]⟩)::(Ct k)
def XG:aC prog (HH k):=aF (Tg k) nA nA k func109 (by kernel_rfl)
def Kf:aE:=(281,⟨jC,ajT,mY k,[]⟩)::(HH k)
def Zo:aC prog (Kf k):=aF (XG k) nA nA k func281 (by kernel_rfl)
def D4:aE:=(170,⟨jC,acs,nC k,[]⟩)::(Kf k)
def Th:aC prog (D4 k):=aF (Zo k) nA nA k func170 (by kernel_rfl)
def Km:aE:=(93,⟨ajN,bm,bP k,[]⟩)::(D4 k)
def Z4:aC prog (Km k):=aF (Th k) nA nA k func93 (by kernel_rfl)
def Rm:aP:=λ|2=>some ⟨[(0,wo),(3,aK)],4⟩|_=>none
def Rx:aP:=λ|6=>some ⟨[(0,wo)],4⟩|_=>none
def Gs:aE:=(282,⟨Q7,bm,o9 k,[]⟩)::(Km k)
def VI:aC prog (Gs k):=aF (Z4 k) Rm Rx k func282 (by kernel_rfl)
def Kc:aE:=(246,⟨[.val .str .leaf,.val .str .leaf],bm,jK k,[]⟩)::(Gs k)
def Z9:aC prog (Kc k):=aF (VI k) nA nA k func246 (by kernel_rfl)
def Nz:aP:=λ|2=>some ⟨[(0,nX),(3,aK)],4⟩|_=>none
def Dh:aE:=(283,⟨acR,bm,lq k,[]⟩)::(Kc k)
def SP:aC prog (Dh k):=aF (Z9 k) Nz nA k func283 (by kernel_rfl)
def XV:aP:=λ|2=>some ⟨[(0,nX),(3,aK)],4⟩|_=>none
def X9:aP:=λ|6=>some ⟨[(0,nX)],4⟩|_=>none
def Kd:aE:=(173,⟨acR,bm,xd k,[]⟩)::(Dh k)
def Z8:aC prog (Kd k):=aF (SP k) XV X9 k func173 (by kernel_rfl)
def F5:aE:=(92,⟨YQ,bm,ph k,[]⟩)::(Kd k)
def Vv:aC prog (F5 k):=aF (Z8 k) nA nA k func92 (by kernel_rfl)
def Dt:aE:=(106,⟨YQ,acs,od k,[]⟩)::(F5 k)
def Rj:aC prog (Dt k):=aF (Vv k) nA nA k func106 (by kernel_rfl)
def ME:aP:=λ|2=>some ⟨[(0,aK),(3,ahq)],5⟩|_=>none
def Bh:aE:=(107,⟨agF,agu,me k,[]⟩)::(Dt k)
def Pn:aC prog (Bh k):=aF (Rj k) ME nA k func107 (by kernel_rfl)
def Mf:aP:=λ|5=>some ⟨[(1,Xs),(2,E9),(3,.box 6 aN ai4),(4,aK)],10⟩|9=>some ⟨[(1,Xs),(2,E9),(3,.box 6 aN (.pair He (.pair .leaf (.pair .leaf (.pair BT (.pair Li (.pair lR (.pair .leaf (.pair lR (.pair .leaf (.pair lR (.pair lR (.pair lR (.pair XN lR)))))))))))))),(5,aK)],11⟩|_=>none
def LK:aP:=λ|8=>some ⟨[(1,Xs),(2,E9),(3,.box 6 aN ai4)],10⟩|_=>none
def Ao:aE:=(27,⟨YQ,af9,qd k,[]⟩)::(Bh k)
def NM:aC prog (Ao k):=aF (Pn k) Mf LK k func27 (by kernel_rfl)
def GA:aE:=(146,⟨YC,YO,bY k,[]⟩)::(Ao k)
def VW:aC prog (GA k):=aF (NM k) nA nA k func146 (by kernel_rfl)
def U2:aP:=λ|3=>some ⟨[(0,oO),(3,R5),(4,aK)],5⟩|_=>none
def Hg:aE:=(210,⟨RY,RG,db k,[]⟩)::(GA k)
def Xy:aC prog (Hg k):=aF (VW k) U2 nA k func210 (by kernel_rfl)
def Gi:aE:=(345,⟨abm,acE,lV k,[]⟩)::(Hg k)
def Vy:aC prog (Gi k):=aF (Xy k) nA nA k func345 (by kernel_rfl)
def QR:aP:=λ|3=>some ⟨[(1,uf),(2,Xw),(3,ads),(4,aK)],8⟩|_=>none
def Ge:aE:=(302,⟨acN,aiQ,ma k,[]⟩)::(Gi k)
def U8:aC prog (Ge k):=aF (Vy k) QR nA k func302 (by kernel_rfl)
def Q3:aP:=λ|3=>some ⟨[(0,sG),(3,ahq),(4,aK)],5⟩|_=>none
def FA:aE:=(208,⟨GU,agu,tA k,[]⟩)::(Ge k)
def Vi:aC prog (FA k):=aF (U8 k) Q3 nA k func208 (by kernel_rfl)
def Fu:aE:=(303,⟨Yk,WS,lU k,[]⟩)::(FA k)
def Va:aC prog (Fu k):=aF (Vi k) nA nA k func303 (by kernel_rfl)
end
end Vg.Tryz
namespace Vg.Tryz
open Go Vg Go.Proofs
set_option maxRecDepth 1000000
def VY:aP:=λ|3=>some ⟨[(0,Hp),(3,.val (.sl bj) SZ),(4,aK)],5⟩|_=>none
section
variable(k:Nat)
def H5:aE:=(209,⟨akI,ahl,zW k,[]⟩)::(Fu k)
def Ym:aC prog (H5 k):=aF (Va k) VY nA k func209 (by kernel_rfl)
def CC:aE:=(304,⟨[.val ak Eb],WZ,jt k,[]⟩)::(H5 k)
def S4:aC prog (CC k):=aF (Ym k) nA nA k func304 (by kernel_rfl)
def OM:aP:=λ|3=>some ⟨[(0,ub),(3,akc),(4,aK)],5⟩|_=>none
def Db:aE:=(211,⟨akS,abd,jB k,[]⟩)::(CC k)
def Rg:aC prog (Db k):=aF (S4 k) OM nA k func211 (by kernel_rfl)
def Bq:aE:=(212,⟨[.val cJ q52],[.val cJ q53],kf k,[]⟩)::(Db k)
def N9:aC prog (Bq k):=aF (Rg k) nA nA k func212 (by kernel_rfl)
def Ch:aE:=(213,⟨Tm,agW,nJ k,[]⟩)::(Bq k)
def Sn:aC prog (Ch k):=aF (N9 k) nA nA k func213 (by kernel_rfl)
def DD:aE:=(305,⟨acU,ag3,n0 k,[]⟩)::(Ch k)
def Sx:aC prog (DD k):=aF (Sn k) nA nA k func305 (by kernel_rfl)
def Q5:aP:=λ|3=>some ⟨[(0,Xn),(3,.val (.sl aw) SZ),(4,aK)],5⟩|_=>none
def FD:aE:=(214,⟨[.val (.sl aw) .shr],[.val (.sl aw) .own],xU k,[]⟩)::(DD k)
def Ws:aC prog (FD k):=aF (Sx k) Q5 nA k func214 (by kernel_rfl)
def Ov:aP:=λ|11=>some ⟨[(1,eE),(2,E9),(3,.box 6 aN ajc),(4,.box 14 fX He),(5,aK)],15⟩|18=>some ⟨[(1,eE),(2,E9),(3,.box 6 aN aiW),(4,.box 16 fX He),(7,aK)],17⟩|_=>none
def Ns:aP:=λ|15=>some ⟨[(1,eE),(2,E9),(3,.box 6 aN ajc),(4,.box 14 fX He)],15⟩|22=>some ⟨[(1,eE),(2,E9),(3,.box 6 aN aiW),(4,.box 16 fX He)],17⟩|_=>none
def Cv:aE:=(113,⟨xV,af9,fQ k,[]⟩)::(FD k)
def SB:aC prog (Cv k):=aF (Ws k) Ov Ns k func113 (by kernel_rfl)
def GX:aE:=(299,⟨XL,Mn,gV k,[]⟩)::(Cv k)
def YW:aC prog (GX k):=aF (SB k) nA nA k func299 (by kernel_rfl)
def Ft:aE:=(137,⟨YK,bm,dt k,[]⟩)::(GX k)
def Ve:aC prog (Ft k):=aF (YW k) nA nA k func137 (by kernel_rfl)
def Se:aP:=λ|3=>some ⟨[(0,j7),(3,.val (.sl al) agZ),(11,.val (.sl .str) (.sl (.row 6 [] true))),(12,aK),(13,aK)],7⟩|_=>none
def Gb:aE:=(241,⟨jC,Ht,gw k,[]⟩)::(Ft k)
def U3:aC prog (Gb k):=aF (Ve k) Se nA k func241 (by kernel_rfl)
def Dk:aE:=(298,⟨jC,Mn,oc k,[]⟩)::(Gb k)
def TC:aC prog (Dk k):=aF (U3 k) nA nA k func298 (by kernel_rfl)
def FU:aE:=(197,⟨jC,YO,cm k,[]⟩)::(Dk k)
def VF:aC prog (FU k):=aF (TC k) nA nA k func197 (by kernel_rfl)
def Dz:aE:=(319,⟨jC,Mn,rR k,[]⟩)::(FU k)
def Q1:aC prog (Dz k):=aF (VF k) nA nA k func319 (by kernel_rfl)
def yS:aE:=(242,⟨jC,Mn,lI k,[]⟩)::(Dz k)
def K1:aC prog (yS k):=aF (Q1 k) nA nA k func242 (by kernel_rfl)
def ym:aE:=(198,⟨jC,Mn,iV k,[]⟩)::(yS k)
def JF:aC prog (ym k):=aF (K1 k) nA nA k func198 (by kernel_rfl)
def Hq:aE:=(130,⟨jC,Ht,lA k,[]⟩)::(ym k)
def XI:aC prog (Hq k):=aF (JF k) nA nA k func130 (by kernel_rfl)
def HN:aE:=(273,⟨jC,fU,vC k,[]⟩)::(Hq k)
def XY:aC prog (HN k):=aF (XI k) nA nA k func273 (by kernel_rfl)
def IH:aE:=(163,⟨jC,fU,nM k,[]⟩)::(HN k)
def Yd:aC prog (IH k):=aF (XY k) nA nA k func163 (by kernel_rfl)
def I2:aE:=(110,⟨jC,YO,eL k,[]⟩)::(IH k)
def Xp:aC prog (I2 k):=aF (Yd k) nA nA k func110 (by kernel_rfl)
def LO:aP:=λ|3=>some ⟨[(1,uf),(3,acX),(4,aK)],6⟩|_=>none
def AZ:aE:=(285,⟨acN,RG,kc k,[]⟩)::(I2 k)
def Nv:aC prog (AZ k):=aF (Xp k) LO nA k func285 (by kernel_rfl)
def Qk:aP:=λ|2=>some ⟨[(0,jZ),(1,jZ),(5,aK)],4⟩|_=>none
def OX:aP:=λ|8=>some ⟨[(0,jZ),(1,jZ)],4⟩|_=>none
def DF:aE:=(350,⟨acT,bm,kV k,[]⟩)::(AZ k)
def R8:aC prog (DF k):=aF (Nv k) Qk OX k func350 (by kernel_rfl)
def Q6:aP:=λ|3=>some ⟨[(0,oO),(3,ag8),(4,aK)],5⟩|7=>some ⟨[(0,oO),(3,ag8),(4,aK),(5,.box 5 ab aj2),(6,aK)],7⟩|_=>none
def SJ:aP:=λ|9=>some ⟨[(0,oO),(3,ag8),(4,aK),(5,.box 5 ab aj2),(6,aK)],7⟩|_=>none
def F3:aE:=(286,⟨RY,akR,lW k,[]⟩)::(DF k)
def V2:aC prog (F3 k):=aF (R8 k) Q6 SJ k func286 (by kernel_rfl)
def Jo:aP:=λ|3=>some ⟨[(0,sG),(3,R5),(4,aK)],5⟩|_=>none
def Jr:aP:=λ|6=>some ⟨[(3,R5)],5⟩|_=>none
def zz:aE:=(175,⟨GU,akR,dN k,[]⟩)::(F3 k)
def Lh:aC prog (zz k):=aF (V2 k) Jo Jr k func175 (by kernel_rfl)
def BJ:aE:=(336,⟨[.io qF Ff,.val (.sl ab) .shr],Ht,eS k,[]⟩)::(zz k)
def Px:aC prog (BJ k):=aF (Lh k) nA nA k func336 (by kernel_rfl)
def J0:aE:=(337,⟨xV,bm,pC k,[]⟩)::(BJ k)
def Zh:aC prog (J0 k):=aF (Px k) nA nA k func337 (by kernel_rfl)
def Qf:aP:=λ|22=>some ⟨[(0,j7),(3,QM),(4,ab9),(5,aK),(7,aK)],7⟩|_=>none
def NG:aP:=λ|9=>some ⟨[(0,j7),(3,QM),(4,ab9),(5,aK),(6,.box 7 ab (.pair BT (.pair .leaf XX)))],9⟩|20=>some ⟨[(0,j7),(3,QM),(4,ab9)],7⟩|26=>some ⟨[(0,j7),(3,QM),(4,ab9),(5,aK)],7⟩|_=>none
def DA:aE:=(262,⟨[.io qF Ff,.val aN xW],[.val vD (.pair .leaf (.pair .leaf (.pair UP .own)))],rQ k,[]⟩)::(J0 k)
def QW:aC prog (DA k):=aF (Zh k) Qf NG k func262 (by kernel_rfl)
def NR:aP:=λ|2=>some ⟨[(0,wo),(3,aK)],4⟩|_=>none
def OB:aP:=λ|6=>some ⟨[(0,wo)],4⟩|_=>none
def C7:aE:=(287,⟨Q7,bm,oe k,[]⟩)::(DA k)
def Tq:aC prog (C7 k):=aF (QW k) NR OB k func287 (by kernel_rfl)
def CB:aE:=(245,⟨[.val al Ho],bm,rq k,[]⟩)::(C7 k)
def TE:aC prog (CB k):=aF (Tq k) nA nA k func245 (by kernel_rfl)
def UX:aP:=λ|2=>some ⟨[(0,jZ),(3,aK)],4⟩|_=>none
def Wa:aP:=λ|6=>some ⟨[(0,jZ)],4⟩|_=>none
def Hy:aE:=(132,⟨LL,bm,iQ k,[]⟩)::(CB k)
def Yt:aC prog (Hy k):=aF (TE k) UX Wa k func132 (by kernel_rfl)
def DB:aE:=(177,⟨YC,bm,fP k,[]⟩)::(Hy k)
def Sv:aC prog (DB k):=aF (Yt k) nA nA k func177 (by kernel_rfl)
def Kl:aE:=(176,⟨ajo,bm,pM k,[]⟩)::(DB k)
def Ze:aC prog (Kl k):=aF (Sv k) nA nA k func176 (by kernel_rfl)
def Ae:aE:=(181,⟨agF,fU,eV k,[]⟩)::(Kl k)
def Lz:aC prog (Ae k):=aF (Ze k) nA nA k func181 (by kernel_rfl)
def Ai:aE:=(215,⟨ajm,[],eU k,[(0,(dZ 14 12))]⟩)::(Ae k)
def PJ:aC prog (Ai k):=aF (Lz k) nA nA k func215 (by kernel_rfl)
def Ay:aE:=(216,⟨aj9,[],dC k,[(0,(dZ 14 12))]⟩)::(Ai k)
def P8:aC prog (Ay k):=aF (PJ k) nA nA k func216 (by kernel_rfl)
def K6:aP:=λ|4=>some ⟨[(0,EG),(5,.box 14 ab Mr)],15⟩|_=>none
def Bd:aE:=(114,⟨[.io aN wK,.val dO .leaf,.val ab sO],[],qe k,[]⟩)::(Ay k)
def No:aC prog (Bd k):=aF (P8 k) nA K6 k func114 (by kernel_rfl)
def Ap:aE:=(133,⟨ajm,[],eM k,[]⟩)::(Bd k)
def Qm:aC prog (Ap k):=aF (No k) nA nA k func133 (by kernel_rfl)
def PD:aP:=λ|5=>some ⟨[(0,jZ),(3,wo),(4,aK)],4⟩|_=>none
def PS:aP:=λ|9=>some ⟨[(0,jZ),(3,wo),(4,aK)],4⟩|10=>some ⟨[(3,wo)],4⟩|_=>none
def Da:aE:=(354,⟨LL,Mn,rT k,[]⟩)::(Ap k)
def Sd:aC prog (Da k):=aF (Qm k) PD PS k func354 (by kernel_rfl)
def aaf:aP:=λ|3=>some ⟨[(0,wo),(3,aK),(4,aK)],4⟩|_=>none
def Qz:aE:=(353,⟨Q7,fU,oA k,[]⟩)::(Da k)
def aby:aC prog (Qz k):=aF (Sd k) aaf nA k func353 (by kernel_rfl)
def Fx:aE:=(294,⟨LL,fU,dX k,[]⟩)::(Qz k)
def Wl:aC prog (Fx k):=aF (aby k) nA nA k func294 (by kernel_rfl)
def F4:aE:=(293,⟨acg,fU,ia k,[]⟩)::(Fx k)
def Wq:aC prog (F4 k):=aF (Wl k) nA nA k func293 (by kernel_rfl)
def FF:aE:=(291,⟨ac2,fU,kB k,[]⟩)::(F4 k)
def V5:aC prog (FF k):=aF (Wq k) nA nA k func291 (by kernel_rfl)
def CR:aE:=(231,⟨[.rd aN,.val dO .leaf],fU,lr k,[]⟩)::(FF k)
def Tk:aC prog (CR k):=aF (V5 k) nA nA k func231 (by kernel_rfl)
def XW:aP:=λ|2=>some ⟨[(1,aK),(2,uf),(5,aK)],5⟩|_=>none
def Ku:aE:=(351,⟨agL,fU,mW k,[]⟩)::(CR k)
def Zn:aC prog (Ku k):=aF (Tk k) XW nA k func351 (by kernel_rfl)
def MV:aP:=λ|4=>some ⟨[(0,jZ),(1,jZ),(5,aK)],4⟩|_=>none
def DR:aE:=(184,⟨acT,bm,dD k,[]⟩)::(Ku k)
def Sk:aC prog (DR k):=aF (Zn k) MV nA k func184 (by kernel_rfl)
def PC:aP:=λ|2=>some ⟨[(1,jZ),(2,Ib),(5,aK)],5⟩|_=>none
def Ds:aE:=(352,⟨akw,fU,jy k,[]⟩)::(DR k)
def S7:aC prog (Ds k):=aF (Sk k) PC nA k func352 (by kernel_rfl)
def Fs:aE:=(290,⟨akM,ac9,tB k,[]⟩)::(Ds k)
def U6:aC prog (Fs k):=aF (S7 k) nA nA k func290 (by kernel_rfl)
def y0:aE:=(182,⟨ac2,ac9,il k,[]⟩)::(Fs k)
def Mk:aC prog (y0 k):=aF (U6 k) nA nA k func182 (by kernel_rfl)
def M1:aP:=λ|3=>some ⟨[(0,sG),(3,aK),(4,aK)],4⟩|6=>some ⟨[(0,sG),(3,aK),(4,aK),(5,aK)],4⟩|_=>none
def CX:aE:=(315,⟨GU,fU,sA k,[]⟩)::(y0 k)
def S6:aC prog (CX k):=aF (Mk k) M1 nA k func315 (by kernel_rfl)
def SK:aP:=λ|6=>some ⟨[(0,.box 4 aN (.pair Yi (.pair .leaf (.pair .leaf (.pair (.sl (.row 5 [1,5] false)) (.pair (.sl (.row 6 [1,6] false)) (.pair (.sl (.row 7 [1,7] false)) (.pair .leaf (.pair (.sl (.row 8 [1,8] false)) (.pair .leaf (.pair (.sl (.row 9 [1,9] false)) (.pair (.sl (.row 10 [1,10] false)) (.pair (.sl (.row 11 [1,11] false)) afQ))))))))))))),(1,aK),(8,ajf)],14⟩|_=>none
def Fy:aE:=(257,⟨[.io aN wK,.val dO .leaf,.val dO .leaf,.vx ab [12]],[],du k,[]⟩)::(CX k)
def Wk:aC prog (Fy k):=aF (S6 k) nA SK k func257 (by kernel_rfl)
def Ig:aE:=(391,⟨abk,bm,vT k,[]⟩)::(Fy k)
def Y8:aC prog (Ig k):=aF (Wk k) nA nA k func391 (by kernel_rfl)
def ID:aE:=(392,⟨acg,fU,yR k,[]⟩)::(Ig k)
def YL:aC prog (ID k):=aF (Y8 k) nA nA k func392 (by kernel_rfl)
def H8:aE:=(387,⟨abk,YO,u4 k,[]⟩)::(ID k)
def WL:aC prog (H8 k):=aF (YL k) nA nA k func387 (by kernel_rfl)
def Bc:aE:=(379,⟨[.val az Mg,.val ab sO],[.val az WU,.val .bool .leaf],mh k,[]⟩)::(H8 k)
def Oq:aC prog (Bc k):=aF (WL k) nA nA k func379 (by kernel_rfl)
def Wm:aP:=λ|10=>some ⟨[(2,uf),(3,QJ),(4,.box 6 aj xw),(6,.box 7 aj ajW),(7,aK),(8,aK)],9⟩|_=>none
def VP:aP:=λ|12=>some ⟨[(2,uf),(3,QJ),(4,.box 6 aj xw),(6,.box 7 aj ajW),(7,aK),(8,aK)],9⟩|_=>none
def IX:aE:=(362,⟨[.val aj KO,.val ab sO],[.val aj agt,.val .bool .leaf],qt k,[]⟩)::(Bc k)
def XH:aC prog (IX k):=aF (Oq k) Wm VP k func362 (by kernel_rfl)
def A4:aE:=(316,⟨[.val (.sl aj) .shr,.val ab sO],[.val (.sl aj) .pv,.val .bool .leaf],mM k,[]⟩)::(IX k)
def Oc:aC prog (A4 k):=aF (XH k) nA nA k func316 (by kernel_rfl)
def JL:aP:=λ|12=>some ⟨[(0,.box 4 aN (.pair Yi (.pair .leaf (.pair .leaf (.pair (.sl (.row 5 [5] false)) akK))))),(1,aK),(4,aha),(6,.box 15 ab (.pair (.sl (.row 16 [16] true)) (.pair .leaf XX))),(10,ajf)],17⟩|_=>none
def Ac:aE:=(232,⟨qP,[],oN k,[]⟩)::(A4 k)
def K5:aC prog (Ac k):=aF (Oc k) nA JL k func232 (by kernel_rfl)
def Kn:aE:=(346,⟨[.val bj ab5,.val ab sO],WS,sR k,[]⟩)::(Ac k)
def ZX:aC prog (Kn k):=aF (K5 k) nA nA k func346 (by kernel_rfl)
def Pl:aP:=λ|3=>some ⟨[(0,Hp),(3,.box 4 ab Mr),(5,.val (.sl bj) acI),(6,aK)],6⟩|_=>none
def Dq:aE:=(317,⟨[.val (.sl bj) .shr,.val ab sO],ahl,rm k,[]⟩)::(Kn k)
def SS:aC prog (Dq k):=aF (ZX k) Pl nA k func317 (by kernel_rfl)
def D9:aE:=(233,⟨qP,[],wJ k,[]⟩)::(Dq k)
def Ro:aC prog (D9 k):=aF (SS k) nA nA k func233 (by kernel_rfl)
def M3:aP:=λ|11=>some ⟨[(0,EG)],14⟩|_=>none
def CH:aE:=(123,⟨qP,bm,su k,[]⟩)::(D9 k)
def RH:aC prog (CH k):=aF (Ro k) nA M3 k func123 (by kernel_rfl)
def DK:aE:=(250,⟨afH,bm,lj k,[(0,(dZ 14 12))]⟩)::(CH k)
def QY:aC prog (DK k):=aF (RH k) nA nA k func250 (by kernel_rfl)
def FJ:aE:=(249,⟨qP,bm,tj k,[]⟩)::(DK k)
def VZ:aC prog (FJ k):=aF (QY k) nA nA k func249 (by kernel_rfl)
def D7:aE:=(251,⟨qP,[],rY k,[(0,(dZ 14 12))]⟩)::(FJ k)
def S0:aC prog (D7 k):=aF (VZ k) nA nA k func251 (by kernel_rfl)
def Ms:aP:=λ|2=>some ⟨[(0,abM),(1,aK),(4,aha),(5,aK)],15⟩|_=>none
def LU:aP:=λ|6=>some ⟨[(0,abM),(1,aK),(4,aha)],15⟩|_=>none
def Aq:aE:=(252,⟨qP,[],ql k,[]⟩)::(D7 k)
def Ol:aC prog (Aq k):=aF (S0 k) Ms LU k func252 (by kernel_rfl)
def Ny:aP:=λ|9=>some ⟨[(0,EG),(5,vL)],14⟩|_=>none
def DG:aE:=(136,⟨qP,bm,jv k,[]⟩)::(Aq k)
def QX:aC prog (DG k):=aF (Ol k) nA Ny k func136 (by kernel_rfl)
def KJ:aE:=(145,⟨[.val ab sO,.val dO .leaf],bm,sU k,[]⟩)::(DG k)
def ZI:aC prog (KJ k):=aF (QX k) nA nA k func145 (by kernel_rfl)
def Mb:aP:=λ|4=>some ⟨[(1,aK),(2,Ib),(4,ag7),(6,akE),(7,ada),(8,aK)],9⟩|_=>none
def Mu:aP:=λ|10=>some ⟨[(2,Ib),(4,ag7),(6,akE),(7,ada)],9⟩|_=>none
def Bj:aE:=(324,⟨[.val az Mg,.val dO .leaf],[.val az WU,.val (.sl ab) .own],qn k,[]⟩)::(KJ k)
def Pe:aC prog (Bj k):=aF (ZI k) Mb Mu k func324 (by kernel_rfl)
def Pp:aP:=λ|4=>some ⟨[(1,aK),(2,uf),(4,Xw),(6,ads),(7,ada),(8,aK)],9⟩|_=>none
def M0:aP:=λ|10=>some ⟨[(2,uf),(4,Xw),(6,ads),(7,ada)],9⟩|_=>none
def Dg:aE:=(256,⟨agL,[.val aj (.pair .leaf WU),.val (.sl ab) .own],rL k,[]⟩)::(Bj k)
def RT:aC prog (Dg k):=aF (Pe k) Pp M0 k func256 (by kernel_rfl)
def NK:aP:=λ|15=>some ⟨[(0,.box 4 aN (.pair (.pair .leaf (.pair .leaf (.pair .leaf (.pair .leaf (.pair .leaf (.sl (.sha [1,2,15]))))))) (.pair .leaf (.pair .leaf (.pair (.sl (.row 5 [1,2,5,15] false)) (.pair (.sl (.row 6 [1,2,6,15] false)) (.pair (.sl (.row 7 [1,2,7,15] false)) (.pair .leaf (.pair (.sl (.row 8 [1,2,8,15] false)) (.pair .leaf (.pair (.sl (.row 9 [1,2,9,15] false)) (.pair (.sl (.row 10 [1,2,10,15] false)) (.pair (.sl (.row 11 [1,2,11,15] false)) (.pair (.sl (.row 12 [12] true)) (.sl (.row 13 [1,2,13,15] false)))))))))))))))),(6,.box 14 aj (.pair .leaf (.pair .leaf afD)))],16⟩|_=>none
def DZ:aE:=(140,⟨qP,bm,n9 k,[]⟩)::(Dg k)
def Tf:aC prog (DZ k):=aF (RT k) nA NK k func140 (by kernel_rfl)
def C9:aE:=(223,⟨qP,bm,nH k,[(0,(dZ 14 12))]⟩)::(DZ k)
def Rb:aC prog (C9 k):=aF (Tf k) nA nA k func223 (by kernel_rfl)
def VH:aP:=λ|2=>some ⟨[(0,nX),(1,wo),(5,aK)],4⟩|_=>none
def HE:aE:=(377,⟨ai1,bm,uX k,[]⟩)::(C9 k)
def Xi:aC prog (HE k):=aF (Rb k) VH nA k func377 (by kernel_rfl)
def ON:aP:=λ|3=>some ⟨[(0,jZ),(1,nX),(5,aiZ),(6,aK)],5⟩|_=>none
def Cf:aE:=(358,⟨akj,Ht,wO k,[]⟩)::(HE k)
def Su:aC prog (Cf k):=aF (Xi k) ON nA k func358 (by kernel_rfl)
def I6:aE:=(311,⟨ajZ,Ht,gf k,[]⟩)::(Cf k)
def Yb:aC prog (I6 k):=aF (Su k) nA nA k func311 (by kernel_rfl)
def QF:aP:=λ|2=>some ⟨[(0,ub),(1,jZ),(5,aK)],4⟩|_=>none
def Ci:aE:=(310,⟨ajB,fU,iw k,[]⟩)::(I6 k)
def TP:aC prog (Ci k):=aF (Yb k) QF nA k func310 (by kernel_rfl)
end
def S1:aP:=λ|4=>some ⟨[(2,Hc),(3,QJ),(4,abW),(5,Sz),(6,acd),(7,aK)],12⟩|10=>some ⟨[(2,Hc),(3,QJ),(4,abW),(5,Sz),(6,acd),(8,aK)],12⟩|_=>none
def Tu:aP:=λ|9=>some ⟨[(2,Hc),(3,QJ),(4,abW),(5,Sz),(6,acd)],12⟩|12=>some ⟨[(2,Hc),(3,QJ),(4,abW),(5,Sz),(6,acd),(8,aK)],12⟩|_=>none
section
variable(k:Nat)
def F8:aE:=(359,⟨[.val ak Eb,.val ab sO],WZ,pj k,[]⟩)::(Ci k)
def V9:aC prog (F8 k):=aF (TP k) S1 Tu k func359 (by kernel_rfl)
def DN:aE:=(312,⟨[.val (.sl ak) .shr,.val ab sO,.val (.sl .str) .shr,.val dO .leaf,.val dO .leaf],[.val (.sl ak) .own,.val .bool .leaf],nT k,[]⟩)::(F8 k)
def Tz:aC prog (DN k):=aF (V9 k) nA nA k func312 (by kernel_rfl)
def Pk:aP:=λ|2=>some ⟨[(0,ub),(1,aK),(5,aK)],4⟩|_=>none
def DC:aE:=(360,⟨[.val (.sl ak) .shr,.val dO .leaf],fU,kX k,[]⟩)::(DN k)
def Tt:aC prog (DC k):=aF (Tz k) Pk nA k func360 (by kernel_rfl)
def CI:aE:=(297,⟨aku,fU,wQ k,[]⟩)::(DC k)
def Sb:aC prog (CI k):=aF (Tt k) nA nA k func297 (by kernel_rfl)
def QA:aE:=(190,⟨ai7,fU,uP k,[]⟩)::(CI k)
def abP:aC prog (QA k):=aF (Sb k) nA nA k func190 (by kernel_rfl)
def Fo:aE:=(296,⟨ajg,bm,ky k,[]⟩)::(QA k)
def UZ:aC prog (Fo k):=aF (abP k) nA nA k func296 (by kernel_rfl)
def Pr:aP:=λ|3=>some ⟨[(3,Yh),(5,Yw),(6,aK)],6⟩|_=>none
def Cm:aE:=(348,⟨[.val (.sl aL) .shr,.val aL Ho],ac6,nQ k,[]⟩)::(Fo k)
def QZ:aC prog (Cm k):=aF (UZ k) Pr nA k func348 (by kernel_rfl)
def Gk:aE:=(313,⟨qP,[],pw k,[(0,(dZ 14 12))]⟩)::(Cm k)
def Vk:aC prog (Gk k):=aF (QZ k) nA nA k func313 (by kernel_rfl)
def Dx:aE:=(224,⟨ac8,[],rb k,[]⟩)::(Gk k)
def R4:aC prog (Dx k):=aF (Vk k) nA nA k func224 (by kernel_rfl)
def GL:aP:=λ|11=>some ⟨[(0,EG),(3,vL)],14⟩|_=>none
def xM:aE:=(118,⟨ac8,bm,mz k,[]⟩)::(Dx k)
def GS:aC prog (xM k):=aF (R4 k) nA GL k func118 (by kernel_rfl)
def MQ:aP:=λ|8=>some ⟨[(0,um),(3,Yh),(5,aK),(6,Yw),(7,aK)],6⟩|_=>none
def MD:aP:=λ|7=>some ⟨[(0,um),(3,Yh),(5,aK),(6,Yw)],6⟩|12=>some ⟨[(0,um),(3,Yh),(5,aK),(6,Yw),(7,aK),(8,aK)],6⟩|17=>some ⟨[(0,um),(3,Yh),(6,Yw)],6⟩|_=>none
def Bz:aE:=(382,⟨abv,[.val (.sl aL) .own,.val aL Ho,.val .bool .leaf],qm k,[]⟩)::(xM k)
def QB:aC prog (Bz k):=aF (GS k) MQ MD k func382 (by kernel_rfl)
def WB:aP:=λ|5=>some ⟨[(1,aK),(2,Hc),(4,abS),(5,ako),(6,Sz),(7,aK)],10⟩|_=>none
def VJ:aP:=λ|10=>some ⟨[(1,aK),(2,Hc),(4,abS),(5,ako),(6,Sz)],10⟩|_=>none
def HA:aE:=(393,⟨[.val ak Eb,.val dO .leaf],[.val ak ajp,.val cJ q53],vg k,[]⟩)::(Bz k)
def Y3:aC prog (HA k):=aF (QB k) WB VJ k func393 (by kernel_rfl)
def DY:aE:=(390,⟨[.val (.sl ak) .shr,.val dO .leaf,.val dO .leaf],[.val (.sl ak) .own,.val cJ q53,.val .bool .leaf],re k,[]⟩)::(HA k)
def RB:aC prog (DY k):=aF (Y3 k) nA nA k func390 (by kernel_rfl)
def Bm:aE:=(383,⟨ac8,[],pT k,[]⟩)::(DY k)
def Oe:aC prog (Bm k):=aF (RB k) nA nA k func383 (by kernel_rfl)
def EV:aP:=λ|11=>some ⟨[(0,EG),(3,vL)],14⟩|_=>none
def wi:aE:=(366,⟨ac8,bm,lO k,[]⟩)::(Bm k)
def GN:aC prog (wi k):=aF (Oe k) nA EV k func366 (by kernel_rfl)
def WA:aP:=λ|9=>some ⟨[(0,abM),(1,aK)],14⟩|_=>none
def HX:aE:=(321,⟨qP,bm,qN k,[]⟩)::(wi k)
def XF:aC prog (HX k):=aF (GN k) nA WA k func321 (by kernel_rfl)
def Kw:aE:=(322,⟨Yk,[.val bj akt,.val ab UP,.val dO .leaf],pL k,[]⟩)::(HX k)
def Z6:aC prog (Kw k):=aF (XF k) nA nA k func322 (by kernel_rfl)
def V0:aP:=λ|18=>some ⟨[(0,abM),(3,.box 14 vD ajE),(5,vL),(6,aK)],15⟩|40=>some ⟨[(0,EG),(3,.box 14 vD ajE)],15⟩|_=>none
def H9:aE:=(253,⟨[.io aN wK,.val vD (.pair .leaf (.pair .leaf (.pair sO .shr)))],bm,vM k,[]⟩)::(Kw k)
def XE:aC prog (H9 k):=aF (Z6 k) nA V0 k func253 (by kernel_rfl)
def RO:aP:=λ|5=>some ⟨[(0,j7),(4,E9),(6,.box 6 aN abo),(7,akF),(8,.box 8 aN ake),(9,.box 19 aN akb),(10,aK)],29⟩|_=>none
def RW:aP:=λ|12=>some ⟨[(0,j7),(4,E9),(6,.box 6 aN abo),(7,akF),(8,.box 8 aN ake),(9,.box 19 aN akb)],29⟩|_=>none
def Gt:aE:=(150,⟨YK,[.val aN akN,.val (.sl vD) .hd,.val aN wK],tq k,[]⟩)::(H9 k)
def Wc:aC prog (Gt k):=aF (XE k) RO RW k func150 (by kernel_rfl)
def Au:aE:=(75,⟨YK,[.val aN wK],p9 k,[]⟩)::(Gt k)
def Nc:aC prog (Au k):=aF (Wc k) nA nA k func75 (by kernel_rfl)
def HQ:aE:=(171,⟨jC,ajT,uZ k,[]⟩)::(Au k)
def YB:aC prog (HQ k):=aF (Nc k) nA nA k func171 (by kernel_rfl)
def F7:aE:=(88,⟨jC,acs,tz k,[]⟩)::(HQ k)
def Vc:aC prog (F7 k):=aF (YB k) nA nA k func88 (by kernel_rfl)
def S8:aP:=λ|3=>some ⟨[(0,j7),(3,.val (.sl aj) (.sl (.row 5 [5] false))),(4,aK)],6⟩|_=>none
def FW:aE:=(274,⟨jC,akg,tD k,[]⟩)::(F7 k)
def U0:aC prog (FW k):=aF (Vc k) S8 nA k func274 (by kernel_rfl)
def RN:aP:=λ|3=>some ⟨[(0,j7),(1,aK),(2,aK),(6,Xw),(7,.box 6 aj (.pair .leaf (.pair .leaf (.sl (.row 7 [7] false))))),(8,aK)],8⟩|_=>none
def Gv:aE:=(343,⟨ajr,[.val aj agt],tU k,[]⟩)::(FW k)
def Vq:aC prog (Gv k):=aF (U0 k) RN nA k func343 (by kernel_rfl)
def QH:aP:=λ|4=>some ⟨[(0,j7),(2,ag7),(3,agj),(4,.box 8 az (.pair .leaf Li)),(5,aK)],10⟩|_=>none
def Fm:aE:=(373,⟨jC,acE,tv k,[]⟩)::(Gv k)
def Vu:aC prog (Fm k):=aF (Vq k) QH nA k func373 (by kernel_rfl)
end
end Vg.Tryz
