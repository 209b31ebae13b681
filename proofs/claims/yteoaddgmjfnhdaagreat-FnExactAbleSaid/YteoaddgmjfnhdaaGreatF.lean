/- Texts of this law, joined. -/
import Derived.Test.YteoaddgmjfnhdaaGreatFa
import Derived.Shelf.Strings.OnBuilder
import Derived.Test.YteoaddgmjfnhdaaGreatProg
import Derived.Test.YteoaddgmjfnhdaaGreatVd
import Derived.Deep.QuietTactic
import Derived.WalkKit
import Derived.Shelf.GgSortFunc.Lays
import Derived.Shelf.GgSortMore.Bridge
import Derived.Ground.GgtProg
set_option linter.unusedSimpArgs false
set_option linter.unusedVariables false
set_option linter.unusedSectionVars false
open List renaming drop_eq_getElem_cons → akp,getElem?_eq_getElem → akq,drop_length → akr,length_drop → aks
namespace Vg.Tryz
open Go Vg
open List renaming getD→gd,length→ln,set→se,drop→dr,take→ta
open Int renaming toNat→tn
open Option renaming bind→bi
open Decidable renaming decide→dc
def oQ (k:Nat) (x:List aG×Unit):Option (Bool×Unit):=bi (bN k ((ln x.1:Int),1,3,())) fun r1=>if !r1.1 then some (false,())else aH k (fun G2 (t3:List aG×List aG×Int×Int×Unit)=>if dc (t3.2.2.2.1<t3.2.2.1)then if dc (0≤t3.2.2.2.1∧t3.2.2.2.1<ln t3.2.1)then bi (qA k (gd t3.2.1 (tn t3.2.2.2.1) aj.aa,t3.2.2.2.1,(ln t3.1:Int),())) fun r4=>if !r4.1 then some (false,())else G2 (t3.1,t3.2.1,t3.2.2.1,IntKind.i64.wrap (t3.2.2.2.1+1),())else none else some (true,())) (x.1,x.1,(ln x.1:Int),0,())
def lx (k:Nat) (x:List aG×Unit):Option (Int×Unit):=aH k (fun G1 (t2:Int×List aG×Int×Int×Unit)=>let v1:=(gd t2.2.1 (tn t2.2.2.2.1) aj.aa).2;if dc (t2.2.2.2.1<t2.2.2.1)then if dc (0≤t2.2.2.2.1∧t2.2.2.2.1<ln t2.2.1)then aH k (fun G3 (t4:Int×aG×List aG×Int×Int×List aO×Int×Int×Unit)=>let v2:=t4.2.2.2.2.2;if dc (v2.2.2.1<v2.2.1)then if dc (0≤v2.2.2.1∧v2.2.2.1<ln v2.1)then G3 (IntKind.i64.wrap (t4.1+((ln (gd v2.1 (tn v2.2.2.1) ax.aa).2:Nat):Int)),t4.2.1,t4.2.2.1,t4.2.2.2.1,t4.2.2.2.2.1,v2.1,v2.2.1,IntKind.i64.wrap (v2.2.2.1+1),())else none else G1 (t4.1,t4.2.2.1,t4.2.2.2.1,IntKind.i64.wrap (t4.2.2.2.2.1+1),())) (t2.1,gd t2.2.1 (tn t2.2.2.2.1) aj.aa,t2.2.1,t2.2.2.1,t2.2.2.2.1,v1.2,((ln (v1.2):Nat):Int),0,())else none else some (t2.1,())) ((0:Int),x.1,(ln x.1:Int),0,())
def ij (k:Nat) (x:aG×Unit):Option (List af×Unit):=aH k (fun G1 (t2:aG×List af×List aO×Int×Int×Unit)=>if dc (t2.2.2.2.2.1<t2.2.2.2.1)then if dc (0≤t2.2.2.2.2.1∧t2.2.2.2.2.1<ln t2.2.2.1)then bi (bB k ((gd t2.2.2.1 (tn t2.2.2.2.2.1) ax.aa).2,())) fun r3=>if dc (ln t2.2.1+ln r3.1<4294967296)then G1 (t2.1,t2.2.1++r3.1,t2.2.2.1,t2.2.2.2.1,IntKind.i64.wrap (t2.2.2.2.2.1+1),())else none else none else some (t2.2.1,())) (x.1,[],x.1.2.2,(ln x.1.2.2:Int),0,())
def mb (k:Nat) (x:List aG×Unit):Option (List af×Unit):=aL (fun J1=>aH k (fun G3 (t4:List af×List aG×Int×Int×Unit)=>if dc (t4.2.2.2.1<t4.2.2.1)then if dc (0≤t4.2.2.2.1∧t4.2.2.2.1<ln t4.2.1)then bi (ij k (gd t4.2.1 (tn t4.2.2.2.1) aj.aa,())) fun r5=>if dc (ln t4.1+ln r5.1<4294967296)then G3 (t4.1++r5.1,t4.2.1,t4.2.2.1,IntKind.i64.wrap (t4.2.2.2.1+1),())else none else none else J1 (t4.1,())) (([]:List af),x.1,(ln x.1:Int),0,())) (fun(t2:List af×Unit)=>bi (fG k (t2.1,())) fun r6=>some (r6.1,()))
def pW (k:Nat) (x:bT×af×Unit):Option (Bool×Unit):=bi (eS k (x.2.1,())) fun r1=>some (if r1.1 then dc (x.2.1.2.2.1≤99899)else false,())
def kG (k:Nat) (x:ak×Unit):Option (Bool×Unit):=let v1:=((ln x.1.2.2.2.1:Int):Int);bi (oQ k (x.1.2.2.2.1,())) fun r1=>bi (if((if !r1.1 then true else v1 != x.1.1.1):Bool)==false then lx k (x.1.2.2.2.1,())else some (0,())) fun r2=>if if if !r1.1 then true else v1 != x.1.1.1 then true else dc (r2.1>x.1.1.2.1)then some (false,())else bi (mb k (x.1.2.2.2.1,())) fun r3=>aH k (fun G4 (t5:ak×List af×Int×Int×Unit)=>if dc (t5.2.2.2.1<t5.2.2.1)then if dc (0≤t5.2.2.2.1∧t5.2.2.2.1<ln t5.2.1)then bi (pW k (t5.1.1,gd t5.2.1 (tn t5.2.2.2.1) ab.aa,())) fun r6=>if !r6.1 then some (false,())else G4 (t5.1,t5.2.1,t5.2.2.1,IntKind.i64.wrap (t5.2.2.2.1+1),())else none else some (true,())) (x.1,r3.1,(ln r3.1:Int),0,())
def fP (k:Nat) (x:List af×Unit):Option (Bool×Unit):=aH k (fun G1 (t2:List af×Int×Int×Unit)=>if dc (t2.2.2.1<t2.2.1)then if dc (0≤t2.2.2.1∧t2.2.2.1<ln t2.1)then bi (eS k (gd t2.1 (tn t2.2.2.1) ab.aa,())) fun r3=>if !r3.1 then some (false,())else G1 (t2.1,t2.2.1,IntKind.i64.wrap (t2.2.2.1+1),())else none else some (true,())) (x.1,(ln x.1:Int),0,())
def sO (k:Nat) (x:bp×Unit):Option (Bool×Unit):=let v1:=((ln x.1.1:Int):Int);if x.1.2 then some (v1==0,())else bi (if dc (v1≤3)==true then fP k (x.1.1,())else some (false,())) fun r1=>some (if dc (v1≤3)then r1.1 else false,())
def lX (k:Nat) (x:List bp×bT×Unit):Option (Bool×Unit):=aL (fun J1=>aH k (fun G3 (t4:List bp×bT×List bp×Int×Int×Unit)=>if dc (t4.2.2.2.2.1<t4.2.2.2.1)then if dc (0≤t4.2.2.2.2.1∧t4.2.2.2.2.1<ln t4.2.2.1)then bi (sO k (gd t4.2.2.1 (tn t4.2.2.2.2.1) aW.aa,())) fun r5=>if !r5.1 then some (false,())else G3 (t4.1,t4.2.1,t4.2.2.1,t4.2.2.2.1,IntKind.i64.wrap (t4.2.2.2.2.1+1),())else none else J1 (t4.1,t4.2.1,())) (x.1,x.2.1,x.1,(ln x.1:Int),0,())) (fun(t2:List bp×bT×Unit)=>some ((ln t2.1:Int)==t2.2.1.2.2.1,()))
def nk (k:Nat) (x:Int×Int×Unit):Option (Bool×Unit):=if x.1==1 then bi (bN k (x.2.1,1,4,())) fun r1=>some (r1.1,())else if x.1==3 then bi (bN k (x.2.1,5,6,())) fun r2=>some (r2.1,())else if x.1==7 then bi (bN k (x.2.1,1,3,())) fun r3=>some (r3.1,())else if x.1==8 then some (if x.2.1==8 then true else x.2.1==6,())else if x.1==9 then bi (bN k (x.2.1,5,7,())) fun r4=>some (r4.1,())else some (x.2.1==8,())
def mq (k:Nat) (x:aP×Unit):Option (Bool×Unit):=let v3:=x.1.2.2.2.2;let v1:=v3.2.2.2.2.2;let v2:=v1.2.2== -1;bi (bN k (x.1.1,1,9,())) fun r1=>bi (if(!r1.1)==false then bN k (x.1.2.1,-1,4,())else some (false,())) fun r2=>if if if if if if !r1.1 then true else !r2.1 then true else dc (v1.1<0)then true else dc (v3.1<0)then true else dc (v3.2.1<0)then true else dc (v3.2.2.2.2.1<0)then some (false,())else if v1.2.1== -1 then some (if v2 then v3.2.2.1==0 else false,())else bi (if((if dc (v1.2.1≥v1.1)then if v2 then true else dc (v1.2.2≥v1.2.1)else false):Bool)==true then nk k (x.1.1,v3.2.2.1,())else some (false,())) fun r3=>some (if if dc (v1.2.1≥v1.1)then if v2 then true else dc (v1.2.2≥v1.2.1)else false then r3.1 else false,())
def dm (k:Nat) (x:af×af×Unit):Option (Bool×Unit):=bi (da k (x.1.1,x.2.1.1,())) fun r1=>some (if if if r1.1 then x.1.2.1==x.2.1.2.1 else false then x.1.2.2.1==x.2.1.2.2.1 else false then ByteArray.toList x.1.2.2.2==ByteArray.toList x.2.1.2.2.2 else false,())
def jU (k:Nat) (x:List Int×List Int×Unit):Option (Bool×Unit):=if(ln x.1:Int) != (ln x.2.1:Int)then some (false,())else aH k (fun G1 (t2:List Int×List Int×Int×Int×Unit)=>let v1:=t2.2.2.2.1;if dc (v1<t2.2.2.1)then if dc (0≤v1∧v1<ln t2.1)then if dc (0≤v1∧v1<ln t2.2.1)then if((gd t2.1 (tn v1) 0):Int) != (gd t2.2.1 (tn v1) 0)then some (false,())else G1 (t2.1,t2.2.1,t2.2.2.1,IntKind.i64.wrap (v1+1),())else none else none else some (true,())) (x.1,x.2.1,(ln x.1:Int),0,())
def iF (k:Nat) (x:List af×List af×Unit):Option (Bool×Unit):=if(ln x.1:Int) != (ln x.2.1:Int)then some (false,())else aH k (fun G1 (t2:List af×List af×Int×Int×Unit)=>let v1:=t2.2.2.2.1;if dc (v1<t2.2.2.1)then if dc (0≤v1∧v1<ln t2.1)then if dc (0≤v1∧v1<ln t2.2.1)then bi (dm k (gd t2.1 (tn v1) ab.aa,gd t2.2.1 (tn v1) ab.aa,())) fun r3=>if !r3.1 then some (false,())else G1 (t2.1,t2.2.1,t2.2.2.1,IntKind.i64.wrap (v1+1),())else none else none else some (true,())) (x.1,x.2.1,(ln x.1:Int),0,())
def jY (k:Nat) (x:aN×aN×Unit):Option (Bool×Unit):=let v1:=x.1.1==x.2.1.1;let v2:=x.2.1.2.2.2.2;let v3:=x.1.2.2.2.2;let v4:=(x.1.2.1:Int);bi (if((if v1 then v4==x.2.1.2.1 else false):Bool)==true then dm k (x.1.2.2.1,x.2.1.2.2.1,())else some (false,())) fun r1=>bi (if((if if v1 then v4==x.2.1.2.1 else false then r1.1 else false):Bool)==true then da k (x.1.2.2.2.1,x.2.1.2.2.2.1,())else some (false,())) fun r2=>bi (if((if if if if v1 then v4==x.2.1.2.1 else false then r1.1 else false then r2.1 else false then v3.1==v2.1 else false):Bool)==true then jU k (v3.2.1,v2.2.1,())else some (false,())) fun r3=>bi (if((if if if if if v1 then v4==x.2.1.2.1 else false then r1.1 else false then r2.1 else false then v3.1==v2.1 else false then r3.1 else false):Bool)==true then iF k (v3.2.2.1,v2.2.2.1,())else some (false,())) fun r4=>some (if if if if if if if if v1 then v4==x.2.1.2.1 else false then r1.1 else false then r2.1 else false then v3.1==v2.1 else false then r3.1 else false then r4.1 else false then v3.2.2.2.1==v2.2.2.2.1 else false then v3.2.2.2.2==v2.2.2.2.2 else false,())
def qu (k:Nat) (x:aN×Unit):Option (Bool×Unit):=aL (fun J1=>aH k (fun G3 (t4:aN×List Int×Int×Int×Unit)=>if dc (t4.2.2.2.1<t4.2.2.1)then if dc (0≤t4.2.2.2.1∧t4.2.2.2.1<ln t4.2.1)then if dc (((gd t4.2.1 (tn t4.2.2.2.1) 0):Int)<0)then some (false,())else G3 (t4.1,t4.2.1,t4.2.2.1,IntKind.i64.wrap (t4.2.2.2.1+1),())else none else J1 (t4.1,())) (x.1,x.1.2.2.2.2.2.1,(ln x.1.2.2.2.2.2.1:Int),0,())) (fun(t2:aN×Unit)=>let v1:=(ln t2.1.2.2.2.2.2.1:Int) != t2.1.2.2.2.2.1;bi (if v1==false then fP k (t2.1.2.2.2.2.2.2.1,())else some (false,())) fun r5=>if if v1 then true else !r5.1 then some (false,())else if t2.1.2.1==2 then bi (bN k (t2.1.2.2.2.2.1,1,3,())) fun r6=>some (r6.1,())else bi (bN k (t2.1.2.2.2.2.1,0,2,())) fun r7=>some (r7.1,()))
def qD (k:Nat) (x:aN×Int×Unit):Option (Bool×Unit):=let v1:=x.1.2.2.2.2;let v2:=x.2.1<3;let v3:=v1.2.2.2;aL (fun J1=>bi (bN k (x.2.1,0,4,())) fun r3=>if !r3.1 then some (false,())else if x.1.1==0 then bi (jY k (x.1,(0,0,(([]:List ay),0,0,ByteArray.empty),[],0,[],[],0,0),())) fun r4=>some (r4.1,())else if if x.1.1==1 then dc v2 else false then bi (eS k (x.1.2.2.1,())) fun r5=>J1 (x.1,(x.1.1,x.1.2.1,x.1.2.2.1,[],0,[],[],0,v3.2),r5.1,2,())else if if x.1.1==2 then dc v2 else false then bi (jq k (x.1.2.2.2.1,())) fun r6=>J1 (x.1,(x.1.1,x.1.2.1,(([]:List ay),0,0,ByteArray.empty),x.1.2.2.2.1,0,[],[],0,v3.2),r6.1,1,())else if if x.1.1==3 then dc v2 else false then bi (qu k (x.1,())) fun r7=>J1 (x.1,(x.1.1,x.1.2.1,(([]:List ay),0,0,ByteArray.empty),[],v1.1,v1.2.1,v1.2.2.1,0,v3.2),r7.1,2,())else if if x.1.1==4 then dc v2 else false then bi (bN k (v1.1,0,2,())) fun r8=>J1 (x.1,(x.1.1,x.1.2.1,(([]:List ay),0,0,ByteArray.empty),[],v1.1,[],[],0,v3.2),r8.1,1,())else if if x.1.1==5 then x.2.1==3 else false then bi (eS k (x.1.2.2.1,())) fun r9=>J1 (x.1,(x.1.1,x.1.2.1,x.1.2.2.1,[],0,[],[],0,v3.2),r9.1,1,())else if if x.1.1==6 then x.2.1==4 else false then J1 (x.1,(x.1.1,x.1.2.1,(([]:List ay),0,0,ByteArray.empty),[],0,[],[],v3),dc (v3.1≥0),1,())else J1 (x.1,(x.1.1,x.1.2.1,(([]:List ay),0,0,ByteArray.empty),[],0,[],[],0,v3.2),false,1,())) (fun(t2:aN×aN×Bool×Int×Unit)=>bi (if t2.2.2.1==true then bN k (t2.1.2.1,0,t2.2.2.2.1,())else some (false,())) fun r10=>bi (if((if if t2.2.2.1 then r10.1 else false then dc (t2.1.2.2.2.2.2.2.2.2≥0)else false):Bool)==true then jY k (t2.1,t2.2.1,())else some (false,())) fun r11=>some (if if if t2.2.2.1 then r10.1 else false then dc (t2.1.2.2.2.2.2.2.2.2≥0)else false then r11.1 else false,()))
def mA (k:Nat) (x:List aG×List ay×Unit):Option (Int×Unit):=bi (eP k (x.2.1,())) fun r1=>bi (iy k (r1.1,(ln x.1:Int),())) fun r2=>some (r2.1,())
def gF (k:Nat) (x:aG×Int×Unit):Option (Int×Unit):=aH k (fun G1 (t2:Int×aG×List aO×Int×Int×Unit)=>let v1:=t2.2.2.2.2.1;if dc (v1<t2.2.2.2.1)then if dc (0≤v1∧v1<ln t2.2.2.1)then if(gd t2.2.2.1 (tn v1) ax.aa).1==t2.1 then some (v1,())else G1 (t2.1,t2.2.1,t2.2.2.1,t2.2.2.2.1,IntKind.i64.wrap (v1+1),())else none else some ((-1:Int),())) (x.2.1,x.1,x.1.2.2,(ln x.1.2.2:Int),0,())
def gz (k:Nat) (x:aO×List ay×Unit):Option (Int×Unit):=bi (dO k (x.1.2,x.2.1,())) fun r1=>some (r1.1,())
def qm (k:Nat) (x:aG×List ay×Unit):Option (af×Bool×Unit):=bi (eP k (x.2.1,())) fun r1=>bi (gF k (x.1,r1.1,())) fun r2=>let v1:=(gd x.1.2.2 (tn r2.1) ax.aa).2;if dc (r2.1<0)then some ((([]:List ay),0,0,ByteArray.empty),false,())else if dc (0≤r2.1∧r2.1<ln x.1.2.2)then bi (gz k (gd x.1.2.2 (tn r2.1) ax.aa,x.2.1,())) fun r3=>if dc (r3.1<0)then some ((([]:List ay),0,0,ByteArray.empty),false,())else if dc (0≤r2.1∧r2.1<ln x.1.2.2)then if dc (0≤r3.1∧r3.1<ln v1)then bi (bh k (gd v1 (tn r3.1) ab.aa,())) fun r4=>some (r4.1,true,())else none else none else none
def fl (k:Nat) (x:List aG×List ay×Unit):Option (af×Bool×Unit):=if(ln x.1:Int)==0 then some ((([]:List ay),0,0,ByteArray.empty),false,())else bi (mA k (x.1,x.2.1,())) fun r1=>if dc (0≤r1.1∧r1.1<ln x.1)then bi (qm k (gd x.1 (tn r1.1) aj.aa,x.2.1,())) fun r2=>some (r2.1,r2.2.1,())else none
def l0 (k:Nat) (x:ak×aN×Unit):Option (Bool×Unit):=let v1:=(ln x.2.1.2.2.2.2.2.1:Int);if if if dc (x.2.1.2.1<2)then dc (x.2.1.2.2.2.2.1≥x.1.1.1)else false then true else if x.2.1.2.1==2 then v1 != x.1.1.1 else false then some (false,())else aL (fun J1=>aH k (fun G3 (t4:ak×aN×Bool×List af×List Int×Int×Int×Unit)=>let v5:=t4.2.2.2;let v2:=v5.2.2.2.1;let v3:=(ln t4.1.2.2.2.1:Int);let v4:=(gd t4.1.2.2.2.1 (tn v2) aj.aa).2.1;if dc (v2<v5.2.2.1)then if dc (0≤v2∧v2<ln v5.2.1)then if dc (0≤v2∧v2<v3)then if dc (((gd v5.2.1 (tn v2) 0):Int)>v4)then some (false,())else if !(t4.2.2.1==true)||(dc (0≤v2∧v2<v3))then if dc (0≤v2∧v2<v3)then bi (ij k (gd t4.1.2.2.2.1 (tn v2) aj.aa,())) fun r5=>if dc (ln v5.1+ln r5.1<4294967296)then G3 (t4.1,t4.2.1,if t4.2.2.1 then((gd v5.2.1 (tn v2) 0):Int)==v4 else false,v5.1++r5.1,v5.2.1,v5.2.2.1,IntKind.i64.wrap (v2+1),())else none else none else none else none else none else J1 (t4.1,t4.2.1,t4.2.2.1,v5.1,())) (x.1,x.2.1,true,[],x.2.1.2.2.2.2.2.1,v1,0,())) (fun(t2:ak×aN×Bool×List af×Unit)=>bi (if(!t2.2.2.1)==false then iF k (t2.2.1.2.2.2.2.2.2.1,t2.2.2.2.1,())else some (false,())) fun r6=>some (if !t2.2.2.1 then true else r6.1,()))
def nI (k:Nat) (x:ak×aN×aP×Unit):Option (Bool×Unit):=let v1:=(x.2.2.1.1:Int);let v2:=v1==1;let v3:=x.2.1.2.2;let v4:=(x.2.1.1:Int);if v4==1 then if x.2.1.2.1==2 then bi (fl k (x.1.2.2.2.1,v3.1.1,())) fun r1=>bi (if v2==true then da k (x.2.2.1.2.2.1.1,v3.1.1,())else some (false,())) fun r2=>bi (if((if if v2 then r2.1 else false then r1.2.1 else false):Bool)==true then dm k (r1.1,v3.1,())else some (false,())) fun r3=>some (if if if v2 then r2.1 else false then r1.2.1 else false then r3.1 else false,())else bi (if v2==true then dm k (x.2.2.1.2.2.1,v3.1,())else some (false,())) fun r4=>bi (if((if v2 then r4.1 else false):Bool)==true then pW k (x.1.1,v3.1,())else some (false,())) fun r5=>some (if if v2 then r4.1 else false then r5.1 else false,())else if v4==2 then bi (if((v1==3):Bool)==true then da k (x.2.2.1.2.2.2.1,v3.2.1,())else some (false,())) fun r6=>some (if v1==3 then r6.1 else false,())else if v4==3 then bi (if((v1==4):Bool)==true then l0 k (x.1,x.2.1,())else some (false,())) fun r7=>some (if v1==4 then r7.1 else false,())else if v4==4 then some (if v1==6 then dc (v3.2.2.1<x.1.1.1)else false,())else if v4==5 then bi (if((v1==7):Bool)==true then dm k (x.2.2.1.2.2.1,v3.1,())else some (false,())) fun r8=>some (if v1==7 then r8.1 else false,())else some (if if v1==8 then x.2.2.1.2.2.2.2.2.1==v3.2.2.2.2.2.1 else false then dc (v3.2.2.2.2.2.1<x.1.2.2.2.2.2.2.2.2.1)else false,())
def kF (k:Nat) (x:ak×Unit):Option (Bool×Unit):=aL (fun J1=>aH k (fun G3 (t4:ak×List aP×Int×Int×Unit)=>let v1:=(gd t4.2.1 (tn t4.2.2.2.1) aI.aa).2.2.2.2.2.2.2.2.2;if dc (t4.2.2.2.1<t4.2.2.1)then if dc (0≤t4.2.2.2.1∧t4.2.2.2.1<ln t4.2.1)then bi (mq k (gd t4.2.1 (tn t4.2.2.2.1) aI.aa,())) fun r5=>if if if if !r5.1 then true else dc (v1.1≥t4.1.2.1)then true else dc (v1.2.1≥t4.1.2.1)then true else dc (v1.2.2≥t4.1.2.1)then some (false,())else G3 (t4.1,t4.2.1,t4.2.2.1,IntKind.i64.wrap (t4.2.2.2.1+1),())else none else J1 (t4.1,())) (x.1,x.1.2.2.2.2.2.2.2.2.2.2.2.2.2,(ln x.1.2.2.2.2.2.2.2.2.2.2.2.2.2:Int),0,())) (fun(t2:ak×Unit)=>aH k (fun G6 (t7:ak×List aN×Int×Int×Unit)=>let v7:=t7.2.2.2.1;let v3:=gd t7.2.1 (tn v7) al.aa;let v5:=v3.2.2.2.2.2.2.2.2;let v6:=t7.1.2.2.2.2.2.2.2.2.2.2.2.2.2;let v2:=(gd v6 (tn v5) aI.aa).2;let v8:=v2.2.2.2.2.2.2.2.2.2;let v4:=((v8.1 != -1):Bool)==(if v3.1==1 then v3.2.1==2 else false);if dc (v7<t7.2.2.1)then if dc (0≤v7∧v7<ln t7.2.1)then bi (qD k (gd t7.2.1 (tn v7) al.aa,v7,())) fun r8=>if !r8.1 then some (false,())else if v3.1==0 then G6 (t7.1,t7.2.1,t7.2.2.1,IntKind.i64.wrap (v7+1),())else if dc (v5≥(ln v6:Int))then some (false,())else if dc (0≤v5∧v5<ln v6)then bi (if((if if v2.1 != v7 then true else v8.2 != -1 then true else !v4):Bool)==false then nI k (t7.1,gd t7.2.1 (tn v7) al.aa,gd v6 (tn v5) aI.aa,())else some (false,())) fun r9=>if if if if v2.1 != v7 then true else v8.2 != -1 then true else !v4 then true else !r9.1 then some (false,())else G6 (t7.1,t7.2.1,t7.2.2.1,IntKind.i64.wrap (v7+1),())else none else none else some (true,())) (t2.1,t2.1.2.2.2.2.2.2.2.2.2.2.2.2.1,(ln t2.1.2.2.2.2.2.2.2.2.2.2.2.2.1:Int),0,()))
def mQ (k:Nat) (x:aN×Int×Bool×Unit):Option (Int×Unit):=if if dc (x.2.1<1)then true else !x.2.2.1 then some ((-1:Int),())else if x.1.1==1 then bi (eP k (x.1.2.2.1.1,())) fun r1=>bi (iy k (r1.1,x.2.1,())) fun r2=>some (r2.1,())else if x.1.1==2 then bi (eP k (x.1.2.2.2.1,())) fun r3=>bi (iy k (r3.1,x.2.1,())) fun r4=>some (r4.1,())else if if x.1.1==3 then true else x.1.1==4 then some (x.1.2.2.2.2.1,())else some ((-1:Int),())
def jr (k:Nat) (x:aN×Int×Unit):Option (Int×Unit):=bi (mQ k (x.1,x.2.1,if x.1.2.1==1 then true else if x.1.1==1 then x.1.2.1==2 else false,())) fun r1=>some (r1.1,())
def gW (k:Nat) (x:aN×Unit):Option (Bool×Unit):=some (if if x.1.1==5 then true else x.1.1==6 then x.1.2.1==1 else false,())
def kC (k:Nat) (x:ak×Unit):Option (Bool×Unit):=aL (fun J1=>aH k (fun G3 (t4:ak×List aG×Int×Int×Unit)=>if dc (t4.2.2.2.1<t4.2.2.1)then if dc (0≤t4.2.2.2.1∧t4.2.2.2.1<ln t4.2.1)then aH k (fun G5 (t6:ak×Int×aG×List aG×Int×Int×List aN×Int×Int×Unit)=>let v1:=t6.2.2.2.2.2.2;if dc (v1.2.2.1<v1.2.1)then if dc (0≤v1.2.2.1∧v1.2.2.1<ln v1.1)then bi (jr k (gd v1.1 (tn v1.2.2.1) al.aa,(ln t6.1.2.2.2.1:Int),())) fun r7=>if !(((r7.1==t6.2.1):Bool)==(t6.2.2.1.1==v1.2.2.1))then some (false,())else G5 (t6.1,t6.2.1,t6.2.2.1,t6.2.2.2.1,t6.2.2.2.2.1,t6.2.2.2.2.2.1,v1.1,v1.2.1,IntKind.i64.wrap (v1.2.2.1+1),())else none else G3 (t6.1,t6.2.2.2.1,t6.2.2.2.2.1,IntKind.i64.wrap (t6.2.2.2.2.2.1+1),())) (t4.1,t4.2.2.2.1,gd t4.2.1 (tn t4.2.2.2.1) aj.aa,t4.2.1,t4.2.2.1,t4.2.2.2.1,t4.1.2.2.2.2.2.2.2.2.2.2.2.2.1,(ln t4.1.2.2.2.2.2.2.2.2.2.2.2.2.1:Int),0,())else none else J1 (t4.1,())) (x.1,x.1.2.2.2.1,(ln x.1.2.2.2.1:Int),0,())) (fun(t2:ak×Unit)=>aL (fun J8=>aH k (fun G10 (t11:ak×List aN×Int×Int×Unit)=>let v2:=t11.2.2.2.1;if dc (v2<t11.2.2.1)then if dc (0≤v2∧v2<ln t11.2.1)then bi (gW k (gd t11.2.1 (tn v2) al.aa,())) fun r12=>if !(r12.1==(t11.1.2.2.2.2.2.2.1==v2))then some (false,())else G10 (t11.1,t11.2.1,t11.2.2.1,IntKind.i64.wrap (v2+1),())else none else J8 (t11.1,())) (t2.1,t2.1.2.2.2.2.2.2.2.2.2.2.2.2.1,(ln t2.1.2.2.2.2.2.2.2.2.2.2.2.2.1:Int),0,())) (fun(t9:ak×Unit)=>bi (bN k (t9.1.2.2.2.2.2.2.1,-1,4,())) fun r13=>some (r13.1,())))
def oU (k:Nat) (x:List ByteArray×ByteArray×Unit):Option (Bool×Unit):=aH k (fun G1 (t2:ByteArray×List ByteArray×Int×Int×Unit)=>if dc (t2.2.2.2.1<t2.2.2.1)then if dc (0≤t2.2.2.2.1∧t2.2.2.2.1<ln t2.2.1)then if ByteArray.toList (gd t2.2.1 (tn t2.2.2.2.1) ByteArray.empty)==ByteArray.toList t2.1 then some (true,())else G1 (t2.1,t2.2.1,t2.2.2.1,IntKind.i64.wrap (t2.2.2.2.1+1),())else none else some (false,())) (x.2.1,x.1,(ln x.1:Int),0,())
def tM (k:Nat) (x:List ay×List ByteArray×Unit):Option (List ay×Unit):=aH k (fun G1 (t2:List ByteArray×List ay×List ay×Int×Int×Unit)=>let v1:=t2.2.2.2.2.1;if dc (v1<t2.2.2.2.1)then if dc (0≤v1∧v1<ln t2.2.2.1)then bi (oU k (t2.1,(gd t2.2.2.1 (tn v1) aq.aa).1,())) fun r3=>if r3.1 then if dc (ln t2.2.1+ln [gd t2.2.2.1 (tn v1) aq.aa]<4294967296)then G1 (t2.1,t2.2.1++([gd t2.2.2.1 (tn v1) aq.aa]:List ay),t2.2.2.1,t2.2.2.2.1,IntKind.i64.wrap (v1+1),())else none else G1 (t2.1,t2.2.1,t2.2.2.1,t2.2.2.2.1,IntKind.i64.wrap (v1+1),())else none else some (t2.2.1,())) (x.2.1,[],x.1,(ln x.1:Int),0,())
def kM (k:Nat) (x:af×List ByteArray×Unit):Option (List ay×Unit):=bi (tM k (x.1.1,x.2.1,())) fun r1=>some (r1.1,())
def iY (k:Nat) (x:List ay×List ay×Unit):Option (Bool×Unit):=aL (fun J1=>aH k (fun G3 (t4:List ay×List ay×Int×Unit)=>let v1:=t4.2.2.1;let v2:=gd t4.2.1 (tn v1) aq.aa;let v3:=(ln t4.2.1:Int);let v4:=gd t4.1 (tn v1) aq.aa;let v5:=(ln t4.1:Int);if if dc (v1<v5)then dc (v1<v3)else false then if dc (0≤v1∧v1<v5)then if dc (0≤v1∧v1<v3)then if !(ByteArray.toList v4.1==ByteArray.toList v2.1)then if dc (0≤v1∧v1<v5)then if dc (0≤v1∧v1<v3)then some (Op.bytesLess (ByteArray.toList v4.1) (ByteArray.toList v2.1),())else none else none else if dc (0≤v1∧v1<v5)then if dc (0≤v1∧v1<v3)then if !(ByteArray.toList v4.2==ByteArray.toList v2.2)then if dc (0≤v1∧v1<v5)then if dc (0≤v1∧v1<v3)then some (Op.bytesLess (ByteArray.toList v4.2) (ByteArray.toList v2.2),())else none else none else G3 (t4.1,t4.2.1,IntKind.i64.wrap (v1+1),())else none else none else none else none else J1 (t4.1,t4.2.1,())) (x.1,x.2.1,0,())) (fun(t2:List ay×List ay×Unit)=>some (dc ((ln t2.1:Int)<(ln t2.2.1:Int)),()))
def px (k:Nat) (x:List af×List ay×List ByteArray×Unit):Option (Bool×Unit):=aH k (fun G1 (t2:List af×List ay×List ByteArray×List af×Int×Int×Unit)=>let v4:=t2.2.2.2;let v1:=v4.2.2.1;let v2:=IntKind.i64.wrap (v1-1);let v3:=v1>0;if dc (v1<v4.2.1)then if dc (0≤v1∧v1<ln v4.1)then bi (eS k (gd v4.1 (tn v1) ab.aa,())) fun r3=>bi (if(!r3.1)==false then kM k (gd v4.1 (tn v1) ab.aa,t2.2.2.1,())else some (([]:List ay),())) fun r4=>bi (if(!r3.1)==false then da k (r4.1,t2.2.1,())else some (false,())) fun r5=>if !((((if !r3.1 then true else !r5.1):Bool)==false)&&(dc v3==true))||(dc (0≤v2∧v2<ln t2.1))then bi (if(((if !r3.1 then true else !r5.1):Bool)==false)&&(dc v3==true)then iY k ((gd t2.1 (tn v2) ab.aa).1,(gd v4.1 (tn v1) ab.aa).1,())else some (false,())) fun r6=>if if if !r3.1 then true else !r5.1 then true else if dc v3 then !r6.1 else false then some (false,())else G1 (t2.1,t2.2.1,t2.2.2.1,v4.1,v4.2.1,IntKind.i64.wrap (v1+1),())else none else none else some (true,())) (x.1,x.2.1,x.2.2.1,x.1,(ln x.1:Int),0,())
def pn (k:Nat) (x:aD×List ByteArray×Unit):Option (Bool×Unit):=let v1:=x.1.1<0;let v2:=(ln x.1.2.2.2.2:Int)>0;bi (if dc v1==false then jq k (x.1.2.1,())else some (false,())) fun r1=>bi (if((if dc v1 then true else !r1.1):Bool)==false then bN k (x.1.2.2.1,0,99999,())else some (false,())) fun r2=>bi (if(((if if dc v1 then true else !r1.1 then true else !r2.1):Bool)==false)&&(((x.1.2.2.2.1 != -1):Bool)==true)then bN k (x.1.2.2.2.1,x.1.2.2.1,99999,())else some (false,())) fun r3=>if if if if dc v1 then true else !r1.1 then true else !r2.1 then true else if x.1.2.2.2.1 != -1 then !r3.1 else false then some (false,())else bi (if dc v2==true then px k (x.1.2.2.2.2,x.1.2.1,x.2.1,())else some (false,())) fun r4=>some (if dc v2 then r4.1 else false,())
def dF (k:Nat) (x:List aD×List ay×Unit):Option (Int×Unit):=aH k (fun G1 (t2:List ay×List aD×Int×Int×Unit)=>if dc (t2.2.2.2.1<t2.2.2.1)then if dc (0≤t2.2.2.2.1∧t2.2.2.2.1<ln t2.2.1)then bi (da k ((gd t2.2.1 (tn t2.2.2.2.1) ah.aa).2.1,t2.1,())) fun r3=>if r3.1 then some (t2.2.2.2.1,())else G1 (t2.1,t2.2.1,t2.2.2.1,IntKind.i64.wrap (t2.2.2.2.1+1),())else none else some ((-1:Int),())) (x.2.1,x.1,(ln x.1:Int),0,())
def nC (k:Nat) (x:List aD×List ByteArray×Unit):Option (Bool×Unit):=aH k (fun G1 (t2:List aD×List ByteArray×List aD×Int×Int×Unit)=>let v1:=t2.2.2.2.2.1;let v4:=IntKind.i64.wrap (v1-1);let v5:=gd t2.2.2.1 (tn v1) ah.aa;let v2:=(gd t2.1 (tn v4) ah.aa).1≥(v5.1);let v3:=v1≥12;let v6:=v1>0;if dc (v1<t2.2.2.2.1)then if dc (0≤v1∧v1<ln t2.2.2.1)then bi (if dc v3==false then pn k (gd t2.2.2.1 (tn v1) ah.aa,t2.2.1,())else some (false,())) fun r3=>if !((((if dc v3 then true else !r3.1):Bool)==false)&&(dc v6==true))||(dc (0≤v4∧v4<ln t2.1))then bi (if((if if dc v3 then true else !r3.1 then true else if dc v6 then dc v2 else false):Bool)==false then dF k (t2.1,v5.2.1,())else some (0,())) fun r4=>if if if if dc v3 then true else !r3.1 then true else if dc v6 then dc v2 else false then true else r4.1 != v1 then some (false,())else G1 (t2.1,t2.2.1,t2.2.2.1,t2.2.2.2.1,IntKind.i64.wrap (v1+1),())else none else none else some (true,())) (x.1,x.2.1,x.1,(ln x.1:Int),0,())
def iz (k:Nat) (x:aJ×aJ×Unit):Option (Bool×Unit):=some (if dc (x.1.1<x.2.1.1)then true else if x.1.1==x.2.1.1 then dc (x.1.2<x.2.1.2)else false,())
def qw (k:Nat) (x:List aJ×Unit):Option (Bool×Unit):=aL (fun J1=>aH k (fun G3 (t4:List aJ×List aJ×Int×Int×Unit)=>let v6:=t4.2.2.2.1;let v1:=gd t4.2.1 (tn v6) aw.aa;let v2:=IntKind.i64.wrap (Int.tdiv (IntKind.i64.wrap (v6-1)) (2:Int));let v3:=v6>0;let v4:=v1.2<0;let v5:=v1.1<0;if dc (v6<t4.2.2.1)then if dc (0≤v6∧v6<ln t4.2.1)then if !((((if dc v5 then true else dc v4):Bool)==false)&&(dc v3==true))||(dc ((2:Int)≠0))then if !((((if dc v5 then true else dc v4):Bool)==false)&&(dc v3==true))||(dc (0≤v2∧v2<ln t4.1))then bi (if(((if dc v5 then true else dc v4):Bool)==false)&&(dc v3==true)then iz k (gd t4.2.1 (tn v6) aw.aa,gd t4.1 (tn v2) aw.aa,())else some (false,())) fun r5=>if if if dc v5 then true else dc v4 then true else if dc v3 then r5.1 else false then some (false,())else G3 (t4.1,t4.2.1,t4.2.2.1,IntKind.i64.wrap (v6+1),())else none else none else none else J1 (t4.1,())) (x.1,x.1,(ln x.1:Int),0,())) (fun(t2:List aJ×Unit)=>some (dc ((ln t2.1:Int)≤16),()))
def tp (k:Nat) (x:aD×Int×Int×Unit):Option (Int×Unit):=if x.1.2.2.2.1== -1 then some (IntKind.i64.wrap (x.1.2.2.1+x.2.1),())else some (IntKind.i64.wrap (x.1.2.2.2.1+x.2.2.1),())
def oH (k:Nat) (x:bT×aD×Unit):Option (Int×Unit):=bi (tp k (x.2.1,x.1.2.2.2.1,x.1.2.2.2.2.1,())) fun r1=>some (r1.1,())
def jV (k:Nat) (x:ak×Unit):Option (Bool×Unit):=let v1:=x.1.2.2.2.2.2.2.2;bi (nC k (v1.1,x.1.1.2.2.2.2.2,())) fun r1=>bi (if(!r1.1)==false then qw k (v1.2.2.1,())else some (false,())) fun r2=>if if !r1.1 then true else !r2.1 then some (false,())else aL (fun J3=>aH k (fun G5 (t6:ak×List aD×Int×Int×Unit)=>let v2:=gd t6.2.1 (tn t6.2.2.2.1) ah.aa;let v4:=t6.1.2.2.2.2.2.2.2.2;let v3:=gd v4.2.2.2.2.1 (tn (4:Int)) al.aa;if dc (t6.2.2.2.1<t6.2.2.1)then if dc (0≤t6.2.2.2.1∧t6.2.2.2.1<ln t6.2.1)then if if if dc (v2.2.2.1>t6.1.2.2.1)then true else dc (v2.2.2.2.1>t6.1.2.2.1)then true else dc (v2.1≥v4.1)then some (false,())else if dc (0≤(4:Int)∧(4:Int)<(ln v4.2.2.2.2.1:Int))then if !(((v3.1==6):Bool)==true)||(dc (0≤(4:Int)∧(4:Int)<(ln v4.2.2.2.2.1:Int)))then aL (fun J7=>aH k (fun G9 (t10:ak×aD×Bool×List aD×Int×Int×List aJ×Int×Int×Unit)=>let v5:=t10.2.2.2.2.2.2;let v6:=gd v5.1 (tn v5.2.2.1) aw.aa;if dc (v5.2.2.1<v5.2.1)then if dc (0≤v5.2.2.1∧v5.2.2.1<ln v5.1)then bi (if(t10.2.2.1==false)&&(((v6.2==t10.2.1.1):Bool)==true)then oH k (t10.1.1,t10.2.1,())else some (0,())) fun r11=>G9 (t10.1,t10.2.1,if t10.2.2.1 then true else if v6.2==t10.2.1.1 then v6.1==r11.1 else false,t10.2.2.2.1,t10.2.2.2.2.1,t10.2.2.2.2.2.1,v5.1,v5.2.1,IntKind.i64.wrap (v5.2.2.1+1),())else none else J7 (t10.1,t10.2.1,t10.2.2.1,t10.2.2.2.1,t10.2.2.2.2.1,t10.2.2.2.2.2.1,())) (t6.1,gd t6.2.1 (tn t6.2.2.2.1) ah.aa,if v3.1==6 then v3.2.2.2.2.2.2.2.1==(v2.1)else false,t6.2.1,t6.2.2.1,t6.2.2.2.1,v4.2.1,(ln v4.2.1:Int),0,())) (fun(t8:ak×aD×Bool×List aD×Int×Int×Unit)=>if !t8.2.2.1 then some (false,())else G5 (t8.1,t8.2.2.2.1,t8.2.2.2.2.1,IntKind.i64.wrap (t8.2.2.2.2.2.1+1),()))else none else none else none else J3 (t6.1,())) (x.1,v1.1,(ln v1.1:Int),0,())) (fun(t4:ak×Unit)=>aH k (fun G12 (t13:ak×List aJ×Int×Int×Unit)=>let v7:=t13.2.2.2.1;let v8:=t13.1.2.2.2.2.2.2.2.2;if dc (v7<t13.2.2.1)then if dc (0≤v7∧v7<ln t13.2.1)then if dc ((gd t13.2.1 (tn v7) aw.aa).2≥v8.1)then some (false,())else if dc (0≤v7∧v7≤ln v8.2.1)then aH k (fun G14 (t15:ak×aJ×List aJ×Int×Int×List aJ×Int×Int×Unit)=>let v9:=t15.2.2.2.2.2;if dc (v9.2.2.1<v9.2.1)then if dc (0≤v9.2.2.1∧v9.2.2.1<ln v9.1)then if(gd v9.1 (tn v9.2.2.1) aw.aa).2==t15.2.1.2 then some (false,())else G14 (t15.1,t15.2.1,t15.2.2.1,t15.2.2.2.1,t15.2.2.2.2.1,v9.1,v9.2.1,IntKind.i64.wrap (v9.2.2.1+1),())else none else G12 (t15.1,t15.2.2.1,t15.2.2.2.1,IntKind.i64.wrap (t15.2.2.2.2.1+1),())) (t13.1,gd t13.2.1 (tn v7) aw.aa,t13.2.1,t13.2.2.1,v7,ta (tn v7) v8.2.1,((ln (ta (tn v7) v8.2.1):Nat):Int),0,())else none else none else some (true,())) (t4.1,t4.1.2.2.2.2.2.2.2.2.2.1,(ln t4.1.2.2.2.2.2.2.2.2.2.1:Int),0,()))
def oY (k:Nat) (x:ak×Unit):Option (Bool×Unit):=let v1:=x.1.2.2.2.2.2.2.2.2;bi (qz k (x.1.1,())) fun r1=>bi (if((if if !r1.1 then true else dc (x.1.2.1<0)then true else dc (v1.1<0)):Bool)==false then bN k (x.1.2.2.1,0,99899,())else some (false,())) fun r2=>if if if if if !r1.1 then true else dc (x.1.2.1<0)then true else dc (v1.1<0)then true else !r2.1 then true else(ln v1.2.2.2.2.1:Int) != 5 then some (false,())else bi (kG k (x.1,())) fun r3=>bi (if r3.1==true then lX k (x.1.2.2.2.2.1,x.1.1,())else some (false,())) fun r4=>bi (if((if r3.1 then r4.1 else false):Bool)==true then fP k (x.1.2.2.2.2.2.1,())else some (false,())) fun r5=>bi (if((if if r3.1 then r4.1 else false then r5.1 else false):Bool)==true then fP k (v1.2.2.2.1,())else some (false,())) fun r6=>bi (if((if if if r3.1 then r4.1 else false then r5.1 else false then r6.1 else false):Bool)==true then kF k (x.1,())else some (false,())) fun r7=>bi (if((if if if if r3.1 then r4.1 else false then r5.1 else false then r6.1 else false then r7.1 else false):Bool)==true then kC k (x.1,())else some (false,())) fun r8=>bi (if((if if if if if r3.1 then r4.1 else false then r5.1 else false then r6.1 else false then r7.1 else false then r8.1 else false):Bool)==true then jV k (x.1,())else some (false,())) fun r9=>some (if if if if if if r3.1 then r4.1 else false then r5.1 else false then r6.1 else false then r7.1 else false then r8.1 else false then r9.1 else false,())
def gZ (k:Nat) (x:ak×aP×Unit):Option (Int×ak×Unit):=let v1:=x.2.1.2.2.2;let v3:=x.1.2.2;let v2:=v3.2.2.2.2.2;if dc (ln v2.2.2.2.2.2.2+ln [(x.2.1.1,x.2.1.2.1,x.2.1.2.2.1,v1.1,v1.2.1,v1.2.2.1,v1.2.2.2.1,v1.2.2.2.2.1,v3.1,x.1.2.1,-1,-1)]<4294967296)then some (IntKind.i64.wrap (((ln (v2.2.2.2.2.2.2++([(x.2.1.1,x.2.1.2.1,x.2.1.2.2.1,v1.1,v1.2.1,v1.2.2.1,v1.2.2.2.1,v1.2.2.2.2.1,v3.1,x.1.2.1,-1,-1)]:List aP)):Nat):Int)-1),(x.1.1,x.1.2.1,v3.1,v3.2.1,v3.2.2.1,v3.2.2.2.1,v3.2.2.2.2.1,v2.1,v2.2.1,v2.2.2.1,v2.2.2.2.1,v2.2.2.2.2.1,v2.2.2.2.2.2.1,v2.2.2.2.2.2.2++([(x.2.1.1,x.2.1.2.1,x.2.1.2.2.1,v1.1,v1.2.1,v1.2.2.1,v1.2.2.2.1,v1.2.2.2.2.1,v3.1,x.1.2.1,-1,-1)]:List aP)),())else none
def kE (k:Nat) (x:ak×Unit):Option (Bool×ak×Unit):=let v2:=x.1.2.2.2.2.2;let v1:=(ln v2.1:Int);if v1==0 then some (false,x.1,())else if dc (0≤(0:Int)∧(0:Int)<v1)then if dc (0≤(1:Int)∧(1:Int)≤v1)then if dc (ln ([]:List af)+ln (dr (tn (1:Int)) v2.1)<4294967296)then bi (bh k (gd v2.1 (tn (0:Int)) ab.aa,())) fun r1=>bi (gZ k ((x.1.1,x.1.2.1,x.1.2.2.1,x.1.2.2.2.1,x.1.2.2.2.2.1,([]:List af)++(dr (tn (1:Int)) v2.1),v2.2),((7:Int),3,r1.1,[],0,0,0,[],0,0,0,0),())) fun r2=>let v3:=r2.2.1.2.2.2.2.2.2;bi (bh k (gd v2.1 (tn (0:Int)) ab.aa,())) fun r3=>if dc (0≤(3:Int)∧(3:Int)<(ln v3.2.2.2.2.2.2.1:Int))then some (true,(r2.2.1.1,r2.2.1.2.1,r2.2.1.2.2.1,r2.2.1.2.2.2.1,r2.2.1.2.2.2.2.1,r2.2.1.2.2.2.2.2.1,v3.1,v3.2.1,v3.2.2.1,v3.2.2.2.1,v3.2.2.2.2.1,v3.2.2.2.2.2.1,se v3.2.2.2.2.2.2.1 (tn (3:Int)) ((5:Int),0,r3.1,[],0,[],[],0,r2.1),v3.2.2.2.2.2.2.2),())else none else none else none else none
def eV (k:Nat) (x:ak×Int×Unit):Option (Bool×ak×Unit):=let v1:=x.1.2.2.2.2.2.2.2.2;let v2:=gd v1.2.2.2.2.1 (tn x.2.1) al.aa;if x.1.2.2.2.2.2.2.1 != -1 then some (false,x.1,())else if dc (0≤x.2.1∧x.2.1<ln v1.2.2.2.2.1)then some (true,(x.1.1,x.1.2.1,x.1.2.2.1,x.1.2.2.2.1,x.1.2.2.2.2.1,x.1.2.2.2.2.2.1,x.2.1,x.1.2.2.2.2.2.2.2.1,v1.1,v1.2.1,v1.2.2.1,v1.2.2.2.1,se v1.2.2.2.2.1 (tn x.2.1) (v2.1,1,v2.2.2),v1.2.2.2.2.2),())else none
def fb (k:Nat) (x:ak×Int×Int×Unit):Option (ak×Unit):=let v5:=x.1.2.2.2.2.2.2;let v2:=v5.2.2.2.2.2.2;let v4:=(gd v2.1 (tn x.2.1) al.aa).2.2.2.2.2.2.2.2;let v1:=tn v4;let v3:=gd v2.2 v1 aI.aa;if dc (0≤x.2.1∧x.2.1<ln v2.1)then if dc (0≤v4∧v4<ln v2.2)then cG (se v2.2 v1 (v3.1,v3.2.1,v3.2.2.1,v3.2.2.2.1,v3.2.2.2.2.1,v3.2.2.2.2.2.1,x.2.2.1,v3.2.2.2.2.2.2.2)) fun l1=>let v8:=gd l1 v1 aI.aa;let v6:=v8.2.2;let v7:=v6.2.2.2.2;cG (se l1 v1 (v8.1,v8.2.1,v6.1,v6.2.1,v6.2.2.1,v6.2.2.2.1,v7.1,v7.2.1,v7.2.2.1,v7.2.2.2.1,x.1.2.1,v7.2.2.2.2.2)) fun l2=>let v9:=(gd l2 v1 aI.aa).2;let v10:=v9.2.2.2;cG (se l2 v1 ((gd l2 v1 aI.aa).1,v9.1,v9.2.1,v9.2.2.1,v10.1,v10.2.1,v10.2.2.1,v10.2.2.2.1,x.1.2.2.1,v10.2.2.2.2.2)) fun l3=>some ((x.1.1,x.1.2.1,x.1.2.2.1,x.1.2.2.2.1,x.1.2.2.2.2.1,x.1.2.2.2.2.2.1,v5.1,v5.2.1,v5.2.2.1,v5.2.2.2.1,v5.2.2.2.2.1,v5.2.2.2.2.2.1,v2.1,l3),())else none else none
def bR (k:Nat) (x:ak×Int×Int×Unit):Option (ak×Unit):=let v2:=x.1.2.2.2.2.2.2.2.2.2.2.2.2;let v1:=(gd v2.1 (tn x.2.1) al.aa).2.2.2.2.2.2.2;if dc (0≤x.2.1∧x.2.1<ln v2.1)then aL (fun J1=>if dc (0≤v1.2∧v1.2<ln v2.2)then if(gd v2.2 (tn v1.2) aI.aa).2.2.2.2.2.2.2.2.2.2.1== -1 then bi (fb k (x.1,x.2.1,x.2.2.1,())) fun r3=>J1 (r3.1,x.2.1,v1.2,())else J1 (x.1,x.2.1,v1.2,())else none) (fun(t2:ak×Int×Int×Unit)=>let v6:=t2.1.2.2.2;let v4:=v6.2.2.2.2;let v7:=v4.2.2.2.2;let v3:=gd v7.2.2 (tn t2.2.2.1) aI.aa;let v5:=v3.2.2.2.2.2;if dc (0≤t2.2.2.1∧t2.2.2.1<ln v7.2.2)then cG (se v7.2.2 (tn t2.2.2.1) (v3.1,v3.2.1,v3.2.2.1,v3.2.2.2.1,v3.2.2.2.2.1,v5.1,v5.2.1,v5.2.2.1,v5.2.2.2.1,v5.2.2.2.2.1,v5.2.2.2.2.2.1,t2.1.2.1)) fun l4=>aL (fun J5=>if dc (0≤t2.2.1∧t2.2.1<ln v7.2.1)then bi (jr k (gd v7.2.1 (tn t2.2.1) al.aa,(ln v6.1:Int),())) fun r7=>if dc (r7.1≥0)then if dc (0≤r7.1∧r7.1<ln v6.1)then J5 ((t2.1.1,t2.1.2.1,t2.1.2.2.1,se v6.1 (tn r7.1) ((-1:Int),(gd v6.1 (tn r7.1) aj.aa).2),v6.2.1,v6.2.2.1,v6.2.2.2.1,v4.1,v4.2.1,v4.2.2.1,v4.2.2.2.1,v7.1,v7.2.1,l4),t2.2.1,())else none else J5 ((t2.1.1,t2.1.2.1,t2.1.2.2.1,v6.1,v6.2.1,v6.2.2.1,v6.2.2.2.1,v4.1,v4.2.1,v4.2.2.1,v4.2.2.2.1,v7.1,v7.2.1,l4),t2.2.1,())else none) (fun(t6:ak×Int×Unit)=>let v11:=t6.1.2.2.2;let v8:=v11.2.2.2.2;let v10:=v8.2.2.2.2;let v9:=(ln v10.2.1:Int);if dc (0≤t6.2.1∧t6.2.1<v9)then bi (gW k (gd v10.2.1 (tn t6.2.1) al.aa,())) fun r8=>if r8.1 then if dc (0≤t6.2.1∧t6.2.1<v9)then some ((t6.1.1,t6.1.2.1,t6.1.2.2.1,v11.1,v11.2.1,v11.2.2.1,-1,v8.1,v8.2.1,v8.2.2.1,v8.2.2.2.1,v10.1,se v10.2.1 (tn t6.2.1) (0,0,(([]:List ay),0,0,ByteArray.empty),[],0,[],[],0,0),v10.2.2),())else none else if dc (0≤t6.2.1∧t6.2.1<v9)then some ((t6.1.1,t6.1.2.1,t6.1.2.2.1,v11.1,v11.2.1,v11.2.2.1,v11.2.2.2.1,v8.1,v8.2.1,v8.2.2.1,v8.2.2.2.1,v10.1,se v10.2.1 (tn t6.2.1) (0,0,(([]:List ay),0,0,ByteArray.empty),[],0,[],[],0,0),v10.2.2),())else none else none)else none)else none
def nM (k:Nat) (x:List af×af×Unit):Option (List af×Unit):=aL (fun J1=>aH k (fun G3 (t4:List af×af×Int×Unit)=>let v1:=t4.2.2.1<ln t4.1;if !(dc v1==true)||(dc (0≤t4.2.2.1∧t4.2.2.1<ln t4.1))then bi (if dc v1==true then iY k (t4.2.1.1,(gd t4.1 (tn t4.2.2.1) ab.aa).1,())else some (false,())) fun r5=>if if dc v1 then !r5.1 else false then G3 (t4.1,t4.2.1,IntKind.i64.wrap (t4.2.2.1+1),())else J1 (t4.1,t4.2.1,t4.2.2.1,())else none) (x.1,x.2.1,0,())) (fun(t2:List af×af×Int×Unit)=>if dc (0≤t2.2.2.1∧t2.2.2.1≤ln t2.1)then bi (bB k (ta (tn t2.2.2.1) t2.1,())) fun r6=>bi (bh k (t2.2.1,())) fun r7=>if dc (ln r6.1+ln [r7.1]<4294967296)then if dc (0≤t2.2.2.1∧t2.2.2.1≤ln t2.1)then bi (bB k (dr (tn t2.2.2.1) t2.1,())) fun r8=>if dc (ln (r6.1++([r7.1]:List af))+ln r8.1<4294967296)then some ((r6.1++([r7.1]:List af))++r8.1,())else none else none else none else none)
def qq (k:Nat) (x:aD×af×Unit):Option (aD×Unit):=bi (fj k (x.1,())) fun r1=>bi (dO k (x.1.2.2.2.2,x.2.1.1,())) fun r2=>if dc (r2.1≥0)then bi (bh k (x.2.1,())) fun r3=>if dc (0≤r2.1∧r2.1<ln r1.1.2.2.2.2)then some ((r1.1.1,r1.1.2.1,r1.1.2.2.1,r1.1.2.2.2.1,se r1.1.2.2.2.2 (tn r2.1) r3.1),())else none else bi (nM k (x.1.2.2.2.2,x.2.1,())) fun r4=>some ((r1.1.1,r1.1.2.1,r1.1.2.2.1,r1.1.2.2.2.1,r4.1),())
def oy (k:Nat) (x:List aD×af×List ByteArray×Int×Int×Unit):Option (List aD×Bool×Unit):=bi (iI k (x.1,())) fun r1=>bi (kM k (x.2.1,x.2.2.1,())) fun r2=>bi (dF k (x.1,r2.1,())) fun r3=>if dc (r3.1≥0)then if dc (0≤r3.1∧r3.1<ln x.1)then bi (qq k (gd x.1 (tn r3.1) ah.aa,x.2.1,())) fun r4=>if dc (0≤r3.1∧r3.1<ln r1.1)then some (se r1.1 (tn r3.1) r4.1,false,())else none else none else bi (bh k (x.2.1,())) fun r5=>if dc (ln r1.1+ln ([(x.2.2.2.1,r2.1,x.2.2.2.2.1,-1,([r5.1]:List af))]:List aD)<4294967296)then some (r1.1++([(x.2.2.2.1,r2.1,x.2.2.2.2.1,-1,([r5.1]:List af))]:List aD),true,())else none
def lj (k:Nat) (x:List aJ×aJ×Unit):Option (List aJ×Unit):=bi (fR k (x.1,())) fun r1=>if dc (ln r1.1+ln [x.2.1]<4294967296)then aH k (fun G2 (t3:aJ×List aJ×Int×Unit)=>let v5:=t3.2.2.1;let v6:=Int.tdiv (IntKind.i64.wrap (v5-1)) (2:Int);let v1:=IntKind.i64.wrap v6;let v2:=(ln t3.2.1:Int);let v3:=v5>0;let v4:=se t3.2.1 (tn v5) (gd t3.2.1 (tn v1) aw.aa);if !(dc v3==true)||(dc (0≤v5∧v5<v2))then if !(dc v3==true)||(dc ((2:Int)≠0))then if !(dc v3==true)||(dc (0≤v1∧v1<v2))then bi (if dc v3==true then iz k (gd t3.2.1 (tn v5) aw.aa,gd t3.2.1 (tn v1) aw.aa,())else some (false,())) fun r4=>if if dc v3 then r4.1 else false then if dc ((2:Int)≠0)then if dc ((2:Int)≠0)then if dc (0≤v1∧v1<v2)then if dc (0≤v5∧v5<v2)then if dc (0≤v5∧v5<v2)then if dc (0≤v1∧v1<ln v4)then cG (se v4 (tn v1) (gd t3.2.1 (tn v5) aw.aa)) fun l5=>if dc ((2:Int)≠0)then G2 (t3.1,l5,IntKind.i64.wrap v6,())else none else none else none else none else none else none else none else some (t3.2.1,())else none else none else none) (x.2.1,r1.1++([x.2.1]:List aJ),IntKind.i64.wrap (((ln (r1.1++([x.2.1]:List aJ)):Nat):Int)-1),())else none
def jB (k:Nat) (x:ak×Unit):Option (ak×Unit):=let v6:=x.1.2.2.2;let v3:=v6.2.2.2.2;let v5:=v3.2.2.2.2;let v2:=(gd v5.2.1 (tn (3:Int)) al.aa).2.2;let v4:=v2.2.2.2.2.2.2;let v1:=gd v5.2.2 (tn v4) aI.aa;if dc (0≤(3:Int)∧(3:Int)<(ln v5.2.1:Int))then bi (kM k (v2.1,x.1.1.2.2.2.2.2,())) fun r1=>bi (dF k (v3.1,r1.1,())) fun r2=>if if dc (r2.1<0)then dc ((ln v3.1:Int)≥12)else false then bi (bR k (x.1,3,3,())) fun r3=>some (r3.1,())else bi (oy k (v3.1,v2.1,x.1.1.2.2.2.2.2,v3.2.1,x.1.2.2.1,())) fun r4=>bi (dF k (r4.1,r1.1,())) fun r5=>let v7:=gd r4.1 (tn r5.1) ah.aa;if dc (0≤r5.1∧r5.1<ln r4.1)then if dc (0≤v4∧v4<ln v5.2.2)then cG (se v5.2.2 (tn v4) (v1.1,v1.2.1,v1.2.2.1,v1.2.2.2.1,v1.2.2.2.2.1,v7.1,v1.2.2.2.2.2.2)) fun l6=>if !r4.2.1 then bi (bR k ((x.1.1,x.1.2.1,x.1.2.2.1,v6.1,v6.2.1,v6.2.2.1,v6.2.2.2.1,r4.1,v3.2.1,v3.2.2.1,v3.2.2.2.1,v5.1,v5.2.1,l6),3,2,())) fun r7=>some (r7.1,())else bi (oH k (x.1.1,gd r4.1 (tn r5.1) ah.aa,())) fun r8=>bi (lj k (v3.2.2.1,(r8.1,v7.1),())) fun r9=>bi (bR k ((x.1.1,x.1.2.1,x.1.2.2.1,v6.1,v6.2.1,v6.2.2.1,v6.2.2.2.1,r4.1,IntKind.i64.wrap (v3.2.1+1),r9.1,v3.2.2.2.1,v5.1,v5.2.1,l6),3,1,())) fun r10=>some (r10.1,())else none else none else none
def ir (k:Nat) (x:ak×Unit):Option (Bool×ak×Unit):=let v1:=x.1.2.2.2.2.2.2.2.2.2.2.2.2.1;let v2:=gd v1 (tn (3:Int)) al.aa;if dc (0≤(3:Int)∧(3:Int)<(ln v1:Int))then aL (fun J1=>if v2.1==0 then bi (kE k (x.1,())) fun r3=>if !r3.1 then some (false,r3.2.1,())else J1 (r3.2.1,gd v1 (tn (3:Int)) al.aa,())else if v2.2.1==0 then bi (eV k (x.1,3,())) fun r4=>if !r4.1 then some (false,r4.2.1,())else J1 (r4.2.1,gd v1 (tn (3:Int)) al.aa,())else bi (jB k (x.1,())) fun r5=>J1 (r5.1,gd v1 (tn (3:Int)) al.aa,())) (fun(t2:ak×aN×Unit)=>some (true,(t2.1.1,IntKind.i64.wrap (t2.1.2.1+1),t2.1.2.2),()))else none
def ua (k:Nat) (x:ak×Unit):Option (Bool×Unit):=let v1:=(ln x.1.2.2.2.2.2.2.2.2.2.1:Int);if !(dc (v1>0)==true)||(dc (0≤(0:Int)∧(0:Int)<v1))then some (if dc (v1>0)then dc ((gd x.1.2.2.2.2.2.2.2.2.2.1 (tn (0:Int)) aw.aa).1≤x.1.2.2.1)else false,())else none
def nr (k:Nat) (x:List aJ×Unit):Option (List aJ×aJ×Bool×Unit):=let v2:=(ln x.1:Int);let v1:=IntKind.i64.wrap (v2-1);if v2==0 then some (([]:List aJ),(0,0),false,())else if dc (0≤(0:Int)∧(0:Int)<v2)then if dc (0≤v1∧v1≤v2)then bi (fR k (ta (tn v1) x.1,())) fun r1=>if v1==0 then some (r1.1,gd x.1 (tn (0:Int)) aw.aa,true,())else if dc (0≤v1∧v1<v2)then if dc (0≤(0:Int)∧(0:Int)<(ln r1.1:Int))then aH k (fun G2 (t3:aJ×aJ×Int×List aJ×Int×Unit)=>let v7:=t3.2.2.2;let v6:=(IntKind.i64.wrap ((2:Int)*v7.2.1))+1;let v3:=IntKind.i64.wrap v6;let v4:=IntKind.i64.wrap (v3+1);let v5:=v4<t3.2.2.1;aL (fun J4=>if !(dc v5==true)||(dc (0≤v4∧v4<ln v7.1))then if !(dc v5==true)||(dc (0≤v3∧v3<ln v7.1))then bi (if dc v5==true then iz k (gd v7.1 (tn v4) aw.aa,gd v7.1 (tn v3) aw.aa,())else some (false,())) fun r6=>if if dc v5 then r6.1 else false then J4 (t3.1,t3.2.1,t3.2.2.1,v7.1,v7.2.1,IntKind.i64.wrap (v3+1),())else J4 (t3.1,t3.2.1,t3.2.2.1,v7.1,v7.2.1,IntKind.i64.wrap v6,())else none else none) (fun(t5:aJ×aJ×Int×List aJ×Int×Int×Unit)=>let v8:=t5.2.2.2;let v9:=(ln v8.1:Int);let v10:=v8.2.2.1;let v11:=se v8.1 (tn v8.2.1) (gd v8.1 (tn v10) aw.aa);let v12:=v10≥t5.2.2.1;if !(dc v12==false)||(dc (0≤v10∧v10<v9))then if !(dc v12==false)||(dc (0≤v8.2.1∧v8.2.1<v9))then bi (if dc v12==false then iz k (gd v8.1 (tn v10) aw.aa,gd v8.1 (tn v8.2.1) aw.aa,())else some (false,())) fun r7=>if if dc v12 then true else !r7.1 then some (v8.1,t5.2.1,true,())else if dc (0≤v10∧v10<v9)then if dc (0≤v8.2.1∧v8.2.1<v9)then if dc (0≤v8.2.1∧v8.2.1<v9)then if dc (0≤v10∧v10<ln v11)then cG (se v11 (tn v10) (gd v8.1 (tn v8.2.1) aw.aa)) fun l8=>G2 (t5.1,t5.2.1,t5.2.2.1,l8,v10,())else none else none else none else none else none else none)) ((0,0),gd x.1 (tn (0:Int)) aw.aa,IntKind.i64.wrap (v2-1),se r1.1 (tn (0:Int)) (gd x.1 (tn v1) aw.aa),0,())else none else none else none else none
def jS (k:Nat) (x:ak×Unit):Option (Bool×ak×Unit):=let v1:=x.1.2.2.2.2.2;bi (ua k (x.1,())) fun r1=>if !r1.1 then some (false,x.1,())else bi (nr k (v1.2.2.2.2.1,())) fun r2=>bi (gZ k ((x.1.1,x.1.2.1,x.1.2.2.1,x.1.2.2.2.1,x.1.2.2.2.2.1,v1.1,v1.2.1,v1.2.2.1,v1.2.2.2.1,r2.1,v1.2.2.2.2.2),((8:Int),4,(([]:List ay),0,0,ByteArray.empty),[],0,r2.2.1.2,0,[],0,0,0,0),())) fun r3=>let v2:=r3.2.1.2.2.2.2.2.2;if dc (0≤(4:Int)∧(4:Int)<(ln v2.2.2.2.2.2.2.1:Int))then some (true,(r3.2.1.1,r3.2.1.2.1,r3.2.1.2.2.1,r3.2.1.2.2.2.1,r3.2.1.2.2.2.2.1,r3.2.1.2.2.2.2.2.1,v2.1,v2.2.1,v2.2.2.1,v2.2.2.2.1,v2.2.2.2.2.1,v2.2.2.2.2.2.1,se v2.2.2.2.2.2.2.1 (tn (4:Int)) ((6:Int),0,(([]:List ay),0,0,ByteArray.empty),[],0,[],[],r2.2.1.2,r3.1),v2.2.2.2.2.2.2.2),())else none
def lG (k:Nat) (x:List aD×Int×Unit):Option (Int×Unit):=aH k (fun G1 (t2:Int×List aD×Int×Int×Unit)=>if dc (t2.2.2.2.1<t2.2.2.1)then if dc (0≤t2.2.2.2.1∧t2.2.2.2.1<ln t2.2.1)then if(gd t2.2.1 (tn t2.2.2.2.1) ah.aa).1==t2.1 then some (t2.2.2.2.1,())else G1 (t2.1,t2.2.1,t2.2.2.1,IntKind.i64.wrap (t2.2.2.2.1+1),())else none else some ((-1:Int),())) (x.2.1,x.1,(ln x.1:Int),0,())
def pQ (k:Nat) (x:af×Int×Unit):Option (Bool×Unit):=some (dc (x.1.2.2.1≤x.2.1),())
def sP (k:Nat) (x:List af×Int×Unit):Option (List af×Unit):=aH k (fun G1 (t2:Int×List af×List af×Int×Int×Unit)=>let v1:=t2.2.2.2.2.1;if dc (v1<t2.2.2.2.1)then if dc (0≤v1∧v1<ln t2.2.2.1)then bi (pQ k (gd t2.2.2.1 (tn v1) ab.aa,t2.1,())) fun r3=>if !r3.1 then bi (bh k (gd t2.2.2.1 (tn v1) ab.aa,())) fun r4=>if dc (ln t2.2.1+ln [r4.1]<4294967296)then G1 (t2.1,t2.2.1++([r4.1]:List af),t2.2.2.1,t2.2.2.2.1,IntKind.i64.wrap (v1+1),())else none else G1 (t2.1,t2.2.1,t2.2.2.1,t2.2.2.2.1,IntKind.i64.wrap (v1+1),())else none else some (t2.2.1,())) (x.2.1,[],x.1,(ln x.1:Int),0,())
def sF (k:Nat) (x:aD×Int×Unit):Option (aD×bm×Unit):=bi (fj k (x.1,())) fun r1=>bi (sP k (x.1.2.2.2.2,x.2.1,())) fun r2=>bi (eT k (x.1.2.1,())) fun r3=>bi (bB k (x.1.2.2.2.2,())) fun r4=>some ((r1.1.1,r1.1.2.1,r1.1.2.2.1,x.2.1,r2.1),(x.1.1,r3.1,x.2.1,r4.1),())
def oX (k:Nat) (x:List aD×Int×Int×Unit):Option (List aD×bm×Bool×Unit):=bi (iI k (x.1,())) fun r1=>bi (lG k (x.1,x.2.1,())) fun r2=>let v1:=tn r2.1;if dc (r2.1<0)then some (r1.1,(0,[],0,[]),false,())else if dc (0≤r2.1∧r2.1<ln x.1)then bi (sF k (gd x.1 v1 ah.aa,x.2.2.1,())) fun r3=>let v2:=se r1.1 v1 r3.1;if dc (0≤r2.1∧r2.1<ln r1.1)then if(ln r3.1.2.2.2.2:Int)==0 then if dc (0≤r2.1∧r2.1<ln v2∧ln v2<4294967296)then some (ta v1 v2++dr (tn r2.1+1) v2,r3.2.1,true,())else none else some (se r1.1 v1 r3.1,r3.2.1,true,())else none else none
def iL (k:Nat) (x:ak×Unit):Option (ak×Unit):=let v4:=x.1.2.2.2.2;let v3:=v4.2.2.2.2;let v5:=v3.2.2.2.2;let v1:=(gd v5.1 (tn (4:Int)) al.aa).2.2.2.2.2.2.2;let v2:=gd v5.2 (tn v1.2) aI.aa;let v6:=v2.2.2.2;if dc (0≤(4:Int)∧(4:Int)<(ln v5.1:Int))then bi (oX k (v4.2.2.2.1,v1.1,x.1.2.2.1,())) fun r1=>if !r1.2.2.1 then bi (bR k (x.1,4,6,())) fun r2=>some (r2.1,())else if dc (ln v3.2.2.1+ln [r1.2.1]<4294967296)then bi (bB k (r1.2.1.2.2.2,())) fun r3=>if dc (0≤v1.2∧v1.2<ln v5.2)then cG (se v5.2 (tn v1.2) (v2.1,v2.2.1,v2.2.2.1,v6.1,v6.2.1,v6.2.2.1,v6.2.2.2.1,r3.1,v6.2.2.2.2.2)) fun l4=>bi (lG k (r1.1,v1.1,())) fun r5=>if dc (r5.1≥0)then if dc (0≤r5.1∧r5.1<ln r1.1)then bi (oH k (x.1.1,gd r1.1 (tn r5.1) ah.aa,())) fun r6=>bi (lj k (v3.2.1,(r6.1,v1.1),())) fun r7=>bi (bR k ((x.1.1,x.1.2.1,x.1.2.2.1,x.1.2.2.2.1,v4.1,v4.2.1,v4.2.2.1,r1.1,v3.1,r7.1,v3.2.2.1++([r1.2.1]:List bm),v3.2.2.2.1,v5.1,l4),4,8,())) fun r8=>some (r8.1,())else none else bi (bR k ((x.1.1,x.1.2.1,x.1.2.2.1,x.1.2.2.2.1,v4.1,v4.2.1,v4.2.2.1,r1.1,v3.1,v3.2.1,v3.2.2.1++([r1.2.1]:List bm),v3.2.2.2.1,v5.1,l4),4,8,())) fun r9=>some (r9.1,())else none else none else none
def gM (k:Nat) (x:ak×Unit):Option (Bool×ak×Unit):=let v1:=x.1.2.2.2.2.2.2.2.2.2.2.2.2.1;let v2:=gd v1 (tn (4:Int)) al.aa;if dc (0≤(4:Int)∧(4:Int)<(ln v1:Int))then aL (fun J1=>if v2.1==0 then bi (jS k (x.1,())) fun r3=>if !r3.1 then some (false,r3.2.1,())else J1 (r3.2.1,gd v1 (tn (4:Int)) al.aa,())else if v2.2.1==0 then bi (eV k (x.1,4,())) fun r4=>if !r4.1 then some (false,r4.2.1,())else J1 (r4.2.1,gd v1 (tn (4:Int)) al.aa,())else bi (iL k (x.1,())) fun r5=>J1 (r5.1,gd v1 (tn (4:Int)) al.aa,())) (fun(t2:ak×aN×Unit)=>some (true,(t2.1.1,IntKind.i64.wrap (t2.1.2.1+1),t2.1.2.2),()))else none
def lU (k:Nat) (x:aN×Int×Unit):Option (Int×Unit):=bi (mQ k (x.1,x.2.1,x.1.2.1==0,())) fun r1=>some (r1.1,())
def eZ (k:Nat) (x:ak×Int×Unit):Option (Bool×ak×Unit):=let v2:=x.1.2.2.2;let v1:=v2.2.2.2.2.2.2;let v3:=(ln v2.1:Int);let v4:=gd v1.2.2.2.1 (tn x.2.1) al.aa;if dc (0≤x.2.1∧x.2.1<ln v1.2.2.2.1)then bi (lU k (gd v1.2.2.2.1 (tn x.2.1) al.aa,v3,())) fun r1=>let v5:=gd v2.1 (tn r1.1) aj.aa;if dc (0≤r1.1∧r1.1<v3)then if v5.1 != -1 then some (false,x.1,())else if dc (0≤r1.1∧r1.1<v3)then if dc (0≤x.2.1∧x.2.1<ln v1.2.2.2.1)then some (true,(x.1.1,x.1.2.1,x.1.2.2.1,se v2.1 (tn r1.1) (x.2.1,v5.2),v2.2.1,v2.2.2.1,v2.2.2.2.1,v2.2.2.2.2.1,v2.2.2.2.2.2.1,v1.1,v1.2.1,v1.2.2.1,se v1.2.2.2.1 (tn x.2.1) (v4.1,1,v4.2.2),v1.2.2.2.2),())else none else none else none else none
def rP (k:Nat) (x:af×af×Unit):Option (Bool×Unit):=some (if dc (x.1.2.1≤x.2.1.2.2.1)then dc (x.2.1.2.1≤x.1.2.2.1)else false,())
def rJ (k:Nat) (x:af×af×Unit):Option (af×Unit):=bi (bh k (x.2.1,())) fun r1=>bi (rP k (x.1,x.2.1,())) fun r2=>if r2.1 then some ((r1.1.1,if x.2.1.2.1<x.1.2.1 then x.2.1.2.1 else x.1.2.1,r1.1.2.2),())else some (r1.1,())
def ns (k:Nat) (x:aO×af×Unit):Option (aO×Bool×Unit):=bi (ju k (x.1,())) fun r1=>bi (gz k (x.1,x.2.1.1,())) fun r2=>if dc (r2.1≥0)then if dc (0≤r2.1∧r2.1<ln x.1.2)then bi (rJ k (gd x.1.2 (tn r2.1) ab.aa,x.2.1,())) fun r3=>if dc (0≤r2.1∧r2.1<ln r1.1.2)then some ((r1.1.1,se r1.1.2 (tn r2.1) r3.1),false,())else none else none else bi (bh k (x.2.1,())) fun r4=>if dc (ln r1.1.2+ln [r4.1]<4294967296)then some ((r1.1.1,r1.1.2++([r4.1]:List af)),true,())else none
def sU (k:Nat) (x:aG×af×Unit):Option (aG×Bool×Unit):=bi (ig k (x.1,())) fun r1=>bi (eP k (x.2.1.1,())) fun r2=>bi (gF k (x.1,r2.1,())) fun r3=>if dc (r3.1≥0)then if dc (0≤r3.1∧r3.1<ln x.1.2.2)then bi (ns k (gd x.1.2.2 (tn r3.1) ax.aa,x.2.1,())) fun r4=>if dc (0≤r3.1∧r3.1<ln r1.1.2.2)then some ((r1.1.1,IntKind.i64.wrap (r1.1.2.1+1),se r1.1.2.2 (tn r3.1) r4.1),r4.2.1,())else none else none else aL (fun J5=>aH k (fun G7 (t8:aG×af×aG×aG×Int×Int×Unit)=>let v1:=t8.2.2.2;let v2:=(ln v1.1.2.2:Int);if !(dc (v1.2.2.1<v2)==true)||(dc (0≤v1.2.2.1∧v1.2.2.1<v2))then if if dc (v1.2.2.1<v2)then dc ((gd v1.1.2.2 (tn v1.2.2.1) ax.aa).1≤v1.2.1)else false then G7 (t8.1,t8.2.1,t8.2.2.1,v1.1,v1.2.1,IntKind.i64.wrap (v1.2.2.1+1),())else J5 (t8.1,t8.2.1,t8.2.2.1,v1.1,v1.2.1,v1.2.2.1,())else none) (x.1,x.2.1,(0,0,[]),(r1.1.1,IntKind.i64.wrap (r1.1.2.1+1),r1.1.2.2),r2.1,0,())) (fun(t6:aG×af×aG×aG×Int×Int×Unit)=>let v4:=t6.2.2.2;let v3:=ta (tn v4.2.2.1) v4.1.2.2;bi (bh k (t6.2.1,())) fun r9=>if dc (0≤v4.2.2.1∧v4.2.2.1≤ln v4.1.2.2)then if dc (ln ([]:List aO)+ln v3<4294967296)then if dc (ln (([]:List aO)++v3)+ln ([(v4.2.1,([r9.1]:List af))]:List aO)<4294967296)then if dc (0≤v4.2.2.1∧v4.2.2.1≤ln v4.1.2.2)then if dc (ln ((([]:List aO)++v3)++([(v4.2.1,([r9.1]:List af))]:List aO))+ln (dr (tn v4.2.2.1) v4.1.2.2)<4294967296)then some ((v4.1.1,v4.1.2.1,((([]:List aO)++v3)++([(v4.2.1,([r9.1]:List af))]:List aO))++(dr (tn v4.2.2.1) v4.1.2.2)),true,())else none else none else none else none else none)
def nj (k:Nat) (x:List aG×af×Unit):Option (List aG×Bool×Unit):=bi (lV k (x.1,())) fun r1=>if(ln x.1:Int)==0 then some (r1.1,false,())else bi (mA k (x.1,x.2.1.1,())) fun r2=>if dc (0≤r2.1∧r2.1<ln x.1)then bi (sU k (gd x.1 (tn r2.1) aj.aa,x.2.1,())) fun r3=>if dc (0≤r2.1∧r2.1<ln r1.1)then some (se r1.1 (tn r2.1) r3.1,r3.2.1,())else none else none
def ub (k:Nat) (x:bp×af×Unit):Option (bp×Unit):=bi (jb k (x.1,())) fun r1=>if x.1.2 then some (r1.1,())else if dc ((ln x.1.1:Int)≥3)then some ((([]:List af),true),())else bi (bh k (x.2.1,())) fun r2=>if dc (ln r1.1.1+ln [r2.1]<4294967296)then some ((r1.1.1++([r2.1]:List af),r1.1.2),())else none
def oS (k:Nat) (x:List bp×af×Unit):Option (List bp×Unit):=aH k (fun G1 (t2:af×List bp×List bp×Int×Int×Unit)=>if dc (t2.2.2.2.2.1<t2.2.2.2.1)then if dc (0≤t2.2.2.2.2.1∧t2.2.2.2.2.1<ln t2.2.2.1)then bi (ub k (gd t2.2.2.1 (tn t2.2.2.2.2.1) aW.aa,t2.1,())) fun r3=>if dc (ln t2.2.1+ln [r3.1]<4294967296)then G1 (t2.1,t2.2.1++([r3.1]:List bp),t2.2.2.1,t2.2.2.2.1,IntKind.i64.wrap (t2.2.2.2.2.1+1),())else none else none else some (t2.2.1,())) (x.2.1,[],x.1,(ln x.1:Int),0,())
def jA (k:Nat) (x:ak×aP×Unit):Option (ak×Unit):=let v3:=x.1.2;let v1:=v3.2.2.2.2.2.2;let v2:=x.2.1.2.2.2;if dc (ln v1.2.2.2.2.2.2+ln [(x.2.1.1,x.2.1.2.1,x.2.1.2.2.1,v2.1,v2.2.1,v2.2.2.1,v2.2.2.2.1,v2.2.2.2.2.1,v3.2.1,v3.1,v3.1,v3.1)]<4294967296)then some ((x.1.1,v3.1,v3.2.1,v3.2.2.1,v3.2.2.2.1,v3.2.2.2.2.1,v3.2.2.2.2.2.1,v1.1,v1.2.1,v1.2.2.1,v1.2.2.2.1,v1.2.2.2.2.1,v1.2.2.2.2.2.1,v1.2.2.2.2.2.2++([(x.2.1.1,x.2.1.2.1,x.2.1.2.2.1,v2.1,v2.2.1,v2.2.2.1,v2.2.2.2.1,v2.2.2.2.2.1,v3.2.1,v3.1,v3.1,v3.1)]:List aP)),())else none
def iO (k:Nat) (x:ak×Int×Unit):Option (Bool×ak×Unit):=let v2:=x.1.2.2.2.2;let v3:=v2.2.2.2.2.2.2;let v1:=gd v3.2.2.1 (tn x.2.1) al.aa;if dc (0≤x.2.1∧x.2.1<ln v3.2.2.1)then if v1.1 != 1 then some (false,x.1,())else aL (fun J1=>if v1.2.1==0 then bi (eZ k (x.1,x.2.1,())) fun r3=>if !r3.1 then some (false,r3.2.1,())else J1 (r3.2.1,())else if v1.2.1==1 then bi (fl k (x.1.2.2.2.1,v1.2.2.1.1,())) fun r4=>bi (if(!r4.2.1)==true then lx k (x.1.2.2.2.1,())else some (0,())) fun r5=>if if !r4.2.1 then dc (r5.1≥x.1.1.2.1)else false then bi (bR k (x.1,x.2.1,3,())) fun r6=>J1 (r6.1,())else bi (nj k (x.1.2.2.2.1,v1.2.2.1,())) fun r7=>aL (fun J8=>if r7.2.1 then J8 ((x.1.1,x.1.2.1,x.1.2.2.1,r7.1,v2),x.2.1,x.2.1,r4.1,1,())else J8 ((x.1.1,x.1.2.1,x.1.2.2.1,r7.1,v2),x.2.1,x.2.1,r4.1,2,())) (fun(t9:ak×Int×Int×af×Int×Unit)=>let v4:=tn t9.2.2.1;bi (fb k (t9.1,t9.2.1,t9.2.2.2.2.1,())) fun r10=>let v6:=r10.1.2.2.2.2.2.2.2;let v5:=gd v6.2.2.2.2.2.1 v4 al.aa;bi (fl k (r10.1.2.2.2.1,v5.2.2.1.1,())) fun r11=>let v7:=se v6.2.2.2.2.2.1 v4 (v5.1,v5.2.1,r11.1,v5.2.2.2);cG (se v7 v4 ((gd v7 v4 al.aa).1,2,(gd v7 v4 al.aa).2.2)) fun l12=>J1 ((r10.1.1,r10.1.2.1,r10.1.2.2.1,r10.1.2.2.2.1,r10.1.2.2.2.2.1,r10.1.2.2.2.2.2.1,r10.1.2.2.2.2.2.2.1,v6.1,v6.2.1,v6.2.2.1,v6.2.2.2.1,v6.2.2.2.2.1,l12,v6.2.2.2.2.2.2),()))else bi (bh k (v1.2.2.1,())) fun r13=>if dc (ln v2.2.1+ln [r13.1]<4294967296)then bi (bh k (r13.1,())) fun r14=>if dc (ln v3.2.1+ln [r14.1]<4294967296)then bi (oS k (v2.1,r13.1,())) fun r15=>bi (bh k (r13.1,())) fun r16=>bi (jA k ((x.1.1,x.1.2.1,x.1.2.2.1,x.1.2.2.2.1,r15.1,v2.2.1++([r13.1]:List af),v2.2.2.1,v2.2.2.2.1,v2.2.2.2.2.1,v2.2.2.2.2.2.1,v3.1,v3.2.1++([r14.1]:List af),v3.2.2),((2:Int),x.2.1,r16.1,[],0,0,8,[],0,0,0,0),())) fun r17=>bi (bR k (r17.1,x.2.1,8,())) fun r18=>J1 (r18.1,())else none else none) (fun(t2:ak×Unit)=>some (true,(t2.1.1,IntKind.i64.wrap (t2.1.2.1+1),t2.1.2.2),()))else none
def ni (k:Nat) (x:aO×Int×Unit):Option (aO×List af×Unit):=aL (fun J1=>aH k (fun G3 (t4:Int×aO×aO×aO×List af×List af×Int×Int×Unit)=>let v2:=t4.2.2.2;let v1:=v2.2.2;let v3:=v1.2.2.1;if dc (v3<v1.2.1)then if dc (0≤v3∧v3<ln v1.1)then bi (pQ k (gd v1.1 (tn v3) ab.aa,t4.1,())) fun r5=>if r5.1 then bi (bh k (gd v1.1 (tn v3) ab.aa,())) fun r6=>if dc (ln v2.2.1+ln [r6.1]<4294967296)then G3 (t4.1,t4.2.1,t4.2.2.1,v2.1,v2.2.1++([r6.1]:List af),v1.1,v1.2.1,IntKind.i64.wrap (v3+1),())else none else bi (bh k (gd v1.1 (tn v3) ab.aa,())) fun r7=>if dc (ln v2.1.2+ln [r7.1]<4294967296)then G3 (t4.1,t4.2.1,t4.2.2.1,(v2.1.1,v2.1.2++([r7.1]:List af)),v2.2.1,v1.1,v1.2.1,IntKind.i64.wrap (v3+1),())else none else none else J1 (t4.2.1,t4.2.2.1,v2.1,v2.2.1,())) (x.2.1,x.1,(0,[]),(x.1.1,[]),[],x.1.2,(ln x.1.2:Int),0,())) (fun(t2:aO×aO×aO×List af×Unit)=>some (t2.2.2.1,t2.2.2.2.1,()))
def pD (k:Nat) (x:aG×Int×Unit):Option (aG×List af×Unit):=aL (fun J1=>aH k (fun G3 (t4:Int×aG×aG×aG×List af×List aO×Int×Int×Unit)=>let v1:=t4.2.2.2;let v2:=v1.2.2.2.2.1;if dc (v2<v1.2.2.2.1)then if dc (0≤v2∧v2<ln v1.2.2.1)then bi (ni k (gd v1.2.2.1 (tn v2) ax.aa,t4.1,())) fun r5=>let v3:=ln v1.2.1+ln r5.2.1<4294967296;if dc ((ln r5.1.2:Int)>0)then if dc (ln v1.1.2.2+ln [r5.1]<4294967296)then if dc v3 then G3 (t4.1,t4.2.1,t4.2.2.1,(v1.1.1,v1.1.2.1,v1.1.2.2++([r5.1]:List aO)),v1.2.1++r5.2.1,v1.2.2.1,v1.2.2.2.1,IntKind.i64.wrap (v2+1),())else none else none else if dc v3 then G3 (t4.1,t4.2.1,t4.2.2.1,v1.1,v1.2.1++r5.2.1,v1.2.2.1,v1.2.2.2.1,IntKind.i64.wrap (v2+1),())else none else none else J1 (t4.2.1,t4.2.2.1,v1.1,v1.2.1,())) (x.2.1,x.1,(0,0,[]),(x.1.1,x.1.2.1,[]),[],x.1.2.2,(ln x.1.2.2:Int),0,())) (fun(t2:aG×aG×aG×List af×Unit)=>if dc ((ln t2.2.2.2.1:Int)>0)then some ((t2.2.2.1.1,IntKind.i64.wrap (t2.2.2.1.2.1+1),t2.2.2.1.2.2),t2.2.2.2.1,())else some (t2.2.2.1,t2.2.2.2.1,()))
def gi (k:Nat) (x:ak×Int×Unit):Option (ak×Unit):=let v5:=x.1.2.2.2;let v2:=v5.2.2.2.2;let v4:=tn x.2.1;let v1:=gd v2.2.2.2.2.2.1 v4 al.aa;let v3:=v1.2.2.2.2;if dc (0≤x.2.1∧x.2.1<ln v2.2.2.2.2.2.1)then if dc (0≤v3.1∧v3.1<ln v5.1)then cG (se v2.2.2.2.2.2.1 v4 (v1.1,v1.2.1,v1.2.2.1,v1.2.2.2.1,IntKind.i64.wrap (v3.1+1),v3.2)) fun l1=>some ((x.1.1,x.1.2.1,x.1.2.2.1,se v5.1 (tn v3.1) ((-1:Int),(gd v5.1 (tn v3.1) aj.aa).2),v5.2.1,v5.2.2.1,v5.2.2.2.1,v2.1,v2.2.1,v2.2.2.1,v2.2.2.2.1,v2.2.2.2.2.1,se l1 v4 ((gd l1 v4 al.aa).1,0,(gd l1 v4 al.aa).2.2),v2.2.2.2.2.2.2),())else none else none
def gN (k:Nat) (x:ak×Int×Unit):Option (Bool×ak×Unit):=let v3:=x.1.2.2.2;let v1:=gd v3.2.2.2.2.2.2.2.2.2.1 (tn x.2.1) al.aa;let v2:=v1.2.2.2.2.1;if dc (0≤x.2.1∧x.2.1<ln v3.2.2.2.2.2.2.2.2.2.1)then if v1.1 != 4 then some (false,x.1,())else if v1.2.1==0 then bi (eZ k (x.1,x.2.1,())) fun r1=>if !r1.1 then some (false,r1.2.1,())else some (true,(r1.2.1.1,IntKind.i64.wrap (r1.2.1.2.1+1),r1.2.1.2.2),())else if dc (0≤v2∧v2<ln v3.1)then bi (pD k (gd v3.1 (tn v2) aj.aa,x.1.2.2.1,())) fun r2=>if dc (0≤v2∧v2<ln v3.1)then bi (jA k ((x.1.1,x.1.2.1,x.1.2.2.1,se v3.1 (tn v2) r2.1,v3.2),((5:Int),x.2.1,(([]:List ay),0,0,ByteArray.empty),[],v1.2.2.2.2.1,0,8,r2.2.1,0,0,0,0),())) fun r3=>bi (gi k (r3.1,x.2.1,())) fun r4=>aL (fun J5=>if(gd r4.1.2.2.2.2.2.2.2.2.2.2.2.2.1 (tn x.2.1) al.aa).2.2.2.2.1==(ln r4.1.2.2.2.1:Int)then bi (bR k (r4.1,x.2.1,8,())) fun r7=>J5 (r7.1,r2.1,())else J5 (r4.1,r2.1,())) (fun(t6:ak×aG×Unit)=>some (true,(t6.1.1,IntKind.i64.wrap (t6.1.2.1+1),t6.1.2.2),()))else none else none else none
def iM (k:Nat) (x:ak×Int×Unit):Option (Bool×ak×Unit):=let v6:=x.1.2.2.2;let v3:=v6.2.2.2.2.2;let v7:=v3.2.2.2.2;let v2:=(gd v7.1 (tn x.2.1) al.aa).2;let v4:=v2.2.2.2.2.2.2.2;let v1:=gd v7.2 (tn v4) aI.aa;let v5:=v1.2.2.2;if dc (0≤x.2.1∧x.2.1<ln v7.1)then if v2.1==0 then bi (eZ k (x.1,x.2.1,())) fun r1=>some (r1.1,r1.2.1,())else bi (fl k (v6.1,v2.2.2.1,())) fun r2=>if r2.2.1 then if dc (0≤v4∧v4<ln v7.2)then cG (se v7.2 (tn v4) (v1.1,v1.2.1,v1.2.2.1,v5.1,v5.2.1,v5.2.2.1,v5.2.2.2.1,([r2.1]:List af),v5.2.2.2.2.2)) fun l3=>bi (bR k ((x.1.1,x.1.2.1,x.1.2.2.1,v6.1,v6.2.1,v6.2.2.1,v6.2.2.2.1,v6.2.2.2.2.1,v3.1,v3.2.1,v3.2.2.1,v3.2.2.2.1,v7.1,l3),x.2.1,5,())) fun r4=>some (true,r4.1,())else none else bi (bR k (x.1,x.2.1,6,())) fun r5=>some (true,r5.1,())else none
def gP (k:Nat) (x:ak×aN×Unit):Option (Bool×Unit):=aH k (fun G1 (t2:ak×aN×List Int×Int×Int×Unit)=>let v1:=t2.2.2.2.2.1;if dc (v1<t2.2.2.2.1)then if dc (0≤v1∧v1<ln t2.2.2.1)then if dc (0≤v1∧v1<ln t2.1.2.2.2.1)then if(gd t2.1.2.2.2.1 (tn v1) aj.aa).2.1 != (gd t2.2.2.1 (tn v1) 0)then some (false,())else G1 (t2.1,t2.2.1,t2.2.2.1,t2.2.2.2.1,IntKind.i64.wrap (v1+1),())else none else none else some (true,())) (x.1,x.2.1,x.2.1.2.2.2.2.2.1,(ln x.2.1.2.2.2.2.2.1:Int),0,())
def eI (k:Nat) (x:ak×Int×Unit):Option (Bool×ak×Unit):=let v3:=tn x.2.1;let v9:=x.1.2.2.2;let v5:=v9.2.2.2.2.2;let v10:=v5.2.2.2.2;let v1:=gd v10.1 v3 al.aa;let v7:=v1.2.2.2.2;let v12:=(gd v9.1 (tn v7.1) aj.aa).2;let v8:=se v10.1 v3 (v1.1,v1.2.1,v1.2.2.1,v1.2.2.2.1,v7.1,v7.2.1++([v12.1]:List Int),v7.2.2);let v2:=gd v8 v3 al.aa;let v14:=v7.2.2.2.2;let v4:=gd v10.2 (tn v14) aI.aa;let v15:=se v10.1 v3 (v1.1,0,v1.2.2);let v6:=gd v15 v3 al.aa;let v11:=v2.2.2.2.2;let v13:=v4.2.2.2;if dc (0≤x.2.1∧x.2.1<ln v10.1)then if v1.2.1==0 then bi (eZ k (x.1,x.2.1,())) fun r1=>some (r1.1,r1.2.1,())else if v1.2.1==1 then if dc (0≤v7.1∧v7.1<ln v9.1)then if dc (ln v7.2.1+ln [v12.1]<4294967296)then if dc ((x.2.1:Int)=x.2.1)then bi (ij k (gd v9.1 (tn v7.1) aj.aa,())) fun r2=>if dc (ln v11.2.2.1+ln r2.1<4294967296)then if dc ((x.2.1:Int)=x.2.1)then bi (gi k ((x.1.1,x.1.2.1,x.1.2.2.1,v9.1,v9.2.1,v9.2.2.1,v9.2.2.2.1,v9.2.2.2.2.1,v5.1,v5.2.1,v5.2.2.1,v5.2.2.2.1,se v8 v3 (v2.1,v2.2.1,v2.2.2.1,v2.2.2.2.1,v11.1,v11.2.1,v11.2.2.1++r2.1,v11.2.2.2),v10.2),x.2.1,())) fun r3=>let v18:=r3.1.2.2.2;let v16:=v18.2.2.2.2.2;let v17:=gd v16.2.2.2.2.1 v3 al.aa;if v17.2.2.2.2.1==ln v18.1 then some (true,(r3.1.1,r3.1.2.1,r3.1.2.2.1,v18.1,v18.2.1,v18.2.2.1,v18.2.2.2.1,v18.2.2.2.2.1,v16.1,v16.2.1,v16.2.2.1,v16.2.2.2.1,se v16.2.2.2.2.1 v3 (v17.1,2,v17.2.2),v16.2.2.2.2.2),())else some (true,r3.1,())else none else none else none else none else none else bi (gP k (x.1,gd v10.1 v3 al.aa,())) fun r4=>if !r4.1 then cG (se v15 v3 (v6.1,v6.2.1,v6.2.2.1,v6.2.2.2.1,0,v6.2.2.2.2.2)) fun l5=>let v21:=gd l5 v3 al.aa;let v19:=se l5 v3 (v21.1,v21.2.1,v21.2.2.1,v21.2.2.2.1,v21.2.2.2.2.1,[],v21.2.2.2.2.2.2);let v20:=gd v19 v3 al.aa;cG (se v19 v3 (v20.1,v20.2.1,v20.2.2.1,v20.2.2.2.1,v20.2.2.2.2.1,v20.2.2.2.2.2.1,[],v20.2.2.2.2.2.2.2)) fun l6=>some (true,(x.1.1,x.1.2.1,x.1.2.2.1,v9.1,v9.2.1,v9.2.2.1,v9.2.2.2.1,v9.2.2.2.2.1,v5.1,v5.2.1,v5.2.2.1,v5.2.2.2.1,l6,v10.2),())else bi (bB k (v7.2.2.1,())) fun r7=>bi (fG k (r7.1,())) fun r8=>if dc (0≤v14∧v14<ln v10.2)then cG (se v10.2 (tn v14) (v4.1,v4.2.1,v4.2.2.1,v13.1,v13.2.1,v13.2.2.1,v13.2.2.2.1,r8.1,v13.2.2.2.2.2)) fun l9=>bi (bR k ((x.1.1,x.1.2.1,x.1.2.2.1,v9.1,v9.2.1,v9.2.2.1,v9.2.2.2.1,v9.2.2.2.2.1,v5.1,v5.2.1,v5.2.2.1,v5.2.2.2.1,v10.1,l9),x.2.1,8,())) fun r10=>some (true,r10.1,())else none else none
def fx (k:Nat) (x:ak×Int×Unit):Option (Bool×ak×Unit):=let v1:=((gd x.1.2.2.2.2.2.2.2.2.2.2.2.2.1 (tn x.2.1) al.aa).1:Int);aL (fun J1=>if dc (0≤x.2.1∧x.2.1<ln x.1.2.2.2.2.2.2.2.2.2.2.2.2.1)then if v1==2 then bi (iM k (x.1,x.2.1,())) fun r3=>J1 (r3.2.1,r3.1,())else if v1==3 then bi (eI k (x.1,x.2.1,())) fun r4=>J1 (r4.2.1,r4.1,())else J1 (x.1,false,())else none) (fun(t2:ak×Bool×Unit)=>if t2.2.1 then some (t2.2.1,(t2.1.1,IntKind.i64.wrap (t2.1.2.1+1),t2.1.2.2),())else some (t2.2.1,t2.1,()))
def fS (k:Nat) (x:ak×Int×Unit):Option (Bool×ak×Unit):=let v1:=((gd x.1.2.2.2.2.2.2.2.2.2.2.2.2.1 (tn x.2.1) al.aa).1:Int);if x.2.1==3 then bi (ir k (x.1,())) fun r1=>some (r1.1,r1.2.1,())else if x.2.1==4 then bi (gM k (x.1,())) fun r2=>some (r2.1,r2.2.1,())else bi (bN k (x.2.1,0,2,())) fun r3=>if !r3.1 then some (false,x.1,())else if dc (0≤x.2.1∧x.2.1<ln x.1.2.2.2.2.2.2.2.2.2.2.2.2.1)then if v1==1 then bi (iO k (x.1,x.2.1,())) fun r4=>some (r4.1,r4.2.1,())else if v1==4 then bi (gN k (x.1,x.2.1,())) fun r5=>some (r5.1,r5.2.1,())else bi (fx k (x.1,x.2.1,())) fun r6=>some (r6.1,r6.2.1,())else none
def tU (k:Nat) (x:ak×Int×Unit):Option (ak×Bool×Unit):=bi (fv k (x.1,())) fun r1=>bi (oY k (x.1,())) fun r2=>if(!r2.1)==false then bi (fS k (r1.1,x.2.1,())) fun r3=>if if !r2.1 then true else !r3.1 then bi (fv k (x.1,())) fun r4=>some (r4.1,false,())else some (r3.2.1,true,())else if if !r2.1 then true else !false then bi (fv k (x.1,())) fun r5=>some (r5.1,false,())else some (r1.1,true,())
def uh (k:Nat) (x:ak×Int×Unit):Option (Bool×Unit):=bi (tU k (x.1,x.2.1,())) fun r1=>some (r1.2.1,())
def qQ (k:Nat) (x:List ByteArray×List ByteArray×Unit):Option (Bool×Unit):=if(ln x.1:Int) != (ln x.2.1:Int)then some (false,())else aH k (fun G1 (t2:List ByteArray×List ByteArray×Int×Unit)=>let v1:=t2.2.2.1;if dc (v1<ln t2.1)then if dc (0≤v1∧v1<ln t2.1)then if dc (0≤v1∧v1<ln t2.2.1)then if !(ByteArray.toList (gd t2.1 (tn v1) ByteArray.empty)==ByteArray.toList (gd t2.2.1 (tn v1) ByteArray.empty))then some (false,())else G1 (t2.1,t2.2.1,IntKind.i64.wrap (v1+1),())else none else none else some (true,())) (x.1,x.2.1,0,())
def qF (k:Nat) (x:bT×bT×Unit):Option (Bool×Unit):=if x.1.1 != x.2.1.1 then some (false,())else if x.1.2.1 != x.2.1.2.1 then some (false,())else if x.1.2.2.1 != x.2.1.2.2.1 then some (false,())else if x.1.2.2.2.1 != x.2.1.2.2.2.1 then some (false,())else if x.1.2.2.2.2.1 != x.2.1.2.2.2.2.1 then some (false,())else bi (qQ k (x.1.2.2.2.2.2,x.2.1.2.2.2.2.2,())) fun r1=>if !r1.1 then some (false,())else some (true,())
def lF (k:Nat) (x:ay×ay×Unit):Option (Bool×Unit):=if !(ByteArray.toList x.1.1==ByteArray.toList x.2.1.1)then some (false,())else if !(ByteArray.toList x.1.2==ByteArray.toList x.2.1.2)then some (false,())else some (true,())
def fI (k:Nat) (x:List ay×List ay×Unit):Option (Bool×Unit):=if(ln x.1:Int) != (ln x.2.1:Int)then some (false,())else aH k (fun G1 (t2:List ay×List ay×Int×Unit)=>let v1:=t2.2.2.1;if dc (v1<ln t2.1)then if dc (0≤v1∧v1<ln t2.1)then if dc (0≤v1∧v1<ln t2.2.1)then bi (lF k (gd t2.1 (tn v1) aq.aa,gd t2.2.1 (tn v1) aq.aa,())) fun r3=>if !r3.1 then some (false,())else G1 (t2.1,t2.2.1,IntKind.i64.wrap (v1+1),())else none else none else some (true,())) (x.1,x.2.1,0,())
def gE (k:Nat) (x:af×af×Unit):Option (Bool×Unit):=bi (fI k (x.1.1,x.2.1.1,())) fun r1=>if !r1.1 then some (false,())else if x.1.2.1 != x.2.1.2.1 then some (false,())else if x.1.2.2.1 != x.2.1.2.2.1 then some (false,())else if !(ByteArray.toList x.1.2.2.2==ByteArray.toList x.2.1.2.2.2)then some (false,())else some (true,())
def dM (k:Nat) (x:List af×List af×Unit):Option (Bool×Unit):=if(ln x.1:Int) != (ln x.2.1:Int)then some (false,())else aH k (fun G1 (t2:List af×List af×Int×Unit)=>let v1:=t2.2.2.1;if dc (v1<ln t2.1)then if dc (0≤v1∧v1<ln t2.1)then if dc (0≤v1∧v1<ln t2.2.1)then bi (gE k (gd t2.1 (tn v1) ab.aa,gd t2.2.1 (tn v1) ab.aa,())) fun r3=>if !r3.1 then some (false,())else G1 (t2.1,t2.2.1,IntKind.i64.wrap (v1+1),())else none else none else some (true,())) (x.1,x.2.1,0,())
def kW (k:Nat) (x:aO×aO×Unit):Option (Bool×Unit):=if x.1.1 != x.2.1.1 then some (false,())else bi (dM k (x.1.2,x.2.1.2,())) fun r1=>if !r1.1 then some (false,())else some (true,())
def rO (k:Nat) (x:List aO×List aO×Unit):Option (Bool×Unit):=if(ln x.1:Int) != (ln x.2.1:Int)then some (false,())else aH k (fun G1 (t2:List aO×List aO×Int×Unit)=>let v1:=t2.2.2.1;if dc (v1<ln t2.1)then if dc (0≤v1∧v1<ln t2.1)then if dc (0≤v1∧v1<ln t2.2.1)then bi (kW k (gd t2.1 (tn v1) ax.aa,gd t2.2.1 (tn v1) ax.aa,())) fun r3=>if !r3.1 then some (false,())else G1 (t2.1,t2.2.1,IntKind.i64.wrap (v1+1),())else none else none else some (true,())) (x.1,x.2.1,0,())
def mz (k:Nat) (x:aG×aG×Unit):Option (Bool×Unit):=if x.1.1 != x.2.1.1 then some (false,())else if x.1.2.1 != x.2.1.2.1 then some (false,())else bi (rO k (x.1.2.2,x.2.1.2.2,())) fun r1=>if !r1.1 then some (false,())else some (true,())
def tz (k:Nat) (x:List aG×List aG×Unit):Option (Bool×Unit):=if(ln x.1:Int) != (ln x.2.1:Int)then some (false,())else aH k (fun G1 (t2:List aG×List aG×Int×Unit)=>let v1:=t2.2.2.1;if dc (v1<ln t2.1)then if dc (0≤v1∧v1<ln t2.1)then if dc (0≤v1∧v1<ln t2.2.1)then bi (mz k (gd t2.1 (tn v1) aj.aa,gd t2.2.1 (tn v1) aj.aa,())) fun r3=>if !r3.1 then some (false,())else G1 (t2.1,t2.2.1,IntKind.i64.wrap (v1+1),())else none else none else some (true,())) (x.1,x.2.1,0,())
def oc (k:Nat) (x:bp×bp×Unit):Option (Bool×Unit):=bi (dM k (x.1.1,x.2.1.1,())) fun r1=>if !r1.1 then some (false,())else if !(x.1.2==x.2.1.2)then some (false,())else some (true,())
def uW (k:Nat) (x:List bp×List bp×Unit):Option (Bool×Unit):=if(ln x.1:Int) != (ln x.2.1:Int)then some (false,())else aH k (fun G1 (t2:List bp×List bp×Int×Unit)=>let v1:=t2.2.2.1;if dc (v1<ln t2.1)then if dc (0≤v1∧v1<ln t2.1)then if dc (0≤v1∧v1<ln t2.2.1)then bi (oc k (gd t2.1 (tn v1) aW.aa,gd t2.2.1 (tn v1) aW.aa,())) fun r3=>if !r3.1 then some (false,())else G1 (t2.1,t2.2.1,IntKind.i64.wrap (v1+1),())else none else none else some (true,())) (x.1,x.2.1,0,())
def lI (k:Nat) (x:aD×aD×Unit):Option (Bool×Unit):=if x.1.1 != x.2.1.1 then some (false,())else bi (fI k (x.1.2.1,x.2.1.2.1,())) fun r1=>if !r1.1 then some (false,())else if x.1.2.2.1 != x.2.1.2.2.1 then some (false,())else if x.1.2.2.2.1 != x.2.1.2.2.2.1 then some (false,())else bi (dM k (x.1.2.2.2.2,x.2.1.2.2.2.2,())) fun r2=>if !r2.1 then some (false,())else some (true,())
def rN (k:Nat) (x:List aD×List aD×Unit):Option (Bool×Unit):=if(ln x.1:Int) != (ln x.2.1:Int)then some (false,())else aH k (fun G1 (t2:List aD×List aD×Int×Unit)=>let v1:=t2.2.2.1;if dc (v1<ln t2.1)then if dc (0≤v1∧v1<ln t2.1)then if dc (0≤v1∧v1<ln t2.2.1)then bi (lI k (gd t2.1 (tn v1) ah.aa,gd t2.2.1 (tn v1) ah.aa,())) fun r3=>if !r3.1 then some (false,())else G1 (t2.1,t2.2.1,IntKind.i64.wrap (v1+1),())else none else none else some (true,())) (x.1,x.2.1,0,())
def lk (k:Nat) (x:aJ×aJ×Unit):Option (Bool×Unit):=if x.1.1 != x.2.1.1 then some (false,())else if x.1.2 != x.2.1.2 then some (false,())else some (true,())
def sS (k:Nat) (x:List aJ×List aJ×Unit):Option (Bool×Unit):=if(ln x.1:Int) != (ln x.2.1:Int)then some (false,())else aH k (fun G1 (t2:List aJ×List aJ×Int×Unit)=>let v1:=t2.2.2.1;if dc (v1<ln t2.1)then if dc (0≤v1∧v1<ln t2.1)then if dc (0≤v1∧v1<ln t2.2.1)then bi (lk k (gd t2.1 (tn v1) aw.aa,gd t2.2.1 (tn v1) aw.aa,())) fun r3=>if !r3.1 then some (false,())else G1 (t2.1,t2.2.1,IntKind.i64.wrap (v1+1),())else none else none else some (true,())) (x.1,x.2.1,0,())
def lq (k:Nat) (x:bm×bm×Unit):Option (Bool×Unit):=if x.1.1 != x.2.1.1 then some (false,())else bi (fI k (x.1.2.1,x.2.1.2.1,())) fun r1=>if !r1.1 then some (false,())else if x.1.2.2.1 != x.2.1.2.2.1 then some (false,())else bi (dM k (x.1.2.2.2,x.2.1.2.2.2,())) fun r2=>if !r2.1 then some (false,())else some (true,())
def sK (k:Nat) (x:List bm×List bm×Unit):Option (Bool×Unit):=if(ln x.1:Int) != (ln x.2.1:Int)then some (false,())else aH k (fun G1 (t2:List bm×List bm×Int×Unit)=>let v1:=t2.2.2.1;if dc (v1<ln t2.1)then if dc (0≤v1∧v1<ln t2.1)then if dc (0≤v1∧v1<ln t2.2.1)then bi (lq k (gd t2.1 (tn v1) aX.aa,gd t2.2.1 (tn v1) aX.aa,())) fun r3=>if !r3.1 then some (false,())else G1 (t2.1,t2.2.1,IntKind.i64.wrap (v1+1),())else none else none else some (true,())) (x.1,x.2.1,0,())
def u4 (k:Nat) (x:List Int×List Int×Unit):Option (Bool×Unit):=if(ln x.1:Int) != (ln x.2.1:Int)then some (false,())else aH k (fun G1 (t2:List Int×List Int×Int×Unit)=>let v1:=t2.2.2.1;if dc (v1<ln t2.1)then if dc (0≤v1∧v1<ln t2.1)then if dc (0≤v1∧v1<ln t2.2.1)then if((gd t2.1 (tn v1) 0):Int) != (gd t2.2.1 (tn v1) 0)then some (false,())else G1 (t2.1,t2.2.1,IntKind.i64.wrap (v1+1),())else none else none else some (true,())) (x.1,x.2.1,0,())
def mM (k:Nat) (x:aN×aN×Unit):Option (Bool×Unit):=let v1:=x.2.1.2.2.2;if x.1.1 != x.2.1.1 then some (false,())else if x.1.2.1 != x.2.1.2.1 then some (false,())else bi (gE k (x.1.2.2.1,x.2.1.2.2.1,())) fun r1=>if !r1.1 then some (false,())else bi (fI k (x.1.2.2.2.1,v1.1,())) fun r2=>if !r2.1 then some (false,())else if x.1.2.2.2.2.1 != v1.2.1 then some (false,())else bi (u4 k (x.1.2.2.2.2.2.1,v1.2.2.1,())) fun r3=>if !r3.1 then some (false,())else bi (dM k (x.1.2.2.2.2.2.2.1,v1.2.2.2.1,())) fun r4=>if !r4.1 then some (false,())else if x.1.2.2.2.2.2.2.2.1 != v1.2.2.2.2.1 then some (false,())else if x.1.2.2.2.2.2.2.2.2 != v1.2.2.2.2.2 then some (false,())else some (true,())
def tf (k:Nat) (x:List aN×List aN×Unit):Option (Bool×Unit):=if(ln x.1:Int) != (ln x.2.1:Int)then some (false,())else aH k (fun G1 (t2:List aN×List aN×Int×Unit)=>let v1:=t2.2.2.1;if dc (v1<ln t2.1)then if dc (0≤v1∧v1<ln t2.1)then if dc (0≤v1∧v1<ln t2.2.1)then bi (mM k (gd t2.1 (tn v1) al.aa,gd t2.2.1 (tn v1) al.aa,())) fun r3=>if !r3.1 then some (false,())else G1 (t2.1,t2.2.1,IntKind.i64.wrap (v1+1),())else none else none else some (true,())) (x.1,x.2.1,0,())
def mI (k:Nat) (x:aP×aP×Unit):Option (Bool×Unit):=let v1:=x.2.1.2.2.2.2.2;let v2:=x.1.2.2.2.2.2;if x.1.1 != x.2.1.1 then some (false,())else if x.1.2.1 != x.2.1.2.1 then some (false,())else bi (gE k (x.1.2.2.1,x.2.1.2.2.1,())) fun r1=>if !r1.1 then some (false,())else bi (fI k (x.1.2.2.2.1,x.2.1.2.2.2.1,())) fun r2=>if !r2.1 then some (false,())else if x.1.2.2.2.2.1 != x.2.1.2.2.2.2.1 then some (false,())else if v2.1 != v1.1 then some (false,())else if v2.2.1 != v1.2.1 then some (false,())else bi (dM k (v2.2.2.1,v1.2.2.1,())) fun r3=>if !r3.1 then some (false,())else if v2.2.2.2.1 != v1.2.2.2.1 then some (false,())else if v2.2.2.2.2.1 != v1.2.2.2.2.1 then some (false,())else if v2.2.2.2.2.2.1 != v1.2.2.2.2.2.1 then some (false,())else if v2.2.2.2.2.2.2 != v1.2.2.2.2.2.2 then some (false,())else some (true,())
def tv (k:Nat) (x:List aP×List aP×Unit):Option (Bool×Unit):=if(ln x.1:Int) != (ln x.2.1:Int)then some (false,())else aH k (fun G1 (t2:List aP×List aP×Int×Unit)=>let v1:=t2.2.2.1;if dc (v1<ln t2.1)then if dc (0≤v1∧v1<ln t2.1)then if dc (0≤v1∧v1<ln t2.2.1)then bi (mI k (gd t2.1 (tn v1) aI.aa,gd t2.2.1 (tn v1) aI.aa,())) fun r3=>if !r3.1 then some (false,())else G1 (t2.1,t2.2.1,IntKind.i64.wrap (v1+1),())else none else none else some (true,())) (x.1,x.2.1,0,())
def o9 (k:Nat) (x:ak×ak×Unit):Option (Bool×Unit):=let v1:=x.2.1.2.2.2.2.2.2;let v2:=x.1.2.2.2.2.2.2;bi (qF k (x.1.1,x.2.1.1,())) fun r1=>if !r1.1 then some (false,())else if x.1.2.1 != x.2.1.2.1 then some (false,())else if x.1.2.2.1 != x.2.1.2.2.1 then some (false,())else bi (tz k (x.1.2.2.2.1,x.2.1.2.2.2.1,())) fun r2=>if !r2.1 then some (false,())else bi (uW k (x.1.2.2.2.2.1,x.2.1.2.2.2.2.1,())) fun r3=>if !r3.1 then some (false,())else bi (dM k (x.1.2.2.2.2.2.1,x.2.1.2.2.2.2.2.1,())) fun r4=>if !r4.1 then some (false,())else if v2.1 != v1.1 then some (false,())else bi (rN k (v2.2.1,v1.2.1,())) fun r5=>if !r5.1 then some (false,())else if v2.2.2.1 != v1.2.2.1 then some (false,())else bi (sS k (v2.2.2.2.1,v1.2.2.2.1,())) fun r6=>if !r6.1 then some (false,())else bi (sK k (v2.2.2.2.2.1,v1.2.2.2.2.1,())) fun r7=>if !r7.1 then some (false,())else bi (dM k (v2.2.2.2.2.2.1,v1.2.2.2.2.2.1,())) fun r8=>if !r8.1 then some (false,())else bi (tf k (v2.2.2.2.2.2.2.1,v1.2.2.2.2.2.2.1,())) fun r9=>if !r9.1 then some (false,())else bi (tv k (v2.2.2.2.2.2.2.2,v1.2.2.2.2.2.2.2,())) fun r10=>if !r10.1 then some (false,())else some (true,())
def oh (k:Nat) (x:ak×Int×Unit):Option (Bool×Unit):=bi (oE k (x.1,1048576,())) fun r1=>if dc (r1.1<0)then some (true,())else bi (jf k (x.1,())) fun r2=>bi (tS k (r2.1,x.2.1,())) fun r3=>bi (jf k (x.1,())) fun r4=>bi (uh k (r4.1,x.2.1,())) fun r5=>if !(r5.1==r3.1)then some (false,())else bi (jf k (x.1,())) fun r6=>bi (o9 k (r4.1,r6.1,())) fun r7=>if !r7.1 then some (false,())else some (true,())
end Vg.Tryz
namespace Go.Proofs
open Go.Shelf
def Tryz.Hp:Go.Shelf.Ren:=⟨fun|156=>378|165=>409|166=>410|169=>411|240=>419|241=>420|276=>424|277=>425|n=>n,fun|31=>22|9=>9|3=>3|4=>4|0=>0|20=>20|72=>347|76=>350|70=>345|37=>51|75=>349|127=>357|164=>317|5=>5|80=>352|n=>n,fun|n=>n⟩
theorem Tryz.Xp:Go.Proofs.Lays.n156 Tryz.prog Tryz.Hp:={
 mixed:=by kernel_rfl
 f156:=Tryz.func378.trans (congrArg some (by kernel_rfl))
 f165:=Tryz.func409.trans (congrArg some (by kernel_rfl))
 f166:=Tryz.func410.trans (congrArg some (by kernel_rfl))
 f169:=Tryz.func411.trans (congrArg some (by kernel_rfl))
 f240:=Tryz.func419.trans (congrArg some (by kernel_rfl))
 f241:=Tryz.func420.trans (congrArg some (by kernel_rfl))
 f276:=Tryz.func424.trans (congrArg some (by kernel_rfl))
 f277:=Tryz.func425.trans (congrArg some (by kernel_rfl))
 t0:=Tryz.underlying0
 a0:=Tryz.isAgg0
 z0:=Tryz.sizeOf0
 v0:=Tryz.zeroValue0
 t3:=Tryz.underlying3
 a3:=Tryz.isAgg3
 z3:=Tryz.sizeOf3
 v3:=Tryz.zeroValue3
 t4:=Tryz.underlying4
 a4:=Tryz.isAgg4
 z4:=Tryz.sizeOf4
 v4:=Tryz.zeroValue4
 t9:=Tryz.underlying9
 a9:=Tryz.isAgg9
 z9:=Tryz.sizeOf9
 v9:=Tryz.zeroValue9
 t20:=Tryz.underlying20
 a20:=Tryz.isAgg20
 z20:=Tryz.sizeOf20
 v20:=Tryz.zeroValue20
 t31:=Tryz.underlying22
 a31:=Tryz.isAgg22
 z31:=Tryz.sizeOf22
 v31:=Tryz.zeroValue22
 t37:=Tryz.underlying51
 a37:=Tryz.isAgg51
 z37:=Tryz.sizeOf51
 v37:=Tryz.zeroValue51
 t70:=Tryz.underlying345
 a70:=Tryz.isAgg345
 z70:=Tryz.sizeOf345
 v70:=Tryz.zeroValue345
 t72:=Tryz.underlying347
 a72:=Tryz.isAgg347
 z72:=Tryz.sizeOf347
 v72:=Tryz.zeroValue347
 t75:=Tryz.underlying349
 a75:=Tryz.isAgg349
 z75:=Tryz.sizeOf349
 v75:=Tryz.zeroValue349
 t76:=Tryz.underlying350
 a76:=Tryz.isAgg350
 z76:=Tryz.sizeOf350
 v76:=Tryz.zeroValue350
 t127:=Tryz.underlying357
 a127:=Tryz.isAgg357
 z127:=Tryz.sizeOf357
 v127:=Tryz.zeroValue357
 t164:=Tryz.underlying317
 a164:=Tryz.isAgg317
 z164:=Tryz.sizeOf317
 v164:=Tryz.zeroValue317}
theorem Tryz.vp:Builder.Extra Tryz.prog Tryz.Hp:={
 sizeBuilder:=by kernel_rfl
 liesBuilder:=by kernel_rfl
 t5:=Tryz.underlying5
 a5:=Tryz.isAgg5
 z5:=Tryz.sizeOf5
 v5:=Tryz.zeroValue5
 infoByte:=by kernel_rfl
 cellsByte:=by kernel_rfl
 sizeByte:=by kernel_rfl
 neB5:=by decide}
open Go.RowKit in
theorem Tryz.strings_Join_none (a:Option Addr) (c:Nat) (sep:ByteArray) (w:World):
 Calls Tryz.prog 378 #[.slice a 0 c,.string sep] w fun e w'=>e= .returned (.string ⟨#[]⟩)∧w'=w:=Any.strings_Join_none Tryz.Xp Tryz.vp a c sep w
open Go.RowKit in
theorem Tryz.strings_Join (bk o c:Nat) (xs:List ByteArray) (sep:ByteArray) (w:World) (hcells:∀(j:Nat) x,xs[j]?=some x→w.cell? ⟨bk,o+j,none⟩=some (.string x)) (hbk:bk<w.heap.size) (hN:xs.length≤140737488355328) (hcap:xs.length≤c) (hlen:(Lib.join (xs.map (·.data.toList)) sep.data.toList).length≤140737488355328):
 Calls Tryz.prog 378 #[.slice (some ⟨bk,o,none⟩) xs.length c,.string sep] w fun e w'=>e= .returned (.string ⟨(Lib.join (xs.map (·.data.toList)) sep.data.toList).toArray⟩)∧Below w.heap.size w w':=Any.strings_Join Tryz.Xp Tryz.vp bk o c xs sep w hcells hbk hN hcap hlen
end Go.Proofs
namespace Vg.Tryz
open Go Vg Go.Proofs
def zN (k:Nat):rk:=⟨[.val (.sl .str) .shr,.val .str .leaf],[.val .str .leaf],tj k,[]⟩
set_option maxRecDepth 1000000 in
theorem Q7 (k:Nat):oz Tryz.prog 378 (zN k):=Ys Tryz.func378 (by kernel_rfl) (by kernel_rfl) Tryz.strings_Join_none Tryz.strings_Join
end Vg.Tryz
namespace Go.Proofs
open Go.RowKit
def XN:Value→Int| .int _ q=>q|_=>0
set_option maxHeartbeats 4000000 in
set_option maxRecDepth 100000 in
theorem Tryz.SE (pa pb:Option Addr) (ca cb:Nat) (a b:List (ByteArray×ByteArray)) (W:World) (la:a.length<4611686018427387904) (lb:b.length<4611686018427387904)
 (ha:∀i,i<a.length→∃bk o,pa=some ⟨bk,o,none⟩∧W.cell? ⟨bk,o+i*2,none⟩=some (.string (a.getD i (ByteArray.empty,ByteArray.empty)).1)∧W.cell? ⟨bk,o+i*2+1,none⟩=some (.string (a.getD i (ByteArray.empty,ByteArray.empty)).2))
 (hb:∀i,i<b.length→∃bk o,pb=some ⟨bk,o,none⟩∧W.cell? ⟨bk,o+i*2,none⟩=some (.string (b.getD i (ByteArray.empty,ByteArray.empty)).1)∧W.cell? ⟨bk,o+i*2+1,none⟩=some (.string (b.getD i (ByteArray.empty,ByteArray.empty)).2)):
 Calls Tryz.prog 318 #[.slice pa a.length ca,.slice pb b.length cb] W fun e w'=>e= .returned (.bool (Vg.bD a b))∧∃q,w'=W.drewN q:=by
 go_enter Tryz.func318,Tryz.ntmps318
 go_wp2
 go_loopw [5] (fun vi wr=>∃(t q:Nat),vi= .int .i64 (t:Int)∧t≤a.length∧t≤b.length∧wr=W.drewN q∧Vg.bD a b=Vg.bD (a.drop t) (b.drop t)) (fun vi _=>a.length+1-(XN vi).toNat)
 case atStart=>exact⟨0,0,rfl,by omega,by omega,rfl,rfl⟩
 case round=>
  obtain⟨t,q,rfl,ht1,ht2,hw,hR⟩:=hrel
  by_cases hin:t<a.length∧t<b.length
  ·obtain⟨hi1,hi2⟩:=hin
   obtain⟨ba,oa,ea,a1,a2⟩:=ha t hi1
   obtain⟨bb,ob,eb,b1,b2⟩:=hb t hi2
   have c1:wr.cell? ⟨ba,oa+t*2,none⟩=some (.string (a.getD t (ByteArray.empty,ByteArray.empty)).1):=by rw[hw];exact a1
   have c2:wr.cell? ⟨ba,oa+t*2+1,none⟩=some (.string (a.getD t (ByteArray.empty,ByteArray.empty)).2):=by rw[hw];exact a2
   have c3:wr.cell? ⟨bb,ob+t*2,none⟩=some (.string (b.getD t (ByteArray.empty,ByteArray.empty)).1):=by rw[hw];exact b1
   have c4:wr.cell? ⟨bb,ob+t*2+1,none⟩=some (.string (b.getD t (ByteArray.empty,ByteArray.empty)).2):=by rw[hw];exact b2
   have hs:Vg.bD (a.drop t) (b.drop t)=if(a.getD t (ByteArray.empty,ByteArray.empty)).1.toList==(b.getD t (ByteArray.empty,ByteArray.empty)).1.toList then(if(a.getD t (ByteArray.empty,ByteArray.empty)).2.toList==(b.getD t (ByteArray.empty,ByteArray.empty)).2.toList then Vg.bD (a.drop (t+1)) (b.drop (t+1))else Vg.nz (a.getD t (ByteArray.empty,ByteArray.empty)).2 (b.getD t (ByteArray.empty,ByteArray.empty)).2)else Vg.nz (a.getD t (ByteArray.empty,ByteArray.empty)).1 (b.getD t (ByteArray.empty,ByteArray.empty)).1:=by
    rw[akp hi1,akp hi2]
    simp only[Vg.bD,List.getD_eq_getElem?_getD,akq hi1,akq hi2,Option.getD_some]
   generalize (a.getD t (ByteArray.empty,ByteArray.empty)).1=x1 at c1 hs
   generalize (a.getD t (ByteArray.empty,ByteArray.empty)).2=x2 at c2 hs
   generalize (b.getD t (ByteArray.empty,ByteArray.empty)).1=y1 at c3 hs
   generalize (b.getD t (ByteArray.empty,ByteArray.empty)).2=y2 at c4 hs
   subst ea eb
   have HW:Hid (wr=W.drewN q):=hw
   have HR:Hid (Vg.bD a b=Vg.bD (a.drop t) (b.drop t)):=hR
   have HS:Hid (_=_):=hs
   clear hw hR hs ha hb a1 a2 b1 b2
   go_wp2
   go_quiet (fail)
   go_wp2
   ·have hne:(!x1.toList==y1.toList)=true:=by assumption
    go_quiet (fail)
    go_wp2
    go_ret
    have hv:Vg.bD a b=Op.bytesLess x1.toList y1.toList:=by
     rw[HR.out,HS.out,if_neg (by simpa using hne)];rfl
    refine⟨?_,_,by rw[HW.out,World.drewN_drewN,World.drewN_drewN]⟩
    rw[hv];rfl
   ·have hne:(!x1.toList==y1.toList)=false:=by assumption
    go_quiet (fail)
    go_wp2
    ·have hne2:(!x2.toList==y2.toList)=true:=by assumption
     go_quiet (fail)
     go_wp2
     go_ret
     have hv:Vg.bD a b=Op.bytesLess x2.toList y2.toList:=by
      rw[HR.out,HS.out,if_pos (by simpa using hne),if_neg (by simpa using hne2)];rfl
     refine⟨?_,_,by rw[HW.out,World.drewN_drewN,World.drewN_drewN,World.drewN_drewN]⟩
     rw[hv];rfl
    ·have hne2:(!x2.toList==y2.toList)=false:=by assumption
     refine⟨⟨t+1,_,by congr 1,by omega,by omega,by rw[HW.out,World.drewN_drewN],?_⟩,?_⟩
     ·rw[HR.out,HS.out,if_pos (by simpa using hne),if_pos (by simpa using hne2)]
     ·simp[XN];omega
  ·have hv:Vg.bD a b=decide (a.length<b.length):=by
    rw[hR]
    by_cases h1:t<a.length
    ·have h2:t=b.length:=by omega
     subst h2
     rw[akr,akp h1]
     simp only[Vg.bD]
     rw[decide_eq_false (by omega)]
    ·have h2:t=a.length:=by omega
     subst h2
     rw[akr]
     cases hd:b.drop a.length with
     |nil=>
      have:=congrArg List.length hd
      simp only[aks,List.length_nil]at this
      simp only[Vg.bD,List.isEmpty_nil,Bool.not_true]
      rw[decide_eq_false (by omega)]
     |cons z zs=>
      have:=congrArg List.length hd
      simp only[aks,List.length_cons]at this
      simp only[Vg.bD,List.isEmpty_cons,Bool.not_false]
      rw[decide_eq_true (by omega)]
   have HW:Hid (wr=W.drewN q):=hw
   have HV:Hid (_=_):=hv
   clear hw hR hv ha hb
   by_cases h1:t<a.length
   ·have h2:¬t<b.length:=fun h=>hin ⟨h1,h⟩
    clear hin
    go_wp2
    go_ret
    refine⟨?_,_,HW.out⟩
    rw[HV.out];rfl
   ·clear hin
    go_wp2
    go_ret
    refine⟨?_,_,HW.out⟩
    rw[HV.out];rfl
set_option maxHeartbeats 4000000 in
set_option maxRecDepth 100000 in
theorem Tryz.Th (blk off c Bs n:Nat) (W:World) (i j:Nat) (hi:i<n) (hj:j<n) (hn:n<4611686018427387904) (va vb:Value) (r:Bool)
 (hs:W.cell? ⟨Bs,0,none⟩=some (.slice (some ⟨blk,off,none⟩) n c)) (hva:W.cell? ⟨blk,off+i*4,none⟩=some va) (hvb:W.cell? ⟨blk,off+j*4,none⟩=some vb)
 (hc:∀q,Calls Tryz.prog 318 #[va,vb] (W.drewN q) fun e w'=>e= .returned (.bool r)∧∃m,w'=(W.drewN q).drewN m):
 Calls Tryz.prog 317 #[.int .i64 i,.int .i64 j,.pointer (some ⟨Bs,0,none⟩)] W fun e w'=>e= .returned (.bool r)∧∃q,w'=W.drewN q:=by
 have HC:Hid (∀q,Calls Tryz.prog 318 #[va,vb] (W.drewN q) fun e w'=>e= .returned (.bool r)∧∃m,w'=(W.drewN q).drewN m):=hc
 clear hc
 go_enter Tryz.func317,Tryz.ntmps317
 go_wp2
 go_quiet (first|(go_at_call 318;refine Calls.quiet_of (HC.out _)))
 go_wp2
 go_ret
 trace_state
 exact⟨rfl,nq,rfl⟩
end Go.Proofs
namespace Go.Proofs
open Go.Shelf
def Tryz.acP:Go.Shelf.Ren:=⟨fun|8=>316|13=>372|14=>373|16=>375|15=>374|29=>407|30=>408|42=>418|49=>423|n=>n,fun|20=>20|26=>239|36=>320|0=>0|38=>288|42=>325|3=>3|4=>4|47=>256|17=>17|33=>317|34=>318|89=>371|12=>12|56=>329|82=>365|5=>5|83=>366|84=>367|85=>357|86=>368|87=>369|n=>n,fun|n=>n⟩
theorem Tryz.gt8:Go.Proofs.LaysGt.n8 Tryz.prog Tryz.acP:={
 mixed:=by kernel_rfl
 f8:=Tryz.func316.trans (congrArg some (by kernel_rfl))
 f13:=Tryz.func372.trans (congrArg some (by kernel_rfl))
 f14:=Tryz.func373.trans (congrArg some (by kernel_rfl))
 f15:=Tryz.func374.trans (congrArg some (by kernel_rfl))
 f16:=Tryz.func375.trans (congrArg some (by kernel_rfl))
 f29:=Tryz.func407.trans (congrArg some (by kernel_rfl))
 f30:=Tryz.func408.trans (congrArg some (by kernel_rfl))
 f42:=Tryz.func418.trans (congrArg some (by kernel_rfl))
 f49:=Tryz.func423.trans (congrArg some (by kernel_rfl))
 t0:=Tryz.underlying0
 a0:=Tryz.isAgg0
 z0:=Tryz.sizeOf0
 v0:=Tryz.zeroValue0
 i0:=by kernel_rfl
 t3:=Tryz.underlying3
 a3:=Tryz.isAgg3
 z3:=Tryz.sizeOf3
 v3:=Tryz.zeroValue3
 i3:=by kernel_rfl
 t4:=Tryz.underlying4
 a4:=Tryz.isAgg4
 z4:=Tryz.sizeOf4
 v4:=Tryz.zeroValue4
 i4:=by kernel_rfl
 t5:=Tryz.underlying5
 a5:=Tryz.isAgg5
 z5:=Tryz.sizeOf5
 v5:=Tryz.zeroValue5
 i5:=by kernel_rfl
 t12:=Tryz.underlying12
 a12:=Tryz.isAgg12
 z12:=Tryz.sizeOf12
 v12:=Tryz.zeroValue12
 i12:=by kernel_rfl
 t17:=Tryz.underlying17
 a17:=Tryz.isAgg17
 z17:=Tryz.sizeOf17
 v17:=Tryz.zeroValue17
 i17:=by kernel_rfl
 t20:=Tryz.underlying20
 a20:=Tryz.isAgg20
 z20:=Tryz.sizeOf20
 v20:=Tryz.zeroValue20
 i20:=by kernel_rfl
 t26:=Tryz.underlying239
 a26:=Tryz.isAgg239
 z26:=Tryz.sizeOf239
 v26:=Tryz.zeroValue239
 i26:=by kernel_rfl
 t33:=Tryz.underlying317
 a33:=Tryz.isAgg317
 z33:=Tryz.sizeOf317
 v33:=Tryz.zeroValue317
 i33:=by kernel_rfl
 t34:=Tryz.underlying318
 a34:=Tryz.isAgg318
 z34:=Tryz.sizeOf318
 v34:=Tryz.zeroValue318
 i34:=by kernel_rfl
 t36:=Tryz.underlying320
 a36:=Tryz.isAgg320
 z36:=Tryz.sizeOf320
 v36:=Tryz.zeroValue320
 i36:=by kernel_rfl
 t38:=Tryz.underlying288
 a38:=Tryz.isAgg288
 z38:=Tryz.sizeOf288
 v38:=Tryz.zeroValue288
 i38:=by kernel_rfl
 t42:=Tryz.underlying325
 a42:=Tryz.isAgg325
 z42:=Tryz.sizeOf325
 v42:=Tryz.zeroValue325
 i42:=by kernel_rfl
 t47:=Tryz.underlying256
 a47:=Tryz.isAgg256
 z47:=Tryz.sizeOf256
 v47:=Tryz.zeroValue256
 i47:=by kernel_rfl
 t56:=Tryz.underlying329
 a56:=Tryz.isAgg329
 z56:=Tryz.sizeOf329
 v56:=Tryz.zeroValue329
 i56:=by kernel_rfl
 t82:=Tryz.underlying365
 a82:=Tryz.isAgg365
 z82:=Tryz.sizeOf365
 v82:=Tryz.zeroValue365
 i82:=by kernel_rfl
 t83:=Tryz.underlying366
 a83:=Tryz.isAgg366
 z83:=Tryz.sizeOf366
 v83:=Tryz.zeroValue366
 i83:=by kernel_rfl
 t84:=Tryz.underlying367
 a84:=Tryz.isAgg367
 z84:=Tryz.sizeOf367
 v84:=Tryz.zeroValue367
 i84:=by kernel_rfl
 t85:=Tryz.underlying357
 a85:=Tryz.isAgg357
 z85:=Tryz.sizeOf357
 v85:=Tryz.zeroValue357
 i85:=by kernel_rfl
 t86:=Tryz.underlying368
 a86:=Tryz.isAgg368
 z86:=Tryz.sizeOf368
 v86:=Tryz.zeroValue368
 i86:=by kernel_rfl
 t87:=Tryz.underlying369
 a87:=Tryz.isAgg369
 z87:=Tryz.sizeOf369
 v87:=Tryz.zeroValue369
 i87:=by kernel_rfl
 t89:=Tryz.underlying371
 a89:=Tryz.isAgg371
 z89:=Tryz.sizeOf371
 v89:=Tryz.zeroValue371
 i89:=by kernel_rfl}
end Go.Proofs
namespace Go.Proofs
open Go.Shelf Go.RowKit Go.Lib Go.Sort
noncomputable def Tryz.siT:TypeInfo:=(Tryz.prog.info? 40).get (by kernel_rfl)
noncomputable def Tryz.siE:TypeInfo:=(Tryz.prog.info? 59).get (by kernel_rfl)
theorem Tryz.siK (n:Nat) (h2:2≤n) (ke:Nat):Lib.swapperK n Tryz.siE ke=Lib.swapperK 2 Tryz.siE ke:=by
 have c:(n==0)=false:=by simp;omega
 have d:(n==1)=false:=by simp;omega
 simp[Lib.swapperK,c,d]
set_option maxHeartbeats 4000000 in
set_option maxRecDepth 100000 in
theorem Tryz.UX {α:Type} [Inhabited α] (enc:α→List Value) (hk:∀x,(enc x).length=4) (h1:∀x,∀v∈enc x,v.oneCell'=true) (lab:α→List (ByteArray×ByteArray)) (blk off c:Nat) (d:Array α) (w:World)
 (h2:2≤d.size) (h20:d.size<1152921504606846976) (hH:HoldsK enc 4 w blk off d) (hblk:blk<w.heap.size) (hlab:Pa enc lab blk w):
 Calls Tryz.prog 214 #[.slice (some ⟨blk,off,none⟩) d.size c] w fun e w'=>
  e= .returned (.slice (some ⟨blk,off,none⟩) d.size c)∧∃n os,w'=grow (putRowK enc 4 (Sort.ahead w n) blk off (Sort.insertionSort (fun x y=>Vg.bD (lab x) (lab y)) d 0 d.size)) os:=by
 have hW1:w.alloc (.cells #[.slice (some ⟨blk,off,none⟩) d.size c] 40)=grow w #[.cells #[.slice (some ⟨blk,off,none⟩) d.size c] 40]:=alloc_eq_grow _ _
 have hH1:HoldsK enc 4 (w.alloc (.cells #[.slice (some ⟨blk,off,none⟩) d.size c] 40)) blk off d:=by rw[hW1];exact holdsK_grow enc 4 w _ blk off d hblk hH
 have hb1:blk<(w.alloc (.cells #[.slice (some ⟨blk,off,none⟩) d.size c] 40)).heap.size:=by rw[hW1,size_grow];omega
 have hbox:∀m os (dk:Array α),(sortWorldK enc 4 (w.alloc (.cells #[.slice (some ⟨blk,off,none⟩) d.size c] 40)) blk off m dk os).cell? ⟨w.heap.size,0,none⟩=some (.slice (some ⟨blk,off,none⟩) d.size c):=by
  intro m os dk
  rw[cell?_sortWorldK_other enc 4 _ blk off m dk os _ (by show w.heap.size≠blk;omega) (by show w.heap.size<_;rw[hW1,size_grow];simp)]
  simp
 have hless:LessReadsK Tryz.prog 317 #[.pointer (some ⟨w.heap.size,0,none⟩)] enc 4 (fun x y=>Vg.bD (lab x) (lab y)) blk off d.size (w.alloc (.cells #[.slice (some ⟨blk,off,none⟩) d.size c] 40)):=by
  intro m os dk hs i j hi hj
  have hcell:∀x:Nat,x<d.size→∀v,(enc dk[x]!)[0]?=some v→(sortWorldK enc 4 (w.alloc (.cells #[.slice (some ⟨blk,off,none⟩) d.size c] 40)) blk off m dk os).cell? ⟨blk,off+x*4,none⟩=some v:=by
   intro x hx v hv
   have hh:=holdsK_sortWorldK enc 4 _ blk off m d dk os hb1 hH1 hs
   have:=(hh.cell (i:=x) (c:=0) (by omega) (by omega)).1
   rw[Nat.add_zero]at this
   rw[this]
   simp[hv]
  have hl:∀(x:α) (q:Nat),∃p c',(enc x)[0]?=some (.slice p (lab x).length c')∧(lab x).length<4611686018427387904∧
   ∀i,i<(lab x).length→∃bk o,p=some ⟨bk,o,none⟩∧((sortWorldK enc 4 (w.alloc (.cells #[.slice (some ⟨blk,off,none⟩) d.size c] 40)) blk off m dk os).drewN q).cell? ⟨bk,o+i*2,none⟩=some (.string ((lab x).getD i (ByteArray.empty,ByteArray.empty)).1)∧
    ((sortWorldK enc 4 (w.alloc (.cells #[.slice (some ⟨blk,off,none⟩) d.size c] 40)) blk off m dk os).drewN q).cell? ⟨bk,o+i*2+1,none⟩=some (.string ((lab x).getD i (ByteArray.empty,ByteArray.empty)).2):=by
   intro x q
   obtain⟨p,c',e1,e2,e3⟩:=hlab x
   refine⟨p,c',e1,e2,fun i hi=> ?_⟩
   obtain⟨bk,o,q1,q2,q3,q4,q5⟩:=e3 i hi
   have ho:∀o',((sortWorldK enc 4 (w.alloc (.cells #[.slice (some ⟨blk,off,none⟩) d.size c] 40)) blk off m dk os).drewN q).cell? ⟨bk,o',none⟩=w.cell? ⟨bk,o',none⟩:=by
    intro o'
    show(sortWorldK enc 4 (w.alloc (.cells #[.slice (some ⟨blk,off,none⟩) d.size c] 40)) blk off m dk os).cell? ⟨bk,o',none⟩=_
    rw[cell?_sortWorldK_other enc 4 _ blk off m dk os _ q2 (by show bk<_;rw[hW1,size_grow];omega),hW1,cell?_grow _ _ _ q3]
   exact⟨bk,o,q1,by rw[ho];exact q4,by rw[ho];exact q5⟩
  obtain⟨pa,ca,a1,a2,_⟩:=hl dk[i]! 0
  obtain⟨pb,cb,b1,b2,_⟩:=hl dk[j]! 0
  refine Tryz.Th blk off c w.heap.size d.size _ i j hi hj (by omega) _ _ _ (hbox m os dk) (hcell i hi _ a1) (hcell j hj _ b1) (fun q=> ?_)
  obtain⟨pa',ca',a1',_,a3⟩:=hl dk[i]! q
  obtain⟨pb',cb',b1',_,b3⟩:=hl dk[j]! q
  rw[a1]at a1';rw[b1]at b1'
  cases a1';cases b1'
  exact Tryz.SE pa pb ca cb _ _ _ a2 b2 a3 b3
 have hS:=Ex Tryz.gt8 (i:=Tryz.siT) (ie:=Tryz.siE) (t:=40) (e:=59) (by kernel_rfl) (by kernel_rfl) (by kernel_rfl) (by kernel_rfl) (ke:=25) (fun _=>by kernel_rfl) hk (by kernel_rfl) (fun _=>by kernel_rfl) h1
  (fun x y=>Vg.bD (lab x) (lab y)) ⟨fun x=>Vg.zD.irrefl _,fun x y z=>Vg.zD.trans _ _ _,fun x y z=>Vg.zD.ntrans _ _ _⟩ (g:=317) (enters_of Tryz.func317 (by kernel_rfl) rfl) (c:=c) h2 h20 (f:=406) (by rw[Tryz.siK _ h2];kernel_rfl) false
  (fun args W=>run_callFunc_extern (f:=406) Tryz.func406 (by kernel_rfl) (by kernel_rfl) (by kernel_rfl) (e:=Extern.ReflectliteSwapper.swap false) (by kernel_rfl) args W) hless hH1 hb1
 change Calls Tryz.prog 316 _ _ _ at hS
 have HB:Hid (∀m os (dk:Array α),(sortWorldK enc 4 (w.alloc (.cells #[.slice (some ⟨blk,off,none⟩) d.size c] 40)) blk off m dk os).cell? ⟨w.heap.size,0,none⟩=some (.slice (some ⟨blk,off,none⟩) d.size c)):=hbox
 clear hless hH1 hH hlab hbox hW1 hb1
 go_enter Tryz.func214,Tryz.ntmps214
 go_wp2_with (go_at_call 316;refine hS.mono ?_;rintro e w1 ⟨rfl,n,os,hw⟩;have hcell:w1.cell? ⟨w.heap.size,0,none⟩=some (.slice (some ⟨blk,off,none⟩) d.size c):=(by rw[hw];exact HB.out n os _);have HW:Hid (w1=_):=hw;clear hw)
 go_ret
 exact⟨rfl,n,_,by rw[HW.out,alloc_eq_grow,ahead_grow,putRowK_grow enc 4 (Sort.ahead w n) _ blk off _ hblk,grow_grow]⟩
set_option maxHeartbeats 4000000 in
set_option maxRecDepth 100000 in
theorem Tryz.TD (p:Option Addr) (n c:Nat) (h1:n≤1) (w:World):
 Calls Tryz.prog 214 #[.slice p n c] w fun e w'=>e= .returned (.slice p n c)∧∃os,w'=grow w os:=by
 have hS:=fun W f hf=>Any.sort_SliceStable_tiny Tryz.gt8 40 59 Tryz.siT Tryz.siE (by kernel_rfl) (by kernel_rfl) (by kernel_rfl) (by kernel_rfl) 25 (fun _=>by kernel_rfl) p n c h1 f hf (.func 317) #[] #[.pointer (some ⟨w.heap.size,0,none⟩)] W
 obtain⟨f,hf⟩:∃f,Tryz.prog.funcs.findIdx? (·.name== "internal/reflectlite" ++ ".Swapper$" ++toString (swapperK n Tryz.siE 25))=some f:=by
  rcases Nat.eq_zero_or_pos n with h|h
  ·subst h;exact⟨398,by kernel_rfl⟩
  ·obtain rfl:n=1:=by omega
   exact⟨399,by kernel_rfl⟩
 have hS2:=fun W=>hS W f hf
 change∀W,Calls Tryz.prog 316 _ W _ at hS2
 clear hS
 have HB:Hid (∀os,(grow (w.alloc (.cells #[.slice p n c] 40)) os).cell? ⟨w.heap.size,0,none⟩=some (.slice p n c)):=by
  intro os
  rw[cell?_grow _ _ _ (by show w.heap.size<_;rw[alloc_eq_grow,size_grow];simp)]
  simp
 go_enter Tryz.func214,Tryz.ntmps214
 go_wp2_with (go_at_call 316;refine(hS2 _).mono ?_;rintro e w1 ⟨rfl,os,hw⟩;have hcell:w1.cell? ⟨w.heap.size,0,none⟩=some (.slice p n c):=(by rw[hw];exact HB.out os);have HW:Hid (w1=_):=hw;clear hw)
 go_ret
 exact⟨rfl,_,by rw[HW.out,alloc_eq_grow,grow_grow]⟩
end Go.Proofs
namespace Vg.Tryz
open Go Vg Go.Proofs
def xu (k:Nat):rk:=⟨[.val (.sl ab) .own],[.val (.sl ab) .own],fG k,[]⟩
set_option maxRecDepth 1000000 in
theorem Ku (k:Nat):oz Tryz.prog 214 (xu k):=WH Tryz.func214 (by kernel_rfl) (by kernel_rfl) Tryz.TD Tryz.UX
def TT:List (Nat×TI):=[(3,⟨(.int .i64),[],0⟩),(4,⟨.bool,[],0⟩),(5,⟨(.int .u8),[],0⟩),(9,⟨.str,[],0⟩),(22,⟨(.sl .str),[],9⟩),(24,⟨bQ,[3,3,3,3,3,22],0⟩),(25,⟨(.sl aj),[],129⟩),(26,⟨(.sl aW),[],132⟩),(27,⟨(.sl ab),[],136⟩),(28,⟨(.sl ah),[],139⟩),(29,⟨(.sl aw),[],162⟩),(30,⟨(.sl aX),[],142⟩),(31,⟨(.sl al),[],145⟩),(32,⟨(.sl aI),[],148⟩),(34,⟨az,[24,3,3,25,26,27,3,28,3,29,30,27,31,32],0⟩),(37,⟨bQ,[3,3,3,3,3,22],0⟩),(38,⟨(.sl aj),[],111⟩),(39,⟨(.sl aW),[],153⟩),(40,⟨(.sl ab),[],59⟩),(41,⟨(.sl ah),[],157⟩),(42,⟨(.sl aw),[],160⟩),(43,⟨(.sl aX),[],122⟩),(44,⟨(.sl al),[],103⟩),(45,⟨(.sl aI),[],68⟩),(47,⟨az,[37,3,3,38,39,40,3,41,3,42,43,40,44,45],0⟩),(57,⟨(.sl aq),[],223⟩),(59,⟨ab,[57,3,3,9],0⟩),(68,⟨aI,[3,3,59,57,3,3,3,40,3,3,3,3],0⟩),(101,⟨(.sl (.int .i64)),[],3⟩),(103,⟨al,[3,3,59,57,3,101,40,3,3],0⟩),(109,⟨(.sl ax),[],237⟩),(111,⟨aj,[3,3,109],0⟩),(122,⟨aX,[3,57,3,40],0⟩),(127,⟨(.sl ax),[],273⟩),(129,⟨aj,[3,3,127],0⟩),(132,⟨aW,[27,4],0⟩),(134,⟨(.sl aq),[],275⟩),(136,⟨ab,[134,3,3,9],0⟩),(139,⟨ah,[3,134,3,3,27],0⟩),(142,⟨aX,[3,134,3,27],0⟩),(145,⟨al,[3,3,136,134,3,101,27,3,3],0⟩),(148,⟨aI,[3,3,136,134,3,3,3,27,3,3,3,3],0⟩),(153,⟨aW,[40,4],0⟩),(157,⟨ah,[3,57,3,3,40],0⟩),(160,⟨aw,[3,3],0⟩),(162,⟨aw,[3,3],0⟩),(223,⟨aq,[9,9],0⟩),(237,⟨ax,[3,40],0⟩),(256,⟨(.int .u64),[],0⟩),(273,⟨ax,[3,27],0⟩),(275,⟨aq,[9,9],0⟩),(329,⟨(.int .u32),[],0⟩)]
theorem aC:TT.all (fun p=>HJ Tryz.prog p.1 p.2)=true:=by kernel_rfl
theorem mixed:Tryz.prog.follows .mixedOrders=true:=by kernel_rfl
set_option maxRecDepth 1000000
def nA:Nat→Option xw:=fun _=>none
def aeM:Sh:=(.pair (.sl (.row 15 [15] true)) (.sl (.sha [1])))
def tH:Sh:=(.pair (.sl (.sha [1])) (.pair .leaf (.pair .leaf .leaf)))
def aeL:Sh:=(.pair (.sl (.sha [1])) (.pair .leaf .leaf))
def Y0:Sh:=(.pair .leaf (.pair .leaf (.sl (.sha [1,2]))))
def adI:Sh:=(.pair (.sl (.row 12 [12] true)) (.sl (.row 13 [1,2,13] false)))
def aeK:Sh:=(.pair (.sl (.row 12 [12] true)) (.sl (.row 13 [1,13] false)))
def aeI:Sh:=(.pair (.sl (.sha [2,12])) (.pair .leaf (.pair .leaf .leaf)))
def aeH:Sh:=(.pair (.sl (.sha [2,12])) (.pair .leaf .leaf))
def aeC:Sh:=(.pair .leaf (.pair .leaf (.sl (.sha [1,2,15]))))
def aez:Sh:=(.pair (.sl (.row 12 [12] true)) (.sl (.row 13 [1,2,13,15] false)))
def aeJ:Sh:=(.pair .leaf (.pair .leaf (.sl (.row 9 [9] true))))
def aeu:Sh:=(.pair .leaf (.pair .leaf (.sl (.row 5 [5] true))))
def aeA:Sh:=(.pair (.sl .dead) (.pair .leaf (.pair .leaf .leaf)))
def aex:Sh:=(.pair (.sl .dead) (.pair (.sl .dead) (.pair .leaf .leaf)))
def rq:Sh:=(.pair .leaf (.pair .leaf (.sl (.sha [1]))))
def Df:Sh:=(.pair .leaf (.pair .leaf (.sl (.sha []))))
def Ul:Sh:=(.pair .leaf (.pair .leaf (.sl (.row 7 [7] true))))
def h71:Sh:=(.pair (.sl (.sha [1])) (.sl (.sha [1])))
def h87:Sh:=(.pair (.sl (.sha [])) (.pair (.sl (.sha [])) (.sl (.sha []))))
def q0:Pt:=(.pair .leaf (.pair .leaf (.pair .leaf .shr)))
def Z1:Pt:=(.pair .leaf (.pair .leaf (.pair .leaf .leaf)))
def aeF:Pt:=(.pair .hd (.pair .hd (.pair .own .hd)))
def q22:Pt:=(.pair .shr (.pair .shr (.pair .shr .shr)))
def q3:Pt:=(.pair .shr (.pair .leaf (.pair .leaf .leaf)))
def q33:Pt:=(.pair .leaf (.pair .leaf (.pair .leaf .own)))
def Fs:Pt:=(.pair .own (.pair .leaf (.pair .leaf .leaf)))
def q37:Pt:=(.pair .own (.pair .leaf (.pair .leaf .own)))
def q4:Pt:=(.pair .shr (.pair .leaf (.pair .leaf .shr)))
def q40:Pt:=(.pair .own (.pair .own (.pair .leaf .leaf)))
def q54:Pt:=(.pair .own (.pair .own (.pair .own .own)))
def q7:Pt:=(.pair .shr (.pair .shr (.pair .leaf .leaf)))
abbrev aK:=Nat→Option xw
abbrev aA:=List (FuncId×rk)
abbrev ai:Ty:= .int .i64
def QU:Sh:= .pair .leaf (.pair .leaf (.pair .leaf rq))
def aM:Sh:= .sl (.sha [1])
def cX:Sh:= .pair QU (.pair .leaf (.pair .leaf (.pair aM (.pair aM (.pair aM (.pair .leaf (.pair aM (.pair .leaf (.pair aM (.pair aM (.pair aM h71)))))))))))
def abf:Sh:= .sl (.row 5 [1,2,5] false)
def zt:Sh:= .pair (.pair .leaf (.pair .leaf (.pair .leaf Y0))) (.pair .leaf (.pair .leaf (.pair abf (.pair (.sl (.row 6 [1,2,6] false)) (.pair (.sl (.row 7 [1,2,7] false)) (.pair .leaf (.pair (.sl (.row 8 [1,2,8] false)) (.pair .leaf (.pair (.sl (.row 9 [1,2,9] false)) (.pair (.sl (.row 10 [1,2,10] false)) (.pair (.sl (.row 11 [1,2,11] false)) adI)))))))))))
def Fz:Sh:= .sl (.sha [])
def zr:Sh:= .pair (.pair .leaf (.pair .leaf (.pair .leaf Df))) (.pair .leaf (.pair .leaf (.pair Fz (.pair Fz (.pair Fz (.pair .leaf (.pair Fz (.pair .leaf (.pair Fz (.pair Fz h87))))))))))
def IJ:Sh:= .sl (.row 6 [6] true)
def u7:Sh:= .sl (.row 8 [8] true)
def abL:Sh:= .sl (.row 9 [9] true)
def abu:Sh:= .sl (.row 10 [10] true)
def abP:Sh:= .sl (.row 11 [11] true)
def Qx:Sh:= .pair (.pair .leaf (.pair .leaf (.pair .leaf aeu))) (.pair .leaf (.pair .leaf (.pair IJ (.pair (.sl (.row 7 [7] true)) (.pair u7 (.pair .leaf (.pair abL (.pair .leaf (.pair abu (.pair aM (.pair abP h71)))))))))))
def adp:Sh:= .pair (.sl (.row 6 [1,6] false)) (.pair (.sl (.row 7 [1,7] false)) (.pair .leaf (.pair (.sl (.row 8 [1,8] false)) (.pair .leaf (.pair (.sl (.row 9 [1,9] false)) (.pair (.sl (.row 10 [1,10] false)) (.pair (.sl (.row 11 [1,11] false)) aeK)))))))
def xj:Sh:= .pair .leaf (.pair .leaf (.pair tH (.pair aM (.pair .leaf (.pair aM aeL)))))
def hJ:Sh:= .sl (.row 4 [4] true)
def adK:Sh:= .pair (.pair .leaf (.pair .leaf (.pair .leaf aeC))) (.pair .leaf (.pair .leaf (.pair (.sl (.row 5 [1,2,5,15] false)) (.pair (.sl (.row 6 [1,2,6,15] false)) (.pair (.sl (.row 7 [1,2,7,15] false)) (.pair .leaf (.pair (.sl (.row 8 [1,2,8,15] false)) (.pair .leaf (.pair (.sl (.row 9 [1,2,9,15] false)) (.pair (.sl (.row 10 [1,2,10,15] false)) (.pair (.sl (.row 11 [1,2,11,15] false)) aez)))))))))))
def QH:Sh:= .pair .leaf (.pair .leaf (.pair .leaf Ul))
def EJ:Sh:= .sl (.row 13 [13] true)
def VF:Sh:= .sl (.row 14 [14] true)
def adu:Sh:= .pair QH (.pair .leaf (.pair .leaf (.pair u7 (.pair abL (.pair abu (.pair .leaf (.pair abP (.pair .leaf (.pair (.sl (.row 12 [] true)) (.pair EJ (.pair VF aeM)))))))))))
def adl:Sh:= .pair QH (.pair .leaf (.pair .leaf (.pair u7 (.pair abL (.pair abu (.pair .leaf (.pair abP (.pair .leaf (.pair (.sl (.row 12 [] true)) (.pair EJ (.pair aM h71)))))))))))
def abx:Sh:= .pair .leaf (.pair .leaf (.pair aeI (.pair (.sl (.sha [2,12])) (.pair .leaf (.pair (.sl (.sha [2,12])) aeH)))))
def qM:Sh:= .pair .leaf .leaf
def uY:Sh:= .sl (.row 5 [] true)
def OC:Sh:= .pair .leaf (.pair Fz Df)
def FN:Sh:= .pair .leaf (.pair aM rq)
def abz:Sh:= .pair QU (.pair .leaf (.pair .leaf (.pair (.sl (.row 5 [1,5] false)) adp)))
def I5:Sh:= .sl (.sha [1,2])
def O2:Sh:= .pair .leaf (.pair u7 aeJ)
def zw:Sh:= .pair .leaf aM
def YY:Sh:= .pair .leaf (.sl (.row 7 [7] true))
def Y3:Sh:= .pair .leaf (.pair I5 Y0)
def UI:Sh:= .sl (.row 5 [5] true)
def adZ:Sh:= .pair .leaf (.pair .leaf (.pair aeA (.pair (.sl .dead) (.pair .leaf aex))))
def adX:Sh:= .pair QU (.pair .leaf (.pair .leaf (.pair (.sl (.row 5 [5] false)) adp)))
def Zm:Sh:= .sl (.row 4 [] true)
def Yx:Sh:= .pair .leaf Fz
def abt:Sh:= .sl (.row 15 [15] true)
def abS:Sh:= .sl (.row 4 [2] false)
def qN:Pt:= .pair .leaf (.pair .leaf q0)
def dP:Pt:= .pair qN (.pair .leaf (.pair .leaf (.pair .hd (.pair .hd (.pair .hd (.pair .leaf (.pair .hd (.pair .leaf (.pair .hd aeF)))))))))
def gU:Pt:= .pair qN (.pair .leaf (.pair .leaf (.pair .shr (.pair .shr (.pair .shr (.pair .leaf (.pair .shr (.pair .leaf (.pair .shr q22)))))))))
def jv:Pt:= .pair .leaf (.pair .leaf (.pair q3 (.pair .shr (.pair .leaf q7))))
def uV:Pt:= .pair .leaf (.pair .leaf (.pair q3 (.pair .shr (.pair .leaf (.pair .leaf (.pair .leaf (.pair .shr Z1)))))))
def qY:Pt:= .pair .leaf .shr
def ng:Pt:= .pair .leaf qY
def Y9:Pt:= .pair .leaf (.pair .leaf q33)
def abQ:Pt:= .pair Y9 (.pair .leaf (.pair .leaf (.pair .own (.pair .own (.pair .own (.pair .leaf (.pair .own (.pair .leaf (.pair .own q54)))))))))
def mj:Pt:= .pair .leaf .leaf
def abv:Pt:= .pair .leaf (.pair .leaf (.pair Fs (.pair .own (.pair .leaf (.pair .leaf (.pair .leaf (.pair .own Z1)))))))
def pN:Pt:= .pair .leaf q4
def Gc:Pt:= .pair .leaf .own
def zn:Pt:= .pair .shr .leaf
def abK:Pt:= .pair .leaf (.pair .leaf (.pair Fs (.pair .own (.pair .leaf q40))))
def JD:Pt:= .pair .leaf q37
def T9:Pt:= .pair .own .leaf
def Ud:Pt:= .pair .leaf Gc
def q1:Pt:=(.pair .leaf q0)
def q2:Pt:=(.pair .leaf q1)
def q5:Pt:=(.pair .leaf q4)
def q6:Pt:=(.pair .leaf (.pair .shr (.pair .leaf .shr)))
def q8:Pt:=(.pair .leaf q7)
def q9:Pt:=(.pair .shr q8)
def XL:Pt:=(.pair q3 q9)
def q11:Pt:=(.pair .leaf XL)
def q12:Pt:=(.pair .leaf q11)
def q14:Pt:=(.pair .shr Z1)
def q15:Pt:=(.pair .leaf q14)
def q16:Pt:=(.pair .leaf q15)
def q17:Pt:=(.pair .leaf q16)
def Uj:Pt:=(.pair .leaf (.pair .own (.pair .leaf .own)))
def ads:Sh:=(.pair (.sl (.row 6 [6] true)) (.pair .leaf (.pair .leaf .leaf)))
def adE:Sh:=(.pair (.sl (.sha [1,2])) (.pair .leaf (.pair .leaf .leaf)))
def YB:Sh:=(.pair .leaf (.pair .leaf (.sl (.row 8 [8] true))))
def adO:Sh:=(.pair .leaf (.pair .leaf (.sl (.row 15 [15] true))))
def Yk:Sh:=(.pair (.sl (.row 11 [11] true)) (.pair .leaf (.pair .leaf .leaf)))
def adS:Sh:=(.pair (.sl (.sha [])) (.pair .leaf (.sl (.sha []))))
def Bk (k:Nat):aA:=(378,zN k)::([]:List (FuncId×rk))
theorem Kb (k:Nat):ae Tryz.prog (Bk k):=⟨Q7 k,(show ae Tryz.prog []from trivial)⟩
def yl (k:Nat):aA:=(214,xu k)::(Bk k)
theorem GS (k:Nat):ae Tryz.prog (yl k):=⟨Ku k,(Kb k)⟩
def GH:aK:=fun|5=>some ⟨[(0,.val (.sl .str) aM),(1,.val ai .leaf),(5,.val ai .leaf)],4⟩|_=>none
def wR (k:Nat):aA:=(87,⟨[.val (.sl .str) .shr,.val ai .leaf],[.val ai .leaf],qO k,[]⟩)::(yl k)
theorem I1 (k:Nat):ae Tryz.prog (wR k):=ae.ev aC mixed (GS k) GH nA k Tryz.func87 (by kernel_rfl) (fun x=>by kernel_rfl)
def DM (k:Nat):aA:=(25,⟨[.val bQ qN,.val ai .leaf],[.val ai .leaf],qx k,[]⟩)::(wR k)
theorem SU (k:Nat):ae Tryz.prog (DM k):=ae.ev aC mixed (I1 k) nA nA k Tryz.func25 (by kernel_rfl) (fun x=>by kernel_rfl)
def zS (k:Nat):aA:=(281,⟨[.val aq mj,.val ai .leaf],[.val ai .leaf],k9 k,[]⟩)::(DM k)
theorem Q2 (k:Nat):ae Tryz.prog (zS k):=ae.ev aC mixed (SU k) nA nA k Tryz.func281 (by kernel_rfl) (fun x=>by kernel_rfl)
def Jy:aK:=fun|5=>some ⟨[(0,.val (.sl aq) aM),(1,.val ai .leaf),(5,.val ai .leaf)],4⟩|_=>none
def xq (k:Nat):aA:=(190,⟨[.val (.sl aq) .shr,.val ai .leaf],[.val ai .leaf],fF k,[]⟩)::(zS k)
theorem KK (k:Nat):ae Tryz.prog (xq k):=ae.ev aC mixed (Q2 k) Jy nA k Tryz.func190 (by kernel_rfl) (fun x=>by kernel_rfl)
def Ay (k:Nat):aA:=(90,⟨[.val ab q3,.val ai .leaf],[.val ai .leaf],gp k,[]⟩)::(xq k)
theorem PB (k:Nat):ae Tryz.prog (Ay k):=ae.ev aC mixed (KK k) nA nA k Tryz.func90 (by kernel_rfl) (fun x=>by kernel_rfl)
def JR:aK:=fun|5=>some ⟨[(0,.val (.sl ab) aM),(1,.val ai .leaf),(5,.val ai .leaf)],4⟩|_=>none
def xT (k:Nat):aA:=(28,⟨[.val (.sl ab) .shr,.val ai .leaf],[.val ai .leaf],dJ k,[]⟩)::(Ay k)
theorem Nc (k:Nat):ae Tryz.prog (xT k):=ae.ev aC mixed (PB k) JR nA k Tryz.func28 (by kernel_rfl) (fun x=>by kernel_rfl)
def Ce (k:Nat):aA:=(280,⟨[.val ax qY,.val ai .leaf],[.val ai .leaf],lh k,[]⟩)::(xT k)
theorem PQ (k:Nat):ae Tryz.prog (Ce k):=ae.ev aC mixed (Nc k) nA nA k Tryz.func280 (by kernel_rfl) (fun x=>by kernel_rfl)
def JM:aK:=fun|5=>some ⟨[(0,.val (.sl ax) aM),(1,.val ai .leaf),(5,.val ai .leaf)],4⟩|_=>none
def ya (k:Nat):aA:=(189,⟨[.val (.sl ax) .shr,.val ai .leaf],[.val ai .leaf],rI k,[]⟩)::(Ce k)
theorem Nv (k:Nat):ae Tryz.prog (ya k):=ae.ev aC mixed (PQ k) JM nA k Tryz.func189 (by kernel_rfl) (fun x=>by kernel_rfl)
def DW (k:Nat):aA:=(88,⟨[.val aj ng,.val ai .leaf],[.val ai .leaf],mu k,[]⟩)::(ya k)
theorem SH (k:Nat):ae Tryz.prog (DW k):=ae.ev aC mixed (Nv k) nA nA k Tryz.func88 (by kernel_rfl) (fun x=>by kernel_rfl)
def Mb:aK:=fun|5=>some ⟨[(0,.val (.sl aj) aM),(1,.val ai .leaf),(5,.val ai .leaf)],4⟩|_=>none
def AJ (k:Nat):aA:=(26,⟨[.val (.sl aj) .shr,.val ai .leaf],[.val ai .leaf],tL k,[]⟩)::(DW k)
theorem PN (k:Nat):ae Tryz.prog (AJ k):=ae.ev aC mixed (SH k) Mb nA k Tryz.func26 (by kernel_rfl) (fun x=>by kernel_rfl)
def F4 (k:Nat):aA:=(89,⟨[.val aW zn,.val ai .leaf],[.val ai .leaf],oo k,[]⟩)::(AJ k)
theorem UN (k:Nat):ae Tryz.prog (F4 k):=ae.ev aC mixed (PN k) nA nA k Tryz.func89 (by kernel_rfl) (fun x=>by kernel_rfl)
def QK:aK:=fun|5=>some ⟨[(0,.val (.sl aW) aM),(1,.val ai .leaf),(5,.val ai .leaf)],4⟩|_=>none
def Dt (k:Nat):aA:=(27,⟨[.val (.sl aW) .shr,.val ai .leaf],[.val ai .leaf],uT k,[]⟩)::(F4 k)
theorem SM (k:Nat):ae Tryz.prog (Dt k):=ae.ev aC mixed (UN k) QK nA k Tryz.func27 (by kernel_rfl) (fun x=>by kernel_rfl)
def Ai (k:Nat):aA:=(91,⟨[.val ah pN,.val ai .leaf],[.val ai .leaf],lz k,[]⟩)::(Dt k)
theorem Qk (k:Nat):ae Tryz.prog (Ai k):=ae.ev aC mixed (SM k) nA nA k Tryz.func91 (by kernel_rfl) (fun x=>by kernel_rfl)
def Jb:aK:=fun|5=>some ⟨[(0,.val (.sl ah) aM),(1,.val ai .leaf),(5,.val ai .leaf)],4⟩|_=>none
def yM (k:Nat):aA:=(29,⟨[.val (.sl ah) .shr,.val ai .leaf],[.val ai .leaf],rH k,[]⟩)::(Ai k)
theorem NN (k:Nat):ae Tryz.prog (yM k):=ae.ev aC mixed (Qk k) Jb nA k Tryz.func29 (by kernel_rfl) (fun x=>by kernel_rfl)
def yN (k:Nat):aA:=(30,⟨[.val (.sl aw) .shr,.val ai .leaf],[.val ai .leaf],nD k,[]⟩)::(yM k)
theorem NA (k:Nat):ae Tryz.prog (yN k):=ae.ev aC mixed (NN k) nA nA k Tryz.func30 (by kernel_rfl) (fun x=>by kernel_rfl)
def AS (k:Nat):aA:=(92,⟨[.val aX q6,.val ai .leaf],[.val ai .leaf],kS k,[]⟩)::(yN k)
theorem Pk (k:Nat):ae Tryz.prog (AS k):=ae.ev aC mixed (NA k) nA nA k Tryz.func92 (by kernel_rfl) (fun x=>by kernel_rfl)
def IE:aK:=fun|5=>some ⟨[(0,.val (.sl aX) aM),(1,.val ai .leaf),(5,.val ai .leaf)],4⟩|_=>none
def zf (k:Nat):aA:=(31,⟨[.val (.sl aX) .shr,.val ai .leaf],[.val ai .leaf],so k,[]⟩)::(AS k)
theorem L9 (k:Nat):ae Tryz.prog (zf k):=ae.ev aC mixed (Pk k) IE nA k Tryz.func31 (by kernel_rfl) (fun x=>by kernel_rfl)
def DK (k:Nat):aA:=(191,⟨[.val (.sl ai) .shr,.val ai .leaf],[.val ai .leaf],qv k,[]⟩)::(zf k)
theorem R9 (k:Nat):ae Tryz.prog (DK k):=ae.ev aC mixed (L9 k) nA nA k Tryz.func191 (by kernel_rfl) (fun x=>by kernel_rfl)
def Dy (k:Nat):aA:=(93,⟨[.val al jv,.val ai .leaf],[.val ai .leaf],mr k,[]⟩)::(DK k)
theorem SI (k:Nat):ae Tryz.prog (Dy k):=ae.ev aC mixed (R9 k) nA nA k Tryz.func93 (by kernel_rfl) (fun x=>by kernel_rfl)
def NF:aK:=fun|5=>some ⟨[(0,.val (.sl al) aM),(1,.val ai .leaf),(5,.val ai .leaf)],4⟩|_=>none
def Ab (k:Nat):aA:=(32,⟨[.val (.sl al) .shr,.val ai .leaf],[.val ai .leaf],tA k,[]⟩)::(Dy k)
theorem PV (k:Nat):ae Tryz.prog (Ab k):=ae.ev aC mixed (SI k) NF nA k Tryz.func32 (by kernel_rfl) (fun x=>by kernel_rfl)
def Dz (k:Nat):aA:=(94,⟨[.val aI uV,.val ai .leaf],[.val ai .leaf],mE k,[]⟩)::(Ab k)
theorem Tq (k:Nat):ae Tryz.prog (Dz k):=ae.ev aC mixed (PV k) nA nA k Tryz.func94 (by kernel_rfl) (fun x=>by kernel_rfl)
def Kw:aK:=fun|5=>some ⟨[(0,.val (.sl aI) aM),(1,.val ai .leaf),(5,.val ai .leaf)],4⟩|_=>none
def BO (k:Nat):aA:=(33,⟨[.val (.sl aI) .shr,.val ai .leaf],[.val ai .leaf],tO k,[]⟩)::(Dz k)
theorem Oe (k:Nat):ae Tryz.prog (BO k):=ae.ev aC mixed (Tq k) Kw nA k Tryz.func33 (by kernel_rfl) (fun x=>by kernel_rfl)
def A6 (k:Nat):aA:=(6,⟨[.val az gU,.val ai .leaf],[.val ai .leaf],oE k,[]⟩)::(BO k)
theorem Oh (k:Nat):ae Tryz.prog (A6 k):=ae.ev aC mixed (Oe k) nA nA k Tryz.func6 (by kernel_rfl) (fun x=>by kernel_rfl)
end Vg.Tryz
namespace Vg.Tryz
open Go Vg Go.Proofs
set_option maxRecDepth 1000000
def GI:aK:=fun|3=>some ⟨[(0,.val (.sl .str) aM),(3,.val (.sl .str) hJ),(4,.val ai .leaf)],5⟩|_=>none
def xd (k:Nat):aA:=(97,⟨[.val (.sl .str) .shr],[.val (.sl .str) .own],qV k,[]⟩)::(A6 k)
theorem Ic (k:Nat):ae Tryz.prog (xd k):=ae.ev aC mixed (Oh k) GI nA k Tryz.func97 (by kernel_rfl) (fun x=>by kernel_rfl)
def Ep (k:Nat):aA:=(35,⟨[.val bQ qN],[.val bQ Y9],ql k,[]⟩)::(xd k)
theorem TF (k:Nat):ae Tryz.prog (Ep k):=ae.ev aC mixed (Ic k) nA nA k Tryz.func35 (by kernel_rfl) (fun x=>by kernel_rfl)
def zZ (k:Nat):aA:=(296,⟨[.val aq mj],[.val aq mj],lJ k,[]⟩)::(Ep k)
theorem OY (k:Nat):ae Tryz.prog (zZ k):=ae.ev aC mixed (TF k) nA nA k Tryz.func296 (by kernel_rfl) (fun x=>by kernel_rfl)
def Ih:aK:=fun|3=>some ⟨[(0,.val (.sl aq) aM),(3,.val (.sl aq) hJ),(4,.val ai .leaf)],5⟩|_=>none
def zc (k:Nat):aA:=(198,⟨[.val (.sl aq) .shr],[.val (.sl aq) .own],fN k,[]⟩)::(zZ k)
theorem MW (k:Nat):ae Tryz.prog (zc k):=ae.ev aC mixed (OY k) Ih nA k Tryz.func198 (by kernel_rfl) (fun x=>by kernel_rfl)
def AG (k:Nat):aA:=(100,⟨[.val ab q3],[.val ab Fs],gD k,[]⟩)::(zc k)
theorem PO (k:Nat):ae Tryz.prog (AG k):=ae.ev aC mixed (MW k) nA nA k Tryz.func100 (by kernel_rfl) (fun x=>by kernel_rfl)
def JK:aK:=fun|3=>some ⟨[(0,.val (.sl ab) aM),(3,.val (.sl ab) hJ),(4,.val ai .leaf)],5⟩|_=>none
def yD (k:Nat):aA:=(38,⟨[.val (.sl ab) .shr],[.val (.sl ab) .own],dI k,[]⟩)::(AG k)
theorem L2 (k:Nat):ae Tryz.prog (yD k):=ae.ev aC mixed (PO k) JK nA k Tryz.func38 (by kernel_rfl) (fun x=>by kernel_rfl)
def AZ (k:Nat):aA:=(295,⟨[.val ax qY],[.val ax Gc],lA k,[]⟩)::(yD k)
theorem OF (k:Nat):ae Tryz.prog (AZ k):=ae.ev aC mixed (L2 k) nA nA k Tryz.func295 (by kernel_rfl) (fun x=>by kernel_rfl)
def Ix:aK:=fun|3=>some ⟨[(0,.val (.sl ax) aM),(3,.val (.sl ax) hJ),(4,.val ai .leaf)],5⟩|_=>none
def yZ (k:Nat):aA:=(197,⟨[.val (.sl ax) .shr],[.val (.sl ax) .own],rM k,[]⟩)::(AZ k)
theorem Lx (k:Nat):ae Tryz.prog (yZ k):=ae.ev aC mixed (OF k) Ix nA k Tryz.func197 (by kernel_rfl) (fun x=>by kernel_rfl)
def Ea (k:Nat):aA:=(98,⟨[.val aj ng],[.val aj Ud],mB k,[]⟩)::(yZ k)
theorem TB (k:Nat):ae Tryz.prog (Ea k):=ae.ev aC mixed (Lx k) nA nA k Tryz.func98 (by kernel_rfl) (fun x=>by kernel_rfl)
def MP:aK:=fun|3=>some ⟨[(0,.val (.sl aj) aM),(3,.val (.sl aj) hJ),(4,.val ai .leaf)],5⟩|_=>none
def BS (k:Nat):aA:=(36,⟨[.val (.sl aj) .shr],[.val (.sl aj) .own],th k,[]⟩)::(Ea k)
theorem Qo (k:Nat):ae Tryz.prog (BS k):=ae.ev aC mixed (TB k) MP nA k Tryz.func36 (by kernel_rfl) (fun x=>by kernel_rfl)
def FZ (k:Nat):aA:=(99,⟨[.val aW zn],[.val aW T9],og k,[]⟩)::(BS k)
theorem Vr (k:Nat):ae Tryz.prog (FZ k):=ae.ev aC mixed (Qo k) nA nA k Tryz.func99 (by kernel_rfl) (fun x=>by kernel_rfl)
def Qt:aK:=fun|3=>some ⟨[(0,.val (.sl aW) aM),(3,.val (.sl aW) hJ),(4,.val ai .leaf)],5⟩|_=>none
def Eb (k:Nat):aA:=(37,⟨[.val (.sl aW) .shr],[.val (.sl aW) .own],vg k,[]⟩)::(FZ k)
theorem Sr (k:Nat):ae Tryz.prog (Eb k):=ae.ev aC mixed (Vr k) Qt nA k Tryz.func37 (by kernel_rfl) (fun x=>by kernel_rfl)
def zR (k:Nat):aA:=(101,⟨[.val ah pN],[.val ah JD],kY k,[]⟩)::(Eb k)
theorem Qg (k:Nat):ae Tryz.prog (zR k):=ae.ev aC mixed (Sr k) nA nA k Tryz.func101 (by kernel_rfl) (fun x=>by kernel_rfl)
def Kd:aK:=fun|3=>some ⟨[(0,.val (.sl ah) aM),(3,.val (.sl ah) hJ),(4,.val ai .leaf)],5⟩|_=>none
def xR (k:Nat):aA:=(39,⟨[.val (.sl ah) .shr],[.val (.sl ah) .own],rD k,[]⟩)::(zR k)
theorem Ny (k:Nat):ae Tryz.prog (xR k):=ae.ev aC mixed (Qg k) Kd nA k Tryz.func39 (by kernel_rfl) (fun x=>by kernel_rfl)
def zW (k:Nat):aA:=(102,⟨[.val aw mj],[.val aw mj],kV k,[]⟩)::(xR k)
theorem Qs (k:Nat):ae Tryz.prog (zW k):=ae.ev aC mixed (Ny k) nA nA k Tryz.func102 (by kernel_rfl) (fun x=>by kernel_rfl)
def I8:aK:=fun|3=>some ⟨[(0,.val (.sl aw) aM),(3,.val (.sl aw) hJ),(4,.val ai .leaf)],5⟩|_=>none
def yY (k:Nat):aA:=(40,⟨[.val (.sl aw) .shr],[.val (.sl aw) .own],sB k,[]⟩)::(zW k)
theorem K5 (k:Nat):ae Tryz.prog (yY k):=ae.ev aC mixed (Qs k) I8 nA k Tryz.func40 (by kernel_rfl) (fun x=>by kernel_rfl)
def Au (k:Nat):aA:=(103,⟨[.val aX q6],[.val aX Uj],kU k,[]⟩)::(yY k)
theorem P5 (k:Nat):ae Tryz.prog (Au k):=ae.ev aC mixed (K5 k) nA nA k Tryz.func103 (by kernel_rfl) (fun x=>by kernel_rfl)
def Ie:aK:=fun|3=>some ⟨[(0,.val (.sl aX) aM),(3,.val (.sl aX) hJ),(4,.val ai .leaf)],5⟩|_=>none
def xy (k:Nat):aA:=(41,⟨[.val (.sl aX) .shr],[.val (.sl aX) .own],sE k,[]⟩)::(Au k)
theorem KG (k:Nat):ae Tryz.prog (xy k):=ae.ev aC mixed (P5 k) Ie nA k Tryz.func41 (by kernel_rfl) (fun x=>by kernel_rfl)
def P7:aK:=fun|3=>some ⟨[(0,.val (.sl ai) aM),(3,.val (.sl ai) hJ),(4,.val ai .leaf)],5⟩|_=>none
def DZ (k:Nat):aA:=(199,⟨[.val (.sl ai) .shr],[.val (.sl ai) .own],u6 k,[]⟩)::(xy k)
theorem Tg (k:Nat):ae Tryz.prog (DZ k):=ae.ev aC mixed (KG k) P7 nA k Tryz.func199 (by kernel_rfl) (fun x=>by kernel_rfl)
def DG (k:Nat):aA:=(104,⟨[.val al jv],[.val al abK],mH k,[]⟩)::(DZ k)
theorem Tl (k:Nat):ae Tryz.prog (DG k):=ae.ev aC mixed (Tg k) nA nA k Tryz.func104 (by kernel_rfl) (fun x=>by kernel_rfl)
def MD:aK:=fun|3=>some ⟨[(0,.val (.sl al) aM),(3,.val (.sl al) hJ),(4,.val ai .leaf)],5⟩|_=>none
def AE (k:Nat):aA:=(42,⟨[.val (.sl al) .shr],[.val (.sl al) .own],tB k,[]⟩)::(DG k)
theorem QQ (k:Nat):ae Tryz.prog (AE k):=ae.ev aC mixed (Tl k) MD nA k Tryz.func42 (by kernel_rfl) (fun x=>by kernel_rfl)
def Eh (k:Nat):aA:=(105,⟨[.val aI uV],[.val aI abv],mo k,[]⟩)::(AE k)
theorem Sa (k:Nat):ae Tryz.prog (Eh k):=ae.ev aC mixed (QQ k) nA nA k Tryz.func105 (by kernel_rfl) (fun x=>by kernel_rfl)
def Ko:aK:=fun|3=>some ⟨[(0,.val (.sl aI) aM),(3,.val (.sl aI) hJ),(4,.val ai .leaf)],5⟩|_=>none
def B6 (k:Nat):aA:=(43,⟨[.val (.sl aI) .shr],[.val (.sl aI) .own],tu k,[]⟩)::(Eh k)
theorem Rb (k:Nat):ae Tryz.prog (B6 k):=ae.ev aC mixed (Sa k) Ko nA k Tryz.func43 (by kernel_rfl) (fun x=>by kernel_rfl)
def AV (k:Nat):aA:=(8,⟨[.val az gU],[.val az abQ],jf k,[]⟩)::(B6 k)
theorem O5 (k:Nat):ae Tryz.prog (AV k):=ae.ev aC mixed (Rb k) nA nA k Tryz.func8 (by kernel_rfl) (fun x=>by kernel_rfl)
def Bd (k:Nat):aA:=(163,⟨[.val bQ qN],[.val bQ Y9],pI k,[]⟩)::(AV k)
theorem OQ (k:Nat):ae Tryz.prog (Bd k):=ae.ev aC mixed (O5 k) nA nA k Tryz.func163 (by kernel_rfl) (fun x=>by kernel_rfl)
def D3 (k:Nat):aA:=(257,⟨[.val ab q3],[.val ab Fs],bM k,[]⟩)::(Bd k)
theorem S0 (k:Nat):ae Tryz.prog (D3 k):=ae.ev aC mixed (OQ k) nA nA k Tryz.func257 (by kernel_rfl) (fun x=>by kernel_rfl)
def Ta:aK:=fun|3=>some ⟨[(0,.val (.sl ab) aM),(3,.val (.sl ab) hJ),(4,.val ai .leaf)],5⟩|_=>none
def EN (k:Nat):aA:=(166,⟨[.val (.sl ab) .shr],[.val (.sl ab) .own],cq k,[]⟩)::(D3 k)
theorem Vz (k:Nat):ae Tryz.prog (EN k):=ae.ev aC mixed (S0 k) Ta nA k Tryz.func166 (by kernel_rfl) (fun x=>by kernel_rfl)
def Dh (k:Nat):aA:=(330,⟨[.val ax qY],[.val ax Gc],mD k,[]⟩)::(EN k)
theorem Sf (k:Nat):ae Tryz.prog (Dh k):=ae.ev aC mixed (Vz k) nA nA k Tryz.func330 (by kernel_rfl) (fun x=>by kernel_rfl)
def Q8:aK:=fun|3=>some ⟨[(1,.box 4 aj rq),(2,.box 5 aj Df),(3,.box 6 aj Ul),(4,.val ai .leaf)],8⟩|_=>none
def D4 (k:Nat):aA:=(255,⟨[.val aj ng],[.val aj Ud],jG k,[]⟩)::(Dh k)
theorem Sb (k:Nat):ae Tryz.prog (D4 k):=ae.ev aC mixed (Sf k) Q8 nA k Tryz.func255 (by kernel_rfl) (fun x=>by kernel_rfl)
def O4:aK:=fun|3=>some ⟨[(0,.val (.sl aj) aM),(3,.val (.sl aj) hJ),(4,.val ai .leaf)],5⟩|_=>none
def Dw (k:Nat):aA:=(164,⟨[.val (.sl aj) .shr],[.val (.sl aj) .own],qi k,[]⟩)::(D4 k)
theorem SA (k:Nat):ae Tryz.prog (Dw k):=ae.ev aC mixed (Sb k) O4 nA k Tryz.func164 (by kernel_rfl) (fun x=>by kernel_rfl)
def Dm (k:Nat):aA:=(256,⟨[.val aW zn],[.val aW T9],jN k,[]⟩)::(Dw k)
theorem To (k:Nat):ae Tryz.prog (Dm k):=ae.ev aC mixed (SA k) nA nA k Tryz.func256 (by kernel_rfl) (fun x=>by kernel_rfl)
def Sy:aK:=fun|3=>some ⟨[(0,.val (.sl aW) aM),(3,.val (.sl aW) hJ),(4,.val ai .leaf)],5⟩|_=>none
def ER (k:Nat):aA:=(165,⟨[.val (.sl aW) .shr],[.val (.sl aW) .own],xl k,[]⟩)::(Dm k)
theorem UJ (k:Nat):ae Tryz.prog (ER k):=ae.ev aC mixed (To k) Sy nA k Tryz.func165 (by kernel_rfl) (fun x=>by kernel_rfl)
def Ca (k:Nat):aA:=(258,⟨[.val ah pN],[.val ah JD],gu k,[]⟩)::(ER k)
theorem PM (k:Nat):ae Tryz.prog (Ca k):=ae.ev aC mixed (UJ k) nA nA k Tryz.func258 (by kernel_rfl) (fun x=>by kernel_rfl)
def N3:aK:=fun|3=>some ⟨[(0,.val (.sl ah) aM),(3,.val (.sl ah) hJ),(4,.val ai .leaf)],5⟩|_=>none
def zM (k:Nat):aA:=(167,⟨[.val (.sl ah) .shr],[.val (.sl ah) .own],gq k,[]⟩)::(Ca k)
theorem O8 (k:Nat):ae Tryz.prog (zM k):=ae.ev aC mixed (PM k) N3 nA k Tryz.func167 (by kernel_rfl) (fun x=>by kernel_rfl)
def yq (k:Nat):aA:=(168,⟨[.val aX q6],[.val aX Uj],ib k,[]⟩)::(zM k)
theorem Nw (k:Nat):ae Tryz.prog (yq k):=ae.ev aC mixed (O8 k) nA nA k Tryz.func168 (by kernel_rfl) (fun x=>by kernel_rfl)
def Ar (k:Nat):aA:=(169,⟨[.val al jv],[.val al abK],lE k,[]⟩)::(yq k)
theorem OA (k:Nat):ae Tryz.prog (Ar k):=ae.ev aC mixed (Nw k) nA nA k Tryz.func169 (by kernel_rfl) (fun x=>by kernel_rfl)
def Bp (k:Nat):aA:=(259,⟨[.val aI uV],[.val aI abv],kQ k,[]⟩)::(Ar k)
theorem QF (k:Nat):ae Tryz.prog (Bp k):=ae.ev aC mixed (OA k) nA nA k Tryz.func259 (by kernel_rfl) (fun x=>by kernel_rfl)
def Qd:aK:=fun|3=>some ⟨[(0,.val (.sl aI) aM),(3,.val (.sl aI) hJ),(4,.val ai .leaf)],5⟩|_=>none
def Ek (k:Nat):aA:=(170,⟨[.val (.sl aI) .shr],[.val (.sl aI) .own],uZ k,[]⟩)::(Bp k)
theorem SJ (k:Nat):ae Tryz.prog (Ek k):=ae.ev aC mixed (QF k) Qd nA k Tryz.func170 (by kernel_rfl) (fun x=>by kernel_rfl)
def Na:aK:=fun|11=>some ⟨[(1,.box 4 az cX),(2,.box 5 az zr),(3,.box 6 az adl),(4,.box 14 bQ QH),(5,.val ai .leaf)],15⟩|18=>some ⟨[(1,.box 4 az cX),(2,.box 5 az zr),(3,.box 6 az adu),(4,.box 16 bQ QH),(7,.val ai .leaf)],17⟩|_=>none
def Mt:aK:=fun|15=>some ⟨[(1,.box 4 az cX),(2,.box 5 az zr),(3,.box 6 az adl),(4,.box 14 bQ QH)],15⟩|22=>some ⟨[(1,.box 4 az cX),(2,.box 5 az zr),(3,.box 6 az adu),(4,.box 16 bQ QH)],17⟩|_=>none
def AW (k:Nat):aA:=(73,⟨[.val az gU],[.val az abQ],gw k,[]⟩)::(Ek k)
theorem Pj (k:Nat):ae Tryz.prog (AW k):=ae.ev aC mixed (SJ k) Na Mt k Tryz.func73 (by kernel_rfl) (fun x=>by kernel_rfl)
def HD (k:Nat):aA:=(95,⟨[.val ai .leaf,.val ai .leaf,.val ai .leaf],[.val .bool .leaf],bX k,[]⟩)::(AW k)
theorem V9 (k:Nat):ae Tryz.prog (HD k):=ae.ev aC mixed (Pj k) nA nA k Tryz.func95 (by kernel_rfl) (fun x=>by kernel_rfl)
def Pv:aK:=fun|2=>some ⟨[(0,.val .str .leaf),(3,.val ai .leaf)],4⟩|_=>none
def P8:aK:=fun|6=>some ⟨[(0,.val .str .leaf)],4⟩|_=>none
def Dq (k:Nat):aA:=(338,⟨[.val .str .leaf],[.val .bool .leaf],mJ k,[]⟩)::(HD k)
theorem S3 (k:Nat):ae Tryz.prog (Dq k):=ae.ev aC mixed (V9 k) Pv P8 k Tryz.func338 (by kernel_rfl) (fun x=>by kernel_rfl)
def H0 (k:Nat):aA:=(278,⟨[.val .str .leaf,.val .str .leaf],[.val .bool .leaf],gO k,[]⟩)::(Dq k)
theorem WK (k:Nat):ae Tryz.prog (H0 k):=ae.ev aC mixed (S3 k) nA nA k Tryz.func278 (by kernel_rfl) (fun x=>by kernel_rfl)
def K8:aK:=fun|2=>some ⟨[(0,.val (.sl .str) aM),(3,.val ai .leaf)],4⟩|_=>none
def AP (k:Nat):aA:=(339,⟨[.val (.sl .str) .shr],[.val .bool .leaf],jc k,[]⟩)::(H0 k)
theorem Ps (k:Nat):ae Tryz.prog (AP k):=ae.ev aC mixed (WK k) K8 nA k Tryz.func339 (by kernel_rfl) (fun x=>by kernel_rfl)
def Uu:aK:=fun|2=>some ⟨[(0,.val (.sl .str) aM),(3,.val ai .leaf)],4⟩|_=>none
def UH:aK:=fun|6=>some ⟨[(0,.val (.sl .str) aM)],4⟩|_=>none
def HN (k:Nat):aA:=(260,⟨[.val (.sl .str) .shr],[.val .bool .leaf],ud k,[]⟩)::(AP k)
theorem Wz (k:Nat):ae Tryz.prog (HN k):=ae.ev aC mixed (Ps k) Uu UH k Tryz.func260 (by kernel_rfl) (fun x=>by kernel_rfl)
def De (k:Nat):aA:=(171,⟨[.val bQ qN],[.val .bool .leaf],qI k,[]⟩)::(HN k)
theorem S6 (k:Nat):ae Tryz.prog (De k):=ae.ev aC mixed (Wz k) nA nA k Tryz.func171 (by kernel_rfl) (fun x=>by kernel_rfl)
def NT:aK:=fun|2=>some ⟨[(0,.val .str .leaf),(3,.val ai .leaf)],4⟩|_=>none
def Md:aK:=fun|6=>some ⟨[(0,.val .str .leaf)],4⟩|_=>none
def BG (k:Nat):aA:=(341,⟨[.val .str .leaf],[.val .bool .leaf],kR k,[]⟩)::(De k)
theorem P0 (k:Nat):ae Tryz.prog (BG k):=ae.ev aC mixed (S6 k) NT Md k Tryz.func341 (by kernel_rfl) (fun x=>by kernel_rfl)
def Am (k:Nat):aA:=(277,⟨[.val aq mj],[.val .bool .leaf],ph k,[]⟩)::(BG k)
theorem Pw (k:Nat):ae Tryz.prog (Am k):=ae.ev aC mixed (P0 k) nA nA k Tryz.func277 (by kernel_rfl) (fun x=>by kernel_rfl)
def R8:aK:=fun|2=>some ⟨[(0,.val (.sl aq) aM),(3,.val ai .leaf)],4⟩|_=>none
def Sq:aK:=fun|6=>some ⟨[(0,.val (.sl aq) aM)],4⟩|_=>none
def FH (k:Nat):aA:=(180,⟨[.val (.sl aq) .shr],[.val .bool .leaf],jo k,[]⟩)::(Am k)
theorem Un (k:Nat):ae Tryz.prog (FH k):=ae.ev aC mixed (Pw k) R8 Sq k Tryz.func180 (by kernel_rfl) (fun x=>by kernel_rfl)
def zU (k:Nat):aA:=(263,⟨[.val ab q3],[.val .bool .leaf],ep k,[]⟩)::(FH k)
theorem PW (k:Nat):ae Tryz.prog (zU k):=ae.ev aC mixed (Un k) nA nA k Tryz.func263 (by kernel_rfl) (fun x=>by kernel_rfl)
def KU:aK:=fun|5=>some ⟨[(0,.val (.sl aq) aM),(3,.val .str .leaf),(4,.val ai .leaf)],4⟩|_=>none
def Kx:aK:=fun|9=>some ⟨[(0,.val (.sl aq) aM),(3,.val .str .leaf),(4,.val ai .leaf)],4⟩|10=>some ⟨[(3,.val .str .leaf)],4⟩|_=>none
def Cb (k:Nat):aA:=(388,⟨[.val (.sl aq) .shr],[.val .str .leaf],oO k,[]⟩)::(zU k)
theorem Qe (k:Nat):ae Tryz.prog (Cb k):=ae.ev aC mixed (PW k) KU Kx k Tryz.func388 (by kernel_rfl) (fun x=>by kernel_rfl)
def WG:aK:=fun|3=>some ⟨[(0,.val .str .leaf),(3,.val ai .leaf),(4,.val ai .leaf)],4⟩|_=>none
def NB (k:Nat):aA:=(387,⟨[.val .str .leaf],[.val ai .leaf],lW k,[]⟩)::(Cb k)
theorem XS (k:Nat):ae Tryz.prog (NB k):=ae.ev aC mixed (Qe k) WG nA k Tryz.func387 (by kernel_rfl) (fun x=>by kernel_rfl)
def Dk (k:Nat):aA:=(348,⟨[.val (.sl aq) .shr],[.val ai .leaf],eh k,[]⟩)::(NB k)
theorem Sv (k:Nat):ae Tryz.prog (Dk k):=ae.ev aC mixed (XS k) nA nA k Tryz.func348 (by kernel_rfl) (fun x=>by kernel_rfl)
def Nf:aK:=fun|4=>some ⟨[(0,.val (.sl aq) aM),(1,.val (.sl aq) aM),(5,.val ai .leaf)],4⟩|_=>none
def Cg (k:Nat):aA:=(269,⟨[.val (.sl aq) .shr,.val (.sl aq) .shr],[.val .bool .leaf],cH k,[]⟩)::(Dk k)
theorem QI (k:Nat):ae Tryz.prog (Cg k):=ae.ev aC mixed (Sv k) Nf nA k Tryz.func269 (by kernel_rfl) (fun x=>by kernel_rfl)
def Ni:aK:=fun|2=>some ⟨[(1,.box 4 ax zw),(3,.val ai .leaf)],5⟩|7=>some ⟨[(1,.box 4 ax zw),(3,.val ai .leaf),(4,.val ai .leaf)],5⟩|_=>none
def KV:aK:=fun|11=>some ⟨[(1,.box 4 ax zw)],5⟩|_=>none
def zQ (k:Nat):aA:=(384,⟨[.val ax qY],[.val .bool .leaf],oI k,[]⟩)::(Cg k)
theorem QC (k:Nat):ae Tryz.prog (zQ k):=ae.ev aC mixed (QI k) Ni KV k Tryz.func384 (by kernel_rfl) (fun x=>by kernel_rfl)
def D8 (k:Nat):aA:=(347,⟨[.val ai .leaf,.val ai .leaf],[.val ai .leaf],fV k,[]⟩)::(zQ k)
theorem Sp (k:Nat):ae Tryz.prog (D8 k):=ae.ev aC mixed (QC k) nA nA k Tryz.func347 (by kernel_rfl) (fun x=>by kernel_rfl)
def O1:aK:=fun|2=>some ⟨[(1,.val ai .leaf),(2,.val ai .leaf),(3,.box 4 aj rq),(7,.val ai .leaf)],5⟩|_=>none
def OM:aK:=fun|6=>some ⟨[(3,.box 4 aj rq)],5⟩|_=>none
def DE (k:Nat):aA:=(340,⟨[.val aj ng,.val ai .leaf,.val ai .leaf],[.val .bool .leaf],qk k,[]⟩)::(D8 k)
theorem Sx (k:Nat):ae Tryz.prog (DE k):=ae.ev aC mixed (Sp k) O1 OM k Tryz.func340 (by kernel_rfl) (fun x=>by kernel_rfl)
def ND:aK:=fun|2=>some ⟨[(0,.val (.sl aj) aM),(3,.val ai .leaf)],4⟩|_=>none
def L8:aK:=fun|6=>some ⟨[(0,.val (.sl aj) aM)],4⟩|_=>none
def Bj (k:Nat):aA:=(261,⟨[.val (.sl aj) .shr],[.val .bool .leaf],pE k,[]⟩)::(DE k)
theorem Oz (k:Nat):ae Tryz.prog (Bj k):=ae.ev aC mixed (Sx k) ND L8 k Tryz.func261 (by kernel_rfl) (fun x=>by kernel_rfl)
def Il:aK:=fun|3=>some ⟨[(1,.box 4 aj rq),(3,.val (.sl ab) UI),(4,.val ai .leaf)],6⟩|_=>none
def zd (k:Nat):aA:=(243,⟨[.val aj ng],[.val (.sl ab) .own],ik k,[]⟩)::(Bj k)
theorem M9 (k:Nat):ae Tryz.prog (zd k):=ae.ev aC mixed (Oz k) Il nA k Tryz.func243 (by kernel_rfl) (fun x=>by kernel_rfl)
def NY:aK:=fun|2=>some ⟨[(0,.val (.sl aq) aM),(1,.val (.sl aq) aM),(5,.val ai .leaf)],4⟩|_=>none
def Mn:aK:=fun|8=>some ⟨[(0,.val (.sl aq) aM),(1,.val (.sl aq) aM)],4⟩|_=>none
def Ad (k:Nat):aA:=(336,⟨[.val (.sl aq) .shr,.val (.sl aq) .shr],[.val .bool .leaf],iZ k,[]⟩)::(zd k)
theorem QR (k:Nat):ae Tryz.prog (Ad k):=ae.ev aC mixed (M9 k) NY Mn k Tryz.func336 (by kernel_rfl) (fun x=>by kernel_rfl)
def PG:aK:=fun|3=>some ⟨[(0,.val (.sl ab) aM),(3,.val (.sl ab) abS),(4,.val ai .leaf)],5⟩|7=>some ⟨[(0,.val (.sl ab) aM),(3,.val (.sl ab) abS),(4,.val ai .leaf),(5,.box 5 ab ads),(6,.val ai .leaf)],7⟩|_=>none
def Oc:aK:=fun|9=>some ⟨[(0,.val (.sl ab) aM),(3,.val (.sl ab) abS),(4,.val ai .leaf),(5,.box 5 ab ads),(6,.val ai .leaf)],7⟩|_=>none
def D5 (k:Nat):aA:=(244,⟨[.val (.sl ab) .shr],[.val (.sl ab) .hd],jM k,[]⟩)::(Ad k)
theorem TL (k:Nat):ae Tryz.prog (D5 k):=ae.ev aC mixed (QR k) PG Oc k Tryz.func244 (by kernel_rfl) (fun x=>by kernel_rfl)
def GJ:aK:=fun|3=>some ⟨[(0,.val (.sl aj) aM),(3,.val (.sl ab) hJ),(4,.val ai .leaf)],5⟩|_=>none
def GN:aK:=fun|6=>some ⟨[(3,.val (.sl ab) hJ)],5⟩|_=>none
def wN (k:Nat):aA:=(145,⟨[.val (.sl aj) .shr],[.val (.sl ab) .hd],ml k,[]⟩)::(D5 k)
theorem JI (k:Nat):ae Tryz.prog (wN k):=ae.ev aC mixed (TL k) GJ GN k Tryz.func145 (by kernel_rfl) (fun x=>by kernel_rfl)
def Hr (k:Nat):aA:=(262,⟨[.val bQ qN,.val ab q3],[.val .bool .leaf],qd k,[]⟩)::(wN k)
theorem Wd (k:Nat):ae Tryz.prog (Hr k):=ae.ev aC mixed (JI k) nA nA k Tryz.func262 (by kernel_rfl) (fun x=>by kernel_rfl)
def Iv:aK:=fun|5=>some ⟨[(1,.box 4 az cX),(3,.val (.sl ab) abf),(4,.val ai .leaf)],6⟩|_=>none
def Js:aK:=fun|9=>some ⟨[(1,.box 4 az cX),(3,.val (.sl ab) abf)],6⟩|_=>none
def xK (k:Nat):aA:=(172,⟨[.val az gU],[.val .bool .leaf],nL k,[]⟩)::(Hr k)
theorem ME (k:Nat):ae Tryz.prog (xK k):=ae.ev aC mixed (Wd k) Iv Js k Tryz.func172 (by kernel_rfl) (fun x=>by kernel_rfl)
def Q3:aK:=fun|2=>some ⟨[(0,.val (.sl ab) aM),(3,.val ai .leaf)],4⟩|_=>none
def Dg (k:Nat):aA:=(173,⟨[.val (.sl ab) .shr],[.val .bool .leaf],jH k,[]⟩)::(xK k)
theorem Sc (k:Nat):ae Tryz.prog (Dg k):=ae.ev aC mixed (ME k) Q3 nA k Tryz.func173 (by kernel_rfl) (fun x=>by kernel_rfl)
def Su:aK:=fun|2=>some ⟨[(1,.box 4 aW (.pair aM .leaf)),(3,.val ai .leaf)],5⟩|_=>none
def Sk:aK:=fun|6=>some ⟨[(1,.box 4 aW (.pair aM .leaf))],5⟩|_=>none
def Ff (k:Nat):aA:=(174,⟨[.val aW zn],[.val .bool .leaf],sA k,[]⟩)::(Dg k)
theorem UK (k:Nat):ae Tryz.prog (Ff k):=ae.ev aC mixed (Sc k) Su Sk k Tryz.func174 (by kernel_rfl) (fun x=>by kernel_rfl)
def yV (k:Nat):aA:=(241,⟨[.val ai .leaf],[.val (.sl ai) .own],nx k,[]⟩)::(Ff k)
theorem MQ (k:Nat):ae Tryz.prog (yV k):=ae.ev aC mixed (UK k) nA nA k Tryz.func241 (by kernel_rfl) (fun x=>by kernel_rfl)
def P9:aK:=fun|2=>some ⟨[(0,.val (.sl ai) aM),(1,.val ai .leaf),(5,.val ai .leaf)],4⟩|_=>none
def DF (k:Nat):aA:=(264,⟨[.val (.sl ai) .shr,.val ai .leaf],[.val .bool .leaf],qG k,[]⟩)::(yV k)
theorem SS (k:Nat):ae Tryz.prog (DF k):=ae.ev aC mixed (MQ k) P9 nA k Tryz.func264 (by kernel_rfl) (fun x=>by kernel_rfl)
def Ej (k:Nat):aA:=(175,⟨[.val aI uV],[.val .bool .leaf],jJ k,[]⟩)::(DF k)
theorem Tv (k:Nat):ae Tryz.prog (Ej k):=ae.ev aC mixed (SS k) nA nA k Tryz.func175 (by kernel_rfl) (fun x=>by kernel_rfl)
def wh (k:Nat):aA:=(268,⟨[.val ab q3,.val ab q3],[.val .bool .leaf],dn k,[]⟩)::(Ej k)
theorem JO (k:Nat):ae Tryz.prog (wh k):=ae.ev aC mixed (Tv k) nA nA k Tryz.func268 (by kernel_rfl) (fun x=>by kernel_rfl)
def AR (k:Nat):aA:=(342,⟨[.val ab q3],[.val .bool .leaf],gn k,[]⟩)::(wh k)
theorem Q5 (k:Nat):ae Tryz.prog (AR k):=ae.ev aC mixed (JO k) nA nA k Tryz.func342 (by kernel_rfl) (fun x=>by kernel_rfl)
def M5:aK:=fun|2=>some ⟨[(1,.box 4 al xj),(3,.val ai .leaf)],5⟩|_=>none
def MH:aK:=fun|6=>some ⟨[(1,.box 4 al xj)],5⟩|_=>none
def AX (k:Nat):aA:=(343,⟨[.val al jv],[.val .bool .leaf],pf k,[]⟩)::(AR k)
theorem Qm (k:Nat):ae Tryz.prog (AX k):=ae.ev aC mixed (Q5 k) M5 MH k Tryz.func343 (by kernel_rfl) (fun x=>by kernel_rfl)
def Dr (k:Nat):aA:=(265,⟨[.val al jv,.val ai .leaf],[.val .bool .leaf],qs k,[]⟩)::(AX k)
theorem TO (k:Nat):ae Tryz.prog (Dr k):=ae.ev aC mixed (Qm k) nA nA k Tryz.func265 (by kernel_rfl) (fun x=>by kernel_rfl)
def wo (k:Nat):aA:=(266,⟨[.val ai .leaf],[.val ai .leaf],eM k,[]⟩)::(Dr k)
theorem Jo (k:Nat):ae Tryz.prog (wo k):=ae.ev aC mixed (TO k) nA nA k Tryz.func266 (by kernel_rfl) (fun x=>by kernel_rfl)
def DV (k:Nat):aA:=(345,⟨[.val (.sl aj) .shr,.val (.sl aq) .shr],[.val ai .leaf],iB k,[]⟩)::(wo k)
theorem Sw (k:Nat):ae Tryz.prog (DV k):=ae.ev aC mixed (Jo k) nA nA k Tryz.func345 (by kernel_rfl) (fun x=>by kernel_rfl)
def UG:aK:=fun|2=>some ⟨[(1,.val ai .leaf),(2,.box 4 aj rq),(5,.val ai .leaf)],5⟩|_=>none
def Hq (k:Nat):aA:=(385,⟨[.val aj ng,.val ai .leaf],[.val ai .leaf],kz k,[]⟩)::(DV k)
theorem W2 (k:Nat):ae Tryz.prog (Hq k):=ae.ev aC mixed (Sw k) UG nA k Tryz.func385 (by kernel_rfl) (fun x=>by kernel_rfl)
def M4:aK:=fun|2=>some ⟨[(1,.val (.sl aq) aM),(2,.box 4 ax zw),(5,.val ai .leaf)],5⟩|_=>none
def Aa (k:Nat):aA:=(386,⟨[.val ax qY,.val (.sl aq) .shr],[.val ai .leaf],gy k,[]⟩)::(Hq k)
theorem P4 (k:Nat):ae Tryz.prog (Aa k):=ae.ev aC mixed (W2 k) M4 nA k Tryz.func386 (by kernel_rfl) (fun x=>by kernel_rfl)
def DN (k:Nat):aA:=(344,⟨[.val aj ng,.val (.sl aq) .shr],[.val ab Fs,.val .bool .leaf],qC k,[]⟩)::(Aa k)
theorem Sl (k:Nat):ae Tryz.prog (DN k):=ae.ev aC mixed (P4 k) nA nA k Tryz.func344 (by kernel_rfl) (fun x=>by kernel_rfl)
def wV (k:Nat):aA:=(267,⟨[.val (.sl aj) .shr,.val (.sl aq) .shr],[.val ab Fs,.val .bool .leaf],fo k,[]⟩)::(DN k)
theorem Kc (k:Nat):ae Tryz.prog (wV k):=ae.ev aC mixed (Sl k) nA nA k Tryz.func267 (by kernel_rfl) (fun x=>by kernel_rfl)
def PH:aK:=fun|4=>some ⟨[(0,.val (.sl ab) aM),(1,.val (.sl ab) aM),(5,.val ai .leaf)],4⟩|_=>none
def DQ (k:Nat):aA:=(346,⟨[.val (.sl ab) .shr,.val (.sl ab) .shr],[.val .bool .leaf],qH k,[]⟩)::(wV k)
theorem Sg (k:Nat):ae Tryz.prog (DQ k):=ae.ev aC mixed (Kc k) PH nA k Tryz.func346 (by kernel_rfl) (fun x=>by kernel_rfl)
def Nu:aK:=fun|4=>some ⟨[(2,.box 4 az cX),(3,.box 5 al xj),(5,.val (.sl ab) IJ),(6,.val .bool .leaf),(7,.val ai .leaf)],7⟩|_=>none
def L4:aK:=fun|10=>some ⟨[(2,.box 4 az cX),(3,.box 5 al xj),(5,.val (.sl ab) IJ),(6,.val .bool .leaf)],7⟩|_=>none
def Bc (k:Nat):aA:=(270,⟨[.val az gU,.val al jv],[.val .bool .leaf],gG k,[]⟩)::(DQ k)
theorem Po (k:Nat):ae Tryz.prog (Bc k):=ae.ev aC mixed (Sg k) Nu L4 k Tryz.func270 (by kernel_rfl) (fun x=>by kernel_rfl)
def Mj:aK:=fun|26=>some ⟨[(2,.box 4 az cX),(5,.box 5 al (.pair .leaf (.pair .leaf (.pair adE (.pair I5 (.pair .leaf (.pair I5 (.pair I5 qM)))))))),(6,.box 6 aI (.pair .leaf (.pair .leaf (.pair adE (.pair I5 (.pair .leaf (.pair .leaf (.pair .leaf (.pair I5 (.pair .leaf (.pair .leaf qM)))))))))))],7⟩|_=>none
def AD (k:Nat):aA:=(176,⟨[.val az gU,.val ai .leaf],[.val .bool .leaf],pr k,[]⟩)::(Bc k)
theorem Ot (k:Nat):ae Tryz.prog (AD k):=ae.ev aC mixed (Po k) nA Mj k Tryz.func176 (by kernel_rfl) (fun x=>by kernel_rfl)
def xk (k:Nat):aA:=(271,⟨[.val al jv,.val ai .leaf],[.val ai .leaf],mi k,[]⟩)::(AD k)
theorem Iz (k:Nat):ae Tryz.prog (xk k):=ae.ev aC mixed (Ot k) nA nA k Tryz.func271 (by kernel_rfl) (fun x=>by kernel_rfl)
def uy (k:Nat):aA:=(272,⟨[.val al jv],[.val .bool .leaf],jQ k,[]⟩)::(xk k)
theorem EF (k:Nat):ae Tryz.prog (uy k):=ae.ev aC mixed (Iz k) nA nA k Tryz.func272 (by kernel_rfl) (fun x=>by kernel_rfl)
def It:aK:=fun|3=>some ⟨[(1,.box 4 az cX),(3,.val (.sl ai) uY),(4,.val ai .leaf)],6⟩|8=>some ⟨[(1,.box 4 az cX),(3,.val (.sl ai) uY),(5,.val ai .leaf),(6,.val ai .leaf)],6⟩|20=>some ⟨[(1,.box 4 az cX),(3,.val (.sl ai) uY),(5,.val ai .leaf),(8,.val ai .leaf)],6⟩|_=>none
def JW:aK:=fun|6=>some ⟨[(1,.box 4 az cX),(3,.val (.sl ai) uY)],6⟩|15=>some ⟨[(1,.box 4 az cX),(3,.val (.sl ai) uY),(5,.val ai .leaf),(6,.val ai .leaf)],6⟩|19=>some ⟨[(1,.box 4 az cX),(3,.val (.sl ai) uY),(5,.val ai .leaf)],6⟩|24=>some ⟨[(1,.box 4 az cX),(5,.val ai .leaf)],5⟩|_=>none
def xE (k:Nat):aA:=(177,⟨[.val az gU],[.val .bool .leaf],kj k,[]⟩)::(uy k)
theorem KZ (k:Nat):ae Tryz.prog (xE k):=ae.ev aC mixed (EF k) It JW k Tryz.func177 (by kernel_rfl) (fun x=>by kernel_rfl)
def TK:aK:=fun|2=>some ⟨[(0,.val (.sl .str) aM),(1,.val .str .leaf),(5,.val ai .leaf)],4⟩|_=>none
def EV (k:Nat):aA:=(413,⟨[.val (.sl .str) .shr,.val .str .leaf],[.val .bool .leaf],su k,[]⟩)::(xE k)
theorem Vt (k:Nat):ae Tryz.prog (EV k):=ae.ev aC mixed (KZ k) TK nA k Tryz.func413 (by kernel_rfl) (fun x=>by kernel_rfl)
def Nq:aK:=fun|3=>some ⟨[(0,.val (.sl aq) aM),(1,.val (.sl .str) aM),(5,.val (.sl aq) Zm),(6,.val ai .leaf)],5⟩|_=>none
def B5 (k:Nat):aA:=(390,⟨[.val (.sl aq) .shr,.val (.sl .str) .shr],[.val (.sl aq) .own],tQ k,[]⟩)::(EV k)
theorem PD (k:Nat):ae Tryz.prog (B5 k):=ae.ev aC mixed (Vt k) Nq nA k Tryz.func390 (by kernel_rfl) (fun x=>by kernel_rfl)
def FX (k:Nat):aA:=(356,⟨[.val ab q3,.val (.sl .str) .shr],[.val (.sl aq) .own],gQ k,[]⟩)::(B5 k)
theorem VU (k:Nat):ae Tryz.prog (FX k):=ae.ev aC mixed (PD k) nA nA k Tryz.func356 (by kernel_rfl) (fun x=>by kernel_rfl)
def MZ:aK:=fun|2=>some ⟨[(1,.val (.sl .str) aM),(2,.box 4 ah FN),(5,.val ai .leaf)],5⟩|_=>none
def NU:aK:=fun|6=>some ⟨[(2,.box 4 ah FN)],5⟩|_=>none
def Aj (k:Nat):aA:=(349,⟨[.val ah pN,.val (.sl .str) .shr],[.val .bool .leaf],oD k,[]⟩)::(FX k)
theorem Ol (k:Nat):ae Tryz.prog (Aj k):=ae.ev aC mixed (VU k) MZ NU k Tryz.func349 (by kernel_rfl) (fun x=>by kernel_rfl)
def JL:aK:=fun|2=>some ⟨[(0,.val (.sl ah) aM),(1,.val (.sl .str) aM),(5,.val ai .leaf)],4⟩|7=>some ⟨[(0,.val (.sl ah) aM),(1,.val (.sl .str) aM),(5,.val ai .leaf),(6,.val ai .leaf)],4⟩|_=>none
def IH:aK:=fun|11=>some ⟨[(0,.val (.sl ah) aM)],4⟩|_=>none
def yc (k:Nat):aA:=(273,⟨[.val (.sl ah) .shr,.val (.sl .str) .shr],[.val .bool .leaf],np k,[]⟩)::(Aj k)
theorem LF (k:Nat):ae Tryz.prog (yc k):=ae.ev aC mixed (Ol k) JL IH k Tryz.func273 (by kernel_rfl) (fun x=>by kernel_rfl)
def Ds (k:Nat):aA:=(350,⟨[.val aw mj,.val aw mj],[.val .bool .leaf],iC k,[]⟩)::(yc k)
theorem SK (k:Nat):ae Tryz.prog (Ds k):=ae.ev aC mixed (LF k) nA nA k Tryz.func350 (by kernel_rfl) (fun x=>by kernel_rfl)
def QW:aK:=fun|2=>some ⟨[(0,.val (.sl aw) aM),(3,.val ai .leaf)],4⟩|_=>none
def OJ:aK:=fun|6=>some ⟨[(0,.val (.sl aw) aM)],4⟩|_=>none
def DS (k:Nat):aA:=(274,⟨[.val (.sl aw) .shr],[.val .bool .leaf],qp k,[]⟩)::(Ds k)
theorem Si (k:Nat):ae Tryz.prog (DS k):=ae.ev aC mixed (SK k) QW OJ k Tryz.func274 (by kernel_rfl) (fun x=>by kernel_rfl)
def Bu (k:Nat):aA:=(351,⟨[.val ah pN,.val ai .leaf,.val ai .leaf],[.val ai .leaf],tg k,[]⟩)::(DS k)
theorem Qa (k:Nat):ae Tryz.prog (Bu k):=ae.ev aC mixed (Si k) nA nA k Tryz.func351 (by kernel_rfl) (fun x=>by kernel_rfl)
def Kt (k:Nat):aA:=(275,⟨[.val bQ qN,.val ah pN],[.val ai .leaf],sJ k,[]⟩)::(Bu k)
theorem YV (k:Nat):ae Tryz.prog (Kt k):=ae.ev aC mixed (Qa k) nA nA k Tryz.func275 (by kernel_rfl) (fun x=>by kernel_rfl)
def GP:aK:=fun|4=>some ⟨[(1,.box 4 az cX),(3,.val ai .leaf)],5⟩|9=>some ⟨[(1,.box 4 az cX),(3,.val ai .leaf),(4,.val ai .leaf)],5⟩|14=>some ⟨[(1,.box 4 az cX),(5,.val ai .leaf)],5⟩|19=>some ⟨[(1,.box 4 az cX),(5,.val ai .leaf),(6,.box 5 ah Y3),(7,.val .bool .leaf),(8,.val ai .leaf)],6⟩|_=>none
def Hf:aK:=fun|13=>some ⟨[(1,.box 4 az cX)],5⟩|22=>some ⟨[(1,.box 4 az cX),(5,.val ai .leaf),(6,.box 5 ah Y3),(7,.val .bool .leaf)],6⟩|_=>none
def vW (k:Nat):aA:=(178,⟨[.val az gU],[.val .bool .leaf],jx k,[]⟩)::(Kt k)
theorem Is (k:Nat):ae Tryz.prog (vW k):=ae.ev aC mixed (YV k) GP Hf k Tryz.func178 (by kernel_rfl) (fun x=>by kernel_rfl)
def KM:aK:=fun|4=>some ⟨[(1,.box 4 az cX),(3,.val ai .leaf)],5⟩|9=>some ⟨[(1,.box 4 az cX),(4,.val ai .leaf)],5⟩|15=>some ⟨[(1,.box 4 az cX),(6,.val ai .leaf)],5⟩|_=>none
def Le:aK:=fun|8=>some ⟨[(1,.box 4 az cX)],5⟩|14=>some ⟨[(1,.box 4 az cX)],5⟩|19=>some ⟨[(1,.box 4 az cX)],5⟩|_=>none
def Bq (k:Nat):aA:=(74,⟨[.val az gU],[.val .bool .leaf],oA k,[]⟩)::(vW k)
theorem Pm (k:Nat):ae Tryz.prog (Bq k):=ae.ev aC mixed (Is k) KM Le k Tryz.func74 (by kernel_rfl) (fun x=>by kernel_rfl)
def An (k:Nat):aA:=(282,⟨[.rd az,.val ai .leaf],[.val ai .leaf],jm k,[]⟩)::(Bq k)
theorem QO (k:Nat):ae Tryz.prog (An k):=ae.ev aC mixed (Pm k) nA nA k Tryz.func282 (by kernel_rfl) (fun x=>by kernel_rfl)
def LH:aK:=fun|3=>some ⟨[(0,.val (.sl aj) aM),(3,.val ai .leaf),(4,.val ai .leaf)],4⟩|6=>some ⟨[(0,.val (.sl aj) aM),(3,.val ai .leaf),(4,.val ai .leaf),(5,.val ai .leaf)],4⟩|_=>none
def AU (k:Nat):aA:=(352,⟨[.val (.sl aj) .shr],[.val ai .leaf],pC k,[]⟩)::(An k)
theorem P1 (k:Nat):ae Tryz.prog (AU k):=ae.ev aC mixed (QO k) LH nA k Tryz.func352 (by kernel_rfl) (fun x=>by kernel_rfl)
def Qr:aK:=fun|6=>some ⟨[(0,.box 4 az (.pair QU (.pair .leaf (.pair .leaf (.pair (.sl (.row 5 [1,5] false)) (.pair (.sl (.row 6 [1,6] false)) (.pair (.sl (.row 7 [1,7] false)) (.pair .leaf (.pair (.sl (.row 8 [1,8] false)) (.pair .leaf (.pair (.sl (.row 9 [1,9] false)) (.pair (.sl (.row 10 [1,10] false)) (.pair (.sl (.row 11 [1,11] false)) adI))))))))))))),(1,.val ai .leaf),(8,.ept 13 aI 0 [] aI)],14⟩|_=>none
def Dj (k:Nat):aA:=(290,⟨[.io az dP,.val ai .leaf,.val ai .leaf,.vx ab [12]],[],cr k,[]⟩)::(AU k)
theorem Tm (k:Nat):ae Tryz.prog (Dj k):=ae.ev aC mixed (P1 k) nA Qr k Tryz.func290 (by kernel_rfl) (fun x=>by kernel_rfl)
def FR (k:Nat):aA:=(426,⟨[.val ab q3,.val ab q3],[.val .bool .leaf],wX k,[]⟩)::(Dj k)
theorem UO (k:Nat):ae Tryz.prog (FR k):=ae.ev aC mixed (Tm k) nA nA k Tryz.func426 (by kernel_rfl) (fun x=>by kernel_rfl)
def EO (k:Nat):aA:=(427,⟨[.val ai .leaf,.val ai .leaf],[.val ai .leaf],wj k,[]⟩)::(FR k)
theorem Vm (k:Nat):ae Tryz.prog (EO k):=ae.ev aC mixed (UO k) nA nA k Tryz.func427 (by kernel_rfl) (fun x=>by kernel_rfl)
def Fe (k:Nat):aA:=(421,⟨[.val ab q3,.val ab q3],[.val ab Fs],sN k,[]⟩)::(EO k)
theorem U9 (k:Nat):ae Tryz.prog (Fe k):=ae.ev aC mixed (Vm k) nA nA k Tryz.func421 (by kernel_rfl) (fun x=>by kernel_rfl)
def yv (k:Nat):aA:=(412,⟨[.val ax qY,.val ab q3],[.val ax Gc,.val .bool .leaf],nF k,[]⟩)::(Fe k)
theorem No (k:Nat):ae Tryz.prog (yv k):=ae.ev aC mixed (U9 k) nA nA k Tryz.func412 (by kernel_rfl) (fun x=>by kernel_rfl)
def SD:aK:=fun|10=>some ⟨[(2,.box 4 aj rq),(3,.box 5 ab tH),(4,.box 6 aj Df),(6,.box 7 aj YB),(7,.val ai .leaf),(8,.val ai .leaf)],9⟩|_=>none
def TH:aK:=fun|12=>some ⟨[(2,.box 4 aj rq),(3,.box 5 ab tH),(4,.box 6 aj Df),(6,.box 7 aj YB),(7,.val ai .leaf),(8,.val ai .leaf)],9⟩|_=>none
def ES (k:Nat):aA:=(380,⟨[.val aj ng,.val ab q3],[.val aj (.pair .leaf (.pair .leaf .pv)),.val .bool .leaf],sV k,[]⟩)::(yv k)
theorem VK (k:Nat):ae Tryz.prog (ES k):=ae.ev aC mixed (No k) SD TH k Tryz.func380 (by kernel_rfl) (fun x=>by kernel_rfl)
def xJ (k:Nat):aA:=(327,⟨[.val (.sl aj) .shr,.val ab q3],[.val (.sl aj) .pv,.val .bool .leaf],nh k,[]⟩)::(ES k)
theorem K0 (k:Nat):ae Tryz.prog (xJ k):=ae.ev aC mixed (VK k) nA nA k Tryz.func327 (by kernel_rfl) (fun x=>by kernel_rfl)
def GU:aK:=fun|12=>some ⟨[(0,.box 4 az adX),(1,.val ai .leaf),(4,.box 14 al abx),(6,.box 15 ab (.pair (.sl (.row 16 [16] true)) (.pair .leaf qM))),(10,.ept 13 aI 0 [] aI)],17⟩|_=>none
def wk (k:Nat):aA:=(283,⟨[.io az dP,.val ai .leaf],[],lR k,[]⟩)::(xJ k)
theorem I6 (k:Nat):ae Tryz.prog (wk k):=ae.ev aC mixed (K0 k) nA GU k Tryz.func283 (by kernel_rfl) (fun x=>by kernel_rfl)
def Hn (k:Nat):aA:=(331,⟨[.val aW zn,.val ab q3],[.val aW T9],tW k,[]⟩)::(wk k)
theorem V7 (k:Nat):ae Tryz.prog (Hn k):=ae.ev aC mixed (I6 k) nA nA k Tryz.func331 (by kernel_rfl) (fun x=>by kernel_rfl)
def M6:aK:=fun|3=>some ⟨[(0,.val (.sl aW) aM),(3,.box 4 ab tH),(5,.val (.sl aW) UI),(6,.val ai .leaf)],6⟩|_=>none
def A7 (k:Nat):aA:=(353,⟨[.val (.sl aW) .shr,.val ab q3],[.val (.sl aW) .own],oM k,[]⟩)::(Hn k)
theorem Pp (k:Nat):ae Tryz.prog (A7 k):=ae.ev aC mixed (V7 k) M6 nA k Tryz.func353 (by kernel_rfl) (fun x=>by kernel_rfl)
def xN (k:Nat):aA:=(183,⟨[.io az dP,.val aI uV],[],jR k,[(0,(cQ 14 12))]⟩)::(A7 k)
theorem Lb (k:Nat):ae Tryz.prog (xN k):=ae.ev aC mixed (Pp k) nA nA k Tryz.func183 (by kernel_rfl) (fun x=>by kernel_rfl)
def Be (k:Nat):aA:=(284,⟨[.io az dP,.val ai .leaf],[],tD k,[]⟩)::(xN k)
theorem QT (k:Nat):ae Tryz.prog (Be k):=ae.ev aC mixed (Lb k) nA nA k Tryz.func284 (by kernel_rfl) (fun x=>by kernel_rfl)
def Lf:aK:=fun|11=>some ⟨[(0,.box 4 az zt)],14⟩|_=>none
def BA (k:Nat):aA:=(192,⟨[.io az dP,.val ai .leaf],[.val .bool .leaf],pG k,[]⟩)::(Be k)
theorem QM (k:Nat):ae Tryz.prog (BA k):=ae.ev aC mixed (QT k) nA Lf k Tryz.func192 (by kernel_rfl) (fun x=>by kernel_rfl)
def Cc (k:Nat):aA:=(286,⟨[.io az dP,.val ai .leaf,.val ai .leaf],[.val .bool .leaf],jh k,[(0,(cQ 14 12))]⟩)::(BA k)
theorem P3 (k:Nat):ae Tryz.prog (Cc k):=ae.ev aC mixed (QM k) nA nA k Tryz.func286 (by kernel_rfl) (fun x=>by kernel_rfl)
def DC (k:Nat):aA:=(285,⟨[.io az dP,.val ai .leaf],[.val .bool .leaf],qB k,[]⟩)::(Cc k)
theorem Tx (k:Nat):ae Tryz.prog (DC k):=ae.ev aC mixed (P3 k) nA nA k Tryz.func285 (by kernel_rfl) (fun x=>by kernel_rfl)
def BD (k:Nat):aA:=(287,⟨[.io az dP,.val ai .leaf],[],pg k,[(0,(cQ 14 12))]⟩)::(DC k)
theorem QA (k:Nat):ae Tryz.prog (BD k):=ae.ev aC mixed (Tx k) nA nA k Tryz.func287 (by kernel_rfl) (fun x=>by kernel_rfl)
def JG:aK:=fun|2=>some ⟨[(0,.box 4 az abz),(1,.val ai .leaf),(4,.box 14 al abx),(5,.val ai .leaf)],15⟩|_=>none
def JA:aK:=fun|6=>some ⟨[(0,.box 4 az abz),(1,.val ai .leaf),(4,.box 14 al abx)],15⟩|_=>none
def xO (k:Nat):aA:=(288,⟨[.io az dP,.val ai .leaf],[],ny k,[]⟩)::(BD k)
theorem NC (k:Nat):ae Tryz.prog (xO k):=ae.ev aC mixed (QA k) JG JA k Tryz.func288 (by kernel_rfl) (fun x=>by kernel_rfl)
def N5:aK:=fun|9=>some ⟨[(0,.box 4 az zt),(5,.val .bool .leaf)],14⟩|_=>none
def BU (k:Nat):aA:=(193,⟨[.io az dP,.val ai .leaf],[.val .bool .leaf],kO k,[]⟩)::(xO k)
theorem OZ (k:Nat):ae Tryz.prog (BU k):=ae.ev aC mixed (NC k) nA N5 k Tryz.func193 (by kernel_rfl) (fun x=>by kernel_rfl)
def H9 (k:Nat):aA:=(389,⟨[.val ab q3,.val ai .leaf],[.val .bool .leaf],pX k,[]⟩)::(BU k)
theorem WT (k:Nat):ae Tryz.prog (H9 k):=ae.ev aC mixed (OZ k) nA nA k Tryz.func389 (by kernel_rfl) (fun x=>by kernel_rfl)
def Ke:aK:=fun|4=>some ⟨[(1,.val ai .leaf),(2,.box 4 ax zw),(4,.box 5 ax Yx),(6,.box 6 ax YY),(7,.val (.sl ab) u7),(8,.val ai .leaf)],9⟩|_=>none
def IK:aK:=fun|10=>some ⟨[(2,.box 4 ax zw),(4,.box 5 ax Yx),(6,.box 6 ax YY),(7,.val (.sl ab) u7)],9⟩|_=>none
def xt (k:Nat):aA:=(354,⟨[.val ax qY,.val ai .leaf],[.val ax Gc,.val (.sl ab) .own],nH k,[]⟩)::(H9 k)
theorem Kr (k:Nat):ae Tryz.prog (xt k):=ae.ev aC mixed (WT k) Ke IK k Tryz.func354 (by kernel_rfl) (fun x=>by kernel_rfl)
def KS:aK:=fun|4=>some ⟨[(1,.val ai .leaf),(2,.box 4 aj rq),(4,.box 5 aj Df),(6,.box 6 aj Ul),(7,.val (.sl ab) u7),(8,.val ai .leaf)],9⟩|_=>none
def Mm:aK:=fun|10=>some ⟨[(2,.box 4 aj rq),(4,.box 5 aj Df),(6,.box 6 aj Ul),(7,.val (.sl ab) u7)],9⟩|_=>none
def Bf (k:Nat):aA:=(289,⟨[.val aj ng,.val ai .leaf],[.val aj Ud,.val (.sl ab) .own],oR k,[]⟩)::(xt k)
theorem Q6 (k:Nat):ae Tryz.prog (Bf k):=ae.ev aC mixed (Kr k) KS Mm k Tryz.func289 (by kernel_rfl) (fun x=>by kernel_rfl)
def M3:aK:=fun|15=>some ⟨[(0,.box 4 az adK),(6,.box 14 aj adO)],16⟩|_=>none
def BQ (k:Nat):aA:=(194,⟨[.io az dP,.val ai .leaf],[.val .bool .leaf],lg k,[]⟩)::(Bf k)
theorem OP (k:Nat):ae Tryz.prog (BQ k):=ae.ev aC mixed (Q6 k) nA M3 k Tryz.func194 (by kernel_rfl) (fun x=>by kernel_rfl)
def yE (k:Nat):aA:=(276,⟨[.io az dP,.val ai .leaf,.val al jv],[],kh k,[(0,(cQ 14 12))]⟩)::(BQ k)
theorem NK (k:Nat):ae Tryz.prog (yE k):=ae.ev aC mixed (OP k) nA nA k Tryz.func276 (by kernel_rfl) (fun x=>by kernel_rfl)
def AH (k:Nat):aA:=(291,⟨[.io az dP,.val ai .leaf],[.val .bool .leaf],lp k,[(0,(cQ 14 12))]⟩)::(yE k)
theorem PE (k:Nat):ae Tryz.prog (AH k):=ae.ev aC mixed (NK k) nA nA k Tryz.func291 (by kernel_rfl) (fun x=>by kernel_rfl)
def Oa:aK:=fun|2=>some ⟨[(0,.val (.sl ah) aM),(1,.val (.sl aq) aM),(5,.val ai .leaf)],4⟩|_=>none
def Bg (k:Nat):aA:=(355,⟨[.val (.sl ah) .shr,.val (.sl aq) .shr],[.val ai .leaf],fC k,[]⟩)::(AH k)
theorem QS (k:Nat):ae Tryz.prog (Bg k):=ae.ev aC mixed (PE k) Oa nA k Tryz.func355 (by kernel_rfl) (fun x=>by kernel_rfl)
def Q0:aK:=fun|4=>some ⟨[(2,.box 4 ah FN),(3,.box 5 ab tH),(4,.box 6 ah OC),(5,.box 7 ah O2),(6,.box 10 ab Yk),(7,.val ai .leaf)],12⟩|10=>some ⟨[(2,.box 4 ah FN),(3,.box 5 ab tH),(4,.box 6 ah OC),(5,.box 7 ah O2),(6,.box 10 ab Yk),(8,.val ai .leaf)],12⟩|_=>none
def Py:aK:=fun|9=>some ⟨[(2,.box 4 ah FN),(3,.box 5 ab tH),(4,.box 6 ah OC),(5,.box 7 ah O2),(6,.box 10 ab Yk)],12⟩|12=>some ⟨[(2,.box 4 ah FN),(3,.box 5 ab tH),(4,.box 6 ah OC),(5,.box 7 ah O2),(6,.box 10 ab Yk),(8,.val ai .leaf)],12⟩|_=>none
def DD (k:Nat):aA:=(382,⟨[.val ah pN,.val ab q3],[.val ah JD],qj k,[]⟩)::(Bg k)
theorem SQ (k:Nat):ae Tryz.prog (DD k):=ae.ev aC mixed (QS k) Q0 Py k Tryz.func382 (by kernel_rfl) (fun x=>by kernel_rfl)
def Cf (k:Nat):aA:=(333,⟨[.val (.sl ah) .shr,.val ab q3,.val (.sl .str) .shr,.val ai .leaf,.val ai .leaf],[.val (.sl ah) .own,.val .bool .leaf],pd k,[]⟩)::(DD k)
theorem OG (k:Nat):ae Tryz.prog (Cf k):=ae.ev aC mixed (SQ k) nA nA k Tryz.func333 (by kernel_rfl) (fun x=>by kernel_rfl)
def Li:aK:=fun|2=>some ⟨[(0,.val (.sl ah) aM),(1,.val ai .leaf),(5,.val ai .leaf)],4⟩|_=>none
def BZ (k:Nat):aA:=(359,⟨[.val (.sl ah) .shr,.val ai .leaf],[.val ai .leaf],je k,[]⟩)::(Cf k)
theorem QB (k:Nat):ae Tryz.prog (BZ k):=ae.ev aC mixed (OG k) Li nA k Tryz.func359 (by kernel_rfl) (fun x=>by kernel_rfl)
end Vg.Tryz
