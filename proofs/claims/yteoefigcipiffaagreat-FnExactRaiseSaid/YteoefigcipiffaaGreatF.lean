/- What the functions compute, printed by vgen.py from the evaluator's run. -/
import Derived.Test.YteoefigcipiffaaGreatVc
import Derived.Test.YteoefigcipiffaaGreatVd
set_option linter.unusedSimpArgs false
set_option linter.unusedVariables false
namespace Vg.Tryz
open Go Vg
set_option linter.unusedVariables false
abbrev af:Ty:=(.pair .str .str)
abbrev aj:Type:=(ByteArray×ByteArray)
abbrev aC:Ty:=(.pair (.int .i64) (.int .i64))
abbrev bl:Type:=(Int×Int)
abbrev ab:Ty:=(.pair (.sl af) (.pair (.int .i64) (.pair (.int .i64) .str)))
abbrev ai:Type:=(List aj×(Int×(Int×ByteArray)))
abbrev bC:Ty:=(.pair (.int .i64) (.pair (.int .i64) (.pair (.int .i64) (.pair (.int .i64) (.pair (.int .i64) (.sl .str))))))
abbrev cg:Type:=(Int×(Int×(Int×(Int×(Int×List ByteArray)))))
abbrev ay:Ty:=(.pair (.int .i64) (.sl ab))
abbrev bc:Type:=(Int×List ai)
abbrev aU:Ty:=(.pair (.sl ab) .bool)
abbrev bF:Type:=(List ai×Bool)
abbrev aq:Ty:=(.pair (.int .i64) (.pair (.int .i64) (.sl ay)))
abbrev aG:Type:=(Int×(Int×List bc))
abbrev aN:Ty:=(.pair (.int .i64) (.pair (.sl af) ay))
abbrev bz:Type:=(Int×(List aj×bc))
abbrev al:Ty:=(.pair (.int .i64) (.pair (.sl af) (.pair (.int .i64) ay)))
abbrev aJ:Type:=(Int×(List aj×(Int×bc)))
abbrev ah:Ty:=(.pair (.int .i64) (.pair (.int .i64) (.pair ab (.pair (.sl af) (.pair (.int .i64) (.pair (.sl (.int .i64)) (.pair (.sl ab) aC)))))))
abbrev aM:Type:=(Int×(Int×(ai×(List aj×(Int×(List Int×(List ai×bl)))))))
abbrev ak:Ty:=(.pair (.int .i64) (.pair (.int .i64) (.pair ab (.pair (.sl af) (.pair (.int .i64) (.pair (.int .i64) (.pair (.int .i64) (.pair (.sl ab) (.pair (.int .i64) (.pair (.int .i64) aC))))))))))
abbrev aY:Type:=(Int×(Int×(ai×(List aj×(Int×(Int×(Int×(List ai×(Int×(Int×bl))))))))))
abbrev aE:Ty:=(.pair bC (.pair (.int .i64) (.pair (.int .i64) (.pair (.sl aq) (.pair (.sl aU) (.pair (.sl ab) (.pair (.int .i64) (.pair (.sl al) (.pair (.int .i64) (.pair (.sl aC) (.pair (.sl aN) (.pair (.sl ab) (.pair (.sl ah) (.sl ak))))))))))))))
abbrev ar:Type:=(cg×(Int×(Int×(List aG×(List bF×(List ai×(Int×(List aJ×(Int×(List bl×(List bz×(List ai×(List aM×List aY)))))))))))))
def pL (k:Nat) (x:List ByteArray×ByteArray×Unit):Option (ByteArray×Unit):=xz x
def kD (k:Nat) (x:List ai×Unit):Option (List ai×Unit):=s9 x
def nE (k:Nat) (x:List ByteArray×Int×Unit):Option (Int×Unit):=
 if(decide (((IntKind.i64.wrap (x.2.1-((List.length x.1:Nat):Int))):Int)<(0:Int)))=true then
  some ((-1:Int),())
 else
  az k (fun G1 (t2:List ByteArray×Int×Int×Unit)=>
   if(decide ((t2.2.2.1:Int)<((List.length t2.1:Nat):Int)))=true then
    if(decide (0≤t2.2.2.1∧t2.2.2.1<((List.length t2.1:Nat):Int)))=true then
     if(decide (((IntKind.i64.wrap (t2.2.1-((ByteArray.size (List.getD t2.1 (Int.toNat t2.2.2.1) ByteArray.empty):Nat):Int))):Int)<(0:Int)))=true then
      some ((-1:Int),())
     else
      G1 (t2.1,IntKind.i64.wrap (t2.2.1-((ByteArray.size (List.getD t2.1 (Int.toNat t2.2.2.1) ByteArray.empty):Nat):Int)),IntKind.i64.wrap (t2.2.2.1+(1:Int)),())
    else
     none
   else
    some (t2.2.1,())) (x.1,IntKind.i64.wrap (x.2.1-((List.length x.1:Nat):Int)),(0:Int),())
def np (k:Nat) (x:cg×Int×Unit):Option (Int×Unit):=
 Option.bind (nE k (x.1.2.2.2.2.2,x.2.1,())) fun r1=>
 if(decide ((r1.1:Int)<(0:Int)))=true then
  some ((-1:Int),())
 else
  some (r1.1,())
def iL (k:Nat) (x:aj×Int×Unit):Option (Int×Unit):=
 if(decide (((IntKind.i64.wrap (x.2.1-((ByteArray.size x.1.1:Nat):Int))):Int)<(0:Int)))=true then
  some ((-1:Int),())
 else
  if(decide (((IntKind.i64.wrap ((IntKind.i64.wrap (x.2.1-((ByteArray.size x.1.1:Nat):Int)))-((ByteArray.size x.1.2:Nat):Int))):Int)<(0:Int)))=true then
   some ((-1:Int),())
  else
   some (IntKind.i64.wrap ((IntKind.i64.wrap (x.2.1-((ByteArray.size x.1.1:Nat):Int)))-((ByteArray.size x.1.2:Nat):Int)),())
def eB (k:Nat) (x:List aj×Int×Unit):Option (Int×Unit):=
 if(decide (((IntKind.i64.wrap (x.2.1-((List.length x.1:Nat):Int))):Int)<(0:Int)))=true then
  some ((-1:Int),())
 else
  az k (fun G1 (t2:List aj×Int×Int×Unit)=>
   if(decide ((t2.2.2.1:Int)<((List.length t2.1:Nat):Int)))=true then
    if(decide (0≤t2.2.2.1∧t2.2.2.1<((List.length t2.1:Nat):Int)))=true then
     Option.bind (iL k (List.getD t2.1 (Int.toNat t2.2.2.1) af.aa,t2.2.1,())) fun r3=>
     if(decide ((r3.1:Int)<(0:Int)))=true then
      some ((-1:Int),())
     else
      G1 (t2.1,r3.1,IntKind.i64.wrap (t2.2.2.1+(1:Int)),())
    else
     none
   else
    some (t2.2.1,())) (x.1,IntKind.i64.wrap (x.2.1-((List.length x.1:Nat):Int)),(0:Int),())
def eo (k:Nat) (x:ai×Int×Unit):Option (Int×Unit):=
 Option.bind (eB k (x.1.1,x.2.1,())) fun r1=>
 if(decide ((r1.1:Int)<(0:Int)))=true then
  some ((-1:Int),())
 else
  if(decide (((IntKind.i64.wrap (r1.1-((ByteArray.size x.1.2.2.2:Nat):Int))):Int)<(0:Int)))=true then
   some ((-1:Int),())
  else
   some (IntKind.i64.wrap (r1.1-((ByteArray.size x.1.2.2.2:Nat):Int)),())
def dc (k:Nat) (x:List ai×Int×Unit):Option (Int×Unit):=
 if(decide (((IntKind.i64.wrap (x.2.1-((List.length x.1:Nat):Int))):Int)<(0:Int)))=true then
  some ((-1:Int),())
 else
  az k (fun G1 (t2:List ai×Int×Int×Unit)=>
   if(decide ((t2.2.2.1:Int)<((List.length t2.1:Nat):Int)))=true then
    if(decide (0≤t2.2.2.1∧t2.2.2.1<((List.length t2.1:Nat):Int)))=true then
     Option.bind (eo k (List.getD t2.1 (Int.toNat t2.2.2.1) ab.aa,t2.2.1,())) fun r3=>
     if(decide ((r3.1:Int)<(0:Int)))=true then
      some ((-1:Int),())
     else
      G1 (t2.1,r3.1,IntKind.i64.wrap (t2.2.2.1+(1:Int)),())
    else
     none
   else
    some (t2.2.1,())) (x.1,IntKind.i64.wrap (x.2.1-((List.length x.1:Nat):Int)),(0:Int),())
def iA (k:Nat) (x:bc×Int×Unit):Option (Int×Unit):=
 Option.bind (dc k (x.1.2,x.2.1,())) fun r1=>
 if(decide ((r1.1:Int)<(0:Int)))=true then
  some ((-1:Int),())
 else
  some (r1.1,())
def om (k:Nat) (x:List bc×Int×Unit):Option (Int×Unit):=
 if(decide (((IntKind.i64.wrap (x.2.1-((List.length x.1:Nat):Int))):Int)<(0:Int)))=true then
  some ((-1:Int),())
 else
  az k (fun G1 (t2:List bc×Int×Int×Unit)=>
   if(decide ((t2.2.2.1:Int)<((List.length t2.1:Nat):Int)))=true then
    if(decide (0≤t2.2.2.1∧t2.2.2.1<((List.length t2.1:Nat):Int)))=true then
     Option.bind (iA k (List.getD t2.1 (Int.toNat t2.2.2.1) ay.aa,t2.2.1,())) fun r3=>
     if(decide ((r3.1:Int)<(0:Int)))=true then
      some ((-1:Int),())
     else
      G1 (t2.1,r3.1,IntKind.i64.wrap (t2.2.2.1+(1:Int)),())
    else
     none
   else
    some (t2.2.1,())) (x.1,IntKind.i64.wrap (x.2.1-((List.length x.1:Nat):Int)),(0:Int),())
def jQ (k:Nat) (x:aG×Int×Unit):Option (Int×Unit):=
 Option.bind (om k (x.1.2.2,x.2.1,())) fun r1=>
 if(decide ((r1.1:Int)<(0:Int)))=true then
  some ((-1:Int),())
 else
  some (r1.1,())
def pC (k:Nat) (x:List aG×Int×Unit):Option (Int×Unit):=
 if(decide (((IntKind.i64.wrap (x.2.1-((List.length x.1:Nat):Int))):Int)<(0:Int)))=true then
  some ((-1:Int),())
 else
  az k (fun G1 (t2:List aG×Int×Int×Unit)=>
   if(decide ((t2.2.2.1:Int)<((List.length t2.1:Nat):Int)))=true then
    if(decide (0≤t2.2.2.1∧t2.2.2.1<((List.length t2.1:Nat):Int)))=true then
     Option.bind (jQ k (List.getD t2.1 (Int.toNat t2.2.2.1) aq.aa,t2.2.1,())) fun r3=>
     if(decide ((r3.1:Int)<(0:Int)))=true then
      some ((-1:Int),())
     else
      G1 (t2.1,r3.1,IntKind.i64.wrap (t2.2.2.1+(1:Int)),())
    else
     none
   else
    some (t2.2.1,())) (x.1,IntKind.i64.wrap (x.2.1-((List.length x.1:Nat):Int)),(0:Int),())
def lj (k:Nat) (x:bF×Int×Unit):Option (Int×Unit):=
 Option.bind (dc k (x.1.1,x.2.1,())) fun r1=>
 if(decide ((r1.1:Int)<(0:Int)))=true then
  some ((-1:Int),())
 else
  some (r1.1,())
def qJ (k:Nat) (x:List bF×Int×Unit):Option (Int×Unit):=
 if(decide (((IntKind.i64.wrap (x.2.1-((List.length x.1:Nat):Int))):Int)<(0:Int)))=true then
  some ((-1:Int),())
 else
  az k (fun G1 (t2:List bF×Int×Int×Unit)=>
   if(decide ((t2.2.2.1:Int)<((List.length t2.1:Nat):Int)))=true then
    if(decide (0≤t2.2.2.1∧t2.2.2.1<((List.length t2.1:Nat):Int)))=true then
     Option.bind (lj k (List.getD t2.1 (Int.toNat t2.2.2.1) aU.aa,t2.2.1,())) fun r3=>
     if(decide ((r3.1:Int)<(0:Int)))=true then
      some ((-1:Int),())
     else
      G1 (t2.1,r3.1,IntKind.i64.wrap (t2.2.2.1+(1:Int)),())
    else
     none
   else
    some (t2.2.1,())) (x.1,IntKind.i64.wrap (x.2.1-((List.length x.1:Nat):Int)),(0:Int),())
def iO (k:Nat) (x:aJ×Int×Unit):Option (Int×Unit):=
 Option.bind (eB k (x.1.2.1,x.2.1,())) fun r1=>
 if(decide ((r1.1:Int)<(0:Int)))=true then
  some ((-1:Int),())
 else
  Option.bind (dc k (x.1.2.2.2.2,r1.1,())) fun r2=>
  if(decide ((r2.1:Int)<(0:Int)))=true then
   some ((-1:Int),())
  else
   some (r2.1,())
def oy (k:Nat) (x:List aJ×Int×Unit):Option (Int×Unit):=
 if(decide (((IntKind.i64.wrap (x.2.1-((List.length x.1:Nat):Int))):Int)<(0:Int)))=true then
  some ((-1:Int),())
 else
  az k (fun G1 (t2:List aJ×Int×Int×Unit)=>
   if(decide ((t2.2.2.1:Int)<((List.length t2.1:Nat):Int)))=true then
    if(decide (0≤t2.2.2.1∧t2.2.2.1<((List.length t2.1:Nat):Int)))=true then
     Option.bind (iO k (List.getD t2.1 (Int.toNat t2.2.2.1) al.aa,t2.2.1,())) fun r3=>
     if(decide ((r3.1:Int)<(0:Int)))=true then
      some ((-1:Int),())
     else
      G1 (t2.1,r3.1,IntKind.i64.wrap (t2.2.2.1+(1:Int)),())
    else
     none
   else
    some (t2.2.1,())) (x.1,IntKind.i64.wrap (x.2.1-((List.length x.1:Nat):Int)),(0:Int),())
def kx (k:Nat) (x:List bl×Int×Unit):Option (Int×Unit):=
 if(decide (((IntKind.i64.wrap (x.2.1-((List.length x.1:Nat):Int))):Int)<(0:Int)))=true then
  some ((-1:Int),())
 else
  some (IntKind.i64.wrap (x.2.1-((List.length x.1:Nat):Int)),())
def iT (k:Nat) (x:bz×Int×Unit):Option (Int×Unit):=
 Option.bind (eB k (x.1.2.1,x.2.1,())) fun r1=>
 if(decide ((r1.1:Int)<(0:Int)))=true then
  some ((-1:Int),())
 else
  Option.bind (dc k (x.1.2.2.2,r1.1,())) fun r2=>
  if(decide ((r2.1:Int)<(0:Int)))=true then
   some ((-1:Int),())
  else
   some (r2.1,())
def oP (k:Nat) (x:List bz×Int×Unit):Option (Int×Unit):=
 if(decide (((IntKind.i64.wrap (x.2.1-((List.length x.1:Nat):Int))):Int)<(0:Int)))=true then
  some ((-1:Int),())
 else
  az k (fun G1 (t2:List bz×Int×Int×Unit)=>
   if(decide ((t2.2.2.1:Int)<((List.length t2.1:Nat):Int)))=true then
    if(decide (0≤t2.2.2.1∧t2.2.2.1<((List.length t2.1:Nat):Int)))=true then
     Option.bind (iT k (List.getD t2.1 (Int.toNat t2.2.2.1) aN.aa,t2.2.1,())) fun r3=>
     if(decide ((r3.1:Int)<(0:Int)))=true then
      some ((-1:Int),())
     else
      G1 (t2.1,r3.1,IntKind.i64.wrap (t2.2.2.1+(1:Int)),())
    else
     none
   else
    some (t2.2.1,())) (x.1,IntKind.i64.wrap (x.2.1-((List.length x.1:Nat):Int)),(0:Int),())
def nc (k:Nat) (x:List Int×Int×Unit):Option (Int×Unit):=
 if(decide (((IntKind.i64.wrap (x.2.1-((List.length x.1:Nat):Int))):Int)<(0:Int)))=true then
  some ((-1:Int),())
 else
  some (IntKind.i64.wrap (x.2.1-((List.length x.1:Nat):Int)),())
def jN (k:Nat) (x:aM×Int×Unit):Option (Int×Unit):=
 Option.bind (eo k (x.1.2.2.1,x.2.1,())) fun r1=>
 if(decide ((r1.1:Int)<(0:Int)))=true then
  some ((-1:Int),())
 else
  Option.bind (eB k (x.1.2.2.2.1,r1.1,())) fun r2=>
  if(decide ((r2.1:Int)<(0:Int)))=true then
   some ((-1:Int),())
  else
   Option.bind (nc k (x.1.2.2.2.2.2.1,r2.1,())) fun r3=>
   if(decide ((r3.1:Int)<(0:Int)))=true then
    some ((-1:Int),())
   else
    Option.bind (dc k (x.1.2.2.2.2.2.2.1,r3.1,())) fun r4=>
    if(decide ((r4.1:Int)<(0:Int)))=true then
     some ((-1:Int),())
    else
     some (r4.1,())
def pI (k:Nat) (x:List aM×Int×Unit):Option (Int×Unit):=
 if(decide (((IntKind.i64.wrap (x.2.1-((List.length x.1:Nat):Int))):Int)<(0:Int)))=true then
  some ((-1:Int),())
 else
  az k (fun G1 (t2:List aM×Int×Int×Unit)=>
   if(decide ((t2.2.2.1:Int)<((List.length t2.1:Nat):Int)))=true then
    if(decide (0≤t2.2.2.1∧t2.2.2.1<((List.length t2.1:Nat):Int)))=true then
     Option.bind (jN k (List.getD t2.1 (Int.toNat t2.2.2.1) ah.aa,t2.2.1,())) fun r3=>
     if(decide ((r3.1:Int)<(0:Int)))=true then
      some ((-1:Int),())
     else
      G1 (t2.1,r3.1,IntKind.i64.wrap (t2.2.2.1+(1:Int)),())
    else
     none
   else
    some (t2.2.1,())) (x.1,IntKind.i64.wrap (x.2.1-((List.length x.1:Nat):Int)),(0:Int),())
def jE (k:Nat) (x:aY×Int×Unit):Option (Int×Unit):=
 Option.bind (eo k (x.1.2.2.1,x.2.1,())) fun r1=>
 if(decide ((r1.1:Int)<(0:Int)))=true then
  some ((-1:Int),())
 else
  Option.bind (eB k (x.1.2.2.2.1,r1.1,())) fun r2=>
  if(decide ((r2.1:Int)<(0:Int)))=true then
   some ((-1:Int),())
  else
   Option.bind (dc k (x.1.2.2.2.2.2.2.2.1,r2.1,())) fun r3=>
   if(decide ((r3.1:Int)<(0:Int)))=true then
    some ((-1:Int),())
   else
    some (r3.1,())
def pG (k:Nat) (x:List aY×Int×Unit):Option (Int×Unit):=
 if(decide (((IntKind.i64.wrap (x.2.1-((List.length x.1:Nat):Int))):Int)<(0:Int)))=true then
  some ((-1:Int),())
 else
  az k (fun G1 (t2:List aY×Int×Int×Unit)=>
   if(decide ((t2.2.2.1:Int)<((List.length t2.1:Nat):Int)))=true then
    if(decide (0≤t2.2.2.1∧t2.2.2.1<((List.length t2.1:Nat):Int)))=true then
     Option.bind (jE k (List.getD t2.1 (Int.toNat t2.2.2.1) ak.aa,t2.2.1,())) fun r3=>
     if(decide ((r3.1:Int)<(0:Int)))=true then
      some ((-1:Int),())
     else
      G1 (t2.1,r3.1,IntKind.i64.wrap (t2.2.2.1+(1:Int)),())
    else
     none
   else
    some (t2.2.1,())) (x.1,IntKind.i64.wrap (x.2.1-((List.length x.1:Nat):Int)),(0:Int),())
def lV (k:Nat) (x:ar×Int×Unit):Option (Int×Unit):=
 Option.bind (np k (x.1.1,x.2.1,())) fun r1=>
 if(decide ((r1.1:Int)<(0:Int)))=true then
  some ((-1:Int),())
 else
  Option.bind (pC k (x.1.2.2.2.1,r1.1,())) fun r2=>
  if(decide ((r2.1:Int)<(0:Int)))=true then
   some ((-1:Int),())
  else
   Option.bind (qJ k (x.1.2.2.2.2.1,r2.1,())) fun r3=>
   if(decide ((r3.1:Int)<(0:Int)))=true then
    some ((-1:Int),())
   else
    Option.bind (dc k (x.1.2.2.2.2.2.1,r3.1,())) fun r4=>
    if(decide ((r4.1:Int)<(0:Int)))=true then
     some ((-1:Int),())
    else
     Option.bind (oy k (x.1.2.2.2.2.2.2.2.1,r4.1,())) fun r5=>
     if(decide ((r5.1:Int)<(0:Int)))=true then
      some ((-1:Int),())
     else
      Option.bind (kx k (x.1.2.2.2.2.2.2.2.2.2.1,r5.1,())) fun r6=>
      if(decide ((r6.1:Int)<(0:Int)))=true then
       some ((-1:Int),())
      else
       Option.bind (oP k (x.1.2.2.2.2.2.2.2.2.2.2.1,r6.1,())) fun r7=>
       if(decide ((r7.1:Int)<(0:Int)))=true then
        some ((-1:Int),())
       else
        Option.bind (dc k (x.1.2.2.2.2.2.2.2.2.2.2.2.1,r7.1,())) fun r8=>
        if(decide ((r8.1:Int)<(0:Int)))=true then
         some ((-1:Int),())
        else
         Option.bind (pI k (x.1.2.2.2.2.2.2.2.2.2.2.2.2.1,r8.1,())) fun r9=>
         if(decide ((r9.1:Int)<(0:Int)))=true then
          some ((-1:Int),())
         else
          Option.bind (pG k (x.1.2.2.2.2.2.2.2.2.2.2.2.2.2,r9.1,())) fun r10=>
          if(decide ((r10.1:Int)<(0:Int)))=true then
           some ((-1:Int),())
          else
           some (r10.1,())
def nx (k:Nat) (x:List ByteArray×Unit):Option (List ByteArray×Unit):=
 if(decide (0≤((List.length x.1:Nat):Int)∧((List.length x.1:Nat):Int)<4294967296∧((List.length x.1:Nat):Int)=((List.length x.1:Nat):Int)))=true then
  az k (fun G1 (t2:List ByteArray×List ByteArray×Int×Unit)=>
   if(decide ((t2.2.2.1:Int)<((List.length t2.1:Nat):Int)))=true then
    if(decide (0≤t2.2.2.1∧t2.2.2.1<((List.length t2.1:Nat):Int)))=true then
     if(decide (0≤t2.2.2.1∧t2.2.2.1<((List.length t2.2.1:Nat):Int)))=true then
      G1 (t2.1,List.set t2.2.1 (Int.toNat t2.2.2.1) (List.getD t2.1 (Int.toNat t2.2.2.1) ByteArray.empty),IntKind.i64.wrap (t2.2.2.1+(1:Int)),())
     else
      none
    else
     none
   else
    some (t2.2.1,())) (x.1,List.replicate (Int.toNat ((List.length x.1:Nat):Int)) ByteArray.empty,(0:Int),())
 else
  none
def ng (k:Nat) (x:cg×Unit):Option (cg×Unit):=
 Option.bind (nx k (x.1.2.2.2.2.2,())) fun r1=>
 some ((x.1.1,x.1.2.1,x.1.2.2.1,x.1.2.2.2.1,x.1.2.2.2.2.1,r1.1),())
def iw (k:Nat) (x:aj×Unit):Option (aj×Unit):=
 some (x.1,())
def eA (k:Nat) (x:List aj×Unit):Option (List aj×Unit):=
 if(decide (0≤((List.length x.1:Nat):Int)∧((List.length x.1:Nat):Int)<4294967296∧((List.length x.1:Nat):Int)=((List.length x.1:Nat):Int)))=true then
  az k (fun G1 (t2:List aj×List aj×Int×Unit)=>
   if(decide ((t2.2.2.1:Int)<((List.length t2.1:Nat):Int)))=true then
    if(decide (0≤t2.2.2.1∧t2.2.2.1<((List.length t2.1:Nat):Int)))=true then
     Option.bind (iw k (List.getD t2.1 (Int.toNat t2.2.2.1) af.aa,())) fun r3=>
     if(decide (0≤t2.2.2.1∧t2.2.2.1<((List.length t2.2.1:Nat):Int)))=true then
      G1 (t2.1,List.set t2.2.1 (Int.toNat t2.2.2.1) r3.1,IntKind.i64.wrap (t2.2.2.1+(1:Int)),())
     else
      none
    else
     none
   else
    some (t2.2.1,())) (x.1,List.replicate (Int.toNat ((List.length x.1:Nat):Int)) af.aa,(0:Int),())
 else
  none
def c9 (k:Nat) (x:ai×Unit):Option (ai×Unit):=
 Option.bind (eA k (x.1.1,())) fun r1=>
 some ((r1.1,x.1.2),())
def df (k:Nat) (x:List ai×Unit):Option (List ai×Unit):=
 if(decide (0≤((List.length x.1:Nat):Int)∧((List.length x.1:Nat):Int)<4294967296∧((List.length x.1:Nat):Int)=((List.length x.1:Nat):Int)))=true then
  az k (fun G1 (t2:List ai×List ai×Int×Unit)=>
   if(decide ((t2.2.2.1:Int)<((List.length t2.1:Nat):Int)))=true then
    if(decide (0≤t2.2.2.1∧t2.2.2.1<((List.length t2.1:Nat):Int)))=true then
     Option.bind (c9 k (List.getD t2.1 (Int.toNat t2.2.2.1) ab.aa,())) fun r3=>
     if(decide (0≤t2.2.2.1∧t2.2.2.1<((List.length t2.2.1:Nat):Int)))=true then
      G1 (t2.1,List.set t2.2.1 (Int.toNat t2.2.2.1) r3.1,IntKind.i64.wrap (t2.2.2.1+(1:Int)),())
     else
      none
    else
     none
   else
    some (t2.2.1,())) (x.1,List.replicate (Int.toNat ((List.length x.1:Nat):Int)) ab.aa,(0:Int),())
 else
  none
def iM (k:Nat) (x:bc×Unit):Option (bc×Unit):=
 Option.bind (df k (x.1.2,())) fun r1=>
 some ((x.1.1,r1.1),())
def oz (k:Nat) (x:List bc×Unit):Option (List bc×Unit):=
 if(decide (0≤((List.length x.1:Nat):Int)∧((List.length x.1:Nat):Int)<4294967296∧((List.length x.1:Nat):Int)=((List.length x.1:Nat):Int)))=true then
  az k (fun G1 (t2:List bc×List bc×Int×Unit)=>
   if(decide ((t2.2.2.1:Int)<((List.length t2.1:Nat):Int)))=true then
    if(decide (0≤t2.2.2.1∧t2.2.2.1<((List.length t2.1:Nat):Int)))=true then
     Option.bind (iM k (List.getD t2.1 (Int.toNat t2.2.2.1) ay.aa,())) fun r3=>
     if(decide (0≤t2.2.2.1∧t2.2.2.1<((List.length t2.2.1:Nat):Int)))=true then
      G1 (t2.1,List.set t2.2.1 (Int.toNat t2.2.2.1) r3.1,IntKind.i64.wrap (t2.2.2.1+(1:Int)),())
     else
      none
    else
     none
   else
    some (t2.2.1,())) (x.1,List.replicate (Int.toNat ((List.length x.1:Nat):Int)) ay.aa,(0:Int),())
 else
  none
def jS (k:Nat) (x:aG×Unit):Option (aG×Unit):=
 Option.bind (oz k (x.1.2.2,())) fun r1=>
 some ((x.1.1,x.1.2.1,r1.1),())
def pA (k:Nat) (x:List aG×Unit):Option (List aG×Unit):=
 if(decide (0≤((List.length x.1:Nat):Int)∧((List.length x.1:Nat):Int)<4294967296∧((List.length x.1:Nat):Int)=((List.length x.1:Nat):Int)))=true then
  az k (fun G1 (t2:List aG×List aG×Int×Unit)=>
   if(decide ((t2.2.2.1:Int)<((List.length t2.1:Nat):Int)))=true then
    if(decide (0≤t2.2.2.1∧t2.2.2.1<((List.length t2.1:Nat):Int)))=true then
     Option.bind (jS k (List.getD t2.1 (Int.toNat t2.2.2.1) aq.aa,())) fun r3=>
     if(decide (0≤t2.2.2.1∧t2.2.2.1<((List.length t2.2.1:Nat):Int)))=true then
      G1 (t2.1,List.set t2.2.1 (Int.toNat t2.2.2.1) r3.1,IntKind.i64.wrap (t2.2.2.1+(1:Int)),())
     else
      none
    else
     none
   else
    some (t2.2.1,())) (x.1,List.replicate (Int.toNat ((List.length x.1:Nat):Int)) aq.aa,(0:Int),())
 else
  none
def kI (k:Nat) (x:bF×Unit):Option (bF×Unit):=
 Option.bind (df k (x.1.1,())) fun r1=>
 some ((r1.1,x.1.2),())
def qH (k:Nat) (x:List bF×Unit):Option (List bF×Unit):=
 if(decide (0≤((List.length x.1:Nat):Int)∧((List.length x.1:Nat):Int)<4294967296∧((List.length x.1:Nat):Int)=((List.length x.1:Nat):Int)))=true then
  az k (fun G1 (t2:List bF×List bF×Int×Unit)=>
   if(decide ((t2.2.2.1:Int)<((List.length t2.1:Nat):Int)))=true then
    if(decide (0≤t2.2.2.1∧t2.2.2.1<((List.length t2.1:Nat):Int)))=true then
     Option.bind (kI k (List.getD t2.1 (Int.toNat t2.2.2.1) aU.aa,())) fun r3=>
     if(decide (0≤t2.2.2.1∧t2.2.2.1<((List.length t2.2.1:Nat):Int)))=true then
      G1 (t2.1,List.set t2.2.1 (Int.toNat t2.2.2.1) r3.1,IntKind.i64.wrap (t2.2.2.1+(1:Int)),())
     else
      none
    else
     none
   else
    some (t2.2.1,())) (x.1,List.replicate (Int.toNat ((List.length x.1:Nat):Int)) aU.aa,(0:Int),())
 else
  none
def iJ (k:Nat) (x:aJ×Unit):Option (aJ×Unit):=
 Option.bind (eA k (x.1.2.1,())) fun r1=>
 Option.bind (df k (x.1.2.2.2.2,())) fun r2=>
 some ((x.1.1,r1.1,x.1.2.2.1,x.1.2.2.2.1,r2.1),())
def oV (k:Nat) (x:List aJ×Unit):Option (List aJ×Unit):=
 if(decide (0≤((List.length x.1:Nat):Int)∧((List.length x.1:Nat):Int)<4294967296∧((List.length x.1:Nat):Int)=((List.length x.1:Nat):Int)))=true then
  az k (fun G1 (t2:List aJ×List aJ×Int×Unit)=>
   if(decide ((t2.2.2.1:Int)<((List.length t2.1:Nat):Int)))=true then
    if(decide (0≤t2.2.2.1∧t2.2.2.1<((List.length t2.1:Nat):Int)))=true then
     Option.bind (iJ k (List.getD t2.1 (Int.toNat t2.2.2.1) al.aa,())) fun r3=>
     if(decide (0≤t2.2.2.1∧t2.2.2.1<((List.length t2.2.1:Nat):Int)))=true then
      G1 (t2.1,List.set t2.2.1 (Int.toNat t2.2.2.1) r3.1,IntKind.i64.wrap (t2.2.2.1+(1:Int)),())
     else
      none
    else
     none
   else
    some (t2.2.1,())) (x.1,List.replicate (Int.toNat ((List.length x.1:Nat):Int)) al.aa,(0:Int),())
 else
  none
def iG (k:Nat) (x:bl×Unit):Option (bl×Unit):=
 some (x.1,())
def oB (k:Nat) (x:List bl×Unit):Option (List bl×Unit):=
 if(decide (0≤((List.length x.1:Nat):Int)∧((List.length x.1:Nat):Int)<4294967296∧((List.length x.1:Nat):Int)=((List.length x.1:Nat):Int)))=true then
  az k (fun G1 (t2:List bl×List bl×Int×Unit)=>
   if(decide ((t2.2.2.1:Int)<((List.length t2.1:Nat):Int)))=true then
    if(decide (0≤t2.2.2.1∧t2.2.2.1<((List.length t2.1:Nat):Int)))=true then
     Option.bind (iG k (List.getD t2.1 (Int.toNat t2.2.2.1) aC.aa,())) fun r3=>
     if(decide (0≤t2.2.2.1∧t2.2.2.1<((List.length t2.2.1:Nat):Int)))=true then
      G1 (t2.1,List.set t2.2.1 (Int.toNat t2.2.2.1) r3.1,IntKind.i64.wrap (t2.2.2.1+(1:Int)),())
     else
      none
    else
     none
   else
    some (t2.2.1,())) (x.1,List.replicate (Int.toNat ((List.length x.1:Nat):Int)) aC.aa,(0:Int),())
 else
  none
def iD (k:Nat) (x:bz×Unit):Option (bz×Unit):=
 Option.bind (eA k (x.1.2.1,())) fun r1=>
 Option.bind (df k (x.1.2.2.2,())) fun r2=>
 some ((x.1.1,r1.1,x.1.2.2.1,r2.1),())
def oZ (k:Nat) (x:List bz×Unit):Option (List bz×Unit):=
 if(decide (0≤((List.length x.1:Nat):Int)∧((List.length x.1:Nat):Int)<4294967296∧((List.length x.1:Nat):Int)=((List.length x.1:Nat):Int)))=true then
  az k (fun G1 (t2:List bz×List bz×Int×Unit)=>
   if(decide ((t2.2.2.1:Int)<((List.length t2.1:Nat):Int)))=true then
    if(decide (0≤t2.2.2.1∧t2.2.2.1<((List.length t2.1:Nat):Int)))=true then
     Option.bind (iD k (List.getD t2.1 (Int.toNat t2.2.2.1) aN.aa,())) fun r3=>
     if(decide (0≤t2.2.2.1∧t2.2.2.1<((List.length t2.2.1:Nat):Int)))=true then
      G1 (t2.1,List.set t2.2.1 (Int.toNat t2.2.2.1) r3.1,IntKind.i64.wrap (t2.2.2.1+(1:Int)),())
     else
      none
    else
     none
   else
    some (t2.2.1,())) (x.1,List.replicate (Int.toNat ((List.length x.1:Nat):Int)) aN.aa,(0:Int),())
 else
  none
def qI (k:Nat) (x:List Int×Unit):Option (List Int×Unit):=
 if(decide (0≤((List.length x.1:Nat):Int)∧((List.length x.1:Nat):Int)<4294967296∧((List.length x.1:Nat):Int)=((List.length x.1:Nat):Int)))=true then
  az k (fun G1 (t2:List Int×List Int×Int×Unit)=>
   if(decide ((t2.2.2.1:Int)<((List.length t2.1:Nat):Int)))=true then
    if(decide (0≤t2.2.2.1∧t2.2.2.1<((List.length t2.1:Nat):Int)))=true then
     if(decide (0≤t2.2.2.1∧t2.2.2.1<((List.length t2.2.1:Nat):Int)))=true then
      G1 (t2.1,List.set t2.2.1 (Int.toNat t2.2.2.1) (List.getD t2.1 (Int.toNat t2.2.2.1) 0),IntKind.i64.wrap (t2.2.2.1+(1:Int)),())
     else
      none
    else
     none
   else
    some (t2.2.1,())) (x.1,List.replicate (Int.toNat ((List.length x.1:Nat):Int)) 0,(0:Int),())
 else
  none
def jJ (k:Nat) (x:aM×Unit):Option (aM×Unit):=
 Option.bind (c9 k (x.1.2.2.1,())) fun r1=>
 Option.bind (eA k (x.1.2.2.2.1,())) fun r2=>
 Option.bind (qI k (x.1.2.2.2.2.2.1,())) fun r3=>
 Option.bind (df k (x.1.2.2.2.2.2.2.1,())) fun r4=>
 some ((x.1.1,x.1.2.1,r1.1,r2.1,x.1.2.2.2.2.1,r3.1,r4.1,x.1.2.2.2.2.2.2.2),())
def pD (k:Nat) (x:List aM×Unit):Option (List aM×Unit):=
 if(decide (0≤((List.length x.1:Nat):Int)∧((List.length x.1:Nat):Int)<4294967296∧((List.length x.1:Nat):Int)=((List.length x.1:Nat):Int)))=true then
  az k (fun G1 (t2:List aM×List aM×Int×Unit)=>
   if(decide ((t2.2.2.1:Int)<((List.length t2.1:Nat):Int)))=true then
    if(decide (0≤t2.2.2.1∧t2.2.2.1<((List.length t2.1:Nat):Int)))=true then
     Option.bind (jJ k (List.getD t2.1 (Int.toNat t2.2.2.1) ah.aa,())) fun r3=>
     if(decide (0≤t2.2.2.1∧t2.2.2.1<((List.length t2.2.1:Nat):Int)))=true then
      G1 (t2.1,List.set t2.2.1 (Int.toNat t2.2.2.1) r3.1,IntKind.i64.wrap (t2.2.2.1+(1:Int)),())
     else
      none
    else
     none
   else
    some (t2.2.1,())) (x.1,List.replicate (Int.toNat ((List.length x.1:Nat):Int)) ah.aa,(0:Int),())
 else
  none
def jW (k:Nat) (x:aY×Unit):Option (aY×Unit):=
 Option.bind (c9 k (x.1.2.2.1,())) fun r1=>
 Option.bind (eA k (x.1.2.2.2.1,())) fun r2=>
 Option.bind (df k (x.1.2.2.2.2.2.2.2.1,())) fun r3=>
 some ((x.1.1,x.1.2.1,r1.1,r2.1,x.1.2.2.2.2.1,x.1.2.2.2.2.2.1,x.1.2.2.2.2.2.2.1,r3.1,x.1.2.2.2.2.2.2.2.2),())
def pH (k:Nat) (x:List aY×Unit):Option (List aY×Unit):=
 if(decide (0≤((List.length x.1:Nat):Int)∧((List.length x.1:Nat):Int)<4294967296∧((List.length x.1:Nat):Int)=((List.length x.1:Nat):Int)))=true then
  az k (fun G1 (t2:List aY×List aY×Int×Unit)=>
   if(decide ((t2.2.2.1:Int)<((List.length t2.1:Nat):Int)))=true then
    if(decide (0≤t2.2.2.1∧t2.2.2.1<((List.length t2.1:Nat):Int)))=true then
     Option.bind (jW k (List.getD t2.1 (Int.toNat t2.2.2.1) ak.aa,())) fun r3=>
     if(decide (0≤t2.2.2.1∧t2.2.2.1<((List.length t2.2.1:Nat):Int)))=true then
      G1 (t2.1,List.set t2.2.1 (Int.toNat t2.2.2.1) r3.1,IntKind.i64.wrap (t2.2.2.1+(1:Int)),())
     else
      none
    else
     none
   else
    some (t2.2.1,())) (x.1,List.replicate (Int.toNat ((List.length x.1:Nat):Int)) ak.aa,(0:Int),())
 else
  none
def eT (k:Nat) (x:ar×Unit):Option (ar×Unit):=
 Option.bind (ng k (x.1.1,())) fun r1=>
 Option.bind (pA k (x.1.2.2.2.1,())) fun r2=>
 Option.bind (qH k (x.1.2.2.2.2.1,())) fun r3=>
 Option.bind (df k (x.1.2.2.2.2.2.1,())) fun r4=>
 Option.bind (oV k (x.1.2.2.2.2.2.2.2.1,())) fun r5=>
 Option.bind (oB k (x.1.2.2.2.2.2.2.2.2.2.1,())) fun r6=>
 Option.bind (oZ k (x.1.2.2.2.2.2.2.2.2.2.2.1,())) fun r7=>
 Option.bind (df k (x.1.2.2.2.2.2.2.2.2.2.2.2.1,())) fun r8=>
 Option.bind (pD k (x.1.2.2.2.2.2.2.2.2.2.2.2.2.1,())) fun r9=>
 Option.bind (pH k (x.1.2.2.2.2.2.2.2.2.2.2.2.2.2,())) fun r10=>
 some ((r1.1,x.1.2.1,x.1.2.2.1,r2.1,r3.1,r4.1,x.1.2.2.2.2.2.2.1,r5.1,x.1.2.2.2.2.2.2.2.2.1,r6.1,r7.1,r8.1,r9.1,r10.1),())
def lA (k:Nat) (x:cg×Unit):Option (cg×Unit):=
 if(decide (List.length ([]:List ByteArray)+List.length x.1.2.2.2.2.2<4294967296))=true then
  some ((x.1.1,x.1.2.1,x.1.2.2.1,x.1.2.2.2.1,x.1.2.2.2.2.1,([]:List ByteArray)++x.1.2.2.2.2.2),())
 else
  none
def dt (k:Nat) (x:ai×Unit):Option (ai×Unit):=
 if(decide (List.length ([]:List aj)+List.length x.1.1<4294967296))=true then
  some ((([]:List aj)++x.1.1,x.1.2),())
 else
  none
def dK (k:Nat) (x:List ai×Unit):Option (List ai×Unit):=
 az k (fun G1 (t2:List ai×List ai×Int×Unit)=>
  if(decide ((t2.2.2.1:Int)<((List.length t2.1:Nat):Int)))=true then
   if(decide (0≤t2.2.2.1∧t2.2.2.1<((List.length t2.1:Nat):Int)))=true then
    Option.bind (dt k (List.getD t2.1 (Int.toNat t2.2.2.1) ab.aa,())) fun r3=>
    if(decide (List.length t2.2.1+List.length ([r3.1]:List ai)<4294967296))=true then
     G1 (t2.1,t2.2.1++([r3.1]:List ai),IntKind.i64.wrap (t2.2.2.1+(1:Int)),())
    else
     none
   else
    none
  else
   some (t2.2.1,())) (x.1,([]:List ai),(0:Int),())
def mQ (k:Nat) (x:bc×Unit):Option (bc×Unit):=
 Option.bind (dK k (x.1.2,())) fun r1=>
 some ((x.1.1,r1.1),())
def jI (k:Nat) (x:aG×Unit):Option (aG×Unit):=
 az k (fun G1 (t2:aG×aG×aG×Int×Unit)=>
  if(decide ((t2.2.2.2.1:Int)<((List.length t2.1.2.2:Nat):Int)))=true then
   if(decide (0≤t2.2.2.2.1∧t2.2.2.2.1<((List.length t2.1.2.2:Nat):Int)))=true then
    Option.bind (mQ k (List.getD t2.1.2.2 (Int.toNat t2.2.2.2.1) ay.aa,())) fun r3=>
    if(decide (List.length t2.2.2.1.2.2+List.length ([r3.1]:List bc)<4294967296))=true then
     G1 (t2.1,t2.2.1,(t2.2.2.1.1,t2.2.2.1.2.1,t2.2.2.1.2.2++([r3.1]:List bc)),IntKind.i64.wrap (t2.2.2.2.1+(1:Int)),())
    else
     none
   else
    none
  else
   some (t2.2.2.1,())) (x.1,(0,0,([]:List bc)),(x.1.1,x.1.2.1,([]:List bc)),(0:Int),())
def qC (k:Nat) (x:List aG×Unit):Option (List aG×Unit):=
 az k (fun G1 (t2:List aG×List aG×Int×Unit)=>
  if(decide ((t2.2.2.1:Int)<((List.length t2.1:Nat):Int)))=true then
   if(decide (0≤t2.2.2.1∧t2.2.2.1<((List.length t2.1:Nat):Int)))=true then
    Option.bind (jI k (List.getD t2.1 (Int.toNat t2.2.2.1) aq.aa,())) fun r3=>
    if(decide (List.length t2.2.1+List.length ([r3.1]:List aG)<4294967296))=true then
     G1 (t2.1,t2.2.1++([r3.1]:List aG),IntKind.i64.wrap (t2.2.2.1+(1:Int)),())
    else
     none
   else
    none
  else
   some (t2.2.1,())) (x.1,([]:List aG),(0:Int),())
def jR (k:Nat) (x:bF×Unit):Option (bF×Unit):=
 Option.bind (dK k (x.1.1,())) fun r1=>
 some ((r1.1,x.1.2),())
def sH (k:Nat) (x:List bF×Unit):Option (List bF×Unit):=
 az k (fun G1 (t2:List bF×List bF×Int×Unit)=>
  if(decide ((t2.2.2.1:Int)<((List.length t2.1:Nat):Int)))=true then
   if(decide (0≤t2.2.2.1∧t2.2.2.1<((List.length t2.1:Nat):Int)))=true then
    Option.bind (jR k (List.getD t2.1 (Int.toNat t2.2.2.1) aU.aa,())) fun r3=>
    if(decide (List.length t2.2.1+List.length ([r3.1]:List bF)<4294967296))=true then
     G1 (t2.1,t2.2.1++([r3.1]:List bF),IntKind.i64.wrap (t2.2.2.1+(1:Int)),())
    else
     none
   else
    none
  else
   some (t2.2.1,())) (x.1,([]:List bF),(0:Int),())
def iK (k:Nat) (x:aJ×Unit):Option (aJ×Unit):=
 if(decide (List.length ([]:List aj)+List.length x.1.2.1<4294967296))=true then
  Option.bind (dK k (x.1.2.2.2.2,())) fun r1=>
  some ((x.1.1,([]:List aj)++x.1.2.1,x.1.2.2.1,x.1.2.2.2.1,r1.1),())
 else
  none
def pd (k:Nat) (x:List aJ×Unit):Option (List aJ×Unit):=
 az k (fun G1 (t2:List aJ×List aJ×Int×Unit)=>
  if(decide ((t2.2.2.1:Int)<((List.length t2.1:Nat):Int)))=true then
   if(decide (0≤t2.2.2.1∧t2.2.2.1<((List.length t2.1:Nat):Int)))=true then
    Option.bind (iK k (List.getD t2.1 (Int.toNat t2.2.2.1) al.aa,())) fun r3=>
    if(decide (List.length t2.2.1+List.length ([r3.1]:List aJ)<4294967296))=true then
     G1 (t2.1,t2.2.1++([r3.1]:List aJ),IntKind.i64.wrap (t2.2.2.1+(1:Int)),())
    else
     none
   else
    none
  else
   some (t2.2.1,())) (x.1,([]:List aJ),(0:Int),())
def gL (k:Nat) (x:bz×Unit):Option (bz×Unit):=
 if(decide (List.length ([]:List aj)+List.length x.1.2.1<4294967296))=true then
  Option.bind (dK k (x.1.2.2.2,())) fun r1=>
  some ((x.1.1,([]:List aj)++x.1.2.1,x.1.2.2.1,r1.1),())
 else
  none
def iz (k:Nat) (x:aM×Unit):Option (aM×Unit):=
 Option.bind (dt k (x.1.2.2.1,())) fun r1=>
 if(decide (List.length ([]:List aj)+List.length x.1.2.2.2.1<4294967296))=true then
  if(decide (List.length ([]:List Int)+List.length x.1.2.2.2.2.2.1<4294967296))=true then
   Option.bind (dK k (x.1.2.2.2.2.2.2.1,())) fun r2=>
   some ((x.1.1,x.1.2.1,r1.1,([]:List aj)++x.1.2.2.2.1,x.1.2.2.2.2.1,([]:List Int)++x.1.2.2.2.2.2.1,r2.1,x.1.2.2.2.2.2.2.2),())
  else
   none
 else
  none
def iZ (k:Nat) (x:aY×Unit):Option (aY×Unit):=
 Option.bind (dt k (x.1.2.2.1,())) fun r1=>
 if(decide (List.length ([]:List aj)+List.length x.1.2.2.2.1<4294967296))=true then
  Option.bind (dK k (x.1.2.2.2.2.2.2.2.1,())) fun r2=>
  some ((x.1.1,x.1.2.1,r1.1,([]:List aj)++x.1.2.2.2.1,x.1.2.2.2.2.1,x.1.2.2.2.2.2.1,x.1.2.2.2.2.2.2.1,r2.1,x.1.2.2.2.2.2.2.2.2),())
 else
  none
def qO (k:Nat) (x:List aY×Unit):Option (List aY×Unit):=
 az k (fun G1 (t2:List aY×List aY×Int×Unit)=>
  if(decide ((t2.2.2.1:Int)<((List.length t2.1:Nat):Int)))=true then
   if(decide (0≤t2.2.2.1∧t2.2.2.1<((List.length t2.1:Nat):Int)))=true then
    Option.bind (iZ k (List.getD t2.1 (Int.toNat t2.2.2.1) ak.aa,())) fun r3=>
    if(decide (List.length t2.2.1+List.length ([r3.1]:List aY)<4294967296))=true then
     G1 (t2.1,t2.2.1++([r3.1]:List aY),IntKind.i64.wrap (t2.2.2.1+(1:Int)),())
    else
     none
   else
    none
  else
   some (t2.2.1,())) (x.1,([]:List aY),(0:Int),())
def mb (k:Nat) (x:ar×Unit):Option (ar×Unit):=
 Option.bind (lA k (x.1.1,())) fun r1=>
 Option.bind (qC k (x.1.2.2.2.1,())) fun r2=>
 Option.bind (sH k (x.1.2.2.2.2.1,())) fun r3=>
 Option.bind (dK k (x.1.2.2.2.2.2.1,())) fun r4=>
 Option.bind (pd k (x.1.2.2.2.2.2.2.2.1,())) fun r5=>
 if(decide (List.length ([]:List bl)+List.length x.1.2.2.2.2.2.2.2.2.2.1<4294967296))=true then
  aO (fun J6=>
   az k (fun G8 (t9:ar×ar×ar×cg×Int×Unit)=>
    if(decide ((t9.2.2.2.2.1:Int)<((List.length t9.1.2.2.2.2.2.2.2.2.2.2.1:Nat):Int)))=true then
     if(decide (0≤t9.2.2.2.2.1∧t9.2.2.2.2.1<((List.length t9.1.2.2.2.2.2.2.2.2.2.2.1:Nat):Int)))=true then
      Option.bind (gL k (List.getD t9.1.2.2.2.2.2.2.2.2.2.2.1 (Int.toNat t9.2.2.2.2.1) aN.aa,())) fun r10=>
      if(decide (List.length t9.2.2.1.2.2.2.2.2.2.2.2.2.2.1+List.length ([r10.1]:List bz)<4294967296))=true then
       G8 (t9.1,t9.2.1,(t9.2.2.1.1,t9.2.2.1.2.1,t9.2.2.1.2.2.1,t9.2.2.1.2.2.2.1,t9.2.2.1.2.2.2.2.1,t9.2.2.1.2.2.2.2.2.1,t9.2.2.1.2.2.2.2.2.2.1,t9.2.2.1.2.2.2.2.2.2.2.1,t9.2.2.1.2.2.2.2.2.2.2.2.1,t9.2.2.1.2.2.2.2.2.2.2.2.2.1,t9.2.2.1.2.2.2.2.2.2.2.2.2.2.1++([r10.1]:List bz),t9.2.2.1.2.2.2.2.2.2.2.2.2.2.2),t9.2.2.2.1,IntKind.i64.wrap (t9.2.2.2.2.1+(1:Int)),())
      else
       none
     else
      none
    else
     J6 (t9.1,t9.2.1,t9.2.2.1,t9.2.2.2.1,())) (x.1,((0,0,0,0,0,([]:List ByteArray)),0,0,([]:List aG),([]:List bF),([]:List ai),0,([]:List aJ),0,([]:List bl),([]:List bz),([]:List ai),([]:List aM),([]:List aY)),(r1.1,x.1.2.1,x.1.2.2.1,r2.1,r3.1,r4.1,x.1.2.2.2.2.2.2.1,r5.1,x.1.2.2.2.2.2.2.2.2.1,([]:List bl)++x.1.2.2.2.2.2.2.2.2.2.1,([]:List bz),x.1.2.2.2.2.2.2.2.2.2.2.2),r1.1,(0:Int),())) (fun(t7:ar×ar×ar×cg×Unit)=>
   Option.bind (dK k (t7.1.2.2.2.2.2.2.2.2.2.2.2.1,())) fun r11=>
   aO (fun J12=>
    az k (fun G14 (t15:ar×ar×ar×cg×Int×Unit)=>
     if(decide ((t15.2.2.2.2.1:Int)<((List.length t15.1.2.2.2.2.2.2.2.2.2.2.2.2.1:Nat):Int)))=true then
      if(decide (0≤t15.2.2.2.2.1∧t15.2.2.2.2.1<((List.length t15.1.2.2.2.2.2.2.2.2.2.2.2.2.1:Nat):Int)))=true then
       Option.bind (iz k (List.getD t15.1.2.2.2.2.2.2.2.2.2.2.2.2.1 (Int.toNat t15.2.2.2.2.1) ah.aa,())) fun r16=>
       if(decide (List.length t15.2.2.1.2.2.2.2.2.2.2.2.2.2.2.2.1+List.length ([r16.1]:List aM)<4294967296))=true then
        G14 (t15.1,t15.2.1,(t15.2.2.1.1,t15.2.2.1.2.1,t15.2.2.1.2.2.1,t15.2.2.1.2.2.2.1,t15.2.2.1.2.2.2.2.1,t15.2.2.1.2.2.2.2.2.1,t15.2.2.1.2.2.2.2.2.2.1,t15.2.2.1.2.2.2.2.2.2.2.1,t15.2.2.1.2.2.2.2.2.2.2.2.1,t15.2.2.1.2.2.2.2.2.2.2.2.2.1,t15.2.2.1.2.2.2.2.2.2.2.2.2.2.1,t15.2.2.1.2.2.2.2.2.2.2.2.2.2.2.1,t15.2.2.1.2.2.2.2.2.2.2.2.2.2.2.2.1++([r16.1]:List aM),t15.2.2.1.2.2.2.2.2.2.2.2.2.2.2.2.2),t15.2.2.2.1,IntKind.i64.wrap (t15.2.2.2.2.1+(1:Int)),())
       else
        none
      else
       none
     else
      J12 (t15.1,t15.2.1,t15.2.2.1,t15.2.2.2.1,())) (t7.1,t7.2.1,(t7.2.2.1.1,t7.2.2.1.2.1,t7.2.2.1.2.2.1,t7.2.2.1.2.2.2.1,t7.2.2.1.2.2.2.2.1,t7.2.2.1.2.2.2.2.2.1,t7.2.2.1.2.2.2.2.2.2.1,t7.2.2.1.2.2.2.2.2.2.2.1,t7.2.2.1.2.2.2.2.2.2.2.2.1,t7.2.2.1.2.2.2.2.2.2.2.2.2.1,t7.2.2.1.2.2.2.2.2.2.2.2.2.2.1,r11.1,([]:List aM),t7.2.2.1.2.2.2.2.2.2.2.2.2.2.2.2.2),t7.2.2.2.1,(0:Int),())) (fun(t13:ar×ar×ar×cg×Unit)=>
    Option.bind (qO k (t13.1.2.2.2.2.2.2.2.2.2.2.2.2.2,())) fun r17=>
    some ((t13.2.2.1.1,t13.2.2.1.2.1,t13.2.2.1.2.2.1,t13.2.2.1.2.2.2.1,t13.2.2.1.2.2.2.2.1,t13.2.2.1.2.2.2.2.2.1,t13.2.2.1.2.2.2.2.2.2.1,t13.2.2.1.2.2.2.2.2.2.2.1,t13.2.2.1.2.2.2.2.2.2.2.2.1,t13.2.2.1.2.2.2.2.2.2.2.2.2.1,t13.2.2.1.2.2.2.2.2.2.2.2.2.2.1,t13.2.2.1.2.2.2.2.2.2.2.2.2.2.2.1,t13.2.2.1.2.2.2.2.2.2.2.2.2.2.2.2.1,r17.1),())))
 else
  none
def bE (k:Nat) (x:Int×Int×Int×Unit):Option (Bool×Unit):=
 some (if(decide ((x.1:Int)≥x.2.1))=true then decide ((x.1:Int)≤x.2.2.1)else false,())
def jO (k:Nat) (x:ByteArray×Unit):Option (Bool×Unit):=
 aO (fun J1=>
  az k (fun G3 (t4:ByteArray×Int×Unit)=>
   if(decide ((t4.2.1:Int)<((ByteArray.size t4.1:Nat):Int)))=true then
    if(decide (0≤t4.2.1∧t4.2.1<((ByteArray.size t4.1:Nat):Int)))=true then
     if(!(((decide (((bt t4.1 t4.2.1):Int)<(97:Int))):Bool)==false)||(decide (0≤t4.2.1∧t4.2.1<((ByteArray.size t4.1:Nat):Int))))=true then
      if(if(decide (((bt t4.1 t4.2.1):Int)<(97:Int)))=true then true else decide (((bt t4.1 t4.2.1):Int)>(122:Int)))=true then
       some (false,())
      else
       G3 (t4.1,IntKind.i64.wrap (t4.2.1+(1:Int)),())
     else
      none
    else
     none
   else
    J1 (t4.1,())) (x.1,(0:Int),())) (fun(t2:ByteArray×Unit)=>
  Option.bind (bE k (((ByteArray.size t2.1:Nat):Int),(1:Int),(8:Int),())) fun r5=>
  some (r5.1,()))
def fb (k:Nat) (x:ByteArray×ByteArray×Unit):Option (Bool×Unit):=
 some (Op.bytesLess (ByteArray.toList x.1) (ByteArray.toList x.2.1),())
def fT (k:Nat) (x:List ByteArray×Unit):Option (Bool×Unit):=
 az k (fun G1 (t2:List ByteArray×Int×Unit)=>
  if(decide ((t2.2.1:Int)<((List.length t2.1:Nat):Int)))=true then
   if(decide (0≤(IntKind.i64.wrap (t2.2.1-(1:Int)))∧(IntKind.i64.wrap (t2.2.1-(1:Int)))<((List.length t2.1:Nat):Int)))=true then
    if(decide (0≤t2.2.1∧t2.2.1<((List.length t2.1:Nat):Int)))=true then
     Option.bind (fb k (List.getD t2.1 (Int.toNat (IntKind.i64.wrap (t2.2.1-(1:Int)))) ByteArray.empty,List.getD t2.1 (Int.toNat t2.2.1) ByteArray.empty,())) fun r3=>
     if(!r3.1)=true then
      some (false,())
     else
      G1 (t2.1,IntKind.i64.wrap (t2.2.1+(1:Int)),())
    else
     none
   else
    none
  else
   some (true,())) (x.1,(1:Int),())
def qa (k:Nat) (x:List ByteArray×Unit):Option (Bool×Unit):=
 aO (fun J1=>
  az k (fun G3 (t4:List ByteArray×Int×Unit)=>
   if(decide ((t4.2.1:Int)<((List.length t4.1:Nat):Int)))=true then
    if(decide (0≤t4.2.1∧t4.2.1<((List.length t4.1:Nat):Int)))=true then
     Option.bind (jO k (List.getD t4.1 (Int.toNat t4.2.1) ByteArray.empty,())) fun r5=>
     if(!r5.1)=true then
      some (false,())
     else
      G3 (t4.1,IntKind.i64.wrap (t4.2.1+(1:Int)),())
    else
     none
   else
    J1 (t4.1,())) (x.1,(0:Int),())) (fun(t2:List ByteArray×Unit)=>
  Option.bind ((if(((decide ((((List.length t2.1:Nat):Int):Int)≤(2:Int))):Bool)==true)=true then fT k (t2.1,())else some (false,()))) fun r6=>
  some (if(decide ((((List.length t2.1:Nat):Int):Int)≤(2:Int)))=true then r6.1 else false,()))
def mO (k:Nat) (x:cg×Unit):Option (Bool×Unit):=
 Option.bind (bE k (x.1.1,(1:Int),(3:Int),())) fun r1=>
 Option.bind ((if((r1.1:Bool)==true)=true then bE k (x.1.2.1,(1:Int),(8:Int),())else some (false,()))) fun r2=>
 Option.bind ((if(((if r1.1=true then r2.1 else false):Bool)==true)=true then bE k (x.1.2.2.1,(1:Int),(2:Int),())else some (false,()))) fun r3=>
 Option.bind ((if(((if(if r1.1=true then r2.1 else false)=true then r3.1 else false):Bool)==true)=true then bE k (x.1.2.2.2.1,(1:Int),(9:Int),())else some (false,()))) fun r4=>
 Option.bind ((if(((if(if(if r1.1=true then r2.1 else false)=true then r3.1 else false)=true then r4.1 else false):Bool)==true)=true then bE k (x.1.2.2.2.2.1,(1:Int),(9:Int),())else some (false,()))) fun r5=>
 Option.bind ((if(((if(if(if(if r1.1=true then r2.1 else false)=true then r3.1 else false)=true then r4.1 else false)=true then r5.1 else false):Bool)==true)=true then qa k (x.1.2.2.2.2.2,())else some (false,()))) fun r6=>
 some (if(if(if(if(if r1.1=true then r2.1 else false)=true then r3.1 else false)=true then r4.1 else false)=true then r5.1 else false)=true then r6.1 else false,())
def iS (k:Nat) (x:ByteArray×Unit):Option (Bool×Unit):=
 aO (fun J1=>
  az k (fun G3 (t4:ByteArray×Int×Unit)=>
   if(decide ((t4.2.1:Int)<((ByteArray.size t4.1:Nat):Int)))=true then
    if(decide (0≤t4.2.1∧t4.2.1<((ByteArray.size t4.1:Nat):Int)))=true then
     if(!(((decide (((bt t4.1 t4.2.1):Int)<(32:Int))):Bool)==false)||(decide (0≤t4.2.1∧t4.2.1<((ByteArray.size t4.1:Nat):Int))))=true then
      if(!(((if(decide (((bt t4.1 t4.2.1):Int)<(32:Int)))=true then true else decide (((bt t4.1 t4.2.1):Int)>(126:Int))):Bool)==false)||(decide (0≤t4.2.1∧t4.2.1<((ByteArray.size t4.1:Nat):Int))))=true then
       if(!(((if(if(decide (((bt t4.1 t4.2.1):Int)<(32:Int)))=true then true else decide (((bt t4.1 t4.2.1):Int)>(126:Int)))=true then true else((bt t4.1 t4.2.1):Int)==(34:Int)):Bool)==false)||(decide (0≤t4.2.1∧t4.2.1<((ByteArray.size t4.1:Nat):Int))))=true then
        if(if(if(if(decide (((bt t4.1 t4.2.1):Int)<(32:Int)))=true then true else decide (((bt t4.1 t4.2.1):Int)>(126:Int)))=true then true else((bt t4.1 t4.2.1):Int)==(34:Int))=true then true else((bt t4.1 t4.2.1):Int)==(92:Int))=true then
         some (false,())
        else
         G3 (t4.1,IntKind.i64.wrap (t4.2.1+(1:Int)),())
       else
        none
      else
       none
     else
      none
    else
     none
   else
    J1 (t4.1,())) (x.1,(0:Int),())) (fun(t2:ByteArray×Unit)=>
  some (decide ((((ByteArray.size t2.1:Nat):Int):Int)≤(12:Int)),()))
def lT (k:Nat) (x:aj×Unit):Option (Bool×Unit):=
 Option.bind (jO k (x.1.1,())) fun r1=>
 Option.bind ((if((r1.1:Bool)==true)=true then iS k (x.1.2,())else some (false,()))) fun r2=>
 some (if r1.1=true then r2.1 else false,())
def gk (k:Nat) (x:List aj×Unit):Option (Bool×Unit):=
 aO (fun J1=>
  az k (fun G3 (t4:List aj×Int×Unit)=>
   if(decide ((t4.2.1:Int)<((List.length t4.1:Nat):Int)))=true then
    if(decide (0≤t4.2.1∧t4.2.1<((List.length t4.1:Nat):Int)))=true then
     Option.bind (lT k (List.getD t4.1 (Int.toNat t4.2.1) af.aa,())) fun r5=>
     if(!((((!r5.1):Bool)==false)&&(((decide ((t4.2.1:Int)>(0:Int))):Bool)==true))||(decide (0≤(IntKind.i64.wrap (t4.2.1-(1:Int)))∧(IntKind.i64.wrap (t4.2.1-(1:Int)))<((List.length t4.1:Nat):Int))))=true then
      if(!((((!r5.1):Bool)==false)&&(((decide ((t4.2.1:Int)>(0:Int))):Bool)==true))||(decide (0≤t4.2.1∧t4.2.1<((List.length t4.1:Nat):Int))))=true then
       Option.bind ((if((((!r5.1):Bool)==false)&&(((decide ((t4.2.1:Int)>(0:Int))):Bool)==true))=true then fb k ((List.getD t4.1 (Int.toNat (IntKind.i64.wrap (t4.2.1-(1:Int)))) af.aa).1,(List.getD t4.1 (Int.toNat t4.2.1) af.aa).1,())else some (false,()))) fun r6=>
       if(if(!r5.1)=true then true else if(decide ((t4.2.1:Int)>(0:Int)))=true then !r6.1 else false)=true then
        some (false,())
       else
        G3 (t4.1,IntKind.i64.wrap (t4.2.1+(1:Int)),())
      else
       none
     else
      none
    else
     none
   else
    J1 (t4.1,())) (x.1,(0:Int),())) (fun(t2:List aj×Unit)=>
  some (decide ((((List.length t2.1:Nat):Int):Int)≤(4:Int)),()))
def dw (k:Nat) (x:ai×Unit):Option (Bool×Unit):=
 Option.bind (gk k (x.1.1,())) fun r1=>
 Option.bind ((if(((if r1.1=true then decide ((((List.length x.1.1:Nat):Int):Int)>(0:Int))else false):Bool)==true)=true then bE k (x.1.2.1,(0:Int),(99999:Int),())else some (false,()))) fun r2=>
 Option.bind ((if(((if(if r1.1=true then decide ((((List.length x.1.1:Nat):Int):Int)>(0:Int))else false)=true then r2.1 else false):Bool)==true)=true then bE k (x.1.2.2.1,x.1.2.1,(99999:Int),())else some (false,()))) fun r3=>
 Option.bind ((if(((if(if(if r1.1=true then decide ((((List.length x.1.1:Nat):Int):Int)>(0:Int))else false)=true then r2.1 else false)=true then r3.1 else false):Bool)==true)=true then iS k (x.1.2.2.2,())else some (false,()))) fun r4=>
 some (if(if(if(if r1.1=true then decide ((((List.length x.1.1:Nat):Int):Int)>(0:Int))else false)=true then r2.1 else false)=true then r3.1 else false)=true then r4.1 else false,())
def lW (k:Nat) (x:List aj×Unit):Option (ByteArray×Unit):=
 Option.bind (gk k (x.1,())) fun r1=>
 if(!r1.1)=true then
  some ((⟨#[]⟩:ByteArray),())
 else
  aO (fun J2=>
   az k (fun G4 (t5:List aj×ByteArray×Int×Unit)=>
    if(decide ((t5.2.2.1:Int)<((List.length t5.1:Nat):Int)))=true then
     aO (fun J6=>
      if(decide ((t5.2.2.1:Int)>(0:Int)))=true then
       if(decide ((t5.2.1).size+((⟨#[44,32]⟩:ByteArray)).size<4294967296))=true then
        J6 (t5.1,t5.2.1++(⟨#[44,32]⟩:ByteArray),t5.2.2.1,())
       else
        none
      else
       J6 (t5.1,t5.2.1,t5.2.2.1,())) (fun(t7:List aj×ByteArray×Int×Unit)=>
      if(decide (0≤t7.2.2.1∧t7.2.2.1<((List.length t7.1:Nat):Int)))=true then
       if(decide ((t7.2.1).size+(((List.getD t7.1 (Int.toNat t7.2.2.1) af.aa).1)).size<4294967296))=true then
        if(decide (((t7.2.1++((List.getD t7.1 (Int.toNat t7.2.2.1) af.aa).1))).size+((⟨#[61,34]⟩:ByteArray)).size<4294967296))=true then
         if(decide (0≤t7.2.2.1∧t7.2.2.1<((List.length t7.1:Nat):Int)))=true then
          if(decide ((((t7.2.1++((List.getD t7.1 (Int.toNat t7.2.2.1) af.aa).1))++(⟨#[61,34]⟩:ByteArray))).size+(((List.getD t7.1 (Int.toNat t7.2.2.1) af.aa).2)).size<4294967296))=true then
           if(decide (((((t7.2.1++((List.getD t7.1 (Int.toNat t7.2.2.1) af.aa).1))++(⟨#[61,34]⟩:ByteArray))++((List.getD t7.1 (Int.toNat t7.2.2.1) af.aa).2))).size+((⟨#[34]⟩:ByteArray)).size<4294967296))=true then
            G4 (t7.1,(((t7.2.1++((List.getD t7.1 (Int.toNat t7.2.2.1) af.aa).1))++(⟨#[61,34]⟩:ByteArray))++((List.getD t7.1 (Int.toNat t7.2.2.1) af.aa).2))++(⟨#[34]⟩:ByteArray),IntKind.i64.wrap (t7.2.2.1+(1:Int)),())
           else
            none
          else
           none
         else
          none
        else
         none
       else
        none
      else
       none)
    else
     J2 (t5.2.1,())) (x.1,(⟨#[123]⟩:ByteArray),(0:Int),())) (fun(t3:ByteArray×Unit)=>
   if(decide ((t3.1).size+((⟨#[125]⟩:ByteArray)).size<4294967296))=true then
    some (t3.1++(⟨#[125]⟩:ByteArray),())
   else
    none)
def ji (k:Nat) (x:ByteArray×Unit):Option (Int×Unit):=
 az k (fun G1 (t2:ByteArray×Int×Int×Unit)=>
  if(decide ((t2.2.2.1:Int)<((ByteArray.size t2.1:Nat):Int)))=true then
   if(decide (0≤t2.2.2.1∧t2.2.2.1<((ByteArray.size t2.1:Nat):Int)))=true then
    G1 (t2.1,bits (fun _=>(· &&& ·)) .i64 (IntKind.i64.wrap ((bits (fun _=>(·^^^·)) .i64 t2.2.1 (IntKind.i64.wrap (bt t2.1 t2.2.2.1)))*(16777619:Int))) (4294967295:Int),IntKind.i64.wrap (t2.2.2.1+(1:Int)),())
   else
    none
  else
   some (t2.2.1,())) (x.1,(2166136261:Int),(0:Int),())
def dP (k:Nat) (x:List aj×Unit):Option (Int×Unit):=
 Option.bind (lW k (x.1,())) fun r1=>
 Option.bind (ji k (r1.1,())) fun r2=>
 if(decide (0≤(16:Int)))=true then
  if(decide ((32:Int)≠0))=true then
   some (Int.tmod (bits (fun _=>(·^^^·)) .i64 r2.1 (Int.fdiv r2.1 (2^(min (Int.toNat (16:Int)) IntKind.i64.bits)))) (32:Int),())
  else
   none
 else
  none
def cL (k:Nat) (x:List aj×List aj×Unit):Option (Bool×Unit):=
 if((((List.length x.1:Nat):Int):Int) != ((List.length x.2.1:Nat):Int))=true then
  some (false,())
 else
  az k (fun G1 (t2:List aj×List aj×Int×Unit)=>
   if(decide ((t2.2.2.1:Int)<((List.length t2.1:Nat):Int)))=true then
    if(decide (0≤t2.2.2.1∧t2.2.2.1<((List.length t2.1:Nat):Int)))=true then
     if(decide (0≤t2.2.2.1∧t2.2.2.1<((List.length t2.2.1:Nat):Int)))=true then
      if(!(eqv af (List.getD t2.1 (Int.toNat t2.2.2.1) af.aa) (List.getD t2.2.1 (Int.toNat t2.2.2.1) af.aa)))=true then
       some (false,())
      else
       G1 (t2.1,t2.2.1,IntKind.i64.wrap (t2.2.2.1+(1:Int)),())
     else
      none
    else
     none
   else
    some (true,())) (x.1,x.2.1,(0:Int),())
def me (k:Nat) (x:bc×Unit):Option (Bool×Unit):=
 aO (fun J1=>
  az k (fun G3 (t4:bc×Int×Unit)=>
   if(decide ((t4.2.1:Int)<((List.length t4.1.2:Nat):Int)))=true then
    if(decide (0≤t4.2.1∧t4.2.1<((List.length t4.1.2:Nat):Int)))=true then
     Option.bind (dw k (List.getD t4.1.2 (Int.toNat t4.2.1) ab.aa,())) fun r5=>
     if(!(((!r5.1):Bool)==false)||(decide (0≤t4.2.1∧t4.2.1<((List.length t4.1.2:Nat):Int))))=true then
      Option.bind ((if(((!r5.1):Bool)==false)=true then dP k ((List.getD t4.1.2 (Int.toNat t4.2.1) ab.aa).1,())else some (0,()))) fun r6=>
      if(if(!r5.1)=true then true else(r6.1:Int) != t4.1.1)=true then
       some (false,())
      else
       az k (fun G7 (t8:bc×Int×Int×Unit)=>
        if(decide ((t8.2.2.1:Int)<t8.2.1))=true then
         if(decide (0≤t8.2.2.1∧t8.2.2.1<((List.length t8.1.2:Nat):Int)))=true then
          if(decide (0≤t8.2.1∧t8.2.1<((List.length t8.1.2:Nat):Int)))=true then
           Option.bind (cL k ((List.getD t8.1.2 (Int.toNat t8.2.2.1) ab.aa).1,(List.getD t8.1.2 (Int.toNat t8.2.1) ab.aa).1,())) fun r9=>
           if r9.1=true then
            some (false,())
           else
            G7 (t8.1,t8.2.1,IntKind.i64.wrap (t8.2.2.1+(1:Int)),())
          else
           none
         else
          none
        else
         G3 (t8.1,IntKind.i64.wrap (t8.2.1+(1:Int)),())) (t4.1,t4.2.1,(0:Int),())
     else
      none
    else
     none
   else
    J1 (t4.1,())) (x.1,(0:Int),())) (fun(t2:bc×Unit)=>
  some (decide ((((List.length t2.1.2:Nat):Int):Int)>(0:Int)),()))
def eJ (k:Nat) (x:Int×Int×Unit):Option (Int×Unit):=
 if(if(decide ((x.2.1:Int)<(1:Int)))=true then true else decide ((x.1:Int)<(0:Int)))=true then
  some ((0:Int),())
 else
  if(decide (x.2.1≠0))=true then
   some (Int.tmod x.1 x.2.1,())
  else
   none
def mU (k:Nat) (x:aG×Int×Int×Unit):Option (Bool×Unit):=
 aO (fun J1=>
  az k (fun G3 (t4:Int×Int×aG×Int×Unit)=>
   if(decide ((t4.2.2.2.1:Int)<((List.length t4.2.2.1.2.2:Nat):Int)))=true then
    if(decide (0≤t4.2.2.2.1∧t4.2.2.2.1<((List.length t4.2.2.1.2.2:Nat):Int)))=true then
     Option.bind (me k (List.getD t4.2.2.1.2.2 (Int.toNat t4.2.2.2.1) ay.aa,())) fun r5=>
     if(!((((!r5.1):Bool)==false)&&(((decide ((t4.2.2.2.1:Int)>(0:Int))):Bool)==true))||(decide (0≤(IntKind.i64.wrap (t4.2.2.2.1-(1:Int)))∧(IntKind.i64.wrap (t4.2.2.2.1-(1:Int)))<((List.length t4.2.2.1.2.2:Nat):Int))))=true then
      if(!((((!r5.1):Bool)==false)&&(((decide ((t4.2.2.2.1:Int)>(0:Int))):Bool)==true))||(decide (0≤t4.2.2.2.1∧t4.2.2.2.1<((List.length t4.2.2.1.2.2:Nat):Int))))=true then
       if(!(((if(!r5.1)=true then true else if(decide ((t4.2.2.2.1:Int)>(0:Int)))=true then decide ((((List.getD t4.2.2.1.2.2 (Int.toNat (IntKind.i64.wrap (t4.2.2.2.1-(1:Int)))) ay.aa).1):Int)≥((List.getD t4.2.2.1.2.2 (Int.toNat t4.2.2.2.1) ay.aa).1))else false):Bool)==false)||(decide (0≤t4.2.2.2.1∧t4.2.2.2.1<((List.length t4.2.2.1.2.2:Nat):Int))))=true then
        Option.bind ((if(((if(!r5.1)=true then true else if(decide ((t4.2.2.2.1:Int)>(0:Int)))=true then decide ((((List.getD t4.2.2.1.2.2 (Int.toNat (IntKind.i64.wrap (t4.2.2.2.1-(1:Int)))) ay.aa).1):Int)≥((List.getD t4.2.2.1.2.2 (Int.toNat t4.2.2.2.1) ay.aa).1))else false):Bool)==false)=true then eJ k ((List.getD t4.2.2.1.2.2 (Int.toNat t4.2.2.2.1) ay.aa).1,t4.2.1,())else some (0,()))) fun r6=>
        if(if(if(!r5.1)=true then true else if(decide ((t4.2.2.2.1:Int)>(0:Int)))=true then decide ((((List.getD t4.2.2.1.2.2 (Int.toNat (IntKind.i64.wrap (t4.2.2.2.1-(1:Int)))) ay.aa).1):Int)≥((List.getD t4.2.2.1.2.2 (Int.toNat t4.2.2.2.1) ay.aa).1))else false)=true then true else(r6.1:Int) != t4.1)=true then
         some (false,())
        else
         G3 (t4.1,t4.2.1,t4.2.2.1,IntKind.i64.wrap (t4.2.2.2.1+(1:Int)),())
       else
        none
      else
       none
     else
      none
    else
     none
   else
    J1 (t4.2.2.1,())) (x.2.1,x.2.2.1,x.1,(0:Int),())) (fun(t2:aG×Unit)=>
  Option.bind (bE k (t2.1.1,(-1:Int),(4:Int),())) fun r7=>
  some (if r7.1=true then decide ((t2.1.2.1:Int)≥(0:Int))else false,()))
def lP (k:Nat) (x:List aG×Unit):Option (Bool×Unit):=
 aO (fun J1=>
  az k (fun G3 (t4:List aG×Int×Unit)=>
   if(decide ((t4.2.1:Int)<((List.length t4.1:Nat):Int)))=true then
    if(decide (0≤t4.2.1∧t4.2.1<((List.length t4.1:Nat):Int)))=true then
     Option.bind (mU k (List.getD t4.1 (Int.toNat t4.2.1) aq.aa,t4.2.1,((List.length t4.1:Nat):Int),())) fun r5=>
     if(!r5.1)=true then
      some (false,())
     else
      G3 (t4.1,IntKind.i64.wrap (t4.2.1+(1:Int)),())
    else
     none
   else
    J1 (t4.1,())) (x.1,(0:Int),())) (fun(t2:List aG×Unit)=>
  Option.bind (bE k (((List.length t2.1:Nat):Int),(1:Int),(3:Int),())) fun r6=>
  some (r6.1,()))
def gZ (k:Nat) (x:aG×Unit):Option (List ai×Unit):=
 az k (fun G1 (t2:aG×List ai×Int×Unit)=>
  if(decide ((t2.2.2.1:Int)<((List.length t2.1.2.2:Nat):Int)))=true then
   if(decide (0≤t2.2.2.1∧t2.2.2.1<((List.length t2.1.2.2:Nat):Int)))=true then
    Option.bind (dK k ((List.getD t2.1.2.2 (Int.toNat t2.2.2.1) ay.aa).2,())) fun r3=>
    if(decide (List.length t2.2.1+List.length r3.1<4294967296))=true then
     G1 (t2.1,t2.2.1++r3.1,IntKind.i64.wrap (t2.2.2.1+(1:Int)),())
    else
     none
   else
    none
  else
   some (t2.2.1,())) (x.1,([]:List ai),(0:Int),())
def iC (k:Nat) (x:List aj×List aj×Unit):Option (Bool×Unit):=
 aO (fun J1=>
  az k (fun G3 (t4:List aj×List aj×Int×Unit)=>
   if(if(decide ((t4.2.2.1:Int)<((List.length t4.1:Nat):Int)))=true then decide ((t4.2.2.1:Int)<((List.length t4.2.1:Nat):Int))else false)=true then
    if(decide (0≤t4.2.2.1∧t4.2.2.1<((List.length t4.1:Nat):Int)))=true then
     if(decide (0≤t4.2.2.1∧t4.2.2.1<((List.length t4.2.1:Nat):Int)))=true then
      if(!(ByteArray.toList ((List.getD t4.1 (Int.toNat t4.2.2.1) af.aa).1)==ByteArray.toList ((List.getD t4.2.1 (Int.toNat t4.2.2.1) af.aa).1)))=true then
       if(decide (0≤t4.2.2.1∧t4.2.2.1<((List.length t4.1:Nat):Int)))=true then
        if(decide (0≤t4.2.2.1∧t4.2.2.1<((List.length t4.2.1:Nat):Int)))=true then
         Option.bind (fb k ((List.getD t4.1 (Int.toNat t4.2.2.1) af.aa).1,(List.getD t4.2.1 (Int.toNat t4.2.2.1) af.aa).1,())) fun r5=>
         some (r5.1,())
        else
         none
       else
        none
      else
       if(decide (0≤t4.2.2.1∧t4.2.2.1<((List.length t4.1:Nat):Int)))=true then
        if(decide (0≤t4.2.2.1∧t4.2.2.1<((List.length t4.2.1:Nat):Int)))=true then
         if(!(ByteArray.toList ((List.getD t4.1 (Int.toNat t4.2.2.1) af.aa).2)==ByteArray.toList ((List.getD t4.2.1 (Int.toNat t4.2.2.1) af.aa).2)))=true then
          if(decide (0≤t4.2.2.1∧t4.2.2.1<((List.length t4.1:Nat):Int)))=true then
           if(decide (0≤t4.2.2.1∧t4.2.2.1<((List.length t4.2.1:Nat):Int)))=true then
            Option.bind (fb k ((List.getD t4.1 (Int.toNat t4.2.2.1) af.aa).2,(List.getD t4.2.1 (Int.toNat t4.2.2.1) af.aa).2,())) fun r6=>
            some (r6.1,())
           else
            none
          else
           none
         else
          G3 (t4.1,t4.2.1,IntKind.i64.wrap (t4.2.2.1+(1:Int)),())
        else
         none
       else
        none
     else
      none
    else
     none
   else
    J1 (t4.1,t4.2.1,())) (x.1,x.2.1,(0:Int),())) (fun(t2:List aj×List aj×Unit)=>
  some (decide ((((List.length t2.1:Nat):Int):Int)<((List.length t2.2.1:Nat):Int)),()))
def jL (k:Nat) (x:List ai×Unit):Option (List ai×Unit):=
 az k (fun G1 (t2:List ai×List ai×Int×Unit)=>
  if(decide ((t2.2.2.1:Int)<((List.length t2.1:Nat):Int)))=true then
   if(decide (0≤t2.2.2.1∧t2.2.2.1<((List.length t2.1:Nat):Int)))=true then
    Option.bind (dt k (List.getD t2.1 (Int.toNat t2.2.2.1) ab.aa,())) fun r3=>
    aO (fun J4=>
     az k (fun G6 (t7:List ai×List ai×Int×ai×Int×Unit)=>
      if(!(((decide ((t7.2.2.2.2.1:Int)>(0:Int))):Bool)==true)||(decide (0≤(IntKind.i64.wrap (t7.2.2.2.2.1-(1:Int)))∧(IntKind.i64.wrap (t7.2.2.2.2.1-(1:Int)))<((List.length t7.2.1:Nat):Int))))=true then
       Option.bind ((if(((decide ((t7.2.2.2.2.1:Int)>(0:Int))):Bool)==true)=true then iC k (t7.2.2.2.1.1,(List.getD t7.2.1 (Int.toNat (IntKind.i64.wrap (t7.2.2.2.2.1-(1:Int)))) ab.aa).1,())else some (false,()))) fun r8=>
       if(if(decide ((t7.2.2.2.2.1:Int)>(0:Int)))=true then r8.1 else false)=true then
        G6 (t7.1,t7.2.1,t7.2.2.1,t7.2.2.2.1,IntKind.i64.wrap (t7.2.2.2.2.1-(1:Int)),())
       else
        J4 (t7.1,t7.2.1,t7.2.2.1,t7.2.2.2.1,t7.2.2.2.2.1,())
      else
       none) (t2.1,t2.2.1,t2.2.2.1,r3.1,((List.length t2.2.1:Nat):Int),())) (fun(t5:List ai×List ai×Int×ai×Int×Unit)=>
     if(decide (0≤t5.2.2.2.2.1∧t5.2.2.2.2.1≤((List.length t5.2.1:Nat):Int)))=true then
      if(decide (List.length ([]:List ai)+List.length (List.take (Int.toNat t5.2.2.2.2.1) t5.2.1)<4294967296))=true then
       if(decide (List.length (([]:List ai)++(List.take (Int.toNat t5.2.2.2.2.1) t5.2.1))+List.length ([t5.2.2.2.1]:List ai)<4294967296))=true then
        if(decide (0≤t5.2.2.2.2.1∧t5.2.2.2.2.1≤((List.length t5.2.1:Nat):Int)))=true then
         if(decide (List.length ((([]:List ai)++(List.take (Int.toNat t5.2.2.2.2.1) t5.2.1))++([t5.2.2.2.1]:List ai))+List.length (List.drop (Int.toNat t5.2.2.2.2.1) t5.2.1)<4294967296))=true then
          G1 (t5.1,((([]:List ai)++(List.take (Int.toNat t5.2.2.2.2.1) t5.2.1))++([t5.2.2.2.1]:List ai))++(List.drop (Int.toNat t5.2.2.2.2.1) t5.2.1),IntKind.i64.wrap (t5.2.2.1+(1:Int)),())
         else
          none
        else
         none
       else
        none
      else
       none
     else
      none)
   else
    none
  else
   some (t2.2.1,())) (x.1,([]:List ai),(0:Int),())
def jn (k:Nat) (x:List aG×Unit):Option (List ai×Unit):=
 aO (fun J1=>
  az k (fun G3 (t4:List aG×List ai×Int×Unit)=>
   if(decide ((t4.2.2.1:Int)<((List.length t4.1:Nat):Int)))=true then
    if(decide (0≤t4.2.2.1∧t4.2.2.1<((List.length t4.1:Nat):Int)))=true then
     Option.bind (gZ k (List.getD t4.1 (Int.toNat t4.2.2.1) aq.aa,())) fun r5=>
     if(decide (List.length t4.2.1+List.length r5.1<4294967296))=true then
      G3 (t4.1,t4.2.1++r5.1,IntKind.i64.wrap (t4.2.2.1+(1:Int)),())
     else
      none
    else
     none
   else
    J1 (t4.2.1,())) (x.1,([]:List ai),(0:Int),())) (fun(t2:List ai×Unit)=>
  Option.bind (jL k (t2.1,())) fun r6=>
  some (r6.1,()))
def j8 (k:Nat) (x:cg×ai×Unit):Option (Bool×Unit):=
 Option.bind (dw k (x.2.1,())) fun r1=>
 some (if r1.1=true then decide ((x.2.1.2.2.1:Int)≤(99899:Int))else false,())
def kz (k:Nat) (x:ar×Unit):Option (Bool×Unit):=
 Option.bind (lP k (x.1.2.2.2.1,())) fun r1=>
 if(if(!r1.1)=true then true else(((List.length x.1.2.2.2.1:Nat):Int):Int) != x.1.1.1)=true then
  some (false,())
 else
  Option.bind (jn k (x.1.2.2.2.1,())) fun r2=>
  aO (fun J3=>
   az k (fun G5 (t6:ar×List ai×Int×Unit)=>
    if(decide ((t6.2.2.1:Int)<((List.length t6.2.1:Nat):Int)))=true then
     if(decide (0≤t6.2.2.1∧t6.2.2.1<((List.length t6.2.1:Nat):Int)))=true then
      Option.bind (j8 k (t6.1.1,List.getD t6.2.1 (Int.toNat t6.2.2.1) ab.aa,())) fun r7=>
      if(!r7.1)=true then
       some (false,())
      else
       G5 (t6.1,t6.2.1,IntKind.i64.wrap (t6.2.2.1+(1:Int)),())
     else
      none
    else
     J3 (t6.1,t6.2.1,())) (x.1,r2.1,(0:Int),())) (fun(t4:ar×List ai×Unit)=>
   some (decide ((((List.length t4.2.1:Nat):Int):Int)≤t4.1.1.2.1),()))
def gy (k:Nat) (x:List ai×Unit):Option (Bool×Unit):=
 az k (fun G1 (t2:List ai×Int×Unit)=>
  if(decide ((t2.2.1:Int)<((List.length t2.1:Nat):Int)))=true then
   if(decide (0≤t2.2.1∧t2.2.1<((List.length t2.1:Nat):Int)))=true then
    Option.bind (dw k (List.getD t2.1 (Int.toNat t2.2.1) ab.aa,())) fun r3=>
    if(!r3.1)=true then
     some (false,())
    else
     G1 (t2.1,IntKind.i64.wrap (t2.2.1+(1:Int)),())
   else
    none
  else
   some (true,())) (x.1,(0:Int),())
def nZ (k:Nat) (x:bF×Unit):Option (Bool×Unit):=
 aO (fun J1=>
  az k (fun G3 (t4:bF×Int×Unit)=>
   if(decide ((t4.2.1:Int)<((List.length t4.1.1:Nat):Int)))=true then
    if(decide (0≤t4.2.1∧t4.2.1<((List.length t4.1.1:Nat):Int)))=true then
     Option.bind (dw k (List.getD t4.1.1 (Int.toNat t4.2.1) ab.aa,())) fun r5=>
     if(!r5.1)=true then
      some (false,())
     else
      G3 (t4.1,IntKind.i64.wrap (t4.2.1+(1:Int)),())
    else
     none
   else
    J1 (t4.1,())) (x.1,(0:Int),())) (fun(t2:bF×Unit)=>
  some (if(decide ((((List.length t2.1.1:Nat):Int):Int)≤(3:Int)))=true then if(!t2.1.2)=true then true else(((List.length t2.1.1:Nat):Int):Int)==(0:Int)else false,()))
def ku (k:Nat) (x:Int×Unit):Option (List Int×Unit):=
 if((x.1:Int)==(1:Int))=true then
  some (([(1:Int),(2:Int),(3:Int),(4:Int)]:List Int),())
 else
  if((x.1:Int)==(3:Int))=true then
   some (([(5:Int),(6:Int)]:List Int),())
  else
   if((x.1:Int)==(7:Int))=true then
    some (([(1:Int),(2:Int),(3:Int)]:List Int),())
   else
    if((x.1:Int)==(8:Int))=true then
     some (([(8:Int),(6:Int)]:List Int),())
    else
     if((x.1:Int)==(9:Int))=true then
      some (([(5:Int),(6:Int),(7:Int)]:List Int),())
     else
      some (([(8:Int)]:List Int),())
def mZ (k:Nat) (x:List Int×Int×Unit):Option (Bool×Unit):=
 az k (fun G1 (t2:List Int×Int×Int×Unit)=>
  if(decide ((t2.2.2.1:Int)<((List.length t2.1:Nat):Int)))=true then
   if(decide (0≤t2.2.2.1∧t2.2.2.1<((List.length t2.1:Nat):Int)))=true then
    if(((List.getD t2.1 (Int.toNat t2.2.2.1) 0):Int)==t2.2.1)=true then
     some (true,())
    else
     G1 (t2.1,t2.2.1,IntKind.i64.wrap (t2.2.2.1+(1:Int)),())
   else
    none
  else
   some (false,())) (x.1,x.2.1,(0:Int),())
def gx (k:Nat) (x:aY×Unit):Option (Bool×Unit):=
 Option.bind (bE k (x.1.1,(1:Int),(9:Int),())) fun r1=>
 Option.bind ((if(((!r1.1):Bool)==false)=true then bE k (x.1.2.1,(-1:Int),(4:Int),())else some (false,()))) fun r2=>
 if(if(if(if(if(if(!r1.1)=true then true else !r2.1)=true then true else decide ((x.1.2.2.2.2.2.2.2.2.2.1:Int)<(0:Int)))=true then true else decide ((x.1.2.2.2.2.1:Int)<(0:Int)))=true then true else decide ((x.1.2.2.2.2.2.1:Int)<(0:Int)))=true then true else decide ((x.1.2.2.2.2.2.2.2.2.1:Int)<(0:Int)))=true then
  some (false,())
 else
  if(if(if((x.1.2.2.2.2.2.2.2.2.2.2.1:Int) != (-1:Int))=true then decide ((x.1.2.2.2.2.2.2.2.2.2.2.1:Int)<x.1.2.2.2.2.2.2.2.2.2.1)else false)=true then true else if((x.1.2.2.2.2.2.2.2.2.2.2.2:Int) != (-1:Int))=true then if((x.1.2.2.2.2.2.2.2.2.2.2.1:Int)==(-1:Int))=true then true else decide ((x.1.2.2.2.2.2.2.2.2.2.2.2:Int)<x.1.2.2.2.2.2.2.2.2.2.2.1)else false)=true then
   some (false,())
  else
   if((x.1.2.2.2.2.2.2.2.2.2.2.1:Int)==(-1:Int))=true then
    some ((x.1.2.2.2.2.2.2.1:Int)==(0:Int),())
   else
    Option.bind (ku k (x.1.1,())) fun r3=>
    Option.bind (mZ k (r3.1,x.1.2.2.2.2.2.2.1,())) fun r4=>
    some (r4.1,())
def cR (k:Nat) (x:ai×ai×Unit):Option (Bool×Unit):=
 Option.bind (cL k (x.1.1,x.2.1.1,())) fun r1=>
 some (if(if(if r1.1=true then(x.1.2.1:Int)==x.2.1.2.1 else false)=true then(x.1.2.2.1:Int)==x.2.1.2.2.1 else false)=true then ByteArray.toList x.1.2.2.2==ByteArray.toList x.2.1.2.2.2 else false,())
def eX (k:Nat) (x:ai×Unit):Option (Bool×Unit):=
 Option.bind (cR k (x.1,(([]:List aj),0,0,ByteArray.empty),())) fun r1=>
 some (r1.1,())
def lJ (k:Nat) (x:aM×Unit):Option (Bool×Unit):=
 aO (fun J1=>
  az k (fun G3 (t4:aM×Int×Unit)=>
   if(decide ((t4.2.1:Int)<((List.length t4.1.2.2.2.2.2.1:Nat):Int)))=true then
    if(decide (0≤t4.2.1∧t4.2.1<((List.length t4.1.2.2.2.2.2.1:Nat):Int)))=true then
     if(decide (((List.getD t4.1.2.2.2.2.2.1 (Int.toNat t4.2.1) 0):Int)<(0:Int)))=true then
      some (false,())
     else
      G3 (t4.1,IntKind.i64.wrap (t4.2.1+(1:Int)),())
    else
     none
   else
    J1 (t4.1,())) (x.1,(0:Int),())) (fun(t2:aM×Unit)=>
  if((t2.1.2.1:Int)==(2:Int))=true then
   Option.bind (bE k (((List.length t2.1.2.2.2.2.2.1:Nat):Int),(1:Int),(3:Int),())) fun r5=>
   some (if r5.1=true then(t2.1.2.2.2.2.1:Int)==((List.length t2.1.2.2.2.2.2.1:Nat):Int)else false,())
  else
   some (if((((List.length t2.1.2.2.2.2.2.1:Nat):Int):Int)==t2.1.2.2.2.2.1)=true then decide ((t2.1.2.2.2.2.1:Int)≤(2:Int))else false,()))
def nm (k:Nat) (x:aM×Int×Unit):Option (Bool×Unit):=
 Option.bind ((if(((decide ((x.1.2.2.2.2.2.2.2.2:Int)<(0:Int))):Bool)==false)=true then bE k (x.1.2.1,(0:Int),(2:Int),())else some (false,()))) fun r1=>
 Option.bind ((if(((if(decide ((x.1.2.2.2.2.2.2.2.2:Int)<(0:Int)))=true then true else !r1.1):Bool)==false)=true then bE k (x.2.1,(0:Int),(4:Int),())else some (false,()))) fun r2=>
 Option.bind ((if(((if(if(decide ((x.1.2.2.2.2.2.2.2.2:Int)<(0:Int)))=true then true else !r1.1)=true then true else !r2.1):Bool)==false)=true then gy k (x.1.2.2.2.2.2.2.1,())else some (false,()))) fun r3=>
 if(if(if(if(if(if(decide ((x.1.2.2.2.2.2.2.2.2:Int)<(0:Int)))=true then true else !r1.1)=true then true else !r2.1)=true then true else !r3.1)=true then true else decide ((x.1.2.2.2.2.1:Int)<(0:Int)))=true then true else decide ((x.1.2.2.2.2.2.2.2.1:Int)<(0:Int)))=true then
  some (false,())
 else
  if((x.1.1:Int)==(0:Int))=true then
   Option.bind ((if((((x.1.2.1:Int)==(0:Int)):Bool)==true)=true then eX k (x.1.2.2.1,())else some (false,()))) fun r4=>
   some (if(if(if(if(if((x.1.2.1:Int)==(0:Int))=true then r4.1 else false)=true then(((List.length x.1.2.2.2.1:Nat):Int):Int)==(0:Int)else false)=true then if(if((x.1.2.2.2.2.1:Int)==(0:Int))=true then(((List.length x.1.2.2.2.2.2.1:Nat):Int):Int)==(0:Int)else false)=true then(((List.length x.1.2.2.2.2.2.2.1:Nat):Int):Int)==(0:Int)else false else false)=true then(x.1.2.2.2.2.2.2.2.1:Int)==(0:Int)else false)=true then(x.1.2.2.2.2.2.2.2.2:Int)==(0:Int)else false,())
  else
   if((x.1.1:Int)==(1:Int))=true then
    Option.bind ((if(((decide ((x.2.1:Int)<(3:Int))):Bool)==true)=true then dw k (x.1.2.2.1,())else some (false,()))) fun r5=>
    some (if(if(if(if(decide ((x.2.1:Int)<(3:Int)))=true then r5.1 else false)=true then(((List.length x.1.2.2.2.1:Nat):Int):Int)==(0:Int)else false)=true then if(if((x.1.2.2.2.2.1:Int)==(0:Int))=true then(((List.length x.1.2.2.2.2.2.1:Nat):Int):Int)==(0:Int)else false)=true then(((List.length x.1.2.2.2.2.2.2.1:Nat):Int):Int)==(0:Int)else false else false)=true then(x.1.2.2.2.2.2.2.2.1:Int)==(0:Int)else false,())
   else
    if((x.1.1:Int)==(2:Int))=true then
     Option.bind ((if(((if(decide ((x.2.1:Int)<(3:Int)))=true then decide ((x.1.2.1:Int)<(2:Int))else false):Bool)==true)=true then eX k (x.1.2.2.1,())else some (false,()))) fun r6=>
     Option.bind ((if(((if(if(decide ((x.2.1:Int)<(3:Int)))=true then decide ((x.1.2.1:Int)<(2:Int))else false)=true then r6.1 else false):Bool)==true)=true then gk k (x.1.2.2.2.1,())else some (false,()))) fun r7=>
     some (if(if(if(if(if(decide ((x.2.1:Int)<(3:Int)))=true then decide ((x.1.2.1:Int)<(2:Int))else false)=true then r6.1 else false)=true then r7.1 else false)=true then if(if((x.1.2.2.2.2.1:Int)==(0:Int))=true then(((List.length x.1.2.2.2.2.2.1:Nat):Int):Int)==(0:Int)else false)=true then(((List.length x.1.2.2.2.2.2.2.1:Nat):Int):Int)==(0:Int)else false else false)=true then(x.1.2.2.2.2.2.2.2.1:Int)==(0:Int)else false,())
    else
     if((x.1.1:Int)==(3:Int))=true then
      Option.bind ((if(((decide ((x.2.1:Int)<(3:Int))):Bool)==true)=true then eX k (x.1.2.2.1,())else some (false,()))) fun r8=>
      Option.bind ((if(((if(if(if(decide ((x.2.1:Int)<(3:Int)))=true then r8.1 else false)=true then(((List.length x.1.2.2.2.1:Nat):Int):Int)==(0:Int)else false)=true then(x.1.2.2.2.2.2.2.2.1:Int)==(0:Int)else false):Bool)==true)=true then lJ k (x.1,())else some (false,()))) fun r9=>
      some (if(if(if(if(decide ((x.2.1:Int)<(3:Int)))=true then r8.1 else false)=true then(((List.length x.1.2.2.2.1:Nat):Int):Int)==(0:Int)else false)=true then(x.1.2.2.2.2.2.2.2.1:Int)==(0:Int)else false)=true then r9.1 else false,())
     else
      if((x.1.1:Int)==(4:Int))=true then
       Option.bind ((if(((if(decide ((x.2.1:Int)<(3:Int)))=true then decide ((x.1.2.1:Int)<(2:Int))else false):Bool)==true)=true then eX k (x.1.2.2.1,())else some (false,()))) fun r10=>
       some (if(if(if(if(if(if(if(decide ((x.2.1:Int)<(3:Int)))=true then decide ((x.1.2.1:Int)<(2:Int))else false)=true then r10.1 else false)=true then(((List.length x.1.2.2.2.1:Nat):Int):Int)==(0:Int)else false)=true then(x.1.2.2.2.2.2.2.2.1:Int)==(0:Int)else false)=true then decide ((x.1.2.2.2.2.1:Int)≤(2:Int))else false)=true then(((List.length x.1.2.2.2.2.2.1:Nat):Int):Int)==(0:Int)else false)=true then(((List.length x.1.2.2.2.2.2.2.1:Nat):Int):Int)==(0:Int)else false,())
      else
       if((x.1.1:Int)==(5:Int))=true then
        Option.bind ((if(((if((x.2.1:Int)==(3:Int))=true then decide ((x.1.2.1:Int)<(2:Int))else false):Bool)==true)=true then dw k (x.1.2.2.1,())else some (false,()))) fun r11=>
        some (if(if(if(if(if((x.2.1:Int)==(3:Int))=true then decide ((x.1.2.1:Int)<(2:Int))else false)=true then r11.1 else false)=true then(((List.length x.1.2.2.2.1:Nat):Int):Int)==(0:Int)else false)=true then if(if((x.1.2.2.2.2.1:Int)==(0:Int))=true then(((List.length x.1.2.2.2.2.2.1:Nat):Int):Int)==(0:Int)else false)=true then(((List.length x.1.2.2.2.2.2.2.1:Nat):Int):Int)==(0:Int)else false else false)=true then(x.1.2.2.2.2.2.2.2.1:Int)==(0:Int)else false,())
       else
        if((x.1.1:Int)==(6:Int))=true then
         Option.bind ((if(((if((x.2.1:Int)==(4:Int))=true then decide ((x.1.2.1:Int)<(2:Int))else false):Bool)==true)=true then eX k (x.1.2.2.1,())else some (false,()))) fun r12=>
         some (if(if(if(if((x.2.1:Int)==(4:Int))=true then decide ((x.1.2.1:Int)<(2:Int))else false)=true then r12.1 else false)=true then(((List.length x.1.2.2.2.1:Nat):Int):Int)==(0:Int)else false)=true then if(if((x.1.2.2.2.2.1:Int)==(0:Int))=true then(((List.length x.1.2.2.2.2.2.1:Nat):Int):Int)==(0:Int)else false)=true then(((List.length x.1.2.2.2.2.2.2.1:Nat):Int):Int)==(0:Int)else false else false,())
        else
         some (false,())
def eh (k:Nat) (x:Int×Unit):Option (Int×Unit):=
 if(decide (0≤x.1∧x.1<((List.length ([(0:Int),(1:Int),(3:Int),(4:Int),(6:Int),(7:Int),(8:Int)]:List Int):Nat):Int)))=true then
  some (List.getD ([(0:Int),(1:Int),(3:Int),(4:Int),(6:Int),(7:Int),(8:Int)]:List Int) (Int.toNat x.1) 0,())
 else
  none
def mM (k:Nat) (x:List aG×List aj×Unit):Option (Int×Unit):=
 Option.bind (dP k (x.2.1,())) fun r1=>
 Option.bind (eJ k (r1.1,((List.length x.1:Nat):Int),())) fun r2=>
 some (r2.1,())
def pY (k:Nat) (x:aG×Int×Unit):Option (Int×Unit):=
 az k (fun G1 (t2:Int×aG×Int×Unit)=>
  if(decide ((t2.2.2.1:Int)<((List.length t2.2.1.2.2:Nat):Int)))=true then
   if(decide (0≤t2.2.2.1∧t2.2.2.1<((List.length t2.2.1.2.2:Nat):Int)))=true then
    if((((List.getD t2.2.1.2.2 (Int.toNat t2.2.2.1) ay.aa).1):Int)==t2.1)=true then
     some (t2.2.2.1,())
    else
     G1 (t2.1,t2.2.1,IntKind.i64.wrap (t2.2.2.1+(1:Int)),())
   else
    none
  else
   some ((-1:Int),())) (x.2.1,x.1,(0:Int),())
def l0 (k:Nat) (x:bc×List aj×Unit):Option (Int×Unit):=
 az k (fun G1 (t2:List aj×bc×Int×Unit)=>
  if(decide ((t2.2.2.1:Int)<((List.length t2.2.1.2:Nat):Int)))=true then
   if(decide (0≤t2.2.2.1∧t2.2.2.1<((List.length t2.2.1.2:Nat):Int)))=true then
    Option.bind (cL k ((List.getD t2.2.1.2 (Int.toNat t2.2.2.1) ab.aa).1,t2.1,())) fun r3=>
    if r3.1=true then
     some (t2.2.2.1,())
    else
     G1 (t2.1,t2.2.1,IntKind.i64.wrap (t2.2.2.1+(1:Int)),())
   else
    none
  else
   some ((-1:Int),())) (x.2.1,x.1,(0:Int),())
def mS (k:Nat) (x:aG×List aj×Unit):Option (ai×Bool×Unit):=
 Option.bind (dP k (x.2.1,())) fun r1=>
 Option.bind (pY k (x.1,r1.1,())) fun r2=>
 if(decide ((r2.1:Int)<(0:Int)))=true then
  some ((([]:List aj),0,0,ByteArray.empty),false,())
 else
  if(decide (0≤r2.1∧r2.1<((List.length x.1.2.2:Nat):Int)))=true then
   Option.bind (l0 k (List.getD x.1.2.2 (Int.toNat r2.1) ay.aa,x.2.1,())) fun r3=>
   if(decide ((r3.1:Int)<(0:Int)))=true then
    some ((([]:List aj),0,0,ByteArray.empty),false,())
   else
    if(decide (0≤r2.1∧r2.1<((List.length x.1.2.2:Nat):Int)))=true then
     if(decide (0≤r3.1∧r3.1<((List.length ((List.getD x.1.2.2 (Int.toNat r2.1) ay.aa).2):Nat):Int)))=true then
      Option.bind (dt k (List.getD ((List.getD x.1.2.2 (Int.toNat r2.1) ay.aa).2) (Int.toNat r3.1) ab.aa,())) fun r4=>
      some (r4.1,true,())
     else
      none
    else
     none
  else
   none
def jx (k:Nat) (x:List aG×List aj×Unit):Option (ai×Bool×Unit):=
 if((((List.length x.1:Nat):Int):Int)==(0:Int))=true then
  some ((([]:List aj),0,0,ByteArray.empty),false,())
 else
  Option.bind (mM k (x.1,x.2.1,())) fun r1=>
  if(decide (0≤r1.1∧r1.1<((List.length x.1:Nat):Int)))=true then
   Option.bind (mS k (List.getD x.1 (Int.toNat r1.1) aq.aa,x.2.1,())) fun r2=>
   some (r2.1,r2.2.1,())
  else
   none
def mP (k:Nat) (x:List ai×List ai×Unit):Option (Bool×Unit):=
 if((((List.length x.1:Nat):Int):Int) != ((List.length x.2.1:Nat):Int))=true then
  some (false,())
 else
  az k (fun G1 (t2:List ai×List ai×Int×Unit)=>
   if(decide ((t2.2.2.1:Int)<((List.length t2.1:Nat):Int)))=true then
    if(decide (0≤t2.2.2.1∧t2.2.2.1<((List.length t2.1:Nat):Int)))=true then
     if(decide (0≤t2.2.2.1∧t2.2.2.1<((List.length t2.2.1:Nat):Int)))=true then
      Option.bind (cR k (List.getD t2.1 (Int.toNat t2.2.2.1) ab.aa,List.getD t2.2.1 (Int.toNat t2.2.2.1) ab.aa,())) fun r3=>
      if(!r3.1)=true then
       some (false,())
      else
       G1 (t2.1,t2.2.1,IntKind.i64.wrap (t2.2.2.1+(1:Int)),())
     else
      none
    else
     none
   else
    some (true,())) (x.1,x.2.1,(0:Int),())
def eV (k:Nat) (x:ar×aM×Unit):Option (Bool×Unit):=
 aO (fun J1=>
  az k (fun G3 (t4:ar×aM×List ai×Bool×Int×Unit)=>
   if(decide ((t4.2.2.2.2.1:Int)<((List.length t4.2.1.2.2.2.2.2.1:Nat):Int)))=true then
    if(decide (0≤t4.2.2.2.2.1∧t4.2.2.2.2.1<((List.length t4.2.1.2.2.2.2.2.1:Nat):Int)))=true then
     if(decide (0≤t4.2.2.2.2.1∧t4.2.2.2.2.1<((List.length t4.1.2.2.2.1:Nat):Int)))=true then
      if(decide (((List.getD t4.2.1.2.2.2.2.2.1 (Int.toNat t4.2.2.2.2.1) 0):Int)>(((List.getD t4.1.2.2.2.1 (Int.toNat t4.2.2.2.2.1) aq.aa).2).1)))=true then
       some (false,())
      else
       if(!((t4.2.2.2.1:Bool)==true)||(decide (0≤t4.2.2.2.2.1∧t4.2.2.2.2.1<((List.length t4.2.1.2.2.2.2.2.1:Nat):Int))))=true then
        if(!((t4.2.2.2.1:Bool)==true)||(decide (0≤t4.2.2.2.2.1∧t4.2.2.2.2.1<((List.length t4.1.2.2.2.1:Nat):Int))))=true then
         if(decide (0≤t4.2.2.2.2.1∧t4.2.2.2.2.1<((List.length t4.1.2.2.2.1:Nat):Int)))=true then
          Option.bind (gZ k (List.getD t4.1.2.2.2.1 (Int.toNat t4.2.2.2.2.1) aq.aa,())) fun r5=>
          if(decide (List.length t4.2.2.1+List.length r5.1<4294967296))=true then
           G3 (t4.1,t4.2.1,t4.2.2.1++r5.1,if t4.2.2.2.1=true then((List.getD t4.2.1.2.2.2.2.2.1 (Int.toNat t4.2.2.2.2.1) 0):Int)==(((List.getD t4.1.2.2.2.1 (Int.toNat t4.2.2.2.2.1) aq.aa).2).1)else false,IntKind.i64.wrap (t4.2.2.2.2.1+(1:Int)),())
          else
           none
         else
          none
        else
         none
       else
        none
     else
      none
    else
     none
   else
    J1 (t4.1,t4.2.1,t4.2.2.1,t4.2.2.2.1,())) (x.1,x.2.1,([]:List ai),true,(0:Int),())) (fun(t2:ar×aM×List ai×Bool×Unit)=>
  Option.bind ((if(((!t2.2.2.2.1):Bool)==false)=true then mP k (t2.2.2.1,t2.2.1.2.2.2.2.2.2.1,())else some (false,()))) fun r6=>
  some (if(!t2.2.2.2.1)=true then true else r6.1,()))
def mc (k:Nat) (x:ar×Int×Unit):Option (Bool×Unit):=
 if(decide (0≤x.2.1∧x.2.1<((List.length x.1.2.2.2.2.2.2.2.2.2.2.2.2.1:Nat):Int)))=true then
  Option.bind (nm k (List.getD x.1.2.2.2.2.2.2.2.2.2.2.2.2.1 (Int.toNat x.2.1) ah.aa,x.2.1,())) fun r1=>
  if(!r1.1)=true then
   some (false,())
  else
   if((((List.getD x.1.2.2.2.2.2.2.2.2.2.2.2.2.1 (Int.toNat x.2.1) ah.aa).1):Int)==(0:Int))=true then
    some (true,())
   else
    if(decide (((((((((((List.getD x.1.2.2.2.2.2.2.2.2.2.2.2.2.1 (Int.toNat x.2.1) ah.aa).2).2).2).2).2).2).2).2):Int)≥((List.length x.1.2.2.2.2.2.2.2.2.2.2.2.2.2:Nat):Int)))=true then
     some (false,())
    else
     if(decide (0≤(((((((((List.getD x.1.2.2.2.2.2.2.2.2.2.2.2.2.1 (Int.toNat x.2.1) ah.aa).2).2).2).2).2).2).2).2)∧(((((((((List.getD x.1.2.2.2.2.2.2.2.2.2.2.2.2.1 (Int.toNat x.2.1) ah.aa).2).2).2).2).2).2).2).2)<((List.length x.1.2.2.2.2.2.2.2.2.2.2.2.2.2:Nat):Int)))=true then
      Option.bind ((if(((if(((((List.getD x.1.2.2.2.2.2.2.2.2.2.2.2.2.2 (Int.toNat (((((((((List.getD x.1.2.2.2.2.2.2.2.2.2.2.2.2.1 (Int.toNat x.2.1) ah.aa).2).2).2).2).2).2).2).2)) ak.aa).2).1):Int) != x.2.1)=true then true else(((((((((((((List.getD x.1.2.2.2.2.2.2.2.2.2.2.2.2.2 (Int.toNat (((((((((List.getD x.1.2.2.2.2.2.2.2.2.2.2.2.2.1 (Int.toNat x.2.1) ah.aa).2).2).2).2).2).2).2).2)) ak.aa).2).2).2).2).2).2).2).2).2).2).2):Int) != (-1:Int)):Bool)==false)=true then eh k ((List.getD x.1.2.2.2.2.2.2.2.2.2.2.2.2.1 (Int.toNat x.2.1) ah.aa).1,())else some (0,()))) fun r2=>
      if(if(if(if(((((List.getD x.1.2.2.2.2.2.2.2.2.2.2.2.2.2 (Int.toNat (((((((((List.getD x.1.2.2.2.2.2.2.2.2.2.2.2.2.1 (Int.toNat x.2.1) ah.aa).2).2).2).2).2).2).2).2)) ak.aa).2).1):Int) != x.2.1)=true then true else(((((((((((((List.getD x.1.2.2.2.2.2.2.2.2.2.2.2.2.2 (Int.toNat (((((((((List.getD x.1.2.2.2.2.2.2.2.2.2.2.2.2.1 (Int.toNat x.2.1) ah.aa).2).2).2).2).2).2).2).2)) ak.aa).2).2).2).2).2).2).2).2).2).2).2):Int) != (-1:Int))=true then true else(((List.getD x.1.2.2.2.2.2.2.2.2.2.2.2.2.2 (Int.toNat (((((((((List.getD x.1.2.2.2.2.2.2.2.2.2.2.2.2.1 (Int.toNat x.2.1) ah.aa).2).2).2).2).2).2).2).2)) ak.aa).1):Int) != r2.1)=true then true else !((((((((((((((((List.getD x.1.2.2.2.2.2.2.2.2.2.2.2.2.2 (Int.toNat (((((((((List.getD x.1.2.2.2.2.2.2.2.2.2.2.2.2.1 (Int.toNat x.2.1) ah.aa).2).2).2).2).2).2).2).2)) ak.aa).2).2).2).2).2).2).2).2).2).2).1):Int) != (-1:Int)):Bool)==(if((((List.getD x.1.2.2.2.2.2.2.2.2.2.2.2.2.1 (Int.toNat x.2.1) ah.aa).1):Int)==(1:Int))=true then((((List.getD x.1.2.2.2.2.2.2.2.2.2.2.2.2.1 (Int.toNat x.2.1) ah.aa).2).1):Int)==(2:Int)else false)))=true then
       some (false,())
      else
       aO (fun J3=>
        if((((List.getD x.1.2.2.2.2.2.2.2.2.2.2.2.2.1 (Int.toNat x.2.1) ah.aa).1):Int)==(1:Int))=true then
         if(((((List.getD x.1.2.2.2.2.2.2.2.2.2.2.2.2.1 (Int.toNat x.2.1) ah.aa).2).1):Int)==(2:Int))=true then
          Option.bind (jx k (x.1.2.2.2.1,((((List.getD x.1.2.2.2.2.2.2.2.2.2.2.2.2.1 (Int.toNat x.2.1) ah.aa).2).2).1).1,())) fun r5=>
          Option.bind ((if((r5.2.1:Bool)==true)=true then cR k (r5.1,(((List.getD x.1.2.2.2.2.2.2.2.2.2.2.2.2.1 (Int.toNat x.2.1) ah.aa).2).2).1,())else some (false,()))) fun r6=>
          Option.bind ((if(((if r5.2.1=true then r6.1 else false):Bool)==true)=true then cL k (((((List.getD x.1.2.2.2.2.2.2.2.2.2.2.2.2.2 (Int.toNat (((((((((List.getD x.1.2.2.2.2.2.2.2.2.2.2.2.2.1 (Int.toNat x.2.1) ah.aa).2).2).2).2).2).2).2).2)) ak.aa).2).2).1).1,((((List.getD x.1.2.2.2.2.2.2.2.2.2.2.2.2.1 (Int.toNat x.2.1) ah.aa).2).2).1).1,())else some (false,()))) fun r7=>
          some (if(if r5.2.1=true then r6.1 else false)=true then r7.1 else false,())
         else
          Option.bind (cR k ((((List.getD x.1.2.2.2.2.2.2.2.2.2.2.2.2.2 (Int.toNat (((((((((List.getD x.1.2.2.2.2.2.2.2.2.2.2.2.2.1 (Int.toNat x.2.1) ah.aa).2).2).2).2).2).2).2).2)) ak.aa).2).2).1,(((List.getD x.1.2.2.2.2.2.2.2.2.2.2.2.2.1 (Int.toNat x.2.1) ah.aa).2).2).1,())) fun r8=>
          Option.bind ((if((r8.1:Bool)==true)=true then j8 k (x.1.1,(((List.getD x.1.2.2.2.2.2.2.2.2.2.2.2.2.1 (Int.toNat x.2.1) ah.aa).2).2).1,())else some (false,()))) fun r9=>
          some (if r8.1=true then r9.1 else false,())
        else
         if((((List.getD x.1.2.2.2.2.2.2.2.2.2.2.2.2.1 (Int.toNat x.2.1) ah.aa).1):Int)==(2:Int))=true then
          Option.bind (cL k (((((List.getD x.1.2.2.2.2.2.2.2.2.2.2.2.2.2 (Int.toNat (((((((((List.getD x.1.2.2.2.2.2.2.2.2.2.2.2.2.1 (Int.toNat x.2.1) ah.aa).2).2).2).2).2).2).2).2)) ak.aa).2).2).2).1,((((List.getD x.1.2.2.2.2.2.2.2.2.2.2.2.2.1 (Int.toNat x.2.1) ah.aa).2).2).2).1,())) fun r10=>
          some (r10.1,())
         else
          if((((List.getD x.1.2.2.2.2.2.2.2.2.2.2.2.2.1 (Int.toNat x.2.1) ah.aa).1):Int)==(3:Int))=true then
           if((((List.getD x.1.2.2.2.2.2.2.2.2.2.2.2.2.1 (Int.toNat x.2.1) ah.aa).1):Int)==(3:Int))=true then
            if(((((List.getD x.1.2.2.2.2.2.2.2.2.2.2.2.2.1 (Int.toNat x.2.1) ah.aa).2).1):Int)==(2:Int))=true then
             Option.bind ((if((((((List.length (((((((List.getD x.1.2.2.2.2.2.2.2.2.2.2.2.2.1 (Int.toNat x.2.1) ah.aa).2).2).2).2).2).1):Nat):Int):Int)==x.1.1.1):Bool)==true)=true then eV k (x.1,List.getD x.1.2.2.2.2.2.2.2.2.2.2.2.2.1 (Int.toNat x.2.1) ah.aa,())else some (false,()))) fun r11=>
             some (if((((List.length (((((((List.getD x.1.2.2.2.2.2.2.2.2.2.2.2.2.1 (Int.toNat x.2.1) ah.aa).2).2).2).2).2).1):Nat):Int):Int)==x.1.1.1)=true then r11.1 else false,())
            else
             Option.bind ((if(((decide ((((((((List.getD x.1.2.2.2.2.2.2.2.2.2.2.2.2.1 (Int.toNat x.2.1) ah.aa).2).2).2).2).1):Int)<x.1.1.1)):Bool)==true)=true then eV k (x.1,List.getD x.1.2.2.2.2.2.2.2.2.2.2.2.2.1 (Int.toNat x.2.1) ah.aa,())else some (false,()))) fun r12=>
             some (if(decide ((((((((List.getD x.1.2.2.2.2.2.2.2.2.2.2.2.2.1 (Int.toNat x.2.1) ah.aa).2).2).2).2).1):Int)<x.1.1.1))=true then r12.1 else false,())
           else
            if((((List.getD x.1.2.2.2.2.2.2.2.2.2.2.2.2.1 (Int.toNat x.2.1) ah.aa).1):Int)==(5:Int))=true then
             Option.bind (cR k ((((List.getD x.1.2.2.2.2.2.2.2.2.2.2.2.2.2 (Int.toNat (((((((((List.getD x.1.2.2.2.2.2.2.2.2.2.2.2.2.1 (Int.toNat x.2.1) ah.aa).2).2).2).2).2).2).2).2)) ak.aa).2).2).1,(((List.getD x.1.2.2.2.2.2.2.2.2.2.2.2.2.1 (Int.toNat x.2.1) ah.aa).2).2).1,())) fun r13=>
             some (r13.1,())
            else
             J3 (x.1,List.getD x.1.2.2.2.2.2.2.2.2.2.2.2.2.1 (Int.toNat x.2.1) ah.aa,List.getD x.1.2.2.2.2.2.2.2.2.2.2.2.2.2 (Int.toNat (((((((((List.getD x.1.2.2.2.2.2.2.2.2.2.2.2.2.1 (Int.toNat x.2.1) ah.aa).2).2).2).2).2).2).2).2)) ak.aa,())
          else
           if((((List.getD x.1.2.2.2.2.2.2.2.2.2.2.2.2.1 (Int.toNat x.2.1) ah.aa).1):Int)==(4:Int))=true then
            if(((((List.getD x.1.2.2.2.2.2.2.2.2.2.2.2.2.1 (Int.toNat x.2.1) ah.aa).2).1):Int)==(2:Int))=true then
             Option.bind ((if((((((List.length (((((((List.getD x.1.2.2.2.2.2.2.2.2.2.2.2.2.1 (Int.toNat x.2.1) ah.aa).2).2).2).2).2).1):Nat):Int):Int)==x.1.1.1):Bool)==true)=true then eV k (x.1,List.getD x.1.2.2.2.2.2.2.2.2.2.2.2.2.1 (Int.toNat x.2.1) ah.aa,())else some (false,()))) fun r14=>
             some (if((((List.length (((((((List.getD x.1.2.2.2.2.2.2.2.2.2.2.2.2.1 (Int.toNat x.2.1) ah.aa).2).2).2).2).2).1):Nat):Int):Int)==x.1.1.1)=true then r14.1 else false,())
            else
             Option.bind ((if(((decide ((((((((List.getD x.1.2.2.2.2.2.2.2.2.2.2.2.2.1 (Int.toNat x.2.1) ah.aa).2).2).2).2).1):Int)<x.1.1.1)):Bool)==true)=true then eV k (x.1,List.getD x.1.2.2.2.2.2.2.2.2.2.2.2.2.1 (Int.toNat x.2.1) ah.aa,())else some (false,()))) fun r15=>
             some (if(decide ((((((((List.getD x.1.2.2.2.2.2.2.2.2.2.2.2.2.1 (Int.toNat x.2.1) ah.aa).2).2).2).2).1):Int)<x.1.1.1))=true then r15.1 else false,())
           else
            if((((List.getD x.1.2.2.2.2.2.2.2.2.2.2.2.2.1 (Int.toNat x.2.1) ah.aa).1):Int)==(5:Int))=true then
             Option.bind (cR k ((((List.getD x.1.2.2.2.2.2.2.2.2.2.2.2.2.2 (Int.toNat (((((((((List.getD x.1.2.2.2.2.2.2.2.2.2.2.2.2.1 (Int.toNat x.2.1) ah.aa).2).2).2).2).2).2).2).2)) ak.aa).2).2).1,(((List.getD x.1.2.2.2.2.2.2.2.2.2.2.2.2.1 (Int.toNat x.2.1) ah.aa).2).2).1,())) fun r16=>
             some (r16.1,())
            else
             J3 (x.1,List.getD x.1.2.2.2.2.2.2.2.2.2.2.2.2.1 (Int.toNat x.2.1) ah.aa,List.getD x.1.2.2.2.2.2.2.2.2.2.2.2.2.2 (Int.toNat (((((((((List.getD x.1.2.2.2.2.2.2.2.2.2.2.2.2.1 (Int.toNat x.2.1) ah.aa).2).2).2).2).2).2).2).2)) ak.aa,())) (fun(t4:ar×aM×aY×Unit)=>
        some (if((t4.2.2.1.2.2.2.2.2.1:Int)==t4.2.1.2.2.2.2.2.2.2.1)=true then decide ((t4.2.1.2.2.2.2.2.2.2.1:Int)<t4.1.2.2.2.2.2.2.2.2.1)else false,()))
     else
      none
 else
  none
def jl (k:Nat) (x:aM×Int×Unit):Option (Int×Unit):=
 if(decide ((x.2.1:Int)<(1:Int)))=true then
  some ((-1:Int),())
 else
  if(if((x.1.1:Int)==(1:Int))=true then if((x.1.2.1:Int)==(1:Int))=true then true else(x.1.2.1:Int)==(2:Int)else false)=true then
   Option.bind (dP k (x.1.2.2.1.1,())) fun r1=>
   Option.bind (eJ k (r1.1,x.2.1,())) fun r2=>
   some (r2.1,())
  else
   if(if((x.1.1:Int)==(2:Int))=true then(x.1.2.1:Int)==(1:Int)else false)=true then
    Option.bind (dP k (x.1.2.2.2.1,())) fun r3=>
    Option.bind (eJ k (r3.1,x.2.1,())) fun r4=>
    some (r4.1,())
   else
    if(if(if((x.1.1:Int)==(3:Int))=true then true else(x.1.1:Int)==(4:Int))=true then(x.1.2.1:Int)==(1:Int)else false)=true then
     some (x.1.2.2.2.2.1,())
    else
     some ((-1:Int),())
def gD (k:Nat) (x:aM×Unit):Option (Bool×Unit):=
 some (if(if((x.1.1:Int)==(5:Int))=true then true else(x.1.1:Int)==(6:Int))=true then(x.1.2.1:Int)==(1:Int)else false,())
def gH (k:Nat) (x:ar×Unit):Option (Bool×Unit):=
 aO (fun J1=>
  az k (fun G3 (t4:ar×List Int×Int×Unit)=>
   if(decide ((t4.2.2.1:Int)<((List.length t4.1.2.2.2.1:Nat):Int)))=true then
    if(decide (List.length t4.2.1+List.length ([(-1:Int)]:List Int)<4294967296))=true then
     G3 (t4.1,t4.2.1++([(-1:Int)]:List Int),IntKind.i64.wrap (t4.2.2.1+(1:Int)),())
    else
     none
   else
    J1 (t4.1,t4.2.1,())) (x.1,([]:List Int),(0:Int),())) (fun(t2:ar×List Int×Unit)=>
  aO (fun J5=>
   az k (fun G7 (t8:ar×List Int×Int×Int×Unit)=>
    if(decide ((t8.2.2.2.1:Int)<((List.length t8.1.2.2.2.2.2.2.2.2.2.2.2.2.1:Nat):Int)))=true then
     if(decide (0≤t8.2.2.2.1∧t8.2.2.2.1<((List.length t8.1.2.2.2.2.2.2.2.2.2.2.2.2.1:Nat):Int)))=true then
      Option.bind (jl k (List.getD t8.1.2.2.2.2.2.2.2.2.2.2.2.2.1 (Int.toNat t8.2.2.2.1) ah.aa,((List.length t8.1.2.2.2.1:Nat):Int),())) fun r9=>
      aO (fun J10=>
       if(decide ((r9.1:Int)≥(0:Int)))=true then
        if(decide (0≤r9.1∧r9.1<((List.length t8.2.1:Nat):Int)))=true then
         if(((List.getD t8.2.1 (Int.toNat r9.1) 0):Int) != (-1:Int))=true then
          some (false,())
         else
          if(decide (0≤r9.1∧r9.1<((List.length t8.2.1:Nat):Int)))=true then
           J10 (t8.1,List.set t8.2.1 (Int.toNat r9.1) t8.2.2.2.1,t8.2.2.1,t8.2.2.2.1,())
          else
           none
        else
         none
       else
        J10 (t8.1,t8.2.1,t8.2.2.1,t8.2.2.2.1,())) (fun(t11:ar×List Int×Int×Int×Unit)=>
       if(decide (0≤t11.2.2.2.1∧t11.2.2.2.1<((List.length t11.1.2.2.2.2.2.2.2.2.2.2.2.2.1:Nat):Int)))=true then
        Option.bind (gD k (List.getD t11.1.2.2.2.2.2.2.2.2.2.2.2.2.1 (Int.toNat t11.2.2.2.1) ah.aa,())) fun r12=>
        if r12.1=true then
         if((t11.2.2.1:Int) != (-1:Int))=true then
          some (false,())
         else
          G7 (t11.1,t11.2.1,t11.2.2.2.1,IntKind.i64.wrap (t11.2.2.2.1+(1:Int)),())
        else
         G7 (t11.1,t11.2.1,t11.2.2.1,IntKind.i64.wrap (t11.2.2.2.1+(1:Int)),())
       else
        none)
     else
      none
    else
     J5 (t8.1,t8.2.1,t8.2.2.1,())) (t2.1,t2.2.1,(-1:Int),(0:Int),())) (fun(t6:ar×List Int×Int×Unit)=>
   aO (fun J13=>
    az k (fun G15 (t16:ar×List Int×Int×Int×Unit)=>
     if(decide ((t16.2.2.2.1:Int)<((List.length t16.1.2.2.2.1:Nat):Int)))=true then
      if(decide (0≤t16.2.2.2.1∧t16.2.2.2.1<((List.length t16.1.2.2.2.1:Nat):Int)))=true then
       if(decide (0≤t16.2.2.2.1∧t16.2.2.2.1<((List.length t16.2.1:Nat):Int)))=true then
        if((((List.getD t16.1.2.2.2.1 (Int.toNat t16.2.2.2.1) aq.aa).1):Int) != (List.getD t16.2.1 (Int.toNat t16.2.2.2.1) 0))=true then
         some (false,())
        else
         G15 (t16.1,t16.2.1,t16.2.2.1,IntKind.i64.wrap (t16.2.2.2.1+(1:Int)),())
       else
        none
      else
       none
     else
      J13 (t16.1,t16.2.2.1,())) (t6.1,t6.2.1,t6.2.2.1,(0:Int),())) (fun(t14:ar×Int×Unit)=>
    some ((t14.1.2.2.2.2.2.2.1:Int)==t14.2.1,()))))
def oo (k:Nat) (x:List ByteArray×ByteArray×Unit):Option (Bool×Unit):=
 az k (fun G1 (t2:List ByteArray×ByteArray×Int×Unit)=>
  if(decide ((t2.2.2.1:Int)<((List.length t2.1:Nat):Int)))=true then
   if(decide (0≤t2.2.2.1∧t2.2.2.1<((List.length t2.1:Nat):Int)))=true then
    if(ByteArray.toList (List.getD t2.1 (Int.toNat t2.2.2.1) ByteArray.empty)==ByteArray.toList t2.2.1)=true then
     some (true,())
    else
     G1 (t2.1,t2.2.1,IntKind.i64.wrap (t2.2.2.1+(1:Int)),())
   else
    none
  else
   some (false,())) (x.1,x.2.1,(0:Int),())
def pg (k:Nat) (x:List aj×List ByteArray×Unit):Option (List aj×Unit):=
 az k (fun G1 (t2:List aj×List ByteArray×List aj×Int×Unit)=>
  if(decide ((t2.2.2.2.1:Int)<((List.length t2.1:Nat):Int)))=true then
   if(decide (0≤t2.2.2.2.1∧t2.2.2.2.1<((List.length t2.1:Nat):Int)))=true then
    Option.bind (oo k (t2.2.1,(List.getD t2.1 (Int.toNat t2.2.2.2.1) af.aa).1,())) fun r3=>
    if r3.1=true then
     if(decide (0≤t2.2.2.2.1∧t2.2.2.2.1<((List.length t2.1:Nat):Int)))=true then
      if(decide (List.length t2.2.2.1+List.length ([List.getD t2.1 (Int.toNat t2.2.2.2.1) af.aa]:List aj)<4294967296))=true then
       G1 (t2.1,t2.2.1,t2.2.2.1++([List.getD t2.1 (Int.toNat t2.2.2.2.1) af.aa]:List aj),IntKind.i64.wrap (t2.2.2.2.1+(1:Int)),())
      else
       none
     else
      none
    else
     G1 (t2.1,t2.2.1,t2.2.2.1,IntKind.i64.wrap (t2.2.2.2.1+(1:Int)),())
   else
    none
  else
   some (t2.2.2.1,())) (x.1,x.2.1,([]:List aj),(0:Int),())
def oE (k:Nat) (x:ai×List ByteArray×Unit):Option (List aj×Unit):=
 Option.bind (pg k (x.1.1,x.2.1,())) fun r1=>
 some (r1.1,())
def lB (k:Nat) (x:aJ×List ByteArray×Unit):Option (Bool×Unit):=
 aO (fun J1=>
  az k (fun G3 (t4:List ByteArray×aJ×Int×Unit)=>
   if(decide ((t4.2.2.1:Int)<((List.length t4.2.1.2.2.2.2:Nat):Int)))=true then
    if(decide (0≤t4.2.2.1∧t4.2.2.1<((List.length t4.2.1.2.2.2.2:Nat):Int)))=true then
     Option.bind (dw k (List.getD t4.2.1.2.2.2.2 (Int.toNat t4.2.2.1) ab.aa,())) fun r5=>
     if(!((((!r5.1):Bool)==false)&&(((decide ((t4.2.2.1:Int)>(0:Int))):Bool)==true))||(decide (0≤(IntKind.i64.wrap (t4.2.2.1-(1:Int)))∧(IntKind.i64.wrap (t4.2.2.1-(1:Int)))<((List.length t4.2.1.2.2.2.2:Nat):Int))))=true then
      if(!((((!r5.1):Bool)==false)&&(((decide ((t4.2.2.1:Int)>(0:Int))):Bool)==true))||(decide (0≤t4.2.2.1∧t4.2.2.1<((List.length t4.2.1.2.2.2.2:Nat):Int))))=true then
       Option.bind ((if((((!r5.1):Bool)==false)&&(((decide ((t4.2.2.1:Int)>(0:Int))):Bool)==true))=true then iC k ((List.getD t4.2.1.2.2.2.2 (Int.toNat (IntKind.i64.wrap (t4.2.2.1-(1:Int)))) ab.aa).1,(List.getD t4.2.1.2.2.2.2 (Int.toNat t4.2.2.1) ab.aa).1,())else some (false,()))) fun r6=>
       if(!(((if(!r5.1)=true then true else if(decide ((t4.2.2.1:Int)>(0:Int)))=true then !r6.1 else false):Bool)==false)||(decide (0≤t4.2.2.1∧t4.2.2.1<((List.length t4.2.1.2.2.2.2:Nat):Int))))=true then
        Option.bind ((if(((if(!r5.1)=true then true else if(decide ((t4.2.2.1:Int)>(0:Int)))=true then !r6.1 else false):Bool)==false)=true then oE k (List.getD t4.2.1.2.2.2.2 (Int.toNat t4.2.2.1) ab.aa,t4.1,())else some (([]:List aj),()))) fun r7=>
        Option.bind ((if(((if(!r5.1)=true then true else if(decide ((t4.2.2.1:Int)>(0:Int)))=true then !r6.1 else false):Bool)==false)=true then cL k (r7.1,t4.2.1.2.1,())else some (false,()))) fun r8=>
        if(if(if(!r5.1)=true then true else if(decide ((t4.2.2.1:Int)>(0:Int)))=true then !r6.1 else false)=true then true else !r8.1)=true then
         some (false,())
        else
         G3 (t4.1,t4.2.1,IntKind.i64.wrap (t4.2.2.1+(1:Int)),())
       else
        none
      else
       none
     else
      none
    else
     none
   else
    J1 (t4.2.1,())) (x.2.1,x.1,(0:Int),())) (fun(t2:aJ×Unit)=>
  Option.bind ((if(((decide ((t2.1.1:Int)≥(0:Int))):Bool)==true)=true then gk k (t2.1.2.1,())else some (false,()))) fun r9=>
  Option.bind ((if(((if(decide ((t2.1.1:Int)≥(0:Int)))=true then r9.1 else false):Bool)==true)=true then bE k (t2.1.2.2.1,(0:Int),(99999:Int),())else some (false,()))) fun r10=>
  Option.bind ((if((((if(if(decide ((t2.1.1:Int)≥(0:Int)))=true then r9.1 else false)=true then r10.1 else false):Bool)==true)&&((((t2.1.2.2.2.1:Int)==(-1:Int)):Bool)==false))=true then bE k (t2.1.2.2.2.1,t2.1.2.2.1,(99999:Int),())else some (false,()))) fun r11=>
  some (if(if(if(if(decide ((t2.1.1:Int)≥(0:Int)))=true then r9.1 else false)=true then r10.1 else false)=true then if((t2.1.2.2.2.1:Int)==(-1:Int))=true then true else r11.1 else false)=true then decide ((((List.length t2.1.2.2.2.2:Nat):Int):Int)>(0:Int))else false,()))
def ky (k:Nat) (x:List aJ×List ByteArray×Unit):Option (Bool×Unit):=
 aO (fun J1=>
  az k (fun G3 (t4:List aJ×List ByteArray×Int×Unit)=>
   if(decide ((t4.2.2.1:Int)<((List.length t4.1:Nat):Int)))=true then
    if(decide (0≤t4.2.2.1∧t4.2.2.1<((List.length t4.1:Nat):Int)))=true then
     Option.bind (lB k (List.getD t4.1 (Int.toNat t4.2.2.1) al.aa,t4.2.1,())) fun r5=>
     if(!((((!r5.1):Bool)==false)&&(((decide ((t4.2.2.1:Int)>(0:Int))):Bool)==true))||(decide (0≤(IntKind.i64.wrap (t4.2.2.1-(1:Int)))∧(IntKind.i64.wrap (t4.2.2.1-(1:Int)))<((List.length t4.1:Nat):Int))))=true then
      if(!((((!r5.1):Bool)==false)&&(((decide ((t4.2.2.1:Int)>(0:Int))):Bool)==true))||(decide (0≤t4.2.2.1∧t4.2.2.1<((List.length t4.1:Nat):Int))))=true then
       if(if(!r5.1)=true then true else if(decide ((t4.2.2.1:Int)>(0:Int)))=true then decide ((((List.getD t4.1 (Int.toNat (IntKind.i64.wrap (t4.2.2.1-(1:Int)))) al.aa).1):Int)≥((List.getD t4.1 (Int.toNat t4.2.2.1) al.aa).1))else false)=true then
        some (false,())
       else
        az k (fun G6 (t7:List aJ×List ByteArray×Int×Int×Unit)=>
         if(decide ((t7.2.2.2.1:Int)<t7.2.2.1))=true then
          if(decide (0≤t7.2.2.2.1∧t7.2.2.2.1<((List.length t7.1:Nat):Int)))=true then
           if(decide (0≤t7.2.2.1∧t7.2.2.1<((List.length t7.1:Nat):Int)))=true then
            Option.bind (cL k (((List.getD t7.1 (Int.toNat t7.2.2.2.1) al.aa).2).1,((List.getD t7.1 (Int.toNat t7.2.2.1) al.aa).2).1,())) fun r8=>
            if r8.1=true then
             some (false,())
            else
             G6 (t7.1,t7.2.1,t7.2.2.1,IntKind.i64.wrap (t7.2.2.2.1+(1:Int)),())
           else
            none
          else
           none
         else
          G3 (t7.1,t7.2.1,IntKind.i64.wrap (t7.2.2.1+(1:Int)),())) (t4.1,t4.2.1,t4.2.2.1,(0:Int),())
      else
       none
     else
      none
    else
     none
   else
    J1 (t4.1,())) (x.1,x.2.1,(0:Int),())) (fun(t2:List aJ×Unit)=>
  some (decide ((((List.length t2.1:Nat):Int):Int)≤(12:Int)),()))
def mR (k:Nat) (x:bl×bl×Unit):Option (Bool×Unit):=
 some (if(decide ((x.1.1:Int)<x.2.1.1))=true then true else if((x.1.1:Int)==x.2.1.1)=true then decide ((x.1.2:Int)<x.2.1.2)else false,())
def mK (k:Nat) (x:List bl×Unit):Option (Bool×Unit):=
 aO (fun J1=>
  az k (fun G3 (t4:List bl×Int×Unit)=>
   if(decide ((t4.2.1:Int)<((List.length t4.1:Nat):Int)))=true then
    if(decide (0≤t4.2.1∧t4.2.1<((List.length t4.1:Nat):Int)))=true then
     if(!(((decide ((((List.getD t4.1 (Int.toNat t4.2.1) aC.aa).1):Int)<(0:Int))):Bool)==false)||(decide (0≤t4.2.1∧t4.2.1<((List.length t4.1:Nat):Int))))=true then
      if(!((((if(decide ((((List.getD t4.1 (Int.toNat t4.2.1) aC.aa).1):Int)<(0:Int)))=true then true else decide ((((List.getD t4.1 (Int.toNat t4.2.1) aC.aa).2):Int)<(0:Int))):Bool)==false)&&(((decide ((t4.2.1:Int)>(0:Int))):Bool)==true))||(decide (0≤t4.2.1∧t4.2.1<((List.length t4.1:Nat):Int))))=true then
       if(!((((if(decide ((((List.getD t4.1 (Int.toNat t4.2.1) aC.aa).1):Int)<(0:Int)))=true then true else decide ((((List.getD t4.1 (Int.toNat t4.2.1) aC.aa).2):Int)<(0:Int))):Bool)==false)&&(((decide ((t4.2.1:Int)>(0:Int))):Bool)==true))||(decide ((2:Int)≠0)))=true then
        if(!((((if(decide ((((List.getD t4.1 (Int.toNat t4.2.1) aC.aa).1):Int)<(0:Int)))=true then true else decide ((((List.getD t4.1 (Int.toNat t4.2.1) aC.aa).2):Int)<(0:Int))):Bool)==false)&&(((decide ((t4.2.1:Int)>(0:Int))):Bool)==true))||(decide (0≤(IntKind.i64.wrap (Int.tdiv (IntKind.i64.wrap (t4.2.1-(1:Int))) (2:Int)))∧(IntKind.i64.wrap (Int.tdiv (IntKind.i64.wrap (t4.2.1-(1:Int))) (2:Int)))<((List.length t4.1:Nat):Int))))=true then
         Option.bind ((if((((if(decide ((((List.getD t4.1 (Int.toNat t4.2.1) aC.aa).1):Int)<(0:Int)))=true then true else decide ((((List.getD t4.1 (Int.toNat t4.2.1) aC.aa).2):Int)<(0:Int))):Bool)==false)&&(((decide ((t4.2.1:Int)>(0:Int))):Bool)==true))=true then mR k (List.getD t4.1 (Int.toNat t4.2.1) aC.aa,List.getD t4.1 (Int.toNat (IntKind.i64.wrap (Int.tdiv (IntKind.i64.wrap (t4.2.1-(1:Int))) (2:Int)))) aC.aa,())else some (false,()))) fun r5=>
         if(if(if(decide ((((List.getD t4.1 (Int.toNat t4.2.1) aC.aa).1):Int)<(0:Int)))=true then true else decide ((((List.getD t4.1 (Int.toNat t4.2.1) aC.aa).2):Int)<(0:Int)))=true then true else if(decide ((t4.2.1:Int)>(0:Int)))=true then r5.1 else false)=true then
          some (false,())
         else
          G3 (t4.1,IntKind.i64.wrap (t4.2.1+(1:Int)),())
        else
         none
       else
        none
      else
       none
     else
      none
    else
     none
   else
    J1 (t4.1,())) (x.1,(0:Int),())) (fun(t2:List bl×Unit)=>
  some (decide ((((List.length t2.1:Nat):Int):Int)≤(16:Int)),()))
def pq (k:Nat) (x:aJ×Int×Int×Unit):Option (Int×Unit):=
 if((x.1.2.2.2.1:Int)==(-1:Int))=true then
  some (IntKind.i64.wrap (x.1.2.2.1+x.2.1),())
 else
  some (IntKind.i64.wrap (x.1.2.2.2.1+x.2.2.1),())
def rG (k:Nat) (x:cg×aJ×Unit):Option (Int×Unit):=
 Option.bind (pq k (x.2.1,x.1.2.2.2.1,x.1.2.2.2.2.1,())) fun r1=>
 some (r1.1,())
def gn (k:Nat) (x:ar×Unit):Option (Bool×Unit):=
 Option.bind (ky k (x.1.2.2.2.2.2.2.2.1,x.1.1.2.2.2.2.2,())) fun r1=>
 Option.bind ((if(((!r1.1):Bool)==false)=true then mK k (x.1.2.2.2.2.2.2.2.2.2.1,())else some (false,()))) fun r2=>
 if(if(!r1.1)=true then true else !r2.1)=true then
  some (false,())
 else
  aO (fun J3=>
   az k (fun G5 (t6:ar×Int×Unit)=>
    if(decide ((t6.2.1:Int)<((List.length t6.1.2.2.2.2.2.2.2.2.2.1:Nat):Int)))=true then
     if(decide (0≤t6.2.1∧t6.2.1<((List.length t6.1.2.2.2.2.2.2.2.2.2.1:Nat):Int)))=true then
      if(decide ((((List.getD t6.1.2.2.2.2.2.2.2.2.2.1 (Int.toNat t6.2.1) aC.aa).2):Int)≥t6.1.2.2.2.2.2.2.2.2.1))=true then
       some (false,())
      else
       az k (fun G7 (t8:ar×Int×Int×Unit)=>
        if(decide ((t8.2.2.1:Int)<t8.2.1))=true then
         if(decide (0≤t8.2.2.1∧t8.2.2.1<((List.length t8.1.2.2.2.2.2.2.2.2.2.1:Nat):Int)))=true then
          if(decide (0≤t8.2.1∧t8.2.1<((List.length t8.1.2.2.2.2.2.2.2.2.2.1:Nat):Int)))=true then
           if((((List.getD t8.1.2.2.2.2.2.2.2.2.2.1 (Int.toNat t8.2.2.1) aC.aa).2):Int)==((List.getD t8.1.2.2.2.2.2.2.2.2.2.1 (Int.toNat t8.2.1) aC.aa).2))=true then
            some (false,())
           else
            G7 (t8.1,t8.2.1,IntKind.i64.wrap (t8.2.2.1+(1:Int)),())
          else
           none
         else
          none
        else
         G5 (t8.1,IntKind.i64.wrap (t8.2.1+(1:Int)),())) (t6.1,t6.2.1,(0:Int),())
     else
      none
    else
     J3 (t6.1,())) (x.1,(0:Int),())) (fun(t4:ar×Unit)=>
   az k (fun G9 (t10:ar×Int×Unit)=>
    if(decide ((t10.2.1:Int)<((List.length t10.1.2.2.2.2.2.2.2.1:Nat):Int)))=true then
     if(decide (0≤t10.2.1∧t10.2.1<((List.length t10.1.2.2.2.2.2.2.2.1:Nat):Int)))=true then
      if(decide (0≤(4:Int)∧(4:Int)<((List.length t10.1.2.2.2.2.2.2.2.2.2.2.2.2.1:Nat):Int)))=true then
       if(!((((((List.getD t10.1.2.2.2.2.2.2.2.2.2.2.2.2.1 (Int.toNat (4:Int)) ah.aa).1):Int)==(6:Int)):Bool)==true)||(decide (0≤(4:Int)∧(4:Int)<((List.length t10.1.2.2.2.2.2.2.2.2.2.2.2.2.1:Nat):Int))))=true then
        aO (fun J11=>
         az k (fun G13 (t14:ar×Int×aJ×Bool×Int×Unit)=>
          if(decide ((t14.2.2.2.2.1:Int)<((List.length t14.1.2.2.2.2.2.2.2.2.2.1:Nat):Int)))=true then
           if(!((t14.2.2.2.1:Bool)==false)||(decide (0≤t14.2.2.2.2.1∧t14.2.2.2.2.1<((List.length t14.1.2.2.2.2.2.2.2.2.2.1:Nat):Int))))=true then
            if(!(((t14.2.2.2.1:Bool)==false)&&((((((List.getD t14.1.2.2.2.2.2.2.2.2.2.1 (Int.toNat t14.2.2.2.2.1) aC.aa).2):Int)==t14.2.2.1.1):Bool)==true))||(decide (0≤t14.2.2.2.2.1∧t14.2.2.2.2.1<((List.length t14.1.2.2.2.2.2.2.2.2.2.1:Nat):Int))))=true then
             Option.bind ((if(((t14.2.2.2.1:Bool)==false)&&((((((List.getD t14.1.2.2.2.2.2.2.2.2.2.1 (Int.toNat t14.2.2.2.2.1) aC.aa).2):Int)==t14.2.2.1.1):Bool)==true))=true then rG k (t14.1.1,t14.2.2.1,())else some (0,()))) fun r15=>
             G13 (t14.1,t14.2.1,t14.2.2.1,if t14.2.2.2.1=true then true else if((((List.getD t14.1.2.2.2.2.2.2.2.2.2.1 (Int.toNat t14.2.2.2.2.1) aC.aa).2):Int)==t14.2.2.1.1)=true then(((List.getD t14.1.2.2.2.2.2.2.2.2.2.1 (Int.toNat t14.2.2.2.2.1) aC.aa).1):Int)==r15.1 else false,IntKind.i64.wrap (t14.2.2.2.2.1+(1:Int)),())
            else
             none
           else
            none
          else
           J11 (t14.1,t14.2.1,t14.2.2.1,t14.2.2.2.1,())) (t10.1,t10.2.1,List.getD t10.1.2.2.2.2.2.2.2.1 (Int.toNat t10.2.1) al.aa,if((((List.getD t10.1.2.2.2.2.2.2.2.2.2.2.2.2.1 (Int.toNat (4:Int)) ah.aa).1):Int)==(6:Int))=true then((((((((((List.getD t10.1.2.2.2.2.2.2.2.2.2.2.2.2.1 (Int.toNat (4:Int)) ah.aa).2).2).2).2).2).2).2).1):Int)==((List.getD t10.1.2.2.2.2.2.2.2.1 (Int.toNat t10.2.1) al.aa).1)else false,(0:Int),())) (fun(t12:ar×Int×aJ×Bool×Unit)=>
         if(if(if(if(!t12.2.2.2.1)=true then true else decide ((t12.2.2.1.2.2.1:Int)>t12.1.2.2.1))=true then true else decide ((t12.2.2.1.2.2.2.1:Int)>t12.1.2.2.1))=true then true else decide ((t12.2.2.1.1:Int)≥t12.1.2.2.2.2.2.2.2.2.1))=true then
          some (false,())
         else
          G9 (t12.1,IntKind.i64.wrap (t12.2.1+(1:Int)),()))
       else
        none
      else
       none
     else
      none
    else
     some (true,())) (t4.1,(0:Int),()))
def lY (k:Nat) (x:ar×Unit):Option (Bool×Unit):=
 Option.bind (mO k (x.1.1,())) fun r1=>
 Option.bind ((if(((if(if(!r1.1)=true then true else decide ((x.1.2.1:Int)<(0:Int)))=true then true else decide ((x.1.2.2.2.2.2.2.2.2.1:Int)<(0:Int))):Bool)==false)=true then bE k (x.1.2.2.1,(0:Int),(99899:Int),())else some (false,()))) fun r2=>
 Option.bind ((if(((if(if(if(!r1.1)=true then true else decide ((x.1.2.1:Int)<(0:Int)))=true then true else decide ((x.1.2.2.2.2.2.2.2.2.1:Int)<(0:Int)))=true then true else !r2.1):Bool)==false)=true then kz k (x.1,())else some (false,()))) fun r3=>
 Option.bind ((if(((if(if(if(if(if(if(!r1.1)=true then true else decide ((x.1.2.1:Int)<(0:Int)))=true then true else decide ((x.1.2.2.2.2.2.2.2.2.1:Int)<(0:Int)))=true then true else !r2.1)=true then true else !r3.1)=true then true else(((List.length x.1.2.2.2.2.1:Nat):Int):Int) != x.1.1.2.2.1)=true then true else(((List.length x.1.2.2.2.2.2.2.2.2.2.2.2.2.1:Nat):Int):Int) != (5:Int)):Bool)==false)=true then gy k (x.1.2.2.2.2.2.1,())else some (false,()))) fun r4=>
 Option.bind ((if(((if(if(if(if(if(if(if(!r1.1)=true then true else decide ((x.1.2.1:Int)<(0:Int)))=true then true else decide ((x.1.2.2.2.2.2.2.2.2.1:Int)<(0:Int)))=true then true else !r2.1)=true then true else !r3.1)=true then true else(((List.length x.1.2.2.2.2.1:Nat):Int):Int) != x.1.1.2.2.1)=true then true else(((List.length x.1.2.2.2.2.2.2.2.2.2.2.2.2.1:Nat):Int):Int) != (5:Int))=true then true else !r4.1):Bool)==false)=true then gy k (x.1.2.2.2.2.2.2.2.2.2.2.2.1,())else some (false,()))) fun r5=>
 if(if(if(if(if(if(if(if(if(!r1.1)=true then true else decide ((x.1.2.1:Int)<(0:Int)))=true then true else decide ((x.1.2.2.2.2.2.2.2.2.1:Int)<(0:Int)))=true then true else !r2.1)=true then true else !r3.1)=true then true else(((List.length x.1.2.2.2.2.1:Nat):Int):Int) != x.1.1.2.2.1)=true then true else(((List.length x.1.2.2.2.2.2.2.2.2.2.2.2.2.1:Nat):Int):Int) != (5:Int))=true then true else !r4.1)=true then true else !r5.1)=true then
  some (false,())
 else
  aO (fun J6=>
   az k (fun G8 (t9:ar×Int×Unit)=>
    if(decide ((t9.2.1:Int)<((List.length t9.1.2.2.2.2.1:Nat):Int)))=true then
     if(decide (0≤t9.2.1∧t9.2.1<((List.length t9.1.2.2.2.2.1:Nat):Int)))=true then
      Option.bind (nZ k (List.getD t9.1.2.2.2.2.1 (Int.toNat t9.2.1) aU.aa,())) fun r10=>
      if(!r10.1)=true then
       some (false,())
      else
       G8 (t9.1,IntKind.i64.wrap (t9.2.1+(1:Int)),())
     else
      none
    else
     J6 (t9.1,())) (x.1,(0:Int),())) (fun(t7:ar×Unit)=>
   aO (fun J11=>
    az k (fun G13 (t14:ar×Int×Unit)=>
     if(decide ((t14.2.1:Int)<((List.length t14.1.2.2.2.2.2.2.2.2.2.2.2.2.2:Nat):Int)))=true then
      if(decide (0≤t14.2.1∧t14.2.1<((List.length t14.1.2.2.2.2.2.2.2.2.2.2.2.2.2:Nat):Int)))=true then
       Option.bind (gx k (List.getD t14.1.2.2.2.2.2.2.2.2.2.2.2.2.2 (Int.toNat t14.2.1) ak.aa,())) fun r15=>
       if(if(if(if(!r15.1)=true then true else decide (((((((((((((List.getD t14.1.2.2.2.2.2.2.2.2.2.2.2.2.2 (Int.toNat t14.2.1) ak.aa).2).2).2).2).2).2).2).2).2).1):Int)≥t14.1.2.1))=true then true else decide ((((((((((((((List.getD t14.1.2.2.2.2.2.2.2.2.2.2.2.2.2 (Int.toNat t14.2.1) ak.aa).2).2).2).2).2).2).2).2).2).2).1):Int)≥t14.1.2.1))=true then true else decide ((((((((((((((List.getD t14.1.2.2.2.2.2.2.2.2.2.2.2.2.2 (Int.toNat t14.2.1) ak.aa).2).2).2).2).2).2).2).2).2).2).2):Int)≥t14.1.2.1))=true then
        some (false,())
       else
        G13 (t14.1,IntKind.i64.wrap (t14.2.1+(1:Int)),())
      else
       none
     else
      J11 (t14.1,())) (t7.1,(0:Int),())) (fun(t12:ar×Unit)=>
    aO (fun J16=>
     az k (fun G18 (t19:ar×Int×Unit)=>
      if(decide ((t19.2.1:Int)<((List.length t19.1.2.2.2.2.2.2.2.2.2.2.2.2.1:Nat):Int)))=true then
       Option.bind (mc k (t19.1,t19.2.1,())) fun r20=>
       if(!r20.1)=true then
        some (false,())
       else
        G18 (t19.1,IntKind.i64.wrap (t19.2.1+(1:Int)),())
      else
       J16 (t19.1,())) (t12.1,(0:Int),())) (fun(t17:ar×Unit)=>
     Option.bind (gH k (t17.1,())) fun r21=>
     Option.bind ((if((r21.1:Bool)==true)=true then gn k (t17.1,())else some (false,()))) fun r22=>
     some (if r21.1=true then r22.1 else false,()))))
def pV (k:Nat) (x:ar×Int×Unit):Option (Bool×Unit):=
 Option.bind (bE k (x.2.1,(0:Int),IntKind.i64.wrap (((List.length x.1.2.2.2.2.2.2.2.2.2.2.2.2.1:Nat):Int)-(1:Int)),())) fun r1=>
 if(!((r1.1:Bool)==true)||(decide (0≤x.2.1∧x.2.1<((List.length x.1.2.2.2.2.2.2.2.2.2.2.2.2.1:Nat):Int))))=true then
  some (if r1.1=true then(((List.getD x.1.2.2.2.2.2.2.2.2.2.2.2.2.1 (Int.toNat x.2.1) ah.aa).1):Int)==(0:Int)else false,())
 else
  none
def fp (k:Nat) (x:ar×Int×aM×Unit):Option (ar×Unit):=
 Option.bind (iz k (x.2.2.1,())) fun r1=>
 if(decide (0≤x.2.1∧x.2.1<((List.length x.1.2.2.2.2.2.2.2.2.2.2.2.2.1:Nat):Int)))=true then
  Option.bind (eh k (x.2.2.1.1,())) fun r2=>
  Option.bind (dt k (x.2.2.1.2.2.1,())) fun r3=>
  if(decide (List.length ([]:List aj)+List.length x.2.2.1.2.2.2.1<4294967296))=true then
   if(decide (List.length x.1.2.2.2.2.2.2.2.2.2.2.2.2.2+List.length ([(r2.1,x.2.1,r3.1,([]:List aj)++x.2.2.1.2.2.2.1,0,x.2.2.1.2.2.2.2.2.2.2.1,0,([]:List ai),x.1.2.2.1,x.1.2.1,(-1:Int),(-1:Int))]:List aY)<4294967296))=true then
    some ((x.1.1,x.1.2.1,x.1.2.2.1,x.1.2.2.2.1,x.1.2.2.2.2.1,x.1.2.2.2.2.2.1,x.1.2.2.2.2.2.2.1,x.1.2.2.2.2.2.2.2.1,x.1.2.2.2.2.2.2.2.2.1,x.1.2.2.2.2.2.2.2.2.2.1,x.1.2.2.2.2.2.2.2.2.2.2.1,x.1.2.2.2.2.2.2.2.2.2.2.2.1,List.set x.1.2.2.2.2.2.2.2.2.2.2.2.2.1 (Int.toNat x.2.1) (r1.1.1,r1.1.2.1,r1.1.2.2.1,r1.1.2.2.2.1,r1.1.2.2.2.2.1,r1.1.2.2.2.2.2.1,r1.1.2.2.2.2.2.2.1,r1.1.2.2.2.2.2.2.2.1,((List.length x.1.2.2.2.2.2.2.2.2.2.2.2.2.2:Nat):Int)),x.1.2.2.2.2.2.2.2.2.2.2.2.2.2++([(r2.1,x.2.1,r3.1,([]:List aj)++x.2.2.1.2.2.2.1,0,x.2.2.1.2.2.2.2.2.2.2.1,0,([]:List ai),x.1.2.2.1,x.1.2.1,(-1:Int),(-1:Int))]:List aY)),())
   else
    none
  else
   none
 else
  none
def kt (k:Nat) (x:ar×aY×Unit):Option (ar×Unit):=
 if(decide (List.length x.1.2.2.2.2.2.2.2.2.2.2.2.2.2+List.length ([(x.2.1.1,x.2.1.2.1,x.2.1.2.2.1,x.2.1.2.2.2.1,x.2.1.2.2.2.2.1,x.2.1.2.2.2.2.2.1,x.2.1.2.2.2.2.2.2.1,x.2.1.2.2.2.2.2.2.2.1,x.1.2.2.1,x.1.2.1,x.1.2.1,x.1.2.1)]:List aY)<4294967296))=true then
  some ((x.1.1,x.1.2.1,x.1.2.2.1,x.1.2.2.2.1,x.1.2.2.2.2.1,x.1.2.2.2.2.2.1,x.1.2.2.2.2.2.2.1,x.1.2.2.2.2.2.2.2.1,x.1.2.2.2.2.2.2.2.2.1,x.1.2.2.2.2.2.2.2.2.2.1,x.1.2.2.2.2.2.2.2.2.2.2.1,x.1.2.2.2.2.2.2.2.2.2.2.2.1,x.1.2.2.2.2.2.2.2.2.2.2.2.2.1,x.1.2.2.2.2.2.2.2.2.2.2.2.2.2++([(x.2.1.1,x.2.1.2.1,x.2.1.2.2.1,x.2.1.2.2.2.1,x.2.1.2.2.2.2.1,x.2.1.2.2.2.2.2.1,x.2.1.2.2.2.2.2.2.1,x.2.1.2.2.2.2.2.2.2.1,x.1.2.2.1,x.1.2.1,x.1.2.1,x.1.2.1)]:List aY)),())
 else
  none
def nW (k:Nat) (x:ar×Int×ai×Unit):Option (ar×Unit):=
 aO (fun J1=>
  Option.bind (j8 k (x.1.1,x.2.2.1,())) fun r3=>
  if r3.1=true then
   Option.bind (fp k (x.1,x.2.1,((1:Int),0,x.2.2.1,([]:List aj),0,([]:List Int),([]:List ai),0,0),())) fun r4=>
   J1 (r4.1,x.2.2.1,())
  else
   Option.bind (dt k (x.2.2.1,())) fun r5=>
   Option.bind (kt k (x.1,((1:Int),x.2.1,r5.1,([]:List aj),0,0,(4:Int),([]:List ai),0,0,0,0),())) fun r6=>
   J1 (r6.1,x.2.2.1,())) (fun(t2:ar×ai×Unit)=>
  some ((t2.1.1,IntKind.i64.wrap (t2.1.2.1+(1:Int)),t2.1.2.2),()))
def od (k:Nat) (x:ar×Int×ai×Unit):Option (ar×Bool×Unit):=
 Option.bind (mb k (x.1,())) fun r1=>
 Option.bind (lY k (x.1,())) fun r2=>
 Option.bind ((if(((!r2.1):Bool)==false)=true then bE k (x.2.1,(0:Int),(2:Int),())else some (false,()))) fun r3=>
 Option.bind ((if(((if(!r2.1)=true then true else !r3.1):Bool)==false)=true then pV k (x.1,x.2.1,())else some (false,()))) fun r4=>
 if(if(if(!r2.1)=true then true else !r3.1)=true then true else !r4.1)=true then
  some (r1.1,false,())
 else
  Option.bind (nW k (r1.1,x.2.1,x.2.2.1,())) fun r5=>
  some (r5.1,true,())
def kF (k:Nat) (x:cg×Unit):Option (cg×Unit):=
 if(decide (List.length ([]:List ByteArray)+List.length x.1.2.2.2.2.2<4294967296))=true then
  some ((x.1.1,x.1.2.1,x.1.2.2.1,x.1.2.2.2.1,x.1.2.2.2.2.1,([]:List ByteArray)++x.1.2.2.2.2.2),())
 else
  none
def et (k:Nat) (x:List aj×Unit):Option (List aj×Unit):=
 if(decide (List.length ([]:List aj)+List.length x.1<4294967296))=true then
  some (([]:List aj)++x.1,())
 else
  none
def cS (k:Nat) (x:ai×Unit):Option (ai×Unit):=
 Option.bind (et k (x.1.1,())) fun r1=>
 some ((r1.1,x.1.2),())
def cw (k:Nat) (x:List ai×Unit):Option (List ai×Unit):=
 az k (fun G1 (t2:List ai×List ai×Int×Int×Unit)=>
  if(decide ((t2.2.2.2.1:Int)<t2.2.2.1))=true then
   if(decide (0≤t2.2.2.2.1∧t2.2.2.2.1<((List.length t2.2.1:Nat):Int)))=true then
    Option.bind (cS k (List.getD t2.2.1 (Int.toNat t2.2.2.2.1) ab.aa,())) fun r3=>
    if(decide (List.length t2.1+List.length ([r3.1]:List ai)<4294967296))=true then
     G1 (t2.1++([r3.1]:List ai),t2.2.1,t2.2.2.1,IntKind.i64.wrap (t2.2.2.2.1+(1:Int)),())
    else
     none
   else
    none
  else
   some (t2.1,())) (([]:List ai),x.1,((List.length x.1:Nat):Int),(0:Int),())
def jB (k:Nat) (x:bc×Unit):Option (bc×Unit):=
 Option.bind (cw k (x.1.2,())) fun r1=>
 some ((x.1.1,r1.1),())
def gz (k:Nat) (x:aG×Unit):Option (aG×Unit):=
 az k (fun G1 (t2:aG×aG×aG×List bc×Int×Int×Unit)=>
  if(decide ((t2.2.2.2.2.2.1:Int)<t2.2.2.2.2.1))=true then
   if(decide (0≤t2.2.2.2.2.2.1∧t2.2.2.2.2.2.1<((List.length t2.2.2.2.1:Nat):Int)))=true then
    Option.bind (jB k (List.getD t2.2.2.2.1 (Int.toNat t2.2.2.2.2.2.1) ay.aa,())) fun r3=>
    if(decide (List.length t2.2.2.1.2.2+List.length ([r3.1]:List bc)<4294967296))=true then
     G1 (t2.1,t2.2.1,(t2.2.2.1.1,t2.2.2.1.2.1,t2.2.2.1.2.2++([r3.1]:List bc)),t2.2.2.2.1,t2.2.2.2.2.1,IntKind.i64.wrap (t2.2.2.2.2.2.1+(1:Int)),())
    else
     none
   else
    none
  else
   some (t2.2.2.1,())) (x.1,(0,0,([]:List bc)),(x.1.1,x.1.2.1,([]:List bc)),x.1.2.2,((List.length x.1.2.2:Nat):Int),(0:Int),())
def nB (k:Nat) (x:List aG×Unit):Option (List aG×Unit):=
 az k (fun G1 (t2:List aG×List aG×Int×Int×Unit)=>
  if(decide ((t2.2.2.2.1:Int)<t2.2.2.1))=true then
   if(decide (0≤t2.2.2.2.1∧t2.2.2.2.1<((List.length t2.2.1:Nat):Int)))=true then
    Option.bind (gz k (List.getD t2.2.1 (Int.toNat t2.2.2.2.1) aq.aa,())) fun r3=>
    if(decide (List.length t2.1+List.length ([r3.1]:List aG)<4294967296))=true then
     G1 (t2.1++([r3.1]:List aG),t2.2.1,t2.2.2.1,IntKind.i64.wrap (t2.2.2.2.1+(1:Int)),())
    else
     none
   else
    none
  else
   some (t2.1,())) (([]:List aG),x.1,((List.length x.1:Nat):Int),(0:Int),())
def iV (k:Nat) (x:bF×Unit):Option (bF×Unit):=
 Option.bind (cw k (x.1.1,())) fun r1=>
 some ((r1.1,x.1.2),())
def ow (k:Nat) (x:List bF×Unit):Option (List bF×Unit):=
 az k (fun G1 (t2:List bF×List bF×Int×Int×Unit)=>
  if(decide ((t2.2.2.2.1:Int)<t2.2.2.1))=true then
   if(decide (0≤t2.2.2.2.1∧t2.2.2.2.1<((List.length t2.2.1:Nat):Int)))=true then
    Option.bind (iV k (List.getD t2.2.1 (Int.toNat t2.2.2.2.1) aU.aa,())) fun r3=>
    if(decide (List.length t2.1+List.length ([r3.1]:List bF)<4294967296))=true then
     G1 (t2.1++([r3.1]:List bF),t2.2.1,t2.2.2.1,IntKind.i64.wrap (t2.2.2.2.1+(1:Int)),())
    else
     none
   else
    none
  else
   some (t2.1,())) (([]:List bF),x.1,((List.length x.1:Nat):Int),(0:Int),())
def gg (k:Nat) (x:aJ×Unit):Option (aJ×Unit):=
 Option.bind (et k (x.1.2.1,())) fun r1=>
 Option.bind (cw k (x.1.2.2.2.2,())) fun r2=>
 some ((x.1.1,r1.1,x.1.2.2.1,x.1.2.2.2.1,r2.1),())
def mo (k:Nat) (x:List aJ×Unit):Option (List aJ×Unit):=
 az k (fun G1 (t2:List aJ×List aJ×Int×Int×Unit)=>
  if(decide ((t2.2.2.2.1:Int)<t2.2.2.1))=true then
   if(decide (0≤t2.2.2.2.1∧t2.2.2.2.1<((List.length t2.2.1:Nat):Int)))=true then
    Option.bind (gg k (List.getD t2.2.1 (Int.toNat t2.2.2.2.1) al.aa,())) fun r3=>
    if(decide (List.length t2.1+List.length ([r3.1]:List aJ)<4294967296))=true then
     G1 (t2.1++([r3.1]:List aJ),t2.2.1,t2.2.2.1,IntKind.i64.wrap (t2.2.2.2.1+(1:Int)),())
    else
     none
   else
    none
  else
   some (t2.1,())) (([]:List aJ),x.1,((List.length x.1:Nat):Int),(0:Int),())
def iq (k:Nat) (x:List bl×Unit):Option (List bl×Unit):=
 if(decide (List.length ([]:List bl)+List.length x.1<4294967296))=true then
  some (([]:List bl)++x.1,())
 else
  none
def jr (k:Nat) (x:bz×Unit):Option (bz×Unit):=
 Option.bind (et k (x.1.2.1,())) fun r1=>
 Option.bind (cw k (x.1.2.2.2,())) fun r2=>
 some ((x.1.1,r1.1,x.1.2.2.1,r2.1),())
def kC (k:Nat) (x:aM×Unit):Option (aM×Unit):=
 Option.bind (cS k (x.1.2.2.1,())) fun r1=>
 Option.bind (et k (x.1.2.2.2.1,())) fun r2=>
 if(decide (List.length ([]:List Int)+List.length x.1.2.2.2.2.2.1<4294967296))=true then
  Option.bind (cw k (x.1.2.2.2.2.2.2.1,())) fun r3=>
  some ((x.1.1,x.1.2.1,r1.1,r2.1,x.1.2.2.2.2.1,([]:List Int)++x.1.2.2.2.2.2.1,r3.1,x.1.2.2.2.2.2.2.2),())
 else
  none
def kq (k:Nat) (x:aY×Unit):Option (aY×Unit):=
 Option.bind (cS k (x.1.2.2.1,())) fun r1=>
 Option.bind (et k (x.1.2.2.2.1,())) fun r2=>
 Option.bind (cw k (x.1.2.2.2.2.2.2.2.1,())) fun r3=>
 some ((x.1.1,x.1.2.1,r1.1,r2.1,x.1.2.2.2.2.1,x.1.2.2.2.2.2.1,x.1.2.2.2.2.2.2.1,r3.1,x.1.2.2.2.2.2.2.2.2),())
def eZ (k:Nat) (x:ar×Unit):Option (ar×Unit):=
 Option.bind (kF k (x.1.1,())) fun r1=>
 Option.bind (nB k (x.1.2.2.2.1,())) fun r2=>
 Option.bind (ow k (x.1.2.2.2.2.1,())) fun r3=>
 Option.bind (cw k (x.1.2.2.2.2.2.1,())) fun r4=>
 Option.bind (cw k (x.1.2.2.2.2.2.2.2.2.2.2.2.1,())) fun r5=>
 Option.bind (mo k (x.1.2.2.2.2.2.2.2.1,())) fun r6=>
 Option.bind (iq k (x.1.2.2.2.2.2.2.2.2.2.1,())) fun r7=>
 aO (fun J8=>
  az k (fun G10 (t11:ar×ar×List bz×List bz×Int×Int×Unit)=>
   if(decide ((t11.2.2.2.2.2.1:Int)<t11.2.2.2.2.1))=true then
    if(decide (0≤t11.2.2.2.2.2.1∧t11.2.2.2.2.2.1<((List.length t11.2.2.2.1:Nat):Int)))=true then
     Option.bind (jr k (List.getD t11.2.2.2.1 (Int.toNat t11.2.2.2.2.2.1) aN.aa,())) fun r12=>
     if(decide (List.length t11.2.2.1+List.length ([r12.1]:List bz)<4294967296))=true then
      G10 (t11.1,t11.2.1,t11.2.2.1++([r12.1]:List bz),t11.2.2.2.1,t11.2.2.2.2.1,IntKind.i64.wrap (t11.2.2.2.2.2.1+(1:Int)),())
     else
      none
    else
     none
   else
    J8 (t11.1,t11.2.1,t11.2.2.1,())) ((r1.1,x.1.2.1,x.1.2.2.1,r2.1,r3.1,r4.1,x.1.2.2.2.2.2.2.1,r6.1,x.1.2.2.2.2.2.2.2.2.1,r7.1,x.1.2.2.2.2.2.2.2.2.2.2.1,r5.1,x.1.2.2.2.2.2.2.2.2.2.2.2.2),((0,0,0,0,0,([]:List ByteArray)),0,0,([]:List aG),([]:List bF),([]:List ai),0,([]:List aJ),0,([]:List bl),([]:List bz),([]:List ai),([]:List aM),([]:List aY)),([]:List bz),x.1.2.2.2.2.2.2.2.2.2.2.1,((List.length x.1.2.2.2.2.2.2.2.2.2.2.1:Nat):Int),(0:Int),())) (fun(t9:ar×ar×List bz×Unit)=>
  aO (fun J13=>
   az k (fun G15 (t16:ar×ar×List bz×List aM×List aM×Int×Int×Unit)=>
    if(decide ((t16.2.2.2.2.2.2.1:Int)<t16.2.2.2.2.2.1))=true then
     if(decide (0≤t16.2.2.2.2.2.2.1∧t16.2.2.2.2.2.2.1<((List.length t16.2.2.2.2.1:Nat):Int)))=true then
      Option.bind (kC k (List.getD t16.2.2.2.2.1 (Int.toNat t16.2.2.2.2.2.2.1) ah.aa,())) fun r17=>
      if(decide (List.length t16.2.2.2.1+List.length ([r17.1]:List aM)<4294967296))=true then
       G15 (t16.1,t16.2.1,t16.2.2.1,t16.2.2.2.1++([r17.1]:List aM),t16.2.2.2.2.1,t16.2.2.2.2.2.1,IntKind.i64.wrap (t16.2.2.2.2.2.2.1+(1:Int)),())
      else
       none
     else
      none
    else
     J13 (t16.1,t16.2.1,t16.2.2.1,t16.2.2.2.1,())) (t9.1,t9.2.1,t9.2.2.1,([]:List aM),t9.1.2.2.2.2.2.2.2.2.2.2.2.2.1,((List.length t9.1.2.2.2.2.2.2.2.2.2.2.2.2.1:Nat):Int),(0:Int),())) (fun(t14:ar×ar×List bz×List aM×Unit)=>
   aO (fun J18=>
    az k (fun G20 (t21:ar×ar×List bz×List aM×List aY×List aY×Int×Int×Unit)=>
     if(decide ((t21.2.2.2.2.2.2.2.1:Int)<t21.2.2.2.2.2.2.1))=true then
      if(decide (0≤t21.2.2.2.2.2.2.2.1∧t21.2.2.2.2.2.2.2.1<((List.length t21.2.2.2.2.2.1:Nat):Int)))=true then
       Option.bind (kq k (List.getD t21.2.2.2.2.2.1 (Int.toNat t21.2.2.2.2.2.2.2.1) ak.aa,())) fun r22=>
       if(decide (List.length t21.2.2.2.2.1+List.length ([r22.1]:List aY)<4294967296))=true then
        G20 (t21.1,t21.2.1,t21.2.2.1,t21.2.2.2.1,t21.2.2.2.2.1++([r22.1]:List aY),t21.2.2.2.2.2.1,t21.2.2.2.2.2.2.1,IntKind.i64.wrap (t21.2.2.2.2.2.2.2.1+(1:Int)),())
       else
        none
      else
       none
     else
      J18 (t21.1,t21.2.1,t21.2.2.1,t21.2.2.2.1,t21.2.2.2.2.1,())) (t14.1,t14.2.1,t14.2.2.1,t14.2.2.2.1,([]:List aY),t14.1.2.2.2.2.2.2.2.2.2.2.2.2.2,((List.length t14.1.2.2.2.2.2.2.2.2.2.2.2.2.2:Nat):Int),(0:Int),())) (fun(t19:ar×ar×List bz×List aM×List aY×Unit)=>
    some ((t19.1.1,t19.1.2.1,t19.1.2.2.1,t19.1.2.2.2.1,t19.1.2.2.2.2.1,t19.1.2.2.2.2.2.1,t19.1.2.2.2.2.2.2.1,t19.1.2.2.2.2.2.2.2.1,t19.1.2.2.2.2.2.2.2.2.1,t19.1.2.2.2.2.2.2.2.2.2.1,t19.2.2.1,t19.1.2.2.2.2.2.2.2.2.2.2.2.1,t19.2.2.2.1,t19.2.2.2.2.1),()))))
def bA (k:Nat) (x:Int×Int×Int×Unit):Option (Bool×Unit):=
 some (if(decide ((x.1:Int)≥x.2.1))=true then decide ((x.1:Int)≤x.2.2.1)else false,())
def jP (k:Nat) (x:ByteArray×Unit):Option (Bool×Unit):=
 Option.bind (bA k (((ByteArray.size x.1:Nat):Int),(1:Int),(8:Int),())) fun r1=>
 if(!r1.1)=true then
  some (false,())
 else
  az k (fun G2 (t3:ByteArray×Int×Unit)=>
   if(decide ((t3.2.1:Int)<((ByteArray.size t3.1:Nat):Int)))=true then
    if(decide (0≤t3.2.1∧t3.2.1<((ByteArray.size t3.1:Nat):Int)))=true then
     if(!(((decide (((bt t3.1 t3.2.1):Int)<(97:Int))):Bool)==false)||(decide (0≤t3.2.1∧t3.2.1<((ByteArray.size t3.1:Nat):Int))))=true then
      if(if(decide (((bt t3.1 t3.2.1):Int)<(97:Int)))=true then true else decide (((bt t3.1 t3.2.1):Int)>(122:Int)))=true then
       some (false,())
      else
       G2 (t3.1,IntKind.i64.wrap (t3.2.1+(1:Int)),())
     else
      none
    else
     none
   else
    some (true,())) (x.1,(0:Int),())
def lZ (k:Nat) (x:List ByteArray×Unit):Option (Bool×Unit):=
 az k (fun G1 (t2:List ByteArray×Int×Unit)=>
  if(decide ((t2.2.1:Int)<((List.length t2.1:Nat):Int)))=true then
   if(decide (0≤(IntKind.i64.wrap (t2.2.1-(1:Int)))∧(IntKind.i64.wrap (t2.2.1-(1:Int)))<((List.length t2.1:Nat):Int)))=true then
    if(decide (0≤t2.2.1∧t2.2.1<((List.length t2.1:Nat):Int)))=true then
     if(!(Op.bytesLess (ByteArray.toList (List.getD t2.1 (Int.toNat (IntKind.i64.wrap (t2.2.1-(1:Int)))) ByteArray.empty)) (ByteArray.toList (List.getD t2.1 (Int.toNat t2.2.1) ByteArray.empty))))=true then
      some (false,())
     else
      G1 (t2.1,IntKind.i64.wrap (t2.2.1+(1:Int)),())
    else
     none
   else
    none
  else
   some (true,())) (x.1,(1:Int),())
def pT (k:Nat) (x:List ByteArray×Unit):Option (Bool×Unit):=
 aO (fun J1=>
  az k (fun G3 (t4:List ByteArray×List ByteArray×Int×Int×Unit)=>
   if(decide ((t4.2.2.2.1:Int)<t4.2.2.1))=true then
    if(decide (0≤t4.2.2.2.1∧t4.2.2.2.1<((List.length t4.2.1:Nat):Int)))=true then
     Option.bind (jP k (List.getD t4.2.1 (Int.toNat t4.2.2.2.1) ByteArray.empty,())) fun r5=>
     if(!r5.1)=true then
      some (false,())
     else
      G3 (t4.1,t4.2.1,t4.2.2.1,IntKind.i64.wrap (t4.2.2.2.1+(1:Int)),())
    else
     none
   else
    J1 (t4.1,())) (x.1,x.1,((List.length x.1:Nat):Int),(0:Int),())) (fun(t2:List ByteArray×Unit)=>
  Option.bind ((if(((decide ((((List.length t2.1:Nat):Int):Int)≤(2:Int))):Bool)==true)=true then lZ k (t2.1,())else some (false,()))) fun r6=>
  some (if(decide ((((List.length t2.1:Nat):Int):Int)≤(2:Int)))=true then r6.1 else false,()))
def nh (k:Nat) (x:cg×Unit):Option (Bool×Unit):=
 Option.bind (bA k (x.1.1,(1:Int),(3:Int),())) fun r1=>
 Option.bind ((if((r1.1:Bool)==true)=true then bA k (x.1.2.1,(1:Int),(8:Int),())else some (false,()))) fun r2=>
 Option.bind ((if(((if r1.1=true then r2.1 else false):Bool)==true)=true then bA k (x.1.2.2.1,(1:Int),(2:Int),())else some (false,()))) fun r3=>
 Option.bind ((if(((if(if r1.1=true then r2.1 else false)=true then r3.1 else false):Bool)==true)=true then bA k (x.1.2.2.2.1,(1:Int),(9:Int),())else some (false,()))) fun r4=>
 Option.bind ((if(((if(if(if r1.1=true then r2.1 else false)=true then r3.1 else false)=true then r4.1 else false):Bool)==true)=true then bA k (x.1.2.2.2.2.1,(1:Int),(9:Int),())else some (false,()))) fun r5=>
 Option.bind ((if(((if(if(if(if r1.1=true then r2.1 else false)=true then r3.1 else false)=true then r4.1 else false)=true then r5.1 else false):Bool)==true)=true then pT k (x.1.2.2.2.2.2,())else some (false,()))) fun r6=>
 some (if(if(if(if(if r1.1=true then r2.1 else false)=true then r3.1 else false)=true then r4.1 else false)=true then r5.1 else false)=true then r6.1 else false,())
def iI (k:Nat) (x:ByteArray×Unit):Option (Bool×Unit):=
 if(decide ((((ByteArray.size x.1:Nat):Int):Int)>(12:Int)))=true then
  some (false,())
 else
  az k (fun G1 (t2:ByteArray×Int×Unit)=>
   if(decide ((t2.2.1:Int)<((ByteArray.size t2.1:Nat):Int)))=true then
    if(decide (0≤t2.2.1∧t2.2.1<((ByteArray.size t2.1:Nat):Int)))=true then
     if(if(if(if(decide (((bt t2.1 t2.2.1):Int)<(32:Int)))=true then true else decide (((bt t2.1 t2.2.1):Int)>(126:Int)))=true then true else((bt t2.1 t2.2.1):Int)==(34:Int))=true then true else((bt t2.1 t2.2.1):Int)==(92:Int))=true then
      some (false,())
     else
      G1 (t2.1,IntKind.i64.wrap (t2.2.1+(1:Int)),())
    else
     none
   else
    some (true,())) (x.1,(0:Int),())
def lU (k:Nat) (x:aj×Unit):Option (Bool×Unit):=
 Option.bind (jP k (x.1.1,())) fun r1=>
 Option.bind ((if((r1.1:Bool)==true)=true then iI k (x.1.2,())else some (false,()))) fun r2=>
 some (if r1.1=true then r2.1 else false,())
def ga (k:Nat) (x:List aj×Unit):Option (Bool×Unit):=
 az k (fun G1 (t2:List aj×List aj×Int×Int×Unit)=>
  if(decide ((t2.2.2.2.1:Int)<t2.2.2.1))=true then
   if(decide (0≤t2.2.2.2.1∧t2.2.2.2.1<((List.length t2.2.1:Nat):Int)))=true then
    Option.bind ((if(((decide ((t2.2.2.2.1:Int)≥(4:Int))):Bool)==false)=true then lU k (List.getD t2.2.1 (Int.toNat t2.2.2.2.1) af.aa,())else some (false,()))) fun r3=>
    if(!((((if(decide ((t2.2.2.2.1:Int)≥(4:Int)))=true then true else !r3.1):Bool)==false)&&(((decide ((t2.2.2.2.1:Int)>(0:Int))):Bool)==true))||(decide (0≤(IntKind.i64.wrap (t2.2.2.2.1-(1:Int)))∧(IntKind.i64.wrap (t2.2.2.2.1-(1:Int)))<((List.length t2.1:Nat):Int))))=true then
     if(if(if(decide ((t2.2.2.2.1:Int)≥(4:Int)))=true then true else !r3.1)=true then true else if(decide ((t2.2.2.2.1:Int)>(0:Int)))=true then !(Op.bytesLess (ByteArray.toList ((List.getD t2.1 (Int.toNat (IntKind.i64.wrap (t2.2.2.2.1-(1:Int)))) af.aa).1)) (ByteArray.toList ((List.getD t2.2.1 (Int.toNat t2.2.2.2.1) af.aa).1)))else false)=true then
      some (false,())
     else
      G1 (t2.1,t2.2.1,t2.2.2.1,IntKind.i64.wrap (t2.2.2.2.1+(1:Int)),())
    else
     none
   else
    none
  else
   some (true,())) (x.1,x.1,((List.length x.1:Nat):Int),(0:Int),())
def dS (k:Nat) (x:ai×Unit):Option (Bool×Unit):=
 Option.bind ((if(((decide ((((List.length x.1.1:Nat):Int):Int)>(0:Int))):Bool)==true)=true then ga k (x.1.1,())else some (false,()))) fun r1=>
 Option.bind ((if(((if(decide ((((List.length x.1.1:Nat):Int):Int)>(0:Int)))=true then r1.1 else false):Bool)==true)=true then bA k (x.1.2.1,(0:Int),(99999:Int),())else some (false,()))) fun r2=>
 Option.bind ((if(((if(if(decide ((((List.length x.1.1:Nat):Int):Int)>(0:Int)))=true then r1.1 else false)=true then r2.1 else false):Bool)==true)=true then bA k (x.1.2.2.1,x.1.2.1,(99999:Int),())else some (false,()))) fun r3=>
 Option.bind ((if(((if(if(if(decide ((((List.length x.1.1:Nat):Int):Int)>(0:Int)))=true then r1.1 else false)=true then r2.1 else false)=true then r3.1 else false):Bool)==true)=true then iI k (x.1.2.2.2,())else some (false,()))) fun r4=>
 some (if(if(if(if(decide ((((List.length x.1.1:Nat):Int):Int)>(0:Int)))=true then r1.1 else false)=true then r2.1 else false)=true then r3.1 else false)=true then r4.1 else false,())
def lH (k:Nat) (x:List aj×Unit):Option (ByteArray×Unit):=
 Option.bind (ga k (x.1,())) fun r1=>
 if(!r1.1)=true then
  some ((⟨#[]⟩:ByteArray),())
 else
  aO (fun J2=>
   az k (fun G4 (t5:List ByteArray×List aj×Int×Int×Unit)=>
    if(decide ((t5.2.2.2.1:Int)<t5.2.2.1))=true then
     if(decide (0≤t5.2.2.2.1∧t5.2.2.2.1<((List.length t5.2.1:Nat):Int)))=true then
      if(decide ((((List.getD t5.2.1 (Int.toNat t5.2.2.2.1) af.aa).1)).size+((⟨#[61,34]⟩:ByteArray)).size<4294967296))=true then
       if(decide (((((List.getD t5.2.1 (Int.toNat t5.2.2.2.1) af.aa).1)++(⟨#[61,34]⟩:ByteArray))).size+(((List.getD t5.2.1 (Int.toNat t5.2.2.2.1) af.aa).2)).size<4294967296))=true then
        if(decide ((((((List.getD t5.2.1 (Int.toNat t5.2.2.2.1) af.aa).1)++(⟨#[61,34]⟩:ByteArray))++((List.getD t5.2.1 (Int.toNat t5.2.2.2.1) af.aa).2))).size+((⟨#[34]⟩:ByteArray)).size<4294967296))=true then
         if(decide (List.length t5.1+List.length ([((((List.getD t5.2.1 (Int.toNat t5.2.2.2.1) af.aa).1)++(⟨#[61,34]⟩:ByteArray))++((List.getD t5.2.1 (Int.toNat t5.2.2.2.1) af.aa).2))++(⟨#[34]⟩:ByteArray)]:List ByteArray)<4294967296))=true then
          G4 (t5.1++([((((List.getD t5.2.1 (Int.toNat t5.2.2.2.1) af.aa).1)++(⟨#[61,34]⟩:ByteArray))++((List.getD t5.2.1 (Int.toNat t5.2.2.2.1) af.aa).2))++(⟨#[34]⟩:ByteArray)]:List ByteArray),t5.2.1,t5.2.2.1,IntKind.i64.wrap (t5.2.2.2.1+(1:Int)),())
         else
          none
        else
         none
       else
        none
      else
       none
     else
      none
    else
     J2 (t5.1,())) (([]:List ByteArray),x.1,((List.length x.1:Nat):Int),(0:Int),())) (fun(t3:List ByteArray×Unit)=>
   Option.bind (pL k (t3.1,(⟨#[44,32]⟩:ByteArray),())) fun r6=>
   if(decide (((⟨#[123]⟩:ByteArray)).size+(r6.1).size<4294967296))=true then
    if(decide ((((⟨#[123]⟩:ByteArray)++r6.1)).size+((⟨#[125]⟩:ByteArray)).size<4294967296))=true then
     some (((⟨#[123]⟩:ByteArray)++r6.1)++(⟨#[125]⟩:ByteArray),())
    else
     none
   else
    none)
def o9 (k:Nat) (x:ByteArray×Unit):Option (Int×Unit):=
 aO (fun J1=>
  az k (fun G3 (t4:ByteArray×Int×Int×Unit)=>
   if(decide ((t4.2.2.1:Int)<((ByteArray.size t4.1:Nat):Int)))=true then
    if(decide (0≤t4.2.2.1∧t4.2.2.1<((ByteArray.size t4.1:Nat):Int)))=true then
     G3 (t4.1,IntKind.u32.wrap ((bits (fun _=>(·^^^·)) .u32 t4.2.1 (IntKind.u32.wrap (bt t4.1 t4.2.2.1)))*(16777619:Int)),IntKind.i64.wrap (t4.2.2.1+(1:Int)),())
    else
     none
   else
    J1 (t4.2.1,())) (x.1,(2166136261:Int),(0:Int),())) (fun(t2:Int×Unit)=>
  some (IntKind.i64.wrap t2.1,()))
def dZ (k:Nat) (x:List aj×Unit):Option (Int×Unit):=
 Option.bind (lH k (x.1,())) fun r1=>
 Option.bind (o9 k (r1.1,())) fun r2=>
 if(decide (0≤(16:Int)))=true then
  if(decide ((32:Int)≠0))=true then
   some (Int.tmod (bits (fun _=>(·^^^·)) .i64 r2.1 (Int.fdiv r2.1 (2^(min (Int.toNat (16:Int)) IntKind.i64.bits)))) (32:Int),())
  else
   none
 else
  none
def cM (k:Nat) (x:List aj×List aj×Unit):Option (Bool×Unit):=
 if((((List.length x.1:Nat):Int):Int) != ((List.length x.2.1:Nat):Int))=true then
  some (false,())
 else
  az k (fun G1 (t2:List aj×List aj×Int×Int×Unit)=>
   if(decide ((t2.2.2.2.1:Int)<t2.2.2.1))=true then
    if(decide (0≤t2.2.2.2.1∧t2.2.2.2.1<((List.length t2.1:Nat):Int)))=true then
     if(decide (0≤t2.2.2.2.1∧t2.2.2.2.1<((List.length t2.2.1:Nat):Int)))=true then
      if(!(eqv af (List.getD t2.1 (Int.toNat t2.2.2.2.1) af.aa) (List.getD t2.2.1 (Int.toNat t2.2.2.2.1) af.aa)))=true then
       some (false,())
      else
       G1 (t2.1,t2.2.1,t2.2.2.1,IntKind.i64.wrap (t2.2.2.2.1+(1:Int)),())
     else
      none
    else
     none
   else
    some (true,())) (x.1,x.2.1,((List.length x.1:Nat):Int),(0:Int),())
def gE (k:Nat) (x:List ai×List aj×Unit):Option (Int×Unit):=
 az k (fun G1 (t2:List aj×List ai×Int×Int×Unit)=>
  if(decide ((t2.2.2.2.1:Int)<t2.2.2.1))=true then
   if(decide (0≤t2.2.2.2.1∧t2.2.2.2.1<((List.length t2.2.1:Nat):Int)))=true then
    Option.bind (cM k ((List.getD t2.2.1 (Int.toNat t2.2.2.2.1) ab.aa).1,t2.1,())) fun r3=>
    if r3.1=true then
     some (t2.2.2.2.1,())
    else
     G1 (t2.1,t2.2.1,t2.2.2.1,IntKind.i64.wrap (t2.2.2.2.1+(1:Int)),())
   else
    none
  else
   some ((-1:Int),())) (x.2.1,x.1,((List.length x.1:Nat):Int),(0:Int),())
def gV (k:Nat) (x:List ai×Unit):Option (Bool×Unit):=
 az k (fun G1 (t2:List ai×List ai×Int×Int×Unit)=>
  if(decide ((t2.2.2.2.1:Int)<t2.2.2.1))=true then
   if(decide (0≤t2.2.2.2.1∧t2.2.2.2.1<((List.length t2.2.1:Nat):Int)))=true then
    if(decide (0≤t2.2.2.2.1∧t2.2.2.2.1≤((List.length t2.1:Nat):Int)))=true then
     Option.bind (gE k (List.take (Int.toNat t2.2.2.2.1) t2.1,(List.getD t2.2.1 (Int.toNat t2.2.2.2.1) ab.aa).1,())) fun r3=>
     if(decide ((r3.1:Int)≥(0:Int)))=true then
      some (false,())
     else
      G1 (t2.1,t2.2.1,t2.2.2.1,IntKind.i64.wrap (t2.2.2.2.1+(1:Int)),())
    else
     none
   else
    none
  else
   some (true,())) (x.1,x.1,((List.length x.1:Nat):Int),(0:Int),())
def ma (k:Nat) (x:bc×Unit):Option (Bool×Unit):=
 aO (fun J1=>
  az k (fun G3 (t4:bc×List ai×Int×Int×Unit)=>
   if(decide ((t4.2.2.2.1:Int)<t4.2.2.1))=true then
    if(decide (0≤t4.2.2.2.1∧t4.2.2.2.1<((List.length t4.2.1:Nat):Int)))=true then
     Option.bind (dS k (List.getD t4.2.1 (Int.toNat t4.2.2.2.1) ab.aa,())) fun r5=>
     Option.bind ((if(((!r5.1):Bool)==false)=true then dZ k ((List.getD t4.2.1 (Int.toNat t4.2.2.2.1) ab.aa).1,())else some (0,()))) fun r6=>
     if(if(!r5.1)=true then true else(r6.1:Int) != t4.1.1)=true then
      some (false,())
     else
      G3 (t4.1,t4.2.1,t4.2.2.1,IntKind.i64.wrap (t4.2.2.2.1+(1:Int)),())
    else
     none
   else
    J1 (t4.1,())) (x.1,x.1.2,((List.length x.1.2:Nat):Int),(0:Int),())) (fun(t2:bc×Unit)=>
  Option.bind ((if(((decide ((((List.length t2.1.2:Nat):Int):Int)>(0:Int))):Bool)==true)=true then gV k (t2.1.2,())else some (false,()))) fun r7=>
  some (if(decide ((((List.length t2.1.2:Nat):Int):Int)>(0:Int)))=true then r7.1 else false,()))
def fA (k:Nat) (x:Int×Int×Unit):Option (Int×Unit):=
 if(if(decide ((x.2.1:Int)<(1:Int)))=true then true else decide ((x.1:Int)<(0:Int)))=true then
  some ((0:Int),())
 else
  if(decide (x.2.1≠0))=true then
   some (Int.tmod x.1 x.2.1,())
  else
   none
def mW (k:Nat) (x:aG×Int×Int×Unit):Option (Bool×Unit):=
 aO (fun J1=>
  az k (fun G3 (t4:Int×Int×aG×List bc×Int×Int×Unit)=>
   if(decide ((t4.2.2.2.2.2.1:Int)<t4.2.2.2.2.1))=true then
    if(decide (0≤t4.2.2.2.2.2.1∧t4.2.2.2.2.2.1<((List.length t4.2.2.2.1:Nat):Int)))=true then
     Option.bind (ma k (List.getD t4.2.2.2.1 (Int.toNat t4.2.2.2.2.2.1) ay.aa,())) fun r5=>
     Option.bind ((if(((!r5.1):Bool)==false)=true then fA k ((List.getD t4.2.2.2.1 (Int.toNat t4.2.2.2.2.2.1) ay.aa).1,t4.2.1,())else some (0,()))) fun r6=>
     if(!((((if(!r5.1)=true then true else(r6.1:Int) != t4.1):Bool)==false)&&(((decide ((t4.2.2.2.2.2.1:Int)>(0:Int))):Bool)==true))||(decide (0≤(IntKind.i64.wrap (t4.2.2.2.2.2.1-(1:Int)))∧(IntKind.i64.wrap (t4.2.2.2.2.2.1-(1:Int)))<((List.length t4.2.2.1.2.2:Nat):Int))))=true then
      if(if(if(!r5.1)=true then true else(r6.1:Int) != t4.1)=true then true else if(decide ((t4.2.2.2.2.2.1:Int)>(0:Int)))=true then decide ((((List.getD t4.2.2.1.2.2 (Int.toNat (IntKind.i64.wrap (t4.2.2.2.2.2.1-(1:Int)))) ay.aa).1):Int)≥((List.getD t4.2.2.2.1 (Int.toNat t4.2.2.2.2.2.1) ay.aa).1))else false)=true then
       some (false,())
      else
       G3 (t4.1,t4.2.1,t4.2.2.1,t4.2.2.2.1,t4.2.2.2.2.1,IntKind.i64.wrap (t4.2.2.2.2.2.1+(1:Int)),())
     else
      none
    else
     none
   else
    J1 (t4.2.2.1,())) (x.2.1,x.2.2.1,x.1,x.1.2.2,((List.length x.1.2.2:Nat):Int),(0:Int),())) (fun(t2:aG×Unit)=>
  Option.bind (bA k (t2.1.1,(-1:Int),(4:Int),())) fun r7=>
  some (if r7.1=true then decide ((t2.1.2.1:Int)≥(0:Int))else false,()))
def lD (k:Nat) (x:List aG×Unit):Option (Bool×Unit):=
 Option.bind (bA k (((List.length x.1:Nat):Int),(1:Int),(3:Int),())) fun r1=>
 if(!r1.1)=true then
  some (false,())
 else
  az k (fun G2 (t3:List aG×List aG×Int×Int×Unit)=>
   if(decide ((t3.2.2.2.1:Int)<t3.2.2.1))=true then
    if(decide (0≤t3.2.2.2.1∧t3.2.2.2.1<((List.length t3.2.1:Nat):Int)))=true then
     Option.bind (mW k (List.getD t3.2.1 (Int.toNat t3.2.2.2.1) aq.aa,t3.2.2.2.1,((List.length t3.1:Nat):Int),())) fun r4=>
     if(!r4.1)=true then
      some (false,())
     else
      G2 (t3.1,t3.2.1,t3.2.2.1,IntKind.i64.wrap (t3.2.2.2.1+(1:Int)),())
    else
     none
   else
    some (true,())) (x.1,x.1,((List.length x.1:Nat):Int),(0:Int),())
def lG (k:Nat) (x:List aG×Unit):Option (Int×Unit):=
 az k (fun G1 (t2:Int×List aG×Int×Int×Unit)=>
  if(decide ((t2.2.2.2.1:Int)<t2.2.2.1))=true then
   if(decide (0≤t2.2.2.2.1∧t2.2.2.2.1<((List.length t2.2.1:Nat):Int)))=true then
    az k (fun G3 (t4:Int×aG×List aG×Int×Int×List bc×Int×Int×Unit)=>
     if(decide ((t4.2.2.2.2.2.2.2.1:Int)<t4.2.2.2.2.2.2.1))=true then
      if(decide (0≤t4.2.2.2.2.2.2.2.1∧t4.2.2.2.2.2.2.2.1<((List.length t4.2.2.2.2.2.1:Nat):Int)))=true then
       G3 (IntKind.i64.wrap (t4.1+((List.length ((List.getD t4.2.2.2.2.2.1 (Int.toNat t4.2.2.2.2.2.2.2.1) ay.aa).2):Nat):Int)),t4.2.1,t4.2.2.1,t4.2.2.2.1,t4.2.2.2.2.1,t4.2.2.2.2.2.1,t4.2.2.2.2.2.2.1,IntKind.i64.wrap (t4.2.2.2.2.2.2.2.1+(1:Int)),())
      else
       none
     else
      G1 (t4.1,t4.2.2.1,t4.2.2.2.1,IntKind.i64.wrap (t4.2.2.2.2.1+(1:Int)),())) (t2.1,List.getD t2.2.1 (Int.toNat t2.2.2.2.1) aq.aa,t2.2.1,t2.2.2.1,t2.2.2.2.1,((List.getD t2.2.1 (Int.toNat t2.2.2.2.1) aq.aa).2).2,((List.length (((List.getD t2.2.1 (Int.toNat t2.2.2.2.1) aq.aa).2).2):Nat):Int),(0:Int),())
   else
    none
  else
   some (t2.1,())) ((0:Int),x.1,((List.length x.1:Nat):Int),(0:Int),())
def gX (k:Nat) (x:aG×Unit):Option (List ai×Unit):=
 az k (fun G1 (t2:aG×List ai×List bc×Int×Int×Unit)=>
  if(decide ((t2.2.2.2.2.1:Int)<t2.2.2.2.1))=true then
   if(decide (0≤t2.2.2.2.2.1∧t2.2.2.2.2.1<((List.length t2.2.2.1:Nat):Int)))=true then
    Option.bind (cw k ((List.getD t2.2.2.1 (Int.toNat t2.2.2.2.2.1) ay.aa).2,())) fun r3=>
    if(decide (List.length t2.2.1+List.length r3.1<4294967296))=true then
     G1 (t2.1,t2.2.1++r3.1,t2.2.2.1,t2.2.2.2.1,IntKind.i64.wrap (t2.2.2.2.2.1+(1:Int)),())
    else
     none
   else
    none
  else
   some (t2.2.1,())) (x.1,([]:List ai),x.1.2.2,((List.length x.1.2.2:Nat):Int),(0:Int),())
def jz (k:Nat) (x:List aG×Unit):Option (List ai×Unit):=
 aO (fun J1=>
  az k (fun G3 (t4:List ai×List aG×Int×Int×Unit)=>
   if(decide ((t4.2.2.2.1:Int)<t4.2.2.1))=true then
    if(decide (0≤t4.2.2.2.1∧t4.2.2.2.1<((List.length t4.2.1:Nat):Int)))=true then
     Option.bind (gX k (List.getD t4.2.1 (Int.toNat t4.2.2.2.1) aq.aa,())) fun r5=>
     if(decide (List.length t4.1+List.length r5.1<4294967296))=true then
      G3 (t4.1++r5.1,t4.2.1,t4.2.2.1,IntKind.i64.wrap (t4.2.2.2.1+(1:Int)),())
     else
      none
    else
     none
   else
    J1 (t4.1,())) (([]:List ai),x.1,((List.length x.1:Nat):Int),(0:Int),())) (fun(t2:List ai×Unit)=>
  Option.bind (kD k (t2.1,())) fun r6=>
  some (r6.1,()))
def j9 (k:Nat) (x:cg×ai×Unit):Option (Bool×Unit):=
 Option.bind (dS k (x.2.1,())) fun r1=>
 some (if r1.1=true then decide ((x.2.1.2.2.1:Int)≤(99899:Int))else false,())
def ik (k:Nat) (x:ar×Unit):Option (Bool×Unit):=
 Option.bind (lD k (x.1.2.2.2.1,())) fun r1=>
 Option.bind ((if(((if(!r1.1)=true then true else(((List.length x.1.2.2.2.1:Nat):Int):Int) != x.1.1.1):Bool)==false)=true then lG k (x.1.2.2.2.1,())else some (0,()))) fun r2=>
 if(if(if(!r1.1)=true then true else(((List.length x.1.2.2.2.1:Nat):Int):Int) != x.1.1.1)=true then true else decide ((r2.1:Int)>x.1.1.2.1))=true then
  some (false,())
 else
  Option.bind (jz k (x.1.2.2.2.1,())) fun r3=>
  az k (fun G4 (t5:ar×List ai×Int×Int×Unit)=>
   if(decide ((t5.2.2.2.1:Int)<t5.2.2.1))=true then
    if(decide (0≤t5.2.2.2.1∧t5.2.2.2.1<((List.length t5.2.1:Nat):Int)))=true then
     Option.bind (j9 k (t5.1.1,List.getD t5.2.1 (Int.toNat t5.2.2.2.1) ab.aa,())) fun r6=>
     if(!r6.1)=true then
      some (false,())
     else
      G4 (t5.1,t5.2.1,t5.2.2.1,IntKind.i64.wrap (t5.2.2.2.1+(1:Int)),())
    else
     none
   else
    some (true,())) (x.1,r3.1,((List.length r3.1:Nat):Int),(0:Int),())
def eC (k:Nat) (x:List ai×Unit):Option (Bool×Unit):=
 az k (fun G1 (t2:List ai×Int×Int×Unit)=>
  if(decide ((t2.2.2.1:Int)<t2.2.1))=true then
   if(decide (0≤t2.2.2.1∧t2.2.2.1<((List.length t2.1:Nat):Int)))=true then
    Option.bind (dS k (List.getD t2.1 (Int.toNat t2.2.2.1) ab.aa,())) fun r3=>
    if(!r3.1)=true then
     some (false,())
    else
     G1 (t2.1,t2.2.1,IntKind.i64.wrap (t2.2.2.1+(1:Int)),())
   else
    none
  else
   some (true,())) (x.1,((List.length x.1:Nat):Int),(0:Int),())
def ov (k:Nat) (x:bF×Unit):Option (Bool×Unit):=
 if x.1.2=true then
  some ((((List.length x.1.1:Nat):Int):Int)==(0:Int),())
 else
  Option.bind ((if(((decide ((((List.length x.1.1:Nat):Int):Int)≤(3:Int))):Bool)==true)=true then eC k (x.1.1,())else some (false,()))) fun r1=>
  some (if(decide ((((List.length x.1.1:Nat):Int):Int)≤(3:Int)))=true then r1.1 else false,())
def jA (k:Nat) (x:List bF×cg×Unit):Option (Bool×Unit):=
 aO (fun J1=>
  az k (fun G3 (t4:List bF×cg×List bF×Int×Int×Unit)=>
   if(decide ((t4.2.2.2.2.1:Int)<t4.2.2.2.1))=true then
    if(decide (0≤t4.2.2.2.2.1∧t4.2.2.2.2.1<((List.length t4.2.2.1:Nat):Int)))=true then
     Option.bind (ov k (List.getD t4.2.2.1 (Int.toNat t4.2.2.2.2.1) aU.aa,())) fun r5=>
     if(!r5.1)=true then
      some (false,())
     else
      G3 (t4.1,t4.2.1,t4.2.2.1,t4.2.2.2.1,IntKind.i64.wrap (t4.2.2.2.2.1+(1:Int)),())
    else
     none
   else
    J1 (t4.1,t4.2.1,())) (x.1,x.2.1,x.1,((List.length x.1:Nat):Int),(0:Int),())) (fun(t2:List bF×cg×Unit)=>
  some ((((List.length t2.1:Nat):Int):Int)==t2.2.1.2.2.1,()))
def kB (k:Nat) (x:Int×Int×Unit):Option (Bool×Unit):=
 if((x.1:Int)==(1:Int))=true then
  Option.bind (bA k (x.2.1,(1:Int),(4:Int),())) fun r1=>
  some (r1.1,())
 else
  if((x.1:Int)==(3:Int))=true then
   Option.bind (bA k (x.2.1,(5:Int),(6:Int),())) fun r2=>
   some (r2.1,())
  else
   if((x.1:Int)==(7:Int))=true then
    Option.bind (bA k (x.2.1,(1:Int),(3:Int),())) fun r3=>
    some (r3.1,())
   else
    if((x.1:Int)==(8:Int))=true then
     some (if((x.2.1:Int)==(8:Int))=true then true else(x.2.1:Int)==(6:Int),())
    else
     if((x.1:Int)==(9:Int))=true then
      Option.bind (bA k (x.2.1,(5:Int),(7:Int),())) fun r4=>
      some (r4.1,())
     else
      some ((x.2.1:Int)==(8:Int),())
def jV (k:Nat) (x:aY×Unit):Option (Bool×Unit):=
 Option.bind (bA k (x.1.1,(1:Int),(9:Int),())) fun r1=>
 Option.bind ((if(((!r1.1):Bool)==false)=true then bA k (x.1.2.1,(-1:Int),(4:Int),())else some (false,()))) fun r2=>
 if(if(if(if(if(if(!r1.1)=true then true else !r2.1)=true then true else decide ((x.1.2.2.2.2.2.2.2.2.2.1:Int)<(0:Int)))=true then true else decide ((x.1.2.2.2.2.1:Int)<(0:Int)))=true then true else decide ((x.1.2.2.2.2.2.1:Int)<(0:Int)))=true then true else decide ((x.1.2.2.2.2.2.2.2.2.1:Int)<(0:Int)))=true then
  some (false,())
 else
  if((x.1.2.2.2.2.2.2.2.2.2.2.1:Int)==(-1:Int))=true then
   some (if((x.1.2.2.2.2.2.2.2.2.2.2.2:Int)==(-1:Int))=true then(x.1.2.2.2.2.2.2.1:Int)==(0:Int)else false,())
  else
   Option.bind ((if(((if(decide ((x.1.2.2.2.2.2.2.2.2.2.2.1:Int)≥x.1.2.2.2.2.2.2.2.2.2.1))=true then if((x.1.2.2.2.2.2.2.2.2.2.2.2:Int)==(-1:Int))=true then true else decide ((x.1.2.2.2.2.2.2.2.2.2.2.2:Int)≥x.1.2.2.2.2.2.2.2.2.2.2.1)else false):Bool)==true)=true then kB k (x.1.1,x.1.2.2.2.2.2.2.1,())else some (false,()))) fun r3=>
   some (if(if(decide ((x.1.2.2.2.2.2.2.2.2.2.2.1:Int)≥x.1.2.2.2.2.2.2.2.2.2.1))=true then if((x.1.2.2.2.2.2.2.2.2.2.2.2:Int)==(-1:Int))=true then true else decide ((x.1.2.2.2.2.2.2.2.2.2.2.2:Int)≥x.1.2.2.2.2.2.2.2.2.2.2.1)else false)=true then r3.1 else false,())
def cT (k:Nat) (x:ai×ai×Unit):Option (Bool×Unit):=
 Option.bind (cM k (x.1.1,x.2.1.1,())) fun r1=>
 some (if(if(if r1.1=true then(x.1.2.1:Int)==x.2.1.2.1 else false)=true then(x.1.2.2.1:Int)==x.2.1.2.2.1 else false)=true then ByteArray.toList x.1.2.2.2==ByteArray.toList x.2.1.2.2.2 else false,())
def gF (k:Nat) (x:List Int×List Int×Unit):Option (Bool×Unit):=
 if((((List.length x.1:Nat):Int):Int) != ((List.length x.2.1:Nat):Int))=true then
  some (false,())
 else
  az k (fun G1 (t2:List Int×List Int×Int×Int×Unit)=>
   if(decide ((t2.2.2.2.1:Int)<t2.2.2.1))=true then
    if(decide (0≤t2.2.2.2.1∧t2.2.2.2.1<((List.length t2.1:Nat):Int)))=true then
     if(decide (0≤t2.2.2.2.1∧t2.2.2.2.1<((List.length t2.2.1:Nat):Int)))=true then
      if(((List.getD t2.1 (Int.toNat t2.2.2.2.1) 0):Int) != (List.getD t2.2.1 (Int.toNat t2.2.2.2.1) 0))=true then
       some (false,())
      else
       G1 (t2.1,t2.2.1,t2.2.2.1,IntKind.i64.wrap (t2.2.2.2.1+(1:Int)),())
     else
      none
    else
     none
   else
    some (true,())) (x.1,x.2.1,((List.length x.1:Nat):Int),(0:Int),())
def fF (k:Nat) (x:List ai×List ai×Unit):Option (Bool×Unit):=
 if((((List.length x.1:Nat):Int):Int) != ((List.length x.2.1:Nat):Int))=true then
  some (false,())
 else
  az k (fun G1 (t2:List ai×List ai×Int×Int×Unit)=>
   if(decide ((t2.2.2.2.1:Int)<t2.2.2.1))=true then
    if(decide (0≤t2.2.2.2.1∧t2.2.2.2.1<((List.length t2.1:Nat):Int)))=true then
     if(decide (0≤t2.2.2.2.1∧t2.2.2.2.1<((List.length t2.2.1:Nat):Int)))=true then
      Option.bind (cT k (List.getD t2.1 (Int.toNat t2.2.2.2.1) ab.aa,List.getD t2.2.1 (Int.toNat t2.2.2.2.1) ab.aa,())) fun r3=>
      if(!r3.1)=true then
       some (false,())
      else
       G1 (t2.1,t2.2.1,t2.2.2.1,IntKind.i64.wrap (t2.2.2.2.1+(1:Int)),())
     else
      none
    else
     none
   else
    some (true,())) (x.1,x.2.1,((List.length x.1:Nat):Int),(0:Int),())
def gA (k:Nat) (x:aM×aM×Unit):Option (Bool×Unit):=
 Option.bind ((if(((if((x.1.1:Int)==x.2.1.1)=true then(x.1.2.1:Int)==x.2.1.2.1 else false):Bool)==true)=true then cT k (x.1.2.2.1,x.2.1.2.2.1,())else some (false,()))) fun r1=>
 Option.bind ((if(((if(if((x.1.1:Int)==x.2.1.1)=true then(x.1.2.1:Int)==x.2.1.2.1 else false)=true then r1.1 else false):Bool)==true)=true then cM k (x.1.2.2.2.1,x.2.1.2.2.2.1,())else some (false,()))) fun r2=>
 Option.bind ((if(((if(if(if(if((x.1.1:Int)==x.2.1.1)=true then(x.1.2.1:Int)==x.2.1.2.1 else false)=true then r1.1 else false)=true then r2.1 else false)=true then(x.1.2.2.2.2.1:Int)==x.2.1.2.2.2.2.1 else false):Bool)==true)=true then gF k (x.1.2.2.2.2.2.1,x.2.1.2.2.2.2.2.1,())else some (false,()))) fun r3=>
 Option.bind ((if(((if(if(if(if(if((x.1.1:Int)==x.2.1.1)=true then(x.1.2.1:Int)==x.2.1.2.1 else false)=true then r1.1 else false)=true then r2.1 else false)=true then(x.1.2.2.2.2.1:Int)==x.2.1.2.2.2.2.1 else false)=true then r3.1 else false):Bool)==true)=true then fF k (x.1.2.2.2.2.2.2.1,x.2.1.2.2.2.2.2.2.1,())else some (false,()))) fun r4=>
 some (if(if(if(if(if(if(if(if((x.1.1:Int)==x.2.1.1)=true then(x.1.2.1:Int)==x.2.1.2.1 else false)=true then r1.1 else false)=true then r2.1 else false)=true then(x.1.2.2.2.2.1:Int)==x.2.1.2.2.2.2.1 else false)=true then r3.1 else false)=true then r4.1 else false)=true then(x.1.2.2.2.2.2.2.2.1:Int)==x.2.1.2.2.2.2.2.2.2.1 else false)=true then(x.1.2.2.2.2.2.2.2.2:Int)==x.2.1.2.2.2.2.2.2.2.2 else false,())
def nj (k:Nat) (x:aM×Unit):Option (Bool×Unit):=
 aO (fun J1=>
  az k (fun G3 (t4:aM×List Int×Int×Int×Unit)=>
   if(decide ((t4.2.2.2.1:Int)<t4.2.2.1))=true then
    if(decide (0≤t4.2.2.2.1∧t4.2.2.2.1<((List.length t4.2.1:Nat):Int)))=true then
     if(decide (((List.getD t4.2.1 (Int.toNat t4.2.2.2.1) 0):Int)<(0:Int)))=true then
      some (false,())
     else
      G3 (t4.1,t4.2.1,t4.2.2.1,IntKind.i64.wrap (t4.2.2.2.1+(1:Int)),())
    else
     none
   else
    J1 (t4.1,())) (x.1,x.1.2.2.2.2.2.1,((List.length x.1.2.2.2.2.2.1:Nat):Int),(0:Int),())) (fun(t2:aM×Unit)=>
  Option.bind ((if((((((List.length t2.1.2.2.2.2.2.1:Nat):Int):Int) != t2.1.2.2.2.2.1):Bool)==false)=true then eC k (t2.1.2.2.2.2.2.2.1,())else some (false,()))) fun r5=>
  if(if((((List.length t2.1.2.2.2.2.2.1:Nat):Int):Int) != t2.1.2.2.2.2.1)=true then true else !r5.1)=true then
   some (false,())
  else
   if((t2.1.2.1:Int)==(2:Int))=true then
    Option.bind (bA k (t2.1.2.2.2.2.1,(1:Int),(3:Int),())) fun r6=>
    some (r6.1,())
   else
    Option.bind (bA k (t2.1.2.2.2.2.1,(0:Int),(2:Int),())) fun r7=>
    some (r7.1,()))
def mJ (k:Nat) (x:aM×Int×Unit):Option (Bool×Unit):=
 aO (fun J1=>
  Option.bind (bA k (x.2.1,(0:Int),(4:Int),())) fun r3=>
  if(!r3.1)=true then
   some (false,())
  else
   if((x.1.1:Int)==(0:Int))=true then
    Option.bind (gA k (x.1,(0,0,(([]:List aj),0,0,ByteArray.empty),([]:List aj),0,([]:List Int),([]:List ai),0,0),())) fun r4=>
    some (r4.1,())
   else
    if(if((x.1.1:Int)==(1:Int))=true then decide ((x.2.1:Int)<(3:Int))else false)=true then
     Option.bind (dS k (x.1.2.2.1,())) fun r5=>
     J1 (x.1,(x.1.1,x.1.2.1,x.1.2.2.1,([]:List aj),0,([]:List Int),([]:List ai),0,x.1.2.2.2.2.2.2.2.2),r5.1,(2:Int),())
    else
     if(if((x.1.1:Int)==(2:Int))=true then decide ((x.2.1:Int)<(3:Int))else false)=true then
      Option.bind (ga k (x.1.2.2.2.1,())) fun r6=>
      J1 (x.1,(x.1.1,x.1.2.1,(([]:List aj),0,0,ByteArray.empty),x.1.2.2.2.1,0,([]:List Int),([]:List ai),0,x.1.2.2.2.2.2.2.2.2),r6.1,(1:Int),())
     else
      if(if((x.1.1:Int)==(3:Int))=true then decide ((x.2.1:Int)<(3:Int))else false)=true then
       Option.bind (nj k (x.1,())) fun r7=>
       J1 (x.1,(x.1.1,x.1.2.1,(([]:List aj),0,0,ByteArray.empty),([]:List aj),x.1.2.2.2.2.1,x.1.2.2.2.2.2.1,x.1.2.2.2.2.2.2.1,0,x.1.2.2.2.2.2.2.2.2),r7.1,(2:Int),())
      else
       if(if((x.1.1:Int)==(4:Int))=true then decide ((x.2.1:Int)<(3:Int))else false)=true then
        Option.bind (bA k (x.1.2.2.2.2.1,(0:Int),(2:Int),())) fun r8=>
        J1 (x.1,(x.1.1,x.1.2.1,(([]:List aj),0,0,ByteArray.empty),([]:List aj),x.1.2.2.2.2.1,([]:List Int),([]:List ai),0,x.1.2.2.2.2.2.2.2.2),r8.1,(1:Int),())
       else
        if(if((x.1.1:Int)==(5:Int))=true then(x.2.1:Int)==(3:Int)else false)=true then
         Option.bind (dS k (x.1.2.2.1,())) fun r9=>
         J1 (x.1,(x.1.1,x.1.2.1,x.1.2.2.1,([]:List aj),0,([]:List Int),([]:List ai),0,x.1.2.2.2.2.2.2.2.2),r9.1,(1:Int),())
        else
         if(if((x.1.1:Int)==(6:Int))=true then(x.2.1:Int)==(4:Int)else false)=true then
          J1 (x.1,(x.1.1,x.1.2.1,(([]:List aj),0,0,ByteArray.empty),([]:List aj),0,([]:List Int),([]:List ai),x.1.2.2.2.2.2.2.2),decide ((x.1.2.2.2.2.2.2.2.1:Int)≥(0:Int)),(1:Int),())
         else
          J1 (x.1,(x.1.1,x.1.2.1,(([]:List aj),0,0,ByteArray.empty),([]:List aj),0,([]:List Int),([]:List ai),0,x.1.2.2.2.2.2.2.2.2),false,(1:Int),())) (fun(t2:aM×aM×Bool×Int×Unit)=>
  Option.bind ((if((t2.2.2.1:Bool)==true)=true then bA k (t2.1.2.1,(0:Int),t2.2.2.2.1,())else some (false,()))) fun r10=>
  Option.bind ((if(((if(if t2.2.2.1=true then r10.1 else false)=true then decide ((t2.1.2.2.2.2.2.2.2.2:Int)≥(0:Int))else false):Bool)==true)=true then gA k (t2.1,t2.2.1,())else some (false,()))) fun r11=>
  some (if(if(if t2.2.2.1=true then r10.1 else false)=true then decide ((t2.1.2.2.2.2.2.2.2.2:Int)≥(0:Int))else false)=true then r11.1 else false,()))
def mI (k:Nat) (x:List aG×List aj×Unit):Option (Int×Unit):=
 Option.bind (dZ k (x.2.1,())) fun r1=>
 Option.bind (fA k (r1.1,((List.length x.1:Nat):Int),())) fun r2=>
 some (r2.1,())
def lR (k:Nat) (x:aG×Int×Unit):Option (Int×Unit):=
 az k (fun G1 (t2:Int×aG×List bc×Int×Int×Unit)=>
  if(decide ((t2.2.2.2.2.1:Int)<t2.2.2.2.1))=true then
   if(decide (0≤t2.2.2.2.2.1∧t2.2.2.2.2.1<((List.length t2.2.2.1:Nat):Int)))=true then
    if((((List.getD t2.2.2.1 (Int.toNat t2.2.2.2.2.1) ay.aa).1):Int)==t2.1)=true then
     some (t2.2.2.2.2.1,())
    else
     G1 (t2.1,t2.2.1,t2.2.2.1,t2.2.2.2.1,IntKind.i64.wrap (t2.2.2.2.2.1+(1:Int)),())
   else
    none
  else
   some ((-1:Int),())) (x.2.1,x.1,x.1.2.2,((List.length x.1.2.2:Nat):Int),(0:Int),())
def lC (k:Nat) (x:bc×List aj×Unit):Option (Int×Unit):=
 Option.bind (gE k (x.1.2,x.2.1,())) fun r1=>
 some (r1.1,())
def mT (k:Nat) (x:aG×List aj×Unit):Option (ai×Bool×Unit):=
 Option.bind (dZ k (x.2.1,())) fun r1=>
 Option.bind (lR k (x.1,r1.1,())) fun r2=>
 if(decide ((r2.1:Int)<(0:Int)))=true then
  some ((([]:List aj),0,0,ByteArray.empty),false,())
 else
  if(decide (0≤r2.1∧r2.1<((List.length x.1.2.2:Nat):Int)))=true then
   Option.bind (lC k (List.getD x.1.2.2 (Int.toNat r2.1) ay.aa,x.2.1,())) fun r3=>
   if(decide ((r3.1:Int)<(0:Int)))=true then
    some ((([]:List aj),0,0,ByteArray.empty),false,())
   else
    if(decide (0≤r2.1∧r2.1<((List.length x.1.2.2:Nat):Int)))=true then
     if(decide (0≤r3.1∧r3.1<((List.length ((List.getD x.1.2.2 (Int.toNat r2.1) ay.aa).2):Nat):Int)))=true then
      Option.bind (cS k (List.getD ((List.getD x.1.2.2 (Int.toNat r2.1) ay.aa).2) (Int.toNat r3.1) ab.aa,())) fun r4=>
      some (r4.1,true,())
     else
      none
    else
     none
  else
   none
def js (k:Nat) (x:List aG×List aj×Unit):Option (ai×Bool×Unit):=
 if((((List.length x.1:Nat):Int):Int)==(0:Int))=true then
  some ((([]:List aj),0,0,ByteArray.empty),false,())
 else
  Option.bind (mI k (x.1,x.2.1,())) fun r1=>
  if(decide (0≤r1.1∧r1.1<((List.length x.1:Nat):Int)))=true then
   Option.bind (mT k (List.getD x.1 (Int.toNat r1.1) aq.aa,x.2.1,())) fun r2=>
   some (r2.1,r2.2.1,())
  else
   none
def jw (k:Nat) (x:ar×aM×Unit):Option (Bool×Unit):=
 if(if(if(decide ((x.2.1.2.1:Int)<(2:Int)))=true then decide ((x.2.1.2.2.2.2.1:Int)≥x.1.1.1)else false)=true then true else if((x.2.1.2.1:Int)==(2:Int))=true then(((List.length x.2.1.2.2.2.2.2.1:Nat):Int):Int) != x.1.1.1 else false)=true then
  some (false,())
 else
  aO (fun J1=>
   az k (fun G3 (t4:ar×aM×Bool×List ai×List Int×Int×Int×Unit)=>
    if(decide ((t4.2.2.2.2.2.2.1:Int)<t4.2.2.2.2.2.1))=true then
     if(decide (0≤t4.2.2.2.2.2.2.1∧t4.2.2.2.2.2.2.1<((List.length t4.2.2.2.2.1:Nat):Int)))=true then
      if(decide (0≤t4.2.2.2.2.2.2.1∧t4.2.2.2.2.2.2.1<((List.length t4.1.2.2.2.1:Nat):Int)))=true then
       if(decide (((List.getD t4.2.2.2.2.1 (Int.toNat t4.2.2.2.2.2.2.1) 0):Int)>(((List.getD t4.1.2.2.2.1 (Int.toNat t4.2.2.2.2.2.2.1) aq.aa).2).1)))=true then
        some (false,())
       else
        if(!((t4.2.2.1:Bool)==true)||(decide (0≤t4.2.2.2.2.2.2.1∧t4.2.2.2.2.2.2.1<((List.length t4.1.2.2.2.1:Nat):Int))))=true then
         if(decide (0≤t4.2.2.2.2.2.2.1∧t4.2.2.2.2.2.2.1<((List.length t4.1.2.2.2.1:Nat):Int)))=true then
          Option.bind (gX k (List.getD t4.1.2.2.2.1 (Int.toNat t4.2.2.2.2.2.2.1) aq.aa,())) fun r5=>
          if(decide (List.length t4.2.2.2.1+List.length r5.1<4294967296))=true then
           G3 (t4.1,t4.2.1,if t4.2.2.1=true then((List.getD t4.2.2.2.2.1 (Int.toNat t4.2.2.2.2.2.2.1) 0):Int)==(((List.getD t4.1.2.2.2.1 (Int.toNat t4.2.2.2.2.2.2.1) aq.aa).2).1)else false,t4.2.2.2.1++r5.1,t4.2.2.2.2.1,t4.2.2.2.2.2.1,IntKind.i64.wrap (t4.2.2.2.2.2.2.1+(1:Int)),())
          else
           none
         else
          none
        else
         none
      else
       none
     else
      none
    else
     J1 (t4.1,t4.2.1,t4.2.2.1,t4.2.2.2.1,())) (x.1,x.2.1,true,([]:List ai),x.2.1.2.2.2.2.2.1,((List.length x.2.1.2.2.2.2.2.1:Nat):Int),(0:Int),())) (fun(t2:ar×aM×Bool×List ai×Unit)=>
   Option.bind ((if(((!t2.2.2.1):Bool)==false)=true then fF k (t2.2.1.2.2.2.2.2.2.1,t2.2.2.2.1,())else some (false,()))) fun r6=>
   some (if(!t2.2.2.1)=true then true else r6.1,()))
def kv (k:Nat) (x:ar×aM×aY×Unit):Option (Bool×Unit):=
 if((x.2.1.1:Int)==(1:Int))=true then
  if((x.2.1.2.1:Int)==(2:Int))=true then
   Option.bind (js k (x.1.2.2.2.1,x.2.1.2.2.1.1,())) fun r1=>
   Option.bind ((if((((x.2.2.1.1:Int)==(1:Int)):Bool)==true)=true then cM k (x.2.2.1.2.2.1.1,x.2.1.2.2.1.1,())else some (false,()))) fun r2=>
   Option.bind ((if(((if(if((x.2.2.1.1:Int)==(1:Int))=true then r2.1 else false)=true then r1.2.1 else false):Bool)==true)=true then cT k (r1.1,x.2.1.2.2.1,())else some (false,()))) fun r3=>
   some (if(if(if((x.2.2.1.1:Int)==(1:Int))=true then r2.1 else false)=true then r1.2.1 else false)=true then r3.1 else false,())
  else
   Option.bind ((if((((x.2.2.1.1:Int)==(1:Int)):Bool)==true)=true then cT k (x.2.2.1.2.2.1,x.2.1.2.2.1,())else some (false,()))) fun r4=>
   Option.bind ((if(((if((x.2.2.1.1:Int)==(1:Int))=true then r4.1 else false):Bool)==true)=true then j9 k (x.1.1,x.2.1.2.2.1,())else some (false,()))) fun r5=>
   some (if(if((x.2.2.1.1:Int)==(1:Int))=true then r4.1 else false)=true then r5.1 else false,())
 else
  if((x.2.1.1:Int)==(2:Int))=true then
   Option.bind ((if((((x.2.2.1.1:Int)==(3:Int)):Bool)==true)=true then cM k (x.2.2.1.2.2.2.1,x.2.1.2.2.2.1,())else some (false,()))) fun r6=>
   some (if((x.2.2.1.1:Int)==(3:Int))=true then r6.1 else false,())
  else
   if((x.2.1.1:Int)==(3:Int))=true then
    Option.bind ((if((((x.2.2.1.1:Int)==(4:Int)):Bool)==true)=true then jw k (x.1,x.2.1,())else some (false,()))) fun r7=>
    some (if((x.2.2.1.1:Int)==(4:Int))=true then r7.1 else false,())
   else
    if((x.2.1.1:Int)==(4:Int))=true then
     some (if((x.2.2.1.1:Int)==(6:Int))=true then decide ((x.2.1.2.2.2.2.1:Int)<x.1.1.1)else false,())
    else
     if((x.2.1.1:Int)==(5:Int))=true then
      Option.bind ((if((((x.2.2.1.1:Int)==(7:Int)):Bool)==true)=true then cT k (x.2.2.1.2.2.1,x.2.1.2.2.1,())else some (false,()))) fun r8=>
      some (if((x.2.2.1.1:Int)==(7:Int))=true then r8.1 else false,())
     else
      some (if(if((x.2.2.1.1:Int)==(8:Int))=true then(x.2.2.1.2.2.2.2.2.1:Int)==x.2.1.2.2.2.2.2.2.2.1 else false)=true then decide ((x.2.1.2.2.2.2.2.2.2.1:Int)<x.1.2.2.2.2.2.2.2.2.1)else false,())
def ij (k:Nat) (x:ar×Unit):Option (Bool×Unit):=
 aO (fun J1=>
  az k (fun G3 (t4:ar×List aY×Int×Int×Unit)=>
   if(decide ((t4.2.2.2.1:Int)<t4.2.2.1))=true then
    if(decide (0≤t4.2.2.2.1∧t4.2.2.2.1<((List.length t4.2.1:Nat):Int)))=true then
     Option.bind (jV k (List.getD t4.2.1 (Int.toNat t4.2.2.2.1) ak.aa,())) fun r5=>
     if(if(if(if(!r5.1)=true then true else decide (((((((((((((List.getD t4.2.1 (Int.toNat t4.2.2.2.1) ak.aa).2).2).2).2).2).2).2).2).2).1):Int)≥t4.1.2.1))=true then true else decide ((((((((((((((List.getD t4.2.1 (Int.toNat t4.2.2.2.1) ak.aa).2).2).2).2).2).2).2).2).2).2).1):Int)≥t4.1.2.1))=true then true else decide ((((((((((((((List.getD t4.2.1 (Int.toNat t4.2.2.2.1) ak.aa).2).2).2).2).2).2).2).2).2).2).2):Int)≥t4.1.2.1))=true then
      some (false,())
     else
      G3 (t4.1,t4.2.1,t4.2.2.1,IntKind.i64.wrap (t4.2.2.2.1+(1:Int)),())
    else
     none
   else
    J1 (t4.1,())) (x.1,x.1.2.2.2.2.2.2.2.2.2.2.2.2.2,((List.length x.1.2.2.2.2.2.2.2.2.2.2.2.2.2:Nat):Int),(0:Int),())) (fun(t2:ar×Unit)=>
  az k (fun G6 (t7:ar×List aM×Int×Int×Unit)=>
   if(decide ((t7.2.2.2.1:Int)<t7.2.2.1))=true then
    if(decide (0≤t7.2.2.2.1∧t7.2.2.2.1<((List.length t7.2.1:Nat):Int)))=true then
     Option.bind (mJ k (List.getD t7.2.1 (Int.toNat t7.2.2.2.1) ah.aa,t7.2.2.2.1,())) fun r8=>
     if(!r8.1)=true then
      some (false,())
     else
      if((((List.getD t7.2.1 (Int.toNat t7.2.2.2.1) ah.aa).1):Int)==(0:Int))=true then
       G6 (t7.1,t7.2.1,t7.2.2.1,IntKind.i64.wrap (t7.2.2.2.1+(1:Int)),())
      else
       if(decide (((((((((((List.getD t7.2.1 (Int.toNat t7.2.2.2.1) ah.aa).2).2).2).2).2).2).2).2):Int)≥((List.length t7.1.2.2.2.2.2.2.2.2.2.2.2.2.2:Nat):Int)))=true then
        some (false,())
       else
        if(decide (0≤(((((((((List.getD t7.2.1 (Int.toNat t7.2.2.2.1) ah.aa).2).2).2).2).2).2).2).2)∧(((((((((List.getD t7.2.1 (Int.toNat t7.2.2.2.1) ah.aa).2).2).2).2).2).2).2).2)<((List.length t7.1.2.2.2.2.2.2.2.2.2.2.2.2.2:Nat):Int)))=true then
         Option.bind ((if(((if(if(((((List.getD t7.1.2.2.2.2.2.2.2.2.2.2.2.2.2 (Int.toNat (((((((((List.getD t7.2.1 (Int.toNat t7.2.2.2.1) ah.aa).2).2).2).2).2).2).2).2)) ak.aa).2).1):Int) != t7.2.2.2.1)=true then true else(((((((((((((List.getD t7.1.2.2.2.2.2.2.2.2.2.2.2.2.2 (Int.toNat (((((((((List.getD t7.2.1 (Int.toNat t7.2.2.2.1) ah.aa).2).2).2).2).2).2).2).2)) ak.aa).2).2).2).2).2).2).2).2).2).2).2):Int) != (-1:Int))=true then true else !((((((((((((((((List.getD t7.1.2.2.2.2.2.2.2.2.2.2.2.2.2 (Int.toNat (((((((((List.getD t7.2.1 (Int.toNat t7.2.2.2.1) ah.aa).2).2).2).2).2).2).2).2)) ak.aa).2).2).2).2).2).2).2).2).2).2).1):Int) != (-1:Int)):Bool)==(if((((List.getD t7.2.1 (Int.toNat t7.2.2.2.1) ah.aa).1):Int)==(1:Int))=true then((((List.getD t7.2.1 (Int.toNat t7.2.2.2.1) ah.aa).2).1):Int)==(2:Int)else false))):Bool)==false)=true then kv k (t7.1,List.getD t7.2.1 (Int.toNat t7.2.2.2.1) ah.aa,List.getD t7.1.2.2.2.2.2.2.2.2.2.2.2.2.2 (Int.toNat (((((((((List.getD t7.2.1 (Int.toNat t7.2.2.2.1) ah.aa).2).2).2).2).2).2).2).2)) ak.aa,())else some (false,()))) fun r9=>
         if(if(if(if(((((List.getD t7.1.2.2.2.2.2.2.2.2.2.2.2.2.2 (Int.toNat (((((((((List.getD t7.2.1 (Int.toNat t7.2.2.2.1) ah.aa).2).2).2).2).2).2).2).2)) ak.aa).2).1):Int) != t7.2.2.2.1)=true then true else(((((((((((((List.getD t7.1.2.2.2.2.2.2.2.2.2.2.2.2.2 (Int.toNat (((((((((List.getD t7.2.1 (Int.toNat t7.2.2.2.1) ah.aa).2).2).2).2).2).2).2).2)) ak.aa).2).2).2).2).2).2).2).2).2).2).2):Int) != (-1:Int))=true then true else !((((((((((((((((List.getD t7.1.2.2.2.2.2.2.2.2.2.2.2.2.2 (Int.toNat (((((((((List.getD t7.2.1 (Int.toNat t7.2.2.2.1) ah.aa).2).2).2).2).2).2).2).2)) ak.aa).2).2).2).2).2).2).2).2).2).2).1):Int) != (-1:Int)):Bool)==(if((((List.getD t7.2.1 (Int.toNat t7.2.2.2.1) ah.aa).1):Int)==(1:Int))=true then((((List.getD t7.2.1 (Int.toNat t7.2.2.2.1) ah.aa).2).1):Int)==(2:Int)else false)))=true then true else !r9.1)=true then
          some (false,())
         else
          G6 (t7.1,t7.2.1,t7.2.2.1,IntKind.i64.wrap (t7.2.2.2.1+(1:Int)),())
        else
         none
    else
     none
   else
    some (true,())) (t2.1,t2.1.2.2.2.2.2.2.2.2.2.2.2.2.1,((List.length t2.1.2.2.2.2.2.2.2.2.2.2.2.2.1:Nat):Int),(0:Int),()))
def qL (k:Nat) (x:aM×Int×Bool×Unit):Option (Int×Unit):=
 if(if(decide ((x.2.1:Int)<(1:Int)))=true then true else !x.2.2.1)=true then
  some ((-1:Int),())
 else
  if((x.1.1:Int)==(1:Int))=true then
   Option.bind (dZ k (x.1.2.2.1.1,())) fun r1=>
   Option.bind (fA k (r1.1,x.2.1,())) fun r2=>
   some (r2.1,())
  else
   if((x.1.1:Int)==(2:Int))=true then
    Option.bind (dZ k (x.1.2.2.2.1,())) fun r3=>
    Option.bind (fA k (r3.1,x.2.1,())) fun r4=>
    some (r4.1,())
   else
    if(if((x.1.1:Int)==(3:Int))=true then true else(x.1.1:Int)==(4:Int))=true then
     some (x.1.2.2.2.2.1,())
    else
     some ((-1:Int),())
def jm (k:Nat) (x:aM×Int×Unit):Option (Int×Unit):=
 Option.bind (qL k (x.1,x.2.1,if((x.1.2.1:Int)==(1:Int))=true then true else if((x.1.1:Int)==(1:Int))=true then(x.1.2.1:Int)==(2:Int)else false,())) fun r1=>
 some (r1.1,())
def gR (k:Nat) (x:aM×Unit):Option (Bool×Unit):=
 some (if(if((x.1.1:Int)==(5:Int))=true then true else(x.1.1:Int)==(6:Int))=true then(x.1.2.1:Int)==(1:Int)else false,())
def il (k:Nat) (x:ar×Unit):Option (Bool×Unit):=
 aO (fun J1=>
  az k (fun G3 (t4:ar×List aG×Int×Int×Unit)=>
   if(decide ((t4.2.2.2.1:Int)<t4.2.2.1))=true then
    if(decide (0≤t4.2.2.2.1∧t4.2.2.2.1<((List.length t4.2.1:Nat):Int)))=true then
     az k (fun G5 (t6:ar×Int×aG×List aG×Int×Int×List aM×Int×Int×Unit)=>
      if(decide ((t6.2.2.2.2.2.2.2.2.1:Int)<t6.2.2.2.2.2.2.2.1))=true then
       if(decide (0≤t6.2.2.2.2.2.2.2.2.1∧t6.2.2.2.2.2.2.2.2.1<((List.length t6.2.2.2.2.2.2.1:Nat):Int)))=true then
        Option.bind (jm k (List.getD t6.2.2.2.2.2.2.1 (Int.toNat t6.2.2.2.2.2.2.2.2.1) ah.aa,((List.length t6.1.2.2.2.1:Nat):Int),())) fun r7=>
        if(!((((r7.1:Int)==t6.2.1):Bool)==((t6.2.2.1.1:Int)==t6.2.2.2.2.2.2.2.2.1)))=true then
         some (false,())
        else
         G5 (t6.1,t6.2.1,t6.2.2.1,t6.2.2.2.1,t6.2.2.2.2.1,t6.2.2.2.2.2.1,t6.2.2.2.2.2.2.1,t6.2.2.2.2.2.2.2.1,IntKind.i64.wrap (t6.2.2.2.2.2.2.2.2.1+(1:Int)),())
       else
        none
      else
       G3 (t6.1,t6.2.2.2.1,t6.2.2.2.2.1,IntKind.i64.wrap (t6.2.2.2.2.2.1+(1:Int)),())) (t4.1,t4.2.2.2.1,List.getD t4.2.1 (Int.toNat t4.2.2.2.1) aq.aa,t4.2.1,t4.2.2.1,t4.2.2.2.1,t4.1.2.2.2.2.2.2.2.2.2.2.2.2.1,((List.length t4.1.2.2.2.2.2.2.2.2.2.2.2.2.1:Nat):Int),(0:Int),())
    else
     none
   else
    J1 (t4.1,())) (x.1,x.1.2.2.2.1,((List.length x.1.2.2.2.1:Nat):Int),(0:Int),())) (fun(t2:ar×Unit)=>
  aO (fun J8=>
   az k (fun G10 (t11:ar×List aM×Int×Int×Unit)=>
    if(decide ((t11.2.2.2.1:Int)<t11.2.2.1))=true then
     if(decide (0≤t11.2.2.2.1∧t11.2.2.2.1<((List.length t11.2.1:Nat):Int)))=true then
      Option.bind (gR k (List.getD t11.2.1 (Int.toNat t11.2.2.2.1) ah.aa,())) fun r12=>
      if(!((r12.1:Bool)==((t11.1.2.2.2.2.2.2.1:Int)==t11.2.2.2.1)))=true then
       some (false,())
      else
       G10 (t11.1,t11.2.1,t11.2.2.1,IntKind.i64.wrap (t11.2.2.2.1+(1:Int)),())
     else
      none
    else
     J8 (t11.1,())) (t2.1,t2.1.2.2.2.2.2.2.2.2.2.2.2.2.1,((List.length t2.1.2.2.2.2.2.2.2.2.2.2.2.2.1:Nat):Int),(0:Int),())) (fun(t9:ar×Unit)=>
   Option.bind (bA k (t9.1.2.2.2.2.2.2.1,(-1:Int),(4:Int),())) fun r13=>
   some (r13.1,())))
def lK (k:Nat) (x:List ByteArray×ByteArray×Unit):Option (Bool×Unit):=
 az k (fun G1 (t2:ByteArray×List ByteArray×Int×Int×Unit)=>
  if(decide ((t2.2.2.2.1:Int)<t2.2.2.1))=true then
   if(decide (0≤t2.2.2.2.1∧t2.2.2.2.1<((List.length t2.2.1:Nat):Int)))=true then
    if(ByteArray.toList (List.getD t2.2.1 (Int.toNat t2.2.2.2.1) ByteArray.empty)==ByteArray.toList t2.1)=true then
     some (true,())
    else
     G1 (t2.1,t2.2.1,t2.2.2.1,IntKind.i64.wrap (t2.2.2.2.1+(1:Int)),())
   else
    none
  else
   some (false,())) (x.2.1,x.1,((List.length x.1:Nat):Int),(0:Int),())
def pn (k:Nat) (x:List aj×List ByteArray×Unit):Option (List aj×Unit):=
 az k (fun G1 (t2:List ByteArray×List aj×List aj×Int×Int×Unit)=>
  if(decide ((t2.2.2.2.2.1:Int)<t2.2.2.2.1))=true then
   if(decide (0≤t2.2.2.2.2.1∧t2.2.2.2.2.1<((List.length t2.2.2.1:Nat):Int)))=true then
    Option.bind (lK k (t2.1,(List.getD t2.2.2.1 (Int.toNat t2.2.2.2.2.1) af.aa).1,())) fun r3=>
    if r3.1=true then
     if(decide (List.length t2.2.1+List.length ([List.getD t2.2.2.1 (Int.toNat t2.2.2.2.2.1) af.aa]:List aj)<4294967296))=true then
      G1 (t2.1,t2.2.1++([List.getD t2.2.2.1 (Int.toNat t2.2.2.2.2.1) af.aa]:List aj),t2.2.2.1,t2.2.2.2.1,IntKind.i64.wrap (t2.2.2.2.2.1+(1:Int)),())
     else
      none
    else
     G1 (t2.1,t2.2.1,t2.2.2.1,t2.2.2.2.1,IntKind.i64.wrap (t2.2.2.2.2.1+(1:Int)),())
   else
    none
  else
   some (t2.2.1,())) (x.2.1,([]:List aj),x.1,((List.length x.1:Nat):Int),(0:Int),())
def nY (k:Nat) (x:ai×List ByteArray×Unit):Option (List aj×Unit):=
 Option.bind (pn k (x.1.1,x.2.1,())) fun r1=>
 some (r1.1,())
def ix (k:Nat) (x:List aj×List aj×Unit):Option (Bool×Unit):=
 aO (fun J1=>
  az k (fun G3 (t4:List aj×List aj×Int×Unit)=>
   if(if(decide ((t4.2.2.1:Int)<((List.length t4.1:Nat):Int)))=true then decide ((t4.2.2.1:Int)<((List.length t4.2.1:Nat):Int))else false)=true then
    if(decide (0≤t4.2.2.1∧t4.2.2.1<((List.length t4.1:Nat):Int)))=true then
     if(decide (0≤t4.2.2.1∧t4.2.2.1<((List.length t4.2.1:Nat):Int)))=true then
      if(!(ByteArray.toList ((List.getD t4.1 (Int.toNat t4.2.2.1) af.aa).1)==ByteArray.toList ((List.getD t4.2.1 (Int.toNat t4.2.2.1) af.aa).1)))=true then
       if(decide (0≤t4.2.2.1∧t4.2.2.1<((List.length t4.1:Nat):Int)))=true then
        if(decide (0≤t4.2.2.1∧t4.2.2.1<((List.length t4.2.1:Nat):Int)))=true then
         some (Op.bytesLess (ByteArray.toList ((List.getD t4.1 (Int.toNat t4.2.2.1) af.aa).1)) (ByteArray.toList ((List.getD t4.2.1 (Int.toNat t4.2.2.1) af.aa).1)),())
        else
         none
       else
        none
      else
       if(decide (0≤t4.2.2.1∧t4.2.2.1<((List.length t4.1:Nat):Int)))=true then
        if(decide (0≤t4.2.2.1∧t4.2.2.1<((List.length t4.2.1:Nat):Int)))=true then
         if(!(ByteArray.toList ((List.getD t4.1 (Int.toNat t4.2.2.1) af.aa).2)==ByteArray.toList ((List.getD t4.2.1 (Int.toNat t4.2.2.1) af.aa).2)))=true then
          if(decide (0≤t4.2.2.1∧t4.2.2.1<((List.length t4.1:Nat):Int)))=true then
           if(decide (0≤t4.2.2.1∧t4.2.2.1<((List.length t4.2.1:Nat):Int)))=true then
            some (Op.bytesLess (ByteArray.toList ((List.getD t4.1 (Int.toNat t4.2.2.1) af.aa).2)) (ByteArray.toList ((List.getD t4.2.1 (Int.toNat t4.2.2.1) af.aa).2)),())
           else
            none
          else
           none
         else
          G3 (t4.1,t4.2.1,IntKind.i64.wrap (t4.2.2.1+(1:Int)),())
        else
         none
       else
        none
     else
      none
    else
     none
   else
    J1 (t4.1,t4.2.1,())) (x.1,x.2.1,(0:Int),())) (fun(t2:List aj×List aj×Unit)=>
  some (decide ((((List.length t2.1:Nat):Int):Int)<((List.length t2.2.1:Nat):Int)),()))
def lO (k:Nat) (x:List ai×List aj×List ByteArray×Unit):Option (Bool×Unit):=
 az k (fun G1 (t2:List ai×List aj×List ByteArray×List ai×Int×Int×Unit)=>
  if(decide ((t2.2.2.2.2.2.1:Int)<t2.2.2.2.2.1))=true then
   if(decide (0≤t2.2.2.2.2.2.1∧t2.2.2.2.2.2.1<((List.length t2.2.2.2.1:Nat):Int)))=true then
    Option.bind (dS k (List.getD t2.2.2.2.1 (Int.toNat t2.2.2.2.2.2.1) ab.aa,())) fun r3=>
    Option.bind ((if(((!r3.1):Bool)==false)=true then nY k (List.getD t2.2.2.2.1 (Int.toNat t2.2.2.2.2.2.1) ab.aa,t2.2.2.1,())else some (([]:List aj),()))) fun r4=>
    Option.bind ((if(((!r3.1):Bool)==false)=true then cM k (r4.1,t2.2.1,())else some (false,()))) fun r5=>
    if(!((((if(!r3.1)=true then true else !r5.1):Bool)==false)&&(((decide ((t2.2.2.2.2.2.1:Int)>(0:Int))):Bool)==true))||(decide (0≤(IntKind.i64.wrap (t2.2.2.2.2.2.1-(1:Int)))∧(IntKind.i64.wrap (t2.2.2.2.2.2.1-(1:Int)))<((List.length t2.1:Nat):Int))))=true then
     Option.bind ((if((((if(!r3.1)=true then true else !r5.1):Bool)==false)&&(((decide ((t2.2.2.2.2.2.1:Int)>(0:Int))):Bool)==true))=true then ix k ((List.getD t2.1 (Int.toNat (IntKind.i64.wrap (t2.2.2.2.2.2.1-(1:Int)))) ab.aa).1,(List.getD t2.2.2.2.1 (Int.toNat t2.2.2.2.2.2.1) ab.aa).1,())else some (false,()))) fun r6=>
     if(if(if(!r3.1)=true then true else !r5.1)=true then true else if(decide ((t2.2.2.2.2.2.1:Int)>(0:Int)))=true then !r6.1 else false)=true then
      some (false,())
     else
      G1 (t2.1,t2.2.1,t2.2.2.1,t2.2.2.2.1,t2.2.2.2.2.1,IntKind.i64.wrap (t2.2.2.2.2.2.1+(1:Int)),())
    else
     none
   else
    none
  else
   some (true,())) (x.1,x.2.1,x.2.2.1,x.1,((List.length x.1:Nat):Int),(0:Int),())
def lN (k:Nat) (x:aJ×List ByteArray×Unit):Option (Bool×Unit):=
 Option.bind ((if(((decide ((x.1.1:Int)<(0:Int))):Bool)==false)=true then ga k (x.1.2.1,())else some (false,()))) fun r1=>
 Option.bind ((if(((if(decide ((x.1.1:Int)<(0:Int)))=true then true else !r1.1):Bool)==false)=true then bA k (x.1.2.2.1,(0:Int),(99999:Int),())else some (false,()))) fun r2=>
 Option.bind ((if((((if(if(decide ((x.1.1:Int)<(0:Int)))=true then true else !r1.1)=true then true else !r2.1):Bool)==false)&&((((x.1.2.2.2.1:Int) != (-1:Int)):Bool)==true))=true then bA k (x.1.2.2.2.1,x.1.2.2.1,(99999:Int),())else some (false,()))) fun r3=>
 if(if(if(if(decide ((x.1.1:Int)<(0:Int)))=true then true else !r1.1)=true then true else !r2.1)=true then true else if((x.1.2.2.2.1:Int) != (-1:Int))=true then !r3.1 else false)=true then
  some (false,())
 else
  Option.bind ((if(((decide ((((List.length x.1.2.2.2.2:Nat):Int):Int)>(0:Int))):Bool)==true)=true then lO k (x.1.2.2.2.2,x.1.2.1,x.2.1,())else some (false,()))) fun r4=>
  some (if(decide ((((List.length x.1.2.2.2.2:Nat):Int):Int)>(0:Int)))=true then r4.1 else false,())
def lX (k:Nat) (x:List aJ×List aj×Unit):Option (Int×Unit):=
 az k (fun G1 (t2:List aj×List aJ×Int×Int×Unit)=>
  if(decide ((t2.2.2.2.1:Int)<t2.2.2.1))=true then
   if(decide (0≤t2.2.2.2.1∧t2.2.2.2.1<((List.length t2.2.1:Nat):Int)))=true then
    Option.bind (cM k (((List.getD t2.2.1 (Int.toNat t2.2.2.2.1) al.aa).2).1,t2.1,())) fun r3=>
    if r3.1=true then
     some (t2.2.2.2.1,())
    else
     G1 (t2.1,t2.2.1,t2.2.2.1,IntKind.i64.wrap (t2.2.2.2.1+(1:Int)),())
   else
    none
  else
   some ((-1:Int),())) (x.2.1,x.1,((List.length x.1:Nat):Int),(0:Int),())
def kE (k:Nat) (x:List aJ×List ByteArray×Unit):Option (Bool×Unit):=
 az k (fun G1 (t2:List aJ×List ByteArray×List aJ×Int×Int×Unit)=>
  if(decide ((t2.2.2.2.2.1:Int)<t2.2.2.2.1))=true then
   if(decide (0≤t2.2.2.2.2.1∧t2.2.2.2.2.1<((List.length t2.2.2.1:Nat):Int)))=true then
    Option.bind ((if(((decide ((t2.2.2.2.2.1:Int)≥(12:Int))):Bool)==false)=true then lN k (List.getD t2.2.2.1 (Int.toNat t2.2.2.2.2.1) al.aa,t2.2.1,())else some (false,()))) fun r3=>
    if(!((((if(decide ((t2.2.2.2.2.1:Int)≥(12:Int)))=true then true else !r3.1):Bool)==false)&&(((decide ((t2.2.2.2.2.1:Int)>(0:Int))):Bool)==true))||(decide (0≤(IntKind.i64.wrap (t2.2.2.2.2.1-(1:Int)))∧(IntKind.i64.wrap (t2.2.2.2.2.1-(1:Int)))<((List.length t2.1:Nat):Int))))=true then
     Option.bind ((if(((if(if(decide ((t2.2.2.2.2.1:Int)≥(12:Int)))=true then true else !r3.1)=true then true else if(decide ((t2.2.2.2.2.1:Int)>(0:Int)))=true then decide ((((List.getD t2.1 (Int.toNat (IntKind.i64.wrap (t2.2.2.2.2.1-(1:Int)))) al.aa).1):Int)≥((List.getD t2.2.2.1 (Int.toNat t2.2.2.2.2.1) al.aa).1))else false):Bool)==false)=true then lX k (t2.1,((List.getD t2.2.2.1 (Int.toNat t2.2.2.2.2.1) al.aa).2).1,())else some (0,()))) fun r4=>
     if(if(if(if(decide ((t2.2.2.2.2.1:Int)≥(12:Int)))=true then true else !r3.1)=true then true else if(decide ((t2.2.2.2.2.1:Int)>(0:Int)))=true then decide ((((List.getD t2.1 (Int.toNat (IntKind.i64.wrap (t2.2.2.2.2.1-(1:Int)))) al.aa).1):Int)≥((List.getD t2.2.2.1 (Int.toNat t2.2.2.2.2.1) al.aa).1))else false)=true then true else(r4.1:Int) != t2.2.2.2.2.1)=true then
      some (false,())
     else
      G1 (t2.1,t2.2.1,t2.2.2.1,t2.2.2.2.1,IntKind.i64.wrap (t2.2.2.2.2.1+(1:Int)),())
    else
     none
   else
    none
  else
   some (true,())) (x.1,x.2.1,x.1,((List.length x.1:Nat):Int),(0:Int),())
def ni (k:Nat) (x:bl×bl×Unit):Option (Bool×Unit):=
 some (if(decide ((x.1.1:Int)<x.2.1.1))=true then true else if((x.1.1:Int)==x.2.1.1)=true then decide ((x.1.2:Int)<x.2.1.2)else false,())
def mY (k:Nat) (x:List bl×Unit):Option (Bool×Unit):=
 aO (fun J1=>
  az k (fun G3 (t4:List bl×List bl×Int×Int×Unit)=>
   if(decide ((t4.2.2.2.1:Int)<t4.2.2.1))=true then
    if(decide (0≤t4.2.2.2.1∧t4.2.2.2.1<((List.length t4.2.1:Nat):Int)))=true then
     if(!((((if(decide ((((List.getD t4.2.1 (Int.toNat t4.2.2.2.1) aC.aa).1):Int)<(0:Int)))=true then true else decide ((((List.getD t4.2.1 (Int.toNat t4.2.2.2.1) aC.aa).2):Int)<(0:Int))):Bool)==false)&&(((decide ((t4.2.2.2.1:Int)>(0:Int))):Bool)==true))||(decide ((2:Int)≠0)))=true then
      if(!((((if(decide ((((List.getD t4.2.1 (Int.toNat t4.2.2.2.1) aC.aa).1):Int)<(0:Int)))=true then true else decide ((((List.getD t4.2.1 (Int.toNat t4.2.2.2.1) aC.aa).2):Int)<(0:Int))):Bool)==false)&&(((decide ((t4.2.2.2.1:Int)>(0:Int))):Bool)==true))||(decide (0≤(IntKind.i64.wrap (Int.tdiv (IntKind.i64.wrap (t4.2.2.2.1-(1:Int))) (2:Int)))∧(IntKind.i64.wrap (Int.tdiv (IntKind.i64.wrap (t4.2.2.2.1-(1:Int))) (2:Int)))<((List.length t4.1:Nat):Int))))=true then
       Option.bind ((if((((if(decide ((((List.getD t4.2.1 (Int.toNat t4.2.2.2.1) aC.aa).1):Int)<(0:Int)))=true then true else decide ((((List.getD t4.2.1 (Int.toNat t4.2.2.2.1) aC.aa).2):Int)<(0:Int))):Bool)==false)&&(((decide ((t4.2.2.2.1:Int)>(0:Int))):Bool)==true))=true then ni k (List.getD t4.2.1 (Int.toNat t4.2.2.2.1) aC.aa,List.getD t4.1 (Int.toNat (IntKind.i64.wrap (Int.tdiv (IntKind.i64.wrap (t4.2.2.2.1-(1:Int))) (2:Int)))) aC.aa,())else some (false,()))) fun r5=>
       if(if(if(decide ((((List.getD t4.2.1 (Int.toNat t4.2.2.2.1) aC.aa).1):Int)<(0:Int)))=true then true else decide ((((List.getD t4.2.1 (Int.toNat t4.2.2.2.1) aC.aa).2):Int)<(0:Int)))=true then true else if(decide ((t4.2.2.2.1:Int)>(0:Int)))=true then r5.1 else false)=true then
        some (false,())
       else
        G3 (t4.1,t4.2.1,t4.2.2.1,IntKind.i64.wrap (t4.2.2.2.1+(1:Int)),())
      else
       none
     else
      none
    else
     none
   else
    J1 (t4.1,())) (x.1,x.1,((List.length x.1:Nat):Int),(0:Int),())) (fun(t2:List bl×Unit)=>
  some (decide ((((List.length t2.1:Nat):Int):Int)≤(16:Int)),()))
def pr (k:Nat) (x:aJ×Int×Int×Unit):Option (Int×Unit):=
 if((x.1.2.2.2.1:Int)==(-1:Int))=true then
  some (IntKind.i64.wrap (x.1.2.2.1+x.2.1),())
 else
  some (IntKind.i64.wrap (x.1.2.2.2.1+x.2.2.1),())
def rB (k:Nat) (x:cg×aJ×Unit):Option (Int×Unit):=
 Option.bind (pr k (x.2.1,x.1.2.2.2.1,x.1.2.2.2.2.1,())) fun r1=>
 some (r1.1,())
def gN (k:Nat) (x:ar×Unit):Option (Bool×Unit):=
 Option.bind (kE k (x.1.2.2.2.2.2.2.2.1,x.1.1.2.2.2.2.2,())) fun r1=>
 Option.bind ((if(((!r1.1):Bool)==false)=true then mY k (x.1.2.2.2.2.2.2.2.2.2.1,())else some (false,()))) fun r2=>
 if(if(!r1.1)=true then true else !r2.1)=true then
  some (false,())
 else
  aO (fun J3=>
   az k (fun G5 (t6:ar×List aJ×Int×Int×Unit)=>
    if(decide ((t6.2.2.2.1:Int)<t6.2.2.1))=true then
     if(decide (0≤t6.2.2.2.1∧t6.2.2.2.1<((List.length t6.2.1:Nat):Int)))=true then
      if(if(if(decide ((((((List.getD t6.2.1 (Int.toNat t6.2.2.2.1) al.aa).2).2).1):Int)>t6.1.2.2.1))=true then true else decide (((((((List.getD t6.2.1 (Int.toNat t6.2.2.2.1) al.aa).2).2).2).1):Int)>t6.1.2.2.1))=true then true else decide ((((List.getD t6.2.1 (Int.toNat t6.2.2.2.1) al.aa).1):Int)≥t6.1.2.2.2.2.2.2.2.2.1))=true then
       some (false,())
      else
       if(decide (0≤(4:Int)∧(4:Int)<((List.length t6.1.2.2.2.2.2.2.2.2.2.2.2.2.1:Nat):Int)))=true then
        if(!((((((List.getD t6.1.2.2.2.2.2.2.2.2.2.2.2.2.1 (Int.toNat (4:Int)) ah.aa).1):Int)==(6:Int)):Bool)==true)||(decide (0≤(4:Int)∧(4:Int)<((List.length t6.1.2.2.2.2.2.2.2.2.2.2.2.2.1:Nat):Int))))=true then
         aO (fun J7=>
          az k (fun G9 (t10:ar×aJ×Bool×List aJ×Int×Int×List bl×Int×Int×Unit)=>
           if(decide ((t10.2.2.2.2.2.2.2.2.1:Int)<t10.2.2.2.2.2.2.2.1))=true then
            if(decide (0≤t10.2.2.2.2.2.2.2.2.1∧t10.2.2.2.2.2.2.2.2.1<((List.length t10.2.2.2.2.2.2.1:Nat):Int)))=true then
             Option.bind ((if(((t10.2.2.1:Bool)==false)&&((((((List.getD t10.2.2.2.2.2.2.1 (Int.toNat t10.2.2.2.2.2.2.2.2.1) aC.aa).2):Int)==t10.2.1.1):Bool)==true))=true then rB k (t10.1.1,t10.2.1,())else some (0,()))) fun r11=>
             G9 (t10.1,t10.2.1,if t10.2.2.1=true then true else if((((List.getD t10.2.2.2.2.2.2.1 (Int.toNat t10.2.2.2.2.2.2.2.2.1) aC.aa).2):Int)==t10.2.1.1)=true then(((List.getD t10.2.2.2.2.2.2.1 (Int.toNat t10.2.2.2.2.2.2.2.2.1) aC.aa).1):Int)==r11.1 else false,t10.2.2.2.1,t10.2.2.2.2.1,t10.2.2.2.2.2.1,t10.2.2.2.2.2.2.1,t10.2.2.2.2.2.2.2.1,IntKind.i64.wrap (t10.2.2.2.2.2.2.2.2.1+(1:Int)),())
            else
             none
           else
            J7 (t10.1,t10.2.1,t10.2.2.1,t10.2.2.2.1,t10.2.2.2.2.1,t10.2.2.2.2.2.1,())) (t6.1,List.getD t6.2.1 (Int.toNat t6.2.2.2.1) al.aa,if((((List.getD t6.1.2.2.2.2.2.2.2.2.2.2.2.2.1 (Int.toNat (4:Int)) ah.aa).1):Int)==(6:Int))=true then((((((((((List.getD t6.1.2.2.2.2.2.2.2.2.2.2.2.2.1 (Int.toNat (4:Int)) ah.aa).2).2).2).2).2).2).2).1):Int)==((List.getD t6.2.1 (Int.toNat t6.2.2.2.1) al.aa).1)else false,t6.2.1,t6.2.2.1,t6.2.2.2.1,t6.1.2.2.2.2.2.2.2.2.2.1,((List.length t6.1.2.2.2.2.2.2.2.2.2.1:Nat):Int),(0:Int),())) (fun(t8:ar×aJ×Bool×List aJ×Int×Int×Unit)=>
          if(!t8.2.2.1)=true then
           some (false,())
          else
           G5 (t8.1,t8.2.2.2.1,t8.2.2.2.2.1,IntKind.i64.wrap (t8.2.2.2.2.2.1+(1:Int)),()))
        else
         none
       else
        none
     else
      none
    else
     J3 (t6.1,())) (x.1,x.1.2.2.2.2.2.2.2.1,((List.length x.1.2.2.2.2.2.2.2.1:Nat):Int),(0:Int),())) (fun(t4:ar×Unit)=>
   az k (fun G12 (t13:ar×List bl×Int×Int×Unit)=>
    if(decide ((t13.2.2.2.1:Int)<t13.2.2.1))=true then
     if(decide (0≤t13.2.2.2.1∧t13.2.2.2.1<((List.length t13.2.1:Nat):Int)))=true then
      if(decide ((((List.getD t13.2.1 (Int.toNat t13.2.2.2.1) aC.aa).2):Int)≥t13.1.2.2.2.2.2.2.2.2.1))=true then
       some (false,())
      else
       if(decide (0≤t13.2.2.2.1∧t13.2.2.2.1≤((List.length t13.1.2.2.2.2.2.2.2.2.2.1:Nat):Int)))=true then
        az k (fun G14 (t15:ar×bl×List bl×Int×Int×List bl×Int×Int×Unit)=>
         if(decide ((t15.2.2.2.2.2.2.2.1:Int)<t15.2.2.2.2.2.2.1))=true then
          if(decide (0≤t15.2.2.2.2.2.2.2.1∧t15.2.2.2.2.2.2.2.1<((List.length t15.2.2.2.2.2.1:Nat):Int)))=true then
           if((((List.getD t15.2.2.2.2.2.1 (Int.toNat t15.2.2.2.2.2.2.2.1) aC.aa).2):Int)==t15.2.1.2)=true then
            some (false,())
           else
            G14 (t15.1,t15.2.1,t15.2.2.1,t15.2.2.2.1,t15.2.2.2.2.1,t15.2.2.2.2.2.1,t15.2.2.2.2.2.2.1,IntKind.i64.wrap (t15.2.2.2.2.2.2.2.1+(1:Int)),())
          else
           none
         else
          G12 (t15.1,t15.2.2.1,t15.2.2.2.1,IntKind.i64.wrap (t15.2.2.2.2.1+(1:Int)),())) (t13.1,List.getD t13.2.1 (Int.toNat t13.2.2.2.1) aC.aa,t13.2.1,t13.2.2.1,t13.2.2.2.1,List.take (Int.toNat t13.2.2.2.1) t13.1.2.2.2.2.2.2.2.2.2.1,((List.length (List.take (Int.toNat t13.2.2.2.1) t13.1.2.2.2.2.2.2.2.2.2.1):Nat):Int),(0:Int),())
       else
        none
     else
      none
    else
     some (true,())) (t4.1,t4.1.2.2.2.2.2.2.2.2.2.1,((List.length t4.1.2.2.2.2.2.2.2.2.2.1:Nat):Int),(0:Int),()))
def lM (k:Nat) (x:ar×Unit):Option (Bool×Unit):=
 Option.bind (nh k (x.1.1,())) fun r1=>
 Option.bind ((if(((if(if(!r1.1)=true then true else decide ((x.1.2.1:Int)<(0:Int)))=true then true else decide ((x.1.2.2.2.2.2.2.2.2.1:Int)<(0:Int))):Bool)==false)=true then bA k (x.1.2.2.1,(0:Int),(99899:Int),())else some (false,()))) fun r2=>
 if(if(if(if(if(!r1.1)=true then true else decide ((x.1.2.1:Int)<(0:Int)))=true then true else decide ((x.1.2.2.2.2.2.2.2.2.1:Int)<(0:Int)))=true then true else !r2.1)=true then true else(((List.length x.1.2.2.2.2.2.2.2.2.2.2.2.2.1:Nat):Int):Int) != (5:Int))=true then
  some (false,())
 else
  Option.bind (ik k (x.1,())) fun r3=>
  Option.bind ((if((r3.1:Bool)==true)=true then jA k (x.1.2.2.2.2.1,x.1.1,())else some (false,()))) fun r4=>
  Option.bind ((if(((if r3.1=true then r4.1 else false):Bool)==true)=true then eC k (x.1.2.2.2.2.2.1,())else some (false,()))) fun r5=>
  Option.bind ((if(((if(if r3.1=true then r4.1 else false)=true then r5.1 else false):Bool)==true)=true then eC k (x.1.2.2.2.2.2.2.2.2.2.2.2.1,())else some (false,()))) fun r6=>
  Option.bind ((if(((if(if(if r3.1=true then r4.1 else false)=true then r5.1 else false)=true then r6.1 else false):Bool)==true)=true then ij k (x.1,())else some (false,()))) fun r7=>
  Option.bind ((if(((if(if(if(if r3.1=true then r4.1 else false)=true then r5.1 else false)=true then r6.1 else false)=true then r7.1 else false):Bool)==true)=true then il k (x.1,())else some (false,()))) fun r8=>
  Option.bind ((if(((if(if(if(if(if r3.1=true then r4.1 else false)=true then r5.1 else false)=true then r6.1 else false)=true then r7.1 else false)=true then r8.1 else false):Bool)==true)=true then gN k (x.1,())else some (false,()))) fun r9=>
  some (if(if(if(if(if(if r3.1=true then r4.1 else false)=true then r5.1 else false)=true then r6.1 else false)=true then r7.1 else false)=true then r8.1 else false)=true then r9.1 else false,())
def qb (k:Nat) (x:ar×Int×Unit):Option (Bool×Unit):=
 Option.bind (bA k (x.2.1,(0:Int),IntKind.i64.wrap (((List.length x.1.2.2.2.2.2.2.2.2.2.2.2.2.1:Nat):Int)-(1:Int)),())) fun r1=>
 if(!((r1.1:Bool)==true)||(decide (0≤x.2.1∧x.2.1<((List.length x.1.2.2.2.2.2.2.2.2.2.2.2.2.1:Nat):Int))))=true then
  some (if r1.1=true then(((List.getD x.1.2.2.2.2.2.2.2.2.2.2.2.2.1 (Int.toNat x.2.1) ah.aa).1):Int)==(0:Int)else false,())
 else
  none
def mX (k:Nat) (x:ar×Int×Unit):Option (Bool×Unit):=
 Option.bind (bA k (x.2.1,(0:Int),(2:Int),())) fun r1=>
 Option.bind ((if((r1.1:Bool)==true)=true then qb k (x.1,x.2.1,())else some (false,()))) fun r2=>
 some (if r1.1=true then r2.1 else false,())
def gC (k:Nat) (x:ar×aY×Unit):Option (Int×ar×Unit):=
 if(decide (List.length x.1.2.2.2.2.2.2.2.2.2.2.2.2.2+List.length ([(x.2.1.1,x.2.1.2.1,x.2.1.2.2.1,x.2.1.2.2.2.1,x.2.1.2.2.2.2.1,x.2.1.2.2.2.2.2.1,x.2.1.2.2.2.2.2.2.1,x.2.1.2.2.2.2.2.2.2.1,x.1.2.2.1,x.1.2.1,(-1:Int),(-1:Int))]:List aY)<4294967296))=true then
  some (IntKind.i64.wrap (((List.length (x.1.2.2.2.2.2.2.2.2.2.2.2.2.2++([(x.2.1.1,x.2.1.2.1,x.2.1.2.2.1,x.2.1.2.2.2.1,x.2.1.2.2.2.2.1,x.2.1.2.2.2.2.2.1,x.2.1.2.2.2.2.2.2.1,x.2.1.2.2.2.2.2.2.2.1,x.1.2.2.1,x.1.2.1,(-1:Int),(-1:Int))]:List aY)):Nat):Int)-(1:Int)),(x.1.1,x.1.2.1,x.1.2.2.1,x.1.2.2.2.1,x.1.2.2.2.2.1,x.1.2.2.2.2.2.1,x.1.2.2.2.2.2.2.1,x.1.2.2.2.2.2.2.2.1,x.1.2.2.2.2.2.2.2.2.1,x.1.2.2.2.2.2.2.2.2.2.1,x.1.2.2.2.2.2.2.2.2.2.2.1,x.1.2.2.2.2.2.2.2.2.2.2.2.1,x.1.2.2.2.2.2.2.2.2.2.2.2.2.1,x.1.2.2.2.2.2.2.2.2.2.2.2.2.2++([(x.2.1.1,x.2.1.2.1,x.2.1.2.2.1,x.2.1.2.2.2.1,x.2.1.2.2.2.2.1,x.2.1.2.2.2.2.2.1,x.2.1.2.2.2.2.2.2.1,x.2.1.2.2.2.2.2.2.2.1,x.1.2.2.1,x.1.2.1,(-1:Int),(-1:Int))]:List aY)),())
 else
  none
def gP (k:Nat) (x:ar×Int×ai×Unit):Option (Bool×ar×Unit):=
 Option.bind (mX k (x.1,x.2.1,())) fun r1=>
 if(!r1.1)=true then
  some (false,x.1,())
 else
  Option.bind (cS k (x.2.2.1,())) fun r2=>
  Option.bind (gC k (x.1,((1:Int),x.2.1,r2.1,([]:List aj),0,0,0,([]:List ai),0,0,0,0),())) fun r3=>
  aO (fun J4=>
   Option.bind (j9 k (r3.2.1.1,x.2.2.1,())) fun r6=>
   if r6.1=true then
    Option.bind (cS k (x.2.2.1,())) fun r7=>
    if(decide (0≤x.2.1∧x.2.1<((List.length r3.2.1.2.2.2.2.2.2.2.2.2.2.2.2.1:Nat):Int)))=true then
     J4 ((r3.2.1.1,r3.2.1.2.1,r3.2.1.2.2.1,r3.2.1.2.2.2.1,r3.2.1.2.2.2.2.1,r3.2.1.2.2.2.2.2.1,r3.2.1.2.2.2.2.2.2.1,r3.2.1.2.2.2.2.2.2.2.1,r3.2.1.2.2.2.2.2.2.2.2.1,r3.2.1.2.2.2.2.2.2.2.2.2.1,r3.2.1.2.2.2.2.2.2.2.2.2.2.1,r3.2.1.2.2.2.2.2.2.2.2.2.2.2.1,List.set r3.2.1.2.2.2.2.2.2.2.2.2.2.2.2.1 (Int.toNat x.2.1) ((1:Int),0,r7.1,([]:List aj),0,([]:List Int),([]:List ai),0,r3.1),r3.2.1.2.2.2.2.2.2.2.2.2.2.2.2.2),x.2.2.1,())
    else
     none
   else
    if(decide (0≤r3.1∧r3.1<((List.length r3.2.1.2.2.2.2.2.2.2.2.2.2.2.2.2:Nat):Int)))=true then
     bS (List.set r3.2.1.2.2.2.2.2.2.2.2.2.2.2.2.2 (Int.toNat r3.1) ((List.getD r3.2.1.2.2.2.2.2.2.2.2.2.2.2.2.2 (Int.toNat r3.1) ak.aa).1,((List.getD r3.2.1.2.2.2.2.2.2.2.2.2.2.2.2.2 (Int.toNat r3.1) ak.aa).2).1,(((List.getD r3.2.1.2.2.2.2.2.2.2.2.2.2.2.2.2 (Int.toNat r3.1) ak.aa).2).2).1,((((List.getD r3.2.1.2.2.2.2.2.2.2.2.2.2.2.2.2 (Int.toNat r3.1) ak.aa).2).2).2).1,(((((List.getD r3.2.1.2.2.2.2.2.2.2.2.2.2.2.2.2 (Int.toNat r3.1) ak.aa).2).2).2).2).1,((((((List.getD r3.2.1.2.2.2.2.2.2.2.2.2.2.2.2.2 (Int.toNat r3.1) ak.aa).2).2).2).2).2).1,(4:Int),(((((((List.getD r3.2.1.2.2.2.2.2.2.2.2.2.2.2.2.2 (Int.toNat r3.1) ak.aa).2).2).2).2).2).2).2)) fun l8=>
     bS (List.set l8 (Int.toNat r3.1) ((List.getD l8 (Int.toNat r3.1) ak.aa).1,((List.getD l8 (Int.toNat r3.1) ak.aa).2).1,(((List.getD l8 (Int.toNat r3.1) ak.aa).2).2).1,((((List.getD l8 (Int.toNat r3.1) ak.aa).2).2).2).1,(((((List.getD l8 (Int.toNat r3.1) ak.aa).2).2).2).2).1,((((((List.getD l8 (Int.toNat r3.1) ak.aa).2).2).2).2).2).1,(((((((List.getD l8 (Int.toNat r3.1) ak.aa).2).2).2).2).2).2).1,((((((((List.getD l8 (Int.toNat r3.1) ak.aa).2).2).2).2).2).2).2).1,(((((((((List.getD l8 (Int.toNat r3.1) ak.aa).2).2).2).2).2).2).2).2).1,((((((((((List.getD l8 (Int.toNat r3.1) ak.aa).2).2).2).2).2).2).2).2).2).1,r3.2.1.2.1,(((((((((((List.getD l8 (Int.toNat r3.1) ak.aa).2).2).2).2).2).2).2).2).2).2).2)) fun l9=>
     bS (List.set l9 (Int.toNat r3.1) ((List.getD l9 (Int.toNat r3.1) ak.aa).1,((List.getD l9 (Int.toNat r3.1) ak.aa).2).1,(((List.getD l9 (Int.toNat r3.1) ak.aa).2).2).1,((((List.getD l9 (Int.toNat r3.1) ak.aa).2).2).2).1,(((((List.getD l9 (Int.toNat r3.1) ak.aa).2).2).2).2).1,((((((List.getD l9 (Int.toNat r3.1) ak.aa).2).2).2).2).2).1,(((((((List.getD l9 (Int.toNat r3.1) ak.aa).2).2).2).2).2).2).1,((((((((List.getD l9 (Int.toNat r3.1) ak.aa).2).2).2).2).2).2).2).1,(((((((((List.getD l9 (Int.toNat r3.1) ak.aa).2).2).2).2).2).2).2).2).1,((((((((((List.getD l9 (Int.toNat r3.1) ak.aa).2).2).2).2).2).2).2).2).2).1,(((((((((((List.getD l9 (Int.toNat r3.1) ak.aa).2).2).2).2).2).2).2).2).2).2).1,r3.2.1.2.1)) fun l10=>
     J4 ((r3.2.1.1,r3.2.1.2.1,r3.2.1.2.2.1,r3.2.1.2.2.2.1,r3.2.1.2.2.2.2.1,r3.2.1.2.2.2.2.2.1,r3.2.1.2.2.2.2.2.2.1,r3.2.1.2.2.2.2.2.2.2.1,r3.2.1.2.2.2.2.2.2.2.2.1,r3.2.1.2.2.2.2.2.2.2.2.2.1,r3.2.1.2.2.2.2.2.2.2.2.2.2.1,r3.2.1.2.2.2.2.2.2.2.2.2.2.2.1,r3.2.1.2.2.2.2.2.2.2.2.2.2.2.2.1,l10),x.2.2.1,())
    else
     none) (fun(t5:ar×ai×Unit)=>
   some (true,(t5.1.1,IntKind.i64.wrap (t5.1.2.1+(1:Int)),t5.1.2.2),()))
def lh (k:Nat) (x:ar×Int×ai×Unit):Option (ar×Bool×Unit):=
 Option.bind (eZ k (x.1,())) fun r1=>
 Option.bind (lM k (x.1,())) fun r2=>
 if(((!r2.1):Bool)==false)=true then
  Option.bind (gP k (r1.1,x.2.1,x.2.2.1,())) fun r3=>
  if(if(!r2.1)=true then true else !r3.1)=true then
   Option.bind (eZ k (x.1,())) fun r4=>
   some (r4.1,false,())
  else
   some (r3.2.1,true,())
 else
  if(if(!r2.1)=true then true else !false)=true then
   Option.bind (eZ k (x.1,())) fun r5=>
   some (r5.1,false,())
  else
   some (r1.1,true,())
def nF (k:Nat) (x:List ByteArray×List ByteArray×Unit):Option (Bool×Unit):=
 if((((List.length x.1:Nat):Int):Int) != ((List.length x.2.1:Nat):Int))=true then
  some (false,())
 else
  az k (fun G1 (t2:List ByteArray×List ByteArray×Int×Unit)=>
   if(decide ((t2.2.2.1:Int)<((List.length t2.1:Nat):Int)))=true then
    if(decide (0≤t2.2.2.1∧t2.2.2.1<((List.length t2.1:Nat):Int)))=true then
     if(decide (0≤t2.2.2.1∧t2.2.2.1<((List.length t2.2.1:Nat):Int)))=true then
      if(!(ByteArray.toList (List.getD t2.1 (Int.toNat t2.2.2.1) ByteArray.empty)==ByteArray.toList (List.getD t2.2.1 (Int.toNat t2.2.2.1) ByteArray.empty)))=true then
       some (false,())
      else
       G1 (t2.1,t2.2.1,IntKind.i64.wrap (t2.2.2.1+(1:Int)),())
     else
      none
    else
     none
   else
    some (true,())) (x.1,x.2.1,(0:Int),())
def nb (k:Nat) (x:cg×cg×Unit):Option (Bool×Unit):=
 if((x.1.1:Int) != x.2.1.1)=true then
  some (false,())
 else
  if((x.1.2.1:Int) != x.2.1.2.1)=true then
   some (false,())
  else
   if((x.1.2.2.1:Int) != x.2.1.2.2.1)=true then
    some (false,())
   else
    if((x.1.2.2.2.1:Int) != x.2.1.2.2.2.1)=true then
     some (false,())
    else
     if((x.1.2.2.2.2.1:Int) != x.2.1.2.2.2.2.1)=true then
      some (false,())
     else
      Option.bind (nF k (x.1.2.2.2.2.2,x.2.1.2.2.2.2.2,())) fun r1=>
      if(!r1.1)=true then
       some (false,())
      else
       some (true,())
def iR (k:Nat) (x:aj×aj×Unit):Option (Bool×Unit):=
 if(!(ByteArray.toList x.1.1==ByteArray.toList x.2.1.1))=true then
  some (false,())
 else
  if(!(ByteArray.toList x.1.2==ByteArray.toList x.2.1.2))=true then
   some (false,())
  else
   some (true,())
def ez (k:Nat) (x:List aj×List aj×Unit):Option (Bool×Unit):=
 if((((List.length x.1:Nat):Int):Int) != ((List.length x.2.1:Nat):Int))=true then
  some (false,())
 else
  az k (fun G1 (t2:List aj×List aj×Int×Unit)=>
   if(decide ((t2.2.2.1:Int)<((List.length t2.1:Nat):Int)))=true then
    if(decide (0≤t2.2.2.1∧t2.2.2.1<((List.length t2.1:Nat):Int)))=true then
     if(decide (0≤t2.2.2.1∧t2.2.2.1<((List.length t2.2.1:Nat):Int)))=true then
      Option.bind (iR k (List.getD t2.1 (Int.toNat t2.2.2.1) af.aa,List.getD t2.2.1 (Int.toNat t2.2.2.1) af.aa,())) fun r3=>
      if(!r3.1)=true then
       some (false,())
      else
       G1 (t2.1,t2.2.1,IntKind.i64.wrap (t2.2.2.1+(1:Int)),())
     else
      none
    else
     none
   else
    some (true,())) (x.1,x.2.1,(0:Int),())
def eu (k:Nat) (x:ai×ai×Unit):Option (Bool×Unit):=
 Option.bind (ez k (x.1.1,x.2.1.1,())) fun r1=>
 if(!r1.1)=true then
  some (false,())
 else
  if((x.1.2.1:Int) != x.2.1.2.1)=true then
   some (false,())
  else
   if((x.1.2.2.1:Int) != x.2.1.2.2.1)=true then
    some (false,())
   else
    if(!(ByteArray.toList x.1.2.2.2==ByteArray.toList x.2.1.2.2.2))=true then
     some (false,())
    else
     some (true,())
def db (k:Nat) (x:List ai×List ai×Unit):Option (Bool×Unit):=
 if((((List.length x.1:Nat):Int):Int) != ((List.length x.2.1:Nat):Int))=true then
  some (false,())
 else
  az k (fun G1 (t2:List ai×List ai×Int×Unit)=>
   if(decide ((t2.2.2.1:Int)<((List.length t2.1:Nat):Int)))=true then
    if(decide (0≤t2.2.2.1∧t2.2.2.1<((List.length t2.1:Nat):Int)))=true then
     if(decide (0≤t2.2.2.1∧t2.2.2.1<((List.length t2.2.1:Nat):Int)))=true then
      Option.bind (eu k (List.getD t2.1 (Int.toNat t2.2.2.1) ab.aa,List.getD t2.2.1 (Int.toNat t2.2.2.1) ab.aa,())) fun r3=>
      if(!r3.1)=true then
       some (false,())
      else
       G1 (t2.1,t2.2.1,IntKind.i64.wrap (t2.2.2.1+(1:Int)),())
     else
      none
    else
     none
   else
    some (true,())) (x.1,x.2.1,(0:Int),())
def iB (k:Nat) (x:bc×bc×Unit):Option (Bool×Unit):=
 if((x.1.1:Int) != x.2.1.1)=true then
  some (false,())
 else
  Option.bind (db k (x.1.2,x.2.1.2,())) fun r1=>
  if(!r1.1)=true then
   some (false,())
  else
   some (true,())
def oW (k:Nat) (x:List bc×List bc×Unit):Option (Bool×Unit):=
 if((((List.length x.1:Nat):Int):Int) != ((List.length x.2.1:Nat):Int))=true then
  some (false,())
 else
  az k (fun G1 (t2:List bc×List bc×Int×Unit)=>
   if(decide ((t2.2.2.1:Int)<((List.length t2.1:Nat):Int)))=true then
    if(decide (0≤t2.2.2.1∧t2.2.2.1<((List.length t2.1:Nat):Int)))=true then
     if(decide (0≤t2.2.2.1∧t2.2.2.1<((List.length t2.2.1:Nat):Int)))=true then
      Option.bind (iB k (List.getD t2.1 (Int.toNat t2.2.2.1) ay.aa,List.getD t2.2.1 (Int.toNat t2.2.2.1) ay.aa,())) fun r3=>
      if(!r3.1)=true then
       some (false,())
      else
       G1 (t2.1,t2.2.1,IntKind.i64.wrap (t2.2.2.1+(1:Int)),())
     else
      none
    else
     none
   else
    some (true,())) (x.1,x.2.1,(0:Int),())
def jG (k:Nat) (x:aG×aG×Unit):Option (Bool×Unit):=
 if((x.1.1:Int) != x.2.1.1)=true then
  some (false,())
 else
  if((x.1.2.1:Int) != x.2.1.2.1)=true then
   some (false,())
  else
   Option.bind (oW k (x.1.2.2,x.2.1.2.2,())) fun r1=>
   if(!r1.1)=true then
    some (false,())
   else
    some (true,())
def pB (k:Nat) (x:List aG×List aG×Unit):Option (Bool×Unit):=
 if((((List.length x.1:Nat):Int):Int) != ((List.length x.2.1:Nat):Int))=true then
  some (false,())
 else
  az k (fun G1 (t2:List aG×List aG×Int×Unit)=>
   if(decide ((t2.2.2.1:Int)<((List.length t2.1:Nat):Int)))=true then
    if(decide (0≤t2.2.2.1∧t2.2.2.1<((List.length t2.1:Nat):Int)))=true then
     if(decide (0≤t2.2.2.1∧t2.2.2.1<((List.length t2.2.1:Nat):Int)))=true then
      Option.bind (jG k (List.getD t2.1 (Int.toNat t2.2.2.1) aq.aa,List.getD t2.2.1 (Int.toNat t2.2.2.1) aq.aa,())) fun r3=>
      if(!r3.1)=true then
       some (false,())
      else
       G1 (t2.1,t2.2.1,IntKind.i64.wrap (t2.2.2.1+(1:Int)),())
     else
      none
    else
     none
   else
    some (true,())) (x.1,x.2.1,(0:Int),())
def kN (k:Nat) (x:bF×bF×Unit):Option (Bool×Unit):=
 Option.bind (db k (x.1.1,x.2.1.1,())) fun r1=>
 if(!r1.1)=true then
  some (false,())
 else
  if(!((x.1.2:Bool)==x.2.1.2))=true then
   some (false,())
  else
   some (true,())
def qF (k:Nat) (x:List bF×List bF×Unit):Option (Bool×Unit):=
 if((((List.length x.1:Nat):Int):Int) != ((List.length x.2.1:Nat):Int))=true then
  some (false,())
 else
  az k (fun G1 (t2:List bF×List bF×Int×Unit)=>
   if(decide ((t2.2.2.1:Int)<((List.length t2.1:Nat):Int)))=true then
    if(decide (0≤t2.2.2.1∧t2.2.2.1<((List.length t2.1:Nat):Int)))=true then
     if(decide (0≤t2.2.2.1∧t2.2.2.1<((List.length t2.2.1:Nat):Int)))=true then
      Option.bind (kN k (List.getD t2.1 (Int.toNat t2.2.2.1) aU.aa,List.getD t2.2.1 (Int.toNat t2.2.2.1) aU.aa,())) fun r3=>
      if(!r3.1)=true then
       some (false,())
      else
       G1 (t2.1,t2.2.1,IntKind.i64.wrap (t2.2.2.1+(1:Int)),())
     else
      none
    else
     none
   else
    some (true,())) (x.1,x.2.1,(0:Int),())
def iY (k:Nat) (x:aJ×aJ×Unit):Option (Bool×Unit):=
 if((x.1.1:Int) != x.2.1.1)=true then
  some (false,())
 else
  Option.bind (ez k (x.1.2.1,x.2.1.2.1,())) fun r1=>
  if(!r1.1)=true then
   some (false,())
  else
   if((x.1.2.2.1:Int) != x.2.1.2.2.1)=true then
    some (false,())
   else
    if((x.1.2.2.2.1:Int) != x.2.1.2.2.2.1)=true then
     some (false,())
    else
     Option.bind (db k (x.1.2.2.2.2,x.2.1.2.2.2.2,())) fun r2=>
     if(!r2.1)=true then
      some (false,())
     else
      some (true,())
def oh (k:Nat) (x:List aJ×List aJ×Unit):Option (Bool×Unit):=
 if((((List.length x.1:Nat):Int):Int) != ((List.length x.2.1:Nat):Int))=true then
  some (false,())
 else
  az k (fun G1 (t2:List aJ×List aJ×Int×Unit)=>
   if(decide ((t2.2.2.1:Int)<((List.length t2.1:Nat):Int)))=true then
    if(decide (0≤t2.2.2.1∧t2.2.2.1<((List.length t2.1:Nat):Int)))=true then
     if(decide (0≤t2.2.2.1∧t2.2.2.1<((List.length t2.2.1:Nat):Int)))=true then
      Option.bind (iY k (List.getD t2.1 (Int.toNat t2.2.2.1) al.aa,List.getD t2.2.1 (Int.toNat t2.2.2.1) al.aa,())) fun r3=>
      if(!r3.1)=true then
       some (false,())
      else
       G1 (t2.1,t2.2.1,IntKind.i64.wrap (t2.2.2.1+(1:Int)),())
     else
      none
    else
     none
   else
    some (true,())) (x.1,x.2.1,(0:Int),())
def iP (k:Nat) (x:bl×bl×Unit):Option (Bool×Unit):=
 if((x.1.1:Int) != x.2.1.1)=true then
  some (false,())
 else
  if((x.1.2:Int) != x.2.1.2)=true then
   some (false,())
  else
   some (true,())
def oR (k:Nat) (x:List bl×List bl×Unit):Option (Bool×Unit):=
 if((((List.length x.1:Nat):Int):Int) != ((List.length x.2.1:Nat):Int))=true then
  some (false,())
 else
  az k (fun G1 (t2:List bl×List bl×Int×Unit)=>
   if(decide ((t2.2.2.1:Int)<((List.length t2.1:Nat):Int)))=true then
    if(decide (0≤t2.2.2.1∧t2.2.2.1<((List.length t2.1:Nat):Int)))=true then
     if(decide (0≤t2.2.2.1∧t2.2.2.1<((List.length t2.2.1:Nat):Int)))=true then
      Option.bind (iP k (List.getD t2.1 (Int.toNat t2.2.2.1) aC.aa,List.getD t2.2.1 (Int.toNat t2.2.2.1) aC.aa,())) fun r3=>
      if(!r3.1)=true then
       some (false,())
      else
       G1 (t2.1,t2.2.1,IntKind.i64.wrap (t2.2.2.1+(1:Int)),())
     else
      none
    else
     none
   else
    some (true,())) (x.1,x.2.1,(0:Int),())
def iQ (k:Nat) (x:bz×bz×Unit):Option (Bool×Unit):=
 if((x.1.1:Int) != x.2.1.1)=true then
  some (false,())
 else
  Option.bind (ez k (x.1.2.1,x.2.1.2.1,())) fun r1=>
  if(!r1.1)=true then
   some (false,())
  else
   if((x.1.2.2.1:Int) != x.2.1.2.2.1)=true then
    some (false,())
   else
    Option.bind (db k (x.1.2.2.2,x.2.1.2.2.2,())) fun r2=>
    if(!r2.1)=true then
     some (false,())
    else
     some (true,())
def oM (k:Nat) (x:List bz×List bz×Unit):Option (Bool×Unit):=
 if((((List.length x.1:Nat):Int):Int) != ((List.length x.2.1:Nat):Int))=true then
  some (false,())
 else
  az k (fun G1 (t2:List bz×List bz×Int×Unit)=>
   if(decide ((t2.2.2.1:Int)<((List.length t2.1:Nat):Int)))=true then
    if(decide (0≤t2.2.2.1∧t2.2.2.1<((List.length t2.1:Nat):Int)))=true then
     if(decide (0≤t2.2.2.1∧t2.2.2.1<((List.length t2.2.1:Nat):Int)))=true then
      Option.bind (iQ k (List.getD t2.1 (Int.toNat t2.2.2.1) aN.aa,List.getD t2.2.1 (Int.toNat t2.2.2.1) aN.aa,())) fun r3=>
      if(!r3.1)=true then
       some (false,())
      else
       G1 (t2.1,t2.2.1,IntKind.i64.wrap (t2.2.2.1+(1:Int)),())
     else
      none
    else
     none
   else
    some (true,())) (x.1,x.2.1,(0:Int),())
def qE (k:Nat) (x:List Int×List Int×Unit):Option (Bool×Unit):=
 if((((List.length x.1:Nat):Int):Int) != ((List.length x.2.1:Nat):Int))=true then
  some (false,())
 else
  az k (fun G1 (t2:List Int×List Int×Int×Unit)=>
   if(decide ((t2.2.2.1:Int)<((List.length t2.1:Nat):Int)))=true then
    if(decide (0≤t2.2.2.1∧t2.2.2.1<((List.length t2.1:Nat):Int)))=true then
     if(decide (0≤t2.2.2.1∧t2.2.2.1<((List.length t2.2.1:Nat):Int)))=true then
      if(((List.getD t2.1 (Int.toNat t2.2.2.1) 0):Int) != (List.getD t2.2.1 (Int.toNat t2.2.2.1) 0))=true then
       some (false,())
      else
       G1 (t2.1,t2.2.1,IntKind.i64.wrap (t2.2.2.1+(1:Int)),())
     else
      none
    else
     none
   else
    some (true,())) (x.1,x.2.1,(0:Int),())
def jT (k:Nat) (x:aM×aM×Unit):Option (Bool×Unit):=
 if((x.1.1:Int) != x.2.1.1)=true then
  some (false,())
 else
  if((x.1.2.1:Int) != x.2.1.2.1)=true then
   some (false,())
  else
   Option.bind (eu k (x.1.2.2.1,x.2.1.2.2.1,())) fun r1=>
   if(!r1.1)=true then
    some (false,())
   else
    Option.bind (ez k (x.1.2.2.2.1,x.2.1.2.2.2.1,())) fun r2=>
    if(!r2.1)=true then
     some (false,())
    else
     if((x.1.2.2.2.2.1:Int) != x.2.1.2.2.2.2.1)=true then
      some (false,())
     else
      Option.bind (qE k (x.1.2.2.2.2.2.1,x.2.1.2.2.2.2.2.1,())) fun r3=>
      if(!r3.1)=true then
       some (false,())
      else
       Option.bind (db k (x.1.2.2.2.2.2.2.1,x.2.1.2.2.2.2.2.2.1,())) fun r4=>
       if(!r4.1)=true then
        some (false,())
       else
        if((x.1.2.2.2.2.2.2.2.1:Int) != x.2.1.2.2.2.2.2.2.2.1)=true then
         some (false,())
        else
         if((x.1.2.2.2.2.2.2.2.2:Int) != x.2.1.2.2.2.2.2.2.2.2)=true then
          some (false,())
         else
          some (true,())
def pS (k:Nat) (x:List aM×List aM×Unit):Option (Bool×Unit):=
 if((((List.length x.1:Nat):Int):Int) != ((List.length x.2.1:Nat):Int))=true then
  some (false,())
 else
  az k (fun G1 (t2:List aM×List aM×Int×Unit)=>
   if(decide ((t2.2.2.1:Int)<((List.length t2.1:Nat):Int)))=true then
    if(decide (0≤t2.2.2.1∧t2.2.2.1<((List.length t2.1:Nat):Int)))=true then
     if(decide (0≤t2.2.2.1∧t2.2.2.1<((List.length t2.2.1:Nat):Int)))=true then
      Option.bind (jT k (List.getD t2.1 (Int.toNat t2.2.2.1) ah.aa,List.getD t2.2.1 (Int.toNat t2.2.2.1) ah.aa,())) fun r3=>
      if(!r3.1)=true then
       some (false,())
      else
       G1 (t2.1,t2.2.1,IntKind.i64.wrap (t2.2.2.1+(1:Int)),())
     else
      none
    else
     none
   else
    some (true,())) (x.1,x.2.1,(0:Int),())
def jU (k:Nat) (x:aY×aY×Unit):Option (Bool×Unit):=
 if((x.1.1:Int) != x.2.1.1)=true then
  some (false,())
 else
  if((x.1.2.1:Int) != x.2.1.2.1)=true then
   some (false,())
  else
   Option.bind (eu k (x.1.2.2.1,x.2.1.2.2.1,())) fun r1=>
   if(!r1.1)=true then
    some (false,())
   else
    Option.bind (ez k (x.1.2.2.2.1,x.2.1.2.2.2.1,())) fun r2=>
    if(!r2.1)=true then
     some (false,())
    else
     if((x.1.2.2.2.2.1:Int) != x.2.1.2.2.2.2.1)=true then
      some (false,())
     else
      if((x.1.2.2.2.2.2.1:Int) != x.2.1.2.2.2.2.2.1)=true then
       some (false,())
      else
       if((x.1.2.2.2.2.2.2.1:Int) != x.2.1.2.2.2.2.2.2.1)=true then
        some (false,())
       else
        Option.bind (db k (x.1.2.2.2.2.2.2.2.1,x.2.1.2.2.2.2.2.2.2.1,())) fun r3=>
        if(!r3.1)=true then
         some (false,())
        else
         if((x.1.2.2.2.2.2.2.2.2.1:Int) != x.2.1.2.2.2.2.2.2.2.2.1)=true then
          some (false,())
         else
          if((x.1.2.2.2.2.2.2.2.2.2.1:Int) != x.2.1.2.2.2.2.2.2.2.2.2.1)=true then
           some (false,())
          else
           if((x.1.2.2.2.2.2.2.2.2.2.2.1:Int) != x.2.1.2.2.2.2.2.2.2.2.2.2.1)=true then
            some (false,())
           else
            if((x.1.2.2.2.2.2.2.2.2.2.2.2:Int) != x.2.1.2.2.2.2.2.2.2.2.2.2.2)=true then
             some (false,())
            else
             some (true,())
def pj (k:Nat) (x:List aY×List aY×Unit):Option (Bool×Unit):=
 if((((List.length x.1:Nat):Int):Int) != ((List.length x.2.1:Nat):Int))=true then
  some (false,())
 else
  az k (fun G1 (t2:List aY×List aY×Int×Unit)=>
   if(decide ((t2.2.2.1:Int)<((List.length t2.1:Nat):Int)))=true then
    if(decide (0≤t2.2.2.1∧t2.2.2.1<((List.length t2.1:Nat):Int)))=true then
     if(decide (0≤t2.2.2.1∧t2.2.2.1<((List.length t2.2.1:Nat):Int)))=true then
      Option.bind (jU k (List.getD t2.1 (Int.toNat t2.2.2.1) ak.aa,List.getD t2.2.1 (Int.toNat t2.2.2.1) ak.aa,())) fun r3=>
      if(!r3.1)=true then
       some (false,())
      else
       G1 (t2.1,t2.2.1,IntKind.i64.wrap (t2.2.2.1+(1:Int)),())
     else
      none
    else
     none
   else
    some (true,())) (x.1,x.2.1,(0:Int),())
def eW (k:Nat) (x:ar×ar×Unit):Option (Bool×Unit):=
 Option.bind (nb k (x.1.1,x.2.1.1,())) fun r1=>
 if(!r1.1)=true then
  some (false,())
 else
  if((x.1.2.1:Int) != x.2.1.2.1)=true then
   some (false,())
  else
   if((x.1.2.2.1:Int) != x.2.1.2.2.1)=true then
    some (false,())
   else
    Option.bind (pB k (x.1.2.2.2.1,x.2.1.2.2.2.1,())) fun r2=>
    if(!r2.1)=true then
     some (false,())
    else
     Option.bind (qF k (x.1.2.2.2.2.1,x.2.1.2.2.2.2.1,())) fun r3=>
     if(!r3.1)=true then
      some (false,())
     else
      Option.bind (db k (x.1.2.2.2.2.2.1,x.2.1.2.2.2.2.2.1,())) fun r4=>
      if(!r4.1)=true then
       some (false,())
      else
       if((x.1.2.2.2.2.2.2.1:Int) != x.2.1.2.2.2.2.2.2.1)=true then
        some (false,())
       else
        Option.bind (oh k (x.1.2.2.2.2.2.2.2.1,x.2.1.2.2.2.2.2.2.2.1,())) fun r5=>
        if(!r5.1)=true then
         some (false,())
        else
         if((x.1.2.2.2.2.2.2.2.2.1:Int) != x.2.1.2.2.2.2.2.2.2.2.1)=true then
          some (false,())
         else
          Option.bind (oR k (x.1.2.2.2.2.2.2.2.2.2.1,x.2.1.2.2.2.2.2.2.2.2.2.1,())) fun r6=>
          if(!r6.1)=true then
           some (false,())
          else
           Option.bind (oM k (x.1.2.2.2.2.2.2.2.2.2.2.1,x.2.1.2.2.2.2.2.2.2.2.2.2.1,())) fun r7=>
           if(!r7.1)=true then
            some (false,())
           else
            Option.bind (db k (x.1.2.2.2.2.2.2.2.2.2.2.2.1,x.2.1.2.2.2.2.2.2.2.2.2.2.2.1,())) fun r8=>
            if(!r8.1)=true then
             some (false,())
            else
             Option.bind (pS k (x.1.2.2.2.2.2.2.2.2.2.2.2.2.1,x.2.1.2.2.2.2.2.2.2.2.2.2.2.2.1,())) fun r9=>
             if(!r9.1)=true then
              some (false,())
             else
              Option.bind (pj k (x.1.2.2.2.2.2.2.2.2.2.2.2.2.2,x.2.1.2.2.2.2.2.2.2.2.2.2.2.2.2,())) fun r10=>
              if(!r10.1)=true then
               some (false,())
              else
               some (true,())
def bU (k:Nat) (x:Int×Unit):Option (ByteArray×Unit):=
 if(decide ((x.1:Int)≤(0:Int)))=true then
  some ((⟨#[109,48]⟩:ByteArray),())
 else
  aO (fun J1=>
   az k (fun G3 (t4:Int×ByteArray×Unit)=>
    if(decide ((t4.1:Int)>(0:Int)))=true then
     if(decide ((10:Int)≠0))=true then
      if(decide (((⟨(List.map (fun n:Int=>UInt8.ofNat n.toNat) ([IntKind.u8.wrap (IntKind.i64.wrap ((48:Int)+(Int.tmod t4.1 (10:Int))))]:List Int)).toArray⟩:ByteArray)).size+(t4.2.1).size<4294967296))=true then
       if(decide ((10:Int)≠0))=true then
        G3 (IntKind.i64.wrap (Int.tdiv t4.1 (10:Int)),(⟨(List.map (fun n:Int=>UInt8.ofNat n.toNat) ([IntKind.u8.wrap (IntKind.i64.wrap ((48:Int)+(Int.tmod t4.1 (10:Int))))]:List Int)).toArray⟩:ByteArray)++t4.2.1,())
       else
        none
      else
       none
     else
      none
    else
     J1 (t4.2.1,())) (x.1,(⟨#[]⟩:ByteArray),())) (fun(t2:ByteArray×Unit)=>
   if(decide (((⟨#[109]⟩:ByteArray)).size+(t2.1).size<4294967296))=true then
    some ((⟨#[109]⟩:ByteArray)++t2.1,())
   else
    none)
def kR (k:Nat) (x:List ByteArray) (n:Int):Option (Int×(List ByteArray)):=
 az k (fun G1 (t2:List ByteArray×Int×Int×Unit)=>
  if(decide ((t2.2.2.1:Int)<((List.length t2.1:Nat):Int)))=true then
   Option.bind (bU k (t2.2.1,())) fun r3=>
   if(decide (0≤t2.2.2.1∧t2.2.2.1<((List.length t2.1:Nat):Int)))=true then
    bS (List.set t2.1 (Int.toNat t2.2.2.1) r3.1) fun l4=>
    G1 (l4,IntKind.i64.wrap (t2.2.1+(1:Int)),IntKind.i64.wrap (t2.2.2.1+(1:Int)),())
   else
    none
  else
   some (t2.2.1,t2.1)) (x,n,(0:Int),())
def ot (k:Nat) (x:cg) (n:Int):Option (Int×cg):=
 Option.bind (kR k x.2.2.2.2.2 n) fun r1=>
 some (r1.1,(x.1,x.2.1,x.2.2.1,x.2.2.2.1,x.2.2.2.2.1,r1.2))
def cH (k:Nat) (x:List aj) (n:Int):Option (Int×(List aj)):=
 az k (fun G1 (t2:List aj×Int×Int×Unit)=>
  if(decide ((t2.2.2.1:Int)<((List.length t2.1:Nat):Int)))=true then
   Option.bind (bU k (t2.2.1,())) fun r3=>
   if(decide (0≤t2.2.2.1∧t2.2.2.1<((List.length t2.1:Nat):Int)))=true then
    bS (List.set t2.1 (Int.toNat t2.2.2.1) (r3.1,(List.getD t2.1 (Int.toNat t2.2.2.1) af.aa).2)) fun l4=>
    Option.bind (bU k (IntKind.i64.wrap (t2.2.1+(1:Int)),())) fun r5=>
    if(decide (0≤t2.2.2.1∧t2.2.2.1<((List.length l4:Nat):Int)))=true then
     bS (List.set l4 (Int.toNat t2.2.2.1) ((List.getD l4 (Int.toNat t2.2.2.1) af.aa).1,r5.1)) fun l6=>
     G1 (l6,IntKind.i64.wrap ((IntKind.i64.wrap (t2.2.1+(1:Int)))+(1:Int)),IntKind.i64.wrap (t2.2.2.1+(1:Int)),())
    else
     none
   else
    none
  else
   some (t2.2.1,t2.1)) (x,n,(0:Int),())
def cG (k:Nat) (x:List ai) (n:Int):Option (Int×(List ai)):=
 az k (fun G1 (t2:List ai×Int×Int×Unit)=>
  if(decide ((t2.2.2.1:Int)<((List.length t2.1:Nat):Int)))=true then
   if(decide (0≤t2.2.2.1∧t2.2.2.1<((List.length t2.1:Nat):Int)))=true then
    Option.bind (cH k ((List.getD t2.1 (Int.toNat t2.2.2.1) ab.aa).1) t2.2.1) fun r3=>
    bS (List.set t2.1 (Int.toNat t2.2.2.1) (r3.2,(List.getD t2.1 (Int.toNat t2.2.2.1) ab.aa).2)) fun l4=>
    if(decide (0≤t2.2.2.1∧t2.2.2.1<((List.length l4:Nat):Int)))=true then
     bS (List.set l4 (Int.toNat t2.2.2.1) ((List.getD l4 (Int.toNat t2.2.2.1) ab.aa).1,r3.1,((List.getD l4 (Int.toNat t2.2.2.1) ab.aa).2).2)) fun l5=>
     if(decide (0≤t2.2.2.1∧t2.2.2.1<((List.length l5:Nat):Int)))=true then
      bS (List.set l5 (Int.toNat t2.2.2.1) ((List.getD l5 (Int.toNat t2.2.2.1) ab.aa).1,((List.getD l5 (Int.toNat t2.2.2.1) ab.aa).2).1,IntKind.i64.wrap (r3.1+(1:Int)),(((List.getD l5 (Int.toNat t2.2.2.1) ab.aa).2).2).2)) fun l6=>
      Option.bind (bU k (IntKind.i64.wrap ((IntKind.i64.wrap (r3.1+(1:Int)))+(1:Int)),())) fun r7=>
      if(decide (0≤t2.2.2.1∧t2.2.2.1<((List.length l6:Nat):Int)))=true then
       bS (List.set l6 (Int.toNat t2.2.2.1) ((List.getD l6 (Int.toNat t2.2.2.1) ab.aa).1,((List.getD l6 (Int.toNat t2.2.2.1) ab.aa).2).1,(((List.getD l6 (Int.toNat t2.2.2.1) ab.aa).2).2).1,r7.1)) fun l8=>
       G1 (l8,IntKind.i64.wrap ((IntKind.i64.wrap ((IntKind.i64.wrap (r3.1+(1:Int)))+(1:Int)))+(1:Int)),IntKind.i64.wrap (t2.2.2.1+(1:Int)),())
      else
       none
     else
      none
    else
     none
   else
    none
  else
   some (t2.2.1,t2.1)) (x,n,(0:Int),())
def mr (k:Nat) (x:List bc) (n:Int):Option (Int×(List bc)):=
 az k (fun G1 (t2:List bc×Int×Int×Unit)=>
  if(decide ((t2.2.2.1:Int)<((List.length t2.1:Nat):Int)))=true then
   if(decide (0≤t2.2.2.1∧t2.2.2.1<((List.length t2.1:Nat):Int)))=true then
    bS (List.set t2.1 (Int.toNat t2.2.2.1) (t2.2.1,(List.getD t2.1 (Int.toNat t2.2.2.1) ay.aa).2)) fun l3=>
    if(decide (0≤t2.2.2.1∧t2.2.2.1<((List.length l3:Nat):Int)))=true then
     Option.bind (cG k ((List.getD l3 (Int.toNat t2.2.2.1) ay.aa).2) (IntKind.i64.wrap (t2.2.1+(1:Int)))) fun r4=>
     bS (List.set l3 (Int.toNat t2.2.2.1) ((List.getD l3 (Int.toNat t2.2.2.1) ay.aa).1,r4.2)) fun l5=>
     G1 (l5,r4.1,IntKind.i64.wrap (t2.2.2.1+(1:Int)),())
    else
     none
   else
    none
  else
   some (t2.2.1,t2.1)) (x,n,(0:Int),())
def nw (k:Nat) (x:List aG) (n:Int):Option (Int×(List aG)):=
 az k (fun G1 (t2:List aG×Int×Int×Unit)=>
  if(decide ((t2.2.2.1:Int)<((List.length t2.1:Nat):Int)))=true then
   if(decide (0≤t2.2.2.1∧t2.2.2.1<((List.length t2.1:Nat):Int)))=true then
    bS (List.set t2.1 (Int.toNat t2.2.2.1) (t2.2.1,(List.getD t2.1 (Int.toNat t2.2.2.1) aq.aa).2)) fun l3=>
    if(decide (0≤t2.2.2.1∧t2.2.2.1<((List.length l3:Nat):Int)))=true then
     bS (List.set l3 (Int.toNat t2.2.2.1) ((List.getD l3 (Int.toNat t2.2.2.1) aq.aa).1,IntKind.i64.wrap (t2.2.1+(1:Int)),((List.getD l3 (Int.toNat t2.2.2.1) aq.aa).2).2)) fun l4=>
     if(decide (0≤t2.2.2.1∧t2.2.2.1<((List.length l4:Nat):Int)))=true then
      Option.bind (mr k (((List.getD l4 (Int.toNat t2.2.2.1) aq.aa).2).2) (IntKind.i64.wrap ((IntKind.i64.wrap (t2.2.1+(1:Int)))+(1:Int)))) fun r5=>
      bS (List.set l4 (Int.toNat t2.2.2.1) ((List.getD l4 (Int.toNat t2.2.2.1) aq.aa).1,((List.getD l4 (Int.toNat t2.2.2.1) aq.aa).2).1,r5.2)) fun l6=>
      G1 (l6,r5.1,IntKind.i64.wrap (t2.2.2.1+(1:Int)),())
     else
      none
    else
     none
   else
    none
  else
   some (t2.2.1,t2.1)) (x,n,(0:Int),())
def oK (k:Nat) (x:List bF) (n:Int):Option (Int×(List bF)):=
 az k (fun G1 (t2:List bF×Int×Int×Unit)=>
  if(decide ((t2.2.2.1:Int)<((List.length t2.1:Nat):Int)))=true then
   if(decide (0≤t2.2.2.1∧t2.2.2.1<((List.length t2.1:Nat):Int)))=true then
    Option.bind (cG k ((List.getD t2.1 (Int.toNat t2.2.2.1) aU.aa).1) t2.2.1) fun r3=>
    bS (List.set t2.1 (Int.toNat t2.2.2.1) (r3.2,(List.getD t2.1 (Int.toNat t2.2.2.1) aU.aa).2)) fun l4=>
    if(decide ((3:Int)≠0))=true then
     if(decide (0≤t2.2.2.1∧t2.2.2.1<((List.length l4:Nat):Int)))=true then
      bS (List.set l4 (Int.toNat t2.2.2.1) ((List.getD l4 (Int.toNat t2.2.2.1) aU.aa).1,((Int.tmod r3.1 (3:Int)):Int)==(0:Int))) fun l5=>
      G1 (l5,IntKind.i64.wrap (r3.1+(1:Int)),IntKind.i64.wrap (t2.2.2.1+(1:Int)),())
     else
      none
    else
     none
   else
    none
  else
   some (t2.2.1,t2.1)) (x,n,(0:Int),())
def mq (k:Nat) (x:List aJ) (n:Int):Option (Int×(List aJ)):=
 az k (fun G1 (t2:List aJ×Int×Int×Unit)=>
  if(decide ((t2.2.2.1:Int)<((List.length t2.1:Nat):Int)))=true then
   if(decide (0≤t2.2.2.1∧t2.2.2.1<((List.length t2.1:Nat):Int)))=true then
    bS (List.set t2.1 (Int.toNat t2.2.2.1) (t2.2.1,(List.getD t2.1 (Int.toNat t2.2.2.1) al.aa).2)) fun l3=>
    if(decide (0≤t2.2.2.1∧t2.2.2.1<((List.length l3:Nat):Int)))=true then
     Option.bind (cH k (((List.getD l3 (Int.toNat t2.2.2.1) al.aa).2).1) (IntKind.i64.wrap (t2.2.1+(1:Int)))) fun r4=>
     bS (List.set l3 (Int.toNat t2.2.2.1) ((List.getD l3 (Int.toNat t2.2.2.1) al.aa).1,r4.2,((List.getD l3 (Int.toNat t2.2.2.1) al.aa).2).2)) fun l5=>
     if(decide (0≤t2.2.2.1∧t2.2.2.1<((List.length l5:Nat):Int)))=true then
      bS (List.set l5 (Int.toNat t2.2.2.1) ((List.getD l5 (Int.toNat t2.2.2.1) al.aa).1,((List.getD l5 (Int.toNat t2.2.2.1) al.aa).2).1,r4.1,(((List.getD l5 (Int.toNat t2.2.2.1) al.aa).2).2).2)) fun l6=>
      if(decide (0≤t2.2.2.1∧t2.2.2.1<((List.length l6:Nat):Int)))=true then
       bS (List.set l6 (Int.toNat t2.2.2.1) ((List.getD l6 (Int.toNat t2.2.2.1) al.aa).1,((List.getD l6 (Int.toNat t2.2.2.1) al.aa).2).1,(((List.getD l6 (Int.toNat t2.2.2.1) al.aa).2).2).1,IntKind.i64.wrap (r4.1+(1:Int)),((((List.getD l6 (Int.toNat t2.2.2.1) al.aa).2).2).2).2)) fun l7=>
       if(decide (0≤t2.2.2.1∧t2.2.2.1<((List.length l7:Nat):Int)))=true then
        Option.bind (cG k (((((List.getD l7 (Int.toNat t2.2.2.1) al.aa).2).2).2).2) (IntKind.i64.wrap ((IntKind.i64.wrap (r4.1+(1:Int)))+(1:Int)))) fun r8=>
        bS (List.set l7 (Int.toNat t2.2.2.1) ((List.getD l7 (Int.toNat t2.2.2.1) al.aa).1,((List.getD l7 (Int.toNat t2.2.2.1) al.aa).2).1,(((List.getD l7 (Int.toNat t2.2.2.1) al.aa).2).2).1,((((List.getD l7 (Int.toNat t2.2.2.1) al.aa).2).2).2).1,r8.2)) fun l9=>
        G1 (l9,r8.1,IntKind.i64.wrap (t2.2.2.1+(1:Int)),())
       else
        none
      else
       none
     else
      none
    else
     none
   else
    none
  else
   some (t2.2.1,t2.1)) (x,n,(0:Int),())
def mj (k:Nat) (x:List bl) (n:Int):Option (Int×(List bl)):=
 az k (fun G1 (t2:List bl×Int×Int×Unit)=>
  if(decide ((t2.2.2.1:Int)<((List.length t2.1:Nat):Int)))=true then
   if(decide (0≤t2.2.2.1∧t2.2.2.1<((List.length t2.1:Nat):Int)))=true then
    bS (List.set t2.1 (Int.toNat t2.2.2.1) (t2.2.1,(List.getD t2.1 (Int.toNat t2.2.2.1) aC.aa).2)) fun l3=>
    if(decide (0≤t2.2.2.1∧t2.2.2.1<((List.length l3:Nat):Int)))=true then
     bS (List.set l3 (Int.toNat t2.2.2.1) ((List.getD l3 (Int.toNat t2.2.2.1) aC.aa).1,IntKind.i64.wrap (t2.2.1+(1:Int)))) fun l4=>
     G1 (l4,IntKind.i64.wrap ((IntKind.i64.wrap (t2.2.1+(1:Int)))+(1:Int)),IntKind.i64.wrap (t2.2.2.1+(1:Int)),())
    else
     none
   else
    none
  else
   some (t2.2.1,t2.1)) (x,n,(0:Int),())
def mn (k:Nat) (x:List bz) (n:Int):Option (Int×(List bz)):=
 az k (fun G1 (t2:List bz×Int×Int×Unit)=>
  if(decide ((t2.2.2.1:Int)<((List.length t2.1:Nat):Int)))=true then
   if(decide (0≤t2.2.2.1∧t2.2.2.1<((List.length t2.1:Nat):Int)))=true then
    bS (List.set t2.1 (Int.toNat t2.2.2.1) (t2.2.1,(List.getD t2.1 (Int.toNat t2.2.2.1) aN.aa).2)) fun l3=>
    if(decide (0≤t2.2.2.1∧t2.2.2.1<((List.length l3:Nat):Int)))=true then
     Option.bind (cH k (((List.getD l3 (Int.toNat t2.2.2.1) aN.aa).2).1) (IntKind.i64.wrap (t2.2.1+(1:Int)))) fun r4=>
     bS (List.set l3 (Int.toNat t2.2.2.1) ((List.getD l3 (Int.toNat t2.2.2.1) aN.aa).1,r4.2,((List.getD l3 (Int.toNat t2.2.2.1) aN.aa).2).2)) fun l5=>
     if(decide (0≤t2.2.2.1∧t2.2.2.1<((List.length l5:Nat):Int)))=true then
      bS (List.set l5 (Int.toNat t2.2.2.1) ((List.getD l5 (Int.toNat t2.2.2.1) aN.aa).1,((List.getD l5 (Int.toNat t2.2.2.1) aN.aa).2).1,r4.1,(((List.getD l5 (Int.toNat t2.2.2.1) aN.aa).2).2).2)) fun l6=>
      if(decide (0≤t2.2.2.1∧t2.2.2.1<((List.length l6:Nat):Int)))=true then
       Option.bind (cG k ((((List.getD l6 (Int.toNat t2.2.2.1) aN.aa).2).2).2) (IntKind.i64.wrap (r4.1+(1:Int)))) fun r7=>
       bS (List.set l6 (Int.toNat t2.2.2.1) ((List.getD l6 (Int.toNat t2.2.2.1) aN.aa).1,((List.getD l6 (Int.toNat t2.2.2.1) aN.aa).2).1,(((List.getD l6 (Int.toNat t2.2.2.1) aN.aa).2).2).1,r7.2)) fun l8=>
       G1 (l8,r7.1,IntKind.i64.wrap (t2.2.2.1+(1:Int)),())
      else
       none
     else
      none
    else
     none
   else
    none
  else
   some (t2.2.1,t2.1)) (x,n,(0:Int),())
def oj (k:Nat) (x:List Int) (n:Int):Option (Int×(List Int)):=
 az k (fun G1 (t2:List Int×Int×Int×Unit)=>
  if(decide ((t2.2.2.1:Int)<((List.length t2.1:Nat):Int)))=true then
   if(decide (0≤t2.2.2.1∧t2.2.2.1<((List.length t2.1:Nat):Int)))=true then
    bS (List.set t2.1 (Int.toNat t2.2.2.1) t2.2.1) fun l3=>
    G1 (l3,IntKind.i64.wrap (t2.2.1+(1:Int)),IntKind.i64.wrap (t2.2.2.1+(1:Int)),())
   else
    none
  else
   some (t2.2.1,t2.1)) (x,n,(0:Int),())
def nH (k:Nat) (x:List aM) (n:Int):Option (Int×(List aM)):=
 az k (fun G1 (t2:List aM×Int×Int×Unit)=>
  if(decide ((t2.2.2.1:Int)<((List.length t2.1:Nat):Int)))=true then
   if(decide (0≤t2.2.2.1∧t2.2.2.1<((List.length t2.1:Nat):Int)))=true then
    bS (List.set t2.1 (Int.toNat t2.2.2.1) (t2.2.1,(List.getD t2.1 (Int.toNat t2.2.2.1) ah.aa).2)) fun l3=>
    if(decide (0≤t2.2.2.1∧t2.2.2.1<((List.length l3:Nat):Int)))=true then
     bS (List.set l3 (Int.toNat t2.2.2.1) ((List.getD l3 (Int.toNat t2.2.2.1) ah.aa).1,IntKind.i64.wrap (t2.2.1+(1:Int)),((List.getD l3 (Int.toNat t2.2.2.1) ah.aa).2).2)) fun l4=>
     if(decide (0≤t2.2.2.1∧t2.2.2.1<((List.length l4:Nat):Int)))=true then
      Option.bind (cH k (((((List.getD l4 (Int.toNat t2.2.2.1) ah.aa).2).2).1).1) (IntKind.i64.wrap ((IntKind.i64.wrap (t2.2.1+(1:Int)))+(1:Int)))) fun r5=>
      bS (List.set l4 (Int.toNat t2.2.2.1) ((List.getD l4 (Int.toNat t2.2.2.1) ah.aa).1,((List.getD l4 (Int.toNat t2.2.2.1) ah.aa).2).1,(r5.2,((((List.getD l4 (Int.toNat t2.2.2.1) ah.aa).2).2).1).2),(((List.getD l4 (Int.toNat t2.2.2.1) ah.aa).2).2).2)) fun l6=>
      if(decide (0≤t2.2.2.1∧t2.2.2.1<((List.length l6:Nat):Int)))=true then
       bS (List.set l6 (Int.toNat t2.2.2.1) ((List.getD l6 (Int.toNat t2.2.2.1) ah.aa).1,((List.getD l6 (Int.toNat t2.2.2.1) ah.aa).2).1,(((((List.getD l6 (Int.toNat t2.2.2.1) ah.aa).2).2).1).1,r5.1,(((((List.getD l6 (Int.toNat t2.2.2.1) ah.aa).2).2).1).2).2),(((List.getD l6 (Int.toNat t2.2.2.1) ah.aa).2).2).2)) fun l7=>
       if(decide (0≤t2.2.2.1∧t2.2.2.1<((List.length l7:Nat):Int)))=true then
        bS (List.set l7 (Int.toNat t2.2.2.1) ((List.getD l7 (Int.toNat t2.2.2.1) ah.aa).1,((List.getD l7 (Int.toNat t2.2.2.1) ah.aa).2).1,(((((List.getD l7 (Int.toNat t2.2.2.1) ah.aa).2).2).1).1,(((((List.getD l7 (Int.toNat t2.2.2.1) ah.aa).2).2).1).2).1,IntKind.i64.wrap (r5.1+(1:Int)),((((((List.getD l7 (Int.toNat t2.2.2.1) ah.aa).2).2).1).2).2).2),(((List.getD l7 (Int.toNat t2.2.2.1) ah.aa).2).2).2)) fun l8=>
        Option.bind (bU k (IntKind.i64.wrap ((IntKind.i64.wrap (r5.1+(1:Int)))+(1:Int)),())) fun r9=>
        if(decide (0≤t2.2.2.1∧t2.2.2.1<((List.length l8:Nat):Int)))=true then
         bS (List.set l8 (Int.toNat t2.2.2.1) ((List.getD l8 (Int.toNat t2.2.2.1) ah.aa).1,((List.getD l8 (Int.toNat t2.2.2.1) ah.aa).2).1,(((((List.getD l8 (Int.toNat t2.2.2.1) ah.aa).2).2).1).1,(((((List.getD l8 (Int.toNat t2.2.2.1) ah.aa).2).2).1).2).1,((((((List.getD l8 (Int.toNat t2.2.2.1) ah.aa).2).2).1).2).2).1,r9.1),(((List.getD l8 (Int.toNat t2.2.2.1) ah.aa).2).2).2)) fun l10=>
         if(decide (0≤t2.2.2.1∧t2.2.2.1<((List.length l10:Nat):Int)))=true then
          Option.bind (cH k (((((List.getD l10 (Int.toNat t2.2.2.1) ah.aa).2).2).2).1) (IntKind.i64.wrap ((IntKind.i64.wrap ((IntKind.i64.wrap (r5.1+(1:Int)))+(1:Int)))+(1:Int)))) fun r11=>
          bS (List.set l10 (Int.toNat t2.2.2.1) ((List.getD l10 (Int.toNat t2.2.2.1) ah.aa).1,((List.getD l10 (Int.toNat t2.2.2.1) ah.aa).2).1,(((List.getD l10 (Int.toNat t2.2.2.1) ah.aa).2).2).1,r11.2,((((List.getD l10 (Int.toNat t2.2.2.1) ah.aa).2).2).2).2)) fun l12=>
          if(decide (0≤t2.2.2.1∧t2.2.2.1<((List.length l12:Nat):Int)))=true then
           bS (List.set l12 (Int.toNat t2.2.2.1) ((List.getD l12 (Int.toNat t2.2.2.1) ah.aa).1,((List.getD l12 (Int.toNat t2.2.2.1) ah.aa).2).1,(((List.getD l12 (Int.toNat t2.2.2.1) ah.aa).2).2).1,((((List.getD l12 (Int.toNat t2.2.2.1) ah.aa).2).2).2).1,r11.1,(((((List.getD l12 (Int.toNat t2.2.2.1) ah.aa).2).2).2).2).2)) fun l13=>
           if(decide (0≤t2.2.2.1∧t2.2.2.1<((List.length l13:Nat):Int)))=true then
            Option.bind (oj k (((((((List.getD l13 (Int.toNat t2.2.2.1) ah.aa).2).2).2).2).2).1) (IntKind.i64.wrap (r11.1+(1:Int)))) fun r14=>
            bS (List.set l13 (Int.toNat t2.2.2.1) ((List.getD l13 (Int.toNat t2.2.2.1) ah.aa).1,((List.getD l13 (Int.toNat t2.2.2.1) ah.aa).2).1,(((List.getD l13 (Int.toNat t2.2.2.1) ah.aa).2).2).1,((((List.getD l13 (Int.toNat t2.2.2.1) ah.aa).2).2).2).1,(((((List.getD l13 (Int.toNat t2.2.2.1) ah.aa).2).2).2).2).1,r14.2,((((((List.getD l13 (Int.toNat t2.2.2.1) ah.aa).2).2).2).2).2).2)) fun l15=>
            if(decide (0≤t2.2.2.1∧t2.2.2.1<((List.length l15:Nat):Int)))=true then
             Option.bind (cG k ((((((((List.getD l15 (Int.toNat t2.2.2.1) ah.aa).2).2).2).2).2).2).1) r14.1) fun r16=>
             bS (List.set l15 (Int.toNat t2.2.2.1) ((List.getD l15 (Int.toNat t2.2.2.1) ah.aa).1,((List.getD l15 (Int.toNat t2.2.2.1) ah.aa).2).1,(((List.getD l15 (Int.toNat t2.2.2.1) ah.aa).2).2).1,((((List.getD l15 (Int.toNat t2.2.2.1) ah.aa).2).2).2).1,(((((List.getD l15 (Int.toNat t2.2.2.1) ah.aa).2).2).2).2).1,((((((List.getD l15 (Int.toNat t2.2.2.1) ah.aa).2).2).2).2).2).1,r16.2,(((((((List.getD l15 (Int.toNat t2.2.2.1) ah.aa).2).2).2).2).2).2).2)) fun l17=>
             if(decide (0≤t2.2.2.1∧t2.2.2.1<((List.length l17:Nat):Int)))=true then
              bS (List.set l17 (Int.toNat t2.2.2.1) ((List.getD l17 (Int.toNat t2.2.2.1) ah.aa).1,((List.getD l17 (Int.toNat t2.2.2.1) ah.aa).2).1,(((List.getD l17 (Int.toNat t2.2.2.1) ah.aa).2).2).1,((((List.getD l17 (Int.toNat t2.2.2.1) ah.aa).2).2).2).1,(((((List.getD l17 (Int.toNat t2.2.2.1) ah.aa).2).2).2).2).1,((((((List.getD l17 (Int.toNat t2.2.2.1) ah.aa).2).2).2).2).2).1,(((((((List.getD l17 (Int.toNat t2.2.2.1) ah.aa).2).2).2).2).2).2).1,r16.1,((((((((List.getD l17 (Int.toNat t2.2.2.1) ah.aa).2).2).2).2).2).2).2).2)) fun l18=>
              if(decide (0≤t2.2.2.1∧t2.2.2.1<((List.length l18:Nat):Int)))=true then
               bS (List.set l18 (Int.toNat t2.2.2.1) ((List.getD l18 (Int.toNat t2.2.2.1) ah.aa).1,((List.getD l18 (Int.toNat t2.2.2.1) ah.aa).2).1,(((List.getD l18 (Int.toNat t2.2.2.1) ah.aa).2).2).1,((((List.getD l18 (Int.toNat t2.2.2.1) ah.aa).2).2).2).1,(((((List.getD l18 (Int.toNat t2.2.2.1) ah.aa).2).2).2).2).1,((((((List.getD l18 (Int.toNat t2.2.2.1) ah.aa).2).2).2).2).2).1,(((((((List.getD l18 (Int.toNat t2.2.2.1) ah.aa).2).2).2).2).2).2).1,((((((((List.getD l18 (Int.toNat t2.2.2.1) ah.aa).2).2).2).2).2).2).2).1,IntKind.i64.wrap (r16.1+(1:Int)))) fun l19=>
               G1 (l19,IntKind.i64.wrap ((IntKind.i64.wrap (r16.1+(1:Int)))+(1:Int)),IntKind.i64.wrap (t2.2.2.1+(1:Int)),())
              else
               none
             else
              none
            else
             none
           else
            none
          else
           none
         else
          none
        else
         none
       else
        none
      else
       none
     else
      none
    else
     none
   else
    none
  else
   some (t2.2.1,t2.1)) (x,n,(0:Int),())
def ny (k:Nat) (x:List aY) (n:Int):Option (Int×(List aY)):=
 az k (fun G1 (t2:List aY×Int×Int×Unit)=>
  if(decide ((t2.2.2.1:Int)<((List.length t2.1:Nat):Int)))=true then
   if(decide (0≤t2.2.2.1∧t2.2.2.1<((List.length t2.1:Nat):Int)))=true then
    bS (List.set t2.1 (Int.toNat t2.2.2.1) (t2.2.1,(List.getD t2.1 (Int.toNat t2.2.2.1) ak.aa).2)) fun l3=>
    if(decide (0≤t2.2.2.1∧t2.2.2.1<((List.length l3:Nat):Int)))=true then
     bS (List.set l3 (Int.toNat t2.2.2.1) ((List.getD l3 (Int.toNat t2.2.2.1) ak.aa).1,IntKind.i64.wrap (t2.2.1+(1:Int)),((List.getD l3 (Int.toNat t2.2.2.1) ak.aa).2).2)) fun l4=>
     if(decide (0≤t2.2.2.1∧t2.2.2.1<((List.length l4:Nat):Int)))=true then
      Option.bind (cH k (((((List.getD l4 (Int.toNat t2.2.2.1) ak.aa).2).2).1).1) (IntKind.i64.wrap ((IntKind.i64.wrap (t2.2.1+(1:Int)))+(1:Int)))) fun r5=>
      bS (List.set l4 (Int.toNat t2.2.2.1) ((List.getD l4 (Int.toNat t2.2.2.1) ak.aa).1,((List.getD l4 (Int.toNat t2.2.2.1) ak.aa).2).1,(r5.2,((((List.getD l4 (Int.toNat t2.2.2.1) ak.aa).2).2).1).2),(((List.getD l4 (Int.toNat t2.2.2.1) ak.aa).2).2).2)) fun l6=>
      if(decide (0≤t2.2.2.1∧t2.2.2.1<((List.length l6:Nat):Int)))=true then
       bS (List.set l6 (Int.toNat t2.2.2.1) ((List.getD l6 (Int.toNat t2.2.2.1) ak.aa).1,((List.getD l6 (Int.toNat t2.2.2.1) ak.aa).2).1,(((((List.getD l6 (Int.toNat t2.2.2.1) ak.aa).2).2).1).1,r5.1,(((((List.getD l6 (Int.toNat t2.2.2.1) ak.aa).2).2).1).2).2),(((List.getD l6 (Int.toNat t2.2.2.1) ak.aa).2).2).2)) fun l7=>
       if(decide (0≤t2.2.2.1∧t2.2.2.1<((List.length l7:Nat):Int)))=true then
        bS (List.set l7 (Int.toNat t2.2.2.1) ((List.getD l7 (Int.toNat t2.2.2.1) ak.aa).1,((List.getD l7 (Int.toNat t2.2.2.1) ak.aa).2).1,(((((List.getD l7 (Int.toNat t2.2.2.1) ak.aa).2).2).1).1,(((((List.getD l7 (Int.toNat t2.2.2.1) ak.aa).2).2).1).2).1,IntKind.i64.wrap (r5.1+(1:Int)),((((((List.getD l7 (Int.toNat t2.2.2.1) ak.aa).2).2).1).2).2).2),(((List.getD l7 (Int.toNat t2.2.2.1) ak.aa).2).2).2)) fun l8=>
        Option.bind (bU k (IntKind.i64.wrap ((IntKind.i64.wrap (r5.1+(1:Int)))+(1:Int)),())) fun r9=>
        if(decide (0≤t2.2.2.1∧t2.2.2.1<((List.length l8:Nat):Int)))=true then
         bS (List.set l8 (Int.toNat t2.2.2.1) ((List.getD l8 (Int.toNat t2.2.2.1) ak.aa).1,((List.getD l8 (Int.toNat t2.2.2.1) ak.aa).2).1,(((((List.getD l8 (Int.toNat t2.2.2.1) ak.aa).2).2).1).1,(((((List.getD l8 (Int.toNat t2.2.2.1) ak.aa).2).2).1).2).1,((((((List.getD l8 (Int.toNat t2.2.2.1) ak.aa).2).2).1).2).2).1,r9.1),(((List.getD l8 (Int.toNat t2.2.2.1) ak.aa).2).2).2)) fun l10=>
         if(decide (0≤t2.2.2.1∧t2.2.2.1<((List.length l10:Nat):Int)))=true then
          Option.bind (cH k (((((List.getD l10 (Int.toNat t2.2.2.1) ak.aa).2).2).2).1) (IntKind.i64.wrap ((IntKind.i64.wrap ((IntKind.i64.wrap (r5.1+(1:Int)))+(1:Int)))+(1:Int)))) fun r11=>
          bS (List.set l10 (Int.toNat t2.2.2.1) ((List.getD l10 (Int.toNat t2.2.2.1) ak.aa).1,((List.getD l10 (Int.toNat t2.2.2.1) ak.aa).2).1,(((List.getD l10 (Int.toNat t2.2.2.1) ak.aa).2).2).1,r11.2,((((List.getD l10 (Int.toNat t2.2.2.1) ak.aa).2).2).2).2)) fun l12=>
          if(decide (0≤t2.2.2.1∧t2.2.2.1<((List.length l12:Nat):Int)))=true then
           bS (List.set l12 (Int.toNat t2.2.2.1) ((List.getD l12 (Int.toNat t2.2.2.1) ak.aa).1,((List.getD l12 (Int.toNat t2.2.2.1) ak.aa).2).1,(((List.getD l12 (Int.toNat t2.2.2.1) ak.aa).2).2).1,((((List.getD l12 (Int.toNat t2.2.2.1) ak.aa).2).2).2).1,r11.1,(((((List.getD l12 (Int.toNat t2.2.2.1) ak.aa).2).2).2).2).2)) fun l13=>
           if(decide (0≤t2.2.2.1∧t2.2.2.1<((List.length l13:Nat):Int)))=true then
            bS (List.set l13 (Int.toNat t2.2.2.1) ((List.getD l13 (Int.toNat t2.2.2.1) ak.aa).1,((List.getD l13 (Int.toNat t2.2.2.1) ak.aa).2).1,(((List.getD l13 (Int.toNat t2.2.2.1) ak.aa).2).2).1,((((List.getD l13 (Int.toNat t2.2.2.1) ak.aa).2).2).2).1,(((((List.getD l13 (Int.toNat t2.2.2.1) ak.aa).2).2).2).2).1,IntKind.i64.wrap (r11.1+(1:Int)),((((((List.getD l13 (Int.toNat t2.2.2.1) ak.aa).2).2).2).2).2).2)) fun l14=>
            if(decide (0≤t2.2.2.1∧t2.2.2.1<((List.length l14:Nat):Int)))=true then
             bS (List.set l14 (Int.toNat t2.2.2.1) ((List.getD l14 (Int.toNat t2.2.2.1) ak.aa).1,((List.getD l14 (Int.toNat t2.2.2.1) ak.aa).2).1,(((List.getD l14 (Int.toNat t2.2.2.1) ak.aa).2).2).1,((((List.getD l14 (Int.toNat t2.2.2.1) ak.aa).2).2).2).1,(((((List.getD l14 (Int.toNat t2.2.2.1) ak.aa).2).2).2).2).1,((((((List.getD l14 (Int.toNat t2.2.2.1) ak.aa).2).2).2).2).2).1,IntKind.i64.wrap ((IntKind.i64.wrap (r11.1+(1:Int)))+(1:Int)),(((((((List.getD l14 (Int.toNat t2.2.2.1) ak.aa).2).2).2).2).2).2).2)) fun l15=>
             if(decide (0≤t2.2.2.1∧t2.2.2.1<((List.length l15:Nat):Int)))=true then
              Option.bind (cG k (((((((((List.getD l15 (Int.toNat t2.2.2.1) ak.aa).2).2).2).2).2).2).2).1) (IntKind.i64.wrap ((IntKind.i64.wrap ((IntKind.i64.wrap (r11.1+(1:Int)))+(1:Int)))+(1:Int)))) fun r16=>
              bS (List.set l15 (Int.toNat t2.2.2.1) ((List.getD l15 (Int.toNat t2.2.2.1) ak.aa).1,((List.getD l15 (Int.toNat t2.2.2.1) ak.aa).2).1,(((List.getD l15 (Int.toNat t2.2.2.1) ak.aa).2).2).1,((((List.getD l15 (Int.toNat t2.2.2.1) ak.aa).2).2).2).1,(((((List.getD l15 (Int.toNat t2.2.2.1) ak.aa).2).2).2).2).1,((((((List.getD l15 (Int.toNat t2.2.2.1) ak.aa).2).2).2).2).2).1,(((((((List.getD l15 (Int.toNat t2.2.2.1) ak.aa).2).2).2).2).2).2).1,r16.2,((((((((List.getD l15 (Int.toNat t2.2.2.1) ak.aa).2).2).2).2).2).2).2).2)) fun l17=>
              if(decide (0≤t2.2.2.1∧t2.2.2.1<((List.length l17:Nat):Int)))=true then
               bS (List.set l17 (Int.toNat t2.2.2.1) ((List.getD l17 (Int.toNat t2.2.2.1) ak.aa).1,((List.getD l17 (Int.toNat t2.2.2.1) ak.aa).2).1,(((List.getD l17 (Int.toNat t2.2.2.1) ak.aa).2).2).1,((((List.getD l17 (Int.toNat t2.2.2.1) ak.aa).2).2).2).1,(((((List.getD l17 (Int.toNat t2.2.2.1) ak.aa).2).2).2).2).1,((((((List.getD l17 (Int.toNat t2.2.2.1) ak.aa).2).2).2).2).2).1,(((((((List.getD l17 (Int.toNat t2.2.2.1) ak.aa).2).2).2).2).2).2).1,((((((((List.getD l17 (Int.toNat t2.2.2.1) ak.aa).2).2).2).2).2).2).2).1,r16.1,(((((((((List.getD l17 (Int.toNat t2.2.2.1) ak.aa).2).2).2).2).2).2).2).2).2)) fun l18=>
               if(decide (0≤t2.2.2.1∧t2.2.2.1<((List.length l18:Nat):Int)))=true then
                bS (List.set l18 (Int.toNat t2.2.2.1) ((List.getD l18 (Int.toNat t2.2.2.1) ak.aa).1,((List.getD l18 (Int.toNat t2.2.2.1) ak.aa).2).1,(((List.getD l18 (Int.toNat t2.2.2.1) ak.aa).2).2).1,((((List.getD l18 (Int.toNat t2.2.2.1) ak.aa).2).2).2).1,(((((List.getD l18 (Int.toNat t2.2.2.1) ak.aa).2).2).2).2).1,((((((List.getD l18 (Int.toNat t2.2.2.1) ak.aa).2).2).2).2).2).1,(((((((List.getD l18 (Int.toNat t2.2.2.1) ak.aa).2).2).2).2).2).2).1,((((((((List.getD l18 (Int.toNat t2.2.2.1) ak.aa).2).2).2).2).2).2).2).1,(((((((((List.getD l18 (Int.toNat t2.2.2.1) ak.aa).2).2).2).2).2).2).2).2).1,IntKind.i64.wrap (r16.1+(1:Int)),((((((((((List.getD l18 (Int.toNat t2.2.2.1) ak.aa).2).2).2).2).2).2).2).2).2).2)) fun l19=>
                if(decide (0≤t2.2.2.1∧t2.2.2.1<((List.length l19:Nat):Int)))=true then
                 bS (List.set l19 (Int.toNat t2.2.2.1) ((List.getD l19 (Int.toNat t2.2.2.1) ak.aa).1,((List.getD l19 (Int.toNat t2.2.2.1) ak.aa).2).1,(((List.getD l19 (Int.toNat t2.2.2.1) ak.aa).2).2).1,((((List.getD l19 (Int.toNat t2.2.2.1) ak.aa).2).2).2).1,(((((List.getD l19 (Int.toNat t2.2.2.1) ak.aa).2).2).2).2).1,((((((List.getD l19 (Int.toNat t2.2.2.1) ak.aa).2).2).2).2).2).1,(((((((List.getD l19 (Int.toNat t2.2.2.1) ak.aa).2).2).2).2).2).2).1,((((((((List.getD l19 (Int.toNat t2.2.2.1) ak.aa).2).2).2).2).2).2).2).1,(((((((((List.getD l19 (Int.toNat t2.2.2.1) ak.aa).2).2).2).2).2).2).2).2).1,((((((((((List.getD l19 (Int.toNat t2.2.2.1) ak.aa).2).2).2).2).2).2).2).2).2).1,IntKind.i64.wrap ((IntKind.i64.wrap (r16.1+(1:Int)))+(1:Int)),(((((((((((List.getD l19 (Int.toNat t2.2.2.1) ak.aa).2).2).2).2).2).2).2).2).2).2).2)) fun l20=>
                 if(decide (0≤t2.2.2.1∧t2.2.2.1<((List.length l20:Nat):Int)))=true then
                  bS (List.set l20 (Int.toNat t2.2.2.1) ((List.getD l20 (Int.toNat t2.2.2.1) ak.aa).1,((List.getD l20 (Int.toNat t2.2.2.1) ak.aa).2).1,(((List.getD l20 (Int.toNat t2.2.2.1) ak.aa).2).2).1,((((List.getD l20 (Int.toNat t2.2.2.1) ak.aa).2).2).2).1,(((((List.getD l20 (Int.toNat t2.2.2.1) ak.aa).2).2).2).2).1,((((((List.getD l20 (Int.toNat t2.2.2.1) ak.aa).2).2).2).2).2).1,(((((((List.getD l20 (Int.toNat t2.2.2.1) ak.aa).2).2).2).2).2).2).1,((((((((List.getD l20 (Int.toNat t2.2.2.1) ak.aa).2).2).2).2).2).2).2).1,(((((((((List.getD l20 (Int.toNat t2.2.2.1) ak.aa).2).2).2).2).2).2).2).2).1,((((((((((List.getD l20 (Int.toNat t2.2.2.1) ak.aa).2).2).2).2).2).2).2).2).2).1,(((((((((((List.getD l20 (Int.toNat t2.2.2.1) ak.aa).2).2).2).2).2).2).2).2).2).2).1,IntKind.i64.wrap ((IntKind.i64.wrap ((IntKind.i64.wrap (r16.1+(1:Int)))+(1:Int)))+(1:Int)))) fun l21=>
                  G1 (l21,IntKind.i64.wrap ((IntKind.i64.wrap ((IntKind.i64.wrap ((IntKind.i64.wrap (r16.1+(1:Int)))+(1:Int)))+(1:Int)))+(1:Int)),IntKind.i64.wrap (t2.2.2.1+(1:Int)),())
                 else
                  none
                else
                 none
               else
                none
              else
               none
             else
              none
            else
             none
           else
            none
          else
           none
         else
          none
        else
         none
       else
        none
      else
       none
     else
      none
    else
     none
   else
    none
  else
   some (t2.2.1,t2.1)) (x,n,(0:Int),())
def gb (k:Nat) (x:ar) (n:Int):Option (Int×ar):=
 Option.bind (ot k x.1 n) fun r1=>
 Option.bind (nw k x.2.2.2.1 r1.1) fun r2=>
 Option.bind (oK k x.2.2.2.2.1 r2.1) fun r3=>
 Option.bind (cG k x.2.2.2.2.2.1 r3.1) fun r4=>
 Option.bind (mq k x.2.2.2.2.2.2.2.1 r4.1) fun r5=>
 Option.bind (mj k x.2.2.2.2.2.2.2.2.2.1 r5.1) fun r6=>
 Option.bind (mn k x.2.2.2.2.2.2.2.2.2.2.1 r6.1) fun r7=>
 Option.bind (cG k x.2.2.2.2.2.2.2.2.2.2.2.1 r7.1) fun r8=>
 Option.bind (nH k x.2.2.2.2.2.2.2.2.2.2.2.2.1 r8.1) fun r9=>
 Option.bind (ny k x.2.2.2.2.2.2.2.2.2.2.2.2.2 r9.1) fun r10=>
 some (r10.1,((x.1.1,x.1.2.1,x.1.2.2.1,x.1.2.2.2.1,x.1.2.2.2.2.1,r1.2.2.2.2.2.2),x.2.1,x.2.2.1,r2.2,r3.2,r4.2,x.2.2.2.2.2.2.1,r5.2,x.2.2.2.2.2.2.2.2.1,r6.2,r7.2,r8.2,r9.2,r10.2))
def jv (k:Nat) (x:ai) (n:Int):Option (Int×ai):=
 Option.bind (cH k x.1 n) fun r1=>
 some (r1.1,(r1.2,x.2))
def kZ (k:Nat) (x:List ByteArray×Int×Unit):Option (Int×Unit):=
 az k (fun G1 (t2:List ByteArray×Int×Int×Unit)=>
  if(decide ((t2.2.2.1:Int)<((List.length t2.1:Nat):Int)))=true then
   if(decide (0≤t2.2.2.1∧t2.2.2.1<((List.length t2.1:Nat):Int)))=true then
    Option.bind (bU k (t2.2.1,())) fun r3=>
    if(!(ByteArray.toList (List.getD t2.1 (Int.toNat t2.2.2.1) ByteArray.empty)==ByteArray.toList r3.1))=true then
     some ((-1:Int),())
    else
     G1 (t2.1,IntKind.i64.wrap (t2.2.1+(1:Int)),IntKind.i64.wrap (t2.2.2.1+(1:Int)),())
   else
    none
  else
   some (t2.2.1,())) (x.1,x.2.1,(0:Int),())
def oc (k:Nat) (x:cg×Int×Unit):Option (Int×Unit):=
 Option.bind (kZ k (x.1.2.2.2.2.2,x.2.1,())) fun r1=>
 if(decide ((r1.1:Int)<(0:Int)))=true then
  some ((-1:Int),())
 else
  some (r1.1,())
def cZ (k:Nat) (x:List aj×Int×Unit):Option (Int×Unit):=
 az k (fun G1 (t2:List aj×Int×Int×Unit)=>
  if(decide ((t2.2.2.1:Int)<((List.length t2.1:Nat):Int)))=true then
   if(decide (0≤t2.2.2.1∧t2.2.2.1<((List.length t2.1:Nat):Int)))=true then
    Option.bind (bU k (t2.2.1,())) fun r3=>
    if(!(ByteArray.toList ((List.getD t2.1 (Int.toNat t2.2.2.1) af.aa).1)==ByteArray.toList r3.1))=true then
     some ((-1:Int),())
    else
     if(decide (0≤t2.2.2.1∧t2.2.2.1<((List.length t2.1:Nat):Int)))=true then
      Option.bind (bU k (IntKind.i64.wrap (t2.2.1+(1:Int)),())) fun r4=>
      if(!(ByteArray.toList ((List.getD t2.1 (Int.toNat t2.2.2.1) af.aa).2)==ByteArray.toList r4.1))=true then
       some ((-1:Int),())
      else
       G1 (t2.1,IntKind.i64.wrap ((IntKind.i64.wrap (t2.2.1+(1:Int)))+(1:Int)),IntKind.i64.wrap (t2.2.2.1+(1:Int)),())
     else
      none
   else
    none
  else
   some (t2.2.1,())) (x.1,x.2.1,(0:Int),())
def cI (k:Nat) (x:List ai×Int×Unit):Option (Int×Unit):=
 az k (fun G1 (t2:List ai×Int×Int×Unit)=>
  if(decide ((t2.2.2.1:Int)<((List.length t2.1:Nat):Int)))=true then
   if(decide (0≤t2.2.2.1∧t2.2.2.1<((List.length t2.1:Nat):Int)))=true then
    Option.bind (cZ k ((List.getD t2.1 (Int.toNat t2.2.2.1) ab.aa).1,t2.2.1,())) fun r3=>
    if(decide ((r3.1:Int)<(0:Int)))=true then
     some ((-1:Int),())
    else
     if(decide (0≤t2.2.2.1∧t2.2.2.1<((List.length t2.1:Nat):Int)))=true then
      if(((((List.getD t2.1 (Int.toNat t2.2.2.1) ab.aa).2).1):Int) != r3.1)=true then
       some ((-1:Int),())
      else
       if(decide (0≤t2.2.2.1∧t2.2.2.1<((List.length t2.1:Nat):Int)))=true then
        if((((((List.getD t2.1 (Int.toNat t2.2.2.1) ab.aa).2).2).1):Int) != (IntKind.i64.wrap (r3.1+(1:Int))))=true then
         some ((-1:Int),())
        else
         if(decide (0≤t2.2.2.1∧t2.2.2.1<((List.length t2.1:Nat):Int)))=true then
          Option.bind (bU k (IntKind.i64.wrap ((IntKind.i64.wrap (r3.1+(1:Int)))+(1:Int)),())) fun r4=>
          if(!(ByteArray.toList ((((List.getD t2.1 (Int.toNat t2.2.2.1) ab.aa).2).2).2)==ByteArray.toList r4.1))=true then
           some ((-1:Int),())
          else
           G1 (t2.1,IntKind.i64.wrap ((IntKind.i64.wrap ((IntKind.i64.wrap (r3.1+(1:Int)))+(1:Int)))+(1:Int)),IntKind.i64.wrap (t2.2.2.1+(1:Int)),())
         else
          none
       else
        none
     else
      none
   else
    none
  else
   some (t2.2.1,())) (x.1,x.2.1,(0:Int),())
def mg (k:Nat) (x:List bc×Int×Unit):Option (Int×Unit):=
 az k (fun G1 (t2:List bc×Int×Int×Unit)=>
  if(decide ((t2.2.2.1:Int)<((List.length t2.1:Nat):Int)))=true then
   if(decide (0≤t2.2.2.1∧t2.2.2.1<((List.length t2.1:Nat):Int)))=true then
    if((((List.getD t2.1 (Int.toNat t2.2.2.1) ay.aa).1):Int) != t2.2.1)=true then
     some ((-1:Int),())
    else
     if(decide (0≤t2.2.2.1∧t2.2.2.1<((List.length t2.1:Nat):Int)))=true then
      Option.bind (cI k ((List.getD t2.1 (Int.toNat t2.2.2.1) ay.aa).2,IntKind.i64.wrap (t2.2.1+(1:Int)),())) fun r3=>
      if(decide ((r3.1:Int)<(0:Int)))=true then
       some ((-1:Int),())
      else
       G1 (t2.1,r3.1,IntKind.i64.wrap (t2.2.2.1+(1:Int)),())
     else
      none
   else
    none
  else
   some (t2.2.1,())) (x.1,x.2.1,(0:Int),())
def nJ (k:Nat) (x:List aG×Int×Unit):Option (Int×Unit):=
 az k (fun G1 (t2:List aG×Int×Int×Unit)=>
  if(decide ((t2.2.2.1:Int)<((List.length t2.1:Nat):Int)))=true then
   if(decide (0≤t2.2.2.1∧t2.2.2.1<((List.length t2.1:Nat):Int)))=true then
    if((((List.getD t2.1 (Int.toNat t2.2.2.1) aq.aa).1):Int) != t2.2.1)=true then
     some ((-1:Int),())
    else
     if(decide (0≤t2.2.2.1∧t2.2.2.1<((List.length t2.1:Nat):Int)))=true then
      if(((((List.getD t2.1 (Int.toNat t2.2.2.1) aq.aa).2).1):Int) != (IntKind.i64.wrap (t2.2.1+(1:Int))))=true then
       some ((-1:Int),())
      else
       if(decide (0≤t2.2.2.1∧t2.2.2.1<((List.length t2.1:Nat):Int)))=true then
        Option.bind (mg k (((List.getD t2.1 (Int.toNat t2.2.2.1) aq.aa).2).2,IntKind.i64.wrap ((IntKind.i64.wrap (t2.2.1+(1:Int)))+(1:Int)),())) fun r3=>
        if(decide ((r3.1:Int)<(0:Int)))=true then
         some ((-1:Int),())
        else
         G1 (t2.1,r3.1,IntKind.i64.wrap (t2.2.2.1+(1:Int)),())
       else
        none
     else
      none
   else
    none
  else
   some (t2.2.1,())) (x.1,x.2.1,(0:Int),())
def oN (k:Nat) (x:List bF×Int×Unit):Option (Int×Unit):=
 az k (fun G1 (t2:List bF×Int×Int×Unit)=>
  if(decide ((t2.2.2.1:Int)<((List.length t2.1:Nat):Int)))=true then
   if(decide (0≤t2.2.2.1∧t2.2.2.1<((List.length t2.1:Nat):Int)))=true then
    Option.bind (cI k ((List.getD t2.1 (Int.toNat t2.2.2.1) aU.aa).1,t2.2.1,())) fun r3=>
    if(decide ((r3.1:Int)<(0:Int)))=true then
     some ((-1:Int),())
    else
     if(decide (0≤t2.2.2.1∧t2.2.2.1<((List.length t2.1:Nat):Int)))=true then
      if(decide ((3:Int)≠0))=true then
       if(!((((List.getD t2.1 (Int.toNat t2.2.2.1) aU.aa).2):Bool)==(((Int.tmod r3.1 (3:Int)):Int)==(0:Int))))=true then
        some ((-1:Int),())
       else
        G1 (t2.1,IntKind.i64.wrap (r3.1+(1:Int)),IntKind.i64.wrap (t2.2.2.1+(1:Int)),())
      else
       none
     else
      none
   else
    none
  else
   some (t2.2.1,())) (x.1,x.2.1,(0:Int),())
def mf (k:Nat) (x:List aJ×Int×Unit):Option (Int×Unit):=
 az k (fun G1 (t2:List aJ×Int×Int×Unit)=>
  if(decide ((t2.2.2.1:Int)<((List.length t2.1:Nat):Int)))=true then
   if(decide (0≤t2.2.2.1∧t2.2.2.1<((List.length t2.1:Nat):Int)))=true then
    if((((List.getD t2.1 (Int.toNat t2.2.2.1) al.aa).1):Int) != t2.2.1)=true then
     some ((-1:Int),())
    else
     if(decide (0≤t2.2.2.1∧t2.2.2.1<((List.length t2.1:Nat):Int)))=true then
      Option.bind (cZ k (((List.getD t2.1 (Int.toNat t2.2.2.1) al.aa).2).1,IntKind.i64.wrap (t2.2.1+(1:Int)),())) fun r3=>
      if(decide ((r3.1:Int)<(0:Int)))=true then
       some ((-1:Int),())
      else
       if(decide (0≤t2.2.2.1∧t2.2.2.1<((List.length t2.1:Nat):Int)))=true then
        if((((((List.getD t2.1 (Int.toNat t2.2.2.1) al.aa).2).2).1):Int) != r3.1)=true then
         some ((-1:Int),())
        else
         if(decide (0≤t2.2.2.1∧t2.2.2.1<((List.length t2.1:Nat):Int)))=true then
          if(((((((List.getD t2.1 (Int.toNat t2.2.2.1) al.aa).2).2).2).1):Int) != (IntKind.i64.wrap (r3.1+(1:Int))))=true then
           some ((-1:Int),())
          else
           if(decide (0≤t2.2.2.1∧t2.2.2.1<((List.length t2.1:Nat):Int)))=true then
            Option.bind (cI k (((((List.getD t2.1 (Int.toNat t2.2.2.1) al.aa).2).2).2).2,IntKind.i64.wrap ((IntKind.i64.wrap (r3.1+(1:Int)))+(1:Int)),())) fun r4=>
            if(decide ((r4.1:Int)<(0:Int)))=true then
             some ((-1:Int),())
            else
             G1 (t2.1,r4.1,IntKind.i64.wrap (t2.2.2.1+(1:Int)),())
           else
            none
         else
          none
       else
        none
     else
      none
   else
    none
  else
   some (t2.2.1,())) (x.1,x.2.1,(0:Int),())
def mu (k:Nat) (x:List bl×Int×Unit):Option (Int×Unit):=
 az k (fun G1 (t2:List bl×Int×Int×Unit)=>
  if(decide ((t2.2.2.1:Int)<((List.length t2.1:Nat):Int)))=true then
   if(decide (0≤t2.2.2.1∧t2.2.2.1<((List.length t2.1:Nat):Int)))=true then
    if((((List.getD t2.1 (Int.toNat t2.2.2.1) aC.aa).1):Int) != t2.2.1)=true then
     some ((-1:Int),())
    else
     if(decide (0≤t2.2.2.1∧t2.2.2.1<((List.length t2.1:Nat):Int)))=true then
      if((((List.getD t2.1 (Int.toNat t2.2.2.1) aC.aa).2):Int) != (IntKind.i64.wrap (t2.2.1+(1:Int))))=true then
       some ((-1:Int),())
      else
       G1 (t2.1,IntKind.i64.wrap ((IntKind.i64.wrap (t2.2.1+(1:Int)))+(1:Int)),IntKind.i64.wrap (t2.2.2.1+(1:Int)),())
     else
      none
   else
    none
  else
   some (t2.2.1,())) (x.1,x.2.1,(0:Int),())
def ml (k:Nat) (x:List bz×Int×Unit):Option (Int×Unit):=
 az k (fun G1 (t2:List bz×Int×Int×Unit)=>
  if(decide ((t2.2.2.1:Int)<((List.length t2.1:Nat):Int)))=true then
   if(decide (0≤t2.2.2.1∧t2.2.2.1<((List.length t2.1:Nat):Int)))=true then
    if((((List.getD t2.1 (Int.toNat t2.2.2.1) aN.aa).1):Int) != t2.2.1)=true then
     some ((-1:Int),())
    else
     if(decide (0≤t2.2.2.1∧t2.2.2.1<((List.length t2.1:Nat):Int)))=true then
      Option.bind (cZ k (((List.getD t2.1 (Int.toNat t2.2.2.1) aN.aa).2).1,IntKind.i64.wrap (t2.2.1+(1:Int)),())) fun r3=>
      if(decide ((r3.1:Int)<(0:Int)))=true then
       some ((-1:Int),())
      else
       if(decide (0≤t2.2.2.1∧t2.2.2.1<((List.length t2.1:Nat):Int)))=true then
        if((((((List.getD t2.1 (Int.toNat t2.2.2.1) aN.aa).2).2).1):Int) != r3.1)=true then
         some ((-1:Int),())
        else
         if(decide (0≤t2.2.2.1∧t2.2.2.1<((List.length t2.1:Nat):Int)))=true then
          Option.bind (cI k ((((List.getD t2.1 (Int.toNat t2.2.2.1) aN.aa).2).2).2,IntKind.i64.wrap (r3.1+(1:Int)),())) fun r4=>
          if(decide ((r4.1:Int)<(0:Int)))=true then
           some ((-1:Int),())
          else
           G1 (t2.1,r4.1,IntKind.i64.wrap (t2.2.2.1+(1:Int)),())
         else
          none
       else
        none
     else
      none
   else
    none
  else
   some (t2.2.1,())) (x.1,x.2.1,(0:Int),())
def oJ (k:Nat) (x:List Int×Int×Unit):Option (Int×Unit):=
 az k (fun G1 (t2:List Int×Int×Int×Unit)=>
  if(decide ((t2.2.2.1:Int)<((List.length t2.1:Nat):Int)))=true then
   if(decide (0≤t2.2.2.1∧t2.2.2.1<((List.length t2.1:Nat):Int)))=true then
    if(((List.getD t2.1 (Int.toNat t2.2.2.1) 0):Int) != t2.2.1)=true then
     some ((-1:Int),())
    else
     G1 (t2.1,IntKind.i64.wrap (t2.2.1+(1:Int)),IntKind.i64.wrap (t2.2.2.1+(1:Int)),())
   else
    none
  else
   some (t2.2.1,())) (x.1,x.2.1,(0:Int),())
def nG (k:Nat) (x:List aM×Int×Unit):Option (Int×Unit):=
 az k (fun G1 (t2:List aM×Int×Int×Unit)=>
  if(decide ((t2.2.2.1:Int)<((List.length t2.1:Nat):Int)))=true then
   if(decide (0≤t2.2.2.1∧t2.2.2.1<((List.length t2.1:Nat):Int)))=true then
    if((((List.getD t2.1 (Int.toNat t2.2.2.1) ah.aa).1):Int) != t2.2.1)=true then
     some ((-1:Int),())
    else
     if(decide (0≤t2.2.2.1∧t2.2.2.1<((List.length t2.1:Nat):Int)))=true then
      if(((((List.getD t2.1 (Int.toNat t2.2.2.1) ah.aa).2).1):Int) != (IntKind.i64.wrap (t2.2.1+(1:Int))))=true then
       some ((-1:Int),())
      else
       if(decide (0≤t2.2.2.1∧t2.2.2.1<((List.length t2.1:Nat):Int)))=true then
        Option.bind (cZ k (((((List.getD t2.1 (Int.toNat t2.2.2.1) ah.aa).2).2).1).1,IntKind.i64.wrap ((IntKind.i64.wrap (t2.2.1+(1:Int)))+(1:Int)),())) fun r3=>
        if(decide ((r3.1:Int)<(0:Int)))=true then
         some ((-1:Int),())
        else
         if(decide (0≤t2.2.2.1∧t2.2.2.1<((List.length t2.1:Nat):Int)))=true then
          if((((((((List.getD t2.1 (Int.toNat t2.2.2.1) ah.aa).2).2).1).2).1):Int) != r3.1)=true then
           some ((-1:Int),())
          else
           if(decide (0≤t2.2.2.1∧t2.2.2.1<((List.length t2.1:Nat):Int)))=true then
            if(((((((((List.getD t2.1 (Int.toNat t2.2.2.1) ah.aa).2).2).1).2).2).1):Int) != (IntKind.i64.wrap (r3.1+(1:Int))))=true then
             some ((-1:Int),())
            else
             if(decide (0≤t2.2.2.1∧t2.2.2.1<((List.length t2.1:Nat):Int)))=true then
              Option.bind (bU k (IntKind.i64.wrap ((IntKind.i64.wrap (r3.1+(1:Int)))+(1:Int)),())) fun r4=>
              if(!(ByteArray.toList (((((((List.getD t2.1 (Int.toNat t2.2.2.1) ah.aa).2).2).1).2).2).2)==ByteArray.toList r4.1))=true then
               some ((-1:Int),())
              else
               if(decide (0≤t2.2.2.1∧t2.2.2.1<((List.length t2.1:Nat):Int)))=true then
                Option.bind (cZ k (((((List.getD t2.1 (Int.toNat t2.2.2.1) ah.aa).2).2).2).1,IntKind.i64.wrap ((IntKind.i64.wrap ((IntKind.i64.wrap (r3.1+(1:Int)))+(1:Int)))+(1:Int)),())) fun r5=>
                if(decide ((r5.1:Int)<(0:Int)))=true then
                 some ((-1:Int),())
                else
                 if(decide (0≤t2.2.2.1∧t2.2.2.1<((List.length t2.1:Nat):Int)))=true then
                  if((((((((List.getD t2.1 (Int.toNat t2.2.2.1) ah.aa).2).2).2).2).1):Int) != r5.1)=true then
                   some ((-1:Int),())
                  else
                   if(decide (0≤t2.2.2.1∧t2.2.2.1<((List.length t2.1:Nat):Int)))=true then
                    Option.bind (oJ k (((((((List.getD t2.1 (Int.toNat t2.2.2.1) ah.aa).2).2).2).2).2).1,IntKind.i64.wrap (r5.1+(1:Int)),())) fun r6=>
                    if(decide ((r6.1:Int)<(0:Int)))=true then
                     some ((-1:Int),())
                    else
                     if(decide (0≤t2.2.2.1∧t2.2.2.1<((List.length t2.1:Nat):Int)))=true then
                      Option.bind (cI k ((((((((List.getD t2.1 (Int.toNat t2.2.2.1) ah.aa).2).2).2).2).2).2).1,r6.1,())) fun r7=>
                      if(decide ((r7.1:Int)<(0:Int)))=true then
                       some ((-1:Int),())
                      else
                       if(decide (0≤t2.2.2.1∧t2.2.2.1<((List.length t2.1:Nat):Int)))=true then
                        if(((((((((((List.getD t2.1 (Int.toNat t2.2.2.1) ah.aa).2).2).2).2).2).2).2).1):Int) != r7.1)=true then
                         some ((-1:Int),())
                        else
                         if(decide (0≤t2.2.2.1∧t2.2.2.1<((List.length t2.1:Nat):Int)))=true then
                          if(((((((((((List.getD t2.1 (Int.toNat t2.2.2.1) ah.aa).2).2).2).2).2).2).2).2):Int) != (IntKind.i64.wrap (r7.1+(1:Int))))=true then
                           some ((-1:Int),())
                          else
                           G1 (t2.1,IntKind.i64.wrap ((IntKind.i64.wrap (r7.1+(1:Int)))+(1:Int)),IntKind.i64.wrap (t2.2.2.1+(1:Int)),())
                         else
                          none
                       else
                        none
                     else
                      none
                   else
                    none
                 else
                  none
               else
                none
             else
              none
           else
            none
         else
          none
       else
        none
     else
      none
   else
    none
  else
   some (t2.2.1,())) (x.1,x.2.1,(0:Int),())
def nv (k:Nat) (x:List aY×Int×Unit):Option (Int×Unit):=
 az k (fun G1 (t2:List aY×Int×Int×Unit)=>
  if(decide ((t2.2.2.1:Int)<((List.length t2.1:Nat):Int)))=true then
   if(decide (0≤t2.2.2.1∧t2.2.2.1<((List.length t2.1:Nat):Int)))=true then
    if((((List.getD t2.1 (Int.toNat t2.2.2.1) ak.aa).1):Int) != t2.2.1)=true then
     some ((-1:Int),())
    else
     if(decide (0≤t2.2.2.1∧t2.2.2.1<((List.length t2.1:Nat):Int)))=true then
      if(((((List.getD t2.1 (Int.toNat t2.2.2.1) ak.aa).2).1):Int) != (IntKind.i64.wrap (t2.2.1+(1:Int))))=true then
       some ((-1:Int),())
      else
       if(decide (0≤t2.2.2.1∧t2.2.2.1<((List.length t2.1:Nat):Int)))=true then
        Option.bind (cZ k (((((List.getD t2.1 (Int.toNat t2.2.2.1) ak.aa).2).2).1).1,IntKind.i64.wrap ((IntKind.i64.wrap (t2.2.1+(1:Int)))+(1:Int)),())) fun r3=>
        if(decide ((r3.1:Int)<(0:Int)))=true then
         some ((-1:Int),())
        else
         if(decide (0≤t2.2.2.1∧t2.2.2.1<((List.length t2.1:Nat):Int)))=true then
          if((((((((List.getD t2.1 (Int.toNat t2.2.2.1) ak.aa).2).2).1).2).1):Int) != r3.1)=true then
           some ((-1:Int),())
          else
           if(decide (0≤t2.2.2.1∧t2.2.2.1<((List.length t2.1:Nat):Int)))=true then
            if(((((((((List.getD t2.1 (Int.toNat t2.2.2.1) ak.aa).2).2).1).2).2).1):Int) != (IntKind.i64.wrap (r3.1+(1:Int))))=true then
             some ((-1:Int),())
            else
             if(decide (0≤t2.2.2.1∧t2.2.2.1<((List.length t2.1:Nat):Int)))=true then
              Option.bind (bU k (IntKind.i64.wrap ((IntKind.i64.wrap (r3.1+(1:Int)))+(1:Int)),())) fun r4=>
              if(!(ByteArray.toList (((((((List.getD t2.1 (Int.toNat t2.2.2.1) ak.aa).2).2).1).2).2).2)==ByteArray.toList r4.1))=true then
               some ((-1:Int),())
              else
               if(decide (0≤t2.2.2.1∧t2.2.2.1<((List.length t2.1:Nat):Int)))=true then
                Option.bind (cZ k (((((List.getD t2.1 (Int.toNat t2.2.2.1) ak.aa).2).2).2).1,IntKind.i64.wrap ((IntKind.i64.wrap ((IntKind.i64.wrap (r3.1+(1:Int)))+(1:Int)))+(1:Int)),())) fun r5=>
                if(decide ((r5.1:Int)<(0:Int)))=true then
                 some ((-1:Int),())
                else
                 if(decide (0≤t2.2.2.1∧t2.2.2.1<((List.length t2.1:Nat):Int)))=true then
                  if((((((((List.getD t2.1 (Int.toNat t2.2.2.1) ak.aa).2).2).2).2).1):Int) != r5.1)=true then
                   some ((-1:Int),())
                  else
                   if(decide (0≤t2.2.2.1∧t2.2.2.1<((List.length t2.1:Nat):Int)))=true then
                    if(((((((((List.getD t2.1 (Int.toNat t2.2.2.1) ak.aa).2).2).2).2).2).1):Int) != (IntKind.i64.wrap (r5.1+(1:Int))))=true then
                     some ((-1:Int),())
                    else
                     if(decide (0≤t2.2.2.1∧t2.2.2.1<((List.length t2.1:Nat):Int)))=true then
                      if((((((((((List.getD t2.1 (Int.toNat t2.2.2.1) ak.aa).2).2).2).2).2).2).1):Int) != (IntKind.i64.wrap ((IntKind.i64.wrap (r5.1+(1:Int)))+(1:Int))))=true then
                       some ((-1:Int),())
                      else
                       if(decide (0≤t2.2.2.1∧t2.2.2.1<((List.length t2.1:Nat):Int)))=true then
                        Option.bind (cI k (((((((((List.getD t2.1 (Int.toNat t2.2.2.1) ak.aa).2).2).2).2).2).2).2).1,IntKind.i64.wrap ((IntKind.i64.wrap ((IntKind.i64.wrap (r5.1+(1:Int)))+(1:Int)))+(1:Int)),())) fun r6=>
                        if(decide ((r6.1:Int)<(0:Int)))=true then
                         some ((-1:Int),())
                        else
                         if(decide (0≤t2.2.2.1∧t2.2.2.1<((List.length t2.1:Nat):Int)))=true then
                          if((((((((((((List.getD t2.1 (Int.toNat t2.2.2.1) ak.aa).2).2).2).2).2).2).2).2).1):Int) != r6.1)=true then
                           some ((-1:Int),())
                          else
                           if(decide (0≤t2.2.2.1∧t2.2.2.1<((List.length t2.1:Nat):Int)))=true then
                            if(((((((((((((List.getD t2.1 (Int.toNat t2.2.2.1) ak.aa).2).2).2).2).2).2).2).2).2).1):Int) != (IntKind.i64.wrap (r6.1+(1:Int))))=true then
                             some ((-1:Int),())
                            else
                             if(decide (0≤t2.2.2.1∧t2.2.2.1<((List.length t2.1:Nat):Int)))=true then
                              if((((((((((((((List.getD t2.1 (Int.toNat t2.2.2.1) ak.aa).2).2).2).2).2).2).2).2).2).2).1):Int) != (IntKind.i64.wrap ((IntKind.i64.wrap (r6.1+(1:Int)))+(1:Int))))=true then
                               some ((-1:Int),())
                              else
                               if(decide (0≤t2.2.2.1∧t2.2.2.1<((List.length t2.1:Nat):Int)))=true then
                                if((((((((((((((List.getD t2.1 (Int.toNat t2.2.2.1) ak.aa).2).2).2).2).2).2).2).2).2).2).2):Int) != (IntKind.i64.wrap ((IntKind.i64.wrap ((IntKind.i64.wrap (r6.1+(1:Int)))+(1:Int)))+(1:Int))))=true then
                                 some ((-1:Int),())
                                else
                                 G1 (t2.1,IntKind.i64.wrap ((IntKind.i64.wrap ((IntKind.i64.wrap ((IntKind.i64.wrap (r6.1+(1:Int)))+(1:Int)))+(1:Int)))+(1:Int)),IntKind.i64.wrap (t2.2.2.1+(1:Int)),())
                               else
                                none
                             else
                              none
                           else
                            none
                         else
                          none
                       else
                        none
                     else
                      none
                   else
                    none
                 else
                  none
               else
                none
             else
              none
           else
            none
         else
          none
       else
        none
     else
      none
   else
    none
  else
   some (t2.2.1,())) (x.1,x.2.1,(0:Int),())
def gi (k:Nat) (x:ar×Int×Unit):Option (Int×Unit):=
 Option.bind (oc k (x.1.1,x.2.1,())) fun r1=>
 if(decide ((r1.1:Int)<(0:Int)))=true then
  some ((-1:Int),())
 else
  Option.bind (nJ k (x.1.2.2.2.1,r1.1,())) fun r2=>
  if(decide ((r2.1:Int)<(0:Int)))=true then
   some ((-1:Int),())
  else
   Option.bind (oN k (x.1.2.2.2.2.1,r2.1,())) fun r3=>
   if(decide ((r3.1:Int)<(0:Int)))=true then
    some ((-1:Int),())
   else
    Option.bind (cI k (x.1.2.2.2.2.2.1,r3.1,())) fun r4=>
    if(decide ((r4.1:Int)<(0:Int)))=true then
     some ((-1:Int),())
    else
     Option.bind (mf k (x.1.2.2.2.2.2.2.2.1,r4.1,())) fun r5=>
     if(decide ((r5.1:Int)<(0:Int)))=true then
      some ((-1:Int),())
     else
      Option.bind (mu k (x.1.2.2.2.2.2.2.2.2.2.1,r5.1,())) fun r6=>
      if(decide ((r6.1:Int)<(0:Int)))=true then
       some ((-1:Int),())
      else
       Option.bind (ml k (x.1.2.2.2.2.2.2.2.2.2.2.1,r6.1,())) fun r7=>
       if(decide ((r7.1:Int)<(0:Int)))=true then
        some ((-1:Int),())
       else
        Option.bind (cI k (x.1.2.2.2.2.2.2.2.2.2.2.2.1,r7.1,())) fun r8=>
        if(decide ((r8.1:Int)<(0:Int)))=true then
         some ((-1:Int),())
        else
         Option.bind (nG k (x.1.2.2.2.2.2.2.2.2.2.2.2.2.1,r8.1,())) fun r9=>
         if(decide ((r9.1:Int)<(0:Int)))=true then
          some ((-1:Int),())
         else
          Option.bind (nv k (x.1.2.2.2.2.2.2.2.2.2.2.2.2.2,r9.1,())) fun r10=>
          if(decide ((r10.1:Int)<(0:Int)))=true then
           some ((-1:Int),())
          else
           some (r10.1,())
def ko (k:Nat) (x:ar×Int×ai×Unit):Option (Bool×Unit):=
 Option.bind (lV k (x.1,(1048576:Int),())) fun r1=>
 if(decide ((r1.1:Int)<(0:Int)))=true then
  some (true,())
 else
  Option.bind (eo k (x.2.2.1,r1.1,())) fun r2=>
  if(decide ((r2.1:Int)<(0:Int)))=true then
   some (true,())
  else
   Option.bind (eT k (x.1,())) fun r3=>
   Option.bind (c9 k (x.2.2.1,())) fun r4=>
   Option.bind (od k (r3.1,x.2.1,r4.1,())) fun r5=>
   Option.bind (eT k (x.1,())) fun r6=>
   Option.bind (c9 k (x.2.2.1,())) fun r7=>
   Option.bind (lh k (r6.1,x.2.1,r7.1,())) fun r8=>
   Option.bind (eW k (r8.1,r5.1,())) fun r9=>
   if(if(!r9.1)=true then true else !((r8.2.1:Bool)==r5.2.1))=true then
    some (false,())
   else
    Option.bind (eT k (x.1,())) fun r10=>
    Option.bind (eW k (r6.1,r10.1,())) fun r11=>
    if(!r11.1)=true then
     some (false,())
    else
     Option.bind (c9 k (x.2.2.1,())) fun r12=>
     Option.bind (eu k (r7.1,r12.1,())) fun r13=>
     if(!r13.1)=true then
      some (false,())
     else
      Option.bind (gb k r6.1 (1:Int)) fun r14=>
      Option.bind (jv k r7.1 r14.1) fun r15=>
      Option.bind ((if(((decide ((r15.1:Int)<(0:Int))):Bool)==false)=true then eW k (r8.1,r5.1,())else some (false,()))) fun r16=>
      if(if(if(decide ((r15.1:Int)<(0:Int)))=true then true else !r16.1)=true then true else !((r8.2.1:Bool)==r5.2.1))=true then
       some (false,())
      else
       Option.bind (gb k r8.1 (1:Int)) fun r17=>
       Option.bind (gi k (((r8.1.1.1,r8.1.1.2.1,r8.1.1.2.2.1,r8.1.1.2.2.2.1,r8.1.1.2.2.2.2.1,r17.2.1.2.2.2.2.2),r8.1.2.1,r8.1.2.2.1,r17.2.2.2.2.1,r17.2.2.2.2.2.1,r17.2.2.2.2.2.2.1,r8.1.2.2.2.2.2.2.1,r17.2.2.2.2.2.2.2.2.1,r8.1.2.2.2.2.2.2.2.2.1,r17.2.2.2.2.2.2.2.2.2.2),(1:Int),())) fun r18=>
       if(decide ((r18.1:Int)<(0:Int)))=true then
        some (false,())
       else
        if((r18.1:Int) != r17.1)=true then
         some (false,())
        else
         Option.bind (eT k (x.1,())) fun r19=>
         Option.bind (c9 k (x.2.2.1,())) fun r20=>
         Option.bind (lh k (r19.1,x.2.1,r20.1,())) fun r21=>
         Option.bind (eW k (r21.1,r5.1,())) fun r22=>
         if(if(!r22.1)=true then true else !((r21.2.1:Bool)==r5.2.1))=true then
          some (false,())
         else
          Option.bind (gi k (((r8.1.1.1,r8.1.1.2.1,r8.1.1.2.2.1,r8.1.1.2.2.2.1,r8.1.1.2.2.2.2.1,r17.2.1.2.2.2.2.2),r8.1.2.1,r8.1.2.2.1,r17.2.2.2.2.1,r17.2.2.2.2.2.1,r17.2.2.2.2.2.2.1,r8.1.2.2.2.2.2.2.1,r17.2.2.2.2.2.2.2.2.1,r8.1.2.2.2.2.2.2.2.2.1,r17.2.2.2.2.2.2.2.2.2.2),(1:Int),())) fun r23=>
          if(decide ((r23.1:Int)<(0:Int)))=true then
           some (false,())
          else
           if((r23.1:Int) != r17.1)=true then
            some (false,())
           else
            some (true,())
end Vg.Tryz
