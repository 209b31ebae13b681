/- What the functions compute, printed by vgen.py from the evaluator's run. -/
import Derived.Test.YteoefigcipiffaaGreatVc
import Derived.Test.YteoefigcipiffaaGreatVd
set_option linter.unusedSimpArgs false
set_option linter.unusedVariables false
namespace Vg.Tryz
open Go Vg
set_option linter.unusedVariables false
abbrev af:Ty:=(.pair .str .str)
abbrev ai:Type:=(ByteArray×ByteArray)
abbrev aC:Ty:=(.pair (.int .i64) (.int .i64))
abbrev bl:Type:=(Int×Int)
abbrev ab:Ty:=(.pair (.sl af) (.pair (.int .i64) (.pair (.int .i64) .str)))
abbrev al:Type:=(List ai×(Int×(Int×ByteArray)))
abbrev bC:Ty:=(.pair (.int .i64) (.pair (.int .i64) (.pair (.int .i64) (.pair (.int .i64) (.pair (.int .i64) (.sl .str))))))
abbrev cg:Type:=(Int×(Int×(Int×(Int×(Int×List ByteArray)))))
abbrev ay:Ty:=(.pair (.int .i64) (.sl ab))
abbrev aZ:Type:=(Int×List al)
abbrev aU:Ty:=(.pair (.sl ab) .bool)
abbrev bF:Type:=(List al×Bool)
abbrev ak:Ty:=(.pair (.int .i64) (.pair (.int .i64) (.sl ay)))
abbrev aG:Type:=(Int×(Int×List aZ))
abbrev aN:Ty:=(.pair (.int .i64) (.pair (.sl af) ay))
abbrev bz:Type:=(Int×(List ai×aZ))
abbrev aj:Ty:=(.pair (.int .i64) (.pair (.sl af) (.pair (.int .i64) ay)))
abbrev aJ:Type:=(Int×(List ai×(Int×aZ)))
abbrev ah:Ty:=(.pair (.int .i64) (.pair (.int .i64) (.pair ab (.pair (.sl af) (.pair (.int .i64) (.pair (.sl (.int .i64)) (.pair (.sl ab) aC)))))))
abbrev aL:Type:=(Int×(Int×(al×(List ai×(Int×(List Int×(List al×bl)))))))
abbrev aq:Ty:=(.pair (.int .i64) (.pair (.int .i64) (.pair ab (.pair (.sl af) (.pair (.int .i64) (.pair (.int .i64) (.pair (.int .i64) (.pair (.sl ab) (.pair (.int .i64) (.pair (.int .i64) aC))))))))))
abbrev bg:Type:=(Int×(Int×(al×(List ai×(Int×(Int×(Int×(List al×(Int×(Int×bl))))))))))
abbrev aE:Ty:=(.pair bC (.pair (.int .i64) (.pair (.int .i64) (.pair (.sl ak) (.pair (.sl aU) (.pair (.sl ab) (.pair (.int .i64) (.pair (.sl aj) (.pair (.int .i64) (.pair (.sl aC) (.pair (.sl aN) (.pair (.sl ab) (.pair (.sl ah) (.sl aq))))))))))))))
abbrev ar:Type:=(cg×(Int×(Int×(List aG×(List bF×(List al×(Int×(List aJ×(Int×(List bl×(List bz×(List al×(List aL×List bg)))))))))))))
def pq (k:Nat) (x:List ByteArray×ByteArray×Unit):Option (ByteArray×Unit):=xp x
def ko (k:Nat) (x:List al×Unit):Option (List al×Unit):=s9 x
def nj (k:Nat) (x:List ByteArray×Int×Unit):Option (Int×Unit):=
 if(decide (((IntKind.i64.wrap (x.2.1-((List.length x.1:Nat):Int))):Int)<(0:Int)))=true then
  some ((-1:Int),())
 else
  az k (fun G1 (t2:List ByteArray×Int×Int×Unit)=>
   if(decide ((t2.2.2.1:Int)<((List.length t2.1:Nat):Int)))=true then
    if(decide (0≤t2.2.2.1∧t2.2.2.1<((List.length t2.1:Nat):Int)))=true then
     if(decide (((IntKind.i64.wrap (t2.2.1-((ByteArray.size (List.getD t2.1 (Int.toNat t2.2.2.1) ByteArray.empty):Nat):Int))):Int)<(0:Int)))=true then
      some ((-1:Int),())
     else
      G1 (t2.1,IntKind.i64.wrap (t2.2.1-((ByteArray.size (List.getD t2.1 (Int.toNat t2.2.2.1) ByteArray.empty):Nat):Int)),IntKind.i64.wrap (t2.2.2.1+(1:Int)),())
    else
     none
   else
    some (t2.2.1,())) (x.1,IntKind.i64.wrap (x.2.1-((List.length x.1:Nat):Int)),(0:Int),())
def mK (k:Nat) (x:cg×Int×Unit):Option (Int×Unit):=
 Option.bind (nj k (x.1.2.2.2.2.2,x.2.1,())) fun r1=>
 if(decide ((r1.1:Int)<(0:Int)))=true then
  some ((-1:Int),())
 else
  some (r1.1,())
def iw (k:Nat) (x:ai×Int×Unit):Option (Int×Unit):=
 if(decide (((IntKind.i64.wrap (x.2.1-((ByteArray.size x.1.1:Nat):Int))):Int)<(0:Int)))=true then
  some ((-1:Int),())
 else
  if(decide (((IntKind.i64.wrap ((IntKind.i64.wrap (x.2.1-((ByteArray.size x.1.1:Nat):Int)))-((ByteArray.size x.1.2:Nat):Int))):Int)<(0:Int)))=true then
   some ((-1:Int),())
  else
   some (IntKind.i64.wrap ((IntKind.i64.wrap (x.2.1-((ByteArray.size x.1.1:Nat):Int)))-((ByteArray.size x.1.2:Nat):Int)),())
def dX (k:Nat) (x:List ai×Int×Unit):Option (Int×Unit):=
 if(decide (((IntKind.i64.wrap (x.2.1-((List.length x.1:Nat):Int))):Int)<(0:Int)))=true then
  some ((-1:Int),())
 else
  az k (fun G1 (t2:List ai×Int×Int×Unit)=>
   if(decide ((t2.2.2.1:Int)<((List.length t2.1:Nat):Int)))=true then
    if(decide (0≤t2.2.2.1∧t2.2.2.1<((List.length t2.1:Nat):Int)))=true then
     Option.bind (iw k (List.getD t2.1 (Int.toNat t2.2.2.1) af.aa,t2.2.1,())) fun r3=>
     if(decide ((r3.1:Int)<(0:Int)))=true then
      some ((-1:Int),())
     else
      G1 (t2.1,r3.1,IntKind.i64.wrap (t2.2.2.1+(1:Int)),())
    else
     none
   else
    some (t2.2.1,())) (x.1,IntKind.i64.wrap (x.2.1-((List.length x.1:Nat):Int)),(0:Int),())
def eV (k:Nat) (x:al×Int×Unit):Option (Int×Unit):=
 Option.bind (dX k (x.1.1,x.2.1,())) fun r1=>
 if(decide ((r1.1:Int)<(0:Int)))=true then
  some ((-1:Int),())
 else
  if(decide (((IntKind.i64.wrap (r1.1-((ByteArray.size x.1.2.2.2:Nat):Int))):Int)<(0:Int)))=true then
   some ((-1:Int),())
  else
   some (IntKind.i64.wrap (r1.1-((ByteArray.size x.1.2.2.2:Nat):Int)),())
def de (k:Nat) (x:List al×Int×Unit):Option (Int×Unit):=
 if(decide (((IntKind.i64.wrap (x.2.1-((List.length x.1:Nat):Int))):Int)<(0:Int)))=true then
  some ((-1:Int),())
 else
  az k (fun G1 (t2:List al×Int×Int×Unit)=>
   if(decide ((t2.2.2.1:Int)<((List.length t2.1:Nat):Int)))=true then
    if(decide (0≤t2.2.2.1∧t2.2.2.1<((List.length t2.1:Nat):Int)))=true then
     Option.bind (eV k (List.getD t2.1 (Int.toNat t2.2.2.1) ab.aa,t2.2.1,())) fun r3=>
     if(decide ((r3.1:Int)<(0:Int)))=true then
      some ((-1:Int),())
     else
      G1 (t2.1,r3.1,IntKind.i64.wrap (t2.2.2.1+(1:Int)),())
    else
     none
   else
    some (t2.2.1,())) (x.1,IntKind.i64.wrap (x.2.1-((List.length x.1:Nat):Int)),(0:Int),())
def iJ (k:Nat) (x:aZ×Int×Unit):Option (Int×Unit):=
 Option.bind (de k (x.1.2,x.2.1,())) fun r1=>
 if(decide ((r1.1:Int)<(0:Int)))=true then
  some ((-1:Int),())
 else
  some (r1.1,())
def oD (k:Nat) (x:List aZ×Int×Unit):Option (Int×Unit):=
 if(decide (((IntKind.i64.wrap (x.2.1-((List.length x.1:Nat):Int))):Int)<(0:Int)))=true then
  some ((-1:Int),())
 else
  az k (fun G1 (t2:List aZ×Int×Int×Unit)=>
   if(decide ((t2.2.2.1:Int)<((List.length t2.1:Nat):Int)))=true then
    if(decide (0≤t2.2.2.1∧t2.2.2.1<((List.length t2.1:Nat):Int)))=true then
     Option.bind (iJ k (List.getD t2.1 (Int.toNat t2.2.2.1) ay.aa,t2.2.1,())) fun r3=>
     if(decide ((r3.1:Int)<(0:Int)))=true then
      some ((-1:Int),())
     else
      G1 (t2.1,r3.1,IntKind.i64.wrap (t2.2.2.1+(1:Int)),())
    else
     none
   else
    some (t2.2.1,())) (x.1,IntKind.i64.wrap (x.2.1-((List.length x.1:Nat):Int)),(0:Int),())
def jN (k:Nat) (x:aG×Int×Unit):Option (Int×Unit):=
 Option.bind (oD k (x.1.2.2,x.2.1,())) fun r1=>
 if(decide ((r1.1:Int)<(0:Int)))=true then
  some ((-1:Int),())
 else
  some (r1.1,())
def pw (k:Nat) (x:List aG×Int×Unit):Option (Int×Unit):=
 if(decide (((IntKind.i64.wrap (x.2.1-((List.length x.1:Nat):Int))):Int)<(0:Int)))=true then
  some ((-1:Int),())
 else
  az k (fun G1 (t2:List aG×Int×Int×Unit)=>
   if(decide ((t2.2.2.1:Int)<((List.length t2.1:Nat):Int)))=true then
    if(decide (0≤t2.2.2.1∧t2.2.2.1<((List.length t2.1:Nat):Int)))=true then
     Option.bind (jN k (List.getD t2.1 (Int.toNat t2.2.2.1) ak.aa,t2.2.1,())) fun r3=>
     if(decide ((r3.1:Int)<(0:Int)))=true then
      some ((-1:Int),())
     else
      G1 (t2.1,r3.1,IntKind.i64.wrap (t2.2.2.1+(1:Int)),())
    else
     none
   else
    some (t2.2.1,())) (x.1,IntKind.i64.wrap (x.2.1-((List.length x.1:Nat):Int)),(0:Int),())
def k9 (k:Nat) (x:bF×Int×Unit):Option (Int×Unit):=
 Option.bind (de k (x.1.1,x.2.1,())) fun r1=>
 if(decide ((r1.1:Int)<(0:Int)))=true then
  some ((-1:Int),())
 else
  some (r1.1,())
def qC (k:Nat) (x:List bF×Int×Unit):Option (Int×Unit):=
 if(decide (((IntKind.i64.wrap (x.2.1-((List.length x.1:Nat):Int))):Int)<(0:Int)))=true then
  some ((-1:Int),())
 else
  az k (fun G1 (t2:List bF×Int×Int×Unit)=>
   if(decide ((t2.2.2.1:Int)<((List.length t2.1:Nat):Int)))=true then
    if(decide (0≤t2.2.2.1∧t2.2.2.1<((List.length t2.1:Nat):Int)))=true then
     Option.bind (k9 k (List.getD t2.1 (Int.toNat t2.2.2.1) aU.aa,t2.2.1,())) fun r3=>
     if(decide ((r3.1:Int)<(0:Int)))=true then
      some ((-1:Int),())
     else
      G1 (t2.1,r3.1,IntKind.i64.wrap (t2.2.2.1+(1:Int)),())
    else
     none
   else
    some (t2.2.1,())) (x.1,IntKind.i64.wrap (x.2.1-((List.length x.1:Nat):Int)),(0:Int),())
def iN (k:Nat) (x:aJ×Int×Unit):Option (Int×Unit):=
 Option.bind (dX k (x.1.2.1,x.2.1,())) fun r1=>
 if(decide ((r1.1:Int)<(0:Int)))=true then
  some ((-1:Int),())
 else
  Option.bind (de k (x.1.2.2.2.2,r1.1,())) fun r2=>
  if(decide ((r2.1:Int)<(0:Int)))=true then
   some ((-1:Int),())
  else
   some (r2.1,())
def oE (k:Nat) (x:List aJ×Int×Unit):Option (Int×Unit):=
 if(decide (((IntKind.i64.wrap (x.2.1-((List.length x.1:Nat):Int))):Int)<(0:Int)))=true then
  some ((-1:Int),())
 else
  az k (fun G1 (t2:List aJ×Int×Int×Unit)=>
   if(decide ((t2.2.2.1:Int)<((List.length t2.1:Nat):Int)))=true then
    if(decide (0≤t2.2.2.1∧t2.2.2.1<((List.length t2.1:Nat):Int)))=true then
     Option.bind (iN k (List.getD t2.1 (Int.toNat t2.2.2.1) aj.aa,t2.2.1,())) fun r3=>
     if(decide ((r3.1:Int)<(0:Int)))=true then
      some ((-1:Int),())
     else
      G1 (t2.1,r3.1,IntKind.i64.wrap (t2.2.2.1+(1:Int)),())
    else
     none
   else
    some (t2.2.1,())) (x.1,IntKind.i64.wrap (x.2.1-((List.length x.1:Nat):Int)),(0:Int),())
def kB (k:Nat) (x:List bl×Int×Unit):Option (Int×Unit):=
 if(decide (((IntKind.i64.wrap (x.2.1-((List.length x.1:Nat):Int))):Int)<(0:Int)))=true then
  some ((-1:Int),())
 else
  some (IntKind.i64.wrap (x.2.1-((List.length x.1:Nat):Int)),())
def iE (k:Nat) (x:bz×Int×Unit):Option (Int×Unit):=
 Option.bind (dX k (x.1.2.1,x.2.1,())) fun r1=>
 if(decide ((r1.1:Int)<(0:Int)))=true then
  some ((-1:Int),())
 else
  Option.bind (de k (x.1.2.2.2,r1.1,())) fun r2=>
  if(decide ((r2.1:Int)<(0:Int)))=true then
   some ((-1:Int),())
  else
   some (r2.1,())
def oH (k:Nat) (x:List bz×Int×Unit):Option (Int×Unit):=
 if(decide (((IntKind.i64.wrap (x.2.1-((List.length x.1:Nat):Int))):Int)<(0:Int)))=true then
  some ((-1:Int),())
 else
  az k (fun G1 (t2:List bz×Int×Int×Unit)=>
   if(decide ((t2.2.2.1:Int)<((List.length t2.1:Nat):Int)))=true then
    if(decide (0≤t2.2.2.1∧t2.2.2.1<((List.length t2.1:Nat):Int)))=true then
     Option.bind (iE k (List.getD t2.1 (Int.toNat t2.2.2.1) aN.aa,t2.2.1,())) fun r3=>
     if(decide ((r3.1:Int)<(0:Int)))=true then
      some ((-1:Int),())
     else
      G1 (t2.1,r3.1,IntKind.i64.wrap (t2.2.2.1+(1:Int)),())
    else
     none
   else
    some (t2.2.1,())) (x.1,IntKind.i64.wrap (x.2.1-((List.length x.1:Nat):Int)),(0:Int),())
def mY (k:Nat) (x:List Int×Int×Unit):Option (Int×Unit):=
 if(decide (((IntKind.i64.wrap (x.2.1-((List.length x.1:Nat):Int))):Int)<(0:Int)))=true then
  some ((-1:Int),())
 else
  some (IntKind.i64.wrap (x.2.1-((List.length x.1:Nat):Int)),())
def jM (k:Nat) (x:aL×Int×Unit):Option (Int×Unit):=
 Option.bind (eV k (x.1.2.2.1,x.2.1,())) fun r1=>
 if(decide ((r1.1:Int)<(0:Int)))=true then
  some ((-1:Int),())
 else
  Option.bind (dX k (x.1.2.2.2.1,r1.1,())) fun r2=>
  if(decide ((r2.1:Int)<(0:Int)))=true then
   some ((-1:Int),())
  else
   Option.bind (mY k (x.1.2.2.2.2.2.1,r2.1,())) fun r3=>
   if(decide ((r3.1:Int)<(0:Int)))=true then
    some ((-1:Int),())
   else
    Option.bind (de k (x.1.2.2.2.2.2.2.1,r3.1,())) fun r4=>
    if(decide ((r4.1:Int)<(0:Int)))=true then
     some ((-1:Int),())
    else
     some (r4.1,())
def pB (k:Nat) (x:List aL×Int×Unit):Option (Int×Unit):=
 if(decide (((IntKind.i64.wrap (x.2.1-((List.length x.1:Nat):Int))):Int)<(0:Int)))=true then
  some ((-1:Int),())
 else
  az k (fun G1 (t2:List aL×Int×Int×Unit)=>
   if(decide ((t2.2.2.1:Int)<((List.length t2.1:Nat):Int)))=true then
    if(decide (0≤t2.2.2.1∧t2.2.2.1<((List.length t2.1:Nat):Int)))=true then
     Option.bind (jM k (List.getD t2.1 (Int.toNat t2.2.2.1) ah.aa,t2.2.1,())) fun r3=>
     if(decide ((r3.1:Int)<(0:Int)))=true then
      some ((-1:Int),())
     else
      G1 (t2.1,r3.1,IntKind.i64.wrap (t2.2.2.1+(1:Int)),())
    else
     none
   else
    some (t2.2.1,())) (x.1,IntKind.i64.wrap (x.2.1-((List.length x.1:Nat):Int)),(0:Int),())
def jJ (k:Nat) (x:bg×Int×Unit):Option (Int×Unit):=
 Option.bind (eV k (x.1.2.2.1,x.2.1,())) fun r1=>
 if(decide ((r1.1:Int)<(0:Int)))=true then
  some ((-1:Int),())
 else
  Option.bind (dX k (x.1.2.2.2.1,r1.1,())) fun r2=>
  if(decide ((r2.1:Int)<(0:Int)))=true then
   some ((-1:Int),())
  else
   Option.bind (de k (x.1.2.2.2.2.2.2.2.1,r2.1,())) fun r3=>
   if(decide ((r3.1:Int)<(0:Int)))=true then
    some ((-1:Int),())
   else
    some (r3.1,())
def pv (k:Nat) (x:List bg×Int×Unit):Option (Int×Unit):=
 if(decide (((IntKind.i64.wrap (x.2.1-((List.length x.1:Nat):Int))):Int)<(0:Int)))=true then
  some ((-1:Int),())
 else
  az k (fun G1 (t2:List bg×Int×Int×Unit)=>
   if(decide ((t2.2.2.1:Int)<((List.length t2.1:Nat):Int)))=true then
    if(decide (0≤t2.2.2.1∧t2.2.2.1<((List.length t2.1:Nat):Int)))=true then
     Option.bind (jJ k (List.getD t2.1 (Int.toNat t2.2.2.1) aq.aa,t2.2.1,())) fun r3=>
     if(decide ((r3.1:Int)<(0:Int)))=true then
      some ((-1:Int),())
     else
      G1 (t2.1,r3.1,IntKind.i64.wrap (t2.2.2.1+(1:Int)),())
    else
     none
   else
    some (t2.2.1,())) (x.1,IntKind.i64.wrap (x.2.1-((List.length x.1:Nat):Int)),(0:Int),())
def lR (k:Nat) (x:ar×Int×Unit):Option (Int×Unit):=
 Option.bind (mK k (x.1.1,x.2.1,())) fun r1=>
 if(decide ((r1.1:Int)<(0:Int)))=true then
  some ((-1:Int),())
 else
  Option.bind (pw k (x.1.2.2.2.1,r1.1,())) fun r2=>
  if(decide ((r2.1:Int)<(0:Int)))=true then
   some ((-1:Int),())
  else
   Option.bind (qC k (x.1.2.2.2.2.1,r2.1,())) fun r3=>
   if(decide ((r3.1:Int)<(0:Int)))=true then
    some ((-1:Int),())
   else
    Option.bind (de k (x.1.2.2.2.2.2.1,r3.1,())) fun r4=>
    if(decide ((r4.1:Int)<(0:Int)))=true then
     some ((-1:Int),())
    else
     Option.bind (oE k (x.1.2.2.2.2.2.2.2.1,r4.1,())) fun r5=>
     if(decide ((r5.1:Int)<(0:Int)))=true then
      some ((-1:Int),())
     else
      Option.bind (kB k (x.1.2.2.2.2.2.2.2.2.2.1,r5.1,())) fun r6=>
      if(decide ((r6.1:Int)<(0:Int)))=true then
       some ((-1:Int),())
      else
       Option.bind (oH k (x.1.2.2.2.2.2.2.2.2.2.2.1,r6.1,())) fun r7=>
       if(decide ((r7.1:Int)<(0:Int)))=true then
        some ((-1:Int),())
       else
        Option.bind (de k (x.1.2.2.2.2.2.2.2.2.2.2.2.1,r7.1,())) fun r8=>
        if(decide ((r8.1:Int)<(0:Int)))=true then
         some ((-1:Int),())
        else
         Option.bind (pB k (x.1.2.2.2.2.2.2.2.2.2.2.2.2.1,r8.1,())) fun r9=>
         if(decide ((r9.1:Int)<(0:Int)))=true then
          some ((-1:Int),())
         else
          Option.bind (pv k (x.1.2.2.2.2.2.2.2.2.2.2.2.2.2,r9.1,())) fun r10=>
          if(decide ((r10.1:Int)<(0:Int)))=true then
           some ((-1:Int),())
          else
           some (r10.1,())
def nD (k:Nat) (x:List ByteArray×Unit):Option (List ByteArray×Unit):=
 if(decide (0≤((List.length x.1:Nat):Int)∧((List.length x.1:Nat):Int)<4294967296∧((List.length x.1:Nat):Int)=((List.length x.1:Nat):Int)))=true then
  az k (fun G1 (t2:List ByteArray×List ByteArray×Int×Unit)=>
   if(decide ((t2.2.2.1:Int)<((List.length t2.1:Nat):Int)))=true then
    if(decide (0≤t2.2.2.1∧t2.2.2.1<((List.length t2.1:Nat):Int)))=true then
     if(decide (0≤t2.2.2.1∧t2.2.2.1<((List.length t2.2.1:Nat):Int)))=true then
      G1 (t2.1,List.set t2.2.1 (Int.toNat t2.2.2.1) (List.getD t2.1 (Int.toNat t2.2.2.1) ByteArray.empty),IntKind.i64.wrap (t2.2.2.1+(1:Int)),())
     else
      none
    else
     none
   else
    some (t2.2.1,())) (x.1,List.replicate (Int.toNat ((List.length x.1:Nat):Int)) ByteArray.empty,(0:Int),())
 else
  none
def mW (k:Nat) (x:cg×Unit):Option (cg×Unit):=
 Option.bind (nD k (x.1.2.2.2.2.2,())) fun r1=>
 some ((x.1.1,x.1.2.1,x.1.2.2.1,x.1.2.2.2.1,x.1.2.2.2.2.1,r1.1),())
def iU (k:Nat) (x:ai×Unit):Option (ai×Unit):=
 some (x.1,())
def cO (k:Nat) (x:List ai×Unit):Option (List ai×Unit):=
 if(decide (0≤((List.length x.1:Nat):Int)∧((List.length x.1:Nat):Int)<4294967296∧((List.length x.1:Nat):Int)=((List.length x.1:Nat):Int)))=true then
  az k (fun G1 (t2:List ai×List ai×Int×Unit)=>
   if(decide ((t2.2.2.1:Int)<((List.length t2.1:Nat):Int)))=true then
    if(decide (0≤t2.2.2.1∧t2.2.2.1<((List.length t2.1:Nat):Int)))=true then
     Option.bind (iU k (List.getD t2.1 (Int.toNat t2.2.2.1) af.aa,())) fun r3=>
     if(decide (0≤t2.2.2.1∧t2.2.2.1<((List.length t2.2.1:Nat):Int)))=true then
      G1 (t2.1,List.set t2.2.1 (Int.toNat t2.2.2.1) r3.1,IntKind.i64.wrap (t2.2.2.1+(1:Int)),())
     else
      none
    else
     none
   else
    some (t2.2.1,())) (x.1,List.replicate (Int.toNat ((List.length x.1:Nat):Int)) af.aa,(0:Int),())
 else
  none
def eR (k:Nat) (x:al×Unit):Option (al×Unit):=
 Option.bind (cO k (x.1.1,())) fun r1=>
 some ((r1.1,x.1.2),())
def da (k:Nat) (x:List al×Unit):Option (List al×Unit):=
 if(decide (0≤((List.length x.1:Nat):Int)∧((List.length x.1:Nat):Int)<4294967296∧((List.length x.1:Nat):Int)=((List.length x.1:Nat):Int)))=true then
  az k (fun G1 (t2:List al×List al×Int×Unit)=>
   if(decide ((t2.2.2.1:Int)<((List.length t2.1:Nat):Int)))=true then
    if(decide (0≤t2.2.2.1∧t2.2.2.1<((List.length t2.1:Nat):Int)))=true then
     Option.bind (eR k (List.getD t2.1 (Int.toNat t2.2.2.1) ab.aa,())) fun r3=>
     if(decide (0≤t2.2.2.1∧t2.2.2.1<((List.length t2.2.1:Nat):Int)))=true then
      G1 (t2.1,List.set t2.2.1 (Int.toNat t2.2.2.1) r3.1,IntKind.i64.wrap (t2.2.2.1+(1:Int)),())
     else
      none
    else
     none
   else
    some (t2.2.1,())) (x.1,List.replicate (Int.toNat ((List.length x.1:Nat):Int)) ab.aa,(0:Int),())
 else
  none
def iX (k:Nat) (x:aZ×Unit):Option (aZ×Unit):=
 Option.bind (da k (x.1.2,())) fun r1=>
 some ((x.1.1,r1.1),())
def oh (k:Nat) (x:List aZ×Unit):Option (List aZ×Unit):=
 if(decide (0≤((List.length x.1:Nat):Int)∧((List.length x.1:Nat):Int)<4294967296∧((List.length x.1:Nat):Int)=((List.length x.1:Nat):Int)))=true then
  az k (fun G1 (t2:List aZ×List aZ×Int×Unit)=>
   if(decide ((t2.2.2.1:Int)<((List.length t2.1:Nat):Int)))=true then
    if(decide (0≤t2.2.2.1∧t2.2.2.1<((List.length t2.1:Nat):Int)))=true then
     Option.bind (iX k (List.getD t2.1 (Int.toNat t2.2.2.1) ay.aa,())) fun r3=>
     if(decide (0≤t2.2.2.1∧t2.2.2.1<((List.length t2.2.1:Nat):Int)))=true then
      G1 (t2.1,List.set t2.2.1 (Int.toNat t2.2.2.1) r3.1,IntKind.i64.wrap (t2.2.2.1+(1:Int)),())
     else
      none
    else
     none
   else
    some (t2.2.1,())) (x.1,List.replicate (Int.toNat ((List.length x.1:Nat):Int)) ay.aa,(0:Int),())
 else
  none
def jF (k:Nat) (x:aG×Unit):Option (aG×Unit):=
 Option.bind (oh k (x.1.2.2,())) fun r1=>
 some ((x.1.1,x.1.2.1,r1.1),())
def pA (k:Nat) (x:List aG×Unit):Option (List aG×Unit):=
 if(decide (0≤((List.length x.1:Nat):Int)∧((List.length x.1:Nat):Int)<4294967296∧((List.length x.1:Nat):Int)=((List.length x.1:Nat):Int)))=true then
  az k (fun G1 (t2:List aG×List aG×Int×Unit)=>
   if(decide ((t2.2.2.1:Int)<((List.length t2.1:Nat):Int)))=true then
    if(decide (0≤t2.2.2.1∧t2.2.2.1<((List.length t2.1:Nat):Int)))=true then
     Option.bind (jF k (List.getD t2.1 (Int.toNat t2.2.2.1) ak.aa,())) fun r3=>
     if(decide (0≤t2.2.2.1∧t2.2.2.1<((List.length t2.2.1:Nat):Int)))=true then
      G1 (t2.1,List.set t2.2.1 (Int.toNat t2.2.2.1) r3.1,IntKind.i64.wrap (t2.2.2.1+(1:Int)),())
     else
      none
    else
     none
   else
    some (t2.2.1,())) (x.1,List.replicate (Int.toNat ((List.length x.1:Nat):Int)) ak.aa,(0:Int),())
 else
  none
def lp (k:Nat) (x:bF×Unit):Option (bF×Unit):=
 Option.bind (da k (x.1.1,())) fun r1=>
 some ((r1.1,x.1.2),())
def qA (k:Nat) (x:List bF×Unit):Option (List bF×Unit):=
 if(decide (0≤((List.length x.1:Nat):Int)∧((List.length x.1:Nat):Int)<4294967296∧((List.length x.1:Nat):Int)=((List.length x.1:Nat):Int)))=true then
  az k (fun G1 (t2:List bF×List bF×Int×Unit)=>
   if(decide ((t2.2.2.1:Int)<((List.length t2.1:Nat):Int)))=true then
    if(decide (0≤t2.2.2.1∧t2.2.2.1<((List.length t2.1:Nat):Int)))=true then
     Option.bind (lp k (List.getD t2.1 (Int.toNat t2.2.2.1) aU.aa,())) fun r3=>
     if(decide (0≤t2.2.2.1∧t2.2.2.1<((List.length t2.2.1:Nat):Int)))=true then
      G1 (t2.1,List.set t2.2.1 (Int.toNat t2.2.2.1) r3.1,IntKind.i64.wrap (t2.2.2.1+(1:Int)),())
     else
      none
    else
     none
   else
    some (t2.2.1,())) (x.1,List.replicate (Int.toNat ((List.length x.1:Nat):Int)) aU.aa,(0:Int),())
 else
  none
def iG (k:Nat) (x:aJ×Unit):Option (aJ×Unit):=
 Option.bind (cO k (x.1.2.1,())) fun r1=>
 Option.bind (da k (x.1.2.2.2.2,())) fun r2=>
 some ((x.1.1,r1.1,x.1.2.2.1,x.1.2.2.2.1,r2.1),())
def oC (k:Nat) (x:List aJ×Unit):Option (List aJ×Unit):=
 if(decide (0≤((List.length x.1:Nat):Int)∧((List.length x.1:Nat):Int)<4294967296∧((List.length x.1:Nat):Int)=((List.length x.1:Nat):Int)))=true then
  az k (fun G1 (t2:List aJ×List aJ×Int×Unit)=>
   if(decide ((t2.2.2.1:Int)<((List.length t2.1:Nat):Int)))=true then
    if(decide (0≤t2.2.2.1∧t2.2.2.1<((List.length t2.1:Nat):Int)))=true then
     Option.bind (iG k (List.getD t2.1 (Int.toNat t2.2.2.1) aj.aa,())) fun r3=>
     if(decide (0≤t2.2.2.1∧t2.2.2.1<((List.length t2.2.1:Nat):Int)))=true then
      G1 (t2.1,List.set t2.2.1 (Int.toNat t2.2.2.1) r3.1,IntKind.i64.wrap (t2.2.2.1+(1:Int)),())
     else
      none
    else
     none
   else
    some (t2.2.1,())) (x.1,List.replicate (Int.toNat ((List.length x.1:Nat):Int)) aj.aa,(0:Int),())
 else
  none
def iV (k:Nat) (x:bl×Unit):Option (bl×Unit):=
 some (x.1,())
def ot (k:Nat) (x:List bl×Unit):Option (List bl×Unit):=
 if(decide (0≤((List.length x.1:Nat):Int)∧((List.length x.1:Nat):Int)<4294967296∧((List.length x.1:Nat):Int)=((List.length x.1:Nat):Int)))=true then
  az k (fun G1 (t2:List bl×List bl×Int×Unit)=>
   if(decide ((t2.2.2.1:Int)<((List.length t2.1:Nat):Int)))=true then
    if(decide (0≤t2.2.2.1∧t2.2.2.1<((List.length t2.1:Nat):Int)))=true then
     Option.bind (iV k (List.getD t2.1 (Int.toNat t2.2.2.1) aC.aa,())) fun r3=>
     if(decide (0≤t2.2.2.1∧t2.2.2.1<((List.length t2.2.1:Nat):Int)))=true then
      G1 (t2.1,List.set t2.2.1 (Int.toNat t2.2.2.1) r3.1,IntKind.i64.wrap (t2.2.2.1+(1:Int)),())
     else
      none
    else
     none
   else
    some (t2.2.1,())) (x.1,List.replicate (Int.toNat ((List.length x.1:Nat):Int)) aC.aa,(0:Int),())
 else
  none
def iq (k:Nat) (x:bz×Unit):Option (bz×Unit):=
 Option.bind (cO k (x.1.2.1,())) fun r1=>
 Option.bind (da k (x.1.2.2.2,())) fun r2=>
 some ((x.1.1,r1.1,x.1.2.2.1,r2.1),())
def oJ (k:Nat) (x:List bz×Unit):Option (List bz×Unit):=
 if(decide (0≤((List.length x.1:Nat):Int)∧((List.length x.1:Nat):Int)<4294967296∧((List.length x.1:Nat):Int)=((List.length x.1:Nat):Int)))=true then
  az k (fun G1 (t2:List bz×List bz×Int×Unit)=>
   if(decide ((t2.2.2.1:Int)<((List.length t2.1:Nat):Int)))=true then
    if(decide (0≤t2.2.2.1∧t2.2.2.1<((List.length t2.1:Nat):Int)))=true then
     Option.bind (iq k (List.getD t2.1 (Int.toNat t2.2.2.1) aN.aa,())) fun r3=>
     if(decide (0≤t2.2.2.1∧t2.2.2.1<((List.length t2.2.1:Nat):Int)))=true then
      G1 (t2.1,List.set t2.2.1 (Int.toNat t2.2.2.1) r3.1,IntKind.i64.wrap (t2.2.2.1+(1:Int)),())
     else
      none
    else
     none
   else
    some (t2.2.1,())) (x.1,List.replicate (Int.toNat ((List.length x.1:Nat):Int)) aN.aa,(0:Int),())
 else
  none
def qz (k:Nat) (x:List Int×Unit):Option (List Int×Unit):=
 if(decide (0≤((List.length x.1:Nat):Int)∧((List.length x.1:Nat):Int)<4294967296∧((List.length x.1:Nat):Int)=((List.length x.1:Nat):Int)))=true then
  az k (fun G1 (t2:List Int×List Int×Int×Unit)=>
   if(decide ((t2.2.2.1:Int)<((List.length t2.1:Nat):Int)))=true then
    if(decide (0≤t2.2.2.1∧t2.2.2.1<((List.length t2.1:Nat):Int)))=true then
     if(decide (0≤t2.2.2.1∧t2.2.2.1<((List.length t2.2.1:Nat):Int)))=true then
      G1 (t2.1,List.set t2.2.1 (Int.toNat t2.2.2.1) (List.getD t2.1 (Int.toNat t2.2.2.1) 0),IntKind.i64.wrap (t2.2.2.1+(1:Int)),())
     else
      none
    else
     none
   else
    some (t2.2.1,())) (x.1,List.replicate (Int.toNat ((List.length x.1:Nat):Int)) 0,(0:Int),())
 else
  none
def jV (k:Nat) (x:aL×Unit):Option (aL×Unit):=
 Option.bind (eR k (x.1.2.2.1,())) fun r1=>
 Option.bind (cO k (x.1.2.2.2.1,())) fun r2=>
 Option.bind (qz k (x.1.2.2.2.2.2.1,())) fun r3=>
 Option.bind (da k (x.1.2.2.2.2.2.2.1,())) fun r4=>
 some ((x.1.1,x.1.2.1,r1.1,r2.1,x.1.2.2.2.2.1,r3.1,r4.1,x.1.2.2.2.2.2.2.2),())
def pJ (k:Nat) (x:List aL×Unit):Option (List aL×Unit):=
 if(decide (0≤((List.length x.1:Nat):Int)∧((List.length x.1:Nat):Int)<4294967296∧((List.length x.1:Nat):Int)=((List.length x.1:Nat):Int)))=true then
  az k (fun G1 (t2:List aL×List aL×Int×Unit)=>
   if(decide ((t2.2.2.1:Int)<((List.length t2.1:Nat):Int)))=true then
    if(decide (0≤t2.2.2.1∧t2.2.2.1<((List.length t2.1:Nat):Int)))=true then
     Option.bind (jV k (List.getD t2.1 (Int.toNat t2.2.2.1) ah.aa,())) fun r3=>
     if(decide (0≤t2.2.2.1∧t2.2.2.1<((List.length t2.2.1:Nat):Int)))=true then
      G1 (t2.1,List.set t2.2.1 (Int.toNat t2.2.2.1) r3.1,IntKind.i64.wrap (t2.2.2.1+(1:Int)),())
     else
      none
    else
     none
   else
    some (t2.2.1,())) (x.1,List.replicate (Int.toNat ((List.length x.1:Nat):Int)) ah.aa,(0:Int),())
 else
  none
def jB (k:Nat) (x:bg×Unit):Option (bg×Unit):=
 Option.bind (eR k (x.1.2.2.1,())) fun r1=>
 Option.bind (cO k (x.1.2.2.2.1,())) fun r2=>
 Option.bind (da k (x.1.2.2.2.2.2.2.2.1,())) fun r3=>
 some ((x.1.1,x.1.2.1,r1.1,r2.1,x.1.2.2.2.2.1,x.1.2.2.2.2.2.1,x.1.2.2.2.2.2.2.1,r3.1,x.1.2.2.2.2.2.2.2.2),())
def o9 (k:Nat) (x:List bg×Unit):Option (List bg×Unit):=
 if(decide (0≤((List.length x.1:Nat):Int)∧((List.length x.1:Nat):Int)<4294967296∧((List.length x.1:Nat):Int)=((List.length x.1:Nat):Int)))=true then
  az k (fun G1 (t2:List bg×List bg×Int×Unit)=>
   if(decide ((t2.2.2.1:Int)<((List.length t2.1:Nat):Int)))=true then
    if(decide (0≤t2.2.2.1∧t2.2.2.1<((List.length t2.1:Nat):Int)))=true then
     Option.bind (jB k (List.getD t2.1 (Int.toNat t2.2.2.1) aq.aa,())) fun r3=>
     if(decide (0≤t2.2.2.1∧t2.2.2.1<((List.length t2.2.1:Nat):Int)))=true then
      G1 (t2.1,List.set t2.2.1 (Int.toNat t2.2.2.1) r3.1,IntKind.i64.wrap (t2.2.2.1+(1:Int)),())
     else
      none
    else
     none
   else
    some (t2.2.1,())) (x.1,List.replicate (Int.toNat ((List.length x.1:Nat):Int)) aq.aa,(0:Int),())
 else
  none
def eP (k:Nat) (x:ar×Unit):Option (ar×Unit):=
 Option.bind (mW k (x.1.1,())) fun r1=>
 Option.bind (pA k (x.1.2.2.2.1,())) fun r2=>
 Option.bind (qA k (x.1.2.2.2.2.1,())) fun r3=>
 Option.bind (da k (x.1.2.2.2.2.2.1,())) fun r4=>
 Option.bind (oC k (x.1.2.2.2.2.2.2.2.1,())) fun r5=>
 Option.bind (ot k (x.1.2.2.2.2.2.2.2.2.2.1,())) fun r6=>
 Option.bind (oJ k (x.1.2.2.2.2.2.2.2.2.2.2.1,())) fun r7=>
 Option.bind (da k (x.1.2.2.2.2.2.2.2.2.2.2.2.1,())) fun r8=>
 Option.bind (pJ k (x.1.2.2.2.2.2.2.2.2.2.2.2.2.1,())) fun r9=>
 Option.bind (o9 k (x.1.2.2.2.2.2.2.2.2.2.2.2.2.2,())) fun r10=>
 some ((r1.1,x.1.2.1,x.1.2.2.1,r2.1,r3.1,r4.1,x.1.2.2.2.2.2.2.1,r5.1,x.1.2.2.2.2.2.2.2.2.1,r6.1,r7.1,r8.1,r9.1,r10.1),())
def lZ (k:Nat) (x:cg×Unit):Option (cg×Unit):=
 if(decide (List.length ([]:List ByteArray)+List.length x.1.2.2.2.2.2<4294967296))=true then
  some ((x.1.1,x.1.2.1,x.1.2.2.1,x.1.2.2.2.1,x.1.2.2.2.2.1,([]:List ByteArray)++x.1.2.2.2.2.2),())
 else
  none
def dN (k:Nat) (x:al×Unit):Option (al×Unit):=
 if(decide (List.length ([]:List ai)+List.length x.1.1<4294967296))=true then
  some ((([]:List ai)++x.1.1,x.1.2),())
 else
  none
def dM (k:Nat) (x:List al×Unit):Option (List al×Unit):=
 az k (fun G1 (t2:List al×List al×Int×Unit)=>
  if(decide ((t2.2.2.1:Int)<((List.length t2.1:Nat):Int)))=true then
   if(decide (0≤t2.2.2.1∧t2.2.2.1<((List.length t2.1:Nat):Int)))=true then
    Option.bind (dN k (List.getD t2.1 (Int.toNat t2.2.2.1) ab.aa,())) fun r3=>
    if(decide (List.length t2.2.1+List.length ([r3.1]:List al)<4294967296))=true then
     G1 (t2.1,t2.2.1++([r3.1]:List al),IntKind.i64.wrap (t2.2.2.1+(1:Int)),())
    else
     none
   else
    none
  else
   some (t2.2.1,())) (x.1,([]:List al),(0:Int),())
def ni (k:Nat) (x:aZ×Unit):Option (aZ×Unit):=
 Option.bind (dM k (x.1.2,())) fun r1=>
 some ((x.1.1,r1.1),())
def jL (k:Nat) (x:aG×Unit):Option (aG×Unit):=
 az k (fun G1 (t2:aG×aG×aG×Int×Unit)=>
  if(decide ((t2.2.2.2.1:Int)<((List.length t2.1.2.2:Nat):Int)))=true then
   if(decide (0≤t2.2.2.2.1∧t2.2.2.2.1<((List.length t2.1.2.2:Nat):Int)))=true then
    Option.bind (ni k (List.getD t2.1.2.2 (Int.toNat t2.2.2.2.1) ay.aa,())) fun r3=>
    if(decide (List.length t2.2.2.1.2.2+List.length ([r3.1]:List aZ)<4294967296))=true then
     G1 (t2.1,t2.2.1,(t2.2.2.1.1,t2.2.2.1.2.1,t2.2.2.1.2.2++([r3.1]:List aZ)),IntKind.i64.wrap (t2.2.2.2.1+(1:Int)),())
    else
     none
   else
    none
  else
   some (t2.2.2.1,())) (x.1,(0,0,([]:List aZ)),(x.1.1,x.1.2.1,([]:List aZ)),(0:Int),())
def qD (k:Nat) (x:List aG×Unit):Option (List aG×Unit):=
 az k (fun G1 (t2:List aG×List aG×Int×Unit)=>
  if(decide ((t2.2.2.1:Int)<((List.length t2.1:Nat):Int)))=true then
   if(decide (0≤t2.2.2.1∧t2.2.2.1<((List.length t2.1:Nat):Int)))=true then
    Option.bind (jL k (List.getD t2.1 (Int.toNat t2.2.2.1) ak.aa,())) fun r3=>
    if(decide (List.length t2.2.1+List.length ([r3.1]:List aG)<4294967296))=true then
     G1 (t2.1,t2.2.1++([r3.1]:List aG),IntKind.i64.wrap (t2.2.2.1+(1:Int)),())
    else
     none
   else
    none
  else
   some (t2.2.1,())) (x.1,([]:List aG),(0:Int),())
def jQ (k:Nat) (x:bF×Unit):Option (bF×Unit):=
 Option.bind (dM k (x.1.1,())) fun r1=>
 some ((r1.1,x.1.2),())
def sR (k:Nat) (x:List bF×Unit):Option (List bF×Unit):=
 az k (fun G1 (t2:List bF×List bF×Int×Unit)=>
  if(decide ((t2.2.2.1:Int)<((List.length t2.1:Nat):Int)))=true then
   if(decide (0≤t2.2.2.1∧t2.2.2.1<((List.length t2.1:Nat):Int)))=true then
    Option.bind (jQ k (List.getD t2.1 (Int.toNat t2.2.2.1) aU.aa,())) fun r3=>
    if(decide (List.length t2.2.1+List.length ([r3.1]:List bF)<4294967296))=true then
     G1 (t2.1,t2.2.1++([r3.1]:List bF),IntKind.i64.wrap (t2.2.2.1+(1:Int)),())
    else
     none
   else
    none
  else
   some (t2.2.1,())) (x.1,([]:List bF),(0:Int),())
def iF (k:Nat) (x:aJ×Unit):Option (aJ×Unit):=
 if(decide (List.length ([]:List ai)+List.length x.1.2.1<4294967296))=true then
  Option.bind (dM k (x.1.2.2.2.2,())) fun r1=>
  some ((x.1.1,([]:List ai)++x.1.2.1,x.1.2.2.1,x.1.2.2.2.1,r1.1),())
 else
  none
def ph (k:Nat) (x:List aJ×Unit):Option (List aJ×Unit):=
 az k (fun G1 (t2:List aJ×List aJ×Int×Unit)=>
  if(decide ((t2.2.2.1:Int)<((List.length t2.1:Nat):Int)))=true then
   if(decide (0≤t2.2.2.1∧t2.2.2.1<((List.length t2.1:Nat):Int)))=true then
    Option.bind (iF k (List.getD t2.1 (Int.toNat t2.2.2.1) aj.aa,())) fun r3=>
    if(decide (List.length t2.2.1+List.length ([r3.1]:List aJ)<4294967296))=true then
     G1 (t2.1,t2.2.1++([r3.1]:List aJ),IntKind.i64.wrap (t2.2.2.1+(1:Int)),())
    else
     none
   else
    none
  else
   some (t2.2.1,())) (x.1,([]:List aJ),(0:Int),())
def gO (k:Nat) (x:bz×Unit):Option (bz×Unit):=
 if(decide (List.length ([]:List ai)+List.length x.1.2.1<4294967296))=true then
  Option.bind (dM k (x.1.2.2.2,())) fun r1=>
  some ((x.1.1,([]:List ai)++x.1.2.1,x.1.2.2.1,r1.1),())
 else
  none
def ir (k:Nat) (x:aL×Unit):Option (aL×Unit):=
 Option.bind (dN k (x.1.2.2.1,())) fun r1=>
 if(decide (List.length ([]:List ai)+List.length x.1.2.2.2.1<4294967296))=true then
  if(decide (List.length ([]:List Int)+List.length x.1.2.2.2.2.2.1<4294967296))=true then
   Option.bind (dM k (x.1.2.2.2.2.2.2.1,())) fun r2=>
   some ((x.1.1,x.1.2.1,r1.1,([]:List ai)++x.1.2.2.2.1,x.1.2.2.2.2.1,([]:List Int)++x.1.2.2.2.2.2.1,r2.1,x.1.2.2.2.2.2.2.2),())
  else
   none
 else
  none
def iO (k:Nat) (x:bg×Unit):Option (bg×Unit):=
 Option.bind (dN k (x.1.2.2.1,())) fun r1=>
 if(decide (List.length ([]:List ai)+List.length x.1.2.2.2.1<4294967296))=true then
  Option.bind (dM k (x.1.2.2.2.2.2.2.2.1,())) fun r2=>
  some ((x.1.1,x.1.2.1,r1.1,([]:List ai)++x.1.2.2.2.1,x.1.2.2.2.2.1,x.1.2.2.2.2.2.1,x.1.2.2.2.2.2.2.1,r2.1,x.1.2.2.2.2.2.2.2.2),())
 else
  none
def qH (k:Nat) (x:List bg×Unit):Option (List bg×Unit):=
 az k (fun G1 (t2:List bg×List bg×Int×Unit)=>
  if(decide ((t2.2.2.1:Int)<((List.length t2.1:Nat):Int)))=true then
   if(decide (0≤t2.2.2.1∧t2.2.2.1<((List.length t2.1:Nat):Int)))=true then
    Option.bind (iO k (List.getD t2.1 (Int.toNat t2.2.2.1) aq.aa,())) fun r3=>
    if(decide (List.length t2.2.1+List.length ([r3.1]:List bg)<4294967296))=true then
     G1 (t2.1,t2.2.1++([r3.1]:List bg),IntKind.i64.wrap (t2.2.2.1+(1:Int)),())
    else
     none
   else
    none
  else
   some (t2.2.1,())) (x.1,([]:List bg),(0:Int),())
def lL (k:Nat) (x:ar×Unit):Option (ar×Unit):=
 Option.bind (lZ k (x.1.1,())) fun r1=>
 Option.bind (qD k (x.1.2.2.2.1,())) fun r2=>
 Option.bind (sR k (x.1.2.2.2.2.1,())) fun r3=>
 Option.bind (dM k (x.1.2.2.2.2.2.1,())) fun r4=>
 Option.bind (ph k (x.1.2.2.2.2.2.2.2.1,())) fun r5=>
 if(decide (List.length ([]:List bl)+List.length x.1.2.2.2.2.2.2.2.2.2.1<4294967296))=true then
  aP (fun J6=>
   az k (fun G8 (t9:ar×ar×ar×cg×Int×Unit)=>
    if(decide ((t9.2.2.2.2.1:Int)<((List.length t9.1.2.2.2.2.2.2.2.2.2.2.1:Nat):Int)))=true then
     if(decide (0≤t9.2.2.2.2.1∧t9.2.2.2.2.1<((List.length t9.1.2.2.2.2.2.2.2.2.2.2.1:Nat):Int)))=true then
      Option.bind (gO k (List.getD t9.1.2.2.2.2.2.2.2.2.2.2.1 (Int.toNat t9.2.2.2.2.1) aN.aa,())) fun r10=>
      if(decide (List.length t9.2.2.1.2.2.2.2.2.2.2.2.2.2.1+List.length ([r10.1]:List bz)<4294967296))=true then
       G8 (t9.1,t9.2.1,(t9.2.2.1.1,t9.2.2.1.2.1,t9.2.2.1.2.2.1,t9.2.2.1.2.2.2.1,t9.2.2.1.2.2.2.2.1,t9.2.2.1.2.2.2.2.2.1,t9.2.2.1.2.2.2.2.2.2.1,t9.2.2.1.2.2.2.2.2.2.2.1,t9.2.2.1.2.2.2.2.2.2.2.2.1,t9.2.2.1.2.2.2.2.2.2.2.2.2.1,t9.2.2.1.2.2.2.2.2.2.2.2.2.2.1++([r10.1]:List bz),t9.2.2.1.2.2.2.2.2.2.2.2.2.2.2),t9.2.2.2.1,IntKind.i64.wrap (t9.2.2.2.2.1+(1:Int)),())
      else
       none
     else
      none
    else
     J6 (t9.1,t9.2.1,t9.2.2.1,t9.2.2.2.1,())) (x.1,((0,0,0,0,0,([]:List ByteArray)),0,0,([]:List aG),([]:List bF),([]:List al),0,([]:List aJ),0,([]:List bl),([]:List bz),([]:List al),([]:List aL),([]:List bg)),(r1.1,x.1.2.1,x.1.2.2.1,r2.1,r3.1,r4.1,x.1.2.2.2.2.2.2.1,r5.1,x.1.2.2.2.2.2.2.2.2.1,([]:List bl)++x.1.2.2.2.2.2.2.2.2.2.1,([]:List bz),x.1.2.2.2.2.2.2.2.2.2.2.2),r1.1,(0:Int),())) (fun(t7:ar×ar×ar×cg×Unit)=>
   Option.bind (dM k (t7.1.2.2.2.2.2.2.2.2.2.2.2.1,())) fun r11=>
   aP (fun J12=>
    az k (fun G14 (t15:ar×ar×ar×cg×Int×Unit)=>
     if(decide ((t15.2.2.2.2.1:Int)<((List.length t15.1.2.2.2.2.2.2.2.2.2.2.2.2.1:Nat):Int)))=true then
      if(decide (0≤t15.2.2.2.2.1∧t15.2.2.2.2.1<((List.length t15.1.2.2.2.2.2.2.2.2.2.2.2.2.1:Nat):Int)))=true then
       Option.bind (ir k (List.getD t15.1.2.2.2.2.2.2.2.2.2.2.2.2.1 (Int.toNat t15.2.2.2.2.1) ah.aa,())) fun r16=>
       if(decide (List.length t15.2.2.1.2.2.2.2.2.2.2.2.2.2.2.2.1+List.length ([r16.1]:List aL)<4294967296))=true then
        G14 (t15.1,t15.2.1,(t15.2.2.1.1,t15.2.2.1.2.1,t15.2.2.1.2.2.1,t15.2.2.1.2.2.2.1,t15.2.2.1.2.2.2.2.1,t15.2.2.1.2.2.2.2.2.1,t15.2.2.1.2.2.2.2.2.2.1,t15.2.2.1.2.2.2.2.2.2.2.1,t15.2.2.1.2.2.2.2.2.2.2.2.1,t15.2.2.1.2.2.2.2.2.2.2.2.2.1,t15.2.2.1.2.2.2.2.2.2.2.2.2.2.1,t15.2.2.1.2.2.2.2.2.2.2.2.2.2.2.1,t15.2.2.1.2.2.2.2.2.2.2.2.2.2.2.2.1++([r16.1]:List aL),t15.2.2.1.2.2.2.2.2.2.2.2.2.2.2.2.2),t15.2.2.2.1,IntKind.i64.wrap (t15.2.2.2.2.1+(1:Int)),())
       else
        none
      else
       none
     else
      J12 (t15.1,t15.2.1,t15.2.2.1,t15.2.2.2.1,())) (t7.1,t7.2.1,(t7.2.2.1.1,t7.2.2.1.2.1,t7.2.2.1.2.2.1,t7.2.2.1.2.2.2.1,t7.2.2.1.2.2.2.2.1,t7.2.2.1.2.2.2.2.2.1,t7.2.2.1.2.2.2.2.2.2.1,t7.2.2.1.2.2.2.2.2.2.2.1,t7.2.2.1.2.2.2.2.2.2.2.2.1,t7.2.2.1.2.2.2.2.2.2.2.2.2.1,t7.2.2.1.2.2.2.2.2.2.2.2.2.2.1,r11.1,([]:List aL),t7.2.2.1.2.2.2.2.2.2.2.2.2.2.2.2.2),t7.2.2.2.1,(0:Int),())) (fun(t13:ar×ar×ar×cg×Unit)=>
    Option.bind (qH k (t13.1.2.2.2.2.2.2.2.2.2.2.2.2.2,())) fun r17=>
    some ((t13.2.2.1.1,t13.2.2.1.2.1,t13.2.2.1.2.2.1,t13.2.2.1.2.2.2.1,t13.2.2.1.2.2.2.2.1,t13.2.2.1.2.2.2.2.2.1,t13.2.2.1.2.2.2.2.2.2.1,t13.2.2.1.2.2.2.2.2.2.2.1,t13.2.2.1.2.2.2.2.2.2.2.2.1,t13.2.2.1.2.2.2.2.2.2.2.2.2.1,t13.2.2.1.2.2.2.2.2.2.2.2.2.2.1,t13.2.2.1.2.2.2.2.2.2.2.2.2.2.2.1,t13.2.2.1.2.2.2.2.2.2.2.2.2.2.2.2.1,r17.1),())))
 else
  none
def bE (k:Nat) (x:Int×Int×Int×Unit):Option (Bool×Unit):=
 some (if(decide ((x.1:Int)≥x.2.1))=true then decide ((x.1:Int)≤x.2.2.1)else false,())
def jG (k:Nat) (x:ByteArray×Unit):Option (Bool×Unit):=
 aP (fun J1=>
  az k (fun G3 (t4:ByteArray×Int×Unit)=>
   if(decide ((t4.2.1:Int)<((ByteArray.size t4.1:Nat):Int)))=true then
    if(decide (0≤t4.2.1∧t4.2.1<((ByteArray.size t4.1:Nat):Int)))=true then
     if(!(((decide (((bt t4.1 t4.2.1):Int)<(97:Int))):Bool)==false)||(decide (0≤t4.2.1∧t4.2.1<((ByteArray.size t4.1:Nat):Int))))=true then
      if(if(decide (((bt t4.1 t4.2.1):Int)<(97:Int)))=true then true else decide (((bt t4.1 t4.2.1):Int)>(122:Int)))=true then
       some (false,())
      else
       G3 (t4.1,IntKind.i64.wrap (t4.2.1+(1:Int)),())
     else
      none
    else
     none
   else
    J1 (t4.1,())) (x.1,(0:Int),())) (fun(t2:ByteArray×Unit)=>
  Option.bind (bE k (((ByteArray.size t2.1:Nat):Int),(1:Int),(8:Int),())) fun r5=>
  some (r5.1,()))
def fb (k:Nat) (x:ByteArray×ByteArray×Unit):Option (Bool×Unit):=
 some (Op.bytesLess (ByteArray.toList x.1) (ByteArray.toList x.2.1),())
def fU (k:Nat) (x:List ByteArray×Unit):Option (Bool×Unit):=
 az k (fun G1 (t2:List ByteArray×Int×Unit)=>
  if(decide ((t2.2.1:Int)<((List.length t2.1:Nat):Int)))=true then
   if(decide (0≤(IntKind.i64.wrap (t2.2.1-(1:Int)))∧(IntKind.i64.wrap (t2.2.1-(1:Int)))<((List.length t2.1:Nat):Int)))=true then
    if(decide (0≤t2.2.1∧t2.2.1<((List.length t2.1:Nat):Int)))=true then
     Option.bind (fb k (List.getD t2.1 (Int.toNat (IntKind.i64.wrap (t2.2.1-(1:Int)))) ByteArray.empty,List.getD t2.1 (Int.toNat t2.2.1) ByteArray.empty,())) fun r3=>
     if(!r3.1)=true then
      some (false,())
     else
      G1 (t2.1,IntKind.i64.wrap (t2.2.1+(1:Int)),())
    else
     none
   else
    none
  else
   some (true,())) (x.1,(1:Int),())
def pT (k:Nat) (x:List ByteArray×Unit):Option (Bool×Unit):=
 aP (fun J1=>
  az k (fun G3 (t4:List ByteArray×Int×Unit)=>
   if(decide ((t4.2.1:Int)<((List.length t4.1:Nat):Int)))=true then
    if(decide (0≤t4.2.1∧t4.2.1<((List.length t4.1:Nat):Int)))=true then
     Option.bind (jG k (List.getD t4.1 (Int.toNat t4.2.1) ByteArray.empty,())) fun r5=>
     if(!r5.1)=true then
      some (false,())
     else
      G3 (t4.1,IntKind.i64.wrap (t4.2.1+(1:Int)),())
    else
     none
   else
    J1 (t4.1,())) (x.1,(0:Int),())) (fun(t2:List ByteArray×Unit)=>
  Option.bind ((if(((decide ((((List.length t2.1:Nat):Int):Int)≤(2:Int))):Bool)==true)=true then fU k (t2.1,())else some (false,()))) fun r6=>
  some (if(decide ((((List.length t2.1:Nat):Int):Int)≤(2:Int)))=true then r6.1 else false,()))
def nc (k:Nat) (x:cg×Unit):Option (Bool×Unit):=
 Option.bind (bE k (x.1.1,(1:Int),(3:Int),())) fun r1=>
 Option.bind ((if((r1.1:Bool)==true)=true then bE k (x.1.2.1,(1:Int),(8:Int),())else some (false,()))) fun r2=>
 Option.bind ((if(((if r1.1=true then r2.1 else false):Bool)==true)=true then bE k (x.1.2.2.1,(1:Int),(2:Int),())else some (false,()))) fun r3=>
 Option.bind ((if(((if(if r1.1=true then r2.1 else false)=true then r3.1 else false):Bool)==true)=true then bE k (x.1.2.2.2.1,(1:Int),(9:Int),())else some (false,()))) fun r4=>
 Option.bind ((if(((if(if(if r1.1=true then r2.1 else false)=true then r3.1 else false)=true then r4.1 else false):Bool)==true)=true then bE k (x.1.2.2.2.2.1,(1:Int),(9:Int),())else some (false,()))) fun r5=>
 Option.bind ((if(((if(if(if(if r1.1=true then r2.1 else false)=true then r3.1 else false)=true then r4.1 else false)=true then r5.1 else false):Bool)==true)=true then pT k (x.1.2.2.2.2.2,())else some (false,()))) fun r6=>
 some (if(if(if(if(if r1.1=true then r2.1 else false)=true then r3.1 else false)=true then r4.1 else false)=true then r5.1 else false)=true then r6.1 else false,())
def iR (k:Nat) (x:ByteArray×Unit):Option (Bool×Unit):=
 aP (fun J1=>
  az k (fun G3 (t4:ByteArray×Int×Unit)=>
   if(decide ((t4.2.1:Int)<((ByteArray.size t4.1:Nat):Int)))=true then
    if(decide (0≤t4.2.1∧t4.2.1<((ByteArray.size t4.1:Nat):Int)))=true then
     if(!(((decide (((bt t4.1 t4.2.1):Int)<(32:Int))):Bool)==false)||(decide (0≤t4.2.1∧t4.2.1<((ByteArray.size t4.1:Nat):Int))))=true then
      if(!(((if(decide (((bt t4.1 t4.2.1):Int)<(32:Int)))=true then true else decide (((bt t4.1 t4.2.1):Int)>(126:Int))):Bool)==false)||(decide (0≤t4.2.1∧t4.2.1<((ByteArray.size t4.1:Nat):Int))))=true then
       if(!(((if(if(decide (((bt t4.1 t4.2.1):Int)<(32:Int)))=true then true else decide (((bt t4.1 t4.2.1):Int)>(126:Int)))=true then true else((bt t4.1 t4.2.1):Int)==(34:Int)):Bool)==false)||(decide (0≤t4.2.1∧t4.2.1<((ByteArray.size t4.1:Nat):Int))))=true then
        if(if(if(if(decide (((bt t4.1 t4.2.1):Int)<(32:Int)))=true then true else decide (((bt t4.1 t4.2.1):Int)>(126:Int)))=true then true else((bt t4.1 t4.2.1):Int)==(34:Int))=true then true else((bt t4.1 t4.2.1):Int)==(92:Int))=true then
         some (false,())
        else
         G3 (t4.1,IntKind.i64.wrap (t4.2.1+(1:Int)),())
       else
        none
      else
       none
     else
      none
    else
     none
   else
    J1 (t4.1,())) (x.1,(0:Int),())) (fun(t2:ByteArray×Unit)=>
  some (decide ((((ByteArray.size t2.1:Nat):Int):Int)≤(12:Int)),()))
def lX (k:Nat) (x:ai×Unit):Option (Bool×Unit):=
 Option.bind (jG k (x.1.1,())) fun r1=>
 Option.bind ((if((r1.1:Bool)==true)=true then iR k (x.1.2,())else some (false,()))) fun r2=>
 some (if r1.1=true then r2.1 else false,())
def fi (k:Nat) (x:List ai×Unit):Option (Bool×Unit):=
 aP (fun J1=>
  az k (fun G3 (t4:List ai×Int×Unit)=>
   if(decide ((t4.2.1:Int)<((List.length t4.1:Nat):Int)))=true then
    if(decide (0≤t4.2.1∧t4.2.1<((List.length t4.1:Nat):Int)))=true then
     Option.bind (lX k (List.getD t4.1 (Int.toNat t4.2.1) af.aa,())) fun r5=>
     if(!((((!r5.1):Bool)==false)&&(((decide ((t4.2.1:Int)>(0:Int))):Bool)==true))||(decide (0≤(IntKind.i64.wrap (t4.2.1-(1:Int)))∧(IntKind.i64.wrap (t4.2.1-(1:Int)))<((List.length t4.1:Nat):Int))))=true then
      if(!((((!r5.1):Bool)==false)&&(((decide ((t4.2.1:Int)>(0:Int))):Bool)==true))||(decide (0≤t4.2.1∧t4.2.1<((List.length t4.1:Nat):Int))))=true then
       Option.bind ((if((((!r5.1):Bool)==false)&&(((decide ((t4.2.1:Int)>(0:Int))):Bool)==true))=true then fb k ((List.getD t4.1 (Int.toNat (IntKind.i64.wrap (t4.2.1-(1:Int)))) af.aa).1,(List.getD t4.1 (Int.toNat t4.2.1) af.aa).1,())else some (false,()))) fun r6=>
       if(if(!r5.1)=true then true else if(decide ((t4.2.1:Int)>(0:Int)))=true then !r6.1 else false)=true then
        some (false,())
       else
        G3 (t4.1,IntKind.i64.wrap (t4.2.1+(1:Int)),())
      else
       none
     else
      none
    else
     none
   else
    J1 (t4.1,())) (x.1,(0:Int),())) (fun(t2:List ai×Unit)=>
  some (decide ((((List.length t2.1:Nat):Int):Int)≤(4:Int)),()))
def du (k:Nat) (x:al×Unit):Option (Bool×Unit):=
 Option.bind (fi k (x.1.1,())) fun r1=>
 Option.bind ((if(((if r1.1=true then decide ((((List.length x.1.1:Nat):Int):Int)>(0:Int))else false):Bool)==true)=true then bE k (x.1.2.1,(0:Int),(99999:Int),())else some (false,()))) fun r2=>
 Option.bind ((if(((if(if r1.1=true then decide ((((List.length x.1.1:Nat):Int):Int)>(0:Int))else false)=true then r2.1 else false):Bool)==true)=true then bE k (x.1.2.2.1,x.1.2.1,(99999:Int),())else some (false,()))) fun r3=>
 Option.bind ((if(((if(if(if r1.1=true then decide ((((List.length x.1.1:Nat):Int):Int)>(0:Int))else false)=true then r2.1 else false)=true then r3.1 else false):Bool)==true)=true then iR k (x.1.2.2.2,())else some (false,()))) fun r4=>
 some (if(if(if(if r1.1=true then decide ((((List.length x.1.1:Nat):Int):Int)>(0:Int))else false)=true then r2.1 else false)=true then r3.1 else false)=true then r4.1 else false,())
def lU (k:Nat) (x:List ai×Unit):Option (ByteArray×Unit):=
 Option.bind (fi k (x.1,())) fun r1=>
 if(!r1.1)=true then
  some ((⟨#[]⟩:ByteArray),())
 else
  aP (fun J2=>
   az k (fun G4 (t5:List ai×ByteArray×Int×Unit)=>
    if(decide ((t5.2.2.1:Int)<((List.length t5.1:Nat):Int)))=true then
     aP (fun J6=>
      if(decide ((t5.2.2.1:Int)>(0:Int)))=true then
       if(decide ((t5.2.1).size+((⟨#[44,32]⟩:ByteArray)).size<4294967296))=true then
        J6 (t5.1,t5.2.1++(⟨#[44,32]⟩:ByteArray),t5.2.2.1,())
       else
        none
      else
       J6 (t5.1,t5.2.1,t5.2.2.1,())) (fun(t7:List ai×ByteArray×Int×Unit)=>
      if(decide (0≤t7.2.2.1∧t7.2.2.1<((List.length t7.1:Nat):Int)))=true then
       if(decide ((t7.2.1).size+(((List.getD t7.1 (Int.toNat t7.2.2.1) af.aa).1)).size<4294967296))=true then
        if(decide (((t7.2.1++((List.getD t7.1 (Int.toNat t7.2.2.1) af.aa).1))).size+((⟨#[61,34]⟩:ByteArray)).size<4294967296))=true then
         if(decide (0≤t7.2.2.1∧t7.2.2.1<((List.length t7.1:Nat):Int)))=true then
          if(decide ((((t7.2.1++((List.getD t7.1 (Int.toNat t7.2.2.1) af.aa).1))++(⟨#[61,34]⟩:ByteArray))).size+(((List.getD t7.1 (Int.toNat t7.2.2.1) af.aa).2)).size<4294967296))=true then
           if(decide (((((t7.2.1++((List.getD t7.1 (Int.toNat t7.2.2.1) af.aa).1))++(⟨#[61,34]⟩:ByteArray))++((List.getD t7.1 (Int.toNat t7.2.2.1) af.aa).2))).size+((⟨#[34]⟩:ByteArray)).size<4294967296))=true then
            G4 (t7.1,(((t7.2.1++((List.getD t7.1 (Int.toNat t7.2.2.1) af.aa).1))++(⟨#[61,34]⟩:ByteArray))++((List.getD t7.1 (Int.toNat t7.2.2.1) af.aa).2))++(⟨#[34]⟩:ByteArray),IntKind.i64.wrap (t7.2.2.1+(1:Int)),())
           else
            none
          else
           none
         else
          none
        else
         none
       else
        none
      else
       none)
    else
     J2 (t5.2.1,())) (x.1,(⟨#[123]⟩:ByteArray),(0:Int),())) (fun(t3:ByteArray×Unit)=>
   if(decide ((t3.1).size+((⟨#[125]⟩:ByteArray)).size<4294967296))=true then
    some (t3.1++(⟨#[125]⟩:ByteArray),())
   else
    none)
def jh (k:Nat) (x:ByteArray×Unit):Option (Int×Unit):=
 az k (fun G1 (t2:ByteArray×Int×Int×Unit)=>
  if(decide ((t2.2.2.1:Int)<((ByteArray.size t2.1:Nat):Int)))=true then
   if(decide (0≤t2.2.2.1∧t2.2.2.1<((ByteArray.size t2.1:Nat):Int)))=true then
    G1 (t2.1,bits (fun _=>(· &&& ·)) .i64 (IntKind.i64.wrap ((bits (fun _=>(·^^^·)) .i64 t2.2.1 (IntKind.i64.wrap (bt t2.1 t2.2.2.1)))*(16777619:Int))) (4294967295:Int),IntKind.i64.wrap (t2.2.2.1+(1:Int)),())
   else
    none
  else
   some (t2.2.1,())) (x.1,(2166136261:Int),(0:Int),())
def dP (k:Nat) (x:List ai×Unit):Option (Int×Unit):=
 Option.bind (lU k (x.1,())) fun r1=>
 Option.bind (jh k (r1.1,())) fun r2=>
 if(decide (0≤(16:Int)))=true then
  if(decide ((32:Int)≠0))=true then
   some (Int.tmod (bits (fun _=>(·^^^·)) .i64 r2.1 (Int.fdiv r2.1 (2^(min (Int.toNat (16:Int)) IntKind.i64.bits)))) (32:Int),())
  else
   none
 else
  none
def cL (k:Nat) (x:List ai×List ai×Unit):Option (Bool×Unit):=
 if((((List.length x.1:Nat):Int):Int) != ((List.length x.2.1:Nat):Int))=true then
  some (false,())
 else
  az k (fun G1 (t2:List ai×List ai×Int×Unit)=>
   if(decide ((t2.2.2.1:Int)<((List.length t2.1:Nat):Int)))=true then
    if(decide (0≤t2.2.2.1∧t2.2.2.1<((List.length t2.1:Nat):Int)))=true then
     if(decide (0≤t2.2.2.1∧t2.2.2.1<((List.length t2.2.1:Nat):Int)))=true then
      if(!(eqv af (List.getD t2.1 (Int.toNat t2.2.2.1) af.aa) (List.getD t2.2.1 (Int.toNat t2.2.2.1) af.aa)))=true then
       some (false,())
      else
       G1 (t2.1,t2.2.1,IntKind.i64.wrap (t2.2.2.1+(1:Int)),())
     else
      none
    else
     none
   else
    some (true,())) (x.1,x.2.1,(0:Int),())
def lF (k:Nat) (x:aZ×Unit):Option (Bool×Unit):=
 aP (fun J1=>
  az k (fun G3 (t4:aZ×Int×Unit)=>
   if(decide ((t4.2.1:Int)<((List.length t4.1.2:Nat):Int)))=true then
    if(decide (0≤t4.2.1∧t4.2.1<((List.length t4.1.2:Nat):Int)))=true then
     Option.bind (du k (List.getD t4.1.2 (Int.toNat t4.2.1) ab.aa,())) fun r5=>
     if(!(((!r5.1):Bool)==false)||(decide (0≤t4.2.1∧t4.2.1<((List.length t4.1.2:Nat):Int))))=true then
      Option.bind ((if(((!r5.1):Bool)==false)=true then dP k ((List.getD t4.1.2 (Int.toNat t4.2.1) ab.aa).1,())else some (0,()))) fun r6=>
      if(if(!r5.1)=true then true else(r6.1:Int) != t4.1.1)=true then
       some (false,())
      else
       az k (fun G7 (t8:aZ×Int×Int×Unit)=>
        if(decide ((t8.2.2.1:Int)<t8.2.1))=true then
         if(decide (0≤t8.2.2.1∧t8.2.2.1<((List.length t8.1.2:Nat):Int)))=true then
          if(decide (0≤t8.2.1∧t8.2.1<((List.length t8.1.2:Nat):Int)))=true then
           Option.bind (cL k ((List.getD t8.1.2 (Int.toNat t8.2.2.1) ab.aa).1,(List.getD t8.1.2 (Int.toNat t8.2.1) ab.aa).1,())) fun r9=>
           if r9.1=true then
            some (false,())
           else
            G7 (t8.1,t8.2.1,IntKind.i64.wrap (t8.2.2.1+(1:Int)),())
          else
           none
         else
          none
        else
         G3 (t8.1,IntKind.i64.wrap (t8.2.1+(1:Int)),())) (t4.1,t4.2.1,(0:Int),())
     else
      none
    else
     none
   else
    J1 (t4.1,())) (x.1,(0:Int),())) (fun(t2:aZ×Unit)=>
  some (decide ((((List.length t2.1.2:Nat):Int):Int)>(0:Int)),()))
def eG (k:Nat) (x:Int×Int×Unit):Option (Int×Unit):=
 if(if(decide ((x.2.1:Int)<(1:Int)))=true then true else decide ((x.1:Int)<(0:Int)))=true then
  some ((0:Int),())
 else
  if(decide (x.2.1≠0))=true then
   some (Int.tmod x.1 x.2.1,())
  else
   none
def nb (k:Nat) (x:aG×Int×Int×Unit):Option (Bool×Unit):=
 aP (fun J1=>
  az k (fun G3 (t4:Int×Int×aG×Int×Unit)=>
   if(decide ((t4.2.2.2.1:Int)<((List.length t4.2.2.1.2.2:Nat):Int)))=true then
    if(decide (0≤t4.2.2.2.1∧t4.2.2.2.1<((List.length t4.2.2.1.2.2:Nat):Int)))=true then
     Option.bind (lF k (List.getD t4.2.2.1.2.2 (Int.toNat t4.2.2.2.1) ay.aa,())) fun r5=>
     if(!((((!r5.1):Bool)==false)&&(((decide ((t4.2.2.2.1:Int)>(0:Int))):Bool)==true))||(decide (0≤(IntKind.i64.wrap (t4.2.2.2.1-(1:Int)))∧(IntKind.i64.wrap (t4.2.2.2.1-(1:Int)))<((List.length t4.2.2.1.2.2:Nat):Int))))=true then
      if(!((((!r5.1):Bool)==false)&&(((decide ((t4.2.2.2.1:Int)>(0:Int))):Bool)==true))||(decide (0≤t4.2.2.2.1∧t4.2.2.2.1<((List.length t4.2.2.1.2.2:Nat):Int))))=true then
       if(!(((if(!r5.1)=true then true else if(decide ((t4.2.2.2.1:Int)>(0:Int)))=true then decide ((((List.getD t4.2.2.1.2.2 (Int.toNat (IntKind.i64.wrap (t4.2.2.2.1-(1:Int)))) ay.aa).1):Int)≥((List.getD t4.2.2.1.2.2 (Int.toNat t4.2.2.2.1) ay.aa).1))else false):Bool)==false)||(decide (0≤t4.2.2.2.1∧t4.2.2.2.1<((List.length t4.2.2.1.2.2:Nat):Int))))=true then
        Option.bind ((if(((if(!r5.1)=true then true else if(decide ((t4.2.2.2.1:Int)>(0:Int)))=true then decide ((((List.getD t4.2.2.1.2.2 (Int.toNat (IntKind.i64.wrap (t4.2.2.2.1-(1:Int)))) ay.aa).1):Int)≥((List.getD t4.2.2.1.2.2 (Int.toNat t4.2.2.2.1) ay.aa).1))else false):Bool)==false)=true then eG k ((List.getD t4.2.2.1.2.2 (Int.toNat t4.2.2.2.1) ay.aa).1,t4.2.1,())else some (0,()))) fun r6=>
        if(if(if(!r5.1)=true then true else if(decide ((t4.2.2.2.1:Int)>(0:Int)))=true then decide ((((List.getD t4.2.2.1.2.2 (Int.toNat (IntKind.i64.wrap (t4.2.2.2.1-(1:Int)))) ay.aa).1):Int)≥((List.getD t4.2.2.1.2.2 (Int.toNat t4.2.2.2.1) ay.aa).1))else false)=true then true else(r6.1:Int) != t4.1)=true then
         some (false,())
        else
         G3 (t4.1,t4.2.1,t4.2.2.1,IntKind.i64.wrap (t4.2.2.2.1+(1:Int)),())
       else
        none
      else
       none
     else
      none
    else
     none
   else
    J1 (t4.2.2.1,())) (x.2.1,x.2.2.1,x.1,(0:Int),())) (fun(t2:aG×Unit)=>
  Option.bind (bE k (t2.1.1,(-1:Int),(4:Int),())) fun r7=>
  some (if r7.1=true then decide ((t2.1.2.1:Int)≥(0:Int))else false,()))
def lT (k:Nat) (x:List aG×Unit):Option (Bool×Unit):=
 aP (fun J1=>
  az k (fun G3 (t4:List aG×Int×Unit)=>
   if(decide ((t4.2.1:Int)<((List.length t4.1:Nat):Int)))=true then
    if(decide (0≤t4.2.1∧t4.2.1<((List.length t4.1:Nat):Int)))=true then
     Option.bind (nb k (List.getD t4.1 (Int.toNat t4.2.1) ak.aa,t4.2.1,((List.length t4.1:Nat):Int),())) fun r5=>
     if(!r5.1)=true then
      some (false,())
     else
      G3 (t4.1,IntKind.i64.wrap (t4.2.1+(1:Int)),())
    else
     none
   else
    J1 (t4.1,())) (x.1,(0:Int),())) (fun(t2:List aG×Unit)=>
  Option.bind (bE k (((List.length t2.1:Nat):Int),(1:Int),(3:Int),())) fun r6=>
  some (r6.1,()))
def gH (k:Nat) (x:aG×Unit):Option (List al×Unit):=
 az k (fun G1 (t2:aG×List al×Int×Unit)=>
  if(decide ((t2.2.2.1:Int)<((List.length t2.1.2.2:Nat):Int)))=true then
   if(decide (0≤t2.2.2.1∧t2.2.2.1<((List.length t2.1.2.2:Nat):Int)))=true then
    Option.bind (dM k ((List.getD t2.1.2.2 (Int.toNat t2.2.2.1) ay.aa).2,())) fun r3=>
    if(decide (List.length t2.2.1+List.length r3.1<4294967296))=true then
     G1 (t2.1,t2.2.1++r3.1,IntKind.i64.wrap (t2.2.2.1+(1:Int)),())
    else
     none
   else
    none
  else
   some (t2.2.1,())) (x.1,([]:List al),(0:Int),())
def iI (k:Nat) (x:List ai×List ai×Unit):Option (Bool×Unit):=
 aP (fun J1=>
  az k (fun G3 (t4:List ai×List ai×Int×Unit)=>
   if(if(decide ((t4.2.2.1:Int)<((List.length t4.1:Nat):Int)))=true then decide ((t4.2.2.1:Int)<((List.length t4.2.1:Nat):Int))else false)=true then
    if(decide (0≤t4.2.2.1∧t4.2.2.1<((List.length t4.1:Nat):Int)))=true then
     if(decide (0≤t4.2.2.1∧t4.2.2.1<((List.length t4.2.1:Nat):Int)))=true then
      if(!(ByteArray.toList ((List.getD t4.1 (Int.toNat t4.2.2.1) af.aa).1)==ByteArray.toList ((List.getD t4.2.1 (Int.toNat t4.2.2.1) af.aa).1)))=true then
       if(decide (0≤t4.2.2.1∧t4.2.2.1<((List.length t4.1:Nat):Int)))=true then
        if(decide (0≤t4.2.2.1∧t4.2.2.1<((List.length t4.2.1:Nat):Int)))=true then
         Option.bind (fb k ((List.getD t4.1 (Int.toNat t4.2.2.1) af.aa).1,(List.getD t4.2.1 (Int.toNat t4.2.2.1) af.aa).1,())) fun r5=>
         some (r5.1,())
        else
         none
       else
        none
      else
       if(decide (0≤t4.2.2.1∧t4.2.2.1<((List.length t4.1:Nat):Int)))=true then
        if(decide (0≤t4.2.2.1∧t4.2.2.1<((List.length t4.2.1:Nat):Int)))=true then
         if(!(ByteArray.toList ((List.getD t4.1 (Int.toNat t4.2.2.1) af.aa).2)==ByteArray.toList ((List.getD t4.2.1 (Int.toNat t4.2.2.1) af.aa).2)))=true then
          if(decide (0≤t4.2.2.1∧t4.2.2.1<((List.length t4.1:Nat):Int)))=true then
           if(decide (0≤t4.2.2.1∧t4.2.2.1<((List.length t4.2.1:Nat):Int)))=true then
            Option.bind (fb k ((List.getD t4.1 (Int.toNat t4.2.2.1) af.aa).2,(List.getD t4.2.1 (Int.toNat t4.2.2.1) af.aa).2,())) fun r6=>
            some (r6.1,())
           else
            none
          else
           none
         else
          G3 (t4.1,t4.2.1,IntKind.i64.wrap (t4.2.2.1+(1:Int)),())
        else
         none
       else
        none
     else
      none
    else
     none
   else
    J1 (t4.1,t4.2.1,())) (x.1,x.2.1,(0:Int),())) (fun(t2:List ai×List ai×Unit)=>
  some (decide ((((List.length t2.1:Nat):Int):Int)<((List.length t2.2.1:Nat):Int)),()))
def jI (k:Nat) (x:List al×Unit):Option (List al×Unit):=
 az k (fun G1 (t2:List al×List al×Int×Unit)=>
  if(decide ((t2.2.2.1:Int)<((List.length t2.1:Nat):Int)))=true then
   if(decide (0≤t2.2.2.1∧t2.2.2.1<((List.length t2.1:Nat):Int)))=true then
    Option.bind (dN k (List.getD t2.1 (Int.toNat t2.2.2.1) ab.aa,())) fun r3=>
    aP (fun J4=>
     az k (fun G6 (t7:List al×List al×Int×al×Int×Unit)=>
      if(!(((decide ((t7.2.2.2.2.1:Int)>(0:Int))):Bool)==true)||(decide (0≤(IntKind.i64.wrap (t7.2.2.2.2.1-(1:Int)))∧(IntKind.i64.wrap (t7.2.2.2.2.1-(1:Int)))<((List.length t7.2.1:Nat):Int))))=true then
       Option.bind ((if(((decide ((t7.2.2.2.2.1:Int)>(0:Int))):Bool)==true)=true then iI k (t7.2.2.2.1.1,(List.getD t7.2.1 (Int.toNat (IntKind.i64.wrap (t7.2.2.2.2.1-(1:Int)))) ab.aa).1,())else some (false,()))) fun r8=>
       if(if(decide ((t7.2.2.2.2.1:Int)>(0:Int)))=true then r8.1 else false)=true then
        G6 (t7.1,t7.2.1,t7.2.2.1,t7.2.2.2.1,IntKind.i64.wrap (t7.2.2.2.2.1-(1:Int)),())
       else
        J4 (t7.1,t7.2.1,t7.2.2.1,t7.2.2.2.1,t7.2.2.2.2.1,())
      else
       none) (t2.1,t2.2.1,t2.2.2.1,r3.1,((List.length t2.2.1:Nat):Int),())) (fun(t5:List al×List al×Int×al×Int×Unit)=>
     if(decide (0≤t5.2.2.2.2.1∧t5.2.2.2.2.1≤((List.length t5.2.1:Nat):Int)))=true then
      if(decide (List.length ([]:List al)+List.length (List.take (Int.toNat t5.2.2.2.2.1) t5.2.1)<4294967296))=true then
       if(decide (List.length (([]:List al)++(List.take (Int.toNat t5.2.2.2.2.1) t5.2.1))+List.length ([t5.2.2.2.1]:List al)<4294967296))=true then
        if(decide (0≤t5.2.2.2.2.1∧t5.2.2.2.2.1≤((List.length t5.2.1:Nat):Int)))=true then
         if(decide (List.length ((([]:List al)++(List.take (Int.toNat t5.2.2.2.2.1) t5.2.1))++([t5.2.2.2.1]:List al))+List.length (List.drop (Int.toNat t5.2.2.2.2.1) t5.2.1)<4294967296))=true then
          G1 (t5.1,((([]:List al)++(List.take (Int.toNat t5.2.2.2.2.1) t5.2.1))++([t5.2.2.2.1]:List al))++(List.drop (Int.toNat t5.2.2.2.2.1) t5.2.1),IntKind.i64.wrap (t5.2.2.1+(1:Int)),())
         else
          none
        else
         none
       else
        none
      else
       none
     else
      none)
   else
    none
  else
   some (t2.2.1,())) (x.1,([]:List al),(0:Int),())
def jm (k:Nat) (x:List aG×Unit):Option (List al×Unit):=
 aP (fun J1=>
  az k (fun G3 (t4:List aG×List al×Int×Unit)=>
   if(decide ((t4.2.2.1:Int)<((List.length t4.1:Nat):Int)))=true then
    if(decide (0≤t4.2.2.1∧t4.2.2.1<((List.length t4.1:Nat):Int)))=true then
     Option.bind (gH k (List.getD t4.1 (Int.toNat t4.2.2.1) ak.aa,())) fun r5=>
     if(decide (List.length t4.2.1+List.length r5.1<4294967296))=true then
      G3 (t4.1,t4.2.1++r5.1,IntKind.i64.wrap (t4.2.2.1+(1:Int)),())
     else
      none
    else
     none
   else
    J1 (t4.2.1,())) (x.1,([]:List al),(0:Int),())) (fun(t2:List al×Unit)=>
  Option.bind (jI k (t2.1,())) fun r6=>
  some (r6.1,()))
def mw (k:Nat) (x:cg×al×Unit):Option (Bool×Unit):=
 Option.bind (du k (x.2.1,())) fun r1=>
 some (if r1.1=true then decide ((x.2.1.2.2.1:Int)≤(99899:Int))else false,())
def kq (k:Nat) (x:ar×Unit):Option (Bool×Unit):=
 Option.bind (lT k (x.1.2.2.2.1,())) fun r1=>
 if(if(!r1.1)=true then true else(((List.length x.1.2.2.2.1:Nat):Int):Int) != x.1.1.1)=true then
  some (false,())
 else
  Option.bind (jm k (x.1.2.2.2.1,())) fun r2=>
  aP (fun J3=>
   az k (fun G5 (t6:ar×List al×Int×Unit)=>
    if(decide ((t6.2.2.1:Int)<((List.length t6.2.1:Nat):Int)))=true then
     if(decide (0≤t6.2.2.1∧t6.2.2.1<((List.length t6.2.1:Nat):Int)))=true then
      Option.bind (mw k (t6.1.1,List.getD t6.2.1 (Int.toNat t6.2.2.1) ab.aa,())) fun r7=>
      if(!r7.1)=true then
       some (false,())
      else
       G5 (t6.1,t6.2.1,IntKind.i64.wrap (t6.2.2.1+(1:Int)),())
     else
      none
    else
     J3 (t6.1,t6.2.1,())) (x.1,r2.1,(0:Int),())) (fun(t4:ar×List al×Unit)=>
   some (decide ((((List.length t4.2.1:Nat):Int):Int)≤t4.1.1.2.1),()))
def gq (k:Nat) (x:List al×Unit):Option (Bool×Unit):=
 az k (fun G1 (t2:List al×Int×Unit)=>
  if(decide ((t2.2.1:Int)<((List.length t2.1:Nat):Int)))=true then
   if(decide (0≤t2.2.1∧t2.2.1<((List.length t2.1:Nat):Int)))=true then
    Option.bind (du k (List.getD t2.1 (Int.toNat t2.2.1) ab.aa,())) fun r3=>
    if(!r3.1)=true then
     some (false,())
    else
     G1 (t2.1,IntKind.i64.wrap (t2.2.1+(1:Int)),())
   else
    none
  else
   some (true,())) (x.1,(0:Int),())
def ow (k:Nat) (x:bF×Unit):Option (Bool×Unit):=
 aP (fun J1=>
  az k (fun G3 (t4:bF×Int×Unit)=>
   if(decide ((t4.2.1:Int)<((List.length t4.1.1:Nat):Int)))=true then
    if(decide (0≤t4.2.1∧t4.2.1<((List.length t4.1.1:Nat):Int)))=true then
     Option.bind (du k (List.getD t4.1.1 (Int.toNat t4.2.1) ab.aa,())) fun r5=>
     if(!r5.1)=true then
      some (false,())
     else
      G3 (t4.1,IntKind.i64.wrap (t4.2.1+(1:Int)),())
    else
     none
   else
    J1 (t4.1,())) (x.1,(0:Int),())) (fun(t2:bF×Unit)=>
  some (if(decide ((((List.length t2.1.1:Nat):Int):Int)≤(3:Int)))=true then if(!t2.1.2)=true then true else(((List.length t2.1.1:Nat):Int):Int)==(0:Int)else false,()))
def kD (k:Nat) (x:Int×Unit):Option (List Int×Unit):=
 if((x.1:Int)==(1:Int))=true then
  some (([(1:Int),(2:Int),(3:Int),(4:Int)]:List Int),())
 else
  if((x.1:Int)==(3:Int))=true then
   some (([(5:Int),(6:Int)]:List Int),())
  else
   if((x.1:Int)==(7:Int))=true then
    some (([(1:Int),(2:Int),(3:Int)]:List Int),())
   else
    if((x.1:Int)==(8:Int))=true then
     some (([(8:Int),(6:Int)]:List Int),())
    else
     if((x.1:Int)==(9:Int))=true then
      some (([(5:Int),(6:Int),(7:Int)]:List Int),())
     else
      some (([(8:Int)]:List Int),())
def mP (k:Nat) (x:List Int×Int×Unit):Option (Bool×Unit):=
 az k (fun G1 (t2:List Int×Int×Int×Unit)=>
  if(decide ((t2.2.2.1:Int)<((List.length t2.1:Nat):Int)))=true then
   if(decide (0≤t2.2.2.1∧t2.2.2.1<((List.length t2.1:Nat):Int)))=true then
    if(((List.getD t2.1 (Int.toNat t2.2.2.1) 0):Int)==t2.2.1)=true then
     some (true,())
    else
     G1 (t2.1,t2.2.1,IntKind.i64.wrap (t2.2.2.1+(1:Int)),())
   else
    none
  else
   some (false,())) (x.1,x.2.1,(0:Int),())
def gp (k:Nat) (x:bg×Unit):Option (Bool×Unit):=
 Option.bind (bE k (x.1.1,(1:Int),(9:Int),())) fun r1=>
 Option.bind ((if(((!r1.1):Bool)==false)=true then bE k (x.1.2.1,(-1:Int),(4:Int),())else some (false,()))) fun r2=>
 if(if(if(if(if(if(!r1.1)=true then true else !r2.1)=true then true else decide ((x.1.2.2.2.2.2.2.2.2.2.1:Int)<(0:Int)))=true then true else decide ((x.1.2.2.2.2.1:Int)<(0:Int)))=true then true else decide ((x.1.2.2.2.2.2.1:Int)<(0:Int)))=true then true else decide ((x.1.2.2.2.2.2.2.2.2.1:Int)<(0:Int)))=true then
  some (false,())
 else
  if(if(if((x.1.2.2.2.2.2.2.2.2.2.2.1:Int) != (-1:Int))=true then decide ((x.1.2.2.2.2.2.2.2.2.2.2.1:Int)<x.1.2.2.2.2.2.2.2.2.2.1)else false)=true then true else if((x.1.2.2.2.2.2.2.2.2.2.2.2:Int) != (-1:Int))=true then if((x.1.2.2.2.2.2.2.2.2.2.2.1:Int)==(-1:Int))=true then true else decide ((x.1.2.2.2.2.2.2.2.2.2.2.2:Int)<x.1.2.2.2.2.2.2.2.2.2.2.1)else false)=true then
   some (false,())
  else
   if((x.1.2.2.2.2.2.2.2.2.2.2.1:Int)==(-1:Int))=true then
    some ((x.1.2.2.2.2.2.2.1:Int)==(0:Int),())
   else
    Option.bind (kD k (x.1.1,())) fun r3=>
    Option.bind (mP k (r3.1,x.1.2.2.2.2.2.2.1,())) fun r4=>
    some (r4.1,())
def cT (k:Nat) (x:al×al×Unit):Option (Bool×Unit):=
 Option.bind (cL k (x.1.1,x.2.1.1,())) fun r1=>
 some (if(if(if r1.1=true then(x.1.2.1:Int)==x.2.1.2.1 else false)=true then(x.1.2.2.1:Int)==x.2.1.2.2.1 else false)=true then ByteArray.toList x.1.2.2.2==ByteArray.toList x.2.1.2.2.2 else false,())
def eU (k:Nat) (x:al×Unit):Option (Bool×Unit):=
 Option.bind (cT k (x.1,(([]:List ai),0,0,ByteArray.empty),())) fun r1=>
 some (r1.1,())
def lB (k:Nat) (x:aL×Unit):Option (Bool×Unit):=
 aP (fun J1=>
  az k (fun G3 (t4:aL×Int×Unit)=>
   if(decide ((t4.2.1:Int)<((List.length t4.1.2.2.2.2.2.1:Nat):Int)))=true then
    if(decide (0≤t4.2.1∧t4.2.1<((List.length t4.1.2.2.2.2.2.1:Nat):Int)))=true then
     if(decide (((List.getD t4.1.2.2.2.2.2.1 (Int.toNat t4.2.1) 0):Int)<(0:Int)))=true then
      some (false,())
     else
      G3 (t4.1,IntKind.i64.wrap (t4.2.1+(1:Int)),())
    else
     none
   else
    J1 (t4.1,())) (x.1,(0:Int),())) (fun(t2:aL×Unit)=>
  if((t2.1.2.1:Int)==(2:Int))=true then
   Option.bind (bE k (((List.length t2.1.2.2.2.2.2.1:Nat):Int),(1:Int),(3:Int),())) fun r5=>
   some (if r5.1=true then(t2.1.2.2.2.2.1:Int)==((List.length t2.1.2.2.2.2.2.1:Nat):Int)else false,())
  else
   some (if((((List.length t2.1.2.2.2.2.2.1:Nat):Int):Int)==t2.1.2.2.2.2.1)=true then decide ((t2.1.2.2.2.2.1:Int)≤(2:Int))else false,()))
def mI (k:Nat) (x:aL×Int×Unit):Option (Bool×Unit):=
 Option.bind ((if(((decide ((x.1.2.2.2.2.2.2.2.2:Int)<(0:Int))):Bool)==false)=true then bE k (x.1.2.1,(0:Int),(2:Int),())else some (false,()))) fun r1=>
 Option.bind ((if(((if(decide ((x.1.2.2.2.2.2.2.2.2:Int)<(0:Int)))=true then true else !r1.1):Bool)==false)=true then bE k (x.2.1,(0:Int),(4:Int),())else some (false,()))) fun r2=>
 Option.bind ((if(((if(if(decide ((x.1.2.2.2.2.2.2.2.2:Int)<(0:Int)))=true then true else !r1.1)=true then true else !r2.1):Bool)==false)=true then gq k (x.1.2.2.2.2.2.2.1,())else some (false,()))) fun r3=>
 if(if(if(if(if(if(decide ((x.1.2.2.2.2.2.2.2.2:Int)<(0:Int)))=true then true else !r1.1)=true then true else !r2.1)=true then true else !r3.1)=true then true else decide ((x.1.2.2.2.2.1:Int)<(0:Int)))=true then true else decide ((x.1.2.2.2.2.2.2.2.1:Int)<(0:Int)))=true then
  some (false,())
 else
  if((x.1.1:Int)==(0:Int))=true then
   Option.bind ((if((((x.1.2.1:Int)==(0:Int)):Bool)==true)=true then eU k (x.1.2.2.1,())else some (false,()))) fun r4=>
   some (if(if(if(if(if((x.1.2.1:Int)==(0:Int))=true then r4.1 else false)=true then(((List.length x.1.2.2.2.1:Nat):Int):Int)==(0:Int)else false)=true then if(if((x.1.2.2.2.2.1:Int)==(0:Int))=true then(((List.length x.1.2.2.2.2.2.1:Nat):Int):Int)==(0:Int)else false)=true then(((List.length x.1.2.2.2.2.2.2.1:Nat):Int):Int)==(0:Int)else false else false)=true then(x.1.2.2.2.2.2.2.2.1:Int)==(0:Int)else false)=true then(x.1.2.2.2.2.2.2.2.2:Int)==(0:Int)else false,())
  else
   if((x.1.1:Int)==(1:Int))=true then
    Option.bind ((if(((decide ((x.2.1:Int)<(3:Int))):Bool)==true)=true then du k (x.1.2.2.1,())else some (false,()))) fun r5=>
    some (if(if(if(if(decide ((x.2.1:Int)<(3:Int)))=true then r5.1 else false)=true then(((List.length x.1.2.2.2.1:Nat):Int):Int)==(0:Int)else false)=true then if(if((x.1.2.2.2.2.1:Int)==(0:Int))=true then(((List.length x.1.2.2.2.2.2.1:Nat):Int):Int)==(0:Int)else false)=true then(((List.length x.1.2.2.2.2.2.2.1:Nat):Int):Int)==(0:Int)else false else false)=true then(x.1.2.2.2.2.2.2.2.1:Int)==(0:Int)else false,())
   else
    if((x.1.1:Int)==(2:Int))=true then
     Option.bind ((if(((if(decide ((x.2.1:Int)<(3:Int)))=true then decide ((x.1.2.1:Int)<(2:Int))else false):Bool)==true)=true then eU k (x.1.2.2.1,())else some (false,()))) fun r6=>
     Option.bind ((if(((if(if(decide ((x.2.1:Int)<(3:Int)))=true then decide ((x.1.2.1:Int)<(2:Int))else false)=true then r6.1 else false):Bool)==true)=true then fi k (x.1.2.2.2.1,())else some (false,()))) fun r7=>
     some (if(if(if(if(if(decide ((x.2.1:Int)<(3:Int)))=true then decide ((x.1.2.1:Int)<(2:Int))else false)=true then r6.1 else false)=true then r7.1 else false)=true then if(if((x.1.2.2.2.2.1:Int)==(0:Int))=true then(((List.length x.1.2.2.2.2.2.1:Nat):Int):Int)==(0:Int)else false)=true then(((List.length x.1.2.2.2.2.2.2.1:Nat):Int):Int)==(0:Int)else false else false)=true then(x.1.2.2.2.2.2.2.2.1:Int)==(0:Int)else false,())
    else
     if((x.1.1:Int)==(3:Int))=true then
      Option.bind ((if(((decide ((x.2.1:Int)<(3:Int))):Bool)==true)=true then eU k (x.1.2.2.1,())else some (false,()))) fun r8=>
      Option.bind ((if(((if(if(if(decide ((x.2.1:Int)<(3:Int)))=true then r8.1 else false)=true then(((List.length x.1.2.2.2.1:Nat):Int):Int)==(0:Int)else false)=true then(x.1.2.2.2.2.2.2.2.1:Int)==(0:Int)else false):Bool)==true)=true then lB k (x.1,())else some (false,()))) fun r9=>
      some (if(if(if(if(decide ((x.2.1:Int)<(3:Int)))=true then r8.1 else false)=true then(((List.length x.1.2.2.2.1:Nat):Int):Int)==(0:Int)else false)=true then(x.1.2.2.2.2.2.2.2.1:Int)==(0:Int)else false)=true then r9.1 else false,())
     else
      if((x.1.1:Int)==(4:Int))=true then
       Option.bind ((if(((if(decide ((x.2.1:Int)<(3:Int)))=true then decide ((x.1.2.1:Int)<(2:Int))else false):Bool)==true)=true then eU k (x.1.2.2.1,())else some (false,()))) fun r10=>
       some (if(if(if(if(if(if(if(decide ((x.2.1:Int)<(3:Int)))=true then decide ((x.1.2.1:Int)<(2:Int))else false)=true then r10.1 else false)=true then(((List.length x.1.2.2.2.1:Nat):Int):Int)==(0:Int)else false)=true then(x.1.2.2.2.2.2.2.2.1:Int)==(0:Int)else false)=true then decide ((x.1.2.2.2.2.1:Int)≤(2:Int))else false)=true then(((List.length x.1.2.2.2.2.2.1:Nat):Int):Int)==(0:Int)else false)=true then(((List.length x.1.2.2.2.2.2.2.1:Nat):Int):Int)==(0:Int)else false,())
      else
       if((x.1.1:Int)==(5:Int))=true then
        Option.bind ((if(((if((x.2.1:Int)==(3:Int))=true then decide ((x.1.2.1:Int)<(2:Int))else false):Bool)==true)=true then du k (x.1.2.2.1,())else some (false,()))) fun r11=>
        some (if(if(if(if(if((x.2.1:Int)==(3:Int))=true then decide ((x.1.2.1:Int)<(2:Int))else false)=true then r11.1 else false)=true then(((List.length x.1.2.2.2.1:Nat):Int):Int)==(0:Int)else false)=true then if(if((x.1.2.2.2.2.1:Int)==(0:Int))=true then(((List.length x.1.2.2.2.2.2.1:Nat):Int):Int)==(0:Int)else false)=true then(((List.length x.1.2.2.2.2.2.2.1:Nat):Int):Int)==(0:Int)else false else false)=true then(x.1.2.2.2.2.2.2.2.1:Int)==(0:Int)else false,())
       else
        if((x.1.1:Int)==(6:Int))=true then
         Option.bind ((if(((if((x.2.1:Int)==(4:Int))=true then decide ((x.1.2.1:Int)<(2:Int))else false):Bool)==true)=true then eU k (x.1.2.2.1,())else some (false,()))) fun r12=>
         some (if(if(if(if((x.2.1:Int)==(4:Int))=true then decide ((x.1.2.1:Int)<(2:Int))else false)=true then r12.1 else false)=true then(((List.length x.1.2.2.2.1:Nat):Int):Int)==(0:Int)else false)=true then if(if((x.1.2.2.2.2.1:Int)==(0:Int))=true then(((List.length x.1.2.2.2.2.2.1:Nat):Int):Int)==(0:Int)else false)=true then(((List.length x.1.2.2.2.2.2.2.1:Nat):Int):Int)==(0:Int)else false else false,())
        else
         some (false,())
def ep (k:Nat) (x:Int×Unit):Option (Int×Unit):=
 if(decide (0≤x.1∧x.1<((List.length ([(0:Int),(1:Int),(3:Int),(4:Int),(6:Int),(7:Int),(8:Int)]:List Int):Nat):Int)))=true then
  some (List.getD ([(0:Int),(1:Int),(3:Int),(4:Int),(6:Int),(7:Int),(8:Int)]:List Int) (Int.toNat x.1) 0,())
 else
  none
def ng (k:Nat) (x:List aG×List ai×Unit):Option (Int×Unit):=
 Option.bind (dP k (x.2.1,())) fun r1=>
 Option.bind (eG k (r1.1,((List.length x.1:Nat):Int),())) fun r2=>
 some (r2.1,())
def pR (k:Nat) (x:aG×Int×Unit):Option (Int×Unit):=
 az k (fun G1 (t2:Int×aG×Int×Unit)=>
  if(decide ((t2.2.2.1:Int)<((List.length t2.2.1.2.2:Nat):Int)))=true then
   if(decide (0≤t2.2.2.1∧t2.2.2.1<((List.length t2.2.1.2.2:Nat):Int)))=true then
    if((((List.getD t2.2.1.2.2 (Int.toNat t2.2.2.1) ay.aa).1):Int)==t2.1)=true then
     some (t2.2.2.1,())
    else
     G1 (t2.1,t2.2.1,IntKind.i64.wrap (t2.2.2.1+(1:Int)),())
   else
    none
  else
   some ((-1:Int),())) (x.2.1,x.1,(0:Int),())
def lv (k:Nat) (x:aZ×List ai×Unit):Option (Int×Unit):=
 az k (fun G1 (t2:List ai×aZ×Int×Unit)=>
  if(decide ((t2.2.2.1:Int)<((List.length t2.2.1.2:Nat):Int)))=true then
   if(decide (0≤t2.2.2.1∧t2.2.2.1<((List.length t2.2.1.2:Nat):Int)))=true then
    Option.bind (cL k ((List.getD t2.2.1.2 (Int.toNat t2.2.2.1) ab.aa).1,t2.1,())) fun r3=>
    if r3.1=true then
     some (t2.2.2.1,())
    else
     G1 (t2.1,t2.2.1,IntKind.i64.wrap (t2.2.2.1+(1:Int)),())
   else
    none
  else
   some ((-1:Int),())) (x.2.1,x.1,(0:Int),())
def mO (k:Nat) (x:aG×List ai×Unit):Option (al×Bool×Unit):=
 Option.bind (dP k (x.2.1,())) fun r1=>
 Option.bind (pR k (x.1,r1.1,())) fun r2=>
 if(decide ((r2.1:Int)<(0:Int)))=true then
  some ((([]:List ai),0,0,ByteArray.empty),false,())
 else
  if(decide (0≤r2.1∧r2.1<((List.length x.1.2.2:Nat):Int)))=true then
   Option.bind (lv k (List.getD x.1.2.2 (Int.toNat r2.1) ay.aa,x.2.1,())) fun r3=>
   if(decide ((r3.1:Int)<(0:Int)))=true then
    some ((([]:List ai),0,0,ByteArray.empty),false,())
   else
    if(decide (0≤r2.1∧r2.1<((List.length x.1.2.2:Nat):Int)))=true then
     if(decide (0≤r3.1∧r3.1<((List.length ((List.getD x.1.2.2 (Int.toNat r2.1) ay.aa).2):Nat):Int)))=true then
      Option.bind (dN k (List.getD ((List.getD x.1.2.2 (Int.toNat r2.1) ay.aa).2) (Int.toNat r3.1) ab.aa,())) fun r4=>
      some (r4.1,true,())
     else
      none
    else
     none
  else
   none
def jt (k:Nat) (x:List aG×List ai×Unit):Option (al×Bool×Unit):=
 if((((List.length x.1:Nat):Int):Int)==(0:Int))=true then
  some ((([]:List ai),0,0,ByteArray.empty),false,())
 else
  Option.bind (ng k (x.1,x.2.1,())) fun r1=>
  if(decide (0≤r1.1∧r1.1<((List.length x.1:Nat):Int)))=true then
   Option.bind (mO k (List.getD x.1 (Int.toNat r1.1) ak.aa,x.2.1,())) fun r2=>
   some (r2.1,r2.2.1,())
  else
   none
def mM (k:Nat) (x:List al×List al×Unit):Option (Bool×Unit):=
 if((((List.length x.1:Nat):Int):Int) != ((List.length x.2.1:Nat):Int))=true then
  some (false,())
 else
  az k (fun G1 (t2:List al×List al×Int×Unit)=>
   if(decide ((t2.2.2.1:Int)<((List.length t2.1:Nat):Int)))=true then
    if(decide (0≤t2.2.2.1∧t2.2.2.1<((List.length t2.1:Nat):Int)))=true then
     if(decide (0≤t2.2.2.1∧t2.2.2.1<((List.length t2.2.1:Nat):Int)))=true then
      Option.bind (cT k (List.getD t2.1 (Int.toNat t2.2.2.1) ab.aa,List.getD t2.2.1 (Int.toNat t2.2.2.1) ab.aa,())) fun r3=>
      if(!r3.1)=true then
       some (false,())
      else
       G1 (t2.1,t2.2.1,IntKind.i64.wrap (t2.2.2.1+(1:Int)),())
     else
      none
    else
     none
   else
    some (true,())) (x.1,x.2.1,(0:Int),())
def eZ (k:Nat) (x:ar×aL×Unit):Option (Bool×Unit):=
 aP (fun J1=>
  az k (fun G3 (t4:ar×aL×List al×Bool×Int×Unit)=>
   if(decide ((t4.2.2.2.2.1:Int)<((List.length t4.2.1.2.2.2.2.2.1:Nat):Int)))=true then
    if(decide (0≤t4.2.2.2.2.1∧t4.2.2.2.2.1<((List.length t4.2.1.2.2.2.2.2.1:Nat):Int)))=true then
     if(decide (0≤t4.2.2.2.2.1∧t4.2.2.2.2.1<((List.length t4.1.2.2.2.1:Nat):Int)))=true then
      if(decide (((List.getD t4.2.1.2.2.2.2.2.1 (Int.toNat t4.2.2.2.2.1) 0):Int)>(((List.getD t4.1.2.2.2.1 (Int.toNat t4.2.2.2.2.1) ak.aa).2).1)))=true then
       some (false,())
      else
       if(!((t4.2.2.2.1:Bool)==true)||(decide (0≤t4.2.2.2.2.1∧t4.2.2.2.2.1<((List.length t4.2.1.2.2.2.2.2.1:Nat):Int))))=true then
        if(!((t4.2.2.2.1:Bool)==true)||(decide (0≤t4.2.2.2.2.1∧t4.2.2.2.2.1<((List.length t4.1.2.2.2.1:Nat):Int))))=true then
         if(decide (0≤t4.2.2.2.2.1∧t4.2.2.2.2.1<((List.length t4.1.2.2.2.1:Nat):Int)))=true then
          Option.bind (gH k (List.getD t4.1.2.2.2.1 (Int.toNat t4.2.2.2.2.1) ak.aa,())) fun r5=>
          if(decide (List.length t4.2.2.1+List.length r5.1<4294967296))=true then
           G3 (t4.1,t4.2.1,t4.2.2.1++r5.1,if t4.2.2.2.1=true then((List.getD t4.2.1.2.2.2.2.2.1 (Int.toNat t4.2.2.2.2.1) 0):Int)==(((List.getD t4.1.2.2.2.1 (Int.toNat t4.2.2.2.2.1) ak.aa).2).1)else false,IntKind.i64.wrap (t4.2.2.2.2.1+(1:Int)),())
          else
           none
         else
          none
        else
         none
       else
        none
     else
      none
    else
     none
   else
    J1 (t4.1,t4.2.1,t4.2.2.1,t4.2.2.2.1,())) (x.1,x.2.1,([]:List al),true,(0:Int),())) (fun(t2:ar×aL×List al×Bool×Unit)=>
  Option.bind ((if(((!t2.2.2.2.1):Bool)==false)=true then mM k (t2.2.2.1,t2.2.1.2.2.2.2.2.2.1,())else some (false,()))) fun r6=>
  some (if(!t2.2.2.2.1)=true then true else r6.1,()))
def lS (k:Nat) (x:ar×Int×Unit):Option (Bool×Unit):=
 if(decide (0≤x.2.1∧x.2.1<((List.length x.1.2.2.2.2.2.2.2.2.2.2.2.2.1:Nat):Int)))=true then
  Option.bind (mI k (List.getD x.1.2.2.2.2.2.2.2.2.2.2.2.2.1 (Int.toNat x.2.1) ah.aa,x.2.1,())) fun r1=>
  if(!r1.1)=true then
   some (false,())
  else
   if((((List.getD x.1.2.2.2.2.2.2.2.2.2.2.2.2.1 (Int.toNat x.2.1) ah.aa).1):Int)==(0:Int))=true then
    some (true,())
   else
    if(decide (((((((((((List.getD x.1.2.2.2.2.2.2.2.2.2.2.2.2.1 (Int.toNat x.2.1) ah.aa).2).2).2).2).2).2).2).2):Int)≥((List.length x.1.2.2.2.2.2.2.2.2.2.2.2.2.2:Nat):Int)))=true then
     some (false,())
    else
     if(decide (0≤(((((((((List.getD x.1.2.2.2.2.2.2.2.2.2.2.2.2.1 (Int.toNat x.2.1) ah.aa).2).2).2).2).2).2).2).2)∧(((((((((List.getD x.1.2.2.2.2.2.2.2.2.2.2.2.2.1 (Int.toNat x.2.1) ah.aa).2).2).2).2).2).2).2).2)<((List.length x.1.2.2.2.2.2.2.2.2.2.2.2.2.2:Nat):Int)))=true then
      Option.bind ((if(((if(((((List.getD x.1.2.2.2.2.2.2.2.2.2.2.2.2.2 (Int.toNat (((((((((List.getD x.1.2.2.2.2.2.2.2.2.2.2.2.2.1 (Int.toNat x.2.1) ah.aa).2).2).2).2).2).2).2).2)) aq.aa).2).1):Int) != x.2.1)=true then true else(((((((((((((List.getD x.1.2.2.2.2.2.2.2.2.2.2.2.2.2 (Int.toNat (((((((((List.getD x.1.2.2.2.2.2.2.2.2.2.2.2.2.1 (Int.toNat x.2.1) ah.aa).2).2).2).2).2).2).2).2)) aq.aa).2).2).2).2).2).2).2).2).2).2).2):Int) != (-1:Int)):Bool)==false)=true then ep k ((List.getD x.1.2.2.2.2.2.2.2.2.2.2.2.2.1 (Int.toNat x.2.1) ah.aa).1,())else some (0,()))) fun r2=>
      if(if(if(if(((((List.getD x.1.2.2.2.2.2.2.2.2.2.2.2.2.2 (Int.toNat (((((((((List.getD x.1.2.2.2.2.2.2.2.2.2.2.2.2.1 (Int.toNat x.2.1) ah.aa).2).2).2).2).2).2).2).2)) aq.aa).2).1):Int) != x.2.1)=true then true else(((((((((((((List.getD x.1.2.2.2.2.2.2.2.2.2.2.2.2.2 (Int.toNat (((((((((List.getD x.1.2.2.2.2.2.2.2.2.2.2.2.2.1 (Int.toNat x.2.1) ah.aa).2).2).2).2).2).2).2).2)) aq.aa).2).2).2).2).2).2).2).2).2).2).2):Int) != (-1:Int))=true then true else(((List.getD x.1.2.2.2.2.2.2.2.2.2.2.2.2.2 (Int.toNat (((((((((List.getD x.1.2.2.2.2.2.2.2.2.2.2.2.2.1 (Int.toNat x.2.1) ah.aa).2).2).2).2).2).2).2).2)) aq.aa).1):Int) != r2.1)=true then true else !((((((((((((((((List.getD x.1.2.2.2.2.2.2.2.2.2.2.2.2.2 (Int.toNat (((((((((List.getD x.1.2.2.2.2.2.2.2.2.2.2.2.2.1 (Int.toNat x.2.1) ah.aa).2).2).2).2).2).2).2).2)) aq.aa).2).2).2).2).2).2).2).2).2).2).1):Int) != (-1:Int)):Bool)==(if((((List.getD x.1.2.2.2.2.2.2.2.2.2.2.2.2.1 (Int.toNat x.2.1) ah.aa).1):Int)==(1:Int))=true then((((List.getD x.1.2.2.2.2.2.2.2.2.2.2.2.2.1 (Int.toNat x.2.1) ah.aa).2).1):Int)==(2:Int)else false)))=true then
       some (false,())
      else
       aP (fun J3=>
        if((((List.getD x.1.2.2.2.2.2.2.2.2.2.2.2.2.1 (Int.toNat x.2.1) ah.aa).1):Int)==(1:Int))=true then
         if(((((List.getD x.1.2.2.2.2.2.2.2.2.2.2.2.2.1 (Int.toNat x.2.1) ah.aa).2).1):Int)==(2:Int))=true then
          Option.bind (jt k (x.1.2.2.2.1,((((List.getD x.1.2.2.2.2.2.2.2.2.2.2.2.2.1 (Int.toNat x.2.1) ah.aa).2).2).1).1,())) fun r5=>
          Option.bind ((if((r5.2.1:Bool)==true)=true then cT k (r5.1,(((List.getD x.1.2.2.2.2.2.2.2.2.2.2.2.2.1 (Int.toNat x.2.1) ah.aa).2).2).1,())else some (false,()))) fun r6=>
          Option.bind ((if(((if r5.2.1=true then r6.1 else false):Bool)==true)=true then cL k (((((List.getD x.1.2.2.2.2.2.2.2.2.2.2.2.2.2 (Int.toNat (((((((((List.getD x.1.2.2.2.2.2.2.2.2.2.2.2.2.1 (Int.toNat x.2.1) ah.aa).2).2).2).2).2).2).2).2)) aq.aa).2).2).1).1,((((List.getD x.1.2.2.2.2.2.2.2.2.2.2.2.2.1 (Int.toNat x.2.1) ah.aa).2).2).1).1,())else some (false,()))) fun r7=>
          some (if(if r5.2.1=true then r6.1 else false)=true then r7.1 else false,())
         else
          Option.bind (cT k ((((List.getD x.1.2.2.2.2.2.2.2.2.2.2.2.2.2 (Int.toNat (((((((((List.getD x.1.2.2.2.2.2.2.2.2.2.2.2.2.1 (Int.toNat x.2.1) ah.aa).2).2).2).2).2).2).2).2)) aq.aa).2).2).1,(((List.getD x.1.2.2.2.2.2.2.2.2.2.2.2.2.1 (Int.toNat x.2.1) ah.aa).2).2).1,())) fun r8=>
          Option.bind ((if((r8.1:Bool)==true)=true then mw k (x.1.1,(((List.getD x.1.2.2.2.2.2.2.2.2.2.2.2.2.1 (Int.toNat x.2.1) ah.aa).2).2).1,())else some (false,()))) fun r9=>
          some (if r8.1=true then r9.1 else false,())
        else
         if((((List.getD x.1.2.2.2.2.2.2.2.2.2.2.2.2.1 (Int.toNat x.2.1) ah.aa).1):Int)==(2:Int))=true then
          Option.bind (cL k (((((List.getD x.1.2.2.2.2.2.2.2.2.2.2.2.2.2 (Int.toNat (((((((((List.getD x.1.2.2.2.2.2.2.2.2.2.2.2.2.1 (Int.toNat x.2.1) ah.aa).2).2).2).2).2).2).2).2)) aq.aa).2).2).2).1,((((List.getD x.1.2.2.2.2.2.2.2.2.2.2.2.2.1 (Int.toNat x.2.1) ah.aa).2).2).2).1,())) fun r10=>
          some (r10.1,())
         else
          if((((List.getD x.1.2.2.2.2.2.2.2.2.2.2.2.2.1 (Int.toNat x.2.1) ah.aa).1):Int)==(3:Int))=true then
           if((((List.getD x.1.2.2.2.2.2.2.2.2.2.2.2.2.1 (Int.toNat x.2.1) ah.aa).1):Int)==(3:Int))=true then
            if(((((List.getD x.1.2.2.2.2.2.2.2.2.2.2.2.2.1 (Int.toNat x.2.1) ah.aa).2).1):Int)==(2:Int))=true then
             Option.bind ((if((((((List.length (((((((List.getD x.1.2.2.2.2.2.2.2.2.2.2.2.2.1 (Int.toNat x.2.1) ah.aa).2).2).2).2).2).1):Nat):Int):Int)==x.1.1.1):Bool)==true)=true then eZ k (x.1,List.getD x.1.2.2.2.2.2.2.2.2.2.2.2.2.1 (Int.toNat x.2.1) ah.aa,())else some (false,()))) fun r11=>
             some (if((((List.length (((((((List.getD x.1.2.2.2.2.2.2.2.2.2.2.2.2.1 (Int.toNat x.2.1) ah.aa).2).2).2).2).2).1):Nat):Int):Int)==x.1.1.1)=true then r11.1 else false,())
            else
             Option.bind ((if(((decide ((((((((List.getD x.1.2.2.2.2.2.2.2.2.2.2.2.2.1 (Int.toNat x.2.1) ah.aa).2).2).2).2).1):Int)<x.1.1.1)):Bool)==true)=true then eZ k (x.1,List.getD x.1.2.2.2.2.2.2.2.2.2.2.2.2.1 (Int.toNat x.2.1) ah.aa,())else some (false,()))) fun r12=>
             some (if(decide ((((((((List.getD x.1.2.2.2.2.2.2.2.2.2.2.2.2.1 (Int.toNat x.2.1) ah.aa).2).2).2).2).1):Int)<x.1.1.1))=true then r12.1 else false,())
           else
            if((((List.getD x.1.2.2.2.2.2.2.2.2.2.2.2.2.1 (Int.toNat x.2.1) ah.aa).1):Int)==(5:Int))=true then
             Option.bind (cT k ((((List.getD x.1.2.2.2.2.2.2.2.2.2.2.2.2.2 (Int.toNat (((((((((List.getD x.1.2.2.2.2.2.2.2.2.2.2.2.2.1 (Int.toNat x.2.1) ah.aa).2).2).2).2).2).2).2).2)) aq.aa).2).2).1,(((List.getD x.1.2.2.2.2.2.2.2.2.2.2.2.2.1 (Int.toNat x.2.1) ah.aa).2).2).1,())) fun r13=>
             some (r13.1,())
            else
             J3 (x.1,List.getD x.1.2.2.2.2.2.2.2.2.2.2.2.2.1 (Int.toNat x.2.1) ah.aa,List.getD x.1.2.2.2.2.2.2.2.2.2.2.2.2.2 (Int.toNat (((((((((List.getD x.1.2.2.2.2.2.2.2.2.2.2.2.2.1 (Int.toNat x.2.1) ah.aa).2).2).2).2).2).2).2).2)) aq.aa,())
          else
           if((((List.getD x.1.2.2.2.2.2.2.2.2.2.2.2.2.1 (Int.toNat x.2.1) ah.aa).1):Int)==(4:Int))=true then
            if(((((List.getD x.1.2.2.2.2.2.2.2.2.2.2.2.2.1 (Int.toNat x.2.1) ah.aa).2).1):Int)==(2:Int))=true then
             Option.bind ((if((((((List.length (((((((List.getD x.1.2.2.2.2.2.2.2.2.2.2.2.2.1 (Int.toNat x.2.1) ah.aa).2).2).2).2).2).1):Nat):Int):Int)==x.1.1.1):Bool)==true)=true then eZ k (x.1,List.getD x.1.2.2.2.2.2.2.2.2.2.2.2.2.1 (Int.toNat x.2.1) ah.aa,())else some (false,()))) fun r14=>
             some (if((((List.length (((((((List.getD x.1.2.2.2.2.2.2.2.2.2.2.2.2.1 (Int.toNat x.2.1) ah.aa).2).2).2).2).2).1):Nat):Int):Int)==x.1.1.1)=true then r14.1 else false,())
            else
             Option.bind ((if(((decide ((((((((List.getD x.1.2.2.2.2.2.2.2.2.2.2.2.2.1 (Int.toNat x.2.1) ah.aa).2).2).2).2).1):Int)<x.1.1.1)):Bool)==true)=true then eZ k (x.1,List.getD x.1.2.2.2.2.2.2.2.2.2.2.2.2.1 (Int.toNat x.2.1) ah.aa,())else some (false,()))) fun r15=>
             some (if(decide ((((((((List.getD x.1.2.2.2.2.2.2.2.2.2.2.2.2.1 (Int.toNat x.2.1) ah.aa).2).2).2).2).1):Int)<x.1.1.1))=true then r15.1 else false,())
           else
            if((((List.getD x.1.2.2.2.2.2.2.2.2.2.2.2.2.1 (Int.toNat x.2.1) ah.aa).1):Int)==(5:Int))=true then
             Option.bind (cT k ((((List.getD x.1.2.2.2.2.2.2.2.2.2.2.2.2.2 (Int.toNat (((((((((List.getD x.1.2.2.2.2.2.2.2.2.2.2.2.2.1 (Int.toNat x.2.1) ah.aa).2).2).2).2).2).2).2).2)) aq.aa).2).2).1,(((List.getD x.1.2.2.2.2.2.2.2.2.2.2.2.2.1 (Int.toNat x.2.1) ah.aa).2).2).1,())) fun r16=>
             some (r16.1,())
            else
             J3 (x.1,List.getD x.1.2.2.2.2.2.2.2.2.2.2.2.2.1 (Int.toNat x.2.1) ah.aa,List.getD x.1.2.2.2.2.2.2.2.2.2.2.2.2.2 (Int.toNat (((((((((List.getD x.1.2.2.2.2.2.2.2.2.2.2.2.2.1 (Int.toNat x.2.1) ah.aa).2).2).2).2).2).2).2).2)) aq.aa,())) (fun(t4:ar×aL×bg×Unit)=>
        some (if((t4.2.2.1.2.2.2.2.2.1:Int)==t4.2.1.2.2.2.2.2.2.2.1)=true then decide ((t4.2.1.2.2.2.2.2.2.2.1:Int)<t4.1.2.2.2.2.2.2.2.2.1)else false,()))
     else
      none
 else
  none
def jl (k:Nat) (x:aL×Int×Unit):Option (Int×Unit):=
 if(decide ((x.2.1:Int)<(1:Int)))=true then
  some ((-1:Int),())
 else
  if(if((x.1.1:Int)==(1:Int))=true then if((x.1.2.1:Int)==(1:Int))=true then true else(x.1.2.1:Int)==(2:Int)else false)=true then
   Option.bind (dP k (x.1.2.2.1.1,())) fun r1=>
   Option.bind (eG k (r1.1,x.2.1,())) fun r2=>
   some (r2.1,())
  else
   if(if((x.1.1:Int)==(2:Int))=true then(x.1.2.1:Int)==(1:Int)else false)=true then
    Option.bind (dP k (x.1.2.2.2.1,())) fun r3=>
    Option.bind (eG k (r3.1,x.2.1,())) fun r4=>
    some (r4.1,())
   else
    if(if(if((x.1.1:Int)==(3:Int))=true then true else(x.1.1:Int)==(4:Int))=true then(x.1.2.1:Int)==(1:Int)else false)=true then
     some (x.1.2.2.2.2.1,())
    else
     some ((-1:Int),())
def gC (k:Nat) (x:aL×Unit):Option (Bool×Unit):=
 some (if(if((x.1.1:Int)==(5:Int))=true then true else(x.1.1:Int)==(6:Int))=true then(x.1.2.1:Int)==(1:Int)else false,())
def gE (k:Nat) (x:ar×Unit):Option (Bool×Unit):=
 aP (fun J1=>
  az k (fun G3 (t4:ar×List Int×Int×Unit)=>
   if(decide ((t4.2.2.1:Int)<((List.length t4.1.2.2.2.1:Nat):Int)))=true then
    if(decide (List.length t4.2.1+List.length ([(-1:Int)]:List Int)<4294967296))=true then
     G3 (t4.1,t4.2.1++([(-1:Int)]:List Int),IntKind.i64.wrap (t4.2.2.1+(1:Int)),())
    else
     none
   else
    J1 (t4.1,t4.2.1,())) (x.1,([]:List Int),(0:Int),())) (fun(t2:ar×List Int×Unit)=>
  aP (fun J5=>
   az k (fun G7 (t8:ar×List Int×Int×Int×Unit)=>
    if(decide ((t8.2.2.2.1:Int)<((List.length t8.1.2.2.2.2.2.2.2.2.2.2.2.2.1:Nat):Int)))=true then
     if(decide (0≤t8.2.2.2.1∧t8.2.2.2.1<((List.length t8.1.2.2.2.2.2.2.2.2.2.2.2.2.1:Nat):Int)))=true then
      Option.bind (jl k (List.getD t8.1.2.2.2.2.2.2.2.2.2.2.2.2.1 (Int.toNat t8.2.2.2.1) ah.aa,((List.length t8.1.2.2.2.1:Nat):Int),())) fun r9=>
      aP (fun J10=>
       if(decide ((r9.1:Int)≥(0:Int)))=true then
        if(decide (0≤r9.1∧r9.1<((List.length t8.2.1:Nat):Int)))=true then
         if(((List.getD t8.2.1 (Int.toNat r9.1) 0):Int) != (-1:Int))=true then
          some (false,())
         else
          if(decide (0≤r9.1∧r9.1<((List.length t8.2.1:Nat):Int)))=true then
           J10 (t8.1,List.set t8.2.1 (Int.toNat r9.1) t8.2.2.2.1,t8.2.2.1,t8.2.2.2.1,())
          else
           none
        else
         none
       else
        J10 (t8.1,t8.2.1,t8.2.2.1,t8.2.2.2.1,())) (fun(t11:ar×List Int×Int×Int×Unit)=>
       if(decide (0≤t11.2.2.2.1∧t11.2.2.2.1<((List.length t11.1.2.2.2.2.2.2.2.2.2.2.2.2.1:Nat):Int)))=true then
        Option.bind (gC k (List.getD t11.1.2.2.2.2.2.2.2.2.2.2.2.2.1 (Int.toNat t11.2.2.2.1) ah.aa,())) fun r12=>
        if r12.1=true then
         if((t11.2.2.1:Int) != (-1:Int))=true then
          some (false,())
         else
          G7 (t11.1,t11.2.1,t11.2.2.2.1,IntKind.i64.wrap (t11.2.2.2.1+(1:Int)),())
        else
         G7 (t11.1,t11.2.1,t11.2.2.1,IntKind.i64.wrap (t11.2.2.2.1+(1:Int)),())
       else
        none)
     else
      none
    else
     J5 (t8.1,t8.2.1,t8.2.2.1,())) (t2.1,t2.2.1,(-1:Int),(0:Int),())) (fun(t6:ar×List Int×Int×Unit)=>
   aP (fun J13=>
    az k (fun G15 (t16:ar×List Int×Int×Int×Unit)=>
     if(decide ((t16.2.2.2.1:Int)<((List.length t16.1.2.2.2.1:Nat):Int)))=true then
      if(decide (0≤t16.2.2.2.1∧t16.2.2.2.1<((List.length t16.1.2.2.2.1:Nat):Int)))=true then
       if(decide (0≤t16.2.2.2.1∧t16.2.2.2.1<((List.length t16.2.1:Nat):Int)))=true then
        if((((List.getD t16.1.2.2.2.1 (Int.toNat t16.2.2.2.1) ak.aa).1):Int) != (List.getD t16.2.1 (Int.toNat t16.2.2.2.1) 0))=true then
         some (false,())
        else
         G15 (t16.1,t16.2.1,t16.2.2.1,IntKind.i64.wrap (t16.2.2.2.1+(1:Int)),())
       else
        none
      else
       none
     else
      J13 (t16.1,t16.2.2.1,())) (t6.1,t6.2.1,t6.2.2.1,(0:Int),())) (fun(t14:ar×Int×Unit)=>
    some ((t14.1.2.2.2.2.2.2.1:Int)==t14.2.1,()))))
def nZ (k:Nat) (x:List ByteArray×ByteArray×Unit):Option (Bool×Unit):=
 az k (fun G1 (t2:List ByteArray×ByteArray×Int×Unit)=>
  if(decide ((t2.2.2.1:Int)<((List.length t2.1:Nat):Int)))=true then
   if(decide (0≤t2.2.2.1∧t2.2.2.1<((List.length t2.1:Nat):Int)))=true then
    if(ByteArray.toList (List.getD t2.1 (Int.toNat t2.2.2.1) ByteArray.empty)==ByteArray.toList t2.2.1)=true then
     some (true,())
    else
     G1 (t2.1,t2.2.1,IntKind.i64.wrap (t2.2.2.1+(1:Int)),())
   else
    none
  else
   some (false,())) (x.1,x.2.1,(0:Int),())
def pC (k:Nat) (x:List ai×List ByteArray×Unit):Option (List ai×Unit):=
 az k (fun G1 (t2:List ai×List ByteArray×List ai×Int×Unit)=>
  if(decide ((t2.2.2.2.1:Int)<((List.length t2.1:Nat):Int)))=true then
   if(decide (0≤t2.2.2.2.1∧t2.2.2.2.1<((List.length t2.1:Nat):Int)))=true then
    Option.bind (nZ k (t2.2.1,(List.getD t2.1 (Int.toNat t2.2.2.2.1) af.aa).1,())) fun r3=>
    if r3.1=true then
     if(decide (0≤t2.2.2.2.1∧t2.2.2.2.1<((List.length t2.1:Nat):Int)))=true then
      if(decide (List.length t2.2.2.1+List.length ([List.getD t2.1 (Int.toNat t2.2.2.2.1) af.aa]:List ai)<4294967296))=true then
       G1 (t2.1,t2.2.1,t2.2.2.1++([List.getD t2.1 (Int.toNat t2.2.2.2.1) af.aa]:List ai),IntKind.i64.wrap (t2.2.2.2.1+(1:Int)),())
      else
       none
     else
      none
    else
     G1 (t2.1,t2.2.1,t2.2.2.1,IntKind.i64.wrap (t2.2.2.2.1+(1:Int)),())
   else
    none
  else
   some (t2.2.2.1,())) (x.1,x.2.1,([]:List ai),(0:Int),())
def nU (k:Nat) (x:al×List ByteArray×Unit):Option (List ai×Unit):=
 Option.bind (pC k (x.1.1,x.2.1,())) fun r1=>
 some (r1.1,())
def mb (k:Nat) (x:aJ×List ByteArray×Unit):Option (Bool×Unit):=
 aP (fun J1=>
  az k (fun G3 (t4:List ByteArray×aJ×Int×Unit)=>
   if(decide ((t4.2.2.1:Int)<((List.length t4.2.1.2.2.2.2:Nat):Int)))=true then
    if(decide (0≤t4.2.2.1∧t4.2.2.1<((List.length t4.2.1.2.2.2.2:Nat):Int)))=true then
     Option.bind (du k (List.getD t4.2.1.2.2.2.2 (Int.toNat t4.2.2.1) ab.aa,())) fun r5=>
     if(!((((!r5.1):Bool)==false)&&(((decide ((t4.2.2.1:Int)>(0:Int))):Bool)==true))||(decide (0≤(IntKind.i64.wrap (t4.2.2.1-(1:Int)))∧(IntKind.i64.wrap (t4.2.2.1-(1:Int)))<((List.length t4.2.1.2.2.2.2:Nat):Int))))=true then
      if(!((((!r5.1):Bool)==false)&&(((decide ((t4.2.2.1:Int)>(0:Int))):Bool)==true))||(decide (0≤t4.2.2.1∧t4.2.2.1<((List.length t4.2.1.2.2.2.2:Nat):Int))))=true then
       Option.bind ((if((((!r5.1):Bool)==false)&&(((decide ((t4.2.2.1:Int)>(0:Int))):Bool)==true))=true then iI k ((List.getD t4.2.1.2.2.2.2 (Int.toNat (IntKind.i64.wrap (t4.2.2.1-(1:Int)))) ab.aa).1,(List.getD t4.2.1.2.2.2.2 (Int.toNat t4.2.2.1) ab.aa).1,())else some (false,()))) fun r6=>
       if(!(((if(!r5.1)=true then true else if(decide ((t4.2.2.1:Int)>(0:Int)))=true then !r6.1 else false):Bool)==false)||(decide (0≤t4.2.2.1∧t4.2.2.1<((List.length t4.2.1.2.2.2.2:Nat):Int))))=true then
        Option.bind ((if(((if(!r5.1)=true then true else if(decide ((t4.2.2.1:Int)>(0:Int)))=true then !r6.1 else false):Bool)==false)=true then nU k (List.getD t4.2.1.2.2.2.2 (Int.toNat t4.2.2.1) ab.aa,t4.1,())else some (([]:List ai),()))) fun r7=>
        Option.bind ((if(((if(!r5.1)=true then true else if(decide ((t4.2.2.1:Int)>(0:Int)))=true then !r6.1 else false):Bool)==false)=true then cL k (r7.1,t4.2.1.2.1,())else some (false,()))) fun r8=>
        if(if(if(!r5.1)=true then true else if(decide ((t4.2.2.1:Int)>(0:Int)))=true then !r6.1 else false)=true then true else !r8.1)=true then
         some (false,())
        else
         G3 (t4.1,t4.2.1,IntKind.i64.wrap (t4.2.2.1+(1:Int)),())
       else
        none
      else
       none
     else
      none
    else
     none
   else
    J1 (t4.2.1,())) (x.2.1,x.1,(0:Int),())) (fun(t2:aJ×Unit)=>
  Option.bind ((if(((decide ((t2.1.1:Int)≥(0:Int))):Bool)==true)=true then fi k (t2.1.2.1,())else some (false,()))) fun r9=>
  Option.bind ((if(((if(decide ((t2.1.1:Int)≥(0:Int)))=true then r9.1 else false):Bool)==true)=true then bE k (t2.1.2.2.1,(0:Int),(99999:Int),())else some (false,()))) fun r10=>
  Option.bind ((if((((if(if(decide ((t2.1.1:Int)≥(0:Int)))=true then r9.1 else false)=true then r10.1 else false):Bool)==true)&&((((t2.1.2.2.2.1:Int)==(-1:Int)):Bool)==false))=true then bE k (t2.1.2.2.2.1,t2.1.2.2.1,(99999:Int),())else some (false,()))) fun r11=>
  some (if(if(if(if(decide ((t2.1.1:Int)≥(0:Int)))=true then r9.1 else false)=true then r10.1 else false)=true then if((t2.1.2.2.2.1:Int)==(-1:Int))=true then true else r11.1 else false)=true then decide ((((List.length t2.1.2.2.2.2:Nat):Int):Int)>(0:Int))else false,()))
def ky (k:Nat) (x:List aJ×List ByteArray×Unit):Option (Bool×Unit):=
 aP (fun J1=>
  az k (fun G3 (t4:List aJ×List ByteArray×Int×Unit)=>
   if(decide ((t4.2.2.1:Int)<((List.length t4.1:Nat):Int)))=true then
    if(decide (0≤t4.2.2.1∧t4.2.2.1<((List.length t4.1:Nat):Int)))=true then
     Option.bind (mb k (List.getD t4.1 (Int.toNat t4.2.2.1) aj.aa,t4.2.1,())) fun r5=>
     if(!((((!r5.1):Bool)==false)&&(((decide ((t4.2.2.1:Int)>(0:Int))):Bool)==true))||(decide (0≤(IntKind.i64.wrap (t4.2.2.1-(1:Int)))∧(IntKind.i64.wrap (t4.2.2.1-(1:Int)))<((List.length t4.1:Nat):Int))))=true then
      if(!((((!r5.1):Bool)==false)&&(((decide ((t4.2.2.1:Int)>(0:Int))):Bool)==true))||(decide (0≤t4.2.2.1∧t4.2.2.1<((List.length t4.1:Nat):Int))))=true then
       if(if(!r5.1)=true then true else if(decide ((t4.2.2.1:Int)>(0:Int)))=true then decide ((((List.getD t4.1 (Int.toNat (IntKind.i64.wrap (t4.2.2.1-(1:Int)))) aj.aa).1):Int)≥((List.getD t4.1 (Int.toNat t4.2.2.1) aj.aa).1))else false)=true then
        some (false,())
       else
        az k (fun G6 (t7:List aJ×List ByteArray×Int×Int×Unit)=>
         if(decide ((t7.2.2.2.1:Int)<t7.2.2.1))=true then
          if(decide (0≤t7.2.2.2.1∧t7.2.2.2.1<((List.length t7.1:Nat):Int)))=true then
           if(decide (0≤t7.2.2.1∧t7.2.2.1<((List.length t7.1:Nat):Int)))=true then
            Option.bind (cL k (((List.getD t7.1 (Int.toNat t7.2.2.2.1) aj.aa).2).1,((List.getD t7.1 (Int.toNat t7.2.2.1) aj.aa).2).1,())) fun r8=>
            if r8.1=true then
             some (false,())
            else
             G6 (t7.1,t7.2.1,t7.2.2.1,IntKind.i64.wrap (t7.2.2.2.1+(1:Int)),())
           else
            none
          else
           none
         else
          G3 (t7.1,t7.2.1,IntKind.i64.wrap (t7.2.2.1+(1:Int)),())) (t4.1,t4.2.1,t4.2.2.1,(0:Int),())
      else
       none
     else
      none
    else
     none
   else
    J1 (t4.1,())) (x.1,x.2.1,(0:Int),())) (fun(t2:List aJ×Unit)=>
  some (decide ((((List.length t2.1:Nat):Int):Int)≤(12:Int)),()))
def na (k:Nat) (x:bl×bl×Unit):Option (Bool×Unit):=
 some (if(decide ((x.1.1:Int)<x.2.1.1))=true then true else if((x.1.1:Int)==x.2.1.1)=true then decide ((x.1.2:Int)<x.2.1.2)else false,())
def mJ (k:Nat) (x:List bl×Unit):Option (Bool×Unit):=
 aP (fun J1=>
  az k (fun G3 (t4:List bl×Int×Unit)=>
   if(decide ((t4.2.1:Int)<((List.length t4.1:Nat):Int)))=true then
    if(decide (0≤t4.2.1∧t4.2.1<((List.length t4.1:Nat):Int)))=true then
     if(!(((decide ((((List.getD t4.1 (Int.toNat t4.2.1) aC.aa).1):Int)<(0:Int))):Bool)==false)||(decide (0≤t4.2.1∧t4.2.1<((List.length t4.1:Nat):Int))))=true then
      if(!((((if(decide ((((List.getD t4.1 (Int.toNat t4.2.1) aC.aa).1):Int)<(0:Int)))=true then true else decide ((((List.getD t4.1 (Int.toNat t4.2.1) aC.aa).2):Int)<(0:Int))):Bool)==false)&&(((decide ((t4.2.1:Int)>(0:Int))):Bool)==true))||(decide (0≤t4.2.1∧t4.2.1<((List.length t4.1:Nat):Int))))=true then
       if(!((((if(decide ((((List.getD t4.1 (Int.toNat t4.2.1) aC.aa).1):Int)<(0:Int)))=true then true else decide ((((List.getD t4.1 (Int.toNat t4.2.1) aC.aa).2):Int)<(0:Int))):Bool)==false)&&(((decide ((t4.2.1:Int)>(0:Int))):Bool)==true))||(decide ((2:Int)≠0)))=true then
        if(!((((if(decide ((((List.getD t4.1 (Int.toNat t4.2.1) aC.aa).1):Int)<(0:Int)))=true then true else decide ((((List.getD t4.1 (Int.toNat t4.2.1) aC.aa).2):Int)<(0:Int))):Bool)==false)&&(((decide ((t4.2.1:Int)>(0:Int))):Bool)==true))||(decide (0≤(IntKind.i64.wrap (Int.tdiv (IntKind.i64.wrap (t4.2.1-(1:Int))) (2:Int)))∧(IntKind.i64.wrap (Int.tdiv (IntKind.i64.wrap (t4.2.1-(1:Int))) (2:Int)))<((List.length t4.1:Nat):Int))))=true then
         Option.bind ((if((((if(decide ((((List.getD t4.1 (Int.toNat t4.2.1) aC.aa).1):Int)<(0:Int)))=true then true else decide ((((List.getD t4.1 (Int.toNat t4.2.1) aC.aa).2):Int)<(0:Int))):Bool)==false)&&(((decide ((t4.2.1:Int)>(0:Int))):Bool)==true))=true then na k (List.getD t4.1 (Int.toNat t4.2.1) aC.aa,List.getD t4.1 (Int.toNat (IntKind.i64.wrap (Int.tdiv (IntKind.i64.wrap (t4.2.1-(1:Int))) (2:Int)))) aC.aa,())else some (false,()))) fun r5=>
         if(if(if(decide ((((List.getD t4.1 (Int.toNat t4.2.1) aC.aa).1):Int)<(0:Int)))=true then true else decide ((((List.getD t4.1 (Int.toNat t4.2.1) aC.aa).2):Int)<(0:Int)))=true then true else if(decide ((t4.2.1:Int)>(0:Int)))=true then r5.1 else false)=true then
          some (false,())
         else
          G3 (t4.1,IntKind.i64.wrap (t4.2.1+(1:Int)),())
        else
         none
       else
        none
      else
       none
     else
      none
    else
     none
   else
    J1 (t4.1,())) (x.1,(0:Int),())) (fun(t2:List bl×Unit)=>
  some (decide ((((List.length t2.1:Nat):Int):Int)≤(16:Int)),()))
def pr (k:Nat) (x:aJ×Int×Int×Unit):Option (Int×Unit):=
 if((x.1.2.2.2.1:Int)==(-1:Int))=true then
  some (IntKind.i64.wrap (x.1.2.2.1+x.2.1),())
 else
  some (IntKind.i64.wrap (x.1.2.2.2.1+x.2.2.1),())
def rC (k:Nat) (x:cg×aJ×Unit):Option (Int×Unit):=
 Option.bind (pr k (x.2.1,x.1.2.2.2.1,x.1.2.2.2.2.1,())) fun r1=>
 some (r1.1,())
def fZ (k:Nat) (x:ar×Unit):Option (Bool×Unit):=
 Option.bind (ky k (x.1.2.2.2.2.2.2.2.1,x.1.1.2.2.2.2.2,())) fun r1=>
 Option.bind ((if(((!r1.1):Bool)==false)=true then mJ k (x.1.2.2.2.2.2.2.2.2.2.1,())else some (false,()))) fun r2=>
 if(if(!r1.1)=true then true else !r2.1)=true then
  some (false,())
 else
  aP (fun J3=>
   az k (fun G5 (t6:ar×Int×Unit)=>
    if(decide ((t6.2.1:Int)<((List.length t6.1.2.2.2.2.2.2.2.2.2.1:Nat):Int)))=true then
     if(decide (0≤t6.2.1∧t6.2.1<((List.length t6.1.2.2.2.2.2.2.2.2.2.1:Nat):Int)))=true then
      if(decide ((((List.getD t6.1.2.2.2.2.2.2.2.2.2.1 (Int.toNat t6.2.1) aC.aa).2):Int)≥t6.1.2.2.2.2.2.2.2.2.1))=true then
       some (false,())
      else
       az k (fun G7 (t8:ar×Int×Int×Unit)=>
        if(decide ((t8.2.2.1:Int)<t8.2.1))=true then
         if(decide (0≤t8.2.2.1∧t8.2.2.1<((List.length t8.1.2.2.2.2.2.2.2.2.2.1:Nat):Int)))=true then
          if(decide (0≤t8.2.1∧t8.2.1<((List.length t8.1.2.2.2.2.2.2.2.2.2.1:Nat):Int)))=true then
           if((((List.getD t8.1.2.2.2.2.2.2.2.2.2.1 (Int.toNat t8.2.2.1) aC.aa).2):Int)==((List.getD t8.1.2.2.2.2.2.2.2.2.2.1 (Int.toNat t8.2.1) aC.aa).2))=true then
            some (false,())
           else
            G7 (t8.1,t8.2.1,IntKind.i64.wrap (t8.2.2.1+(1:Int)),())
          else
           none
         else
          none
        else
         G5 (t8.1,IntKind.i64.wrap (t8.2.1+(1:Int)),())) (t6.1,t6.2.1,(0:Int),())
     else
      none
    else
     J3 (t6.1,())) (x.1,(0:Int),())) (fun(t4:ar×Unit)=>
   az k (fun G9 (t10:ar×Int×Unit)=>
    if(decide ((t10.2.1:Int)<((List.length t10.1.2.2.2.2.2.2.2.1:Nat):Int)))=true then
     if(decide (0≤t10.2.1∧t10.2.1<((List.length t10.1.2.2.2.2.2.2.2.1:Nat):Int)))=true then
      if(decide (0≤(4:Int)∧(4:Int)<((List.length t10.1.2.2.2.2.2.2.2.2.2.2.2.2.1:Nat):Int)))=true then
       if(!((((((List.getD t10.1.2.2.2.2.2.2.2.2.2.2.2.2.1 (Int.toNat (4:Int)) ah.aa).1):Int)==(6:Int)):Bool)==true)||(decide (0≤(4:Int)∧(4:Int)<((List.length t10.1.2.2.2.2.2.2.2.2.2.2.2.2.1:Nat):Int))))=true then
        aP (fun J11=>
         az k (fun G13 (t14:ar×Int×aJ×Bool×Int×Unit)=>
          if(decide ((t14.2.2.2.2.1:Int)<((List.length t14.1.2.2.2.2.2.2.2.2.2.1:Nat):Int)))=true then
           if(!((t14.2.2.2.1:Bool)==false)||(decide (0≤t14.2.2.2.2.1∧t14.2.2.2.2.1<((List.length t14.1.2.2.2.2.2.2.2.2.2.1:Nat):Int))))=true then
            if(!(((t14.2.2.2.1:Bool)==false)&&((((((List.getD t14.1.2.2.2.2.2.2.2.2.2.1 (Int.toNat t14.2.2.2.2.1) aC.aa).2):Int)==t14.2.2.1.1):Bool)==true))||(decide (0≤t14.2.2.2.2.1∧t14.2.2.2.2.1<((List.length t14.1.2.2.2.2.2.2.2.2.2.1:Nat):Int))))=true then
             Option.bind ((if(((t14.2.2.2.1:Bool)==false)&&((((((List.getD t14.1.2.2.2.2.2.2.2.2.2.1 (Int.toNat t14.2.2.2.2.1) aC.aa).2):Int)==t14.2.2.1.1):Bool)==true))=true then rC k (t14.1.1,t14.2.2.1,())else some (0,()))) fun r15=>
             G13 (t14.1,t14.2.1,t14.2.2.1,if t14.2.2.2.1=true then true else if((((List.getD t14.1.2.2.2.2.2.2.2.2.2.1 (Int.toNat t14.2.2.2.2.1) aC.aa).2):Int)==t14.2.2.1.1)=true then(((List.getD t14.1.2.2.2.2.2.2.2.2.2.1 (Int.toNat t14.2.2.2.2.1) aC.aa).1):Int)==r15.1 else false,IntKind.i64.wrap (t14.2.2.2.2.1+(1:Int)),())
            else
             none
           else
            none
          else
           J11 (t14.1,t14.2.1,t14.2.2.1,t14.2.2.2.1,())) (t10.1,t10.2.1,List.getD t10.1.2.2.2.2.2.2.2.1 (Int.toNat t10.2.1) aj.aa,if((((List.getD t10.1.2.2.2.2.2.2.2.2.2.2.2.2.1 (Int.toNat (4:Int)) ah.aa).1):Int)==(6:Int))=true then((((((((((List.getD t10.1.2.2.2.2.2.2.2.2.2.2.2.2.1 (Int.toNat (4:Int)) ah.aa).2).2).2).2).2).2).2).1):Int)==((List.getD t10.1.2.2.2.2.2.2.2.1 (Int.toNat t10.2.1) aj.aa).1)else false,(0:Int),())) (fun(t12:ar×Int×aJ×Bool×Unit)=>
         if(if(if(if(!t12.2.2.2.1)=true then true else decide ((t12.2.2.1.2.2.1:Int)>t12.1.2.2.1))=true then true else decide ((t12.2.2.1.2.2.2.1:Int)>t12.1.2.2.1))=true then true else decide ((t12.2.2.1.1:Int)≥t12.1.2.2.2.2.2.2.2.2.1))=true then
          some (false,())
         else
          G9 (t12.1,IntKind.i64.wrap (t12.2.1+(1:Int)),()))
       else
        none
      else
       none
     else
      none
    else
     some (true,())) (t4.1,(0:Int),()))
def lK (k:Nat) (x:ar×Unit):Option (Bool×Unit):=
 Option.bind (nc k (x.1.1,())) fun r1=>
 Option.bind ((if(((if(if(!r1.1)=true then true else decide ((x.1.2.1:Int)<(0:Int)))=true then true else decide ((x.1.2.2.2.2.2.2.2.2.1:Int)<(0:Int))):Bool)==false)=true then bE k (x.1.2.2.1,(0:Int),(99899:Int),())else some (false,()))) fun r2=>
 Option.bind ((if(((if(if(if(!r1.1)=true then true else decide ((x.1.2.1:Int)<(0:Int)))=true then true else decide ((x.1.2.2.2.2.2.2.2.2.1:Int)<(0:Int)))=true then true else !r2.1):Bool)==false)=true then kq k (x.1,())else some (false,()))) fun r3=>
 Option.bind ((if(((if(if(if(if(if(if(!r1.1)=true then true else decide ((x.1.2.1:Int)<(0:Int)))=true then true else decide ((x.1.2.2.2.2.2.2.2.2.1:Int)<(0:Int)))=true then true else !r2.1)=true then true else !r3.1)=true then true else(((List.length x.1.2.2.2.2.1:Nat):Int):Int) != x.1.1.2.2.1)=true then true else(((List.length x.1.2.2.2.2.2.2.2.2.2.2.2.2.1:Nat):Int):Int) != (5:Int)):Bool)==false)=true then gq k (x.1.2.2.2.2.2.1,())else some (false,()))) fun r4=>
 Option.bind ((if(((if(if(if(if(if(if(if(!r1.1)=true then true else decide ((x.1.2.1:Int)<(0:Int)))=true then true else decide ((x.1.2.2.2.2.2.2.2.2.1:Int)<(0:Int)))=true then true else !r2.1)=true then true else !r3.1)=true then true else(((List.length x.1.2.2.2.2.1:Nat):Int):Int) != x.1.1.2.2.1)=true then true else(((List.length x.1.2.2.2.2.2.2.2.2.2.2.2.2.1:Nat):Int):Int) != (5:Int))=true then true else !r4.1):Bool)==false)=true then gq k (x.1.2.2.2.2.2.2.2.2.2.2.2.1,())else some (false,()))) fun r5=>
 if(if(if(if(if(if(if(if(if(!r1.1)=true then true else decide ((x.1.2.1:Int)<(0:Int)))=true then true else decide ((x.1.2.2.2.2.2.2.2.2.1:Int)<(0:Int)))=true then true else !r2.1)=true then true else !r3.1)=true then true else(((List.length x.1.2.2.2.2.1:Nat):Int):Int) != x.1.1.2.2.1)=true then true else(((List.length x.1.2.2.2.2.2.2.2.2.2.2.2.2.1:Nat):Int):Int) != (5:Int))=true then true else !r4.1)=true then true else !r5.1)=true then
  some (false,())
 else
  aP (fun J6=>
   az k (fun G8 (t9:ar×Int×Unit)=>
    if(decide ((t9.2.1:Int)<((List.length t9.1.2.2.2.2.1:Nat):Int)))=true then
     if(decide (0≤t9.2.1∧t9.2.1<((List.length t9.1.2.2.2.2.1:Nat):Int)))=true then
      Option.bind (ow k (List.getD t9.1.2.2.2.2.1 (Int.toNat t9.2.1) aU.aa,())) fun r10=>
      if(!r10.1)=true then
       some (false,())
      else
       G8 (t9.1,IntKind.i64.wrap (t9.2.1+(1:Int)),())
     else
      none
    else
     J6 (t9.1,())) (x.1,(0:Int),())) (fun(t7:ar×Unit)=>
   aP (fun J11=>
    az k (fun G13 (t14:ar×Int×Unit)=>
     if(decide ((t14.2.1:Int)<((List.length t14.1.2.2.2.2.2.2.2.2.2.2.2.2.2:Nat):Int)))=true then
      if(decide (0≤t14.2.1∧t14.2.1<((List.length t14.1.2.2.2.2.2.2.2.2.2.2.2.2.2:Nat):Int)))=true then
       Option.bind (gp k (List.getD t14.1.2.2.2.2.2.2.2.2.2.2.2.2.2 (Int.toNat t14.2.1) aq.aa,())) fun r15=>
       if(if(if(if(!r15.1)=true then true else decide (((((((((((((List.getD t14.1.2.2.2.2.2.2.2.2.2.2.2.2.2 (Int.toNat t14.2.1) aq.aa).2).2).2).2).2).2).2).2).2).1):Int)≥t14.1.2.1))=true then true else decide ((((((((((((((List.getD t14.1.2.2.2.2.2.2.2.2.2.2.2.2.2 (Int.toNat t14.2.1) aq.aa).2).2).2).2).2).2).2).2).2).2).1):Int)≥t14.1.2.1))=true then true else decide ((((((((((((((List.getD t14.1.2.2.2.2.2.2.2.2.2.2.2.2.2 (Int.toNat t14.2.1) aq.aa).2).2).2).2).2).2).2).2).2).2).2):Int)≥t14.1.2.1))=true then
        some (false,())
       else
        G13 (t14.1,IntKind.i64.wrap (t14.2.1+(1:Int)),())
      else
       none
     else
      J11 (t14.1,())) (t7.1,(0:Int),())) (fun(t12:ar×Unit)=>
    aP (fun J16=>
     az k (fun G18 (t19:ar×Int×Unit)=>
      if(decide ((t19.2.1:Int)<((List.length t19.1.2.2.2.2.2.2.2.2.2.2.2.2.1:Nat):Int)))=true then
       Option.bind (lS k (t19.1,t19.2.1,())) fun r20=>
       if(!r20.1)=true then
        some (false,())
       else
        G18 (t19.1,IntKind.i64.wrap (t19.2.1+(1:Int)),())
      else
       J16 (t19.1,())) (t12.1,(0:Int),())) (fun(t17:ar×Unit)=>
     Option.bind (gE k (t17.1,())) fun r21=>
     Option.bind ((if((r21.1:Bool)==true)=true then fZ k (t17.1,())else some (false,()))) fun r22=>
     some (if r21.1=true then r22.1 else false,()))))
def pO (k:Nat) (x:ar×Int×Unit):Option (Bool×Unit):=
 Option.bind (bE k (x.2.1,(0:Int),IntKind.i64.wrap (((List.length x.1.2.2.2.2.2.2.2.2.2.2.2.2.1:Nat):Int)-(1:Int)),())) fun r1=>
 if(!((r1.1:Bool)==true)||(decide (0≤x.2.1∧x.2.1<((List.length x.1.2.2.2.2.2.2.2.2.2.2.2.2.1:Nat):Int))))=true then
  some (if r1.1=true then(((List.getD x.1.2.2.2.2.2.2.2.2.2.2.2.2.1 (Int.toNat x.2.1) ah.aa).1):Int)==(0:Int)else false,())
 else
  none
def oz (k:Nat) (x:ar×Int×aL×Unit):Option (ar×Unit):=
 Option.bind (ir k (x.2.2.1,())) fun r1=>
 if(decide (0≤x.2.1∧x.2.1<((List.length x.1.2.2.2.2.2.2.2.2.2.2.2.2.1:Nat):Int)))=true then
  Option.bind (ep k (x.2.2.1.1,())) fun r2=>
  Option.bind (dN k (x.2.2.1.2.2.1,())) fun r3=>
  if(decide (List.length ([]:List ai)+List.length x.2.2.1.2.2.2.1<4294967296))=true then
   if(decide (List.length x.1.2.2.2.2.2.2.2.2.2.2.2.2.2+List.length ([(r2.1,x.2.1,r3.1,([]:List ai)++x.2.2.1.2.2.2.1,0,x.2.2.1.2.2.2.2.2.2.2.1,0,([]:List al),x.1.2.2.1,x.1.2.1,(-1:Int),(-1:Int))]:List bg)<4294967296))=true then
    some ((x.1.1,x.1.2.1,x.1.2.2.1,x.1.2.2.2.1,x.1.2.2.2.2.1,x.1.2.2.2.2.2.1,x.1.2.2.2.2.2.2.1,x.1.2.2.2.2.2.2.2.1,x.1.2.2.2.2.2.2.2.2.1,x.1.2.2.2.2.2.2.2.2.2.1,x.1.2.2.2.2.2.2.2.2.2.2.1,x.1.2.2.2.2.2.2.2.2.2.2.2.1,List.set x.1.2.2.2.2.2.2.2.2.2.2.2.2.1 (Int.toNat x.2.1) (r1.1.1,r1.1.2.1,r1.1.2.2.1,r1.1.2.2.2.1,r1.1.2.2.2.2.1,r1.1.2.2.2.2.2.1,r1.1.2.2.2.2.2.2.1,r1.1.2.2.2.2.2.2.2.1,((List.length x.1.2.2.2.2.2.2.2.2.2.2.2.2.2:Nat):Int)),x.1.2.2.2.2.2.2.2.2.2.2.2.2.2++([(r2.1,x.2.1,r3.1,([]:List ai)++x.2.2.1.2.2.2.1,0,x.2.2.1.2.2.2.2.2.2.2.1,0,([]:List al),x.1.2.2.1,x.1.2.1,(-1:Int),(-1:Int))]:List bg)),())
   else
    none
  else
   none
 else
  none
def kt (k:Nat) (x:ar×Int×aL×Unit):Option (ar×Unit):=
 Option.bind (oz k (x.1,x.2.1,x.2.2.1,())) fun r1=>
 some ((r1.1.1,IntKind.i64.wrap (r1.1.2.1+(1:Int)),r1.1.2.2),())
def pQ (k:Nat) (x:ar×Int×List ai×Unit):Option (ar×Bool×Unit):=
 Option.bind (lL k (x.1,())) fun r1=>
 Option.bind (lK k (x.1,())) fun r2=>
 Option.bind ((if(((!r2.1):Bool)==false)=true then bE k (x.2.1,(0:Int),(2:Int),())else some (false,()))) fun r3=>
 Option.bind ((if(((if(!r2.1)=true then true else !r3.1):Bool)==false)=true then pO k (x.1,x.2.1,())else some (false,()))) fun r4=>
 Option.bind ((if(((if(if(!r2.1)=true then true else !r3.1)=true then true else !r4.1):Bool)==false)=true then fi k (x.2.2.1,())else some (false,()))) fun r5=>
 if(if(if(if(!r2.1)=true then true else !r3.1)=true then true else !r4.1)=true then true else !r5.1)=true then
  some (r1.1,false,())
 else
  Option.bind (kt k (r1.1,x.2.1,((2:Int),0,(([]:List ai),0,0,ByteArray.empty),x.2.2.1,0,([]:List Int),([]:List al),0,0),())) fun r6=>
  some (r6.1,true,())
def kA (k:Nat) (x:cg×Unit):Option (cg×Unit):=
 if(decide (List.length ([]:List ByteArray)+List.length x.1.2.2.2.2.2<4294967296))=true then
  some ((x.1.1,x.1.2.1,x.1.2.2.1,x.1.2.2.2.1,x.1.2.2.2.2.1,([]:List ByteArray)++x.1.2.2.2.2.2),())
 else
  none
def dv (k:Nat) (x:List ai×Unit):Option (List ai×Unit):=
 if(decide (List.length ([]:List ai)+List.length x.1<4294967296))=true then
  some (([]:List ai)++x.1,())
 else
  none
def dL (k:Nat) (x:al×Unit):Option (al×Unit):=
 Option.bind (dv k (x.1.1,())) fun r1=>
 some ((r1.1,x.1.2),())
def cx (k:Nat) (x:List al×Unit):Option (List al×Unit):=
 az k (fun G1 (t2:List al×List al×Int×Int×Unit)=>
  if(decide ((t2.2.2.2.1:Int)<t2.2.2.1))=true then
   if(decide (0≤t2.2.2.2.1∧t2.2.2.2.1<((List.length t2.2.1:Nat):Int)))=true then
    Option.bind (dL k (List.getD t2.2.1 (Int.toNat t2.2.2.2.1) ab.aa,())) fun r3=>
    if(decide (List.length t2.1+List.length ([r3.1]:List al)<4294967296))=true then
     G1 (t2.1++([r3.1]:List al),t2.2.1,t2.2.2.1,IntKind.i64.wrap (t2.2.2.2.1+(1:Int)),())
    else
     none
   else
    none
  else
   some (t2.1,())) (([]:List al),x.1,((List.length x.1:Nat):Int),(0:Int),())
def jx (k:Nat) (x:aZ×Unit):Option (aZ×Unit):=
 Option.bind (cx k (x.1.2,())) fun r1=>
 some ((x.1.1,r1.1),())
def gG (k:Nat) (x:aG×Unit):Option (aG×Unit):=
 az k (fun G1 (t2:aG×aG×aG×List aZ×Int×Int×Unit)=>
  if(decide ((t2.2.2.2.2.2.1:Int)<t2.2.2.2.2.1))=true then
   if(decide (0≤t2.2.2.2.2.2.1∧t2.2.2.2.2.2.1<((List.length t2.2.2.2.1:Nat):Int)))=true then
    Option.bind (jx k (List.getD t2.2.2.2.1 (Int.toNat t2.2.2.2.2.2.1) ay.aa,())) fun r3=>
    if(decide (List.length t2.2.2.1.2.2+List.length ([r3.1]:List aZ)<4294967296))=true then
     G1 (t2.1,t2.2.1,(t2.2.2.1.1,t2.2.2.1.2.1,t2.2.2.1.2.2++([r3.1]:List aZ)),t2.2.2.2.1,t2.2.2.2.2.1,IntKind.i64.wrap (t2.2.2.2.2.2.1+(1:Int)),())
    else
     none
   else
    none
  else
   some (t2.2.2.1,())) (x.1,(0,0,([]:List aZ)),(x.1.1,x.1.2.1,([]:List aZ)),x.1.2.2,((List.length x.1.2.2:Nat):Int),(0:Int),())
def np (k:Nat) (x:List aG×Unit):Option (List aG×Unit):=
 az k (fun G1 (t2:List aG×List aG×Int×Int×Unit)=>
  if(decide ((t2.2.2.2.1:Int)<t2.2.2.1))=true then
   if(decide (0≤t2.2.2.2.1∧t2.2.2.2.1<((List.length t2.2.1:Nat):Int)))=true then
    Option.bind (gG k (List.getD t2.2.1 (Int.toNat t2.2.2.2.1) ak.aa,())) fun r3=>
    if(decide (List.length t2.1+List.length ([r3.1]:List aG)<4294967296))=true then
     G1 (t2.1++([r3.1]:List aG),t2.2.1,t2.2.2.1,IntKind.i64.wrap (t2.2.2.2.1+(1:Int)),())
    else
     none
   else
    none
  else
   some (t2.1,())) (([]:List aG),x.1,((List.length x.1:Nat):Int),(0:Int),())
def iS (k:Nat) (x:bF×Unit):Option (bF×Unit):=
 Option.bind (cx k (x.1.1,())) fun r1=>
 some ((r1.1,x.1.2),())
def om (k:Nat) (x:List bF×Unit):Option (List bF×Unit):=
 az k (fun G1 (t2:List bF×List bF×Int×Int×Unit)=>
  if(decide ((t2.2.2.2.1:Int)<t2.2.2.1))=true then
   if(decide (0≤t2.2.2.2.1∧t2.2.2.2.1<((List.length t2.2.1:Nat):Int)))=true then
    Option.bind (iS k (List.getD t2.2.1 (Int.toNat t2.2.2.2.1) aU.aa,())) fun r3=>
    if(decide (List.length t2.1+List.length ([r3.1]:List bF)<4294967296))=true then
     G1 (t2.1++([r3.1]:List bF),t2.2.1,t2.2.2.1,IntKind.i64.wrap (t2.2.2.2.1+(1:Int)),())
    else
     none
   else
    none
  else
   some (t2.1,())) (([]:List bF),x.1,((List.length x.1:Nat):Int),(0:Int),())
def gk (k:Nat) (x:aJ×Unit):Option (aJ×Unit):=
 Option.bind (dv k (x.1.2.1,())) fun r1=>
 Option.bind (cx k (x.1.2.2.2.2,())) fun r2=>
 some ((x.1.1,r1.1,x.1.2.2.1,x.1.2.2.2.1,r2.1),())
def mu (k:Nat) (x:List aJ×Unit):Option (List aJ×Unit):=
 az k (fun G1 (t2:List aJ×List aJ×Int×Int×Unit)=>
  if(decide ((t2.2.2.2.1:Int)<t2.2.2.1))=true then
   if(decide (0≤t2.2.2.2.1∧t2.2.2.2.1<((List.length t2.2.1:Nat):Int)))=true then
    Option.bind (gk k (List.getD t2.2.1 (Int.toNat t2.2.2.2.1) aj.aa,())) fun r3=>
    if(decide (List.length t2.1+List.length ([r3.1]:List aJ)<4294967296))=true then
     G1 (t2.1++([r3.1]:List aJ),t2.2.1,t2.2.2.1,IntKind.i64.wrap (t2.2.2.2.1+(1:Int)),())
    else
     none
   else
    none
  else
   some (t2.1,())) (([]:List aJ),x.1,((List.length x.1:Nat):Int),(0:Int),())
def ik (k:Nat) (x:List bl×Unit):Option (List bl×Unit):=
 if(decide (List.length ([]:List bl)+List.length x.1<4294967296))=true then
  some (([]:List bl)++x.1,())
 else
  none
def jq (k:Nat) (x:bz×Unit):Option (bz×Unit):=
 Option.bind (dv k (x.1.2.1,())) fun r1=>
 Option.bind (cx k (x.1.2.2.2,())) fun r2=>
 some ((x.1.1,r1.1,x.1.2.2.1,r2.1),())
def ku (k:Nat) (x:aL×Unit):Option (aL×Unit):=
 Option.bind (dL k (x.1.2.2.1,())) fun r1=>
 Option.bind (dv k (x.1.2.2.2.1,())) fun r2=>
 if(decide (List.length ([]:List Int)+List.length x.1.2.2.2.2.2.1<4294967296))=true then
  Option.bind (cx k (x.1.2.2.2.2.2.2.1,())) fun r3=>
  some ((x.1.1,x.1.2.1,r1.1,r2.1,x.1.2.2.2.2.1,([]:List Int)++x.1.2.2.2.2.2.1,r3.1,x.1.2.2.2.2.2.2.2),())
 else
  none
def kE (k:Nat) (x:bg×Unit):Option (bg×Unit):=
 Option.bind (dL k (x.1.2.2.1,())) fun r1=>
 Option.bind (dv k (x.1.2.2.2.1,())) fun r2=>
 Option.bind (cx k (x.1.2.2.2.2.2.2.2.1,())) fun r3=>
 some ((x.1.1,x.1.2.1,r1.1,r2.1,x.1.2.2.2.2.1,x.1.2.2.2.2.2.1,x.1.2.2.2.2.2.2.1,r3.1,x.1.2.2.2.2.2.2.2.2),())
def eT (k:Nat) (x:ar×Unit):Option (ar×Unit):=
 Option.bind (kA k (x.1.1,())) fun r1=>
 Option.bind (np k (x.1.2.2.2.1,())) fun r2=>
 Option.bind (om k (x.1.2.2.2.2.1,())) fun r3=>
 Option.bind (cx k (x.1.2.2.2.2.2.1,())) fun r4=>
 Option.bind (cx k (x.1.2.2.2.2.2.2.2.2.2.2.2.1,())) fun r5=>
 Option.bind (mu k (x.1.2.2.2.2.2.2.2.1,())) fun r6=>
 Option.bind (ik k (x.1.2.2.2.2.2.2.2.2.2.1,())) fun r7=>
 aP (fun J8=>
  az k (fun G10 (t11:ar×ar×List bz×List bz×Int×Int×Unit)=>
   if(decide ((t11.2.2.2.2.2.1:Int)<t11.2.2.2.2.1))=true then
    if(decide (0≤t11.2.2.2.2.2.1∧t11.2.2.2.2.2.1<((List.length t11.2.2.2.1:Nat):Int)))=true then
     Option.bind (jq k (List.getD t11.2.2.2.1 (Int.toNat t11.2.2.2.2.2.1) aN.aa,())) fun r12=>
     if(decide (List.length t11.2.2.1+List.length ([r12.1]:List bz)<4294967296))=true then
      G10 (t11.1,t11.2.1,t11.2.2.1++([r12.1]:List bz),t11.2.2.2.1,t11.2.2.2.2.1,IntKind.i64.wrap (t11.2.2.2.2.2.1+(1:Int)),())
     else
      none
    else
     none
   else
    J8 (t11.1,t11.2.1,t11.2.2.1,())) ((r1.1,x.1.2.1,x.1.2.2.1,r2.1,r3.1,r4.1,x.1.2.2.2.2.2.2.1,r6.1,x.1.2.2.2.2.2.2.2.2.1,r7.1,x.1.2.2.2.2.2.2.2.2.2.2.1,r5.1,x.1.2.2.2.2.2.2.2.2.2.2.2.2),((0,0,0,0,0,([]:List ByteArray)),0,0,([]:List aG),([]:List bF),([]:List al),0,([]:List aJ),0,([]:List bl),([]:List bz),([]:List al),([]:List aL),([]:List bg)),([]:List bz),x.1.2.2.2.2.2.2.2.2.2.2.1,((List.length x.1.2.2.2.2.2.2.2.2.2.2.1:Nat):Int),(0:Int),())) (fun(t9:ar×ar×List bz×Unit)=>
  aP (fun J13=>
   az k (fun G15 (t16:ar×ar×List bz×List aL×List aL×Int×Int×Unit)=>
    if(decide ((t16.2.2.2.2.2.2.1:Int)<t16.2.2.2.2.2.1))=true then
     if(decide (0≤t16.2.2.2.2.2.2.1∧t16.2.2.2.2.2.2.1<((List.length t16.2.2.2.2.1:Nat):Int)))=true then
      Option.bind (ku k (List.getD t16.2.2.2.2.1 (Int.toNat t16.2.2.2.2.2.2.1) ah.aa,())) fun r17=>
      if(decide (List.length t16.2.2.2.1+List.length ([r17.1]:List aL)<4294967296))=true then
       G15 (t16.1,t16.2.1,t16.2.2.1,t16.2.2.2.1++([r17.1]:List aL),t16.2.2.2.2.1,t16.2.2.2.2.2.1,IntKind.i64.wrap (t16.2.2.2.2.2.2.1+(1:Int)),())
      else
       none
     else
      none
    else
     J13 (t16.1,t16.2.1,t16.2.2.1,t16.2.2.2.1,())) (t9.1,t9.2.1,t9.2.2.1,([]:List aL),t9.1.2.2.2.2.2.2.2.2.2.2.2.2.1,((List.length t9.1.2.2.2.2.2.2.2.2.2.2.2.2.1:Nat):Int),(0:Int),())) (fun(t14:ar×ar×List bz×List aL×Unit)=>
   aP (fun J18=>
    az k (fun G20 (t21:ar×ar×List bz×List aL×List bg×List bg×Int×Int×Unit)=>
     if(decide ((t21.2.2.2.2.2.2.2.1:Int)<t21.2.2.2.2.2.2.1))=true then
      if(decide (0≤t21.2.2.2.2.2.2.2.1∧t21.2.2.2.2.2.2.2.1<((List.length t21.2.2.2.2.2.1:Nat):Int)))=true then
       Option.bind (kE k (List.getD t21.2.2.2.2.2.1 (Int.toNat t21.2.2.2.2.2.2.2.1) aq.aa,())) fun r22=>
       if(decide (List.length t21.2.2.2.2.1+List.length ([r22.1]:List bg)<4294967296))=true then
        G20 (t21.1,t21.2.1,t21.2.2.1,t21.2.2.2.1,t21.2.2.2.2.1++([r22.1]:List bg),t21.2.2.2.2.2.1,t21.2.2.2.2.2.2.1,IntKind.i64.wrap (t21.2.2.2.2.2.2.2.1+(1:Int)),())
       else
        none
      else
       none
     else
      J18 (t21.1,t21.2.1,t21.2.2.1,t21.2.2.2.1,t21.2.2.2.2.1,())) (t14.1,t14.2.1,t14.2.2.1,t14.2.2.2.1,([]:List bg),t14.1.2.2.2.2.2.2.2.2.2.2.2.2.2,((List.length t14.1.2.2.2.2.2.2.2.2.2.2.2.2.2:Nat):Int),(0:Int),())) (fun(t19:ar×ar×List bz×List aL×List bg×Unit)=>
    some ((t19.1.1,t19.1.2.1,t19.1.2.2.1,t19.1.2.2.2.1,t19.1.2.2.2.2.1,t19.1.2.2.2.2.2.1,t19.1.2.2.2.2.2.2.1,t19.1.2.2.2.2.2.2.2.1,t19.1.2.2.2.2.2.2.2.2.1,t19.1.2.2.2.2.2.2.2.2.2.1,t19.2.2.1,t19.1.2.2.2.2.2.2.2.2.2.2.2.1,t19.2.2.2.1,t19.2.2.2.2.1),()))))
def bA (k:Nat) (x:Int×Int×Int×Unit):Option (Bool×Unit):=
 some (if(decide ((x.1:Int)≥x.2.1))=true then decide ((x.1:Int)≤x.2.2.1)else false,())
def jA (k:Nat) (x:ByteArray×Unit):Option (Bool×Unit):=
 Option.bind (bA k (((ByteArray.size x.1:Nat):Int),(1:Int),(8:Int),())) fun r1=>
 if(!r1.1)=true then
  some (false,())
 else
  az k (fun G2 (t3:ByteArray×Int×Unit)=>
   if(decide ((t3.2.1:Int)<((ByteArray.size t3.1:Nat):Int)))=true then
    if(decide (0≤t3.2.1∧t3.2.1<((ByteArray.size t3.1:Nat):Int)))=true then
     if(!(((decide (((bt t3.1 t3.2.1):Int)<(97:Int))):Bool)==false)||(decide (0≤t3.2.1∧t3.2.1<((ByteArray.size t3.1:Nat):Int))))=true then
      if(if(decide (((bt t3.1 t3.2.1):Int)<(97:Int)))=true then true else decide (((bt t3.1 t3.2.1):Int)>(122:Int)))=true then
       some (false,())
      else
       G2 (t3.1,IntKind.i64.wrap (t3.2.1+(1:Int)),())
     else
      none
    else
     none
   else
    some (true,())) (x.1,(0:Int),())
def lP (k:Nat) (x:List ByteArray×Unit):Option (Bool×Unit):=
 az k (fun G1 (t2:List ByteArray×Int×Unit)=>
  if(decide ((t2.2.1:Int)<((List.length t2.1:Nat):Int)))=true then
   if(decide (0≤(IntKind.i64.wrap (t2.2.1-(1:Int)))∧(IntKind.i64.wrap (t2.2.1-(1:Int)))<((List.length t2.1:Nat):Int)))=true then
    if(decide (0≤t2.2.1∧t2.2.1<((List.length t2.1:Nat):Int)))=true then
     if(!(Op.bytesLess (ByteArray.toList (List.getD t2.1 (Int.toNat (IntKind.i64.wrap (t2.2.1-(1:Int)))) ByteArray.empty)) (ByteArray.toList (List.getD t2.1 (Int.toNat t2.2.1) ByteArray.empty))))=true then
      some (false,())
     else
      G1 (t2.1,IntKind.i64.wrap (t2.2.1+(1:Int)),())
    else
     none
   else
    none
  else
   some (true,())) (x.1,(1:Int),())
def pW (k:Nat) (x:List ByteArray×Unit):Option (Bool×Unit):=
 aP (fun J1=>
  az k (fun G3 (t4:List ByteArray×List ByteArray×Int×Int×Unit)=>
   if(decide ((t4.2.2.2.1:Int)<t4.2.2.1))=true then
    if(decide (0≤t4.2.2.2.1∧t4.2.2.2.1<((List.length t4.2.1:Nat):Int)))=true then
     Option.bind (jA k (List.getD t4.2.1 (Int.toNat t4.2.2.2.1) ByteArray.empty,())) fun r5=>
     if(!r5.1)=true then
      some (false,())
     else
      G3 (t4.1,t4.2.1,t4.2.2.1,IntKind.i64.wrap (t4.2.2.2.1+(1:Int)),())
    else
     none
   else
    J1 (t4.1,())) (x.1,x.1,((List.length x.1:Nat):Int),(0:Int),())) (fun(t2:List ByteArray×Unit)=>
  Option.bind ((if(((decide ((((List.length t2.1:Nat):Int):Int)≤(2:Int))):Bool)==true)=true then lP k (t2.1,())else some (false,()))) fun r6=>
  some (if(decide ((((List.length t2.1:Nat):Int):Int)≤(2:Int)))=true then r6.1 else false,()))
def nh (k:Nat) (x:cg×Unit):Option (Bool×Unit):=
 Option.bind (bA k (x.1.1,(1:Int),(3:Int),())) fun r1=>
 Option.bind ((if((r1.1:Bool)==true)=true then bA k (x.1.2.1,(1:Int),(8:Int),())else some (false,()))) fun r2=>
 Option.bind ((if(((if r1.1=true then r2.1 else false):Bool)==true)=true then bA k (x.1.2.2.1,(1:Int),(2:Int),())else some (false,()))) fun r3=>
 Option.bind ((if(((if(if r1.1=true then r2.1 else false)=true then r3.1 else false):Bool)==true)=true then bA k (x.1.2.2.2.1,(1:Int),(9:Int),())else some (false,()))) fun r4=>
 Option.bind ((if(((if(if(if r1.1=true then r2.1 else false)=true then r3.1 else false)=true then r4.1 else false):Bool)==true)=true then bA k (x.1.2.2.2.2.1,(1:Int),(9:Int),())else some (false,()))) fun r5=>
 Option.bind ((if(((if(if(if(if r1.1=true then r2.1 else false)=true then r3.1 else false)=true then r4.1 else false)=true then r5.1 else false):Bool)==true)=true then pW k (x.1.2.2.2.2.2,())else some (false,()))) fun r6=>
 some (if(if(if(if(if r1.1=true then r2.1 else false)=true then r3.1 else false)=true then r4.1 else false)=true then r5.1 else false)=true then r6.1 else false,())
def iK (k:Nat) (x:ByteArray×Unit):Option (Bool×Unit):=
 if(decide ((((ByteArray.size x.1:Nat):Int):Int)>(12:Int)))=true then
  some (false,())
 else
  az k (fun G1 (t2:ByteArray×Int×Unit)=>
   if(decide ((t2.2.1:Int)<((ByteArray.size t2.1:Nat):Int)))=true then
    if(decide (0≤t2.2.1∧t2.2.1<((ByteArray.size t2.1:Nat):Int)))=true then
     if(if(if(if(decide (((bt t2.1 t2.2.1):Int)<(32:Int)))=true then true else decide (((bt t2.1 t2.2.1):Int)>(126:Int)))=true then true else((bt t2.1 t2.2.1):Int)==(34:Int))=true then true else((bt t2.1 t2.2.1):Int)==(92:Int))=true then
      some (false,())
     else
      G1 (t2.1,IntKind.i64.wrap (t2.2.1+(1:Int)),())
    else
     none
   else
    some (true,())) (x.1,(0:Int),())
def lY (k:Nat) (x:ai×Unit):Option (Bool×Unit):=
 Option.bind (jA k (x.1.1,())) fun r1=>
 Option.bind ((if((r1.1:Bool)==true)=true then iK k (x.1.2,())else some (false,()))) fun r2=>
 some (if r1.1=true then r2.1 else false,())
def fk (k:Nat) (x:List ai×Unit):Option (Bool×Unit):=
 az k (fun G1 (t2:List ai×List ai×Int×Int×Unit)=>
  if(decide ((t2.2.2.2.1:Int)<t2.2.2.1))=true then
   if(decide (0≤t2.2.2.2.1∧t2.2.2.2.1<((List.length t2.2.1:Nat):Int)))=true then
    Option.bind ((if(((decide ((t2.2.2.2.1:Int)≥(4:Int))):Bool)==false)=true then lY k (List.getD t2.2.1 (Int.toNat t2.2.2.2.1) af.aa,())else some (false,()))) fun r3=>
    if(!((((if(decide ((t2.2.2.2.1:Int)≥(4:Int)))=true then true else !r3.1):Bool)==false)&&(((decide ((t2.2.2.2.1:Int)>(0:Int))):Bool)==true))||(decide (0≤(IntKind.i64.wrap (t2.2.2.2.1-(1:Int)))∧(IntKind.i64.wrap (t2.2.2.2.1-(1:Int)))<((List.length t2.1:Nat):Int))))=true then
     if(if(if(decide ((t2.2.2.2.1:Int)≥(4:Int)))=true then true else !r3.1)=true then true else if(decide ((t2.2.2.2.1:Int)>(0:Int)))=true then !(Op.bytesLess (ByteArray.toList ((List.getD t2.1 (Int.toNat (IntKind.i64.wrap (t2.2.2.2.1-(1:Int)))) af.aa).1)) (ByteArray.toList ((List.getD t2.2.1 (Int.toNat t2.2.2.2.1) af.aa).1)))else false)=true then
      some (false,())
     else
      G1 (t2.1,t2.2.1,t2.2.2.1,IntKind.i64.wrap (t2.2.2.2.1+(1:Int)),())
    else
     none
   else
    none
  else
   some (true,())) (x.1,x.1,((List.length x.1:Nat):Int),(0:Int),())
def dS (k:Nat) (x:al×Unit):Option (Bool×Unit):=
 Option.bind ((if(((decide ((((List.length x.1.1:Nat):Int):Int)>(0:Int))):Bool)==true)=true then fk k (x.1.1,())else some (false,()))) fun r1=>
 Option.bind ((if(((if(decide ((((List.length x.1.1:Nat):Int):Int)>(0:Int)))=true then r1.1 else false):Bool)==true)=true then bA k (x.1.2.1,(0:Int),(99999:Int),())else some (false,()))) fun r2=>
 Option.bind ((if(((if(if(decide ((((List.length x.1.1:Nat):Int):Int)>(0:Int)))=true then r1.1 else false)=true then r2.1 else false):Bool)==true)=true then bA k (x.1.2.2.1,x.1.2.1,(99999:Int),())else some (false,()))) fun r3=>
 Option.bind ((if(((if(if(if(decide ((((List.length x.1.1:Nat):Int):Int)>(0:Int)))=true then r1.1 else false)=true then r2.1 else false)=true then r3.1 else false):Bool)==true)=true then iK k (x.1.2.2.2,())else some (false,()))) fun r4=>
 some (if(if(if(if(decide ((((List.length x.1.1:Nat):Int):Int)>(0:Int)))=true then r1.1 else false)=true then r2.1 else false)=true then r3.1 else false)=true then r4.1 else false,())
def lN (k:Nat) (x:List ai×Unit):Option (ByteArray×Unit):=
 Option.bind (fk k (x.1,())) fun r1=>
 if(!r1.1)=true then
  some ((⟨#[]⟩:ByteArray),())
 else
  aP (fun J2=>
   az k (fun G4 (t5:List ByteArray×List ai×Int×Int×Unit)=>
    if(decide ((t5.2.2.2.1:Int)<t5.2.2.1))=true then
     if(decide (0≤t5.2.2.2.1∧t5.2.2.2.1<((List.length t5.2.1:Nat):Int)))=true then
      if(decide ((((List.getD t5.2.1 (Int.toNat t5.2.2.2.1) af.aa).1)).size+((⟨#[61,34]⟩:ByteArray)).size<4294967296))=true then
       if(decide (((((List.getD t5.2.1 (Int.toNat t5.2.2.2.1) af.aa).1)++(⟨#[61,34]⟩:ByteArray))).size+(((List.getD t5.2.1 (Int.toNat t5.2.2.2.1) af.aa).2)).size<4294967296))=true then
        if(decide ((((((List.getD t5.2.1 (Int.toNat t5.2.2.2.1) af.aa).1)++(⟨#[61,34]⟩:ByteArray))++((List.getD t5.2.1 (Int.toNat t5.2.2.2.1) af.aa).2))).size+((⟨#[34]⟩:ByteArray)).size<4294967296))=true then
         if(decide (List.length t5.1+List.length ([((((List.getD t5.2.1 (Int.toNat t5.2.2.2.1) af.aa).1)++(⟨#[61,34]⟩:ByteArray))++((List.getD t5.2.1 (Int.toNat t5.2.2.2.1) af.aa).2))++(⟨#[34]⟩:ByteArray)]:List ByteArray)<4294967296))=true then
          G4 (t5.1++([((((List.getD t5.2.1 (Int.toNat t5.2.2.2.1) af.aa).1)++(⟨#[61,34]⟩:ByteArray))++((List.getD t5.2.1 (Int.toNat t5.2.2.2.1) af.aa).2))++(⟨#[34]⟩:ByteArray)]:List ByteArray),t5.2.1,t5.2.2.1,IntKind.i64.wrap (t5.2.2.2.1+(1:Int)),())
         else
          none
        else
         none
       else
        none
      else
       none
     else
      none
    else
     J2 (t5.1,())) (([]:List ByteArray),x.1,((List.length x.1:Nat):Int),(0:Int),())) (fun(t3:List ByteArray×Unit)=>
   Option.bind (pq k (t3.1,(⟨#[44,32]⟩:ByteArray),())) fun r6=>
   if(decide (((⟨#[123]⟩:ByteArray)).size+(r6.1).size<4294967296))=true then
    if(decide ((((⟨#[123]⟩:ByteArray)++r6.1)).size+((⟨#[125]⟩:ByteArray)).size<4294967296))=true then
     some (((⟨#[123]⟩:ByteArray)++r6.1)++(⟨#[125]⟩:ByteArray),())
    else
     none
   else
    none)
def oO (k:Nat) (x:ByteArray×Unit):Option (Int×Unit):=
 aP (fun J1=>
  az k (fun G3 (t4:ByteArray×Int×Int×Unit)=>
   if(decide ((t4.2.2.1:Int)<((ByteArray.size t4.1:Nat):Int)))=true then
    if(decide (0≤t4.2.2.1∧t4.2.2.1<((ByteArray.size t4.1:Nat):Int)))=true then
     G3 (t4.1,IntKind.u32.wrap ((bits (fun _=>(·^^^·)) .u32 t4.2.1 (IntKind.u32.wrap (bt t4.1 t4.2.2.1)))*(16777619:Int)),IntKind.i64.wrap (t4.2.2.1+(1:Int)),())
    else
     none
   else
    J1 (t4.2.1,())) (x.1,(2166136261:Int),(0:Int),())) (fun(t2:Int×Unit)=>
  some (IntKind.i64.wrap t2.1,()))
def ek (k:Nat) (x:List ai×Unit):Option (Int×Unit):=
 Option.bind (lN k (x.1,())) fun r1=>
 Option.bind (oO k (r1.1,())) fun r2=>
 if(decide (0≤(16:Int)))=true then
  if(decide ((32:Int)≠0))=true then
   some (Int.tmod (bits (fun _=>(·^^^·)) .i64 r2.1 (Int.fdiv r2.1 (2^(min (Int.toNat (16:Int)) IntKind.i64.bits)))) (32:Int),())
  else
   none
 else
  none
def cM (k:Nat) (x:List ai×List ai×Unit):Option (Bool×Unit):=
 if((((List.length x.1:Nat):Int):Int) != ((List.length x.2.1:Nat):Int))=true then
  some (false,())
 else
  az k (fun G1 (t2:List ai×List ai×Int×Int×Unit)=>
   if(decide ((t2.2.2.2.1:Int)<t2.2.2.1))=true then
    if(decide (0≤t2.2.2.2.1∧t2.2.2.2.1<((List.length t2.1:Nat):Int)))=true then
     if(decide (0≤t2.2.2.2.1∧t2.2.2.2.1<((List.length t2.2.1:Nat):Int)))=true then
      if(!(eqv af (List.getD t2.1 (Int.toNat t2.2.2.2.1) af.aa) (List.getD t2.2.1 (Int.toNat t2.2.2.2.1) af.aa)))=true then
       some (false,())
      else
       G1 (t2.1,t2.2.1,t2.2.2.1,IntKind.i64.wrap (t2.2.2.2.1+(1:Int)),())
     else
      none
    else
     none
   else
    some (true,())) (x.1,x.2.1,((List.length x.1:Nat):Int),(0:Int),())
def gV (k:Nat) (x:List al×List ai×Unit):Option (Int×Unit):=
 az k (fun G1 (t2:List ai×List al×Int×Int×Unit)=>
  if(decide ((t2.2.2.2.1:Int)<t2.2.2.1))=true then
   if(decide (0≤t2.2.2.2.1∧t2.2.2.2.1<((List.length t2.2.1:Nat):Int)))=true then
    Option.bind (cM k ((List.getD t2.2.1 (Int.toNat t2.2.2.2.1) ab.aa).1,t2.1,())) fun r3=>
    if r3.1=true then
     some (t2.2.2.2.1,())
    else
     G1 (t2.1,t2.2.1,t2.2.2.1,IntKind.i64.wrap (t2.2.2.2.1+(1:Int)),())
   else
    none
  else
   some ((-1:Int),())) (x.2.1,x.1,((List.length x.1:Nat):Int),(0:Int),())
def gJ (k:Nat) (x:List al×Unit):Option (Bool×Unit):=
 az k (fun G1 (t2:List al×List al×Int×Int×Unit)=>
  if(decide ((t2.2.2.2.1:Int)<t2.2.2.1))=true then
   if(decide (0≤t2.2.2.2.1∧t2.2.2.2.1<((List.length t2.2.1:Nat):Int)))=true then
    if(decide (0≤t2.2.2.2.1∧t2.2.2.2.1≤((List.length t2.1:Nat):Int)))=true then
     Option.bind (gV k (List.take (Int.toNat t2.2.2.2.1) t2.1,(List.getD t2.2.1 (Int.toNat t2.2.2.2.1) ab.aa).1,())) fun r3=>
     if(decide ((r3.1:Int)≥(0:Int)))=true then
      some (false,())
     else
      G1 (t2.1,t2.2.1,t2.2.2.1,IntKind.i64.wrap (t2.2.2.2.1+(1:Int)),())
    else
     none
   else
    none
  else
   some (true,())) (x.1,x.1,((List.length x.1:Nat):Int),(0:Int),())
def lJ (k:Nat) (x:aZ×Unit):Option (Bool×Unit):=
 aP (fun J1=>
  az k (fun G3 (t4:aZ×List al×Int×Int×Unit)=>
   if(decide ((t4.2.2.2.1:Int)<t4.2.2.1))=true then
    if(decide (0≤t4.2.2.2.1∧t4.2.2.2.1<((List.length t4.2.1:Nat):Int)))=true then
     Option.bind (dS k (List.getD t4.2.1 (Int.toNat t4.2.2.2.1) ab.aa,())) fun r5=>
     Option.bind ((if(((!r5.1):Bool)==false)=true then ek k ((List.getD t4.2.1 (Int.toNat t4.2.2.2.1) ab.aa).1,())else some (0,()))) fun r6=>
     if(if(!r5.1)=true then true else(r6.1:Int) != t4.1.1)=true then
      some (false,())
     else
      G3 (t4.1,t4.2.1,t4.2.2.1,IntKind.i64.wrap (t4.2.2.2.1+(1:Int)),())
    else
     none
   else
    J1 (t4.1,())) (x.1,x.1.2,((List.length x.1.2:Nat):Int),(0:Int),())) (fun(t2:aZ×Unit)=>
  Option.bind ((if(((decide ((((List.length t2.1.2:Nat):Int):Int)>(0:Int))):Bool)==true)=true then gJ k (t2.1.2,())else some (false,()))) fun r7=>
  some (if(decide ((((List.length t2.1.2:Nat):Int):Int)>(0:Int)))=true then r7.1 else false,()))
def fy (k:Nat) (x:Int×Int×Unit):Option (Int×Unit):=
 if(if(decide ((x.2.1:Int)<(1:Int)))=true then true else decide ((x.1:Int)<(0:Int)))=true then
  some ((0:Int),())
 else
  if(decide (x.2.1≠0))=true then
   some (Int.tmod x.1 x.2.1,())
  else
   none
def mZ (k:Nat) (x:aG×Int×Int×Unit):Option (Bool×Unit):=
 aP (fun J1=>
  az k (fun G3 (t4:Int×Int×aG×List aZ×Int×Int×Unit)=>
   if(decide ((t4.2.2.2.2.2.1:Int)<t4.2.2.2.2.1))=true then
    if(decide (0≤t4.2.2.2.2.2.1∧t4.2.2.2.2.2.1<((List.length t4.2.2.2.1:Nat):Int)))=true then
     Option.bind (lJ k (List.getD t4.2.2.2.1 (Int.toNat t4.2.2.2.2.2.1) ay.aa,())) fun r5=>
     Option.bind ((if(((!r5.1):Bool)==false)=true then fy k ((List.getD t4.2.2.2.1 (Int.toNat t4.2.2.2.2.2.1) ay.aa).1,t4.2.1,())else some (0,()))) fun r6=>
     if(!((((if(!r5.1)=true then true else(r6.1:Int) != t4.1):Bool)==false)&&(((decide ((t4.2.2.2.2.2.1:Int)>(0:Int))):Bool)==true))||(decide (0≤(IntKind.i64.wrap (t4.2.2.2.2.2.1-(1:Int)))∧(IntKind.i64.wrap (t4.2.2.2.2.2.1-(1:Int)))<((List.length t4.2.2.1.2.2:Nat):Int))))=true then
      if(if(if(!r5.1)=true then true else(r6.1:Int) != t4.1)=true then true else if(decide ((t4.2.2.2.2.2.1:Int)>(0:Int)))=true then decide ((((List.getD t4.2.2.1.2.2 (Int.toNat (IntKind.i64.wrap (t4.2.2.2.2.2.1-(1:Int)))) ay.aa).1):Int)≥((List.getD t4.2.2.2.1 (Int.toNat t4.2.2.2.2.2.1) ay.aa).1))else false)=true then
       some (false,())
      else
       G3 (t4.1,t4.2.1,t4.2.2.1,t4.2.2.2.1,t4.2.2.2.2.1,IntKind.i64.wrap (t4.2.2.2.2.2.1+(1:Int)),())
     else
      none
    else
     none
   else
    J1 (t4.2.2.1,())) (x.2.1,x.2.2.1,x.1,x.1.2.2,((List.length x.1.2.2:Nat):Int),(0:Int),())) (fun(t2:aG×Unit)=>
  Option.bind (bA k (t2.1.1,(-1:Int),(4:Int),())) fun r7=>
  some (if r7.1=true then decide ((t2.1.2.1:Int)≥(0:Int))else false,()))
def lu (k:Nat) (x:List aG×Unit):Option (Bool×Unit):=
 Option.bind (bA k (((List.length x.1:Nat):Int),(1:Int),(3:Int),())) fun r1=>
 if(!r1.1)=true then
  some (false,())
 else
  az k (fun G2 (t3:List aG×List aG×Int×Int×Unit)=>
   if(decide ((t3.2.2.2.1:Int)<t3.2.2.1))=true then
    if(decide (0≤t3.2.2.2.1∧t3.2.2.2.1<((List.length t3.2.1:Nat):Int)))=true then
     Option.bind (mZ k (List.getD t3.2.1 (Int.toNat t3.2.2.2.1) ak.aa,t3.2.2.2.1,((List.length t3.1:Nat):Int),())) fun r4=>
     if(!r4.1)=true then
      some (false,())
     else
      G2 (t3.1,t3.2.1,t3.2.2.1,IntKind.i64.wrap (t3.2.2.2.1+(1:Int)),())
    else
     none
   else
    some (true,())) (x.1,x.1,((List.length x.1:Nat):Int),(0:Int),())
def lG (k:Nat) (x:List aG×Unit):Option (Int×Unit):=
 az k (fun G1 (t2:Int×List aG×Int×Int×Unit)=>
  if(decide ((t2.2.2.2.1:Int)<t2.2.2.1))=true then
   if(decide (0≤t2.2.2.2.1∧t2.2.2.2.1<((List.length t2.2.1:Nat):Int)))=true then
    az k (fun G3 (t4:Int×aG×List aG×Int×Int×List aZ×Int×Int×Unit)=>
     if(decide ((t4.2.2.2.2.2.2.2.1:Int)<t4.2.2.2.2.2.2.1))=true then
      if(decide (0≤t4.2.2.2.2.2.2.2.1∧t4.2.2.2.2.2.2.2.1<((List.length t4.2.2.2.2.2.1:Nat):Int)))=true then
       G3 (IntKind.i64.wrap (t4.1+((List.length ((List.getD t4.2.2.2.2.2.1 (Int.toNat t4.2.2.2.2.2.2.2.1) ay.aa).2):Nat):Int)),t4.2.1,t4.2.2.1,t4.2.2.2.1,t4.2.2.2.2.1,t4.2.2.2.2.2.1,t4.2.2.2.2.2.2.1,IntKind.i64.wrap (t4.2.2.2.2.2.2.2.1+(1:Int)),())
      else
       none
     else
      G1 (t4.1,t4.2.2.1,t4.2.2.2.1,IntKind.i64.wrap (t4.2.2.2.2.1+(1:Int)),())) (t2.1,List.getD t2.2.1 (Int.toNat t2.2.2.2.1) ak.aa,t2.2.1,t2.2.2.1,t2.2.2.2.1,((List.getD t2.2.1 (Int.toNat t2.2.2.2.1) ak.aa).2).2,((List.length (((List.getD t2.2.1 (Int.toNat t2.2.2.2.1) ak.aa).2).2):Nat):Int),(0:Int),())
   else
    none
  else
   some (t2.1,())) ((0:Int),x.1,((List.length x.1:Nat):Int),(0:Int),())
def gM (k:Nat) (x:aG×Unit):Option (List al×Unit):=
 az k (fun G1 (t2:aG×List al×List aZ×Int×Int×Unit)=>
  if(decide ((t2.2.2.2.2.1:Int)<t2.2.2.2.1))=true then
   if(decide (0≤t2.2.2.2.2.1∧t2.2.2.2.2.1<((List.length t2.2.2.1:Nat):Int)))=true then
    Option.bind (cx k ((List.getD t2.2.2.1 (Int.toNat t2.2.2.2.2.1) ay.aa).2,())) fun r3=>
    if(decide (List.length t2.2.1+List.length r3.1<4294967296))=true then
     G1 (t2.1,t2.2.1++r3.1,t2.2.2.1,t2.2.2.2.1,IntKind.i64.wrap (t2.2.2.2.2.1+(1:Int)),())
    else
     none
   else
    none
  else
   some (t2.2.1,())) (x.1,([]:List al),x.1.2.2,((List.length x.1.2.2:Nat):Int),(0:Int),())
def jy (k:Nat) (x:List aG×Unit):Option (List al×Unit):=
 aP (fun J1=>
  az k (fun G3 (t4:List al×List aG×Int×Int×Unit)=>
   if(decide ((t4.2.2.2.1:Int)<t4.2.2.1))=true then
    if(decide (0≤t4.2.2.2.1∧t4.2.2.2.1<((List.length t4.2.1:Nat):Int)))=true then
     Option.bind (gM k (List.getD t4.2.1 (Int.toNat t4.2.2.2.1) ak.aa,())) fun r5=>
     if(decide (List.length t4.1+List.length r5.1<4294967296))=true then
      G3 (t4.1++r5.1,t4.2.1,t4.2.2.1,IntKind.i64.wrap (t4.2.2.2.1+(1:Int)),())
     else
      none
    else
     none
   else
    J1 (t4.1,())) (([]:List al),x.1,((List.length x.1:Nat):Int),(0:Int),())) (fun(t2:List al×Unit)=>
  Option.bind (ko k (t2.1,())) fun r6=>
  some (r6.1,()))
def mz (k:Nat) (x:cg×al×Unit):Option (Bool×Unit):=
 Option.bind (dS k (x.2.1,())) fun r1=>
 some (if r1.1=true then decide ((x.2.1.2.2.1:Int)≤(99899:Int))else false,())
def ic (k:Nat) (x:ar×Unit):Option (Bool×Unit):=
 Option.bind (lu k (x.1.2.2.2.1,())) fun r1=>
 Option.bind ((if(((if(!r1.1)=true then true else(((List.length x.1.2.2.2.1:Nat):Int):Int) != x.1.1.1):Bool)==false)=true then lG k (x.1.2.2.2.1,())else some (0,()))) fun r2=>
 if(if(if(!r1.1)=true then true else(((List.length x.1.2.2.2.1:Nat):Int):Int) != x.1.1.1)=true then true else decide ((r2.1:Int)>x.1.1.2.1))=true then
  some (false,())
 else
  Option.bind (jy k (x.1.2.2.2.1,())) fun r3=>
  az k (fun G4 (t5:ar×List al×Int×Int×Unit)=>
   if(decide ((t5.2.2.2.1:Int)<t5.2.2.1))=true then
    if(decide (0≤t5.2.2.2.1∧t5.2.2.2.1<((List.length t5.2.1:Nat):Int)))=true then
     Option.bind (mz k (t5.1.1,List.getD t5.2.1 (Int.toNat t5.2.2.2.1) ab.aa,())) fun r6=>
     if(!r6.1)=true then
      some (false,())
     else
      G4 (t5.1,t5.2.1,t5.2.2.1,IntKind.i64.wrap (t5.2.2.2.1+(1:Int)),())
    else
     none
   else
    some (true,())) (x.1,r3.1,((List.length r3.1:Nat):Int),(0:Int),())
def ey (k:Nat) (x:List al×Unit):Option (Bool×Unit):=
 az k (fun G1 (t2:List al×Int×Int×Unit)=>
  if(decide ((t2.2.2.1:Int)<t2.2.1))=true then
   if(decide (0≤t2.2.2.1∧t2.2.2.1<((List.length t2.1:Nat):Int)))=true then
    Option.bind (dS k (List.getD t2.1 (Int.toNat t2.2.2.1) ab.aa,())) fun r3=>
    if(!r3.1)=true then
     some (false,())
    else
     G1 (t2.1,t2.2.1,IntKind.i64.wrap (t2.2.2.1+(1:Int)),())
   else
    none
  else
   some (true,())) (x.1,((List.length x.1:Nat):Int),(0:Int),())
def og (k:Nat) (x:bF×Unit):Option (Bool×Unit):=
 if x.1.2=true then
  some ((((List.length x.1.1:Nat):Int):Int)==(0:Int),())
 else
  Option.bind ((if(((decide ((((List.length x.1.1:Nat):Int):Int)≤(3:Int))):Bool)==true)=true then ey k (x.1.1,())else some (false,()))) fun r1=>
  some (if(decide ((((List.length x.1.1:Nat):Int):Int)≤(3:Int)))=true then r1.1 else false,())
def jv (k:Nat) (x:List bF×cg×Unit):Option (Bool×Unit):=
 aP (fun J1=>
  az k (fun G3 (t4:List bF×cg×List bF×Int×Int×Unit)=>
   if(decide ((t4.2.2.2.2.1:Int)<t4.2.2.2.1))=true then
    if(decide (0≤t4.2.2.2.2.1∧t4.2.2.2.2.1<((List.length t4.2.2.1:Nat):Int)))=true then
     Option.bind (og k (List.getD t4.2.2.1 (Int.toNat t4.2.2.2.2.1) aU.aa,())) fun r5=>
     if(!r5.1)=true then
      some (false,())
     else
      G3 (t4.1,t4.2.1,t4.2.2.1,t4.2.2.2.1,IntKind.i64.wrap (t4.2.2.2.2.1+(1:Int)),())
    else
     none
   else
    J1 (t4.1,t4.2.1,())) (x.1,x.2.1,x.1,((List.length x.1:Nat):Int),(0:Int),())) (fun(t2:List bF×cg×Unit)=>
  some ((((List.length t2.1:Nat):Int):Int)==t2.2.1.2.2.1,()))
def kv (k:Nat) (x:Int×Int×Unit):Option (Bool×Unit):=
 if((x.1:Int)==(1:Int))=true then
  Option.bind (bA k (x.2.1,(1:Int),(4:Int),())) fun r1=>
  some (r1.1,())
 else
  if((x.1:Int)==(3:Int))=true then
   Option.bind (bA k (x.2.1,(5:Int),(6:Int),())) fun r2=>
   some (r2.1,())
  else
   if((x.1:Int)==(7:Int))=true then
    Option.bind (bA k (x.2.1,(1:Int),(3:Int),())) fun r3=>
    some (r3.1,())
   else
    if((x.1:Int)==(8:Int))=true then
     some (if((x.2.1:Int)==(8:Int))=true then true else(x.2.1:Int)==(6:Int),())
    else
     if((x.1:Int)==(9:Int))=true then
      Option.bind (bA k (x.2.1,(5:Int),(7:Int),())) fun r4=>
      some (r4.1,())
     else
      some ((x.2.1:Int)==(8:Int),())
def jU (k:Nat) (x:bg×Unit):Option (Bool×Unit):=
 Option.bind (bA k (x.1.1,(1:Int),(9:Int),())) fun r1=>
 Option.bind ((if(((!r1.1):Bool)==false)=true then bA k (x.1.2.1,(-1:Int),(4:Int),())else some (false,()))) fun r2=>
 if(if(if(if(if(if(!r1.1)=true then true else !r2.1)=true then true else decide ((x.1.2.2.2.2.2.2.2.2.2.1:Int)<(0:Int)))=true then true else decide ((x.1.2.2.2.2.1:Int)<(0:Int)))=true then true else decide ((x.1.2.2.2.2.2.1:Int)<(0:Int)))=true then true else decide ((x.1.2.2.2.2.2.2.2.2.1:Int)<(0:Int)))=true then
  some (false,())
 else
  if((x.1.2.2.2.2.2.2.2.2.2.2.1:Int)==(-1:Int))=true then
   some (if((x.1.2.2.2.2.2.2.2.2.2.2.2:Int)==(-1:Int))=true then(x.1.2.2.2.2.2.2.1:Int)==(0:Int)else false,())
  else
   Option.bind ((if(((if(decide ((x.1.2.2.2.2.2.2.2.2.2.2.1:Int)≥x.1.2.2.2.2.2.2.2.2.2.1))=true then if((x.1.2.2.2.2.2.2.2.2.2.2.2:Int)==(-1:Int))=true then true else decide ((x.1.2.2.2.2.2.2.2.2.2.2.2:Int)≥x.1.2.2.2.2.2.2.2.2.2.2.1)else false):Bool)==true)=true then kv k (x.1.1,x.1.2.2.2.2.2.2.1,())else some (false,()))) fun r3=>
   some (if(if(decide ((x.1.2.2.2.2.2.2.2.2.2.2.1:Int)≥x.1.2.2.2.2.2.2.2.2.2.1))=true then if((x.1.2.2.2.2.2.2.2.2.2.2.2:Int)==(-1:Int))=true then true else decide ((x.1.2.2.2.2.2.2.2.2.2.2.2:Int)≥x.1.2.2.2.2.2.2.2.2.2.2.1)else false)=true then r3.1 else false,())
def cS (k:Nat) (x:al×al×Unit):Option (Bool×Unit):=
 Option.bind (cM k (x.1.1,x.2.1.1,())) fun r1=>
 some (if(if(if r1.1=true then(x.1.2.1:Int)==x.2.1.2.1 else false)=true then(x.1.2.2.1:Int)==x.2.1.2.2.1 else false)=true then ByteArray.toList x.1.2.2.2==ByteArray.toList x.2.1.2.2.2 else false,())
def gL (k:Nat) (x:List Int×List Int×Unit):Option (Bool×Unit):=
 if((((List.length x.1:Nat):Int):Int) != ((List.length x.2.1:Nat):Int))=true then
  some (false,())
 else
  az k (fun G1 (t2:List Int×List Int×Int×Int×Unit)=>
   if(decide ((t2.2.2.2.1:Int)<t2.2.2.1))=true then
    if(decide (0≤t2.2.2.2.1∧t2.2.2.2.1<((List.length t2.1:Nat):Int)))=true then
     if(decide (0≤t2.2.2.2.1∧t2.2.2.2.1<((List.length t2.2.1:Nat):Int)))=true then
      if(((List.getD t2.1 (Int.toNat t2.2.2.2.1) 0):Int) != (List.getD t2.2.1 (Int.toNat t2.2.2.2.1) 0))=true then
       some (false,())
      else
       G1 (t2.1,t2.2.1,t2.2.2.1,IntKind.i64.wrap (t2.2.2.2.1+(1:Int)),())
     else
      none
    else
     none
   else
    some (true,())) (x.1,x.2.1,((List.length x.1:Nat):Int),(0:Int),())
def fD (k:Nat) (x:List al×List al×Unit):Option (Bool×Unit):=
 if((((List.length x.1:Nat):Int):Int) != ((List.length x.2.1:Nat):Int))=true then
  some (false,())
 else
  az k (fun G1 (t2:List al×List al×Int×Int×Unit)=>
   if(decide ((t2.2.2.2.1:Int)<t2.2.2.1))=true then
    if(decide (0≤t2.2.2.2.1∧t2.2.2.2.1<((List.length t2.1:Nat):Int)))=true then
     if(decide (0≤t2.2.2.2.1∧t2.2.2.2.1<((List.length t2.2.1:Nat):Int)))=true then
      Option.bind (cS k (List.getD t2.1 (Int.toNat t2.2.2.2.1) ab.aa,List.getD t2.2.1 (Int.toNat t2.2.2.2.1) ab.aa,())) fun r3=>
      if(!r3.1)=true then
       some (false,())
      else
       G1 (t2.1,t2.2.1,t2.2.2.1,IntKind.i64.wrap (t2.2.2.2.1+(1:Int)),())
     else
      none
    else
     none
   else
    some (true,())) (x.1,x.2.1,((List.length x.1:Nat):Int),(0:Int),())
def gQ (k:Nat) (x:aL×aL×Unit):Option (Bool×Unit):=
 Option.bind ((if(((if((x.1.1:Int)==x.2.1.1)=true then(x.1.2.1:Int)==x.2.1.2.1 else false):Bool)==true)=true then cS k (x.1.2.2.1,x.2.1.2.2.1,())else some (false,()))) fun r1=>
 Option.bind ((if(((if(if((x.1.1:Int)==x.2.1.1)=true then(x.1.2.1:Int)==x.2.1.2.1 else false)=true then r1.1 else false):Bool)==true)=true then cM k (x.1.2.2.2.1,x.2.1.2.2.2.1,())else some (false,()))) fun r2=>
 Option.bind ((if(((if(if(if(if((x.1.1:Int)==x.2.1.1)=true then(x.1.2.1:Int)==x.2.1.2.1 else false)=true then r1.1 else false)=true then r2.1 else false)=true then(x.1.2.2.2.2.1:Int)==x.2.1.2.2.2.2.1 else false):Bool)==true)=true then gL k (x.1.2.2.2.2.2.1,x.2.1.2.2.2.2.2.1,())else some (false,()))) fun r3=>
 Option.bind ((if(((if(if(if(if(if((x.1.1:Int)==x.2.1.1)=true then(x.1.2.1:Int)==x.2.1.2.1 else false)=true then r1.1 else false)=true then r2.1 else false)=true then(x.1.2.2.2.2.1:Int)==x.2.1.2.2.2.2.1 else false)=true then r3.1 else false):Bool)==true)=true then fD k (x.1.2.2.2.2.2.2.1,x.2.1.2.2.2.2.2.2.1,())else some (false,()))) fun r4=>
 some (if(if(if(if(if(if(if(if((x.1.1:Int)==x.2.1.1)=true then(x.1.2.1:Int)==x.2.1.2.1 else false)=true then r1.1 else false)=true then r2.1 else false)=true then(x.1.2.2.2.2.1:Int)==x.2.1.2.2.2.2.1 else false)=true then r3.1 else false)=true then r4.1 else false)=true then(x.1.2.2.2.2.2.2.2.1:Int)==x.2.1.2.2.2.2.2.2.2.1 else false)=true then(x.1.2.2.2.2.2.2.2.2:Int)==x.2.1.2.2.2.2.2.2.2.2 else false,())
def mL (k:Nat) (x:aL×Unit):Option (Bool×Unit):=
 aP (fun J1=>
  az k (fun G3 (t4:aL×List Int×Int×Int×Unit)=>
   if(decide ((t4.2.2.2.1:Int)<t4.2.2.1))=true then
    if(decide (0≤t4.2.2.2.1∧t4.2.2.2.1<((List.length t4.2.1:Nat):Int)))=true then
     if(decide (((List.getD t4.2.1 (Int.toNat t4.2.2.2.1) 0):Int)<(0:Int)))=true then
      some (false,())
     else
      G3 (t4.1,t4.2.1,t4.2.2.1,IntKind.i64.wrap (t4.2.2.2.1+(1:Int)),())
    else
     none
   else
    J1 (t4.1,())) (x.1,x.1.2.2.2.2.2.1,((List.length x.1.2.2.2.2.2.1:Nat):Int),(0:Int),())) (fun(t2:aL×Unit)=>
  Option.bind ((if((((((List.length t2.1.2.2.2.2.2.1:Nat):Int):Int) != t2.1.2.2.2.2.1):Bool)==false)=true then ey k (t2.1.2.2.2.2.2.2.1,())else some (false,()))) fun r5=>
  if(if((((List.length t2.1.2.2.2.2.2.1:Nat):Int):Int) != t2.1.2.2.2.2.1)=true then true else !r5.1)=true then
   some (false,())
  else
   if((t2.1.2.1:Int)==(2:Int))=true then
    Option.bind (bA k (t2.1.2.2.2.2.1,(1:Int),(3:Int),())) fun r6=>
    some (r6.1,())
   else
    Option.bind (bA k (t2.1.2.2.2.2.1,(0:Int),(2:Int),())) fun r7=>
    some (r7.1,()))
def mQ (k:Nat) (x:aL×Int×Unit):Option (Bool×Unit):=
 aP (fun J1=>
  Option.bind (bA k (x.2.1,(0:Int),(4:Int),())) fun r3=>
  if(!r3.1)=true then
   some (false,())
  else
   if((x.1.1:Int)==(0:Int))=true then
    Option.bind (gQ k (x.1,(0,0,(([]:List ai),0,0,ByteArray.empty),([]:List ai),0,([]:List Int),([]:List al),0,0),())) fun r4=>
    some (r4.1,())
   else
    if(if((x.1.1:Int)==(1:Int))=true then decide ((x.2.1:Int)<(3:Int))else false)=true then
     Option.bind (dS k (x.1.2.2.1,())) fun r5=>
     J1 (x.1,(x.1.1,x.1.2.1,x.1.2.2.1,([]:List ai),0,([]:List Int),([]:List al),0,x.1.2.2.2.2.2.2.2.2),r5.1,(2:Int),())
    else
     if(if((x.1.1:Int)==(2:Int))=true then decide ((x.2.1:Int)<(3:Int))else false)=true then
      Option.bind (fk k (x.1.2.2.2.1,())) fun r6=>
      J1 (x.1,(x.1.1,x.1.2.1,(([]:List ai),0,0,ByteArray.empty),x.1.2.2.2.1,0,([]:List Int),([]:List al),0,x.1.2.2.2.2.2.2.2.2),r6.1,(1:Int),())
     else
      if(if((x.1.1:Int)==(3:Int))=true then decide ((x.2.1:Int)<(3:Int))else false)=true then
       Option.bind (mL k (x.1,())) fun r7=>
       J1 (x.1,(x.1.1,x.1.2.1,(([]:List ai),0,0,ByteArray.empty),([]:List ai),x.1.2.2.2.2.1,x.1.2.2.2.2.2.1,x.1.2.2.2.2.2.2.1,0,x.1.2.2.2.2.2.2.2.2),r7.1,(2:Int),())
      else
       if(if((x.1.1:Int)==(4:Int))=true then decide ((x.2.1:Int)<(3:Int))else false)=true then
        Option.bind (bA k (x.1.2.2.2.2.1,(0:Int),(2:Int),())) fun r8=>
        J1 (x.1,(x.1.1,x.1.2.1,(([]:List ai),0,0,ByteArray.empty),([]:List ai),x.1.2.2.2.2.1,([]:List Int),([]:List al),0,x.1.2.2.2.2.2.2.2.2),r8.1,(1:Int),())
       else
        if(if((x.1.1:Int)==(5:Int))=true then(x.2.1:Int)==(3:Int)else false)=true then
         Option.bind (dS k (x.1.2.2.1,())) fun r9=>
         J1 (x.1,(x.1.1,x.1.2.1,x.1.2.2.1,([]:List ai),0,([]:List Int),([]:List al),0,x.1.2.2.2.2.2.2.2.2),r9.1,(1:Int),())
        else
         if(if((x.1.1:Int)==(6:Int))=true then(x.2.1:Int)==(4:Int)else false)=true then
          J1 (x.1,(x.1.1,x.1.2.1,(([]:List ai),0,0,ByteArray.empty),([]:List ai),0,([]:List Int),([]:List al),x.1.2.2.2.2.2.2.2),decide ((x.1.2.2.2.2.2.2.2.1:Int)≥(0:Int)),(1:Int),())
         else
          J1 (x.1,(x.1.1,x.1.2.1,(([]:List ai),0,0,ByteArray.empty),([]:List ai),0,([]:List Int),([]:List al),0,x.1.2.2.2.2.2.2.2.2),false,(1:Int),())) (fun(t2:aL×aL×Bool×Int×Unit)=>
  Option.bind ((if((t2.2.2.1:Bool)==true)=true then bA k (t2.1.2.1,(0:Int),t2.2.2.2.1,())else some (false,()))) fun r10=>
  Option.bind ((if(((if(if t2.2.2.1=true then r10.1 else false)=true then decide ((t2.1.2.2.2.2.2.2.2.2:Int)≥(0:Int))else false):Bool)==true)=true then gQ k (t2.1,t2.2.1,())else some (false,()))) fun r11=>
  some (if(if(if t2.2.2.1=true then r10.1 else false)=true then decide ((t2.1.2.2.2.2.2.2.2.2:Int)≥(0:Int))else false)=true then r11.1 else false,()))
def mS (k:Nat) (x:List aG×List ai×Unit):Option (Int×Unit):=
 Option.bind (ek k (x.2.1,())) fun r1=>
 Option.bind (fy k (r1.1,((List.length x.1:Nat):Int),())) fun r2=>
 some (r2.1,())
def lI (k:Nat) (x:aG×Int×Unit):Option (Int×Unit):=
 az k (fun G1 (t2:Int×aG×List aZ×Int×Int×Unit)=>
  if(decide ((t2.2.2.2.2.1:Int)<t2.2.2.2.1))=true then
   if(decide (0≤t2.2.2.2.2.1∧t2.2.2.2.2.1<((List.length t2.2.2.1:Nat):Int)))=true then
    if((((List.getD t2.2.2.1 (Int.toNat t2.2.2.2.2.1) ay.aa).1):Int)==t2.1)=true then
     some (t2.2.2.2.2.1,())
    else
     G1 (t2.1,t2.2.1,t2.2.2.1,t2.2.2.2.1,IntKind.i64.wrap (t2.2.2.2.2.1+(1:Int)),())
   else
    none
  else
   some ((-1:Int),())) (x.2.1,x.1,x.1.2.2,((List.length x.1.2.2:Nat):Int),(0:Int),())
def lV (k:Nat) (x:aZ×List ai×Unit):Option (Int×Unit):=
 Option.bind (gV k (x.1.2,x.2.1,())) fun r1=>
 some (r1.1,())
def mN (k:Nat) (x:aG×List ai×Unit):Option (al×Bool×Unit):=
 Option.bind (ek k (x.2.1,())) fun r1=>
 Option.bind (lI k (x.1,r1.1,())) fun r2=>
 if(decide ((r2.1:Int)<(0:Int)))=true then
  some ((([]:List ai),0,0,ByteArray.empty),false,())
 else
  if(decide (0≤r2.1∧r2.1<((List.length x.1.2.2:Nat):Int)))=true then
   Option.bind (lV k (List.getD x.1.2.2 (Int.toNat r2.1) ay.aa,x.2.1,())) fun r3=>
   if(decide ((r3.1:Int)<(0:Int)))=true then
    some ((([]:List ai),0,0,ByteArray.empty),false,())
   else
    if(decide (0≤r2.1∧r2.1<((List.length x.1.2.2:Nat):Int)))=true then
     if(decide (0≤r3.1∧r3.1<((List.length ((List.getD x.1.2.2 (Int.toNat r2.1) ay.aa).2):Nat):Int)))=true then
      Option.bind (dL k (List.getD ((List.getD x.1.2.2 (Int.toNat r2.1) ay.aa).2) (Int.toNat r3.1) ab.aa,())) fun r4=>
      some (r4.1,true,())
     else
      none
    else
     none
  else
   none
def jn (k:Nat) (x:List aG×List ai×Unit):Option (al×Bool×Unit):=
 if((((List.length x.1:Nat):Int):Int)==(0:Int))=true then
  some ((([]:List ai),0,0,ByteArray.empty),false,())
 else
  Option.bind (mS k (x.1,x.2.1,())) fun r1=>
  if(decide (0≤r1.1∧r1.1<((List.length x.1:Nat):Int)))=true then
   Option.bind (mN k (List.getD x.1 (Int.toNat r1.1) ak.aa,x.2.1,())) fun r2=>
   some (r2.1,r2.2.1,())
  else
   none
def jk (k:Nat) (x:ar×aL×Unit):Option (Bool×Unit):=
 if(if(if(decide ((x.2.1.2.1:Int)<(2:Int)))=true then decide ((x.2.1.2.2.2.2.1:Int)≥x.1.1.1)else false)=true then true else if((x.2.1.2.1:Int)==(2:Int))=true then(((List.length x.2.1.2.2.2.2.2.1:Nat):Int):Int) != x.1.1.1 else false)=true then
  some (false,())
 else
  aP (fun J1=>
   az k (fun G3 (t4:ar×aL×Bool×List al×List Int×Int×Int×Unit)=>
    if(decide ((t4.2.2.2.2.2.2.1:Int)<t4.2.2.2.2.2.1))=true then
     if(decide (0≤t4.2.2.2.2.2.2.1∧t4.2.2.2.2.2.2.1<((List.length t4.2.2.2.2.1:Nat):Int)))=true then
      if(decide (0≤t4.2.2.2.2.2.2.1∧t4.2.2.2.2.2.2.1<((List.length t4.1.2.2.2.1:Nat):Int)))=true then
       if(decide (((List.getD t4.2.2.2.2.1 (Int.toNat t4.2.2.2.2.2.2.1) 0):Int)>(((List.getD t4.1.2.2.2.1 (Int.toNat t4.2.2.2.2.2.2.1) ak.aa).2).1)))=true then
        some (false,())
       else
        if(!((t4.2.2.1:Bool)==true)||(decide (0≤t4.2.2.2.2.2.2.1∧t4.2.2.2.2.2.2.1<((List.length t4.1.2.2.2.1:Nat):Int))))=true then
         if(decide (0≤t4.2.2.2.2.2.2.1∧t4.2.2.2.2.2.2.1<((List.length t4.1.2.2.2.1:Nat):Int)))=true then
          Option.bind (gM k (List.getD t4.1.2.2.2.1 (Int.toNat t4.2.2.2.2.2.2.1) ak.aa,())) fun r5=>
          if(decide (List.length t4.2.2.2.1+List.length r5.1<4294967296))=true then
           G3 (t4.1,t4.2.1,if t4.2.2.1=true then((List.getD t4.2.2.2.2.1 (Int.toNat t4.2.2.2.2.2.2.1) 0):Int)==(((List.getD t4.1.2.2.2.1 (Int.toNat t4.2.2.2.2.2.2.1) ak.aa).2).1)else false,t4.2.2.2.1++r5.1,t4.2.2.2.2.1,t4.2.2.2.2.2.1,IntKind.i64.wrap (t4.2.2.2.2.2.2.1+(1:Int)),())
          else
           none
         else
          none
        else
         none
      else
       none
     else
      none
    else
     J1 (t4.1,t4.2.1,t4.2.2.1,t4.2.2.2.1,())) (x.1,x.2.1,true,([]:List al),x.2.1.2.2.2.2.2.1,((List.length x.2.1.2.2.2.2.2.1:Nat):Int),(0:Int),())) (fun(t2:ar×aL×Bool×List al×Unit)=>
   Option.bind ((if(((!t2.2.2.1):Bool)==false)=true then fD k (t2.2.1.2.2.2.2.2.2.1,t2.2.2.2.1,())else some (false,()))) fun r6=>
   some (if(!t2.2.2.1)=true then true else r6.1,()))
def kC (k:Nat) (x:ar×aL×bg×Unit):Option (Bool×Unit):=
 if((x.2.1.1:Int)==(1:Int))=true then
  if((x.2.1.2.1:Int)==(2:Int))=true then
   Option.bind (jn k (x.1.2.2.2.1,x.2.1.2.2.1.1,())) fun r1=>
   Option.bind ((if((((x.2.2.1.1:Int)==(1:Int)):Bool)==true)=true then cM k (x.2.2.1.2.2.1.1,x.2.1.2.2.1.1,())else some (false,()))) fun r2=>
   Option.bind ((if(((if(if((x.2.2.1.1:Int)==(1:Int))=true then r2.1 else false)=true then r1.2.1 else false):Bool)==true)=true then cS k (r1.1,x.2.1.2.2.1,())else some (false,()))) fun r3=>
   some (if(if(if((x.2.2.1.1:Int)==(1:Int))=true then r2.1 else false)=true then r1.2.1 else false)=true then r3.1 else false,())
  else
   Option.bind ((if((((x.2.2.1.1:Int)==(1:Int)):Bool)==true)=true then cS k (x.2.2.1.2.2.1,x.2.1.2.2.1,())else some (false,()))) fun r4=>
   Option.bind ((if(((if((x.2.2.1.1:Int)==(1:Int))=true then r4.1 else false):Bool)==true)=true then mz k (x.1.1,x.2.1.2.2.1,())else some (false,()))) fun r5=>
   some (if(if((x.2.2.1.1:Int)==(1:Int))=true then r4.1 else false)=true then r5.1 else false,())
 else
  if((x.2.1.1:Int)==(2:Int))=true then
   Option.bind ((if((((x.2.2.1.1:Int)==(3:Int)):Bool)==true)=true then cM k (x.2.2.1.2.2.2.1,x.2.1.2.2.2.1,())else some (false,()))) fun r6=>
   some (if((x.2.2.1.1:Int)==(3:Int))=true then r6.1 else false,())
  else
   if((x.2.1.1:Int)==(3:Int))=true then
    Option.bind ((if((((x.2.2.1.1:Int)==(4:Int)):Bool)==true)=true then jk k (x.1,x.2.1,())else some (false,()))) fun r7=>
    some (if((x.2.2.1.1:Int)==(4:Int))=true then r7.1 else false,())
   else
    if((x.2.1.1:Int)==(4:Int))=true then
     some (if((x.2.2.1.1:Int)==(6:Int))=true then decide ((x.2.1.2.2.2.2.1:Int)<x.1.1.1)else false,())
    else
     if((x.2.1.1:Int)==(5:Int))=true then
      Option.bind ((if((((x.2.2.1.1:Int)==(7:Int)):Bool)==true)=true then cS k (x.2.2.1.2.2.1,x.2.1.2.2.1,())else some (false,()))) fun r8=>
      some (if((x.2.2.1.1:Int)==(7:Int))=true then r8.1 else false,())
     else
      some (if(if((x.2.2.1.1:Int)==(8:Int))=true then(x.2.2.1.2.2.2.2.2.1:Int)==x.2.1.2.2.2.2.2.2.2.1 else false)=true then decide ((x.2.1.2.2.2.2.2.2.2.1:Int)<x.1.2.2.2.2.2.2.2.2.1)else false,())
def ig (k:Nat) (x:ar×Unit):Option (Bool×Unit):=
 aP (fun J1=>
  az k (fun G3 (t4:ar×List bg×Int×Int×Unit)=>
   if(decide ((t4.2.2.2.1:Int)<t4.2.2.1))=true then
    if(decide (0≤t4.2.2.2.1∧t4.2.2.2.1<((List.length t4.2.1:Nat):Int)))=true then
     Option.bind (jU k (List.getD t4.2.1 (Int.toNat t4.2.2.2.1) aq.aa,())) fun r5=>
     if(if(if(if(!r5.1)=true then true else decide (((((((((((((List.getD t4.2.1 (Int.toNat t4.2.2.2.1) aq.aa).2).2).2).2).2).2).2).2).2).1):Int)≥t4.1.2.1))=true then true else decide ((((((((((((((List.getD t4.2.1 (Int.toNat t4.2.2.2.1) aq.aa).2).2).2).2).2).2).2).2).2).2).1):Int)≥t4.1.2.1))=true then true else decide ((((((((((((((List.getD t4.2.1 (Int.toNat t4.2.2.2.1) aq.aa).2).2).2).2).2).2).2).2).2).2).2):Int)≥t4.1.2.1))=true then
      some (false,())
     else
      G3 (t4.1,t4.2.1,t4.2.2.1,IntKind.i64.wrap (t4.2.2.2.1+(1:Int)),())
    else
     none
   else
    J1 (t4.1,())) (x.1,x.1.2.2.2.2.2.2.2.2.2.2.2.2.2,((List.length x.1.2.2.2.2.2.2.2.2.2.2.2.2.2:Nat):Int),(0:Int),())) (fun(t2:ar×Unit)=>
  az k (fun G6 (t7:ar×List aL×Int×Int×Unit)=>
   if(decide ((t7.2.2.2.1:Int)<t7.2.2.1))=true then
    if(decide (0≤t7.2.2.2.1∧t7.2.2.2.1<((List.length t7.2.1:Nat):Int)))=true then
     Option.bind (mQ k (List.getD t7.2.1 (Int.toNat t7.2.2.2.1) ah.aa,t7.2.2.2.1,())) fun r8=>
     if(!r8.1)=true then
      some (false,())
     else
      if((((List.getD t7.2.1 (Int.toNat t7.2.2.2.1) ah.aa).1):Int)==(0:Int))=true then
       G6 (t7.1,t7.2.1,t7.2.2.1,IntKind.i64.wrap (t7.2.2.2.1+(1:Int)),())
      else
       if(decide (((((((((((List.getD t7.2.1 (Int.toNat t7.2.2.2.1) ah.aa).2).2).2).2).2).2).2).2):Int)≥((List.length t7.1.2.2.2.2.2.2.2.2.2.2.2.2.2:Nat):Int)))=true then
        some (false,())
       else
        if(decide (0≤(((((((((List.getD t7.2.1 (Int.toNat t7.2.2.2.1) ah.aa).2).2).2).2).2).2).2).2)∧(((((((((List.getD t7.2.1 (Int.toNat t7.2.2.2.1) ah.aa).2).2).2).2).2).2).2).2)<((List.length t7.1.2.2.2.2.2.2.2.2.2.2.2.2.2:Nat):Int)))=true then
         Option.bind ((if(((if(if(((((List.getD t7.1.2.2.2.2.2.2.2.2.2.2.2.2.2 (Int.toNat (((((((((List.getD t7.2.1 (Int.toNat t7.2.2.2.1) ah.aa).2).2).2).2).2).2).2).2)) aq.aa).2).1):Int) != t7.2.2.2.1)=true then true else(((((((((((((List.getD t7.1.2.2.2.2.2.2.2.2.2.2.2.2.2 (Int.toNat (((((((((List.getD t7.2.1 (Int.toNat t7.2.2.2.1) ah.aa).2).2).2).2).2).2).2).2)) aq.aa).2).2).2).2).2).2).2).2).2).2).2):Int) != (-1:Int))=true then true else !((((((((((((((((List.getD t7.1.2.2.2.2.2.2.2.2.2.2.2.2.2 (Int.toNat (((((((((List.getD t7.2.1 (Int.toNat t7.2.2.2.1) ah.aa).2).2).2).2).2).2).2).2)) aq.aa).2).2).2).2).2).2).2).2).2).2).1):Int) != (-1:Int)):Bool)==(if((((List.getD t7.2.1 (Int.toNat t7.2.2.2.1) ah.aa).1):Int)==(1:Int))=true then((((List.getD t7.2.1 (Int.toNat t7.2.2.2.1) ah.aa).2).1):Int)==(2:Int)else false))):Bool)==false)=true then kC k (t7.1,List.getD t7.2.1 (Int.toNat t7.2.2.2.1) ah.aa,List.getD t7.1.2.2.2.2.2.2.2.2.2.2.2.2.2 (Int.toNat (((((((((List.getD t7.2.1 (Int.toNat t7.2.2.2.1) ah.aa).2).2).2).2).2).2).2).2)) aq.aa,())else some (false,()))) fun r9=>
         if(if(if(if(((((List.getD t7.1.2.2.2.2.2.2.2.2.2.2.2.2.2 (Int.toNat (((((((((List.getD t7.2.1 (Int.toNat t7.2.2.2.1) ah.aa).2).2).2).2).2).2).2).2)) aq.aa).2).1):Int) != t7.2.2.2.1)=true then true else(((((((((((((List.getD t7.1.2.2.2.2.2.2.2.2.2.2.2.2.2 (Int.toNat (((((((((List.getD t7.2.1 (Int.toNat t7.2.2.2.1) ah.aa).2).2).2).2).2).2).2).2)) aq.aa).2).2).2).2).2).2).2).2).2).2).2):Int) != (-1:Int))=true then true else !((((((((((((((((List.getD t7.1.2.2.2.2.2.2.2.2.2.2.2.2.2 (Int.toNat (((((((((List.getD t7.2.1 (Int.toNat t7.2.2.2.1) ah.aa).2).2).2).2).2).2).2).2)) aq.aa).2).2).2).2).2).2).2).2).2).2).1):Int) != (-1:Int)):Bool)==(if((((List.getD t7.2.1 (Int.toNat t7.2.2.2.1) ah.aa).1):Int)==(1:Int))=true then((((List.getD t7.2.1 (Int.toNat t7.2.2.2.1) ah.aa).2).1):Int)==(2:Int)else false)))=true then true else !r9.1)=true then
          some (false,())
         else
          G6 (t7.1,t7.2.1,t7.2.2.1,IntKind.i64.wrap (t7.2.2.2.1+(1:Int)),())
        else
         none
    else
     none
   else
    some (true,())) (t2.1,t2.1.2.2.2.2.2.2.2.2.2.2.2.2.1,((List.length t2.1.2.2.2.2.2.2.2.2.2.2.2.2.1:Nat):Int),(0:Int),()))
def qB (k:Nat) (x:aL×Int×Bool×Unit):Option (Int×Unit):=
 if(if(decide ((x.2.1:Int)<(1:Int)))=true then true else !x.2.2.1)=true then
  some ((-1:Int),())
 else
  if((x.1.1:Int)==(1:Int))=true then
   Option.bind (ek k (x.1.2.2.1.1,())) fun r1=>
   Option.bind (fy k (r1.1,x.2.1,())) fun r2=>
   some (r2.1,())
  else
   if((x.1.1:Int)==(2:Int))=true then
    Option.bind (ek k (x.1.2.2.2.1,())) fun r3=>
    Option.bind (fy k (r3.1,x.2.1,())) fun r4=>
    some (r4.1,())
   else
    if(if((x.1.1:Int)==(3:Int))=true then true else(x.1.1:Int)==(4:Int))=true then
     some (x.1.2.2.2.2.1,())
    else
     some ((-1:Int),())
def js (k:Nat) (x:aL×Int×Unit):Option (Int×Unit):=
 Option.bind (qB k (x.1,x.2.1,if((x.1.2.1:Int)==(1:Int))=true then true else if((x.1.1:Int)==(1:Int))=true then(x.1.2.1:Int)==(2:Int)else false,())) fun r1=>
 some (r1.1,())
def gB (k:Nat) (x:aL×Unit):Option (Bool×Unit):=
 some (if(if((x.1.1:Int)==(5:Int))=true then true else(x.1.1:Int)==(6:Int))=true then(x.1.2.1:Int)==(1:Int)else false,())
def ij (k:Nat) (x:ar×Unit):Option (Bool×Unit):=
 aP (fun J1=>
  az k (fun G3 (t4:ar×List aG×Int×Int×Unit)=>
   if(decide ((t4.2.2.2.1:Int)<t4.2.2.1))=true then
    if(decide (0≤t4.2.2.2.1∧t4.2.2.2.1<((List.length t4.2.1:Nat):Int)))=true then
     az k (fun G5 (t6:ar×Int×aG×List aG×Int×Int×List aL×Int×Int×Unit)=>
      if(decide ((t6.2.2.2.2.2.2.2.2.1:Int)<t6.2.2.2.2.2.2.2.1))=true then
       if(decide (0≤t6.2.2.2.2.2.2.2.2.1∧t6.2.2.2.2.2.2.2.2.1<((List.length t6.2.2.2.2.2.2.1:Nat):Int)))=true then
        Option.bind (js k (List.getD t6.2.2.2.2.2.2.1 (Int.toNat t6.2.2.2.2.2.2.2.2.1) ah.aa,((List.length t6.1.2.2.2.1:Nat):Int),())) fun r7=>
        if(!((((r7.1:Int)==t6.2.1):Bool)==((t6.2.2.1.1:Int)==t6.2.2.2.2.2.2.2.2.1)))=true then
         some (false,())
        else
         G5 (t6.1,t6.2.1,t6.2.2.1,t6.2.2.2.1,t6.2.2.2.2.1,t6.2.2.2.2.2.1,t6.2.2.2.2.2.2.1,t6.2.2.2.2.2.2.2.1,IntKind.i64.wrap (t6.2.2.2.2.2.2.2.2.1+(1:Int)),())
       else
        none
      else
       G3 (t6.1,t6.2.2.2.1,t6.2.2.2.2.1,IntKind.i64.wrap (t6.2.2.2.2.2.1+(1:Int)),())) (t4.1,t4.2.2.2.1,List.getD t4.2.1 (Int.toNat t4.2.2.2.1) ak.aa,t4.2.1,t4.2.2.1,t4.2.2.2.1,t4.1.2.2.2.2.2.2.2.2.2.2.2.2.1,((List.length t4.1.2.2.2.2.2.2.2.2.2.2.2.2.1:Nat):Int),(0:Int),())
    else
     none
   else
    J1 (t4.1,())) (x.1,x.1.2.2.2.1,((List.length x.1.2.2.2.1:Nat):Int),(0:Int),())) (fun(t2:ar×Unit)=>
  aP (fun J8=>
   az k (fun G10 (t11:ar×List aL×Int×Int×Unit)=>
    if(decide ((t11.2.2.2.1:Int)<t11.2.2.1))=true then
     if(decide (0≤t11.2.2.2.1∧t11.2.2.2.1<((List.length t11.2.1:Nat):Int)))=true then
      Option.bind (gB k (List.getD t11.2.1 (Int.toNat t11.2.2.2.1) ah.aa,())) fun r12=>
      if(!((r12.1:Bool)==((t11.1.2.2.2.2.2.2.1:Int)==t11.2.2.2.1)))=true then
       some (false,())
      else
       G10 (t11.1,t11.2.1,t11.2.2.1,IntKind.i64.wrap (t11.2.2.2.1+(1:Int)),())
     else
      none
    else
     J8 (t11.1,())) (t2.1,t2.1.2.2.2.2.2.2.2.2.2.2.2.2.1,((List.length t2.1.2.2.2.2.2.2.2.2.2.2.2.2.1:Nat):Int),(0:Int),())) (fun(t9:ar×Unit)=>
   Option.bind (bA k (t9.1.2.2.2.2.2.2.1,(-1:Int),(4:Int),())) fun r13=>
   some (r13.1,())))
def lO (k:Nat) (x:List ByteArray×ByteArray×Unit):Option (Bool×Unit):=
 az k (fun G1 (t2:ByteArray×List ByteArray×Int×Int×Unit)=>
  if(decide ((t2.2.2.2.1:Int)<t2.2.2.1))=true then
   if(decide (0≤t2.2.2.2.1∧t2.2.2.2.1<((List.length t2.2.1:Nat):Int)))=true then
    if(ByteArray.toList (List.getD t2.2.1 (Int.toNat t2.2.2.2.1) ByteArray.empty)==ByteArray.toList t2.1)=true then
     some (true,())
    else
     G1 (t2.1,t2.2.1,t2.2.2.1,IntKind.i64.wrap (t2.2.2.2.1+(1:Int)),())
   else
    none
  else
   some (false,())) (x.2.1,x.1,((List.length x.1:Nat):Int),(0:Int),())
def oX (k:Nat) (x:List ai×List ByteArray×Unit):Option (List ai×Unit):=
 az k (fun G1 (t2:List ByteArray×List ai×List ai×Int×Int×Unit)=>
  if(decide ((t2.2.2.2.2.1:Int)<t2.2.2.2.1))=true then
   if(decide (0≤t2.2.2.2.2.1∧t2.2.2.2.2.1<((List.length t2.2.2.1:Nat):Int)))=true then
    Option.bind (lO k (t2.1,(List.getD t2.2.2.1 (Int.toNat t2.2.2.2.2.1) af.aa).1,())) fun r3=>
    if r3.1=true then
     if(decide (List.length t2.2.1+List.length ([List.getD t2.2.2.1 (Int.toNat t2.2.2.2.2.1) af.aa]:List ai)<4294967296))=true then
      G1 (t2.1,t2.2.1++([List.getD t2.2.2.1 (Int.toNat t2.2.2.2.2.1) af.aa]:List ai),t2.2.2.1,t2.2.2.2.1,IntKind.i64.wrap (t2.2.2.2.2.1+(1:Int)),())
     else
      none
    else
     G1 (t2.1,t2.2.1,t2.2.2.1,t2.2.2.2.1,IntKind.i64.wrap (t2.2.2.2.2.1+(1:Int)),())
   else
    none
  else
   some (t2.2.1,())) (x.2.1,([]:List ai),x.1,((List.length x.1:Nat):Int),(0:Int),())
def oL (k:Nat) (x:al×List ByteArray×Unit):Option (List ai×Unit):=
 Option.bind (oX k (x.1.1,x.2.1,())) fun r1=>
 some (r1.1,())
def iL (k:Nat) (x:List ai×List ai×Unit):Option (Bool×Unit):=
 aP (fun J1=>
  az k (fun G3 (t4:List ai×List ai×Int×Unit)=>
   if(if(decide ((t4.2.2.1:Int)<((List.length t4.1:Nat):Int)))=true then decide ((t4.2.2.1:Int)<((List.length t4.2.1:Nat):Int))else false)=true then
    if(decide (0≤t4.2.2.1∧t4.2.2.1<((List.length t4.1:Nat):Int)))=true then
     if(decide (0≤t4.2.2.1∧t4.2.2.1<((List.length t4.2.1:Nat):Int)))=true then
      if(!(ByteArray.toList ((List.getD t4.1 (Int.toNat t4.2.2.1) af.aa).1)==ByteArray.toList ((List.getD t4.2.1 (Int.toNat t4.2.2.1) af.aa).1)))=true then
       if(decide (0≤t4.2.2.1∧t4.2.2.1<((List.length t4.1:Nat):Int)))=true then
        if(decide (0≤t4.2.2.1∧t4.2.2.1<((List.length t4.2.1:Nat):Int)))=true then
         some (Op.bytesLess (ByteArray.toList ((List.getD t4.1 (Int.toNat t4.2.2.1) af.aa).1)) (ByteArray.toList ((List.getD t4.2.1 (Int.toNat t4.2.2.1) af.aa).1)),())
        else
         none
       else
        none
      else
       if(decide (0≤t4.2.2.1∧t4.2.2.1<((List.length t4.1:Nat):Int)))=true then
        if(decide (0≤t4.2.2.1∧t4.2.2.1<((List.length t4.2.1:Nat):Int)))=true then
         if(!(ByteArray.toList ((List.getD t4.1 (Int.toNat t4.2.2.1) af.aa).2)==ByteArray.toList ((List.getD t4.2.1 (Int.toNat t4.2.2.1) af.aa).2)))=true then
          if(decide (0≤t4.2.2.1∧t4.2.2.1<((List.length t4.1:Nat):Int)))=true then
           if(decide (0≤t4.2.2.1∧t4.2.2.1<((List.length t4.2.1:Nat):Int)))=true then
            some (Op.bytesLess (ByteArray.toList ((List.getD t4.1 (Int.toNat t4.2.2.1) af.aa).2)) (ByteArray.toList ((List.getD t4.2.1 (Int.toNat t4.2.2.1) af.aa).2)),())
           else
            none
          else
           none
         else
          G3 (t4.1,t4.2.1,IntKind.i64.wrap (t4.2.2.1+(1:Int)),())
        else
         none
       else
        none
     else
      none
    else
     none
   else
    J1 (t4.1,t4.2.1,())) (x.1,x.2.1,(0:Int),())) (fun(t2:List ai×List ai×Unit)=>
  some (decide ((((List.length t2.1:Nat):Int):Int)<((List.length t2.2.1:Nat):Int)),()))
def lD (k:Nat) (x:List al×List ai×List ByteArray×Unit):Option (Bool×Unit):=
 az k (fun G1 (t2:List al×List ai×List ByteArray×List al×Int×Int×Unit)=>
  if(decide ((t2.2.2.2.2.2.1:Int)<t2.2.2.2.2.1))=true then
   if(decide (0≤t2.2.2.2.2.2.1∧t2.2.2.2.2.2.1<((List.length t2.2.2.2.1:Nat):Int)))=true then
    Option.bind (dS k (List.getD t2.2.2.2.1 (Int.toNat t2.2.2.2.2.2.1) ab.aa,())) fun r3=>
    Option.bind ((if(((!r3.1):Bool)==false)=true then oL k (List.getD t2.2.2.2.1 (Int.toNat t2.2.2.2.2.2.1) ab.aa,t2.2.2.1,())else some (([]:List ai),()))) fun r4=>
    Option.bind ((if(((!r3.1):Bool)==false)=true then cM k (r4.1,t2.2.1,())else some (false,()))) fun r5=>
    if(!((((if(!r3.1)=true then true else !r5.1):Bool)==false)&&(((decide ((t2.2.2.2.2.2.1:Int)>(0:Int))):Bool)==true))||(decide (0≤(IntKind.i64.wrap (t2.2.2.2.2.2.1-(1:Int)))∧(IntKind.i64.wrap (t2.2.2.2.2.2.1-(1:Int)))<((List.length t2.1:Nat):Int))))=true then
     Option.bind ((if((((if(!r3.1)=true then true else !r5.1):Bool)==false)&&(((decide ((t2.2.2.2.2.2.1:Int)>(0:Int))):Bool)==true))=true then iL k ((List.getD t2.1 (Int.toNat (IntKind.i64.wrap (t2.2.2.2.2.2.1-(1:Int)))) ab.aa).1,(List.getD t2.2.2.2.1 (Int.toNat t2.2.2.2.2.2.1) ab.aa).1,())else some (false,()))) fun r6=>
     if(if(if(!r3.1)=true then true else !r5.1)=true then true else if(decide ((t2.2.2.2.2.2.1:Int)>(0:Int)))=true then !r6.1 else false)=true then
      some (false,())
     else
      G1 (t2.1,t2.2.1,t2.2.2.1,t2.2.2.2.1,t2.2.2.2.2.1,IntKind.i64.wrap (t2.2.2.2.2.2.1+(1:Int)),())
    else
     none
   else
    none
  else
   some (true,())) (x.1,x.2.1,x.2.2.1,x.1,((List.length x.1:Nat):Int),(0:Int),())
def lW (k:Nat) (x:aJ×List ByteArray×Unit):Option (Bool×Unit):=
 Option.bind ((if(((decide ((x.1.1:Int)<(0:Int))):Bool)==false)=true then fk k (x.1.2.1,())else some (false,()))) fun r1=>
 Option.bind ((if(((if(decide ((x.1.1:Int)<(0:Int)))=true then true else !r1.1):Bool)==false)=true then bA k (x.1.2.2.1,(0:Int),(99999:Int),())else some (false,()))) fun r2=>
 Option.bind ((if((((if(if(decide ((x.1.1:Int)<(0:Int)))=true then true else !r1.1)=true then true else !r2.1):Bool)==false)&&((((x.1.2.2.2.1:Int) != (-1:Int)):Bool)==true))=true then bA k (x.1.2.2.2.1,x.1.2.2.1,(99999:Int),())else some (false,()))) fun r3=>
 if(if(if(if(decide ((x.1.1:Int)<(0:Int)))=true then true else !r1.1)=true then true else !r2.1)=true then true else if((x.1.2.2.2.1:Int) != (-1:Int))=true then !r3.1 else false)=true then
  some (false,())
 else
  Option.bind ((if(((decide ((((List.length x.1.2.2.2.2:Nat):Int):Int)>(0:Int))):Bool)==true)=true then lD k (x.1.2.2.2.2,x.1.2.1,x.2.1,())else some (false,()))) fun r4=>
  some (if(decide ((((List.length x.1.2.2.2.2:Nat):Int):Int)>(0:Int)))=true then r4.1 else false,())
def l0 (k:Nat) (x:List aJ×List ai×Unit):Option (Int×Unit):=
 az k (fun G1 (t2:List ai×List aJ×Int×Int×Unit)=>
  if(decide ((t2.2.2.2.1:Int)<t2.2.2.1))=true then
   if(decide (0≤t2.2.2.2.1∧t2.2.2.2.1<((List.length t2.2.1:Nat):Int)))=true then
    Option.bind (cM k (((List.getD t2.2.1 (Int.toNat t2.2.2.2.1) aj.aa).2).1,t2.1,())) fun r3=>
    if r3.1=true then
     some (t2.2.2.2.1,())
    else
     G1 (t2.1,t2.2.1,t2.2.2.1,IntKind.i64.wrap (t2.2.2.2.1+(1:Int)),())
   else
    none
  else
   some ((-1:Int),())) (x.2.1,x.1,((List.length x.1:Nat):Int),(0:Int),())
def kz (k:Nat) (x:List aJ×List ByteArray×Unit):Option (Bool×Unit):=
 az k (fun G1 (t2:List aJ×List ByteArray×List aJ×Int×Int×Unit)=>
  if(decide ((t2.2.2.2.2.1:Int)<t2.2.2.2.1))=true then
   if(decide (0≤t2.2.2.2.2.1∧t2.2.2.2.2.1<((List.length t2.2.2.1:Nat):Int)))=true then
    Option.bind ((if(((decide ((t2.2.2.2.2.1:Int)≥(12:Int))):Bool)==false)=true then lW k (List.getD t2.2.2.1 (Int.toNat t2.2.2.2.2.1) aj.aa,t2.2.1,())else some (false,()))) fun r3=>
    if(!((((if(decide ((t2.2.2.2.2.1:Int)≥(12:Int)))=true then true else !r3.1):Bool)==false)&&(((decide ((t2.2.2.2.2.1:Int)>(0:Int))):Bool)==true))||(decide (0≤(IntKind.i64.wrap (t2.2.2.2.2.1-(1:Int)))∧(IntKind.i64.wrap (t2.2.2.2.2.1-(1:Int)))<((List.length t2.1:Nat):Int))))=true then
     Option.bind ((if(((if(if(decide ((t2.2.2.2.2.1:Int)≥(12:Int)))=true then true else !r3.1)=true then true else if(decide ((t2.2.2.2.2.1:Int)>(0:Int)))=true then decide ((((List.getD t2.1 (Int.toNat (IntKind.i64.wrap (t2.2.2.2.2.1-(1:Int)))) aj.aa).1):Int)≥((List.getD t2.2.2.1 (Int.toNat t2.2.2.2.2.1) aj.aa).1))else false):Bool)==false)=true then l0 k (t2.1,((List.getD t2.2.2.1 (Int.toNat t2.2.2.2.2.1) aj.aa).2).1,())else some (0,()))) fun r4=>
     if(if(if(if(decide ((t2.2.2.2.2.1:Int)≥(12:Int)))=true then true else !r3.1)=true then true else if(decide ((t2.2.2.2.2.1:Int)>(0:Int)))=true then decide ((((List.getD t2.1 (Int.toNat (IntKind.i64.wrap (t2.2.2.2.2.1-(1:Int)))) aj.aa).1):Int)≥((List.getD t2.2.2.1 (Int.toNat t2.2.2.2.2.1) aj.aa).1))else false)=true then true else(r4.1:Int) != t2.2.2.2.2.1)=true then
      some (false,())
     else
      G1 (t2.1,t2.2.1,t2.2.2.1,t2.2.2.2.1,IntKind.i64.wrap (t2.2.2.2.2.1+(1:Int)),())
    else
     none
   else
    none
  else
   some (true,())) (x.1,x.2.1,x.1,((List.length x.1:Nat):Int),(0:Int),())
def mG (k:Nat) (x:bl×bl×Unit):Option (Bool×Unit):=
 some (if(decide ((x.1.1:Int)<x.2.1.1))=true then true else if((x.1.1:Int)==x.2.1.1)=true then decide ((x.1.2:Int)<x.2.1.2)else false,())
def mX (k:Nat) (x:List bl×Unit):Option (Bool×Unit):=
 aP (fun J1=>
  az k (fun G3 (t4:List bl×List bl×Int×Int×Unit)=>
   if(decide ((t4.2.2.2.1:Int)<t4.2.2.1))=true then
    if(decide (0≤t4.2.2.2.1∧t4.2.2.2.1<((List.length t4.2.1:Nat):Int)))=true then
     if(!((((if(decide ((((List.getD t4.2.1 (Int.toNat t4.2.2.2.1) aC.aa).1):Int)<(0:Int)))=true then true else decide ((((List.getD t4.2.1 (Int.toNat t4.2.2.2.1) aC.aa).2):Int)<(0:Int))):Bool)==false)&&(((decide ((t4.2.2.2.1:Int)>(0:Int))):Bool)==true))||(decide ((2:Int)≠0)))=true then
      if(!((((if(decide ((((List.getD t4.2.1 (Int.toNat t4.2.2.2.1) aC.aa).1):Int)<(0:Int)))=true then true else decide ((((List.getD t4.2.1 (Int.toNat t4.2.2.2.1) aC.aa).2):Int)<(0:Int))):Bool)==false)&&(((decide ((t4.2.2.2.1:Int)>(0:Int))):Bool)==true))||(decide (0≤(IntKind.i64.wrap (Int.tdiv (IntKind.i64.wrap (t4.2.2.2.1-(1:Int))) (2:Int)))∧(IntKind.i64.wrap (Int.tdiv (IntKind.i64.wrap (t4.2.2.2.1-(1:Int))) (2:Int)))<((List.length t4.1:Nat):Int))))=true then
       Option.bind ((if((((if(decide ((((List.getD t4.2.1 (Int.toNat t4.2.2.2.1) aC.aa).1):Int)<(0:Int)))=true then true else decide ((((List.getD t4.2.1 (Int.toNat t4.2.2.2.1) aC.aa).2):Int)<(0:Int))):Bool)==false)&&(((decide ((t4.2.2.2.1:Int)>(0:Int))):Bool)==true))=true then mG k (List.getD t4.2.1 (Int.toNat t4.2.2.2.1) aC.aa,List.getD t4.1 (Int.toNat (IntKind.i64.wrap (Int.tdiv (IntKind.i64.wrap (t4.2.2.2.1-(1:Int))) (2:Int)))) aC.aa,())else some (false,()))) fun r5=>
       if(if(if(decide ((((List.getD t4.2.1 (Int.toNat t4.2.2.2.1) aC.aa).1):Int)<(0:Int)))=true then true else decide ((((List.getD t4.2.1 (Int.toNat t4.2.2.2.1) aC.aa).2):Int)<(0:Int)))=true then true else if(decide ((t4.2.2.2.1:Int)>(0:Int)))=true then r5.1 else false)=true then
        some (false,())
       else
        G3 (t4.1,t4.2.1,t4.2.2.1,IntKind.i64.wrap (t4.2.2.2.1+(1:Int)),())
      else
       none
     else
      none
    else
     none
   else
    J1 (t4.1,())) (x.1,x.1,((List.length x.1:Nat):Int),(0:Int),())) (fun(t2:List bl×Unit)=>
  some (decide ((((List.length t2.1:Nat):Int):Int)≤(16:Int)),()))
def pG (k:Nat) (x:aJ×Int×Int×Unit):Option (Int×Unit):=
 if((x.1.2.2.2.1:Int)==(-1:Int))=true then
  some (IntKind.i64.wrap (x.1.2.2.1+x.2.1),())
 else
  some (IntKind.i64.wrap (x.1.2.2.2.1+x.2.2.1),())
def rA (k:Nat) (x:cg×aJ×Unit):Option (Int×Unit):=
 Option.bind (pG k (x.2.1,x.1.2.2.2.1,x.1.2.2.2.2.1,())) fun r1=>
 some (r1.1,())
def gy (k:Nat) (x:ar×Unit):Option (Bool×Unit):=
 Option.bind (kz k (x.1.2.2.2.2.2.2.2.1,x.1.1.2.2.2.2.2,())) fun r1=>
 Option.bind ((if(((!r1.1):Bool)==false)=true then mX k (x.1.2.2.2.2.2.2.2.2.2.1,())else some (false,()))) fun r2=>
 if(if(!r1.1)=true then true else !r2.1)=true then
  some (false,())
 else
  aP (fun J3=>
   az k (fun G5 (t6:ar×List aJ×Int×Int×Unit)=>
    if(decide ((t6.2.2.2.1:Int)<t6.2.2.1))=true then
     if(decide (0≤t6.2.2.2.1∧t6.2.2.2.1<((List.length t6.2.1:Nat):Int)))=true then
      if(if(if(decide ((((((List.getD t6.2.1 (Int.toNat t6.2.2.2.1) aj.aa).2).2).1):Int)>t6.1.2.2.1))=true then true else decide (((((((List.getD t6.2.1 (Int.toNat t6.2.2.2.1) aj.aa).2).2).2).1):Int)>t6.1.2.2.1))=true then true else decide ((((List.getD t6.2.1 (Int.toNat t6.2.2.2.1) aj.aa).1):Int)≥t6.1.2.2.2.2.2.2.2.2.1))=true then
       some (false,())
      else
       if(decide (0≤(4:Int)∧(4:Int)<((List.length t6.1.2.2.2.2.2.2.2.2.2.2.2.2.1:Nat):Int)))=true then
        if(!((((((List.getD t6.1.2.2.2.2.2.2.2.2.2.2.2.2.1 (Int.toNat (4:Int)) ah.aa).1):Int)==(6:Int)):Bool)==true)||(decide (0≤(4:Int)∧(4:Int)<((List.length t6.1.2.2.2.2.2.2.2.2.2.2.2.2.1:Nat):Int))))=true then
         aP (fun J7=>
          az k (fun G9 (t10:ar×aJ×Bool×List aJ×Int×Int×List bl×Int×Int×Unit)=>
           if(decide ((t10.2.2.2.2.2.2.2.2.1:Int)<t10.2.2.2.2.2.2.2.1))=true then
            if(decide (0≤t10.2.2.2.2.2.2.2.2.1∧t10.2.2.2.2.2.2.2.2.1<((List.length t10.2.2.2.2.2.2.1:Nat):Int)))=true then
             Option.bind ((if(((t10.2.2.1:Bool)==false)&&((((((List.getD t10.2.2.2.2.2.2.1 (Int.toNat t10.2.2.2.2.2.2.2.2.1) aC.aa).2):Int)==t10.2.1.1):Bool)==true))=true then rA k (t10.1.1,t10.2.1,())else some (0,()))) fun r11=>
             G9 (t10.1,t10.2.1,if t10.2.2.1=true then true else if((((List.getD t10.2.2.2.2.2.2.1 (Int.toNat t10.2.2.2.2.2.2.2.2.1) aC.aa).2):Int)==t10.2.1.1)=true then(((List.getD t10.2.2.2.2.2.2.1 (Int.toNat t10.2.2.2.2.2.2.2.2.1) aC.aa).1):Int)==r11.1 else false,t10.2.2.2.1,t10.2.2.2.2.1,t10.2.2.2.2.2.1,t10.2.2.2.2.2.2.1,t10.2.2.2.2.2.2.2.1,IntKind.i64.wrap (t10.2.2.2.2.2.2.2.2.1+(1:Int)),())
            else
             none
           else
            J7 (t10.1,t10.2.1,t10.2.2.1,t10.2.2.2.1,t10.2.2.2.2.1,t10.2.2.2.2.2.1,())) (t6.1,List.getD t6.2.1 (Int.toNat t6.2.2.2.1) aj.aa,if((((List.getD t6.1.2.2.2.2.2.2.2.2.2.2.2.2.1 (Int.toNat (4:Int)) ah.aa).1):Int)==(6:Int))=true then((((((((((List.getD t6.1.2.2.2.2.2.2.2.2.2.2.2.2.1 (Int.toNat (4:Int)) ah.aa).2).2).2).2).2).2).2).1):Int)==((List.getD t6.2.1 (Int.toNat t6.2.2.2.1) aj.aa).1)else false,t6.2.1,t6.2.2.1,t6.2.2.2.1,t6.1.2.2.2.2.2.2.2.2.2.1,((List.length t6.1.2.2.2.2.2.2.2.2.2.1:Nat):Int),(0:Int),())) (fun(t8:ar×aJ×Bool×List aJ×Int×Int×Unit)=>
          if(!t8.2.2.1)=true then
           some (false,())
          else
           G5 (t8.1,t8.2.2.2.1,t8.2.2.2.2.1,IntKind.i64.wrap (t8.2.2.2.2.2.1+(1:Int)),()))
        else
         none
       else
        none
     else
      none
    else
     J3 (t6.1,())) (x.1,x.1.2.2.2.2.2.2.2.1,((List.length x.1.2.2.2.2.2.2.2.1:Nat):Int),(0:Int),())) (fun(t4:ar×Unit)=>
   az k (fun G12 (t13:ar×List bl×Int×Int×Unit)=>
    if(decide ((t13.2.2.2.1:Int)<t13.2.2.1))=true then
     if(decide (0≤t13.2.2.2.1∧t13.2.2.2.1<((List.length t13.2.1:Nat):Int)))=true then
      if(decide ((((List.getD t13.2.1 (Int.toNat t13.2.2.2.1) aC.aa).2):Int)≥t13.1.2.2.2.2.2.2.2.2.1))=true then
       some (false,())
      else
       if(decide (0≤t13.2.2.2.1∧t13.2.2.2.1≤((List.length t13.1.2.2.2.2.2.2.2.2.2.1:Nat):Int)))=true then
        az k (fun G14 (t15:ar×bl×List bl×Int×Int×List bl×Int×Int×Unit)=>
         if(decide ((t15.2.2.2.2.2.2.2.1:Int)<t15.2.2.2.2.2.2.1))=true then
          if(decide (0≤t15.2.2.2.2.2.2.2.1∧t15.2.2.2.2.2.2.2.1<((List.length t15.2.2.2.2.2.1:Nat):Int)))=true then
           if((((List.getD t15.2.2.2.2.2.1 (Int.toNat t15.2.2.2.2.2.2.2.1) aC.aa).2):Int)==t15.2.1.2)=true then
            some (false,())
           else
            G14 (t15.1,t15.2.1,t15.2.2.1,t15.2.2.2.1,t15.2.2.2.2.1,t15.2.2.2.2.2.1,t15.2.2.2.2.2.2.1,IntKind.i64.wrap (t15.2.2.2.2.2.2.2.1+(1:Int)),())
          else
           none
         else
          G12 (t15.1,t15.2.2.1,t15.2.2.2.1,IntKind.i64.wrap (t15.2.2.2.2.1+(1:Int)),())) (t13.1,List.getD t13.2.1 (Int.toNat t13.2.2.2.1) aC.aa,t13.2.1,t13.2.2.1,t13.2.2.2.1,List.take (Int.toNat t13.2.2.2.1) t13.1.2.2.2.2.2.2.2.2.2.1,((List.length (List.take (Int.toNat t13.2.2.2.1) t13.1.2.2.2.2.2.2.2.2.2.1):Nat):Int),(0:Int),())
       else
        none
     else
      none
    else
     some (true,())) (t4.1,t4.1.2.2.2.2.2.2.2.2.2.1,((List.length t4.1.2.2.2.2.2.2.2.2.2.1:Nat):Int),(0:Int),()))
def lQ (k:Nat) (x:ar×Unit):Option (Bool×Unit):=
 Option.bind (nh k (x.1.1,())) fun r1=>
 Option.bind ((if(((if(if(!r1.1)=true then true else decide ((x.1.2.1:Int)<(0:Int)))=true then true else decide ((x.1.2.2.2.2.2.2.2.2.1:Int)<(0:Int))):Bool)==false)=true then bA k (x.1.2.2.1,(0:Int),(99899:Int),())else some (false,()))) fun r2=>
 if(if(if(if(if(!r1.1)=true then true else decide ((x.1.2.1:Int)<(0:Int)))=true then true else decide ((x.1.2.2.2.2.2.2.2.2.1:Int)<(0:Int)))=true then true else !r2.1)=true then true else(((List.length x.1.2.2.2.2.2.2.2.2.2.2.2.2.1:Nat):Int):Int) != (5:Int))=true then
  some (false,())
 else
  Option.bind (ic k (x.1,())) fun r3=>
  Option.bind ((if((r3.1:Bool)==true)=true then jv k (x.1.2.2.2.2.1,x.1.1,())else some (false,()))) fun r4=>
  Option.bind ((if(((if r3.1=true then r4.1 else false):Bool)==true)=true then ey k (x.1.2.2.2.2.2.1,())else some (false,()))) fun r5=>
  Option.bind ((if(((if(if r3.1=true then r4.1 else false)=true then r5.1 else false):Bool)==true)=true then ey k (x.1.2.2.2.2.2.2.2.2.2.2.2.1,())else some (false,()))) fun r6=>
  Option.bind ((if(((if(if(if r3.1=true then r4.1 else false)=true then r5.1 else false)=true then r6.1 else false):Bool)==true)=true then ig k (x.1,())else some (false,()))) fun r7=>
  Option.bind ((if(((if(if(if(if r3.1=true then r4.1 else false)=true then r5.1 else false)=true then r6.1 else false)=true then r7.1 else false):Bool)==true)=true then ij k (x.1,())else some (false,()))) fun r8=>
  Option.bind ((if(((if(if(if(if(if r3.1=true then r4.1 else false)=true then r5.1 else false)=true then r6.1 else false)=true then r7.1 else false)=true then r8.1 else false):Bool)==true)=true then gy k (x.1,())else some (false,()))) fun r9=>
  some (if(if(if(if(if(if r3.1=true then r4.1 else false)=true then r5.1 else false)=true then r6.1 else false)=true then r7.1 else false)=true then r8.1 else false)=true then r9.1 else false,())
def pV (k:Nat) (x:ar×Int×Unit):Option (Bool×Unit):=
 Option.bind (bA k (x.2.1,(0:Int),IntKind.i64.wrap (((List.length x.1.2.2.2.2.2.2.2.2.2.2.2.2.1:Nat):Int)-(1:Int)),())) fun r1=>
 if(!((r1.1:Bool)==true)||(decide (0≤x.2.1∧x.2.1<((List.length x.1.2.2.2.2.2.2.2.2.2.2.2.2.1:Nat):Int))))=true then
  some (if r1.1=true then(((List.getD x.1.2.2.2.2.2.2.2.2.2.2.2.2.1 (Int.toNat x.2.1) ah.aa).1):Int)==(0:Int)else false,())
 else
  none
def mH (k:Nat) (x:ar×Int×Unit):Option (Bool×Unit):=
 Option.bind (bA k (x.2.1,(0:Int),(2:Int),())) fun r1=>
 Option.bind ((if((r1.1:Bool)==true)=true then pV k (x.1,x.2.1,())else some (false,()))) fun r2=>
 some (if r1.1=true then r2.1 else false,())
def gY (k:Nat) (x:ar×bg×Unit):Option (Int×ar×Unit):=
 if(decide (List.length x.1.2.2.2.2.2.2.2.2.2.2.2.2.2+List.length ([(x.2.1.1,x.2.1.2.1,x.2.1.2.2.1,x.2.1.2.2.2.1,x.2.1.2.2.2.2.1,x.2.1.2.2.2.2.2.1,x.2.1.2.2.2.2.2.2.1,x.2.1.2.2.2.2.2.2.2.1,x.1.2.2.1,x.1.2.1,(-1:Int),(-1:Int))]:List bg)<4294967296))=true then
  some (IntKind.i64.wrap (((List.length (x.1.2.2.2.2.2.2.2.2.2.2.2.2.2++([(x.2.1.1,x.2.1.2.1,x.2.1.2.2.1,x.2.1.2.2.2.1,x.2.1.2.2.2.2.1,x.2.1.2.2.2.2.2.1,x.2.1.2.2.2.2.2.2.1,x.2.1.2.2.2.2.2.2.2.1,x.1.2.2.1,x.1.2.1,(-1:Int),(-1:Int))]:List bg)):Nat):Int)-(1:Int)),(x.1.1,x.1.2.1,x.1.2.2.1,x.1.2.2.2.1,x.1.2.2.2.2.1,x.1.2.2.2.2.2.1,x.1.2.2.2.2.2.2.1,x.1.2.2.2.2.2.2.2.1,x.1.2.2.2.2.2.2.2.2.1,x.1.2.2.2.2.2.2.2.2.2.1,x.1.2.2.2.2.2.2.2.2.2.2.1,x.1.2.2.2.2.2.2.2.2.2.2.2.1,x.1.2.2.2.2.2.2.2.2.2.2.2.2.1,x.1.2.2.2.2.2.2.2.2.2.2.2.2.2++([(x.2.1.1,x.2.1.2.1,x.2.1.2.2.1,x.2.1.2.2.2.1,x.2.1.2.2.2.2.1,x.2.1.2.2.2.2.2.1,x.2.1.2.2.2.2.2.2.1,x.2.1.2.2.2.2.2.2.2.1,x.1.2.2.1,x.1.2.1,(-1:Int),(-1:Int))]:List bg)),())
 else
  none
def gU (k:Nat) (x:ar×Int×aL×bg×Unit):Option (Bool×ar×Unit):=
 Option.bind (mH k (x.1,x.2.1,())) fun r1=>
 if(!r1.1)=true then
  some (false,x.1,())
 else
  Option.bind (gY k (x.1,(x.2.2.2.1.1,x.2.1,x.2.2.2.1.2.2),())) fun r2=>
  if(decide (0≤x.2.1∧x.2.1<((List.length r2.2.1.2.2.2.2.2.2.2.2.2.2.2.2.1:Nat):Int)))=true then
   some (true,(r2.2.1.1,IntKind.i64.wrap (r2.2.1.2.1+(1:Int)),r2.2.1.2.2.1,r2.2.1.2.2.2.1,r2.2.1.2.2.2.2.1,r2.2.1.2.2.2.2.2.1,r2.2.1.2.2.2.2.2.2.1,r2.2.1.2.2.2.2.2.2.2.1,r2.2.1.2.2.2.2.2.2.2.2.1,r2.2.1.2.2.2.2.2.2.2.2.2.1,r2.2.1.2.2.2.2.2.2.2.2.2.2.1,r2.2.1.2.2.2.2.2.2.2.2.2.2.2.1,List.set r2.2.1.2.2.2.2.2.2.2.2.2.2.2.2.1 (Int.toNat x.2.1) (x.2.2.1.1,x.2.2.1.2.1,x.2.2.1.2.2.1,x.2.2.1.2.2.2.1,x.2.2.1.2.2.2.2.1,x.2.2.1.2.2.2.2.2.1,x.2.2.1.2.2.2.2.2.2.1,x.2.2.1.2.2.2.2.2.2.2.1,r2.1),r2.2.1.2.2.2.2.2.2.2.2.2.2.2.2.2),())
  else
   none
def mi (k:Nat) (x:ar×Int×List ai×Unit):Option (Bool×ar×Unit):=
 Option.bind (fk k (x.2.2.1,())) fun r1=>
 Option.bind ((if((r1.1:Bool)==true)=true then dv k (x.2.2.1,())else some (([]:List ai),()))) fun r2=>
 Option.bind ((if((r1.1:Bool)==true)=true then dv k (x.2.2.1,())else some (([]:List ai),()))) fun r3=>
 if((r1.1:Bool)==true)=true then
  Option.bind (gU k (x.1,x.2.1,((2:Int),0,(([]:List ai),0,0,ByteArray.empty),r2.1,0,([]:List Int),([]:List al),0,0),((3:Int),0,(([]:List ai),0,0,ByteArray.empty),r3.1,0,0,0,([]:List al),0,0,0,0),())) fun r4=>
  some (if r1.1=true then r4.1 else false,r4.2.1,())
 else
  some (if r1.1=true then false else false,x.1,())
def mD (k:Nat) (x:ar×Int×List ai×Unit):Option (ar×Bool×Unit):=
 Option.bind (eT k (x.1,())) fun r1=>
 Option.bind (lQ k (x.1,())) fun r2=>
 if(((!r2.1):Bool)==false)=true then
  Option.bind (mi k (r1.1,x.2.1,x.2.2.1,())) fun r3=>
  if(if(!r2.1)=true then true else !r3.1)=true then
   Option.bind (eT k (x.1,())) fun r4=>
   some (r4.1,false,())
  else
   some (r3.2.1,true,())
 else
  if(if(!r2.1)=true then true else !false)=true then
   Option.bind (eT k (x.1,())) fun r5=>
   some (r5.1,false,())
  else
   some (r1.1,true,())
def nu (k:Nat) (x:List ByteArray×List ByteArray×Unit):Option (Bool×Unit):=
 if((((List.length x.1:Nat):Int):Int) != ((List.length x.2.1:Nat):Int))=true then
  some (false,())
 else
  az k (fun G1 (t2:List ByteArray×List ByteArray×Int×Unit)=>
   if(decide ((t2.2.2.1:Int)<((List.length t2.1:Nat):Int)))=true then
    if(decide (0≤t2.2.2.1∧t2.2.2.1<((List.length t2.1:Nat):Int)))=true then
     if(decide (0≤t2.2.2.1∧t2.2.2.1<((List.length t2.2.1:Nat):Int)))=true then
      if(!(ByteArray.toList (List.getD t2.1 (Int.toNat t2.2.2.1) ByteArray.empty)==ByteArray.toList (List.getD t2.2.1 (Int.toNat t2.2.2.1) ByteArray.empty)))=true then
       some (false,())
      else
       G1 (t2.1,t2.2.1,IntKind.i64.wrap (t2.2.2.1+(1:Int)),())
     else
      none
    else
     none
   else
    some (true,())) (x.1,x.2.1,(0:Int),())
def nf (k:Nat) (x:cg×cg×Unit):Option (Bool×Unit):=
 if((x.1.1:Int) != x.2.1.1)=true then
  some (false,())
 else
  if((x.1.2.1:Int) != x.2.1.2.1)=true then
   some (false,())
  else
   if((x.1.2.2.1:Int) != x.2.1.2.2.1)=true then
    some (false,())
   else
    if((x.1.2.2.2.1:Int) != x.2.1.2.2.2.1)=true then
     some (false,())
    else
     if((x.1.2.2.2.2.1:Int) != x.2.1.2.2.2.2.1)=true then
      some (false,())
     else
      Option.bind (nu k (x.1.2.2.2.2.2,x.2.1.2.2.2.2.2,())) fun r1=>
      if(!r1.1)=true then
       some (false,())
      else
       some (true,())
def iC (k:Nat) (x:ai×ai×Unit):Option (Bool×Unit):=
 if(!(ByteArray.toList x.1.1==ByteArray.toList x.2.1.1))=true then
  some (false,())
 else
  if(!(ByteArray.toList x.1.2==ByteArray.toList x.2.1.2))=true then
   some (false,())
  else
   some (true,())
def dY (k:Nat) (x:List ai×List ai×Unit):Option (Bool×Unit):=
 if((((List.length x.1:Nat):Int):Int) != ((List.length x.2.1:Nat):Int))=true then
  some (false,())
 else
  az k (fun G1 (t2:List ai×List ai×Int×Unit)=>
   if(decide ((t2.2.2.1:Int)<((List.length t2.1:Nat):Int)))=true then
    if(decide (0≤t2.2.2.1∧t2.2.2.1<((List.length t2.1:Nat):Int)))=true then
     if(decide (0≤t2.2.2.1∧t2.2.2.1<((List.length t2.2.1:Nat):Int)))=true then
      Option.bind (iC k (List.getD t2.1 (Int.toNat t2.2.2.1) af.aa,List.getD t2.2.1 (Int.toNat t2.2.2.1) af.aa,())) fun r3=>
      if(!r3.1)=true then
       some (false,())
      else
       G1 (t2.1,t2.2.1,IntKind.i64.wrap (t2.2.2.1+(1:Int)),())
     else
      none
    else
     none
   else
    some (true,())) (x.1,x.2.1,(0:Int),())
def eN (k:Nat) (x:al×al×Unit):Option (Bool×Unit):=
 Option.bind (dY k (x.1.1,x.2.1.1,())) fun r1=>
 if(!r1.1)=true then
  some (false,())
 else
  if((x.1.2.1:Int) != x.2.1.2.1)=true then
   some (false,())
  else
   if((x.1.2.2.1:Int) != x.2.1.2.2.1)=true then
    some (false,())
   else
    if(!(ByteArray.toList x.1.2.2.2==ByteArray.toList x.2.1.2.2.2))=true then
     some (false,())
    else
     some (true,())
def db (k:Nat) (x:List al×List al×Unit):Option (Bool×Unit):=
 if((((List.length x.1:Nat):Int):Int) != ((List.length x.2.1:Nat):Int))=true then
  some (false,())
 else
  az k (fun G1 (t2:List al×List al×Int×Unit)=>
   if(decide ((t2.2.2.1:Int)<((List.length t2.1:Nat):Int)))=true then
    if(decide (0≤t2.2.2.1∧t2.2.2.1<((List.length t2.1:Nat):Int)))=true then
     if(decide (0≤t2.2.2.1∧t2.2.2.1<((List.length t2.2.1:Nat):Int)))=true then
      Option.bind (eN k (List.getD t2.1 (Int.toNat t2.2.2.1) ab.aa,List.getD t2.2.1 (Int.toNat t2.2.2.1) ab.aa,())) fun r3=>
      if(!r3.1)=true then
       some (false,())
      else
       G1 (t2.1,t2.2.1,IntKind.i64.wrap (t2.2.2.1+(1:Int)),())
     else
      none
    else
     none
   else
    some (true,())) (x.1,x.2.1,(0:Int),())
def iv (k:Nat) (x:aZ×aZ×Unit):Option (Bool×Unit):=
 if((x.1.1:Int) != x.2.1.1)=true then
  some (false,())
 else
  Option.bind (db k (x.1.2,x.2.1.2,())) fun r1=>
  if(!r1.1)=true then
   some (false,())
  else
   some (true,())
def oU (k:Nat) (x:List aZ×List aZ×Unit):Option (Bool×Unit):=
 if((((List.length x.1:Nat):Int):Int) != ((List.length x.2.1:Nat):Int))=true then
  some (false,())
 else
  az k (fun G1 (t2:List aZ×List aZ×Int×Unit)=>
   if(decide ((t2.2.2.1:Int)<((List.length t2.1:Nat):Int)))=true then
    if(decide (0≤t2.2.2.1∧t2.2.2.1<((List.length t2.1:Nat):Int)))=true then
     if(decide (0≤t2.2.2.1∧t2.2.2.1<((List.length t2.2.1:Nat):Int)))=true then
      Option.bind (iv k (List.getD t2.1 (Int.toNat t2.2.2.1) ay.aa,List.getD t2.2.1 (Int.toNat t2.2.2.1) ay.aa,())) fun r3=>
      if(!r3.1)=true then
       some (false,())
      else
       G1 (t2.1,t2.2.1,IntKind.i64.wrap (t2.2.2.1+(1:Int)),())
     else
      none
    else
     none
   else
    some (true,())) (x.1,x.2.1,(0:Int),())
def jD (k:Nat) (x:aG×aG×Unit):Option (Bool×Unit):=
 if((x.1.1:Int) != x.2.1.1)=true then
  some (false,())
 else
  if((x.1.2.1:Int) != x.2.1.2.1)=true then
   some (false,())
  else
   Option.bind (oU k (x.1.2.2,x.2.1.2.2,())) fun r1=>
   if(!r1.1)=true then
    some (false,())
   else
    some (true,())
def pH (k:Nat) (x:List aG×List aG×Unit):Option (Bool×Unit):=
 if((((List.length x.1:Nat):Int):Int) != ((List.length x.2.1:Nat):Int))=true then
  some (false,())
 else
  az k (fun G1 (t2:List aG×List aG×Int×Unit)=>
   if(decide ((t2.2.2.1:Int)<((List.length t2.1:Nat):Int)))=true then
    if(decide (0≤t2.2.2.1∧t2.2.2.1<((List.length t2.1:Nat):Int)))=true then
     if(decide (0≤t2.2.2.1∧t2.2.2.1<((List.length t2.2.1:Nat):Int)))=true then
      Option.bind (jD k (List.getD t2.1 (Int.toNat t2.2.2.1) ak.aa,List.getD t2.2.1 (Int.toNat t2.2.2.1) ak.aa,())) fun r3=>
      if(!r3.1)=true then
       some (false,())
      else
       G1 (t2.1,t2.2.1,IntKind.i64.wrap (t2.2.2.1+(1:Int)),())
     else
      none
    else
     none
   else
    some (true,())) (x.1,x.2.1,(0:Int),())
def kL (k:Nat) (x:bF×bF×Unit):Option (Bool×Unit):=
 Option.bind (db k (x.1.1,x.2.1.1,())) fun r1=>
 if(!r1.1)=true then
  some (false,())
 else
  if(!((x.1.2:Bool)==x.2.1.2))=true then
   some (false,())
  else
   some (true,())
def qJ (k:Nat) (x:List bF×List bF×Unit):Option (Bool×Unit):=
 if((((List.length x.1:Nat):Int):Int) != ((List.length x.2.1:Nat):Int))=true then
  some (false,())
 else
  az k (fun G1 (t2:List bF×List bF×Int×Unit)=>
   if(decide ((t2.2.2.1:Int)<((List.length t2.1:Nat):Int)))=true then
    if(decide (0≤t2.2.2.1∧t2.2.2.1<((List.length t2.1:Nat):Int)))=true then
     if(decide (0≤t2.2.2.1∧t2.2.2.1<((List.length t2.2.1:Nat):Int)))=true then
      Option.bind (kL k (List.getD t2.1 (Int.toNat t2.2.2.1) aU.aa,List.getD t2.2.1 (Int.toNat t2.2.2.1) aU.aa,())) fun r3=>
      if(!r3.1)=true then
       some (false,())
      else
       G1 (t2.1,t2.2.1,IntKind.i64.wrap (t2.2.2.1+(1:Int)),())
     else
      none
    else
     none
   else
    some (true,())) (x.1,x.2.1,(0:Int),())
def iW (k:Nat) (x:aJ×aJ×Unit):Option (Bool×Unit):=
 if((x.1.1:Int) != x.2.1.1)=true then
  some (false,())
 else
  Option.bind (dY k (x.1.2.1,x.2.1.2.1,())) fun r1=>
  if(!r1.1)=true then
   some (false,())
  else
   if((x.1.2.2.1:Int) != x.2.1.2.2.1)=true then
    some (false,())
   else
    if((x.1.2.2.2.1:Int) != x.2.1.2.2.2.1)=true then
     some (false,())
    else
     Option.bind (db k (x.1.2.2.2.2,x.2.1.2.2.2.2,())) fun r2=>
     if(!r2.1)=true then
      some (false,())
     else
      some (true,())
def oe (k:Nat) (x:List aJ×List aJ×Unit):Option (Bool×Unit):=
 if((((List.length x.1:Nat):Int):Int) != ((List.length x.2.1:Nat):Int))=true then
  some (false,())
 else
  az k (fun G1 (t2:List aJ×List aJ×Int×Unit)=>
   if(decide ((t2.2.2.1:Int)<((List.length t2.1:Nat):Int)))=true then
    if(decide (0≤t2.2.2.1∧t2.2.2.1<((List.length t2.1:Nat):Int)))=true then
     if(decide (0≤t2.2.2.1∧t2.2.2.1<((List.length t2.2.1:Nat):Int)))=true then
      Option.bind (iW k (List.getD t2.1 (Int.toNat t2.2.2.1) aj.aa,List.getD t2.2.1 (Int.toNat t2.2.2.1) aj.aa,())) fun r3=>
      if(!r3.1)=true then
       some (false,())
      else
       G1 (t2.1,t2.2.1,IntKind.i64.wrap (t2.2.2.1+(1:Int)),())
     else
      none
    else
     none
   else
    some (true,())) (x.1,x.2.1,(0:Int),())
def iY (k:Nat) (x:bl×bl×Unit):Option (Bool×Unit):=
 if((x.1.1:Int) != x.2.1.1)=true then
  some (false,())
 else
  if((x.1.2:Int) != x.2.1.2)=true then
   some (false,())
  else
   some (true,())
def oP (k:Nat) (x:List bl×List bl×Unit):Option (Bool×Unit):=
 if((((List.length x.1:Nat):Int):Int) != ((List.length x.2.1:Nat):Int))=true then
  some (false,())
 else
  az k (fun G1 (t2:List bl×List bl×Int×Unit)=>
   if(decide ((t2.2.2.1:Int)<((List.length t2.1:Nat):Int)))=true then
    if(decide (0≤t2.2.2.1∧t2.2.2.1<((List.length t2.1:Nat):Int)))=true then
     if(decide (0≤t2.2.2.1∧t2.2.2.1<((List.length t2.2.1:Nat):Int)))=true then
      Option.bind (iY k (List.getD t2.1 (Int.toNat t2.2.2.1) aC.aa,List.getD t2.2.1 (Int.toNat t2.2.2.1) aC.aa,())) fun r3=>
      if(!r3.1)=true then
       some (false,())
      else
       G1 (t2.1,t2.2.1,IntKind.i64.wrap (t2.2.2.1+(1:Int)),())
     else
      none
    else
     none
   else
    some (true,())) (x.1,x.2.1,(0:Int),())
def iM (k:Nat) (x:bz×bz×Unit):Option (Bool×Unit):=
 if((x.1.1:Int) != x.2.1.1)=true then
  some (false,())
 else
  Option.bind (dY k (x.1.2.1,x.2.1.2.1,())) fun r1=>
  if(!r1.1)=true then
   some (false,())
  else
   if((x.1.2.2.1:Int) != x.2.1.2.2.1)=true then
    some (false,())
   else
    Option.bind (db k (x.1.2.2.2,x.2.1.2.2.2,())) fun r2=>
    if(!r2.1)=true then
     some (false,())
    else
     some (true,())
def oM (k:Nat) (x:List bz×List bz×Unit):Option (Bool×Unit):=
 if((((List.length x.1:Nat):Int):Int) != ((List.length x.2.1:Nat):Int))=true then
  some (false,())
 else
  az k (fun G1 (t2:List bz×List bz×Int×Unit)=>
   if(decide ((t2.2.2.1:Int)<((List.length t2.1:Nat):Int)))=true then
    if(decide (0≤t2.2.2.1∧t2.2.2.1<((List.length t2.1:Nat):Int)))=true then
     if(decide (0≤t2.2.2.1∧t2.2.2.1<((List.length t2.2.1:Nat):Int)))=true then
      Option.bind (iM k (List.getD t2.1 (Int.toNat t2.2.2.1) aN.aa,List.getD t2.2.1 (Int.toNat t2.2.2.1) aN.aa,())) fun r3=>
      if(!r3.1)=true then
       some (false,())
      else
       G1 (t2.1,t2.2.1,IntKind.i64.wrap (t2.2.2.1+(1:Int)),())
     else
      none
    else
     none
   else
    some (true,())) (x.1,x.2.1,(0:Int),())
def qI (k:Nat) (x:List Int×List Int×Unit):Option (Bool×Unit):=
 if((((List.length x.1:Nat):Int):Int) != ((List.length x.2.1:Nat):Int))=true then
  some (false,())
 else
  az k (fun G1 (t2:List Int×List Int×Int×Unit)=>
   if(decide ((t2.2.2.1:Int)<((List.length t2.1:Nat):Int)))=true then
    if(decide (0≤t2.2.2.1∧t2.2.2.1<((List.length t2.1:Nat):Int)))=true then
     if(decide (0≤t2.2.2.1∧t2.2.2.1<((List.length t2.2.1:Nat):Int)))=true then
      if(((List.getD t2.1 (Int.toNat t2.2.2.1) 0):Int) != (List.getD t2.2.1 (Int.toNat t2.2.2.1) 0))=true then
       some (false,())
      else
       G1 (t2.1,t2.2.1,IntKind.i64.wrap (t2.2.2.1+(1:Int)),())
     else
      none
    else
     none
   else
    some (true,())) (x.1,x.2.1,(0:Int),())
def jT (k:Nat) (x:aL×aL×Unit):Option (Bool×Unit):=
 if((x.1.1:Int) != x.2.1.1)=true then
  some (false,())
 else
  if((x.1.2.1:Int) != x.2.1.2.1)=true then
   some (false,())
  else
   Option.bind (eN k (x.1.2.2.1,x.2.1.2.2.1,())) fun r1=>
   if(!r1.1)=true then
    some (false,())
   else
    Option.bind (dY k (x.1.2.2.2.1,x.2.1.2.2.2.1,())) fun r2=>
    if(!r2.1)=true then
     some (false,())
    else
     if((x.1.2.2.2.2.1:Int) != x.2.1.2.2.2.2.1)=true then
      some (false,())
     else
      Option.bind (qI k (x.1.2.2.2.2.2.1,x.2.1.2.2.2.2.2.1,())) fun r3=>
      if(!r3.1)=true then
       some (false,())
      else
       Option.bind (db k (x.1.2.2.2.2.2.2.1,x.2.1.2.2.2.2.2.2.1,())) fun r4=>
       if(!r4.1)=true then
        some (false,())
       else
        if((x.1.2.2.2.2.2.2.2.1:Int) != x.2.1.2.2.2.2.2.2.2.1)=true then
         some (false,())
        else
         if((x.1.2.2.2.2.2.2.2.2:Int) != x.2.1.2.2.2.2.2.2.2.2)=true then
          some (false,())
         else
          some (true,())
def pM (k:Nat) (x:List aL×List aL×Unit):Option (Bool×Unit):=
 if((((List.length x.1:Nat):Int):Int) != ((List.length x.2.1:Nat):Int))=true then
  some (false,())
 else
  az k (fun G1 (t2:List aL×List aL×Int×Unit)=>
   if(decide ((t2.2.2.1:Int)<((List.length t2.1:Nat):Int)))=true then
    if(decide (0≤t2.2.2.1∧t2.2.2.1<((List.length t2.1:Nat):Int)))=true then
     if(decide (0≤t2.2.2.1∧t2.2.2.1<((List.length t2.2.1:Nat):Int)))=true then
      Option.bind (jT k (List.getD t2.1 (Int.toNat t2.2.2.1) ah.aa,List.getD t2.2.1 (Int.toNat t2.2.2.1) ah.aa,())) fun r3=>
      if(!r3.1)=true then
       some (false,())
      else
       G1 (t2.1,t2.2.1,IntKind.i64.wrap (t2.2.2.1+(1:Int)),())
     else
      none
    else
     none
   else
    some (true,())) (x.1,x.2.1,(0:Int),())
def jK (k:Nat) (x:bg×bg×Unit):Option (Bool×Unit):=
 if((x.1.1:Int) != x.2.1.1)=true then
  some (false,())
 else
  if((x.1.2.1:Int) != x.2.1.2.1)=true then
   some (false,())
  else
   Option.bind (eN k (x.1.2.2.1,x.2.1.2.2.1,())) fun r1=>
   if(!r1.1)=true then
    some (false,())
   else
    Option.bind (dY k (x.1.2.2.2.1,x.2.1.2.2.2.1,())) fun r2=>
    if(!r2.1)=true then
     some (false,())
    else
     if((x.1.2.2.2.2.1:Int) != x.2.1.2.2.2.2.1)=true then
      some (false,())
     else
      if((x.1.2.2.2.2.2.1:Int) != x.2.1.2.2.2.2.2.1)=true then
       some (false,())
      else
       if((x.1.2.2.2.2.2.2.1:Int) != x.2.1.2.2.2.2.2.2.1)=true then
        some (false,())
       else
        Option.bind (db k (x.1.2.2.2.2.2.2.2.1,x.2.1.2.2.2.2.2.2.2.1,())) fun r3=>
        if(!r3.1)=true then
         some (false,())
        else
         if((x.1.2.2.2.2.2.2.2.2.1:Int) != x.2.1.2.2.2.2.2.2.2.2.1)=true then
          some (false,())
         else
          if((x.1.2.2.2.2.2.2.2.2.2.1:Int) != x.2.1.2.2.2.2.2.2.2.2.2.1)=true then
           some (false,())
          else
           if((x.1.2.2.2.2.2.2.2.2.2.2.1:Int) != x.2.1.2.2.2.2.2.2.2.2.2.2.1)=true then
            some (false,())
           else
            if((x.1.2.2.2.2.2.2.2.2.2.2.2:Int) != x.2.1.2.2.2.2.2.2.2.2.2.2.2)=true then
             some (false,())
            else
             some (true,())
def pz (k:Nat) (x:List bg×List bg×Unit):Option (Bool×Unit):=
 if((((List.length x.1:Nat):Int):Int) != ((List.length x.2.1:Nat):Int))=true then
  some (false,())
 else
  az k (fun G1 (t2:List bg×List bg×Int×Unit)=>
   if(decide ((t2.2.2.1:Int)<((List.length t2.1:Nat):Int)))=true then
    if(decide (0≤t2.2.2.1∧t2.2.2.1<((List.length t2.1:Nat):Int)))=true then
     if(decide (0≤t2.2.2.1∧t2.2.2.1<((List.length t2.2.1:Nat):Int)))=true then
      Option.bind (jK k (List.getD t2.1 (Int.toNat t2.2.2.1) aq.aa,List.getD t2.2.1 (Int.toNat t2.2.2.1) aq.aa,())) fun r3=>
      if(!r3.1)=true then
       some (false,())
      else
       G1 (t2.1,t2.2.1,IntKind.i64.wrap (t2.2.2.1+(1:Int)),())
     else
      none
    else
     none
   else
    some (true,())) (x.1,x.2.1,(0:Int),())
def eY (k:Nat) (x:ar×ar×Unit):Option (Bool×Unit):=
 Option.bind (nf k (x.1.1,x.2.1.1,())) fun r1=>
 if(!r1.1)=true then
  some (false,())
 else
  if((x.1.2.1:Int) != x.2.1.2.1)=true then
   some (false,())
  else
   if((x.1.2.2.1:Int) != x.2.1.2.2.1)=true then
    some (false,())
   else
    Option.bind (pH k (x.1.2.2.2.1,x.2.1.2.2.2.1,())) fun r2=>
    if(!r2.1)=true then
     some (false,())
    else
     Option.bind (qJ k (x.1.2.2.2.2.1,x.2.1.2.2.2.2.1,())) fun r3=>
     if(!r3.1)=true then
      some (false,())
     else
      Option.bind (db k (x.1.2.2.2.2.2.1,x.2.1.2.2.2.2.2.1,())) fun r4=>
      if(!r4.1)=true then
       some (false,())
      else
       if((x.1.2.2.2.2.2.2.1:Int) != x.2.1.2.2.2.2.2.2.1)=true then
        some (false,())
       else
        Option.bind (oe k (x.1.2.2.2.2.2.2.2.1,x.2.1.2.2.2.2.2.2.2.1,())) fun r5=>
        if(!r5.1)=true then
         some (false,())
        else
         if((x.1.2.2.2.2.2.2.2.2.1:Int) != x.2.1.2.2.2.2.2.2.2.2.1)=true then
          some (false,())
         else
          Option.bind (oP k (x.1.2.2.2.2.2.2.2.2.2.1,x.2.1.2.2.2.2.2.2.2.2.2.1,())) fun r6=>
          if(!r6.1)=true then
           some (false,())
          else
           Option.bind (oM k (x.1.2.2.2.2.2.2.2.2.2.2.1,x.2.1.2.2.2.2.2.2.2.2.2.2.1,())) fun r7=>
           if(!r7.1)=true then
            some (false,())
           else
            Option.bind (db k (x.1.2.2.2.2.2.2.2.2.2.2.2.1,x.2.1.2.2.2.2.2.2.2.2.2.2.2.1,())) fun r8=>
            if(!r8.1)=true then
             some (false,())
            else
             Option.bind (pM k (x.1.2.2.2.2.2.2.2.2.2.2.2.2.1,x.2.1.2.2.2.2.2.2.2.2.2.2.2.2.1,())) fun r9=>
             if(!r9.1)=true then
              some (false,())
             else
              Option.bind (pz k (x.1.2.2.2.2.2.2.2.2.2.2.2.2.2,x.2.1.2.2.2.2.2.2.2.2.2.2.2.2.2,())) fun r10=>
              if(!r10.1)=true then
               some (false,())
              else
               some (true,())
def bS (k:Nat) (x:Int×Unit):Option (ByteArray×Unit):=
 if(decide ((x.1:Int)≤(0:Int)))=true then
  some ((⟨#[109,48]⟩:ByteArray),())
 else
  aP (fun J1=>
   az k (fun G3 (t4:Int×ByteArray×Unit)=>
    if(decide ((t4.1:Int)>(0:Int)))=true then
     if(decide ((10:Int)≠0))=true then
      if(decide (((⟨(List.map (fun n:Int=>UInt8.ofNat n.toNat) ([IntKind.u8.wrap (IntKind.i64.wrap ((48:Int)+(Int.tmod t4.1 (10:Int))))]:List Int)).toArray⟩:ByteArray)).size+(t4.2.1).size<4294967296))=true then
       if(decide ((10:Int)≠0))=true then
        G3 (IntKind.i64.wrap (Int.tdiv t4.1 (10:Int)),(⟨(List.map (fun n:Int=>UInt8.ofNat n.toNat) ([IntKind.u8.wrap (IntKind.i64.wrap ((48:Int)+(Int.tmod t4.1 (10:Int))))]:List Int)).toArray⟩:ByteArray)++t4.2.1,())
       else
        none
      else
       none
     else
      none
    else
     J1 (t4.2.1,())) (x.1,(⟨#[]⟩:ByteArray),())) (fun(t2:ByteArray×Unit)=>
   if(decide (((⟨#[109]⟩:ByteArray)).size+(t2.1).size<4294967296))=true then
    some ((⟨#[109]⟩:ByteArray)++t2.1,())
   else
    none)
def kS (k:Nat) (x:List ByteArray) (n:Int):Option (Int×(List ByteArray)):=
 az k (fun G1 (t2:List ByteArray×Int×Int×Unit)=>
  if(decide ((t2.2.2.1:Int)<((List.length t2.1:Nat):Int)))=true then
   Option.bind (bS k (t2.2.1,())) fun r3=>
   if(decide (0≤t2.2.2.1∧t2.2.2.1<((List.length t2.1:Nat):Int)))=true then
    bW (List.set t2.1 (Int.toNat t2.2.2.1) r3.1) fun l4=>
    G1 (l4,IntKind.i64.wrap (t2.2.1+(1:Int)),IntKind.i64.wrap (t2.2.2.1+(1:Int)),())
   else
    none
  else
   some (t2.2.1,t2.1)) (x,n,(0:Int),())
def nR (k:Nat) (x:cg) (n:Int):Option (Int×cg):=
 Option.bind (kS k x.2.2.2.2.2 n) fun r1=>
 some (r1.1,(x.1,x.2.1,x.2.2.1,x.2.2.2.1,x.2.2.2.2.1,r1.2))
def cI (k:Nat) (x:List ai) (n:Int):Option (Int×(List ai)):=
 az k (fun G1 (t2:List ai×Int×Int×Unit)=>
  if(decide ((t2.2.2.1:Int)<((List.length t2.1:Nat):Int)))=true then
   Option.bind (bS k (t2.2.1,())) fun r3=>
   if(decide (0≤t2.2.2.1∧t2.2.2.1<((List.length t2.1:Nat):Int)))=true then
    bW (List.set t2.1 (Int.toNat t2.2.2.1) (r3.1,(List.getD t2.1 (Int.toNat t2.2.2.1) af.aa).2)) fun l4=>
    Option.bind (bS k (IntKind.i64.wrap (t2.2.1+(1:Int)),())) fun r5=>
    if(decide (0≤t2.2.2.1∧t2.2.2.1<((List.length l4:Nat):Int)))=true then
     bW (List.set l4 (Int.toNat t2.2.2.1) ((List.getD l4 (Int.toNat t2.2.2.1) af.aa).1,r5.1)) fun l6=>
     G1 (l6,IntKind.i64.wrap ((IntKind.i64.wrap (t2.2.1+(1:Int)))+(1:Int)),IntKind.i64.wrap (t2.2.2.1+(1:Int)),())
    else
     none
   else
    none
  else
   some (t2.2.1,t2.1)) (x,n,(0:Int),())
def cH (k:Nat) (x:List al) (n:Int):Option (Int×(List al)):=
 az k (fun G1 (t2:List al×Int×Int×Unit)=>
  if(decide ((t2.2.2.1:Int)<((List.length t2.1:Nat):Int)))=true then
   if(decide (0≤t2.2.2.1∧t2.2.2.1<((List.length t2.1:Nat):Int)))=true then
    Option.bind (cI k ((List.getD t2.1 (Int.toNat t2.2.2.1) ab.aa).1) t2.2.1) fun r3=>
    bW (List.set t2.1 (Int.toNat t2.2.2.1) (r3.2,(List.getD t2.1 (Int.toNat t2.2.2.1) ab.aa).2)) fun l4=>
    if(decide (0≤t2.2.2.1∧t2.2.2.1<((List.length l4:Nat):Int)))=true then
     bW (List.set l4 (Int.toNat t2.2.2.1) ((List.getD l4 (Int.toNat t2.2.2.1) ab.aa).1,r3.1,((List.getD l4 (Int.toNat t2.2.2.1) ab.aa).2).2)) fun l5=>
     if(decide (0≤t2.2.2.1∧t2.2.2.1<((List.length l5:Nat):Int)))=true then
      bW (List.set l5 (Int.toNat t2.2.2.1) ((List.getD l5 (Int.toNat t2.2.2.1) ab.aa).1,((List.getD l5 (Int.toNat t2.2.2.1) ab.aa).2).1,IntKind.i64.wrap (r3.1+(1:Int)),(((List.getD l5 (Int.toNat t2.2.2.1) ab.aa).2).2).2)) fun l6=>
      Option.bind (bS k (IntKind.i64.wrap ((IntKind.i64.wrap (r3.1+(1:Int)))+(1:Int)),())) fun r7=>
      if(decide (0≤t2.2.2.1∧t2.2.2.1<((List.length l6:Nat):Int)))=true then
       bW (List.set l6 (Int.toNat t2.2.2.1) ((List.getD l6 (Int.toNat t2.2.2.1) ab.aa).1,((List.getD l6 (Int.toNat t2.2.2.1) ab.aa).2).1,(((List.getD l6 (Int.toNat t2.2.2.1) ab.aa).2).2).1,r7.1)) fun l8=>
       G1 (l8,IntKind.i64.wrap ((IntKind.i64.wrap ((IntKind.i64.wrap (r3.1+(1:Int)))+(1:Int)))+(1:Int)),IntKind.i64.wrap (t2.2.2.1+(1:Int)),())
      else
       none
     else
      none
    else
     none
   else
    none
  else
   some (t2.2.1,t2.1)) (x,n,(0:Int),())
def mo (k:Nat) (x:List aZ) (n:Int):Option (Int×(List aZ)):=
 az k (fun G1 (t2:List aZ×Int×Int×Unit)=>
  if(decide ((t2.2.2.1:Int)<((List.length t2.1:Nat):Int)))=true then
   if(decide (0≤t2.2.2.1∧t2.2.2.1<((List.length t2.1:Nat):Int)))=true then
    bW (List.set t2.1 (Int.toNat t2.2.2.1) (t2.2.1,(List.getD t2.1 (Int.toNat t2.2.2.1) ay.aa).2)) fun l3=>
    if(decide (0≤t2.2.2.1∧t2.2.2.1<((List.length l3:Nat):Int)))=true then
     Option.bind (cH k ((List.getD l3 (Int.toNat t2.2.2.1) ay.aa).2) (IntKind.i64.wrap (t2.2.1+(1:Int)))) fun r4=>
     bW (List.set l3 (Int.toNat t2.2.2.1) ((List.getD l3 (Int.toNat t2.2.2.1) ay.aa).1,r4.2)) fun l5=>
     G1 (l5,r4.1,IntKind.i64.wrap (t2.2.2.1+(1:Int)),())
    else
     none
   else
    none
  else
   some (t2.2.1,t2.1)) (x,n,(0:Int),())
def nB (k:Nat) (x:List aG) (n:Int):Option (Int×(List aG)):=
 az k (fun G1 (t2:List aG×Int×Int×Unit)=>
  if(decide ((t2.2.2.1:Int)<((List.length t2.1:Nat):Int)))=true then
   if(decide (0≤t2.2.2.1∧t2.2.2.1<((List.length t2.1:Nat):Int)))=true then
    bW (List.set t2.1 (Int.toNat t2.2.2.1) (t2.2.1,(List.getD t2.1 (Int.toNat t2.2.2.1) ak.aa).2)) fun l3=>
    if(decide (0≤t2.2.2.1∧t2.2.2.1<((List.length l3:Nat):Int)))=true then
     bW (List.set l3 (Int.toNat t2.2.2.1) ((List.getD l3 (Int.toNat t2.2.2.1) ak.aa).1,IntKind.i64.wrap (t2.2.1+(1:Int)),((List.getD l3 (Int.toNat t2.2.2.1) ak.aa).2).2)) fun l4=>
     if(decide (0≤t2.2.2.1∧t2.2.2.1<((List.length l4:Nat):Int)))=true then
      Option.bind (mo k (((List.getD l4 (Int.toNat t2.2.2.1) ak.aa).2).2) (IntKind.i64.wrap ((IntKind.i64.wrap (t2.2.1+(1:Int)))+(1:Int)))) fun r5=>
      bW (List.set l4 (Int.toNat t2.2.2.1) ((List.getD l4 (Int.toNat t2.2.2.1) ak.aa).1,((List.getD l4 (Int.toNat t2.2.2.1) ak.aa).2).1,r5.2)) fun l6=>
      G1 (l6,r5.1,IntKind.i64.wrap (t2.2.2.1+(1:Int)),())
     else
      none
    else
     none
   else
    none
  else
   some (t2.2.1,t2.1)) (x,n,(0:Int),())
def nV (k:Nat) (x:List bF) (n:Int):Option (Int×(List bF)):=
 az k (fun G1 (t2:List bF×Int×Int×Unit)=>
  if(decide ((t2.2.2.1:Int)<((List.length t2.1:Nat):Int)))=true then
   if(decide (0≤t2.2.2.1∧t2.2.2.1<((List.length t2.1:Nat):Int)))=true then
    Option.bind (cH k ((List.getD t2.1 (Int.toNat t2.2.2.1) aU.aa).1) t2.2.1) fun r3=>
    bW (List.set t2.1 (Int.toNat t2.2.2.1) (r3.2,(List.getD t2.1 (Int.toNat t2.2.2.1) aU.aa).2)) fun l4=>
    if(decide ((3:Int)≠0))=true then
     if(decide (0≤t2.2.2.1∧t2.2.2.1<((List.length l4:Nat):Int)))=true then
      bW (List.set l4 (Int.toNat t2.2.2.1) ((List.getD l4 (Int.toNat t2.2.2.1) aU.aa).1,((Int.tmod r3.1 (3:Int)):Int)==(0:Int))) fun l5=>
      G1 (l5,IntKind.i64.wrap (r3.1+(1:Int)),IntKind.i64.wrap (t2.2.2.1+(1:Int)),())
     else
      none
    else
     none
   else
    none
  else
   some (t2.2.1,t2.1)) (x,n,(0:Int),())
def mn (k:Nat) (x:List aJ) (n:Int):Option (Int×(List aJ)):=
 az k (fun G1 (t2:List aJ×Int×Int×Unit)=>
  if(decide ((t2.2.2.1:Int)<((List.length t2.1:Nat):Int)))=true then
   if(decide (0≤t2.2.2.1∧t2.2.2.1<((List.length t2.1:Nat):Int)))=true then
    bW (List.set t2.1 (Int.toNat t2.2.2.1) (t2.2.1,(List.getD t2.1 (Int.toNat t2.2.2.1) aj.aa).2)) fun l3=>
    if(decide (0≤t2.2.2.1∧t2.2.2.1<((List.length l3:Nat):Int)))=true then
     Option.bind (cI k (((List.getD l3 (Int.toNat t2.2.2.1) aj.aa).2).1) (IntKind.i64.wrap (t2.2.1+(1:Int)))) fun r4=>
     bW (List.set l3 (Int.toNat t2.2.2.1) ((List.getD l3 (Int.toNat t2.2.2.1) aj.aa).1,r4.2,((List.getD l3 (Int.toNat t2.2.2.1) aj.aa).2).2)) fun l5=>
     if(decide (0≤t2.2.2.1∧t2.2.2.1<((List.length l5:Nat):Int)))=true then
      bW (List.set l5 (Int.toNat t2.2.2.1) ((List.getD l5 (Int.toNat t2.2.2.1) aj.aa).1,((List.getD l5 (Int.toNat t2.2.2.1) aj.aa).2).1,r4.1,(((List.getD l5 (Int.toNat t2.2.2.1) aj.aa).2).2).2)) fun l6=>
      if(decide (0≤t2.2.2.1∧t2.2.2.1<((List.length l6:Nat):Int)))=true then
       bW (List.set l6 (Int.toNat t2.2.2.1) ((List.getD l6 (Int.toNat t2.2.2.1) aj.aa).1,((List.getD l6 (Int.toNat t2.2.2.1) aj.aa).2).1,(((List.getD l6 (Int.toNat t2.2.2.1) aj.aa).2).2).1,IntKind.i64.wrap (r4.1+(1:Int)),((((List.getD l6 (Int.toNat t2.2.2.1) aj.aa).2).2).2).2)) fun l7=>
       if(decide (0≤t2.2.2.1∧t2.2.2.1<((List.length l7:Nat):Int)))=true then
        Option.bind (cH k (((((List.getD l7 (Int.toNat t2.2.2.1) aj.aa).2).2).2).2) (IntKind.i64.wrap ((IntKind.i64.wrap (r4.1+(1:Int)))+(1:Int)))) fun r8=>
        bW (List.set l7 (Int.toNat t2.2.2.1) ((List.getD l7 (Int.toNat t2.2.2.1) aj.aa).1,((List.getD l7 (Int.toNat t2.2.2.1) aj.aa).2).1,(((List.getD l7 (Int.toNat t2.2.2.1) aj.aa).2).2).1,((((List.getD l7 (Int.toNat t2.2.2.1) aj.aa).2).2).2).1,r8.2)) fun l9=>
        G1 (l9,r8.1,IntKind.i64.wrap (t2.2.2.1+(1:Int)),())
       else
        none
      else
       none
     else
      none
    else
     none
   else
    none
  else
   some (t2.2.1,t2.1)) (x,n,(0:Int),())
def ml (k:Nat) (x:List bl) (n:Int):Option (Int×(List bl)):=
 az k (fun G1 (t2:List bl×Int×Int×Unit)=>
  if(decide ((t2.2.2.1:Int)<((List.length t2.1:Nat):Int)))=true then
   if(decide (0≤t2.2.2.1∧t2.2.2.1<((List.length t2.1:Nat):Int)))=true then
    bW (List.set t2.1 (Int.toNat t2.2.2.1) (t2.2.1,(List.getD t2.1 (Int.toNat t2.2.2.1) aC.aa).2)) fun l3=>
    if(decide (0≤t2.2.2.1∧t2.2.2.1<((List.length l3:Nat):Int)))=true then
     bW (List.set l3 (Int.toNat t2.2.2.1) ((List.getD l3 (Int.toNat t2.2.2.1) aC.aa).1,IntKind.i64.wrap (t2.2.1+(1:Int)))) fun l4=>
     G1 (l4,IntKind.i64.wrap ((IntKind.i64.wrap (t2.2.1+(1:Int)))+(1:Int)),IntKind.i64.wrap (t2.2.2.1+(1:Int)),())
    else
     none
   else
    none
  else
   some (t2.2.1,t2.1)) (x,n,(0:Int),())
def mc (k:Nat) (x:List bz) (n:Int):Option (Int×(List bz)):=
 az k (fun G1 (t2:List bz×Int×Int×Unit)=>
  if(decide ((t2.2.2.1:Int)<((List.length t2.1:Nat):Int)))=true then
   if(decide (0≤t2.2.2.1∧t2.2.2.1<((List.length t2.1:Nat):Int)))=true then
    bW (List.set t2.1 (Int.toNat t2.2.2.1) (t2.2.1,(List.getD t2.1 (Int.toNat t2.2.2.1) aN.aa).2)) fun l3=>
    if(decide (0≤t2.2.2.1∧t2.2.2.1<((List.length l3:Nat):Int)))=true then
     Option.bind (cI k (((List.getD l3 (Int.toNat t2.2.2.1) aN.aa).2).1) (IntKind.i64.wrap (t2.2.1+(1:Int)))) fun r4=>
     bW (List.set l3 (Int.toNat t2.2.2.1) ((List.getD l3 (Int.toNat t2.2.2.1) aN.aa).1,r4.2,((List.getD l3 (Int.toNat t2.2.2.1) aN.aa).2).2)) fun l5=>
     if(decide (0≤t2.2.2.1∧t2.2.2.1<((List.length l5:Nat):Int)))=true then
      bW (List.set l5 (Int.toNat t2.2.2.1) ((List.getD l5 (Int.toNat t2.2.2.1) aN.aa).1,((List.getD l5 (Int.toNat t2.2.2.1) aN.aa).2).1,r4.1,(((List.getD l5 (Int.toNat t2.2.2.1) aN.aa).2).2).2)) fun l6=>
      if(decide (0≤t2.2.2.1∧t2.2.2.1<((List.length l6:Nat):Int)))=true then
       Option.bind (cH k ((((List.getD l6 (Int.toNat t2.2.2.1) aN.aa).2).2).2) (IntKind.i64.wrap (r4.1+(1:Int)))) fun r7=>
       bW (List.set l6 (Int.toNat t2.2.2.1) ((List.getD l6 (Int.toNat t2.2.2.1) aN.aa).1,((List.getD l6 (Int.toNat t2.2.2.1) aN.aa).2).1,(((List.getD l6 (Int.toNat t2.2.2.1) aN.aa).2).2).1,r7.2)) fun l8=>
       G1 (l8,r7.1,IntKind.i64.wrap (t2.2.2.1+(1:Int)),())
      else
       none
     else
      none
    else
     none
   else
    none
  else
   some (t2.2.1,t2.1)) (x,n,(0:Int),())
def ox (k:Nat) (x:List Int) (n:Int):Option (Int×(List Int)):=
 az k (fun G1 (t2:List Int×Int×Int×Unit)=>
  if(decide ((t2.2.2.1:Int)<((List.length t2.1:Nat):Int)))=true then
   if(decide (0≤t2.2.2.1∧t2.2.2.1<((List.length t2.1:Nat):Int)))=true then
    bW (List.set t2.1 (Int.toNat t2.2.2.1) t2.2.1) fun l3=>
    G1 (l3,IntKind.i64.wrap (t2.2.1+(1:Int)),IntKind.i64.wrap (t2.2.2.1+(1:Int)),())
   else
    none
  else
   some (t2.2.1,t2.1)) (x,n,(0:Int),())
def nr (k:Nat) (x:List aL) (n:Int):Option (Int×(List aL)):=
 az k (fun G1 (t2:List aL×Int×Int×Unit)=>
  if(decide ((t2.2.2.1:Int)<((List.length t2.1:Nat):Int)))=true then
   if(decide (0≤t2.2.2.1∧t2.2.2.1<((List.length t2.1:Nat):Int)))=true then
    bW (List.set t2.1 (Int.toNat t2.2.2.1) (t2.2.1,(List.getD t2.1 (Int.toNat t2.2.2.1) ah.aa).2)) fun l3=>
    if(decide (0≤t2.2.2.1∧t2.2.2.1<((List.length l3:Nat):Int)))=true then
     bW (List.set l3 (Int.toNat t2.2.2.1) ((List.getD l3 (Int.toNat t2.2.2.1) ah.aa).1,IntKind.i64.wrap (t2.2.1+(1:Int)),((List.getD l3 (Int.toNat t2.2.2.1) ah.aa).2).2)) fun l4=>
     if(decide (0≤t2.2.2.1∧t2.2.2.1<((List.length l4:Nat):Int)))=true then
      Option.bind (cI k (((((List.getD l4 (Int.toNat t2.2.2.1) ah.aa).2).2).1).1) (IntKind.i64.wrap ((IntKind.i64.wrap (t2.2.1+(1:Int)))+(1:Int)))) fun r5=>
      bW (List.set l4 (Int.toNat t2.2.2.1) ((List.getD l4 (Int.toNat t2.2.2.1) ah.aa).1,((List.getD l4 (Int.toNat t2.2.2.1) ah.aa).2).1,(r5.2,((((List.getD l4 (Int.toNat t2.2.2.1) ah.aa).2).2).1).2),(((List.getD l4 (Int.toNat t2.2.2.1) ah.aa).2).2).2)) fun l6=>
      if(decide (0≤t2.2.2.1∧t2.2.2.1<((List.length l6:Nat):Int)))=true then
       bW (List.set l6 (Int.toNat t2.2.2.1) ((List.getD l6 (Int.toNat t2.2.2.1) ah.aa).1,((List.getD l6 (Int.toNat t2.2.2.1) ah.aa).2).1,(((((List.getD l6 (Int.toNat t2.2.2.1) ah.aa).2).2).1).1,r5.1,(((((List.getD l6 (Int.toNat t2.2.2.1) ah.aa).2).2).1).2).2),(((List.getD l6 (Int.toNat t2.2.2.1) ah.aa).2).2).2)) fun l7=>
       if(decide (0≤t2.2.2.1∧t2.2.2.1<((List.length l7:Nat):Int)))=true then
        bW (List.set l7 (Int.toNat t2.2.2.1) ((List.getD l7 (Int.toNat t2.2.2.1) ah.aa).1,((List.getD l7 (Int.toNat t2.2.2.1) ah.aa).2).1,(((((List.getD l7 (Int.toNat t2.2.2.1) ah.aa).2).2).1).1,(((((List.getD l7 (Int.toNat t2.2.2.1) ah.aa).2).2).1).2).1,IntKind.i64.wrap (r5.1+(1:Int)),((((((List.getD l7 (Int.toNat t2.2.2.1) ah.aa).2).2).1).2).2).2),(((List.getD l7 (Int.toNat t2.2.2.1) ah.aa).2).2).2)) fun l8=>
        Option.bind (bS k (IntKind.i64.wrap ((IntKind.i64.wrap (r5.1+(1:Int)))+(1:Int)),())) fun r9=>
        if(decide (0≤t2.2.2.1∧t2.2.2.1<((List.length l8:Nat):Int)))=true then
         bW (List.set l8 (Int.toNat t2.2.2.1) ((List.getD l8 (Int.toNat t2.2.2.1) ah.aa).1,((List.getD l8 (Int.toNat t2.2.2.1) ah.aa).2).1,(((((List.getD l8 (Int.toNat t2.2.2.1) ah.aa).2).2).1).1,(((((List.getD l8 (Int.toNat t2.2.2.1) ah.aa).2).2).1).2).1,((((((List.getD l8 (Int.toNat t2.2.2.1) ah.aa).2).2).1).2).2).1,r9.1),(((List.getD l8 (Int.toNat t2.2.2.1) ah.aa).2).2).2)) fun l10=>
         if(decide (0≤t2.2.2.1∧t2.2.2.1<((List.length l10:Nat):Int)))=true then
          Option.bind (cI k (((((List.getD l10 (Int.toNat t2.2.2.1) ah.aa).2).2).2).1) (IntKind.i64.wrap ((IntKind.i64.wrap ((IntKind.i64.wrap (r5.1+(1:Int)))+(1:Int)))+(1:Int)))) fun r11=>
          bW (List.set l10 (Int.toNat t2.2.2.1) ((List.getD l10 (Int.toNat t2.2.2.1) ah.aa).1,((List.getD l10 (Int.toNat t2.2.2.1) ah.aa).2).1,(((List.getD l10 (Int.toNat t2.2.2.1) ah.aa).2).2).1,r11.2,((((List.getD l10 (Int.toNat t2.2.2.1) ah.aa).2).2).2).2)) fun l12=>
          if(decide (0≤t2.2.2.1∧t2.2.2.1<((List.length l12:Nat):Int)))=true then
           bW (List.set l12 (Int.toNat t2.2.2.1) ((List.getD l12 (Int.toNat t2.2.2.1) ah.aa).1,((List.getD l12 (Int.toNat t2.2.2.1) ah.aa).2).1,(((List.getD l12 (Int.toNat t2.2.2.1) ah.aa).2).2).1,((((List.getD l12 (Int.toNat t2.2.2.1) ah.aa).2).2).2).1,r11.1,(((((List.getD l12 (Int.toNat t2.2.2.1) ah.aa).2).2).2).2).2)) fun l13=>
           if(decide (0≤t2.2.2.1∧t2.2.2.1<((List.length l13:Nat):Int)))=true then
            Option.bind (ox k (((((((List.getD l13 (Int.toNat t2.2.2.1) ah.aa).2).2).2).2).2).1) (IntKind.i64.wrap (r11.1+(1:Int)))) fun r14=>
            bW (List.set l13 (Int.toNat t2.2.2.1) ((List.getD l13 (Int.toNat t2.2.2.1) ah.aa).1,((List.getD l13 (Int.toNat t2.2.2.1) ah.aa).2).1,(((List.getD l13 (Int.toNat t2.2.2.1) ah.aa).2).2).1,((((List.getD l13 (Int.toNat t2.2.2.1) ah.aa).2).2).2).1,(((((List.getD l13 (Int.toNat t2.2.2.1) ah.aa).2).2).2).2).1,r14.2,((((((List.getD l13 (Int.toNat t2.2.2.1) ah.aa).2).2).2).2).2).2)) fun l15=>
            if(decide (0≤t2.2.2.1∧t2.2.2.1<((List.length l15:Nat):Int)))=true then
             Option.bind (cH k ((((((((List.getD l15 (Int.toNat t2.2.2.1) ah.aa).2).2).2).2).2).2).1) r14.1) fun r16=>
             bW (List.set l15 (Int.toNat t2.2.2.1) ((List.getD l15 (Int.toNat t2.2.2.1) ah.aa).1,((List.getD l15 (Int.toNat t2.2.2.1) ah.aa).2).1,(((List.getD l15 (Int.toNat t2.2.2.1) ah.aa).2).2).1,((((List.getD l15 (Int.toNat t2.2.2.1) ah.aa).2).2).2).1,(((((List.getD l15 (Int.toNat t2.2.2.1) ah.aa).2).2).2).2).1,((((((List.getD l15 (Int.toNat t2.2.2.1) ah.aa).2).2).2).2).2).1,r16.2,(((((((List.getD l15 (Int.toNat t2.2.2.1) ah.aa).2).2).2).2).2).2).2)) fun l17=>
             if(decide (0≤t2.2.2.1∧t2.2.2.1<((List.length l17:Nat):Int)))=true then
              bW (List.set l17 (Int.toNat t2.2.2.1) ((List.getD l17 (Int.toNat t2.2.2.1) ah.aa).1,((List.getD l17 (Int.toNat t2.2.2.1) ah.aa).2).1,(((List.getD l17 (Int.toNat t2.2.2.1) ah.aa).2).2).1,((((List.getD l17 (Int.toNat t2.2.2.1) ah.aa).2).2).2).1,(((((List.getD l17 (Int.toNat t2.2.2.1) ah.aa).2).2).2).2).1,((((((List.getD l17 (Int.toNat t2.2.2.1) ah.aa).2).2).2).2).2).1,(((((((List.getD l17 (Int.toNat t2.2.2.1) ah.aa).2).2).2).2).2).2).1,r16.1,((((((((List.getD l17 (Int.toNat t2.2.2.1) ah.aa).2).2).2).2).2).2).2).2)) fun l18=>
              if(decide (0≤t2.2.2.1∧t2.2.2.1<((List.length l18:Nat):Int)))=true then
               bW (List.set l18 (Int.toNat t2.2.2.1) ((List.getD l18 (Int.toNat t2.2.2.1) ah.aa).1,((List.getD l18 (Int.toNat t2.2.2.1) ah.aa).2).1,(((List.getD l18 (Int.toNat t2.2.2.1) ah.aa).2).2).1,((((List.getD l18 (Int.toNat t2.2.2.1) ah.aa).2).2).2).1,(((((List.getD l18 (Int.toNat t2.2.2.1) ah.aa).2).2).2).2).1,((((((List.getD l18 (Int.toNat t2.2.2.1) ah.aa).2).2).2).2).2).1,(((((((List.getD l18 (Int.toNat t2.2.2.1) ah.aa).2).2).2).2).2).2).1,((((((((List.getD l18 (Int.toNat t2.2.2.1) ah.aa).2).2).2).2).2).2).2).1,IntKind.i64.wrap (r16.1+(1:Int)))) fun l19=>
               G1 (l19,IntKind.i64.wrap ((IntKind.i64.wrap (r16.1+(1:Int)))+(1:Int)),IntKind.i64.wrap (t2.2.2.1+(1:Int)),())
              else
               none
             else
              none
            else
             none
           else
            none
          else
           none
         else
          none
        else
         none
       else
        none
      else
       none
     else
      none
    else
     none
   else
    none
  else
   some (t2.2.1,t2.1)) (x,n,(0:Int),())
def ny (k:Nat) (x:List bg) (n:Int):Option (Int×(List bg)):=
 az k (fun G1 (t2:List bg×Int×Int×Unit)=>
  if(decide ((t2.2.2.1:Int)<((List.length t2.1:Nat):Int)))=true then
   if(decide (0≤t2.2.2.1∧t2.2.2.1<((List.length t2.1:Nat):Int)))=true then
    bW (List.set t2.1 (Int.toNat t2.2.2.1) (t2.2.1,(List.getD t2.1 (Int.toNat t2.2.2.1) aq.aa).2)) fun l3=>
    if(decide (0≤t2.2.2.1∧t2.2.2.1<((List.length l3:Nat):Int)))=true then
     bW (List.set l3 (Int.toNat t2.2.2.1) ((List.getD l3 (Int.toNat t2.2.2.1) aq.aa).1,IntKind.i64.wrap (t2.2.1+(1:Int)),((List.getD l3 (Int.toNat t2.2.2.1) aq.aa).2).2)) fun l4=>
     if(decide (0≤t2.2.2.1∧t2.2.2.1<((List.length l4:Nat):Int)))=true then
      Option.bind (cI k (((((List.getD l4 (Int.toNat t2.2.2.1) aq.aa).2).2).1).1) (IntKind.i64.wrap ((IntKind.i64.wrap (t2.2.1+(1:Int)))+(1:Int)))) fun r5=>
      bW (List.set l4 (Int.toNat t2.2.2.1) ((List.getD l4 (Int.toNat t2.2.2.1) aq.aa).1,((List.getD l4 (Int.toNat t2.2.2.1) aq.aa).2).1,(r5.2,((((List.getD l4 (Int.toNat t2.2.2.1) aq.aa).2).2).1).2),(((List.getD l4 (Int.toNat t2.2.2.1) aq.aa).2).2).2)) fun l6=>
      if(decide (0≤t2.2.2.1∧t2.2.2.1<((List.length l6:Nat):Int)))=true then
       bW (List.set l6 (Int.toNat t2.2.2.1) ((List.getD l6 (Int.toNat t2.2.2.1) aq.aa).1,((List.getD l6 (Int.toNat t2.2.2.1) aq.aa).2).1,(((((List.getD l6 (Int.toNat t2.2.2.1) aq.aa).2).2).1).1,r5.1,(((((List.getD l6 (Int.toNat t2.2.2.1) aq.aa).2).2).1).2).2),(((List.getD l6 (Int.toNat t2.2.2.1) aq.aa).2).2).2)) fun l7=>
       if(decide (0≤t2.2.2.1∧t2.2.2.1<((List.length l7:Nat):Int)))=true then
        bW (List.set l7 (Int.toNat t2.2.2.1) ((List.getD l7 (Int.toNat t2.2.2.1) aq.aa).1,((List.getD l7 (Int.toNat t2.2.2.1) aq.aa).2).1,(((((List.getD l7 (Int.toNat t2.2.2.1) aq.aa).2).2).1).1,(((((List.getD l7 (Int.toNat t2.2.2.1) aq.aa).2).2).1).2).1,IntKind.i64.wrap (r5.1+(1:Int)),((((((List.getD l7 (Int.toNat t2.2.2.1) aq.aa).2).2).1).2).2).2),(((List.getD l7 (Int.toNat t2.2.2.1) aq.aa).2).2).2)) fun l8=>
        Option.bind (bS k (IntKind.i64.wrap ((IntKind.i64.wrap (r5.1+(1:Int)))+(1:Int)),())) fun r9=>
        if(decide (0≤t2.2.2.1∧t2.2.2.1<((List.length l8:Nat):Int)))=true then
         bW (List.set l8 (Int.toNat t2.2.2.1) ((List.getD l8 (Int.toNat t2.2.2.1) aq.aa).1,((List.getD l8 (Int.toNat t2.2.2.1) aq.aa).2).1,(((((List.getD l8 (Int.toNat t2.2.2.1) aq.aa).2).2).1).1,(((((List.getD l8 (Int.toNat t2.2.2.1) aq.aa).2).2).1).2).1,((((((List.getD l8 (Int.toNat t2.2.2.1) aq.aa).2).2).1).2).2).1,r9.1),(((List.getD l8 (Int.toNat t2.2.2.1) aq.aa).2).2).2)) fun l10=>
         if(decide (0≤t2.2.2.1∧t2.2.2.1<((List.length l10:Nat):Int)))=true then
          Option.bind (cI k (((((List.getD l10 (Int.toNat t2.2.2.1) aq.aa).2).2).2).1) (IntKind.i64.wrap ((IntKind.i64.wrap ((IntKind.i64.wrap (r5.1+(1:Int)))+(1:Int)))+(1:Int)))) fun r11=>
          bW (List.set l10 (Int.toNat t2.2.2.1) ((List.getD l10 (Int.toNat t2.2.2.1) aq.aa).1,((List.getD l10 (Int.toNat t2.2.2.1) aq.aa).2).1,(((List.getD l10 (Int.toNat t2.2.2.1) aq.aa).2).2).1,r11.2,((((List.getD l10 (Int.toNat t2.2.2.1) aq.aa).2).2).2).2)) fun l12=>
          if(decide (0≤t2.2.2.1∧t2.2.2.1<((List.length l12:Nat):Int)))=true then
           bW (List.set l12 (Int.toNat t2.2.2.1) ((List.getD l12 (Int.toNat t2.2.2.1) aq.aa).1,((List.getD l12 (Int.toNat t2.2.2.1) aq.aa).2).1,(((List.getD l12 (Int.toNat t2.2.2.1) aq.aa).2).2).1,((((List.getD l12 (Int.toNat t2.2.2.1) aq.aa).2).2).2).1,r11.1,(((((List.getD l12 (Int.toNat t2.2.2.1) aq.aa).2).2).2).2).2)) fun l13=>
           if(decide (0≤t2.2.2.1∧t2.2.2.1<((List.length l13:Nat):Int)))=true then
            bW (List.set l13 (Int.toNat t2.2.2.1) ((List.getD l13 (Int.toNat t2.2.2.1) aq.aa).1,((List.getD l13 (Int.toNat t2.2.2.1) aq.aa).2).1,(((List.getD l13 (Int.toNat t2.2.2.1) aq.aa).2).2).1,((((List.getD l13 (Int.toNat t2.2.2.1) aq.aa).2).2).2).1,(((((List.getD l13 (Int.toNat t2.2.2.1) aq.aa).2).2).2).2).1,IntKind.i64.wrap (r11.1+(1:Int)),((((((List.getD l13 (Int.toNat t2.2.2.1) aq.aa).2).2).2).2).2).2)) fun l14=>
            if(decide (0≤t2.2.2.1∧t2.2.2.1<((List.length l14:Nat):Int)))=true then
             bW (List.set l14 (Int.toNat t2.2.2.1) ((List.getD l14 (Int.toNat t2.2.2.1) aq.aa).1,((List.getD l14 (Int.toNat t2.2.2.1) aq.aa).2).1,(((List.getD l14 (Int.toNat t2.2.2.1) aq.aa).2).2).1,((((List.getD l14 (Int.toNat t2.2.2.1) aq.aa).2).2).2).1,(((((List.getD l14 (Int.toNat t2.2.2.1) aq.aa).2).2).2).2).1,((((((List.getD l14 (Int.toNat t2.2.2.1) aq.aa).2).2).2).2).2).1,IntKind.i64.wrap ((IntKind.i64.wrap (r11.1+(1:Int)))+(1:Int)),(((((((List.getD l14 (Int.toNat t2.2.2.1) aq.aa).2).2).2).2).2).2).2)) fun l15=>
             if(decide (0≤t2.2.2.1∧t2.2.2.1<((List.length l15:Nat):Int)))=true then
              Option.bind (cH k (((((((((List.getD l15 (Int.toNat t2.2.2.1) aq.aa).2).2).2).2).2).2).2).1) (IntKind.i64.wrap ((IntKind.i64.wrap ((IntKind.i64.wrap (r11.1+(1:Int)))+(1:Int)))+(1:Int)))) fun r16=>
              bW (List.set l15 (Int.toNat t2.2.2.1) ((List.getD l15 (Int.toNat t2.2.2.1) aq.aa).1,((List.getD l15 (Int.toNat t2.2.2.1) aq.aa).2).1,(((List.getD l15 (Int.toNat t2.2.2.1) aq.aa).2).2).1,((((List.getD l15 (Int.toNat t2.2.2.1) aq.aa).2).2).2).1,(((((List.getD l15 (Int.toNat t2.2.2.1) aq.aa).2).2).2).2).1,((((((List.getD l15 (Int.toNat t2.2.2.1) aq.aa).2).2).2).2).2).1,(((((((List.getD l15 (Int.toNat t2.2.2.1) aq.aa).2).2).2).2).2).2).1,r16.2,((((((((List.getD l15 (Int.toNat t2.2.2.1) aq.aa).2).2).2).2).2).2).2).2)) fun l17=>
              if(decide (0≤t2.2.2.1∧t2.2.2.1<((List.length l17:Nat):Int)))=true then
               bW (List.set l17 (Int.toNat t2.2.2.1) ((List.getD l17 (Int.toNat t2.2.2.1) aq.aa).1,((List.getD l17 (Int.toNat t2.2.2.1) aq.aa).2).1,(((List.getD l17 (Int.toNat t2.2.2.1) aq.aa).2).2).1,((((List.getD l17 (Int.toNat t2.2.2.1) aq.aa).2).2).2).1,(((((List.getD l17 (Int.toNat t2.2.2.1) aq.aa).2).2).2).2).1,((((((List.getD l17 (Int.toNat t2.2.2.1) aq.aa).2).2).2).2).2).1,(((((((List.getD l17 (Int.toNat t2.2.2.1) aq.aa).2).2).2).2).2).2).1,((((((((List.getD l17 (Int.toNat t2.2.2.1) aq.aa).2).2).2).2).2).2).2).1,r16.1,(((((((((List.getD l17 (Int.toNat t2.2.2.1) aq.aa).2).2).2).2).2).2).2).2).2)) fun l18=>
               if(decide (0≤t2.2.2.1∧t2.2.2.1<((List.length l18:Nat):Int)))=true then
                bW (List.set l18 (Int.toNat t2.2.2.1) ((List.getD l18 (Int.toNat t2.2.2.1) aq.aa).1,((List.getD l18 (Int.toNat t2.2.2.1) aq.aa).2).1,(((List.getD l18 (Int.toNat t2.2.2.1) aq.aa).2).2).1,((((List.getD l18 (Int.toNat t2.2.2.1) aq.aa).2).2).2).1,(((((List.getD l18 (Int.toNat t2.2.2.1) aq.aa).2).2).2).2).1,((((((List.getD l18 (Int.toNat t2.2.2.1) aq.aa).2).2).2).2).2).1,(((((((List.getD l18 (Int.toNat t2.2.2.1) aq.aa).2).2).2).2).2).2).1,((((((((List.getD l18 (Int.toNat t2.2.2.1) aq.aa).2).2).2).2).2).2).2).1,(((((((((List.getD l18 (Int.toNat t2.2.2.1) aq.aa).2).2).2).2).2).2).2).2).1,IntKind.i64.wrap (r16.1+(1:Int)),((((((((((List.getD l18 (Int.toNat t2.2.2.1) aq.aa).2).2).2).2).2).2).2).2).2).2)) fun l19=>
                if(decide (0≤t2.2.2.1∧t2.2.2.1<((List.length l19:Nat):Int)))=true then
                 bW (List.set l19 (Int.toNat t2.2.2.1) ((List.getD l19 (Int.toNat t2.2.2.1) aq.aa).1,((List.getD l19 (Int.toNat t2.2.2.1) aq.aa).2).1,(((List.getD l19 (Int.toNat t2.2.2.1) aq.aa).2).2).1,((((List.getD l19 (Int.toNat t2.2.2.1) aq.aa).2).2).2).1,(((((List.getD l19 (Int.toNat t2.2.2.1) aq.aa).2).2).2).2).1,((((((List.getD l19 (Int.toNat t2.2.2.1) aq.aa).2).2).2).2).2).1,(((((((List.getD l19 (Int.toNat t2.2.2.1) aq.aa).2).2).2).2).2).2).1,((((((((List.getD l19 (Int.toNat t2.2.2.1) aq.aa).2).2).2).2).2).2).2).1,(((((((((List.getD l19 (Int.toNat t2.2.2.1) aq.aa).2).2).2).2).2).2).2).2).1,((((((((((List.getD l19 (Int.toNat t2.2.2.1) aq.aa).2).2).2).2).2).2).2).2).2).1,IntKind.i64.wrap ((IntKind.i64.wrap (r16.1+(1:Int)))+(1:Int)),(((((((((((List.getD l19 (Int.toNat t2.2.2.1) aq.aa).2).2).2).2).2).2).2).2).2).2).2)) fun l20=>
                 if(decide (0≤t2.2.2.1∧t2.2.2.1<((List.length l20:Nat):Int)))=true then
                  bW (List.set l20 (Int.toNat t2.2.2.1) ((List.getD l20 (Int.toNat t2.2.2.1) aq.aa).1,((List.getD l20 (Int.toNat t2.2.2.1) aq.aa).2).1,(((List.getD l20 (Int.toNat t2.2.2.1) aq.aa).2).2).1,((((List.getD l20 (Int.toNat t2.2.2.1) aq.aa).2).2).2).1,(((((List.getD l20 (Int.toNat t2.2.2.1) aq.aa).2).2).2).2).1,((((((List.getD l20 (Int.toNat t2.2.2.1) aq.aa).2).2).2).2).2).1,(((((((List.getD l20 (Int.toNat t2.2.2.1) aq.aa).2).2).2).2).2).2).1,((((((((List.getD l20 (Int.toNat t2.2.2.1) aq.aa).2).2).2).2).2).2).2).1,(((((((((List.getD l20 (Int.toNat t2.2.2.1) aq.aa).2).2).2).2).2).2).2).2).1,((((((((((List.getD l20 (Int.toNat t2.2.2.1) aq.aa).2).2).2).2).2).2).2).2).2).1,(((((((((((List.getD l20 (Int.toNat t2.2.2.1) aq.aa).2).2).2).2).2).2).2).2).2).2).1,IntKind.i64.wrap ((IntKind.i64.wrap ((IntKind.i64.wrap (r16.1+(1:Int)))+(1:Int)))+(1:Int)))) fun l21=>
                  G1 (l21,IntKind.i64.wrap ((IntKind.i64.wrap ((IntKind.i64.wrap ((IntKind.i64.wrap (r16.1+(1:Int)))+(1:Int)))+(1:Int)))+(1:Int)),IntKind.i64.wrap (t2.2.2.1+(1:Int)),())
                 else
                  none
                else
                 none
               else
                none
              else
               none
             else
              none
            else
             none
           else
            none
          else
           none
         else
          none
        else
         none
       else
        none
      else
       none
     else
      none
    else
     none
   else
    none
  else
   some (t2.2.1,t2.1)) (x,n,(0:Int),())
def gf (k:Nat) (x:ar) (n:Int):Option (Int×ar):=
 Option.bind (nR k x.1 n) fun r1=>
 Option.bind (nB k x.2.2.2.1 r1.1) fun r2=>
 Option.bind (nV k x.2.2.2.2.1 r2.1) fun r3=>
 Option.bind (cH k x.2.2.2.2.2.1 r3.1) fun r4=>
 Option.bind (mn k x.2.2.2.2.2.2.2.1 r4.1) fun r5=>
 Option.bind (ml k x.2.2.2.2.2.2.2.2.2.1 r5.1) fun r6=>
 Option.bind (mc k x.2.2.2.2.2.2.2.2.2.2.1 r6.1) fun r7=>
 Option.bind (cH k x.2.2.2.2.2.2.2.2.2.2.2.1 r7.1) fun r8=>
 Option.bind (nr k x.2.2.2.2.2.2.2.2.2.2.2.2.1 r8.1) fun r9=>
 Option.bind (ny k x.2.2.2.2.2.2.2.2.2.2.2.2.2 r9.1) fun r10=>
 some (r10.1,((x.1.1,x.1.2.1,x.1.2.2.1,x.1.2.2.2.1,x.1.2.2.2.2.1,r1.2.2.2.2.2.2),x.2.1,x.2.2.1,r2.2,r3.2,r4.2,x.2.2.2.2.2.2.1,r5.2,x.2.2.2.2.2.2.2.2.1,r6.2,r7.2,r8.2,r9.2,r10.2))
def ld (k:Nat) (x:List ByteArray×Int×Unit):Option (Int×Unit):=
 az k (fun G1 (t2:List ByteArray×Int×Int×Unit)=>
  if(decide ((t2.2.2.1:Int)<((List.length t2.1:Nat):Int)))=true then
   if(decide (0≤t2.2.2.1∧t2.2.2.1<((List.length t2.1:Nat):Int)))=true then
    Option.bind (bS k (t2.2.1,())) fun r3=>
    if(!(ByteArray.toList (List.getD t2.1 (Int.toNat t2.2.2.1) ByteArray.empty)==ByteArray.toList r3.1))=true then
     some ((-1:Int),())
    else
     G1 (t2.1,IntKind.i64.wrap (t2.2.1+(1:Int)),IntKind.i64.wrap (t2.2.2.1+(1:Int)),())
   else
    none
  else
   some (t2.2.1,())) (x.1,x.2.1,(0:Int),())
def oy (k:Nat) (x:cg×Int×Unit):Option (Int×Unit):=
 Option.bind (ld k (x.1.2.2.2.2.2,x.2.1,())) fun r1=>
 if(decide ((r1.1:Int)<(0:Int)))=true then
  some ((-1:Int),())
 else
  some (r1.1,())
def cY (k:Nat) (x:List ai×Int×Unit):Option (Int×Unit):=
 az k (fun G1 (t2:List ai×Int×Int×Unit)=>
  if(decide ((t2.2.2.1:Int)<((List.length t2.1:Nat):Int)))=true then
   if(decide (0≤t2.2.2.1∧t2.2.2.1<((List.length t2.1:Nat):Int)))=true then
    Option.bind (bS k (t2.2.1,())) fun r3=>
    if(!(ByteArray.toList ((List.getD t2.1 (Int.toNat t2.2.2.1) af.aa).1)==ByteArray.toList r3.1))=true then
     some ((-1:Int),())
    else
     if(decide (0≤t2.2.2.1∧t2.2.2.1<((List.length t2.1:Nat):Int)))=true then
      Option.bind (bS k (IntKind.i64.wrap (t2.2.1+(1:Int)),())) fun r4=>
      if(!(ByteArray.toList ((List.getD t2.1 (Int.toNat t2.2.2.1) af.aa).2)==ByteArray.toList r4.1))=true then
       some ((-1:Int),())
      else
       G1 (t2.1,IntKind.i64.wrap ((IntKind.i64.wrap (t2.2.1+(1:Int)))+(1:Int)),IntKind.i64.wrap (t2.2.2.1+(1:Int)),())
     else
      none
   else
    none
  else
   some (t2.2.1,())) (x.1,x.2.1,(0:Int),())
def cG (k:Nat) (x:List al×Int×Unit):Option (Int×Unit):=
 az k (fun G1 (t2:List al×Int×Int×Unit)=>
  if(decide ((t2.2.2.1:Int)<((List.length t2.1:Nat):Int)))=true then
   if(decide (0≤t2.2.2.1∧t2.2.2.1<((List.length t2.1:Nat):Int)))=true then
    Option.bind (cY k ((List.getD t2.1 (Int.toNat t2.2.2.1) ab.aa).1,t2.2.1,())) fun r3=>
    if(decide ((r3.1:Int)<(0:Int)))=true then
     some ((-1:Int),())
    else
     if(decide (0≤t2.2.2.1∧t2.2.2.1<((List.length t2.1:Nat):Int)))=true then
      if(((((List.getD t2.1 (Int.toNat t2.2.2.1) ab.aa).2).1):Int) != r3.1)=true then
       some ((-1:Int),())
      else
       if(decide (0≤t2.2.2.1∧t2.2.2.1<((List.length t2.1:Nat):Int)))=true then
        if((((((List.getD t2.1 (Int.toNat t2.2.2.1) ab.aa).2).2).1):Int) != (IntKind.i64.wrap (r3.1+(1:Int))))=true then
         some ((-1:Int),())
        else
         if(decide (0≤t2.2.2.1∧t2.2.2.1<((List.length t2.1:Nat):Int)))=true then
          Option.bind (bS k (IntKind.i64.wrap ((IntKind.i64.wrap (r3.1+(1:Int)))+(1:Int)),())) fun r4=>
          if(!(ByteArray.toList ((((List.getD t2.1 (Int.toNat t2.2.2.1) ab.aa).2).2).2)==ByteArray.toList r4.1))=true then
           some ((-1:Int),())
          else
           G1 (t2.1,IntKind.i64.wrap ((IntKind.i64.wrap ((IntKind.i64.wrap (r3.1+(1:Int)))+(1:Int)))+(1:Int)),IntKind.i64.wrap (t2.2.2.1+(1:Int)),())
         else
          none
       else
        none
     else
      none
   else
    none
  else
   some (t2.2.1,())) (x.1,x.2.1,(0:Int),())
def mq (k:Nat) (x:List aZ×Int×Unit):Option (Int×Unit):=
 az k (fun G1 (t2:List aZ×Int×Int×Unit)=>
  if(decide ((t2.2.2.1:Int)<((List.length t2.1:Nat):Int)))=true then
   if(decide (0≤t2.2.2.1∧t2.2.2.1<((List.length t2.1:Nat):Int)))=true then
    if((((List.getD t2.1 (Int.toNat t2.2.2.1) ay.aa).1):Int) != t2.2.1)=true then
     some ((-1:Int),())
    else
     if(decide (0≤t2.2.2.1∧t2.2.2.1<((List.length t2.1:Nat):Int)))=true then
      Option.bind (cG k ((List.getD t2.1 (Int.toNat t2.2.2.1) ay.aa).2,IntKind.i64.wrap (t2.2.1+(1:Int)),())) fun r3=>
      if(decide ((r3.1:Int)<(0:Int)))=true then
       some ((-1:Int),())
      else
       G1 (t2.1,r3.1,IntKind.i64.wrap (t2.2.2.1+(1:Int)),())
     else
      none
   else
    none
  else
   some (t2.2.1,())) (x.1,x.2.1,(0:Int),())
def nF (k:Nat) (x:List aG×Int×Unit):Option (Int×Unit):=
 az k (fun G1 (t2:List aG×Int×Int×Unit)=>
  if(decide ((t2.2.2.1:Int)<((List.length t2.1:Nat):Int)))=true then
   if(decide (0≤t2.2.2.1∧t2.2.2.1<((List.length t2.1:Nat):Int)))=true then
    if((((List.getD t2.1 (Int.toNat t2.2.2.1) ak.aa).1):Int) != t2.2.1)=true then
     some ((-1:Int),())
    else
     if(decide (0≤t2.2.2.1∧t2.2.2.1<((List.length t2.1:Nat):Int)))=true then
      if(((((List.getD t2.1 (Int.toNat t2.2.2.1) ak.aa).2).1):Int) != (IntKind.i64.wrap (t2.2.1+(1:Int))))=true then
       some ((-1:Int),())
      else
       if(decide (0≤t2.2.2.1∧t2.2.2.1<((List.length t2.1:Nat):Int)))=true then
        Option.bind (mq k (((List.getD t2.1 (Int.toNat t2.2.2.1) ak.aa).2).2,IntKind.i64.wrap ((IntKind.i64.wrap (t2.2.1+(1:Int)))+(1:Int)),())) fun r3=>
        if(decide ((r3.1:Int)<(0:Int)))=true then
         some ((-1:Int),())
        else
         G1 (t2.1,r3.1,IntKind.i64.wrap (t2.2.2.1+(1:Int)),())
       else
        none
     else
      none
   else
    none
  else
   some (t2.2.1,())) (x.1,x.2.1,(0:Int),())
def ov (k:Nat) (x:List bF×Int×Unit):Option (Int×Unit):=
 az k (fun G1 (t2:List bF×Int×Int×Unit)=>
  if(decide ((t2.2.2.1:Int)<((List.length t2.1:Nat):Int)))=true then
   if(decide (0≤t2.2.2.1∧t2.2.2.1<((List.length t2.1:Nat):Int)))=true then
    Option.bind (cG k ((List.getD t2.1 (Int.toNat t2.2.2.1) aU.aa).1,t2.2.1,())) fun r3=>
    if(decide ((r3.1:Int)<(0:Int)))=true then
     some ((-1:Int),())
    else
     if(decide (0≤t2.2.2.1∧t2.2.2.1<((List.length t2.1:Nat):Int)))=true then
      if(decide ((3:Int)≠0))=true then
       if(!((((List.getD t2.1 (Int.toNat t2.2.2.1) aU.aa).2):Bool)==(((Int.tmod r3.1 (3:Int)):Int)==(0:Int))))=true then
        some ((-1:Int),())
       else
        G1 (t2.1,IntKind.i64.wrap (r3.1+(1:Int)),IntKind.i64.wrap (t2.2.2.1+(1:Int)),())
      else
       none
     else
      none
   else
    none
  else
   some (t2.2.1,())) (x.1,x.2.1,(0:Int),())
def mf (k:Nat) (x:List aJ×Int×Unit):Option (Int×Unit):=
 az k (fun G1 (t2:List aJ×Int×Int×Unit)=>
  if(decide ((t2.2.2.1:Int)<((List.length t2.1:Nat):Int)))=true then
   if(decide (0≤t2.2.2.1∧t2.2.2.1<((List.length t2.1:Nat):Int)))=true then
    if((((List.getD t2.1 (Int.toNat t2.2.2.1) aj.aa).1):Int) != t2.2.1)=true then
     some ((-1:Int),())
    else
     if(decide (0≤t2.2.2.1∧t2.2.2.1<((List.length t2.1:Nat):Int)))=true then
      Option.bind (cY k (((List.getD t2.1 (Int.toNat t2.2.2.1) aj.aa).2).1,IntKind.i64.wrap (t2.2.1+(1:Int)),())) fun r3=>
      if(decide ((r3.1:Int)<(0:Int)))=true then
       some ((-1:Int),())
      else
       if(decide (0≤t2.2.2.1∧t2.2.2.1<((List.length t2.1:Nat):Int)))=true then
        if((((((List.getD t2.1 (Int.toNat t2.2.2.1) aj.aa).2).2).1):Int) != r3.1)=true then
         some ((-1:Int),())
        else
         if(decide (0≤t2.2.2.1∧t2.2.2.1<((List.length t2.1:Nat):Int)))=true then
          if(((((((List.getD t2.1 (Int.toNat t2.2.2.1) aj.aa).2).2).2).1):Int) != (IntKind.i64.wrap (r3.1+(1:Int))))=true then
           some ((-1:Int),())
          else
           if(decide (0≤t2.2.2.1∧t2.2.2.1<((List.length t2.1:Nat):Int)))=true then
            Option.bind (cG k (((((List.getD t2.1 (Int.toNat t2.2.2.1) aj.aa).2).2).2).2,IntKind.i64.wrap ((IntKind.i64.wrap (r3.1+(1:Int)))+(1:Int)),())) fun r4=>
            if(decide ((r4.1:Int)<(0:Int)))=true then
             some ((-1:Int),())
            else
             G1 (t2.1,r4.1,IntKind.i64.wrap (t2.2.2.1+(1:Int)),())
           else
            none
         else
          none
       else
        none
     else
      none
   else
    none
  else
   some (t2.2.1,())) (x.1,x.2.1,(0:Int),())
def mj (k:Nat) (x:List bl×Int×Unit):Option (Int×Unit):=
 az k (fun G1 (t2:List bl×Int×Int×Unit)=>
  if(decide ((t2.2.2.1:Int)<((List.length t2.1:Nat):Int)))=true then
   if(decide (0≤t2.2.2.1∧t2.2.2.1<((List.length t2.1:Nat):Int)))=true then
    if((((List.getD t2.1 (Int.toNat t2.2.2.1) aC.aa).1):Int) != t2.2.1)=true then
     some ((-1:Int),())
    else
     if(decide (0≤t2.2.2.1∧t2.2.2.1<((List.length t2.1:Nat):Int)))=true then
      if((((List.getD t2.1 (Int.toNat t2.2.2.1) aC.aa).2):Int) != (IntKind.i64.wrap (t2.2.1+(1:Int))))=true then
       some ((-1:Int),())
      else
       G1 (t2.1,IntKind.i64.wrap ((IntKind.i64.wrap (t2.2.1+(1:Int)))+(1:Int)),IntKind.i64.wrap (t2.2.2.1+(1:Int)),())
     else
      none
   else
    none
  else
   some (t2.2.1,())) (x.1,x.2.1,(0:Int),())
def mr (k:Nat) (x:List bz×Int×Unit):Option (Int×Unit):=
 az k (fun G1 (t2:List bz×Int×Int×Unit)=>
  if(decide ((t2.2.2.1:Int)<((List.length t2.1:Nat):Int)))=true then
   if(decide (0≤t2.2.2.1∧t2.2.2.1<((List.length t2.1:Nat):Int)))=true then
    if((((List.getD t2.1 (Int.toNat t2.2.2.1) aN.aa).1):Int) != t2.2.1)=true then
     some ((-1:Int),())
    else
     if(decide (0≤t2.2.2.1∧t2.2.2.1<((List.length t2.1:Nat):Int)))=true then
      Option.bind (cY k (((List.getD t2.1 (Int.toNat t2.2.2.1) aN.aa).2).1,IntKind.i64.wrap (t2.2.1+(1:Int)),())) fun r3=>
      if(decide ((r3.1:Int)<(0:Int)))=true then
       some ((-1:Int),())
      else
       if(decide (0≤t2.2.2.1∧t2.2.2.1<((List.length t2.1:Nat):Int)))=true then
        if((((((List.getD t2.1 (Int.toNat t2.2.2.1) aN.aa).2).2).1):Int) != r3.1)=true then
         some ((-1:Int),())
        else
         if(decide (0≤t2.2.2.1∧t2.2.2.1<((List.length t2.1:Nat):Int)))=true then
          Option.bind (cG k ((((List.getD t2.1 (Int.toNat t2.2.2.1) aN.aa).2).2).2,IntKind.i64.wrap (r3.1+(1:Int)),())) fun r4=>
          if(decide ((r4.1:Int)<(0:Int)))=true then
           some ((-1:Int),())
          else
           G1 (t2.1,r4.1,IntKind.i64.wrap (t2.2.2.1+(1:Int)),())
         else
          none
       else
        none
     else
      none
   else
    none
  else
   some (t2.2.1,())) (x.1,x.2.1,(0:Int),())
def oq (k:Nat) (x:List Int×Int×Unit):Option (Int×Unit):=
 az k (fun G1 (t2:List Int×Int×Int×Unit)=>
  if(decide ((t2.2.2.1:Int)<((List.length t2.1:Nat):Int)))=true then
   if(decide (0≤t2.2.2.1∧t2.2.2.1<((List.length t2.1:Nat):Int)))=true then
    if(((List.getD t2.1 (Int.toNat t2.2.2.1) 0):Int) != t2.2.1)=true then
     some ((-1:Int),())
    else
     G1 (t2.1,IntKind.i64.wrap (t2.2.1+(1:Int)),IntKind.i64.wrap (t2.2.2.1+(1:Int)),())
   else
    none
  else
   some (t2.2.1,())) (x.1,x.2.1,(0:Int),())
def nx (k:Nat) (x:List aL×Int×Unit):Option (Int×Unit):=
 az k (fun G1 (t2:List aL×Int×Int×Unit)=>
  if(decide ((t2.2.2.1:Int)<((List.length t2.1:Nat):Int)))=true then
   if(decide (0≤t2.2.2.1∧t2.2.2.1<((List.length t2.1:Nat):Int)))=true then
    if((((List.getD t2.1 (Int.toNat t2.2.2.1) ah.aa).1):Int) != t2.2.1)=true then
     some ((-1:Int),())
    else
     if(decide (0≤t2.2.2.1∧t2.2.2.1<((List.length t2.1:Nat):Int)))=true then
      if(((((List.getD t2.1 (Int.toNat t2.2.2.1) ah.aa).2).1):Int) != (IntKind.i64.wrap (t2.2.1+(1:Int))))=true then
       some ((-1:Int),())
      else
       if(decide (0≤t2.2.2.1∧t2.2.2.1<((List.length t2.1:Nat):Int)))=true then
        Option.bind (cY k (((((List.getD t2.1 (Int.toNat t2.2.2.1) ah.aa).2).2).1).1,IntKind.i64.wrap ((IntKind.i64.wrap (t2.2.1+(1:Int)))+(1:Int)),())) fun r3=>
        if(decide ((r3.1:Int)<(0:Int)))=true then
         some ((-1:Int),())
        else
         if(decide (0≤t2.2.2.1∧t2.2.2.1<((List.length t2.1:Nat):Int)))=true then
          if((((((((List.getD t2.1 (Int.toNat t2.2.2.1) ah.aa).2).2).1).2).1):Int) != r3.1)=true then
           some ((-1:Int),())
          else
           if(decide (0≤t2.2.2.1∧t2.2.2.1<((List.length t2.1:Nat):Int)))=true then
            if(((((((((List.getD t2.1 (Int.toNat t2.2.2.1) ah.aa).2).2).1).2).2).1):Int) != (IntKind.i64.wrap (r3.1+(1:Int))))=true then
             some ((-1:Int),())
            else
             if(decide (0≤t2.2.2.1∧t2.2.2.1<((List.length t2.1:Nat):Int)))=true then
              Option.bind (bS k (IntKind.i64.wrap ((IntKind.i64.wrap (r3.1+(1:Int)))+(1:Int)),())) fun r4=>
              if(!(ByteArray.toList (((((((List.getD t2.1 (Int.toNat t2.2.2.1) ah.aa).2).2).1).2).2).2)==ByteArray.toList r4.1))=true then
               some ((-1:Int),())
              else
               if(decide (0≤t2.2.2.1∧t2.2.2.1<((List.length t2.1:Nat):Int)))=true then
                Option.bind (cY k (((((List.getD t2.1 (Int.toNat t2.2.2.1) ah.aa).2).2).2).1,IntKind.i64.wrap ((IntKind.i64.wrap ((IntKind.i64.wrap (r3.1+(1:Int)))+(1:Int)))+(1:Int)),())) fun r5=>
                if(decide ((r5.1:Int)<(0:Int)))=true then
                 some ((-1:Int),())
                else
                 if(decide (0≤t2.2.2.1∧t2.2.2.1<((List.length t2.1:Nat):Int)))=true then
                  if((((((((List.getD t2.1 (Int.toNat t2.2.2.1) ah.aa).2).2).2).2).1):Int) != r5.1)=true then
                   some ((-1:Int),())
                  else
                   if(decide (0≤t2.2.2.1∧t2.2.2.1<((List.length t2.1:Nat):Int)))=true then
                    Option.bind (oq k (((((((List.getD t2.1 (Int.toNat t2.2.2.1) ah.aa).2).2).2).2).2).1,IntKind.i64.wrap (r5.1+(1:Int)),())) fun r6=>
                    if(decide ((r6.1:Int)<(0:Int)))=true then
                     some ((-1:Int),())
                    else
                     if(decide (0≤t2.2.2.1∧t2.2.2.1<((List.length t2.1:Nat):Int)))=true then
                      Option.bind (cG k ((((((((List.getD t2.1 (Int.toNat t2.2.2.1) ah.aa).2).2).2).2).2).2).1,r6.1,())) fun r7=>
                      if(decide ((r7.1:Int)<(0:Int)))=true then
                       some ((-1:Int),())
                      else
                       if(decide (0≤t2.2.2.1∧t2.2.2.1<((List.length t2.1:Nat):Int)))=true then
                        if(((((((((((List.getD t2.1 (Int.toNat t2.2.2.1) ah.aa).2).2).2).2).2).2).2).1):Int) != r7.1)=true then
                         some ((-1:Int),())
                        else
                         if(decide (0≤t2.2.2.1∧t2.2.2.1<((List.length t2.1:Nat):Int)))=true then
                          if(((((((((((List.getD t2.1 (Int.toNat t2.2.2.1) ah.aa).2).2).2).2).2).2).2).2):Int) != (IntKind.i64.wrap (r7.1+(1:Int))))=true then
                           some ((-1:Int),())
                          else
                           G1 (t2.1,IntKind.i64.wrap ((IntKind.i64.wrap (r7.1+(1:Int)))+(1:Int)),IntKind.i64.wrap (t2.2.2.1+(1:Int)),())
                         else
                          none
                       else
                        none
                     else
                      none
                   else
                    none
                 else
                  none
               else
                none
             else
              none
           else
            none
         else
          none
       else
        none
     else
      none
   else
    none
  else
   some (t2.2.1,())) (x.1,x.2.1,(0:Int),())
def nk (k:Nat) (x:List bg×Int×Unit):Option (Int×Unit):=
 az k (fun G1 (t2:List bg×Int×Int×Unit)=>
  if(decide ((t2.2.2.1:Int)<((List.length t2.1:Nat):Int)))=true then
   if(decide (0≤t2.2.2.1∧t2.2.2.1<((List.length t2.1:Nat):Int)))=true then
    if((((List.getD t2.1 (Int.toNat t2.2.2.1) aq.aa).1):Int) != t2.2.1)=true then
     some ((-1:Int),())
    else
     if(decide (0≤t2.2.2.1∧t2.2.2.1<((List.length t2.1:Nat):Int)))=true then
      if(((((List.getD t2.1 (Int.toNat t2.2.2.1) aq.aa).2).1):Int) != (IntKind.i64.wrap (t2.2.1+(1:Int))))=true then
       some ((-1:Int),())
      else
       if(decide (0≤t2.2.2.1∧t2.2.2.1<((List.length t2.1:Nat):Int)))=true then
        Option.bind (cY k (((((List.getD t2.1 (Int.toNat t2.2.2.1) aq.aa).2).2).1).1,IntKind.i64.wrap ((IntKind.i64.wrap (t2.2.1+(1:Int)))+(1:Int)),())) fun r3=>
        if(decide ((r3.1:Int)<(0:Int)))=true then
         some ((-1:Int),())
        else
         if(decide (0≤t2.2.2.1∧t2.2.2.1<((List.length t2.1:Nat):Int)))=true then
          if((((((((List.getD t2.1 (Int.toNat t2.2.2.1) aq.aa).2).2).1).2).1):Int) != r3.1)=true then
           some ((-1:Int),())
          else
           if(decide (0≤t2.2.2.1∧t2.2.2.1<((List.length t2.1:Nat):Int)))=true then
            if(((((((((List.getD t2.1 (Int.toNat t2.2.2.1) aq.aa).2).2).1).2).2).1):Int) != (IntKind.i64.wrap (r3.1+(1:Int))))=true then
             some ((-1:Int),())
            else
             if(decide (0≤t2.2.2.1∧t2.2.2.1<((List.length t2.1:Nat):Int)))=true then
              Option.bind (bS k (IntKind.i64.wrap ((IntKind.i64.wrap (r3.1+(1:Int)))+(1:Int)),())) fun r4=>
              if(!(ByteArray.toList (((((((List.getD t2.1 (Int.toNat t2.2.2.1) aq.aa).2).2).1).2).2).2)==ByteArray.toList r4.1))=true then
               some ((-1:Int),())
              else
               if(decide (0≤t2.2.2.1∧t2.2.2.1<((List.length t2.1:Nat):Int)))=true then
                Option.bind (cY k (((((List.getD t2.1 (Int.toNat t2.2.2.1) aq.aa).2).2).2).1,IntKind.i64.wrap ((IntKind.i64.wrap ((IntKind.i64.wrap (r3.1+(1:Int)))+(1:Int)))+(1:Int)),())) fun r5=>
                if(decide ((r5.1:Int)<(0:Int)))=true then
                 some ((-1:Int),())
                else
                 if(decide (0≤t2.2.2.1∧t2.2.2.1<((List.length t2.1:Nat):Int)))=true then
                  if((((((((List.getD t2.1 (Int.toNat t2.2.2.1) aq.aa).2).2).2).2).1):Int) != r5.1)=true then
                   some ((-1:Int),())
                  else
                   if(decide (0≤t2.2.2.1∧t2.2.2.1<((List.length t2.1:Nat):Int)))=true then
                    if(((((((((List.getD t2.1 (Int.toNat t2.2.2.1) aq.aa).2).2).2).2).2).1):Int) != (IntKind.i64.wrap (r5.1+(1:Int))))=true then
                     some ((-1:Int),())
                    else
                     if(decide (0≤t2.2.2.1∧t2.2.2.1<((List.length t2.1:Nat):Int)))=true then
                      if((((((((((List.getD t2.1 (Int.toNat t2.2.2.1) aq.aa).2).2).2).2).2).2).1):Int) != (IntKind.i64.wrap ((IntKind.i64.wrap (r5.1+(1:Int)))+(1:Int))))=true then
                       some ((-1:Int),())
                      else
                       if(decide (0≤t2.2.2.1∧t2.2.2.1<((List.length t2.1:Nat):Int)))=true then
                        Option.bind (cG k (((((((((List.getD t2.1 (Int.toNat t2.2.2.1) aq.aa).2).2).2).2).2).2).2).1,IntKind.i64.wrap ((IntKind.i64.wrap ((IntKind.i64.wrap (r5.1+(1:Int)))+(1:Int)))+(1:Int)),())) fun r6=>
                        if(decide ((r6.1:Int)<(0:Int)))=true then
                         some ((-1:Int),())
                        else
                         if(decide (0≤t2.2.2.1∧t2.2.2.1<((List.length t2.1:Nat):Int)))=true then
                          if((((((((((((List.getD t2.1 (Int.toNat t2.2.2.1) aq.aa).2).2).2).2).2).2).2).2).1):Int) != r6.1)=true then
                           some ((-1:Int),())
                          else
                           if(decide (0≤t2.2.2.1∧t2.2.2.1<((List.length t2.1:Nat):Int)))=true then
                            if(((((((((((((List.getD t2.1 (Int.toNat t2.2.2.1) aq.aa).2).2).2).2).2).2).2).2).2).1):Int) != (IntKind.i64.wrap (r6.1+(1:Int))))=true then
                             some ((-1:Int),())
                            else
                             if(decide (0≤t2.2.2.1∧t2.2.2.1<((List.length t2.1:Nat):Int)))=true then
                              if((((((((((((((List.getD t2.1 (Int.toNat t2.2.2.1) aq.aa).2).2).2).2).2).2).2).2).2).2).1):Int) != (IntKind.i64.wrap ((IntKind.i64.wrap (r6.1+(1:Int)))+(1:Int))))=true then
                               some ((-1:Int),())
                              else
                               if(decide (0≤t2.2.2.1∧t2.2.2.1<((List.length t2.1:Nat):Int)))=true then
                                if((((((((((((((List.getD t2.1 (Int.toNat t2.2.2.1) aq.aa).2).2).2).2).2).2).2).2).2).2).2):Int) != (IntKind.i64.wrap ((IntKind.i64.wrap ((IntKind.i64.wrap (r6.1+(1:Int)))+(1:Int)))+(1:Int))))=true then
                                 some ((-1:Int),())
                                else
                                 G1 (t2.1,IntKind.i64.wrap ((IntKind.i64.wrap ((IntKind.i64.wrap ((IntKind.i64.wrap (r6.1+(1:Int)))+(1:Int)))+(1:Int)))+(1:Int)),IntKind.i64.wrap (t2.2.2.1+(1:Int)),())
                               else
                                none
                             else
                              none
                           else
                            none
                         else
                          none
                       else
                        none
                     else
                      none
                   else
                    none
                 else
                  none
               else
                none
             else
              none
           else
            none
         else
          none
       else
        none
     else
      none
   else
    none
  else
   some (t2.2.1,())) (x.1,x.2.1,(0:Int),())
def gb (k:Nat) (x:ar×Int×Unit):Option (Int×Unit):=
 Option.bind (oy k (x.1.1,x.2.1,())) fun r1=>
 if(decide ((r1.1:Int)<(0:Int)))=true then
  some ((-1:Int),())
 else
  Option.bind (nF k (x.1.2.2.2.1,r1.1,())) fun r2=>
  if(decide ((r2.1:Int)<(0:Int)))=true then
   some ((-1:Int),())
  else
   Option.bind (ov k (x.1.2.2.2.2.1,r2.1,())) fun r3=>
   if(decide ((r3.1:Int)<(0:Int)))=true then
    some ((-1:Int),())
   else
    Option.bind (cG k (x.1.2.2.2.2.2.1,r3.1,())) fun r4=>
    if(decide ((r4.1:Int)<(0:Int)))=true then
     some ((-1:Int),())
    else
     Option.bind (mf k (x.1.2.2.2.2.2.2.2.1,r4.1,())) fun r5=>
     if(decide ((r5.1:Int)<(0:Int)))=true then
      some ((-1:Int),())
     else
      Option.bind (mj k (x.1.2.2.2.2.2.2.2.2.2.1,r5.1,())) fun r6=>
      if(decide ((r6.1:Int)<(0:Int)))=true then
       some ((-1:Int),())
      else
       Option.bind (mr k (x.1.2.2.2.2.2.2.2.2.2.2.1,r6.1,())) fun r7=>
       if(decide ((r7.1:Int)<(0:Int)))=true then
        some ((-1:Int),())
       else
        Option.bind (cG k (x.1.2.2.2.2.2.2.2.2.2.2.2.1,r7.1,())) fun r8=>
        if(decide ((r8.1:Int)<(0:Int)))=true then
         some ((-1:Int),())
        else
         Option.bind (nx k (x.1.2.2.2.2.2.2.2.2.2.2.2.2.1,r8.1,())) fun r9=>
         if(decide ((r9.1:Int)<(0:Int)))=true then
          some ((-1:Int),())
         else
          Option.bind (nk k (x.1.2.2.2.2.2.2.2.2.2.2.2.2.2,r9.1,())) fun r10=>
          if(decide ((r10.1:Int)<(0:Int)))=true then
           some ((-1:Int),())
          else
           some (r10.1,())
def kT (k:Nat) (x:ar×Int×List ai×Unit):Option (Bool×Unit):=
 Option.bind (lR k (x.1,(1048576:Int),())) fun r1=>
 if(decide ((r1.1:Int)<(0:Int)))=true then
  some (true,())
 else
  Option.bind (dX k (x.2.2.1,r1.1,())) fun r2=>
  if(decide ((r2.1:Int)<(0:Int)))=true then
   some (true,())
  else
   Option.bind (eP k (x.1,())) fun r3=>
   Option.bind (cO k (x.2.2.1,())) fun r4=>
   Option.bind (pQ k (r3.1,x.2.1,r4.1,())) fun r5=>
   Option.bind (eP k (x.1,())) fun r6=>
   Option.bind (cO k (x.2.2.1,())) fun r7=>
   Option.bind (mD k (r6.1,x.2.1,r7.1,())) fun r8=>
   Option.bind (eY k (r8.1,r5.1,())) fun r9=>
   if(if(!r9.1)=true then true else !((r8.2.1:Bool)==r5.2.1))=true then
    some (false,())
   else
    Option.bind (eP k (x.1,())) fun r10=>
    Option.bind (eY k (r6.1,r10.1,())) fun r11=>
    if(!r11.1)=true then
     some (false,())
    else
     Option.bind (cO k (x.2.2.1,())) fun r12=>
     Option.bind (dY k (r7.1,r12.1,())) fun r13=>
     if(!r13.1)=true then
      some (false,())
     else
      Option.bind (gf k r6.1 (1:Int)) fun r14=>
      Option.bind (cI k r7.1 r14.1) fun r15=>
      Option.bind ((if(((decide ((r15.1:Int)<(0:Int))):Bool)==false)=true then eY k (r8.1,r5.1,())else some (false,()))) fun r16=>
      if(if(if(decide ((r15.1:Int)<(0:Int)))=true then true else !r16.1)=true then true else !((r8.2.1:Bool)==r5.2.1))=true then
       some (false,())
      else
       Option.bind (gf k r8.1 (1:Int)) fun r17=>
       Option.bind (gb k (((r8.1.1.1,r8.1.1.2.1,r8.1.1.2.2.1,r8.1.1.2.2.2.1,r8.1.1.2.2.2.2.1,r17.2.1.2.2.2.2.2),r8.1.2.1,r8.1.2.2.1,r17.2.2.2.2.1,r17.2.2.2.2.2.1,r17.2.2.2.2.2.2.1,r8.1.2.2.2.2.2.2.1,r17.2.2.2.2.2.2.2.2.1,r8.1.2.2.2.2.2.2.2.2.1,r17.2.2.2.2.2.2.2.2.2.2),(1:Int),())) fun r18=>
       if(decide ((r18.1:Int)<(0:Int)))=true then
        some (false,())
       else
        if((r18.1:Int) != r17.1)=true then
         some (false,())
        else
         Option.bind (eP k (x.1,())) fun r19=>
         Option.bind (cO k (x.2.2.1,())) fun r20=>
         Option.bind (mD k (r19.1,x.2.1,r20.1,())) fun r21=>
         Option.bind (eY k (r21.1,r5.1,())) fun r22=>
         if(if(!r22.1)=true then true else !((r21.2.1:Bool)==r5.2.1))=true then
          some (false,())
         else
          Option.bind (gb k (((r8.1.1.1,r8.1.1.2.1,r8.1.1.2.2.1,r8.1.1.2.2.2.1,r8.1.1.2.2.2.2.1,r17.2.1.2.2.2.2.2),r8.1.2.1,r8.1.2.2.1,r17.2.2.2.2.1,r17.2.2.2.2.2.1,r17.2.2.2.2.2.2.1,r8.1.2.2.2.2.2.2.1,r17.2.2.2.2.2.2.2.2.1,r8.1.2.2.2.2.2.2.2.2.1,r17.2.2.2.2.2.2.2.2.2.2),(1:Int),())) fun r23=>
          if(decide ((r23.1:Int)<(0:Int)))=true then
           some (false,())
          else
           if((r23.1:Int) != r17.1)=true then
            some (false,())
           else
            some (true,())
end Vg.Tryz
