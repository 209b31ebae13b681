/- Texts of this law, joined. -/
import Derived.Test.YtgikmhjpcnnhjaaGreatFa
import Derived.Test.YtgikmhjpcnnhjaaGreatProg
import Derived.Test.YtgikmhjpcnnhjaaGreatVd
set_option linter.unusedSimpArgs false
set_option linter.unusedVariables false
set_option linter.unusedSectionVars false
open Option renaming bind_some -> hJ,bind -> aiK
open Int renaming toNat_natCast -> o_,toNat -> ain
open List renaming getD_eq_getElem?_getD -> H',drop_eq_nil_of_le -> aia,take_length -> aie,length -> O',length_append -> aii,length_reverse -> ail,length_take -> aim,length_singleton -> aio,takeWhile_append_dropWhile -> aip,takeWhile_cons -> air,length_cons -> aiw,filter_cons_of_pos -> aiy,filter_cons_of_neg -> aiz,length_nil -> aiA,takeWhile_sublist -> aiB,length_filter_le -> aiC,getD_cons_succ -> aiG,take -> aiH,append_assoc -> aiJ,foldl_cons -> aiL,takeWhile -> aiM
open Bool renaming false_eq_true -> I_,or_true -> P_,and_eq_true -> aid,eq_false_or_eq_true -> aih,eq_iff_iff -> aij,not_false -> ais,true_or -> aix,not_true -> aiD,and_true -> aiE,eq_false_iff -> aiI,and_false -> aiN,false_and -> aiO
open Nat renaming le_trans -> J5,lt_irrefl -> aik,le_refl -> ait,xor_lt_two_pow -> aiu,add_sub_cancel -> aiv
open List.cons renaming injEq -> aiq
open Array renaming toList_append -> aiF
namespace Vg.Tryz
open Go Vg Go.Proofs
def TT:List (Nat×TI):=[(3,⟨(.int .i64),[],0⟩),(4,⟨.bool,[],0⟩),(5,⟨(.int .u8),[],0⟩),(9,⟨.str,[],0⟩),(22,⟨(.sl (.int .u8)),[],5⟩),(24,⟨(.sl .str),[],9⟩),(26,⟨eK,[3,3,3,3,3,24],0⟩),(27,⟨(.sl aj),[],72⟩),(28,⟨(.sl bp),[],103⟩),(29,⟨(.sl ab),[],50⟩),(30,⟨(.sl ak),[],123⟩),(31,⟨(.sl aD),[],161⟩),(32,⟨(.sl eP),[],179⟩),(33,⟨(.sl al),[],62⟩),(34,⟨(.sl ay),[],56⟩),(36,⟨aF,[26,3,3,27,28,29,3,30,3,31,32,29,33,34],0⟩),(48,⟨(.sl ai),[],149⟩),(50,⟨ab,[48,3,3,9],0⟩),(56,⟨ay,[3,3,50,48,3,3,3,29,3,3,3,3],0⟩),(60,⟨(.sl (.int .i64)),[],3⟩),(62,⟨al,[3,3,50,48,3,60,29,3,3],0⟩),(70,⟨(.sl az),[],131⟩),(72,⟨aj,[3,3,70],0⟩),(103,⟨bp,[29,4],0⟩),(123,⟨ak,[3,48,3,3,29],0⟩),(131,⟨az,[3,29],0⟩),(142,⟨jW,[3,3,50,48],0⟩),(149,⟨ai,[9,9],0⟩),(151,⟨dy,[22,3,3],0⟩),(152,⟨(.sl jW),[],142⟩),(161,⟨aD,[3,3],0⟩),(179,⟨eP,[3,48,3,29],0⟩),(208,⟨(.int .u64),[],0⟩),(248,⟨(.int .u32),[],0⟩)]
theorem aat:TT.all (fun p=>C3 Tryz.prog p.1 p.2)=true:=by kernel_rfl
theorem mixed:Tryz.prog.follows .mixedOrders=true:=by kernel_rfl
set_option maxRecDepth 1000000
def nA:Nat->Option sE:=fun _=>none
def Ca:Sh:=(.pair .leaf (.pair .leaf (.sl (.sha []))))
def abR:Sh:=(.pair (.sl (.sha [])) (.pair .leaf (.pair .leaf .leaf)))
def UW:Sh:=(.pair .leaf (.pair .leaf (.sl (.sha [1,2]))))
def aaM:Sh:=(.pair (.sl (.row 12 [12] true)) (.sl (.row 13 [1,2,13] false)))
def Sy:Sh:=(.pair (.sl (.sha [])) (.pair (.sl (.sha [])) (.sl (.sha []))))
def yl:Sh:=(.pair (.sl (.sha [1])) (.pair .leaf (.pair .leaf .leaf)))
def abP:Sh:=(.pair (.sl (.row 12 [12] true)) (.sl (.row 13 [1,13] false)))
def ab5:Sh:=(.pair (.sl (.sha [2,12])) (.pair .leaf (.pair .leaf .leaf)))
def abY:Sh:=(.pair (.sl (.sha [2,12])) (.pair .leaf .leaf))
def aaY:Sh:=(.pair .leaf (.pair .leaf (.sl (.row 9 [9] true))))
def abZ:Sh:=(.pair (.sl (.row 17 [17] true)) (.sl (.row 18 [18] true)))
def abM:Sh:=(.pair .leaf (.pair .leaf (.sl (.sha [2]))))
def ab0:Sh:=(.pair (.sl (.row 27 [27] true)) (.sl (.row 28 [2,28] false)))
def abO:Sh:=(.pair (.sl (.sha [1])) (.pair .leaf .leaf))
def abK:Sh:=(.pair (.sl (.row 12 [12] true)) (.sl (.row 13 [2,13] false)))
def Y0:Sh:=(.pair .leaf (.pair .leaf (.sl (.row 7 [7] true))))
def h6:Sh:=(.pair .leaf (.pair .leaf (.sl (.sha [1]))))
def h68:Sh:=(.pair (.sl (.sha [1])) (.sl (.sha [1])))
def h92:Sh:=(.pair (.sl (.row 15 [15] true)) (.sl (.sha [1])))
def q0:Pt:=(.pair .leaf (.pair .leaf (.pair .leaf .own)))
def ab2:Pt:=(.pair .shr (.pair .shr (.pair .shr .shr)))
def ab1:Pt:=(.pair .hd (.pair .hd (.pair .own .hd)))
def q3:Pt:=(.pair .leaf (.pair .leaf (.pair .leaf .shr)))
def q35:Pt:=(.pair .own (.pair .own (.pair .own .own)))
def mj:Pt:=(.pair .shr (.pair .leaf (.pair .leaf .leaf)))
def q48:Pt:=(.pair .shr (.pair .leaf (.pair .leaf .shr)))
def q53:Pt:=(.pair .shr (.pair .shr (.pair .leaf .leaf)))
def q59:Pt:=(.pair .leaf (.pair .leaf (.pair .leaf .leaf)))
abbrev aY:=Nat->Option sE
abbrev aI:=List (FuncId×ou)
abbrev aw:Ty:= .int .i64
def Bj:Sh:= .pair .leaf (.pair .leaf (.pair .leaf h6))
def bd:Sh:= .sl (.sha [1])
def iY:Sh:= .pair Bj (.pair .leaf (.pair .leaf (.pair bd (.pair bd (.pair bd (.pair .leaf (.pair bd (.pair .leaf (.pair bd (.pair bd (.pair bd h68)))))))))))
def pP:Sh:= .sl (.sha [])
def aan:Sh:= .pair pP (.pair .leaf (.pair pP (.pair .leaf (.pair pP (.pair pP Sy)))))
def wA:Sh:= .pair (.pair .leaf (.pair .leaf (.pair .leaf Ca))) (.pair .leaf (.pair .leaf (.pair pP (.pair pP aan))))
def MB:Sh:= .pair (.pair .leaf (.pair .leaf (.pair .leaf UW))) (.pair .leaf (.pair .leaf (.pair (.sl (.row 5 [1,2,5] false)) (.pair (.sl (.row 6 [1,2,6] false)) (.pair (.sl (.row 7 [1,2,7] false)) (.pair .leaf (.pair (.sl (.row 8 [1,2,8] false)) (.pair .leaf (.pair (.sl (.row 9 [1,2,9] false)) (.pair (.sl (.row 10 [1,2,10] false)) (.pair (.sl (.row 11 [1,2,11] false)) aaM)))))))))))
def aaO:Sh:= .pair (.sl (.row 6 [1,6] false)) (.pair (.sl (.row 7 [1,7] false)) (.pair .leaf (.pair (.sl (.row 8 [1,8] false)) (.pair .leaf (.pair (.sl (.row 9 [1,9] false)) (.pair (.sl (.row 10 [1,10] false)) (.pair (.sl (.row 11 [1,11] false)) abP)))))))
def Ui:Sh:= .pair Bj (.pair .leaf (.pair .leaf (.pair (.sl (.row 5 [1,5] false)) aaO)))
def aah:Sh:= .pair .leaf (.pair .leaf (.pair .leaf abM))
def Yf:Sh:= .pair aah (.pair .leaf (.pair .leaf (.pair (.sl (.row 5 [2,5] false)) (.pair (.sl (.row 6 [2,6] false)) (.pair (.sl (.row 7 [2,7] false)) (.pair .leaf (.pair (.sl (.row 8 [2,8] false)) (.pair .leaf (.pair (.sl (.row 9 [2,9] false)) (.pair (.sl (.row 10 [2,10] false)) (.pair (.sl (.row 11 [2,11] false)) abK)))))))))))
def CX:Sh:= .pair .leaf (.pair .leaf (.pair .leaf Y0))
def KY:Sh:= .pair .leaf (.pair .leaf (.pair yl (.pair bd (.pair .leaf (.pair bd abO)))))
def aaw:Sh:= .pair aah (.pair .leaf (.pair .leaf (.pair (.sl (.row 20 [2,20] false)) (.pair (.sl (.row 21 [2,21] false)) (.pair (.sl (.row 22 [2,22] false)) (.pair .leaf (.pair (.sl (.row 23 [2,23] false)) (.pair .leaf (.pair (.sl (.row 24 [2,24] false)) (.pair (.sl (.row 25 [2,25] false)) (.pair (.sl (.row 26 [2,26] false)) ab0)))))))))))
def Un:Sh:= .sl (.row 10 [10] true)
def XL:Sh:= .sl (.row 11 [11] true)
def Ya:Sh:= .sl (.row 13 [13] true)
def U6:Sh:= .sl (.row 14 [14] true)
def aaR:Sh:= .pair (.pair .leaf (.pair .leaf (.pair .leaf aaY))) (.pair .leaf (.pair .leaf (.pair Un (.pair XL (.pair (.sl (.row 12 [12] true)) (.pair .leaf (.pair Ya (.pair .leaf (.pair U6 (.pair (.sl (.row 15 [15] true)) (.pair (.sl (.row 16 [16] true)) abZ)))))))))))
def xV:Sh:= .sl (.row 8 [8] true)
def Uz:Sh:= .sl (.row 9 [9] true)
def aaa:Sh:= .pair CX (.pair .leaf (.pair .leaf (.pair xV (.pair Uz (.pair Un (.pair .leaf (.pair XL (.pair .leaf (.pair (.sl (.row 12 [] true)) (.pair Ya (.pair U6 h92)))))))))))
def aa9:Sh:= .pair CX (.pair .leaf (.pair .leaf (.pair xV (.pair Uz (.pair Un (.pair .leaf (.pair XL (.pair .leaf (.pair (.sl (.row 12 [] true)) (.pair Ya (.pair bd h68)))))))))))
def YJ:Sh:= .pair .leaf (.pair .leaf (.pair ab5 (.pair (.sl (.sha [2,12])) (.pair .leaf (.pair (.sl (.sha [2,12])) abY)))))
def vJ:Sh:= .sl (.row 4 [4] true)
def aaJ:Sh:= .pair CX (.pair .leaf (.pair .leaf (.pair xV (.pair Uz aan))))
def Ln:Sh:= .pair .leaf (.pair xV aaY)
def LW:Sh:= .pair .leaf (.pair pP Ca)
def K2:Sh:= .pair .leaf (.pair bd h6)
def Ug:Sh:= .pair .leaf (.pair .leaf (.pair abR pP))
def CL:Sh:= .pair .leaf .leaf
def Mg:Sh:= .sl (.row 5 [] true)
def Ue:Sh:= .sl (.row 5 [5] true)
def Qa:Sh:= .pair .leaf bd
def Td:Sh:= .sl (.row 4 [] true)
def aa6:Sh:= .pair .leaf (.pair (.sl (.sha [1,2])) UW)
def YM:Sh:= .sl (.row 4 [2] false)
def aa2:Sh:= .pair .leaf (.pair .leaf (.pair yl bd))
def aau:Sh:= .pair .leaf (.sl (.row 7 [7] true))
def vG:Pt:= .pair .leaf (.pair .leaf q3)
def jc:Pt:= .pair vG (.pair .leaf (.pair .leaf (.pair .hd (.pair .hd (.pair .hd (.pair .leaf (.pair .hd (.pair .leaf (.pair .hd ab1)))))))))
def yc:Pt:= .pair vG (.pair .leaf (.pair .leaf (.pair .shr (.pair .shr (.pair .shr (.pair .leaf (.pair .shr (.pair .leaf (.pair .shr ab2)))))))))
def ur:Pt:= .pair .leaf (.pair .leaf (.pair mj (.pair .shr (.pair .leaf q53))))
def yg:Pt:= .pair .leaf .leaf
def j9:Pt:= .pair .rom yg
def TC:Pt:= .pair .leaf (.pair .leaf (.pair mj (.pair .shr (.pair .leaf (.pair .leaf (.pair .leaf (.pair .shr q59)))))))
def Xz:Pt:= .pair .leaf (.pair .leaf q0)
def XO:Pt:= .pair Xz (.pair .leaf (.pair .leaf (.pair .own (.pair .own (.pair .own (.pair .leaf (.pair .own (.pair .leaf (.pair .own q35)))))))))
def D0:Pt:= .pair .leaf .shr
def yj:Pt:= .pair .leaf D0
def Dz:Pt:= .pair .leaf q48
def P0:Pt:= .pair .leaf .own
def UB:Pt:= .pair .shr .leaf
def q1:Pt:=(.pair .leaf q0)
def q2:Pt:=(.pair .leaf q1)
def q4:Pt:=(.pair .leaf q3)
def q5:Pt:=(.pair .leaf q4)
def h7:Sh:=(.pair .leaf h6)
def h8:Sh:=(.pair .leaf h7)
def h9:Sh:=(.pair .leaf h8)
def Dl:Sh:=(.pair .leaf Ca)
def qQ:Sh:=(.pair .leaf Dl)
def FF:Sh:=(.pair .leaf qQ)
def Nc:Sh:=(.pair (.sl (.sha [])) Sy)
def Wg:Sh:=(.pair (.sl (.sha [])) Nc)
def Vi:Sh:=(.pair .leaf Wg)
def h18:Sh:=(.pair (.sl (.sha [])) Vi)
def h19:Sh:=(.pair .leaf h18)
def Sp:Sh:=(.pair (.sl (.sha [])) h19)
def Nb:Sh:=(.pair (.sl (.row 9 [9] true)) Sp)
def h31:Sh:=(.pair (.sl (.row 8 [8] true)) Nb)
def Y5:Sh:=(.pair .leaf h31)
def h33:Sh:=(.pair .leaf Y5)
def zc:Pt:=(.pair .own (.pair .leaf (.pair .leaf .leaf)))
def q50:Pt:=(.pair .own (.pair .leaf (.pair .leaf .own)))
def q52:Pt:=(.pair .leaf (.pair .own (.pair .leaf .own)))
def Hd:Sh:=(.pair (.sl (.sha [3])) (.pair .leaf .leaf))
def abb:Sh:=(.pair (.sl (.row 6 [6] true)) (.pair .leaf (.pair .leaf .leaf)))
def aaI:Sh:=(.pair .leaf (.pair .leaf (.sl (.row 8 [8] true))))
def UT:Sh:=(.pair (.sl (.row 11 [11] true)) (.pair .leaf (.pair .leaf .leaf)))
def abh:Sh:=(.pair (.sl (.sha [])) (.pair .leaf (.sl (.sha []))))
theorem aS{k:Nat}{cts:List (FuncId×ou)}(hc:aH Tryz.prog cts)(la ja:Nat->Option sE){f:FuncId}{fn:Func}(b:Tryz.prog.funcs[f]?=some fn){ps:List PK}(c:SJ fn ps.length=true:=by kernel_rfl){rs:List RK}{a:List (Nat×List Bool)}{F:aW (ps.map PK.ty)->Option (aW (rs.map RK.ty++bn ps))}(d:∀x,IF (Da TT cts la ja k) ps rs a fn x=F x:=by exact fun x=>by kernel_rfl):aH Tryz.prog ((f,⟨ps,rs,F,a⟩)::cts):=aH.ev aat mixed hc la ja k b c d
theorem Y2{k:Nat}{cts:List (FuncId×ou)}(hc:aH Tryz.prog cts)(la ja:Nat->Option sE){f:FuncId}{fn:Func}(b:Tryz.prog.funcs[f]?=some fn){ps:List PK}(c:SJ fn ps.length=true:=by kernel_rfl){rs:List RK}{a:List (Nat×List Bool)}{F:aW (ps.map PK.ty)->Option (aW (rs.map RK.ty++bn ps))}(d:∀x,Ih (Da TT cts la ja k) (fun f=>([]:List (FuncId×mf)).lookup f) ps rs a fn x=F x:=by exact fun x=>by kernel_rfl):aH Tryz.prog ((f,⟨ps,rs,F,a⟩)::cts):=aH.mu aat mixed hc (show uT Tryz.prog []from trivial) la ja k b c d
section
variable(k:Nat)
def Er:aI:=(71,Ek k)::([]:List (FuncId×ou))
theorem Lf:aH Tryz.prog (Er k):=⟨Qv k,(show aH Tryz.prog []from trivial)⟩
def zK:aI:=(318,zk k)::(Er k)
theorem FQ:aH Tryz.prog (zK k):=⟨Mf k,(Lf k)⟩
def wO:aI:=(129,xC k)::(zK k)
theorem EI:aH Tryz.prog (wO k):=⟨JT k,(FQ k)⟩
def II:aI:=(12,⟨[.val (.sl (.int .u8)) .rom],[.val .bool .leaf],AH k,[]⟩)::(wO k)
theorem Uc:aH Tryz.prog (II k):=aS (EI k) nA nA Tryz.func12
def OT:aY:=fun|3=>some ⟨[(0,.val (.sl (.int .u8)) (.sl (.sha [3]))),(3,.val aw .leaf),(4,.val aw .leaf)],4⟩|_=>none
def N4:aY:=fun|6=>some ⟨[(0,.val (.sl (.int .u8)) (.sl (.sha [3]))),(3,.val aw .leaf)],4⟩|_=>none
def D6:aI:=(74,⟨[.val (.sl (.int .u8)) .rom],[.nbox dy j9],rX k,[]⟩)::(II k)
theorem PW:aH Tryz.prog (D6 k):=Y2 (Uc k) OT N4 Tryz.func74
def Cq:aI:=(76,⟨[.val (.sl (.int .u8)) .rom,.val aw .leaf],[.val aw .leaf],qs k,[]⟩)::(D6 k)
theorem OC:aH Tryz.prog (Cq k):=aS (PW k) nA nA Tryz.func76
def Cc:aI:=(172,⟨[.io dy j9],[.val aw .leaf],jb k,[]⟩)::(Cq k)
theorem N9:aH Tryz.prog (Cc k):=aS (OC k) nA nA Tryz.func172
def y4:aI:=(91,⟨[.io dy j9,.val aw .leaf],[.val aw .leaf],bz k,[]⟩)::(Cc k)
theorem LU:aH Tryz.prog (y4 k):=aS (N9 k) nA nA Tryz.func91
def DI:aI:=(109,⟨[.io dy j9,.val (.sl aw) .shr],[.val aw .leaf],cu k,[]⟩)::(y4 k)
theorem Qn:aH Tryz.prog (DI k):=aS (LU k) nA nA Tryz.func109
def Fy:aI:=(281,⟨[.io dy j9],[.val (.sl .str) .own],tH k,[]⟩)::(DI k)
theorem RA:aH Tryz.prog (Fy k):=aS (Qn k) nA nA Tryz.func281
def yW:aI:=(170,⟨[.io dy j9],[.val eK Xz],oU k,[]⟩)::(Fy k)
theorem Lp:aH Tryz.prog (yW k):=aS (RA k) nA nA Tryz.func170
def FN:aI:=(93,⟨[.val aw .leaf,.val aw .leaf,.val aw .leaf],[.val .bool .leaf],cX k,[]⟩)::(yW k)
theorem RO:aH Tryz.prog (FN k):=aS (Lp k) nA nA Tryz.func93
def Mx:aY:=fun|2=>some ⟨[(0,.val .str .leaf),(3,.val aw .leaf)],4⟩|_=>none
def Mv:aY:=fun|6=>some ⟨[(0,.val .str .leaf)],4⟩|_=>none
def BQ:aI:=(282,⟨[.val .str .leaf],[.val .bool .leaf],mZ k,[]⟩)::(FN k)
theorem Of:aH Tryz.prog (BQ k):=aS (RO k) Mx Mv Tryz.func282
def Fi:aI:=(246,⟨[.val .str .leaf,.val .str .leaf],[.val .bool .leaf],iI k,[]⟩)::(BQ k)
theorem Rn:aH Tryz.prog (Fi k):=aS (Of k) nA nA Tryz.func246
def Ky:aY:=fun|2=>some ⟨[(0,.val (.sl .str) bd),(3,.val aw .leaf)],4⟩|_=>none
def zj:aI:=(283,⟨[.val (.sl .str) .shr],[.val .bool .leaf],jK k,[]⟩)::(Fi k)
theorem LK:aH Tryz.prog (zj k):=aS (Rn k) Ky nA Tryz.func283
def QG:aY:=fun|2=>some ⟨[(0,.val (.sl .str) bd),(3,.val aw .leaf)],4⟩|_=>none
def PD:aY:=fun|6=>some ⟨[(0,.val (.sl .str) bd)],4⟩|_=>none
def FB:aI:=(173,⟨[.val (.sl .str) .shr],[.val .bool .leaf],tw k,[]⟩)::(zj k)
theorem RX:aH Tryz.prog (FB k):=aS (LK k) QG PD Tryz.func173
def Ch:aI:=(92,⟨[.val eK vG],[.val .bool .leaf],qu k,[]⟩)::(FB k)
theorem NP:aH Tryz.prog (Ch k):=aS (RX k) nA nA Tryz.func92
def y9:aI:=(106,⟨[.val eK vG],[.val eK Xz],lX k,[]⟩)::(Ch k)
theorem Lb:aH Tryz.prog (y9 k):=aS (NP k) nA nA Tryz.func106
def Gg:aY:=fun|2=>some ⟨[(0,.val aw .leaf),(3,.val (.sl aj) vJ)],5⟩|_=>none
def xF:aI:=(107,⟨[.val aw .leaf],[.val (.sl aj) .own],nT k,[]⟩)::(y9 k)
theorem JL:aH Tryz.prog (xF k):=aS (Lb k) Gg nA Tryz.func107
def F6:aY:=fun|5=>some ⟨[(1,.box 4 eK Bj),(2,.box 5 aF wA),(3,.box 6 aF aaJ),(4,.val aw .leaf)],10⟩|9=>some ⟨[(1,.box 4 eK Bj),(2,.box 5 aF wA),(3,.box 6 aF (.pair CX (.pair .leaf (.pair .leaf (.pair xV (.pair Uz (.pair pP (.pair .leaf (.pair pP (.pair .leaf (.pair pP (.pair pP (.pair pP (.pair Un pP)))))))))))))),(5,.val aw .leaf)],11⟩|_=>none
def Gk:aY:=fun|8=>some ⟨[(1,.box 4 eK Bj),(2,.box 5 aF wA),(3,.box 6 aF aaJ)],10⟩|_=>none
def xM:aI:=(27,⟨[.val eK vG],[.val aF XO],nK k,[]⟩)::(xF k)
theorem HH:aH Tryz.prog (xM k):=aS (JL k) F6 Gk Tryz.func27
def BZ:aI:=(146,⟨[.val ab mj],[.val ab zc],bO k,[]⟩)::(xM k)
theorem Oi:aH Tryz.prog (BZ k):=aS (HH k) nA nA Tryz.func146
def OD:aY:=fun|3=>some ⟨[(0,.val (.sl ab) bd),(3,.val (.sl ab) vJ),(4,.val aw .leaf)],5⟩|_=>none
def CK:aI:=(210,⟨[.val (.sl ab) .shr],[.val (.sl ab) .own],cF k,[]⟩)::(BZ k)
theorem Qp:aH Tryz.prog (CK k):=aS (Oi k) OD nA Tryz.func210
def BI:aI:=(345,⟨[.val az D0],[.val az P0],na k,[]⟩)::(CK k)
theorem OR:aH Tryz.prog (BI k):=aS (Qp k) nA nA Tryz.func345
def Lu:aY:=fun|3=>some ⟨[(1,.box 4 aj h6),(2,.box 5 aj Ca),(3,.box 6 aj Y0),(4,.val aw .leaf)],8⟩|_=>none
def BV:aI:=(302,⟨[.val aj yj],[.val aj (.pair .leaf P0)],kt k,[]⟩)::(BI k)
theorem OZ:aH Tryz.prog (BV k):=aS (OR k) Lu nA Tryz.func302
def MF:aY:=fun|3=>some ⟨[(0,.val (.sl aj) bd),(3,.val (.sl aj) vJ),(4,.val aw .leaf)],5⟩|_=>none
def BA:aI:=(208,⟨[.val (.sl aj) .shr],[.val (.sl aj) .own],qh k,[]⟩)::(BV k)
theorem OM:aH Tryz.prog (BA k):=aS (OZ k) MF nA Tryz.func208
end
end Vg.Tryz
namespace Vg.Tryz
open Go Vg Go.Proofs
set_option maxRecDepth 1000000
section
variable(k:Nat)
def Cg:aI:=(303,⟨[.val bp UB],[.val bp (.pair .own .leaf)],ko k,[]⟩)::(BA k)
theorem Ox:aH Tryz.prog (Cg k):=aS (OM k) nA nA Tryz.func303
def Od:aY:=fun|3=>some ⟨[(0,.val (.sl bp) bd),(3,.val (.sl bp) vJ),(4,.val aw .leaf)],5⟩|_=>none
def DF:aI:=(209,⟨[.val (.sl bp) .shr],[.val (.sl bp) .own],wE k,[]⟩)::(Cg k)
theorem Q8:aH Tryz.prog (DF k):=aS (Ox k) Od nA Tryz.func209
def y0:aI:=(304,⟨[.val ak Dz],[.val ak (.pair .leaf q50)],iy k,[]⟩)::(DF k)
theorem L6:aH Tryz.prog (y0 k):=aS (Q8 k) nA nA Tryz.func304
def Jx:aY:=fun|3=>some ⟨[(0,.val (.sl ak) bd),(3,.val (.sl ak) vJ),(4,.val aw .leaf)],5⟩|_=>none
def zv:aI:=(211,⟨[.val (.sl ak) .shr],[.val (.sl ak) .own],ir k,[]⟩)::(y0 k)
theorem Mq:aH Tryz.prog (zv k):=aS (L6 k) Jx nA Tryz.func211
def wI:aI:=(212,⟨[.val eP (.pair .leaf (.pair .shr D0))],[.val eP q52],iT k,[]⟩)::(zv k)
theorem Ic:aH Tryz.prog (wI k):=aS (Mq k) nA nA Tryz.func212
def zh:aI:=(213,⟨[.val al ur],[.val al (.pair .leaf (.pair .leaf (.pair zc (.pair .own (.pair .leaf (.pair .own (.pair .own yg)))))))],lR k,[]⟩)::(wI k)
theorem LB:aH Tryz.prog (zh k):=aS (Ic k) nA nA Tryz.func213
def zB:aI:=(305,⟨[.val ay TC],[.val ay (.pair .leaf (.pair .leaf (.pair zc (.pair .own (.pair .leaf (.pair .leaf (.pair .leaf (.pair .own q59))))))))],lH k,[]⟩)::(zh k)
theorem MD:aH Tryz.prog (zB k):=aS (LB k) nA nA Tryz.func305
def L5:aY:=fun|3=>some ⟨[(0,.val (.sl ay) bd),(3,.val (.sl ay) vJ),(4,.val aw .leaf)],5⟩|_=>none
def Bu:aI:=(214,⟨[.val (.sl ay) .shr],[.val (.sl ay) .own],uz k,[]⟩)::(zB k)
theorem Ot:aH Tryz.prog (Bu k):=aS (MD k) L5 nA Tryz.func214
def IW:aY:=fun|11=>some ⟨[(1,.box 4 aF iY),(2,.box 5 aF wA),(3,.box 6 aF aa9),(4,.box 14 eK CX),(5,.val aw .leaf)],15⟩|18=>some ⟨[(1,.box 4 aF iY),(2,.box 5 aF wA),(3,.box 6 aF aaa),(4,.box 16 eK CX),(7,.val aw .leaf)],17⟩|_=>none
def HN:aY:=fun|15=>some ⟨[(1,.box 4 aF iY),(2,.box 5 aF wA),(3,.box 6 aF aa9),(4,.box 14 eK CX)],15⟩|22=>some ⟨[(1,.box 4 aF iY),(2,.box 5 aF wA),(3,.box 6 aF aaa),(4,.box 16 eK CX)],17⟩|_=>none
def zx:aI:=(113,⟨[.val aF yc],[.val aF XO],lL k,[]⟩)::(Bu k)
theorem Ls:aH Tryz.prog (zx k):=aS (Ot k) IW HN Tryz.func113
def DX:aI:=(299,⟨[.io dy j9,.val (.sl .str) .shr],[.val .str .leaf],fW k,[]⟩)::(zx k)
theorem QN:aH Tryz.prog (DX k):=aS (Ls k) nA nA Tryz.func299
def BC:aI:=(137,⟨[.io dy j9,.val aw .leaf],[.val .bool .leaf],eN k,[]⟩)::(DX k)
theorem OG:aH Tryz.prog (BC k):=aS (QN k) nA nA Tryz.func137
def KU:aY:=fun|3=>some ⟨[(0,.box 4 dy Hd),(3,.val (.sl ai) Mg),(11,.val (.sl .str) (.sl (.row 6 [] true))),(12,.val aw .leaf),(13,.val aw .leaf)],7⟩|_=>none
def BR:aI:=(241,⟨[.io dy j9],[.val (.sl ai) .own],gU k,[]⟩)::(BC k)
theorem N3:aH Tryz.prog (BR k):=aS (OG k) KU nA Tryz.func241
def zr:aI:=(298,⟨[.io dy j9],[.val .str .leaf],lD k,[]⟩)::(BR k)
theorem Lg:aH Tryz.prog (zr k):=aS (N3 k) nA nA Tryz.func298
def Cu:aI:=(197,⟨[.io dy j9],[.val ab zc],fc k,[]⟩)::(zr k)
theorem O8:aH Tryz.prog (Cu k):=aS (Lg k) nA nA Tryz.func197
def zV:aI:=(319,⟨[.io dy j9],[.val .str .leaf],oN k,[]⟩)::(Cu k)
theorem KZ:aH Tryz.prog (zV k):=aS (O8 k) nA nA Tryz.func319
def vA:aI:=(242,⟨[.io dy j9],[.val .str .leaf],mD k,[]⟩)::(zV k)
theorem GX:aH Tryz.prog (vA k):=aS (KZ k) nA nA Tryz.func242
def uO:aI:=(198,⟨[.io dy j9],[.val .str .leaf],gP k,[]⟩)::(vA k)
theorem E8:aH Tryz.prog (uO k):=aS (GX k) nA nA Tryz.func198
def Dg:aI:=(130,⟨[.io dy j9],[.val (.sl ai) .own],rO k,[]⟩)::(uO k)
theorem PS:aH Tryz.prog (Dg k):=aS (E8 k) nA nA Tryz.func130
def CN:aI:=(273,⟨[.io dy j9],[.val aw .leaf],rj k,[]⟩)::(Dg k)
theorem QL:aH Tryz.prog (CN k):=aS (PS k) nA nA Tryz.func273
def D4:aI:=(163,⟨[.io dy j9],[.val aw .leaf],rh k,[]⟩)::(CN k)
theorem Rc:aH Tryz.prog (D4 k):=aS (QL k) nA nA Tryz.func163
def DJ:aI:=(110,⟨[.io dy j9],[.val ab zc],jU k,[]⟩)::(D4 k)
theorem PT:aH Tryz.prog (DJ k):=aS (Rc k) nA nA Tryz.func110
def FY:aY:=fun|3=>some ⟨[(1,.box 4 aj h6),(3,.val (.sl ab) Ue),(4,.val aw .leaf)],6⟩|_=>none
def wS:aI:=(285,⟨[.val aj yj],[.val (.sl ab) .own],kO k,[]⟩)::(DJ k)
theorem JS:aH Tryz.prog (wS k):=aS (PT k) FY nA Tryz.func285
def Kp:aY:=fun|2=>some ⟨[(0,.val (.sl ai) bd),(1,.val (.sl ai) bd),(5,.val aw .leaf)],4⟩|_=>none
def Js:aY:=fun|8=>some ⟨[(0,.val (.sl ai) bd),(1,.val (.sl ai) bd)],4⟩|_=>none
def zZ:aI:=(350,⟨[.val (.sl ai) .shr,.val (.sl ai) .shr],[.val .bool .leaf],lG k,[]⟩)::(wS k)
theorem Mb:aH Tryz.prog (zZ k):=aS (JS k) Kp Js Tryz.func350
def LX:aY:=fun|3=>some ⟨[(0,.val (.sl ab) bd),(3,.val (.sl ab) YM),(4,.val aw .leaf)],5⟩|7=>some ⟨[(0,.val (.sl ab) bd),(3,.val (.sl ab) YM),(4,.val aw .leaf),(5,.box 5 ab abb),(6,.val aw .leaf)],7⟩|_=>none
def LF:aY:=fun|9=>some ⟨[(0,.val (.sl ab) bd),(3,.val (.sl ab) YM),(4,.val aw .leaf),(5,.box 5 ab abb),(6,.val aw .leaf)],7⟩|_=>none
def Cj:aI:=(286,⟨[.val (.sl ab) .shr],[.val (.sl ab) .hd],ku k,[]⟩)::(zZ k)
theorem Oe:aH Tryz.prog (Cj k):=aS (Mb k) LX LF Tryz.func286
def EL:aY:=fun|3=>some ⟨[(0,.val (.sl aj) bd),(3,.val (.sl ab) vJ),(4,.val aw .leaf)],5⟩|_=>none
def E6:aY:=fun|6=>some ⟨[(3,.val (.sl ab) vJ)],5⟩|_=>none
def vW:aI:=(175,⟨[.val (.sl aj) .shr],[.val (.sl ab) .hd],dx k,[]⟩)::(Cj k)
theorem FT:aH Tryz.prog (vW k):=aS (Oe k) EL E6 Tryz.func175
def xj:aI:=(336,⟨[.io dy j9,.val (.sl ab) .shr],[.val (.sl ai) .own],dW k,[]⟩)::(vW k)
theorem I5:aH Tryz.prog (xj k):=Y2 (FT k) nA nA Tryz.func336
def FI:aI:=(337,⟨[.val aF yc],[.val .bool .leaf],nr k,[]⟩)::(xj k)
theorem RT:aH Tryz.prog (FI k):=aS (I5 k) nA nA Tryz.func337
def Kw:aY:=fun|22=>some ⟨[(0,.box 4 dy Hd),(3,.box 5 aF iY),(4,.box 6 jW Ug),(5,.val aw .leaf),(7,.val aw .leaf)],7⟩|_=>none
def H4:aY:=fun|9=>some ⟨[(0,.box 4 dy Hd),(3,.box 5 aF iY),(4,.box 6 jW Ug),(5,.val aw .leaf),(6,.box 7 ab (.pair xV (.pair .leaf CL)))],9⟩|20=>some ⟨[(0,.box 4 dy Hd),(3,.box 5 aF iY),(4,.box 6 jW Ug)],7⟩|26=>some ⟨[(0,.box 4 dy Hd),(3,.box 5 aF iY),(4,.box 6 jW Ug),(5,.val aw .leaf)],7⟩|_=>none
def yv:aI:=(262,⟨[.io dy j9,.val aF yc],[.val jW (.pair .leaf (.pair .leaf (.pair zc .own)))],ph k,[]⟩)::(FI k)
theorem K3:aH Tryz.prog (yv k):=aS (RT k) Kw H4 Tryz.func262
def JI:aY:=fun|2=>some ⟨[(0,.val .str .leaf),(3,.val aw .leaf)],4⟩|_=>none
def HA:aY:=fun|6=>some ⟨[(0,.val .str .leaf)],4⟩|_=>none
def Ac:aI:=(287,⟨[.val .str .leaf],[.val .bool .leaf],mc k,[]⟩)::(yv k)
theorem Mz:aH Tryz.prog (Ac k):=aS (K3 k) JI HA Tryz.func287
def yQ:aI:=(245,⟨[.val ai yg],[.val .bool .leaf],pB k,[]⟩)::(Ac k)
theorem KV:aH Tryz.prog (yQ k):=aS (Mz k) nA nA Tryz.func245
def OL:aY:=fun|2=>some ⟨[(0,.val (.sl ai) bd),(3,.val aw .leaf)],4⟩|_=>none
def Oq:aY:=fun|6=>some ⟨[(0,.val (.sl ai) bd)],4⟩|_=>none
def DB:aI:=(132,⟨[.val (.sl ai) .shr],[.val .bool .leaf],lI k,[]⟩)::(yQ k)
theorem PG:aH Tryz.prog (DB k):=aS (KV k) OL Oq Tryz.func132
def zt:aI:=(177,⟨[.val ab mj],[.val .bool .leaf],oP k,[]⟩)::(DB k)
theorem MG:aH Tryz.prog (zt k):=aS (PG k) nA nA Tryz.func177
def Ft:aI:=(176,⟨[.val eK vG,.val ab mj],[.val .bool .leaf],tB k,[]⟩)::(zt k)
theorem Rx:aH Tryz.prog (Ft k):=aS (MG k) nA nA Tryz.func176
def vU:aI:=(181,⟨[.val aw .leaf],[.val aw .leaf],gn k,[]⟩)::(Ft k)
theorem Gx:aH Tryz.prog (vU k):=aS (Rx k) nA nA Tryz.func181
def xQ:aI:=(215,⟨[.io aF jc,.val aw .leaf,.val al ur],[],dQ k,[(0,(eG 14 12))]⟩)::(vU k)
theorem Kd:aH Tryz.prog (xQ k):=aS (Gx k) nA nA Tryz.func215
def xP:aI:=(216,⟨[.io aF jc,.val ay TC],[],cU k,[(0,(eG 14 12))]⟩)::(xQ k)
theorem Jb:aH Tryz.prog (xP k):=aS (Kd k) nA nA Tryz.func216
def GJ:aY:=fun|4=>some ⟨[(0,.box 4 aF MB),(5,.box 14 ab yl)],15⟩|_=>none
def xa:aI:=(114,⟨[.io aF jc,.val aw .leaf,.val ab mj],[],nL k,[]⟩)::(xP k)
theorem Im:aH Tryz.prog (xa k):=aS (Jb k) nA GJ Tryz.func114
def wU:aI:=(133,⟨[.io aF jc,.val aw .leaf,.val al ur],[],fq k,[]⟩)::(xa k)
theorem Hz:aH Tryz.prog (wU k):=aS (Im k) nA nA Tryz.func133
def Ii:aY:=fun|5=>some ⟨[(0,.val (.sl ai) bd),(3,.val .str .leaf),(4,.val aw .leaf)],4⟩|_=>none
def HD:aY:=fun|9=>some ⟨[(0,.val (.sl ai) bd),(3,.val .str .leaf),(4,.val aw .leaf)],4⟩|10=>some ⟨[(3,.val .str .leaf)],4⟩|_=>none
def zf:aI:=(354,⟨[.val (.sl ai) .shr],[.val .str .leaf],pq k,[]⟩)::(wU k)
theorem MI:aH Tryz.prog (zf k):=aS (Hz k) Ii HD Tryz.func354
def RC:aY:=fun|3=>some ⟨[(0,.val .str .leaf),(3,.val aw .leaf),(4,.val aw .leaf)],4⟩|_=>none
def Ij:aI:=(353,⟨[.val .str .leaf],[.val aw .leaf],mH k,[]⟩)::(zf k)
theorem Ur:aH Tryz.prog (Ij k):=aS (MI k) RC nA Tryz.func353
def BJ:aI:=(294,⟨[.val (.sl ai) .shr],[.val aw .leaf],hZ k,[]⟩)::(Ij k)
theorem Om:aH Tryz.prog (BJ k):=aS (Ur k) nA nA Tryz.func294
def Ci:aI:=(293,⟨[.val aw .leaf,.val aw .leaf],[.val aw .leaf],nc k,[]⟩)::(BJ k)
theorem N2:aH Tryz.prog (Ci k):=aS (Om k) nA nA Tryz.func293
def Bw:aI:=(291,⟨[.val (.sl aj) .shr,.val (.sl ai) .shr],[.val aw .leaf],iZ k,[]⟩)::(Ci k)
theorem OH:aH Tryz.prog (Bw k):=aS (N2 k) nA nA Tryz.func291
def yI:aI:=(231,⟨[.rd aF,.val aw .leaf],[.val aw .leaf],jG k,[]⟩)::(Bw k)
theorem MK:aH Tryz.prog (yI k):=aS (OH k) nA nA Tryz.func231
def Q7:aY:=fun|2=>some ⟨[(1,.val aw .leaf),(2,.box 4 aj h6),(5,.val aw .leaf)],5⟩|_=>none
def Fb:aI:=(351,⟨[.val aj yj,.val aw .leaf],[.val aw .leaf],kV k,[]⟩)::(yI k)
theorem Rq:aH Tryz.prog (Fb k):=aS (MK k) Q7 nA Tryz.func351
def JW:aY:=fun|4=>some ⟨[(0,.val (.sl ai) bd),(1,.val (.sl ai) bd),(5,.val aw .leaf)],4⟩|_=>none
def yF:aI:=(184,⟨[.val (.sl ai) .shr,.val (.sl ai) .shr],[.val .bool .leaf],jE k,[]⟩)::(Fb k)
theorem Lw:aH Tryz.prog (yF k):=aS (Rq k) JW nA Tryz.func184
def Io:aY:=fun|2=>some ⟨[(1,.val (.sl ai) bd),(2,.box 4 az Qa),(5,.val aw .leaf)],5⟩|_=>none
def zz:aI:=(352,⟨[.val az D0,.val (.sl ai) .shr],[.val aw .leaf],iw k,[]⟩)::(yF k)
theorem KT:aH Tryz.prog (zz k):=aS (Lw k) Io nA Tryz.func352
def BE:aI:=(290,⟨[.val aj yj,.val (.sl ai) .shr],[.val ab zc,.val .bool .leaf],qa k,[]⟩)::(zz k)
theorem OJ:aH Tryz.prog (BE k):=aS (KT k) nA nA Tryz.func290
def vz:aI:=(182,⟨[.val (.sl aj) .shr,.val (.sl ai) .shr],[.val ab zc,.val .bool .leaf],iB k,[]⟩)::(BE k)
theorem Gu:aH Tryz.prog (vz k):=aS (OJ k) nA nA Tryz.func182
def HQ:aY:=fun|3=>some ⟨[(0,.val (.sl aj) bd),(3,.val aw .leaf),(4,.val aw .leaf)],4⟩|6=>some ⟨[(0,.val (.sl aj) bd),(3,.val aw .leaf),(4,.val aw .leaf),(5,.val aw .leaf)],4⟩|_=>none
def yJ:aI:=(315,⟨[.val (.sl aj) .shr],[.val aw .leaf],oR k,[]⟩)::(vz k)
theorem Mu:aH Tryz.prog (yJ k):=aS (Gu k) HQ nA Tryz.func315
end
def Mc:aY:=fun|6=>some ⟨[(0,.box 4 aF (.pair Bj (.pair .leaf (.pair .leaf (.pair (.sl (.row 5 [1,5] false)) (.pair (.sl (.row 6 [1,6] false)) (.pair (.sl (.row 7 [1,7] false)) (.pair .leaf (.pair (.sl (.row 8 [1,8] false)) (.pair .leaf (.pair (.sl (.row 9 [1,9] false)) (.pair (.sl (.row 10 [1,10] false)) (.pair (.sl (.row 11 [1,11] false)) aaM))))))))))))),(1,.val aw .leaf),(8,.ept 13 ay 0 [] ay)],14⟩|_=>none
section
variable(k:Nat)
def BU:aI:=(257,⟨[.io aF jc,.val aw .leaf,.val aw .leaf,.vx ab [12]],[],cP k,[]⟩)::(yJ k)
theorem OB:aH Tryz.prog (BU k):=aS (Mu k) nA Mc Tryz.func257
def Dm:aI:=(391,⟨[.val ab mj,.val ab mj],[.val .bool .leaf],rP k,[]⟩)::(BU k)
theorem Py:aH Tryz.prog (Dm k):=aS (OB k) nA nA Tryz.func391
def CJ:aI:=(392,⟨[.val aw .leaf,.val aw .leaf],[.val aw .leaf],vL k,[]⟩)::(Dm k)
theorem Q6:aH Tryz.prog (CJ k):=aS (Py k) nA nA Tryz.func392
def Dh:aI:=(387,⟨[.val ab mj,.val ab mj],[.val ab zc],rz k,[]⟩)::(CJ k)
theorem Qc:aH Tryz.prog (Dh k):=aS (Q6 k) nA nA Tryz.func387
def xR:aI:=(379,⟨[.val az D0,.val ab mj],[.val az P0,.val .bool .leaf],nY k,[]⟩)::(Dh k)
theorem Jv:aH Tryz.prog (xR k):=aS (Qc k) nA nA Tryz.func379
def N7:aY:=fun|10=>some ⟨[(2,.box 4 aj h6),(3,.box 5 ab yl),(4,.box 6 aj Ca),(6,.box 7 aj aaI),(7,.val aw .leaf),(8,.val aw .leaf)],9⟩|_=>none
def OP:aY:=fun|12=>some ⟨[(2,.box 4 aj h6),(3,.box 5 ab yl),(4,.box 6 aj Ca),(6,.box 7 aj aaI),(7,.val aw .leaf),(8,.val aw .leaf)],9⟩|_=>none
def Ej:aI:=(362,⟨[.val aj yj,.val ab mj],[.val aj (.pair .leaf (.pair .leaf .pv)),.val .bool .leaf],rR k,[]⟩)::(xR k)
theorem Qm:aH Tryz.prog (Ej k):=aS (Jv k) N7 OP Tryz.func362
def xH:aI:=(316,⟨[.val (.sl aj) .shr,.val ab mj],[.val (.sl aj) .pv,.val .bool .leaf],nG k,[]⟩)::(Ej k)
theorem JQ:aH Tryz.prog (xH k):=aS (Qm k) nA nA Tryz.func316
def ET:aY:=fun|12=>some ⟨[(0,.box 4 aF (.pair Bj (.pair .leaf (.pair .leaf (.pair (.sl (.row 5 [5] false)) aaO))))),(1,.val aw .leaf),(4,.box 14 al YJ),(6,.box 15 ab (.pair (.sl (.row 16 [16] true)) (.pair .leaf CL))),(10,.ept 13 ay 0 [] ay)],17⟩|_=>none
def vw:aI:=(232,⟨[.io aF jc,.val aw .leaf],[],mN k,[]⟩)::(xH k)
theorem F8:aH Tryz.prog (vw k):=aS (JQ k) nA ET Tryz.func232
def Fk:aI:=(346,⟨[.val bp UB,.val ab mj],[.val bp (.pair .own .leaf)],tN k,[]⟩)::(vw k)
theorem R2:aH Tryz.prog (Fk k):=aS (F8 k) nA nA Tryz.func346
def Jy:aY:=fun|3=>some ⟨[(0,.val (.sl bp) bd),(3,.box 4 ab yl),(5,.val (.sl bp) Ue),(6,.val aw .leaf)],6⟩|_=>none
def yZ:aI:=(317,⟨[.val (.sl bp) .shr,.val ab mj],[.val (.sl bp) .own],pE k,[]⟩)::(Fk k)
theorem Ml:aH Tryz.prog (yZ k):=aS (R2 k) Jy nA Tryz.func317
def Aa:aI:=(233,⟨[.io aF jc,.val aw .leaf],[],sP k,[]⟩)::(yZ k)
theorem KR:aH Tryz.prog (Aa k):=aS (Ml k) nA nA Tryz.func233
def JH:aY:=fun|11=>some ⟨[(0,.box 4 aF MB)],14⟩|_=>none
def zl:aI:=(123,⟨[.io aF jc,.val aw .leaf],[.val .bool .leaf],oM k,[]⟩)::(Aa k)
theorem KQ:aH Tryz.prog (zl k):=aS (KR k) nA JH Tryz.func123
def y3:aI:=(250,⟨[.io aF jc,.val aw .leaf,.val aw .leaf],[.val .bool .leaf],jI k,[(0,(eG 14 12))]⟩)::(zl k)
theorem Mi:aH Tryz.prog (y3 k):=aS (KQ k) nA nA Tryz.func250
def B0:aI:=(249,⟨[.io aF jc,.val aw .leaf],[.val .bool .leaf],qd k,[]⟩)::(y3 k)
theorem O6:aH Tryz.prog (B0 k):=aS (Mi k) nA nA Tryz.func249
def y5:aI:=(251,⟨[.io aF jc,.val aw .leaf],[],pd k,[(0,(eG 14 12))]⟩)::(B0 k)
theorem L3:aH Tryz.prog (y5 k):=aS (O6 k) nA nA Tryz.func251
def GG:aY:=fun|2=>some ⟨[(0,.box 4 aF Ui),(1,.val aw .leaf),(4,.box 14 al YJ),(5,.val aw .leaf)],15⟩|_=>none
def F5:aY:=fun|6=>some ⟨[(0,.box 4 aF Ui),(1,.val aw .leaf),(4,.box 14 al YJ)],15⟩|_=>none
def xS:aI:=(252,⟨[.io aF jc,.val aw .leaf],[],nR k,[]⟩)::(y5 k)
theorem Jw:aH Tryz.prog (xS k):=aS (L3 k) GG F5 Tryz.func252
def HJ:aY:=fun|9=>some ⟨[(0,.box 4 aF MB),(5,.val .bool .leaf)],14⟩|_=>none
def zA:aI:=(136,⟨[.io aF jc,.val aw .leaf],[.val .bool .leaf],lF k,[]⟩)::(xS k)
theorem L1:aH Tryz.prog (zA k):=aS (Jw k) nA HJ Tryz.func136
def Fv:aI:=(145,⟨[.val ab mj,.val aw .leaf],[.val .bool .leaf],pV k,[]⟩)::(zA k)
theorem RR:aH Tryz.prog (Fv k):=aS (L1 k) nA nA Tryz.func145
def F9:aY:=fun|4=>some ⟨[(1,.val aw .leaf),(2,.box 4 az Qa),(4,.box 5 az (.pair .leaf pP)),(6,.box 6 az aau),(7,.val (.sl ab) xV),(8,.val aw .leaf)],9⟩|_=>none
def FR:aY:=fun|10=>some ⟨[(2,.box 4 az Qa),(4,.box 5 az (.pair .leaf pP)),(6,.box 6 az aau),(7,.val (.sl ab) xV)],9⟩|_=>none
def xf:aI:=(324,⟨[.val az D0,.val aw .leaf],[.val az P0,.val (.sl ab) .own],nW k,[]⟩)::(Fv k)
theorem IQ:aH Tryz.prog (xf k):=aS (RR k) F9 FR Tryz.func324
def Kz:aY:=fun|4=>some ⟨[(1,.val aw .leaf),(2,.box 4 aj h6),(4,.box 5 aj Ca),(6,.box 6 aj Y0),(7,.val (.sl ab) xV),(8,.val aw .leaf)],9⟩|_=>none
def KA:aY:=fun|10=>some ⟨[(2,.box 4 aj h6),(4,.box 5 aj Ca),(6,.box 6 aj Y0),(7,.val (.sl ab) xV)],9⟩|_=>none
def zX:aI:=(256,⟨[.val aj yj,.val aw .leaf],[.val aj (.pair .leaf P0),.val (.sl ab) .own],pf k,[]⟩)::(xf k)
theorem MH:aH Tryz.prog (zX k):=aS (IQ k) Kz KA Tryz.func256
def Kg:aY:=fun|15=>some ⟨[(0,.box 4 aF (.pair (.pair .leaf (.pair .leaf (.pair .leaf (.pair .leaf (.pair .leaf (.sl (.sha [1,2,15]))))))) (.pair .leaf (.pair .leaf (.pair (.sl (.row 5 [1,2,5,15] false)) (.pair (.sl (.row 6 [1,2,6,15] false)) (.pair (.sl (.row 7 [1,2,7,15] false)) (.pair .leaf (.pair (.sl (.row 8 [1,2,8,15] false)) (.pair .leaf (.pair (.sl (.row 9 [1,2,9,15] false)) (.pair (.sl (.row 10 [1,2,10,15] false)) (.pair (.sl (.row 11 [1,2,11,15] false)) (.pair (.sl (.row 12 [12] true)) (.sl (.row 13 [1,2,13,15] false)))))))))))))))),(6,.box 14 aj (.pair .leaf (.pair .leaf (.sl (.row 15 [15] true)))))],16⟩|_=>none
def zS:aI:=(140,⟨[.io aF jc,.val aw .leaf],[.val .bool .leaf],lO k,[]⟩)::(zX k)
theorem KW:aH Tryz.prog (zS k):=aS (MH k) nA Kg Tryz.func140
def zd:aI:=(223,⟨[.io aF jc,.val aw .leaf],[.val .bool .leaf],lW k,[(0,(eG 14 12))]⟩)::(zS k)
theorem KP:aH Tryz.prog (zd k):=aS (KW k) nA nA Tryz.func223
def Oy:aY:=fun|2=>some ⟨[(0,.val (.sl .str) bd),(1,.val .str .leaf),(5,.val aw .leaf)],4⟩|_=>none
def CG:aI:=(377,⟨[.val (.sl .str) .shr,.val .str .leaf],[.val .bool .leaf],rq k,[]⟩)::(zd k)
theorem QK:aH Tryz.prog (CG k):=aS (KP k) Oy nA Tryz.func377
def JM:aY:=fun|3=>some ⟨[(0,.val (.sl ai) bd),(1,.val (.sl .str) bd),(5,.val (.sl ai) Td),(6,.val aw .leaf)],5⟩|_=>none
def Ag:aI:=(358,⟨[.val (.sl ai) .shr,.val (.sl .str) .shr],[.val (.sl ai) .own],sN k,[]⟩)::(CG k)
theorem Mm:aH Tryz.prog (Ag k):=aS (QK k) JM nA Tryz.func358
def D5:aI:=(311,⟨[.val ab mj,.val (.sl .str) .shr],[.val (.sl ai) .own],jV k,[]⟩)::(Ag k)
theorem Po:aH Tryz.prog (D5 k):=aS (Mm k) nA nA Tryz.func311
end
def Kh:aY:=fun|2=>some ⟨[(0,.val (.sl ak) bd),(1,.val (.sl ai) bd),(5,.val aw .leaf)],4⟩|_=>none
section
variable(k:Nat)
def yT:aI:=(310,⟨[.val (.sl ak) .shr,.val (.sl ai) .shr],[.val aw .leaf],gu k,[]⟩)::(D5 k)
theorem Ms:aH Tryz.prog (yT k):=aS (Po k) Kh nA Tryz.func310
def KN:aY:=fun|4=>some ⟨[(2,.box 4 ak K2),(3,.box 5 ab yl),(4,.box 6 ak LW),(5,.box 7 ak Ln),(6,.box 10 ab UT),(7,.val aw .leaf)],12⟩|10=>some ⟨[(2,.box 4 ak K2),(3,.box 5 ab yl),(4,.box 6 ak LW),(5,.box 7 ak Ln),(6,.box 10 ab UT),(8,.val aw .leaf)],12⟩|_=>none
def LO:aY:=fun|9=>some ⟨[(2,.box 4 ak K2),(3,.box 5 ab yl),(4,.box 6 ak LW),(5,.box 7 ak Ln),(6,.box 10 ab UT)],12⟩|12=>some ⟨[(2,.box 4 ak K2),(3,.box 5 ab yl),(4,.box 6 ak LW),(5,.box 7 ak Ln),(6,.box 10 ab UT),(8,.val aw .leaf)],12⟩|_=>none
def Ct:aI:=(359,⟨[.val ak Dz,.val ab mj],[.val ak (.pair .leaf q50)],qf k,[]⟩)::(yT k)
theorem Ov:aH Tryz.prog (Ct k):=aS (Ms k) KN LO Tryz.func359
def yu:aI:=(312,⟨[.val (.sl ak) .shr,.val ab mj,.val (.sl .str) .shr,.val aw .leaf,.val aw .leaf],[.val (.sl ak) .own,.val .bool .leaf],oS k,[]⟩)::(Ct k)
theorem Lq:aH Tryz.prog (yu k):=aS (Ov k) nA nA Tryz.func312
def JF:aY:=fun|2=>some ⟨[(0,.val (.sl ak) bd),(1,.val aw .leaf),(5,.val aw .leaf)],4⟩|_=>none
def zw:aI:=(360,⟨[.val (.sl ak) .shr,.val aw .leaf],[.val aw .leaf],jC k,[]⟩)::(yu k)
theorem Lh:aH Tryz.prog (zw k):=aS (Lq k) JF nA Tryz.func360
def yA:aI:=(297,⟨[.val ak Dz,.val aw .leaf,.val aw .leaf],[.val aw .leaf],sJ k,[]⟩)::(zw k)
theorem MN:aH Tryz.prog (yA k):=aS (Lh k) nA nA Tryz.func297
def HO:aI:=(190,⟨[.val eK vG,.val ak Dz],[.val aw .leaf],ve k,[]⟩)::(yA k)
theorem Th:aH Tryz.prog (HO k):=aS (MN k) nA nA Tryz.func190
def BX:aI:=(296,⟨[.val aD yg,.val aD yg],[.val .bool .leaf],kq k,[]⟩)::(HO k)
theorem Ow:aH Tryz.prog (BX k):=aS (Th k) nA nA Tryz.func296
def IY:aY:=fun|3=>some ⟨[(3,.box 4 aD CL),(5,.val (.sl aD) Mg),(6,.val aw .leaf)],6⟩|_=>none
def zn:aI:=(348,⟨[.val (.sl aD) .shr,.val aD yg],[.val (.sl aD) .own],oQ k,[]⟩)::(BX k)
theorem Le:aH Tryz.prog (zn k):=aS (Ow k) IY nA Tryz.func348
def Cf:aI:=(313,⟨[.io aF jc,.val aw .leaf],[],ng k,[(0,(eG 14 12))]⟩)::(zn k)
theorem OK:aH Tryz.prog (Cf k):=aS (Le k) nA nA Tryz.func313
def zQ:aI:=(224,⟨[.io aF jc],[],oY k,[]⟩)::(Cf k)
theorem LM:aH Tryz.prog (zQ k):=aS (OK k) nA nA Tryz.func224
def CB:aY:=fun|11=>some ⟨[(0,.box 4 aF MB),(3,.val .bool .leaf)],14⟩|_=>none
def tW:aI:=(118,⟨[.io aF jc],[.val .bool .leaf],kD k,[]⟩)::(zQ k)
theorem Db:aH Tryz.prog (tW k):=aS (LM k) nA CB Tryz.func118
def Gc:aY:=fun|8=>some ⟨[(0,.val (.sl aD) bd),(3,.box 4 aD CL),(5,.val aw .leaf),(6,.val (.sl aD) Mg),(7,.val aw .leaf)],6⟩|_=>none
def GH:aY:=fun|7=>some ⟨[(0,.val (.sl aD) bd),(3,.box 4 aD CL),(5,.val aw .leaf),(6,.val (.sl aD) Mg)],6⟩|12=>some ⟨[(0,.val (.sl aD) bd),(3,.box 4 aD CL),(5,.val aw .leaf),(6,.val (.sl aD) Mg),(7,.val aw .leaf),(8,.val aw .leaf)],6⟩|17=>some ⟨[(0,.val (.sl aD) bd),(3,.box 4 aD CL),(6,.val (.sl aD) Mg)],6⟩|_=>none
def wY:aI:=(382,⟨[.val (.sl aD) .shr],[.val (.sl aD) .own,.val aD yg,.val .bool .leaf],nJ k,[]⟩)::(tW k)
theorem JG:aH Tryz.prog (wY k):=aS (Db k) Gc GH Tryz.func382
def NX:aY:=fun|5=>some ⟨[(1,.val aw .leaf),(2,.box 4 ak K2),(4,.box 5 ak LW),(5,.box 6 eP (.pair .leaf abh)),(6,.box 7 ak Ln),(7,.val aw .leaf)],10⟩|_=>none
def NZ:aY:=fun|10=>some ⟨[(1,.val aw .leaf),(2,.box 4 ak K2),(4,.box 5 ak LW),(5,.box 6 eP (.pair .leaf abh)),(6,.box 7 ak Ln)],10⟩|_=>none
def Dq:aI:=(393,⟨[.val ak Dz,.val aw .leaf],[.val ak (.pair .leaf q50),.val eP q52],sn k,[]⟩)::(wY k)
theorem Qt:aH Tryz.prog (Dq k):=aS (JG k) NX NZ Tryz.func393
def yP:aI:=(390,⟨[.val (.sl ak) .shr,.val aw .leaf,.val aw .leaf],[.val (.sl ak) .own,.val eP q52,.val .bool .leaf],pk k,[]⟩)::(Dq k)
theorem KO:aH Tryz.prog (yP k):=Y2 (Qt k) nA nA Tryz.func390
def xy:aI:=(383,⟨[.io aF jc],[],nV k,[]⟩)::(yP k)
theorem Ik:aH Tryz.prog (xy k):=aS (KO k) nA nA Tryz.func383
def An:aY:=fun|11=>some ⟨[(0,.box 4 aF MB),(3,.val .bool .leaf)],14⟩|_=>none
def sC:aI:=(366,⟨[.io aF jc],[.val .bool .leaf],j0 k,[]⟩)::(xy k)
theorem Cv:aH Tryz.prog (sC k):=aS (Ik k) nA An Tryz.func366
def Og:aY:=fun|9=>some ⟨[(0,.box 4 aF Ui),(1,.val aw .leaf)],14⟩|_=>none
def Ds:aI:=(321,⟨[.io aF jc,.val aw .leaf],[.val .bool .leaf],oC k,[]⟩)::(sC k)
theorem QZ:aH Tryz.prog (Ds k):=aS (Cv k) nA Og Tryz.func321
def Fs:aI:=(322,⟨[.val bp UB],[.val bp (.pair .own .leaf),.val ab zc,.val aw .leaf],nD k,[]⟩)::(Ds k)
theorem Ru:aH Tryz.prog (Fs k):=aS (QZ k) nA nA Tryz.func322
def O3:aY:=fun|18=>some ⟨[(0,.box 4 aF Ui),(3,.box 14 jW aa2),(5,.val .bool .leaf),(6,.val aw .leaf)],15⟩|40=>some ⟨[(0,.box 4 aF MB),(3,.box 14 jW aa2)],15⟩|_=>none
def D9:aI:=(253,⟨[.io aF jc,.val jW (.pair .leaf (.pair .leaf (.pair mj .shr)))],[.val .bool .leaf],rV k,[]⟩)::(Fs k)
theorem Pz:aH Tryz.prog (D9 k):=Y2 (Ru k) nA O3 Tryz.func253
def KX:aY:=fun|5=>some ⟨[(0,.box 4 dy Hd),(4,.box 5 aF wA),(6,.box 6 aF wA),(7,.val (.sl jW) (.sl (.row 7 [2] false))),(8,.box 8 aF aaR),(9,.box 19 aF aaw),(10,.val aw .leaf)],29⟩|_=>none
def My:aY:=fun|12=>some ⟨[(0,.box 4 dy Hd),(4,.box 5 aF wA),(6,.box 6 aF wA),(7,.val (.sl jW) (.sl (.row 7 [2] false))),(8,.box 8 aF aaR),(9,.box 19 aF aaw)],29⟩|_=>none
def BP:aI:=(150,⟨[.io dy j9,.val aw .leaf],[.val aF XO,.val (.sl jW) .hd,.val aF jc],qv k,[]⟩)::(D9 k)
theorem Ol:aH Tryz.prog (BP k):=aS (Pz k) KX My Tryz.func150
def wQ:aI:=(75,⟨[.io dy j9,.val aw .leaf],[.val aF jc],nP k,[]⟩)::(BP k)
theorem JB:aH Tryz.prog (wQ k):=aS (Ol k) nA nA Tryz.func75
def vt:aI:=(13,⟨[.val (.sl (.int .u8)) .rom],[.val aF jc],mV k,[]⟩)::(wQ k)
theorem Hi:aH Tryz.prog (vt k):=aS (JB k) nA nA Tryz.func13
def NO:aI:=(77,⟨[.val aw .leaf,.val aw .leaf,.val aw .leaf],[.val .bool .leaf],bZ k,[]⟩)::(vt k)
theorem VK:aH Tryz.prog (NO k):=aS (Hi k) nA nA Tryz.func77
def MP:aY:=fun|4=>some ⟨[(0,.val .str .leaf),(3,.val aw .leaf)],4⟩|_=>none
def BG:aI:=(195,⟨[.val .str .leaf],[.val .bool .leaf],nh k,[]⟩)::(NO k)
theorem Oo:aH Tryz.prog (BG k):=aS (VK k) MP nA Tryz.func195
def JA:aY:=fun|2=>some ⟨[(0,.val (.sl .str) bd),(3,.val aw .leaf)],4⟩|_=>none
def yV:aI:=(196,⟨[.val (.sl .str) .shr],[.val .bool .leaf],pJ k,[]⟩)::(BG k)
theorem Mn:aH Tryz.prog (yV k):=aS (Oo k) JA nA Tryz.func196
end
def QH:aY:=fun|2=>some ⟨[(0,.val (.sl .str) bd),(5,.val (.sl .str) bd),(6,.val aw .leaf),(7,.val aw .leaf)],4⟩|_=>none
def QI:aY:=fun|7=>some ⟨[(0,.val (.sl .str) bd)],4⟩|_=>none
section
variable(k:Nat)
def Fp:aI:=(108,⟨[.val (.sl .str) .shr],[.val .bool .leaf],tG k,[]⟩)::(yV k)
theorem R9:aH Tryz.prog (Fp k):=aS (Mn k) QH QI Tryz.func108
def B9:aI:=(28,⟨[.val eK vG],[.val .bool .leaf],qc k,[]⟩)::(Fp k)
theorem Oa:aH Tryz.prog (B9 k):=aS (R9 k) nA nA Tryz.func28
def I4:aY:=fun|4=>some ⟨[(0,.val .str .leaf),(3,.val aw .leaf)],4⟩|_=>none
def yr:aI:=(219,⟨[.val .str .leaf],[.val .bool .leaf],lY k,[]⟩)::(B9 k)
theorem Mh:aH Tryz.prog (yr k):=aS (Oa k) I4 nA Tryz.func219
def yC:aI:=(306,⟨[.val ai yg],[.val .bool .leaf],pw k,[]⟩)::(yr k)
theorem LR:aH Tryz.prog (yC k):=aS (Mh k) nA nA Tryz.func306
def NQ:aY:=fun|2=>some ⟨[(0,.val (.sl ai) bd),(5,.val (.sl ai) bd),(6,.val aw .leaf),(7,.val aw .leaf)],4⟩|_=>none
def DV:aI:=(218,⟨[.val (.sl ai) .shr],[.val .bool .leaf],jQ k,[]⟩)::(yC k)
theorem QA:aH Tryz.prog (DV k):=aS (LR k) NQ nA Tryz.func218
def yM:aI:=(116,⟨[.val ab mj],[.val .bool .leaf],fH k,[]⟩)::(DV k)
theorem K8:aH Tryz.prog (yM k):=aS (QA k) nA nA Tryz.func116
def Iy:aY:=fun|5=>some ⟨[(3,.val (.sl .str) Td),(9,.val (.sl ai) bd),(10,.val aw .leaf),(11,.val aw .leaf)],5⟩|_=>none
def Kj:aY:=fun|9=>some ⟨[(3,.val (.sl .str) Td)],5⟩|_=>none
def Af:aI:=(237,⟨[.val (.sl ai) .shr],[.val .str .leaf],pr k,[]⟩)::(yM k)
theorem Lj:aH Tryz.prog (Af k):=aS (K8 k) Iy Kj Tryz.func237
def Rw:aY:=fun|3=>some ⟨[(0,.val .str .leaf),(3,.val (.int .u32) .leaf),(4,.val aw .leaf)],4⟩|_=>none
def Rv:aY:=fun|6=>some ⟨[(3,.val (.int .u32) .leaf)],4⟩|_=>none
def Iv:aI:=(236,⟨[.val .str .leaf],[.val aw .leaf],rN k,[]⟩)::(Af k)
theorem Us:aH Tryz.prog (Iv k):=aS (Lj k) Rw Rv Tryz.func236
def Cb:aI:=(126,⟨[.val (.sl ai) .shr],[.val aw .leaf],gg k,[]⟩)::(Iv k)
theorem Ob:aH Tryz.prog (Cb k):=aS (Us k) nA nA Tryz.func126
def HK:aY:=fun|4=>some ⟨[(0,.val (.sl ai) bd),(1,.val (.sl ai) bd),(12,.val aw .leaf),(13,.val aw .leaf)],4⟩|_=>none
def yx:aI:=(72,⟨[.val (.sl ai) .shr,.val (.sl ai) .shr],[.val .bool .leaf],dL k,[]⟩)::(Cb k)
theorem KL:aH Tryz.prog (yx k):=aS (Ob k) HK nA Tryz.func72
def Hg:aY:=fun|2=>some ⟨[(1,.val (.sl ai) bd),(7,.val (.sl ab) bd),(8,.val aw .leaf),(9,.val aw .leaf)],4⟩|_=>none
def wV:aI:=(120,⟨[.val (.sl ab) .shr,.val (.sl ai) .shr],[.val aw .leaf],kH k,[]⟩)::(yx k)
theorem Jd:aH Tryz.prog (wV k):=aS (KL k) Hg nA Tryz.func120
def CC:aY:=fun|2=>some ⟨[(0,.val (.sl ab) bd),(5,.val (.sl ab) bd),(6,.val aw .leaf),(7,.val aw .leaf)],4⟩|_=>none
def tY:aI:=(368,⟨[.val (.sl ab) .shr],[.val .bool .leaf],kG k,[]⟩)::(wV k)
theorem DN:aH Tryz.prog (tY k):=aS (Jd k) CC nA Tryz.func368
def Jt:aY:=fun|2=>some ⟨[(1,.box 4 az Qa),(6,.val (.sl ab) bd),(7,.val aw .leaf),(8,.val aw .leaf)],5⟩|_=>none
def IJ:aY:=fun|7=>some ⟨[(1,.box 4 az Qa)],5⟩|_=>none
def yS:aI:=(338,⟨[.val az D0],[.val .bool .leaf],pD k,[]⟩)::(tY k)
theorem MM:aH Tryz.prog (yS k):=aS (DN k) Jt IJ Tryz.func338
def Co:aI:=(125,⟨[.val aw .leaf,.val aw .leaf],[.val aw .leaf],iX k,[]⟩)::(yS k)
theorem OO:aH Tryz.prog (Co k):=aS (MM k) nA nA Tryz.func125
def LJ:aY:=fun|2=>some ⟨[(1,.val aw .leaf),(2,.val aw .leaf),(3,.box 4 aj h6),(10,.val (.sl az) bd),(11,.val aw .leaf),(12,.val aw .leaf)],5⟩|_=>none
def LZ:aY:=fun|7=>some ⟨[(3,.box 4 aj h6)],5⟩|_=>none
def B6:aI:=(263,⟨[.val aj yj,.val aw .leaf,.val aw .leaf],[.val .bool .leaf],qg k,[]⟩)::(Co k)
theorem O2:aH Tryz.prog (B6 k):=aS (OO k) LJ LZ Tryz.func263
def JY:aY:=fun|4=>some ⟨[(0,.val (.sl aj) bd),(9,.val (.sl aj) bd),(10,.val aw .leaf),(11,.val aw .leaf)],4⟩|_=>none
def yL:aI:=(151,⟨[.val (.sl aj) .shr],[.val .bool .leaf],oO k,[]⟩)::(B6 k)
theorem Mj:aH Tryz.prog (yL k):=aS (O2 k) JY nA Tryz.func151
def Jg:aY:=fun|3=>some ⟨[(3,.val aw .leaf),(8,.val (.sl aj) bd),(9,.val aw .leaf),(10,.val aw .leaf)],4⟩|6=>some ⟨[(3,.val aw .leaf),(5,.box 4 aj UW),(8,.val (.sl aj) bd),(9,.val aw .leaf),(10,.val aw .leaf),(15,.val (.sl az) (.sl (.sha [1,2]))),(16,.val aw .leaf),(17,.val aw .leaf)],5⟩|_=>none
def zJ:aI:=(48,⟨[.val (.sl aj) .shr],[.val aw .leaf],l0 k,[]⟩)::(yL k)
theorem KK:aH Tryz.prog (zJ k):=aS (Mj k) Jg nA Tryz.func48
def zM:aI:=(244,⟨[.val (.sl ai) .shr],[.val (.sl ai) .own],py k,[]⟩)::(zJ k)
theorem K6:aH Tryz.prog (zM k):=aS (KK k) nA nA Tryz.func244
def wj:aI:=(144,⟨[.val ab mj],[.val ab zc],iz k,[]⟩)::(zM k)
theorem F0:aH Tryz.prog (wj k):=aS (K6 k) nA nA Tryz.func144
def Dt:aY:=fun|3=>some ⟨[(3,.val (.sl ab) vJ),(6,.val (.sl ab) bd),(7,.val aw .leaf),(8,.val aw .leaf)],5⟩|_=>none
def uK:aI:=(147,⟨[.val (.sl ab) .shr],[.val (.sl ab) .own],pN k,[]⟩)::(wj k)
theorem E4:aH Tryz.prog (uK k):=aS (F0 k) Dt nA Tryz.func147
def Hr:aY:=fun|3=>some ⟨[(1,.box 4 aj h6),(3,.val (.sl ab) Ue),(7,.val (.sl az) bd),(8,.val aw .leaf),(9,.val aw .leaf)],6⟩|_=>none
def xB:aI:=(70,⟨[.val aj yj],[.val (.sl ab) .own],kK k,[]⟩)::(uK k)
theorem Iu:aH Tryz.prog (xB k):=aS (E4 k) Hr nA Tryz.func70
def EN:aY:=fun|3=>some ⟨[(3,.val (.sl ab) vJ),(6,.val (.sl aj) bd),(7,.val aw .leaf),(8,.val aw .leaf)],5⟩|_=>none
def E7:aY:=fun|7=>some ⟨[(3,.val (.sl ab) vJ)],5⟩|_=>none
def vN:aI:=(51,⟨[.val (.sl aj) .shr],[.val (.sl ab) .own],mG k,[]⟩)::(xB k)
theorem Hp:aH Tryz.prog (vN k):=aS (Iu k) EN E7 Tryz.func51
def FG:aI:=(36,⟨[.val eK vG,.val ab mj],[.val .bool .leaf],pX k,[]⟩)::(vN k)
theorem Rp:aH Tryz.prog (FG k):=aS (Hp k) nA nA Tryz.func36
def C9:aY:=fun|4=>some ⟨[(1,.box 4 aF iY),(29,.val (.sl ab) Ue),(30,.val aw .leaf),(31,.val aw .leaf)],6⟩|_=>none
def uL:aI:=(78,⟨[.val aF yc],[.val .bool .leaf],lh k,[]⟩)::(FG k)
theorem EJ:aH Tryz.prog (uL k):=aS (Rp k) C9 nA Tryz.func78
def GW:aY:=fun|2=>some ⟨[(5,.val (.sl ab) bd),(6,.val aw .leaf),(7,.val aw .leaf)],4⟩|_=>none
def xJ:aI:=(80,⟨[.val (.sl ab) .shr],[.val .bool .leaf],gO k,[]⟩)::(uL k)
theorem I1:aH Tryz.prog (xJ k):=aS (EJ k) GW nA Tryz.func80
def CH:aI:=(152,⟨[.val bp UB],[.val .bool .leaf],so k,[]⟩)::(xJ k)
theorem PM:aH Tryz.prog (CH k):=aS (I1 k) nA nA Tryz.func152
def EW:aY:=fun|2=>some ⟨[(0,.val (.sl bp) bd),(3,.box 4 eK Bj),(7,.val (.sl bp) bd),(8,.val aw .leaf),(9,.val aw .leaf)],5⟩|_=>none
def EZ:aY:=fun|7=>some ⟨[(0,.val (.sl bp) bd),(3,.box 4 eK Bj)],5⟩|_=>none
def wb:aI:=(79,⟨[.val (.sl bp) .shr,.val eK vG],[.val .bool .leaf],mC k,[]⟩)::(CH k)
theorem GB:aH Tryz.prog (wb k):=aS (PM k) EW EZ Tryz.func79
def xk:aI:=(264,⟨[.val aw .leaf,.val aw .leaf],[.val .bool .leaf],nQ k,[]⟩)::(wb k)
theorem HL:aH Tryz.prog (xk k):=aS (GB k) nA nA Tryz.func264
def Cl:aI:=(153,⟨[.val ay TC],[.val .bool .leaf],qi k,[]⟩)::(xk k)
theorem O4:aH Tryz.prog (Cl k):=aS (HL k) nA nA Tryz.func153
def vC:aI:=(34,⟨[.val ab mj,.val ab mj],[.val .bool .leaf],dY k,[]⟩)::(Cl k)
theorem F4:aH Tryz.prog (vC k):=aS (O4 k) nA nA Tryz.func34
def Hl:aY:=fun|4=>some ⟨[(0,.val (.sl aw) bd),(1,.val (.sl aw) bd),(12,.val aw .leaf),(13,.val aw .leaf)],4⟩|_=>none
def xE:aI:=(339,⟨[.val (.sl aw) .shr,.val (.sl aw) .shr],[.val .bool .leaf],kB k,[]⟩)::(vC k)
theorem Ki:aH Tryz.prog (xE k):=aS (F4 k) Hl nA Tryz.func339
def Dw:aY:=fun|4=>some ⟨[(0,.val (.sl ab) bd),(1,.val (.sl ab) bd),(12,.val aw .leaf),(13,.val aw .leaf)],4⟩|_=>none
def uH:aI:=(225,⟨[.val (.sl ab) .shr,.val (.sl ab) .shr],[.val .bool .leaf],ji k,[]⟩)::(xE k)
theorem ES:aH Tryz.prog (uH k):=aS (Ki k) Dw nA Tryz.func225
def xn:aI:=(265,⟨[.val al ur,.val al ur],[.val .bool .leaf],kP k,[]⟩)::(uH k)
theorem Hx:aH Tryz.prog (xn k):=aS (ES k) nA nA Tryz.func265
def Lc:aY:=fun|2=>some ⟨[(1,.box 4 al KY),(6,.val (.sl aw) bd),(7,.val aw .leaf),(8,.val aw .leaf)],5⟩|_=>none
def LH:aY:=fun|7=>some ⟨[(1,.box 4 al KY)],5⟩|_=>none
def Ck:aI:=(266,⟨[.val al ur],[.val .bool .leaf],qm k,[]⟩)::(xn k)
theorem OX:aH Tryz.prog (Ck k):=aS (Hx k) Lc LH Tryz.func266
def Mw:aY:=fun|25=>some ⟨[(2,.box 4 al KY),(5,.box 5 al KY),(6,.val .bool .leaf),(7,.val aw .leaf)],6⟩|_=>none
def BO:aI:=(154,⟨[.val al ur,.val aw .leaf],[.val .bool .leaf],qk k,[]⟩)::(Ck k)
theorem OA:aH Tryz.prog (BO k):=aS (OX k) nA Mw Tryz.func154
def BD:aI:=(47,⟨[.val (.sl aj) .shr,.val (.sl ai) .shr],[.val aw .leaf],qp k,[]⟩)::(BO k)
theorem N1:aH Tryz.prog (BD k):=aS (OA k) nA nA Tryz.func47
def IZ:aY:=fun|2=>some ⟨[(1,.val aw .leaf),(2,.box 4 aj h6),(8,.val (.sl az) bd),(9,.val aw .leaf),(10,.val aw .leaf)],5⟩|_=>none
def zg:aI:=(234,⟨[.val aj yj,.val aw .leaf],[.val aw .leaf],oW k,[]⟩)::(BD k)
theorem LP:aH Tryz.prog (zg k):=aS (N1 k) IZ nA Tryz.func234
def zu:aI:=(235,⟨[.val az D0,.val (.sl ai) .shr],[.val aw .leaf],oZ k,[]⟩)::(zg k)
theorem Mk:aH Tryz.prog (zu k):=aS (LP k) nA nA Tryz.func235
def Bz:aI:=(124,⟨[.val aj yj,.val (.sl ai) .shr],[.val ab zc,.val .bool .leaf],ql k,[]⟩)::(zu k)
theorem NT:aH Tryz.prog (Bz k):=aS (Mk k) nA nA Tryz.func124
def vH:aI:=(46,⟨[.val (.sl aj) .shr,.val (.sl ai) .shr],[.val ab zc,.val .bool .leaf],mM k,[]⟩)::(Bz k)
theorem F3:aH Tryz.prog (vH k):=aS (NT k) nA nA Tryz.func46
def EK:aY:=fun|6=>some ⟨[(2,.box 4 aF iY),(3,.box 5 al KY),(5,.val .bool .leaf),(6,.val (.sl ab) (.sl (.row 6 [6] true))),(35,.val (.sl aw) bd),(36,.val aw .leaf),(37,.val aw .leaf)],7⟩|_=>none
def E9:aY:=fun|13=>some ⟨[(2,.box 4 aF iY),(3,.box 5 al KY),(5,.val .bool .leaf),(6,.val (.sl ab) (.sl (.row 6 [6] true)))],7⟩|_=>none
def vr:aI:=(267,⟨[.val aF yc,.val al ur],[.val .bool .leaf],mE k,[]⟩)::(vH k)
theorem GV:aH Tryz.prog (vr k):=aS (F3 k) EK E9 Tryz.func267
def wL:aI:=(155,⟨[.val aF yc,.val al ur,.val ay TC],[.val .bool .leaf],nU k,[]⟩)::(vr k)
theorem JU:aH Tryz.prog (wL k):=aS (GV k) nA nA Tryz.func155
def Di:aY:=fun|2=>some ⟨[(1,.box 4 aF iY),(9,.val (.sl ay) bd),(10,.val aw .leaf),(11,.val aw .leaf)],5⟩|8=>some ⟨[(1,.box 4 aF iY),(41,.val (.sl al) bd),(42,.val aw .leaf),(43,.val aw .leaf)],5⟩|_=>none
def Dx:aY:=fun|7=>some ⟨[(1,.box 4 aF iY)],5⟩|_=>none
def uG:aI:=(81,⟨[.val aF yc],[.val .bool .leaf],lu k,[]⟩)::(wL k)
theorem E5:aH Tryz.prog (uG k):=aS (JU k) Di Dx Tryz.func81
def Cs:aI:=(161,⟨[.val al ur,.val aw .leaf,.val .bool .leaf],[.val aw .leaf],uv k,[]⟩)::(uG k)
theorem OU:aH Tryz.prog (Cs k):=aS (E5 k) nA nA Tryz.func161
def wz:aI:=(156,⟨[.val al ur,.val aw .leaf],[.val aw .leaf],mL k,[]⟩)::(Cs k)
theorem Hq:aH Tryz.prog (wz k):=aS (OU k) nA nA Tryz.func156
def tO:aI:=(157,⟨[.val al ur],[.val .bool .leaf],kM k,[]⟩)::(wz k)
theorem Df:aH Tryz.prog (tO k):=aS (Hq k) nA nA Tryz.func157
def DP:aY:=fun|2=>some ⟨[(1,.box 4 aF iY),(10,.val (.sl aj) bd),(11,.val aw .leaf),(12,.val aw .leaf)],5⟩|5=>some ⟨[(1,.box 4 aF iY),(3,.val aw .leaf),(4,.box 5 aj UW),(10,.val (.sl aj) bd),(11,.val aw .leaf),(12,.val aw .leaf),(18,.val (.sl al) bd),(19,.val aw .leaf),(20,.val aw .leaf)],6⟩|12=>some ⟨[(1,.box 4 aF iY),(40,.val (.sl al) bd),(41,.val aw .leaf),(42,.val aw .leaf)],5⟩|_=>none
def CP:aY:=fun|11=>some ⟨[(1,.box 4 aF iY)],5⟩|17=>some ⟨[(1,.box 4 aF iY)],5⟩|_=>none
def uD:aI:=(82,⟨[.val aF yc],[.val .bool .leaf],lv k,[]⟩)::(tO k)
theorem ER:aH Tryz.prog (uD k):=aS (Df k) DP CP Tryz.func82
def Kx:aY:=fun|2=>some ⟨[(1,.val .str .leaf),(7,.val (.sl .str) bd),(8,.val aw .leaf),(9,.val aw .leaf)],4⟩|_=>none
def zN:aI:=(375,⟨[.val (.sl .str) .shr,.val .str .leaf],[.val .bool .leaf],oV k,[]⟩)::(uD k)
theorem L2:aH Tryz.prog (zN k):=aS (ER k) Kx nA Tryz.func375
def H9:aY:=fun|3=>some ⟨[(1,.val (.sl .str) bd),(5,.val (.sl ai) Td),(8,.val (.sl ai) bd),(9,.val aw .leaf),(10,.val aw .leaf)],5⟩|_=>none
def zp:aI:=(356,⟨[.val (.sl ai) .shr,.val (.sl .str) .shr],[.val (.sl ai) .own],sK k,[]⟩)::(zN k)
theorem LL:aH Tryz.prog (zp k):=aS (L2 k) H9 nA Tryz.func356
def D7:aI:=(307,⟨[.val ab mj,.val (.sl .str) .shr],[.val (.sl ai) .own],rW k,[]⟩)::(zp k)
theorem Ph:aH Tryz.prog (D7 k):=aS (LL k) nA nA Tryz.func307
end
def H7:aY:=fun|2=>some ⟨[(0,.val (.sl ai) bd),(1,.val (.sl ai) bd),(5,.val aw .leaf)],4⟩|_=>none
def Jq:aY:=fun|8=>some ⟨[(0,.val (.sl ai) bd),(1,.val (.sl ai) bd)],4⟩|_=>none
section
variable(k:Nat)
def zE:aI:=(240,⟨[.val (.sl ai) .shr,.val (.sl ai) .shr],[.val .bool .leaf],lP k,[]⟩)::(D7 k)
theorem KJ:aH Tryz.prog (zE k):=aS (Ph k) H7 Jq Tryz.func240
def IT:aY:=fun|2=>some ⟨[(0,.val (.sl ab) bd),(1,.val (.sl ai) bd),(2,.val (.sl .str) bd),(9,.val (.sl ab) bd),(10,.val aw .leaf),(11,.val aw .leaf)],4⟩|_=>none
def Ab:aI:=(340,⟨[.val (.sl ab) .shr,.val (.sl ai) .shr,.val (.sl .str) .shr],[.val .bool .leaf],pA k,[]⟩)::(zE k)
theorem KD:aH Tryz.prog (Ab k):=aS (KJ k) IT nA Tryz.func340
def y6:aI:=(268,⟨[.val ak Dz,.val (.sl .str) .shr],[.val .bool .leaf],pz k,[]⟩)::(Ab k)
theorem Lm:aH Tryz.prog (y6 k):=aS (KD k) nA nA Tryz.func268
def IS:aY:=fun|2=>some ⟨[(1,.val (.sl ai) bd),(7,.val (.sl ak) bd),(8,.val aw .leaf),(9,.val aw .leaf)],4⟩|_=>none
def yR:aI:=(269,⟨[.val (.sl ak) .shr,.val (.sl ai) .shr],[.val aw .leaf],pG k,[]⟩)::(y6 k)
theorem MA:aH Tryz.prog (yR k):=aS (Lm k) IS nA Tryz.func269
def He:aY:=fun|2=>some ⟨[(0,.val (.sl ak) bd),(1,.val (.sl .str) bd),(7,.val (.sl ak) bd),(8,.val aw .leaf),(9,.val aw .leaf)],4⟩|_=>none
def xN:aI:=(158,⟨[.val (.sl ak) .shr,.val (.sl .str) .shr],[.val .bool .leaf],nH k,[]⟩)::(yR k)
theorem Je:aH Tryz.prog (xN k):=aS (MA k) He nA Tryz.func158
def Cm:aI:=(270,⟨[.val aD yg,.val aD yg],[.val .bool .leaf],qj k,[]⟩)::(xN k)
theorem O1:aH Tryz.prog (Cm k):=aS (Je k) nA nA Tryz.func270
def KF:aY:=fun|2=>some ⟨[(0,.val (.sl aD) bd),(5,.val (.sl aD) bd),(6,.val aw .leaf),(7,.val aw .leaf)],4⟩|_=>none
def KE:aY:=fun|7=>some ⟨[(0,.val (.sl aD) bd)],4⟩|_=>none
def B8:aI:=(159,⟨[.val (.sl aD) .shr],[.val .bool .leaf],qn k,[]⟩)::(Cm k)
theorem Oh:aH Tryz.prog (B8 k):=aS (O1 k) KF KE Tryz.func159
def y8:aI:=(271,⟨[.val ak Dz,.val aw .leaf,.val aw .leaf],[.val aw .leaf],sU k,[]⟩)::(B8 k)
theorem Mp:aH Tryz.prog (y8 k):=aS (Oh k) nA nA Tryz.func271
def I2:aI:=(160,⟨[.val eK vG,.val ak Dz],[.val aw .leaf],vd k,[]⟩)::(y8 k)
theorem U4:aH Tryz.prog (I2 k):=aS (Mp k) nA nA Tryz.func160
def CA:aY:=fun|4=>some ⟨[(1,.box 4 aF iY),(26,.val (.sl ak) bd),(27,.val aw .leaf),(28,.val aw .leaf)],5⟩|10=>some ⟨[(1,.box 4 aF iY),(4,.box 5 ak aa6),(5,.val .bool .leaf),(26,.val (.sl ak) bd),(27,.val aw .leaf),(28,.val aw .leaf),(68,.val (.sl aD) bd),(69,.val aw .leaf),(70,.val aw .leaf)],6⟩|18=>some ⟨[(1,.box 4 aF iY),(96,.val (.sl aD) bd),(97,.val aw .leaf),(98,.val aw .leaf)],5⟩|23=>some ⟨[(1,.box 4 aF iY),(9,.box 5 aD CL),(96,.val (.sl aD) bd),(97,.val aw .leaf),(98,.val aw .leaf),(111,.val (.sl aD) bd),(112,.val aw .leaf),(113,.val aw .leaf)],6⟩|_=>none
def Cz:aY:=fun|14=>some ⟨[(1,.box 4 aF iY),(4,.box 5 ak aa6),(5,.val .bool .leaf),(26,.val (.sl ak) bd),(27,.val aw .leaf),(28,.val aw .leaf)],6⟩|17=>some ⟨[(1,.box 4 aF iY)],5⟩|_=>none
def ud:aI:=(83,⟨[.val aF yc],[.val .bool .leaf],kI k,[]⟩)::(I2 k)
theorem DU:aH Tryz.prog (ud k):=aS (U4 k) CA Cz Tryz.func83
def yE:aI:=(15,⟨[.val aF yc],[.val .bool .leaf],pn k,[]⟩)::(ud k)
theorem KI:aH Tryz.prog (yE k):=aS (DU k) nA nA Tryz.func15
def zH:aY:=fun|7=>some ⟨[(3,.box 4 aF Yf),(4,.val (.sl aw) U6),(5,.val aw .leaf),(6,.val aw .leaf)],15⟩|_=>none
def zC:aY:=fun|18=>some ⟨[(3,.box 4 aF Yf),(4,.val (.sl aw) U6),(5,.val aw .leaf),(6,.val aw .leaf)],15⟩|20=>some ⟨[(3,.box 4 aF Yf),(5,.val aw .leaf)],14⟩|_=>none
def Ah:aI:=(10,⟨[.val (.sl (.int .u8)) .rom],[.val .bool .leaf],gH k,[]⟩)::(yE k)
theorem AX:aH Tryz.prog (Ah k):=aS (KI k) zH zC Tryz.func10
end
end Vg.Tryz
namespace Vg.Tryz
open Go Vg
section
variable{k:Nat}(hk:9223372036854775808<=k)
include hk
theorem sO(x:bo):ag eK x=ag (.sl .str) x.2.2.2.2.2:=by
 obtain⟨x0,x1,x2,x3,x4,x5⟩:=x;simp only[ag]
 try omega
theorem ot(x:af):ag ai x=x.1.size+x.2.size:=by
 obtain⟨x0,x1⟩:=x;simp only[ag]
 try omega
theorem bI(x:ae):ag ab x=ag (.sl ai) x.1+x.2.2.2.size:=by
 obtain⟨x0,x1,x2,x3⟩:=x;simp only[ag]
 try omega
theorem eW(x:aZ):ag az x=ag (.sl ab) x.2:=by
 obtain⟨x0,x1⟩:=x;simp only[ag]
 try omega
theorem e9(x:aq):ag aj x=ag (.sl az) x.2.2:=by
 obtain⟨x0,x1,x2⟩:=x;simp only[ag]
 try omega
theorem sR(x:bU):ag bp x=ag (.sl ab) x.1:=by
 obtain⟨x0,x1⟩:=x;simp only[ag]
 try omega
theorem gV(x:au):ag ak x=ag (.sl ai) x.2.1+ag (.sl ab) x.2.2.2.2:=by
 obtain⟨x0,x1,x2,x3,x4⟩:=x;simp only[ag]
 try omega
theorem WO(x:aC):ag aD x=0:=by
 obtain⟨x0,x1⟩:=x;simp only[ag]
 try omega
theorem wW(x:bY):ag eP x=ag (.sl ai) x.2.1+ag (.sl ab) x.2.2.2:=by
 obtain⟨x0,x1,x2,x3⟩:=x;simp only[ag]
 try omega
theorem fO(x:aE):ag al x=ag ab x.2.2.1+ag (.sl ai) x.2.2.2.1+ag (.sl (.int .i64)) x.2.2.2.2.2.1+ag (.sl ab) x.2.2.2.2.2.2.1:=by
 obtain⟨x0,x1,x2,x3,x4,x5,x6,x7,x8⟩:=x;simp only[ag]
 try omega
theorem ek(x:ax):ag ay x=ag ab x.2.2.1+ag (.sl ai) x.2.2.2.1+ag (.sl ab) x.2.2.2.2.2.2.2.1:=by
 obtain⟨x0,x1,x2,x3,x4,x5,x6,x7,x8,x9,x10,x11⟩:=x;simp only[ag]
 try omega
theorem kR(x:ah):ag aF x=ag eK x.1+ag (.sl aj) x.2.2.2.1+ag (.sl bp) x.2.2.2.2.1+ag (.sl ab) x.2.2.2.2.2.1+ag (.sl ak) x.2.2.2.2.2.2.2.1+ag (.sl aD) x.2.2.2.2.2.2.2.2.2.1+ag (.sl eP) x.2.2.2.2.2.2.2.2.2.2.1+ag (.sl ab) x.2.2.2.2.2.2.2.2.2.2.2.1+ag (.sl al) x.2.2.2.2.2.2.2.2.2.2.2.2.1+ag (.sl ay) x.2.2.2.2.2.2.2.2.2.2.2.2.2:=by
 obtain⟨x0,x1,x2,x3,x4,x5,x6,x7,x8,x9,x10,x11,x12,x13⟩:=x;simp only[ag]
 try omega
end
def Gz(s:ByteArray)(i:Nat):Bool:=decide (97<=bt s i)&&decide (bt s i<=122)
def gq(s:ByteArray):Bool:=decide (1<=s.size/\s.size<=8)&&bL 0 s.size (Gz s)
def wB(s:ByteArray)(i:Nat):Bool:=decide (32<=bt s i/\bt s i<=126/\bt s i≠34/\bt s i≠92)
def kj(s:ByteArray):Bool:=decide (s.size<=12)&&bL 0 s.size (wB s)
def fU(x:af):Bool:=gq x.1&&kj x.2
def DC(l:List af)(i:Nat):Bool:=i==0||lr (l.getD (i-1) ai.aa).1 (l.getD i ai.aa).1
def eo(l:List af):Bool:=decide (l.length<=4)&&bL 0 l.length (fun i=>fU (l.getD i ai.aa)&&DC l i)
section
variable{k:Nat}(hk:9223372036854775808<=k)
include hk
theorem zF{s:ByteArray}(hs:s.size<=1048576):mZ k (s,())=some (gq s,()):=by
 simp only[mZ,aR];rw[show((s,(0:Int),()):ByteArray×Int×Unit)=(fun i:Nat=>(s,(i:Int),())) 0 from rfl];rw[dZ (fun i:Nat=>(s,(i:Int),())) (Gz s) s.size (e:=some (decide (1<=s.size/\s.size<=8),())) (no:=some (false,())) ?_ ?_ k 0 (by omega)];unfold gq;cases bL 0 s.size (Gz s)<;>simp;intro G i a;simp only;rw[aJ,c_ a,an rfl,an (aG a),aG a,P_,an rfl,br (by omega)];unfold Gz;by_cases b:bt s i<97<;>by_cases c:bt s i>122<;>simp[b,c]<;>omega;intro G i a;simp only;rw[aJ,decide_eq_false (by omega),a_ (by simp)];simp only[cX,hJ];congr 2;rw[aij];simp;omega
theorem yB{s:ByteArray}(hs:s.size<=1048576):nh k (s,())=some (gq s,()):=by
 simp only[nh,bZ,hJ];by_cases b:1<=s.size/\s.size<=8;rw[a_ (by simp;omega)];rw[show((s,(0:Int),()):ByteArray×Int×Unit)=(fun i:Nat=>(s,(i:Int),())) 0 from rfl];rw[dZ (fun i:Nat=>(s,(i:Int),())) (Gz s) s.size (e:=some (true,())) (no:=some (false,())) ?_ ?_ k 0 (by omega)];unfold gq;cases bL 0 s.size (Gz s)<;>simp[b];intro G i a;simp only;rw[aJ,c_ a,an rfl,an (aG a),aG a,P_,an rfl,br (by omega)];unfold Gz;by_cases c:bt s i<97<;>by_cases d:bt s i>122<;>simp[c,d]<;>omega;intro G i a;simp only;rw[aJ,decide_eq_false (by omega),a_ (by simp)];rw[an (by simp;omega)];unfold gq;simp[b]
theorem wF{s:ByteArray}(hs:s.size<=1048576):mc k (s,())=some (kj s,()):=by
 simp only[mc,aR];rw[show((s,(0:Int),()):ByteArray×Int×Unit)=(fun i:Nat=>(s,(i:Int),())) 0 from rfl];rw[dZ (fun i:Nat=>(s,(i:Int),())) (wB s) s.size (e:=some (decide (s.size<=12),())) (no:=some (false,())) ?_ ?_ k 0 (by omega)];unfold kj;cases bL 0 s.size (wB s)<;>simp;intro G i a;simp only;rw[aJ,c_ a,an rfl,an (aG a),aG a,P_,an rfl,P_,an rfl,P_,an rfl,br (by omega)];unfold wB;by_cases b:bt s i<32<;>by_cases c:bt s i>126<;>by_cases d:bt s i=34<;>by_cases f:bt s i=92<;>simp[b,c,d,f]<;>omega;intro G i a;simp only;rw[aJ,decide_eq_false (by omega),a_ (by simp)];congr 2;rw[aij];simp;omega
theorem xm{s:ByteArray}(hs:s.size<=1048576):lY k (s,())=some (kj s,()):=by
 simp only[lY];by_cases b:s.size<=12;rw[a_ (by simp;omega)];rw[show((s,(0:Int),()):ByteArray×Int×Unit)=(fun i:Nat=>(s,(i:Int),())) 0 from rfl];rw[dZ (fun i:Nat=>(s,(i:Int),())) (wB s) s.size (e:=some (true,())) (no:=some (false,())) ?_ ?_ k 0 (by omega)];unfold kj;cases bL 0 s.size (wB s)<;>simp[b];intro G i a;simp only;rw[aJ,c_ a,an rfl,an (aG a),br (by omega)];unfold wB;by_cases c:bt s i<32<;>by_cases d:bt s i>126<;>by_cases f:bt s i=34<;>by_cases g:bt s i=92<;>simp[c,d,f,g]<;>omega;intro G i a;simp only;rw[aJ,decide_eq_false (by omega),a_ (by simp)];rw[an (by simp;omega)];unfold kj;simp[b]
theorem IC{x:af}(hs:ag ai x<=1048576):pB k (x,())=some (fU x,()):=by
 rw[ot hk]at hs;simp only[pB];rw[zF hk (by omega),wF hk (by omega)];simp only[dn,hJ,fU];cases gq x.1<;>simp
theorem H0{x:af}(hs:ag ai x<=1048576):pw k (x,())=some (fU x,()):=by
 rw[ot hk]at hs;simp only[pw];rw[yB hk (by omega),xm hk (by omega)];simp only[dn,hJ,fU];cases gq x.1<;>simp
theorem uo{l:List af}(hs:ag (.sl ai) l<=1048576):lI k (l,())=some (eo l,()):=by
 have hl:=aA (e:=ai) (l:=l);simp only[lI,aR];rw[show((l,(0:Int),()):List af×Int×Unit)=(fun i:Nat=>(l,(i:Int),())) 0 from rfl];rw[dZ (fun i:Nat=>(l,(i:Int),())) (fun i=>fU (l.getD i ai.aa)&&DC l i) l.length (e:=some (decide (l.length<=4),())) (no:=some (false,())) ?_ ?_ k 0 (by omega)];unfold eo;cases bL 0 l.length (fun i=>fU (l.getD i ai.aa)&&DC l i)<;>simp;intro G i a;simp only[o_];have hm:ag ai (l.getD i ai.aa)<=1048576:=J5 (dK (e:=ai) (dp a)) hs;rw[aJ,c_ a,an rfl,an (aG a),IC hk hm,hJ,br (by omega),xA (by omega)];simp only;rw[an (by simp;omega),an (by simp[a])];simp only[iI,dn,hJ];rw[show((i:Int)-1).toNat=i-1 by omega];unfold DC lr;cases fU (l.getD i ai.aa)with
 |false=>simp
 |true=>
  by_cases d:i=0;subst d;simp;have b:(0:Int)<(i:Int):=by omega
  have c:0<i:=by omega
  cases Op.bytesLess (ByteArray.toList (l.getD (i-1) ai.aa).1) (ByteArray.toList (l.getD i ai.aa).1)<;>simp[d,b,c]
 intro G i a;simp only;rw[aJ,decide_eq_false (by omega),a_ (by simp)];congr 2;rw[aij];simp;omega
theorem qt{l:List af}(hs:ag (.sl ai) l<=1048576):jQ k (l,())=some (eo l,()):=by
 have hl:=aA (e:=ai) (l:=l);simp only[jQ];rw[show((l,l,(l.length:Int),(0:Int),()):List af×List af×Int×Int×Unit)=(fun i:Nat=>(l,l,(l.length:Int),(i:Int),())) 0 from rfl];rw[dZ (fun i:Nat=>(l,l,(l.length:Int),(i:Int),())) (fun i=>decide (i<4)&&(fU (l.getD i ai.aa)&&DC l i)) l.length (e:=some (true,())) (no:=some (false,())) ?_ ?_ k 0 (by omega)];unfold eo;rw[k9,Sw];cases bL 0 l.length (fun i=>fU (l.getD i ai.aa)&&DC l i)<;>by_cases h:l.length<=4<;>simp[h];intro G i b;simp only[o_];have hm:ag ai (l.getD i ai.aa)<=1048576:=J5 (dK (e:=ai) (dp b)) hs;rw[aJ,c_ b,an rfl,an (aG b),H0 hk hm,br (by omega),xA (by omega)];simp only[dn,hJ];rw[show((i:Int)-1).toNat=i-1 by omega];rw[an (by simp;omega)];unfold DC lr;by_cases c:i<4;have a:¬(4:Int)<=(i:Int):=by omega
 cases fU (l.getD i ai.aa)with
 |false=>simp[c,a]
 |true=>
  by_cases g:i=0;subst g;simp;have d:(0:Int)<(i:Int):=by omega
  have f:0<i:=by omega
  cases Op.bytesLess (ByteArray.toList (l.getD (i-1) ai.aa).1) (ByteArray.toList (l.getD i ai.aa).1)<;>simp[g,d,f,c,a]
 have a:(4:Int)<=(i:Int):=by omega
 simp[c,a];intro G i b;simp only;rw[aJ,decide_eq_false (by omega),a_ (by simp)]
end
def bw(n a b:Int):Bool:=decide (a<=n)&&decide (n<=b)
def vf(l:List ByteArray):Bool:=bL 1 l.length (fun i=>lr (l.getD (i-1) ByteArray.empty) (l.getD i ByteArray.empty))
def vZ(l:List ByteArray):Bool:=bL 0 l.length (fun i=>gq (l.getD i ByteArray.empty))&&(decide (l.length<=2)&&vf l)
def dU(c:bo):Bool:=bw c.1 1 3&&bw c.2.1 1 8&&bw c.2.2.1 1 2&&bw c.2.2.2.1 1 9&&bw c.2.2.2.2.1 1 9&&vZ c.2.2.2.2.2
def bB(a:ae):Bool:=eo a.1&&decide (0<a.1.length)&&bw a.2.1 0 99999&&bw a.2.2.1 a.2.1 99999&&kj a.2.2.2
def cx(l:List ae):Bool:=bL 0 l.length (fun i=>bB (l.getD i ab.aa))
theorem CV(a b:Bool):(if a=true then b else false)=(a&&b):=by cases a<;>rfl
section
variable{k:Nat}(hk:9223372036854775808<=k)
include hk
theorem AY(n a b:Int):cX k (n,a,b,())=some (bw n a b,()):=by
 simp only[cX,bw,CV]
theorem jr(n a b:Int):bZ k (n,a,b,())=some (bw n a b,()):=by
 simp only[bZ,bw,CV]
theorem xL{l:List ByteArray}(hl:l.length<=1048576):jK k (l,())=some (vf l,()):=by
 simp only[jK];rw[show((l,(1:Int),()):List ByteArray×Int×Unit)=(fun i:Nat=>(l,((i+1:Nat):Int),())) 0 from rfl];rw[dZ (fun i:Nat=>(l,((i+1:Nat):Int),())) (fun i=>lr (l.getD i ByteArray.empty) (l.getD (i+1) ByteArray.empty)) (l.length-1) (e:=some (true,())) (no:=some (false,())) ?_ ?_ k 0 (by omega)]
 have:vf l=bL 0 (l.length-1) (fun i=>lr (l.getD i ByteArray.empty) (l.getD (i+1) ByteArray.empty)):=by
  unfold vf;rw[aij,cA,cA];constructor;intro h i _ a;have:=h (i+1) (by omega) (by omega);simpa using this;intro h i h1 a;have:=h (i-1) (by omega) (by omega);rw[show i-1+1=i by omega]at this;exact this
 rw[this];cases bL 0 (l.length-1) (fun i=>lr (l.getD i ByteArray.empty) (l.getD (i+1) ByteArray.empty))<;>rfl;intro G i b;simp only[o_];rw[aJ,c_ (by omega),an rfl,xA (by omega),br (by omega)];rw[an (by simp;omega),an (by simp;omega)];simp only[iI,hJ];rw[show(((i+1:Nat):Int)-1).toNat=i by omega];unfold lr;cases Op.bytesLess (ByteArray.toList (l.getD i ByteArray.empty)) (ByteArray.toList (l.getD (i+1) ByteArray.empty))<;>simp;intro G i b;simp only;rw[aJ,decide_eq_false (by omega),a_ (by simp)]
theorem TW(l:List ByteArray):pJ k (l,())=jK k (l,()):=by
 simp only[jK,pJ,iI,hJ]
theorem P3{l:List ByteArray}(hs:ag (.sl .str) l<=1048576):tw k (l,())=some (vZ l,()):=by
 have hl:=aA (e:= .str) (l:=l);simp only[tw,aR];rw[show((l,(0:Int),()):List ByteArray×Int×Unit)=(fun i:Nat=>(l,(i:Int),())) 0 from rfl];rw[dZ (fun i:Nat=>(l,(i:Int),())) (fun i=>gq (l.getD i ByteArray.empty)) l.length (e:=some (decide (l.length<=2)&&vf l,())) (no:=some (false,())) ?_ ?_ k 0 (by omega)];unfold vZ;cases bL 0 l.length (fun i=>gq (l.getD i ByteArray.empty))<;>simp;intro G i a;simp only[o_];have hm:ag .str (l.getD i ByteArray.empty)<=1048576:=J5 (dK (e:= .str) (dp a)) hs;rw[aJ,c_ a,an rfl,an (aG a),zF hk hm,hJ,br (by omega)];cases gq (l.getD i ByteArray.empty)<;>simp;intro G i a;simp only;rw[aJ,decide_eq_false (by omega),a_ (by simp),xL hk (by omega)];simp only[dn,hJ];by_cases h:l.length<=2;have b:(l.length:Int)<=2:=by omega
 simp[h,b];have b:¬(l.length:Int)<=2:=by omega
 simp[h,b]
theorem Qq{l:List ByteArray}(hs:ag (.sl .str) l<=1048576):tG k (l,())=some (vZ l,()):=by
 have hl:=aA (e:= .str) (l:=l);simp only[tG,aR];rw[show((l,l,(l.length:Int),(0:Int),()):List ByteArray×List ByteArray×Int×Int×Unit)=(fun i:Nat=>(l,l,(l.length:Int),(i:Int),())) 0 from rfl];rw[dZ (fun i:Nat=>(l,l,(l.length:Int),(i:Int),())) (fun i=>gq (l.getD i ByteArray.empty)) l.length (e:=some (decide (l.length<=2)&&vf l,())) (no:=some (false,())) ?_ ?_ k 0 (by omega)];unfold vZ;cases bL 0 l.length (fun i=>gq (l.getD i ByteArray.empty))<;>simp;intro G i a;simp only[o_];have hm:ag .str (l.getD i ByteArray.empty)<=1048576:=J5 (dK (e:= .str) (dp a)) hs;rw[aJ,c_ a,an rfl,an (aG a),yB hk hm,hJ,br (by omega)];cases gq (l.getD i ByteArray.empty)<;>simp;intro G i a;simp only;rw[aJ,decide_eq_false (by omega),a_ (by simp),TW hk,xL hk (by omega)];simp only[dn,hJ];by_cases h:l.length<=2;have b:(l.length:Int)<=2:=by omega
 simp[h,b];have b:¬(l.length:Int)<=2:=by omega
 simp[h,b]
theorem Lk{c:bo}(hs:ag eK c<=1048576):qu k (c,())=some (dU c,()):=by
 rw[sO hk]at hs;simp only[qu,AY hk,P3 hk hs,dn,hJ,dU];generalize bw c.1 1 3=b1;generalize bw c.2.1 1 8=b2;generalize bw c.2.2.1 1 2=b3;generalize bw c.2.2.2.1 1 9=b4;generalize bw c.2.2.2.2.1 1 9=b5;cases b1<;>cases b2<;>cases b3<;>cases b4<;>cases b5<;>simp
theorem LC{c:bo}(hs:ag eK c<=1048576):qc k (c,())=some (dU c,()):=by
 rw[sO hk]at hs;simp only[qc,jr hk,Qq hk hs,dn,hJ,dU];generalize bw c.1 1 3=b1;generalize bw c.2.1 1 8=b2;generalize bw c.2.2.1 1 2=b3;generalize bw c.2.2.2.1 1 9=b4;generalize bw c.2.2.2.2.1 1 9=b5;cases b1<;>cases b2<;>cases b3<;>cases b4<;>cases b5<;>simp
theorem Sx(l:List af):decide ((l.length:Int)>0)=decide (0<l.length):=by simp
theorem Iw{a:ae}(hs:ag ab a<=1048576):oP k (a,())=some (bB a,()):=by
 rw[bI hk]at hs;simp only[oP,AY hk,uo hk (show ag (.sl ai) a.1<=1048576 by omega),wF hk (show a.2.2.2.size<=1048576 by omega),dn,hJ,bB,Sx hk];generalize eo a.1=b1;generalize decide (0<a.1.length)=b2;generalize bw a.2.1 0 99999=b3;generalize bw a.2.2.1 a.2.1 99999=b4;cases b1<;>cases b2<;>cases b3<;>cases b4<;>simp
theorem kz{a:ae}(hs:ag ab a<=1048576):fH k (a,())=some (bB a,()):=by
 rw[bI hk]at hs;simp only[fH,jr hk,qt hk (show ag (.sl ai) a.1<=1048576 by omega),xm hk (show a.2.2.2.size<=1048576 by omega),dn,hJ,bB,Sx hk];generalize eo a.1=b1;generalize decide (0<a.1.length)=b2;generalize bw a.2.1 0 99999=b3;generalize bw a.2.2.1 a.2.1 99999=b4;cases b1<;>cases b2<;>cases b3<;>cases b4<;>simp
theorem mA{l:List ae}(hs:ag (.sl ab) l<=1048576):gO k (l,())=some (cx l,()):=by
 have hl:=aA (e:=ab) (l:=l);simp only[gO];rw[show((l,(l.length:Int),(0:Int),()):List ae×Int×Int×Unit)=(fun i:Nat=>(l,(l.length:Int),(i:Int),())) 0 from rfl];rw[dZ (fun i:Nat=>(l,(l.length:Int),(i:Int),())) (fun i=>bB (l.getD i ab.aa)) l.length (e:=some (true,())) (no:=some (false,())) ?_ ?_ k 0 (by omega)];unfold cx;cases bL 0 l.length (fun i=>bB (l.getD i ab.aa))<;>simp;intro G i a;simp only[o_];have hm:ag ab (l.getD i ab.aa)<=1048576:=J5 (dK (e:=ab) (dp a)) hs;rw[aJ,c_ a,an rfl,an (aG a),kz hk hm,hJ,br (by omega)];cases bB (l.getD i ab.aa)<;>simp;intro G i a;simp only;rw[aJ,decide_eq_false (by omega),a_ (by simp)]
end
def hasB(by_:List ByteArray)(s:ByteArray):Bool:= !bL 0 by_.length (fun i=> !((by_.getD i ByteArray.empty).toList==s.toList))
def keyOf(a:ae)(by_:List ByteArray):List af:=a.1.filter (fun x=>hasB by_ x.1)
def CO(l:List ae)(i:Nat):Bool:=i==0||bq (l.getD (i-1) ab.aa).1 (l.getD i ab.aa).1
def vk(l:List ae)(key:List af)(by_:List ByteArray):Bool:=
 bL 0 l.length (fun i=>bB (l.getD i ab.aa)&&(decide (keyOf (l.getD i ab.aa) by_=key)&&CO l i))
def fT(g:au)(by_:List ByteArray):Bool:=
 decide (0<=g.1)&&(eo g.2.1&&(bw g.2.2.1 0 99999&&((decide (g.2.2.2.1= -1)||bw g.2.2.2.1 g.2.2.1 99999)&&(decide (0<g.2.2.2.2.length)&&vk g.2.2.2.2 g.2.1 by_))))
def Ps(l:List au)(i:Nat):Bool:=i==0||decide ((l.getD (i-1) ak.aa).1<(l.getD i ak.aa).1)
def ug(l:List au)(i:Nat):Bool:=bL 0 i (fun j=> !decide ((l.getD j ak.aa).2.1=(l.getD i ak.aa).2.1))
def fN(l:List au)(by_:List ByteArray):Bool:=
 decide (l.length<=12)&&bL 0 l.length (fun i=>fT (l.getD i ak.aa) by_&&(Ps l i&&ug l i))
def ij(s:bU):Bool:=decide (s.1.length<=3)&&((!s.2||decide (s.1.length=0))&&cx s.1)
def da(a:ae):Bool:=bB a&&decide (a.2.2.1<=99899)
section
variable{k:Nat}(hk:9223372036854775808<=k)
include hk
theorem rf{a b:List af}(ha:a.length<=1048576):jE k (a,b,())=some (decide (a=b),()):=by
 simp only[jE];by_cases j:a.length=b.length;rw[a_ (by simp[j])]
 rw[qK (g:=fun(s:List af×List af×Int×Unit)=>some (decide (a.drop s.2.2.1.toNat=b.drop s.2.2.1.toNat),())) (m:=fun(s:List af×List af×Int×Unit)=>a.length-s.2.2.1.toNat)
  (I:=fun(s:List af×List af×Int×Unit)=>s.1=a/\s.2.1=b/\0<=s.2.2.1/\s.2.2.1<=(a.length:Int))]
 simp;rintro G ⟨a',b',i,u⟩ ⟨e1,e2,hi0,hi1⟩ hG;change a'=a at e1;change b'=b at e2;subst e1 e2;simp only at hi0 hi1 hG|-;by_cases c:i<(a'.length:Int);have l:i.toNat<a'.length:=by omega
 have n:i.toNat<b'.length:=by omega
 rw[an (by simpa using c),an (by simpa using⟨hi0,c⟩),an (by simpa using⟨hi0,by omega⟩)];rw[gX (d:=ai.aa) l,gX (d:=ai.aa) n];by_cases he:a'.getD i.toNat ai.aa=b'.getD i.toNat ai.aa;have f:eqv ai (a'.getD i.toNat ai.aa) (b'.getD i.toNat ai.aa)=true:=(vm rfl).2 he;rw[a_ (by rw[f];simp),wrap64 (by omega) (by omega),hG (a',b',i+1,()) ⟨rfl,rfl,by simp only;omega,by simp only;omega⟩ (by simp only;omega)];simp only[he,aiq,true_and];rw[show(i+1).toNat=i.toNat+1 by omega]
 have f:eqv ai (a'.getD i.toNat ai.aa) (b'.getD i.toNat ai.aa)=false:=by
  rw[aiI];exact fun h=>he ((vm rfl).1 h)
 rw[an (by rw[f];rfl)];simp only[aiq,he,false_and,decide_false];rw[a_ (by simpa using c),aia (by omega),aia (by omega)];simp;exact⟨rfl,rfl,by simp,by simp⟩;simp only;omega;rw[an (by simp;omega)];have:a≠b:=fun e=>j (by rw[e]);simp[this]
theorem gN{a b:List af}(ha:a.length<=1048576):dL k (a,b,())=some (decide (a=b),()):=by
 simp only[dL];by_cases j:a.length=b.length;rw[a_ (by simp[j])]
 rw[qK (g:=fun(s:List af×List af×Int×Int×Unit)=>some (decide (a.drop s.2.2.2.1.toNat=b.drop s.2.2.2.1.toNat),())) (m:=fun(s:List af×List af×Int×Int×Unit)=>a.length-s.2.2.2.1.toNat)
  (I:=fun(s:List af×List af×Int×Int×Unit)=>s.1=a/\s.2.1=b/\s.2.2.1=(a.length:Int)/\0<=s.2.2.2.1/\s.2.2.2.1<=(a.length:Int))]
 simp;rintro G ⟨a',b',n,i,u⟩ ⟨e1,e2,e3,hi0,hi1⟩ hG;change a'=a at e1;change b'=b at e2;change n=_ at e3;subst e1 e2 e3;simp only at hi0 hi1 hG|-;by_cases c:i<(a'.length:Int);have l:i.toNat<a'.length:=by omega
 have o:i.toNat<b'.length:=by omega
 rw[an (by simpa using c),an (by simpa using⟨hi0,c⟩),an (by simpa using⟨hi0,by omega⟩)];rw[gX (d:=ai.aa) l,gX (d:=ai.aa) o];by_cases he:a'.getD i.toNat ai.aa=b'.getD i.toNat ai.aa;have f:eqv ai (a'.getD i.toNat ai.aa) (b'.getD i.toNat ai.aa)=true:=(vm rfl).2 he;rw[a_ (by rw[f];simp),wrap64 (by omega) (by omega),hG (a',b',_,i+1,()) ⟨rfl,rfl,rfl,by simp only;omega,by simp only;omega⟩ (by simp only;omega)];simp only[he,aiq,true_and];rw[show(i+1).toNat=i.toNat+1 by omega]
 have f:eqv ai (a'.getD i.toNat ai.aa) (b'.getD i.toNat ai.aa)=false:=by
  rw[aiI];exact fun h=>he ((vm rfl).1 h)
 rw[an (by rw[f];rfl)];simp only[aiq,he,false_and,decide_false];rw[a_ (by simpa using c),aia (by omega),aia (by omega)];simp;exact⟨rfl,rfl,rfl,by simp,by simp⟩;simp only;omega;rw[an (by simp;omega)];have:a≠b:=fun e=>j (by rw[e]);simp[this]
theorem re{a b:List af}(ha:a.length<=1048576):lP k (a,b,())=some (bq a b,()):=by
 simp only[lP,aR]
 rw[qK (g:=fun(s:List af×List af×Int×Unit)=>some (bq (a.drop s.2.2.1.toNat) (b.drop s.2.2.1.toNat),())) (m:=fun(s:List af×List af×Int×Unit)=>a.length-s.2.2.1.toNat)
  (I:=fun(s:List af×List af×Int×Unit)=>s.1=a/\s.2.1=b/\0<=s.2.2.1/\s.2.2.1<=(a.length:Int)/\s.2.2.1<=(b.length:Int))]
 simp;rintro G ⟨a',b',i,u⟩ ⟨e1,e2,hi0,hi1,hi2⟩ hG;change a'=a at e1;change b'=b at e2;subst e1 e2;simp only at hi0 hi1 hi2 hG|-;by_cases c:i<(a'.length:Int)/\i<(b'.length:Int);have e:i.toNat<a'.length:=by omega
 have f:i.toNat<b'.length:=by omega
 have h:decide (0<=i/\i<(a'.length:Int))=true:=by simpa using⟨hi0,c.1⟩
 have j:decide (0<=i/\i<(b'.length:Int))=true:=by simpa using⟨hi0,c.2⟩
 rw[an (by simp[c.1,c.2])];simp only[h,j,if_true];rw[gX (d:=ai.aa) e,gX (d:=ai.aa) f];simp only[bq,lr];rw[wrap64 (by omega) (by omega),hG (a',b',i+1,()) ⟨rfl,rfl,by simp only;omega,by simp only;omega,by simp only;omega⟩ (by simp only;omega)];simp only;rw[show(i+1).toNat=i.toNat+1 by omega];cases (ByteArray.toList (a'.getD i.toNat ai.aa).1==ByteArray.toList (b'.getD i.toNat ai.aa).1)<;>cases (ByteArray.toList (a'.getD i.toNat ai.aa).2==ByteArray.toList (b'.getD i.toNat ai.aa).2)<;>simp;rw[a_ (by simp;omega)];by_cases ha':i<(a'.length:Int);have e:i.toNat<a'.length:=by omega
 rw[gX (d:=ai.aa) e,aia (show b'.length<=i.toNat by omega)];simp only[bq];congr 2;simp;omega;rw[aia (show a'.length<=i.toNat by omega)];simp only[bq];congr 2;by_cases hb':i<(b'.length:Int);have f:i.toNat<b'.length:=by omega
 rw[gX (d:=ai.aa) f];simp;omega;rw[aia (show b'.length<=i.toNat by omega)];simp;omega;exact⟨rfl,rfl,by simp,by simp,by simp⟩;simp only;omega
theorem sg{a b:List af}(c:a.length<=1048576):lG k (a,b,())=some (bq a b,()):=by
 rw[<-re hk c];simp only[lP,lG,iI,hJ]
theorem Sf{l:List ByteArray}{s:ByteArray}(hl:l.length<=1048576):rq k (l,s,())=some (hasB l s,()):=by
 simp only[rq];rw[show((l,s,(0:Int),()):List ByteArray×ByteArray×Int×Unit)=(fun i:Nat=>(l,s,(i:Int),())) 0 from rfl];rw[PC (fun i:Nat=>(l,s,(i:Int),())) (fun i=>(l.getD i ByteArray.empty).toList==s.toList) l.length (e:=some (false,())) (yes:=some (true,())) ?_ ?_ k 0 (by omega)];unfold hasB;cases bL 0 l.length (fun i=> !((l.getD i ByteArray.empty).toList==s.toList))<;>simp;intro G i a;simp only[o_];rw[aJ,c_ a,an rfl,an (aG a),br (by omega)];intro G i a;simp only;rw[aJ,decide_eq_false (by omega),a_ (by simp)]
theorem RW{l:List ByteArray}{s:ByteArray}(hl:l.length<=1048576):oV k (l,s,())=some (hasB l s,()):=by
 simp only[oV];rw[show((s,l,(l.length:Int),(0:Int),()):ByteArray×List ByteArray×Int×Int×Unit)=(fun i:Nat=>(s,l,(l.length:Int),(i:Int),())) 0 from rfl];rw[PC (fun i:Nat=>(s,l,(l.length:Int),(i:Int),())) (fun i=>(l.getD i ByteArray.empty).toList==s.toList) l.length (e:=some (false,())) (yes:=some (true,())) ?_ ?_ k 0 (by omega)];unfold hasB;cases bL 0 l.length (fun i=> !((l.getD i ByteArray.empty).toList==s.toList))<;>simp;intro G i a;simp only[o_];rw[aJ,c_ a,an rfl,an (aG a),br (by omega)];intro G i a;simp only;rw[aJ,decide_eq_false (by omega),a_ (by simp)]
theorem B5{a:ae}{by_:List ByteArray}(f:ag ab a<=1048576)(h:by_.length<=1048576):jV k (a,by_,())=some (keyOf a by_,()):=by
 have hl:=aA (e:=ai) (l:=a.1);rw[bI hk]at f;simp only[jV,sN]
 rw[qK (g:=fun(s:List af×List ByteArray×List af×Int×Unit)=>some (s.2.2.1++(a.1.drop s.2.2.2.1.toNat).filter (fun x=>hasB by_ x.1),())) (m:=fun(s:List af×List ByteArray×List af×Int×Unit)=>a.1.length-s.2.2.2.1.toNat)
  (I:=fun(s:List af×List ByteArray×List af×Int×Unit)=>s.1=a.1/\s.2.1=by_/\0<=s.2.2.2.1/\s.2.2.2.1<=(a.1.length:Int)/\s.2.2.1.length<=s.2.2.2.1.toNat)]
 simp[keyOf];rintro G ⟨l',y',o,i,u⟩ ⟨e1,e2,hi0,hi1,ho⟩ hG;change l'=_ at e1;change y'=by_ at e2;subst e1 e2;simp only at hi0 hi1 ho hG|-;by_cases b:i<(a.1.length:Int);have j:i.toNat<a.1.length:=by omega
 rw[an (by simpa using b),an (by simpa using⟨hi0,b⟩),Sf hk h,hJ,gX (d:=ai.aa) j,wrap64 (by omega) (by omega)];cases c:hasB y' (a.1.getD i.toNat ai.aa).1 with
 |true=>
  rw[an rfl,an (by simpa using⟨hi0,b⟩),an (by simp;omega)];rw[hG (a.1,y',o++[a.1.getD i.toNat ai.aa],i+1,()) ⟨rfl,rfl,by simp only;omega,by simp only;omega,by simp;omega⟩ (by simp only;omega)];simp only;rw[show(i+1).toNat=i.toNat+1 by omega,aiy (by simpa using c)];simp
 |false=>
  rw[a_ (by simp)];rw[hG (a.1,y',o,i+1,()) ⟨rfl,rfl,by simp only;omega,by simp only;omega,by simp only;omega⟩ (by simp only;omega)];simp only;rw[show(i+1).toNat=i.toNat+1 by omega,aiz (by rw[c];simp)]
 rw[a_ (by simpa using b),aia (by omega)];simp;exact⟨rfl,rfl,by simp,by simp,by simp⟩;simp only;omega
theorem N8{a:ae}{by_:List ByteArray}(f:ag ab a<=1048576)(h:by_.length<=1048576):rW k (a,by_,())=some (keyOf a by_,()):=by
 have hl:=aA (e:=ai) (l:=a.1);rw[bI hk]at f;simp only[rW,sK]
 rw[qK (g:=fun(s:List ByteArray×List af×List af×Int×Int×Unit)=>some (s.2.1++(a.1.drop s.2.2.2.2.1.toNat).filter (fun x=>hasB by_ x.1),())) (m:=fun(s:List ByteArray×List af×List af×Int×Int×Unit)=>a.1.length-s.2.2.2.2.1.toNat)
  (I:=fun(s:List ByteArray×List af×List af×Int×Int×Unit)=>s.1=by_/\s.2.2.1=a.1/\s.2.2.2.1=(a.1.length:Int)/\0<=s.2.2.2.2.1/\s.2.2.2.2.1<=(a.1.length:Int)/\s.2.1.length<=s.2.2.2.2.1.toNat)]
 simp[keyOf];rintro G ⟨y',o,l',n,i,u⟩ ⟨e2,e1,e3,hi0,hi1,ho⟩ hG;change l'=_ at e1;change y'=by_ at e2;change n=_ at e3;subst e1 e2 e3;simp only at hi0 hi1 ho hG|-;by_cases b:i<(a.1.length:Int);have j:i.toNat<a.1.length:=by omega
 rw[an (by simpa using b),an (by simpa using⟨hi0,b⟩),RW hk h,hJ,gX (d:=ai.aa) j,wrap64 (by omega) (by omega)];cases c:hasB y' (a.1.getD i.toNat ai.aa).1 with
 |true=>
  rw[an rfl,an (by simp;omega)];rw[hG (y',o++[a.1.getD i.toNat ai.aa],a.1,_,i+1,()) ⟨rfl,rfl,rfl,by simp only;omega,by simp only;omega,by simp;omega⟩ (by simp only;omega)];simp only;rw[show(i+1).toNat=i.toNat+1 by omega,aiy (by simpa using c)];simp
 |false=>
  rw[a_ (by simp)];rw[hG (y',o,a.1,_,i+1,()) ⟨rfl,rfl,rfl,by simp only;omega,by simp only;omega,by simp only;omega⟩ (by simp only;omega)];simp only;rw[show(i+1).toNat=i.toNat+1 by omega,aiz (by rw[c];simp)]
 rw[a_ (by simpa using b),aia (by omega)];simp;exact⟨rfl,rfl,rfl,by simp,by simp,by simp⟩;simp only;omega
theorem Wp(a:ae)(by_:List ByteArray):(keyOf a by_).length<=a.1.length:=aiC ..
theorem ov{l:List ae}{i:Nat}(hs:ag (.sl ab) l<=1048576)(hi:i<l.length):ag ab (l.getD i ab.aa)<=1048576/\(l.getD i ab.aa).1.length<=1048576:=by
 have hm:ag ab (l.getD i ab.aa)<=1048576:=J5 (dK (e:=ab) (dp hi)) hs;refine⟨hm,?_⟩;rw[bI hk]at hm;have:=aA (e:=ai) (l:=(l.getD i ab.aa).1);omega
theorem IP{l:List ae}{key:List af}{by_:List ByteArray}(hs:ag (.sl ab) l<=1048576)(h:by_.length<=1048576):pA k (l,key,by_,())=some (vk l key by_,()):=by
 have hl:=aA (e:=ab) (l:=l);simp only[pA];rw[show((l,key,by_,l,(l.length:Int),(0:Int),()):List ae×List af×List ByteArray×List ae×Int×Int×Unit)=(fun i:Nat=>(l,key,by_,l,(l.length:Int),(i:Int),())) 0 from rfl];rw[dZ (fun i:Nat=>(l,key,by_,l,(l.length:Int),(i:Int),())) (fun i=>bB (l.getD i ab.aa)&&(decide (keyOf (l.getD i ab.aa) by_=key)&&CO l i)) l.length (e:=some (true,())) (no:=some (false,())) ?_ ?_ k 0 (by omega)];unfold vk;cases bL 0 l.length (fun i=>bB (l.getD i ab.aa)&&(decide (keyOf (l.getD i ab.aa) by_=key)&&CO l i))<;>simp;intro G i b;simp only[o_];obtain⟨hm,hml⟩:=ov hk hs b;have hkl:=Wp hk (l.getD i ab.aa) by_;rw[aJ,c_ b,an rfl,an (aG b),kz hk hm,hJ,N8 hk hm h,br (by omega),xA (by omega)];simp only[dn,hJ];rw[show((i:Int)-1).toNat=i-1 by omega];cases bB (l.getD i ab.aa)with
 |false=>simp
 |true=>
  simp only[aiD,beq_self_eq_true,if_true];rw[gN hk (by omega)];simp only[hJ];by_cases c:keyOf (l.getD i ab.aa) by_=key;by_cases g:i=0;subst g;simp[c,CO,-H'];have d:(0:Int)<(i:Int):=by omega
  have f:0<i:=by omega
  obtain⟨hm1,a⟩:=ov hk hs (show i-1<l.length by omega);rw[an (by simp;omega),re hk a];unfold CO;cases bq (l.getD (i-1) ab.aa).1 (l.getD i ab.aa).1<;>simp[c,g,d,f,-H'];simp[c,-H']
 intro G i b;simp only;rw[aJ,decide_eq_false (by omega),a_ (by simp)]
theorem JX{g:au}{by_:List ByteArray}(hs:ag ak g<=1048576)(a:by_.length<=1048576):pz k (g,by_,())=some (fT g by_,()):=by
 rw[gV hk]at hs;simp only[pz,jr hk,qt hk (show ag (.sl ai) g.2.1<=1048576 by omega),IP hk (show ag (.sl ab) g.2.2.2.2<=1048576 by omega) a,dn,hJ,fT];have b:decide (g.1<(0:Int))= !decide (0<=g.1):=by rw[aij];simp
 have c:decide ((g.2.2.2.2.length:Int)>(0:Int))=decide (0<g.2.2.2.2.length):=by simp
 have d:((g.2.2.2.1:Int) != (-1:Int))= !decide (g.2.2.2.1= -1):=by rw[aij];simp
 rw[b,c,d];generalize decide (0<=g.1)=b1;generalize eo g.2.1=b2;generalize bw g.2.2.1 0 99999=b3;generalize decide (g.2.2.2.1= -1)=b4;generalize bw g.2.2.2.1 g.2.2.1 99999=b5;generalize decide (0<g.2.2.2.2.length)=b6;generalize vk g.2.2.2.2 g.2.1 by_=b7;cases b1<;>cases b2<;>cases b3<;>cases b4<;>cases b5<;>cases b6<;>cases b7<;>simp
theorem AP{l:List au}{i:Nat}(hs:ag (.sl ak) l<=1048576)(hi:i<l.length):ag ak (l.getD i ak.aa)<=1048576/\(l.getD i ak.aa).2.1.length<=1048576:=by
 have hm:ag ak (l.getD i ak.aa)<=1048576:=J5 (dK (e:=ak) (dp hi)) hs;refine⟨hm,?_⟩;rw[gV hk]at hm;have:=aA (e:=ai) (l:=(l.getD i ak.aa).2.1);omega
theorem J9{l:List au}{key:List af}(hs:ag (.sl ak) l<=1048576):
 ∃r:Int,pG k (l,key,())=some (r,())/\(∀i:Nat,i<l.length->(l.getD i ak.aa).2.1=key->(r=(i:Int)↔∀j,j<i->(l.getD j ak.aa).2.1≠key)):=by
 have hl:=aA (e:=ak) (l:=l);simp only[pG]
 have main:∀(m a:Nat),l.length-a<m->(∀j,j<a->(l.getD j ak.aa).2.1≠key)->∃r:Int,aM m (fun p (t2:List af×List au×Int×Int×Unit)=>
  if(decide ((t2.2.2.2.1:Int)<t2.2.2.1))=true then
   if(decide (0<=t2.2.2.2.1/\t2.2.2.2.1<((O' t2.2.1:Nat):Int)))=true then
    aiK (dL k (((List.getD t2.2.1 (ain t2.2.2.2.1) ak.aa).2).1,t2.1,())) fun(s:Bool×Unit)=>
    if s.1=true then
     some (t2.2.2.2.1,())
    else
     p (t2.1,t2.2.1,t2.2.2.1,IntKind.i64.wrap (t2.2.2.2.1+(1:Int)),())
   else
    none
  else
   some ((-1:Int),())) (key,l,(l.length:Int),(a:Int),())=some (r,())/\(∀i:Nat,i<l.length->(l.getD i ak.aa).2.1=key->(r=(i:Int)↔∀j,j<i->(l.getD j ak.aa).2.1≠key)):=by
  intro m
  induction m with
  |zero=>intro a h;omega
  |succ m t=>
   intro a h b;simp only[aM,o_];by_cases g:a<l.length;rw[aJ,c_ g,an rfl,an (aG g),gN hk (AP hk hs g).2,hJ];by_cases n:(l.getD a ak.aa).2.1=key;rw[an (by simpa using n)];refine⟨_,rfl,fun i q d=> ?_⟩;constructor;intro e j o;exact b j (by omega);intro f;rcases Nat.lt_trichotomy a i with c|c|c;exact absurd n (f a c);rw[c];exact absurd d (b i c);rw[a_ (by simpa using n),br (by omega)];refine t (a+1) (by omega) (fun j o=> ?_);rcases Nat.lt_or_ge j a with c|c;exact b j c;rw[show j=a by omega];exact n;rw[aJ,decide_eq_false g,a_ (by simp)];refine⟨-1,rfl,fun i q d=> ?_⟩;exact absurd d (b i (by omega))
 exact main k 0 (by omega) (fun j o=>by omega)
theorem UD(l:List au)(i:Nat):ug l i=true↔∀j,j<i->(l.getD j ak.aa).2.1≠(l.getD i ak.aa).2.1:=by
 unfold ug;rw[cA];simp only[Bool.not_eq_true',d_];exact⟨fun h j a=>h j (by omega) a,fun h j _ a=>h j a⟩
theorem Gf{l:List au}{by_:List ByteArray}(hs:ag (.sl ak) l<=1048576)(o:by_.length<=1048576):nH k (l,by_,())=some (fN l by_,()):=by
 have hl:=aA (e:=ak) (l:=l);simp only[nH];rw[show((l,by_,l,(l.length:Int),(0:Int),()):List au×List ByteArray×List au×Int×Int×Unit)=(fun i:Nat=>(l,by_,l,(l.length:Int),(i:Int),())) 0 from rfl];rw[dZ (fun i:Nat=>(l,by_,l,(l.length:Int),(i:Int),())) (fun i=>decide (i<12)&&(fT (l.getD i ak.aa) by_&&(Ps l i&&ug l i))) l.length (e:=some (true,())) (no:=some (false,())) ?_ ?_ k 0 (by omega)];unfold fN;rw[k9,Sw];cases bL 0 l.length (fun i=>fT (l.getD i ak.aa) by_&&(Ps l i&&ug l i))<;>by_cases h:l.length<=12<;>simp[h];intro G i g;simp only[o_];obtain⟨hm,hml⟩:=AP hk hs g;obtain⟨r,p,a⟩:=J9 hk (key:=(l.getD i ak.aa).2.1) hs;have a:=a i g rfl;rw[<-UD hk]at a;rw[aJ,c_ g,an rfl,an (aG g),JX hk hm o,br (by omega),xA (by omega)];simp only[dn,hJ];rw[show((i:Int)-1).toNat=i-1 by omega,p,an (by simp;omega)];unfold Ps;by_cases qQ:i<12;have b:¬(12:Int)<=(i:Int):=by omega
 cases fT (l.getD i ak.aa) by_ with
 |false=>simp[qQ,b,-H']
 |true=>
  by_cases m:i=0;subst m;cases j:ug l 0 with
  |true=>rw[j]at a;have:=a.2 rfl;simp[this,-H']
  |false=>rw[j]at a;have:¬r=0:=fun e=>by have:=a.1 e;cases this
          simp[this,-H']
  have d:(0:Int)<(i:Int):=by omega
  have f:0<i:=by omega
  by_cases n:(l.getD (i-1) ak.aa).1<(l.getD i ak.aa).1;have c:¬(l.getD i ak.aa).1<=(l.getD (i-1) ak.aa).1:=by omega
  cases j:ug l i with
  |true=>rw[j]at a;have:=a.2 rfl;simp[this,qQ,b,m,d,f,n,c,-H']
  |false=>rw[j]at a;have:¬r=(i:Int):=fun e=>by have:=a.1 e;cases this
          simp[this,qQ,b,m,d,f,n,c,-H']
  have c:(l.getD i ak.aa).1<=(l.getD (i-1) ak.aa).1:=by omega
  simp[qQ,b,m,d,f,n,c,-H']
 have b:(12:Int)<=(i:Int):=by omega
 simp[qQ,b,-H'];intro G i g;simp only;rw[aJ,decide_eq_false (by omega),a_ (by simp)]
end
def zq(l:List bU):Bool:=bL 0 l.length (fun i=>ij (l.getD i bp.aa))
section
variable{k:Nat}(hk:9223372036854775808<=k)
include hk
theorem P5{c:bo}{a:ae}(hs:ag ab a<=1048576):tB k (c,a,())=some (da a,()):=by
 simp only[tB];rw[Iw hk hs];simp only[hJ,da,CV]
theorem Du{c:bo}{a:ae}(hs:ag ab a<=1048576):pX k (c,a,())=some (da a,()):=by
 simp only[pX];rw[kz hk hs];simp only[hJ,da,CV]
theorem N0{s:bU}(hs:ag bp s<=1048576):so k (s,())=some (ij s,()):=by
 rw[sR hk]at hs;have hl:=aA (e:=ab) (l:=s.1);simp only[so];rw[mA hk hs];unfold ij;cases s.2 with
 |true=>
  simp only[if_true];congr 2;by_cases a:s.1=[]
  rw[a];rfl;have h1:¬s.1.length=0:=fun e=>a (List.eq_nil_of_length_eq_zero e);simp[a]
 |false=>
  by_cases h:s.1.length<=3;have b:(s.1.length:Int)<=3:=by omega
  simp[h,b];have b:¬(s.1.length:Int)<=3:=by omega
  simp[h,b]
theorem VI{l:List bU}{i:Nat}(hs:ag (.sl bp) l<=1048576)(hi:i<l.length):ag bp (l.getD i bp.aa)<=1048576:=
 J5 (dK (e:=bp) (dp hi)) hs
theorem EV{l:List bU}{c:bo}(hs:ag (.sl bp) l<=1048576):mC k (l,c,())=some (zq l&&decide ((l.length:Int)=c.2.2.1),()):=by
 have hl:=aA (e:=bp) (l:=l);simp only[mC,aR];rw[show((l,c,l,(l.length:Int),(0:Int),()):List bU×bo×List bU×Int×Int×Unit)=(fun i:Nat=>(l,c,l,(l.length:Int),(i:Int),())) 0 from rfl];rw[dZ (fun i:Nat=>(l,c,l,(l.length:Int),(i:Int),())) (fun i=>ij (l.getD i bp.aa)) l.length (e:=some (decide ((l.length:Int)=c.2.2.1),())) (no:=some (false,())) ?_ ?_ k 0 (by omega)];unfold zq;cases bL 0 l.length (fun i=>ij (l.getD i bp.aa))<;>simp;intro G i a;simp only[o_];rw[aJ,c_ a,an rfl,an (aG a),N0 hk (VI hk hs a),hJ,br (by omega)];cases ij (l.getD i bp.aa)<;>simp;intro G i a;simp only;rw[aJ,decide_eq_false (by omega),a_ (by simp)];congr 2
end
theorem K4(n:Int):IntKind.u32.wrap n=n%4294967296:=by
 simp[IntKind.wrap,IntKind.signed,IntKind.bits]
theorem abl{a b:Nat}(c:a<4294967296)(d:b<4294967296):bits (fun _=>(·^^^·)) .i64 (a:Int) (b:Int)=((a^^^b:Nat):Int):=by
 have hx:a^^^b<2^32:=aiu (by simpa using c) (by simpa using d);change IntKind.i64.wrap (((BitVec.ofInt 64 (a:Int)^^^BitVec.ofInt 64 (b:Int)).toNat:Nat):Int)=_;rw[BitVec.toNat_xor,BitVec.toNat_ofInt,BitVec.toNat_ofInt];have e:((a:Int)%((2^64:Nat):Int)).toNat=a:=by omega
 have f:((b:Int)%((2^64:Nat):Int)).toNat=b:=by omega
 rw[e,f,wrap64 (by omega) (by omega)]
theorem abx{a b:Nat}(c:a<4294967296)(d:b<4294967296):bits (fun _=>(·^^^·)) .u32 (a:Int) (b:Int)=((a^^^b:Nat):Int):=by
 have hx:a^^^b<2^32:=aiu (by simpa using c) (by simpa using d);change IntKind.u32.wrap (((BitVec.ofInt 32 (a:Int)^^^BitVec.ofInt 32 (b:Int)).toNat:Nat):Int)=_;rw[BitVec.toNat_xor,BitVec.toNat_ofInt,BitVec.toNat_ofInt];have e:((a:Int)%((2^32:Nat):Int)).toNat=a:=by omega
 have f:((b:Int)%((2^32:Nat):Int)).toNat=b:=by omega
 rw[e,f,K4];omega
theorem abp{a:Nat}(ha:a<9223372036854775808):bits (fun _=>(· &&& ·)) .i64 (a:Int) (4294967295:Int)=((a%4294967296:Nat):Int):=by
 change IntKind.i64.wrap (((BitVec.ofInt 64 (a:Int) &&& BitVec.ofInt 64 (4294967295:Int)).toNat:Nat):Int)=_;rw[BitVec.toNat_and,BitVec.toNat_ofInt,BitVec.toNat_ofInt];have b:((a:Int)%((2^64:Nat):Int)).toNat=a:=by omega
 have c:((4294967295:Int)%((2^64:Nat):Int)).toNat=2^32-1:=by decide
 rw[b,c,Nat.and_two_pow_sub_one_eq_mod,wrap64 (by omega) (by omega)]
theorem aby(s:ByteArray)(i:Int):∃b:Nat,bt s i=(b:Int)/\b<256:=by
 unfold bt;exact⟨_,rfl,(s.data.toList.getD i.toNat 0).toNat_lt⟩
theorem QD{n:Nat}(a:n<4294967296)(s:ByteArray)(i:Int):∃m:Nat,m<4294967296/\
 bits (fun _=>(· &&& ·)) .i64 (IntKind.i64.wrap ((bits (fun _=>(·^^^·)) .i64 (n:Int) (IntKind.i64.wrap (bt s i)))*(16777619:Int))) (4294967295:Int)=(m:Int)/\
 IntKind.u32.wrap ((bits (fun _=>(·^^^·)) .u32 (n:Int) (IntKind.u32.wrap (bt s i)))*(16777619:Int))=(m:Int):=by
 obtain⟨b,d,hlt⟩:=aby s i;have c:n^^^b<2^32:=aiu (by simpa using a) (by omega);rw[d,wrap64 (n:=(b:Int)) (by omega) (by omega),K4 (b:Int),show((b:Int)%4294967296)=(b:Int) by omega,abl a (by omega),abx a (by omega)];generalize n^^^b=x at c;rw[wrap64 (by omega) (by omega),show((x:Int)*16777619)=((x*16777619:Nat):Int) by omega,abp (by omega),K4];exact⟨x*16777619%4294967296,by omega,rfl,by omega⟩
section
variable{k:Nat}(hk:9223372036854775808<=k)
include hk
theorem aam{s:ByteArray}(hs:s.size<=4294967296):∃n:Int,mH k (s,())=some (n,())/\rN k (s,())=some (n,()):=by
 have h:∃r:Int×Unit,mH k (s,())=some r/\∃n:Nat,r.1=(n:Int)/\n<4294967296:=by
  simp only[mH];refine Eh (fun(t:ByteArray×Int×Int×Unit)=>s.size-t.2.2.1.toNat) (fun(t:ByteArray×Int×Int×Unit)=>t.1=s/\(∃n:Nat,t.2.1=(n:Int)/\n<4294967296)/\0<=t.2.2.1/\t.2.2.1<=(s.size:Int)) _ ?_ k _ ⟨rfl,⟨2166136261,rfl,by omega⟩,by simp,by simp⟩ (by simp only;omega);rintro G ⟨s',n,i,u⟩ ⟨e1,⟨m,e2,hm⟩,hi0,hi1⟩ hG;change s'=s at e1;change n=_ at e2;subst e1 e2;simp only at hi0 hi1 hG|-;by_cases d:i<(s'.size:Int);rw[an (by simpa using d),an (by simpa using⟨hi0,d⟩)];obtain⟨e,c,q1,_⟩:=QD hm s' i;rw[q1,wrap64 (by omega) (by omega)];exact hG (s',_,i+1,()) ⟨rfl,⟨e,rfl,c⟩,by simp only;omega,by simp only;omega⟩ (by simp only;omega);rw[a_ (by simpa using d)];exact⟨_,rfl,m,rfl,hm⟩
 have j:mH k (s,())=rN k (s,()):=by
  simp only[mH,rN,aR];refine Qy (fun(t f:ByteArray×Int×Int×Unit)=>t=f/\∃n:Nat,t.2.1=(n:Int)/\n<4294967296) (fun a b=>a=b) rfl ?_ k _ _ ⟨rfl,2166136261,rfl,by omega⟩;rintro G G' ⟨s1,n,i,u⟩ f ⟨rfl,m,e2,hm⟩ hG;change n=_ at e2;subst e2;simp only;obtain⟨e,c,q1,q2⟩:=QD hm s1 i;split;split;rw[q1,q2];exact hG _ _ ⟨rfl,e,rfl,c⟩;rfl;rw[wrap64 (by omega) (by omega)]
 obtain⟨⟨n,u⟩,g,_⟩:=h;exact⟨n,g,j▸g⟩
def U3(x:af):ByteArray:=((x.1++(⟨#[61,34]⟩:ByteArray))++x.2)++(⟨#[34]⟩:ByteArray)
def tx(l:List af):Nat->ByteArray
 |0=>⟨#[123]⟩
 |i+1=>((((if i=0 then tx l i else tx l i++(⟨#[44,32]⟩:ByteArray))++(l.getD i ai.aa).1)++(⟨#[61,34]⟩:ByteArray))++(l.getD i ai.aa).2)++(⟨#[34]⟩:ByteArray)
theorem KM{l:List af}(h:eo l=true):∀i,i<=l.length->(tx l i).size<=1+25*i:=by
 simp only[eo,aid,cA]at h;intro i
 induction i with
 |zero=>intro _;simp[tx,ByteArray.size]
 |succ i b=>
  intro hi;have:=b (by omega);have a:=h.2 i (by omega) (by omega);simp only[fU,gq,kj,aid,b_]at a;simp only[tx,ByteArray.size_append];have e1:(⟨#[61,34]⟩:ByteArray).size=2:=rfl;have e2:(⟨#[34]⟩:ByteArray).size=1:=rfl;have e3:(⟨#[44,32]⟩:ByteArray).size=2:=rfl;split;omega;rw[ByteArray.size_append];omega
theorem JP{l:List af}(hs:ag (.sl ai) l<=1048576):pq k (l,())=some (if eo l=true then tx l l.length++(⟨#[125]⟩:ByteArray)else⟨#[]⟩,()):=by
 have hl:=aA (e:=ai) (l:=l);simp only[pq,aR];rw[uo hk hs,hJ];cases b:eo l with
 |false=>simp
 |true=>
  have g:=KM hk b;have a:=b;simp only[eo,aid,cA,b_]at a;rw[a_ (by simp),an rfl];rw[show((l,(⟨#[123]⟩:ByteArray),(0:Int),()):List af×ByteArray×Int×Unit)=(fun i:Nat=>(l,tx l i,(i:Int),())) 0 from rfl];have h:(⟨#[61,34]⟩:ByteArray).size=2:=rfl;have j:(⟨#[34]⟩:ByteArray).size=1:=rfl;have m:(⟨#[44,32]⟩:ByteArray).size=2:=rfl;have o:(⟨#[125]⟩:ByteArray).size=1:=rfl;refine cV (fun i:Nat=>(l,tx l i,(i:Int),())) l.length ?_ ?_ k 0 (by omega) (by omega);intro G i d;have f:=g i (by omega);have c:=a.2 i (by omega) d;simp only[fU,gq,kj,aid,b_]at c;simp only[o_];rw[aJ,c_ d,an rfl];by_cases n:i=0;subst n;have p:(tx l 0).size=1:=rfl;rw[a_ (by simp)];simp only[aG d,if_true,ByteArray.size_append,h,j,p];rw[an (by simp only[b_];omega),an (by simp only[b_];omega),an (by simp only[b_];omega),an (by simp only[b_];omega),br (by omega)];rfl;have h0n:0<i:=by omega
  rw[an (by simp;omega),an (by simp only[m,b_];omega)];simp only[aG d,if_true,ByteArray.size_append,h,j,m];rw[an (by simp only[b_];omega),an (by simp only[b_];omega),an (by simp only[b_];omega),an (by simp only[b_];omega),br (by omega)];simp only[tx,a_ n];intro G;have f:=g l.length (by omega);simp only;rw[aJ,decide_eq_false (by omega),a_ (by simp),an (by simp only[o,b_];omega)]
def pl(l:List af)(i:Nat):List ByteArray:=(List.range i).map (fun j=>U3 (l.getD j ai.aa))
theorem St(l:List af)(i:Nat):pl l (i+1)=pl l i++[U3 (l.getD i ai.aa)]:=by
 simp[pl,List.range_succ]
theorem VV(xs:List (List UInt8))(y sep:List UInt8):Lib.join (xs++[y]) sep=if xs=[]then y else Lib.join xs sep++sep++y:=by
 cases xs with
 |nil=>simp[Lib.join_one]
 |cons x r=>
  rw[a_ (by simp),List.cons_append,Lib.join_cons,Lib.join_cons];simp[Lib.joinTail,aiJ]
theorem SR(l:List af):∀i,(tx l i).data.toList=123::fo (pl l i) ⟨#[44,32]⟩:=by
 intro i
 induction i with
 |zero=>rfl
 |succ i c=>
  unfold fo at c|-;rw[St hk,List.map_append,List.map_singleton,VV hk];simp only[tx,U3];by_cases a:i=0;subst a;simp[pl,tx,ByteArray.data_append]
  have b:List.map (fun x=>x.data.toList) (pl l i)≠ []:=by
   intro e;have:=congrArg O' e;simp[pl]at this;exact a this
  rw[a_ a,a_ b];simp only[ByteArray.data_append,aiF,c];simp[aiJ]
theorem Wd{a b:ByteArray}(h:a.data.toList=b.data.toList):a=b:=by
 cases a;cases b;simp at h;rw[h]
theorem Ke{l:List af}(hs:ag (.sl ai) l<=1048576):pr k (l,())=some (if eo l=true then tx l l.length++(⟨#[125]⟩:ByteArray)else⟨#[]⟩,()):=by
 have hl:=aA (e:=ai) (l:=l);simp only[pr,aR];rw[qt hk hs,hJ];cases c:eo l with
 |false=>simp
 |true=>
  have hb:=KM hk c l.length (by omega);have a:=c;simp only[eo,aid,cA,b_]at a;rw[a_ (by simp),an rfl];rw[show((([]:List ByteArray),l,(l.length:Int),(0:Int),()):List ByteArray×List af×Int×Int×Unit)=(fun i:Nat=>(pl l i,l,(l.length:Int),(i:Int),())) 0 from rfl];have g:(⟨#[61,34]⟩:ByteArray).size=2:=rfl;have h:(⟨#[34]⟩:ByteArray).size=1:=rfl;refine cV (fun i:Nat=>(pl l i,l,(l.length:Int),(i:Int),())) l.length ?_ ?_ k 0 (by omega) (by omega);intro G i f;have d:=a.2 i (by omega) f;simp only[fU,gq,kj,aid,b_]at d;have b:(pl l i).length=i:=by simp[pl]
  simp only[o_];rw[aJ,c_ f,an rfl,an (aG f)];simp only[ByteArray.size_append,g,h];rw[an (by simp only[b_];omega),an (by simp only[b_];omega),an (by simp only[b_];omega),an (by simp only[b_,aio,b];omega),br (by omega),St hk];rfl;intro G;simp only;rw[aJ,decide_eq_false (by omega),a_ (by simp)]
  have hj:(fo (pl l l.length) ⟨#[44,32]⟩).length<=1+25*l.length:=by
   have:=SR hk l l.length;have j:=congrArg O' this;simp only[Array.length_toList,aiw]at j;have h3:(tx l l.length).data.size=(tx l l.length).size:=rfl;omega
  have b:(pl l l.length).length=l.length:=by simp[pl]
  simp only[sQ,Bc];rw[an ⟨by rw[b];omega,by omega⟩,hJ];simp only[ByteArray.size_append];have m:(⟨(fo (pl l l.length) ⟨#[44,32]⟩).toArray⟩:ByteArray).size=(fo (pl l l.length) ⟨#[44,32]⟩).length:=by simp[ByteArray.size]
  have n:(⟨#[123]⟩:ByteArray).size=1:=rfl;have o:(⟨#[125]⟩:ByteArray).size=1:=rfl;rw[m,n,o,an (by simp only[b_];omega),an (by simp only[b_];omega)];congr 2;refine Wd hk ?_;simp only[ByteArray.data_append,aiF];rw[SR hk];simp
theorem NI{l:List af}(hs:ag (.sl ai) l<=1048576):∃n:Int,hZ k (l,())=some (n,())/\gg k (l,())=some (n,()):=by
 simp only[hZ,gg];rw[JP hk hs,Ke hk hs];simp only[hJ]
 have b:(if eo l=true then tx l l.length++(⟨#[125]⟩:ByteArray)else⟨#[]⟩).size<=4294967296:=by
  split;rename_i a;have hb:=KM hk a l.length (by omega)
  have hl:l.length<=4:=by
   simp only[eo,aid,b_]at a;exact a.1
  have e4:(⟨#[125]⟩:ByteArray).size=1:=rfl;rw[ByteArray.size_append];omega;simp[ByteArray.size]
 obtain⟨n,q1,q2⟩:=aam hk b;rw[q1,q2];simp only[hJ];rw[an (by simp),an (by simp)];exact⟨_,rfl,rfl⟩
theorem V9(f n:Int):iX k (f,n,())=nc k (f,n,()):=rfl
theorem dS{a:ae}(h:ag ab a<=1073741824):bO k (a,())=some (a,()):=by
 have h1:=bI hk a;have h2:=aA (e:=ai) (l:=a.1);simp only[bO];rw[an (by simp;omega)];simp
theorem Tt{l:List af}(h:l.length<=1073741824):py k (l,())=some (l,()):=by
 simp only[py];rw[an (by simp;omega)];simp
theorem DL{a:ae}(h:ag ab a<=1073741824):iz k (a,())=some (a,()):=by
 have h1:=bI hk a;have h2:=aA (e:=ai) (l:=a.1);simp only[iz];rw[Tt hk (by omega),hJ]
theorem gM{l:List ae}(h:ag (.sl ab) l<=1073741824):cF k (l,())=some (l,()):=
 Dj (d:=ab.aa) (S:=bO k) hk (J5 (aA (e:=ab)) h) (fun e he=>dS hk (J5 (dK (e:=ab) he) h))
theorem Oj{l:List ae}(h:ag (.sl ab) l<=1073741824):pN k (l,())=some (l,()):=
 aaj (d:=ab.aa) (S:=iz k) hk (J5 (aA (e:=ab)) h) (fun e he=>DL hk (J5 (dK (e:=ab) he) h))
theorem AF{g:au}(h:ag ak g<=1073741824):iy k (g,())=some (g,()):=by
 have h1:=gV hk g;have h2:=aA (e:=ai) (l:=g.2.1);simp only[iy];rw[an (by simp;omega),gM hk (by omega),hJ];simp
theorem Fx{b:bY}(h1:ag (.sl ai) b.2.1<=1073741824)(h3:ag (.sl ab) b.2.2.2<=1073741824):iT k (b,())=some (b,()):=by
 have h2:=aA (e:=ai) (l:=b.2.1);simp only[iT];rw[an (by simp;omega),gM hk (by omega),hJ];simp
theorem JJ{c:bo}(h:ag eK c<=1073741824):lX k (c,())=some (c,()):=by
 have h1:=sO hk c;have h2:=aA (e:= .str) (l:=c.2.2.2.2.2);simp only[lX];rw[an (by simp;omega)];simp
def eU(now:Int)(l:List ae):List ae:=l.filter fun a=> !decide (a.2.2.1<=now)
omit hk in
theorem Fl{now:Int}{l:List ae}{i:Nat}(h:i<l.length):eU now (l.take (i+1))=if(!decide ((l.getD i ab.aa).2.2.1<=now))=true then eU now (l.take i)++[l.getD i ab.aa]else eU now (l.take i):=by
 rw[oI ab.aa h,eU,eU,List.filter_append,filter_one];split<;>simp
omit hk in
theorem JC{now:Int}{l:List ae}:(eU now l).length<=l.length:=aiC ..
omit hk in
theorem UK{now:Int}{l:List ae}:ag (.sl ab) (eU now l)<=ag (.sl ab) l:=uX (e:=ab) _ l
def je(g:au)(now:Int):au:=(g.1,g.2.1,g.2.2.1,now,eU now g.2.2.2.2)
def vD(g:au)(now:Int):bY:=(g.1,g.2.1,now,g.2.2.2.2)
theorem OY{g:au}{now:Int}(h:ag ak g<=1073741824):sn k (g,now,())=some (je g now,vD g now,()):=by
 have h1:=gV hk g;have hl:=aA (e:=ab) (l:=g.2.2.2.2);simp only[sn,aR];rw[AF hk h,hJ];refine cV (fun i=>(now,g,_,_,(g.1,g.2.1,g.2.2.1,now,eU now (g.2.2.2.2.take i)),(i:Int),())) g.2.2.2.2.length (fun G i a=> ?_) (fun G=> ?_) k 0 (by omega) (by omega);have hm:=dK (e:=ab) (dp (d:=ab.aa) a);have b:=JC (now:=now) (l:=g.2.2.2.2.take i);rw[aim]at b;simp only[aJ,aG a,a,decide_true,if_true,o_,pV,hJ];rw[dS hk (by omega),Fl a,br (by omega)];simp only[hJ];split;rw[an (by simp;omega)];rfl;simp only[aJ,aik,decide_false,I_,if_false,aie];rw[Fx hk (by simp only;omega) (by simp only;omega),hJ];rfl
theorem UC{g:au}{now:Int}:ag ak (je g now)<=ag ak g:=by
 rw[gV hk,gV hk];have:=UK (now:=now) (l:=g.2.2.2.2);simp only[je];omega
theorem UG{g:au}{now:Int}:ag eP (vD g now)=ag ak g:=by
 rw[gV hk,wW hk];rfl
end
def dq(k:Nat)(l:List af):Int:=match hZ k (l,())with|some r=>r.1|none=>0
def fE(f n:Int):Int:=if n<1 then 0 else if f<0 then 0 else Int.tmod f n
def iC(l:List ae)(s:List af):Option Nat:=gC l.length (fun i=>decide ((l.getD i ab.aa).1=s))
def DD(l:List ae):Bool:=bL 0 l.length (fun i=>bL 0 i (fun j=> !decide ((l.getD j ab.aa).1=(l.getD i ab.aa).1)))
def fw(k:Nat)(c:aZ):Bool:=bL 0 c.2.length (fun i=>bB (c.2.getD i ab.aa)&&decide (dq k (c.2.getD i ab.aa).1=c.1))&&(decide (0<c.2.length)&&DD c.2)
def CE(l:List aZ)(i:Nat):Bool:=i==0||decide ((l.getD (i-1) az.aa).1<(l.getD i az.aa).1)
def jj(k:Nat)(p:aq)(i n:Int):Bool:=
 bL 0 p.2.2.length (fun j=>fw k (p.2.2.getD j az.aa)&&(decide (fE (p.2.2.getD j az.aa).1 n=i)&&CE p.2.2 j))&&(bw p.1 (-1) 4&&decide (0<=p.2.1))
def eY(k:Nat)(l:List aq):Bool:=bL 0 l.length (fun i=>jj k (l.getD i aj.aa) i l.length)&&bw l.length 1 3
theorem fL{e:Ty}{l:List e.den}{i:Nat}{d:e.den}(hi:i<l.length):ag e (l.getD i d)+l.length<=ag (.sl e) l:=by
 have h:=PI (f:=ag e) (dp (d:=d) hi);simp only[ag];omega
section
variable{k:Nat}(hk:9223372036854775808<=k)
include hk
theorem sI{l:List af}(hs:ag (.sl ai) l<=1048576):hZ k (l,())=some (dq k l,()):=by
 obtain⟨n,a,h2⟩:=NI hk hs;unfold dq;rw[a]
theorem lN{l:List af}(hs:ag (.sl ai) l<=1048576):gg k (l,())=some (dq k l,()):=by
 obtain⟨n,a,b⟩:=NI hk hs;unfold dq;rw[a,b]
theorem yX{f n:Int}:nc k (f,n,())=some (fE f n,()):=by
 simp only[nc,fE];by_cases a:n<1;simp[a];by_cases b:f<0;simp[a,b];have c:n≠0:=by omega
 simp[a,b,c]
theorem pg{f n:Int}:iX k (f,n,())=some (fE f n,()):=by
 rw[V9 hk,yX hk]
omit hk in
theorem Hw{f n:Int}(h:1<=n):0<=fE f n/\fE f n<n:=by
 unfold fE;rw[a_ (by omega)];split;omega;exact⟨Int.tmod_nonneg _ (by omega),Int.tmod_lt_of_pos _ (by omega)⟩
theorem FD{l:List ae}{s:List af}(hs:ag (.sl ab) l<=1048576):kH k (l,s,())=some (gD (iC l s),()):=by
 have hl:=aA (e:=ab) (l:=l);simp only[kH];refine(kF (fun i:Nat=>(s,l,(l.length:Int),(i:Int),())) (fun i=>decide ((l.getD i ab.aa).1=s)) l.length (e:=some (-1,())) (fun i=>some ((i:Int),())) (fun G i a=> ?_) (fun G=> ?_) k (by omega)).trans ?_;obtain⟨h1,b⟩:=ov hk hs a;simp only[aJ,aG a,a,decide_true,if_true,o_,gN hk b,hJ];rw[br (by omega)];simp;unfold iC;cases gC l.length (fun i=>decide ((l.getD i ab.aa).1=s))<;>rfl
theorem sA{c:aZ}{s:List af}(hs:ag (.sl ab) c.2<=1048576):iw k (c,s,())=some (gD (iC c.2 s),()):=by
 have hl:=aA (e:=ab) (l:=c.2);simp only[iw];refine(kF (fun i:Nat=>(s,c,(i:Int),())) (fun i=>decide ((c.2.getD i ab.aa).1=s)) c.2.length (e:=some (-1,())) (fun i=>some ((i:Int),())) (fun G i a=> ?_) (fun G=> ?_) k (by omega)).trans ?_;obtain⟨h1,b⟩:=ov hk hs a;simp only[aJ,aG a,a,decide_true,if_true,o_,rf hk b,hJ];rw[br (by omega)];simp;unfold iC;cases gC c.2.length (fun i=>decide ((c.2.getD i ab.aa).1=s))<;>rfl
theorem J0{c:aZ}{s:List af}(hs:ag (.sl ab) c.2<=1048576):oZ k (c,s,())=some (gD (iC c.2 s),()):=by
 simp only[oZ];rw[FD hk hs,hJ]
omit hk in
theorem Tu{l:List ae}{i:Nat}(hi:i<l.length):(iC (l.take i) (l.getD i ab.aa).1=none)↔bL 0 i (fun j=> !decide ((l.getD j ab.aa).1=(l.getD i ab.aa).1))=true:=by
 unfold iC;rw[iQ,cA];have c:(l.take i).length=i:=by simp;omega
 rw[c]
 have b:∀j,j<i->(l.take i).getD j ab.aa=l.getD j ab.aa:=by
  intro j a;simp[H',List.getElem?_take,a]
 constructor;intro h j _ a;have:=h j a;rw[b j a]at this;simp only[this,ais];intro h j a;have:=h j (by omega) a;rw[b j a];simpa using this
theorem LY{l:List ae}(hs:ag (.sl ab) l<=1048576):kG k (l,())=some (DD l,()):=by
 have hl:=aA (e:=ab) (l:=l);simp only[kG];refine(dZ (fun i:Nat=>(l,l,(l.length:Int),(i:Int),())) (fun i=>bL 0 i (fun j=> !decide ((l.getD j ab.aa).1=(l.getD i ab.aa).1))) l.length (e:=some (true,())) (no:=some (false,())) ?_ ?_ k 0 (by omega)).trans ?_;intro G i a;have ht:=dw (e:=ab) l i;simp only[aJ,aG a,a,decide_true,if_true,o_];rw[an (by simp;omega),FD hk (by omega),hJ,br (by omega)];have key:=Tu a;cases b:bL 0 i (fun j=> !decide ((l.getD j ab.aa).1=(l.getD i ab.aa).1))with
 |true=>
  rw[key.2 b];rfl
 |false=>
  cases c:iC (l.take i) (l.getD i ab.aa).1 with
  |none=>rw[key.1 c]at b;cases b
  |some j=>rw[an (by simp[gD]),a_ (by simp)]
 intro G i a;simp only[aJ];rw[a_ (by simp;omega)];unfold DD;split<;>simp_all
theorem xr{c:aZ}(hs:ag az c<=1048576):pD k (c,())=some (fw k c,()):=by
 rw[eW hk]at hs;have hl:=aA (e:=ab) (l:=c.2);simp only[pD,aR]
 refine(dZ (fun i:Nat=>(c,c.2,(c.2.length:Int),(i:Int),())) (fun i=>bB (c.2.getD i ab.aa)&&decide (dq k (c.2.getD i ab.aa).1=c.1)) c.2.length
  (e:=some (decide (0<c.2.length)&&DD c.2,())) (no:=some (false,())) ?_ ?_ k 0 (by omega)).trans ?_
 intro G i a;obtain⟨g,h2⟩:=ov hk hs a;have h3:=bI hk (c.2.getD i ab.aa);simp only[aJ,aG a,a,decide_true,if_true,o_,kz hk g,lN hk (l:=(c.2.getD i ab.aa).1) (by omega),hJ,dn];rw[br (by omega)];generalize bB (c.2.getD i ab.aa)=b1;generalize dq k (c.2.getD i ab.aa).1=f;cases b1<;>by_cases b:f=c.1<;>simp[b];intro G i a;simp only[aJ];rw[a_ (by simp;omega),LY hk hs];by_cases d:0<c.2.length<;>simp[d];unfold fw;cases bL 0 c.2.length (fun i=>bB (c.2.getD i ab.aa)&&decide (dq k (c.2.getD i ab.aa).1=c.1))<;>simp
end
theorem Pc{j:Nat}(h:j<4611686018427387904):IntKind.i64.wrap (((j+1:Nat):Int)-1)=(j:Int):=by
 rw[wrap64 (by omega) (by omega)];omega
theorem Ta(j:Nat):decide ((((j+1:Nat):Int))>0)=true:=by simp
theorem Y3:decide ((((0:Nat):Int))>0)=false:=by simp
def bX(a b:aC):Bool:=decide (a.1<b.1)||(decide (a.1=b.1)&&decide (a.2<b.2))
def oJ(l:List aC):Bool:=
 bL 0 l.length (fun i=>(decide (0<=(l.getD i aD.aa).1)&&decide (0<=(l.getD i aD.aa).2))&&(i==0|| !bX (l.getD i aD.aa) (l.getD ((i-1)/2) aD.aa)))&&decide (l.length<=16)
abbrev lJ(c:aZ):List ae:=c.2
def aU(p:aq):List ae:=p.2.2.flatMap lJ
def cK(l:List aq):List ae:=l.flatMap aU
def bm(l:List aq):Nat:=(cK l).length
def gR(p:aq)(f:Int):Option Nat:=gC p.2.2.length (fun i=>decide ((p.2.2.getD i az.aa).1=f))
def cW:ae:=([],0,0,ByteArray.empty)
def gx(k:Nat)(p:aq)(s:List af):ae×Bool:=
 match gR p (dq k s)with
 |none=>(cW,false)
 |some i=>match iC (p.2.2.getD i az.aa).2 s with
  |none=>(cW,false)
  |some j=>((p.2.2.getD i az.aa).2.getD j ab.aa,true)
def bF(k:Nat)(l:List aq)(s:List af):Int:=fE (dq k s) l.length
def cj(k:Nat)(l:List aq)(s:List af):ae×Bool:=if l.length=0 then(cW,false)else gx k (l.getD (bF k l s).toNat aj.aa) s
def j8(c:bo)(g:au):Int:=IntKind.i64.wrap (if g.2.2.2.1= -1 then g.2.2.1+c.2.2.2.1 else g.2.2.2.1+c.2.2.2.2.1)
theorem fB{α β:Type}{f:α->List β}{l:List α}{i:Nat}(d:α)(h:i<l.length):(l.take (i+1)).flatMap f=(l.take i).flatMap f++f (l.getD i d):=by
 rw[oI d h,List.flatMap_append];simp
section
variable{k:Nat}(hk:9223372036854775808<=k)
include hk
theorem mQ{e f:Ty}{g:e.den->List f.den}(h:∀x,ag (.sl f) (g x)<=ag e x):∀l:List e.den,ag (.sl f) (l.flatMap g)<=ag (.sl e) l
 | []=>by simp[ag]
 |x::l=>by
  have h1:=h x;have h2:=mQ h l;rw[List.flatMap_cons,iS,cG];omega
theorem od(p:aq):ag (.sl ab) (aU p)<=ag aj p:=by
 rw[e9 hk];exact mQ hk (e:=az) (f:=ab) (g:=lJ) (fun c=>by rw[eW hk];exact ait _) p.2.2
theorem jz(l:List aq):ag (.sl ab) (cK l)<=ag (.sl aj) l:=mQ hk (e:=aj) (f:=ab) (g:=aU) (od hk) l
theorem jR{p:aq}{i:Nat}(hs:ag aj p<=1048576)(hi:i<p.2.2.length):ag az (p.2.2.getD i az.aa)<=1048576/\ag (.sl ab) (p.2.2.getD i az.aa).2<=1048576:=by
 rw[e9 hk]at hs;have h1:=fL (e:=az) (d:=az.aa) hi;have h2:=eW hk (p.2.2.getD i az.aa);omega
theorem MO{p:aq}{i n:Int}(hs:ag aj p<=1048576):qg k (p,i,n,())=some (jj k p i n,()):=by
 have hl:p.2.2.length<=1048576:=by rw[e9 hk]at hs;have:=aA (e:=az) (l:=p.2.2);omega
 simp only[qg,aR]
 refine(dZ (fun j:Nat=>(i,n,p,p.2.2,(p.2.2.length:Int),(j:Int),())) (fun j=>fw k (p.2.2.getD j az.aa)&&(decide (fE (p.2.2.getD j az.aa).1 n=i)&&CE p.2.2 j)) p.2.2.length
  (e:=some (bw p.1 (-1) 4&&decide (0<=p.2.1),())) (no:=some (false,())) ?_ ?_ k 0 (by omega)).trans ?_
 intro G j a;obtain⟨g,_⟩:=jR hk hs a;cases j with
 |zero=>
  simp only[aJ,aG a,a,Y3,decide_true,if_true,o_,xr hk g,pg hk,hJ,dn,beq_self_eq_true,I_,if_false,CE,aix,aiE];rw[br (by omega)];generalize fw k (p.2.2.getD 0 az.aa)=b1;generalize fE (p.2.2.getD 0 az.aa).1 n=f;cases b1<;>by_cases c:f=i<;>simp[c]
 |succ m=>
  have hm:m<p.2.2.length:=by omega
  simp only[aJ,aG a,aG hm,a,Ta,Pc (show m<4611686018427387904 by omega),decide_true,if_true,o_,xr hk g,pg hk,hJ,dn,beq_self_eq_true,CE,P_,aiv];rw[br (by omega)];generalize fw k (p.2.2.getD (m+1) az.aa)=b1;generalize fE (p.2.2.getD (m+1) az.aa).1 n=f;generalize (p.2.2.getD m az.aa).1=u;generalize (p.2.2.getD (m+1) az.aa).1=v;have h:((m+1:Nat)==0)=false:=rfl;rw[h];cases b1<;>by_cases c:f=i<;>by_cases d:u<v<;>simp[c,d]<;>omega
 intro G j a;simp only[aJ];rw[a_ (by simp;omega),jr hk,hJ];generalize bw p.1 (-1) 4=b;cases b<;>simp;unfold jj;cases bL 0 p.2.2.length (fun j=>fw k (p.2.2.getD j az.aa)&&(decide (fE (p.2.2.getD j az.aa).1 n=i)&&CE p.2.2 j))<;>simp
theorem ni{l:List aq}{i:Nat}(hs:ag (.sl aj) l<=1048576)(hi:i<l.length):ag aj (l.getD i aj.aa)<=1048576:=by
 have h1:=fL (e:=aj) (d:=aj.aa) hi;omega
theorem H6{l:List aq}(hs:ag (.sl aj) l<=1048576):oO k (l,())=some (eY k l,()):=by
 have hl:=aA (e:=aj) (l:=l);simp only[oO];rw[jr hk,hJ];unfold eY;cases hin:bw l.length 1 3 with
 |false=>simp
 |true=>
  rw[a_ (by simp)];refine(dZ (fun i:Nat=>(l,l,(l.length:Int),(i:Int),())) (fun i=>jj k (l.getD i aj.aa) i l.length) l.length (e:=some (true,())) (no:=some (false,())) ?_ ?_ k 0 (by omega)).trans ?_;intro G i a;simp only[aJ,aG a,a,decide_true,if_true,o_,MO hk (ni hk hs a),hJ];rw[br (by omega)];cases jj k (l.getD i aj.aa) i l.length<;>simp;intro G i a;simp only[aJ];rw[a_ (by simp;omega)];cases bL 0 l.length (fun i=>jj k (l.getD i aj.aa) i l.length)<;>simp
theorem wq{p:aq}(hs:ag aj p<=1048576):kO k (p,())=some (aU p,()):=by
 have hl:p.2.2.length<=1048576:=by rw[e9 hk]at hs;have:=aA (e:=az) (l:=p.2.2);omega
 simp only[kO];refine cV (fun i:Nat=>(p,(p.2.2.take i).flatMap lJ,(i:Int),())) p.2.2.length (fun G i a=> ?_) (fun G=> ?_) k 0 (by omega) (by omega);obtain⟨h1,h2⟩:=jR hk hs a;have hb:=mQ hk (e:=az) (f:=ab) (g:=lJ) (fun c=>by rw[eW hk];exact ait _) (p.2.2.take i);have hb2:=dw (e:=az) p.2.2 i;have hb3:=aA (e:=ab) (l:=(p.2.2.take i).flatMap lJ);have hb4:=aA (e:=ab) (l:=(p.2.2.getD i az.aa).2);rw[e9 hk]at hs;simp only[aJ,aG a,a,decide_true,if_true,o_];rw[gM hk (by omega),hJ,an (by simp only[b_];omega),br (by omega),fB az.aa a];simp[aU]
theorem vv{p:aq}(hs:ag aj p<=1048576):kK k (p,())=some (aU p,()):=by
 have hl:p.2.2.length<=1048576:=by rw[e9 hk]at hs;have:=aA (e:=az) (l:=p.2.2);omega
 simp only[kK];refine cV (fun i:Nat=>(p,(p.2.2.take i).flatMap lJ,p.2.2,(p.2.2.length:Int),(i:Int),())) p.2.2.length (fun G i a=> ?_) (fun G=> ?_) k 0 (by omega) (by omega);obtain⟨h1,h2⟩:=jR hk hs a;have hb:=mQ hk (e:=az) (f:=ab) (g:=lJ) (fun c=>by rw[eW hk];exact ait _) (p.2.2.take i);have hb2:=dw (e:=az) p.2.2 i;have hb3:=aA (e:=ab) (l:=(p.2.2.take i).flatMap lJ);have hb4:=aA (e:=ab) (l:=(p.2.2.getD i az.aa).2);rw[e9 hk]at hs;simp only[aJ,aG a,a,decide_true,if_true,o_];rw[Oj hk (by omega),hJ,an (by simp only[b_];omega),br (by omega),fB az.aa a];simp[aU]
end
theorem M7{α:Type}(lt:α->α->Bool)(x:α):∀r:List α,cI lt x r=r.takeWhile (lt x)++x::r.dropWhile (lt x)
 | []=>rfl
 |y::r=>by
  simp only[cI,air,List.dropWhile_cons];split;rw[M7 lt x r];rfl;rfl
theorem C7{α:Type}(p:α->Bool)(d:α):∀(r:List α) (m:Nat),m<(r.takeWhile p).length->p (r.getD m d)=true
 | [],m,h=>by simp at h
 |y::r,m,h=>by
  rw[air]at h;split at h;cases m with
  |zero=>simpa
  |succ m=>rw[aiG];exact C7 p d r m (by simpa using h)
  simp at h
theorem Bt{α:Type}(p:α->Bool)(d:α):∀(r:List α),(r.takeWhile p).length<r.length->p (r.getD (r.takeWhile p).length d)=false
 | [],h=>by simp at h
 |y::r,h=>by
  rw[air]at h|-;split;rename_i a;rw[an a]at h;simp only[aiw,aiG];exact Bt p d r (by simpa using h);simpa using ‹¬p y=true›
theorem QF{α:Type}(d:α)(l:List α)(m:Nat)(h:m<l.length):l.reverse.getD m d=l.getD (l.length-1-m) d:=by
 rw[H',List.getElem?_reverse h,<-H']
def ia{α:Type}(lt:α->α->Bool)(x:α)(out:List α):Nat:=(out.reverse.takeWhile (lt x)).length
theorem Yk{α:Type}(lt:α->α->Bool)(x:α)(r:List α):(cI lt x r).reverse=r.reverse.take (r.reverse.length-ia lt x r.reverse)++[x]++r.reverse.drop (r.reverse.length-ia lt x r.reverse):=by
 have hc:(r.takeWhile (lt x)).length<=r.length:=(aiB _).length_le;have a:ia lt x r.reverse=(r.takeWhile (lt x)).length:=by unfold ia;rw[List.reverse_reverse]
 have b:r.reverse.length=r.length:=ail ..;rw[M7,a,b,List.take_reverse,List.drop_reverse];have c:r.length-(r.length-(r.takeWhile (lt x)).length)=(r.takeWhile (lt x)).length:=by omega
 rw[c]
 have d:r.drop (r.takeWhile (lt x)).length=r.dropWhile (lt x):=by
  conv=>lhs;arg 2;rw[<-aip (p:=lt x) (l:=r)]
  rw[List.drop_left]
 have e:r.take (r.takeWhile (lt x)).length=r.takeWhile (lt x):=by
  conv=>lhs;arg 2;rw[<-aip (p:=lt x) (l:=r)]
  rw[List.take_left]
 rw[d,e];simp
def tu{α:Type}(lt:α->α->Bool)(l:List α):List α:=l.foldl (fun r x=>cI lt x r) []
theorem ID{α:Type}(lt:α->α->Bool)(x:α):∀r:List α,(cI lt x r).length=r.length+1
 | []=>rfl
 |y::r=>by simp only[cI];split<;>simp[ID lt x r]
theorem Ts{α:Type}(lt:α->α->Bool){l:List α}{i:Nat}(d:α)(h:i<l.length):tu lt (l.take (i+1))=cI lt (l.getD i d) (tu lt (l.take i)):=by
 unfold tu;rw[oI d h,List.foldl_append];rfl
theorem NF{α:Type}(lt:α->α->Bool)(l:List α):(tu lt l).length=l.length:=by
 have:∀(l r:List α),(l.foldl (fun r x=>cI lt x r) r).length=l.length+r.length:=by
  intro l
  induction l with
  |nil=>intro r;simp
  |cons x l a=>intro r;rw[aiL,a,ID,aiw];omega
 simpa[tu]using this l []
theorem Ip{e:Ty}(lt:e.den->e.den->Bool)(x:e.den):∀r:List e.den,ag (.sl e) (cI lt x r)=1+ag e x+ag (.sl e) r
 | []=>by simp only[cI];rw[cG]
 |y::r=>by
  simp only[cI];split;rw[cG,cG,Ip lt x r];omega;rw[cG,cG]
theorem WE{e:Ty}(lt:e.den->e.den->Bool)(l:List e.den):ag (.sl e) (tu lt l)=ag (.sl e) l:=by
 have:∀(l r:List e.den),ag (.sl e) (l.foldl (fun r x=>cI lt x r) r)=ag (.sl e) l+ag (.sl e) r:=by
  intro l
  induction l with
  |nil=>intro r;simp[ag]
  |cons x l a=>intro r;rw[aiL,a,Ip,cG];omega
 have h:=this l [];rw[bu]at h;exact h
theorem Zn{e:Ty}(l:List e.den):ag (.sl e) l.reverse=ag (.sl e) l:=by
 simp only[ag,ail,List.map_reverse,List.sum_reverse]
theorem Ub{e:Ty}(lt:e.den->e.den->Bool)(l:List e.den):ag (.sl e) (cD lt l)=ag (.sl e) l:=by
 show ag (.sl e) (tu lt l).reverse=_;rw[Zn,WE]
theorem wG(l:List ae):ag (.sl ab) (dN l)=ag (.sl ab) l:=Ub (e:=ab) dB l
section
variable{k:Nat}(hk:9223372036854775808<=k)
include hk
theorem Nx{l:List ae}(hs:ag (.sl ab) l<=1048576):ku k (l,())=some (dN l,()):=by
 have hl:=aA (e:=ab) (l:=l);simp only[ku];refine cV (fun i:Nat=>(l,(tu dB (l.take i)).reverse,(i:Int),())) l.length (fun G i f=> ?_) (fun G=> ?_) k 0 (by omega) (by omega);obtain⟨h1,n⟩:=ov hk hs f;simp only[aJ,aG f,f,decide_true,if_true,o_];rw[dS hk (by omega),hJ,Ts dB ab.aa f,Yk];generalize hx:l.getD i ab.aa=x at*
 have hol:(tu dB (l.take i)).reverse.length=i:=by rw[ail,NF];simp;omega
 generalize hout:(tu dB (l.take i)).reverse=out at*
 have c:ia dB x out<=out.length:=by
  unfold ia;have:=(aiB (dB x) (l:=out.reverse)).length_le;simpa using this
 simp only[aR];refine cV (fun m:Nat=>(l,out,(i:Int),x,((out.length-m:Nat):Int),())) (ia dB x out) (fun p m hm=> ?_) (fun p=> ?_) k 0 (by omega) (by omega)
 have d:dB x (out.getD (out.length-1-m) ab.aa)=true:=by
  have:=C7 (dB x) ab.aa out.reverse m hm;rwa [QF _ _ _ (by omega)]at this
 obtain⟨q,o⟩:∃q,out.length-m=q+1:=⟨out.length-m-1,by omega⟩
 have g:out.length-(m+1)=q:=by omega
 have h:out.length-1-m=q:=by omega
 rw[h]at d;simp only[o,Ta,Pc (show q<4611686018427387904 by omega),aG (show q<out.length by omega),P_,if_true,beq_self_eq_true,o_,re hk n,sg hk n,hJ,g];rw[an d]
 have a:(if decide (((out.length-ia dB x out:Nat):Int)>0)=true then dB x (out.getD (out.length-ia dB x out-1) ab.aa)else false)=false:=by
  by_cases j:ia dB x out=out.length;rw[j,Nat.sub_self];rfl;rw[an (by simp;omega)];have:=Bt (dB x) ab.aa out.reverse (by rw[ail];unfold ia at j c;omega);rw[QF _ _ _ (by unfold ia at j c;omega)]at this;unfold ia;rw[show out.length-(aiM (dB x) out.reverse).length-1=out.length-1-(aiM (dB x) out.reverse).length by omega];exact this
 have fin:(if(decide (0<=(((out.length-ia dB x out:Nat):Int))/\(((out.length-ia dB x out:Nat):Int))<=((O' out:Nat):Int)))=true then
  if(decide (O' ([]:List ae)+O' (aiH (ain ((out.length-ia dB x out:Nat):Int)) out)<4294967296))=true then
   if(decide (O' (([]:List ae)++(aiH (ain ((out.length-ia dB x out:Nat):Int)) out))+O' ([x]:List ae)<4294967296))=true then
    if(decide (0<=(((out.length-ia dB x out:Nat):Int))/\(((out.length-ia dB x out:Nat):Int))<=((O' out:Nat):Int)))=true then
     if(decide (O' ((([]:List ae)++(aiH (ain ((out.length-ia dB x out:Nat):Int)) out))++([x]:List ae))+O' (List.drop (ain ((out.length-ia dB x out:Nat):Int)) out)<4294967296))=true then
      G (l,((([]:List ae)++(aiH (ain ((out.length-ia dB x out:Nat):Int)) out))++([x]:List ae))++(List.drop (ain ((out.length-ia dB x out:Nat):Int)) out),IntKind.i64.wrap ((i:Int)+(1:Int)),())
     else none
    else none
   else none
  else none
  else none)=G (l,out.take (out.length-ia dB x out)++[x]++out.drop (out.length-ia dB x out),((i+1:Nat):Int),()):=by
  rw[an (by simp only[b_];omega),an (by simp only[b_,aiA,aim];omega),an (by simp only[b_,aii,aiA,aim,aio];omega),an (by simp only[b_];omega),an (by simp only[b_,aii,aiA,aim,aio,List.length_drop];omega),br (by omega),o_,List.nil_append]
 by_cases r:out.length-ia dB x out=0;rw[r]at fin|-;simp only[Y3,I_,if_false,beq_self_eq_true,I_,ais,aix,if_true,hJ];have s:(!((false:Bool)==true)||decide (0<=IntKind.i64.wrap (((0:Nat):Int)-1)/\IntKind.i64.wrap (((0:Nat):Int)-1)<((out.length:Nat):Int)))=true:=rfl;rw[an s];exact fin;obtain⟨q,o⟩:∃q,out.length-ia dB x out=q+1:=⟨out.length-ia dB x out-1,by omega⟩
 rw[o]at a fin|-;rw[Ta,an rfl,aiv]at a;simp only[Ta,Pc (show q<4611686018427387904 by omega),aG (show q<out.length by omega),P_,if_true,beq_self_eq_true,o_,sg hk n,hJ];have b:bq x.1 (out.getD q ab.aa).1=false:=a;rw[a_ (by rw[b];simp)];exact fin;simp only[aJ,aik,decide_false,I_,if_false,aie];rfl
end
theorem yq{β:Type}{c:Bool}{a b:β}(h:c=false):(if c=true then a else b)=b:=by rw[h];rfl
theorem YY{a b:Nat}(h:a+b<4611686018427387904):IntKind.i64.wrap ((a:Int)+(b:Int))=((a+b:Nat):Int):=by
 rw[wrap64 (by omega) (by omega)];omega
theorem LN(u:Int):decide (0<=u)= !decide (u<0):=by by_cases h:u<0<;>simp[h]<;>omega
theorem No{q:Nat}(h:q<4611686018427387904):IntKind.i64.wrap (Int.tdiv (IntKind.i64.wrap (((q+1:Nat):Int)-1)) 2)=((q/2:Nat):Int):=by
 rw[Pc h,Int.tdiv_eq_ediv_of_nonneg (by omega),wrap64 (by omega) (by omega)];omega
section
variable{k:Nat}(hk:9223372036854775808<=k)
include hk
theorem EU{l:List aq}(hs:ag (.sl aj) l<=1048576):dx k (l,())=some (dN (cK l),()):=by
 have hl:=aA (e:=aj) (l:=l);simp only[dx,aR];refine cV (fun i:Nat=>(l,(l.take i).flatMap aU,(i:Int),())) l.length (fun G i a=> ?_) (fun G=> ?_) k 0 (by omega) (by omega);have c:=ni hk hs a;have b:=jz hk (l.take i);unfold cK at b;have hb1:=od hk (l.getD i aj.aa);have hb2:=dw (e:=aj) l i;have hb3:=aA (e:=ab) (l:=(l.take i).flatMap aU);have hb4:=aA (e:=ab) (l:=aU (l.getD i aj.aa));simp only[aJ,aG a,a,decide_true,if_true,o_];rw[wq hk c,hJ,an (by simp only[b_];omega),br (by omega),fB aj.aa a];have b:=jz hk l;simp only[aJ,aik,decide_false,I_,if_false,aie];show aiK (ku k (cK l,())) _=_;rw[Nx hk (by omega)];rfl
theorem EY{l:List aq}(hs:ag (.sl aj) l<=1048576)(g:bm l<20):mG k (l,())=some (dN (cK l),()):=by
 have hl:=aA (e:=aj) (l:=l);simp only[mG,aR];refine cV (fun i:Nat=>((l.take i).flatMap aU,l,(l.length:Int),(i:Int),())) l.length (fun G i b=> ?_) (fun G=> ?_) k 0 (by omega) (by omega);have c:=ni hk hs b;have d:=jz hk (l.take i);unfold cK at d;have hb1:=od hk (l.getD i aj.aa);have hb2:=dw (e:=aj) l i;have hb3:=aA (e:=ab) (l:=(l.take i).flatMap aU);have hb4:=aA (e:=ab) (l:=aU (l.getD i aj.aa));simp only[aJ,aG b,b,decide_true,if_true,o_];rw[vv hk c,hJ,an (by simp only[b_];omega),br (by omega),fB aj.aa b];simp only[aJ,aik,decide_false,I_,if_false,aie];show aiK (nM k (cK l,())) _=_;simp only[nM,vQ];rw[an ?_];rfl;simp only[aid,b_,List.all_eq_true];refine⟨Nat.lt_trans g (by decide),fun a f=> ?_⟩;have d:=jz hk l;have hm:=dK (e:=ab) f;have c:=bI hk a;have h2:=aA (e:=ai) (l:=a.1);omega
theorem Vj{l:List aq}(hs:ag (.sl aj) l<=1048576):bm l<=1048576:=by
 have h1:=jz hk l;have h2:=aA (e:=ab) (l:=cK l);unfold bm;omega
theorem Jp{l:List aq}(hs:ag (.sl aj) l<=1048576):oR k (l,())=some ((bm l:Int),()):=by
 have hl:=aA (e:=aj) (l:=l);simp only[oR];refine cV (fun i:Nat=>(l,((((l.take i).flatMap aU).length:Nat):Int),(i:Int),())) l.length (fun G i a=> ?_) (fun G=> ?_) k 0 (by omega) (by omega);have d:=ni hk hs a;have m:=jz hk (l.take i);unfold cK at m;have hb2:=dw (e:=aj) l i;have hb3:=aA (e:=ab) (l:=(l.take i).flatMap aU);rw[fB aj.aa a,aii];simp only[aJ,a,decide_true,if_true];have n:=d;rw[e9 hk]at n;have hpl:=aA (e:=az) (l:=(l.getD i aj.aa).2.2);refine cV (fun j:Nat=>(l,((((l.take i).flatMap aU).length+(((l.getD i aj.aa).2.2.take j).flatMap lJ).length:Nat):Int),(i:Int),(j:Int),())) (l.getD i aj.aa).2.2.length (fun h j b=> ?_) (fun h=> ?_) k 0 (by omega) (by omega);have hc:=mQ hk (e:=az) (f:=ab) (g:=lJ) (fun c=>by rw[eW hk];exact ait _) ((l.getD i aj.aa).2.2.take j);have hc1:=dw (e:=az) (l.getD i aj.aa).2.2 j;have hc2:=aA (e:=ab) (l:=((l.getD i aj.aa).2.2.take j).flatMap lJ);obtain⟨h3,h4⟩:=jR hk d b;have hc3:=aA (e:=ab) (l:=((l.getD i aj.aa).2.2.getD j az.aa).2);simp only[aG a,aG b,aJ,b,decide_true,if_true,o_];rw[YY (by omega),br (by omega),fB az.aa b,aii,Nat.add_assoc];simp only[aG a,aJ,aik,decide_false,I_,if_false,if_true,o_,aie];rw[br (by omega)];rfl;simp only[aJ,aik,decide_false,I_,if_false,aie];rfl
theorem wN{l:List aq}(hs:ag (.sl aj) l<=1048576):l0 k (l,())=some ((bm l:Int),()):=by
 have hl:=aA (e:=aj) (l:=l);simp only[l0];refine cV (fun i:Nat=>(((((l.take i).flatMap aU).length:Nat):Int),l,(l.length:Int),(i:Int),())) l.length (fun G i a=> ?_) (fun G=> ?_) k 0 (by omega) (by omega);have d:=ni hk hs a;have m:=jz hk (l.take i);unfold cK at m;have hb2:=dw (e:=aj) l i;have hb3:=aA (e:=ab) (l:=(l.take i).flatMap aU);rw[fB aj.aa a,aii];simp only[aJ,aG a,a,decide_true,if_true,o_];have n:=d;rw[e9 hk]at n;have hpl:=aA (e:=az) (l:=(l.getD i aj.aa).2.2);refine cV (fun j:Nat=>(((((l.take i).flatMap aU).length+(((l.getD i aj.aa).2.2.take j).flatMap lJ).length:Nat):Int),l.getD i aj.aa,l,(l.length:Int),(i:Int),(l.getD i aj.aa).2.2,((l.getD i aj.aa).2.2.length:Int),(j:Int),())) (l.getD i aj.aa).2.2.length (fun h j b=> ?_) (fun h=> ?_) k 0 (by omega) (by omega);have hc:=mQ hk (e:=az) (f:=ab) (g:=lJ) (fun c=>by rw[eW hk];exact ait _) ((l.getD i aj.aa).2.2.take j);have hc1:=dw (e:=az) (l.getD i aj.aa).2.2 j;have hc2:=aA (e:=ab) (l:=((l.getD i aj.aa).2.2.take j).flatMap lJ);obtain⟨h3,h4⟩:=jR hk d b;have hc3:=aA (e:=ab) (l:=((l.getD i aj.aa).2.2.getD j az.aa).2);simp only[aG b,aJ,b,decide_true,if_true,o_];rw[YY (by omega),br (by omega),fB az.aa b,aii,Nat.add_assoc];simp only[aJ,aik,decide_false,I_,if_false,aie];rw[br (by omega)];rfl;simp only[aJ,aik,decide_false,I_,if_false,aie];rfl
theorem rL{p:aq}{f:Int}(hl:p.2.2.length<=1048576):kV k (p,f,())=some (gD (gR p f),()):=by
 simp only[kV];refine(kF (fun i:Nat=>(f,p,(i:Int),())) (fun i=>decide ((p.2.2.getD i az.aa).1=f)) p.2.2.length (e:=some (-1,())) (fun i=>some ((i:Int),())) (fun G i a=> ?_) (fun G=> ?_) k (by omega)).trans ?_;simp only[aJ,aG a,a,decide_true,if_true,o_,eu];rw[br (by omega)];simp;unfold gR;cases gC p.2.2.length (fun i=>decide ((p.2.2.getD i az.aa).1=f))<;>rfl
theorem Kn{p:aq}{f:Int}(hl:p.2.2.length<=1048576):oW k (p,f,())=some (gD (gR p f),()):=by
 simp only[oW];refine(kF (fun i:Nat=>(f,p,p.2.2,(p.2.2.length:Int),(i:Int),())) (fun i=>decide ((p.2.2.getD i az.aa).1=f)) p.2.2.length (e:=some (-1,())) (fun i=>some ((i:Int),())) (fun G i a=> ?_) (fun G=> ?_) k (by omega)).trans ?_;simp only[aJ,aG a,a,decide_true,if_true,o_,eu];rw[br (by omega)];simp;unfold gR;cases gC p.2.2.length (fun i=>decide ((p.2.2.getD i az.aa).1=f))<;>rfl
omit hk in
theorem xq(i:Nat):decide (gD (some i)<0)=false:=decide_eq_false (by simp only[gD];omega)
omit hk in
theorem vj{i n:Nat}(h:i<n):decide (0<=gD (some i)/\gD (some i)<(n:Int))=true:=by simp only[gD];exact aG h
omit hk in
theorem Az(i:Nat):(gD (some i)).toNat=i:=by simp[gD]
theorem Lt{p:aq}{s:List af}(hs:ag aj p<=1048576)(f:ag (.sl ai) s<=1048576):qa k (p,s,())=some ((gx k p s).1,(gx k p s).2,()):=by
 have a:p.2.2.length<=1048576:=by rw[e9 hk]at hs;have:=aA (e:=az) (l:=p.2.2);omega
 simp only[qa,sI hk f,rL hk a,hJ,gx];cases hc:gR p (dq k s)with
 |none=>rfl
 |some i=>
  obtain⟨b,_,_⟩:=aV.1 hc;obtain⟨h1,h⟩:=jR hk hs b;refine(yq (xq i)).trans ?_;refine(an (vj b)).trans ?_;rw[Az,sA hk h,hJ];dsimp only;cases g:iC (p.2.2.getD i az.aa).2 s with
  |none=>rfl
  |some j=>
   obtain⟨c,_,_⟩:=aV.1 g;have h3:=fL (e:=ab) (d:=ab.aa) c;refine(yq (xq j)).trans ?_;refine(an (vj b)).trans ?_;refine(an (vj c)).trans ?_;rw[Az,dS hk (by omega)];rfl
theorem MC{p:aq}{s:List af}(hs:ag aj p<=1048576)(f:ag (.sl ai) s<=1048576):ql k (p,s,())=some ((gx k p s).1,(gx k p s).2,()):=by
 have a:p.2.2.length<=1048576:=by rw[e9 hk]at hs;have:=aA (e:=az) (l:=p.2.2);omega
 simp only[ql,lN hk f,Kn hk a,hJ,gx];cases hc:gR p (dq k s)with
 |none=>rfl
 |some i=>
  obtain⟨b,_,_⟩:=aV.1 hc;obtain⟨h1,h⟩:=jR hk hs b;refine(yq (xq i)).trans ?_;refine(an (vj b)).trans ?_;rw[Az,J0 hk h,hJ];dsimp only;cases g:iC (p.2.2.getD i az.aa).2 s with
  |none=>rfl
  |some j=>
   obtain⟨c,_,_⟩:=aV.1 g;have h3:=fL (e:=ab) (d:=ab.aa) c;refine(yq (xq j)).trans ?_;refine(an (vj b)).trans ?_;refine(an (vj c)).trans ?_;rw[Az,DL hk (by omega)];rfl
theorem pH{l:List aq}{s:List af}(a:ag (.sl ai) s<=1048576):iZ k (l,s,())=some (bF k l s,()):=by
 simp only[iZ,sI hk a,yX hk,hJ,bF]
theorem Lz{l:List aq}{s:List af}(a:ag (.sl ai) s<=1048576):qp k (l,s,())=some (bF k l s,()):=by
 simp only[qp,lN hk a,pg hk,hJ,bF]
omit hk in
theorem oy{l:List aq}{s:List af}(h:l.length≠0):0<=bF k l s/\bF k l s<(l.length:Int)/\(bF k l s).toNat<l.length:=by
 have:=Hw (f:=dq k s) (n:=(l.length:Int)) (by omega);unfold bF;omega
theorem lq{l:List aq}{s:List af}(hs:ag (.sl aj) l<=1048576)(e:ag (.sl ai) s<=1048576):iB k (l,s,())=some ((cj k l s).1,(cj k l s).2,()):=by
 simp only[iB,pH hk e,hJ,cj];by_cases d:l.length=0;rw[an (by simpa using d),an d];rfl;obtain⟨a,b,c⟩:=oy (k:=k) (l:=l) (s:=s) d;rw[a_ (by simpa using d),an (by simpa using⟨a,b⟩),Lt hk (ni hk hs c) e,hJ,a_ d]
theorem EM{l:List aq}{s:List af}(hs:ag (.sl aj) l<=1048576)(e:ag (.sl ai) s<=1048576):mM k (l,s,())=some ((cj k l s).1,(cj k l s).2,()):=by
 simp only[mM,Lz hk e,hJ,cj];by_cases d:l.length=0;rw[an (by simpa using d),an d];rfl;obtain⟨a,b,c⟩:=oy (k:=k) (l:=l) (s:=s) d;rw[a_ (by simpa using d),an (by simpa using⟨a,b⟩),MC hk (ni hk hs c) e,hJ,a_ d]
theorem Ny(a b:aC):qj k (a,b,())=some (bX a b,()):=by
 simp only[qj,bX,eu];by_cases c:a.1<b.1<;>by_cases d:a.1=b.1<;>simp[c,d]
theorem lU(a b:aC):kq k (a,b,())=some (bX a b,()):=by
 simp only[kq,bX,eu];by_cases c:a.1<b.1<;>by_cases d:a.1=b.1<;>simp[c,d]
theorem KG{l:List aC}(hl:l.length<=1048576):qn k (l,())=some (oJ l,()):=by
 simp only[qn,aR]
 refine(dZ (fun i:Nat=>(l,l,(l.length:Int),(i:Int),())) (fun i=>(decide (0<=(l.getD i aD.aa).1)&&decide (0<=(l.getD i aD.aa).2))&&(i==0|| !bX (l.getD i aD.aa) (l.getD ((i-1)/2) aD.aa))) l.length
  (e:=some (decide (l.length<=16),())) (no:=some (false,())) ?_ ?_ k 0 (by omega)).trans ?_
 intro G i a;cases i with
 |zero=>
  simp only[aJ,aG a,a,Y3,decide_true,if_true,o_,Ny hk,hJ,dn];rw[br (by omega)];simp only[LN]
  rcases aih (decide ((l.getD 0 aD.aa).1<0))with h1|h1<;>rcases aih (decide ((l.getD 0 aD.aa).2<0))with h2|h2<;>
   simp only[h1,h2,if_true,I_,if_false,beq_self_eq_true,aiN,aiE,Bool.true_and,aiO,ais,aiD,aix,P_,tbf,fbt,Bool.or_self,Bool.and_self]
 |succ q=>
  have c:q/2<l.length:=by omega
  simp only[aJ,aG a,aG c,a,Ta,No (show q<4611686018427387904 by omega),decide_true,if_true,o_,Ny hk,hJ,dn,P_,ne_eq,aiv];rw[br (by omega)];have d:((q+1:Nat)==0)=false:=rfl;rw[d];have f:decide (¬(2:Int)=0)=true:=rfl;rw[f];simp only[LN]
  rcases aih (decide ((l.getD (q+1) aD.aa).1<0))with h1|h1<;>rcases aih (decide ((l.getD (q+1) aD.aa).2<0))with h2|h2<;>
   rcases aih (bX (l.getD (q+1) aD.aa) (l.getD (q/2) aD.aa))with h3|h3<;>
   simp only[h1,h2,h3,if_true,I_,if_false,beq_self_eq_true,aiN,aiE,Bool.true_and,aiO,ais,aiD,aix,P_,Bool.or_false,Bool.false_or,tbf,fbt,Bool.or_self,Bool.and_self]
 intro G i a;simp only[aJ];rw[a_ (by simp;omega)];congr 2;rw[aij];simp;omega;unfold oJ;generalize bL 0 l.length _=b;cases b<;>simp
theorem Sa{c:bo}{g:au}:vd k (c,g,())=some (j8 c g,()):=by
 simp only[vd,sU,j8,eu];by_cases h:g.2.2.2.1= -1<;>simp[h]
theorem Rs{c:bo}{g:au}:ve k (c,g,())=some (j8 c g,()):=by
 simp only[ve,sJ,j8,eu];by_cases h:g.2.2.2.1= -1<;>simp[h]
end
end Vg.Tryz
