/- Texts of this law, joined. -/
import Derived.Test.YtgikmhjpcnnhjaaGreatXd
import Derived.Test.YtgikmhjpcnnhjaaGreatQdFa
import Derived.Test.YtgikmhjpcnnhjaaGreatProg
set_option linter.unusedSimpArgs false
set_option linter.unusedVariables false
set_option linter.unusedSectionVars false
set_option linter.defProp false
open Option renaming bind_some -> at4
open Int renaming toNat_natCast -> l9,toNat -> aug
open List renaming getD_eq_getElem?_getD -> at6,drop_eq_nil_of_le -> at7,length -> at9,length_reverse -> aue,length_take -> auf,length_singleton -> auh,takeWhile_append_dropWhile -> aui,takeWhile_cons -> auk,length_cons -> aum,filter_cons_of_pos -> aun,filter_cons_of_neg -> auo,length_nil -> aup,takeWhile_sublist -> auq,length_filter_le -> aur,getD_cons_succ -> aut,take -> auv,length_append -> auw,append_assoc -> auz,take_length -> auB,foldl_cons -> auC,takeWhile -> auE
open Nat renaming le_trans -> at8,xor_lt_two_pow -> aul,add_sub_cancel -> auu,le_refl -> auA
open Bool renaming and_eq_true -> aua,or_true -> aub,eq_iff_iff -> auc,false_eq_true -> aud,eq_false_iff -> auy,not_false -> auD
open List.cons renaming injEq -> auj
open Array renaming toList_append -> aus
open Go.Proofs.Tryz
namespace Vg.Tryz
open Go Vg Go.Proofs
def TT:List (Nat×TI):=[(3,⟨(.int .i64),[],0⟩),(4,⟨.bool,[],0⟩),(5,⟨(.int .u8),[],0⟩),(9,⟨.str,[],0⟩),(22,⟨(.sl (.int .u8)),[],5⟩),(24,⟨(.sl .str),[],9⟩),(26,⟨db,[3,3,3,3,3,24],0⟩),(27,⟨(.sl aj),[],72⟩),(28,⟨(.sl aW),[],103⟩),(29,⟨(.sl ae),[],50⟩),(30,⟨(.sl al),[],123⟩),(31,⟨(.sl aE),[],161⟩),(32,⟨(.sl cw),[],179⟩),(33,⟨(.sl aq),[],62⟩),(34,⟨(.sl ay),[],56⟩),(36,⟨aD,[26,3,3,27,28,29,3,30,3,31,32,29,33,34],0⟩),(48,⟨(.sl ak),[],149⟩),(50,⟨ae,[48,3,3,9],0⟩),(56,⟨ay,[3,3,50,48,3,3,3,29,3,3,3,3],0⟩),(60,⟨(.sl (.int .i64)),[],3⟩),(62,⟨aq,[3,3,50,48,3,60,29,3,3],0⟩),(70,⟨(.sl ax),[],131⟩),(72,⟨aj,[3,3,70],0⟩),(103,⟨aW,[29,4],0⟩),(123,⟨al,[3,48,3,3,29],0⟩),(131,⟨ax,[3,29],0⟩),(142,⟨iw,[3,3,50,48],0⟩),(149,⟨ak,[9,9],0⟩),(151,⟨cJ,[22,3,3],0⟩),(152,⟨(.sl iw),[],142⟩),(161,⟨aE,[3,3],0⟩),(179,⟨cw,[3,48,3,29],0⟩),(208,⟨(.int .u64),[],0⟩),(248,⟨(.int .u32),[],0⟩)]
def acK:TT.all (fun p=>UK prog p.1 p.2)=true:=by kernel_rfl
def mixed:prog.follows .mixedOrders=true:=by kernel_rfl
set_option maxRecDepth 1000000
def nA:Nat->Option KO:=fun _=>none
def rO:Sh:=(.pair .leaf (.pair .leaf (.sl (.sha []))))
def Xe:Sh:=(.pair (.sl (.sha [])) (.pair .leaf (.pair .leaf .leaf)))
def KU:Sh:=(.pair .leaf (.pair .leaf (.sl (.sha [1,2]))))
def XO:Sh:=(.pair (.sl (.row 12 [12] true)) (.sl (.row 13 [1,2,13] false)))
def Mf:Sh:=(.pair (.sl (.sha [])) (.pair (.sl (.sha [])) (.sl (.sha []))))
def xl:Sh:=(.pair (.sl (.sha [1])) (.pair .leaf (.pair .leaf .leaf)))
def TO:Sh:=(.pair (.sl (.row 12 [12] true)) (.sl (.row 13 [1,13] false)))
def X4:Sh:=(.pair (.sl (.sha [2,12])) (.pair .leaf (.pair .leaf .leaf)))
def WY:Sh:=(.pair (.sl (.sha [2,12])) (.pair .leaf .leaf))
def Rc:Sh:=(.pair .leaf (.pair .leaf (.sl (.row 9 [9] true))))
def XS:Sh:=(.pair (.sl (.row 17 [17] true)) (.sl (.row 18 [18] true)))
def XH:Sh:=(.pair .leaf (.pair .leaf (.sl (.sha [2]))))
def XT:Sh:=(.pair (.sl (.row 27 [27] true)) (.sl (.row 28 [2,28] false)))
def aad:Sh:=(.pair (.sl (.sha [1])) (.pair .leaf .leaf))
def WU:Sh:=(.pair (.sl (.row 12 [12] true)) (.sl (.row 13 [2,13] false)))
def afx:Sh:=(.pair (.sl (.sha [2,13])) (.pair .leaf (.pair .leaf .leaf)))
def afY:Sh:=(.pair .leaf (.pair .leaf (.pair .leaf .leaf)))
def Mc:Sh:=(.pair .leaf (.pair .leaf (.sl (.row 7 [7] true))))
def h6:Sh:=(.pair .leaf (.pair .leaf (.sl (.sha [1]))))
def h68:Sh:=(.pair (.sl (.sha [1])) (.sl (.sha [1])))
def h92:Sh:=(.pair (.sl (.row 15 [15] true)) (.sl (.sha [1])))
def q0:Pt:=(.pair .leaf (.pair .leaf (.pair .leaf .own)))
def ac4:Pt:=(.pair .shr (.pair .shr (.pair .shr .shr)))
def XM:Pt:=(.pair .hd (.pair .hd (.pair .own .hd)))
def q3:Pt:=(.pair .leaf (.pair .leaf (.pair .leaf .shr)))
def q35:Pt:=(.pair .own (.pair .own (.pair .own .own)))
def gx:Pt:=(.pair .shr (.pair .leaf (.pair .leaf .leaf)))
def q48:Pt:=(.pair .shr (.pair .leaf (.pair .leaf .shr)))
def UO:Pt:=(.pair .shr (.pair .shr (.pair .leaf .leaf)))
def q59:Pt:=(.pair .leaf (.pair .leaf (.pair .leaf .leaf)))
abbrev aQ:=Nat->Option KO
abbrev aI:=List (FuncId×BJ)
abbrev ar:Ty:= .int .i64
def BM:Sh:= .pair .leaf (.pair .leaf (.pair .leaf h6))
def aT:Sh:= .sl (.sha [1])
def fL:Sh:= .pair BM (.pair .leaf (.pair .leaf (.pair aT (.pair aT (.pair aT (.pair .leaf (.pair aT (.pair .leaf (.pair aT (.pair aT (.pair aT h68)))))))))))
def oe:Sh:= .sl (.sha [])
def Ns:Sh:= .pair oe (.pair .leaf (.pair oe (.pair .leaf (.pair oe (.pair oe Mf)))))
def qf:Sh:= .pair (.pair .leaf (.pair .leaf (.pair .leaf rO))) (.pair .leaf (.pair .leaf (.pair oe (.pair oe Ns))))
def sZ:Sh:= .pair (.pair .leaf (.pair .leaf (.pair .leaf KU))) (.pair .leaf (.pair .leaf (.pair (.sl (.row 5 [1,2,5] false)) (.pair (.sl (.row 6 [1,2,6] false)) (.pair (.sl (.row 7 [1,2,7] false)) (.pair .leaf (.pair (.sl (.row 8 [1,2,8] false)) (.pair .leaf (.pair (.sl (.row 9 [1,2,9] false)) (.pair (.sl (.row 10 [1,2,10] false)) (.pair (.sl (.row 11 [1,2,11] false)) XO)))))))))))
def DP:Sh:= .pair (.sl (.row 6 [1,6] false)) (.pair (.sl (.row 7 [1,7] false)) (.pair .leaf (.pair (.sl (.row 8 [1,8] false)) (.pair .leaf (.pair (.sl (.row 9 [1,9] false)) (.pair (.sl (.row 10 [1,10] false)) (.pair (.sl (.row 11 [1,11] false)) TO)))))))
def KX:Sh:= .pair BM (.pair .leaf (.pair .leaf (.pair (.sl (.row 5 [1,5] false)) DP)))
def Vv:Sh:= .pair .leaf (.pair .leaf (.pair .leaf XH))
def Sa:Sh:= .pair Vv (.pair .leaf (.pair .leaf (.pair (.sl (.row 5 [2,5] false)) (.pair (.sl (.row 6 [2,6] false)) (.pair (.sl (.row 7 [2,7] false)) (.pair .leaf (.pair (.sl (.row 8 [2,8] false)) (.pair .leaf (.pair (.sl (.row 9 [2,9] false)) (.pair (.sl (.row 10 [2,10] false)) (.pair (.sl (.row 11 [2,11] false)) WU)))))))))))
def y0:Sh:= .pair .leaf (.pair .leaf (.pair .leaf Mc))
def AI:Sh:= .pair .leaf (.pair .leaf (.pair xl (.pair aT (.pair .leaf (.pair aT aad)))))
def DU:Sh:= .pair Vv (.pair .leaf (.pair .leaf (.pair (.sl (.row 20 [2,20] false)) (.pair (.sl (.row 21 [2,21] false)) (.pair (.sl (.row 22 [2,22] false)) (.pair .leaf (.pair (.sl (.row 23 [2,23] false)) (.pair .leaf (.pair (.sl (.row 24 [2,24] false)) (.pair (.sl (.row 25 [2,25] false)) (.pair (.sl (.row 26 [2,26] false)) XT)))))))))))
def MB:Sh:= .sl (.row 10 [10] true)
def TX:Sh:= .sl (.row 11 [11] true)
def NZ:Sh:= .sl (.row 13 [13] true)
def IF:Sh:= .sl (.row 14 [14] true)
def VT:Sh:= .pair (.pair .leaf (.pair .leaf (.pair .leaf Rc))) (.pair .leaf (.pair .leaf (.pair MB (.pair TX (.pair (.sl (.row 12 [12] true)) (.pair .leaf (.pair NZ (.pair .leaf (.pair IF (.pair (.sl (.row 15 [15] true)) (.pair (.sl (.row 16 [16] true)) XS)))))))))))
def pX:Sh:= .sl (.row 8 [8] true)
def JA:Sh:= .sl (.row 9 [9] true)
def VN:Sh:= .pair y0 (.pair .leaf (.pair .leaf (.pair pX (.pair JA (.pair MB (.pair .leaf (.pair TX (.pair .leaf (.pair (.sl (.row 12 [] true)) (.pair NZ (.pair IF h92)))))))))))
def U7:Sh:= .pair y0 (.pair .leaf (.pair .leaf (.pair pX (.pair JA (.pair MB (.pair .leaf (.pair TX (.pair .leaf (.pair (.sl (.row 12 [] true)) (.pair NZ (.pair aT h68)))))))))))
def Sp:Sh:= .pair .leaf (.pair .leaf (.pair X4 (.pair (.sl (.sha [2,12])) (.pair .leaf (.pair (.sl (.sha [2,12])) WY)))))
def wZ:Sh:= .sl (.row 4 [4] true)
def TY:Sh:= .pair y0 (.pair .leaf (.pair .leaf (.pair pX (.pair JA Ns))))
def zA:Sh:= .pair .leaf (.pair .leaf (.pair afx (.pair (.sl (.sha [2,13])) (.pair .leaf (.pair .leaf (.pair .leaf (.pair (.sl (.sha [2,13])) afY)))))))
def Bh:Sh:= .pair .leaf (.pair pX Rc)
def KW:Sh:= .pair .leaf (.pair oe rO)
def IG:Sh:= .pair .leaf (.pair aT h6)
def E7:Sh:= .pair .leaf (.pair .leaf (.pair Xe oe))
def BK:Sh:= .pair .leaf .leaf
def NA:Sh:= .sl (.row 5 [] true)
def KT:Sh:= .sl (.row 5 [5] true)
def KY:Sh:= .pair .leaf aT
def Np:Sh:= .sl (.row 4 [] true)
def TS:Sh:= .pair .leaf (.pair (.sl (.sha [1,2])) KU)
def Re:Sh:= .sl (.row 4 [2] false)
def Sc:Sh:= .pair .leaf (.pair .leaf (.pair xl aT))
def rj:Sh:= .pair .leaf (.sl (.row 7 [7] true))
def ox:Pt:= .pair .leaf (.pair .leaf q3)
def ov:Pt:= .pair ox (.pair .leaf (.pair .leaf (.pair .hd (.pair .hd (.pair .hd (.pair .leaf (.pair .hd (.pair .leaf (.pair .hd XM)))))))))
def yJ:Pt:= .pair ox (.pair .leaf (.pair .leaf (.pair .shr (.pair .shr (.pair .shr (.pair .leaf (.pair .shr (.pair .leaf (.pair .shr ac4)))))))))
def pF:Pt:= .pair .leaf (.pair .leaf (.pair gx (.pair .shr (.pair .leaf UO))))
def xp:Pt:= .pair .leaf .leaf
def sW:Pt:= .pair .rom xp
def Qa:Pt:= .pair .leaf (.pair .leaf (.pair gx (.pair .shr (.pair .leaf (.pair .leaf (.pair .leaf (.pair .shr q59)))))))
def D5:Pt:= .pair .leaf (.pair .leaf q0)
def jH:Pt:= .pair D5 (.pair .leaf (.pair .leaf (.pair .own (.pair .own (.pair .own (.pair .leaf (.pair .own (.pair .leaf (.pair .own q35)))))))))
def oU:Pt:= .pair .leaf .shr
def pD:Pt:= .pair .leaf oU
def GQ:Pt:= .pair .leaf q48
def BD:Pt:= .pair .leaf .own
def KZ:Pt:= .pair .shr .leaf
def q1:Pt:=(.pair .leaf q0)
def q2:Pt:=(.pair .leaf q1)
def q4:Pt:=(.pair .leaf q3)
def q5:Pt:=(.pair .leaf q4)
def h7:Sh:=(.pair .leaf h6)
def h8:Sh:=(.pair .leaf h7)
def h9:Sh:=(.pair .leaf h8)
def zt:Sh:=(.pair .leaf rO)
def mS:Sh:=(.pair .leaf zt)
def Dc:Sh:=(.pair .leaf mS)
def Gp:Sh:=(.pair (.sl (.sha [])) Mf)
def Pj:Sh:=(.pair (.sl (.sha [])) Gp)
def OC:Sh:=(.pair .leaf Pj)
def h18:Sh:=(.pair (.sl (.sha [])) OC)
def h19:Sh:=(.pair .leaf h18)
def KQ:Sh:=(.pair (.sl (.sha [])) h19)
def h21:Sh:=(.pair (.sl (.sha [])) KQ)
def h22:Sh:=(.pair (.sl (.sha [])) h21)
def h23:Sh:=(.pair .leaf h22)
def h24:Sh:=(.pair .leaf h23)
def h25:Sh:=(.pair Dc h24)
def h27:Sh:=(.pair .leaf Mc)
def h28:Sh:=(.pair .leaf h27)
def Vl:Sh:=(.pair .leaf h28)
def WI:Sh:=(.pair (.sl (.row 9 [9] true)) KQ)
def h31:Sh:=(.pair (.sl (.row 8 [8] true)) WI)
def h32:Sh:=(.pair .leaf h31)
def h33:Sh:=(.pair .leaf h32)
def h34:Sh:=(.pair Vl h33)
def q36:Pt:=(.pair .own q35)
def q37:Pt:=(.pair .leaf q36)
def q38:Pt:=(.pair .own q37)
def q39:Pt:=(.pair .leaf q38)
def q40:Pt:=(.pair .own q39)
def q41:Pt:=(.pair .own q40)
def q42:Pt:=(.pair .own q41)
def q43:Pt:=(.pair .leaf q42)
def q44:Pt:=(.pair .leaf q43)
def q45:Pt:=(.pair q2 q44)
def sK:Pt:=(.pair .own (.pair .leaf (.pair .leaf .leaf)))
def q49:Pt:=(.pair .leaf q48)
def UL:Pt:=(.pair .own (.pair .leaf (.pair .leaf .own)))
def q51:Pt:=(.pair .leaf UL)
def WT:Pt:=(.pair .leaf (.pair .own (.pair .leaf .own)))
def q54:Pt:=(.pair .leaf UO)
def q55:Pt:=(.pair .shr q54)
def q56:Pt:=(.pair gx q55)
def q57:Pt:=(.pair .leaf q56)
def q58:Pt:=(.pair .leaf q57)
def q60:Pt:=(.pair .shr q59)
def q61:Pt:=(.pair .leaf q60)
def q62:Pt:=(.pair .leaf q61)
def q63:Pt:=(.pair .leaf q62)
def q64:Pt:=(.pair .shr q63)
def q65:Pt:=(.pair gx q64)
def q66:Pt:=(.pair .leaf q65)
def q67:Pt:=(.pair .leaf q66)
def h69:Sh:=(.pair (.sl (.sha [1])) h68)
def h70:Sh:=(.pair (.sl (.sha [1])) h69)
def h71:Sh:=(.pair (.sl (.sha [1])) h70)
def h72:Sh:=(.pair .leaf h71)
def h73:Sh:=(.pair (.sl (.sha [1])) h72)
def h74:Sh:=(.pair .leaf h73)
def h75:Sh:=(.pair (.sl (.sha [1])) h74)
def h76:Sh:=(.pair (.sl (.sha [1])) h75)
def h77:Sh:=(.pair (.sl (.sha [1])) h76)
def h78:Sh:=(.pair .leaf h77)
def h79:Sh:=(.pair .leaf h78)
def h80:Sh:=(.pair h9 h79)
def h81:Sh:=(.pair (.sl (.row 13 [13] true)) h69)
def h82:Sh:=(.pair (.sl (.row 12 [] true)) h81)
def YO:Sh:=(.pair .leaf h82)
def h84:Sh:=(.pair (.sl (.row 11 [11] true)) YO)
def h85:Sh:=(.pair .leaf h84)
def h86:Sh:=(.pair (.sl (.row 10 [10] true)) h85)
def h87:Sh:=(.pair (.sl (.row 9 [9] true)) h86)
def h88:Sh:=(.pair (.sl (.row 8 [8] true)) h87)
def h89:Sh:=(.pair .leaf h88)
def h90:Sh:=(.pair .leaf h89)
def h91:Sh:=(.pair Vl h90)
def h93:Sh:=(.pair (.sl (.row 14 [14] true)) h92)
def h94:Sh:=(.pair (.sl (.row 13 [13] true)) h93)
def h95:Sh:=(.pair (.sl (.row 12 [] true)) h94)
def h96:Sh:=(.pair .leaf h95)
def h97:Sh:=(.pair (.sl (.row 11 [11] true)) h96)
def h98:Sh:=(.pair .leaf h97)
def h99:Sh:=(.pair (.sl (.row 10 [10] true)) h98)
def adP:Sh:=(.pair (.sl (.row 9 [9] true)) h99)
def acU:Sh:=(.pair (.sl (.row 8 [8] true)) adP)
def acB:Sh:=(.pair .leaf acU)
def abQ:Sh:=(.pair .leaf acB)
def aiP:Sh:=(.pair Vl abQ)
def ahV:Pt:=(.pair .shr ac4)
def aiA:Pt:=(.pair .leaf ahV)
def aic:Pt:=(.pair .shr aiA)
def ahT:Pt:=(.pair .leaf aic)
def aiI:Pt:=(.pair .shr ahT)
def air:Pt:=(.pair .shr aiI)
def ajb:Pt:=(.pair .shr air)
def aiR:Pt:=(.pair .leaf ajb)
def ai5:Pt:=(.pair .leaf aiR)
def alK:Pt:=(.pair q5 ai5)
def Kc:Sh:=(.pair (.sl (.sha [3])) (.pair .leaf .leaf))
def XJ:Sh:=(.pair (.sl (.row 6 [6] true)) (.pair .leaf (.pair .leaf .leaf)))
def afQ:Sh:=(.pair Xe (.sl (.sha [])))
def ai0:Sh:=(.pair .leaf afQ)
def alC:Sh:=(.pair .leaf ai0)
def adN:Pt:=(.pair .hd XM)
def adD:Pt:=(.pair .leaf adN)
def ada:Pt:=(.pair .hd adD)
def acR:Pt:=(.pair .leaf ada)
def adj:Pt:=(.pair .hd acR)
def abE:Pt:=(.pair .hd adj)
def adr:Pt:=(.pair .hd abE)
def afr:Pt:=(.pair .leaf adr)
def aiL:Pt:=(.pair .leaf afr)
def alk:Pt:=(.pair q5 aiL)
def acO:Sh:=(.pair .leaf KU)
def acg:Sh:=(.pair .leaf acO)
def afK:Sh:=(.pair .leaf acg)
def ajd:Sh:=(.pair (.sl (.row 11 [1,2,11] false)) XO)
def aiJ:Sh:=(.pair (.sl (.row 10 [1,2,10] false)) ajd)
def aja:Sh:=(.pair (.sl (.row 9 [1,2,9] false)) aiJ)
def aid:Sh:=(.pair .leaf aja)
def ajk:Sh:=(.pair (.sl (.row 8 [1,2,8] false)) aid)
def aiC:Sh:=(.pair .leaf ajk)
def aif:Sh:=(.pair (.sl (.row 7 [1,2,7] false)) aiC)
def aiV:Sh:=(.pair (.sl (.row 6 [1,2,6] false)) aif)
def ai3:Sh:=(.pair (.sl (.row 5 [1,2,5] false)) aiV)
def ahZ:Sh:=(.pair .leaf ai3)
def Sx:Sh:=(.pair .leaf ahZ)
def ah9:Sh:=(.pair afK Sx)
def XG:Sh:=(.pair .leaf (.pair .leaf (.sl (.row 8 [8] true))))
def acv:Sh:=(.pair (.sl (.row 11 [1,11] false)) TO)
def adQ:Sh:=(.pair (.sl (.row 10 [1,10] false)) acv)
def adR:Sh:=(.pair (.sl (.row 9 [1,9] false)) adQ)
def adZ:Sh:=(.pair .leaf adR)
def abP:Sh:=(.pair (.sl (.row 8 [1,8] false)) adZ)
def acA:Sh:=(.pair .leaf abP)
def acE:Sh:=(.pair (.sl (.row 7 [1,7] false)) acA)
def ac5:Sh:=(.pair (.sl (.row 6 [1,6] false)) acE)
def adB:Sh:=(.pair (.sl (.sha [2,12])) WY)
def af6:Sh:=(.pair .leaf adB)
def DX:Sh:=(.pair (.sl (.sha [2,12])) af6)
def VE:Sh:=(.pair X4 DX)
def aak:Sh:=(.pair .leaf VE)
def aiN:Sh:=(.pair .leaf aak)
def aca:Sh:=(.pair (.sl (.row 5 [1,5] false)) ac5)
def adn:Sh:=(.pair .leaf aca)
def acZ:Sh:=(.pair .leaf adn)
def aiF:Sh:=(.pair h9 acZ)
def ab9:Sh:=(.pair (.sl (.sha [1])) h6)
def aiK:Sh:=(.pair .leaf ab9)
def Z2:Sh:=(.pair (.sl (.sha [])) rO)
def ai7:Sh:=(.pair .leaf Z2)
def adG:Sh:=(.pair (.sl (.row 8 [8] true)) Rc)
def akd:Sh:=(.pair .leaf adG)
def PE:Sh:=(.pair (.sl (.row 11 [11] true)) (.pair .leaf (.pair .leaf .leaf)))
def Sv:Sh:=(.pair (.sl (.sha [])) (.pair .leaf (.sl (.sha []))))
def aip:Sh:=(.pair .leaf Sv)
def ace:Sh:=(.pair xl (.sl (.sha [1])))
def ad3:Sh:=(.pair .leaf ace)
def ajf:Sh:=(.pair .leaf ad3)
def ack:Sh:=(.pair .leaf Rc)
def af2:Sh:=(.pair .leaf ack)
def adW:Sh:=(.pair .leaf af2)
def adV:Sh:=(.pair (.sl (.row 16 [16] true)) XS)
def af3:Sh:=(.pair (.sl (.row 15 [15] true)) adV)
def aao:Sh:=(.pair (.sl (.row 14 [14] true)) af3)
def adJ:Sh:=(.pair .leaf aao)
def abT:Sh:=(.pair (.sl (.row 13 [13] true)) adJ)
def ad2:Sh:=(.pair .leaf abT)
def aaj:Sh:=(.pair (.sl (.row 12 [12] true)) ad2)
def abF:Sh:=(.pair (.sl (.row 11 [11] true)) aaj)
def ab5:Sh:=(.pair (.sl (.row 10 [10] true)) abF)
def abN:Sh:=(.pair .leaf ab5)
def acF:Sh:=(.pair .leaf abN)
def ahW:Sh:=(.pair adW acF)
def adb:Sh:=(.pair .leaf XH)
def ac3:Sh:=(.pair .leaf adb)
def Xq:Sh:=(.pair .leaf ac3)
def abJ:Sh:=(.pair (.sl (.row 26 [2,26] false)) XT)
def af4:Sh:=(.pair (.sl (.row 25 [2,25] false)) abJ)
def ZN:Sh:=(.pair (.sl (.row 24 [2,24] false)) af4)
def ad1:Sh:=(.pair .leaf ZN)
def afB:Sh:=(.pair (.sl (.row 23 [2,23] false)) ad1)
def adA:Sh:=(.pair .leaf afB)
def afD:Sh:=(.pair (.sl (.row 22 [2,22] false)) adA)
def Vh:Sh:=(.pair (.sl (.row 21 [2,21] false)) afD)
def adT:Sh:=(.pair (.sl (.row 20 [2,20] false)) Vh)
def afz:Sh:=(.pair .leaf adT)
def U8:Sh:=(.pair .leaf afz)
def acw:Sh:=(.pair Xq U8)
def acW:Sh:=(.pair (.sl (.sha [1])) aad)
def acs:Sh:=(.pair .leaf acW)
def af9:Sh:=(.pair (.sl (.sha [1])) acs)
def adz:Sh:=(.pair xl af9)
def acm:Sh:=(.pair .leaf adz)
def ait:Sh:=(.pair .leaf acm)
def ZS:Sh:=(.pair (.sl (.sha [1,2])) KU)
def ai8:Sh:=(.pair .leaf ZS)
def adI:Sh:=(.pair (.sl (.row 11 [2,11] false)) WU)
def abW:Sh:=(.pair (.sl (.row 10 [2,10] false)) adI)
def acN:Sh:=(.pair (.sl (.row 9 [2,9] false)) abW)
def acP:Sh:=(.pair .leaf acN)
def acI:Sh:=(.pair (.sl (.row 8 [2,8] false)) acP)
def acS:Sh:=(.pair .leaf acI)
def acT:Sh:=(.pair (.sl (.row 7 [2,7] false)) acS)
def acx:Sh:=(.pair (.sl (.row 6 [2,6] false)) acT)
def ac1:Sh:=(.pair (.sl (.row 5 [2,5] false)) acx)
def agd:Sh:=(.pair .leaf ac1)
def Z5:Sh:=(.pair .leaf agd)
def ah4:Sh:=(.pair Xq Z5)
def afL:Sh:=(.pair (.sl (.sha [2,13])) afY)
def ajc:Sh:=(.pair .leaf afL)
def aik:Sh:=(.pair .leaf ajc)
def ai4:Sh:=(.pair .leaf aik)
def aih:Sh:=(.pair (.sl (.sha [2,13])) ai4)
def aiH:Sh:=(.pair afx aih)
def ai9:Sh:=(.pair .leaf aiH)
def akk:Sh:=(.pair .leaf ai9)
def aJ{cts:List (FuncId×BJ)}(hc:aH prog cts)(la ja:Nat->Option KO)(k:Nat){f:FuncId}{fn:Func}(b:prog.funcs[f]?=some fn){ps:List PK}(c:fnB fn ps.length=true){rs:List RK}{a:List (Nat×List Bool)}{F:du (ps.map PK.ty)->Option (du (rs.map RK.ty++eM ps))}(d:∀x,TJ (Va TT cts la ja k) ps rs a fn x=F x):aH prog ((f,⟨ps,rs,F,a⟩)::cts):=aH.JD acK mixed hc la ja k b c d
section
variable(k:Nat)
def Kg:aI:=(71,JY k)::([]:List (FuncId×BJ))
def NY:aH prog (Kg k):=⟨Qp k,(show aH prog []from trivial)⟩
def vc:aI:=(318,tJ k)::(Kg k)
def BE:aH prog (vc k):=⟨Gg k,(NY k)⟩
def sE:aI:=(129,rB k)::(vc k)
def zk:aH prog (sE k):=⟨Dw k,(BE k)⟩
def CM:aI:=(12,⟨[.val (.sl (.int .u8)) .rom],[.val .bool .leaf],vT k,[]⟩)::(sE k)
def Nn:aH prog (CM k):=aJ (zk k) nA nA k func12 (by kernel_rfl) (fun x=>by kernel_rfl)
def Ip:aQ:=fun|3=>some ⟨[(0,.val (.sl (.int .u8)) (.sl (.sha [3]))),(3,.val ar .leaf),(4,.val ar .leaf)],4⟩|_=>none
def Hj:aQ:=fun|6=>some ⟨[(0,.val (.sl (.int .u8)) (.sl (.sha [3]))),(3,.val ar .leaf)],4⟩|_=>none
def yl:aI:=(74,⟨[.val (.sl (.int .u8)) .rom],[.nbox cJ sW],nI k,[]⟩)::(CM k)
def I4:aH prog (yl k):=aJ (Nn k) Ip Hj k func74 (by kernel_rfl) (fun x=>by kernel_rfl)
def wx:aI:=(76,⟨[.val (.sl (.int .u8)) .rom,.val ar .leaf],[.val ar .leaf],mr k,[]⟩)::(yl k)
def HL:aH prog (wx k):=aJ (I4 k) nA nA k func76 (by kernel_rfl) (fun x=>by kernel_rfl)
def wQ:aI:=(172,⟨[.io cJ sW],[.val ar .leaf],gb k,[]⟩)::(wx k)
def Io:aH prog (wQ k):=aJ (HL k) nA nA k func172 (by kernel_rfl) (fun x=>by kernel_rfl)
def tH:aI:=(91,⟨[.io cJ sW,.val ar .leaf],[.val ar .leaf],bf k,[]⟩)::(wQ k)
def FX:aH prog (tH k):=aJ (Io k) nA nA k func91 (by kernel_rfl) (fun x=>by kernel_rfl)
def yb:aI:=(109,⟨[.io cJ sW,.val (.sl ar) .shr],[.val ar .leaf],bH k,[]⟩)::(tH k)
def Jp:aH prog (yb k):=aJ (FX k) nA nA k func109 (by kernel_rfl) (fun x=>by kernel_rfl)
def zM:aI:=(281,⟨[.io cJ sW],[.val (.sl .str) .own],oM k,[]⟩)::(yb k)
def K5:aH prog (zM k):=aJ (Jp k) nA nA k func281 (by kernel_rfl) (fun x=>by kernel_rfl)
def uZ:aI:=(170,⟨[.io cJ sW],[.val db D5],lF k,[]⟩)::(zM k)
def FY:aH prog (uZ k):=aJ (K5 k) nA nA k func170 (by kernel_rfl) (fun x=>by kernel_rfl)
def zR:aI:=(93,⟨[.val ar .leaf,.val ar .leaf,.val ar .leaf],[.val .bool .leaf],bY k,[]⟩)::(uZ k)
def Lp:aH prog (zR k):=aJ (FY k) nA nA k func93 (by kernel_rfl) (fun x=>by kernel_rfl)
def EI:aQ:=fun|2=>some ⟨[(0,.val .str .leaf),(3,.val ar .leaf)],4⟩|_=>none
def EN:aQ:=fun|6=>some ⟨[(0,.val .str .leaf)],4⟩|_=>none
def wS:aI:=(282,⟨[.val .str .leaf],[.val .bool .leaf],km k,[]⟩)::(zR k)
def HF:aH prog (wS k):=aJ (Lp k) EI EN k func282 (by kernel_rfl) (fun x=>by kernel_rfl)
def zJ:aI:=(246,⟨[.val .str .leaf,.val .str .leaf],[.val .bool .leaf],fH k,[]⟩)::(wS k)
def Lu:aH prog (zJ k):=aJ (HF k) nA nA k func246 (by kernel_rfl) (fun x=>by kernel_rfl)
def Cg:aQ:=fun|2=>some ⟨[(0,.val (.sl .str) aT),(3,.val ar .leaf)],4⟩|_=>none
def uv:aI:=(283,⟨[.val (.sl .str) .shr],[.val .bool .leaf],gH k,[]⟩)::(zJ k)
def FF:aH prog (uv k):=aJ (Lu k) Cg nA k func283 (by kernel_rfl) (fun x=>by kernel_rfl)
def Jx:aQ:=fun|2=>some ⟨[(0,.val (.sl .str) aT),(3,.val ar .leaf)],4⟩|_=>none
def JL:aQ:=fun|6=>some ⟨[(0,.val (.sl .str) aT)],4⟩|_=>none
def zK:aI:=(173,⟨[.val (.sl .str) .shr],[.val .bool .leaf],oN k,[]⟩)::(uv k)
def Lt:aH prog (zK k):=aJ (FF k) Jx JL k func173 (by kernel_rfl) (fun x=>by kernel_rfl)
def wH:aI:=(92,⟨[.val db ox],[.val .bool .leaf],mH k,[]⟩)::(zK k)
def Ht:aH prog (wH k):=aJ (Lt k) nA nA k func92 (by kernel_rfl) (fun x=>by kernel_rfl)
def uA:aI:=(106,⟨[.val db ox],[.val db D5],jD k,[]⟩)::(wH k)
def EG:aH prog (uA k):=aJ (Ht k) nA nA k func106 (by kernel_rfl) (fun x=>by kernel_rfl)
def Bj:aQ:=fun|2=>some ⟨[(0,.val ar .leaf),(3,.val (.sl aj) wZ)],5⟩|_=>none
def sq:aI:=(107,⟨[.val ar .leaf],[.val (.sl aj) .own],kG k,[]⟩)::(uA k)
def C5:aH prog (sq k):=aJ (EG k) Bj nA k func107 (by kernel_rfl) (fun x=>by kernel_rfl)
def A0:aQ:=fun|5=>some ⟨[(1,.box 4 db BM),(2,.box 5 aD qf),(3,.box 6 aD TY),(4,.val ar .leaf)],10⟩|9=>some ⟨[(1,.box 4 db BM),(2,.box 5 aD qf),(3,.box 6 aD (.pair y0 (.pair .leaf (.pair .leaf (.pair pX (.pair JA (.pair oe (.pair .leaf (.pair oe (.pair .leaf (.pair oe (.pair oe (.pair oe (.pair MB oe)))))))))))))),(5,.val ar .leaf)],11⟩|_=>none
def AR:aQ:=fun|8=>some ⟨[(1,.box 4 db BM),(2,.box 5 aD qf),(3,.box 6 aD TY)],10⟩|_=>none
def rC:aI:=(27,⟨[.val db ox],[.val aD jH],kO k,[]⟩)::(sq k)
def Cj:aH prog (rC k):=aJ (C5 k) A0 AR k func27 (by kernel_rfl) (fun x=>by kernel_rfl)
def wX:aI:=(146,⟨[.val ae gx],[.val ae sK],br k,[]⟩)::(rC k)
def HN:aH prog (wX k):=aJ (Cj k) nA nA k func146 (by kernel_rfl) (fun x=>by kernel_rfl)
def Ha:aQ:=fun|3=>some ⟨[(0,.val (.sl ae) aT),(3,.val (.sl ae) wZ),(4,.val ar .leaf)],5⟩|_=>none
def xO:aI:=(210,⟨[.val (.sl ae) .shr],[.val (.sl ae) .own],bK k,[]⟩)::(wX k)
def Jm:aH prog (xO k):=aJ (HN k) Ha nA k func210 (by kernel_rfl) (fun x=>by kernel_rfl)
def wO:aI:=(345,⟨[.val ax oU],[.val ax BD],kj k,[]⟩)::(xO k)
def Hu:aH prog (wO k):=aJ (Jm k) nA nA k func345 (by kernel_rfl) (fun x=>by kernel_rfl)
def Ei:aQ:=fun|3=>some ⟨[(1,.box 4 aj h6),(2,.box 5 aj rO),(3,.box 6 aj Mc),(4,.val ar .leaf)],8⟩|_=>none
def wM:aI:=(302,⟨[.val aj pD],[.val aj (.pair .leaf BD)],iF k,[]⟩)::(wO k)
def Hf:aH prog (wM k):=aJ (Hu k) Ei nA k func302 (by kernel_rfl) (fun x=>by kernel_rfl)
def Es:aQ:=fun|3=>some ⟨[(0,.val (.sl aj) aT),(3,.val (.sl aj) wZ),(4,.val ar .leaf)],5⟩|_=>none
def wj:aI:=(208,⟨[.val (.sl aj) .shr],[.val (.sl aj) .own],mB k,[]⟩)::(wM k)
def Hm:aH prog (wj k):=aJ (Hf k) Es nA k func208 (by kernel_rfl) (fun x=>by kernel_rfl)
end
end Vg.Tryz
namespace Vg.Tryz
open Go Vg Go.Proofs
set_option maxRecDepth 1000000
section
variable(k:Nat)
def we:aI:=(303,⟨[.val aW KZ],[.val aW (.pair .own .leaf)],iz k,[]⟩)::(wj k)
def Hi:aH prog (we k):=aJ (Hm k) nA nA k func303 (by kernel_rfl) (fun x=>by kernel_rfl)
def HO:aQ:=fun|3=>some ⟨[(0,.val (.sl aW) aT),(3,.val (.sl aW) wZ),(4,.val ar .leaf)],5⟩|_=>none
def yk:aI:=(209,⟨[.val (.sl aW) .shr],[.val (.sl aW) .own],qL k,[]⟩)::(we k)
def JS:aH prog (yk k):=aJ (Hi k) HO nA k func209 (by kernel_rfl) (fun x=>by kernel_rfl)
def tO:aI:=(304,⟨[.val al GQ],[.val al (.pair .leaf UL)],fA k,[]⟩)::(yk k)
def FO:aH prog (tO k):=aJ (JS k) nA nA k func304 (by kernel_rfl) (fun x=>by kernel_rfl)
def CI:aQ:=fun|3=>some ⟨[(0,.val (.sl al) aT),(3,.val (.sl al) wZ),(4,.val ar .leaf)],5⟩|_=>none
def uo:aI:=(211,⟨[.val (.sl al) .shr],[.val (.sl al) .own],fF k,[]⟩)::(tO k)
def ED:aH prog (uo k):=aJ (FO k) CI nA k func211 (by kernel_rfl) (fun x=>by kernel_rfl)
def sC:aI:=(212,⟨[.val cw (.pair .leaf (.pair .shr oU))],[.val cw WT],fT k,[]⟩)::(uo k)
def Ct:aH prog (sC k):=aJ (ED k) nA nA k func212 (by kernel_rfl) (fun x=>by kernel_rfl)
def tv:aI:=(213,⟨[.val aq pF],[.val aq (.pair .leaf (.pair .leaf (.pair sK (.pair .own (.pair .leaf (.pair .own (.pair .own xp)))))))],jt k,[]⟩)::(sC k)
def Fo:aH prog (tv k):=aJ (Ct k) nA nA k func213 (by kernel_rfl) (fun x=>by kernel_rfl)
def uJ:aI:=(305,⟨[.val ay Qa],[.val ay (.pair .leaf (.pair .leaf (.pair sK (.pair .own (.pair .leaf (.pair .leaf (.pair .leaf (.pair .own q59))))))))],jw k,[]⟩)::(tv k)
def Fx:aH prog (uJ k):=aJ (Fo k) nA nA k func305 (by kernel_rfl) (fun x=>by kernel_rfl)
def Eu:aQ:=fun|3=>some ⟨[(0,.val (.sl ay) aT),(3,.val (.sl ay) wZ),(4,.val ar .leaf)],5⟩|_=>none
def wk:aI:=(214,⟨[.val (.sl ay) .shr],[.val (.sl ay) .own],pH k,[]⟩)::(uJ k)
def Ih:aH prog (wk k):=aJ (Fx k) Eu nA k func214 (by kernel_rfl) (fun x=>by kernel_rfl)
def CB:aQ:=fun|11=>some ⟨[(1,.box 4 aD fL),(2,.box 5 aD qf),(3,.box 6 aD U7),(4,.box 14 db y0),(5,.val ar .leaf)],15⟩|18=>some ⟨[(1,.box 4 aD fL),(2,.box 5 aD qf),(3,.box 6 aD VN),(4,.box 16 db y0),(7,.val ar .leaf)],17⟩|_=>none
def Cc:aQ:=fun|15=>some ⟨[(1,.box 4 aD fL),(2,.box 5 aD qf),(3,.box 6 aD U7),(4,.box 14 db y0)],15⟩|22=>some ⟨[(1,.box 4 aD fL),(2,.box 5 aD qf),(3,.box 6 aD VN),(4,.box 16 db y0)],17⟩|_=>none
def tI:aI:=(113,⟨[.val aD yJ],[.val aD jH],jB k,[]⟩)::(wk k)
def Fy:aH prog (tI k):=aJ (Ih k) CB Cc k func113 (by kernel_rfl) (fun x=>by kernel_rfl)
def xJ:aI:=(299,⟨[.io cJ sW,.val (.sl .str) .shr],[.val .str .leaf],eF k,[]⟩)::(tI k)
def Kj:aH prog (xJ k):=aJ (Fy k) nA nA k func299 (by kernel_rfl) (fun x=>by kernel_rfl)
def wc:aI:=(137,⟨[.io cJ sW,.val ar .leaf],[.val .bool .leaf],di k,[]⟩)::(xJ k)
def Hk:aH prog (wc k):=aJ (Kj k) nA nA k func137 (by kernel_rfl) (fun x=>by kernel_rfl)
def Fi:aQ:=fun|3=>some ⟨[(0,.box 4 cJ Kc),(3,.val (.sl ak) NA),(11,.val (.sl .str) (.sl (.row 6 [] true))),(12,.val ar .leaf),(13,.val ar .leaf)],7⟩|_=>none
def wK:aI:=(241,⟨[.io cJ sW],[.val (.sl ak) .own],fk k,[]⟩)::(wc k)
def Hb:aH prog (wK k):=aJ (Hk k) Fi nA k func241 (by kernel_rfl) (fun x=>by kernel_rfl)
def uw:aI:=(298,⟨[.io cJ sW],[.val .str .leaf],jA k,[]⟩)::(wK k)
def Gb:aH prog (uw k):=aJ (Hb k) nA nA k func298 (by kernel_rfl) (fun x=>by kernel_rfl)
def wA:aI:=(197,⟨[.io cJ sW],[.val ae sK],dw k,[]⟩)::(uw k)
def HD:aH prog (wA k):=aJ (Gb k) nA nA k func197 (by kernel_rfl) (fun x=>by kernel_rfl)
def uE:aI:=(319,⟨[.io cJ sW],[.val .str .leaf],lS k,[]⟩)::(wA k)
def Ep:aH prog (uE k):=aJ (HD k) nA nA k func319 (by kernel_rfl) (fun x=>by kernel_rfl)
def qq:aI:=(242,⟨[.io cJ sW],[.val .str .leaf],jZ k,[]⟩)::(uE k)
def Au:aH prog (qq k):=aJ (Ep k) nA nA k func242 (by kernel_rfl) (fun x=>by kernel_rfl)
def pT:aI:=(198,⟨[.io cJ sW],[.val .str .leaf],fh k,[]⟩)::(qq k)
def zh:aH prog (pT k):=aJ (Au k) nA nA k func198 (by kernel_rfl) (fun x=>by kernel_rfl)
def xT:aI:=(130,⟨[.io cJ sW],[.val (.sl ak) .own],nF k,[]⟩)::(pT k)
def Jt:aH prog (xT k):=aJ (zh k) nA nA k func130 (by kernel_rfl) (fun x=>by kernel_rfl)
def yf:aI:=(273,⟨[.io cJ sW],[.val ar .leaf],nN k,[]⟩)::(xT k)
def JB:aH prog (yf k):=aJ (Jt k) nA nA k func273 (by kernel_rfl) (fun x=>by kernel_rfl)
def yC:aI:=(163,⟨[.io cJ sW],[.val ar .leaf],nH k,[]⟩)::(yf k)
def JP:aH prog (yC k):=aJ (JB k) nA nA k func163 (by kernel_rfl) (fun x=>by kernel_rfl)
def yP:aI:=(110,⟨[.io cJ sW],[.val ae sK],gL k,[]⟩)::(yC k)
def Ji:aH prog (yP k):=aJ (JP k) nA nA k func110 (by kernel_rfl) (fun x=>by kernel_rfl)
def AS:aQ:=fun|3=>some ⟨[(1,.box 4 aj h6),(3,.val (.sl ae) KT),(4,.val ar .leaf)],6⟩|_=>none
def rW:aI:=(285,⟨[.val aj pD],[.val (.sl ae) .own],iM k,[]⟩)::(yP k)
def Cd:aH prog (rW k):=aJ (Ji k) AS nA k func285 (by kernel_rfl) (fun x=>by kernel_rfl)
def DF:aQ:=fun|2=>some ⟨[(0,.val (.sl ak) aT),(1,.val (.sl ak) aT),(5,.val ar .leaf)],4⟩|_=>none
def CQ:aQ:=fun|8=>some ⟨[(0,.val (.sl ak) aT),(1,.val (.sl ak) aT)],4⟩|_=>none
def uK:aI:=(350,⟨[.val (.sl ak) .shr,.val (.sl ak) .shr],[.val .bool .leaf],jr k,[]⟩)::(rW k)
def Fc:aH prog (uK k):=aJ (Cd k) DF CQ k func350 (by kernel_rfl) (fun x=>by kernel_rfl)
def Ev:aQ:=fun|3=>some ⟨[(0,.val (.sl ae) aT),(3,.val (.sl ae) Re),(4,.val ar .leaf)],5⟩|7=>some ⟨[(0,.val (.sl ae) aT),(3,.val (.sl ae) Re),(4,.val ar .leaf),(5,.box 5 ae XJ),(6,.val ar .leaf)],7⟩|_=>none
def FB:aQ:=fun|9=>some ⟨[(0,.val (.sl ae) aT),(3,.val (.sl ae) Re),(4,.val ar .leaf),(5,.box 5 ae XJ),(6,.val ar .leaf)],7⟩|_=>none
def wF:aI:=(286,⟨[.val (.sl ae) .shr],[.val (.sl ae) .hd],iC k,[]⟩)::(uK k)
def HU:aH prog (wF k):=aJ (Fc k) Ev FB k func286 (by kernel_rfl) (fun x=>by kernel_rfl)
def y4:aQ:=fun|3=>some ⟨[(0,.val (.sl aj) aT),(3,.val (.sl ae) wZ),(4,.val ar .leaf)],5⟩|_=>none
def y6:aQ:=fun|6=>some ⟨[(3,.val (.sl ae) wZ)],5⟩|_=>none
def qA:aI:=(175,⟨[.val (.sl aj) .shr],[.val (.sl ae) .hd],cF k,[]⟩)::(wF k)
def AB:aH prog (qA k):=aJ (HU k) y4 y6 k func175 (by kernel_rfl) (fun x=>by kernel_rfl)
def sJ:aI:=(336,⟨[.io cJ sW,.val (.sl ae) .shr],[.val (.sl ak) .own],cQ k,[]⟩)::(qA k)
def Dd:aH prog (sJ k):=aJ (AB k) nA nA k func336 (by kernel_rfl) (fun x=>by kernel_rfl)
def zI:aI:=(337,⟨[.val aD yJ],[.val .bool .leaf],kA k,[]⟩)::(sJ k)
def K1:aH prog (zI k):=aJ (Dd k) nA nA k func337 (by kernel_rfl) (fun x=>by kernel_rfl)
def DC:aQ:=fun|22=>some ⟨[(0,.box 4 cJ Kc),(3,.box 5 aD fL),(4,.box 6 iw E7),(5,.val ar .leaf),(7,.val ar .leaf)],7⟩|_=>none
def Ch:aQ:=fun|9=>some ⟨[(0,.box 4 cJ Kc),(3,.box 5 aD fL),(4,.box 6 iw E7),(5,.val ar .leaf),(6,.box 7 ae (.pair pX (.pair .leaf BK)))],9⟩|20=>some ⟨[(0,.box 4 cJ Kc),(3,.box 5 aD fL),(4,.box 6 iw E7)],7⟩|26=>some ⟨[(0,.box 4 cJ Kc),(3,.box 5 aD fL),(4,.box 6 iw E7),(5,.val ar .leaf)],7⟩|_=>none
def uF:aI:=(262,⟨[.io cJ sW,.val aD yJ],[.val iw (.pair .leaf (.pair .leaf (.pair sK .own)))],lR k,[]⟩)::(zI k)
def El:aH prog (uF k):=aJ (K1 k) DC Ch k func262 (by kernel_rfl) (fun x=>by kernel_rfl)
def Cm:aQ:=fun|2=>some ⟨[(0,.val .str .leaf),(3,.val ar .leaf)],4⟩|_=>none
def CD:aQ:=fun|6=>some ⟨[(0,.val .str .leaf)],4⟩|_=>none
def ue:aI:=(287,⟨[.val .str .leaf],[.val .bool .leaf],jE k,[]⟩)::(uF k)
def F5:aH prog (ue k):=aJ (El k) Cm CD k func287 (by kernel_rfl) (fun x=>by kernel_rfl)
def tN:aI:=(245,⟨[.val ak xp],[.val .bool .leaf],lH k,[]⟩)::(ue k)
def Gc:aH prog (tN k):=aJ (F5 k) nA nA k func245 (by kernel_rfl) (fun x=>by kernel_rfl)
def GW:aQ:=fun|2=>some ⟨[(0,.val (.sl ak) aT),(3,.val ar .leaf)],4⟩|_=>none
def H4:aQ:=fun|6=>some ⟨[(0,.val (.sl ak) aT)],4⟩|_=>none
def xX:aI:=(132,⟨[.val (.sl ak) .shr],[.val .bool .leaf],jF k,[]⟩)::(tN k)
def JW:aH prog (xX k):=aJ (Gc k) GW H4 k func132 (by kernel_rfl) (fun x=>by kernel_rfl)
def uH:aI:=(177,⟨[.val ae gx],[.val .bool .leaf],lO k,[]⟩)::(xX k)
def Fv:aH prog (uH k):=aJ (JW k) nA nA k func177 (by kernel_rfl) (fun x=>by kernel_rfl)
def zQ:aI:=(176,⟨[.val db ox,.val ae gx],[.val .bool .leaf],oT k,[]⟩)::(uH k)
def K0:aH prog (zQ k):=aJ (Fv k) nA nA k func176 (by kernel_rfl) (fun x=>by kernel_rfl)
def qR:aI:=(181,⟨[.val ar .leaf],[.val ar .leaf],eN k,[]⟩)::(zQ k)
def AL:aH prog (qR k):=aJ (K0 k) nA nA k func181 (by kernel_rfl) (fun x=>by kernel_rfl)
def rz:aI:=(215,⟨[.io aD ov,.val ar .leaf,.val aq pF],[],cS k,[(0,(jd 14 12))]⟩)::(qR k)
def Dj:aH prog (rz k):=aJ (AL k) nA nA k func215 (by kernel_rfl) (fun x=>by kernel_rfl)
def rI:aI:=(216,⟨[.io aD ov,.val ay Qa],[],bV k,[(0,(jd 14 12))]⟩)::(rz k)
def Dx:aH prog (rI k):=aJ (Dj k) nA nA k func216 (by kernel_rfl) (fun x=>by kernel_rfl)
def Aw:aQ:=fun|4=>some ⟨[(0,.box 4 aD sZ),(5,.box 14 ae xl)],15⟩|_=>none
def sn:aI:=(114,⟨[.io aD ov,.val ar .leaf,.val ae gx],[],kP k,[]⟩)::(rI k)
def B9:aH prog (sn k):=aJ (Dx k) nA Aw k func114 (by kernel_rfl) (fun x=>by kernel_rfl)
def rD:aI:=(133,⟨[.io aD ov,.val ar .leaf,.val aq pF],[],dF k,[]⟩)::(sn k)
def DH:aH prog (rD k):=aJ (B9 k) nA nA k func133 (by kernel_rfl) (fun x=>by kernel_rfl)
def Dg:aQ:=fun|5=>some ⟨[(0,.val (.sl ak) aT),(3,.val .str .leaf),(4,.val ar .leaf)],4⟩|_=>none
def Dp:aQ:=fun|9=>some ⟨[(0,.val (.sl ak) aT),(3,.val .str .leaf),(4,.val ar .leaf)],4⟩|10=>some ⟨[(3,.val .str .leaf)],4⟩|_=>none
def um:aI:=(354,⟨[.val (.sl ak) .shr],[.val .str .leaf],lU k,[]⟩)::(rD k)
def Fh:aH prog (um k):=aJ (DH k) Dg Dp k func354 (by kernel_rfl) (fun x=>by kernel_rfl)
def Lz:aQ:=fun|3=>some ⟨[(0,.val .str .leaf),(3,.val ar .leaf),(4,.val ar .leaf)],4⟩|_=>none
def DL:aI:=(353,⟨[.val .str .leaf],[.val ar .leaf],jR k,[]⟩)::(um k)
def MK:aH prog (DL k):=aJ (Fh k) Lz nA k func353 (by kernel_rfl) (fun x=>by kernel_rfl)
def wh:aI:=(294,⟨[.val (.sl ak) .shr],[.val ar .leaf],fj k,[]⟩)::(DL k)
def Ia:aH prog (wh k):=aJ (MK k) nA nA k func294 (by kernel_rfl) (fun x=>by kernel_rfl)
def wG:aI:=(293,⟨[.val ar .leaf,.val ar .leaf],[.val ar .leaf],kq k,[]⟩)::(wh k)
def Ie:aH prog (wG k):=aJ (Ia k) nA nA k func293 (by kernel_rfl) (fun x=>by kernel_rfl)
def wm:aI:=(291,⟨[.val (.sl aj) .shr,.val (.sl ak) .shr],[.val ar .leaf],gg k,[]⟩)::(wG k)
def HY:aH prog (wm k):=aJ (Ie k) nA nA k func291 (by kernel_rfl) (fun x=>by kernel_rfl)
def tX:aI:=(231,⟨[.rd aD,.val ar .leaf],[.val ar .leaf],gI k,[]⟩)::(wm k)
def FZ:aH prog (tX k):=aJ (HY k) nA nA k func231 (by kernel_rfl) (fun x=>by kernel_rfl)
def Jz:aQ:=fun|2=>some ⟨[(1,.val ar .leaf),(2,.box 4 aj h6),(5,.val ar .leaf)],5⟩|_=>none
def zX:aI:=(351,⟨[.val aj pD,.val ar .leaf],[.val ar .leaf],iY k,[]⟩)::(tX k)
def K4:aH prog (zX k):=aJ (FZ k) Jz nA k func351 (by kernel_rfl) (fun x=>by kernel_rfl)
def BQ:aQ:=fun|4=>some ⟨[(0,.val (.sl ak) aT),(1,.val (.sl ak) aT),(5,.val ar .leaf)],4⟩|_=>none
def uS:aI:=(184,⟨[.val (.sl ak) .shr,.val (.sl ak) .shr],[.val .bool .leaf],gJ k,[]⟩)::(zX k)
def Fl:aH prog (uS k):=aJ (K4 k) BQ nA k func184 (by kernel_rfl) (fun x=>by kernel_rfl)
def Df:aQ:=fun|2=>some ⟨[(1,.val (.sl ak) aT),(2,.box 4 ax KY),(5,.val ar .leaf)],5⟩|_=>none
def uz:aI:=(352,⟨[.val ax oU,.val (.sl ak) .shr],[.val ar .leaf],fC k,[]⟩)::(uS k)
def FQ:aH prog (uz k):=aJ (Fl k) Df nA k func352 (by kernel_rfl) (fun x=>by kernel_rfl)
def wb:aI:=(290,⟨[.val aj pD,.val (.sl ak) .shr],[.val ae sK,.val .bool .leaf],mC k,[]⟩)::(uz k)
def He:aH prog (wb k):=aJ (FQ k) nA nA k func290 (by kernel_rfl) (fun x=>by kernel_rfl)
def qv:aI:=(182,⟨[.val (.sl aj) .shr,.val (.sl ak) .shr],[.val ae sK,.val .bool .leaf],fE k,[]⟩)::(wb k)
def A6:aH prog (qv k):=aJ (He k) nA nA k func182 (by kernel_rfl) (fun x=>by kernel_rfl)
def BU:aQ:=fun|3=>some ⟨[(0,.val (.sl aj) aT),(3,.val ar .leaf),(4,.val ar .leaf)],4⟩|6=>some ⟨[(0,.val (.sl aj) aT),(3,.val ar .leaf),(4,.val ar .leaf),(5,.val ar .leaf)],4⟩|_=>none
def ub:aI:=(315,⟨[.val (.sl aj) .shr],[.val ar .leaf],l0 k,[]⟩)::(qv k)
def FP:aH prog (ub k):=aJ (A6 k) BU nA k func315 (by kernel_rfl) (fun x=>by kernel_rfl)
end
def FD:aQ:=fun|6=>some ⟨[(0,.box 4 aD (.pair BM (.pair .leaf (.pair .leaf (.pair (.sl (.row 5 [1,5] false)) (.pair (.sl (.row 6 [1,6] false)) (.pair (.sl (.row 7 [1,7] false)) (.pair .leaf (.pair (.sl (.row 8 [1,8] false)) (.pair .leaf (.pair (.sl (.row 9 [1,9] false)) (.pair (.sl (.row 10 [1,10] false)) (.pair (.sl (.row 11 [1,11] false)) XO))))))))))))),(1,.val ar .leaf),(8,.ept 13 ay 0 [] ay)],14⟩|_=>none
section
variable(k:Nat)
def wi:aI:=(257,⟨[.io aD ov,.val ar .leaf,.val ar .leaf,.vx ae [12]],[],bR k,[]⟩)::(ub k)
def H9:aH prog (wi k):=aJ (FP k) nA FD k func257 (by kernel_rfl) (fun x=>by kernel_rfl)
def yq:aI:=(391,⟨[.val ae gx,.val ae gx],[.val .bool .leaf],nU k,[]⟩)::(wi k)
def Kr:aH prog (yq k):=aJ (H9 k) nA nA k func391 (by kernel_rfl) (fun x=>by kernel_rfl)
def yA:aI:=(392,⟨[.val ar .leaf,.val ar .leaf],[.val ar .leaf],qp k,[]⟩)::(yq k)
def Ke:aH prog (yA k):=aJ (Kr k) nA nA k func392 (by kernel_rfl) (fun x=>by kernel_rfl)
def yn:aI:=(387,⟨[.val ae gx,.val ae gx],[.val ae sK],nz k,[]⟩)::(yA k)
def IY:aH prog (yn k):=aJ (Ke k) nA nA k func387 (by kernel_rfl) (fun x=>by kernel_rfl)
def sj:aI:=(379,⟨[.val ax oU,.val ae gx],[.val ax BD,.val .bool .leaf],kI k,[]⟩)::(yn k)
def CA:aH prog (sj k):=aJ (IY k) nA nA k func379 (by kernel_rfl) (fun x=>by kernel_rfl)
def Ib:aQ:=fun|10=>some ⟨[(2,.box 4 aj h6),(3,.box 5 ae xl),(4,.box 6 aj rO),(6,.box 7 aj XG),(7,.val ar .leaf),(8,.val ar .leaf)],9⟩|_=>none
def HK:aQ:=fun|12=>some ⟨[(2,.box 4 aj h6),(3,.box 5 ae xl),(4,.box 6 aj rO),(6,.box 7 aj XG),(7,.val ar .leaf),(8,.val ar .leaf)],9⟩|_=>none
def yL:aI:=(362,⟨[.val aj pD,.val ae gx],[.val aj (.pair .leaf (.pair .leaf .pv)),.val .bool .leaf],nk k,[]⟩)::(sj k)
def Jr:aH prog (yL k):=aJ (CA k) Ib HK k func362 (by kernel_rfl) (fun x=>by kernel_rfl)
def rX:aI:=(316,⟨[.val (.sl aj) .shr,.val ae gx],[.val (.sl aj) .pv,.val .bool .leaf],kQ k,[]⟩)::(yL k)
def Cu:aH prog (rX k):=aJ (Jr k) nA nA k func316 (by kernel_rfl) (fun x=>by kernel_rfl)
def zp:aQ:=fun|12=>some ⟨[(0,.box 4 aD (.pair BM (.pair .leaf (.pair .leaf (.pair (.sl (.row 5 [5] false)) DP))))),(1,.val ar .leaf),(4,.box 14 aq Sp),(6,.box 15 ae (.pair (.sl (.row 16 [16] true)) (.pair .leaf BK))),(10,.ept 13 ay 0 [] ay)],17⟩|_=>none
def qP:aI:=(232,⟨[.io aD ov,.val ar .leaf],[],jW k,[]⟩)::(rX k)
def Av:aH prog (qP k):=aJ (Cu k) nA zp k func232 (by kernel_rfl) (fun x=>by kernel_rfl)
def zS:aI:=(346,⟨[.val aW KZ,.val ae gx],[.val aW (.pair .own .leaf)],oO k,[]⟩)::(qP k)
def Lm:aH prog (zS k):=aJ (Av k) nA nA k func346 (by kernel_rfl) (fun x=>by kernel_rfl)
def C4:aQ:=fun|3=>some ⟨[(0,.val (.sl aW) aT),(3,.box 4 ae xl),(5,.val (.sl aW) KT),(6,.val ar .leaf)],6⟩|_=>none
def uy:aI:=(317,⟨[.val (.sl aW) .shr,.val ae gx],[.val (.sl aW) .own],lG k,[]⟩)::(zS k)
def FG:aH prog (uy k):=aJ (Lm k) C4 nA k func317 (by kernel_rfl) (fun x=>by kernel_rfl)
def u9:aI:=(233,⟨[.io aD ov,.val ar .leaf],[],oG k,[]⟩)::(uy k)
def EJ:aH prog (u9 k):=aJ (FG k) nA nA k func233 (by kernel_rfl) (fun x=>by kernel_rfl)
def BW:aQ:=fun|11=>some ⟨[(0,.box 4 aD sZ)],14⟩|_=>none
def tS:aI:=(123,⟨[.io aD ov,.val ar .leaf],[.val .bool .leaf],lY k,[]⟩)::(u9 k)
def EW:aH prog (tS k):=aJ (EJ k) nA BW k func123 (by kernel_rfl) (fun x=>by kernel_rfl)
def uO:aI:=(250,⟨[.io aD ov,.val ar .leaf,.val ar .leaf],[.val .bool .leaf],gF k,[(0,(jd 14 12))]⟩)::(tS k)
def En:aH prog (uO k):=aJ (EW k) nA nA k func250 (by kernel_rfl) (fun x=>by kernel_rfl)
def wv:aI:=(249,⟨[.io aD ov,.val ar .leaf],[.val .bool .leaf],mw k,[]⟩)::(uO k)
def HQ:aH prog (wv k):=aJ (En k) nA nA k func249 (by kernel_rfl) (fun x=>by kernel_rfl)
def u6:aI:=(251,⟨[.io aD ov,.val ar .leaf],[],lW k,[(0,(jd 14 12))]⟩)::(wv k)
def FJ:aH prog (u6 k):=aJ (HQ k) nA nA k func251 (by kernel_rfl) (fun x=>by kernel_rfl)
def A8:aQ:=fun|2=>some ⟨[(0,.box 4 aD KX),(1,.val ar .leaf),(4,.box 14 aq Sp),(5,.val ar .leaf)],15⟩|_=>none
def AU:aQ:=fun|6=>some ⟨[(0,.box 4 aD KX),(1,.val ar .leaf),(4,.box 14 aq Sp)],15⟩|_=>none
def rF:aI:=(252,⟨[.io aD ov,.val ar .leaf],[],kR k,[]⟩)::(u6 k)
def Cy:aH prog (rF k):=aJ (FJ k) A8 AU k func252 (by kernel_rfl) (fun x=>by kernel_rfl)
def Cf:aQ:=fun|9=>some ⟨[(0,.box 4 aD sZ),(5,.val .bool .leaf)],14⟩|_=>none
def uL:aI:=(136,⟨[.io aD ov,.val ar .leaf],[.val .bool .leaf],jx k,[]⟩)::(rF k)
def Em:aH prog (uL k):=aJ (Cy k) nA Cf k func136 (by kernel_rfl) (fun x=>by kernel_rfl)
def Ab:aI:=(145,⟨[.val ae gx,.val ar .leaf],[.val .bool .leaf],mn k,[]⟩)::(uL k)
def Lg:aH prog (Ab k):=aJ (Em k) nA nA k func145 (by kernel_rfl) (fun x=>by kernel_rfl)
def AZ:aQ:=fun|4=>some ⟨[(1,.val ar .leaf),(2,.box 4 ax KY),(4,.box 5 ax (.pair .leaf oe)),(6,.box 6 ax rj),(7,.val (.sl ae) pX),(8,.val ar .leaf)],9⟩|_=>none
def Bd:aQ:=fun|10=>some ⟨[(2,.box 4 ax KY),(4,.box 5 ax (.pair .leaf oe)),(6,.box 6 ax rj),(7,.val (.sl ae) pX)],9⟩|_=>none
def sA:aI:=(324,⟨[.val ax oU,.val ar .leaf],[.val ax BD,.val (.sl ae) .own],kU k,[]⟩)::(Ab k)
def CW:aH prog (sA k):=aJ (Lg k) AZ Bd k func324 (by kernel_rfl) (fun x=>by kernel_rfl)
def C7:aQ:=fun|4=>some ⟨[(1,.val ar .leaf),(2,.box 4 aj h6),(4,.box 5 aj rO),(6,.box 6 aj Mc),(7,.val (.sl ae) pX),(8,.val ar .leaf)],9⟩|_=>none
def BT:aQ:=fun|10=>some ⟨[(2,.box 4 aj h6),(4,.box 5 aj rO),(6,.box 6 aj Mc),(7,.val (.sl ae) pX)],9⟩|_=>none
def uu:aI:=(256,⟨[.val aj pD,.val ar .leaf],[.val aj (.pair .leaf BD),.val (.sl ae) .own],lN k,[]⟩)::(sA k)
def E4:aH prog (uu k):=aJ (CW k) C7 BT k func256 (by kernel_rfl) (fun x=>by kernel_rfl)
def Ci:aQ:=fun|15=>some ⟨[(0,.box 4 aD (.pair (.pair .leaf (.pair .leaf (.pair .leaf (.pair .leaf (.pair .leaf (.sl (.sha [1,2,15]))))))) (.pair .leaf (.pair .leaf (.pair (.sl (.row 5 [1,2,5,15] false)) (.pair (.sl (.row 6 [1,2,6,15] false)) (.pair (.sl (.row 7 [1,2,7,15] false)) (.pair .leaf (.pair (.sl (.row 8 [1,2,8,15] false)) (.pair .leaf (.pair (.sl (.row 9 [1,2,9,15] false)) (.pair (.sl (.row 10 [1,2,10,15] false)) (.pair (.sl (.row 11 [1,2,11,15] false)) (.pair (.sl (.row 12 [12] true)) (.sl (.row 13 [1,2,13,15] false)))))))))))))))),(6,.box 14 aj (.pair .leaf (.pair .leaf (.sl (.row 15 [15] true)))))],16⟩|_=>none
def uY:aI:=(140,⟨[.io aD ov,.val ar .leaf],[.val .bool .leaf],jz k,[]⟩)::(uu k)
def FW:aH prog (uY k):=aJ (E4 k) nA Ci k func140 (by kernel_rfl) (fun x=>by kernel_rfl)
def uk:aI:=(223,⟨[.io aD ov,.val ar .leaf],[.val .bool .leaf],js k,[(0,(jd 14 12))]⟩)::(uY k)
def EB:aH prog (uk k):=aJ (FW k) nA nA k func223 (by kernel_rfl) (fun x=>by kernel_rfl)
def HE:aQ:=fun|2=>some ⟨[(0,.val (.sl .str) aT),(1,.val .str .leaf),(5,.val ar .leaf)],4⟩|_=>none
def ya:aI:=(377,⟨[.val (.sl .str) .shr,.val .str .leaf],[.val .bool .leaf],nx k,[]⟩)::(uk k)
def Jd:aH prog (ya k):=aJ (EB k) HE nA k func377 (by kernel_rfl) (fun x=>by kernel_rfl)
def CJ:aQ:=fun|3=>some ⟨[(0,.val (.sl ak) aT),(1,.val (.sl .str) aT),(5,.val (.sl ak) Np),(6,.val ar .leaf)],5⟩|_=>none
def tu:aI:=(358,⟨[.val (.sl ak) .shr,.val (.sl .str) .shr],[.val (.sl ak) .own],oJ k,[]⟩)::(ya k)
def Ft:aH prog (tu k):=aJ (Jd k) CJ nA k func358 (by kernel_rfl) (fun x=>by kernel_rfl)
def yR:aI:=(311,⟨[.val ae gx,.val (.sl .str) .shr],[.val (.sl ak) .own],gN k,[]⟩)::(tu k)
def JN:aH prog (yR k):=aJ (Ft k) nA nA k func311 (by kernel_rfl) (fun x=>by kernel_rfl)
end
def DO:aQ:=fun|2=>some ⟨[(0,.val (.sl al) aT),(1,.val (.sl ak) aT),(5,.val ar .leaf)],4⟩|_=>none
section
variable(k:Nat)
def tw:aI:=(310,⟨[.val (.sl al) .shr,.val (.sl ak) .shr],[.val ar .leaf],eS k,[]⟩)::(yR k)
def Gi:aH prog (tw k):=aJ (JN k) DO nA k func310 (by kernel_rfl) (fun x=>by kernel_rfl)
def FL:aQ:=fun|4=>some ⟨[(2,.box 4 al IG),(3,.box 5 ae xl),(4,.box 6 al KW),(5,.box 7 al Bh),(6,.box 10 ae PE),(7,.val ar .leaf)],12⟩|10=>some ⟨[(2,.box 4 al IG),(3,.box 5 ae xl),(4,.box 6 al KW),(5,.box 7 al Bh),(6,.box 10 ae PE),(8,.val ar .leaf)],12⟩|_=>none
def F7:aQ:=fun|9=>some ⟨[(2,.box 4 al IG),(3,.box 5 ae xl),(4,.box 6 al KW),(5,.box 7 al Bh),(6,.box 10 ae PE)],12⟩|12=>some ⟨[(2,.box 4 al IG),(3,.box 5 ae xl),(4,.box 6 al KW),(5,.box 7 al Bh),(6,.box 10 ae PE),(8,.val ar .leaf)],12⟩|_=>none
def wJ:aI:=(359,⟨[.val al GQ,.val ae gx],[.val al (.pair .leaf UL)],mI k,[]⟩)::(tw k)
def H0:aH prog (wJ k):=aJ (Gi k) FL F7 k func359 (by kernel_rfl) (fun x=>by kernel_rfl)
def uP:aI:=(312,⟨[.val (.sl al) .shr,.val ae gx,.val (.sl .str) .shr,.val ar .leaf,.val ar .leaf],[.val (.sl al) .own,.val .bool .leaf],lP k,[]⟩)::(wJ k)
def F9:aH prog (uP k):=aJ (H0 k) nA nA k func312 (by kernel_rfl) (fun x=>by kernel_rfl)
def C3:aQ:=fun|2=>some ⟨[(0,.val (.sl al) aT),(1,.val ar .leaf),(5,.val ar .leaf)],4⟩|_=>none
def uI:aI:=(360,⟨[.val (.sl al) .shr,.val ar .leaf],[.val ar .leaf],gE k,[]⟩)::(uP k)
def F6:aH prog (uI k):=aJ (F9 k) C3 nA k func360 (by kernel_rfl) (fun x=>by kernel_rfl)
def tT:aI:=(297,⟨[.val al GQ,.val ar .leaf,.val ar .leaf],[.val ar .leaf],oK k,[]⟩)::(uI k)
def Fe:aH prog (tT k):=aJ (F6 k) nA nA k func297 (by kernel_rfl) (fun x=>by kernel_rfl)
def DM:aI:=(190,⟨[.val db ox,.val al GQ],[.val ar .leaf],p9 k,[]⟩)::(tT k)
def MX:aH prog (DM k):=aJ (Fe k) nA nA k func190 (by kernel_rfl) (fun x=>by kernel_rfl)
def vZ:aI:=(296,⟨[.val aE xp,.val aE xp],[.val .bool .leaf],iB k,[]⟩)::(DM k)
def GZ:aH prog (vZ k):=aJ (MX k) nA nA k func296 (by kernel_rfl) (fun x=>by kernel_rfl)
def C8:aQ:=fun|3=>some ⟨[(3,.box 4 aE BK),(5,.val (.sl aE) NA),(6,.val ar .leaf)],6⟩|_=>none
def tD:aI:=(348,⟨[.val (.sl aE) .shr,.val aE xp],[.val (.sl aE) .own],lM k,[]⟩)::(vZ k)
def Eo:aH prog (tD k):=aJ (GZ k) C8 nA k func348 (by kernel_rfl) (fun x=>by kernel_rfl)
def wP:aI:=(313,⟨[.io aD ov,.val ar .leaf],[],kv k,[(0,(jd 14 12))]⟩)::(tD k)
def Hn:aH prog (wP k):=aJ (Eo k) nA nA k func313 (by kernel_rfl) (fun x=>by kernel_rfl)
def uC:aI:=(224,⟨[.io aD ov],[],lB k,[]⟩)::(wP k)
def Fb:aH prog (uC k):=aJ (Hn k) nA nA k func224 (by kernel_rfl) (fun x=>by kernel_rfl)
def xi:aQ:=fun|11=>some ⟨[(0,.box 4 aD sZ),(3,.val .bool .leaf)],14⟩|_=>none
def pq:aI:=(118,⟨[.io aD ov],[.val .bool .leaf],iO k,[]⟩)::(uC k)
def xH:aH prog (pq k):=aJ (Fb k) nA xi k func118 (by kernel_rfl) (fun x=>by kernel_rfl)
def Bz:aQ:=fun|8=>some ⟨[(0,.val (.sl aE) aT),(3,.box 4 aE BK),(5,.val ar .leaf),(6,.val (.sl aE) NA),(7,.val ar .leaf)],6⟩|_=>none
def Bi:aQ:=fun|7=>some ⟨[(0,.val (.sl aE) aT),(3,.box 4 aE BK),(5,.val ar .leaf),(6,.val (.sl aE) NA)],6⟩|12=>some ⟨[(0,.val (.sl aE) aT),(3,.box 4 aE BK),(5,.val ar .leaf),(6,.val (.sl aE) NA),(7,.val ar .leaf),(8,.val ar .leaf)],6⟩|17=>some ⟨[(0,.val (.sl aE) aT),(3,.box 4 aE BK),(6,.val (.sl aE) NA)],6⟩|_=>none
def sG:aI:=(382,⟨[.val (.sl aE) .shr],[.val (.sl aE) .own,.val aE xp,.val .bool .leaf],kS k,[]⟩)::(pq k)
def DN:aH prog (sG k):=aJ (xH k) Bz Bi k func382 (by kernel_rfl) (fun x=>by kernel_rfl)
def Im:aQ:=fun|5=>some ⟨[(1,.val ar .leaf),(2,.box 4 al IG),(4,.box 5 al KW),(5,.box 6 cw (.pair .leaf Sv)),(6,.box 7 al Bh),(7,.val ar .leaf)],10⟩|_=>none
def HG:aQ:=fun|10=>some ⟨[(1,.val ar .leaf),(2,.box 4 al IG),(4,.box 5 al KW),(5,.box 6 cw (.pair .leaf Sv)),(6,.box 7 al Bh)],10⟩|_=>none
def xZ:aI:=(393,⟨[.val al GQ,.val ar .leaf],[.val al (.pair .leaf UL),.val cw WT],nG k,[]⟩)::(sG k)
def Km:aH prog (xZ k):=aJ (DN k) Im HG k func393 (by kernel_rfl) (fun x=>by kernel_rfl)
def uX:aI:=(390,⟨[.val (.sl al) .shr,.val ar .leaf,.val ar .leaf],[.val (.sl al) .own,.val cw WT,.val .bool .leaf],lC k,[]⟩)::(xZ k)
def ES:aH prog (uX k):=aJ (Km k) nA nA k func390 (by kernel_rfl) (fun x=>by kernel_rfl)
def sB:aI:=(383,⟨[.io aD ov],[],kK k,[]⟩)::(uX k)
def Cv:aH prog (sB k):=aJ (ES k) nA nA k func383 (by kernel_rfl) (fun x=>by kernel_rfl)
def vH:aQ:=fun|11=>some ⟨[(0,.box 4 aD sZ),(3,.val .bool .leaf)],14⟩|_=>none
def oj:aI:=(366,⟨[.io aD ov],[.val .bool .leaf],ig k,[]⟩)::(sB k)
def xk:aH prog (oj k):=aJ (Cv k) nA vH k func366 (by kernel_rfl) (fun x=>by kernel_rfl)
def Il:aQ:=fun|9=>some ⟨[(0,.box 4 aD KX),(1,.val ar .leaf)],14⟩|_=>none
def yi:aI:=(321,⟨[.io aD ov,.val ar .leaf],[.val .bool .leaf],lq k,[]⟩)::(oj k)
def Jo:aH prog (yi k):=aJ (xk k) nA Il k func321 (by kernel_rfl) (fun x=>by kernel_rfl)
def zY:aI:=(322,⟨[.val aW KZ],[.val aW (.pair .own .leaf),.val ae sK,.val ar .leaf],kC k,[]⟩)::(yi k)
def Lr:aH prog (zY k):=aJ (Jo k) nA nA k func322 (by kernel_rfl) (fun x=>by kernel_rfl)
def HT:aQ:=fun|18=>some ⟨[(0,.box 4 aD KX),(3,.box 14 iw Sc),(5,.val .bool .leaf),(6,.val ar .leaf)],15⟩|40=>some ⟨[(0,.box 4 aD sZ),(3,.box 14 iw Sc)],15⟩|_=>none
def yp:aI:=(253,⟨[.io aD ov,.val iw (.pair .leaf (.pair .leaf (.pair gx .shr)))],[.val .bool .leaf],nR k,[]⟩)::(zY k)
def Jn:aH prog (yp k):=aJ (Lr k) nA HT k func253 (by kernel_rfl) (fun x=>by kernel_rfl)
def EY:aQ:=fun|5=>some ⟨[(0,.box 4 cJ Kc),(4,.box 5 aD qf),(6,.box 6 aD qf),(7,.val (.sl iw) (.sl (.row 7 [2] false))),(8,.box 8 aD VT),(9,.box 19 aD DU),(10,.val ar .leaf)],29⟩|_=>none
def E5:aQ:=fun|12=>some ⟨[(0,.box 4 cJ Kc),(4,.box 5 aD qf),(6,.box 6 aD qf),(7,.val (.sl iw) (.sl (.row 7 [2] false))),(8,.box 8 aD VT),(9,.box 19 aD DU)],29⟩|_=>none
def wT:aI:=(150,⟨[.io cJ sW,.val ar .leaf],[.val aD jH,.val (.sl iw) .hd,.val aD ov],mz k,[]⟩)::(yp k)
def H5:aH prog (wT k):=aJ (Jn k) EY E5 k func150 (by kernel_rfl) (fun x=>by kernel_rfl)
def rG:aI:=(75,⟨[.io cJ sW,.val ar .leaf],[.val aD ov],kM k,[]⟩)::(wT k)
def BZ:aH prog (rG k):=aJ (H5 k) nA nA k func75 (by kernel_rfl) (fun x=>by kernel_rfl)
def qt:aI:=(13,⟨[.val (.sl (.int .u8)) .rom],[.val aD ov],jX k,[]⟩)::(rG k)
def A9:aH prog (qt k):=aJ (BZ k) nA nA k func13 (by kernel_rfl) (fun x=>by kernel_rfl)
def Gk:aI:=(77,⟨[.val ar .leaf,.val ar .leaf,.val ar .leaf],[.val .bool .leaf],bB k,[]⟩)::(qt k)
def Pd:aH prog (Gk k):=aJ (A9 k) nA nA k func77 (by kernel_rfl) (fun x=>by kernel_rfl)
def FN:aQ:=fun|4=>some ⟨[(0,.val .str .leaf),(3,.val ar .leaf)],4⟩|_=>none
def wW:aI:=(195,⟨[.val .str .leaf],[.val .bool .leaf],ku k,[]⟩)::(Gk k)
def HA:aH prog (wW k):=aJ (Pd k) FN nA k func195 (by kernel_rfl) (fun x=>by kernel_rfl)
def B0:aQ:=fun|2=>some ⟨[(0,.val (.sl .str) aT),(3,.val ar .leaf)],4⟩|_=>none
def ur:aI:=(196,⟨[.val (.sl .str) .shr],[.val .bool .leaf],lL k,[]⟩)::(wW k)
def FM:aH prog (ur k):=aJ (HA k) B0 nA k func196 (by kernel_rfl) (fun x=>by kernel_rfl)
end
def J0:aQ:=fun|2=>some ⟨[(0,.val (.sl .str) aT),(5,.val (.sl .str) aT),(6,.val ar .leaf),(7,.val ar .leaf)],4⟩|_=>none
def Ko:aQ:=fun|7=>some ⟨[(0,.val (.sl .str) aT)],4⟩|_=>none
section
variable(k:Nat)
def Ac:aI:=(108,⟨[.val (.sl .str) .shr],[.val .bool .leaf],oL k,[]⟩)::(ur k)
def Lc:aH prog (Ac k):=aJ (FM k) J0 Ko k func108 (by kernel_rfl) (fun x=>by kernel_rfl)
def wL:aI:=(28,⟨[.val db ox],[.val .bool .leaf],mE k,[]⟩)::(Ac k)
def GU:aH prog (wL k):=aJ (Lc k) nA nA k func28 (by kernel_rfl) (fun x=>by kernel_rfl)
def Cn:aQ:=fun|4=>some ⟨[(0,.val .str .leaf),(3,.val ar .leaf)],4⟩|_=>none
def tF:aI:=(219,⟨[.val .str .leaf],[.val .bool .leaf],jq k,[]⟩)::(wL k)
def EX:aH prog (tF k):=aJ (GU k) Cn nA k func219 (by kernel_rfl) (fun x=>by kernel_rfl)
def ua:aI:=(306,⟨[.val ak xp],[.val .bool .leaf],lE k,[]⟩)::(tF k)
def EE:aH prog (ua k):=aJ (EX k) nA nA k func306 (by kernel_rfl) (fun x=>by kernel_rfl)
def Hq:aQ:=fun|2=>some ⟨[(0,.val (.sl ak) aT),(5,.val (.sl ak) aT),(6,.val ar .leaf),(7,.val ar .leaf)],4⟩|_=>none
def yv:aI:=(218,⟨[.val (.sl ak) .shr],[.val .bool .leaf],gX k,[]⟩)::(ua k)
def Je:aH prog (yv k):=aJ (EE k) Hq nA k func218 (by kernel_rfl) (fun x=>by kernel_rfl)
def tL:aI:=(116,⟨[.val ae gx],[.val .bool .leaf],dU k,[]⟩)::(yv k)
def Eh:aH prog (tL k):=aJ (Je k) nA nA k func116 (by kernel_rfl) (fun x=>by kernel_rfl)
def CT:aQ:=fun|5=>some ⟨[(3,.val (.sl .str) Np),(9,.val (.sl ak) aT),(10,.val ar .leaf),(11,.val ar .leaf)],5⟩|_=>none
def Dl:aQ:=fun|9=>some ⟨[(3,.val (.sl .str) Np)],5⟩|_=>none
def uM:aI:=(237,⟨[.val (.sl ak) .shr],[.val .str .leaf],lV k,[]⟩)::(tL k)
def Fz:aH prog (uM k):=aJ (Eh k) CT Dl k func237 (by kernel_rfl) (fun x=>by kernel_rfl)
def K2:aQ:=fun|3=>some ⟨[(0,.val .str .leaf),(3,.val (.int .u32) .leaf),(4,.val ar .leaf)],4⟩|_=>none
def LH:aQ:=fun|6=>some ⟨[(3,.val (.int .u32) .leaf)],4⟩|_=>none
def CP:aI:=(236,⟨[.val .str .leaf],[.val ar .leaf],nJ k,[]⟩)::(uM k)
def NM:aH prog (CP k):=aJ (Fz k) K2 LH k func236 (by kernel_rfl) (fun x=>by kernel_rfl)
def wq:aI:=(126,⟨[.val (.sl ak) .shr],[.val ar .leaf],eu k,[]⟩)::(CP k)
def HZ:aH prog (wq k):=aJ (NM k) nA nA k func126 (by kernel_rfl) (fun x=>by kernel_rfl)
def DE:aQ:=fun|4=>some ⟨[(0,.val (.sl ak) aT),(1,.val (.sl ak) aT),(12,.val ar .leaf),(13,.val ar .leaf)],4⟩|_=>none
def uW:aI:=(72,⟨[.val (.sl ak) .shr,.val (.sl ak) .shr],[.val .bool .leaf],cH k,[]⟩)::(wq k)
def Ff:aH prog (uW k):=aJ (HZ k) DE nA k func72 (by kernel_rfl) (fun x=>by kernel_rfl)
def An:aQ:=fun|2=>some ⟨[(1,.val (.sl ak) aT),(7,.val (.sl ae) aT),(8,.val ar .leaf),(9,.val ar .leaf)],4⟩|_=>none
def sD:aI:=(120,⟨[.val (.sl ae) .shr,.val (.sl ak) .shr],[.val ar .leaf],ei k,[]⟩)::(uW k)
def CY:aH prog (sD k):=aJ (Ff k) An nA k func120 (by kernel_rfl) (fun x=>by kernel_rfl)
def xg:aQ:=fun|2=>some ⟨[(0,.val (.sl ae) aT),(5,.val (.sl ae) aT),(6,.val ar .leaf),(7,.val ar .leaf)],4⟩|_=>none
def pf:aI:=(368,⟨[.val (.sl ae) .shr],[.val .bool .leaf],iJ k,[]⟩)::(sD k)
def yI:aH prog (pf k):=aJ (CY k) xg nA k func368 (by kernel_rfl) (fun x=>by kernel_rfl)
def DB:aQ:=fun|2=>some ⟨[(1,.box 4 ax KY),(6,.val (.sl ae) aT),(7,.val ar .leaf),(8,.val ar .leaf)],5⟩|_=>none
def CZ:aQ:=fun|7=>some ⟨[(1,.box 4 ax KY)],5⟩|_=>none
def ux:aI:=(338,⟨[.val ax oU],[.val .bool .leaf],lI k,[]⟩)::(pf k)
def EH:aH prog (ux k):=aJ (yI k) DB CZ k func338 (by kernel_rfl) (fun x=>by kernel_rfl)
def wz:aI:=(125,⟨[.val ar .leaf,.val ar .leaf],[.val ar .leaf],fZ k,[]⟩)::(ux k)
def GX:aH prog (wz k):=aJ (EH k) nA nA k func125 (by kernel_rfl) (fun x=>by kernel_rfl)
def F3:aQ:=fun|2=>some ⟨[(1,.val ar .leaf),(2,.val ar .leaf),(3,.box 4 aj h6),(10,.val (.sl ax) aT),(11,.val ar .leaf),(12,.val ar .leaf)],5⟩|_=>none
def E9:aQ:=fun|7=>some ⟨[(3,.box 4 aj h6)],5⟩|_=>none
def wU:aI:=(263,⟨[.val aj pD,.val ar .leaf,.val ar .leaf],[.val .bool .leaf],mL k,[]⟩)::(wz k)
def Hw:aH prog (wU k):=aJ (GX k) F3 E9 k func263 (by kernel_rfl) (fun x=>by kernel_rfl)
def Cq:aQ:=fun|4=>some ⟨[(0,.val (.sl aj) aT),(9,.val (.sl aj) aT),(10,.val ar .leaf),(11,.val ar .leaf)],4⟩|_=>none
def uQ:aI:=(151,⟨[.val (.sl aj) .shr],[.val .bool .leaf],lD k,[]⟩)::(wU k)
def Et:aH prog (uQ k):=aJ (Hw k) Cq nA k func151 (by kernel_rfl) (fun x=>by kernel_rfl)
def DI:aQ:=fun|3=>some ⟨[(3,.val ar .leaf),(8,.val (.sl aj) aT),(9,.val ar .leaf),(10,.val ar .leaf)],4⟩|6=>some ⟨[(3,.val ar .leaf),(5,.box 4 aj KU),(8,.val (.sl aj) aT),(9,.val ar .leaf),(10,.val ar .leaf),(15,.val (.sl ax) (.sl (.sha [1,2]))),(16,.val ar .leaf),(17,.val ar .leaf)],5⟩|_=>none
def tY:aI:=(48,⟨[.val (.sl aj) .shr],[.val ar .leaf],j9 k,[]⟩)::(uQ k)
def Er:aH prog (tY k):=aJ (Et k) DI nA k func48 (by kernel_rfl) (fun x=>by kernel_rfl)
def tW:aI:=(244,⟨[.val (.sl ak) .shr],[.val (.sl ak) .own],il k,[]⟩)::(tY k)
def Ge:aH prog (tW k):=aJ (Er k) nA nA k func244 (by kernel_rfl) (fun x=>by kernel_rfl)
def qz:aI:=(144,⟨[.val ae gx],[.val ae sK],ck k,[]⟩)::(tW k)
def Bp:aH prog (qz k):=aJ (Ge k) nA nA k func144 (by kernel_rfl) (fun x=>by kernel_rfl)
def xS:aQ:=fun|3=>some ⟨[(3,.val (.sl ae) wZ),(6,.val (.sl ae) aT),(7,.val ar .leaf),(8,.val ar .leaf)],5⟩|_=>none
def pQ:aI:=(147,⟨[.val (.sl ae) .shr],[.val (.sl ae) .own],dD k,[]⟩)::(qz k)
def zd:aH prog (pQ k):=aJ (Bp k) xS nA k func147 (by kernel_rfl) (fun x=>by kernel_rfl)
def Ap:aQ:=fun|3=>some ⟨[(1,.box 4 aj h6),(3,.val (.sl ae) KT),(7,.val (.sl ax) aT),(8,.val ar .leaf),(9,.val ar .leaf)],6⟩|_=>none
def sH:aI:=(70,⟨[.val aj pD],[.val (.sl ae) .own],ic k,[]⟩)::(pQ k)
def CO:aH prog (sH k):=aJ (zd k) Ap nA k func70 (by kernel_rfl) (fun x=>by kernel_rfl)
def zo:aQ:=fun|3=>some ⟨[(3,.val (.sl ae) wZ),(6,.val (.sl aj) aT),(7,.val ar .leaf),(8,.val ar .leaf)],5⟩|_=>none
def zy:aQ:=fun|7=>some ⟨[(3,.val (.sl ae) wZ)],5⟩|_=>none
def qC:aI:=(51,⟨[.val (.sl aj) .shr],[.val (.sl ae) .own],jT k,[]⟩)::(sH k)
def Bf:aH prog (qC k):=aJ (CO k) zo zy k func51 (by kernel_rfl) (fun x=>by kernel_rfl)
def Aa:aI:=(36,⟨[.val db ox,.val ae gx],[.val .bool .leaf],mj k,[]⟩)::(qC k)
def Ll:aH prog (Aa k):=aJ (Bf k) nA nA k func36 (by kernel_rfl) (fun x=>by kernel_rfl)
def yt:aQ:=fun|4=>some ⟨[(1,.box 4 aD fL),(29,.val (.sl ae) KT),(30,.val ar .leaf),(31,.val ar .leaf)],6⟩|_=>none
def pL:aI:=(78,⟨[.val aD yJ],[.val .bool .leaf],jm k,[]⟩)::(Aa k)
def y9:aH prog (pL k):=aJ (Ll k) yt nA k func78 (by kernel_rfl) (fun x=>by kernel_rfl)
def Ax:aQ:=fun|2=>some ⟨[(5,.val (.sl ae) aT),(6,.val ar .leaf),(7,.val ar .leaf)],4⟩|_=>none
def ry:aI:=(80,⟨[.val (.sl ae) .shr],[.val .bool .leaf],fb k,[]⟩)::(pL k)
def Dz:aH prog (ry k):=aJ (y9 k) Ax nA k func80 (by kernel_rfl) (fun x=>by kernel_rfl)
def yE:aI:=(152,⟨[.val aW KZ],[.val .bool .leaf],nL k,[]⟩)::(ry k)
def I9:aH prog (yE k):=aJ (Dz k) nA nA k func152 (by kernel_rfl) (fun x=>by kernel_rfl)
def zw:aQ:=fun|2=>some ⟨[(0,.val (.sl aW) aT),(3,.box 4 db BM),(7,.val (.sl aW) aT),(8,.val ar .leaf),(9,.val ar .leaf)],5⟩|_=>none
def zu:aQ:=fun|7=>some ⟨[(0,.val (.sl aW) aT),(3,.box 4 db BM)],5⟩|_=>none
def qM:aI:=(79,⟨[.val (.sl aW) .shr,.val db ox],[.val .bool .leaf],j7 k,[]⟩)::(yE k)
def A4:aH prog (qM k):=aJ (I9 k) zw zu k func79 (by kernel_rfl) (fun x=>by kernel_rfl)
def so:aI:=(264,⟨[.val ar .leaf,.val ar .leaf],[.val .bool .leaf],kH k,[]⟩)::(qM k)
def Db:aH prog (so k):=aJ (A4 k) nA nA k func264 (by kernel_rfl) (fun x=>by kernel_rfl)
def vX:aI:=(153,⟨[.val ay Qa],[.val .bool .leaf],mD k,[]⟩)::(so k)
def Ig:aH prog (vX k):=aJ (Db k) nA nA k func153 (by kernel_rfl) (fun x=>by kernel_rfl)
def qB:aI:=(34,⟨[.val ae gx,.val ae gx],[.val .bool .leaf],cN k,[]⟩)::(vX k)
def BA:aH prog (qB k):=aJ (Ig k) nA nA k func34 (by kernel_rfl) (fun x=>by kernel_rfl)
def AD:aQ:=fun|4=>some ⟨[(0,.val (.sl ar) aT),(1,.val (.sl ar) aT),(12,.val ar .leaf),(13,.val ar .leaf)],4⟩|_=>none
def rV:aI:=(339,⟨[.val (.sl ar) .shr,.val (.sl ar) .shr],[.val .bool .leaf],iQ k,[]⟩)::(qB k)
def DK:aH prog (rV k):=aJ (BA k) AD nA k func339 (by kernel_rfl) (fun x=>by kernel_rfl)
def yH:aQ:=fun|4=>some ⟨[(0,.val (.sl ae) aT),(1,.val (.sl ae) aT),(12,.val ar .leaf),(13,.val ar .leaf)],4⟩|_=>none
def pM:aI:=(225,⟨[.val (.sl ae) .shr,.val (.sl ae) .shr],[.val .bool .leaf],gn k,[]⟩)::(rV k)
def zg:aH prog (pM k):=aJ (DK k) yH nA k func225 (by kernel_rfl) (fun x=>by kernel_rfl)
def sL:aI:=(265,⟨[.val aq pF,.val aq pF],[.val .bool .leaf],iN k,[]⟩)::(pM k)
def CH:aH prog (sL k):=aJ (zg k) nA nA k func265 (by kernel_rfl) (fun x=>by kernel_rfl)
def Fp:aQ:=fun|2=>some ⟨[(1,.box 4 aq AI),(6,.val (.sl ar) aT),(7,.val ar .leaf),(8,.val ar .leaf)],5⟩|_=>none
def FT:aQ:=fun|7=>some ⟨[(1,.box 4 aq AI)],5⟩|_=>none
def wa:aI:=(266,⟨[.val aq pF],[.val .bool .leaf],mJ k,[]⟩)::(sL k)
def Ik:aH prog (wa k):=aJ (CH k) Fp FT k func266 (by kernel_rfl) (fun x=>by kernel_rfl)
def EM:aQ:=fun|25=>some ⟨[(2,.box 4 aq AI),(5,.box 5 aq AI),(6,.val .bool .leaf),(7,.val ar .leaf)],6⟩|_=>none
def wN:aI:=(154,⟨[.val aq pF,.val ar .leaf],[.val .bool .leaf],mM k,[]⟩)::(wa k)
def Ho:aH prog (wN k):=aJ (Ik k) nA EM k func154 (by kernel_rfl) (fun x=>by kernel_rfl)
def wV:aI:=(47,⟨[.val (.sl aj) .shr,.val (.sl ak) .shr],[.val ar .leaf],mb k,[]⟩)::(wN k)
def HX:aH prog (wV k):=aJ (Ho k) nA nA k func47 (by kernel_rfl) (fun x=>by kernel_rfl)
def Cl:aQ:=fun|2=>some ⟨[(1,.val ar .leaf),(2,.box 4 aj h6),(8,.val (.sl ax) aT),(9,.val ar .leaf),(10,.val ar .leaf)],5⟩|_=>none
def tE:aI:=(234,⟨[.val aj pD,.val ar .leaf],[.val ar .leaf],jy k,[]⟩)::(wV k)
def Fa:aH prog (tE k):=aJ (HX k) Cl nA k func234 (by kernel_rfl) (fun x=>by kernel_rfl)
def tz:aI:=(235,⟨[.val ax oU,.val (.sl ak) .shr],[.val ar .leaf],jC k,[]⟩)::(tE k)
def Ek:aH prog (tz k):=aJ (Fa k) nA nA k func235 (by kernel_rfl) (fun x=>by kernel_rfl)
def wB:aI:=(124,⟨[.val aj pD,.val (.sl ak) .shr],[.val ae sK,.val .bool .leaf],mA k,[]⟩)::(tz k)
def Hv:aH prog (wB k):=aJ (Ek k) nA nA k func124 (by kernel_rfl) (fun x=>by kernel_rfl)
def qQ:aI:=(46,⟨[.val (.sl aj) .shr,.val (.sl ak) .shr],[.val ae sK,.val .bool .leaf],gO k,[]⟩)::(wB k)
def Aq:aH prog (qQ k):=aJ (Hv k) nA nA k func46 (by kernel_rfl) (fun x=>by kernel_rfl)
def zx:aQ:=fun|6=>some ⟨[(2,.box 4 aD fL),(3,.box 5 aq AI),(5,.val .bool .leaf),(6,.val (.sl ae) (.sl (.row 6 [6] true))),(35,.val (.sl ar) aT),(36,.val ar .leaf),(37,.val ar .leaf)],7⟩|_=>none
def y8:aQ:=fun|13=>some ⟨[(2,.box 4 aD fL),(3,.box 5 aq AI),(5,.val .bool .leaf),(6,.val (.sl ae) (.sl (.row 6 [6] true)))],7⟩|_=>none
def qx:aI:=(267,⟨[.val aD yJ,.val aq pF],[.val .bool .leaf],jV k,[]⟩)::(qQ k)
def AJ:aH prog (qx k):=aJ (Aq k) zx y8 k func267 (by kernel_rfl) (fun x=>by kernel_rfl)
def rP:aI:=(155,⟨[.val aD yJ,.val aq pF,.val ay Qa],[.val .bool .leaf],kN k,[]⟩)::(qx k)
def B8:aH prog (rP k):=aJ (AJ k) nA nA k func155 (by kernel_rfl) (fun x=>by kernel_rfl)
def yh:aQ:=fun|2=>some ⟨[(1,.box 4 aD fL),(9,.val (.sl ay) aT),(10,.val ar .leaf),(11,.val ar .leaf)],5⟩|8=>some ⟨[(1,.box 4 aD fL),(41,.val (.sl aq) aT),(42,.val ar .leaf),(43,.val ar .leaf)],5⟩|_=>none
def yF:aQ:=fun|7=>some ⟨[(1,.box 4 aD fL)],5⟩|_=>none
def pU:aI:=(81,⟨[.val aD yJ],[.val .bool .leaf],jj k,[]⟩)::(rP k)
def zc:aH prog (pU k):=aJ (B8 k) yh yF k func81 (by kernel_rfl) (fun x=>by kernel_rfl)
def wy:aI:=(161,⟨[.val aq pF,.val ar .leaf,.val .bool .leaf],[.val ar .leaf],ni k,[]⟩)::(pU k)
def Ii:aH prog (wy k):=aJ (zc k) nA nA k func161 (by kernel_rfl) (fun x=>by kernel_rfl)
def qD:aI:=(156,⟨[.val aq pF,.val ar .leaf],[.val ar .leaf],ji k,[]⟩)::(wy k)
def AF:aH prog (qD k):=aJ (Ii k) nA nA k func156 (by kernel_rfl) (fun x=>by kernel_rfl)
def pk:aI:=(157,⟨[.val aq pF],[.val .bool .leaf],gR k,[]⟩)::(qD k)
def xW:aH prog (pk k):=aJ (AF k) nA nA k func157 (by kernel_rfl) (fun x=>by kernel_rfl)
def yx:aQ:=fun|2=>some ⟨[(1,.box 4 aD fL),(10,.val (.sl aj) aT),(11,.val ar .leaf),(12,.val ar .leaf)],5⟩|5=>some ⟨[(1,.box 4 aD fL),(3,.val ar .leaf),(4,.box 5 aj KU),(10,.val (.sl aj) aT),(11,.val ar .leaf),(12,.val ar .leaf),(18,.val (.sl aq) aT),(19,.val ar .leaf),(20,.val ar .leaf)],6⟩|12=>some ⟨[(1,.box 4 aD fL),(40,.val (.sl aq) aT),(41,.val ar .leaf),(42,.val ar .leaf)],5⟩|_=>none
def yg:aQ:=fun|11=>some ⟨[(1,.box 4 aD fL)],5⟩|17=>some ⟨[(1,.box 4 aD fL)],5⟩|_=>none
def pS:aI:=(82,⟨[.val aD yJ],[.val .bool .leaf],jl k,[]⟩)::(pk k)
def zz:aH prog (pS k):=aJ (xW k) yx yg k func82 (by kernel_rfl) (fun x=>by kernel_rfl)
def Ds:aQ:=fun|2=>some ⟨[(1,.val .str .leaf),(7,.val (.sl .str) aT),(8,.val ar .leaf),(9,.val ar .leaf)],4⟩|_=>none
def uq:aI:=(375,⟨[.val (.sl .str) .shr,.val .str .leaf],[.val .bool .leaf],lX k,[]⟩)::(pS k)
def Ez:aH prog (uq k):=aJ (zz k) Ds nA k func375 (by kernel_rfl) (fun x=>by kernel_rfl)
def Di:aQ:=fun|3=>some ⟨[(1,.val (.sl .str) aT),(5,.val (.sl ak) Np),(8,.val (.sl ak) aT),(9,.val ar .leaf),(10,.val ar .leaf)],5⟩|_=>none
def u4:aI:=(356,⟨[.val (.sl ak) .shr,.val (.sl .str) .shr],[.val (.sl ak) .own],oC k,[]⟩)::(uq k)
def FE:aH prog (u4 k):=aJ (Ez k) Di nA k func356 (by kernel_rfl) (fun x=>by kernel_rfl)
def yN:aI:=(307,⟨[.val ae gx,.val (.sl .str) .shr],[.val (.sl ak) .own],mc k,[]⟩)::(u4 k)
def JT:aH prog (yN k):=aJ (FE k) nA nA k func307 (by kernel_rfl) (fun x=>by kernel_rfl)
end
def Da:aQ:=fun|2=>some ⟨[(0,.val (.sl ak) aT),(1,.val (.sl ak) aT),(5,.val ar .leaf)],4⟩|_=>none
def Dk:aQ:=fun|8=>some ⟨[(0,.val (.sl ak) aT),(1,.val (.sl ak) aT)],4⟩|_=>none
section
variable(k:Nat)
def tP:aI:=(240,⟨[.val (.sl ak) .shr,.val (.sl ak) .shr],[.val .bool .leaf],iW k,[]⟩)::(yN k)
def EZ:aH prog (tP k):=aJ (JT k) Da Dk k func240 (by kernel_rfl) (fun x=>by kernel_rfl)
def Cw:aQ:=fun|2=>some ⟨[(0,.val (.sl ae) aT),(1,.val (.sl ak) aT),(2,.val (.sl .str) aT),(9,.val (.sl ae) aT),(10,.val ar .leaf),(11,.val ar .leaf)],4⟩|_=>none
def tZ:aI:=(340,⟨[.val (.sl ae) .shr,.val (.sl ak) .shr,.val (.sl .str) .shr],[.val .bool .leaf],lJ k,[]⟩)::(tP k)
def EU:aH prog (tZ k):=aJ (EZ k) Cw nA k func340 (by kernel_rfl) (fun x=>by kernel_rfl)
def uc:aI:=(268,⟨[.val al GQ,.val (.sl .str) .shr],[.val .bool .leaf],lT k,[]⟩)::(tZ k)
def EF:aH prog (uc k):=aJ (EU k) nA nA k func268 (by kernel_rfl) (fun x=>by kernel_rfl)
def CS:aQ:=fun|2=>some ⟨[(1,.val (.sl ak) aT),(7,.val (.sl al) aT),(8,.val ar .leaf),(9,.val ar .leaf)],4⟩|_=>none
def uT:aI:=(269,⟨[.val (.sl al) .shr,.val (.sl ak) .shr],[.val ar .leaf],gi k,[]⟩)::(uc k)
def EC:aH prog (uT k):=aJ (EF k) CS nA k func269 (by kernel_rfl) (fun x=>by kernel_rfl)
def AG:aQ:=fun|2=>some ⟨[(0,.val (.sl al) aT),(1,.val (.sl .str) aT),(7,.val (.sl al) aT),(8,.val ar .leaf),(9,.val ar .leaf)],4⟩|_=>none
def rL:aI:=(158,⟨[.val (.sl al) .shr,.val (.sl .str) .shr],[.val .bool .leaf],kJ k,[]⟩)::(uT k)
def CK:aH prog (rL k):=aJ (EC k) AG nA k func158 (by kernel_rfl) (fun x=>by kernel_rfl)
def wC:aI:=(270,⟨[.val aE xp,.val aE xp],[.val .bool .leaf],ko k,[]⟩)::(rL k)
def Hr:aH prog (wC k):=aJ (CK k) nA nA k func270 (by kernel_rfl) (fun x=>by kernel_rfl)
def FR:aQ:=fun|2=>some ⟨[(0,.val (.sl aE) aT),(5,.val (.sl aE) aT),(6,.val ar .leaf),(7,.val ar .leaf)],4⟩|_=>none
def Fj:aQ:=fun|7=>some ⟨[(0,.val (.sl aE) aT)],4⟩|_=>none
def wR:aI:=(159,⟨[.val (.sl aE) .shr],[.val .bool .leaf],mu k,[]⟩)::(wC k)
def Hd:aH prog (wR k):=aJ (Hr k) FR Fj k func159 (by kernel_rfl) (fun x=>by kernel_rfl)
def tp:aI:=(271,⟨[.val al GQ,.val ar .leaf,.val ar .leaf],[.val ar .leaf],oB k,[]⟩)::(wR k)
def FI:aH prog (tp k):=aJ (Hd k) nA nA k func271 (by kernel_rfl) (fun x=>by kernel_rfl)
def CC:aI:=(160,⟨[.val db ox,.val al GQ],[.val ar .leaf],oo k,[]⟩)::(tp k)
def Nc:aH prog (CC k):=aJ (FI k) nA nA k func160 (by kernel_rfl) (fun x=>by kernel_rfl)
def xd:aQ:=fun|4=>some ⟨[(1,.box 4 aD fL),(26,.val (.sl al) aT),(27,.val ar .leaf),(28,.val ar .leaf)],5⟩|10=>some ⟨[(1,.box 4 aD fL),(4,.box 5 al TS),(5,.val .bool .leaf),(26,.val (.sl al) aT),(27,.val ar .leaf),(28,.val ar .leaf),(68,.val (.sl aE) aT),(69,.val ar .leaf),(70,.val ar .leaf)],6⟩|18=>some ⟨[(1,.box 4 aD fL),(96,.val (.sl aE) aT),(97,.val ar .leaf),(98,.val ar .leaf)],5⟩|23=>some ⟨[(1,.box 4 aD fL),(9,.box 5 aE BK),(96,.val (.sl aE) aT),(97,.val ar .leaf),(98,.val ar .leaf),(111,.val (.sl aE) aT),(112,.val ar .leaf),(113,.val ar .leaf)],6⟩|_=>none
def xe:aQ:=fun|14=>some ⟨[(1,.box 4 aD fL),(4,.box 5 al TS),(5,.val .bool .leaf),(26,.val (.sl al) aT),(27,.val ar .leaf),(28,.val ar .leaf)],6⟩|17=>some ⟨[(1,.box 4 aD fL)],5⟩|_=>none
def oW:aI:=(83,⟨[.val aD yJ],[.val .bool .leaf],iL k,[]⟩)::(CC k)
def xL:aH prog (oW k):=aJ (Nc k) xd xe k func83 (by kernel_rfl) (fun x=>by kernel_rfl)
def ud:aI:=(15,⟨[.val aD yJ],[.val .bool .leaf],iV k,[]⟩)::(oW k)
def Fk:aH prog (ud k):=aJ (xL k) nA nA k func15 (by kernel_rfl) (fun x=>by kernel_rfl)
def Rw:aI:=(73,⟨[.val (.sl ae) .shr,.val (.sl ak) .shr],[.val ar .leaf],vm k,[]⟩)::(ud k)
def Zo:aH prog (Rw k):=aJ (Fk k) nA nA k func73 (by kernel_rfl) (fun x=>by kernel_rfl)
def W0:aQ:=fun|2=>some ⟨[(1,.val (.sl ak) aT),(7,.val (.sl al) aT),(8,.val ar .leaf),(9,.val ar .leaf)],4⟩|_=>none
def RA:aI:=(42,⟨[.val (.sl al) .shr,.val (.sl ak) .shr],[.val ar .leaf],IQ k,[]⟩)::(Rw k)
def YP:aH prog (RA k):=aJ (Zo k) W0 nA k func42 (by kernel_rfl) (fun x=>by kernel_rfl)
def UF:aQ:=fun|8=>some ⟨[(3,.box 4 aD Sa),(4,.val (.sl ar) IF),(5,.val ar .leaf)],15⟩|14=>some ⟨[(3,.box 4 aD Sa),(4,.val (.sl ar) IF),(5,.val ar .leaf),(6,.box 15 ay zA),(7,.val .bool .leaf),(8,.val ar .leaf)],16⟩|_=>none
def Uf:aQ:=fun|18=>some ⟨[(3,.box 4 aD Sa),(4,.val (.sl ar) IF),(5,.val ar .leaf),(6,.box 15 ay zA),(7,.val .bool .leaf)],16⟩|_=>none
def U3:aI:=(11,⟨[.val (.sl (.int .u8)) .rom],[.val .bool .leaf],xj k,[]⟩)::(RA k)
def U0:aH prog (U3 k):=aJ (YP k) UF Uf k func11 (by kernel_rfl) (fun x=>by kernel_rfl)
end
end Vg.Tryz
namespace Vg.Tryz
open Go Vg
section
variable{k:Nat}(hk:9223372036854775808<=k)
include hk
theorem ng(x:aY):ai db x=ai (.sl .str) x.2.2.2.2.2:=by
 obtain⟨x0,x1,x2,x3,x4,x5⟩:=x;simp only[ai]
 try omega
theorem lx(x:ag):ai ak x=x.1.size+x.2.size:=by
 obtain⟨x0,x1⟩:=x;simp only[ai]
 try omega
theorem bj(x:af):ai ae x=ai (.sl ak) x.1+x.2.2.2.size:=by
 obtain⟨x0,x1,x2,x3⟩:=x;simp only[ai]
 try omega
theorem df(x:aP):ai ax x=ai (.sl ae) x.2:=by
 obtain⟨x0,x1⟩:=x;simp only[ai]
 try omega
theorem dj(x:au):ai aj x=ai (.sl ax) x.2.2:=by
 obtain⟨x0,x1,x2⟩:=x;simp only[ai]
 try omega
theorem nj(x:bo):ai aW x=ai (.sl ae) x.1:=by
 obtain⟨x0,x1⟩:=x;simp only[ai]
 try omega
theorem eK(x:aw):ai al x=ai (.sl ak) x.2.1+ai (.sl ae) x.2.2.2.2:=by
 obtain⟨x0,x1,x2,x3,x4⟩:=x;simp only[ai]
 try omega
theorem Pb(x:aF):ai aE x=0:=by
 obtain⟨x0,x1⟩:=x;simp only[ai]
 try omega
theorem pK(x:bq):ai cw x=ai (.sl ak) x.2.1+ai (.sl ae) x.2.2.2:=by
 obtain⟨x0,x1,x2,x3⟩:=x;simp only[ai]
 try omega
theorem dy(x:aG):ai aq x=ai ae x.2.2.1+ai (.sl ak) x.2.2.2.1+ai (.sl (.int .i64)) x.2.2.2.2.2.1+ai (.sl ae) x.2.2.2.2.2.2.1:=by
 obtain⟨x0,x1,x2,x3,x4,x5,x6,x7,x8⟩:=x;simp only[ai]
 try omega
theorem cU(x:aA):ai ay x=ai ae x.2.2.1+ai (.sl ak) x.2.2.2.1+ai (.sl ae) x.2.2.2.2.2.2.2.1:=by
 obtain⟨x0,x1,x2,x3,x4,x5,x6,x7,x8,x9,x10,x11⟩:=x;simp only[ai]
 try omega
theorem iI(x:ah):ai aD x=ai db x.1+ai (.sl aj) x.2.2.2.1+ai (.sl aW) x.2.2.2.2.1+ai (.sl ae) x.2.2.2.2.2.1+ai (.sl al) x.2.2.2.2.2.2.2.1+ai (.sl aE) x.2.2.2.2.2.2.2.2.2.1+ai (.sl cw) x.2.2.2.2.2.2.2.2.2.2.1+ai (.sl ae) x.2.2.2.2.2.2.2.2.2.2.2.1+ai (.sl aq) x.2.2.2.2.2.2.2.2.2.2.2.2.1+ai (.sl ay) x.2.2.2.2.2.2.2.2.2.2.2.2.2:=by
 obtain⟨x0,x1,x2,x3,x4,x5,x6,x7,x8,x9,x10,x11,x12,x13⟩:=x;simp only[ai]
 try omega
end
def AM(s:ByteArray)(i:Nat):Bool:=decide (97<=bt s i)&&decide (bt s i<=122)
def eP(s:ByteArray):Bool:=decide (1<=s.size/\s.size<=8)&&bA 0 s.size (AM s)
def qE(s:ByteArray)(i:Nat):Bool:=decide (32<=bt s i/\bt s i<=126/\bt s i≠34/\bt s i≠92)
def iE(s:ByteArray):Bool:=decide (s.size<=12)&&bA 0 s.size (qE s)
def eA(x:ag):Bool:=eP x.1&&iE x.2
def xF(l:List ag)(i:Nat):Bool:=i==0||ly (l.getD (i-1) ak.aa).1 (l.getD i ak.aa).1
def cZ(l:List ag):Bool:=decide (l.length<=4)&&bA 0 l.length (fun i=>eA (l.getD i ak.aa)&&xF l i)
section
variable{k:Nat}(hk:9223372036854775808<=k)
include hk
theorem uB{s:ByteArray}(hs:s.size<=1048576):km k (s,())=some (eP s,()):=by
 simp only[km,aN];rw[show((s,(0:Int),()):ByteArray×Int×Unit)=(fun i:Nat=>(s,(i:Int),())) 0 from rfl];rw[dt (fun i:Nat=>(s,(i:Int),())) (AM s) s.size (e:=some (decide (1<=s.size/\s.size<=8),())) (no:=some (false,())) ?_ ?_ k 0 (by omega)];unfold eP;cases bA 0 s.size (AM s)<;>simp;intro G i a;simp only;rw[aK,c_ a,an rfl,an (aC a),aC a,aub,an rfl,aX (by omega)];unfold AM;by_cases b:bt s i<97<;>by_cases c:bt s i>122<;>simp[b,c]<;>omega;intro G i a;simp only;rw[aK,decide_eq_false (by omega),a_ (by simp)];simp only[bY,at4];congr 2;rw[auc];simp;omega
theorem uV{s:ByteArray}(hs:s.size<=1048576):ku k (s,())=some (eP s,()):=by
 simp only[ku,bB,at4];by_cases b:1<=s.size/\s.size<=8;rw[a_ (by simp;omega)];rw[show((s,(0:Int),()):ByteArray×Int×Unit)=(fun i:Nat=>(s,(i:Int),())) 0 from rfl];rw[dt (fun i:Nat=>(s,(i:Int),())) (AM s) s.size (e:=some (true,())) (no:=some (false,())) ?_ ?_ k 0 (by omega)];unfold eP;cases bA 0 s.size (AM s)<;>simp[b];intro G i a;simp only;rw[aK,c_ a,an rfl,an (aC a),aC a,aub,an rfl,aX (by omega)];unfold AM;by_cases c:bt s i<97<;>by_cases d:bt s i>122<;>simp[c,d]<;>omega;intro G i a;simp only;rw[aK,decide_eq_false (by omega),a_ (by simp)];rw[an (by simp;omega)];unfold eP;simp[b]
theorem rS{s:ByteArray}(hs:s.size<=1048576):jE k (s,())=some (iE s,()):=by
 simp only[jE,aN];rw[show((s,(0:Int),()):ByteArray×Int×Unit)=(fun i:Nat=>(s,(i:Int),())) 0 from rfl];rw[dt (fun i:Nat=>(s,(i:Int),())) (qE s) s.size (e:=some (decide (s.size<=12),())) (no:=some (false,())) ?_ ?_ k 0 (by omega)];unfold iE;cases bA 0 s.size (qE s)<;>simp;intro G i a;simp only;rw[aK,c_ a,an rfl,an (aC a),aC a,aub,an rfl,aub,an rfl,aub,an rfl,aX (by omega)];unfold qE;by_cases b:bt s i<32<;>by_cases c:bt s i>126<;>by_cases d:bt s i=34<;>by_cases f:bt s i=92<;>simp[b,c,d,f]<;>omega;intro G i a;simp only;rw[aK,decide_eq_false (by omega),a_ (by simp)];congr 2;rw[auc];simp;omega
theorem rJ{s:ByteArray}(hs:s.size<=1048576):jq k (s,())=some (iE s,()):=by
 simp only[jq];by_cases b:s.size<=12;rw[a_ (by simp;omega)];rw[show((s,(0:Int),()):ByteArray×Int×Unit)=(fun i:Nat=>(s,(i:Int),())) 0 from rfl];rw[dt (fun i:Nat=>(s,(i:Int),())) (qE s) s.size (e:=some (true,())) (no:=some (false,())) ?_ ?_ k 0 (by omega)];unfold iE;cases bA 0 s.size (qE s)<;>simp[b];intro G i a;simp only;rw[aK,c_ a,an rfl,an (aC a),aX (by omega)];unfold qE;by_cases c:bt s i<32<;>by_cases d:bt s i>126<;>by_cases f:bt s i=34<;>by_cases g:bt s i=92<;>simp[c,d,f,g]<;>omega;intro G i a;simp only;rw[aK,decide_eq_false (by omega),a_ (by simp)];rw[an (by simp;omega)];unfold iE;simp[b]
def CL{x:ag}(hs:ai ak x<=1048576):lH k (x,())=some (eA x,()):=by
 rw[lx hk]at hs;simp only[lH];rw[uB hk (by omega),rS hk (by omega)];simp only[cD,at4,eA];cases eP x.1<;>simp
def Dh{x:ag}(hs:ai ak x<=1048576):lE k (x,())=some (eA x,()):=by
 rw[lx hk]at hs;simp only[lE];rw[uV hk (by omega),rJ hk (by omega)];simp only[cD,at4,eA];cases eP x.1<;>simp
def pB{l:List ag}(hs:ai (.sl ak) l<=1048576):jF k (l,())=some (cZ l,()):=by
 have hl:=az (e:=ak) (l:=l);simp only[jF,aN];rw[show((l,(0:Int),()):List ag×Int×Unit)=(fun i:Nat=>(l,(i:Int),())) 0 from rfl];rw[dt (fun i:Nat=>(l,(i:Int),())) (fun i=>eA (l.getD i ak.aa)&&xF l i) l.length (e:=some (decide (l.length<=4),())) (no:=some (false,())) ?_ ?_ k 0 (by omega)];unfold cZ;cases bA 0 l.length (fun i=>eA (l.getD i ak.aa)&&xF l i)<;>simp;intro G i a;simp only[l9];have f:ai ak (l.getD i ak.aa)<=1048576:=at8 (cx (e:=ak) (cC a)) hs;rw[aK,c_ a,an rfl,an (aC a),CL hk f,at4,aX (by omega),D8 (by omega)];simp only;rw[an (by simp;omega),an (by simp[a])];simp only[fH,cD,at4];rw[show((i:Int)-1).toNat=i-1 by omega];unfold xF ly;cases eA (l.getD i ak.aa)with
 |false=>simp
 |true=>
  by_cases d:i=0;subst d;simp;have b:(0:Int)<(i:Int):=by omega
  have c:0<i:=by omega
  cases Op.bytesLess (ByteArray.toList (l.getD (i-1) ak.aa).1) (ByteArray.toList (l.getD i ak.aa).1)<;>simp[d,b,c]
 intro G i a;simp only;rw[aK,decide_eq_false (by omega),a_ (by simp)];congr 2;rw[auc];simp;omega
def mG{l:List ag}(hs:ai (.sl ak) l<=1048576):gX k (l,())=some (cZ l,()):=by
 have hl:=az (e:=ak) (l:=l);simp only[gX];rw[show((l,l,(l.length:Int),(0:Int),()):List ag×List ag×Int×Int×Unit)=(fun i:Nat=>(l,l,(l.length:Int),(i:Int),())) 0 from rfl];rw[dt (fun i:Nat=>(l,l,(l.length:Int),(i:Int),())) (fun i=>decide (i<4)&&(eA (l.getD i ak.aa)&&xF l i)) l.length (e:=some (true,())) (no:=some (false,())) ?_ ?_ k 0 (by omega)];unfold cZ;rw[jI,PZ];cases bA 0 l.length (fun i=>eA (l.getD i ak.aa)&&xF l i)<;>by_cases h:l.length<=4<;>simp[h];intro G i b;simp only[l9];have j:ai ak (l.getD i ak.aa)<=1048576:=at8 (cx (e:=ak) (cC b)) hs;rw[aK,c_ b,an rfl,an (aC b),Dh hk j,aX (by omega),D8 (by omega)];simp only[cD,at4];rw[show((i:Int)-1).toNat=i-1 by omega];rw[an (by simp;omega)];unfold xF ly;by_cases c:i<4;have a:¬(4:Int)<=(i:Int):=by omega
 cases eA (l.getD i ak.aa)with
 |false=>simp[c,a]
 |true=>
  by_cases g:i=0;subst g;simp;have d:(0:Int)<(i:Int):=by omega
  have f:0<i:=by omega
  cases Op.bytesLess (ByteArray.toList (l.getD (i-1) ak.aa).1) (ByteArray.toList (l.getD i ak.aa).1)<;>simp[g,d,f,c,a]
 have a:(4:Int)<=(i:Int):=by omega
 simp[c,a];intro G i b;simp only;rw[aK,decide_eq_false (by omega),a_ (by simp)]
end
def aZ(n a b:Int):Bool:=decide (a<=n)&&decide (n<=b)
def qi(l:List ByteArray):Bool:=bA 1 l.length (fun i=>ly (l.getD (i-1) ByteArray.empty) (l.getD i ByteArray.empty))
def qF(l:List ByteArray):Bool:=bA 0 l.length (fun i=>eP (l.getD i ByteArray.empty))&&(decide (l.length<=2)&&qi l)
def cY(c:aY):Bool:=aZ c.1 1 3&&aZ c.2.1 1 8&&aZ c.2.2.1 1 2&&aZ c.2.2.2.1 1 9&&aZ c.2.2.2.2.1 1 9&&qF c.2.2.2.2.2
def bh(a:af):Bool:=cZ a.1&&decide (0<a.1.length)&&aZ a.2.1 0 99999&&aZ a.2.2.1 a.2.1 99999&&iE a.2.2.2
def bI(l:List af):Bool:=bA 0 l.length (fun i=>bh (l.getD i ae.aa))
def yw(a b:Bool):(if a=true then b else false)=(a&&b):=by cases a<;>rfl
section
variable{k:Nat}(hk:9223372036854775808<=k)
include hk
theorem vF(n a b:Int):bY k (n,a,b,())=some (aZ n a b,()):=by
 simp only[bY,aZ,yw]
theorem fw(n a b:Int):bB k (n,a,b,())=some (aZ n a b,()):=by
 simp only[bB,aZ,yw]
theorem rK{l:List ByteArray}(hl:l.length<=1048576):gH k (l,())=some (qi l,()):=by
 simp only[gH];rw[show((l,(1:Int),()):List ByteArray×Int×Unit)=(fun i:Nat=>(l,((i+1:Nat):Int),())) 0 from rfl];rw[dt (fun i:Nat=>(l,((i+1:Nat):Int),())) (fun i=>ly (l.getD i ByteArray.empty) (l.getD (i+1) ByteArray.empty)) (l.length-1) (e:=some (true,())) (no:=some (false,())) ?_ ?_ k 0 (by omega)]
 have:qi l=bA 0 (l.length-1) (fun i=>ly (l.getD i ByteArray.empty) (l.getD (i+1) ByteArray.empty)):=by
  unfold qi;rw[auc,bM,bM];constructor;intro h i _ a;have:=h (i+1) (by omega) (by omega);simpa using this;intro h i h1 a;have:=h (i-1) (by omega) (by omega);rw[show i-1+1=i by omega]at this;exact this
 rw[this];cases bA 0 (l.length-1) (fun i=>ly (l.getD i ByteArray.empty) (l.getD (i+1) ByteArray.empty))<;>rfl;intro G i b;simp only[l9];rw[aK,c_ (by omega),an rfl,D8 (by omega),aX (by omega)];rw[an (by simp;omega),an (by simp;omega)];simp only[fH,at4];rw[show(((i+1:Nat):Int)-1).toNat=i by omega];unfold ly;cases Op.bytesLess (ByteArray.toList (l.getD i ByteArray.empty)) (ByteArray.toList (l.getD (i+1) ByteArray.empty))<;>simp;intro G i b;simp only;rw[aK,decide_eq_false (by omega),a_ (by simp)]
theorem MJ(l:List ByteArray):lL k (l,())=gH k (l,()):=by
 simp only[gH,lL,fH,at4]
def Jk{l:List ByteArray}(hs:ai (.sl .str) l<=1048576):oN k (l,())=some (qF l,()):=by
 have hl:=az (e:= .str) (l:=l);simp only[oN,aN];rw[show((l,(0:Int),()):List ByteArray×Int×Unit)=(fun i:Nat=>(l,(i:Int),())) 0 from rfl];rw[dt (fun i:Nat=>(l,(i:Int),())) (fun i=>eP (l.getD i ByteArray.empty)) l.length (e:=some (decide (l.length<=2)&&qi l,())) (no:=some (false,())) ?_ ?_ k 0 (by omega)];unfold qF;cases bA 0 l.length (fun i=>eP (l.getD i ByteArray.empty))<;>simp;intro G i a;simp only[l9];have c:ai .str (l.getD i ByteArray.empty)<=1048576:=at8 (cx (e:= .str) (cC a)) hs;rw[aK,c_ a,an rfl,an (aC a),uB hk c,at4,aX (by omega)];cases eP (l.getD i ByteArray.empty)<;>simp;intro G i a;simp only;rw[aK,decide_eq_false (by omega),a_ (by simp),rK hk (by omega)];simp only[cD,at4];by_cases h:l.length<=2;have b:(l.length:Int)<=2:=by omega
 simp[h,b];have b:¬(l.length:Int)<=2:=by omega
 simp[h,b]
def Kd{l:List ByteArray}(hs:ai (.sl .str) l<=1048576):oL k (l,())=some (qF l,()):=by
 have hl:=az (e:= .str) (l:=l);simp only[oL,aN];rw[show((l,l,(l.length:Int),(0:Int),()):List ByteArray×List ByteArray×Int×Int×Unit)=(fun i:Nat=>(l,l,(l.length:Int),(i:Int),())) 0 from rfl];rw[dt (fun i:Nat=>(l,l,(l.length:Int),(i:Int),())) (fun i=>eP (l.getD i ByteArray.empty)) l.length (e:=some (decide (l.length<=2)&&qi l,())) (no:=some (false,())) ?_ ?_ k 0 (by omega)];unfold qF;cases bA 0 l.length (fun i=>eP (l.getD i ByteArray.empty))<;>simp;intro G i a;simp only[l9];have c:ai .str (l.getD i ByteArray.empty)<=1048576:=at8 (cx (e:= .str) (cC a)) hs;rw[aK,c_ a,an rfl,an (aC a),uV hk c,at4,aX (by omega)];cases eP (l.getD i ByteArray.empty)<;>simp;intro G i a;simp only;rw[aK,decide_eq_false (by omega),a_ (by simp),MJ hk,rK hk (by omega)];simp only[cD,at4];by_cases h:l.length<=2;have b:(l.length:Int)<=2:=by omega
 simp[h,b];have b:¬(l.length:Int)<=2:=by omega
 simp[h,b]
def Ey{c:aY}(hs:ai db c<=1048576):mH k (c,())=some (cY c,()):=by
 rw[ng hk]at hs;simp only[mH,vF hk,Jk hk hs,cD,at4,cY];generalize aZ c.1 1 3=b1;generalize aZ c.2.1 1 8=b2;generalize aZ c.2.2.1 1 2=b3;generalize aZ c.2.2.2.1 1 9=b4;generalize aZ c.2.2.2.2.1 1 9=b5;cases b1<;>cases b2<;>cases b3<;>cases b4<;>cases b5<;>simp
def FV{c:aY}(hs:ai db c<=1048576):mE k (c,())=some (cY c,()):=by
 rw[ng hk]at hs;simp only[mE,fw hk,Kd hk hs,cD,at4,cY];generalize aZ c.1 1 3=b1;generalize aZ c.2.1 1 8=b2;generalize aZ c.2.2.1 1 2=b3;generalize aZ c.2.2.2.1 1 9=b4;generalize aZ c.2.2.2.2.1 1 9=b5;cases b1<;>cases b2<;>cases b3<;>cases b4<;>cases b5<;>simp
theorem Mr(l:List ag):decide ((l.length:Int)>0)=decide (0<l.length):=by simp
def C9{a:af}(hs:ai ae a<=1048576):lO k (a,())=some (bh a,()):=by
 rw[bj hk]at hs;simp only[lO,vF hk,pB hk (show ai (.sl ak) a.1<=1048576 by omega),rS hk (show a.2.2.2.size<=1048576 by omega),cD,at4,bh,Mr hk];generalize cZ a.1=b1;generalize decide (0<a.1.length)=b2;generalize aZ a.2.1 0 99999=b3;generalize aZ a.2.2.1 a.2.1 99999=b4;cases b1<;>cases b2<;>cases b3<;>cases b4<;>simp
def iS{a:af}(hs:ai ae a<=1048576):dU k (a,())=some (bh a,()):=by
 rw[bj hk]at hs;simp only[dU,fw hk,mG hk (show ai (.sl ak) a.1<=1048576 by omega),rJ hk (show a.2.2.2.size<=1048576 by omega),cD,at4,bh,Mr hk];generalize cZ a.1=b1;generalize decide (0<a.1.length)=b2;generalize aZ a.2.1 0 99999=b3;generalize aZ a.2.2.1 a.2.1 99999=b4;cases b1<;>cases b2<;>cases b3<;>cases b4<;>simp
def jP{l:List af}(hs:ai (.sl ae) l<=1048576):fb k (l,())=some (bI l,()):=by
 have hl:=az (e:=ae) (l:=l);simp only[fb];rw[show((l,(l.length:Int),(0:Int),()):List af×Int×Int×Unit)=(fun i:Nat=>(l,(l.length:Int),(i:Int),())) 0 from rfl];rw[dt (fun i:Nat=>(l,(l.length:Int),(i:Int),())) (fun i=>bh (l.getD i ae.aa)) l.length (e:=some (true,())) (no:=some (false,())) ?_ ?_ k 0 (by omega)];unfold bI;cases bA 0 l.length (fun i=>bh (l.getD i ae.aa))<;>simp;intro G i a;simp only[l9];have b:ai ae (l.getD i ae.aa)<=1048576:=at8 (cx (e:=ae) (cC a)) hs;rw[aK,c_ a,an rfl,an (aC a),iS hk b,at4,aX (by omega)];cases bh (l.getD i ae.aa)<;>simp;intro G i a;simp only;rw[aK,decide_eq_false (by omega),a_ (by simp)]
end
def hasB(by_:List ByteArray)(s:ByteArray):Bool:= !bA 0 by_.length (fun i=> !((by_.getD i ByteArray.empty).toList==s.toList))
def keyOf(a:af)(by_:List ByteArray):List ag:=a.1.filter (fun x=>hasB by_ x.1)
def yd(l:List af)(i:Nat):Bool:=i==0||bp (l.getD (i-1) ae.aa).1 (l.getD i ae.aa).1
def qh(l:List af)(key:List ag)(by_:List ByteArray):Bool:=
 bA 0 l.length (fun i=>bh (l.getD i ae.aa)&&(decide (keyOf (l.getD i ae.aa) by_=key)&&yd l i))
def eB(g:aw)(by_:List ByteArray):Bool:=
 decide (0<=g.1)&&(cZ g.2.1&&(aZ g.2.2.1 0 99999&&((decide (g.2.2.2.1= -1)||aZ g.2.2.2.1 g.2.2.1 99999)&&(decide (0<g.2.2.2.2.length)&&qh g.2.2.2.2 g.2.1 by_))))
def JK(l:List aw)(i:Nat):Bool:=i==0||decide ((l.getD (i-1) al.aa).1<(l.getD i al.aa).1)
def pn(l:List aw)(i:Nat):Bool:=bA 0 i (fun j=> !decide ((l.getD j al.aa).2.1=(l.getD i al.aa).2.1))
def dQ(l:List aw)(by_:List ByteArray):Bool:=
 decide (l.length<=12)&&bA 0 l.length (fun i=>eB (l.getD i al.aa) by_&&(JK l i&&pn l i))
def fp(s:bo):Bool:=decide (s.1.length<=3)&&((!s.2||decide (s.1.length=0))&&bI s.1)
def cm(a:af):Bool:=bh a&&decide (a.2.2.1<=99899)
section
variable{k:Nat}(hk:9223372036854775808<=k)
include hk
theorem nT{a b:List ag}(ha:a.length<=1048576):gJ k (a,b,())=some (decide (a=b),()):=by
 simp only[gJ];by_cases l:a.length=b.length;rw[a_ (by simp[l])]
 rw[pZ (g:=fun(s:List ag×List ag×Int×Unit)=>some (decide (a.drop s.2.2.1.toNat=b.drop s.2.2.1.toNat),())) (m:=fun(s:List ag×List ag×Int×Unit)=>a.length-s.2.2.1.toNat)
  (I:=fun(s:List ag×List ag×Int×Unit)=>s.1=a/\s.2.1=b/\0<=s.2.2.1/\s.2.2.1<=(a.length:Int))]
 simp;rintro G ⟨a',b',i,u⟩ ⟨e1,e2,hi0,hi1⟩ hG;change a'=a at e1;change b'=b at e2;subst e1 e2;simp only at hi0 hi1 hG|-;by_cases f:i<(a'.length:Int);have n:i.toNat<a'.length:=by omega
 have o:i.toNat<b'.length:=by omega
 rw[an (by simpa using f),an (by simpa using⟨hi0,f⟩),an (by simpa using⟨hi0,by omega⟩)];rw[fU (d:=ak.aa) n,fU (d:=ak.aa) o];by_cases c:a'.getD i.toNat ak.aa=b'.getD i.toNat ak.aa;have j:eqv ak (a'.getD i.toNat ak.aa) (b'.getD i.toNat ak.aa)=true:=(yU rfl).2 c;rw[a_ (by rw[j];simp),wrap64 (by omega) (by omega),hG (a',b',i+1,()) ⟨rfl,rfl,by simp only;omega,by simp only;omega⟩ (by simp only;omega)];simp only[c,auj,true_and];rw[show(i+1).toNat=i.toNat+1 by omega]
 have j:eqv ak (a'.getD i.toNat ak.aa) (b'.getD i.toNat ak.aa)=false:=by
  rw[auy];exact fun h=>c ((yU rfl).1 h)
 rw[an (by rw[j];rfl)];simp only[auj,c,false_and,decide_false];rw[a_ (by simpa using f),at7 (by omega),at7 (by omega)];simp;exact⟨rfl,rfl,by simp,by simp⟩;simp only;omega;rw[an (by simp;omega)];have:a≠b:=fun e=>l (by rw[e]);simp[this]
theorem dV{a b:List ag}(ha:a.length<=1048576):cH k (a,b,())=some (decide (a=b),()):=by
 simp only[cH];by_cases l:a.length=b.length;rw[a_ (by simp[l])]
 rw[pZ (g:=fun(s:List ag×List ag×Int×Int×Unit)=>some (decide (a.drop s.2.2.2.1.toNat=b.drop s.2.2.2.1.toNat),())) (m:=fun(s:List ag×List ag×Int×Int×Unit)=>a.length-s.2.2.2.1.toNat)
  (I:=fun(s:List ag×List ag×Int×Int×Unit)=>s.1=a/\s.2.1=b/\s.2.2.1=(a.length:Int)/\0<=s.2.2.2.1/\s.2.2.2.1<=(a.length:Int))]
 simp;rintro G ⟨a',b',n,i,u⟩ ⟨e1,e2,e3,hi0,hi1⟩ hG;change a'=a at e1;change b'=b at e2;change n=_ at e3;subst e1 e2 e3;simp only at hi0 hi1 hG|-;by_cases f:i<(a'.length:Int);have o:i.toNat<a'.length:=by omega
 have p:i.toNat<b'.length:=by omega
 rw[an (by simpa using f),an (by simpa using⟨hi0,f⟩),an (by simpa using⟨hi0,by omega⟩)];rw[fU (d:=ak.aa) o,fU (d:=ak.aa) p];by_cases c:a'.getD i.toNat ak.aa=b'.getD i.toNat ak.aa;have j:eqv ak (a'.getD i.toNat ak.aa) (b'.getD i.toNat ak.aa)=true:=(yU rfl).2 c;rw[a_ (by rw[j];simp),wrap64 (by omega) (by omega),hG (a',b',_,i+1,()) ⟨rfl,rfl,rfl,by simp only;omega,by simp only;omega⟩ (by simp only;omega)];simp only[c,auj,true_and];rw[show(i+1).toNat=i.toNat+1 by omega]
 have j:eqv ak (a'.getD i.toNat ak.aa) (b'.getD i.toNat ak.aa)=false:=by
  rw[auy];exact fun h=>c ((yU rfl).1 h)
 rw[an (by rw[j];rfl)];simp only[auj,c,false_and,decide_false];rw[a_ (by simpa using f),at7 (by omega),at7 (by omega)];simp;exact⟨rfl,rfl,rfl,by simp,by simp⟩;simp only;omega;rw[an (by simp;omega)];have:a≠b:=fun e=>l (by rw[e]);simp[this]
theorem mK{a b:List ag}(ha:a.length<=1048576):iW k (a,b,())=some (bp a b,()):=by
 simp only[iW,aN]
 rw[pZ (g:=fun(s:List ag×List ag×Int×Unit)=>some (bp (a.drop s.2.2.1.toNat) (b.drop s.2.2.1.toNat),())) (m:=fun(s:List ag×List ag×Int×Unit)=>a.length-s.2.2.1.toNat)
  (I:=fun(s:List ag×List ag×Int×Unit)=>s.1=a/\s.2.1=b/\0<=s.2.2.1/\s.2.2.1<=(a.length:Int)/\s.2.2.1<=(b.length:Int))]
 simp;rintro G ⟨a',b',i,u⟩ ⟨e1,e2,hi0,hi1,hi2⟩ hG;change a'=a at e1;change b'=b at e2;subst e1 e2;simp only at hi0 hi1 hi2 hG|-;by_cases c:i<(a'.length:Int)/\i<(b'.length:Int);have e:i.toNat<a'.length:=by omega
 have f:i.toNat<b'.length:=by omega
 have h:decide (0<=i/\i<(a'.length:Int))=true:=by simpa using⟨hi0,c.1⟩
 have j:decide (0<=i/\i<(b'.length:Int))=true:=by simpa using⟨hi0,c.2⟩
 rw[an (by simp[c.1,c.2])];simp only[h,j,if_true];rw[fU (d:=ak.aa) e,fU (d:=ak.aa) f];simp only[bp,ly];rw[wrap64 (by omega) (by omega),hG (a',b',i+1,()) ⟨rfl,rfl,by simp only;omega,by simp only;omega,by simp only;omega⟩ (by simp only;omega)];simp only;rw[show(i+1).toNat=i.toNat+1 by omega];cases (ByteArray.toList (a'.getD i.toNat ak.aa).1==ByteArray.toList (b'.getD i.toNat ak.aa).1)<;>cases (ByteArray.toList (a'.getD i.toNat ak.aa).2==ByteArray.toList (b'.getD i.toNat ak.aa).2)<;>simp;rw[a_ (by simp;omega)];by_cases ha':i<(a'.length:Int);have e:i.toNat<a'.length:=by omega
 rw[fU (d:=ak.aa) e,at7 (show b'.length<=i.toNat by omega)];simp only[bp];congr 2;simp;omega;rw[at7 (show a'.length<=i.toNat by omega)];simp only[bp];congr 2;by_cases hb':i<(b'.length:Int);have f:i.toNat<b'.length:=by omega
 rw[fU (d:=ak.aa) f];simp;omega;rw[at7 (show b'.length<=i.toNat by omega)];simp;omega;exact⟨rfl,rfl,by simp,by simp,by simp⟩;simp only;omega
def nD{a b:List ag}(c:a.length<=1048576):jr k (a,b,())=some (bp a b,()):=by
 rw[<-mK hk c];simp only[iW,jr,fH,at4]
theorem Lf{l:List ByteArray}{s:ByteArray}(hl:l.length<=1048576):nx k (l,s,())=some (hasB l s,()):=by
 simp only[nx];rw[show((l,s,(0:Int),()):List ByteArray×ByteArray×Int×Unit)=(fun i:Nat=>(l,s,(i:Int),())) 0 from rfl];rw[N3 (fun i:Nat=>(l,s,(i:Int),())) (fun i=>(l.getD i ByteArray.empty).toList==s.toList) l.length (e:=some (false,())) (yes:=some (true,())) ?_ ?_ k 0 (by omega)];unfold hasB;cases bA 0 l.length (fun i=> !((l.getD i ByteArray.empty).toList==s.toList))<;>simp;intro G i a;simp only[l9];rw[aK,c_ a,an rfl,an (aC a),aX (by omega)];intro G i a;simp only;rw[aK,decide_eq_false (by omega),a_ (by simp)]
theorem K6{l:List ByteArray}{s:ByteArray}(hl:l.length<=1048576):lX k (l,s,())=some (hasB l s,()):=by
 simp only[lX];rw[show((s,l,(l.length:Int),(0:Int),()):ByteArray×List ByteArray×Int×Int×Unit)=(fun i:Nat=>(s,l,(l.length:Int),(i:Int),())) 0 from rfl];rw[N3 (fun i:Nat=>(s,l,(l.length:Int),(i:Int),())) (fun i=>(l.getD i ByteArray.empty).toList==s.toList) l.length (e:=some (false,())) (yes:=some (true,())) ?_ ?_ k 0 (by omega)];unfold hasB;cases bA 0 l.length (fun i=> !((l.getD i ByteArray.empty).toList==s.toList))<;>simp;intro G i a;simp only[l9];rw[aK,c_ a,an rfl,an (aC a),aX (by omega)];intro G i a;simp only;rw[aK,decide_eq_false (by omega),a_ (by simp)]
def wI{a:af}{by_:List ByteArray}(f:ai ae a<=1048576)(h:by_.length<=1048576):gN k (a,by_,())=some (keyOf a by_,()):=by
 have hl:=az (e:=ak) (l:=a.1);rw[bj hk]at f;simp only[gN,oJ]
 rw[pZ (g:=fun(s:List ag×List ByteArray×List ag×Int×Unit)=>some (s.2.2.1++(a.1.drop s.2.2.2.1.toNat).filter (fun x=>hasB by_ x.1),())) (m:=fun(s:List ag×List ByteArray×List ag×Int×Unit)=>a.1.length-s.2.2.2.1.toNat)
  (I:=fun(s:List ag×List ByteArray×List ag×Int×Unit)=>s.1=a.1/\s.2.1=by_/\0<=s.2.2.2.1/\s.2.2.2.1<=(a.1.length:Int)/\s.2.2.1.length<=s.2.2.2.1.toNat)]
 simp[keyOf];rintro G ⟨l',y',o,i,u⟩ ⟨e1,e2,hi0,hi1,ho⟩ hG;change l'=_ at e1;change y'=by_ at e2;subst e1 e2;simp only at hi0 hi1 ho hG|-;by_cases b:i<(a.1.length:Int);have j:i.toNat<a.1.length:=by omega
 rw[an (by simpa using b),an (by simpa using⟨hi0,b⟩),Lf hk h,at4,fU (d:=ak.aa) j,wrap64 (by omega) (by omega)];cases c:hasB y' (a.1.getD i.toNat ak.aa).1 with
 |true=>
  rw[an rfl,an (by simpa using⟨hi0,b⟩),an (by simp;omega)];rw[hG (a.1,y',o++[a.1.getD i.toNat ak.aa],i+1,()) ⟨rfl,rfl,by simp only;omega,by simp only;omega,by simp;omega⟩ (by simp only;omega)];simp only;rw[show(i+1).toNat=i.toNat+1 by omega,aun (by simpa using c)];simp
 |false=>
  rw[a_ (by simp)];rw[hG (a.1,y',o,i+1,()) ⟨rfl,rfl,by simp only;omega,by simp only;omega,by simp only;omega⟩ (by simp only;omega)];simp only;rw[show(i+1).toNat=i.toNat+1 by omega,auo (by rw[c];simp)]
 rw[a_ (by simpa using b),at7 (by omega)];simp;exact⟨rfl,rfl,by simp,by simp,by simp⟩;simp only;omega
def yY{a:af}{by_:List ByteArray}(f:ai ae a<=1048576)(h:by_.length<=1048576):mc k (a,by_,())=some (keyOf a by_,()):=by
 have hl:=az (e:=ak) (l:=a.1);rw[bj hk]at f;simp only[mc,oC]
 rw[pZ (g:=fun(s:List ByteArray×List ag×List ag×Int×Int×Unit)=>some (s.2.1++(a.1.drop s.2.2.2.2.1.toNat).filter (fun x=>hasB by_ x.1),())) (m:=fun(s:List ByteArray×List ag×List ag×Int×Int×Unit)=>a.1.length-s.2.2.2.2.1.toNat)
  (I:=fun(s:List ByteArray×List ag×List ag×Int×Int×Unit)=>s.1=by_/\s.2.2.1=a.1/\s.2.2.2.1=(a.1.length:Int)/\0<=s.2.2.2.2.1/\s.2.2.2.2.1<=(a.1.length:Int)/\s.2.1.length<=s.2.2.2.2.1.toNat)]
 simp[keyOf];rintro G ⟨y',o,l',n,i,u⟩ ⟨e2,e1,e3,hi0,hi1,ho⟩ hG;change l'=_ at e1;change y'=by_ at e2;change n=_ at e3;subst e1 e2 e3;simp only at hi0 hi1 ho hG|-;by_cases b:i<(a.1.length:Int);have j:i.toNat<a.1.length:=by omega
 rw[an (by simpa using b),an (by simpa using⟨hi0,b⟩),K6 hk h,at4,fU (d:=ak.aa) j,wrap64 (by omega) (by omega)];cases c:hasB y' (a.1.getD i.toNat ak.aa).1 with
 |true=>
  rw[an rfl,an (by simp;omega)];rw[hG (y',o++[a.1.getD i.toNat ak.aa],a.1,_,i+1,()) ⟨rfl,rfl,rfl,by simp only;omega,by simp only;omega,by simp;omega⟩ (by simp only;omega)];simp only;rw[show(i+1).toNat=i.toNat+1 by omega,aun (by simpa using c)];simp
 |false=>
  rw[a_ (by simp)];rw[hG (y',o,a.1,_,i+1,()) ⟨rfl,rfl,rfl,by simp only;omega,by simp only;omega,by simp only;omega⟩ (by simp only;omega)];simp only;rw[show(i+1).toNat=i.toNat+1 by omega,auo (by rw[c];simp)]
 rw[a_ (by simpa using b),at7 (by omega)];simp;exact⟨rfl,rfl,rfl,by simp,by simp,by simp⟩;simp only;omega
theorem Pp(a:af)(by_:List ByteArray):(keyOf a by_).length<=a.1.length:=aur ..
def jO{l:List af}{i:Nat}(hs:ai (.sl ae) l<=1048576)(hi:i<l.length):ai ae (l.getD i ae.aa)<=1048576/\(l.getD i ae.aa).1.length<=1048576:=by
 have a:ai ae (l.getD i ae.aa)<=1048576:=at8 (cx (e:=ae) (cC hi)) hs;refine⟨a,?_⟩;rw[bj hk]at a;have:=az (e:=ak) (l:=(l.getD i ae.aa).1);omega
def Dm{l:List af}{key:List ag}{by_:List ByteArray}(hs:ai (.sl ae) l<=1048576)(j:by_.length<=1048576):lJ k (l,key,by_,())=some (qh l key by_,()):=by
 have hl:=az (e:=ae) (l:=l);simp only[lJ];rw[show((l,key,by_,l,(l.length:Int),(0:Int),()):List af×List ag×List ByteArray×List af×Int×Int×Unit)=(fun i:Nat=>(l,key,by_,l,(l.length:Int),(i:Int),())) 0 from rfl];rw[dt (fun i:Nat=>(l,key,by_,l,(l.length:Int),(i:Int),())) (fun i=>bh (l.getD i ae.aa)&&(decide (keyOf (l.getD i ae.aa) by_=key)&&yd l i)) l.length (e:=some (true,())) (no:=some (false,())) ?_ ?_ k 0 (by omega)];unfold qh;cases bA 0 l.length (fun i=>bh (l.getD i ae.aa)&&(decide (keyOf (l.getD i ae.aa) by_=key)&&yd l i))<;>simp;intro G i b;simp only[l9];obtain⟨h,hml⟩:=jO hk hs b;have hkl:=Pp hk (l.getD i ae.aa) by_;rw[aK,c_ b,an rfl,an (aC b),iS hk h,at4,yY hk h j,aX (by omega),D8 (by omega)];simp only[cD,at4];rw[show((i:Int)-1).toNat=i-1 by omega];cases bh (l.getD i ae.aa)with
 |false=>simp
 |true=>
  simp only[Bool.not_true,beq_self_eq_true,if_true];rw[dV hk (by omega)];simp only[at4];by_cases c:keyOf (l.getD i ae.aa) by_=key;by_cases g:i=0;subst g;simp[c,yd,-at6];have d:(0:Int)<(i:Int):=by omega
  have f:0<i:=by omega
  obtain⟨hm1,a⟩:=jO hk hs (show i-1<l.length by omega);rw[an (by simp;omega),mK hk a];unfold yd;cases bp (l.getD (i-1) ae.aa).1 (l.getD i ae.aa).1<;>simp[c,g,d,f,-at6];simp[c,-at6]
 intro G i b;simp only;rw[aK,decide_eq_false (by omega),a_ (by simp)]
def De{g:aw}{by_:List ByteArray}(hs:ai al g<=1048576)(a:by_.length<=1048576):lT k (g,by_,())=some (eB g by_,()):=by
 rw[eK hk]at hs;simp only[lT,fw hk,mG hk (show ai (.sl ak) g.2.1<=1048576 by omega),Dm hk (show ai (.sl ae) g.2.2.2.2<=1048576 by omega) a,cD,at4,eB];have b:decide (g.1<(0:Int))= !decide (0<=g.1):=by rw[auc];simp
 have c:decide ((g.2.2.2.2.length:Int)>(0:Int))=decide (0<g.2.2.2.2.length):=by simp
 have d:((g.2.2.2.1:Int) != (-1:Int))= !decide (g.2.2.2.1= -1):=by rw[auc];simp
 rw[b,c,d];generalize decide (0<=g.1)=b1;generalize cZ g.2.1=b2;generalize aZ g.2.2.1 0 99999=b3;generalize decide (g.2.2.2.1= -1)=b4;generalize aZ g.2.2.2.1 g.2.2.1 99999=b5;generalize decide (0<g.2.2.2.2.length)=b6;generalize qh g.2.2.2.2 g.2.1 by_=b7;cases b1<;>cases b2<;>cases b3<;>cases b4<;>cases b5<;>cases b6<;>cases b7<;>simp
def qK{l:List aw}{i:Nat}(hs:ai (.sl al) l<=1048576)(hi:i<l.length):ai al (l.getD i al.aa)<=1048576/\(l.getD i al.aa).2.1.length<=1048576:=by
 have a:ai al (l.getD i al.aa)<=1048576:=at8 (cx (e:=al) (cC hi)) hs;refine⟨a,?_⟩;rw[eK hk]at a;have:=az (e:=ak) (l:=(l.getD i al.aa).2.1);omega
def CR{l:List aw}{key:List ag}(hs:ai (.sl al) l<=1048576):
 ∃r:Int,gi k (l,key,())=some (r,())/\(∀i:Nat,i<l.length->(l.getD i al.aa).2.1=key->(r=(i:Int)↔∀j,j<i->(l.getD j al.aa).2.1≠key)):=by
 have hl:=az (e:=al) (l:=l);simp only[gi]
 have main:∀(m a:Nat),l.length-a<m->(∀j,j<a->(l.getD j al.aa).2.1≠key)->∃r:Int,aM m (fun q (b:List ag×List aw×Int×Int×Unit)=>
  if(decide ((b.2.2.2.1:Int)<b.2.2.1))=true then
   if(decide (0<=b.2.2.2.1/\b.2.2.2.1<((at9 b.2.1:Nat):Int)))=true then
    Option.bind (cH k (((List.getD b.2.1 (aug b.2.2.2.1) al.aa).2).1,b.1,())) fun(t:Bool×Unit)=>
    if t.1=true then
     some (b.2.2.2.1,())
    else
     q (b.1,b.2.1,b.2.2.1,IntKind.i64.wrap (b.2.2.2.1+(1:Int)),())
   else
    none
  else
   some ((-1:Int),())) (key,l,(l.length:Int),(a:Int),())=some (r,())/\(∀i:Nat,i<l.length->(l.getD i al.aa).2.1=key->(r=(i:Int)↔∀j,j<i->(l.getD j al.aa).2.1≠key)):=by
  intro m
  induction m with
  |zero=>intro a h;omega
  |succ m u=>
   intro a h c;simp only[aM,l9];by_cases n:a<l.length;rw[aK,c_ n,an rfl,an (aC n),dV hk (qK hk hs n).2,at4];by_cases o:(l.getD a al.aa).2.1=key;rw[an (by simpa using o)];refine⟨_,rfl,fun i s f=> ?_⟩;constructor;intro e j p;exact c j (by omega);intro g;rcases Nat.lt_trichotomy a i with d|d|d;exact absurd o (g a d);rw[d];exact absurd f (c i d);rw[a_ (by simpa using o),aX (by omega)];refine u (a+1) (by omega) (fun j p=> ?_);rcases Nat.lt_or_ge j a with d|d;exact c j d;rw[show j=a by omega];exact o;rw[aK,decide_eq_false n,a_ (by simp)];refine⟨-1,rfl,fun i s f=> ?_⟩;exact absurd f (c i (by omega))
 exact main k 0 (by omega) (fun j p=>by omega)
theorem MT(l:List aw)(i:Nat):pn l i=true↔∀j,j<i->(l.getD j al.aa).2.1≠(l.getD i al.aa).2.1:=by
 unfold pn;rw[bM];simp only[Bool.not_eq_true',d_];exact⟨fun h j a=>h j (by omega) a,fun h j _ a=>h j a⟩
def As{l:List aw}{by_:List ByteArray}(hs:ai (.sl al) l<=1048576)(o:by_.length<=1048576):kJ k (l,by_,())=some (dQ l by_,()):=by
 have hl:=az (e:=al) (l:=l);simp only[kJ];rw[show((l,by_,l,(l.length:Int),(0:Int),()):List aw×List ByteArray×List aw×Int×Int×Unit)=(fun i:Nat=>(l,by_,l,(l.length:Int),(i:Int),())) 0 from rfl];rw[dt (fun i:Nat=>(l,by_,l,(l.length:Int),(i:Int),())) (fun i=>decide (i<12)&&(eB (l.getD i al.aa) by_&&(JK l i&&pn l i))) l.length (e:=some (true,())) (no:=some (false,())) ?_ ?_ k 0 (by omega)];unfold dQ;rw[jI,PZ];cases bA 0 l.length (fun i=>eB (l.getD i al.aa) by_&&(JK l i&&pn l i))<;>by_cases h:l.length<=12<;>simp[h];intro G i g;simp only[l9];obtain⟨p,hml⟩:=qK hk hs g;obtain⟨r,q,a⟩:=CR hk (key:=(l.getD i al.aa).2.1) hs;have a:=a i g rfl;rw[<-MT hk]at a;rw[aK,c_ g,an rfl,an (aC g),De hk p o,aX (by omega),D8 (by omega)];simp only[cD,at4];rw[show((i:Int)-1).toNat=i-1 by omega,q,an (by simp;omega)];unfold JK;by_cases mS:i<12;have b:¬(12:Int)<=(i:Int):=by omega
 cases eB (l.getD i al.aa) by_ with
 |false=>simp[mS,b,-at6]
 |true=>
  by_cases m:i=0;subst m;cases j:pn l 0 with
  |true=>rw[j]at a;have:=a.2 rfl;simp[this,-at6]
  |false=>rw[j]at a;have:¬r=0:=fun e=>by have:=a.1 e;cases this
          simp[this,-at6]
  have d:(0:Int)<(i:Int):=by omega
  have f:0<i:=by omega
  by_cases n:(l.getD (i-1) al.aa).1<(l.getD i al.aa).1;have c:¬(l.getD i al.aa).1<=(l.getD (i-1) al.aa).1:=by omega
  cases j:pn l i with
  |true=>rw[j]at a;have:=a.2 rfl;simp[this,mS,b,m,d,f,n,c,-at6]
  |false=>rw[j]at a;have:¬r=(i:Int):=fun e=>by have:=a.1 e;cases this
          simp[this,mS,b,m,d,f,n,c,-at6]
  have c:(l.getD i al.aa).1<=(l.getD (i-1) al.aa).1:=by omega
  simp[mS,b,m,d,f,n,c,-at6]
 have b:(12:Int)<=(i:Int):=by omega
 simp[mS,b,-at6];intro G i g;simp only;rw[aK,decide_eq_false (by omega),a_ (by simp)]
end
def tC(l:List bo):Bool:=bA 0 l.length (fun i=>fp (l.getD i aW.aa))
section
variable{k:Nat}(hk:9223372036854775808<=k)
include hk
def Jc{c:aY}{a:af}(hs:ai ae a<=1048576):oT k (c,a,())=some (cm a,()):=by
 simp only[oT];rw[C9 hk hs];simp only[at4,cm,yw]
def xU{c:aY}{a:af}(hs:ai ae a<=1048576):mj k (c,a,())=some (cm a,()):=by
 simp only[mj];rw[iS hk hs];simp only[at4,cm,yw]
def Hg{s:bo}(hs:ai aW s<=1048576):nL k (s,())=some (fp s,()):=by
 rw[nj hk]at hs;have hl:=az (e:=ae) (l:=s.1);simp only[nL];rw[jP hk hs];unfold fp;cases s.2 with
 |true=>
  simp only[if_true];congr 2;by_cases a:s.1=[]
  rw[a];rfl;have h1:¬s.1.length=0:=fun e=>a (List.eq_nil_of_length_eq_zero e);simp[a]
 |false=>
  by_cases h:s.1.length<=3;have b:(s.1.length:Int)<=3:=by omega
  simp[h,b];have b:¬(s.1.length:Int)<=3:=by omega
  simp[h,b]
theorem Ng{l:List bo}{i:Nat}(hs:ai (.sl aW) l<=1048576)(hi:i<l.length):ai aW (l.getD i aW.aa)<=1048576:=
 at8 (cx (e:=aW) (cC hi)) hs
def zj{l:List bo}{c:aY}(hs:ai (.sl aW) l<=1048576):j7 k (l,c,())=some (tC l&&decide ((l.length:Int)=c.2.2.1),()):=by
 have hl:=az (e:=aW) (l:=l);simp only[j7,aN];rw[show((l,c,l,(l.length:Int),(0:Int),()):List bo×aY×List bo×Int×Int×Unit)=(fun i:Nat=>(l,c,l,(l.length:Int),(i:Int),())) 0 from rfl];rw[dt (fun i:Nat=>(l,c,l,(l.length:Int),(i:Int),())) (fun i=>fp (l.getD i aW.aa)) l.length (e:=some (decide ((l.length:Int)=c.2.2.1),())) (no:=some (false,())) ?_ ?_ k 0 (by omega)];unfold tC;cases bA 0 l.length (fun i=>fp (l.getD i aW.aa))<;>simp;intro G i a;simp only[l9];rw[aK,c_ a,an rfl,an (aC a),Hg hk (Ng hk hs a),at4,aX (by omega)];cases fp (l.getD i aW.aa)<;>simp;intro G i a;simp only;rw[aK,decide_eq_false (by omega),a_ (by simp)];congr 2
end
def Fm(n:Int):IntKind.u32.wrap n=n%4294967296:=by
 simp[IntKind.wrap,IntKind.signed,IntKind.bits]
def Yz{a b:Nat}(c:a<4294967296)(d:b<4294967296):bits (fun _=>(·^^^·)) .i64 (a:Int) (b:Int)=((a^^^b:Nat):Int):=by
 have hx:a^^^b<2^32:=aul (by simpa using c) (by simpa using d);change IntKind.i64.wrap (((BitVec.ofInt 64 (a:Int)^^^BitVec.ofInt 64 (b:Int)).toNat:Nat):Int)=_;rw[BitVec.toNat_xor,BitVec.toNat_ofInt,BitVec.toNat_ofInt];have e:((a:Int)%((2^64:Nat):Int)).toNat=a:=by omega
 have f:((b:Int)%((2^64:Nat):Int)).toNat=b:=by omega
 rw[e,f,wrap64 (by omega) (by omega)]
def Yl{a b:Nat}(c:a<4294967296)(d:b<4294967296):bits (fun _=>(·^^^·)) .u32 (a:Int) (b:Int)=((a^^^b:Nat):Int):=by
 have hx:a^^^b<2^32:=aul (by simpa using c) (by simpa using d);change IntKind.u32.wrap (((BitVec.ofInt 32 (a:Int)^^^BitVec.ofInt 32 (b:Int)).toNat:Nat):Int)=_;rw[BitVec.toNat_xor,BitVec.toNat_ofInt,BitVec.toNat_ofInt];have e:((a:Int)%((2^32:Nat):Int)).toNat=a:=by omega
 have f:((b:Int)%((2^32:Nat):Int)).toNat=b:=by omega
 rw[e,f,Fm];omega
def Zc{a:Nat}(ha:a<9223372036854775808):bits (fun _=>(· &&& ·)) .i64 (a:Int) (4294967295:Int)=((a%4294967296:Nat):Int):=by
 change IntKind.i64.wrap (((BitVec.ofInt 64 (a:Int) &&& BitVec.ofInt 64 (4294967295:Int)).toNat:Nat):Int)=_;rw[BitVec.toNat_and,BitVec.toNat_ofInt,BitVec.toNat_ofInt];have b:((a:Int)%((2^64:Nat):Int)).toNat=a:=by omega
 have c:((4294967295:Int)%((2^64:Nat):Int)).toNat=2^32-1:=by decide
 rw[b,c,Nat.and_two_pow_sub_one_eq_mod,wrap64 (by omega) (by omega)]
def YW(s:ByteArray)(i:Int):∃b:Nat,bt s i=(b:Int)/\b<256:=by
 unfold bt;exact⟨_,rfl,(s.data.toList.getD i.toNat 0).toNat_lt⟩
def JH{n:Nat}(a:n<4294967296)(s:ByteArray)(i:Int):∃m:Nat,m<4294967296/\
 bits (fun _=>(· &&& ·)) .i64 (IntKind.i64.wrap ((bits (fun _=>(·^^^·)) .i64 (n:Int) (IntKind.i64.wrap (bt s i)))*(16777619:Int))) (4294967295:Int)=(m:Int)/\
 IntKind.u32.wrap ((bits (fun _=>(·^^^·)) .u32 (n:Int) (IntKind.u32.wrap (bt s i)))*(16777619:Int))=(m:Int):=by
 obtain⟨b,d,hlt⟩:=YW s i;have c:n^^^b<2^32:=aul (by simpa using a) (by omega);rw[d,wrap64 (n:=(b:Int)) (by omega) (by omega),Fm (b:Int),show((b:Int)%4294967296)=(b:Int) by omega,Yz a (by omega),Yl a (by omega)];generalize n^^^b=x at c;rw[wrap64 (by omega) (by omega),show((x:Int)*16777619)=((x*16777619:Nat):Int) by omega,Zc (by omega),Fm];exact⟨x*16777619%4294967296,by omega,rfl,by omega⟩
section
variable{k:Nat}(hk:9223372036854775808<=k)
include hk
theorem V6{s:ByteArray}(hs:s.size<=4294967296):∃n:Int,jR k (s,())=some (n,())/\nJ k (s,())=some (n,()):=by
 have h:∃r:Int×Unit,jR k (s,())=some r/\∃n:Nat,r.1=(n:Int)/\n<4294967296:=by
  simp only[jR];refine ON (fun(t:ByteArray×Int×Int×Unit)=>s.size-t.2.2.1.toNat) (fun(t:ByteArray×Int×Int×Unit)=>t.1=s/\(∃n:Nat,t.2.1=(n:Int)/\n<4294967296)/\0<=t.2.2.1/\t.2.2.1<=(s.size:Int)) _ ?_ k _ ⟨rfl,⟨2166136261,rfl,by omega⟩,by simp,by simp⟩ (by simp only;omega);rintro G ⟨s',n,i,u⟩ ⟨e1,⟨m,e2,hm⟩,hi0,hi1⟩ hG;change s'=s at e1;change n=_ at e2;subst e1 e2;simp only at hi0 hi1 hG|-;by_cases d:i<(s'.size:Int);rw[an (by simpa using d),an (by simpa using⟨hi0,d⟩)];obtain⟨e,c,q1,_⟩:=JH hm s' i;rw[q1,wrap64 (by omega) (by omega)];exact hG (s',_,i+1,()) ⟨rfl,⟨e,rfl,c⟩,by simp only;omega,by simp only;omega⟩ (by simp only;omega);rw[a_ (by simpa using d)];exact⟨_,rfl,m,rfl,hm⟩
 have j:jR k (s,())=nJ k (s,()):=by
  simp only[jR,nJ,aN];refine UI (fun(t f:ByteArray×Int×Int×Unit)=>t=f/\∃n:Nat,t.2.1=(n:Int)/\n<4294967296) (fun a b=>a=b) rfl ?_ k _ _ ⟨rfl,2166136261,rfl,by omega⟩;rintro G G' ⟨s1,n,i,u⟩ f ⟨rfl,m,e2,hm⟩ hG;change n=_ at e2;subst e2;simp only;obtain⟨e,c,q1,q2⟩:=JH hm s1 i;split;split;rw[q1,q2];exact hG _ _ ⟨rfl,e,rfl,c⟩;rfl;rw[wrap64 (by omega) (by omega)]
 obtain⟨⟨n,u⟩,g,_⟩:=h;exact⟨n,g,j▸g⟩
def NL(x:ag):ByteArray:=((x.1++(⟨#[61,34]⟩:ByteArray))++x.2)++(⟨#[34]⟩:ByteArray)
def tx(l:List ag):Nat->ByteArray
 |0=>⟨#[123]⟩
 |i+1=>((((if i=0 then tx l i else tx l i++(⟨#[44,32]⟩:ByteArray))++(l.getD i ak.aa).1)++(⟨#[61,34]⟩:ByteArray))++(l.getD i ak.aa).2)++(⟨#[34]⟩:ByteArray)
theorem E8{l:List ag}(h:cZ l=true):∀i,i<=l.length->(tx l i).size<=1+25*i:=by
 simp only[cZ,aua,bM]at h;intro i
 induction i with
 |zero=>intro _;simp[tx,ByteArray.size]
 |succ i b=>
  intro hi;have:=b (by omega);have a:=h.2 i (by omega) (by omega);simp only[eA,eP,iE,aua,b_]at a;simp only[tx,ByteArray.size_append];have e1:(⟨#[61,34]⟩:ByteArray).size=2:=rfl;have e2:(⟨#[34]⟩:ByteArray).size=1:=rfl;have e3:(⟨#[44,32]⟩:ByteArray).size=2:=rfl;split;omega;rw[ByteArray.size_append];omega
def Dn{l:List ag}(hs:ai (.sl ak) l<=1048576):lU k (l,())=some (if cZ l=true then tx l l.length++(⟨#[125]⟩:ByteArray)else⟨#[]⟩,()):=by
 have hl:=az (e:=ak) (l:=l);simp only[lU,aN];rw[pB hk hs,at4];cases b:cZ l with
 |false=>simp
 |true=>
  have g:=E8 hk b;have a:=b;simp only[cZ,aua,bM,b_]at a;rw[a_ (by simp),an rfl];rw[show((l,(⟨#[123]⟩:ByteArray),(0:Int),()):List ag×ByteArray×Int×Unit)=(fun i:Nat=>(l,tx l i,(i:Int),())) 0 from rfl];have h:(⟨#[61,34]⟩:ByteArray).size=2:=rfl;have j:(⟨#[34]⟩:ByteArray).size=1:=rfl;have m:(⟨#[44,32]⟩:ByteArray).size=2:=rfl;have o:(⟨#[125]⟩:ByteArray).size=1:=rfl;refine bX (fun i:Nat=>(l,tx l i,(i:Int),())) l.length ?_ ?_ k 0 (by omega) (by omega);intro G i d;have f:=g i (by omega);have c:=a.2 i (by omega) d;simp only[eA,eP,iE,aua,b_]at c;simp only[l9];rw[aK,c_ d,an rfl];by_cases n:i=0;subst n;have p:(tx l 0).size=1:=rfl;rw[a_ (by simp)];simp only[aC d,if_true,ByteArray.size_append,h,j,p];rw[an (by simp only[b_];omega),an (by simp only[b_];omega),an (by simp only[b_];omega),an (by simp only[b_];omega),aX (by omega)];rfl;have h0n:0<i:=by omega
  rw[an (by simp;omega),an (by simp only[m,b_];omega)];simp only[aC d,if_true,ByteArray.size_append,h,j,m];rw[an (by simp only[b_];omega),an (by simp only[b_];omega),an (by simp only[b_];omega),an (by simp only[b_];omega),aX (by omega)];simp only[tx,a_ n];intro G;have f:=g l.length (by omega);simp only;rw[aK,decide_eq_false (by omega),a_ (by simp),an (by simp only[o,b_];omega)]
def pl(l:List ag)(i:Nat):List ByteArray:=(List.range i).map (fun j=>NL (l.getD j ak.aa))
theorem Md(l:List ag)(i:Nat):pl l (i+1)=pl l i++[NL (l.getD i ak.aa)]:=by
 simp[pl,List.range_succ]
theorem OV(xs:List (List UInt8))(y sep:List UInt8):Lib.join (xs++[y]) sep=if xs=[]then y else Lib.join xs sep++sep++y:=by
 cases xs with
 |nil=>simp[Lib.join_one]
 |cons x r=>
  rw[a_ (by simp),List.cons_append,Lib.join_cons,Lib.join_cons];simp[Lib.joinTail,auz]
def Mt(l:List ag):∀i,(tx l i).data.toList=123::xq (pl l i) ⟨#[44,32]⟩:=by
 intro i
 induction i with
 |zero=>rfl
 |succ i c=>
  unfold xq at c|-;rw[Md hk,List.map_append,List.map_singleton,OV hk];simp only[tx,NL];by_cases a:i=0;subst a;simp[pl,tx,ByteArray.data_append]
  have b:List.map (fun x=>x.data.toList) (pl l i)≠ []:=by
   intro e;have:=congrArg at9 e;simp[pl]at this;exact a this
  rw[a_ a,a_ b];simp only[ByteArray.data_append,aus,c];simp[auz]
theorem Pq{a b:ByteArray}(h:a.data.toList=b.data.toList):a=b:=by
 cases a;cases b;simp at h;rw[h]
def Dq{l:List ag}(hs:ai (.sl ak) l<=1048576):lV k (l,())=some (if cZ l=true then tx l l.length++(⟨#[125]⟩:ByteArray)else⟨#[]⟩,()):=by
 have hl:=az (e:=ak) (l:=l);simp only[lV,aN];rw[mG hk hs,at4];cases c:cZ l with
 |false=>simp
 |true=>
  have hb:=E8 hk c l.length (by omega);have a:=c;simp only[cZ,aua,bM,b_]at a;rw[a_ (by simp),an rfl];rw[show((([]:List ByteArray),l,(l.length:Int),(0:Int),()):List ByteArray×List ag×Int×Int×Unit)=(fun i:Nat=>(pl l i,l,(l.length:Int),(i:Int),())) 0 from rfl];have g:(⟨#[61,34]⟩:ByteArray).size=2:=rfl;have h:(⟨#[34]⟩:ByteArray).size=1:=rfl;refine bX (fun i:Nat=>(pl l i,l,(l.length:Int),(i:Int),())) l.length ?_ ?_ k 0 (by omega) (by omega);intro G i f;have d:=a.2 i (by omega) f;simp only[eA,eP,iE,aua,b_]at d;have b:(pl l i).length=i:=by simp[pl]
  simp only[l9];rw[aK,c_ f,an rfl,an (aC f)];simp only[ByteArray.size_append,g,h];rw[an (by simp only[b_];omega),an (by simp only[b_];omega),an (by simp only[b_];omega),an (by simp only[b_,auh,b];omega),aX (by omega),Md hk];rfl;intro G;simp only;rw[aK,decide_eq_false (by omega),a_ (by simp)]
  have hj:(xq (pl l l.length) ⟨#[44,32]⟩).length<=1+25*l.length:=by
   have:=Mt hk l l.length;have j:=congrArg at9 this;simp only[Array.length_toList,aum]at j;have h3:(tx l l.length).data.size=(tx l l.length).size:=rfl;omega
  have b:(pl l l.length).length=l.length:=by simp[pl]
  simp only[oD,M4];rw[an ⟨by rw[b];omega,by omega⟩,at4];simp only[ByteArray.size_append];have m:(⟨(xq (pl l l.length) ⟨#[44,32]⟩).toArray⟩:ByteArray).size=(xq (pl l l.length) ⟨#[44,32]⟩).length:=by simp[ByteArray.size]
  have n:(⟨#[123]⟩:ByteArray).size=1:=rfl;have o:(⟨#[125]⟩:ByteArray).size=1:=rfl;rw[m,n,o,an (by simp only[b_];omega),an (by simp only[b_];omega)];congr 2;refine Pq hk ?_;simp only[ByteArray.data_append,aus];rw[Mt hk];simp
def Gw{l:List ag}(hs:ai (.sl ak) l<=1048576):∃n:Int,fj k (l,())=some (n,())/\eu k (l,())=some (n,()):=by
 simp only[fj,eu];rw[Dn hk hs,Dq hk hs];simp only[at4]
 have b:(if cZ l=true then tx l l.length++(⟨#[125]⟩:ByteArray)else⟨#[]⟩).size<=4294967296:=by
  split;rename_i a;have hb:=E8 hk a l.length (by omega)
  have hl:l.length<=4:=by
   simp only[cZ,aua,b_]at a;exact a.1
  have e4:(⟨#[125]⟩:ByteArray).size=1:=rfl;rw[ByteArray.size_append];omega;simp[ByteArray.size]
 obtain⟨n,q1,q2⟩:=V6 hk b;rw[q1,q2];simp only[at4];rw[an (by simp),an (by simp)];exact⟨_,rfl,rfl⟩
theorem OQ(f n:Int):fZ k (f,n,())=kq k (f,n,()):=rfl
def cR{a:af}(h:ai ae a<=1073741824):br k (a,())=some (a,()):=by
 have h1:=bj hk a;have h2:=az (e:=ak) (l:=a.1);simp only[br];rw[an (by simp;omega)];simp
theorem xt{l:List ag}(h:l.length<=1073741824):il k (l,())=some (l,()):=by
 simp only[il];rw[an (by simp;omega)];simp
def gY{a:af}(h:ai ae a<=1073741824):ck k (a,())=some (a,()):=by
 have h1:=bj hk a;have h2:=az (e:=ak) (l:=a.1);simp only[ck];rw[xt hk (by omega),at4]
def ff{l:List af}(h:ai (.sl ae) l<=1073741824):bK k (l,())=some (l,()):=
 Bt (d:=ae.aa) (S:=br k) hk (at8 (az (e:=ae)) h) (fun e a=>cR hk (at8 (cx (e:=ae) a) h))
def jK{l:List af}(h:ai (.sl ae) l<=1073741824):dD k (l,())=some (l,()):=
 SY (d:=ae.aa) (S:=ck k) hk (at8 (az (e:=ae)) h) (fun e a=>gY hk (at8 (cx (e:=ae) a) h))
def vw{g:aw}(h:ai al g<=1073741824):fA k (g,())=some (g,()):=by
 have h1:=eK hk g;have h2:=az (e:=ak) (l:=g.2.1);simp only[fA];rw[an (by simp;omega),ff hk (by omega),at4];simp
def zO{b:bq}(h1:ai (.sl ak) b.2.1<=1073741824)(h3:ai (.sl ae) b.2.2.2<=1073741824):fT k (b,())=some (b,()):=by
 have h2:=az (e:=ak) (l:=b.2.1);simp only[fT];rw[an (by simp;omega),ff hk (by omega),at4];simp
def CN{c:aY}(h:ai db c<=1073741824):jD k (c,())=some (c,()):=by
 have h1:=ng hk c;have h2:=az (e:= .str) (l:=c.2.2.2.2.2);simp only[jD];rw[an (by simp;omega)];simp
def dh(U:Int)(l:List af):List af:=l.filter fun a=> !decide (a.2.2.1<=U)
omit hk in
theorem vj{U:Int}{l:List af}{i:Nat}(h:i<l.length):dh U (l.take (i+1))=if(!decide ((l.getD i ae.aa).2.2.1<=U))=true then dh U (l.take i)++[l.getD i ae.aa]else dh U (l.take i):=by
 rw[lv ae.aa h,dh,dh,List.filter_append,filter_one];split<;>simp
omit hk in
theorem xw{U:Int}{l:List af}:(dh U l).length<=l.length:=aur ..
omit hk in
theorem Nt{U:Int}{l:List af}:ai (.sl ae) (dh U l)<=ai (.sl ae) l:=xD (e:=ae) _ l
def fR(g:aw)(U:Int):aw:=(g.1,g.2.1,g.2.2.1,U,dh U g.2.2.2.2)
def qs(g:aw)(U:Int):bq:=(g.1,g.2.1,U,g.2.2.2.2)
def HH{g:aw}{U:Int}(h:ai al g<=1073741824):nG k (g,U,())=some (fR g U,qs g U,()):=by
 have h1:=eK hk g;have hl:=az (e:=ae) (l:=g.2.2.2.2);simp only[nG,aN];rw[vw hk h,at4];refine bX (fun i=>(U,g,_,_,(g.1,g.2.1,g.2.2.1,U,dh U (g.2.2.2.2.take i)),(i:Int),())) g.2.2.2.2.length (fun G i a=> ?_) (fun G=> ?_) k 0 (by omega) (by omega);have hm:=cx (e:=ae) (cC (d:=ae.aa) a);have b:=xw (U:=U) (l:=g.2.2.2.2.take i);rw[auf]at b;simp only[aK,aC a,a,decide_true,if_true,l9,mn,at4];rw[cR hk (by omega),vj a,aX (by omega)];simp only[at4];split;rw[an (by simp;omega)];rfl;simp only[aK,Nat.lt_irrefl,decide_false,aud,if_false,auB];rw[zO hk (by simp only;omega) (by simp only;omega),at4];rfl
def NO{g:aw}{U:Int}:ai al (fR g U)<=ai al g:=by
 rw[eK hk,eK hk];have:=Nt (U:=U) (l:=g.2.2.2.2);simp only[fR];omega
def M3{g:aw}{U:Int}:ai cw (qs g U)=ai al g:=by
 rw[eK hk,pK hk];rfl
end
def cn(k:Nat)(l:List ag):Int:=match fj k (l,())with|some r=>r.1|none=>0
def dP(f n:Int):Int:=if n<1 then 0 else if f<0 then 0 else Int.tmod f n
def eU(l:List af)(s:List ag):Option Nat:=fv l.length (fun i=>decide ((l.getD i ae.aa).1=s))
def xK(l:List af):Bool:=bA 0 l.length (fun i=>bA 0 i (fun j=> !decide ((l.getD j ae.aa).1=(l.getD i ae.aa).1)))
def dL(k:Nat)(c:aP):Bool:=bA 0 c.2.length (fun i=>bh (c.2.getD i ae.aa)&&decide (cn k (c.2.getD i ae.aa).1=c.1))&&(decide (0<c.2.length)&&xK c.2)
def yO(l:List aP)(i:Nat):Bool:=i==0||decide ((l.getD (i-1) ax.aa).1<(l.getD i ax.aa).1)
def gl(k:Nat)(p:au)(i n:Int):Bool:=
 bA 0 p.2.2.length (fun j=>dL k (p.2.2.getD j ax.aa)&&(decide (dP (p.2.2.getD j ax.aa).1 n=i)&&yO p.2.2 j))&&(aZ p.1 (-1) 4&&decide (0<=p.2.1))
def dp(k:Nat)(l:List au):Bool:=bA 0 l.length (fun i=>gl k (l.getD i aj.aa) i l.length)&&aZ l.length 1 3
def dq{e:Ty}{l:List e.den}{i:Nat}{d:e.den}(hi:i<l.length):ai e (l.getD i d)+l.length<=ai (.sl e) l:=by
 have h:=Vb (f:=ai e) (cC (d:=d) hi);simp only[ai];omega
section
variable{k:Nat}(hk:9223372036854775808<=k)
include hk
def oz{l:List ag}(hs:ai (.sl ak) l<=1048576):fj k (l,())=some (cn k l,()):=by
 obtain⟨n,a,h2⟩:=Gw hk hs;unfold cn;rw[a]
def gG{l:List ag}(hs:ai (.sl ak) l<=1048576):eu k (l,())=some (cn k l,()):=by
 obtain⟨n,a,b⟩:=Gw hk hs;unfold cn;rw[a,b]
theorem uf{f n:Int}:kq k (f,n,())=some (dP f n,()):=by
 simp only[kq,dP];by_cases a:n<1;simp[a];by_cases b:f<0;simp[a,b];have c:n≠0:=by omega
 simp[a,b,c]
def kX{f n:Int}:fZ k (f,n,())=some (dP f n,()):=by
 rw[OQ hk,uf hk]
omit hk in
theorem xB{f n:Int}(h:1<=n):0<=dP f n/\dP f n<n:=by
 unfold dP;rw[a_ (by omega)];split;omega;exact⟨Int.tmod_nonneg _ (by omega),Int.tmod_lt_of_pos _ (by omega)⟩
def xu{l:List af}{s:List ag}(hs:ai (.sl ae) l<=1048576):ei k (l,s,())=some (dB (eU l s),()):=by
 have hl:=az (e:=ae) (l:=l);simp only[ei];refine(fY (fun i:Nat=>(s,l,(l.length:Int),(i:Int),())) (fun i=>decide ((l.getD i ae.aa).1=s)) l.length (e:=some (-1,())) (fun i=>some ((i:Int),())) (fun G i a=> ?_) (fun G=> ?_) k (by omega)).trans ?_;obtain⟨h1,b⟩:=jO hk hs a;simp only[aK,aC a,a,decide_true,if_true,l9,dV hk b,at4];rw[aX (by omega)];simp;unfold eU;cases fv l.length (fun i=>decide ((l.getD i ae.aa).1=s))<;>rfl
def nW{c:aP}{s:List ag}(hs:ai (.sl ae) c.2<=1048576):fC k (c,s,())=some (dB (eU c.2 s),()):=by
 have hl:=az (e:=ae) (l:=c.2);simp only[fC];refine(fY (fun i:Nat=>(s,c,(i:Int),())) (fun i=>decide ((c.2.getD i ae.aa).1=s)) c.2.length (e:=some (-1,())) (fun i=>some ((i:Int),())) (fun G i a=> ?_) (fun G=> ?_) k (by omega)).trans ?_;obtain⟨h1,b⟩:=jO hk hs a;simp only[aK,aC a,a,decide_true,if_true,l9,nT hk b,at4];rw[aX (by omega)];simp;unfold eU;cases fv c.2.length (fun i=>decide ((c.2.getD i ae.aa).1=s))<;>rfl
def vD{c:aP}{s:List ag}(hs:ai (.sl ae) c.2<=1048576):jC k (c,s,())=some (dB (eU c.2 s),()):=by
 simp only[jC];rw[xu hk hs,at4]
omit hk in
theorem NC{l:List af}{i:Nat}(hi:i<l.length):(eU (l.take i) (l.getD i ae.aa).1=none)↔bA 0 i (fun j=> !decide ((l.getD j ae.aa).1=(l.getD i ae.aa).1))=true:=by
 unfold eU;rw[gB,bM];have c:(l.take i).length=i:=by simp;omega
 rw[c]
 have b:∀j,j<i->(l.take i).getD j ae.aa=l.getD j ae.aa:=by
  intro j a;simp[at6,List.getElem?_take,a]
 constructor;intro h j _ a;have:=h j a;rw[b j a]at this;simp only[this,auD];intro h j a;have:=h j (by omega) a;rw[b j a];simpa using this
def EO{l:List af}(hs:ai (.sl ae) l<=1048576):iJ k (l,())=some (xK l,()):=by
 have hl:=az (e:=ae) (l:=l);simp only[iJ];refine(dt (fun i:Nat=>(l,l,(l.length:Int),(i:Int),())) (fun i=>bA 0 i (fun j=> !decide ((l.getD j ae.aa).1=(l.getD i ae.aa).1))) l.length (e:=some (true,())) (no:=some (false,())) ?_ ?_ k 0 (by omega)).trans ?_;intro G i a;have ht:=cB (e:=ae) l i;simp only[aK,aC a,a,decide_true,if_true,l9];rw[an (by simp;omega),xu hk (by omega),at4,aX (by omega)];have key:=NC a;cases b:bA 0 i (fun j=> !decide ((l.getD j ae.aa).1=(l.getD i ae.aa).1))with
 |true=>
  rw[key.2 b];rfl
 |false=>
  cases c:eU (l.take i) (l.getD i ae.aa).1 with
  |none=>rw[key.1 c]at b;cases b
  |some j=>rw[an (by simp[dB]),a_ (by simp)]
 intro G i a;simp only[aK];rw[a_ (by simp;omega)];unfold xK;split<;>simp_all
def rM{c:aP}(hs:ai ax c<=1048576):lI k (c,())=some (dL k c,()):=by
 rw[df hk]at hs;have hl:=az (e:=ae) (l:=c.2);simp only[lI,aN]
 refine(dt (fun i:Nat=>(c,c.2,(c.2.length:Int),(i:Int),())) (fun i=>bh (c.2.getD i ae.aa)&&decide (cn k (c.2.getD i ae.aa).1=c.1)) c.2.length
  (e:=some (decide (0<c.2.length)&&xK c.2,())) (no:=some (false,())) ?_ ?_ k 0 (by omega)).trans ?_
 intro G i a;obtain⟨g,h2⟩:=jO hk hs a;have h3:=bj hk (c.2.getD i ae.aa);simp only[aK,aC a,a,decide_true,if_true,l9,iS hk g,gG hk (l:=(c.2.getD i ae.aa).1) (by omega),at4,cD];rw[aX (by omega)];generalize bh (c.2.getD i ae.aa)=b1;generalize cn k (c.2.getD i ae.aa).1=f;cases b1<;>by_cases b:f=c.1<;>simp[b];intro G i a;simp only[aK];rw[a_ (by simp;omega),EO hk hs];by_cases d:0<c.2.length<;>simp[d];unfold dL;cases bA 0 c.2.length (fun i=>bh (c.2.getD i ae.aa)&&decide (cn k (c.2.getD i ae.aa).1=c.1))<;>simp
end
def II{j:Nat}(h:j<4611686018427387904):IntKind.i64.wrap (((j+1:Nat):Int)-1)=(j:Int):=by
 rw[wrap64 (by omega) (by omega)];omega
def Ln(j:Nat):decide ((((j+1:Nat):Int))>0)=true:=by simp
def Q6:decide ((((0:Nat):Int))>0)=false:=by simp
def bw(a b:aF):Bool:=decide (a.1<b.1)||(decide (a.1=b.1)&&decide (a.2<b.2))
def lj(l:List aF):Bool:=
 bA 0 l.length (fun i=>(decide (0<=(l.getD i aE.aa).1)&&decide (0<=(l.getD i aE.aa).2))&&(i==0|| !bw (l.getD i aE.aa) (l.getD ((i-1)/2) aE.aa)))&&decide (l.length<=16)
abbrev jv(c:aP):List af:=c.2
def aS(p:au):List af:=p.2.2.flatMap jv
def bO(l:List au):List af:=l.flatMap aS
def bu(l:List au):Nat:=(bO l).length
def eY(p:au)(f:Int):Option Nat:=fv p.2.2.length (fun i=>decide ((p.2.2.getD i ax.aa).1=f))
def bU:af:=([],0,0,ByteArray.empty)
def eR(k:Nat)(p:au)(s:List ag):af×Bool:=
 match eY p (cn k s)with
 |none=>(bU,false)
 |some i=>match eU (p.2.2.getD i ax.aa).2 s with
  |none=>(bU,false)
  |some j=>((p.2.2.getD i ax.aa).2.getD j ae.aa,true)
def bg(k:Nat)(l:List au)(s:List ag):Int:=dP (cn k s) l.length
def bD(k:Nat)(l:List au)(s:List ag):af×Bool:=if l.length=0 then(bU,false)else eR k (l.getD (bg k l s).toNat aj.aa) s
def ik(c:aY)(g:aw):Int:=IntKind.i64.wrap (if g.2.2.2.1= -1 then g.2.2.1+c.2.2.2.1 else g.2.2.2.1+c.2.2.2.2.1)
def dK{α β:Type}{f:α->List β}{l:List α}{i:Nat}(d:α)(h:i<l.length):(l.take (i+1)).flatMap f=(l.take i).flatMap f++f (l.getD i d):=by
 rw[lv d h,List.flatMap_append];simp
section
variable{k:Nat}(hk:9223372036854775808<=k)
include hk
theorem jS{e f:Ty}{g:e.den->List f.den}(h:∀x,ai (.sl f) (g x)<=ai e x):∀l:List e.den,ai (.sl f) (l.flatMap g)<=ai (.sl e) l
 | []=>by simp[ai]
 |x::l=>by
  have h1:=h x;have h2:=jS h l;rw[List.flatMap_cons,gZ,bW];omega
def kF(p:au):ai (.sl ae) (aS p)<=ai aj p:=by
 rw[dj hk];exact jS hk (e:=ax) (f:=ae) (g:=jv) (fun c=>by rw[df hk];exact auA _) p.2.2
def gA(l:List au):ai (.sl ae) (bO l)<=ai (.sl aj) l:=jS hk (e:=aj) (f:=ae) (g:=aS) (kF hk) l
def ga{p:au}{i:Nat}(hs:ai aj p<=1048576)(hi:i<p.2.2.length):ai ax (p.2.2.getD i ax.aa)<=1048576/\ai (.sl ae) (p.2.2.getD i ax.aa).2<=1048576:=by
 rw[dj hk]at hs;have h1:=dq (e:=ax) (d:=ax.aa) hi;have h2:=df hk (p.2.2.getD i ax.aa);omega
def Fs{p:au}{i n:Int}(hs:ai aj p<=1048576):mL k (p,i,n,())=some (gl k p i n,()):=by
 have hl:p.2.2.length<=1048576:=by rw[dj hk]at hs;have:=az (e:=ax) (l:=p.2.2);omega
 simp only[mL,aN]
 refine(dt (fun j:Nat=>(i,n,p,p.2.2,(p.2.2.length:Int),(j:Int),())) (fun j=>dL k (p.2.2.getD j ax.aa)&&(decide (dP (p.2.2.getD j ax.aa).1 n=i)&&yO p.2.2 j)) p.2.2.length
  (e:=some (aZ p.1 (-1) 4&&decide (0<=p.2.1),())) (no:=some (false,())) ?_ ?_ k 0 (by omega)).trans ?_
 intro G j a;obtain⟨g,_⟩:=ga hk hs a;cases j with
 |zero=>
  simp only[aK,aC a,a,Q6,decide_true,if_true,l9,rM hk g,kX hk,at4,cD,beq_self_eq_true,aud,if_false,yO,Bool.true_or,Bool.and_true];rw[aX (by omega)];generalize dL k (p.2.2.getD 0 ax.aa)=b1;generalize dP (p.2.2.getD 0 ax.aa).1 n=f;cases b1<;>by_cases c:f=i<;>simp[c]
 |succ m=>
  have h:m<p.2.2.length:=by omega
  simp only[aK,aC a,aC h,a,Ln,II (show m<4611686018427387904 by omega),decide_true,if_true,l9,rM hk g,kX hk,at4,cD,beq_self_eq_true,yO,aub,auu];rw[aX (by omega)];generalize dL k (p.2.2.getD (m+1) ax.aa)=b1;generalize dP (p.2.2.getD (m+1) ax.aa).1 n=f;generalize (p.2.2.getD m ax.aa).1=u;generalize (p.2.2.getD (m+1) ax.aa).1=v;have o:((m+1:Nat)==0)=false:=rfl;rw[o];cases b1<;>by_cases c:f=i<;>by_cases d:u<v<;>simp[c,d]<;>omega
 intro G j a;simp only[aK];rw[a_ (by simp;omega),fw hk,at4];generalize aZ p.1 (-1) 4=b;cases b<;>simp;unfold gl;cases bA 0 p.2.2.length (fun j=>dL k (p.2.2.getD j ax.aa)&&(decide (dP (p.2.2.getD j ax.aa).1 n=i)&&yO p.2.2 j))<;>simp
theorem kh{l:List au}{i:Nat}(hs:ai (.sl aj) l<=1048576)(hi:i<l.length):ai aj (l.getD i aj.aa)<=1048576:=by
 have h1:=dq (e:=aj) (d:=aj.aa) hi;omega
def Dt{l:List au}(hs:ai (.sl aj) l<=1048576):lD k (l,())=some (dp k l,()):=by
 have hl:=az (e:=aj) (l:=l);simp only[lD];rw[fw hk,at4];unfold dp;cases hin:aZ l.length 1 3 with
 |false=>simp
 |true=>
  rw[a_ (by simp)];refine(dt (fun i:Nat=>(l,l,(l.length:Int),(i:Int),())) (fun i=>gl k (l.getD i aj.aa) i l.length) l.length (e:=some (true,())) (no:=some (false,())) ?_ ?_ k 0 (by omega)).trans ?_;intro G i a;simp only[aK,aC a,a,decide_true,if_true,l9,Fs hk (kh hk hs a),at4];rw[aX (by omega)];cases gl k (l.getD i aj.aa) i l.length<;>simp;intro G i a;simp only[aK];rw[a_ (by simp;omega)];cases bA 0 l.length (fun i=>gl k (l.getD i aj.aa) i l.length)<;>simp
def qI{p:au}(hs:ai aj p<=1048576):iM k (p,())=some (aS p,()):=by
 have hl:p.2.2.length<=1048576:=by rw[dj hk]at hs;have:=az (e:=ax) (l:=p.2.2);omega
 simp only[iM];refine bX (fun i:Nat=>(p,(p.2.2.take i).flatMap jv,(i:Int),())) p.2.2.length (fun G i a=> ?_) (fun G=> ?_) k 0 (by omega) (by omega);obtain⟨h1,h2⟩:=ga hk hs a;have hb:=jS hk (e:=ax) (f:=ae) (g:=jv) (fun c=>by rw[df hk];exact auA _) (p.2.2.take i);have hb2:=cB (e:=ax) p.2.2 i;have hb3:=az (e:=ae) (l:=(p.2.2.take i).flatMap jv);have hb4:=az (e:=ae) (l:=(p.2.2.getD i ax.aa).2);rw[dj hk]at hs;simp only[aK,aC a,a,decide_true,if_true,l9];rw[ff hk (by omega),at4,an (by simp only[b_];omega),aX (by omega),dK ax.aa a];simp[aS]
def px{p:au}(hs:ai aj p<=1048576):ic k (p,())=some (aS p,()):=by
 have hl:p.2.2.length<=1048576:=by rw[dj hk]at hs;have:=az (e:=ax) (l:=p.2.2);omega
 simp only[ic];refine bX (fun i:Nat=>(p,(p.2.2.take i).flatMap jv,p.2.2,(p.2.2.length:Int),(i:Int),())) p.2.2.length (fun G i a=> ?_) (fun G=> ?_) k 0 (by omega) (by omega);obtain⟨h1,h2⟩:=ga hk hs a;have hb:=jS hk (e:=ax) (f:=ae) (g:=jv) (fun c=>by rw[df hk];exact auA _) (p.2.2.take i);have hb2:=cB (e:=ax) p.2.2 i;have hb3:=az (e:=ae) (l:=(p.2.2.take i).flatMap jv);have hb4:=az (e:=ae) (l:=(p.2.2.getD i ax.aa).2);rw[dj hk]at hs;simp only[aK,aC a,a,decide_true,if_true,l9];rw[jK hk (by omega),at4,an (by simp only[b_];omega),aX (by omega),dK ax.aa a];simp[aS]
end
theorem Gu{α:Type}(lt:α->α->Bool)(x:α):∀r:List α,dv lt x r=r.takeWhile (lt x)++x::r.dropWhile (lt x)
 | []=>rfl
 |y::r=>by
  simp only[dv,auk,List.dropWhile_cons];split;rw[Gu lt x r];rfl;rfl
theorem yM{α:Type}(p:α->Bool)(d:α):∀(r:List α) (m:Nat),m<(r.takeWhile p).length->p (r.getD m d)=true
 | [],m,h=>by simp at h
 |y::r,m,h=>by
  rw[auk]at h;split at h;cases m with
  |zero=>simpa
  |succ m=>rw[aut];exact yM p d r m (by simpa using h)
  simp at h
theorem wD{α:Type}(p:α->Bool)(d:α):∀(r:List α),(r.takeWhile p).length<r.length->p (r.getD (r.takeWhile p).length d)=false
 | [],h=>by simp at h
 |y::r,h=>by
  rw[auk]at h|-;split;rename_i a;rw[an a]at h;simp only[aum,aut];exact wD p d r (by simpa using h);simpa using ‹¬p y=true›
def I5{α:Type}(d:α)(l:List α)(m:Nat)(h:m<l.length):l.reverse.getD m d=l.getD (l.length-1-m) d:=by
 rw[at6,List.getElem?_reverse h,<-at6]
def fm{α:Type}(lt:α->α->Bool)(x:α)(out:List α):Nat:=(out.reverse.takeWhile (lt x)).length
def QG{α:Type}(lt:α->α->Bool)(x:α)(r:List α):(dv lt x r).reverse=r.reverse.take (r.reverse.length-fm lt x r.reverse)++[x]++r.reverse.drop (r.reverse.length-fm lt x r.reverse):=by
 have hc:(r.takeWhile (lt x)).length<=r.length:=(auq _).length_le;have a:fm lt x r.reverse=(r.takeWhile (lt x)).length:=by unfold fm;rw[List.reverse_reverse]
 have b:r.reverse.length=r.length:=aue ..;rw[Gu,a,b,List.take_reverse,List.drop_reverse];have c:r.length-(r.length-(r.takeWhile (lt x)).length)=(r.takeWhile (lt x)).length:=by omega
 rw[c]
 have d:r.drop (r.takeWhile (lt x)).length=r.dropWhile (lt x):=by
  conv=>lhs;arg 2;rw[<-aui (p:=lt x) (l:=r)]
  rw[List.drop_left]
 have e:r.take (r.takeWhile (lt x)).length=r.takeWhile (lt x):=by
  conv=>lhs;arg 2;rw[<-aui (p:=lt x) (l:=r)]
  rw[List.take_left]
 rw[d,e];simp
def oS{α:Type}(lt:α->α->Bool)(l:List α):List α:=l.foldl (fun r x=>dv lt x r) []
theorem DD{α:Type}(lt:α->α->Bool)(x:α):∀r:List α,(dv lt x r).length=r.length+1
 | []=>rfl
 |y::r=>by simp only[dv];split<;>simp[DD lt x r]
def Nw{α:Type}(lt:α->α->Bool){l:List α}{i:Nat}(d:α)(h:i<l.length):oS lt (l.take (i+1))=dv lt (l.getD i d) (oS lt (l.take i)):=by
 unfold oS;rw[lv d h,List.foldl_append];rfl
def Gj{α:Type}(lt:α->α->Bool)(l:List α):(oS lt l).length=l.length:=by
 have:∀(l r:List α),(l.foldl (fun r x=>dv lt x r) r).length=l.length+r.length:=by
  intro l
  induction l with
  |nil=>intro r;simp
  |cons x l a=>intro r;rw[auC,a,DD,aum];omega
 simpa[oS]using this l []
theorem BR{e:Ty}(lt:e.den->e.den->Bool)(x:e.den):∀r:List e.den,ai (.sl e) (dv lt x r)=1+ai e x+ai (.sl e) r
 | []=>by simp only[dv];rw[bW]
 |y::r=>by
  simp only[dv];split;rw[bW,bW,BR lt x r];omega;rw[bW,bW]
def OB{e:Ty}(lt:e.den->e.den->Bool)(l:List e.den):ai (.sl e) (oS lt l)=ai (.sl e) l:=by
 have:∀(l r:List e.den),ai (.sl e) (l.foldl (fun r x=>dv lt x r) r)=ai (.sl e) l+ai (.sl e) r:=by
  intro l
  induction l with
  |nil=>intro r;simp[ai]
  |cons x l a=>intro r;rw[auC,a,BR,bW];omega
 have h:=this l [];rw[bd]at h;exact h
def TC{e:Ty}(l:List e.den):ai (.sl e) l.reverse=ai (.sl e) l:=by
 simp only[ai,aue,List.map_reverse,List.sum_reverse]
def M9{e:Ty}(lt:e.den->e.den->Bool)(l:List e.den):ai (.sl e) (eW lt l)=ai (.sl e) l:=by
 show ai (.sl e) (oS lt l).reverse=_;rw[TC,OB]
def rH(l:List af):ai (.sl ae) (dC l)=ai (.sl ae) l:=M9 (e:=ae) cV l
section
variable{k:Nat}(hk:9223372036854775808<=k)
include hk
def GB{l:List af}(hs:ai (.sl ae) l<=1048576):iC k (l,())=some (dC l,()):=by
 have hl:=az (e:=ae) (l:=l);simp only[iC];refine bX (fun i:Nat=>(l,(oS cV (l.take i)).reverse,(i:Int),())) l.length (fun G i f=> ?_) (fun G=> ?_) k 0 (by omega) (by omega);obtain⟨h1,n⟩:=jO hk hs f;simp only[aK,aC f,f,decide_true,if_true,l9];rw[cR hk (by omega),at4,Nw cV ae.aa f,QG];generalize hx:l.getD i ae.aa=x at*
 have hol:(oS cV (l.take i)).reverse.length=i:=by rw[aue,Gj];simp;omega
 generalize hout:(oS cV (l.take i)).reverse=out at*
 have c:fm cV x out<=out.length:=by
  unfold fm;have:=(auq (cV x) (l:=out.reverse)).length_le;simpa using this
 simp only[aN];refine bX (fun m:Nat=>(l,out,(i:Int),x,((out.length-m:Nat):Int),())) (fm cV x out) (fun p m r=> ?_) (fun p=> ?_) k 0 (by omega) (by omega)
 have d:cV x (out.getD (out.length-1-m) ae.aa)=true:=by
  have:=yM (cV x) ae.aa out.reverse m r;rwa [I5 _ _ _ (by omega)]at this
 obtain⟨q,o⟩:∃q,out.length-m=q+1:=⟨out.length-m-1,by omega⟩
 have g:out.length-(m+1)=q:=by omega
 have h:out.length-1-m=q:=by omega
 rw[h]at d;simp only[o,Ln,II (show q<4611686018427387904 by omega),aC (show q<out.length by omega),aub,if_true,beq_self_eq_true,l9,mK hk n,nD hk n,at4,g];rw[an d]
 have a:(if decide (((out.length-fm cV x out:Nat):Int)>0)=true then cV x (out.getD (out.length-fm cV x out-1) ae.aa)else false)=false:=by
  by_cases j:fm cV x out=out.length;rw[j,Nat.sub_self];rfl;rw[an (by simp;omega)];have:=wD (cV x) ae.aa out.reverse (by rw[aue];unfold fm at j c;omega);rw[I5 _ _ _ (by unfold fm at j c;omega)]at this;unfold fm;rw[show out.length-(auE (cV x) out.reverse).length-1=out.length-1-(auE (cV x) out.reverse).length by omega];exact this
 have fin:(if(decide (0<=(((out.length-fm cV x out:Nat):Int))/\(((out.length-fm cV x out:Nat):Int))<=((at9 out:Nat):Int)))=true then
  if(decide (at9 ([]:List af)+at9 (auv (aug ((out.length-fm cV x out:Nat):Int)) out)<4294967296))=true then
   if(decide (at9 (([]:List af)++(auv (aug ((out.length-fm cV x out:Nat):Int)) out))+at9 ([x]:List af)<4294967296))=true then
    if(decide (0<=(((out.length-fm cV x out:Nat):Int))/\(((out.length-fm cV x out:Nat):Int))<=((at9 out:Nat):Int)))=true then
     if(decide (at9 ((([]:List af)++(auv (aug ((out.length-fm cV x out:Nat):Int)) out))++([x]:List af))+at9 (List.drop (aug ((out.length-fm cV x out:Nat):Int)) out)<4294967296))=true then
      G (l,((([]:List af)++(auv (aug ((out.length-fm cV x out:Nat):Int)) out))++([x]:List af))++(List.drop (aug ((out.length-fm cV x out:Nat):Int)) out),IntKind.i64.wrap ((i:Int)+(1:Int)),())
     else none
    else none
   else none
  else none
  else none)=G (l,out.take (out.length-fm cV x out)++[x]++out.drop (out.length-fm cV x out),((i+1:Nat):Int),()):=by
  rw[an (by simp only[b_];omega),an (by simp only[b_,aup,auf];omega),an (by simp only[b_,auw,aup,auf,auh];omega),an (by simp only[b_];omega),an (by simp only[b_,auw,aup,auf,auh,List.length_drop];omega),aX (by omega),l9,List.nil_append]
 by_cases s:out.length-fm cV x out=0;rw[s]at fin|-;simp only[Q6,aud,if_false,beq_self_eq_true,aud,auD,Bool.true_or,if_true,at4];have t:(!((false:Bool)==true)||decide (0<=IntKind.i64.wrap (((0:Nat):Int)-1)/\IntKind.i64.wrap (((0:Nat):Int)-1)<((out.length:Nat):Int)))=true:=rfl;rw[an t];exact fin;obtain⟨q,o⟩:∃q,out.length-fm cV x out=q+1:=⟨out.length-fm cV x out-1,by omega⟩
 rw[o]at a fin|-;rw[Ln,an rfl,auu]at a;simp only[Ln,II (show q<4611686018427387904 by omega),aC (show q<out.length by omega),aub,if_true,beq_self_eq_true,l9,nD hk n,at4];have b:bp x.1 (out.getD q ae.aa).1=false:=a;rw[a_ (by rw[b];simp)];exact fin;simp only[aK,Nat.lt_irrefl,decide_false,aud,if_false,auB];rfl
end
end Vg.Tryz
