/- Texts of this law, joined. -/
import Derived.Test.YteoaddgmjfnhdaaGreatF
import Derived.Test.YteoaddgmjfnhdaaGreatVd
set_option linter.unusedSimpArgs false
set_option linter.unusedVariables false
set_option linter.unusedSectionVars false
open Option renaming bind_some → akt,bind → akO
open Nat renaming le_trans → aku,xor_lt_two_pow → akD
open Int renaming toNat_natCast → akv,toNat → akH
open List renaming getD_eq_getElem?_getD → akw,drop_eq_nil_of_le → akx,length → akB,filter_cons_of_pos → akE,filter_cons_of_neg → akF,getD → akG,length_filter_le → akI,append_assoc → akN,length_take → akP
open Bool renaming eq_iff_iff → aky,and_eq_true → akz,or_true → akA,not_true → akJ,false_eq_true → akL,eq_false_iff → akM,not_false → akQ
open List.cons renaming injEq → akC
open Array renaming toList_append → akK
namespace Vg.Tryz
open Go Vg Go.Proofs
set_option maxRecDepth 1000000
def Me:aK:=fun|3=>some ⟨[(3,.box 4 aw qM),(5,.val (.sl aw) uY),(6,.val ai .leaf)],6⟩|_=>none
def BE (k:Nat):aA:=(335,⟨[.val (.sl aw) .shr,.val aw mj],[.val (.sl aw) .own],oB k,[]⟩)::(BZ k)
theorem OS (k:Nat):ae Tryz.prog (BE k):=ae.ev aC mixed (QB k) Me nA k Tryz.func335 (by kernel_rfl) (fun x=>by kernel_rfl)
def Dl (k:Nat):aA:=(357,⟨[.io az dP,.val ai .leaf],[],mK k,[(0,(cQ 14 12))]⟩)::(BE k)
theorem Tc (k:Nat):ae Tryz.prog (Dl k):=ae.ev aC mixed (OS k) nA nA k Tryz.func357 (by kernel_rfl) (fun x=>by kernel_rfl)
def BH (k:Nat):aA:=(292,⟨[.io az dP],[],oP k,[]⟩)::(Dl k)
theorem OE (k:Nat):ae Tryz.prog (BH k):=ae.ev aC mixed (Tc k) nA nA k Tryz.func292 (by kernel_rfl) (fun x=>by kernel_rfl)
def Et:aK:=fun|11=>some ⟨[(0,.box 4 az zt),(3,.val .bool .leaf)],14⟩|_=>none
def uG (k:Nat):aA:=(195,⟨[.io az dP],[.val .bool .leaf],ko k,[]⟩)::(BH k)
theorem EZ (k:Nat):ae Tryz.prog (uG k):=ae.ev aC mixed (OE k) nA Et k Tryz.func195 (by kernel_rfl) (fun x=>by kernel_rfl)
def Ib (k:Nat):aA:=(146,⟨[.val az gU],[.val .bool .leaf],zq k,[]⟩)::(uG k)
theorem WV (k:Nat):ae Tryz.prog (Ib k):=ae.ev aC mixed (EZ k) nA nA k Tryz.func146 (by kernel_rfl) (fun x=>by kernel_rfl)
def Jt:aK:=fun|8=>some ⟨[(0,.val (.sl aw) aM),(3,.box 4 aw qM),(5,.val ai .leaf),(6,.val (.sl aw) uY),(7,.val ai .leaf)],6⟩|_=>none
def Iq:aK:=fun|7=>some ⟨[(0,.val (.sl aw) aM),(3,.box 4 aw qM),(5,.val ai .leaf),(6,.val (.sl aw) uY)],6⟩|12=>some ⟨[(0,.val (.sl aw) aM),(3,.box 4 aw qM),(5,.val ai .leaf),(6,.val (.sl aw) uY),(7,.val ai .leaf),(8,.val ai .leaf)],6⟩|17=>some ⟨[(0,.val (.sl aw) aM),(3,.box 4 aw qM),(6,.val (.sl aw) uY)],6⟩|_=>none
def xC (k:Nat):aA:=(293,⟨[.val (.sl aw) .shr],[.val (.sl aw) .own,.val aw mj,.val .bool .leaf],nJ k,[]⟩)::(Ib k)
theorem Mq (k:Nat):ae Tryz.prog (xC k):=ae.ev aC mixed (WV k) Jt Iq k Tryz.func293 (by kernel_rfl) (fun x=>by kernel_rfl)
def Sj:aK:=fun|5=>some ⟨[(1,.val ai .leaf),(2,.box 4 ah FN),(4,.box 5 ah OC),(5,.box 6 aX (.pair .leaf adS)),(6,.box 7 ah O2),(7,.val ai .leaf)],10⟩|_=>none
def TC:aK:=fun|10=>some ⟨[(1,.val ai .leaf),(2,.box 4 ah FN),(4,.box 5 ah OC),(5,.box 6 aX (.pair .leaf adS)),(6,.box 7 ah O2)],10⟩|_=>none
def F9 (k:Nat):aA:=(391,⟨[.val ah pN,.val ai .leaf],[.val ah JD,.val aX Uj],rC k,[]⟩)::(xC k)
theorem VH (k:Nat):ae Tryz.prog (F9 k):=ae.ev aC mixed (Mq k) Sj TC k Tryz.func391 (by kernel_rfl) (fun x=>by kernel_rfl)
def Bt (k:Nat):aA:=(358,⟨[.val (.sl ah) .shr,.val ai .leaf,.val ai .leaf],[.val (.sl ah) .own,.val aX Uj,.val .bool .leaf],pB k,[]⟩)::(F9 k)
theorem PI (k:Nat):ae Tryz.prog (Bt k):=ae.mF aC mixed (VH k) (show qt Tryz.prog []from trivial) nA nA k Tryz.func358 (by kernel_rfl) (fun x=>by kernel_rfl)
def yX (k:Nat):aA:=(294,⟨[.io az dP],[],nw k,[]⟩)::(Bt k)
theorem K1 (k:Nat):ae Tryz.prog (yX k):=ae.ev aC mixed (PI k) nA nA k Tryz.func294 (by kernel_rfl) (fun x=>by kernel_rfl)
def C4:aK:=fun|11=>some ⟨[(0,.box 4 az zt),(3,.val .bool .leaf)],14⟩|_=>none
def sX (k:Nat):aA:=(196,⟨[.io az dP],[.val .bool .leaf],jE k,[]⟩)::(yX k)
theorem Ey (k:Nat):ae Tryz.prog (sX k):=ae.ev aC mixed (K1 k) nA C4 k Tryz.func196 (by kernel_rfl) (fun x=>by kernel_rfl)
def TJ:aK:=fun|9=>some ⟨[(0,.box 4 az abz),(1,.val ai .leaf)],14⟩|_=>none
def FW (k:Nat):aA:=(96,⟨[.io az dP,.val ai .leaf],[.val .bool .leaf],sG k,[]⟩)::(sX k)
theorem Vj (k:Nat):ae Tryz.prog (FW k):=ae.ev aC mixed (Ey k) nA TJ k Tryz.func96 (by kernel_rfl) (fun x=>by kernel_rfl)
def HP (k:Nat):aA:=(34,⟨[.val az gU,.val ai .leaf],[.val az dP,.val .bool .leaf],tT k,[]⟩)::(FW k)
theorem Wk (k:Nat):ae Tryz.prog (HP k):=ae.mF aC mixed (Vj k) (show qt Tryz.prog []from trivial) nA nA k Tryz.func34 (by kernel_rfl) (fun x=>by kernel_rfl)
def H5 (k:Nat):aA:=(7,⟨[.val az gU,.val ai .leaf],[.val .bool .leaf],tS k,[]⟩)::(HP k)
theorem Wy (k:Nat):ae Tryz.prog (H5 k):=ae.ev aC mixed (Wk k) nA nA k Tryz.func7 (by kernel_rfl) (fun x=>by kernel_rfl)
def xB (k:Nat):aA:=(148,⟨[.val bQ qN],[.val bQ Y9],nG k,[]⟩)::(H5 k)
theorem Lj (k:Nat):ae Tryz.prog (xB k):=ae.ev aC mixed (Wy k) nA nA k Tryz.func148 (by kernel_rfl) (fun x=>by kernel_rfl)
def AI (k:Nat):aA:=(249,⟨[.val (.sl aq) .shr],[.val (.sl aq) .own],eT k,[]⟩)::(xB k)
theorem Pe (k:Nat):ae Tryz.prog (AI k):=ae.ev aC mixed (Lj k) nA nA k Tryz.func249 (by kernel_rfl) (fun x=>by kernel_rfl)
def wI (k:Nat):aA:=(247,⟨[.val ab q3],[.val ab Fs],bh k,[]⟩)::(AI k)
theorem Iy (k:Nat):ae Tryz.prog (wI k):=ae.ev aC mixed (Pe k) nA nA k Tryz.func247 (by kernel_rfl) (fun x=>by kernel_rfl)
def Fk:aK:=fun|3=>some ⟨[(3,.val (.sl ab) hJ),(6,.val (.sl ab) aM),(7,.val ai .leaf),(8,.val ai .leaf)],5⟩|_=>none
def vq (k:Nat):aA:=(151,⟨[.val (.sl ab) .shr],[.val (.sl ab) .own],bB k,[]⟩)::(wI k)
theorem Gx (k:Nat):ae Tryz.prog (vq k):=ae.ev aC mixed (Iy k) Fk nA k Tryz.func151 (by kernel_rfl) (fun x=>by kernel_rfl)
def wZ (k:Nat):aA:=(337,⟨[.val ax qY],[.val ax Gc],ju k,[]⟩)::(vq k)
theorem IW (k:Nat):ae Tryz.prog (wZ k):=ae.ev aC mixed (Gx k) nA nA k Tryz.func337 (by kernel_rfl) (fun x=>by kernel_rfl)
def Ju:aK:=fun|3=>some ⟨[(1,.box 4 aj rq),(2,.box 5 aj Df),(3,.box 6 aj Ul),(12,.val (.sl ax) aM),(13,.val ai .leaf),(14,.val ai .leaf)],8⟩|_=>none
def yG (k:Nat):aA:=(245,⟨[.val aj ng],[.val aj Ud],ig k,[]⟩)::(wZ k)
theorem LW (k:Nat):ae Tryz.prog (yG k):=ae.ev aC mixed (IW k) Ju nA k Tryz.func245 (by kernel_rfl) (fun x=>by kernel_rfl)
def Hj:aK:=fun|3=>some ⟨[(3,.val (.sl aj) hJ),(6,.val (.sl aj) aM),(7,.val ai .leaf),(8,.val ai .leaf)],5⟩|_=>none
def wG (k:Nat):aA:=(149,⟨[.val (.sl aj) .shr],[.val (.sl aj) .own],lV k,[]⟩)::(yG k)
theorem Io (k:Nat):ae Tryz.prog (wG k):=ae.ev aC mixed (LW k) Hj nA k Tryz.func149 (by kernel_rfl) (fun x=>by kernel_rfl)
def BW (k:Nat):aA:=(246,⟨[.val aW zn],[.val aW T9],jb k,[]⟩)::(wG k)
theorem Qc (k:Nat):ae Tryz.prog (BW k):=ae.ev aC mixed (Io k) nA nA k Tryz.func246 (by kernel_rfl) (fun x=>by kernel_rfl)
def JJ:aK:=fun|3=>some ⟨[(3,.val (.sl aW) hJ),(6,.val (.sl aW) aM),(7,.val ai .leaf),(8,.val ai .leaf)],5⟩|_=>none
def yt (k:Nat):aA:=(150,⟨[.val (.sl aW) .shr],[.val (.sl aW) .own],sn k,[]⟩)::(BW k)
theorem KX (k:Nat):ae Tryz.prog (yt k):=ae.ev aC mixed (Qc k) JJ nA k Tryz.func150 (by kernel_rfl) (fun x=>by kernel_rfl)
def xb (k:Nat):aA:=(248,⟨[.val ah pN],[.val ah JD],fj k,[]⟩)::(yt k)
theorem Im (k:Nat):ae Tryz.prog (xb k):=ae.ev aC mixed (KX k) nA nA k Tryz.func248 (by kernel_rfl) (fun x=>by kernel_rfl)
def FJ:aK:=fun|3=>some ⟨[(3,.val (.sl ah) hJ),(6,.val (.sl ah) aM),(7,.val ai .leaf),(8,.val ai .leaf)],5⟩|_=>none
def vk (k:Nat):aA:=(152,⟨[.val (.sl ah) .shr],[.val (.sl ah) .own],iI k,[]⟩)::(xb k)
theorem GC (k:Nat):ae Tryz.prog (vk k):=ae.ev aC mixed (Im k) FJ nA k Tryz.func152 (by kernel_rfl) (fun x=>by kernel_rfl)
def vw (k:Nat):aA:=(153,⟨[.val (.sl aw) .shr],[.val (.sl aw) .own],fR k,[]⟩)::(vk k)
theorem GK (k:Nat):ae Tryz.prog (vw k):=ae.ev aC mixed (GC k) nA nA k Tryz.func153 (by kernel_rfl) (fun x=>by kernel_rfl)
def vV (k:Nat):aA:=(154,⟨[.val aX q6],[.val aX Uj],lQ k,[]⟩)::(vw k)
theorem Jd (k:Nat):ae Tryz.prog (vV k):=ae.ev aC mixed (GK k) nA nA k Tryz.func154 (by kernel_rfl) (fun x=>by kernel_rfl)
def y4 (k:Nat):aA:=(155,⟨[.val al jv],[.val al abK],nE k,[]⟩)::(vV k)
theorem Nd (k:Nat):ae Tryz.prog (y4 k):=ae.ev aC mixed (Jd k) nA nA k Tryz.func155 (by kernel_rfl) (fun x=>by kernel_rfl)
def yj (k:Nat):aA:=(156,⟨[.val aI uV],[.val aI abv],nu k,[]⟩)::(y4 k)
theorem NW (k:Nat):ae Tryz.prog (yj k):=ae.ev aC mixed (Nd k) nA nA k Tryz.func156 (by kernel_rfl) (fun x=>by kernel_rfl)
def GL:aK:=fun|6=>some ⟨[(1,.box 4 az Qx),(2,.box 12 az zr),(3,.val (.sl aX) EJ),(41,.val (.sl aX) aM),(42,.val ai .leaf),(43,.val ai .leaf)],14⟩|12=>some ⟨[(1,.box 4 az Qx),(2,.box 12 az zr),(3,.val (.sl aX) EJ),(6,.val (.sl al) VF),(54,.val (.sl al) aM),(55,.val ai .leaf),(56,.val ai .leaf)],15⟩|18=>some ⟨[(1,.box 4 az Qx),(2,.box 12 az zr),(3,.val (.sl aX) EJ),(6,.val (.sl al) VF),(9,.val (.sl aI) abt),(67,.val (.sl aI) aM),(68,.val ai .leaf),(69,.val ai .leaf)],16⟩|_=>none
def He:aK:=fun|10=>some ⟨[(1,.box 4 az Qx),(2,.box 12 az zr),(3,.val (.sl aX) EJ)],14⟩|16=>some ⟨[(1,.box 4 az Qx),(2,.box 12 az zr),(3,.val (.sl aX) EJ),(6,.val (.sl al) VF)],15⟩|22=>some ⟨[(1,.box 4 az Qx),(2,.box 12 az zr),(3,.val (.sl aX) EJ),(6,.val (.sl al) VF),(9,.val (.sl aI) abt)],16⟩|_=>none
def xi (k:Nat):aA:=(71,⟨[.val az gU],[.val az abQ],fv k,[]⟩)::(yj k)
theorem II (k:Nat):ae Tryz.prog (xi k):=ae.ev aC mixed (NW k) GL He k Tryz.func71 (by kernel_rfl) (fun x=>by kernel_rfl)
def Rf (k:Nat):aA:=(58,⟨[.val ai .leaf,.val ai .leaf,.val ai .leaf],[.val .bool .leaf],bN k,[]⟩)::(xi k)
theorem aaE (k:Nat):ae Tryz.prog (Rf k):=ae.ev aC mixed (II k) nA nA k Tryz.func58 (by kernel_rfl) (fun x=>by kernel_rfl)
def Qz:aK:=fun|4=>some ⟨[(0,.val .str .leaf),(3,.val ai .leaf)],4⟩|_=>none
def En (k:Nat):aA:=(210,⟨[.val .str .leaf],[.val .bool .leaf],mN k,[]⟩)::(Rf k)
theorem SC (k:Nat):ae Tryz.prog (En k):=ae.ev aC mixed (aaE k) Qz nA k Tryz.func210 (by kernel_rfl) (fun x=>by kernel_rfl)
def NP:aK:=fun|2=>some ⟨[(0,.val (.sl .str) aM),(3,.val ai .leaf)],4⟩|_=>none
def BR (k:Nat):aA:=(211,⟨[.val (.sl .str) .shr],[.val .bool .leaf],pj k,[]⟩)::(En k)
theorem P6 (k:Nat):ae Tryz.prog (BR k):=ae.ev aC mixed (SC k) NP nA k Tryz.func211 (by kernel_rfl) (fun x=>by kernel_rfl)
def VD:aK:=fun|2=>some ⟨[(0,.val (.sl .str) aM),(5,.val (.sl .str) aM),(6,.val ai .leaf),(7,.val ai .leaf)],4⟩|_=>none
def V0:aK:=fun|7=>some ⟨[(0,.val (.sl .str) aM)],4⟩|_=>none
def HU (k:Nat):aA:=(117,⟨[.val (.sl .str) .shr],[.val .bool .leaf],tY k,[]⟩)::(BR k)
theorem WZ (k:Nat):ae Tryz.prog (HU k):=ae.ev aC mixed (P6 k) VD V0 k Tryz.func117 (by kernel_rfl) (fun x=>by kernel_rfl)
def El (k:Nat):aA:=(57,⟨[.val bQ qN],[.val .bool .leaf],qz k,[]⟩)::(HU k)
theorem SZ (k:Nat):ae Tryz.prog (El k):=ae.ev aC mixed (WZ k) nA nA k Tryz.func57 (by kernel_rfl) (fun x=>by kernel_rfl)
def KQ:aK:=fun|4=>some ⟨[(0,.val .str .leaf),(3,.val ai .leaf)],4⟩|_=>none
def BT (k:Nat):aA:=(216,⟨[.val .str .leaf],[.val .bool .leaf],ly k,[]⟩)::(El k)
theorem PC (k:Nat):ae Tryz.prog (BT k):=ae.ev aC mixed (SZ k) KQ nA k Tryz.func216 (by kernel_rfl) (fun x=>by kernel_rfl)
def zP (k:Nat):aA:=(319,⟨[.val aq mj],[.val .bool .leaf],pq k,[]⟩)::(BT k)
theorem QL (k:Nat):ae Tryz.prog (zP k):=ae.ev aC mixed (PC k) nA nA k Tryz.func319 (by kernel_rfl) (fun x=>by kernel_rfl)
def SG:aK:=fun|2=>some ⟨[(0,.val (.sl aq) aM),(5,.val (.sl aq) aM),(6,.val ai .leaf),(7,.val ai .leaf)],4⟩|_=>none
def EE (k:Nat):aA:=(215,⟨[.val (.sl aq) .shr],[.val .bool .leaf],jq k,[]⟩)::(zP k)
theorem UQ (k:Nat):ae Tryz.prog (EE k):=ae.ev aC mixed (QL k) SG nA k Tryz.func215 (by kernel_rfl) (fun x=>by kernel_rfl)
def zK (k:Nat):aA:=(123,⟨[.val ab q3],[.val .bool .leaf],eS k,[]⟩)::(EE k)
theorem Oy (k:Nat):ae Tryz.prog (zK k):=ae.ev aC mixed (UQ k) nA nA k Tryz.func123 (by kernel_rfl) (fun x=>by kernel_rfl)
def L3:aK:=fun|5=>some ⟨[(3,.val (.sl .str) Zm),(9,.val (.sl aq) aM),(10,.val ai .leaf),(11,.val ai .leaf)],5⟩|_=>none
def LL:aK:=fun|9=>some ⟨[(3,.val (.sl .str) Zm)],5⟩|_=>none
def Bh (k:Nat):aA:=(325,⟨[.val (.sl aq) .shr],[.val .str .leaf],pk k,[]⟩)::(zK k)
theorem Q9 (k:Nat):ae Tryz.prog (Bh k):=ae.ev aC mixed (Oy k) L3 LL k Tryz.func325 (by kernel_rfl) (fun x=>by kernel_rfl)
def Wh:aK:=fun|3=>some ⟨[(0,.val .str .leaf),(3,.val (.int .u32) .leaf),(4,.val ai .leaf)],4⟩|_=>none
def WX:aK:=fun|6=>some ⟨[(3,.val (.int .u32) .leaf)],4⟩|_=>none
def KB (k:Nat):aA:=(324,⟨[.val .str .leaf],[.val ai .leaf],sW k,[]⟩)::(Bh k)
theorem X0 (k:Nat):ae Tryz.prog (KB k):=ae.ev aC mixed (Q9 k) Wh WX k Tryz.func324 (by kernel_rfl) (fun x=>by kernel_rfl)
def Ed (k:Nat):aA:=(227,⟨[.val (.sl aq) .shr],[.val ai .leaf],eP k,[]⟩)::(KB k)
theorem Sm (k:Nat):ae Tryz.prog (Ed k):=ae.ev aC mixed (X0 k) nA nA k Tryz.func227 (by kernel_rfl) (fun x=>by kernel_rfl)
def L1:aK:=fun|4=>some ⟨[(0,.val (.sl aq) aM),(1,.val (.sl aq) aM),(12,.val ai .leaf),(13,.val ai .leaf)],4⟩|_=>none
def Bm (k:Nat):aA:=(85,⟨[.val (.sl aq) .shr,.val (.sl aq) .shr],[.val .bool .leaf],da k,[]⟩)::(Ed k)
theorem Og (k:Nat):ae Tryz.prog (Bm k):=ae.ev aC mixed (Sm k) L1 nA k Tryz.func85 (by kernel_rfl) (fun x=>by kernel_rfl)
def JX:aK:=fun|2=>some ⟨[(1,.val (.sl aq) aM),(7,.val (.sl ab) aM),(8,.val ai .leaf),(9,.val ai .leaf)],4⟩|_=>none
def zh (k:Nat):aA:=(397,⟨[.val (.sl ab) .shr,.val (.sl aq) .shr],[.val ai .leaf],dO k,[]⟩)::(Bm k)
theorem LG (k:Nat):ae Tryz.prog (zh k):=ae.ev aC mixed (Og k) JX nA k Tryz.func397 (by kernel_rfl) (fun x=>by kernel_rfl)
def EA:aK:=fun|2=>some ⟨[(0,.val (.sl ab) aM),(5,.val (.sl ab) aM),(6,.val ai .leaf),(7,.val ai .leaf)],4⟩|_=>none
def uL (k:Nat):aA:=(371,⟨[.val (.sl ab) .shr],[.val .bool .leaf],j7 k,[]⟩)::(zh k)
theorem EI (k:Nat):ae Tryz.prog (uL k):=ae.ev aC mixed (LG k) EA nA k Tryz.func371 (by kernel_rfl) (fun x=>by kernel_rfl)
def NZ:aK:=fun|2=>some ⟨[(1,.box 4 ax zw),(6,.val (.sl ab) aM),(7,.val ai .leaf),(8,.val ai .leaf)],5⟩|_=>none
def MS:aK:=fun|7=>some ⟨[(1,.box 4 ax zw)],5⟩|_=>none
def Al (k:Nat):aA:=(315,⟨[.val ax qY],[.val .bool .leaf],oV k,[]⟩)::(uL k)
theorem PJ (k:Nat):ae Tryz.prog (Al k):=ae.ev aC mixed (EI k) NZ MS k Tryz.func315 (by kernel_rfl) (fun x=>by kernel_rfl)
def D6 (k:Nat):aA:=(226,⟨[.val ai .leaf,.val ai .leaf],[.val ai .leaf],iy k,[]⟩)::(Al k)
theorem Sn (k:Nat):ae Tryz.prog (D6 k):=ae.ev aC mixed (PJ k) nA nA k Tryz.func226 (by kernel_rfl) (fun x=>by kernel_rfl)
def Qp:aK:=fun|2=>some ⟨[(1,.val ai .leaf),(2,.val ai .leaf),(3,.box 4 aj rq),(10,.val (.sl ax) aM),(11,.val ai .leaf),(12,.val ai .leaf)],5⟩|_=>none
def OD:aK:=fun|7=>some ⟨[(3,.box 4 aj rq)],5⟩|_=>none
def DO (k:Nat):aA:=(212,⟨[.val aj ng,.val ai .leaf,.val ai .leaf],[.val .bool .leaf],qA k,[]⟩)::(D6 k)
theorem TA (k:Nat):ae Tryz.prog (DO k):=ae.ev aC mixed (Sn k) Qp OD k Tryz.func212 (by kernel_rfl) (fun x=>by kernel_rfl)
def MT:aK:=fun|4=>some ⟨[(0,.val (.sl aj) aM),(9,.val (.sl aj) aM),(10,.val ai .leaf),(11,.val ai .leaf)],4⟩|_=>none
def zL (k:Nat):aA:=(118,⟨[.val (.sl aj) .shr],[.val .bool .leaf],oQ k,[]⟩)::(DO k)
theorem Pr (k:Nat):ae Tryz.prog (zL k):=ae.ev aC mixed (TA k) MT nA k Tryz.func118 (by kernel_rfl) (fun x=>by kernel_rfl)
def KL:aK:=fun|3=>some ⟨[(3,.val ai .leaf),(8,.val (.sl aj) aM),(9,.val ai .leaf),(10,.val ai .leaf)],4⟩|6=>some ⟨[(3,.val ai .leaf),(5,.box 4 aj Y0),(8,.val (.sl aj) aM),(9,.val ai .leaf),(10,.val ai .leaf),(15,.val (.sl ax) I5),(16,.val ai .leaf),(17,.val ai .leaf)],5⟩|_=>none
def BY (k:Nat):aA:=(119,⟨[.val (.sl aj) .shr],[.val ai .leaf],lx k,[]⟩)::(zL k)
theorem Qv (k:Nat):ae Tryz.prog (BY k):=ae.ev aC mixed (Pr k) KL nA k Tryz.func119 (by kernel_rfl) (fun x=>by kernel_rfl)
def Kh:aK:=fun|3=>some ⟨[(1,.box 4 aj rq),(3,.val (.sl ab) UI),(7,.val (.sl ax) aM),(8,.val ai .leaf),(9,.val ai .leaf)],6⟩|_=>none
def yu (k:Nat):aA:=(213,⟨[.val aj ng],[.val (.sl ab) .own],ij k,[]⟩)::(BY k)
theorem LX (k:Nat):ae Tryz.prog (yu k):=ae.ev aC mixed (Qv k) Kh nA k Tryz.func213 (by kernel_rfl) (fun x=>by kernel_rfl)
def GX:aK:=fun|3=>some ⟨[(3,.val (.sl ab) hJ),(6,.val (.sl aj) aM),(7,.val ai .leaf),(8,.val ai .leaf)],5⟩|_=>none
def Hc:aK:=fun|7=>some ⟨[(3,.val (.sl ab) hJ)],5⟩|_=>none
def wy (k:Nat):aA:=(120,⟨[.val (.sl aj) .shr],[.val (.sl ab) .own],mb k,[]⟩)::(yu k)
theorem JT (k:Nat):ae Tryz.prog (wy k):=ae.ev aC mixed (LX k) GX Hc k Tryz.func120 (by kernel_rfl) (fun x=>by kernel_rfl)
def HH (k:Nat):aA:=(121,⟨[.val bQ qN,.val ab q3],[.val .bool .leaf],pW k,[]⟩)::(wy k)
theorem WE (k:Nat):ae Tryz.prog (HH k):=ae.ev aC mixed (JT k) nA nA k Tryz.func121 (by kernel_rfl) (fun x=>by kernel_rfl)
def Fw:aK:=fun|4=>some ⟨[(1,.box 4 az cX),(29,.val (.sl ab) UI),(30,.val ai .leaf),(31,.val ai .leaf)],6⟩|_=>none
def vl (k:Nat):aA:=(59,⟨[.val az gU],[.val .bool .leaf],kG k,[]⟩)::(HH k)
theorem Hd (k:Nat):ae Tryz.prog (vl k):=ae.ev aC mixed (WE k) Fw nA k Tryz.func59 (by kernel_rfl) (fun x=>by kernel_rfl)
def Jq:aK:=fun|2=>some ⟨[(5,.val (.sl ab) aM),(6,.val ai .leaf),(7,.val ai .leaf)],4⟩|_=>none
def xS (k:Nat):aA:=(61,⟨[.val (.sl ab) .shr],[.val .bool .leaf],fP k,[]⟩)::(vl k)
theorem MK (k:Nat):ae Tryz.prog (xS k):=ae.ev aC mixed (Hd k) Jq nA k Tryz.func61 (by kernel_rfl) (fun x=>by kernel_rfl)
def Ga (k:Nat):aA:=(122,⟨[.val aW zn],[.val .bool .leaf],sO k,[]⟩)::(xS k)
theorem UL (k:Nat):ae Tryz.prog (Ga k):=ae.ev aC mixed (MK k) nA nA k Tryz.func122 (by kernel_rfl) (fun x=>by kernel_rfl)
def GF:aK:=fun|2=>some ⟨[(0,.val (.sl aW) aM),(3,.box 4 bQ QU),(7,.val (.sl aW) aM),(8,.val ai .leaf),(9,.val ai .leaf)],5⟩|_=>none
def GR:aK:=fun|7=>some ⟨[(0,.val (.sl aW) aM),(3,.box 4 bQ QU)],5⟩|_=>none
def vZ (k:Nat):aA:=(60,⟨[.val (.sl aW) .shr,.val bQ qN],[.val .bool .leaf],lX k,[]⟩)::(Ga k)
theorem IV (k:Nat):ae Tryz.prog (vZ k):=ae.ev aC mixed (UL k) GF GR k Tryz.func60 (by kernel_rfl) (fun x=>by kernel_rfl)
def xQ (k:Nat):aA:=(217,⟨[.val ai .leaf,.val ai .leaf],[.val .bool .leaf],nk k,[]⟩)::(vZ k)
theorem L7 (k:Nat):ae Tryz.prog (xQ k):=ae.ev aC mixed (IV k) nA nA k Tryz.func217 (by kernel_rfl) (fun x=>by kernel_rfl)
def D9 (k:Nat):aA:=(124,⟨[.val aI uV],[.val .bool .leaf],mq k,[]⟩)::(xQ k)
theorem Td (k:Nat):ae Tryz.prog (D9 k):=ae.ev aC mixed (L7 k) nA nA k Tryz.func124 (by kernel_rfl) (fun x=>by kernel_rfl)
def wc (k:Nat):aA:=(84,⟨[.val ab q3,.val ab q3],[.val .bool .leaf],dm k,[]⟩)::(D9 k)
theorem Ja (k:Nat):ae Tryz.prog (wc k):=ae.ev aC mixed (Td k) nA nA k Tryz.func84 (by kernel_rfl) (fun x=>by kernel_rfl)
def IZ:aK:=fun|4=>some ⟨[(0,.val (.sl ai) aM),(1,.val (.sl ai) aM),(12,.val ai .leaf),(13,.val ai .leaf)],4⟩|_=>none
def yW (k:Nat):aA:=(320,⟨[.val (.sl ai) .shr,.val (.sl ai) .shr],[.val .bool .leaf],jU k,[]⟩)::(wc k)
theorem K9 (k:Nat):ae Tryz.prog (yW k):=ae.ev aC mixed (Ja k) IZ nA k Tryz.func320 (by kernel_rfl) (fun x=>by kernel_rfl)
def Fl:aK:=fun|4=>some ⟨[(0,.val (.sl ab) aM),(1,.val (.sl ab) aM),(12,.val ai .leaf),(13,.val ai .leaf)],4⟩|_=>none
def vr (k:Nat):aA:=(86,⟨[.val (.sl ab) .shr,.val (.sl ab) .shr],[.val .bool .leaf],iF k,[]⟩)::(yW k)
theorem GA (k:Nat):ae Tryz.prog (vr k):=ae.ev aC mixed (K9 k) Fl nA k Tryz.func86 (by kernel_rfl) (fun x=>by kernel_rfl)
def y8 (k:Nat):aA:=(218,⟨[.val al jv,.val al jv],[.val .bool .leaf],jY k,[]⟩)::(vr k)
theorem Lv (k:Nat):ae Tryz.prog (y8 k):=ae.ev aC mixed (GA k) nA nA k Tryz.func218 (by kernel_rfl) (fun x=>by kernel_rfl)
def OL:aK:=fun|2=>some ⟨[(1,.box 4 al xj),(6,.val (.sl ai) aM),(7,.val ai .leaf),(8,.val ai .leaf)],5⟩|_=>none
def Qn:aK:=fun|7=>some ⟨[(1,.box 4 al xj)],5⟩|_=>none
def Du (k:Nat):aA:=(219,⟨[.val al jv],[.val .bool .leaf],qu k,[]⟩)::(y8 k)
theorem SL (k:Nat):ae Tryz.prog (Du k):=ae.ev aC mixed (Lv k) OL Qn k Tryz.func219 (by kernel_rfl) (fun x=>by kernel_rfl)
def QJ:aK:=fun|25=>some ⟨[(2,.box 4 al xj),(5,.box 5 al xj),(6,.val .bool .leaf),(7,.val ai .leaf)],6⟩|_=>none
def DT (k:Nat):aA:=(125,⟨[.val al jv,.val ai .leaf],[.val .bool .leaf],qD k,[]⟩)::(Du k)
theorem TG (k:Nat):ae Tryz.prog (DT k):=ae.ev aC mixed (SL k) nA QJ k Tryz.func125 (by kernel_rfl) (fun x=>by kernel_rfl)
def D0 (k:Nat):aA:=(322,⟨[.val (.sl aj) .shr,.val (.sl aq) .shr],[.val ai .leaf],mA k,[]⟩)::(DT k)
theorem Tj (k:Nat):ae Tryz.prog (D0 k):=ae.ev aC mixed (TG k) nA nA k Tryz.func322 (by kernel_rfl) (fun x=>by kernel_rfl)
def NG:aK:=fun|2=>some ⟨[(1,.val ai .leaf),(2,.box 4 aj rq),(8,.val (.sl ax) aM),(9,.val ai .leaf),(10,.val ai .leaf)],5⟩|_=>none
def BP (k:Nat):aA:=(376,⟨[.val aj ng,.val ai .leaf],[.val ai .leaf],gF k,[]⟩)::(D0 k)
theorem Ou (k:Nat):ae Tryz.prog (BP k):=ae.ev aC mixed (Tj k) NG nA k Tryz.func376 (by kernel_rfl) (fun x=>by kernel_rfl)
def BN (k:Nat):aA:=(377,⟨[.val ax qY,.val (.sl aq) .shr],[.val ai .leaf],gz k,[]⟩)::(BP k)
theorem Qq (k:Nat):ae Tryz.prog (BN k):=ae.ev aC mixed (Ou k) nA nA k Tryz.func377 (by kernel_rfl) (fun x=>by kernel_rfl)
def DH (k:Nat):aA:=(321,⟨[.val aj ng,.val (.sl aq) .shr],[.val ab Fs,.val .bool .leaf],qm k,[]⟩)::(BN k)
theorem St (k:Nat):ae Tryz.prog (DH k):=ae.ev aC mixed (Qq k) nA nA k Tryz.func321 (by kernel_rfl) (fun x=>by kernel_rfl)
def wC (k:Nat):aA:=(220,⟨[.val (.sl aj) .shr,.val (.sl aq) .shr],[.val ab Fs,.val .bool .leaf],fl k,[]⟩)::(DH k)
theorem Jf (k:Nat):ae Tryz.prog (wC k):=ae.ev aC mixed (St k) nA nA k Tryz.func220 (by kernel_rfl) (fun x=>by kernel_rfl)
def Gy:aK:=fun|6=>some ⟨[(2,.box 4 az cX),(3,.box 5 al xj),(5,.val .bool .leaf),(6,.val (.sl ab) IJ),(35,.val (.sl ai) aM),(36,.val ai .leaf),(37,.val ai .leaf)],7⟩|_=>none
def GB:aK:=fun|13=>some ⟨[(2,.box 4 az cX),(3,.box 5 al xj),(5,.val .bool .leaf),(6,.val (.sl ab) IJ)],7⟩|_=>none
def wz (k:Nat):aA:=(221,⟨[.val az gU,.val al jv],[.val .bool .leaf],l0 k,[]⟩)::(wC k)
theorem Ki (k:Nat):ae Tryz.prog (wz k):=ae.ev aC mixed (Jf k) Gy GB k Tryz.func221 (by kernel_rfl) (fun x=>by kernel_rfl)
def xA (k:Nat):aA:=(126,⟨[.val az gU,.val al jv,.val aI uV],[.val .bool .leaf],nI k,[]⟩)::(wz k)
theorem Ly (k:Nat):ae Tryz.prog (xA k):=ae.ev aC mixed (Ki k) nA nA k Tryz.func126 (by kernel_rfl) (fun x=>by kernel_rfl)
def EW:aK:=fun|2=>some ⟨[(1,.box 4 az cX),(9,.val (.sl aI) aM),(10,.val ai .leaf),(11,.val ai .leaf)],5⟩|8=>some ⟨[(1,.box 4 az cX),(41,.val (.sl al) aM),(42,.val ai .leaf),(43,.val ai .leaf)],5⟩|_=>none
def FY:aK:=fun|7=>some ⟨[(1,.box 4 az cX)],5⟩|_=>none
def vo (k:Nat):aA:=(62,⟨[.val az gU],[.val .bool .leaf],kF k,[]⟩)::(xA k)
theorem GO (k:Nat):ae Tryz.prog (vo k):=ae.ev aC mixed (Ly k) EW FY k Tryz.func62 (by kernel_rfl) (fun x=>by kernel_rfl)
def DA (k:Nat):aA:=(132,⟨[.val al jv,.val ai .leaf,.val .bool .leaf],[.val ai .leaf],mQ k,[]⟩)::(vo k)
theorem S8 (k:Nat):ae Tryz.prog (DA k):=ae.ev aC mixed (GO k) nA nA k Tryz.func132 (by kernel_rfl) (fun x=>by kernel_rfl)
def wB (k:Nat):aA:=(127,⟨[.val al jv,.val ai .leaf],[.val ai .leaf],jr k,[]⟩)::(DA k)
theorem I2 (k:Nat):ae Tryz.prog (wB k):=ae.ev aC mixed (S8 k) nA nA k Tryz.func127 (by kernel_rfl) (fun x=>by kernel_rfl)
def uB (k:Nat):aA:=(128,⟨[.val al jv],[.val .bool .leaf],gW k,[]⟩)::(wB k)
theorem Fy (k:Nat):ae Tryz.prog (uB k):=ae.ev aC mixed (I2 k) nA nA k Tryz.func128 (by kernel_rfl) (fun x=>by kernel_rfl)
def FT:aK:=fun|2=>some ⟨[(1,.box 4 az cX),(10,.val (.sl aj) aM),(11,.val ai .leaf),(12,.val ai .leaf)],5⟩|5=>some ⟨[(1,.box 4 az cX),(3,.val ai .leaf),(4,.box 5 aj Y0),(10,.val (.sl aj) aM),(11,.val ai .leaf),(12,.val ai .leaf),(18,.val (.sl al) aM),(19,.val ai .leaf),(20,.val ai .leaf)],6⟩|12=>some ⟨[(1,.box 4 az cX),(40,.val (.sl al) aM),(41,.val ai .leaf),(42,.val ai .leaf)],5⟩|_=>none
def Ft:aK:=fun|11=>some ⟨[(1,.box 4 az cX)],5⟩|17=>some ⟨[(1,.box 4 az cX)],5⟩|_=>none
def vn (k:Nat):aA:=(63,⟨[.val az gU],[.val .bool .leaf],kC k,[]⟩)::(uB k)
theorem GZ (k:Nat):ae Tryz.prog (vn k):=ae.ev aC mixed (Fy k) FT Ft k Tryz.func63 (by kernel_rfl) (fun x=>by kernel_rfl)
def Km:aK:=fun|2=>some ⟨[(1,.val .str .leaf),(7,.val (.sl .str) aM),(8,.val ai .leaf),(9,.val ai .leaf)],4⟩|_=>none
def AL (k:Nat):aA:=(414,⟨[.val (.sl .str) .shr,.val .str .leaf],[.val .bool .leaf],oU k,[]⟩)::(vn k)
theorem Rc (k:Nat):ae Tryz.prog (AL k):=ae.ev aC mixed (GZ k) Km nA k Tryz.func414 (by kernel_rfl) (fun x=>by kernel_rfl)
def Mw:aK:=fun|3=>some ⟨[(1,.val (.sl .str) aM),(5,.val (.sl aq) Zm),(8,.val (.sl aq) aM),(9,.val ai .leaf),(10,.val ai .leaf)],5⟩|_=>none
def Ak (k:Nat):aA:=(392,⟨[.val (.sl aq) .shr,.val (.sl .str) .shr],[.val (.sl aq) .own],tM k,[]⟩)::(AL k)
theorem OK (k:Nat):ae Tryz.prog (Ak k):=ae.ev aC mixed (Rc k) Mw nA k Tryz.func392 (by kernel_rfl) (fun x=>by kernel_rfl)
def FQ (k:Nat):aA:=(360,⟨[.val ab q3,.val (.sl .str) .shr],[.val (.sl aq) .own],kM k,[]⟩)::(Ak k)
theorem VV (k:Nat):ae Tryz.prog (FQ k):=ae.ev aC mixed (OK k) nA nA k Tryz.func360 (by kernel_rfl) (fun x=>by kernel_rfl)
def LJ:aK:=fun|2=>some ⟨[(0,.val (.sl aq) aM),(1,.val (.sl aq) aM),(5,.val ai .leaf)],4⟩|_=>none
def Kz:aK:=fun|8=>some ⟨[(0,.val (.sl aq) aM),(1,.val (.sl aq) aM)],4⟩|_=>none
def AB (k:Nat):aA:=(318,⟨[.val (.sl aq) .shr,.val (.sl aq) .shr],[.val .bool .leaf],iY k,[]⟩)::(FQ k)
theorem Ra (k:Nat):ae Tryz.prog (AB k):=ae.ev aC mixed (VV k) LJ Kz k Tryz.func318 (by kernel_rfl) (fun x=>by kernel_rfl)
def Lg:aK:=fun|2=>some ⟨[(0,.val (.sl ab) aM),(1,.val (.sl aq) aM),(2,.val (.sl .str) aM),(9,.val (.sl ab) aM),(10,.val ai .leaf),(11,.val ai .leaf)],4⟩|_=>none
def Br (k:Nat):aA:=(323,⟨[.val (.sl ab) .shr,.val (.sl aq) .shr,.val (.sl .str) .shr],[.val .bool .leaf],px k,[]⟩)::(AB k)
theorem OH (k:Nat):ae Tryz.prog (Br k):=ae.ev aC mixed (Ra k) Lg nA k Tryz.func323 (by kernel_rfl) (fun x=>by kernel_rfl)
def B9 (k:Nat):aA:=(222,⟨[.val ah pN,.val (.sl .str) .shr],[.val .bool .leaf],pn k,[]⟩)::(Br k)
theorem Od (k:Nat):ae Tryz.prog (B9 k):=ae.ev aC mixed (OH k) nA nA k Tryz.func222 (by kernel_rfl) (fun x=>by kernel_rfl)
def MI:aK:=fun|2=>some ⟨[(1,.val (.sl aq) aM),(7,.val (.sl ah) aM),(8,.val ai .leaf),(9,.val ai .leaf)],4⟩|_=>none
def BL (k:Nat):aA:=(223,⟨[.val (.sl ah) .shr,.val (.sl aq) .shr],[.val ai .leaf],dF k,[]⟩)::(B9 k)
theorem QP (k:Nat):ae Tryz.prog (BL k):=ae.ev aC mixed (Od k) MI nA k Tryz.func223 (by kernel_rfl) (fun x=>by kernel_rfl)
def IS:aK:=fun|2=>some ⟨[(0,.val (.sl ah) aM),(1,.val (.sl .str) aM),(7,.val (.sl ah) aM),(8,.val ai .leaf),(9,.val ai .leaf)],4⟩|_=>none
def xL (k:Nat):aA:=(129,⟨[.val (.sl ah) .shr,.val (.sl .str) .shr],[.val .bool .leaf],nC k,[]⟩)::(BL k)
theorem Ky (k:Nat):ae Tryz.prog (xL k):=ae.ev aC mixed (QP k) IS nA k Tryz.func129 (by kernel_rfl) (fun x=>by kernel_rfl)
def D7 (k:Nat):aA:=(224,⟨[.val aw mj,.val aw mj],[.val .bool .leaf],iz k,[]⟩)::(xL k)
theorem S4 (k:Nat):ae Tryz.prog (D7 k):=ae.ev aC mixed (Ky k) nA nA k Tryz.func224 (by kernel_rfl) (fun x=>by kernel_rfl)
def PL:aK:=fun|2=>some ⟨[(0,.val (.sl aw) aM),(5,.val (.sl aw) aM),(6,.val ai .leaf),(7,.val ai .leaf)],4⟩|_=>none
def O3:aK:=fun|7=>some ⟨[(0,.val (.sl aw) aM)],4⟩|_=>none
def Ei (k:Nat):aA:=(130,⟨[.val (.sl aw) .shr],[.val .bool .leaf],qw k,[]⟩)::(D7 k)
theorem SN (k:Nat):ae Tryz.prog (Ei k):=ae.ev aC mixed (S4 k) PL O3 k Tryz.func130 (by kernel_rfl) (fun x=>by kernel_rfl)
def zX (k:Nat):aA:=(225,⟨[.val ah pN,.val ai .leaf,.val ai .leaf],[.val ai .leaf],tp k,[]⟩)::(Ei k)
theorem OO (k:Nat):ae Tryz.prog (zX k):=ae.ev aC mixed (SN k) nA nA k Tryz.func225 (by kernel_rfl) (fun x=>by kernel_rfl)
def LD (k:Nat):aA:=(131,⟨[.val bQ qN,.val ah pN],[.val ai .leaf],oH k,[]⟩)::(zX k)
theorem Y2 (k:Nat):ae Tryz.prog (LD k):=ae.ev aC mixed (OO k) nA nA k Tryz.func131 (by kernel_rfl) (fun x=>by kernel_rfl)
def Ev:aK:=fun|4=>some ⟨[(1,.box 4 az cX),(26,.val (.sl ah) aM),(27,.val ai .leaf),(28,.val ai .leaf)],5⟩|10=>some ⟨[(1,.box 4 az cX),(4,.box 5 ah Y3),(5,.val .bool .leaf),(26,.val (.sl ah) aM),(27,.val ai .leaf),(28,.val ai .leaf),(68,.val (.sl aw) aM),(69,.val ai .leaf),(70,.val ai .leaf)],6⟩|18=>some ⟨[(1,.box 4 az cX),(96,.val (.sl aw) aM),(97,.val ai .leaf),(98,.val ai .leaf)],5⟩|23=>some ⟨[(1,.box 4 az cX),(9,.box 5 aw qM),(96,.val (.sl aw) aM),(97,.val ai .leaf),(98,.val ai .leaf),(111,.val (.sl aw) aM),(112,.val ai .leaf),(113,.val ai .leaf)],6⟩|_=>none
def Ez:aK:=fun|14=>some ⟨[(1,.box 4 az cX),(4,.box 5 ah Y3),(5,.val .bool .leaf),(26,.val (.sl ah) aM),(27,.val ai .leaf),(28,.val ai .leaf)],6⟩|17=>some ⟨[(1,.box 4 az cX)],5⟩|_=>none
def uD (k:Nat):aA:=(64,⟨[.val az gU],[.val .bool .leaf],jV k,[]⟩)::(LD k)
theorem FK (k:Nat):ae Tryz.prog (uD k):=ae.ev aC mixed (Y2 k) Ev Ez k Tryz.func64 (by kernel_rfl) (fun x=>by kernel_rfl)
def Aw (k:Nat):aA:=(14,⟨[.val az gU],[.val .bool .leaf],oY k,[]⟩)::(uD k)
theorem OU (k:Nat):ae Tryz.prog (Aw k):=ae.ev aC mixed (FK k) nA nA k Tryz.func14 (by kernel_rfl) (fun x=>by kernel_rfl)
def ux (k:Nat):aA:=(251,⟨[.io az dP,.val aI uV],[.val ai .leaf],gZ k,[(0,(cQ 14 12))]⟩)::(Aw k)
theorem ET (k:Nat):ae Tryz.prog (ux k):=ae.ev aC mixed (OU k) nA nA k Tryz.func251 (by kernel_rfl) (fun x=>by kernel_rfl)
def vt (k:Nat):aA:=(297,⟨[.io az dP],[.val .bool .leaf],kE k,[]⟩)::(ux k)
theorem Hk (k:Nat):ae Tryz.prog (vt k):=ae.ev aC mixed (ET k) nA nA k Tryz.func297 (by kernel_rfl) (fun x=>by kernel_rfl)
def pJ (k:Nat):aA:=(298,⟨[.io az dP,.val ai .leaf],[.val .bool .leaf],eV k,[(0,(cQ 14 12))]⟩)::(vt k)
theorem xm (k:Nat):ae Tryz.prog (pJ k):=ae.ev aC mixed (Hk k) nA nA k Tryz.func298 (by kernel_rfl) (fun x=>by kernel_rfl)
def pY (k:Nat):aA:=(305,⟨[.io az dP,.val ai .leaf,.val ai .leaf],[],fb k,[(0,(cQ 14 12))]⟩)::(pJ k)
theorem zG (k:Nat):ae Tryz.prog (pY k):=ae.ev aC mixed (xm k) nA nA k Tryz.func305 (by kernel_rfl) (fun x=>by kernel_rfl)
def Ha:aK:=fun|3=>some ⟨[(0,.box 4 az zt),(1,.val ai .leaf),(6,.val ai .leaf)],14⟩|7=>some ⟨[(0,.box 4 az zt),(1,.val ai .leaf)],14⟩|_=>none
def wP (k:Nat):aA:=(303,⟨[.io az dP,.val ai .leaf,.val ai .leaf],[],bR k,[]⟩)::(pY k)
theorem JY (k:Nat):ae Tryz.prog (wP k):=ae.ev aC mixed (zG k) nA Ha k Tryz.func303 (by kernel_rfl) (fun x=>by kernel_rfl)
def Ka:aK:=fun|2=>some ⟨[(0,.val (.sl ab) aM),(3,.box 4 ab tH),(5,.val ai .leaf)],5⟩|_=>none
def Jh:aK:=fun|4=>some ⟨[(0,.val (.sl ab) aM),(3,.box 4 ab tH),(5,.val ai .leaf)],5⟩|_=>none
def yP (k:Nat):aA:=(415,⟨[.val (.sl ab) .shr,.val ab q3],[.val (.sl ab) .own],nM k,[]⟩)::(wP k)
theorem KO (k:Nat):ae Tryz.prog (yP k):=ae.ev aC mixed (JY k) Ka Jh k Tryz.func415 (by kernel_rfl) (fun x=>by kernel_rfl)
def DU (k:Nat):aA:=(393,⟨[.val ah pN,.val ab q3],[.val ah JD],qq k,[]⟩)::(yP k)
theorem S2 (k:Nat):ae Tryz.prog (DU k):=ae.ev aC mixed (KO k) nA nA k Tryz.func393 (by kernel_rfl) (fun x=>by kernel_rfl)
def A5 (k:Nat):aA:=(361,⟨[.val (.sl ah) .shr,.val ab q3,.val (.sl .str) .shr,.val ai .leaf,.val ai .leaf],[.val (.sl ah) .own,.val .bool .leaf],oy k,[]⟩)::(DU k)
theorem O6 (k:Nat):ae Tryz.prog (A5 k):=ae.ev aC mixed (S2 k) nA nA k Tryz.func361 (by kernel_rfl) (fun x=>by kernel_rfl)
def Mx:aK:=fun|3=>some ⟨[(3,.box 4 aw qM),(5,.val (.sl aw) uY),(6,.val ai .leaf)],6⟩|_=>none
def zV (k:Nat):aA:=(362,⟨[.val (.sl aw) .shr,.val aw mj],[.val (.sl aw) .own],lj k,[]⟩)::(A5 k)
theorem O9 (k:Nat):ae Tryz.prog (zV k):=ae.ev aC mixed (O6 k) Mx nA k Tryz.func362 (by kernel_rfl) (fun x=>by kernel_rfl)
def td (k:Nat):aA:=(299,⟨[.io az dP],[],jB k,[]⟩)::(zV k)
theorem EB (k:Nat):ae Tryz.prog (td k):=ae.ev aC mixed (O9 k) nA nA k Tryz.func299 (by kernel_rfl) (fun x=>by kernel_rfl)
def zJ:aK:=fun|9=>some ⟨[(0,.box 4 az zt),(3,.box 14 al adZ)],15⟩|_=>none
def re (k:Nat):aA:=(200,⟨[.io az dP],[.val .bool .leaf],ir k,[]⟩)::(td k)
theorem AO (k:Nat):ae Tryz.prog (re k):=ae.ev aC mixed (EB k) nA zJ k Tryz.func200 (by kernel_rfl) (fun x=>by kernel_rfl)
def H7 (k:Nat):aA:=(363,⟨[.val az gU],[.val .bool .leaf],ua k,[]⟩)::(re k)
theorem Wt (k:Nat):ae Tryz.prog (H7 k):=ae.ev aC mixed (AO k) nA nA k Tryz.func363 (by kernel_rfl) (fun x=>by kernel_rfl)
def Ji:aK:=fun|10=>some ⟨[(3,.box 4 aw qM),(5,.box 5 aw qM),(6,.val ai .leaf),(7,.val (.sl aw) IJ),(8,.val ai .leaf)],7⟩|_=>none
def JU:aK:=fun|13=>some ⟨[(3,.box 4 aw qM),(5,.box 5 aw qM),(6,.val ai .leaf),(7,.val (.sl aw) IJ),(8,.val ai .leaf),(9,.val ai .leaf)],7⟩|_=>none
def xG (k:Nat):aA:=(364,⟨[.val (.sl aw) .shr],[.val (.sl aw) .own,.val aw mj,.val .bool .leaf],nr k,[]⟩)::(H7 k)
theorem Lw (k:Nat):ae Tryz.prog (xG k):=ae.ev aC mixed (Wt k) Ji JU k Tryz.func364 (by kernel_rfl) (fun x=>by kernel_rfl)
def uM (k:Nat):aA:=(300,⟨[.io az dP],[.val .bool .leaf],jS k,[]⟩)::(xG k)
theorem Fp (k:Nat):ae Tryz.prog (uM k):=ae.ev aC mixed (Lw k) nA nA k Tryz.func300 (by kernel_rfl) (fun x=>by kernel_rfl)
def LO:aK:=fun|2=>some ⟨[(1,.val ai .leaf),(7,.val (.sl ah) aM),(8,.val ai .leaf),(9,.val ai .leaf)],4⟩|_=>none
def zO (k:Nat):aA:=(366,⟨[.val (.sl ah) .shr,.val ai .leaf],[.val ai .leaf],lG k,[]⟩)::(uM k)
theorem Pn (k:Nat):ae Tryz.prog (zO k):=ae.ev aC mixed (Fp k) LO nA k Tryz.func366 (by kernel_rfl) (fun x=>by kernel_rfl)
def HF (k:Nat):aA:=(396,⟨[.val ab q3,.val ai .leaf],[.val .bool .leaf],pQ k,[]⟩)::(zO k)
theorem V5 (k:Nat):ae Tryz.prog (HF k):=ae.ev aC mixed (Pn k) nA nA k Tryz.func396 (by kernel_rfl) (fun x=>by kernel_rfl)
def Tu:aK:=fun|3=>some ⟨[(1,.val ai .leaf),(5,.val (.sl ab) hJ),(8,.val (.sl ab) aM),(9,.val ai .leaf),(10,.val ai .leaf)],5⟩|_=>none
def Fq (k:Nat):aA:=(416,⟨[.val (.sl ab) .shr,.val ai .leaf],[.val (.sl ab) .own],sP k,[]⟩)::(HF k)
theorem VW (k:Nat):ae Tryz.prog (Fq k):=ae.ev aC mixed (V5 k) Tu nA k Tryz.func416 (by kernel_rfl) (fun x=>by kernel_rfl)
def EH (k:Nat):aA:=(394,⟨[.val ah pN,.val ai .leaf],[.val ah JD,.val aX Uj],sF k,[]⟩)::(Fq k)
theorem U4 (k:Nat):ae Tryz.prog (EH k):=ae.ev aC mixed (VW k) nA nA k Tryz.func394 (by kernel_rfl) (fun x=>by kernel_rfl)
def Ac (k:Nat):aA:=(365,⟨[.val (.sl ah) .shr,.val ai .leaf,.val ai .leaf],[.val (.sl ah) .own,.val aX Uj,.val .bool .leaf],oX k,[]⟩)::(EH k)
theorem OT (k:Nat):ae Tryz.prog (Ac k):=ae.mF aC mixed (U4 k) (show qt Tryz.prog []from trivial) nA nA k Tryz.func365 (by kernel_rfl) (fun x=>by kernel_rfl)
def sr (k:Nat):aA:=(301,⟨[.io az dP],[],iL k,[]⟩)::(Ac k)
theorem Cm (k:Nat):ae Tryz.prog (sr k):=ae.ev aC mixed (OT k) nA nA k Tryz.func301 (by kernel_rfl) (fun x=>by kernel_rfl)
def xn:aK:=fun|9=>some ⟨[(0,.box 4 az zt),(3,.box 14 al adZ)],15⟩|_=>none
def qe (k:Nat):aA:=(201,⟨[.io az dP],[.val .bool .leaf],gM k,[]⟩)::(sr k)
theorem zv (k:Nat):ae Tryz.prog (qe k):=ae.ev aC mixed (Cm k) nA xn k Tryz.func201 (by kernel_rfl) (fun x=>by kernel_rfl)
def xh (k:Nat):aA:=(65,⟨[.val al jv,.val ai .leaf],[.val ai .leaf],lU k,[]⟩)::(qe k)
theorem JQ (k:Nat):ae Tryz.prog (xh k):=ae.ev aC mixed (zv k) nA nA k Tryz.func65 (by kernel_rfl) (fun x=>by kernel_rfl)
def vv (k:Nat):aA:=(302,⟨[.io az dP,.val ai .leaf],[.val .bool .leaf],eZ k,[(0,(cQ 14 12))]⟩)::(xh k)
theorem Hi (k:Nat):ae Tryz.prog (vv k):=ae.ev aC mixed (JQ k) nA nA k Tryz.func302 (by kernel_rfl) (fun x=>by kernel_rfl)
def Fa (k:Nat):aA:=(422,⟨[.val ab q3,.val ab q3],[.val .bool .leaf],rP k,[]⟩)::(vv k)
theorem VT (k:Nat):ae Tryz.prog (Fa k):=ae.ev aC mixed (Hi k) nA nA k Tryz.func422 (by kernel_rfl) (fun x=>by kernel_rfl)
def FU (k:Nat):aA:=(417,⟨[.val ab q3,.val ab q3],[.val ab Fs],rJ k,[]⟩)::(Fa k)
theorem Uw (k:Nat):ae Tryz.prog (FU k):=ae.ev aC mixed (VT k) nA nA k Tryz.func417 (by kernel_rfl) (fun x=>by kernel_rfl)
def xM (k:Nat):aA:=(395,⟨[.val ax qY,.val ab q3],[.val ax Gc,.val .bool .leaf],ns k,[]⟩)::(FU k)
theorem Ln (k:Nat):ae Tryz.prog (xM k):=ae.ev aC mixed (Uw k) nA nA k Tryz.func395 (by kernel_rfl) (fun x=>by kernel_rfl)
def Tn:aK:=fun|10=>some ⟨[(2,.box 4 aj rq),(3,.box 5 ab tH),(4,.box 6 aj Df),(6,.box 7 aj YB),(7,.val ai .leaf),(11,.val ai .leaf)],9⟩|_=>none
def R7:aK:=fun|12=>some ⟨[(2,.box 4 aj rq),(3,.box 5 ab tH),(4,.box 6 aj Df),(6,.box 7 aj YB),(7,.val ai .leaf),(11,.val ai .leaf)],9⟩|_=>none
def FG (k:Nat):aA:=(367,⟨[.val aj ng,.val ab q3],[.val aj (.pair .leaf (.pair .leaf .pv)),.val .bool .leaf],sU k,[]⟩)::(xM k)
theorem Ub (k:Nat):ae Tryz.prog (FG k):=ae.ev aC mixed (Ln k) Tn R7 k Tryz.func367 (by kernel_rfl) (fun x=>by kernel_rfl)
def yU (k:Nat):aA:=(304,⟨[.val (.sl aj) .shr,.val ab q3],[.val (.sl aj) .pv,.val .bool .leaf],nj k,[]⟩)::(FG k)
theorem Nx (k:Nat):ae Tryz.prog (yU k):=ae.ev aC mixed (Ub k) nA nA k Tryz.func304 (by kernel_rfl) (fun x=>by kernel_rfl)
def Ho (k:Nat):aA:=(368,⟨[.val aW zn,.val ab q3],[.val aW T9],ub k,[]⟩)::(yU k)
theorem WB (k:Nat):ae Tryz.prog (Ho k):=ae.ev aC mixed (Nx k) nA nA k Tryz.func368 (by kernel_rfl) (fun x=>by kernel_rfl)
def MY:aK:=fun|3=>some ⟨[(3,.box 4 ab tH),(5,.val (.sl aW) UI),(8,.val (.sl aW) aM),(9,.val ai .leaf),(10,.val ai .leaf)],6⟩|_=>none
def Aq (k:Nat):aA:=(306,⟨[.val (.sl aW) .shr,.val ab q3],[.val (.sl aW) .own],oS k,[]⟩)::(Ho k)
theorem Oo (k:Nat):ae Tryz.prog (Aq k):=ae.ev aC mixed (WB k) MY nA k Tryz.func306 (by kernel_rfl) (fun x=>by kernel_rfl)
def wq (k:Nat):aA:=(254,⟨[.io az dP,.val aI uV],[],jA k,[(0,(cQ 14 12))]⟩)::(Aq k)
theorem J0 (k:Nat):ae Tryz.prog (wq k):=ae.ev aC mixed (Oo k) nA nA k Tryz.func254 (by kernel_rfl) (fun x=>by kernel_rfl)
def AN:aK:=fun|23=>some ⟨[(0,.box 4 az adX),(1,.val ai .leaf),(5,.ept 12 al 0 [] al),(6,.box 14 ab (.pair abt (.pair .leaf qM))),(10,.val ai .leaf)],16⟩|26=>some ⟨[(0,.box 4 az zt)],14⟩|_=>none
def rE (k:Nat):aA:=(202,⟨[.io az dP,.val ai .leaf],[.val .bool .leaf],iO k,[]⟩)::(wq k)
theorem C3 (k:Nat):ae Tryz.prog (rE k):=ae.ev aC mixed (J0 k) nA AN k Tryz.func202 (by kernel_rfl) (fun x=>by kernel_rfl)
def IU:aK:=fun|4=>some ⟨[(1,.val ai .leaf),(2,.box 4 ax zw),(4,.box 5 ax Yx),(6,.box 6 ax YY),(7,.val (.sl ab) u7),(14,.val (.sl ab) aM),(15,.val ai .leaf),(16,.val ai .leaf)],9⟩|_=>none
def IQ:aK:=fun|10=>some ⟨[(2,.box 4 ax zw),(4,.box 5 ax Yx),(6,.box 6 ax YY),(7,.val (.sl ab) u7)],9⟩|_=>none
def xr (k:Nat):aA:=(369,⟨[.val ax qY,.val ai .leaf],[.val ax Gc,.val (.sl ab) .own],ni k,[]⟩)::(rE k)
theorem KT (k:Nat):ae Tryz.prog (xr k):=ae.ev aC mixed (C3 k) IU IQ k Tryz.func369 (by kernel_rfl) (fun x=>by kernel_rfl)
def N1:aK:=fun|4=>some ⟨[(1,.val ai .leaf),(2,.box 4 aj rq),(4,.box 5 aj Df),(6,.box 6 aj Ul),(7,.val (.sl ab) u7),(18,.val (.sl ax) aM),(19,.val ai .leaf),(20,.val ai .leaf)],9⟩|_=>none
def KW:aK:=fun|11=>some ⟨[(2,.box 4 aj rq),(4,.box 5 aj Df),(6,.box 6 aj Ul),(7,.val (.sl ab) u7)],9⟩|_=>none
def BJ (k:Nat):aA:=(307,⟨[.val aj ng,.val ai .leaf],[.val aj Ud,.val (.sl ab) .own],pD k,[]⟩)::(xr k)
theorem Om (k:Nat):ae Tryz.prog (BJ k):=ae.ev aC mixed (KT k) N1 KW k Tryz.func307 (by kernel_rfl) (fun x=>by kernel_rfl)
def sZ (k:Nat):aA:=(308,⟨[.io az dP,.val ai .leaf],[],gi k,[(0,(cQ 14 12))]⟩)::(BJ k)
theorem Eu (k:Nat):ae Tryz.prog (sZ k):=ae.ev aC mixed (Om k) nA nA k Tryz.func308 (by kernel_rfl) (fun x=>by kernel_rfl)
def xp:aK:=fun|15=>some ⟨[(0,.box 4 az adK),(6,.box 14 aj adO)],16⟩|_=>none
def p9 (k:Nat):aA:=(203,⟨[.io az dP,.val ai .leaf],[.val .bool .leaf],gN k,[]⟩)::(sZ k)
theorem zE (k:Nat):ae Tryz.prog (p9 k):=ae.ev aC mixed (Eu k) nA xp k Tryz.func203 (by kernel_rfl) (fun x=>by kernel_rfl)
def sC (k:Nat):aA:=(309,⟨[.io az dP,.val ai .leaf],[.val .bool .leaf],iM k,[]⟩)::(p9 k)
theorem Db (k:Nat):ae Tryz.prog (sC k):=ae.ev aC mixed (zE k) nA nA k Tryz.func309 (by kernel_rfl) (fun x=>by kernel_rfl)
def xo:aK:=fun|2=>some ⟨[(0,.rdp [1] az cX),(3,.box 4 al xj),(8,.val (.sl ai) aM),(9,.val ai .leaf),(10,.val ai .leaf)],5⟩|_=>none
def pU (k:Nat):aA:=(370,⟨[.rd az,.val al jv],[.val .bool .leaf],gP k,[]⟩)::(sC k)
theorem zl (k:Nat):ae Tryz.prog (pU k):=ae.ev aC mixed (Db k) xo nA k Tryz.func370 (by kernel_rfl) (fun x=>by kernel_rfl)
def rB (k:Nat):aA:=(310,⟨[.io az dP,.val ai .leaf],[.val .bool .leaf],eI k,[]⟩)::(pU k)
theorem AM (k:Nat):ae Tryz.prog (rB k):=ae.ev aC mixed (zl k) nA nA k Tryz.func310 (by kernel_rfl) (fun x=>by kernel_rfl)
def zj:aK:=fun|7=>some ⟨[(0,.box 4 az zt),(5,.val .bool .leaf)],14⟩|_=>none
def rm (k:Nat):aA:=(204,⟨[.io az dP,.val ai .leaf],[.val .bool .leaf],fx k,[]⟩)::(rB k)
theorem AA (k:Nat):ae Tryz.prog (rm k):=ae.ev aC mixed (AM k) nA zj k Tryz.func204 (by kernel_rfl) (fun x=>by kernel_rfl)
def vu (k:Nat):aA:=(106,⟨[.io az dP,.val ai .leaf],[.val .bool .leaf],fS k,[]⟩)::(rm k)
theorem GD (k:Nat):ae Tryz.prog (vu k):=ae.ev aC mixed (AA k) nA nA k Tryz.func106 (by kernel_rfl) (fun x=>by kernel_rfl)
def HQ (k:Nat):aA:=(44,⟨[.val az gU,.val ai .leaf],[.val az dP,.val .bool .leaf],tU k,[]⟩)::(vu k)
theorem Wf (k:Nat):ae Tryz.prog (HQ k):=ae.mF aC mixed (GD k) (show qt Tryz.prog []from trivial) nA nA k Tryz.func44 (by kernel_rfl) (fun x=>by kernel_rfl)
def Hy (k:Nat):aA:=(9,⟨[.val az gU,.val ai .leaf],[.val .bool .leaf],uh k,[]⟩)::(HQ k)
theorem Ws (k:Nat):ae Tryz.prog (Hy k):=ae.ev aC mixed (Wf k) nA nA k Tryz.func9 (by kernel_rfl) (fun x=>by kernel_rfl)
def GG:aK:=fun|4=>some ⟨[(0,.val (.sl .str) aM),(1,.val (.sl .str) aM),(5,.val ai .leaf)],4⟩|_=>none
def wv (k:Nat):aA:=(107,⟨[.val (.sl .str) .shr,.val (.sl .str) .shr],[.val .bool .leaf],qQ k,[]⟩)::(Hy k)
theorem Jr (k:Nat):ae Tryz.prog (wv k):=ae.ev aC mixed (Ws k) GG nA k Tryz.func107 (by kernel_rfl) (fun x=>by kernel_rfl)
def Dp (k:Nat):aA:=(45,⟨[.val bQ qN,.val bQ qN],[.val .bool .leaf],qF k,[]⟩)::(wv k)
theorem Ti (k:Nat):ae Tryz.prog (Dp k):=ae.ev aC mixed (Jr k) nA nA k Tryz.func45 (by kernel_rfl) (fun x=>by kernel_rfl)
def A9 (k:Nat):aA:=(312,⟨[.val aq mj,.val aq mj],[.val .bool .leaf],lF k,[]⟩)::(Dp k)
theorem Qj (k:Nat):ae Tryz.prog (A9 k):=ae.ev aC mixed (Ti k) nA nA k Tryz.func312 (by kernel_rfl) (fun x=>by kernel_rfl)
def JN:aK:=fun|4=>some ⟨[(0,.val (.sl aq) aM),(1,.val (.sl aq) aM),(5,.val ai .leaf)],4⟩|_=>none
def yS (k:Nat):aA:=(206,⟨[.val (.sl aq) .shr,.val (.sl aq) .shr],[.val .bool .leaf],fI k,[]⟩)::(A9 k)
theorem K6 (k:Nat):ae Tryz.prog (yS k):=ae.ev aC mixed (Qj k) JN nA k Tryz.func206 (by kernel_rfl) (fun x=>by kernel_rfl)
def B8 (k:Nat):aA:=(110,⟨[.val ab q3,.val ab q3],[.val .bool .leaf],gE k,[]⟩)::(yS k)
theorem Q4 (k:Nat):ae Tryz.prog (B8 k):=ae.ev aC mixed (K6 k) nA nA k Tryz.func110 (by kernel_rfl) (fun x=>by kernel_rfl)
def Kk:aK:=fun|4=>some ⟨[(0,.val (.sl ab) aM),(1,.val (.sl ab) aM),(5,.val ai .leaf)],4⟩|_=>none
def yo (k:Nat):aA:=(48,⟨[.val (.sl ab) .shr,.val (.sl ab) .shr],[.val .bool .leaf],dM k,[]⟩)::(B8 k)
theorem NO (k:Nat):ae Tryz.prog (yo k):=ae.ev aC mixed (Q4 k) Kk nA k Tryz.func48 (by kernel_rfl) (fun x=>by kernel_rfl)
def BK (k:Nat):aA:=(311,⟨[.val ax qY,.val ax qY],[.val .bool .leaf],kW k,[]⟩)::(yo k)
theorem Oq (k:Nat):ae Tryz.prog (BK k):=ae.ev aC mixed (NO k) nA nA k Tryz.func311 (by kernel_rfl) (fun x=>by kernel_rfl)
def IM:aK:=fun|4=>some ⟨[(0,.val (.sl ax) aM),(1,.val (.sl ax) aM),(5,.val ai .leaf)],4⟩|_=>none
def yr (k:Nat):aA:=(205,⟨[.val (.sl ax) .shr,.val (.sl ax) .shr],[.val .bool .leaf],rO k,[]⟩)::(BK k)
theorem KN (k:Nat):ae Tryz.prog (yr k):=ae.ev aC mixed (Oq k) IM nA k Tryz.func205 (by kernel_rfl) (fun x=>by kernel_rfl)
def DP (k:Nat):aA:=(108,⟨[.val aj ng,.val aj ng],[.val .bool .leaf],mz k,[]⟩)::(yr k)
theorem Sz (k:Nat):ae Tryz.prog (DP k):=ae.ev aC mixed (KN k) nA nA k Tryz.func108 (by kernel_rfl) (fun x=>by kernel_rfl)
def Lo:aK:=fun|4=>some ⟨[(0,.val (.sl aj) aM),(1,.val (.sl aj) aM),(5,.val ai .leaf)],4⟩|_=>none
def AT (k:Nat):aA:=(46,⟨[.val (.sl aj) .shr,.val (.sl aj) .shr],[.val .bool .leaf],tz k,[]⟩)::(DP k)
theorem Pb (k:Nat):ae Tryz.prog (AT k):=ae.ev aC mixed (Sz k) Lo nA k Tryz.func46 (by kernel_rfl) (fun x=>by kernel_rfl)
def EX (k:Nat):aA:=(109,⟨[.val aW zn,.val aW zn],[.val .bool .leaf],oc k,[]⟩)::(AT k)
theorem Ux (k:Nat):ae Tryz.prog (EX k):=ae.ev aC mixed (Pb k) nA nA k Tryz.func109 (by kernel_rfl) (fun x=>by kernel_rfl)
def O7:aK:=fun|4=>some ⟨[(0,.val (.sl aW) aM),(1,.val (.sl aW) aM),(5,.val ai .leaf)],4⟩|_=>none
def DJ (k:Nat):aA:=(47,⟨[.val (.sl aW) .shr,.val (.sl aW) .shr],[.val .bool .leaf],uW k,[]⟩)::(EX k)
theorem Tf (k:Nat):ae Tryz.prog (DJ k):=ae.ev aC mixed (Ux k) O7 nA k Tryz.func47 (by kernel_rfl) (fun x=>by kernel_rfl)
def Av (k:Nat):aA:=(111,⟨[.val ah pN,.val ah pN],[.val .bool .leaf],lI k,[]⟩)::(DJ k)
theorem PA (k:Nat):ae Tryz.prog (Av k):=ae.ev aC mixed (Tf k) nA nA k Tryz.func111 (by kernel_rfl) (fun x=>by kernel_rfl)
def J9:aK:=fun|4=>some ⟨[(0,.val (.sl ah) aM),(1,.val (.sl ah) aM),(5,.val ai .leaf)],4⟩|_=>none
def yI (k:Nat):aA:=(49,⟨[.val (.sl ah) .shr,.val (.sl ah) .shr],[.val .bool .leaf],rN k,[]⟩)::(Av k)
theorem Ml (k:Nat):ae Tryz.prog (yI k):=ae.ev aC mixed (PA k) J9 nA k Tryz.func49 (by kernel_rfl) (fun x=>by kernel_rfl)
def B0 (k:Nat):aA:=(112,⟨[.val aw mj,.val aw mj],[.val .bool .leaf],lk k,[]⟩)::(yI k)
theorem PY (k:Nat):ae Tryz.prog (B0 k):=ae.ev aC mixed (Ml k) nA nA k Tryz.func112 (by kernel_rfl) (fun x=>by kernel_rfl)
def JP:aK:=fun|4=>some ⟨[(0,.val (.sl aw) aM),(1,.val (.sl aw) aM),(5,.val ai .leaf)],4⟩|_=>none
def yJ (k:Nat):aA:=(50,⟨[.val (.sl aw) .shr,.val (.sl aw) .shr],[.val .bool .leaf],sS k,[]⟩)::(B0 k)
theorem M7 (k:Nat):ae Tryz.prog (yJ k):=ae.ev aC mixed (PY k) JP nA k Tryz.func50 (by kernel_rfl) (fun x=>by kernel_rfl)
def Ao (k:Nat):aA:=(113,⟨[.val aX q6,.val aX q6],[.val .bool .leaf],lq k,[]⟩)::(yJ k)
theorem P2 (k:Nat):ae Tryz.prog (Ao k):=ae.ev aC mixed (M7 k) nA nA k Tryz.func113 (by kernel_rfl) (fun x=>by kernel_rfl)
def JZ:aK:=fun|4=>some ⟨[(0,.val (.sl aX) aM),(1,.val (.sl aX) aM),(5,.val ai .leaf)],4⟩|_=>none
def yC (k:Nat):aA:=(51,⟨[.val (.sl aX) .shr,.val (.sl aX) .shr],[.val .bool .leaf],sK k,[]⟩)::(Ao k)
theorem Mf (k:Nat):ae Tryz.prog (yC k):=ae.ev aC mixed (P2 k) JZ nA k Tryz.func51 (by kernel_rfl) (fun x=>by kernel_rfl)
def Ob:aK:=fun|4=>some ⟨[(0,.val (.sl ai) aM),(1,.val (.sl ai) aM),(5,.val ai .leaf)],4⟩|_=>none
def Dv (k:Nat):aA:=(207,⟨[.val (.sl ai) .shr,.val (.sl ai) .shr],[.val .bool .leaf],u4 k,[]⟩)::(yC k)
theorem Tw (k:Nat):ae Tryz.prog (Dv k):=ae.ev aC mixed (Mf k) Ob nA k Tryz.func207 (by kernel_rfl) (fun x=>by kernel_rfl)
def DI (k:Nat):aA:=(114,⟨[.val al jv,.val al jv],[.val .bool .leaf],mM k,[]⟩)::(Dv k)
theorem S5 (k:Nat):ae Tryz.prog (DI k):=ae.ev aC mixed (Tw k) nA nA k Tryz.func114 (by kernel_rfl) (fun x=>by kernel_rfl)
def LK:aK:=fun|4=>some ⟨[(0,.val (.sl al) aM),(1,.val (.sl al) aM),(5,.val ai .leaf)],4⟩|_=>none
def BV (k:Nat):aA:=(52,⟨[.val (.sl al) .shr,.val (.sl al) .shr],[.val .bool .leaf],tf k,[]⟩)::(DI k)
theorem Ph (k:Nat):ae Tryz.prog (BV k):=ae.ev aC mixed (S5 k) LK nA k Tryz.func52 (by kernel_rfl) (fun x=>by kernel_rfl)
def Eg (k:Nat):aA:=(115,⟨[.val aI uV,.val aI uV],[.val .bool .leaf],mI k,[]⟩)::(BV k)
theorem Ts (k:Nat):ae Tryz.prog (Eg k):=ae.ev aC mixed (Ph k) nA nA k Tryz.func115 (by kernel_rfl) (fun x=>by kernel_rfl)
def ML:aK:=fun|4=>some ⟨[(0,.val (.sl aI) aM),(1,.val (.sl aI) aM),(5,.val ai .leaf)],4⟩|_=>none
def BM (k:Nat):aA:=(53,⟨[.val (.sl aI) .shr,.val (.sl aI) .shr],[.val .bool .leaf],tv k,[]⟩)::(Eg k)
theorem PT (k:Nat):ae Tryz.prog (BM k):=ae.ev aC mixed (Ts k) ML nA k Tryz.func53 (by kernel_rfl) (fun x=>by kernel_rfl)
def AF (k:Nat):aA:=(10,⟨[.val az gU,.val az gU],[.val .bool .leaf],o9 k,[]⟩)::(BM k)
theorem PX (k:Nat):ae Tryz.prog (AF k):=ae.ev aC mixed (PT k) nA nA k Tryz.func10 (by kernel_rfl) (fun x=>by kernel_rfl)
def EL (k:Nat):aA:=(3,⟨[.val az gU,.val ai .leaf],[.val .bool .leaf],oh k,[]⟩)::(AF k)
theorem FC (k:Nat):ae Tryz.prog (EL k):=ae.ev aC mixed (PX k) nA nA k Tryz.func3 (by kernel_rfl) (fun x=>by kernel_rfl)
end Vg.Tryz
namespace Vg.Tryz
open Go Vg
section
variable {k:Nat} (hk:9223372036854775808≤k)
include hk
theorem Uo {x:List ByteArray} {left:Int} (hx:Fits (.sl .str) x) (h0:0≤left) (h1:left≤1048576):qO k (x,left,())=some (bY (ag (.sl .str) x) left,()):=
 adT hk hx h0 h1
theorem ku (x:bT):ag bQ x=ag (.sl .str) x.2.2.2.2.2:=by
 obtain⟨x0,x1,x2,x3,x4,x5⟩:=x
 simp only[ag]
 try omega
theorem ZY {x:bT} {left:Int} (hx:Fits bQ x) (h0:0≤left) (h1:left≤1048576):qx k (x,left,())=some (bY (ag bQ x) left,()):=by
 rw[ku hk]
 simp only[qx]
 rw[Uo hk hx.2.2.2.2.2 h0 h1,akt]
 by_cases h2:bY (ag (.sl .str) x.2.2.2.2.2) left<0
 ·rw[if_pos (by simpa using h2)];exact congrArg (fun z=>some (z,())) (cI h2 (by omega)).symm
 rw[if_neg (by simpa using h2)]
theorem uK (x:ay):ag aq x=x.1.size+x.2.size:=by
 obtain⟨x0,x1⟩:=x
 simp only[ag]
 try omega
theorem X5 {x:ay} {left:Int} (hx:Fits aq x) (h0:0≤left) (h1:left≤1048576):k9 k (x,left,())=some (bY (ag aq x) left,()):=by
 rw[uK hk]
 simp only[k9]
 try simp only
 rw[Gq hx.1 h0 h1]
 by_cases h2:bY (x.1.size) left<0
 ·rw[if_pos (by simpa using h2)];exact congrArg (fun z=>some (z,())) (cI h2 (by omega)).symm
 rw[if_neg (by simpa using h2)]
 rw[Cl hx.1 h0 h1 h2]
 try simp only
 rw[Gq hx.2 (cZ h2).1 (by have:=fh (t:=x.1.size) h0;omega)]
 rw[dH h2]
 by_cases h3:bY (x.1.size+x.2.size) left<0
 ·rw[if_pos (by simpa using h3)];exact congrArg (fun z=>some (z,())) (cI h3 (by omega)).symm
 rw[if_neg (by simpa using h3)]
 rw[Cl hx.2 (cZ h2).1 (by have:=fh (t:=x.1.size) h0;omega) (by rw[dH h2];exact h3),dH h2]
theorem pZ {x:List ay} {left:Int} (hx:Fits (.sl aq) x) (h0:0≤left) (h1:left≤1048576):fF k (x,left,())=some (bY (ag (.sl aq) x) left,()):=
 rY (d:=aq.aa) (S:=k9 k) hk hx.1 h0 h1 (fun e he l a b=>X5 hk (hx.2 e he) a b)
theorem bG (x:af):ag ab x=ag (.sl aq) x.1+x.2.2.2.size:=by
 obtain⟨x0,x1,x2,x3⟩:=x
 simp only[ag]
 try omega
theorem CU {x:af} {left:Int} (hx:Fits ab x) (h0:0≤left) (h1:left≤1048576):gp k (x,left,())=some (bY (ag ab x) left,()):=by
 rw[bG hk]
 simp only[gp]
 rw[pZ hk hx.1 h0 h1,akt]
 by_cases h2:bY (ag (.sl aq) x.1) left<0
 ·rw[if_pos (by simpa using h2)];exact congrArg (fun z=>some (z,())) (cI h2 (by omega)).symm
 rw[if_neg (by simpa using h2)]
 try simp only
 rw[Gq hx.2.2.2 (cZ h2).1 (by have:=fh (t:=ag (.sl aq) x.1) h0;omega)]
 rw[dH h2]
 by_cases h3:bY (ag (.sl aq) x.1+x.2.2.2.size) left<0
 ·rw[if_pos (by simpa using h3)];exact congrArg (fun z=>some (z,())) (cI h3 (by omega)).symm
 rw[if_neg (by simpa using h3)]
 rw[Cl hx.2.2.2 (cZ h2).1 (by have:=fh (t:=ag (.sl aq) x.1) h0;omega) (by rw[dH h2];exact h3),dH h2]
theorem iR {x:List af} {left:Int} (hx:Fits (.sl ab) x) (h0:0≤left) (h1:left≤1048576):dJ k (x,left,())=some (bY (ag (.sl ab) x) left,()):=
 rY (d:=ab.aa) (S:=gp k) hk hx.1 h0 h1 (fun e he l a b=>CU hk (hx.2 e he) a b)
theorem cE (x:aO):ag ax x=ag (.sl ab) x.2:=by
 obtain⟨x0,x1⟩:=x
 simp only[ag]
 try omega
theorem Zc {x:aO} {left:Int} (hx:Fits ax x) (h0:0≤left) (h1:left≤1048576):lh k (x,left,())=some (bY (ag ax x) left,()):=by
 rw[cE hk]
 simp only[lh]
 rw[iR hk hx.2 h0 h1,akt]
 by_cases h2:bY (ag (.sl ab) x.2) left<0
 ·rw[if_pos (by simpa using h2)];exact congrArg (fun z=>some (z,())) (cI h2 (by omega)).symm
 rw[if_neg (by simpa using h2)]
theorem W3 {x:List aO} {left:Int} (hx:Fits (.sl ax) x) (h0:0≤left) (h1:left≤1048576):rI k (x,left,())=some (bY (ag (.sl ax) x) left,()):=
 rY (d:=ax.aa) (S:=lh k) hk hx.1 h0 h1 (fun e he l a b=>Zc hk (hx.2 e he) a b)
theorem cM (x:aG):ag aj x=ag (.sl ax) x.2.2:=by
 obtain⟨x0,x1,x2⟩:=x
 simp only[ag]
 try omega
theorem aaK {x:aG} {left:Int} (hx:Fits aj x) (h0:0≤left) (h1:left≤1048576):mu k (x,left,())=some (bY (ag aj x) left,()):=by
 rw[cM hk]
 simp only[mu]
 rw[W3 hk hx.2.2 h0 h1,akt]
 by_cases h2:bY (ag (.sl ax) x.2.2) left<0
 ·rw[if_pos (by simpa using h2)];exact congrArg (fun z=>some (z,())) (cI h2 (by omega)).symm
 rw[if_neg (by simpa using h2)]
theorem Yn {x:List aG} {left:Int} (hx:Fits (.sl aj) x) (h0:0≤left) (h1:left≤1048576):tL k (x,left,())=some (bY (ag (.sl aj) x) left,()):=
 rY (d:=aj.aa) (S:=mu k) hk hx.1 h0 h1 (fun e he l a b=>aaK hk (hx.2 e he) a b)
theorem pz (x:bp):ag aW x=ag (.sl ab) x.1:=by
 obtain⟨x0,x1⟩:=x
 simp only[ag]
 try omega
theorem abc {x:bp} {left:Int} (hx:Fits aW x) (h0:0≤left) (h1:left≤1048576):oo k (x,left,())=some (bY (ag aW x) left,()):=by
 rw[pz hk]
 simp only[oo]
 rw[iR hk hx.1 h0 h1,akt]
 by_cases h2:bY (ag (.sl ab) x.1) left<0
 ·rw[if_pos (by simpa using h2)];exact congrArg (fun z=>some (z,())) (cI h2 (by omega)).symm
 rw[if_neg (by simpa using h2)]
theorem aaP {x:List bp} {left:Int} (hx:Fits (.sl aW) x) (h0:0≤left) (h1:left≤1048576):uT k (x,left,())=some (bY (ag (.sl aW) x) left,()):=
 rY (d:=aW.aa) (S:=oo k) hk hx.1 h0 h1 (fun e he l a b=>abc hk (hx.2 e he) a b)
theorem dB (x:aD):ag ah x=ag (.sl aq) x.2.1+ag (.sl ab) x.2.2.2.2:=by
 obtain⟨x0,x1,x2,x3,x4⟩:=x
 simp only[ag]
 try omega
theorem Yu {x:aD} {left:Int} (hx:Fits ah x) (h0:0≤left) (h1:left≤1048576):lz k (x,left,())=some (bY (ag ah x) left,()):=by
 rw[dB hk]
 simp only[lz]
 rw[pZ hk hx.2.1 h0 h1,akt]
 by_cases h2:bY (ag (.sl aq) x.2.1) left<0
 ·rw[if_pos (by simpa using h2)];exact congrArg (fun z=>some (z,())) (cI h2 (by omega)).symm
 rw[if_neg (by simpa using h2)]
 rw[iR hk hx.2.2.2.2 (cZ h2).1 (by have:=fh (t:=ag (.sl aq) x.2.1) h0;omega),akt]
 rw[dH h2]
 by_cases h3:bY (ag (.sl aq) x.2.1+ag (.sl ab) x.2.2.2.2) left<0
 ·rw[if_pos (by simpa using h3)];exact congrArg (fun z=>some (z,())) (cI h3 (by omega)).symm
 rw[if_neg (by simpa using h3)]
theorem Wl {x:List aD} {left:Int} (hx:Fits (.sl ah) x) (h0:0≤left) (h1:left≤1048576):rH k (x,left,())=some (bY (ag (.sl ah) x) left,()):=
 rY (d:=ah.aa) (S:=lz k) hk hx.1 h0 h1 (fun e he l a b=>Yu hk (hx.2 e he) a b)
theorem WA {x:List aJ} {left:Int} (hx:Fits (.sl aw) x) (h0:0≤left) (h1:left≤1048576):nD k (x,left,())=some (bY (ag (.sl aw) x) left,()):=
 ZJ (e:=aw) (F:=nD) (k:=k) (fun _=>rfl) (by rfl) hx h0 h1
theorem lP (x:bm):ag aX x=ag (.sl aq) x.2.1+ag (.sl ab) x.2.2.2:=by
 obtain⟨x0,x1,x2,x3⟩:=x
 simp only[ag]
 try omega
theorem Yt {x:bm} {left:Int} (hx:Fits aX x) (h0:0≤left) (h1:left≤1048576):kS k (x,left,())=some (bY (ag aX x) left,()):=by
 rw[lP hk]
 simp only[kS]
 rw[pZ hk hx.2.1 h0 h1,akt]
 by_cases h2:bY (ag (.sl aq) x.2.1) left<0
 ·rw[if_pos (by simpa using h2)];exact congrArg (fun z=>some (z,())) (cI h2 (by omega)).symm
 rw[if_neg (by simpa using h2)]
 rw[iR hk hx.2.2.2 (cZ h2).1 (by have:=fh (t:=ag (.sl aq) x.2.1) h0;omega),akt]
 rw[dH h2]
 by_cases h3:bY (ag (.sl aq) x.2.1+ag (.sl ab) x.2.2.2) left<0
 ·rw[if_pos (by simpa using h3)];exact congrArg (fun z=>some (z,())) (cI h3 (by omega)).symm
 rw[if_neg (by simpa using h3)]
theorem WM {x:List bm} {left:Int} (hx:Fits (.sl aX) x) (h0:0≤left) (h1:left≤1048576):so k (x,left,())=some (bY (ag (.sl aX) x) left,()):=
 rY (d:=aX.aa) (S:=kS k) hk hx.1 h0 h1 (fun e he l a b=>Yt hk (hx.2 e he) a b)
theorem aaA {x:List Int} {left:Int} (hx:Fits (.sl (.int .i64)) x) (h0:0≤left) (h1:left≤1048576):qv k (x,left,())=some (bY (ag (.sl (.int .i64)) x) left,()):=
 ZJ (e:=(.int .i64)) (F:=qv) (k:=k) (fun _=>rfl) (by rfl) hx h0 h1
theorem cP (x:aN):ag al x=ag ab x.2.2.1+ag (.sl aq) x.2.2.2.1+ag (.sl (.int .i64)) x.2.2.2.2.2.1+ag (.sl ab) x.2.2.2.2.2.2.1:=by
 obtain⟨x0,x1,x2,x3,x4,x5,x6,x7,x8⟩:=x
 simp only[ag]
 try omega
theorem ZL {x:aN} {left:Int} (hx:Fits al x) (h0:0≤left) (h1:left≤1048576):mr k (x,left,())=some (bY (ag al x) left,()):=by
 rw[cP hk]
 simp only[mr]
 rw[CU hk hx.2.2.1 h0 h1,akt]
 by_cases h2:bY (ag ab x.2.2.1) left<0
 ·rw[if_pos (by simpa using h2)];exact congrArg (fun z=>some (z,())) (cI h2 (by omega)).symm
 rw[if_neg (by simpa using h2)]
 rw[pZ hk hx.2.2.2.1 (cZ h2).1 (by have:=fh (t:=ag ab x.2.2.1) h0;omega),akt]
 rw[dH h2]
 by_cases h3:bY (ag ab x.2.2.1+ag (.sl aq) x.2.2.2.1) left<0
 ·rw[if_pos (by simpa using h3)];exact congrArg (fun z=>some (z,())) (cI h3 (by omega)).symm
 rw[if_neg (by simpa using h3)]
 rw[aaA hk hx.2.2.2.2.2.1 (cZ h3).1 (by have:=fh (t:=ag ab x.2.2.1+ag (.sl aq) x.2.2.2.1) h0;omega),akt]
 rw[dH h3]
 by_cases h4:bY (ag ab x.2.2.1+ag (.sl aq) x.2.2.2.1+ag (.sl (.int .i64)) x.2.2.2.2.2.1) left<0
 ·rw[if_pos (by simpa using h4)];exact congrArg (fun z=>some (z,())) (cI h4 (by omega)).symm
 rw[if_neg (by simpa using h4)]
 rw[iR hk hx.2.2.2.2.2.2.1 (cZ h4).1 (by have:=fh (t:=ag ab x.2.2.1+ag (.sl aq) x.2.2.2.1+ag (.sl (.int .i64)) x.2.2.2.2.2.1) h0;omega),akt]
 rw[dH h4]
 by_cases h5:bY (ag ab x.2.2.1+ag (.sl aq) x.2.2.2.1+ag (.sl (.int .i64)) x.2.2.2.2.2.1+ag (.sl ab) x.2.2.2.2.2.2.1) left<0
 ·rw[if_pos (by simpa using h5)];exact congrArg (fun z=>some (z,())) (cI h5 (by omega)).symm
 rw[if_neg (by simpa using h5)]
theorem Zb {x:List aN} {left:Int} (hx:Fits (.sl al) x) (h0:0≤left) (h1:left≤1048576):tA k (x,left,())=some (bY (ag (.sl al) x) left,()):=
 rY (d:=al.aa) (S:=mr k) hk hx.1 h0 h1 (fun e he l a b=>ZL hk (hx.2 e he) a b)
theorem ou (x:aP):ag aI x=ag ab x.2.2.1+ag (.sl aq) x.2.2.2.1+ag (.sl ab) x.2.2.2.2.2.2.2.1:=by
 obtain⟨x0,x1,x2,x3,x4,x5,x6,x7,x8,x9,x10,x11⟩:=x
 simp only[ag]
 try omega
theorem aaq {x:aP} {left:Int} (hx:Fits aI x) (h0:0≤left) (h1:left≤1048576):mE k (x,left,())=some (bY (ag aI x) left,()):=by
 rw[ou hk]
 simp only[mE]
 rw[CU hk hx.2.2.1 h0 h1,akt]
 by_cases h2:bY (ag ab x.2.2.1) left<0
 ·rw[if_pos (by simpa using h2)];exact congrArg (fun z=>some (z,())) (cI h2 (by omega)).symm
 rw[if_neg (by simpa using h2)]
 rw[pZ hk hx.2.2.2.1 (cZ h2).1 (by have:=fh (t:=ag ab x.2.2.1) h0;omega),akt]
 rw[dH h2]
 by_cases h3:bY (ag ab x.2.2.1+ag (.sl aq) x.2.2.2.1) left<0
 ·rw[if_pos (by simpa using h3)];exact congrArg (fun z=>some (z,())) (cI h3 (by omega)).symm
 rw[if_neg (by simpa using h3)]
 rw[iR hk hx.2.2.2.2.2.2.2.1 (cZ h3).1 (by have:=fh (t:=ag ab x.2.2.1+ag (.sl aq) x.2.2.2.1) h0;omega),akt]
 rw[dH h3]
 by_cases h4:bY (ag ab x.2.2.1+ag (.sl aq) x.2.2.2.1+ag (.sl ab) x.2.2.2.2.2.2.2.1) left<0
 ·rw[if_pos (by simpa using h4)];exact congrArg (fun z=>some (z,())) (cI h4 (by omega)).symm
 rw[if_neg (by simpa using h4)]
theorem YN {x:List aP} {left:Int} (hx:Fits (.sl aI) x) (h0:0≤left) (h1:left≤1048576):tO k (x,left,())=some (bY (ag (.sl aI) x) left,()):=
 rY (d:=aI.aa) (S:=mE k) hk hx.1 h0 h1 (fun e he l a b=>aaq hk (hx.2 e he) a b)
theorem nR (x:ak):ag az x=ag bQ x.1+ag (.sl aj) x.2.2.2.1+ag (.sl aW) x.2.2.2.2.1+ag (.sl ab) x.2.2.2.2.2.1+ag (.sl ah) x.2.2.2.2.2.2.2.1+ag (.sl aw) x.2.2.2.2.2.2.2.2.2.1+ag (.sl aX) x.2.2.2.2.2.2.2.2.2.2.1+ag (.sl ab) x.2.2.2.2.2.2.2.2.2.2.2.1+ag (.sl al) x.2.2.2.2.2.2.2.2.2.2.2.2.1+ag (.sl aI) x.2.2.2.2.2.2.2.2.2.2.2.2.2:=by
 obtain⟨x0,x1,x2,x3,x4,x5,x6,x7,x8,x9,x10,x11,x12,x13⟩:=x
 simp only[ag]
 try omega
theorem YC {x:ak} {left:Int} (hx:Fits az x) (h0:0≤left) (h1:left≤1048576):oE k (x,left,())=some (bY (ag az x) left,()):=by
 rw[nR hk]
 simp only[oE]
 rw[ZY hk hx.1 h0 h1,akt]
 by_cases h2:bY (ag bQ x.1) left<0
 ·rw[if_pos (by simpa using h2)];exact congrArg (fun z=>some (z,())) (cI h2 (by omega)).symm
 rw[if_neg (by simpa using h2)]
 rw[Yn hk hx.2.2.2.1 (cZ h2).1 (by have:=fh (t:=ag bQ x.1) h0;omega),akt]
 rw[dH h2]
 by_cases h3:bY (ag bQ x.1+ag (.sl aj) x.2.2.2.1) left<0
 ·rw[if_pos (by simpa using h3)];exact congrArg (fun z=>some (z,())) (cI h3 (by omega)).symm
 rw[if_neg (by simpa using h3)]
 rw[aaP hk hx.2.2.2.2.1 (cZ h3).1 (by have:=fh (t:=ag bQ x.1+ag (.sl aj) x.2.2.2.1) h0;omega),akt]
 rw[dH h3]
 by_cases h4:bY (ag bQ x.1+ag (.sl aj) x.2.2.2.1+ag (.sl aW) x.2.2.2.2.1) left<0
 ·rw[if_pos (by simpa using h4)];exact congrArg (fun z=>some (z,())) (cI h4 (by omega)).symm
 rw[if_neg (by simpa using h4)]
 rw[iR hk hx.2.2.2.2.2.1 (cZ h4).1 (by have:=fh (t:=ag bQ x.1+ag (.sl aj) x.2.2.2.1+ag (.sl aW) x.2.2.2.2.1) h0;omega),akt]
 rw[dH h4]
 by_cases h5:bY (ag bQ x.1+ag (.sl aj) x.2.2.2.1+ag (.sl aW) x.2.2.2.2.1+ag (.sl ab) x.2.2.2.2.2.1) left<0
 ·rw[if_pos (by simpa using h5)];exact congrArg (fun z=>some (z,())) (cI h5 (by omega)).symm
 rw[if_neg (by simpa using h5)]
 rw[Wl hk hx.2.2.2.2.2.2.2.1 (cZ h5).1 (by have:=fh (t:=ag bQ x.1+ag (.sl aj) x.2.2.2.1+ag (.sl aW) x.2.2.2.2.1+ag (.sl ab) x.2.2.2.2.2.1) h0;omega),akt]
 rw[dH h5]
 by_cases h6:bY (ag bQ x.1+ag (.sl aj) x.2.2.2.1+ag (.sl aW) x.2.2.2.2.1+ag (.sl ab) x.2.2.2.2.2.1+ag (.sl ah) x.2.2.2.2.2.2.2.1) left<0
 ·rw[if_pos (by simpa using h6)];exact congrArg (fun z=>some (z,())) (cI h6 (by omega)).symm
 rw[if_neg (by simpa using h6)]
 rw[WA hk hx.2.2.2.2.2.2.2.2.2.1 (cZ h6).1 (by have:=fh (t:=ag bQ x.1+ag (.sl aj) x.2.2.2.1+ag (.sl aW) x.2.2.2.2.1+ag (.sl ab) x.2.2.2.2.2.1+ag (.sl ah) x.2.2.2.2.2.2.2.1) h0;omega),akt]
 rw[dH h6]
 by_cases h7:bY (ag bQ x.1+ag (.sl aj) x.2.2.2.1+ag (.sl aW) x.2.2.2.2.1+ag (.sl ab) x.2.2.2.2.2.1+ag (.sl ah) x.2.2.2.2.2.2.2.1+ag (.sl aw) x.2.2.2.2.2.2.2.2.2.1) left<0
 ·rw[if_pos (by simpa using h7)];exact congrArg (fun z=>some (z,())) (cI h7 (by omega)).symm
 rw[if_neg (by simpa using h7)]
 rw[WM hk hx.2.2.2.2.2.2.2.2.2.2.1 (cZ h7).1 (by have:=fh (t:=ag bQ x.1+ag (.sl aj) x.2.2.2.1+ag (.sl aW) x.2.2.2.2.1+ag (.sl ab) x.2.2.2.2.2.1+ag (.sl ah) x.2.2.2.2.2.2.2.1+ag (.sl aw) x.2.2.2.2.2.2.2.2.2.1) h0;omega),akt]
 rw[dH h7]
 by_cases h8:bY (ag bQ x.1+ag (.sl aj) x.2.2.2.1+ag (.sl aW) x.2.2.2.2.1+ag (.sl ab) x.2.2.2.2.2.1+ag (.sl ah) x.2.2.2.2.2.2.2.1+ag (.sl aw) x.2.2.2.2.2.2.2.2.2.1+ag (.sl aX) x.2.2.2.2.2.2.2.2.2.2.1) left<0
 ·rw[if_pos (by simpa using h8)];exact congrArg (fun z=>some (z,())) (cI h8 (by omega)).symm
 rw[if_neg (by simpa using h8)]
 rw[iR hk hx.2.2.2.2.2.2.2.2.2.2.2.1 (cZ h8).1 (by have:=fh (t:=ag bQ x.1+ag (.sl aj) x.2.2.2.1+ag (.sl aW) x.2.2.2.2.1+ag (.sl ab) x.2.2.2.2.2.1+ag (.sl ah) x.2.2.2.2.2.2.2.1+ag (.sl aw) x.2.2.2.2.2.2.2.2.2.1+ag (.sl aX) x.2.2.2.2.2.2.2.2.2.2.1) h0;omega),akt]
 rw[dH h8]
 by_cases h9:bY (ag bQ x.1+ag (.sl aj) x.2.2.2.1+ag (.sl aW) x.2.2.2.2.1+ag (.sl ab) x.2.2.2.2.2.1+ag (.sl ah) x.2.2.2.2.2.2.2.1+ag (.sl aw) x.2.2.2.2.2.2.2.2.2.1+ag (.sl aX) x.2.2.2.2.2.2.2.2.2.2.1+ag (.sl ab) x.2.2.2.2.2.2.2.2.2.2.2.1) left<0
 ·rw[if_pos (by simpa using h9)];exact congrArg (fun z=>some (z,())) (cI h9 (by omega)).symm
 rw[if_neg (by simpa using h9)]
 rw[Zb hk hx.2.2.2.2.2.2.2.2.2.2.2.2.1 (cZ h9).1 (by have:=fh (t:=ag bQ x.1+ag (.sl aj) x.2.2.2.1+ag (.sl aW) x.2.2.2.2.1+ag (.sl ab) x.2.2.2.2.2.1+ag (.sl ah) x.2.2.2.2.2.2.2.1+ag (.sl aw) x.2.2.2.2.2.2.2.2.2.1+ag (.sl aX) x.2.2.2.2.2.2.2.2.2.2.1+ag (.sl ab) x.2.2.2.2.2.2.2.2.2.2.2.1) h0;omega),akt]
 rw[dH h9]
 by_cases h10:bY (ag bQ x.1+ag (.sl aj) x.2.2.2.1+ag (.sl aW) x.2.2.2.2.1+ag (.sl ab) x.2.2.2.2.2.1+ag (.sl ah) x.2.2.2.2.2.2.2.1+ag (.sl aw) x.2.2.2.2.2.2.2.2.2.1+ag (.sl aX) x.2.2.2.2.2.2.2.2.2.2.1+ag (.sl ab) x.2.2.2.2.2.2.2.2.2.2.2.1+ag (.sl al) x.2.2.2.2.2.2.2.2.2.2.2.2.1) left<0
 ·rw[if_pos (by simpa using h10)];exact congrArg (fun z=>some (z,())) (cI h10 (by omega)).symm
 rw[if_neg (by simpa using h10)]
 rw[YN hk hx.2.2.2.2.2.2.2.2.2.2.2.2.2 (cZ h10).1 (by have:=fh (t:=ag bQ x.1+ag (.sl aj) x.2.2.2.1+ag (.sl aW) x.2.2.2.2.1+ag (.sl ab) x.2.2.2.2.2.1+ag (.sl ah) x.2.2.2.2.2.2.2.1+ag (.sl aw) x.2.2.2.2.2.2.2.2.2.1+ag (.sl aX) x.2.2.2.2.2.2.2.2.2.2.1+ag (.sl ab) x.2.2.2.2.2.2.2.2.2.2.2.1+ag (.sl al) x.2.2.2.2.2.2.2.2.2.2.2.2.1) h0;omega),akt]
 rw[dH h10]
 by_cases h11:bY (ag bQ x.1+ag (.sl aj) x.2.2.2.1+ag (.sl aW) x.2.2.2.2.1+ag (.sl ab) x.2.2.2.2.2.1+ag (.sl ah) x.2.2.2.2.2.2.2.1+ag (.sl aw) x.2.2.2.2.2.2.2.2.2.1+ag (.sl aX) x.2.2.2.2.2.2.2.2.2.2.1+ag (.sl ab) x.2.2.2.2.2.2.2.2.2.2.2.1+ag (.sl al) x.2.2.2.2.2.2.2.2.2.2.2.2.1+ag (.sl aI) x.2.2.2.2.2.2.2.2.2.2.2.2.2) left<0
 ·rw[if_pos (by simpa using h11)];exact congrArg (fun z=>some (z,())) (cI h11 (by omega)).symm
 rw[if_neg (by simpa using h11)]
theorem T5 {x:List ByteArray} (h:ag (.sl .str) x≤1048576):qV k (x,())=some (x,()):=
 aaJ (d:=ByteArray.empty) hk (aku (ar (e:= .str)) h)
theorem Z5 {x:bT} (h:ag bQ x≤1048576):ql k (x,())=some (x,()):=by
 rw[ku hk]at h
 simp only[ql]
 rw[T5 hk (by omega)]
 try rfl
theorem YK {x:ay} (h:ag aq x≤1048576):lJ k (x,())=some (x,()):=by
 rw[uK hk]at h
 simp only[lJ]
 try rfl
theorem pS {x:List ay} (h:ag (.sl aq) x≤1048576):fN k (x,())=some (x,()):=
 nZ (d:=aq.aa) (S:=lJ k) hk (aku (ar (e:=aq)) h) (fun e he=>YK hk (aku (bo (e:=aq) he) h))
theorem CA {x:af} (h:ag ab x≤1048576):gD k (x,())=some (x,()):=by
 rw[bG hk]at h
 simp only[gD]
 rw[pS hk (by omega)]
 try rfl
theorem iU {x:List af} (h:ag (.sl ab) x≤1048576):dI k (x,())=some (x,()):=
 nZ (d:=ab.aa) (S:=gD k) hk (aku (ar (e:=ab)) h) (fun e he=>CA hk (aku (bo (e:=ab) he) h))
theorem Y1 {x:aO} (h:ag ax x≤1048576):lA k (x,())=some (x,()):=by
 rw[cE hk]at h
 simp only[lA]
 rw[iU hk (by omega)]
 try rfl
theorem Wb {x:List aO} (h:ag (.sl ax) x≤1048576):rM k (x,())=some (x,()):=
 nZ (d:=ax.aa) (S:=lA k) hk (aku (ar (e:=ax)) h) (fun e he=>Y1 hk (aku (bo (e:=ax) he) h))
theorem aah {x:aG} (h:ag aj x≤1048576):mB k (x,())=some (x,()):=by
 rw[cM hk]at h
 simp only[mB]
 rw[Wb hk (by omega)]
 try rfl
theorem YF {x:List aG} (h:ag (.sl aj) x≤1048576):th k (x,())=some (x,()):=
 nZ (d:=aj.aa) (S:=mB k) hk (aku (ar (e:=aj)) h) (fun e he=>aah hk (aku (bo (e:=aj) he) h))
theorem abH {x:bp} (h:ag aW x≤1048576):og k (x,())=some (x,()):=by
 rw[pz hk]at h
 simp only[og]
 rw[iU hk (by omega)]
 try rfl
theorem Z8 {x:List bp} (h:ag (.sl aW) x≤1048576):vg k (x,())=some (x,()):=
 nZ (d:=aW.aa) (S:=og k) hk (aku (ar (e:=aW)) h) (fun e he=>abH hk (aku (bo (e:=aW) he) h))
theorem YH {x:aD} (h:ag ah x≤1048576):kY k (x,())=some (x,()):=by
 rw[dB hk]at h
 simp only[kY]
 rw[pS hk (by omega),iU hk (by omega)]
 try rfl
theorem WU {x:List aD} (h:ag (.sl ah) x≤1048576):rD k (x,())=some (x,()):=
 nZ (d:=ah.aa) (S:=kY k) hk (aku (ar (e:=ah)) h) (fun e he=>YH hk (aku (bo (e:=ah) he) h))
theorem RZ (x:aJ):ag aw x=0:=by
 obtain⟨x0,x1⟩:=x
 simp only[ag]
 try omega
theorem YR {x:aJ} (h:ag aw x≤1048576):kV k (x,())=some (x,()):=by
 rw[RZ hk]at h
 simp only[kV]
 try rfl
theorem Ww {x:List aJ} (h:ag (.sl aw) x≤1048576):sB k (x,())=some (x,()):=
 nZ (d:=aw.aa) (S:=kV k) hk (aku (ar (e:=aw)) h) (fun e he=>YR hk (aku (bo (e:=aw) he) h))
theorem Yh {x:bm} (h:ag aX x≤1048576):kU k (x,())=some (x,()):=by
 rw[lP hk]at h
 simp only[kU]
 rw[pS hk (by omega),iU hk (by omega)]
 try rfl
theorem Wc {x:List bm} (h:ag (.sl aX) x≤1048576):sE k (x,())=some (x,()):=
 nZ (d:=aX.aa) (S:=kU k) hk (aku (ar (e:=aX)) h) (fun e he=>Yh hk (aku (bo (e:=aX) he) h))
theorem ZX {x:List Int} (h:ag (.sl (.int .i64)) x≤1048576):u6 k (x,())=some (x,()):=
 aaJ (d:=0) hk (aku (ar (e:=(.int .i64))) h)
theorem aaf {x:aN} (h:ag al x≤1048576):mH k (x,())=some (x,()):=by
 rw[cP hk]at h
 simp only[mH]
 rw[CA hk (by omega),pS hk (by omega),ZX hk (by omega),iU hk (by omega)]
 try rfl
theorem X1 {x:List aN} (h:ag (.sl al) x≤1048576):tB k (x,())=some (x,()):=
 nZ (d:=al.aa) (S:=mH k) hk (aku (ar (e:=al)) h) (fun e he=>aaf hk (aku (bo (e:=al) he) h))
theorem ZM {x:aP} (h:ag aI x≤1048576):mo k (x,())=some (x,()):=by
 rw[ou hk]at h
 simp only[mo]
 rw[CA hk (by omega),pS hk (by omega),iU hk (by omega)]
 try rfl
theorem YI {x:List aP} (h:ag (.sl aI) x≤1048576):tu k (x,())=some (x,()):=
 nZ (d:=aI.aa) (S:=mo k) hk (aku (ar (e:=aI)) h) (fun e he=>ZM hk (aku (bo (e:=aI) he) h))
theorem Zl {x:ak} (h:ag az x≤1048576):jf k (x,())=some (x,()):=by
 rw[nR hk]at h
 simp only[jf]
 rw[Z5 hk (by omega),YF hk (by omega),Z8 hk (by omega),iU hk (by omega),WU hk (by omega),Ww hk (by omega),Wc hk (by omega),iU hk (by omega),X1 hk (by omega),YI hk (by omega)]
 try rfl
theorem Vc {x:List ByteArray} (h:ag (.sl .str) x≤1073741824):qQ k (x,x,())=some (true,()):=
 adB hk (aku (aku (ar (e:= .str)) h) (by omega))
theorem ZE {x:bT} (h:ag bQ x≤1073741824):qF k (x,x,())=some (true,()):=by
 rw[ku hk]at h
 simp only[qF]
 rw[Vc hk (by omega)]
 simp
theorem Yz {x:ay} (h:ag aq x≤1073741824):lF k (x,x,())=some (true,()):=by
 rw[uK hk]at h
 simp only[lF]
 simp
theorem qf {x:List ay} (h:ag (.sl aq) x≤1073741824):fI k (x,x,())=some (true,()):=
 mG (d:=aq.aa) (S:=lF k) hk (aku (aku (ar (e:=aq)) h) (by omega)) (fun e he=>Yz hk (aku (bo (e:=aq) he) h))
theorem CG {x:af} (h:ag ab x≤1073741824):gE k (x,x,())=some (true,()):=by
 rw[bG hk]at h
 simp only[gE]
 rw[qf hk (by omega)]
 simp
theorem iT {x:List af} (h:ag (.sl ab) x≤1073741824):dM k (x,x,())=some (true,()):=
 mG (d:=ab.aa) (S:=gE k) hk (aku (aku (ar (e:=ab)) h) (by omega)) (fun e he=>CG hk (aku (bo (e:=ab) he) h))
theorem Yg {x:aO} (h:ag ax x≤1073741824):kW k (x,x,())=some (true,()):=by
 rw[cE hk]at h
 simp only[kW]
 rw[iT hk (by omega)]
 simp
theorem WL {x:List aO} (h:ag (.sl ax) x≤1073741824):rO k (x,x,())=some (true,()):=
 mG (d:=ax.aa) (S:=kW k) hk (aku (aku (ar (e:=ax)) h) (by omega)) (fun e he=>Yg hk (aku (bo (e:=ax) he) h))
theorem aaj {x:aG} (h:ag aj x≤1073741824):mz k (x,x,())=some (true,()):=by
 rw[cM hk]at h
 simp only[mz]
 rw[WL hk (by omega)]
 simp
theorem YS {x:List aG} (h:ag (.sl aj) x≤1073741824):tz k (x,x,())=some (true,()):=
 mG (d:=aj.aa) (S:=mz k) hk (aku (aku (ar (e:=aj)) h) (by omega)) (fun e he=>aaj hk (aku (bo (e:=aj) he) h))
theorem abh {x:bp} (h:ag aW x≤1073741824):oc k (x,x,())=some (true,()):=by
 rw[pz hk]at h
 simp only[oc]
 rw[iT hk (by omega)]
 simp
theorem aae {x:List bp} (h:ag (.sl aW) x≤1073741824):uW k (x,x,())=some (true,()):=
 mG (d:=aW.aa) (S:=oc k) hk (aku (aku (ar (e:=aW)) h) (by omega)) (fun e he=>abh hk (aku (bo (e:=aW) he) h))
theorem XQ {x:aD} (h:ag ah x≤1073741824):lI k (x,x,())=some (true,()):=by
 rw[dB hk]at h
 simp only[lI]
 rw[qf hk (by omega),iT hk (by omega)]
 simp
theorem Wa {x:List aD} (h:ag (.sl ah) x≤1073741824):rN k (x,x,())=some (true,()):=
 mG (d:=ah.aa) (S:=lI k) hk (aku (aku (ar (e:=ah)) h) (by omega)) (fun e he=>XQ hk (aku (bo (e:=ah) he) h))
theorem YG {x:aJ} (h:ag aw x≤1073741824):lk k (x,x,())=some (true,()):=by
 rw[RZ hk]at h
 simp only[lk]
 simp
theorem Wj {x:List aJ} (h:ag (.sl aw) x≤1073741824):sS k (x,x,())=some (true,()):=
 mG (d:=aw.aa) (S:=lk k) hk (aku (aku (ar (e:=aw)) h) (by omega)) (fun e he=>YG hk (aku (bo (e:=aw) he) h))
theorem Zg {x:bm} (h:ag aX x≤1073741824):lq k (x,x,())=some (true,()):=by
 rw[lP hk]at h
 simp only[lq]
 rw[qf hk (by omega),iT hk (by omega)]
 simp
theorem W5 {x:List bm} (h:ag (.sl aX) x≤1073741824):sK k (x,x,())=some (true,()):=
 mG (d:=aX.aa) (S:=lq k) hk (aku (aku (ar (e:=aX)) h) (by omega)) (fun e he=>Zg hk (aku (bo (e:=aX) he) h))
theorem Zo {x:List Int} (h:ag (.sl (.int .i64)) x≤1073741824):u4 k (x,x,())=some (true,()):=
 ad5 hk (aku (aku (ar (e:=(.int .i64))) h) (by omega))
theorem Zt {x:aN} (h:ag al x≤1073741824):mM k (x,x,())=some (true,()):=by
 rw[cP hk]at h
 simp only[mM]
 rw[CG hk (by omega),qf hk (by omega),Zo hk (by omega),iT hk (by omega)]
 simp
theorem X6 {x:List aN} (h:ag (.sl al) x≤1073741824):tf k (x,x,())=some (true,()):=
 mG (d:=al.aa) (S:=mM k) hk (aku (aku (ar (e:=al)) h) (by omega)) (fun e he=>Zt hk (aku (bo (e:=al) he) h))
theorem ZW {x:aP} (h:ag aI x≤1073741824):mI k (x,x,())=some (true,()):=by
 rw[ou hk]at h
 simp only[mI]
 rw[CG hk (by omega),qf hk (by omega),iT hk (by omega)]
 simp
theorem YM {x:List aP} (h:ag (.sl aI) x≤1073741824):tv k (x,x,())=some (true,()):=
 mG (d:=aI.aa) (S:=mI k) hk (aku (aku (ar (e:=aI)) h) (by omega)) (fun e he=>ZW hk (aku (bo (e:=aI) he) h))
theorem YE {x:ak} (h:ag az x≤1073741824):o9 k (x,x,())=some (true,()):=by
 rw[nR hk]at h
 simp only[o9]
 rw[ZE hk (by omega),YS hk (by omega),aae hk (by omega),iT hk (by omega),Wa hk (by omega),Wj hk (by omega),W5 hk (by omega),iT hk (by omega),X6 hk (by omega),YM hk (by omega)]
 simp
end
def Kj (s:ByteArray) (i:Nat):Bool:=decide (97≤bt s i)&&decide (bt s i≤122)
def gk (s:ByteArray):Bool:=decide (1≤s.size∧s.size≤8)&&bj 0 s.size (Kj s)
def wK (s:ByteArray) (i:Nat):Bool:=decide (32≤bt s i∧bt s i≤126∧bt s i≠34∧bt s i≠92)
def mV (s:ByteArray):Bool:=decide (s.size≤12)&&bj 0 s.size (wK s)
def iv (x:ay):Bool:=gk x.1&&mV x.2
def IT (l:List ay) (i:Nat):Bool:=i==0||nz (l.getD (i-1) aq.aa).1 (l.getD i aq.aa).1
def fZ (l:List ay):Bool:=decide (l.length≤4)&&bj 0 l.length (fun i=>iv (l.getD i aq.aa)&&IT l i)
section
variable {k:Nat} (hk:9223372036854775808≤k)
include hk
theorem Bl {s:ByteArray} (hs:s.size≤1048576):mJ k (s,())=some (gk s,()):=by
 simp only[mJ,aL]
 rw[show((s,(0:Int),()):ByteArray×Int×Unit)=(fun i:Nat=>(s,(i:Int),())) 0 from rfl]
 rw[ch (fun i:Nat=>(s,(i:Int),())) (Kj s) s.size (e:=some (decide (1≤s.size∧s.size≤8),())) (no:=some (false,())) ?_ ?_ k 0 (by omega)]
 ·unfold gk
  cases bj 0 s.size (Kj s)<;>simp
 ·intro G i hi
  simp only
  rw[aF,decide_eq_true hi,if_pos rfl,if_pos (au hi),au hi,akA,if_pos rfl,aU (by omega)]
  unfold Kj
  by_cases h1:bt s i<97<;>by_cases h2:bt s i>122<;>simp[h1,h2]<;>omega
 ·intro G i hi
  simp only
  rw[aF,decide_eq_false (by omega),if_neg (by simp)]
  simp only[bX,akt]
  congr 2
  rw[aky]
  simp
  omega
theorem zY {s:ByteArray} (hs:s.size≤1048576):mN k (s,())=some (gk s,()):=by
 simp only[mN,bN,akt]
 by_cases hb:1≤s.size∧s.size≤8
 ·rw[if_neg (by simp;omega)]
  rw[show((s,(0:Int),()):ByteArray×Int×Unit)=(fun i:Nat=>(s,(i:Int),())) 0 from rfl]
  rw[ch (fun i:Nat=>(s,(i:Int),())) (Kj s) s.size (e:=some (true,())) (no:=some (false,())) ?_ ?_ k 0 (by omega)]
  ·unfold gk
   cases bj 0 s.size (Kj s)<;>simp[hb]
  ·intro G i hi
   simp only
   rw[aF,decide_eq_true hi,if_pos rfl,if_pos (au hi),au hi,akA,if_pos rfl,aU (by omega)]
   unfold Kj
   by_cases h1:bt s i<97<;>by_cases h2:bt s i>122<;>simp[h1,h2]<;>omega
  ·intro G i hi
   simp only
   rw[aF,decide_eq_false (by omega),if_neg (by simp)]
 ·rw[if_pos (by simp;omega)]
  unfold gk
  simp[hb]
theorem xH {s:ByteArray} (hs:s.size≤1048576):kR k (s,())=some (mV s,()):=by
 simp only[kR,aL]
 rw[show((s,(0:Int),()):ByteArray×Int×Unit)=(fun i:Nat=>(s,(i:Int),())) 0 from rfl]
 rw[ch (fun i:Nat=>(s,(i:Int),())) (wK s) s.size (e:=some (decide (s.size≤12),())) (no:=some (false,())) ?_ ?_ k 0 (by omega)]
 ·unfold mV
  cases bj 0 s.size (wK s)<;>simp
 ·intro G i hi
  simp only
  rw[aF,decide_eq_true hi,if_pos rfl,if_pos (au hi),au hi,akA,if_pos rfl,akA,if_pos rfl,akA,if_pos rfl,aU (by omega)]
  unfold wK
  by_cases h1:bt s i<32<;>by_cases h2:bt s i>126<;>by_cases h3:bt s i=34<;>by_cases h4:bt s i=92<;>simp[h1,h2,h3,h4]<;>omega
 ·intro G i hi
  simp only
  rw[aF,decide_eq_false (by omega),if_neg (by simp)]
  congr 2
  rw[aky]
  simp
  omega
theorem yK {s:ByteArray} (hs:s.size≤1048576):ly k (s,())=some (mV s,()):=by
 simp only[ly]
 by_cases hb:s.size≤12
 ·rw[if_neg (by simp;omega)]
  rw[show((s,(0:Int),()):ByteArray×Int×Unit)=(fun i:Nat=>(s,(i:Int),())) 0 from rfl]
  rw[ch (fun i:Nat=>(s,(i:Int),())) (wK s) s.size (e:=some (true,())) (no:=some (false,())) ?_ ?_ k 0 (by omega)]
  ·unfold mV
   cases bj 0 s.size (wK s)<;>simp[hb]
  ·intro G i hi
   simp only
   rw[aF,decide_eq_true hi,if_pos rfl,if_pos (au hi),aU (by omega)]
   unfold wK
   by_cases h1:bt s i<32<;>by_cases h2:bt s i>126<;>by_cases h3:bt s i=34<;>by_cases h4:bt s i=92<;>simp[h1,h2,h3,h4]<;>omega
  ·intro G i hi
   simp only
   rw[aF,decide_eq_false (by omega),if_neg (by simp)]
 ·rw[if_pos (by simp;omega)]
  unfold mV
  simp[hb]
theorem N2 {x:ay} (hs:ag aq x≤1048576):ph k (x,())=some (iv x,()):=by
 rw[uK hk]at hs
 simp only[ph]
 rw[Bl hk (by omega),xH hk (by omega)]
 simp only[cf,akt,iv]
 cases gk x.1<;>simp
theorem NJ {x:ay} (hs:ag aq x≤1048576):pq k (x,())=some (iv x,()):=by
 rw[uK hk]at hs
 simp only[pq]
 rw[zY hk (by omega),yK hk (by omega)]
 simp only[cf,akt,iv]
 cases gk x.1<;>simp
theorem qE {l:List ay} (hs:ag (.sl aq) l≤1048576):jo k (l,())=some (fZ l,()):=by
 have hl:=ar (e:=aq) (l:=l)
 simp only[jo,aL]
 rw[show((l,(0:Int),()):List ay×Int×Unit)=(fun i:Nat=>(l,(i:Int),())) 0 from rfl]
 rw[ch (fun i:Nat=>(l,(i:Int),())) (fun i=>iv (l.getD i aq.aa)&&IT l i) l.length (e:=some (decide (l.length≤4),())) (no:=some (false,())) ?_ ?_ k 0 (by omega)]
 ·unfold fZ
  cases bj 0 l.length (fun i=>iv (l.getD i aq.aa)&&IT l i)<;>simp
 ·intro G i hi
  simp only[akv]
  have hm:ag aq (l.getD i aq.aa)≤1048576:=aku (bo (e:=aq) (cj hi)) hs
  rw[aF,decide_eq_true hi,if_pos rfl,if_pos (au hi),N2 hk hm,akt,aU (by omega),rZ (by omega)]
  simp only
  rw[if_pos (by simp;omega),if_pos (by simp[hi])]
  simp only[gO,cf,akt]
  rw[show((i:Int)-1).toNat=i-1 by omega]
  unfold IT nz
  cases iv (l.getD i aq.aa)with
  |false=>simp
  |true=>
   by_cases h0:i=0
   ·subst h0;simp
   ·have h0':(0:Int)<(i:Int):=by omega
    have h0n:0<i:=by omega
    cases Op.bytesLess (ByteArray.toList (l.getD (i-1) aq.aa).1) (ByteArray.toList (l.getD i aq.aa).1)<;>simp[h0,h0',h0n]
 ·intro G i hi
  simp only
  rw[aF,decide_eq_false (by omega),if_neg (by simp)]
  congr 2
  rw[aky]
  simp
  omega
theorem qy {l:List ay} (hs:ag (.sl aq) l≤1048576):jq k (l,())=some (fZ l,()):=by
 have hl:=ar (e:=aq) (l:=l)
 simp only[jq]
 rw[show((l,l,(l.length:Int),(0:Int),()):List ay×List ay×Int×Int×Unit)=(fun i:Nat=>(l,l,(l.length:Int),(i:Int),())) 0 from rfl]
 rw[ch (fun i:Nat=>(l,l,(l.length:Int),(i:Int),())) (fun i=>decide (i<4)&&(iv (l.getD i aq.aa)&&IT l i)) l.length (e:=some (true,())) (no:=some (false,())) ?_ ?_ k 0 (by omega)]
 ·unfold fZ
  rw[Ig,Xd]
  cases bj 0 l.length (fun i=>iv (l.getD i aq.aa)&&IT l i)<;>by_cases h:l.length≤4<;>simp[h]
 ·intro G i hi
  simp only[akv]
  have hm:ag aq (l.getD i aq.aa)≤1048576:=aku (bo (e:=aq) (cj hi)) hs
  rw[aF,decide_eq_true hi,if_pos rfl,if_pos (au hi),NJ hk hm,aU (by omega),rZ (by omega)]
  simp only[cf,akt]
  rw[show((i:Int)-1).toNat=i-1 by omega]
  rw[if_pos (by simp;omega)]
  unfold IT nz
  by_cases h4:i<4
  ·have h4':¬(4:Int)≤(i:Int):=by omega
   cases iv (l.getD i aq.aa)with
   |false=>simp[h4,h4']
   |true=>
    by_cases h0:i=0
    ·subst h0;simp
    ·have h0':(0:Int)<(i:Int):=by omega
     have h0n:0<i:=by omega
     cases Op.bytesLess (ByteArray.toList (l.getD (i-1) aq.aa).1) (ByteArray.toList (l.getD i aq.aa).1)<;>simp[h0,h0',h0n,h4,h4']
  ·have h4':(4:Int)≤(i:Int):=by omega
   simp[h4,h4']
 ·intro G i hi
  simp only
  rw[aF,decide_eq_false (by omega),if_neg (by simp)]
end
def bO (n a b:Int):Bool:=decide (a≤n)&&decide (n≤b)
def vT (l:List ByteArray):Bool:=bj 1 l.length (fun i=>nz (l.getD (i-1) ByteArray.empty) (l.getD i ByteArray.empty))
def VP (l:List ByteArray):Bool:=bj 0 l.length (fun i=>gk (l.getD i ByteArray.empty))&&(decide (l.length≤2)&&vT l)
def kc (c:bT):Bool:=bO c.1 1 3&&bO c.2.1 1 8&&bO c.2.2.1 1 2&&bO c.2.2.2.1 1 9&&bO c.2.2.2.2.1 1 9&&VP c.2.2.2.2.2
def cx (a:af):Bool:=fZ a.1&&decide (0<a.1.length)&&bO a.2.1 0 99999&&bO a.2.2.1 a.2.1 99999&&mV a.2.2.2
def cC (l:List af):Bool:=bj 0 l.length (fun i=>cx (l.getD i ab.aa))
theorem A8 (a b:Bool):(if a=true then b else false)=(a&&b):=by cases a<;>rfl
section
variable {k:Nat} (hk:9223372036854775808≤k)
include hk
theorem iJ (n a b:Int):bX k (n,a,b,())=some (bO n a b,()):=by
 simp only[bX,bO,A8]
theorem fK (n a b:Int):bN k (n,a,b,())=some (bO n a b,()):=by
 simp only[bN,bO,A8]
theorem yd {l:List ByteArray} (hl:l.length≤1048576):jc k (l,())=some (vT l,()):=by
 simp only[jc]
 rw[show((l,(1:Int),()):List ByteArray×Int×Unit)=(fun i:Nat=>(l,((i+1:Nat):Int),())) 0 from rfl]
 rw[ch (fun i:Nat=>(l,((i+1:Nat):Int),())) (fun i=>nz (l.getD i ByteArray.empty) (l.getD (i+1) ByteArray.empty)) (l.length-1) (e:=some (true,())) (no:=some (false,())) ?_ ?_ k 0 (by omega)]
 ·have:vT l=bj 0 (l.length-1) (fun i=>nz (l.getD i ByteArray.empty) (l.getD (i+1) ByteArray.empty)):=by
   unfold vT
   rw[aky,eN,eN]
   constructor
   ·intro h i _ h2;have:=h (i+1) (by omega) (by omega);simpa using this
   ·intro h i h1 h2;have:=h (i-1) (by omega) (by omega);rw[show i-1+1=i by omega]at this;exact this
  rw[this]
  cases bj 0 (l.length-1) (fun i=>nz (l.getD i ByteArray.empty) (l.getD (i+1) ByteArray.empty))<;>rfl
 ·intro G i hi
  simp only[akv]
  rw[aF,decide_eq_true (by omega),if_pos rfl,rZ (by omega),aU (by omega)]
  rw[if_pos (by simp;omega),if_pos (by simp;omega)]
  simp only[gO,akt]
  rw[show(((i+1:Nat):Int)-1).toNat=i by omega]
  unfold nz
  cases Op.bytesLess (ByteArray.toList (l.getD i ByteArray.empty)) (ByteArray.toList (l.getD (i+1) ByteArray.empty))<;>simp
 ·intro G i hi
  simp only
  rw[aF,decide_eq_false (by omega),if_neg (by simp)]
theorem YP (l:List ByteArray):pj k (l,())=jc k (l,()):=by
 simp only[jc,pj,gO,akt]
theorem Ut {l:List ByteArray} (hs:ag (.sl .str) l≤1048576):ud k (l,())=some (VP l,()):=by
 have hl:=ar (e:= .str) (l:=l)
 simp only[ud,aL]
 rw[show((l,(0:Int),()):List ByteArray×Int×Unit)=(fun i:Nat=>(l,(i:Int),())) 0 from rfl]
 rw[ch (fun i:Nat=>(l,(i:Int),())) (fun i=>gk (l.getD i ByteArray.empty)) l.length (e:=some (decide (l.length≤2)&&vT l,())) (no:=some (false,())) ?_ ?_ k 0 (by omega)]
 ·unfold VP
  cases bj 0 l.length (fun i=>gk (l.getD i ByteArray.empty))<;>simp
 ·intro G i hi
  simp only[akv]
  have hm:ag .str (l.getD i ByteArray.empty)≤1048576:=aku (bo (e:= .str) (cj hi)) hs
  rw[aF,decide_eq_true hi,if_pos rfl,if_pos (au hi),Bl hk hm,akt,aU (by omega)]
  cases gk (l.getD i ByteArray.empty)<;>simp
 ·intro G i hi
  simp only
  rw[aF,decide_eq_false (by omega),if_neg (by simp),yd hk (by omega)]
  simp only[cf,akt]
  by_cases h:l.length≤2
  ·have h':(l.length:Int)≤2:=by omega
   simp[h,h']
  ·have h':¬(l.length:Int)≤2:=by omega
   simp[h,h']
theorem Vs {l:List ByteArray} (hs:ag (.sl .str) l≤1048576):tY k (l,())=some (VP l,()):=by
 have hl:=ar (e:= .str) (l:=l)
 simp only[tY,aL]
 rw[show((l,l,(l.length:Int),(0:Int),()):List ByteArray×List ByteArray×Int×Int×Unit)=(fun i:Nat=>(l,l,(l.length:Int),(i:Int),())) 0 from rfl]
 rw[ch (fun i:Nat=>(l,l,(l.length:Int),(i:Int),())) (fun i=>gk (l.getD i ByteArray.empty)) l.length (e:=some (decide (l.length≤2)&&vT l,())) (no:=some (false,())) ?_ ?_ k 0 (by omega)]
 ·unfold VP
  cases bj 0 l.length (fun i=>gk (l.getD i ByteArray.empty))<;>simp
 ·intro G i hi
  simp only[akv]
  have hm:ag .str (l.getD i ByteArray.empty)≤1048576:=aku (bo (e:= .str) (cj hi)) hs
  rw[aF,decide_eq_true hi,if_pos rfl,if_pos (au hi),zY hk hm,akt,aU (by omega)]
  cases gk (l.getD i ByteArray.empty)<;>simp
 ·intro G i hi
  simp only
  rw[aF,decide_eq_false (by omega),if_neg (by simp),YP hk,yd hk (by omega)]
  simp only[cf,akt]
  by_cases h:l.length≤2
  ·have h':(l.length:Int)≤2:=by omega
   simp[h,h']
  ·have h':¬(l.length:Int)≤2:=by omega
   simp[h,h']
theorem Pq {c:bT} (hs:ag bQ c≤1048576):qI k (c,())=some (kc c,()):=by
 rw[ku hk]at hs
 simp only[qI,iJ hk,Ut hk hs,cf,akt,kc]
 generalize bO c.1 1 3=b1
 generalize bO c.2.1 1 8=b2
 generalize bO c.2.2.1 1 2=b3
 generalize bO c.2.2.2.1 1 9=b4
 generalize bO c.2.2.2.2.1 1 9=b5
 cases b1<;>cases b2<;>cases b3<;>cases b4<;>cases b5<;>simp
theorem Pd {c:bT} (hs:ag bQ c≤1048576):qz k (c,())=some (kc c,()):=by
 rw[ku hk]at hs
 simp only[qz,fK hk,Vs hk hs,cf,akt,kc]
 generalize bO c.1 1 3=b1
 generalize bO c.2.1 1 8=b2
 generalize bO c.2.2.1 1 2=b3
 generalize bO c.2.2.2.1 1 9=b4
 generalize bO c.2.2.2.2.1 1 9=b5
 cases b1<;>cases b2<;>cases b3<;>cases b4<;>cases b5<;>simp
theorem Xv (l:List ay):decide ((l.length:Int)>0)=decide (0<l.length):=by simp
theorem ic {a:af} (hs:ag ab a≤1048576):ep k (a,())=some (cx a,()):=by
 rw[bG hk]at hs
 simp only[ep,iJ hk,qE hk (show ag (.sl aq) a.1≤1048576 by omega),xH hk (show a.2.2.2.size≤1048576 by omega),cf,akt,cx,Xv hk]
 generalize fZ a.1=b1
 generalize decide (0<a.1.length)=b2
 generalize bO a.2.1 0 99999=b3
 generalize bO a.2.2.1 a.2.1 99999=b4
 cases b1<;>cases b2<;>cases b3<;>cases b4<;>simp
theorem km {a:af} (hs:ag ab a≤1048576):eS k (a,())=some (cx a,()):=by
 rw[bG hk]at hs
 simp only[eS,fK hk,qy hk (show ag (.sl aq) a.1≤1048576 by omega),yK hk (show a.2.2.2.size≤1048576 by omega),cf,akt,cx,Xv hk]
 generalize fZ a.1=b1
 generalize decide (0<a.1.length)=b2
 generalize bO a.2.1 0 99999=b3
 generalize bO a.2.2.1 a.2.1 99999=b4
 cases b1<;>cases b2<;>cases b3<;>cases b4<;>simp
theorem tJ {l:List af} (hs:ag (.sl ab) l≤1048576):jH k (l,())=some (cC l,()):=by
 have hl:=ar (e:=ab) (l:=l)
 simp only[jH]
 rw[show((l,(0:Int),()):List af×Int×Unit)=(fun i:Nat=>(l,(i:Int),())) 0 from rfl]
 rw[ch (fun i:Nat=>(l,(i:Int),())) (fun i=>cx (l.getD i ab.aa)) l.length (e:=some (true,())) (no:=some (false,())) ?_ ?_ k 0 (by omega)]
 ·unfold cC
  cases bj 0 l.length (fun i=>cx (l.getD i ab.aa))<;>simp
 ·intro G i hi
  simp only[akv]
  have hm:ag ab (l.getD i ab.aa)≤1048576:=aku (bo (e:=ab) (cj hi)) hs
  rw[aF,decide_eq_true hi,if_pos rfl,if_pos (au hi),ic hk hm,akt,aU (by omega)]
  cases cx (l.getD i ab.aa)<;>simp
 ·intro G i hi
  simp only
  rw[aF,decide_eq_false (by omega),if_neg (by simp)]
theorem mg {l:List af} (hs:ag (.sl ab) l≤1048576):fP k (l,())=some (cC l,()):=by
 have hl:=ar (e:=ab) (l:=l)
 simp only[fP]
 rw[show((l,(l.length:Int),(0:Int),()):List af×Int×Int×Unit)=(fun i:Nat=>(l,(l.length:Int),(i:Int),())) 0 from rfl]
 rw[ch (fun i:Nat=>(l,(l.length:Int),(i:Int),())) (fun i=>cx (l.getD i ab.aa)) l.length (e:=some (true,())) (no:=some (false,())) ?_ ?_ k 0 (by omega)]
 ·unfold cC
  cases bj 0 l.length (fun i=>cx (l.getD i ab.aa))<;>simp
 ·intro G i hi
  simp only[akv]
  have hm:ag ab (l.getD i ab.aa)≤1048576:=aku (bo (e:=ab) (cj hi)) hs
  rw[aF,decide_eq_true hi,if_pos rfl,if_pos (au hi),km hk hm,akt,aU (by omega)]
  cases cx (l.getD i ab.aa)<;>simp
 ·intro G i hi
  simp only
  rw[aF,decide_eq_false (by omega),if_neg (by simp)]
end
def hasB (by_:List ByteArray) (s:ByteArray):Bool:= !bj 0 by_.length (fun i=> !((by_.getD i ByteArray.empty).toList==s.toList))
def keyOf (a:af) (by_:List ByteArray):List ay:=a.1.filter (fun x=>hasB by_ x.1)
def CH (l:List af) (i:Nat):Bool:=i==0||bD (l.getD (i-1) ab.aa).1 (l.getD i ab.aa).1
def As (l:List af) (key:List ay) (by_:List ByteArray):Bool:=
 bj 0 l.length (fun i=>cx (l.getD i ab.aa)&&(decide (keyOf (l.getD i ab.aa) by_=key)&&CH l i))
def kX (g:aD) (by_:List ByteArray):Bool:=
 decide (0≤g.1)&&(fZ g.2.1&&(bO g.2.2.1 0 99999&&((decide (g.2.2.2.1= -1)||bO g.2.2.2.1 g.2.2.1 99999)&&(decide (0<g.2.2.2.2.length)&&As g.2.2.2.2 g.2.1 by_))))
def Jp (l:List aD) (i:Nat):Bool:=i==0||decide ((l.getD (i-1) ah.aa).1<(l.getD i ah.aa).1)
def pR (l:List aD) (i:Nat):Bool:=bj 0 i (fun j=> !decide ((l.getD j ah.aa).2.1=(l.getD i ah.aa).2.1))
def qU (l:List aD) (by_:List ByteArray):Bool:=
 decide (l.length≤12)&&bj 0 l.length (fun i=>kX (l.getD i ah.aa) by_&&(Jp l i&&pR l i))
def ue (s:bp):Bool:=decide (s.1.length≤3)&&((!s.2||decide (s.1.length=0))&&cC s.1)
def mO (a:af):Bool:=cx a&&decide (a.2.2.1≤99899)
section
variable {k:Nat} (hk:9223372036854775808≤k)
include hk
theorem dN {a b:List ay} (ha:a.length≤1048576):cH k (a,b,())=some (decide (a=b),()):=by
 simp only[cH]
 by_cases hl:a.length=b.length
 ·rw[if_neg (by simp[hl])]
  rw[iA (g:=fun(s:List ay×List ay×Int×Unit)=>some (decide (a.drop s.2.2.1.toNat=b.drop s.2.2.1.toNat),())) (m:=fun(s:List ay×List ay×Int×Unit)=>a.length-s.2.2.1.toNat)
   (I:=fun(s:List ay×List ay×Int×Unit)=>s.1=a∧s.2.1=b∧0≤s.2.2.1∧s.2.2.1≤(a.length:Int))]
  ·simp
  ·rintro G ⟨a',b',i,u⟩ ⟨e1,e2,hi0,hi1⟩ hG
   change a'=a at e1
   change b'=b at e2
   subst e1 e2
   simp only at hi0 hi1 hG⊢
   by_cases hi:i<(a'.length:Int)
   ·have h1:i.toNat<a'.length:=by omega
    have h2:i.toNat<b'.length:=by omega
    rw[if_pos (by simpa using hi),if_pos (by simpa using⟨hi0,hi⟩),if_pos (by simpa using⟨hi0,by omega⟩)]
    rw[eu (d:=aq.aa) h1,eu (d:=aq.aa) h2]
    by_cases he:a'.getD i.toNat aq.aa=b'.getD i.toNat aq.aa
    ·have hq:eqv aq (a'.getD i.toNat aq.aa) (b'.getD i.toNat aq.aa)=true:=(vO rfl).2 he
     rw[if_neg (by rw[hq];simp),wrap64 (by omega) (by omega),hG (a',b',i+1,()) ⟨rfl,rfl,by simp only;omega,by simp only;omega⟩ (by simp only;omega)]
     simp only[he,akC,true_and]
     rw[show(i+1).toNat=i.toNat+1 by omega]
    ·have hq:eqv aq (a'.getD i.toNat aq.aa) (b'.getD i.toNat aq.aa)=false:=by
      rw[akM];exact fun h=>he ((vO rfl).1 h)
     rw[if_pos (by rw[hq];rfl)]
     simp only[akC,he,false_and,decide_false]
   ·rw[if_neg (by simpa using hi),akx (by omega),akx (by omega)]
    simp
  ·exact⟨rfl,rfl,by simp,by simp⟩
  ·simp only
   omega
 ·rw[if_pos (by simp;omega)]
  have:a≠b:=fun e=>hl (by rw[e])
  simp[this]
theorem eF {a b:List ay} (ha:a.length≤1048576):da k (a,b,())=some (decide (a=b),()):=by
 simp only[da]
 by_cases hl:a.length=b.length
 ·rw[if_neg (by simp[hl])]
  rw[iA (g:=fun(s:List ay×List ay×Int×Int×Unit)=>some (decide (a.drop s.2.2.2.1.toNat=b.drop s.2.2.2.1.toNat),())) (m:=fun(s:List ay×List ay×Int×Int×Unit)=>a.length-s.2.2.2.1.toNat)
   (I:=fun(s:List ay×List ay×Int×Int×Unit)=>s.1=a∧s.2.1=b∧s.2.2.1=(a.length:Int)∧0≤s.2.2.2.1∧s.2.2.2.1≤(a.length:Int))]
  ·simp
  ·rintro G ⟨a',b',n,i,u⟩ ⟨e1,e2,e3,hi0,hi1⟩ hG
   change a'=a at e1
   change b'=b at e2
   change n=_ at e3
   subst e1 e2 e3
   simp only at hi0 hi1 hG⊢
   by_cases hi:i<(a'.length:Int)
   ·have h1:i.toNat<a'.length:=by omega
    have h2:i.toNat<b'.length:=by omega
    rw[if_pos (by simpa using hi),if_pos (by simpa using⟨hi0,hi⟩),if_pos (by simpa using⟨hi0,by omega⟩)]
    rw[eu (d:=aq.aa) h1,eu (d:=aq.aa) h2]
    by_cases he:a'.getD i.toNat aq.aa=b'.getD i.toNat aq.aa
    ·have hq:eqv aq (a'.getD i.toNat aq.aa) (b'.getD i.toNat aq.aa)=true:=(vO rfl).2 he
     rw[if_neg (by rw[hq];simp),wrap64 (by omega) (by omega),hG (a',b',_,i+1,()) ⟨rfl,rfl,rfl,by simp only;omega,by simp only;omega⟩ (by simp only;omega)]
     simp only[he,akC,true_and]
     rw[show(i+1).toNat=i.toNat+1 by omega]
    ·have hq:eqv aq (a'.getD i.toNat aq.aa) (b'.getD i.toNat aq.aa)=false:=by
      rw[akM];exact fun h=>he ((vO rfl).1 h)
     rw[if_pos (by rw[hq];rfl)]
     simp only[akC,he,false_and,decide_false]
   ·rw[if_neg (by simpa using hi),akx (by omega),akx (by omega)]
    simp
  ·exact⟨rfl,rfl,rfl,by simp,by simp⟩
  ·simp only
   omega
 ·rw[if_pos (by simp;omega)]
  have:a≠b:=fun e=>hl (by rw[e])
  simp[this]
theorem nv {a b:List ay} (ha:a.length≤1048576):iY k (a,b,())=some (bD a b,()):=by
 simp only[iY,aL]
 rw[iA (g:=fun(s:List ay×List ay×Int×Unit)=>some (bD (a.drop s.2.2.1.toNat) (b.drop s.2.2.1.toNat),())) (m:=fun(s:List ay×List ay×Int×Unit)=>a.length-s.2.2.1.toNat)
  (I:=fun(s:List ay×List ay×Int×Unit)=>s.1=a∧s.2.1=b∧0≤s.2.2.1∧s.2.2.1≤(a.length:Int)∧s.2.2.1≤(b.length:Int))]
 ·simp
 ·rintro G ⟨a',b',i,u⟩ ⟨e1,e2,hi0,hi1,hi2⟩ hG
  change a'=a at e1
  change b'=b at e2
  subst e1 e2
  simp only at hi0 hi1 hi2 hG⊢
  by_cases hi:i<(a'.length:Int)∧i<(b'.length:Int)
  ·have h1:i.toNat<a'.length:=by omega
   have h2:i.toNat<b'.length:=by omega
   have ca:decide (0≤i∧i<(a'.length:Int))=true:=by simpa using⟨hi0,hi.1⟩
   have cb:decide (0≤i∧i<(b'.length:Int))=true:=by simpa using⟨hi0,hi.2⟩
   rw[if_pos (by simp[hi.1,hi.2])]
   simp only[ca,cb,if_true]
   rw[eu (d:=aq.aa) h1,eu (d:=aq.aa) h2]
   simp only[bD,nz]
   rw[wrap64 (by omega) (by omega),hG (a',b',i+1,()) ⟨rfl,rfl,by simp only;omega,by simp only;omega,by simp only;omega⟩ (by simp only;omega)]
   simp only
   rw[show(i+1).toNat=i.toNat+1 by omega]
   cases (ByteArray.toList (a'.getD i.toNat aq.aa).1==ByteArray.toList (b'.getD i.toNat aq.aa).1)<;>cases (ByteArray.toList (a'.getD i.toNat aq.aa).2==ByteArray.toList (b'.getD i.toNat aq.aa).2)<;>simp
  ·rw[if_neg (by simp;omega)]
   by_cases ha':i<(a'.length:Int)
   ·have h1:i.toNat<a'.length:=by omega
    rw[eu (d:=aq.aa) h1,akx (show b'.length≤i.toNat by omega)]
    simp only[bD]
    congr 2
    simp;omega
   ·rw[akx (show a'.length≤i.toNat by omega)]
    simp only[bD]
    congr 2
    by_cases hb':i<(b'.length:Int)
    ·have h2:i.toNat<b'.length:=by omega
     rw[eu (d:=aq.aa) h2]
     simp;omega
    ·rw[akx (show b'.length≤i.toNat by omega)]
     simp;omega
 ·exact⟨rfl,rfl,by simp,by simp,by simp⟩
 ·simp only
  omega
theorem nN {a b:List ay} (ha:a.length≤1048576):iZ k (a,b,())=some (bD a b,()):=by
 rw[←nv hk ha]
 simp only[iY,iZ,gO,akt]
theorem V2 {l:List ByteArray} {s:ByteArray} (hl:l.length≤1048576):su k (l,s,())=some (hasB l s,()):=by
 simp only[su]
 rw[show((l,s,(0:Int),()):List ByteArray×ByteArray×Int×Unit)=(fun i:Nat=>(l,s,(i:Int),())) 0 from rfl]
 rw[U8 (fun i:Nat=>(l,s,(i:Int),())) (fun i=>(l.getD i ByteArray.empty).toList==s.toList) l.length (e:=some (false,())) (yes:=some (true,())) ?_ ?_ k 0 (by omega)]
 ·unfold hasB
  cases bj 0 l.length (fun i=> !((l.getD i ByteArray.empty).toList==s.toList))<;>simp
 ·intro G i hi
  simp only[akv]
  rw[aF,decide_eq_true hi,if_pos rfl,if_pos (au hi),aU (by omega)]
 ·intro G i hi
  simp only
  rw[aF,decide_eq_false (by omega),if_neg (by simp)]
theorem Wo {l:List ByteArray} {s:ByteArray} (hl:l.length≤1048576):oU k (l,s,())=some (hasB l s,()):=by
 simp only[oU]
 rw[show((s,l,(l.length:Int),(0:Int),()):ByteArray×List ByteArray×Int×Int×Unit)=(fun i:Nat=>(s,l,(l.length:Int),(i:Int),())) 0 from rfl]
 rw[U8 (fun i:Nat=>(s,l,(l.length:Int),(i:Int),())) (fun i=>(l.getD i ByteArray.empty).toList==s.toList) l.length (e:=some (false,())) (yes:=some (true,())) ?_ ?_ k 0 (by omega)]
 ·unfold hasB
  cases bj 0 l.length (fun i=> !((l.getD i ByteArray.empty).toList==s.toList))<;>simp
 ·intro G i hi
  simp only[akv]
  rw[aF,decide_eq_true hi,if_pos rfl,if_pos (au hi),aU (by omega)]
 ·intro G i hi
  simp only
  rw[aF,decide_eq_false (by omega),if_neg (by simp)]
theorem vj {a:af} {by_:List ByteArray} (ha:ag ab a≤1048576) (hb:by_.length≤1048576):gQ k (a,by_,())=some (keyOf a by_,()):=by
 have hl:=ar (e:=aq) (l:=a.1)
 rw[bG hk]at ha
 simp only[gQ,tQ]
 rw[iA (g:=fun(s:List ay×List ByteArray×List ay×Int×Unit)=>some (s.2.2.1++(a.1.drop s.2.2.2.1.toNat).filter (fun x=>hasB by_ x.1),())) (m:=fun(s:List ay×List ByteArray×List ay×Int×Unit)=>a.1.length-s.2.2.2.1.toNat)
  (I:=fun(s:List ay×List ByteArray×List ay×Int×Unit)=>s.1=a.1∧s.2.1=by_∧0≤s.2.2.2.1∧s.2.2.2.1≤(a.1.length:Int)∧s.2.2.1.length≤s.2.2.2.1.toNat)]
 ·simp[keyOf]
 ·rintro G ⟨l',y',o,i,u⟩ ⟨e1,e2,hi0,hi1,ho⟩ hG
  change l'=_ at e1
  change y'=by_ at e2
  subst e1 e2
  simp only at hi0 hi1 ho hG⊢
  by_cases hi:i<(a.1.length:Int)
  ·have h1:i.toNat<a.1.length:=by omega
   rw[if_pos (by simpa using hi),if_pos (by simpa using⟨hi0,hi⟩),V2 hk hb,akt,eu (d:=aq.aa) h1,wrap64 (by omega) (by omega)]
   cases hh:hasB y' (a.1.getD i.toNat aq.aa).1 with
   |true=>
    rw[if_pos rfl,if_pos (by simpa using⟨hi0,hi⟩),if_pos (by simp;omega)]
    rw[hG (a.1,y',o++[a.1.getD i.toNat aq.aa],i+1,()) ⟨rfl,rfl,by simp only;omega,by simp only;omega,by simp;omega⟩ (by simp only;omega)]
    simp only
    rw[show(i+1).toNat=i.toNat+1 by omega,akE (by simpa using hh)]
    simp
   |false=>
    rw[if_neg (by simp)]
    rw[hG (a.1,y',o,i+1,()) ⟨rfl,rfl,by simp only;omega,by simp only;omega,by simp only;omega⟩ (by simp only;omega)]
    simp only
    rw[show(i+1).toNat=i.toNat+1 by omega,akF (by rw[hh];simp)]
  ·rw[if_neg (by simpa using hi),akx (by omega)]
   simp
 ·exact⟨rfl,rfl,by simp,by simp,by simp⟩
 ·simp only
  omega
theorem vf {a:af} {by_:List ByteArray} (ha:ag ab a≤1048576) (hb:by_.length≤1048576):kM k (a,by_,())=some (keyOf a by_,()):=by
 have hl:=ar (e:=aq) (l:=a.1)
 rw[bG hk]at ha
 simp only[kM,tM]
 rw[iA (g:=fun(s:List ByteArray×List ay×List ay×Int×Int×Unit)=>some (s.2.1++(a.1.drop s.2.2.2.2.1.toNat).filter (fun x=>hasB by_ x.1),())) (m:=fun(s:List ByteArray×List ay×List ay×Int×Int×Unit)=>a.1.length-s.2.2.2.2.1.toNat)
  (I:=fun(s:List ByteArray×List ay×List ay×Int×Int×Unit)=>s.1=by_∧s.2.2.1=a.1∧s.2.2.2.1=(a.1.length:Int)∧0≤s.2.2.2.2.1∧s.2.2.2.2.1≤(a.1.length:Int)∧s.2.1.length≤s.2.2.2.2.1.toNat)]
 ·simp[keyOf]
 ·rintro G ⟨y',o,l',n,i,u⟩ ⟨e2,e1,e3,hi0,hi1,ho⟩ hG
  change l'=_ at e1
  change y'=by_ at e2
  change n=_ at e3
  subst e1 e2 e3
  simp only at hi0 hi1 ho hG⊢
  by_cases hi:i<(a.1.length:Int)
  ·have h1:i.toNat<a.1.length:=by omega
   rw[if_pos (by simpa using hi),if_pos (by simpa using⟨hi0,hi⟩),Wo hk hb,akt,eu (d:=aq.aa) h1,wrap64 (by omega) (by omega)]
   cases hh:hasB y' (a.1.getD i.toNat aq.aa).1 with
   |true=>
    rw[if_pos rfl,if_pos (by simp;omega)]
    rw[hG (y',o++[a.1.getD i.toNat aq.aa],a.1,_,i+1,()) ⟨rfl,rfl,rfl,by simp only;omega,by simp only;omega,by simp;omega⟩ (by simp only;omega)]
    simp only
    rw[show(i+1).toNat=i.toNat+1 by omega,akE (by simpa using hh)]
    simp
   |false=>
    rw[if_neg (by simp)]
    rw[hG (y',o,a.1,_,i+1,()) ⟨rfl,rfl,rfl,by simp only;omega,by simp only;omega,by simp only;omega⟩ (by simp only;omega)]
    simp only
    rw[show(i+1).toNat=i.toNat+1 by omega,akF (by rw[hh];simp)]
  ·rw[if_neg (by simpa using hi),akx (by omega)]
   simp
 ·exact⟨rfl,rfl,rfl,by simp,by simp,by simp⟩
 ·simp only
  omega
theorem Rh (a:af) (by_:List ByteArray):(keyOf a by_).length≤a.1.length:=akI ..
theorem fm {l:List af} {i:Nat} (hs:ag (.sl ab) l≤1048576) (hi:i<l.length):ag ab (l.getD i ab.aa)≤1048576∧(l.getD i ab.aa).1.length≤1048576:=by
 have hm:ag ab (l.getD i ab.aa)≤1048576:=aku (bo (e:=ab) (cj hi)) hs
 refine⟨hm,?_⟩
 rw[bG hk]at hm
 have:=ar (e:=aq) (l:=(l.getD i ab.aa).1)
 omega
theorem Lr {l:List af} {key:List ay} {by_:List ByteArray} (hs:ag (.sl ab) l≤1048576) (hb:by_.length≤1048576):px k (l,key,by_,())=some (As l key by_,()):=by
 have hl:=ar (e:=ab) (l:=l)
 simp only[px]
 rw[show((l,key,by_,l,(l.length:Int),(0:Int),()):List af×List ay×List ByteArray×List af×Int×Int×Unit)=(fun i:Nat=>(l,key,by_,l,(l.length:Int),(i:Int),())) 0 from rfl]
 rw[ch (fun i:Nat=>(l,key,by_,l,(l.length:Int),(i:Int),())) (fun i=>cx (l.getD i ab.aa)&&(decide (keyOf (l.getD i ab.aa) by_=key)&&CH l i)) l.length (e:=some (true,())) (no:=some (false,())) ?_ ?_ k 0 (by omega)]
 ·unfold As
  cases bj 0 l.length (fun i=>cx (l.getD i ab.aa)&&(decide (keyOf (l.getD i ab.aa) by_=key)&&CH l i))<;>simp
 ·intro G i hi
  simp only[akv]
  obtain⟨hm,hml⟩:=fm hk hs hi
  have hkl:=Rh hk (l.getD i ab.aa) by_
  rw[aF,decide_eq_true hi,if_pos rfl,if_pos (au hi),km hk hm,akt,vf hk hm hb,aU (by omega),rZ (by omega)]
  simp only[cf,akt]
  rw[show((i:Int)-1).toNat=i-1 by omega]
  cases cx (l.getD i ab.aa)with
  |false=>simp
  |true=>
   simp only[akJ,beq_self_eq_true,if_true]
   rw[eF hk (by omega)]
   simp only[akt]
   by_cases hq:keyOf (l.getD i ab.aa) by_=key
   ·by_cases h0:i=0
    ·subst h0
     simp[hq,CH,-akw]
    ·have h0':(0:Int)<(i:Int):=by omega
     have h0n:0<i:=by omega
     obtain⟨hm1,hml1⟩:=fm hk hs (show i-1<l.length by omega)
     rw[if_pos (by simp;omega),nv hk hml1]
     unfold CH
     cases bD (l.getD (i-1) ab.aa).1 (l.getD i ab.aa).1<;>simp[hq,h0,h0',h0n,-akw]
   ·simp[hq,-akw]
 ·intro G i hi
  simp only
  rw[aF,decide_eq_false (by omega),if_neg (by simp)]
theorem KY {g:aD} {by_:List ByteArray} (hs:ag ah g≤1048576) (hb:by_.length≤1048576):pn k (g,by_,())=some (kX g by_,()):=by
 rw[dB hk]at hs
 simp only[pn,fK hk,qy hk (show ag (.sl aq) g.2.1≤1048576 by omega),Lr hk (show ag (.sl ab) g.2.2.2.2≤1048576 by omega) hb,cf,akt,kX]
 have e1:decide (g.1<(0:Int))= !decide (0≤g.1):=by rw[aky];simp
 have e2:decide ((g.2.2.2.2.length:Int)>(0:Int))=decide (0<g.2.2.2.2.length):=by simp
 have e3:((g.2.2.2.1:Int) != (-1:Int))= !decide (g.2.2.2.1= -1):=by rw[aky];simp
 rw[e1,e2,e3]
 generalize decide (0≤g.1)=b1
 generalize fZ g.2.1=b2
 generalize bO g.2.2.1 0 99999=b3
 generalize decide (g.2.2.2.1= -1)=b4
 generalize bO g.2.2.2.1 g.2.2.1 99999=b5
 generalize decide (0<g.2.2.2.2.length)=b6
 generalize As g.2.2.2.2 g.2.1 by_=b7
 cases b1<;>cases b2<;>cases b3<;>cases b4<;>cases b5<;>cases b6<;>cases b7<;>simp
theorem M1 {g:aD} {by_:List ByteArray} (hs:ag ah g≤1048576) (hb:by_.length≤1048576):oD k (g,by_,())=some (kX g by_,()):=by
 rw[dB hk]at hs
 have hs2:ag (.sl ab) g.2.2.2.2≤1048576:=by omega
 have hl:=ar (e:=ab) (l:=g.2.2.2.2)
 simp only[oD,aL]
 rw[show((by_,g,(0:Int),()):List ByteArray×aD×Int×Unit)=(fun i:Nat=>(by_,g,(i:Int),())) 0 from rfl]
 rw[ch (fun i:Nat=>(by_,g,(i:Int),())) (fun i=>cx (g.2.2.2.2.getD i ab.aa)&&(decide (keyOf (g.2.2.2.2.getD i ab.aa) by_=g.2.1)&&CH g.2.2.2.2 i)) g.2.2.2.2.length
  (e:=some (decide (0≤g.1)&&(fZ g.2.1&&(bO g.2.2.1 0 99999&&((decide (g.2.2.2.1= -1)||bO g.2.2.2.1 g.2.2.1 99999)&&decide (0<g.2.2.2.2.length)))),())) (no:=some (false,())) ?_ ?_ k 0 (by omega)]
 ·unfold kX As
  cases bj 0 g.2.2.2.2.length (fun i=>cx (g.2.2.2.2.getD i ab.aa)&&(decide (keyOf (g.2.2.2.2.getD i ab.aa) by_=g.2.1)&&CH g.2.2.2.2 i))<;>simp
 ·intro G i hi
  simp only[akv]
  obtain⟨hm,hml⟩:=fm hk hs2 hi
  have hkl:=Rh hk (g.2.2.2.2.getD i ab.aa) by_
  rw[aF,decide_eq_true hi,if_pos rfl,if_pos (au hi),ic hk hm,akt,aU (by omega),rZ (by omega)]
  rw[show((i:Int)-1).toNat=i-1 by omega]
  simp only[au hi,akA,if_true]
  rw[if_pos (by simp;omega),vj hk hm hb]
  cases cx (g.2.2.2.2.getD i ab.aa)with
  |false=>simp
  |true=>
   simp only[akJ,beq_self_eq_true,Bool.true_and]
   by_cases h0:i=0
   ·subst h0
    have hS:=dN hk (a:=keyOf (g.2.2.2.2.getD 0 ab.aa) by_) (b:=g.2.1) (by omega)
    simp[hS,CH,-akw]
   ·have h0':(0:Int)<(i:Int):=by omega
    have h0n:0<i:=by omega
    obtain⟨hm1,hml1⟩:=fm hk hs2 (show i-1<g.2.2.2.2.length by omega)
    rw[nN hk hml1]
    unfold CH
    cases bD (g.2.2.2.2.getD (i-1) ab.aa).1 (g.2.2.2.2.getD i ab.aa).1 with
    |false=>simp[h0,h0',h0n,-akw]
    |true=>
     have hS:=dN hk (a:=keyOf (g.2.2.2.2.getD i ab.aa) by_) (b:=g.2.1) (by omega)
     simp[hS,h0,h0',h0n,-akw]
 ·intro G i hi
  simp only
  rw[aF,decide_eq_false (by omega),if_neg (by simp)]
  simp only[iJ hk,qE hk (show ag (.sl aq) g.2.1≤1048576 by omega),cf,akt]
  have e1:decide (g.1≥(0:Int))=decide (0≤g.1):=rfl
  have e2:decide ((g.2.2.2.2.length:Int)>(0:Int))=decide (0<g.2.2.2.2.length):=by simp
  have e3:((g.2.2.2.1:Int)==(-1:Int))=decide (g.2.2.2.1= -1):=by rw[aky];simp
  rw[e1,e2,e3]
  generalize decide (0≤g.1)=b1
  generalize fZ g.2.1=b2
  generalize bO g.2.2.1 0 99999=b3
  generalize decide (g.2.2.2.1= -1)=b4
  generalize bO g.2.2.2.1 g.2.2.1 99999=b5
  generalize decide (0<g.2.2.2.2.length)=b6
  cases b1<;>cases b2<;>cases b3<;>cases b4<;>cases b5<;>cases b6<;>simp
theorem oj {l:List aD} {i:Nat} (hs:ag (.sl ah) l≤1048576) (hi:i<l.length):ag ah (l.getD i ah.aa)≤1048576∧(l.getD i ah.aa).2.1.length≤1048576:=by
 have hm:ag ah (l.getD i ah.aa)≤1048576:=aku (bo (e:=ah) (cj hi)) hs
 refine⟨hm,?_⟩
 rw[dB hk]at hm
 have:=ar (e:=aq) (l:=(l.getD i ah.aa).2.1)
 omega
theorem KA {l:List aD} {key:List ay} (hs:ag (.sl ah) l≤1048576):
 ∃r:Int,dF k (l,key,())=some (r,())∧(∀i:Nat,i<l.length→(l.getD i ah.aa).2.1=key→(r=(i:Int)↔∀j,j<i→(l.getD j ah.aa).2.1≠key)):=by
 have hl:=ar (e:=ah) (l:=l)
 simp only[dF]
 have main:∀(m a:Nat),l.length-a<m→(∀j,j<a→(l.getD j ah.aa).2.1≠key)→∃r:Int,aH m (fun G1 (t2:List ay×List aD×Int×Int×Unit)=>
  if(decide ((t2.2.2.2.1:Int)<t2.2.2.1))=true then
   if(decide (0≤t2.2.2.2.1∧t2.2.2.2.1<((akB t2.2.1:Nat):Int)))=true then
    akO (da k (((akG t2.2.1 (akH t2.2.2.2.1) ah.aa).2).1,t2.1,())) fun(r3:Bool×Unit)=>
    if r3.1=true then
     some (t2.2.2.2.1,())
    else
     G1 (t2.1,t2.2.1,t2.2.2.1,IntKind.i64.wrap (t2.2.2.2.1+(1:Int)),())
   else
    none
  else
   some ((-1:Int),())) (key,l,(l.length:Int),(a:Int),())=some (r,())∧(∀i:Nat,i<l.length→(l.getD i ah.aa).2.1=key→(r=(i:Int)↔∀j,j<i→(l.getD j ah.aa).2.1≠key)):=by
  intro m
  induction m with
  |zero=>intro a h;omega
  |succ m ih=>
   intro a h hno
   simp only[aH,akv]
   by_cases ha:a<l.length
   ·rw[aF,decide_eq_true ha,if_pos rfl,if_pos (au ha),eF hk (oj hk hs ha).2,akt]
    by_cases hq:(l.getD a ah.aa).2.1=key
    ·rw[if_pos (by simpa using hq)]
     refine⟨_,rfl,fun i hi hik=> ?_⟩
     constructor
     ·intro e j hj
      exact hno j (by omega)
     ·intro hall
      rcases Nat.lt_trichotomy a i with h1|h1|h1
      ·exact absurd hq (hall a h1)
      ·rw[h1]
      ·exact absurd hik (hno i h1)
    ·rw[if_neg (by simpa using hq),aU (by omega)]
     refine ih (a+1) (by omega) (fun j hj=> ?_)
     rcases Nat.lt_or_ge j a with h1|h1
     ·exact hno j h1
     ·rw[show j=a by omega];exact hq
   ·rw[aF,decide_eq_false ha,if_neg (by simp)]
    refine⟨-1,rfl,fun i hi hik=> ?_⟩
    exact absurd hik (hno i (by omega))
 exact main k 0 (by omega) (fun j hj=>by omega)
theorem YJ (l:List aD) (i:Nat):pR l i=true↔∀j,j<i→(l.getD j ah.aa).2.1≠(l.getD i ah.aa).2.1:=by
 unfold pR
 rw[eN]
 simp only[Bool.not_eq_true',decide_eq_false_iff_not]
 exact⟨fun h j hj=>h j (by omega) hj,fun h j _ hj=>h j hj⟩
theorem Jx {l:List aD} {by_:List ByteArray} (hs:ag (.sl ah) l≤1048576) (hb:by_.length≤1048576):nC k (l,by_,())=some (qU l by_,()):=by
 have hl:=ar (e:=ah) (l:=l)
 simp only[nC]
 rw[show((l,by_,l,(l.length:Int),(0:Int),()):List aD×List ByteArray×List aD×Int×Int×Unit)=(fun i:Nat=>(l,by_,l,(l.length:Int),(i:Int),())) 0 from rfl]
 rw[ch (fun i:Nat=>(l,by_,l,(l.length:Int),(i:Int),())) (fun i=>decide (i<12)&&(kX (l.getD i ah.aa) by_&&(Jp l i&&pR l i))) l.length (e:=some (true,())) (no:=some (false,())) ?_ ?_ k 0 (by omega)]
 ·unfold qU
  rw[Ig,Xd]
  cases bj 0 l.length (fun i=>kX (l.getD i ah.aa) by_&&(Jp l i&&pR l i))<;>by_cases h:l.length≤12<;>simp[h]
 ·intro G i hi
  simp only[akv]
  obtain⟨hm,hml⟩:=oj hk hs hi
  obtain⟨r,hr,hri⟩:=KA hk (key:=(l.getD i ah.aa).2.1) hs
  have hri:=hri i hi rfl
  rw[←YJ hk]at hri
  rw[aF,decide_eq_true hi,if_pos rfl,if_pos (au hi),KY hk hm hb,aU (by omega),rZ (by omega)]
  simp only[cf,akt]
  rw[show((i:Int)-1).toNat=i-1 by omega,hr,if_pos (by simp;omega)]
  unfold Jp
  by_cases h12:i<12
  ·have h12':¬(12:Int)≤(i:Int):=by omega
   cases kX (l.getD i ah.aa) by_ with
   |false=>simp[h12,h12',-akw]
   |true=>
    by_cases h0:i=0
    ·subst h0
     cases hn:pR l 0 with
     |true=>rw[hn]at hri;have:=hri.2 rfl;simp[this,-akw]
     |false=>rw[hn]at hri;have:¬r=0:=fun e=>by have:=hri.1 e;cases this
             simp[this,-akw]
    ·have h0':(0:Int)<(i:Int):=by omega
     have h0n:0<i:=by omega
     by_cases ho:(l.getD (i-1) ah.aa).1<(l.getD i ah.aa).1
     ·have ho':¬(l.getD i ah.aa).1≤(l.getD (i-1) ah.aa).1:=by omega
      cases hn:pR l i with
      |true=>rw[hn]at hri;have:=hri.2 rfl;simp[this,h12,h12',h0,h0',h0n,ho,ho',-akw]
      |false=>rw[hn]at hri;have:¬r=(i:Int):=fun e=>by have:=hri.1 e;cases this
              simp[this,h12,h12',h0,h0',h0n,ho,ho',-akw]
     ·have ho':(l.getD i ah.aa).1≤(l.getD (i-1) ah.aa).1:=by omega
      simp[h12,h12',h0,h0',h0n,ho,ho',-akw]
  ·have h12':(12:Int)≤(i:Int):=by omega
   simp[h12,h12',-akw]
 ·intro G i hi
  simp only
  rw[aF,decide_eq_false (by omega),if_neg (by simp)]
theorem JV {l:List aD} {by_:List ByteArray} (hs:ag (.sl ah) l≤1048576) (hb:by_.length≤1048576):np k (l,by_,())=some (qU l by_,()):=by
 have hl:=ar (e:=ah) (l:=l)
 simp only[np,aL]
 rw[show((l,by_,(0:Int),()):List aD×List ByteArray×Int×Unit)=(fun i:Nat=>(l,by_,(i:Int),())) 0 from rfl]
 rw[ch (fun i:Nat=>(l,by_,(i:Int),())) (fun i=>kX (l.getD i ah.aa) by_&&(Jp l i&&pR l i)) l.length (e:=some (decide (l.length≤12),())) (no:=some (false,())) ?_ ?_ k 0 (by omega)]
 ·unfold qU
  cases bj 0 l.length (fun i=>kX (l.getD i ah.aa) by_&&(Jp l i&&pR l i))<;>simp
 ·intro G i hi
  simp only[akv]
  obtain⟨hm,hml⟩:=oj hk hs hi
  rw[aF,decide_eq_true hi,if_pos rfl,if_pos (au hi),M1 hk hm hb,akt,rZ (by omega)]
  rw[show((i:Int)-1).toNat=i-1 by omega,if_pos (by simp;omega)]
  simp only[au hi,akA,if_true]
  have inner:aH k (fun G6 (t7:List aD×List ByteArray×Int×Int×Unit)=>
   if(decide ((t7.2.2.2.1:Int)<t7.2.2.1))=true then
    if(decide (0≤t7.2.2.2.1∧t7.2.2.2.1<((akB t7.1:Nat):Int)))=true then
     if(decide (0≤t7.2.2.1∧t7.2.2.1<((akB t7.1:Nat):Int)))=true then
      akO (cH k (((akG t7.1 (akH t7.2.2.2.1) ah.aa).2).1,((akG t7.1 (akH t7.2.2.1) ah.aa).2).1,())) fun(r8:Bool×Unit)=>
      if r8.1=true then
       some (false,())
      else
       G6 (t7.1,t7.2.1,t7.2.2.1,IntKind.i64.wrap (t7.2.2.2.1+(1:Int)),())
     else
      none
    else
     none
   else
    G (t7.1,t7.2.1,IntKind.i64.wrap (t7.2.2.1+(1:Int)),())) (l,by_,(i:Int),(0:Int),())=if pR l i=true then G (l,by_,((i+1:Nat):Int),())else some (false,()):=by
   rw[show((l,by_,(i:Int),(0:Int),()):List aD×List ByteArray×Int×Int×Unit)=(fun j:Nat=>(l,by_,(i:Int),(j:Int),())) 0 from rfl]
   rw[ch (fun j:Nat=>(l,by_,(i:Int),(j:Int),())) (fun j=> !decide ((l.getD j ah.aa).2.1=(l.getD i ah.aa).2.1)) i (e:=G (l,by_,((i+1:Nat):Int),())) (no:=some (false,())) ?_ ?_ k 0 (by omega)]
   ·rfl
   ·intro G' j hj
    simp only[akv]
    rw[aF,decide_eq_true hj,if_pos rfl,if_pos (au (by omega)),if_pos (au hi),dN hk (oj hk hs (show j<l.length by omega)).2,akt,aU (by omega)]
    by_cases hq:(l.getD j ah.aa).2.1=(l.getD i ah.aa).2.1<;>simp[hq,-akw]
   ·intro G' j hj
    simp only
    rw[aF,decide_eq_false (by omega),if_neg (by simp),aU (by omega)]
  rw[inner]
  unfold Jp
  cases kX (l.getD i ah.aa) by_ with
  |false=>simp
  |true=>
   by_cases h0:i=0
   ·subst h0;simp
   ·have h0':(0:Int)<(i:Int):=by omega
    have h0n:0<i:=by omega
    by_cases ho:(l.getD (i-1) ah.aa).1<(l.getD i ah.aa).1
    ·have ho':¬(l.getD i ah.aa).1≤(l.getD (i-1) ah.aa).1:=by omega
     simp[h0,h0',h0n,ho,ho',-akw]
    ·have ho':(l.getD i ah.aa).1≤(l.getD (i-1) ah.aa).1:=by omega
     simp[h0,h0',h0n,ho,ho',-akw]
 ·intro G i hi
  simp only
  rw[aF,decide_eq_false (by omega),if_neg (by simp)]
  congr 2
  rw[aky]
  simp
  omega
end
def uF (l:List bp):Bool:=bj 0 l.length (fun i=>ue (l.getD i aW.aa))
section
variable {k:Nat} (hk:9223372036854775808≤k)
include hk
theorem F7 {c:bT} {a:af} (hs:ag ab a≤1048576):qd k (c,a,())=some (mO a,()):=by
 simp only[qd]
 rw[ic hk hs]
 simp only[akt,mO,A8]
theorem Fi {c:bT} {a:af} (hs:ag ab a≤1048576):pW k (c,a,())=some (mO a,()):=by
 simp only[pW]
 rw[km hk hs]
 simp only[akt,mO,A8]
theorem Tp {s:bp} (hs:ag aW s≤1048576):sA k (s,())=some (ue s,()):=by
 rw[pz hk]at hs
 have hl:=ar (e:=ab) (l:=s.1)
 simp only[sA,aL]
 rw[show((s,(0:Int),()):bp×Int×Unit)=(fun i:Nat=>(s,(i:Int),())) 0 from rfl]
 rw[ch (fun i:Nat=>(s,(i:Int),())) (fun i=>cx (s.1.getD i ab.aa)) s.1.length (e:=some (decide (s.1.length≤3)&&(!s.2||decide (s.1.length=0)),())) (no:=some (false,())) ?_ ?_ k 0 (by omega)]
 ·unfold ue cC
  cases bj 0 s.1.length (fun i=>cx (s.1.getD i ab.aa))<;>simp
 ·intro G i hi
  simp only[akv]
  rw[aF,decide_eq_true hi,if_pos rfl,if_pos (au hi),ic hk (fm hk hs hi).1,akt,aU (by omega)]
  cases cx (s.1.getD i ab.aa)<;>simp
 ·intro G i hi
  simp only
  rw[aF,decide_eq_false (by omega),if_neg (by simp)]
  congr 2
  by_cases h:s.1.length≤3
  ·have h':(s.1.length:Int)≤3:=by omega
   by_cases h0:s.1.length=0
   ·cases s.2<;>simp[h0]
   ·have h0':¬(s.1.length:Int)=0:=by omega
    cases s.2<;>simp[h,h',h0]<;>(intro e;rw[e]at h0;exact h0 rfl)
  ·have h':¬(s.1.length:Int)≤3:=by omega
   simp[h,h']
theorem Tt {s:bp} (hs:ag aW s≤1048576):sO k (s,())=some (ue s,()):=by
 rw[pz hk]at hs
 have hl:=ar (e:=ab) (l:=s.1)
 simp only[sO]
 rw[mg hk hs]
 unfold ue
 cases s.2 with
 |true=>
  simp only[if_true]
  congr 2
  by_cases h0:s.1=[]
  ·rw[h0];rfl
  ·have h1:¬s.1.length=0:=fun e=>h0 (List.eq_nil_of_length_eq_zero e)
   simp[h0]
 |false=>
  by_cases h:s.1.length≤3
  ·have h':(s.1.length:Int)≤3:=by omega
   simp[h,h']
  ·have h':¬(s.1.length:Int)≤3:=by omega
   simp[h,h']
theorem Np {l:List bp} {i:Nat} (hs:ag (.sl aW) l≤1048576) (hi:i<l.length):ag aW (l.getD i aW.aa)≤1048576:=
 aku (bo (e:=aW) (cj hi)) hs
theorem Gz {l:List bp} {c:bT} (hs:ag (.sl aW) l≤1048576):lX k (l,c,())=some (uF l&&decide ((l.length:Int)=c.2.2.1),()):=by
 have hl:=ar (e:=aW) (l:=l)
 simp only[lX,aL]
 rw[show((l,c,l,(l.length:Int),(0:Int),()):List bp×bT×List bp×Int×Int×Unit)=(fun i:Nat=>(l,c,l,(l.length:Int),(i:Int),())) 0 from rfl]
 rw[ch (fun i:Nat=>(l,c,l,(l.length:Int),(i:Int),())) (fun i=>ue (l.getD i aW.aa)) l.length (e:=some (decide ((l.length:Int)=c.2.2.1),())) (no:=some (false,())) ?_ ?_ k 0 (by omega)]
 ·unfold uF
  cases bj 0 l.length (fun i=>ue (l.getD i aW.aa))<;>simp
 ·intro G i hi
  simp only[akv]
  rw[aF,decide_eq_true hi,if_pos rfl,if_pos (au hi),Tt hk (Np hk hs hi),akt,aU (by omega)]
  cases ue (l.getD i aW.aa)<;>simp
 ·intro G i hi
  simp only
  rw[aF,decide_eq_false (by omega),if_neg (by simp)]
  congr 2
end
theorem Qb (n:Int):IntKind.u32.wrap n=n%4294967296:=by
 simp[IntKind.wrap,IntKind.signed,IntKind.bits]
theorem ad9 {a b:Nat} (ha:a<4294967296) (hb:b<4294967296):bits (fun _=>(·^^^·)) .i64 (a:Int) (b:Int)=((a^^^b:Nat):Int):=by
 have hx:a^^^b<2^32:=akD (by simpa using ha) (by simpa using hb)
 change IntKind.i64.wrap (((BitVec.ofInt 64 (a:Int)^^^BitVec.ofInt 64 (b:Int)).toNat:Nat):Int)=_
 rw[BitVec.toNat_xor,BitVec.toNat_ofInt,BitVec.toNat_ofInt]
 have e1:((a:Int)%((2^64:Nat):Int)).toNat=a:=by omega
 have e2:((b:Int)%((2^64:Nat):Int)).toNat=b:=by omega
 rw[e1,e2,wrap64 (by omega) (by omega)]
theorem aei {a b:Nat} (ha:a<4294967296) (hb:b<4294967296):bits (fun _=>(·^^^·)) .u32 (a:Int) (b:Int)=((a^^^b:Nat):Int):=by
 have hx:a^^^b<2^32:=akD (by simpa using ha) (by simpa using hb)
 change IntKind.u32.wrap (((BitVec.ofInt 32 (a:Int)^^^BitVec.ofInt 32 (b:Int)).toNat:Nat):Int)=_
 rw[BitVec.toNat_xor,BitVec.toNat_ofInt,BitVec.toNat_ofInt]
 have e1:((a:Int)%((2^32:Nat):Int)).toNat=a:=by omega
 have e2:((b:Int)%((2^32:Nat):Int)).toNat=b:=by omega
 rw[e1,e2,Qb]
 omega
theorem aeg {a:Nat} (ha:a<9223372036854775808):bits (fun _=>(· &&& ·)) .i64 (a:Int) (4294967295:Int)=((a%4294967296:Nat):Int):=by
 change IntKind.i64.wrap (((BitVec.ofInt 64 (a:Int) &&& BitVec.ofInt 64 (4294967295:Int)).toNat:Nat):Int)=_
 rw[BitVec.toNat_and,BitVec.toNat_ofInt,BitVec.toNat_ofInt]
 have e1:((a:Int)%((2^64:Nat):Int)).toNat=a:=by omega
 have e2:((4294967295:Int)%((2^64:Nat):Int)).toNat=2^32-1:=by decide
 rw[e1,e2,Nat.and_two_pow_sub_one_eq_mod,wrap64 (by omega) (by omega)]
theorem aea (s:ByteArray) (i:Int):∃b:Nat,bt s i=(b:Int)∧b<256:=by
 unfold bt
 exact⟨_,rfl,(s.data.toList.getD i.toNat 0).toNat_lt⟩
theorem UZ {n:Nat} (hn:n<4294967296) (s:ByteArray) (i:Int):∃m:Nat,m<4294967296∧
 bits (fun _=>(· &&& ·)) .i64 (IntKind.i64.wrap ((bits (fun _=>(·^^^·)) .i64 (n:Int) (IntKind.i64.wrap (bt s i)))*(16777619:Int))) (4294967295:Int)=(m:Int)∧
 IntKind.u32.wrap ((bits (fun _=>(·^^^·)) .u32 (n:Int) (IntKind.u32.wrap (bt s i)))*(16777619:Int))=(m:Int):=by
 obtain⟨b,hb,hlt⟩:=aea s i
 have hx:n^^^b<2^32:=akD (by simpa using hn) (by omega)
 rw[hb,wrap64 (n:=(b:Int)) (by omega) (by omega),Qb (b:Int),show((b:Int)%4294967296)=(b:Int) by omega,ad9 hn (by omega),aei hn (by omega)]
 generalize n^^^b=x at hx
 rw[wrap64 (by omega) (by omega),show((x:Int)*16777619)=((x*16777619:Nat):Int) by omega,aeg (by omega),Qb]
 exact⟨x*16777619%4294967296,by omega,rfl,by omega⟩
section
variable {k:Nat} (hk:9223372036854775808≤k)
include hk
theorem adh {s:ByteArray} (hs:s.size≤4294967296):∃n:Int,lW k (s,())=some (n,())∧sW k (s,())=some (n,()):=by
 have h1:∃r:Int×Unit,lW k (s,())=some r∧∃n:Nat,r.1=(n:Int)∧n<4294967296:=by
  simp only[lW]
  refine RQ (fun(t:ByteArray×Int×Int×Unit)=>s.size-t.2.2.1.toNat) (fun(t:ByteArray×Int×Int×Unit)=>t.1=s∧(∃n:Nat,t.2.1=(n:Int)∧n<4294967296)∧0≤t.2.2.1∧t.2.2.1≤(s.size:Int)) _ ?_ k _ ⟨rfl,⟨2166136261,rfl,by omega⟩,by simp,by simp⟩ (by simp only;omega)
  rintro G ⟨s',n,i,u⟩ ⟨e1,⟨m,e2,hm⟩,hi0,hi1⟩ hG
  change s'=s at e1
  change n=_ at e2
  subst e1 e2
  simp only at hi0 hi1 hG⊢
  by_cases hi:i<(s'.size:Int)
  ·rw[if_pos (by simpa using hi),if_pos (by simpa using⟨hi0,hi⟩)]
   obtain⟨m',hm',q1,_⟩:=UZ hm s' i
   rw[q1,wrap64 (by omega) (by omega)]
   exact hG (s',_,i+1,()) ⟨rfl,⟨m',rfl,hm'⟩,by simp only;omega,by simp only;omega⟩ (by simp only;omega)
  ·rw[if_neg (by simpa using hi)]
   exact⟨_,rfl,m,rfl,hm⟩
 have h2:lW k (s,())=sW k (s,()):=by
  simp only[lW,sW,aL]
  refine T3 (fun(t t':ByteArray×Int×Int×Unit)=>t=t'∧∃n:Nat,t.2.1=(n:Int)∧n<4294967296) (fun a b=>a=b) rfl ?_ k _ _ ⟨rfl,2166136261,rfl,by omega⟩
  rintro G G' ⟨s1,n,i,u⟩ t' ⟨rfl,m,e2,hm⟩ hG
  change n=_ at e2
  subst e2
  simp only
  obtain⟨m',hm',q1,q2⟩:=UZ hm s1 i
  split
  ·split
   ·rw[q1,q2]
    exact hG _ _ ⟨rfl,m',rfl,hm'⟩
   ·rfl
  ·rw[wrap64 (by omega) (by omega)]
 obtain⟨⟨n,u⟩,hr,_⟩:=h1
 exact⟨n,hr,h2▸hr⟩
def XU (x:ay):ByteArray:=((x.1++(⟨#[61,34]⟩:ByteArray))++x.2)++(⟨#[34]⟩:ByteArray)
def tx (l:List ay):Nat→ByteArray
 |0=>⟨#[123]⟩
 |i+1=>((((if i=0 then tx l i else tx l i++(⟨#[44,32]⟩:ByteArray))++(l.getD i aq.aa).1)++(⟨#[61,34]⟩:ByteArray))++(l.getD i aq.aa).2)++(⟨#[34]⟩:ByteArray)
theorem Qf {l:List ay} (h:fZ l=true):∀i,i≤l.length→(tx l i).size≤1+25*i:=by
 simp only[fZ,akz,eN]at h
 intro i
 induction i with
 |zero=>intro _;simp[tx,ByteArray.size]
 |succ i ih=>
  intro hi
  have:=ih (by omega)
  have h2:=h.2 i (by omega) (by omega)
  simp only[iv,gk,mV,akz,decide_eq_true_eq]at h2
  simp only[tx,ByteArray.size_append]
  have e1:(⟨#[61,34]⟩:ByteArray).size=2:=rfl
  have e2:(⟨#[34]⟩:ByteArray).size=1:=rfl
  have e3:(⟨#[44,32]⟩:ByteArray).size=2:=rfl
  split
  ·omega
  ·rw[ByteArray.size_append];omega
theorem Lk {l:List ay} (hs:ag (.sl aq) l≤1048576):oO k (l,())=some (if fZ l=true then tx l l.length++(⟨#[125]⟩:ByteArray)else⟨#[]⟩,()):=by
 have hl:=ar (e:=aq) (l:=l)
 simp only[oO,aL]
 rw[qE hk hs,akt]
 cases hok:fZ l with
 |false=>simp
 |true=>
  have hb:=Qf hk hok
  have hok':=hok
  simp only[fZ,akz,eN,decide_eq_true_eq]at hok'
  rw[if_neg (by simp),if_pos rfl]
  rw[show((l,(⟨#[123]⟩:ByteArray),(0:Int),()):List ay×ByteArray×Int×Unit)=(fun i:Nat=>(l,tx l i,(i:Int),())) 0 from rfl]
  have e1:(⟨#[61,34]⟩:ByteArray).size=2:=rfl
  have e2:(⟨#[34]⟩:ByteArray).size=1:=rfl
  have e3:(⟨#[44,32]⟩:ByteArray).size=2:=rfl
  have e4:(⟨#[125]⟩:ByteArray).size=1:=rfl
  refine bZ (fun i:Nat=>(l,tx l i,(i:Int),())) l.length ?_ ?_ k 0 (by omega) (by omega)
  ·intro G i hi
   have hbi:=hb i (by omega)
   have hlab:=hok'.2 i (by omega) hi
   simp only[iv,gk,mV,akz,decide_eq_true_eq]at hlab
   simp only[akv]
   rw[aF,decide_eq_true hi,if_pos rfl]
   by_cases h0:i=0
   ·subst h0
    have hz:(tx l 0).size=1:=rfl
    rw[if_neg (by simp)]
    simp only[au hi,if_true,ByteArray.size_append,e1,e2,hz]
    rw[if_pos (by simp only[decide_eq_true_eq];omega),if_pos (by simp only[decide_eq_true_eq];omega),if_pos (by simp only[decide_eq_true_eq];omega),if_pos (by simp only[decide_eq_true_eq];omega),aU (by omega)]
    rfl
   ·have h0n:0<i:=by omega
    rw[if_pos (by simp;omega),if_pos (by simp only[e3,decide_eq_true_eq];omega)]
    simp only[au hi,if_true,ByteArray.size_append,e1,e2,e3]
    rw[if_pos (by simp only[decide_eq_true_eq];omega),if_pos (by simp only[decide_eq_true_eq];omega),if_pos (by simp only[decide_eq_true_eq];omega),if_pos (by simp only[decide_eq_true_eq];omega),aU (by omega)]
    simp only[tx,if_neg h0]
  ·intro G
   have hbi:=hb l.length (by omega)
   simp only
   rw[aF,decide_eq_false (by omega),if_neg (by simp),if_pos (by simp only[e4,decide_eq_true_eq];omega)]
def pl (l:List ay) (i:Nat):List ByteArray:=(List.range i).map (fun j=>XU (l.getD j aq.aa))
theorem Xk (l:List ay) (i:Nat):pl l (i+1)=pl l i++[XU (l.getD i aq.aa)]:=by
 simp[pl,List.range_succ]
theorem ZK (xs:List (List UInt8)) (y sep:List UInt8):Lib.join (xs++[y]) sep=if xs=[]then y else Lib.join xs sep++sep++y:=by
 cases xs with
 |nil=>simp[Lib.join_one]
 |cons x r=>
  rw[if_neg (by simp),List.cons_append,Lib.join_cons,Lib.join_cons]
  simp[Lib.joinTail,akN]
theorem XF (l:List ay):∀i,(tx l i).data.toList=123::jW (pl l i) ⟨#[44,32]⟩:=by
 intro i
 induction i with
 |zero=>rfl
 |succ i ih=>
  unfold jW at ih⊢
  rw[Xk hk,List.map_append,List.map_singleton,ZK hk]
  simp only[tx,XU]
  by_cases h0:i=0
  ·subst h0
   simp[pl,tx,ByteArray.data_append]
  ·have hne:List.map (fun x=>x.data.toList) (pl l i)≠ []:=by
    intro e
    have:=congrArg akB e
    simp[pl]at this
    exact h0 this
   rw[if_neg h0,if_neg hne]
   simp only[ByteArray.data_append,akK,ih]
   simp[akN]
theorem aav {a b:ByteArray} (h:a.data.toList=b.data.toList):a=b:=by
 cases a;cases b
 simp at h
 rw[h]
theorem Lc {l:List ay} (hs:ag (.sl aq) l≤1048576):pk k (l,())=some (if fZ l=true then tx l l.length++(⟨#[125]⟩:ByteArray)else⟨#[]⟩,()):=by
 have hl:=ar (e:=aq) (l:=l)
 simp only[pk,aL]
 rw[qy hk hs,akt]
 cases hok:fZ l with
 |false=>simp
 |true=>
  have hb:=Qf hk hok l.length (by omega)
  have hok':=hok
  simp only[fZ,akz,eN,decide_eq_true_eq]at hok'
  rw[if_neg (by simp),if_pos rfl]
  rw[show((([]:List ByteArray),l,(l.length:Int),(0:Int),()):List ByteArray×List ay×Int×Int×Unit)=(fun i:Nat=>(pl l i,l,(l.length:Int),(i:Int),())) 0 from rfl]
  have e1:(⟨#[61,34]⟩:ByteArray).size=2:=rfl
  have e2:(⟨#[34]⟩:ByteArray).size=1:=rfl
  refine bZ (fun i:Nat=>(pl l i,l,(l.length:Int),(i:Int),())) l.length ?_ ?_ k 0 (by omega) (by omega)
  ·intro G i hi
   have hlab:=hok'.2 i (by omega) hi
   simp only[iv,gk,mV,akz,decide_eq_true_eq]at hlab
   have hpl:(pl l i).length=i:=by simp[pl]
   simp only[akv]
   rw[aF,decide_eq_true hi,if_pos rfl,if_pos (au hi)]
   simp only[ByteArray.size_append,e1,e2]
   rw[if_pos (by simp only[decide_eq_true_eq];omega),if_pos (by simp only[decide_eq_true_eq];omega),if_pos (by simp only[decide_eq_true_eq];omega),if_pos (by simp only[decide_eq_true_eq,List.length_singleton,hpl];omega),aU (by omega),Xk hk]
   rfl
  ·intro G
   simp only
   rw[aF,decide_eq_false (by omega),if_neg (by simp)]
   have hj:(jW (pl l l.length) ⟨#[44,32]⟩).length≤1+25*l.length:=by
    have:=XF hk l l.length
    have h2:=congrArg akB this
    simp only[Array.length_toList,List.length_cons]at h2
    have h3:(tx l l.length).data.size=(tx l l.length).size:=rfl
    omega
   have hpl:(pl l l.length).length=l.length:=by simp[pl]
   simp only[tj,Ch]
   rw[if_pos ⟨by rw[hpl];omega,by omega⟩,akt]
   simp only[ByteArray.size_append]
   have hz:(⟨(jW (pl l l.length) ⟨#[44,32]⟩).toArray⟩:ByteArray).size=(jW (pl l l.length) ⟨#[44,32]⟩).length:=by simp[ByteArray.size]
   have e3:(⟨#[123]⟩:ByteArray).size=1:=rfl
   have e4:(⟨#[125]⟩:ByteArray).size=1:=rfl
   rw[hz,e3,e4,if_pos (by simp only[decide_eq_true_eq];omega),if_pos (by simp only[decide_eq_true_eq];omega)]
   congr 2
   refine aav hk ?_
   simp only[ByteArray.data_append,akK]
   rw[XF hk]
   simp
theorem RF {l:List ay} (hs:ag (.sl aq) l≤1048576):∃n:Int,eh k (l,())=some (n,())∧eP k (l,())=some (n,()):=by
 simp only[eh,eP]
 rw[Lk hk hs,Lc hk hs]
 simp only[akt]
 have hsz:(if fZ l=true then tx l l.length++(⟨#[125]⟩:ByteArray)else⟨#[]⟩).size≤4294967296:=by
  split
  ·rename_i hok
   have hb:=Qf hk hok l.length (by omega)
   have hl:l.length≤4:=by
    simp only[fZ,akz,decide_eq_true_eq]at hok
    exact hok.1
   have e4:(⟨#[125]⟩:ByteArray).size=1:=rfl
   rw[ByteArray.size_append]
   omega
  ·simp[ByteArray.size]
 obtain⟨n,q1,q2⟩:=adh hk hsz
 rw[q1,q2]
 simp only[akt]
 rw[if_pos (by simp),if_pos (by simp)]
 exact⟨_,rfl,rfl⟩
theorem aaI (f n:Int):iy k (f,n,())=fV k (f,n,()):=rfl
theorem ew {a:af} (h:ag ab a≤1073741824):bM k (a,())=some (a,()):=by
 have h1:=bG hk a
 have h2:=ar (e:=aq) (l:=a.1)
 simp only[bM]
 rw[if_pos (by simp;omega)]
 simp
theorem oZ {l:List ay} (h:l.length≤1073741824):eT k (l,())=some (l,()):=by
 simp only[eT]
 rw[if_pos (by simp;omega)]
 simp
theorem cB {a:af} (h:ag ab a≤1073741824):bh k (a,())=some (a,()):=by
 have h1:=bG hk a
 have h2:=ar (e:=aq) (l:=a.1)
 simp only[bh]
 rw[oZ hk (by omega),akt]
theorem gx {l:List af} (h:ag (.sl ab) l≤1073741824):cq k (l,())=some (l,()):=
 E7 (d:=ab.aa) (S:=bM k) hk (aku (ar (e:=ab)) h) (fun e he=>ew hk (aku (bo (e:=ab) he) h))
theorem cR {l:List af} (h:ag (.sl ab) l≤1073741824):bB k (l,())=some (l,()):=
 MA (d:=ab.aa) (S:=bh k) hk (aku (ar (e:=ab)) h) (fun e he=>cB hk (aku (bo (e:=ab) he) h))
theorem CR {g:aD} (h:ag ah g≤1073741824):gu k (g,())=some (g,()):=by
 have h1:=dB hk g
 have h2:=ar (e:=aq) (l:=g.2.1)
 simp only[gu]
 rw[if_pos (by simp;omega),gx hk (by omega),akt]
 simp
theorem wu {g:aD} (h:ag ah g≤1073741824):fj k (g,())=some (g,()):=by
 have h1:=dB hk g
 have h2:=ar (e:=aq) (l:=g.2.1)
 simp only[fj]
 rw[oZ hk (by omega),akt,cR hk (by omega),akt]
theorem HA {b:bm} (h1:ag (.sl aq) b.2.1≤1073741824) (h3:ag (.sl ab) b.2.2.2≤1073741824):ib k (b,())=some (b,()):=by
 have h2:=ar (e:=aq) (l:=b.2.1)
 simp only[ib]
 rw[if_pos (by simp;omega),gx hk (by omega),akt]
 simp
theorem XY {c:bT} (h:ag bQ c≤1073741824):pI k (c,())=some (c,()):=by
 have h1:=ku hk c
 have h2:=ar (e:= .str) (l:=c.2.2.2.2.2)
 simp only[pI]
 rw[if_pos (by simp;omega)]
 simp
theorem Wp {c:bT} (h:ag bQ c≤1073741824):nG k (c,())=some (c,()):=by
 have h1:=ku hk c
 have h2:=ar (e:= .str) (l:=c.2.2.2.2.2)
 simp only[nG]
 rw[if_pos (by simp;omega)]
 simp
def gf (now:Int) (l:List af):List af:=l.filter fun a=> !decide (a.2.2.1≤now)
omit hk in
theorem uc {now:Int} {l:List af} {i:Nat} (h:i<l.length):gf now (l.take (i+1))=if(!decide ((l.getD i ab.aa).2.2.1≤now))=true then gf now (l.take i)++[l.getD i ab.aa]else gf now (l.take i):=by
 rw[gR ab.aa h,gf,gf,List.filter_append,filter_one]
 split<;>simp
omit hk in
theorem vA {now:Int} {l:List af}:(gf now l).length≤l.length:=akI ..
omit hk in
theorem Y8 {now:Int} {l:List af}:ag (.sl ab) (gf now l)≤ag (.sl ab) l:=vD (e:=ab) _ l
theorem SB {l:List af} {now:Int} (h:ag (.sl ab) l≤1073741824):sP k (l,now,())=some (gf now l,()):=by
 have hl:=ar (e:=ab) (l:=l)
 simp only[sP]
 refine bZ (fun i=>(now,gf now (l.take i),l,(l.length:Int),(i:Int),())) l.length (fun G i hi=> ?_) (fun G=> ?_) k 0 (by omega) (by omega)
 ·have hm:=bo (e:=ab) (cj (d:=ab.aa) hi)
  have hs:=vA (now:=now) (l:=l.take i)
  rw[akP]at hs
  simp only[aF,au hi,hi,decide_true,if_true,akv,pQ,akt]
  rw[cB hk (by omega),uc hi,aU (by omega)]
  simp only[akt]
  split
  ·rw[if_pos (by simp;omega)]
  ·rfl
 ·simp
def rX (g:aD) (now:Int):aD:=(g.1,g.2.1,g.2.2.1,now,gf now g.2.2.2.2)
def MU (g:aD) (now:Int):bm:=(g.1,g.2.1,now,g.2.2.2.2)
theorem Ss {g:aD} {now:Int} (h:ag ah g≤1073741824):rC k (g,now,())=some (rX g now,MU g now,()):=by
 have h1:=dB hk g
 have hl:=ar (e:=ab) (l:=g.2.2.2.2)
 simp only[rC,aL]
 rw[CR hk h,akt]
 refine bZ (fun i=>(now,g,_,_,(g.1,g.2.1,g.2.2.1,now,gf now (g.2.2.2.2.take i)),(i:Int),())) g.2.2.2.2.length (fun G i hi=> ?_) (fun G=> ?_) k 0 (by omega) (by omega)
 ·have hm:=bo (e:=ab) (cj (d:=ab.aa) hi)
  have hs:=vA (now:=now) (l:=g.2.2.2.2.take i)
  rw[akP]at hs
  simp only[aF,au hi,hi,decide_true,if_true,akv,pX,akt]
  rw[ew hk (by omega),uc hi,aU (by omega)]
  simp only[akt]
  split
  ·rw[if_pos (by simp;omega)]
  ·rfl
 ·simp only[aF,Nat.lt_irrefl,decide_false,akL,if_false,List.take_length]
  rw[HA hk (by simp only;omega) (by simp only;omega),akt]
  rfl
theorem TM {g:aD} {now:Int} (h:ag ah g≤1073741824):sF k (g,now,())=some (rX g now,MU g now,()):=by
 have h1:=dB hk g
 have hl:=ar (e:=aq) (l:=g.2.1)
 simp only[sF]
 rw[wu hk h,akt,SB hk (by omega),akt,oZ hk (by omega),akt,cR hk (by omega),akt]
 rfl
theorem YO {g:aD} {now:Int}:ag ah (rX g now)≤ag ah g:=by
 rw[dB hk,dB hk]
 have:=Y8 (now:=now) (l:=g.2.2.2.2)
 simp only[rX]
 omega
theorem XR {g:aD} {now:Int}:ag aX (MU g now)=ag ah g:=by
 rw[dB hk,lP hk]
 rfl
end
def dt (k:Nat) (l:List ay):Int:=match eh k (l,())with|some r=>r.1|none=>0
def eJ (f n:Int):Int:=if n<1 then 0 else if f<0 then 0 else Int.tmod f n
def iu (l:List af) (s:List ay):Option Nat:=gB l.length (fun i=>decide ((l.getD i ab.aa).1=s))
def FF (l:List af):Bool:=bj 0 l.length (fun i=>bj 0 i (fun j=> !decide ((l.getD j ab.aa).1=(l.getD i ab.aa).1)))
def iV (k:Nat) (c:aO):Bool:=bj 0 c.2.length (fun i=>cx (c.2.getD i ab.aa)&&decide (dt k (c.2.getD i ab.aa).1=c.1))&&(decide (0<c.2.length)&&FF c.2)
def CY (l:List aO) (i:Nat):Bool:=i==0||decide ((l.getD (i-1) ax.aa).1<(l.getD i ax.aa).1)
def mR (k:Nat) (p:aG) (i n:Int):Bool:=
 bj 0 p.2.2.length (fun j=>iV k (p.2.2.getD j ax.aa)&&(decide (eJ (p.2.2.getD j ax.aa).1 n=i)&&CY p.2.2 j))&&(bO p.1 (-1) 4&&decide (0≤p.2.1))
def jL (k:Nat) (l:List aG):Bool:=bj 0 l.length (fun i=>mR k (l.getD i aj.aa) i l.length)&&bO l.length 1 3
theorem cY {e:Ty} {l:List e.den} {i:Nat} {d:e.den} (hi:i<l.length):ag e (l.getD i d)+l.length≤ag (.sl e) l:=by
 have h:=Uh (f:=ag e) (cj (d:=d) hi)
 simp only[ag]
 omega
section
variable {k:Nat} (hk:9223372036854775808≤k)
include hk
theorem iX {l:List ay} (hs:ag (.sl aq) l≤1048576):eh k (l,())=some (dt k l,()):=by
 obtain⟨n,h1,h2⟩:=RF hk hs
 unfold dt
 rw[h1]
theorem fy {l:List ay} (hs:ag (.sl aq) l≤1048576):eP k (l,())=some (dt k l,()):=by
 obtain⟨n,h1,h2⟩:=RF hk hs
 unfold dt
 rw[h1,h2]
theorem kL {f n:Int}:fV k (f,n,())=some (eJ f n,()):=by
 simp only[fV,eJ]
 by_cases h1:n<1
 ·simp[h1]
 ·by_cases h2:f<0
  ·simp[h1,h2]
  ·have h3:n≠0:=by omega
   simp[h1,h2,h3]
theorem lC {f n:Int}:iy k (f,n,())=some (eJ f n,()):=by
 rw[aaI hk,kL hk]
omit hk in
theorem Lm {f n:Int} (h:1≤n):0≤eJ f n∧eJ f n<n:=by
 unfold eJ
 rw[if_neg (by omega)]
 split
 ·omega
 ·exact⟨Int.tmod_nonneg _ (by omega),Int.tmod_lt_of_pos _ (by omega)⟩
theorem HL {l:List af} {s:List ay} (hs:ag (.sl ab) l≤1048576):dO k (l,s,())=some (cT (iu l s),()):=by
 have hl:=ar (e:=ab) (l:=l)
 simp only[dO]
 refine(fa (fun i:Nat=>(s,l,(l.length:Int),(i:Int),())) (fun i=>decide ((l.getD i ab.aa).1=s)) l.length (e:=some (-1,())) (fun i=>some ((i:Int),())) (fun G i hi=> ?_) (fun G=> ?_) k (by omega)).trans ?_
 ·obtain⟨h1,h2⟩:=fm hk hs hi
  simp only[aF,au hi,hi,decide_true,if_true,akv,eF hk h2,akt]
  rw[aU (by omega)]
 ·simp
 ·unfold iu
  cases gB l.length (fun i=>decide ((l.getD i ab.aa).1=s))<;>rfl
theorem rQ {c:aO} {s:List ay} (hs:ag (.sl ab) c.2≤1048576):gy k (c,s,())=some (cT (iu c.2 s),()):=by
 have hl:=ar (e:=ab) (l:=c.2)
 simp only[gy]
 refine(fa (fun i:Nat=>(s,c,(i:Int),())) (fun i=>decide ((c.2.getD i ab.aa).1=s)) c.2.length (e:=some (-1,())) (fun i=>some ((i:Int),())) (fun G i hi=> ?_) (fun G=> ?_) k (by omega)).trans ?_
 ·obtain⟨h1,h2⟩:=fm hk hs hi
  simp only[aF,au hi,hi,decide_true,if_true,akv,dN hk h2,akt]
  rw[aU (by omega)]
 ·simp
 ·unfold iu
  cases gB c.2.length (fun i=>decide ((c.2.getD i ab.aa).1=s))<;>rfl
theorem rV {c:aO} {s:List ay} (hs:ag (.sl ab) c.2≤1048576):gz k (c,s,())=some (cT (iu c.2 s),()):=by
 simp only[gz]
 rw[HL hk hs,akt]
omit hk in
theorem X8 {l:List af} {i:Nat} (hi:i<l.length):(iu (l.take i) (l.getD i ab.aa).1=none)↔bj 0 i (fun j=> !decide ((l.getD j ab.aa).1=(l.getD i ab.aa).1))=true:=by
 unfold iu
 rw[y5,eN]
 have hl:(l.take i).length=i:=by simp;omega
 rw[hl]
 have hg:∀j,j<i→(l.take i).getD j ab.aa=l.getD j ab.aa:=by
  intro j hj
  simp[akw,List.getElem?_take,hj]
 constructor
 ·intro h j _ hj
  have:=h j hj
  rw[hg j hj]at this
  simp only[this,akQ]
 ·intro h j hj
  have:=h j (by omega) hj
  rw[hg j hj]
  simpa using this
theorem Qh {l:List af} (hs:ag (.sl ab) l≤1048576):j7 k (l,())=some (FF l,()):=by
 have hl:=ar (e:=ab) (l:=l)
 simp only[j7]
 refine(ch (fun i:Nat=>(l,l,(l.length:Int),(i:Int),())) (fun i=>bj 0 i (fun j=> !decide ((l.getD j ab.aa).1=(l.getD i ab.aa).1))) l.length (e:=some (true,())) (no:=some (false,())) ?_ ?_ k 0 (by omega)).trans ?_
 ·intro G i hi
  have ht:=cN (e:=ab) l i
  simp only[aF,au hi,hi,decide_true,if_true,akv]
  rw[if_pos (by simp;omega),HL hk (by omega),akt,aU (by omega)]
  have key:=X8 hi
  cases hp:bj 0 i (fun j=> !decide ((l.getD j ab.aa).1=(l.getD i ab.aa).1))with
  |true=>
   rw[key.2 hp]
   rfl
  |false=>
   cases hq:iu (l.take i) (l.getD i ab.aa).1 with
   |none=>rw[key.1 hq]at hp;cases hp
   |some j=>rw[if_pos (by simp[cT]),if_neg (by simp)]
 ·intro G i hi
  simp only[aF]
  rw[if_neg (by simp;omega)]
 ·unfold FF
  split<;>simp_all
theorem xD {c:aO} (hs:ag ax c≤1048576):oV k (c,())=some (iV k c,()):=by
 rw[cE hk]at hs
 have hl:=ar (e:=ab) (l:=c.2)
 simp only[oV,aL]
 refine(ch (fun i:Nat=>(c,c.2,(c.2.length:Int),(i:Int),())) (fun i=>cx (c.2.getD i ab.aa)&&decide (dt k (c.2.getD i ab.aa).1=c.1)) c.2.length
  (e:=some (decide (0<c.2.length)&&FF c.2,())) (no:=some (false,())) ?_ ?_ k 0 (by omega)).trans ?_
 ·intro G i hi
  obtain⟨h1,h2⟩:=fm hk hs hi
  have h3:=bG hk (c.2.getD i ab.aa)
  simp only[aF,au hi,hi,decide_true,if_true,akv,km hk h1,fy hk (l:=(c.2.getD i ab.aa).1) (by omega),akt,cf]
  rw[aU (by omega)]
  generalize cx (c.2.getD i ab.aa)=b1
  generalize dt k (c.2.getD i ab.aa).1=f
  cases b1<;>by_cases hf:f=c.1<;>simp[hf]
 ·intro G i hi
  simp only[aF]
  rw[if_neg (by simp;omega),Qh hk hs]
  by_cases h0:0<c.2.length<;>simp[h0]
 ·unfold iV
  cases bj 0 c.2.length (fun i=>cx (c.2.getD i ab.aa)&&decide (dt k (c.2.getD i ab.aa).1=c.1))<;>simp
theorem zg {c:aO} (hs:ag ax c≤1048576):oI k (c,())=some (iV k c,()):=by
 rw[cE hk]at hs
 have hl:=ar (e:=ab) (l:=c.2)
 simp only[oI,aL]
 refine(ch (fun i:Nat=>(c,(i:Int),())) (fun i=>(cx (c.2.getD i ab.aa)&&decide (dt k (c.2.getD i ab.aa).1=c.1))&&bj 0 i (fun j=> !decide ((c.2.getD j ab.aa).1=(c.2.getD i ab.aa).1))) c.2.length
  (e:=some (decide (0<c.2.length),())) (no:=some (false,())) ?_ ?_ k 0 (by omega)).trans ?_
 ·intro G i hi
  obtain⟨h1,h2⟩:=fm hk hs hi
  have h3:=bG hk (c.2.getD i ab.aa)
  simp only[aF,au hi,hi,decide_true,if_true,akv,ic hk h1,iX hk (l:=(c.2.getD i ab.aa).1) (by omega),akt,cf,akA]
  have hin:aH k (fun G7 (t8:aO×Int×Int×Unit)=>
   if(decide ((t8.2.2.1:Int)<t8.2.1))=true then
    if(decide (0≤t8.2.2.1∧t8.2.2.1<((akB t8.1.2:Nat):Int)))=true then
     if(decide (0≤t8.2.1∧t8.2.1<((akB t8.1.2:Nat):Int)))=true then
      akO (cH k ((akG t8.1.2 (akH t8.2.2.1) ab.aa).1,(akG t8.1.2 (akH t8.2.1) ab.aa).1,())) fun(r9:Bool×Unit)=>
      if r9.1=true then
       some (false,())
      else
       G7 (t8.1,t8.2.1,IntKind.i64.wrap (t8.2.2.1+(1:Int)),())
     else
      none
    else
     none
   else
    G (t8.1,IntKind.i64.wrap (t8.2.1+(1:Int)),())) (c,(i:Int),(0:Int),())=
   if bj 0 i (fun j=> !decide ((c.2.getD j ab.aa).1=(c.2.getD i ab.aa).1))=true then G (c,((i+1:Nat):Int),())else some (false,()):=by
   refine ch (fun j:Nat=>(c,(i:Int),(j:Int),())) (fun j=> !decide ((c.2.getD j ab.aa).1=(c.2.getD i ab.aa).1)) i ?_ ?_ k 0 (by omega)
   ·intro G2 j hj
    obtain⟨h4,h5⟩:=fm hk hs (i:=j) (by omega)
    simp only[aF,au hi,au (show j<c.2.length by omega),hi,hj,decide_true,if_true,akv,dN hk h5,akt]
    rw[aU (by omega)]
    by_cases hq:(c.2.getD j ab.aa).1=(c.2.getD i ab.aa).1<;>simp only[hq,decide_true,decide_false,akJ,akQ,if_true,akL,if_false]
   ·intro G2 j hj
    simp only[aF]
    rw[if_neg (by simp;omega),aU (by omega)]
  rw[hin]
  generalize cx (c.2.getD i ab.aa)=b1
  generalize dt k (c.2.getD i ab.aa).1=f
  generalize bj 0 i (fun j=> !decide ((c.2.getD j ab.aa).1=(c.2.getD i ab.aa).1))=b3
  cases b1<;>cases b3<;>by_cases hf:f=c.1<;>simp[hf]
 ·intro G i hi
  simp only[aF]
  rw[if_neg (by simp;omega)]
  congr 2
  simp
 ·rw[Ig]
  unfold iV FF
  cases bj 0 c.2.length (fun i=>cx (c.2.getD i ab.aa)&&decide (dt k (c.2.getD i ab.aa).1=c.1))<;>
   cases bj 0 c.2.length (fun i=>bj 0 i (fun j=> !decide ((c.2.getD j ab.aa).1=(c.2.getD i ab.aa).1)))<;>simp
end
end Vg.Tryz
