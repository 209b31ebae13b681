/- Texts of this law, joined. -/
import Derived.Test.YtgikmhjpcnnhjaaGreatQlF
import Derived.Test.YtgikmhjpcnnhjaaGreatZc
import Derived.Test.YtgikmhjpcnnhjaaGreatZd
set_option linter.unusedSimpArgs false
set_option linter.unusedVariables false
set_option linter.unusedSectionVars false
set_option linter.defProp false
open Option renaming bind_some -> cy,bind -> at9
open Int renaming toNat_natCast -> eh,toNat -> atU
open List renaming getD_eq_getElem?_getD -> q',drop_eq_nil_of_le -> atL,length -> E_,take_length -> atP,length_append -> atS,length_reverse -> atZ,length_take -> at3,length_singleton -> at4,takeWhile_append_dropWhile -> at5,takeWhile_cons -> at7,length_cons -> auc,filter_cons_of_pos -> aue,filter_cons_of_neg -> auf,getD -> aug,length_nil -> auh,takeWhile_sublist -> aui,length_filter_le -> auj,getD_cons_succ -> aul,take -> aum,append_assoc -> auo,foldl_cons -> aup,takeWhile -> auq
open Bool renaming false_eq_true -> u_,or_true -> p_,eq_false_or_eq_true -> U_,eq_iff_iff -> VG,and_eq_true -> atO,not_false -> atQ,not_true -> atV,true_or -> atX,and_true -> atY,and_false -> at0,true_and -> at2,false_and -> at8,and_self -> aub,or_self -> aud,eq_false_iff -> aun
open Nat renaming le_trans -> v7,lt_irrefl -> atT,add_sub_cancel -> atW,le_refl -> at1,xor_lt_two_pow -> aua
open List.cons renaming injEq -> at6
open Array renaming toList_append -> auk
open Go.Proofs.Tryz
namespace Vg.Tryz
open Go Vg Go.Proofs
set_option maxRecDepth 1000000
section
variable(k:Nat)
def HK:aE:=(344,⟨jC,acE,vE k,[]⟩)::(Fm k)
def XC:aC prog (HK k):=aF (Vu k) nA nA k func344 (by kernel_rfl)
def Iy:aE:=(275,⟨ajr,[.val aj agt],uT k,[]⟩)::(HK k)
def Yg:aC prog (Iy k):=aF (XC k) nA nA k func275 (by kernel_rfl)
def IV:aE:=(164,⟨jC,akg,uY k,[]⟩)::(Iy k)
def Xk:aC prog (IV k):=aF (Yg k) nA nA k func164 (by kernel_rfl)
def Ti:aP:=λ|3=>some ⟨[(0,j7),(2,.box 5 bj (.pair lR .leaf)),(3,.box 6 bj (.pair agp .leaf)),(4,aK)],8⟩|_=>none
def FK:aE:=(276,⟨jC,WS,tE k,[]⟩)::(IV k)
def U1:aC prog (FK k):=aF (Xk k) Ti nA k func276 (by kernel_rfl)
def HZ:aE:=(165,⟨jC,WS,u6 k,[]⟩)::(FK k)
def Ya:aC prog (HZ k):=aF (U1 k) nA nA k func165 (by kernel_rfl)
def Qq:aP:=λ|4=>some ⟨[(0,j7),(1,nX),(5,.val (.sl ak) acI),(6,aK),(7,aK)],6⟩|_=>none
def C6:aE:=(277,⟨XL,abd,rJ k,[]⟩)::(HZ k)
def Q9:aC prog (C6 k):=aF (Ya k) Qq nA k func277 (by kernel_rfl)
def Bg:aE:=(374,⟨[.val ab sO,.val ab sO,.val (.sl .str) .shr],bm,pX k,[]⟩)::(C6 k)
def Qb:aC prog (Bg k):=aF (Q9 k) nA nA k func374 (by kernel_rfl)
def NO:aP:=λ|4=>some ⟨[(0,j7),(1,nX),(4,abS),(5,agj),(6,.box 8 ak aja),(7,aK)],11⟩|_=>none
def O7:aP:=λ|10=>some ⟨[(0,j7),(4,abS),(5,agj),(6,.box 8 ak aja)],11⟩|_=>none
def Cn:aE:=(347,⟨XL,WZ,rD k,[]⟩)::(Bg k)
def Rs:aC prog (Cn k):=aF (Qb k) NO O7 k func347 (by kernel_rfl)
def Fv:aE:=(278,⟨XL,WZ,pk k,[]⟩)::(Cn k)
def Vo:aC prog (Fv k):=aF (Rs k) nA nA k func278 (by kernel_rfl)
def GB:aE:=(166,⟨XL,abd,tu k,[]⟩)::(Fv k)
def V8:aC prog (GB k):=aF (Vo k) nA nA k func166 (by kernel_rfl)
def Av:aE:=(280,⟨jC,[.val aL Ho],mK k,[]⟩)::(GB k)
def Pa:aC prog (Av k):=aF (V8 k) nA nA k func280 (by kernel_rfl)
def Pb:aP:=λ|3=>some ⟨[(0,j7),(3,akh),(4,aK)],6⟩|_=>none
def D3:aE:=(279,⟨jC,ac6,wE k,[]⟩)::(Av k)
def R9:aC prog (D3 k):=aF (Pa k) Pb nA k func279 (by kernel_rfl)
def RV:aP:=λ|8=>some ⟨[(0,j7),(3,akh)],6⟩|_=>none
def Gz:aE:=(167,⟨jC,ac6,tO k,[]⟩)::(D3 k)
def Wf:aC prog (Gz k):=aF (R9 k) RV nA k func167 (by kernel_rfl)
def Tj:aP:=λ|3=>some ⟨[(0,j7),(3,acX),(4,aK)],6⟩|_=>none
def FR:aE:=(142,⟨jC,RG,pe k,[]⟩)::(Gz k)
def Vf:aC prog (FR k):=aF (Wf k) Tj nA k func142 (by kernel_rfl)
def Rn:aP:=λ|12=>some ⟨[(0,j7),(2,abZ),(3,.box 6 ah aji)],8⟩|_=>none
def SL:aP:=λ|14=>some ⟨[(0,j7),(2,abZ),(3,.box 6 ah aji)],8⟩|24=>some ⟨[(0,j7),(2,abZ),(3,.box 6 ah ajU)],11⟩|26=>some ⟨[(0,j7),(2,abZ),(3,.box 6 ah ajU)],11⟩|_=>none
def Ga:aE:=(168,⟨jC,agW,sZ k,[]⟩)::(FR k)
def UW:aC prog (Ga k):=aF (Vf k) Rn SL k func168 (by kernel_rfl)
def An:aE:=(179,⟨agF,[.val (.sl dO) .own],mw k,[]⟩)::(Ga k)
def OK:aC prog (An k):=aF (UW k) nA nA k func179 (by kernel_rfl)
def RU:aP:=λ|7=>some ⟨[(0,j7),(2,ahj),(3,.box 6 aw ai8)],7⟩|10=>some ⟨[(0,j7),(2,ahj),(3,.box 6 aw (.pair .leaf (.pair .leaf (.pair XZ ajd))))],8⟩|12=>some ⟨[(0,j7),(2,ahj),(3,.box 6 aw (.pair .leaf (.pair .leaf (.pair XZ (.pair lR (.pair .leaf (.pair .leaf (.pair .leaf (.pair BT ade)))))))))],9⟩|_=>none
def F9:aE:=(169,⟨jC,ag3,th k,[]⟩)::(An k)
def VU:aC prog (F9 k):=aF (OK k) nA RU k func169 (by kernel_rfl)
def GC:aE:=(87,⟨YK,[.val aN xW],mb k,[]⟩)::(F9 k)
def Wz:aC prog (GC k):=aF (VU k) nA nA k func87 (by kernel_rfl)
def AF:aE:=(52,⟨Te,[.val aN xW,.val dO .leaf,.val (.sl al) .own],qj k,[]⟩)::(GC k)
def Pj:aC prog (AF k):=aF (Wz k) nA nA k func52 (by kernel_rfl)
def Aw:aE:=(89,⟨YQ,acs,pV k,[]⟩)::(AF k)
def Na:aC prog (Aw k):=aF (Pj k) nA nA k func89 (by kernel_rfl)
def CQ:aE:=(244,⟨LL,Ht,fN k,[]⟩)::(Aw k)
def TG:aC prog (CQ k):=aF (Na k) nA nA k func244 (by kernel_rfl)
def zj:aE:=(144,⟨YC,YO,gi k,[]⟩)::(CQ k)
def MH:aC prog (zj k):=aF (TG k) nA nA k func144 (by kernel_rfl)
def Hn:aP:=λ|3=>some ⟨[(3,R5),(6,oO),(7,aK),(8,aK)],5⟩|_=>none
def yj:aE:=(147,⟨RY,RG,dE k,[]⟩)::(zj k)
def Jw:aC prog (yj k):=aF (MH k) Hn nA k func147 (by kernel_rfl)
def zJ:aE:=(355,⟨abm,acE,oR k,[]⟩)::(yj k)
def Lm:aC prog (zJ k):=aF (Jw k) nA nA k func355 (by kernel_rfl)
def L8:aP:=λ|3=>some ⟨[(1,uf),(2,Xw),(3,ads),(12,acZ),(13,aK),(14,aK)],8⟩|_=>none
def Bl:aE:=(300,⟨acN,aiQ,mU k,[]⟩)::(zJ k)
def P3:aC prog (Bl k):=aF (Lm k) L8 nA k func300 (by kernel_rfl)
end
def Jy:aP:=λ|3=>some ⟨[(3,ahq),(6,sG),(7,aK),(8,aK)],5⟩|_=>none
section
variable(k:Nat)
def zR:aE:=(199,⟨GU,agu,ue k,[]⟩)::(Bl k)
def MA:aC prog (zR k):=aF (P3 k) Jy nA k func199 (by kernel_rfl)
def DP:aE:=(238,⟨Yk,WS,nF k,[]⟩)::(zR k)
def SA:aC prog (DP k):=aF (MA k) nA nA k func238 (by kernel_rfl)
def Lx:aP:=λ|3=>some ⟨[(3,.val (.sl bj) SZ),(6,Hp),(7,aK),(8,aK)],5⟩|_=>none
def AO:aE:=(200,⟨akI,ahl,vG k,[]⟩)::(DP k)
def Qy:aC prog (AO k):=aF (SA k) Lx nA k func200 (by kernel_rfl)
def zq:aE:=(301,⟨[.val ak Eb],WZ,lx k,[]⟩)::(AO k)
def Lg:aC prog (zq k):=aF (Qy k) nA nA k func301 (by kernel_rfl)
def H6:aP:=λ|3=>some ⟨[(3,akc),(6,ub),(7,aK),(8,aK)],5⟩|_=>none
def yq:aE:=(201,⟨akS,abd,sC k,[]⟩)::(zq k)
def JQ:aC prog (yq k):=aF (Lg k) H6 nA k func201 (by kernel_rfl)
def xZ:aE:=(202,⟨abv,ac6,ns k,[]⟩)::(yq k)
def Jq:aC prog (xZ k):=aF (JQ k) nA nA k func202 (by kernel_rfl)
def Ab:aE:=(203,⟨[.val cJ q52],[.val cJ q53],ox k,[]⟩)::(xZ k)
def MK:aC prog (Ab k):=aF (Jq k) nA nA k func203 (by kernel_rfl)
def Am:aE:=(204,⟨Tm,agW,qf k,[]⟩)::(Ab k)
def PY:aC prog (Am k):=aF (MK k) nA nA k func204 (by kernel_rfl)
def A5:aE:=(205,⟨acU,ag3,qk k,[]⟩)::(Am k)
def Pg:aC prog (A5 k):=aF (PY k) nA nA k func205 (by kernel_rfl)
def JN:aP:=λ|6=>some ⟨[(1,Tb),(2,QQ),(3,S5),(41,agY),(42,aK),(43,aK)],14⟩|12=>some ⟨[(1,Tb),(2,QQ),(3,S5),(6,acG),(54,RQ),(55,aK),(56,aK)],15⟩|18=>some ⟨[(1,Tb),(2,QQ),(3,S5),(6,acG),(9,aiU),(67,Xn),(68,aK),(69,aK)],16⟩|_=>none
def JE:aP:=λ|10=>some ⟨[(1,Tb),(2,QQ),(3,S5)],14⟩|16=>some ⟨[(1,Tb),(2,QQ),(3,S5),(6,acG)],15⟩|22=>some ⟨[(1,Tb),(2,QQ),(3,S5),(6,acG),(9,aiU)],16⟩|_=>none
def zi:aE:=(111,⟨xV,af9,cZ k,[]⟩)::(A5 k)
def Me:aC prog (zi k):=aF (Pg k) JN JE k func111 (by kernel_rfl)
def TW:aE:=(77,⟨ajN,bm,cq k,[]⟩)::(zi k)
def ae5:aC prog (TW k):=aF (Me k) nA nA k func77 (by kernel_rfl)
def S3:aP:=λ|4=>some ⟨[(0,wo),(3,aK)],4⟩|_=>none
def Gy:aE:=(195,⟨Q7,bm,pr k,[]⟩)::(TW k)
def VE:aC prog (Gy k):=aF (ae5 k) S3 nA k func195 (by kernel_rfl)
def Nd:aP:=λ|2=>some ⟨[(0,nX),(3,aK)],4⟩|_=>none
def Df:aE:=(196,⟨acR,bm,rK k,[]⟩)::(Gy k)
def S2:aC prog (Df k):=aF (VE k) Nd nA k func196 (by kernel_rfl)
def YG:aP:=λ|2=>some ⟨[(0,nX),(5,nX),(6,aK),(7,aK)],4⟩|_=>none
def Y6:aP:=λ|7=>some ⟨[(0,nX)],4⟩|_=>none
def KK:aE:=(108,⟨acR,bm,wX k,[]⟩)::(Df k)
def Zx:aC prog (KK k):=aF (S2 k) YG Y6 k func108 (by kernel_rfl)
def Gc:aE:=(28,⟨YQ,bm,tF k,[]⟩)::(KK k)
def US:aC prog (Gc k):=aF (Zx k) nA nA k func28 (by kernel_rfl)
def NU:aP:=λ|4=>some ⟨[(0,wo),(3,aK)],4⟩|_=>none
def Cp:aE:=(219,⟨Q7,bm,nE k,[]⟩)::(Gc k)
def RM:aC prog (Cp k):=aF (US k) NU nA k func219 (by kernel_rfl)
def CW:aE:=(306,⟨[.val al Ho],bm,rh k,[]⟩)::(Cp k)
def Rh:aC prog (CW k):=aF (RM k) nA nA k func306 (by kernel_rfl)
def Vm:aP:=λ|2=>some ⟨[(0,jZ),(5,jZ),(6,aK),(7,aK)],4⟩|_=>none
def Is:aE:=(218,⟨LL,bm,j0 k,[]⟩)::(CW k)
def Xm:aC prog (Is k):=aF (Rh k) Vm nA k func218 (by kernel_rfl)
def Cz:aE:=(116,⟨YC,bm,gy k,[]⟩)::(Is k)
def QO:aC prog (Cz k):=aF (Xm k) nA nA k func116 (by kernel_rfl)
def O8:aP:=λ|5=>some ⟨[(3,.val (.sl .str) afB),(9,jZ),(10,aK),(11,aK)],5⟩|_=>none
def PM:aP:=λ|9=>some ⟨[(3,.val (.sl .str) afB)],5⟩|_=>none
def DI:aE:=(237,⟨LL,Mn,rV k,[]⟩)::(Cz k)
def SE:aC prog (DI k):=aF (QO k) O8 PM k func237 (by kernel_rfl)
def Zi:aP:=λ|3=>some ⟨[(0,wo),(3,ajA),(4,aK)],4⟩|_=>none
def aal:aP:=λ|6=>some ⟨[(3,ajA)],4⟩|_=>none
def OW:aE:=(236,⟨Q7,fU,vn k,[]⟩)::(DI k)
def adq:aC prog (OW k):=aF (SE k) Zi aal k func236 (by kernel_rfl)
def FG:aE:=(126,⟨LL,fU,gX k,[]⟩)::(OW k)
def V7:aC prog (FG k):=aF (adq k) nA nA k func126 (by kernel_rfl)
def Qi:aP:=λ|4=>some ⟨[(0,jZ),(1,jZ),(12,aK),(13,aK)],4⟩|_=>none
def DW:aE:=(72,⟨acT,bm,cT k,[]⟩)::(FG k)
def Sc:aC prog (DW k):=aF (V7 k) Qi nA k func72 (by kernel_rfl)
def KU:aP:=λ|2=>some ⟨[(1,jZ),(7,oO),(8,aK),(9,aK)],4⟩|_=>none
def Bt:aE:=(120,⟨[.val (.sl ab) .shr,.val (.sl al) .shr],fU,mD k,[]⟩)::(DW k)
def Pf:aC prog (Bt k):=aF (Sc k) KU nA k func120 (by kernel_rfl)
def GJ:aP:=λ|2=>some ⟨[(0,oO),(5,oO),(6,aK),(7,aK)],4⟩|_=>none
def xB:aE:=(368,⟨RY,bm,mf k,[]⟩)::(Bt k)
def IU:aC prog (xB k):=aF (Pf k) GJ nA k func368 (by kernel_rfl)
end
def Qe:aP:=λ|2=>some ⟨[(1,Ib),(6,oO),(7,aK),(8,aK)],5⟩|_=>none
def Ph:aP:=λ|7=>some ⟨[(1,Ib)],5⟩|_=>none
section
variable(k:Nat)
def Dp:aE:=(338,⟨abm,bm,rC k,[]⟩)::(xB k)
def Rl:aC prog (Dp k):=aF (IU k) Qe Ph k func338 (by kernel_rfl)
def FN:aE:=(125,⟨acg,fU,kv k,[]⟩)::(Dp k)
def UY:aC prog (FN k):=aF (Rl k) nA nA k func125 (by kernel_rfl)
def Tn:aP:=λ|2=>some ⟨[(1,aK),(2,aK),(3,uf),(10,acZ),(11,aK),(12,aK)],5⟩|_=>none
def R2:aP:=λ|7=>some ⟨[(3,uf)],5⟩|_=>none
def Gw:aE:=(263,⟨ajl,bm,tR k,[]⟩)::(FN k)
def VB:aC prog (Gw k):=aF (UY k) Tn R2 k func263 (by kernel_rfl)
def N4:aP:=λ|4=>some ⟨[(0,sG),(9,sG),(10,aK),(11,aK)],4⟩|_=>none
def DO:aE:=(151,⟨GU,bm,rf k,[]⟩)::(Gw k)
def Q4:aC prog (DO k):=aF (VB k) N4 nA k func151 (by kernel_rfl)
def Qn:aP:=λ|3=>some ⟨[(3,aK),(8,sG),(9,aK),(10,aK)],4⟩|6=>some ⟨[(3,aK),(5,.box 4 aj TH),(8,sG),(9,aK),(10,aK),(15,.val (.sl az) MJ),(16,aK),(17,aK)],5⟩|_=>none
def CT:aE:=(48,⟨GU,fU,ry k,[]⟩)::(DO k)
def Q2:aC prog (CT k):=aF (Q4 k) Qn nA k func48 (by kernel_rfl)
def KX:aP:=λ|3=>some ⟨[(1,uf),(3,acX),(7,acZ),(8,aK),(9,aK)],6⟩|_=>none
def BD:aE:=(70,⟨acN,RG,kk k,[]⟩)::(CT k)
def OV:aC prog (BD k):=aF (Q2 k) KX nA k func70 (by kernel_rfl)
def JJ:aP:=λ|3=>some ⟨[(3,R5),(6,sG),(7,aK),(8,aK)],5⟩|_=>none
def JS:aP:=λ|7=>some ⟨[(3,R5)],5⟩|_=>none
def zE:aE:=(51,⟨GU,RG,ig k,[]⟩)::(BD k)
def Mx:aC prog (zE k):=aF (OV k) JJ JS k func51 (by kernel_rfl)
def KB:aE:=(36,⟨ajo,bm,sP k,[]⟩)::(zE k)
def ZS:aC prog (KB k):=aF (Mx k) nA nA k func36 (by kernel_rfl)
def Ij:aP:=λ|4=>some ⟨[(1,eE),(29,acX),(30,aK),(31,aK)],6⟩|_=>none
def yf:aE:=(78,⟨xV,bm,nu k,[]⟩)::(KB k)
def Jt:aC prog (yf k):=aF (ZS k) Ij nA k func78 (by kernel_rfl)
def K7:aP:=λ|2=>some ⟨[(5,oO),(6,aK),(7,aK)],4⟩|_=>none
def Ah:aE:=(80,⟨RY,bm,iH k,[]⟩)::(yf k)
def Qc:aC prog (Ah k):=aF (Jt k) K7 nA k func80 (by kernel_rfl)
def IL:aE:=(152,⟨Yk,bm,vu k,[]⟩)::(Ah k)
def Xa:aC prog (IL k):=aF (Qc k) nA nA k func152 (by kernel_rfl)
def JP:aP:=λ|2=>some ⟨[(0,Hp),(3,Xs),(7,Hp),(8,aK),(9,aK)],5⟩|_=>none
def JM:aP:=λ|7=>some ⟨[(0,Hp),(3,Xs)],5⟩|_=>none
def zZ:aE:=(79,⟨[.val (.sl bj) .shr,.val fX Ir],bm,oW k,[]⟩)::(IL k)
def Mj:aC prog (zZ k):=aF (Xa k) JP JM k func79 (by kernel_rfl)
def Bf:aE:=(264,⟨acg,bm,pO k,[]⟩)::(zZ k)
def Pw:aC prog (Bf k):=aF (Mj k) nA nA k func264 (by kernel_rfl)
def Fl:aE:=(153,⟨acU,bm,tC k,[]⟩)::(Bf k)
def Wr:aC prog (Fl k):=aF (Pw k) nA nA k func153 (by kernel_rfl)
def zA:aE:=(34,⟨abk,bm,cR k,[]⟩)::(Fl k)
def MR:aC prog (zA k):=aF (Wr k) nA nA k func34 (by kernel_rfl)
def Lj:aP:=λ|4=>some ⟨[(0,Eo),(1,Eo),(12,aK),(13,aK)],4⟩|_=>none
def AY:aE:=(339,⟨akL,bm,mG k,[]⟩)::(zA k)
def Qw:aC prog (AY k):=aF (MR k) Lj nA k func339 (by kernel_rfl)
def IS:aP:=λ|4=>some ⟨[(0,oO),(1,oO),(12,aK),(13,aK)],4⟩|_=>none
def yg:aE:=(225,⟨afA,bm,dT k,[]⟩)::(AY k)
def JA:aC prog (yg k):=aF (Qw k) IS nA k func225 (by kernel_rfl)
def BL:aE:=(265,⟨[.val ah Fe,.val ah Fe],bm,mu k,[]⟩)::(yg k)
def OI:aC prog (BL k):=aF (JA k) nA nA k func265 (by kernel_rfl)
def Sp:aP:=λ|2=>some ⟨[(1,Q0),(6,Eo),(7,aK),(8,aK)],5⟩|_=>none
def Ta:aP:=λ|7=>some ⟨[(1,Q0)],5⟩|_=>none
def Fq:aE:=(266,⟨Tm,bm,tQ k,[]⟩)::(BL k)
def Wy:aC prog (Fq k):=aF (OI k) Sp Ta k func266 (by kernel_rfl)
def Rv:aP:=λ|25=>some ⟨[(2,Q0),(5,XP),(6,vL),(7,aK)],6⟩|_=>none
def Gf:aE:=(154,⟨Yy,bm,tV k,[]⟩)::(Fq k)
def Vl:aC prog (Gf k):=aF (Wy k) nA Rv k func154 (by kernel_rfl)
def Gx:aE:=(47,⟨ac2,fU,tG k,[]⟩)::(Gf k)
def V3:aC prog (Gx k):=aF (Vl k) nA nA k func47 (by kernel_rfl)
def NQ:aP:=λ|2=>some ⟨[(1,aK),(2,uf),(8,acZ),(9,aK),(10,aK)],5⟩|_=>none
def Co:aE:=(234,⟨agL,fU,rX k,[]⟩)::(Gx k)
def R3:aC prog (Co k):=aF (V3 k) NQ nA k func234 (by kernel_rfl)
def Cj:aE:=(235,⟨akw,fU,sj k,[]⟩)::(Co k)
def QV:aC prog (Cj k):=aF (R3 k) nA nA k func235 (by kernel_rfl)
def FV:aE:=(124,⟨akM,ac9,tw k,[]⟩)::(Cj k)
def Vz:aC prog (FV k):=aF (QV k) nA nA k func124 (by kernel_rfl)
def Ad:aE:=(46,⟨ac2,ac9,jq k,[]⟩)::(FV k)
def KY:aC prog (Ad k):=aF (Vz k) nA nA k func46 (by kernel_rfl)
end
def JR:aP:=λ|6=>some ⟨[(2,eE),(3,XP),(5,vL),(6,adn),(35,Eo),(36,aK),(37,aK)],7⟩|_=>none
def Js:aP:=λ|13=>some ⟨[(2,eE),(3,XP),(5,vL),(6,adn)],7⟩|_=>none
section
variable(k:Nat)
def zd:aE:=(267,⟨ajQ,bm,oK k,[]⟩)::(Ad k)
def Ly:aC prog (zd k):=aF (KY k) JR Js k func267 (by kernel_rfl)
def AP:aE:=(155,⟨[.val aN xW,.val ah Fe,.val aw TL],bm,qb k,[]⟩)::(zd k)
def Nn:aC prog (AP k):=aF (Ly k) nA nA k func155 (by kernel_rfl)
def HU:aP:=λ|2=>some ⟨[(1,eE),(9,Xn),(10,aK),(11,aK)],5⟩|8=>some ⟨[(1,eE),(41,RQ),(42,aK),(43,aK)],5⟩|_=>none
def IN:aP:=λ|7=>some ⟨[(1,eE)],5⟩|_=>none
def yn:aE:=(81,⟨xV,bm,nk k,[]⟩)::(AP k)
def Jv:aC prog (yn k):=aF (Nn k) HU IN k func81 (by kernel_rfl)
def FM:aE:=(161,⟨[.val ah Fe,.val dO .leaf,.val .bool .leaf],fU,pd k,[]⟩)::(yn k)
def Wt:aC prog (FM k):=aF (Jv k) nA nA k func161 (by kernel_rfl)
def zF:aE:=(156,⟨Yy,fU,lK k,[]⟩)::(FM k)
def Lo:aC prog (zF k):=aF (Wt k) nA nA k func156 (by kernel_rfl)
def xG:aE:=(157,⟨Tm,bm,jT k,[]⟩)::(zF k)
def Hx:aC prog (xG k):=aF (Lo k) nA nA k func157 (by kernel_rfl)
def Ix:aP:=λ|2=>some ⟨[(1,eE),(10,sG),(11,aK),(12,aK)],5⟩|5=>some ⟨[(1,eE),(3,aK),(4,.box 5 aj TH),(10,sG),(11,aK),(12,aK),(18,RQ),(19,aK),(20,aK)],6⟩|12=>some ⟨[(1,eE),(40,RQ),(41,aK),(42,aK)],5⟩|_=>none
def HO:aP:=λ|11=>some ⟨[(1,eE)],5⟩|17=>some ⟨[(1,eE)],5⟩|_=>none
def yl:aE:=(82,⟨xV,bm,np k,[]⟩)::(xG k)
def JW:aC prog (yl k):=aF (Hx k) Ix HO k func82 (by kernel_rfl)
def PU:aP:=λ|2=>some ⟨[(1,wo),(7,nX),(8,aK),(9,aK)],4⟩|_=>none
def De:aE:=(375,⟨ai1,bm,sg k,[]⟩)::(yl k)
def Q8:aC prog (De k):=aF (JW k) PU nA k func375 (by kernel_rfl)
def PI:aP:=λ|3=>some ⟨[(1,nX),(5,aiZ),(8,jZ),(9,aK),(10,aK)],5⟩|_=>none
def D6:aE:=(356,⟨akj,Ht,wD k,[]⟩)::(De k)
def SM:aC prog (D6 k):=aF (Q8 k) PI nA k func356 (by kernel_rfl)
def IZ:aE:=(307,⟨ajZ,Ht,vA k,[]⟩)::(D6 k)
def Yo:aC prog (IZ k):=aF (SM k) nA nA k func307 (by kernel_rfl)
def Pv:aP:=λ|2=>some ⟨[(0,jZ),(1,jZ),(5,aK)],4⟩|_=>none
def PL:aP:=λ|8=>some ⟨[(0,jZ),(1,jZ)],4⟩|_=>none
def CE:aE:=(240,⟨acT,bm,nR k,[]⟩)::(IZ k)
def RR:aC prog (CE k):=aF (Yo k) Pv PL k func240 (by kernel_rfl)
def Of:aP:=λ|2=>some ⟨[(0,oO),(1,jZ),(2,nX),(9,oO),(10,aK),(11,aK)],4⟩|_=>none
def CU:aE:=(340,⟨[.val (.sl ab) .shr,.val (.sl al) .shr,.val (.sl .str) .shr],bm,rE k,[]⟩)::(CE k)
def RE:aC prog (CU k):=aF (RR k) Of nA k func340 (by kernel_rfl)
def CY:aE:=(268,⟨ajj,bm,rS k,[]⟩)::(CU k)
def Ri:aC prog (CY k):=aF (RE k) nA nA k func268 (by kernel_rfl)
def O6:aP:=λ|2=>some ⟨[(1,jZ),(7,ub),(8,aK),(9,aK)],4⟩|_=>none
def DT:aE:=(269,⟨ajB,fU,rz k,[]⟩)::(CY k)
def Rf:aC prog (DT k):=aF (Ri k) O6 nA k func269 (by kernel_rfl)
def Lp:aP:=λ|2=>some ⟨[(0,ub),(1,nX),(7,ub),(8,aK),(9,aK)],4⟩|_=>none
def AE:aE:=(158,⟨ajt,bm,pR k,[]⟩)::(DT k)
def OO:aC prog (AE k):=aF (Rf k) Lp nA k func158 (by kernel_rfl)
def FX:aE:=(270,⟨ajg,bm,tM k,[]⟩)::(AE k)
def Vn:aC prog (FX k):=aF (OO k) nA nA k func270 (by kernel_rfl)
def S9:aP:=λ|2=>some ⟨[(0,um),(5,um),(6,aK),(7,aK)],4⟩|_=>none
def Sg:aP:=λ|7=>some ⟨[(0,um)],4⟩|_=>none
def Gr:aE:=(159,⟨abv,bm,tf k,[]⟩)::(FX k)
def U4:aC prog (Gr k):=aF (Vn k) S9 Sg k func159 (by kernel_rfl)
def Ce:aE:=(271,⟨aku,fU,wC k,[]⟩)::(Gr k)
def SX:aC prog (Ce k):=aF (U4 k) nA nA k func271 (by kernel_rfl)
def Oy:aE:=(160,⟨ai7,fU,yF k,[]⟩)::(Ce k)
def acr:aC prog (Oy k):=aF (SX k) nA nA k func160 (by kernel_rfl)
def GD:aP:=λ|4=>some ⟨[(1,eE),(26,ub),(27,aK),(28,aK)],5⟩|10=>some ⟨[(1,eE),(4,acY),(5,vL),(26,ub),(27,aK),(28,aK),(68,um),(69,aK),(70,aK)],6⟩|18=>some ⟨[(1,eE),(96,um),(97,aK),(98,aK)],5⟩|23=>some ⟨[(1,eE),(9,.box 5 aL XX),(96,um),(97,aK),(98,aK),(111,um),(112,aK),(113,aK)],6⟩|_=>none
def GF:aP:=λ|14=>some ⟨[(1,eE),(4,acY),(5,vL),(26,ub),(27,aK),(28,aK)],6⟩|17=>some ⟨[(1,eE)],5⟩|_=>none
def xr:aE:=(83,⟨xV,bm,mj k,[]⟩)::(Oy k)
def GZ:aC prog (xr k):=aF (acr k) GD GF k func83 (by kernel_rfl)
def C3:aE:=(15,⟨xV,bm,fO k,[]⟩)::(xr k)
def Si:aC prog (C3 k):=aF (GZ k) nA nA k func15 (by kernel_rfl)
def Ka:aE:=(17,⟨IC,bm,sM k,[]⟩)::(C3 k)
def aai:aC prog (Ka k):=aF (Si k) nA nA k func17 (by kernel_rfl)
def Gu:aE:=(206,⟨IC,bm,tN k,[]⟩)::(Ka k)
def Vd:aC prog (Gu k):=aF (aai k) nA nA k func206 (by kernel_rfl)
def xL:aE:=(207,⟨aj9,fU,mC k,[(0,(dZ 14 12))]⟩)::(Gu k)
def II:aC prog (xL k):=aF (Vd k) nA nA k func207 (by kernel_rfl)
def xn:aE:=(243,⟨[.io aN wK,.val dO .leaf,.val ah ajI,.val aw TL],bm,jW k,[]⟩)::(xL k)
def Ha:aC prog (xn k):=aF (II k) nA nA k func243 (by kernel_rfl)
def ye:aE:=(131,⟨[.io aN wK,.val dO .leaf,.val (.sl al) .shr],bm,sJ k,[]⟩)::(xn k)
def Jm:aC prog (ye k):=aF (Ha k) nA nA k func131 (by kernel_rfl)
def KI:aE:=(53,⟨akk,RL,xl k,[]⟩)::(ye k)
def aab:aC prog (KI k):=aF (Jm k) nA nA k func53 (by kernel_rfl)
def PB:aP:=λ|2=>some ⟨[(1,Ib),(3,aK)],5⟩|7=>some ⟨[(1,Ib),(3,aK),(4,aK)],5⟩|_=>none
def Pu:aP:=λ|11=>some ⟨[(1,Ib)],5⟩|_=>none
def Dj:aE:=(349,⟨abm,bm,rI k,[]⟩)::(KI k)
def Sa:aC prog (Dj k):=aF (aab k) PB Pu k func349 (by kernel_rfl)
def TO:aP:=λ|2=>some ⟨[(1,aK),(2,aK),(3,uf),(7,aK)],5⟩|_=>none
def SY:aP:=λ|6=>some ⟨[(3,uf)],5⟩|_=>none
def F0:aE:=(284,⟨ajl,bm,tL k,[]⟩)::(Dj k)
def Wh:aC prog (F0 k):=aF (Sa k) TO SY k func284 (by kernel_rfl)
def Qd:aP:=λ|2=>some ⟨[(0,sG),(3,aK)],4⟩|_=>none
def Nq:aP:=λ|6=>some ⟨[(0,sG)],4⟩|_=>none
def CF:aE:=(174,⟨GU,bm,sB k,[]⟩)::(F0 k)
def SC:aC prog (CF k):=aF (Wh k) Qd Nq k func174 (by kernel_rfl)
def LJ:aP:=λ|5=>some ⟨[(1,eE),(3,ajP),(4,aK)],6⟩|_=>none
def MT:aP:=λ|9=>some ⟨[(1,eE),(3,ajP)],6⟩|_=>none
def BG:aE:=(94,⟨xV,bm,qo k,[]⟩)::(CF k)
def Py:aC prog (BG k):=aF (SC k) LJ MT k func94 (by kernel_rfl)
def Sy:aP:=λ|2=>some ⟨[(0,oO),(3,aK)],4⟩|_=>none
def FQ:aE:=(95,⟨RY,bm,mc k,[]⟩)::(BG k)
def Vp:aC prog (FQ k):=aF (Py k) Sy nA k func95 (by kernel_rfl)
def Wn:aP:=λ|2=>some ⟨[(1,ajO),(3,aK)],5⟩|_=>none
def Wb:aP:=λ|6=>some ⟨[(1,ajO)],5⟩|_=>none
def IJ:aE:=(96,⟨Yk,bm,vp k,[]⟩)::(FQ k)
def XT:aC prog (IJ k):=aF (Vp k) Wn Wb k func96 (by kernel_rfl)
def SH:aP:=λ|2=>some ⟨[(0,Eo),(1,aK),(5,aK)],4⟩|_=>none
def Fz:aE:=(178,⟨[.val (.sl dO) .shr,.val dO .leaf],bm,lX k,[]⟩)::(IJ k)
def Wv:aC prog (Fz k):=aF (XT k) SH nA k func178 (by kernel_rfl)
def Gj:aE:=(97,⟨acU,bm,tH k,[]⟩)::(Fz k)
def VQ:aC prog (Gj k):=aF (Wv k) nA nA k func97 (by kernel_rfl)
def zo:aE:=(183,⟨abk,bm,eZ k,[]⟩)::(Gj k)
def KR:aC prog (zo k):=aF (VQ k) nA nA k func183 (by kernel_rfl)
def CA:aE:=(288,⟨YC,bm,jl k,[]⟩)::(zo k)
def Sw:aC prog (CA k):=aF (KR k) nA nA k func288 (by kernel_rfl)
def Nu:aP:=λ|2=>some ⟨[(1,Q0),(3,aK)],5⟩|_=>none
def NH:aP:=λ|6=>some ⟨[(1,Q0)],5⟩|_=>none
def C4:aE:=(289,⟨Tm,bm,rj k,[]⟩)::(CA k)
def SG:aC prog (C4 k):=aF (Sw k) Nu NH k func289 (by kernel_rfl)
def FP:aE:=(180,⟨Yy,bm,tJ k,[]⟩)::(C4 k)
def U7:aC prog (FP k):=aF (SG k) nA nA k func180 (by kernel_rfl)
def Tv:aP:=λ|4=>some ⟨[(0,oO),(1,oO),(5,aK)],4⟩|_=>none
def FB:aE:=(292,⟨afA,bm,tP k,[]⟩)::(FP k)
def Wp:aC prog (FB k):=aF (U7 k) Tv nA k func292 (by kernel_rfl)
def N2:aP:=λ|4=>some ⟨[(2,eE),(3,XP),(5,adn),(6,vL),(7,aK)],7⟩|_=>none
def OA:aP:=λ|10=>some ⟨[(2,eE),(3,XP),(5,adn),(6,vL)],7⟩|_=>none
def CS:aE:=(185,⟨ajQ,bm,js k,[]⟩)::(FB k)
def RC:aC prog (CS k):=aF (Wp k) N2 OA k func185 (by kernel_rfl)
def O0:aP:=λ|26=>some ⟨[(2,eE),(5,.box 5 ah (.pair .leaf (.pair .leaf (.pair ajq (.pair MJ (.pair .leaf (.pair MJ (.pair MJ XX)))))))),(6,.box 6 aw (.pair .leaf (.pair .leaf (.pair ajq (.pair MJ (.pair .leaf (.pair .leaf (.pair .leaf (.pair MJ ade)))))))))],7⟩|_=>none
def Dy:aE:=(98,⟨IC,bm,rn k,[]⟩)::(CS k)
def Rk:aC prog (Dy k):=aF (RC k) nA O0 k func98 (by kernel_rfl)
def zn:aE:=(186,⟨Yy,fU,oZ k,[]⟩)::(Dy k)
def MC:aC prog (zn k):=aF (Rk k) nA nA k func186 (by kernel_rfl)
def xD:aE:=(187,⟨Tm,bm,mg k,[]⟩)::(zn k)
def HL:aC prog (xD k):=aF (MC k) nA nA k func187 (by kernel_rfl)
def LF:aP:=λ|3=>some ⟨[(1,eE),(3,RD),(4,aK)],6⟩|8=>some ⟨[(1,eE),(3,RD),(5,aK),(6,aK)],6⟩|20=>some ⟨[(1,eE),(3,RD),(5,aK),(8,aK)],6⟩|_=>none
def Lq:aP:=λ|6=>some ⟨[(1,eE),(3,RD)],6⟩|15=>some ⟨[(1,eE),(3,RD),(5,aK),(6,aK)],6⟩|19=>some ⟨[(1,eE),(3,RD),(5,aK)],6⟩|24=>some ⟨[(1,eE),(5,aK)],5⟩|_=>none
def BF:aE:=(99,⟨xV,bm,mN k,[]⟩)::(xD k)
def OF:aC prog (BF k):=aF (HL k) LF Lq k func99 (by kernel_rfl)
def PH:aP:=λ|2=>some ⟨[(1,nX),(2,Hc),(5,aK)],5⟩|_=>none
def Nw:aP:=λ|6=>some ⟨[(2,Hc)],5⟩|_=>none
def CG:aE:=(295,⟨ajj,bm,qZ k,[]⟩)::(BF k)
def Rq:aC prog (CG k):=aF (OF k) PH Nw k func295 (by kernel_rfl)
def KQ:aP:=λ|2=>some ⟨[(0,ub),(1,nX),(5,aK)],4⟩|7=>some ⟨[(0,ub),(1,nX),(5,aK),(6,aK)],4⟩|_=>none
def LG:aP:=λ|11=>some ⟨[(0,ub)],4⟩|_=>none
def Bu:aE:=(188,⟨ajt,bm,pQ k,[]⟩)::(CG k)
def OT:aC prog (Bu k):=aF (Rq k) KQ LG k func188 (by kernel_rfl)
def SR:aP:=λ|2=>some ⟨[(0,um),(3,aK)],4⟩|_=>none
def QU:aP:=λ|6=>some ⟨[(0,um)],4⟩|_=>none
def Fw:aE:=(189,⟨abv,bm,tI k,[]⟩)::(Bu k)
def Vx:aC prog (Fw k):=aF (OT k) SR QU k func189 (by kernel_rfl)
def JB:aP:=λ|4=>some ⟨[(1,eE),(3,aK)],5⟩|9=>some ⟨[(1,eE),(3,aK),(4,aK)],5⟩|14=>some ⟨[(1,eE),(5,aK)],5⟩|19=>some ⟨[(1,eE),(5,aK),(6,acY),(7,vL),(8,aK)],6⟩|_=>none
def JK:aP:=λ|13=>some ⟨[(1,eE)],5⟩|22=>some ⟨[(1,eE),(5,aK),(6,acY),(7,vL)],6⟩|_=>none
def zg:aE:=(100,⟨xV,bm,lF k,[]⟩)::(Fw k)
def Md:aC prog (zg k):=aF (Vx k) JB JK k func100 (by kernel_rfl)
def Oa:aP:=λ|4=>some ⟨[(1,eE),(3,aK)],5⟩|9=>some ⟨[(1,eE),(4,aK)],5⟩|15=>some ⟨[(1,eE),(6,aK)],5⟩|_=>none
def Ob:aP:=λ|8=>some ⟨[(1,eE)],5⟩|14=>some ⟨[(1,eE)],5⟩|19=>some ⟨[(1,eE)],5⟩|_=>none
def CO:aE:=(25,⟨xV,bm,lh k,[]⟩)::(zg k)
def Sm:aC prog (CO k):=aF (Md k) Oa Ob k func25 (by kernel_rfl)
def Kp:aE:=(30,⟨IC,bm,sT k,[]⟩)::(CO k)
def Zj:aC prog (Kp k):=aF (Sm k) nA nA k func30 (by kernel_rfl)
def KG:aE:=(54,⟨akk,RL,wV k,[]⟩)::(Kp k)
def ZB:aC prog (KG k):=aF (Zj k) nA nA k func54 (by kernel_rfl)
def AG:aE:=(55,⟨Te,akr,qh k,[]⟩)::(KG k)
def P7:aC prog (AG k):=aF (ZB k) nA nA k func55 (by kernel_rfl)
def yb:aE:=(134,⟨qP,bm,sI k,[]⟩)::(AG k)
def Ju:aC prog (yb k):=aF (P7 k) nA nA k func134 (by kernel_rfl)
def KD:aE:=(56,⟨IC,RL,xk k,[]⟩)::(yb k)
def Zd:aC prog (KD k):=aF (Ju k) nA nA k func56 (by kernel_rfl)
def JX:aE:=(57,⟨IC,RL,xb k,[]⟩)::(KD k)
def Zc:aC prog (JX k):=aF (Zd k) nA nA k func57 (by kernel_rfl)
def Nk:aP:=λ|3=>some ⟨[(0,j7),(2,Eo),(4,QM),(7,aK),(8,aK)],6⟩|_=>none
def NX:aP:=λ|8=>some ⟨[(0,j7),(4,QM),(7,aK)],6⟩|_=>none
def CL:aE:=(121,⟨[.io qF Ff,.val aN xW,.val (.sl dO) .shr],fU,sn k,[]⟩)::(JX k)
def SU:aC prog (CL k):=aF (Zc k) Nk NX k func121 (by kernel_rfl)
def wh:aE:=(58,⟨Te,akr,lM k,[]⟩)::(CL k)
def GI:aC prog (wh k):=aF (SU k) nA nA k func58 (by kernel_rfl)
def y8:aE:=(84,⟨Yy,fU,oF k,[]⟩)::(wh k)
def KW:aC prog (y8 k):=aF (GI k) nA nA k func84 (by kernel_rfl)
def yd:aE:=(226,⟨qP,bm,kE k,[(0,(dZ 14 12))]⟩)::(y8 k)
def JC:aC prog (yd k):=aF (KW k) nA nA k func226 (by kernel_rfl)
def sV:aE:=(229,⟨afH,[],jM k,[(0,(dZ 14 12))]⟩)::(yd k)
def BS:aC prog (sV k):=aF (JC k) nA nA k func229 (by kernel_rfl)
def Jj:aP:=λ|3=>some ⟨[(0,EG),(1,aK),(6,aK)],14⟩|7=>some ⟨[(0,EG),(1,aK)],14⟩|_=>none
def yW:aE:=(227,⟨afH,[],jr k,[]⟩)::(sV k)
def Ma:aC prog (yW k):=aF (BS k) nA Jj k func227 (by kernel_rfl)
def vf:aE:=(247,⟨qP,bm,kJ k,[]⟩)::(yW k)
def Et:aC prog (vf k):=aF (Ma k) nA nA k func247 (by kernel_rfl)
def wg:aE:=(255,⟨qP,[],lL k,[(0,(dZ 14 12))]⟩)::(vf k)
def GH:aC prog (wg k):=aF (Et k) nA nA k func255 (by kernel_rfl)
def Af:aP:=λ|2=>some ⟨[(0,.rdp [1] aN ahc),(3,Q0),(8,Eo),(9,aK),(10,aK)],5⟩|_=>none
def sY:aE:=(320,⟨[.rd aN,.val ah Fe],bm,jH k,[]⟩)::(wg k)
def Cd:aC prog (sY k):=aF (GH k) Af nA k func320 (by kernel_rfl)
def uC:aE:=(248,⟨qP,bm,fY k,[]⟩)::(sY k)
def D5:aC prog (uC k):=aF (Cd k) nA nA k func248 (by kernel_rfl)
def Cc:aP:=λ|7=>some ⟨[(0,EG),(5,vL)],14⟩|_=>none
def uy:aE:=(135,⟨qP,bm,fm k,[]⟩)::(uC k)
def CK:aC prog (uy k):=aF (D5 k) nA Cc k func135 (by kernel_rfl)
def Bk:aE:=(59,⟨IC,RL,pP k,[]⟩)::(uy k)
def P4:aC prog (Bk k):=aF (CK k) nA nA k func59 (by kernel_rfl)
def AL:aE:=(60,⟨IC,RL,qa k,[]⟩)::(Bk k)
def Nb:aC prog (AL k):=aF (P4 k) nA nA k func60 (by kernel_rfl)
def Jz:aP:=λ|4=>some ⟨[(0,nX),(1,nX),(12,aK),(13,aK)],4⟩|_=>none
def zw:aE:=(191,⟨[.val (.sl .str) .shr,.val (.sl .str) .shr],bm,oC k,[]⟩)::(AL k)
def Mi:aC prog (zw k):=aF (Nb k) Jz nA k func191 (by kernel_rfl)
def Az:aE:=(101,⟨[.val fX Ir,.val fX Ir],bm,pS k,[]⟩)::(zw k)
def Oi:aC prog (Az k):=aF (Mi k) nA nA k func101 (by kernel_rfl)
def zt:aE:=(217,⟨[.val az Mg,.val az Mg],bm,oT k,[]⟩)::(Az k)
def Lw:aC prog (zt k):=aF (Oi k) nA nA k func217 (by kernel_rfl)
def K9:aP:=λ|4=>some ⟨[(2,uf),(3,.box 5 aj h6),(29,aK),(30,aK)],6⟩|_=>none
def BC:aE:=(115,⟨[.val aj KO,.val aj KO],bm,qp k,[]⟩)::(zt k)
def OU:aC prog (BC k):=aF (Lw k) K9 nA k func115 (by kernel_rfl)
def Jp:aP:=λ|4=>some ⟨[(0,sG),(1,sG),(5,aK)],4⟩|_=>none
def yO:aE:=(35,⟨[.val (.sl aj) .shr,.val (.sl aj) .shr],bm,lJ k,[]⟩)::(BC k)
def Lr:aC prog (yO k):=aF (OU k) Jp nA k func35 (by kernel_rfl)
def CV:aE:=(127,⟨[.val bj ab5,.val bj ab5],bm,rM k,[]⟩)::(yO k)
def Ss:aC prog (CV k):=aF (Lr k) nA nA k func127 (by kernel_rfl)
end
def Mt:aP:=λ|4=>some ⟨[(0,Hp),(1,Hp),(5,aK)],4⟩|_=>none
section
variable(k:Nat)
def A9:aE:=(49,⟨[.val (.sl bj) .shr,.val (.sl bj) .shr],bm,qi k,[]⟩)::(CV k)
def Qj:aC prog (A9 k):=aF (Ss k) Mt nA k func49 (by kernel_rfl)
def LR:aP:=λ|4=>some ⟨[(0,oO),(1,oO),(5,aK)],4⟩|_=>none
def AH:aE:=(40,⟨afA,bm,fV k,[]⟩)::(A9 k)
def Ni:aC prog (AH k):=aF (Qj k) LR nA k func40 (by kernel_rfl)
def yY:aE:=(119,⟨[.val ak Eb,.val ak Eb],bm,oy k,[]⟩)::(AH k)
def Mw:aC prog (yY k):=aF (Ni k) nA nA k func119 (by kernel_rfl)
def Im:aP:=λ|4=>some ⟨[(0,ub),(1,ub),(5,aK)],4⟩|_=>none
def yp:aE:=(41,⟨[.val (.sl ak) .shr,.val (.sl ak) .shr],bm,nr k,[]⟩)::(yY k)
def Ji:aC prog (yp k):=aF (Mw k) Im nA k func41 (by kernel_rfl)
def Ml:aP:=λ|4=>some ⟨[(0,um),(1,um),(5,aK)],4⟩|_=>none
def AV:aE:=(102,⟨[.val (.sl aL) .shr,.val (.sl aL) .shr],bm,qc k,[]⟩)::(yp k)
def Qt:aC prog (AV k):=aF (Ji k) Ml nA k func102 (by kernel_rfl)
def zl:aE:=(192,⟨[.val cJ q52,.val cJ q52],bm,ow k,[]⟩)::(AV k)
def LD:aC prog (zl k):=aF (Qt k) nA nA k func192 (by kernel_rfl)
def LX:aP:=λ|4=>some ⟨[(0,agY),(1,agY),(5,aK)],4⟩|_=>none
def AX:aE:=(103,⟨[.val (.sl cJ) .shr,.val (.sl cJ) .shr],bm,qq k,[]⟩)::(zl k)
def N6:aC prog (AX k):=aF (LD k) LX nA k func103 (by kernel_rfl)
def Ls:aP:=λ|4=>some ⟨[(0,Eo),(1,Eo),(5,aK)],4⟩|_=>none
def BI:aE:=(193,⟨akL,bm,ml k,[]⟩)::(AX k)
def N0:aC prog (BI k):=aF (N6 k) Ls nA k func193 (by kernel_rfl)
def JI:aP:=λ|4=>some ⟨[(0,RQ),(1,RQ),(5,aK)],4⟩|_=>none
def zu:aE:=(104,⟨[.val (.sl ah) .shr,.val (.sl ah) .shr],bm,oJ k,[]⟩)::(BI k)
def K2:aC prog (zu k):=aF (N0 k) JI nA k func104 (by kernel_rfl)
def AR:aE:=(194,⟨[.val aw TL,.val aw TL],bm,pY k,[]⟩)::(zu k)
def Og:aC prog (AR k):=aF (K2 k) nA nA k func194 (by kernel_rfl)
def JU:aP:=λ|4=>some ⟨[(0,Xn),(1,Xn),(5,aK)],4⟩|_=>none
def zx:aE:=(105,⟨[.val (.sl aw) .shr,.val (.sl aw) .shr],bm,ou k,[]⟩)::(AR k)
def KP:aC prog (zx k):=aF (Og k) JU nA k func105 (by kernel_rfl)
def zy:aE:=(26,⟨[.val aN xW,.val aN xW],bm,ik k,[]⟩)::(zx k)
def Le:aC prog (zy k):=aF (KP k) nA nA k func26 (by kernel_rfl)
def To:aE:=(8,⟨Te,bm,nD k,[]⟩)::(zy k)
def TM:aC prog (To k):=aF (Le k) nA nA k func8 (by kernel_rfl)
end
end Vg.Tryz
namespace Vg.Tryz
open Go Vg
section
variable{k:Nat}(O:9223372036854775808<=k)
include O
theorem oP(x:bw):ag fX x=ag (.sl .str) x.2.2.2.2.2:=by
 obtain⟨x0,x1,x2,x3,x4,x5⟩:=x;simp only[ag]
 try omega
theorem qU(x:ai):ag al x=x.1.size+x.2.size:=by
 obtain⟨x0,x1⟩:=x;simp only[ag]
 try omega
theorem bG(x:ae):ag ab x=ag (.sl al) x.1+x.2.2.2.size:=by
 obtain⟨x0,x1,x2,x3⟩:=x;simp only[ag]
 try omega
theorem dj(x:aR):ag az x=ag (.sl ab) x.2:=by
 obtain⟨x0,x1⟩:=x;simp only[ag]
 try omega
theorem cM(x:aq):ag aj x=ag (.sl az) x.2.2:=by
 obtain⟨x0,x1,x2⟩:=x;simp only[ag]
 try omega
theorem gO(x:bp):ag bj x=ag (.sl ab) x.1:=by
 obtain⟨x0,x1⟩:=x;simp only[ag]
 try omega
theorem di(x:ar):ag ak x=ag (.sl al) x.2.1+ag (.sl ab) x.2.2.2.2:=by
 obtain⟨x0,x1,x2,x3,x4⟩:=x;simp only[ag]
 try omega
theorem UE(x:aI):ag aL x=0:=by
 obtain⟨x0,x1⟩:=x;simp only[ag]
 try omega
theorem uw(x:bE):ag cJ x=ag (.sl al) x.2.1+ag (.sl ab) x.2.2.2:=by
 obtain⟨x0,x1,x2,x3⟩:=x;simp only[ag]
 try omega
theorem bq(x:aA):ag ah x=ag ab x.2.2.1+ag (.sl al) x.2.2.2.1+ag (.sl (.int .i64)) x.2.2.2.2.2.1+ag (.sl ab) x.2.2.2.2.2.2.1:=by
 obtain⟨x0,x1,x2,x3,x4,x5,x6,x7,x8⟩:=x;simp only[ag]
 try omega
theorem cD(x:ay):ag aw x=ag ab x.2.2.1+ag (.sl al) x.2.2.2.1+ag (.sl ab) x.2.2.2.2.2.2.2.1:=by
 obtain⟨x0,x1,x2,x3,x4,x5,x6,x7,x8,x9,x10,x11⟩:=x;simp only[ag]
 try omega
theorem cO(x:af):ag aN x=ag fX x.1+ag (.sl aj) x.2.2.2.1+ag (.sl bj) x.2.2.2.2.1+ag (.sl ab) x.2.2.2.2.2.1+ag (.sl ak) x.2.2.2.2.2.2.2.1+ag (.sl aL) x.2.2.2.2.2.2.2.2.2.1+ag (.sl cJ) x.2.2.2.2.2.2.2.2.2.2.1+ag (.sl ab) x.2.2.2.2.2.2.2.2.2.2.2.1+ag (.sl ah) x.2.2.2.2.2.2.2.2.2.2.2.2.1+ag (.sl aw) x.2.2.2.2.2.2.2.2.2.2.2.2.2:=by
 obtain⟨x0,x1,x2,x3,x4,x5,x6,x7,x8,x9,x10,x11,x12,x13⟩:=x;simp only[ag]
 try omega
end
def LC(s:ByteArray)(i:Nat):Bool:=decide (97<=bt s i)&&decide (bt s i<=122)
def im(s:ByteArray):Bool:=decide (1<=s.size/\s.size<=8)&&bF 0 s.size (LC s)
def zH(s:ByteArray)(i:Nat):Bool:=decide (32<=bt s i/\bt s i<=126/\bt s i≠34/\bt s i≠92)
def lY(s:ByteArray):Bool:=decide (s.size<=12)&&bF 0 s.size (zH s)
def gN(x:ai):Bool:=im x.1&&lY x.2
def GQ(l:List ai)(i:Nat):Bool:=i==0||ny (l.getD (i-1) al.aa).1 (l.getD i al.aa).1
def dP(l:List ai):Bool:=decide (l.length<=4)&&bF 0 l.length (λi=>gN (l.getD i al.aa)&&GQ l i)
section
variable{k:Nat}(O:9223372036854775808<=k)
include O
theorem Dv{s:ByteArray}(hs:s.size<=1048576):o9 k (s,())=some (im s,()):=by
 simp only[o9,aO];rw[show((s,(0:Int),()):ByteArray×Int×Unit)=(λi:Nat=>(s,(i:Int),())) 0 from rfl];rw[cV (λi:Nat=>(s,(i:Int),())) (LC s) s.size (e:=some (decide (1<=s.size/\s.size<=8),())) (no:=some (false,())) ?_ ?_ k 0 (by omega)];unfold im;cases bF 0 s.size (LC s)<;>simp;intro G i a;simp only;rw[aG,c_ a,an rfl,an (ax a),ax a,p_,an rfl,aY (by omega)];unfold LC;by_cases b:bt s i<97<;>by_cases c:bt s i>122<;>simp[b,c]<;>omega;intro G i a;simp only;rw[aG,decide_eq_false (by omega),a_ (by simp)];simp only[bP,cy];congr 2;rw[VG];simp;omega
theorem DV{s:ByteArray}(hs:s.size<=1048576):pr k (s,())=some (im s,()):=by
 simp only[pr,cq,cy];by_cases b:1<=s.size/\s.size<=8;rw[a_ (by simp;omega)];rw[show((s,(0:Int),()):ByteArray×Int×Unit)=(λi:Nat=>(s,(i:Int),())) 0 from rfl];rw[cV (λi:Nat=>(s,(i:Int),())) (LC s) s.size (e:=some (true,())) (no:=some (false,())) ?_ ?_ k 0 (by omega)];unfold im;cases bF 0 s.size (LC s)<;>simp[b];intro G i a;simp only;rw[aG,c_ a,an rfl,an (ax a),ax a,p_,an rfl,aY (by omega)];unfold LC;by_cases c:bt s i<97<;>by_cases d:bt s i>122<;>simp[c,d]<;>omega;intro G i a;simp only;rw[aG,decide_eq_false (by omega),a_ (by simp)];rw[an (by simp;omega)];unfold im;simp[b]
theorem AT{s:ByteArray}(hs:s.size<=1048576):oe k (s,())=some (lY s,()):=by
 simp only[oe,aO];rw[show((s,(0:Int),()):ByteArray×Int×Unit)=(λi:Nat=>(s,(i:Int),())) 0 from rfl];rw[cV (λi:Nat=>(s,(i:Int),())) (zH s) s.size (e:=some (decide (s.size<=12),())) (no:=some (false,())) ?_ ?_ k 0 (by omega)];unfold lY;cases bF 0 s.size (zH s)<;>simp;intro G i a;simp only;rw[aG,c_ a,an rfl,an (ax a),ax a,p_,an rfl,p_,an rfl,p_,an rfl,aY (by omega)];unfold zH;by_cases b:bt s i<32<;>by_cases c:bt s i>126<;>by_cases d:bt s i=34<;>by_cases f:bt s i=92<;>simp[b,c,d,f]<;>omega;intro G i a;simp only;rw[aG,decide_eq_false (by omega),a_ (by simp)];congr 2;rw[VG];simp;omega
theorem AA{s:ByteArray}(hs:s.size<=1048576):nE k (s,())=some (lY s,()):=by
 simp only[nE];by_cases b:s.size<=12;rw[a_ (by simp;omega)];rw[show((s,(0:Int),()):ByteArray×Int×Unit)=(λi:Nat=>(s,(i:Int),())) 0 from rfl];rw[cV (λi:Nat=>(s,(i:Int),())) (zH s) s.size (e:=some (true,())) (no:=some (false,())) ?_ ?_ k 0 (by omega)];unfold lY;cases bF 0 s.size (zH s)<;>simp[b];intro G i a;simp only;rw[aG,c_ a,an rfl,an (ax a),aY (by omega)];unfold zH;by_cases c:bt s i<32<;>by_cases d:bt s i>126<;>by_cases f:bt s i=34<;>by_cases g:bt s i=92<;>simp[c,d,f,g]<;>omega;intro G i a;simp only;rw[aG,decide_eq_false (by omega),a_ (by simp)];rw[an (by simp;omega)];unfold lY;simp[b]
def OP{x:ai}(hs:ag al x<=1048576):rq k (x,())=some (gN x,()):=by
 rw[qU O]at hs;simp only[rq];rw[Dv O (by omega),AT O (by omega)];simp only[cN,cy,gN];cases im x.1<;>simp
def PE{x:ai}(hs:ag al x<=1048576):rh k (x,())=some (gN x,()):=by
 rw[qU O]at hs;simp only[rh];rw[DV O (by omega),AA O (by omega)];simp only[cN,cy,gN];cases im x.1<;>simp
def lS{l:List ai}(hs:ag (.sl al) l<=1048576):iQ k (l,())=some (dP l,()):=by
 have hl:=au (e:=al) (l:=l);simp only[iQ,aO];rw[show((l,(0:Int),()):List ai×Int×Unit)=(λi:Nat=>(l,(i:Int),())) 0 from rfl];rw[cV (λi:Nat=>(l,(i:Int),())) (λi=>gN (l.getD i al.aa)&&GQ l i) l.length (e:=some (decide (l.length<=4),())) (no:=some (false,())) ?_ ?_ k 0 (by omega)];unfold dP;cases bF 0 l.length (λi=>gN (l.getD i al.aa)&&GQ l i)<;>simp;intro G i a;simp only[eh];have f:ag al (l.getD i al.aa)<=1048576:=v7 (df (e:=al) (cY a)) hs;rw[aG,c_ a,an rfl,an (ax a),OP O f,cy,aY (by omega),wU (by omega)];simp only;rw[an (by simp;omega),an (by simp[a])];simp only[jK,cN,cy];rw[show((i:Int)-1).toNat=i-1 by omega];unfold GQ ny;cases gN (l.getD i al.aa)with
 |false=>simp
 |true=>
  by_cases d:i=0;subst d;simp;have b:(0:Int)<(i:Int):=by omega
  have c:0<i:=by omega
  cases Op.bytesLess (ByteArray.toList (l.getD (i-1) al.aa).1) (ByteArray.toList (l.getD i al.aa).1)<;>simp[d,b,c]
 intro G i a;simp only;rw[aG,decide_eq_false (by omega),a_ (by simp)];congr 2;rw[VG];simp;omega
def pg{l:List ai}(hs:ag (.sl al) l<=1048576):j0 k (l,())=some (dP l,()):=by
 have hl:=au (e:=al) (l:=l);simp only[j0];rw[show((l,l,(l.length:Int),(0:Int),()):List ai×List ai×Int×Int×Unit)=(λi:Nat=>(l,l,(l.length:Int),(i:Int),())) 0 from rfl];rw[cV (λi:Nat=>(l,l,(l.length:Int),(i:Int),())) (λi=>decide (i<4)&&(gN (l.getD i al.aa)&&GQ l i)) l.length (e:=some (true,())) (no:=some (false,())) ?_ ?_ k 0 (by omega)];unfold dP;rw[lz,aaU];cases bF 0 l.length (λi=>gN (l.getD i al.aa)&&GQ l i)<;>by_cases h:l.length<=4<;>simp[h];intro G i b;simp only[eh];have j:ag al (l.getD i al.aa)<=1048576:=v7 (df (e:=al) (cY b)) hs;rw[aG,c_ b,an rfl,an (ax b),PE O j,aY (by omega),wU (by omega)];simp only[cN,cy];rw[show((i:Int)-1).toNat=i-1 by omega];rw[an (by simp;omega)];unfold GQ ny;by_cases c:i<4;have a:¬(4:Int)<=(i:Int):=by omega
 cases gN (l.getD i al.aa)with
 |false=>simp[c,a]
 |true=>
  by_cases g:i=0;subst g;simp;have d:(0:Int)<(i:Int):=by omega
  have f:0<i:=by omega
  cases Op.bytesLess (ByteArray.toList (l.getD (i-1) al.aa).1) (ByteArray.toList (l.getD i al.aa).1)<;>simp[g,d,f,c,a]
 have a:(4:Int)<=(i:Int):=by omega
 simp[c,a];intro G i b;simp only;rw[aG,decide_eq_false (by omega),a_ (by simp)]
end
def bh(n a b:Int):Bool:=decide (a<=n)&&decide (n<=b)
def yK(l:List ByteArray):Bool:=bF 1 l.length (λi=>ny (l.getD (i-1) ByteArray.empty) (l.getD i ByteArray.empty))
def zI(l:List ByteArray):Bool:=bF 0 l.length (λi=>im (l.getD i ByteArray.empty))&&(decide (l.length<=2)&&yK l)
def dS(c:bw):Bool:=bh c.1 1 3&&bh c.2.1 1 8&&bh c.2.2.1 1 2&&bh c.2.2.2.1 1 9&&bh c.2.2.2.2.1 1 9&&zI c.2.2.2.2.2
def bA(a:ae):Bool:=dP a.1&&decide (0<a.1.length)&&bh a.2.1 0 99999&&bh a.2.2.1 a.2.1 99999&&lY a.2.2.2
def bT(l:List ae):Bool:=bF 0 l.length (λi=>bA (l.getD i ab.aa))
def Dw(a b:Bool):(if a=true then b else false)=(a&&b):=by cases a<;>rfl
section
variable{k:Nat}(O:9223372036854775808<=k)
include O
theorem gB(n a b:Int):bP k (n,a,b,())=some (bh n a b,()):=by
 simp only[bP,bh,Dw]
theorem gY(n a b:Int):cq k (n,a,b,())=some (bh n a b,()):=by
 simp only[cq,bh,Dw]
theorem AB{l:List ByteArray}(hl:l.length<=1048576):lq k (l,())=some (yK l,()):=by
 simp only[lq];rw[show((l,(1:Int),()):List ByteArray×Int×Unit)=(λi:Nat=>(l,((i+1:Nat):Int),())) 0 from rfl];rw[cV (λi:Nat=>(l,((i+1:Nat):Int),())) (λi=>ny (l.getD i ByteArray.empty) (l.getD (i+1) ByteArray.empty)) (l.length-1) (e:=some (true,())) (no:=some (false,())) ?_ ?_ k 0 (by omega)]
 have:yK l=bF 0 (l.length-1) (λi=>ny (l.getD i ByteArray.empty) (l.getD (i+1) ByteArray.empty)):=by
  unfold yK;rw[VG,cH,cH];constructor;intro h i _ a;have:=h (i+1) (by omega) (by omega);simpa using this;intro h i h1 a;have:=h (i-1) (by omega) (by omega);rw[show i-1+1=i by omega]at this;exact this
 rw[this];cases bF 0 (l.length-1) (λi=>ny (l.getD i ByteArray.empty) (l.getD (i+1) ByteArray.empty))<;>rfl;intro G i b;simp only[eh];rw[aG,c_ (by omega),an rfl,wU (by omega),aY (by omega)];rw[an (by simp;omega),an (by simp;omega)];simp only[jK,cy];rw[show(((i+1:Nat):Int)-1).toNat=i by omega];unfold ny;cases Op.bytesLess (ByteArray.toList (l.getD i ByteArray.empty)) (ByteArray.toList (l.getD (i+1) ByteArray.empty))<;>simp;intro G i b;simp only;rw[aG,decide_eq_false (by omega),a_ (by simp)]
theorem abw(l:List ByteArray):rK k (l,())=lq k (l,()):=by
 simp only[lq,rK,jK,cy]
def Xr{l:List ByteArray}(hs:ag (.sl .str) l<=1048576):xd k (l,())=some (zI l,()):=by
 have hl:=au (e:= .str) (l:=l);simp only[xd,aO];rw[show((l,(0:Int),()):List ByteArray×Int×Unit)=(λi:Nat=>(l,(i:Int),())) 0 from rfl];rw[cV (λi:Nat=>(l,(i:Int),())) (λi=>im (l.getD i ByteArray.empty)) l.length (e:=some (decide (l.length<=2)&&yK l,())) (no:=some (false,())) ?_ ?_ k 0 (by omega)];unfold zI;cases bF 0 l.length (λi=>im (l.getD i ByteArray.empty))<;>simp;intro G i a;simp only[eh];have c:ag .str (l.getD i ByteArray.empty)<=1048576:=v7 (df (e:= .str) (cY a)) hs;rw[aG,c_ a,an rfl,an (ax a),Dv O c,cy,aY (by omega)];cases im (l.getD i ByteArray.empty)<;>simp;intro G i a;simp only;rw[aG,decide_eq_false (by omega),a_ (by simp),AB O (by omega)];simp only[cN,cy];by_cases h:l.length<=2;have b:(l.length:Int)<=2:=by omega
 simp[h,b];have b:¬(l.length:Int)<=2:=by omega
 simp[h,b]
def YJ{l:List ByteArray}(hs:ag (.sl .str) l<=1048576):wX k (l,())=some (zI l,()):=by
 have hl:=au (e:= .str) (l:=l);simp only[wX,aO];rw[show((l,l,(l.length:Int),(0:Int),()):List ByteArray×List ByteArray×Int×Int×Unit)=(λi:Nat=>(l,l,(l.length:Int),(i:Int),())) 0 from rfl];rw[cV (λi:Nat=>(l,l,(l.length:Int),(i:Int),())) (λi=>im (l.getD i ByteArray.empty)) l.length (e:=some (decide (l.length<=2)&&yK l,())) (no:=some (false,())) ?_ ?_ k 0 (by omega)];unfold zI;cases bF 0 l.length (λi=>im (l.getD i ByteArray.empty))<;>simp;intro G i a;simp only[eh];have c:ag .str (l.getD i ByteArray.empty)<=1048576:=v7 (df (e:= .str) (cY a)) hs;rw[aG,c_ a,an rfl,an (ax a),DV O c,cy,aY (by omega)];cases im (l.getD i ByteArray.empty)<;>simp;intro G i a;simp only;rw[aG,decide_eq_false (by omega),a_ (by simp),abw O,AB O (by omega)];simp only[cN,cy];by_cases h:l.length<=2;have b:(l.length:Int)<=2:=by omega
 simp[h,b];have b:¬(l.length:Int)<=2:=by omega
 simp[h,b]
def CD{c:bw}(hs:ag fX c<=1048576):ph k (c,())=some (dS c,()):=by
 rw[oP O]at hs;simp only[ph,gB O,Xr O hs,cN,cy,dS];generalize bh c.1 1 3=b1;generalize bh c.2.1 1 8=b2;generalize bh c.2.2.1 1 2=b3;generalize bh c.2.2.2.1 1 9=b4;generalize bh c.2.2.2.2.1 1 9=b5;cases b1<;>cases b2<;>cases b3<;>cases b4<;>cases b5<;>simp
def Td{c:bw}(hs:ag fX c<=1048576):tF k (c,())=some (dS c,()):=by
 rw[oP O]at hs;simp only[tF,gY O,YJ O hs,cN,cy,dS];generalize bh c.1 1 3=b1;generalize bh c.2.1 1 8=b2;generalize bh c.2.2.1 1 2=b3;generalize bh c.2.2.2.1 1 9=b4;generalize bh c.2.2.2.2.1 1 9=b5;cases b1<;>cases b2<;>cases b3<;>cases b4<;>cases b5<;>simp
theorem aa1(l:List ai):decide ((l.length:Int)>0)=decide (0<l.length):=by simp
def km{a:ae}(hs:ag ab a<=1048576):fP k (a,())=some (bA a,()):=by
 rw[bG O]at hs;simp only[fP,gB O,lS O (show ag (.sl al) a.1<=1048576 by omega),AT O (show a.2.2.2.size<=1048576 by omega),cN,cy,bA,aa1 O];generalize dP a.1=b1;generalize decide (0<a.1.length)=b2;generalize bh a.2.1 0 99999=b3;generalize bh a.2.2.1 a.2.1 99999=b4;cases b1<;>cases b2<;>cases b3<;>cases b4<;>simp
def mH{a:ae}(hs:ag ab a<=1048576):gy k (a,())=some (bA a,()):=by
 rw[bG O]at hs;simp only[gy,gY O,pg O (show ag (.sl al) a.1<=1048576 by omega),AA O (show a.2.2.2.size<=1048576 by omega),cN,cy,bA,aa1 O];generalize dP a.1=b1;generalize decide (0<a.1.length)=b2;generalize bh a.2.1 0 99999=b3;generalize bh a.2.2.1 a.2.1 99999=b4;cases b1<;>cases b2<;>cases b3<;>cases b4<;>simp
def wL{l:List ae}(hs:ag (.sl ab) l<=1048576):mc k (l,())=some (bT l,()):=by
 have hl:=au (e:=ab) (l:=l);simp only[mc];rw[show((l,(0:Int),()):List ae×Int×Unit)=(λi:Nat=>(l,(i:Int),())) 0 from rfl];rw[cV (λi:Nat=>(l,(i:Int),())) (λi=>bA (l.getD i ab.aa)) l.length (e:=some (true,())) (no:=some (false,())) ?_ ?_ k 0 (by omega)];unfold bT;cases bF 0 l.length (λi=>bA (l.getD i ab.aa))<;>simp;intro G i a;simp only[eh];have b:ag ab (l.getD i ab.aa)<=1048576:=v7 (df (e:=ab) (cY a)) hs;rw[aG,c_ a,an rfl,an (ax a),km O b,cy,aY (by omega)];cases bA (l.getD i ab.aa)<;>simp;intro G i a;simp only;rw[aG,decide_eq_false (by omega),a_ (by simp)]
def ov{l:List ae}(hs:ag (.sl ab) l<=1048576):iH k (l,())=some (bT l,()):=by
 have hl:=au (e:=ab) (l:=l);simp only[iH];rw[show((l,(l.length:Int),(0:Int),()):List ae×Int×Int×Unit)=(λi:Nat=>(l,(l.length:Int),(i:Int),())) 0 from rfl];rw[cV (λi:Nat=>(l,(l.length:Int),(i:Int),())) (λi=>bA (l.getD i ab.aa)) l.length (e:=some (true,())) (no:=some (false,())) ?_ ?_ k 0 (by omega)];unfold bT;cases bF 0 l.length (λi=>bA (l.getD i ab.aa))<;>simp;intro G i a;simp only[eh];have b:ag ab (l.getD i ab.aa)<=1048576:=v7 (df (e:=ab) (cY a)) hs;rw[aG,c_ a,an rfl,an (ax a),mH O b,cy,aY (by omega)];cases bA (l.getD i ab.aa)<;>simp;intro G i a;simp only;rw[aG,decide_eq_false (by omega),a_ (by simp)]
end
def hasB(by_:List ByteArray)(s:ByteArray):Bool:= !bF 0 by_.length (λi=> !((by_.getD i ByteArray.empty).toList==s.toList))
def keyOf(a:ae)(by_:List ByteArray):List ai:=a.1.filter (λx=>hasB by_ x.1)
def xR(l:List ae)(i:Nat):Bool:=i==0||bN (l.getD (i-1) ab.aa).1 (l.getD i ab.aa).1
def wu(l:List ae)(key:List ai)(by_:List ByteArray):Bool:=
 bF 0 l.length (λi=>bA (l.getD i ab.aa)&&(decide (keyOf (l.getD i ab.aa) by_=key)&&xR l i))
def fo(g:ar)(by_:List ByteArray):Bool:=
 decide (0<=g.1)&&(dP g.2.1&&(bh g.2.2.1 0 99999&&((decide (g.2.2.2.1= -1)||bh g.2.2.2.1 g.2.2.1 99999)&&(decide (0<g.2.2.2.2.length)&&wu g.2.2.2.2 g.2.1 by_))))
def Ih(l:List ar)(i:Nat):Bool:=i==0||decide ((l.getD (i-1) ak.aa).1<(l.getD i ak.aa).1)
def qR(l:List ar)(i:Nat):Bool:=bF 0 i (λj=> !decide ((l.getD j ak.aa).2.1=(l.getD i ak.aa).2.1))
def fD(l:List ar)(by_:List ByteArray):Bool:=
 decide (l.length<=12)&&bF 0 l.length (λi=>fo (l.getD i ak.aa) by_&&(Ih l i&&qR l i))
def gK(s:bp):Bool:=decide (s.1.length<=3)&&((!s.2||decide (s.1.length=0))&&bT s.1)
def dx(a:ae):Bool:=bA a&&decide (a.2.2.1<=99899)
section
variable{k:Nat}(O:9223372036854775808<=k)
include O
theorem eT{a b:List ai}(ha:a.length<=1048576):dD k (a,b,())=some (decide (a=b),()):=by
 simp only[dD];by_cases l:a.length=b.length;rw[a_ (by simp[l])]
 rw[oY (g:=λ(s:List ai×List ai×Int×Unit)=>some (decide (a.drop s.2.2.1.toNat=b.drop s.2.2.1.toNat),())) (m:=λ(s:List ai×List ai×Int×Unit)=>a.length-s.2.2.1.toNat)
  (I:=λ(s:List ai×List ai×Int×Unit)=>s.1=a/\s.2.1=b/\0<=s.2.2.1/\s.2.2.1<=(a.length:Int))]
 simp;rintro G ⟨a',b',i,u⟩ ⟨e1,e2,hi0,hi1⟩ hG;change a'=a at e1;change b'=b at e2;subst e1 e2;simp only at hi0 hi1 hG|-;by_cases f:i<(a'.length:Int);have n:i.toNat<a'.length:=by omega
 have o:i.toNat<b'.length:=by omega
 rw[an (by simpa using f),an (by simpa using⟨hi0,f⟩),an (by simpa using⟨hi0,by omega⟩)];rw[gk (d:=al.aa) n,gk (d:=al.aa) o];by_cases c:a'.getD i.toNat al.aa=b'.getD i.toNat al.aa;have j:eqv al (a'.getD i.toNat al.aa) (b'.getD i.toNat al.aa)=true:=(wM rfl).2 c;rw[a_ (by rw[j];simp),wrap64 (by omega) (by omega),hG (a',b',i+1,()) ⟨rfl,rfl,by simp only;omega,by simp only;omega⟩ (by simp only;omega)];simp only[c,at6,true_and];rw[show(i+1).toNat=i.toNat+1 by omega]
 have j:eqv al (a'.getD i.toNat al.aa) (b'.getD i.toNat al.aa)=false:=by
  rw[aun];exact λh=>c ((wM rfl).1 h)
 rw[an (by rw[j];rfl)];simp only[at6,c,false_and,decide_false];rw[a_ (by simpa using f),atL (by omega),atL (by omega)];simp;exact⟨rfl,rfl,by simp,by simp⟩;simp only;omega;rw[an (by simp;omega)];have:a≠b:=λe=>l (by rw[e]);simp[this]
theorem eN{a b:List ai}(ha:a.length<=1048576):cT k (a,b,())=some (decide (a=b),()):=by
 simp only[cT];by_cases l:a.length=b.length;rw[a_ (by simp[l])]
 rw[oY (g:=λ(s:List ai×List ai×Int×Int×Unit)=>some (decide (a.drop s.2.2.2.1.toNat=b.drop s.2.2.2.1.toNat),())) (m:=λ(s:List ai×List ai×Int×Int×Unit)=>a.length-s.2.2.2.1.toNat)
  (I:=λ(s:List ai×List ai×Int×Int×Unit)=>s.1=a/\s.2.1=b/\s.2.2.1=(a.length:Int)/\0<=s.2.2.2.1/\s.2.2.2.1<=(a.length:Int))]
 simp;rintro G ⟨a',b',n,i,u⟩ ⟨e1,e2,e3,hi0,hi1⟩ hG;change a'=a at e1;change b'=b at e2;change n=_ at e3;subst e1 e2 e3;simp only at hi0 hi1 hG|-;by_cases f:i<(a'.length:Int);have o:i.toNat<a'.length:=by omega
 have p:i.toNat<b'.length:=by omega
 rw[an (by simpa using f),an (by simpa using⟨hi0,f⟩),an (by simpa using⟨hi0,by omega⟩)];rw[gk (d:=al.aa) o,gk (d:=al.aa) p];by_cases c:a'.getD i.toNat al.aa=b'.getD i.toNat al.aa;have j:eqv al (a'.getD i.toNat al.aa) (b'.getD i.toNat al.aa)=true:=(wM rfl).2 c;rw[a_ (by rw[j];simp),wrap64 (by omega) (by omega),hG (a',b',_,i+1,()) ⟨rfl,rfl,rfl,by simp only;omega,by simp only;omega⟩ (by simp only;omega)];simp only[c,at6,true_and];rw[show(i+1).toNat=i.toNat+1 by omega]
 have j:eqv al (a'.getD i.toNat al.aa) (b'.getD i.toNat al.aa)=false:=by
  rw[aun];exact λh=>c ((wM rfl).1 h)
 rw[an (by rw[j];rfl)];simp only[at6,c,false_and,decide_false];rw[a_ (by simpa using f),atL (by omega),atL (by omega)];simp;exact⟨rfl,rfl,rfl,by simp,by simp⟩;simp only;omega;rw[an (by simp;omega)];have:a≠b:=λe=>l (by rw[e]);simp[this]
theorem vV{a b:List ai}(ha:a.length<=1048576):nR k (a,b,())=some (bN a b,()):=by
 simp only[nR,aO]
 rw[oY (g:=λ(s:List ai×List ai×Int×Unit)=>some (bN (a.drop s.2.2.1.toNat) (b.drop s.2.2.1.toNat),())) (m:=λ(s:List ai×List ai×Int×Unit)=>a.length-s.2.2.1.toNat)
  (I:=λ(s:List ai×List ai×Int×Unit)=>s.1=a/\s.2.1=b/\0<=s.2.2.1/\s.2.2.1<=(a.length:Int)/\s.2.2.1<=(b.length:Int))]
 simp;rintro G ⟨a',b',i,u⟩ ⟨e1,e2,hi0,hi1,hi2⟩ hG;change a'=a at e1;change b'=b at e2;subst e1 e2;simp only at hi0 hi1 hi2 hG|-;by_cases c:i<(a'.length:Int)/\i<(b'.length:Int);have e:i.toNat<a'.length:=by omega
 have f:i.toNat<b'.length:=by omega
 have h:decide (0<=i/\i<(a'.length:Int))=true:=by simpa using⟨hi0,c.1⟩
 have j:decide (0<=i/\i<(b'.length:Int))=true:=by simpa using⟨hi0,c.2⟩
 rw[an (by simp[c.1,c.2])];simp only[h,j,if_true];rw[gk (d:=al.aa) e,gk (d:=al.aa) f];simp only[bN,ny];rw[wrap64 (by omega) (by omega),hG (a',b',i+1,()) ⟨rfl,rfl,by simp only;omega,by simp only;omega,by simp only;omega⟩ (by simp only;omega)];simp only;rw[show(i+1).toNat=i.toNat+1 by omega];cases (ByteArray.toList (a'.getD i.toNat al.aa).1==ByteArray.toList (b'.getD i.toNat al.aa).1)<;>cases (ByteArray.toList (a'.getD i.toNat al.aa).2==ByteArray.toList (b'.getD i.toNat al.aa).2)<;>simp;rw[a_ (by simp;omega)];by_cases ha':i<(a'.length:Int);have e:i.toNat<a'.length:=by omega
 rw[gk (d:=al.aa) e,atL (show b'.length<=i.toNat by omega)];simp only[bN];congr 2;simp;omega;rw[atL (show a'.length<=i.toNat by omega)];simp only[bN];congr 2;by_cases hb':i<(b'.length:Int);have f:i.toNat<b'.length:=by omega
 rw[gk (d:=al.aa) f];simp;omega;rw[atL (show b'.length<=i.toNat by omega)];simp;omega;exact⟨rfl,rfl,by simp,by simp,by simp⟩;simp only;omega
def pW{a b:List ai}(c:a.length<=1048576):kV k (a,b,())=some (bN a b,()):=by
 rw[<-vV O c];simp only[nR,kV,jK,cy]
theorem ZH{l:List ByteArray}{s:ByteArray}(hl:l.length<=1048576):uX k (l,s,())=some (hasB l s,()):=by
 simp only[uX];rw[show((l,s,(0:Int),()):List ByteArray×ByteArray×Int×Unit)=(λi:Nat=>(l,s,(i:Int),())) 0 from rfl];rw[Yz (λi:Nat=>(l,s,(i:Int),())) (λi=>(l.getD i ByteArray.empty).toList==s.toList) l.length (e:=some (false,())) (yes:=some (true,())) ?_ ?_ k 0 (by omega)];unfold hasB;cases bF 0 l.length (λi=> !((l.getD i ByteArray.empty).toList==s.toList))<;>simp;intro G i a;simp only[eh];rw[aG,c_ a,an rfl,an (ax a),aY (by omega)];intro G i a;simp only;rw[aG,decide_eq_false (by omega),a_ (by simp)]
theorem Zp{l:List ByteArray}{s:ByteArray}(hl:l.length<=1048576):sg k (l,s,())=some (hasB l s,()):=by
 simp only[sg];rw[show((s,l,(l.length:Int),(0:Int),()):ByteArray×List ByteArray×Int×Int×Unit)=(λi:Nat=>(s,l,(l.length:Int),(i:Int),())) 0 from rfl];rw[Yz (λi:Nat=>(s,l,(l.length:Int),(i:Int),())) (λi=>(l.getD i ByteArray.empty).toList==s.toList) l.length (e:=some (false,())) (yes:=some (true,())) ?_ ?_ k 0 (by omega)];unfold hasB;cases bF 0 l.length (λi=> !((l.getD i ByteArray.empty).toList==s.toList))<;>simp;intro G i a;simp only[eh];rw[aG,c_ a,an rfl,an (ax a),aY (by omega)];intro G i a;simp only;rw[aG,decide_eq_false (by omega),a_ (by simp)]
def lZ{a:ae}{by_:List ByteArray}(f:ag ab a<=1048576)(h:by_.length<=1048576):gf k (a,by_,())=some (keyOf a by_,()):=by
 have hl:=au (e:=al) (l:=a.1);rw[bG O]at f;simp only[gf,wO]
 rw[oY (g:=λ(s:List ai×List ByteArray×List ai×Int×Unit)=>some (s.2.2.1++(a.1.drop s.2.2.2.1.toNat).filter (λx=>hasB by_ x.1),())) (m:=λ(s:List ai×List ByteArray×List ai×Int×Unit)=>a.1.length-s.2.2.2.1.toNat)
  (I:=λ(s:List ai×List ByteArray×List ai×Int×Unit)=>s.1=a.1/\s.2.1=by_/\0<=s.2.2.2.1/\s.2.2.2.1<=(a.1.length:Int)/\s.2.2.1.length<=s.2.2.2.1.toNat)]
 simp[keyOf];rintro G ⟨l',y',o,i,u⟩ ⟨e1,e2,hi0,hi1,ho⟩ hG;change l'=_ at e1;change y'=by_ at e2;subst e1 e2;simp only at hi0 hi1 ho hG|-;by_cases b:i<(a.1.length:Int);have j:i.toNat<a.1.length:=by omega
 rw[an (by simpa using b),an (by simpa using⟨hi0,b⟩),ZH O h,cy,gk (d:=al.aa) j,wrap64 (by omega) (by omega)];cases c:hasB y' (a.1.getD i.toNat al.aa).1 with
 |true=>
  rw[an rfl,an (by simpa using⟨hi0,b⟩),an (by simp;omega)];rw[hG (a.1,y',o++[a.1.getD i.toNat al.aa],i+1,()) ⟨rfl,rfl,by simp only;omega,by simp only;omega,by simp;omega⟩ (by simp only;omega)];simp only;rw[show(i+1).toNat=i.toNat+1 by omega,aue (by simpa using c)];simp
 |false=>
  rw[a_ (by simp)];rw[hG (a.1,y',o,i+1,()) ⟨rfl,rfl,by simp only;omega,by simp only;omega,by simp only;omega⟩ (by simp only;omega)];simp only;rw[show(i+1).toNat=i.toNat+1 by omega,auf (by rw[c];simp)]
 rw[a_ (by simpa using b),atL (by omega)];simp;exact⟨rfl,rfl,by simp,by simp,by simp⟩;simp only;omega
def VM{a:ae}{by_:List ByteArray}(f:ag ab a<=1048576)(h:by_.length<=1048576):vA k (a,by_,())=some (keyOf a by_,()):=by
 have hl:=au (e:=al) (l:=a.1);rw[bG O]at f;simp only[vA,wD]
 rw[oY (g:=λ(s:List ByteArray×List ai×List ai×Int×Int×Unit)=>some (s.2.1++(a.1.drop s.2.2.2.2.1.toNat).filter (λx=>hasB by_ x.1),())) (m:=λ(s:List ByteArray×List ai×List ai×Int×Int×Unit)=>a.1.length-s.2.2.2.2.1.toNat)
  (I:=λ(s:List ByteArray×List ai×List ai×Int×Int×Unit)=>s.1=by_/\s.2.2.1=a.1/\s.2.2.2.1=(a.1.length:Int)/\0<=s.2.2.2.2.1/\s.2.2.2.2.1<=(a.1.length:Int)/\s.2.1.length<=s.2.2.2.2.1.toNat)]
 simp[keyOf];rintro G ⟨y',o,l',n,i,u⟩ ⟨e2,e1,e3,hi0,hi1,ho⟩ hG;change l'=_ at e1;change y'=by_ at e2;change n=_ at e3;subst e1 e2 e3;simp only at hi0 hi1 ho hG|-;by_cases b:i<(a.1.length:Int);have j:i.toNat<a.1.length:=by omega
 rw[an (by simpa using b),an (by simpa using⟨hi0,b⟩),Zp O h,cy,gk (d:=al.aa) j,wrap64 (by omega) (by omega)];cases c:hasB y' (a.1.getD i.toNat al.aa).1 with
 |true=>
  rw[an rfl,an (by simp;omega)];rw[hG (y',o++[a.1.getD i.toNat al.aa],a.1,_,i+1,()) ⟨rfl,rfl,rfl,by simp only;omega,by simp only;omega,by simp;omega⟩ (by simp only;omega)];simp only;rw[show(i+1).toNat=i.toNat+1 by omega,aue (by simpa using c)];simp
 |false=>
  rw[a_ (by simp)];rw[hG (y',o,a.1,_,i+1,()) ⟨rfl,rfl,rfl,by simp only;omega,by simp only;omega,by simp only;omega⟩ (by simp only;omega)];simp only;rw[show(i+1).toNat=i.toNat+1 by omega,auf (by rw[c];simp)]
 rw[a_ (by simpa using b),atL (by omega)];simp;exact⟨rfl,rfl,rfl,by simp,by simp,by simp⟩;simp only;omega
theorem I5(a:ae)(by_:List ByteArray):(keyOf a by_).length<=a.1.length:=auj ..
def iE{l:List ae}{i:Nat}(hs:ag (.sl ab) l<=1048576)(hi:i<l.length):ag ab (l.getD i ab.aa)<=1048576/\(l.getD i ab.aa).1.length<=1048576:=by
 have a:ag ab (l.getD i ab.aa)<=1048576:=v7 (df (e:=ab) (cY hi)) hs;refine⟨a,?_⟩;rw[bG O]at a;have:=au (e:=al) (l:=(l.getD i ab.aa).1);omega
def PO{l:List ae}{key:List ai}{by_:List ByteArray}(hs:ag (.sl ab) l<=1048576)(j:by_.length<=1048576):rE k (l,key,by_,())=some (wu l key by_,()):=by
 have hl:=au (e:=ab) (l:=l);simp only[rE];rw[show((l,key,by_,l,(l.length:Int),(0:Int),()):List ae×List ai×List ByteArray×List ae×Int×Int×Unit)=(λi:Nat=>(l,key,by_,l,(l.length:Int),(i:Int),())) 0 from rfl];rw[cV (λi:Nat=>(l,key,by_,l,(l.length:Int),(i:Int),())) (λi=>bA (l.getD i ab.aa)&&(decide (keyOf (l.getD i ab.aa) by_=key)&&xR l i)) l.length (e:=some (true,())) (no:=some (false,())) ?_ ?_ k 0 (by omega)];unfold wu;cases bF 0 l.length (λi=>bA (l.getD i ab.aa)&&(decide (keyOf (l.getD i ab.aa) by_=key)&&xR l i))<;>simp;intro G i b;simp only[eh];obtain⟨h,hml⟩:=iE O hs b;have hkl:=I5 O (l.getD i ab.aa) by_;rw[aG,c_ b,an rfl,an (ax b),mH O h,cy,VM O h j,aY (by omega),wU (by omega)];simp only[cN,cy];rw[show((i:Int)-1).toNat=i-1 by omega];cases bA (l.getD i ab.aa)with
 |false=>simp
 |true=>
  simp only[atV,beq_self_eq_true,if_true];rw[eN O (by omega)];simp only[cy];by_cases c:keyOf (l.getD i ab.aa) by_=key;by_cases g:i=0;subst g;simp[c,xR,-q'];have d:(0:Int)<(i:Int):=by omega
  have f:0<i:=by omega
  obtain⟨hm1,a⟩:=iE O hs (show i-1<l.length by omega);rw[an (by simp;omega),vV O a];unfold xR;cases bN (l.getD (i-1) ab.aa).1 (l.getD i ab.aa).1<;>simp[c,g,d,f,-q'];simp[c,-q']
 intro G i b;simp only;rw[aG,decide_eq_false (by omega),a_ (by simp)]
def PA{g:ar}{by_:List ByteArray}(hs:ag ak g<=1048576)(a:by_.length<=1048576):rS k (g,by_,())=some (fo g by_,()):=by
 rw[di O]at hs;simp only[rS,gY O,pg O (show ag (.sl al) g.2.1<=1048576 by omega),PO O (show ag (.sl ab) g.2.2.2.2<=1048576 by omega) a,cN,cy,fo];have b:decide (g.1<(0:Int))= !decide (0<=g.1):=by rw[VG];simp
 have c:decide ((g.2.2.2.2.length:Int)>(0:Int))=decide (0<g.2.2.2.2.length):=by simp
 have d:((g.2.2.2.1:Int) != (-1:Int))= !decide (g.2.2.2.1= -1):=by rw[VG];simp
 rw[b,c,d];generalize decide (0<=g.1)=b1;generalize dP g.2.1=b2;generalize bh g.2.2.1 0 99999=b3;generalize decide (g.2.2.2.1= -1)=b4;generalize bh g.2.2.2.1 g.2.2.1 99999=b5;generalize decide (0<g.2.2.2.2.length)=b6;generalize wu g.2.2.2.2 g.2.1 by_=b7;cases b1<;>cases b2<;>cases b3<;>cases b4<;>cases b5<;>cases b6<;>cases b7<;>simp
def N5{g:ar}{by_:List ByteArray}(hs:ag ak g<=1048576)(p:by_.length<=1048576):qZ k (g,by_,())=some (fo g by_,()):=by
 rw[di O]at hs;have d:ag (.sl ab) g.2.2.2.2<=1048576:=by omega
 have hl:=au (e:=ab) (l:=g.2.2.2.2);simp only[qZ,aO];rw[show((by_,g,(0:Int),()):List ByteArray×ar×Int×Unit)=(λi:Nat=>(by_,g,(i:Int),())) 0 from rfl]
 rw[cV (λi:Nat=>(by_,g,(i:Int),())) (λi=>bA (g.2.2.2.2.getD i ab.aa)&&(decide (keyOf (g.2.2.2.2.getD i ab.aa) by_=g.2.1)&&xR g.2.2.2.2 i)) g.2.2.2.2.length
  (e:=some (decide (0<=g.1)&&(dP g.2.1&&(bh g.2.2.1 0 99999&&((decide (g.2.2.2.1= -1)||bh g.2.2.2.1 g.2.2.1 99999)&&decide (0<g.2.2.2.2.length)))),())) (no:=some (false,())) ?_ ?_ k 0 (by omega)]
 unfold fo wu;cases bF 0 g.2.2.2.2.length (λi=>bA (g.2.2.2.2.getD i ab.aa)&&(decide (keyOf (g.2.2.2.2.getD i ab.aa) by_=g.2.1)&&xR g.2.2.2.2 i))<;>simp;intro G i c;simp only[eh];obtain⟨o,hml⟩:=iE O d c;have hkl:=I5 O (g.2.2.2.2.getD i ab.aa) by_;rw[aG,c_ c,an rfl,an (ax c),km O o,cy,aY (by omega),wU (by omega)];rw[show((i:Int)-1).toNat=i-1 by omega];simp only[ax c,p_,if_true];rw[an (by simp;omega),lZ O o p];cases bA (g.2.2.2.2.getD i ab.aa)with
 |false=>simp
 |true=>
  simp only[atV,beq_self_eq_true,at2];by_cases m:i=0;subst m;have n:=eT O (a:=keyOf (g.2.2.2.2.getD 0 ab.aa) by_) (b:=g.2.1) (by omega);simp[n,xR,-q'];have f:(0:Int)<(i:Int):=by omega
  have h:0<i:=by omega
  obtain⟨hm1,j⟩:=iE O d (show i-1<g.2.2.2.2.length by omega);rw[pW O j];unfold xR;cases bN (g.2.2.2.2.getD (i-1) ab.aa).1 (g.2.2.2.2.getD i ab.aa).1 with
  |false=>simp[m,f,h,-q']
  |true=>
   have n:=eT O (a:=keyOf (g.2.2.2.2.getD i ab.aa) by_) (b:=g.2.1) (by omega);simp[n,m,f,h,-q']
 intro G i c;simp only;rw[aG,decide_eq_false (by omega),a_ (by simp)];simp only[gB O,lS O (show ag (.sl al) g.2.1<=1048576 by omega),cN,cy];have q:decide (g.1>=(0:Int))=decide (0<=g.1):=rfl;have r:decide ((g.2.2.2.2.length:Int)>(0:Int))=decide (0<g.2.2.2.2.length):=by simp
 have s:((g.2.2.2.1:Int)==(-1:Int))=decide (g.2.2.2.1= -1):=by rw[VG];simp
 rw[q,r,s];generalize decide (0<=g.1)=b1;generalize dP g.2.1=b2;generalize bh g.2.2.1 0 99999=b3;generalize decide (g.2.2.2.1= -1)=b4;generalize bh g.2.2.2.1 g.2.2.1 99999=b5;generalize decide (0<g.2.2.2.2.length)=b6;cases b1<;>cases b2<;>cases b3<;>cases b4<;>cases b5<;>cases b6<;>simp
def uj{l:List ar}{i:Nat}(hs:ag (.sl ak) l<=1048576)(hi:i<l.length):ag ak (l.getD i ak.aa)<=1048576/\(l.getD i ak.aa).2.1.length<=1048576:=by
 have a:ag ak (l.getD i ak.aa)<=1048576:=v7 (df (e:=ak) (cY hi)) hs;refine⟨a,?_⟩;rw[di O]at a;have:=au (e:=al) (l:=(l.getD i ak.aa).2.1);omega
def OY{l:List ar}{key:List ai}(hs:ag (.sl ak) l<=1048576):
 ∃r:Int,rz k (l,key,())=some (r,())/\(∀i:Nat,i<l.length->(l.getD i ak.aa).2.1=key->(r=(i:Int)↔∀j,j<i->(l.getD j ak.aa).2.1≠key)):=by
 have hl:=au (e:=ak) (l:=l);simp only[rz]
 have main:∀(m a:Nat),l.length-a<m->(∀j,j<a->(l.getD j ak.aa).2.1≠key)->∃r:Int,aM m (λq (b:List ai×List ar×Int×Int×Unit)=>
  if(decide ((b.2.2.2.1:Int)<b.2.2.1))=true then
   if(decide (0<=b.2.2.2.1/\b.2.2.2.1<((E_ b.2.1:Nat):Int)))=true then
    at9 (cT k (((aug b.2.1 (atU b.2.2.2.1) ak.aa).2).1,b.1,())) λ(t:Bool×Unit)=>
    if t.1=true then
     some (b.2.2.2.1,())
    else
     q (b.1,b.2.1,b.2.2.1,IntKind.i64.wrap (b.2.2.2.1+(1:Int)),())
   else
    none
  else
   some ((-1:Int),())) (key,l,(l.length:Int),(a:Int),())=some (r,())/\(∀i:Nat,i<l.length->(l.getD i ak.aa).2.1=key->(r=(i:Int)↔∀j,j<i->(l.getD j ak.aa).2.1≠key)):=by
  intro m
  induction m with
  |zero=>intro a h;omega
  |succ m u=>
   intro a h c;simp only[aM,eh];by_cases n:a<l.length;rw[aG,c_ n,an rfl,an (ax n),eN O (uj O hs n).2,cy];by_cases o:(l.getD a ak.aa).2.1=key;rw[an (by simpa using o)];refine⟨_,rfl,λi s f=> ?_⟩;constructor;intro e j p;exact c j (by omega);intro g;rcases Nat.lt_trichotomy a i with d|d|d;exact absurd o (g a d);rw[d];exact absurd f (c i d);rw[a_ (by simpa using o),aY (by omega)];refine u (a+1) (by omega) (λj p=> ?_);rcases Nat.lt_or_ge j a with d|d;exact c j d;rw[show j=a by omega];exact o;rw[aG,decide_eq_false n,a_ (by simp)];refine⟨-1,rfl,λi s f=> ?_⟩;exact absurd f (c i (by omega))
 exact main k 0 (by omega) (λj p=>by omega)
theorem abF(l:List ar)(i:Nat):qR l i=true↔∀j,j<i->(l.getD j ak.aa).2.1≠(l.getD i ak.aa).2.1:=by
 unfold qR;rw[cH];simp only[Bool.not_eq_true',d_];exact⟨λh j a=>h j (by omega) a,λh j _ a=>h j a⟩
def K0{l:List ar}{by_:List ByteArray}(hs:ag (.sl ak) l<=1048576)(o:by_.length<=1048576):pR k (l,by_,())=some (fD l by_,()):=by
 have hl:=au (e:=ak) (l:=l);simp only[pR];rw[show((l,by_,l,(l.length:Int),(0:Int),()):List ar×List ByteArray×List ar×Int×Int×Unit)=(λi:Nat=>(l,by_,l,(l.length:Int),(i:Int),())) 0 from rfl];rw[cV (λi:Nat=>(l,by_,l,(l.length:Int),(i:Int),())) (λi=>decide (i<12)&&(fo (l.getD i ak.aa) by_&&(Ih l i&&qR l i))) l.length (e:=some (true,())) (no:=some (false,())) ?_ ?_ k 0 (by omega)];unfold fD;rw[lz,aaU];cases bF 0 l.length (λi=>fo (l.getD i ak.aa) by_&&(Ih l i&&qR l i))<;>by_cases h:l.length<=12<;>simp[h];intro G i g;simp only[eh];obtain⟨p,hml⟩:=uj O hs g;obtain⟨r,q,a⟩:=OY O (key:=(l.getD i ak.aa).2.1) hs;have a:=a i g rfl;rw[<-abF O]at a;rw[aG,c_ g,an rfl,an (ax g),PA O p o,aY (by omega),wU (by omega)];simp only[cN,cy];rw[show((i:Int)-1).toNat=i-1 by omega,q,an (by simp;omega)];unfold Ih;by_cases qX:i<12;have b:¬(12:Int)<=(i:Int):=by omega
 cases fo (l.getD i ak.aa) by_ with
 |false=>simp[qX,b,-q']
 |true=>
  by_cases m:i=0;subst m;cases j:qR l 0 with
  |true=>rw[j]at a;have:=a.2 rfl;simp[this,-q']
  |false=>rw[j]at a;have:¬r=0:=λe=>by have:=a.1 e;cases this
          simp[this,-q']
  have d:(0:Int)<(i:Int):=by omega
  have f:0<i:=by omega
  by_cases n:(l.getD (i-1) ak.aa).1<(l.getD i ak.aa).1;have c:¬(l.getD i ak.aa).1<=(l.getD (i-1) ak.aa).1:=by omega
  cases j:qR l i with
  |true=>rw[j]at a;have:=a.2 rfl;simp[this,qX,b,m,d,f,n,c,-q']
  |false=>rw[j]at a;have:¬r=(i:Int):=λe=>by have:=a.1 e;cases this
          simp[this,qX,b,m,d,f,n,c,-q']
  have c:(l.getD i ak.aa).1<=(l.getD (i-1) ak.aa).1:=by omega
  simp[qX,b,m,d,f,n,c,-q']
 have b:(12:Int)<=(i:Int):=by omega
 simp[qX,b,-q'];intro G i g;simp only;rw[aG,decide_eq_false (by omega),a_ (by simp)]
def My{l:List ar}{by_:List ByteArray}(hs:ag (.sl ak) l<=1048576)(p:by_.length<=1048576):pQ k (l,by_,())=some (fD l by_,()):=by
 have hl:=au (e:=ak) (l:=l);simp only[pQ,aO];rw[show((l,by_,(0:Int),()):List ar×List ByteArray×Int×Unit)=(λi:Nat=>(l,by_,(i:Int),())) 0 from rfl];rw[cV (λi:Nat=>(l,by_,(i:Int),())) (λi=>fo (l.getD i ak.aa) by_&&(Ih l i&&qR l i)) l.length (e:=some (decide (l.length<=12),())) (no:=some (false,())) ?_ ?_ k 0 (by omega)];unfold fD;cases bF 0 l.length (λi=>fo (l.getD i ak.aa) by_&&(Ih l i&&qR l i))<;>simp;intro G i c;simp only[eh];obtain⟨s,hml⟩:=uj O hs c;rw[aG,c_ c,an rfl,an (ax c),N5 O s p,cy,wU (by omega)];rw[show((i:Int)-1).toNat=i-1 by omega,an (by simp;omega)];simp only[ax c,p_,if_true]
 have inner:aM k (λn (a:List ar×List ByteArray×Int×Int×Unit)=>
  if(decide ((a.2.2.2.1:Int)<a.2.2.1))=true then
   if(decide (0<=a.2.2.2.1/\a.2.2.2.1<((E_ a.1:Nat):Int)))=true then
    if(decide (0<=a.2.2.1/\a.2.2.1<((E_ a.1:Nat):Int)))=true then
     at9 (dD k (((aug a.1 (atU a.2.2.2.1) ak.aa).2).1,((aug a.1 (atU a.2.2.1) ak.aa).2).1,())) λ(q:Bool×Unit)=>
     if q.1=true then
      some (false,())
     else
      n (a.1,a.2.1,a.2.2.1,IntKind.i64.wrap (a.2.2.2.1+(1:Int)),())
    else
     none
   else
    none
  else
   G (a.1,a.2.1,IntKind.i64.wrap (a.2.2.1+(1:Int)),())) (l,by_,(i:Int),(0:Int),())=if qR l i=true then G (l,by_,((i+1:Nat):Int),())else some (false,()):=by
  rw[show((l,by_,(i:Int),(0:Int),()):List ar×List ByteArray×Int×Int×Unit)=(λj:Nat=>(l,by_,(i:Int),(j:Int),())) 0 from rfl];rw[cV (λj:Nat=>(l,by_,(i:Int),(j:Int),())) (λj=> !decide ((l.getD j ak.aa).2.1=(l.getD i ak.aa).2.1)) i (e:=G (l,by_,((i+1:Nat):Int),())) (no:=some (false,())) ?_ ?_ k 0 (by omega)];rfl;intro o j h;simp only[eh];rw[aG,c_ h,an rfl,an (ax (by omega)),an (ax c),eT O (uj O hs (show j<l.length by omega)).2,cy,aY (by omega)];by_cases r:(l.getD j ak.aa).2.1=(l.getD i ak.aa).2.1<;>simp[r,-q'];intro o j h;simp only;rw[aG,decide_eq_false (by omega),a_ (by simp),aY (by omega)]
 rw[inner];unfold Ih;cases fo (l.getD i ak.aa) by_ with
 |false=>simp
 |true=>
  by_cases g:i=0;subst g;simp;have d:(0:Int)<(i:Int):=by omega
  have f:0<i:=by omega
  by_cases m:(l.getD (i-1) ak.aa).1<(l.getD i ak.aa).1;have b:¬(l.getD i ak.aa).1<=(l.getD (i-1) ak.aa).1:=by omega
  simp[g,d,f,m,b,-q'];have b:(l.getD i ak.aa).1<=(l.getD (i-1) ak.aa).1:=by omega
  simp[g,d,f,m,b,-q']
 intro G i c;simp only;rw[aG,decide_eq_false (by omega),a_ (by simp)];congr 2;rw[VG];simp;omega
end
def uO(l:List bp):Bool:=bF 0 l.length (λi=>gK (l.getD i bj.aa))
section
variable{k:Nat}(O:9223372036854775808<=k)
include O
def yZ{c:bw}{a:ae}(hs:ag ab a<=1048576):pM k (c,a,())=some (dx a,()):=by
 simp only[pM];rw[km O hs];simp only[cy,dx,Dw]
def Hr{c:bw}{a:ae}(hs:ag ab a<=1048576):sP k (c,a,())=some (dx a,()):=by
 simp only[sP];rw[mH O hs];simp only[cy,dx,Dw]
def V1{s:bp}(hs:ag bj s<=1048576):vp k (s,())=some (gK s,()):=by
 rw[gO O]at hs;have hl:=au (e:=ab) (l:=s.1);simp only[vp,aO];rw[show((s,(0:Int),()):bp×Int×Unit)=(λi:Nat=>(s,(i:Int),())) 0 from rfl];rw[cV (λi:Nat=>(s,(i:Int),())) (λi=>bA (s.1.getD i ab.aa)) s.1.length (e:=some (decide (s.1.length<=3)&&(!s.2||decide (s.1.length=0)),())) (no:=some (false,())) ?_ ?_ k 0 (by omega)];unfold gK bT;cases bF 0 s.1.length (λi=>bA (s.1.getD i ab.aa))<;>simp;intro G i a;simp only[eh];rw[aG,c_ a,an rfl,an (ax a),km O (iE O hs a).1,cy,aY (by omega)];cases bA (s.1.getD i ab.aa)<;>simp;intro G i a;simp only;rw[aG,decide_eq_false (by omega),a_ (by simp)];congr 2;by_cases h:s.1.length<=3;have c:(s.1.length:Int)<=3:=by omega
 by_cases b:s.1.length=0;cases s.2<;>simp[b];have h0':¬(s.1.length:Int)=0:=by omega
 cases s.2<;>simp[h,c,b]<;>(intro e;rw[e]at b;exact b rfl)
 have c:¬(s.1.length:Int)<=3:=by omega
 simp[h,c]
def U9{s:bp}(hs:ag bj s<=1048576):vu k (s,())=some (gK s,()):=by
 rw[gO O]at hs;have hl:=au (e:=ab) (l:=s.1);simp only[vu];rw[ov O hs];unfold gK;cases s.2 with
 |true=>
  simp only[if_true];congr 2;by_cases a:s.1=[]
  rw[a];rfl;have h1:¬s.1.length=0:=λe=>a (List.eq_nil_of_length_eq_zero e);simp[a]
 |false=>
  by_cases h:s.1.length<=3;have b:(s.1.length:Int)<=3:=by omega
  simp[h,b];have b:¬(s.1.length:Int)<=3:=by omega
  simp[h,b]
theorem X8{l:List bp}{i:Nat}(hs:ag (.sl bj) l<=1048576)(hi:i<l.length):ag bj (l.getD i bj.aa)<=1048576:=
 v7 (df (e:=bj) (cY hi)) hs
def JG{l:List bp}{c:bw}(hs:ag (.sl bj) l<=1048576):oW k (l,c,())=some (uO l&&decide ((l.length:Int)=c.2.2.1),()):=by
 have hl:=au (e:=bj) (l:=l);simp only[oW,aO];rw[show((l,c,l,(l.length:Int),(0:Int),()):List bp×bw×List bp×Int×Int×Unit)=(λi:Nat=>(l,c,l,(l.length:Int),(i:Int),())) 0 from rfl];rw[cV (λi:Nat=>(l,c,l,(l.length:Int),(i:Int),())) (λi=>gK (l.getD i bj.aa)) l.length (e:=some (decide ((l.length:Int)=c.2.2.1),())) (no:=some (false,())) ?_ ?_ k 0 (by omega)];unfold uO;cases bF 0 l.length (λi=>gK (l.getD i bj.aa))<;>simp;intro G i a;simp only[eh];rw[aG,c_ a,an rfl,an (ax a),U9 O (X8 O hs a),cy,aY (by omega)];cases gK (l.getD i bj.aa)<;>simp;intro G i a;simp only;rw[aG,decide_eq_false (by omega),a_ (by simp)];congr 2
end
def Sl(n:Int):IntKind.u32.wrap n=n%4294967296:=by
 simp[IntKind.wrap,IntKind.signed,IntKind.bits]
def akY{a b:Nat}(c:a<4294967296)(d:b<4294967296):bits (λ_=>(·^^^·)) .i64 (a:Int) (b:Int)=((a^^^b:Nat):Int):=by
 have hx:a^^^b<2^32:=aua (by simpa using c) (by simpa using d);change IntKind.i64.wrap (((BitVec.ofInt 64 (a:Int)^^^BitVec.ofInt 64 (b:Int)).toNat:Nat):Int)=_;rw[BitVec.toNat_xor,BitVec.toNat_ofInt,BitVec.toNat_ofInt];have e:((a:Int)%((2^64:Nat):Int)).toNat=a:=by omega
 have f:((b:Int)%((2^64:Nat):Int)).toNat=b:=by omega
 rw[e,f,wrap64 (by omega) (by omega)]
def akU{a b:Nat}(c:a<4294967296)(d:b<4294967296):bits (λ_=>(·^^^·)) .u32 (a:Int) (b:Int)=((a^^^b:Nat):Int):=by
 have hx:a^^^b<2^32:=aua (by simpa using c) (by simpa using d);change IntKind.u32.wrap (((BitVec.ofInt 32 (a:Int)^^^BitVec.ofInt 32 (b:Int)).toNat:Nat):Int)=_;rw[BitVec.toNat_xor,BitVec.toNat_ofInt,BitVec.toNat_ofInt];have e:((a:Int)%((2^32:Nat):Int)).toNat=a:=by omega
 have f:((b:Int)%((2^32:Nat):Int)).toNat=b:=by omega
 rw[e,f,Sl];omega
def ak5{a:Nat}(ha:a<9223372036854775808):bits (λ_=>(· &&& ·)) .i64 (a:Int) (4294967295:Int)=((a%4294967296:Nat):Int):=by
 change IntKind.i64.wrap (((BitVec.ofInt 64 (a:Int) &&& BitVec.ofInt 64 (4294967295:Int)).toNat:Nat):Int)=_;rw[BitVec.toNat_and,BitVec.toNat_ofInt,BitVec.toNat_ofInt];have b:((a:Int)%((2^64:Nat):Int)).toNat=a:=by omega
 have c:((4294967295:Int)%((2^64:Nat):Int)).toNat=2^32-1:=by decide
 rw[b,c,Nat.and_two_pow_sub_one_eq_mod,wrap64 (by omega) (by omega)]
def ak3(s:ByteArray)(i:Int):∃b:Nat,bt s i=(b:Int)/\b<256:=by
 unfold bt;exact⟨_,rfl,(s.data.toList.getD i.toNat 0).toNat_lt⟩
def X5{n:Nat}(a:n<4294967296)(s:ByteArray)(i:Int):∃m:Nat,m<4294967296/\
 bits (λ_=>(· &&& ·)) .i64 (IntKind.i64.wrap ((bits (λ_=>(·^^^·)) .i64 (n:Int) (IntKind.i64.wrap (bt s i)))*(16777619:Int))) (4294967295:Int)=(m:Int)/\
 IntKind.u32.wrap ((bits (λ_=>(·^^^·)) .u32 (n:Int) (IntKind.u32.wrap (bt s i)))*(16777619:Int))=(m:Int):=by
 obtain⟨b,d,hlt⟩:=ak3 s i;have c:n^^^b<2^32:=aua (by simpa using a) (by omega);rw[d,wrap64 (n:=(b:Int)) (by omega) (by omega),Sl (b:Int),show((b:Int)%4294967296)=(b:Int) by omega,akY a (by omega),akU a (by omega)];generalize n^^^b=x at c;rw[wrap64 (by omega) (by omega),show((x:Int)*16777619)=((x*16777619:Nat):Int) by omega,ak5 (by omega),Sl];exact⟨x*16777619%4294967296,by omega,rfl,by omega⟩
section
variable{k:Nat}(O:9223372036854775808<=k)
include O
theorem akG{s:ByteArray}(hs:s.size<=4294967296):∃n:Int,oA k (s,())=some (n,())/\vn k (s,())=some (n,()):=by
 have h:∃r:Int×Unit,oA k (s,())=some r/\∃n:Nat,r.1=(n:Int)/\n<4294967296:=by
  simp only[oA];refine H0 (λ(t:ByteArray×Int×Int×Unit)=>s.size-t.2.2.1.toNat) (λ(t:ByteArray×Int×Int×Unit)=>t.1=s/\(∃n:Nat,t.2.1=(n:Int)/\n<4294967296)/\0<=t.2.2.1/\t.2.2.1<=(s.size:Int)) _ ?_ k _ ⟨rfl,⟨2166136261,rfl,by omega⟩,by simp,by simp⟩ (by simp only;omega);rintro G ⟨s',n,i,u⟩ ⟨e1,⟨m,e2,hm⟩,hi0,hi1⟩ hG;change s'=s at e1;change n=_ at e2;subst e1 e2;simp only at hi0 hi1 hG|-;by_cases d:i<(s'.size:Int);rw[an (by simpa using d),an (by simpa using⟨hi0,d⟩)];obtain⟨e,c,q1,_⟩:=X5 hm s' i;rw[q1,wrap64 (by omega) (by omega)];exact hG (s',_,i+1,()) ⟨rfl,⟨e,rfl,c⟩,by simp only;omega,by simp only;omega⟩ (by simp only;omega);rw[a_ (by simpa using d)];exact⟨_,rfl,m,rfl,hm⟩
 have j:oA k (s,())=vn k (s,()):=by
  simp only[oA,vn,aO];refine Y2 (λ(t f:ByteArray×Int×Int×Unit)=>t=f/\∃n:Nat,t.2.1=(n:Int)/\n<4294967296) (λa b=>a=b) rfl ?_ k _ _ ⟨rfl,2166136261,rfl,by omega⟩;rintro G G' ⟨s1,n,i,u⟩ f ⟨rfl,m,e2,hm⟩ hG;change n=_ at e2;subst e2;simp only;obtain⟨e,c,q1,q2⟩:=X5 hm s1 i;split;split;rw[q1,q2];exact hG _ _ ⟨rfl,e,rfl,c⟩;rfl;rw[wrap64 (by omega) (by omega)]
 obtain⟨⟨n,u⟩,g,_⟩:=h;exact⟨n,g,j▸g⟩
def adp(x:ai):ByteArray:=((x.1++(⟨#[61,34]⟩:ByteArray))++x.2)++(⟨#[34]⟩:ByteArray)
def tx(l:List ai):Nat->ByteArray
 |0=>⟨#[123]⟩
 |i+1=>((((if i=0 then tx l i else tx l i++(⟨#[44,32]⟩:ByteArray))++(l.getD i al.aa).1)++(⟨#[61,34]⟩:ByteArray))++(l.getD i al.aa).2)++(⟨#[34]⟩:ByteArray)
theorem R1{l:List ai}(h:dP l=true):∀i,i<=l.length->(tx l i).size<=1+25*i:=by
 simp only[dP,atO,cH]at h;intro i
 induction i with
 |zero=>intro _;simp[tx,ByteArray.size]
 |succ i b=>
  intro hi;have:=b (by omega);have a:=h.2 i (by omega) (by omega);simp only[gN,im,lY,atO,b_]at a;simp only[tx,ByteArray.size_append];have e1:(⟨#[61,34]⟩:ByteArray).size=2:=rfl;have e2:(⟨#[34]⟩:ByteArray).size=1:=rfl;have e3:(⟨#[44,32]⟩:ByteArray).size=2:=rfl;split;omega;rw[ByteArray.size_append];omega
def PQ{l:List ai}(hs:ag (.sl al) l<=1048576):rT k (l,())=some (if dP l=true then tx l l.length++(⟨#[125]⟩:ByteArray)else⟨#[]⟩,()):=by
 have hl:=au (e:=al) (l:=l);simp only[rT,aO];rw[lS O hs,cy];cases b:dP l with
 |false=>simp
 |true=>
  have g:=R1 O b;have a:=b;simp only[dP,atO,cH,b_]at a;rw[a_ (by simp),an rfl];rw[show((l,(⟨#[123]⟩:ByteArray),(0:Int),()):List ai×ByteArray×Int×Unit)=(λi:Nat=>(l,tx l i,(i:Int),())) 0 from rfl];have h:(⟨#[61,34]⟩:ByteArray).size=2:=rfl;have j:(⟨#[34]⟩:ByteArray).size=1:=rfl;have m:(⟨#[44,32]⟩:ByteArray).size=2:=rfl;have o:(⟨#[125]⟩:ByteArray).size=1:=rfl;refine bV (λi:Nat=>(l,tx l i,(i:Int),())) l.length ?_ ?_ k 0 (by omega) (by omega);intro G i d;have f:=g i (by omega);have c:=a.2 i (by omega) d;simp only[gN,im,lY,atO,b_]at c;simp only[eh];rw[aG,c_ d,an rfl];by_cases n:i=0;subst n;have p:(tx l 0).size=1:=rfl;rw[a_ (by simp)];simp only[ax d,if_true,ByteArray.size_append,h,j,p];rw[an (by simp only[b_];omega),an (by simp only[b_];omega),an (by simp only[b_];omega),an (by simp only[b_];omega),aY (by omega)];rfl;have h0n:0<i:=by omega
  rw[an (by simp;omega),an (by simp only[m,b_];omega)];simp only[ax d,if_true,ByteArray.size_append,h,j,m];rw[an (by simp only[b_];omega),an (by simp only[b_];omega),an (by simp only[b_];omega),an (by simp only[b_];omega),aY (by omega)];simp only[tx,a_ n];intro G;have f:=g l.length (by omega);simp only;rw[aG,decide_eq_false (by omega),a_ (by simp),an (by simp only[o,b_];omega)]
def pl(l:List ai)(i:Nat):List ByteArray:=(List.range i).map (λj=>adp (l.getD j al.aa))
theorem aaE(l:List ai)(i:Nat):pl l (i+1)=pl l i++[adp (l.getD i al.aa)]:=by
 simp[pl,List.range_succ]
theorem aew(xs:List (List UInt8))(y sep:List UInt8):Lib.join (xs++[y]) sep=if xs=[]then y else Lib.join xs sep++sep++y:=by
 cases xs with
 |nil=>simp[Lib.join_one]
 |cons x r=>
  rw[a_ (by simp),List.cons_append,Lib.join_cons,Lib.join_cons];simp[Lib.joinTail,auo]
def aa5(l:List ai):∀i,(tx l i).data.toList=123::uM (pl l i) ⟨#[44,32]⟩:=by
 intro i
 induction i with
 |zero=>rfl
 |succ i c=>
  unfold uM at c|-;rw[aaE O,List.map_append,List.map_singleton,aew O];simp only[tx,adp];by_cases a:i=0;subst a;simp[pl,tx,ByteArray.data_append]
  have b:List.map (λx=>x.data.toList) (pl l i)≠ []:=by
   intro e;have:=congrArg E_ e;simp[pl]at this;exact a this
  rw[a_ a,a_ b];simp only[ByteArray.data_append,auk,c];simp[auo]
theorem afm{a b:ByteArray}(h:a.data.toList=b.data.toList):a=b:=by
 cases a;cases b;simp at h;rw[h]
def PT{l:List ai}(hs:ag (.sl al) l<=1048576):rV k (l,())=some (if dP l=true then tx l l.length++(⟨#[125]⟩:ByteArray)else⟨#[]⟩,()):=by
 have hl:=au (e:=al) (l:=l);simp only[rV,aO];rw[pg O hs,cy];cases c:dP l with
 |false=>simp
 |true=>
  have hb:=R1 O c l.length (by omega);have a:=c;simp only[dP,atO,cH,b_]at a;rw[a_ (by simp),an rfl];rw[show((([]:List ByteArray),l,(l.length:Int),(0:Int),()):List ByteArray×List ai×Int×Int×Unit)=(λi:Nat=>(pl l i,l,(l.length:Int),(i:Int),())) 0 from rfl];have g:(⟨#[61,34]⟩:ByteArray).size=2:=rfl;have h:(⟨#[34]⟩:ByteArray).size=1:=rfl;refine bV (λi:Nat=>(pl l i,l,(l.length:Int),(i:Int),())) l.length ?_ ?_ k 0 (by omega) (by omega);intro G i f;have d:=a.2 i (by omega) f;simp only[gN,im,lY,atO,b_]at d;have b:(pl l i).length=i:=by simp[pl]
  simp only[eh];rw[aG,c_ f,an rfl,an (ax f)];simp only[ByteArray.size_append,g,h];rw[an (by simp only[b_];omega),an (by simp only[b_];omega),an (by simp only[b_];omega),an (by simp only[b_,at4,b];omega),aY (by omega),aaE O];rfl;intro G;simp only;rw[aG,decide_eq_false (by omega),a_ (by simp)]
  have hj:(uM (pl l l.length) ⟨#[44,32]⟩).length<=1+25*l.length:=by
   have:=aa5 O l l.length;have j:=congrArg E_ this;simp only[Array.length_toList,auc]at j;have h3:(tx l l.length).data.size=(tx l l.length).size:=rfl;omega
  have b:(pl l l.length).length=l.length:=by simp[pl]
  simp only[wG,EE];rw[an ⟨by rw[b];omega,by omega⟩,cy];simp only[ByteArray.size_append];have m:(⟨(uM (pl l l.length) ⟨#[44,32]⟩).toArray⟩:ByteArray).size=(uM (pl l l.length) ⟨#[44,32]⟩).length:=by simp[ByteArray.size]
  have n:(⟨#[123]⟩:ByteArray).size=1:=rfl;have o:(⟨#[125]⟩:ByteArray).size=1:=rfl;rw[m,n,o,an (by simp only[b_];omega),an (by simp only[b_];omega)];congr 2;refine afm O ?_;simp only[ByteArray.data_append,auk];rw[aa5 O];simp
def Ur{l:List ai}(hs:ag (.sl al) l<=1048576):∃n:Int,dX k (l,())=some (n,())/\gX k (l,())=some (n,()):=by
 simp only[dX,gX];rw[PQ O hs,PT O hs];simp only[cy]
 have b:(if dP l=true then tx l l.length++(⟨#[125]⟩:ByteArray)else⟨#[]⟩).size<=4294967296:=by
  split;rename_i a;have hb:=R1 O a l.length (by omega)
  have hl:l.length<=4:=by
   simp only[dP,atO,b_]at a;exact a.1
  have e4:(⟨#[125]⟩:ByteArray).size=1:=rfl;rw[ByteArray.size_append];omega;simp[ByteArray.size]
 obtain⟨n,q1,q2⟩:=akG O b;rw[q1,q2];simp only[cy];rw[an (by simp),an (by simp)];exact⟨_,rfl,rfl⟩
theorem aep(f n:Int):kv k (f,n,())=ia k (f,n,()):=rfl
def er{a:ae}(h:ag ab a<=1073741824):bY k (a,())=some (a,()):=by
 have h1:=bG O a;have h2:=au (e:=al) (l:=a.1);simp only[bY];rw[an (by simp;omega)];simp
theorem rk{l:List ai}(h:l.length<=1073741824):fN k (l,())=some (l,()):=by
 simp only[fN];rw[an (by simp;omega)];simp
def vZ{a:ae}(h:ag ab a<=1073741824):gi k (a,())=some (a,()):=by
 have h1:=bG O a;have h2:=au (e:=al) (l:=a.1);simp only[gi];rw[rk O (by omega),cy]
def iL{l:List ae}(h:ag (.sl ab) l<=1073741824):db k (l,())=some (l,()):=
 IT (d:=ab.aa) (S:=bY k) O (v7 (au (e:=ab)) h) (λe a=>er O (v7 (df (e:=ab) a) h))
def gq{l:List ae}(h:ag (.sl ab) l<=1073741824):dE k (l,())=some (l,()):=
 Ow (d:=ab.aa) (S:=gi k) O (v7 (au (e:=ab)) h) (λe a=>vZ O (v7 (df (e:=ab) a) h))
def EF{g:ar}(h:ag ak g<=1073741824):jt k (g,())=some (g,()):=by
 have h1:=di O g;have h2:=au (e:=al) (l:=g.2.1);simp only[jt];rw[an (by simp;omega),iL O (by omega),cy];simp
def YR{g:ar}(h:ag ak g<=1073741824):lx k (g,())=some (g,()):=by
 have h1:=di O g;have h2:=au (e:=al) (l:=g.2.1);simp only[lx];rw[rk O (by omega),cy,gq O (by omega),cy]
def Ki{b:bE}(h1:ag (.sl al) b.2.1<=1073741824)(h3:ag (.sl ab) b.2.2.2<=1073741824):kf k (b,())=some (b,()):=by
 have h2:=au (e:=al) (l:=b.2.1);simp only[kf];rw[an (by simp;omega),iL O (by omega),cy];simp
def OS{c:bw}(h:ag fX c<=1073741824):od k (c,())=some (c,()):=by
 have h1:=oP O c;have h2:=au (e:= .str) (l:=c.2.2.2.2.2);simp only[od];rw[an (by simp;omega)];simp
def aaj{c:bw}(h:ag fX c<=1073741824):pV k (c,())=some (c,()):=by
 have h1:=oP O c;have h2:=au (e:= .str) (l:=c.2.2.2.2.2);simp only[pV];rw[an (by simp;omega)];simp
def fx(M:Int)(l:List ae):List ae:=l.filter λa=> !decide (a.2.2.1<=M)
omit O in
theorem Kb{M:Int}{l:List ae}{i:Nat}(h:i<l.length):fx M (l.take (i+1))=if(!decide ((l.getD i ab.aa).2.2.1<=M))=true then fx M (l.take i)++[l.getD i ab.aa]else fx M (l.take i):=by
 rw[j9 ab.aa h,fx,fx,List.filter_append,filter_one];split<;>simp
omit O in
theorem NI{M:Int}{l:List ae}:(fx M l).length<=l.length:=auj ..
omit O in
theorem acP{M:Int}{l:List ae}:ag (.sl ab) (fx M l)<=ag (.sl ab) l:=vU (e:=ab) _ l
def kC(g:ar)(M:Int):ar:=(g.1,g.2.1,g.2.2.1,M,fx M g.2.2.2.2)
def yV(g:ar)(M:Int):bE:=(g.1,g.2.1,M,g.2.2.2.2)
def VL{g:ar}{M:Int}(h:ag ak g<=1073741824):vg k (g,M,())=some (kC g M,yV g M,()):=by
 have h1:=di O g;have hl:=au (e:=ab) (l:=g.2.2.2.2);simp only[vg,aO];rw[EF O h,cy];refine bV (λi=>(M,g,_,_,(g.1,g.2.1,g.2.2.1,M,fx M (g.2.2.2.2.take i)),(i:Int),())) g.2.2.2.2.length (λG i a=> ?_) (λG=> ?_) k 0 (by omega) (by omega);have hm:=df (e:=ab) (cY (d:=ab.aa) a);have b:=NI (M:=M) (l:=g.2.2.2.2.take i);rw[at3]at b;simp only[aG,ax a,a,decide_true,if_true,eh,sU,cy];rw[er O (by omega),Kb a,aY (by omega)];simp only[cy];split;rw[an (by simp;omega)];rfl;simp only[aG,atT,decide_false,u_,if_false,atP];rw[Ki O (by simp only;omega) (by simp only;omega),cy];rfl
def adt{g:ar}{M:Int}:ag ak (kC g M)<=ag ak g:=by
 rw[di O,di O];have:=acP (M:=M) (l:=g.2.2.2.2);simp only[kC];omega
def abY{g:ar}{M:Int}:ag cJ (yV g M)=ag ak g:=by
 rw[di O,uw O];rfl
end
def dA(k:Nat)(l:List ai):Int:=match dX k (l,())with|some r=>r.1|none=>0
def eI(f n:Int):Int:=if n<1 then 0 else if f<0 then 0 else Int.tmod f n
def jd(l:List ae)(s:List ai):Option Nat:=iB l.length (λi=>decide ((l.getD i ab.aa).1=s))
def Cr(l:List ae):Bool:=bF 0 l.length (λi=>bF 0 i (λj=> !decide ((l.getD j ab.aa).1=(l.getD i ab.aa).1)))
def ek(k:Nat)(c:aR):Bool:=bF 0 c.2.length (λi=>bA (c.2.getD i ab.aa)&&decide (dA k (c.2.getD i ab.aa).1=c.1))&&(decide (0<c.2.length)&&Cr c.2)
def xX(l:List aR)(i:Nat):Bool:=i==0||decide ((l.getD (i-1) az.aa).1<(l.getD i az.aa).1)
def gU(k:Nat)(p:aq)(i n:Int):Bool:=
 bF 0 p.2.2.length (λj=>ek k (p.2.2.getD j az.aa)&&(decide (eI (p.2.2.getD j az.aa).1 n=i)&&xX p.2.2 j))&&(bh p.1 (-1) 4&&decide (0<=p.2.1))
def eo(k:Nat)(l:List aq):Bool:=bF 0 l.length (λi=>gU k (l.getD i aj.aa) i l.length)&&bh l.length 1 3
def dQ{e:Ty}{l:List e.den}{i:Nat}{d:e.den}(hi:i<l.length):ag e (l.getD i d)+l.length<=ag (.sl e) l:=by
 have h:=WX (f:=ag e) (cY (d:=d) hi);simp only[ag];omega
section
variable{k:Nat}(O:9223372036854775808<=k)
include O
def gA{l:List ai}(hs:ag (.sl al) l<=1048576):dX k (l,())=some (dA k l,()):=by
 obtain⟨n,a,h2⟩:=Ur O hs;unfold dA;rw[a]
def ju{l:List ai}(hs:ag (.sl al) l<=1048576):gX k (l,())=some (dA k l,()):=by
 obtain⟨n,a,b⟩:=Ur O hs;unfold dA;rw[a,b]
theorem kY{f n:Int}:ia k (f,n,())=some (eI f n,()):=by
 simp only[ia,eI];by_cases a:n<1;simp[a];by_cases b:f<0;simp[a,b];have c:n≠0:=by omega
 simp[a,b,c]
def nV{f n:Int}:kv k (f,n,())=some (eI f n,()):=by
 rw[aep O,kY O]
omit O in
theorem E7{f n:Int}(h:1<=n):0<=eI f n/\eI f n<n:=by
 unfold eI;rw[a_ (by omega)];split;omega;exact⟨Int.tmod_nonneg _ (by omega),Int.tmod_lt_of_pos _ (by omega)⟩
def JZ{l:List ae}{s:List ai}(hs:ag (.sl ab) l<=1048576):mD k (l,s,())=some (iC (jd l s),()):=by
 have hl:=au (e:=ab) (l:=l);simp only[mD];refine(mT (λi:Nat=>(s,l,(l.length:Int),(i:Int),())) (λi=>decide ((l.getD i ab.aa).1=s)) l.length (e:=some (-1,())) (λi=>some ((i:Int),())) (λG i a=> ?_) (λG=> ?_) k (by omega)).trans ?_;obtain⟨h1,b⟩:=iE O hs a;simp only[aG,ax a,a,decide_true,if_true,eh,eN O b,cy];rw[aY (by omega)];simp;unfold jd;cases iB l.length (λi=>decide ((l.getD i ab.aa).1=s))<;>rfl
def vW{c:aR}{s:List ai}(hs:ag (.sl ab) c.2<=1048576):jy k (c,s,())=some (iC (jd c.2 s),()):=by
 have hl:=au (e:=ab) (l:=c.2);simp only[jy];refine(mT (λi:Nat=>(s,c,(i:Int),())) (λi=>decide ((c.2.getD i ab.aa).1=s)) c.2.length (e:=some (-1,())) (λi=>some ((i:Int),())) (λG i a=> ?_) (λG=> ?_) k (by omega)).trans ?_;obtain⟨h1,b⟩:=iE O hs a;simp only[aG,ax a,a,decide_true,if_true,eh,eT O b,cy];rw[aY (by omega)];simp;unfold jd;cases iB c.2.length (λi=>decide ((c.2.getD i ab.aa).1=s))<;>rfl
def O2{c:aR}{s:List ai}(hs:ag (.sl ab) c.2<=1048576):sj k (c,s,())=some (iC (jd c.2 s),()):=by
 simp only[sj];rw[JZ O hs,cy]
omit O in
theorem adk{l:List ae}{i:Nat}(hi:i<l.length):(jd (l.take i) (l.getD i ab.aa).1=none)↔bF 0 i (λj=> !decide ((l.getD j ab.aa).1=(l.getD i ab.aa).1))=true:=by
 unfold jd;rw[jP,cH];have c:(l.take i).length=i:=by simp;omega
 rw[c]
 have b:∀j,j<i->(l.take i).getD j ab.aa=l.getD j ab.aa:=by
  intro j a;simp[q',List.getElem?_take,a]
 constructor;intro h j _ a;have:=h j a;rw[b j a]at this;simp only[this,atQ];intro h j a;have:=h j (by omega) a;rw[b j a];simpa using this
def Ry{l:List ae}(hs:ag (.sl ab) l<=1048576):mf k (l,())=some (Cr l,()):=by
 have hl:=au (e:=ab) (l:=l);simp only[mf];refine(cV (λi:Nat=>(l,l,(l.length:Int),(i:Int),())) (λi=>bF 0 i (λj=> !decide ((l.getD j ab.aa).1=(l.getD i ab.aa).1))) l.length (e:=some (true,())) (no:=some (false,())) ?_ ?_ k 0 (by omega)).trans ?_;intro G i a;have ht:=dH (e:=ab) l i;simp only[aG,ax a,a,decide_true,if_true,eh];rw[an (by simp;omega),JZ O (by omega),cy,aY (by omega)];have key:=adk a;cases b:bF 0 i (λj=> !decide ((l.getD j ab.aa).1=(l.getD i ab.aa).1))with
 |true=>
  rw[key.2 b];rfl
 |false=>
  cases c:jd (l.take i) (l.getD i ab.aa).1 with
  |none=>rw[key.1 c]at b;cases b
  |some j=>rw[an (by simp[iC]),a_ (by simp)]
 intro G i a;simp only[aG];rw[a_ (by simp;omega)];unfold Cr;split<;>simp_all
def AI{c:aR}(hs:ag az c<=1048576):rC k (c,())=some (ek k c,()):=by
 rw[dj O]at hs;have hl:=au (e:=ab) (l:=c.2);simp only[rC,aO]
 refine(cV (λi:Nat=>(c,c.2,(c.2.length:Int),(i:Int),())) (λi=>bA (c.2.getD i ab.aa)&&decide (dA k (c.2.getD i ab.aa).1=c.1)) c.2.length
  (e:=some (decide (0<c.2.length)&&Cr c.2,())) (no:=some (false,())) ?_ ?_ k 0 (by omega)).trans ?_
 intro G i a;obtain⟨g,h2⟩:=iE O hs a;have h3:=bG O (c.2.getD i ab.aa);simp only[aG,ax a,a,decide_true,if_true,eh,mH O g,ju O (l:=(c.2.getD i ab.aa).1) (by omega),cy,cN];rw[aY (by omega)];generalize bA (c.2.getD i ab.aa)=b1;generalize dA k (c.2.getD i ab.aa).1=f;cases b1<;>by_cases b:f=c.1<;>simp[b];intro G i a;simp only[aG];rw[a_ (by simp;omega),Ry O hs];by_cases d:0<c.2.length<;>simp[d];unfold ek;cases bF 0 c.2.length (λi=>bA (c.2.getD i ab.aa)&&decide (dA k (c.2.getD i ab.aa).1=c.1))<;>simp
def As{c:aR}(hs:ag az c<=1048576):rI k (c,())=some (ek k c,()):=by
 rw[dj O]at hs;have hl:=au (e:=ab) (l:=c.2);simp only[rI,aO]
 refine(cV (λi:Nat=>(c,(i:Int),())) (λi=>(bA (c.2.getD i ab.aa)&&decide (dA k (c.2.getD i ab.aa).1=c.1))&&bF 0 i (λj=> !decide ((c.2.getD j ab.aa).1=(c.2.getD i ab.aa).1))) c.2.length
  (e:=some (decide (0<c.2.length),())) (no:=some (false,())) ?_ ?_ k 0 (by omega)).trans ?_
 intro G i b;obtain⟨q,h2⟩:=iE O hs b;have h3:=bG O (c.2.getD i ab.aa);simp only[aG,ax b,b,decide_true,if_true,eh,km O q,gA O (l:=(c.2.getD i ab.aa).1) (by omega),cy,cN,p_]
 have d:aM k (λh (a:aR×Int×Int×Unit)=>
  if(decide ((a.2.2.1:Int)<a.2.1))=true then
   if(decide (0<=a.2.2.1/\a.2.2.1<((E_ a.1.2:Nat):Int)))=true then
    if(decide (0<=a.2.1/\a.2.1<((E_ a.1.2:Nat):Int)))=true then
     at9 (dD k ((aug a.1.2 (atU a.2.2.1) ab.aa).1,(aug a.1.2 (atU a.2.1) ab.aa).1,())) λ(n:Bool×Unit)=>
     if n.1=true then
      some (false,())
     else
      h (a.1,a.2.1,IntKind.i64.wrap (a.2.2.1+(1:Int)),())
    else
     none
   else
    none
  else
   G (a.1,IntKind.i64.wrap (a.2.1+(1:Int)),())) (c,(i:Int),(0:Int),())=
  if bF 0 i (λj=> !decide ((c.2.getD j ab.aa).1=(c.2.getD i ab.aa).1))=true then G (c,((i+1:Nat):Int),())else some (false,()):=by
  refine cV (λj:Nat=>(c,(i:Int),(j:Int),())) (λj=> !decide ((c.2.getD j ab.aa).1=(c.2.getD i ab.aa).1)) i ?_ ?_ k 0 (by omega);intro m j g;obtain⟨h4,r⟩:=iE O hs (i:=j) (by omega);simp only[aG,ax b,ax (show j<c.2.length by omega),b,g,decide_true,if_true,eh,eT O r,cy];rw[aY (by omega)];by_cases o:(c.2.getD j ab.aa).1=(c.2.getD i ab.aa).1<;>simp only[o,decide_true,decide_false,atV,atQ,if_true,u_,if_false];intro m j g;simp only[aG];rw[a_ (by simp;omega),aY (by omega)]
 rw[d];generalize bA (c.2.getD i ab.aa)=b1;generalize dA k (c.2.getD i ab.aa).1=f;generalize bF 0 i (λj=> !decide ((c.2.getD j ab.aa).1=(c.2.getD i ab.aa).1))=b3;cases b1<;>cases b3<;>by_cases p:f=c.1<;>simp[p];intro G i b;simp only[aG];rw[a_ (by simp;omega)];congr 2;simp;rw[lz];unfold ek Cr
 cases bF 0 c.2.length (λi=>bA (c.2.getD i ab.aa)&&decide (dA k (c.2.getD i ab.aa).1=c.1))<;>
  cases bF 0 c.2.length (λi=>bF 0 i (λj=> !decide ((c.2.getD j ab.aa).1=(c.2.getD i ab.aa).1)))<;>simp
end
def MX{j:Nat}(h:j<4611686018427387904):IntKind.i64.wrap (((j+1:Nat):Int)-1)=(j:Int):=by
 rw[wrap64 (by omega) (by omega)];omega
def Uw(j:Nat):decide ((((j+1:Nat):Int))>0)=true:=by simp
def gtZ:decide ((((0:Nat):Int))>0)=false:=by simp
def cB(a b:aI):Bool:=decide (a.1<b.1)||(decide (a.1=b.1)&&decide (a.2<b.2))
def mF(l:List aI):Bool:=
 bF 0 l.length (λi=>(decide (0<=(l.getD i aL.aa).1)&&decide (0<=(l.getD i aL.aa).2))&&(i==0|| !cB (l.getD i aL.aa) (l.getD ((i-1)/2) aL.aa)))&&decide (l.length<=16)
abbrev nW(c:aR):List ae:=c.2
def bd(p:aq):List ae:=p.2.2.flatMap nW
def cn(l:List aq):List ae:=l.flatMap bd
def bL(l:List aq):Nat:=(cn l).length
def iS(p:aq)(f:Int):Option Nat:=iB p.2.2.length (λi=>decide ((p.2.2.getD i az.aa).1=f))
def c9:ae:=([],0,0,ByteArray.empty)
def iv(k:Nat)(p:aq)(s:List ai):ae×Bool:=
 match iS p (dA k s)with
 |none=>(c9,false)
 |some i=>match jd (p.2.2.getD i az.aa).2 s with
  |none=>(c9,false)
  |some j=>((p.2.2.getD i az.aa).2.getD j ab.aa,true)
def bO(k:Nat)(l:List aq)(s:List ai):Int:=eI (dA k s) l.length
def bQ(k:Nat)(l:List aq)(s:List ai):ae×Bool:=if l.length=0 then(c9,false)else iv k (l.getD (bO k l s).toNat aj.aa) s
def lP(c:bw)(g:ar):Int:=IntKind.i64.wrap (if g.2.2.2.1= -1 then g.2.2.1+c.2.2.2.1 else g.2.2.2.1+c.2.2.2.2.1)
def fK{α β:Type}{f:α->List β}{l:List α}{i:Nat}(d:α)(h:i<l.length):(l.take (i+1)).flatMap f=(l.take i).flatMap f++f (l.getD i d):=by
 rw[j9 d h,List.flatMap_append];simp
section
variable{k:Nat}(O:9223372036854775808<=k)
include O
theorem oB{e f:Ty}{g:e.den->List f.den}(h:∀x,ag (.sl f) (g x)<=ag e x):∀l:List e.den,ag (.sl f) (l.flatMap g)<=ag (.sl e) l
 | []=>by simp[ag]
 |x::l=>by
  have h1:=h x;have h2:=oB h l;rw[List.flatMap_cons,fa,ck];omega
def jS(p:aq):ag (.sl ab) (bd p)<=ag aj p:=by
 rw[cM O];exact oB O (e:=az) (f:=ab) (g:=nW) (λc=>by rw[dj O];exact at1 _) p.2.2
def iq(l:List aq):ag (.sl ab) (cn l)<=ag (.sl aj) l:=oB O (e:=aj) (f:=ab) (g:=bd) (jS O) l
def jj{p:aq}{i:Nat}(hs:ag aj p<=1048576)(hi:i<p.2.2.length):ag az (p.2.2.getD i az.aa)<=1048576/\ag (.sl ab) (p.2.2.getD i az.aa).2<=1048576:=by
 rw[cM O]at hs;have h1:=dQ (e:=az) (d:=az.aa) hi;have h2:=dj O (p.2.2.getD i az.aa);omega
def St{p:aq}{i n:Int}(hs:ag aj p<=1048576):tR k (p,i,n,())=some (gU k p i n,()):=by
 have hl:p.2.2.length<=1048576:=by rw[cM O]at hs;have:=au (e:=az) (l:=p.2.2);omega
 simp only[tR,aO]
 refine(cV (λj:Nat=>(i,n,p,p.2.2,(p.2.2.length:Int),(j:Int),())) (λj=>ek k (p.2.2.getD j az.aa)&&(decide (eI (p.2.2.getD j az.aa).1 n=i)&&xX p.2.2 j)) p.2.2.length
  (e:=some (bh p.1 (-1) 4&&decide (0<=p.2.1),())) (no:=some (false,())) ?_ ?_ k 0 (by omega)).trans ?_
 intro G j a;obtain⟨g,_⟩:=jj O hs a;cases j with
 |zero=>
  simp only[aG,ax a,a,gtZ,decide_true,if_true,eh,AI O g,nV O,cy,cN,beq_self_eq_true,u_,if_false,xX,atX,atY];rw[aY (by omega)];generalize ek k (p.2.2.getD 0 az.aa)=b1;generalize eI (p.2.2.getD 0 az.aa).1 n=f;cases b1<;>by_cases c:f=i<;>simp[c]
 |succ m=>
  have h:m<p.2.2.length:=by omega
  simp only[aG,ax a,ax h,a,Uw,MX (show m<4611686018427387904 by omega),decide_true,if_true,eh,AI O g,nV O,cy,cN,beq_self_eq_true,xX,p_,atW];rw[aY (by omega)];generalize ek k (p.2.2.getD (m+1) az.aa)=b1;generalize eI (p.2.2.getD (m+1) az.aa).1 n=f;generalize (p.2.2.getD m az.aa).1=u;generalize (p.2.2.getD (m+1) az.aa).1=v;have o:((m+1:Nat)==0)=false:=rfl;rw[o];cases b1<;>by_cases c:f=i<;>by_cases d:u<v<;>simp[c,d]<;>omega
 intro G j a;simp only[aG];rw[a_ (by simp;omega),gY O,cy];generalize bh p.1 (-1) 4=b;cases b<;>simp;unfold gU;cases bF 0 p.2.2.length (λj=>ek k (p.2.2.getD j az.aa)&&(decide (eI (p.2.2.getD j az.aa).1 n=i)&&xX p.2.2 j))<;>simp
def RX{p:aq}{i n:Int}(hs:ag aj p<=1048576):tL k (p,i,n,())=some (gU k p i n,()):=by
 have hl:p.2.2.length<=1048576:=by rw[cM O]at hs;have:=au (e:=az) (l:=p.2.2);omega
 simp only[tL,aO]
 refine(cV (λj:Nat=>(i,n,p,(j:Int),())) (λj=>ek k (p.2.2.getD j az.aa)&&(decide (eI (p.2.2.getD j az.aa).1 n=i)&&xX p.2.2 j)) p.2.2.length
  (e:=some (bh p.1 (-1) 4&&decide (0<=p.2.1),())) (no:=some (false,())) ?_ ?_ k 0 (by omega)).trans ?_
 intro G j a;obtain⟨g,_⟩:=jj O hs a;cases j with
 |zero=>
  simp only[aG,ax a,a,gtZ,decide_true,if_true,eh,As O g,kY O,cy,cN,beq_self_eq_true,u_,if_false,xX,atX,atY,p_,at0,atQ];rw[aY (by omega)];generalize ek k (p.2.2.getD 0 az.aa)=b1;generalize eI (p.2.2.getD 0 az.aa).1 n=f;cases b1<;>by_cases c:f=i<;>simp[c]
 |succ m=>
  have h:m<p.2.2.length:=by omega
  simp only[aG,ax a,ax h,a,Uw,MX (show m<4611686018427387904 by omega),decide_true,if_true,eh,As O g,kY O,cy,cN,beq_self_eq_true,xX,p_,atW];rw[aY (by omega)];generalize ek k (p.2.2.getD (m+1) az.aa)=b1;generalize eI (p.2.2.getD (m+1) az.aa).1 n=f;generalize (p.2.2.getD m az.aa).1=u;generalize (p.2.2.getD (m+1) az.aa).1=v;have o:((m+1:Nat)==0)=false:=rfl;rw[o];cases b1<;>by_cases c:f=i<;>by_cases d:u<v<;>simp[c,d]<;>omega
 intro G j a;simp only[aG];rw[a_ (by simp;omega),gB O,cy];generalize bh p.1 (-1) 4=b;cases b<;>simp;unfold gU;cases bF 0 p.2.2.length (λj=>ek k (p.2.2.getD j az.aa)&&(decide (eI (p.2.2.getD j az.aa).1 n=i)&&xX p.2.2 j))<;>simp
theorem lp{l:List aq}{i:Nat}(hs:ag (.sl aj) l<=1048576)(hi:i<l.length):ag aj (l.getD i aj.aa)<=1048576:=by
 have h1:=dQ (e:=aj) (d:=aj.aa) hi;omega
def PW{l:List aq}(hs:ag (.sl aj) l<=1048576):rf k (l,())=some (eo k l,()):=by
 have hl:=au (e:=aj) (l:=l);simp only[rf];rw[gY O,cy];unfold eo;cases hin:bh l.length 1 3 with
 |false=>simp
 |true=>
  rw[a_ (by simp)];refine(cV (λi:Nat=>(l,l,(l.length:Int),(i:Int),())) (λi=>gU k (l.getD i aj.aa) i l.length) l.length (e:=some (true,())) (no:=some (false,())) ?_ ?_ k 0 (by omega)).trans ?_;intro G i a;simp only[aG,ax a,a,decide_true,if_true,eh,St O (lp O hs a),cy];rw[aY (by omega)];cases gU k (l.getD i aj.aa) i l.length<;>simp;intro G i a;simp only[aG];rw[a_ (by simp;omega)];cases bF 0 l.length (λi=>gU k (l.getD i aj.aa) i l.length)<;>simp
def NL{l:List aq}(hs:ag (.sl aj) l<=1048576):sB k (l,())=some (eo k l,()):=by
 have hl:=au (e:=aj) (l:=l);simp only[sB,aO];unfold eo;refine(cV (λi:Nat=>(l,(i:Int),())) (λi=>gU k (l.getD i aj.aa) i l.length) l.length (e:=some (bh l.length 1 3,())) (no:=some (false,())) ?_ ?_ k 0 (by omega)).trans ?_;intro G i a;simp only[aG,ax a,a,decide_true,if_true,eh,RX O (lp O hs a),cy];rw[aY (by omega)];cases gU k (l.getD i aj.aa) i l.length<;>simp;intro G i a;simp only[aG];rw[a_ (by simp;omega),gB O,cy];cases bF 0 l.length (λi=>gU k (l.getD i aj.aa) i l.length)<;>simp
def uh{p:aq}(hs:ag aj p<=1048576):kc k (p,())=some (bd p,()):=by
 have hl:p.2.2.length<=1048576:=by rw[cM O]at hs;have:=au (e:=az) (l:=p.2.2);omega
 simp only[kc];refine bV (λi:Nat=>(p,(p.2.2.take i).flatMap nW,(i:Int),())) p.2.2.length (λG i a=> ?_) (λG=> ?_) k 0 (by omega) (by omega);obtain⟨h1,h2⟩:=jj O hs a;have hb:=oB O (e:=az) (f:=ab) (g:=nW) (λc=>by rw[dj O];exact at1 _) (p.2.2.take i);have hb2:=dH (e:=az) p.2.2 i;have hb3:=au (e:=ab) (l:=(p.2.2.take i).flatMap nW);have hb4:=au (e:=ab) (l:=(p.2.2.getD i az.aa).2);rw[cM O]at hs;simp only[aG,ax a,a,decide_true,if_true,eh];rw[iL O (by omega),cy,an (by simp only[b_];omega),aY (by omega),fK az.aa a];simp[bd]
def tY{p:aq}(hs:ag aj p<=1048576):kk k (p,())=some (bd p,()):=by
 have hl:p.2.2.length<=1048576:=by rw[cM O]at hs;have:=au (e:=az) (l:=p.2.2);omega
 simp only[kk];refine bV (λi:Nat=>(p,(p.2.2.take i).flatMap nW,p.2.2,(p.2.2.length:Int),(i:Int),())) p.2.2.length (λG i a=> ?_) (λG=> ?_) k 0 (by omega) (by omega);obtain⟨h1,h2⟩:=jj O hs a;have hb:=oB O (e:=az) (f:=ab) (g:=nW) (λc=>by rw[dj O];exact at1 _) (p.2.2.take i);have hb2:=dH (e:=az) p.2.2 i;have hb3:=au (e:=ab) (l:=(p.2.2.take i).flatMap nW);have hb4:=au (e:=ab) (l:=(p.2.2.getD i az.aa).2);rw[cM O]at hs;simp only[aG,ax a,a,decide_true,if_true,eh];rw[gq O (by omega),cy,an (by simp only[b_];omega),aY (by omega),fK az.aa a];simp[bd]
end
theorem Un{α:Type}(lt:α->α->Bool)(x:α):∀r:List α,dG lt x r=r.takeWhile (lt x)++x::r.dropWhile (lt x)
 | []=>rfl
 |y::r=>by
  simp only[dG,at7,List.dropWhile_cons];split;rw[Un lt x r];rfl;rfl
theorem IY{α:Type}(p:α->Bool)(d:α):∀(r:List α) (m:Nat),m<(r.takeWhile p).length->p (r.getD m d)=true
 | [],m,h=>by simp at h
 |y::r,m,h=>by
  rw[at7]at h;split at h;cases m with
  |zero=>simpa
  |succ m=>rw[aul];exact IY p d r m (by simpa using h)
  simp at h
theorem FY{α:Type}(p:α->Bool)(d:α):∀(r:List α),(r.takeWhile p).length<r.length->p (r.getD (r.takeWhile p).length d)=false
 | [],h=>by simp at h
 |y::r,h=>by
  rw[at7]at h|-;split;rename_i a;rw[an a]at h;simp only[auc,aul];exact FY p d r (by simpa using h);simpa using ‹¬p y=true›
def W2{α:Type}(d:α)(l:List α)(m:Nat)(h:m<l.length):l.reverse.getD m d=l.getD (l.length-1-m) d:=by
 rw[q',List.getElem?_reverse h,<-q']
def iZ{α:Type}(lt:α->α->Bool)(x:α)(out:List α):Nat:=(out.reverse.takeWhile (lt x)).length
def agw{α:Type}(lt:α->α->Bool)(x:α)(r:List α):(dG lt x r).reverse=r.reverse.take (r.reverse.length-iZ lt x r.reverse)++[x]++r.reverse.drop (r.reverse.length-iZ lt x r.reverse):=by
 have hc:(r.takeWhile (lt x)).length<=r.length:=(aui _).length_le;have a:iZ lt x r.reverse=(r.takeWhile (lt x)).length:=by unfold iZ;rw[List.reverse_reverse]
 have b:r.reverse.length=r.length:=atZ ..;rw[Un,a,b,List.take_reverse,List.drop_reverse];have c:r.length-(r.length-(r.takeWhile (lt x)).length)=(r.takeWhile (lt x)).length:=by omega
 rw[c]
 have d:r.drop (r.takeWhile (lt x)).length=r.dropWhile (lt x):=by
  conv=>lhs;arg 2;rw[<-at5 (p:=lt x) (l:=r)]
  rw[List.drop_left]
 have e:r.take (r.takeWhile (lt x)).length=r.takeWhile (lt x):=by
  conv=>lhs;arg 2;rw[<-at5 (p:=lt x) (l:=r)]
  rw[List.take_left]
 rw[d,e];simp
def xi{α:Type}(lt:α->α->Bool)(l:List α):List α:=l.foldl (λr x=>dG lt x r) []
theorem Qh{α:Type}(lt:α->α->Bool)(x:α):∀r:List α,(dG lt x r).length=r.length+1
 | []=>rfl
 |y::r=>by simp only[dG];split<;>simp[Qh lt x r]
def acV{α:Type}(lt:α->α->Bool){l:List α}{i:Nat}(d:α)(h:i<l.length):xi lt (l.take (i+1))=dG lt (l.getD i d) (xi lt (l.take i)):=by
 unfold xi;rw[j9 d h,List.foldl_append];rfl
def TU{α:Type}(lt:α->α->Bool)(l:List α):(xi lt l).length=l.length:=by
 have:∀(l r:List α),(l.foldl (λr x=>dG lt x r) r).length=l.length+r.length:=by
  intro l
  induction l with
  |nil=>intro r;simp
  |cons x l a=>intro r;rw[aup,a,Qh,auc];omega
 simpa[xi]using this l []
theorem MW{e:Ty}(lt:e.den->e.den->Bool)(x:e.den):∀r:List e.den,ag (.sl e) (dG lt x r)=1+ag e x+ag (.sl e) r
 | []=>by simp only[dG];rw[ck]
 |y::r=>by
  simp only[dG];split;rw[ck,ck,MW lt x r];omega;rw[ck,ck]
def adU{e:Ty}(lt:e.den->e.den->Bool)(l:List e.den):ag (.sl e) (xi lt l)=ag (.sl e) l:=by
 have:∀(l r:List e.den),ag (.sl e) (l.foldl (λr x=>dG lt x r) r)=ag (.sl e) l+ag (.sl e) r:=by
  intro l
  induction l with
  |nil=>intro r;simp[ag]
  |cons x l a=>intro r;rw[aup,a,MW,ck];omega
 have h:=this l [];rw[bf]at h;exact h
def aiM{e:Ty}(l:List e.den):ag (.sl e) l.reverse=ag (.sl e) l:=by
 simp only[ag,atZ,List.map_reverse,List.sum_reverse]
def acj{e:Ty}(lt:e.den->e.den->Bool)(l:List e.den):ag (.sl e) (fc lt l)=ag (.sl e) l:=by
 show ag (.sl e) (xi lt l).reverse=_;rw[aiM,adU]
def uz(l:List ae):ag (.sl ab) (dp l)=ag (.sl ab) l:=acj (e:=ab) ee l
section
variable{k:Nat}(O:9223372036854775808<=k)
include O
def UF{l:List ae}(hs:ag (.sl ab) l<=1048576):lW k (l,())=some (dp l,()):=by
 have hl:=au (e:=ab) (l:=l);simp only[lW];refine bV (λi:Nat=>(l,(xi ee (l.take i)).reverse,(i:Int),())) l.length (λG i f=> ?_) (λG=> ?_) k 0 (by omega) (by omega);obtain⟨h1,n⟩:=iE O hs f;simp only[aG,ax f,f,decide_true,if_true,eh];rw[er O (by omega),cy,acV ee ab.aa f,agw];generalize hx:l.getD i ab.aa=x at*
 have hol:(xi ee (l.take i)).reverse.length=i:=by rw[atZ,TU];simp;omega
 generalize hout:(xi ee (l.take i)).reverse=out at*
 have c:iZ ee x out<=out.length:=by
  unfold iZ;have:=(aui (ee x) (l:=out.reverse)).length_le;simpa using this
 simp only[aO];refine bV (λm:Nat=>(l,out,(i:Int),x,((out.length-m:Nat):Int),())) (iZ ee x out) (λp m r=> ?_) (λp=> ?_) k 0 (by omega) (by omega)
 have d:ee x (out.getD (out.length-1-m) ab.aa)=true:=by
  have:=IY (ee x) ab.aa out.reverse m r;rwa [W2 _ _ _ (by omega)]at this
 obtain⟨q,o⟩:∃q,out.length-m=q+1:=⟨out.length-m-1,by omega⟩
 have g:out.length-(m+1)=q:=by omega
 have h:out.length-1-m=q:=by omega
 rw[h]at d;simp only[o,Uw,MX (show q<4611686018427387904 by omega),ax (show q<out.length by omega),p_,if_true,beq_self_eq_true,eh,vV O n,pW O n,cy,g];rw[an d]
 have a:(if decide (((out.length-iZ ee x out:Nat):Int)>0)=true then ee x (out.getD (out.length-iZ ee x out-1) ab.aa)else false)=false:=by
  by_cases j:iZ ee x out=out.length;rw[j,Nat.sub_self];rfl;rw[an (by simp;omega)];have:=FY (ee x) ab.aa out.reverse (by rw[atZ];unfold iZ at j c;omega);rw[W2 _ _ _ (by unfold iZ at j c;omega)]at this;unfold iZ;rw[show out.length-(auq (ee x) out.reverse).length-1=out.length-1-(auq (ee x) out.reverse).length by omega];exact this
 have fin:(if(decide (0<=(((out.length-iZ ee x out:Nat):Int))/\(((out.length-iZ ee x out:Nat):Int))<=((E_ out:Nat):Int)))=true then
  if(decide (E_ ([]:List ae)+E_ (aum (atU ((out.length-iZ ee x out:Nat):Int)) out)<4294967296))=true then
   if(decide (E_ (([]:List ae)++(aum (atU ((out.length-iZ ee x out:Nat):Int)) out))+E_ ([x]:List ae)<4294967296))=true then
    if(decide (0<=(((out.length-iZ ee x out:Nat):Int))/\(((out.length-iZ ee x out:Nat):Int))<=((E_ out:Nat):Int)))=true then
     if(decide (E_ ((([]:List ae)++(aum (atU ((out.length-iZ ee x out:Nat):Int)) out))++([x]:List ae))+E_ (List.drop (atU ((out.length-iZ ee x out:Nat):Int)) out)<4294967296))=true then
      G (l,((([]:List ae)++(aum (atU ((out.length-iZ ee x out:Nat):Int)) out))++([x]:List ae))++(List.drop (atU ((out.length-iZ ee x out:Nat):Int)) out),IntKind.i64.wrap ((i:Int)+(1:Int)),())
     else none
    else none
   else none
  else none
  else none)=G (l,out.take (out.length-iZ ee x out)++[x]++out.drop (out.length-iZ ee x out),((i+1:Nat):Int),()):=by
  rw[an (by simp only[b_];omega),an (by simp only[b_,auh,at3];omega),an (by simp only[b_,atS,auh,at3,at4];omega),an (by simp only[b_];omega),an (by simp only[b_,atS,auh,at3,at4,List.length_drop];omega),aY (by omega),eh,List.nil_append]
 by_cases s:out.length-iZ ee x out=0;rw[s]at fin|-;simp only[gtZ,u_,if_false,beq_self_eq_true,u_,atQ,atX,if_true,cy];have t:(!((false:Bool)==true)||decide (0<=IntKind.i64.wrap (((0:Nat):Int)-1)/\IntKind.i64.wrap (((0:Nat):Int)-1)<((out.length:Nat):Int)))=true:=rfl;rw[an t];exact fin;obtain⟨q,o⟩:∃q,out.length-iZ ee x out=q+1:=⟨out.length-iZ ee x out-1,by omega⟩
 rw[o]at a fin|-;rw[Uw,an rfl,atW]at a;simp only[Uw,MX (show q<4611686018427387904 by omega),ax (show q<out.length by omega),p_,if_true,beq_self_eq_true,eh,pW O n,cy];have b:bN x.1 (out.getD q ab.aa).1=false:=a;rw[a_ (by rw[b];simp)];exact fin;simp only[aG,atT,decide_false,u_,if_false,atP];rfl
end
def y3{β:Type}{c:Bool}{a b:β}(h:c=false):(if c=true then a else b)=b:=by rw[h];rfl
def ahv{a b:Nat}(h:a+b<4611686018427387904):IntKind.i64.wrap ((a:Int)+(b:Int))=((a+b:Nat):Int):=by
 rw[wrap64 (by omega) (by omega)];omega
def yM(u:Int):decide (0<=u)= !decide (u<0):=by by_cases h:u<0<;>simp[h]<;>omega
def HJ{q:Nat}(h:q<4611686018427387904):IntKind.i64.wrap (Int.tdiv (IntKind.i64.wrap (((q+1:Nat):Int)-1)) 2)=((q/2:Nat):Int):=by
 rw[MX h,Int.tdiv_eq_ediv_of_nonneg (by omega),wrap64 (by omega) (by omega)];omega
section
variable{k:Nat}(O:9223372036854775808<=k)
include O
def yk{l:List aq}(hs:ag (.sl aj) l<=1048576):dN k (l,())=some (dp (cn l),()):=by
 have hl:=au (e:=aj) (l:=l);simp only[dN,aO];refine bV (λi:Nat=>(l,(l.take i).flatMap bd,(i:Int),())) l.length (λG i a=> ?_) (λG=> ?_) k 0 (by omega) (by omega);have c:=lp O hs a;have b:=iq O (l.take i);unfold cn at b;have hb1:=jS O (l.getD i aj.aa);have hb2:=dH (e:=aj) l i;have hb3:=au (e:=ab) (l:=(l.take i).flatMap bd);have hb4:=au (e:=ab) (l:=bd (l.getD i aj.aa));simp only[aG,ax a,a,decide_true,if_true,eh];rw[uh O c,cy,an (by simp only[b_];omega),aY (by omega),fK aj.aa a];have b:=iq O l;simp only[aG,atT,decide_false,u_,if_false,atP];show at9 (lW k (cn l,())) _=_;rw[UF O (by omega)];rfl
def sF{l:List aq}(hs:ag (.sl aj) l<=1048576)(c:bL l<20):ig k (l,())=some (dp (cn l),()):=by
 have hl:=au (e:=aj) (l:=l);simp only[ig,aO];refine bV (λi:Nat=>((l.take i).flatMap bd,l,(l.length:Int),(i:Int),())) l.length (λG i b=> ?_) (λG=> ?_) k 0 (by omega) (by omega);have d:=lp O hs b;have f:=iq O (l.take i);unfold cn at f;have hb1:=jS O (l.getD i aj.aa);have hb2:=dH (e:=aj) l i;have hb3:=au (e:=ab) (l:=(l.take i).flatMap bd);have hb4:=au (e:=ab) (l:=bd (l.getD i aj.aa));simp only[aG,ax b,b,decide_true,if_true,eh];rw[tY O d,cy,an (by simp only[b_];omega),aY (by omega),fK aj.aa b];simp only[aG,atT,decide_false,u_,if_false,atP];show at9 (iI k (cn l,())) _=_;simp only[iI,YY,uJ];rw[an ?_];rfl;simp only[atO,b_,List.all_eq_true];refine⟨by first|exact c|exact Nat.lt_trans c (by decide),λa g=> ?_⟩;have f:=iq O l;have hm:=df (e:=ab) g;have d:=bG O a;have h2:=au (e:=al) (l:=a.1);omega
def Um{l:List aq}(hs:ag (.sl aj) l<=1048576):bL l<=1048576:=by
 have h1:=iq O l;have h2:=au (e:=ab) (l:=cn l);unfold bL;omega
def Po{l:List aq}(hs:ag (.sl aj) l<=1048576):sA k (l,())=some ((bL l:Int),()):=by
 have hl:=au (e:=aj) (l:=l);simp only[sA];refine bV (λi:Nat=>(l,((((l.take i).flatMap bd).length:Nat):Int),(i:Int),())) l.length (λG i a=> ?_) (λG=> ?_) k 0 (by omega) (by omega);have d:=lp O hs a;have m:=iq O (l.take i);unfold cn at m;have hb2:=dH (e:=aj) l i;have hb3:=au (e:=ab) (l:=(l.take i).flatMap bd);rw[fK aj.aa a,atS];simp only[aG,a,decide_true,if_true];have n:=d;rw[cM O]at n;have hpl:=au (e:=az) (l:=(l.getD i aj.aa).2.2);refine bV (λj:Nat=>(l,((((l.take i).flatMap bd).length+(((l.getD i aj.aa).2.2.take j).flatMap nW).length:Nat):Int),(i:Int),(j:Int),())) (l.getD i aj.aa).2.2.length (λh j b=> ?_) (λh=> ?_) k 0 (by omega) (by omega);have hc:=oB O (e:=az) (f:=ab) (g:=nW) (λc=>by rw[dj O];exact at1 _) ((l.getD i aj.aa).2.2.take j);have hc1:=dH (e:=az) (l.getD i aj.aa).2.2 j;have hc2:=au (e:=ab) (l:=((l.getD i aj.aa).2.2.take j).flatMap nW);obtain⟨h3,h4⟩:=jj O d b;have hc3:=au (e:=ab) (l:=((l.getD i aj.aa).2.2.getD j az.aa).2);simp only[ax a,ax b,aG,b,decide_true,if_true,eh];rw[ahv (by omega),aY (by omega),fK az.aa b,atS,Nat.add_assoc];simp only[ax a,aG,atT,decide_false,u_,if_false,if_true,eh,atP];rw[aY (by omega)];rfl;simp only[aG,atT,decide_false,u_,if_false,atP];rfl
def NP{l:List aq}(hs:ag (.sl aj) l<=1048576):ry k (l,())=some ((bL l:Int),()):=by
 have hl:=au (e:=aj) (l:=l);simp only[ry];refine bV (λi:Nat=>(((((l.take i).flatMap bd).length:Nat):Int),l,(l.length:Int),(i:Int),())) l.length (λG i a=> ?_) (λG=> ?_) k 0 (by omega) (by omega);have d:=lp O hs a;have m:=iq O (l.take i);unfold cn at m;have hb2:=dH (e:=aj) l i;have hb3:=au (e:=ab) (l:=(l.take i).flatMap bd);rw[fK aj.aa a,atS];simp only[aG,ax a,a,decide_true,if_true,eh];have n:=d;rw[cM O]at n;have hpl:=au (e:=az) (l:=(l.getD i aj.aa).2.2);refine bV (λj:Nat=>(((((l.take i).flatMap bd).length+(((l.getD i aj.aa).2.2.take j).flatMap nW).length:Nat):Int),l.getD i aj.aa,l,(l.length:Int),(i:Int),(l.getD i aj.aa).2.2,((l.getD i aj.aa).2.2.length:Int),(j:Int),())) (l.getD i aj.aa).2.2.length (λh j b=> ?_) (λh=> ?_) k 0 (by omega) (by omega);have hc:=oB O (e:=az) (f:=ab) (g:=nW) (λc=>by rw[dj O];exact at1 _) ((l.getD i aj.aa).2.2.take j);have hc1:=dH (e:=az) (l.getD i aj.aa).2.2 j;have hc2:=au (e:=ab) (l:=((l.getD i aj.aa).2.2.take j).flatMap nW);obtain⟨h3,h4⟩:=jj O d b;have hc3:=au (e:=ab) (l:=((l.getD i aj.aa).2.2.getD j az.aa).2);simp only[ax b,aG,b,decide_true,if_true,eh];rw[ahv (by omega),aY (by omega),fK az.aa b,atS,Nat.add_assoc];simp only[aG,atT,decide_false,u_,if_false,atP];rw[aY (by omega)];rfl;simp only[aG,atT,decide_false,u_,if_false,atP];rfl
theorem uS{p:aq}{f:Int}(hl:p.2.2.length<=1048576):mW k (p,f,())=some (iC (iS p f),()):=by
 simp only[mW];refine(mT (λi:Nat=>(f,p,(i:Int),())) (λi=>decide ((p.2.2.getD i az.aa).1=f)) p.2.2.length (e:=some (-1,())) (λi=>some ((i:Int),())) (λG i a=> ?_) (λG=> ?_) k (by omega)).trans ?_;simp only[aG,ax a,a,decide_true,if_true,eh,cF];rw[aY (by omega)];simp;unfold iS;cases iB p.2.2.length (λi=>decide ((p.2.2.getD i az.aa).1=f))<;>rfl
theorem QC{p:aq}{f:Int}(hl:p.2.2.length<=1048576):rX k (p,f,())=some (iC (iS p f),()):=by
 simp only[rX];refine(mT (λi:Nat=>(f,p,p.2.2,(p.2.2.length:Int),(i:Int),())) (λi=>decide ((p.2.2.getD i az.aa).1=f)) p.2.2.length (e:=some (-1,())) (λi=>some ((i:Int),())) (λG i a=> ?_) (λG=> ?_) k (by omega)).trans ?_;simp only[aG,ax a,a,decide_true,if_true,eh,cF];rw[aY (by omega)];simp;unfold iS;cases iB p.2.2.length (λi=>decide ((p.2.2.getD i az.aa).1=f))<;>rfl
omit O in
theorem BH(i:Nat):decide (iC (some i)<0)=false:=decide_eq_false (by simp only[iC];omega)
omit O in
theorem yL{i n:Nat}(h:i<n):decide (0<=iC (some i)/\iC (some i)<(n:Int))=true:=by simp only[iC];exact ax h
omit O in
theorem EJ(i:Nat):(iC (some i)).toNat=i:=by simp[iC]
def Rz{p:aq}{s:List ai}(hs:ag aj p<=1048576)(f:ag (.sl al) s<=1048576):tB k (p,s,())=some ((iv k p s).1,(iv k p s).2,()):=by
 have a:p.2.2.length<=1048576:=by rw[cM O]at hs;have:=au (e:=az) (l:=p.2.2);omega
 simp only[tB,gA O f,uS O a,cy,iv];cases hc:iS p (dA k s)with
 |none=>rfl
 |some i=>
  obtain⟨b,_,_⟩:=bl.1 hc;obtain⟨h1,h⟩:=jj O hs b;refine(y3 (BH i)).trans ?_;refine(an (yL b)).trans ?_;rw[EJ,vW O h,cy];dsimp only;cases g:jd (p.2.2.getD i az.aa).2 s with
  |none=>rfl
  |some j=>
   obtain⟨c,_,_⟩:=bl.1 g;have h3:=dQ (e:=ab) (d:=ab.aa) c;refine(y3 (BH j)).trans ?_;refine(an (yL b)).trans ?_;refine(an (yL c)).trans ?_;rw[EJ,er O (by omega)];rfl
def QN{p:aq}{s:List ai}(hs:ag aj p<=1048576)(f:ag (.sl al) s<=1048576):tw k (p,s,())=some ((iv k p s).1,(iv k p s).2,()):=by
 have a:p.2.2.length<=1048576:=by rw[cM O]at hs;have:=au (e:=az) (l:=p.2.2);omega
 simp only[tw,ju O f,QC O a,cy,iv];cases hc:iS p (dA k s)with
 |none=>rfl
 |some i=>
  obtain⟨b,_,_⟩:=bl.1 hc;obtain⟨h1,h⟩:=jj O hs b;refine(y3 (BH i)).trans ?_;refine(an (yL b)).trans ?_;rw[EJ,O2 O h,cy];dsimp only;cases g:jd (p.2.2.getD i az.aa).2 s with
  |none=>rfl
  |some j=>
   obtain⟨c,_,_⟩:=bl.1 g;have h3:=dQ (e:=ab) (d:=ab.aa) c;refine(y3 (BH j)).trans ?_;refine(an (yL b)).trans ?_;refine(an (yL c)).trans ?_;rw[EJ,vZ O (by omega)];rfl
def rF{l:List aq}{s:List ai}(a:ag (.sl al) s<=1048576):kB k (l,s,())=some (bO k l s,()):=by
 simp only[kB,gA O a,kY O,cy,bO]
def R6{l:List aq}{s:List ai}(a:ag (.sl al) s<=1048576):tG k (l,s,())=some (bO k l s,()):=by
 simp only[tG,ju O a,nV O,cy,bO]
omit O in
theorem qW{l:List aq}{s:List ai}(h:l.length≠0):0<=bO k l s/\bO k l s<(l.length:Int)/\(bO k l s).toNat<l.length:=by
 have:=E7 (f:=dA k s) (n:=(l.length:Int)) (by omega);unfold bO;omega
def kD{l:List aq}{s:List ai}(hs:ag (.sl aj) l<=1048576)(e:ag (.sl al) s<=1048576):il k (l,s,())=some ((bQ k l s).1,(bQ k l s).2,()):=by
 simp only[il,rF O e,cy,bQ];by_cases d:l.length=0;rw[an (by simpa using d),an d];rfl;obtain⟨a,b,c⟩:=qW (k:=k) (l:=l) (s:=s) d;rw[a_ (by simpa using d),an (by simpa using⟨a,b⟩),Rz O (lp O hs c) e,cy,a_ d]
def sK{l:List aq}{s:List ai}(hs:ag (.sl aj) l<=1048576)(e:ag (.sl al) s<=1048576):jq k (l,s,())=some ((bQ k l s).1,(bQ k l s).2,()):=by
 simp only[jq,R6 O e,cy,bQ];by_cases d:l.length=0;rw[an (by simpa using d),an d];rfl;obtain⟨a,b,c⟩:=qW (k:=k) (l:=l) (s:=s) d;rw[a_ (by simpa using d),an (by simpa using⟨a,b⟩),QN O (lp O hs c) e,cy,a_ d]
theorem Uj(a b:aI):tM k (a,b,())=some (cB a b,()):=by
 simp only[tM,cB,cF];by_cases c:a.1<b.1<;>by_cases d:a.1=b.1<;>simp[c,d]
theorem ji(a b:aI):ky k (a,b,())=some (cB a b,()):=by
 simp only[ky,cB,cF];by_cases c:a.1<b.1<;>by_cases d:a.1=b.1<;>simp[c,d]
def TA{l:List aI}(hl:l.length<=1048576):tf k (l,())=some (mF l,()):=by
 simp only[tf,aO]
 refine(cV (λi:Nat=>(l,l,(l.length:Int),(i:Int),())) (λi=>(decide (0<=(l.getD i aL.aa).1)&&decide (0<=(l.getD i aL.aa).2))&&(i==0|| !cB (l.getD i aL.aa) (l.getD ((i-1)/2) aL.aa))) l.length
  (e:=some (decide (l.length<=16),())) (no:=some (false,())) ?_ ?_ k 0 (by omega)).trans ?_
 intro G i a;cases i with
 |zero=>
  simp only[aG,ax a,a,gtZ,decide_true,if_true,eh,Uj O,cy,cN];rw[aY (by omega)];simp only[yM]
  rcases U_ (decide ((l.getD 0 aL.aa).1<0))with h1|h1<;>rcases U_ (decide ((l.getD 0 aL.aa).2<0))with h2|h2<;>
   simp only[h1,h2,if_true,u_,if_false,beq_self_eq_true,at0,atY,at2,at8,atQ,atV,atX,p_,tbf,fbt,aud,aub]
 |succ q=>
  have c:q/2<l.length:=by omega
  simp only[aG,ax a,ax c,a,Uw,HJ (show q<4611686018427387904 by omega),decide_true,if_true,eh,Uj O,cy,cN,p_,ne_eq,atW];rw[aY (by omega)];have d:((q+1:Nat)==0)=false:=rfl;rw[d];have f:decide (¬(2:Int)=0)=true:=rfl;rw[f];simp only[yM]
  rcases U_ (decide ((l.getD (q+1) aL.aa).1<0))with h1|h1<;>rcases U_ (decide ((l.getD (q+1) aL.aa).2<0))with h2|h2<;>
   rcases U_ (cB (l.getD (q+1) aL.aa) (l.getD (q/2) aL.aa))with h3|h3<;>
   simp only[h1,h2,h3,if_true,u_,if_false,beq_self_eq_true,at0,atY,at2,at8,atQ,atV,atX,p_,Bool.or_false,Bool.false_or,tbf,fbt,aud,aub]
 intro G i a;simp only[aG];rw[a_ (by simp;omega)];congr 2;rw[VG];simp;omega;unfold mF;generalize bF 0 l.length _=b;cases b<;>simp
def Tl{l:List aI}(hl:l.length<=1048576):tI k (l,())=some (mF l,()):=by
 simp only[tI,aO]
 refine(cV (λi:Nat=>(l,(i:Int),())) (λi=>(decide (0<=(l.getD i aL.aa).1)&&decide (0<=(l.getD i aL.aa).2))&&(i==0|| !cB (l.getD i aL.aa) (l.getD ((i-1)/2) aL.aa))) l.length
  (e:=some (decide (l.length<=16),())) (no:=some (false,())) ?_ ?_ k 0 (by omega)).trans ?_
 intro G i a;cases i with
 |zero=>
  simp only[aG,ax a,a,gtZ,decide_true,if_true,eh,ji O,cy,cN,p_];rw[aY (by omega)];simp only[yM]
  rcases U_ (decide ((l.getD 0 aL.aa).1<0))with h1|h1<;>rcases U_ (decide ((l.getD 0 aL.aa).2<0))with h2|h2<;>
   simp only[h1,h2,if_true,u_,if_false,beq_self_eq_true,at0,atY,at2,at8,atQ,atV,atX,p_,tbf,fbt,aud,aub]
 |succ q=>
  have c:q/2<l.length:=by omega
  simp only[aG,ax a,ax c,a,Uw,HJ (show q<4611686018427387904 by omega),decide_true,if_true,eh,ji O,cy,cN,p_,ne_eq,atW];rw[aY (by omega)];have d:((q+1:Nat)==0)=false:=rfl;rw[d];have f:decide (¬(2:Int)=0)=true:=rfl;rw[f];simp only[yM]
  rcases U_ (decide ((l.getD (q+1) aL.aa).1<0))with h1|h1<;>rcases U_ (decide ((l.getD (q+1) aL.aa).2<0))with h2|h2<;>
   rcases U_ (cB (l.getD (q+1) aL.aa) (l.getD (q/2) aL.aa))with h3|h3<;>
   simp only[h1,h2,h3,if_true,u_,if_false,beq_self_eq_true,at0,atY,at2,at8,atQ,atV,atX,p_,Bool.or_false,Bool.false_or,tbf,fbt,aud,aub]
 intro G i a;simp only[aG];rw[a_ (by simp;omega)];congr 2;rw[VG];simp;omega;unfold mF;generalize bF 0 l.length _=b;cases b<;>simp
theorem aad{c:bw}{g:ar}:yF k (c,g,())=some (lP c g,()):=by
 simp only[yF,wC,lP,cF];by_cases h:g.2.2.2.1= -1<;>simp[h]
theorem Kk{c:bw}{g:ar}:uP k (c,g,())=some (lP c g,()):=by
 simp only[uP,wQ,lP,cF];by_cases h:g.2.2.2.1= -1<;>simp[h]
end
def gL(l:List ar)(n:Int):Option Nat:=iB l.length (λi=>decide ((l.getD i ak.aa).1=n))
def aeu:bE:=(0,[],0,[])
def fw(l:List ar)(n M:Int):List ar:=
 match gL l n with
 |none=>l
 |some i=>if(kC (l.getD i ak.aa) M).2.2.2.2=[]then l.take i++l.drop (i+1)else l.set i (kC (l.getD i ak.aa) M)
def ld(l:List ar)(n M:Int):bE:=
 match gL l n with
 |none=>aeu
 |some i=>yV (l.getD i ak.aa) M
def pK(l:List ar)(n:Int):Bool:=(gL l n).isSome
section
variable{k:Nat}(O:9223372036854775808<=k)
include O
def uW{l:List ar}(h:ag (.sl ak) l<=1073741824):jB k (l,())=some (l,()):=
 IT (d:=ak.aa) (S:=jt k) O (v7 (au (e:=ak)) h) (λe a=>EF O (v7 (df (e:=ak) a) h))
def VN{l:List ar}(h:ag (.sl ak) l<=1073741824):sC k (l,())=some (l,()):=
 Ow (d:=ak.aa) (S:=lx k) O (v7 (au (e:=ak)) h) (λe a=>YR O (v7 (df (e:=ak) a) h))
theorem vJ{l:List ar}{n:Int}(h:l.length<=1073741824):kX k (l,n,())=some (iC (gL l n),()):=by
 simp only[kX];refine(mT (λi:Nat=>(l,n,(i:Int),())) (λi=>decide ((l.getD i ak.aa).1=n)) l.length (e:=some (-1,())) (λi=>some ((i:Int),())) (λG i a=> ?_) (λG=> ?_) k (by omega)).trans ?_;simp only[aG,ax a,a,decide_true,if_true,eh];rw[aY (by omega)];by_cases b:(l.getD i ak.aa).1=n<;>simp[b];simp;unfold gL;cases iB l.length (λi=>decide ((l.getD i ak.aa).1=n))<;>rfl
def Nh{l:List ar}{n M:Int}(h:ag (.sl ak) l<=1073741824):re k (l,n,M,())=some (fw l n M,ld l n M,pK l n,()):=by
 have hl:=au (e:=ak) (l:=l);simp only[re];rw[uW O h,cy,vJ O (by omega),cy];unfold fw ld pK;cases b:gL l n with
 |none=>rfl
 |some i=>
  obtain⟨g,_,_⟩:=bl.1 b;have ht:=df (e:=ak) (cY (d:=ak.aa) g);have h1:=dH (e:=ak) l i;have h2:=dH (e:=ak) l (i+1);dsimp only;refine(ak6 (decide_eq_false (by simp only[iC];omega))).trans ?_;refine(an (by simp[iC];omega)).trans ?_;have c:(iC (some i)).toNat=i:=by simp[iC]
  have f:IntKind.i64.wrap (iC (some i)+1)=((i+1:Nat):Int):=aY (by omega);rw[c];rw[VL O (by omega),cy];refine(an (by simp[iC];omega)).trans ?_;by_cases a:(kC (l.getD i ak.aa) M).2.2.2.2=[]
  rw[an (by rw[a];rfl),an a];refine(an (by simp[iC];omega)).trans ?_;rw[uW O (by omega),cy,f];refine(an (by simp;omega)).trans ?_;rw[eh,uW O (by omega),cy,an (by simp;omega)];rfl;rw[a_ (by simpa using a),a_ a];rfl
def ab0{l:List ar}{n M:Int}:ag (.sl ak) (fw l n M)<=ag (.sl ak) l:=by
 unfold fw;cases b:gL l n with
 |none=>exact at1 _
 |some i=>
  obtain⟨d,_,_⟩:=bl.1 b;simp only;split;have c:=dH (e:=ak) l i;have a:=dH (e:=ak) (l.drop i) 1;rw[List.drop_drop]at a;rw[fa];omega;have c:=iT (e:=ak) l i (kC (l.getD i ak.aa) M) d;have a:=adt O (g:=l.getD i ak.aa) (M:=M);omega
def Zt{l:List ar}{n M:Int}:ag cJ (ld l n M)<=ag (.sl ak) l:=by
 unfold ld;cases a:gL l n with
 |none=>simp[aeu,ag]
 |some i=>
  obtain⟨b,_,_⟩:=bl.1 a;have ht:=df (e:=ak) (cY (d:=ak.aa) b);have h2:=abY O (g:=l.getD i ak.aa) (M:=M);simp only;omega
end
end Vg.Tryz
