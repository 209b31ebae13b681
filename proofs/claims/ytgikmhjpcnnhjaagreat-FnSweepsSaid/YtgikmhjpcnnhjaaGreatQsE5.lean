/- Texts of this law, joined. -/
import Derived.Test.YtgikmhjpcnnhjaaGreatQsF
import Derived.Test.YtgikmhjpcnnhjaaGreatVc
set_option linter.unusedSimpArgs false
set_option linter.unusedVariables false
set_option linter.unusedSectionVars false
set_option linter.defProp false
open Option renaming bind_some -> eD,bind -> aIK
open Int renaming toNat_natCast -> m_,toNat -> aIl
open List renaming getD_eq_getElem?_getD -> aId,drop_eq_nil_of_le -> aIe,length -> aIf,length_take -> aIm,length_reverse -> aIn,length_singleton -> aIo,takeWhile_append_dropWhile -> aIp,takeWhile_cons -> aIr,length_cons -> aIv,filter_cons_of_pos -> aIw,filter_cons_of_neg -> aIx,getD -> aIy,length_nil -> aIz,takeWhile_sublist -> aIA,length_filter_le -> aIB,getD_cons_succ -> aIE,take -> aIG,length_append -> aIH,append_assoc -> aIJ,take_length -> aIM,foldl_cons -> aIN,takeWhile -> aIO
open Bool renaming or_true -> aIg,false_eq_true -> aIi,eq_iff_iff -> aIj,and_eq_true -> aIk,not_false -> aIs,not_true -> aIC,true_or -> aIF,eq_false_iff -> aII
open Nat renaming le_trans -> aIh,xor_lt_two_pow -> aIt,add_sub_cancel -> aIu,le_refl -> aIL
open List.cons renaming injEq -> aIq
open Array renaming toList_append -> aID
open Go.Proofs.Tryz
namespace Vg.Tryz
open Go Vg Go.Proofs
set_option maxRecDepth 1000000
def Jx:aO:=fun|4=>some ⟨[(2,.box 4 aj zC),(3,.box 5 ab qo),(4,.box 6 aj Ev),(5,.box 7 aj DO),(6,.box 10 ab Ya),(7,.val aq .leaf)],12⟩|10=>some ⟨[(2,.box 4 aj zC),(3,.box 5 ab qo),(4,.box 6 aj Ev),(5,.box 7 aj DO),(6,.box 10 ab Ya),(8,.val aq .leaf)],12⟩|_=>none
def JS:aO:=fun|9=>some ⟨[(2,.box 4 aj zC),(3,.box 5 ab qo),(4,.box 6 aj Ev),(5,.box 7 aj DO),(6,.box 10 ab Ya)],12⟩|12=>some ⟨[(2,.box 4 aj zC),(3,.box 5 ab qo),(4,.box 6 aj Ev),(5,.box 7 aj DO),(6,.box 10 ab Ya),(8,.val aq .leaf)],12⟩|_=>none
section
variable(k:Nat)
def yS:aI:=(359,⟨[.val aj HN,.val ab fU],[.val aj aiH],lF k,[]⟩)::(vA k)
def LY:aG prog (yS k):=aK (Kf k) Jx JS k func359 (by kernel_rfl) (fun x=>by kernel_rfl)
def xf:aI:=(312,⟨[.val (.sl aj) .shr,.val ab fU,.val (.sl .str) .shr,.val aq .leaf,.val aq .leaf],[.val (.sl aj) .own,.val .bool .leaf],ku k,[]⟩)::(yS k)
def JV:aG prog (xf k):=aK (LY k) nA nA k func312 (by kernel_rfl) (fun x=>by kernel_rfl)
def Gl:aO:=fun|2=>some ⟨[(0,.val (.sl aj) bu),(1,.val aq .leaf),(5,.val aq .leaf)],4⟩|_=>none
def wX:aI:=(360,⟨[.val (.sl aj) .shr,.val aq .leaf],[.val aq .leaf],iv k,[]⟩)::(xf k)
def JR:aG prog (wX k):=aK (JV k) Gl nA k func360 (by kernel_rfl) (fun x=>by kernel_rfl)
def wa:aI:=(297,⟨[.val aj HN,.val aq .leaf,.val aq .leaf],[.val aq .leaf],qF k,[]⟩)::(wX k)
def IX:aG prog (wa k):=aK (JR k) nA nA k func297 (by kernel_rfl) (fun x=>by kernel_rfl)
def Hl:aI:=(190,⟨[.val cM sE,.val aj HN],[.val aq .leaf],pF k,[]⟩)::(wa k)
def Qk:aG prog (Hl k):=aK (IX k) nA nA k func190 (by kernel_rfl) (fun x=>by kernel_rfl)
def yg:aI:=(296,⟨[.val aD MH,.val aD MH],[.val .bool .leaf],gR k,[]⟩)::(Hl k)
def K0:aG prog (yg k):=aK (Qk k) nA nA k func296 (by kernel_rfl) (fun x=>by kernel_rfl)
def Gt:aO:=fun|3=>some ⟨[(3,.box 4 aD Km),(5,.val (.sl aD) yb),(6,.val aq .leaf)],6⟩|_=>none
def vF:aI:=(348,⟨[.val (.sl aD) .shr,.val aD MH],[.val (.sl aD) .own],kt k,[]⟩)::(yg k)
def HZ:aG prog (vF k):=aK (K0 k) Gt nA k func348 (by kernel_rfl) (fun x=>by kernel_rfl)
def y4:aI:=(313,⟨[.io az gi,.val aq .leaf],[],lK k,[(0,(nu 14 12))]⟩)::(vF k)
def Lh:aG prog (y4 k):=aK (HZ k) nA nA k func313 (by kernel_rfl) (fun x=>by kernel_rfl)
def wR:aI:=(224,⟨[.io az gi],[],nc k,[]⟩)::(y4 k)
def IS:aG prog (wR k):=aK (Lh k) nA nA k func224 (by kernel_rfl) (fun x=>by kernel_rfl)
def zw:aO:=fun|11=>some ⟨[(0,.box 4 az bX),(3,.val .bool .leaf)],14⟩|_=>none
def rk:aI:=(118,⟨[.io az gi],[.val .bool .leaf],iH k,[]⟩)::(wR k)
def zJ:aG prog (rk k):=aK (IS k) nA zw k func118 (by kernel_rfl) (fun x=>by kernel_rfl)
def Eo:aO:=fun|8=>some ⟨[(0,.val (.sl aD) bu),(3,.box 4 aD Km),(5,.val aq .leaf),(6,.val (.sl aD) yb),(7,.val aq .leaf)],6⟩|_=>none
def Eh:aO:=fun|7=>some ⟨[(0,.val (.sl aD) bu),(3,.box 4 aD Km),(5,.val aq .leaf),(6,.val (.sl aD) yb)],6⟩|12=>some ⟨[(0,.val (.sl aD) bu),(3,.box 4 aD Km),(5,.val aq .leaf),(6,.val (.sl aD) yb),(7,.val aq .leaf),(8,.val aq .leaf)],6⟩|17=>some ⟨[(0,.val (.sl aD) bu),(3,.box 4 aD Km),(6,.val (.sl aD) yb)],6⟩|_=>none
def uV:aI:=(382,⟨[.val (.sl aD) .shr],[.val (.sl aD) .own,.val aD MH,.val .bool .leaf],mo k,[]⟩)::(rk k)
def Hm:aG prog (uV k):=aK (zJ k) Eo Eh k func382 (by kernel_rfl) (fun x=>by kernel_rfl)
def Mu:aO:=fun|5=>some ⟨[(1,.val aq .leaf),(2,.box 4 aj zC),(4,.box 5 aj Ev),(5,.box 6 bM (.pair .leaf YH)),(6,.box 7 aj DO),(7,.val aq .leaf)],10⟩|_=>none
def LB:aO:=fun|10=>some ⟨[(1,.val aq .leaf),(2,.box 4 aj zC),(4,.box 5 aj Ev),(5,.box 6 bM (.pair .leaf YH)),(6,.box 7 aj DO)],10⟩|_=>none
def Ad:aI:=(393,⟨[.val aj HN,.val aq .leaf],[.val aj aiH,.val bM UO],pQ k,[]⟩)::(uV k)
def Of:aG prog (Ad k):=aK (Hm k) Mu LB k func393 (by kernel_rfl) (fun x=>by kernel_rfl)
def xm:aI:=(390,⟨[.val (.sl aj) .shr,.val aq .leaf,.val aq .leaf],[.val (.sl aj) .own,.val bM UO,.val .bool .leaf],nf k,[]⟩)::(Ad k)
def Ix:aG prog (xm k):=aK (Of k) nA nA k func390 (by kernel_rfl) (fun x=>by kernel_rfl)
def uQ:aI:=(383,⟨[.io az gi],[],mb k,[]⟩)::(xm k)
def FC:aG prog (uQ k):=aK (Ix k) nA nA k func383 (by kernel_rfl) (fun x=>by kernel_rfl)
def xS:aO:=fun|11=>some ⟨[(0,.box 4 az bX),(3,.val .bool .leaf)],14⟩|_=>none
def qm:aI:=(366,⟨[.io az gi],[.val .bool .leaf],iT k,[]⟩)::(uQ k)
def zy:aG prog (qm k):=aK (FC k) nA xS k func366 (by kernel_rfl) (fun x=>by kernel_rfl)
def Mt:aO:=fun|9=>some ⟨[(0,.box 4 az Oy),(1,.val aq .leaf)],14⟩|_=>none
def Ao:aI:=(321,⟨[.io az gi,.val aq .leaf],[.val .bool .leaf],mP k,[]⟩)::(qm k)
def Nr:aG prog (Ao k):=aK (zy k) nA Mt k func321 (by kernel_rfl) (fun x=>by kernel_rfl)
def CG:aI:=(322,⟨[.val aU SH],[.val aU Xt,.val ab so,.val aq .leaf],lN k,[]⟩)::(Ao k)
def Pd:aG prog (CG k):=aK (Nr k) nA nA k func322 (by kernel_rfl) (fun x=>by kernel_rfl)
def LN:aO:=fun|18=>some ⟨[(0,.box 4 az Oy),(3,.box 14 jY lS),(5,.val .bool .leaf),(6,.val aq .leaf)],15⟩|40=>some ⟨[(0,.box 4 az bX),(3,.box 14 jY lS)],15⟩|_=>none
def Aw:aI:=(253,⟨[.io az gi,.val jY apx],[.val .bool .leaf],pq k,[]⟩)::(CG k)
def Nq:aG prog (Aw k):=aK (Pd k) nA LN k func253 (by kernel_rfl) (fun x=>by kernel_rfl)
def IE:aO:=fun|5=>some ⟨[(0,.box 4 bp gX),(4,.box 5 az n9),(6,.box 6 az n9),(7,.val (.sl jY) (.sl (.row 7 [2] false))),(8,.box 8 az PR),(9,.box 19 az VZ),(10,.val aq .leaf)],29⟩|_=>none
def IL:aO:=fun|12=>some ⟨[(0,.box 4 bp gX),(4,.box 5 az n9),(6,.box 6 az n9),(7,.val (.sl jY) (.sl (.row 7 [2] false))),(8,.box 8 az PR),(9,.box 19 az VZ)],29⟩|_=>none
def y9:aI:=(150,⟨[.io bp pD,.val aq .leaf],[.val az Jw,.val (.sl jY) .hd,.val az gi],mY k,[]⟩)::(Aw k)
def L7:aG prog (y9 k):=aK (Nq k) IE IL k func150 (by kernel_rfl) (fun x=>by kernel_rfl)
def uc:aI:=(75,⟨[.io bp pD,.val aq .leaf],[.val az gi],km k,[]⟩)::(y9 k)
def ET:aG prog (uc k):=aK (L7 k) nA nA k func75 (by kernel_rfl) (fun x=>by kernel_rfl)
def Am:aI:=(171,⟨[.io bp pD],[.val (.sl .str) .own],pM k,[]⟩)::(uc k)
def NZ:aG prog (Am k):=aK (ET k) nA nA k func171 (by kernel_rfl) (fun x=>by kernel_rfl)
def yR:aI:=(88,⟨[.io bp pD],[.val cM OE],nY k,[]⟩)::(Am k)
def Lc:aG prog (yR k):=aK (NZ k) nA nA k func88 (by kernel_rfl) (fun x=>by kernel_rfl)
def JD:aO:=fun|3=>some ⟨[(0,.box 4 bp gX),(3,.val (.sl ah) (.sl (.row 5 [5] false))),(4,.val aq .leaf)],6⟩|_=>none
def yJ:aI:=(274,⟨[.io bp pD],[.val (.sl ah) .pv],oG k,[]⟩)::(yR k)
def K1:aG prog (yJ k):=aK (Lc k) JD nA k func274 (by kernel_rfl) (fun x=>by kernel_rfl)
def ID:aO:=fun|3=>some ⟨[(0,.box 4 bp gX),(1,.val aq .leaf),(2,.val aq .leaf),(6,.box 5 ah nX),(7,.box 6 ah (.pair .leaf (.pair .leaf (.sl (.row 7 [7] false))))),(8,.val aq .leaf)],8⟩|_=>none
def za:aI:=(343,⟨[.io bp pD,.val aq .leaf,.val aq .leaf],[.val ah an9],oR k,[]⟩)::(yJ k)
def Lo:aG prog (za k):=aK (K1 k) ID nA k func343 (by kernel_rfl) (fun x=>by kernel_rfl)
def HH:aO:=fun|4=>some ⟨[(0,.box 4 bp gX),(2,.box 5 ax Rc),(3,.box 6 ab WV),(4,.box 8 ax (.pair .leaf CO)),(5,.val aq .leaf)],10⟩|_=>none
def yf:aI:=(373,⟨[.io bp pD],[.val ax CN],oB k,[]⟩)::(za k)
def Lq:aG prog (yf k):=aK (Lo k) HH nA k func373 (by kernel_rfl) (fun x=>by kernel_rfl)
def Ah:aI:=(344,⟨[.io bp pD],[.val ax CN],pZ k,[]⟩)::(yf k)
def Np:aG prog (Ah k):=aK (Lq k) nA nA k func344 (by kernel_rfl) (fun x=>by kernel_rfl)
def AJ:aI:=(275,⟨[.io bp pD,.val aq .leaf,.val aq .leaf],[.val ah an9],pH k,[]⟩)::(Ah k)
def NO:aG prog (AJ k):=aK (Np k) nA nA k func275 (by kernel_rfl) (fun x=>by kernel_rfl)
def AZ:aI:=(164,⟨[.io bp pD],[.val (.sl ah) .pv],pL k,[]⟩)::(AJ k)
def Ng:aG prog (AZ k):=aK (NO k) nA nA k func164 (by kernel_rfl) (fun x=>by kernel_rfl)
def JL:aO:=fun|3=>some ⟨[(0,.box 4 bp gX),(2,.box 5 aU (.pair jW .leaf)),(3,.box 6 aU (.pair ir .leaf)),(4,.val aq .leaf)],8⟩|_=>none
def yA:aI:=(276,⟨[.io bp pD],[.val aU Xt],oH k,[]⟩)::(AZ k)
def K2:aG prog (yA k):=aK (Ng k) JL nA k func276 (by kernel_rfl) (fun x=>by kernel_rfl)
def Ar:aI:=(165,⟨[.io bp pD],[.val aU Xt],pO k,[]⟩)::(yA k)
def NJ:aG prog (Ar k):=aK (K2 k) nA nA k func165 (by kernel_rfl) (fun x=>by kernel_rfl)
def Hg:aO:=fun|4=>some ⟨[(0,.box 4 bp gX),(1,.val (.sl .str) bu),(5,.val (.sl aj) C3),(6,.val aq .leaf),(7,.val aq .leaf)],6⟩|_=>none
def wx:aI:=(277,⟨[.io bp pD,.val (.sl .str) .shr],[.val (.sl aj) .own],nz k,[]⟩)::(Ar k)
def H9:aG prog (wx k):=aK (NJ k) Hg nA k func277 (by kernel_rfl) (fun x=>by kernel_rfl)
def uM:aI:=(374,⟨[.val ab fU,.val ab fU,.val (.sl .str) .shr],[.val .bool .leaf],mf k,[]⟩)::(wx k)
def GU:aG prog (uM k):=aK (H9 k) nA nA k func374 (by kernel_rfl) (fun x=>by kernel_rfl)
def Fk:aO:=fun|4=>some ⟨[(0,.box 4 bp gX),(1,.val (.sl .str) bu),(4,.box 5 aj Ev),(5,.box 6 ab WV),(6,.box 8 aj nQ),(7,.val aq .leaf)],11⟩|_=>none
def Gb:aO:=fun|10=>some ⟨[(0,.box 4 bp gX),(4,.box 5 aj Ev),(5,.box 6 ab WV),(6,.box 8 aj nQ)],11⟩|_=>none
def vG:aI:=(347,⟨[.io bp pD,.val (.sl .str) .shr],[.val aj aiH],ns k,[]⟩)::(uM k)
def Ir:aG prog (vG k):=aK (GU k) Fk Gb k func347 (by kernel_rfl) (fun x=>by kernel_rfl)
def ym:aI:=(278,⟨[.io bp pD,.val (.sl .str) .shr],[.val aj aiH],lG k,[]⟩)::(vG k)
def Lm:aG prog (ym k):=aK (Ir k) nA nA k func278 (by kernel_rfl) (fun x=>by kernel_rfl)
def zg:aI:=(166,⟨[.io bp pD,.val (.sl .str) .shr],[.val (.sl aj) .own],oA k,[]⟩)::(ym k)
def LX:aG prog (zg k):=aK (Lm k) nA nA k func166 (by kernel_rfl) (fun x=>by kernel_rfl)
def ud:aI:=(280,⟨[.io bp pD],[.val aD MH],jB k,[]⟩)::(zg k)
def Ge:aG prog (ud k):=aK (LX k) nA nA k func280 (by kernel_rfl) (fun x=>by kernel_rfl)
def Gg:aO:=fun|3=>some ⟨[(0,.box 4 bp gX),(3,.val (.sl aD) C3),(4,.val aq .leaf)],6⟩|_=>none
def xp:aI:=(279,⟨[.io bp pD],[.val (.sl aD) .own],qz k,[]⟩)::(ud k)
def IV:aG prog (xp k):=aK (Ge k) Gg nA k func279 (by kernel_rfl) (fun x=>by kernel_rfl)
def IK:aO:=fun|8=>some ⟨[(0,.box 4 bp gX),(3,.val (.sl aD) C3)],6⟩|_=>none
def ze:aI:=(167,⟨[.io bp pD],[.val (.sl aD) .own],oN k,[]⟩)::(xp k)
def L9:aG prog (ze k):=aK (IV k) IK nA k func167 (by kernel_rfl) (fun x=>by kernel_rfl)
def JM:aO:=fun|3=>some ⟨[(0,.box 4 bp gX),(3,.val (.sl ab) C3),(4,.val aq .leaf)],6⟩|_=>none
def yG:aI:=(142,⟨[.io bp pD],[.val (.sl ab) .own],kO k,[]⟩)::(ze k)
def Le:aG prog (yG k):=aK (L9 k) JM nA k func142 (by kernel_rfl) (fun x=>by kernel_rfl)
def Im:aO:=fun|12=>some ⟨[(0,.box 4 bp gX),(2,.box 5 ak Dd),(3,.box 6 ak Re)],8⟩|_=>none
def Jm:aO:=fun|14=>some ⟨[(0,.box 4 bp gX),(2,.box 5 ak Dd),(3,.box 6 ak Re)],8⟩|24=>some ⟨[(0,.box 4 bp gX),(2,.box 5 ak Dd),(3,.box 6 ak PS)],11⟩|26=>some ⟨[(0,.box 4 bp gX),(2,.box 5 ak Dd),(3,.box 6 ak PS)],11⟩|_=>none
def yV:aI:=(168,⟨[.io bp pD],[.val ak Pr],ov k,[]⟩)::(yG k)
def KX:aG prog (yV k):=aK (Le k) Im Jm k func168 (by kernel_rfl) (fun x=>by kernel_rfl)
def tW:aI:=(179,⟨[.val aq .leaf],[.val (.sl aq) .own],ju k,[]⟩)::(yV k)
def FU:aG prog (tW k):=aK (KX k) nA nA k func179 (by kernel_rfl) (fun x=>by kernel_rfl)
def IJ:aO:=fun|7=>some ⟨[(0,.box 4 bp gX),(2,.box 5 aw KS),(3,.box 6 aw KS)],7⟩|10=>some ⟨[(0,.box 4 bp gX),(2,.box 5 aw KS),(3,.box 6 aw (.pair .leaf (.pair .leaf (.pair WV T1))))],8⟩|12=>some ⟨[(0,.box 4 bp gX),(2,.box 5 aw KS),(3,.box 6 aw (.pair .leaf (.pair .leaf (.pair WV (.pair jW (.pair .leaf (.pair .leaf (.pair .leaf (.pair qI aae)))))))))],9⟩|_=>none
def yU:aI:=(169,⟨[.io bp pD],[.val aw zl],oy k,[]⟩)::(tW k)
def LH:aG prog (yU k):=aK (FU k) nA IJ k func169 (by kernel_rfl) (fun x=>by kernel_rfl)
def zh:aI:=(87,⟨[.io bp pD,.val aq .leaf],[.val az nR],mJ k,[]⟩)::(yU k)
def Ms:aG prog (zh k):=aK (LH k) nA nA k func87 (by kernel_rfl) (fun x=>by kernel_rfl)
def Jj:aO:=fun|2=>some ⟨[(0,.val (.sl aq) bu),(1,.val aq .leaf),(5,.val aq .leaf)],4⟩|_=>none
def yr:aI:=(178,⟨[.val (.sl aq) .shr,.val aq .leaf],[.val .bool .leaf],lW k,[]⟩)::(zh k)
def Mo:aG prog (yr k):=aK (Ms k) Jj nA k func178 (by kernel_rfl) (fun x=>by kernel_rfl)
def Wz:aO:=fun|3=>some ⟨[(0,.box 4 bp gX),(2,.val (.sl aq) bu),(4,.box 5 az cX),(7,.val aq .leaf),(8,.val aq .leaf)],6⟩|_=>none
def WL:aO:=fun|8=>some ⟨[(0,.box 4 bp gX),(4,.box 5 az cX),(7,.val aq .leaf)],6⟩|_=>none
def SU:aI:=(121,⟨[.io bp pD,.val az nR,.val (.sl aq) .shr],[.val aq .leaf],JH k,[]⟩)::(yr k)
def Xs:aG prog (SU k):=aK (Mo k) Wz WL k func121 (by kernel_rfl) (fun x=>by kernel_rfl)
def GA:aO:=fun|2=>some ⟨[(1,.box 4 ax Ox),(3,.val aq .leaf)],5⟩|7=>some ⟨[(1,.box 4 ax Ox),(3,.val aq .leaf),(4,.val aq .leaf)],5⟩|_=>none
def Gu:aO:=fun|11=>some ⟨[(1,.box 4 ax Ox)],5⟩|_=>none
def wI:aI:=(349,⟨[.val ax xF],[.val .bool .leaf],ny k,[]⟩)::(SU k)
def IW:aG prog (wI k):=aK (Xs k) GA Gu k func349 (by kernel_rfl) (fun x=>by kernel_rfl)
def Ke:aO:=fun|2=>some ⟨[(1,.val aq .leaf),(2,.val aq .leaf),(3,.box 4 ah h6),(7,.val aq .leaf)],5⟩|_=>none
def Ju:aO:=fun|6=>some ⟨[(3,.box 4 ah h6)],5⟩|_=>none
def yN:aI:=(284,⟨[.val ah xN,.val aq .leaf,.val aq .leaf],[.val .bool .leaf],oL k,[]⟩)::(wI k)
def Mc:aG prog (yN k):=aK (IW k) Ke Ju k func284 (by kernel_rfl) (fun x=>by kernel_rfl)
def GW:aO:=fun|2=>some ⟨[(0,.val (.sl ah) bu),(3,.val aq .leaf)],4⟩|_=>none
def E4:aO:=fun|6=>some ⟨[(0,.val (.sl ah) bu)],4⟩|_=>none
def vX:aI:=(174,⟨[.val (.sl ah) .shr],[.val .bool .leaf],nN k,[]⟩)::(yN k)
def Jg:aG prog (vX k):=aK (Mc k) GW E4 k func174 (by kernel_rfl) (fun x=>by kernel_rfl)
def DJ:aO:=fun|5=>some ⟨[(1,.box 4 az cX),(3,.val (.sl ab) Bt),(4,.val aq .leaf)],6⟩|_=>none
def Er:aO:=fun|9=>some ⟨[(1,.box 4 az cX),(3,.val (.sl ab) Bt)],6⟩|_=>none
def uZ:aI:=(94,⟨[.val az nR],[.val .bool .leaf],mr k,[]⟩)::(vX k)
def Gy:aG prog (uZ k):=aK (Jg k) DJ Er k func94 (by kernel_rfl) (fun x=>by kernel_rfl)
def Je:aO:=fun|2=>some ⟨[(0,.val (.sl ab) bu),(3,.val aq .leaf)],4⟩|_=>none
def yF:aI:=(95,⟨[.val (.sl ab) .shr],[.val .bool .leaf],jj k,[]⟩)::(uZ k)
def Ln:aG prog (yF k):=aK (Gy k) Je nA k func95 (by kernel_rfl) (fun x=>by kernel_rfl)
end
def Mh:aO:=fun|2=>some ⟨[(1,.box 4 aU (.pair bu .leaf)),(3,.val aq .leaf)],5⟩|_=>none
def L6:aO:=fun|6=>some ⟨[(1,.box 4 aU (.pair bu .leaf))],5⟩|_=>none
section
variable(k:Nat)
def AQ:aI:=(96,⟨[.val aU SH],[.val .bool .leaf],pT k,[]⟩)::(yF k)
def Nx:aG prog (AQ k):=aK (Ln k) Mh L6 k func96 (by kernel_rfl) (fun x=>by kernel_rfl)
def y3:aI:=(97,⟨[.val aw qK],[.val .bool .leaf],oI k,[]⟩)::(AQ k)
def LF:aG prog (y3 k):=aK (Nx k) nA nA k func97 (by kernel_rfl) (fun x=>by kernel_rfl)
def sY:aI:=(183,⟨[.val ab fU,.val ab fU],[.val .bool .leaf],dJ k,[]⟩)::(y3 k)
def CZ:aG prog (sY k):=aK (LF k) nA nA k func183 (by kernel_rfl) (fun x=>by kernel_rfl)
def vR:aI:=(288,⟨[.val ab fU],[.val .bool .leaf],fX k,[]⟩)::(sY k)
def Jc:aG prog (vR k):=aK (CZ k) nA nA k func288 (by kernel_rfl) (fun x=>by kernel_rfl)
def E6:aO:=fun|2=>some ⟨[(1,.box 4 ak qL),(3,.val aq .leaf)],5⟩|_=>none
def Fe:aO:=fun|6=>some ⟨[(1,.box 4 ak qL)],5⟩|_=>none
def wv:aI:=(289,⟨[.val ak rm],[.val .bool .leaf],ni k,[]⟩)::(vR k)
def Ji:aG prog (wv k):=aK (Jc k) E6 Fe k func289 (by kernel_rfl) (fun x=>by kernel_rfl)
def yE:aI:=(180,⟨[.val ak rm,.val aq .leaf],[.val .bool .leaf],oK k,[]⟩)::(wv k)
def K7:aG prog (yE k):=aK (Ji k) nA nA k func180 (by kernel_rfl) (fun x=>by kernel_rfl)
def JU:aO:=fun|4=>some ⟨[(0,.val (.sl ab) bu),(1,.val (.sl ab) bu),(5,.val aq .leaf)],4⟩|_=>none
def yu:aI:=(292,⟨[.val (.sl ab) .shr,.val (.sl ab) .shr],[.val .bool .leaf],oO k,[]⟩)::(yE k)
def Mj:aG prog (yu k):=aK (K7 k) JU nA k func292 (by kernel_rfl) (fun x=>by kernel_rfl)
def Ft:aO:=fun|4=>some ⟨[(2,.box 4 az cX),(3,.box 5 ak qL),(5,.val (.sl ab) Um),(6,.val .bool .leaf),(7,.val aq .leaf)],7⟩|_=>none
def FM:aO:=fun|10=>some ⟨[(2,.box 4 az cX),(3,.box 5 ak qL),(5,.val (.sl ab) Um),(6,.val .bool .leaf)],7⟩|_=>none
def wh:aI:=(185,⟨[.val az nR,.val ak rm],[.val .bool .leaf],fZ k,[]⟩)::(yu k)
def Iy:aG prog (wh k):=aK (Mj k) Ft FM k func185 (by kernel_rfl) (fun x=>by kernel_rfl)
def F9:aO:=fun|26=>some ⟨[(2,.box 4 az cX),(5,.box 5 ak (.pair .leaf (.pair .leaf (.pair aoj (.pair Cd (.pair .leaf (.pair Cd (.pair Cd Km)))))))),(6,.box 6 aw (.pair .leaf (.pair .leaf (.pair aoj (.pair Cd (.pair .leaf (.pair .leaf (.pair .leaf (.pair Cd aae)))))))))],7⟩|_=>none
def wS:aI:=(98,⟨[.val az nR,.val aq .leaf],[.val .bool .leaf],nm k,[]⟩)::(wh k)
def Ij:aG prog (wS k):=aK (Iy k) nA F9 k func98 (by kernel_rfl) (fun x=>by kernel_rfl)
def sX:aI:=(186,⟨[.val ak rm,.val aq .leaf],[.val aq .leaf],lr k,[]⟩)::(wS k)
def Eg:aG prog (sX k):=aK (Ij k) nA nA k func186 (by kernel_rfl) (fun x=>by kernel_rfl)
def rf:aI:=(187,⟨[.val ak rm],[.val .bool .leaf],jm k,[]⟩)::(sX k)
def Ai:aG prog (rf k):=aK (Eg k) nA nA k func187 (by kernel_rfl) (fun x=>by kernel_rfl)
def DH:aO:=fun|3=>some ⟨[(1,.box 4 az cX),(3,.val (.sl aq) yb),(4,.val aq .leaf)],6⟩|8=>some ⟨[(1,.box 4 az cX),(3,.val (.sl aq) yb),(5,.val aq .leaf),(6,.val aq .leaf)],6⟩|20=>some ⟨[(1,.box 4 az cX),(3,.val (.sl aq) yb),(5,.val aq .leaf),(8,.val aq .leaf)],6⟩|_=>none
def Dv:aO:=fun|6=>some ⟨[(1,.box 4 az cX),(3,.val (.sl aq) yb)],6⟩|15=>some ⟨[(1,.box 4 az cX),(3,.val (.sl aq) yb),(5,.val aq .leaf),(6,.val aq .leaf)],6⟩|19=>some ⟨[(1,.box 4 az cX),(3,.val (.sl aq) yb),(5,.val aq .leaf)],6⟩|24=>some ⟨[(1,.box 4 az cX),(5,.val aq .leaf)],5⟩|_=>none
def uY:aI:=(99,⟨[.val az nR],[.val .bool .leaf],jD k,[]⟩)::(rf k)
def FQ:aG prog (uY k):=aK (Ai k) DH Dv k func99 (by kernel_rfl) (fun x=>by kernel_rfl)
def GG:aO:=fun|2=>some ⟨[(1,.val (.sl .str) bu),(2,.box 4 aj zC),(5,.val aq .leaf)],5⟩|_=>none
def E8:aO:=fun|6=>some ⟨[(2,.box 4 aj zC)],5⟩|_=>none
def vY:aI:=(295,⟨[.val aj HN,.val (.sl .str) .shr],[.val .bool .leaf],na k,[]⟩)::(uY k)
def Ip:aG prog (vY k):=aK (FQ k) GG E8 k func295 (by kernel_rfl) (fun x=>by kernel_rfl)
def CY:aO:=fun|2=>some ⟨[(0,.val (.sl aj) bu),(1,.val (.sl .str) bu),(5,.val aq .leaf)],4⟩|7=>some ⟨[(0,.val (.sl aj) bu),(1,.val (.sl .str) bu),(5,.val aq .leaf),(6,.val aq .leaf)],4⟩|_=>none
def DI:aO:=fun|11=>some ⟨[(0,.val (.sl aj) bu)],4⟩|_=>none
def uT:aI:=(188,⟨[.val (.sl aj) .shr,.val (.sl .str) .shr],[.val .bool .leaf],lZ k,[]⟩)::(vY k)
def F3:aG prog (uT k):=aK (Ip k) CY DI k func188 (by kernel_rfl) (fun x=>by kernel_rfl)
def Jr:aO:=fun|2=>some ⟨[(0,.val (.sl aD) bu),(3,.val aq .leaf)],4⟩|_=>none
def HQ:aO:=fun|6=>some ⟨[(0,.val (.sl aD) bu)],4⟩|_=>none
def yn:aI:=(189,⟨[.val (.sl aD) .shr],[.val .bool .leaf],oJ k,[]⟩)::(uT k)
def Ls:aG prog (yn k):=aK (F3 k) Jr HQ k func189 (by kernel_rfl) (fun x=>by kernel_rfl)
def BN:aO:=fun|4=>some ⟨[(1,.box 4 az cX),(3,.val aq .leaf)],5⟩|9=>some ⟨[(1,.box 4 az cX),(3,.val aq .leaf),(4,.val aq .leaf)],5⟩|14=>some ⟨[(1,.box 4 az cX),(5,.val aq .leaf)],5⟩|19=>some ⟨[(1,.box 4 az cX),(5,.val aq .leaf),(6,.box 5 aj SZ),(7,.val .bool .leaf),(8,.val aq .leaf)],6⟩|_=>none
def BV:aO:=fun|13=>some ⟨[(1,.box 4 az cX)],5⟩|22=>some ⟨[(1,.box 4 az cX),(5,.val aq .leaf),(6,.box 5 aj SZ),(7,.val .bool .leaf)],6⟩|_=>none
def sS:aI:=(100,⟨[.val az nR],[.val .bool .leaf],iL k,[]⟩)::(yn k)
def DV:aG prog (sS k):=aK (Ls k) BN BV k func100 (by kernel_rfl) (fun x=>by kernel_rfl)
def Fz:aO:=fun|4=>some ⟨[(1,.box 4 az cX),(3,.val aq .leaf)],5⟩|9=>some ⟨[(1,.box 4 az cX),(4,.val aq .leaf)],5⟩|15=>some ⟨[(1,.box 4 az cX),(6,.val aq .leaf)],5⟩|_=>none
def FA:aO:=fun|8=>some ⟨[(1,.box 4 az cX)],5⟩|14=>some ⟨[(1,.box 4 az cX)],5⟩|19=>some ⟨[(1,.box 4 az cX)],5⟩|_=>none
def wb:aI:=(25,⟨[.val az nR],[.val .bool .leaf],lT k,[]⟩)::(sS k)
def I5:aG prog (wb k):=aK (DV k) Fz FA k func25 (by kernel_rfl) (fun x=>by kernel_rfl)
def aaj:aI:=(138,⟨[.val az nR,.val jY apx],[.val az gi,.val .bool .leaf],OC k,[]⟩)::(wb k)
def ah0:aG prog (aaj k):=aK (I5 k) nA nA k func138 (by kernel_rfl) (fun x=>by kernel_rfl)
def W3:aI:=(61,⟨[.val (.sl (.int .u8)) .rom],[.val az nR,.val aq .leaf],Qc k,[]⟩)::(aaj k)
def abp:aG prog (W3 k):=aK (ah0 k) nA nA k func61 (by kernel_rfl) (fun x=>by kernel_rfl)
def uf:aI:=(89,⟨[.val cM sE],[.val cM OE],mc k,[]⟩)::(W3 k)
def ES:aG prog (uf k):=aK (abp k) nA nA k func89 (by kernel_rfl) (fun x=>by kernel_rfl)
def we:aI:=(244,⟨[.val (.sl al) .shr],[.val (.sl al) .own],fP k,[]⟩)::(uf k)
def J0:aG prog (we k):=aK (ES k) nA nA k func244 (by kernel_rfl) (fun x=>by kernel_rfl)
def sU:aI:=(144,⟨[.val ab fU],[.val ab so],c9 k,[]⟩)::(we k)
def Ek:aG prog (sU k):=aK (J0 k) nA nA k func144 (by kernel_rfl) (fun x=>by kernel_rfl)
def zU:aO:=fun|3=>some ⟨[(3,.val (.sl ab) Ow),(6,.val (.sl ab) bu),(7,.val aq .leaf),(8,.val aq .leaf)],5⟩|_=>none
def rK:aI:=(147,⟨[.val (.sl ab) .shr],[.val (.sl ab) .own],dj k,[]⟩)::(sU k)
def BI:aG prog (rK k):=aK (Ek k) zU nA k func147 (by kernel_rfl) (fun x=>by kernel_rfl)
def zn:aI:=(355,⟨[.val ax xF],[.val ax CN],oe k,[]⟩)::(rK k)
def MA:aG prog (zn k):=aK (BI k) nA nA k func355 (by kernel_rfl) (fun x=>by kernel_rfl)
def ME:aO:=fun|3=>some ⟨[(1,.box 4 ah h6),(2,.box 5 ah nX),(3,.box 6 ah Pv),(12,.val (.sl ax) bu),(13,.val aq .leaf),(14,.val aq .leaf)],8⟩|_=>none
def AN:aI:=(300,⟨[.val ah xN],[.val ah al1],mw k,[]⟩)::(zn k)
def N7:aG prog (AN k):=aK (MA k) ME nA k func300 (by kernel_rfl) (fun x=>by kernel_rfl)
end
def Kj:aO:=fun|3=>some ⟨[(3,.val (.sl ah) Ow),(6,.val (.sl ah) bu),(7,.val aq .leaf),(8,.val aq .leaf)],5⟩|_=>none
section
variable(k:Nat)
def zo:aI:=(199,⟨[.val (.sl ah) .shr],[.val (.sl ah) .own],qR k,[]⟩)::(AN k)
def MG:aG prog (zo k):=aK (N7 k) Kj nA k func199 (by kernel_rfl) (fun x=>by kernel_rfl)
def Ci:aI:=(238,⟨[.val aU SH],[.val aU Xt],nk k,[]⟩)::(zo k)
def OH:aG prog (Ci k):=aK (MG k) nA nA k func238 (by kernel_rfl) (fun x=>by kernel_rfl)
def MB:aO:=fun|3=>some ⟨[(3,.val (.sl aU) Ow),(6,.val (.sl aU) bu),(7,.val aq .leaf),(8,.val aq .leaf)],5⟩|_=>none
def Al:aI:=(200,⟨[.val (.sl aU) .shr],[.val (.sl aU) .own],tC k,[]⟩)::(Ci k)
def Oh:aG prog (Al k):=aK (OH k) MB nA k func200 (by kernel_rfl) (fun x=>by kernel_rfl)
def zk:aI:=(301,⟨[.val aj HN],[.val aj aiH],kX k,[]⟩)::(Al k)
def My:aG prog (zk k):=aK (Oh k) nA nA k func301 (by kernel_rfl) (fun x=>by kernel_rfl)
def Hw:aO:=fun|3=>some ⟨[(3,.val (.sl aj) Ow),(6,.val (.sl aj) bu),(7,.val aq .leaf),(8,.val aq .leaf)],5⟩|_=>none
def xD:aI:=(201,⟨[.val (.sl aj) .shr],[.val (.sl aj) .own],qk k,[]⟩)::(zk k)
def Ko:aG prog (xD k):=aK (My k) Hw nA k func201 (by kernel_rfl) (fun x=>by kernel_rfl)
def xA:aI:=(202,⟨[.val (.sl aD) .shr],[.val (.sl aD) .own],mT k,[]⟩)::(xD k)
def Ki:aG prog (xA k):=aK (Ko k) nA nA k func202 (by kernel_rfl) (fun x=>by kernel_rfl)
def zq:aI:=(203,⟨[.val bM U4],[.val bM UO],oV k,[]⟩)::(xA k)
def MI:aG prog (zq k):=aK (Ki k) nA nA k func203 (by kernel_rfl) (fun x=>by kernel_rfl)
def zK:aI:=(204,⟨[.val ak rm],[.val ak Pr],pY k,[]⟩)::(zq k)
def N5:aG prog (zK k):=aK (MI k) nA nA k func204 (by kernel_rfl) (fun x=>by kernel_rfl)
def AF:aI:=(205,⟨[.val aw qK],[.val aw zl],qf k,[]⟩)::(zK k)
def NP:aG prog (AF k):=aK (N5 k) nA nA k func205 (by kernel_rfl) (fun x=>by kernel_rfl)
def Kn:aO:=fun|6=>some ⟨[(1,.box 4 az KT),(2,.box 12 az n9),(3,.val (.sl bM) EG),(41,.val (.sl bM) bu),(42,.val aq .leaf),(43,.val aq .leaf)],14⟩|12=>some ⟨[(1,.box 4 az KT),(2,.box 12 az n9),(3,.val (.sl bM) EG),(6,.val (.sl ak) Un),(54,.val (.sl ak) bu),(55,.val aq .leaf),(56,.val aq .leaf)],15⟩|18=>some ⟨[(1,.box 4 az KT),(2,.box 12 az n9),(3,.val (.sl bM) EG),(6,.val (.sl ak) Un),(9,.val (.sl aw) De),(67,.val (.sl aw) bu),(68,.val aq .leaf),(69,.val aq .leaf)],16⟩|_=>none
def Kl:aO:=fun|10=>some ⟨[(1,.box 4 az KT),(2,.box 12 az n9),(3,.val (.sl bM) EG)],14⟩|16=>some ⟨[(1,.box 4 az KT),(2,.box 12 az n9),(3,.val (.sl bM) EG),(6,.val (.sl ak) Un)],15⟩|22=>some ⟨[(1,.box 4 az KT),(2,.box 12 az n9),(3,.val (.sl bM) EG),(6,.val (.sl ak) Un),(9,.val (.sl aw) De)],16⟩|_=>none
def zj:aI:=(111,⟨[.val az nR],[.val az Jw],fF k,[]⟩)::(AF k)
def MF:aG prog (zj k):=aK (NP k) Kn Kl k func111 (by kernel_rfl) (fun x=>by kernel_rfl)
def Kq:aI:=(77,⟨[.val aq .leaf,.val aq .leaf,.val aq .leaf],[.val .bool .leaf],bP k,[]⟩)::(zj k)
def Sl:aG prog (Kq k):=aK (MF k) nA nA k func77 (by kernel_rfl) (fun x=>by kernel_rfl)
def Jz:aO:=fun|4=>some ⟨[(0,.val .str .leaf),(3,.val aq .leaf)],4⟩|_=>none
def zd:aI:=(195,⟨[.val .str .leaf],[.val .bool .leaf],lJ k,[]⟩)::(Kq k)
def Lw:aG prog (zd k):=aK (Sl k) Jz nA k func195 (by kernel_rfl) (fun x=>by kernel_rfl)
def EU:aO:=fun|2=>some ⟨[(0,.val (.sl .str) bu),(3,.val aq .leaf)],4⟩|_=>none
def wE:aI:=(196,⟨[.val (.sl .str) .shr],[.val .bool .leaf],nC k,[]⟩)::(zd k)
def Jy:aG prog (wE k):=aK (Lw k) EU nA k func196 (by kernel_rfl) (fun x=>by kernel_rfl)
def N0:aO:=fun|2=>some ⟨[(0,.val (.sl .str) bu),(5,.val (.sl .str) bu),(6,.val aq .leaf),(7,.val aq .leaf)],4⟩|_=>none
def Oi:aO:=fun|7=>some ⟨[(0,.val (.sl .str) bu)],4⟩|_=>none
def CL:aI:=(108,⟨[.val (.sl .str) .shr],[.val .bool .leaf],qM k,[]⟩)::(wE k)
def O0:aG prog (CL k):=aK (Jy k) N0 Oi k func108 (by kernel_rfl) (fun x=>by kernel_rfl)
def yX:aI:=(28,⟨[.val cM sE],[.val .bool .leaf],mI k,[]⟩)::(CL k)
def KV:aG prog (yX k):=aK (O0 k) nA nA k func28 (by kernel_rfl) (fun x=>by kernel_rfl)
def Fo:aO:=fun|4=>some ⟨[(0,.val .str .leaf),(3,.val aq .leaf)],4⟩|_=>none
def vJ:aI:=(219,⟨[.val .str .leaf],[.val .bool .leaf],kh k,[]⟩)::(yX k)
def IC:aG prog (vJ k):=aK (KV k) Fo nA k func219 (by kernel_rfl) (fun x=>by kernel_rfl)
def wm:aI:=(306,⟨[.val al MH],[.val .bool .leaf],nh k,[]⟩)::(vJ k)
def Ig:aG prog (wm k):=aK (IC k) nA nA k func306 (by kernel_rfl) (fun x=>by kernel_rfl)
def Lk:aO:=fun|2=>some ⟨[(0,.val (.sl al) bu),(5,.val (.sl al) bu),(6,.val aq .leaf),(7,.val aq .leaf)],4⟩|_=>none
def AH:aI:=(218,⟨[.val (.sl al) .shr],[.val .bool .leaf],iP k,[]⟩)::(wm k)
def Nh:aG prog (AH k):=aK (Ig k) Lk nA k func218 (by kernel_rfl) (fun x=>by kernel_rfl)
def vQ:aI:=(116,⟨[.val ab fU],[.val .bool .leaf],eC k,[]⟩)::(AH k)
def HL:aG prog (vQ k):=aK (Nh k) nA nA k func116 (by kernel_rfl) (fun x=>by kernel_rfl)
def Gc:aO:=fun|5=>some ⟨[(3,.val (.sl .str) SD),(9,.val (.sl al) bu),(10,.val aq .leaf),(11,.val aq .leaf)],5⟩|_=>none
def GK:aO:=fun|9=>some ⟨[(3,.val (.sl .str) SD)],5⟩|_=>none
def xb:aI:=(237,⟨[.val (.sl al) .shr],[.val .str .leaf],nJ k,[]⟩)::(vQ k)
def Jh:aG prog (xb k):=aK (HL k) Gc GK k func237 (by kernel_rfl) (fun x=>by kernel_rfl)
def OM:aO:=fun|3=>some ⟨[(0,.val .str .leaf),(3,.val (.int .u32) .leaf),(4,.val aq .leaf)],4⟩|_=>none
def Pn:aO:=fun|6=>some ⟨[(3,.val (.int .u32) .leaf)],4⟩|_=>none
def F6:aI:=(236,⟨[.val .str .leaf],[.val aq .leaf],pS k,[]⟩)::(xb k)
def QV:aG prog (F6 k):=aK (Jh k) OM Pn k func236 (by kernel_rfl) (fun x=>by kernel_rfl)
def yx:aI:=(126,⟨[.val (.sl al) .shr],[.val aq .leaf],eP k,[]⟩)::(F6 k)
def LW:aG prog (yx k):=aK (QV k) nA nA k func126 (by kernel_rfl) (fun x=>by kernel_rfl)
def Hb:aO:=fun|4=>some ⟨[(0,.val (.sl al) bu),(1,.val (.sl al) bu),(12,.val aq .leaf),(13,.val aq .leaf)],4⟩|_=>none
def xl:aI:=(72,⟨[.val (.sl al) .shr,.val (.sl al) .shr],[.val .bool .leaf],cg k,[]⟩)::(yx k)
def IY:aG prog (xl k):=aK (LW k) Hb nA k func72 (by kernel_rfl) (fun x=>by kernel_rfl)
def C4:aO:=fun|2=>some ⟨[(1,.val (.sl al) bu),(7,.val (.sl ab) bu),(8,.val aq .leaf),(9,.val aq .leaf)],4⟩|_=>none
def uS:aI:=(120,⟨[.val (.sl ab) .shr,.val (.sl al) .shr],[.val aq .leaf],gy k,[]⟩)::(xl k)
def Gj:aG prog (uS k):=aK (IY k) C4 nA k func120 (by kernel_rfl) (fun x=>by kernel_rfl)
def zv:aO:=fun|2=>some ⟨[(0,.val (.sl ab) bu),(5,.val (.sl ab) bu),(6,.val aq .leaf),(7,.val aq .leaf)],4⟩|_=>none
def rb:aI:=(368,⟨[.val (.sl ab) .shr],[.val .bool .leaf],jl k,[]⟩)::(uS k)
def AY:aG prog (rb k):=aK (Gj k) zv nA k func368 (by kernel_rfl) (fun x=>by kernel_rfl)
end
def GX:aO:=fun|2=>some ⟨[(1,.box 4 ax Ox),(6,.val (.sl ab) bu),(7,.val aq .leaf),(8,.val aq .leaf)],5⟩|_=>none
def Gk:aO:=fun|7=>some ⟨[(1,.box 4 ax Ox)],5⟩|_=>none
section
variable(k:Nat)
def wL:aI:=(338,⟨[.val ax xF],[.val .bool .leaf],nr k,[]⟩)::(rb k)
def Ik:aG prog (wL k):=aK (AY k) GX Gk k func338 (by kernel_rfl) (fun x=>by kernel_rfl)
def yD:aI:=(125,⟨[.val aq .leaf,.val aq .leaf],[.val aq .leaf],gQ k,[]⟩)::(wL k)
def KZ:aG prog (yD k):=aK (Ik k) nA nA k func125 (by kernel_rfl) (fun x=>by kernel_rfl)
def JP:aO:=fun|2=>some ⟨[(1,.val aq .leaf),(2,.val aq .leaf),(3,.box 4 ah h6),(10,.val (.sl ax) bu),(11,.val aq .leaf),(12,.val aq .leaf)],5⟩|_=>none
def IP:aO:=fun|7=>some ⟨[(3,.box 4 ah h6)],5⟩|_=>none
def zb:aI:=(263,⟨[.val ah xN,.val aq .leaf,.val aq .leaf],[.val .bool .leaf],oQ k,[]⟩)::(yD k)
def Lv:aG prog (zb k):=aK (KZ k) JP IP k func263 (by kernel_rfl) (fun x=>by kernel_rfl)
def Fu:aO:=fun|4=>some ⟨[(0,.val (.sl ah) bu),(9,.val (.sl ah) bu),(10,.val aq .leaf),(11,.val aq .leaf)],4⟩|_=>none
def xg:aI:=(151,⟨[.val (.sl ah) .shr],[.val .bool .leaf],ng k,[]⟩)::(zb k)
def H5:aG prog (xg k):=aK (Lv k) Fu nA k func151 (by kernel_rfl) (fun x=>by kernel_rfl)
def Hf:aO:=fun|3=>some ⟨[(3,.val aq .leaf),(8,.val (.sl ah) bu),(9,.val aq .leaf),(10,.val aq .leaf)],4⟩|6=>some ⟨[(3,.val aq .leaf),(5,.box 4 ah Ka),(8,.val (.sl ah) bu),(9,.val aq .leaf),(10,.val aq .leaf),(15,.val (.sl ax) Cd),(16,.val aq .leaf),(17,.val aq .leaf)],5⟩|_=>none
def wi:aI:=(48,⟨[.val (.sl ah) .shr],[.val aq .leaf],jQ k,[]⟩)::(xg k)
def H3:aG prog (wi k):=aK (H5 k) Hf nA k func48 (by kernel_rfl) (fun x=>by kernel_rfl)
def C7:aO:=fun|3=>some ⟨[(1,.box 4 ah h6),(3,.val (.sl ab) C3),(7,.val (.sl ax) bu),(8,.val aq .leaf),(9,.val aq .leaf)],6⟩|_=>none
def uX:aI:=(70,⟨[.val ah xN],[.val (.sl ab) .own],iK k,[]⟩)::(wi k)
def F5:aG prog (uX k):=aK (H3 k) C7 nA k func70 (by kernel_rfl) (fun x=>by kernel_rfl)
def BU:aO:=fun|3=>some ⟨[(3,.val (.sl ab) Ow),(6,.val (.sl ah) bu),(7,.val aq .leaf),(8,.val aq .leaf)],5⟩|_=>none
def B5:aO:=fun|7=>some ⟨[(3,.val (.sl ab) Ow)],5⟩|_=>none
def tv:aI:=(51,⟨[.val (.sl ah) .shr],[.val (.sl ab) .own],jF k,[]⟩)::(uX k)
def Ec:aG prog (tv k):=aK (F5 k) BU B5 k func51 (by kernel_rfl) (fun x=>by kernel_rfl)
def CI:aI:=(36,⟨[.val cM sE,.val ab fU],[.val .bool .leaf],mU k,[]⟩)::(tv k)
def O6:aG prog (CI k):=aK (Ec k) nA nA k func36 (by kernel_rfl) (fun x=>by kernel_rfl)
def AD:aO:=fun|4=>some ⟨[(1,.box 4 az cX),(29,.val (.sl ab) C3),(30,.val aq .leaf),(31,.val aq .leaf)],6⟩|_=>none
def rG:aI:=(78,⟨[.val az nR],[.val .bool .leaf],j8 k,[]⟩)::(CI k)
def BG:aG prog (rG k):=aK (O6 k) AD nA k func78 (by kernel_rfl) (fun x=>by kernel_rfl)
def Dh:aO:=fun|2=>some ⟨[(5,.val (.sl ab) bu),(6,.val aq .leaf),(7,.val aq .leaf)],4⟩|_=>none
def tS:aI:=(80,⟨[.val (.sl ab) .shr],[.val .bool .leaf],fA k,[]⟩)::(rG k)
def GV:aG prog (tS k):=aK (BG k) Dh nA k func80 (by kernel_rfl) (fun x=>by kernel_rfl)
def AS:aI:=(152,⟨[.val aU SH],[.val .bool .leaf],pV k,[]⟩)::(tS k)
def Nc:aG prog (AS k):=aK (GV k) nA nA k func152 (by kernel_rfl) (fun x=>by kernel_rfl)
def BZ:aO:=fun|2=>some ⟨[(0,.val (.sl aU) bu),(3,.box 4 cM SB),(7,.val (.sl aU) bu),(8,.val aq .leaf),(9,.val aq .leaf)],5⟩|_=>none
def BX:aO:=fun|7=>some ⟨[(0,.val (.sl aU) bu),(3,.box 4 cM SB)],5⟩|_=>none
def tG:aI:=(79,⟨[.val (.sl aU) .shr,.val cM sE],[.val .bool .leaf],lp k,[]⟩)::(AS k)
def DY:aG prog (tG k):=aK (Nc k) BZ BX k func79 (by kernel_rfl) (fun x=>by kernel_rfl)
def uL:aI:=(264,⟨[.val aq .leaf,.val aq .leaf],[.val .bool .leaf],lY k,[]⟩)::(tG k)
def Gw:aG prog (uL k):=aK (DY k) nA nA k func264 (by kernel_rfl) (fun x=>by kernel_rfl)
def yd:aI:=(153,⟨[.val aw qK],[.val .bool .leaf],oF k,[]⟩)::(uL k)
def Ml:aG prog (yd k):=aK (Gw k) nA nA k func153 (by kernel_rfl) (fun x=>by kernel_rfl)
def tu:aI:=(34,⟨[.val ab fU,.val ab fU],[.val .bool .leaf],bW k,[]⟩)::(yd k)
def Ep:aG prog (tu k):=aK (Ml k) nA nA k func34 (by kernel_rfl) (fun x=>by kernel_rfl)
def Dp:aO:=fun|4=>some ⟨[(0,.val (.sl aq) bu),(1,.val (.sl aq) bu),(12,.val aq .leaf),(13,.val aq .leaf)],4⟩|_=>none
def uC:aI:=(339,⟨[.val (.sl aq) .shr,.val (.sl aq) .shr],[.val .bool .leaf],jy k,[]⟩)::(tu k)
def Hj:aG prog (uC k):=aK (Ep k) Dp nA k func339 (by kernel_rfl) (fun x=>by kernel_rfl)
def AX:aO:=fun|4=>some ⟨[(0,.val (.sl ab) bu),(1,.val (.sl ab) bu),(12,.val aq .leaf),(13,.val aq .leaf)],4⟩|_=>none
def rH:aI:=(225,⟨[.val (.sl ab) .shr,.val (.sl ab) .shr],[.val .bool .leaf],cY k,[]⟩)::(uC k)
def BM:aG prog (rH k):=aK (Hj k) AX nA k func225 (by kernel_rfl) (fun x=>by kernel_rfl)
def vd:aI:=(265,⟨[.val ak rm,.val ak rm],[.val .bool .leaf],jt k,[]⟩)::(rH k)
def FT:aG prog (vd k):=aK (BM k) nA nA k func265 (by kernel_rfl) (fun x=>by kernel_rfl)
def I7:aO:=fun|2=>some ⟨[(1,.box 4 ak qL),(6,.val (.sl aq) bu),(7,.val aq .leaf),(8,.val aq .leaf)],5⟩|_=>none
def JF:aO:=fun|7=>some ⟨[(1,.box 4 ak qL)],5⟩|_=>none
def yi:aI:=(266,⟨[.val ak rm],[.val .bool .leaf],oP k,[]⟩)::(vd k)
def Mr:aG prog (yi k):=aK (FT k) I7 JF k func266 (by kernel_rfl) (fun x=>by kernel_rfl)
def Is:aO:=fun|25=>some ⟨[(2,.box 4 ak qL),(5,.box 5 ak qL),(6,.val .bool .leaf),(7,.val aq .leaf)],6⟩|_=>none
def yZ:aI:=(154,⟨[.val ak rm,.val aq .leaf],[.val .bool .leaf],oS k,[]⟩)::(yi k)
def Li:aG prog (yZ k):=aK (Mr k) nA Is k func154 (by kernel_rfl) (fun x=>by kernel_rfl)
def zc:aI:=(47,⟨[.val (.sl ah) .shr,.val (.sl al) .shr],[.val aq .leaf],mZ k,[]⟩)::(yZ k)
def LQ:aG prog (zc k):=aK (Li k) nA nA k func47 (by kernel_rfl) (fun x=>by kernel_rfl)
def Fl:aO:=fun|2=>some ⟨[(1,.val aq .leaf),(2,.box 4 ah h6),(8,.val (.sl ax) bu),(9,.val aq .leaf),(10,.val aq .leaf)],5⟩|_=>none
def vH:aI:=(234,⟨[.val ah xN,.val aq .leaf],[.val aq .leaf],lv k,[]⟩)::(zc k)
def IQ:aG prog (vH k):=aK (LQ k) Fl nA k func234 (by kernel_rfl) (fun x=>by kernel_rfl)
def vD:aI:=(235,⟨[.val ax xF,.val (.sl al) .shr],[.val aq .leaf],lx k,[]⟩)::(vH k)
def HT:aG prog (vD k):=aK (IQ k) nA nA k func235 (by kernel_rfl) (fun x=>by kernel_rfl)
def yI:aI:=(124,⟨[.val ah xN,.val (.sl al) .shr],[.val ab so,.val .bool .leaf],oC k,[]⟩)::(vD k)
def Lu:aG prog (yI k):=aK (HT k) nA nA k func124 (by kernel_rfl) (fun x=>by kernel_rfl)
def tI:aI:=(46,⟨[.val (.sl ah) .shr,.val (.sl al) .shr],[.val ab so,.val .bool .leaf],iW k,[]⟩)::(yI k)
def C8:aG prog (tI k):=aK (Lu k) nA nA k func46 (by kernel_rfl) (fun x=>by kernel_rfl)
end
def B0:aO:=fun|6=>some ⟨[(2,.box 4 az cX),(3,.box 5 ak qL),(5,.val .bool .leaf),(6,.val (.sl ab) Um),(35,.val (.sl aq) bu),(36,.val aq .leaf),(37,.val aq .leaf)],7⟩|_=>none
def BF:aO:=fun|13=>some ⟨[(2,.box 4 az cX),(3,.box 5 ak qL),(5,.val .bool .leaf),(6,.val (.sl ab) Um)],7⟩|_=>none
section
variable(k:Nat)
def sR:aI:=(267,⟨[.val az nR,.val ak rm],[.val .bool .leaf],ld k,[]⟩)::(tI k)
def DB:aG prog (sR k):=aK (C8 k) B0 BF k func267 (by kernel_rfl) (fun x=>by kernel_rfl)
def ur:aI:=(155,⟨[.val az nR,.val ak rm,.val aw qK],[.val .bool .leaf],mi k,[]⟩)::(sR k)
def EZ:aG prog (ur k):=aK (DB k) nA nA k func155 (by kernel_rfl) (fun x=>by kernel_rfl)
def An:aO:=fun|2=>some ⟨[(1,.box 4 az cX),(9,.val (.sl aw) bu),(10,.val aq .leaf),(11,.val aq .leaf)],5⟩|8=>some ⟨[(1,.box 4 az cX),(41,.val (.sl ak) bu),(42,.val aq .leaf),(43,.val aq .leaf)],5⟩|_=>none
def AV:aO:=fun|7=>some ⟨[(1,.box 4 az cX)],5⟩|_=>none
def rP:aI:=(81,⟨[.val az nR],[.val .bool .leaf],jZ k,[]⟩)::(ur k)
def BH:aG prog (rP k):=aK (EZ k) An AV k func81 (by kernel_rfl) (fun x=>by kernel_rfl)
def yC:aI:=(161,⟨[.val ak rm,.val aq .leaf,.val .bool .leaf],[.val aq .leaf],pn k,[]⟩)::(rP k)
def Mn:aG prog (yC k):=aK (BH k) nA nA k func161 (by kernel_rfl) (fun x=>by kernel_rfl)
def tw:aI:=(156,⟨[.val ak rm,.val aq .leaf],[.val aq .leaf],jJ k,[]⟩)::(yC k)
def Dt:aG prog (tw k):=aK (Mn k) nA nA k func156 (by kernel_rfl) (fun x=>by kernel_rfl)
def rj:aI:=(157,⟨[.val ak rm],[.val .bool .leaf],ik k,[]⟩)::(tw k)
def Aa:aG prog (rj k):=aK (Dt k) nA nA k func157 (by kernel_rfl) (fun x=>by kernel_rfl)
def AI:aO:=fun|2=>some ⟨[(1,.box 4 az cX),(10,.val (.sl ah) bu),(11,.val aq .leaf),(12,.val aq .leaf)],5⟩|5=>some ⟨[(1,.box 4 az cX),(3,.val aq .leaf),(4,.box 5 ah Ka),(10,.val (.sl ah) bu),(11,.val aq .leaf),(12,.val aq .leaf),(18,.val (.sl ak) bu),(19,.val aq .leaf),(20,.val aq .leaf)],6⟩|12=>some ⟨[(1,.box 4 az cX),(40,.val (.sl ak) bu),(41,.val aq .leaf),(42,.val aq .leaf)],5⟩|_=>none
def Ak:aO:=fun|11=>some ⟨[(1,.box 4 az cX)],5⟩|17=>some ⟨[(1,.box 4 az cX)],5⟩|_=>none
def rM:aI:=(82,⟨[.val az nR],[.val .bool .leaf],j7 k,[]⟩)::(rj k)
def B8:aG prog (rM k):=aK (Aa k) AI Ak k func82 (by kernel_rfl) (fun x=>by kernel_rfl)
def GP:aO:=fun|2=>some ⟨[(1,.val .str .leaf),(7,.val (.sl .str) bu),(8,.val aq .leaf),(9,.val aq .leaf)],4⟩|_=>none
def wD:aI:=(375,⟨[.val (.sl .str) .shr,.val .str .leaf],[.val .bool .leaf],nL k,[]⟩)::(rM k)
def H8:aG prog (wD k):=aK (B8 k) GP nA k func375 (by kernel_rfl) (fun x=>by kernel_rfl)
def GH:aO:=fun|3=>some ⟨[(1,.val (.sl .str) bu),(5,.val (.sl al) SD),(8,.val (.sl al) bu),(9,.val aq .leaf),(10,.val aq .leaf)],5⟩|_=>none
def xr:aI:=(356,⟨[.val (.sl al) .shr,.val (.sl .str) .shr],[.val (.sl al) .own],qy k,[]⟩)::(wD k)
def Jn:aG prog (xr k):=aK (H8 k) GH nA k func356 (by kernel_rfl) (fun x=>by kernel_rfl)
def A4:aI:=(307,⟨[.val ab fU,.val (.sl .str) .shr],[.val (.sl al) .own],oT k,[]⟩)::(xr k)
def NR:aG prog (A4 k):=aK (Jn k) nA nA k func307 (by kernel_rfl) (fun x=>by kernel_rfl)
def Gv:aO:=fun|2=>some ⟨[(0,.val (.sl al) bu),(1,.val (.sl al) bu),(5,.val aq .leaf)],4⟩|_=>none
def GJ:aO:=fun|8=>some ⟨[(0,.val (.sl al) bu),(1,.val (.sl al) bu)],4⟩|_=>none
def vW:aI:=(240,⟨[.val (.sl al) .shr,.val (.sl al) .shr],[.val .bool .leaf],jR k,[]⟩)::(A4 k)
def IG:aG prog (vW k):=aK (NR k) Gv GJ k func240 (by kernel_rfl) (fun x=>by kernel_rfl)
def FD:aO:=fun|2=>some ⟨[(0,.val (.sl ab) bu),(1,.val (.sl al) bu),(2,.val (.sl .str) bu),(9,.val (.sl ab) bu),(10,.val aq .leaf),(11,.val aq .leaf)],4⟩|_=>none
def wj:aI:=(340,⟨[.val (.sl ab) .shr,.val (.sl al) .shr,.val (.sl .str) .shr],[.val .bool .leaf],nv k,[]⟩)::(vW k)
def Iz:aG prog (wj k):=aK (IG k) FD nA k func340 (by kernel_rfl) (fun x=>by kernel_rfl)
def wq:aI:=(268,⟨[.val aj HN,.val (.sl .str) .shr],[.val .bool .leaf],nH k,[]⟩)::(wj k)
def Ih:aG prog (wq k):=aK (Iz k) nA nA k func268 (by kernel_rfl) (fun x=>by kernel_rfl)
def Ga:aO:=fun|2=>some ⟨[(1,.val (.sl al) bu),(7,.val (.sl aj) bu),(8,.val aq .leaf),(9,.val aq .leaf)],4⟩|_=>none
def xj:aI:=(269,⟨[.val (.sl aj) .shr,.val (.sl al) .shr],[.val aq .leaf],jG k,[]⟩)::(wq k)
def Ic:aG prog (xj k):=aK (Ih k) Ga nA k func269 (by kernel_rfl) (fun x=>by kernel_rfl)
def Du:aO:=fun|2=>some ⟨[(0,.val (.sl aj) bu),(1,.val (.sl .str) bu),(7,.val (.sl aj) bu),(8,.val aq .leaf),(9,.val aq .leaf)],4⟩|_=>none
def um:aI:=(158,⟨[.val (.sl aj) .shr,.val (.sl .str) .shr],[.val .bool .leaf],l0 k,[]⟩)::(xj k)
def FX:aG prog (um k):=aK (Ic k) Du nA k func158 (by kernel_rfl) (fun x=>by kernel_rfl)
def yK:aI:=(270,⟨[.val aD MH,.val aD MH],[.val .bool .leaf],n0 k,[]⟩)::(um k)
def Ll:aG prog (yK k):=aK (FX k) nA nA k func270 (by kernel_rfl) (fun x=>by kernel_rfl)
def JE:aO:=fun|2=>some ⟨[(0,.val (.sl aD) bu),(5,.val (.sl aD) bu),(6,.val aq .leaf),(7,.val aq .leaf)],4⟩|_=>none
def I1:aO:=fun|7=>some ⟨[(0,.val (.sl aD) bu)],4⟩|_=>none
def y6:aI:=(159,⟨[.val (.sl aD) .shr],[.val .bool .leaf],ox k,[]⟩)::(yK k)
def K5:aG prog (y6 k):=aK (Ll k) JE I1 k func159 (by kernel_rfl) (fun x=>by kernel_rfl)
def vv:aI:=(271,⟨[.val aj HN,.val aq .leaf,.val aq .leaf],[.val aq .leaf],qx k,[]⟩)::(y6 k)
def Jt:aG prog (vv k):=aK (K5 k) nA nA k func271 (by kernel_rfl) (fun x=>by kernel_rfl)
def FL:aI:=(160,⟨[.val cM sE,.val aj HN],[.val aq .leaf],rE k,[]⟩)::(vv k)
def QB:aG prog (FL k):=aK (Jt k) nA nA k func160 (by kernel_rfl) (fun x=>by kernel_rfl)
def zr:aO:=fun|4=>some ⟨[(1,.box 4 az cX),(26,.val (.sl aj) bu),(27,.val aq .leaf),(28,.val aq .leaf)],5⟩|10=>some ⟨[(1,.box 4 az cX),(4,.box 5 aj SZ),(5,.val .bool .leaf),(26,.val (.sl aj) bu),(27,.val aq .leaf),(28,.val aq .leaf),(68,.val (.sl aD) bu),(69,.val aq .leaf),(70,.val aq .leaf)],6⟩|18=>some ⟨[(1,.box 4 az cX),(96,.val (.sl aD) bu),(97,.val aq .leaf),(98,.val aq .leaf)],5⟩|23=>some ⟨[(1,.box 4 az cX),(9,.box 5 aD Km),(96,.val (.sl aD) bu),(97,.val aq .leaf),(98,.val aq .leaf),(111,.val (.sl aD) bu),(112,.val aq .leaf),(113,.val aq .leaf)],6⟩|_=>none
def zt:aO:=fun|14=>some ⟨[(1,.box 4 az cX),(4,.box 5 aj SZ),(5,.val .bool .leaf),(26,.val (.sl aj) bu),(27,.val aq .leaf),(28,.val aq .leaf)],6⟩|17=>some ⟨[(1,.box 4 az cX)],5⟩|_=>none
def qW:aI:=(83,⟨[.val az nR],[.val .bool .leaf],jq k,[]⟩)::(FL k)
def zN:aG prog (qW k):=aK (QB k) zr zt k func83 (by kernel_rfl) (fun x=>by kernel_rfl)
def wu:aI:=(15,⟨[.val az nR],[.val .bool .leaf],iz k,[]⟩)::(qW k)
def I2:aG prog (wu k):=aK (zN k) nA nA k func15 (by kernel_rfl) (fun x=>by kernel_rfl)
def Rg:aI:=(84,⟨[.val ak rm,.val aq .leaf],[.val aq .leaf],DF k,[]⟩)::(wu k)
def Wb:aG prog (Rg k):=aK (I2 k) nA nA k func84 (by kernel_rfl) (fun x=>by kernel_rfl)
def PW:aI:=(226,⟨[.io az gi,.val aq .leaf],[.val .bool .leaf],BJ k,[(0,(nu 14 12))]⟩)::(Rg k)
def VW:aG prog (PW k):=aK (Wb k) nA nA k func226 (by kernel_rfl) (fun x=>by kernel_rfl)
def aeL:aI:=(143,⟨[.val ab fU,.val aq .leaf],[.val .bool .leaf],V3 k,[]⟩)::(PW k)
def akK:aG prog (aeL k):=aK (VW k) nA nA k func143 (by kernel_rfl) (fun x=>by kernel_rfl)
def afC:aO:=fun|4=>some ⟨[(1,.val aq .leaf),(2,.box 4 ax Ox),(4,.box 5 ax Rc),(6,.box 6 ax VU),(7,.val (.sl ab) qI),(14,.val (.sl ab) bu),(15,.val aq .leaf),(16,.val aq .leaf)],9⟩|_=>none
def afn:aO:=fun|10=>some ⟨[(2,.box 4 ax Ox),(4,.box 5 ax Rc),(6,.box 6 ax VU),(7,.val (.sl ab) qI)],9⟩|_=>none
def ZI:aI:=(323,⟨[.val ax xF,.val aq .leaf],[.val ax CN,.val (.sl ab) .own],UF k,[]⟩)::(aeL k)
def ahP:aG prog (ZI k):=aK (akK k) afC afn k func323 (by kernel_rfl) (fun x=>by kernel_rfl)
end
def ahc:aO:=fun|4=>some ⟨[(1,.val aq .leaf),(2,.box 4 ah h6),(4,.box 5 ah nX),(6,.box 6 ah Pv),(7,.val (.sl ab) qI),(18,.val (.sl ax) bu),(19,.val aq .leaf),(20,.val aq .leaf)],9⟩|_=>none
def afW:aO:=fun|11=>some ⟨[(2,.box 4 ah h6),(4,.box 5 ah nX),(6,.box 6 ah Pv),(7,.val (.sl ab) qI)],9⟩|_=>none
section
variable(k:Nat)
def aag:aI:=(254,⟨[.val ah xN,.val aq .leaf],[.val ah al1,.val (.sl ab) .own],VD k,[]⟩)::(ZI k)
def aix:aG prog (aag k):=aK (ahP k) ahc afW k func254 (by kernel_rfl) (fun x=>by kernel_rfl)
def Rm:aI:=(230,⟨[.io az gi,.val aw qK],[],DE k,[(0,(nu 14 12))]⟩)::(aag k)
def Wd:aG prog (Rm k):=aK (aix k) nA nA k func230 (by kernel_rfl) (fun x=>by kernel_rfl)
def Xh:aI:=(255,⟨[.io az gi,.val aq .leaf],[],Rq k,[(0,(nu 14 12))]⟩)::(Rm k)
def adi:aG prog (Xh k):=aK (Wd k) nA nA k func255 (by kernel_rfl) (fun x=>by kernel_rfl)
def ya:aI:=(229,⟨[.io az gi,.val aq .leaf,.val aq .leaf],[],mW k,[(0,(nu 14 12))]⟩)::(Xh k)
def KQ:aG prog (ya k):=aK (adi k) nA nA k func229 (by kernel_rfl) (fun x=>by kernel_rfl)
def PV:aO:=fun|3=>some ⟨[(0,.box 4 az bX),(1,.val aq .leaf),(6,.val aq .leaf)],14⟩|7=>some ⟨[(0,.box 4 az bX),(1,.val aq .leaf)],14⟩|_=>none
def Hs:aI:=(227,⟨[.io az gi,.val aq .leaf,.val aq .leaf],[],pC k,[]⟩)::(ya k)
def Rj:aG prog (Hs k):=aK (KQ k) nA PV k func227 (by kernel_rfl) (fun x=>by kernel_rfl)
def Zb:aO:=fun|15=>some ⟨[(0,.box 4 az S4),(6,.box 14 ah ZX)],16⟩|_=>none
def V6:aI:=(139,⟨[.io az gi,.val aq .leaf],[.val .bool .leaf],Bm k,[]⟩)::(Hs k)
def ZS:aG prog (V6 k):=aK (Rj k) nA Zb k func139 (by kernel_rfl) (fun x=>by kernel_rfl)
def YW:aI:=(62,⟨[.val az nR,.val aq .leaf],[.val az gi,.val .bool .leaf],Tq k,[]⟩)::(V6 k)
def afy:aG prog (YW k):=aK (ZS k) nA nA k func62 (by kernel_rfl) (fun x=>by kernel_rfl)
def YR:aI:=(63,⟨[.val az nR,.val aq .leaf],[.val az gi,.val .bool .leaf],T0 k,[]⟩)::(YW k)
def afv:aG prog (YR k):=aK (afy k) nA nA k func63 (by kernel_rfl) (fun x=>by kernel_rfl)
def Zl:aI:=(55,⟨[.val (.sl (.int .u8)) .rom],[.val az nR,.val aq .leaf],UD k,[]⟩)::(YR k)
def ahw:aG prog (Zl k):=aK (afv k) nA nA k func55 (by kernel_rfl) (fun x=>by kernel_rfl)
def Y2:aI:=(64,⟨[.val (.sl (.int .u8)) .rom],[.val az nR,.val aq .leaf],T9 k,[]⟩)::(Zl k)
def afA:aG prog (Y2 k):=aK (ahw k) nA nA k func64 (by kernel_rfl) (fun x=>by kernel_rfl)
def KN:aI:=(17,⟨[.val az nR,.val aq .leaf],[.val .bool .leaf],rS k,[]⟩)::(Y2 k)
def SL:aG prog (KN k):=aK (afA k) nA nA k func17 (by kernel_rfl) (fun x=>by kernel_rfl)
def Ue:aI:=(206,⟨[.val az nR,.val aq .leaf],[.val .bool .leaf],Mb k,[]⟩)::(KN k)
def Yb:aG prog (Ue k):=aK (SL k) nA nA k func206 (by kernel_rfl) (fun x=>by kernel_rfl)
def CQ:aI:=(207,⟨[.io az gi,.val aw qK],[.val aq .leaf],qZ k,[(0,(nu 14 12))]⟩)::(Ue k)
def PA:aG prog (CQ k):=aK (Yb k) nA nA k func207 (by kernel_rfl) (fun x=>by kernel_rfl)
def XO:aI:=(243,⟨[.io az gi,.val aq .leaf,.val ak Pr,.val aw qK],[.val .bool .leaf],Sf k,[]⟩)::(CQ k)
def adv:aG prog (XO k):=aK (PA k) nA nA k func243 (by kernel_rfl) (fun x=>by kernel_rfl)
def XX:aI:=(141,⟨[.io az gi,.val aq .leaf],[.val .bool .leaf],U0 k,[]⟩)::(XO k)
def adS:aG prog (XX k):=aK (adv k) nA nA k func141 (by kernel_rfl) (fun x=>by kernel_rfl)
def ado:aI:=(65,⟨[.val az nR,.val aq .leaf],[.val az gi,.val .bool .leaf],W4 k,[]⟩)::(XX k)
def ajE:aG prog (ado k):=aK (adS k) nA nA k func65 (by kernel_rfl) (fun x=>by kernel_rfl)
def Q3:aI:=(30,⟨[.val az nR,.val aq .leaf],[.val .bool .leaf],CC k,[]⟩)::(ado k)
def V0:aG prog (Q3 k):=aK (ajE k) nA nA k func30 (by kernel_rfl) (fun x=>by kernel_rfl)
def aen:aI:=(66,⟨[.val az nR,.val aq .leaf],[.val az gi,.val .bool .leaf],W6 k,[]⟩)::(Q3 k)
def aj2:aG prog (aen k):=aK (V0 k) nA nA k func66 (by kernel_rfl) (fun x=>by kernel_rfl)
def YQ:aI:=(67,⟨[.val (.sl (.int .u8)) .rom],[.val (.sl ab) .own,.val aq .leaf],Ta k,[]⟩)::(aen k)
def afs:aG prog (YQ k):=aK (aj2 k) nA nA k func67 (by kernel_rfl) (fun x=>by kernel_rfl)
def ajo:aO:=fun|3=>some ⟨[(1,.val aq .leaf),(5,.val (.sl ab) Ow),(8,.val (.sl ab) bu),(9,.val aq .leaf),(10,.val aq .leaf)],5⟩|_=>none
def adT:aI:=(68,⟨[.val (.sl ab) .shr,.val aq .leaf],[.val (.sl ab) .own],S2 k,[]⟩)::(YQ k)
def akh:aG prog (adT k):=aK (afs k) ajo nA k func68 (by kernel_rfl) (fun x=>by kernel_rfl)
def BL:aO:=fun|4=>some ⟨[(0,.val (.sl .str) bu),(1,.val (.sl .str) bu),(12,.val aq .leaf),(13,.val aq .leaf)],4⟩|_=>none
def th:aI:=(191,⟨[.val (.sl .str) .shr,.val (.sl .str) .shr],[.val .bool .leaf],kW k,[]⟩)::(adT k)
def DX:aG prog (th k):=aK (akh k) BL nA k func191 (by kernel_rfl) (fun x=>by kernel_rfl)
def uh:aI:=(101,⟨[.val cM sE,.val cM sE],[.val .bool .leaf],ma k,[]⟩)::(th k)
def FF:aG prog (uh k):=aK (DX k) nA nA k func101 (by kernel_rfl) (fun x=>by kernel_rfl)
def tc:aI:=(217,⟨[.val ax xF,.val ax xF],[.val .bool .leaf],ll k,[]⟩)::(uh k)
def DA:aG prog (tc k):=aK (FF k) nA nA k func217 (by kernel_rfl) (fun x=>by kernel_rfl)
def Di:aO:=fun|4=>some ⟨[(2,.box 4 ah h6),(3,.box 5 ah h6),(29,.val aq .leaf),(30,.val aq .leaf)],6⟩|_=>none
def uW:aI:=(115,⟨[.val ah xN,.val ah xN],[.val .bool .leaf],mu k,[]⟩)::(tc k)
def F4:aG prog (uW k):=aK (DA k) Di nA k func115 (by kernel_rfl) (fun x=>by kernel_rfl)
def BD:aO:=fun|4=>some ⟨[(0,.val (.sl ah) bu),(1,.val (.sl ah) bu),(5,.val aq .leaf)],4⟩|_=>none
def sF:aI:=(35,⟨[.val (.sl ah) .shr,.val (.sl ah) .shr],[.val .bool .leaf],kG k,[]⟩)::(uW k)
def Dw:aG prog (sF k):=aK (F4 k) BD nA k func35 (by kernel_rfl) (fun x=>by kernel_rfl)
def wk:aI:=(127,⟨[.val aU SH,.val aU SH],[.val .bool .leaf],nE k,[]⟩)::(sF k)
def I8:aG prog (wk k):=aK (Dw k) nA nA k func127 (by kernel_rfl) (fun x=>by kernel_rfl)
def D8:aO:=fun|4=>some ⟨[(0,.val (.sl aU) bu),(1,.val (.sl aU) bu),(5,.val aq .leaf)],4⟩|_=>none
def uI:aI:=(49,⟨[.val (.sl aU) .shr,.val (.sl aU) .shr],[.val .bool .leaf],lD k,[]⟩)::(wk k)
def Hc:aG prog (uI k):=aK (I8 k) D8 nA k func49 (by kernel_rfl) (fun x=>by kernel_rfl)
def DP:aO:=fun|4=>some ⟨[(0,.val (.sl ab) bu),(1,.val (.sl ab) bu),(5,.val aq .leaf)],4⟩|_=>none
def uo:aI:=(40,⟨[.val (.sl ab) .shr,.val (.sl ab) .shr],[.val .bool .leaf],eI k,[]⟩)::(uI k)
def EX:aG prog (uo k):=aK (Hc k) DP nA k func40 (by kernel_rfl) (fun x=>by kernel_rfl)
def sL:aI:=(119,⟨[.val aj HN,.val aj HN],[.val .bool .leaf],kS k,[]⟩)::(uo k)
def Eb:aG prog (sL k):=aK (EX k) nA nA k func119 (by kernel_rfl) (fun x=>by kernel_rfl)
def AE:aO:=fun|4=>some ⟨[(0,.val (.sl aj) bu),(1,.val (.sl aj) bu),(5,.val aq .leaf)],4⟩|_=>none
def rR:aI:=(41,⟨[.val (.sl aj) .shr,.val (.sl aj) .shr],[.val .bool .leaf],jL k,[]⟩)::(sL k)
def Bw:aG prog (rR k):=aK (Eb k) AE nA k func41 (by kernel_rfl) (fun x=>by kernel_rfl)
def D0:aO:=fun|4=>some ⟨[(0,.val (.sl aD) bu),(1,.val (.sl aD) bu),(5,.val aq .leaf)],4⟩|_=>none
def uz:aI:=(102,⟨[.val (.sl aD) .shr,.val (.sl aD) .shr],[.val .bool .leaf],mj k,[]⟩)::(rR k)
def Hh:aG prog (uz k):=aK (Bw k) D0 nA k func102 (by kernel_rfl) (fun x=>by kernel_rfl)
def sW:aI:=(192,⟨[.val bM U4,.val bM U4],[.val .bool .leaf],kR k,[]⟩)::(uz k)
def DG:aG prog (sW k):=aK (Hh k) nA nA k func192 (by kernel_rfl) (fun x=>by kernel_rfl)
def DR:aO:=fun|4=>some ⟨[(0,.val (.sl bM) bu),(1,.val (.sl bM) bu),(5,.val aq .leaf)],4⟩|_=>none
def uB:aI:=(103,⟨[.val (.sl bM) .shr,.val (.sl bM) .shr],[.val .bool .leaf],mz k,[]⟩)::(sW k)
def Fw:aG prog (uB k):=aK (DG k) DR nA k func103 (by kernel_rfl) (fun x=>by kernel_rfl)
def Dx:aO:=fun|4=>some ⟨[(0,.val (.sl aq) bu),(1,.val (.sl aq) bu),(5,.val aq .leaf)],4⟩|_=>none
def u9:aI:=(193,⟨[.val (.sl aq) .shr,.val (.sl aq) .shr],[.val .bool .leaf],jr k,[]⟩)::(uB k)
def Fq:aG prog (u9 k):=aK (Fw k) Dx nA k func193 (by kernel_rfl) (fun x=>by kernel_rfl)
def BT:aO:=fun|4=>some ⟨[(0,.val (.sl ak) bu),(1,.val (.sl ak) bu),(5,.val aq .leaf)],4⟩|_=>none
def tf:aI:=(104,⟨[.val (.sl ak) .shr,.val (.sl ak) .shr],[.val .bool .leaf],k9 k,[]⟩)::(u9 k)
def Dc:aG prog (tf k):=aK (Fq k) BT nA k func104 (by kernel_rfl) (fun x=>by kernel_rfl)
def uv:aI:=(194,⟨[.val aw qK,.val aw qK],[.val .bool .leaf],mg k,[]⟩)::(tf k)
def FE:aG prog (uv k):=aK (Dc k) nA nA k func194 (by kernel_rfl) (fun x=>by kernel_rfl)
def B6:aO:=fun|4=>some ⟨[(0,.val (.sl aw) bu),(1,.val (.sl aw) bu),(5,.val aq .leaf)],4⟩|_=>none
def tj:aI:=(105,⟨[.val (.sl aw) .shr,.val (.sl aw) .shr],[.val .bool .leaf],kP k,[]⟩)::(uv k)
def CX:aG prog (tj k):=aK (FE k) B6 nA k func105 (by kernel_rfl) (fun x=>by kernel_rfl)
def tp:aI:=(26,⟨[.val az nR,.val az nR],[.val .bool .leaf],iN k,[]⟩)::(tj k)
def Dm:aG prog (tp k):=aK (CX k) nA nA k func26 (by kernel_rfl) (fun x=>by kernel_rfl)
def ai9:aO:=fun|3=>some ⟨[(0,.val (.sl ab) bu),(1,.val aq .leaf),(5,.val (.sl ab) Ow),(6,.val aq .leaf)],5⟩|_=>none
def aeh:aI:=(69,⟨[.val (.sl ab) .shr,.val aq .leaf],[.val (.sl ab) .own],Xa k,[]⟩)::(tp k)
def akj:aG prog (aeh k):=aK (Dm k) ai9 nA k func69 (by kernel_rfl) (fun x=>by kernel_rfl)
def aha:aI:=(9,⟨[.val (.sl (.int .u8)) .rom],[.val .bool .leaf],RT k,[]⟩)::(aeh k)
def agJ:aG prog (aha k):=aK (akj k) nA nA k func9 (by kernel_rfl) (fun x=>by kernel_rfl)
end
end Vg.Tryz
namespace Vg.Tryz
open Go Vg
section
variable{k:Nat}(Q:9223372036854775808<=k)
include Q
theorem kF(x:bh):af cM x=af (.sl .str) x.2.2.2.2.2:=by
 obtain⟨x0,x1,x2,x3,x4,x5⟩:=x;simp only[af]
 try omega
theorem mS(x:ai):af al x=x.1.size+x.2.size:=by
 obtain⟨x0,x1⟩:=x;simp only[af]
 try omega
theorem bo(x:ae):af ab x=af (.sl al) x.1+x.2.2.2.size:=by
 obtain⟨x0,x1,x2,x3⟩:=x;simp only[af]
 try omega
theorem cu(x:aP):af ax x=af (.sl ab) x.2:=by
 obtain⟨x0,x1⟩:=x;simp only[af]
 try omega
theorem bY(x:ar):af ah x=af (.sl ax) x.2.2:=by
 obtain⟨x0,x1,x2⟩:=x;simp only[af]
 try omega
theorem eG(x:bg):af aU x=af (.sl ab) x.1:=by
 obtain⟨x0,x1⟩:=x;simp only[af]
 try omega
theorem cn(x:au):af aj x=af (.sl al) x.2.1+af (.sl ab) x.2.2.2.2:=by
 obtain⟨x0,x1,x2,x3,x4⟩:=x;simp only[af]
 try omega
theorem Hy(x:aJ):af aD x=0:=by
 obtain⟨x0,x1⟩:=x;simp only[af]
 try omega
theorem px(x:br):af bM x=af (.sl al) x.2.1+af (.sl ab) x.2.2.2:=by
 obtain⟨x0,x1,x2,x3⟩:=x;simp only[af]
 try omega
theorem bw(x:aF):af ak x=af ab x.2.2.1+af (.sl al) x.2.2.2.1+af (.sl (.int .i64)) x.2.2.2.2.2.1+af (.sl ab) x.2.2.2.2.2.2.1:=by
 obtain⟨x0,x1,x2,x3,x4,x5,x6,x7,x8⟩:=x;simp only[af]
 try omega
theorem bN(x:aC):af aw x=af ab x.2.2.1+af (.sl al) x.2.2.2.1+af (.sl ab) x.2.2.2.2.2.2.2.1:=by
 obtain⟨x0,x1,x2,x3,x4,x5,x6,x7,x8,x9,x10,x11⟩:=x;simp only[af]
 try omega
theorem da(x:ag):af az x=af cM x.1+af (.sl ah) x.2.2.2.1+af (.sl aU) x.2.2.2.2.1+af (.sl ab) x.2.2.2.2.2.1+af (.sl aj) x.2.2.2.2.2.2.2.1+af (.sl aD) x.2.2.2.2.2.2.2.2.2.1+af (.sl bM) x.2.2.2.2.2.2.2.2.2.2.1+af (.sl ab) x.2.2.2.2.2.2.2.2.2.2.2.1+af (.sl ak) x.2.2.2.2.2.2.2.2.2.2.2.2.1+af (.sl aw) x.2.2.2.2.2.2.2.2.2.2.2.2.2:=by
 obtain⟨x0,x1,x2,x3,x4,x5,x6,x7,x8,x9,x10,x11,x12,x13⟩:=x;simp only[af]
 try omega
end
def DD(s:ByteArray)(i:Nat):Bool:=decide (97<=bt s i)&&decide (bt s i<=122)
def ff(s:ByteArray):Bool:=decide (1<=s.size/\s.size<=8)&&bA 0 s.size (DD s)
def tz(s:ByteArray)(i:Nat):Bool:=decide (32<=bt s i/\bt s i<=126/\bt s i≠34/\bt s i≠92)
def jf(s:ByteArray):Bool:=decide (s.size<=12)&&bA 0 s.size (tz s)
def eO(x:ai):Bool:=ff x.1&&jf x.2
def zH(l:List ai)(i:Nat):Bool:=i==0||nU (l.getD (i-1) al.aa).1 (l.getD i al.aa).1
def dt(l:List ai):Bool:=decide (l.length<=4)&&bA 0 l.length (fun i=>eO (l.getD i al.aa)&&zH l i)
section
variable{k:Nat}(Q:9223372036854775808<=k)
include Q
theorem wP{s:ByteArray}(hs:s.size<=1048576):lz k (s,())=some (ff s,()):=by
 simp only[lz,aN];rw[show((s,(0:Int),()):ByteArray×Int×Unit)=(fun i:Nat=>(s,(i:Int),())) 0 from rfl];rw[cr (fun i:Nat=>(s,(i:Int),())) (DD s) s.size (e:=some (decide (1<=s.size/\s.size<=8),())) (no:=some (false,())) ?_ ?_ k 0 (by omega)];unfold ff;cases bA 0 s.size (DD s)<;>simp;intro G i a;simp only;rw[aH,c_ a,an rfl,an (aA a),aA a,aIg,an rfl,aV (by omega)];unfold DD;by_cases b:bt s i<97<;>by_cases c:bt s i>122<;>simp[b,c]<;>omega;intro G i a;simp only;rw[aH,decide_eq_false (by omega),a_ (by simp)];simp only[bD,eD];congr 2;rw[aIj];simp;omega
theorem xk{s:ByteArray}(hs:s.size<=1048576):lJ k (s,())=some (ff s,()):=by
 simp only[lJ,bP,eD];by_cases b:1<=s.size/\s.size<=8;rw[a_ (by simp;omega)];rw[show((s,(0:Int),()):ByteArray×Int×Unit)=(fun i:Nat=>(s,(i:Int),())) 0 from rfl];rw[cr (fun i:Nat=>(s,(i:Int),())) (DD s) s.size (e:=some (true,())) (no:=some (false,())) ?_ ?_ k 0 (by omega)];unfold ff;cases bA 0 s.size (DD s)<;>simp[b];intro G i a;simp only;rw[aH,c_ a,an rfl,an (aA a),aA a,aIg,an rfl,aV (by omega)];unfold DD;by_cases c:bt s i<97<;>by_cases d:bt s i>122<;>simp[c,d]<;>omega;intro G i a;simp only;rw[aH,decide_eq_false (by omega),a_ (by simp)];rw[an (by simp;omega)];unfold ff;simp[b]
theorem ux{s:ByteArray}(hs:s.size<=1048576):kC k (s,())=some (jf s,()):=by
 simp only[kC,aN];rw[show((s,(0:Int),()):ByteArray×Int×Unit)=(fun i:Nat=>(s,(i:Int),())) 0 from rfl];rw[cr (fun i:Nat=>(s,(i:Int),())) (tz s) s.size (e:=some (decide (s.size<=12),())) (no:=some (false,())) ?_ ?_ k 0 (by omega)];unfold jf;cases bA 0 s.size (tz s)<;>simp;intro G i a;simp only;rw[aH,c_ a,an rfl,an (aA a),aA a,aIg,an rfl,aIg,an rfl,aIg,an rfl,aV (by omega)];unfold tz;by_cases b:bt s i<32<;>by_cases c:bt s i>126<;>by_cases d:bt s i=34<;>by_cases f:bt s i=92<;>simp[b,c,d,f]<;>omega;intro G i a;simp only;rw[aH,decide_eq_false (by omega),a_ (by simp)];congr 2;rw[aIj];simp;omega
theorem ui{s:ByteArray}(hs:s.size<=1048576):kh k (s,())=some (jf s,()):=by
 simp only[kh];by_cases b:s.size<=12;rw[a_ (by simp;omega)];rw[show((s,(0:Int),()):ByteArray×Int×Unit)=(fun i:Nat=>(s,(i:Int),())) 0 from rfl];rw[cr (fun i:Nat=>(s,(i:Int),())) (tz s) s.size (e:=some (true,())) (no:=some (false,())) ?_ ?_ k 0 (by omega)];unfold jf;cases bA 0 s.size (tz s)<;>simp[b];intro G i a;simp only;rw[aH,c_ a,an rfl,an (aA a),aV (by omega)];unfold tz;by_cases c:bt s i<32<;>by_cases d:bt s i>126<;>by_cases f:bt s i=34<;>by_cases g:bt s i=92<;>simp[c,d,f,g]<;>omega;intro G i a;simp only;rw[aH,decide_eq_false (by omega),a_ (by simp)];rw[an (by simp;omega)];unfold jf;simp[b]
def FY{x:ai}(hs:af al x<=1048576):np k (x,())=some (eO x,()):=by
 rw[mS Q]at hs;simp only[np];rw[wP Q (by omega),ux Q (by omega)];simp only[bZ,eD,eO];cases ff x.1<;>simp
def GD{x:ai}(hs:af al x<=1048576):nh k (x,())=some (eO x,()):=by
 rw[mS Q]at hs;simp only[nh];rw[xk Q (by omega),ui Q (by omega)];simp only[bZ,eD,eO];cases ff x.1<;>simp
def ly{l:List ai}(hs:af (.sl al) l<=1048576):gB k (l,())=some (dt l,()):=by
 have hl:=ay (e:=al) (l:=l);simp only[gB,aN];rw[show((l,(0:Int),()):List ai×Int×Unit)=(fun i:Nat=>(l,(i:Int),())) 0 from rfl];rw[cr (fun i:Nat=>(l,(i:Int),())) (fun i=>eO (l.getD i al.aa)&&zH l i) l.length (e:=some (decide (l.length<=4),())) (no:=some (false,())) ?_ ?_ k 0 (by omega)];unfold dt;cases bA 0 l.length (fun i=>eO (l.getD i al.aa)&&zH l i)<;>simp;intro G i a;simp only[m_];have f:af al (l.getD i al.aa)<=1048576:=aIh (cI (e:=al) (cT a)) hs;rw[aH,c_ a,an rfl,an (aA a),FY Q f,eD,aV (by omega),tR (by omega)];simp only;rw[an (by simp;omega),an (by simp[a])];simp only[gn,bZ,eD];rw[show((i:Int)-1).toNat=i-1 by omega];unfold zH nU;cases eO (l.getD i al.aa)with
 |false=>simp
 |true=>
  by_cases d:i=0;subst d;simp;have b:(0:Int)<(i:Int):=by omega
  have c:0<i:=by omega
  cases Op.bytesLess (ByteArray.toList (l.getD (i-1) al.aa).1) (ByteArray.toList (l.getD i al.aa).1)<;>simp[d,b,c]
 intro G i a;simp only;rw[aH,decide_eq_false (by omega),a_ (by simp)];congr 2;rw[aIj];simp;omega
def oM{l:List ai}(hs:af (.sl al) l<=1048576):iP k (l,())=some (dt l,()):=by
 have hl:=ay (e:=al) (l:=l);simp only[iP];rw[show((l,l,(l.length:Int),(0:Int),()):List ai×List ai×Int×Int×Unit)=(fun i:Nat=>(l,l,(l.length:Int),(i:Int),())) 0 from rfl];rw[cr (fun i:Nat=>(l,l,(l.length:Int),(i:Int),())) (fun i=>decide (i<4)&&(eO (l.getD i al.aa)&&zH l i)) l.length (e:=some (true,())) (no:=some (false,())) ?_ ?_ k 0 (by omega)];unfold dt;rw[jH,Ul];cases bA 0 l.length (fun i=>eO (l.getD i al.aa)&&zH l i)<;>by_cases h:l.length<=4<;>simp[h];intro G i b;simp only[m_];have j:af al (l.getD i al.aa)<=1048576:=aIh (cI (e:=al) (cT b)) hs;rw[aH,c_ b,an rfl,an (aA b),GD Q j,aV (by omega),tR (by omega)];simp only[bZ,eD];rw[show((i:Int)-1).toNat=i-1 by omega];rw[an (by simp;omega)];unfold zH nU;by_cases c:i<4;have a:¬(4:Int)<=(i:Int):=by omega
 cases eO (l.getD i al.aa)with
 |false=>simp[c,a]
 |true=>
  by_cases g:i=0;subst g;simp;have d:(0:Int)<(i:Int):=by omega
  have f:0<i:=by omega
  cases Op.bytesLess (ByteArray.toList (l.getD (i-1) al.aa).1) (ByteArray.toList (l.getD i al.aa).1)<;>simp[g,d,f,c,a]
 have a:(4:Int)<=(i:Int):=by omega
 simp[c,a];intro G i b;simp only;rw[aH,decide_eq_false (by omega),a_ (by simp)]
end
def bc(n a b:Int):Bool:=decide (a<=n)&&decide (n<=b)
def sA(l:List ByteArray):Bool:=bA 1 l.length (fun i=>nU (l.getD (i-1) ByteArray.empty) (l.getD i ByteArray.empty))
def tA(l:List ByteArray):Bool:=bA 0 l.length (fun i=>ff (l.getD i ByteArray.empty))&&(decide (l.length<=2)&&sA l)
def cR(c:bh):Bool:=bc c.1 1 3&&bc c.2.1 1 8&&bc c.2.2.1 1 2&&bc c.2.2.2.1 1 9&&bc c.2.2.2.2.1 1 9&&tA c.2.2.2.2.2
def bj(a:ae):Bool:=dt a.1&&decide (0<a.1.length)&&bc a.2.1 0 99999&&bc a.2.2.1 a.2.1 99999&&jf a.2.2.2
def bB(l:List ae):Bool:=bA 0 l.length (fun i=>bj (l.getD i ab.aa))
def wQ(a b:Bool):(if a=true then b else false)=(a&&b):=by cases a<;>rfl
section
variable{k:Nat}(Q:9223372036854775808<=k)
include Q
theorem fS(n a b:Int):bD k (n,a,b,())=some (bc n a b,()):=by
 simp only[bD,bc,wQ]
theorem fG(n a b:Int):bP k (n,a,b,())=some (bc n a b,()):=by
 simp only[bP,bc,wQ]
theorem uj{l:List ByteArray}(hl:l.length<=1048576):iD k (l,())=some (sA l,()):=by
 simp only[iD];rw[show((l,(1:Int),()):List ByteArray×Int×Unit)=(fun i:Nat=>(l,((i+1:Nat):Int),())) 0 from rfl];rw[cr (fun i:Nat=>(l,((i+1:Nat):Int),())) (fun i=>nU (l.getD i ByteArray.empty) (l.getD (i+1) ByteArray.empty)) (l.length-1) (e:=some (true,())) (no:=some (false,())) ?_ ?_ k 0 (by omega)]
 have:sA l=bA 0 (l.length-1) (fun i=>nU (l.getD i ByteArray.empty) (l.getD (i+1) ByteArray.empty)):=by
  unfold sA;rw[aIj,ck,ck];constructor;intro h i _ a;have:=h (i+1) (by omega) (by omega);simpa using this;intro h i h1 a;have:=h (i-1) (by omega) (by omega);rw[show i-1+1=i by omega]at this;exact this
 rw[this];cases bA 0 (l.length-1) (fun i=>nU (l.getD i ByteArray.empty) (l.getD (i+1) ByteArray.empty))<;>rfl;intro G i b;simp only[m_];rw[aH,c_ (by omega),an rfl,tR (by omega),aV (by omega)];rw[an (by simp;omega),an (by simp;omega)];simp only[gn,eD];rw[show(((i+1:Nat):Int)-1).toNat=i by omega];unfold nU;cases Op.bytesLess (ByteArray.toList (l.getD i ByteArray.empty)) (ByteArray.toList (l.getD (i+1) ByteArray.empty))<;>simp;intro G i b;simp only;rw[aH,decide_eq_false (by omega),a_ (by simp)]
theorem Qa(l:List ByteArray):nC k (l,())=iD k (l,()):=by
 simp only[iD,nC,gn,eD]
def Nk{l:List ByteArray}(hs:af (.sl .str) l<=1048576):qN k (l,())=some (tA l,()):=by
 have hl:=ay (e:= .str) (l:=l);simp only[qN,aN];rw[show((l,(0:Int),()):List ByteArray×Int×Unit)=(fun i:Nat=>(l,(i:Int),())) 0 from rfl];rw[cr (fun i:Nat=>(l,(i:Int),())) (fun i=>ff (l.getD i ByteArray.empty)) l.length (e:=some (decide (l.length<=2)&&sA l,())) (no:=some (false,())) ?_ ?_ k 0 (by omega)];unfold tA;cases bA 0 l.length (fun i=>ff (l.getD i ByteArray.empty))<;>simp;intro G i a;simp only[m_];have c:af .str (l.getD i ByteArray.empty)<=1048576:=aIh (cI (e:= .str) (cT a)) hs;rw[aH,c_ a,an rfl,an (aA a),wP Q c,eD,aV (by omega)];cases ff (l.getD i ByteArray.empty)<;>simp;intro G i a;simp only;rw[aH,decide_eq_false (by omega),a_ (by simp),uj Q (by omega)];simp only[bZ,eD];by_cases h:l.length<=2;have b:(l.length:Int)<=2:=by omega
 simp[h,b];have b:¬(l.length:Int)<=2:=by omega
 simp[h,b]
def N6{l:List ByteArray}(hs:af (.sl .str) l<=1048576):qM k (l,())=some (tA l,()):=by
 have hl:=ay (e:= .str) (l:=l);simp only[qM,aN];rw[show((l,l,(l.length:Int),(0:Int),()):List ByteArray×List ByteArray×Int×Int×Unit)=(fun i:Nat=>(l,l,(l.length:Int),(i:Int),())) 0 from rfl];rw[cr (fun i:Nat=>(l,l,(l.length:Int),(i:Int),())) (fun i=>ff (l.getD i ByteArray.empty)) l.length (e:=some (decide (l.length<=2)&&sA l,())) (no:=some (false,())) ?_ ?_ k 0 (by omega)];unfold tA;cases bA 0 l.length (fun i=>ff (l.getD i ByteArray.empty))<;>simp;intro G i a;simp only[m_];have c:af .str (l.getD i ByteArray.empty)<=1048576:=aIh (cI (e:= .str) (cT a)) hs;rw[aH,c_ a,an rfl,an (aA a),xk Q c,eD,aV (by omega)];cases ff (l.getD i ByteArray.empty)<;>simp;intro G i a;simp only;rw[aH,decide_eq_false (by omega),a_ (by simp),Qa Q,uj Q (by omega)];simp only[bZ,eD];by_cases h:l.length<=2;have b:(l.length:Int)<=2:=by omega
 simp[h,b];have b:¬(l.length:Int)<=2:=by omega
 simp[h,b]
def vV{c:bh}(hs:af cM c<=1048576):lE k (c,())=some (cR c,()):=by
 rw[kF Q]at hs;simp only[lE,fS Q,Nk Q hs,bZ,eD,cR];generalize bc c.1 1 3=b1;generalize bc c.2.1 1 8=b2;generalize bc c.2.2.1 1 2=b3;generalize bc c.2.2.2.1 1 9=b4;generalize bc c.2.2.2.2.1 1 9=b5;cases b1<;>cases b2<;>cases b3<;>cases b4<;>cases b5<;>simp
def Ch{c:bh}(hs:af cM c<=1048576):mI k (c,())=some (cR c,()):=by
 rw[kF Q]at hs;simp only[mI,fG Q,N6 Q hs,bZ,eD,cR];generalize bc c.1 1 3=b1;generalize bc c.2.1 1 8=b2;generalize bc c.2.2.1 1 2=b3;generalize bc c.2.2.2.1 1 9=b4;generalize bc c.2.2.2.2.1 1 9=b5;cases b1<;>cases b2<;>cases b3<;>cases b4<;>cases b5<;>simp
theorem PM(l:List ai):decide ((l.length:Int)>0)=decide (0<l.length):=by simp
def gK{a:ae}(hs:af ab a<=1048576):dW k (a,())=some (bj a,()):=by
 rw[bo Q]at hs;simp only[dW,fS Q,ly Q (show af (.sl al) a.1<=1048576 by omega),ux Q (show a.2.2.2.size<=1048576 by omega),bZ,eD,bj,PM Q];generalize dt a.1=b1;generalize decide (0<a.1.length)=b2;generalize bc a.2.1 0 99999=b3;generalize bc a.2.2.1 a.2.1 99999=b4;cases b1<;>cases b2<;>cases b3<;>cases b4<;>simp
def jz{a:ae}(hs:af ab a<=1048576):eC k (a,())=some (bj a,()):=by
 rw[bo Q]at hs;simp only[eC,fG Q,oM Q (show af (.sl al) a.1<=1048576 by omega),ui Q (show a.2.2.2.size<=1048576 by omega),bZ,eD,bj,PM Q];generalize dt a.1=b1;generalize decide (0<a.1.length)=b2;generalize bc a.2.1 0 99999=b3;generalize bc a.2.2.1 a.2.1 99999=b4;cases b1<;>cases b2<;>cases b3<;>cases b4<;>simp
def qC{l:List ae}(hs:af (.sl ab) l<=1048576):jj k (l,())=some (bB l,()):=by
 have hl:=ay (e:=ab) (l:=l);simp only[jj];rw[show((l,(0:Int),()):List ae×Int×Unit)=(fun i:Nat=>(l,(i:Int),())) 0 from rfl];rw[cr (fun i:Nat=>(l,(i:Int),())) (fun i=>bj (l.getD i ab.aa)) l.length (e:=some (true,())) (no:=some (false,())) ?_ ?_ k 0 (by omega)];unfold bB;cases bA 0 l.length (fun i=>bj (l.getD i ab.aa))<;>simp;intro G i a;simp only[m_];have b:af ab (l.getD i ab.aa)<=1048576:=aIh (cI (e:=ab) (cT a)) hs;rw[aH,c_ a,an rfl,an (aA a),gK Q b,eD,aV (by omega)];cases bj (l.getD i ab.aa)<;>simp;intro G i a;simp only;rw[aH,decide_eq_false (by omega),a_ (by simp)]
def kQ{l:List ae}(hs:af (.sl ab) l<=1048576):fA k (l,())=some (bB l,()):=by
 have hl:=ay (e:=ab) (l:=l);simp only[fA];rw[show((l,(l.length:Int),(0:Int),()):List ae×Int×Int×Unit)=(fun i:Nat=>(l,(l.length:Int),(i:Int),())) 0 from rfl];rw[cr (fun i:Nat=>(l,(l.length:Int),(i:Int),())) (fun i=>bj (l.getD i ab.aa)) l.length (e:=some (true,())) (no:=some (false,())) ?_ ?_ k 0 (by omega)];unfold bB;cases bA 0 l.length (fun i=>bj (l.getD i ab.aa))<;>simp;intro G i a;simp only[m_];have b:af ab (l.getD i ab.aa)<=1048576:=aIh (cI (e:=ab) (cT a)) hs;rw[aH,c_ a,an rfl,an (aA a),jz Q b,eD,aV (by omega)];cases bj (l.getD i ab.aa)<;>simp;intro G i a;simp only;rw[aH,decide_eq_false (by omega),a_ (by simp)]
end
def hasB(by_:List ByteArray)(s:ByteArray):Bool:= !bA 0 by_.length (fun i=> !((by_.getD i ByteArray.empty).toList==s.toList))
def keyOf(a:ae)(by_:List ByteArray):List ai:=a.1.filter (fun x=>hasB by_ x.1)
def rA(l:List ae)(i:Nat):Bool:=i==0||bI (l.getD (i-1) ab.aa).1 (l.getD i ab.aa).1
def qp(l:List ae)(key:List ai)(by_:List ByteArray):Bool:=
 bA 0 l.length (fun i=>bj (l.getD i ab.aa)&&(decide (keyOf (l.getD i ab.aa) by_=key)&&rA l i))
def dN(g:au)(by_:List ByteArray):Bool:=
 decide (0<=g.1)&&(dt g.2.1&&(bc g.2.2.1 0 99999&&((decide (g.2.2.2.1= -1)||bc g.2.2.2.1 g.2.2.1 99999)&&(decide (0<g.2.2.2.2.length)&&qp g.2.2.2.2 g.2.1 by_))))
def AA(l:List au)(i:Nat):Bool:=i==0||decide ((l.getD (i-1) aj.aa).1<(l.getD i aj.aa).1)
def mQ(l:List au)(i:Nat):Bool:=bA 0 i (fun j=> !decide ((l.getD j aj.aa).2.1=(l.getD i aj.aa).2.1))
def dR(l:List au)(by_:List ByteArray):Bool:=
 decide (l.length<=12)&&bA 0 l.length (fun i=>dN (l.getD i aj.aa) by_&&(AA l i&&mQ l i))
def eL(s:bg):Bool:=decide (s.1.length<=3)&&((!s.2||decide (s.1.length=0))&&bB s.1)
def cw(a:ae):Bool:=bj a&&decide (a.2.2.1<=99899)
section
variable{k:Nat}(Q:9223372036854775808<=k)
include Q
theorem dF{a b:List ai}(ha:a.length<=1048576):cL k (a,b,())=some (decide (a=b),()):=by
 simp only[cL];by_cases l:a.length=b.length;rw[a_ (by simp[l])]
 rw[qS (g:=fun(s:List ai×List ai×Int×Unit)=>some (decide (a.drop s.2.2.1.toNat=b.drop s.2.2.1.toNat),())) (m:=fun(s:List ai×List ai×Int×Unit)=>a.length-s.2.2.1.toNat)
  (I:=fun(s:List ai×List ai×Int×Unit)=>s.1=a/\s.2.1=b/\0<=s.2.2.1/\s.2.2.1<=(a.length:Int))]
 simp;rintro G ⟨a',b',i,u⟩ ⟨e1,e2,hi0,hi1⟩ hG;change a'=a at e1;change b'=b at e2;subst e1 e2;simp only at hi0 hi1 hG|-;by_cases f:i<(a'.length:Int);have n:i.toNat<a'.length:=by omega
 have o:i.toNat<b'.length:=by omega
 rw[an (by simpa using f),an (by simpa using⟨hi0,f⟩),an (by simpa using⟨hi0,by omega⟩)];rw[gz (d:=al.aa) n,gz (d:=al.aa) o];by_cases c:a'.getD i.toNat al.aa=b'.getD i.toNat al.aa;have j:eqv al (a'.getD i.toNat al.aa) (b'.getD i.toNat al.aa)=true:=(yc rfl).2 c;rw[a_ (by rw[j];simp),wrap64 (by omega) (by omega),hG (a',b',i+1,()) ⟨rfl,rfl,by simp only;omega,by simp only;omega⟩ (by simp only;omega)];simp only[c,aIq,true_and];rw[show(i+1).toNat=i.toNat+1 by omega]
 have j:eqv al (a'.getD i.toNat al.aa) (b'.getD i.toNat al.aa)=false:=by
  rw[aII];exact fun h=>c ((yc rfl).1 h)
 rw[an (by rw[j];rfl)];simp only[aIq,c,false_and,decide_false];rw[a_ (by simpa using f),aIe (by omega),aIe (by omega)];simp;exact⟨rfl,rfl,by simp,by simp⟩;simp only;omega;rw[an (by simp;omega)];have:a≠b:=fun e=>l (by rw[e]);simp[this]
theorem du{a b:List ai}(ha:a.length<=1048576):cg k (a,b,())=some (decide (a=b),()):=by
 simp only[cg];by_cases l:a.length=b.length;rw[a_ (by simp[l])]
 rw[qS (g:=fun(s:List ai×List ai×Int×Int×Unit)=>some (decide (a.drop s.2.2.2.1.toNat=b.drop s.2.2.2.1.toNat),())) (m:=fun(s:List ai×List ai×Int×Int×Unit)=>a.length-s.2.2.2.1.toNat)
  (I:=fun(s:List ai×List ai×Int×Int×Unit)=>s.1=a/\s.2.1=b/\s.2.2.1=(a.length:Int)/\0<=s.2.2.2.1/\s.2.2.2.1<=(a.length:Int))]
 simp;rintro G ⟨a',b',n,i,u⟩ ⟨e1,e2,e3,hi0,hi1⟩ hG;change a'=a at e1;change b'=b at e2;change n=_ at e3;subst e1 e2 e3;simp only at hi0 hi1 hG|-;by_cases f:i<(a'.length:Int);have o:i.toNat<a'.length:=by omega
 have p:i.toNat<b'.length:=by omega
 rw[an (by simpa using f),an (by simpa using⟨hi0,f⟩),an (by simpa using⟨hi0,by omega⟩)];rw[gz (d:=al.aa) o,gz (d:=al.aa) p];by_cases c:a'.getD i.toNat al.aa=b'.getD i.toNat al.aa;have j:eqv al (a'.getD i.toNat al.aa) (b'.getD i.toNat al.aa)=true:=(yc rfl).2 c;rw[a_ (by rw[j];simp),wrap64 (by omega) (by omega),hG (a',b',_,i+1,()) ⟨rfl,rfl,rfl,by simp only;omega,by simp only;omega⟩ (by simp only;omega)];simp only[c,aIq,true_and];rw[show(i+1).toNat=i.toNat+1 by omega]
 have j:eqv al (a'.getD i.toNat al.aa) (b'.getD i.toNat al.aa)=false:=by
  rw[aII];exact fun h=>c ((yc rfl).1 h)
 rw[an (by rw[j];rfl)];simp only[aIq,c,false_and,decide_false];rw[a_ (by simpa using f),aIe (by omega),aIe (by omega)];simp;exact⟨rfl,rfl,rfl,by simp,by simp⟩;simp only;omega;rw[an (by simp;omega)];have:a≠b:=fun e=>l (by rw[e]);simp[this]
theorem pk{a b:List ai}(ha:a.length<=1048576):jR k (a,b,())=some (bI a b,()):=by
 simp only[jR,aN]
 rw[qS (g:=fun(s:List ai×List ai×Int×Unit)=>some (bI (a.drop s.2.2.1.toNat) (b.drop s.2.2.1.toNat),())) (m:=fun(s:List ai×List ai×Int×Unit)=>a.length-s.2.2.1.toNat)
  (I:=fun(s:List ai×List ai×Int×Unit)=>s.1=a/\s.2.1=b/\0<=s.2.2.1/\s.2.2.1<=(a.length:Int)/\s.2.2.1<=(b.length:Int))]
 simp;rintro G ⟨a',b',i,u⟩ ⟨e1,e2,hi0,hi1,hi2⟩ hG;change a'=a at e1;change b'=b at e2;subst e1 e2;simp only at hi0 hi1 hi2 hG|-;by_cases c:i<(a'.length:Int)/\i<(b'.length:Int);have e:i.toNat<a'.length:=by omega
 have f:i.toNat<b'.length:=by omega
 have h:decide (0<=i/\i<(a'.length:Int))=true:=by simpa using⟨hi0,c.1⟩
 have j:decide (0<=i/\i<(b'.length:Int))=true:=by simpa using⟨hi0,c.2⟩
 rw[an (by simp[c.1,c.2])];simp only[h,j,if_true];rw[gz (d:=al.aa) e,gz (d:=al.aa) f];simp only[bI,nU];rw[wrap64 (by omega) (by omega),hG (a',b',i+1,()) ⟨rfl,rfl,by simp only;omega,by simp only;omega,by simp only;omega⟩ (by simp only;omega)];simp only;rw[show(i+1).toNat=i.toNat+1 by omega];cases (ByteArray.toList (a'.getD i.toNat al.aa).1==ByteArray.toList (b'.getD i.toNat al.aa).1)<;>cases (ByteArray.toList (a'.getD i.toNat al.aa).2==ByteArray.toList (b'.getD i.toNat al.aa).2)<;>simp;rw[a_ (by simp;omega)];by_cases ha':i<(a'.length:Int);have e:i.toNat<a'.length:=by omega
 rw[gz (d:=al.aa) e,aIe (show b'.length<=i.toNat by omega)];simp only[bI];congr 2;simp;omega;rw[aIe (show a'.length<=i.toNat by omega)];simp only[bI];congr 2;by_cases hb':i<(b'.length:Int);have f:i.toNat<b'.length:=by omega
 rw[gz (d:=al.aa) f];simp;omega;rw[aIe (show b'.length<=i.toNat by omega)];simp;omega;exact⟨rfl,rfl,by simp,by simp,by simp⟩;simp only;omega
def me{a b:List ai}(c:a.length<=1048576):iu k (a,b,())=some (bI a b,()):=by
 rw[<-pk Q c];simp only[jR,iu,gn,eD]
theorem O2{l:List ByteArray}{s:ByteArray}(hl:l.length<=1048576):pK k (l,s,())=some (hasB l s,()):=by
 simp only[pK];rw[show((l,s,(0:Int),()):List ByteArray×ByteArray×Int×Unit)=(fun i:Nat=>(l,s,(i:Int),())) 0 from rfl];rw[SJ (fun i:Nat=>(l,s,(i:Int),())) (fun i=>(l.getD i ByteArray.empty).toList==s.toList) l.length (e:=some (false,())) (yes:=some (true,())) ?_ ?_ k 0 (by omega)];unfold hasB;cases bA 0 l.length (fun i=> !((l.getD i ByteArray.empty).toList==s.toList))<;>simp;intro G i a;simp only[m_];rw[aH,c_ a,an rfl,an (aA a),aV (by omega)];intro G i a;simp only;rw[aH,decide_eq_false (by omega),a_ (by simp)]
theorem OU{l:List ByteArray}{s:ByteArray}(hl:l.length<=1048576):nL k (l,s,())=some (hasB l s,()):=by
 simp only[nL];rw[show((s,l,(l.length:Int),(0:Int),()):ByteArray×List ByteArray×Int×Int×Unit)=(fun i:Nat=>(s,l,(l.length:Int),(i:Int),())) 0 from rfl];rw[SJ (fun i:Nat=>(s,l,(l.length:Int),(i:Int),())) (fun i=>(l.getD i ByteArray.empty).toList==s.toList) l.length (e:=some (false,())) (yes:=some (true,())) ?_ ?_ k 0 (by omega)];unfold hasB;cases bA 0 l.length (fun i=> !((l.getD i ByteArray.empty).toList==s.toList))<;>simp;intro G i a;simp only[m_];rw[aH,c_ a,an rfl,an (aA a),aV (by omega)];intro G i a;simp only;rw[aH,decide_eq_false (by omega),a_ (by simp)]
def jg{a:ae}{by_:List ByteArray}(f:af ab a<=1048576)(h:by_.length<=1048576):ek k (a,by_,())=some (keyOf a by_,()):=by
 have hl:=ay (e:=al) (l:=a.1);rw[bo Q]at f;simp only[ek,qE]
 rw[qS (g:=fun(s:List ai×List ByteArray×List ai×Int×Unit)=>some (s.2.2.1++(a.1.drop s.2.2.2.1.toNat).filter (fun x=>hasB by_ x.1),())) (m:=fun(s:List ai×List ByteArray×List ai×Int×Unit)=>a.1.length-s.2.2.2.1.toNat)
  (I:=fun(s:List ai×List ByteArray×List ai×Int×Unit)=>s.1=a.1/\s.2.1=by_/\0<=s.2.2.2.1/\s.2.2.2.1<=(a.1.length:Int)/\s.2.2.1.length<=s.2.2.2.1.toNat)]
 simp[keyOf];rintro G ⟨l',y',o,i,u⟩ ⟨e1,e2,hi0,hi1,ho⟩ hG;change l'=_ at e1;change y'=by_ at e2;subst e1 e2;simp only at hi0 hi1 ho hG|-;by_cases b:i<(a.1.length:Int);have j:i.toNat<a.1.length:=by omega
 rw[an (by simpa using b),an (by simpa using⟨hi0,b⟩),O2 Q h,eD,gz (d:=al.aa) j,wrap64 (by omega) (by omega)];cases c:hasB y' (a.1.getD i.toNat al.aa).1 with
 |true=>
  rw[an rfl,an (by simpa using⟨hi0,b⟩),an (by simp;omega)];rw[hG (a.1,y',o++[a.1.getD i.toNat al.aa],i+1,()) ⟨rfl,rfl,by simp only;omega,by simp only;omega,by simp;omega⟩ (by simp only;omega)];simp only;rw[show(i+1).toNat=i.toNat+1 by omega,aIw (by simpa using c)];simp
 |false=>
  rw[a_ (by simp)];rw[hG (a.1,y',o,i+1,()) ⟨rfl,rfl,by simp only;omega,by simp only;omega,by simp only;omega⟩ (by simp only;omega)];simp only;rw[show(i+1).toNat=i.toNat+1 by omega,aIx (by rw[c];simp)]
 rw[a_ (by simpa using b),aIe (by omega)];simp;exact⟨rfl,rfl,by simp,by simp,by simp⟩;simp only;omega
def Ew{a:ae}{by_:List ByteArray}(f:af ab a<=1048576)(h:by_.length<=1048576):oT k (a,by_,())=some (keyOf a by_,()):=by
 have hl:=ay (e:=al) (l:=a.1);rw[bo Q]at f;simp only[oT,qy]
 rw[qS (g:=fun(s:List ByteArray×List ai×List ai×Int×Int×Unit)=>some (s.2.1++(a.1.drop s.2.2.2.2.1.toNat).filter (fun x=>hasB by_ x.1),())) (m:=fun(s:List ByteArray×List ai×List ai×Int×Int×Unit)=>a.1.length-s.2.2.2.2.1.toNat)
  (I:=fun(s:List ByteArray×List ai×List ai×Int×Int×Unit)=>s.1=by_/\s.2.2.1=a.1/\s.2.2.2.1=(a.1.length:Int)/\0<=s.2.2.2.2.1/\s.2.2.2.2.1<=(a.1.length:Int)/\s.2.1.length<=s.2.2.2.2.1.toNat)]
 simp[keyOf];rintro G ⟨y',o,l',n,i,u⟩ ⟨e2,e1,e3,hi0,hi1,ho⟩ hG;change l'=_ at e1;change y'=by_ at e2;change n=_ at e3;subst e1 e2 e3;simp only at hi0 hi1 ho hG|-;by_cases b:i<(a.1.length:Int);have j:i.toNat<a.1.length:=by omega
 rw[an (by simpa using b),an (by simpa using⟨hi0,b⟩),OU Q h,eD,gz (d:=al.aa) j,wrap64 (by omega) (by omega)];cases c:hasB y' (a.1.getD i.toNat al.aa).1 with
 |true=>
  rw[an rfl,an (by simp;omega)];rw[hG (y',o++[a.1.getD i.toNat al.aa],a.1,_,i+1,()) ⟨rfl,rfl,rfl,by simp only;omega,by simp only;omega,by simp;omega⟩ (by simp only;omega)];simp only;rw[show(i+1).toNat=i.toNat+1 by omega,aIw (by simpa using c)];simp
 |false=>
  rw[a_ (by simp)];rw[hG (y',o,a.1,_,i+1,()) ⟨rfl,rfl,rfl,by simp only;omega,by simp only;omega,by simp only;omega⟩ (by simp only;omega)];simp only;rw[show(i+1).toNat=i.toNat+1 by omega,aIx (by rw[c];simp)]
 rw[a_ (by simpa using b),aIe (by omega)];simp;exact⟨rfl,rfl,rfl,by simp,by simp,by simp⟩;simp only;omega
theorem Bd(a:ae)(by_:List ByteArray):(keyOf a by_).length<=a.1.length:=aIB ..
def fo{l:List ae}{i:Nat}(hs:af (.sl ab) l<=1048576)(b:i<l.length):af ab (l.getD i ab.aa)<=1048576/\(l.getD i ab.aa).1.length<=1048576:=by
 have a:af ab (l.getD i ab.aa)<=1048576:=aIh (cI (e:=ab) (cT b)) hs;refine⟨a,?_⟩;rw[bo Q]at a;have:=ay (e:=al) (l:=(l.getD i ab.aa).1);omega
def GL{l:List ae}{key:List ai}{by_:List ByteArray}(hs:af (.sl ab) l<=1048576)(j:by_.length<=1048576):nv k (l,key,by_,())=some (qp l key by_,()):=by
 have hl:=ay (e:=ab) (l:=l);simp only[nv];rw[show((l,key,by_,l,(l.length:Int),(0:Int),()):List ae×List ai×List ByteArray×List ae×Int×Int×Unit)=(fun i:Nat=>(l,key,by_,l,(l.length:Int),(i:Int),())) 0 from rfl];rw[cr (fun i:Nat=>(l,key,by_,l,(l.length:Int),(i:Int),())) (fun i=>bj (l.getD i ab.aa)&&(decide (keyOf (l.getD i ab.aa) by_=key)&&rA l i)) l.length (e:=some (true,())) (no:=some (false,())) ?_ ?_ k 0 (by omega)];unfold qp;cases bA 0 l.length (fun i=>bj (l.getD i ab.aa)&&(decide (keyOf (l.getD i ab.aa) by_=key)&&rA l i))<;>simp;intro G i b;simp only[m_];obtain⟨h,hml⟩:=fo Q hs b;have hkl:=Bd Q (l.getD i ab.aa) by_;rw[aH,c_ b,an rfl,an (aA b),jz Q h,eD,Ew Q h j,aV (by omega),tR (by omega)];simp only[bZ,eD];rw[show((i:Int)-1).toNat=i-1 by omega];cases bj (l.getD i ab.aa)with
 |false=>simp
 |true=>
  simp only[aIC,beq_self_eq_true,if_true];rw[du Q (by omega)];simp only[eD];by_cases c:keyOf (l.getD i ab.aa) by_=key;by_cases g:i=0;subst g;simp[c,rA,-aId];have d:(0:Int)<(i:Int):=by omega
  have f:0<i:=by omega
  obtain⟨hm1,a⟩:=fo Q hs (show i-1<l.length by omega);rw[an (by simp;omega),pk Q a];unfold rA;cases bI (l.getD (i-1) ab.aa).1 (l.getD i ab.aa).1<;>simp[c,g,d,f,-aId];simp[c,-aId]
 intro G i b;simp only;rw[aH,decide_eq_false (by omega),a_ (by simp)]
def Gz{g:au}{by_:List ByteArray}(hs:af aj g<=1048576)(a:by_.length<=1048576):nH k (g,by_,())=some (dN g by_,()):=by
 rw[cn Q]at hs;simp only[nH,fG Q,oM Q (show af (.sl al) g.2.1<=1048576 by omega),GL Q (show af (.sl ab) g.2.2.2.2<=1048576 by omega) a,bZ,eD,dN];have b:decide (g.1<(0:Int))= !decide (0<=g.1):=by rw[aIj];simp
 have c:decide ((g.2.2.2.2.length:Int)>(0:Int))=decide (0<g.2.2.2.2.length):=by simp
 have d:((g.2.2.2.1:Int) != (-1:Int))= !decide (g.2.2.2.1= -1):=by rw[aIj];simp
 rw[b,c,d];generalize decide (0<=g.1)=b1;generalize dt g.2.1=b2;generalize bc g.2.2.1 0 99999=b3;generalize decide (g.2.2.2.1= -1)=b4;generalize bc g.2.2.2.1 g.2.2.1 99999=b5;generalize decide (0<g.2.2.2.2.length)=b6;generalize qp g.2.2.2.2 g.2.1 by_=b7;cases b1<;>cases b2<;>cases b3<;>cases b4<;>cases b5<;>cases b6<;>cases b7<;>simp
def Fv{g:au}{by_:List ByteArray}(hs:af aj g<=1048576)(p:by_.length<=1048576):na k (g,by_,())=some (dN g by_,()):=by
 rw[cn Q]at hs;have d:af (.sl ab) g.2.2.2.2<=1048576:=by omega
 have hl:=ay (e:=ab) (l:=g.2.2.2.2);simp only[na,aN];rw[show((by_,g,(0:Int),()):List ByteArray×au×Int×Unit)=(fun i:Nat=>(by_,g,(i:Int),())) 0 from rfl]
 rw[cr (fun i:Nat=>(by_,g,(i:Int),())) (fun i=>bj (g.2.2.2.2.getD i ab.aa)&&(decide (keyOf (g.2.2.2.2.getD i ab.aa) by_=g.2.1)&&rA g.2.2.2.2 i)) g.2.2.2.2.length
  (e:=some (decide (0<=g.1)&&(dt g.2.1&&(bc g.2.2.1 0 99999&&((decide (g.2.2.2.1= -1)||bc g.2.2.2.1 g.2.2.1 99999)&&decide (0<g.2.2.2.2.length)))),())) (no:=some (false,())) ?_ ?_ k 0 (by omega)]
 unfold dN qp;cases bA 0 g.2.2.2.2.length (fun i=>bj (g.2.2.2.2.getD i ab.aa)&&(decide (keyOf (g.2.2.2.2.getD i ab.aa) by_=g.2.1)&&rA g.2.2.2.2 i))<;>simp;intro G i c;simp only[m_];obtain⟨o,hml⟩:=fo Q d c;have hkl:=Bd Q (g.2.2.2.2.getD i ab.aa) by_;rw[aH,c_ c,an rfl,an (aA c),gK Q o,eD,aV (by omega),tR (by omega)];rw[show((i:Int)-1).toNat=i-1 by omega];simp only[aA c,aIg,if_true];rw[an (by simp;omega),jg Q o p];cases bj (g.2.2.2.2.getD i ab.aa)with
 |false=>simp
 |true=>
  simp only[aIC,beq_self_eq_true,Bool.true_and];by_cases m:i=0;subst m;have n:=dF Q (a:=keyOf (g.2.2.2.2.getD 0 ab.aa) by_) (b:=g.2.1) (by omega);simp[n,rA,-aId];have f:(0:Int)<(i:Int):=by omega
  have h:0<i:=by omega
  obtain⟨hm1,j⟩:=fo Q d (show i-1<g.2.2.2.2.length by omega);rw[me Q j];unfold rA;cases bI (g.2.2.2.2.getD (i-1) ab.aa).1 (g.2.2.2.2.getD i ab.aa).1 with
  |false=>simp[m,f,h,-aId]
  |true=>
   have n:=dF Q (a:=keyOf (g.2.2.2.2.getD i ab.aa) by_) (b:=g.2.1) (by omega);simp[n,m,f,h,-aId]
 intro G i c;simp only;rw[aH,decide_eq_false (by omega),a_ (by simp)];simp only[fS Q,ly Q (show af (.sl al) g.2.1<=1048576 by omega),bZ,eD];have q:decide (g.1>=(0:Int))=decide (0<=g.1):=rfl;have r:decide ((g.2.2.2.2.length:Int)>(0:Int))=decide (0<g.2.2.2.2.length):=by simp
 have s:((g.2.2.2.1:Int)==(-1:Int))=decide (g.2.2.2.1= -1):=by rw[aIj];simp
 rw[q,r,s];generalize decide (0<=g.1)=b1;generalize dt g.2.1=b2;generalize bc g.2.2.1 0 99999=b3;generalize decide (g.2.2.2.1= -1)=b4;generalize bc g.2.2.2.1 g.2.2.1 99999=b5;generalize decide (0<g.2.2.2.2.length)=b6;cases b1<;>cases b2<;>cases b3<;>cases b4<;>cases b5<;>cases b6<;>simp
def nV{l:List au}{i:Nat}(hs:af (.sl aj) l<=1048576)(b:i<l.length):af aj (l.getD i aj.aa)<=1048576/\(l.getD i aj.aa).2.1.length<=1048576:=by
 have a:af aj (l.getD i aj.aa)<=1048576:=aIh (cI (e:=aj) (cT b)) hs;refine⟨a,?_⟩;rw[cn Q]at a;have:=ay (e:=al) (l:=(l.getD i aj.aa).2.1);omega
def F8{l:List au}{key:List ai}(hs:af (.sl aj) l<=1048576):
 ∃r:Int,jG k (l,key,())=some (r,())/\(∀i:Nat,i<l.length->(l.getD i aj.aa).2.1=key->(r=(i:Int)↔∀j,j<i->(l.getD j aj.aa).2.1≠key)):=by
 have hl:=ay (e:=aj) (l:=l);simp only[jG]
 have main:∀(m a:Nat),l.length-a<m->(∀j,j<a->(l.getD j aj.aa).2.1≠key)->∃r:Int,aM m (fun q (b:List ai×List au×Int×Int×Unit)=>
  if(decide ((b.2.2.2.1:Int)<b.2.2.1))=true then
   if(decide (0<=b.2.2.2.1/\b.2.2.2.1<((aIf b.2.1:Nat):Int)))=true then
    aIK (cg k (((aIy b.2.1 (aIl b.2.2.2.1) aj.aa).2).1,b.1,())) fun(t:Bool×Unit)=>
    if t.1=true then
     some (b.2.2.2.1,())
    else
     q (b.1,b.2.1,b.2.2.1,IntKind.i64.wrap (b.2.2.2.1+(1:Int)),())
   else
    none
  else
   some ((-1:Int),())) (key,l,(l.length:Int),(a:Int),())=some (r,())/\(∀i:Nat,i<l.length->(l.getD i aj.aa).2.1=key->(r=(i:Int)↔∀j,j<i->(l.getD j aj.aa).2.1≠key)):=by
  intro m
  induction m with
  |zero=>intro a h;omega
  |succ m u=>
   intro a h c;simp only[aM,m_];by_cases n:a<l.length;rw[aH,c_ n,an rfl,an (aA n),du Q (nV Q hs n).2,eD];by_cases o:(l.getD a aj.aa).2.1=key;rw[an (by simpa using o)];refine⟨_,rfl,fun i s f=> ?_⟩;constructor;intro e j p;exact c j (by omega);intro g;rcases Nat.lt_trichotomy a i with d|d|d;exact absurd o (g a d);rw[d];exact absurd f (c i d);rw[a_ (by simpa using o),aV (by omega)];refine u (a+1) (by omega) (fun j p=> ?_);rcases Nat.lt_or_ge j a with d|d;exact c j d;rw[show j=a by omega];exact o;rw[aH,decide_eq_false n,a_ (by simp)];refine⟨-1,rfl,fun i s f=> ?_⟩;exact absurd f (c i (by omega))
 exact main k 0 (by omega) (fun j p=>by omega)
theorem Qg(l:List au)(i:Nat):mQ l i=true↔∀j,j<i->(l.getD j aj.aa).2.1≠(l.getD i aj.aa).2.1:=by
 unfold mQ;rw[ck];simp only[Bool.not_eq_true',d_];exact⟨fun h j a=>h j (by omega) a,fun h j _ a=>h j a⟩
def Da{l:List au}{by_:List ByteArray}(hs:af (.sl aj) l<=1048576)(o:by_.length<=1048576):l0 k (l,by_,())=some (dR l by_,()):=by
 have hl:=ay (e:=aj) (l:=l);simp only[l0];rw[show((l,by_,l,(l.length:Int),(0:Int),()):List au×List ByteArray×List au×Int×Int×Unit)=(fun i:Nat=>(l,by_,l,(l.length:Int),(i:Int),())) 0 from rfl];rw[cr (fun i:Nat=>(l,by_,l,(l.length:Int),(i:Int),())) (fun i=>decide (i<12)&&(dN (l.getD i aj.aa) by_&&(AA l i&&mQ l i))) l.length (e:=some (true,())) (no:=some (false,())) ?_ ?_ k 0 (by omega)];unfold dR;rw[jH,Ul];cases bA 0 l.length (fun i=>dN (l.getD i aj.aa) by_&&(AA l i&&mQ l i))<;>by_cases h:l.length<=12<;>simp[h];intro G i g;simp only[m_];obtain⟨p,hml⟩:=nV Q hs g;obtain⟨r,q,a⟩:=F8 Q (key:=(l.getD i aj.aa).2.1) hs;have a:=a i g rfl;rw[<-Qg Q]at a;rw[aH,c_ g,an rfl,an (aA g),Gz Q p o,aV (by omega),tR (by omega)];simp only[bZ,eD];rw[show((i:Int)-1).toNat=i-1 by omega,q,an (by simp;omega)];unfold AA;by_cases mE:i<12;have b:¬(12:Int)<=(i:Int):=by omega
 cases dN (l.getD i aj.aa) by_ with
 |false=>simp[mE,b,-aId]
 |true=>
  by_cases m:i=0;subst m;cases j:mQ l 0 with
  |true=>rw[j]at a;have:=a.2 rfl;simp[this,-aId]
  |false=>rw[j]at a;have:¬r=0:=fun e=>by have:=a.1 e;cases this
          simp[this,-aId]
  have d:(0:Int)<(i:Int):=by omega
  have f:0<i:=by omega
  by_cases n:(l.getD (i-1) aj.aa).1<(l.getD i aj.aa).1;have c:¬(l.getD i aj.aa).1<=(l.getD (i-1) aj.aa).1:=by omega
  cases j:mQ l i with
  |true=>rw[j]at a;have:=a.2 rfl;simp[this,mE,b,m,d,f,n,c,-aId]
  |false=>rw[j]at a;have:¬r=(i:Int):=fun e=>by have:=a.1 e;cases this
          simp[this,mE,b,m,d,f,n,c,-aId]
  have c:(l.getD i aj.aa).1<=(l.getD (i-1) aj.aa).1:=by omega
  simp[mE,b,m,d,f,n,c,-aId]
 have b:(12:Int)<=(i:Int):=by omega
 simp[mE,b,-aId];intro G i g;simp only;rw[aH,decide_eq_false (by omega),a_ (by simp)]
def Ed{l:List au}{by_:List ByteArray}(hs:af (.sl aj) l<=1048576)(p:by_.length<=1048576):lZ k (l,by_,())=some (dR l by_,()):=by
 have hl:=ay (e:=aj) (l:=l);simp only[lZ,aN];rw[show((l,by_,(0:Int),()):List au×List ByteArray×Int×Unit)=(fun i:Nat=>(l,by_,(i:Int),())) 0 from rfl];rw[cr (fun i:Nat=>(l,by_,(i:Int),())) (fun i=>dN (l.getD i aj.aa) by_&&(AA l i&&mQ l i)) l.length (e:=some (decide (l.length<=12),())) (no:=some (false,())) ?_ ?_ k 0 (by omega)];unfold dR;cases bA 0 l.length (fun i=>dN (l.getD i aj.aa) by_&&(AA l i&&mQ l i))<;>simp;intro G i c;simp only[m_];obtain⟨s,hml⟩:=nV Q hs c;rw[aH,c_ c,an rfl,an (aA c),Fv Q s p,eD,tR (by omega)];rw[show((i:Int)-1).toNat=i-1 by omega,an (by simp;omega)];simp only[aA c,aIg,if_true]
 have inner:aM k (fun n (a:List au×List ByteArray×Int×Int×Unit)=>
  if(decide ((a.2.2.2.1:Int)<a.2.2.1))=true then
   if(decide (0<=a.2.2.2.1/\a.2.2.2.1<((aIf a.1:Nat):Int)))=true then
    if(decide (0<=a.2.2.1/\a.2.2.1<((aIf a.1:Nat):Int)))=true then
     aIK (cL k (((aIy a.1 (aIl a.2.2.2.1) aj.aa).2).1,((aIy a.1 (aIl a.2.2.1) aj.aa).2).1,())) fun(q:Bool×Unit)=>
     if q.1=true then
      some (false,())
     else
      n (a.1,a.2.1,a.2.2.1,IntKind.i64.wrap (a.2.2.2.1+(1:Int)),())
    else
     none
   else
    none
  else
   G (a.1,a.2.1,IntKind.i64.wrap (a.2.2.1+(1:Int)),())) (l,by_,(i:Int),(0:Int),())=if mQ l i=true then G (l,by_,((i+1:Nat):Int),())else some (false,()):=by
  rw[show((l,by_,(i:Int),(0:Int),()):List au×List ByteArray×Int×Int×Unit)=(fun j:Nat=>(l,by_,(i:Int),(j:Int),())) 0 from rfl];rw[cr (fun j:Nat=>(l,by_,(i:Int),(j:Int),())) (fun j=> !decide ((l.getD j aj.aa).2.1=(l.getD i aj.aa).2.1)) i (e:=G (l,by_,((i+1:Nat):Int),())) (no:=some (false,())) ?_ ?_ k 0 (by omega)];rfl;intro o j h;simp only[m_];rw[aH,c_ h,an rfl,an (aA (by omega)),an (aA c),dF Q (nV Q hs (show j<l.length by omega)).2,eD,aV (by omega)];by_cases r:(l.getD j aj.aa).2.1=(l.getD i aj.aa).2.1<;>simp[r,-aId];intro o j h;simp only;rw[aH,decide_eq_false (by omega),a_ (by simp),aV (by omega)]
 rw[inner];unfold AA;cases dN (l.getD i aj.aa) by_ with
 |false=>simp
 |true=>
  by_cases g:i=0;subst g;simp;have d:(0:Int)<(i:Int):=by omega
  have f:0<i:=by omega
  by_cases m:(l.getD (i-1) aj.aa).1<(l.getD i aj.aa).1;have b:¬(l.getD i aj.aa).1<=(l.getD (i-1) aj.aa).1:=by omega
  simp[g,d,f,m,b,-aId];have b:(l.getD i aj.aa).1<=(l.getD (i-1) aj.aa).1:=by omega
  simp[g,d,f,m,b,-aId]
 intro G i c;simp only;rw[aH,decide_eq_false (by omega),a_ (by simp)];congr 2;rw[aIj];simp;omega
end
def pE(l:List bg):Bool:=bA 0 l.length (fun i=>eL (l.getD i aU.aa))
section
variable{k:Nat}(Q:9223372036854775808<=k)
include Q
def rU{c:bh}{a:ae}(hs:af ab a<=1048576):lO k (c,a,())=some (cw a,()):=by
 simp only[lO];rw[gK Q hs];simp only[eD,cw,wQ]
def xB{c:bh}{a:ae}(hs:af ab a<=1048576):mU k (c,a,())=some (cw a,()):=by
 simp only[mU];rw[jz Q hs];simp only[eD,cw,wQ]
def LO{s:bg}(hs:af aU s<=1048576):pT k (s,())=some (eL s,()):=by
 rw[eG Q]at hs;have hl:=ay (e:=ab) (l:=s.1);simp only[pT,aN];rw[show((s,(0:Int),()):bg×Int×Unit)=(fun i:Nat=>(s,(i:Int),())) 0 from rfl];rw[cr (fun i:Nat=>(s,(i:Int),())) (fun i=>bj (s.1.getD i ab.aa)) s.1.length (e:=some (decide (s.1.length<=3)&&(!s.2||decide (s.1.length=0)),())) (no:=some (false,())) ?_ ?_ k 0 (by omega)];unfold eL bB;cases bA 0 s.1.length (fun i=>bj (s.1.getD i ab.aa))<;>simp;intro G i a;simp only[m_];rw[aH,c_ a,an rfl,an (aA a),gK Q (fo Q hs a).1,eD,aV (by omega)];cases bj (s.1.getD i ab.aa)<;>simp;intro G i a;simp only;rw[aH,decide_eq_false (by omega),a_ (by simp)];congr 2;by_cases h:s.1.length<=3;have c:(s.1.length:Int)<=3:=by omega
 by_cases b:s.1.length=0;cases s.2<;>simp[b];have h0':¬(s.1.length:Int)=0:=by omega
 cases s.2<;>simp[h,c,b]<;>(intro e;rw[e]at b;exact b rfl)
 have c:¬(s.1.length:Int)<=3:=by omega
 simp[h,c]
def K9{s:bg}(hs:af aU s<=1048576):pV k (s,())=some (eL s,()):=by
 rw[eG Q]at hs;have hl:=ay (e:=ab) (l:=s.1);simp only[pV];rw[kQ Q hs];unfold eL;cases s.2 with
 |true=>
  simp only[if_true];congr 2;by_cases a:s.1=[]
  rw[a];rfl;have h1:¬s.1.length=0:=fun e=>a (List.eq_nil_of_length_eq_zero e);simp[a]
 |false=>
  by_cases h:s.1.length<=3;have b:(s.1.length:Int)<=3:=by omega
  simp[h,b];have b:¬(s.1.length:Int)<=3:=by omega
  simp[h,b]
theorem MJ{l:List bg}{i:Nat}(hs:af (.sl aU) l<=1048576)(a:i<l.length):af aU (l.getD i aU.aa)<=1048576:=
 aIh (cI (e:=aU) (cT a)) hs
def BR{l:List bg}{c:bh}(hs:af (.sl aU) l<=1048576):lp k (l,c,())=some (pE l&&decide ((l.length:Int)=c.2.2.1),()):=by
 have hl:=ay (e:=aU) (l:=l);simp only[lp,aN];rw[show((l,c,l,(l.length:Int),(0:Int),()):List bg×bh×List bg×Int×Int×Unit)=(fun i:Nat=>(l,c,l,(l.length:Int),(i:Int),())) 0 from rfl];rw[cr (fun i:Nat=>(l,c,l,(l.length:Int),(i:Int),())) (fun i=>eL (l.getD i aU.aa)) l.length (e:=some (decide ((l.length:Int)=c.2.2.1),())) (no:=some (false,())) ?_ ?_ k 0 (by omega)];unfold pE;cases bA 0 l.length (fun i=>eL (l.getD i aU.aa))<;>simp;intro G i a;simp only[m_];rw[aH,c_ a,an rfl,an (aA a),K9 Q (MJ Q hs a),eD,aV (by omega)];cases eL (l.getD i aU.aa)<;>simp;intro G i a;simp only;rw[aH,decide_eq_false (by omega),a_ (by simp)];congr 2
end
def I4(n:Int):IntKind.u32.wrap n=n%4294967296:=by
 simp[IntKind.wrap,IntKind.signed,IntKind.bits]
def Yv{a b:Nat}(c:a<4294967296)(d:b<4294967296):bits (fun _=>(·^^^·)) .i64 (a:Int) (b:Int)=((a^^^b:Nat):Int):=by
 have hx:a^^^b<2^32:=aIt (by simpa using c) (by simpa using d);change IntKind.i64.wrap (((BitVec.ofInt 64 (a:Int)^^^BitVec.ofInt 64 (b:Int)).toNat:Nat):Int)=_;rw[BitVec.toNat_xor,BitVec.toNat_ofInt,BitVec.toNat_ofInt];have e:((a:Int)%((2^64:Nat):Int)).toNat=a:=by omega
 have f:((b:Int)%((2^64:Nat):Int)).toNat=b:=by omega
 rw[e,f,wrap64 (by omega) (by omega)]
def Yq{a b:Nat}(c:a<4294967296)(d:b<4294967296):bits (fun _=>(·^^^·)) .u32 (a:Int) (b:Int)=((a^^^b:Nat):Int):=by
 have hx:a^^^b<2^32:=aIt (by simpa using c) (by simpa using d);change IntKind.u32.wrap (((BitVec.ofInt 32 (a:Int)^^^BitVec.ofInt 32 (b:Int)).toNat:Nat):Int)=_;rw[BitVec.toNat_xor,BitVec.toNat_ofInt,BitVec.toNat_ofInt];have e:((a:Int)%((2^32:Nat):Int)).toNat=a:=by omega
 have f:((b:Int)%((2^32:Nat):Int)).toNat=b:=by omega
 rw[e,f,I4];omega
def YC{a:Nat}(ha:a<9223372036854775808):bits (fun _=>(· &&& ·)) .i64 (a:Int) (4294967295:Int)=((a%4294967296:Nat):Int):=by
 change IntKind.i64.wrap (((BitVec.ofInt 64 (a:Int) &&& BitVec.ofInt 64 (4294967295:Int)).toNat:Nat):Int)=_;rw[BitVec.toNat_and,BitVec.toNat_ofInt,BitVec.toNat_ofInt];have b:((a:Int)%((2^64:Nat):Int)).toNat=a:=by omega
 have c:((4294967295:Int)%((2^64:Nat):Int)).toNat=2^32-1:=by decide
 rw[b,c,Nat.and_two_pow_sub_one_eq_mod,wrap64 (by omega) (by omega)]
def YA(s:ByteArray)(i:Int):∃b:Nat,bt s i=(b:Int)/\b<256:=by
 unfold bt;exact⟨_,rfl,(s.data.toList.getD i.toNat 0).toNat_lt⟩
def NF{n:Nat}(a:n<4294967296)(s:ByteArray)(i:Int):∃m:Nat,m<4294967296/\
 bits (fun _=>(· &&& ·)) .i64 (IntKind.i64.wrap ((bits (fun _=>(·^^^·)) .i64 (n:Int) (IntKind.i64.wrap (bt s i)))*(16777619:Int))) (4294967295:Int)=(m:Int)/\
 IntKind.u32.wrap ((bits (fun _=>(·^^^·)) .u32 (n:Int) (IntKind.u32.wrap (bt s i)))*(16777619:Int))=(m:Int):=by
 obtain⟨b,d,hlt⟩:=YA s i;have c:n^^^b<2^32:=aIt (by simpa using a) (by omega);rw[d,wrap64 (n:=(b:Int)) (by omega) (by omega),I4 (b:Int),show((b:Int)%4294967296)=(b:Int) by omega,Yv a (by omega),Yq a (by omega)];generalize n^^^b=x at c;rw[wrap64 (by omega) (by omega),show((x:Int)*16777619)=((x*16777619:Nat):Int) by omega,YC (by omega),I4];exact⟨x*16777619%4294967296,by omega,rfl,by omega⟩
section
variable{k:Nat}(Q:9223372036854775808<=k)
include Q
theorem W9{s:ByteArray}(hs:s.size<=4294967296):∃n:Int,kU k (s,())=some (n,())/\pS k (s,())=some (n,()):=by
 have h:∃r:Int×Unit,kU k (s,())=some r/\∃n:Nat,r.1=(n:Int)/\n<4294967296:=by
  simp only[kU];refine UR (fun(t:ByteArray×Int×Int×Unit)=>s.size-t.2.2.1.toNat) (fun(t:ByteArray×Int×Int×Unit)=>t.1=s/\(∃n:Nat,t.2.1=(n:Int)/\n<4294967296)/\0<=t.2.2.1/\t.2.2.1<=(s.size:Int)) _ ?_ k _ ⟨rfl,⟨2166136261,rfl,by omega⟩,by simp,by simp⟩ (by simp only;omega);rintro G ⟨s',n,i,u⟩ ⟨e1,⟨m,e2,hm⟩,hi0,hi1⟩ hG;change s'=s at e1;change n=_ at e2;subst e1 e2;simp only at hi0 hi1 hG|-;by_cases d:i<(s'.size:Int);rw[an (by simpa using d),an (by simpa using⟨hi0,d⟩)];obtain⟨e,c,q1,_⟩:=NF hm s' i;rw[q1,wrap64 (by omega) (by omega)];exact hG (s',_,i+1,()) ⟨rfl,⟨e,rfl,c⟩,by simp only;omega,by simp only;omega⟩ (by simp only;omega);rw[a_ (by simpa using d)];exact⟨_,rfl,m,rfl,hm⟩
 have j:kU k (s,())=pS k (s,()):=by
  simp only[kU,pS,aN];refine Xy (fun(t f:ByteArray×Int×Int×Unit)=>t=f/\∃n:Nat,t.2.1=(n:Int)/\n<4294967296) (fun a b=>a=b) rfl ?_ k _ _ ⟨rfl,2166136261,rfl,by omega⟩;rintro G G' ⟨s1,n,i,u⟩ f ⟨rfl,m,e2,hm⟩ hG;change n=_ at e2;subst e2;simp only;obtain⟨e,c,q1,q2⟩:=NF hm s1 i;split;split;rw[q1,q2];exact hG _ _ ⟨rfl,e,rfl,c⟩;rfl;rw[wrap64 (by omega) (by omega)]
 obtain⟨⟨n,u⟩,g,_⟩:=h;exact⟨n,g,j▸g⟩
def QU(x:ai):ByteArray:=((x.1++(⟨#[61,34]⟩:ByteArray))++x.2)++(⟨#[34]⟩:ByteArray)
def tx(l:List ai):Nat->ByteArray
 |0=>⟨#[123]⟩
 |i+1=>((((if i=0 then tx l i else tx l i++(⟨#[44,32]⟩:ByteArray))++(l.getD i al.aa).1)++(⟨#[61,34]⟩:ByteArray))++(l.getD i al.aa).2)++(⟨#[34]⟩:ByteArray)
theorem IN{l:List ai}(h:dt l=true):∀i,i<=l.length->(tx l i).size<=1+25*i:=by
 simp only[dt,aIk,ck]at h;intro i
 induction i with
 |zero=>intro _;simp[tx,ByteArray.size]
 |succ i b=>
  intro hi;have:=b (by omega);have a:=h.2 i (by omega) (by omega);simp only[eO,ff,jf,aIk,b_]at a;simp only[tx,ByteArray.size_append];have e1:(⟨#[61,34]⟩:ByteArray).size=2:=rfl;have e2:(⟨#[34]⟩:ByteArray).size=1:=rfl;have e3:(⟨#[44,32]⟩:ByteArray).size=2:=rfl;split;omega;rw[ByteArray.size_append];omega
def GM{l:List ai}(hs:af (.sl al) l<=1048576):nI k (l,())=some (if dt l=true then tx l l.length++(⟨#[125]⟩:ByteArray)else⟨#[]⟩,()):=by
 have hl:=ay (e:=al) (l:=l);simp only[nI,aN];rw[ly Q hs,eD];cases b:dt l with
 |false=>simp
 |true=>
  have g:=IN Q b;have a:=b;simp only[dt,aIk,ck,b_]at a;rw[a_ (by simp),an rfl];rw[show((l,(⟨#[123]⟩:ByteArray),(0:Int),()):List ai×ByteArray×Int×Unit)=(fun i:Nat=>(l,tx l i,(i:Int),())) 0 from rfl];have h:(⟨#[61,34]⟩:ByteArray).size=2:=rfl;have j:(⟨#[34]⟩:ByteArray).size=1:=rfl;have m:(⟨#[44,32]⟩:ByteArray).size=2:=rfl;have o:(⟨#[125]⟩:ByteArray).size=1:=rfl;refine bG (fun i:Nat=>(l,tx l i,(i:Int),())) l.length ?_ ?_ k 0 (by omega) (by omega);intro G i d;have f:=g i (by omega);have c:=a.2 i (by omega) d;simp only[eO,ff,jf,aIk,b_]at c;simp only[m_];rw[aH,c_ d,an rfl];by_cases n:i=0;subst n;have p:(tx l 0).size=1:=rfl;rw[a_ (by simp)];simp only[aA d,if_true,ByteArray.size_append,h,j,p];rw[an (by simp only[b_];omega),an (by simp only[b_];omega),an (by simp only[b_];omega),an (by simp only[b_];omega),aV (by omega)];rfl;have h0n:0<i:=by omega
  rw[an (by simp;omega),an (by simp only[m,b_];omega)];simp only[aA d,if_true,ByteArray.size_append,h,j,m];rw[an (by simp only[b_];omega),an (by simp only[b_];omega),an (by simp only[b_];omega),an (by simp only[b_];omega),aV (by omega)];simp only[tx,a_ n];intro G;have f:=g l.length (by omega);simp only;rw[aH,decide_eq_false (by omega),a_ (by simp),an (by simp only[o,b_];omega)]
def pl(l:List ai)(i:Nat):List ByteArray:=(List.range i).map (fun j=>QU (l.getD j al.aa))
theorem PF(l:List ai)(i:Nat):pl l (i+1)=pl l i++[QU (l.getD i al.aa)]:=by
 simp[pl,List.range_succ]
theorem R5(xs:List (List UInt8))(y sep:List UInt8):Lib.join (xs++[y]) sep=if xs=[]then y else Lib.join xs sep++sep++y:=by
 cases xs with
 |nil=>simp[Lib.join_one]
 |cons x r=>
  rw[a_ (by simp),List.cons_append,Lib.join_cons,Lib.join_cons];simp[Lib.joinTail,aIJ]
def PO(l:List ai):∀i,(tx l i).data.toList=123::CV (pl l i) ⟨#[44,32]⟩:=by
 intro i
 induction i with
 |zero=>rfl
 |succ i c=>
  unfold CV at c|-;rw[PF Q,List.map_append,List.map_singleton,R5 Q];simp only[tx,QU];by_cases a:i=0;subst a;simp[pl,tx,ByteArray.data_append]
  have b:List.map (fun x=>x.data.toList) (pl l i)≠ []:=by
   intro e;have:=congrArg aIf e;simp[pl]at this;exact a this
  rw[a_ a,a_ b];simp only[ByteArray.data_append,aID,c];simp[aIJ]
theorem Sx{a b:ByteArray}(h:a.data.toList=b.data.toList):a=b:=by
 cases a;cases b;simp at h;rw[h]
def GO{l:List ai}(hs:af (.sl al) l<=1048576):nJ k (l,())=some (if dt l=true then tx l l.length++(⟨#[125]⟩:ByteArray)else⟨#[]⟩,()):=by
 have hl:=ay (e:=al) (l:=l);simp only[nJ,aN];rw[oM Q hs,eD];cases c:dt l with
 |false=>simp
 |true=>
  have hb:=IN Q c l.length (by omega);have a:=c;simp only[dt,aIk,ck,b_]at a;rw[a_ (by simp),an rfl];rw[show((([]:List ByteArray),l,(l.length:Int),(0:Int),()):List ByteArray×List ai×Int×Int×Unit)=(fun i:Nat=>(pl l i,l,(l.length:Int),(i:Int),())) 0 from rfl];have g:(⟨#[61,34]⟩:ByteArray).size=2:=rfl;have h:(⟨#[34]⟩:ByteArray).size=1:=rfl;refine bG (fun i:Nat=>(pl l i,l,(l.length:Int),(i:Int),())) l.length ?_ ?_ k 0 (by omega) (by omega);intro G i f;have d:=a.2 i (by omega) f;simp only[eO,ff,jf,aIk,b_]at d;have b:(pl l i).length=i:=by simp[pl]
  simp only[m_];rw[aH,c_ f,an rfl,an (aA f)];simp only[ByteArray.size_append,g,h];rw[an (by simp only[b_];omega),an (by simp only[b_];omega),an (by simp only[b_];omega),an (by simp only[b_,aIo,b];omega),aV (by omega),PF Q];rfl;intro G;simp only;rw[aH,decide_eq_false (by omega),a_ (by simp)]
  have hj:(CV (pl l l.length) ⟨#[44,32]⟩).length<=1+25*l.length:=by
   have:=PO Q l l.length;have j:=congrArg aIf this;simp only[Array.length_toList,aIv]at j;have h3:(tx l l.length).data.size=(tx l l.length).size:=rfl;omega
  have b:(pl l l.length).length=l.length:=by simp[pl]
  simp only[qA,Tw];rw[an ⟨by rw[b];omega,by omega⟩,eD];simp only[ByteArray.size_append];have m:(⟨(CV (pl l l.length) ⟨#[44,32]⟩).toArray⟩:ByteArray).size=(CV (pl l l.length) ⟨#[44,32]⟩).length:=by simp[ByteArray.size]
  have n:(⟨#[123]⟩:ByteArray).size=1:=rfl;have o:(⟨#[125]⟩:ByteArray).size=1:=rfl;rw[m,n,o,an (by simp only[b_];omega),an (by simp only[b_];omega)];congr 2;refine Sx Q ?_;simp only[ByteArray.data_append,aID];rw[PO Q];simp
def KE{l:List ai}(hs:af (.sl al) l<=1048576):∃n:Int,dg k (l,())=some (n,())/\eP k (l,())=some (n,()):=by
 simp only[dg,eP];rw[GM Q hs,GO Q hs];simp only[eD]
 have b:(if dt l=true then tx l l.length++(⟨#[125]⟩:ByteArray)else⟨#[]⟩).size<=4294967296:=by
  split;rename_i a;have hb:=IN Q a l.length (by omega)
  have hl:l.length<=4:=by
   simp only[dt,aIk,b_]at a;exact a.1
  have e4:(⟨#[125]⟩:ByteArray).size=1:=rfl;rw[ByteArray.size_append];omega;simp[ByteArray.size]
 obtain⟨n,q1,q2⟩:=W9 Q b;rw[q1,q2];simp only[eD];rw[an (by simp),an (by simp)];exact⟨_,rfl,rfl⟩
theorem R3(f n:Int):gQ k (f,n,())=eY k (f,n,()):=rfl
def dh{a:ae}(h:af ab a<=1073741824):bE k (a,())=some (a,()):=by
 have h1:=bo Q a;have h2:=ay (e:=al) (l:=a.1);simp only[bE];rw[an (by simp;omega)];simp
theorem ry{l:List ai}(h:l.length<=1073741824):fP k (l,())=some (l,()):=by
 simp only[fP];rw[an (by simp;omega)];simp
def jK{a:ae}(h:af ab a<=1073741824):c9 k (a,())=some (a,()):=by
 have h1:=bo Q a;have h2:=ay (e:=al) (l:=a.1);simp only[c9];rw[ry Q (by omega),eD]
def fB{l:List ae}(h:af (.sl ab) l<=1073741824):cm k (l,())=some (l,()):=
 EA (d:=ab.aa) (S:=bE k) Q (aIh (ay (e:=ab)) h) (fun e a=>dh Q (aIh (cI (e:=ab) a) h))
def fR{l:List ae}(h:af (.sl ab) l<=1073741824):dj k (l,())=some (l,()):=
 Pw (d:=ab.aa) (S:=c9 k) Q (aIh (ay (e:=ab)) h) (fun e a=>jK Q (aIh (cI (e:=ab) a) h))
def xL{g:au}(h:af aj g<=1073741824):ga k (g,())=some (g,()):=by
 have h1:=cn Q g;have h2:=ay (e:=al) (l:=g.2.1);simp only[ga];rw[an (by simp;omega),fB Q (by omega),eD];simp
def PC{g:au}(h:af aj g<=1073741824):kX k (g,())=some (g,()):=by
 have h1:=cn Q g;have h2:=ay (e:=al) (l:=g.2.1);simp only[kX];rw[ry Q (by omega),eD,fR Q (by omega),eD]
def Ct{b:br}(h1:af (.sl al) b.2.1<=1073741824)(h3:af (.sl ab) b.2.2.2<=1073741824):gJ k (b,())=some (b,()):=by
 have h2:=ay (e:=al) (l:=b.2.1);simp only[gJ];rw[an (by simp;omega),fB Q (by omega),eD];simp
def F0{c:bh}(h:af cM c<=1073741824):kB k (c,())=some (c,()):=by
 have h1:=kF Q c;have h2:=ay (e:= .str) (l:=c.2.2.2.2.2);simp only[kB];rw[an (by simp;omega)];simp
def Pl{c:bh}(h:af cM c<=1073741824):mc k (c,())=some (c,()):=by
 have h1:=kF Q c;have h2:=ay (e:= .str) (l:=c.2.2.2.2.2);simp only[mc];rw[an (by simp;omega)];simp
def dC(O:Int)(l:List ae):List ae:=l.filter fun a=> !decide (a.2.2.1<=O)
omit Q in
theorem xZ{O:Int}{l:List ae}{i:Nat}(h:i<l.length):dC O (l.take (i+1))=if(!decide ((l.getD i ab.aa).2.2.1<=O))=true then dC O (l.take i)++[l.getD i ab.aa]else dC O (l.take i):=by
 rw[jU ab.aa h,dC,dC,List.filter_append,filter_one];split<;>simp
omit Q in
theorem zV{O:Int}{l:List ae}:(dC O l).length<=l.length:=aIB ..
omit Q in
theorem NX{O:Int}{l:List ae}:af (.sl ab) (dC O l)<=af (.sl ab) l:=vn (e:=ab) _ l
def Yi{l:List ae}{O:Int}(h:af (.sl ab) l<=1073741824):S2 k (l,O,())=some (dC O l,()):=by
 have hl:=ay (e:=ab) (l:=l);simp only[S2];refine bG (fun i=>(O,dC O (l.take i),l,(l.length:Int),(i:Int),())) l.length (fun G i a=> ?_) (fun G=> ?_) k 0 (by omega) (by omega);have hm:=cI (e:=ab) (cT (d:=ab.aa) a);have b:=zV (O:=O) (l:=l.take i);rw[aIm]at b;simp only[aH,aA a,a,decide_true,if_true,m_,V3,eD];rw[jK Q (by omega),xZ a,aV (by omega)];simp only[eD];split;rw[an (by simp;omega)];rfl;simp
def hZ(g:au)(O:Int):au:=(g.1,g.2.1,g.2.2.1,O,dC O g.2.2.2.2)
def sK(g:au)(O:Int):br:=(g.1,g.2.1,O,g.2.2.2.2)
def LC{g:au}{O:Int}(h:af aj g<=1073741824):pQ k (g,O,())=some (hZ g O,sK g O,()):=by
 have h1:=cn Q g;have hl:=ay (e:=ab) (l:=g.2.2.2.2);simp only[pQ,aN];rw[xL Q h,eD];refine bG (fun i=>(O,g,_,_,(g.1,g.2.1,g.2.2.1,O,dC O (g.2.2.2.2.take i)),(i:Int),())) g.2.2.2.2.length (fun G i a=> ?_) (fun G=> ?_) k 0 (by omega) (by omega);have hm:=cI (e:=ab) (cT (d:=ab.aa) a);have b:=zV (O:=O) (l:=g.2.2.2.2.take i);rw[aIm]at b;simp only[aH,aA a,a,decide_true,if_true,m_,mV,eD];rw[dh Q (by omega),xZ a,aV (by omega)];simp only[eD];split;rw[an (by simp;omega)];rfl;simp only[aH,Nat.lt_irrefl,decide_false,aIi,if_false,aIM];rw[Ct Q (by simp only;omega) (by simp only;omega),eD];rfl
def QW{g:au}{O:Int}:af aj (hZ g O)<=af aj g:=by
 rw[cn Q,cn Q];have:=NX (O:=O) (l:=g.2.2.2.2);simp only[hZ];omega
def Qn{g:au}{O:Int}:af bM (sK g O)=af aj g:=by
 rw[cn Q,px Q];rfl
end
def cH(k:Nat)(l:List ai):Int:=match dg k (l,())with|some r=>r.1|none=>0
def dL(f n:Int):Int:=if n<1 then 0 else if f<0 then 0 else Int.tmod f n
def fI(l:List ae)(s:List ai):Option Nat:=gO l.length (fun i=>decide ((l.getD i ab.aa).1=s))
def vK(l:List ae):Bool:=bA 0 l.length (fun i=>bA 0 i (fun j=> !decide ((l.getD j ab.aa).1=(l.getD i ab.aa).1)))
def dn(k:Nat)(c:aP):Bool:=bA 0 c.2.length (fun i=>bj (c.2.getD i ab.aa)&&decide (cH k (c.2.getD i ab.aa).1=c.1))&&(decide (0<c.2.length)&&vK c.2)
def rF(l:List aP)(i:Nat):Bool:=i==0||decide ((l.getD (i-1) ax.aa).1<(l.getD i ax.aa).1)
def eQ(k:Nat)(p:ar)(i n:Int):Bool:=
 bA 0 p.2.2.length (fun j=>dn k (p.2.2.getD j ax.aa)&&(decide (dL (p.2.2.getD j ax.aa).1 n=i)&&rF p.2.2 j))&&(bc p.1 (-1) 4&&decide (0<=p.2.1))
def dp(k:Nat)(l:List ar):Bool:=bA 0 l.length (fun i=>eQ k (l.getD i ah.aa) i l.length)&&bc l.length 1 3
def dw{e:Ty}{l:List e.den}{i:Nat}{d:e.den}(a:i<l.length):af e (l.getD i d)+l.length<=af (.sl e) l:=by
 have h:=YG (f:=af e) (cT (d:=d) a);simp only[af];omega
section
variable{k:Nat}(Q:9223372036854775808<=k)
include Q
def eE{l:List ai}(hs:af (.sl al) l<=1048576):dg k (l,())=some (cH k l,()):=by
 obtain⟨n,a,h2⟩:=KE Q hs;unfold cH;rw[a]
def iC{l:List ai}(hs:af (.sl al) l<=1048576):eP k (l,())=some (cH k l,()):=by
 obtain⟨n,a,b⟩:=KE Q hs;unfold cH;rw[a,b]
theorem iw{f n:Int}:eY k (f,n,())=some (dL f n,()):=by
 simp only[eY,dL];by_cases a:n<1;simp[a];by_cases b:f<0;simp[a,b];have c:n≠0:=by omega
 simp[a,b,c]
def lU{f n:Int}:gQ k (f,n,())=some (dL f n,()):=by
 rw[R3 Q,iw Q]
omit Q in
theorem xV{f n:Int}(h:1<=n):0<=dL f n/\dL f n<n:=by
 unfold dL;rw[a_ (by omega)];split;omega;exact⟨Int.tmod_nonneg _ (by omega),Int.tmod_lt_of_pos _ (by omega)⟩
def Cn{l:List ae}{s:List ai}(hs:af (.sl ab) l<=1048576):gy k (l,s,())=some (eZ (fI l s),()):=by
 have hl:=ay (e:=ab) (l:=l);simp only[gy];refine(iZ (fun i:Nat=>(s,l,(l.length:Int),(i:Int),())) (fun i=>decide ((l.getD i ab.aa).1=s)) l.length (e:=some (-1,())) (fun i=>some ((i:Int),())) (fun G i a=> ?_) (fun G=> ?_) k (by omega)).trans ?_;obtain⟨h1,b⟩:=fo Q hs a;simp only[aH,aA a,a,decide_true,if_true,m_,du Q b,eD];rw[aV (by omega)];simp;unfold fI;cases gO l.length (fun i=>decide ((l.getD i ab.aa).1=s))<;>rfl
def qh{c:aP}{s:List ai}(hs:af (.sl ab) c.2<=1048576):gf k (c,s,())=some (eZ (fI c.2 s),()):=by
 have hl:=ay (e:=ab) (l:=c.2);simp only[gf];refine(iZ (fun i:Nat=>(s,c,(i:Int),())) (fun i=>decide ((c.2.getD i ab.aa).1=s)) c.2.length (e:=some (-1,())) (fun i=>some ((i:Int),())) (fun G i a=> ?_) (fun G=> ?_) k (by omega)).trans ?_;obtain⟨h1,b⟩:=fo Q hs a;simp only[aH,aA a,a,decide_true,if_true,m_,dF Q b,eD];rw[aV (by omega)];simp;unfold fI;cases gO c.2.length (fun i=>decide ((c.2.getD i ab.aa).1=s))<;>rfl
def Ax{c:aP}{s:List ai}(hs:af (.sl ab) c.2<=1048576):lx k (c,s,())=some (eZ (fI c.2 s),()):=by
 simp only[lx];rw[Cn Q hs,eD]
omit Q in
theorem QR{l:List ae}{i:Nat}(hi:i<l.length):(fI (l.take i) (l.getD i ab.aa).1=none)↔bA 0 i (fun j=> !decide ((l.getD j ab.aa).1=(l.getD i ab.aa).1))=true:=by
 unfold fI;rw[iR,ck];have c:(l.take i).length=i:=by simp;omega
 rw[c]
 have b:∀j,j<i->(l.take i).getD j ab.aa=l.getD j ab.aa:=by
  intro j a;simp[aId,List.getElem?_take,a]
 constructor;intro h j _ a;have:=h j a;rw[b j a]at this;simp only[this,aIs];intro h j a;have:=h j (by omega) a;rw[b j a];simpa using this
def Iu{l:List ae}(hs:af (.sl ab) l<=1048576):jl k (l,())=some (vK l,()):=by
 have hl:=ay (e:=ab) (l:=l);simp only[jl];refine(cr (fun i:Nat=>(l,l,(l.length:Int),(i:Int),())) (fun i=>bA 0 i (fun j=> !decide ((l.getD j ab.aa).1=(l.getD i ab.aa).1))) l.length (e:=some (true,())) (no:=some (false,())) ?_ ?_ k 0 (by omega)).trans ?_;intro G i a;have ht:=cN (e:=ab) l i;simp only[aH,aA a,a,decide_true,if_true,m_];rw[an (by simp;omega),Cn Q (by omega),eD,aV (by omega)];have key:=QR a;cases b:bA 0 i (fun j=> !decide ((l.getD j ab.aa).1=(l.getD i ab.aa).1))with
 |true=>
  rw[key.2 b];rfl
 |false=>
  cases c:fI (l.take i) (l.getD i ab.aa).1 with
  |none=>rw[key.1 c]at b;cases b
  |some j=>rw[an (by simp[eZ]),a_ (by simp)]
 intro G i a;simp only[aH];rw[a_ (by simp;omega)];unfold vK;split<;>simp_all
def uq{c:aP}(hs:af ax c<=1048576):nr k (c,())=some (dn k c,()):=by
 rw[cu Q]at hs;have hl:=ay (e:=ab) (l:=c.2);simp only[nr,aN]
 refine(cr (fun i:Nat=>(c,c.2,(c.2.length:Int),(i:Int),())) (fun i=>bj (c.2.getD i ab.aa)&&decide (cH k (c.2.getD i ab.aa).1=c.1)) c.2.length
  (e:=some (decide (0<c.2.length)&&vK c.2,())) (no:=some (false,())) ?_ ?_ k 0 (by omega)).trans ?_
 intro G i a;obtain⟨g,h2⟩:=fo Q hs a;have h3:=bo Q (c.2.getD i ab.aa);simp only[aH,aA a,a,decide_true,if_true,m_,jz Q g,iC Q (l:=(c.2.getD i ab.aa).1) (by omega),eD,bZ];rw[aV (by omega)];generalize bj (c.2.getD i ab.aa)=b1;generalize cH k (c.2.getD i ab.aa).1=f;cases b1<;>by_cases b:f=c.1<;>simp[b];intro G i a;simp only[aH];rw[a_ (by simp;omega),Iu Q hs];by_cases d:0<c.2.length<;>simp[d];unfold dn;cases bA 0 c.2.length (fun i=>bj (c.2.getD i ab.aa)&&decide (cH k (c.2.getD i ab.aa).1=c.1))<;>simp
def ub{c:aP}(hs:af ax c<=1048576):ny k (c,())=some (dn k c,()):=by
 rw[cu Q]at hs;have hl:=ay (e:=ab) (l:=c.2);simp only[ny,aN]
 refine(cr (fun i:Nat=>(c,(i:Int),())) (fun i=>(bj (c.2.getD i ab.aa)&&decide (cH k (c.2.getD i ab.aa).1=c.1))&&bA 0 i (fun j=> !decide ((c.2.getD j ab.aa).1=(c.2.getD i ab.aa).1))) c.2.length
  (e:=some (decide (0<c.2.length),())) (no:=some (false,())) ?_ ?_ k 0 (by omega)).trans ?_
 intro G i b;obtain⟨q,h2⟩:=fo Q hs b;have h3:=bo Q (c.2.getD i ab.aa);simp only[aH,aA b,b,decide_true,if_true,m_,gK Q q,eE Q (l:=(c.2.getD i ab.aa).1) (by omega),eD,bZ,aIg]
 have d:aM k (fun h (a:aP×Int×Int×Unit)=>
  if(decide ((a.2.2.1:Int)<a.2.1))=true then
   if(decide (0<=a.2.2.1/\a.2.2.1<((aIf a.1.2:Nat):Int)))=true then
    if(decide (0<=a.2.1/\a.2.1<((aIf a.1.2:Nat):Int)))=true then
     aIK (cL k ((aIy a.1.2 (aIl a.2.2.1) ab.aa).1,(aIy a.1.2 (aIl a.2.1) ab.aa).1,())) fun(n:Bool×Unit)=>
     if n.1=true then
      some (false,())
     else
      h (a.1,a.2.1,IntKind.i64.wrap (a.2.2.1+(1:Int)),())
    else
     none
   else
    none
  else
   G (a.1,IntKind.i64.wrap (a.2.1+(1:Int)),())) (c,(i:Int),(0:Int),())=
  if bA 0 i (fun j=> !decide ((c.2.getD j ab.aa).1=(c.2.getD i ab.aa).1))=true then G (c,((i+1:Nat):Int),())else some (false,()):=by
  refine cr (fun j:Nat=>(c,(i:Int),(j:Int),())) (fun j=> !decide ((c.2.getD j ab.aa).1=(c.2.getD i ab.aa).1)) i ?_ ?_ k 0 (by omega);intro m j g;obtain⟨h4,r⟩:=fo Q hs (i:=j) (by omega);simp only[aH,aA b,aA (show j<c.2.length by omega),b,g,decide_true,if_true,m_,dF Q r,eD];rw[aV (by omega)];by_cases o:(c.2.getD j ab.aa).1=(c.2.getD i ab.aa).1<;>simp only[o,decide_true,decide_false,aIC,aIs,if_true,aIi,if_false];intro m j g;simp only[aH];rw[a_ (by simp;omega),aV (by omega)]
 rw[d];generalize bj (c.2.getD i ab.aa)=b1;generalize cH k (c.2.getD i ab.aa).1=f;generalize bA 0 i (fun j=> !decide ((c.2.getD j ab.aa).1=(c.2.getD i ab.aa).1))=b3;cases b1<;>cases b3<;>by_cases p:f=c.1<;>simp[p];intro G i b;simp only[aH];rw[a_ (by simp;omega)];congr 2;simp;rw[jH];unfold dn vK
 cases bA 0 c.2.length (fun i=>bj (c.2.getD i ab.aa)&&decide (cH k (c.2.getD i ab.aa).1=c.1))<;>
  cases bA 0 c.2.length (fun i=>bA 0 i (fun j=> !decide ((c.2.getD j ab.aa).1=(c.2.getD i ab.aa).1)))<;>simp
end
def EJ{j:Nat}(h:j<4611686018427387904):IntKind.i64.wrap (((j+1:Nat):Int)-1)=(j:Int):=by
 rw[wrap64 (by omega) (by omega)];omega
def Kh(j:Nat):decide ((((j+1:Nat):Int))>0)=true:=by simp
def PD:decide ((((0:Nat):Int))>0)=false:=by simp
def bO(a b:aJ):Bool:=decide (a.1<b.1)||(decide (a.1=b.1)&&decide (a.2<b.2))
def jx(l:List aJ):Bool:=
 bA 0 l.length (fun i=>(decide (0<=(l.getD i aD.aa).1)&&decide (0<=(l.getD i aD.aa).2))&&(i==0|| !bO (l.getD i aD.aa) (l.getD ((i-1)/2) aD.aa)))&&decide (l.length<=16)
abbrev j9(c:aP):List ae:=c.2
def aW(p:ar):List ae:=p.2.2.flatMap j9
def bU(l:List ar):List ae:=l.flatMap aW
def bq(l:List ar):Nat:=(bU l).length
def fx(p:ar)(f:Int):Option Nat:=gO p.2.2.length (fun i=>decide ((p.2.2.getD i ax.aa).1=f))
def cF:ae:=([],0,0,ByteArray.empty)
def fg(k:Nat)(p:ar)(s:List ai):ae×Bool:=
 match fx p (cH k s)with
 |none=>(cF,false)
 |some i=>match fI (p.2.2.getD i ax.aa).2 s with
  |none=>(cF,false)
  |some j=>((p.2.2.getD i ax.aa).2.getD j ab.aa,true)
def bz(k:Nat)(l:List ar)(s:List ai):Int:=dL (cH k s) l.length
def bL(k:Nat)(l:List ar)(s:List ai):ae×Bool:=if l.length=0 then(cF,false)else fg k (l.getD (bz k l s).toNat ah.aa) s
def iq(c:bh)(g:au):Int:=IntKind.i64.wrap (if g.2.2.2.1= -1 then g.2.2.1+c.2.2.2.1 else g.2.2.2.1+c.2.2.2.2.1)
def dT{α β:Type}{f:α->List β}{l:List α}{i:Nat}(d:α)(h:i<l.length):(l.take (i+1)).flatMap f=(l.take i).flatMap f++f (l.getD i d):=by
 rw[jU d h,List.flatMap_append];simp
section
variable{k:Nat}(Q:9223372036854775808<=k)
include Q
theorem kV{e f:Ty}{g:e.den->List f.den}(h:∀x,af (.sl f) (g x)<=af e x):∀l:List e.den,af (.sl f) (l.flatMap g)<=af (.sl e) l
 | []=>by simp[af]
 |x::l=>by
  have h1:=h x;have h2:=kV h l;rw[List.flatMap_cons,dP,bS];omega
def jT(p:ar):af (.sl ab) (aW p)<=af ah p:=by
 rw[bY Q];exact kV Q (e:=ax) (f:=ab) (g:=j9) (fun c=>by rw[cu Q];exact aIL _) p.2.2
def fw(l:List ar):af (.sl ab) (bU l)<=af (.sl ah) l:=kV Q (e:=ah) (f:=ab) (g:=aW) (jT Q) l
def fJ{p:ar}{i:Nat}(hs:af ah p<=1048576)(a:i<p.2.2.length):af ax (p.2.2.getD i ax.aa)<=1048576/\af (.sl ab) (p.2.2.getD i ax.aa).2<=1048576:=by
 rw[bY Q]at hs;have h1:=dw (e:=ax) (d:=ax.aa) a;have h2:=cu Q (p.2.2.getD i ax.aa);omega
def I9{p:ar}{i n:Int}(hs:af ah p<=1048576):oQ k (p,i,n,())=some (eQ k p i n,()):=by
 have hl:p.2.2.length<=1048576:=by rw[bY Q]at hs;have:=ay (e:=ax) (l:=p.2.2);omega
 simp only[oQ,aN]
 refine(cr (fun j:Nat=>(i,n,p,p.2.2,(p.2.2.length:Int),(j:Int),())) (fun j=>dn k (p.2.2.getD j ax.aa)&&(decide (dL (p.2.2.getD j ax.aa).1 n=i)&&rF p.2.2 j)) p.2.2.length
  (e:=some (bc p.1 (-1) 4&&decide (0<=p.2.1),())) (no:=some (false,())) ?_ ?_ k 0 (by omega)).trans ?_
 intro G j a;obtain⟨g,_⟩:=fJ Q hs a;cases j with
 |zero=>
  simp only[aH,aA a,a,PD,decide_true,if_true,m_,uq Q g,lU Q,eD,bZ,beq_self_eq_true,aIi,if_false,rF,aIF,Bool.and_true];rw[aV (by omega)];generalize dn k (p.2.2.getD 0 ax.aa)=b1;generalize dL (p.2.2.getD 0 ax.aa).1 n=f;cases b1<;>by_cases c:f=i<;>simp[c]
 |succ m=>
  have h:m<p.2.2.length:=by omega
  simp only[aH,aA a,aA h,a,Kh,EJ (show m<4611686018427387904 by omega),decide_true,if_true,m_,uq Q g,lU Q,eD,bZ,beq_self_eq_true,rF,aIg,aIu];rw[aV (by omega)];generalize dn k (p.2.2.getD (m+1) ax.aa)=b1;generalize dL (p.2.2.getD (m+1) ax.aa).1 n=f;generalize (p.2.2.getD m ax.aa).1=u;generalize (p.2.2.getD (m+1) ax.aa).1=v;have o:((m+1:Nat)==0)=false:=rfl;rw[o];cases b1<;>by_cases c:f=i<;>by_cases d:u<v<;>simp[c,d]<;>omega
 intro G j a;simp only[aH];rw[a_ (by simp;omega),fG Q,eD];generalize bc p.1 (-1) 4=b;cases b<;>simp;unfold eQ;cases bA 0 p.2.2.length (fun j=>dn k (p.2.2.getD j ax.aa)&&(decide (dL (p.2.2.getD j ax.aa).1 n=i)&&rF p.2.2 j))<;>simp
def IM{p:ar}{i n:Int}(hs:af ah p<=1048576):oL k (p,i,n,())=some (eQ k p i n,()):=by
 have hl:p.2.2.length<=1048576:=by rw[bY Q]at hs;have:=ay (e:=ax) (l:=p.2.2);omega
 simp only[oL,aN]
 refine(cr (fun j:Nat=>(i,n,p,(j:Int),())) (fun j=>dn k (p.2.2.getD j ax.aa)&&(decide (dL (p.2.2.getD j ax.aa).1 n=i)&&rF p.2.2 j)) p.2.2.length
  (e:=some (bc p.1 (-1) 4&&decide (0<=p.2.1),())) (no:=some (false,())) ?_ ?_ k 0 (by omega)).trans ?_
 intro G j a;obtain⟨g,_⟩:=fJ Q hs a;cases j with
 |zero=>
  simp only[aH,aA a,a,PD,decide_true,if_true,m_,ub Q g,iw Q,eD,bZ,beq_self_eq_true,aIi,if_false,rF,aIF,Bool.and_true,aIg,Bool.and_false,aIs];rw[aV (by omega)];generalize dn k (p.2.2.getD 0 ax.aa)=b1;generalize dL (p.2.2.getD 0 ax.aa).1 n=f;cases b1<;>by_cases c:f=i<;>simp[c]
 |succ m=>
  have h:m<p.2.2.length:=by omega
  simp only[aH,aA a,aA h,a,Kh,EJ (show m<4611686018427387904 by omega),decide_true,if_true,m_,ub Q g,iw Q,eD,bZ,beq_self_eq_true,rF,aIg,aIu];rw[aV (by omega)];generalize dn k (p.2.2.getD (m+1) ax.aa)=b1;generalize dL (p.2.2.getD (m+1) ax.aa).1 n=f;generalize (p.2.2.getD m ax.aa).1=u;generalize (p.2.2.getD (m+1) ax.aa).1=v;have o:((m+1:Nat)==0)=false:=rfl;rw[o];cases b1<;>by_cases c:f=i<;>by_cases d:u<v<;>simp[c,d]<;>omega
 intro G j a;simp only[aH];rw[a_ (by simp;omega),fS Q,eD];generalize bc p.1 (-1) 4=b;cases b<;>simp;unfold eQ;cases bA 0 p.2.2.length (fun j=>dn k (p.2.2.getD j ax.aa)&&(decide (dL (p.2.2.getD j ax.aa).1 n=i)&&rF p.2.2 j))<;>simp
theorem il{l:List ar}{i:Nat}(hs:af (.sl ah) l<=1048576)(a:i<l.length):af ah (l.getD i ah.aa)<=1048576:=by
 have h1:=dw (e:=ah) (d:=ah.aa) a;omega
def GQ{l:List ar}(hs:af (.sl ah) l<=1048576):ng k (l,())=some (dp k l,()):=by
 have hl:=ay (e:=ah) (l:=l);simp only[ng];rw[fG Q,eD];unfold dp;cases hin:bc l.length 1 3 with
 |false=>simp
 |true=>
  rw[a_ (by simp)];refine(cr (fun i:Nat=>(l,l,(l.length:Int),(i:Int),())) (fun i=>eQ k (l.getD i ah.aa) i l.length) l.length (e:=some (true,())) (no:=some (false,())) ?_ ?_ k 0 (by omega)).trans ?_;intro G i a;simp only[aH,aA a,a,decide_true,if_true,m_,I9 Q (il Q hs a),eD];rw[aV (by omega)];cases eQ k (l.getD i ah.aa) i l.length<;>simp;intro G i a;simp only[aH];rw[a_ (by simp;omega)];cases bA 0 l.length (fun i=>eQ k (l.getD i ah.aa) i l.length)<;>simp
def Fh{l:List ar}(hs:af (.sl ah) l<=1048576):nN k (l,())=some (dp k l,()):=by
 have hl:=ay (e:=ah) (l:=l);simp only[nN,aN];unfold dp;refine(cr (fun i:Nat=>(l,(i:Int),())) (fun i=>eQ k (l.getD i ah.aa) i l.length) l.length (e:=some (bc l.length 1 3,())) (no:=some (false,())) ?_ ?_ k 0 (by omega)).trans ?_;intro G i a;simp only[aH,aA a,a,decide_true,if_true,m_,IM Q (il Q hs a),eD];rw[aV (by omega)];cases eQ k (l.getD i ah.aa) i l.length<;>simp;intro G i a;simp only[aH];rw[a_ (by simp;omega),fS Q,eD];cases bA 0 l.length (fun i=>eQ k (l.getD i ah.aa) i l.length)<;>simp
def oX{p:ar}(hs:af ah p<=1048576):gI k (p,())=some (aW p,()):=by
 have hl:p.2.2.length<=1048576:=by rw[bY Q]at hs;have:=ay (e:=ax) (l:=p.2.2);omega
 simp only[gI];refine bG (fun i:Nat=>(p,(p.2.2.take i).flatMap j9,(i:Int),())) p.2.2.length (fun G i a=> ?_) (fun G=> ?_) k 0 (by omega) (by omega);obtain⟨h1,h2⟩:=fJ Q hs a;have hb:=kV Q (e:=ax) (f:=ab) (g:=j9) (fun c=>by rw[cu Q];exact aIL _) (p.2.2.take i);have hb2:=cN (e:=ax) p.2.2 i;have hb3:=ay (e:=ab) (l:=(p.2.2.take i).flatMap j9);have hb4:=ay (e:=ab) (l:=(p.2.2.getD i ax.aa).2);rw[bY Q]at hs;simp only[aH,aA a,a,decide_true,if_true,m_];rw[fB Q (by omega),eD,an (by simp only[b_];omega),aV (by omega),dT ax.aa a];simp[aW]
def qP{p:ar}(hs:af ah p<=1048576):iK k (p,())=some (aW p,()):=by
 have hl:p.2.2.length<=1048576:=by rw[bY Q]at hs;have:=ay (e:=ax) (l:=p.2.2);omega
 simp only[iK];refine bG (fun i:Nat=>(p,(p.2.2.take i).flatMap j9,p.2.2,(p.2.2.length:Int),(i:Int),())) p.2.2.length (fun G i a=> ?_) (fun G=> ?_) k 0 (by omega) (by omega);obtain⟨h1,h2⟩:=fJ Q hs a;have hb:=kV Q (e:=ax) (f:=ab) (g:=j9) (fun c=>by rw[cu Q];exact aIL _) (p.2.2.take i);have hb2:=cN (e:=ax) p.2.2 i;have hb3:=ay (e:=ab) (l:=(p.2.2.take i).flatMap j9);have hb4:=ay (e:=ab) (l:=(p.2.2.getD i ax.aa).2);rw[bY Q]at hs;simp only[aH,aA a,a,decide_true,if_true,m_];rw[fR Q (by omega),eD,an (by simp only[b_];omega),aV (by omega),dT ax.aa a];simp[aW]
end
theorem KC{α:Type}(lt:α->α->Bool)(x:α):∀r:List α,eo lt x r=r.takeWhile (lt x)++x::r.dropWhile (lt x)
 | []=>rfl
 |y::r=>by
  simp only[eo,aIr,List.dropWhile_cons];split;rw[KC lt x r];rfl;rfl
theorem A3{α:Type}(p:α->Bool)(d:α):∀(r:List α) (m:Nat),m<(r.takeWhile p).length->p (r.getD m d)=true
 | [],m,h=>by simp at h
 |y::r,m,h=>by
  rw[aIr]at h;split at h;cases m with
  |zero=>simpa
  |succ m=>rw[aIE];exact A3 p d r m (by simpa using h)
  simp at h
theorem yL{α:Type}(p:α->Bool)(d:α):∀(r:List α),(r.takeWhile p).length<r.length->p (r.getD (r.takeWhile p).length d)=false
 | [],h=>by simp at h
 |y::r,h=>by
  rw[aIr]at h|-;split;rename_i a;rw[an a]at h;simp only[aIv,aIE];exact yL p d r (by simpa using h);simpa using ‹¬p y=true›
def M8{α:Type}(d:α)(l:List α)(m:Nat)(h:m<l.length):l.reverse.getD m d=l.getD (l.length-1-m) d:=by
 rw[aId,List.getElem?_reverse h,<-aId]
def fL{α:Type}(lt:α->α->Bool)(x:α)(out:List α):Nat:=(out.reverse.takeWhile (lt x)).length
def TE{α:Type}(lt:α->α->Bool)(x:α)(r:List α):(eo lt x r).reverse=r.reverse.take (r.reverse.length-fL lt x r.reverse)++[x]++r.reverse.drop (r.reverse.length-fL lt x r.reverse):=by
 have hc:(r.takeWhile (lt x)).length<=r.length:=(aIA _).length_le;have a:fL lt x r.reverse=(r.takeWhile (lt x)).length:=by unfold fL;rw[List.reverse_reverse]
 have b:r.reverse.length=r.length:=aIn ..;rw[KC,a,b,List.take_reverse,List.drop_reverse];have c:r.length-(r.length-(r.takeWhile (lt x)).length)=(r.takeWhile (lt x)).length:=by omega
 rw[c]
 have d:r.drop (r.takeWhile (lt x)).length=r.dropWhile (lt x):=by
  conv=>lhs;arg 2;rw[<-aIp (p:=lt x) (l:=r)]
  rw[List.drop_left]
 have e:r.take (r.takeWhile (lt x)).length=r.takeWhile (lt x):=by
  conv=>lhs;arg 2;rw[<-aIp (p:=lt x) (l:=r)]
  rw[List.take_left]
 rw[d,e];simp
def qO{α:Type}(lt:α->α->Bool)(l:List α):List α:=l.foldl (fun r x=>eo lt x r) []
theorem Ha{α:Type}(lt:α->α->Bool)(x:α):∀r:List α,(eo lt x r).length=r.length+1
 | []=>rfl
 |y::r=>by simp only[eo];split<;>simp[Ha lt x r]
def QM{α:Type}(lt:α->α->Bool){l:List α}{i:Nat}(d:α)(h:i<l.length):qO lt (l.take (i+1))=eo lt (l.getD i d) (qO lt (l.take i)):=by
 unfold qO;rw[jU d h,List.foldl_append];rfl
def Kp{α:Type}(lt:α->α->Bool)(l:List α):(qO lt l).length=l.length:=by
 have:∀(l r:List α),(l.foldl (fun r x=>eo lt x r) r).length=l.length+r.length:=by
  intro l
  induction l with
  |nil=>intro r;simp
  |cons x l a=>intro r;rw[aIN,a,Ha,aIv];omega
 simpa[qO]using this l []
theorem EI{e:Ty}(lt:e.den->e.den->Bool)(x:e.den):∀r:List e.den,af (.sl e) (eo lt x r)=1+af e x+af (.sl e) r
 | []=>by simp only[eo];rw[bS]
 |y::r=>by
  simp only[eo];split;rw[bS,bS,EI lt x r];omega;rw[bS,bS]
def RN{e:Ty}(lt:e.den->e.den->Bool)(l:List e.den):af (.sl e) (qO lt l)=af (.sl e) l:=by
 have:∀(l r:List e.den),af (.sl e) (l.foldl (fun r x=>eo lt x r) r)=af (.sl e) l+af (.sl e) r:=by
  intro l
  induction l with
  |nil=>intro r;simp[af]
  |cons x l a=>intro r;rw[aIN,a,EI,bS];omega
 have h:=this l [];rw[aX]at h;exact h
def VQ{e:Ty}(l:List e.den):af (.sl e) l.reverse=af (.sl e) l:=by
 simp only[af,aIn,List.map_reverse,List.sum_reverse]
def Qw{e:Ty}(lt:e.den->e.den->Bool)(l:List e.den):af (.sl e) (iX lt l)=af (.sl e) l:=by
 show af (.sl e) (qO lt l).reverse=_;rw[VQ,RN]
def tL(l:List ae):af (.sl ab) (dE l)=af (.sl ab) l:=Qw (e:=ab) dG l
section
variable{k:Nat}(Q:9223372036854775808<=k)
include Q
def KI{l:List ae}(hs:af (.sl ab) l<=1048576):je k (l,())=some (dE l,()):=by
 have hl:=ay (e:=ab) (l:=l);simp only[je];refine bG (fun i:Nat=>(l,(qO dG (l.take i)).reverse,(i:Int),())) l.length (fun G i f=> ?_) (fun G=> ?_) k 0 (by omega) (by omega);obtain⟨h1,n⟩:=fo Q hs f;simp only[aH,aA f,f,decide_true,if_true,m_];rw[dh Q (by omega),eD,QM dG ab.aa f,TE];generalize hx:l.getD i ab.aa=x at*
 have hol:(qO dG (l.take i)).reverse.length=i:=by rw[aIn,Kp];simp;omega
 generalize hout:(qO dG (l.take i)).reverse=out at*
 have c:fL dG x out<=out.length:=by
  unfold fL;have:=(aIA (dG x) (l:=out.reverse)).length_le;simpa using this
 simp only[aN];refine bG (fun m:Nat=>(l,out,(i:Int),x,((out.length-m:Nat):Int),())) (fL dG x out) (fun p m r=> ?_) (fun p=> ?_) k 0 (by omega) (by omega)
 have d:dG x (out.getD (out.length-1-m) ab.aa)=true:=by
  have:=A3 (dG x) ab.aa out.reverse m r;rwa [M8 _ _ _ (by omega)]at this
 obtain⟨q,o⟩:∃q,out.length-m=q+1:=⟨out.length-m-1,by omega⟩
 have g:out.length-(m+1)=q:=by omega
 have h:out.length-1-m=q:=by omega
 rw[h]at d;simp only[o,Kh,EJ (show q<4611686018427387904 by omega),aA (show q<out.length by omega),aIg,if_true,beq_self_eq_true,m_,pk Q n,me Q n,eD,g];rw[an d]
 have a:(if decide (((out.length-fL dG x out:Nat):Int)>0)=true then dG x (out.getD (out.length-fL dG x out-1) ab.aa)else false)=false:=by
  by_cases j:fL dG x out=out.length;rw[j,Nat.sub_self];rfl;rw[an (by simp;omega)];have:=yL (dG x) ab.aa out.reverse (by rw[aIn];unfold fL at j c;omega);rw[M8 _ _ _ (by unfold fL at j c;omega)]at this;unfold fL;rw[show out.length-(aIO (dG x) out.reverse).length-1=out.length-1-(aIO (dG x) out.reverse).length by omega];exact this
 have fin:(if(decide (0<=(((out.length-fL dG x out:Nat):Int))/\(((out.length-fL dG x out:Nat):Int))<=((aIf out:Nat):Int)))=true then
  if(decide (aIf ([]:List ae)+aIf (aIG (aIl ((out.length-fL dG x out:Nat):Int)) out)<4294967296))=true then
   if(decide (aIf (([]:List ae)++(aIG (aIl ((out.length-fL dG x out:Nat):Int)) out))+aIf ([x]:List ae)<4294967296))=true then
    if(decide (0<=(((out.length-fL dG x out:Nat):Int))/\(((out.length-fL dG x out:Nat):Int))<=((aIf out:Nat):Int)))=true then
     if(decide (aIf ((([]:List ae)++(aIG (aIl ((out.length-fL dG x out:Nat):Int)) out))++([x]:List ae))+aIf (List.drop (aIl ((out.length-fL dG x out:Nat):Int)) out)<4294967296))=true then
      G (l,((([]:List ae)++(aIG (aIl ((out.length-fL dG x out:Nat):Int)) out))++([x]:List ae))++(List.drop (aIl ((out.length-fL dG x out:Nat):Int)) out),IntKind.i64.wrap ((i:Int)+(1:Int)),())
     else none
    else none
   else none
  else none
  else none)=G (l,out.take (out.length-fL dG x out)++[x]++out.drop (out.length-fL dG x out),((i+1:Nat):Int),()):=by
  rw[an (by simp only[b_];omega),an (by simp only[b_,aIz,aIm];omega),an (by simp only[b_,aIH,aIz,aIm,aIo];omega),an (by simp only[b_];omega),an (by simp only[b_,aIH,aIz,aIm,aIo,List.length_drop];omega),aV (by omega),m_,List.nil_append]
 by_cases s:out.length-fL dG x out=0;rw[s]at fin|-;simp only[PD,aIi,if_false,beq_self_eq_true,aIi,aIs,aIF,if_true,eD];have t:(!((false:Bool)==true)||decide (0<=IntKind.i64.wrap (((0:Nat):Int)-1)/\IntKind.i64.wrap (((0:Nat):Int)-1)<((out.length:Nat):Int)))=true:=rfl;rw[an t];exact fin;obtain⟨q,o⟩:∃q,out.length-fL dG x out=q+1:=⟨out.length-fL dG x out-1,by omega⟩
 rw[o]at a fin|-;rw[Kh,an rfl,aIu]at a;simp only[Kh,EJ (show q<4611686018427387904 by omega),aA (show q<out.length by omega),aIg,if_true,beq_self_eq_true,m_,me Q n,eD];have b:bI x.1 (out.getD q ab.aa).1=false:=a;rw[a_ (by rw[b];simp)];exact fin;simp only[aH,Nat.lt_irrefl,decide_false,aIi,if_false,aIM];rfl
end
end Vg.Tryz
