/- Texts of this law, joined. -/
import Derived.Shelf.Strings.OnBuilder
import Derived.Test.YtgikmhjpcnnhjaaGreatQbFa
import Derived.Test.YtgikmhjpcnnhjaaGreatProg
import Derived.Test.YtgikmhjpcnnhjaaGreatXd
import Derived.Deep.QuietTactic
import Derived.WalkKit
import Derived.Shelf.GgSortFunc.Lays
import Derived.Shelf.GgSortMore.Bridge
import Derived.Ground.GgtProg
set_option linter.unusedSimpArgs false
set_option linter.unusedVariables false
set_option linter.unusedSectionVars false
set_option linter.defProp false
open Option renaming bind_some -> axi
open List renaming getD_eq_getElem?_getD -> axj,drop_eq_nil_of_le -> axl,drop_eq_getElem_cons -> axo,getElem?_eq_getElem -> axr,filter_cons_of_pos -> axs,filter_cons_of_neg -> axt,length -> axv,drop_length -> axw,length_drop -> axx
open Int renaming toNat_natCast -> axk
open Nat renaming le_trans -> axm
open Bool renaming eq_iff_iff -> axn,or_true -> axp,eq_false_iff -> axu
open List.cons renaming injEq -> axq
open Go.Proofs.Tryz
namespace Go.Proofs
open Go.Shelf
def Tryz.zU:Go.Shelf.Ren:=⟨fun|156=>318|165=>363|166=>364|169=>365|240=>380|241=>381|276=>388|277=>389|n=>n,fun|31=>24|9=>9|3=>3|4=>4|0=>0|20=>20|72=>271|76=>274|70=>269|37=>22|75=>273|127=>285|164=>220|5=>5|80=>276|n=>n,fun|n=>n⟩
theorem Tryz.Ms:Go.Proofs.Lays.n156 prog Tryz.zU:={
 mixed:=by kernel_rfl
 f156:=func318.trans (congrArg some (by kernel_rfl))
 f165:=func363.trans (congrArg some (by kernel_rfl))
 f166:=func364.trans (congrArg some (by kernel_rfl))
 f169:=func365.trans (congrArg some (by kernel_rfl))
 f240:=func380.trans (congrArg some (by kernel_rfl))
 f241:=func381.trans (congrArg some (by kernel_rfl))
 f276:=func388.trans (congrArg some (by kernel_rfl))
 f277:=func389.trans (congrArg some (by kernel_rfl))
 t0:=Tryz.underlying0
 a0:=Tryz.isAgg0
 z0:=Tryz.sizeOf0
 v0:=Tryz.zeroValue0
 t3:=Tryz.underlying3
 a3:=Tryz.isAgg3
 z3:=Tryz.sizeOf3
 v3:=Tryz.zeroValue3
 t4:=Tryz.underlying4
 a4:=Tryz.isAgg4
 z4:=Tryz.sizeOf4
 v4:=Tryz.zeroValue4
 t9:=Tryz.underlying9
 a9:=Tryz.isAgg9
 z9:=Tryz.sizeOf9
 v9:=Tryz.zeroValue9
 t20:=Tryz.underlying20
 a20:=Tryz.isAgg20
 z20:=Tryz.sizeOf20
 v20:=Tryz.zeroValue20
 t31:=Tryz.underlying24
 a31:=Tryz.isAgg24
 z31:=Tryz.sizeOf24
 v31:=Tryz.zeroValue24
 t37:=Tryz.underlying22
 a37:=Tryz.isAgg22
 z37:=Tryz.sizeOf22
 v37:=Tryz.zeroValue22
 t70:=Tryz.underlying269
 a70:=Tryz.isAgg269
 z70:=Tryz.sizeOf269
 v70:=Tryz.zeroValue269
 t72:=Tryz.underlying271
 a72:=Tryz.isAgg271
 z72:=Tryz.sizeOf271
 v72:=Tryz.zeroValue271
 t75:=Tryz.underlying273
 a75:=Tryz.isAgg273
 z75:=Tryz.sizeOf273
 v75:=Tryz.zeroValue273
 t76:=Tryz.underlying274
 a76:=Tryz.isAgg274
 z76:=Tryz.sizeOf274
 v76:=Tryz.zeroValue274
 t127:=Tryz.underlying285
 a127:=Tryz.isAgg285
 z127:=Tryz.sizeOf285
 v127:=Tryz.zeroValue285
 t164:=Tryz.underlying220
 a164:=Tryz.isAgg220
 z164:=Tryz.sizeOf220
 v164:=Tryz.zeroValue220}
theorem Tryz.pV:Builder.Extra prog Tryz.zU:={
 sizeBuilder:=by kernel_rfl
 liesBuilder:=by kernel_rfl
 t5:=Tryz.underlying5
 a5:=Tryz.isAgg5
 z5:=Tryz.sizeOf5
 v5:=Tryz.zeroValue5
 infoByte:=by kernel_rfl
 cellsByte:=by kernel_rfl
 sizeByte:=by kernel_rfl
 neB5:=by decide}
open Go.RowKit in
theorem Tryz.strings_Join_none(a:Option Addr)(c:Nat)(sep:ByteArray)(w:World):
 Calls prog 318 #[.slice a 0 c,.string sep] w fun e w'=>e= .returned (.string ⟨#[]⟩)/\w'=w:=Any.strings_Join_none Tryz.Ms Tryz.pV a c sep w
open Go.RowKit in
theorem Tryz.strings_Join(p o c:Nat)(xs:List ByteArray)(sep:ByteArray)(w:World)(a:∀(j:Nat) x,xs[j]?=some x->w.cell? ⟨p,o+j,none⟩=some (.string x))(q:p<w.heap.size)(u:xs.length<=140737488355328)(h:xs.length<=c)(hlen:(Lib.join (xs.map (·.data.toList)) sep.data.toList).length<=140737488355328):
 Calls prog 318 #[.slice (some ⟨p,o,none⟩) xs.length c,.string sep] w fun e w'=>e= .returned (.string ⟨(Lib.join (xs.map (·.data.toList)) sep.data.toList).toArray⟩)/\Below w.heap.size w w':=Any.strings_Join Tryz.Ms Tryz.pV p o c xs sep w a q u h hlen
end Go.Proofs
namespace Vg.Tryz
open Go Vg Go.Proofs
def tJ(k:Nat):BJ:=⟨[.val (.sl .str) .shr,.val .str .leaf],[.val .str .leaf],oD k,[]⟩
set_option maxRecDepth 1000000 in
def Gg(k:Nat):BH prog 318 (tJ k):=TZ func318 (by kernel_rfl) (by kernel_rfl) Tryz.strings_Join_none Tryz.strings_Join
end Vg.Tryz
namespace Go.Proofs
open Go.RowKit
def Mn:Value->Int| .int _ q=>q|_=>0
set_option maxHeartbeats 4000000 in
set_option maxRecDepth 100000 in
theorem Tryz.Iq(pa pb:Option Addr)(ca cb:Nat)(a b:List (ByteArray×ByteArray))(W:World)(la:a.length<4611686018427387904)(lb:b.length<4611686018427387904)
 (ha:∀i,i<a.length->∃bk o,pa=some ⟨bk,o,none⟩/\W.cell? ⟨bk,o+i*2,none⟩=some (.string (a.getD i (ByteArray.empty,ByteArray.empty)).1)/\W.cell? ⟨bk,o+i*2+1,none⟩=some (.string (a.getD i (ByteArray.empty,ByteArray.empty)).2))
 (hb:∀i,i<b.length->∃bk o,pb=some ⟨bk,o,none⟩/\W.cell? ⟨bk,o+i*2,none⟩=some (.string (b.getD i (ByteArray.empty,ByteArray.empty)).1)/\W.cell? ⟨bk,o+i*2+1,none⟩=some (.string (b.getD i (ByteArray.empty,ByteArray.empty)).2)):
 Calls prog 240 #[.slice pa a.length ca,.slice pb b.length cb] W fun e w'=>e= .returned (.bool (Vg.bp a b))/\∃q,w'=W.drewN q:=by
 go_enter func240,Tryz.ntmps240
 go_wp2
 go_loopw [5] (fun vi wr=>∃(t q:Nat),vi= .int .i64 (t:Int)/\t<=a.length/\t<=b.length/\wr=W.drewN q/\Vg.bp a b=Vg.bp (a.drop t) (b.drop t)) (fun vi _=>a.length+1-(Mn vi).toNat)
 case atStart=>exact⟨0,0,rfl,by omega,by omega,rfl,rfl⟩
 case round=>
  obtain⟨t,q,rfl,ht1,ht2,hw,hR⟩:=hrel;by_cases hin:t<a.length/\t<b.length
  ·obtain⟨hi1,hi2⟩:=hin;obtain⟨ba,oa,ea,a1,a2⟩:=ha t hi1;obtain⟨bb,ob,eb,b1,b2⟩:=hb t hi2;have c1:wr.cell? ⟨ba,oa+t*2,none⟩=some (.string (a.getD t (ByteArray.empty,ByteArray.empty)).1):=by rw[hw];exact a1
   have c2:wr.cell? ⟨ba,oa+t*2+1,none⟩=some (.string (a.getD t (ByteArray.empty,ByteArray.empty)).2):=by rw[hw];exact a2
   have c3:wr.cell? ⟨bb,ob+t*2,none⟩=some (.string (b.getD t (ByteArray.empty,ByteArray.empty)).1):=by rw[hw];exact b1
   have c4:wr.cell? ⟨bb,ob+t*2+1,none⟩=some (.string (b.getD t (ByteArray.empty,ByteArray.empty)).2):=by rw[hw];exact b2
   have hs:Vg.bp (a.drop t) (b.drop t)=if(a.getD t (ByteArray.empty,ByteArray.empty)).1.toList==(b.getD t (ByteArray.empty,ByteArray.empty)).1.toList then(if(a.getD t (ByteArray.empty,ByteArray.empty)).2.toList==(b.getD t (ByteArray.empty,ByteArray.empty)).2.toList then Vg.bp (a.drop (t+1)) (b.drop (t+1))else Vg.ly (a.getD t (ByteArray.empty,ByteArray.empty)).2 (b.getD t (ByteArray.empty,ByteArray.empty)).2)else Vg.ly (a.getD t (ByteArray.empty,ByteArray.empty)).1 (b.getD t (ByteArray.empty,ByteArray.empty)).1:=by
    rw[axo hi1,axo hi2];simp only[Vg.bp,axj,axr hi1,axr hi2,Option.getD_some]
   generalize (a.getD t (ByteArray.empty,ByteArray.empty)).1=x1 at c1 hs;generalize (a.getD t (ByteArray.empty,ByteArray.empty)).2=x2 at c2 hs;generalize (b.getD t (ByteArray.empty,ByteArray.empty)).1=y1 at c3 hs;generalize (b.getD t (ByteArray.empty,ByteArray.empty)).2=y2 at c4 hs;subst ea eb;have HW:Hid (wr=W.drewN q):=hw;have HR:Hid (Vg.bp a b=Vg.bp (a.drop t) (b.drop t)):=hR;have HS:Hid (_=_):=hs;clear hw hR hs ha hb a1 a2 b1 b2
   go_wp2
   go_quiet (fail)
   go_wp2
   ·have hne:(!x1.toList==y1.toList)=true:=by assumption
    go_quiet (fail)
    go_wp2
    go_ret
    have hv:Vg.bp a b=Op.bytesLess x1.toList y1.toList:=by
     rw[HR.out,HS.out,a_ (by simpa using hne)];rfl
    refine⟨?_,_,by rw[HW.out,World.drewN_drewN,World.drewN_drewN]⟩;rw[hv];rfl
   ·have hne:(!x1.toList==y1.toList)=false:=by assumption
    go_quiet (fail)
    go_wp2
    ·have hne2:(!x2.toList==y2.toList)=true:=by assumption
     go_quiet (fail)
     go_wp2
     go_ret
     have hv:Vg.bp a b=Op.bytesLess x2.toList y2.toList:=by
      rw[HR.out,HS.out,an (by simpa using hne),a_ (by simpa using hne2)];rfl
     refine⟨?_,_,by rw[HW.out,World.drewN_drewN,World.drewN_drewN,World.drewN_drewN]⟩;rw[hv];rfl
    ·have hne2:(!x2.toList==y2.toList)=false:=by assumption
     refine⟨⟨t+1,_,by congr 1,by omega,by omega,by rw[HW.out,World.drewN_drewN],?_⟩,?_⟩
     ·rw[HR.out,HS.out,an (by simpa using hne),an (by simpa using hne2)]
     ·simp[Mn];omega
  ·have hv:Vg.bp a b=decide (a.length<b.length):=by
    rw[hR];by_cases h1:t<a.length
    ·have h2:t=b.length:=by omega
     subst h2;rw[axw,axo h1];simp only[Vg.bp];rw[decide_eq_false (by omega)]
    ·have h2:t=a.length:=by omega
     subst h2;rw[axw];cases hd:b.drop a.length with
     |nil=>
      have:=congrArg axv hd;simp only[axx,List.length_nil]at this;simp only[Vg.bp,List.isEmpty_nil,Bool.not_true];rw[decide_eq_false (by omega)]
     |cons z zs=>
      have:=congrArg axv hd;simp only[axx,List.length_cons]at this;simp only[Vg.bp,List.isEmpty_cons,Bool.not_false];rw[c_ (by omega)]
   have HW:Hid (wr=W.drewN q):=hw;have HV:Hid (_=_):=hv;clear hw hR hv ha hb;by_cases h1:t<a.length
   ·have h2:¬t<b.length:=fun h=>hin ⟨h1,h⟩;clear hin
    go_wp2
    go_ret
    refine⟨?_,_,HW.out⟩;rw[HV.out];rfl
   ·clear hin
    go_wp2
    go_ret
    refine⟨?_,_,HW.out⟩;rw[HV.out];rfl
set_option maxHeartbeats 4000000 in
set_option maxRecDepth 100000 in
theorem Tryz.Ic(blk off c Bs n:Nat)(W:World)(i j:Nat)(hi:i<n)(hj:j<n)(hn:n<4611686018427387904)(va vb:Value)(r:Bool)
 (hs:W.cell? ⟨Bs,0,none⟩=some (.slice (some ⟨blk,off,none⟩) n c)) (hva:W.cell? ⟨blk,off+i*4,none⟩=some va) (hvb:W.cell? ⟨blk,off+j*4,none⟩=some vb)
 (hc:∀q,Calls prog 240 #[va,vb] (W.drewN q) fun e w'=>e= .returned (.bool r)/\∃m,w'=(W.drewN q).drewN m):
 Calls prog 239 #[.int .i64 i,.int .i64 j,.pointer (some ⟨Bs,0,none⟩)] W fun e w'=>e= .returned (.bool r)/\∃q,w'=W.drewN q:=by
 have HC:Hid (∀q,Calls prog 240 #[va,vb] (W.drewN q) fun e w'=>e= .returned (.bool r)/\∃m,w'=(W.drewN q).drewN m):=hc;clear hc
 go_enter func239,Tryz.ntmps239
 go_wp2
 go_quiet (first|(go_at_call 240;refine Calls.quiet_of (HC.out _)))
 go_wp2
 go_ret
 trace_state
 exact⟨rfl,nq,rfl⟩
end Go.Proofs
namespace Go.Proofs
open Go.Shelf
def Tryz.Tt:Go.Shelf.Ren:=⟨fun|8=>148|13=>258|14=>259|16=>261|15=>260|29=>334|30=>335|42=>367|49=>384|n=>n,fun|20=>20|26=>147|36=>223|0=>0|38=>198|42=>228|3=>3|4=>4|47=>208|17=>17|33=>220|34=>221|89=>301|12=>12|56=>248|82=>295|5=>5|83=>296|84=>297|85=>285|86=>298|87=>299|n=>n,fun|n=>n⟩
theorem Tryz.UR:Go.Proofs.LaysGt.n8 prog Tryz.Tt:={
 mixed:=by kernel_rfl
 f8:=func148.trans (congrArg some (by kernel_rfl))
 f13:=func258.trans (congrArg some (by kernel_rfl))
 f14:=func259.trans (congrArg some (by kernel_rfl))
 f15:=func260.trans (congrArg some (by kernel_rfl))
 f16:=func261.trans (congrArg some (by kernel_rfl))
 f29:=func334.trans (congrArg some (by kernel_rfl))
 f30:=func335.trans (congrArg some (by kernel_rfl))
 f42:=func367.trans (congrArg some (by kernel_rfl))
 f49:=func384.trans (congrArg some (by kernel_rfl))
 t0:=Tryz.underlying0
 a0:=Tryz.isAgg0
 z0:=Tryz.sizeOf0
 v0:=Tryz.zeroValue0
 i0:=by kernel_rfl
 t3:=Tryz.underlying3
 a3:=Tryz.isAgg3
 z3:=Tryz.sizeOf3
 v3:=Tryz.zeroValue3
 i3:=by kernel_rfl
 t4:=Tryz.underlying4
 a4:=Tryz.isAgg4
 z4:=Tryz.sizeOf4
 v4:=Tryz.zeroValue4
 i4:=by kernel_rfl
 t5:=Tryz.underlying5
 a5:=Tryz.isAgg5
 z5:=Tryz.sizeOf5
 v5:=Tryz.zeroValue5
 i5:=by kernel_rfl
 t12:=Tryz.underlying12
 a12:=Tryz.isAgg12
 z12:=Tryz.sizeOf12
 v12:=Tryz.zeroValue12
 i12:=by kernel_rfl
 t17:=Tryz.underlying17
 a17:=Tryz.isAgg17
 z17:=Tryz.sizeOf17
 v17:=Tryz.zeroValue17
 i17:=by kernel_rfl
 t20:=Tryz.underlying20
 a20:=Tryz.isAgg20
 z20:=Tryz.sizeOf20
 v20:=Tryz.zeroValue20
 i20:=by kernel_rfl
 t26:=Tryz.underlying147
 a26:=Tryz.isAgg147
 z26:=Tryz.sizeOf147
 v26:=Tryz.zeroValue147
 i26:=by kernel_rfl
 t33:=Tryz.underlying220
 a33:=Tryz.isAgg220
 z33:=Tryz.sizeOf220
 v33:=Tryz.zeroValue220
 i33:=by kernel_rfl
 t34:=Tryz.underlying221
 a34:=Tryz.isAgg221
 z34:=Tryz.sizeOf221
 v34:=Tryz.zeroValue221
 i34:=by kernel_rfl
 t36:=Tryz.underlying223
 a36:=Tryz.isAgg223
 z36:=Tryz.sizeOf223
 v36:=Tryz.zeroValue223
 i36:=by kernel_rfl
 t38:=Tryz.underlying198
 a38:=Tryz.isAgg198
 z38:=Tryz.sizeOf198
 v38:=Tryz.zeroValue198
 i38:=by kernel_rfl
 t42:=Tryz.underlying228
 a42:=Tryz.isAgg228
 z42:=Tryz.sizeOf228
 v42:=Tryz.zeroValue228
 i42:=by kernel_rfl
 t47:=Tryz.underlying208
 a47:=Tryz.isAgg208
 z47:=Tryz.sizeOf208
 v47:=Tryz.zeroValue208
 i47:=by kernel_rfl
 t56:=Tryz.underlying248
 a56:=Tryz.isAgg248
 z56:=Tryz.sizeOf248
 v56:=Tryz.zeroValue248
 i56:=by kernel_rfl
 t82:=Tryz.underlying295
 a82:=Tryz.isAgg295
 z82:=Tryz.sizeOf295
 v82:=Tryz.zeroValue295
 i82:=by kernel_rfl
 t83:=Tryz.underlying296
 a83:=Tryz.isAgg296
 z83:=Tryz.sizeOf296
 v83:=Tryz.zeroValue296
 i83:=by kernel_rfl
 t84:=Tryz.underlying297
 a84:=Tryz.isAgg297
 z84:=Tryz.sizeOf297
 v84:=Tryz.zeroValue297
 i84:=by kernel_rfl
 t85:=Tryz.underlying285
 a85:=Tryz.isAgg285
 z85:=Tryz.sizeOf285
 v85:=Tryz.zeroValue285
 i85:=by kernel_rfl
 t86:=Tryz.underlying298
 a86:=Tryz.isAgg298
 z86:=Tryz.sizeOf298
 v86:=Tryz.zeroValue298
 i86:=by kernel_rfl
 t87:=Tryz.underlying299
 a87:=Tryz.isAgg299
 z87:=Tryz.sizeOf299
 v87:=Tryz.zeroValue299
 i87:=by kernel_rfl
 t89:=Tryz.underlying301
 a89:=Tryz.isAgg301
 z89:=Tryz.sizeOf301
 v89:=Tryz.zeroValue301
 i89:=by kernel_rfl}
end Go.Proofs
namespace Go.Proofs
open Go.Shelf Go.RowKit Go.Lib Go.Sort
noncomputable def Tryz.siT:TypeInfo:=(prog.info? 29).get (by kernel_rfl)
noncomputable def Tryz.Oy:TypeInfo:=(prog.info? 50).get (by kernel_rfl)
theorem Tryz.siK(n:Nat)(h2:2<=n)(ke:Nat):Lib.swapperK n Tryz.Oy ke=Lib.swapperK 2 Tryz.Oy ke:=by
 have c:(n==0)=false:=by simp;omega
 have d:(n==1)=false:=by simp;omega
 simp[Lib.swapperK,c,d]
set_option maxHeartbeats 4000000 in
set_option maxRecDepth 100000 in
theorem Tryz.Jw{α:Type}[Inhabited α](enc:α->List Value)(hk:∀x,(enc x).length=4)(h1:∀x,∀v∈enc x,v.oneCell'=true)(lab:α->List (ByteArray×ByteArray))(blk off c:Nat)(d:Array α)(w:World)
 (h2:2<=d.size) (KQ:d.size<1152921504606846976) (hH:HoldsK enc 4 w blk off d) (hblk:blk<w.heap.size) (hlab:Ts enc lab blk w):
 Calls prog 129 #[.slice (some ⟨blk,off,none⟩) d.size c] w fun e w'=>
  e= .returned (.slice (some ⟨blk,off,none⟩) d.size c)/\∃n os,w'=grow (putRowK enc 4 (Sort.ahead w n) blk off (Sort.insertionSort (fun x y=>Vg.bp (lab x) (lab y)) d 0 d.size)) os:=by
 have hW1:w.alloc (.cells #[.slice (some ⟨blk,off,none⟩) d.size c] 29)=grow w #[.cells #[.slice (some ⟨blk,off,none⟩) d.size c] 29]:=alloc_eq_grow _ _;have hH1:HoldsK enc 4 (w.alloc (.cells #[.slice (some ⟨blk,off,none⟩) d.size c] 29)) blk off d:=by rw[hW1];exact holdsK_grow enc 4 w _ blk off d hblk hH
 have hb1:blk<(w.alloc (.cells #[.slice (some ⟨blk,off,none⟩) d.size c] 29)).heap.size:=by rw[hW1,size_grow];omega
 have hbox:∀m os (dk:Array α),(sortWorldK enc 4 (w.alloc (.cells #[.slice (some ⟨blk,off,none⟩) d.size c] 29)) blk off m dk os).cell? ⟨w.heap.size,0,none⟩=some (.slice (some ⟨blk,off,none⟩) d.size c):=by
  intro m os dk;rw[cell?_sortWorldK_other enc 4 _ blk off m dk os _ (by show w.heap.size≠blk;omega) (by show w.heap.size<_;rw[hW1,size_grow];simp)];simp
 have hless:LessReadsK prog 239 #[.pointer (some ⟨w.heap.size,0,none⟩)] enc 4 (fun x y=>Vg.bp (lab x) (lab y)) blk off d.size (w.alloc (.cells #[.slice (some ⟨blk,off,none⟩) d.size c] 29)):=by
  intro m os dk hs i j hi hj
  have hcell:∀x:Nat,x<d.size->∀v,(enc dk[x]!)[0]?=some v->(sortWorldK enc 4 (w.alloc (.cells #[.slice (some ⟨blk,off,none⟩) d.size c] 29)) blk off m dk os).cell? ⟨blk,off+x*4,none⟩=some v:=by
   intro x hx v hv;have hh:=holdsK_sortWorldK enc 4 _ blk off m d dk os hb1 hH1 hs;have:=(hh.cell (i:=x) (c:=0) (by omega) (by omega)).1;rw[Nat.add_zero]at this;rw[this];simp[hv]
  have hl:∀(x:α) (q:Nat),∃p c',(enc x)[0]?=some (.slice p (lab x).length c')/\(lab x).length<4611686018427387904/\
   ∀i,i<(lab x).length->∃bk o,p=some ⟨bk,o,none⟩/\((sortWorldK enc 4 (w.alloc (.cells #[.slice (some ⟨blk,off,none⟩) d.size c] 29)) blk off m dk os).drewN q).cell? ⟨bk,o+i*2,none⟩=some (.string ((lab x).getD i (ByteArray.empty,ByteArray.empty)).1)/\
    ((sortWorldK enc 4 (w.alloc (.cells #[.slice (some ⟨blk,off,none⟩) d.size c] 29)) blk off m dk os).drewN q).cell? ⟨bk,o+i*2+1,none⟩=some (.string ((lab x).getD i (ByteArray.empty,ByteArray.empty)).2):=by
   intro x q;obtain⟨p,c',e1,e2,e3⟩:=hlab x;refine⟨p,c',e1,e2,fun i hi=> ?_⟩;obtain⟨bk,o,q1,q2,q3,q4,q5⟩:=e3 i hi
   have ho:∀o',((sortWorldK enc 4 (w.alloc (.cells #[.slice (some ⟨blk,off,none⟩) d.size c] 29)) blk off m dk os).drewN q).cell? ⟨bk,o',none⟩=w.cell? ⟨bk,o',none⟩:=by
    intro o';show(sortWorldK enc 4 (w.alloc (.cells #[.slice (some ⟨blk,off,none⟩) d.size c] 29)) blk off m dk os).cell? ⟨bk,o',none⟩=_;rw[cell?_sortWorldK_other enc 4 _ blk off m dk os _ q2 (by show bk<_;rw[hW1,size_grow];omega),hW1,cell?_grow _ _ _ q3]
   exact⟨bk,o,q1,by rw[ho];exact q4,by rw[ho];exact q5⟩
  obtain⟨pa,ca,a1,a2,_⟩:=hl dk[i]! 0;obtain⟨pb,cb,b1,b2,_⟩:=hl dk[j]! 0;refine Tryz.Ic blk off c w.heap.size d.size _ i j hi hj (by omega) _ _ _ (hbox m os dk) (hcell i hi _ a1) (hcell j hj _ b1) (fun q=> ?_);obtain⟨pa',ca',a1',_,a3⟩:=hl dk[i]! q;obtain⟨pb',cb',b1',_,b3⟩:=hl dk[j]! q;rw[a1]at a1';rw[b1]at b1';cases a1';cases b1';exact Tryz.Iq pa pb ca cb _ _ _ a2 b2 a3 b3
 have hS:=IH Tryz.UR (i:=Tryz.siT) (ie:=Tryz.Oy) (t:=29) (e:=50) (by kernel_rfl) (by kernel_rfl) (by kernel_rfl) (by kernel_rfl) (ke:=25) (fun _=>by kernel_rfl) hk (by kernel_rfl) (fun _=>by kernel_rfl) h1
  (fun x y=>Vg.bp (lab x) (lab y)) ⟨fun x=>Vg.k9.irrefl _,fun x y z=>Vg.k9.trans _ _ _,fun x y z=>Vg.k9.ntrans _ _ _⟩ (g:=239) (enters_of func239 (by kernel_rfl) rfl) (c:=c) h2 KQ (f:=333) (by rw[Tryz.siK _ h2];kernel_rfl) false
  (fun args W=>run_callFunc_extern (f:=333) func333 (by kernel_rfl) (by kernel_rfl) (by kernel_rfl) (e:=Extern.ReflectliteSwapper.swap false) (by kernel_rfl) args W) hless hH1 hb1
 change Calls prog 148 _ _ _ at hS;have HB:Hid (∀m os (dk:Array α),(sortWorldK enc 4 (w.alloc (.cells #[.slice (some ⟨blk,off,none⟩) d.size c] 29)) blk off m dk os).cell? ⟨w.heap.size,0,none⟩=some (.slice (some ⟨blk,off,none⟩) d.size c)):=hbox;clear hless hH1 hH hlab hbox hW1 hb1
 go_enter func129,Tryz.ntmps129
 go_wp2_with (go_at_call 148;refine hS.mono ?_;rintro e w1 ⟨rfl,n,os,hw⟩;have hcell:w1.cell? ⟨w.heap.size,0,none⟩=some (.slice (some ⟨blk,off,none⟩) d.size c):=(by rw[hw];exact HB.out n os _);have HW:Hid (w1=_):=hw;clear hw)
 go_ret
 exact⟨rfl,n,_,by rw[HW.out,alloc_eq_grow,ahead_grow,putRowK_grow enc 4 (Sort.ahead w n) _ blk off _ hblk,grow_grow]⟩
set_option maxHeartbeats 4000000 in
set_option maxRecDepth 100000 in
theorem Tryz.Hs(p:Option Addr)(n c:Nat)(h1:n<=1)(w:World):
 Calls prog 129 #[.slice p n c] w fun e w'=>e= .returned (.slice p n c)/\∃os,w'=grow w os:=by
 have hS:=fun W f hf=>Any.sort_SliceStable_tiny Tryz.UR 29 50 Tryz.siT Tryz.Oy (by kernel_rfl) (by kernel_rfl) (by kernel_rfl) (by kernel_rfl) 25 (fun _=>by kernel_rfl) p n c h1 f hf (.func 239) #[] #[.pointer (some ⟨w.heap.size,0,none⟩)] W
 obtain⟨f,hf⟩:∃f,prog.funcs.findIdx? (·.name== "internal/reflectlite" ++ ".Swapper$" ++toString (swapperK n Tryz.Oy 25))=some f:=by
  rcases Nat.eq_zero_or_pos n with h|h
  ·subst h;exact⟨325,by kernel_rfl⟩
  ·obtain rfl:n=1:=by omega
   exact⟨326,by kernel_rfl⟩
 have hS2:=fun W=>hS W f hf;change∀W,Calls prog 148 _ W _ at hS2;clear hS
 have HB:Hid (∀os,(grow (w.alloc (.cells #[.slice p n c] 29)) os).cell? ⟨w.heap.size,0,none⟩=some (.slice p n c)):=by
  intro os;rw[cell?_grow _ _ _ (by show w.heap.size<_;rw[alloc_eq_grow,size_grow];simp)];simp
 go_enter func129,Tryz.ntmps129
 go_wp2_with (go_at_call 148;refine(hS2 _).mono ?_;rintro e w1 ⟨rfl,os,hw⟩;have hcell:w1.cell? ⟨w.heap.size,0,none⟩=some (.slice p n c):=(by rw[hw];exact HB.out os);have HW:Hid (w1=_):=hw;clear hw)
 go_ret
 exact⟨rfl,_,by rw[HW.out,alloc_eq_grow,grow_grow]⟩
end Go.Proofs
namespace Vg.Tryz
open Go Vg Go.Proofs
def rB(k:Nat):BJ:=⟨[.val (.sl ae) .own],[.val (.sl ae) .own],iR k,[]⟩
set_option maxRecDepth 1000000 in
def Dw(k:Nat):BH prog 129 (rB k):=Su (N:=1152921504606846976) func129 (by kernel_rfl) (by kernel_rfl) Tryz.Hs Tryz.Jw
def TT:List (Nat×TI):=[(3,⟨(.int .i64),[],0⟩),(4,⟨.bool,[],0⟩),(5,⟨(.int .u8),[],0⟩),(9,⟨.str,[],0⟩),(22,⟨(.sl (.int .u8)),[],5⟩),(24,⟨(.sl .str),[],9⟩),(26,⟨db,[3,3,3,3,3,24],0⟩),(27,⟨(.sl aj),[],72⟩),(28,⟨(.sl aW),[],103⟩),(29,⟨(.sl ae),[],50⟩),(30,⟨(.sl al),[],123⟩),(31,⟨(.sl aE),[],161⟩),(32,⟨(.sl cw),[],179⟩),(33,⟨(.sl aq),[],62⟩),(34,⟨(.sl ay),[],56⟩),(36,⟨aD,[26,3,3,27,28,29,3,30,3,31,32,29,33,34],0⟩),(48,⟨(.sl ak),[],149⟩),(50,⟨ae,[48,3,3,9],0⟩),(56,⟨ay,[3,3,50,48,3,3,3,29,3,3,3,3],0⟩),(60,⟨(.sl (.int .i64)),[],3⟩),(62,⟨aq,[3,3,50,48,3,60,29,3,3],0⟩),(70,⟨(.sl ax),[],131⟩),(72,⟨aj,[3,3,70],0⟩),(103,⟨aW,[29,4],0⟩),(123,⟨al,[3,48,3,3,29],0⟩),(131,⟨ax,[3,29],0⟩),(142,⟨iw,[3,3,50,48],0⟩),(149,⟨ak,[9,9],0⟩),(151,⟨cJ,[22,3,3],0⟩),(152,⟨(.sl iw),[],142⟩),(161,⟨aE,[3,3],0⟩),(179,⟨cw,[3,48,3,29],0⟩),(208,⟨(.int .u64),[],0⟩),(248,⟨(.int .u32),[],0⟩)]
def acK:TT.all (fun p=>UK prog p.1 p.2)=true:=by kernel_rfl
def mixed:prog.follows .mixedOrders=true:=by kernel_rfl
set_option maxRecDepth 1000000
def nA:Nat->Option KO:=fun _=>none
def rO:Sh:=(.pair .leaf (.pair .leaf (.sl (.sha []))))
def akq:Sh:=(.pair (.sl (.row 15 [15] true)) (.sl (.sha [1])))
def KU:Sh:=(.pair (.sl (.sha [])) (.pair .leaf (.pair .leaf .leaf)))
def Mf:Sh:=(.pair (.sl (.sha [])) (.pair (.sl (.sha [])) (.sl (.sha []))))
def Sx:Sh:=(.pair .leaf (.pair .leaf (.sl (.sha [1,2]))))
def TO:Sh:=(.pair (.sl (.row 12 [12] true)) (.sl (.row 13 [1,2,13] false)))
def DX:Sh:=(.pair (.sl (.sha [1])) (.pair .leaf (.pair .leaf .leaf)))
def aak:Sh:=(.pair (.sl (.row 12 [12] true)) (.sl (.row 13 [1,13] false)))
def PE:Sh:=(.pair (.sl (.sha [2,12])) (.pair .leaf (.pair .leaf .leaf)))
def Sv:Sh:=(.pair (.sl (.sha [2,12])) (.pair .leaf .leaf))
def aao:Sh:=(.pair .leaf (.pair .leaf (.sl (.sha [1,2,15]))))
def aaj:Sh:=(.pair (.sl (.row 12 [12] true)) (.sl (.row 13 [1,2,13,15] false)))
def Vh:Sh:=(.pair .leaf (.pair .leaf (.sl (.row 9 [9] true))))
def ZS:Sh:=(.pair (.sl (.row 17 [17] true)) (.sl (.row 18 [18] true)))
def Z5:Sh:=(.pair .leaf (.pair .leaf (.sl (.sha [2]))))
def afL:Sh:=(.pair (.sl (.row 27 [27] true)) (.sl (.row 28 [2,28] false)))
def aj8:Sh:=(.pair .leaf (.pair .leaf (.sl (.row 5 [5] true))))
def Mc:Sh:=(.pair .leaf (.pair .leaf (.sl (.row 7 [7] true))))
def aku:Sh:=(.pair (.sl (.sha [1])) (.pair .leaf .leaf))
def aj4:Sh:=(.pair (.sl .dead) (.pair .leaf (.pair .leaf .leaf)))
def akV:Sh:=(.pair (.sl .dead) (.pair (.sl .dead) (.pair .leaf .leaf)))
def h6:Sh:=(.pair .leaf (.pair .leaf (.sl (.sha [1]))))
def YO:Sh:=(.pair (.sl (.sha [1])) (.sl (.sha [1])))
def q0:Pt:=(.pair .leaf (.pair .leaf (.pair .leaf .own)))
def aky:Pt:=(.pair .shr (.pair .shr (.pair .shr .shr)))
def aks:Pt:=(.pair .hd (.pair .hd (.pair .own .hd)))
def q3:Pt:=(.pair .leaf (.pair .leaf (.pair .leaf .shr)))
def q35:Pt:=(.pair .own (.pair .own (.pair .own .own)))
def gx:Pt:=(.pair .shr (.pair .leaf (.pair .leaf .leaf)))
def sK:Pt:=(.pair .own (.pair .leaf (.pair .leaf .leaf)))
def q48:Pt:=(.pair .shr (.pair .leaf (.pair .leaf .shr)))
def UL:Pt:=(.pair .own (.pair .leaf (.pair .leaf .own)))
def q54:Pt:=(.pair .shr (.pair .shr (.pair .leaf .leaf)))
def q60:Pt:=(.pair .own (.pair .own (.pair .leaf .leaf)))
def q66:Pt:=(.pair .leaf (.pair .leaf (.pair .leaf .leaf)))
abbrev aQ:=Nat->Option KO
abbrev aI:=List (FuncId×BJ)
abbrev ar:Ty:= .int .i64
def AI:Sh:= .pair .leaf (.pair .leaf (.pair .leaf h6))
def aT:Sh:= .sl (.sha [1])
def fL:Sh:= .pair AI (.pair .leaf (.pair .leaf (.pair aT (.pair aT (.pair aT (.pair .leaf (.pair aT (.pair .leaf (.pair aT (.pair aT (.pair aT YO)))))))))))
def qf:Sh:= .pair (.pair .leaf (.pair .leaf (.pair .leaf Sx))) (.pair .leaf (.pair .leaf (.pair (.sl (.row 5 [1,2,5] false)) (.pair (.sl (.row 6 [1,2,6] false)) (.pair (.sl (.row 7 [1,2,7] false)) (.pair .leaf (.pair (.sl (.row 8 [1,2,8] false)) (.pair .leaf (.pair (.sl (.row 9 [1,2,9] false)) (.pair (.sl (.row 10 [1,2,10] false)) (.pair (.sl (.row 11 [1,2,11] false)) TO)))))))))))
def pX:Sh:= .sl (.sha [])
def TX:Sh:= .pair pX (.pair .leaf (.pair pX (.pair .leaf (.pair pX (.pair pX Mf)))))
def sZ:Sh:= .pair (.pair .leaf (.pair .leaf (.pair .leaf rO))) (.pair .leaf (.pair .leaf (.pair pX (.pair pX TX))))
def Np:Sh:= .sl (.row 6 [6] true)
def DU:Sh:= .sl (.row 8 [8] true)
def KY:Sh:= .sl (.row 9 [9] true)
def KT:Sh:= .sl (.row 10 [10] true)
def Sc:Sh:= .sl (.row 11 [11] true)
def KX:Sh:= .pair (.pair .leaf (.pair .leaf (.pair .leaf aj8))) (.pair .leaf (.pair .leaf (.pair Np (.pair (.sl (.row 7 [7] true)) (.pair DU (.pair .leaf (.pair KY (.pair .leaf (.pair KT (.pair aT (.pair Sc YO)))))))))))
def Sa:Sh:= .pair (.sl (.row 6 [1,6] false)) (.pair (.sl (.row 7 [1,7] false)) (.pair .leaf (.pair (.sl (.row 8 [1,8] false)) (.pair .leaf (.pair (.sl (.row 9 [1,9] false)) (.pair (.sl (.row 10 [1,10] false)) (.pair (.sl (.row 11 [1,11] false)) aak)))))))
def y0:Sh:= .pair .leaf (.pair .leaf (.pair DX (.pair aT (.pair .leaf (.pair aT aku)))))
def oe:Sh:= .pair .leaf (.pair .leaf (.pair .leaf Mc))
def VT:Sh:= .pair (.pair .leaf (.pair .leaf (.pair .leaf aao))) (.pair .leaf (.pair .leaf (.pair (.sl (.row 5 [1,2,5,15] false)) (.pair (.sl (.row 6 [1,2,6,15] false)) (.pair (.sl (.row 7 [1,2,7,15] false)) (.pair .leaf (.pair (.sl (.row 8 [1,2,8,15] false)) (.pair .leaf (.pair (.sl (.row 9 [1,2,9,15] false)) (.pair (.sl (.row 10 [1,2,10,15] false)) (.pair (.sl (.row 11 [1,2,11,15] false)) aaj)))))))))))
def yJ:Sh:= .pair .leaf (.pair .leaf (.pair .leaf Z5))
def BM:Sh:= .pair yJ (.pair .leaf (.pair .leaf (.pair (.sl (.row 20 [2,20] false)) (.pair (.sl (.row 21 [2,21] false)) (.pair (.sl (.row 22 [2,22] false)) (.pair .leaf (.pair (.sl (.row 23 [2,23] false)) (.pair .leaf (.pair (.sl (.row 24 [2,24] false)) (.pair (.sl (.row 25 [2,25] false)) (.pair (.sl (.row 26 [2,26] false)) afL)))))))))))
def Bh:Sh:= .sl (.row 13 [13] true)
def Ns:Sh:= .sl (.row 14 [14] true)
def Re:Sh:= .sl (.row 15 [15] true)
def VN:Sh:= .pair (.pair .leaf (.pair .leaf (.pair .leaf Vh))) (.pair .leaf (.pair .leaf (.pair KT (.pair Sc (.pair (.sl (.row 12 [12] true)) (.pair .leaf (.pair Bh (.pair .leaf (.pair Ns (.pair Re (.pair (.sl (.row 16 [16] true)) ZS)))))))))))
def U7:Sh:= .pair oe (.pair .leaf (.pair .leaf (.pair DU (.pair KY (.pair KT (.pair .leaf (.pair Sc (.pair .leaf (.pair (.sl (.row 12 [] true)) (.pair Bh (.pair Ns akq)))))))))))
def DP:Sh:= .sl (.row 4 [4] true)
def Sp:Sh:= .pair oe (.pair .leaf (.pair .leaf (.pair DU (.pair KY (.pair KT (.pair .leaf (.pair Sc (.pair .leaf (.pair (.sl (.row 12 [] true)) (.pair Bh (.pair aT YO)))))))))))
def wZ:Sh:= .pair AI (.pair .leaf (.pair .leaf (.pair (.sl (.row 5 [1,5] false)) Sa)))
def TY:Sh:= .pair .leaf (.pair .leaf (.pair PE (.pair (.sl (.sha [2,12])) (.pair .leaf (.pair (.sl (.sha [2,12])) Sv)))))
def zA:Sh:= .pair .leaf .leaf
def KW:Sh:= .pair oe (.pair .leaf (.pair .leaf (.pair DU (.pair KY TX))))
def IG:Sh:= .pair .leaf (.pair DU Vh)
def E7:Sh:= .pair .leaf (.pair pX rO)
def BK:Sh:= .pair .leaf (.pair aT h6)
def NA:Sh:= .pair .leaf (.pair .leaf (.pair KU pX))
def IF:Sh:= .sl (.row 5 [] true)
def MB:Sh:= .pair .leaf (.sl (.row 7 [7] true))
def JA:Sh:= .pair .leaf aT
def NZ:Sh:= .sl (.row 5 [5] true)
def Vv:Sh:= .pair .leaf (.pair .leaf (.pair aj4 (.pair (.sl .dead) (.pair .leaf akV))))
def TS:Sh:= .pair AI (.pair .leaf (.pair .leaf (.pair (.sl (.row 5 [5] false)) Sa)))
def rj:Sh:= .sl (.row 4 [] true)
def ov:Sh:= .pair .leaf pX
def pF:Sh:= .pair .leaf (.pair (.sl (.sha [1,2])) Sx)
def sW:Sh:= .sl (.row 4 [2] false)
def Qa:Sh:= .pair .leaf (.pair .leaf (.pair DX aT))
def D5:Pt:= .pair .leaf (.pair .leaf q3)
def jH:Pt:= .pair D5 (.pair .leaf (.pair .leaf (.pair .hd (.pair .hd (.pair .hd (.pair .leaf (.pair .hd (.pair .leaf (.pair .hd aks)))))))))
def ox:Pt:= .pair D5 (.pair .leaf (.pair .leaf (.pair .shr (.pair .shr (.pair .shr (.pair .leaf (.pair .shr (.pair .leaf (.pair .shr aky)))))))))
def pD:Pt:= .pair .leaf (.pair .leaf (.pair gx (.pair .shr (.pair .leaf q54))))
def xp:Pt:= .pair .leaf (.pair .leaf (.pair gx (.pair .shr (.pair .leaf (.pair .leaf (.pair .leaf (.pair .shr q66)))))))
def KZ:Pt:= .pair .leaf .leaf
def oU:Pt:= .pair .rom KZ
def afq:Pt:= .pair .leaf (.pair .leaf q0)
def GQ:Pt:= .pair afq (.pair .leaf (.pair .leaf (.pair .own (.pair .own (.pair .own (.pair .leaf (.pair .own (.pair .leaf (.pair .own q35)))))))))
def Sl:Pt:= .pair .leaf .shr
def BD:Pt:= .pair .leaf Sl
def P8:Pt:= .pair .leaf q48
def XP:Pt:= .pair .leaf .own
def akt:Pt:= .pair .leaf (.pair .leaf (.pair sK (.pair .own (.pair .leaf (.pair .leaf (.pair .leaf (.pair .own q66)))))))
def aag:Pt:= .pair .shr .leaf
def ZW:Pt:= .pair .leaf UL
def aj2:Pt:= .pair .leaf (.pair .leaf (.pair sK (.pair .own (.pair .leaf q60))))
def abO:Pt:= .pair .own .leaf
def afN:Pt:= .pair .leaf XP
def q1:Pt:=(.pair .leaf q0)
def q2:Pt:=(.pair .leaf q1)
def q4:Pt:=(.pair .leaf q3)
def q5:Pt:=(.pair .leaf q4)
def h7:Sh:=(.pair .leaf h6)
def h8:Sh:=(.pair .leaf h7)
def h9:Sh:=(.pair .leaf h8)
def zt:Sh:=(.pair .leaf rO)
def mS:Sh:=(.pair .leaf zt)
def Dc:Sh:=(.pair .leaf mS)
def Gp:Sh:=(.pair (.sl (.sha [])) Mf)
def Pj:Sh:=(.pair (.sl (.sha [])) Gp)
def OC:Sh:=(.pair .leaf Pj)
def h18:Sh:=(.pair (.sl (.sha [])) OC)
def h19:Sh:=(.pair .leaf h18)
def KQ:Sh:=(.pair (.sl (.sha [])) h19)
def h21:Sh:=(.pair (.sl (.sha [])) KQ)
def h22:Sh:=(.pair (.sl (.sha [])) h21)
def h23:Sh:=(.pair .leaf h22)
def h24:Sh:=(.pair .leaf h23)
def h25:Sh:=(.pair Dc h24)
def h27:Sh:=(.pair .leaf Mc)
def h28:Sh:=(.pair .leaf h27)
def Vl:Sh:=(.pair .leaf h28)
def WI:Sh:=(.pair (.sl (.row 9 [9] true)) KQ)
def h31:Sh:=(.pair (.sl (.row 8 [8] true)) WI)
def h32:Sh:=(.pair .leaf h31)
def h33:Sh:=(.pair .leaf h32)
def h34:Sh:=(.pair Vl h33)
def q36:Pt:=(.pair .own q35)
def q37:Pt:=(.pair .leaf q36)
def q38:Pt:=(.pair .own q37)
def q39:Pt:=(.pair .leaf q38)
def q40:Pt:=(.pair .own q39)
def q41:Pt:=(.pair .own q40)
def q42:Pt:=(.pair .own q41)
def q43:Pt:=(.pair .leaf q42)
def q44:Pt:=(.pair .leaf q43)
def q45:Pt:=(.pair q2 q44)
def q49:Pt:=(.pair .leaf q48)
def q51:Pt:=(.pair .leaf UL)
def WT:Pt:=(.pair .leaf (.pair .shr (.pair .leaf .shr)))
def UO:Pt:=(.pair .leaf (.pair .own (.pair .leaf .own)))
def q55:Pt:=(.pair .leaf q54)
def q56:Pt:=(.pair .shr q55)
def q57:Pt:=(.pair gx q56)
def q58:Pt:=(.pair .leaf q57)
def q59:Pt:=(.pair .leaf q58)
def q61:Pt:=(.pair .leaf q60)
def q62:Pt:=(.pair .own q61)
def q63:Pt:=(.pair sK q62)
def q64:Pt:=(.pair .leaf q63)
def q65:Pt:=(.pair .leaf q64)
def q67:Pt:=(.pair .shr q66)
def q68:Pt:=(.pair .leaf q67)
def q69:Pt:=(.pair .leaf q68)
def q70:Pt:=(.pair .leaf q69)
def q71:Pt:=(.pair .shr q70)
def q72:Pt:=(.pair gx q71)
def q73:Pt:=(.pair .leaf q72)
def q74:Pt:=(.pair .leaf q73)
def q75:Pt:=(.pair .own q66)
def q76:Pt:=(.pair .leaf q75)
def q77:Pt:=(.pair .leaf q76)
def q78:Pt:=(.pair .leaf q77)
def q79:Pt:=(.pair .own q78)
def q80:Pt:=(.pair sK q79)
def q81:Pt:=(.pair .leaf q80)
def q82:Pt:=(.pair .leaf q81)
def h84:Sh:=(.pair (.sl (.sha [1])) YO)
def h85:Sh:=(.pair (.sl (.sha [1])) h84)
def h86:Sh:=(.pair (.sl (.sha [1])) h85)
def h87:Sh:=(.pair .leaf h86)
def h88:Sh:=(.pair (.sl (.sha [1])) h87)
def h89:Sh:=(.pair .leaf h88)
def h90:Sh:=(.pair (.sl (.sha [1])) h89)
def h91:Sh:=(.pair (.sl (.sha [1])) h90)
def h92:Sh:=(.pair (.sl (.sha [1])) h91)
def h93:Sh:=(.pair .leaf h92)
def h94:Sh:=(.pair .leaf h93)
def h95:Sh:=(.pair h9 h94)
def h96:Sh:=(.pair (.sl (.row 13 [13] true)) h84)
def h97:Sh:=(.pair (.sl (.row 12 [] true)) h96)
def h98:Sh:=(.pair .leaf h97)
def h99:Sh:=(.pair (.sl (.row 11 [11] true)) h98)
def adP:Sh:=(.pair .leaf h99)
def acU:Sh:=(.pair (.sl (.row 10 [10] true)) adP)
def acB:Sh:=(.pair (.sl (.row 9 [9] true)) acU)
def abQ:Sh:=(.pair (.sl (.row 8 [8] true)) acB)
def aiP:Sh:=(.pair .leaf abQ)
def al9:Sh:=(.pair .leaf aiP)
def amu:Sh:=(.pair Vl al9)
def alo:Sh:=(.pair (.sl (.row 14 [14] true)) akq)
def al3:Sh:=(.pair (.sl (.row 13 [13] true)) alo)
def aly:Sh:=(.pair (.sl (.row 12 [] true)) al3)
def al8:Sh:=(.pair .leaf aly)
def alp:Sh:=(.pair (.sl (.row 11 [11] true)) al8)
def al5:Sh:=(.pair .leaf alp)
def alM:Sh:=(.pair (.sl (.row 10 [10] true)) al5)
def alU:Sh:=(.pair (.sl (.row 9 [9] true)) alM)
def Kc:Sh:=(.pair (.sl (.row 8 [8] true)) alU)
def XJ:Sh:=(.pair .leaf Kc)
def Xe:Sh:=(.pair .leaf XJ)
def afQ:Sh:=(.pair Vl Xe)
def alY:Pt:=(.pair .shr aky)
def XM:Pt:=(.pair .leaf alY)
def adN:Pt:=(.pair .shr XM)
def adD:Pt:=(.pair .leaf adN)
def ada:Pt:=(.pair .shr adD)
def acR:Pt:=(.pair .shr ada)
def adj:Pt:=(.pair .shr acR)
def abE:Pt:=(.pair .leaf adj)
def adr:Pt:=(.pair .leaf abE)
def afr:Pt:=(.pair q5 adr)
def Xs:Sh:=(.pair (.sl (.sha [3])) (.pair .leaf .leaf))
def akC:Sh:=(.pair (.sl (.row 6 [6] true)) (.pair .leaf (.pair .leaf .leaf)))
def acO:Sh:=(.pair KU (.sl (.sha [])))
def acg:Sh:=(.pair .leaf acO)
def afK:Sh:=(.pair .leaf acg)
def alN:Pt:=(.pair .hd aks)
def alx:Pt:=(.pair .leaf alN)
def alW:Pt:=(.pair .hd alx)
def alG:Pt:=(.pair .leaf alW)
def alH:Pt:=(.pair .hd alG)
def alF:Pt:=(.pair .hd alH)
def alQ:Pt:=(.pair .hd alF)
def alS:Pt:=(.pair .leaf alQ)
def al7:Pt:=(.pair .leaf alS)
def amt:Pt:=(.pair q5 al7)
def ah9:Sh:=(.pair .leaf Sx)
def xl:Sh:=(.pair .leaf ah9)
def XG:Sh:=(.pair .leaf xl)
def acv:Sh:=(.pair (.sl (.row 11 [1,2,11] false)) TO)
def adQ:Sh:=(.pair (.sl (.row 10 [1,2,10] false)) acv)
def adR:Sh:=(.pair (.sl (.row 9 [1,2,9] false)) adQ)
def adZ:Sh:=(.pair .leaf adR)
def abP:Sh:=(.pair (.sl (.row 8 [1,2,8] false)) adZ)
def acA:Sh:=(.pair .leaf abP)
def acE:Sh:=(.pair (.sl (.row 7 [1,2,7] false)) acA)
def ac5:Sh:=(.pair (.sl (.row 6 [1,2,6] false)) acE)
def X4:Sh:=(.pair (.sl (.row 5 [1,2,5] false)) ac5)
def WY:Sh:=(.pair .leaf X4)
def adB:Sh:=(.pair .leaf WY)
def af6:Sh:=(.pair XG adB)
def VE:Sh:=(.pair .leaf (.pair .leaf (.sl (.row 8 [8] true))))
def aiN:Sh:=(.pair (.sl (.row 11 [1,11] false)) aak)
def aca:Sh:=(.pair (.sl (.row 10 [1,10] false)) aiN)
def adn:Sh:=(.pair (.sl (.row 9 [1,9] false)) aca)
def acZ:Sh:=(.pair .leaf adn)
def aiF:Sh:=(.pair (.sl (.row 8 [1,8] false)) acZ)
def ab9:Sh:=(.pair .leaf aiF)
def aiK:Sh:=(.pair (.sl (.row 7 [1,7] false)) ab9)
def Z2:Sh:=(.pair (.sl (.row 6 [1,6] false)) aiK)
def ai7:Sh:=(.pair (.sl (.row 5 [5] false)) Z2)
def Rc:Sh:=(.pair .leaf ai7)
def adG:Sh:=(.pair .leaf Rc)
def akd:Sh:=(.pair h9 adG)
def aip:Sh:=(.pair (.sl (.sha [2,12])) Sv)
def ace:Sh:=(.pair .leaf aip)
def ad3:Sh:=(.pair (.sl (.sha [2,12])) ace)
def ajf:Sh:=(.pair PE ad3)
def ack:Sh:=(.pair .leaf ajf)
def af2:Sh:=(.pair .leaf ack)
def adW:Sh:=(.pair (.sl (.row 5 [1,5] false)) Z2)
def XS:Sh:=(.pair .leaf adW)
def adV:Sh:=(.pair .leaf XS)
def af3:Sh:=(.pair h9 adV)
def adJ:Sh:=(.pair .leaf aao)
def abT:Sh:=(.pair .leaf adJ)
def ad2:Sh:=(.pair .leaf abT)
def abF:Sh:=(.pair (.sl (.row 11 [1,2,11,15] false)) aaj)
def ab5:Sh:=(.pair (.sl (.row 10 [1,2,10,15] false)) abF)
def abN:Sh:=(.pair (.sl (.row 9 [1,2,9,15] false)) ab5)
def acF:Sh:=(.pair .leaf abN)
def ahW:Sh:=(.pair (.sl (.row 8 [1,2,8,15] false)) acF)
def XH:Sh:=(.pair .leaf ahW)
def adb:Sh:=(.pair (.sl (.row 7 [1,2,7,15] false)) XH)
def ac3:Sh:=(.pair (.sl (.row 6 [1,2,6,15] false)) adb)
def Xq:Sh:=(.pair (.sl (.row 5 [1,2,5,15] false)) ac3)
def XT:Sh:=(.pair .leaf Xq)
def abJ:Sh:=(.pair .leaf XT)
def af4:Sh:=(.pair ad2 abJ)
def ZN:Sh:=(.pair .leaf (.pair .leaf (.sl (.row 15 [15] true))))
def ad1:Sh:=(.pair (.sl (.sha [1])) h6)
def afB:Sh:=(.pair .leaf ad1)
def adA:Sh:=(.pair (.sl (.sha [])) rO)
def afD:Sh:=(.pair .leaf adA)
def adT:Sh:=(.pair (.sl (.row 8 [8] true)) Vh)
def afz:Sh:=(.pair .leaf adT)
def U8:Sh:=(.pair (.sl (.row 11 [11] true)) (.pair .leaf (.pair .leaf .leaf)))
def acw:Sh:=(.pair (.sl (.sha [])) (.pair .leaf (.sl (.sha []))))
def aad:Sh:=(.pair .leaf acw)
def acW:Sh:=(.pair DX (.sl (.sha [1])))
def acs:Sh:=(.pair .leaf acW)
def af9:Sh:=(.pair .leaf acs)
def adz:Sh:=(.pair .leaf Vh)
def acm:Sh:=(.pair .leaf adz)
def ait:Sh:=(.pair .leaf acm)
def ai8:Sh:=(.pair (.sl (.row 16 [16] true)) ZS)
def WU:Sh:=(.pair (.sl (.row 15 [15] true)) ai8)
def adI:Sh:=(.pair (.sl (.row 14 [14] true)) WU)
def abW:Sh:=(.pair .leaf adI)
def acN:Sh:=(.pair (.sl (.row 13 [13] true)) abW)
def acP:Sh:=(.pair .leaf acN)
def acI:Sh:=(.pair (.sl (.row 12 [12] true)) acP)
def acS:Sh:=(.pair (.sl (.row 11 [11] true)) acI)
def acT:Sh:=(.pair (.sl (.row 10 [10] true)) acS)
def acx:Sh:=(.pair .leaf acT)
def ac1:Sh:=(.pair .leaf acx)
def agd:Sh:=(.pair ait ac1)
def ah4:Sh:=(.pair .leaf Z5)
def afx:Sh:=(.pair .leaf ah4)
def afY:Sh:=(.pair .leaf afx)
def ajc:Sh:=(.pair (.sl (.row 26 [2,26] false)) afL)
def aik:Sh:=(.pair (.sl (.row 25 [2,25] false)) ajc)
def ai4:Sh:=(.pair (.sl (.row 24 [2,24] false)) aik)
def aih:Sh:=(.pair .leaf ai4)
def aiH:Sh:=(.pair (.sl (.row 23 [2,23] false)) aih)
def ai9:Sh:=(.pair .leaf aiH)
def akk:Sh:=(.pair (.sl (.row 22 [2,22] false)) ai9)
def alj:Sh:=(.pair (.sl (.row 21 [2,21] false)) akk)
def alD:Sh:=(.pair (.sl (.row 20 [2,20] false)) alj)
def alz:Sh:=(.pair .leaf alD)
def alA:Sh:=(.pair .leaf alz)
def amw:Sh:=(.pair afY alA)
def alZ:Sh:=(.pair .leaf aj8)
def alm:Sh:=(.pair .leaf alZ)
def al1:Sh:=(.pair .leaf alm)
def alI:Sh:=(.pair (.sl (.row 11 [11] true)) YO)
def al4:Sh:=(.pair (.sl (.sha [1])) alI)
def aln:Sh:=(.pair (.sl (.row 10 [10] true)) al4)
def alr:Sh:=(.pair .leaf aln)
def alV:Sh:=(.pair (.sl (.row 9 [9] true)) alr)
def amb:Sh:=(.pair .leaf alV)
def alO:Sh:=(.pair (.sl (.row 8 [8] true)) amb)
def alR:Sh:=(.pair (.sl (.row 7 [7] true)) alO)
def alX:Sh:=(.pair (.sl (.row 6 [6] true)) alR)
def alT:Sh:=(.pair .leaf alX)
def alP:Sh:=(.pair .leaf alT)
def amv:Sh:=(.pair al1 alP)
def alv:Sh:=(.pair (.sl (.sha [1])) aku)
def alJ:Sh:=(.pair .leaf alv)
def alw:Sh:=(.pair (.sl (.sha [1])) alJ)
def alq:Sh:=(.pair DX alw)
def alE:Sh:=(.pair .leaf alq)
def ams:Sh:=(.pair .leaf alE)
def alL:Sh:=(.pair (.sl (.sha [1,2])) Sx)
def amy:Sh:=(.pair .leaf alL)
def al0:Sh:=(.pair .leaf akV)
def alB:Sh:=(.pair (.sl .dead) al0)
def alu:Sh:=(.pair aj4 alB)
def ama:Sh:=(.pair .leaf alu)
def amx:Sh:=(.pair .leaf ama)
def aJ{cts:List (FuncId×BJ)}(hc:aH prog cts)(la ja:Nat->Option KO)(k:Nat){f:FuncId}{fn:Func}(b:prog.funcs[f]?=some fn){ps:List PK}(c:fnB fn ps.length=true){rs:List RK}{a:List (Nat×List Bool)}{F:du (ps.map PK.ty)->Option (du (rs.map RK.ty++eM ps))}(d:∀x,TJ (Va TT cts la ja k) ps rs a fn x=F x):aH prog ((f,⟨ps,rs,F,a⟩)::cts):=aH.JD acK mixed hc la ja k b c d
section
variable(k:Nat)
def vc:aI:=(318,tJ k)::([]:List (FuncId×BJ))
def BE:aH prog (vc k):=⟨Gg k,(show aH prog []from trivial)⟩
def sE:aI:=(129,rB k)::(vc k)
def zk:aH prog (sE k):=⟨Dw k,(BE k)⟩
def CM:aI:=(12,⟨[.val (.sl (.int .u8)) .rom],[.val .bool .leaf],vT k,[]⟩)::(sE k)
def Nn:aH prog (CM k):=aJ (zk k) nA nA k func12 (by kernel_rfl) (fun x=>by kernel_rfl)
def Ip:aQ:=fun|3=>some ⟨[(0,.val (.sl (.int .u8)) (.sl (.sha [3]))),(3,.val ar .leaf),(4,.val ar .leaf)],4⟩|_=>none
def Hj:aQ:=fun|6=>some ⟨[(0,.val (.sl (.int .u8)) (.sl (.sha [3]))),(3,.val ar .leaf)],4⟩|_=>none
def yl:aI:=(74,⟨[.val (.sl (.int .u8)) .rom],[.nbox cJ oU],nI k,[]⟩)::(CM k)
def I4:aH prog (yl k):=aJ (Nn k) Ip Hj k func74 (by kernel_rfl) (fun x=>by kernel_rfl)
def wx:aI:=(76,⟨[.val (.sl (.int .u8)) .rom,.val ar .leaf],[.val ar .leaf],mr k,[]⟩)::(yl k)
def HL:aH prog (wx k):=aJ (I4 k) nA nA k func76 (by kernel_rfl) (fun x=>by kernel_rfl)
def wQ:aI:=(172,⟨[.io cJ oU],[.val ar .leaf],gb k,[]⟩)::(wx k)
def Io:aH prog (wQ k):=aJ (HL k) nA nA k func172 (by kernel_rfl) (fun x=>by kernel_rfl)
def tH:aI:=(91,⟨[.io cJ oU,.val ar .leaf],[.val ar .leaf],bf k,[]⟩)::(wQ k)
def FX:aH prog (tH k):=aJ (Io k) nA nA k func91 (by kernel_rfl) (fun x=>by kernel_rfl)
def yb:aI:=(109,⟨[.io cJ oU,.val (.sl ar) .shr],[.val ar .leaf],bH k,[]⟩)::(tH k)
def Jp:aH prog (yb k):=aJ (FX k) nA nA k func109 (by kernel_rfl) (fun x=>by kernel_rfl)
def zM:aI:=(281,⟨[.io cJ oU],[.val (.sl .str) .own],oM k,[]⟩)::(yb k)
def K5:aH prog (zM k):=aJ (Jp k) nA nA k func281 (by kernel_rfl) (fun x=>by kernel_rfl)
def uZ:aI:=(170,⟨[.io cJ oU],[.val db afq],lF k,[]⟩)::(zM k)
def FY:aH prog (uZ k):=aJ (K5 k) nA nA k func170 (by kernel_rfl) (fun x=>by kernel_rfl)
def zR:aI:=(93,⟨[.val ar .leaf,.val ar .leaf,.val ar .leaf],[.val .bool .leaf],bY k,[]⟩)::(uZ k)
def Lp:aH prog (zR k):=aJ (FY k) nA nA k func93 (by kernel_rfl) (fun x=>by kernel_rfl)
def EI:aQ:=fun|2=>some ⟨[(0,.val .str .leaf),(3,.val ar .leaf)],4⟩|_=>none
def EN:aQ:=fun|6=>some ⟨[(0,.val .str .leaf)],4⟩|_=>none
def wS:aI:=(282,⟨[.val .str .leaf],[.val .bool .leaf],km k,[]⟩)::(zR k)
def HF:aH prog (wS k):=aJ (Lp k) EI EN k func282 (by kernel_rfl) (fun x=>by kernel_rfl)
def zJ:aI:=(246,⟨[.val .str .leaf,.val .str .leaf],[.val .bool .leaf],fH k,[]⟩)::(wS k)
def Lu:aH prog (zJ k):=aJ (HF k) nA nA k func246 (by kernel_rfl) (fun x=>by kernel_rfl)
def Cg:aQ:=fun|2=>some ⟨[(0,.val (.sl .str) aT),(3,.val ar .leaf)],4⟩|_=>none
def uv:aI:=(283,⟨[.val (.sl .str) .shr],[.val .bool .leaf],gH k,[]⟩)::(zJ k)
def FF:aH prog (uv k):=aJ (Lu k) Cg nA k func283 (by kernel_rfl) (fun x=>by kernel_rfl)
def Jx:aQ:=fun|2=>some ⟨[(0,.val (.sl .str) aT),(3,.val ar .leaf)],4⟩|_=>none
def JL:aQ:=fun|6=>some ⟨[(0,.val (.sl .str) aT)],4⟩|_=>none
def zK:aI:=(173,⟨[.val (.sl .str) .shr],[.val .bool .leaf],oN k,[]⟩)::(uv k)
def Lt:aH prog (zK k):=aJ (FF k) Jx JL k func173 (by kernel_rfl) (fun x=>by kernel_rfl)
def wH:aI:=(92,⟨[.val db D5],[.val .bool .leaf],mH k,[]⟩)::(zK k)
def Ht:aH prog (wH k):=aJ (Lt k) nA nA k func92 (by kernel_rfl) (fun x=>by kernel_rfl)
def uA:aI:=(106,⟨[.val db D5],[.val db afq],jD k,[]⟩)::(wH k)
def EG:aH prog (uA k):=aJ (Ht k) nA nA k func106 (by kernel_rfl) (fun x=>by kernel_rfl)
def Bj:aQ:=fun|2=>some ⟨[(0,.val ar .leaf),(3,.val (.sl aj) DP)],5⟩|_=>none
def sq:aI:=(107,⟨[.val ar .leaf],[.val (.sl aj) .own],kG k,[]⟩)::(uA k)
def C5:aH prog (sq k):=aJ (EG k) Bj nA k func107 (by kernel_rfl) (fun x=>by kernel_rfl)
def A0:aQ:=fun|5=>some ⟨[(1,.box 4 db AI),(2,.box 5 aD sZ),(3,.box 6 aD KW),(4,.val ar .leaf)],10⟩|9=>some ⟨[(1,.box 4 db AI),(2,.box 5 aD sZ),(3,.box 6 aD (.pair oe (.pair .leaf (.pair .leaf (.pair DU (.pair KY (.pair pX (.pair .leaf (.pair pX (.pair .leaf (.pair pX (.pair pX (.pair pX (.pair KT pX)))))))))))))),(5,.val ar .leaf)],11⟩|_=>none
def AR:aQ:=fun|8=>some ⟨[(1,.box 4 db AI),(2,.box 5 aD sZ),(3,.box 6 aD KW)],10⟩|_=>none
def rC:aI:=(27,⟨[.val db D5],[.val aD GQ],kO k,[]⟩)::(sq k)
def Cj:aH prog (rC k):=aJ (C5 k) A0 AR k func27 (by kernel_rfl) (fun x=>by kernel_rfl)
def wX:aI:=(146,⟨[.val ae gx],[.val ae sK],br k,[]⟩)::(rC k)
def HN:aH prog (wX k):=aJ (Cj k) nA nA k func146 (by kernel_rfl) (fun x=>by kernel_rfl)
def Ha:aQ:=fun|3=>some ⟨[(0,.val (.sl ae) aT),(3,.val (.sl ae) DP),(4,.val ar .leaf)],5⟩|_=>none
def xO:aI:=(210,⟨[.val (.sl ae) .shr],[.val (.sl ae) .own],bK k,[]⟩)::(wX k)
def Jm:aH prog (xO k):=aJ (HN k) Ha nA k func210 (by kernel_rfl) (fun x=>by kernel_rfl)
def wO:aI:=(345,⟨[.val ax Sl],[.val ax XP],kj k,[]⟩)::(xO k)
def Hu:aH prog (wO k):=aJ (Jm k) nA nA k func345 (by kernel_rfl) (fun x=>by kernel_rfl)
def Ei:aQ:=fun|3=>some ⟨[(1,.box 4 aj h6),(2,.box 5 aj rO),(3,.box 6 aj Mc),(4,.val ar .leaf)],8⟩|_=>none
def wM:aI:=(302,⟨[.val aj BD],[.val aj afN],iF k,[]⟩)::(wO k)
def Hf:aH prog (wM k):=aJ (Hu k) Ei nA k func302 (by kernel_rfl) (fun x=>by kernel_rfl)
def Es:aQ:=fun|3=>some ⟨[(0,.val (.sl aj) aT),(3,.val (.sl aj) DP),(4,.val ar .leaf)],5⟩|_=>none
def wj:aI:=(208,⟨[.val (.sl aj) .shr],[.val (.sl aj) .own],mB k,[]⟩)::(wM k)
def Hm:aH prog (wj k):=aJ (Hf k) Es nA k func208 (by kernel_rfl) (fun x=>by kernel_rfl)
def we:aI:=(303,⟨[.val aW aag],[.val aW abO],iz k,[]⟩)::(wj k)
def Hi:aH prog (we k):=aJ (Hm k) nA nA k func303 (by kernel_rfl) (fun x=>by kernel_rfl)
end
end Vg.Tryz
namespace Vg.Tryz
open Go Vg Go.Proofs
set_option maxRecDepth 1000000
def HO:aQ:=fun|3=>some ⟨[(0,.val (.sl aW) aT),(3,.val (.sl aW) DP),(4,.val ar .leaf)],5⟩|_=>none
section
variable(k:Nat)
def yk:aI:=(209,⟨[.val (.sl aW) .shr],[.val (.sl aW) .own],qL k,[]⟩)::(we k)
def JS:aH prog (yk k):=aJ (Hi k) HO nA k func209 (by kernel_rfl) (fun x=>by kernel_rfl)
def tO:aI:=(304,⟨[.val al P8],[.val al ZW],fA k,[]⟩)::(yk k)
def FO:aH prog (tO k):=aJ (JS k) nA nA k func304 (by kernel_rfl) (fun x=>by kernel_rfl)
def CI:aQ:=fun|3=>some ⟨[(0,.val (.sl al) aT),(3,.val (.sl al) DP),(4,.val ar .leaf)],5⟩|_=>none
def uo:aI:=(211,⟨[.val (.sl al) .shr],[.val (.sl al) .own],fF k,[]⟩)::(tO k)
def ED:aH prog (uo k):=aJ (FO k) CI nA k func211 (by kernel_rfl) (fun x=>by kernel_rfl)
def sC:aI:=(212,⟨[.val cw WT],[.val cw UO],fT k,[]⟩)::(uo k)
def Ct:aH prog (sC k):=aJ (ED k) nA nA k func212 (by kernel_rfl) (fun x=>by kernel_rfl)
def tv:aI:=(213,⟨[.val aq pD],[.val aq aj2],jt k,[]⟩)::(sC k)
def Fo:aH prog (tv k):=aJ (Ct k) nA nA k func213 (by kernel_rfl) (fun x=>by kernel_rfl)
def uJ:aI:=(305,⟨[.val ay xp],[.val ay akt],jw k,[]⟩)::(tv k)
def Fx:aH prog (uJ k):=aJ (Fo k) nA nA k func305 (by kernel_rfl) (fun x=>by kernel_rfl)
def Eu:aQ:=fun|3=>some ⟨[(0,.val (.sl ay) aT),(3,.val (.sl ay) DP),(4,.val ar .leaf)],5⟩|_=>none
def wk:aI:=(214,⟨[.val (.sl ay) .shr],[.val (.sl ay) .own],pH k,[]⟩)::(uJ k)
def Ih:aH prog (wk k):=aJ (Fx k) Eu nA k func214 (by kernel_rfl) (fun x=>by kernel_rfl)
def CB:aQ:=fun|11=>some ⟨[(1,.box 4 aD fL),(2,.box 5 aD sZ),(3,.box 6 aD Sp),(4,.box 14 db oe),(5,.val ar .leaf)],15⟩|18=>some ⟨[(1,.box 4 aD fL),(2,.box 5 aD sZ),(3,.box 6 aD U7),(4,.box 16 db oe),(7,.val ar .leaf)],17⟩|_=>none
def Cc:aQ:=fun|15=>some ⟨[(1,.box 4 aD fL),(2,.box 5 aD sZ),(3,.box 6 aD Sp),(4,.box 14 db oe)],15⟩|22=>some ⟨[(1,.box 4 aD fL),(2,.box 5 aD sZ),(3,.box 6 aD U7),(4,.box 16 db oe)],17⟩|_=>none
def tI:aI:=(113,⟨[.val aD ox],[.val aD GQ],jB k,[]⟩)::(wk k)
def Fy:aH prog (tI k):=aJ (Ih k) CB Cc k func113 (by kernel_rfl) (fun x=>by kernel_rfl)
def xJ:aI:=(299,⟨[.io cJ oU,.val (.sl .str) .shr],[.val .str .leaf],eF k,[]⟩)::(tI k)
def Kj:aH prog (xJ k):=aJ (Fy k) nA nA k func299 (by kernel_rfl) (fun x=>by kernel_rfl)
def wc:aI:=(137,⟨[.io cJ oU,.val ar .leaf],[.val .bool .leaf],di k,[]⟩)::(xJ k)
def Hk:aH prog (wc k):=aJ (Kj k) nA nA k func137 (by kernel_rfl) (fun x=>by kernel_rfl)
def Fi:aQ:=fun|3=>some ⟨[(0,.box 4 cJ Xs),(3,.val (.sl ak) IF),(11,.val (.sl .str) (.sl (.row 6 [] true))),(12,.val ar .leaf),(13,.val ar .leaf)],7⟩|_=>none
def wK:aI:=(241,⟨[.io cJ oU],[.val (.sl ak) .own],fk k,[]⟩)::(wc k)
def Hb:aH prog (wK k):=aJ (Hk k) Fi nA k func241 (by kernel_rfl) (fun x=>by kernel_rfl)
def uw:aI:=(298,⟨[.io cJ oU],[.val .str .leaf],jA k,[]⟩)::(wK k)
def Gb:aH prog (uw k):=aJ (Hb k) nA nA k func298 (by kernel_rfl) (fun x=>by kernel_rfl)
def wA:aI:=(197,⟨[.io cJ oU],[.val ae sK],dw k,[]⟩)::(uw k)
def HD:aH prog (wA k):=aJ (Gb k) nA nA k func197 (by kernel_rfl) (fun x=>by kernel_rfl)
def uE:aI:=(319,⟨[.io cJ oU],[.val .str .leaf],lS k,[]⟩)::(wA k)
def Ep:aH prog (uE k):=aJ (HD k) nA nA k func319 (by kernel_rfl) (fun x=>by kernel_rfl)
def qq:aI:=(242,⟨[.io cJ oU],[.val .str .leaf],jZ k,[]⟩)::(uE k)
def Au:aH prog (qq k):=aJ (Ep k) nA nA k func242 (by kernel_rfl) (fun x=>by kernel_rfl)
def pT:aI:=(198,⟨[.io cJ oU],[.val .str .leaf],fh k,[]⟩)::(qq k)
def zh:aH prog (pT k):=aJ (Au k) nA nA k func198 (by kernel_rfl) (fun x=>by kernel_rfl)
def xT:aI:=(130,⟨[.io cJ oU],[.val (.sl ak) .own],nF k,[]⟩)::(pT k)
def Jt:aH prog (xT k):=aJ (zh k) nA nA k func130 (by kernel_rfl) (fun x=>by kernel_rfl)
def yf:aI:=(273,⟨[.io cJ oU],[.val ar .leaf],nN k,[]⟩)::(xT k)
def JB:aH prog (yf k):=aJ (Jt k) nA nA k func273 (by kernel_rfl) (fun x=>by kernel_rfl)
def yC:aI:=(163,⟨[.io cJ oU],[.val ar .leaf],nH k,[]⟩)::(yf k)
def JP:aH prog (yC k):=aJ (JB k) nA nA k func163 (by kernel_rfl) (fun x=>by kernel_rfl)
def yP:aI:=(110,⟨[.io cJ oU],[.val ae sK],gL k,[]⟩)::(yC k)
def Ji:aH prog (yP k):=aJ (JP k) nA nA k func110 (by kernel_rfl) (fun x=>by kernel_rfl)
def AS:aQ:=fun|3=>some ⟨[(1,.box 4 aj h6),(3,.val (.sl ae) NZ),(4,.val ar .leaf)],6⟩|_=>none
def rW:aI:=(285,⟨[.val aj BD],[.val (.sl ae) .own],iM k,[]⟩)::(yP k)
def Cd:aH prog (rW k):=aJ (Ji k) AS nA k func285 (by kernel_rfl) (fun x=>by kernel_rfl)
def DF:aQ:=fun|2=>some ⟨[(0,.val (.sl ak) aT),(1,.val (.sl ak) aT),(5,.val ar .leaf)],4⟩|_=>none
def CQ:aQ:=fun|8=>some ⟨[(0,.val (.sl ak) aT),(1,.val (.sl ak) aT)],4⟩|_=>none
def uK:aI:=(350,⟨[.val (.sl ak) .shr,.val (.sl ak) .shr],[.val .bool .leaf],jr k,[]⟩)::(rW k)
def Fc:aH prog (uK k):=aJ (Cd k) DF CQ k func350 (by kernel_rfl) (fun x=>by kernel_rfl)
def Ev:aQ:=fun|3=>some ⟨[(0,.val (.sl ae) aT),(3,.val (.sl ae) sW),(4,.val ar .leaf)],5⟩|7=>some ⟨[(0,.val (.sl ae) aT),(3,.val (.sl ae) sW),(4,.val ar .leaf),(5,.box 5 ae akC),(6,.val ar .leaf)],7⟩|_=>none
def FB:aQ:=fun|9=>some ⟨[(0,.val (.sl ae) aT),(3,.val (.sl ae) sW),(4,.val ar .leaf),(5,.box 5 ae akC),(6,.val ar .leaf)],7⟩|_=>none
def wF:aI:=(286,⟨[.val (.sl ae) .shr],[.val (.sl ae) .hd],iC k,[]⟩)::(uK k)
def HU:aH prog (wF k):=aJ (Fc k) Ev FB k func286 (by kernel_rfl) (fun x=>by kernel_rfl)
def y4:aQ:=fun|3=>some ⟨[(0,.val (.sl aj) aT),(3,.val (.sl ae) DP),(4,.val ar .leaf)],5⟩|_=>none
def y6:aQ:=fun|6=>some ⟨[(3,.val (.sl ae) DP)],5⟩|_=>none
def qA:aI:=(175,⟨[.val (.sl aj) .shr],[.val (.sl ae) .hd],cF k,[]⟩)::(wF k)
def AB:aH prog (qA k):=aJ (HU k) y4 y6 k func175 (by kernel_rfl) (fun x=>by kernel_rfl)
def sJ:aI:=(336,⟨[.io cJ oU,.val (.sl ae) .shr],[.val (.sl ak) .own],cQ k,[]⟩)::(qA k)
def Dd:aH prog (sJ k):=aJ (AB k) nA nA k func336 (by kernel_rfl) (fun x=>by kernel_rfl)
def zI:aI:=(337,⟨[.val aD ox],[.val .bool .leaf],kA k,[]⟩)::(sJ k)
def K1:aH prog (zI k):=aJ (Dd k) nA nA k func337 (by kernel_rfl) (fun x=>by kernel_rfl)
def DC:aQ:=fun|22=>some ⟨[(0,.box 4 cJ Xs),(3,.box 5 aD fL),(4,.box 6 iw NA),(5,.val ar .leaf),(7,.val ar .leaf)],7⟩|_=>none
def Ch:aQ:=fun|9=>some ⟨[(0,.box 4 cJ Xs),(3,.box 5 aD fL),(4,.box 6 iw NA),(5,.val ar .leaf),(6,.box 7 ae (.pair DU (.pair .leaf zA)))],9⟩|20=>some ⟨[(0,.box 4 cJ Xs),(3,.box 5 aD fL),(4,.box 6 iw NA)],7⟩|26=>some ⟨[(0,.box 4 cJ Xs),(3,.box 5 aD fL),(4,.box 6 iw NA),(5,.val ar .leaf)],7⟩|_=>none
def uF:aI:=(262,⟨[.io cJ oU,.val aD ox],[.val iw (.pair .leaf (.pair .leaf (.pair sK .own)))],lR k,[]⟩)::(zI k)
def El:aH prog (uF k):=aJ (K1 k) DC Ch k func262 (by kernel_rfl) (fun x=>by kernel_rfl)
def Cm:aQ:=fun|2=>some ⟨[(0,.val .str .leaf),(3,.val ar .leaf)],4⟩|_=>none
def CD:aQ:=fun|6=>some ⟨[(0,.val .str .leaf)],4⟩|_=>none
def ue:aI:=(287,⟨[.val .str .leaf],[.val .bool .leaf],jE k,[]⟩)::(uF k)
def F5:aH prog (ue k):=aJ (El k) Cm CD k func287 (by kernel_rfl) (fun x=>by kernel_rfl)
def tN:aI:=(245,⟨[.val ak KZ],[.val .bool .leaf],lH k,[]⟩)::(ue k)
def Gc:aH prog (tN k):=aJ (F5 k) nA nA k func245 (by kernel_rfl) (fun x=>by kernel_rfl)
def GW:aQ:=fun|2=>some ⟨[(0,.val (.sl ak) aT),(3,.val ar .leaf)],4⟩|_=>none
def H4:aQ:=fun|6=>some ⟨[(0,.val (.sl ak) aT)],4⟩|_=>none
def xX:aI:=(132,⟨[.val (.sl ak) .shr],[.val .bool .leaf],jF k,[]⟩)::(tN k)
def JW:aH prog (xX k):=aJ (Gc k) GW H4 k func132 (by kernel_rfl) (fun x=>by kernel_rfl)
def uH:aI:=(177,⟨[.val ae gx],[.val .bool .leaf],lO k,[]⟩)::(xX k)
def Fv:aH prog (uH k):=aJ (JW k) nA nA k func177 (by kernel_rfl) (fun x=>by kernel_rfl)
def zQ:aI:=(176,⟨[.val db D5,.val ae gx],[.val .bool .leaf],oT k,[]⟩)::(uH k)
def K0:aH prog (zQ k):=aJ (Fv k) nA nA k func176 (by kernel_rfl) (fun x=>by kernel_rfl)
def qR:aI:=(181,⟨[.val ar .leaf],[.val ar .leaf],eN k,[]⟩)::(zQ k)
def AL:aH prog (qR k):=aJ (K0 k) nA nA k func181 (by kernel_rfl) (fun x=>by kernel_rfl)
def rz:aI:=(215,⟨[.io aD jH,.val ar .leaf,.val aq pD],[],cS k,[(0,(jd 14 12))]⟩)::(qR k)
def Dj:aH prog (rz k):=aJ (AL k) nA nA k func215 (by kernel_rfl) (fun x=>by kernel_rfl)
def rI:aI:=(216,⟨[.io aD jH,.val ay xp],[],bV k,[(0,(jd 14 12))]⟩)::(rz k)
def Dx:aH prog (rI k):=aJ (Dj k) nA nA k func216 (by kernel_rfl) (fun x=>by kernel_rfl)
def Aw:aQ:=fun|4=>some ⟨[(0,.box 4 aD qf),(5,.box 14 ae DX)],15⟩|_=>none
def sn:aI:=(114,⟨[.io aD jH,.val ar .leaf,.val ae gx],[],kP k,[]⟩)::(rI k)
def B9:aH prog (sn k):=aJ (Dx k) nA Aw k func114 (by kernel_rfl) (fun x=>by kernel_rfl)
def rD:aI:=(133,⟨[.io aD jH,.val ar .leaf,.val aq pD],[],dF k,[]⟩)::(sn k)
def DH:aH prog (rD k):=aJ (B9 k) nA nA k func133 (by kernel_rfl) (fun x=>by kernel_rfl)
def Dg:aQ:=fun|5=>some ⟨[(0,.val (.sl ak) aT),(3,.val .str .leaf),(4,.val ar .leaf)],4⟩|_=>none
def Dp:aQ:=fun|9=>some ⟨[(0,.val (.sl ak) aT),(3,.val .str .leaf),(4,.val ar .leaf)],4⟩|10=>some ⟨[(3,.val .str .leaf)],4⟩|_=>none
def um:aI:=(354,⟨[.val (.sl ak) .shr],[.val .str .leaf],lU k,[]⟩)::(rD k)
def Fh:aH prog (um k):=aJ (DH k) Dg Dp k func354 (by kernel_rfl) (fun x=>by kernel_rfl)
def Lz:aQ:=fun|3=>some ⟨[(0,.val .str .leaf),(3,.val ar .leaf),(4,.val ar .leaf)],4⟩|_=>none
def DL:aI:=(353,⟨[.val .str .leaf],[.val ar .leaf],jR k,[]⟩)::(um k)
def MK:aH prog (DL k):=aJ (Fh k) Lz nA k func353 (by kernel_rfl) (fun x=>by kernel_rfl)
def wh:aI:=(294,⟨[.val (.sl ak) .shr],[.val ar .leaf],fj k,[]⟩)::(DL k)
def Ia:aH prog (wh k):=aJ (MK k) nA nA k func294 (by kernel_rfl) (fun x=>by kernel_rfl)
def wG:aI:=(293,⟨[.val ar .leaf,.val ar .leaf],[.val ar .leaf],kq k,[]⟩)::(wh k)
def Ie:aH prog (wG k):=aJ (Ia k) nA nA k func293 (by kernel_rfl) (fun x=>by kernel_rfl)
def wm:aI:=(291,⟨[.val (.sl aj) .shr,.val (.sl ak) .shr],[.val ar .leaf],gg k,[]⟩)::(wG k)
def HY:aH prog (wm k):=aJ (Ie k) nA nA k func291 (by kernel_rfl) (fun x=>by kernel_rfl)
def tX:aI:=(231,⟨[.rd aD,.val ar .leaf],[.val ar .leaf],gI k,[]⟩)::(wm k)
def FZ:aH prog (tX k):=aJ (HY k) nA nA k func231 (by kernel_rfl) (fun x=>by kernel_rfl)
def Jz:aQ:=fun|2=>some ⟨[(1,.val ar .leaf),(2,.box 4 aj h6),(5,.val ar .leaf)],5⟩|_=>none
def zX:aI:=(351,⟨[.val aj BD,.val ar .leaf],[.val ar .leaf],iY k,[]⟩)::(tX k)
def K4:aH prog (zX k):=aJ (FZ k) Jz nA k func351 (by kernel_rfl) (fun x=>by kernel_rfl)
def BQ:aQ:=fun|4=>some ⟨[(0,.val (.sl ak) aT),(1,.val (.sl ak) aT),(5,.val ar .leaf)],4⟩|_=>none
def uS:aI:=(184,⟨[.val (.sl ak) .shr,.val (.sl ak) .shr],[.val .bool .leaf],gJ k,[]⟩)::(zX k)
def Fl:aH prog (uS k):=aJ (K4 k) BQ nA k func184 (by kernel_rfl) (fun x=>by kernel_rfl)
def Df:aQ:=fun|2=>some ⟨[(1,.val (.sl ak) aT),(2,.box 4 ax JA),(5,.val ar .leaf)],5⟩|_=>none
def uz:aI:=(352,⟨[.val ax Sl,.val (.sl ak) .shr],[.val ar .leaf],fC k,[]⟩)::(uS k)
def FQ:aH prog (uz k):=aJ (Fl k) Df nA k func352 (by kernel_rfl) (fun x=>by kernel_rfl)
def wb:aI:=(290,⟨[.val aj BD,.val (.sl ak) .shr],[.val ae sK,.val .bool .leaf],mC k,[]⟩)::(uz k)
def He:aH prog (wb k):=aJ (FQ k) nA nA k func290 (by kernel_rfl) (fun x=>by kernel_rfl)
def qv:aI:=(182,⟨[.val (.sl aj) .shr,.val (.sl ak) .shr],[.val ae sK,.val .bool .leaf],fE k,[]⟩)::(wb k)
def A6:aH prog (qv k):=aJ (He k) nA nA k func182 (by kernel_rfl) (fun x=>by kernel_rfl)
def BU:aQ:=fun|3=>some ⟨[(0,.val (.sl aj) aT),(3,.val ar .leaf),(4,.val ar .leaf)],4⟩|6=>some ⟨[(0,.val (.sl aj) aT),(3,.val ar .leaf),(4,.val ar .leaf),(5,.val ar .leaf)],4⟩|_=>none
def ub:aI:=(315,⟨[.val (.sl aj) .shr],[.val ar .leaf],l0 k,[]⟩)::(qv k)
def FP:aH prog (ub k):=aJ (A6 k) BU nA k func315 (by kernel_rfl) (fun x=>by kernel_rfl)
def FD:aQ:=fun|6=>some ⟨[(0,.box 4 aD (.pair AI (.pair .leaf (.pair .leaf (.pair (.sl (.row 5 [1,5] false)) (.pair (.sl (.row 6 [1,6] false)) (.pair (.sl (.row 7 [1,7] false)) (.pair .leaf (.pair (.sl (.row 8 [1,8] false)) (.pair .leaf (.pair (.sl (.row 9 [1,9] false)) (.pair (.sl (.row 10 [1,10] false)) (.pair (.sl (.row 11 [1,11] false)) TO))))))))))))),(1,.val ar .leaf),(8,.ept 13 ay 0 [] ay)],14⟩|_=>none
def wi:aI:=(257,⟨[.io aD jH,.val ar .leaf,.val ar .leaf,.vx ae [12]],[],bR k,[]⟩)::(ub k)
def H9:aH prog (wi k):=aJ (FP k) nA FD k func257 (by kernel_rfl) (fun x=>by kernel_rfl)
def yq:aI:=(391,⟨[.val ae gx,.val ae gx],[.val .bool .leaf],nU k,[]⟩)::(wi k)
def Kr:aH prog (yq k):=aJ (H9 k) nA nA k func391 (by kernel_rfl) (fun x=>by kernel_rfl)
def yA:aI:=(392,⟨[.val ar .leaf,.val ar .leaf],[.val ar .leaf],qp k,[]⟩)::(yq k)
def Ke:aH prog (yA k):=aJ (Kr k) nA nA k func392 (by kernel_rfl) (fun x=>by kernel_rfl)
def yn:aI:=(387,⟨[.val ae gx,.val ae gx],[.val ae sK],nz k,[]⟩)::(yA k)
def IY:aH prog (yn k):=aJ (Ke k) nA nA k func387 (by kernel_rfl) (fun x=>by kernel_rfl)
def sj:aI:=(379,⟨[.val ax Sl,.val ae gx],[.val ax XP,.val .bool .leaf],kI k,[]⟩)::(yn k)
def CA:aH prog (sj k):=aJ (IY k) nA nA k func379 (by kernel_rfl) (fun x=>by kernel_rfl)
def Ib:aQ:=fun|10=>some ⟨[(2,.box 4 aj h6),(3,.box 5 ae DX),(4,.box 6 aj rO),(6,.box 7 aj VE),(7,.val ar .leaf),(8,.val ar .leaf)],9⟩|_=>none
def HK:aQ:=fun|12=>some ⟨[(2,.box 4 aj h6),(3,.box 5 ae DX),(4,.box 6 aj rO),(6,.box 7 aj VE),(7,.val ar .leaf),(8,.val ar .leaf)],9⟩|_=>none
def yL:aI:=(362,⟨[.val aj BD,.val ae gx],[.val aj (.pair .leaf (.pair .leaf .pv)),.val .bool .leaf],nk k,[]⟩)::(sj k)
def Jr:aH prog (yL k):=aJ (CA k) Ib HK k func362 (by kernel_rfl) (fun x=>by kernel_rfl)
def rX:aI:=(316,⟨[.val (.sl aj) .shr,.val ae gx],[.val (.sl aj) .pv,.val .bool .leaf],kQ k,[]⟩)::(yL k)
def Cu:aH prog (rX k):=aJ (Jr k) nA nA k func316 (by kernel_rfl) (fun x=>by kernel_rfl)
def zp:aQ:=fun|12=>some ⟨[(0,.box 4 aD TS),(1,.val ar .leaf),(4,.box 14 aq TY),(6,.box 15 ae (.pair (.sl (.row 16 [16] true)) (.pair .leaf zA))),(10,.ept 13 ay 0 [] ay)],17⟩|_=>none
def qP:aI:=(232,⟨[.io aD jH,.val ar .leaf],[],jW k,[]⟩)::(rX k)
def Av:aH prog (qP k):=aJ (Cu k) nA zp k func232 (by kernel_rfl) (fun x=>by kernel_rfl)
def zS:aI:=(346,⟨[.val aW aag,.val ae gx],[.val aW abO],oO k,[]⟩)::(qP k)
def Lm:aH prog (zS k):=aJ (Av k) nA nA k func346 (by kernel_rfl) (fun x=>by kernel_rfl)
def C4:aQ:=fun|3=>some ⟨[(0,.val (.sl aW) aT),(3,.box 4 ae DX),(5,.val (.sl aW) NZ),(6,.val ar .leaf)],6⟩|_=>none
def uy:aI:=(317,⟨[.val (.sl aW) .shr,.val ae gx],[.val (.sl aW) .own],lG k,[]⟩)::(zS k)
def FG:aH prog (uy k):=aJ (Lm k) C4 nA k func317 (by kernel_rfl) (fun x=>by kernel_rfl)
def u9:aI:=(233,⟨[.io aD jH,.val ar .leaf],[],oG k,[]⟩)::(uy k)
def EJ:aH prog (u9 k):=aJ (FG k) nA nA k func233 (by kernel_rfl) (fun x=>by kernel_rfl)
def BW:aQ:=fun|11=>some ⟨[(0,.box 4 aD qf)],14⟩|_=>none
def tS:aI:=(123,⟨[.io aD jH,.val ar .leaf],[.val .bool .leaf],lY k,[]⟩)::(u9 k)
def EW:aH prog (tS k):=aJ (EJ k) nA BW k func123 (by kernel_rfl) (fun x=>by kernel_rfl)
def uO:aI:=(250,⟨[.io aD jH,.val ar .leaf,.val ar .leaf],[.val .bool .leaf],gF k,[(0,(jd 14 12))]⟩)::(tS k)
def En:aH prog (uO k):=aJ (EW k) nA nA k func250 (by kernel_rfl) (fun x=>by kernel_rfl)
def wv:aI:=(249,⟨[.io aD jH,.val ar .leaf],[.val .bool .leaf],mw k,[]⟩)::(uO k)
def HQ:aH prog (wv k):=aJ (En k) nA nA k func249 (by kernel_rfl) (fun x=>by kernel_rfl)
def u6:aI:=(251,⟨[.io aD jH,.val ar .leaf],[],lW k,[(0,(jd 14 12))]⟩)::(wv k)
def FJ:aH prog (u6 k):=aJ (HQ k) nA nA k func251 (by kernel_rfl) (fun x=>by kernel_rfl)
def A8:aQ:=fun|2=>some ⟨[(0,.box 4 aD wZ),(1,.val ar .leaf),(4,.box 14 aq TY),(5,.val ar .leaf)],15⟩|_=>none
def AU:aQ:=fun|6=>some ⟨[(0,.box 4 aD wZ),(1,.val ar .leaf),(4,.box 14 aq TY)],15⟩|_=>none
def rF:aI:=(252,⟨[.io aD jH,.val ar .leaf],[],kR k,[]⟩)::(u6 k)
def Cy:aH prog (rF k):=aJ (FJ k) A8 AU k func252 (by kernel_rfl) (fun x=>by kernel_rfl)
def Cf:aQ:=fun|9=>some ⟨[(0,.box 4 aD qf),(5,.val .bool .leaf)],14⟩|_=>none
def uL:aI:=(136,⟨[.io aD jH,.val ar .leaf],[.val .bool .leaf],jx k,[]⟩)::(rF k)
def Em:aH prog (uL k):=aJ (Cy k) nA Cf k func136 (by kernel_rfl) (fun x=>by kernel_rfl)
def Ab:aI:=(145,⟨[.val ae gx,.val ar .leaf],[.val .bool .leaf],mn k,[]⟩)::(uL k)
def Lg:aH prog (Ab k):=aJ (Em k) nA nA k func145 (by kernel_rfl) (fun x=>by kernel_rfl)
def AZ:aQ:=fun|4=>some ⟨[(1,.val ar .leaf),(2,.box 4 ax JA),(4,.box 5 ax ov),(6,.box 6 ax MB),(7,.val (.sl ae) DU),(8,.val ar .leaf)],9⟩|_=>none
def Bd:aQ:=fun|10=>some ⟨[(2,.box 4 ax JA),(4,.box 5 ax ov),(6,.box 6 ax MB),(7,.val (.sl ae) DU)],9⟩|_=>none
def sA:aI:=(324,⟨[.val ax Sl,.val ar .leaf],[.val ax XP,.val (.sl ae) .own],kU k,[]⟩)::(Ab k)
def CW:aH prog (sA k):=aJ (Lg k) AZ Bd k func324 (by kernel_rfl) (fun x=>by kernel_rfl)
def C7:aQ:=fun|4=>some ⟨[(1,.val ar .leaf),(2,.box 4 aj h6),(4,.box 5 aj rO),(6,.box 6 aj Mc),(7,.val (.sl ae) DU),(8,.val ar .leaf)],9⟩|_=>none
def BT:aQ:=fun|10=>some ⟨[(2,.box 4 aj h6),(4,.box 5 aj rO),(6,.box 6 aj Mc),(7,.val (.sl ae) DU)],9⟩|_=>none
def uu:aI:=(256,⟨[.val aj BD,.val ar .leaf],[.val aj afN,.val (.sl ae) .own],lN k,[]⟩)::(sA k)
def E4:aH prog (uu k):=aJ (CW k) C7 BT k func256 (by kernel_rfl) (fun x=>by kernel_rfl)
def Ci:aQ:=fun|15=>some ⟨[(0,.box 4 aD VT),(6,.box 14 aj ZN)],16⟩|_=>none
def uY:aI:=(140,⟨[.io aD jH,.val ar .leaf],[.val .bool .leaf],jz k,[]⟩)::(uu k)
def FW:aH prog (uY k):=aJ (E4 k) nA Ci k func140 (by kernel_rfl) (fun x=>by kernel_rfl)
def uk:aI:=(223,⟨[.io aD jH,.val ar .leaf],[.val .bool .leaf],js k,[(0,(jd 14 12))]⟩)::(uY k)
def EB:aH prog (uk k):=aJ (FW k) nA nA k func223 (by kernel_rfl) (fun x=>by kernel_rfl)
def HE:aQ:=fun|2=>some ⟨[(0,.val (.sl .str) aT),(1,.val .str .leaf),(5,.val ar .leaf)],4⟩|_=>none
def ya:aI:=(377,⟨[.val (.sl .str) .shr,.val .str .leaf],[.val .bool .leaf],nx k,[]⟩)::(uk k)
def Jd:aH prog (ya k):=aJ (EB k) HE nA k func377 (by kernel_rfl) (fun x=>by kernel_rfl)
def CJ:aQ:=fun|3=>some ⟨[(0,.val (.sl ak) aT),(1,.val (.sl .str) aT),(5,.val (.sl ak) rj),(6,.val ar .leaf)],5⟩|_=>none
def tu:aI:=(358,⟨[.val (.sl ak) .shr,.val (.sl .str) .shr],[.val (.sl ak) .own],oJ k,[]⟩)::(ya k)
def Ft:aH prog (tu k):=aJ (Jd k) CJ nA k func358 (by kernel_rfl) (fun x=>by kernel_rfl)
def yR:aI:=(311,⟨[.val ae gx,.val (.sl .str) .shr],[.val (.sl ak) .own],gN k,[]⟩)::(tu k)
def JN:aH prog (yR k):=aJ (Ft k) nA nA k func311 (by kernel_rfl) (fun x=>by kernel_rfl)
def DO:aQ:=fun|2=>some ⟨[(0,.val (.sl al) aT),(1,.val (.sl ak) aT),(5,.val ar .leaf)],4⟩|_=>none
def tw:aI:=(310,⟨[.val (.sl al) .shr,.val (.sl ak) .shr],[.val ar .leaf],eS k,[]⟩)::(yR k)
def Gi:aH prog (tw k):=aJ (JN k) DO nA k func310 (by kernel_rfl) (fun x=>by kernel_rfl)
end
def FL:aQ:=fun|4=>some ⟨[(2,.box 4 al BK),(3,.box 5 ae DX),(4,.box 6 al E7),(5,.box 7 al IG),(6,.box 10 ae U8),(7,.val ar .leaf)],12⟩|10=>some ⟨[(2,.box 4 al BK),(3,.box 5 ae DX),(4,.box 6 al E7),(5,.box 7 al IG),(6,.box 10 ae U8),(8,.val ar .leaf)],12⟩|_=>none
def F7:aQ:=fun|9=>some ⟨[(2,.box 4 al BK),(3,.box 5 ae DX),(4,.box 6 al E7),(5,.box 7 al IG),(6,.box 10 ae U8)],12⟩|12=>some ⟨[(2,.box 4 al BK),(3,.box 5 ae DX),(4,.box 6 al E7),(5,.box 7 al IG),(6,.box 10 ae U8),(8,.val ar .leaf)],12⟩|_=>none
section
variable(k:Nat)
def wJ:aI:=(359,⟨[.val al P8,.val ae gx],[.val al ZW],mI k,[]⟩)::(tw k)
def H0:aH prog (wJ k):=aJ (Gi k) FL F7 k func359 (by kernel_rfl) (fun x=>by kernel_rfl)
def uP:aI:=(312,⟨[.val (.sl al) .shr,.val ae gx,.val (.sl .str) .shr,.val ar .leaf,.val ar .leaf],[.val (.sl al) .own,.val .bool .leaf],lP k,[]⟩)::(wJ k)
def F9:aH prog (uP k):=aJ (H0 k) nA nA k func312 (by kernel_rfl) (fun x=>by kernel_rfl)
def C3:aQ:=fun|2=>some ⟨[(0,.val (.sl al) aT),(1,.val ar .leaf),(5,.val ar .leaf)],4⟩|_=>none
def uI:aI:=(360,⟨[.val (.sl al) .shr,.val ar .leaf],[.val ar .leaf],gE k,[]⟩)::(uP k)
def F6:aH prog (uI k):=aJ (F9 k) C3 nA k func360 (by kernel_rfl) (fun x=>by kernel_rfl)
def tT:aI:=(297,⟨[.val al P8,.val ar .leaf,.val ar .leaf],[.val ar .leaf],oK k,[]⟩)::(uI k)
def Fe:aH prog (tT k):=aJ (F6 k) nA nA k func297 (by kernel_rfl) (fun x=>by kernel_rfl)
def DM:aI:=(190,⟨[.val db D5,.val al P8],[.val ar .leaf],p9 k,[]⟩)::(tT k)
def MX:aH prog (DM k):=aJ (Fe k) nA nA k func190 (by kernel_rfl) (fun x=>by kernel_rfl)
def vZ:aI:=(296,⟨[.val aE KZ,.val aE KZ],[.val .bool .leaf],iB k,[]⟩)::(DM k)
def GZ:aH prog (vZ k):=aJ (MX k) nA nA k func296 (by kernel_rfl) (fun x=>by kernel_rfl)
def C8:aQ:=fun|3=>some ⟨[(3,.box 4 aE zA),(5,.val (.sl aE) IF),(6,.val ar .leaf)],6⟩|_=>none
def tD:aI:=(348,⟨[.val (.sl aE) .shr,.val aE KZ],[.val (.sl aE) .own],lM k,[]⟩)::(vZ k)
def Eo:aH prog (tD k):=aJ (GZ k) C8 nA k func348 (by kernel_rfl) (fun x=>by kernel_rfl)
def wP:aI:=(313,⟨[.io aD jH,.val ar .leaf],[],kv k,[(0,(jd 14 12))]⟩)::(tD k)
def Hn:aH prog (wP k):=aJ (Eo k) nA nA k func313 (by kernel_rfl) (fun x=>by kernel_rfl)
def uC:aI:=(224,⟨[.io aD jH],[],lB k,[]⟩)::(wP k)
def Fb:aH prog (uC k):=aJ (Hn k) nA nA k func224 (by kernel_rfl) (fun x=>by kernel_rfl)
def xi:aQ:=fun|11=>some ⟨[(0,.box 4 aD qf),(3,.val .bool .leaf)],14⟩|_=>none
def pq:aI:=(118,⟨[.io aD jH],[.val .bool .leaf],iO k,[]⟩)::(uC k)
def xH:aH prog (pq k):=aJ (Fb k) nA xi k func118 (by kernel_rfl) (fun x=>by kernel_rfl)
def Bz:aQ:=fun|8=>some ⟨[(0,.val (.sl aE) aT),(3,.box 4 aE zA),(5,.val ar .leaf),(6,.val (.sl aE) IF),(7,.val ar .leaf)],6⟩|_=>none
def Bi:aQ:=fun|7=>some ⟨[(0,.val (.sl aE) aT),(3,.box 4 aE zA),(5,.val ar .leaf),(6,.val (.sl aE) IF)],6⟩|12=>some ⟨[(0,.val (.sl aE) aT),(3,.box 4 aE zA),(5,.val ar .leaf),(6,.val (.sl aE) IF),(7,.val ar .leaf),(8,.val ar .leaf)],6⟩|17=>some ⟨[(0,.val (.sl aE) aT),(3,.box 4 aE zA),(6,.val (.sl aE) IF)],6⟩|_=>none
def sG:aI:=(382,⟨[.val (.sl aE) .shr],[.val (.sl aE) .own,.val aE KZ,.val .bool .leaf],kS k,[]⟩)::(pq k)
def DN:aH prog (sG k):=aJ (xH k) Bz Bi k func382 (by kernel_rfl) (fun x=>by kernel_rfl)
def Im:aQ:=fun|5=>some ⟨[(1,.val ar .leaf),(2,.box 4 al BK),(4,.box 5 al E7),(5,.box 6 cw (.pair .leaf acw)),(6,.box 7 al IG),(7,.val ar .leaf)],10⟩|_=>none
def HG:aQ:=fun|10=>some ⟨[(1,.val ar .leaf),(2,.box 4 al BK),(4,.box 5 al E7),(5,.box 6 cw (.pair .leaf acw)),(6,.box 7 al IG)],10⟩|_=>none
def xZ:aI:=(393,⟨[.val al P8,.val ar .leaf],[.val al ZW,.val cw UO],nG k,[]⟩)::(sG k)
def Km:aH prog (xZ k):=aJ (DN k) Im HG k func393 (by kernel_rfl) (fun x=>by kernel_rfl)
def uX:aI:=(390,⟨[.val (.sl al) .shr,.val ar .leaf,.val ar .leaf],[.val (.sl al) .own,.val cw UO,.val .bool .leaf],lC k,[]⟩)::(xZ k)
def ES:aH prog (uX k):=aJ (Km k) nA nA k func390 (by kernel_rfl) (fun x=>by kernel_rfl)
def sB:aI:=(383,⟨[.io aD jH],[],kK k,[]⟩)::(uX k)
def Cv:aH prog (sB k):=aJ (ES k) nA nA k func383 (by kernel_rfl) (fun x=>by kernel_rfl)
def vH:aQ:=fun|11=>some ⟨[(0,.box 4 aD qf),(3,.val .bool .leaf)],14⟩|_=>none
def oj:aI:=(366,⟨[.io aD jH],[.val .bool .leaf],ig k,[]⟩)::(sB k)
def xk:aH prog (oj k):=aJ (Cv k) nA vH k func366 (by kernel_rfl) (fun x=>by kernel_rfl)
def Il:aQ:=fun|9=>some ⟨[(0,.box 4 aD wZ),(1,.val ar .leaf)],14⟩|_=>none
def yi:aI:=(321,⟨[.io aD jH,.val ar .leaf],[.val .bool .leaf],lq k,[]⟩)::(oj k)
def Jo:aH prog (yi k):=aJ (xk k) nA Il k func321 (by kernel_rfl) (fun x=>by kernel_rfl)
def zY:aI:=(322,⟨[.val aW aag],[.val aW abO,.val ae sK,.val ar .leaf],kC k,[]⟩)::(yi k)
def Lr:aH prog (zY k):=aJ (Jo k) nA nA k func322 (by kernel_rfl) (fun x=>by kernel_rfl)
def HT:aQ:=fun|18=>some ⟨[(0,.box 4 aD wZ),(3,.box 14 iw Qa),(5,.val .bool .leaf),(6,.val ar .leaf)],15⟩|40=>some ⟨[(0,.box 4 aD qf),(3,.box 14 iw Qa)],15⟩|_=>none
def yp:aI:=(253,⟨[.io aD jH,.val iw (.pair .leaf (.pair .leaf (.pair gx .shr)))],[.val .bool .leaf],nR k,[]⟩)::(zY k)
def Jn:aH prog (yp k):=aJ (Lr k) nA HT k func253 (by kernel_rfl) (fun x=>by kernel_rfl)
def EY:aQ:=fun|5=>some ⟨[(0,.box 4 cJ Xs),(4,.box 5 aD sZ),(6,.box 6 aD sZ),(7,.val (.sl iw) (.sl (.row 7 [2] false))),(8,.box 8 aD VN),(9,.box 19 aD BM),(10,.val ar .leaf)],29⟩|_=>none
def E5:aQ:=fun|12=>some ⟨[(0,.box 4 cJ Xs),(4,.box 5 aD sZ),(6,.box 6 aD sZ),(7,.val (.sl iw) (.sl (.row 7 [2] false))),(8,.box 8 aD VN),(9,.box 19 aD BM)],29⟩|_=>none
def wT:aI:=(150,⟨[.io cJ oU,.val ar .leaf],[.val aD GQ,.val (.sl iw) .hd,.val aD jH],mz k,[]⟩)::(yp k)
def H5:aH prog (wT k):=aJ (Jn k) EY E5 k func150 (by kernel_rfl) (fun x=>by kernel_rfl)
def rG:aI:=(75,⟨[.io cJ oU,.val ar .leaf],[.val aD jH],kM k,[]⟩)::(wT k)
def BZ:aH prog (rG k):=aJ (H5 k) nA nA k func75 (by kernel_rfl) (fun x=>by kernel_rfl)
def qt:aI:=(13,⟨[.val (.sl (.int .u8)) .rom],[.val aD jH],jX k,[]⟩)::(rG k)
def A9:aH prog (qt k):=aJ (BZ k) nA nA k func13 (by kernel_rfl) (fun x=>by kernel_rfl)
def Ry:aI:=(89,⟨[.val db D5],[.val db afq],IM k,[]⟩)::(qt k)
def Yi:aH prog (Ry k):=aJ (A9 k) nA nA k func89 (by kernel_rfl) (fun x=>by kernel_rfl)
def tW:aI:=(244,⟨[.val (.sl ak) .shr],[.val (.sl ak) .own],il k,[]⟩)::(Ry k)
def Ge:aH prog (tW k):=aJ (Yi k) nA nA k func244 (by kernel_rfl) (fun x=>by kernel_rfl)
def qz:aI:=(144,⟨[.val ae gx],[.val ae sK],ck k,[]⟩)::(tW k)
def Bp:aH prog (qz k):=aJ (Ge k) nA nA k func144 (by kernel_rfl) (fun x=>by kernel_rfl)
def xS:aQ:=fun|3=>some ⟨[(3,.val (.sl ae) DP),(6,.val (.sl ae) aT),(7,.val ar .leaf),(8,.val ar .leaf)],5⟩|_=>none
def pQ:aI:=(147,⟨[.val (.sl ae) .shr],[.val (.sl ae) .own],dD k,[]⟩)::(qz k)
def zd:aH prog (pQ k):=aJ (Bp k) xS nA k func147 (by kernel_rfl) (fun x=>by kernel_rfl)
def QK:aI:=(355,⟨[.val ax Sl],[.val ax XP],Bm k,[]⟩)::(pQ k)
def Xj:aH prog (QK k):=aJ (zd k) nA nA k func355 (by kernel_rfl) (fun x=>by kernel_rfl)
def XB:aQ:=fun|3=>some ⟨[(1,.box 4 aj h6),(2,.box 5 aj rO),(3,.box 6 aj Mc),(12,.val (.sl ax) aT),(13,.val ar .leaf),(14,.val ar .leaf)],8⟩|_=>none
def RU:aI:=(300,⟨[.val aj BD],[.val aj afN],yV k,[]⟩)::(QK k)
def Zu:aH prog (RU k):=aJ (Xj k) XB nA k func300 (by kernel_rfl) (fun x=>by kernel_rfl)
def Wn:aQ:=fun|3=>some ⟨[(3,.val (.sl aj) DP),(6,.val (.sl aj) aT),(7,.val ar .leaf),(8,.val ar .leaf)],5⟩|_=>none
def QW:aI:=(199,⟨[.val (.sl aj) .shr],[.val (.sl aj) .own],GP k,[]⟩)::(RU k)
def XV:aH prog (QW k):=aJ (Zu k) Wn nA k func199 (by kernel_rfl) (fun x=>by kernel_rfl)
def Tn:aI:=(238,⟨[.val aW aag],[.val aW abO],Af k,[]⟩)::(QW k)
def aae:aH prog (Tn k):=aJ (XV k) nA nA k func238 (by kernel_rfl) (fun x=>by kernel_rfl)
def Xm:aQ:=fun|3=>some ⟨[(3,.val (.sl aW) DP),(6,.val (.sl aW) aT),(7,.val ar .leaf),(8,.val ar .leaf)],5⟩|_=>none
def RE:aI:=(200,⟨[.val (.sl aW) .shr],[.val (.sl aW) .own],Nu k,[]⟩)::(Tn k)
def ZH:aH prog (RE k):=aJ (aae k) Xm nA k func200 (by kernel_rfl) (fun x=>by kernel_rfl)
def Qu:aI:=(301,⟨[.val al P8],[.val al ZW],sY k,[]⟩)::(RE k)
def Xg:aH prog (Qu k):=aJ (ZH k) nA nA k func301 (by kernel_rfl) (fun x=>by kernel_rfl)
def VB:aQ:=fun|3=>some ⟨[(3,.val (.sl al) DP),(6,.val (.sl al) aT),(7,.val ar .leaf),(8,.val ar .leaf)],5⟩|_=>none
def PO:aI:=(201,⟨[.val (.sl al) .shr],[.val (.sl al) .own],y5 k,[]⟩)::(Qu k)
def Wt:aH prog (PO k):=aJ (Xg k) VB nA k func201 (by kernel_rfl) (fun x=>by kernel_rfl)
def PH:aI:=(202,⟨[.val (.sl aE) .shr],[.val (.sl aE) .own],vW k,[]⟩)::(PO k)
def Wm:aH prog (PH k):=aJ (Wt k) nA nA k func202 (by kernel_rfl) (fun x=>by kernel_rfl)
def Ri:aI:=(203,⟨[.val cw WT],[.val cw UO],GH k,[]⟩)::(PH k)
def XZ:aH prog (Ri k):=aJ (Wm k) nA nA k func203 (by kernel_rfl) (fun x=>by kernel_rfl)
def Rs:aI:=(204,⟨[.val aq pD],[.val aq aj2],IS k,[]⟩)::(Ri k)
def Zs:aH prog (Rs k):=aJ (XZ k) nA nA k func204 (by kernel_rfl) (fun x=>by kernel_rfl)
def RP:aI:=(205,⟨[.val ay xp],[.val ay akt],IV k,[]⟩)::(Rs k)
def Y7:aH prog (RP k):=aJ (Zs k) nA nA k func205 (by kernel_rfl) (fun x=>by kernel_rfl)
def Ws:aQ:=fun|6=>some ⟨[(1,.box 4 aD KX),(2,.box 12 aD sZ),(3,.val (.sl cw) Bh),(41,.val (.sl cw) aT),(42,.val ar .leaf),(43,.val ar .leaf)],14⟩|12=>some ⟨[(1,.box 4 aD KX),(2,.box 12 aD sZ),(3,.val (.sl cw) Bh),(6,.val (.sl aq) Ns),(54,.val (.sl aq) aT),(55,.val ar .leaf),(56,.val ar .leaf)],15⟩|18=>some ⟨[(1,.box 4 aD KX),(2,.box 12 aD sZ),(3,.val (.sl cw) Bh),(6,.val (.sl aq) Ns),(9,.val (.sl ay) Re),(67,.val (.sl ay) aT),(68,.val ar .leaf),(69,.val ar .leaf)],16⟩|_=>none
def Wr:aQ:=fun|10=>some ⟨[(1,.box 4 aD KX),(2,.box 12 aD sZ),(3,.val (.sl cw) Bh)],14⟩|16=>some ⟨[(1,.box 4 aD KX),(2,.box 12 aD sZ),(3,.val (.sl cw) Bh),(6,.val (.sl aq) Ns)],15⟩|22=>some ⟨[(1,.box 4 aD KX),(2,.box 12 aD sZ),(3,.val (.sl cw) Bh),(6,.val (.sl aq) Ns),(9,.val (.sl ay) Re)],16⟩|_=>none
def Qs:aI:=(111,⟨[.val aD ox],[.val aD GQ],tj k,[]⟩)::(RP k)
def XE:aH prog (Qs k):=aJ (Y7 k) Ws Wr k func111 (by kernel_rfl) (fun x=>by kernel_rfl)
def Gk:aI:=(77,⟨[.val ar .leaf,.val ar .leaf,.val ar .leaf],[.val .bool .leaf],bB k,[]⟩)::(Qs k)
def Pd:aH prog (Gk k):=aJ (XE k) nA nA k func77 (by kernel_rfl) (fun x=>by kernel_rfl)
def FN:aQ:=fun|4=>some ⟨[(0,.val .str .leaf),(3,.val ar .leaf)],4⟩|_=>none
def wW:aI:=(195,⟨[.val .str .leaf],[.val .bool .leaf],ku k,[]⟩)::(Gk k)
def HA:aH prog (wW k):=aJ (Pd k) FN nA k func195 (by kernel_rfl) (fun x=>by kernel_rfl)
def B0:aQ:=fun|2=>some ⟨[(0,.val (.sl .str) aT),(3,.val ar .leaf)],4⟩|_=>none
def ur:aI:=(196,⟨[.val (.sl .str) .shr],[.val .bool .leaf],lL k,[]⟩)::(wW k)
def FM:aH prog (ur k):=aJ (HA k) B0 nA k func196 (by kernel_rfl) (fun x=>by kernel_rfl)
def J0:aQ:=fun|2=>some ⟨[(0,.val (.sl .str) aT),(5,.val (.sl .str) aT),(6,.val ar .leaf),(7,.val ar .leaf)],4⟩|_=>none
def Ko:aQ:=fun|7=>some ⟨[(0,.val (.sl .str) aT)],4⟩|_=>none
def Ac:aI:=(108,⟨[.val (.sl .str) .shr],[.val .bool .leaf],oL k,[]⟩)::(ur k)
def Lc:aH prog (Ac k):=aJ (FM k) J0 Ko k func108 (by kernel_rfl) (fun x=>by kernel_rfl)
def wL:aI:=(28,⟨[.val db D5],[.val .bool .leaf],mE k,[]⟩)::(Ac k)
def GU:aH prog (wL k):=aJ (Lc k) nA nA k func28 (by kernel_rfl) (fun x=>by kernel_rfl)
def Cn:aQ:=fun|4=>some ⟨[(0,.val .str .leaf),(3,.val ar .leaf)],4⟩|_=>none
def tF:aI:=(219,⟨[.val .str .leaf],[.val .bool .leaf],jq k,[]⟩)::(wL k)
def EX:aH prog (tF k):=aJ (GU k) Cn nA k func219 (by kernel_rfl) (fun x=>by kernel_rfl)
def ua:aI:=(306,⟨[.val ak KZ],[.val .bool .leaf],lE k,[]⟩)::(tF k)
def EE:aH prog (ua k):=aJ (EX k) nA nA k func306 (by kernel_rfl) (fun x=>by kernel_rfl)
def Hq:aQ:=fun|2=>some ⟨[(0,.val (.sl ak) aT),(5,.val (.sl ak) aT),(6,.val ar .leaf),(7,.val ar .leaf)],4⟩|_=>none
def yv:aI:=(218,⟨[.val (.sl ak) .shr],[.val .bool .leaf],gX k,[]⟩)::(ua k)
def Je:aH prog (yv k):=aJ (EE k) Hq nA k func218 (by kernel_rfl) (fun x=>by kernel_rfl)
def tL:aI:=(116,⟨[.val ae gx],[.val .bool .leaf],dU k,[]⟩)::(yv k)
def Eh:aH prog (tL k):=aJ (Je k) nA nA k func116 (by kernel_rfl) (fun x=>by kernel_rfl)
def CT:aQ:=fun|5=>some ⟨[(3,.val (.sl .str) rj),(9,.val (.sl ak) aT),(10,.val ar .leaf),(11,.val ar .leaf)],5⟩|_=>none
def Dl:aQ:=fun|9=>some ⟨[(3,.val (.sl .str) rj)],5⟩|_=>none
def uM:aI:=(237,⟨[.val (.sl ak) .shr],[.val .str .leaf],lV k,[]⟩)::(tL k)
def Fz:aH prog (uM k):=aJ (Eh k) CT Dl k func237 (by kernel_rfl) (fun x=>by kernel_rfl)
def K2:aQ:=fun|3=>some ⟨[(0,.val .str .leaf),(3,.val (.int .u32) .leaf),(4,.val ar .leaf)],4⟩|_=>none
def LH:aQ:=fun|6=>some ⟨[(3,.val (.int .u32) .leaf)],4⟩|_=>none
def CP:aI:=(236,⟨[.val .str .leaf],[.val ar .leaf],nJ k,[]⟩)::(uM k)
def NM:aH prog (CP k):=aJ (Fz k) K2 LH k func236 (by kernel_rfl) (fun x=>by kernel_rfl)
def wq:aI:=(126,⟨[.val (.sl ak) .shr],[.val ar .leaf],eu k,[]⟩)::(CP k)
def HZ:aH prog (wq k):=aJ (NM k) nA nA k func126 (by kernel_rfl) (fun x=>by kernel_rfl)
def DE:aQ:=fun|4=>some ⟨[(0,.val (.sl ak) aT),(1,.val (.sl ak) aT),(12,.val ar .leaf),(13,.val ar .leaf)],4⟩|_=>none
def uW:aI:=(72,⟨[.val (.sl ak) .shr,.val (.sl ak) .shr],[.val .bool .leaf],cH k,[]⟩)::(wq k)
def Ff:aH prog (uW k):=aJ (HZ k) DE nA k func72 (by kernel_rfl) (fun x=>by kernel_rfl)
end
def An:aQ:=fun|2=>some ⟨[(1,.val (.sl ak) aT),(7,.val (.sl ae) aT),(8,.val ar .leaf),(9,.val ar .leaf)],4⟩|_=>none
section
variable(k:Nat)
def sD:aI:=(120,⟨[.val (.sl ae) .shr,.val (.sl ak) .shr],[.val ar .leaf],ei k,[]⟩)::(uW k)
def CY:aH prog (sD k):=aJ (Ff k) An nA k func120 (by kernel_rfl) (fun x=>by kernel_rfl)
def xg:aQ:=fun|2=>some ⟨[(0,.val (.sl ae) aT),(5,.val (.sl ae) aT),(6,.val ar .leaf),(7,.val ar .leaf)],4⟩|_=>none
def pf:aI:=(368,⟨[.val (.sl ae) .shr],[.val .bool .leaf],iJ k,[]⟩)::(sD k)
def yI:aH prog (pf k):=aJ (CY k) xg nA k func368 (by kernel_rfl) (fun x=>by kernel_rfl)
def DB:aQ:=fun|2=>some ⟨[(1,.box 4 ax JA),(6,.val (.sl ae) aT),(7,.val ar .leaf),(8,.val ar .leaf)],5⟩|_=>none
def CZ:aQ:=fun|7=>some ⟨[(1,.box 4 ax JA)],5⟩|_=>none
def ux:aI:=(338,⟨[.val ax Sl],[.val .bool .leaf],lI k,[]⟩)::(pf k)
def EH:aH prog (ux k):=aJ (yI k) DB CZ k func338 (by kernel_rfl) (fun x=>by kernel_rfl)
def wz:aI:=(125,⟨[.val ar .leaf,.val ar .leaf],[.val ar .leaf],fZ k,[]⟩)::(ux k)
def GX:aH prog (wz k):=aJ (EH k) nA nA k func125 (by kernel_rfl) (fun x=>by kernel_rfl)
def F3:aQ:=fun|2=>some ⟨[(1,.val ar .leaf),(2,.val ar .leaf),(3,.box 4 aj h6),(10,.val (.sl ax) aT),(11,.val ar .leaf),(12,.val ar .leaf)],5⟩|_=>none
def E9:aQ:=fun|7=>some ⟨[(3,.box 4 aj h6)],5⟩|_=>none
def wU:aI:=(263,⟨[.val aj BD,.val ar .leaf,.val ar .leaf],[.val .bool .leaf],mL k,[]⟩)::(wz k)
def Hw:aH prog (wU k):=aJ (GX k) F3 E9 k func263 (by kernel_rfl) (fun x=>by kernel_rfl)
def Cq:aQ:=fun|4=>some ⟨[(0,.val (.sl aj) aT),(9,.val (.sl aj) aT),(10,.val ar .leaf),(11,.val ar .leaf)],4⟩|_=>none
def uQ:aI:=(151,⟨[.val (.sl aj) .shr],[.val .bool .leaf],lD k,[]⟩)::(wU k)
def Et:aH prog (uQ k):=aJ (Hw k) Cq nA k func151 (by kernel_rfl) (fun x=>by kernel_rfl)
def DI:aQ:=fun|3=>some ⟨[(3,.val ar .leaf),(8,.val (.sl aj) aT),(9,.val ar .leaf),(10,.val ar .leaf)],4⟩|6=>some ⟨[(3,.val ar .leaf),(5,.box 4 aj Sx),(8,.val (.sl aj) aT),(9,.val ar .leaf),(10,.val ar .leaf),(15,.val (.sl ax) (.sl (.sha [1,2]))),(16,.val ar .leaf),(17,.val ar .leaf)],5⟩|_=>none
def tY:aI:=(48,⟨[.val (.sl aj) .shr],[.val ar .leaf],j9 k,[]⟩)::(uQ k)
def Er:aH prog (tY k):=aJ (Et k) DI nA k func48 (by kernel_rfl) (fun x=>by kernel_rfl)
def Ap:aQ:=fun|3=>some ⟨[(1,.box 4 aj h6),(3,.val (.sl ae) NZ),(7,.val (.sl ax) aT),(8,.val ar .leaf),(9,.val ar .leaf)],6⟩|_=>none
def sH:aI:=(70,⟨[.val aj BD],[.val (.sl ae) .own],ic k,[]⟩)::(tY k)
def CO:aH prog (sH k):=aJ (Er k) Ap nA k func70 (by kernel_rfl) (fun x=>by kernel_rfl)
def zo:aQ:=fun|3=>some ⟨[(3,.val (.sl ae) DP),(6,.val (.sl aj) aT),(7,.val ar .leaf),(8,.val ar .leaf)],5⟩|_=>none
def zy:aQ:=fun|7=>some ⟨[(3,.val (.sl ae) DP)],5⟩|_=>none
def qC:aI:=(51,⟨[.val (.sl aj) .shr],[.val (.sl ae) .own],jT k,[]⟩)::(sH k)
def Bf:aH prog (qC k):=aJ (CO k) zo zy k func51 (by kernel_rfl) (fun x=>by kernel_rfl)
def Aa:aI:=(36,⟨[.val db D5,.val ae gx],[.val .bool .leaf],mj k,[]⟩)::(qC k)
def Ll:aH prog (Aa k):=aJ (Bf k) nA nA k func36 (by kernel_rfl) (fun x=>by kernel_rfl)
def yt:aQ:=fun|4=>some ⟨[(1,.box 4 aD fL),(29,.val (.sl ae) NZ),(30,.val ar .leaf),(31,.val ar .leaf)],6⟩|_=>none
def pL:aI:=(78,⟨[.val aD ox],[.val .bool .leaf],jm k,[]⟩)::(Aa k)
def y9:aH prog (pL k):=aJ (Ll k) yt nA k func78 (by kernel_rfl) (fun x=>by kernel_rfl)
def Ax:aQ:=fun|2=>some ⟨[(5,.val (.sl ae) aT),(6,.val ar .leaf),(7,.val ar .leaf)],4⟩|_=>none
def ry:aI:=(80,⟨[.val (.sl ae) .shr],[.val .bool .leaf],fb k,[]⟩)::(pL k)
def Dz:aH prog (ry k):=aJ (y9 k) Ax nA k func80 (by kernel_rfl) (fun x=>by kernel_rfl)
def yE:aI:=(152,⟨[.val aW aag],[.val .bool .leaf],nL k,[]⟩)::(ry k)
def I9:aH prog (yE k):=aJ (Dz k) nA nA k func152 (by kernel_rfl) (fun x=>by kernel_rfl)
def zw:aQ:=fun|2=>some ⟨[(0,.val (.sl aW) aT),(3,.box 4 db AI),(7,.val (.sl aW) aT),(8,.val ar .leaf),(9,.val ar .leaf)],5⟩|_=>none
def zu:aQ:=fun|7=>some ⟨[(0,.val (.sl aW) aT),(3,.box 4 db AI)],5⟩|_=>none
def qM:aI:=(79,⟨[.val (.sl aW) .shr,.val db D5],[.val .bool .leaf],j7 k,[]⟩)::(yE k)
def A4:aH prog (qM k):=aJ (I9 k) zw zu k func79 (by kernel_rfl) (fun x=>by kernel_rfl)
def so:aI:=(264,⟨[.val ar .leaf,.val ar .leaf],[.val .bool .leaf],kH k,[]⟩)::(qM k)
def Db:aH prog (so k):=aJ (A4 k) nA nA k func264 (by kernel_rfl) (fun x=>by kernel_rfl)
def vX:aI:=(153,⟨[.val ay xp],[.val .bool .leaf],mD k,[]⟩)::(so k)
def Ig:aH prog (vX k):=aJ (Db k) nA nA k func153 (by kernel_rfl) (fun x=>by kernel_rfl)
def qB:aI:=(34,⟨[.val ae gx,.val ae gx],[.val .bool .leaf],cN k,[]⟩)::(vX k)
def BA:aH prog (qB k):=aJ (Ig k) nA nA k func34 (by kernel_rfl) (fun x=>by kernel_rfl)
def AD:aQ:=fun|4=>some ⟨[(0,.val (.sl ar) aT),(1,.val (.sl ar) aT),(12,.val ar .leaf),(13,.val ar .leaf)],4⟩|_=>none
def rV:aI:=(339,⟨[.val (.sl ar) .shr,.val (.sl ar) .shr],[.val .bool .leaf],iQ k,[]⟩)::(qB k)
def DK:aH prog (rV k):=aJ (BA k) AD nA k func339 (by kernel_rfl) (fun x=>by kernel_rfl)
def yH:aQ:=fun|4=>some ⟨[(0,.val (.sl ae) aT),(1,.val (.sl ae) aT),(12,.val ar .leaf),(13,.val ar .leaf)],4⟩|_=>none
def pM:aI:=(225,⟨[.val (.sl ae) .shr,.val (.sl ae) .shr],[.val .bool .leaf],gn k,[]⟩)::(rV k)
def zg:aH prog (pM k):=aJ (DK k) yH nA k func225 (by kernel_rfl) (fun x=>by kernel_rfl)
def sL:aI:=(265,⟨[.val aq pD,.val aq pD],[.val .bool .leaf],iN k,[]⟩)::(pM k)
def CH:aH prog (sL k):=aJ (zg k) nA nA k func265 (by kernel_rfl) (fun x=>by kernel_rfl)
def Fp:aQ:=fun|2=>some ⟨[(1,.box 4 aq y0),(6,.val (.sl ar) aT),(7,.val ar .leaf),(8,.val ar .leaf)],5⟩|_=>none
def FT:aQ:=fun|7=>some ⟨[(1,.box 4 aq y0)],5⟩|_=>none
def wa:aI:=(266,⟨[.val aq pD],[.val .bool .leaf],mJ k,[]⟩)::(sL k)
def Ik:aH prog (wa k):=aJ (CH k) Fp FT k func266 (by kernel_rfl) (fun x=>by kernel_rfl)
def EM:aQ:=fun|25=>some ⟨[(2,.box 4 aq y0),(5,.box 5 aq y0),(6,.val .bool .leaf),(7,.val ar .leaf)],6⟩|_=>none
def wN:aI:=(154,⟨[.val aq pD,.val ar .leaf],[.val .bool .leaf],mM k,[]⟩)::(wa k)
def Ho:aH prog (wN k):=aJ (Ik k) nA EM k func154 (by kernel_rfl) (fun x=>by kernel_rfl)
def wV:aI:=(47,⟨[.val (.sl aj) .shr,.val (.sl ak) .shr],[.val ar .leaf],mb k,[]⟩)::(wN k)
def HX:aH prog (wV k):=aJ (Ho k) nA nA k func47 (by kernel_rfl) (fun x=>by kernel_rfl)
def Cl:aQ:=fun|2=>some ⟨[(1,.val ar .leaf),(2,.box 4 aj h6),(8,.val (.sl ax) aT),(9,.val ar .leaf),(10,.val ar .leaf)],5⟩|_=>none
def tE:aI:=(234,⟨[.val aj BD,.val ar .leaf],[.val ar .leaf],jy k,[]⟩)::(wV k)
def Fa:aH prog (tE k):=aJ (HX k) Cl nA k func234 (by kernel_rfl) (fun x=>by kernel_rfl)
def tz:aI:=(235,⟨[.val ax Sl,.val (.sl ak) .shr],[.val ar .leaf],jC k,[]⟩)::(tE k)
def Ek:aH prog (tz k):=aJ (Fa k) nA nA k func235 (by kernel_rfl) (fun x=>by kernel_rfl)
def wB:aI:=(124,⟨[.val aj BD,.val (.sl ak) .shr],[.val ae sK,.val .bool .leaf],mA k,[]⟩)::(tz k)
def Hv:aH prog (wB k):=aJ (Ek k) nA nA k func124 (by kernel_rfl) (fun x=>by kernel_rfl)
def qQ:aI:=(46,⟨[.val (.sl aj) .shr,.val (.sl ak) .shr],[.val ae sK,.val .bool .leaf],gO k,[]⟩)::(wB k)
def Aq:aH prog (qQ k):=aJ (Hv k) nA nA k func46 (by kernel_rfl) (fun x=>by kernel_rfl)
def zx:aQ:=fun|6=>some ⟨[(2,.box 4 aD fL),(3,.box 5 aq y0),(5,.val .bool .leaf),(6,.val (.sl ae) Np),(35,.val (.sl ar) aT),(36,.val ar .leaf),(37,.val ar .leaf)],7⟩|_=>none
def y8:aQ:=fun|13=>some ⟨[(2,.box 4 aD fL),(3,.box 5 aq y0),(5,.val .bool .leaf),(6,.val (.sl ae) Np)],7⟩|_=>none
def qx:aI:=(267,⟨[.val aD ox,.val aq pD],[.val .bool .leaf],jV k,[]⟩)::(qQ k)
def AJ:aH prog (qx k):=aJ (Aq k) zx y8 k func267 (by kernel_rfl) (fun x=>by kernel_rfl)
def rP:aI:=(155,⟨[.val aD ox,.val aq pD,.val ay xp],[.val .bool .leaf],kN k,[]⟩)::(qx k)
def B8:aH prog (rP k):=aJ (AJ k) nA nA k func155 (by kernel_rfl) (fun x=>by kernel_rfl)
def yh:aQ:=fun|2=>some ⟨[(1,.box 4 aD fL),(9,.val (.sl ay) aT),(10,.val ar .leaf),(11,.val ar .leaf)],5⟩|8=>some ⟨[(1,.box 4 aD fL),(41,.val (.sl aq) aT),(42,.val ar .leaf),(43,.val ar .leaf)],5⟩|_=>none
def yF:aQ:=fun|7=>some ⟨[(1,.box 4 aD fL)],5⟩|_=>none
def pU:aI:=(81,⟨[.val aD ox],[.val .bool .leaf],jj k,[]⟩)::(rP k)
def zc:aH prog (pU k):=aJ (B8 k) yh yF k func81 (by kernel_rfl) (fun x=>by kernel_rfl)
def wy:aI:=(161,⟨[.val aq pD,.val ar .leaf,.val .bool .leaf],[.val ar .leaf],ni k,[]⟩)::(pU k)
def Ii:aH prog (wy k):=aJ (zc k) nA nA k func161 (by kernel_rfl) (fun x=>by kernel_rfl)
def qD:aI:=(156,⟨[.val aq pD,.val ar .leaf],[.val ar .leaf],ji k,[]⟩)::(wy k)
def AF:aH prog (qD k):=aJ (Ii k) nA nA k func156 (by kernel_rfl) (fun x=>by kernel_rfl)
def pk:aI:=(157,⟨[.val aq pD],[.val .bool .leaf],gR k,[]⟩)::(qD k)
def xW:aH prog (pk k):=aJ (AF k) nA nA k func157 (by kernel_rfl) (fun x=>by kernel_rfl)
def yx:aQ:=fun|2=>some ⟨[(1,.box 4 aD fL),(10,.val (.sl aj) aT),(11,.val ar .leaf),(12,.val ar .leaf)],5⟩|5=>some ⟨[(1,.box 4 aD fL),(3,.val ar .leaf),(4,.box 5 aj Sx),(10,.val (.sl aj) aT),(11,.val ar .leaf),(12,.val ar .leaf),(18,.val (.sl aq) aT),(19,.val ar .leaf),(20,.val ar .leaf)],6⟩|12=>some ⟨[(1,.box 4 aD fL),(40,.val (.sl aq) aT),(41,.val ar .leaf),(42,.val ar .leaf)],5⟩|_=>none
def yg:aQ:=fun|11=>some ⟨[(1,.box 4 aD fL)],5⟩|17=>some ⟨[(1,.box 4 aD fL)],5⟩|_=>none
def pS:aI:=(82,⟨[.val aD ox],[.val .bool .leaf],jl k,[]⟩)::(pk k)
def zz:aH prog (pS k):=aJ (xW k) yx yg k func82 (by kernel_rfl) (fun x=>by kernel_rfl)
def Ds:aQ:=fun|2=>some ⟨[(1,.val .str .leaf),(7,.val (.sl .str) aT),(8,.val ar .leaf),(9,.val ar .leaf)],4⟩|_=>none
def uq:aI:=(375,⟨[.val (.sl .str) .shr,.val .str .leaf],[.val .bool .leaf],lX k,[]⟩)::(pS k)
def Ez:aH prog (uq k):=aJ (zz k) Ds nA k func375 (by kernel_rfl) (fun x=>by kernel_rfl)
def Di:aQ:=fun|3=>some ⟨[(1,.val (.sl .str) aT),(5,.val (.sl ak) rj),(8,.val (.sl ak) aT),(9,.val ar .leaf),(10,.val ar .leaf)],5⟩|_=>none
def u4:aI:=(356,⟨[.val (.sl ak) .shr,.val (.sl .str) .shr],[.val (.sl ak) .own],oC k,[]⟩)::(uq k)
def FE:aH prog (u4 k):=aJ (Ez k) Di nA k func356 (by kernel_rfl) (fun x=>by kernel_rfl)
def yN:aI:=(307,⟨[.val ae gx,.val (.sl .str) .shr],[.val (.sl ak) .own],mc k,[]⟩)::(u4 k)
def JT:aH prog (yN k):=aJ (FE k) nA nA k func307 (by kernel_rfl) (fun x=>by kernel_rfl)
def Da:aQ:=fun|2=>some ⟨[(0,.val (.sl ak) aT),(1,.val (.sl ak) aT),(5,.val ar .leaf)],4⟩|_=>none
def Dk:aQ:=fun|8=>some ⟨[(0,.val (.sl ak) aT),(1,.val (.sl ak) aT)],4⟩|_=>none
def tP:aI:=(240,⟨[.val (.sl ak) .shr,.val (.sl ak) .shr],[.val .bool .leaf],iW k,[]⟩)::(yN k)
def EZ:aH prog (tP k):=aJ (JT k) Da Dk k func240 (by kernel_rfl) (fun x=>by kernel_rfl)
def Cw:aQ:=fun|2=>some ⟨[(0,.val (.sl ae) aT),(1,.val (.sl ak) aT),(2,.val (.sl .str) aT),(9,.val (.sl ae) aT),(10,.val ar .leaf),(11,.val ar .leaf)],4⟩|_=>none
def tZ:aI:=(340,⟨[.val (.sl ae) .shr,.val (.sl ak) .shr,.val (.sl .str) .shr],[.val .bool .leaf],lJ k,[]⟩)::(tP k)
def EU:aH prog (tZ k):=aJ (EZ k) Cw nA k func340 (by kernel_rfl) (fun x=>by kernel_rfl)
def uc:aI:=(268,⟨[.val al P8,.val (.sl .str) .shr],[.val .bool .leaf],lT k,[]⟩)::(tZ k)
def EF:aH prog (uc k):=aJ (EU k) nA nA k func268 (by kernel_rfl) (fun x=>by kernel_rfl)
def CS:aQ:=fun|2=>some ⟨[(1,.val (.sl ak) aT),(7,.val (.sl al) aT),(8,.val ar .leaf),(9,.val ar .leaf)],4⟩|_=>none
def uT:aI:=(269,⟨[.val (.sl al) .shr,.val (.sl ak) .shr],[.val ar .leaf],gi k,[]⟩)::(uc k)
def EC:aH prog (uT k):=aJ (EF k) CS nA k func269 (by kernel_rfl) (fun x=>by kernel_rfl)
def AG:aQ:=fun|2=>some ⟨[(0,.val (.sl al) aT),(1,.val (.sl .str) aT),(7,.val (.sl al) aT),(8,.val ar .leaf),(9,.val ar .leaf)],4⟩|_=>none
def rL:aI:=(158,⟨[.val (.sl al) .shr,.val (.sl .str) .shr],[.val .bool .leaf],kJ k,[]⟩)::(uT k)
def CK:aH prog (rL k):=aJ (EC k) AG nA k func158 (by kernel_rfl) (fun x=>by kernel_rfl)
def wC:aI:=(270,⟨[.val aE KZ,.val aE KZ],[.val .bool .leaf],ko k,[]⟩)::(rL k)
def Hr:aH prog (wC k):=aJ (CK k) nA nA k func270 (by kernel_rfl) (fun x=>by kernel_rfl)
def FR:aQ:=fun|2=>some ⟨[(0,.val (.sl aE) aT),(5,.val (.sl aE) aT),(6,.val ar .leaf),(7,.val ar .leaf)],4⟩|_=>none
def Fj:aQ:=fun|7=>some ⟨[(0,.val (.sl aE) aT)],4⟩|_=>none
def wR:aI:=(159,⟨[.val (.sl aE) .shr],[.val .bool .leaf],mu k,[]⟩)::(wC k)
def Hd:aH prog (wR k):=aJ (Hr k) FR Fj k func159 (by kernel_rfl) (fun x=>by kernel_rfl)
def tp:aI:=(271,⟨[.val al P8,.val ar .leaf,.val ar .leaf],[.val ar .leaf],oB k,[]⟩)::(wR k)
def FI:aH prog (tp k):=aJ (Hd k) nA nA k func271 (by kernel_rfl) (fun x=>by kernel_rfl)
def CC:aI:=(160,⟨[.val db D5,.val al P8],[.val ar .leaf],oo k,[]⟩)::(tp k)
def Nc:aH prog (CC k):=aJ (FI k) nA nA k func160 (by kernel_rfl) (fun x=>by kernel_rfl)
def xd:aQ:=fun|4=>some ⟨[(1,.box 4 aD fL),(26,.val (.sl al) aT),(27,.val ar .leaf),(28,.val ar .leaf)],5⟩|10=>some ⟨[(1,.box 4 aD fL),(4,.box 5 al pF),(5,.val .bool .leaf),(26,.val (.sl al) aT),(27,.val ar .leaf),(28,.val ar .leaf),(68,.val (.sl aE) aT),(69,.val ar .leaf),(70,.val ar .leaf)],6⟩|18=>some ⟨[(1,.box 4 aD fL),(96,.val (.sl aE) aT),(97,.val ar .leaf),(98,.val ar .leaf)],5⟩|23=>some ⟨[(1,.box 4 aD fL),(9,.box 5 aE zA),(96,.val (.sl aE) aT),(97,.val ar .leaf),(98,.val ar .leaf),(111,.val (.sl aE) aT),(112,.val ar .leaf),(113,.val ar .leaf)],6⟩|_=>none
def xe:aQ:=fun|14=>some ⟨[(1,.box 4 aD fL),(4,.box 5 al pF),(5,.val .bool .leaf),(26,.val (.sl al) aT),(27,.val ar .leaf),(28,.val ar .leaf)],6⟩|17=>some ⟨[(1,.box 4 aD fL)],5⟩|_=>none
def oW:aI:=(83,⟨[.val aD ox],[.val .bool .leaf],iL k,[]⟩)::(CC k)
def xL:aH prog (oW k):=aJ (Nc k) xd xe k func83 (by kernel_rfl) (fun x=>by kernel_rfl)
def ud:aI:=(15,⟨[.val aD ox],[.val .bool .leaf],iV k,[]⟩)::(oW k)
def Fk:aH prog (ud k):=aJ (xL k) nA nA k func15 (by kernel_rfl) (fun x=>by kernel_rfl)
def Pm:aI:=(207,⟨[.io aD jH,.val ay xp],[.val ar .leaf],yc k,[(0,(jd 14 12))]⟩)::(ud k)
def VZ:aH prog (Pm k):=aJ (Fk k) nA nA k func207 (by kernel_rfl) (fun x=>by kernel_rfl)
def PN:aI:=(220,⟨[.io aD jH],[.val .bool .leaf],D9 k,[]⟩)::(Pm k)
def Wp:aH prog (PN k):=aJ (VZ k) nA nA k func220 (by kernel_rfl) (fun x=>by kernel_rfl)
def KR:aI:=(221,⟨[.io aD jH,.val ar .leaf],[.val .bool .leaf],rf k,[(0,(jd 14 12))]⟩)::(PN k)
def Rq:aH prog (KR k):=aJ (Wp k) nA nA k func221 (by kernel_rfl) (fun x=>by kernel_rfl)
def Lq:aI:=(229,⟨[.io aD jH,.val ar .leaf,.val ar .leaf],[],sU k,[(0,(jd 14 12))]⟩)::(KR k)
def Sb:aH prog (Lq k):=aJ (Rq k) nA nA k func229 (by kernel_rfl) (fun x=>by kernel_rfl)
def Wk:aQ:=fun|3=>some ⟨[(0,.box 4 aD qf),(1,.val ar .leaf),(6,.val ar .leaf)],14⟩|7=>some ⟨[(0,.box 4 aD qf),(1,.val ar .leaf)],14⟩|_=>none
def Qe:aI:=(227,⟨[.io aD jH,.val ar .leaf,.val ar .leaf],[],gP k,[]⟩)::(Lq k)
def XC:aH prog (Qe k):=aJ (Sb k) nA Wk k func227 (by kernel_rfl) (fun x=>by kernel_rfl)
def XW:aQ:=fun|2=>some ⟨[(0,.val (.sl ae) aT),(3,.box 4 ae DX),(5,.val ar .leaf)],5⟩|_=>none
def Xo:aQ:=fun|4=>some ⟨[(0,.val (.sl ae) aT),(3,.box 4 ae DX),(5,.val ar .leaf)],5⟩|_=>none
def R3:aI:=(376,⟨[.val (.sl ae) .shr,.val ae gx],[.val (.sl ae) .own],IN k,[]⟩)::(Qe k)
def Zz:aH prog (R3 k):=aJ (XC k) XW Xo k func376 (by kernel_rfl) (fun x=>by kernel_rfl)
def UZ:aI:=(357,⟨[.val al P8,.val ae gx],[.val al ZW],LM k,[]⟩)::(R3 k)
def abk:aH prog (UZ k):=aJ (Zz k) nA nA k func357 (by kernel_rfl) (fun x=>by kernel_rfl)
def S6:aI:=(308,⟨[.val (.sl al) .shr,.val ae gx,.val (.sl .str) .shr,.val ar .leaf,.val ar .leaf],[.val (.sl al) .own,.val .bool .leaf],Kz k,[]⟩)::(UZ k)
def Z8:aH prog (S6 k):=aJ (abk k) nA nA k func308 (by kernel_rfl) (fun x=>by kernel_rfl)
def Za:aQ:=fun|3=>some ⟨[(3,.box 4 aE zA),(5,.val (.sl aE) IF),(6,.val ar .leaf)],6⟩|_=>none
def Tm:aI:=(309,⟨[.val (.sl aE) .shr,.val aE KZ],[.val (.sl aE) .own],E6 k,[]⟩)::(S6 k)
def aam:aH prog (Tm k):=aJ (Z8 k) Za nA k func309 (by kernel_rfl) (fun x=>by kernel_rfl)
def NS:aI:=(222,⟨[.io aD jH],[],BG k,[]⟩)::(Tm k)
def U2:aH prog (NS k):=aJ (aam k) nA nA k func222 (by kernel_rfl) (fun x=>by kernel_rfl)
def Sr:aQ:=fun|9=>some ⟨[(0,.box 4 aD qf),(3,.box 14 aq Vv)],15⟩|_=>none
def L8:aI:=(117,⟨[.io aD jH],[.val .bool .leaf],yT k,[]⟩)::(NS k)
def Tf:aH prog (L8 k):=aJ (U2 k) nA Sr k func117 (by kernel_rfl) (fun x=>by kernel_rfl)
def WJ:aI:=(369,⟨[.val aD ox],[.val .bool .leaf],Oh k,[]⟩)::(L8 k)
def aeG:aH prog (WJ k):=aJ (Tf k) nA nA k func369 (by kernel_rfl) (fun x=>by kernel_rfl)
def W4:aQ:=fun|10=>some ⟨[(3,.box 4 aE zA),(5,.box 5 aE zA),(6,.val ar .leaf),(7,.val (.sl aE) Np),(8,.val ar .leaf)],7⟩|_=>none
def Xx:aQ:=fun|13=>some ⟨[(3,.box 4 aE zA),(5,.box 5 aE zA),(6,.val ar .leaf),(7,.val (.sl aE) Np),(8,.val ar .leaf),(9,.val ar .leaf)],7⟩|_=>none
def Ru:aI:=(370,⟨[.val (.sl aE) .shr],[.val (.sl aE) .own,.val aE KZ,.val .bool .leaf],IK k,[]⟩)::(WJ k)
def Zj:aH prog (Ru k):=aJ (aeG k) W4 Xx k func370 (by kernel_rfl) (fun x=>by kernel_rfl)
def OW:aI:=(341,⟨[.io aD jH],[.val .bool .leaf],CV k,[]⟩)::(Ru k)
def Vr:aH prog (OW k):=aJ (Zj k) nA nA k func341 (by kernel_rfl) (fun x=>by kernel_rfl)
def ZA:aQ:=fun|2=>some ⟨[(1,.val ar .leaf),(7,.val (.sl al) aT),(8,.val ar .leaf),(9,.val ar .leaf)],4⟩|_=>none
def SC:aI:=(372,⟨[.val (.sl al) .shr,.val ar .leaf],[.val ar .leaf],Ew k,[]⟩)::(OW k)
def ZY:aH prog (SC k):=aJ (Vr k) ZA nA k func372 (by kernel_rfl) (fun x=>by kernel_rfl)
def WL:aI:=(143,⟨[.val ae gx,.val ar .leaf],[.val .bool .leaf],Lw k,[]⟩)::(SC k)
def aeg:aH prog (WL k):=aJ (ZY k) nA nA k func143 (by kernel_rfl) (fun x=>by kernel_rfl)
def abn:aQ:=fun|3=>some ⟨[(1,.val ar .leaf),(5,.val (.sl ae) DP),(8,.val (.sl ae) aT),(9,.val ar .leaf),(10,.val ar .leaf)],5⟩|_=>none
def VA:aI:=(68,⟨[.val (.sl ae) .shr,.val ar .leaf],[.val (.sl ae) .own],Nk k,[]⟩)::(WL k)
def adv:aH prog (VA k):=aJ (aeg k) abn nA k func68 (by kernel_rfl) (fun x=>by kernel_rfl)
def V2:aI:=(385,⟨[.val al P8,.val ar .leaf],[.val al ZW,.val cw UO],My k,[]⟩)::(VA k)
def abH:aH prog (V2 k):=aJ (adv k) nA nA k func385 (by kernel_rfl) (fun x=>by kernel_rfl)
def Tw:aI:=(371,⟨[.val (.sl al) .shr,.val ar .leaf,.val ar .leaf],[.val (.sl al) .own,.val cw UO,.val .bool .leaf],Kv k,[]⟩)::(V2 k)
def aac:aH prog (Tw k):=aJ (abH k) nA nA k func371 (by kernel_rfl) (fun x=>by kernel_rfl)
def MH:aI:=(342,⟨[.io aD jH],[],zC k,[]⟩)::(Tw k)
def Ud:aH prog (MH k):=aJ (aac k) nA nA k func342 (by kernel_rfl) (fun x=>by kernel_rfl)
def Ro:aQ:=fun|9=>some ⟨[(0,.box 4 aD qf),(3,.box 14 aq Vv)],15⟩|_=>none
def K9:aI:=(272,⟨[.io aD jH],[.val .bool .leaf],xC k,[]⟩)::(MH k)
def Si:aH prog (K9 k):=aJ (Ud k) nA Ro k func272 (by kernel_rfl) (fun x=>by kernel_rfl)
def Qk:aI:=(84,⟨[.val aq pD,.val ar .leaf],[.val ar .leaf],AO k,[]⟩)::(K9 k)
def W2:aH prog (Qk k):=aJ (Si k) nA nA k func84 (by kernel_rfl) (fun x=>by kernel_rfl)
def PJ:aI:=(226,⟨[.io aD jH,.val ar .leaf],[.val .bool .leaf],rk k,[(0,(jd 14 12))]⟩)::(Qk k)
def Wo:aH prog (PJ k):=aJ (W2 k) nA nA k func226 (by kernel_rfl) (fun x=>by kernel_rfl)
def Ve:aI:=(386,⟨[.val ae gx,.val ae gx],[.val .bool .leaf],NK k,[]⟩)::(PJ k)
def abR:aH prog (Ve k):=aJ (Wo k) nA nA k func386 (by kernel_rfl) (fun x=>by kernel_rfl)
def V1:aI:=(378,⟨[.val ae gx,.val ae gx],[.val ae sK],MV k,[]⟩)::(Ve k)
def adk:aH prog (V1 k):=aJ (abR k) nA nA k func378 (by kernel_rfl) (fun x=>by kernel_rfl)
def RH:aI:=(361,⟨[.val ax Sl,.val ae gx],[.val ax XP,.val .bool .leaf],IP k,[]⟩)::(V1 k)
def Ze:aH prog (RH k):=aJ (adk k) nA nA k func361 (by kernel_rfl) (fun x=>by kernel_rfl)
def abm:aQ:=fun|10=>some ⟨[(2,.box 4 aj h6),(3,.box 5 ae DX),(4,.box 6 aj rO),(6,.box 7 aj VE),(7,.val ar .leaf),(11,.val ar .leaf)],9⟩|_=>none
def aa7:aQ:=fun|12=>some ⟨[(2,.box 4 aj h6),(3,.box 5 ae DX),(4,.box 6 aj rO),(6,.box 7 aj VE),(7,.val ar .leaf),(11,.val ar .leaf)],9⟩|_=>none
def V0:aI:=(314,⟨[.val aj BD,.val ae gx],[.val aj (.pair .leaf (.pair .leaf .pv)),.val .bool .leaf],MF k,[]⟩)::(RH k)
def acz:aH prog (V0 k):=aJ (Ze k) abm aa7 k func314 (by kernel_rfl) (fun x=>by kernel_rfl)
def R2:aI:=(228,⟨[.val (.sl aj) .shr,.val ae gx],[.val (.sl aj) .pv,.val .bool .leaf],IT k,[]⟩)::(V0 k)
def Yv:aH prog (R2 k):=aJ (acz k) nA nA k func228 (by kernel_rfl) (fun x=>by kernel_rfl)
def WC:aI:=(128,⟨[.val aW aag,.val ae gx],[.val aW abO],Od k,[]⟩)::(R2 k)
def aeb:aH prog (WC k):=aJ (Yv k) nA nA k func128 (by kernel_rfl) (fun x=>by kernel_rfl)
def YF:aQ:=fun|3=>some ⟨[(3,.box 4 ae DX),(5,.val (.sl aW) NZ),(8,.val (.sl aW) aT),(9,.val ar .leaf),(10,.val ar .leaf)],6⟩|_=>none
def Tl:aI:=(50,⟨[.val (.sl aW) .shr,.val ae gx],[.val (.sl aW) .own],Kx k,[]⟩)::(WC k)
def ZO:aH prog (Tl k):=aJ (aeb k) YF nA k func50 (by kernel_rfl) (fun x=>by kernel_rfl)
def Q1:aI:=(230,⟨[.io aD jH,.val ay xp],[],AN k,[(0,(jd 14 12))]⟩)::(Tl k)
def XA:aH prog (Q1 k):=aJ (ZO k) nA nA k func230 (by kernel_rfl) (fun x=>by kernel_rfl)
def SO:aQ:=fun|23=>some ⟨[(0,.box 4 aD TS),(1,.val ar .leaf),(5,.ept 12 aq 0 [] aq),(6,.box 14 ae (.pair Re (.pair .leaf zA))),(10,.val ar .leaf)],16⟩|26=>some ⟨[(0,.box 4 aD qf)],14⟩|_=>none
def MO:aI:=(122,⟨[.io aD jH,.val ar .leaf],[.val .bool .leaf],zB k,[]⟩)::(Q1 k)
def TR:aH prog (MO k):=aJ (XA k) nA SO k func122 (by kernel_rfl) (fun x=>by kernel_rfl)
def X8:aQ:=fun|4=>some ⟨[(1,.val ar .leaf),(2,.box 4 ax JA),(4,.box 5 ax ov),(6,.box 6 ax MB),(7,.val (.sl ae) DU),(14,.val (.sl ae) aT),(15,.val ar .leaf),(16,.val ar .leaf)],9⟩|_=>none
def XL:aQ:=fun|10=>some ⟨[(2,.box 4 ax JA),(4,.box 5 ax ov),(6,.box 6 ax MB),(7,.val (.sl ae) DU)],9⟩|_=>none
def RZ:aI:=(323,⟨[.val ax Sl,.val ar .leaf],[.val ax XP,.val (.sl ae) .own],IU k,[]⟩)::(MO k)
def ZJ:aH prog (RZ k):=aJ (TR k) X8 XL k func323 (by kernel_rfl) (fun x=>by kernel_rfl)
def Zg:aQ:=fun|4=>some ⟨[(1,.val ar .leaf),(2,.box 4 aj h6),(4,.box 5 aj rO),(6,.box 6 aj Mc),(7,.val (.sl ae) DU),(18,.val (.sl ax) aT),(19,.val ar .leaf),(20,.val ar .leaf)],9⟩|_=>none
def Ys:aQ:=fun|11=>some ⟨[(2,.box 4 aj h6),(4,.box 5 aj rO),(6,.box 6 aj Mc),(7,.val (.sl ae) DU)],9⟩|_=>none
def Sz:aI:=(254,⟨[.val aj BD,.val ar .leaf],[.val aj afN,.val (.sl ae) .own],KH k,[]⟩)::(RZ k)
def aan:aH prog (Sz k):=aJ (ZJ k) Zg Ys k func254 (by kernel_rfl) (fun x=>by kernel_rfl)
def NQ:aI:=(255,⟨[.io aD jH,.val ar .leaf],[],xh k,[(0,(jd 14 12))]⟩)::(Sz k)
def U1:aH prog (NQ k):=aJ (aan k) nA nA k func255 (by kernel_rfl) (fun x=>by kernel_rfl)
def Rn:aQ:=fun|15=>some ⟨[(0,.box 4 aD VT),(6,.box 14 aj ZN)],16⟩|_=>none
def LD:aI:=(139,⟨[.io aD jH,.val ar .leaf],[.val .bool .leaf],xE k,[]⟩)::(NQ k)
def R8:aH prog (LD k):=aJ (U1 k) nA Rn k func139 (by kernel_rfl) (fun x=>by kernel_rfl)
def M6:aI:=(247,⟨[.io aD jH,.val ar .leaf],[.val .bool .leaf],zD k,[]⟩)::(LD k)
def TU:aH prog (M6 k):=aJ (R8 k) nA nA k func247 (by kernel_rfl) (fun x=>by kernel_rfl)
def Rp:aQ:=fun|2=>some ⟨[(0,.rdp [1] aD fL),(3,.box 4 aq y0),(8,.val (.sl ar) aT),(9,.val ar .leaf),(10,.val ar .leaf)],5⟩|_=>none
def LB:aI:=(320,⟨[.rd aD,.val aq pD],[.val .bool .leaf],xy k,[]⟩)::(M6 k)
def Sy:aH prog (LB k):=aJ (TU k) Rp nA k func320 (by kernel_rfl) (fun x=>by kernel_rfl)
def Mg:aI:=(248,⟨[.io aD jH,.val ar .leaf],[.val .bool .leaf],qk k,[]⟩)::(LB k)
def Tx:aH prog (Mg k):=aJ (Sy k) nA nA k func248 (by kernel_rfl) (fun x=>by kernel_rfl)
def Sw:aQ:=fun|7=>some ⟨[(0,.box 4 aD qf),(5,.val .bool .leaf)],14⟩|_=>none
def L6:aI:=(135,⟨[.io aD jH,.val ar .leaf],[.val .bool .leaf],tK k,[]⟩)::(Mg k)
def SL:aH prog (L6 k):=aJ (Tx k) nA Sw k func135 (by kernel_rfl) (fun x=>by kernel_rfl)
def PM:aI:=(162,⟨[.io aD jH,.val ar .leaf],[.val .bool .leaf],vV k,[]⟩)::(L6 k)
def Wu:aH prog (PM k):=aJ (SL k) nA nA k func162 (by kernel_rfl) (fun x=>by kernel_rfl)
def WM:aI:=(86,⟨[.val aD ox,.val ar .leaf],[.val aD jH,.val .bool .leaf],Of k,[]⟩)::(PM k)
def aet:aH prog (WM k):=aJ (Wu k) nA nA k func86 (by kernel_rfl) (fun x=>by kernel_rfl)
def Ww:aI:=(19,⟨[.val aD ox,.val ar .leaf],[.val .bool .leaf],D0 k,[]⟩)::(WM k)
def aeo:aH prog (Ww k):=aJ (aet k) nA nA k func19 (by kernel_rfl) (fun x=>by kernel_rfl)
def acn:aQ:=fun|3=>some ⟨[(1,.box 4 aD fL),(3,.val ar .leaf),(7,.val (.sl aq) aT),(8,.val ar .leaf),(9,.val ar .leaf)],5⟩|_=>none
def WG:aI:=(16,⟨[.val aD ox],[.val ar .leaf],LK k,[]⟩)::(Ww k)
def aeu:aH prog (WG k):=aJ (aeo k) acn nA k func16 (by kernel_rfl) (fun x=>by kernel_rfl)
def abt:aQ:=fun|2=>some ⟨[(1,.box 4 aD fL),(6,.val (.sl aq) aT),(7,.val ar .leaf),(8,.val ar .leaf)],5⟩|_=>none
def abe:aQ:=fun|7=>some ⟨[(1,.box 4 aD fL)],5⟩|_=>none
def Vt:aI:=(14,⟨[.val aD ox],[.val .bool .leaf],M8 k,[]⟩)::(WG k)
def adC:aH prog (Vt k):=aJ (aeu k) abt abe k func14 (by kernel_rfl) (fun x=>by kernel_rfl)
def Wz:aI:=(17,⟨[.val aD ox,.val ar .leaf],[.val .bool .leaf],Is k,[]⟩)::(Vt k)
def aeF:aH prog (Wz k):=aJ (adC k) nA nA k func17 (by kernel_rfl) (fun x=>by kernel_rfl)
def OL:aI:=(85,⟨[.val aq pD],[.val .bool .leaf],Ce k,[]⟩)::(Wz k)
def VL:aH prog (OL k):=aJ (aeF k) nA nA k func85 (by kernel_rfl) (fun x=>by kernel_rfl)
def RJ:aI:=(18,⟨[.val aD ox,.val ar .leaf],[.val ar .leaf],IW k,[]⟩)::(OL k)
def Yo:aH prog (RJ k):=aJ (VL k) nA nA k func18 (by kernel_rfl) (fun x=>by kernel_rfl)
def Td:aQ:=fun|8=>some ⟨[(3,.box 4 aD (.pair yJ (.pair .leaf (.pair .leaf (.pair (.sl (.row 5 [2,5] false)) (.pair (.sl (.row 6 [2,6] false)) (.pair (.sl (.row 7 [2,7] false)) (.pair .leaf (.pair (.sl (.row 8 [2,8] false)) (.pair .leaf (.pair (.sl (.row 9 [2,9] false)) (.pair (.sl (.row 10 [2,10] false)) (.pair (.sl (.row 11 [2,11] false)) (.pair (.sl (.row 12 [12] true)) (.sl (.row 13 [2,13] false)))))))))))))))),(4,.val .bool .leaf),(5,.val ar .leaf)],14⟩|_=>none
def TL:aI:=(3,⟨[.val (.sl (.int .u8)) .rom],[.val .bool .leaf],vE k,[]⟩)::(RJ k)
def UC:aH prog (TL k):=aJ (Yo k) Td nA k func3 (by kernel_rfl) (fun x=>by kernel_rfl)
end
end Vg.Tryz
namespace Vg.Tryz
open Go Vg
section
variable{k:Nat}(hk:9223372036854775808<=k)
include hk
theorem ng(x:aY):ai db x=ai (.sl .str) x.2.2.2.2.2:=by
 obtain⟨x0,x1,x2,x3,x4,x5⟩:=x;simp only[ai]
 try omega
theorem lx(x:ag):ai ak x=x.1.size+x.2.size:=by
 obtain⟨x0,x1⟩:=x;simp only[ai]
 try omega
theorem bj(x:af):ai ae x=ai (.sl ak) x.1+x.2.2.2.size:=by
 obtain⟨x0,x1,x2,x3⟩:=x;simp only[ai]
 try omega
theorem df(x:aP):ai ax x=ai (.sl ae) x.2:=by
 obtain⟨x0,x1⟩:=x;simp only[ai]
 try omega
theorem dj(x:au):ai aj x=ai (.sl ax) x.2.2:=by
 obtain⟨x0,x1,x2⟩:=x;simp only[ai]
 try omega
theorem nj(x:bo):ai aW x=ai (.sl ae) x.1:=by
 obtain⟨x0,x1⟩:=x;simp only[ai]
 try omega
theorem eK(x:aw):ai al x=ai (.sl ak) x.2.1+ai (.sl ae) x.2.2.2.2:=by
 obtain⟨x0,x1,x2,x3,x4⟩:=x;simp only[ai]
 try omega
theorem Pb(x:aF):ai aE x=0:=by
 obtain⟨x0,x1⟩:=x;simp only[ai]
 try omega
theorem pK(x:bq):ai cw x=ai (.sl ak) x.2.1+ai (.sl ae) x.2.2.2:=by
 obtain⟨x0,x1,x2,x3⟩:=x;simp only[ai]
 try omega
theorem dy(x:aG):ai aq x=ai ae x.2.2.1+ai (.sl ak) x.2.2.2.1+ai (.sl (.int .i64)) x.2.2.2.2.2.1+ai (.sl ae) x.2.2.2.2.2.2.1:=by
 obtain⟨x0,x1,x2,x3,x4,x5,x6,x7,x8⟩:=x;simp only[ai]
 try omega
theorem cU(x:aA):ai ay x=ai ae x.2.2.1+ai (.sl ak) x.2.2.2.1+ai (.sl ae) x.2.2.2.2.2.2.2.1:=by
 obtain⟨x0,x1,x2,x3,x4,x5,x6,x7,x8,x9,x10,x11⟩:=x;simp only[ai]
 try omega
theorem iI(x:ah):ai aD x=ai db x.1+ai (.sl aj) x.2.2.2.1+ai (.sl aW) x.2.2.2.2.1+ai (.sl ae) x.2.2.2.2.2.1+ai (.sl al) x.2.2.2.2.2.2.2.1+ai (.sl aE) x.2.2.2.2.2.2.2.2.2.1+ai (.sl cw) x.2.2.2.2.2.2.2.2.2.2.1+ai (.sl ae) x.2.2.2.2.2.2.2.2.2.2.2.1+ai (.sl aq) x.2.2.2.2.2.2.2.2.2.2.2.2.1+ai (.sl ay) x.2.2.2.2.2.2.2.2.2.2.2.2.2:=by
 obtain⟨x0,x1,x2,x3,x4,x5,x6,x7,x8,x9,x10,x11,x12,x13⟩:=x;simp only[ai]
 try omega
end
def AM(s:ByteArray)(i:Nat):Bool:=decide (97<=bt s i)&&decide (bt s i<=122)
def eP(s:ByteArray):Bool:=decide (1<=s.size/\s.size<=8)&&bA 0 s.size (AM s)
def qE(s:ByteArray)(i:Nat):Bool:=decide (32<=bt s i/\bt s i<=126/\bt s i≠34/\bt s i≠92)
def iE(s:ByteArray):Bool:=decide (s.size<=12)&&bA 0 s.size (qE s)
def eA(x:ag):Bool:=eP x.1&&iE x.2
def xF(l:List ag)(i:Nat):Bool:=i==0||ly (l.getD (i-1) ak.aa).1 (l.getD i ak.aa).1
def cZ(l:List ag):Bool:=decide (l.length<=4)&&bA 0 l.length (fun i=>eA (l.getD i ak.aa)&&xF l i)
section
variable{k:Nat}(hk:9223372036854775808<=k)
include hk
theorem uB{s:ByteArray}(hs:s.size<=1048576):km k (s,())=some (eP s,()):=by
 simp only[km,aN];rw[show((s,(0:Int),()):ByteArray×Int×Unit)=(fun i:Nat=>(s,(i:Int),())) 0 from rfl];rw[dt (fun i:Nat=>(s,(i:Int),())) (AM s) s.size (e:=some (decide (1<=s.size/\s.size<=8),())) (no:=some (false,())) ?_ ?_ k 0 (by omega)];unfold eP;cases bA 0 s.size (AM s)<;>simp;intro G i a;simp only;rw[aK,c_ a,an rfl,an (aC a),aC a,axp,an rfl,aX (by omega)];unfold AM;by_cases b:bt s i<97<;>by_cases c:bt s i>122<;>simp[b,c]<;>omega;intro G i a;simp only;rw[aK,decide_eq_false (by omega),a_ (by simp)];simp only[bY,axi];congr 2;rw[axn];simp;omega
theorem uV{s:ByteArray}(hs:s.size<=1048576):ku k (s,())=some (eP s,()):=by
 simp only[ku,bB,axi];by_cases b:1<=s.size/\s.size<=8;rw[a_ (by simp;omega)];rw[show((s,(0:Int),()):ByteArray×Int×Unit)=(fun i:Nat=>(s,(i:Int),())) 0 from rfl];rw[dt (fun i:Nat=>(s,(i:Int),())) (AM s) s.size (e:=some (true,())) (no:=some (false,())) ?_ ?_ k 0 (by omega)];unfold eP;cases bA 0 s.size (AM s)<;>simp[b];intro G i a;simp only;rw[aK,c_ a,an rfl,an (aC a),aC a,axp,an rfl,aX (by omega)];unfold AM;by_cases c:bt s i<97<;>by_cases d:bt s i>122<;>simp[c,d]<;>omega;intro G i a;simp only;rw[aK,decide_eq_false (by omega),a_ (by simp)];rw[an (by simp;omega)];unfold eP;simp[b]
theorem rS{s:ByteArray}(hs:s.size<=1048576):jE k (s,())=some (iE s,()):=by
 simp only[jE,aN];rw[show((s,(0:Int),()):ByteArray×Int×Unit)=(fun i:Nat=>(s,(i:Int),())) 0 from rfl];rw[dt (fun i:Nat=>(s,(i:Int),())) (qE s) s.size (e:=some (decide (s.size<=12),())) (no:=some (false,())) ?_ ?_ k 0 (by omega)];unfold iE;cases bA 0 s.size (qE s)<;>simp;intro G i a;simp only;rw[aK,c_ a,an rfl,an (aC a),aC a,axp,an rfl,axp,an rfl,axp,an rfl,aX (by omega)];unfold qE;by_cases b:bt s i<32<;>by_cases c:bt s i>126<;>by_cases d:bt s i=34<;>by_cases f:bt s i=92<;>simp[b,c,d,f]<;>omega;intro G i a;simp only;rw[aK,decide_eq_false (by omega),a_ (by simp)];congr 2;rw[axn];simp;omega
theorem rJ{s:ByteArray}(hs:s.size<=1048576):jq k (s,())=some (iE s,()):=by
 simp only[jq];by_cases b:s.size<=12;rw[a_ (by simp;omega)];rw[show((s,(0:Int),()):ByteArray×Int×Unit)=(fun i:Nat=>(s,(i:Int),())) 0 from rfl];rw[dt (fun i:Nat=>(s,(i:Int),())) (qE s) s.size (e:=some (true,())) (no:=some (false,())) ?_ ?_ k 0 (by omega)];unfold iE;cases bA 0 s.size (qE s)<;>simp[b];intro G i a;simp only;rw[aK,c_ a,an rfl,an (aC a),aX (by omega)];unfold qE;by_cases c:bt s i<32<;>by_cases d:bt s i>126<;>by_cases f:bt s i=34<;>by_cases g:bt s i=92<;>simp[c,d,f,g]<;>omega;intro G i a;simp only;rw[aK,decide_eq_false (by omega),a_ (by simp)];rw[an (by simp;omega)];unfold iE;simp[b]
def CL{x:ag}(hs:ai ak x<=1048576):lH k (x,())=some (eA x,()):=by
 rw[lx hk]at hs;simp only[lH];rw[uB hk (by omega),rS hk (by omega)];simp only[cD,axi,eA];cases eP x.1<;>simp
def Dh{x:ag}(hs:ai ak x<=1048576):lE k (x,())=some (eA x,()):=by
 rw[lx hk]at hs;simp only[lE];rw[uV hk (by omega),rJ hk (by omega)];simp only[cD,axi,eA];cases eP x.1<;>simp
def pB{l:List ag}(hs:ai (.sl ak) l<=1048576):jF k (l,())=some (cZ l,()):=by
 have hl:=az (e:=ak) (l:=l);simp only[jF,aN];rw[show((l,(0:Int),()):List ag×Int×Unit)=(fun i:Nat=>(l,(i:Int),())) 0 from rfl];rw[dt (fun i:Nat=>(l,(i:Int),())) (fun i=>eA (l.getD i ak.aa)&&xF l i) l.length (e:=some (decide (l.length<=4),())) (no:=some (false,())) ?_ ?_ k 0 (by omega)];unfold cZ;cases bA 0 l.length (fun i=>eA (l.getD i ak.aa)&&xF l i)<;>simp;intro G i a;simp only[axk];have f:ai ak (l.getD i ak.aa)<=1048576:=axm (cx (e:=ak) (cC a)) hs;rw[aK,c_ a,an rfl,an (aC a),CL hk f,axi,aX (by omega),D8 (by omega)];simp only;rw[an (by simp;omega),an (by simp[a])];simp only[fH,cD,axi];rw[show((i:Int)-1).toNat=i-1 by omega];unfold xF ly;cases eA (l.getD i ak.aa)with
 |false=>simp
 |true=>
  by_cases d:i=0;subst d;simp;have b:(0:Int)<(i:Int):=by omega
  have c:0<i:=by omega
  cases Op.bytesLess (ByteArray.toList (l.getD (i-1) ak.aa).1) (ByteArray.toList (l.getD i ak.aa).1)<;>simp[d,b,c]
 intro G i a;simp only;rw[aK,decide_eq_false (by omega),a_ (by simp)];congr 2;rw[axn];simp;omega
def mG{l:List ag}(hs:ai (.sl ak) l<=1048576):gX k (l,())=some (cZ l,()):=by
 have hl:=az (e:=ak) (l:=l);simp only[gX];rw[show((l,l,(l.length:Int),(0:Int),()):List ag×List ag×Int×Int×Unit)=(fun i:Nat=>(l,l,(l.length:Int),(i:Int),())) 0 from rfl];rw[dt (fun i:Nat=>(l,l,(l.length:Int),(i:Int),())) (fun i=>decide (i<4)&&(eA (l.getD i ak.aa)&&xF l i)) l.length (e:=some (true,())) (no:=some (false,())) ?_ ?_ k 0 (by omega)];unfold cZ;rw[jI,PZ];cases bA 0 l.length (fun i=>eA (l.getD i ak.aa)&&xF l i)<;>by_cases h:l.length<=4<;>simp[h];intro G i b;simp only[axk];have j:ai ak (l.getD i ak.aa)<=1048576:=axm (cx (e:=ak) (cC b)) hs;rw[aK,c_ b,an rfl,an (aC b),Dh hk j,aX (by omega),D8 (by omega)];simp only[cD,axi];rw[show((i:Int)-1).toNat=i-1 by omega];rw[an (by simp;omega)];unfold xF ly;by_cases c:i<4;have a:¬(4:Int)<=(i:Int):=by omega
 cases eA (l.getD i ak.aa)with
 |false=>simp[c,a]
 |true=>
  by_cases g:i=0;subst g;simp;have d:(0:Int)<(i:Int):=by omega
  have f:0<i:=by omega
  cases Op.bytesLess (ByteArray.toList (l.getD (i-1) ak.aa).1) (ByteArray.toList (l.getD i ak.aa).1)<;>simp[g,d,f,c,a]
 have a:(4:Int)<=(i:Int):=by omega
 simp[c,a];intro G i b;simp only;rw[aK,decide_eq_false (by omega),a_ (by simp)]
end
def aZ(n a b:Int):Bool:=decide (a<=n)&&decide (n<=b)
def qi(l:List ByteArray):Bool:=bA 1 l.length (fun i=>ly (l.getD (i-1) ByteArray.empty) (l.getD i ByteArray.empty))
def qF(l:List ByteArray):Bool:=bA 0 l.length (fun i=>eP (l.getD i ByteArray.empty))&&(decide (l.length<=2)&&qi l)
def cY(c:aY):Bool:=aZ c.1 1 3&&aZ c.2.1 1 8&&aZ c.2.2.1 1 2&&aZ c.2.2.2.1 1 9&&aZ c.2.2.2.2.1 1 9&&qF c.2.2.2.2.2
def bh(a:af):Bool:=cZ a.1&&decide (0<a.1.length)&&aZ a.2.1 0 99999&&aZ a.2.2.1 a.2.1 99999&&iE a.2.2.2
def bI(l:List af):Bool:=bA 0 l.length (fun i=>bh (l.getD i ae.aa))
def yw(a b:Bool):(if a=true then b else false)=(a&&b):=by cases a<;>rfl
section
variable{k:Nat}(hk:9223372036854775808<=k)
include hk
theorem vF(n a b:Int):bY k (n,a,b,())=some (aZ n a b,()):=by
 simp only[bY,aZ,yw]
theorem fw(n a b:Int):bB k (n,a,b,())=some (aZ n a b,()):=by
 simp only[bB,aZ,yw]
theorem rK{l:List ByteArray}(hl:l.length<=1048576):gH k (l,())=some (qi l,()):=by
 simp only[gH];rw[show((l,(1:Int),()):List ByteArray×Int×Unit)=(fun i:Nat=>(l,((i+1:Nat):Int),())) 0 from rfl];rw[dt (fun i:Nat=>(l,((i+1:Nat):Int),())) (fun i=>ly (l.getD i ByteArray.empty) (l.getD (i+1) ByteArray.empty)) (l.length-1) (e:=some (true,())) (no:=some (false,())) ?_ ?_ k 0 (by omega)]
 have:qi l=bA 0 (l.length-1) (fun i=>ly (l.getD i ByteArray.empty) (l.getD (i+1) ByteArray.empty)):=by
  unfold qi;rw[axn,bM,bM];constructor;intro h i _ a;have:=h (i+1) (by omega) (by omega);simpa using this;intro h i h1 a;have:=h (i-1) (by omega) (by omega);rw[show i-1+1=i by omega]at this;exact this
 rw[this];cases bA 0 (l.length-1) (fun i=>ly (l.getD i ByteArray.empty) (l.getD (i+1) ByteArray.empty))<;>rfl;intro G i b;simp only[axk];rw[aK,c_ (by omega),an rfl,D8 (by omega),aX (by omega)];rw[an (by simp;omega),an (by simp;omega)];simp only[fH,axi];rw[show(((i+1:Nat):Int)-1).toNat=i by omega];unfold ly;cases Op.bytesLess (ByteArray.toList (l.getD i ByteArray.empty)) (ByteArray.toList (l.getD (i+1) ByteArray.empty))<;>simp;intro G i b;simp only;rw[aK,decide_eq_false (by omega),a_ (by simp)]
theorem MJ(l:List ByteArray):lL k (l,())=gH k (l,()):=by
 simp only[gH,lL,fH,axi]
def Jk{l:List ByteArray}(hs:ai (.sl .str) l<=1048576):oN k (l,())=some (qF l,()):=by
 have hl:=az (e:= .str) (l:=l);simp only[oN,aN];rw[show((l,(0:Int),()):List ByteArray×Int×Unit)=(fun i:Nat=>(l,(i:Int),())) 0 from rfl];rw[dt (fun i:Nat=>(l,(i:Int),())) (fun i=>eP (l.getD i ByteArray.empty)) l.length (e:=some (decide (l.length<=2)&&qi l,())) (no:=some (false,())) ?_ ?_ k 0 (by omega)];unfold qF;cases bA 0 l.length (fun i=>eP (l.getD i ByteArray.empty))<;>simp;intro G i a;simp only[axk];have c:ai .str (l.getD i ByteArray.empty)<=1048576:=axm (cx (e:= .str) (cC a)) hs;rw[aK,c_ a,an rfl,an (aC a),uB hk c,axi,aX (by omega)];cases eP (l.getD i ByteArray.empty)<;>simp;intro G i a;simp only;rw[aK,decide_eq_false (by omega),a_ (by simp),rK hk (by omega)];simp only[cD,axi];by_cases h:l.length<=2;have b:(l.length:Int)<=2:=by omega
 simp[h,b];have b:¬(l.length:Int)<=2:=by omega
 simp[h,b]
def Kd{l:List ByteArray}(hs:ai (.sl .str) l<=1048576):oL k (l,())=some (qF l,()):=by
 have hl:=az (e:= .str) (l:=l);simp only[oL,aN];rw[show((l,l,(l.length:Int),(0:Int),()):List ByteArray×List ByteArray×Int×Int×Unit)=(fun i:Nat=>(l,l,(l.length:Int),(i:Int),())) 0 from rfl];rw[dt (fun i:Nat=>(l,l,(l.length:Int),(i:Int),())) (fun i=>eP (l.getD i ByteArray.empty)) l.length (e:=some (decide (l.length<=2)&&qi l,())) (no:=some (false,())) ?_ ?_ k 0 (by omega)];unfold qF;cases bA 0 l.length (fun i=>eP (l.getD i ByteArray.empty))<;>simp;intro G i a;simp only[axk];have c:ai .str (l.getD i ByteArray.empty)<=1048576:=axm (cx (e:= .str) (cC a)) hs;rw[aK,c_ a,an rfl,an (aC a),uV hk c,axi,aX (by omega)];cases eP (l.getD i ByteArray.empty)<;>simp;intro G i a;simp only;rw[aK,decide_eq_false (by omega),a_ (by simp),MJ hk,rK hk (by omega)];simp only[cD,axi];by_cases h:l.length<=2;have b:(l.length:Int)<=2:=by omega
 simp[h,b];have b:¬(l.length:Int)<=2:=by omega
 simp[h,b]
def Ey{c:aY}(hs:ai db c<=1048576):mH k (c,())=some (cY c,()):=by
 rw[ng hk]at hs;simp only[mH,vF hk,Jk hk hs,cD,axi,cY];generalize aZ c.1 1 3=b1;generalize aZ c.2.1 1 8=b2;generalize aZ c.2.2.1 1 2=b3;generalize aZ c.2.2.2.1 1 9=b4;generalize aZ c.2.2.2.2.1 1 9=b5;cases b1<;>cases b2<;>cases b3<;>cases b4<;>cases b5<;>simp
def FV{c:aY}(hs:ai db c<=1048576):mE k (c,())=some (cY c,()):=by
 rw[ng hk]at hs;simp only[mE,fw hk,Kd hk hs,cD,axi,cY];generalize aZ c.1 1 3=b1;generalize aZ c.2.1 1 8=b2;generalize aZ c.2.2.1 1 2=b3;generalize aZ c.2.2.2.1 1 9=b4;generalize aZ c.2.2.2.2.1 1 9=b5;cases b1<;>cases b2<;>cases b3<;>cases b4<;>cases b5<;>simp
theorem Mr(l:List ag):decide ((l.length:Int)>0)=decide (0<l.length):=by simp
def C9{a:af}(hs:ai ae a<=1048576):lO k (a,())=some (bh a,()):=by
 rw[bj hk]at hs;simp only[lO,vF hk,pB hk (show ai (.sl ak) a.1<=1048576 by omega),rS hk (show a.2.2.2.size<=1048576 by omega),cD,axi,bh,Mr hk];generalize cZ a.1=b1;generalize decide (0<a.1.length)=b2;generalize aZ a.2.1 0 99999=b3;generalize aZ a.2.2.1 a.2.1 99999=b4;cases b1<;>cases b2<;>cases b3<;>cases b4<;>simp
def iS{a:af}(hs:ai ae a<=1048576):dU k (a,())=some (bh a,()):=by
 rw[bj hk]at hs;simp only[dU,fw hk,mG hk (show ai (.sl ak) a.1<=1048576 by omega),rJ hk (show a.2.2.2.size<=1048576 by omega),cD,axi,bh,Mr hk];generalize cZ a.1=b1;generalize decide (0<a.1.length)=b2;generalize aZ a.2.1 0 99999=b3;generalize aZ a.2.2.1 a.2.1 99999=b4;cases b1<;>cases b2<;>cases b3<;>cases b4<;>simp
def jP{l:List af}(hs:ai (.sl ae) l<=1048576):fb k (l,())=some (bI l,()):=by
 have hl:=az (e:=ae) (l:=l);simp only[fb];rw[show((l,(l.length:Int),(0:Int),()):List af×Int×Int×Unit)=(fun i:Nat=>(l,(l.length:Int),(i:Int),())) 0 from rfl];rw[dt (fun i:Nat=>(l,(l.length:Int),(i:Int),())) (fun i=>bh (l.getD i ae.aa)) l.length (e:=some (true,())) (no:=some (false,())) ?_ ?_ k 0 (by omega)];unfold bI;cases bA 0 l.length (fun i=>bh (l.getD i ae.aa))<;>simp;intro G i a;simp only[axk];have b:ai ae (l.getD i ae.aa)<=1048576:=axm (cx (e:=ae) (cC a)) hs;rw[aK,c_ a,an rfl,an (aC a),iS hk b,axi,aX (by omega)];cases bh (l.getD i ae.aa)<;>simp;intro G i a;simp only;rw[aK,decide_eq_false (by omega),a_ (by simp)]
end
def hasB(by_:List ByteArray)(s:ByteArray):Bool:= !bA 0 by_.length (fun i=> !((by_.getD i ByteArray.empty).toList==s.toList))
def keyOf(a:af)(by_:List ByteArray):List ag:=a.1.filter (fun x=>hasB by_ x.1)
def yd(l:List af)(i:Nat):Bool:=i==0||bp (l.getD (i-1) ae.aa).1 (l.getD i ae.aa).1
def qh(l:List af)(key:List ag)(by_:List ByteArray):Bool:=
 bA 0 l.length (fun i=>bh (l.getD i ae.aa)&&(decide (keyOf (l.getD i ae.aa) by_=key)&&yd l i))
def eB(g:aw)(by_:List ByteArray):Bool:=
 decide (0<=g.1)&&(cZ g.2.1&&(aZ g.2.2.1 0 99999&&((decide (g.2.2.2.1= -1)||aZ g.2.2.2.1 g.2.2.1 99999)&&(decide (0<g.2.2.2.2.length)&&qh g.2.2.2.2 g.2.1 by_))))
def JK(l:List aw)(i:Nat):Bool:=i==0||decide ((l.getD (i-1) al.aa).1<(l.getD i al.aa).1)
def pn(l:List aw)(i:Nat):Bool:=bA 0 i (fun j=> !decide ((l.getD j al.aa).2.1=(l.getD i al.aa).2.1))
def dQ(l:List aw)(by_:List ByteArray):Bool:=
 decide (l.length<=12)&&bA 0 l.length (fun i=>eB (l.getD i al.aa) by_&&(JK l i&&pn l i))
def fp(s:bo):Bool:=decide (s.1.length<=3)&&((!s.2||decide (s.1.length=0))&&bI s.1)
def cm(a:af):Bool:=bh a&&decide (a.2.2.1<=99899)
section
variable{k:Nat}(hk:9223372036854775808<=k)
include hk
theorem nT{a b:List ag}(ha:a.length<=1048576):gJ k (a,b,())=some (decide (a=b),()):=by
 simp only[gJ];by_cases l:a.length=b.length;rw[a_ (by simp[l])]
 rw[pZ (g:=fun(s:List ag×List ag×Int×Unit)=>some (decide (a.drop s.2.2.1.toNat=b.drop s.2.2.1.toNat),())) (m:=fun(s:List ag×List ag×Int×Unit)=>a.length-s.2.2.1.toNat)
  (I:=fun(s:List ag×List ag×Int×Unit)=>s.1=a/\s.2.1=b/\0<=s.2.2.1/\s.2.2.1<=(a.length:Int))]
 simp;rintro G ⟨a',b',i,u⟩ ⟨e1,e2,hi0,hi1⟩ hG;change a'=a at e1;change b'=b at e2;subst e1 e2;simp only at hi0 hi1 hG|-;by_cases f:i<(a'.length:Int);have n:i.toNat<a'.length:=by omega
 have o:i.toNat<b'.length:=by omega
 rw[an (by simpa using f),an (by simpa using⟨hi0,f⟩),an (by simpa using⟨hi0,by omega⟩)];rw[fU (d:=ak.aa) n,fU (d:=ak.aa) o];by_cases c:a'.getD i.toNat ak.aa=b'.getD i.toNat ak.aa;have j:eqv ak (a'.getD i.toNat ak.aa) (b'.getD i.toNat ak.aa)=true:=(yU rfl).2 c;rw[a_ (by rw[j];simp),wrap64 (by omega) (by omega),hG (a',b',i+1,()) ⟨rfl,rfl,by simp only;omega,by simp only;omega⟩ (by simp only;omega)];simp only[c,axq,true_and];rw[show(i+1).toNat=i.toNat+1 by omega]
 have j:eqv ak (a'.getD i.toNat ak.aa) (b'.getD i.toNat ak.aa)=false:=by
  rw[axu];exact fun h=>c ((yU rfl).1 h)
 rw[an (by rw[j];rfl)];simp only[axq,c,false_and,decide_false];rw[a_ (by simpa using f),axl (by omega),axl (by omega)];simp;exact⟨rfl,rfl,by simp,by simp⟩;simp only;omega;rw[an (by simp;omega)];have:a≠b:=fun e=>l (by rw[e]);simp[this]
theorem dV{a b:List ag}(ha:a.length<=1048576):cH k (a,b,())=some (decide (a=b),()):=by
 simp only[cH];by_cases l:a.length=b.length;rw[a_ (by simp[l])]
 rw[pZ (g:=fun(s:List ag×List ag×Int×Int×Unit)=>some (decide (a.drop s.2.2.2.1.toNat=b.drop s.2.2.2.1.toNat),())) (m:=fun(s:List ag×List ag×Int×Int×Unit)=>a.length-s.2.2.2.1.toNat)
  (I:=fun(s:List ag×List ag×Int×Int×Unit)=>s.1=a/\s.2.1=b/\s.2.2.1=(a.length:Int)/\0<=s.2.2.2.1/\s.2.2.2.1<=(a.length:Int))]
 simp;rintro G ⟨a',b',n,i,u⟩ ⟨e1,e2,e3,hi0,hi1⟩ hG;change a'=a at e1;change b'=b at e2;change n=_ at e3;subst e1 e2 e3;simp only at hi0 hi1 hG|-;by_cases f:i<(a'.length:Int);have o:i.toNat<a'.length:=by omega
 have p:i.toNat<b'.length:=by omega
 rw[an (by simpa using f),an (by simpa using⟨hi0,f⟩),an (by simpa using⟨hi0,by omega⟩)];rw[fU (d:=ak.aa) o,fU (d:=ak.aa) p];by_cases c:a'.getD i.toNat ak.aa=b'.getD i.toNat ak.aa;have j:eqv ak (a'.getD i.toNat ak.aa) (b'.getD i.toNat ak.aa)=true:=(yU rfl).2 c;rw[a_ (by rw[j];simp),wrap64 (by omega) (by omega),hG (a',b',_,i+1,()) ⟨rfl,rfl,rfl,by simp only;omega,by simp only;omega⟩ (by simp only;omega)];simp only[c,axq,true_and];rw[show(i+1).toNat=i.toNat+1 by omega]
 have j:eqv ak (a'.getD i.toNat ak.aa) (b'.getD i.toNat ak.aa)=false:=by
  rw[axu];exact fun h=>c ((yU rfl).1 h)
 rw[an (by rw[j];rfl)];simp only[axq,c,false_and,decide_false];rw[a_ (by simpa using f),axl (by omega),axl (by omega)];simp;exact⟨rfl,rfl,rfl,by simp,by simp⟩;simp only;omega;rw[an (by simp;omega)];have:a≠b:=fun e=>l (by rw[e]);simp[this]
theorem mK{a b:List ag}(ha:a.length<=1048576):iW k (a,b,())=some (bp a b,()):=by
 simp only[iW,aN]
 rw[pZ (g:=fun(s:List ag×List ag×Int×Unit)=>some (bp (a.drop s.2.2.1.toNat) (b.drop s.2.2.1.toNat),())) (m:=fun(s:List ag×List ag×Int×Unit)=>a.length-s.2.2.1.toNat)
  (I:=fun(s:List ag×List ag×Int×Unit)=>s.1=a/\s.2.1=b/\0<=s.2.2.1/\s.2.2.1<=(a.length:Int)/\s.2.2.1<=(b.length:Int))]
 simp;rintro G ⟨a',b',i,u⟩ ⟨e1,e2,hi0,hi1,hi2⟩ hG;change a'=a at e1;change b'=b at e2;subst e1 e2;simp only at hi0 hi1 hi2 hG|-;by_cases c:i<(a'.length:Int)/\i<(b'.length:Int);have e:i.toNat<a'.length:=by omega
 have f:i.toNat<b'.length:=by omega
 have h:decide (0<=i/\i<(a'.length:Int))=true:=by simpa using⟨hi0,c.1⟩
 have j:decide (0<=i/\i<(b'.length:Int))=true:=by simpa using⟨hi0,c.2⟩
 rw[an (by simp[c.1,c.2])];simp only[h,j,if_true];rw[fU (d:=ak.aa) e,fU (d:=ak.aa) f];simp only[bp,ly];rw[wrap64 (by omega) (by omega),hG (a',b',i+1,()) ⟨rfl,rfl,by simp only;omega,by simp only;omega,by simp only;omega⟩ (by simp only;omega)];simp only;rw[show(i+1).toNat=i.toNat+1 by omega];cases (ByteArray.toList (a'.getD i.toNat ak.aa).1==ByteArray.toList (b'.getD i.toNat ak.aa).1)<;>cases (ByteArray.toList (a'.getD i.toNat ak.aa).2==ByteArray.toList (b'.getD i.toNat ak.aa).2)<;>simp;rw[a_ (by simp;omega)];by_cases ha':i<(a'.length:Int);have e:i.toNat<a'.length:=by omega
 rw[fU (d:=ak.aa) e,axl (show b'.length<=i.toNat by omega)];simp only[bp];congr 2;simp;omega;rw[axl (show a'.length<=i.toNat by omega)];simp only[bp];congr 2;by_cases hb':i<(b'.length:Int);have f:i.toNat<b'.length:=by omega
 rw[fU (d:=ak.aa) f];simp;omega;rw[axl (show b'.length<=i.toNat by omega)];simp;omega;exact⟨rfl,rfl,by simp,by simp,by simp⟩;simp only;omega
def nD{a b:List ag}(c:a.length<=1048576):jr k (a,b,())=some (bp a b,()):=by
 rw[<-mK hk c];simp only[iW,jr,fH,axi]
theorem Lf{l:List ByteArray}{s:ByteArray}(hl:l.length<=1048576):nx k (l,s,())=some (hasB l s,()):=by
 simp only[nx];rw[show((l,s,(0:Int),()):List ByteArray×ByteArray×Int×Unit)=(fun i:Nat=>(l,s,(i:Int),())) 0 from rfl];rw[N3 (fun i:Nat=>(l,s,(i:Int),())) (fun i=>(l.getD i ByteArray.empty).toList==s.toList) l.length (e:=some (false,())) (yes:=some (true,())) ?_ ?_ k 0 (by omega)];unfold hasB;cases bA 0 l.length (fun i=> !((l.getD i ByteArray.empty).toList==s.toList))<;>simp;intro G i a;simp only[axk];rw[aK,c_ a,an rfl,an (aC a),aX (by omega)];intro G i a;simp only;rw[aK,decide_eq_false (by omega),a_ (by simp)]
theorem K6{l:List ByteArray}{s:ByteArray}(hl:l.length<=1048576):lX k (l,s,())=some (hasB l s,()):=by
 simp only[lX];rw[show((s,l,(l.length:Int),(0:Int),()):ByteArray×List ByteArray×Int×Int×Unit)=(fun i:Nat=>(s,l,(l.length:Int),(i:Int),())) 0 from rfl];rw[N3 (fun i:Nat=>(s,l,(l.length:Int),(i:Int),())) (fun i=>(l.getD i ByteArray.empty).toList==s.toList) l.length (e:=some (false,())) (yes:=some (true,())) ?_ ?_ k 0 (by omega)];unfold hasB;cases bA 0 l.length (fun i=> !((l.getD i ByteArray.empty).toList==s.toList))<;>simp;intro G i a;simp only[axk];rw[aK,c_ a,an rfl,an (aC a),aX (by omega)];intro G i a;simp only;rw[aK,decide_eq_false (by omega),a_ (by simp)]
def wI{a:af}{by_:List ByteArray}(f:ai ae a<=1048576)(h:by_.length<=1048576):gN k (a,by_,())=some (keyOf a by_,()):=by
 have hl:=az (e:=ak) (l:=a.1);rw[bj hk]at f;simp only[gN,oJ]
 rw[pZ (g:=fun(s:List ag×List ByteArray×List ag×Int×Unit)=>some (s.2.2.1++(a.1.drop s.2.2.2.1.toNat).filter (fun x=>hasB by_ x.1),())) (m:=fun(s:List ag×List ByteArray×List ag×Int×Unit)=>a.1.length-s.2.2.2.1.toNat)
  (I:=fun(s:List ag×List ByteArray×List ag×Int×Unit)=>s.1=a.1/\s.2.1=by_/\0<=s.2.2.2.1/\s.2.2.2.1<=(a.1.length:Int)/\s.2.2.1.length<=s.2.2.2.1.toNat)]
 simp[keyOf];rintro G ⟨l',y',o,i,u⟩ ⟨e1,e2,hi0,hi1,ho⟩ hG;change l'=_ at e1;change y'=by_ at e2;subst e1 e2;simp only at hi0 hi1 ho hG|-;by_cases b:i<(a.1.length:Int);have j:i.toNat<a.1.length:=by omega
 rw[an (by simpa using b),an (by simpa using⟨hi0,b⟩),Lf hk h,axi,fU (d:=ak.aa) j,wrap64 (by omega) (by omega)];cases c:hasB y' (a.1.getD i.toNat ak.aa).1 with
 |true=>
  rw[an rfl,an (by simpa using⟨hi0,b⟩),an (by simp;omega)];rw[hG (a.1,y',o++[a.1.getD i.toNat ak.aa],i+1,()) ⟨rfl,rfl,by simp only;omega,by simp only;omega,by simp;omega⟩ (by simp only;omega)];simp only;rw[show(i+1).toNat=i.toNat+1 by omega,axs (by simpa using c)];simp
 |false=>
  rw[a_ (by simp)];rw[hG (a.1,y',o,i+1,()) ⟨rfl,rfl,by simp only;omega,by simp only;omega,by simp only;omega⟩ (by simp only;omega)];simp only;rw[show(i+1).toNat=i.toNat+1 by omega,axt (by rw[c];simp)]
 rw[a_ (by simpa using b),axl (by omega)];simp;exact⟨rfl,rfl,by simp,by simp,by simp⟩;simp only;omega
def yY{a:af}{by_:List ByteArray}(f:ai ae a<=1048576)(h:by_.length<=1048576):mc k (a,by_,())=some (keyOf a by_,()):=by
 have hl:=az (e:=ak) (l:=a.1);rw[bj hk]at f;simp only[mc,oC]
 rw[pZ (g:=fun(s:List ByteArray×List ag×List ag×Int×Int×Unit)=>some (s.2.1++(a.1.drop s.2.2.2.2.1.toNat).filter (fun x=>hasB by_ x.1),())) (m:=fun(s:List ByteArray×List ag×List ag×Int×Int×Unit)=>a.1.length-s.2.2.2.2.1.toNat)
  (I:=fun(s:List ByteArray×List ag×List ag×Int×Int×Unit)=>s.1=by_/\s.2.2.1=a.1/\s.2.2.2.1=(a.1.length:Int)/\0<=s.2.2.2.2.1/\s.2.2.2.2.1<=(a.1.length:Int)/\s.2.1.length<=s.2.2.2.2.1.toNat)]
 simp[keyOf];rintro G ⟨y',o,l',n,i,u⟩ ⟨e2,e1,e3,hi0,hi1,ho⟩ hG;change l'=_ at e1;change y'=by_ at e2;change n=_ at e3;subst e1 e2 e3;simp only at hi0 hi1 ho hG|-;by_cases b:i<(a.1.length:Int);have j:i.toNat<a.1.length:=by omega
 rw[an (by simpa using b),an (by simpa using⟨hi0,b⟩),K6 hk h,axi,fU (d:=ak.aa) j,wrap64 (by omega) (by omega)];cases c:hasB y' (a.1.getD i.toNat ak.aa).1 with
 |true=>
  rw[an rfl,an (by simp;omega)];rw[hG (y',o++[a.1.getD i.toNat ak.aa],a.1,_,i+1,()) ⟨rfl,rfl,rfl,by simp only;omega,by simp only;omega,by simp;omega⟩ (by simp only;omega)];simp only;rw[show(i+1).toNat=i.toNat+1 by omega,axs (by simpa using c)];simp
 |false=>
  rw[a_ (by simp)];rw[hG (y',o,a.1,_,i+1,()) ⟨rfl,rfl,rfl,by simp only;omega,by simp only;omega,by simp only;omega⟩ (by simp only;omega)];simp only;rw[show(i+1).toNat=i.toNat+1 by omega,axt (by rw[c];simp)]
 rw[a_ (by simpa using b),axl (by omega)];simp;exact⟨rfl,rfl,rfl,by simp,by simp,by simp⟩;simp only;omega
theorem Pp(a:af)(by_:List ByteArray):(keyOf a by_).length<=a.1.length:=List.length_filter_le ..
def jO{l:List af}{i:Nat}(hs:ai (.sl ae) l<=1048576)(hi:i<l.length):ai ae (l.getD i ae.aa)<=1048576/\(l.getD i ae.aa).1.length<=1048576:=by
 have a:ai ae (l.getD i ae.aa)<=1048576:=axm (cx (e:=ae) (cC hi)) hs;refine⟨a,?_⟩;rw[bj hk]at a;have:=az (e:=ak) (l:=(l.getD i ae.aa).1);omega
def Dm{l:List af}{key:List ag}{by_:List ByteArray}(hs:ai (.sl ae) l<=1048576)(j:by_.length<=1048576):lJ k (l,key,by_,())=some (qh l key by_,()):=by
 have hl:=az (e:=ae) (l:=l);simp only[lJ];rw[show((l,key,by_,l,(l.length:Int),(0:Int),()):List af×List ag×List ByteArray×List af×Int×Int×Unit)=(fun i:Nat=>(l,key,by_,l,(l.length:Int),(i:Int),())) 0 from rfl];rw[dt (fun i:Nat=>(l,key,by_,l,(l.length:Int),(i:Int),())) (fun i=>bh (l.getD i ae.aa)&&(decide (keyOf (l.getD i ae.aa) by_=key)&&yd l i)) l.length (e:=some (true,())) (no:=some (false,())) ?_ ?_ k 0 (by omega)];unfold qh;cases bA 0 l.length (fun i=>bh (l.getD i ae.aa)&&(decide (keyOf (l.getD i ae.aa) by_=key)&&yd l i))<;>simp;intro G i b;simp only[axk];obtain⟨h,hml⟩:=jO hk hs b;have hkl:=Pp hk (l.getD i ae.aa) by_;rw[aK,c_ b,an rfl,an (aC b),iS hk h,axi,yY hk h j,aX (by omega),D8 (by omega)];simp only[cD,axi];rw[show((i:Int)-1).toNat=i-1 by omega];cases bh (l.getD i ae.aa)with
 |false=>simp
 |true=>
  simp only[Bool.not_true,beq_self_eq_true,if_true];rw[dV hk (by omega)];simp only[axi];by_cases c:keyOf (l.getD i ae.aa) by_=key;by_cases g:i=0;subst g;simp[c,yd,-axj];have d:(0:Int)<(i:Int):=by omega
  have f:0<i:=by omega
  obtain⟨hm1,a⟩:=jO hk hs (show i-1<l.length by omega);rw[an (by simp;omega),mK hk a];unfold yd;cases bp (l.getD (i-1) ae.aa).1 (l.getD i ae.aa).1<;>simp[c,g,d,f,-axj];simp[c,-axj]
 intro G i b;simp only;rw[aK,decide_eq_false (by omega),a_ (by simp)]
def De{g:aw}{by_:List ByteArray}(hs:ai al g<=1048576)(a:by_.length<=1048576):lT k (g,by_,())=some (eB g by_,()):=by
 rw[eK hk]at hs;simp only[lT,fw hk,mG hk (show ai (.sl ak) g.2.1<=1048576 by omega),Dm hk (show ai (.sl ae) g.2.2.2.2<=1048576 by omega) a,cD,axi,eB];have b:decide (g.1<(0:Int))= !decide (0<=g.1):=by rw[axn];simp
 have c:decide ((g.2.2.2.2.length:Int)>(0:Int))=decide (0<g.2.2.2.2.length):=by simp
 have d:((g.2.2.2.1:Int) != (-1:Int))= !decide (g.2.2.2.1= -1):=by rw[axn];simp
 rw[b,c,d];generalize decide (0<=g.1)=b1;generalize cZ g.2.1=b2;generalize aZ g.2.2.1 0 99999=b3;generalize decide (g.2.2.2.1= -1)=b4;generalize aZ g.2.2.2.1 g.2.2.1 99999=b5;generalize decide (0<g.2.2.2.2.length)=b6;generalize qh g.2.2.2.2 g.2.1 by_=b7;cases b1<;>cases b2<;>cases b3<;>cases b4<;>cases b5<;>cases b6<;>cases b7<;>simp
def qK{l:List aw}{i:Nat}(hs:ai (.sl al) l<=1048576)(hi:i<l.length):ai al (l.getD i al.aa)<=1048576/\(l.getD i al.aa).2.1.length<=1048576:=by
 have a:ai al (l.getD i al.aa)<=1048576:=axm (cx (e:=al) (cC hi)) hs;refine⟨a,?_⟩;rw[eK hk]at a;have:=az (e:=ak) (l:=(l.getD i al.aa).2.1);omega
def CR{l:List aw}{key:List ag}(hs:ai (.sl al) l<=1048576):
 ∃r:Int,gi k (l,key,())=some (r,())/\(∀i:Nat,i<l.length->(l.getD i al.aa).2.1=key->(r=(i:Int)↔∀j,j<i->(l.getD j al.aa).2.1≠key)):=by
 have hl:=az (e:=al) (l:=l);simp only[gi]
 have main:∀(m a:Nat),l.length-a<m->(∀j,j<a->(l.getD j al.aa).2.1≠key)->∃r:Int,aM m (fun q (b:List ag×List aw×Int×Int×Unit)=>
  if(decide ((b.2.2.2.1:Int)<b.2.2.1))=true then
   if(decide (0<=b.2.2.2.1/\b.2.2.2.1<((axv b.2.1:Nat):Int)))=true then
    Option.bind (cH k (((List.getD b.2.1 (Int.toNat b.2.2.2.1) al.aa).2).1,b.1,())) fun(t:Bool×Unit)=>
    if t.1=true then
     some (b.2.2.2.1,())
    else
     q (b.1,b.2.1,b.2.2.1,IntKind.i64.wrap (b.2.2.2.1+(1:Int)),())
   else
    none
  else
   some ((-1:Int),())) (key,l,(l.length:Int),(a:Int),())=some (r,())/\(∀i:Nat,i<l.length->(l.getD i al.aa).2.1=key->(r=(i:Int)↔∀j,j<i->(l.getD j al.aa).2.1≠key)):=by
  intro m
  induction m with
  |zero=>intro a h;omega
  |succ m u=>
   intro a h c;simp only[aM,axk];by_cases n:a<l.length;rw[aK,c_ n,an rfl,an (aC n),dV hk (qK hk hs n).2,axi];by_cases o:(l.getD a al.aa).2.1=key;rw[an (by simpa using o)];refine⟨_,rfl,fun i s f=> ?_⟩;constructor;intro e j p;exact c j (by omega);intro g;rcases Nat.lt_trichotomy a i with d|d|d;exact absurd o (g a d);rw[d];exact absurd f (c i d);rw[a_ (by simpa using o),aX (by omega)];refine u (a+1) (by omega) (fun j p=> ?_);rcases Nat.lt_or_ge j a with d|d;exact c j d;rw[show j=a by omega];exact o;rw[aK,decide_eq_false n,a_ (by simp)];refine⟨-1,rfl,fun i s f=> ?_⟩;exact absurd f (c i (by omega))
 exact main k 0 (by omega) (fun j p=>by omega)
theorem MT(l:List aw)(i:Nat):pn l i=true↔∀j,j<i->(l.getD j al.aa).2.1≠(l.getD i al.aa).2.1:=by
 unfold pn;rw[bM];simp only[Bool.not_eq_true',d_];exact⟨fun h j a=>h j (by omega) a,fun h j _ a=>h j a⟩
def As{l:List aw}{by_:List ByteArray}(hs:ai (.sl al) l<=1048576)(o:by_.length<=1048576):kJ k (l,by_,())=some (dQ l by_,()):=by
 have hl:=az (e:=al) (l:=l);simp only[kJ];rw[show((l,by_,l,(l.length:Int),(0:Int),()):List aw×List ByteArray×List aw×Int×Int×Unit)=(fun i:Nat=>(l,by_,l,(l.length:Int),(i:Int),())) 0 from rfl];rw[dt (fun i:Nat=>(l,by_,l,(l.length:Int),(i:Int),())) (fun i=>decide (i<12)&&(eB (l.getD i al.aa) by_&&(JK l i&&pn l i))) l.length (e:=some (true,())) (no:=some (false,())) ?_ ?_ k 0 (by omega)];unfold dQ;rw[jI,PZ];cases bA 0 l.length (fun i=>eB (l.getD i al.aa) by_&&(JK l i&&pn l i))<;>by_cases h:l.length<=12<;>simp[h];intro G i g;simp only[axk];obtain⟨p,hml⟩:=qK hk hs g;obtain⟨r,q,a⟩:=CR hk (key:=(l.getD i al.aa).2.1) hs;have a:=a i g rfl;rw[<-MT hk]at a;rw[aK,c_ g,an rfl,an (aC g),De hk p o,aX (by omega),D8 (by omega)];simp only[cD,axi];rw[show((i:Int)-1).toNat=i-1 by omega,q,an (by simp;omega)];unfold JK;by_cases mS:i<12;have b:¬(12:Int)<=(i:Int):=by omega
 cases eB (l.getD i al.aa) by_ with
 |false=>simp[mS,b,-axj]
 |true=>
  by_cases m:i=0;subst m;cases j:pn l 0 with
  |true=>rw[j]at a;have:=a.2 rfl;simp[this,-axj]
  |false=>rw[j]at a;have:¬r=0:=fun e=>by have:=a.1 e;cases this
          simp[this,-axj]
  have d:(0:Int)<(i:Int):=by omega
  have f:0<i:=by omega
  by_cases n:(l.getD (i-1) al.aa).1<(l.getD i al.aa).1;have c:¬(l.getD i al.aa).1<=(l.getD (i-1) al.aa).1:=by omega
  cases j:pn l i with
  |true=>rw[j]at a;have:=a.2 rfl;simp[this,mS,b,m,d,f,n,c,-axj]
  |false=>rw[j]at a;have:¬r=(i:Int):=fun e=>by have:=a.1 e;cases this
          simp[this,mS,b,m,d,f,n,c,-axj]
  have c:(l.getD i al.aa).1<=(l.getD (i-1) al.aa).1:=by omega
  simp[mS,b,m,d,f,n,c,-axj]
 have b:(12:Int)<=(i:Int):=by omega
 simp[mS,b,-axj];intro G i g;simp only;rw[aK,decide_eq_false (by omega),a_ (by simp)]
end
def tC(l:List bo):Bool:=bA 0 l.length (fun i=>fp (l.getD i aW.aa))
section
variable{k:Nat}(hk:9223372036854775808<=k)
include hk
def Jc{c:aY}{a:af}(hs:ai ae a<=1048576):oT k (c,a,())=some (cm a,()):=by
 simp only[oT];rw[C9 hk hs];simp only[axi,cm,yw]
def xU{c:aY}{a:af}(hs:ai ae a<=1048576):mj k (c,a,())=some (cm a,()):=by
 simp only[mj];rw[iS hk hs];simp only[axi,cm,yw]
def Hg{s:bo}(hs:ai aW s<=1048576):nL k (s,())=some (fp s,()):=by
 rw[nj hk]at hs;have hl:=az (e:=ae) (l:=s.1);simp only[nL];rw[jP hk hs];unfold fp;cases s.2 with
 |true=>
  simp only[if_true];congr 2;by_cases a:s.1=[]
  rw[a];rfl;have h1:¬s.1.length=0:=fun e=>a (List.eq_nil_of_length_eq_zero e);simp[a]
 |false=>
  by_cases h:s.1.length<=3;have b:(s.1.length:Int)<=3:=by omega
  simp[h,b];have b:¬(s.1.length:Int)<=3:=by omega
  simp[h,b]
theorem Ng{l:List bo}{i:Nat}(hs:ai (.sl aW) l<=1048576)(hi:i<l.length):ai aW (l.getD i aW.aa)<=1048576:=
 axm (cx (e:=aW) (cC hi)) hs
def zj{l:List bo}{c:aY}(hs:ai (.sl aW) l<=1048576):j7 k (l,c,())=some (tC l&&decide ((l.length:Int)=c.2.2.1),()):=by
 have hl:=az (e:=aW) (l:=l);simp only[j7,aN];rw[show((l,c,l,(l.length:Int),(0:Int),()):List bo×aY×List bo×Int×Int×Unit)=(fun i:Nat=>(l,c,l,(l.length:Int),(i:Int),())) 0 from rfl];rw[dt (fun i:Nat=>(l,c,l,(l.length:Int),(i:Int),())) (fun i=>fp (l.getD i aW.aa)) l.length (e:=some (decide ((l.length:Int)=c.2.2.1),())) (no:=some (false,())) ?_ ?_ k 0 (by omega)];unfold tC;cases bA 0 l.length (fun i=>fp (l.getD i aW.aa))<;>simp;intro G i a;simp only[axk];rw[aK,c_ a,an rfl,an (aC a),Hg hk (Ng hk hs a),axi,aX (by omega)];cases fp (l.getD i aW.aa)<;>simp;intro G i a;simp only;rw[aK,decide_eq_false (by omega),a_ (by simp)];congr 2
end
end Vg.Tryz
