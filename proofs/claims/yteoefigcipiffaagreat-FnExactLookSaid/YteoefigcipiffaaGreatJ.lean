/- Texts of this law, joined. -/
import Derived.Shelf.Strings.OnBuilder
import Derived.Test.YteoefigcipiffaaGreatF
import Derived.Test.YteoefigcipiffaaGreatProg
import Derived.Test.YteoefigcipiffaaGreatVc
import Derived.Deep.QuietTactic
import Derived.WalkKit
import Derived.Shelf.GgSortFunc.Lays
import Derived.Shelf.GgSortMore.Bridge
import Derived.Ground.GgtProg
import Derived.Test.YteoefigcipiffaaGreatVd
set_option linter.unusedSimpArgs false
set_option linter.unusedVariables false
namespace Go.Proofs
open Go.Shelf
def Tryz.Cq:Go.Shelf.Ren:=⟨fun|156=>391|165=>396|166=>397|169=>398|240=>400|241=>401|276=>402|277=>403|n=>n,fun|31=>22|9=>9|3=>3|4=>4|0=>0|20=>20|72=>322|76=>325|70=>320|37=>204|75=>324|127=>328|164=>298|5=>5|80=>327|n=>n,fun|n=>n⟩
theorem Tryz.OY:Go.Proofs.Lays.n156 Tryz.prog Tryz.Cq:={
 mixed:=by kernel_rfl
 f156:=Tryz.func391.trans (congrArg some (by kernel_rfl))
 f165:=Tryz.func396.trans (congrArg some (by kernel_rfl))
 f166:=Tryz.func397.trans (congrArg some (by kernel_rfl))
 f169:=Tryz.func398.trans (congrArg some (by kernel_rfl))
 f240:=Tryz.func400.trans (congrArg some (by kernel_rfl))
 f241:=Tryz.func401.trans (congrArg some (by kernel_rfl))
 f276:=Tryz.func402.trans (congrArg some (by kernel_rfl))
 f277:=Tryz.func403.trans (congrArg some (by kernel_rfl))
 t0:=Tryz.underlying0
 a0:=Tryz.isAgg0
 z0:=Tryz.sizeOf0
 v0:=Tryz.zeroValue0
 t3:=Tryz.underlying3
 a3:=Tryz.isAgg3
 z3:=Tryz.sizeOf3
 v3:=Tryz.zeroValue3
 t4:=Tryz.underlying4
 a4:=Tryz.isAgg4
 z4:=Tryz.sizeOf4
 v4:=Tryz.zeroValue4
 t9:=Tryz.underlying9
 a9:=Tryz.isAgg9
 z9:=Tryz.sizeOf9
 v9:=Tryz.zeroValue9
 t20:=Tryz.underlying20
 a20:=Tryz.isAgg20
 z20:=Tryz.sizeOf20
 v20:=Tryz.zeroValue20
 t31:=Tryz.underlying22
 a31:=Tryz.isAgg22
 z31:=Tryz.sizeOf22
 v31:=Tryz.zeroValue22
 t37:=Tryz.underlying204
 a37:=Tryz.isAgg204
 z37:=Tryz.sizeOf204
 v37:=Tryz.zeroValue204
 t70:=Tryz.underlying320
 a70:=Tryz.isAgg320
 z70:=Tryz.sizeOf320
 v70:=Tryz.zeroValue320
 t72:=Tryz.underlying322
 a72:=Tryz.isAgg322
 z72:=Tryz.sizeOf322
 v72:=Tryz.zeroValue322
 t75:=Tryz.underlying324
 a75:=Tryz.isAgg324
 z75:=Tryz.sizeOf324
 v75:=Tryz.zeroValue324
 t76:=Tryz.underlying325
 a76:=Tryz.isAgg325
 z76:=Tryz.sizeOf325
 v76:=Tryz.zeroValue325
 t127:=Tryz.underlying328
 a127:=Tryz.isAgg328
 z127:=Tryz.sizeOf328
 v127:=Tryz.zeroValue328
 t164:=Tryz.underlying298
 a164:=Tryz.isAgg298
 z164:=Tryz.sizeOf298
 v164:=Tryz.zeroValue298}
theorem Tryz.qW:Builder.Extra Tryz.prog Tryz.Cq:={
 sizeBuilder:=by kernel_rfl
 liesBuilder:=by kernel_rfl
 t5:=Tryz.underlying5
 a5:=Tryz.isAgg5
 z5:=Tryz.sizeOf5
 v5:=Tryz.zeroValue5
 infoByte:=by kernel_rfl
 cellsByte:=by kernel_rfl
 sizeByte:=by kernel_rfl
 neB5:=by decide}
open Go.RowKit in
theorem Tryz.strings_Join_none (a:Option Addr) (c:Nat) (sep:ByteArray) (w:World):
 Calls Tryz.prog 391 #[.slice a 0 c,.string sep] w fun e w'=>e= .returned (.string ⟨#[]⟩)∧w'=w:=Any.strings_Join_none Tryz.OY Tryz.qW a c sep w
open Go.RowKit in
theorem Tryz.strings_Join (bk o c:Nat) (xs:List ByteArray) (sep:ByteArray) (w:World) (hcells:∀(j:Nat) x,xs[j]?=some x→w.cell? ⟨bk,o+j,none⟩=some (.string x)) (hbk:bk<w.heap.size) (hN:xs.length≤140737488355328) (hcap:xs.length≤c) (hlen:(Lib.join (xs.map (·.data.toList)) sep.data.toList).length≤140737488355328):
 Calls Tryz.prog 391 #[.slice (some ⟨bk,o,none⟩) xs.length c,.string sep] w fun e w'=>e= .returned (.string ⟨(Lib.join (xs.map (·.data.toList)) sep.data.toList).toArray⟩)∧Below w.heap.size w w':=Any.strings_Join Tryz.OY Tryz.qW bk o c xs sep w hcells hbk hN hcap hlen
def Tryz.Nn:Go.Shelf.Ren:=⟨fun|26=>388|n=>n,fun|44=>306|3=>3|0=>0|4=>4|26=>281|37=>217|n=>n,fun|n=>n⟩
theorem Tryz.SJ:Go.Proofs.LaysGg.n26 Tryz.prog Tryz.Nn:={
 mixed:=by kernel_rfl
 f26:=Tryz.func388.trans (congrArg some (by kernel_rfl))
 t0:=Tryz.underlying0
 a0:=Tryz.isAgg0
 z0:=Tryz.sizeOf0
 v0:=Tryz.zeroValue0
 i0:=by kernel_rfl
 t3:=Tryz.underlying3
 a3:=Tryz.isAgg3
 z3:=Tryz.sizeOf3
 v3:=Tryz.zeroValue3
 i3:=by kernel_rfl
 t4:=Tryz.underlying4
 a4:=Tryz.isAgg4
 z4:=Tryz.sizeOf4
 v4:=Tryz.zeroValue4
 i4:=by kernel_rfl
 t26:=Tryz.underlying281
 a26:=Tryz.isAgg281
 z26:=Tryz.sizeOf281
 v26:=Tryz.zeroValue281
 i26:=by kernel_rfl
 t37:=Tryz.underlying217
 a37:=Tryz.isAgg217
 z37:=Tryz.sizeOf217
 v37:=Tryz.zeroValue217
 i37:=by kernel_rfl
 t44:=Tryz.underlying306
 a44:=Tryz.isAgg306
 z44:=Tryz.sizeOf306
 v44:=Tryz.zeroValue306
 i44:=by kernel_rfl}
open Go.RowKit Go.Lib Go.Sort in
open Go.RowKit Go.Lib Go.Sort in
open Go.RowKit Go.Lib Go.Sort in
open Go.RowKit Go.Lib Go.Sort in
open Go.RowKit Go.Lib Go.Sort in
open Go.RowKit Go.Lib Go.Sort in
open Go.RowKit Go.Lib Go.Sort in
open Go.RowKit Go.Lib Go.Sort in
open Go.RowKit Go.Lib Go.Sort in
theorem Tryz.insertionSort_func_cells_w {α:Type} [Inhabited α] (enc:α→List Value) (k:Nat) (hk:∀x,(enc x).length=k) (lt:α→α→Bool) (g:Nat) (lb:Array Value) (sf:Nat) (sb:Array Value) (blk off a b:Nat) (d:Array α) (w:World) (eg:∀args w,(callFunc g args).run Tryz.prog w= .ok (.enter g args) w) (hless:LessReadsK Tryz.prog g lb enc k lt blk off d.size w) (hswap:SwapSwapsK Tryz.prog sf sb enc k blk off d.size) (hH:HoldsK enc k w blk off d) (hblk:blk<w.heap.size) (hab:a≤b) (hb:b≤d.size) (hsz:d.size<4611686018427387904):
 Calls Tryz.prog 388 #[.agg #[.func (.func g) #[] lb,.func (.func sf) #[] sb],.int .i64 a,.int .i64 b] w fun e w'=>e= .returned (.tuple #[])∧∃n os,w'=sortWorldK enc k w blk off n (Sort.insertionSort lt d a b) os:=Any.insertionSort_func_cells_w Tryz.SJ enc k hk lt g lb sf sb blk off a b d w eg hless hswap hH hblk hab hb hsz
end Go.Proofs
namespace Vg.Tryz
open Go Vg Go.Proofs
def uZ (k:Nat):aF:=⟨[.val (.sl .str) .shr,.val .str .leaf],[.val .str .leaf],pq k,[]⟩
set_option maxRecDepth 1000000 in
theorem Jf (k:Nat):oQ Tryz.prog 391 (uZ k):=Qd Tryz.func391 (by kernel_rfl) (by kernel_rfl) Tryz.strings_Join_none Tryz.strings_Join
end Vg.Tryz
namespace Go.Proofs
open Go.RowKit
def O7:Value→Int| .int _ q=>q|_=>0
set_option maxHeartbeats 4000000 in
set_option maxRecDepth 100000 in
theorem Tryz.L5 (pa pb:Option Addr) (ca cb:Nat) (a b:List (ByteArray×ByteArray)) (W:World) (la:a.length<4611686018427387904) (lb:b.length<4611686018427387904)
 (ha:∀i,i<a.length→∃bk o,pa=some ⟨bk,o,none⟩∧W.cell? ⟨bk,o+i*2,none⟩=some (.string (a.getD i (ByteArray.empty,ByteArray.empty)).1)∧W.cell? ⟨bk,o+i*2+1,none⟩=some (.string (a.getD i (ByteArray.empty,ByteArray.empty)).2))
 (hb:∀i,i<b.length→∃bk o,pb=some ⟨bk,o,none⟩∧W.cell? ⟨bk,o+i*2,none⟩=some (.string (b.getD i (ByteArray.empty,ByteArray.empty)).1)∧W.cell? ⟨bk,o+i*2+1,none⟩=some (.string (b.getD i (ByteArray.empty,ByteArray.empty)).2)):
 Calls Tryz.prog 341 #[.slice pa a.length ca,.slice pb b.length cb] W fun e w'=>e= .returned (.bool (Vg.bU a b))∧∃q,w'=W.drewN q:=by
 go_enter Tryz.func341,Tryz.ntmps341
 go_wp2
 go_loopw [5] (fun vi wr=>∃(t q:Nat),vi= .int .i64 (t:Int)∧t≤a.length∧t≤b.length∧wr=W.drewN q∧Vg.bU a b=Vg.bU (a.drop t) (b.drop t)) (fun vi _=>a.length+1-(O7 vi).toNat)
 case atStart=>exact⟨0,0,rfl,by omega,by omega,rfl,rfl⟩
 case round=>
  obtain⟨t,q,rfl,ht1,ht2,hw,hR⟩:=hrel
  by_cases hin:t<a.length∧t<b.length
  ·obtain⟨hi1,hi2⟩:=hin
   obtain⟨ba,oa,ea,a1,a2⟩:=ha t hi1
   obtain⟨bb,ob,eb,b1,b2⟩:=hb t hi2
   have c1:wr.cell? ⟨ba,oa+t*2,none⟩=some (.string (a.getD t (ByteArray.empty,ByteArray.empty)).1):=by rw[hw];exact a1
   have c2:wr.cell? ⟨ba,oa+t*2+1,none⟩=some (.string (a.getD t (ByteArray.empty,ByteArray.empty)).2):=by rw[hw];exact a2
   have c3:wr.cell? ⟨bb,ob+t*2,none⟩=some (.string (b.getD t (ByteArray.empty,ByteArray.empty)).1):=by rw[hw];exact b1
   have c4:wr.cell? ⟨bb,ob+t*2+1,none⟩=some (.string (b.getD t (ByteArray.empty,ByteArray.empty)).2):=by rw[hw];exact b2
   have hs:Vg.bU (a.drop t) (b.drop t)=if(a.getD t (ByteArray.empty,ByteArray.empty)).1.toList==(b.getD t (ByteArray.empty,ByteArray.empty)).1.toList then(if(a.getD t (ByteArray.empty,ByteArray.empty)).2.toList==(b.getD t (ByteArray.empty,ByteArray.empty)).2.toList then Vg.bU (a.drop (t+1)) (b.drop (t+1))else Vg.lC (a.getD t (ByteArray.empty,ByteArray.empty)).2 (b.getD t (ByteArray.empty,ByteArray.empty)).2)else Vg.lC (a.getD t (ByteArray.empty,ByteArray.empty)).1 (b.getD t (ByteArray.empty,ByteArray.empty)).1:=by
    rw[List.drop_eq_getElem_cons hi1,List.drop_eq_getElem_cons hi2]
    simp only[Vg.bU,List.getD_eq_getElem?_getD,List.getElem?_eq_getElem hi1,List.getElem?_eq_getElem hi2,Option.getD_some]
   generalize (a.getD t (ByteArray.empty,ByteArray.empty)).1=x1 at c1 hs
   generalize (a.getD t (ByteArray.empty,ByteArray.empty)).2=x2 at c2 hs
   generalize (b.getD t (ByteArray.empty,ByteArray.empty)).1=y1 at c3 hs
   generalize (b.getD t (ByteArray.empty,ByteArray.empty)).2=y2 at c4 hs
   subst ea eb
   have HW:Hid (wr=W.drewN q):=hw
   have HR:Hid (Vg.bU a b=Vg.bU (a.drop t) (b.drop t)):=hR
   have HS:Hid (_=_):=hs
   clear hw hR hs ha hb a1 a2 b1 b2
   go_wp2
   go_quiet (fail)
   go_wp2
   ·have hne:(!x1.toList==y1.toList)=true:=by assumption
    go_quiet (fail)
    go_wp2
    go_ret
    have hv:Vg.bU a b=Op.bytesLess x1.toList y1.toList:=by
     rw[HR.out,HS.out,if_neg (by simpa using hne)];rfl
    refine⟨?_,_,by rw[HW.out,World.drewN_drewN,World.drewN_drewN]⟩
    rw[hv];rfl
   ·have hne:(!x1.toList==y1.toList)=false:=by assumption
    go_quiet (fail)
    go_wp2
    ·have hne2:(!x2.toList==y2.toList)=true:=by assumption
     go_quiet (fail)
     go_wp2
     go_ret
     have hv:Vg.bU a b=Op.bytesLess x2.toList y2.toList:=by
      rw[HR.out,HS.out,if_pos (by simpa using hne),if_neg (by simpa using hne2)];rfl
     refine⟨?_,_,by rw[HW.out,World.drewN_drewN,World.drewN_drewN,World.drewN_drewN]⟩
     rw[hv];rfl
    ·have hne2:(!x2.toList==y2.toList)=false:=by assumption
     refine⟨⟨t+1,_,by congr 1,by omega,by omega,by rw[HW.out,World.drewN_drewN],?_⟩,?_⟩
     ·rw[HR.out,HS.out,if_pos (by simpa using hne),if_pos (by simpa using hne2)]
     ·simp[O7];omega
  ·have hv:Vg.bU a b=decide (a.length<b.length):=by
    rw[hR]
    by_cases h1:t<a.length
    ·have h2:t=b.length:=by omega
     subst h2
     rw[List.drop_length,List.drop_eq_getElem_cons h1]
     simp only[Vg.bU]
     rw[decide_eq_false (by omega)]
    ·have h2:t=a.length:=by omega
     subst h2
     rw[List.drop_length]
     cases hd:b.drop a.length with
     |nil=>
      have:=congrArg List.length hd
      simp only[List.length_drop,List.length_nil]at this
      simp only[Vg.bU,List.isEmpty_nil,Bool.not_true]
      rw[decide_eq_false (by omega)]
     |cons z zs=>
      have:=congrArg List.length hd
      simp only[List.length_drop,List.length_cons]at this
      simp only[Vg.bU,List.isEmpty_cons,Bool.not_false]
      rw[decide_eq_true (by omega)]
   have HW:Hid (wr=W.drewN q):=hw
   have HV:Hid (_=_):=hv
   clear hw hR hv ha hb
   by_cases h1:t<a.length
   ·have h2:¬t<b.length:=fun h=>hin ⟨h1,h⟩
    clear hin
    go_wp2
    go_ret
    refine⟨?_,_,HW.out⟩
    rw[HV.out];rfl
   ·clear hin
    go_wp2
    go_ret
    refine⟨?_,_,HW.out⟩
    rw[HV.out];rfl
set_option maxHeartbeats 4000000 in
set_option maxRecDepth 100000 in
theorem Tryz.K9 (blk off c Bs n:Nat) (W:World) (i j:Nat) (hi:i<n) (hj:j<n) (hn:n<4611686018427387904) (va vb:Value) (r:Bool)
 (hs:W.cell? ⟨Bs,0,none⟩=some (.slice (some ⟨blk,off,none⟩) n c)) (hva:W.cell? ⟨blk,off+i*4,none⟩=some va) (hvb:W.cell? ⟨blk,off+j*4,none⟩=some vb)
 (hc:∀q,Calls Tryz.prog 341 #[va,vb] (W.drewN q) fun e w'=>e= .returned (.bool r)∧∃m,w'=(W.drewN q).drewN m):
 Calls Tryz.prog 340 #[.int .i64 i,.int .i64 j,.pointer (some ⟨Bs,0,none⟩)] W fun e w'=>e= .returned (.bool r)∧∃q,w'=W.drewN q:=by
 have HC:Hid (∀q,Calls Tryz.prog 341 #[va,vb] (W.drewN q) fun e w'=>e= .returned (.bool r)∧∃m,w'=(W.drewN q).drewN m):=hc
 clear hc
 go_enter Tryz.func340,Tryz.ntmps340
 go_wp2
 go_quiet (first|(go_at_call 341;refine Calls.quiet_of (HC.out _)))
 go_wp2
 go_ret
 trace_state
 exact⟨rfl,nq,rfl⟩
end Go.Proofs
namespace Go.Proofs
open Go.Shelf
def Tryz.Tt:Go.Shelf.Ren:=⟨fun|8=>339|13=>365|14=>366|16=>368|15=>367|29=>388|30=>389|42=>393|49=>399|n=>n,fun|20=>20|26=>281|36=>301|0=>0|38=>217|42=>306|3=>3|4=>4|47=>296|17=>17|33=>298|34=>299|89=>342|12=>12|56=>318|82=>336|5=>5|83=>337|84=>338|85=>328|86=>339|87=>340|n=>n,fun|n=>n⟩
theorem Tryz.UR:Go.Proofs.LaysGt.n8 Tryz.prog Tryz.Tt:={
 mixed:=by kernel_rfl
 f8:=Tryz.func339.trans (congrArg some (by kernel_rfl))
 f13:=Tryz.func365.trans (congrArg some (by kernel_rfl))
 f14:=Tryz.func366.trans (congrArg some (by kernel_rfl))
 f15:=Tryz.func367.trans (congrArg some (by kernel_rfl))
 f16:=Tryz.func368.trans (congrArg some (by kernel_rfl))
 f29:=Tryz.func388.trans (congrArg some (by kernel_rfl))
 f30:=Tryz.func389.trans (congrArg some (by kernel_rfl))
 f42:=Tryz.func393.trans (congrArg some (by kernel_rfl))
 f49:=Tryz.func399.trans (congrArg some (by kernel_rfl))
 t0:=Tryz.underlying0
 a0:=Tryz.isAgg0
 z0:=Tryz.sizeOf0
 v0:=Tryz.zeroValue0
 i0:=by kernel_rfl
 t3:=Tryz.underlying3
 a3:=Tryz.isAgg3
 z3:=Tryz.sizeOf3
 v3:=Tryz.zeroValue3
 i3:=by kernel_rfl
 t4:=Tryz.underlying4
 a4:=Tryz.isAgg4
 z4:=Tryz.sizeOf4
 v4:=Tryz.zeroValue4
 i4:=by kernel_rfl
 t5:=Tryz.underlying5
 a5:=Tryz.isAgg5
 z5:=Tryz.sizeOf5
 v5:=Tryz.zeroValue5
 i5:=by kernel_rfl
 t12:=Tryz.underlying12
 a12:=Tryz.isAgg12
 z12:=Tryz.sizeOf12
 v12:=Tryz.zeroValue12
 i12:=by kernel_rfl
 t17:=Tryz.underlying17
 a17:=Tryz.isAgg17
 z17:=Tryz.sizeOf17
 v17:=Tryz.zeroValue17
 i17:=by kernel_rfl
 t20:=Tryz.underlying20
 a20:=Tryz.isAgg20
 z20:=Tryz.sizeOf20
 v20:=Tryz.zeroValue20
 i20:=by kernel_rfl
 t26:=Tryz.underlying281
 a26:=Tryz.isAgg281
 z26:=Tryz.sizeOf281
 v26:=Tryz.zeroValue281
 i26:=by kernel_rfl
 t33:=Tryz.underlying298
 a33:=Tryz.isAgg298
 z33:=Tryz.sizeOf298
 v33:=Tryz.zeroValue298
 i33:=by kernel_rfl
 t34:=Tryz.underlying299
 a34:=Tryz.isAgg299
 z34:=Tryz.sizeOf299
 v34:=Tryz.zeroValue299
 i34:=by kernel_rfl
 t36:=Tryz.underlying301
 a36:=Tryz.isAgg301
 z36:=Tryz.sizeOf301
 v36:=Tryz.zeroValue301
 i36:=by kernel_rfl
 t38:=Tryz.underlying217
 a38:=Tryz.isAgg217
 z38:=Tryz.sizeOf217
 v38:=Tryz.zeroValue217
 i38:=by kernel_rfl
 t42:=Tryz.underlying306
 a42:=Tryz.isAgg306
 z42:=Tryz.sizeOf306
 v42:=Tryz.zeroValue306
 i42:=by kernel_rfl
 t47:=Tryz.underlying296
 a47:=Tryz.isAgg296
 z47:=Tryz.sizeOf296
 v47:=Tryz.zeroValue296
 i47:=by kernel_rfl
 t56:=Tryz.underlying318
 a56:=Tryz.isAgg318
 z56:=Tryz.sizeOf318
 v56:=Tryz.zeroValue318
 i56:=by kernel_rfl
 t82:=Tryz.underlying336
 a82:=Tryz.isAgg336
 z82:=Tryz.sizeOf336
 v82:=Tryz.zeroValue336
 i82:=by kernel_rfl
 t83:=Tryz.underlying337
 a83:=Tryz.isAgg337
 z83:=Tryz.sizeOf337
 v83:=Tryz.zeroValue337
 i83:=by kernel_rfl
 t84:=Tryz.underlying338
 a84:=Tryz.isAgg338
 z84:=Tryz.sizeOf338
 v84:=Tryz.zeroValue338
 i84:=by kernel_rfl
 t85:=Tryz.underlying328
 a85:=Tryz.isAgg328
 z85:=Tryz.sizeOf328
 v85:=Tryz.zeroValue328
 i85:=by kernel_rfl
 t86:=Tryz.underlying339
 a86:=Tryz.isAgg339
 z86:=Tryz.sizeOf339
 v86:=Tryz.zeroValue339
 i86:=by kernel_rfl
 t87:=Tryz.underlying340
 a87:=Tryz.isAgg340
 z87:=Tryz.sizeOf340
 v87:=Tryz.zeroValue340
 i87:=by kernel_rfl
 t89:=Tryz.underlying342
 a89:=Tryz.isAgg342
 z89:=Tryz.sizeOf342
 v89:=Tryz.zeroValue342
 i89:=by kernel_rfl}
end Go.Proofs
namespace Go.Proofs
open Go.Shelf Go.RowKit Go.Lib Go.Sort
noncomputable def Tryz.UQ:TypeInfo:=(Tryz.prog.info? 40).get (by kernel_rfl)
noncomputable def Tryz.RL:TypeInfo:=(Tryz.prog.info? 67).get (by kernel_rfl)
theorem Tryz.U4 (n:Nat) (h2:2≤n) (ke:Nat):Lib.swapperK n Tryz.RL ke=Lib.swapperK 2 Tryz.RL ke:=by
 have c:(n==0)=false:=by simp;omega
 have d:(n==1)=false:=by simp;omega
 simp[Lib.swapperK,c,d]
set_option maxHeartbeats 4000000 in
set_option maxRecDepth 100000 in
theorem Tryz.My {α:Type} [Inhabited α] (enc:α→List Value) (hk:∀x,(enc x).length=4) (h1:∀x,∀v∈enc x,v.oneCell'=true) (lab:α→List (ByteArray×ByteArray)) (blk off c:Nat) (d:Array α) (w:World)
 (h2:2≤d.size) (h20:d.size<20) (hH:HoldsK enc 4 w blk off d) (hblk:blk<w.heap.size) (hlab:Hy enc lab blk w):
 Calls Tryz.prog 284 #[.slice (some ⟨blk,off,none⟩) d.size c] w fun e w'=>
  e= .returned (.slice (some ⟨blk,off,none⟩) d.size c)∧∃n os,w'=grow (putRowK enc 4 (Sort.ahead w n) blk off (Sort.insertionSort (fun x y=>Vg.bU (lab x) (lab y)) d 0 d.size)) os:=by
 have hW1:w.alloc (.cells #[.slice (some ⟨blk,off,none⟩) d.size c] 40)=grow w #[.cells #[.slice (some ⟨blk,off,none⟩) d.size c] 40]:=alloc_eq_grow _ _
 have hH1:HoldsK enc 4 (w.alloc (.cells #[.slice (some ⟨blk,off,none⟩) d.size c] 40)) blk off d:=by rw[hW1];exact holdsK_grow enc 4 w _ blk off d hblk hH
 have hb1:blk<(w.alloc (.cells #[.slice (some ⟨blk,off,none⟩) d.size c] 40)).heap.size:=by rw[hW1,size_grow];omega
 have hbox:∀m os (dk:Array α),(sortWorldK enc 4 (w.alloc (.cells #[.slice (some ⟨blk,off,none⟩) d.size c] 40)) blk off m dk os).cell? ⟨w.heap.size,0,none⟩=some (.slice (some ⟨blk,off,none⟩) d.size c):=by
  intro m os dk
  rw[cell?_sortWorldK_other enc 4 _ blk off m dk os _ (by show w.heap.size≠blk;omega) (by show w.heap.size<_;rw[hW1,size_grow];simp)]
  simp
 have hless:LessReadsK Tryz.prog 340 #[.pointer (some ⟨w.heap.size,0,none⟩)] enc 4 (fun x y=>Vg.bU (lab x) (lab y)) blk off d.size (w.alloc (.cells #[.slice (some ⟨blk,off,none⟩) d.size c] 40)):=by
  intro m os dk hs i j hi hj
  have hcell:∀x:Nat,x<d.size→∀v,(enc dk[x]!)[0]?=some v→(sortWorldK enc 4 (w.alloc (.cells #[.slice (some ⟨blk,off,none⟩) d.size c] 40)) blk off m dk os).cell? ⟨blk,off+x*4,none⟩=some v:=by
   intro x hx v hv
   have hh:=holdsK_sortWorldK enc 4 _ blk off m d dk os hb1 hH1 hs
   have:=(hh.cell (i:=x) (c:=0) (by omega) (by omega)).1
   rw[Nat.add_zero]at this
   rw[this]
   simp[hv]
  have hl:∀(x:α) (q:Nat),∃p c',(enc x)[0]?=some (.slice p (lab x).length c')∧(lab x).length<4611686018427387904∧
   ∀i,i<(lab x).length→∃bk o,p=some ⟨bk,o,none⟩∧((sortWorldK enc 4 (w.alloc (.cells #[.slice (some ⟨blk,off,none⟩) d.size c] 40)) blk off m dk os).drewN q).cell? ⟨bk,o+i*2,none⟩=some (.string ((lab x).getD i (ByteArray.empty,ByteArray.empty)).1)∧
    ((sortWorldK enc 4 (w.alloc (.cells #[.slice (some ⟨blk,off,none⟩) d.size c] 40)) blk off m dk os).drewN q).cell? ⟨bk,o+i*2+1,none⟩=some (.string ((lab x).getD i (ByteArray.empty,ByteArray.empty)).2):=by
   intro x q
   obtain⟨p,c',e1,e2,e3⟩:=hlab x
   refine⟨p,c',e1,e2,fun i hi=> ?_⟩
   obtain⟨bk,o,q1,q2,q3,q4,q5⟩:=e3 i hi
   have ho:∀o',((sortWorldK enc 4 (w.alloc (.cells #[.slice (some ⟨blk,off,none⟩) d.size c] 40)) blk off m dk os).drewN q).cell? ⟨bk,o',none⟩=w.cell? ⟨bk,o',none⟩:=by
    intro o'
    show(sortWorldK enc 4 (w.alloc (.cells #[.slice (some ⟨blk,off,none⟩) d.size c] 40)) blk off m dk os).cell? ⟨bk,o',none⟩=_
    rw[cell?_sortWorldK_other enc 4 _ blk off m dk os _ q2 (by show bk<_;rw[hW1,size_grow];omega),hW1,cell?_grow _ _ _ q3]
   exact⟨bk,o,q1,by rw[ho];exact q4,by rw[ho];exact q5⟩
  obtain⟨pa,ca,a1,a2,_⟩:=hl dk[i]! 0
  obtain⟨pb,cb,b1,b2,_⟩:=hl dk[j]! 0
  refine Tryz.K9 blk off c w.heap.size d.size _ i j hi hj (by omega) _ _ _ (hbox m os dk) (hcell i hi _ a1) (hcell j hj _ b1) (fun q=> ?_)
  obtain⟨pa',ca',a1',_,a3⟩:=hl dk[i]! q
  obtain⟨pb',cb',b1',_,b3⟩:=hl dk[j]! q
  rw[a1]at a1';rw[b1]at b1'
  cases a1';cases b1'
  exact Tryz.L5 pa pb ca cb _ _ _ a2 b2 a3 b3
 have hS:=BK Tryz.UR (i:=Tryz.UQ) (ie:=Tryz.RL) (t:=40) (e:=67) (by kernel_rfl) (by kernel_rfl) (by kernel_rfl) (by kernel_rfl) (ke:=25) (fun _=>by kernel_rfl) hk (by kernel_rfl) (fun _=>by kernel_rfl) h1
  (fun x y=>Vg.bU (lab x) (lab y)) (g:=340) (enters_of Tryz.func340 (by kernel_rfl) rfl) (c:=c) h2 h20 (f:=387) (by rw[Tryz.U4 _ h2];kernel_rfl) false
  (fun args W=>run_callFunc_extern (f:=387) Tryz.func387 (by kernel_rfl) (by kernel_rfl) (by kernel_rfl) (e:=Extern.ReflectliteSwapper.swap false) (by kernel_rfl) args W) hless hH1 hb1
 change Calls Tryz.prog 339 _ _ _ at hS
 have HB:Hid (∀m os (dk:Array α),(sortWorldK enc 4 (w.alloc (.cells #[.slice (some ⟨blk,off,none⟩) d.size c] 40)) blk off m dk os).cell? ⟨w.heap.size,0,none⟩=some (.slice (some ⟨blk,off,none⟩) d.size c)):=hbox
 clear hless hH1 hH hlab hbox hW1 hb1
 go_enter Tryz.func284,Tryz.ntmps284
 go_wp2_with (go_at_call 339;refine hS.mono ?_;rintro e w1 ⟨rfl,n,os,hw⟩;have hcell:w1.cell? ⟨w.heap.size,0,none⟩=some (.slice (some ⟨blk,off,none⟩) d.size c):=(by rw[hw];exact HB.out n os _);have HW:Hid (w1=_):=hw;clear hw)
 go_ret
 exact⟨rfl,n,_,by rw[HW.out,alloc_eq_grow,ahead_grow,putRowK_grow enc 4 (Sort.ahead w n) _ blk off _ hblk,grow_grow]⟩
set_option maxHeartbeats 4000000 in
set_option maxRecDepth 100000 in
theorem Tryz.LQ (p:Option Addr) (n c:Nat) (h1:n≤1) (w:World):
 Calls Tryz.prog 284 #[.slice p n c] w fun e w'=>e= .returned (.slice p n c)∧∃os,w'=grow w os:=by
 have hS:=fun W f hf=>Any.sort_SliceStable_tiny Tryz.UR 40 67 Tryz.UQ Tryz.RL (by kernel_rfl) (by kernel_rfl) (by kernel_rfl) (by kernel_rfl) 25 (fun _=>by kernel_rfl) p n c h1 f hf (.func 340) #[] #[.pointer (some ⟨w.heap.size,0,none⟩)] W
 obtain⟨f,hf⟩:∃f,Tryz.prog.funcs.findIdx? (·.name== "internal/reflectlite" ++ ".Swapper$" ++toString (swapperK n Tryz.RL 25))=some f:=by
  rcases Nat.eq_zero_or_pos n with h|h
  ·subst h;exact⟨379,by kernel_rfl⟩
  ·obtain rfl:n=1:=by omega
   exact⟨380,by kernel_rfl⟩
 have hS2:=fun W=>hS W f hf
 change∀W,Calls Tryz.prog 339 _ W _ at hS2
 clear hS
 have HB:Hid (∀os,(grow (w.alloc (.cells #[.slice p n c] 40)) os).cell? ⟨w.heap.size,0,none⟩=some (.slice p n c)):=by
  intro os
  rw[cell?_grow _ _ _ (by show w.heap.size<_;rw[alloc_eq_grow,size_grow];simp)]
  simp
 go_enter Tryz.func284,Tryz.ntmps284
 go_wp2_with (go_at_call 339;refine(hS2 _).mono ?_;rintro e w1 ⟨rfl,os,hw⟩;have hcell:w1.cell? ⟨w.heap.size,0,none⟩=some (.slice p n c):=(by rw[hw];exact HB.out os);have HW:Hid (w1=_):=hw;clear hw)
 go_ret
 exact⟨rfl,_,by rw[HW.out,alloc_eq_grow,grow_grow]⟩
end Go.Proofs
namespace Vg.Tryz
open Go Vg Go.Proofs
def ue (k:Nat):aF:=⟨[.val (.sl ab) .own],[.val (.sl ab) .own],ko k,[]⟩
set_option maxRecDepth 1000000 in
theorem EH (k:Nat):oQ Tryz.prog 284 (ue k):=N6 Tryz.func284 (by kernel_rfl) (by kernel_rfl) Tryz.LQ Tryz.My
end Vg.Tryz
namespace Vg.Tryz
open Go Vg Go.Proofs
set_option linter.unusedVariables false
def TT:List (Nat×TI):=[(3,⟨(.int .i64),[],0⟩),(4,⟨.bool,[],0⟩),(5,⟨(.int .u8),[],0⟩),(9,⟨.str,[],0⟩),(22,⟨(.sl .str),[],9⟩),(24,⟨bC,[3,3,3,3,3,22],0⟩),(25,⟨(.sl ak),[],137⟩),(26,⟨(.sl aU),[],140⟩),(27,⟨(.sl ab),[],63⟩),(28,⟨(.sl aj),[],143⟩),(29,⟨(.sl aC),[],167⟩),(30,⟨(.sl aN),[],146⟩),(31,⟨(.sl ah),[],149⟩),(32,⟨(.sl aq),[],152⟩),(34,⟨aE,[24,3,3,25,26,27,3,28,3,29,30,27,31,32],0⟩),(37,⟨bC,[3,3,3,3,3,22],0⟩),(38,⟨(.sl ak),[],156⟩),(39,⟨(.sl aU),[],159⟩),(40,⟨(.sl ab),[],67⟩),(41,⟨(.sl aj),[],162⟩),(42,⟨(.sl aC),[],165⟩),(43,⟨(.sl aN),[],169⟩),(44,⟨(.sl ah),[],108⟩),(45,⟨(.sl aq),[],173⟩),(47,⟨aE,[37,3,3,38,39,40,3,41,3,42,43,40,44,45],0⟩),(54,⟨(.sl af),[],121⟩),(57,⟨(.sl af),[],123⟩),(63,⟨ab,[54,3,3,9],0⟩),(67,⟨ab,[57,3,3,9],0⟩),(106,⟨(.sl (.int .i64)),[],3⟩),(108,⟨ah,[3,3,67,57,3,106,40,3,3],0⟩),(121,⟨af,[9,9],0⟩),(123,⟨af,[9,9],0⟩),(135,⟨(.sl ay),[],272⟩),(137,⟨ak,[3,3,135],0⟩),(140,⟨aU,[27,4],0⟩),(143,⟨aj,[3,54,3,3,27],0⟩),(146,⟨aN,[3,54,3,27],0⟩),(149,⟨ah,[3,3,63,54,3,106,27,3,3],0⟩),(152,⟨aq,[3,3,63,54,3,3,3,27,3,3,3,3],0⟩),(154,⟨(.sl ay),[],253⟩),(156,⟨ak,[3,3,154],0⟩),(159,⟨aU,[40,4],0⟩),(162,⟨aj,[3,57,3,3,40],0⟩),(165,⟨aC,[3,3],0⟩),(167,⟨aC,[3,3],0⟩),(169,⟨aN,[3,57,3,40],0⟩),(173,⟨aq,[3,3,67,57,3,3,3,40,3,3,3,3],0⟩),(204,⟨(.sl (.int .u8)),[],5⟩),(253,⟨ay,[3,40],0⟩),(272,⟨ay,[3,27],0⟩),(296,⟨(.int .u64),[],0⟩),(318,⟨(.int .u32),[],0⟩)]
theorem ax:TT.all (fun p=>Hb Tryz.prog p.1 p.2)=true:=by kernel_rfl
theorem mixed:Tryz.prog.follows .mixedOrders=true:=by kernel_rfl
set_option maxRecDepth 1000000
def nA:Nat→Option aM:=fun _=>none
def q0:Pt:=(.pair .leaf (.pair .leaf (.pair .leaf .shr)))
def q1:Pt:=(.pair .leaf q0)
def q2:Pt:=(.pair .leaf q1)
def q3:Pt:=(.pair .shr (.pair .leaf (.pair .leaf .leaf)))
def q4:Pt:=(.pair .shr (.pair .leaf (.pair .leaf .shr)))
def q5:Pt:=(.pair .leaf q4)
def q6:Pt:=(.pair .leaf (.pair .shr (.pair .leaf .shr)))
def q7:Pt:=(.pair .shr (.pair .shr (.pair .leaf .leaf)))
def q8:Pt:=(.pair .leaf q7)
def q9:Pt:=(.pair .shr q8)
def MN:Pt:=(.pair q3 q9)
def UN:Pt:=(.pair .leaf MN)
def ub:Pt:=(.pair .leaf (.pair .leaf (.pair .leaf .leaf)))
def jb:Pt:=(.pair .shr (.pair .shr (.pair .shr .shr)))
def wN:Pt:=(.pair .leaf (.pair .leaf (.pair .leaf .own)))
def qM:Pt:=(.pair .own (.pair .leaf (.pair .leaf .leaf)))
def T0:Pt:=(.pair .own (.pair .leaf (.pair .leaf .own)))
def Uf:Pt:=(.pair .leaf (.pair .own (.pair .leaf .own)))
def S2:Pt:=(.pair .own (.pair .own (.pair .leaf .leaf)))
def Cv:Pt:=(.pair .own (.pair .own (.pair .own .own)))
def cR:Sh:=(.pair .leaf (.pair .leaf (.sl (.sha [1]))))
def yH:Sh:=(.pair .leaf (.pair .leaf (.sl (.sha []))))
def Ci:Sh:=(.pair .leaf (.pair .leaf (.sl (.row 6 [6] true))))
def dg:Sh:=(.pair (.sl (.sha [1])) (.sl (.sha [1])))
def B6:Sh:=(.pair (.sl (.sha [])) (.pair (.sl (.sha [])) (.sl (.sha []))))
def Uo:Sh:=(.pair (.sl (.row 14 [14] true)) (.sl (.sha [1])))
def T6:Sh:=(.pair (.sl (.row 5 [5] true)) (.pair .leaf (.pair .leaf .leaf)))
def uS:Sh:=(.pair (.sl (.sha [1])) (.pair .leaf (.pair .leaf .leaf)))
def uL:Sh:=(.pair (.sl (.sha [1])) (.pair .leaf .leaf))
def TW:Sh:=(.pair (.sl (.sha [1,2])) (.pair .leaf (.pair .leaf .leaf)))
def JA:Sh:=(.pair .leaf (.pair .leaf (.sl (.sha [1,2]))))
def Js:Sh:=(.pair .leaf (.pair .leaf (.sl (.row 4 [4] true))))
def wM (k:Nat):List (FuncId×aF):=(391,uZ k)::([]:List (FuncId×aF))
theorem DA (k:Nat):ae Tryz.prog (wM k):=⟨Jf k,(show ae Tryz.prog []from trivial)⟩
def uy (k:Nat):List (FuncId×aF):=(284,ue k)::(wM k)
theorem Bd (k:Nat):ae Tryz.prog (uy k):=⟨EH k,(DA k)⟩
def BV:Nat→Option aM:=fun|5=>some ⟨[(0,.val (.sl .str) (.sl (.sha [1]))),(1,.val (.int .i64) .leaf),(5,.val (.int .i64) .leaf)],3⟩|_=>none
def sE (k:Nat):List (FuncId×aF):=(121,⟨[.val (.sl .str) .shr,.val (.int .i64) .leaf],[.val (.int .i64) .leaf],nj k,[]⟩)::(uy k)
theorem Ea (k:Nat):ae Tryz.prog (sE k):=ae.ev ax mixed (Bd k) BV nA k Tryz.func121 (by kernel_rfl) (fun x=>by kernel_rfl)
def xT (k:Nat):List (FuncId×aF):=(46,⟨[.val bC (.pair .leaf (.pair .leaf q0)),.val (.int .i64) .leaf],[.val (.int .i64) .leaf],mK k,[]⟩)::(sE k)
theorem L8 (k:Nat):ae Tryz.prog (xT k):=ae.ev ax mixed (Ea k) nA nA k Tryz.func46 (by kernel_rfl) (fun x=>by kernel_rfl)
def vE (k:Nat):List (FuncId×aF):=(102,⟨[.val af (.pair .leaf .leaf),.val (.int .i64) .leaf],[.val (.int .i64) .leaf],iw k,[]⟩)::(xT k)
theorem IS (k:Nat):ae Tryz.prog (vE k):=ae.ev ax mixed (L8 k) nA nA k Tryz.func102 (by kernel_rfl) (fun x=>by kernel_rfl)
def Db:Nat→Option aM:=fun|5=>some ⟨[(0,.val (.sl af) (.sl (.sha [1]))),(1,.val (.int .i64) .leaf),(5,.val (.int .i64) .leaf)],3⟩|_=>none
def tq (k:Nat):List (FuncId×aF):=(24,⟨[.val (.sl af) .shr,.val (.int .i64) .leaf],[.val (.int .i64) .leaf],dX k,[]⟩)::(vE k)
theorem Ev (k:Nat):ae Tryz.prog (tq k):=ae.ev ax mixed (IS k) Db nA k Tryz.func24 (by kernel_rfl) (fun x=>by kernel_rfl)
def wC (k:Nat):List (FuncId×aF):=(30,⟨[.val ab q3,.val (.int .i64) .leaf],[.val (.int .i64) .leaf],eV k,[]⟩)::(tq k)
theorem Jv (k:Nat):ae Tryz.prog (wC k):=ae.ev ax mixed (Ev k) nA nA k Tryz.func30 (by kernel_rfl) (fun x=>by kernel_rfl)
def CY:Nat→Option aM:=fun|5=>some ⟨[(0,.val (.sl ab) (.sl (.sha [1]))),(1,.val (.int .i64) .leaf),(5,.val (.int .i64) .leaf)],3⟩|_=>none
def tv (k:Nat):List (FuncId×aF):=(49,⟨[.val (.sl ab) .shr,.val (.int .i64) .leaf],[.val (.int .i64) .leaf],de k,[]⟩)::(wC k)
theorem EX (k:Nat):ae Tryz.prog (tv k):=ae.ev ax mixed (Jv k) CY nA k Tryz.func49 (by kernel_rfl) (fun x=>by kernel_rfl)
def vu (k:Nat):List (FuncId×aF):=(307,⟨[.val ay (.pair .leaf .shr),.val (.int .i64) .leaf],[.val (.int .i64) .leaf],iJ k,[]⟩)::(tv k)
theorem HI (k:Nat):ae Tryz.prog (vu k):=ae.ev ax mixed (EX k) nA nA k Tryz.func307 (by kernel_rfl) (fun x=>by kernel_rfl)
def CO:Nat→Option aM:=fun|5=>some ⟨[(0,.val (.sl ay) (.sl (.sha [1]))),(1,.val (.int .i64) .leaf),(5,.val (.int .i64) .leaf)],3⟩|_=>none
def ui (k:Nat):List (FuncId×aF):=(229,⟨[.val (.sl ay) .shr,.val (.int .i64) .leaf],[.val (.int .i64) .leaf],oD k,[]⟩)::(vu k)
theorem FR (k:Nat):ae Tryz.prog (ui k):=ae.ev ax mixed (HI k) CO nA k Tryz.func229 (by kernel_rfl) (fun x=>by kernel_rfl)
def xV (k:Nat):List (FuncId×aF):=(122,⟨[.val ak (.pair .leaf (.pair .leaf .shr)),.val (.int .i64) .leaf],[.val (.int .i64) .leaf],jN k,[]⟩)::(ui k)
theorem Lp (k:Nat):ae Tryz.prog (xV k):=ae.ev ax mixed (FR k) nA nA k Tryz.func122 (by kernel_rfl) (fun x=>by kernel_rfl)
def FK:Nat→Option aM:=fun|5=>some ⟨[(0,.val (.sl ak) (.sl (.sha [1]))),(1,.val (.int .i64) .leaf),(5,.val (.int .i64) .leaf)],3⟩|_=>none
def we (k:Nat):List (FuncId×aF):=(47,⟨[.val (.sl ak) .shr,.val (.int .i64) .leaf],[.val (.int .i64) .leaf],pw k,[]⟩)::(xV k)
theorem ID (k:Nat):ae Tryz.prog (we k):=ae.ev ax mixed (Lp k) FK nA k Tryz.func47 (by kernel_rfl) (fun x=>by kernel_rfl)
def zj (k:Nat):List (FuncId×aF):=(123,⟨[.val aU (.pair .shr .leaf),.val (.int .i64) .leaf],[.val (.int .i64) .leaf],k9 k,[]⟩)::(we k)
theorem NK (k:Nat):ae Tryz.prog (zj k):=ae.ev ax mixed (ID k) nA nA k Tryz.func123 (by kernel_rfl) (fun x=>by kernel_rfl)
def Jo:Nat→Option aM:=fun|5=>some ⟨[(0,.val (.sl aU) (.sl (.sha [1]))),(1,.val (.int .i64) .leaf),(5,.val (.int .i64) .leaf)],3⟩|_=>none
def yj (k:Nat):List (FuncId×aF):=(48,⟨[.val (.sl aU) .shr,.val (.int .i64) .leaf],[.val (.int .i64) .leaf],qC k,[]⟩)::(zj k)
theorem L9 (k:Nat):ae Tryz.prog (yj k):=ae.ev ax mixed (NK k) Jo nA k Tryz.func48 (by kernel_rfl) (fun x=>by kernel_rfl)
def wK (k:Nat):List (FuncId×aF):=(124,⟨[.val aj (.pair .leaf q4),.val (.int .i64) .leaf],[.val (.int .i64) .leaf],iN k,[]⟩)::(yj k)
theorem IB (k:Nat):ae Tryz.prog (wK k):=ae.ev ax mixed (L9 k) nA nA k Tryz.func124 (by kernel_rfl) (fun x=>by kernel_rfl)
def Dh:Nat→Option aM:=fun|5=>some ⟨[(0,.val (.sl aj) (.sl (.sha [1]))),(1,.val (.int .i64) .leaf),(5,.val (.int .i64) .leaf)],3⟩|_=>none
def uC (k:Nat):List (FuncId×aF):=(50,⟨[.val (.sl aj) .shr,.val (.int .i64) .leaf],[.val (.int .i64) .leaf],oE k,[]⟩)::(wK k)
theorem EU (k:Nat):ae Tryz.prog (uC k):=ae.ev ax mixed (IB k) Dh nA k Tryz.func50 (by kernel_rfl) (fun x=>by kernel_rfl)
def tJ (k:Nat):List (FuncId×aF):=(51,⟨[.val (.sl aC) .shr,.val (.int .i64) .leaf],[.val (.int .i64) .leaf],kB k,[]⟩)::(uC k)
theorem Hc (k:Nat):ae Tryz.prog (tJ k):=ae.ev ax mixed (EU k) nA nA k Tryz.func51 (by kernel_rfl) (fun x=>by kernel_rfl)
def xa (k:Nat):List (FuncId×aF):=(125,⟨[.val aN q6,.val (.int .i64) .leaf],[.val (.int .i64) .leaf],iE k,[]⟩)::(tJ k)
theorem Ib (k:Nat):ae Tryz.prog (xa k):=ae.ev ax mixed (Hc k) nA nA k Tryz.func125 (by kernel_rfl) (fun x=>by kernel_rfl)
def DQ:Nat→Option aM:=fun|5=>some ⟨[(0,.val (.sl aN) (.sl (.sha [1]))),(1,.val (.int .i64) .leaf),(5,.val (.int .i64) .leaf)],3⟩|_=>none
def ua (k:Nat):List (FuncId×aF):=(52,⟨[.val (.sl aN) .shr,.val (.int .i64) .leaf],[.val (.int .i64) .leaf],oH k,[]⟩)::(xa k)
theorem Gk (k:Nat):ae Tryz.prog (ua k):=ae.ev ax mixed (Ib k) DQ nA k Tryz.func52 (by kernel_rfl) (fun x=>by kernel_rfl)
def yX (k:Nat):List (FuncId×aF):=(230,⟨[.val (.sl (.int .i64)) .shr,.val (.int .i64) .leaf],[.val (.int .i64) .leaf],mY k,[]⟩)::(ua k)
theorem L3 (k:Nat):ae Tryz.prog (yX k):=ae.ev ax mixed (Gk k) nA nA k Tryz.func230 (by kernel_rfl) (fun x=>by kernel_rfl)
def yT (k:Nat):List (FuncId×aF):=(126,⟨[.val ah (.pair .leaf (.pair .leaf (.pair q3 (.pair .shr (.pair .leaf q7))))),.val (.int .i64) .leaf],[.val (.int .i64) .leaf],jM k,[]⟩)::(yX k)
theorem KS (k:Nat):ae Tryz.prog (yT k):=ae.ev ax mixed (L3 k) nA nA k Tryz.func126 (by kernel_rfl) (fun x=>by kernel_rfl)
def GG:Nat→Option aM:=fun|5=>some ⟨[(0,.val (.sl ah) (.sl (.sha [1]))),(1,.val (.int .i64) .leaf),(5,.val (.int .i64) .leaf)],3⟩|_=>none
def wj (k:Nat):List (FuncId×aF):=(53,⟨[.val (.sl ah) .shr,.val (.int .i64) .leaf],[.val (.int .i64) .leaf],pB k,[]⟩)::(yT k)
theorem IX (k:Nat):ae Tryz.prog (wj k):=ae.ev ax mixed (KS k) GG nA k Tryz.func53 (by kernel_rfl) (fun x=>by kernel_rfl)
def xU (k:Nat):List (FuncId×aF):=(127,⟨[.val aq (.pair .leaf (.pair .leaf (.pair q3 (.pair .shr (.pair .leaf (.pair .leaf (.pair .leaf (.pair .shr ub)))))))),.val (.int .i64) .leaf],[.val (.int .i64) .leaf],jJ k,[]⟩)::(wj k)
theorem LM (k:Nat):ae Tryz.prog (xU k):=ae.ev ax mixed (IX k) nA nA k Tryz.func127 (by kernel_rfl) (fun x=>by kernel_rfl)
def Et:Nat→Option aM:=fun|5=>some ⟨[(0,.val (.sl aq) (.sl (.sha [1]))),(1,.val (.int .i64) .leaf),(5,.val (.int .i64) .leaf)],3⟩|_=>none
def wg (k:Nat):List (FuncId×aF):=(54,⟨[.val (.sl aq) .shr,.val (.int .i64) .leaf],[.val (.int .i64) .leaf],pv k,[]⟩)::(xU k)
theorem Is (k:Nat):ae Tryz.prog (wg k):=ae.ev ax mixed (LM k) Et nA k Tryz.func54 (by kernel_rfl) (fun x=>by kernel_rfl)
def wu (k:Nat):List (FuncId×aF):=(13,⟨[.val aE (.pair (.pair .leaf (.pair .leaf q0)) (.pair .leaf (.pair .leaf (.pair .shr (.pair .shr (.pair .shr (.pair .leaf (.pair .shr (.pair .leaf (.pair .shr jb)))))))))),.val (.int .i64) .leaf],[.val (.int .i64) .leaf],lR k,[]⟩)::(wg k)
theorem JN (k:Nat):ae Tryz.prog (wu k):=ae.ev ax mixed (Is k) nA nA k Tryz.func13 (by kernel_rfl) (fun x=>by kernel_rfl)
end Vg.Tryz
namespace Vg.Tryz
open Go Vg Go.Proofs
set_option linter.unusedVariables false
set_option maxRecDepth 1000000
def BE:Nat→Option aM:=fun|3=>some ⟨[(0,.val (.sl .str) (.sl (.sha [1]))),(3,.val (.sl .str) (.sl (.row 3 [3] true))),(4,.val (.int .i64) .leaf)],4⟩|_=>none
def sr (k:Nat):List (FuncId×aF):=(129,⟨[.val (.sl .str) .shr],[.val (.sl .str) .own],nD k,[]⟩)::(wu k)
theorem CC (k:Nat):ae Tryz.prog (sr k):=ae.ev ax mixed (JN k) BE nA k Tryz.func129 (by kernel_rfl) (fun x=>by kernel_rfl)
def yP (k:Nat):List (FuncId×aF):=(56,⟨[.val bC (.pair .leaf (.pair .leaf q0))],[.val bC (.pair .leaf (.pair .leaf wN))],mW k,[]⟩)::(sr k)
theorem KW (k:Nat):ae Tryz.prog (yP k):=ae.ev ax mixed (CC k) nA nA k Tryz.func56 (by kernel_rfl) (fun x=>by kernel_rfl)
def wF (k:Nat):List (FuncId×aF):=(104,⟨[.val af (.pair .leaf .leaf)],[.val af (.pair .leaf .leaf)],iU k,[]⟩)::(yP k)
theorem Jd (k:Nat):ae Tryz.prog (wF k):=ae.ev ax mixed (KW k) nA nA k Tryz.func104 (by kernel_rfl) (fun x=>by kernel_rfl)
def D0:Nat→Option aM:=fun|3=>some ⟨[(0,.val (.sl af) (.sl (.sha [1]))),(3,.val (.sl af) (.sl (.row 3 [3] true))),(4,.val (.int .i64) .leaf)],4⟩|_=>none
def uw (k:Nat):List (FuncId×aF):=(26,⟨[.val (.sl af) .shr],[.val (.sl af) .own],cO k,[]⟩)::(wF k)
theorem Hs (k:Nat):ae Tryz.prog (uw k):=ae.ev ax mixed (Jd k) D0 nA k Tryz.func26 (by kernel_rfl) (fun x=>by kernel_rfl)
def wZ (k:Nat):List (FuncId×aF):=(32,⟨[.val ab q3],[.val ab qM],eR k,[]⟩)::(uw k)
theorem HG (k:Nat):ae Tryz.prog (wZ k):=ae.ev ax mixed (Hs k) nA nA k Tryz.func32 (by kernel_rfl) (fun x=>by kernel_rfl)
def CD:Nat→Option aM:=fun|3=>some ⟨[(0,.val (.sl ab) (.sl (.sha [1]))),(3,.val (.sl ab) (.sl (.row 3 [3] true))),(4,.val (.int .i64) .leaf)],4⟩|_=>none
def uc (k:Nat):List (FuncId×aF):=(59,⟨[.val (.sl ab) .shr],[.val (.sl ab) .own],da k,[]⟩)::(wZ k)
theorem Ff (k:Nat):ae Tryz.prog (uc k):=ae.ev ax mixed (HG k) CD nA k Tryz.func59 (by kernel_rfl) (fun x=>by kernel_rfl)
def vz (k:Nat):List (FuncId×aF):=(308,⟨[.val ay (.pair .leaf .shr)],[.val ay (.pair .leaf .own)],iX k,[]⟩)::(uc k)
theorem HX (k:Nat):ae Tryz.prog (vz k):=ae.ev ax mixed (Ff k) nA nA k Tryz.func308 (by kernel_rfl) (fun x=>by kernel_rfl)
def Dg:Nat→Option aM:=fun|3=>some ⟨[(0,.val (.sl ay) (.sl (.sha [1]))),(3,.val (.sl ay) (.sl (.row 3 [3] true))),(4,.val (.int .i64) .leaf)],4⟩|_=>none
def uF (k:Nat):List (FuncId×aF):=(231,⟨[.val (.sl ay) .shr],[.val (.sl ay) .own],oh k,[]⟩)::(vz k)
theorem E9 (k:Nat):ae Tryz.prog (uF k):=ae.ev ax mixed (HX k) Dg nA k Tryz.func231 (by kernel_rfl) (fun x=>by kernel_rfl)
def yS (k:Nat):List (FuncId×aF):=(130,⟨[.val ak (.pair .leaf (.pair .leaf .shr))],[.val ak (.pair .leaf (.pair .leaf .own))],jF k,[]⟩)::(uF k)
theorem LO (k:Nat):ae Tryz.prog (yS k):=ae.ev ax mixed (E9 k) nA nA k Tryz.func130 (by kernel_rfl) (fun x=>by kernel_rfl)
def Gt:Nat→Option aM:=fun|3=>some ⟨[(0,.val (.sl ak) (.sl (.sha [1]))),(3,.val (.sl ak) (.sl (.row 3 [3] true))),(4,.val (.int .i64) .leaf)],4⟩|_=>none
def wI (k:Nat):List (FuncId×aF):=(57,⟨[.val (.sl ak) .shr],[.val (.sl ak) .own],pA k,[]⟩)::(yS k)
theorem It (k:Nat):ae Tryz.prog (wI k):=ae.ev ax mixed (LO k) Gt nA k Tryz.func57 (by kernel_rfl) (fun x=>by kernel_rfl)
def Af (k:Nat):List (FuncId×aF):=(131,⟨[.val aU (.pair .shr .leaf)],[.val aU (.pair .own .leaf)],lp k,[]⟩)::(wI k)
theorem NB (k:Nat):ae Tryz.prog (Af k):=ae.ev ax mixed (It k) nA nA k Tryz.func131 (by kernel_rfl) (fun x=>by kernel_rfl)
def Hw:Nat→Option aM:=fun|3=>some ⟨[(0,.val (.sl aU) (.sl (.sha [1]))),(3,.val (.sl aU) (.sl (.row 3 [3] true))),(4,.val (.int .i64) .leaf)],4⟩|_=>none
def yk (k:Nat):List (FuncId×aF):=(58,⟨[.val (.sl aU) .shr],[.val (.sl aU) .own],qA k,[]⟩)::(Af k)
theorem Lk (k:Nat):ae Tryz.prog (yk k):=ae.ev ax mixed (NB k) Hw nA k Tryz.func58 (by kernel_rfl) (fun x=>by kernel_rfl)
def wx (k:Nat):List (FuncId×aF):=(132,⟨[.val aj (.pair .leaf q4)],[.val aj (.pair .leaf T0)],iG k,[]⟩)::(yk k)
theorem HD (k:Nat):ae Tryz.prog (wx k):=ae.ev ax mixed (Lk k) nA nA k Tryz.func132 (by kernel_rfl) (fun x=>by kernel_rfl)
def DX:Nat→Option aM:=fun|3=>some ⟨[(0,.val (.sl aj) (.sl (.sha [1]))),(3,.val (.sl aj) (.sl (.row 3 [3] true))),(4,.val (.int .i64) .leaf)],4⟩|_=>none
def tR (k:Nat):List (FuncId×aF):=(60,⟨[.val (.sl aj) .shr],[.val (.sl aj) .own],oC k,[]⟩)::(wx k)
theorem EY (k:Nat):ae Tryz.prog (tR k):=ae.ev ax mixed (HD k) DX nA k Tryz.func60 (by kernel_rfl) (fun x=>by kernel_rfl)
def xc (k:Nat):List (FuncId×aF):=(133,⟨[.val aC (.pair .leaf .leaf)],[.val aC (.pair .leaf .leaf)],iV k,[]⟩)::(tR k)
theorem I5 (k:Nat):ae Tryz.prog (xc k):=ae.ev ax mixed (EY k) nA nA k Tryz.func133 (by kernel_rfl) (fun x=>by kernel_rfl)
def Dn:Nat→Option aM:=fun|3=>some ⟨[(0,.val (.sl aC) (.sl (.sha [1]))),(3,.val (.sl aC) (.sl (.row 3 [3] true))),(4,.val (.int .i64) .leaf)],4⟩|_=>none
def uj (k:Nat):List (FuncId×aF):=(61,⟨[.val (.sl aC) .shr],[.val (.sl aC) .own],ot k,[]⟩)::(xc k)
theorem FT (k:Nat):ae Tryz.prog (uj k):=ae.ev ax mixed (I5 k) Dn nA k Tryz.func61 (by kernel_rfl) (fun x=>by kernel_rfl)
def wm (k:Nat):List (FuncId×aF):=(134,⟨[.val aN q6],[.val aN Uf],iq k,[]⟩)::(uj k)
theorem JJ (k:Nat):ae Tryz.prog (wm k):=ae.ev ax mixed (FT k) nA nA k Tryz.func134 (by kernel_rfl) (fun x=>by kernel_rfl)
def CZ:Nat→Option aM:=fun|3=>some ⟨[(0,.val (.sl aN) (.sl (.sha [1]))),(3,.val (.sl aN) (.sl (.row 3 [3] true))),(4,.val (.int .i64) .leaf)],4⟩|_=>none
def tZ (k:Nat):List (FuncId×aF):=(62,⟨[.val (.sl aN) .shr],[.val (.sl aN) .own],oJ k,[]⟩)::(wm k)
theorem Fi (k:Nat):ae Tryz.prog (tZ k):=ae.ev ax mixed (JJ k) CZ nA k Tryz.func62 (by kernel_rfl) (fun x=>by kernel_rfl)
def Jh:Nat→Option aM:=fun|3=>some ⟨[(0,.val (.sl (.int .i64)) (.sl (.sha [1]))),(3,.val (.sl (.int .i64)) (.sl (.row 3 [3] true))),(4,.val (.int .i64) .leaf)],4⟩|_=>none
def yI (k:Nat):List (FuncId×aF):=(232,⟨[.val (.sl (.int .i64)) .shr],[.val (.sl (.int .i64)) .own],qz k,[]⟩)::(tZ k)
theorem La (k:Nat):ae Tryz.prog (yI k):=ae.ev ax mixed (Fi k) Jh nA k Tryz.func232 (by kernel_rfl) (fun x=>by kernel_rfl)
def yL (k:Nat):List (FuncId×aF):=(135,⟨[.val ah (.pair .leaf (.pair .leaf (.pair q3 (.pair .shr (.pair .leaf q7)))))],[.val ah (.pair .leaf (.pair .leaf (.pair qM (.pair .own (.pair .leaf S2)))))],jV k,[]⟩)::(yI k)
theorem KP (k:Nat):ae Tryz.prog (yL k):=ae.ev ax mixed (La k) nA nA k Tryz.func135 (by kernel_rfl) (fun x=>by kernel_rfl)
def EP:Nat→Option aM:=fun|3=>some ⟨[(0,.val (.sl ah) (.sl (.sha [1]))),(3,.val (.sl ah) (.sl (.row 3 [3] true))),(4,.val (.int .i64) .leaf)],4⟩|_=>none
def wE (k:Nat):List (FuncId×aF):=(63,⟨[.val (.sl ah) .shr],[.val (.sl ah) .own],pJ k,[]⟩)::(yL k)
theorem JQ (k:Nat):ae Tryz.prog (wE k):=ae.ev ax mixed (KP k) EP nA k Tryz.func63 (by kernel_rfl) (fun x=>by kernel_rfl)
def yJ (k:Nat):List (FuncId×aF):=(136,⟨[.val aq (.pair .leaf (.pair .leaf (.pair q3 (.pair .shr (.pair .leaf (.pair .leaf (.pair .leaf (.pair .shr ub))))))))],[.val aq (.pair .leaf (.pair .leaf (.pair qM (.pair .own (.pair .leaf (.pair .leaf (.pair .leaf (.pair .own ub))))))))],jB k,[]⟩)::(wE k)
theorem LC (k:Nat):ae Tryz.prog (yJ k):=ae.ev ax mixed (JQ k) nA nA k Tryz.func136 (by kernel_rfl) (fun x=>by kernel_rfl)
def GA:Nat→Option aM:=fun|3=>some ⟨[(0,.val (.sl aq) (.sl (.sha [1]))),(3,.val (.sl aq) (.sl (.row 3 [3] true))),(4,.val (.int .i64) .leaf)],4⟩|_=>none
def vA (k:Nat):List (FuncId×aF):=(64,⟨[.val (.sl aq) .shr],[.val (.sl aq) .own],o9 k,[]⟩)::(yJ k)
theorem IH (k:Nat):ae Tryz.prog (vA k):=ae.ev ax mixed (LC k) GA nA k Tryz.func64 (by kernel_rfl) (fun x=>by kernel_rfl)
def vY (k:Nat):List (FuncId×aF):=(15,⟨[.val aE (.pair (.pair .leaf (.pair .leaf q0)) (.pair .leaf (.pair .leaf (.pair .shr (.pair .shr (.pair .shr (.pair .leaf (.pair .shr (.pair .leaf (.pair .shr jb))))))))))],[.val aE (.pair (.pair .leaf (.pair .leaf wN)) (.pair .leaf (.pair .leaf (.pair .own (.pair .own (.pair .own (.pair .leaf (.pair .own (.pair .leaf (.pair .own Cv))))))))))],eP k,[]⟩)::(vA k)
theorem Jj (k:Nat):ae Tryz.prog (vY k):=ae.ev ax mixed (IH k) nA nA k Tryz.func15 (by kernel_rfl) (fun x=>by kernel_rfl)
def uW (k:Nat):List (FuncId×aF):=(146,⟨[.val bC (.pair .leaf (.pair .leaf q0))],[.val bC (.pair .leaf (.pair .leaf wN))],lZ k,[]⟩)::(vY k)
theorem IE (k:Nat):ae Tryz.prog (uW k):=ae.ev ax mixed (Jj k) nA nA k Tryz.func146 (by kernel_rfl) (fun x=>by kernel_rfl)
end Vg.Tryz
namespace Vg.Tryz
open Go Vg Go.Proofs
set_option linter.unusedVariables false
set_option maxRecDepth 1000000
def xY (k:Nat):List (FuncId×aF):=(193,⟨[.val ab q3],[.val ab qM],dN k,[]⟩)::(uW k)
theorem K0 (k:Nat):ae Tryz.prog (xY k):=ae.ev ax mixed (IE k) nA nA k Tryz.func193 (by kernel_rfl) (fun x=>by kernel_rfl)
def KU:Nat→Option aM:=fun|3=>some ⟨[(0,.val (.sl ab) (.sl (.sha [1]))),(3,.val (.sl ab) (.sl (.row 3 [3] true))),(4,.val (.int .i64) .leaf)],4⟩|_=>none
def AB (k:Nat):List (FuncId×aF):=(149,⟨[.val (.sl ab) .shr],[.val (.sl ab) .own],dM k,[]⟩)::(xY k)
theorem Mp (k:Nat):ae Tryz.prog (AB k):=ae.ev ax mixed (K0 k) KU nA k Tryz.func149 (by kernel_rfl) (fun x=>by kernel_rfl)
def yE (k:Nat):List (FuncId×aF):=(310,⟨[.val ay (.pair .leaf .shr)],[.val ay (.pair .leaf .own)],ni k,[]⟩)::(AB k)
theorem KO (k:Nat):ae Tryz.prog (yE k):=ae.ev ax mixed (Mp k) nA nA k Tryz.func310 (by kernel_rfl) (fun x=>by kernel_rfl)
def HH:Nat→Option aM:=fun|3=>some ⟨[(1,.box 3 ak cR),(2,.box 4 ak yH),(3,.box 5 ak Ci),(4,.val (.int .i64) .leaf)],7⟩|_=>none
def xP (k:Nat):List (FuncId×aF):=(235,⟨[.val ak (.pair .leaf (.pair .leaf .shr))],[.val ak (.pair .leaf (.pair .leaf .own))],jL k,[]⟩)::(yE k)
theorem K1 (k:Nat):ae Tryz.prog (xP k):=ae.ev ax mixed (KO k) HH nA k Tryz.func235 (by kernel_rfl) (fun x=>by kernel_rfl)
def Jx:Nat→Option aM:=fun|3=>some ⟨[(0,.val (.sl ak) (.sl (.sha [1]))),(3,.val (.sl ak) (.sl (.row 3 [3] true))),(4,.val (.int .i64) .leaf)],4⟩|_=>none
def yi (k:Nat):List (FuncId×aF):=(147,⟨[.val (.sl ak) .shr],[.val (.sl ak) .own],qD k,[]⟩)::(xP k)
theorem K8 (k:Nat):ae Tryz.prog (yi k):=ae.ev ax mixed (K1 k) Jx nA k Tryz.func147 (by kernel_rfl) (fun x=>by kernel_rfl)
def yo (k:Nat):List (FuncId×aF):=(236,⟨[.val aU (.pair .shr .leaf)],[.val aU (.pair .own .leaf)],jQ k,[]⟩)::(yi k)
theorem Lw (k:Nat):ae Tryz.prog (yo k):=ae.ev ax mixed (K8 k) nA nA k Tryz.func236 (by kernel_rfl) (fun x=>by kernel_rfl)
def K7:Nat→Option aM:=fun|3=>some ⟨[(0,.val (.sl aU) (.sl (.sha [1]))),(3,.val (.sl aU) (.sl (.row 3 [3] true))),(4,.val (.int .i64) .leaf)],4⟩|_=>none
def zA (k:Nat):List (FuncId×aF):=(148,⟨[.val (.sl aU) .shr],[.val (.sl aU) .own],sR k,[]⟩)::(yo k)
theorem Mr (k:Nat):ae Tryz.prog (zA k):=ae.ev ax mixed (Lw k) K7 nA k Tryz.func148 (by kernel_rfl) (fun x=>by kernel_rfl)
def vN (k:Nat):List (FuncId×aF):=(237,⟨[.val aj (.pair .leaf q4)],[.val aj (.pair .leaf T0)],iF k,[]⟩)::(zA k)
theorem IT (k:Nat):ae Tryz.prog (vN k):=ae.ev ax mixed (Mr k) nA nA k Tryz.func237 (by kernel_rfl) (fun x=>by kernel_rfl)
def EF:Nat→Option aM:=fun|3=>some ⟨[(0,.val (.sl aj) (.sl (.sha [1]))),(3,.val (.sl aj) (.sl (.row 3 [3] true))),(4,.val (.int .i64) .leaf)],4⟩|_=>none
def wJ (k:Nat):List (FuncId×aF):=(150,⟨[.val (.sl aj) .shr],[.val (.sl aj) .own],ph k,[]⟩)::(vN k)
theorem Jb (k:Nat):ae Tryz.prog (wJ k):=ae.ev ax mixed (IT k) EF nA k Tryz.func150 (by kernel_rfl) (fun x=>by kernel_rfl)
def uA (k:Nat):List (FuncId×aF):=(151,⟨[.val aN q6],[.val aN Uf],gO k,[]⟩)::(wJ k)
theorem E0 (k:Nat):ae Tryz.prog (uA k):=ae.ev ax mixed (Jb k) nA nA k Tryz.func151 (by kernel_rfl) (fun x=>by kernel_rfl)
def wH (k:Nat):List (FuncId×aF):=(152,⟨[.val ah (.pair .leaf (.pair .leaf (.pair q3 (.pair .shr (.pair .leaf q7)))))],[.val ah (.pair .leaf (.pair .leaf (.pair qM (.pair .own (.pair .leaf S2)))))],ir k,[]⟩)::(uA k)
theorem Ip (k:Nat):ae Tryz.prog (wH k):=ae.ev ax mixed (E0 k) nA nA k Tryz.func152 (by kernel_rfl) (fun x=>by kernel_rfl)
def vU (k:Nat):List (FuncId×aF):=(238,⟨[.val aq (.pair .leaf (.pair .leaf (.pair q3 (.pair .shr (.pair .leaf (.pair .leaf (.pair .leaf (.pair .shr ub))))))))],[.val aq (.pair .leaf (.pair .leaf (.pair qM (.pair .own (.pair .leaf (.pair .leaf (.pair .leaf (.pair .own ub))))))))],iO k,[]⟩)::(wH k)
theorem IL (k:Nat):ae Tryz.prog (vU k):=ae.ev ax mixed (Ip k) nA nA k Tryz.func238 (by kernel_rfl) (fun x=>by kernel_rfl)
def Jg:Nat→Option aM:=fun|3=>some ⟨[(0,.val (.sl aq) (.sl (.sha [1]))),(3,.val (.sl aq) (.sl (.row 3 [3] true))),(4,.val (.int .i64) .leaf)],4⟩|_=>none
def xQ (k:Nat):List (FuncId×aF):=(153,⟨[.val (.sl aq) .shr],[.val (.sl aq) .own],qH k,[]⟩)::(vU k)
theorem KM (k:Nat):ae Tryz.prog (xQ k):=ae.ev ax mixed (IL k) Jg nA k Tryz.func153 (by kernel_rfl) (fun x=>by kernel_rfl)
def F8:Nat→Option aM:=fun|11=>some ⟨[(1,.box 3 aE (.pair (.pair .leaf (.pair .leaf (.pair .leaf cR))) (.pair .leaf (.pair .leaf (.pair (.sl (.sha [1])) (.pair (.sl (.sha [1])) (.pair (.sl (.sha [1])) (.pair .leaf (.pair (.sl (.sha [1])) (.pair .leaf (.pair (.sl (.sha [1])) (.pair (.sl (.sha [1])) (.pair (.sl (.sha [1])) dg))))))))))))),(2,.box 4 aE (.pair (.pair .leaf (.pair .leaf (.pair .leaf yH))) (.pair .leaf (.pair .leaf (.pair (.sl (.sha [])) (.pair (.sl (.sha [])) (.pair (.sl (.sha [])) (.pair .leaf (.pair (.sl (.sha [])) (.pair .leaf (.pair (.sl (.sha [])) (.pair (.sl (.sha [])) B6)))))))))))),(3,.box 5 aE (.pair (.pair .leaf (.pair .leaf (.pair .leaf Ci))) (.pair .leaf (.pair .leaf (.pair (.sl (.row 7 [7] true)) (.pair (.sl (.row 8 [8] true)) (.pair (.sl (.row 9 [9] true)) (.pair .leaf (.pair (.sl (.row 10 [10] true)) (.pair .leaf (.pair (.sl (.row 11 [] true)) (.pair (.sl (.row 12 [12] true)) (.pair (.sl (.sha [1])) dg))))))))))))),(4,.box 13 bC (.pair .leaf (.pair .leaf (.pair .leaf Ci)))),(5,.val (.int .i64) .leaf)],14⟩|18=>some ⟨[(1,.box 3 aE (.pair (.pair .leaf (.pair .leaf (.pair .leaf cR))) (.pair .leaf (.pair .leaf (.pair (.sl (.sha [1])) (.pair (.sl (.sha [1])) (.pair (.sl (.sha [1])) (.pair .leaf (.pair (.sl (.sha [1])) (.pair .leaf (.pair (.sl (.sha [1])) (.pair (.sl (.sha [1])) (.pair (.sl (.sha [1])) dg))))))))))))),(2,.box 4 aE (.pair (.pair .leaf (.pair .leaf (.pair .leaf yH))) (.pair .leaf (.pair .leaf (.pair (.sl (.sha [])) (.pair (.sl (.sha [])) (.pair (.sl (.sha [])) (.pair .leaf (.pair (.sl (.sha [])) (.pair .leaf (.pair (.sl (.sha [])) (.pair (.sl (.sha [])) B6)))))))))))),(3,.box 5 aE (.pair (.pair .leaf (.pair .leaf (.pair .leaf Ci))) (.pair .leaf (.pair .leaf (.pair (.sl (.row 7 [7] true)) (.pair (.sl (.row 8 [8] true)) (.pair (.sl (.row 9 [9] true)) (.pair .leaf (.pair (.sl (.row 10 [10] true)) (.pair .leaf (.pair (.sl (.row 11 [] true)) (.pair (.sl (.row 12 [12] true)) (.pair (.sl (.row 13 [13] true)) Uo))))))))))))),(4,.box 15 bC (.pair .leaf (.pair .leaf (.pair .leaf Ci)))),(7,.val (.int .i64) .leaf)],16⟩|_=>none
def Gq:Nat→Option aM:=fun|15=>some ⟨[(1,.box 3 aE (.pair (.pair .leaf (.pair .leaf (.pair .leaf cR))) (.pair .leaf (.pair .leaf (.pair (.sl (.sha [1])) (.pair (.sl (.sha [1])) (.pair (.sl (.sha [1])) (.pair .leaf (.pair (.sl (.sha [1])) (.pair .leaf (.pair (.sl (.sha [1])) (.pair (.sl (.sha [1])) (.pair (.sl (.sha [1])) dg))))))))))))),(2,.box 4 aE (.pair (.pair .leaf (.pair .leaf (.pair .leaf yH))) (.pair .leaf (.pair .leaf (.pair (.sl (.sha [])) (.pair (.sl (.sha [])) (.pair (.sl (.sha [])) (.pair .leaf (.pair (.sl (.sha [])) (.pair .leaf (.pair (.sl (.sha [])) (.pair (.sl (.sha [])) B6)))))))))))),(3,.box 5 aE (.pair (.pair .leaf (.pair .leaf (.pair .leaf Ci))) (.pair .leaf (.pair .leaf (.pair (.sl (.row 7 [7] true)) (.pair (.sl (.row 8 [8] true)) (.pair (.sl (.row 9 [9] true)) (.pair .leaf (.pair (.sl (.row 10 [10] true)) (.pair .leaf (.pair (.sl (.row 11 [] true)) (.pair (.sl (.row 12 [12] true)) (.pair (.sl (.sha [1])) dg))))))))))))),(4,.box 13 bC (.pair .leaf (.pair .leaf (.pair .leaf Ci))))],14⟩|22=>some ⟨[(1,.box 3 aE (.pair (.pair .leaf (.pair .leaf (.pair .leaf cR))) (.pair .leaf (.pair .leaf (.pair (.sl (.sha [1])) (.pair (.sl (.sha [1])) (.pair (.sl (.sha [1])) (.pair .leaf (.pair (.sl (.sha [1])) (.pair .leaf (.pair (.sl (.sha [1])) (.pair (.sl (.sha [1])) (.pair (.sl (.sha [1])) dg))))))))))))),(2,.box 4 aE (.pair (.pair .leaf (.pair .leaf (.pair .leaf yH))) (.pair .leaf (.pair .leaf (.pair (.sl (.sha [])) (.pair (.sl (.sha [])) (.pair (.sl (.sha [])) (.pair .leaf (.pair (.sl (.sha [])) (.pair .leaf (.pair (.sl (.sha [])) (.pair (.sl (.sha [])) B6)))))))))))),(3,.box 5 aE (.pair (.pair .leaf (.pair .leaf (.pair .leaf Ci))) (.pair .leaf (.pair .leaf (.pair (.sl (.row 7 [7] true)) (.pair (.sl (.row 8 [8] true)) (.pair (.sl (.row 9 [9] true)) (.pair .leaf (.pair (.sl (.row 10 [10] true)) (.pair .leaf (.pair (.sl (.row 11 [] true)) (.pair (.sl (.row 12 [12] true)) (.pair (.sl (.row 13 [13] true)) Uo))))))))))))),(4,.box 15 bC (.pair .leaf (.pair .leaf (.pair .leaf Ci))))],16⟩|_=>none
def wU (k:Nat):List (FuncId×aF):=(75,⟨[.val aE (.pair (.pair .leaf (.pair .leaf q0)) (.pair .leaf (.pair .leaf (.pair .shr (.pair .shr (.pair .shr (.pair .leaf (.pair .shr (.pair .leaf (.pair .shr jb))))))))))],[.val aE (.pair (.pair .leaf (.pair .leaf wN)) (.pair .leaf (.pair .leaf (.pair .own (.pair .own (.pair .own (.pair .leaf (.pair .own (.pair .leaf (.pair .own Cv))))))))))],lL k,[]⟩)::(xQ k)
theorem H4 (k:Nat):ae Tryz.prog (wU k):=ae.ev ax mixed (KM k) F8 Gq k Tryz.func75 (by kernel_rfl) (fun x=>by kernel_rfl)
def Cm (k:Nat):List (FuncId×aF):=(77,⟨[.val (.int .i64) .leaf,.val (.int .i64) .leaf,.val (.int .i64) .leaf],[.val .bool .leaf],bE k,[]⟩)::(wU k)
theorem N8 (k:Nat):ae Tryz.prog (Cm k):=ae.ev ax mixed (H4 k) nA nA k Tryz.func77 (by kernel_rfl) (fun x=>by kernel_rfl)
def Iv:Nat→Option aM:=fun|2=>some ⟨[(0,.val .str .leaf),(3,.val (.int .i64) .leaf)],3⟩|_=>none
def J9:Nat→Option aM:=fun|6=>some ⟨[(0,.val .str .leaf)],3⟩|_=>none
def yV (k:Nat):List (FuncId×aF):=(272,⟨[.val .str .leaf],[.val .bool .leaf],jG k,[]⟩)::(Cm k)
theorem KK (k:Nat):ae Tryz.prog (yV k):=ae.ev ax mixed (N8 k) Iv J9 k Tryz.func272 (by kernel_rfl) (fun x=>by kernel_rfl)
def Cw (k:Nat):List (FuncId×aF):=(188,⟨[.val .str .leaf,.val .str .leaf],[.val .bool .leaf],fb k,[]⟩)::(yV k)
theorem Oq (k:Nat):ae Tryz.prog (Cw k):=ae.ev ax mixed (KK k) nA nA k Tryz.func188 (by kernel_rfl) (fun x=>by kernel_rfl)
def GU:Nat→Option aM:=fun|2=>some ⟨[(0,.val (.sl .str) (.sl (.sha [1]))),(3,.val (.int .i64) .leaf)],3⟩|_=>none
def u7 (k:Nat):List (FuncId×aF):=(311,⟨[.val (.sl .str) .shr],[.val .bool .leaf],fU k,[]⟩)::(Cw k)
theorem JF (k:Nat):ae Tryz.prog (u7 k):=ae.ev ax mixed (Oq k) GU nA k Tryz.func311 (by kernel_rfl) (fun x=>by kernel_rfl)
def NP:Nat→Option aM:=fun|2=>some ⟨[(0,.val (.sl .str) (.sl (.sha [1]))),(3,.val (.int .i64) .leaf)],3⟩|_=>none
def MW:Nat→Option aM:=fun|6=>some ⟨[(0,.val (.sl .str) (.sl (.sha [1])))],3⟩|_=>none
def Cg (k:Nat):List (FuncId×aF):=(239,⟨[.val (.sl .str) .shr],[.val .bool .leaf],pT k,[]⟩)::(u7 k)
theorem OG (k:Nat):ae Tryz.prog (Cg k):=ae.ev ax mixed (JF k) NP MW k Tryz.func239 (by kernel_rfl) (fun x=>by kernel_rfl)
def yA (k:Nat):List (FuncId×aF):=(154,⟨[.val bC (.pair .leaf (.pair .leaf q0))],[.val .bool .leaf],nc k,[]⟩)::(Cg k)
theorem KT (k:Nat):ae Tryz.prog (yA k):=ae.ev ax mixed (OG k) nA nA k Tryz.func154 (by kernel_rfl) (fun x=>by kernel_rfl)
def GN:Nat→Option aM:=fun|2=>some ⟨[(0,.val .str .leaf),(3,.val (.int .i64) .leaf)],3⟩|_=>none
def Fl:Nat→Option aM:=fun|6=>some ⟨[(0,.val .str .leaf)],3⟩|_=>none
def xb (k:Nat):List (FuncId×aF):=(273,⟨[.val .str .leaf],[.val .bool .leaf],iR k,[]⟩)::(yA k)
theorem JC (k:Nat):ae Tryz.prog (xb k):=ae.ev ax mixed (KT k) GN Fl k Tryz.func273 (by kernel_rfl) (fun x=>by kernel_rfl)
def u9 (k:Nat):List (FuncId×aF):=(187,⟨[.val af (.pair .leaf .leaf)],[.val .bool .leaf],lX k,[]⟩)::(xb k)
theorem I7 (k:Nat):ae Tryz.prog (u9 k):=ae.ev ax mixed (JC k) nA nA k Tryz.func187 (by kernel_rfl) (fun x=>by kernel_rfl)
def Lg:Nat→Option aM:=fun|2=>some ⟨[(0,.val (.sl af) (.sl (.sha [1]))),(3,.val (.int .i64) .leaf)],3⟩|_=>none
def Ls:Nat→Option aM:=fun|6=>some ⟨[(0,.val (.sl af) (.sl (.sha [1])))],3⟩|_=>none
def Ay (k:Nat):List (FuncId×aF):=(103,⟨[.val (.sl af) .shr],[.val .bool .leaf],fi k,[]⟩)::(u9 k)
theorem Nv (k:Nat):ae Tryz.prog (Ay k):=ae.ev ax mixed (I7 k) Lg Ls k Tryz.func103 (by kernel_rfl) (fun x=>by kernel_rfl)
def wP (k:Nat):List (FuncId×aF):=(242,⟨[.val ab q3],[.val .bool .leaf],du k,[]⟩)::(Ay k)
theorem HZ (k:Nat):ae Tryz.prog (wP k):=ae.ev ax mixed (Nv k) nA nA k Tryz.func242 (by kernel_rfl) (fun x=>by kernel_rfl)
def E4:Nat→Option aM:=fun|5=>some ⟨[(0,.val (.sl af) (.sl (.sha [1]))),(3,.val .str .leaf),(4,.val (.int .i64) .leaf)],3⟩|_=>none
def F7:Nat→Option aM:=fun|9=>some ⟨[(0,.val (.sl af) (.sl (.sha [1]))),(3,.val .str .leaf),(4,.val (.int .i64) .leaf)],3⟩|10=>some ⟨[(3,.val .str .leaf)],3⟩|_=>none
def u6 (k:Nat):List (FuncId×aF):=(360,⟨[.val (.sl af) .shr],[.val .str .leaf],lU k,[]⟩)::(wP k)
theorem Jz (k:Nat):ae Tryz.prog (u6 k):=ae.ev ax mixed (HZ k) E4 F7 k Tryz.func360 (by kernel_rfl) (fun x=>by kernel_rfl)
end Vg.Tryz
namespace Vg.Tryz
open Go Vg Go.Proofs
set_option linter.unusedVariables false
set_option maxRecDepth 1000000
def N4:Nat→Option aM:=fun|3=>some ⟨[(0,.val .str .leaf),(3,.val (.int .i64) .leaf),(4,.val (.int .i64) .leaf)],3⟩|_=>none
def FL (k:Nat):List (FuncId×aF):=(359,⟨[.val .str .leaf],[.val (.int .i64) .leaf],jh k,[]⟩)::(u6 k)
theorem Qt (k:Nat):ae Tryz.prog (FL k):=ae.ev ax mixed (Jz k) N4 nA k Tryz.func359 (by kernel_rfl) (fun x=>by kernel_rfl)
def yG (k:Nat):List (FuncId×aF):=(318,⟨[.val (.sl af) .shr],[.val (.int .i64) .leaf],dP k,[]⟩)::(FL k)
theorem Lr (k:Nat):ae Tryz.prog (yG k):=ae.ev ax mixed (Qt k) nA nA k Tryz.func318 (by kernel_rfl) (fun x=>by kernel_rfl)
def GP:Nat→Option aM:=fun|4=>some ⟨[(0,.val (.sl af) (.sl (.sha [1]))),(1,.val (.sl af) (.sl (.sha [1]))),(5,.val (.int .i64) .leaf)],3⟩|_=>none
def vT (k:Nat):List (FuncId×aF):=(249,⟨[.val (.sl af) .shr,.val (.sl af) .shr],[.val .bool .leaf],cL k,[]⟩)::(yG k)
theorem Ix (k:Nat):ae Tryz.prog (vT k):=ae.ev ax mixed (Lr k) GP nA k Tryz.func249 (by kernel_rfl) (fun x=>by kernel_rfl)
def EW:Nat→Option aM:=fun|2=>some ⟨[(1,.box 3 ay (.pair .leaf (.sl (.sha [1])))),(3,.val (.int .i64) .leaf)],4⟩|7=>some ⟨[(1,.box 3 ay (.pair .leaf (.sl (.sha [1])))),(3,.val (.int .i64) .leaf),(4,.val (.int .i64) .leaf)],4⟩|_=>none
def E8:Nat→Option aM:=fun|11=>some ⟨[(1,.box 3 ay (.pair .leaf (.sl (.sha [1]))))],4⟩|_=>none
def vf (k:Nat):List (FuncId×aF):=(356,⟨[.val ay (.pair .leaf .shr)],[.val .bool .leaf],lF k,[]⟩)::(vT k)
theorem Ij (k:Nat):ae Tryz.prog (vf k):=ae.ev ax mixed (Ix k) EW E8 k Tryz.func356 (by kernel_rfl) (fun x=>by kernel_rfl)
def yO (k:Nat):List (FuncId×aF):=(317,⟨[.val (.int .i64) .leaf,.val (.int .i64) .leaf],[.val (.int .i64) .leaf],eG k,[]⟩)::(vf k)
theorem Lq (k:Nat):ae Tryz.prog (yO k):=ae.ev ax mixed (Ij k) nA nA k Tryz.func317 (by kernel_rfl) (fun x=>by kernel_rfl)
def Jn:Nat→Option aM:=fun|2=>some ⟨[(1,.val (.int .i64) .leaf),(2,.val (.int .i64) .leaf),(3,.box 3 ak cR),(7,.val (.int .i64) .leaf)],4⟩|_=>none
def Jq:Nat→Option aM:=fun|6=>some ⟨[(3,.box 3 ak cR)],4⟩|_=>none
def yh (k:Nat):List (FuncId×aF):=(312,⟨[.val ak (.pair .leaf (.pair .leaf .shr)),.val (.int .i64) .leaf,.val (.int .i64) .leaf],[.val .bool .leaf],nb k,[]⟩)::(yO k)
theorem LK (k:Nat):ae Tryz.prog (yh k):=ae.ev ax mixed (Lq k) Jn Jq k Tryz.func312 (by kernel_rfl) (fun x=>by kernel_rfl)
def EZ:Nat→Option aM:=fun|2=>some ⟨[(0,.val (.sl ak) (.sl (.sha [1]))),(3,.val (.int .i64) .leaf)],3⟩|_=>none
def Ha:Nat→Option aM:=fun|6=>some ⟨[(0,.val (.sl ak) (.sl (.sha [1])))],3⟩|_=>none
def vt (k:Nat):List (FuncId×aF):=(240,⟨[.val (.sl ak) .shr],[.val .bool .leaf],lT k,[]⟩)::(yh k)
theorem Ja (k:Nat):ae Tryz.prog (vt k):=ae.ev ax mixed (LK k) EZ Ha k Tryz.func240 (by kernel_rfl) (fun x=>by kernel_rfl)
def Dd:Nat→Option aM:=fun|3=>some ⟨[(1,.box 3 ak cR),(3,.val (.sl ab) (.sl (.row 4 [4] true))),(4,.val (.int .i64) .leaf)],5⟩|_=>none
def uH (k:Nat):List (FuncId×aF):=(280,⟨[.val ak (.pair .leaf (.pair .leaf .shr))],[.val (.sl ab) .own],gH k,[]⟩)::(vt k)
theorem GB (k:Nat):ae Tryz.prog (uH k):=ae.ev ax mixed (Ja k) Dd nA k Tryz.func280 (by kernel_rfl) (fun x=>by kernel_rfl)
def GZ:Nat→Option aM:=fun|2=>some ⟨[(0,.val (.sl af) (.sl (.sha [1]))),(1,.val (.sl af) (.sl (.sha [1]))),(5,.val (.int .i64) .leaf)],3⟩|_=>none
def Fq:Nat→Option aM:=fun|8=>some ⟨[(0,.val (.sl af) (.sl (.sha [1]))),(1,.val (.sl af) (.sl (.sha [1])))],3⟩|_=>none
def wb (k:Nat):List (FuncId×aF):=(338,⟨[.val (.sl af) .shr,.val (.sl af) .shr],[.val .bool .leaf],iI k,[]⟩)::(uH k)
theorem Hx (k:Nat):ae Tryz.prog (wb k):=ae.ev ax mixed (GB k) GZ Fq k Tryz.func338 (by kernel_rfl) (fun x=>by kernel_rfl)
def Ie:Nat→Option aM:=fun|3=>some ⟨[(0,.val (.sl ab) (.sl (.sha [1]))),(3,.val (.sl ab) (.sl (.row 3 [2] false))),(4,.val (.int .i64) .leaf)],4⟩|7=>some ⟨[(0,.val (.sl ab) (.sl (.sha [1]))),(3,.val (.sl ab) (.sl (.row 3 [2] false))),(4,.val (.int .i64) .leaf),(5,.box 4 ab T6),(6,.val (.int .i64) .leaf)],6⟩|_=>none
def Ji:Nat→Option aM:=fun|9=>some ⟨[(0,.val (.sl ab) (.sl (.sha [1]))),(3,.val (.sl ab) (.sl (.row 3 [2] false))),(4,.val (.int .i64) .leaf),(5,.box 4 ab T6),(6,.val (.int .i64) .leaf)],6⟩|_=>none
def yq (k:Nat):List (FuncId×aF):=(281,⟨[.val (.sl ab) .shr],[.val (.sl ab) .shr],jI k,[]⟩)::(wb k)
theorem K2 (k:Nat):ae Tryz.prog (yq k):=ae.ev ax mixed (Hx k) Ie Ji k Tryz.func281 (by kernel_rfl) (fun x=>by kernel_rfl)
def Bm:Nat→Option aM:=fun|3=>some ⟨[(0,.val (.sl ak) (.sl (.sha [1]))),(3,.val (.sl ab) (.sl (.row 3 [3] true))),(4,.val (.int .i64) .leaf)],4⟩|_=>none
def BW:Nat→Option aM:=fun|6=>some ⟨[(3,.val (.sl ab) (.sl (.row 3 [3] true)))],4⟩|_=>none
def tf (k:Nat):List (FuncId×aF):=(241,⟨[.val (.sl ak) .shr],[.val (.sl ab) .shr],jm k,[]⟩)::(yq k)
theorem DV (k:Nat):ae Tryz.prog (tf k):=ae.ev ax mixed (K2 k) Bm BW k Tryz.func241 (by kernel_rfl) (fun x=>by kernel_rfl)
def B9 (k:Nat):List (FuncId×aF):=(191,⟨[.val bC (.pair .leaf (.pair .leaf q0)),.val ab q3],[.val .bool .leaf],mw k,[]⟩)::(tf k)
theorem Oe (k:Nat):ae Tryz.prog (B9 k):=ae.ev ax mixed (DV k) nA nA k Tryz.func191 (by kernel_rfl) (fun x=>by kernel_rfl)
def D5:Nat→Option aM:=fun|5=>some ⟨[(1,.box 3 aE (.pair (.pair .leaf (.pair .leaf (.pair .leaf cR))) (.pair .leaf (.pair .leaf (.pair (.sl (.sha [1])) (.pair (.sl (.sha [1])) (.pair (.sl (.sha [1])) (.pair .leaf (.pair (.sl (.sha [1])) (.pair .leaf (.pair (.sl (.sha [1])) (.pair (.sl (.sha [1])) (.pair (.sl (.sha [1])) dg))))))))))))),(3,.val (.sl ab) (.sl (.sha [1,2]))),(4,.val (.int .i64) .leaf)],4⟩|_=>none
def Ds:Nat→Option aM:=fun|9=>some ⟨[(1,.box 3 aE (.pair (.pair .leaf (.pair .leaf (.pair .leaf cR))) (.pair .leaf (.pair .leaf (.pair (.sl (.sha [1])) (.pair (.sl (.sha [1])) (.pair (.sl (.sha [1])) (.pair .leaf (.pair (.sl (.sha [1])) (.pair .leaf (.pair (.sl (.sha [1])) (.pair (.sl (.sha [1])) (.pair (.sl (.sha [1])) dg))))))))))))),(3,.val (.sl ab) (.sl (.sha [1,2])))],4⟩|_=>none
def uI (k:Nat):List (FuncId×aF):=(155,⟨[.val aE (.pair (.pair .leaf (.pair .leaf q0)) (.pair .leaf (.pair .leaf (.pair .shr (.pair .shr (.pair .shr (.pair .leaf (.pair .shr (.pair .leaf (.pair .shr jb))))))))))],[.val .bool .leaf],kq k,[]⟩)::(B9 k)
theorem Fe (k:Nat):ae Tryz.prog (uI k):=ae.ev ax mixed (Oe k) D5 Ds k Tryz.func155 (by kernel_rfl) (fun x=>by kernel_rfl)
def Hz:Nat→Option aM:=fun|2=>some ⟨[(0,.val (.sl ab) (.sl (.sha [1]))),(3,.val (.int .i64) .leaf)],3⟩|_=>none
def yf (k:Nat):List (FuncId×aF):=(156,⟨[.val (.sl ab) .shr],[.val .bool .leaf],gq k,[]⟩)::(uI k)
theorem Lj (k:Nat):ae Tryz.prog (yf k):=ae.ev ax mixed (Fe k) Hz nA k Tryz.func156 (by kernel_rfl) (fun x=>by kernel_rfl)
def LJ:Nat→Option aM:=fun|2=>some ⟨[(1,.box 3 aU (.pair (.sl (.sha [1])) .leaf)),(3,.val (.int .i64) .leaf)],4⟩|_=>none
def Lz:Nat→Option aM:=fun|6=>some ⟨[(1,.box 3 aU (.pair (.sl (.sha [1])) .leaf))],4⟩|_=>none
def zD (k:Nat):List (FuncId×aF):=(157,⟨[.val aU (.pair .shr .leaf)],[.val .bool .leaf],ow k,[]⟩)::(yf k)
theorem MU (k:Nat):ae Tryz.prog (zD k):=ae.ev ax mixed (Lj k) LJ Lz k Tryz.func157 (by kernel_rfl) (fun x=>by kernel_rfl)
def tH (k:Nat):List (FuncId×aF):=(244,⟨[.val (.int .i64) .leaf],[.val (.sl (.int .i64)) .own],kD k,[]⟩)::(zD k)
theorem E6 (k:Nat):ae Tryz.prog (tH k):=ae.ev ax mixed (MU k) nA nA k Tryz.func244 (by kernel_rfl) (fun x=>by kernel_rfl)
def Jr:Nat→Option aM:=fun|2=>some ⟨[(0,.val (.sl (.int .i64)) (.sl (.sha [1]))),(1,.val (.int .i64) .leaf),(5,.val (.int .i64) .leaf)],3⟩|_=>none
def yF (k:Nat):List (FuncId×aF):=(243,⟨[.val (.sl (.int .i64)) .shr,.val (.int .i64) .leaf],[.val .bool .leaf],mP k,[]⟩)::(tH k)
theorem L7 (k:Nat):ae Tryz.prog (yF k):=ae.ev ax mixed (E6 k) Jr nA k Tryz.func243 (by kernel_rfl) (fun x=>by kernel_rfl)
def ym (k:Nat):List (FuncId×aF):=(158,⟨[.val aq (.pair .leaf (.pair .leaf (.pair q3 (.pair .shr (.pair .leaf (.pair .leaf (.pair .leaf (.pair .shr ub))))))))],[.val .bool .leaf],gp k,[]⟩)::(yF k)
theorem KX (k:Nat):ae Tryz.prog (ym k):=ae.ev ax mixed (L7 k) nA nA k Tryz.func158 (by kernel_rfl) (fun x=>by kernel_rfl)
def sj (k:Nat):List (FuncId×aF):=(248,⟨[.val ab q3,.val ab q3],[.val .bool .leaf],cT k,[]⟩)::(ym k)
theorem Dk (k:Nat):ae Tryz.prog (sj k):=ae.ev ax mixed (KX k) nA nA k Tryz.func248 (by kernel_rfl) (fun x=>by kernel_rfl)
def vL (k:Nat):List (FuncId×aF):=(313,⟨[.val ab q3],[.val .bool .leaf],eU k,[]⟩)::(sj k)
theorem Im (k:Nat):ae Tryz.prog (vL k):=ae.ev ax mixed (Dk k) nA nA k Tryz.func313 (by kernel_rfl) (fun x=>by kernel_rfl)
def E3:Nat→Option aM:=fun|2=>some ⟨[(1,.box 3 ah (.pair .leaf (.pair .leaf (.pair uS (.pair (.sl (.sha [1])) (.pair .leaf (.pair (.sl (.sha [1])) uL))))))),(3,.val (.int .i64) .leaf)],4⟩|_=>none
def Eg:Nat→Option aM:=fun|6=>some ⟨[(1,.box 3 ah (.pair .leaf (.pair .leaf (.pair uS (.pair (.sl (.sha [1])) (.pair .leaf (.pair (.sl (.sha [1])) uL)))))))],4⟩|_=>none
def vm (k:Nat):List (FuncId×aF):=(314,⟨[.val ah (.pair .leaf (.pair .leaf (.pair q3 (.pair .shr (.pair .leaf q7)))))],[.val .bool .leaf],lB k,[]⟩)::(vL k)
theorem IZ (k:Nat):ae Tryz.prog (vm k):=ae.ev ax mixed (Im k) E3 Eg k Tryz.func314 (by kernel_rfl) (fun x=>by kernel_rfl)
def xW (k:Nat):List (FuncId×aF):=(245,⟨[.val ah (.pair .leaf (.pair .leaf (.pair q3 (.pair .shr (.pair .leaf q7))))),.val (.int .i64) .leaf],[.val .bool .leaf],mI k,[]⟩)::(vm k)
theorem L0 (k:Nat):ae Tryz.prog (xW k):=ae.ev ax mixed (IZ k) nA nA k Tryz.func245 (by kernel_rfl) (fun x=>by kernel_rfl)
def sB (k:Nat):List (FuncId×aF):=(246,⟨[.val (.int .i64) .leaf],[.val (.int .i64) .leaf],ep k,[]⟩)::(xW k)
theorem DR (k:Nat):ae Tryz.prog (sB k):=ae.ev ax mixed (L0 k) nA nA k Tryz.func246 (by kernel_rfl) (fun x=>by kernel_rfl)
def yx (k:Nat):List (FuncId×aF):=(279,⟨[.val (.sl ak) .shr,.val (.sl af) .shr],[.val (.int .i64) .leaf],ng k,[]⟩)::(sB k)
theorem LV (k:Nat):ae Tryz.prog (yx k):=ae.ev ax mixed (DR k) nA nA k Tryz.func279 (by kernel_rfl) (fun x=>by kernel_rfl)
def MH:Nat→Option aM:=fun|2=>some ⟨[(1,.val (.int .i64) .leaf),(2,.box 3 ak cR),(5,.val (.int .i64) .leaf)],4⟩|_=>none
def BX (k:Nat):List (FuncId×aF):=(357,⟨[.val ak (.pair .leaf (.pair .leaf .shr)),.val (.int .i64) .leaf],[.val (.int .i64) .leaf],pR k,[]⟩)::(yx k)
theorem Og (k:Nat):ae Tryz.prog (BX k):=ae.ev ax mixed (LV k) MH nA k Tryz.func357 (by kernel_rfl) (fun x=>by kernel_rfl)
end Vg.Tryz
namespace Vg.Tryz
open Go Vg Go.Proofs
set_option linter.unusedVariables false
set_option maxRecDepth 1000000
def Eu:Nat→Option aM:=fun|2=>some ⟨[(1,.val (.sl af) (.sl (.sha [1]))),(2,.box 3 ay (.pair .leaf (.sl (.sha [1])))),(5,.val (.int .i64) .leaf)],4⟩|_=>none
def wX (k:Nat):List (FuncId×aF):=(358,⟨[.val ay (.pair .leaf .shr),.val (.sl af) .shr],[.val (.int .i64) .leaf],lv k,[]⟩)::(BX k)
theorem HY (k:Nat):ae Tryz.prog (wX k):=ae.ev ax mixed (Og k) Eu nA k Tryz.func358 (by kernel_rfl) (fun x=>by kernel_rfl)
def yp (k:Nat):List (FuncId×aF):=(315,⟨[.val ak (.pair .leaf (.pair .leaf .shr)),.val (.sl af) .shr],[.val ab qM,.val .bool .leaf],mO k,[]⟩)::(wX k)
theorem LG (k:Nat):ae Tryz.prog (yp k):=ae.ev ax mixed (HY k) nA nA k Tryz.func315 (by kernel_rfl) (fun x=>by kernel_rfl)
def rT (k:Nat):List (FuncId×aF):=(247,⟨[.val (.sl ak) .shr,.val (.sl af) .shr],[.val ab qM,.val .bool .leaf],jt k,[]⟩)::(yp k)
theorem CF (k:Nat):ae Tryz.prog (rT k):=ae.ev ax mixed (LG k) nA nA k Tryz.func247 (by kernel_rfl) (fun x=>by kernel_rfl)
def I4:Nat→Option aM:=fun|4=>some ⟨[(0,.val (.sl ab) (.sl (.sha [1]))),(1,.val (.sl ab) (.sl (.sha [1]))),(5,.val (.int .i64) .leaf)],3⟩|_=>none
def yW (k:Nat):List (FuncId×aF):=(316,⟨[.val (.sl ab) .shr,.val (.sl ab) .shr],[.val .bool .leaf],mM k,[]⟩)::(rT k)
theorem Lv (k:Nat):ae Tryz.prog (yW k):=ae.ev ax mixed (CF k) I4 nA k Tryz.func316 (by kernel_rfl) (fun x=>by kernel_rfl)
def F0:Nat→Option aM:=fun|4=>some ⟨[(2,.box 3 aE (.pair (.pair .leaf (.pair .leaf (.pair .leaf cR))) (.pair .leaf (.pair .leaf (.pair (.sl (.sha [1])) (.pair (.sl (.sha [1])) (.pair (.sl (.sha [1])) (.pair .leaf (.pair (.sl (.sha [1])) (.pair .leaf (.pair (.sl (.sha [1])) (.pair (.sl (.sha [1])) (.pair (.sl (.sha [1])) dg))))))))))))),(3,.box 4 ah (.pair .leaf (.pair .leaf (.pair uS (.pair (.sl (.sha [1])) (.pair .leaf (.pair (.sl (.sha [1])) uL))))))),(5,.val (.sl ab) (.sl (.row 5 [5] true))),(6,.val .bool .leaf),(7,.val (.int .i64) .leaf)],6⟩|_=>none
def GI:Nat→Option aM:=fun|10=>some ⟨[(2,.box 3 aE (.pair (.pair .leaf (.pair .leaf (.pair .leaf cR))) (.pair .leaf (.pair .leaf (.pair (.sl (.sha [1])) (.pair (.sl (.sha [1])) (.pair (.sl (.sha [1])) (.pair .leaf (.pair (.sl (.sha [1])) (.pair .leaf (.pair (.sl (.sha [1])) (.pair (.sl (.sha [1])) (.pair (.sl (.sha [1])) dg))))))))))))),(3,.box 4 ah (.pair .leaf (.pair .leaf (.pair uS (.pair (.sl (.sha [1])) (.pair .leaf (.pair (.sl (.sha [1])) uL))))))),(5,.val (.sl ab) (.sl (.row 5 [5] true))),(6,.val .bool .leaf)],6⟩|_=>none
def wW (k:Nat):List (FuncId×aF):=(250,⟨[.val aE (.pair (.pair .leaf (.pair .leaf q0)) (.pair .leaf (.pair .leaf (.pair .shr (.pair .shr (.pair .shr (.pair .leaf (.pair .shr (.pair .leaf (.pair .shr jb)))))))))),.val ah (.pair .leaf (.pair .leaf (.pair q3 (.pair .shr (.pair .leaf q7)))))],[.val .bool .leaf],eZ k,[]⟩)::(yW k)
theorem Ii (k:Nat):ae Tryz.prog (wW k):=ae.ev ax mixed (Lv k) F0 GI k Tryz.func250 (by kernel_rfl) (fun x=>by kernel_rfl)
def FX:Nat→Option aM:=fun|26=>some ⟨[(2,.box 3 aE (.pair (.pair .leaf (.pair .leaf (.pair .leaf cR))) (.pair .leaf (.pair .leaf (.pair (.sl (.sha [1])) (.pair (.sl (.sha [1])) (.pair (.sl (.sha [1])) (.pair .leaf (.pair (.sl (.sha [1])) (.pair .leaf (.pair (.sl (.sha [1])) (.pair (.sl (.sha [1])) (.pair (.sl (.sha [1])) dg))))))))))))),(5,.box 4 ah (.pair .leaf (.pair .leaf (.pair TW (.pair (.sl (.sha [1,2])) (.pair .leaf (.pair (.sl (.sha [1,2])) (.pair (.sl (.sha [1,2])) (.pair .leaf .leaf))))))))),(6,.box 5 aq (.pair .leaf (.pair .leaf (.pair TW (.pair (.sl (.sha [1,2])) (.pair .leaf (.pair .leaf (.pair .leaf (.pair (.sl (.sha [1,2])) (.pair .leaf (.pair .leaf (.pair .leaf .leaf))))))))))))],6⟩|_=>none
def vD (k:Nat):List (FuncId×aF):=(159,⟨[.val aE (.pair (.pair .leaf (.pair .leaf q0)) (.pair .leaf (.pair .leaf (.pair .shr (.pair .shr (.pair .shr (.pair .leaf (.pair .shr (.pair .leaf (.pair .shr jb)))))))))),.val (.int .i64) .leaf],[.val .bool .leaf],lS k,[]⟩)::(wW k)
theorem Iz (k:Nat):ae Tryz.prog (vD k):=ae.ev ax mixed (Ii k) nA FX k Tryz.func159 (by kernel_rfl) (fun x=>by kernel_rfl)
def sa (k:Nat):List (FuncId×aF):=(251,⟨[.val ah (.pair .leaf (.pair .leaf (.pair q3 (.pair .shr (.pair .leaf q7))))),.val (.int .i64) .leaf],[.val (.int .i64) .leaf],jl k,[]⟩)::(vD k)
theorem Dq (k:Nat):ae Tryz.prog (sa k):=ae.ev ax mixed (Iz k) nA nA k Tryz.func251 (by kernel_rfl) (fun x=>by kernel_rfl)
def qs (k:Nat):List (FuncId×aF):=(252,⟨[.val ah (.pair .leaf (.pair .leaf (.pair q3 (.pair .shr (.pair .leaf q7)))))],[.val .bool .leaf],gC k,[]⟩)::(sa k)
theorem zL (k:Nat):ae Tryz.prog (qs k):=ae.ev ax mixed (Dq k) nA nA k Tryz.func252 (by kernel_rfl) (fun x=>by kernel_rfl)
def Ee:Nat→Option aM:=fun|3=>some ⟨[(1,.box 3 aE (.pair (.pair .leaf (.pair .leaf (.pair .leaf cR))) (.pair .leaf (.pair .leaf (.pair (.sl (.sha [1])) (.pair (.sl (.sha [1])) (.pair (.sl (.sha [1])) (.pair .leaf (.pair (.sl (.sha [1])) (.pair .leaf (.pair (.sl (.sha [1])) (.pair (.sl (.sha [1])) (.pair (.sl (.sha [1])) dg))))))))))))),(3,.val (.sl (.int .i64)) (.sl (.row 4 [] true))),(4,.val (.int .i64) .leaf)],5⟩|8=>some ⟨[(1,.box 3 aE (.pair (.pair .leaf (.pair .leaf (.pair .leaf cR))) (.pair .leaf (.pair .leaf (.pair (.sl (.sha [1])) (.pair (.sl (.sha [1])) (.pair (.sl (.sha [1])) (.pair .leaf (.pair (.sl (.sha [1])) (.pair .leaf (.pair (.sl (.sha [1])) (.pair (.sl (.sha [1])) (.pair (.sl (.sha [1])) dg))))))))))))),(3,.val (.sl (.int .i64)) (.sl (.row 4 [] true))),(5,.val (.int .i64) .leaf),(6,.val (.int .i64) .leaf)],5⟩|20=>some ⟨[(1,.box 3 aE (.pair (.pair .leaf (.pair .leaf (.pair .leaf cR))) (.pair .leaf (.pair .leaf (.pair (.sl (.sha [1])) (.pair (.sl (.sha [1])) (.pair (.sl (.sha [1])) (.pair .leaf (.pair (.sl (.sha [1])) (.pair .leaf (.pair (.sl (.sha [1])) (.pair (.sl (.sha [1])) (.pair (.sl (.sha [1])) dg))))))))))))),(3,.val (.sl (.int .i64)) (.sl (.row 4 [] true))),(5,.val (.int .i64) .leaf),(8,.val (.int .i64) .leaf)],5⟩|_=>none
def D9:Nat→Option aM:=fun|6=>some ⟨[(1,.box 3 aE (.pair (.pair .leaf (.pair .leaf (.pair .leaf cR))) (.pair .leaf (.pair .leaf (.pair (.sl (.sha [1])) (.pair (.sl (.sha [1])) (.pair (.sl (.sha [1])) (.pair .leaf (.pair (.sl (.sha [1])) (.pair .leaf (.pair (.sl (.sha [1])) (.pair (.sl (.sha [1])) (.pair (.sl (.sha [1])) dg))))))))))))),(3,.val (.sl (.int .i64)) (.sl (.row 4 [] true)))],5⟩|15=>some ⟨[(1,.box 3 aE (.pair (.pair .leaf (.pair .leaf (.pair .leaf cR))) (.pair .leaf (.pair .leaf (.pair (.sl (.sha [1])) (.pair (.sl (.sha [1])) (.pair (.sl (.sha [1])) (.pair .leaf (.pair (.sl (.sha [1])) (.pair .leaf (.pair (.sl (.sha [1])) (.pair (.sl (.sha [1])) (.pair (.sl (.sha [1])) dg))))))))))))),(3,.val (.sl (.int .i64)) (.sl (.row 4 [] true))),(5,.val (.int .i64) .leaf),(6,.val (.int .i64) .leaf)],5⟩|19=>some ⟨[(1,.box 3 aE (.pair (.pair .leaf (.pair .leaf (.pair .leaf cR))) (.pair .leaf (.pair .leaf (.pair (.sl (.sha [1])) (.pair (.sl (.sha [1])) (.pair (.sl (.sha [1])) (.pair .leaf (.pair (.sl (.sha [1])) (.pair .leaf (.pair (.sl (.sha [1])) (.pair (.sl (.sha [1])) (.pair (.sl (.sha [1])) dg))))))))))))),(3,.val (.sl (.int .i64)) (.sl (.row 4 [] true))),(5,.val (.int .i64) .leaf)],5⟩|24=>some ⟨[(1,.box 3 aE (.pair (.pair .leaf (.pair .leaf (.pair .leaf cR))) (.pair .leaf (.pair .leaf (.pair (.sl (.sha [1])) (.pair (.sl (.sha [1])) (.pair (.sl (.sha [1])) (.pair .leaf (.pair (.sl (.sha [1])) (.pair .leaf (.pair (.sl (.sha [1])) (.pair (.sl (.sha [1])) (.pair (.sl (.sha [1])) dg))))))))))))),(5,.val (.int .i64) .leaf)],4⟩|_=>none
def tz (k:Nat):List (FuncId×aF):=(160,⟨[.val aE (.pair (.pair .leaf (.pair .leaf q0)) (.pair .leaf (.pair .leaf (.pair .shr (.pair .shr (.pair .shr (.pair .leaf (.pair .shr (.pair .leaf (.pair .shr jb))))))))))],[.val .bool .leaf],gE k,[]⟩)::(qs k)
theorem Ej (k:Nat):ae Tryz.prog (tz k):=ae.ev ax mixed (zL k) Ee D9 k Tryz.func160 (by kernel_rfl) (fun x=>by kernel_rfl)
def Lb:Nat→Option aM:=fun|2=>some ⟨[(0,.val (.sl .str) (.sl (.sha [1]))),(1,.val .str .leaf),(5,.val (.int .i64) .leaf)],3⟩|_=>none
def Ai (k:Nat):List (FuncId×aF):=(369,⟨[.val (.sl .str) .shr,.val .str .leaf],[.val .bool .leaf],nZ k,[]⟩)::(tz k)
theorem M9 (k:Nat):ae Tryz.prog (Ai k):=ae.ev ax mixed (Ej k) Lb nA k Tryz.func369 (by kernel_rfl) (fun x=>by kernel_rfl)
def Gj:Nat→Option aM:=fun|3=>some ⟨[(0,.val (.sl af) (.sl (.sha [1]))),(1,.val (.sl .str) (.sl (.sha [1]))),(5,.val (.sl af) (.sl (.row 3 [] true))),(6,.val (.int .i64) .leaf)],4⟩|_=>none
def vl (k:Nat):List (FuncId×aF):=(342,⟨[.val (.sl af) .shr,.val (.sl .str) .shr],[.val (.sl af) .own],pC k,[]⟩)::(Ai k)
theorem H0 (k:Nat):ae Tryz.prog (vl k):=ae.ev ax mixed (M9 k) Gj nA k Tryz.func342 (by kernel_rfl) (fun x=>by kernel_rfl)
def zt (k:Nat):List (FuncId×aF):=(286,⟨[.val ab q3,.val (.sl .str) .shr],[.val (.sl af) .own],nU k,[]⟩)::(vl k)
theorem Ml (k:Nat):ae Tryz.prog (zt k):=ae.ev ax mixed (H0 k) nA nA k Tryz.func286 (by kernel_rfl) (fun x=>by kernel_rfl)
def Gb:Nat→Option aM:=fun|2=>some ⟨[(1,.val (.sl .str) (.sl (.sha [1]))),(2,.box 3 aj (.pair .leaf (.pair (.sl (.sha [1])) cR))),(5,.val (.int .i64) .leaf)],4⟩|_=>none
def EN:Nat→Option aM:=fun|6=>some ⟨[(2,.box 3 aj (.pair .leaf (.pair (.sl (.sha [1])) cR)))],4⟩|_=>none
def vR (k:Nat):List (FuncId×aF):=(319,⟨[.val aj (.pair .leaf q4),.val (.sl .str) .shr],[.val .bool .leaf],mb k,[]⟩)::(zt k)
theorem IG (k:Nat):ae Tryz.prog (vR k):=ae.ev ax mixed (Ml k) Gb EN k Tryz.func319 (by kernel_rfl) (fun x=>by kernel_rfl)
def C9:Nat→Option aM:=fun|2=>some ⟨[(0,.val (.sl aj) (.sl (.sha [1]))),(1,.val (.sl .str) (.sl (.sha [1]))),(5,.val (.int .i64) .leaf)],3⟩|7=>some ⟨[(0,.val (.sl aj) (.sl (.sha [1]))),(1,.val (.sl .str) (.sl (.sha [1]))),(5,.val (.int .i64) .leaf),(6,.val (.int .i64) .leaf)],3⟩|_=>none
def Dy:Nat→Option aM:=fun|11=>some ⟨[(0,.val (.sl aj) (.sl (.sha [1])))],3⟩|_=>none
def uB (k:Nat):List (FuncId×aF):=(253,⟨[.val (.sl aj) .shr,.val (.sl .str) .shr],[.val .bool .leaf],ky k,[]⟩)::(vR k)
theorem GQ (k:Nat):ae Tryz.prog (uB k):=ae.ev ax mixed (IG k) C9 Dy k Tryz.func253 (by kernel_rfl) (fun x=>by kernel_rfl)
def yv (k:Nat):List (FuncId×aF):=(293,⟨[.val aC (.pair .leaf .leaf),.val aC (.pair .leaf .leaf)],[.val .bool .leaf],na k,[]⟩)::(uB k)
theorem L4 (k:Nat):ae Tryz.prog (yv k):=ae.ev ax mixed (GQ k) nA nA k Tryz.func293 (by kernel_rfl) (fun x=>by kernel_rfl)
def Iu:Nat→Option aM:=fun|2=>some ⟨[(0,.val (.sl aC) (.sl (.sha [1]))),(3,.val (.int .i64) .leaf)],3⟩|_=>none
def Jy:Nat→Option aM:=fun|6=>some ⟨[(0,.val (.sl aC) (.sl (.sha [1])))],3⟩|_=>none
def yN (k:Nat):List (FuncId×aF):=(254,⟨[.val (.sl aC) .shr],[.val .bool .leaf],mJ k,[]⟩)::(yv k)
theorem LR (k:Nat):ae Tryz.prog (yN k):=ae.ev ax mixed (L4 k) Iu Jy k Tryz.func254 (by kernel_rfl) (fun x=>by kernel_rfl)
def u4 (k:Nat):List (FuncId×aF):=(320,⟨[.val aj (.pair .leaf q4),.val (.int .i64) .leaf,.val (.int .i64) .leaf],[.val (.int .i64) .leaf],pr k,[]⟩)::(yN k)
theorem J0 (k:Nat):ae Tryz.prog (u4 k):=ae.ev ax mixed (LR k) nA nA k Tryz.func320 (by kernel_rfl) (fun x=>by kernel_rfl)
def Hn (k:Nat):List (FuncId×aF):=(255,⟨[.val bC (.pair .leaf (.pair .leaf q0)),.val aj (.pair .leaf q4)],[.val (.int .i64) .leaf],rC k,[]⟩)::(u4 k)
theorem QD (k:Nat):ae Tryz.prog (Hn k):=ae.ev ax mixed (J0 k) nA nA k Tryz.func255 (by kernel_rfl) (fun x=>by kernel_rfl)
def A7:Nat→Option aM:=fun|4=>some ⟨[(1,.box 3 aE (.pair (.pair .leaf (.pair .leaf (.pair .leaf cR))) (.pair .leaf (.pair .leaf (.pair (.sl (.sha [1])) (.pair (.sl (.sha [1])) (.pair (.sl (.sha [1])) (.pair .leaf (.pair (.sl (.sha [1])) (.pair .leaf (.pair (.sl (.sha [1])) (.pair (.sl (.sha [1])) (.pair (.sl (.sha [1])) dg))))))))))))),(3,.val (.int .i64) .leaf)],4⟩|9=>some ⟨[(1,.box 3 aE (.pair (.pair .leaf (.pair .leaf (.pair .leaf cR))) (.pair .leaf (.pair .leaf (.pair (.sl (.sha [1])) (.pair (.sl (.sha [1])) (.pair (.sl (.sha [1])) (.pair .leaf (.pair (.sl (.sha [1])) (.pair .leaf (.pair (.sl (.sha [1])) (.pair (.sl (.sha [1])) (.pair (.sl (.sha [1])) dg))))))))))))),(3,.val (.int .i64) .leaf),(4,.val (.int .i64) .leaf)],4⟩|14=>some ⟨[(1,.box 3 aE (.pair (.pair .leaf (.pair .leaf (.pair .leaf cR))) (.pair .leaf (.pair .leaf (.pair (.sl (.sha [1])) (.pair (.sl (.sha [1])) (.pair (.sl (.sha [1])) (.pair .leaf (.pair (.sl (.sha [1])) (.pair .leaf (.pair (.sl (.sha [1])) (.pair (.sl (.sha [1])) (.pair (.sl (.sha [1])) dg))))))))))))),(5,.val (.int .i64) .leaf)],4⟩|19=>some ⟨[(1,.box 3 aE (.pair (.pair .leaf (.pair .leaf (.pair .leaf cR))) (.pair .leaf (.pair .leaf (.pair (.sl (.sha [1])) (.pair (.sl (.sha [1])) (.pair (.sl (.sha [1])) (.pair .leaf (.pair (.sl (.sha [1])) (.pair .leaf (.pair (.sl (.sha [1])) (.pair (.sl (.sha [1])) (.pair (.sl (.sha [1])) dg))))))))))))),(5,.val (.int .i64) .leaf),(6,.box 4 aj (.pair .leaf (.pair (.sl (.sha [1,2])) JA))),(7,.val .bool .leaf),(8,.val (.int .i64) .leaf)],5⟩|_=>none
def Bq:Nat→Option aM:=fun|13=>some ⟨[(1,.box 3 aE (.pair (.pair .leaf (.pair .leaf (.pair .leaf cR))) (.pair .leaf (.pair .leaf (.pair (.sl (.sha [1])) (.pair (.sl (.sha [1])) (.pair (.sl (.sha [1])) (.pair .leaf (.pair (.sl (.sha [1])) (.pair .leaf (.pair (.sl (.sha [1])) (.pair (.sl (.sha [1])) (.pair (.sl (.sha [1])) dg)))))))))))))],4⟩|22=>some ⟨[(1,.box 3 aE (.pair (.pair .leaf (.pair .leaf (.pair .leaf cR))) (.pair .leaf (.pair .leaf (.pair (.sl (.sha [1])) (.pair (.sl (.sha [1])) (.pair (.sl (.sha [1])) (.pair .leaf (.pair (.sl (.sha [1])) (.pair .leaf (.pair (.sl (.sha [1])) (.pair (.sl (.sha [1])) (.pair (.sl (.sha [1])) dg))))))))))))),(5,.val (.int .i64) .leaf),(6,.box 4 aj (.pair .leaf (.pair (.sl (.sha [1,2])) JA))),(7,.val .bool .leaf)],5⟩|_=>none
def sO (k:Nat):List (FuncId×aF):=(161,⟨[.val aE (.pair (.pair .leaf (.pair .leaf q0)) (.pair .leaf (.pair .leaf (.pair .shr (.pair .shr (.pair .shr (.pair .leaf (.pair .shr (.pair .leaf (.pair .shr jb))))))))))],[.val .bool .leaf],fZ k,[]⟩)::(Hn k)
theorem Dc (k:Nat):ae Tryz.prog (sO k):=ae.ev ax mixed (QD k) A7 Bq k Tryz.func161 (by kernel_rfl) (fun x=>by kernel_rfl)
def Ft:Nat→Option aM:=fun|4=>some ⟨[(1,.box 3 aE (.pair (.pair .leaf (.pair .leaf (.pair .leaf cR))) (.pair .leaf (.pair .leaf (.pair (.sl (.sha [1])) (.pair (.sl (.sha [1])) (.pair (.sl (.sha [1])) (.pair .leaf (.pair (.sl (.sha [1])) (.pair .leaf (.pair (.sl (.sha [1])) (.pair (.sl (.sha [1])) (.pair (.sl (.sha [1])) dg))))))))))))),(3,.val (.int .i64) .leaf)],4⟩|9=>some ⟨[(1,.box 3 aE (.pair (.pair .leaf (.pair .leaf (.pair .leaf cR))) (.pair .leaf (.pair .leaf (.pair (.sl (.sha [1])) (.pair (.sl (.sha [1])) (.pair (.sl (.sha [1])) (.pair .leaf (.pair (.sl (.sha [1])) (.pair .leaf (.pair (.sl (.sha [1])) (.pair (.sl (.sha [1])) (.pair (.sl (.sha [1])) dg))))))))))))),(4,.val (.int .i64) .leaf)],4⟩|15=>some ⟨[(1,.box 3 aE (.pair (.pair .leaf (.pair .leaf (.pair .leaf cR))) (.pair .leaf (.pair .leaf (.pair (.sl (.sha [1])) (.pair (.sl (.sha [1])) (.pair (.sl (.sha [1])) (.pair .leaf (.pair (.sl (.sha [1])) (.pair .leaf (.pair (.sl (.sha [1])) (.pair (.sl (.sha [1])) (.pair (.sl (.sha [1])) dg))))))))))))),(6,.val (.int .i64) .leaf)],4⟩|_=>none
def GD:Nat→Option aM:=fun|8=>some ⟨[(1,.box 3 aE (.pair (.pair .leaf (.pair .leaf (.pair .leaf cR))) (.pair .leaf (.pair .leaf (.pair (.sl (.sha [1])) (.pair (.sl (.sha [1])) (.pair (.sl (.sha [1])) (.pair .leaf (.pair (.sl (.sha [1])) (.pair .leaf (.pair (.sl (.sha [1])) (.pair (.sl (.sha [1])) (.pair (.sl (.sha [1])) dg)))))))))))))],4⟩|14=>some ⟨[(1,.box 3 aE (.pair (.pair .leaf (.pair .leaf (.pair .leaf cR))) (.pair .leaf (.pair .leaf (.pair (.sl (.sha [1])) (.pair (.sl (.sha [1])) (.pair (.sl (.sha [1])) (.pair .leaf (.pair (.sl (.sha [1])) (.pair .leaf (.pair (.sl (.sha [1])) (.pair (.sl (.sha [1])) (.pair (.sl (.sha [1])) dg)))))))))))))],4⟩|19=>some ⟨[(1,.box 3 aE (.pair (.pair .leaf (.pair .leaf (.pair .leaf cR))) (.pair .leaf (.pair .leaf (.pair (.sl (.sha [1])) (.pair (.sl (.sha [1])) (.pair (.sl (.sha [1])) (.pair .leaf (.pair (.sl (.sha [1])) (.pair .leaf (.pair (.sl (.sha [1])) (.pair (.sl (.sha [1])) (.pair (.sl (.sha [1])) dg)))))))))))))],4⟩|_=>none
def wO (k:Nat):List (FuncId×aF):=(76,⟨[.val aE (.pair (.pair .leaf (.pair .leaf q0)) (.pair .leaf (.pair .leaf (.pair .shr (.pair .shr (.pair .shr (.pair .leaf (.pair .shr (.pair .leaf (.pair .shr jb))))))))))],[.val .bool .leaf],lK k,[]⟩)::(sO k)
theorem IC (k:Nat):ae Tryz.prog (wO k):=ae.ev ax mixed (Dc k) Ft GD k Tryz.func76 (by kernel_rfl) (fun x=>by kernel_rfl)
def B7 (k:Nat):List (FuncId×aF):=(78,⟨[.val aE (.pair (.pair .leaf (.pair .leaf q0)) (.pair .leaf (.pair .leaf (.pair .shr (.pair .shr (.pair .shr (.pair .leaf (.pair .shr (.pair .leaf (.pair .shr jb)))))))))),.val (.int .i64) .leaf],[.val .bool .leaf],pO k,[]⟩)::(wO k)
theorem OC (k:Nat):ae Tryz.prog (B7 k):=ae.ev ax mixed (IC k) nA nA k Tryz.func78 (by kernel_rfl) (fun x=>by kernel_rfl)
def tI (k:Nat):List (FuncId×aF):=(162,⟨[.io aE (.pair (.pair .leaf (.pair .leaf wN)) (.pair .leaf (.pair .leaf (.pair .own (.pair .own (.pair .own (.pair .leaf (.pair .own (.pair .leaf (.pair .own Cv)))))))))),.val (.int .i64) .leaf,.val ah (.pair .leaf (.pair .leaf (.pair q3 (.pair .shr (.pair .leaf q7)))))],[],oz k,[(0,(dA 14 12))]⟩)::(B7 k)
theorem Hi (k:Nat):ae Tryz.prog (tI k):=ae.ev ax mixed (OC k) nA nA k Tryz.func162 (by kernel_rfl) (fun x=>by kernel_rfl)
def ug (k:Nat):List (FuncId×aF):=(79,⟨[.io aE (.pair (.pair .leaf (.pair .leaf wN)) (.pair .leaf (.pair .leaf (.pair .own (.pair .own (.pair .own (.pair .leaf (.pair .own (.pair .leaf (.pair .own Cv)))))))))),.val (.int .i64) .leaf,.val ah (.pair .leaf (.pair .leaf (.pair q3 (.pair .shr (.pair .leaf q7)))))],[],kt k,[]⟩)::(tI k)
theorem Gu (k:Nat):ae Tryz.prog (ug k):=ae.ev ax mixed (Hi k) nA nA k Tryz.func79 (by kernel_rfl) (fun x=>by kernel_rfl)
def Cc (k:Nat):List (FuncId×aF):=(25,⟨[.val aE (.pair (.pair .leaf (.pair .leaf q0)) (.pair .leaf (.pair .leaf (.pair .shr (.pair .shr (.pair .shr (.pair .leaf (.pair .shr (.pair .leaf (.pair .shr jb)))))))))),.val (.int .i64) .leaf,.val (.sl af) .shr],[.val aE (.pair (.pair .leaf (.pair .leaf wN)) (.pair .leaf (.pair .leaf (.pair .own (.pair .own (.pair .own (.pair .leaf (.pair .own (.pair .leaf (.pair .own Cv)))))))))),.val .bool .leaf],pQ k,[]⟩)::(ug k)
theorem NZ (k:Nat):ae Tryz.prog (Cc k):=ae.ev ax mixed (Gu k) nA nA k Tryz.func25 (by kernel_rfl) (fun x=>by kernel_rfl)
def tF (k:Nat):List (FuncId×aF):=(163,⟨[.val bC (.pair .leaf (.pair .leaf q0))],[.val bC (.pair .leaf (.pair .leaf wN))],kA k,[]⟩)::(Cc k)
theorem F6 (k:Nat):ae Tryz.prog (tF k):=ae.ev ax mixed (NZ k) nA nA k Tryz.func163 (by kernel_rfl) (fun x=>by kernel_rfl)
end Vg.Tryz
namespace Vg.Tryz
open Go Vg Go.Proofs
set_option linter.unusedVariables false
set_option maxRecDepth 1000000
def vZ (k:Nat):List (FuncId×aF):=(190,⟨[.val (.sl af) .shr],[.val (.sl af) .own],dv k,[]⟩)::(tF k)
theorem HK (k:Nat):ae Tryz.prog (vZ k):=ae.ev ax mixed (F6 k) nA nA k Tryz.func190 (by kernel_rfl) (fun x=>by kernel_rfl)
def rZ (k:Nat):List (FuncId×aF):=(196,⟨[.val ab q3],[.val ab qM],dL k,[]⟩)::(vZ k)
theorem DE (k:Nat):ae Tryz.prog (rZ k):=ae.ev ax mixed (HK k) nA nA k Tryz.func196 (by kernel_rfl) (fun x=>by kernel_rfl)
def zG:Nat→Option aM:=fun|3=>some ⟨[(3,.val (.sl ab) (.sl (.row 3 [3] true))),(6,.val (.sl ab) (.sl (.sha [1]))),(7,.val (.int .i64) .leaf),(8,.val (.int .i64) .leaf)],4⟩|_=>none
def rf (k:Nat):List (FuncId×aF):=(166,⟨[.val (.sl ab) .shr],[.val (.sl ab) .own],cx k,[]⟩)::(rZ k)
theorem Bi (k:Nat):ae Tryz.prog (rf k):=ae.ev ax mixed (DE k) zG nA k Tryz.func166 (by kernel_rfl) (fun x=>by kernel_rfl)
def tc (k:Nat):List (FuncId×aF):=(321,⟨[.val ay (.pair .leaf .shr)],[.val ay (.pair .leaf .own)],jx k,[]⟩)::(rf k)
theorem CI (k:Nat):ae Tryz.prog (tc k):=ae.ev ax mixed (Bi k) nA nA k Tryz.func321 (by kernel_rfl) (fun x=>by kernel_rfl)
def CB:Nat→Option aM:=fun|3=>some ⟨[(1,.box 3 ak cR),(2,.box 4 ak yH),(3,.box 5 ak Ci),(12,.val (.sl ay) (.sl (.sha [1]))),(13,.val (.int .i64) .leaf),(14,.val (.int .i64) .leaf)],7⟩|_=>none
def ux (k:Nat):List (FuncId×aF):=(256,⟨[.val ak (.pair .leaf (.pair .leaf .shr))],[.val ak (.pair .leaf (.pair .leaf .own))],gG k,[]⟩)::(tc k)
theorem GL (k:Nat):ae Tryz.prog (ux k):=ae.ev ax mixed (CI k) CB nA k Tryz.func256 (by kernel_rfl) (fun x=>by kernel_rfl)
def Bf:Nat→Option aM:=fun|3=>some ⟨[(3,.val (.sl ak) (.sl (.row 3 [3] true))),(6,.val (.sl ak) (.sl (.sha [1]))),(7,.val (.int .i64) .leaf),(8,.val (.int .i64) .leaf)],4⟩|_=>none
def sK (k:Nat):List (FuncId×aF):=(164,⟨[.val (.sl ak) .shr],[.val (.sl ak) .own],np k,[]⟩)::(ux k)
theorem CR (k:Nat):ae Tryz.prog (sK k):=ae.ev ax mixed (GL k) Bf nA k Tryz.func164 (by kernel_rfl) (fun x=>by kernel_rfl)
def wV (k:Nat):List (FuncId×aF):=(257,⟨[.val aU (.pair .shr .leaf)],[.val aU (.pair .own .leaf)],iS k,[]⟩)::(sK k)
theorem I8 (k:Nat):ae Tryz.prog (wV k):=ae.ev ax mixed (CR k) nA nA k Tryz.func257 (by kernel_rfl) (fun x=>by kernel_rfl)
def CH:Nat→Option aM:=fun|3=>some ⟨[(3,.val (.sl aU) (.sl (.row 3 [3] true))),(6,.val (.sl aU) (.sl (.sha [1]))),(7,.val (.int .i64) .leaf),(8,.val (.int .i64) .leaf)],4⟩|_=>none
def uu (k:Nat):List (FuncId×aF):=(165,⟨[.val (.sl aU) .shr],[.val (.sl aU) .own],om k,[]⟩)::(wV k)
theorem Gm (k:Nat):ae Tryz.prog (uu k):=ae.ev ax mixed (I8 k) CH nA k Tryz.func165 (by kernel_rfl) (fun x=>by kernel_rfl)
def sF (k:Nat):List (FuncId×aF):=(258,⟨[.val aj (.pair .leaf q4)],[.val aj (.pair .leaf T0)],gk k,[]⟩)::(uu k)
theorem D4 (k:Nat):ae Tryz.prog (sF k):=ae.ev ax mixed (Gm k) nA nA k Tryz.func258 (by kernel_rfl) (fun x=>by kernel_rfl)
def zY:Nat→Option aM:=fun|3=>some ⟨[(3,.val (.sl aj) (.sl (.row 3 [3] true))),(6,.val (.sl aj) (.sl (.sha [1]))),(7,.val (.int .i64) .leaf),(8,.val (.int .i64) .leaf)],4⟩|_=>none
def qX (k:Nat):List (FuncId×aF):=(167,⟨[.val (.sl aj) .shr],[.val (.sl aj) .own],mu k,[]⟩)::(sF k)
theorem BF (k:Nat):ae Tryz.prog (qX k):=ae.ev ax mixed (D4 k) zY nA k Tryz.func167 (by kernel_rfl) (fun x=>by kernel_rfl)
def rh (k:Nat):List (FuncId×aF):=(168,⟨[.val (.sl aC) .shr],[.val (.sl aC) .own],ik k,[]⟩)::(qX k)
theorem BD (k:Nat):ae Tryz.prog (rh k):=ae.ev ax mixed (BF k) nA nA k Tryz.func168 (by kernel_rfl) (fun x=>by kernel_rfl)
def rY (k:Nat):List (FuncId×aF):=(169,⟨[.val aN q6],[.val aN Uf],jq k,[]⟩)::(rh k)
theorem CU (k:Nat):ae Tryz.prog (rY k):=ae.ev ax mixed (BD k) nA nA k Tryz.func169 (by kernel_rfl) (fun x=>by kernel_rfl)
def uk (k:Nat):List (FuncId×aF):=(170,⟨[.val ah (.pair .leaf (.pair .leaf (.pair q3 (.pair .shr (.pair .leaf q7)))))],[.val ah (.pair .leaf (.pair .leaf (.pair qM (.pair .own (.pair .leaf S2)))))],ku k,[]⟩)::(rY k)
theorem Gr (k:Nat):ae Tryz.prog (uk k):=ae.ev ax mixed (CU k) nA nA k Tryz.func170 (by kernel_rfl) (fun x=>by kernel_rfl)
def um (k:Nat):List (FuncId×aF):=(171,⟨[.val aq (.pair .leaf (.pair .leaf (.pair q3 (.pair .shr (.pair .leaf (.pair .leaf (.pair .leaf (.pair .shr ub))))))))],[.val aq (.pair .leaf (.pair .leaf (.pair qM (.pair .own (.pair .leaf (.pair .leaf (.pair .leaf (.pair .own ub))))))))],kE k,[]⟩)::(uk k)
theorem FQ (k:Nat):ae Tryz.prog (um k):=ae.ev ax mixed (Gr k) nA nA k Tryz.func171 (by kernel_rfl) (fun x=>by kernel_rfl)
def AY:Nat→Option aM:=fun|6=>some ⟨[(1,.box 3 aE (.pair (.pair .leaf (.pair .leaf (.pair .leaf Js))) (.pair .leaf (.pair .leaf (.pair (.sl (.row 5 [5] true)) (.pair (.sl (.row 6 [6] true)) (.pair (.sl (.row 7 [7] true)) (.pair .leaf (.pair (.sl (.row 8 [8] true)) (.pair .leaf (.pair (.sl (.row 9 [9] true)) (.pair (.sl (.sha [1])) (.pair (.sl (.row 10 [10] true)) dg))))))))))))),(2,.box 11 aE (.pair (.pair .leaf (.pair .leaf (.pair .leaf yH))) (.pair .leaf (.pair .leaf (.pair (.sl (.sha [])) (.pair (.sl (.sha [])) (.pair (.sl (.sha [])) (.pair .leaf (.pair (.sl (.sha [])) (.pair .leaf (.pair (.sl (.sha [])) (.pair (.sl (.sha [])) B6)))))))))))),(3,.val (.sl aN) (.sl (.row 12 [12] true))),(41,.val (.sl aN) (.sl (.sha [1]))),(42,.val (.int .i64) .leaf),(43,.val (.int .i64) .leaf)],13⟩|12=>some ⟨[(1,.box 3 aE (.pair (.pair .leaf (.pair .leaf (.pair .leaf Js))) (.pair .leaf (.pair .leaf (.pair (.sl (.row 5 [5] true)) (.pair (.sl (.row 6 [6] true)) (.pair (.sl (.row 7 [7] true)) (.pair .leaf (.pair (.sl (.row 8 [8] true)) (.pair .leaf (.pair (.sl (.row 9 [9] true)) (.pair (.sl (.sha [1])) (.pair (.sl (.row 10 [10] true)) dg))))))))))))),(2,.box 11 aE (.pair (.pair .leaf (.pair .leaf (.pair .leaf yH))) (.pair .leaf (.pair .leaf (.pair (.sl (.sha [])) (.pair (.sl (.sha [])) (.pair (.sl (.sha [])) (.pair .leaf (.pair (.sl (.sha [])) (.pair .leaf (.pair (.sl (.sha [])) (.pair (.sl (.sha [])) B6)))))))))))),(3,.val (.sl aN) (.sl (.row 12 [12] true))),(6,.val (.sl ah) (.sl (.row 13 [13] true))),(54,.val (.sl ah) (.sl (.sha [1]))),(55,.val (.int .i64) .leaf),(56,.val (.int .i64) .leaf)],14⟩|18=>some ⟨[(1,.box 3 aE (.pair (.pair .leaf (.pair .leaf (.pair .leaf Js))) (.pair .leaf (.pair .leaf (.pair (.sl (.row 5 [5] true)) (.pair (.sl (.row 6 [6] true)) (.pair (.sl (.row 7 [7] true)) (.pair .leaf (.pair (.sl (.row 8 [8] true)) (.pair .leaf (.pair (.sl (.row 9 [9] true)) (.pair (.sl (.sha [1])) (.pair (.sl (.row 10 [10] true)) dg))))))))))))),(2,.box 11 aE (.pair (.pair .leaf (.pair .leaf (.pair .leaf yH))) (.pair .leaf (.pair .leaf (.pair (.sl (.sha [])) (.pair (.sl (.sha [])) (.pair (.sl (.sha [])) (.pair .leaf (.pair (.sl (.sha [])) (.pair .leaf (.pair (.sl (.sha [])) (.pair (.sl (.sha [])) B6)))))))))))),(3,.val (.sl aN) (.sl (.row 12 [12] true))),(6,.val (.sl ah) (.sl (.row 13 [13] true))),(9,.val (.sl aq) (.sl (.row 14 [14] true))),(67,.val (.sl aq) (.sl (.sha [1]))),(68,.val (.int .i64) .leaf),(69,.val (.int .i64) .leaf)],15⟩|_=>none
def BI:Nat→Option aM:=fun|10=>some ⟨[(1,.box 3 aE (.pair (.pair .leaf (.pair .leaf (.pair .leaf Js))) (.pair .leaf (.pair .leaf (.pair (.sl (.row 5 [5] true)) (.pair (.sl (.row 6 [6] true)) (.pair (.sl (.row 7 [7] true)) (.pair .leaf (.pair (.sl (.row 8 [8] true)) (.pair .leaf (.pair (.sl (.row 9 [9] true)) (.pair (.sl (.sha [1])) (.pair (.sl (.row 10 [10] true)) dg))))))))))))),(2,.box 11 aE (.pair (.pair .leaf (.pair .leaf (.pair .leaf yH))) (.pair .leaf (.pair .leaf (.pair (.sl (.sha [])) (.pair (.sl (.sha [])) (.pair (.sl (.sha [])) (.pair .leaf (.pair (.sl (.sha [])) (.pair .leaf (.pair (.sl (.sha [])) (.pair (.sl (.sha [])) B6)))))))))))),(3,.val (.sl aN) (.sl (.row 12 [12] true)))],13⟩|16=>some ⟨[(1,.box 3 aE (.pair (.pair .leaf (.pair .leaf (.pair .leaf Js))) (.pair .leaf (.pair .leaf (.pair (.sl (.row 5 [5] true)) (.pair (.sl (.row 6 [6] true)) (.pair (.sl (.row 7 [7] true)) (.pair .leaf (.pair (.sl (.row 8 [8] true)) (.pair .leaf (.pair (.sl (.row 9 [9] true)) (.pair (.sl (.sha [1])) (.pair (.sl (.row 10 [10] true)) dg))))))))))))),(2,.box 11 aE (.pair (.pair .leaf (.pair .leaf (.pair .leaf yH))) (.pair .leaf (.pair .leaf (.pair (.sl (.sha [])) (.pair (.sl (.sha [])) (.pair (.sl (.sha [])) (.pair .leaf (.pair (.sl (.sha [])) (.pair .leaf (.pair (.sl (.sha [])) (.pair (.sl (.sha [])) B6)))))))))))),(3,.val (.sl aN) (.sl (.row 12 [12] true))),(6,.val (.sl ah) (.sl (.row 13 [13] true)))],14⟩|22=>some ⟨[(1,.box 3 aE (.pair (.pair .leaf (.pair .leaf (.pair .leaf Js))) (.pair .leaf (.pair .leaf (.pair (.sl (.row 5 [5] true)) (.pair (.sl (.row 6 [6] true)) (.pair (.sl (.row 7 [7] true)) (.pair .leaf (.pair (.sl (.row 8 [8] true)) (.pair .leaf (.pair (.sl (.row 9 [9] true)) (.pair (.sl (.sha [1])) (.pair (.sl (.row 10 [10] true)) dg))))))))))))),(2,.box 11 aE (.pair (.pair .leaf (.pair .leaf (.pair .leaf yH))) (.pair .leaf (.pair .leaf (.pair (.sl (.sha [])) (.pair (.sl (.sha [])) (.pair (.sl (.sha [])) (.pair .leaf (.pair (.sl (.sha [])) (.pair .leaf (.pair (.sl (.sha [])) (.pair (.sl (.sha [])) B6)))))))))))),(3,.val (.sl aN) (.sl (.row 12 [12] true))),(6,.val (.sl ah) (.sl (.row 13 [13] true))),(9,.val (.sl aq) (.sl (.row 14 [14] true)))],15⟩|_=>none
def so (k:Nat):List (FuncId×aF):=(80,⟨[.val aE (.pair (.pair .leaf (.pair .leaf q0)) (.pair .leaf (.pair .leaf (.pair .shr (.pair .shr (.pair .shr (.pair .leaf (.pair .shr (.pair .leaf (.pair .shr jb))))))))))],[.val aE (.pair (.pair .leaf (.pair .leaf wN)) (.pair .leaf (.pair .leaf (.pair .own (.pair .own (.pair .own (.pair .leaf (.pair .own (.pair .leaf (.pair .own Cv))))))))))],eT k,[]⟩)::(um k)
theorem Eb (k:Nat):ae Tryz.prog (so k):=ae.ev ax mixed (FQ k) AY BI k Tryz.func80 (by kernel_rfl) (fun x=>by kernel_rfl)
def Ku (k:Nat):List (FuncId×aF):=(111,⟨[.val (.int .i64) .leaf,.val (.int .i64) .leaf,.val (.int .i64) .leaf],[.val .bool .leaf],bA k,[]⟩)::(so k)
theorem RQ (k:Nat):ae Tryz.prog (Ku k):=ae.ev ax mixed (Eb k) nA nA k Tryz.func111 (by kernel_rfl) (fun x=>by kernel_rfl)
def IU:Nat→Option aM:=fun|4=>some ⟨[(0,.val .str .leaf),(3,.val (.int .i64) .leaf)],3⟩|_=>none
def xS (k:Nat):List (FuncId×aF):=(322,⟨[.val .str .leaf],[.val .bool .leaf],jA k,[]⟩)::(Ku k)
theorem KY (k:Nat):ae Tryz.prog (xS k):=ae.ev ax mixed (RQ k) IU nA k Tryz.func322 (by kernel_rfl) (fun x=>by kernel_rfl)
def Hk:Nat→Option aM:=fun|2=>some ⟨[(0,.val (.sl .str) (.sl (.sha [1]))),(3,.val (.int .i64) .leaf)],3⟩|_=>none
def wQ (k:Nat):List (FuncId×aF):=(323,⟨[.val (.sl .str) .shr],[.val .bool .leaf],lP k,[]⟩)::(xS k)
theorem JP (k:Nat):ae Tryz.prog (wQ k):=ae.ev ax mixed (KY k) Hk nA k Tryz.func323 (by kernel_rfl) (fun x=>by kernel_rfl)
def Nx:Nat→Option aM:=fun|2=>some ⟨[(0,.val (.sl .str) (.sl (.sha [1]))),(5,.val (.sl .str) (.sl (.sha [1]))),(6,.val (.int .i64) .leaf),(7,.val (.int .i64) .leaf)],3⟩|_=>none
def MZ:Nat→Option aM:=fun|7=>some ⟨[(0,.val (.sl .str) (.sl (.sha [1])))],3⟩|_=>none
def Ch (k:Nat):List (FuncId×aF):=(259,⟨[.val (.sl .str) .shr],[.val .bool .leaf],pW k,[]⟩)::(wQ k)
theorem Ov (k:Nat):ae Tryz.prog (Ch k):=ae.ev ax mixed (JP k) Nx MZ k Tryz.func259 (by kernel_rfl) (fun x=>by kernel_rfl)
def yC (k:Nat):List (FuncId×aF):=(172,⟨[.val bC (.pair .leaf (.pair .leaf q0))],[.val .bool .leaf],nh k,[]⟩)::(Ch k)
theorem LY (k:Nat):ae Tryz.prog (yC k):=ae.ev ax mixed (Ov k) nA nA k Tryz.func172 (by kernel_rfl) (fun x=>by kernel_rfl)
def GR:Nat→Option aM:=fun|4=>some ⟨[(0,.val .str .leaf),(3,.val (.int .i64) .leaf)],3⟩|_=>none
def vj (k:Nat):List (FuncId×aF):=(325,⟨[.val .str .leaf],[.val .bool .leaf],iK k,[]⟩)::(yC k)
theorem Hu (k:Nat):ae Tryz.prog (vj k):=ae.ev ax mixed (LY k) GR nA k Tryz.func325 (by kernel_rfl) (fun x=>by kernel_rfl)
def v8 (k:Nat):List (FuncId×aF):=(274,⟨[.val af (.pair .leaf .leaf)],[.val .bool .leaf],lY k,[]⟩)::(vj k)
theorem JL (k:Nat):ae Tryz.prog (v8 k):=ae.ev ax mixed (Hu k) nA nA k Tryz.func274 (by kernel_rfl) (fun x=>by kernel_rfl)
def K6:Nat→Option aM:=fun|2=>some ⟨[(0,.val (.sl af) (.sl (.sha [1]))),(5,.val (.sl af) (.sl (.sha [1]))),(6,.val (.int .i64) .leaf),(7,.val (.int .i64) .leaf)],3⟩|_=>none
def zH (k:Nat):List (FuncId×aF):=(189,⟨[.val (.sl af) .shr],[.val .bool .leaf],fk k,[]⟩)::(v8 k)
theorem MD (k:Nat):ae Tryz.prog (zH k):=ae.ev ax mixed (JL k) K6 nA k Tryz.func189 (by kernel_rfl) (fun x=>by kernel_rfl)
def wv (k:Nat):List (FuncId×aF):=(263,⟨[.val ab q3],[.val .bool .leaf],dS k,[]⟩)::(zH k)
theorem H3 (k:Nat):ae Tryz.prog (wv k):=ae.ev ax mixed (MD k) nA nA k Tryz.func263 (by kernel_rfl) (fun x=>by kernel_rfl)
def FH:Nat→Option aM:=fun|5=>some ⟨[(3,.val (.sl .str) (.sl (.row 3 [] true))),(9,.val (.sl af) (.sl (.sha [1]))),(10,.val (.int .i64) .leaf),(11,.val (.int .i64) .leaf)],4⟩|_=>none
def GS:Nat→Option aM:=fun|9=>some ⟨[(3,.val (.sl .str) (.sl (.row 3 [] true)))],4⟩|_=>none
def wA (k:Nat):List (FuncId×aF):=(376,⟨[.val (.sl af) .shr],[.val .str .leaf],lN k,[]⟩)::(wv k)
theorem H5 (k:Nat):ae Tryz.prog (wA k):=ae.ev ax mixed (H3 k) FH GS k Tryz.func376 (by kernel_rfl) (fun x=>by kernel_rfl)
end Vg.Tryz
namespace Vg.Tryz
open Go Vg Go.Proofs
set_option linter.unusedVariables false
set_option maxRecDepth 1000000
def N7:Nat→Option aM:=fun|3=>some ⟨[(0,.val .str .leaf),(3,.val (.int .u32) .leaf),(4,.val (.int .i64) .leaf)],3⟩|_=>none
def Om:Nat→Option aM:=fun|6=>some ⟨[(3,.val (.int .u32) .leaf)],3⟩|_=>none
def Ey (k:Nat):List (FuncId×aF):=(375,⟨[.val .str .leaf],[.val (.int .i64) .leaf],oO k,[]⟩)::(wA k)
theorem PI (k:Nat):ae Tryz.prog (Ey k):=ae.ev ax mixed (H5 k) N7 Om k Tryz.func375 (by kernel_rfl) (fun x=>by kernel_rfl)
def yw (k:Nat):List (FuncId×aF):=(352,⟨[.val (.sl af) .shr],[.val (.int .i64) .leaf],ek k,[]⟩)::(Ey k)
theorem Lu (k:Nat):ae Tryz.prog (yw k):=ae.ev ax mixed (PI k) nA nA k Tryz.func352 (by kernel_rfl) (fun x=>by kernel_rfl)
def Ez:Nat→Option aM:=fun|4=>some ⟨[(0,.val (.sl af) (.sl (.sha [1]))),(1,.val (.sl af) (.sl (.sha [1]))),(12,.val (.int .i64) .leaf),(13,.val (.int .i64) .leaf)],3⟩|_=>none
def wy (k:Nat):List (FuncId×aF):=(329,⟨[.val (.sl af) .shr,.val (.sl af) .shr],[.val .bool .leaf],cM k,[]⟩)::(yw k)
theorem JZ (k:Nat):ae Tryz.prog (wy k):=ae.ev ax mixed (Lu k) Ez nA k Tryz.func329 (by kernel_rfl) (fun x=>by kernel_rfl)
def Dl:Nat→Option aM:=fun|2=>some ⟨[(1,.val (.sl af) (.sl (.sha [1]))),(7,.val (.sl ab) (.sl (.sha [1]))),(8,.val (.int .i64) .leaf),(9,.val (.int .i64) .leaf)],3⟩|_=>none
def tC (k:Nat):List (FuncId×aF):=(371,⟨[.val (.sl ab) .shr,.val (.sl af) .shr],[.val (.int .i64) .leaf],gV k,[]⟩)::(wy k)
theorem Fo (k:Nat):ae Tryz.prog (tC k):=ae.ev ax mixed (JZ k) Dl nA k Tryz.func371 (by kernel_rfl) (fun x=>by kernel_rfl)
def za:Nat→Option aM:=fun|2=>some ⟨[(0,.val (.sl ab) (.sl (.sha [1]))),(5,.val (.sl ab) (.sl (.sha [1]))),(6,.val (.int .i64) .leaf),(7,.val (.int .i64) .leaf)],3⟩|_=>none
def qh (k:Nat):List (FuncId×aF):=(378,⟨[.val (.sl ab) .shr],[.val .bool .leaf],gJ k,[]⟩)::(tC k)
theorem zJ (k:Nat):ae Tryz.prog (qh k):=ae.ev ax mixed (Fo k) za nA k Tryz.func378 (by kernel_rfl) (fun x=>by kernel_rfl)
def E7:Nat→Option aM:=fun|2=>some ⟨[(1,.box 3 ay (.pair .leaf (.sl (.sha [1])))),(6,.val (.sl ab) (.sl (.sha [1]))),(7,.val (.int .i64) .leaf),(8,.val (.int .i64) .leaf)],4⟩|_=>none
def Gl:Nat→Option aM:=fun|7=>some ⟨[(1,.box 3 ay (.pair .leaf (.sl (.sha [1]))))],4⟩|_=>none
def vV (k:Nat):List (FuncId×aF):=(361,⟨[.val ay (.pair .leaf .shr)],[.val .bool .leaf],lJ k,[]⟩)::(qh k)
theorem JW (k:Nat):ae Tryz.prog (vV k):=ae.ev ax mixed (zJ k) E7 Gl k Tryz.func361 (by kernel_rfl) (fun x=>by kernel_rfl)
def yz (k:Nat):List (FuncId×aF):=(354,⟨[.val (.int .i64) .leaf,.val (.int .i64) .leaf],[.val (.int .i64) .leaf],fy k,[]⟩)::(vV k)
theorem Ly (k:Nat):ae Tryz.prog (yz k):=ae.ev ax mixed (JW k) nA nA k Tryz.func354 (by kernel_rfl) (fun x=>by kernel_rfl)
def Hv:Nat→Option aM:=fun|2=>some ⟨[(1,.val (.int .i64) .leaf),(2,.val (.int .i64) .leaf),(3,.box 3 ak cR),(10,.val (.sl ay) (.sl (.sha [1]))),(11,.val (.int .i64) .leaf),(12,.val (.int .i64) .leaf)],4⟩|_=>none
def HU:Nat→Option aM:=fun|7=>some ⟨[(3,.box 3 ak cR)],4⟩|_=>none
def yl (k:Nat):List (FuncId×aF):=(324,⟨[.val ak (.pair .leaf (.pair .leaf .shr)),.val (.int .i64) .leaf,.val (.int .i64) .leaf],[.val .bool .leaf],mZ k,[]⟩)::(yz k)
theorem L1 (k:Nat):ae Tryz.prog (yl k):=ae.ev ax mixed (Ly k) Hv HU k Tryz.func324 (by kernel_rfl) (fun x=>by kernel_rfl)
def En:Nat→Option aM:=fun|4=>some ⟨[(0,.val (.sl ak) (.sl (.sha [1]))),(9,.val (.sl ak) (.sl (.sha [1]))),(10,.val (.int .i64) .leaf),(11,.val (.int .i64) .leaf)],3⟩|_=>none
def wT (k:Nat):List (FuncId×aF):=(260,⟨[.val (.sl ak) .shr],[.val .bool .leaf],lu k,[]⟩)::(yl k)
theorem JG (k:Nat):ae Tryz.prog (wT k):=ae.ev ax mixed (L1 k) En nA k Tryz.func260 (by kernel_rfl) (fun x=>by kernel_rfl)
def FG:Nat→Option aM:=fun|3=>some ⟨[(3,.val (.int .i64) .leaf),(8,.val (.sl ak) (.sl (.sha [1]))),(9,.val (.int .i64) .leaf),(10,.val (.int .i64) .leaf)],3⟩|6=>some ⟨[(3,.val (.int .i64) .leaf),(5,.box 3 ak JA),(8,.val (.sl ak) (.sl (.sha [1]))),(9,.val (.int .i64) .leaf),(10,.val (.int .i64) .leaf),(15,.val (.sl ay) (.sl (.sha [1,2]))),(16,.val (.int .i64) .leaf),(17,.val (.int .i64) .leaf)],4⟩|_=>none
def wi (k:Nat):List (FuncId×aF):=(225,⟨[.val (.sl ak) .shr],[.val (.int .i64) .leaf],lG k,[]⟩)::(wT k)
theorem II (k:Nat):ae Tryz.prog (wi k):=ae.ev ax mixed (JG k) FG nA k Tryz.func225 (by kernel_rfl) (fun x=>by kernel_rfl)
def DL:Nat→Option aM:=fun|3=>some ⟨[(1,.box 3 ak cR),(3,.val (.sl ab) (.sl (.row 4 [4] true))),(7,.val (.sl ay) (.sl (.sha [1]))),(8,.val (.int .i64) .leaf),(9,.val (.int .i64) .leaf)],5⟩|_=>none
def tP (k:Nat):List (FuncId×aF):=(282,⟨[.val ak (.pair .leaf (.pair .leaf .shr))],[.val (.sl ab) .own],gM k,[]⟩)::(wi k)
theorem Gs (k:Nat):ae Tryz.prog (tP k):=ae.ev ax mixed (II k) DL nA k Tryz.func282 (by kernel_rfl) (fun x=>by kernel_rfl)
def BO:Nat→Option aM:=fun|3=>some ⟨[(3,.val (.sl ab) (.sl (.row 3 [3] true))),(6,.val (.sl ak) (.sl (.sha [1]))),(7,.val (.int .i64) .leaf),(8,.val (.int .i64) .leaf)],4⟩|_=>none
def A9:Nat→Option aM:=fun|7=>some ⟨[(3,.val (.sl ab) (.sl (.row 3 [3] true)))],4⟩|_=>none
def rQ (k:Nat):List (FuncId×aF):=(261,⟨[.val (.sl ak) .shr],[.val (.sl ab) .own],jy k,[]⟩)::(tP k)
theorem DO (k:Nat):ae Tryz.prog (rQ k):=ae.ev ax mixed (Gs k) BO A9 k Tryz.func261 (by kernel_rfl) (fun x=>by kernel_rfl)
def Ca (k:Nat):List (FuncId×aF):=(197,⟨[.val bC (.pair .leaf (.pair .leaf q0)),.val ab q3],[.val .bool .leaf],mz k,[]⟩)::(rQ k)
theorem OP (k:Nat):ae Tryz.prog (Ca k):=ae.ev ax mixed (DO k) nA nA k Tryz.func197 (by kernel_rfl) (fun x=>by kernel_rfl)
def As:Nat→Option aM:=fun|4=>some ⟨[(1,.box 3 aE (.pair (.pair .leaf (.pair .leaf (.pair .leaf cR))) (.pair .leaf (.pair .leaf (.pair (.sl (.sha [1])) (.pair (.sl (.sha [1])) (.pair (.sl (.sha [1])) (.pair .leaf (.pair (.sl (.sha [1])) (.pair .leaf (.pair (.sl (.sha [1])) (.pair (.sl (.sha [1])) (.pair (.sl (.sha [1])) dg))))))))))))),(29,.val (.sl ab) (.sl (.row 4 [4] true))),(30,.val (.int .i64) .leaf),(31,.val (.int .i64) .leaf)],5⟩|_=>none
def qS (k:Nat):List (FuncId×aF):=(173,⟨[.val aE (.pair (.pair .leaf (.pair .leaf q0)) (.pair .leaf (.pair .leaf (.pair .shr (.pair .shr (.pair .shr (.pair .leaf (.pair .shr (.pair .leaf (.pair .shr jb))))))))))],[.val .bool .leaf],ic k,[]⟩)::(Ca k)
theorem A5 (k:Nat):ae Tryz.prog (qS k):=ae.ev ax mixed (OP k) As nA k Tryz.func173 (by kernel_rfl) (fun x=>by kernel_rfl)
def CS:Nat→Option aM:=fun|2=>some ⟨[(5,.val (.sl ab) (.sl (.sha [1]))),(6,.val (.int .i64) .leaf),(7,.val (.int .i64) .leaf)],3⟩|_=>none
def tX (k:Nat):List (FuncId×aF):=(175,⟨[.val (.sl ab) .shr],[.val .bool .leaf],ey k,[]⟩)::(qS k)
theorem Er (k:Nat):ae Tryz.prog (tX k):=ae.ev ax mixed (A5 k) CS nA k Tryz.func175 (by kernel_rfl) (fun x=>by kernel_rfl)
def AA (k:Nat):List (FuncId×aF):=(262,⟨[.val aU (.pair .shr .leaf)],[.val .bool .leaf],og k,[]⟩)::(tX k)
theorem MJ (k:Nat):ae Tryz.prog (AA k):=ae.ev ax mixed (Er k) nA nA k Tryz.func262 (by kernel_rfl) (fun x=>by kernel_rfl)
def BH:Nat→Option aM:=fun|2=>some ⟨[(0,.val (.sl aU) (.sl (.sha [1]))),(3,.box 3 bC (.pair .leaf (.pair .leaf (.pair .leaf cR)))),(7,.val (.sl aU) (.sl (.sha [1]))),(8,.val (.int .i64) .leaf),(9,.val (.int .i64) .leaf)],4⟩|_=>none
def Bj:Nat→Option aM:=fun|7=>some ⟨[(0,.val (.sl aU) (.sl (.sha [1]))),(3,.box 3 bC (.pair .leaf (.pair .leaf (.pair .leaf cR))))],4⟩|_=>none
def sM (k:Nat):List (FuncId×aF):=(174,⟨[.val (.sl aU) .shr,.val bC (.pair .leaf (.pair .leaf q0))],[.val .bool .leaf],jv k,[]⟩)::(AA k)
theorem CN (k:Nat):ae Tryz.prog (sM k):=ae.ev ax mixed (MJ k) BH Bj k Tryz.func174 (by kernel_rfl) (fun x=>by kernel_rfl)
def tE (k:Nat):List (FuncId×aF):=(326,⟨[.val (.int .i64) .leaf,.val (.int .i64) .leaf],[.val .bool .leaf],kv k,[]⟩)::(sM k)
theorem Gz (k:Nat):ae Tryz.prog (tE k):=ae.ev ax mixed (CN k) nA nA k Tryz.func326 (by kernel_rfl) (fun x=>by kernel_rfl)
def xN (k:Nat):List (FuncId×aF):=(264,⟨[.val aq (.pair .leaf (.pair .leaf (.pair q3 (.pair .shr (.pair .leaf (.pair .leaf (.pair .leaf (.pair .shr ub))))))))],[.val .bool .leaf],jU k,[]⟩)::(tE k)
theorem LX (k:Nat):ae Tryz.prog (xN k):=ae.ev ax mixed (Gz k) nA nA k Tryz.func264 (by kernel_rfl) (fun x=>by kernel_rfl)
def rS (k:Nat):List (FuncId×aF):=(330,⟨[.val ab q3,.val ab q3],[.val .bool .leaf],cS k,[]⟩)::(xN k)
theorem C5 (k:Nat):ae Tryz.prog (rS k):=ae.ev ax mixed (LX k) nA nA k Tryz.func330 (by kernel_rfl) (fun x=>by kernel_rfl)
def DS:Nat→Option aM:=fun|4=>some ⟨[(0,.val (.sl (.int .i64)) (.sl (.sha [1]))),(1,.val (.sl (.int .i64)) (.sl (.sha [1]))),(12,.val (.int .i64) .leaf),(13,.val (.int .i64) .leaf)],3⟩|_=>none
def tA (k:Nat):List (FuncId×aF):=(362,⟨[.val (.sl (.int .i64)) .shr,.val (.sl (.int .i64)) .shr],[.val .bool .leaf],gL k,[]⟩)::(rS k)
theorem GK (k:Nat):ae Tryz.prog (tA k):=ae.ev ax mixed (C5 k) DS nA k Tryz.func362 (by kernel_rfl) (fun x=>by kernel_rfl)
def Al:Nat→Option aM:=fun|4=>some ⟨[(0,.val (.sl ab) (.sl (.sha [1]))),(1,.val (.sl ab) (.sl (.sha [1]))),(12,.val (.int .i64) .leaf),(13,.val (.int .i64) .leaf)],3⟩|_=>none
def re (k:Nat):List (FuncId×aF):=(363,⟨[.val (.sl ab) .shr,.val (.sl ab) .shr],[.val .bool .leaf],fD k,[]⟩)::(tA k)
theorem Bu (k:Nat):ae Tryz.prog (re k):=ae.ev ax mixed (GK k) Al nA k Tryz.func363 (by kernel_rfl) (fun x=>by kernel_rfl)
def ur (k:Nat):List (FuncId×aF):=(327,⟨[.val ah (.pair .leaf (.pair .leaf (.pair q3 (.pair .shr (.pair .leaf q7))))),.val ah (.pair .leaf (.pair .leaf (.pair q3 (.pair .shr (.pair .leaf q7)))))],[.val .bool .leaf],gQ k,[]⟩)::(re k)
theorem EB (k:Nat):ae Tryz.prog (ur k):=ae.ev ax mixed (Bu k) nA nA k Tryz.func327 (by kernel_rfl) (fun x=>by kernel_rfl)
def IN:Nat→Option aM:=fun|2=>some ⟨[(1,.box 3 ah (.pair .leaf (.pair .leaf (.pair uS (.pair (.sl (.sha [1])) (.pair .leaf (.pair (.sl (.sha [1])) uL))))))),(6,.val (.sl (.int .i64)) (.sl (.sha [1]))),(7,.val (.int .i64) .leaf),(8,.val (.int .i64) .leaf)],4⟩|_=>none
def JD:Nat→Option aM:=fun|7=>some ⟨[(1,.box 3 ah (.pair .leaf (.pair .leaf (.pair uS (.pair (.sl (.sha [1])) (.pair .leaf (.pair (.sl (.sha [1])) uL)))))))],4⟩|_=>none
def yU (k:Nat):List (FuncId×aF):=(328,⟨[.val ah (.pair .leaf (.pair .leaf (.pair q3 (.pair .shr (.pair .leaf q7)))))],[.val .bool .leaf],mL k,[]⟩)::(ur k)
theorem Lx (k:Nat):ae Tryz.prog (yU k):=ae.ev ax mixed (EB k) IN JD k Tryz.func328 (by kernel_rfl) (fun x=>by kernel_rfl)
def JH:Nat→Option aM:=fun|25=>some ⟨[(2,.box 3 ah (.pair .leaf (.pair .leaf (.pair uS (.pair (.sl (.sha [1])) (.pair .leaf (.pair (.sl (.sha [1])) uL))))))),(5,.box 4 ah (.pair .leaf (.pair .leaf (.pair uS (.pair (.sl (.sha [1])) (.pair .leaf (.pair (.sl (.sha [1])) uL))))))),(6,.val .bool .leaf),(7,.val (.int .i64) .leaf)],5⟩|_=>none
def yu (k:Nat):List (FuncId×aF):=(265,⟨[.val ah (.pair .leaf (.pair .leaf (.pair q3 (.pair .shr (.pair .leaf q7))))),.val (.int .i64) .leaf],[.val .bool .leaf],mQ k,[]⟩)::(yU k)
theorem LF (k:Nat):ae Tryz.prog (yu k):=ae.ev ax mixed (Lx k) nA JH k Tryz.func265 (by kernel_rfl) (fun x=>by kernel_rfl)
end Vg.Tryz
namespace Vg.Tryz
open Go Vg Go.Proofs
set_option linter.unusedVariables false
set_option maxRecDepth 1000000
def xX (k:Nat):List (FuncId×aF):=(304,⟨[.val (.sl ak) .shr,.val (.sl af) .shr],[.val (.int .i64) .leaf],mS k,[]⟩)::(yu k)
theorem Ll (k:Nat):ae Tryz.prog (xX k):=ae.ev ax mixed (LF k) nA nA k Tryz.func304 (by kernel_rfl) (fun x=>by kernel_rfl)
def Fx:Nat→Option aM:=fun|2=>some ⟨[(1,.val (.int .i64) .leaf),(2,.box 3 ak cR),(8,.val (.sl ay) (.sl (.sha [1]))),(9,.val (.int .i64) .leaf),(10,.val (.int .i64) .leaf)],4⟩|_=>none
def wD (k:Nat):List (FuncId×aF):=(351,⟨[.val ak (.pair .leaf (.pair .leaf .shr)),.val (.int .i64) .leaf],[.val (.int .i64) .leaf],lI k,[]⟩)::(xX k)
theorem IV (k:Nat):ae Tryz.prog (wD k):=ae.ev ax mixed (Ll k) Fx nA k Tryz.func351 (by kernel_rfl) (fun x=>by kernel_rfl)
def uY (k:Nat):List (FuncId×aF):=(353,⟨[.val ay (.pair .leaf .shr),.val (.sl af) .shr],[.val (.int .i64) .leaf],lV k,[]⟩)::(wD k)
theorem JV (k:Nat):ae Tryz.prog (uY k):=ae.ev ax mixed (IV k) nA nA k Tryz.func353 (by kernel_rfl) (fun x=>by kernel_rfl)
def xO (k:Nat):List (FuncId×aF):=(303,⟨[.val ak (.pair .leaf (.pair .leaf .shr)),.val (.sl af) .shr],[.val ab qM,.val .bool .leaf],mN k,[]⟩)::(uY k)
theorem Lo (k:Nat):ae Tryz.prog (xO k):=ae.ev ax mixed (JV k) nA nA k Tryz.func303 (by kernel_rfl) (fun x=>by kernel_rfl)
def sN (k:Nat):List (FuncId×aF):=(224,⟨[.val (.sl ak) .shr,.val (.sl af) .shr],[.val ab qM,.val .bool .leaf],jn k,[]⟩)::(xO k)
theorem Di (k:Nat):ae Tryz.prog (sN k):=ae.ev ax mixed (Lo k) nA nA k Tryz.func224 (by kernel_rfl) (fun x=>by kernel_rfl)
def BC:Nat→Option aM:=fun|6=>some ⟨[(2,.box 3 aE (.pair (.pair .leaf (.pair .leaf (.pair .leaf cR))) (.pair .leaf (.pair .leaf (.pair (.sl (.sha [1])) (.pair (.sl (.sha [1])) (.pair (.sl (.sha [1])) (.pair .leaf (.pair (.sl (.sha [1])) (.pair .leaf (.pair (.sl (.sha [1])) (.pair (.sl (.sha [1])) (.pair (.sl (.sha [1])) dg))))))))))))),(3,.box 4 ah (.pair .leaf (.pair .leaf (.pair uS (.pair (.sl (.sha [1])) (.pair .leaf (.pair (.sl (.sha [1])) uL))))))),(5,.val .bool .leaf),(6,.val (.sl ab) (.sl (.row 5 [5] true))),(35,.val (.sl (.int .i64)) (.sl (.sha [1]))),(36,.val (.int .i64) .leaf),(37,.val (.int .i64) .leaf)],6⟩|_=>none
def BQ:Nat→Option aM:=fun|13=>some ⟨[(2,.box 3 aE (.pair (.pair .leaf (.pair .leaf (.pair .leaf cR))) (.pair .leaf (.pair .leaf (.pair (.sl (.sha [1])) (.pair (.sl (.sha [1])) (.pair (.sl (.sha [1])) (.pair .leaf (.pair (.sl (.sha [1])) (.pair .leaf (.pair (.sl (.sha [1])) (.pair (.sl (.sha [1])) (.pair (.sl (.sha [1])) dg))))))))))))),(3,.box 4 ah (.pair .leaf (.pair .leaf (.pair uS (.pair (.sl (.sha [1])) (.pair .leaf (.pair (.sl (.sha [1])) uL))))))),(5,.val .bool .leaf),(6,.val (.sl ab) (.sl (.row 5 [5] true)))],6⟩|_=>none
def sG (k:Nat):List (FuncId×aF):=(331,⟨[.val aE (.pair (.pair .leaf (.pair .leaf q0)) (.pair .leaf (.pair .leaf (.pair .shr (.pair .shr (.pair .shr (.pair .leaf (.pair .shr (.pair .leaf (.pair .shr jb)))))))))),.val ah (.pair .leaf (.pair .leaf (.pair q3 (.pair .shr (.pair .leaf q7)))))],[.val .bool .leaf],jk k,[]⟩)::(sN k)
theorem CG (k:Nat):ae Tryz.prog (sG k):=ae.ev ax mixed (Di k) BC BQ k Tryz.func331 (by kernel_rfl) (fun x=>by kernel_rfl)
def uq (k:Nat):List (FuncId×aF):=(266,⟨[.val aE (.pair (.pair .leaf (.pair .leaf q0)) (.pair .leaf (.pair .leaf (.pair .shr (.pair .shr (.pair .shr (.pair .leaf (.pair .shr (.pair .leaf (.pair .shr jb)))))))))),.val ah (.pair .leaf (.pair .leaf (.pair q3 (.pair .shr (.pair .leaf q7))))),.val aq (.pair .leaf (.pair .leaf (.pair q3 (.pair .shr (.pair .leaf (.pair .leaf (.pair .leaf (.pair .shr ub))))))))],[.val .bool .leaf],kC k,[]⟩)::(sG k)
theorem ES (k:Nat):ae Tryz.prog (uq k):=ae.ev ax mixed (CG k) nA nA k Tryz.func266 (by kernel_rfl) (fun x=>by kernel_rfl)
def zq:Nat→Option aM:=fun|2=>some ⟨[(1,.box 3 aE (.pair (.pair .leaf (.pair .leaf (.pair .leaf cR))) (.pair .leaf (.pair .leaf (.pair (.sl (.sha [1])) (.pair (.sl (.sha [1])) (.pair (.sl (.sha [1])) (.pair .leaf (.pair (.sl (.sha [1])) (.pair .leaf (.pair (.sl (.sha [1])) (.pair (.sl (.sha [1])) (.pair (.sl (.sha [1])) dg))))))))))))),(9,.val (.sl aq) (.sl (.sha [1]))),(10,.val (.int .i64) .leaf),(11,.val (.int .i64) .leaf)],4⟩|8=>some ⟨[(1,.box 3 aE (.pair (.pair .leaf (.pair .leaf (.pair .leaf cR))) (.pair .leaf (.pair .leaf (.pair (.sl (.sha [1])) (.pair (.sl (.sha [1])) (.pair (.sl (.sha [1])) (.pair .leaf (.pair (.sl (.sha [1])) (.pair .leaf (.pair (.sl (.sha [1])) (.pair (.sl (.sha [1])) (.pair (.sl (.sha [1])) dg))))))))))))),(41,.val (.sl ah) (.sl (.sha [1]))),(42,.val (.int .i64) .leaf),(43,.val (.int .i64) .leaf)],4⟩|_=>none
def zO:Nat→Option aM:=fun|7=>some ⟨[(1,.box 3 aE (.pair (.pair .leaf (.pair .leaf (.pair .leaf cR))) (.pair .leaf (.pair .leaf (.pair (.sl (.sha [1])) (.pair (.sl (.sha [1])) (.pair (.sl (.sha [1])) (.pair .leaf (.pair (.sl (.sha [1])) (.pair .leaf (.pair (.sl (.sha [1])) (.pair (.sl (.sha [1])) (.pair (.sl (.sha [1])) dg)))))))))))))],4⟩|_=>none
def qR (k:Nat):List (FuncId×aF):=(176,⟨[.val aE (.pair (.pair .leaf (.pair .leaf q0)) (.pair .leaf (.pair .leaf (.pair .shr (.pair .shr (.pair .shr (.pair .leaf (.pair .shr (.pair .leaf (.pair .shr jb))))))))))],[.val .bool .leaf],ig k,[]⟩)::(uq k)
theorem A6 (k:Nat):ae Tryz.prog (qR k):=ae.ev ax mixed (ES k) zq zO k Tryz.func176 (by kernel_rfl) (fun x=>by kernel_rfl)
def yr (k:Nat):List (FuncId×aF):=(332,⟨[.val ah (.pair .leaf (.pair .leaf (.pair q3 (.pair .shr (.pair .leaf q7))))),.val (.int .i64) .leaf,.val .bool .leaf],[.val (.int .i64) .leaf],qB k,[]⟩)::(qR k)
theorem LH (k:Nat):ae Tryz.prog (yr k):=ae.ev ax mixed (A6 k) nA nA k Tryz.func332 (by kernel_rfl) (fun x=>by kernel_rfl)
def rU (k:Nat):List (FuncId×aF):=(267,⟨[.val ah (.pair .leaf (.pair .leaf (.pair q3 (.pair .shr (.pair .leaf q7))))),.val (.int .i64) .leaf],[.val (.int .i64) .leaf],js k,[]⟩)::(yr k)
theorem DY (k:Nat):ae Tryz.prog (rU k):=ae.ev ax mixed (LH k) nA nA k Tryz.func267 (by kernel_rfl) (fun x=>by kernel_rfl)
def qd (k:Nat):List (FuncId×aF):=(268,⟨[.val ah (.pair .leaf (.pair .leaf (.pair q3 (.pair .shr (.pair .leaf q7)))))],[.val .bool .leaf],gB k,[]⟩)::(rU k)
theorem Ad (k:Nat):ae Tryz.prog (qd k):=ae.ev ax mixed (DY k) nA nA k Tryz.func268 (by kernel_rfl) (fun x=>by kernel_rfl)
def Ax:Nat→Option aM:=fun|2=>some ⟨[(1,.box 3 aE (.pair (.pair .leaf (.pair .leaf (.pair .leaf cR))) (.pair .leaf (.pair .leaf (.pair (.sl (.sha [1])) (.pair (.sl (.sha [1])) (.pair (.sl (.sha [1])) (.pair .leaf (.pair (.sl (.sha [1])) (.pair .leaf (.pair (.sl (.sha [1])) (.pair (.sl (.sha [1])) (.pair (.sl (.sha [1])) dg))))))))))))),(10,.val (.sl ak) (.sl (.sha [1]))),(11,.val (.int .i64) .leaf),(12,.val (.int .i64) .leaf)],4⟩|5=>some ⟨[(1,.box 3 aE (.pair (.pair .leaf (.pair .leaf (.pair .leaf cR))) (.pair .leaf (.pair .leaf (.pair (.sl (.sha [1])) (.pair (.sl (.sha [1])) (.pair (.sl (.sha [1])) (.pair .leaf (.pair (.sl (.sha [1])) (.pair .leaf (.pair (.sl (.sha [1])) (.pair (.sl (.sha [1])) (.pair (.sl (.sha [1])) dg))))))))))))),(3,.val (.int .i64) .leaf),(4,.box 4 ak JA),(10,.val (.sl ak) (.sl (.sha [1]))),(11,.val (.int .i64) .leaf),(12,.val (.int .i64) .leaf),(18,.val (.sl ah) (.sl (.sha [1]))),(19,.val (.int .i64) .leaf),(20,.val (.int .i64) .leaf)],5⟩|12=>some ⟨[(1,.box 3 aE (.pair (.pair .leaf (.pair .leaf (.pair .leaf cR))) (.pair .leaf (.pair .leaf (.pair (.sl (.sha [1])) (.pair (.sl (.sha [1])) (.pair (.sl (.sha [1])) (.pair .leaf (.pair (.sl (.sha [1])) (.pair .leaf (.pair (.sl (.sha [1])) (.pair (.sl (.sha [1])) (.pair (.sl (.sha [1])) dg))))))))))))),(40,.val (.sl ah) (.sl (.sha [1]))),(41,.val (.int .i64) .leaf),(42,.val (.int .i64) .leaf)],4⟩|_=>none
def zh:Nat→Option aM:=fun|11=>some ⟨[(1,.box 3 aE (.pair (.pair .leaf (.pair .leaf (.pair .leaf cR))) (.pair .leaf (.pair .leaf (.pair (.sl (.sha [1])) (.pair (.sl (.sha [1])) (.pair (.sl (.sha [1])) (.pair .leaf (.pair (.sl (.sha [1])) (.pair .leaf (.pair (.sl (.sha [1])) (.pair (.sl (.sha [1])) (.pair (.sl (.sha [1])) dg)))))))))))))],4⟩|17=>some ⟨[(1,.box 3 aE (.pair (.pair .leaf (.pair .leaf (.pair .leaf cR))) (.pair .leaf (.pair .leaf (.pair (.sl (.sha [1])) (.pair (.sl (.sha [1])) (.pair (.sl (.sha [1])) (.pair .leaf (.pair (.sl (.sha [1])) (.pair .leaf (.pair (.sl (.sha [1])) (.pair (.sl (.sha [1])) (.pair (.sl (.sha [1])) dg)))))))))))))],4⟩|_=>none
def qY (k:Nat):List (FuncId×aF):=(177,⟨[.val aE (.pair (.pair .leaf (.pair .leaf q0)) (.pair .leaf (.pair .leaf (.pair .shr (.pair .shr (.pair .shr (.pair .leaf (.pair .shr (.pair .leaf (.pair .shr jb))))))))))],[.val .bool .leaf],ij k,[]⟩)::(qd k)
theorem Bc (k:Nat):ae Tryz.prog (qY k):=ae.ev ax mixed (Ad k) Ax zh k Tryz.func177 (by kernel_rfl) (fun x=>by kernel_rfl)
def Fm:Nat→Option aM:=fun|2=>some ⟨[(1,.val .str .leaf),(7,.val (.sl .str) (.sl (.sha [1]))),(8,.val (.int .i64) .leaf),(9,.val (.int .i64) .leaf)],3⟩|_=>none
def vq (k:Nat):List (FuncId×aF):=(370,⟨[.val (.sl .str) .shr,.val .str .leaf],[.val .bool .leaf],lO k,[]⟩)::(qY k)
theorem IY (k:Nat):ae Tryz.prog (vq k):=ae.ev ax mixed (Bc k) Fm nA k Tryz.func370 (by kernel_rfl) (fun x=>by kernel_rfl)
def EE:Nat→Option aM:=fun|3=>some ⟨[(1,.val (.sl .str) (.sl (.sha [1]))),(5,.val (.sl af) (.sl (.row 3 [] true))),(8,.val (.sl af) (.sl (.sha [1]))),(9,.val (.int .i64) .leaf),(10,.val (.int .i64) .leaf)],4⟩|_=>none
def vQ (k:Nat):List (FuncId×aF):=(345,⟨[.val (.sl af) .shr,.val (.sl .str) .shr],[.val (.sl af) .own],oX k,[]⟩)::(vq k)
theorem HL (k:Nat):ae Tryz.prog (vQ k):=ae.ev ax mixed (IY k) EE nA k Tryz.func345 (by kernel_rfl) (fun x=>by kernel_rfl)
def Ac (k:Nat):List (FuncId×aF):=(289,⟨[.val ab q3,.val (.sl .str) .shr],[.val (.sl af) .own],oL k,[]⟩)::(vQ k)
theorem Nb (k:Nat):ae Tryz.prog (Ac k):=ae.ev ax mixed (HL k) nA nA k Tryz.func289 (by kernel_rfl) (fun x=>by kernel_rfl)
def Ek:Nat→Option aM:=fun|2=>some ⟨[(0,.val (.sl af) (.sl (.sha [1]))),(1,.val (.sl af) (.sl (.sha [1]))),(5,.val (.int .i64) .leaf)],3⟩|_=>none
def FD:Nat→Option aM:=fun|8=>some ⟨[(0,.val (.sl af) (.sl (.sha [1]))),(1,.val (.sl af) (.sl (.sha [1])))],3⟩|_=>none
def vW (k:Nat):List (FuncId×aF):=(341,⟨[.val (.sl af) .shr,.val (.sl af) .shr],[.val .bool .leaf],iL k,[]⟩)::(Ac k)
theorem HF (k:Nat):ae Tryz.prog (vW k):=ae.ev ax mixed (Nb k) Ek FD k Tryz.func341 (by kernel_rfl) (fun x=>by kernel_rfl)
def Em:Nat→Option aM:=fun|2=>some ⟨[(0,.val (.sl ab) (.sl (.sha [1]))),(1,.val (.sl af) (.sl (.sha [1]))),(2,.val (.sl .str) (.sl (.sha [1]))),(9,.val (.sl ab) (.sl (.sha [1]))),(10,.val (.int .i64) .leaf),(11,.val (.int .i64) .leaf)],3⟩|_=>none
def wz (k:Nat):List (FuncId×aF):=(364,⟨[.val (.sl ab) .shr,.val (.sl af) .shr,.val (.sl .str) .shr],[.val .bool .leaf],lD k,[]⟩)::(vW k)
theorem I1 (k:Nat):ae Tryz.prog (wz k):=ae.ev ax mixed (HF k) Em nA k Tryz.func364 (by kernel_rfl) (fun x=>by kernel_rfl)
def wR (k:Nat):List (FuncId×aF):=(333,⟨[.val aj (.pair .leaf q4),.val (.sl .str) .shr],[.val .bool .leaf],lW k,[]⟩)::(wz k)
theorem H8 (k:Nat):ae Tryz.prog (wR k):=ae.ev ax mixed (I1 k) nA nA k Tryz.func333 (by kernel_rfl) (fun x=>by kernel_rfl)
def Fy:Nat→Option aM:=fun|2=>some ⟨[(1,.val (.sl af) (.sl (.sha [1]))),(7,.val (.sl aj) (.sl (.sha [1]))),(8,.val (.int .i64) .leaf),(9,.val (.int .i64) .leaf)],3⟩|_=>none
def vd (k:Nat):List (FuncId×aF):=(290,⟨[.val (.sl aj) .shr,.val (.sl af) .shr],[.val (.int .i64) .leaf],l0 k,[]⟩)::(wR k)
theorem IQ (k:Nat):ae Tryz.prog (vd k):=ae.ev ax mixed (H8 k) Fy nA k Tryz.func290 (by kernel_rfl) (fun x=>by kernel_rfl)
def Dj:Nat→Option aM:=fun|2=>some ⟨[(0,.val (.sl aj) (.sl (.sha [1]))),(1,.val (.sl .str) (.sl (.sha [1]))),(7,.val (.sl aj) (.sl (.sha [1]))),(8,.val (.int .i64) .leaf),(9,.val (.int .i64) .leaf)],3⟩|_=>none
def tN (k:Nat):List (FuncId×aF):=(269,⟨[.val (.sl aj) .shr,.val (.sl .str) .shr],[.val .bool .leaf],kz k,[]⟩)::(vd k)
theorem Gv (k:Nat):ae Tryz.prog (tN k):=ae.ev ax mixed (IQ k) Dj nA k Tryz.func269 (by kernel_rfl) (fun x=>by kernel_rfl)
def yg (k:Nat):List (FuncId×aF):=(334,⟨[.val aC (.pair .leaf .leaf),.val aC (.pair .leaf .leaf)],[.val .bool .leaf],mG k,[]⟩)::(tN k)
theorem Lt (k:Nat):ae Tryz.prog (yg k):=ae.ev ax mixed (Gv k) nA nA k Tryz.func334 (by kernel_rfl) (fun x=>by kernel_rfl)
def I0:Nat→Option aM:=fun|2=>some ⟨[(0,.val (.sl aC) (.sl (.sha [1]))),(5,.val (.sl aC) (.sl (.sha [1]))),(6,.val (.int .i64) .leaf),(7,.val (.int .i64) .leaf)],3⟩|_=>none
def Jl:Nat→Option aM:=fun|7=>some ⟨[(0,.val (.sl aC) (.sl (.sha [1])))],3⟩|_=>none
def xR (k:Nat):List (FuncId×aF):=(270,⟨[.val (.sl aC) .shr],[.val .bool .leaf],mX k,[]⟩)::(yg k)
theorem Ld (k:Nat):ae Tryz.prog (xR k):=ae.ev ax mixed (Lt k) I0 Jl k Tryz.func270 (by kernel_rfl) (fun x=>by kernel_rfl)
def vp (k:Nat):List (FuncId×aF):=(335,⟨[.val aj (.pair .leaf q4),.val (.int .i64) .leaf,.val (.int .i64) .leaf],[.val (.int .i64) .leaf],pG k,[]⟩)::(xR k)
theorem Ih (k:Nat):ae Tryz.prog (vp k):=ae.ev ax mixed (Ld k) nA nA k Tryz.func335 (by kernel_rfl) (fun x=>by kernel_rfl)
def FA (k:Nat):List (FuncId×aF):=(271,⟨[.val bC (.pair .leaf (.pair .leaf q0)),.val aj (.pair .leaf q4)],[.val (.int .i64) .leaf],rA k,[]⟩)::(vp k)
theorem Qr (k:Nat):ae Tryz.prog (FA k):=ae.ev ax mixed (Ih k) nA nA k Tryz.func271 (by kernel_rfl) (fun x=>by kernel_rfl)
def ze:Nat→Option aM:=fun|4=>some ⟨[(1,.box 3 aE (.pair (.pair .leaf (.pair .leaf (.pair .leaf cR))) (.pair .leaf (.pair .leaf (.pair (.sl (.sha [1])) (.pair (.sl (.sha [1])) (.pair (.sl (.sha [1])) (.pair .leaf (.pair (.sl (.sha [1])) (.pair .leaf (.pair (.sl (.sha [1])) (.pair (.sl (.sha [1])) (.pair (.sl (.sha [1])) dg))))))))))))),(26,.val (.sl aj) (.sl (.sha [1]))),(27,.val (.int .i64) .leaf),(28,.val (.int .i64) .leaf)],4⟩|10=>some ⟨[(1,.box 3 aE (.pair (.pair .leaf (.pair .leaf (.pair .leaf cR))) (.pair .leaf (.pair .leaf (.pair (.sl (.sha [1])) (.pair (.sl (.sha [1])) (.pair (.sl (.sha [1])) (.pair .leaf (.pair (.sl (.sha [1])) (.pair .leaf (.pair (.sl (.sha [1])) (.pair (.sl (.sha [1])) (.pair (.sl (.sha [1])) dg))))))))))))),(4,.box 4 aj (.pair .leaf (.pair (.sl (.sha [1,2])) JA))),(5,.val .bool .leaf),(26,.val (.sl aj) (.sl (.sha [1]))),(27,.val (.int .i64) .leaf),(28,.val (.int .i64) .leaf),(68,.val (.sl aC) (.sl (.sha [1]))),(69,.val (.int .i64) .leaf),(70,.val (.int .i64) .leaf)],5⟩|18=>some ⟨[(1,.box 3 aE (.pair (.pair .leaf (.pair .leaf (.pair .leaf cR))) (.pair .leaf (.pair .leaf (.pair (.sl (.sha [1])) (.pair (.sl (.sha [1])) (.pair (.sl (.sha [1])) (.pair .leaf (.pair (.sl (.sha [1])) (.pair .leaf (.pair (.sl (.sha [1])) (.pair (.sl (.sha [1])) (.pair (.sl (.sha [1])) dg))))))))))))),(96,.val (.sl aC) (.sl (.sha [1]))),(97,.val (.int .i64) .leaf),(98,.val (.int .i64) .leaf)],4⟩|23=>some ⟨[(1,.box 3 aE (.pair (.pair .leaf (.pair .leaf (.pair .leaf cR))) (.pair .leaf (.pair .leaf (.pair (.sl (.sha [1])) (.pair (.sl (.sha [1])) (.pair (.sl (.sha [1])) (.pair .leaf (.pair (.sl (.sha [1])) (.pair .leaf (.pair (.sl (.sha [1])) (.pair (.sl (.sha [1])) (.pair (.sl (.sha [1])) dg))))))))))))),(9,.box 4 aC (.pair .leaf .leaf)),(96,.val (.sl aC) (.sl (.sha [1]))),(97,.val (.int .i64) .leaf),(98,.val (.int .i64) .leaf),(111,.val (.sl aC) (.sl (.sha [1]))),(112,.val (.int .i64) .leaf),(113,.val (.int .i64) .leaf)],5⟩|_=>none
def y0:Nat→Option aM:=fun|14=>some ⟨[(1,.box 3 aE (.pair (.pair .leaf (.pair .leaf (.pair .leaf cR))) (.pair .leaf (.pair .leaf (.pair (.sl (.sha [1])) (.pair (.sl (.sha [1])) (.pair (.sl (.sha [1])) (.pair .leaf (.pair (.sl (.sha [1])) (.pair .leaf (.pair (.sl (.sha [1])) (.pair (.sl (.sha [1])) (.pair (.sl (.sha [1])) dg))))))))))))),(4,.box 4 aj (.pair .leaf (.pair (.sl (.sha [1,2])) JA))),(5,.val .bool .leaf),(26,.val (.sl aj) (.sl (.sha [1]))),(27,.val (.int .i64) .leaf),(28,.val (.int .i64) .leaf)],5⟩|17=>some ⟨[(1,.box 3 aE (.pair (.pair .leaf (.pair .leaf (.pair .leaf cR))) (.pair .leaf (.pair .leaf (.pair (.sl (.sha [1])) (.pair (.sl (.sha [1])) (.pair (.sl (.sha [1])) (.pair .leaf (.pair (.sl (.sha [1])) (.pair .leaf (.pair (.sl (.sha [1])) (.pair (.sl (.sha [1])) (.pair (.sl (.sha [1])) dg)))))))))))))],4⟩|_=>none
def qq (k:Nat):List (FuncId×aF):=(178,⟨[.val aE (.pair (.pair .leaf (.pair .leaf q0)) (.pair .leaf (.pair .leaf (.pair .shr (.pair .shr (.pair .shr (.pair .leaf (.pair .shr (.pair .leaf (.pair .shr jb))))))))))],[.val .bool .leaf],gy k,[]⟩)::(FA k)
theorem zM (k:Nat):ae Tryz.prog (qq k):=ae.ev ax mixed (Qr k) ze y0 k Tryz.func178 (by kernel_rfl) (fun x=>by kernel_rfl)
end Vg.Tryz
namespace Vg.Tryz
open Go Vg Go.Proofs
set_option linter.unusedVariables false
set_option maxRecDepth 1000000
def uX (k:Nat):List (FuncId×aF):=(81,⟨[.val aE (.pair (.pair .leaf (.pair .leaf q0)) (.pair .leaf (.pair .leaf (.pair .shr (.pair .shr (.pair .shr (.pair .leaf (.pair .shr (.pair .leaf (.pair .shr jb))))))))))],[.val .bool .leaf],lQ k,[]⟩)::(qq k)
theorem HQ (k:Nat):ae Tryz.prog (uX k):=ae.ev ax mixed (zM k) nA nA k Tryz.func81 (by kernel_rfl) (fun x=>by kernel_rfl)
def B8 (k:Nat):List (FuncId×aF):=(275,⟨[.val aE (.pair (.pair .leaf (.pair .leaf q0)) (.pair .leaf (.pair .leaf (.pair .shr (.pair .shr (.pair .shr (.pair .leaf (.pair .shr (.pair .leaf (.pair .shr jb)))))))))),.val (.int .i64) .leaf],[.val .bool .leaf],pV k,[]⟩)::(uX k)
theorem OH (k:Nat):ae Tryz.prog (B8 k):=ae.ev ax mixed (HQ k) nA nA k Tryz.func275 (by kernel_rfl) (fun x=>by kernel_rfl)
def yD (k:Nat):List (FuncId×aF):=(194,⟨[.val aE (.pair (.pair .leaf (.pair .leaf q0)) (.pair .leaf (.pair .leaf (.pair .shr (.pair .shr (.pair .shr (.pair .leaf (.pair .shr (.pair .leaf (.pair .shr jb)))))))))),.val (.int .i64) .leaf],[.val .bool .leaf],mH k,[]⟩)::(B8 k)
theorem KN (k:Nat):ae Tryz.prog (yD k):=ae.ev ax mixed (OH k) nA nA k Tryz.func194 (by kernel_rfl) (fun x=>by kernel_rfl)
def qu (k:Nat):List (FuncId×aF):=(195,⟨[.io aE (.pair (.pair .leaf (.pair .leaf wN)) (.pair .leaf (.pair .leaf (.pair .own (.pair .own (.pair .own (.pair .leaf (.pair .own (.pair .leaf (.pair .own Cv)))))))))),.val aq (.pair .leaf (.pair .leaf (.pair qM (.pair .own (.pair .leaf (.pair .leaf (.pair .leaf (.pair .own ub))))))))],[.val (.int .i64) .leaf],gY k,[(0,(dA 14 12))]⟩)::(yD k)
theorem zB (k:Nat):ae Tryz.prog (qu k):=ae.ev ax mixed (KN k) nA nA k Tryz.func195 (by kernel_rfl) (fun x=>by kernel_rfl)
def qa (k:Nat):List (FuncId×aF):=(179,⟨[.io aE (.pair (.pair .leaf (.pair .leaf wN)) (.pair .leaf (.pair .leaf (.pair .own (.pair .own (.pair .own (.pair .leaf (.pair .own (.pair .leaf (.pair .own Cv)))))))))),.val (.int .i64) .leaf,.val ah (.pair .leaf (.pair .leaf (.pair qM (.pair .own (.pair .leaf S2))))),.val aq (.pair .leaf (.pair .leaf (.pair qM (.pair .own (.pair .leaf (.pair .leaf (.pair .leaf (.pair .own ub))))))))],[.val .bool .leaf],gU k,[]⟩)::(qu k)
theorem Av (k:Nat):ae Tryz.prog (qa k):=ae.ev ax mixed (zB k) nA nA k Tryz.func179 (by kernel_rfl) (fun x=>by kernel_rfl)
def qP (k:Nat):List (FuncId×aF):=(105,⟨[.io aE (.pair (.pair .leaf (.pair .leaf wN)) (.pair .leaf (.pair .leaf (.pair .own (.pair .own (.pair .own (.pair .leaf (.pair .own (.pair .leaf (.pair .own Cv)))))))))),.val (.int .i64) .leaf,.val (.sl af) .shr],[.val .bool .leaf],mi k,[]⟩)::(qa k)
theorem Bw (k:Nat):ae Tryz.prog (qP k):=ae.kx ax mixed (Av k) (show cm Tryz.prog []from trivial) nA nA k Tryz.func105 (by kernel_rfl) (fun x=>by kernel_rfl)
def Cf (k:Nat):List (FuncId×aF):=(27,⟨[.val aE (.pair (.pair .leaf (.pair .leaf q0)) (.pair .leaf (.pair .leaf (.pair .shr (.pair .shr (.pair .shr (.pair .leaf (.pair .shr (.pair .leaf (.pair .shr jb)))))))))),.val (.int .i64) .leaf,.val (.sl af) .shr],[.val aE (.pair (.pair .leaf (.pair .leaf wN)) (.pair .leaf (.pair .leaf (.pair .own (.pair .own (.pair .own (.pair .leaf (.pair .own (.pair .leaf (.pair .own Cv)))))))))),.val .bool .leaf],mD k,[]⟩)::(qP k)
theorem OL (k:Nat):ae Tryz.prog (Cf k):=ae.kx ax mixed (Bw k) (show cm Tryz.prog []from trivial) nA nA k Tryz.func27 (by kernel_rfl) (fun x=>by kernel_rfl)
def BR:Nat→Option aM:=fun|4=>some ⟨[(0,.val (.sl .str) (.sl (.sha [1]))),(1,.val (.sl .str) (.sl (.sha [1]))),(5,.val (.int .i64) .leaf)],3⟩|_=>none
def td (k:Nat):List (FuncId×aF):=(138,⟨[.val (.sl .str) .shr,.val (.sl .str) .shr],[.val .bool .leaf],nu k,[]⟩)::(Cf k)
theorem De (k:Nat):ae Tryz.prog (td k):=ae.ev ax mixed (OL k) BR nA k Tryz.func138 (by kernel_rfl) (fun x=>by kernel_rfl)
def yM (k:Nat):List (FuncId×aF):=(66,⟨[.val bC (.pair .leaf (.pair .leaf q0)),.val bC (.pair .leaf (.pair .leaf q0))],[.val .bool .leaf],nf k,[]⟩)::(td k)
theorem Le (k:Nat):ae Tryz.prog (yM k):=ae.ev ax mixed (De k) nA nA k Tryz.func66 (by kernel_rfl) (fun x=>by kernel_rfl)
def wq (k:Nat):List (FuncId×aF):=(106,⟨[.val af (.pair .leaf .leaf),.val af (.pair .leaf .leaf)],[.val .bool .leaf],iC k,[]⟩)::(yM k)
theorem H7 (k:Nat):ae Tryz.prog (wq k):=ae.ev ax mixed (Le k) nA nA k Tryz.func106 (by kernel_rfl) (fun x=>by kernel_rfl)
def CJ:Nat→Option aM:=fun|4=>some ⟨[(0,.val (.sl af) (.sl (.sha [1]))),(1,.val (.sl af) (.sl (.sha [1]))),(5,.val (.int .i64) .leaf)],3⟩|_=>none
def uE (k:Nat):List (FuncId×aF):=(28,⟨[.val (.sl af) .shr,.val (.sl af) .shr],[.val .bool .leaf],dY k,[]⟩)::(wq k)
theorem FZ (k:Nat):ae Tryz.prog (uE k):=ae.ev ax mixed (H7 k) CJ nA k Tryz.func28 (by kernel_rfl) (fun x=>by kernel_rfl)
def vC (k:Nat):List (FuncId×aF):=(34,⟨[.val ab q3,.val ab q3],[.val .bool .leaf],eN k,[]⟩)::(uE k)
theorem JB (k:Nat):ae Tryz.prog (vC k):=ae.ev ax mixed (FZ k) nA nA k Tryz.func34 (by kernel_rfl) (fun x=>by kernel_rfl)
def DW:Nat→Option aM:=fun|4=>some ⟨[(0,.val (.sl ab) (.sl (.sha [1]))),(1,.val (.sl ab) (.sl (.sha [1]))),(5,.val (.int .i64) .leaf)],3⟩|_=>none
def uh (k:Nat):List (FuncId×aF):=(69,⟨[.val (.sl ab) .shr,.val (.sl ab) .shr],[.val .bool .leaf],db k,[]⟩)::(vC k)
theorem GC (k:Nat):ae Tryz.prog (uh k):=ae.ev ax mixed (JB k) DW nA k Tryz.func69 (by kernel_rfl) (fun x=>by kernel_rfl)
def vo (k:Nat):List (FuncId×aF):=(309,⟨[.val ay (.pair .leaf .shr),.val ay (.pair .leaf .shr)],[.val .bool .leaf],iv k,[]⟩)::(uh k)
theorem JM (k:Nat):ae Tryz.prog (vo k):=ae.ev ax mixed (GC k) nA nA k Tryz.func309 (by kernel_rfl) (fun x=>by kernel_rfl)
def Dw:Nat→Option aM:=fun|4=>some ⟨[(0,.val (.sl ay) (.sl (.sha [1]))),(1,.val (.sl ay) (.sl (.sha [1]))),(5,.val (.int .i64) .leaf)],3⟩|_=>none
def tj (k:Nat):List (FuncId×aF):=(233,⟨[.val (.sl ay) .shr,.val (.sl ay) .shr],[.val .bool .leaf],oU k,[]⟩)::(vo k)
theorem Fs (k:Nat):ae Tryz.prog (tj k):=ae.ev ax mixed (JM k) Dw nA k Tryz.func233 (by kernel_rfl) (fun x=>by kernel_rfl)
def yR (k:Nat):List (FuncId×aF):=(139,⟨[.val ak (.pair .leaf (.pair .leaf .shr)),.val ak (.pair .leaf (.pair .leaf .shr))],[.val .bool .leaf],jD k,[]⟩)::(tj k)
theorem KQ (k:Nat):ae Tryz.prog (yR k):=ae.ev ax mixed (Fs k) nA nA k Tryz.func139 (by kernel_rfl) (fun x=>by kernel_rfl)
def Gc:Nat→Option aM:=fun|4=>some ⟨[(0,.val (.sl ak) (.sl (.sha [1]))),(1,.val (.sl ak) (.sl (.sha [1]))),(5,.val (.int .i64) .leaf)],3⟩|_=>none
def wL (k:Nat):List (FuncId×aF):=(67,⟨[.val (.sl ak) .shr,.val (.sl ak) .shr],[.val .bool .leaf],pH k,[]⟩)::(yR k)
theorem Ka (k:Nat):ae Tryz.prog (wL k):=ae.ev ax mixed (KQ k) Gc nA k Tryz.func67 (by kernel_rfl) (fun x=>by kernel_rfl)
def zW (k:Nat):List (FuncId×aF):=(140,⟨[.val aU (.pair .shr .leaf),.val aU (.pair .shr .leaf)],[.val .bool .leaf],kL k,[]⟩)::(wL k)
theorem Mn (k:Nat):ae Tryz.prog (zW k):=ae.ev ax mixed (Ka k) nA nA k Tryz.func140 (by kernel_rfl) (fun x=>by kernel_rfl)
def H9:Nat→Option aM:=fun|4=>some ⟨[(0,.val (.sl aU) (.sl (.sha [1]))),(1,.val (.sl aU) (.sl (.sha [1]))),(5,.val (.int .i64) .leaf)],3⟩|_=>none
def yB (k:Nat):List (FuncId×aF):=(68,⟨[.val (.sl aU) .shr,.val (.sl aU) .shr],[.val .bool .leaf],qJ k,[]⟩)::(zW k)
theorem LN (k:Nat):ae Tryz.prog (yB k):=ae.ev ax mixed (Mn k) H9 nA k Tryz.func68 (by kernel_rfl) (fun x=>by kernel_rfl)
def v7 (k:Nat):List (FuncId×aF):=(141,⟨[.val aj (.pair .leaf q4),.val aj (.pair .leaf q4)],[.val .bool .leaf],iW k,[]⟩)::(yB k)
theorem Ik (k:Nat):ae Tryz.prog (v7 k):=ae.ev ax mixed (LN k) nA nA k Tryz.func141 (by kernel_rfl) (fun x=>by kernel_rfl)
def DP:Nat→Option aM:=fun|4=>some ⟨[(0,.val (.sl aj) (.sl (.sha [1]))),(1,.val (.sl aj) (.sl (.sha [1]))),(5,.val (.int .i64) .leaf)],3⟩|_=>none
def tl (k:Nat):List (FuncId×aF):=(70,⟨[.val (.sl aj) .shr,.val (.sl aj) .shr],[.val .bool .leaf],oe k,[]⟩)::(v7 k)
theorem GV (k:Nat):ae Tryz.prog (tl k):=ae.ev ax mixed (Ik k) DP nA k Tryz.func70 (by kernel_rfl) (fun x=>by kernel_rfl)
def vk (k:Nat):List (FuncId×aF):=(142,⟨[.val aC (.pair .leaf .leaf),.val aC (.pair .leaf .leaf)],[.val .bool .leaf],iY k,[]⟩)::(tl k)
theorem HP (k:Nat):ae Tryz.prog (vk k):=ae.ev ax mixed (GV k) nA nA k Tryz.func142 (by kernel_rfl) (fun x=>by kernel_rfl)
def C3:Nat→Option aM:=fun|4=>some ⟨[(0,.val (.sl aC) (.sl (.sha [1]))),(1,.val (.sl aC) (.sl (.sha [1]))),(5,.val (.int .i64) .leaf)],3⟩|_=>none
def tp (k:Nat):List (FuncId×aF):=(71,⟨[.val (.sl aC) .shr,.val (.sl aC) .shr],[.val .bool .leaf],oP k,[]⟩)::(vk k)
theorem GJ (k:Nat):ae Tryz.prog (tp k):=ae.ev ax mixed (HP k) C3 nA k Tryz.func71 (by kernel_rfl) (fun x=>by kernel_rfl)
def vF (k:Nat):List (FuncId×aF):=(143,⟨[.val aN q6,.val aN q6],[.val .bool .leaf],iM k,[]⟩)::(tp k)
theorem Ir (k:Nat):ae Tryz.prog (vF k):=ae.ev ax mixed (GJ k) nA nA k Tryz.func143 (by kernel_rfl) (fun x=>by kernel_rfl)
def Df:Nat→Option aM:=fun|4=>some ⟨[(0,.val (.sl aN) (.sl (.sha [1]))),(1,.val (.sl aN) (.sl (.sha [1]))),(5,.val (.int .i64) .leaf)],3⟩|_=>none
def ud (k:Nat):List (FuncId×aF):=(72,⟨[.val (.sl aN) .shr,.val (.sl aN) .shr],[.val .bool .leaf],oM k,[]⟩)::(vF k)
theorem Fg (k:Nat):ae Tryz.prog (ud k):=ae.ev ax mixed (Ir k) Df nA k Tryz.func72 (by kernel_rfl) (fun x=>by kernel_rfl)
end Vg.Tryz
namespace Vg.Tryz
open Go Vg Go.Proofs
set_option linter.unusedVariables false
set_option maxRecDepth 1000000
def Jm:Nat→Option aM:=fun|4=>some ⟨[(0,.val (.sl (.int .i64)) (.sl (.sha [1]))),(1,.val (.sl (.int .i64)) (.sl (.sha [1]))),(5,.val (.int .i64) .leaf)],3⟩|_=>none
def yt (k:Nat):List (FuncId×aF):=(234,⟨[.val (.sl (.int .i64)) .shr,.val (.sl (.int .i64)) .shr],[.val .bool .leaf],qI k,[]⟩)::(ud k)
theorem K4 (k:Nat):ae Tryz.prog (yt k):=ae.ev ax mixed (Fg k) Jm nA k Tryz.func234 (by kernel_rfl) (fun x=>by kernel_rfl)
def yQ (k:Nat):List (FuncId×aF):=(144,⟨[.val ah (.pair .leaf (.pair .leaf (.pair q3 (.pair .shr (.pair .leaf q7))))),.val ah (.pair .leaf (.pair .leaf (.pair q3 (.pair .shr (.pair .leaf q7)))))],[.val .bool .leaf],jT k,[]⟩)::(yt k)
theorem KV (k:Nat):ae Tryz.prog (yQ k):=ae.ev ax mixed (K4 k) nA nA k Tryz.func144 (by kernel_rfl) (fun x=>by kernel_rfl)
def GF:Nat→Option aM:=fun|4=>some ⟨[(0,.val (.sl ah) (.sl (.sha [1]))),(1,.val (.sl ah) (.sl (.sha [1]))),(5,.val (.int .i64) .leaf)],3⟩|_=>none
def u3 (k:Nat):List (FuncId×aF):=(73,⟨[.val (.sl ah) .shr,.val (.sl ah) .shr],[.val .bool .leaf],pM k,[]⟩)::(yQ k)
theorem JO (k:Nat):ae Tryz.prog (u3 k):=ae.ev ax mixed (KV k) GF nA k Tryz.func73 (by kernel_rfl) (fun x=>by kernel_rfl)
def xL (k:Nat):List (FuncId×aF):=(145,⟨[.val aq (.pair .leaf (.pair .leaf (.pair q3 (.pair .shr (.pair .leaf (.pair .leaf (.pair .leaf (.pair .shr ub)))))))),.val aq (.pair .leaf (.pair .leaf (.pair q3 (.pair .shr (.pair .leaf (.pair .leaf (.pair .leaf (.pair .shr ub))))))))],[.val .bool .leaf],jK k,[]⟩)::(u3 k)
theorem Lc (k:Nat):ae Tryz.prog (xL k):=ae.ev ax mixed (JO k) nA nA k Tryz.func145 (by kernel_rfl) (fun x=>by kernel_rfl)
def FN:Nat→Option aM:=fun|4=>some ⟨[(0,.val (.sl aq) (.sl (.sha [1]))),(1,.val (.sl aq) (.sl (.sha [1]))),(5,.val (.int .i64) .leaf)],3⟩|_=>none
def wh (k:Nat):List (FuncId×aF):=(74,⟨[.val (.sl aq) .shr,.val (.sl aq) .shr],[.val .bool .leaf],pz k,[]⟩)::(xL k)
theorem IP (k:Nat):ae Tryz.prog (wh k):=ae.ev ax mixed (Lc k) FN nA k Tryz.func74 (by kernel_rfl) (fun x=>by kernel_rfl)
def vw (k:Nat):List (FuncId×aF):=(17,⟨[.val aE (.pair (.pair .leaf (.pair .leaf q0)) (.pair .leaf (.pair .leaf (.pair .shr (.pair .shr (.pair .shr (.pair .leaf (.pair .shr (.pair .leaf (.pair .shr jb)))))))))),.val aE (.pair (.pair .leaf (.pair .leaf q0)) (.pair .leaf (.pair .leaf (.pair .shr (.pair .shr (.pair .shr (.pair .leaf (.pair .shr (.pair .leaf (.pair .shr jb))))))))))],[.val .bool .leaf],eY k,[]⟩)::(wh k)
theorem Jk (k:Nat):ae Tryz.prog (vw k):=ae.ev ax mixed (IP k) nA nA k Tryz.func17 (by kernel_rfl) (fun x=>by kernel_rfl)
def CV:Nat→Option aM:=fun|4=>some ⟨[(0,.val (.int .i64) .leaf),(3,.val .str .leaf)],3⟩|_=>none
def DI:Nat→Option aM:=fun|7=>some ⟨[(3,.val .str .leaf)],3⟩|_=>none
def tT (k:Nat):List (FuncId×aF):=(107,⟨[.val (.int .i64) .leaf],[.val .str .leaf],bS k,[]⟩)::(vw k)
theorem bT (k:Nat):ae Tryz.prog (tT k):=ae.ev ax mixed (Jk k) CV DI k Tryz.func107 (by kernel_rfl) (fun x=>by kernel_rfl)
def zd:Nat→Option aM:=fun|2=>some ⟨[(0,.val (.sl .str) (.sl (.row 3 [3] true))),(1,.val (.int .i64) .leaf),(5,.val (.int .i64) .leaf)],4⟩|_=>none
def qg (k:Nat):List (FuncId×dG):=(180,⟨(.sl .str),kS k⟩)::([]:List (FuncId×dG))
theorem Ah (k:Nat):cm Tryz.prog (qg k):=cm.ev ax mixed (bT k) (show cm Tryz.prog []from trivial) zd nA k Tryz.func180 (by kernel_rfl) (fun x n=>by kernel_rfl)
def tU (k:Nat):List (FuncId×dG):=(83,⟨bC,nR k⟩)::(qg k)
theorem Hp (k:Nat):cm Tryz.prog (tU k):=cm.ev ax mixed (bT k) (Ah k) nA nA k Tryz.func83 (by kernel_rfl) (fun x n=>by kernel_rfl)
def Ap:Nat→Option aM:=fun|2=>some ⟨[(0,.val (.sl af) (.sl (.row 3 [3] true))),(1,.val (.int .i64) .leaf),(5,.val (.int .i64) .leaf)],4⟩|_=>none
def qV (k:Nat):List (FuncId×dG):=(29,⟨(.sl af),cI k⟩)::(tU k)
theorem Bn (k:Nat):cm Tryz.prog (qV k):=cm.ev ax mixed (bT k) (Hp k) Ap nA k Tryz.func29 (by kernel_rfl) (fun x n=>by kernel_rfl)
def Ao:Nat→Option aM:=fun|2=>some ⟨[(0,.val (.sl ab) (.sl (.row 3 [3] true))),(1,.val (.int .i64) .leaf),(5,.val (.int .i64) .leaf)],4⟩|_=>none
def rj (k:Nat):List (FuncId×dG):=(86,⟨(.sl ab),cH k⟩)::(qV k)
theorem A0 (k:Nat):cm Tryz.prog (rj k):=cm.ev ax mixed (bT k) (Bn k) Ao nA k Tryz.func86 (by kernel_rfl) (fun x n=>by kernel_rfl)
def AH:Nat→Option aM:=fun|2=>some ⟨[(0,.val (.sl ay) (.sl (.row 3 [3] true))),(1,.val (.int .i64) .leaf),(5,.val (.int .i64) .leaf)],4⟩|_=>none
def rl (k:Nat):List (FuncId×dG):=(181,⟨(.sl ay),mo k⟩)::(rj k)
theorem Bp (k:Nat):cm Tryz.prog (rl k):=cm.ev ax mixed (bT k) (A0 k) AH nA k Tryz.func181 (by kernel_rfl) (fun x n=>by kernel_rfl)
def Be:Nat→Option aM:=fun|2=>some ⟨[(0,.val (.sl ak) (.sl (.row 3 [3] true))),(1,.val (.int .i64) .leaf),(5,.val (.int .i64) .leaf)],4⟩|_=>none
def sL (k:Nat):List (FuncId×dG):=(84,⟨(.sl ak),nB k⟩)::(rl k)
theorem DD (k:Nat):cm Tryz.prog (sL k):=cm.ev ax mixed (bT k) (Bp k) Be nA k Tryz.func84 (by kernel_rfl) (fun x n=>by kernel_rfl)
def D3:Nat→Option aM:=fun|2=>some ⟨[(0,.val (.sl aU) (.sl (.row 3 [3] true))),(1,.val (.int .i64) .leaf),(5,.val (.int .i64) .leaf)],4⟩|_=>none
def th (k:Nat):List (FuncId×dG):=(85,⟨(.sl aU),nV k⟩)::(sL k)
theorem EI (k:Nat):cm Tryz.prog (th k):=cm.ev ax mixed (bT k) (DD k) D3 nA k Tryz.func85 (by kernel_rfl) (fun x n=>by kernel_rfl)
def zx:Nat→Option aM:=fun|2=>some ⟨[(0,.val (.sl aj) (.sl (.row 3 [3] true))),(1,.val (.int .i64) .leaf),(5,.val (.int .i64) .leaf)],4⟩|_=>none
def qU (k:Nat):List (FuncId×dG):=(87,⟨(.sl aj),mn k⟩)::(th k)
theorem Bh (k:Nat):cm Tryz.prog (qU k):=cm.ev ax mixed (bT k) (EI k) zx nA k Tryz.func87 (by kernel_rfl) (fun x n=>by kernel_rfl)
def Ak:Nat→Option aM:=fun|2=>some ⟨[(0,.val (.sl aC) (.sl (.row 3 [3] true))),(1,.val (.int .i64) .leaf),(5,.val (.int .i64) .leaf)],4⟩|_=>none
def qQ (k:Nat):List (FuncId×dG):=(88,⟨(.sl aC),ml k⟩)::(qU k)
theorem BP (k:Nat):cm Tryz.prog (qQ k):=cm.ev ax mixed (bT k) (Bh k) Ak nA k Tryz.func88 (by kernel_rfl) (fun x n=>by kernel_rfl)
def zX:Nat→Option aM:=fun|2=>some ⟨[(0,.val (.sl aN) (.sl (.row 3 [3] true))),(1,.val (.int .i64) .leaf),(5,.val (.int .i64) .leaf)],4⟩|_=>none
def qN (k:Nat):List (FuncId×dG):=(89,⟨(.sl aN),mc k⟩)::(qQ k)
theorem AX (k:Nat):cm Tryz.prog (qN k):=cm.ev ax mixed (bT k) (BP k) zX nA k Tryz.func89 (by kernel_rfl) (fun x n=>by kernel_rfl)
def C7:Nat→Option aM:=fun|2=>some ⟨[(0,.val (.sl (.int .i64)) (.sl (.row 3 [3] true))),(1,.val (.int .i64) .leaf),(5,.val (.int .i64) .leaf)],4⟩|_=>none
def tg (k:Nat):List (FuncId×dG):=(182,⟨(.sl (.int .i64)),ox k⟩)::(qN k)
theorem E5 (k:Nat):cm Tryz.prog (tg k):=cm.ev ax mixed (bT k) (AX k) C7 nA k Tryz.func182 (by kernel_rfl) (fun x n=>by kernel_rfl)
def BU:Nat→Option aM:=fun|2=>some ⟨[(0,.val (.sl ah) (.sl (.row 3 [3] true))),(1,.val (.int .i64) .leaf),(5,.val (.int .i64) .leaf)],4⟩|_=>none
def sJ (k:Nat):List (FuncId×dG):=(90,⟨(.sl ah),nr k⟩)::(tg k)
theorem DF (k:Nat):cm Tryz.prog (sJ k):=cm.ev ax mixed (bT k) (E5 k) BU nA k Tryz.func90 (by kernel_rfl) (fun x n=>by kernel_rfl)
def A3:Nat→Option aM:=fun|2=>some ⟨[(0,.val (.sl aq) (.sl (.row 3 [3] true))),(1,.val (.int .i64) .leaf),(5,.val (.int .i64) .leaf)],4⟩|_=>none
def sq (k:Nat):List (FuncId×dG):=(91,⟨(.sl aq),ny k⟩)::(sJ k)
theorem Ed (k:Nat):cm Tryz.prog (sq k):=cm.ev ax mixed (bT k) (DF k) A3 nA k Tryz.func91 (by kernel_rfl) (fun x n=>by kernel_rfl)
def CP (k:Nat):List (FuncId×dG):=(20,⟨aE,gf k⟩)::(sq k)
theorem CX (k:Nat):cm Tryz.prog (CP k):=cm.ev ax mixed (bT k) (Ed k) nA nA k Tryz.func20 (by kernel_rfl) (fun x n=>by kernel_rfl)
def zc:Nat→Option aM:=fun|2=>some ⟨[(0,.val (.sl .str) (.sl (.sha [1]))),(1,.val (.int .i64) .leaf),(5,.val (.int .i64) .leaf)],3⟩|_=>none
def ql (k:Nat):List (FuncId×aF):=(183,⟨[.val (.sl .str) .shr,.val (.int .i64) .leaf],[.val (.int .i64) .leaf],ld k,[]⟩)::(tT k)
theorem zu (k:Nat):ae Tryz.prog (ql k):=ae.ev ax mixed (bT k) zc nA k Tryz.func183 (by kernel_rfl) (fun x=>by kernel_rfl)
def tV (k:Nat):List (FuncId×aF):=(92,⟨[.val bC (.pair .leaf (.pair .leaf q0)),.val (.int .i64) .leaf],[.val (.int .i64) .leaf],oy k,[]⟩)::(ql k)
theorem Hh (k:Nat):ae Tryz.prog (tV k):=ae.ev ax mixed (zu k) nA nA k Tryz.func92 (by kernel_rfl) (fun x=>by kernel_rfl)
def AF:Nat→Option aM:=fun|2=>some ⟨[(0,.val (.sl af) (.sl (.sha [1]))),(1,.val (.int .i64) .leaf),(5,.val (.int .i64) .leaf)],3⟩|_=>none
def rb (k:Nat):List (FuncId×aF):=(185,⟨[.val (.sl af) .shr,.val (.int .i64) .leaf],[.val (.int .i64) .leaf],cY k,[]⟩)::(tV k)
theorem Bg (k:Nat):ae Tryz.prog (rb k):=ae.ev ax mixed (Hh k) AF nA k Tryz.func185 (by kernel_rfl) (fun x=>by kernel_rfl)
def zg:Nat→Option aM:=fun|2=>some ⟨[(0,.val (.sl ab) (.sl (.sha [1]))),(1,.val (.int .i64) .leaf),(5,.val (.int .i64) .leaf)],3⟩|_=>none
def qK (k:Nat):List (FuncId×aF):=(95,⟨[.val (.sl ab) .shr,.val (.int .i64) .leaf],[.val (.int .i64) .leaf],cG k,[]⟩)::(rb k)
theorem BG (k:Nat):ae Tryz.prog (qK k):=ae.ev ax mixed (Bg k) zg nA k Tryz.func95 (by kernel_rfl) (fun x=>by kernel_rfl)
end Vg.Tryz
namespace Vg.Tryz
open Go Vg Go.Proofs
set_option linter.unusedVariables false
set_option maxRecDepth 1000000
def Ae:Nat→Option aM:=fun|2=>some ⟨[(0,.val (.sl ay) (.sl (.sha [1]))),(1,.val (.int .i64) .leaf),(5,.val (.int .i64) .leaf)],3⟩|_=>none
def rm (k:Nat):List (FuncId×aF):=(184,⟨[.val (.sl ay) .shr,.val (.int .i64) .leaf],[.val (.int .i64) .leaf],mq k,[]⟩)::(qK k)
theorem A8 (k:Nat):ae Tryz.prog (rm k):=ae.ev ax mixed (BG k) Ae nA k Tryz.func184 (by kernel_rfl) (fun x=>by kernel_rfl)
def BN:Nat→Option aM:=fun|2=>some ⟨[(0,.val (.sl ak) (.sl (.sha [1]))),(1,.val (.int .i64) .leaf),(5,.val (.int .i64) .leaf)],3⟩|_=>none
def sH (k:Nat):List (FuncId×aF):=(93,⟨[.val (.sl ak) .shr,.val (.int .i64) .leaf],[.val (.int .i64) .leaf],nF k,[]⟩)::(rm k)
theorem CW (k:Nat):ae Tryz.prog (sH k):=ae.ev ax mixed (A8 k) BN nA k Tryz.func93 (by kernel_rfl) (fun x=>by kernel_rfl)
def Dm:Nat→Option aM:=fun|2=>some ⟨[(0,.val (.sl aU) (.sl (.sha [1]))),(1,.val (.int .i64) .leaf),(5,.val (.int .i64) .leaf)],3⟩|_=>none
def tG (k:Nat):List (FuncId×aF):=(94,⟨[.val (.sl aU) .shr,.val (.int .i64) .leaf],[.val (.int .i64) .leaf],ov k,[]⟩)::(sH k)
theorem Gf (k:Nat):ae Tryz.prog (tG k):=ae.ev ax mixed (CW k) Dm nA k Tryz.func94 (by kernel_rfl) (fun x=>by kernel_rfl)
def zv:Nat→Option aM:=fun|2=>some ⟨[(0,.val (.sl aj) (.sl (.sha [1]))),(1,.val (.int .i64) .leaf),(5,.val (.int .i64) .leaf)],3⟩|_=>none
def rk (k:Nat):List (FuncId×aF):=(96,⟨[.val (.sl aj) .shr,.val (.int .i64) .leaf],[.val (.int .i64) .leaf],mf k,[]⟩)::(tG k)
theorem AW (k:Nat):ae Tryz.prog (rk k):=ae.ev ax mixed (Gf k) zv nA k Tryz.func96 (by kernel_rfl) (fun x=>by kernel_rfl)
def AD:Nat→Option aM:=fun|2=>some ⟨[(0,.val (.sl aC) (.sl (.sha [1]))),(1,.val (.int .i64) .leaf),(5,.val (.int .i64) .leaf)],3⟩|_=>none
def qO (k:Nat):List (FuncId×aF):=(97,⟨[.val (.sl aC) .shr,.val (.int .i64) .leaf],[.val (.int .i64) .leaf],mj k,[]⟩)::(rk k)
theorem BS (k:Nat):ae Tryz.prog (qO k):=ae.ev ax mixed (AW k) AD nA k Tryz.func97 (by kernel_rfl) (fun x=>by kernel_rfl)
def zr:Nat→Option aM:=fun|2=>some ⟨[(0,.val (.sl aN) (.sl (.sha [1]))),(1,.val (.int .i64) .leaf),(5,.val (.int .i64) .leaf)],3⟩|_=>none
def qZ (k:Nat):List (FuncId×aF):=(98,⟨[.val (.sl aN) .shr,.val (.int .i64) .leaf],[.val (.int .i64) .leaf],mr k,[]⟩)::(qO k)
theorem BL (k:Nat):ae Tryz.prog (qZ k):=ae.ev ax mixed (BS k) zr nA k Tryz.func98 (by kernel_rfl) (fun x=>by kernel_rfl)
def Dp:Nat→Option aM:=fun|2=>some ⟨[(0,.val (.sl (.int .i64)) (.sl (.sha [1]))),(1,.val (.int .i64) .leaf),(5,.val (.int .i64) .leaf)],3⟩|_=>none
def uf (k:Nat):List (FuncId×aF):=(186,⟨[.val (.sl (.int .i64)) .shr,.val (.int .i64) .leaf],[.val (.int .i64) .leaf],oq k,[]⟩)::(qZ k)
theorem EJ (k:Nat):ae Tryz.prog (uf k):=ae.ev ax mixed (BL k) Dp nA k Tryz.func186 (by kernel_rfl) (fun x=>by kernel_rfl)
def BM:Nat→Option aM:=fun|2=>some ⟨[(0,.val (.sl ah) (.sl (.sha [1]))),(1,.val (.int .i64) .leaf),(5,.val (.int .i64) .leaf)],3⟩|_=>none
def sw (k:Nat):List (FuncId×aF):=(99,⟨[.val (.sl ah) .shr,.val (.int .i64) .leaf],[.val (.int .i64) .leaf],nx k,[]⟩)::(uf k)
theorem CE (k:Nat):ae Tryz.prog (sw k):=ae.ev ax mixed (EJ k) BM nA k Tryz.func99 (by kernel_rfl) (fun x=>by kernel_rfl)
def BJ:Nat→Option aM:=fun|2=>some ⟨[(0,.val (.sl aq) (.sl (.sha [1]))),(1,.val (.int .i64) .leaf),(5,.val (.int .i64) .leaf)],3⟩|_=>none
def sg (k:Nat):List (FuncId×aF):=(100,⟨[.val (.sl aq) .shr,.val (.int .i64) .leaf],[.val (.int .i64) .leaf],nk k,[]⟩)::(sw k)
theorem Dt (k:Nat):ae Tryz.prog (sg k):=ae.ev ax mixed (CE k) BJ nA k Tryz.func100 (by kernel_rfl) (fun x=>by kernel_rfl)
def sD (k:Nat):List (FuncId×aF):=(21,⟨[.val aE (.pair (.pair .leaf (.pair .leaf q0)) (.pair .leaf (.pair .leaf (.pair .shr (.pair .shr (.pair .shr (.pair .leaf (.pair .shr (.pair .leaf (.pair .shr jb)))))))))),.val (.int .i64) .leaf],[.val (.int .i64) .leaf],gb k,[]⟩)::(sg k)
theorem DG (k:Nat):ae Tryz.prog (sD k):=ae.ev ax mixed (Dt k) nA nA k Tryz.func21 (by kernel_rfl) (fun x=>by kernel_rfl)
def zf (k:Nat):List (FuncId×aF):=(6,⟨[.val aE (.pair (.pair .leaf (.pair .leaf q0)) (.pair .leaf (.pair .leaf (.pair .shr (.pair .shr (.pair .shr (.pair .leaf (.pair .shr (.pair .leaf (.pair .shr jb)))))))))),.val (.int .i64) .leaf,.val (.sl af) .shr],[.val .bool .leaf],kT k,[]⟩)::(sD k)
theorem AG (k:Nat):ae Tryz.prog (zf k):=ae.kx ax mixed (DG k) (CX k) nA nA k Tryz.func6 (by kernel_rfl) (fun x=>by kernel_rfl)
end Vg.Tryz
