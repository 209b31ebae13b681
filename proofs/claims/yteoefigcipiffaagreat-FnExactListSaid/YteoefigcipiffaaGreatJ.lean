/- Texts of this law, joined. -/
import Derived.Shelf.Strings.OnBuilder
import Derived.Test.YteoefigcipiffaaGreatF
import Derived.Test.YteoefigcipiffaaGreatProg
import Derived.Test.YteoefigcipiffaaGreatVc
import Derived.Deep.QuietTactic
import Derived.WalkKit
import Derived.Shelf.GgSortFunc.Lays
import Derived.Shelf.GgSortMore.Bridge
import Derived.Ground.GgtProg
import Derived.Test.YteoefigcipiffaaGreatVd
set_option linter.unusedSimpArgs false
set_option linter.unusedVariables false
namespace Go.Proofs
open Go.Shelf
def Tryz.Cb:Go.Shelf.Ren:=⟨fun|156=>391|165=>396|166=>397|169=>398|240=>400|241=>401|276=>402|277=>403|n=>n,fun|31=>22|9=>9|3=>3|4=>4|0=>0|20=>20|72=>322|76=>325|70=>320|37=>204|75=>324|127=>328|164=>298|5=>5|80=>327|n=>n,fun|n=>n⟩
theorem Tryz.Pv:Go.Proofs.Lays.n156 Tryz.prog Tryz.Cb:={
 mixed:=by kernel_rfl
 f156:=Tryz.func391.trans (congrArg some (by kernel_rfl))
 f165:=Tryz.func396.trans (congrArg some (by kernel_rfl))
 f166:=Tryz.func397.trans (congrArg some (by kernel_rfl))
 f169:=Tryz.func398.trans (congrArg some (by kernel_rfl))
 f240:=Tryz.func400.trans (congrArg some (by kernel_rfl))
 f241:=Tryz.func401.trans (congrArg some (by kernel_rfl))
 f276:=Tryz.func402.trans (congrArg some (by kernel_rfl))
 f277:=Tryz.func403.trans (congrArg some (by kernel_rfl))
 t0:=Tryz.underlying0
 a0:=Tryz.isAgg0
 z0:=Tryz.sizeOf0
 v0:=Tryz.zeroValue0
 t3:=Tryz.underlying3
 a3:=Tryz.isAgg3
 z3:=Tryz.sizeOf3
 v3:=Tryz.zeroValue3
 t4:=Tryz.underlying4
 a4:=Tryz.isAgg4
 z4:=Tryz.sizeOf4
 v4:=Tryz.zeroValue4
 t9:=Tryz.underlying9
 a9:=Tryz.isAgg9
 z9:=Tryz.sizeOf9
 v9:=Tryz.zeroValue9
 t20:=Tryz.underlying20
 a20:=Tryz.isAgg20
 z20:=Tryz.sizeOf20
 v20:=Tryz.zeroValue20
 t31:=Tryz.underlying22
 a31:=Tryz.isAgg22
 z31:=Tryz.sizeOf22
 v31:=Tryz.zeroValue22
 t37:=Tryz.underlying204
 a37:=Tryz.isAgg204
 z37:=Tryz.sizeOf204
 v37:=Tryz.zeroValue204
 t70:=Tryz.underlying320
 a70:=Tryz.isAgg320
 z70:=Tryz.sizeOf320
 v70:=Tryz.zeroValue320
 t72:=Tryz.underlying322
 a72:=Tryz.isAgg322
 z72:=Tryz.sizeOf322
 v72:=Tryz.zeroValue322
 t75:=Tryz.underlying324
 a75:=Tryz.isAgg324
 z75:=Tryz.sizeOf324
 v75:=Tryz.zeroValue324
 t76:=Tryz.underlying325
 a76:=Tryz.isAgg325
 z76:=Tryz.sizeOf325
 v76:=Tryz.zeroValue325
 t127:=Tryz.underlying328
 a127:=Tryz.isAgg328
 z127:=Tryz.sizeOf328
 v127:=Tryz.zeroValue328
 t164:=Tryz.underlying298
 a164:=Tryz.isAgg298
 z164:=Tryz.sizeOf298
 v164:=Tryz.zeroValue298}
theorem Tryz.qS:Builder.Extra Tryz.prog Tryz.Cb:={
 sizeBuilder:=by kernel_rfl
 liesBuilder:=by kernel_rfl
 t5:=Tryz.underlying5
 a5:=Tryz.isAgg5
 z5:=Tryz.sizeOf5
 v5:=Tryz.zeroValue5
 infoByte:=by kernel_rfl
 cellsByte:=by kernel_rfl
 sizeByte:=by kernel_rfl
 neB5:=by decide}
open Go.RowKit in
theorem Tryz.strings_Join_none (a:Option Addr) (c:Nat) (sep:ByteArray) (w:World):
 Calls Tryz.prog 391 #[.slice a 0 c,.string sep] w fun e w'=>e= .returned (.string ⟨#[]⟩)∧w'=w:=Any.strings_Join_none Tryz.Pv Tryz.qS a c sep w
open Go.RowKit in
theorem Tryz.strings_Join (bk o c:Nat) (xs:List ByteArray) (sep:ByteArray) (w:World) (hcells:∀(j:Nat) x,xs[j]?=some x→w.cell? ⟨bk,o+j,none⟩=some (.string x)) (hbk:bk<w.heap.size) (hN:xs.length≤140737488355328) (hcap:xs.length≤c) (hlen:(Lib.join (xs.map (·.data.toList)) sep.data.toList).length≤140737488355328):
 Calls Tryz.prog 391 #[.slice (some ⟨bk,o,none⟩) xs.length c,.string sep] w fun e w'=>e= .returned (.string ⟨(Lib.join (xs.map (·.data.toList)) sep.data.toList).toArray⟩)∧Below w.heap.size w w':=Any.strings_Join Tryz.Pv Tryz.qS bk o c xs sep w hcells hbk hN hcap hlen
def Tryz.Nt:Go.Shelf.Ren:=⟨fun|26=>388|n=>n,fun|44=>306|3=>3|0=>0|4=>4|26=>281|37=>217|n=>n,fun|n=>n⟩
theorem Tryz.Sm:Go.Proofs.LaysGg.n26 Tryz.prog Tryz.Nt:={
 mixed:=by kernel_rfl
 f26:=Tryz.func388.trans (congrArg some (by kernel_rfl))
 t0:=Tryz.underlying0
 a0:=Tryz.isAgg0
 z0:=Tryz.sizeOf0
 v0:=Tryz.zeroValue0
 i0:=by kernel_rfl
 t3:=Tryz.underlying3
 a3:=Tryz.isAgg3
 z3:=Tryz.sizeOf3
 v3:=Tryz.zeroValue3
 i3:=by kernel_rfl
 t4:=Tryz.underlying4
 a4:=Tryz.isAgg4
 z4:=Tryz.sizeOf4
 v4:=Tryz.zeroValue4
 i4:=by kernel_rfl
 t26:=Tryz.underlying281
 a26:=Tryz.isAgg281
 z26:=Tryz.sizeOf281
 v26:=Tryz.zeroValue281
 i26:=by kernel_rfl
 t37:=Tryz.underlying217
 a37:=Tryz.isAgg217
 z37:=Tryz.sizeOf217
 v37:=Tryz.zeroValue217
 i37:=by kernel_rfl
 t44:=Tryz.underlying306
 a44:=Tryz.isAgg306
 z44:=Tryz.sizeOf306
 v44:=Tryz.zeroValue306
 i44:=by kernel_rfl}
open Go.RowKit Go.Lib Go.Sort in
open Go.RowKit Go.Lib Go.Sort in
open Go.RowKit Go.Lib Go.Sort in
open Go.RowKit Go.Lib Go.Sort in
open Go.RowKit Go.Lib Go.Sort in
open Go.RowKit Go.Lib Go.Sort in
open Go.RowKit Go.Lib Go.Sort in
open Go.RowKit Go.Lib Go.Sort in
open Go.RowKit Go.Lib Go.Sort in
theorem Tryz.insertionSort_func_cells_w {α:Type} [Inhabited α] (enc:α→List Value) (k:Nat) (hk:∀x,(enc x).length=k) (lt:α→α→Bool) (g:Nat) (lb:Array Value) (sf:Nat) (sb:Array Value) (blk off a b:Nat) (d:Array α) (w:World) (eg:∀args w,(callFunc g args).run Tryz.prog w= .ok (.enter g args) w) (hless:LessReadsK Tryz.prog g lb enc k lt blk off d.size w) (hswap:SwapSwapsK Tryz.prog sf sb enc k blk off d.size) (hH:HoldsK enc k w blk off d) (hblk:blk<w.heap.size) (hab:a≤b) (hb:b≤d.size) (hsz:d.size<4611686018427387904):
 Calls Tryz.prog 388 #[.agg #[.func (.func g) #[] lb,.func (.func sf) #[] sb],.int .i64 a,.int .i64 b] w fun e w'=>e= .returned (.tuple #[])∧∃n os,w'=sortWorldK enc k w blk off n (Sort.insertionSort lt d a b) os:=Any.insertionSort_func_cells_w Tryz.Sm enc k hk lt g lb sf sb blk off a b d w eg hless hswap hH hblk hab hb hsz
end Go.Proofs
namespace Vg.Tryz
open Go Vg Go.Proofs
def vz (k:Nat):aF:=⟨[.val (.sl .str) .shr,.val .str .leaf],[.val .str .leaf],ph k,[]⟩
set_option maxRecDepth 1000000 in
theorem JI (k:Nat):oJ Tryz.prog 391 (vz k):=PZ Tryz.func391 (by kernel_rfl) (by kernel_rfl) Tryz.strings_Join_none Tryz.strings_Join
end Vg.Tryz
namespace Go.Proofs
open Go.RowKit
def Pm:Value→Int| .int _ q=>q|_=>0
set_option maxHeartbeats 4000000 in
set_option maxRecDepth 100000 in
theorem Tryz.LQ (pa pb:Option Addr) (ca cb:Nat) (a b:List (ByteArray×ByteArray)) (W:World) (la:a.length<4611686018427387904) (lb:b.length<4611686018427387904)
 (ha:∀i,i<a.length→∃bk o,pa=some ⟨bk,o,none⟩∧W.cell? ⟨bk,o+i*2,none⟩=some (.string (a.getD i (ByteArray.empty,ByteArray.empty)).1)∧W.cell? ⟨bk,o+i*2+1,none⟩=some (.string (a.getD i (ByteArray.empty,ByteArray.empty)).2))
 (hb:∀i,i<b.length→∃bk o,pb=some ⟨bk,o,none⟩∧W.cell? ⟨bk,o+i*2,none⟩=some (.string (b.getD i (ByteArray.empty,ByteArray.empty)).1)∧W.cell? ⟨bk,o+i*2+1,none⟩=some (.string (b.getD i (ByteArray.empty,ByteArray.empty)).2)):
 Calls Tryz.prog 341 #[.slice pa a.length ca,.slice pb b.length cb] W fun e w'=>e= .returned (.bool (Vg.bU a b))∧∃q,w'=W.drewN q:=by
 go_enter Tryz.func341,Tryz.ntmps341
 go_wp2
 go_loopw [5] (fun vi wr=>∃(t q:Nat),vi= .int .i64 (t:Int)∧t≤a.length∧t≤b.length∧wr=W.drewN q∧Vg.bU a b=Vg.bU (a.drop t) (b.drop t)) (fun vi _=>a.length+1-(Pm vi).toNat)
 case atStart=>exact⟨0,0,rfl,by omega,by omega,rfl,rfl⟩
 case round=>
  obtain⟨t,q,rfl,ht1,ht2,hw,hR⟩:=hrel
  by_cases hin:t<a.length∧t<b.length
  ·obtain⟨hi1,hi2⟩:=hin
   obtain⟨ba,oa,ea,a1,a2⟩:=ha t hi1
   obtain⟨bb,ob,eb,b1,b2⟩:=hb t hi2
   have c1:wr.cell? ⟨ba,oa+t*2,none⟩=some (.string (a.getD t (ByteArray.empty,ByteArray.empty)).1):=by rw[hw];exact a1
   have c2:wr.cell? ⟨ba,oa+t*2+1,none⟩=some (.string (a.getD t (ByteArray.empty,ByteArray.empty)).2):=by rw[hw];exact a2
   have c3:wr.cell? ⟨bb,ob+t*2,none⟩=some (.string (b.getD t (ByteArray.empty,ByteArray.empty)).1):=by rw[hw];exact b1
   have c4:wr.cell? ⟨bb,ob+t*2+1,none⟩=some (.string (b.getD t (ByteArray.empty,ByteArray.empty)).2):=by rw[hw];exact b2
   have hs:Vg.bU (a.drop t) (b.drop t)=if(a.getD t (ByteArray.empty,ByteArray.empty)).1.toList==(b.getD t (ByteArray.empty,ByteArray.empty)).1.toList then(if(a.getD t (ByteArray.empty,ByteArray.empty)).2.toList==(b.getD t (ByteArray.empty,ByteArray.empty)).2.toList then Vg.bU (a.drop (t+1)) (b.drop (t+1))else Vg.lp (a.getD t (ByteArray.empty,ByteArray.empty)).2 (b.getD t (ByteArray.empty,ByteArray.empty)).2)else Vg.lp (a.getD t (ByteArray.empty,ByteArray.empty)).1 (b.getD t (ByteArray.empty,ByteArray.empty)).1:=by
    rw[List.drop_eq_getElem_cons hi1,List.drop_eq_getElem_cons hi2]
    simp only[Vg.bU,List.getD_eq_getElem?_getD,List.getElem?_eq_getElem hi1,List.getElem?_eq_getElem hi2,Option.getD_some]
   generalize (a.getD t (ByteArray.empty,ByteArray.empty)).1=x1 at c1 hs
   generalize (a.getD t (ByteArray.empty,ByteArray.empty)).2=x2 at c2 hs
   generalize (b.getD t (ByteArray.empty,ByteArray.empty)).1=y1 at c3 hs
   generalize (b.getD t (ByteArray.empty,ByteArray.empty)).2=y2 at c4 hs
   subst ea eb
   have HW:Hid (wr=W.drewN q):=hw
   have HR:Hid (Vg.bU a b=Vg.bU (a.drop t) (b.drop t)):=hR
   have HS:Hid (_=_):=hs
   clear hw hR hs ha hb a1 a2 b1 b2
   go_wp2
   go_quiet (fail)
   go_wp2
   ·have hne:(!x1.toList==y1.toList)=true:=by assumption
    go_quiet (fail)
    go_wp2
    go_ret
    have hv:Vg.bU a b=Op.bytesLess x1.toList y1.toList:=by
     rw[HR.out,HS.out,if_neg (by simpa using hne)];rfl
    refine⟨?_,_,by rw[HW.out,World.drewN_drewN,World.drewN_drewN]⟩
    rw[hv];rfl
   ·have hne:(!x1.toList==y1.toList)=false:=by assumption
    go_quiet (fail)
    go_wp2
    ·have hne2:(!x2.toList==y2.toList)=true:=by assumption
     go_quiet (fail)
     go_wp2
     go_ret
     have hv:Vg.bU a b=Op.bytesLess x2.toList y2.toList:=by
      rw[HR.out,HS.out,if_pos (by simpa using hne),if_neg (by simpa using hne2)];rfl
     refine⟨?_,_,by rw[HW.out,World.drewN_drewN,World.drewN_drewN,World.drewN_drewN]⟩
     rw[hv];rfl
    ·have hne2:(!x2.toList==y2.toList)=false:=by assumption
     refine⟨⟨t+1,_,by congr 1,by omega,by omega,by rw[HW.out,World.drewN_drewN],?_⟩,?_⟩
     ·rw[HR.out,HS.out,if_pos (by simpa using hne),if_pos (by simpa using hne2)]
     ·simp[Pm];omega
  ·have hv:Vg.bU a b=decide (a.length<b.length):=by
    rw[hR]
    by_cases h1:t<a.length
    ·have h2:t=b.length:=by omega
     subst h2
     rw[List.drop_length,List.drop_eq_getElem_cons h1]
     simp only[Vg.bU]
     rw[decide_eq_false (by omega)]
    ·have h2:t=a.length:=by omega
     subst h2
     rw[List.drop_length]
     cases hd:b.drop a.length with
     |nil=>
      have:=congrArg List.length hd
      simp only[List.length_drop,List.length_nil]at this
      simp only[Vg.bU,List.isEmpty_nil,Bool.not_true]
      rw[decide_eq_false (by omega)]
     |cons z zs=>
      have:=congrArg List.length hd
      simp only[List.length_drop,List.length_cons]at this
      simp only[Vg.bU,List.isEmpty_cons,Bool.not_false]
      rw[decide_eq_true (by omega)]
   have HW:Hid (wr=W.drewN q):=hw
   have HV:Hid (_=_):=hv
   clear hw hR hv ha hb
   by_cases h1:t<a.length
   ·have h2:¬t<b.length:=fun h=>hin ⟨h1,h⟩
    clear hin
    go_wp2
    go_ret
    refine⟨?_,_,HW.out⟩
    rw[HV.out];rfl
   ·clear hin
    go_wp2
    go_ret
    refine⟨?_,_,HW.out⟩
    rw[HV.out];rfl
set_option maxHeartbeats 4000000 in
set_option maxRecDepth 100000 in
theorem Tryz.LC (blk off c Bs n:Nat) (W:World) (i j:Nat) (hi:i<n) (hj:j<n) (hn:n<4611686018427387904) (va vb:Value) (r:Bool)
 (hs:W.cell? ⟨Bs,0,none⟩=some (.slice (some ⟨blk,off,none⟩) n c)) (hva:W.cell? ⟨blk,off+i*4,none⟩=some va) (hvb:W.cell? ⟨blk,off+j*4,none⟩=some vb)
 (hc:∀q,Calls Tryz.prog 341 #[va,vb] (W.drewN q) fun e w'=>e= .returned (.bool r)∧∃m,w'=(W.drewN q).drewN m):
 Calls Tryz.prog 340 #[.int .i64 i,.int .i64 j,.pointer (some ⟨Bs,0,none⟩)] W fun e w'=>e= .returned (.bool r)∧∃q,w'=W.drewN q:=by
 have HC:Hid (∀q,Calls Tryz.prog 341 #[va,vb] (W.drewN q) fun e w'=>e= .returned (.bool r)∧∃m,w'=(W.drewN q).drewN m):=hc
 clear hc
 go_enter Tryz.func340,Tryz.ntmps340
 go_wp2
 go_quiet (first|(go_at_call 341;refine Calls.quiet_of (HC.out _)))
 go_wp2
 go_ret
 trace_state
 exact⟨rfl,nq,rfl⟩
end Go.Proofs
namespace Go.Proofs
open Go.Shelf
def Tryz.TA:Go.Shelf.Ren:=⟨fun|8=>339|13=>365|14=>366|16=>368|15=>367|29=>388|30=>389|42=>393|49=>399|n=>n,fun|20=>20|26=>281|36=>301|0=>0|38=>217|42=>306|3=>3|4=>4|47=>296|17=>17|33=>298|34=>299|89=>342|12=>12|56=>318|82=>336|5=>5|83=>337|84=>338|85=>328|86=>339|87=>340|n=>n,fun|n=>n⟩
theorem Tryz.UP:Go.Proofs.LaysGt.n8 Tryz.prog Tryz.TA:={
 mixed:=by kernel_rfl
 f8:=Tryz.func339.trans (congrArg some (by kernel_rfl))
 f13:=Tryz.func365.trans (congrArg some (by kernel_rfl))
 f14:=Tryz.func366.trans (congrArg some (by kernel_rfl))
 f15:=Tryz.func367.trans (congrArg some (by kernel_rfl))
 f16:=Tryz.func368.trans (congrArg some (by kernel_rfl))
 f29:=Tryz.func388.trans (congrArg some (by kernel_rfl))
 f30:=Tryz.func389.trans (congrArg some (by kernel_rfl))
 f42:=Tryz.func393.trans (congrArg some (by kernel_rfl))
 f49:=Tryz.func399.trans (congrArg some (by kernel_rfl))
 t0:=Tryz.underlying0
 a0:=Tryz.isAgg0
 z0:=Tryz.sizeOf0
 v0:=Tryz.zeroValue0
 i0:=by kernel_rfl
 t3:=Tryz.underlying3
 a3:=Tryz.isAgg3
 z3:=Tryz.sizeOf3
 v3:=Tryz.zeroValue3
 i3:=by kernel_rfl
 t4:=Tryz.underlying4
 a4:=Tryz.isAgg4
 z4:=Tryz.sizeOf4
 v4:=Tryz.zeroValue4
 i4:=by kernel_rfl
 t5:=Tryz.underlying5
 a5:=Tryz.isAgg5
 z5:=Tryz.sizeOf5
 v5:=Tryz.zeroValue5
 i5:=by kernel_rfl
 t12:=Tryz.underlying12
 a12:=Tryz.isAgg12
 z12:=Tryz.sizeOf12
 v12:=Tryz.zeroValue12
 i12:=by kernel_rfl
 t17:=Tryz.underlying17
 a17:=Tryz.isAgg17
 z17:=Tryz.sizeOf17
 v17:=Tryz.zeroValue17
 i17:=by kernel_rfl
 t20:=Tryz.underlying20
 a20:=Tryz.isAgg20
 z20:=Tryz.sizeOf20
 v20:=Tryz.zeroValue20
 i20:=by kernel_rfl
 t26:=Tryz.underlying281
 a26:=Tryz.isAgg281
 z26:=Tryz.sizeOf281
 v26:=Tryz.zeroValue281
 i26:=by kernel_rfl
 t33:=Tryz.underlying298
 a33:=Tryz.isAgg298
 z33:=Tryz.sizeOf298
 v33:=Tryz.zeroValue298
 i33:=by kernel_rfl
 t34:=Tryz.underlying299
 a34:=Tryz.isAgg299
 z34:=Tryz.sizeOf299
 v34:=Tryz.zeroValue299
 i34:=by kernel_rfl
 t36:=Tryz.underlying301
 a36:=Tryz.isAgg301
 z36:=Tryz.sizeOf301
 v36:=Tryz.zeroValue301
 i36:=by kernel_rfl
 t38:=Tryz.underlying217
 a38:=Tryz.isAgg217
 z38:=Tryz.sizeOf217
 v38:=Tryz.zeroValue217
 i38:=by kernel_rfl
 t42:=Tryz.underlying306
 a42:=Tryz.isAgg306
 z42:=Tryz.sizeOf306
 v42:=Tryz.zeroValue306
 i42:=by kernel_rfl
 t47:=Tryz.underlying296
 a47:=Tryz.isAgg296
 z47:=Tryz.sizeOf296
 v47:=Tryz.zeroValue296
 i47:=by kernel_rfl
 t56:=Tryz.underlying318
 a56:=Tryz.isAgg318
 z56:=Tryz.sizeOf318
 v56:=Tryz.zeroValue318
 i56:=by kernel_rfl
 t82:=Tryz.underlying336
 a82:=Tryz.isAgg336
 z82:=Tryz.sizeOf336
 v82:=Tryz.zeroValue336
 i82:=by kernel_rfl
 t83:=Tryz.underlying337
 a83:=Tryz.isAgg337
 z83:=Tryz.sizeOf337
 v83:=Tryz.zeroValue337
 i83:=by kernel_rfl
 t84:=Tryz.underlying338
 a84:=Tryz.isAgg338
 z84:=Tryz.sizeOf338
 v84:=Tryz.zeroValue338
 i84:=by kernel_rfl
 t85:=Tryz.underlying328
 a85:=Tryz.isAgg328
 z85:=Tryz.sizeOf328
 v85:=Tryz.zeroValue328
 i85:=by kernel_rfl
 t86:=Tryz.underlying339
 a86:=Tryz.isAgg339
 z86:=Tryz.sizeOf339
 v86:=Tryz.zeroValue339
 i86:=by kernel_rfl
 t87:=Tryz.underlying340
 a87:=Tryz.isAgg340
 z87:=Tryz.sizeOf340
 v87:=Tryz.zeroValue340
 i87:=by kernel_rfl
 t89:=Tryz.underlying342
 a89:=Tryz.isAgg342
 z89:=Tryz.sizeOf342
 v89:=Tryz.zeroValue342
 i89:=by kernel_rfl}
end Go.Proofs
namespace Go.Proofs
open Go.Shelf Go.RowKit Go.Lib Go.Sort
noncomputable def Tryz.US:TypeInfo:=(Tryz.prog.info? 40).get (by kernel_rfl)
noncomputable def Tryz.Rn:TypeInfo:=(Tryz.prog.info? 67).get (by kernel_rfl)
theorem Tryz.U5 (n:Nat) (h2:2≤n) (ke:Nat):Lib.swapperK n Tryz.Rn ke=Lib.swapperK 2 Tryz.Rn ke:=by
 have c:(n==0)=false:=by simp;omega
 have d:(n==1)=false:=by simp;omega
 simp[Lib.swapperK,c,d]
set_option maxHeartbeats 4000000 in
set_option maxRecDepth 100000 in
theorem Tryz.NM {α:Type} [Inhabited α] (enc:α→List Value) (hk:∀x,(enc x).length=4) (h1:∀x,∀v∈enc x,v.oneCell'=true) (lab:α→List (ByteArray×ByteArray)) (blk off c:Nat) (d:Array α) (w:World)
 (h2:2≤d.size) (h20:d.size<20) (hH:HoldsK enc 4 w blk off d) (hblk:blk<w.heap.size) (hlab:I1 enc lab blk w):
 Calls Tryz.prog 284 #[.slice (some ⟨blk,off,none⟩) d.size c] w fun e w'=>
  e= .returned (.slice (some ⟨blk,off,none⟩) d.size c)∧∃n os,w'=grow (putRowK enc 4 (Sort.ahead w n) blk off (Sort.insertionSort (fun x y=>Vg.bU (lab x) (lab y)) d 0 d.size)) os:=by
 have hW1:w.alloc (.cells #[.slice (some ⟨blk,off,none⟩) d.size c] 40)=grow w #[.cells #[.slice (some ⟨blk,off,none⟩) d.size c] 40]:=alloc_eq_grow _ _
 have hH1:HoldsK enc 4 (w.alloc (.cells #[.slice (some ⟨blk,off,none⟩) d.size c] 40)) blk off d:=by rw[hW1];exact holdsK_grow enc 4 w _ blk off d hblk hH
 have hb1:blk<(w.alloc (.cells #[.slice (some ⟨blk,off,none⟩) d.size c] 40)).heap.size:=by rw[hW1,size_grow];omega
 have hbox:∀m os (dk:Array α),(sortWorldK enc 4 (w.alloc (.cells #[.slice (some ⟨blk,off,none⟩) d.size c] 40)) blk off m dk os).cell? ⟨w.heap.size,0,none⟩=some (.slice (some ⟨blk,off,none⟩) d.size c):=by
  intro m os dk
  rw[cell?_sortWorldK_other enc 4 _ blk off m dk os _ (by show w.heap.size≠blk;omega) (by show w.heap.size<_;rw[hW1,size_grow];simp)]
  simp
 have hless:LessReadsK Tryz.prog 340 #[.pointer (some ⟨w.heap.size,0,none⟩)] enc 4 (fun x y=>Vg.bU (lab x) (lab y)) blk off d.size (w.alloc (.cells #[.slice (some ⟨blk,off,none⟩) d.size c] 40)):=by
  intro m os dk hs i j hi hj
  have hcell:∀x:Nat,x<d.size→∀v,(enc dk[x]!)[0]?=some v→(sortWorldK enc 4 (w.alloc (.cells #[.slice (some ⟨blk,off,none⟩) d.size c] 40)) blk off m dk os).cell? ⟨blk,off+x*4,none⟩=some v:=by
   intro x hx v hv
   have hh:=holdsK_sortWorldK enc 4 _ blk off m d dk os hb1 hH1 hs
   have:=(hh.cell (i:=x) (c:=0) (by omega) (by omega)).1
   rw[Nat.add_zero]at this
   rw[this]
   simp[hv]
  have hl:∀(x:α) (q:Nat),∃p c',(enc x)[0]?=some (.slice p (lab x).length c')∧(lab x).length<4611686018427387904∧
   ∀i,i<(lab x).length→∃bk o,p=some ⟨bk,o,none⟩∧((sortWorldK enc 4 (w.alloc (.cells #[.slice (some ⟨blk,off,none⟩) d.size c] 40)) blk off m dk os).drewN q).cell? ⟨bk,o+i*2,none⟩=some (.string ((lab x).getD i (ByteArray.empty,ByteArray.empty)).1)∧
    ((sortWorldK enc 4 (w.alloc (.cells #[.slice (some ⟨blk,off,none⟩) d.size c] 40)) blk off m dk os).drewN q).cell? ⟨bk,o+i*2+1,none⟩=some (.string ((lab x).getD i (ByteArray.empty,ByteArray.empty)).2):=by
   intro x q
   obtain⟨p,c',e1,e2,e3⟩:=hlab x
   refine⟨p,c',e1,e2,fun i hi=> ?_⟩
   obtain⟨bk,o,q1,q2,q3,q4,q5⟩:=e3 i hi
   have ho:∀o',((sortWorldK enc 4 (w.alloc (.cells #[.slice (some ⟨blk,off,none⟩) d.size c] 40)) blk off m dk os).drewN q).cell? ⟨bk,o',none⟩=w.cell? ⟨bk,o',none⟩:=by
    intro o'
    show(sortWorldK enc 4 (w.alloc (.cells #[.slice (some ⟨blk,off,none⟩) d.size c] 40)) blk off m dk os).cell? ⟨bk,o',none⟩=_
    rw[cell?_sortWorldK_other enc 4 _ blk off m dk os _ q2 (by show bk<_;rw[hW1,size_grow];omega),hW1,cell?_grow _ _ _ q3]
   exact⟨bk,o,q1,by rw[ho];exact q4,by rw[ho];exact q5⟩
  obtain⟨pa,ca,a1,a2,_⟩:=hl dk[i]! 0
  obtain⟨pb,cb,b1,b2,_⟩:=hl dk[j]! 0
  refine Tryz.LC blk off c w.heap.size d.size _ i j hi hj (by omega) _ _ _ (hbox m os dk) (hcell i hi _ a1) (hcell j hj _ b1) (fun q=> ?_)
  obtain⟨pa',ca',a1',_,a3⟩:=hl dk[i]! q
  obtain⟨pb',cb',b1',_,b3⟩:=hl dk[j]! q
  rw[a1]at a1';rw[b1]at b1'
  cases a1';cases b1'
  exact Tryz.LQ pa pb ca cb _ _ _ a2 b2 a3 b3
 have hS:=BX Tryz.UP (i:=Tryz.US) (ie:=Tryz.Rn) (t:=40) (e:=67) (by kernel_rfl) (by kernel_rfl) (by kernel_rfl) (by kernel_rfl) (ke:=25) (fun _=>by kernel_rfl) hk (by kernel_rfl) (fun _=>by kernel_rfl) h1
  (fun x y=>Vg.bU (lab x) (lab y)) (g:=340) (enters_of Tryz.func340 (by kernel_rfl) rfl) (c:=c) h2 h20 (f:=387) (by rw[Tryz.U5 _ h2];kernel_rfl) false
  (fun args W=>run_callFunc_extern (f:=387) Tryz.func387 (by kernel_rfl) (by kernel_rfl) (by kernel_rfl) (e:=Extern.ReflectliteSwapper.swap false) (by kernel_rfl) args W) hless hH1 hb1
 change Calls Tryz.prog 339 _ _ _ at hS
 have HB:Hid (∀m os (dk:Array α),(sortWorldK enc 4 (w.alloc (.cells #[.slice (some ⟨blk,off,none⟩) d.size c] 40)) blk off m dk os).cell? ⟨w.heap.size,0,none⟩=some (.slice (some ⟨blk,off,none⟩) d.size c)):=hbox
 clear hless hH1 hH hlab hbox hW1 hb1
 go_enter Tryz.func284,Tryz.ntmps284
 go_wp2_with (go_at_call 339;refine hS.mono ?_;rintro e w1 ⟨rfl,n,os,hw⟩;have hcell:w1.cell? ⟨w.heap.size,0,none⟩=some (.slice (some ⟨blk,off,none⟩) d.size c):=(by rw[hw];exact HB.out n os _);have HW:Hid (w1=_):=hw;clear hw)
 go_ret
 exact⟨rfl,n,_,by rw[HW.out,alloc_eq_grow,ahead_grow,putRowK_grow enc 4 (Sort.ahead w n) _ blk off _ hblk,grow_grow]⟩
set_option maxHeartbeats 4000000 in
set_option maxRecDepth 100000 in
theorem Tryz.Le (p:Option Addr) (n c:Nat) (h1:n≤1) (w:World):
 Calls Tryz.prog 284 #[.slice p n c] w fun e w'=>e= .returned (.slice p n c)∧∃os,w'=grow w os:=by
 have hS:=fun W f hf=>Any.sort_SliceStable_tiny Tryz.UP 40 67 Tryz.US Tryz.Rn (by kernel_rfl) (by kernel_rfl) (by kernel_rfl) (by kernel_rfl) 25 (fun _=>by kernel_rfl) p n c h1 f hf (.func 340) #[] #[.pointer (some ⟨w.heap.size,0,none⟩)] W
 obtain⟨f,hf⟩:∃f,Tryz.prog.funcs.findIdx? (·.name== "internal/reflectlite" ++ ".Swapper$" ++toString (swapperK n Tryz.Rn 25))=some f:=by
  rcases Nat.eq_zero_or_pos n with h|h
  ·subst h;exact⟨379,by kernel_rfl⟩
  ·obtain rfl:n=1:=by omega
   exact⟨380,by kernel_rfl⟩
 have hS2:=fun W=>hS W f hf
 change∀W,Calls Tryz.prog 339 _ W _ at hS2
 clear hS
 have HB:Hid (∀os,(grow (w.alloc (.cells #[.slice p n c] 40)) os).cell? ⟨w.heap.size,0,none⟩=some (.slice p n c)):=by
  intro os
  rw[cell?_grow _ _ _ (by show w.heap.size<_;rw[alloc_eq_grow,size_grow];simp)]
  simp
 go_enter Tryz.func284,Tryz.ntmps284
 go_wp2_with (go_at_call 339;refine(hS2 _).mono ?_;rintro e w1 ⟨rfl,os,hw⟩;have hcell:w1.cell? ⟨w.heap.size,0,none⟩=some (.slice p n c):=(by rw[hw];exact HB.out os);have HW:Hid (w1=_):=hw;clear hw)
 go_ret
 exact⟨rfl,_,by rw[HW.out,alloc_eq_grow,grow_grow]⟩
end Go.Proofs
namespace Vg.Tryz
open Go Vg Go.Proofs
def tK (k:Nat):aF:=⟨[.val (.sl ab) .own],[.val (.sl ab) .own],kc k,[]⟩
set_option maxRecDepth 1000000 in
theorem EM (k:Nat):oJ Tryz.prog 284 (tK k):=OF Tryz.func284 (by kernel_rfl) (by kernel_rfl) Tryz.Le Tryz.NM
end Vg.Tryz
namespace Vg.Tryz
open Go Vg Go.Proofs
set_option linter.unusedVariables false
def TT:List (Nat×TI):=[(3,⟨(.int .i64),[],0⟩),(4,⟨.bool,[],0⟩),(5,⟨(.int .u8),[],0⟩),(9,⟨.str,[],0⟩),(22,⟨(.sl .str),[],9⟩),(24,⟨bC,[3,3,3,3,3,22],0⟩),(25,⟨(.sl ak),[],137⟩),(26,⟨(.sl aU),[],140⟩),(27,⟨(.sl ab),[],63⟩),(28,⟨(.sl aj),[],143⟩),(29,⟨(.sl aC),[],167⟩),(30,⟨(.sl aN),[],146⟩),(31,⟨(.sl ah),[],149⟩),(32,⟨(.sl aq),[],152⟩),(34,⟨aE,[24,3,3,25,26,27,3,28,3,29,30,27,31,32],0⟩),(37,⟨bC,[3,3,3,3,3,22],0⟩),(38,⟨(.sl ak),[],156⟩),(39,⟨(.sl aU),[],159⟩),(40,⟨(.sl ab),[],67⟩),(41,⟨(.sl aj),[],162⟩),(42,⟨(.sl aC),[],165⟩),(43,⟨(.sl aN),[],169⟩),(44,⟨(.sl ah),[],108⟩),(45,⟨(.sl aq),[],173⟩),(47,⟨aE,[37,3,3,38,39,40,3,41,3,42,43,40,44,45],0⟩),(54,⟨(.sl af),[],121⟩),(57,⟨(.sl af),[],123⟩),(63,⟨ab,[54,3,3,9],0⟩),(67,⟨ab,[57,3,3,9],0⟩),(106,⟨(.sl (.int .i64)),[],3⟩),(108,⟨ah,[3,3,67,57,3,106,40,3,3],0⟩),(121,⟨af,[9,9],0⟩),(123,⟨af,[9,9],0⟩),(135,⟨(.sl ay),[],272⟩),(137,⟨ak,[3,3,135],0⟩),(140,⟨aU,[27,4],0⟩),(143,⟨aj,[3,54,3,3,27],0⟩),(146,⟨aN,[3,54,3,27],0⟩),(149,⟨ah,[3,3,63,54,3,106,27,3,3],0⟩),(152,⟨aq,[3,3,63,54,3,3,3,27,3,3,3,3],0⟩),(154,⟨(.sl ay),[],253⟩),(156,⟨ak,[3,3,154],0⟩),(159,⟨aU,[40,4],0⟩),(162,⟨aj,[3,57,3,3,40],0⟩),(165,⟨aC,[3,3],0⟩),(167,⟨aC,[3,3],0⟩),(169,⟨aN,[3,57,3,40],0⟩),(173,⟨aq,[3,3,67,57,3,3,3,40,3,3,3,3],0⟩),(204,⟨(.sl (.int .u8)),[],5⟩),(253,⟨ay,[3,40],0⟩),(272,⟨ay,[3,27],0⟩),(296,⟨(.int .u64),[],0⟩),(318,⟨(.int .u32),[],0⟩)]
theorem ax:TT.all (fun p=>Ew Tryz.prog p.1 p.2)=true:=by kernel_rfl
theorem mixed:Tryz.prog.follows .mixedOrders=true:=by kernel_rfl
set_option maxRecDepth 1000000
def nA:Nat→Option aM:=fun _=>none
def q0:Pt:=(.pair .leaf (.pair .leaf (.pair .leaf .shr)))
def q1:Pt:=(.pair .leaf q0)
def q2:Pt:=(.pair .leaf q1)
def q3:Pt:=(.pair .shr (.pair .leaf (.pair .leaf .leaf)))
def q4:Pt:=(.pair .shr (.pair .leaf (.pair .leaf .shr)))
def q5:Pt:=(.pair .leaf q4)
def q6:Pt:=(.pair .leaf (.pair .shr (.pair .leaf .shr)))
def q7:Pt:=(.pair .shr (.pair .shr (.pair .leaf .leaf)))
def q8:Pt:=(.pair .leaf q7)
def q9:Pt:=(.pair .shr q8)
def MD:Pt:=(.pair q3 q9)
def UN:Pt:=(.pair .leaf MD)
def uc:Pt:=(.pair .leaf (.pair .leaf (.pair .leaf .leaf)))
def je:Pt:=(.pair .shr (.pair .shr (.pair .shr .shr)))
def vc:Pt:=(.pair .leaf (.pair .leaf (.pair .leaf .own)))
def qV:Pt:=(.pair .own (.pair .leaf (.pair .leaf .leaf)))
def TO:Pt:=(.pair .own (.pair .leaf (.pair .leaf .own)))
def TU:Pt:=(.pair .leaf (.pair .own (.pair .leaf .own)))
def S9:Pt:=(.pair .own (.pair .own (.pair .leaf .leaf)))
def Cu:Pt:=(.pair .own (.pair .own (.pair .own .own)))
def cO:Sh:=(.pair .leaf (.pair .leaf (.sl (.sha [1]))))
def yF:Sh:=(.pair .leaf (.pair .leaf (.sl (.sha []))))
def Cc:Sh:=(.pair .leaf (.pair .leaf (.sl (.row 6 [6] true))))
def de:Sh:=(.pair (.sl (.sha [1])) (.sl (.sha [1])))
def Cv:Sh:=(.pair (.sl (.sha [])) (.pair (.sl (.sha [])) (.sl (.sha []))))
def Uw:Sh:=(.pair (.sl (.row 14 [14] true)) (.sl (.sha [1])))
def T3:Sh:=(.pair (.sl (.row 5 [5] true)) (.pair .leaf (.pair .leaf .leaf)))
def uW:Sh:=(.pair (.sl (.sha [1])) (.pair .leaf (.pair .leaf .leaf)))
def uQ:Sh:=(.pair (.sl (.sha [1])) (.pair .leaf .leaf))
def Uk:Sh:=(.pair (.sl (.sha [1,2])) (.pair .leaf (.pair .leaf .leaf)))
def I8:Sh:=(.pair .leaf (.pair .leaf (.sl (.sha [1,2]))))
def JE:Sh:=(.pair .leaf (.pair .leaf (.sl (.row 4 [4] true))))
def wa (k:Nat):List (FuncId×aF):=(391,vz k)::([]:List (FuncId×aF))
theorem Df (k:Nat):ae Tryz.prog (wa k):=⟨JI k,(show ae Tryz.prog []from trivial)⟩
def tD (k:Nat):List (FuncId×aF):=(284,tK k)::(wa k)
theorem A7 (k:Nat):ae Tryz.prog (tD k):=⟨EM k,(Df k)⟩
def Bm:Nat→Option aM:=fun|5=>some ⟨[(0,.val (.sl .str) (.sl (.sha [1]))),(1,.val (.int .i64) .leaf),(5,.val (.int .i64) .leaf)],3⟩|_=>none
def rX (k:Nat):List (FuncId×aF):=(121,⟨[.val (.sl .str) .shr,.val (.int .i64) .leaf],[.val (.int .i64) .leaf],nx k,[]⟩)::(tD k)
theorem Dv (k:Nat):ae Tryz.prog (rX k):=ae.ev ax mixed (A7 k) Bm nA k Tryz.func121 (by kernel_rfl) (fun x=>by kernel_rfl)
def yY (k:Nat):List (FuncId×aF):=(46,⟨[.val bC (.pair .leaf (.pair .leaf q0)),.val (.int .i64) .leaf],[.val (.int .i64) .leaf],nc k,[]⟩)::(rX k)
theorem La (k:Nat):ae Tryz.prog (yY k):=ae.ev ax mixed (Dv k) nA nA k Tryz.func46 (by kernel_rfl) (fun x=>by kernel_rfl)
def vP (k:Nat):List (FuncId×aF):=(102,⟨[.val af (.pair .leaf .leaf),.val (.int .i64) .leaf],[.val (.int .i64) .leaf],iu k,[]⟩)::(yY k)
theorem JR (k:Nat):ae Tryz.prog (vP k):=ae.ev ax mixed (La k) nA nA k Tryz.func102 (by kernel_rfl) (fun x=>by kernel_rfl)
def Du:Nat→Option aM:=fun|5=>some ⟨[(0,.val (.sl af) (.sl (.sha [1]))),(1,.val (.int .i64) .leaf),(5,.val (.int .i64) .leaf)],3⟩|_=>none
def tU (k:Nat):List (FuncId×aF):=(24,⟨[.val (.sl af) .shr,.val (.int .i64) .leaf],[.val (.int .i64) .leaf],eA k,[]⟩)::(vP k)
theorem Hl (k:Nat):ae Tryz.prog (tU k):=ae.ev ax mixed (JR k) Du nA k Tryz.func24 (by kernel_rfl) (fun x=>by kernel_rfl)
def wZ (k:Nat):List (FuncId×aF):=(30,⟨[.val ab q3,.val (.int .i64) .leaf],[.val (.int .i64) .leaf],eX k,[]⟩)::(tU k)
theorem IV (k:Nat):ae Tryz.prog (wZ k):=ae.ev ax mixed (Hl k) nA nA k Tryz.func30 (by kernel_rfl) (fun x=>by kernel_rfl)
def DA:Nat→Option aM:=fun|5=>some ⟨[(0,.val (.sl ab) (.sl (.sha [1]))),(1,.val (.int .i64) .leaf),(5,.val (.int .i64) .leaf)],3⟩|_=>none
def tF (k:Nat):List (FuncId×aF):=(49,⟨[.val (.sl ab) .shr,.val (.int .i64) .leaf],[.val (.int .i64) .leaf],c9 k,[]⟩)::(wZ k)
theorem Gc (k:Nat):ae Tryz.prog (tF k):=ae.ev ax mixed (IV k) DA nA k Tryz.func49 (by kernel_rfl) (fun x=>by kernel_rfl)
def v7 (k:Nat):List (FuncId×aF):=(307,⟨[.val ay (.pair .leaf .shr),.val (.int .i64) .leaf],[.val (.int .i64) .leaf],ix k,[]⟩)::(tF k)
theorem H4 (k:Nat):ae Tryz.prog (v7 k):=ae.ev ax mixed (Gc k) nA nA k Tryz.func307 (by kernel_rfl) (fun x=>by kernel_rfl)
def CT:Nat→Option aM:=fun|5=>some ⟨[(0,.val (.sl ay) (.sl (.sha [1]))),(1,.val (.int .i64) .leaf),(5,.val (.int .i64) .leaf)],3⟩|_=>none
def tI (k:Nat):List (FuncId×aF):=(229,⟨[.val (.sl ay) .shr,.val (.int .i64) .leaf],[.val (.int .i64) .leaf],oz k,[]⟩)::(v7 k)
theorem Fp (k:Nat):ae Tryz.prog (tI k):=ae.ev ax mixed (H4 k) CT nA k Tryz.func229 (by kernel_rfl) (fun x=>by kernel_rfl)
def ya (k:Nat):List (FuncId×aF):=(122,⟨[.val ak (.pair .leaf (.pair .leaf .shr)),.val (.int .i64) .leaf],[.val (.int .i64) .leaf],jJ k,[]⟩)::(tI k)
theorem LR (k:Nat):ae Tryz.prog (ya k):=ae.ev ax mixed (Fp k) nA nA k Tryz.func122 (by kernel_rfl) (fun x=>by kernel_rfl)
def EE:Nat→Option aM:=fun|5=>some ⟨[(0,.val (.sl ak) (.sl (.sha [1]))),(1,.val (.int .i64) .leaf),(5,.val (.int .i64) .leaf)],3⟩|_=>none
def vV (k:Nat):List (FuncId×aF):=(47,⟨[.val (.sl ak) .shr,.val (.int .i64) .leaf],[.val (.int .i64) .leaf],pd k,[]⟩)::(ya k)
theorem Is (k:Nat):ae Tryz.prog (vV k):=ae.ev ax mixed (LR k) EE nA k Tryz.func47 (by kernel_rfl) (fun x=>by kernel_rfl)
def zB (k:Nat):List (FuncId×aF):=(123,⟨[.val aU (.pair .shr .leaf),.val (.int .i64) .leaf],[.val (.int .i64) .leaf],kS k,[]⟩)::(vV k)
theorem NN (k:Nat):ae Tryz.prog (zB k):=ae.ev ax mixed (Is k) nA nA k Tryz.func123 (by kernel_rfl) (fun x=>by kernel_rfl)
def IA:Nat→Option aM:=fun|5=>some ⟨[(0,.val (.sl aU) (.sl (.sha [1]))),(1,.val (.int .i64) .leaf),(5,.val (.int .i64) .leaf)],3⟩|_=>none
def yz (k:Nat):List (FuncId×aF):=(48,⟨[.val (.sl aU) .shr,.val (.int .i64) .leaf],[.val (.int .i64) .leaf],qC k,[]⟩)::(zB k)
theorem KX (k:Nat):ae Tryz.prog (yz k):=ae.ev ax mixed (NN k) IA nA k Tryz.func48 (by kernel_rfl) (fun x=>by kernel_rfl)
def wM (k:Nat):List (FuncId×aF):=(124,⟨[.val aj (.pair .leaf q4),.val (.int .i64) .leaf],[.val (.int .i64) .leaf],iC k,[]⟩)::(yz k)
theorem HG (k:Nat):ae Tryz.prog (wM k):=ae.ev ax mixed (KX k) nA nA k Tryz.func124 (by kernel_rfl) (fun x=>by kernel_rfl)
def DS:Nat→Option aM:=fun|5=>some ⟨[(0,.val (.sl aj) (.sl (.sha [1]))),(1,.val (.int .i64) .leaf),(5,.val (.int .i64) .leaf)],3⟩|_=>none
def tP (k:Nat):List (FuncId×aF):=(50,⟨[.val (.sl aj) .shr,.val (.int .i64) .leaf],[.val (.int .i64) .leaf],oF k,[]⟩)::(wM k)
theorem FE (k:Nat):ae Tryz.prog (tP k):=ae.ev ax mixed (HG k) DS nA k Tryz.func50 (by kernel_rfl) (fun x=>by kernel_rfl)
def uG (k:Nat):List (FuncId×aF):=(51,⟨[.val (.sl aC) .shr,.val (.int .i64) .leaf],[.val (.int .i64) .leaf],j9 k,[]⟩)::(tP k)
theorem FA (k:Nat):ae Tryz.prog (uG k):=ae.ev ax mixed (FE k) nA nA k Tryz.func51 (by kernel_rfl) (fun x=>by kernel_rfl)
def uY (k:Nat):List (FuncId×aF):=(125,⟨[.val aN q6,.val (.int .i64) .leaf],[.val (.int .i64) .leaf],im k,[]⟩)::(uG k)
theorem JX (k:Nat):ae Tryz.prog (uY k):=ae.ev ax mixed (FA k) nA nA k Tryz.func125 (by kernel_rfl) (fun x=>by kernel_rfl)
def DB:Nat→Option aM:=fun|5=>some ⟨[(0,.val (.sl aN) (.sl (.sha [1]))),(1,.val (.int .i64) .leaf),(5,.val (.int .i64) .leaf)],3⟩|_=>none
def ur (k:Nat):List (FuncId×aF):=(52,⟨[.val (.sl aN) .shr,.val (.int .i64) .leaf],[.val (.int .i64) .leaf],nR k,[]⟩)::(uY k)
theorem EJ (k:Nat):ae Tryz.prog (ur k):=ae.ev ax mixed (JX k) DB nA k Tryz.func52 (by kernel_rfl) (fun x=>by kernel_rfl)
def yI (k:Nat):List (FuncId×aF):=(230,⟨[.val (.sl (.int .i64)) .shr,.val (.int .i64) .leaf],[.val (.int .i64) .leaf],ng k,[]⟩)::(ur k)
theorem LH (k:Nat):ae Tryz.prog (yI k):=ae.ev ax mixed (EJ k) nA nA k Tryz.func230 (by kernel_rfl) (fun x=>by kernel_rfl)
def yX (k:Nat):List (FuncId×aF):=(126,⟨[.val ah (.pair .leaf (.pair .leaf (.pair q3 (.pair .shr (.pair .leaf q7))))),.val (.int .i64) .leaf],[.val (.int .i64) .leaf],jI k,[]⟩)::(yI k)
theorem L7 (k:Nat):ae Tryz.prog (yX k):=ae.ev ax mixed (LH k) nA nA k Tryz.func126 (by kernel_rfl) (fun x=>by kernel_rfl)
def Fm:Nat→Option aM:=fun|5=>some ⟨[(0,.val (.sl ah) (.sl (.sha [1]))),(1,.val (.int .i64) .leaf),(5,.val (.int .i64) .leaf)],3⟩|_=>none
def vF (k:Nat):List (FuncId×aF):=(53,⟨[.val (.sl ah) .shr,.val (.int .i64) .leaf],[.val (.int .i64) .leaf],pg k,[]⟩)::(yX k)
theorem Jd (k:Nat):ae Tryz.prog (vF k):=ae.ev ax mixed (L7 k) Fm nA k Tryz.func53 (by kernel_rfl) (fun x=>by kernel_rfl)
def yf (k:Nat):List (FuncId×aF):=(127,⟨[.val aq (.pair .leaf (.pair .leaf (.pair q3 (.pair .shr (.pair .leaf (.pair .leaf (.pair .leaf (.pair .shr uc)))))))),.val (.int .i64) .leaf],[.val (.int .i64) .leaf],jD k,[]⟩)::(vF k)
theorem K6 (k:Nat):ae Tryz.prog (yf k):=ae.ev ax mixed (Jd k) nA nA k Tryz.func127 (by kernel_rfl) (fun x=>by kernel_rfl)
def FP:Nat→Option aM:=fun|5=>some ⟨[(0,.val (.sl aq) (.sl (.sha [1]))),(1,.val (.int .i64) .leaf),(5,.val (.int .i64) .leaf)],3⟩|_=>none
def vr (k:Nat):List (FuncId×aF):=(54,⟨[.val (.sl aq) .shr,.val (.int .i64) .leaf],[.val (.int .i64) .leaf],oX k,[]⟩)::(yf k)
theorem JY (k:Nat):ae Tryz.prog (vr k):=ae.ev ax mixed (K6 k) FP nA k Tryz.func54 (by kernel_rfl) (fun x=>by kernel_rfl)
def xb (k:Nat):List (FuncId×aF):=(13,⟨[.val aE (.pair (.pair .leaf (.pair .leaf q0)) (.pair .leaf (.pair .leaf (.pair .shr (.pair .shr (.pair .shr (.pair .leaf (.pair .shr (.pair .leaf (.pair .shr je)))))))))),.val (.int .i64) .leaf],[.val (.int .i64) .leaf],lz k,[]⟩)::(vr k)
theorem H8 (k:Nat):ae Tryz.prog (xb k):=ae.ev ax mixed (JY k) nA nA k Tryz.func13 (by kernel_rfl) (fun x=>by kernel_rfl)
end Vg.Tryz
namespace Vg.Tryz
open Go Vg Go.Proofs
set_option linter.unusedVariables false
set_option maxRecDepth 1000000
def Bq:Nat→Option aM:=fun|3=>some ⟨[(0,.val (.sl .str) (.sl (.sha [1]))),(3,.val (.sl .str) (.sl (.row 3 [3] true))),(4,.val (.int .i64) .leaf)],4⟩|_=>none
def sA (k:Nat):List (FuncId×aF):=(129,⟨[.val (.sl .str) .shr],[.val (.sl .str) .own],ny k,[]⟩)::(xb k)
theorem D3 (k:Nat):ae Tryz.prog (sA k):=ae.ev ax mixed (H8 k) Bq nA k Tryz.func129 (by kernel_rfl) (fun x=>by kernel_rfl)
def yk (k:Nat):List (FuncId×aF):=(56,⟨[.val bC (.pair .leaf (.pair .leaf q0))],[.val bC (.pair .leaf (.pair .leaf vc))],mX k,[]⟩)::(sA k)
theorem L3 (k:Nat):ae Tryz.prog (yk k):=ae.ev ax mixed (D3 k) nA nA k Tryz.func56 (by kernel_rfl) (fun x=>by kernel_rfl)
def vE (k:Nat):List (FuncId×aF):=(104,⟨[.val af (.pair .leaf .leaf)],[.val af (.pair .leaf .leaf)],iA k,[]⟩)::(yk k)
theorem Jj (k:Nat):ae Tryz.prog (vE k):=ae.ev ax mixed (L3 k) nA nA k Tryz.func104 (by kernel_rfl) (fun x=>by kernel_rfl)
def Dx:Nat→Option aM:=fun|3=>some ⟨[(0,.val (.sl af) (.sl (.sha [1]))),(3,.val (.sl af) (.sl (.row 3 [3] true))),(4,.val (.int .i64) .leaf)],4⟩|_=>none
def tp (k:Nat):List (FuncId×aF):=(26,⟨[.val (.sl af) .shr],[.val (.sl af) .own],eC k,[]⟩)::(vE k)
theorem GA (k:Nat):ae Tryz.prog (tp k):=ae.ev ax mixed (Jj k) Dx nA k Tryz.func26 (by kernel_rfl) (fun x=>by kernel_rfl)
def wC (k:Nat):List (FuncId×aF):=(32,⟨[.val ab q3],[.val ab qV],eM k,[]⟩)::(tp k)
theorem IT (k:Nat):ae Tryz.prog (wC k):=ae.ev ax mixed (GA k) nA nA k Tryz.func32 (by kernel_rfl) (fun x=>by kernel_rfl)
def DL:Nat→Option aM:=fun|3=>some ⟨[(0,.val (.sl ab) (.sl (.sha [1]))),(3,.val (.sl ab) (.sl (.row 3 [3] true))),(4,.val (.int .i64) .leaf)],4⟩|_=>none
def uJ (k:Nat):List (FuncId×aF):=(59,⟨[.val (.sl ab) .shr],[.val (.sl ab) .own],db k,[]⟩)::(wC k)
theorem GK (k:Nat):ae Tryz.prog (uJ k):=ae.ev ax mixed (IT k) DL nA k Tryz.func59 (by kernel_rfl) (fun x=>by kernel_rfl)
def vT (k:Nat):List (FuncId×aF):=(308,⟨[.val ay (.pair .leaf .shr)],[.val ay (.pair .leaf .own)],iW k,[]⟩)::(uJ k)
theorem I6 (k:Nat):ae Tryz.prog (vT k):=ae.ev ax mixed (GK k) nA nA k Tryz.func308 (by kernel_rfl) (fun x=>by kernel_rfl)
def CN:Nat→Option aM:=fun|3=>some ⟨[(0,.val (.sl ay) (.sl (.sha [1]))),(3,.val (.sl ay) (.sl (.row 3 [3] true))),(4,.val (.int .i64) .leaf)],4⟩|_=>none
def ua (k:Nat):List (FuncId×aF):=(231,⟨[.val (.sl ay) .shr],[.val (.sl ay) .own],nY k,[]⟩)::(vT k)
theorem GF (k:Nat):ae Tryz.prog (ua k):=ae.ev ax mixed (I6 k) CN nA k Tryz.func231 (by kernel_rfl) (fun x=>by kernel_rfl)
def yU (k:Nat):List (FuncId×aF):=(130,⟨[.val ak (.pair .leaf (.pair .leaf .shr))],[.val ak (.pair .leaf (.pair .leaf .own))],jO k,[]⟩)::(ua k)
theorem KV (k:Nat):ae Tryz.prog (yU k):=ae.ev ax mixed (GF k) nA nA k Tryz.func130 (by kernel_rfl) (fun x=>by kernel_rfl)
def FM:Nat→Option aM:=fun|3=>some ⟨[(0,.val (.sl ak) (.sl (.sha [1]))),(3,.val (.sl ak) (.sl (.row 3 [3] true))),(4,.val (.int .i64) .leaf)],4⟩|_=>none
def wc (k:Nat):List (FuncId×aF):=(57,⟨[.val (.sl ak) .shr],[.val (.sl ak) .own],pz k,[]⟩)::(yU k)
theorem Ix (k:Nat):ae Tryz.prog (wc k):=ae.ev ax mixed (KV k) FM nA k Tryz.func57 (by kernel_rfl) (fun x=>by kernel_rfl)
def Ak (k:Nat):List (FuncId×aF):=(131,⟨[.val aU (.pair .shr .leaf)],[.val aU (.pair .own .leaf)],kQ k,[]⟩)::(wc k)
theorem Ni (k:Nat):ae Tryz.prog (Ak k):=ae.ev ax mixed (Ix k) nA nA k Tryz.func131 (by kernel_rfl) (fun x=>by kernel_rfl)
def Jr:Nat→Option aM:=fun|3=>some ⟨[(0,.val (.sl aU) (.sl (.sha [1]))),(3,.val (.sl aU) (.sl (.row 3 [3] true))),(4,.val (.int .i64) .leaf)],4⟩|_=>none
def yS (k:Nat):List (FuncId×aF):=(58,⟨[.val (.sl aU) .shr],[.val (.sl aU) .own],qJ k,[]⟩)::(Ak k)
theorem L5 (k:Nat):ae Tryz.prog (yS k):=ae.ev ax mixed (Ni k) Jr nA k Tryz.func58 (by kernel_rfl) (fun x=>by kernel_rfl)
def vw (k:Nat):List (FuncId×aF):=(132,⟨[.val aj (.pair .leaf q4)],[.val aj (.pair .leaf TO)],iG k,[]⟩)::(yS k)
theorem Je (k:Nat):ae Tryz.prog (vw k):=ae.ev ax mixed (L5 k) nA nA k Tryz.func132 (by kernel_rfl) (fun x=>by kernel_rfl)
def Dk:Nat→Option aM:=fun|3=>some ⟨[(0,.val (.sl aj) (.sl (.sha [1]))),(3,.val (.sl aj) (.sl (.row 3 [3] true))),(4,.val (.int .i64) .leaf)],4⟩|_=>none
def uy (k:Nat):List (FuncId×aF):=(60,⟨[.val (.sl aj) .shr],[.val (.sl aj) .own],oc k,[]⟩)::(vw k)
theorem Fu (k:Nat):ae Tryz.prog (uy k):=ae.ev ax mixed (Je k) Dk nA k Tryz.func60 (by kernel_rfl) (fun x=>by kernel_rfl)
def vZ (k:Nat):List (FuncId×aF):=(133,⟨[.val aC (.pair .leaf .leaf)],[.val aC (.pair .leaf .leaf)],iJ k,[]⟩)::(uy k)
theorem Iv (k:Nat):ae Tryz.prog (vZ k):=ae.ev ax mixed (Fu k) nA nA k Tryz.func133 (by kernel_rfl) (fun x=>by kernel_rfl)
def CD:Nat→Option aM:=fun|3=>some ⟨[(0,.val (.sl aC) (.sl (.sha [1]))),(3,.val (.sl aC) (.sl (.row 3 [3] true))),(4,.val (.int .i64) .leaf)],4⟩|_=>none
def tG (k:Nat):List (FuncId×aF):=(61,⟨[.val (.sl aC) .shr],[.val (.sl aC) .own],om k,[]⟩)::(vZ k)
theorem EZ (k:Nat):ae Tryz.prog (tG k):=ae.ev ax mixed (Iv k) CD nA k Tryz.func61 (by kernel_rfl) (fun x=>by kernel_rfl)
def wh (k:Nat):List (FuncId×aF):=(134,⟨[.val aN q6],[.val aN TU],iv k,[]⟩)::(tG k)
theorem Hz (k:Nat):ae Tryz.prog (wh k):=ae.ev ax mixed (EZ k) nA nA k Tryz.func134 (by kernel_rfl) (fun x=>by kernel_rfl)
def CB:Nat→Option aM:=fun|3=>some ⟨[(0,.val (.sl aN) (.sl (.sha [1]))),(3,.val (.sl aN) (.sl (.row 3 [3] true))),(4,.val (.int .i64) .leaf)],4⟩|_=>none
def tA (k:Nat):List (FuncId×aF):=(62,⟨[.val (.sl aN) .shr],[.val (.sl aN) .own],nZ k,[]⟩)::(wh k)
theorem Hq (k:Nat):ae Tryz.prog (tA k):=ae.ev ax mixed (Hz k) CB nA k Tryz.func62 (by kernel_rfl) (fun x=>by kernel_rfl)
def HZ:Nat→Option aM:=fun|3=>some ⟨[(0,.val (.sl (.int .i64)) (.sl (.sha [1]))),(3,.val (.sl (.int .i64)) (.sl (.row 3 [3] true))),(4,.val (.int .i64) .leaf)],4⟩|_=>none
def yH (k:Nat):List (FuncId×aF):=(232,⟨[.val (.sl (.int .i64)) .shr],[.val (.sl (.int .i64)) .own],qF k,[]⟩)::(tA k)
theorem Lr (k:Nat):ae Tryz.prog (yH k):=ae.ev ax mixed (Hq k) HZ nA k Tryz.func232 (by kernel_rfl) (fun x=>by kernel_rfl)
def yr (k:Nat):List (FuncId×aF):=(135,⟨[.val ah (.pair .leaf (.pair .leaf (.pair q3 (.pair .shr (.pair .leaf q7)))))],[.val ah (.pair .leaf (.pair .leaf (.pair qV (.pair .own (.pair .leaf S9)))))],jC k,[]⟩)::(yH k)
theorem Lz (k:Nat):ae Tryz.prog (yr k):=ae.ev ax mixed (Lr k) nA nA k Tryz.func135 (by kernel_rfl) (fun x=>by kernel_rfl)
def Gf:Nat→Option aM:=fun|3=>some ⟨[(0,.val (.sl ah) (.sl (.sha [1]))),(3,.val (.sl ah) (.sl (.row 3 [3] true))),(4,.val (.int .i64) .leaf)],4⟩|_=>none
def wX (k:Nat):List (FuncId×aF):=(63,⟨[.val (.sl ah) .shr],[.val (.sl ah) .own],pC k,[]⟩)::(yr k)
theorem Ih (k:Nat):ae Tryz.prog (wX k):=ae.ev ax mixed (Lz k) Gf nA k Tryz.func63 (by kernel_rfl) (fun x=>by kernel_rfl)
def yV (k:Nat):List (FuncId×aF):=(136,⟨[.val aq (.pair .leaf (.pair .leaf (.pair q3 (.pair .shr (.pair .leaf (.pair .leaf (.pair .leaf (.pair .shr uc))))))))],[.val aq (.pair .leaf (.pair .leaf (.pair qV (.pair .own (.pair .leaf (.pair .leaf (.pair .leaf (.pair .own uc))))))))],jK k,[]⟩)::(wX k)
theorem KW (k:Nat):ae Tryz.prog (yV k):=ae.ev ax mixed (Ih k) nA nA k Tryz.func136 (by kernel_rfl) (fun x=>by kernel_rfl)
def EG:Nat→Option aM:=fun|3=>some ⟨[(0,.val (.sl aq) (.sl (.sha [1]))),(3,.val (.sl aq) (.sl (.row 3 [3] true))),(4,.val (.int .i64) .leaf)],4⟩|_=>none
def vn (k:Nat):List (FuncId×aF):=(64,⟨[.val (.sl aq) .shr],[.val (.sl aq) .own],pD k,[]⟩)::(yV k)
theorem Jb (k:Nat):ae Tryz.prog (vn k):=ae.ev ax mixed (KW k) EG nA k Tryz.func64 (by kernel_rfl) (fun x=>by kernel_rfl)
def wJ (k:Nat):List (FuncId×aF):=(15,⟨[.val aE (.pair (.pair .leaf (.pair .leaf q0)) (.pair .leaf (.pair .leaf (.pair .shr (.pair .shr (.pair .shr (.pair .leaf (.pair .shr (.pair .leaf (.pair .shr je))))))))))],[.val aE (.pair (.pair .leaf (.pair .leaf vc)) (.pair .leaf (.pair .leaf (.pair .own (.pair .own (.pair .own (.pair .leaf (.pair .own (.pair .leaf (.pair .own Cu))))))))))],eQ k,[]⟩)::(vn k)
theorem H9 (k:Nat):ae Tryz.prog (wJ k):=ae.ev ax mixed (Jb k) nA nA k Tryz.func15 (by kernel_rfl) (fun x=>by kernel_rfl)
def ve (k:Nat):List (FuncId×aF):=(146,⟨[.val bC (.pair .leaf (.pair .leaf q0))],[.val bC (.pair .leaf (.pair .leaf vc))],lJ k,[]⟩)::(wJ k)
theorem IB (k:Nat):ae Tryz.prog (ve k):=ae.ev ax mixed (H9 k) nA nA k Tryz.func146 (by kernel_rfl) (fun x=>by kernel_rfl)
end Vg.Tryz
namespace Vg.Tryz
open Go Vg Go.Proofs
set_option linter.unusedVariables false
set_option maxRecDepth 1000000
def yT (k:Nat):List (FuncId×aF):=(193,⟨[.val ab q3],[.val ab qV],dO k,[]⟩)::(ve k)
theorem Lw (k:Nat):ae Tryz.prog (yT k):=ae.ev ax mixed (IB k) nA nA k Tryz.func193 (by kernel_rfl) (fun x=>by kernel_rfl)
def Li:Nat→Option aM:=fun|3=>some ⟨[(0,.val (.sl ab) (.sl (.sha [1]))),(3,.val (.sl ab) (.sl (.row 3 [3] true))),(4,.val (.int .i64) .leaf)],4⟩|_=>none
def AI (k:Nat):List (FuncId×aF):=(149,⟨[.val (.sl ab) .shr],[.val (.sl ab) .own],dF k,[]⟩)::(yT k)
theorem MK (k:Nat):ae Tryz.prog (AI k):=ae.ev ax mixed (Lw k) Li nA k Tryz.func149 (by kernel_rfl) (fun x=>by kernel_rfl)
def xR (k:Nat):List (FuncId×aF):=(310,⟨[.val ay (.pair .leaf .shr)],[.val ay (.pair .leaf .own)],nh k,[]⟩)::(AI k)
theorem Lg (k:Nat):ae Tryz.prog (xR k):=ae.ev ax mixed (MK k) nA nA k Tryz.func310 (by kernel_rfl) (fun x=>by kernel_rfl)
def JZ:Nat→Option aM:=fun|3=>some ⟨[(1,.box 3 ak cO),(2,.box 4 ak yF),(3,.box 5 ak Cc),(4,.val (.int .i64) .leaf)],7⟩|_=>none
def yx (k:Nat):List (FuncId×aF):=(235,⟨[.val ak (.pair .leaf (.pair .leaf .shr))],[.val ak (.pair .leaf (.pair .leaf .own))],jB k,[]⟩)::(xR k)
theorem K2 (k:Nat):ae Tryz.prog (yx k):=ae.ev ax mixed (Lg k) JZ nA k Tryz.func235 (by kernel_rfl) (fun x=>by kernel_rfl)
def Ip:Nat→Option aM:=fun|3=>some ⟨[(0,.val (.sl ak) (.sl (.sha [1]))),(3,.val (.sl ak) (.sl (.row 3 [3] true))),(4,.val (.int .i64) .leaf)],4⟩|_=>none
def xS (k:Nat):List (FuncId×aF):=(147,⟨[.val (.sl ak) .shr],[.val (.sl ak) .own],qG k,[]⟩)::(yx k)
theorem Lf (k:Nat):ae Tryz.prog (xS k):=ae.ev ax mixed (K2 k) Ip nA k Tryz.func147 (by kernel_rfl) (fun x=>by kernel_rfl)
def yq (k:Nat):List (FuncId×aF):=(236,⟨[.val aU (.pair .shr .leaf)],[.val aU (.pair .own .leaf)],jP k,[]⟩)::(xS k)
theorem Lp (k:Nat):ae Tryz.prog (yq k):=ae.ev ax mixed (Lf k) nA nA k Tryz.func236 (by kernel_rfl) (fun x=>by kernel_rfl)
def LL:Nat→Option aM:=fun|3=>some ⟨[(0,.val (.sl aU) (.sl (.sha [1]))),(3,.val (.sl aU) (.sl (.row 3 [3] true))),(4,.val (.int .i64) .leaf)],4⟩|_=>none
def Am (k:Nat):List (FuncId×aF):=(148,⟨[.val (.sl aU) .shr],[.val (.sl aU) .own],sI k,[]⟩)::(yq k)
theorem Mn (k:Nat):ae Tryz.prog (Am k):=ae.ev ax mixed (Lp k) LL nA k Tryz.func148 (by kernel_rfl) (fun x=>by kernel_rfl)
def wk (k:Nat):List (FuncId×aF):=(237,⟨[.val aj (.pair .leaf q4)],[.val aj (.pair .leaf TO)],ir k,[]⟩)::(Am k)
theorem HM (k:Nat):ae Tryz.prog (wk k):=ae.ev ax mixed (Mn k) nA nA k Tryz.func237 (by kernel_rfl) (fun x=>by kernel_rfl)
def Hh:Nat→Option aM:=fun|3=>some ⟨[(0,.val (.sl aj) (.sl (.sha [1]))),(3,.val (.sl aj) (.sl (.row 3 [3] true))),(4,.val (.int .i64) .leaf)],4⟩|_=>none
def wL (k:Nat):List (FuncId×aF):=(150,⟨[.val (.sl aj) .shr],[.val (.sl aj) .own],pv k,[]⟩)::(wk k)
theorem JN (k:Nat):ae Tryz.prog (wL k):=ae.ev ax mixed (HM k) Hh nA k Tryz.func150 (by kernel_rfl) (fun x=>by kernel_rfl)
def tR (k:Nat):List (FuncId×aF):=(151,⟨[.val aN q6],[.val aN TU],gL k,[]⟩)::(wL k)
theorem GC (k:Nat):ae Tryz.prog (tR k):=ae.ev ax mixed (JN k) nA nA k Tryz.func151 (by kernel_rfl) (fun x=>by kernel_rfl)
def vR (k:Nat):List (FuncId×aF):=(152,⟨[.val ah (.pair .leaf (.pair .leaf (.pair q3 (.pair .shr (.pair .leaf q7)))))],[.val ah (.pair .leaf (.pair .leaf (.pair qV (.pair .own (.pair .leaf S9)))))],iD k,[]⟩)::(tR k)
theorem HO (k:Nat):ae Tryz.prog (vR k):=ae.ev ax mixed (GC k) nA nA k Tryz.func152 (by kernel_rfl) (fun x=>by kernel_rfl)
def wK (k:Nat):List (FuncId×aF):=(238,⟨[.val aq (.pair .leaf (.pair .leaf (.pair q3 (.pair .shr (.pair .leaf (.pair .leaf (.pair .leaf (.pair .shr uc))))))))],[.val aq (.pair .leaf (.pair .leaf (.pair qV (.pair .own (.pair .leaf (.pair .leaf (.pair .leaf (.pair .own uc))))))))],iT k,[]⟩)::(vR k)
theorem HD (k:Nat):ae Tryz.prog (wK k):=ae.ev ax mixed (HO k) nA nA k Tryz.func238 (by kernel_rfl) (fun x=>by kernel_rfl)
def I0:Nat→Option aM:=fun|3=>some ⟨[(0,.val (.sl aq) (.sl (.sha [1]))),(3,.val (.sl aq) (.sl (.row 3 [3] true))),(4,.val (.int .i64) .leaf)],4⟩|_=>none
def ym (k:Nat):List (FuncId×aF):=(153,⟨[.val (.sl aq) .shr],[.val (.sl aq) .own],qI k,[]⟩)::(wK k)
theorem Lb (k:Nat):ae Tryz.prog (ym k):=ae.ev ax mixed (HD k) I0 nA k Tryz.func153 (by kernel_rfl) (fun x=>by kernel_rfl)
def F5:Nat→Option aM:=fun|11=>some ⟨[(1,.box 3 aE (.pair (.pair .leaf (.pair .leaf (.pair .leaf cO))) (.pair .leaf (.pair .leaf (.pair (.sl (.sha [1])) (.pair (.sl (.sha [1])) (.pair (.sl (.sha [1])) (.pair .leaf (.pair (.sl (.sha [1])) (.pair .leaf (.pair (.sl (.sha [1])) (.pair (.sl (.sha [1])) (.pair (.sl (.sha [1])) de))))))))))))),(2,.box 4 aE (.pair (.pair .leaf (.pair .leaf (.pair .leaf yF))) (.pair .leaf (.pair .leaf (.pair (.sl (.sha [])) (.pair (.sl (.sha [])) (.pair (.sl (.sha [])) (.pair .leaf (.pair (.sl (.sha [])) (.pair .leaf (.pair (.sl (.sha [])) (.pair (.sl (.sha [])) Cv)))))))))))),(3,.box 5 aE (.pair (.pair .leaf (.pair .leaf (.pair .leaf Cc))) (.pair .leaf (.pair .leaf (.pair (.sl (.row 7 [7] true)) (.pair (.sl (.row 8 [8] true)) (.pair (.sl (.row 9 [9] true)) (.pair .leaf (.pair (.sl (.row 10 [10] true)) (.pair .leaf (.pair (.sl (.row 11 [] true)) (.pair (.sl (.row 12 [12] true)) (.pair (.sl (.sha [1])) de))))))))))))),(4,.box 13 bC (.pair .leaf (.pair .leaf (.pair .leaf Cc)))),(5,.val (.int .i64) .leaf)],14⟩|18=>some ⟨[(1,.box 3 aE (.pair (.pair .leaf (.pair .leaf (.pair .leaf cO))) (.pair .leaf (.pair .leaf (.pair (.sl (.sha [1])) (.pair (.sl (.sha [1])) (.pair (.sl (.sha [1])) (.pair .leaf (.pair (.sl (.sha [1])) (.pair .leaf (.pair (.sl (.sha [1])) (.pair (.sl (.sha [1])) (.pair (.sl (.sha [1])) de))))))))))))),(2,.box 4 aE (.pair (.pair .leaf (.pair .leaf (.pair .leaf yF))) (.pair .leaf (.pair .leaf (.pair (.sl (.sha [])) (.pair (.sl (.sha [])) (.pair (.sl (.sha [])) (.pair .leaf (.pair (.sl (.sha [])) (.pair .leaf (.pair (.sl (.sha [])) (.pair (.sl (.sha [])) Cv)))))))))))),(3,.box 5 aE (.pair (.pair .leaf (.pair .leaf (.pair .leaf Cc))) (.pair .leaf (.pair .leaf (.pair (.sl (.row 7 [7] true)) (.pair (.sl (.row 8 [8] true)) (.pair (.sl (.row 9 [9] true)) (.pair .leaf (.pair (.sl (.row 10 [10] true)) (.pair .leaf (.pair (.sl (.row 11 [] true)) (.pair (.sl (.row 12 [12] true)) (.pair (.sl (.row 13 [13] true)) Uw))))))))))))),(4,.box 15 bC (.pair .leaf (.pair .leaf (.pair .leaf Cc)))),(7,.val (.int .i64) .leaf)],16⟩|_=>none
def Fy:Nat→Option aM:=fun|15=>some ⟨[(1,.box 3 aE (.pair (.pair .leaf (.pair .leaf (.pair .leaf cO))) (.pair .leaf (.pair .leaf (.pair (.sl (.sha [1])) (.pair (.sl (.sha [1])) (.pair (.sl (.sha [1])) (.pair .leaf (.pair (.sl (.sha [1])) (.pair .leaf (.pair (.sl (.sha [1])) (.pair (.sl (.sha [1])) (.pair (.sl (.sha [1])) de))))))))))))),(2,.box 4 aE (.pair (.pair .leaf (.pair .leaf (.pair .leaf yF))) (.pair .leaf (.pair .leaf (.pair (.sl (.sha [])) (.pair (.sl (.sha [])) (.pair (.sl (.sha [])) (.pair .leaf (.pair (.sl (.sha [])) (.pair .leaf (.pair (.sl (.sha [])) (.pair (.sl (.sha [])) Cv)))))))))))),(3,.box 5 aE (.pair (.pair .leaf (.pair .leaf (.pair .leaf Cc))) (.pair .leaf (.pair .leaf (.pair (.sl (.row 7 [7] true)) (.pair (.sl (.row 8 [8] true)) (.pair (.sl (.row 9 [9] true)) (.pair .leaf (.pair (.sl (.row 10 [10] true)) (.pair .leaf (.pair (.sl (.row 11 [] true)) (.pair (.sl (.row 12 [12] true)) (.pair (.sl (.sha [1])) de))))))))))))),(4,.box 13 bC (.pair .leaf (.pair .leaf (.pair .leaf Cc))))],14⟩|22=>some ⟨[(1,.box 3 aE (.pair (.pair .leaf (.pair .leaf (.pair .leaf cO))) (.pair .leaf (.pair .leaf (.pair (.sl (.sha [1])) (.pair (.sl (.sha [1])) (.pair (.sl (.sha [1])) (.pair .leaf (.pair (.sl (.sha [1])) (.pair .leaf (.pair (.sl (.sha [1])) (.pair (.sl (.sha [1])) (.pair (.sl (.sha [1])) de))))))))))))),(2,.box 4 aE (.pair (.pair .leaf (.pair .leaf (.pair .leaf yF))) (.pair .leaf (.pair .leaf (.pair (.sl (.sha [])) (.pair (.sl (.sha [])) (.pair (.sl (.sha [])) (.pair .leaf (.pair (.sl (.sha [])) (.pair .leaf (.pair (.sl (.sha [])) (.pair (.sl (.sha [])) Cv)))))))))))),(3,.box 5 aE (.pair (.pair .leaf (.pair .leaf (.pair .leaf Cc))) (.pair .leaf (.pair .leaf (.pair (.sl (.row 7 [7] true)) (.pair (.sl (.row 8 [8] true)) (.pair (.sl (.row 9 [9] true)) (.pair .leaf (.pair (.sl (.row 10 [10] true)) (.pair .leaf (.pair (.sl (.row 11 [] true)) (.pair (.sl (.row 12 [12] true)) (.pair (.sl (.row 13 [13] true)) Uw))))))))))))),(4,.box 15 bC (.pair .leaf (.pair .leaf (.pair .leaf Cc))))],16⟩|_=>none
def vp (k:Nat):List (FuncId×aF):=(75,⟨[.val aE (.pair (.pair .leaf (.pair .leaf q0)) (.pair .leaf (.pair .leaf (.pair .shr (.pair .shr (.pair .shr (.pair .leaf (.pair .shr (.pair .leaf (.pair .shr je))))))))))],[.val aE (.pair (.pair .leaf (.pair .leaf vc)) (.pair .leaf (.pair .leaf (.pair .own (.pair .own (.pair .own (.pair .leaf (.pair .own (.pair .leaf (.pair .own Cu))))))))))],lM k,[]⟩)::(ym k)
theorem IJ (k:Nat):ae Tryz.prog (vp k):=ae.ev ax mixed (Lb k) F5 Fy k Tryz.func75 (by kernel_rfl) (fun x=>by kernel_rfl)
def Cn (k:Nat):List (FuncId×aF):=(77,⟨[.val (.int .i64) .leaf,.val (.int .i64) .leaf,.val (.int .i64) .leaf],[.val .bool .leaf],bE k,[]⟩)::(vp k)
theorem OQ (k:Nat):ae Tryz.prog (Cn k):=ae.ev ax mixed (IJ k) nA nA k Tryz.func77 (by kernel_rfl) (fun x=>by kernel_rfl)
def Jt:Nat→Option aM:=fun|2=>some ⟨[(0,.val .str .leaf),(3,.val (.int .i64) .leaf)],3⟩|_=>none
def JH:Nat→Option aM:=fun|6=>some ⟨[(0,.val .str .leaf)],3⟩|_=>none
def yG (k:Nat):List (FuncId×aF):=(272,⟨[.val .str .leaf],[.val .bool .leaf],jG k,[]⟩)::(Cn k)
theorem Lo (k:Nat):ae Tryz.prog (yG k):=ae.ev ax mixed (OQ k) Jt JH k Tryz.func272 (by kernel_rfl) (fun x=>by kernel_rfl)
def B0 (k:Nat):List (FuncId×aF):=(188,⟨[.val .str .leaf,.val .str .leaf],[.val .bool .leaf],ff k,[]⟩)::(yG k)
theorem OL (k:Nat):ae Tryz.prog (B0 k):=ae.ev ax mixed (Lo k) nA nA k Tryz.func188 (by kernel_rfl) (fun x=>by kernel_rfl)
def Fw:Nat→Option aM:=fun|2=>some ⟨[(0,.val (.sl .str) (.sl (.sha [1]))),(3,.val (.int .i64) .leaf)],3⟩|_=>none
def v8 (k:Nat):List (FuncId×aF):=(311,⟨[.val (.sl .str) .shr],[.val .bool .leaf],fQ k,[]⟩)::(B0 k)
theorem IF (k:Nat):ae Tryz.prog (v8 k):=ae.ev ax mixed (OL k) Fw nA k Tryz.func311 (by kernel_rfl) (fun x=>by kernel_rfl)
def Mu:Nat→Option aM:=fun|2=>some ⟨[(0,.val (.sl .str) (.sl (.sha [1]))),(3,.val (.int .i64) .leaf)],3⟩|_=>none
def M3:Nat→Option aM:=fun|6=>some ⟨[(0,.val (.sl .str) (.sl (.sha [1])))],3⟩|_=>none
def B7 (k:Nat):List (FuncId×aF):=(239,⟨[.val (.sl .str) .shr],[.val .bool .leaf],pN k,[]⟩)::(v8 k)
theorem Om (k:Nat):ae Tryz.prog (B7 k):=ae.ev ax mixed (IF k) Mu M3 k Tryz.func239 (by kernel_rfl) (fun x=>by kernel_rfl)
def xY (k:Nat):List (FuncId×aF):=(154,⟨[.val bC (.pair .leaf (.pair .leaf q0))],[.val .bool .leaf],na k,[]⟩)::(B7 k)
theorem KM (k:Nat):ae Tryz.prog (xY k):=ae.ev ax mixed (Om k) nA nA k Tryz.func154 (by kernel_rfl) (fun x=>by kernel_rfl)
def FI:Nat→Option aM:=fun|2=>some ⟨[(0,.val .str .leaf),(3,.val (.int .i64) .leaf)],3⟩|_=>none
def ED:Nat→Option aM:=fun|6=>some ⟨[(0,.val .str .leaf)],3⟩|_=>none
def wU (k:Nat):List (FuncId×aF):=(273,⟨[.val .str .leaf],[.val .bool .leaf],iI k,[]⟩)::(xY k)
theorem IS (k:Nat):ae Tryz.prog (wU k):=ae.ev ax mixed (KM k) FI ED k Tryz.func273 (by kernel_rfl) (fun x=>by kernel_rfl)
def vD (k:Nat):List (FuncId×aF):=(187,⟨[.val af (.pair .leaf .leaf)],[.val .bool .leaf],lS k,[]⟩)::(wU k)
theorem Jx (k:Nat):ae Tryz.prog (vD k):=ae.ev ax mixed (IS k) nA nA k Tryz.func187 (by kernel_rfl) (fun x=>by kernel_rfl)
def L9:Nat→Option aM:=fun|2=>some ⟨[(0,.val (.sl af) (.sl (.sha [1]))),(3,.val (.int .i64) .leaf)],3⟩|_=>none
def Ld:Nat→Option aM:=fun|6=>some ⟨[(0,.val (.sl af) (.sl (.sha [1])))],3⟩|_=>none
def Av (k:Nat):List (FuncId×aF):=(103,⟨[.val (.sl af) .shr],[.val .bool .leaf],fX k,[]⟩)::(vD k)
theorem Nk (k:Nat):ae Tryz.prog (Av k):=ae.ev ax mixed (Jx k) L9 Ld k Tryz.func103 (by kernel_rfl) (fun x=>by kernel_rfl)
def wS (k:Nat):List (FuncId×aF):=(242,⟨[.val ab q3],[.val .bool .leaf],dt k,[]⟩)::(Av k)
theorem Js (k:Nat):ae Tryz.prog (wS k):=ae.ev ax mixed (Nk k) nA nA k Tryz.func242 (by kernel_rfl) (fun x=>by kernel_rfl)
def F6:Nat→Option aM:=fun|5=>some ⟨[(0,.val (.sl af) (.sl (.sha [1]))),(3,.val .str .leaf),(4,.val (.int .i64) .leaf)],3⟩|_=>none
def Hi:Nat→Option aM:=fun|9=>some ⟨[(0,.val (.sl af) (.sl (.sha [1]))),(3,.val .str .leaf),(4,.val (.int .i64) .leaf)],3⟩|10=>some ⟨[(3,.val .str .leaf)],3⟩|_=>none
def wH (k:Nat):List (FuncId×aF):=(360,⟨[.val (.sl af) .shr],[.val .str .leaf],lD k,[]⟩)::(wS k)
theorem JQ (k:Nat):ae Tryz.prog (wH k):=ae.ev ax mixed (Js k) F6 Hi k Tryz.func360 (by kernel_rfl) (fun x=>by kernel_rfl)
end Vg.Tryz
namespace Vg.Tryz
open Go Vg Go.Proofs
set_option linter.unusedVariables false
set_option maxRecDepth 1000000
def NY:Nat→Option aM:=fun|3=>some ⟨[(0,.val .str .leaf),(3,.val (.int .i64) .leaf),(4,.val (.int .i64) .leaf)],3⟩|_=>none
def Hf (k:Nat):List (FuncId×aF):=(359,⟨[.val .str .leaf],[.val (.int .i64) .leaf],jt k,[]⟩)::(wH k)
theorem P0 (k:Nat):ae Tryz.prog (Hf k):=ae.ev ax mixed (JQ k) NY nA k Tryz.func359 (by kernel_rfl) (fun x=>by kernel_rfl)
def yv (k:Nat):List (FuncId×aF):=(318,⟨[.val (.sl af) .shr],[.val (.int .i64) .leaf],dL k,[]⟩)::(Hf k)
theorem LM (k:Nat):ae Tryz.prog (yv k):=ae.ev ax mixed (P0 k) nA nA k Tryz.func318 (by kernel_rfl) (fun x=>by kernel_rfl)
def E3:Nat→Option aM:=fun|4=>some ⟨[(0,.val (.sl af) (.sl (.sha [1]))),(1,.val (.sl af) (.sl (.sha [1]))),(5,.val (.int .i64) .leaf)],3⟩|_=>none
def wB (k:Nat):List (FuncId×aF):=(249,⟨[.val (.sl af) .shr,.val (.sl af) .shr],[.val .bool .leaf],cL k,[]⟩)::(yv k)
theorem Jq (k:Nat):ae Tryz.prog (wB k):=ae.ev ax mixed (LM k) E3 nA k Tryz.func249 (by kernel_rfl) (fun x=>by kernel_rfl)
def EP:Nat→Option aM:=fun|2=>some ⟨[(1,.box 3 ay (.pair .leaf (.sl (.sha [1])))),(3,.val (.int .i64) .leaf)],4⟩|7=>some ⟨[(1,.box 3 ay (.pair .leaf (.sl (.sha [1])))),(3,.val (.int .i64) .leaf),(4,.val (.int .i64) .leaf)],4⟩|_=>none
def Gl:Nat→Option aM:=fun|11=>some ⟨[(1,.box 3 ay (.pair .leaf (.sl (.sha [1]))))],4⟩|_=>none
def xa (k:Nat):List (FuncId×aF):=(356,⟨[.val ay (.pair .leaf .shr)],[.val .bool .leaf],lx k,[]⟩)::(wB k)
theorem JJ (k:Nat):ae Tryz.prog (xa k):=ae.ev ax mixed (Jq k) EP Gl k Tryz.func356 (by kernel_rfl) (fun x=>by kernel_rfl)
def yA (k:Nat):List (FuncId×aF):=(317,⟨[.val (.int .i64) .leaf,.val (.int .i64) .leaf],[.val (.int .i64) .leaf],eE k,[]⟩)::(xa k)
theorem L0 (k:Nat):ae Tryz.prog (yA k):=ae.ev ax mixed (JJ k) nA nA k Tryz.func317 (by kernel_rfl) (fun x=>by kernel_rfl)
def I4:Nat→Option aM:=fun|2=>some ⟨[(1,.val (.int .i64) .leaf),(2,.val (.int .i64) .leaf),(3,.box 3 ak cO),(7,.val (.int .i64) .leaf)],4⟩|_=>none
def I9:Nat→Option aM:=fun|6=>some ⟨[(3,.box 3 ak cO)],4⟩|_=>none
def yn (k:Nat):List (FuncId×aF):=(312,⟨[.val ak (.pair .leaf (.pair .leaf .shr)),.val (.int .i64) .leaf,.val (.int .i64) .leaf],[.val .bool .leaf],nb k,[]⟩)::(yA k)
theorem Ls (k:Nat):ae Tryz.prog (yn k):=ae.ev ax mixed (L0 k) I4 I9 k Tryz.func312 (by kernel_rfl) (fun x=>by kernel_rfl)
def FZ:Nat→Option aM:=fun|2=>some ⟨[(0,.val (.sl ak) (.sl (.sha [1]))),(3,.val (.int .i64) .leaf)],3⟩|_=>none
def Hr:Nat→Option aM:=fun|6=>some ⟨[(0,.val (.sl ak) (.sl (.sha [1])))],3⟩|_=>none
def vo (k:Nat):List (FuncId×aF):=(240,⟨[.val (.sl ak) .shr],[.val .bool .leaf],lQ k,[]⟩)::(yn k)
theorem Jv (k:Nat):ae Tryz.prog (vo k):=ae.ev ax mixed (Ls k) FZ Hr k Tryz.func240 (by kernel_rfl) (fun x=>by kernel_rfl)
def CH:Nat→Option aM:=fun|3=>some ⟨[(1,.box 3 ak cO),(3,.val (.sl ab) (.sl (.row 4 [4] true))),(4,.val (.int .i64) .leaf)],5⟩|_=>none
def tJ (k:Nat):List (FuncId×aF):=(280,⟨[.val ak (.pair .leaf (.pair .leaf .shr))],[.val (.sl ab) .own],gC k,[]⟩)::(vo k)
theorem Ep (k:Nat):ae Tryz.prog (tJ k):=ae.ev ax mixed (Jv k) CH nA k Tryz.func280 (by kernel_rfl) (fun x=>by kernel_rfl)
def EH:Nat→Option aM:=fun|2=>some ⟨[(0,.val (.sl af) (.sl (.sha [1]))),(1,.val (.sl af) (.sl (.sha [1]))),(5,.val (.int .i64) .leaf)],3⟩|_=>none
def ER:Nat→Option aM:=fun|8=>some ⟨[(0,.val (.sl af) (.sl (.sha [1]))),(1,.val (.sl af) (.sl (.sha [1])))],3⟩|_=>none
def vL (k:Nat):List (FuncId×aF):=(338,⟨[.val (.sl af) .shr,.val (.sl af) .shr],[.val .bool .leaf],iR k,[]⟩)::(tJ k)
theorem Ja (k:Nat):ae Tryz.prog (vL k):=ae.ev ax mixed (Ep k) EH ER k Tryz.func338 (by kernel_rfl) (fun x=>by kernel_rfl)
def HJ:Nat→Option aM:=fun|3=>some ⟨[(0,.val (.sl ab) (.sl (.sha [1]))),(3,.val (.sl ab) (.sl (.row 3 [2] false))),(4,.val (.int .i64) .leaf)],4⟩|7=>some ⟨[(0,.val (.sl ab) (.sl (.sha [1]))),(3,.val (.sl ab) (.sl (.row 3 [2] false))),(4,.val (.int .i64) .leaf),(5,.box 4 ab T3),(6,.val (.int .i64) .leaf)],6⟩|_=>none
def H0:Nat→Option aM:=fun|9=>some ⟨[(0,.val (.sl ab) (.sl (.sha [1]))),(3,.val (.sl ab) (.sl (.row 3 [2] false))),(4,.val (.int .i64) .leaf),(5,.box 4 ab T3),(6,.val (.int .i64) .leaf)],6⟩|_=>none
def xV (k:Nat):List (FuncId×aF):=(281,⟨[.val (.sl ab) .shr],[.val (.sl ab) .shr],jQ k,[]⟩)::(vL k)
theorem LB (k:Nat):ae Tryz.prog (xV k):=ae.ev ax mixed (Ja k) HJ H0 k Tryz.func281 (by kernel_rfl) (fun x=>by kernel_rfl)
def BJ:Nat→Option aM:=fun|3=>some ⟨[(0,.val (.sl ak) (.sl (.sha [1]))),(3,.val (.sl ab) (.sl (.row 3 [3] true))),(4,.val (.int .i64) .leaf)],4⟩|_=>none
def BO:Nat→Option aM:=fun|6=>some ⟨[(3,.val (.sl ab) (.sl (.row 3 [3] true)))],4⟩|_=>none
def rN (k:Nat):List (FuncId×aF):=(241,⟨[.val (.sl ak) .shr],[.val (.sl ab) .shr],ji k,[]⟩)::(xV k)
theorem Dg (k:Nat):ae Tryz.prog (rN k):=ae.ev ax mixed (LB k) BJ BO k Tryz.func241 (by kernel_rfl) (fun x=>by kernel_rfl)
def Ce (k:Nat):List (FuncId×aF):=(191,⟨[.val bC (.pair .leaf (.pair .leaf q0)),.val ab q3],[.val .bool .leaf],mr k,[]⟩)::(rN k)
theorem OK (k:Nat):ae Tryz.prog (Ce k):=ae.ev ax mixed (Dg k) nA nA k Tryz.func191 (by kernel_rfl) (fun x=>by kernel_rfl)
def Dt:Nat→Option aM:=fun|5=>some ⟨[(1,.box 3 aE (.pair (.pair .leaf (.pair .leaf (.pair .leaf cO))) (.pair .leaf (.pair .leaf (.pair (.sl (.sha [1])) (.pair (.sl (.sha [1])) (.pair (.sl (.sha [1])) (.pair .leaf (.pair (.sl (.sha [1])) (.pair .leaf (.pair (.sl (.sha [1])) (.pair (.sl (.sha [1])) (.pair (.sl (.sha [1])) de))))))))))))),(3,.val (.sl ab) (.sl (.sha [1,2]))),(4,.val (.int .i64) .leaf)],4⟩|_=>none
def Da:Nat→Option aM:=fun|9=>some ⟨[(1,.box 3 aE (.pair (.pair .leaf (.pair .leaf (.pair .leaf cO))) (.pair .leaf (.pair .leaf (.pair (.sl (.sha [1])) (.pair (.sl (.sha [1])) (.pair (.sl (.sha [1])) (.pair .leaf (.pair (.sl (.sha [1])) (.pair .leaf (.pair (.sl (.sha [1])) (.pair (.sl (.sha [1])) (.pair (.sl (.sha [1])) de))))))))))))),(3,.val (.sl ab) (.sl (.sha [1,2])))],4⟩|_=>none
def tY (k:Nat):List (FuncId×aF):=(155,⟨[.val aE (.pair (.pair .leaf (.pair .leaf q0)) (.pair .leaf (.pair .leaf (.pair .shr (.pair .shr (.pair .shr (.pair .leaf (.pair .shr (.pair .leaf (.pair .shr je))))))))))],[.val .bool .leaf],kt k,[]⟩)::(Ce k)
theorem Fg (k:Nat):ae Tryz.prog (tY k):=ae.ev ax mixed (OK k) Dt Da k Tryz.func155 (by kernel_rfl) (fun x=>by kernel_rfl)
def JO:Nat→Option aM:=fun|2=>some ⟨[(0,.val (.sl ab) (.sl (.sha [1]))),(3,.val (.int .i64) .leaf)],3⟩|_=>none
def yW (k:Nat):List (FuncId×aF):=(156,⟨[.val (.sl ab) .shr],[.val .bool .leaf],gp k,[]⟩)::(tY k)
theorem L2 (k:Nat):ae Tryz.prog (yW k):=ae.ev ax mixed (Fg k) JO nA k Tryz.func156 (by kernel_rfl) (fun x=>by kernel_rfl)
def KT:Nat→Option aM:=fun|2=>some ⟨[(1,.box 3 aU (.pair (.sl (.sha [1])) .leaf)),(3,.val (.int .i64) .leaf)],4⟩|_=>none
def KL:Nat→Option aM:=fun|6=>some ⟨[(1,.box 3 aU (.pair (.sl (.sha [1])) .leaf))],4⟩|_=>none
def zQ (k:Nat):List (FuncId×aF):=(157,⟨[.val aU (.pair .shr .leaf)],[.val .bool .leaf],oI k,[]⟩)::(yW k)
theorem NU (k:Nat):ae Tryz.prog (zQ k):=ae.ev ax mixed (L2 k) KT KL k Tryz.func157 (by kernel_rfl) (fun x=>by kernel_rfl)
def uk (k:Nat):List (FuncId×aF):=(244,⟨[.val (.int .i64) .leaf],[.val (.sl (.int .i64)) .own],ko k,[]⟩)::(zQ k)
theorem EX (k:Nat):ae Tryz.prog (uk k):=ae.ev ax mixed (NU k) nA nA k Tryz.func244 (by kernel_rfl) (fun x=>by kernel_rfl)
def Hw:Nat→Option aM:=fun|2=>some ⟨[(0,.val (.sl (.int .i64)) (.sl (.sha [1]))),(1,.val (.int .i64) .leaf),(5,.val (.int .i64) .leaf)],3⟩|_=>none
def yp (k:Nat):List (FuncId×aF):=(243,⟨[.val (.sl (.int .i64)) .shr,.val (.int .i64) .leaf],[.val .bool .leaf],mD k,[]⟩)::(uk k)
theorem LD (k:Nat):ae Tryz.prog (yp k):=ae.ev ax mixed (EX k) Hw nA k Tryz.func243 (by kernel_rfl) (fun x=>by kernel_rfl)
def xX (k:Nat):List (FuncId×aF):=(158,⟨[.val aq (.pair .leaf (.pair .leaf (.pair q3 (.pair .shr (.pair .leaf (.pair .leaf (.pair .leaf (.pair .shr uc))))))))],[.val .bool .leaf],gl k,[]⟩)::(yp k)
theorem Lt (k:Nat):ae Tryz.prog (xX k):=ae.ev ax mixed (LD k) nA nA k Tryz.func158 (by kernel_rfl) (fun x=>by kernel_rfl)
def sR (k:Nat):List (FuncId×aF):=(248,⟨[.val ab q3,.val ab q3],[.val .bool .leaf],cT k,[]⟩)::(xX k)
theorem D5 (k:Nat):ae Tryz.prog (sR k):=ae.ev ax mixed (Lt k) nA nA k Tryz.func248 (by kernel_rfl) (fun x=>by kernel_rfl)
def vl (k:Nat):List (FuncId×aF):=(313,⟨[.val ab q3],[.val .bool .leaf],eW k,[]⟩)::(sR k)
theorem HX (k:Nat):ae Tryz.prog (vl k):=ae.ev ax mixed (D5 k) nA nA k Tryz.func313 (by kernel_rfl) (fun x=>by kernel_rfl)
def Fs:Nat→Option aM:=fun|2=>some ⟨[(1,.box 3 ah (.pair .leaf (.pair .leaf (.pair uW (.pair (.sl (.sha [1])) (.pair .leaf (.pair (.sl (.sha [1])) uQ))))))),(3,.val (.int .i64) .leaf)],4⟩|_=>none
def FD:Nat→Option aM:=fun|6=>some ⟨[(1,.box 3 ah (.pair .leaf (.pair .leaf (.pair uW (.pair (.sl (.sha [1])) (.pair .leaf (.pair (.sl (.sha [1])) uQ)))))))],4⟩|_=>none
def vK (k:Nat):List (FuncId×aF):=(314,⟨[.val ah (.pair .leaf (.pair .leaf (.pair q3 (.pair .shr (.pair .leaf q7)))))],[.val .bool .leaf],lI k,[]⟩)::(vl k)
theorem HT (k:Nat):ae Tryz.prog (vK k):=ae.ev ax mixed (HX k) Fs FD k Tryz.func314 (by kernel_rfl) (fun x=>by kernel_rfl)
def yb (k:Nat):List (FuncId×aF):=(245,⟨[.val ah (.pair .leaf (.pair .leaf (.pair q3 (.pair .shr (.pair .leaf q7))))),.val (.int .i64) .leaf],[.val .bool .leaf],mQ k,[]⟩)::(vK k)
theorem L4 (k:Nat):ae Tryz.prog (yb k):=ae.ev ax mixed (HT k) nA nA k Tryz.func245 (by kernel_rfl) (fun x=>by kernel_rfl)
def sD (k:Nat):List (FuncId×aF):=(246,⟨[.val (.int .i64) .leaf],[.val (.int .i64) .leaf],ed k,[]⟩)::(yb k)
theorem C7 (k:Nat):ae Tryz.prog (sD k):=ae.ev ax mixed (L4 k) nA nA k Tryz.func246 (by kernel_rfl) (fun x=>by kernel_rfl)
def yM (k:Nat):List (FuncId×aF):=(279,⟨[.val (.sl ak) .shr,.val (.sl af) .shr],[.val (.int .i64) .leaf],mH k,[]⟩)::(sD k)
theorem Lx (k:Nat):ae Tryz.prog (yM k):=ae.ev ax mixed (C7 k) nA nA k Tryz.func279 (by kernel_rfl) (fun x=>by kernel_rfl)
def Mr:Nat→Option aM:=fun|2=>some ⟨[(1,.val (.int .i64) .leaf),(2,.box 3 ak cO),(5,.val (.int .i64) .leaf)],4⟩|_=>none
def BZ (k:Nat):List (FuncId×aF):=(357,⟨[.val ak (.pair .leaf (.pair .leaf .shr)),.val (.int .i64) .leaf],[.val (.int .i64) .leaf],pV k,[]⟩)::(yM k)
theorem OI (k:Nat):ae Tryz.prog (BZ k):=ae.ev ax mixed (Lx k) Mr nA k Tryz.func357 (by kernel_rfl) (fun x=>by kernel_rfl)
end Vg.Tryz
namespace Vg.Tryz
open Go Vg Go.Proofs
set_option linter.unusedVariables false
set_option maxRecDepth 1000000
def Hj:Nat→Option aM:=fun|2=>some ⟨[(1,.val (.sl af) (.sl (.sha [1]))),(2,.box 3 ay (.pair .leaf (.sl (.sha [1])))),(5,.val (.int .i64) .leaf)],4⟩|_=>none
def wu (k:Nat):List (FuncId×aF):=(358,⟨[.val ay (.pair .leaf .shr),.val (.sl af) .shr],[.val (.int .i64) .leaf],lK k,[]⟩)::(BZ k)
theorem Iy (k:Nat):ae Tryz.prog (wu k):=ae.ev ax mixed (OI k) Hj nA k Tryz.func358 (by kernel_rfl) (fun x=>by kernel_rfl)
def yE (k:Nat):List (FuncId×aF):=(315,⟨[.val ak (.pair .leaf (.pair .leaf .shr)),.val (.sl af) .shr],[.val ab qV,.val .bool .leaf],mW k,[]⟩)::(wu k)
theorem K3 (k:Nat):ae Tryz.prog (yE k):=ae.ev ax mixed (Iy k) nA nA k Tryz.func315 (by kernel_rfl) (fun x=>by kernel_rfl)
def sZ (k:Nat):List (FuncId×aF):=(247,⟨[.val (.sl ak) .shr,.val (.sl af) .shr],[.val ab qV,.val .bool .leaf],jv k,[]⟩)::(yE k)
theorem C6 (k:Nat):ae Tryz.prog (sZ k):=ae.ev ax mixed (K3 k) nA nA k Tryz.func247 (by kernel_rfl) (fun x=>by kernel_rfl)
def It:Nat→Option aM:=fun|4=>some ⟨[(0,.val (.sl ab) (.sl (.sha [1]))),(1,.val (.sl ab) (.sl (.sha [1]))),(5,.val (.int .i64) .leaf)],3⟩|_=>none
def xZ (k:Nat):List (FuncId×aF):=(316,⟨[.val (.sl ab) .shr,.val (.sl ab) .shr],[.val .bool .leaf],mG k,[]⟩)::(sZ k)
theorem LU (k:Nat):ae Tryz.prog (xZ k):=ae.ev ax mixed (C6 k) It nA k Tryz.func316 (by kernel_rfl) (fun x=>by kernel_rfl)
def GX:Nat→Option aM:=fun|4=>some ⟨[(2,.box 3 aE (.pair (.pair .leaf (.pair .leaf (.pair .leaf cO))) (.pair .leaf (.pair .leaf (.pair (.sl (.sha [1])) (.pair (.sl (.sha [1])) (.pair (.sl (.sha [1])) (.pair .leaf (.pair (.sl (.sha [1])) (.pair .leaf (.pair (.sl (.sha [1])) (.pair (.sl (.sha [1])) (.pair (.sl (.sha [1])) de))))))))))))),(3,.box 4 ah (.pair .leaf (.pair .leaf (.pair uW (.pair (.sl (.sha [1])) (.pair .leaf (.pair (.sl (.sha [1])) uQ))))))),(5,.val (.sl ab) (.sl (.row 5 [5] true))),(6,.val .bool .leaf),(7,.val (.int .i64) .leaf)],6⟩|_=>none
def EC:Nat→Option aM:=fun|10=>some ⟨[(2,.box 3 aE (.pair (.pair .leaf (.pair .leaf (.pair .leaf cO))) (.pair .leaf (.pair .leaf (.pair (.sl (.sha [1])) (.pair (.sl (.sha [1])) (.pair (.sl (.sha [1])) (.pair .leaf (.pair (.sl (.sha [1])) (.pair .leaf (.pair (.sl (.sha [1])) (.pair (.sl (.sha [1])) (.pair (.sl (.sha [1])) de))))))))))))),(3,.box 4 ah (.pair .leaf (.pair .leaf (.pair uW (.pair (.sl (.sha [1])) (.pair .leaf (.pair (.sl (.sha [1])) uQ))))))),(5,.val (.sl ab) (.sl (.row 5 [5] true))),(6,.val .bool .leaf)],6⟩|_=>none
def wG (k:Nat):List (FuncId×aF):=(250,⟨[.val aE (.pair (.pair .leaf (.pair .leaf q0)) (.pair .leaf (.pair .leaf (.pair .shr (.pair .shr (.pair .shr (.pair .leaf (.pair .shr (.pair .leaf (.pair .shr je)))))))))),.val ah (.pair .leaf (.pair .leaf (.pair q3 (.pair .shr (.pair .leaf q7)))))],[.val .bool .leaf],eV k,[]⟩)::(xZ k)
theorem Jf (k:Nat):ae Tryz.prog (wG k):=ae.ev ax mixed (LU k) GX EC k Tryz.func250 (by kernel_rfl) (fun x=>by kernel_rfl)
def FL:Nat→Option aM:=fun|26=>some ⟨[(2,.box 3 aE (.pair (.pair .leaf (.pair .leaf (.pair .leaf cO))) (.pair .leaf (.pair .leaf (.pair (.sl (.sha [1])) (.pair (.sl (.sha [1])) (.pair (.sl (.sha [1])) (.pair .leaf (.pair (.sl (.sha [1])) (.pair .leaf (.pair (.sl (.sha [1])) (.pair (.sl (.sha [1])) (.pair (.sl (.sha [1])) de))))))))))))),(5,.box 4 ah (.pair .leaf (.pair .leaf (.pair Uk (.pair (.sl (.sha [1,2])) (.pair .leaf (.pair (.sl (.sha [1,2])) (.pair (.sl (.sha [1,2])) (.pair .leaf .leaf))))))))),(6,.box 5 aq (.pair .leaf (.pair .leaf (.pair Uk (.pair (.sl (.sha [1,2])) (.pair .leaf (.pair .leaf (.pair .leaf (.pair (.sl (.sha [1,2])) (.pair .leaf (.pair .leaf (.pair .leaf .leaf))))))))))))],6⟩|_=>none
def wR (k:Nat):List (FuncId×aF):=(159,⟨[.val aE (.pair (.pair .leaf (.pair .leaf q0)) (.pair .leaf (.pair .leaf (.pair .shr (.pair .shr (.pair .shr (.pair .leaf (.pair .shr (.pair .leaf (.pair .shr je)))))))))),.val (.int .i64) .leaf],[.val .bool .leaf],lB k,[]⟩)::(wG k)
theorem HI (k:Nat):ae Tryz.prog (wR k):=ae.ev ax mixed (Jf k) nA FL k Tryz.func159 (by kernel_rfl) (fun x=>by kernel_rfl)
def sT (k:Nat):List (FuncId×aF):=(251,⟨[.val ah (.pair .leaf (.pair .leaf (.pair q3 (.pair .shr (.pair .leaf q7))))),.val (.int .i64) .leaf],[.val (.int .i64) .leaf],js k,[]⟩)::(wR k)
theorem CY (k:Nat):ae Tryz.prog (sT k):=ae.ev ax mixed (HI k) nA nA k Tryz.func251 (by kernel_rfl) (fun x=>by kernel_rfl)
def qg (k:Nat):List (FuncId×aF):=(252,⟨[.val ah (.pair .leaf (.pair .leaf (.pair q3 (.pair .shr (.pair .leaf q7)))))],[.val .bool .leaf],gE k,[]⟩)::(sT k)
theorem Ac (k:Nat):ae Tryz.prog (qg k):=ae.ev ax mixed (CY k) nA nA k Tryz.func252 (by kernel_rfl) (fun x=>by kernel_rfl)
def CU:Nat→Option aM:=fun|3=>some ⟨[(1,.box 3 aE (.pair (.pair .leaf (.pair .leaf (.pair .leaf cO))) (.pair .leaf (.pair .leaf (.pair (.sl (.sha [1])) (.pair (.sl (.sha [1])) (.pair (.sl (.sha [1])) (.pair .leaf (.pair (.sl (.sha [1])) (.pair .leaf (.pair (.sl (.sha [1])) (.pair (.sl (.sha [1])) (.pair (.sl (.sha [1])) de))))))))))))),(3,.val (.sl (.int .i64)) (.sl (.row 4 [] true))),(4,.val (.int .i64) .leaf)],5⟩|8=>some ⟨[(1,.box 3 aE (.pair (.pair .leaf (.pair .leaf (.pair .leaf cO))) (.pair .leaf (.pair .leaf (.pair (.sl (.sha [1])) (.pair (.sl (.sha [1])) (.pair (.sl (.sha [1])) (.pair .leaf (.pair (.sl (.sha [1])) (.pair .leaf (.pair (.sl (.sha [1])) (.pair (.sl (.sha [1])) (.pair (.sl (.sha [1])) de))))))))))))),(3,.val (.sl (.int .i64)) (.sl (.row 4 [] true))),(5,.val (.int .i64) .leaf),(6,.val (.int .i64) .leaf)],5⟩|20=>some ⟨[(1,.box 3 aE (.pair (.pair .leaf (.pair .leaf (.pair .leaf cO))) (.pair .leaf (.pair .leaf (.pair (.sl (.sha [1])) (.pair (.sl (.sha [1])) (.pair (.sl (.sha [1])) (.pair .leaf (.pair (.sl (.sha [1])) (.pair .leaf (.pair (.sl (.sha [1])) (.pair (.sl (.sha [1])) (.pair (.sl (.sha [1])) de))))))))))))),(3,.val (.sl (.int .i64)) (.sl (.row 4 [] true))),(5,.val (.int .i64) .leaf),(8,.val (.int .i64) .leaf)],5⟩|_=>none
def D4:Nat→Option aM:=fun|6=>some ⟨[(1,.box 3 aE (.pair (.pair .leaf (.pair .leaf (.pair .leaf cO))) (.pair .leaf (.pair .leaf (.pair (.sl (.sha [1])) (.pair (.sl (.sha [1])) (.pair (.sl (.sha [1])) (.pair .leaf (.pair (.sl (.sha [1])) (.pair .leaf (.pair (.sl (.sha [1])) (.pair (.sl (.sha [1])) (.pair (.sl (.sha [1])) de))))))))))))),(3,.val (.sl (.int .i64)) (.sl (.row 4 [] true)))],5⟩|15=>some ⟨[(1,.box 3 aE (.pair (.pair .leaf (.pair .leaf (.pair .leaf cO))) (.pair .leaf (.pair .leaf (.pair (.sl (.sha [1])) (.pair (.sl (.sha [1])) (.pair (.sl (.sha [1])) (.pair .leaf (.pair (.sl (.sha [1])) (.pair .leaf (.pair (.sl (.sha [1])) (.pair (.sl (.sha [1])) (.pair (.sl (.sha [1])) de))))))))))))),(3,.val (.sl (.int .i64)) (.sl (.row 4 [] true))),(5,.val (.int .i64) .leaf),(6,.val (.int .i64) .leaf)],5⟩|19=>some ⟨[(1,.box 3 aE (.pair (.pair .leaf (.pair .leaf (.pair .leaf cO))) (.pair .leaf (.pair .leaf (.pair (.sl (.sha [1])) (.pair (.sl (.sha [1])) (.pair (.sl (.sha [1])) (.pair .leaf (.pair (.sl (.sha [1])) (.pair .leaf (.pair (.sl (.sha [1])) (.pair (.sl (.sha [1])) (.pair (.sl (.sha [1])) de))))))))))))),(3,.val (.sl (.int .i64)) (.sl (.row 4 [] true))),(5,.val (.int .i64) .leaf)],5⟩|24=>some ⟨[(1,.box 3 aE (.pair (.pair .leaf (.pair .leaf (.pair .leaf cO))) (.pair .leaf (.pair .leaf (.pair (.sl (.sha [1])) (.pair (.sl (.sha [1])) (.pair (.sl (.sha [1])) (.pair .leaf (.pair (.sl (.sha [1])) (.pair .leaf (.pair (.sl (.sha [1])) (.pair (.sl (.sha [1])) (.pair (.sl (.sha [1])) de))))))))))))),(5,.val (.int .i64) .leaf)],4⟩|_=>none
def ud (k:Nat):List (FuncId×aF):=(160,⟨[.val aE (.pair (.pair .leaf (.pair .leaf q0)) (.pair .leaf (.pair .leaf (.pair .shr (.pair .shr (.pair .shr (.pair .leaf (.pair .shr (.pair .leaf (.pair .shr je))))))))))],[.val .bool .leaf],gB k,[]⟩)::(qg k)
theorem GL (k:Nat):ae Tryz.prog (ud k):=ae.ev ax mixed (Ac k) CU D4 k Tryz.func160 (by kernel_rfl) (fun x=>by kernel_rfl)
def L1:Nat→Option aM:=fun|2=>some ⟨[(0,.val (.sl .str) (.sl (.sha [1]))),(1,.val .str .leaf),(5,.val (.int .i64) .leaf)],3⟩|_=>none
def AB (k:Nat):List (FuncId×aF):=(369,⟨[.val (.sl .str) .shr,.val .str .leaf],[.val .bool .leaf],oA k,[]⟩)::(ud k)
theorem Nl (k:Nat):ae Tryz.prog (AB k):=ae.ev ax mixed (GL k) L1 nA k Tryz.func369 (by kernel_rfl) (fun x=>by kernel_rfl)
def F9:Nat→Option aM:=fun|3=>some ⟨[(0,.val (.sl af) (.sl (.sha [1]))),(1,.val (.sl .str) (.sl (.sha [1]))),(5,.val (.sl af) (.sl (.row 3 [] true))),(6,.val (.int .i64) .leaf)],4⟩|_=>none
def wb (k:Nat):List (FuncId×aF):=(342,⟨[.val (.sl af) .shr,.val (.sl .str) .shr],[.val (.sl af) .own],pr k,[]⟩)::(AB k)
theorem Iu (k:Nat):ae Tryz.prog (wb k):=ae.ev ax mixed (Nl k) F9 nA k Tryz.func342 (by kernel_rfl) (fun x=>by kernel_rfl)
def zM (k:Nat):List (FuncId×aF):=(286,⟨[.val ab q3,.val (.sl .str) .shr],[.val (.sl af) .own],oh k,[]⟩)::(wb k)
theorem MR (k:Nat):ae Tryz.prog (zM k):=ae.ev ax mixed (Iu k) nA nA k Tryz.func286 (by kernel_rfl) (fun x=>by kernel_rfl)
def Fi:Nat→Option aM:=fun|2=>some ⟨[(1,.val (.sl .str) (.sl (.sha [1]))),(2,.box 3 aj (.pair .leaf (.pair (.sl (.sha [1])) cO))),(5,.val (.int .i64) .leaf)],4⟩|_=>none
def Fl:Nat→Option aM:=fun|6=>some ⟨[(2,.box 3 aj (.pair .leaf (.pair (.sl (.sha [1])) cO)))],4⟩|_=>none
def wT (k:Nat):List (FuncId×aF):=(319,⟨[.val aj (.pair .leaf q4),.val (.sl .str) .shr],[.val .bool .leaf],lr k,[]⟩)::(zM k)
theorem JL (k:Nat):ae Tryz.prog (wT k):=ae.ev ax mixed (MR k) Fi Fl k Tryz.func319 (by kernel_rfl) (fun x=>by kernel_rfl)
def Db:Nat→Option aM:=fun|2=>some ⟨[(0,.val (.sl aj) (.sl (.sha [1]))),(1,.val (.sl .str) (.sl (.sha [1]))),(5,.val (.int .i64) .leaf)],3⟩|7=>some ⟨[(0,.val (.sl aj) (.sl (.sha [1]))),(1,.val (.sl .str) (.sl (.sha [1]))),(5,.val (.int .i64) .leaf),(6,.val (.int .i64) .leaf)],3⟩|_=>none
def DU:Nat→Option aM:=fun|11=>some ⟨[(0,.val (.sl aj) (.sl (.sha [1])))],3⟩|_=>none
def ub (k:Nat):List (FuncId×aF):=(253,⟨[.val (.sl aj) .shr,.val (.sl .str) .shr],[.val .bool .leaf],kf k,[]⟩)::(wT k)
theorem FU (k:Nat):ae Tryz.prog (ub k):=ae.ev ax mixed (JL k) Db DU k Tryz.func253 (by kernel_rfl) (fun x=>by kernel_rfl)
def xW (k:Nat):List (FuncId×aF):=(293,⟨[.val aC (.pair .leaf .leaf),.val aC (.pair .leaf .leaf)],[.val .bool .leaf],mN k,[]⟩)::(ub k)
theorem LX (k:Nat):ae Tryz.prog (xW k):=ae.ev ax mixed (FU k) nA nA k Tryz.func293 (by kernel_rfl) (fun x=>by kernel_rfl)
def Io:Nat→Option aM:=fun|2=>some ⟨[(0,.val (.sl aC) (.sl (.sha [1]))),(3,.val (.int .i64) .leaf)],3⟩|_=>none
def Ik:Nat→Option aM:=fun|6=>some ⟨[(0,.val (.sl aC) (.sl (.sha [1])))],3⟩|_=>none
def yP (k:Nat):List (FuncId×aF):=(254,⟨[.val (.sl aC) .shr],[.val .bool .leaf],mE k,[]⟩)::(xW k)
theorem LG (k:Nat):ae Tryz.prog (yP k):=ae.ev ax mixed (LX k) Io Ik k Tryz.func254 (by kernel_rfl) (fun x=>by kernel_rfl)
def vN (k:Nat):List (FuncId×aF):=(320,⟨[.val aj (.pair .leaf q4),.val (.int .i64) .leaf,.val (.int .i64) .leaf],[.val (.int .i64) .leaf],pE k,[]⟩)::(yP k)
theorem Ig (k:Nat):ae Tryz.prog (vN k):=ae.ev ax mixed (LG k) nA nA k Tryz.func320 (by kernel_rfl) (fun x=>by kernel_rfl)
def Ey (k:Nat):List (FuncId×aF):=(255,⟨[.val bC (.pair .leaf (.pair .leaf q0)),.val aj (.pair .leaf q4)],[.val (.int .i64) .leaf],ry k,[]⟩)::(vN k)
theorem P5 (k:Nat):ae Tryz.prog (Ey k):=ae.ev ax mixed (Ig k) nA nA k Tryz.func255 (by kernel_rfl) (fun x=>by kernel_rfl)
def BS:Nat→Option aM:=fun|4=>some ⟨[(1,.box 3 aE (.pair (.pair .leaf (.pair .leaf (.pair .leaf cO))) (.pair .leaf (.pair .leaf (.pair (.sl (.sha [1])) (.pair (.sl (.sha [1])) (.pair (.sl (.sha [1])) (.pair .leaf (.pair (.sl (.sha [1])) (.pair .leaf (.pair (.sl (.sha [1])) (.pair (.sl (.sha [1])) (.pair (.sl (.sha [1])) de))))))))))))),(3,.val (.int .i64) .leaf)],4⟩|9=>some ⟨[(1,.box 3 aE (.pair (.pair .leaf (.pair .leaf (.pair .leaf cO))) (.pair .leaf (.pair .leaf (.pair (.sl (.sha [1])) (.pair (.sl (.sha [1])) (.pair (.sl (.sha [1])) (.pair .leaf (.pair (.sl (.sha [1])) (.pair .leaf (.pair (.sl (.sha [1])) (.pair (.sl (.sha [1])) (.pair (.sl (.sha [1])) de))))))))))))),(3,.val (.int .i64) .leaf),(4,.val (.int .i64) .leaf)],4⟩|14=>some ⟨[(1,.box 3 aE (.pair (.pair .leaf (.pair .leaf (.pair .leaf cO))) (.pair .leaf (.pair .leaf (.pair (.sl (.sha [1])) (.pair (.sl (.sha [1])) (.pair (.sl (.sha [1])) (.pair .leaf (.pair (.sl (.sha [1])) (.pair .leaf (.pair (.sl (.sha [1])) (.pair (.sl (.sha [1])) (.pair (.sl (.sha [1])) de))))))))))))),(5,.val (.int .i64) .leaf)],4⟩|19=>some ⟨[(1,.box 3 aE (.pair (.pair .leaf (.pair .leaf (.pair .leaf cO))) (.pair .leaf (.pair .leaf (.pair (.sl (.sha [1])) (.pair (.sl (.sha [1])) (.pair (.sl (.sha [1])) (.pair .leaf (.pair (.sl (.sha [1])) (.pair .leaf (.pair (.sl (.sha [1])) (.pair (.sl (.sha [1])) (.pair (.sl (.sha [1])) de))))))))))))),(5,.val (.int .i64) .leaf),(6,.box 4 aj (.pair .leaf (.pair (.sl (.sha [1,2])) I8))),(7,.val .bool .leaf),(8,.val (.int .i64) .leaf)],5⟩|_=>none
def BH:Nat→Option aM:=fun|13=>some ⟨[(1,.box 3 aE (.pair (.pair .leaf (.pair .leaf (.pair .leaf cO))) (.pair .leaf (.pair .leaf (.pair (.sl (.sha [1])) (.pair (.sl (.sha [1])) (.pair (.sl (.sha [1])) (.pair .leaf (.pair (.sl (.sha [1])) (.pair .leaf (.pair (.sl (.sha [1])) (.pair (.sl (.sha [1])) (.pair (.sl (.sha [1])) de)))))))))))))],4⟩|22=>some ⟨[(1,.box 3 aE (.pair (.pair .leaf (.pair .leaf (.pair .leaf cO))) (.pair .leaf (.pair .leaf (.pair (.sl (.sha [1])) (.pair (.sl (.sha [1])) (.pair (.sl (.sha [1])) (.pair .leaf (.pair (.sl (.sha [1])) (.pair .leaf (.pair (.sl (.sha [1])) (.pair (.sl (.sha [1])) (.pair (.sl (.sha [1])) de))))))))))))),(5,.val (.int .i64) .leaf),(6,.box 4 aj (.pair .leaf (.pair (.sl (.sha [1,2])) I8))),(7,.val .bool .leaf)],5⟩|_=>none
def td (k:Nat):List (FuncId×aF):=(161,⟨[.val aE (.pair (.pair .leaf (.pair .leaf q0)) (.pair .leaf (.pair .leaf (.pair .shr (.pair .shr (.pair .shr (.pair .leaf (.pair .shr (.pair .leaf (.pair .shr je))))))))))],[.val .bool .leaf],ga k,[]⟩)::(Ey k)
theorem C9 (k:Nat):ae Tryz.prog (td k):=ae.ev ax mixed (P5 k) BS BH k Tryz.func161 (by kernel_rfl) (fun x=>by kernel_rfl)
def GN:Nat→Option aM:=fun|4=>some ⟨[(1,.box 3 aE (.pair (.pair .leaf (.pair .leaf (.pair .leaf cO))) (.pair .leaf (.pair .leaf (.pair (.sl (.sha [1])) (.pair (.sl (.sha [1])) (.pair (.sl (.sha [1])) (.pair .leaf (.pair (.sl (.sha [1])) (.pair .leaf (.pair (.sl (.sha [1])) (.pair (.sl (.sha [1])) (.pair (.sl (.sha [1])) de))))))))))))),(3,.val (.int .i64) .leaf)],4⟩|9=>some ⟨[(1,.box 3 aE (.pair (.pair .leaf (.pair .leaf (.pair .leaf cO))) (.pair .leaf (.pair .leaf (.pair (.sl (.sha [1])) (.pair (.sl (.sha [1])) (.pair (.sl (.sha [1])) (.pair .leaf (.pair (.sl (.sha [1])) (.pair .leaf (.pair (.sl (.sha [1])) (.pair (.sl (.sha [1])) (.pair (.sl (.sha [1])) de))))))))))))),(4,.val (.int .i64) .leaf)],4⟩|15=>some ⟨[(1,.box 3 aE (.pair (.pair .leaf (.pair .leaf (.pair .leaf cO))) (.pair .leaf (.pair .leaf (.pair (.sl (.sha [1])) (.pair (.sl (.sha [1])) (.pair (.sl (.sha [1])) (.pair .leaf (.pair (.sl (.sha [1])) (.pair .leaf (.pair (.sl (.sha [1])) (.pair (.sl (.sha [1])) (.pair (.sl (.sha [1])) de))))))))))))),(6,.val (.int .i64) .leaf)],4⟩|_=>none
def GJ:Nat→Option aM:=fun|8=>some ⟨[(1,.box 3 aE (.pair (.pair .leaf (.pair .leaf (.pair .leaf cO))) (.pair .leaf (.pair .leaf (.pair (.sl (.sha [1])) (.pair (.sl (.sha [1])) (.pair (.sl (.sha [1])) (.pair .leaf (.pair (.sl (.sha [1])) (.pair .leaf (.pair (.sl (.sha [1])) (.pair (.sl (.sha [1])) (.pair (.sl (.sha [1])) de)))))))))))))],4⟩|14=>some ⟨[(1,.box 3 aE (.pair (.pair .leaf (.pair .leaf (.pair .leaf cO))) (.pair .leaf (.pair .leaf (.pair (.sl (.sha [1])) (.pair (.sl (.sha [1])) (.pair (.sl (.sha [1])) (.pair .leaf (.pair (.sl (.sha [1])) (.pair .leaf (.pair (.sl (.sha [1])) (.pair (.sl (.sha [1])) (.pair (.sl (.sha [1])) de)))))))))))))],4⟩|19=>some ⟨[(1,.box 3 aE (.pair (.pair .leaf (.pair .leaf (.pair .leaf cO))) (.pair .leaf (.pair .leaf (.pair (.sl (.sha [1])) (.pair (.sl (.sha [1])) (.pair (.sl (.sha [1])) (.pair .leaf (.pair (.sl (.sha [1])) (.pair .leaf (.pair (.sl (.sha [1])) (.pair (.sl (.sha [1])) (.pair (.sl (.sha [1])) de)))))))))))))],4⟩|_=>none
def wz (k:Nat):List (FuncId×aF):=(76,⟨[.val aE (.pair (.pair .leaf (.pair .leaf q0)) (.pair .leaf (.pair .leaf (.pair .shr (.pair .shr (.pair .shr (.pair .leaf (.pair .shr (.pair .leaf (.pair .shr je))))))))))],[.val .bool .leaf],lR k,[]⟩)::(td k)
theorem HY (k:Nat):ae Tryz.prog (wz k):=ae.ev ax mixed (C9 k) GN GJ k Tryz.func76 (by kernel_rfl) (fun x=>by kernel_rfl)
def Cy (k:Nat):List (FuncId×aF):=(78,⟨[.val aE (.pair (.pair .leaf (.pair .leaf q0)) (.pair .leaf (.pair .leaf (.pair .shr (.pair .shr (.pair .shr (.pair .leaf (.pair .shr (.pair .leaf (.pair .shr je)))))))))),.val (.int .i64) .leaf],[.val .bool .leaf],pQ k,[]⟩)::(wz k)
theorem OE (k:Nat):ae Tryz.prog (Cy k):=ae.ev ax mixed (HY k) nA nA k Tryz.func78 (by kernel_rfl) (fun x=>by kernel_rfl)
def tq (k:Nat):List (FuncId×aF):=(162,⟨[.io aE (.pair (.pair .leaf (.pair .leaf vc)) (.pair .leaf (.pair .leaf (.pair .own (.pair .own (.pair .own (.pair .leaf (.pair .own (.pair .leaf (.pair .own Cu)))))))))),.val (.int .i64) .leaf,.val ah (.pair .leaf (.pair .leaf (.pair q3 (.pair .shr (.pair .leaf q7)))))],[],oS k,[(0,(dA 14 12))]⟩)::(Cy k)
theorem FR (k:Nat):ae Tryz.prog (tq k):=ae.ev ax mixed (OE k) nA nA k Tryz.func162 (by kernel_rfl) (fun x=>by kernel_rfl)
def tE (k:Nat):List (FuncId×aF):=(79,⟨[.io aE (.pair (.pair .leaf (.pair .leaf vc)) (.pair .leaf (.pair .leaf (.pair .own (.pair .own (.pair .own (.pair .leaf (.pair .own (.pair .leaf (.pair .own Cu)))))))))),.val (.int .i64) .leaf,.val ah (.pair .leaf (.pair .leaf (.pair q3 (.pair .shr (.pair .leaf q7)))))],[],kh k,[]⟩)::(tq k)
theorem Ez (k:Nat):ae Tryz.prog (tE k):=ae.ev ax mixed (FR k) nA nA k Tryz.func79 (by kernel_rfl) (fun x=>by kernel_rfl)
def Cz (k:Nat):List (FuncId×aF):=(22,⟨[.val aE (.pair (.pair .leaf (.pair .leaf q0)) (.pair .leaf (.pair .leaf (.pair .shr (.pair .shr (.pair .shr (.pair .leaf (.pair .shr (.pair .leaf (.pair .shr je)))))))))),.val (.int .i64) .leaf],[.val aE (.pair (.pair .leaf (.pair .leaf vc)) (.pair .leaf (.pair .leaf (.pair .own (.pair .own (.pair .own (.pair .leaf (.pair .own (.pair .leaf (.pair .own Cu)))))))))),.val .bool .leaf],pT k,[]⟩)::(tE k)
theorem OT (k:Nat):ae Tryz.prog (Cz k):=ae.ev ax mixed (Ez k) nA nA k Tryz.func22 (by kernel_rfl) (fun x=>by kernel_rfl)
def uE (k:Nat):List (FuncId×aF):=(163,⟨[.val bC (.pair .leaf (.pair .leaf q0))],[.val bC (.pair .leaf (.pair .leaf vc))],kj k,[]⟩)::(Cz k)
theorem E8 (k:Nat):ae Tryz.prog (uE k):=ae.ev ax mixed (OT k) nA nA k Tryz.func163 (by kernel_rfl) (fun x=>by kernel_rfl)
end Vg.Tryz
namespace Vg.Tryz
open Go Vg Go.Proofs
set_option linter.unusedVariables false
set_option maxRecDepth 1000000
def vm (k:Nat):List (FuncId×aF):=(190,⟨[.val (.sl af) .shr],[.val (.sl af) .own],en k,[]⟩)::(uE k)
theorem ID (k:Nat):ae Tryz.prog (vm k):=ae.ev ax mixed (E8 k) nA nA k Tryz.func190 (by kernel_rfl) (fun x=>by kernel_rfl)
def sa (k:Nat):List (FuncId×aF):=(196,⟨[.val ab q3],[.val ab qV],dG k,[]⟩)::(vm k)
theorem DV (k:Nat):ae Tryz.prog (sa k):=ae.ev ax mixed (ID k) nA nA k Tryz.func196 (by kernel_rfl) (fun x=>by kernel_rfl)
def Ad:Nat→Option aM:=fun|3=>some ⟨[(3,.val (.sl ab) (.sl (.row 3 [3] true))),(6,.val (.sl ab) (.sl (.sha [1]))),(7,.val (.int .i64) .leaf),(8,.val (.int .i64) .leaf)],4⟩|_=>none
def qR (k:Nat):List (FuncId×aF):=(166,⟨[.val (.sl ab) .shr],[.val (.sl ab) .own],cw k,[]⟩)::(sa k)
theorem Bf (k:Nat):ae Tryz.prog (qR k):=ae.ev ax mixed (DV k) Ad nA k Tryz.func166 (by kernel_rfl) (fun x=>by kernel_rfl)
def sS (k:Nat):List (FuncId×aF):=(321,⟨[.val ay (.pair .leaf .shr)],[.val ay (.pair .leaf .own)],jk k,[]⟩)::(qR k)
theorem De (k:Nat):ae Tryz.prog (sS k):=ae.ev ax mixed (Bf k) nA nA k Tryz.func321 (by kernel_rfl) (fun x=>by kernel_rfl)
def CJ:Nat→Option aM:=fun|3=>some ⟨[(1,.box 3 ak cO),(2,.box 4 ak yF),(3,.box 5 ak Cc),(12,.val (.sl ay) (.sl (.sha [1]))),(13,.val (.int .i64) .leaf),(14,.val (.int .i64) .leaf)],7⟩|_=>none
def tN (k:Nat):List (FuncId×aF):=(256,⟨[.val ak (.pair .leaf (.pair .leaf .shr))],[.val ak (.pair .leaf (.pair .leaf .own))],gz k,[]⟩)::(sS k)
theorem Gi (k:Nat):ae Tryz.prog (tN k):=ae.ev ax mixed (De k) CJ nA k Tryz.func256 (by kernel_rfl) (fun x=>by kernel_rfl)
def Bg:Nat→Option aM:=fun|3=>some ⟨[(3,.val (.sl ak) (.sl (.row 3 [3] true))),(6,.val (.sl ak) (.sl (.sha [1]))),(7,.val (.int .i64) .leaf),(8,.val (.int .i64) .leaf)],4⟩|_=>none
def sj (k:Nat):List (FuncId×aF):=(164,⟨[.val (.sl ak) .shr],[.val (.sl ak) .own],nj k,[]⟩)::(tN k)
theorem Eb (k:Nat):ae Tryz.prog (sj k):=ae.ev ax mixed (Gi k) Bg nA k Tryz.func164 (by kernel_rfl) (fun x=>by kernel_rfl)
def vM (k:Nat):List (FuncId×aF):=(257,⟨[.val aU (.pair .shr .leaf)],[.val aU (.pair .own .leaf)],iq k,[]⟩)::(sj k)
theorem Iz (k:Nat):ae Tryz.prog (vM k):=ae.ev ax mixed (Eb k) nA nA k Tryz.func257 (by kernel_rfl) (fun x=>by kernel_rfl)
def DE:Nat→Option aM:=fun|3=>some ⟨[(3,.val (.sl aU) (.sl (.row 3 [3] true))),(6,.val (.sl aU) (.sl (.sha [1]))),(7,.val (.int .i64) .leaf),(8,.val (.int .i64) .leaf)],4⟩|_=>none
def uu (k:Nat):List (FuncId×aF):=(165,⟨[.val (.sl aU) .shr],[.val (.sl aU) .own],ow k,[]⟩)::(vM k)
theorem Ex (k:Nat):ae Tryz.prog (uu k):=ae.ev ax mixed (Iz k) DE nA k Tryz.func165 (by kernel_rfl) (fun x=>by kernel_rfl)
def sX (k:Nat):List (FuncId×aF):=(258,⟨[.val aj (.pair .leaf q4)],[.val aj (.pair .leaf TO)],gj k,[]⟩)::(uu k)
theorem Ds (k:Nat):ae Tryz.prog (sX k):=ae.ev ax mixed (Ex k) nA nA k Tryz.func258 (by kernel_rfl) (fun x=>by kernel_rfl)
def zH:Nat→Option aM:=fun|3=>some ⟨[(3,.val (.sl aj) (.sl (.row 3 [3] true))),(6,.val (.sl aj) (.sl (.sha [1]))),(7,.val (.int .i64) .leaf),(8,.val (.int .i64) .leaf)],4⟩|_=>none
def qO (k:Nat):List (FuncId×aF):=(167,⟨[.val (.sl aj) .shr],[.val (.sl aj) .own],lZ k,[]⟩)::(sX k)
theorem BI (k:Nat):ae Tryz.prog (qO k):=ae.ev ax mixed (Ds k) zH nA k Tryz.func167 (by kernel_rfl) (fun x=>by kernel_rfl)
def qP (k:Nat):List (FuncId×aF):=(168,⟨[.val (.sl aC) .shr],[.val (.sl aC) .own],ic k,[]⟩)::(qO k)
theorem A9 (k:Nat):ae Tryz.prog (qP k):=ae.ev ax mixed (BI k) nA nA k Tryz.func168 (by kernel_rfl) (fun x=>by kernel_rfl)
def sM (k:Nat):List (FuncId×aF):=(169,⟨[.val aN q6],[.val aN TU],jx k,[]⟩)::(qP k)
theorem Ee (k:Nat):ae Tryz.prog (sM k):=ae.ev ax mixed (A9 k) nA nA k Tryz.func169 (by kernel_rfl) (fun x=>by kernel_rfl)
def tW (k:Nat):List (FuncId×aF):=(170,⟨[.val ah (.pair .leaf (.pair .leaf (.pair q3 (.pair .shr (.pair .leaf q7)))))],[.val ah (.pair .leaf (.pair .leaf (.pair qV (.pair .own (.pair .leaf S9)))))],kq k,[]⟩)::(sM k)
theorem E0 (k:Nat):ae Tryz.prog (tW k):=ae.ev ax mixed (Ee k) nA nA k Tryz.func170 (by kernel_rfl) (fun x=>by kernel_rfl)
def ug (k:Nat):List (FuncId×aF):=(171,⟨[.val aq (.pair .leaf (.pair .leaf (.pair q3 (.pair .shr (.pair .leaf (.pair .leaf (.pair .leaf (.pair .shr uc))))))))],[.val aq (.pair .leaf (.pair .leaf (.pair qV (.pair .own (.pair .leaf (.pair .leaf (.pair .leaf (.pair .own uc))))))))],ku k,[]⟩)::(tW k)
theorem E6 (k:Nat):ae Tryz.prog (ug k):=ae.ev ax mixed (E0 k) nA nA k Tryz.func171 (by kernel_rfl) (fun x=>by kernel_rfl)
def Bu:Nat→Option aM:=fun|6=>some ⟨[(1,.box 3 aE (.pair (.pair .leaf (.pair .leaf (.pair .leaf JE))) (.pair .leaf (.pair .leaf (.pair (.sl (.row 5 [5] true)) (.pair (.sl (.row 6 [6] true)) (.pair (.sl (.row 7 [7] true)) (.pair .leaf (.pair (.sl (.row 8 [8] true)) (.pair .leaf (.pair (.sl (.row 9 [9] true)) (.pair (.sl (.sha [1])) (.pair (.sl (.row 10 [10] true)) de))))))))))))),(2,.box 11 aE (.pair (.pair .leaf (.pair .leaf (.pair .leaf yF))) (.pair .leaf (.pair .leaf (.pair (.sl (.sha [])) (.pair (.sl (.sha [])) (.pair (.sl (.sha [])) (.pair .leaf (.pair (.sl (.sha [])) (.pair .leaf (.pair (.sl (.sha [])) (.pair (.sl (.sha [])) Cv)))))))))))),(3,.val (.sl aN) (.sl (.row 12 [12] true))),(41,.val (.sl aN) (.sl (.sha [1]))),(42,.val (.int .i64) .leaf),(43,.val (.int .i64) .leaf)],13⟩|12=>some ⟨[(1,.box 3 aE (.pair (.pair .leaf (.pair .leaf (.pair .leaf JE))) (.pair .leaf (.pair .leaf (.pair (.sl (.row 5 [5] true)) (.pair (.sl (.row 6 [6] true)) (.pair (.sl (.row 7 [7] true)) (.pair .leaf (.pair (.sl (.row 8 [8] true)) (.pair .leaf (.pair (.sl (.row 9 [9] true)) (.pair (.sl (.sha [1])) (.pair (.sl (.row 10 [10] true)) de))))))))))))),(2,.box 11 aE (.pair (.pair .leaf (.pair .leaf (.pair .leaf yF))) (.pair .leaf (.pair .leaf (.pair (.sl (.sha [])) (.pair (.sl (.sha [])) (.pair (.sl (.sha [])) (.pair .leaf (.pair (.sl (.sha [])) (.pair .leaf (.pair (.sl (.sha [])) (.pair (.sl (.sha [])) Cv)))))))))))),(3,.val (.sl aN) (.sl (.row 12 [12] true))),(6,.val (.sl ah) (.sl (.row 13 [13] true))),(54,.val (.sl ah) (.sl (.sha [1]))),(55,.val (.int .i64) .leaf),(56,.val (.int .i64) .leaf)],14⟩|18=>some ⟨[(1,.box 3 aE (.pair (.pair .leaf (.pair .leaf (.pair .leaf JE))) (.pair .leaf (.pair .leaf (.pair (.sl (.row 5 [5] true)) (.pair (.sl (.row 6 [6] true)) (.pair (.sl (.row 7 [7] true)) (.pair .leaf (.pair (.sl (.row 8 [8] true)) (.pair .leaf (.pair (.sl (.row 9 [9] true)) (.pair (.sl (.sha [1])) (.pair (.sl (.row 10 [10] true)) de))))))))))))),(2,.box 11 aE (.pair (.pair .leaf (.pair .leaf (.pair .leaf yF))) (.pair .leaf (.pair .leaf (.pair (.sl (.sha [])) (.pair (.sl (.sha [])) (.pair (.sl (.sha [])) (.pair .leaf (.pair (.sl (.sha [])) (.pair .leaf (.pair (.sl (.sha [])) (.pair (.sl (.sha [])) Cv)))))))))))),(3,.val (.sl aN) (.sl (.row 12 [12] true))),(6,.val (.sl ah) (.sl (.row 13 [13] true))),(9,.val (.sl aq) (.sl (.row 14 [14] true))),(67,.val (.sl aq) (.sl (.sha [1]))),(68,.val (.int .i64) .leaf),(69,.val (.int .i64) .leaf)],15⟩|_=>none
def Bz:Nat→Option aM:=fun|10=>some ⟨[(1,.box 3 aE (.pair (.pair .leaf (.pair .leaf (.pair .leaf JE))) (.pair .leaf (.pair .leaf (.pair (.sl (.row 5 [5] true)) (.pair (.sl (.row 6 [6] true)) (.pair (.sl (.row 7 [7] true)) (.pair .leaf (.pair (.sl (.row 8 [8] true)) (.pair .leaf (.pair (.sl (.row 9 [9] true)) (.pair (.sl (.sha [1])) (.pair (.sl (.row 10 [10] true)) de))))))))))))),(2,.box 11 aE (.pair (.pair .leaf (.pair .leaf (.pair .leaf yF))) (.pair .leaf (.pair .leaf (.pair (.sl (.sha [])) (.pair (.sl (.sha [])) (.pair (.sl (.sha [])) (.pair .leaf (.pair (.sl (.sha [])) (.pair .leaf (.pair (.sl (.sha [])) (.pair (.sl (.sha [])) Cv)))))))))))),(3,.val (.sl aN) (.sl (.row 12 [12] true)))],13⟩|16=>some ⟨[(1,.box 3 aE (.pair (.pair .leaf (.pair .leaf (.pair .leaf JE))) (.pair .leaf (.pair .leaf (.pair (.sl (.row 5 [5] true)) (.pair (.sl (.row 6 [6] true)) (.pair (.sl (.row 7 [7] true)) (.pair .leaf (.pair (.sl (.row 8 [8] true)) (.pair .leaf (.pair (.sl (.row 9 [9] true)) (.pair (.sl (.sha [1])) (.pair (.sl (.row 10 [10] true)) de))))))))))))),(2,.box 11 aE (.pair (.pair .leaf (.pair .leaf (.pair .leaf yF))) (.pair .leaf (.pair .leaf (.pair (.sl (.sha [])) (.pair (.sl (.sha [])) (.pair (.sl (.sha [])) (.pair .leaf (.pair (.sl (.sha [])) (.pair .leaf (.pair (.sl (.sha [])) (.pair (.sl (.sha [])) Cv)))))))))))),(3,.val (.sl aN) (.sl (.row 12 [12] true))),(6,.val (.sl ah) (.sl (.row 13 [13] true)))],14⟩|22=>some ⟨[(1,.box 3 aE (.pair (.pair .leaf (.pair .leaf (.pair .leaf JE))) (.pair .leaf (.pair .leaf (.pair (.sl (.row 5 [5] true)) (.pair (.sl (.row 6 [6] true)) (.pair (.sl (.row 7 [7] true)) (.pair .leaf (.pair (.sl (.row 8 [8] true)) (.pair .leaf (.pair (.sl (.row 9 [9] true)) (.pair (.sl (.sha [1])) (.pair (.sl (.row 10 [10] true)) de))))))))))))),(2,.box 11 aE (.pair (.pair .leaf (.pair .leaf (.pair .leaf yF))) (.pair .leaf (.pair .leaf (.pair (.sl (.sha [])) (.pair (.sl (.sha [])) (.pair (.sl (.sha [])) (.pair .leaf (.pair (.sl (.sha [])) (.pair .leaf (.pair (.sl (.sha [])) (.pair (.sl (.sha [])) Cv)))))))))))),(3,.val (.sl aN) (.sl (.row 12 [12] true))),(6,.val (.sl ah) (.sl (.row 13 [13] true))),(9,.val (.sl aq) (.sl (.row 14 [14] true)))],15⟩|_=>none
def sq (k:Nat):List (FuncId×aF):=(80,⟨[.val aE (.pair (.pair .leaf (.pair .leaf q0)) (.pair .leaf (.pair .leaf (.pair .shr (.pair .shr (.pair .shr (.pair .leaf (.pair .shr (.pair .leaf (.pair .shr je))))))))))],[.val aE (.pair (.pair .leaf (.pair .leaf vc)) (.pair .leaf (.pair .leaf (.pair .own (.pair .own (.pair .own (.pair .leaf (.pair .own (.pair .leaf (.pair .own Cu))))))))))],eU k,[]⟩)::(ug k)
theorem DJ (k:Nat):ae Tryz.prog (sq k):=ae.ev ax mixed (E6 k) Bu Bz k Tryz.func80 (by kernel_rfl) (fun x=>by kernel_rfl)
def KE (k:Nat):List (FuncId×aF):=(111,⟨[.val (.int .i64) .leaf,.val (.int .i64) .leaf,.val (.int .i64) .leaf],[.val .bool .leaf],bA k,[]⟩)::(sq k)
theorem Q3 (k:Nat):ae Tryz.prog (KE k):=ae.ev ax mixed (DJ k) nA nA k Tryz.func111 (by kernel_rfl) (fun x=>by kernel_rfl)
def Jg:Nat→Option aM:=fun|4=>some ⟨[(0,.val .str .leaf),(3,.val (.int .i64) .leaf)],3⟩|_=>none
def yj (k:Nat):List (FuncId×aF):=(322,⟨[.val .str .leaf],[.val .bool .leaf],jz k,[]⟩)::(KE k)
theorem KK (k:Nat):ae Tryz.prog (yj k):=ae.ev ax mixed (Q3 k) Jg nA k Tryz.func322 (by kernel_rfl) (fun x=>by kernel_rfl)
def Hd:Nat→Option aM:=fun|2=>some ⟨[(0,.val (.sl .str) (.sl (.sha [1]))),(3,.val (.int .i64) .leaf)],3⟩|_=>none
def uX (k:Nat):List (FuncId×aF):=(323,⟨[.val (.sl .str) .shr],[.val .bool .leaf],lk k,[]⟩)::(yj k)
theorem IM (k:Nat):ae Tryz.prog (uX k):=ae.ev ax mixed (KK k) Hd nA k Tryz.func323 (by kernel_rfl) (fun x=>by kernel_rfl)
def Mp:Nat→Option aM:=fun|2=>some ⟨[(0,.val (.sl .str) (.sl (.sha [1]))),(5,.val (.sl .str) (.sl (.sha [1]))),(6,.val (.int .i64) .leaf),(7,.val (.int .i64) .leaf)],3⟩|_=>none
def Nh:Nat→Option aM:=fun|7=>some ⟨[(0,.val (.sl .str) (.sl (.sha [1])))],3⟩|_=>none
def Ci (k:Nat):List (FuncId×aF):=(259,⟨[.val (.sl .str) .shr],[.val .bool .leaf],pW k,[]⟩)::(uX k)
theorem N7 (k:Nat):ae Tryz.prog (Ci k):=ae.ev ax mixed (IM k) Mp Nh k Tryz.func259 (by kernel_rfl) (fun x=>by kernel_rfl)
def yd (k:Nat):List (FuncId×aF):=(172,⟨[.val bC (.pair .leaf (.pair .leaf q0))],[.val .bool .leaf],mV k,[]⟩)::(Ci k)
theorem K1 (k:Nat):ae Tryz.prog (yd k):=ae.ev ax mixed (N7 k) nA nA k Tryz.func172 (by kernel_rfl) (fun x=>by kernel_rfl)
def EU:Nat→Option aM:=fun|4=>some ⟨[(0,.val .str .leaf),(3,.val (.int .i64) .leaf)],3⟩|_=>none
def vj (k:Nat):List (FuncId×aF):=(325,⟨[.val .str .leaf],[.val .bool .leaf],iM k,[]⟩)::(yd k)
theorem Jm (k:Nat):ae Tryz.prog (vj k):=ae.ev ax mixed (K1 k) EU nA k Tryz.func325 (by kernel_rfl) (fun x=>by kernel_rfl)
def wQ (k:Nat):List (FuncId×aF):=(274,⟨[.val af (.pair .leaf .leaf)],[.val .bool .leaf],lW k,[]⟩)::(vj k)
theorem JF (k:Nat):ae Tryz.prog (wQ k):=ae.ev ax mixed (Jm k) nA nA k Tryz.func274 (by kernel_rfl) (fun x=>by kernel_rfl)
def L8:Nat→Option aM:=fun|2=>some ⟨[(0,.val (.sl af) (.sl (.sha [1]))),(5,.val (.sl af) (.sl (.sha [1]))),(6,.val (.int .i64) .leaf),(7,.val (.int .i64) .leaf)],3⟩|_=>none
def Az (k:Nat):List (FuncId×aF):=(189,⟨[.val (.sl af) .shr],[.val .bool .leaf],gg k,[]⟩)::(wQ k)
theorem My (k:Nat):ae Tryz.prog (Az k):=ae.ev ax mixed (JF k) L8 nA k Tryz.func189 (by kernel_rfl) (fun x=>by kernel_rfl)
def wI (k:Nat):List (FuncId×aF):=(263,⟨[.val ab q3],[.val .bool .leaf],dR k,[]⟩)::(Az k)
theorem HL (k:Nat):ae Tryz.prog (wI k):=ae.ev ax mixed (My k) nA nA k Tryz.func263 (by kernel_rfl) (fun x=>by kernel_rfl)
def Ha:Nat→Option aM:=fun|5=>some ⟨[(3,.val (.sl .str) (.sl (.row 3 [] true))),(9,.val (.sl af) (.sl (.sha [1]))),(10,.val (.int .i64) .leaf),(11,.val (.int .i64) .leaf)],4⟩|_=>none
def GI:Nat→Option aM:=fun|9=>some ⟨[(3,.val (.sl .str) (.sl (.row 3 [] true)))],4⟩|_=>none
def vO (k:Nat):List (FuncId×aF):=(376,⟨[.val (.sl af) .shr],[.val .str .leaf],ln k,[]⟩)::(wI k)
theorem Jl (k:Nat):ae Tryz.prog (vO k):=ae.ev ax mixed (HL k) Ha GI k Tryz.func376 (by kernel_rfl) (fun x=>by kernel_rfl)
end Vg.Tryz
namespace Vg.Tryz
open Go Vg Go.Proofs
set_option linter.unusedVariables false
set_option maxRecDepth 1000000
def Ob:Nat→Option aM:=fun|3=>some ⟨[(0,.val .str .leaf),(3,.val (.int .u32) .leaf),(4,.val (.int .i64) .leaf)],3⟩|_=>none
def Od:Nat→Option aM:=fun|6=>some ⟨[(3,.val (.int .u32) .leaf)],3⟩|_=>none
def Fh (k:Nat):List (FuncId×aF):=(375,⟨[.val .str .leaf],[.val (.int .i64) .leaf],oG k,[]⟩)::(vO k)
theorem QD (k:Nat):ae Tryz.prog (Fh k):=ae.ev ax mixed (Jl k) Ob Od k Tryz.func375 (by kernel_rfl) (fun x=>by kernel_rfl)
def yL (k:Nat):List (FuncId×aF):=(352,⟨[.val (.sl af) .shr],[.val (.int .i64) .leaf],dW k,[]⟩)::(Fh k)
theorem KP (k:Nat):ae Tryz.prog (yL k):=ae.ev ax mixed (QD k) nA nA k Tryz.func352 (by kernel_rfl) (fun x=>by kernel_rfl)
def Gq:Nat→Option aM:=fun|4=>some ⟨[(0,.val (.sl af) (.sl (.sha [1]))),(1,.val (.sl af) (.sl (.sha [1]))),(12,.val (.int .i64) .leaf),(13,.val (.int .i64) .leaf)],3⟩|_=>none
def u3 (k:Nat):List (FuncId×aF):=(329,⟨[.val (.sl af) .shr,.val (.sl af) .shr],[.val .bool .leaf],cK k,[]⟩)::(yL k)
theorem HA (k:Nat):ae Tryz.prog (u3 k):=ae.ev ax mixed (KP k) Gq nA k Tryz.func329 (by kernel_rfl) (fun x=>by kernel_rfl)
def CZ:Nat→Option aM:=fun|2=>some ⟨[(1,.val (.sl af) (.sl (.sha [1]))),(7,.val (.sl ab) (.sl (.sha [1]))),(8,.val (.int .i64) .leaf),(9,.val (.int .i64) .leaf)],3⟩|_=>none
def tl (k:Nat):List (FuncId×aF):=(371,⟨[.val (.sl ab) .shr,.val (.sl af) .shr],[.val (.int .i64) .leaf],gK k,[]⟩)::(u3 k)
theorem Fq (k:Nat):ae Tryz.prog (tl k):=ae.ev ax mixed (HA k) CZ nA k Tryz.func371 (by kernel_rfl) (fun x=>by kernel_rfl)
def zb:Nat→Option aM:=fun|2=>some ⟨[(0,.val (.sl ab) (.sl (.sha [1]))),(5,.val (.sl ab) (.sl (.sha [1]))),(6,.val (.int .i64) .leaf),(7,.val (.int .i64) .leaf)],3⟩|_=>none
def qt (k:Nat):List (FuncId×aF):=(378,⟨[.val (.sl ab) .shr],[.val .bool .leaf],gO k,[]⟩)::(tl k)
theorem zv (k:Nat):ae Tryz.prog (qt k):=ae.ev ax mixed (Fq k) zb nA k Tryz.func378 (by kernel_rfl) (fun x=>by kernel_rfl)
def Fx:Nat→Option aM:=fun|2=>some ⟨[(1,.box 3 ay (.pair .leaf (.sl (.sha [1])))),(6,.val (.sl ab) (.sl (.sha [1]))),(7,.val (.int .i64) .leaf),(8,.val (.int .i64) .leaf)],4⟩|_=>none
def Gb:Nat→Option aM:=fun|7=>some ⟨[(1,.box 3 ay (.pair .leaf (.sl (.sha [1]))))],4⟩|_=>none
def xc (k:Nat):List (FuncId×aF):=(361,⟨[.val ay (.pair .leaf .shr)],[.val .bool .leaf],lO k,[]⟩)::(qt k)
theorem II (k:Nat):ae Tryz.prog (xc k):=ae.ev ax mixed (zv k) Fx Gb k Tryz.func361 (by kernel_rfl) (fun x=>by kernel_rfl)
def xN (k:Nat):List (FuncId×aF):=(354,⟨[.val (.int .i64) .leaf,.val (.int .i64) .leaf],[.val (.int .i64) .leaf],fx k,[]⟩)::(xc k)
theorem K4 (k:Nat):ae Tryz.prog (xN k):=ae.ev ax mixed (II k) nA nA k Tryz.func354 (by kernel_rfl) (fun x=>by kernel_rfl)
def HH:Nat→Option aM:=fun|2=>some ⟨[(1,.val (.int .i64) .leaf),(2,.val (.int .i64) .leaf),(3,.box 3 ak cO),(10,.val (.sl ay) (.sl (.sha [1]))),(11,.val (.int .i64) .leaf),(12,.val (.int .i64) .leaf)],4⟩|_=>none
def Jw:Nat→Option aM:=fun|7=>some ⟨[(3,.box 3 ak cO)],4⟩|_=>none
def yO (k:Nat):List (FuncId×aF):=(324,⟨[.val ak (.pair .leaf (.pair .leaf .shr)),.val (.int .i64) .leaf,.val (.int .i64) .leaf],[.val .bool .leaf],mL k,[]⟩)::(xN k)
theorem L6 (k:Nat):ae Tryz.prog (yO k):=ae.ev ax mixed (K4 k) HH Jw k Tryz.func324 (by kernel_rfl) (fun x=>by kernel_rfl)
def Hp:Nat→Option aM:=fun|4=>some ⟨[(0,.val (.sl ak) (.sl (.sha [1]))),(9,.val (.sl ak) (.sl (.sha [1]))),(10,.val (.int .i64) .leaf),(11,.val (.int .i64) .leaf)],3⟩|_=>none
def u6 (k:Nat):List (FuncId×aF):=(260,⟨[.val (.sl ak) .shr],[.val .bool .leaf],ly k,[]⟩)::(yO k)
theorem HK (k:Nat):ae Tryz.prog (u6 k):=ae.ev ax mixed (L6 k) Hp nA k Tryz.func260 (by kernel_rfl) (fun x=>by kernel_rfl)
def Ek:Nat→Option aM:=fun|3=>some ⟨[(3,.val (.int .i64) .leaf),(8,.val (.sl ak) (.sl (.sha [1]))),(9,.val (.int .i64) .leaf),(10,.val (.int .i64) .leaf)],3⟩|6=>some ⟨[(3,.val (.int .i64) .leaf),(5,.box 3 ak I8),(8,.val (.sl ak) (.sl (.sha [1]))),(9,.val (.int .i64) .leaf),(10,.val (.int .i64) .leaf),(15,.val (.sl ay) (.sl (.sha [1,2]))),(16,.val (.int .i64) .leaf),(17,.val (.int .i64) .leaf)],4⟩|_=>none
def u7 (k:Nat):List (FuncId×aF):=(225,⟨[.val (.sl ak) .shr],[.val (.int .i64) .leaf],lC k,[]⟩)::(u6 k)
theorem H3 (k:Nat):ae Tryz.prog (u7 k):=ae.ev ax mixed (HK k) Ek nA k Tryz.func225 (by kernel_rfl) (fun x=>by kernel_rfl)
def Dc:Nat→Option aM:=fun|3=>some ⟨[(1,.box 3 ak cO),(3,.val (.sl ab) (.sl (.row 4 [4] true))),(7,.val (.sl ay) (.sl (.sha [1]))),(8,.val (.int .i64) .leaf),(9,.val (.int .i64) .leaf)],5⟩|_=>none
def uC (k:Nat):List (FuncId×aF):=(282,⟨[.val ak (.pair .leaf (.pair .leaf .shr))],[.val (.sl ab) .own],gA k,[]⟩)::(u7 k)
theorem Ho (k:Nat):ae Tryz.prog (uC k):=ae.ev ax mixed (H3 k) Dc nA k Tryz.func282 (by kernel_rfl) (fun x=>by kernel_rfl)
def BU:Nat→Option aM:=fun|3=>some ⟨[(3,.val (.sl ab) (.sl (.row 3 [3] true))),(6,.val (.sl ak) (.sl (.sha [1]))),(7,.val (.int .i64) .leaf),(8,.val (.int .i64) .leaf)],4⟩|_=>none
def BR:Nat→Option aM:=fun|7=>some ⟨[(3,.val (.sl ab) (.sl (.row 3 [3] true)))],4⟩|_=>none
def rO (k:Nat):List (FuncId×aF):=(261,⟨[.val (.sl ak) .shr],[.val (.sl ab) .own],jr k,[]⟩)::(uC k)
theorem DI (k:Nat):ae Tryz.prog (rO k):=ae.ev ax mixed (Ho k) BU BR k Tryz.func261 (by kernel_rfl) (fun x=>by kernel_rfl)
def B6 (k:Nat):List (FuncId×aF):=(197,⟨[.val bC (.pair .leaf (.pair .leaf q0)),.val ab q3],[.val .bool .leaf],ml k,[]⟩)::(rO k)
theorem N0 (k:Nat):ae Tryz.prog (B6 k):=ae.ev ax mixed (DI k) nA nA k Tryz.func197 (by kernel_rfl) (fun x=>by kernel_rfl)
def Ao:Nat→Option aM:=fun|4=>some ⟨[(1,.box 3 aE (.pair (.pair .leaf (.pair .leaf (.pair .leaf cO))) (.pair .leaf (.pair .leaf (.pair (.sl (.sha [1])) (.pair (.sl (.sha [1])) (.pair (.sl (.sha [1])) (.pair .leaf (.pair (.sl (.sha [1])) (.pair .leaf (.pair (.sl (.sha [1])) (.pair (.sl (.sha [1])) (.pair (.sl (.sha [1])) de))))))))))))),(29,.val (.sl ab) (.sl (.row 4 [4] true))),(30,.val (.int .i64) .leaf),(31,.val (.int .i64) .leaf)],5⟩|_=>none
def rf (k:Nat):List (FuncId×aF):=(173,⟨[.val aE (.pair (.pair .leaf (.pair .leaf q0)) (.pair .leaf (.pair .leaf (.pair .shr (.pair .shr (.pair .shr (.pair .leaf (.pair .shr (.pair .leaf (.pair .shr je))))))))))],[.val .bool .leaf],ia k,[]⟩)::(B6 k)
theorem Bt (k:Nat):ae Tryz.prog (rf k):=ae.ev ax mixed (N0 k) Ao nA k Tryz.func173 (by kernel_rfl) (fun x=>by kernel_rfl)
def Ed:Nat→Option aM:=fun|2=>some ⟨[(5,.val (.sl ab) (.sl (.sha [1]))),(6,.val (.int .i64) .leaf),(7,.val (.int .i64) .leaf)],3⟩|_=>none
def uK (k:Nat):List (FuncId×aF):=(175,⟨[.val (.sl ab) .shr],[.val .bool .leaf],ez k,[]⟩)::(rf k)
theorem Fv (k:Nat):ae Tryz.prog (uK k):=ae.ev ax mixed (Bt k) Ed nA k Tryz.func175 (by kernel_rfl) (fun x=>by kernel_rfl)
def zo (k:Nat):List (FuncId×aF):=(262,⟨[.val aU (.pair .shr .leaf)],[.val .bool .leaf],og k,[]⟩)::(uK k)
theorem Np (k:Nat):ae Tryz.prog (zo k):=ae.ev ax mixed (Fv k) nA nA k Tryz.func262 (by kernel_rfl) (fun x=>by kernel_rfl)
def BT:Nat→Option aM:=fun|2=>some ⟨[(0,.val (.sl aU) (.sl (.sha [1]))),(3,.box 3 bC (.pair .leaf (.pair .leaf (.pair .leaf cO)))),(7,.val (.sl aU) (.sl (.sha [1]))),(8,.val (.int .i64) .leaf),(9,.val (.int .i64) .leaf)],4⟩|_=>none
def BM:Nat→Option aM:=fun|7=>some ⟨[(0,.val (.sl aU) (.sl (.sha [1]))),(3,.box 3 bC (.pair .leaf (.pair .leaf (.pair .leaf cO))))],4⟩|_=>none
def rT (k:Nat):List (FuncId×aF):=(174,⟨[.val (.sl aU) .shr,.val bC (.pair .leaf (.pair .leaf q0))],[.val .bool .leaf],jh k,[]⟩)::(zo k)
theorem Dy (k:Nat):ae Tryz.prog (rT k):=ae.ev ax mixed (Np k) BT BM k Tryz.func174 (by kernel_rfl) (fun x=>by kernel_rfl)
def tz (k:Nat):List (FuncId×aF):=(326,⟨[.val (.int .i64) .leaf,.val (.int .i64) .leaf],[.val .bool .leaf],ky k,[]⟩)::(rT k)
theorem GB (k:Nat):ae Tryz.prog (tz k):=ae.ev ax mixed (Dy k) nA nA k Tryz.func326 (by kernel_rfl) (fun x=>by kernel_rfl)
def xT (k:Nat):List (FuncId×aF):=(264,⟨[.val aq (.pair .leaf (.pair .leaf (.pair q3 (.pair .shr (.pair .leaf (.pair .leaf (.pair .leaf (.pair .shr uc))))))))],[.val .bool .leaf],jF k,[]⟩)::(tz k)
theorem Lq (k:Nat):ae Tryz.prog (xT k):=ae.ev ax mixed (GB k) nA nA k Tryz.func264 (by kernel_rfl) (fun x=>by kernel_rfl)
def sG (k:Nat):List (FuncId×aF):=(330,⟨[.val ab q3,.val ab q3],[.val .bool .leaf],cR k,[]⟩)::(xT k)
theorem CP (k:Nat):ae Tryz.prog (sG k):=ae.ev ax mixed (Lq k) nA nA k Tryz.func330 (by kernel_rfl) (fun x=>by kernel_rfl)
def CG:Nat→Option aM:=fun|4=>some ⟨[(0,.val (.sl (.int .i64)) (.sl (.sha [1]))),(1,.val (.sl (.int .i64)) (.sl (.sha [1]))),(12,.val (.int .i64) .leaf),(13,.val (.int .i64) .leaf)],3⟩|_=>none
def uH (k:Nat):List (FuncId×aF):=(362,⟨[.val (.sl (.int .i64)) .shr,.val (.sl (.int .i64)) .shr],[.val .bool .leaf],gy k,[]⟩)::(sG k)
theorem Gu (k:Nat):ae Tryz.prog (uH k):=ae.ev ax mixed (CP k) CG nA k Tryz.func362 (by kernel_rfl) (fun x=>by kernel_rfl)
def zk:Nat→Option aM:=fun|4=>some ⟨[(0,.val (.sl ab) (.sl (.sha [1]))),(1,.val (.sl ab) (.sl (.sha [1]))),(12,.val (.int .i64) .leaf),(13,.val (.int .i64) .leaf)],3⟩|_=>none
def qQ (k:Nat):List (FuncId×aF):=(363,⟨[.val (.sl ab) .shr,.val (.sl ab) .shr],[.val .bool .leaf],fC k,[]⟩)::(uH k)
theorem Bh (k:Nat):ae Tryz.prog (qQ k):=ae.ev ax mixed (Gu k) zk nA k Tryz.func363 (by kernel_rfl) (fun x=>by kernel_rfl)
def tv (k:Nat):List (FuncId×aF):=(327,⟨[.val ah (.pair .leaf (.pair .leaf (.pair q3 (.pair .shr (.pair .leaf q7))))),.val ah (.pair .leaf (.pair .leaf (.pair q3 (.pair .shr (.pair .leaf q7)))))],[.val .bool .leaf],gI k,[]⟩)::(qQ k)
theorem Ga (k:Nat):ae Tryz.prog (tv k):=ae.ev ax mixed (Bh k) nA nA k Tryz.func327 (by kernel_rfl) (fun x=>by kernel_rfl)
def IY:Nat→Option aM:=fun|2=>some ⟨[(1,.box 3 ah (.pair .leaf (.pair .leaf (.pair uW (.pair (.sl (.sha [1])) (.pair .leaf (.pair (.sl (.sha [1])) uQ))))))),(6,.val (.sl (.int .i64)) (.sl (.sha [1]))),(7,.val (.int .i64) .leaf),(8,.val (.int .i64) .leaf)],4⟩|_=>none
def Im:Nat→Option aM:=fun|7=>some ⟨[(1,.box 3 ah (.pair .leaf (.pair .leaf (.pair uW (.pair (.sl (.sha [1])) (.pair .leaf (.pair (.sl (.sha [1])) uQ)))))))],4⟩|_=>none
def yK (k:Nat):List (FuncId×aF):=(328,⟨[.val ah (.pair .leaf (.pair .leaf (.pair q3 (.pair .shr (.pair .leaf q7)))))],[.val .bool .leaf],mM k,[]⟩)::(tv k)
theorem K7 (k:Nat):ae Tryz.prog (yK k):=ae.ev ax mixed (Ga k) IY Im k Tryz.func328 (by kernel_rfl) (fun x=>by kernel_rfl)
def Ji:Nat→Option aM:=fun|25=>some ⟨[(2,.box 3 ah (.pair .leaf (.pair .leaf (.pair uW (.pair (.sl (.sha [1])) (.pair .leaf (.pair (.sl (.sha [1])) uQ))))))),(5,.box 4 ah (.pair .leaf (.pair .leaf (.pair uW (.pair (.sl (.sha [1])) (.pair .leaf (.pair (.sl (.sha [1])) uQ))))))),(6,.val .bool .leaf),(7,.val (.int .i64) .leaf)],5⟩|_=>none
def yo (k:Nat):List (FuncId×aF):=(265,⟨[.val ah (.pair .leaf (.pair .leaf (.pair q3 (.pair .shr (.pair .leaf q7))))),.val (.int .i64) .leaf],[.val .bool .leaf],mT k,[]⟩)::(yK k)
theorem LY (k:Nat):ae Tryz.prog (yo k):=ae.ev ax mixed (K7 k) nA Ji k Tryz.func265 (by kernel_rfl) (fun x=>by kernel_rfl)
end Vg.Tryz
namespace Vg.Tryz
open Go Vg Go.Proofs
set_option linter.unusedVariables false
set_option maxRecDepth 1000000
def xO (k:Nat):List (FuncId×aF):=(304,⟨[.val (.sl ak) .shr,.val (.sl af) .shr],[.val (.int .i64) .leaf],mZ k,[]⟩)::(yo k)
theorem LO (k:Nat):ae Tryz.prog (xO k):=ae.ev ax mixed (LY k) nA nA k Tryz.func304 (by kernel_rfl) (fun x=>by kernel_rfl)
def GZ:Nat→Option aM:=fun|2=>some ⟨[(1,.val (.int .i64) .leaf),(2,.box 3 ak cO),(8,.val (.sl ay) (.sl (.sha [1]))),(9,.val (.int .i64) .leaf),(10,.val (.int .i64) .leaf)],4⟩|_=>none
def vY (k:Nat):List (FuncId×aF):=(351,⟨[.val ak (.pair .leaf (.pair .leaf .shr)),.val (.int .i64) .leaf],[.val (.int .i64) .leaf],lV k,[]⟩)::(xO k)
theorem Hu (k:Nat):ae Tryz.prog (vY k):=ae.ev ax mixed (LO k) GZ nA k Tryz.func351 (by kernel_rfl) (fun x=>by kernel_rfl)
def wV (k:Nat):List (FuncId×aF):=(353,⟨[.val ay (.pair .leaf .shr),.val (.sl af) .shr],[.val (.int .i64) .leaf],lA k,[]⟩)::(vY k)
theorem HQ (k:Nat):ae Tryz.prog (wV k):=ae.ev ax mixed (Hu k) nA nA k Tryz.func353 (by kernel_rfl) (fun x=>by kernel_rfl)
def yi (k:Nat):List (FuncId×aF):=(303,⟨[.val ak (.pair .leaf (.pair .leaf .shr)),.val (.sl af) .shr],[.val ab qV,.val .bool .leaf],mF k,[]⟩)::(wV k)
theorem LK (k:Nat):ae Tryz.prog (yi k):=ae.ev ax mixed (HQ k) nA nA k Tryz.func303 (by kernel_rfl) (fun x=>by kernel_rfl)
def sH (k:Nat):List (FuncId×aF):=(224,⟨[.val (.sl ak) .shr,.val (.sl af) .shr],[.val ab qV,.val .bool .leaf],jw k,[]⟩)::(yi k)
theorem DQ (k:Nat):ae Tryz.prog (sH k):=ae.ev ax mixed (LK k) nA nA k Tryz.func224 (by kernel_rfl) (fun x=>by kernel_rfl)
def BF:Nat→Option aM:=fun|6=>some ⟨[(2,.box 3 aE (.pair (.pair .leaf (.pair .leaf (.pair .leaf cO))) (.pair .leaf (.pair .leaf (.pair (.sl (.sha [1])) (.pair (.sl (.sha [1])) (.pair (.sl (.sha [1])) (.pair .leaf (.pair (.sl (.sha [1])) (.pair .leaf (.pair (.sl (.sha [1])) (.pair (.sl (.sha [1])) (.pair (.sl (.sha [1])) de))))))))))))),(3,.box 4 ah (.pair .leaf (.pair .leaf (.pair uW (.pair (.sl (.sha [1])) (.pair .leaf (.pair (.sl (.sha [1])) uQ))))))),(5,.val .bool .leaf),(6,.val (.sl ab) (.sl (.row 5 [5] true))),(35,.val (.sl (.int .i64)) (.sl (.sha [1]))),(36,.val (.int .i64) .leaf),(37,.val (.int .i64) .leaf)],6⟩|_=>none
def Bw:Nat→Option aM:=fun|13=>some ⟨[(2,.box 3 aE (.pair (.pair .leaf (.pair .leaf (.pair .leaf cO))) (.pair .leaf (.pair .leaf (.pair (.sl (.sha [1])) (.pair (.sl (.sha [1])) (.pair (.sl (.sha [1])) (.pair .leaf (.pair (.sl (.sha [1])) (.pair .leaf (.pair (.sl (.sha [1])) (.pair (.sl (.sha [1])) (.pair (.sl (.sha [1])) de))))))))))))),(3,.box 4 ah (.pair .leaf (.pair .leaf (.pair uW (.pair (.sl (.sha [1])) (.pair .leaf (.pair (.sl (.sha [1])) uQ))))))),(5,.val .bool .leaf),(6,.val (.sl ab) (.sl (.row 5 [5] true)))],6⟩|_=>none
def tc (k:Nat):List (FuncId×aF):=(331,⟨[.val aE (.pair (.pair .leaf (.pair .leaf q0)) (.pair .leaf (.pair .leaf (.pair .shr (.pair .shr (.pair .shr (.pair .leaf (.pair .shr (.pair .leaf (.pair .shr je)))))))))),.val ah (.pair .leaf (.pair .leaf (.pair q3 (.pair .shr (.pair .leaf q7)))))],[.val .bool .leaf],jo k,[]⟩)::(sH k)
theorem CQ (k:Nat):ae Tryz.prog (tc k):=ae.ev ax mixed (DQ k) BF Bw k Tryz.func331 (by kernel_rfl) (fun x=>by kernel_rfl)
def uv (k:Nat):List (FuncId×aF):=(266,⟨[.val aE (.pair (.pair .leaf (.pair .leaf q0)) (.pair .leaf (.pair .leaf (.pair .shr (.pair .shr (.pair .shr (.pair .leaf (.pair .shr (.pair .leaf (.pair .shr je)))))))))),.val ah (.pair .leaf (.pair .leaf (.pair q3 (.pair .shr (.pair .leaf q7))))),.val aq (.pair .leaf (.pair .leaf (.pair q3 (.pair .shr (.pair .leaf (.pair .leaf (.pair .leaf (.pair .shr uc))))))))],[.val .bool .leaf],km k,[]⟩)::(tc k)
theorem FW (k:Nat):ae Tryz.prog (uv k):=ae.ev ax mixed (CQ k) nA nA k Tryz.func266 (by kernel_rfl) (fun x=>by kernel_rfl)
def zK:Nat→Option aM:=fun|2=>some ⟨[(1,.box 3 aE (.pair (.pair .leaf (.pair .leaf (.pair .leaf cO))) (.pair .leaf (.pair .leaf (.pair (.sl (.sha [1])) (.pair (.sl (.sha [1])) (.pair (.sl (.sha [1])) (.pair .leaf (.pair (.sl (.sha [1])) (.pair .leaf (.pair (.sl (.sha [1])) (.pair (.sl (.sha [1])) (.pair (.sl (.sha [1])) de))))))))))))),(9,.val (.sl aq) (.sl (.sha [1]))),(10,.val (.int .i64) .leaf),(11,.val (.int .i64) .leaf)],4⟩|8=>some ⟨[(1,.box 3 aE (.pair (.pair .leaf (.pair .leaf (.pair .leaf cO))) (.pair .leaf (.pair .leaf (.pair (.sl (.sha [1])) (.pair (.sl (.sha [1])) (.pair (.sl (.sha [1])) (.pair .leaf (.pair (.sl (.sha [1])) (.pair .leaf (.pair (.sl (.sha [1])) (.pair (.sl (.sha [1])) (.pair (.sl (.sha [1])) de))))))))))))),(41,.val (.sl ah) (.sl (.sha [1]))),(42,.val (.int .i64) .leaf),(43,.val (.int .i64) .leaf)],4⟩|_=>none
def zi:Nat→Option aM:=fun|7=>some ⟨[(1,.box 3 aE (.pair (.pair .leaf (.pair .leaf (.pair .leaf cO))) (.pair .leaf (.pair .leaf (.pair (.sl (.sha [1])) (.pair (.sl (.sha [1])) (.pair (.sl (.sha [1])) (.pair .leaf (.pair (.sl (.sha [1])) (.pair .leaf (.pair (.sl (.sha [1])) (.pair (.sl (.sha [1])) (.pair (.sl (.sha [1])) de)))))))))))))],4⟩|_=>none
def rm (k:Nat):List (FuncId×aF):=(176,⟨[.val aE (.pair (.pair .leaf (.pair .leaf q0)) (.pair .leaf (.pair .leaf (.pair .shr (.pair .shr (.pair .shr (.pair .leaf (.pair .shr (.pair .leaf (.pair .shr je))))))))))],[.val .bool .leaf],ij k,[]⟩)::(uv k)
theorem BK (k:Nat):ae Tryz.prog (rm k):=ae.ev ax mixed (FW k) zK zi k Tryz.func176 (by kernel_rfl) (fun x=>by kernel_rfl)
def yh (k:Nat):List (FuncId×aF):=(332,⟨[.val ah (.pair .leaf (.pair .leaf (.pair q3 (.pair .shr (.pair .leaf q7))))),.val (.int .i64) .leaf,.val .bool .leaf],[.val (.int .i64) .leaf],qz k,[]⟩)::(rm k)
theorem K9 (k:Nat):ae Tryz.prog (yh k):=ae.ev ax mixed (BK k) nA nA k Tryz.func332 (by kernel_rfl) (fun x=>by kernel_rfl)
def sJ (k:Nat):List (FuncId×aF):=(267,⟨[.val ah (.pair .leaf (.pair .leaf (.pair q3 (.pair .shr (.pair .leaf q7))))),.val (.int .i64) .leaf],[.val (.int .i64) .leaf],jg k,[]⟩)::(yh k)
theorem DN (k:Nat):ae Tryz.prog (sJ k):=ae.ev ax mixed (K9 k) nA nA k Tryz.func267 (by kernel_rfl) (fun x=>by kernel_rfl)
def qb (k:Nat):List (FuncId×aF):=(268,⟨[.val ah (.pair .leaf (.pair .leaf (.pair q3 (.pair .shr (.pair .leaf q7)))))],[.val .bool .leaf],gD k,[]⟩)::(sJ k)
theorem zV (k:Nat):ae Tryz.prog (qb k):=ae.ev ax mixed (DN k) nA nA k Tryz.func268 (by kernel_rfl) (fun x=>by kernel_rfl)
def Aa:Nat→Option aM:=fun|2=>some ⟨[(1,.box 3 aE (.pair (.pair .leaf (.pair .leaf (.pair .leaf cO))) (.pair .leaf (.pair .leaf (.pair (.sl (.sha [1])) (.pair (.sl (.sha [1])) (.pair (.sl (.sha [1])) (.pair .leaf (.pair (.sl (.sha [1])) (.pair .leaf (.pair (.sl (.sha [1])) (.pair (.sl (.sha [1])) (.pair (.sl (.sha [1])) de))))))))))))),(10,.val (.sl ak) (.sl (.sha [1]))),(11,.val (.int .i64) .leaf),(12,.val (.int .i64) .leaf)],4⟩|5=>some ⟨[(1,.box 3 aE (.pair (.pair .leaf (.pair .leaf (.pair .leaf cO))) (.pair .leaf (.pair .leaf (.pair (.sl (.sha [1])) (.pair (.sl (.sha [1])) (.pair (.sl (.sha [1])) (.pair .leaf (.pair (.sl (.sha [1])) (.pair .leaf (.pair (.sl (.sha [1])) (.pair (.sl (.sha [1])) (.pair (.sl (.sha [1])) de))))))))))))),(3,.val (.int .i64) .leaf),(4,.box 4 ak I8),(10,.val (.sl ak) (.sl (.sha [1]))),(11,.val (.int .i64) .leaf),(12,.val (.int .i64) .leaf),(18,.val (.sl ah) (.sl (.sha [1]))),(19,.val (.int .i64) .leaf),(20,.val (.int .i64) .leaf)],5⟩|12=>some ⟨[(1,.box 3 aE (.pair (.pair .leaf (.pair .leaf (.pair .leaf cO))) (.pair .leaf (.pair .leaf (.pair (.sl (.sha [1])) (.pair (.sl (.sha [1])) (.pair (.sl (.sha [1])) (.pair .leaf (.pair (.sl (.sha [1])) (.pair .leaf (.pair (.sl (.sha [1])) (.pair (.sl (.sha [1])) (.pair (.sl (.sha [1])) de))))))))))))),(40,.val (.sl ah) (.sl (.sha [1]))),(41,.val (.int .i64) .leaf),(42,.val (.int .i64) .leaf)],4⟩|_=>none
def Ab:Nat→Option aM:=fun|11=>some ⟨[(1,.box 3 aE (.pair (.pair .leaf (.pair .leaf (.pair .leaf cO))) (.pair .leaf (.pair .leaf (.pair (.sl (.sha [1])) (.pair (.sl (.sha [1])) (.pair (.sl (.sha [1])) (.pair .leaf (.pair (.sl (.sha [1])) (.pair .leaf (.pair (.sl (.sha [1])) (.pair (.sl (.sha [1])) (.pair (.sl (.sha [1])) de)))))))))))))],4⟩|17=>some ⟨[(1,.box 3 aE (.pair (.pair .leaf (.pair .leaf (.pair .leaf cO))) (.pair .leaf (.pair .leaf (.pair (.sl (.sha [1])) (.pair (.sl (.sha [1])) (.pair (.sl (.sha [1])) (.pair .leaf (.pair (.sl (.sha [1])) (.pair .leaf (.pair (.sl (.sha [1])) (.pair (.sl (.sha [1])) (.pair (.sl (.sha [1])) de)))))))))))))],4⟩|_=>none
def qW (k:Nat):List (FuncId×aF):=(177,⟨[.val aE (.pair (.pair .leaf (.pair .leaf q0)) (.pair .leaf (.pair .leaf (.pair .shr (.pair .shr (.pair .shr (.pair .leaf (.pair .shr (.pair .leaf (.pair .shr je))))))))))],[.val .bool .leaf],ig k,[]⟩)::(qb k)
theorem A5 (k:Nat):ae Tryz.prog (qW k):=ae.ev ax mixed (zV k) Aa Ab k Tryz.func177 (by kernel_rfl) (fun x=>by kernel_rfl)
def EW:Nat→Option aM:=fun|2=>some ⟨[(1,.val .str .leaf),(7,.val (.sl .str) (.sl (.sha [1]))),(8,.val (.int .i64) .leaf),(9,.val (.int .i64) .leaf)],3⟩|_=>none
def wO (k:Nat):List (FuncId×aF):=(370,⟨[.val (.sl .str) .shr,.val .str .leaf],[.val .bool .leaf],lq k,[]⟩)::(qW k)
theorem IX (k:Nat):ae Tryz.prog (wO k):=ae.ev ax mixed (A5 k) EW nA k Tryz.func370 (by kernel_rfl) (fun x=>by kernel_rfl)
def EI:Nat→Option aM:=fun|3=>some ⟨[(1,.val (.sl .str) (.sl (.sha [1]))),(5,.val (.sl af) (.sl (.row 3 [] true))),(8,.val (.sl af) (.sl (.sha [1]))),(9,.val (.int .i64) .leaf),(10,.val (.int .i64) .leaf)],4⟩|_=>none
def wF (k:Nat):List (FuncId×aF):=(345,⟨[.val (.sl af) .shr,.val (.sl .str) .shr],[.val (.sl af) .own],pL k,[]⟩)::(wO k)
theorem J0 (k:Nat):ae Tryz.prog (wF k):=ae.ev ax mixed (IX k) EI nA k Tryz.func345 (by kernel_rfl) (fun x=>by kernel_rfl)
def zp (k:Nat):List (FuncId×aF):=(289,⟨[.val ab q3,.val (.sl .str) .shr],[.val (.sl af) .own],oB k,[]⟩)::(wF k)
theorem NT (k:Nat):ae Tryz.prog (zp k):=ae.ev ax mixed (J0 k) nA nA k Tryz.func289 (by kernel_rfl) (fun x=>by kernel_rfl)
def Eu:Nat→Option aM:=fun|2=>some ⟨[(0,.val (.sl af) (.sl (.sha [1]))),(1,.val (.sl af) (.sl (.sha [1]))),(5,.val (.int .i64) .leaf)],3⟩|_=>none
def Hm:Nat→Option aM:=fun|8=>some ⟨[(0,.val (.sl af) (.sl (.sha [1]))),(1,.val (.sl af) (.sl (.sha [1])))],3⟩|_=>none
def vH (k:Nat):List (FuncId×aF):=(341,⟨[.val (.sl af) .shr,.val (.sl af) .shr],[.val .bool .leaf],iK k,[]⟩)::(zp k)
theorem Jy (k:Nat):ae Tryz.prog (vH k):=ae.ev ax mixed (NT k) Eu Hm k Tryz.func341 (by kernel_rfl) (fun x=>by kernel_rfl)
def Gv:Nat→Option aM:=fun|2=>some ⟨[(0,.val (.sl ab) (.sl (.sha [1]))),(1,.val (.sl af) (.sl (.sha [1]))),(2,.val (.sl .str) (.sl (.sha [1]))),(9,.val (.sl ab) (.sl (.sha [1]))),(10,.val (.int .i64) .leaf),(11,.val (.int .i64) .leaf)],3⟩|_=>none
def vC (k:Nat):List (FuncId×aF):=(364,⟨[.val (.sl ab) .shr,.val (.sl af) .shr,.val (.sl .str) .shr],[.val .bool .leaf],lN k,[]⟩)::(vH k)
theorem JG (k:Nat):ae Tryz.prog (vC k):=ae.ev ax mixed (Jy k) Gv nA k Tryz.func364 (by kernel_rfl) (fun x=>by kernel_rfl)
def vQ (k:Nat):List (FuncId×aF):=(333,⟨[.val aj (.pair .leaf q4),.val (.sl .str) .shr],[.val .bool .leaf],lu k,[]⟩)::(vC k)
theorem HU (k:Nat):ae Tryz.prog (vQ k):=ae.ev ax mixed (JG k) nA nA k Tryz.func333 (by kernel_rfl) (fun x=>by kernel_rfl)
def GQ:Nat→Option aM:=fun|2=>some ⟨[(1,.val (.sl af) (.sl (.sha [1]))),(7,.val (.sl aj) (.sl (.sha [1]))),(8,.val (.int .i64) .leaf),(9,.val (.int .i64) .leaf)],3⟩|_=>none
def vW (k:Nat):List (FuncId×aF):=(290,⟨[.val (.sl aj) .shr,.val (.sl af) .shr],[.val (.int .i64) .leaf],lv k,[]⟩)::(vQ k)
theorem IK (k:Nat):ae Tryz.prog (vW k):=ae.ev ax mixed (HU k) GQ nA k Tryz.func290 (by kernel_rfl) (fun x=>by kernel_rfl)
def Dn:Nat→Option aM:=fun|2=>some ⟨[(0,.val (.sl aj) (.sl (.sha [1]))),(1,.val (.sl .str) (.sl (.sha [1]))),(7,.val (.sl aj) (.sl (.sha [1]))),(8,.val (.int .i64) .leaf),(9,.val (.int .i64) .leaf)],3⟩|_=>none
def uw (k:Nat):List (FuncId×aF):=(269,⟨[.val (.sl aj) .shr,.val (.sl .str) .shr],[.val .bool .leaf],kv k,[]⟩)::(vW k)
theorem FT (k:Nat):ae Tryz.prog (uw k):=ae.ev ax mixed (IK k) Dn nA k Tryz.func269 (by kernel_rfl) (fun x=>by kernel_rfl)
def yw (k:Nat):List (FuncId×aF):=(334,⟨[.val aC (.pair .leaf .leaf),.val aC (.pair .leaf .leaf)],[.val .bool .leaf],mJ k,[]⟩)::(uw k)
theorem Ly (k:Nat):ae Tryz.prog (yw k):=ae.ev ax mixed (FT k) nA nA k Tryz.func334 (by kernel_rfl) (fun x=>by kernel_rfl)
def H6:Nat→Option aM:=fun|2=>some ⟨[(0,.val (.sl aC) (.sl (.sha [1]))),(5,.val (.sl aC) (.sl (.sha [1]))),(6,.val (.int .i64) .leaf),(7,.val (.int .i64) .leaf)],3⟩|_=>none
def Ie:Nat→Option aM:=fun|7=>some ⟨[(0,.val (.sl aC) (.sl (.sha [1])))],3⟩|_=>none
def yB (k:Nat):List (FuncId×aF):=(270,⟨[.val (.sl aC) .shr],[.val .bool .leaf],mO k,[]⟩)::(yw k)
theorem LN (k:Nat):ae Tryz.prog (yB k):=ae.ev ax mixed (Ly k) H6 Ie k Tryz.func270 (by kernel_rfl) (fun x=>by kernel_rfl)
def vt (k:Nat):List (FuncId×aF):=(335,⟨[.val aj (.pair .leaf q4),.val (.int .i64) .leaf,.val (.int .i64) .leaf],[.val (.int .i64) .leaf],pM k,[]⟩)::(yB k)
theorem I3 (k:Nat):ae Tryz.prog (vt k):=ae.ev ax mixed (LN k) nA nA k Tryz.func335 (by kernel_rfl) (fun x=>by kernel_rfl)
def Er (k:Nat):List (FuncId×aF):=(271,⟨[.val bC (.pair .leaf (.pair .leaf q0)),.val aj (.pair .leaf q4)],[.val (.int .i64) .leaf],rA k,[]⟩)::(vt k)
theorem P8 (k:Nat):ae Tryz.prog (Er k):=ae.ev ax mixed (I3 k) nA nA k Tryz.func271 (by kernel_rfl) (fun x=>by kernel_rfl)
def y0:Nat→Option aM:=fun|4=>some ⟨[(1,.box 3 aE (.pair (.pair .leaf (.pair .leaf (.pair .leaf cO))) (.pair .leaf (.pair .leaf (.pair (.sl (.sha [1])) (.pair (.sl (.sha [1])) (.pair (.sl (.sha [1])) (.pair .leaf (.pair (.sl (.sha [1])) (.pair .leaf (.pair (.sl (.sha [1])) (.pair (.sl (.sha [1])) (.pair (.sl (.sha [1])) de))))))))))))),(26,.val (.sl aj) (.sl (.sha [1]))),(27,.val (.int .i64) .leaf),(28,.val (.int .i64) .leaf)],4⟩|10=>some ⟨[(1,.box 3 aE (.pair (.pair .leaf (.pair .leaf (.pair .leaf cO))) (.pair .leaf (.pair .leaf (.pair (.sl (.sha [1])) (.pair (.sl (.sha [1])) (.pair (.sl (.sha [1])) (.pair .leaf (.pair (.sl (.sha [1])) (.pair .leaf (.pair (.sl (.sha [1])) (.pair (.sl (.sha [1])) (.pair (.sl (.sha [1])) de))))))))))))),(4,.box 4 aj (.pair .leaf (.pair (.sl (.sha [1,2])) I8))),(5,.val .bool .leaf),(26,.val (.sl aj) (.sl (.sha [1]))),(27,.val (.int .i64) .leaf),(28,.val (.int .i64) .leaf),(68,.val (.sl aC) (.sl (.sha [1]))),(69,.val (.int .i64) .leaf),(70,.val (.int .i64) .leaf)],5⟩|18=>some ⟨[(1,.box 3 aE (.pair (.pair .leaf (.pair .leaf (.pair .leaf cO))) (.pair .leaf (.pair .leaf (.pair (.sl (.sha [1])) (.pair (.sl (.sha [1])) (.pair (.sl (.sha [1])) (.pair .leaf (.pair (.sl (.sha [1])) (.pair .leaf (.pair (.sl (.sha [1])) (.pair (.sl (.sha [1])) (.pair (.sl (.sha [1])) de))))))))))))),(96,.val (.sl aC) (.sl (.sha [1]))),(97,.val (.int .i64) .leaf),(98,.val (.int .i64) .leaf)],4⟩|23=>some ⟨[(1,.box 3 aE (.pair (.pair .leaf (.pair .leaf (.pair .leaf cO))) (.pair .leaf (.pair .leaf (.pair (.sl (.sha [1])) (.pair (.sl (.sha [1])) (.pair (.sl (.sha [1])) (.pair .leaf (.pair (.sl (.sha [1])) (.pair .leaf (.pair (.sl (.sha [1])) (.pair (.sl (.sha [1])) (.pair (.sl (.sha [1])) de))))))))))))),(9,.box 4 aC (.pair .leaf .leaf)),(96,.val (.sl aC) (.sl (.sha [1]))),(97,.val (.int .i64) .leaf),(98,.val (.int .i64) .leaf),(111,.val (.sl aC) (.sl (.sha [1]))),(112,.val (.int .i64) .leaf),(113,.val (.int .i64) .leaf)],5⟩|_=>none
def zd:Nat→Option aM:=fun|14=>some ⟨[(1,.box 3 aE (.pair (.pair .leaf (.pair .leaf (.pair .leaf cO))) (.pair .leaf (.pair .leaf (.pair (.sl (.sha [1])) (.pair (.sl (.sha [1])) (.pair (.sl (.sha [1])) (.pair .leaf (.pair (.sl (.sha [1])) (.pair .leaf (.pair (.sl (.sha [1])) (.pair (.sl (.sha [1])) (.pair (.sl (.sha [1])) de))))))))))))),(4,.box 4 aj (.pair .leaf (.pair (.sl (.sha [1,2])) I8))),(5,.val .bool .leaf),(26,.val (.sl aj) (.sl (.sha [1]))),(27,.val (.int .i64) .leaf),(28,.val (.int .i64) .leaf)],5⟩|17=>some ⟨[(1,.box 3 aE (.pair (.pair .leaf (.pair .leaf (.pair .leaf cO))) (.pair .leaf (.pair .leaf (.pair (.sl (.sha [1])) (.pair (.sl (.sha [1])) (.pair (.sl (.sha [1])) (.pair .leaf (.pair (.sl (.sha [1])) (.pair .leaf (.pair (.sl (.sha [1])) (.pair (.sl (.sha [1])) (.pair (.sl (.sha [1])) de)))))))))))))],4⟩|_=>none
def p9 (k:Nat):List (FuncId×aF):=(178,⟨[.val aE (.pair (.pair .leaf (.pair .leaf q0)) (.pair .leaf (.pair .leaf (.pair .shr (.pair .shr (.pair .shr (.pair .leaf (.pair .shr (.pair .leaf (.pair .shr je))))))))))],[.val .bool .leaf],gJ k,[]⟩)::(Er k)
theorem zS (k:Nat):ae Tryz.prog (p9 k):=ae.ev ax mixed (P8 k) y0 zd k Tryz.func178 (by kernel_rfl) (fun x=>by kernel_rfl)
end Vg.Tryz
namespace Vg.Tryz
open Go Vg Go.Proofs
set_option linter.unusedVariables false
set_option maxRecDepth 1000000
def vf (k:Nat):List (FuncId×aF):=(81,⟨[.val aE (.pair (.pair .leaf (.pair .leaf q0)) (.pair .leaf (.pair .leaf (.pair .shr (.pair .shr (.pair .shr (.pair .leaf (.pair .shr (.pair .leaf (.pair .shr je))))))))))],[.val .bool .leaf],lL k,[]⟩)::(p9 k)
theorem IU (k:Nat):ae Tryz.prog (vf k):=ae.ev ax mixed (zS k) nA nA k Tryz.func81 (by kernel_rfl) (fun x=>by kernel_rfl)
def Cr (k:Nat):List (FuncId×aF):=(275,⟨[.val aE (.pair (.pair .leaf (.pair .leaf q0)) (.pair .leaf (.pair .leaf (.pair .shr (.pair .shr (.pair .shr (.pair .leaf (.pair .shr (.pair .leaf (.pair .shr je)))))))))),.val (.int .i64) .leaf],[.val .bool .leaf],pP k,[]⟩)::(vf k)
theorem Oo (k:Nat):ae Tryz.prog (Cr k):=ae.ev ax mixed (IU k) nA nA k Tryz.func275 (by kernel_rfl) (fun x=>by kernel_rfl)
def yQ (k:Nat):List (FuncId×aF):=(194,⟨[.val aE (.pair (.pair .leaf (.pair .leaf q0)) (.pair .leaf (.pair .leaf (.pair .shr (.pair .shr (.pair .shr (.pair .leaf (.pair .shr (.pair .leaf (.pair .shr je)))))))))),.val (.int .i64) .leaf],[.val .bool .leaf],mY k,[]⟩)::(Cr k)
theorem KR (k:Nat):ae Tryz.prog (yQ k):=ae.ev ax mixed (Oo k) nA nA k Tryz.func194 (by kernel_rfl) (fun x=>by kernel_rfl)
def qf (k:Nat):List (FuncId×aF):=(195,⟨[.io aE (.pair (.pair .leaf (.pair .leaf vc)) (.pair .leaf (.pair .leaf (.pair .own (.pair .own (.pair .own (.pair .leaf (.pair .own (.pair .leaf (.pair .own Cu)))))))))),.val aq (.pair .leaf (.pair .leaf (.pair qV (.pair .own (.pair .leaf (.pair .leaf (.pair .leaf (.pair .own uc))))))))],[.val (.int .i64) .leaf],gQ k,[(0,(dA 14 12))]⟩)::(yQ k)
theorem zy (k:Nat):ae Tryz.prog (qf k):=ae.ev ax mixed (KR k) nA nA k Tryz.func195 (by kernel_rfl) (fun x=>by kernel_rfl)
def qu (k:Nat):List (FuncId×aF):=(179,⟨[.io aE (.pair (.pair .leaf (.pair .leaf vc)) (.pair .leaf (.pair .leaf (.pair .own (.pair .own (.pair .own (.pair .leaf (.pair .own (.pair .leaf (.pair .own Cu)))))))))),.val (.int .i64) .leaf,.val ah (.pair .leaf (.pair .leaf (.pair qV (.pair .own (.pair .leaf S9))))),.val aq (.pair .leaf (.pair .leaf (.pair qV (.pair .own (.pair .leaf (.pair .leaf (.pair .leaf (.pair .own uc))))))))],[.val .bool .leaf],gR k,[]⟩)::(qf k)
theorem zx (k:Nat):ae Tryz.prog (qu k):=ae.ev ax mixed (zy k) nA nA k Tryz.func179 (by kernel_rfl) (fun x=>by kernel_rfl)
def qY (k:Nat):List (FuncId×aF):=(101,⟨[.io aE (.pair (.pair .leaf (.pair .leaf vc)) (.pair .leaf (.pair .leaf (.pair .own (.pair .own (.pair .own (.pair .leaf (.pair .own (.pair .leaf (.pair .own Cu)))))))))),.val (.int .i64) .leaf],[.val .bool .leaf],mg k,[]⟩)::(qu k)
theorem Bp (k:Nat):ae Tryz.prog (qY k):=ae.ev ax mixed (zx k) nA nA k Tryz.func101 (by kernel_rfl) (fun x=>by kernel_rfl)
def Cs (k:Nat):List (FuncId×aF):=(23,⟨[.val aE (.pair (.pair .leaf (.pair .leaf q0)) (.pair .leaf (.pair .leaf (.pair .shr (.pair .shr (.pair .shr (.pair .leaf (.pair .shr (.pair .leaf (.pair .shr je)))))))))),.val (.int .i64) .leaf],[.val aE (.pair (.pair .leaf (.pair .leaf vc)) (.pair .leaf (.pair .leaf (.pair .own (.pair .own (.pair .own (.pair .leaf (.pair .own (.pair .leaf (.pair .own Cu)))))))))),.val .bool .leaf],mo k,[]⟩)::(qY k)
theorem OV (k:Nat):ae Tryz.prog (Cs k):=ae.kL ax mixed (Bp k) (show cr Tryz.prog []from trivial) nA nA k Tryz.func23 (by kernel_rfl) (fun x=>by kernel_rfl)
def A6:Nat→Option aM:=fun|4=>some ⟨[(0,.val (.sl .str) (.sl (.sha [1]))),(1,.val (.sl .str) (.sl (.sha [1]))),(5,.val (.int .i64) .leaf)],3⟩|_=>none
def rW (k:Nat):List (FuncId×aF):=(138,⟨[.val (.sl .str) .shr,.val (.sl .str) .shr],[.val .bool .leaf],np k,[]⟩)::(Cs k)
theorem Ec (k:Nat):ae Tryz.prog (rW k):=ae.ev ax mixed (OV k) A6 nA k Tryz.func138 (by kernel_rfl) (fun x=>by kernel_rfl)
def xU (k:Nat):List (FuncId×aF):=(66,⟨[.val bC (.pair .leaf (.pair .leaf q0)),.val bC (.pair .leaf (.pair .leaf q0))],[.val .bool .leaf],mK k,[]⟩)::(rW k)
theorem Lu (k:Nat):ae Tryz.prog (xU k):=ae.ev ax mixed (Ec k) nA nA k Tryz.func66 (by kernel_rfl) (fun x=>by kernel_rfl)
def wY (k:Nat):List (FuncId×aF):=(106,⟨[.val af (.pair .leaf .leaf),.val af (.pair .leaf .leaf)],[.val .bool .leaf],iy k,[]⟩)::(xU k)
theorem JC (k:Nat):ae Tryz.prog (wY k):=ae.ev ax mixed (Lu k) nA nA k Tryz.func106 (by kernel_rfl) (fun x=>by kernel_rfl)
def D8:Nat→Option aM:=fun|4=>some ⟨[(0,.val (.sl af) (.sl (.sha [1]))),(1,.val (.sl af) (.sl (.sha [1]))),(5,.val (.int .i64) .leaf)],3⟩|_=>none
def ue (k:Nat):List (FuncId×aF):=(28,⟨[.val (.sl af) .shr,.val (.sl af) .shr],[.val .bool .leaf],ey k,[]⟩)::(wY k)
theorem E7 (k:Nat):ae Tryz.prog (ue k):=ae.ev ax mixed (JC k) D8 nA k Tryz.func28 (by kernel_rfl) (fun x=>by kernel_rfl)
def vU (k:Nat):List (FuncId×aF):=(34,⟨[.val ab q3,.val ab q3],[.val .bool .leaf],eO k,[]⟩)::(ue k)
theorem H7 (k:Nat):ae Tryz.prog (vU k):=ae.ev ax mixed (E7 k) nA nA k Tryz.func34 (by kernel_rfl) (fun x=>by kernel_rfl)
def DT:Nat→Option aM:=fun|4=>some ⟨[(0,.val (.sl ab) (.sl (.sha [1]))),(1,.val (.sl ab) (.sl (.sha [1]))),(5,.val (.int .i64) .leaf)],3⟩|_=>none
def tV (k:Nat):List (FuncId×aF):=(69,⟨[.val (.sl ab) .shr,.val (.sl ab) .shr],[.val .bool .leaf],dc k,[]⟩)::(vU k)
theorem Fj (k:Nat):ae Tryz.prog (tV k):=ae.ev ax mixed (H7 k) DT nA k Tryz.func69 (by kernel_rfl) (fun x=>by kernel_rfl)
def wq (k:Nat):List (FuncId×aF):=(309,⟨[.val ay (.pair .leaf .shr),.val ay (.pair .leaf .shr)],[.val .bool .leaf],iV k,[]⟩)::(tV k)
theorem IP (k:Nat):ae Tryz.prog (wq k):=ae.ev ax mixed (Fj k) nA nA k Tryz.func309 (by kernel_rfl) (fun x=>by kernel_rfl)
def Eg:Nat→Option aM:=fun|4=>some ⟨[(0,.val (.sl ay) (.sl (.sha [1]))),(1,.val (.sl ay) (.sl (.sha [1]))),(5,.val (.int .i64) .leaf)],3⟩|_=>none
def tw (k:Nat):List (FuncId×aF):=(233,⟨[.val (.sl ay) .shr,.val (.sl ay) .shr],[.val .bool .leaf],nV k,[]⟩)::(wq k)
theorem Fa (k:Nat):ae Tryz.prog (tw k):=ae.ev ax mixed (IP k) Eg nA k Tryz.func233 (by kernel_rfl) (fun x=>by kernel_rfl)
def yl (k:Nat):List (FuncId×aF):=(139,⟨[.val ak (.pair .leaf (.pair .leaf .shr)),.val ak (.pair .leaf (.pair .leaf .shr))],[.val .bool .leaf],jH k,[]⟩)::(tw k)
theorem Lj (k:Nat):ae Tryz.prog (yl k):=ae.ev ax mixed (Fa k) nA nA k Tryz.func139 (by kernel_rfl) (fun x=>by kernel_rfl)
def FV:Nat→Option aM:=fun|4=>some ⟨[(0,.val (.sl ak) (.sl (.sha [1]))),(1,.val (.sl ak) (.sl (.sha [1]))),(5,.val (.int .i64) .leaf)],3⟩|_=>none
def wN (k:Nat):List (FuncId×aF):=(67,⟨[.val (.sl ak) .shr,.val (.sl ak) .shr],[.val .bool .leaf],oZ k,[]⟩)::(yl k)
theorem IW (k:Nat):ae Tryz.prog (wN k):=ae.ev ax mixed (Lj k) FV nA k Tryz.func67 (by kernel_rfl) (fun x=>by kernel_rfl)
def zn (k:Nat):List (FuncId×aF):=(140,⟨[.val aU (.pair .shr .leaf),.val aU (.pair .shr .leaf)],[.val .bool .leaf],kW k,[]⟩)::(wN k)
theorem Ns (k:Nat):ae Tryz.prog (zn k):=ae.ev ax mixed (IW k) nA nA k Tryz.func140 (by kernel_rfl) (fun x=>by kernel_rfl)
def Ii:Nat→Option aM:=fun|4=>some ⟨[(0,.val (.sl aU) (.sl (.sha [1]))),(1,.val (.sl aU) (.sl (.sha [1]))),(5,.val (.int .i64) .leaf)],3⟩|_=>none
def xQ (k:Nat):List (FuncId×aF):=(68,⟨[.val (.sl aU) .shr,.val (.sl aU) .shr],[.val .bool .leaf],qA k,[]⟩)::(zn k)
theorem KY (k:Nat):ae Tryz.prog (xQ k):=ae.ev ax mixed (Ns k) Ii nA k Tryz.func68 (by kernel_rfl) (fun x=>by kernel_rfl)
def wx (k:Nat):List (FuncId×aF):=(141,⟨[.val aj (.pair .leaf q4),.val aj (.pair .leaf q4)],[.val .bool .leaf],iH k,[]⟩)::(xQ k)
theorem IE (k:Nat):ae Tryz.prog (wx k):=ae.ev ax mixed (KY k) nA nA k Tryz.func141 (by kernel_rfl) (fun x=>by kernel_rfl)
def CL:Nat→Option aM:=fun|4=>some ⟨[(0,.val (.sl aj) (.sl (.sha [1]))),(1,.val (.sl aj) (.sl (.sha [1]))),(5,.val (.int .i64) .leaf)],3⟩|_=>none
def tj (k:Nat):List (FuncId×aF):=(70,⟨[.val (.sl aj) .shr,.val (.sl aj) .shr],[.val .bool .leaf],oR k,[]⟩)::(wx k)
theorem F8 (k:Nat):ae Tryz.prog (tj k):=ae.ev ax mixed (IE k) CL nA k Tryz.func70 (by kernel_rfl) (fun x=>by kernel_rfl)
def wW (k:Nat):List (FuncId×aF):=(142,⟨[.val aC (.pair .leaf .leaf),.val aC (.pair .leaf .leaf)],[.val .bool .leaf],il k,[]⟩)::(tj k)
theorem IZ (k:Nat):ae Tryz.prog (wW k):=ae.ev ax mixed (F8 k) nA nA k Tryz.func142 (by kernel_rfl) (fun x=>by kernel_rfl)
def C8:Nat→Option aM:=fun|4=>some ⟨[(0,.val (.sl aC) (.sl (.sha [1]))),(1,.val (.sl aC) (.sl (.sha [1]))),(5,.val (.int .i64) .leaf)],3⟩|_=>none
def uF (k:Nat):List (FuncId×aF):=(71,⟨[.val (.sl aC) .shr,.val (.sl aC) .shr],[.val .bool .leaf],nU k,[]⟩)::(wW k)
theorem FG (k:Nat):ae Tryz.prog (uF k):=ae.ev ax mixed (IZ k) C8 nA k Tryz.func71 (by kernel_rfl) (fun x=>by kernel_rfl)
def vA (k:Nat):List (FuncId×aF):=(143,⟨[.val aN q6,.val aN q6],[.val .bool .leaf],iQ k,[]⟩)::(uF k)
theorem Ib (k:Nat):ae Tryz.prog (vA k):=ae.ev ax mixed (FG k) nA nA k Tryz.func143 (by kernel_rfl) (fun x=>by kernel_rfl)
def DG:Nat→Option aM:=fun|4=>some ⟨[(0,.val (.sl aN) (.sl (.sha [1]))),(1,.val (.sl aN) (.sl (.sha [1]))),(5,.val (.int .i64) .leaf)],3⟩|_=>none
def tM (k:Nat):List (FuncId×aF):=(72,⟨[.val (.sl aN) .shr,.val (.sl aN) .shr],[.val .bool .leaf],oN k,[]⟩)::(vA k)
theorem FO (k:Nat):ae Tryz.prog (tM k):=ae.ev ax mixed (Ib k) DG nA k Tryz.func72 (by kernel_rfl) (fun x=>by kernel_rfl)
end Vg.Tryz
namespace Vg.Tryz
open Go Vg Go.Proofs
set_option linter.unusedVariables false
set_option maxRecDepth 1000000
def Hx:Nat→Option aM:=fun|4=>some ⟨[(0,.val (.sl (.int .i64)) (.sl (.sha [1]))),(1,.val (.sl (.int .i64)) (.sl (.sha [1]))),(5,.val (.int .i64) .leaf)],3⟩|_=>none
def xM (k:Nat):List (FuncId×aF):=(234,⟨[.val (.sl (.int .i64)) .shr,.val (.sl (.int .i64)) .shr],[.val .bool .leaf],qH k,[]⟩)::(tM k)
theorem KS (k:Nat):ae Tryz.prog (xM k):=ae.ev ax mixed (FO k) Hx nA k Tryz.func234 (by kernel_rfl) (fun x=>by kernel_rfl)
def yu (k:Nat):List (FuncId×aF):=(144,⟨[.val ah (.pair .leaf (.pair .leaf (.pair q3 (.pair .shr (.pair .leaf q7))))),.val ah (.pair .leaf (.pair .leaf (.pair q3 (.pair .shr (.pair .leaf q7)))))],[.val .bool .leaf],jS k,[]⟩)::(xM k)
theorem KQ (k:Nat):ae Tryz.prog (yu k):=ae.ev ax mixed (KS k) nA nA k Tryz.func144 (by kernel_rfl) (fun x=>by kernel_rfl)
def Gn:Nat→Option aM:=fun|4=>some ⟨[(0,.val (.sl ah) (.sl (.sha [1]))),(1,.val (.sl ah) (.sl (.sha [1]))),(5,.val (.int .i64) .leaf)],3⟩|_=>none
def vu (k:Nat):List (FuncId×aF):=(73,⟨[.val (.sl ah) .shr,.val (.sl ah) .shr],[.val .bool .leaf],o9 k,[]⟩)::(yu k)
theorem Il (k:Nat):ae Tryz.prog (vu k):=ae.ev ax mixed (KQ k) Gn nA k Tryz.func73 (by kernel_rfl) (fun x=>by kernel_rfl)
def yR (k:Nat):List (FuncId×aF):=(145,⟨[.val aq (.pair .leaf (.pair .leaf (.pair q3 (.pair .shr (.pair .leaf (.pair .leaf (.pair .leaf (.pair .shr uc)))))))),.val aq (.pair .leaf (.pair .leaf (.pair q3 (.pair .shr (.pair .leaf (.pair .leaf (.pair .leaf (.pair .shr uc))))))))],[.val .bool .leaf],jE k,[]⟩)::(vu k)
theorem K5 (k:Nat):ae Tryz.prog (yR k):=ae.ev ax mixed (Il k) nA nA k Tryz.func145 (by kernel_rfl) (fun x=>by kernel_rfl)
def El:Nat→Option aM:=fun|4=>some ⟨[(0,.val (.sl aq) (.sl (.sha [1]))),(1,.val (.sl aq) (.sl (.sha [1]))),(5,.val (.int .i64) .leaf)],3⟩|_=>none
def vJ (k:Nat):List (FuncId×aF):=(74,⟨[.val (.sl aq) .shr,.val (.sl aq) .shr],[.val .bool .leaf],pB k,[]⟩)::(yR k)
theorem Hv (k:Nat):ae Tryz.prog (vJ k):=ae.ev ax mixed (K5 k) El nA k Tryz.func74 (by kernel_rfl) (fun x=>by kernel_rfl)
def wo (k:Nat):List (FuncId×aF):=(17,⟨[.val aE (.pair (.pair .leaf (.pair .leaf q0)) (.pair .leaf (.pair .leaf (.pair .shr (.pair .shr (.pair .shr (.pair .leaf (.pair .shr (.pair .leaf (.pair .shr je)))))))))),.val aE (.pair (.pair .leaf (.pair .leaf q0)) (.pair .leaf (.pair .leaf (.pair .shr (.pair .shr (.pair .shr (.pair .leaf (.pair .shr (.pair .leaf (.pair .shr je))))))))))],[.val .bool .leaf],eP k,[]⟩)::(vJ k)
theorem IH (k:Nat):ae Tryz.prog (wo k):=ae.ev ax mixed (Hv k) nA nA k Tryz.func17 (by kernel_rfl) (fun x=>by kernel_rfl)
def D7:Nat→Option aM:=fun|4=>some ⟨[(0,.val (.int .i64) .leaf),(3,.val .str .leaf)],3⟩|_=>none
def DK:Nat→Option aM:=fun|7=>some ⟨[(3,.val .str .leaf)],3⟩|_=>none
def uj (k:Nat):List (FuncId×aF):=(107,⟨[.val (.int .i64) .leaf],[.val .str .leaf],bS k,[]⟩)::(wo k)
theorem bT (k:Nat):ae Tryz.prog (uj k):=ae.ev ax mixed (IH k) D7 DK k Tryz.func107 (by kernel_rfl) (fun x=>by kernel_rfl)
def ze:Nat→Option aM:=fun|2=>some ⟨[(0,.val (.sl .str) (.sl (.row 3 [3] true))),(1,.val (.int .i64) .leaf),(5,.val (.int .i64) .leaf)],4⟩|_=>none
def pZ (k:Nat):List (FuncId×dE):=(180,⟨(.sl .str),kz k⟩)::([]:List (FuncId×dE))
theorem zR (k:Nat):cr Tryz.prog (pZ k):=cr.ev ax mixed (bT k) (show cr Tryz.prog []from trivial) ze nA k Tryz.func180 (by kernel_rfl) (fun x n=>by kernel_rfl)
def tZ (k:Nat):List (FuncId×dE):=(83,⟨bC,oj k⟩)::(pZ k)
theorem Fc (k:Nat):cr Tryz.prog (tZ k):=cr.ev ax mixed (bT k) (zR k) nA nA k Tryz.func83 (by kernel_rfl) (fun x n=>by kernel_rfl)
def zD:Nat→Option aM:=fun|2=>some ⟨[(0,.val (.sl af) (.sl (.row 3 [3] true))),(1,.val (.int .i64) .leaf),(5,.val (.int .i64) .leaf)],4⟩|_=>none
def rb (k:Nat):List (FuncId×dE):=(29,⟨(.sl af),cX k⟩)::(tZ k)
theorem BD (k:Nat):cr Tryz.prog (rb k):=cr.ev ax mixed (bT k) (Fc k) zD nA k Tryz.func29 (by kernel_rfl) (fun x n=>by kernel_rfl)
def zr:Nat→Option aM:=fun|2=>some ⟨[(0,.val (.sl ab) (.sl (.row 3 [3] true))),(1,.val (.int .i64) .leaf),(5,.val (.int .i64) .leaf)],4⟩|_=>none
def rj (k:Nat):List (FuncId×dE):=(86,⟨(.sl ab),cG k⟩)::(rb k)
theorem BC (k:Nat):cr Tryz.prog (rj k):=cr.ev ax mixed (bT k) (BD k) zr nA k Tryz.func86 (by kernel_rfl) (fun x n=>by kernel_rfl)
def Ah:Nat→Option aM:=fun|2=>some ⟨[(0,.val (.sl ay) (.sl (.row 3 [3] true))),(1,.val (.int .i64) .leaf),(5,.val (.int .i64) .leaf)],4⟩|_=>none
def qX (k:Nat):List (FuncId×dE):=(181,⟨(.sl ay),me k⟩)::(rj k)
theorem BW (k:Nat):cr Tryz.prog (qX k):=cr.ev ax mixed (bT k) (BC k) Ah nA k Tryz.func181 (by kernel_rfl) (fun x n=>by kernel_rfl)
def BN:Nat→Option aM:=fun|2=>some ⟨[(0,.val (.sl ak) (.sl (.row 3 [3] true))),(1,.val (.int .i64) .leaf),(5,.val (.int .i64) .leaf)],4⟩|_=>none
def sn (k:Nat):List (FuncId×dE):=(84,⟨(.sl ak),nE k⟩)::(qX k)
theorem Di (k:Nat):cr Tryz.prog (sn k):=cr.ev ax mixed (bT k) (BW k) BN nA k Tryz.func84 (by kernel_rfl) (fun x n=>by kernel_rfl)
def CX:Nat→Option aM:=fun|2=>some ⟨[(0,.val (.sl aU) (.sl (.row 3 [3] true))),(1,.val (.int .i64) .leaf),(5,.val (.int .i64) .leaf)],4⟩|_=>none
def uA (k:Nat):List (FuncId×dE):=(85,⟨(.sl aU),oD k⟩)::(sn k)
theorem Ev (k:Nat):cr Tryz.prog (uA k):=cr.ev ax mixed (bT k) (Di k) CX nA k Tryz.func85 (by kernel_rfl) (fun x n=>by kernel_rfl)
def zl:Nat→Option aM:=fun|2=>some ⟨[(0,.val (.sl aj) (.sl (.row 3 [3] true))),(1,.val (.int .i64) .leaf),(5,.val (.int .i64) .leaf)],4⟩|_=>none
def qU (k:Nat):List (FuncId×dE):=(87,⟨(.sl aj),mi k⟩)::(uA k)
theorem A8 (k:Nat):cr Tryz.prog (qU k):=cr.ev ax mixed (bT k) (Ev k) zl nA k Tryz.func87 (by kernel_rfl) (fun x n=>by kernel_rfl)
def zW:Nat→Option aM:=fun|2=>some ⟨[(0,.val (.sl aC) (.sl (.row 3 [3] true))),(1,.val (.int .i64) .leaf),(5,.val (.int .i64) .leaf)],4⟩|_=>none
def qM (k:Nat):List (FuncId×dE):=(88,⟨(.sl aC),lX k⟩)::(qU k)
theorem Bc (k:Nat):cr Tryz.prog (qM k):=cr.ev ax mixed (bT k) (A8 k) zW nA k Tryz.func88 (by kernel_rfl) (fun x n=>by kernel_rfl)
def zh:Nat→Option aM:=fun|2=>some ⟨[(0,.val (.sl aN) (.sl (.row 3 [3] true))),(1,.val (.int .i64) .leaf),(5,.val (.int .i64) .leaf)],4⟩|_=>none
def rl (k:Nat):List (FuncId×dE):=(89,⟨(.sl aN),ma k⟩)::(qM k)
theorem Bl (k:Nat):cr Tryz.prog (rl k):=cr.ev ax mixed (bT k) (Bc k) zh nA k Tryz.func89 (by kernel_rfl) (fun x n=>by kernel_rfl)
def C3:Nat→Option aM:=fun|2=>some ⟨[(0,.val (.sl (.int .i64)) (.sl (.row 3 [3] true))),(1,.val (.int .i64) .leaf),(5,.val (.int .i64) .leaf)],4⟩|_=>none
def uz (k:Nat):List (FuncId×dE):=(182,⟨(.sl (.int .i64)),oP k⟩)::(rl k)
theorem Hn (k:Nat):cr Tryz.prog (uz k):=cr.ev ax mixed (bT k) (Bl k) C3 nA k Tryz.func182 (by kernel_rfl) (fun x n=>by kernel_rfl)
def BA:Nat→Option aM:=fun|2=>some ⟨[(0,.val (.sl ah) (.sl (.row 3 [3] true))),(1,.val (.int .i64) .leaf),(5,.val (.int .i64) .leaf)],4⟩|_=>none
def sY (k:Nat):List (FuncId×dE):=(90,⟨(.sl ah),nr k⟩)::(uz k)
theorem Dl (k:Nat):cr Tryz.prog (sY k):=cr.ev ax mixed (bT k) (Hn k) BA nA k Tryz.func90 (by kernel_rfl) (fun x n=>by kernel_rfl)
def A4:Nat→Option aM:=fun|2=>some ⟨[(0,.val (.sl aq) (.sl (.row 3 [3] true))),(1,.val (.int .i64) .leaf),(5,.val (.int .i64) .leaf)],4⟩|_=>none
def rP (k:Nat):List (FuncId×dE):=(91,⟨(.sl aq),nw k⟩)::(sY k)
theorem CE (k:Nat):cr Tryz.prog (rP k):=cr.ev ax mixed (bT k) (Dl k) A4 nA k Tryz.func91 (by kernel_rfl) (fun x n=>by kernel_rfl)
def D6 (k:Nat):List (FuncId×dE):=(20,⟨aE,fV k⟩)::(rP k)
theorem Dm (k:Nat):cr Tryz.prog (D6 k):=cr.ev ax mixed (bT k) (CE k) nA nA k Tryz.func20 (by kernel_rfl) (fun x n=>by kernel_rfl)
def zc:Nat→Option aM:=fun|2=>some ⟨[(0,.val (.sl .str) (.sl (.sha [1]))),(1,.val (.int .i64) .leaf),(5,.val (.int .i64) .leaf)],3⟩|_=>none
def qs (k:Nat):List (FuncId×aF):=(183,⟨[.val (.sl .str) .shr,.val (.int .i64) .leaf],[.val (.int .i64) .leaf],kG k,[]⟩)::(uj k)
theorem As (k:Nat):ae Tryz.prog (qs k):=ae.ev ax mixed (bT k) zc nA k Tryz.func183 (by kernel_rfl) (fun x=>by kernel_rfl)
def tS (k:Nat):List (FuncId×aF):=(92,⟨[.val bC (.pair .leaf (.pair .leaf q0)),.val (.int .i64) .leaf],[.val (.int .i64) .leaf],ot k,[]⟩)::(qs k)
theorem Gt (k:Nat):ae Tryz.prog (tS k):=ae.ev ax mixed (As k) nA nA k Tryz.func92 (by kernel_rfl) (fun x=>by kernel_rfl)
def zU:Nat→Option aM:=fun|2=>some ⟨[(0,.val (.sl af) (.sl (.sha [1]))),(1,.val (.int .i64) .leaf),(5,.val (.int .i64) .leaf)],3⟩|_=>none
def rk (k:Nat):List (FuncId×aF):=(185,⟨[.val (.sl af) .shr,.val (.int .i64) .leaf],[.val (.int .i64) .leaf],cW k,[]⟩)::(tS k)
theorem BL (k:Nat):ae Tryz.prog (rk k):=ae.ev ax mixed (Gt k) zU nA k Tryz.func185 (by kernel_rfl) (fun x=>by kernel_rfl)
def zY:Nat→Option aM:=fun|2=>some ⟨[(0,.val (.sl ab) (.sl (.sha [1]))),(1,.val (.int .i64) .leaf),(5,.val (.int .i64) .leaf)],3⟩|_=>none
def re (k:Nat):List (FuncId×aF):=(95,⟨[.val (.sl ab) .shr,.val (.int .i64) .leaf],[.val (.int .i64) .leaf],cF k,[]⟩)::(rk k)
theorem BQ (k:Nat):ae Tryz.prog (re k):=ae.ev ax mixed (BL k) zY nA k Tryz.func95 (by kernel_rfl) (fun x=>by kernel_rfl)
end Vg.Tryz
namespace Vg.Tryz
open Go Vg Go.Proofs
set_option linter.unusedVariables false
set_option maxRecDepth 1000000
def Aq:Nat→Option aM:=fun|2=>some ⟨[(0,.val (.sl ay) (.sl (.sha [1]))),(1,.val (.int .i64) .leaf),(5,.val (.int .i64) .leaf)],3⟩|_=>none
def qN (k:Nat):List (FuncId×aF):=(184,⟨[.val (.sl ay) .shr,.val (.int .i64) .leaf],[.val (.int .i64) .leaf],l0 k,[]⟩)::(re k)
theorem Bj (k:Nat):ae Tryz.prog (qN k):=ae.ev ax mixed (BQ k) Aq nA k Tryz.func184 (by kernel_rfl) (fun x=>by kernel_rfl)
def Br:Nat→Option aM:=fun|2=>some ⟨[(0,.val (.sl ak) (.sl (.sha [1]))),(1,.val (.int .i64) .leaf),(5,.val (.int .i64) .leaf)],3⟩|_=>none
def sW (k:Nat):List (FuncId×aF):=(93,⟨[.val (.sl ak) .shr,.val (.int .i64) .leaf],[.val (.int .i64) .leaf],ni k,[]⟩)::(qN k)
theorem CM (k:Nat):ae Tryz.prog (sW k):=ae.ev ax mixed (Bj k) Br nA k Tryz.func93 (by kernel_rfl) (fun x=>by kernel_rfl)
def Dr:Nat→Option aM:=fun|2=>some ⟨[(0,.val (.sl aU) (.sl (.sha [1]))),(1,.val (.int .i64) .leaf),(5,.val (.int .i64) .leaf)],3⟩|_=>none
def ui (k:Nat):List (FuncId×aF):=(94,⟨[.val (.sl aU) .shr,.val (.int .i64) .leaf],[.val (.int .i64) .leaf],oK k,[]⟩)::(sW k)
theorem FH (k:Nat):ae Tryz.prog (ui k):=ae.ev ax mixed (CM k) Dr nA k Tryz.func94 (by kernel_rfl) (fun x=>by kernel_rfl)
def zP:Nat→Option aM:=fun|2=>some ⟨[(0,.val (.sl aj) (.sl (.sha [1]))),(1,.val (.int .i64) .leaf),(5,.val (.int .i64) .leaf)],3⟩|_=>none
def rn (k:Nat):List (FuncId×aF):=(96,⟨[.val (.sl aj) .shr,.val (.int .i64) .leaf],[.val (.int .i64) .leaf],mc k,[]⟩)::(ui k)
theorem BP (k:Nat):ae Tryz.prog (rn k):=ae.ev ax mixed (FH k) zP nA k Tryz.func96 (by kernel_rfl) (fun x=>by kernel_rfl)
def Ay:Nat→Option aM:=fun|2=>some ⟨[(0,.val (.sl aC) (.sl (.sha [1]))),(1,.val (.int .i64) .leaf),(5,.val (.int .i64) .leaf)],3⟩|_=>none
def qL (k:Nat):List (FuncId×aF):=(97,⟨[.val (.sl aC) .shr,.val (.int .i64) .leaf],[.val (.int .i64) .leaf],mj k,[]⟩)::(rn k)
theorem AX (k:Nat):ae Tryz.prog (qL k):=ae.ev ax mixed (BP k) Ay nA k Tryz.func97 (by kernel_rfl) (fun x=>by kernel_rfl)
def Ai:Nat→Option aM:=fun|2=>some ⟨[(0,.val (.sl aN) (.sl (.sha [1]))),(1,.val (.int .i64) .leaf),(5,.val (.int .i64) .leaf)],3⟩|_=>none
def rh (k:Nat):List (FuncId×aF):=(98,⟨[.val (.sl aN) .shr,.val (.int .i64) .leaf],[.val (.int .i64) .leaf],mh k,[]⟩)::(qL k)
theorem A3 (k:Nat):ae Tryz.prog (rh k):=ae.ev ax mixed (AX k) Ai nA k Tryz.func98 (by kernel_rfl) (fun x=>by kernel_rfl)
def CW:Nat→Option aM:=fun|2=>some ⟨[(0,.val (.sl (.int .i64)) (.sl (.sha [1]))),(1,.val (.int .i64) .leaf),(5,.val (.int .i64) .leaf)],3⟩|_=>none
def tu (k:Nat):List (FuncId×aF):=(186,⟨[.val (.sl (.int .i64)) .shr,.val (.int .i64) .leaf],[.val (.int .i64) .leaf],ov k,[]⟩)::(rh k)
theorem Gz (k:Nat):ae Tryz.prog (tu k):=ae.ev ax mixed (A3 k) CW nA k Tryz.func186 (by kernel_rfl) (fun x=>by kernel_rfl)
def Bk:Nat→Option aM:=fun|2=>some ⟨[(0,.val (.sl ah) (.sl (.sha [1]))),(1,.val (.int .i64) .leaf),(5,.val (.int .i64) .leaf)],3⟩|_=>none
def rZ (k:Nat):List (FuncId×aF):=(99,⟨[.val (.sl ah) .shr,.val (.int .i64) .leaf],[.val (.int .i64) .leaf],nv k,[]⟩)::(tu k)
theorem CI (k:Nat):ae Tryz.prog (rZ k):=ae.ev ax mixed (Gz k) Bk nA k Tryz.func99 (by kernel_rfl) (fun x=>by kernel_rfl)
def AY:Nat→Option aM:=fun|2=>some ⟨[(0,.val (.sl aq) (.sl (.sha [1]))),(1,.val (.int .i64) .leaf),(5,.val (.int .i64) .leaf)],3⟩|_=>none
def sN (k:Nat):List (FuncId×aF):=(100,⟨[.val (.sl aq) .shr,.val (.int .i64) .leaf],[.val (.int .i64) .leaf],nz k,[]⟩)::(rZ k)
theorem Ea (k:Nat):ae Tryz.prog (sN k):=ae.ev ax mixed (CI k) AY nA k Tryz.func100 (by kernel_rfl) (fun x=>by kernel_rfl)
def sr (k:Nat):List (FuncId×aF):=(21,⟨[.val aE (.pair (.pair .leaf (.pair .leaf q0)) (.pair .leaf (.pair .leaf (.pair .shr (.pair .shr (.pair .shr (.pair .leaf (.pair .shr (.pair .leaf (.pair .shr je)))))))))),.val (.int .i64) .leaf],[.val (.int .i64) .leaf],fY k,[]⟩)::(sN k)
theorem Dd (k:Nat):ae Tryz.prog (sr k):=ae.ev ax mixed (Ea k) nA nA k Tryz.func21 (by kernel_rfl) (fun x=>by kernel_rfl)
def AG (k:Nat):List (FuncId×aF):=(5,⟨[.val aE (.pair (.pair .leaf (.pair .leaf q0)) (.pair .leaf (.pair .leaf (.pair .shr (.pair .shr (.pair .shr (.pair .leaf (.pair .shr (.pair .leaf (.pair .shr je)))))))))),.val (.int .i64) .leaf],[.val .bool .leaf],kT k,[]⟩)::(sr k)
theorem zz (k:Nat):ae Tryz.prog (AG k):=ae.kL ax mixed (Dd k) (Dm k) nA nA k Tryz.func5 (by kernel_rfl) (fun x=>by kernel_rfl)
end Vg.Tryz
