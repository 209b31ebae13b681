/- Texts of this law, joined. -/
import Derived.Shelf.Strings.OnBuilder
import Derived.Test.YteoefigcipiffaaGreatF
import Derived.Test.YteoefigcipiffaaGreatProg
import Derived.Test.YteoefigcipiffaaGreatVc
import Derived.Deep.QuietTactic
import Derived.WalkKit
import Derived.Shelf.GgSortFunc.Lays
import Derived.Shelf.GgSortMore.Bridge
import Derived.Ground.GgtProg
import Derived.Test.YteoefigcipiffaaGreatVd
namespace Go.Proofs
open Go.Shelf
def Tryz.B5:Go.Shelf.Ren:=⟨fun|156=>391|165=>396|166=>397|169=>398|240=>400|241=>401|276=>402|277=>403|n=>n,fun|31=>22|9=>9|3=>3|4=>4|0=>0|20=>20|72=>322|76=>325|70=>320|37=>204|75=>324|127=>328|164=>298|5=>5|80=>327|n=>n,fun|n=>n⟩
theorem Tryz.Po:Go.Proofs.Lays.n156 Tryz.prog Tryz.B5:={
 mixed:=by kernel_rfl
 f156:=Tryz.func391.trans (congrArg some (by kernel_rfl))
 f165:=Tryz.func396.trans (congrArg some (by kernel_rfl))
 f166:=Tryz.func397.trans (congrArg some (by kernel_rfl))
 f169:=Tryz.func398.trans (congrArg some (by kernel_rfl))
 f240:=Tryz.func400.trans (congrArg some (by kernel_rfl))
 f241:=Tryz.func401.trans (congrArg some (by kernel_rfl))
 f276:=Tryz.func402.trans (congrArg some (by kernel_rfl))
 f277:=Tryz.func403.trans (congrArg some (by kernel_rfl))
 t0:=Tryz.underlying0
 a0:=Tryz.isAgg0
 z0:=Tryz.sizeOf0
 v0:=Tryz.zeroValue0
 t3:=Tryz.underlying3
 a3:=Tryz.isAgg3
 z3:=Tryz.sizeOf3
 v3:=Tryz.zeroValue3
 t4:=Tryz.underlying4
 a4:=Tryz.isAgg4
 z4:=Tryz.sizeOf4
 v4:=Tryz.zeroValue4
 t9:=Tryz.underlying9
 a9:=Tryz.isAgg9
 z9:=Tryz.sizeOf9
 v9:=Tryz.zeroValue9
 t20:=Tryz.underlying20
 a20:=Tryz.isAgg20
 z20:=Tryz.sizeOf20
 v20:=Tryz.zeroValue20
 t31:=Tryz.underlying22
 a31:=Tryz.isAgg22
 z31:=Tryz.sizeOf22
 v31:=Tryz.zeroValue22
 t37:=Tryz.underlying204
 a37:=Tryz.isAgg204
 z37:=Tryz.sizeOf204
 v37:=Tryz.zeroValue204
 t70:=Tryz.underlying320
 a70:=Tryz.isAgg320
 z70:=Tryz.sizeOf320
 v70:=Tryz.zeroValue320
 t72:=Tryz.underlying322
 a72:=Tryz.isAgg322
 z72:=Tryz.sizeOf322
 v72:=Tryz.zeroValue322
 t75:=Tryz.underlying324
 a75:=Tryz.isAgg324
 z75:=Tryz.sizeOf324
 v75:=Tryz.zeroValue324
 t76:=Tryz.underlying325
 a76:=Tryz.isAgg325
 z76:=Tryz.sizeOf325
 v76:=Tryz.zeroValue325
 t127:=Tryz.underlying328
 a127:=Tryz.isAgg328
 z127:=Tryz.sizeOf328
 v127:=Tryz.zeroValue328
 t164:=Tryz.underlying298
 a164:=Tryz.isAgg298
 z164:=Tryz.sizeOf298
 v164:=Tryz.zeroValue298}
theorem Tryz.rh:Builder.Extra Tryz.prog Tryz.B5:={
 sizeBuilder:=by kernel_rfl
 liesBuilder:=by kernel_rfl
 t5:=Tryz.underlying5
 a5:=Tryz.isAgg5
 z5:=Tryz.sizeOf5
 v5:=Tryz.zeroValue5
 infoByte:=by kernel_rfl
 cellsByte:=by kernel_rfl
 sizeByte:=by kernel_rfl
 neB5:=by decide}
open Go.RowKit in
theorem Tryz.strings_Join_none (a:Option Addr) (c:Nat) (sep:ByteArray) (w:World):
 Calls Tryz.prog 391 #[.slice a 0 c,.string sep] w fun e w'=>e= .returned (.string ⟨#[]⟩)∧w'=w:=Any.strings_Join_none Tryz.Po Tryz.rh a c sep w
open Go.RowKit in
theorem Tryz.strings_Join (bk o c:Nat) (xs:List ByteArray) (sep:ByteArray) (w:World) (hcells:∀(j:Nat) x,xs[j]?=some x→w.cell? ⟨bk,o+j,none⟩=some (.string x)) (hbk:bk<w.heap.size) (hN:xs.length≤140737488355328) (hcap:xs.length≤c) (hlen:(Lib.join (xs.map (·.data.toList)) sep.data.toList).length≤140737488355328):
 Calls Tryz.prog 391 #[.slice (some ⟨bk,o,none⟩) xs.length c,.string sep] w fun e w'=>e= .returned (.string ⟨(Lib.join (xs.map (·.data.toList)) sep.data.toList).toArray⟩)∧Below w.heap.size w w':=Any.strings_Join Tryz.Po Tryz.rh bk o c xs sep w hcells hbk hN hcap hlen
def Tryz.MX:Go.Shelf.Ren:=⟨fun|26=>388|n=>n,fun|44=>306|3=>3|0=>0|4=>4|26=>281|37=>217|n=>n,fun|n=>n⟩
theorem Tryz.R8:Go.Proofs.LaysGg.n26 Tryz.prog Tryz.MX:={
 mixed:=by kernel_rfl
 f26:=Tryz.func388.trans (congrArg some (by kernel_rfl))
 t0:=Tryz.underlying0
 a0:=Tryz.isAgg0
 z0:=Tryz.sizeOf0
 v0:=Tryz.zeroValue0
 i0:=by kernel_rfl
 t3:=Tryz.underlying3
 a3:=Tryz.isAgg3
 z3:=Tryz.sizeOf3
 v3:=Tryz.zeroValue3
 i3:=by kernel_rfl
 t4:=Tryz.underlying4
 a4:=Tryz.isAgg4
 z4:=Tryz.sizeOf4
 v4:=Tryz.zeroValue4
 i4:=by kernel_rfl
 t26:=Tryz.underlying281
 a26:=Tryz.isAgg281
 z26:=Tryz.sizeOf281
 v26:=Tryz.zeroValue281
 i26:=by kernel_rfl
 t37:=Tryz.underlying217
 a37:=Tryz.isAgg217
 z37:=Tryz.sizeOf217
 v37:=Tryz.zeroValue217
 i37:=by kernel_rfl
 t44:=Tryz.underlying306
 a44:=Tryz.isAgg306
 z44:=Tryz.sizeOf306
 v44:=Tryz.zeroValue306
 i44:=by kernel_rfl}
open Go.RowKit Go.Lib Go.Sort in
open Go.RowKit Go.Lib Go.Sort in
open Go.RowKit Go.Lib Go.Sort in
open Go.RowKit Go.Lib Go.Sort in
open Go.RowKit Go.Lib Go.Sort in
open Go.RowKit Go.Lib Go.Sort in
open Go.RowKit Go.Lib Go.Sort in
open Go.RowKit Go.Lib Go.Sort in
open Go.RowKit Go.Lib Go.Sort in
theorem Tryz.insertionSort_func_cells_w {α:Type} [Inhabited α] (enc:α→List Value) (k:Nat) (hk:∀x,(enc x).length=k) (lt:α→α→Bool) (g:Nat) (lb:Array Value) (sf:Nat) (sb:Array Value) (blk off a b:Nat) (d:Array α) (w:World) (eg:∀args w,(callFunc g args).run Tryz.prog w= .ok (.enter g args) w) (hless:LessReadsK Tryz.prog g lb enc k lt blk off d.size w) (hswap:SwapSwapsK Tryz.prog sf sb enc k blk off d.size) (hH:HoldsK enc k w blk off d) (hblk:blk<w.heap.size) (hab:a≤b) (hb:b≤d.size) (hsz:d.size<4611686018427387904):
 Calls Tryz.prog 388 #[.agg #[.func (.func g) #[] lb,.func (.func sf) #[] sb],.int .i64 a,.int .i64 b] w fun e w'=>e= .returned (.tuple #[])∧∃n os,w'=sortWorldK enc k w blk off n (Sort.insertionSort lt d a b) os:=Any.insertionSort_func_cells_w Tryz.R8 enc k hk lt g lb sf sb blk off a b d w eg hless hswap hH hblk hab hb hsz
end Go.Proofs
namespace Vg.Tryz
open Go Vg Go.Proofs
def vC (k:Nat):aF:=⟨[.val (.sl .str) .shr,.val .str .leaf],[.val .str .leaf],pL k,[]⟩
set_option maxRecDepth 1000000 in
theorem JH (k:Nat):oJ Tryz.prog 391 (vC k):=PN Tryz.func391 (by kernel_rfl) (by kernel_rfl) Tryz.strings_Join_none Tryz.strings_Join
end Vg.Tryz
namespace Go.Proofs
open Go.RowKit
def O3:Value→Int| .int _ q=>q|_=>0
set_option maxHeartbeats 4000000 in
set_option maxRecDepth 100000 in
theorem Tryz.LO (pa pb:Option Addr) (ca cb:Nat) (a b:List (ByteArray×ByteArray)) (W:World) (la:a.length<4611686018427387904) (lb:b.length<4611686018427387904)
 (ha:∀i,i<a.length→∃bk o,pa=some ⟨bk,o,none⟩∧W.cell? ⟨bk,o+i*2,none⟩=some (.string (a.getD i (ByteArray.empty,ByteArray.empty)).1)∧W.cell? ⟨bk,o+i*2+1,none⟩=some (.string (a.getD i (ByteArray.empty,ByteArray.empty)).2))
 (hb:∀i,i<b.length→∃bk o,pb=some ⟨bk,o,none⟩∧W.cell? ⟨bk,o+i*2,none⟩=some (.string (b.getD i (ByteArray.empty,ByteArray.empty)).1)∧W.cell? ⟨bk,o+i*2+1,none⟩=some (.string (b.getD i (ByteArray.empty,ByteArray.empty)).2)):
 Calls Tryz.prog 341 #[.slice pa a.length ca,.slice pb b.length cb] W fun e w'=>e= .returned (.bool (Vg.bU a b))∧∃q,w'=W.drewN q:=by
 go_enter Tryz.func341,Tryz.ntmps341
 go_wp2
 go_loopw [5] (fun vi wr=>∃(t q:Nat),vi= .int .i64 (t:Int)∧t≤a.length∧t≤b.length∧wr=W.drewN q∧Vg.bU a b=Vg.bU (a.drop t) (b.drop t)) (fun vi _=>a.length+1-(O3 vi).toNat)
 case atStart=>exact⟨0,0,rfl,by omega,by omega,rfl,rfl⟩
 case round=>
  obtain⟨t,q,rfl,ht1,ht2,hw,hR⟩:=hrel
  by_cases hin:t<a.length∧t<b.length
  ·obtain⟨hi1,hi2⟩:=hin
   obtain⟨ba,oa,ea,a1,a2⟩:=ha t hi1
   obtain⟨bb,ob,eb,b1,b2⟩:=hb t hi2
   have c1:wr.cell? ⟨ba,oa+t*2,none⟩=some (.string (a.getD t (ByteArray.empty,ByteArray.empty)).1):=by rw[hw];exact a1
   have c2:wr.cell? ⟨ba,oa+t*2+1,none⟩=some (.string (a.getD t (ByteArray.empty,ByteArray.empty)).2):=by rw[hw];exact a2
   have c3:wr.cell? ⟨bb,ob+t*2,none⟩=some (.string (b.getD t (ByteArray.empty,ByteArray.empty)).1):=by rw[hw];exact b1
   have c4:wr.cell? ⟨bb,ob+t*2+1,none⟩=some (.string (b.getD t (ByteArray.empty,ByteArray.empty)).2):=by rw[hw];exact b2
   have hs:Vg.bU (a.drop t) (b.drop t)=if(a.getD t (ByteArray.empty,ByteArray.empty)).1.toList==(b.getD t (ByteArray.empty,ByteArray.empty)).1.toList then(if(a.getD t (ByteArray.empty,ByteArray.empty)).2.toList==(b.getD t (ByteArray.empty,ByteArray.empty)).2.toList then Vg.bU (a.drop (t+1)) (b.drop (t+1))else Vg.ly (a.getD t (ByteArray.empty,ByteArray.empty)).2 (b.getD t (ByteArray.empty,ByteArray.empty)).2)else Vg.ly (a.getD t (ByteArray.empty,ByteArray.empty)).1 (b.getD t (ByteArray.empty,ByteArray.empty)).1:=by
    rw[List.drop_eq_getElem_cons hi1,List.drop_eq_getElem_cons hi2]
    simp only[Vg.bU,List.getD_eq_getElem?_getD,List.getElem?_eq_getElem hi1,List.getElem?_eq_getElem hi2,Option.getD_some]
   generalize (a.getD t (ByteArray.empty,ByteArray.empty)).1=x1 at c1 hs
   generalize (a.getD t (ByteArray.empty,ByteArray.empty)).2=x2 at c2 hs
   generalize (b.getD t (ByteArray.empty,ByteArray.empty)).1=y1 at c3 hs
   generalize (b.getD t (ByteArray.empty,ByteArray.empty)).2=y2 at c4 hs
   subst ea eb
   have HW:Hid (wr=W.drewN q):=hw
   have HR:Hid (Vg.bU a b=Vg.bU (a.drop t) (b.drop t)):=hR
   have HS:Hid (_=_):=hs
   clear hw hR hs ha hb a1 a2 b1 b2
   go_wp2
   go_quiet (fail)
   go_wp2
   ·have hne:(!x1.toList==y1.toList)=true:=by assumption
    go_quiet (fail)
    go_wp2
    go_ret
    have hv:Vg.bU a b=Op.bytesLess x1.toList y1.toList:=by
     rw[HR.out,HS.out,if_neg (by simpa using hne)];rfl
    refine⟨?_,_,by rw[HW.out,World.drewN_drewN,World.drewN_drewN]⟩
    rw[hv];rfl
   ·have hne:(!x1.toList==y1.toList)=false:=by assumption
    go_quiet (fail)
    go_wp2
    ·have hne2:(!x2.toList==y2.toList)=true:=by assumption
     go_quiet (fail)
     go_wp2
     go_ret
     have hv:Vg.bU a b=Op.bytesLess x2.toList y2.toList:=by
      rw[HR.out,HS.out,if_pos (by simpa using hne),if_neg (by simpa using hne2)];rfl
     refine⟨?_,_,by rw[HW.out,World.drewN_drewN,World.drewN_drewN,World.drewN_drewN]⟩
     rw[hv];rfl
    ·have hne2:(!x2.toList==y2.toList)=false:=by assumption
     refine⟨⟨t+1,_,by congr 1,by omega,by omega,by rw[HW.out,World.drewN_drewN],?_⟩,?_⟩
     ·rw[HR.out,HS.out,if_pos (by simpa using hne),if_pos (by simpa using hne2)]
     ·simp[O3];omega
  ·have hv:Vg.bU a b=decide (a.length<b.length):=by
    rw[hR]
    by_cases h1:t<a.length
    ·have h2:t=b.length:=by omega
     subst h2
     rw[List.drop_length,List.drop_eq_getElem_cons h1]
     simp only[Vg.bU]
     rw[decide_eq_false (by omega)]
    ·have h2:t=a.length:=by omega
     subst h2
     rw[List.drop_length]
     cases hd:b.drop a.length with
     |nil=>
      have:=congrArg List.length hd
      simp only[List.length_drop,List.length_nil]at this
      simp only[Vg.bU,List.isEmpty_nil,Bool.not_true]
      rw[decide_eq_false (by omega)]
     |cons z zs=>
      have:=congrArg List.length hd
      simp only[List.length_drop,List.length_cons]at this
      simp only[Vg.bU,List.isEmpty_cons,Bool.not_false]
      rw[decide_eq_true (by omega)]
   have HW:Hid (wr=W.drewN q):=hw
   have HV:Hid (_=_):=hv
   clear hw hR hv ha hb
   by_cases h1:t<a.length
   ·have h2:¬t<b.length:=fun h=>hin ⟨h1,h⟩
    clear hin
    go_wp2
    go_ret
    refine⟨?_,_,HW.out⟩
    rw[HV.out];rfl
   ·clear hin
    go_wp2
    go_ret
    refine⟨?_,_,HW.out⟩
    rw[HV.out];rfl
set_option maxHeartbeats 4000000 in
set_option maxRecDepth 100000 in
theorem Tryz.Lt (blk off c Bs n:Nat) (W:World) (i j:Nat) (hi:i<n) (hj:j<n) (hn:n<4611686018427387904) (va vb:Value) (r:Bool)
 (hs:W.cell? ⟨Bs,0,none⟩=some (.slice (some ⟨blk,off,none⟩) n c)) (hva:W.cell? ⟨blk,off+i*4,none⟩=some va) (hvb:W.cell? ⟨blk,off+j*4,none⟩=some vb)
 (hc:∀q,Calls Tryz.prog 341 #[va,vb] (W.drewN q) fun e w'=>e= .returned (.bool r)∧∃m,w'=(W.drewN q).drewN m):
 Calls Tryz.prog 340 #[.int .i64 i,.int .i64 j,.pointer (some ⟨Bs,0,none⟩)] W fun e w'=>e= .returned (.bool r)∧∃q,w'=W.drewN q:=by
 have HC:Hid (∀q,Calls Tryz.prog 341 #[va,vb] (W.drewN q) fun e w'=>e= .returned (.bool r)∧∃m,w'=(W.drewN q).drewN m):=hc
 clear hc
 go_enter Tryz.func340,Tryz.ntmps340
 go_wp2
 go_quiet (first|(go_at_call 341;refine Calls.quiet_of (HC.out _)))
 go_wp2
 go_ret
 trace_state
 exact⟨rfl,nq,rfl⟩
end Go.Proofs
namespace Go.Proofs
open Go.Shelf
def Tryz.TE:Go.Shelf.Ren:=⟨fun|8=>339|13=>365|14=>366|16=>368|15=>367|29=>388|30=>389|42=>393|49=>399|n=>n,fun|20=>20|26=>281|36=>301|0=>0|38=>217|42=>306|3=>3|4=>4|47=>296|17=>17|33=>298|34=>299|89=>342|12=>12|56=>318|82=>336|5=>5|83=>337|84=>338|85=>328|86=>339|87=>340|n=>n,fun|n=>n⟩
theorem Tryz.UR:Go.Proofs.LaysGt.n8 Tryz.prog Tryz.TE:={
 mixed:=by kernel_rfl
 f8:=Tryz.func339.trans (congrArg some (by kernel_rfl))
 f13:=Tryz.func365.trans (congrArg some (by kernel_rfl))
 f14:=Tryz.func366.trans (congrArg some (by kernel_rfl))
 f15:=Tryz.func367.trans (congrArg some (by kernel_rfl))
 f16:=Tryz.func368.trans (congrArg some (by kernel_rfl))
 f29:=Tryz.func388.trans (congrArg some (by kernel_rfl))
 f30:=Tryz.func389.trans (congrArg some (by kernel_rfl))
 f42:=Tryz.func393.trans (congrArg some (by kernel_rfl))
 f49:=Tryz.func399.trans (congrArg some (by kernel_rfl))
 t0:=Tryz.underlying0
 a0:=Tryz.isAgg0
 z0:=Tryz.sizeOf0
 v0:=Tryz.zeroValue0
 i0:=by kernel_rfl
 t3:=Tryz.underlying3
 a3:=Tryz.isAgg3
 z3:=Tryz.sizeOf3
 v3:=Tryz.zeroValue3
 i3:=by kernel_rfl
 t4:=Tryz.underlying4
 a4:=Tryz.isAgg4
 z4:=Tryz.sizeOf4
 v4:=Tryz.zeroValue4
 i4:=by kernel_rfl
 t5:=Tryz.underlying5
 a5:=Tryz.isAgg5
 z5:=Tryz.sizeOf5
 v5:=Tryz.zeroValue5
 i5:=by kernel_rfl
 t12:=Tryz.underlying12
 a12:=Tryz.isAgg12
 z12:=Tryz.sizeOf12
 v12:=Tryz.zeroValue12
 i12:=by kernel_rfl
 t17:=Tryz.underlying17
 a17:=Tryz.isAgg17
 z17:=Tryz.sizeOf17
 v17:=Tryz.zeroValue17
 i17:=by kernel_rfl
 t20:=Tryz.underlying20
 a20:=Tryz.isAgg20
 z20:=Tryz.sizeOf20
 v20:=Tryz.zeroValue20
 i20:=by kernel_rfl
 t26:=Tryz.underlying281
 a26:=Tryz.isAgg281
 z26:=Tryz.sizeOf281
 v26:=Tryz.zeroValue281
 i26:=by kernel_rfl
 t33:=Tryz.underlying298
 a33:=Tryz.isAgg298
 z33:=Tryz.sizeOf298
 v33:=Tryz.zeroValue298
 i33:=by kernel_rfl
 t34:=Tryz.underlying299
 a34:=Tryz.isAgg299
 z34:=Tryz.sizeOf299
 v34:=Tryz.zeroValue299
 i34:=by kernel_rfl
 t36:=Tryz.underlying301
 a36:=Tryz.isAgg301
 z36:=Tryz.sizeOf301
 v36:=Tryz.zeroValue301
 i36:=by kernel_rfl
 t38:=Tryz.underlying217
 a38:=Tryz.isAgg217
 z38:=Tryz.sizeOf217
 v38:=Tryz.zeroValue217
 i38:=by kernel_rfl
 t42:=Tryz.underlying306
 a42:=Tryz.isAgg306
 z42:=Tryz.sizeOf306
 v42:=Tryz.zeroValue306
 i42:=by kernel_rfl
 t47:=Tryz.underlying296
 a47:=Tryz.isAgg296
 z47:=Tryz.sizeOf296
 v47:=Tryz.zeroValue296
 i47:=by kernel_rfl
 t56:=Tryz.underlying318
 a56:=Tryz.isAgg318
 z56:=Tryz.sizeOf318
 v56:=Tryz.zeroValue318
 i56:=by kernel_rfl
 t82:=Tryz.underlying336
 a82:=Tryz.isAgg336
 z82:=Tryz.sizeOf336
 v82:=Tryz.zeroValue336
 i82:=by kernel_rfl
 t83:=Tryz.underlying337
 a83:=Tryz.isAgg337
 z83:=Tryz.sizeOf337
 v83:=Tryz.zeroValue337
 i83:=by kernel_rfl
 t84:=Tryz.underlying338
 a84:=Tryz.isAgg338
 z84:=Tryz.sizeOf338
 v84:=Tryz.zeroValue338
 i84:=by kernel_rfl
 t85:=Tryz.underlying328
 a85:=Tryz.isAgg328
 z85:=Tryz.sizeOf328
 v85:=Tryz.zeroValue328
 i85:=by kernel_rfl
 t86:=Tryz.underlying339
 a86:=Tryz.isAgg339
 z86:=Tryz.sizeOf339
 v86:=Tryz.zeroValue339
 i86:=by kernel_rfl
 t87:=Tryz.underlying340
 a87:=Tryz.isAgg340
 z87:=Tryz.sizeOf340
 v87:=Tryz.zeroValue340
 i87:=by kernel_rfl
 t89:=Tryz.underlying342
 a89:=Tryz.isAgg342
 z89:=Tryz.sizeOf342
 v89:=Tryz.zeroValue342
 i89:=by kernel_rfl}
end Go.Proofs
namespace Go.Proofs
open Go.Shelf Go.RowKit Go.Lib Go.Sort
noncomputable def Tryz.UP:TypeInfo:=(Tryz.prog.info? 40).get (by kernel_rfl)
noncomputable def Tryz.Rw:TypeInfo:=(Tryz.prog.info? 67).get (by kernel_rfl)
theorem Tryz.U4 (n:Nat) (h2:2≤n) (ke:Nat):Lib.swapperK n Tryz.Rw ke=Lib.swapperK 2 Tryz.Rw ke:=by
 have c:(n==0)=false:=by simp;omega
 have d:(n==1)=false:=by simp;omega
 simp[Lib.swapperK,c,d]
set_option maxHeartbeats 4000000 in
set_option maxRecDepth 100000 in
theorem Tryz.Ny {α:Type} [Inhabited α] (enc:α→List Value) (hk:∀x,(enc x).length=4) (h1:∀x,∀v∈enc x,v.oneCell'=true) (lab:α→List (ByteArray×ByteArray)) (blk off c:Nat) (d:Array α) (w:World)
 (h2:2≤d.size) (h20:d.size<20) (hH:HoldsK enc 4 w blk off d) (hblk:blk<w.heap.size) (hlab:Jq enc lab blk w):
 Calls Tryz.prog 284 #[.slice (some ⟨blk,off,none⟩) d.size c] w fun e w'=>
  e= .returned (.slice (some ⟨blk,off,none⟩) d.size c)∧∃n os,w'=grow (putRowK enc 4 (Sort.ahead w n) blk off (Sort.insertionSort (fun x y=>Vg.bU (lab x) (lab y)) d 0 d.size)) os:=by
 have hW1:w.alloc (.cells #[.slice (some ⟨blk,off,none⟩) d.size c] 40)=grow w #[.cells #[.slice (some ⟨blk,off,none⟩) d.size c] 40]:=alloc_eq_grow _ _
 have hH1:HoldsK enc 4 (w.alloc (.cells #[.slice (some ⟨blk,off,none⟩) d.size c] 40)) blk off d:=by rw[hW1];exact holdsK_grow enc 4 w _ blk off d hblk hH
 have hb1:blk<(w.alloc (.cells #[.slice (some ⟨blk,off,none⟩) d.size c] 40)).heap.size:=by rw[hW1,size_grow];omega
 have hbox:∀m os (dk:Array α),(sortWorldK enc 4 (w.alloc (.cells #[.slice (some ⟨blk,off,none⟩) d.size c] 40)) blk off m dk os).cell? ⟨w.heap.size,0,none⟩=some (.slice (some ⟨blk,off,none⟩) d.size c):=by
  intro m os dk
  rw[cell?_sortWorldK_other enc 4 _ blk off m dk os _ (by show w.heap.size≠blk;omega) (by show w.heap.size<_;rw[hW1,size_grow];simp)]
  simp
 have hless:LessReadsK Tryz.prog 340 #[.pointer (some ⟨w.heap.size,0,none⟩)] enc 4 (fun x y=>Vg.bU (lab x) (lab y)) blk off d.size (w.alloc (.cells #[.slice (some ⟨blk,off,none⟩) d.size c] 40)):=by
  intro m os dk hs i j hi hj
  have hcell:∀x:Nat,x<d.size→∀v,(enc dk[x]!)[0]?=some v→(sortWorldK enc 4 (w.alloc (.cells #[.slice (some ⟨blk,off,none⟩) d.size c] 40)) blk off m dk os).cell? ⟨blk,off+x*4,none⟩=some v:=by
   intro x hx v hv
   have hh:=holdsK_sortWorldK enc 4 _ blk off m d dk os hb1 hH1 hs
   have:=(hh.cell (i:=x) (c:=0) (by omega) (by omega)).1
   rw[Nat.add_zero]at this
   rw[this]
   simp[hv]
  have hl:∀(x:α) (q:Nat),∃p c',(enc x)[0]?=some (.slice p (lab x).length c')∧(lab x).length<4611686018427387904∧
   ∀i,i<(lab x).length→∃bk o,p=some ⟨bk,o,none⟩∧((sortWorldK enc 4 (w.alloc (.cells #[.slice (some ⟨blk,off,none⟩) d.size c] 40)) blk off m dk os).drewN q).cell? ⟨bk,o+i*2,none⟩=some (.string ((lab x).getD i (ByteArray.empty,ByteArray.empty)).1)∧
    ((sortWorldK enc 4 (w.alloc (.cells #[.slice (some ⟨blk,off,none⟩) d.size c] 40)) blk off m dk os).drewN q).cell? ⟨bk,o+i*2+1,none⟩=some (.string ((lab x).getD i (ByteArray.empty,ByteArray.empty)).2):=by
   intro x q
   obtain⟨p,c',e1,e2,e3⟩:=hlab x
   refine⟨p,c',e1,e2,fun i hi=> ?_⟩
   obtain⟨bk,o,q1,q2,q3,q4,q5⟩:=e3 i hi
   have ho:∀o',((sortWorldK enc 4 (w.alloc (.cells #[.slice (some ⟨blk,off,none⟩) d.size c] 40)) blk off m dk os).drewN q).cell? ⟨bk,o',none⟩=w.cell? ⟨bk,o',none⟩:=by
    intro o'
    show(sortWorldK enc 4 (w.alloc (.cells #[.slice (some ⟨blk,off,none⟩) d.size c] 40)) blk off m dk os).cell? ⟨bk,o',none⟩=_
    rw[cell?_sortWorldK_other enc 4 _ blk off m dk os _ q2 (by show bk<_;rw[hW1,size_grow];omega),hW1,cell?_grow _ _ _ q3]
   exact⟨bk,o,q1,by rw[ho];exact q4,by rw[ho];exact q5⟩
  obtain⟨pa,ca,a1,a2,_⟩:=hl dk[i]! 0
  obtain⟨pb,cb,b1,b2,_⟩:=hl dk[j]! 0
  refine Tryz.Lt blk off c w.heap.size d.size _ i j hi hj (by omega) _ _ _ (hbox m os dk) (hcell i hi _ a1) (hcell j hj _ b1) (fun q=> ?_)
  obtain⟨pa',ca',a1',_,a3⟩:=hl dk[i]! q
  obtain⟨pb',cb',b1',_,b3⟩:=hl dk[j]! q
  rw[a1]at a1';rw[b1]at b1'
  cases a1';cases b1'
  exact Tryz.LO pa pb ca cb _ _ _ a2 b2 a3 b3
 have hS:=Bn Tryz.UR (i:=Tryz.UP) (ie:=Tryz.Rw) (t:=40) (e:=67) (by kernel_rfl) (by kernel_rfl) (by kernel_rfl) (by kernel_rfl) (ke:=25) (fun _=>by kernel_rfl) hk (by kernel_rfl) (fun _=>by kernel_rfl) h1
  (fun x y=>Vg.bU (lab x) (lab y)) (g:=340) (enters_of Tryz.func340 (by kernel_rfl) rfl) (c:=c) h2 h20 (f:=387) (by rw[Tryz.U4 _ h2];kernel_rfl) false
  (fun args W=>run_callFunc_extern (f:=387) Tryz.func387 (by kernel_rfl) (by kernel_rfl) (by kernel_rfl) (e:=Extern.ReflectliteSwapper.swap false) (by kernel_rfl) args W) hless hH1 hb1
 change Calls Tryz.prog 339 _ _ _ at hS
 have HB:Hid (∀m os (dk:Array α),(sortWorldK enc 4 (w.alloc (.cells #[.slice (some ⟨blk,off,none⟩) d.size c] 40)) blk off m dk os).cell? ⟨w.heap.size,0,none⟩=some (.slice (some ⟨blk,off,none⟩) d.size c)):=hbox
 clear hless hH1 hH hlab hbox hW1 hb1
 go_enter Tryz.func284,Tryz.ntmps284
 go_wp2_with (go_at_call 339;refine hS.mono ?_;rintro e w1 ⟨rfl,n,os,hw⟩;have hcell:w1.cell? ⟨w.heap.size,0,none⟩=some (.slice (some ⟨blk,off,none⟩) d.size c):=(by rw[hw];exact HB.out n os _);have HW:Hid (w1=_):=hw;clear hw)
 go_ret
 exact⟨rfl,n,_,by rw[HW.out,alloc_eq_grow,ahead_grow,putRowK_grow enc 4 (Sort.ahead w n) _ blk off _ hblk,grow_grow]⟩
set_option maxHeartbeats 4000000 in
set_option maxRecDepth 100000 in
theorem Tryz.KV (p:Option Addr) (n c:Nat) (h1:n≤1) (w:World):
 Calls Tryz.prog 284 #[.slice p n c] w fun e w'=>e= .returned (.slice p n c)∧∃os,w'=grow w os:=by
 have hS:=fun W f hf=>Any.sort_SliceStable_tiny Tryz.UR 40 67 Tryz.UP Tryz.Rw (by kernel_rfl) (by kernel_rfl) (by kernel_rfl) (by kernel_rfl) 25 (fun _=>by kernel_rfl) p n c h1 f hf (.func 340) #[] #[.pointer (some ⟨w.heap.size,0,none⟩)] W
 obtain⟨f,hf⟩:∃f,Tryz.prog.funcs.findIdx? (·.name== "internal/reflectlite" ++ ".Swapper$" ++toString (swapperK n Tryz.Rw 25))=some f:=by
  rcases Nat.eq_zero_or_pos n with h|h
  ·subst h;exact⟨379,by kernel_rfl⟩
  ·obtain rfl:n=1:=by omega
   exact⟨380,by kernel_rfl⟩
 have hS2:=fun W=>hS W f hf
 change∀W,Calls Tryz.prog 339 _ W _ at hS2
 clear hS
 have HB:Hid (∀os,(grow (w.alloc (.cells #[.slice p n c] 40)) os).cell? ⟨w.heap.size,0,none⟩=some (.slice p n c)):=by
  intro os
  rw[cell?_grow _ _ _ (by show w.heap.size<_;rw[alloc_eq_grow,size_grow];simp)]
  simp
 go_enter Tryz.func284,Tryz.ntmps284
 go_wp2_with (go_at_call 339;refine(hS2 _).mono ?_;rintro e w1 ⟨rfl,os,hw⟩;have hcell:w1.cell? ⟨w.heap.size,0,none⟩=some (.slice p n c):=(by rw[hw];exact HB.out os);have HW:Hid (w1=_):=hw;clear hw)
 go_ret
 exact⟨rfl,_,by rw[HW.out,alloc_eq_grow,grow_grow]⟩
end Go.Proofs
namespace Vg.Tryz
open Go Vg Go.Proofs
def tw (k:Nat):aF:=⟨[.val (.sl ab) .own],[.val (.sl ab) .own],kx k,[]⟩
set_option maxRecDepth 1000000 in
theorem Ft (k:Nat):oJ Tryz.prog 284 (tw k):=OL Tryz.func284 (by kernel_rfl) (by kernel_rfl) Tryz.KV Tryz.Ny
end Vg.Tryz
namespace Vg.Tryz
open Go Vg Go.Proofs
set_option linter.unusedVariables false
def TT:List (Nat×TI):=[(3,⟨(.int .i64),[],0⟩),(4,⟨.bool,[],0⟩),(5,⟨(.int .u8),[],0⟩),(9,⟨.str,[],0⟩),(22,⟨(.sl .str),[],9⟩),(24,⟨bC,[3,3,3,3,3,22],0⟩),(25,⟨(.sl ak),[],137⟩),(26,⟨(.sl aU),[],140⟩),(27,⟨(.sl ab),[],63⟩),(28,⟨(.sl aj),[],143⟩),(29,⟨(.sl aC),[],167⟩),(30,⟨(.sl aN),[],146⟩),(31,⟨(.sl ah),[],149⟩),(32,⟨(.sl aq),[],152⟩),(34,⟨aE,[24,3,3,25,26,27,3,28,3,29,30,27,31,32],0⟩),(37,⟨bC,[3,3,3,3,3,22],0⟩),(38,⟨(.sl ak),[],156⟩),(39,⟨(.sl aU),[],159⟩),(40,⟨(.sl ab),[],67⟩),(41,⟨(.sl aj),[],162⟩),(42,⟨(.sl aC),[],165⟩),(43,⟨(.sl aN),[],169⟩),(44,⟨(.sl ah),[],108⟩),(45,⟨(.sl aq),[],173⟩),(47,⟨aE,[37,3,3,38,39,40,3,41,3,42,43,40,44,45],0⟩),(54,⟨(.sl af),[],121⟩),(57,⟨(.sl af),[],123⟩),(63,⟨ab,[54,3,3,9],0⟩),(67,⟨ab,[57,3,3,9],0⟩),(106,⟨(.sl (.int .i64)),[],3⟩),(108,⟨ah,[3,3,67,57,3,106,40,3,3],0⟩),(121,⟨af,[9,9],0⟩),(123,⟨af,[9,9],0⟩),(135,⟨(.sl ay),[],272⟩),(137,⟨ak,[3,3,135],0⟩),(140,⟨aU,[27,4],0⟩),(143,⟨aj,[3,54,3,3,27],0⟩),(146,⟨aN,[3,54,3,27],0⟩),(149,⟨ah,[3,3,63,54,3,106,27,3,3],0⟩),(152,⟨aq,[3,3,63,54,3,3,3,27,3,3,3,3],0⟩),(154,⟨(.sl ay),[],253⟩),(156,⟨ak,[3,3,154],0⟩),(159,⟨aU,[40,4],0⟩),(162,⟨aj,[3,57,3,3,40],0⟩),(165,⟨aC,[3,3],0⟩),(167,⟨aC,[3,3],0⟩),(169,⟨aN,[3,57,3,40],0⟩),(173,⟨aq,[3,3,67,57,3,3,3,40,3,3,3,3],0⟩),(204,⟨(.sl (.int .u8)),[],5⟩),(253,⟨ay,[3,40],0⟩),(272,⟨ay,[3,27],0⟩),(296,⟨(.int .u64),[],0⟩),(318,⟨(.int .u32),[],0⟩)]
theorem ax:TT.all (fun p=>FH Tryz.prog p.1 p.2)=true:=by kernel_rfl
theorem mixed:Tryz.prog.follows .mixedOrders=true:=by kernel_rfl
set_option maxRecDepth 1000000
def nA:Nat→Option aM:=fun _=>none
def q0:Pt:=(.pair .leaf (.pair .leaf (.pair .leaf .shr)))
def q1:Pt:=(.pair .leaf q0)
def q2:Pt:=(.pair .leaf q1)
def q3:Pt:=(.pair .shr (.pair .leaf (.pair .leaf .leaf)))
def q4:Pt:=(.pair .shr (.pair .leaf (.pair .leaf .shr)))
def q5:Pt:=(.pair .leaf q4)
def q6:Pt:=(.pair .leaf (.pair .shr (.pair .leaf .shr)))
def q7:Pt:=(.pair .shr (.pair .shr (.pair .leaf .leaf)))
def q8:Pt:=(.pair .leaf q7)
def q9:Pt:=(.pair .shr q8)
def Mv:Pt:=(.pair q3 q9)
def US:Pt:=(.pair .leaf Mv)
def uq:Pt:=(.pair .leaf (.pair .leaf (.pair .leaf .leaf)))
def je:Pt:=(.pair .shr (.pair .shr (.pair .shr .shr)))
def u4:Pt:=(.pair .leaf (.pair .leaf (.pair .leaf .own)))
def qR:Pt:=(.pair .own (.pair .leaf (.pair .leaf .leaf)))
def Uk:Pt:=(.pair .own (.pair .leaf (.pair .leaf .own)))
def Ug:Pt:=(.pair .leaf (.pair .own (.pair .leaf .own)))
def S8:Pt:=(.pair .own (.pair .own (.pair .leaf .leaf)))
def Cz:Pt:=(.pair .own (.pair .own (.pair .own .own)))
def cP:Sh:=(.pair .leaf (.pair .leaf (.sl (.sha [1]))))
def yd:Sh:=(.pair .leaf (.pair .leaf (.sl (.sha []))))
def Cm:Sh:=(.pair .leaf (.pair .leaf (.sl (.row 6 [6] true))))
def df:Sh:=(.pair (.sl (.sha [1])) (.sl (.sha [1])))
def Cc:Sh:=(.pair (.sl (.sha [])) (.pair (.sl (.sha [])) (.sl (.sha []))))
def Uv:Sh:=(.pair (.sl (.row 14 [14] true)) (.sl (.sha [1])))
def TW:Sh:=(.pair (.sl (.row 5 [5] true)) (.pair .leaf (.pair .leaf .leaf)))
def uQ:Sh:=(.pair (.sl (.sha [1])) (.pair .leaf (.pair .leaf .leaf)))
def uR:Sh:=(.pair (.sl (.sha [1])) (.pair .leaf .leaf))
def Un:Sh:=(.pair (.sl (.sha [1,2])) (.pair .leaf (.pair .leaf .leaf)))
def Jd:Sh:=(.pair .leaf (.pair .leaf (.sl (.sha [1,2]))))
def IN:Sh:=(.pair .leaf (.pair .leaf (.sl (.row 4 [4] true))))
def xa (k:Nat):List (FuncId×aF):=(391,vC k)::([]:List (FuncId×aF))
theorem D8 (k:Nat):ae Tryz.prog (xa k):=⟨JH k,(show ae Tryz.prog []from trivial)⟩
def uv (k:Nat):List (FuncId×aF):=(284,tw k)::(xa k)
theorem BJ (k:Nat):ae Tryz.prog (uv k):=⟨Ft k,(D8 k)⟩
def Br:Nat→Option aM:=fun|5=>some ⟨[(0,.val (.sl .str) (.sl (.sha [1]))),(1,.val (.int .i64) .leaf),(5,.val (.int .i64) .leaf)],3⟩|_=>none
def sJ (k:Nat):List (FuncId×aF):=(121,⟨[.val (.sl .str) .shr,.val (.int .i64) .leaf],[.val (.int .i64) .leaf],nr k,[]⟩)::(uv k)
theorem Dz (k:Nat):ae Tryz.prog (sJ k):=ae.ev ax mixed (BJ k) Br nA k Tryz.func121 (by kernel_rfl) (fun x=>by kernel_rfl)
def yX (k:Nat):List (FuncId×aF):=(46,⟨[.val bC (.pair .leaf (.pair .leaf q0)),.val (.int .i64) .leaf],[.val (.int .i64) .leaf],nb k,[]⟩)::(sJ k)
theorem LY (k:Nat):ae Tryz.prog (yX k):=ae.ev ax mixed (Dz k) nA nA k Tryz.func46 (by kernel_rfl) (fun x=>by kernel_rfl)
def vv (k:Nat):List (FuncId×aF):=(102,⟨[.val af (.pair .leaf .leaf),.val (.int .i64) .leaf],[.val (.int .i64) .leaf],iM k,[]⟩)::(yX k)
theorem IJ (k:Nat):ae Tryz.prog (vv k):=ae.ev ax mixed (LY k) nA nA k Tryz.func102 (by kernel_rfl) (fun x=>by kernel_rfl)
def Db:Nat→Option aM:=fun|5=>some ⟨[(0,.val (.sl af) (.sl (.sha [1]))),(1,.val (.int .i64) .leaf),(5,.val (.int .i64) .leaf)],3⟩|_=>none
def tv (k:Nat):List (FuncId×aF):=(24,⟨[.val (.sl af) .shr,.val (.int .i64) .leaf],[.val (.int .i64) .leaf],eB k,[]⟩)::(vv k)
theorem F4 (k:Nat):ae Tryz.prog (tv k):=ae.ev ax mixed (IJ k) Db nA k Tryz.func24 (by kernel_rfl) (fun x=>by kernel_rfl)
def wJ (k:Nat):List (FuncId×aF):=(30,⟨[.val ab q3,.val (.int .i64) .leaf],[.val (.int .i64) .leaf],eQ k,[]⟩)::(tv k)
theorem Hx (k:Nat):ae Tryz.prog (wJ k):=ae.ev ax mixed (F4 k) nA nA k Tryz.func30 (by kernel_rfl) (fun x=>by kernel_rfl)
def Ds:Nat→Option aM:=fun|5=>some ⟨[(0,.val (.sl ab) (.sl (.sha [1]))),(1,.val (.int .i64) .leaf),(5,.val (.int .i64) .leaf)],3⟩|_=>none
def tN (k:Nat):List (FuncId×aF):=(49,⟨[.val (.sl ab) .shr,.val (.int .i64) .leaf],[.val (.int .i64) .leaf],dc k,[]⟩)::(wJ k)
theorem Hs (k:Nat):ae Tryz.prog (tN k):=ae.ev ax mixed (Hx k) Ds nA k Tryz.func49 (by kernel_rfl) (fun x=>by kernel_rfl)
def u6 (k:Nat):List (FuncId×aF):=(307,⟨[.val ay (.pair .leaf .shr),.val (.int .i64) .leaf],[.val (.int .i64) .leaf],il k,[]⟩)::(tN k)
theorem IS (k:Nat):ae Tryz.prog (u6 k):=ae.ev ax mixed (Hs k) nA nA k Tryz.func307 (by kernel_rfl) (fun x=>by kernel_rfl)
def C6:Nat→Option aM:=fun|5=>some ⟨[(0,.val (.sl ay) (.sl (.sha [1]))),(1,.val (.int .i64) .leaf),(5,.val (.int .i64) .leaf)],3⟩|_=>none
def tX (k:Nat):List (FuncId×aF):=(229,⟨[.val (.sl ay) .shr,.val (.int .i64) .leaf],[.val (.int .i64) .leaf],oL k,[]⟩)::(u6 k)
theorem EJ (k:Nat):ae Tryz.prog (tX k):=ae.ev ax mixed (IS k) C6 nA k Tryz.func229 (by kernel_rfl) (fun x=>by kernel_rfl)
def xU (k:Nat):List (FuncId×aF):=(122,⟨[.val ak (.pair .leaf (.pair .leaf .shr)),.val (.int .i64) .leaf],[.val (.int .i64) .leaf],jL k,[]⟩)::(tX k)
theorem Lm (k:Nat):ae Tryz.prog (xU k):=ae.ev ax mixed (EJ k) nA nA k Tryz.func122 (by kernel_rfl) (fun x=>by kernel_rfl)
def Gu:Nat→Option aM:=fun|5=>some ⟨[(0,.val (.sl ak) (.sl (.sha [1]))),(1,.val (.int .i64) .leaf),(5,.val (.int .i64) .leaf)],3⟩|_=>none
def uY (k:Nat):List (FuncId×aF):=(47,⟨[.val (.sl ak) .shr,.val (.int .i64) .leaf],[.val (.int .i64) .leaf],pF k,[]⟩)::(xU k)
theorem Ik (k:Nat):ae Tryz.prog (uY k):=ae.ev ax mixed (Lm k) Gu nA k Tryz.func47 (by kernel_rfl) (fun x=>by kernel_rfl)
def AB (k:Nat):List (FuncId×aF):=(123,⟨[.val aU (.pair .shr .leaf),.val (.int .i64) .leaf],[.val (.int .i64) .leaf],kU k,[]⟩)::(uY k)
theorem Np (k:Nat):ae Tryz.prog (AB k):=ae.ev ax mixed (Ik k) nA nA k Tryz.func123 (by kernel_rfl) (fun x=>by kernel_rfl)
def IM:Nat→Option aM:=fun|5=>some ⟨[(0,.val (.sl aU) (.sl (.sha [1]))),(1,.val (.int .i64) .leaf),(5,.val (.int .i64) .leaf)],3⟩|_=>none
def yl (k:Nat):List (FuncId×aF):=(48,⟨[.val (.sl aU) .shr,.val (.int .i64) .leaf],[.val (.int .i64) .leaf],qF k,[]⟩)::(AB k)
theorem KT (k:Nat):ae Tryz.prog (yl k):=ae.ev ax mixed (Np k) IM nA k Tryz.func48 (by kernel_rfl) (fun x=>by kernel_rfl)
def wz (k:Nat):List (FuncId×aF):=(124,⟨[.val aj (.pair .leaf q4),.val (.int .i64) .leaf],[.val (.int .i64) .leaf],iO k,[]⟩)::(yl k)
theorem Jm (k:Nat):ae Tryz.prog (wz k):=ae.ev ax mixed (KT k) nA nA k Tryz.func124 (by kernel_rfl) (fun x=>by kernel_rfl)
def Dh:Nat→Option aM:=fun|5=>some ⟨[(0,.val (.sl aj) (.sl (.sha [1]))),(1,.val (.int .i64) .leaf),(5,.val (.int .i64) .leaf)],3⟩|_=>none
def uw (k:Nat):List (FuncId×aF):=(50,⟨[.val (.sl aj) .shr,.val (.int .i64) .leaf],[.val (.int .i64) .leaf],oU k,[]⟩)::(wz k)
theorem EG (k:Nat):ae Tryz.prog (uw k):=ae.ev ax mixed (Jm k) Dh nA k Tryz.func50 (by kernel_rfl) (fun x=>by kernel_rfl)
def tn (k:Nat):List (FuncId×aF):=(51,⟨[.val (.sl aC) .shr,.val (.int .i64) .leaf],[.val (.int .i64) .leaf],kz k,[]⟩)::(uw k)
theorem Ew (k:Nat):ae Tryz.prog (tn k):=ae.ev ax mixed (EG k) nA nA k Tryz.func51 (by kernel_rfl) (fun x=>by kernel_rfl)
def wR (k:Nat):List (FuncId×aF):=(125,⟨[.val aN q6,.val (.int .i64) .leaf],[.val (.int .i64) .leaf],iK k,[]⟩)::(tn k)
theorem IK (k:Nat):ae Tryz.prog (wR k):=ae.ev ax mixed (Ew k) nA nA k Tryz.func125 (by kernel_rfl) (fun x=>by kernel_rfl)
def DD:Nat→Option aM:=fun|5=>some ⟨[(0,.val (.sl aN) (.sl (.sha [1]))),(1,.val (.int .i64) .leaf),(5,.val (.int .i64) .leaf)],3⟩|_=>none
def tA (k:Nat):List (FuncId×aF):=(52,⟨[.val (.sl aN) .shr,.val (.int .i64) .leaf],[.val (.int .i64) .leaf],od k,[]⟩)::(wR k)
theorem FM (k:Nat):ae Tryz.prog (tA k):=ae.ev ax mixed (IK k) DD nA k Tryz.func52 (by kernel_rfl) (fun x=>by kernel_rfl)
def ym (k:Nat):List (FuncId×aF):=(230,⟨[.val (.sl (.int .i64)) .shr,.val (.int .i64) .leaf],[.val (.int .i64) .leaf],ng k,[]⟩)::(tA k)
theorem K4 (k:Nat):ae Tryz.prog (ym k):=ae.ev ax mixed (FM k) nA nA k Tryz.func230 (by kernel_rfl) (fun x=>by kernel_rfl)
def yi (k:Nat):List (FuncId×aF):=(126,⟨[.val ah (.pair .leaf (.pair .leaf (.pair q3 (.pair .shr (.pair .leaf q7))))),.val (.int .i64) .leaf],[.val (.int .i64) .leaf],jO k,[]⟩)::(ym k)
theorem KY (k:Nat):ae Tryz.prog (yi k):=ae.ev ax mixed (K4 k) nA nA k Tryz.func126 (by kernel_rfl) (fun x=>by kernel_rfl)
def EK:Nat→Option aM:=fun|5=>some ⟨[(0,.val (.sl ah) (.sl (.sha [1]))),(1,.val (.int .i64) .leaf),(5,.val (.int .i64) .leaf)],3⟩|_=>none
def vK (k:Nat):List (FuncId×aF):=(53,⟨[.val (.sl ah) .shr,.val (.int .i64) .leaf],[.val (.int .i64) .leaf],pg k,[]⟩)::(yi k)
theorem JK (k:Nat):ae Tryz.prog (vK k):=ae.ev ax mixed (KY k) EK nA k Tryz.func53 (by kernel_rfl) (fun x=>by kernel_rfl)
def yI (k:Nat):List (FuncId×aF):=(127,⟨[.val aq (.pair .leaf (.pair .leaf (.pair q3 (.pair .shr (.pair .leaf (.pair .leaf (.pair .leaf (.pair .shr uq)))))))),.val (.int .i64) .leaf],[.val (.int .i64) .leaf],jK k,[]⟩)::(vK k)
theorem KN (k:Nat):ae Tryz.prog (yI k):=ae.ev ax mixed (JK k) nA nA k Tryz.func127 (by kernel_rfl) (fun x=>by kernel_rfl)
def Gg:Nat→Option aM:=fun|5=>some ⟨[(0,.val (.sl aq) (.sl (.sha [1]))),(1,.val (.int .i64) .leaf),(5,.val (.int .i64) .leaf)],3⟩|_=>none
def wM (k:Nat):List (FuncId×aF):=(54,⟨[.val (.sl aq) .shr,.val (.int .i64) .leaf],[.val (.int .i64) .leaf],pr k,[]⟩)::(yI k)
theorem Hu (k:Nat):ae Tryz.prog (wM k):=ae.ev ax mixed (KN k) Gg nA k Tryz.func54 (by kernel_rfl) (fun x=>by kernel_rfl)
def we (k:Nat):List (FuncId×aF):=(13,⟨[.val aE (.pair (.pair .leaf (.pair .leaf q0)) (.pair .leaf (.pair .leaf (.pair .shr (.pair .shr (.pair .shr (.pair .leaf (.pair .shr (.pair .leaf (.pair .shr je)))))))))),.val (.int .i64) .leaf],[.val (.int .i64) .leaf],lE k,[]⟩)::(wM k)
theorem JZ (k:Nat):ae Tryz.prog (we k):=ae.ev ax mixed (Hu k) nA nA k Tryz.func13 (by kernel_rfl) (fun x=>by kernel_rfl)
end Vg.Tryz
namespace Vg.Tryz
open Go Vg Go.Proofs
set_option linter.unusedVariables false
set_option maxRecDepth 1000000
def Bg:Nat→Option aM:=fun|3=>some ⟨[(0,.val (.sl .str) (.sl (.sha [1]))),(3,.val (.sl .str) (.sl (.row 3 [3] true))),(4,.val (.int .i64) .leaf)],4⟩|_=>none
def sI (k:Nat):List (FuncId×aF):=(129,⟨[.val (.sl .str) .shr],[.val (.sl .str) .own],np k,[]⟩)::(we k)
theorem Dg (k:Nat):ae Tryz.prog (sI k):=ae.ev ax mixed (JZ k) Bg nA k Tryz.func129 (by kernel_rfl) (fun x=>by kernel_rfl)
def yU (k:Nat):List (FuncId×aF):=(56,⟨[.val bC (.pair .leaf (.pair .leaf q0))],[.val bC (.pair .leaf (.pair .leaf u4))],mQ k,[]⟩)::(sI k)
theorem KZ (k:Nat):ae Tryz.prog (yU k):=ae.ev ax mixed (Dg k) nA nA k Tryz.func56 (by kernel_rfl) (fun x=>by kernel_rfl)
def vD (k:Nat):List (FuncId×aF):=(104,⟨[.val af (.pair .leaf .leaf)],[.val af (.pair .leaf .leaf)],iI k,[]⟩)::(yU k)
theorem J0 (k:Nat):ae Tryz.prog (vD k):=ae.ev ax mixed (KZ k) nA nA k Tryz.func104 (by kernel_rfl) (fun x=>by kernel_rfl)
def CM:Nat→Option aM:=fun|3=>some ⟨[(0,.val (.sl af) (.sl (.sha [1]))),(3,.val (.sl af) (.sl (.row 3 [3] true))),(4,.val (.int .i64) .leaf)],4⟩|_=>none
def tZ (k:Nat):List (FuncId×aF):=(26,⟨[.val (.sl af) .shr],[.val (.sl af) .own],eu k,[]⟩)::(vD k)
theorem EV (k:Nat):ae Tryz.prog (tZ k):=ae.ev ax mixed (J0 k) CM nA k Tryz.func26 (by kernel_rfl) (fun x=>by kernel_rfl)
def vw (k:Nat):List (FuncId×aF):=(32,⟨[.val ab q3],[.val ab qR],eR k,[]⟩)::(tZ k)
theorem J9 (k:Nat):ae Tryz.prog (vw k):=ae.ev ax mixed (EV k) nA nA k Tryz.func32 (by kernel_rfl) (fun x=>by kernel_rfl)
def C9:Nat→Option aM:=fun|3=>some ⟨[(0,.val (.sl ab) (.sl (.sha [1]))),(3,.val (.sl ab) (.sl (.row 3 [3] true))),(4,.val (.int .i64) .leaf)],4⟩|_=>none
def tQ (k:Nat):List (FuncId×aF):=(59,⟨[.val (.sl ab) .shr],[.val (.sl ab) .own],da k,[]⟩)::(vw k)
theorem FA (k:Nat):ae Tryz.prog (tQ k):=ae.ev ax mixed (J9 k) C9 nA k Tryz.func59 (by kernel_rfl) (fun x=>by kernel_rfl)
def wO (k:Nat):List (FuncId×aF):=(308,⟨[.val ay (.pair .leaf .shr)],[.val ay (.pair .leaf .own)],iP k,[]⟩)::(tQ k)
theorem Jg (k:Nat):ae Tryz.prog (wO k):=ae.ev ax mixed (FA k) nA nA k Tryz.func308 (by kernel_rfl) (fun x=>by kernel_rfl)
def DW:Nat→Option aM:=fun|3=>some ⟨[(0,.val (.sl ay) (.sl (.sha [1]))),(3,.val (.sl ay) (.sl (.row 3 [3] true))),(4,.val (.int .i64) .leaf)],4⟩|_=>none
def tP (k:Nat):List (FuncId×aF):=(231,⟨[.val (.sl ay) .shr],[.val (.sl ay) .own],nV k,[]⟩)::(wO k)
theorem FW (k:Nat):ae Tryz.prog (tP k):=ae.ev ax mixed (Jg k) DW nA k Tryz.func231 (by kernel_rfl) (fun x=>by kernel_rfl)
def yS (k:Nat):List (FuncId×aF):=(130,⟨[.val ak (.pair .leaf (.pair .leaf .shr))],[.val ak (.pair .leaf (.pair .leaf .own))],jN k,[]⟩)::(tP k)
theorem Lz (k:Nat):ae Tryz.prog (yS k):=ae.ev ax mixed (FW k) nA nA k Tryz.func130 (by kernel_rfl) (fun x=>by kernel_rfl)
def GC:Nat→Option aM:=fun|3=>some ⟨[(0,.val (.sl ak) (.sl (.sha [1]))),(3,.val (.sl ak) (.sl (.row 3 [3] true))),(4,.val (.int .i64) .leaf)],4⟩|_=>none
def xd (k:Nat):List (FuncId×aF):=(57,⟨[.val (.sl ak) .shr],[.val (.sl ak) .own],pI k,[]⟩)::(yS k)
theorem Hw (k:Nat):ae Tryz.prog (xd k):=ae.ev ax mixed (Lz k) GC nA k Tryz.func57 (by kernel_rfl) (fun x=>by kernel_rfl)
def Ax (k:Nat):List (FuncId×aF):=(131,⟨[.val aU (.pair .shr .leaf)],[.val aU (.pair .own .leaf)],kV k,[]⟩)::(xd k)
theorem Mk (k:Nat):ae Tryz.prog (Ax k):=ae.ev ax mixed (Hw k) nA nA k Tryz.func131 (by kernel_rfl) (fun x=>by kernel_rfl)
def II:Nat→Option aM:=fun|3=>some ⟨[(0,.val (.sl aU) (.sl (.sha [1]))),(3,.val (.sl aU) (.sl (.row 3 [3] true))),(4,.val (.int .i64) .leaf)],4⟩|_=>none
def yP (k:Nat):List (FuncId×aF):=(58,⟨[.val (.sl aU) .shr],[.val (.sl aU) .own],qA k,[]⟩)::(Ax k)
theorem Ln (k:Nat):ae Tryz.prog (yP k):=ae.ev ax mixed (Mk k) II nA k Tryz.func58 (by kernel_rfl) (fun x=>by kernel_rfl)
def wi (k:Nat):List (FuncId×aF):=(132,⟨[.val aj (.pair .leaf q4)],[.val aj (.pair .leaf Uk)],iG k,[]⟩)::(yP k)
theorem Jc (k:Nat):ae Tryz.prog (wi k):=ae.ev ax mixed (Ln k) nA nA k Tryz.func132 (by kernel_rfl) (fun x=>by kernel_rfl)
def DC:Nat→Option aM:=fun|3=>some ⟨[(0,.val (.sl aj) (.sl (.sha [1]))),(3,.val (.sl aj) (.sl (.row 3 [3] true))),(4,.val (.int .i64) .leaf)],4⟩|_=>none
def tW (k:Nat):List (FuncId×aF):=(60,⟨[.val (.sl aj) .shr],[.val (.sl aj) .own],oY k,[]⟩)::(wi k)
theorem FD (k:Nat):ae Tryz.prog (tW k):=ae.ev ax mixed (Jc k) DC nA k Tryz.func60 (by kernel_rfl) (fun x=>by kernel_rfl)
def wN (k:Nat):List (FuncId×aF):=(133,⟨[.val aC (.pair .leaf .leaf)],[.val aC (.pair .leaf .leaf)],ir k,[]⟩)::(tW k)
theorem Jj (k:Nat):ae Tryz.prog (wN k):=ae.ev ax mixed (FD k) nA nA k Tryz.func133 (by kernel_rfl) (fun x=>by kernel_rfl)
def Eb:Nat→Option aM:=fun|3=>some ⟨[(0,.val (.sl aC) (.sl (.sha [1]))),(3,.val (.sl aC) (.sl (.row 3 [3] true))),(4,.val (.int .i64) .leaf)],4⟩|_=>none
def uA (k:Nat):List (FuncId×aF):=(61,⟨[.val (.sl aC) .shr],[.val (.sl aC) .own],oj k,[]⟩)::(wN k)
theorem E3 (k:Nat):ae Tryz.prog (uA k):=ae.ev ax mixed (Jj k) Eb nA k Tryz.func61 (by kernel_rfl) (fun x=>by kernel_rfl)
def vN (k:Nat):List (FuncId×aF):=(134,⟨[.val aN q6],[.val aN Ug],iX k,[]⟩)::(uA k)
theorem Jz (k:Nat):ae Tryz.prog (vN k):=ae.ev ax mixed (E3 k) nA nA k Tryz.func134 (by kernel_rfl) (fun x=>by kernel_rfl)
def DT:Nat→Option aM:=fun|3=>some ⟨[(0,.val (.sl aN) (.sl (.sha [1]))),(3,.val (.sl aN) (.sl (.row 3 [3] true))),(4,.val (.int .i64) .leaf)],4⟩|_=>none
def tB (k:Nat):List (FuncId×aF):=(62,⟨[.val (.sl aN) .shr],[.val (.sl aN) .own],oT k,[]⟩)::(vN k)
theorem FQ (k:Nat):ae Tryz.prog (tB k):=ae.ev ax mixed (Jz k) DT nA k Tryz.func62 (by kernel_rfl) (fun x=>by kernel_rfl)
def JP:Nat→Option aM:=fun|3=>some ⟨[(0,.val (.sl (.int .i64)) (.sl (.sha [1]))),(3,.val (.sl (.int .i64)) (.sl (.row 3 [3] true))),(4,.val (.int .i64) .leaf)],4⟩|_=>none
def yk (k:Nat):List (FuncId×aF):=(232,⟨[.val (.sl (.int .i64)) .shr],[.val (.sl (.int .i64)) .own],qG k,[]⟩)::(tB k)
theorem L3 (k:Nat):ae Tryz.prog (yk k):=ae.ev ax mixed (FQ k) JP nA k Tryz.func232 (by kernel_rfl) (fun x=>by kernel_rfl)
def yu (k:Nat):List (FuncId×aF):=(135,⟨[.val ah (.pair .leaf (.pair .leaf (.pair q3 (.pair .shr (.pair .leaf q7)))))],[.val ah (.pair .leaf (.pair .leaf (.pair qR (.pair .own (.pair .leaf S8)))))],jA k,[]⟩)::(yk k)
theorem LP (k:Nat):ae Tryz.prog (yu k):=ae.ev ax mixed (L3 k) nA nA k Tryz.func135 (by kernel_rfl) (fun x=>by kernel_rfl)
def Ho:Nat→Option aM:=fun|3=>some ⟨[(0,.val (.sl ah) (.sl (.sha [1]))),(3,.val (.sl ah) (.sl (.row 3 [3] true))),(4,.val (.int .i64) .leaf)],4⟩|_=>none
def wC (k:Nat):List (FuncId×aF):=(63,⟨[.val (.sl ah) .shr],[.val (.sl ah) .own],pA k,[]⟩)::(yu k)
theorem Ij (k:Nat):ae Tryz.prog (wC k):=ae.ev ax mixed (LP k) Ho nA k Tryz.func63 (by kernel_rfl) (fun x=>by kernel_rfl)
def xR (k:Nat):List (FuncId×aF):=(136,⟨[.val aq (.pair .leaf (.pair .leaf (.pair q3 (.pair .shr (.pair .leaf (.pair .leaf (.pair .leaf (.pair .shr uq))))))))],[.val aq (.pair .leaf (.pair .leaf (.pair qR (.pair .own (.pair .leaf (.pair .leaf (.pair .leaf (.pair .own uq))))))))],jM k,[]⟩)::(wC k)
theorem KP (k:Nat):ae Tryz.prog (xR k):=ae.ev ax mixed (Ij k) nA nA k Tryz.func136 (by kernel_rfl) (fun x=>by kernel_rfl)
def FR:Nat→Option aM:=fun|3=>some ⟨[(0,.val (.sl aq) (.sl (.sha [1]))),(3,.val (.sl aq) (.sl (.row 3 [3] true))),(4,.val (.int .i64) .leaf)],4⟩|_=>none
def wK (k:Nat):List (FuncId×aF):=(64,⟨[.val (.sl aq) .shr],[.val (.sl aq) .own],pD k,[]⟩)::(xR k)
theorem Ih (k:Nat):ae Tryz.prog (wK k):=ae.ev ax mixed (KP k) FR nA k Tryz.func64 (by kernel_rfl) (fun x=>by kernel_rfl)
def wb (k:Nat):List (FuncId×aF):=(15,⟨[.val aE (.pair (.pair .leaf (.pair .leaf q0)) (.pair .leaf (.pair .leaf (.pair .shr (.pair .shr (.pair .shr (.pair .leaf (.pair .shr (.pair .leaf (.pair .shr je))))))))))],[.val aE (.pair (.pair .leaf (.pair .leaf u4)) (.pair .leaf (.pair .leaf (.pair .own (.pair .own (.pair .own (.pair .leaf (.pair .own (.pair .leaf (.pair .own Cz))))))))))],eO k,[]⟩)::(wK k)
theorem Jt (k:Nat):ae Tryz.prog (wb k):=ae.ev ax mixed (Ih k) nA nA k Tryz.func15 (by kernel_rfl) (fun x=>by kernel_rfl)
def vG (k:Nat):List (FuncId×aF):=(146,⟨[.val bC (.pair .leaf (.pair .leaf q0))],[.val bC (.pair .leaf (.pair .leaf u4))],lO k,[]⟩)::(wb k)
theorem JR (k:Nat):ae Tryz.prog (vG k):=ae.ev ax mixed (Jt k) nA nA k Tryz.func146 (by kernel_rfl) (fun x=>by kernel_rfl)
end Vg.Tryz
namespace Vg.Tryz
open Go Vg Go.Proofs
set_option linter.unusedVariables false
set_option maxRecDepth 1000000
def yc (k:Nat):List (FuncId×aF):=(193,⟨[.val ab q3],[.val ab qR],dL k,[]⟩)::(vG k)
theorem Lf (k:Nat):ae Tryz.prog (yc k):=ae.ev ax mixed (JR k) nA nA k Tryz.func193 (by kernel_rfl) (fun x=>by kernel_rfl)
def L5:Nat→Option aM:=fun|3=>some ⟨[(0,.val (.sl ab) (.sl (.sha [1]))),(3,.val (.sl ab) (.sl (.row 3 [3] true))),(4,.val (.int .i64) .leaf)],4⟩|_=>none
def zx (k:Nat):List (FuncId×aF):=(149,⟨[.val (.sl ab) .shr],[.val (.sl ab) .own],dH k,[]⟩)::(yc k)
theorem Nu (k:Nat):ae Tryz.prog (zx k):=ae.ev ax mixed (Lf k) L5 nA k Tryz.func149 (by kernel_rfl) (fun x=>by kernel_rfl)
def yY (k:Nat):List (FuncId×aF):=(310,⟨[.val ay (.pair .leaf .shr)],[.val ay (.pair .leaf .own)],mV k,[]⟩)::(zx k)
theorem Lg (k:Nat):ae Tryz.prog (yY k):=ae.ev ax mixed (Nu k) nA nA k Tryz.func310 (by kernel_rfl) (fun x=>by kernel_rfl)
def I5:Nat→Option aM:=fun|3=>some ⟨[(1,.box 3 ak cP),(2,.box 4 ak yd),(3,.box 5 ak Cm),(4,.val (.int .i64) .leaf)],7⟩|_=>none
def yF (k:Nat):List (FuncId×aF):=(235,⟨[.val ak (.pair .leaf (.pair .leaf .shr))],[.val ak (.pair .leaf (.pair .leaf .own))],jD k,[]⟩)::(yY k)
theorem K0 (k:Nat):ae Tryz.prog (yF k):=ae.ev ax mixed (Lg k) I5 nA k Tryz.func235 (by kernel_rfl) (fun x=>by kernel_rfl)
def HL:Nat→Option aM:=fun|3=>some ⟨[(0,.val (.sl ak) (.sl (.sha [1]))),(3,.val (.sl ak) (.sl (.row 3 [3] true))),(4,.val (.int .i64) .leaf)],4⟩|_=>none
def yE (k:Nat):List (FuncId×aF):=(147,⟨[.val (.sl ak) .shr],[.val (.sl ak) .own],qJ k,[]⟩)::(yF k)
theorem Lv (k:Nat):ae Tryz.prog (yE k):=ae.ev ax mixed (K0 k) HL nA k Tryz.func147 (by kernel_rfl) (fun x=>by kernel_rfl)
def xO (k:Nat):List (FuncId×aF):=(236,⟨[.val aU (.pair .shr .leaf)],[.val aU (.pair .own .leaf)],jF k,[]⟩)::(yE k)
theorem L1 (k:Nat):ae Tryz.prog (xO k):=ae.ev ax mixed (Lv k) nA nA k Tryz.func236 (by kernel_rfl) (fun x=>by kernel_rfl)
def Ly:Nat→Option aM:=fun|3=>some ⟨[(0,.val (.sl aU) (.sl (.sha [1]))),(3,.val (.sl aU) (.sl (.row 3 [3] true))),(4,.val (.int .i64) .leaf)],4⟩|_=>none
def zn (k:Nat):List (FuncId×aF):=(148,⟨[.val (.sl aU) .shr],[.val (.sl aU) .own],sO k,[]⟩)::(xO k)
theorem Mz (k:Nat):ae Tryz.prog (zn k):=ae.ev ax mixed (L1 k) Ly nA k Tryz.func148 (by kernel_rfl) (fun x=>by kernel_rfl)
def vf (k:Nat):List (FuncId×aF):=(237,⟨[.val aj (.pair .leaf q4)],[.val aj (.pair .leaf Uk)],iA k,[]⟩)::(zn k)
theorem IV (k:Nat):ae Tryz.prog (vf k):=ae.ev ax mixed (Mz k) nA nA k Tryz.func237 (by kernel_rfl) (fun x=>by kernel_rfl)
def EP:Nat→Option aM:=fun|3=>some ⟨[(0,.val (.sl aj) (.sl (.sha [1]))),(3,.val (.sl aj) (.sl (.row 3 [3] true))),(4,.val (.int .i64) .leaf)],4⟩|_=>none
def vO (k:Nat):List (FuncId×aF):=(150,⟨[.val (.sl aj) .shr],[.val (.sl aj) .own],ph k,[]⟩)::(vf k)
theorem IA (k:Nat):ae Tryz.prog (vO k):=ae.ev ax mixed (IV k) EP nA k Tryz.func150 (by kernel_rfl) (fun x=>by kernel_rfl)
def ux (k:Nat):List (FuncId×aF):=(151,⟨[.val aN q6],[.val aN Ug],gy k,[]⟩)::(vO k)
theorem GD (k:Nat):ae Tryz.prog (ux k):=ae.ev ax mixed (IA k) nA nA k Tryz.func151 (by kernel_rfl) (fun x=>by kernel_rfl)
def vk (k:Nat):List (FuncId×aF):=(152,⟨[.val ah (.pair .leaf (.pair .leaf (.pair q3 (.pair .shr (.pair .leaf q7)))))],[.val ah (.pair .leaf (.pair .leaf (.pair qR (.pair .own (.pair .leaf S8)))))],iy k,[]⟩)::(ux k)
theorem I9 (k:Nat):ae Tryz.prog (vk k):=ae.ev ax mixed (GD k) nA nA k Tryz.func152 (by kernel_rfl) (fun x=>by kernel_rfl)
def u9 (k:Nat):List (FuncId×aF):=(238,⟨[.val aq (.pair .leaf (.pair .leaf (.pair q3 (.pair .shr (.pair .leaf (.pair .leaf (.pair .leaf (.pair .shr uq))))))))],[.val aq (.pair .leaf (.pair .leaf (.pair qR (.pair .own (.pair .leaf (.pair .leaf (.pair .leaf (.pair .own uq))))))))],ix k,[]⟩)::(vk k)
theorem Iw (k:Nat):ae Tryz.prog (u9 k):=ae.ev ax mixed (I9 k) nA nA k Tryz.func238 (by kernel_rfl) (fun x=>by kernel_rfl)
def Ia:Nat→Option aM:=fun|3=>some ⟨[(0,.val (.sl aq) (.sl (.sha [1]))),(3,.val (.sl aq) (.sl (.row 3 [3] true))),(4,.val (.int .i64) .leaf)],4⟩|_=>none
def yr (k:Nat):List (FuncId×aF):=(153,⟨[.val (.sl aq) .shr],[.val (.sl aq) .own],qD k,[]⟩)::(u9 k)
theorem Lp (k:Nat):ae Tryz.prog (yr k):=ae.ev ax mixed (Iw k) Ia nA k Tryz.func153 (by kernel_rfl) (fun x=>by kernel_rfl)
def GQ:Nat→Option aM:=fun|11=>some ⟨[(1,.box 3 aE (.pair (.pair .leaf (.pair .leaf (.pair .leaf cP))) (.pair .leaf (.pair .leaf (.pair (.sl (.sha [1])) (.pair (.sl (.sha [1])) (.pair (.sl (.sha [1])) (.pair .leaf (.pair (.sl (.sha [1])) (.pair .leaf (.pair (.sl (.sha [1])) (.pair (.sl (.sha [1])) (.pair (.sl (.sha [1])) df))))))))))))),(2,.box 4 aE (.pair (.pair .leaf (.pair .leaf (.pair .leaf yd))) (.pair .leaf (.pair .leaf (.pair (.sl (.sha [])) (.pair (.sl (.sha [])) (.pair (.sl (.sha [])) (.pair .leaf (.pair (.sl (.sha [])) (.pair .leaf (.pair (.sl (.sha [])) (.pair (.sl (.sha [])) Cc)))))))))))),(3,.box 5 aE (.pair (.pair .leaf (.pair .leaf (.pair .leaf Cm))) (.pair .leaf (.pair .leaf (.pair (.sl (.row 7 [7] true)) (.pair (.sl (.row 8 [8] true)) (.pair (.sl (.row 9 [9] true)) (.pair .leaf (.pair (.sl (.row 10 [10] true)) (.pair .leaf (.pair (.sl (.row 11 [] true)) (.pair (.sl (.row 12 [12] true)) (.pair (.sl (.sha [1])) df))))))))))))),(4,.box 13 bC (.pair .leaf (.pair .leaf (.pair .leaf Cm)))),(5,.val (.int .i64) .leaf)],14⟩|18=>some ⟨[(1,.box 3 aE (.pair (.pair .leaf (.pair .leaf (.pair .leaf cP))) (.pair .leaf (.pair .leaf (.pair (.sl (.sha [1])) (.pair (.sl (.sha [1])) (.pair (.sl (.sha [1])) (.pair .leaf (.pair (.sl (.sha [1])) (.pair .leaf (.pair (.sl (.sha [1])) (.pair (.sl (.sha [1])) (.pair (.sl (.sha [1])) df))))))))))))),(2,.box 4 aE (.pair (.pair .leaf (.pair .leaf (.pair .leaf yd))) (.pair .leaf (.pair .leaf (.pair (.sl (.sha [])) (.pair (.sl (.sha [])) (.pair (.sl (.sha [])) (.pair .leaf (.pair (.sl (.sha [])) (.pair .leaf (.pair (.sl (.sha [])) (.pair (.sl (.sha [])) Cc)))))))))))),(3,.box 5 aE (.pair (.pair .leaf (.pair .leaf (.pair .leaf Cm))) (.pair .leaf (.pair .leaf (.pair (.sl (.row 7 [7] true)) (.pair (.sl (.row 8 [8] true)) (.pair (.sl (.row 9 [9] true)) (.pair .leaf (.pair (.sl (.row 10 [10] true)) (.pair .leaf (.pair (.sl (.row 11 [] true)) (.pair (.sl (.row 12 [12] true)) (.pair (.sl (.row 13 [13] true)) Uv))))))))))))),(4,.box 15 bC (.pair .leaf (.pair .leaf (.pair .leaf Cm)))),(7,.val (.int .i64) .leaf)],16⟩|_=>none
def Hc:Nat→Option aM:=fun|15=>some ⟨[(1,.box 3 aE (.pair (.pair .leaf (.pair .leaf (.pair .leaf cP))) (.pair .leaf (.pair .leaf (.pair (.sl (.sha [1])) (.pair (.sl (.sha [1])) (.pair (.sl (.sha [1])) (.pair .leaf (.pair (.sl (.sha [1])) (.pair .leaf (.pair (.sl (.sha [1])) (.pair (.sl (.sha [1])) (.pair (.sl (.sha [1])) df))))))))))))),(2,.box 4 aE (.pair (.pair .leaf (.pair .leaf (.pair .leaf yd))) (.pair .leaf (.pair .leaf (.pair (.sl (.sha [])) (.pair (.sl (.sha [])) (.pair (.sl (.sha [])) (.pair .leaf (.pair (.sl (.sha [])) (.pair .leaf (.pair (.sl (.sha [])) (.pair (.sl (.sha [])) Cc)))))))))))),(3,.box 5 aE (.pair (.pair .leaf (.pair .leaf (.pair .leaf Cm))) (.pair .leaf (.pair .leaf (.pair (.sl (.row 7 [7] true)) (.pair (.sl (.row 8 [8] true)) (.pair (.sl (.row 9 [9] true)) (.pair .leaf (.pair (.sl (.row 10 [10] true)) (.pair .leaf (.pair (.sl (.row 11 [] true)) (.pair (.sl (.row 12 [12] true)) (.pair (.sl (.sha [1])) df))))))))))))),(4,.box 13 bC (.pair .leaf (.pair .leaf (.pair .leaf Cm))))],14⟩|22=>some ⟨[(1,.box 3 aE (.pair (.pair .leaf (.pair .leaf (.pair .leaf cP))) (.pair .leaf (.pair .leaf (.pair (.sl (.sha [1])) (.pair (.sl (.sha [1])) (.pair (.sl (.sha [1])) (.pair .leaf (.pair (.sl (.sha [1])) (.pair .leaf (.pair (.sl (.sha [1])) (.pair (.sl (.sha [1])) (.pair (.sl (.sha [1])) df))))))))))))),(2,.box 4 aE (.pair (.pair .leaf (.pair .leaf (.pair .leaf yd))) (.pair .leaf (.pair .leaf (.pair (.sl (.sha [])) (.pair (.sl (.sha [])) (.pair (.sl (.sha [])) (.pair .leaf (.pair (.sl (.sha [])) (.pair .leaf (.pair (.sl (.sha [])) (.pair (.sl (.sha [])) Cc)))))))))))),(3,.box 5 aE (.pair (.pair .leaf (.pair .leaf (.pair .leaf Cm))) (.pair .leaf (.pair .leaf (.pair (.sl (.row 7 [7] true)) (.pair (.sl (.row 8 [8] true)) (.pair (.sl (.row 9 [9] true)) (.pair .leaf (.pair (.sl (.row 10 [10] true)) (.pair .leaf (.pair (.sl (.row 11 [] true)) (.pair (.sl (.row 12 [12] true)) (.pair (.sl (.row 13 [13] true)) Uv))))))))))))),(4,.box 15 bC (.pair .leaf (.pair .leaf (.pair .leaf Cm))))],16⟩|_=>none
def vc (k:Nat):List (FuncId×aF):=(75,⟨[.val aE (.pair (.pair .leaf (.pair .leaf q0)) (.pair .leaf (.pair .leaf (.pair .shr (.pair .shr (.pair .shr (.pair .leaf (.pair .shr (.pair .leaf (.pair .shr je))))))))))],[.val aE (.pair (.pair .leaf (.pair .leaf u4)) (.pair .leaf (.pair .leaf (.pair .own (.pair .own (.pair .own (.pair .leaf (.pair .own (.pair .leaf (.pair .own Cz))))))))))],lW k,[]⟩)::(yr k)
theorem HX (k:Nat):ae Tryz.prog (vc k):=ae.ev ax mixed (Lp k) GQ Hc k Tryz.func75 (by kernel_rfl) (fun x=>by kernel_rfl)
def Cv (k:Nat):List (FuncId×aF):=(77,⟨[.val (.int .i64) .leaf,.val (.int .i64) .leaf,.val (.int .i64) .leaf],[.val .bool .leaf],bE k,[]⟩)::(vc k)
theorem OG (k:Nat):ae Tryz.prog (Cv k):=ae.ev ax mixed (HX k) nA nA k Tryz.func77 (by kernel_rfl) (fun x=>by kernel_rfl)
def IG:Nat→Option aM:=fun|2=>some ⟨[(0,.val .str .leaf),(3,.val (.int .i64) .leaf)],3⟩|_=>none
def Il:Nat→Option aM:=fun|6=>some ⟨[(0,.val .str .leaf)],3⟩|_=>none
def xS (k:Nat):List (FuncId×aF):=(272,⟨[.val .str .leaf],[.val .bool .leaf],jI k,[]⟩)::(Cv k)
theorem L0 (k:Nat):ae Tryz.prog (xS k):=ae.ev ax mixed (OG k) IG Il k Tryz.func272 (by kernel_rfl) (fun x=>by kernel_rfl)
def Cu (k:Nat):List (FuncId×aF):=(188,⟨[.val .str .leaf,.val .str .leaf],[.val .bool .leaf],eZ k,[]⟩)::(xS k)
theorem N1 (k:Nat):ae Tryz.prog (Cu k):=ae.ev ax mixed (L0 k) nA nA k Tryz.func188 (by kernel_rfl) (fun x=>by kernel_rfl)
def Gy:Nat→Option aM:=fun|2=>some ⟨[(0,.val (.sl .str) (.sl (.sha [1]))),(3,.val (.int .i64) .leaf)],3⟩|_=>none
def xc (k:Nat):List (FuncId×aF):=(311,⟨[.val (.sl .str) .shr],[.val .bool .leaf],fQ k,[]⟩)::(Cu k)
theorem HZ (k:Nat):ae Tryz.prog (xc k):=ae.ev ax mixed (N1 k) Gy nA k Tryz.func311 (by kernel_rfl) (fun x=>by kernel_rfl)
def NS:Nat→Option aM:=fun|2=>some ⟨[(0,.val (.sl .str) (.sl (.sha [1]))),(3,.val (.int .i64) .leaf)],3⟩|_=>none
def Nx:Nat→Option aM:=fun|6=>some ⟨[(0,.val (.sl .str) (.sl (.sha [1])))],3⟩|_=>none
def Co (k:Nat):List (FuncId×aF):=(239,⟨[.val (.sl .str) .shr],[.val .bool .leaf],pS k,[]⟩)::(xc k)
theorem Og (k:Nat):ae Tryz.prog (Co k):=ae.ev ax mixed (HZ k) NS Nx k Tryz.func239 (by kernel_rfl) (fun x=>by kernel_rfl)
def yC (k:Nat):List (FuncId×aF):=(154,⟨[.val bC (.pair .leaf (.pair .leaf q0))],[.val .bool .leaf],mJ k,[]⟩)::(Co k)
theorem KO (k:Nat):ae Tryz.prog (yC k):=ae.ev ax mixed (Og k) nA nA k Tryz.func154 (by kernel_rfl) (fun x=>by kernel_rfl)
def FI:Nat→Option aM:=fun|2=>some ⟨[(0,.val .str .leaf),(3,.val (.int .i64) .leaf)],3⟩|_=>none
def Eu:Nat→Option aM:=fun|6=>some ⟨[(0,.val .str .leaf)],3⟩|_=>none
def wu (k:Nat):List (FuncId×aF):=(273,⟨[.val .str .leaf],[.val .bool .leaf],iB k,[]⟩)::(yC k)
theorem HP (k:Nat):ae Tryz.prog (wu k):=ae.ev ax mixed (KO k) FI Eu k Tryz.func273 (by kernel_rfl) (fun x=>by kernel_rfl)
def wm (k:Nat):List (FuncId×aF):=(187,⟨[.val af (.pair .leaf .leaf)],[.val .bool .leaf],lA k,[]⟩)::(wu k)
theorem JY (k:Nat):ae Tryz.prog (wm k):=ae.ev ax mixed (HP k) nA nA k Tryz.func187 (by kernel_rfl) (fun x=>by kernel_rfl)
def KM:Nat→Option aM:=fun|2=>some ⟨[(0,.val (.sl af) (.sl (.sha [1]))),(3,.val (.int .i64) .leaf)],3⟩|_=>none
def L2:Nat→Option aM:=fun|6=>some ⟨[(0,.val (.sl af) (.sl (.sha [1])))],3⟩|_=>none
def AD (k:Nat):List (FuncId×aF):=(103,⟨[.val (.sl af) .shr],[.val .bool .leaf],fX k,[]⟩)::(wm k)
theorem Ml (k:Nat):ae Tryz.prog (AD k):=ae.ev ax mixed (JY k) KM L2 k Tryz.func103 (by kernel_rfl) (fun x=>by kernel_rfl)
def ve (k:Nat):List (FuncId×aF):=(242,⟨[.val ab q3],[.val .bool .leaf],dr k,[]⟩)::(AD k)
theorem Ip (k:Nat):ae Tryz.prog (ve k):=ae.ev ax mixed (Ml k) nA nA k Tryz.func242 (by kernel_rfl) (fun x=>by kernel_rfl)
def GN:Nat→Option aM:=fun|5=>some ⟨[(0,.val (.sl af) (.sl (.sha [1]))),(3,.val .str .leaf),(4,.val (.int .i64) .leaf)],3⟩|_=>none
def Eo:Nat→Option aM:=fun|9=>some ⟨[(0,.val (.sl af) (.sl (.sha [1]))),(3,.val .str .leaf),(4,.val (.int .i64) .leaf)],3⟩|10=>some ⟨[(3,.val .str .leaf)],3⟩|_=>none
def wG (k:Nat):List (FuncId×aF):=(360,⟨[.val (.sl af) .shr],[.val .str .leaf],lY k,[]⟩)::(ve k)
theorem IF (k:Nat):ae Tryz.prog (wG k):=ae.ev ax mixed (Ip k) GN Eo k Tryz.func360 (by kernel_rfl) (fun x=>by kernel_rfl)
end Vg.Tryz
namespace Vg.Tryz
open Go Vg Go.Proofs
set_option linter.unusedVariables false
set_option maxRecDepth 1000000
def Oq:Nat→Option aM:=fun|3=>some ⟨[(0,.val .str .leaf),(3,.val (.int .i64) .leaf),(4,.val (.int .i64) .leaf)],3⟩|_=>none
def FV (k:Nat):List (FuncId×aF):=(359,⟨[.val .str .leaf],[.val (.int .i64) .leaf],jn k,[]⟩)::(wG k)
theorem P3 (k:Nat):ae Tryz.prog (FV k):=ae.ev ax mixed (IF k) Oq nA k Tryz.func359 (by kernel_rfl) (fun x=>by kernel_rfl)
def yV (k:Nat):List (FuncId×aF):=(318,⟨[.val (.sl af) .shr],[.val (.int .i64) .leaf],dM k,[]⟩)::(FV k)
theorem LL (k:Nat):ae Tryz.prog (yV k):=ae.ev ax mixed (P3 k) nA nA k Tryz.func318 (by kernel_rfl) (fun x=>by kernel_rfl)
def Fy:Nat→Option aM:=fun|4=>some ⟨[(0,.val (.sl af) (.sl (.sha [1]))),(1,.val (.sl af) (.sl (.sha [1]))),(5,.val (.int .i64) .leaf)],3⟩|_=>none
def vu (k:Nat):List (FuncId×aF):=(249,⟨[.val (.sl af) .shr,.val (.sl af) .shr],[.val .bool .leaf],cK k,[]⟩)::(yV k)
theorem Jh (k:Nat):ae Tryz.prog (vu k):=ae.ev ax mixed (LL k) Fy nA k Tryz.func249 (by kernel_rfl) (fun x=>by kernel_rfl)
def Er:Nat→Option aM:=fun|2=>some ⟨[(1,.box 3 ay (.pair .leaf (.sl (.sha [1])))),(3,.val (.int .i64) .leaf)],4⟩|7=>some ⟨[(1,.box 3 ay (.pair .leaf (.sl (.sha [1])))),(3,.val (.int .i64) .leaf),(4,.val (.int .i64) .leaf)],4⟩|_=>none
def EM:Nat→Option aM:=fun|11=>some ⟨[(1,.box 3 ay (.pair .leaf (.sl (.sha [1]))))],4⟩|_=>none
def vJ (k:Nat):List (FuncId×aF):=(356,⟨[.val ay (.pair .leaf .shr)],[.val .bool .leaf],lr k,[]⟩)::(vu k)
theorem IE (k:Nat):ae Tryz.prog (vJ k):=ae.ev ax mixed (Jh k) Er EM k Tryz.func356 (by kernel_rfl) (fun x=>by kernel_rfl)
def yO (k:Nat):List (FuncId×aF):=(317,⟨[.val (.int .i64) .leaf,.val (.int .i64) .leaf],[.val (.int .i64) .leaf],eE k,[]⟩)::(vJ k)
theorem LD (k:Nat):ae Tryz.prog (yO k):=ae.ev ax mixed (IE k) nA nA k Tryz.func317 (by kernel_rfl) (fun x=>by kernel_rfl)
def HE:Nat→Option aM:=fun|2=>some ⟨[(1,.val (.int .i64) .leaf),(2,.val (.int .i64) .leaf),(3,.box 3 ak cP),(7,.val (.int .i64) .leaf)],4⟩|_=>none
def Ji:Nat→Option aM:=fun|6=>some ⟨[(3,.box 3 ak cP)],4⟩|_=>none
def yJ (k:Nat):List (FuncId×aF):=(312,⟨[.val ak (.pair .leaf (.pair .leaf .shr)),.val (.int .i64) .leaf,.val (.int .i64) .leaf],[.val .bool .leaf],nc k,[]⟩)::(yO k)
theorem Lx (k:Nat):ae Tryz.prog (yJ k):=ae.ev ax mixed (LD k) HE Ji k Tryz.func312 (by kernel_rfl) (fun x=>by kernel_rfl)
def GV:Nat→Option aM:=fun|2=>some ⟨[(0,.val (.sl ak) (.sl (.sha [1]))),(3,.val (.int .i64) .leaf)],3⟩|_=>none
def GJ:Nat→Option aM:=fun|6=>some ⟨[(0,.val (.sl ak) (.sl (.sha [1])))],3⟩|_=>none
def vF (k:Nat):List (FuncId×aF):=(240,⟨[.val (.sl ak) .shr],[.val .bool .leaf],lF k,[]⟩)::(yJ k)
theorem Ig (k:Nat):ae Tryz.prog (vF k):=ae.ev ax mixed (Lx k) GV GJ k Tryz.func240 (by kernel_rfl) (fun x=>by kernel_rfl)
def CY:Nat→Option aM:=fun|3=>some ⟨[(1,.box 3 ak cP),(3,.val (.sl ab) (.sl (.row 4 [4] true))),(4,.val (.int .i64) .leaf)],5⟩|_=>none
def uE (k:Nat):List (FuncId×aF):=(280,⟨[.val ak (.pair .leaf (.pair .leaf .shr))],[.val (.sl ab) .own],gD k,[]⟩)::(vF k)
theorem Ht (k:Nat):ae Tryz.prog (uE k):=ae.ev ax mixed (Ig k) CY nA k Tryz.func280 (by kernel_rfl) (fun x=>by kernel_rfl)
def Gq:Nat→Option aM:=fun|2=>some ⟨[(0,.val (.sl af) (.sl (.sha [1]))),(1,.val (.sl af) (.sl (.sha [1]))),(5,.val (.int .i64) .leaf)],3⟩|_=>none
def Fe:Nat→Option aM:=fun|8=>some ⟨[(0,.val (.sl af) (.sl (.sha [1]))),(1,.val (.sl af) (.sl (.sha [1])))],3⟩|_=>none
def vm (k:Nat):List (FuncId×aF):=(338,⟨[.val (.sl af) .shr,.val (.sl af) .shr],[.val .bool .leaf],iD k,[]⟩)::(uE k)
theorem HN (k:Nat):ae Tryz.prog (vm k):=ae.ev ax mixed (Ht k) Gq Fe k Tryz.func338 (by kernel_rfl) (fun x=>by kernel_rfl)
def I8:Nat→Option aM:=fun|3=>some ⟨[(0,.val (.sl ab) (.sl (.sha [1]))),(3,.val (.sl ab) (.sl (.row 3 [2] false))),(4,.val (.int .i64) .leaf)],4⟩|7=>some ⟨[(0,.val (.sl ab) (.sl (.sha [1]))),(3,.val (.sl ab) (.sl (.row 3 [2] false))),(4,.val (.int .i64) .leaf),(5,.box 4 ab TW),(6,.val (.int .i64) .leaf)],6⟩|_=>none
def H4:Nat→Option aM:=fun|9=>some ⟨[(0,.val (.sl ab) (.sl (.sha [1]))),(3,.val (.sl ab) (.sl (.row 3 [2] false))),(4,.val (.int .i64) .leaf),(5,.box 4 ab TW),(6,.val (.int .i64) .leaf)],6⟩|_=>none
def yf (k:Nat):List (FuncId×aF):=(281,⟨[.val (.sl ab) .shr],[.val (.sl ab) .shr],jJ k,[]⟩)::(vm k)
theorem LW (k:Nat):ae Tryz.prog (yf k):=ae.ev ax mixed (HN k) I8 H4 k Tryz.func281 (by kernel_rfl) (fun x=>by kernel_rfl)
def BO:Nat→Option aM:=fun|3=>some ⟨[(0,.val (.sl ak) (.sl (.sha [1]))),(3,.val (.sl ab) (.sl (.row 3 [3] true))),(4,.val (.int .i64) .leaf)],4⟩|_=>none
def Bm:Nat→Option aM:=fun|6=>some ⟨[(3,.val (.sl ab) (.sl (.row 3 [3] true)))],4⟩|_=>none
def sV (k:Nat):List (FuncId×aF):=(241,⟨[.val (.sl ak) .shr],[.val (.sl ab) .shr],ji k,[]⟩)::(yf k)
theorem D5 (k:Nat):ae Tryz.prog (sV k):=ae.ev ax mixed (LW k) BO Bm k Tryz.func241 (by kernel_rfl) (fun x=>by kernel_rfl)
def Ce (k:Nat):List (FuncId×aF):=(191,⟨[.val bC (.pair .leaf (.pair .leaf q0)),.val ab q3],[.val .bool .leaf],mD k,[]⟩)::(sV k)
theorem OI (k:Nat):ae Tryz.prog (Ce k):=ae.ev ax mixed (D5 k) nA nA k Tryz.func191 (by kernel_rfl) (fun x=>by kernel_rfl)
def Dv:Nat→Option aM:=fun|5=>some ⟨[(1,.box 3 aE (.pair (.pair .leaf (.pair .leaf (.pair .leaf cP))) (.pair .leaf (.pair .leaf (.pair (.sl (.sha [1])) (.pair (.sl (.sha [1])) (.pair (.sl (.sha [1])) (.pair .leaf (.pair (.sl (.sha [1])) (.pair .leaf (.pair (.sl (.sha [1])) (.pair (.sl (.sha [1])) (.pair (.sl (.sha [1])) df))))))))))))),(3,.val (.sl ab) (.sl (.sha [1,2]))),(4,.val (.int .i64) .leaf)],4⟩|_=>none
def Dc:Nat→Option aM:=fun|9=>some ⟨[(1,.box 3 aE (.pair (.pair .leaf (.pair .leaf (.pair .leaf cP))) (.pair .leaf (.pair .leaf (.pair (.sl (.sha [1])) (.pair (.sl (.sha [1])) (.pair (.sl (.sha [1])) (.pair .leaf (.pair (.sl (.sha [1])) (.pair .leaf (.pair (.sl (.sha [1])) (.pair (.sl (.sha [1])) (.pair (.sl (.sha [1])) df))))))))))))),(3,.val (.sl ab) (.sl (.sha [1,2])))],4⟩|_=>none
def tq (k:Nat):List (FuncId×aF):=(155,⟨[.val aE (.pair (.pair .leaf (.pair .leaf q0)) (.pair .leaf (.pair .leaf (.pair .shr (.pair .shr (.pair .shr (.pair .leaf (.pair .shr (.pair .leaf (.pair .shr je))))))))))],[.val .bool .leaf],km k,[]⟩)::(Ce k)
theorem FN (k:Nat):ae Tryz.prog (tq k):=ae.ev ax mixed (OI k) Dv Dc k Tryz.func155 (by kernel_rfl) (fun x=>by kernel_rfl)
def HF:Nat→Option aM:=fun|2=>some ⟨[(0,.val (.sl ab) (.sl (.sha [1]))),(3,.val (.int .i64) .leaf)],3⟩|_=>none
def yB (k:Nat):List (FuncId×aF):=(156,⟨[.val (.sl ab) .shr],[.val .bool .leaf],gq k,[]⟩)::(tq k)
theorem K3 (k:Nat):ae Tryz.prog (yB k):=ae.ev ax mixed (FN k) HF nA k Tryz.func156 (by kernel_rfl) (fun x=>by kernel_rfl)
def Ld:Nat→Option aM:=fun|2=>some ⟨[(1,.box 3 aU (.pair (.sl (.sha [1])) .leaf)),(3,.val (.int .i64) .leaf)],4⟩|_=>none
def Lc:Nat→Option aM:=fun|6=>some ⟨[(1,.box 3 aU (.pair (.sl (.sha [1])) .leaf))],4⟩|_=>none
def zz (k:Nat):List (FuncId×aF):=(157,⟨[.val aU (.pair .shr .leaf)],[.val .bool .leaf],oE k,[]⟩)::(yB k)
theorem M7 (k:Nat):ae Tryz.prog (zz k):=ae.ev ax mixed (K3 k) Ld Lc k Tryz.func157 (by kernel_rfl) (fun x=>by kernel_rfl)
def uB (k:Nat):List (FuncId×aF):=(244,⟨[.val (.int .i64) .leaf],[.val (.sl (.int .i64)) .own],ky k,[]⟩)::(zz k)
theorem GK (k:Nat):ae Tryz.prog (uB k):=ae.ev ax mixed (M7 k) nA nA k Tryz.func244 (by kernel_rfl) (fun x=>by kernel_rfl)
def Ii:Nat→Option aM:=fun|2=>some ⟨[(0,.val (.sl (.int .i64)) (.sl (.sha [1]))),(1,.val (.int .i64) .leaf),(5,.val (.int .i64) .leaf)],3⟩|_=>none
def yW (k:Nat):List (FuncId×aF):=(243,⟨[.val (.sl (.int .i64)) .shr,.val (.int .i64) .leaf],[.val .bool .leaf],mH k,[]⟩)::(uB k)
theorem Lq (k:Nat):ae Tryz.prog (yW k):=ae.ev ax mixed (GK k) Ii nA k Tryz.func243 (by kernel_rfl) (fun x=>by kernel_rfl)
def yo (k:Nat):List (FuncId×aF):=(158,⟨[.val aq (.pair .leaf (.pair .leaf (.pair q3 (.pair .shr (.pair .leaf (.pair .leaf (.pair .leaf (.pair .shr uq))))))))],[.val .bool .leaf],gp k,[]⟩)::(yW k)
theorem Li (k:Nat):ae Tryz.prog (yo k):=ae.ev ax mixed (Lq k) nA nA k Tryz.func158 (by kernel_rfl) (fun x=>by kernel_rfl)
def sF (k:Nat):List (FuncId×aF):=(248,⟨[.val ab q3,.val ab q3],[.val .bool .leaf],cS k,[]⟩)::(yo k)
theorem C4 (k:Nat):ae Tryz.prog (sF k):=ae.ev ax mixed (Li k) nA nA k Tryz.func248 (by kernel_rfl) (fun x=>by kernel_rfl)
def wQ (k:Nat):List (FuncId×aF):=(313,⟨[.val ab q3],[.val .bool .leaf],eW k,[]⟩)::(sF k)
theorem Js (k:Nat):ae Tryz.prog (wQ k):=ae.ev ax mixed (C4 k) nA nA k Tryz.func313 (by kernel_rfl) (fun x=>by kernel_rfl)
def Hm:Nat→Option aM:=fun|2=>some ⟨[(1,.box 3 ah (.pair .leaf (.pair .leaf (.pair uQ (.pair (.sl (.sha [1])) (.pair .leaf (.pair (.sl (.sha [1])) uR))))))),(3,.val (.int .i64) .leaf)],4⟩|_=>none
def GP:Nat→Option aM:=fun|6=>some ⟨[(1,.box 3 ah (.pair .leaf (.pair .leaf (.pair uQ (.pair (.sl (.sha [1])) (.pair .leaf (.pair (.sl (.sha [1])) uR)))))))],4⟩|_=>none
def wv (k:Nat):List (FuncId×aF):=(314,⟨[.val ah (.pair .leaf (.pair .leaf (.pair q3 (.pair .shr (.pair .leaf q7)))))],[.val .bool .leaf],lC k,[]⟩)::(wQ k)
theorem HY (k:Nat):ae Tryz.prog (wv k):=ae.ev ax mixed (Js k) Hm GP k Tryz.func314 (by kernel_rfl) (fun x=>by kernel_rfl)
def yv (k:Nat):List (FuncId×aF):=(245,⟨[.val ah (.pair .leaf (.pair .leaf (.pair q3 (.pair .shr (.pair .leaf q7))))),.val (.int .i64) .leaf],[.val .bool .leaf],mW k,[]⟩)::(wv k)
theorem Lu (k:Nat):ae Tryz.prog (yv k):=ae.ev ax mixed (HY k) nA nA k Tryz.func245 (by kernel_rfl) (fun x=>by kernel_rfl)
def rS (k:Nat):List (FuncId×aF):=(246,⟨[.val (.int .i64) .leaf],[.val (.int .i64) .leaf],ee k,[]⟩)::(yv k)
theorem CR (k:Nat):ae Tryz.prog (rS k):=ae.ev ax mixed (Lu k) nA nA k Tryz.func246 (by kernel_rfl) (fun x=>by kernel_rfl)
def yn (k:Nat):List (FuncId×aF):=(279,⟨[.val (.sl ak) .shr,.val (.sl af) .shr],[.val (.int .i64) .leaf],mI k,[]⟩)::(rS k)
theorem Le (k:Nat):ae Tryz.prog (yn k):=ae.ev ax mixed (CR k) nA nA k Tryz.func279 (by kernel_rfl) (fun x=>by kernel_rfl)
def NJ:Nat→Option aM:=fun|2=>some ⟨[(1,.val (.int .i64) .leaf),(2,.box 3 ak cP),(5,.val (.int .i64) .leaf)],4⟩|_=>none
def CA (k:Nat):List (FuncId×aF):=(357,⟨[.val ak (.pair .leaf (.pair .leaf .shr)),.val (.int .i64) .leaf],[.val (.int .i64) .leaf],pX k,[]⟩)::(yn k)
theorem OC (k:Nat):ae Tryz.prog (CA k):=ae.ev ax mixed (Le k) NJ nA k Tryz.func357 (by kernel_rfl) (fun x=>by kernel_rfl)
end Vg.Tryz
namespace Vg.Tryz
open Go Vg Go.Proofs
set_option linter.unusedVariables false
set_option maxRecDepth 1000000
def GL:Nat→Option aM:=fun|2=>some ⟨[(1,.val (.sl af) (.sl (.sha [1]))),(2,.box 3 ay (.pair .leaf (.sl (.sha [1])))),(5,.val (.int .i64) .leaf)],4⟩|_=>none
def uZ (k:Nat):List (FuncId×aF):=(358,⟨[.val ay (.pair .leaf .shr),.val (.sl af) .shr],[.val (.int .i64) .leaf],lN k,[]⟩)::(CA k)
theorem JI (k:Nat):ae Tryz.prog (uZ k):=ae.ev ax mixed (OC k) GL nA k Tryz.func358 (by kernel_rfl) (fun x=>by kernel_rfl)
def xT (k:Nat):List (FuncId×aF):=(315,⟨[.val ak (.pair .leaf (.pair .leaf .shr)),.val (.sl af) .shr],[.val ab qR,.val .bool .leaf],nh k,[]⟩)::(uZ k)
theorem Lo (k:Nat):ae Tryz.prog (xT k):=ae.ev ax mixed (JI k) nA nA k Tryz.func315 (by kernel_rfl) (fun x=>by kernel_rfl)
def s9 (k:Nat):List (FuncId×aF):=(247,⟨[.val (.sl ak) .shr,.val (.sl af) .shr],[.val ab qR,.val .bool .leaf],jo k,[]⟩)::(xT k)
theorem CC (k:Nat):ae Tryz.prog (s9 k):=ae.ev ax mixed (Lo k) nA nA k Tryz.func247 (by kernel_rfl) (fun x=>by kernel_rfl)
def I3:Nat→Option aM:=fun|4=>some ⟨[(0,.val (.sl ab) (.sl (.sha [1]))),(1,.val (.sl ab) (.sl (.sha [1]))),(5,.val (.int .i64) .leaf)],3⟩|_=>none
def yK (k:Nat):List (FuncId×aF):=(316,⟨[.val (.sl ab) .shr,.val (.sl ab) .shr],[.val .bool .leaf],mG k,[]⟩)::(s9 k)
theorem LV (k:Nat):ae Tryz.prog (yK k):=ae.ev ax mixed (CC k) I3 nA k Tryz.func316 (by kernel_rfl) (fun x=>by kernel_rfl)
def Fc:Nat→Option aM:=fun|4=>some ⟨[(2,.box 3 aE (.pair (.pair .leaf (.pair .leaf (.pair .leaf cP))) (.pair .leaf (.pair .leaf (.pair (.sl (.sha [1])) (.pair (.sl (.sha [1])) (.pair (.sl (.sha [1])) (.pair .leaf (.pair (.sl (.sha [1])) (.pair .leaf (.pair (.sl (.sha [1])) (.pair (.sl (.sha [1])) (.pair (.sl (.sha [1])) df))))))))))))),(3,.box 4 ah (.pair .leaf (.pair .leaf (.pair uQ (.pair (.sl (.sha [1])) (.pair .leaf (.pair (.sl (.sha [1])) uR))))))),(5,.val (.sl ab) (.sl (.row 5 [5] true))),(6,.val .bool .leaf),(7,.val (.int .i64) .leaf)],6⟩|_=>none
def FX:Nat→Option aM:=fun|10=>some ⟨[(2,.box 3 aE (.pair (.pair .leaf (.pair .leaf (.pair .leaf cP))) (.pair .leaf (.pair .leaf (.pair (.sl (.sha [1])) (.pair (.sl (.sha [1])) (.pair (.sl (.sha [1])) (.pair .leaf (.pair (.sl (.sha [1])) (.pair .leaf (.pair (.sl (.sha [1])) (.pair (.sl (.sha [1])) (.pair (.sl (.sha [1])) df))))))))))))),(3,.box 4 ah (.pair .leaf (.pair .leaf (.pair uQ (.pair (.sl (.sha [1])) (.pair .leaf (.pair (.sl (.sha [1])) uR))))))),(5,.val (.sl ab) (.sl (.row 5 [5] true))),(6,.val .bool .leaf)],6⟩|_=>none
def vV (k:Nat):List (FuncId×aF):=(250,⟨[.val aE (.pair (.pair .leaf (.pair .leaf q0)) (.pair .leaf (.pair .leaf (.pair .shr (.pair .shr (.pair .shr (.pair .leaf (.pair .shr (.pair .leaf (.pair .shr je)))))))))),.val ah (.pair .leaf (.pair .leaf (.pair q3 (.pair .shr (.pair .leaf q7)))))],[.val .bool .leaf],eM k,[]⟩)::(yK k)
theorem JU (k:Nat):ae Tryz.prog (vV k):=ae.ev ax mixed (LV k) Fc FX k Tryz.func250 (by kernel_rfl) (fun x=>by kernel_rfl)
def Fm:Nat→Option aM:=fun|26=>some ⟨[(2,.box 3 aE (.pair (.pair .leaf (.pair .leaf (.pair .leaf cP))) (.pair .leaf (.pair .leaf (.pair (.sl (.sha [1])) (.pair (.sl (.sha [1])) (.pair (.sl (.sha [1])) (.pair .leaf (.pair (.sl (.sha [1])) (.pair .leaf (.pair (.sl (.sha [1])) (.pair (.sl (.sha [1])) (.pair (.sl (.sha [1])) df))))))))))))),(5,.box 4 ah (.pair .leaf (.pair .leaf (.pair Un (.pair (.sl (.sha [1,2])) (.pair .leaf (.pair (.sl (.sha [1,2])) (.pair (.sl (.sha [1,2])) (.pair .leaf .leaf))))))))),(6,.box 5 aq (.pair .leaf (.pair .leaf (.pair Un (.pair (.sl (.sha [1,2])) (.pair .leaf (.pair .leaf (.pair .leaf (.pair (.sl (.sha [1,2])) (.pair .leaf (.pair .leaf (.pair .leaf .leaf))))))))))))],6⟩|_=>none
def vR (k:Nat):List (FuncId×aF):=(159,⟨[.val aE (.pair (.pair .leaf (.pair .leaf q0)) (.pair .leaf (.pair .leaf (.pair .shr (.pair .shr (.pair .shr (.pair .leaf (.pair .shr (.pair .leaf (.pair .shr je)))))))))),.val (.int .i64) .leaf],[.val .bool .leaf],lp k,[]⟩)::(vV k)
theorem IP (k:Nat):ae Tryz.prog (vR k):=ae.ev ax mixed (JU k) nA Fm k Tryz.func159 (by kernel_rfl) (fun x=>by kernel_rfl)
def ta (k:Nat):List (FuncId×aF):=(251,⟨[.val ah (.pair .leaf (.pair .leaf (.pair q3 (.pair .shr (.pair .leaf q7))))),.val (.int .i64) .leaf],[.val (.int .i64) .leaf],ju k,[]⟩)::(vR k)
theorem Dp (k:Nat):ae Tryz.prog (ta k):=ae.ev ax mixed (IP k) nA nA k Tryz.func251 (by kernel_rfl) (fun x=>by kernel_rfl)
def qg (k:Nat):List (FuncId×aF):=(252,⟨[.val ah (.pair .leaf (.pair .leaf (.pair q3 (.pair .shr (.pair .leaf q7)))))],[.val .bool .leaf],gB k,[]⟩)::(ta k)
theorem zF (k:Nat):ae Tryz.prog (qg k):=ae.ev ax mixed (Dp k) nA nA k Tryz.func252 (by kernel_rfl) (fun x=>by kernel_rfl)
def Dk:Nat→Option aM:=fun|3=>some ⟨[(1,.box 3 aE (.pair (.pair .leaf (.pair .leaf (.pair .leaf cP))) (.pair .leaf (.pair .leaf (.pair (.sl (.sha [1])) (.pair (.sl (.sha [1])) (.pair (.sl (.sha [1])) (.pair .leaf (.pair (.sl (.sha [1])) (.pair .leaf (.pair (.sl (.sha [1])) (.pair (.sl (.sha [1])) (.pair (.sl (.sha [1])) df))))))))))))),(3,.val (.sl (.int .i64)) (.sl (.row 4 [] true))),(4,.val (.int .i64) .leaf)],5⟩|8=>some ⟨[(1,.box 3 aE (.pair (.pair .leaf (.pair .leaf (.pair .leaf cP))) (.pair .leaf (.pair .leaf (.pair (.sl (.sha [1])) (.pair (.sl (.sha [1])) (.pair (.sl (.sha [1])) (.pair .leaf (.pair (.sl (.sha [1])) (.pair .leaf (.pair (.sl (.sha [1])) (.pair (.sl (.sha [1])) (.pair (.sl (.sha [1])) df))))))))))))),(3,.val (.sl (.int .i64)) (.sl (.row 4 [] true))),(5,.val (.int .i64) .leaf),(6,.val (.int .i64) .leaf)],5⟩|20=>some ⟨[(1,.box 3 aE (.pair (.pair .leaf (.pair .leaf (.pair .leaf cP))) (.pair .leaf (.pair .leaf (.pair (.sl (.sha [1])) (.pair (.sl (.sha [1])) (.pair (.sl (.sha [1])) (.pair .leaf (.pair (.sl (.sha [1])) (.pair .leaf (.pair (.sl (.sha [1])) (.pair (.sl (.sha [1])) (.pair (.sl (.sha [1])) df))))))))))))),(3,.val (.sl (.int .i64)) (.sl (.row 4 [] true))),(5,.val (.int .i64) .leaf),(8,.val (.int .i64) .leaf)],5⟩|_=>none
def Ee:Nat→Option aM:=fun|6=>some ⟨[(1,.box 3 aE (.pair (.pair .leaf (.pair .leaf (.pair .leaf cP))) (.pair .leaf (.pair .leaf (.pair (.sl (.sha [1])) (.pair (.sl (.sha [1])) (.pair (.sl (.sha [1])) (.pair .leaf (.pair (.sl (.sha [1])) (.pair .leaf (.pair (.sl (.sha [1])) (.pair (.sl (.sha [1])) (.pair (.sl (.sha [1])) df))))))))))))),(3,.val (.sl (.int .i64)) (.sl (.row 4 [] true)))],5⟩|15=>some ⟨[(1,.box 3 aE (.pair (.pair .leaf (.pair .leaf (.pair .leaf cP))) (.pair .leaf (.pair .leaf (.pair (.sl (.sha [1])) (.pair (.sl (.sha [1])) (.pair (.sl (.sha [1])) (.pair .leaf (.pair (.sl (.sha [1])) (.pair .leaf (.pair (.sl (.sha [1])) (.pair (.sl (.sha [1])) (.pair (.sl (.sha [1])) df))))))))))))),(3,.val (.sl (.int .i64)) (.sl (.row 4 [] true))),(5,.val (.int .i64) .leaf),(6,.val (.int .i64) .leaf)],5⟩|19=>some ⟨[(1,.box 3 aE (.pair (.pair .leaf (.pair .leaf (.pair .leaf cP))) (.pair .leaf (.pair .leaf (.pair (.sl (.sha [1])) (.pair (.sl (.sha [1])) (.pair (.sl (.sha [1])) (.pair .leaf (.pair (.sl (.sha [1])) (.pair .leaf (.pair (.sl (.sha [1])) (.pair (.sl (.sha [1])) (.pair (.sl (.sha [1])) df))))))))))))),(3,.val (.sl (.int .i64)) (.sl (.row 4 [] true))),(5,.val (.int .i64) .leaf)],5⟩|24=>some ⟨[(1,.box 3 aE (.pair (.pair .leaf (.pair .leaf (.pair .leaf cP))) (.pair .leaf (.pair .leaf (.pair (.sl (.sha [1])) (.pair (.sl (.sha [1])) (.pair (.sl (.sha [1])) (.pair .leaf (.pair (.sl (.sha [1])) (.pair .leaf (.pair (.sl (.sha [1])) (.pair (.sl (.sha [1])) (.pair (.sl (.sha [1])) df))))))))))))),(5,.val (.int .i64) .leaf)],4⟩|_=>none
def tl (k:Nat):List (FuncId×aF):=(160,⟨[.val aE (.pair (.pair .leaf (.pair .leaf q0)) (.pair .leaf (.pair .leaf (.pair .shr (.pair .shr (.pair .shr (.pair .leaf (.pair .shr (.pair .leaf (.pair .shr je))))))))))],[.val .bool .leaf],gG k,[]⟩)::(qg k)
theorem EI (k:Nat):ae Tryz.prog (tl k):=ae.ev ax mixed (zF k) Dk Ee k Tryz.func160 (by kernel_rfl) (fun x=>by kernel_rfl)
def LF:Nat→Option aM:=fun|2=>some ⟨[(0,.val (.sl .str) (.sl (.sha [1]))),(1,.val .str .leaf),(5,.val (.int .i64) .leaf)],3⟩|_=>none
def zk (k:Nat):List (FuncId×aF):=(369,⟨[.val (.sl .str) .shr,.val .str .leaf],[.val .bool .leaf],nR k,[]⟩)::(tl k)
theorem NT (k:Nat):ae Tryz.prog (zk k):=ae.ev ax mixed (EI k) LF nA k Tryz.func369 (by kernel_rfl) (fun x=>by kernel_rfl)
def Gr:Nat→Option aM:=fun|3=>some ⟨[(0,.val (.sl af) (.sl (.sha [1]))),(1,.val (.sl .str) (.sl (.sha [1]))),(5,.val (.sl af) (.sl (.row 3 [] true))),(6,.val (.int .i64) .leaf)],4⟩|_=>none
def vt (k:Nat):List (FuncId×aF):=(342,⟨[.val (.sl af) .shr,.val (.sl .str) .shr],[.val (.sl af) .own],pC k,[]⟩)::(zk k)
theorem IL (k:Nat):ae Tryz.prog (vt k):=ae.ev ax mixed (NT k) Gr nA k Tryz.func342 (by kernel_rfl) (fun x=>by kernel_rfl)
def AF (k:Nat):List (FuncId×aF):=(286,⟨[.val ab q3,.val (.sl .str) .shr],[.val (.sl af) .own],oQ k,[]⟩)::(vt k)
theorem Nq (k:Nat):ae Tryz.prog (AF k):=ae.ev ax mixed (IL k) nA nA k Tryz.func286 (by kernel_rfl) (fun x=>by kernel_rfl)
def Fa:Nat→Option aM:=fun|2=>some ⟨[(1,.val (.sl .str) (.sl (.sha [1]))),(2,.box 3 aj (.pair .leaf (.pair (.sl (.sha [1])) cP))),(5,.val (.int .i64) .leaf)],4⟩|_=>none
def Fg:Nat→Option aM:=fun|6=>some ⟨[(2,.box 3 aj (.pair .leaf (.pair (.sl (.sha [1])) cP)))],4⟩|_=>none
def vE (k:Nat):List (FuncId×aF):=(319,⟨[.val aj (.pair .leaf q4),.val (.sl .str) .shr],[.val .bool .leaf],lu k,[]⟩)::(AF k)
theorem JG (k:Nat):ae Tryz.prog (vE k):=ae.ev ax mixed (Nq k) Fa Fg k Tryz.func319 (by kernel_rfl) (fun x=>by kernel_rfl)
def CD:Nat→Option aM:=fun|2=>some ⟨[(0,.val (.sl aj) (.sl (.sha [1]))),(1,.val (.sl .str) (.sl (.sha [1]))),(5,.val (.int .i64) .leaf)],3⟩|7=>some ⟨[(0,.val (.sl aj) (.sl (.sha [1]))),(1,.val (.sl .str) (.sl (.sha [1]))),(5,.val (.int .i64) .leaf),(6,.val (.int .i64) .leaf)],3⟩|_=>none
def Dn:Nat→Option aM:=fun|11=>some ⟨[(0,.val (.sl aj) (.sl (.sha [1])))],3⟩|_=>none
def th (k:Nat):List (FuncId×aF):=(253,⟨[.val (.sl aj) .shr,.val (.sl .str) .shr],[.val .bool .leaf],ko k,[]⟩)::(vE k)
theorem F5 (k:Nat):ae Tryz.prog (th k):=ae.ev ax mixed (JG k) CD Dn k Tryz.func253 (by kernel_rfl) (fun x=>by kernel_rfl)
def yA (k:Nat):List (FuncId×aF):=(293,⟨[.val aC (.pair .leaf .leaf),.val aC (.pair .leaf .leaf)],[.val .bool .leaf],mU k,[]⟩)::(th k)
theorem LG (k:Nat):ae Tryz.prog (yA k):=ae.ev ax mixed (F5 k) nA nA k Tryz.func293 (by kernel_rfl) (fun x=>by kernel_rfl)
def HJ:Nat→Option aM:=fun|2=>some ⟨[(0,.val (.sl aC) (.sl (.sha [1]))),(3,.val (.int .i64) .leaf)],3⟩|_=>none
def Ja:Nat→Option aM:=fun|6=>some ⟨[(0,.val (.sl aC) (.sl (.sha [1])))],3⟩|_=>none
def ya (k:Nat):List (FuncId×aF):=(254,⟨[.val (.sl aC) .shr],[.val .bool .leaf],mK k,[]⟩)::(yA k)
theorem K2 (k:Nat):ae Tryz.prog (ya k):=ae.ev ax mixed (LG k) HJ Ja k Tryz.func254 (by kernel_rfl) (fun x=>by kernel_rfl)
def wX (k:Nat):List (FuncId×aF):=(320,⟨[.val aj (.pair .leaf q4),.val (.int .i64) .leaf,.val (.int .i64) .leaf],[.val (.int .i64) .leaf],oZ k,[]⟩)::(ya k)
theorem IU (k:Nat):ae Tryz.prog (wX k):=ae.ev ax mixed (K2 k) nA nA k Tryz.func320 (by kernel_rfl) (fun x=>by kernel_rfl)
def Ff (k:Nat):List (FuncId×aF):=(255,⟨[.val bC (.pair .leaf (.pair .leaf q0)),.val aj (.pair .leaf q4)],[.val (.int .i64) .leaf],rC k,[]⟩)::(wX k)
theorem PV (k:Nat):ae Tryz.prog (Ff k):=ae.ev ax mixed (IU k) nA nA k Tryz.func255 (by kernel_rfl) (fun x=>by kernel_rfl)
def BZ:Nat→Option aM:=fun|4=>some ⟨[(1,.box 3 aE (.pair (.pair .leaf (.pair .leaf (.pair .leaf cP))) (.pair .leaf (.pair .leaf (.pair (.sl (.sha [1])) (.pair (.sl (.sha [1])) (.pair (.sl (.sha [1])) (.pair .leaf (.pair (.sl (.sha [1])) (.pair .leaf (.pair (.sl (.sha [1])) (.pair (.sl (.sha [1])) (.pair (.sl (.sha [1])) df))))))))))))),(3,.val (.int .i64) .leaf)],4⟩|9=>some ⟨[(1,.box 3 aE (.pair (.pair .leaf (.pair .leaf (.pair .leaf cP))) (.pair .leaf (.pair .leaf (.pair (.sl (.sha [1])) (.pair (.sl (.sha [1])) (.pair (.sl (.sha [1])) (.pair .leaf (.pair (.sl (.sha [1])) (.pair .leaf (.pair (.sl (.sha [1])) (.pair (.sl (.sha [1])) (.pair (.sl (.sha [1])) df))))))))))))),(3,.val (.int .i64) .leaf),(4,.val (.int .i64) .leaf)],4⟩|14=>some ⟨[(1,.box 3 aE (.pair (.pair .leaf (.pair .leaf (.pair .leaf cP))) (.pair .leaf (.pair .leaf (.pair (.sl (.sha [1])) (.pair (.sl (.sha [1])) (.pair (.sl (.sha [1])) (.pair .leaf (.pair (.sl (.sha [1])) (.pair .leaf (.pair (.sl (.sha [1])) (.pair (.sl (.sha [1])) (.pair (.sl (.sha [1])) df))))))))))))),(5,.val (.int .i64) .leaf)],4⟩|19=>some ⟨[(1,.box 3 aE (.pair (.pair .leaf (.pair .leaf (.pair .leaf cP))) (.pair .leaf (.pair .leaf (.pair (.sl (.sha [1])) (.pair (.sl (.sha [1])) (.pair (.sl (.sha [1])) (.pair .leaf (.pair (.sl (.sha [1])) (.pair .leaf (.pair (.sl (.sha [1])) (.pair (.sl (.sha [1])) (.pair (.sl (.sha [1])) df))))))))))))),(5,.val (.int .i64) .leaf),(6,.box 4 aj (.pair .leaf (.pair (.sl (.sha [1,2])) Jd))),(7,.val .bool .leaf),(8,.val (.int .i64) .leaf)],5⟩|_=>none
def A5:Nat→Option aM:=fun|13=>some ⟨[(1,.box 3 aE (.pair (.pair .leaf (.pair .leaf (.pair .leaf cP))) (.pair .leaf (.pair .leaf (.pair (.sl (.sha [1])) (.pair (.sl (.sha [1])) (.pair (.sl (.sha [1])) (.pair .leaf (.pair (.sl (.sha [1])) (.pair .leaf (.pair (.sl (.sha [1])) (.pair (.sl (.sha [1])) (.pair (.sl (.sha [1])) df)))))))))))))],4⟩|22=>some ⟨[(1,.box 3 aE (.pair (.pair .leaf (.pair .leaf (.pair .leaf cP))) (.pair .leaf (.pair .leaf (.pair (.sl (.sha [1])) (.pair (.sl (.sha [1])) (.pair (.sl (.sha [1])) (.pair .leaf (.pair (.sl (.sha [1])) (.pair .leaf (.pair (.sl (.sha [1])) (.pair (.sl (.sha [1])) (.pair (.sl (.sha [1])) df))))))))))))),(5,.val (.int .i64) .leaf),(6,.box 4 aj (.pair .leaf (.pair (.sl (.sha [1,2])) Jd))),(7,.val .bool .leaf)],5⟩|_=>none
def sK (k:Nat):List (FuncId×aF):=(161,⟨[.val aE (.pair (.pair .leaf (.pair .leaf q0)) (.pair .leaf (.pair .leaf (.pair .shr (.pair .shr (.pair .shr (.pair .leaf (.pair .shr (.pair .leaf (.pair .shr je))))))))))],[.val .bool .leaf],fW k,[]⟩)::(Ff k)
theorem Dx (k:Nat):ae Tryz.prog (sK k):=ae.ev ax mixed (PV k) BZ A5 k Tryz.func161 (by kernel_rfl) (fun x=>by kernel_rfl)
def GO:Nat→Option aM:=fun|4=>some ⟨[(1,.box 3 aE (.pair (.pair .leaf (.pair .leaf (.pair .leaf cP))) (.pair .leaf (.pair .leaf (.pair (.sl (.sha [1])) (.pair (.sl (.sha [1])) (.pair (.sl (.sha [1])) (.pair .leaf (.pair (.sl (.sha [1])) (.pair .leaf (.pair (.sl (.sha [1])) (.pair (.sl (.sha [1])) (.pair (.sl (.sha [1])) df))))))))))))),(3,.val (.int .i64) .leaf)],4⟩|9=>some ⟨[(1,.box 3 aE (.pair (.pair .leaf (.pair .leaf (.pair .leaf cP))) (.pair .leaf (.pair .leaf (.pair (.sl (.sha [1])) (.pair (.sl (.sha [1])) (.pair (.sl (.sha [1])) (.pair .leaf (.pair (.sl (.sha [1])) (.pair .leaf (.pair (.sl (.sha [1])) (.pair (.sl (.sha [1])) (.pair (.sl (.sha [1])) df))))))))))))),(4,.val (.int .i64) .leaf)],4⟩|15=>some ⟨[(1,.box 3 aE (.pair (.pair .leaf (.pair .leaf (.pair .leaf cP))) (.pair .leaf (.pair .leaf (.pair (.sl (.sha [1])) (.pair (.sl (.sha [1])) (.pair (.sl (.sha [1])) (.pair .leaf (.pair (.sl (.sha [1])) (.pair .leaf (.pair (.sl (.sha [1])) (.pair (.sl (.sha [1])) (.pair (.sl (.sha [1])) df))))))))))))),(6,.val (.int .i64) .leaf)],4⟩|_=>none
def FP:Nat→Option aM:=fun|8=>some ⟨[(1,.box 3 aE (.pair (.pair .leaf (.pair .leaf (.pair .leaf cP))) (.pair .leaf (.pair .leaf (.pair (.sl (.sha [1])) (.pair (.sl (.sha [1])) (.pair (.sl (.sha [1])) (.pair .leaf (.pair (.sl (.sha [1])) (.pair .leaf (.pair (.sl (.sha [1])) (.pair (.sl (.sha [1])) (.pair (.sl (.sha [1])) df)))))))))))))],4⟩|14=>some ⟨[(1,.box 3 aE (.pair (.pair .leaf (.pair .leaf (.pair .leaf cP))) (.pair .leaf (.pair .leaf (.pair (.sl (.sha [1])) (.pair (.sl (.sha [1])) (.pair (.sl (.sha [1])) (.pair .leaf (.pair (.sl (.sha [1])) (.pair .leaf (.pair (.sl (.sha [1])) (.pair (.sl (.sha [1])) (.pair (.sl (.sha [1])) df)))))))))))))],4⟩|19=>some ⟨[(1,.box 3 aE (.pair (.pair .leaf (.pair .leaf (.pair .leaf cP))) (.pair .leaf (.pair .leaf (.pair (.sl (.sha [1])) (.pair (.sl (.sha [1])) (.pair (.sl (.sha [1])) (.pair .leaf (.pair (.sl (.sha [1])) (.pair .leaf (.pair (.sl (.sha [1])) (.pair (.sl (.sha [1])) (.pair (.sl (.sha [1])) df)))))))))))))],4⟩|_=>none
def xb (k:Nat):List (FuncId×aF):=(76,⟨[.val aE (.pair (.pair .leaf (.pair .leaf q0)) (.pair .leaf (.pair .leaf (.pair .shr (.pair .shr (.pair .shr (.pair .leaf (.pair .shr (.pair .leaf (.pair .shr je))))))))))],[.val .bool .leaf],lQ k,[]⟩)::(sK k)
theorem Io (k:Nat):ae Tryz.prog (xb k):=ae.ev ax mixed (Dx k) GO FP k Tryz.func76 (by kernel_rfl) (fun x=>by kernel_rfl)
def Cd (k:Nat):List (FuncId×aF):=(78,⟨[.val aE (.pair (.pair .leaf (.pair .leaf q0)) (.pair .leaf (.pair .leaf (.pair .shr (.pair .shr (.pair .shr (.pair .leaf (.pair .shr (.pair .leaf (.pair .shr je)))))))))),.val (.int .i64) .leaf],[.val .bool .leaf],pZ k,[]⟩)::(xb k)
theorem Oz (k:Nat):ae Tryz.prog (Cd k):=ae.ev ax mixed (Io k) nA nA k Tryz.func78 (by kernel_rfl) (fun x=>by kernel_rfl)
def uj (k:Nat):List (FuncId×aF):=(162,⟨[.io aE (.pair (.pair .leaf (.pair .leaf u4)) (.pair .leaf (.pair .leaf (.pair .own (.pair .own (.pair .own (.pair .leaf (.pair .own (.pair .leaf (.pair .own Cz)))))))))),.val (.int .i64) .leaf,.val ah (.pair .leaf (.pair .leaf (.pair q3 (.pair .shr (.pair .leaf q7)))))],[],ot k,[(0,(dw 14 12))]⟩)::(Cd k)
theorem FZ (k:Nat):ae Tryz.prog (uj k):=ae.ev ax mixed (Oz k) nA nA k Tryz.func162 (by kernel_rfl) (fun x=>by kernel_rfl)
def uf (k:Nat):List (FuncId×aF):=(79,⟨[.io aE (.pair (.pair .leaf (.pair .leaf u4)) (.pair .leaf (.pair .leaf (.pair .own (.pair .own (.pair .own (.pair .leaf (.pair .own (.pair .leaf (.pair .own Cz)))))))))),.val (.int .i64) .leaf,.val ah (.pair .leaf (.pair .leaf (.pair q3 (.pair .shr (.pair .leaf q7)))))],[],kh k,[]⟩)::(uj k)
theorem F3 (k:Nat):ae Tryz.prog (uf k):=ae.ev ax mixed (FZ k) nA nA k Tryz.func79 (by kernel_rfl) (fun x=>by kernel_rfl)
def Aw (k:Nat):List (FuncId×aF):=(18,⟨[.val aE (.pair (.pair .leaf (.pair .leaf q0)) (.pair .leaf (.pair .leaf (.pair .shr (.pair .shr (.pair .shr (.pair .leaf (.pair .shr (.pair .leaf (.pair .shr je)))))))))),.val (.int .i64) .leaf],[.val aE (.pair (.pair .leaf (.pair .leaf u4)) (.pair .leaf (.pair .leaf (.pair .own (.pair .own (.pair .own (.pair .leaf (.pair .own (.pair .leaf (.pair .own Cz)))))))))),.val .bool .leaf],oo k,[]⟩)::(uf k)
theorem MN (k:Nat):ae Tryz.prog (Aw k):=ae.ev ax mixed (F3 k) nA nA k Tryz.func18 (by kernel_rfl) (fun x=>by kernel_rfl)
def tU (k:Nat):List (FuncId×aF):=(163,⟨[.val bC (.pair .leaf (.pair .leaf q0))],[.val bC (.pair .leaf (.pair .leaf u4))],ku k,[]⟩)::(Aw k)
theorem E6 (k:Nat):ae Tryz.prog (tU k):=ae.ev ax mixed (MN k) nA nA k Tryz.func163 (by kernel_rfl) (fun x=>by kernel_rfl)
end Vg.Tryz
namespace Vg.Tryz
open Go Vg Go.Proofs
set_option linter.unusedVariables false
set_option maxRecDepth 1000000
def vz (k:Nat):List (FuncId×aF):=(190,⟨[.val (.sl af) .shr],[.val (.sl af) .own],eo k,[]⟩)::(tU k)
theorem IQ (k:Nat):ae Tryz.prog (vz k):=ae.ev ax mixed (E6 k) nA nA k Tryz.func190 (by kernel_rfl) (fun x=>by kernel_rfl)
def su (k:Nat):List (FuncId×aF):=(196,⟨[.val ab q3],[.val ab qR],dG k,[]⟩)::(vz k)
theorem DH (k:Nat):ae Tryz.prog (su k):=ae.ev ax mixed (IQ k) nA nA k Tryz.func196 (by kernel_rfl) (fun x=>by kernel_rfl)
def As:Nat→Option aM:=fun|3=>some ⟨[(3,.val (.sl ab) (.sl (.row 3 [3] true))),(6,.val (.sl ab) (.sl (.sha [1]))),(7,.val (.int .i64) .leaf),(8,.val (.int .i64) .leaf)],4⟩|_=>none
def qY (k:Nat):List (FuncId×aF):=(166,⟨[.val (.sl ab) .shr],[.val (.sl ab) .own],cw k,[]⟩)::(su k)
theorem BH (k:Nat):ae Tryz.prog (qY k):=ae.ev ax mixed (DH k) As nA k Tryz.func166 (by kernel_rfl) (fun x=>by kernel_rfl)
def rN (k:Nat):List (FuncId×aF):=(321,⟨[.val ay (.pair .leaf .shr)],[.val ay (.pair .leaf .own)],js k,[]⟩)::(qY k)
theorem Ec (k:Nat):ae Tryz.prog (rN k):=ae.ev ax mixed (BH k) nA nA k Tryz.func321 (by kernel_rfl) (fun x=>by kernel_rfl)
def DI:Nat→Option aM:=fun|3=>some ⟨[(1,.box 3 ak cP),(2,.box 4 ak yd),(3,.box 5 ak Cm),(12,.val (.sl ay) (.sl (.sha [1]))),(13,.val (.int .i64) .leaf),(14,.val (.int .i64) .leaf)],7⟩|_=>none
def tR (k:Nat):List (FuncId×aF):=(256,⟨[.val ak (.pair .leaf (.pair .leaf .shr))],[.val ak (.pair .leaf (.pair .leaf .own))],gJ k,[]⟩)::(rN k)
theorem EN (k:Nat):ae Tryz.prog (tR k):=ae.ev ax mixed (Ec k) DI nA k Tryz.func256 (by kernel_rfl) (fun x=>by kernel_rfl)
def BQ:Nat→Option aM:=fun|3=>some ⟨[(3,.val (.sl ak) (.sl (.row 3 [3] true))),(6,.val (.sl ak) (.sl (.sha [1]))),(7,.val (.int .i64) .leaf),(8,.val (.int .i64) .leaf)],4⟩|_=>none
def sS (k:Nat):List (FuncId×aF):=(164,⟨[.val (.sl ak) .shr],[.val (.sl ak) .own],nw k,[]⟩)::(tR k)
theorem Ea (k:Nat):ae Tryz.prog (sS k):=ae.ev ax mixed (EN k) BQ nA k Tryz.func164 (by kernel_rfl) (fun x=>by kernel_rfl)
def wc (k:Nat):List (FuncId×aF):=(257,⟨[.val aU (.pair .shr .leaf)],[.val aU (.pair .own .leaf)],iR k,[]⟩)::(sS k)
theorem HK (k:Nat):ae Tryz.prog (wc k):=ae.ev ax mixed (Ea k) nA nA k Tryz.func257 (by kernel_rfl) (fun x=>by kernel_rfl)
def Di:Nat→Option aM:=fun|3=>some ⟨[(3,.val (.sl aU) (.sl (.row 3 [3] true))),(6,.val (.sl aU) (.sl (.sha [1]))),(7,.val (.int .i64) .leaf),(8,.val (.int .i64) .leaf)],4⟩|_=>none
def uK (k:Nat):List (FuncId×aF):=(165,⟨[.val (.sl aU) .shr],[.val (.sl aU) .own],nU k,[]⟩)::(wc k)
theorem E8 (k:Nat):ae Tryz.prog (uK k):=ae.ev ax mixed (HK k) Di nA k Tryz.func165 (by kernel_rfl) (fun x=>by kernel_rfl)
def sW (k:Nat):List (FuncId×aF):=(258,⟨[.val aj (.pair .leaf q4)],[.val aj (.pair .leaf Uk)],gb k,[]⟩)::(uK k)
theorem DY (k:Nat):ae Tryz.prog (sW k):=ae.ev ax mixed (E8 k) nA nA k Tryz.func258 (by kernel_rfl) (fun x=>by kernel_rfl)
def zr:Nat→Option aM:=fun|3=>some ⟨[(3,.val (.sl aj) (.sl (.row 3 [3] true))),(6,.val (.sl aj) (.sl (.sha [1]))),(7,.val (.int .i64) .leaf),(8,.val (.int .i64) .leaf)],4⟩|_=>none
def re (k:Nat):List (FuncId×aF):=(167,⟨[.val (.sl aj) .shr],[.val (.sl aj) .own],mi k,[]⟩)::(sW k)
theorem BV (k:Nat):ae Tryz.prog (re k):=ae.ev ax mixed (DY k) zr nA k Tryz.func167 (by kernel_rfl) (fun x=>by kernel_rfl)
def rn (k:Nat):List (FuncId×aF):=(168,⟨[.val (.sl aC) .shr],[.val (.sl aC) .own],ia k,[]⟩)::(re k)
theorem BU (k:Nat):ae Tryz.prog (rn k):=ae.ev ax mixed (BV k) nA nA k Tryz.func168 (by kernel_rfl) (fun x=>by kernel_rfl)
def sD (k:Nat):List (FuncId×aF):=(169,⟨[.val aN q6],[.val aN Ug],jq k,[]⟩)::(rn k)
theorem DJ (k:Nat):ae Tryz.prog (sD k):=ae.ev ax mixed (BU k) nA nA k Tryz.func169 (by kernel_rfl) (fun x=>by kernel_rfl)
def tj (k:Nat):List (FuncId×aF):=(170,⟨[.val ah (.pair .leaf (.pair .leaf (.pair q3 (.pair .shr (.pair .leaf q7)))))],[.val ah (.pair .leaf (.pair .leaf (.pair qR (.pair .own (.pair .leaf S8)))))],kv k,[]⟩)::(sD k)
theorem Fb (k:Nat):ae Tryz.prog (tj k):=ae.ev ax mixed (DJ k) nA nA k Tryz.func170 (by kernel_rfl) (fun x=>by kernel_rfl)
def tp (k:Nat):List (FuncId×aF):=(171,⟨[.val aq (.pair .leaf (.pair .leaf (.pair q3 (.pair .shr (.pair .leaf (.pair .leaf (.pair .leaf (.pair .shr uq))))))))],[.val aq (.pair .leaf (.pair .leaf (.pair qR (.pair .own (.pair .leaf (.pair .leaf (.pair .leaf (.pair .own uq))))))))],kt k,[]⟩)::(tj k)
theorem GW (k:Nat):ae Tryz.prog (tp k):=ae.ev ax mixed (Fb k) nA nA k Tryz.func171 (by kernel_rfl) (fun x=>by kernel_rfl)
def BN:Nat→Option aM:=fun|6=>some ⟨[(1,.box 3 aE (.pair (.pair .leaf (.pair .leaf (.pair .leaf IN))) (.pair .leaf (.pair .leaf (.pair (.sl (.row 5 [5] true)) (.pair (.sl (.row 6 [6] true)) (.pair (.sl (.row 7 [7] true)) (.pair .leaf (.pair (.sl (.row 8 [8] true)) (.pair .leaf (.pair (.sl (.row 9 [9] true)) (.pair (.sl (.sha [1])) (.pair (.sl (.row 10 [10] true)) df))))))))))))),(2,.box 11 aE (.pair (.pair .leaf (.pair .leaf (.pair .leaf yd))) (.pair .leaf (.pair .leaf (.pair (.sl (.sha [])) (.pair (.sl (.sha [])) (.pair (.sl (.sha [])) (.pair .leaf (.pair (.sl (.sha [])) (.pair .leaf (.pair (.sl (.sha [])) (.pair (.sl (.sha [])) Cc)))))))))))),(3,.val (.sl aN) (.sl (.row 12 [12] true))),(41,.val (.sl aN) (.sl (.sha [1]))),(42,.val (.int .i64) .leaf),(43,.val (.int .i64) .leaf)],13⟩|12=>some ⟨[(1,.box 3 aE (.pair (.pair .leaf (.pair .leaf (.pair .leaf IN))) (.pair .leaf (.pair .leaf (.pair (.sl (.row 5 [5] true)) (.pair (.sl (.row 6 [6] true)) (.pair (.sl (.row 7 [7] true)) (.pair .leaf (.pair (.sl (.row 8 [8] true)) (.pair .leaf (.pair (.sl (.row 9 [9] true)) (.pair (.sl (.sha [1])) (.pair (.sl (.row 10 [10] true)) df))))))))))))),(2,.box 11 aE (.pair (.pair .leaf (.pair .leaf (.pair .leaf yd))) (.pair .leaf (.pair .leaf (.pair (.sl (.sha [])) (.pair (.sl (.sha [])) (.pair (.sl (.sha [])) (.pair .leaf (.pair (.sl (.sha [])) (.pair .leaf (.pair (.sl (.sha [])) (.pair (.sl (.sha [])) Cc)))))))))))),(3,.val (.sl aN) (.sl (.row 12 [12] true))),(6,.val (.sl ah) (.sl (.row 13 [13] true))),(54,.val (.sl ah) (.sl (.sha [1]))),(55,.val (.int .i64) .leaf),(56,.val (.int .i64) .leaf)],14⟩|18=>some ⟨[(1,.box 3 aE (.pair (.pair .leaf (.pair .leaf (.pair .leaf IN))) (.pair .leaf (.pair .leaf (.pair (.sl (.row 5 [5] true)) (.pair (.sl (.row 6 [6] true)) (.pair (.sl (.row 7 [7] true)) (.pair .leaf (.pair (.sl (.row 8 [8] true)) (.pair .leaf (.pair (.sl (.row 9 [9] true)) (.pair (.sl (.sha [1])) (.pair (.sl (.row 10 [10] true)) df))))))))))))),(2,.box 11 aE (.pair (.pair .leaf (.pair .leaf (.pair .leaf yd))) (.pair .leaf (.pair .leaf (.pair (.sl (.sha [])) (.pair (.sl (.sha [])) (.pair (.sl (.sha [])) (.pair .leaf (.pair (.sl (.sha [])) (.pair .leaf (.pair (.sl (.sha [])) (.pair (.sl (.sha [])) Cc)))))))))))),(3,.val (.sl aN) (.sl (.row 12 [12] true))),(6,.val (.sl ah) (.sl (.row 13 [13] true))),(9,.val (.sl aq) (.sl (.row 14 [14] true))),(67,.val (.sl aq) (.sl (.sha [1]))),(68,.val (.int .i64) .leaf),(69,.val (.int .i64) .leaf)],15⟩|_=>none
def BE:Nat→Option aM:=fun|10=>some ⟨[(1,.box 3 aE (.pair (.pair .leaf (.pair .leaf (.pair .leaf IN))) (.pair .leaf (.pair .leaf (.pair (.sl (.row 5 [5] true)) (.pair (.sl (.row 6 [6] true)) (.pair (.sl (.row 7 [7] true)) (.pair .leaf (.pair (.sl (.row 8 [8] true)) (.pair .leaf (.pair (.sl (.row 9 [9] true)) (.pair (.sl (.sha [1])) (.pair (.sl (.row 10 [10] true)) df))))))))))))),(2,.box 11 aE (.pair (.pair .leaf (.pair .leaf (.pair .leaf yd))) (.pair .leaf (.pair .leaf (.pair (.sl (.sha [])) (.pair (.sl (.sha [])) (.pair (.sl (.sha [])) (.pair .leaf (.pair (.sl (.sha [])) (.pair .leaf (.pair (.sl (.sha [])) (.pair (.sl (.sha [])) Cc)))))))))))),(3,.val (.sl aN) (.sl (.row 12 [12] true)))],13⟩|16=>some ⟨[(1,.box 3 aE (.pair (.pair .leaf (.pair .leaf (.pair .leaf IN))) (.pair .leaf (.pair .leaf (.pair (.sl (.row 5 [5] true)) (.pair (.sl (.row 6 [6] true)) (.pair (.sl (.row 7 [7] true)) (.pair .leaf (.pair (.sl (.row 8 [8] true)) (.pair .leaf (.pair (.sl (.row 9 [9] true)) (.pair (.sl (.sha [1])) (.pair (.sl (.row 10 [10] true)) df))))))))))))),(2,.box 11 aE (.pair (.pair .leaf (.pair .leaf (.pair .leaf yd))) (.pair .leaf (.pair .leaf (.pair (.sl (.sha [])) (.pair (.sl (.sha [])) (.pair (.sl (.sha [])) (.pair .leaf (.pair (.sl (.sha [])) (.pair .leaf (.pair (.sl (.sha [])) (.pair (.sl (.sha [])) Cc)))))))))))),(3,.val (.sl aN) (.sl (.row 12 [12] true))),(6,.val (.sl ah) (.sl (.row 13 [13] true)))],14⟩|22=>some ⟨[(1,.box 3 aE (.pair (.pair .leaf (.pair .leaf (.pair .leaf IN))) (.pair .leaf (.pair .leaf (.pair (.sl (.row 5 [5] true)) (.pair (.sl (.row 6 [6] true)) (.pair (.sl (.row 7 [7] true)) (.pair .leaf (.pair (.sl (.row 8 [8] true)) (.pair .leaf (.pair (.sl (.row 9 [9] true)) (.pair (.sl (.sha [1])) (.pair (.sl (.row 10 [10] true)) df))))))))))))),(2,.box 11 aE (.pair (.pair .leaf (.pair .leaf (.pair .leaf yd))) (.pair .leaf (.pair .leaf (.pair (.sl (.sha [])) (.pair (.sl (.sha [])) (.pair (.sl (.sha [])) (.pair .leaf (.pair (.sl (.sha [])) (.pair .leaf (.pair (.sl (.sha [])) (.pair (.sl (.sha [])) Cc)))))))))))),(3,.val (.sl aN) (.sl (.row 12 [12] true))),(6,.val (.sl ah) (.sl (.row 13 [13] true))),(9,.val (.sl aq) (.sl (.row 14 [14] true)))],15⟩|_=>none
def tg (k:Nat):List (FuncId×aF):=(80,⟨[.val aE (.pair (.pair .leaf (.pair .leaf q0)) (.pair .leaf (.pair .leaf (.pair .shr (.pair .shr (.pair .shr (.pair .leaf (.pair .shr (.pair .leaf (.pair .shr je))))))))))],[.val aE (.pair (.pair .leaf (.pair .leaf u4)) (.pair .leaf (.pair .leaf (.pair .own (.pair .own (.pair .own (.pair .leaf (.pair .own (.pair .leaf (.pair .own Cz))))))))))],eV k,[]⟩)::(tp k)
theorem CP (k:Nat):ae Tryz.prog (tg k):=ae.ev ax mixed (GW k) BN BE k Tryz.func80 (by kernel_rfl) (fun x=>by kernel_rfl)
def Kp (k:Nat):List (FuncId×aF):=(111,⟨[.val (.int .i64) .leaf,.val (.int .i64) .leaf,.val (.int .i64) .leaf],[.val .bool .leaf],bA k,[]⟩)::(tg k)
theorem QS (k:Nat):ae Tryz.prog (Kp k):=ae.ev ax mixed (CP k) nA nA k Tryz.func111 (by kernel_rfl) (fun x=>by kernel_rfl)
def Iy:Nat→Option aM:=fun|4=>some ⟨[(0,.val .str .leaf),(3,.val (.int .i64) .leaf)],3⟩|_=>none
def yt (k:Nat):List (FuncId×aF):=(322,⟨[.val .str .leaf],[.val .bool .leaf],jC k,[]⟩)::(Kp k)
theorem LX (k:Nat):ae Tryz.prog (yt k):=ae.ev ax mixed (QS k) Iy nA k Tryz.func322 (by kernel_rfl) (fun x=>by kernel_rfl)
def EE:Nat→Option aM:=fun|2=>some ⟨[(0,.val (.sl .str) (.sl (.sha [1]))),(3,.val (.int .i64) .leaf)],3⟩|_=>none
def vY (k:Nat):List (FuncId×aF):=(323,⟨[.val (.sl .str) .shr],[.val .bool .leaf],lK k,[]⟩)::(yt k)
theorem JD (k:Nat):ae Tryz.prog (vY k):=ae.ev ax mixed (LX k) EE nA k Tryz.func323 (by kernel_rfl) (fun x=>by kernel_rfl)
def NA:Nat→Option aM:=fun|2=>some ⟨[(0,.val (.sl .str) (.sl (.sha [1]))),(5,.val (.sl .str) (.sl (.sha [1]))),(6,.val (.int .i64) .leaf),(7,.val (.int .i64) .leaf)],3⟩|_=>none
def NN:Nat→Option aM:=fun|7=>some ⟨[(0,.val (.sl .str) (.sl (.sha [1])))],3⟩|_=>none
def Ci (k:Nat):List (FuncId×aF):=(259,⟨[.val (.sl .str) .shr],[.val .bool .leaf],pT k,[]⟩)::(vY k)
theorem Ou (k:Nat):ae Tryz.prog (Ci k):=ae.ev ax mixed (JD k) NA NN k Tryz.func259 (by kernel_rfl) (fun x=>by kernel_rfl)
def xZ (k:Nat):List (FuncId×aF):=(172,⟨[.val bC (.pair .leaf (.pair .leaf q0))],[.val .bool .leaf],mR k,[]⟩)::(Ci k)
theorem LN (k:Nat):ae Tryz.prog (xZ k):=ae.ev ax mixed (Ou k) nA nA k Tryz.func172 (by kernel_rfl) (fun x=>by kernel_rfl)
def Es:Nat→Option aM:=fun|4=>some ⟨[(0,.val .str .leaf),(3,.val (.int .i64) .leaf)],3⟩|_=>none
def wP (k:Nat):List (FuncId×aF):=(325,⟨[.val .str .leaf],[.val .bool .leaf],iJ k,[]⟩)::(xZ k)
theorem Jk (k:Nat):ae Tryz.prog (wP k):=ae.ev ax mixed (LN k) Es nA k Tryz.func325 (by kernel_rfl) (fun x=>by kernel_rfl)
def wq (k:Nat):List (FuncId×aF):=(274,⟨[.val af (.pair .leaf .leaf)],[.val .bool .leaf],lH k,[]⟩)::(wP k)
theorem Ie (k:Nat):ae Tryz.prog (wq k):=ae.ev ax mixed (Jk k) nA nA k Tryz.func274 (by kernel_rfl) (fun x=>by kernel_rfl)
def KW:Nat→Option aM:=fun|2=>some ⟨[(0,.val (.sl af) (.sl (.sha [1]))),(5,.val (.sl af) (.sl (.sha [1]))),(6,.val (.int .i64) .leaf),(7,.val (.int .i64) .leaf)],3⟩|_=>none
def Ay (k:Nat):List (FuncId×aF):=(189,⟨[.val (.sl af) .shr],[.val .bool .leaf],gi k,[]⟩)::(wq k)
theorem NR (k:Nat):ae Tryz.prog (Ay k):=ae.ev ax mixed (Ie k) KW nA k Tryz.func189 (by kernel_rfl) (fun x=>by kernel_rfl)
def vn (k:Nat):List (FuncId×aF):=(263,⟨[.val ab q3],[.val .bool .leaf],dP k,[]⟩)::(Ay k)
theorem HM (k:Nat):ae Tryz.prog (vn k):=ae.ev ax mixed (NR k) nA nA k Tryz.func263 (by kernel_rfl) (fun x=>by kernel_rfl)
def Gv:Nat→Option aM:=fun|5=>some ⟨[(3,.val (.sl .str) (.sl (.row 3 [] true))),(9,.val (.sl af) (.sl (.sha [1]))),(10,.val (.int .i64) .leaf),(11,.val (.int .i64) .leaf)],4⟩|_=>none
def EF:Nat→Option aM:=fun|9=>some ⟨[(3,.val (.sl .str) (.sl (.row 3 [] true)))],4⟩|_=>none
def uX (k:Nat):List (FuncId×aF):=(376,⟨[.val (.sl af) .shr],[.val .str .leaf],lS k,[]⟩)::(vn k)
theorem JN (k:Nat):ae Tryz.prog (uX k):=ae.ev ax mixed (HM k) Gv EF k Tryz.func376 (by kernel_rfl) (fun x=>by kernel_rfl)
end Vg.Tryz
namespace Vg.Tryz
open Go Vg Go.Proofs
set_option linter.unusedVariables false
set_option maxRecDepth 1000000
def Oo:Nat→Option aM:=fun|3=>some ⟨[(0,.val .str .leaf),(3,.val (.int .u32) .leaf),(4,.val (.int .i64) .leaf)],3⟩|_=>none
def Oc:Nat→Option aM:=fun|6=>some ⟨[(3,.val (.int .u32) .leaf)],3⟩|_=>none
def Gt (k:Nat):List (FuncId×aF):=(375,⟨[.val .str .leaf],[.val (.int .i64) .leaf],oV k,[]⟩)::(uX k)
theorem Qi (k:Nat):ae Tryz.prog (Gt k):=ae.ev ax mixed (JN k) Oo Oc k Tryz.func375 (by kernel_rfl) (fun x=>by kernel_rfl)
def yM (k:Nat):List (FuncId×aF):=(352,⟨[.val (.sl af) .shr],[.val (.int .i64) .leaf],dX k,[]⟩)::(Gt k)
theorem L4 (k:Nat):ae Tryz.prog (yM k):=ae.ev ax mixed (Qi k) nA nA k Tryz.func352 (by kernel_rfl) (fun x=>by kernel_rfl)
def Fu:Nat→Option aM:=fun|4=>some ⟨[(0,.val (.sl af) (.sl (.sha [1]))),(1,.val (.sl af) (.sl (.sha [1]))),(12,.val (.int .i64) .leaf),(13,.val (.int .i64) .leaf)],3⟩|_=>none
def vg (k:Nat):List (FuncId×aF):=(329,⟨[.val (.sl af) .shr,.val (.sl af) .shr],[.val .bool .leaf],cL k,[]⟩)::(yM k)
theorem Jr (k:Nat):ae Tryz.prog (vg k):=ae.ev ax mixed (L4 k) Fu nA k Tryz.func329 (by kernel_rfl) (fun x=>by kernel_rfl)
def C3:Nat→Option aM:=fun|2=>some ⟨[(1,.val (.sl af) (.sl (.sha [1]))),(7,.val (.sl ab) (.sl (.sha [1]))),(8,.val (.int .i64) .leaf),(9,.val (.int .i64) .leaf)],3⟩|_=>none
def ue (k:Nat):List (FuncId×aF):=(371,⟨[.val (.sl ab) .shr,.val (.sl af) .shr],[.val (.int .i64) .leaf],gE k,[]⟩)::(vg k)
theorem Fk (k:Nat):ae Tryz.prog (ue k):=ae.ev ax mixed (Jr k) C3 nA k Tryz.func371 (by kernel_rfl) (fun x=>by kernel_rfl)
def zi:Nat→Option aM:=fun|2=>some ⟨[(0,.val (.sl ab) (.sl (.sha [1]))),(5,.val (.sl ab) (.sl (.sha [1]))),(6,.val (.int .i64) .leaf),(7,.val (.int .i64) .leaf)],3⟩|_=>none
def p9 (k:Nat):List (FuncId×aF):=(378,⟨[.val (.sl ab) .shr],[.val .bool .leaf],gW k,[]⟩)::(ue k)
theorem zo (k:Nat):ae Tryz.prog (p9 k):=ae.ev ax mixed (Fk k) zi nA k Tryz.func378 (by kernel_rfl) (fun x=>by kernel_rfl)
def Fs:Nat→Option aM:=fun|2=>some ⟨[(1,.box 3 ay (.pair .leaf (.sl (.sha [1])))),(6,.val (.sl ab) (.sl (.sha [1]))),(7,.val (.int .i64) .leaf),(8,.val (.int .i64) .leaf)],4⟩|_=>none
def Fz:Nat→Option aM:=fun|7=>some ⟨[(1,.box 3 ay (.pair .leaf (.sl (.sha [1]))))],4⟩|_=>none
def vr (k:Nat):List (FuncId×aF):=(361,⟨[.val ay (.pair .leaf .shr)],[.val .bool .leaf],lM k,[]⟩)::(p9 k)
theorem JM (k:Nat):ae Tryz.prog (vr k):=ae.ev ax mixed (zo k) Fs Fz k Tryz.func361 (by kernel_rfl) (fun x=>by kernel_rfl)
def yD (k:Nat):List (FuncId×aF):=(354,⟨[.val (.int .i64) .leaf,.val (.int .i64) .leaf],[.val (.int .i64) .leaf],fo k,[]⟩)::(vr k)
theorem LB (k:Nat):ae Tryz.prog (yD k):=ae.ev ax mixed (JM k) nA nA k Tryz.func354 (by kernel_rfl) (fun x=>by kernel_rfl)
def H9:Nat→Option aM:=fun|2=>some ⟨[(1,.val (.int .i64) .leaf),(2,.val (.int .i64) .leaf),(3,.box 3 ak cP),(10,.val (.sl ay) (.sl (.sha [1]))),(11,.val (.int .i64) .leaf),(12,.val (.int .i64) .leaf)],4⟩|_=>none
def Jx:Nat→Option aM:=fun|7=>some ⟨[(3,.box 3 ak cP)],4⟩|_=>none
def yQ (k:Nat):List (FuncId×aF):=(324,⟨[.val ak (.pair .leaf (.pair .leaf .shr)),.val (.int .i64) .leaf,.val (.int .i64) .leaf],[.val .bool .leaf],na k,[]⟩)::(yD k)
theorem LJ (k:Nat):ae Tryz.prog (yQ k):=ae.ev ax mixed (LB k) H9 Jx k Tryz.func324 (by kernel_rfl) (fun x=>by kernel_rfl)
def GY:Nat→Option aM:=fun|4=>some ⟨[(0,.val (.sl ak) (.sl (.sha [1]))),(9,.val (.sl ak) (.sl (.sha [1]))),(10,.val (.int .i64) .leaf),(11,.val (.int .i64) .leaf)],3⟩|_=>none
def vo (k:Nat):List (FuncId×aF):=(260,⟨[.val (.sl ak) .shr],[.val .bool .leaf],lB k,[]⟩)::(yQ k)
theorem HG (k:Nat):ae Tryz.prog (vo k):=ae.ev ax mixed (LJ k) GY nA k Tryz.func260 (by kernel_rfl) (fun x=>by kernel_rfl)
def GM:Nat→Option aM:=fun|3=>some ⟨[(3,.val (.int .i64) .leaf),(8,.val (.sl ak) (.sl (.sha [1]))),(9,.val (.int .i64) .leaf),(10,.val (.int .i64) .leaf)],3⟩|6=>some ⟨[(3,.val (.int .i64) .leaf),(5,.box 3 ak Jd),(8,.val (.sl ak) (.sl (.sha [1]))),(9,.val (.int .i64) .leaf),(10,.val (.int .i64) .leaf),(15,.val (.sl ay) (.sl (.sha [1,2]))),(16,.val (.int .i64) .leaf),(17,.val (.int .i64) .leaf)],4⟩|_=>none
def wU (k:Nat):List (FuncId×aF):=(225,⟨[.val (.sl ak) .shr],[.val (.int .i64) .leaf],lD k,[]⟩)::(vo k)
theorem JB (k:Nat):ae Tryz.prog (wU k):=ae.ev ax mixed (HG k) GM nA k Tryz.func225 (by kernel_rfl) (fun x=>by kernel_rfl)
def DF:Nat→Option aM:=fun|3=>some ⟨[(1,.box 3 ak cP),(3,.val (.sl ab) (.sl (.row 4 [4] true))),(7,.val (.sl ay) (.sl (.sha [1]))),(8,.val (.int .i64) .leaf),(9,.val (.int .i64) .leaf)],5⟩|_=>none
def uk (k:Nat):List (FuncId×aF):=(282,⟨[.val ak (.pair .leaf (.pair .leaf .shr))],[.val (.sl ab) .own],gF k,[]⟩)::(wU k)
theorem ED (k:Nat):ae Tryz.prog (uk k):=ae.ev ax mixed (JB k) DF nA k Tryz.func282 (by kernel_rfl) (fun x=>by kernel_rfl)
def A4:Nat→Option aM:=fun|3=>some ⟨[(3,.val (.sl ab) (.sl (.row 3 [3] true))),(6,.val (.sl ak) (.sl (.sha [1]))),(7,.val (.int .i64) .leaf),(8,.val (.int .i64) .leaf)],4⟩|_=>none
def BK:Nat→Option aM:=fun|7=>some ⟨[(3,.val (.sl ab) (.sl (.row 3 [3] true)))],4⟩|_=>none
def sX (k:Nat):List (FuncId×aF):=(261,⟨[.val (.sl ak) .shr],[.val (.sl ab) .own],jm k,[]⟩)::(uk k)
theorem CB (k:Nat):ae Tryz.prog (sX k):=ae.ev ax mixed (ED k) A4 BK k Tryz.func261 (by kernel_rfl) (fun x=>by kernel_rfl)
def B7 (k:Nat):List (FuncId×aF):=(197,⟨[.val bC (.pair .leaf (.pair .leaf q0)),.val ab q3],[.val .bool .leaf],mo k,[]⟩)::(sX k)
theorem N2 (k:Nat):ae Tryz.prog (B7 k):=ae.ev ax mixed (CB k) nA nA k Tryz.func197 (by kernel_rfl) (fun x=>by kernel_rfl)
def zv:Nat→Option aM:=fun|4=>some ⟨[(1,.box 3 aE (.pair (.pair .leaf (.pair .leaf (.pair .leaf cP))) (.pair .leaf (.pair .leaf (.pair (.sl (.sha [1])) (.pair (.sl (.sha [1])) (.pair (.sl (.sha [1])) (.pair .leaf (.pair (.sl (.sha [1])) (.pair .leaf (.pair (.sl (.sha [1])) (.pair (.sl (.sha [1])) (.pair (.sl (.sha [1])) df))))))))))))),(29,.val (.sl ab) (.sl (.row 4 [4] true))),(30,.val (.int .i64) .leaf),(31,.val (.int .i64) .leaf)],5⟩|_=>none
def qS (k:Nat):List (FuncId×aF):=(173,⟨[.val aE (.pair (.pair .leaf (.pair .leaf q0)) (.pair .leaf (.pair .leaf (.pair .shr (.pair .shr (.pair .shr (.pair .leaf (.pair .shr (.pair .leaf (.pair .shr je))))))))))],[.val .bool .leaf],ib k,[]⟩)::(B7 k)
theorem Bt (k:Nat):ae Tryz.prog (qS k):=ae.ev ax mixed (N2 k) zv nA k Tryz.func173 (by kernel_rfl) (fun x=>by kernel_rfl)
def D4:Nat→Option aM:=fun|2=>some ⟨[(5,.val (.sl ab) (.sl (.sha [1]))),(6,.val (.int .i64) .leaf),(7,.val (.int .i64) .leaf)],3⟩|_=>none
def uy (k:Nat):List (FuncId×aF):=(175,⟨[.val (.sl ab) .shr],[.val .bool .leaf],ez k,[]⟩)::(qS k)
theorem Hd (k:Nat):ae Tryz.prog (uy k):=ae.ev ax mixed (Bt k) D4 nA k Tryz.func175 (by kernel_rfl) (fun x=>by kernel_rfl)
def zY (k:Nat):List (FuncId×aF):=(262,⟨[.val aU (.pair .shr .leaf)],[.val .bool .leaf],nY k,[]⟩)::(uy k)
theorem Mw (k:Nat):ae Tryz.prog (zY k):=ae.ev ax mixed (Hd k) nA nA k Tryz.func262 (by kernel_rfl) (fun x=>by kernel_rfl)
def Bj:Nat→Option aM:=fun|2=>some ⟨[(0,.val (.sl aU) (.sl (.sha [1]))),(3,.box 3 bC (.pair .leaf (.pair .leaf (.pair .leaf cP)))),(7,.val (.sl aU) (.sl (.sha [1]))),(8,.val (.int .i64) .leaf),(9,.val (.int .i64) .leaf)],4⟩|_=>none
def BS:Nat→Option aM:=fun|7=>some ⟨[(0,.val (.sl aU) (.sl (.sha [1]))),(3,.box 3 bC (.pair .leaf (.pair .leaf (.pair .leaf cP))))],4⟩|_=>none
def sC (k:Nat):List (FuncId×aF):=(174,⟨[.val (.sl aU) .shr,.val bC (.pair .leaf (.pair .leaf q0))],[.val .bool .leaf],jy k,[]⟩)::(zY k)
theorem DK (k:Nat):ae Tryz.prog (sC k):=ae.ev ax mixed (Mw k) Bj BS k Tryz.func174 (by kernel_rfl) (fun x=>by kernel_rfl)
def uH (k:Nat):List (FuncId×aF):=(326,⟨[.val (.int .i64) .leaf,.val (.int .i64) .leaf],[.val .bool .leaf],kc k,[]⟩)::(sC k)
theorem Em (k:Nat):ae Tryz.prog (uH k):=ae.ev ax mixed (DK k) nA nA k Tryz.func326 (by kernel_rfl) (fun x=>by kernel_rfl)
def yh (k:Nat):List (FuncId×aF):=(264,⟨[.val aq (.pair .leaf (.pair .leaf (.pair q3 (.pair .shr (.pair .leaf (.pair .leaf (.pair .leaf (.pair .shr uq))))))))],[.val .bool .leaf],jR k,[]⟩)::(uH k)
theorem LK (k:Nat):ae Tryz.prog (yh k):=ae.ev ax mixed (Em k) nA nA k Tryz.func264 (by kernel_rfl) (fun x=>by kernel_rfl)
def sj (k:Nat):List (FuncId×aF):=(330,⟨[.val ab q3,.val ab q3],[.val .bool .leaf],cT k,[]⟩)::(yh k)
theorem Dt (k:Nat):ae Tryz.prog (sj k):=ae.ev ax mixed (LK k) nA nA k Tryz.func330 (by kernel_rfl) (fun x=>by kernel_rfl)
def DG:Nat→Option aM:=fun|4=>some ⟨[(0,.val (.sl (.int .i64)) (.sl (.sha [1]))),(1,.val (.sl (.int .i64)) (.sl (.sha [1]))),(12,.val (.int .i64) .leaf),(13,.val (.int .i64) .leaf)],3⟩|_=>none
def uz (k:Nat):List (FuncId×aF):=(362,⟨[.val (.sl (.int .i64)) .shr,.val (.sl (.int .i64)) .shr],[.val .bool .leaf],gR k,[]⟩)::(sj k)
theorem ET (k:Nat):ae Tryz.prog (uz k):=ae.ev ax mixed (Dt k) DG nA k Tryz.func362 (by kernel_rfl) (fun x=>by kernel_rfl)
def zW:Nat→Option aM:=fun|4=>some ⟨[(0,.val (.sl ab) (.sl (.sha [1]))),(1,.val (.sl ab) (.sl (.sha [1]))),(12,.val (.int .i64) .leaf),(13,.val (.int .i64) .leaf)],3⟩|_=>none
def qO (k:Nat):List (FuncId×aF):=(363,⟨[.val (.sl ab) .shr,.val (.sl ab) .shr],[.val .bool .leaf],fA k,[]⟩)::(uz k)
theorem BR (k:Nat):ae Tryz.prog (qO k):=ae.ev ax mixed (ET k) zW nA k Tryz.func363 (by kernel_rfl) (fun x=>by kernel_rfl)
def tY (k:Nat):List (FuncId×aF):=(327,⟨[.val ah (.pair .leaf (.pair .leaf (.pair q3 (.pair .shr (.pair .leaf q7))))),.val ah (.pair .leaf (.pair .leaf (.pair q3 (.pair .shr (.pair .leaf q7)))))],[.val .bool .leaf],gL k,[]⟩)::(qO k)
theorem Gs (k:Nat):ae Tryz.prog (tY k):=ae.ev ax mixed (BR k) nA nA k Tryz.func327 (by kernel_rfl) (fun x=>by kernel_rfl)
def Je:Nat→Option aM:=fun|2=>some ⟨[(1,.box 3 ah (.pair .leaf (.pair .leaf (.pair uQ (.pair (.sl (.sha [1])) (.pair .leaf (.pair (.sl (.sha [1])) uR))))))),(6,.val (.sl (.int .i64)) (.sl (.sha [1]))),(7,.val (.int .i64) .leaf),(8,.val (.int .i64) .leaf)],4⟩|_=>none
def HU:Nat→Option aM:=fun|7=>some ⟨[(1,.box 3 ah (.pair .leaf (.pair .leaf (.pair uQ (.pair (.sl (.sha [1])) (.pair .leaf (.pair (.sl (.sha [1])) uR)))))))],4⟩|_=>none
def yb (k:Nat):List (FuncId×aF):=(328,⟨[.val ah (.pair .leaf (.pair .leaf (.pair q3 (.pair .shr (.pair .leaf q7)))))],[.val .bool .leaf],mF k,[]⟩)::(tY k)
theorem K1 (k:Nat):ae Tryz.prog (yb k):=ae.ev ax mixed (Gs k) Je HU k Tryz.func328 (by kernel_rfl) (fun x=>by kernel_rfl)
def HH:Nat→Option aM:=fun|25=>some ⟨[(2,.box 3 ah (.pair .leaf (.pair .leaf (.pair uQ (.pair (.sl (.sha [1])) (.pair .leaf (.pair (.sl (.sha [1])) uR))))))),(5,.box 4 ah (.pair .leaf (.pair .leaf (.pair uQ (.pair (.sl (.sha [1])) (.pair .leaf (.pair (.sl (.sha [1])) uR))))))),(6,.val .bool .leaf),(7,.val (.int .i64) .leaf)],5⟩|_=>none
def yg (k:Nat):List (FuncId×aF):=(265,⟨[.val ah (.pair .leaf (.pair .leaf (.pair q3 (.pair .shr (.pair .leaf q7))))),.val (.int .i64) .leaf],[.val .bool .leaf],mL k,[]⟩)::(yb k)
theorem K7 (k:Nat):ae Tryz.prog (yg k):=ae.ev ax mixed (K1 k) nA HH k Tryz.func265 (by kernel_rfl) (fun x=>by kernel_rfl)
end Vg.Tryz
namespace Vg.Tryz
open Go Vg Go.Proofs
set_option linter.unusedVariables false
set_option maxRecDepth 1000000
def xW (k:Nat):List (FuncId×aF):=(304,⟨[.val (.sl ak) .shr,.val (.sl af) .shr],[.val (.int .i64) .leaf],mE k,[]⟩)::(yg k)
theorem KR (k:Nat):ae Tryz.prog (xW k):=ae.ev ax mixed (K7 k) nA nA k Tryz.func304 (by kernel_rfl) (fun x=>by kernel_rfl)
def Ha:Nat→Option aM:=fun|2=>some ⟨[(1,.val (.int .i64) .leaf),(2,.box 3 ak cP),(8,.val (.sl ay) (.sl (.sha [1]))),(9,.val (.int .i64) .leaf),(10,.val (.int .i64) .leaf)],4⟩|_=>none
def wB (k:Nat):List (FuncId×aF):=(351,⟨[.val ak (.pair .leaf (.pair .leaf .shr)),.val (.int .i64) .leaf],[.val (.int .i64) .leaf],lL k,[]⟩)::(xW k)
theorem JO (k:Nat):ae Tryz.prog (wB k):=ae.ev ax mixed (KR k) Ha nA k Tryz.func351 (by kernel_rfl) (fun x=>by kernel_rfl)
def vj (k:Nat):List (FuncId×aF):=(353,⟨[.val ay (.pair .leaf .shr),.val (.sl af) .shr],[.val (.int .i64) .leaf],lP k,[]⟩)::(wB k)
theorem JQ (k:Nat):ae Tryz.prog (vj k):=ae.ev ax mixed (JO k) nA nA k Tryz.func353 (by kernel_rfl) (fun x=>by kernel_rfl)
def yw (k:Nat):List (FuncId×aF):=(303,⟨[.val ak (.pair .leaf (.pair .leaf .shr)),.val (.sl af) .shr],[.val ab qR,.val .bool .leaf],mP k,[]⟩)::(vj k)
theorem Lh (k:Nat):ae Tryz.prog (yw k):=ae.ev ax mixed (JQ k) nA nA k Tryz.func303 (by kernel_rfl) (fun x=>by kernel_rfl)
def rZ (k:Nat):List (FuncId×aF):=(224,⟨[.val (.sl ak) .shr,.val (.sl af) .shr],[.val ab qR,.val .bool .leaf],jr k,[]⟩)::(yw k)
theorem D3 (k:Nat):ae Tryz.prog (rZ k):=ae.ev ax mixed (Lh k) nA nA k Tryz.func224 (by kernel_rfl) (fun x=>by kernel_rfl)
def BX:Nat→Option aM:=fun|6=>some ⟨[(2,.box 3 aE (.pair (.pair .leaf (.pair .leaf (.pair .leaf cP))) (.pair .leaf (.pair .leaf (.pair (.sl (.sha [1])) (.pair (.sl (.sha [1])) (.pair (.sl (.sha [1])) (.pair .leaf (.pair (.sl (.sha [1])) (.pair .leaf (.pair (.sl (.sha [1])) (.pair (.sl (.sha [1])) (.pair (.sl (.sha [1])) df))))))))))))),(3,.box 4 ah (.pair .leaf (.pair .leaf (.pair uQ (.pair (.sl (.sha [1])) (.pair .leaf (.pair (.sl (.sha [1])) uR))))))),(5,.val .bool .leaf),(6,.val (.sl ab) (.sl (.row 5 [5] true))),(35,.val (.sl (.int .i64)) (.sl (.sha [1]))),(36,.val (.int .i64) .leaf),(37,.val (.int .i64) .leaf)],6⟩|_=>none
def A0:Nat→Option aM:=fun|13=>some ⟨[(2,.box 3 aE (.pair (.pair .leaf (.pair .leaf (.pair .leaf cP))) (.pair .leaf (.pair .leaf (.pair (.sl (.sha [1])) (.pair (.sl (.sha [1])) (.pair (.sl (.sha [1])) (.pair .leaf (.pair (.sl (.sha [1])) (.pair .leaf (.pair (.sl (.sha [1])) (.pair (.sl (.sha [1])) (.pair (.sl (.sha [1])) df))))))))))))),(3,.box 4 ah (.pair .leaf (.pair .leaf (.pair uQ (.pair (.sl (.sha [1])) (.pair .leaf (.pair (.sl (.sha [1])) uR))))))),(5,.val .bool .leaf),(6,.val (.sl ab) (.sl (.row 5 [5] true)))],6⟩|_=>none
def rP (k:Nat):List (FuncId×aF):=(331,⟨[.val aE (.pair (.pair .leaf (.pair .leaf q0)) (.pair .leaf (.pair .leaf (.pair .shr (.pair .shr (.pair .shr (.pair .leaf (.pair .shr (.pair .leaf (.pair .shr je)))))))))),.val ah (.pair .leaf (.pair .leaf (.pair q3 (.pair .shr (.pair .leaf q7)))))],[.val .bool .leaf],jw k,[]⟩)::(rZ k)
theorem C8 (k:Nat):ae Tryz.prog (rP k):=ae.ev ax mixed (D3 k) BX A0 k Tryz.func331 (by kernel_rfl) (fun x=>by kernel_rfl)
def um (k:Nat):List (FuncId×aF):=(266,⟨[.val aE (.pair (.pair .leaf (.pair .leaf q0)) (.pair .leaf (.pair .leaf (.pair .shr (.pair .shr (.pair .shr (.pair .leaf (.pair .shr (.pair .leaf (.pair .shr je)))))))))),.val ah (.pair .leaf (.pair .leaf (.pair q3 (.pair .shr (.pair .leaf q7))))),.val aq (.pair .leaf (.pair .leaf (.pair q3 (.pair .shr (.pair .leaf (.pair .leaf (.pair .leaf (.pair .shr uq))))))))],[.val .bool .leaf],kf k,[]⟩)::(rP k)
theorem FG (k:Nat):ae Tryz.prog (um k):=ae.ev ax mixed (C8 k) nA nA k Tryz.func266 (by kernel_rfl) (fun x=>by kernel_rfl)
def Aq:Nat→Option aM:=fun|2=>some ⟨[(1,.box 3 aE (.pair (.pair .leaf (.pair .leaf (.pair .leaf cP))) (.pair .leaf (.pair .leaf (.pair (.sl (.sha [1])) (.pair (.sl (.sha [1])) (.pair (.sl (.sha [1])) (.pair .leaf (.pair (.sl (.sha [1])) (.pair .leaf (.pair (.sl (.sha [1])) (.pair (.sl (.sha [1])) (.pair (.sl (.sha [1])) df))))))))))))),(9,.val (.sl aq) (.sl (.sha [1]))),(10,.val (.int .i64) .leaf),(11,.val (.int .i64) .leaf)],4⟩|8=>some ⟨[(1,.box 3 aE (.pair (.pair .leaf (.pair .leaf (.pair .leaf cP))) (.pair .leaf (.pair .leaf (.pair (.sl (.sha [1])) (.pair (.sl (.sha [1])) (.pair (.sl (.sha [1])) (.pair .leaf (.pair (.sl (.sha [1])) (.pair .leaf (.pair (.sl (.sha [1])) (.pair (.sl (.sha [1])) (.pair (.sl (.sha [1])) df))))))))))))),(41,.val (.sl ah) (.sl (.sha [1]))),(42,.val (.int .i64) .leaf),(43,.val (.int .i64) .leaf)],4⟩|_=>none
def zP:Nat→Option aM:=fun|7=>some ⟨[(1,.box 3 aE (.pair (.pair .leaf (.pair .leaf (.pair .leaf cP))) (.pair .leaf (.pair .leaf (.pair (.sl (.sha [1])) (.pair (.sl (.sha [1])) (.pair (.sl (.sha [1])) (.pair .leaf (.pair (.sl (.sha [1])) (.pair .leaf (.pair (.sl (.sha [1])) (.pair (.sl (.sha [1])) (.pair (.sl (.sha [1])) df)))))))))))))],4⟩|_=>none
def rf (k:Nat):List (FuncId×aF):=(176,⟨[.val aE (.pair (.pair .leaf (.pair .leaf q0)) (.pair .leaf (.pair .leaf (.pair .shr (.pair .shr (.pair .shr (.pair .leaf (.pair .shr (.pair .leaf (.pair .shr je))))))))))],[.val .bool .leaf],ic k,[]⟩)::(um k)
theorem A7 (k:Nat):ae Tryz.prog (rf k):=ae.ev ax mixed (FG k) Aq zP k Tryz.func176 (by kernel_rfl) (fun x=>by kernel_rfl)
def yT (k:Nat):List (FuncId×aF):=(332,⟨[.val ah (.pair .leaf (.pair .leaf (.pair q3 (.pair .shr (.pair .leaf q7))))),.val (.int .i64) .leaf,.val .bool .leaf],[.val (.int .i64) .leaf],qC k,[]⟩)::(rf k)
theorem K9 (k:Nat):ae Tryz.prog (yT k):=ae.ev ax mixed (A7 k) nA nA k Tryz.func332 (by kernel_rfl) (fun x=>by kernel_rfl)
def sA (k:Nat):List (FuncId×aF):=(267,⟨[.val ah (.pair .leaf (.pair .leaf (.pair q3 (.pair .shr (.pair .leaf q7))))),.val (.int .i64) .leaf],[.val (.int .i64) .leaf],jk k,[]⟩)::(yT k)
theorem Dq (k:Nat):ae Tryz.prog (sA k):=ae.ev ax mixed (K9 k) nA nA k Tryz.func267 (by kernel_rfl) (fun x=>by kernel_rfl)
def qu (k:Nat):List (FuncId×aF):=(268,⟨[.val ah (.pair .leaf (.pair .leaf (.pair q3 (.pair .shr (.pair .leaf q7)))))],[.val .bool .leaf],gI k,[]⟩)::(sA k)
theorem zJ (k:Nat):ae Tryz.prog (qu k):=ae.ev ax mixed (Dq k) nA nA k Tryz.func268 (by kernel_rfl) (fun x=>by kernel_rfl)
def zm:Nat→Option aM:=fun|2=>some ⟨[(1,.box 3 aE (.pair (.pair .leaf (.pair .leaf (.pair .leaf cP))) (.pair .leaf (.pair .leaf (.pair (.sl (.sha [1])) (.pair (.sl (.sha [1])) (.pair (.sl (.sha [1])) (.pair .leaf (.pair (.sl (.sha [1])) (.pair .leaf (.pair (.sl (.sha [1])) (.pair (.sl (.sha [1])) (.pair (.sl (.sha [1])) df))))))))))))),(10,.val (.sl ak) (.sl (.sha [1]))),(11,.val (.int .i64) .leaf),(12,.val (.int .i64) .leaf)],4⟩|5=>some ⟨[(1,.box 3 aE (.pair (.pair .leaf (.pair .leaf (.pair .leaf cP))) (.pair .leaf (.pair .leaf (.pair (.sl (.sha [1])) (.pair (.sl (.sha [1])) (.pair (.sl (.sha [1])) (.pair .leaf (.pair (.sl (.sha [1])) (.pair .leaf (.pair (.sl (.sha [1])) (.pair (.sl (.sha [1])) (.pair (.sl (.sha [1])) df))))))))))))),(3,.val (.int .i64) .leaf),(4,.box 4 ak Jd),(10,.val (.sl ak) (.sl (.sha [1]))),(11,.val (.int .i64) .leaf),(12,.val (.int .i64) .leaf),(18,.val (.sl ah) (.sl (.sha [1]))),(19,.val (.int .i64) .leaf),(20,.val (.int .i64) .leaf)],5⟩|12=>some ⟨[(1,.box 3 aE (.pair (.pair .leaf (.pair .leaf (.pair .leaf cP))) (.pair .leaf (.pair .leaf (.pair (.sl (.sha [1])) (.pair (.sl (.sha [1])) (.pair (.sl (.sha [1])) (.pair .leaf (.pair (.sl (.sha [1])) (.pair .leaf (.pair (.sl (.sha [1])) (.pair (.sl (.sha [1])) (.pair (.sl (.sha [1])) df))))))))))))),(40,.val (.sl ah) (.sl (.sha [1]))),(41,.val (.int .i64) .leaf),(42,.val (.int .i64) .leaf)],4⟩|_=>none
def Ac:Nat→Option aM:=fun|11=>some ⟨[(1,.box 3 aE (.pair (.pair .leaf (.pair .leaf (.pair .leaf cP))) (.pair .leaf (.pair .leaf (.pair (.sl (.sha [1])) (.pair (.sl (.sha [1])) (.pair (.sl (.sha [1])) (.pair .leaf (.pair (.sl (.sha [1])) (.pair .leaf (.pair (.sl (.sha [1])) (.pair (.sl (.sha [1])) (.pair (.sl (.sha [1])) df)))))))))))))],4⟩|17=>some ⟨[(1,.box 3 aE (.pair (.pair .leaf (.pair .leaf (.pair .leaf cP))) (.pair .leaf (.pair .leaf (.pair (.sl (.sha [1])) (.pair (.sl (.sha [1])) (.pair (.sl (.sha [1])) (.pair .leaf (.pair (.sl (.sha [1])) (.pair .leaf (.pair (.sl (.sha [1])) (.pair (.sl (.sha [1])) (.pair (.sl (.sha [1])) df)))))))))))))],4⟩|_=>none
def qU (k:Nat):List (FuncId×aF):=(177,⟨[.val aE (.pair (.pair .leaf (.pair .leaf q0)) (.pair .leaf (.pair .leaf (.pair .shr (.pair .shr (.pair .shr (.pair .leaf (.pair .shr (.pair .leaf (.pair .shr je))))))))))],[.val .bool .leaf],ig k,[]⟩)::(qu k)
theorem Bq (k:Nat):ae Tryz.prog (qU k):=ae.ev ax mixed (zJ k) zm Ac k Tryz.func177 (by kernel_rfl) (fun x=>by kernel_rfl)
def Ei:Nat→Option aM:=fun|2=>some ⟨[(1,.val .str .leaf),(7,.val (.sl .str) (.sl (.sha [1]))),(8,.val (.int .i64) .leaf),(9,.val (.int .i64) .leaf)],3⟩|_=>none
def vP (k:Nat):List (FuncId×aF):=(370,⟨[.val (.sl .str) .shr,.val .str .leaf],[.val .bool .leaf],lT k,[]⟩)::(qU k)
theorem I7 (k:Nat):ae Tryz.prog (vP k):=ae.ev ax mixed (Bq k) Ei nA k Tryz.func370 (by kernel_rfl) (fun x=>by kernel_rfl)
def Fw:Nat→Option aM:=fun|3=>some ⟨[(1,.val (.sl .str) (.sl (.sha [1]))),(5,.val (.sl af) (.sl (.row 3 [] true))),(8,.val (.sl af) (.sl (.sha [1]))),(9,.val (.int .i64) .leaf),(10,.val (.int .i64) .leaf)],4⟩|_=>none
def vQ (k:Nat):List (FuncId×aF):=(345,⟨[.val (.sl af) .shr,.val (.sl .str) .shr],[.val (.sl af) .own],pM k,[]⟩)::(vP k)
theorem JV (k:Nat):ae Tryz.prog (vQ k):=ae.ev ax mixed (I7 k) Fw nA k Tryz.func345 (by kernel_rfl) (fun x=>by kernel_rfl)
def zZ (k:Nat):List (FuncId×aF):=(289,⟨[.val ab q3,.val (.sl .str) .shr],[.val (.sl af) .own],oe k,[]⟩)::(vQ k)
theorem Ns (k:Nat):ae Tryz.prog (zZ k):=ae.ev ax mixed (JV k) nA nA k Tryz.func289 (by kernel_rfl) (fun x=>by kernel_rfl)
def Fv:Nat→Option aM:=fun|2=>some ⟨[(0,.val (.sl af) (.sl (.sha [1]))),(1,.val (.sl af) (.sl (.sha [1]))),(5,.val (.int .i64) .leaf)],3⟩|_=>none
def Gb:Nat→Option aM:=fun|8=>some ⟨[(0,.val (.sl af) (.sl (.sha [1]))),(1,.val (.sl af) (.sl (.sha [1])))],3⟩|_=>none
def vM (k:Nat):List (FuncId×aF):=(341,⟨[.val (.sl af) .shr,.val (.sl af) .shr],[.val .bool .leaf],iW k,[]⟩)::(zZ k)
theorem Jw (k:Nat):ae Tryz.prog (vM k):=ae.ev ax mixed (Ns k) Fv Gb k Tryz.func341 (by kernel_rfl) (fun x=>by kernel_rfl)
def E0:Nat→Option aM:=fun|2=>some ⟨[(0,.val (.sl ab) (.sl (.sha [1]))),(1,.val (.sl af) (.sl (.sha [1]))),(2,.val (.sl .str) (.sl (.sha [1]))),(9,.val (.sl ab) (.sl (.sha [1]))),(10,.val (.int .i64) .leaf),(11,.val (.int .i64) .leaf)],3⟩|_=>none
def v7 (k:Nat):List (FuncId×aF):=(364,⟨[.val (.sl ab) .shr,.val (.sl af) .shr,.val (.sl .str) .shr],[.val .bool .leaf],lV k,[]⟩)::(vM k)
theorem HI (k:Nat):ae Tryz.prog (v7 k):=ae.ev ax mixed (Jw k) E0 nA k Tryz.func364 (by kernel_rfl) (fun x=>by kernel_rfl)
def wA (k:Nat):List (FuncId×aF):=(333,⟨[.val aj (.pair .leaf q4),.val (.sl .str) .shr],[.val .bool .leaf],lG k,[]⟩)::(v7 k)
theorem Im (k:Nat):ae Tryz.prog (wA k):=ae.ev ax mixed (HI k) nA nA k Tryz.func333 (by kernel_rfl) (fun x=>by kernel_rfl)
def GG:Nat→Option aM:=fun|2=>some ⟨[(1,.val (.sl af) (.sl (.sha [1]))),(7,.val (.sl aj) (.sl (.sha [1]))),(8,.val (.int .i64) .leaf),(9,.val (.int .i64) .leaf)],3⟩|_=>none
def wI (k:Nat):List (FuncId×aF):=(290,⟨[.val (.sl aj) .shr,.val (.sl af) .shr],[.val (.int .i64) .leaf],lq k,[]⟩)::(wA k)
theorem Hz (k:Nat):ae Tryz.prog (wI k):=ae.ev ax mixed (Im k) GG nA k Tryz.func290 (by kernel_rfl) (fun x=>by kernel_rfl)
def CH:Nat→Option aM:=fun|2=>some ⟨[(0,.val (.sl aj) (.sl (.sha [1]))),(1,.val (.sl .str) (.sl (.sha [1]))),(7,.val (.sl aj) (.sl (.sha [1]))),(8,.val (.int .i64) .leaf),(9,.val (.int .i64) .leaf)],3⟩|_=>none
def uJ (k:Nat):List (FuncId×aF):=(269,⟨[.val (.sl aj) .shr,.val (.sl .str) .shr],[.val .bool .leaf],kq k,[]⟩)::(wI k)
theorem Fo (k:Nat):ae Tryz.prog (uJ k):=ae.ev ax mixed (Hz k) CH nA k Tryz.func269 (by kernel_rfl) (fun x=>by kernel_rfl)
def xX (k:Nat):List (FuncId×aF):=(334,⟨[.val aC (.pair .leaf .leaf),.val aC (.pair .leaf .leaf)],[.val .bool .leaf],nf k,[]⟩)::(uJ k)
theorem Lr (k:Nat):ae Tryz.prog (xX k):=ae.ev ax mixed (Fo k) nA nA k Tryz.func334 (by kernel_rfl) (fun x=>by kernel_rfl)
def Iu:Nat→Option aM:=fun|2=>some ⟨[(0,.val (.sl aC) (.sl (.sha [1]))),(5,.val (.sl aC) (.sl (.sha [1]))),(6,.val (.int .i64) .leaf),(7,.val (.int .i64) .leaf)],3⟩|_=>none
def IH:Nat→Option aM:=fun|7=>some ⟨[(0,.val (.sl aC) (.sl (.sha [1])))],3⟩|_=>none
def yN (k:Nat):List (FuncId×aF):=(270,⟨[.val (.sl aC) .shr],[.val .bool .leaf],mO k,[]⟩)::(xX k)
theorem LU (k:Nat):ae Tryz.prog (yN k):=ae.ev ax mixed (Lr k) Iu IH k Tryz.func270 (by kernel_rfl) (fun x=>by kernel_rfl)
def wV (k:Nat):List (FuncId×aF):=(335,⟨[.val aj (.pair .leaf q4),.val (.int .i64) .leaf,.val (.int .i64) .leaf],[.val (.int .i64) .leaf],pk k,[]⟩)::(yN k)
theorem JE (k:Nat):ae Tryz.prog (wV k):=ae.ev ax mixed (LU k) nA nA k Tryz.func335 (by kernel_rfl) (fun x=>by kernel_rfl)
def EU (k:Nat):List (FuncId×aF):=(271,⟨[.val bC (.pair .leaf (.pair .leaf q0)),.val aj (.pair .leaf q4)],[.val (.int .i64) .leaf],ry k,[]⟩)::(wV k)
theorem Qo (k:Nat):ae Tryz.prog (EU k):=ae.ev ax mixed (JE k) nA nA k Tryz.func271 (by kernel_rfl) (fun x=>by kernel_rfl)
def zh:Nat→Option aM:=fun|4=>some ⟨[(1,.box 3 aE (.pair (.pair .leaf (.pair .leaf (.pair .leaf cP))) (.pair .leaf (.pair .leaf (.pair (.sl (.sha [1])) (.pair (.sl (.sha [1])) (.pair (.sl (.sha [1])) (.pair .leaf (.pair (.sl (.sha [1])) (.pair .leaf (.pair (.sl (.sha [1])) (.pair (.sl (.sha [1])) (.pair (.sl (.sha [1])) df))))))))))))),(26,.val (.sl aj) (.sl (.sha [1]))),(27,.val (.int .i64) .leaf),(28,.val (.int .i64) .leaf)],4⟩|10=>some ⟨[(1,.box 3 aE (.pair (.pair .leaf (.pair .leaf (.pair .leaf cP))) (.pair .leaf (.pair .leaf (.pair (.sl (.sha [1])) (.pair (.sl (.sha [1])) (.pair (.sl (.sha [1])) (.pair .leaf (.pair (.sl (.sha [1])) (.pair .leaf (.pair (.sl (.sha [1])) (.pair (.sl (.sha [1])) (.pair (.sl (.sha [1])) df))))))))))))),(4,.box 4 aj (.pair .leaf (.pair (.sl (.sha [1,2])) Jd))),(5,.val .bool .leaf),(26,.val (.sl aj) (.sl (.sha [1]))),(27,.val (.int .i64) .leaf),(28,.val (.int .i64) .leaf),(68,.val (.sl aC) (.sl (.sha [1]))),(69,.val (.int .i64) .leaf),(70,.val (.int .i64) .leaf)],5⟩|18=>some ⟨[(1,.box 3 aE (.pair (.pair .leaf (.pair .leaf (.pair .leaf cP))) (.pair .leaf (.pair .leaf (.pair (.sl (.sha [1])) (.pair (.sl (.sha [1])) (.pair (.sl (.sha [1])) (.pair .leaf (.pair (.sl (.sha [1])) (.pair .leaf (.pair (.sl (.sha [1])) (.pair (.sl (.sha [1])) (.pair (.sl (.sha [1])) df))))))))))))),(96,.val (.sl aC) (.sl (.sha [1]))),(97,.val (.int .i64) .leaf),(98,.val (.int .i64) .leaf)],4⟩|23=>some ⟨[(1,.box 3 aE (.pair (.pair .leaf (.pair .leaf (.pair .leaf cP))) (.pair .leaf (.pair .leaf (.pair (.sl (.sha [1])) (.pair (.sl (.sha [1])) (.pair (.sl (.sha [1])) (.pair .leaf (.pair (.sl (.sha [1])) (.pair .leaf (.pair (.sl (.sha [1])) (.pair (.sl (.sha [1])) (.pair (.sl (.sha [1])) df))))))))))))),(9,.box 4 aC (.pair .leaf .leaf)),(96,.val (.sl aC) (.sl (.sha [1]))),(97,.val (.int .i64) .leaf),(98,.val (.int .i64) .leaf),(111,.val (.sl aC) (.sl (.sha [1]))),(112,.val (.int .i64) .leaf),(113,.val (.int .i64) .leaf)],5⟩|_=>none
def za:Nat→Option aM:=fun|14=>some ⟨[(1,.box 3 aE (.pair (.pair .leaf (.pair .leaf (.pair .leaf cP))) (.pair .leaf (.pair .leaf (.pair (.sl (.sha [1])) (.pair (.sl (.sha [1])) (.pair (.sl (.sha [1])) (.pair .leaf (.pair (.sl (.sha [1])) (.pair .leaf (.pair (.sl (.sha [1])) (.pair (.sl (.sha [1])) (.pair (.sl (.sha [1])) df))))))))))))),(4,.box 4 aj (.pair .leaf (.pair (.sl (.sha [1,2])) Jd))),(5,.val .bool .leaf),(26,.val (.sl aj) (.sl (.sha [1]))),(27,.val (.int .i64) .leaf),(28,.val (.int .i64) .leaf)],5⟩|17=>some ⟨[(1,.box 3 aE (.pair (.pair .leaf (.pair .leaf (.pair .leaf cP))) (.pair .leaf (.pair .leaf (.pair (.sl (.sha [1])) (.pair (.sl (.sha [1])) (.pair (.sl (.sha [1])) (.pair .leaf (.pair (.sl (.sha [1])) (.pair .leaf (.pair (.sl (.sha [1])) (.pair (.sl (.sha [1])) (.pair (.sl (.sha [1])) df)))))))))))))],4⟩|_=>none
def qp (k:Nat):List (FuncId×aF):=(178,⟨[.val aE (.pair (.pair .leaf (.pair .leaf q0)) (.pair .leaf (.pair .leaf (.pair .shr (.pair .shr (.pair .shr (.pair .leaf (.pair .shr (.pair .leaf (.pair .shr je))))))))))],[.val .bool .leaf],gM k,[]⟩)::(EU k)
theorem zQ (k:Nat):ae Tryz.prog (qp k):=ae.ev ax mixed (Qo k) zh za k Tryz.func178 (by kernel_rfl) (fun x=>by kernel_rfl)
end Vg.Tryz
namespace Vg.Tryz
open Go Vg Go.Proofs
set_option linter.unusedVariables false
set_option maxRecDepth 1000000
def vZ (k:Nat):List (FuncId×aF):=(81,⟨[.val aE (.pair (.pair .leaf (.pair .leaf q0)) (.pair .leaf (.pair .leaf (.pair .shr (.pair .shr (.pair .shr (.pair .leaf (.pair .shr (.pair .leaf (.pair .shr je))))))))))],[.val .bool .leaf],lR k,[]⟩)::(qp k)
theorem H7 (k:Nat):ae Tryz.prog (vZ k):=ae.ev ax mixed (zQ k) nA nA k Tryz.func81 (by kernel_rfl) (fun x=>by kernel_rfl)
def Cr (k:Nat):List (FuncId×aF):=(275,⟨[.val aE (.pair (.pair .leaf (.pair .leaf q0)) (.pair .leaf (.pair .leaf (.pair .shr (.pair .shr (.pair .shr (.pair .leaf (.pair .shr (.pair .leaf (.pair .shr je)))))))))),.val (.int .i64) .leaf],[.val .bool .leaf],pR k,[]⟩)::(vZ k)
theorem OR (k:Nat):ae Tryz.prog (Cr k):=ae.ev ax mixed (H7 k) nA nA k Tryz.func275 (by kernel_rfl) (fun x=>by kernel_rfl)
def yZ (k:Nat):List (FuncId×aF):=(194,⟨[.val aE (.pair (.pair .leaf (.pair .leaf q0)) (.pair .leaf (.pair .leaf (.pair .shr (.pair .shr (.pair .shr (.pair .leaf (.pair .shr (.pair .leaf (.pair .shr je)))))))))),.val (.int .i64) .leaf],[.val .bool .leaf],mX k,[]⟩)::(Cr k)
theorem K5 (k:Nat):ae Tryz.prog (yZ k):=ae.ev ax mixed (OR k) nA nA k Tryz.func194 (by kernel_rfl) (fun x=>by kernel_rfl)
def qo (k:Nat):List (FuncId×aF):=(195,⟨[.io aE (.pair (.pair .leaf (.pair .leaf u4)) (.pair .leaf (.pair .leaf (.pair .own (.pair .own (.pair .own (.pair .leaf (.pair .own (.pair .leaf (.pair .own Cz)))))))))),.val aq (.pair .leaf (.pair .leaf (.pair qR (.pair .own (.pair .leaf (.pair .leaf (.pair .leaf (.pair .own uq))))))))],[.val (.int .i64) .leaf],gw k,[(0,(dw 14 12))]⟩)::(yZ k)
theorem AI (k:Nat):ae Tryz.prog (qo k):=ae.ev ax mixed (K5 k) nA nA k Tryz.func195 (by kernel_rfl) (fun x=>by kernel_rfl)
def qb (k:Nat):List (FuncId×aF):=(179,⟨[.io aE (.pair (.pair .leaf (.pair .leaf u4)) (.pair .leaf (.pair .leaf (.pair .own (.pair .own (.pair .own (.pair .leaf (.pair .own (.pair .leaf (.pair .own Cz)))))))))),.val (.int .i64) .leaf,.val ah (.pair .leaf (.pair .leaf (.pair qR (.pair .own (.pair .leaf S8))))),.val aq (.pair .leaf (.pair .leaf (.pair qR (.pair .own (.pair .leaf (.pair .leaf (.pair .leaf (.pair .own uq))))))))],[.val .bool .leaf],gz k,[]⟩)::(qo k)
theorem zB (k:Nat):ae Tryz.prog (qb k):=ae.ev ax mixed (AI k) nA nA k Tryz.func179 (by kernel_rfl) (fun x=>by kernel_rfl)
def qm (k:Nat):List (FuncId×aF):=(82,⟨[.io aE (.pair (.pair .leaf (.pair .leaf u4)) (.pair .leaf (.pair .leaf (.pair .own (.pair .own (.pair .own (.pair .leaf (.pair .own (.pair .leaf (.pair .own Cz)))))))))),.val (.int .i64) .leaf],[.val .bool .leaf],kB k,[]⟩)::(qb k)
theorem AE (k:Nat):ae Tryz.prog (qm k):=ae.ev ax mixed (zB k) nA nA k Tryz.func82 (by kernel_rfl) (fun x=>by kernel_rfl)
def zq (k:Nat):List (FuncId×aF):=(19,⟨[.val aE (.pair (.pair .leaf (.pair .leaf q0)) (.pair .leaf (.pair .leaf (.pair .shr (.pair .shr (.pair .shr (.pair .leaf (.pair .shr (.pair .leaf (.pair .shr je)))))))))),.val (.int .i64) .leaf],[.val aE (.pair (.pair .leaf (.pair .leaf u4)) (.pair .leaf (.pair .leaf (.pair .own (.pair .own (.pair .own (.pair .leaf (.pair .own (.pair .leaf (.pair .own Cz)))))))))),.val .bool .leaf],kT k,[]⟩)::(qm k)
theorem Mo (k:Nat):ae Tryz.prog (zq k):=ae.ld ax mixed (AE k) (show cr Tryz.prog []from trivial) nA nA k Tryz.func19 (by kernel_rfl) (fun x=>by kernel_rfl)
def Bp:Nat→Option aM:=fun|4=>some ⟨[(0,.val (.sl .str) (.sl (.sha [1]))),(1,.val (.sl .str) (.sl (.sha [1]))),(5,.val (.int .i64) .leaf)],3⟩|_=>none
def sL (k:Nat):List (FuncId×aF):=(138,⟨[.val (.sl .str) .shr,.val (.sl .str) .shr],[.val .bool .leaf],nC k,[]⟩)::(zq k)
theorem DO (k:Nat):ae Tryz.prog (sL k):=ae.ev ax mixed (Mo k) Bp nA k Tryz.func138 (by kernel_rfl) (fun x=>by kernel_rfl)
def xV (k:Nat):List (FuncId×aF):=(66,⟨[.val bC (.pair .leaf (.pair .leaf q0)),.val bC (.pair .leaf (.pair .leaf q0))],[.val .bool .leaf],mN k,[]⟩)::(sL k)
theorem LR (k:Nat):ae Tryz.prog (xV k):=ae.ev ax mixed (DO k) nA nA k Tryz.func66 (by kernel_rfl) (fun x=>by kernel_rfl)
def wk (k:Nat):List (FuncId×aF):=(106,⟨[.val af (.pair .leaf .leaf),.val af (.pair .leaf .leaf)],[.val .bool .leaf],iq k,[]⟩)::(xV k)
theorem Jn (k:Nat):ae Tryz.prog (wk k):=ae.ev ax mixed (LR k) nA nA k Tryz.func106 (by kernel_rfl) (fun x=>by kernel_rfl)
def DA:Nat→Option aM:=fun|4=>some ⟨[(0,.val (.sl af) (.sl (.sha [1]))),(1,.val (.sl af) (.sl (.sha [1]))),(5,.val (.int .i64) .leaf)],3⟩|_=>none
def tM (k:Nat):List (FuncId×aF):=(28,⟨[.val (.sl af) .shr,.val (.sl af) .shr],[.val .bool .leaf],ey k,[]⟩)::(wk k)
theorem E5 (k:Nat):ae Tryz.prog (tM k):=ae.ev ax mixed (Jn k) DA nA k Tryz.func28 (by kernel_rfl) (fun x=>by kernel_rfl)
def wE (k:Nat):List (FuncId×aF):=(34,⟨[.val ab q3,.val ab q3],[.val .bool .leaf],eP k,[]⟩)::(tM k)
theorem Iv (k:Nat):ae Tryz.prog (wE k):=ae.ev ax mixed (E5 k) nA nA k Tryz.func34 (by kernel_rfl) (fun x=>by kernel_rfl)
def CV:Nat→Option aM:=fun|4=>some ⟨[(0,.val (.sl ab) (.sl (.sha [1]))),(1,.val (.sl ab) (.sl (.sha [1]))),(5,.val (.int .i64) .leaf)],3⟩|_=>none
def tz (k:Nat):List (FuncId×aF):=(69,⟨[.val (.sl ab) .shr,.val (.sl ab) .shr],[.val .bool .leaf],db k,[]⟩)::(wE k)
theorem E9 (k:Nat):ae Tryz.prog (tz k):=ae.ev ax mixed (Iv k) CV nA k Tryz.func69 (by kernel_rfl) (fun x=>by kernel_rfl)
def wg (k:Nat):List (FuncId×aF):=(309,⟨[.val ay (.pair .leaf .shr),.val ay (.pair .leaf .shr)],[.val .bool .leaf],iw k,[]⟩)::(tz k)
theorem JX (k:Nat):ae Tryz.prog (wg k):=ae.ev ax mixed (E9 k) nA nA k Tryz.func309 (by kernel_rfl) (fun x=>by kernel_rfl)
def Du:Nat→Option aM:=fun|4=>some ⟨[(0,.val (.sl ay) (.sl (.sha [1]))),(1,.val (.sl ay) (.sl (.sha [1]))),(5,.val (.int .i64) .leaf)],3⟩|_=>none
def ur (k:Nat):List (FuncId×aF):=(233,⟨[.val (.sl ay) .shr,.val (.sl ay) .shr],[.val .bool .leaf],oC k,[]⟩)::(wg k)
theorem Gz (k:Nat):ae Tryz.prog (ur k):=ae.ev ax mixed (JX k) Du nA k Tryz.func233 (by kernel_rfl) (fun x=>by kernel_rfl)
def yq (k:Nat):List (FuncId×aF):=(139,⟨[.val ak (.pair .leaf (.pair .leaf .shr)),.val ak (.pair .leaf (.pair .leaf .shr))],[.val .bool .leaf],jG k,[]⟩)::(ur k)
theorem KL (k:Nat):ae Tryz.prog (yq k):=ae.ev ax mixed (Gz k) nA nA k Tryz.func139 (by kernel_rfl) (fun x=>by kernel_rfl)
def Gm:Nat→Option aM:=fun|4=>some ⟨[(0,.val (.sl ak) (.sl (.sha [1]))),(1,.val (.sl ak) (.sl (.sha [1]))),(5,.val (.int .i64) .leaf)],3⟩|_=>none
def wH (k:Nat):List (FuncId×aF):=(67,⟨[.val (.sl ak) .shr,.val (.sl ak) .shr],[.val .bool .leaf],pO k,[]⟩)::(yq k)
theorem HO (k:Nat):ae Tryz.prog (wH k):=ae.ev ax mixed (KL k) Gm nA k Tryz.func67 (by kernel_rfl) (fun x=>by kernel_rfl)
def zO (k:Nat):List (FuncId×aF):=(140,⟨[.val aU (.pair .shr .leaf),.val aU (.pair .shr .leaf)],[.val .bool .leaf],kY k,[]⟩)::(wH k)
theorem MM (k:Nat):ae Tryz.prog (zO k):=ae.ev ax mixed (HO k) nA nA k Tryz.func140 (by kernel_rfl) (fun x=>by kernel_rfl)
def IT:Nat→Option aM:=fun|4=>some ⟨[(0,.val (.sl aU) (.sl (.sha [1]))),(1,.val (.sl aU) (.sl (.sha [1]))),(5,.val (.int .i64) .leaf)],3⟩|_=>none
def xY (k:Nat):List (FuncId×aF):=(68,⟨[.val (.sl aU) .shr,.val (.sl aU) .shr],[.val .bool .leaf],qE k,[]⟩)::(zO k)
theorem La (k:Nat):ae Tryz.prog (xY k):=ae.ev ax mixed (MM k) IT nA k Tryz.func68 (by kernel_rfl) (fun x=>by kernel_rfl)
def vp (k:Nat):List (FuncId×aF):=(141,⟨[.val aj (.pair .leaf q4),.val aj (.pair .leaf q4)],[.val .bool .leaf],im k,[]⟩)::(xY k)
theorem Jy (k:Nat):ae Tryz.prog (vp k):=ae.ev ax mixed (La k) nA nA k Tryz.func141 (by kernel_rfl) (fun x=>by kernel_rfl)
def DM:Nat→Option aM:=fun|4=>some ⟨[(0,.val (.sl aj) (.sl (.sha [1]))),(1,.val (.sl aj) (.sl (.sha [1]))),(5,.val (.int .i64) .leaf)],3⟩|_=>none
def uD (k:Nat):List (FuncId×aF):=(70,⟨[.val (.sl aj) .shr,.val (.sl aj) .shr],[.val .bool .leaf],oM k,[]⟩)::(vp k)
theorem Fj (k:Nat):ae Tryz.prog (uD k):=ae.ev ax mixed (Jy k) DM nA k Tryz.func70 (by kernel_rfl) (fun x=>by kernel_rfl)
def wy (k:Nat):List (FuncId×aF):=(142,⟨[.val aC (.pair .leaf .leaf),.val aC (.pair .leaf .leaf)],[.val .bool .leaf],iz k,[]⟩)::(uD k)
theorem Ka (k:Nat):ae Tryz.prog (wy k):=ae.ev ax mixed (Fj k) nA nA k Tryz.func142 (by kernel_rfl) (fun x=>by kernel_rfl)
def CU:Nat→Option aM:=fun|4=>some ⟨[(0,.val (.sl aC) (.sl (.sha [1]))),(1,.val (.sl aC) (.sl (.sha [1]))),(5,.val (.int .i64) .leaf)],3⟩|_=>none
def tJ (k:Nat):List (FuncId×aF):=(71,⟨[.val (.sl aC) .shr,.val (.sl aC) .shr],[.val .bool .leaf],oH k,[]⟩)::(wy k)
theorem E4 (k:Nat):ae Tryz.prog (tJ k):=ae.ev ax mixed (Ka k) CU nA k Tryz.func71 (by kernel_rfl) (fun x=>by kernel_rfl)
def wj (k:Nat):List (FuncId×aF):=(143,⟨[.val aN q6,.val aN q6],[.val .bool .leaf],iQ k,[]⟩)::(tJ k)
theorem Jp (k:Nat):ae Tryz.prog (wj k):=ae.ev ax mixed (E4 k) nA nA k Tryz.func143 (by kernel_rfl) (fun x=>by kernel_rfl)
def DS:Nat→Option aM:=fun|4=>some ⟨[(0,.val (.sl aN) (.sl (.sha [1]))),(1,.val (.sl aN) (.sl (.sha [1]))),(5,.val (.int .i64) .leaf)],3⟩|_=>none
def tV (k:Nat):List (FuncId×aF):=(72,⟨[.val (.sl aN) .shr,.val (.sl aN) .shr],[.val .bool .leaf],om k,[]⟩)::(wj k)
theorem En (k:Nat):ae Tryz.prog (tV k):=ae.ev ax mixed (Jp k) DS nA k Tryz.func72 (by kernel_rfl) (fun x=>by kernel_rfl)
end Vg.Tryz
namespace Vg.Tryz
open Go Vg Go.Proofs
set_option linter.unusedVariables false
set_option maxRecDepth 1000000
def Hv:Nat→Option aM:=fun|4=>some ⟨[(0,.val (.sl (.int .i64)) (.sl (.sha [1]))),(1,.val (.sl (.int .i64)) (.sl (.sha [1]))),(5,.val (.int .i64) .leaf)],3⟩|_=>none
def yj (k:Nat):List (FuncId×aF):=(234,⟨[.val (.sl (.int .i64)) .shr,.val (.sl (.int .i64)) .shr],[.val .bool .leaf],qL k,[]⟩)::(tV k)
theorem LZ (k:Nat):ae Tryz.prog (yj k):=ae.ev ax mixed (En k) Hv nA k Tryz.func234 (by kernel_rfl) (fun x=>by kernel_rfl)
def xP (k:Nat):List (FuncId×aF):=(144,⟨[.val ah (.pair .leaf (.pair .leaf (.pair q3 (.pair .shr (.pair .leaf q7))))),.val ah (.pair .leaf (.pair .leaf (.pair q3 (.pair .shr (.pair .leaf q7)))))],[.val .bool .leaf],jQ k,[]⟩)::(yj k)
theorem KK (k:Nat):ae Tryz.prog (xP k):=ae.ev ax mixed (LZ k) nA nA k Tryz.func144 (by kernel_rfl) (fun x=>by kernel_rfl)
def FO:Nat→Option aM:=fun|4=>some ⟨[(0,.val (.sl ah) (.sl (.sha [1]))),(1,.val (.sl ah) (.sl (.sha [1]))),(5,.val (.int .i64) .leaf)],3⟩|_=>none
def vW (k:Nat):List (FuncId×aF):=(73,⟨[.val (.sl ah) .shr,.val (.sl ah) .shr],[.val .bool .leaf],pw k,[]⟩)::(xP k)
theorem Hy (k:Nat):ae Tryz.prog (vW k):=ae.ev ax mixed (KK k) FO nA k Tryz.func73 (by kernel_rfl) (fun x=>by kernel_rfl)
def xQ (k:Nat):List (FuncId×aF):=(145,⟨[.val aq (.pair .leaf (.pair .leaf (.pair q3 (.pair .shr (.pair .leaf (.pair .leaf (.pair .leaf (.pair .shr uq)))))))),.val aq (.pair .leaf (.pair .leaf (.pair q3 (.pair .shr (.pair .leaf (.pair .leaf (.pair .leaf (.pair .shr uq))))))))],[.val .bool .leaf],jE k,[]⟩)::(vW k)
theorem KX (k:Nat):ae Tryz.prog (xQ k):=ae.ev ax mixed (Hy k) nA nA k Tryz.func145 (by kernel_rfl) (fun x=>by kernel_rfl)
def Hp:Nat→Option aM:=fun|4=>some ⟨[(0,.val (.sl aq) (.sl (.sha [1]))),(1,.val (.sl aq) (.sl (.sha [1]))),(5,.val (.int .i64) .leaf)],3⟩|_=>none
def vU (k:Nat):List (FuncId×aF):=(74,⟨[.val (.sl aq) .shr,.val (.sl aq) .shr],[.val .bool .leaf],pj k,[]⟩)::(xQ k)
theorem HD (k:Nat):ae Tryz.prog (vU k):=ae.ev ax mixed (KX k) Hp nA k Tryz.func74 (by kernel_rfl) (fun x=>by kernel_rfl)
def vd (k:Nat):List (FuncId×aF):=(17,⟨[.val aE (.pair (.pair .leaf (.pair .leaf q0)) (.pair .leaf (.pair .leaf (.pair .shr (.pair .shr (.pair .shr (.pair .leaf (.pair .shr (.pair .leaf (.pair .shr je)))))))))),.val aE (.pair (.pair .leaf (.pair .leaf q0)) (.pair .leaf (.pair .leaf (.pair .shr (.pair .shr (.pair .shr (.pair .leaf (.pair .shr (.pair .leaf (.pair .shr je))))))))))],[.val .bool .leaf],eX k,[]⟩)::(vU k)
theorem HT (k:Nat):ae Tryz.prog (vd k):=ae.ev ax mixed (HD k) nA nA k Tryz.func17 (by kernel_rfl) (fun x=>by kernel_rfl)
def Df:Nat→Option aM:=fun|4=>some ⟨[(0,.val (.int .i64) .leaf),(3,.val .str .leaf)],3⟩|_=>none
def D7:Nat→Option aM:=fun|7=>some ⟨[(3,.val .str .leaf)],3⟩|_=>none
def ua (k:Nat):List (FuncId×aF):=(107,⟨[.val (.int .i64) .leaf],[.val .str .leaf],bT k,[]⟩)::(vd k)
theorem bS (k:Nat):ae Tryz.prog (ua k):=ae.ev ax mixed (HT k) Df D7 k Tryz.func107 (by kernel_rfl) (fun x=>by kernel_rfl)
def zc:Nat→Option aM:=fun|2=>some ⟨[(0,.val (.sl .str) (.sl (.row 3 [3] true))),(1,.val (.int .i64) .leaf),(5,.val (.int .i64) .leaf)],4⟩|_=>none
def qt (k:Nat):List (FuncId×dF):=(180,⟨(.sl .str),lg k⟩)::([]:List (FuncId×dF))
theorem Az (k:Nat):cr Tryz.prog (qt k):=cr.ev ax mixed (bS k) (show cr Tryz.prog []from trivial) zc nA k Tryz.func180 (by kernel_rfl) (fun x n=>by kernel_rfl)
def tF (k:Nat):List (FuncId×dF):=(83,⟨bC,oX k⟩)::(qt k)
theorem EX (k:Nat):cr Tryz.prog (tF k):=cr.ev ax mixed (bS k) (Az k) nA nA k Tryz.func83 (by kernel_rfl) (fun x n=>by kernel_rfl)
def zU:Nat→Option aM:=fun|2=>some ⟨[(0,.val (.sl af) (.sl (.row 3 [3] true))),(1,.val (.int .i64) .leaf),(5,.val (.int .i64) .leaf)],4⟩|_=>none
def rm (k:Nat):List (FuncId×dF):=(29,⟨(.sl af),cV k⟩)::(tF k)
theorem Bl (k:Nat):cr Tryz.prog (rm k):=cr.ev ax mixed (bS k) (EX k) zU nA k Tryz.func29 (by kernel_rfl) (fun x n=>by kernel_rfl)
def Av:Nat→Option aM:=fun|2=>some ⟨[(0,.val (.sl ab) (.sl (.row 3 [3] true))),(1,.val (.int .i64) .leaf),(5,.val (.int .i64) .leaf)],4⟩|_=>none
def qZ (k:Nat):List (FuncId×dF):=(86,⟨(.sl ab),cF k⟩)::(rm k)
theorem Bw (k:Nat):cr Tryz.prog (qZ k):=cr.ev ax mixed (bS k) (Bl k) Av nA k Tryz.func86 (by kernel_rfl) (fun x n=>by kernel_rfl)
def zR:Nat→Option aM:=fun|2=>some ⟨[(0,.val (.sl ay) (.sl (.row 3 [3] true))),(1,.val (.int .i64) .leaf),(5,.val (.int .i64) .leaf)],4⟩|_=>none
def rj (k:Nat):List (FuncId×dF):=(181,⟨(.sl ay),me k⟩)::(qZ k)
theorem BY (k:Nat):cr Tryz.prog (rj k):=cr.ev ax mixed (bS k) (Bw k) zR nA k Tryz.func181 (by kernel_rfl) (fun x n=>by kernel_rfl)
def A3:Nat→Option aM:=fun|2=>some ⟨[(0,.val (.sl ak) (.sl (.row 3 [3] true))),(1,.val (.int .i64) .leaf),(5,.val (.int .i64) .leaf)],4⟩|_=>none
def sE (k:Nat):List (FuncId×dF):=(84,⟨(.sl ak),nx k⟩)::(rj k)
theorem CL (k:Nat):cr Tryz.prog (sE k):=cr.ev ax mixed (bS k) (BY k) A3 nA k Tryz.func84 (by kernel_rfl) (fun x n=>by kernel_rfl)
def D0:Nat→Option aM:=fun|2=>some ⟨[(0,.val (.sl aU) (.sl (.row 3 [3] true))),(1,.val (.int .i64) .leaf),(5,.val (.int .i64) .leaf)],4⟩|_=>none
def tS (k:Nat):List (FuncId×dF):=(85,⟨(.sl aU),oc k⟩)::(sE k)
theorem Gf (k:Nat):cr Tryz.prog (tS k):=cr.ev ax mixed (bS k) (CL k) D0 nA k Tryz.func85 (by kernel_rfl) (fun x n=>by kernel_rfl)
def zS:Nat→Option aM:=fun|2=>some ⟨[(0,.val (.sl aj) (.sl (.row 3 [3] true))),(1,.val (.int .i64) .leaf),(5,.val (.int .i64) .leaf)],4⟩|_=>none
def qW (k:Nat):List (FuncId×dF):=(87,⟨(.sl aj),lZ k⟩)::(tS k)
theorem Bd (k:Nat):cr Tryz.prog (qW k):=cr.ev ax mixed (bS k) (Gf k) zS nA k Tryz.func87 (by kernel_rfl) (fun x n=>by kernel_rfl)
def Ao:Nat→Option aM:=fun|2=>some ⟨[(0,.val (.sl aC) (.sl (.row 3 [3] true))),(1,.val (.int .i64) .leaf),(5,.val (.int .i64) .leaf)],4⟩|_=>none
def rl (k:Nat):List (FuncId×dF):=(88,⟨(.sl aC),mf k⟩)::(qW k)
theorem A9 (k:Nat):cr Tryz.prog (rl k):=cr.ev ax mixed (bS k) (Bd k) Ao nA k Tryz.func88 (by kernel_rfl) (fun x n=>by kernel_rfl)
def Ag:Nat→Option aM:=fun|2=>some ⟨[(0,.val (.sl aN) (.sl (.row 3 [3] true))),(1,.val (.int .i64) .leaf),(5,.val (.int .i64) .leaf)],4⟩|_=>none
def rk (k:Nat):List (FuncId×dF):=(89,⟨(.sl aN),mj k⟩)::(rl k)
theorem BP (k:Nat):cr Tryz.prog (rk k):=cr.ev ax mixed (bS k) (A9 k) Ag nA k Tryz.func89 (by kernel_rfl) (fun x n=>by kernel_rfl)
def CN:Nat→Option aM:=fun|2=>some ⟨[(0,.val (.sl (.int .i64)) (.sl (.row 3 [3] true))),(1,.val (.int .i64) .leaf),(5,.val (.int .i64) .leaf)],4⟩|_=>none
def tC (k:Nat):List (FuncId×dF):=(182,⟨(.sl (.int .i64)),oq k⟩)::(rk k)
theorem EO (k:Nat):cr Tryz.prog (tC k):=cr.ev ax mixed (bS k) (BP k) CN nA k Tryz.func182 (by kernel_rfl) (fun x n=>by kernel_rfl)
def BA:Nat→Option aM:=fun|2=>some ⟨[(0,.val (.sl ah) (.sl (.row 3 [3] true))),(1,.val (.int .i64) .leaf),(5,.val (.int .i64) .leaf)],4⟩|_=>none
def so (k:Nat):List (FuncId×dF):=(90,⟨(.sl ah),ns k⟩)::(tC k)
theorem CI (k:Nat):cr Tryz.prog (so k):=cr.ev ax mixed (bS k) (EO k) BA nA k Tryz.func90 (by kernel_rfl) (fun x n=>by kernel_rfl)
def Bf:Nat→Option aM:=fun|2=>some ⟨[(0,.val (.sl aq) (.sl (.row 3 [3] true))),(1,.val (.int .i64) .leaf),(5,.val (.int .i64) .leaf)],4⟩|_=>none
def tc (k:Nat):List (FuncId×dF):=(91,⟨(.sl aq),nB k⟩)::(so k)
theorem C7 (k:Nat):cr Tryz.prog (tc k):=cr.ev ax mixed (bS k) (CI k) Bf nA k Tryz.func91 (by kernel_rfl) (fun x n=>by kernel_rfl)
def Da (k:Nat):List (FuncId×dF):=(20,⟨aE,gf k⟩)::(tc k)
theorem CK (k:Nat):cr Tryz.prog (Da k):=cr.ev ax mixed (bS k) (C7 k) nA nA k Tryz.func20 (by kernel_rfl) (fun x n=>by kernel_rfl)
def zg:Nat→Option aM:=fun|2=>some ⟨[(0,.val (.sl .str) (.sl (.sha [1]))),(1,.val (.int .i64) .leaf),(5,.val (.int .i64) .leaf)],3⟩|_=>none
def qk (k:Nat):List (FuncId×aF):=(183,⟨[.val (.sl .str) .shr,.val (.int .i64) .leaf],[.val (.int .i64) .leaf],kS k,[]⟩)::(ua k)
theorem AG (k:Nat):ae Tryz.prog (qk k):=ae.ev ax mixed (bS k) zg nA k Tryz.func183 (by kernel_rfl) (fun x=>by kernel_rfl)
def tT (k:Nat):List (FuncId×aF):=(92,⟨[.val bC (.pair .leaf (.pair .leaf q0)),.val (.int .i64) .leaf],[.val (.int .i64) .leaf],ov k,[]⟩)::(qk k)
theorem Hh (k:Nat):ae Tryz.prog (tT k):=ae.ev ax mixed (AG k) nA nA k Tryz.func92 (by kernel_rfl) (fun x=>by kernel_rfl)
def An:Nat→Option aM:=fun|2=>some ⟨[(0,.val (.sl af) (.sl (.sha [1]))),(1,.val (.int .i64) .leaf),(5,.val (.int .i64) .leaf)],3⟩|_=>none
def qQ (k:Nat):List (FuncId×aF):=(185,⟨[.val (.sl af) .shr,.val (.int .i64) .leaf],[.val (.int .i64) .leaf],cX k,[]⟩)::(tT k)
theorem BF (k:Nat):ae Tryz.prog (qQ k):=ae.ev ax mixed (Hh k) An nA k Tryz.func185 (by kernel_rfl) (fun x=>by kernel_rfl)
def Al:Nat→Option aM:=fun|2=>some ⟨[(0,.val (.sl ab) (.sl (.sha [1]))),(1,.val (.int .i64) .leaf),(5,.val (.int .i64) .leaf)],3⟩|_=>none
def qV (k:Nat):List (FuncId×aF):=(95,⟨[.val (.sl ab) .shr,.val (.int .i64) .leaf],[.val (.int .i64) .leaf],cG k,[]⟩)::(qQ k)
theorem Bu (k:Nat):ae Tryz.prog (qV k):=ae.ev ax mixed (BF k) Al nA k Tryz.func95 (by kernel_rfl) (fun x=>by kernel_rfl)
end Vg.Tryz
namespace Vg.Tryz
open Go Vg Go.Proofs
set_option linter.unusedVariables false
set_option maxRecDepth 1000000
def AA:Nat→Option aM:=fun|2=>some ⟨[(0,.val (.sl ay) (.sl (.sha [1]))),(1,.val (.int .i64) .leaf),(5,.val (.int .i64) .leaf)],3⟩|_=>none
def rb (k:Nat):List (FuncId×aF):=(184,⟨[.val (.sl ay) .shr,.val (.int .i64) .leaf],[.val (.int .i64) .leaf],mh k,[]⟩)::(qV k)
theorem Be (k:Nat):ae Tryz.prog (rb k):=ae.ev ax mixed (Bu k) AA nA k Tryz.func184 (by kernel_rfl) (fun x=>by kernel_rfl)
def BM:Nat→Option aM:=fun|2=>some ⟨[(0,.val (.sl ak) (.sl (.sha [1]))),(1,.val (.int .i64) .leaf),(5,.val (.int .i64) .leaf)],3⟩|_=>none
def rR (k:Nat):List (FuncId×aF):=(93,⟨[.val (.sl ak) .shr,.val (.int .i64) .leaf],[.val (.int .i64) .leaf],nm k,[]⟩)::(rb k)
theorem De (k:Nat):ae Tryz.prog (rR k):=ae.ev ax mixed (Be k) BM nA k Tryz.func93 (by kernel_rfl) (fun x=>by kernel_rfl)
def C5:Nat→Option aM:=fun|2=>some ⟨[(0,.val (.sl aU) (.sl (.sha [1]))),(1,.val (.int .i64) .leaf),(5,.val (.int .i64) .leaf)],3⟩|_=>none
def tI (k:Nat):List (FuncId×aF):=(94,⟨[.val (.sl aU) .shr,.val (.int .i64) .leaf],[.val (.int .i64) .leaf],oW k,[]⟩)::(rR k)
theorem Ep (k:Nat):ae Tryz.prog (tI k):=ae.ev ax mixed (De k) C5 nA k Tryz.func94 (by kernel_rfl) (fun x=>by kernel_rfl)
def zC:Nat→Option aM:=fun|2=>some ⟨[(0,.val (.sl aj) (.sl (.sha [1]))),(1,.val (.int .i64) .leaf),(5,.val (.int .i64) .leaf)],3⟩|_=>none
def qX (k:Nat):List (FuncId×aF):=(96,⟨[.val (.sl aj) .shr,.val (.int .i64) .leaf],[.val (.int .i64) .leaf],mg k,[]⟩)::(tI k)
theorem BD (k:Nat):ae Tryz.prog (qX k):=ae.ev ax mixed (Ep k) zC nA k Tryz.func96 (by kernel_rfl) (fun x=>by kernel_rfl)
def zj:Nat→Option aM:=fun|2=>some ⟨[(0,.val (.sl aC) (.sl (.sha [1]))),(1,.val (.int .i64) .leaf),(5,.val (.int .i64) .leaf)],3⟩|_=>none
def rq (k:Nat):List (FuncId×aF):=(97,⟨[.val (.sl aC) .shr,.val (.int .i64) .leaf],[.val (.int .i64) .leaf],mc k,[]⟩)::(qX k)
theorem Bi (k:Nat):ae Tryz.prog (rq k):=ae.ev ax mixed (BD k) zj nA k Tryz.func97 (by kernel_rfl) (fun x=>by kernel_rfl)
def Ae:Nat→Option aM:=fun|2=>some ⟨[(0,.val (.sl aN) (.sl (.sha [1]))),(1,.val (.int .i64) .leaf),(5,.val (.int .i64) .leaf)],3⟩|_=>none
def qP (k:Nat):List (FuncId×aF):=(98,⟨[.val (.sl aN) .shr,.val (.int .i64) .leaf],[.val (.int .i64) .leaf],ml k,[]⟩)::(rq k)
theorem BI (k:Nat):ae Tryz.prog (qP k):=ae.ev ax mixed (Bi k) Ae nA k Tryz.func98 (by kernel_rfl) (fun x=>by kernel_rfl)
def Dl:Nat→Option aM:=fun|2=>some ⟨[(0,.val (.sl (.int .i64)) (.sl (.sha [1]))),(1,.val (.int .i64) .leaf),(5,.val (.int .i64) .leaf)],3⟩|_=>none
def tH (k:Nat):List (FuncId×aF):=(186,⟨[.val (.sl (.int .i64)) .shr,.val (.int .i64) .leaf],[.val (.int .i64) .leaf],oG k,[]⟩)::(qP k)
theorem Et (k:Nat):ae Tryz.prog (tH k):=ae.ev ax mixed (BI k) Dl nA k Tryz.func186 (by kernel_rfl) (fun x=>by kernel_rfl)
def Bh:Nat→Option aM:=fun|2=>some ⟨[(0,.val (.sl ah) (.sl (.sha [1]))),(1,.val (.int .i64) .leaf),(5,.val (.int .i64) .leaf)],3⟩|_=>none
def sT (k:Nat):List (FuncId×aF):=(99,⟨[.val (.sl ah) .shr,.val (.int .i64) .leaf],[.val (.int .i64) .leaf],nE k,[]⟩)::(tH k)
theorem Dr (k:Nat):ae Tryz.prog (sT k):=ae.ev ax mixed (Et k) Bh nA k Tryz.func99 (by kernel_rfl) (fun x=>by kernel_rfl)
def Bk:Nat→Option aM:=fun|2=>some ⟨[(0,.val (.sl aq) (.sl (.sha [1]))),(1,.val (.int .i64) .leaf),(5,.val (.int .i64) .leaf)],3⟩|_=>none
def rU (k:Nat):List (FuncId×aF):=(100,⟨[.val (.sl aq) .shr,.val (.int .i64) .leaf],[.val (.int .i64) .leaf],nF k,[]⟩)::(sT k)
theorem DR (k:Nat):ae Tryz.prog (rU k):=ae.ev ax mixed (Dr k) Bk nA k Tryz.func100 (by kernel_rfl) (fun x=>by kernel_rfl)
def sr (k:Nat):List (FuncId×aF):=(21,⟨[.val aE (.pair (.pair .leaf (.pair .leaf q0)) (.pair .leaf (.pair .leaf (.pair .shr (.pair .shr (.pair .shr (.pair .leaf (.pair .shr (.pair .leaf (.pair .shr je)))))))))),.val (.int .i64) .leaf],[.val (.int .i64) .leaf],fV k,[]⟩)::(rU k)
theorem DL (k:Nat):ae Tryz.prog (sr k):=ae.ev ax mixed (DR k) nA nA k Tryz.func21 (by kernel_rfl) (fun x=>by kernel_rfl)
def zb (k:Nat):List (FuncId×aF):=(4,⟨[.val aE (.pair (.pair .leaf (.pair .leaf q0)) (.pair .leaf (.pair .leaf (.pair .shr (.pair .shr (.pair .shr (.pair .leaf (.pair .shr (.pair .leaf (.pair .shr je)))))))))),.val (.int .i64) .leaf],[.val .bool .leaf],j9 k,[]⟩)::(sr k)
theorem y0 (k:Nat):ae Tryz.prog (zb k):=ae.ld ax mixed (DL k) (CK k) nA nA k Tryz.func4 (by kernel_rfl) (fun x=>by kernel_rfl)
end Vg.Tryz
