/- Texts of this law, joined. -/
import Derived.Shelf.Strings.OnBuilder
import Derived.Test.YteoefigcipiffaaGreatF
import Derived.Test.YteoefigcipiffaaGreatProg
import Derived.Test.YteoefigcipiffaaGreatVc
import Derived.Deep.QuietTactic
import Derived.WalkKit
import Derived.Shelf.GgSortFunc.Lays
import Derived.Shelf.GgSortMore.Bridge
import Derived.Ground.GgtProg
import Derived.Test.YteoefigcipiffaaGreatVd
set_option linter.unusedSimpArgs false
set_option linter.unusedVariables false
namespace Go.Proofs
open Go.Shelf
def Tryz.Co:Go.Shelf.Ren:=⟨fun|156=>391|165=>396|166=>397|169=>398|240=>400|241=>401|276=>402|277=>403|n=>n,fun|31=>22|9=>9|3=>3|4=>4|0=>0|20=>20|72=>322|76=>325|70=>320|37=>204|75=>324|127=>328|164=>298|5=>5|80=>327|n=>n,fun|n=>n⟩
theorem Tryz.Pk:Go.Proofs.Lays.n156 Tryz.prog Tryz.Co:={
 mixed:=by kernel_rfl
 f156:=Tryz.func391.trans (congrArg some (by kernel_rfl))
 f165:=Tryz.func396.trans (congrArg some (by kernel_rfl))
 f166:=Tryz.func397.trans (congrArg some (by kernel_rfl))
 f169:=Tryz.func398.trans (congrArg some (by kernel_rfl))
 f240:=Tryz.func400.trans (congrArg some (by kernel_rfl))
 f241:=Tryz.func401.trans (congrArg some (by kernel_rfl))
 f276:=Tryz.func402.trans (congrArg some (by kernel_rfl))
 f277:=Tryz.func403.trans (congrArg some (by kernel_rfl))
 t0:=Tryz.underlying0
 a0:=Tryz.isAgg0
 z0:=Tryz.sizeOf0
 v0:=Tryz.zeroValue0
 t3:=Tryz.underlying3
 a3:=Tryz.isAgg3
 z3:=Tryz.sizeOf3
 v3:=Tryz.zeroValue3
 t4:=Tryz.underlying4
 a4:=Tryz.isAgg4
 z4:=Tryz.sizeOf4
 v4:=Tryz.zeroValue4
 t9:=Tryz.underlying9
 a9:=Tryz.isAgg9
 z9:=Tryz.sizeOf9
 v9:=Tryz.zeroValue9
 t20:=Tryz.underlying20
 a20:=Tryz.isAgg20
 z20:=Tryz.sizeOf20
 v20:=Tryz.zeroValue20
 t31:=Tryz.underlying22
 a31:=Tryz.isAgg22
 z31:=Tryz.sizeOf22
 v31:=Tryz.zeroValue22
 t37:=Tryz.underlying204
 a37:=Tryz.isAgg204
 z37:=Tryz.sizeOf204
 v37:=Tryz.zeroValue204
 t70:=Tryz.underlying320
 a70:=Tryz.isAgg320
 z70:=Tryz.sizeOf320
 v70:=Tryz.zeroValue320
 t72:=Tryz.underlying322
 a72:=Tryz.isAgg322
 z72:=Tryz.sizeOf322
 v72:=Tryz.zeroValue322
 t75:=Tryz.underlying324
 a75:=Tryz.isAgg324
 z75:=Tryz.sizeOf324
 v75:=Tryz.zeroValue324
 t76:=Tryz.underlying325
 a76:=Tryz.isAgg325
 z76:=Tryz.sizeOf325
 v76:=Tryz.zeroValue325
 t127:=Tryz.underlying328
 a127:=Tryz.isAgg328
 z127:=Tryz.sizeOf328
 v127:=Tryz.zeroValue328
 t164:=Tryz.underlying298
 a164:=Tryz.isAgg298
 z164:=Tryz.sizeOf298
 v164:=Tryz.zeroValue298}
theorem Tryz.qR:Builder.Extra Tryz.prog Tryz.Co:={
 sizeBuilder:=by kernel_rfl
 liesBuilder:=by kernel_rfl
 t5:=Tryz.underlying5
 a5:=Tryz.isAgg5
 z5:=Tryz.sizeOf5
 v5:=Tryz.zeroValue5
 infoByte:=by kernel_rfl
 cellsByte:=by kernel_rfl
 sizeByte:=by kernel_rfl
 neB5:=by decide}
open Go.RowKit in
theorem Tryz.strings_Join_none (a:Option Addr) (c:Nat) (sep:ByteArray) (w:World):
 Calls Tryz.prog 391 #[.slice a 0 c,.string sep] w fun e w'=>e= .returned (.string ⟨#[]⟩)∧w'=w:=Any.strings_Join_none Tryz.Pk Tryz.qR a c sep w
open Go.RowKit in
theorem Tryz.strings_Join (bk o c:Nat) (xs:List ByteArray) (sep:ByteArray) (w:World) (hcells:∀(j:Nat) x,xs[j]?=some x→w.cell? ⟨bk,o+j,none⟩=some (.string x)) (hbk:bk<w.heap.size) (hN:xs.length≤140737488355328) (hcap:xs.length≤c) (hlen:(Lib.join (xs.map (·.data.toList)) sep.data.toList).length≤140737488355328):
 Calls Tryz.prog 391 #[.slice (some ⟨bk,o,none⟩) xs.length c,.string sep] w fun e w'=>e= .returned (.string ⟨(Lib.join (xs.map (·.data.toList)) sep.data.toList).toArray⟩)∧Below w.heap.size w w':=Any.strings_Join Tryz.Pk Tryz.qR bk o c xs sep w hcells hbk hN hcap hlen
def Tryz.NB:Go.Shelf.Ren:=⟨fun|26=>388|n=>n,fun|44=>306|3=>3|0=>0|4=>4|26=>281|37=>217|n=>n,fun|n=>n⟩
theorem Tryz.Se:Go.Proofs.LaysGg.n26 Tryz.prog Tryz.NB:={
 mixed:=by kernel_rfl
 f26:=Tryz.func388.trans (congrArg some (by kernel_rfl))
 t0:=Tryz.underlying0
 a0:=Tryz.isAgg0
 z0:=Tryz.sizeOf0
 v0:=Tryz.zeroValue0
 i0:=by kernel_rfl
 t3:=Tryz.underlying3
 a3:=Tryz.isAgg3
 z3:=Tryz.sizeOf3
 v3:=Tryz.zeroValue3
 i3:=by kernel_rfl
 t4:=Tryz.underlying4
 a4:=Tryz.isAgg4
 z4:=Tryz.sizeOf4
 v4:=Tryz.zeroValue4
 i4:=by kernel_rfl
 t26:=Tryz.underlying281
 a26:=Tryz.isAgg281
 z26:=Tryz.sizeOf281
 v26:=Tryz.zeroValue281
 i26:=by kernel_rfl
 t37:=Tryz.underlying217
 a37:=Tryz.isAgg217
 z37:=Tryz.sizeOf217
 v37:=Tryz.zeroValue217
 i37:=by kernel_rfl
 t44:=Tryz.underlying306
 a44:=Tryz.isAgg306
 z44:=Tryz.sizeOf306
 v44:=Tryz.zeroValue306
 i44:=by kernel_rfl}
open Go.RowKit Go.Lib Go.Sort in
open Go.RowKit Go.Lib Go.Sort in
open Go.RowKit Go.Lib Go.Sort in
open Go.RowKit Go.Lib Go.Sort in
open Go.RowKit Go.Lib Go.Sort in
open Go.RowKit Go.Lib Go.Sort in
open Go.RowKit Go.Lib Go.Sort in
open Go.RowKit Go.Lib Go.Sort in
open Go.RowKit Go.Lib Go.Sort in
theorem Tryz.insertionSort_func_cells_w {α:Type} [Inhabited α] (enc:α→List Value) (k:Nat) (hk:∀x,(enc x).length=k) (lt:α→α→Bool) (g:Nat) (lb:Array Value) (sf:Nat) (sb:Array Value) (blk off a b:Nat) (d:Array α) (w:World) (eg:∀args w,(callFunc g args).run Tryz.prog w= .ok (.enter g args) w) (hless:LessReadsK Tryz.prog g lb enc k lt blk off d.size w) (hswap:SwapSwapsK Tryz.prog sf sb enc k blk off d.size) (hH:HoldsK enc k w blk off d) (hblk:blk<w.heap.size) (hab:a≤b) (hb:b≤d.size) (hsz:d.size<4611686018427387904):
 Calls Tryz.prog 388 #[.agg #[.func (.func g) #[] lb,.func (.func sf) #[] sb],.int .i64 a,.int .i64 b] w fun e w'=>e= .returned (.tuple #[])∧∃n os,w'=sortWorldK enc k w blk off n (Sort.insertionSort lt d a b) os:=Any.insertionSort_func_cells_w Tryz.Se enc k hk lt g lb sf sb blk off a b d w eg hless hswap hH hblk hab hb hsz
end Go.Proofs
namespace Vg.Tryz
open Go Vg Go.Proofs
def vV (k:Nat):aF:=⟨[.val (.sl .str) .shr,.val .str .leaf],[.val .str .leaf],pL k,[]⟩
set_option maxRecDepth 1000000 in
theorem JK (k:Nat):oq Tryz.prog 391 (vV k):=P5 Tryz.func391 (by kernel_rfl) (by kernel_rfl) Tryz.strings_Join_none Tryz.strings_Join
end Vg.Tryz
namespace Go.Proofs
open Go.RowKit
def O5:Value→Int| .int _ q=>q|_=>0
set_option maxHeartbeats 4000000 in
set_option maxRecDepth 100000 in
theorem Tryz.Mh (pa pb:Option Addr) (ca cb:Nat) (a b:List (ByteArray×ByteArray)) (W:World) (la:a.length<4611686018427387904) (lb:b.length<4611686018427387904)
 (ha:∀i,i<a.length→∃bk o,pa=some ⟨bk,o,none⟩∧W.cell? ⟨bk,o+i*2,none⟩=some (.string (a.getD i (ByteArray.empty,ByteArray.empty)).1)∧W.cell? ⟨bk,o+i*2+1,none⟩=some (.string (a.getD i (ByteArray.empty,ByteArray.empty)).2))
 (hb:∀i,i<b.length→∃bk o,pb=some ⟨bk,o,none⟩∧W.cell? ⟨bk,o+i*2,none⟩=some (.string (b.getD i (ByteArray.empty,ByteArray.empty)).1)∧W.cell? ⟨bk,o+i*2+1,none⟩=some (.string (b.getD i (ByteArray.empty,ByteArray.empty)).2)):
 Calls Tryz.prog 341 #[.slice pa a.length ca,.slice pb b.length cb] W fun e w'=>e= .returned (.bool (Vg.bV a b))∧∃q,w'=W.drewN q:=by
 go_enter Tryz.func341,Tryz.ntmps341
 go_wp2
 go_loopw [5] (fun vi wr=>∃(t q:Nat),vi= .int .i64 (t:Int)∧t≤a.length∧t≤b.length∧wr=W.drewN q∧Vg.bV a b=Vg.bV (a.drop t) (b.drop t)) (fun vi _=>a.length+1-(O5 vi).toNat)
 case atStart=>exact⟨0,0,rfl,by omega,by omega,rfl,rfl⟩
 case round=>
  obtain⟨t,q,rfl,ht1,ht2,hw,hR⟩:=hrel
  by_cases hin:t<a.length∧t<b.length
  ·obtain⟨hi1,hi2⟩:=hin
   obtain⟨ba,oa,ea,a1,a2⟩:=ha t hi1
   obtain⟨bb,ob,eb,b1,b2⟩:=hb t hi2
   have c1:wr.cell? ⟨ba,oa+t*2,none⟩=some (.string (a.getD t (ByteArray.empty,ByteArray.empty)).1):=by rw[hw];exact a1
   have c2:wr.cell? ⟨ba,oa+t*2+1,none⟩=some (.string (a.getD t (ByteArray.empty,ByteArray.empty)).2):=by rw[hw];exact a2
   have c3:wr.cell? ⟨bb,ob+t*2,none⟩=some (.string (b.getD t (ByteArray.empty,ByteArray.empty)).1):=by rw[hw];exact b1
   have c4:wr.cell? ⟨bb,ob+t*2+1,none⟩=some (.string (b.getD t (ByteArray.empty,ByteArray.empty)).2):=by rw[hw];exact b2
   have hs:Vg.bV (a.drop t) (b.drop t)=if(a.getD t (ByteArray.empty,ByteArray.empty)).1.toList==(b.getD t (ByteArray.empty,ByteArray.empty)).1.toList then(if(a.getD t (ByteArray.empty,ByteArray.empty)).2.toList==(b.getD t (ByteArray.empty,ByteArray.empty)).2.toList then Vg.bV (a.drop (t+1)) (b.drop (t+1))else Vg.ly (a.getD t (ByteArray.empty,ByteArray.empty)).2 (b.getD t (ByteArray.empty,ByteArray.empty)).2)else Vg.ly (a.getD t (ByteArray.empty,ByteArray.empty)).1 (b.getD t (ByteArray.empty,ByteArray.empty)).1:=by
    rw[List.drop_eq_getElem_cons hi1,List.drop_eq_getElem_cons hi2]
    simp only[Vg.bV,List.getD_eq_getElem?_getD,List.getElem?_eq_getElem hi1,List.getElem?_eq_getElem hi2,Option.getD_some]
   generalize (a.getD t (ByteArray.empty,ByteArray.empty)).1=x1 at c1 hs
   generalize (a.getD t (ByteArray.empty,ByteArray.empty)).2=x2 at c2 hs
   generalize (b.getD t (ByteArray.empty,ByteArray.empty)).1=y1 at c3 hs
   generalize (b.getD t (ByteArray.empty,ByteArray.empty)).2=y2 at c4 hs
   subst ea eb
   have HW:Hid (wr=W.drewN q):=hw
   have HR:Hid (Vg.bV a b=Vg.bV (a.drop t) (b.drop t)):=hR
   have HS:Hid (_=_):=hs
   clear hw hR hs ha hb a1 a2 b1 b2
   go_wp2
   go_quiet (fail)
   go_wp2
   ·have hne:(!x1.toList==y1.toList)=true:=by assumption
    go_quiet (fail)
    go_wp2
    go_ret
    have hv:Vg.bV a b=Op.bytesLess x1.toList y1.toList:=by
     rw[HR.out,HS.out,if_neg (by simpa using hne)];rfl
    refine⟨?_,_,by rw[HW.out,World.drewN_drewN,World.drewN_drewN]⟩
    rw[hv];rfl
   ·have hne:(!x1.toList==y1.toList)=false:=by assumption
    go_quiet (fail)
    go_wp2
    ·have hne2:(!x2.toList==y2.toList)=true:=by assumption
     go_quiet (fail)
     go_wp2
     go_ret
     have hv:Vg.bV a b=Op.bytesLess x2.toList y2.toList:=by
      rw[HR.out,HS.out,if_pos (by simpa using hne),if_neg (by simpa using hne2)];rfl
     refine⟨?_,_,by rw[HW.out,World.drewN_drewN,World.drewN_drewN,World.drewN_drewN]⟩
     rw[hv];rfl
    ·have hne2:(!x2.toList==y2.toList)=false:=by assumption
     refine⟨⟨t+1,_,by congr 1,by omega,by omega,by rw[HW.out,World.drewN_drewN],?_⟩,?_⟩
     ·rw[HR.out,HS.out,if_pos (by simpa using hne),if_pos (by simpa using hne2)]
     ·simp[O5];omega
  ·have hv:Vg.bV a b=decide (a.length<b.length):=by
    rw[hR]
    by_cases h1:t<a.length
    ·have h2:t=b.length:=by omega
     subst h2
     rw[List.drop_length,List.drop_eq_getElem_cons h1]
     simp only[Vg.bV]
     rw[decide_eq_false (by omega)]
    ·have h2:t=a.length:=by omega
     subst h2
     rw[List.drop_length]
     cases hd:b.drop a.length with
     |nil=>
      have:=congrArg List.length hd
      simp only[List.length_drop,List.length_nil]at this
      simp only[Vg.bV,List.isEmpty_nil,Bool.not_true]
      rw[decide_eq_false (by omega)]
     |cons z zs=>
      have:=congrArg List.length hd
      simp only[List.length_drop,List.length_cons]at this
      simp only[Vg.bV,List.isEmpty_cons,Bool.not_false]
      rw[decide_eq_true (by omega)]
   have HW:Hid (wr=W.drewN q):=hw
   have HV:Hid (_=_):=hv
   clear hw hR hv ha hb
   by_cases h1:t<a.length
   ·have h2:¬t<b.length:=fun h=>hin ⟨h1,h⟩
    clear hin
    go_wp2
    go_ret
    refine⟨?_,_,HW.out⟩
    rw[HV.out];rfl
   ·clear hin
    go_wp2
    go_ret
    refine⟨?_,_,HW.out⟩
    rw[HV.out];rfl
set_option maxHeartbeats 4000000 in
set_option maxRecDepth 100000 in
theorem Tryz.LZ (blk off c Bs n:Nat) (W:World) (i j:Nat) (hi:i<n) (hj:j<n) (hn:n<4611686018427387904) (va vb:Value) (r:Bool)
 (hs:W.cell? ⟨Bs,0,none⟩=some (.slice (some ⟨blk,off,none⟩) n c)) (hva:W.cell? ⟨blk,off+i*4,none⟩=some va) (hvb:W.cell? ⟨blk,off+j*4,none⟩=some vb)
 (hc:∀q,Calls Tryz.prog 341 #[va,vb] (W.drewN q) fun e w'=>e= .returned (.bool r)∧∃m,w'=(W.drewN q).drewN m):
 Calls Tryz.prog 340 #[.int .i64 i,.int .i64 j,.pointer (some ⟨Bs,0,none⟩)] W fun e w'=>e= .returned (.bool r)∧∃q,w'=W.drewN q:=by
 have HC:Hid (∀q,Calls Tryz.prog 341 #[va,vb] (W.drewN q) fun e w'=>e= .returned (.bool r)∧∃m,w'=(W.drewN q).drewN m):=hc
 clear hc
 go_enter Tryz.func340,Tryz.ntmps340
 go_wp2
 go_quiet (first|(go_at_call 341;refine Calls.quiet_of (HC.out _)))
 go_wp2
 go_ret
 trace_state
 exact⟨rfl,nq,rfl⟩
end Go.Proofs
namespace Go.Proofs
open Go.Shelf
def Tryz.Tv:Go.Shelf.Ren:=⟨fun|8=>339|13=>365|14=>366|16=>368|15=>367|29=>388|30=>389|42=>393|49=>399|n=>n,fun|20=>20|26=>281|36=>301|0=>0|38=>217|42=>306|3=>3|4=>4|47=>296|17=>17|33=>298|34=>299|89=>342|12=>12|56=>318|82=>336|5=>5|83=>337|84=>338|85=>328|86=>339|87=>340|n=>n,fun|n=>n⟩
theorem Tryz.UZ:Go.Proofs.LaysGt.n8 Tryz.prog Tryz.Tv:={
 mixed:=by kernel_rfl
 f8:=Tryz.func339.trans (congrArg some (by kernel_rfl))
 f13:=Tryz.func365.trans (congrArg some (by kernel_rfl))
 f14:=Tryz.func366.trans (congrArg some (by kernel_rfl))
 f15:=Tryz.func367.trans (congrArg some (by kernel_rfl))
 f16:=Tryz.func368.trans (congrArg some (by kernel_rfl))
 f29:=Tryz.func388.trans (congrArg some (by kernel_rfl))
 f30:=Tryz.func389.trans (congrArg some (by kernel_rfl))
 f42:=Tryz.func393.trans (congrArg some (by kernel_rfl))
 f49:=Tryz.func399.trans (congrArg some (by kernel_rfl))
 t0:=Tryz.underlying0
 a0:=Tryz.isAgg0
 z0:=Tryz.sizeOf0
 v0:=Tryz.zeroValue0
 i0:=by kernel_rfl
 t3:=Tryz.underlying3
 a3:=Tryz.isAgg3
 z3:=Tryz.sizeOf3
 v3:=Tryz.zeroValue3
 i3:=by kernel_rfl
 t4:=Tryz.underlying4
 a4:=Tryz.isAgg4
 z4:=Tryz.sizeOf4
 v4:=Tryz.zeroValue4
 i4:=by kernel_rfl
 t5:=Tryz.underlying5
 a5:=Tryz.isAgg5
 z5:=Tryz.sizeOf5
 v5:=Tryz.zeroValue5
 i5:=by kernel_rfl
 t12:=Tryz.underlying12
 a12:=Tryz.isAgg12
 z12:=Tryz.sizeOf12
 v12:=Tryz.zeroValue12
 i12:=by kernel_rfl
 t17:=Tryz.underlying17
 a17:=Tryz.isAgg17
 z17:=Tryz.sizeOf17
 v17:=Tryz.zeroValue17
 i17:=by kernel_rfl
 t20:=Tryz.underlying20
 a20:=Tryz.isAgg20
 z20:=Tryz.sizeOf20
 v20:=Tryz.zeroValue20
 i20:=by kernel_rfl
 t26:=Tryz.underlying281
 a26:=Tryz.isAgg281
 z26:=Tryz.sizeOf281
 v26:=Tryz.zeroValue281
 i26:=by kernel_rfl
 t33:=Tryz.underlying298
 a33:=Tryz.isAgg298
 z33:=Tryz.sizeOf298
 v33:=Tryz.zeroValue298
 i33:=by kernel_rfl
 t34:=Tryz.underlying299
 a34:=Tryz.isAgg299
 z34:=Tryz.sizeOf299
 v34:=Tryz.zeroValue299
 i34:=by kernel_rfl
 t36:=Tryz.underlying301
 a36:=Tryz.isAgg301
 z36:=Tryz.sizeOf301
 v36:=Tryz.zeroValue301
 i36:=by kernel_rfl
 t38:=Tryz.underlying217
 a38:=Tryz.isAgg217
 z38:=Tryz.sizeOf217
 v38:=Tryz.zeroValue217
 i38:=by kernel_rfl
 t42:=Tryz.underlying306
 a42:=Tryz.isAgg306
 z42:=Tryz.sizeOf306
 v42:=Tryz.zeroValue306
 i42:=by kernel_rfl
 t47:=Tryz.underlying296
 a47:=Tryz.isAgg296
 z47:=Tryz.sizeOf296
 v47:=Tryz.zeroValue296
 i47:=by kernel_rfl
 t56:=Tryz.underlying318
 a56:=Tryz.isAgg318
 z56:=Tryz.sizeOf318
 v56:=Tryz.zeroValue318
 i56:=by kernel_rfl
 t82:=Tryz.underlying336
 a82:=Tryz.isAgg336
 z82:=Tryz.sizeOf336
 v82:=Tryz.zeroValue336
 i82:=by kernel_rfl
 t83:=Tryz.underlying337
 a83:=Tryz.isAgg337
 z83:=Tryz.sizeOf337
 v83:=Tryz.zeroValue337
 i83:=by kernel_rfl
 t84:=Tryz.underlying338
 a84:=Tryz.isAgg338
 z84:=Tryz.sizeOf338
 v84:=Tryz.zeroValue338
 i84:=by kernel_rfl
 t85:=Tryz.underlying328
 a85:=Tryz.isAgg328
 z85:=Tryz.sizeOf328
 v85:=Tryz.zeroValue328
 i85:=by kernel_rfl
 t86:=Tryz.underlying339
 a86:=Tryz.isAgg339
 z86:=Tryz.sizeOf339
 v86:=Tryz.zeroValue339
 i86:=by kernel_rfl
 t87:=Tryz.underlying340
 a87:=Tryz.isAgg340
 z87:=Tryz.sizeOf340
 v87:=Tryz.zeroValue340
 i87:=by kernel_rfl
 t89:=Tryz.underlying342
 a89:=Tryz.isAgg342
 z89:=Tryz.sizeOf342
 v89:=Tryz.zeroValue342
 i89:=by kernel_rfl}
end Go.Proofs
namespace Go.Proofs
open Go.Shelf Go.RowKit Go.Lib Go.Sort
noncomputable def Tryz.U2:TypeInfo:=(Tryz.prog.info? 40).get (by kernel_rfl)
noncomputable def Tryz.RY:TypeInfo:=(Tryz.prog.info? 67).get (by kernel_rfl)
theorem Tryz.Vf (n:Nat) (h2:2≤n) (ke:Nat):Lib.swapperK n Tryz.RY ke=Lib.swapperK 2 Tryz.RY ke:=by
 have c:(n==0)=false:=by simp;omega
 have d:(n==1)=false:=by simp;omega
 simp[Lib.swapperK,c,d]
set_option maxHeartbeats 4000000 in
set_option maxRecDepth 100000 in
theorem Tryz.N2 {α:Type} [Inhabited α] (enc:α→List Value) (hk:∀x,(enc x).length=4) (h1:∀x,∀v∈enc x,v.oneCell'=true) (lab:α→List (ByteArray×ByteArray)) (blk off c:Nat) (d:Array α) (w:World)
 (h2:2≤d.size) (h20:d.size<20) (hH:HoldsK enc 4 w blk off d) (hblk:blk<w.heap.size) (hlab:JM enc lab blk w):
 Calls Tryz.prog 284 #[.slice (some ⟨blk,off,none⟩) d.size c] w fun e w'=>
  e= .returned (.slice (some ⟨blk,off,none⟩) d.size c)∧∃n os,w'=grow (putRowK enc 4 (Sort.ahead w n) blk off (Sort.insertionSort (fun x y=>Vg.bV (lab x) (lab y)) d 0 d.size)) os:=by
 have hW1:w.alloc (.cells #[.slice (some ⟨blk,off,none⟩) d.size c] 40)=grow w #[.cells #[.slice (some ⟨blk,off,none⟩) d.size c] 40]:=alloc_eq_grow _ _
 have hH1:HoldsK enc 4 (w.alloc (.cells #[.slice (some ⟨blk,off,none⟩) d.size c] 40)) blk off d:=by rw[hW1];exact holdsK_grow enc 4 w _ blk off d hblk hH
 have hb1:blk<(w.alloc (.cells #[.slice (some ⟨blk,off,none⟩) d.size c] 40)).heap.size:=by rw[hW1,size_grow];omega
 have hbox:∀m os (dk:Array α),(sortWorldK enc 4 (w.alloc (.cells #[.slice (some ⟨blk,off,none⟩) d.size c] 40)) blk off m dk os).cell? ⟨w.heap.size,0,none⟩=some (.slice (some ⟨blk,off,none⟩) d.size c):=by
  intro m os dk
  rw[cell?_sortWorldK_other enc 4 _ blk off m dk os _ (by show w.heap.size≠blk;omega) (by show w.heap.size<_;rw[hW1,size_grow];simp)]
  simp
 have hless:LessReadsK Tryz.prog 340 #[.pointer (some ⟨w.heap.size,0,none⟩)] enc 4 (fun x y=>Vg.bV (lab x) (lab y)) blk off d.size (w.alloc (.cells #[.slice (some ⟨blk,off,none⟩) d.size c] 40)):=by
  intro m os dk hs i j hi hj
  have hcell:∀x:Nat,x<d.size→∀v,(enc dk[x]!)[0]?=some v→(sortWorldK enc 4 (w.alloc (.cells #[.slice (some ⟨blk,off,none⟩) d.size c] 40)) blk off m dk os).cell? ⟨blk,off+x*4,none⟩=some v:=by
   intro x hx v hv
   have hh:=holdsK_sortWorldK enc 4 _ blk off m d dk os hb1 hH1 hs
   have:=(hh.cell (i:=x) (c:=0) (by omega) (by omega)).1
   rw[Nat.add_zero]at this
   rw[this]
   simp[hv]
  have hl:∀(x:α) (q:Nat),∃p c',(enc x)[0]?=some (.slice p (lab x).length c')∧(lab x).length<4611686018427387904∧
   ∀i,i<(lab x).length→∃bk o,p=some ⟨bk,o,none⟩∧((sortWorldK enc 4 (w.alloc (.cells #[.slice (some ⟨blk,off,none⟩) d.size c] 40)) blk off m dk os).drewN q).cell? ⟨bk,o+i*2,none⟩=some (.string ((lab x).getD i (ByteArray.empty,ByteArray.empty)).1)∧
    ((sortWorldK enc 4 (w.alloc (.cells #[.slice (some ⟨blk,off,none⟩) d.size c] 40)) blk off m dk os).drewN q).cell? ⟨bk,o+i*2+1,none⟩=some (.string ((lab x).getD i (ByteArray.empty,ByteArray.empty)).2):=by
   intro x q
   obtain⟨p,c',e1,e2,e3⟩:=hlab x
   refine⟨p,c',e1,e2,fun i hi=> ?_⟩
   obtain⟨bk,o,q1,q2,q3,q4,q5⟩:=e3 i hi
   have ho:∀o',((sortWorldK enc 4 (w.alloc (.cells #[.slice (some ⟨blk,off,none⟩) d.size c] 40)) blk off m dk os).drewN q).cell? ⟨bk,o',none⟩=w.cell? ⟨bk,o',none⟩:=by
    intro o'
    show(sortWorldK enc 4 (w.alloc (.cells #[.slice (some ⟨blk,off,none⟩) d.size c] 40)) blk off m dk os).cell? ⟨bk,o',none⟩=_
    rw[cell?_sortWorldK_other enc 4 _ blk off m dk os _ q2 (by show bk<_;rw[hW1,size_grow];omega),hW1,cell?_grow _ _ _ q3]
   exact⟨bk,o,q1,by rw[ho];exact q4,by rw[ho];exact q5⟩
  obtain⟨pa,ca,a1,a2,_⟩:=hl dk[i]! 0
  obtain⟨pb,cb,b1,b2,_⟩:=hl dk[j]! 0
  refine Tryz.LZ blk off c w.heap.size d.size _ i j hi hj (by omega) _ _ _ (hbox m os dk) (hcell i hi _ a1) (hcell j hj _ b1) (fun q=> ?_)
  obtain⟨pa',ca',a1',_,a3⟩:=hl dk[i]! q
  obtain⟨pb',cb',b1',_,b3⟩:=hl dk[j]! q
  rw[a1]at a1';rw[b1]at b1'
  cases a1';cases b1'
  exact Tryz.Mh pa pb ca cb _ _ _ a2 b2 a3 b3
 have hS:=BG Tryz.UZ (i:=Tryz.U2) (ie:=Tryz.RY) (t:=40) (e:=67) (by kernel_rfl) (by kernel_rfl) (by kernel_rfl) (by kernel_rfl) (ke:=25) (fun _=>by kernel_rfl) hk (by kernel_rfl) (fun _=>by kernel_rfl) h1
  (fun x y=>Vg.bV (lab x) (lab y)) (g:=340) (enters_of Tryz.func340 (by kernel_rfl) rfl) (c:=c) h2 h20 (f:=387) (by rw[Tryz.Vf _ h2];kernel_rfl) false
  (fun args W=>run_callFunc_extern (f:=387) Tryz.func387 (by kernel_rfl) (by kernel_rfl) (by kernel_rfl) (e:=Extern.ReflectliteSwapper.swap false) (by kernel_rfl) args W) hless hH1 hb1
 change Calls Tryz.prog 339 _ _ _ at hS
 have HB:Hid (∀m os (dk:Array α),(sortWorldK enc 4 (w.alloc (.cells #[.slice (some ⟨blk,off,none⟩) d.size c] 40)) blk off m dk os).cell? ⟨w.heap.size,0,none⟩=some (.slice (some ⟨blk,off,none⟩) d.size c)):=hbox
 clear hless hH1 hH hlab hbox hW1 hb1
 go_enter Tryz.func284,Tryz.ntmps284
 go_wp2_with (go_at_call 339;refine hS.mono ?_;rintro e w1 ⟨rfl,n,os,hw⟩;have hcell:w1.cell? ⟨w.heap.size,0,none⟩=some (.slice (some ⟨blk,off,none⟩) d.size c):=(by rw[hw];exact HB.out n os _);have HW:Hid (w1=_):=hw;clear hw)
 go_ret
 exact⟨rfl,n,_,by rw[HW.out,alloc_eq_grow,ahead_grow,putRowK_grow enc 4 (Sort.ahead w n) _ blk off _ hblk,grow_grow]⟩
set_option maxHeartbeats 4000000 in
set_option maxRecDepth 100000 in
theorem Tryz.Lm (p:Option Addr) (n c:Nat) (h1:n≤1) (w:World):
 Calls Tryz.prog 284 #[.slice p n c] w fun e w'=>e= .returned (.slice p n c)∧∃os,w'=grow w os:=by
 have hS:=fun W f hf=>Any.sort_SliceStable_tiny Tryz.UZ 40 67 Tryz.U2 Tryz.RY (by kernel_rfl) (by kernel_rfl) (by kernel_rfl) (by kernel_rfl) 25 (fun _=>by kernel_rfl) p n c h1 f hf (.func 340) #[] #[.pointer (some ⟨w.heap.size,0,none⟩)] W
 obtain⟨f,hf⟩:∃f,Tryz.prog.funcs.findIdx? (·.name== "internal/reflectlite" ++ ".Swapper$" ++toString (swapperK n Tryz.RY 25))=some f:=by
  rcases Nat.eq_zero_or_pos n with h|h
  ·subst h;exact⟨379,by kernel_rfl⟩
  ·obtain rfl:n=1:=by omega
   exact⟨380,by kernel_rfl⟩
 have hS2:=fun W=>hS W f hf
 change∀W,Calls Tryz.prog 339 _ W _ at hS2
 clear hS
 have HB:Hid (∀os,(grow (w.alloc (.cells #[.slice p n c] 40)) os).cell? ⟨w.heap.size,0,none⟩=some (.slice p n c)):=by
  intro os
  rw[cell?_grow _ _ _ (by show w.heap.size<_;rw[alloc_eq_grow,size_grow];simp)]
  simp
 go_enter Tryz.func284,Tryz.ntmps284
 go_wp2_with (go_at_call 339;refine(hS2 _).mono ?_;rintro e w1 ⟨rfl,os,hw⟩;have hcell:w1.cell? ⟨w.heap.size,0,none⟩=some (.slice p n c):=(by rw[hw];exact HB.out os);have HW:Hid (w1=_):=hw;clear hw)
 go_ret
 exact⟨rfl,_,by rw[HW.out,alloc_eq_grow,grow_grow]⟩
end Go.Proofs
namespace Vg.Tryz
open Go Vg Go.Proofs
def uy (k:Nat):aF:=⟨[.val (.sl ab) .own],[.val (.sl ab) .own],kD k,[]⟩
set_option maxRecDepth 1000000 in
theorem GY (k:Nat):oq Tryz.prog 284 (uy k):=OG Tryz.func284 (by kernel_rfl) (by kernel_rfl) Tryz.Lm Tryz.N2
end Vg.Tryz
namespace Vg.Tryz
open Go Vg Go.Proofs
set_option linter.unusedVariables false
def TT:List (Nat×TI):=[(3,⟨(.int .i64),[],0⟩),(4,⟨.bool,[],0⟩),(5,⟨(.int .u8),[],0⟩),(9,⟨.str,[],0⟩),(22,⟨(.sl .str),[],9⟩),(24,⟨bC,[3,3,3,3,3,22],0⟩),(25,⟨(.sl aq),[],137⟩),(26,⟨(.sl aU),[],140⟩),(27,⟨(.sl ab),[],63⟩),(28,⟨(.sl al),[],143⟩),(29,⟨(.sl aC),[],167⟩),(30,⟨(.sl aN),[],146⟩),(31,⟨(.sl ah),[],149⟩),(32,⟨(.sl ak),[],152⟩),(34,⟨aE,[24,3,3,25,26,27,3,28,3,29,30,27,31,32],0⟩),(37,⟨bC,[3,3,3,3,3,22],0⟩),(38,⟨(.sl aq),[],156⟩),(39,⟨(.sl aU),[],159⟩),(40,⟨(.sl ab),[],67⟩),(41,⟨(.sl al),[],162⟩),(42,⟨(.sl aC),[],165⟩),(43,⟨(.sl aN),[],169⟩),(44,⟨(.sl ah),[],108⟩),(45,⟨(.sl ak),[],173⟩),(47,⟨aE,[37,3,3,38,39,40,3,41,3,42,43,40,44,45],0⟩),(54,⟨(.sl af),[],121⟩),(57,⟨(.sl af),[],123⟩),(63,⟨ab,[54,3,3,9],0⟩),(67,⟨ab,[57,3,3,9],0⟩),(106,⟨(.sl (.int .i64)),[],3⟩),(108,⟨ah,[3,3,67,57,3,106,40,3,3],0⟩),(121,⟨af,[9,9],0⟩),(123,⟨af,[9,9],0⟩),(135,⟨(.sl ay),[],272⟩),(137,⟨aq,[3,3,135],0⟩),(140,⟨aU,[27,4],0⟩),(143,⟨al,[3,54,3,3,27],0⟩),(146,⟨aN,[3,54,3,27],0⟩),(149,⟨ah,[3,3,63,54,3,106,27,3,3],0⟩),(152,⟨ak,[3,3,63,54,3,3,3,27,3,3,3,3],0⟩),(154,⟨(.sl ay),[],253⟩),(156,⟨aq,[3,3,154],0⟩),(159,⟨aU,[40,4],0⟩),(162,⟨al,[3,57,3,3,40],0⟩),(165,⟨aC,[3,3],0⟩),(167,⟨aC,[3,3],0⟩),(169,⟨aN,[3,57,3,40],0⟩),(173,⟨ak,[3,3,67,57,3,3,3,40,3,3,3,3],0⟩),(204,⟨(.sl (.int .u8)),[],5⟩),(253,⟨ay,[3,40],0⟩),(272,⟨ay,[3,27],0⟩),(296,⟨(.int .u64),[],0⟩),(318,⟨(.int .u32),[],0⟩)]
theorem ax:TT.all (fun p=>EK Tryz.prog p.1 p.2)=true:=by kernel_rfl
theorem mixed:Tryz.prog.follows .mixedOrders=true:=by kernel_rfl
set_option maxRecDepth 1000000
def nA:Nat→Option aL:=fun _=>none
def q0:Pt:=(.pair .leaf (.pair .leaf (.pair .leaf .shr)))
def q1:Pt:=(.pair .leaf q0)
def q2:Pt:=(.pair .leaf q1)
def q3:Pt:=(.pair .shr (.pair .leaf (.pair .leaf .leaf)))
def q4:Pt:=(.pair .shr (.pair .leaf (.pair .leaf .shr)))
def q5:Pt:=(.pair .leaf q4)
def q6:Pt:=(.pair .leaf (.pair .shr (.pair .leaf .shr)))
def q7:Pt:=(.pair .shr (.pair .shr (.pair .leaf .leaf)))
def q8:Pt:=(.pair .leaf q7)
def q9:Pt:=(.pair .shr q8)
def MF:Pt:=(.pair q3 q9)
def U0:Pt:=(.pair .leaf MF)
def uf:Pt:=(.pair .leaf (.pair .leaf (.pair .leaf .leaf)))
def jc:Pt:=(.pair .shr (.pair .shr (.pair .shr .shr)))
def vg:Pt:=(.pair .leaf (.pair .leaf (.pair .leaf .own)))
def sU:Pt:=(.pair .own (.pair .leaf (.pair .leaf .leaf)))
def Uo:Pt:=(.pair .own (.pair .leaf (.pair .leaf .own)))
def T0:Pt:=(.pair .leaf (.pair .own (.pair .leaf .own)))
def UD:Pt:=(.pair .own (.pair .own (.pair .leaf .leaf)))
def Cd:Pt:=(.pair .own (.pair .own (.pair .own .own)))
def cP:Sh:=(.pair .leaf (.pair .leaf (.sl (.sha [1]))))
def yc:Sh:=(.pair .leaf (.pair .leaf (.sl (.sha []))))
def Ck:Sh:=(.pair .leaf (.pair .leaf (.sl (.row 6 [6] true))))
def dg:Sh:=(.pair (.sl (.sha [1])) (.sl (.sha [1])))
def Ct:Sh:=(.pair (.sl (.sha [])) (.pair (.sl (.sha [])) (.sl (.sha []))))
def Ue:Sh:=(.pair (.sl (.row 14 [14] true)) (.sl (.sha [1])))
def T6:Sh:=(.pair (.sl (.row 5 [5] true)) (.pair .leaf (.pair .leaf .leaf)))
def qK:Sh:=(.pair (.sl (.sha [1])) (.pair .leaf (.pair .leaf .leaf)))
def u7:Sh:=(.pair (.sl (.sha [1])) (.pair .leaf .leaf))
def T3:Sh:=(.pair (.sl (.sha [1,2])) (.pair .leaf (.pair .leaf .leaf)))
def HG:Sh:=(.pair .leaf (.pair .leaf (.sl (.sha [1,2]))))
def Ar:Sh:=(.pair .leaf (.pair .leaf (.sl (.row 4 [4] true))))
def Ua:Sh:=(.pair (.sl (.row 12 [12] true)) (.sl (.row 13 [13] true)))
def vJ (k:Nat):List (FuncId×aF):=(391,vV k)::([]:List (FuncId×aF))
theorem Eo (k:Nat):ae Tryz.prog (vJ k):=⟨JK k,(show ae Tryz.prog []from trivial)⟩
def tW (k:Nat):List (FuncId×aF):=(284,uy k)::(vJ k)
theorem Br (k:Nat):ae Tryz.prog (tW k):=⟨GY k,(Eo k)⟩
def BM:Nat→Option aL:=fun|5=>some ⟨[(0,.val (.sl .str) (.sl (.sha [1]))),(1,.val (.int .i64) .leaf),(5,.val (.int .i64) .leaf)],3⟩|_=>none
def sr (k:Nat):List (FuncId×aF):=(121,⟨[.val (.sl .str) .shr,.val (.int .i64) .leaf],[.val (.int .i64) .leaf],nE k,[]⟩)::(tW k)
theorem Dw (k:Nat):ae Tryz.prog (sr k):=ae.ev ax mixed (Br k) BM nA k Tryz.func121 (by kernel_rfl) (fun x=>by kernel_rfl)
def y0 (k:Nat):List (FuncId×aF):=(46,⟨[.val bC (.pair .leaf (.pair .leaf q0)),.val (.int .i64) .leaf],[.val (.int .i64) .leaf],np k,[]⟩)::(sr k)
theorem Mf (k:Nat):ae Tryz.prog (y0 k):=ae.ev ax mixed (Dw k) nA nA k Tryz.func46 (by kernel_rfl) (fun x=>by kernel_rfl)
def wN (k:Nat):List (FuncId×aF):=(102,⟨[.val af (.pair .leaf .leaf),.val (.int .i64) .leaf],[.val (.int .i64) .leaf],iL k,[]⟩)::(y0 k)
theorem Kh (k:Nat):ae Tryz.prog (wN k):=ae.ev ax mixed (Mf k) nA nA k Tryz.func102 (by kernel_rfl) (fun x=>by kernel_rfl)
def Dx:Nat→Option aL:=fun|5=>some ⟨[(0,.val (.sl af) (.sl (.sha [1]))),(1,.val (.int .i64) .leaf),(5,.val (.int .i64) .leaf)],3⟩|_=>none
def tJ (k:Nat):List (FuncId×aF):=(24,⟨[.val (.sl af) .shr,.val (.int .i64) .leaf],[.val (.int .i64) .leaf],eB k,[]⟩)::(wN k)
theorem Hs (k:Nat):ae Tryz.prog (tJ k):=ae.ev ax mixed (Kh k) Dx nA k Tryz.func24 (by kernel_rfl) (fun x=>by kernel_rfl)
def wV (k:Nat):List (FuncId×aF):=(30,⟨[.val ab q3,.val (.int .i64) .leaf],[.val (.int .i64) .leaf],eo k,[]⟩)::(tJ k)
theorem H3 (k:Nat):ae Tryz.prog (wV k):=ae.ev ax mixed (Hs k) nA nA k Tryz.func30 (by kernel_rfl) (fun x=>by kernel_rfl)
def DT:Nat→Option aL:=fun|5=>some ⟨[(0,.val (.sl ab) (.sl (.sha [1]))),(1,.val (.int .i64) .leaf),(5,.val (.int .i64) .leaf)],3⟩|_=>none
def uI (k:Nat):List (FuncId×aF):=(49,⟨[.val (.sl ab) .shr,.val (.int .i64) .leaf],[.val (.int .i64) .leaf],dc k,[]⟩)::(wV k)
theorem Gs (k:Nat):ae Tryz.prog (uI k):=ae.ev ax mixed (H3 k) DT nA k Tryz.func49 (by kernel_rfl) (fun x=>by kernel_rfl)
def vR (k:Nat):List (FuncId×aF):=(307,⟨[.val ay (.pair .leaf .shr),.val (.int .i64) .leaf],[.val (.int .i64) .leaf],iA k,[]⟩)::(uI k)
theorem Ic (k:Nat):ae Tryz.prog (vR k):=ae.ev ax mixed (Gs k) nA nA k Tryz.func307 (by kernel_rfl) (fun x=>by kernel_rfl)
def CI:Nat→Option aL:=fun|5=>some ⟨[(0,.val (.sl ay) (.sl (.sha [1]))),(1,.val (.int .i64) .leaf),(5,.val (.int .i64) .leaf)],3⟩|_=>none
def tU (k:Nat):List (FuncId×aF):=(229,⟨[.val (.sl ay) .shr,.val (.int .i64) .leaf],[.val (.int .i64) .leaf],om k,[]⟩)::(vR k)
theorem GJ (k:Nat):ae Tryz.prog (tU k):=ae.ev ax mixed (Ic k) CI nA k Tryz.func229 (by kernel_rfl) (fun x=>by kernel_rfl)
def xW (k:Nat):List (FuncId×aF):=(122,⟨[.val aq (.pair .leaf (.pair .leaf .shr)),.val (.int .i64) .leaf],[.val (.int .i64) .leaf],jQ k,[]⟩)::(tU k)
theorem LM (k:Nat):ae Tryz.prog (xW k):=ae.ev ax mixed (GJ k) nA nA k Tryz.func122 (by kernel_rfl) (fun x=>by kernel_rfl)
def GG:Nat→Option aL:=fun|5=>some ⟨[(0,.val (.sl aq) (.sl (.sha [1]))),(1,.val (.int .i64) .leaf),(5,.val (.int .i64) .leaf)],3⟩|_=>none
def vk (k:Nat):List (FuncId×aF):=(47,⟨[.val (.sl aq) .shr,.val (.int .i64) .leaf],[.val (.int .i64) .leaf],pC k,[]⟩)::(xW k)
theorem Ka (k:Nat):ae Tryz.prog (vk k):=ae.ev ax mixed (LM k) GG nA k Tryz.func47 (by kernel_rfl) (fun x=>by kernel_rfl)
def zv (k:Nat):List (FuncId×aF):=(123,⟨[.val aU (.pair .shr .leaf),.val (.int .i64) .leaf],[.val (.int .i64) .leaf],lj k,[]⟩)::(vk k)
theorem M1 (k:Nat):ae Tryz.prog (zv k):=ae.ev ax mixed (Ka k) nA nA k Tryz.func123 (by kernel_rfl) (fun x=>by kernel_rfl)
def Jc:Nat→Option aL:=fun|5=>some ⟨[(0,.val (.sl aU) (.sl (.sha [1]))),(1,.val (.int .i64) .leaf),(5,.val (.int .i64) .leaf)],3⟩|_=>none
def yO (k:Nat):List (FuncId×aF):=(48,⟨[.val (.sl aU) .shr,.val (.int .i64) .leaf],[.val (.int .i64) .leaf],qJ k,[]⟩)::(zv k)
theorem LF (k:Nat):ae Tryz.prog (yO k):=ae.ev ax mixed (M1 k) Jc nA k Tryz.func48 (by kernel_rfl) (fun x=>by kernel_rfl)
def vm (k:Nat):List (FuncId×aF):=(124,⟨[.val al (.pair .leaf q4),.val (.int .i64) .leaf],[.val (.int .i64) .leaf],iO k,[]⟩)::(yO k)
theorem I8 (k:Nat):ae Tryz.prog (vm k):=ae.ev ax mixed (LF k) nA nA k Tryz.func124 (by kernel_rfl) (fun x=>by kernel_rfl)
def Ei:Nat→Option aL:=fun|5=>some ⟨[(0,.val (.sl al) (.sl (.sha [1]))),(1,.val (.int .i64) .leaf),(5,.val (.int .i64) .leaf)],3⟩|_=>none
def tF (k:Nat):List (FuncId×aF):=(50,⟨[.val (.sl al) .shr,.val (.int .i64) .leaf],[.val (.int .i64) .leaf],oy k,[]⟩)::(vm k)
theorem GS (k:Nat):ae Tryz.prog (tF k):=ae.ev ax mixed (I8 k) Ei nA k Tryz.func50 (by kernel_rfl) (fun x=>by kernel_rfl)
def uE (k:Nat):List (FuncId×aF):=(51,⟨[.val (.sl aC) .shr,.val (.int .i64) .leaf],[.val (.int .i64) .leaf],kx k,[]⟩)::(tF k)
theorem Hn (k:Nat):ae Tryz.prog (uE k):=ae.ev ax mixed (GS k) nA nA k Tryz.func51 (by kernel_rfl) (fun x=>by kernel_rfl)
def vP (k:Nat):List (FuncId×aF):=(125,⟨[.val aN q6,.val (.int .i64) .leaf],[.val (.int .i64) .leaf],iT k,[]⟩)::(uE k)
theorem I4 (k:Nat):ae Tryz.prog (vP k):=ae.ev ax mixed (Hn k) nA nA k Tryz.func125 (by kernel_rfl) (fun x=>by kernel_rfl)
def DX:Nat→Option aL:=fun|5=>some ⟨[(0,.val (.sl aN) (.sl (.sha [1]))),(1,.val (.int .i64) .leaf),(5,.val (.int .i64) .leaf)],3⟩|_=>none
def ug (k:Nat):List (FuncId×aF):=(52,⟨[.val (.sl aN) .shr,.val (.int .i64) .leaf],[.val (.int .i64) .leaf],oP k,[]⟩)::(vP k)
theorem Hw (k:Nat):ae Tryz.prog (ug k):=ae.ev ax mixed (I4 k) DX nA k Tryz.func52 (by kernel_rfl) (fun x=>by kernel_rfl)
def xT (k:Nat):List (FuncId×aF):=(230,⟨[.val (.sl (.int .i64)) .shr,.val (.int .i64) .leaf],[.val (.int .i64) .leaf],nc k,[]⟩)::(ug k)
theorem LN (k:Nat):ae Tryz.prog (xT k):=ae.ev ax mixed (Hw k) nA nA k Tryz.func230 (by kernel_rfl) (fun x=>by kernel_rfl)
def ym (k:Nat):List (FuncId×aF):=(126,⟨[.val ah (.pair .leaf (.pair .leaf (.pair q3 (.pair .shr (.pair .leaf q7))))),.val (.int .i64) .leaf],[.val (.int .i64) .leaf],jN k,[]⟩)::(xT k)
theorem K1 (k:Nat):ae Tryz.prog (ym k):=ae.ev ax mixed (LN k) nA nA k Tryz.func126 (by kernel_rfl) (fun x=>by kernel_rfl)
def EH:Nat→Option aL:=fun|5=>some ⟨[(0,.val (.sl ah) (.sl (.sha [1]))),(1,.val (.int .i64) .leaf),(5,.val (.int .i64) .leaf)],3⟩|_=>none
def vO (k:Nat):List (FuncId×aF):=(53,⟨[.val (.sl ah) .shr,.val (.int .i64) .leaf],[.val (.int .i64) .leaf],pI k,[]⟩)::(ym k)
theorem IQ (k:Nat):ae Tryz.prog (vO k):=ae.ev ax mixed (K1 k) EH nA k Tryz.func53 (by kernel_rfl) (fun x=>by kernel_rfl)
def yV (k:Nat):List (FuncId×aF):=(127,⟨[.val ak (.pair .leaf (.pair .leaf (.pair q3 (.pair .shr (.pair .leaf (.pair .leaf (.pair .leaf (.pair .shr uf)))))))),.val (.int .i64) .leaf],[.val (.int .i64) .leaf],jE k,[]⟩)::(vO k)
theorem LB (k:Nat):ae Tryz.prog (yV k):=ae.ev ax mixed (IQ k) nA nA k Tryz.func127 (by kernel_rfl) (fun x=>by kernel_rfl)
def ET:Nat→Option aL:=fun|5=>some ⟨[(0,.val (.sl ak) (.sl (.sha [1]))),(1,.val (.int .i64) .leaf),(5,.val (.int .i64) .leaf)],3⟩|_=>none
def v8 (k:Nat):List (FuncId×aF):=(54,⟨[.val (.sl ak) .shr,.val (.int .i64) .leaf],[.val (.int .i64) .leaf],pG k,[]⟩)::(yV k)
theorem IU (k:Nat):ae Tryz.prog (v8 k):=ae.ev ax mixed (LB k) ET nA k Tryz.func54 (by kernel_rfl) (fun x=>by kernel_rfl)
def vr (k:Nat):List (FuncId×aF):=(13,⟨[.val aE (.pair (.pair .leaf (.pair .leaf q0)) (.pair .leaf (.pair .leaf (.pair .shr (.pair .shr (.pair .shr (.pair .leaf (.pair .shr (.pair .leaf (.pair .shr jc)))))))))),.val (.int .i64) .leaf],[.val (.int .i64) .leaf],lV k,[]⟩)::(v8 k)
theorem JC (k:Nat):ae Tryz.prog (vr k):=ae.ev ax mixed (IU k) nA nA k Tryz.func13 (by kernel_rfl) (fun x=>by kernel_rfl)
end Vg.Tryz
namespace Vg.Tryz
open Go Vg Go.Proofs
set_option linter.unusedVariables false
set_option maxRecDepth 1000000
def Bt:Nat→Option aL:=fun|3=>some ⟨[(0,.val (.sl .str) (.sl (.sha [1]))),(3,.val (.sl .str) (.sl (.row 3 [3] true))),(4,.val (.int .i64) .leaf)],4⟩|_=>none
def rR (k:Nat):List (FuncId×aF):=(129,⟨[.val (.sl .str) .shr],[.val (.sl .str) .own],nx k,[]⟩)::(vr k)
theorem DE (k:Nat):ae Tryz.prog (rR k):=ae.ev ax mixed (JC k) Bt nA k Tryz.func129 (by kernel_rfl) (fun x=>by kernel_rfl)
def yn (k:Nat):List (FuncId×aF):=(56,⟨[.val bC (.pair .leaf (.pair .leaf q0))],[.val bC (.pair .leaf (.pair .leaf vg))],ng k,[]⟩)::(rR k)
theorem Mi (k:Nat):ae Tryz.prog (yn k):=ae.ev ax mixed (DE k) nA nA k Tryz.func56 (by kernel_rfl) (fun x=>by kernel_rfl)
def wQ (k:Nat):List (FuncId×aF):=(104,⟨[.val af (.pair .leaf .leaf)],[.val af (.pair .leaf .leaf)],iw k,[]⟩)::(yn k)
theorem ID (k:Nat):ae Tryz.prog (wQ k):=ae.ev ax mixed (Mi k) nA nA k Tryz.func104 (by kernel_rfl) (fun x=>by kernel_rfl)
def CN:Nat→Option aL:=fun|3=>some ⟨[(0,.val (.sl af) (.sl (.sha [1]))),(3,.val (.sl af) (.sl (.row 3 [3] true))),(4,.val (.int .i64) .leaf)],4⟩|_=>none
def tM (k:Nat):List (FuncId×aF):=(26,⟨[.val (.sl af) .shr],[.val (.sl af) .own],eA k,[]⟩)::(wQ k)
theorem F4 (k:Nat):ae Tryz.prog (tM k):=ae.ev ax mixed (ID k) CN nA k Tryz.func26 (by kernel_rfl) (fun x=>by kernel_rfl)
def wq (k:Nat):List (FuncId×aF):=(32,⟨[.val ab q3],[.val ab sU],c9 k,[]⟩)::(tM k)
theorem Js (k:Nat):ae Tryz.prog (wq k):=ae.ev ax mixed (F4 k) nA nA k Tryz.func32 (by kernel_rfl) (fun x=>by kernel_rfl)
def Df:Nat→Option aL:=fun|3=>some ⟨[(0,.val (.sl ab) (.sl (.sha [1]))),(3,.val (.sl ab) (.sl (.row 3 [3] true))),(4,.val (.int .i64) .leaf)],4⟩|_=>none
def uA (k:Nat):List (FuncId×aF):=(59,⟨[.val (.sl ab) .shr],[.val (.sl ab) .own],df k,[]⟩)::(wq k)
theorem FA (k:Nat):ae Tryz.prog (uA k):=ae.ev ax mixed (Js k) Df nA k Tryz.func59 (by kernel_rfl) (fun x=>by kernel_rfl)
def xj (k:Nat):List (FuncId×aF):=(308,⟨[.val ay (.pair .leaf .shr)],[.val ay (.pair .leaf .own)],iM k,[]⟩)::(uA k)
theorem Ij (k:Nat):ae Tryz.prog (xj k):=ae.ev ax mixed (FA k) nA nA k Tryz.func308 (by kernel_rfl) (fun x=>by kernel_rfl)
def D0:Nat→Option aL:=fun|3=>some ⟨[(0,.val (.sl ay) (.sl (.sha [1]))),(3,.val (.sl ay) (.sl (.row 3 [3] true))),(4,.val (.int .i64) .leaf)],4⟩|_=>none
def ua (k:Nat):List (FuncId×aF):=(231,⟨[.val (.sl ay) .shr],[.val (.sl ay) .own],oz k,[]⟩)::(xj k)
theorem Ez (k:Nat):ae Tryz.prog (ua k):=ae.ev ax mixed (Ij k) D0 nA k Tryz.func231 (by kernel_rfl) (fun x=>by kernel_rfl)
def xS (k:Nat):List (FuncId×aF):=(130,⟨[.val aq (.pair .leaf (.pair .leaf .shr))],[.val aq (.pair .leaf (.pair .leaf .own))],jS k,[]⟩)::(ua k)
theorem Lw (k:Nat):ae Tryz.prog (xS k):=ae.ev ax mixed (Ez k) nA nA k Tryz.func130 (by kernel_rfl) (fun x=>by kernel_rfl)
def FQ:Nat→Option aL:=fun|3=>some ⟨[(0,.val (.sl aq) (.sl (.sha [1]))),(3,.val (.sl aq) (.sl (.row 3 [3] true))),(4,.val (.int .i64) .leaf)],4⟩|_=>none
def vL (k:Nat):List (FuncId×aF):=(57,⟨[.val (.sl aq) .shr],[.val (.sl aq) .own],pA k,[]⟩)::(xS k)
theorem Ie (k:Nat):ae Tryz.prog (vL k):=ae.ev ax mixed (Lw k) FQ nA k Tryz.func57 (by kernel_rfl) (fun x=>by kernel_rfl)
def zO (k:Nat):List (FuncId×aF):=(131,⟨[.val aU (.pair .shr .leaf)],[.val aU (.pair .own .leaf)],kI k,[]⟩)::(vL k)
theorem Ng (k:Nat):ae Tryz.prog (zO k):=ae.ev ax mixed (Ie k) nA nA k Tryz.func131 (by kernel_rfl) (fun x=>by kernel_rfl)
def IP:Nat→Option aL:=fun|3=>some ⟨[(0,.val (.sl aU) (.sl (.sha [1]))),(3,.val (.sl aU) (.sl (.row 3 [3] true))),(4,.val (.int .i64) .leaf)],4⟩|_=>none
def yE (k:Nat):List (FuncId×aF):=(58,⟨[.val (.sl aU) .shr],[.val (.sl aU) .own],qH k,[]⟩)::(zO k)
theorem LQ (k:Nat):ae Tryz.prog (yE k):=ae.ev ax mixed (Ng k) IP nA k Tryz.func58 (by kernel_rfl) (fun x=>by kernel_rfl)
def xl (k:Nat):List (FuncId×aF):=(132,⟨[.val al (.pair .leaf q4)],[.val al (.pair .leaf Uo)],iJ k,[]⟩)::(yE k)
theorem Iz (k:Nat):ae Tryz.prog (xl k):=ae.ev ax mixed (LQ k) nA nA k Tryz.func132 (by kernel_rfl) (fun x=>by kernel_rfl)
def Dv:Nat→Option aL:=fun|3=>some ⟨[(0,.val (.sl al) (.sl (.sha [1]))),(3,.val (.sl al) (.sl (.row 3 [3] true))),(4,.val (.int .i64) .leaf)],4⟩|_=>none
def tA (k:Nat):List (FuncId×aF):=(60,⟨[.val (.sl al) .shr],[.val (.sl al) .own],oV k,[]⟩)::(xl k)
theorem FJ (k:Nat):ae Tryz.prog (tA k):=ae.ev ax mixed (Iz k) Dv nA k Tryz.func60 (by kernel_rfl) (fun x=>by kernel_rfl)
def we (k:Nat):List (FuncId×aF):=(133,⟨[.val aC (.pair .leaf .leaf)],[.val aC (.pair .leaf .leaf)],iG k,[]⟩)::(tA k)
theorem Ju (k:Nat):ae Tryz.prog (we k):=ae.ev ax mixed (FJ k) nA nA k Tryz.func133 (by kernel_rfl) (fun x=>by kernel_rfl)
def CT:Nat→Option aL:=fun|3=>some ⟨[(0,.val (.sl aC) (.sl (.sha [1]))),(3,.val (.sl aC) (.sl (.row 3 [3] true))),(4,.val (.int .i64) .leaf)],4⟩|_=>none
def uG (k:Nat):List (FuncId×aF):=(61,⟨[.val (.sl aC) .shr],[.val (.sl aC) .own],oB k,[]⟩)::(we k)
theorem Hq (k:Nat):ae Tryz.prog (uG k):=ae.ev ax mixed (Ju k) CT nA k Tryz.func61 (by kernel_rfl) (fun x=>by kernel_rfl)
def vo (k:Nat):List (FuncId×aF):=(134,⟨[.val aN q6],[.val aN T0],iD k,[]⟩)::(uG k)
theorem Ke (k:Nat):ae Tryz.prog (vo k):=ae.ev ax mixed (Hq k) nA nA k Tryz.func134 (by kernel_rfl) (fun x=>by kernel_rfl)
def Dz:Nat→Option aL:=fun|3=>some ⟨[(0,.val (.sl aN) (.sl (.sha [1]))),(3,.val (.sl aN) (.sl (.row 3 [3] true))),(4,.val (.int .i64) .leaf)],4⟩|_=>none
def uh (k:Nat):List (FuncId×aF):=(62,⟨[.val (.sl aN) .shr],[.val (.sl aN) .own],oZ k,[]⟩)::(vo k)
theorem Gj (k:Nat):ae Tryz.prog (uh k):=ae.ev ax mixed (Ke k) Dz nA k Tryz.func62 (by kernel_rfl) (fun x=>by kernel_rfl)
def HZ:Nat→Option aL:=fun|3=>some ⟨[(0,.val (.sl (.int .i64)) (.sl (.sha [1]))),(3,.val (.sl (.int .i64)) (.sl (.row 3 [3] true))),(4,.val (.int .i64) .leaf)],4⟩|_=>none
def ya (k:Nat):List (FuncId×aF):=(232,⟨[.val (.sl (.int .i64)) .shr],[.val (.sl (.int .i64)) .own],qI k,[]⟩)::(uh k)
theorem L3 (k:Nat):ae Tryz.prog (ya k):=ae.ev ax mixed (Gj k) HZ nA k Tryz.func232 (by kernel_rfl) (fun x=>by kernel_rfl)
def yD (k:Nat):List (FuncId×aF):=(135,⟨[.val ah (.pair .leaf (.pair .leaf (.pair q3 (.pair .shr (.pair .leaf q7)))))],[.val ah (.pair .leaf (.pair .leaf (.pair sU (.pair .own (.pair .leaf UD)))))],jJ k,[]⟩)::(ya k)
theorem Li (k:Nat):ae Tryz.prog (yD k):=ae.ev ax mixed (L3 k) nA nA k Tryz.func135 (by kernel_rfl) (fun x=>by kernel_rfl)
def FE:Nat→Option aL:=fun|3=>some ⟨[(0,.val (.sl ah) (.sl (.sha [1]))),(3,.val (.sl ah) (.sl (.row 3 [3] true))),(4,.val (.int .i64) .leaf)],4⟩|_=>none
def wb (k:Nat):List (FuncId×aF):=(63,⟨[.val (.sl ah) .shr],[.val (.sl ah) .own],pD k,[]⟩)::(yD k)
theorem Kj (k:Nat):ae Tryz.prog (wb k):=ae.ev ax mixed (Li k) FE nA k Tryz.func63 (by kernel_rfl) (fun x=>by kernel_rfl)
def yP (k:Nat):List (FuncId×aF):=(136,⟨[.val ak (.pair .leaf (.pair .leaf (.pair q3 (.pair .shr (.pair .leaf (.pair .leaf (.pair .leaf (.pair .shr uf))))))))],[.val ak (.pair .leaf (.pair .leaf (.pair sU (.pair .own (.pair .leaf (.pair .leaf (.pair .leaf (.pair .own uf))))))))],jW k,[]⟩)::(wb k)
theorem L9 (k:Nat):ae Tryz.prog (yP k):=ae.ev ax mixed (Kj k) nA nA k Tryz.func136 (by kernel_rfl) (fun x=>by kernel_rfl)
def F7:Nat→Option aL:=fun|3=>some ⟨[(0,.val (.sl ak) (.sl (.sha [1]))),(3,.val (.sl ak) (.sl (.row 3 [3] true))),(4,.val (.int .i64) .leaf)],4⟩|_=>none
def vc (k:Nat):List (FuncId×aF):=(64,⟨[.val (.sl ak) .shr],[.val (.sl ak) .own],pH k,[]⟩)::(yP k)
theorem I3 (k:Nat):ae Tryz.prog (vc k):=ae.ev ax mixed (L9 k) F7 nA k Tryz.func64 (by kernel_rfl) (fun x=>by kernel_rfl)
def wS (k:Nat):List (FuncId×aF):=(15,⟨[.val aE (.pair (.pair .leaf (.pair .leaf q0)) (.pair .leaf (.pair .leaf (.pair .shr (.pair .shr (.pair .shr (.pair .leaf (.pair .shr (.pair .leaf (.pair .shr jc))))))))))],[.val aE (.pair (.pair .leaf (.pair .leaf vg)) (.pair .leaf (.pair .leaf (.pair .own (.pair .own (.pair .own (.pair .leaf (.pair .own (.pair .leaf (.pair .own Cd))))))))))],eT k,[]⟩)::(vc k)
theorem Il (k:Nat):ae Tryz.prog (wS k):=ae.ev ax mixed (I3 k) nA nA k Tryz.func15 (by kernel_rfl) (fun x=>by kernel_rfl)
def wE (k:Nat):List (FuncId×aF):=(146,⟨[.val bC (.pair .leaf (.pair .leaf q0))],[.val bC (.pair .leaf (.pair .leaf vg))],lA k,[]⟩)::(wS k)
theorem HY (k:Nat):ae Tryz.prog (wE k):=ae.ev ax mixed (Il k) nA nA k Tryz.func146 (by kernel_rfl) (fun x=>by kernel_rfl)
end Vg.Tryz
namespace Vg.Tryz
open Go Vg Go.Proofs
set_option linter.unusedVariables false
set_option maxRecDepth 1000000
def yh (k:Nat):List (FuncId×aF):=(193,⟨[.val ab q3],[.val ab sU],dt k,[]⟩)::(wE k)
theorem L4 (k:Nat):ae Tryz.prog (yh k):=ae.ev ax mixed (HY k) nA nA k Tryz.func193 (by kernel_rfl) (fun x=>by kernel_rfl)
def Lp:Nat→Option aL:=fun|3=>some ⟨[(0,.val (.sl ab) (.sl (.sha [1]))),(3,.val (.sl ab) (.sl (.row 3 [3] true))),(4,.val (.int .i64) .leaf)],4⟩|_=>none
def Ac (k:Nat):List (FuncId×aF):=(149,⟨[.val (.sl ab) .shr],[.val (.sl ab) .own],dK k,[]⟩)::(yh k)
theorem MT (k:Nat):ae Tryz.prog (Ac k):=ae.ev ax mixed (L4 k) Lp nA k Tryz.func149 (by kernel_rfl) (fun x=>by kernel_rfl)
def yl (k:Nat):List (FuncId×aF):=(310,⟨[.val ay (.pair .leaf .shr)],[.val ay (.pair .leaf .own)],mQ k,[]⟩)::(Ac k)
theorem Lz (k:Nat):ae Tryz.prog (yl k):=ae.ev ax mixed (MT k) nA nA k Tryz.func310 (by kernel_rfl) (fun x=>by kernel_rfl)
def IM:Nat→Option aL:=fun|3=>some ⟨[(1,.box 3 aq cP),(2,.box 4 aq yc),(3,.box 5 aq Ck),(4,.val (.int .i64) .leaf)],7⟩|_=>none
def yK (k:Nat):List (FuncId×aF):=(235,⟨[.val aq (.pair .leaf (.pair .leaf .shr))],[.val aq (.pair .leaf (.pair .leaf .own))],jI k,[]⟩)::(yl k)
theorem Lb (k:Nat):ae Tryz.prog (yK k):=ae.ev ax mixed (Lz k) IM nA k Tryz.func235 (by kernel_rfl) (fun x=>by kernel_rfl)
def Iv:Nat→Option aL:=fun|3=>some ⟨[(0,.val (.sl aq) (.sl (.sha [1]))),(3,.val (.sl aq) (.sl (.row 3 [3] true))),(4,.val (.int .i64) .leaf)],4⟩|_=>none
def yr (k:Nat):List (FuncId×aF):=(147,⟨[.val (.sl aq) .shr],[.val (.sl aq) .own],qC k,[]⟩)::(yK k)
theorem KY (k:Nat):ae Tryz.prog (yr k):=ae.ev ax mixed (Lb k) Iv nA k Tryz.func147 (by kernel_rfl) (fun x=>by kernel_rfl)
def yv (k:Nat):List (FuncId×aF):=(236,⟨[.val aU (.pair .shr .leaf)],[.val aU (.pair .own .leaf)],jR k,[]⟩)::(yr k)
theorem K4 (k:Nat):ae Tryz.prog (yv k):=ae.ev ax mixed (KY k) nA nA k Tryz.func236 (by kernel_rfl) (fun x=>by kernel_rfl)
def K6:Nat→Option aL:=fun|3=>some ⟨[(0,.val (.sl aU) (.sl (.sha [1]))),(3,.val (.sl aU) (.sl (.row 3 [3] true))),(4,.val (.int .i64) .leaf)],4⟩|_=>none
def zC (k:Nat):List (FuncId×aF):=(148,⟨[.val (.sl aU) .shr],[.val (.sl aU) .own],sH k,[]⟩)::(yv k)
theorem Nl (k:Nat):ae Tryz.prog (zC k):=ae.ev ax mixed (K4 k) K6 nA k Tryz.func148 (by kernel_rfl) (fun x=>by kernel_rfl)
def wA (k:Nat):List (FuncId×aF):=(237,⟨[.val al (.pair .leaf q4)],[.val al (.pair .leaf Uo)],iK k,[]⟩)::(zC k)
theorem I7 (k:Nat):ae Tryz.prog (wA k):=ae.ev ax mixed (Nl k) nA nA k Tryz.func237 (by kernel_rfl) (fun x=>by kernel_rfl)
def FO:Nat→Option aL:=fun|3=>some ⟨[(0,.val (.sl al) (.sl (.sha [1]))),(3,.val (.sl al) (.sl (.row 3 [3] true))),(4,.val (.int .i64) .leaf)],4⟩|_=>none
def ve (k:Nat):List (FuncId×aF):=(150,⟨[.val (.sl al) .shr],[.val (.sl al) .own],pd k,[]⟩)::(wA k)
theorem JL (k:Nat):ae Tryz.prog (ve k):=ae.ev ax mixed (I7 k) FO nA k Tryz.func150 (by kernel_rfl) (fun x=>by kernel_rfl)
def tN (k:Nat):List (FuncId×aF):=(151,⟨[.val aN q6],[.val aN T0],gL k,[]⟩)::(ve k)
theorem FT (k:Nat):ae Tryz.prog (tN k):=ae.ev ax mixed (JL k) nA nA k Tryz.func151 (by kernel_rfl) (fun x=>by kernel_rfl)
def vn (k:Nat):List (FuncId×aF):=(152,⟨[.val ah (.pair .leaf (.pair .leaf (.pair q3 (.pair .shr (.pair .leaf q7)))))],[.val ah (.pair .leaf (.pair .leaf (.pair sU (.pair .own (.pair .leaf UD)))))],iz k,[]⟩)::(tN k)
theorem HN (k:Nat):ae Tryz.prog (vn k):=ae.ev ax mixed (FT k) nA nA k Tryz.func152 (by kernel_rfl) (fun x=>by kernel_rfl)
def xb (k:Nat):List (FuncId×aF):=(238,⟨[.val ak (.pair .leaf (.pair .leaf (.pair q3 (.pair .shr (.pair .leaf (.pair .leaf (.pair .leaf (.pair .shr uf))))))))],[.val ak (.pair .leaf (.pair .leaf (.pair sU (.pair .own (.pair .leaf (.pair .leaf (.pair .leaf (.pair .own uf))))))))],iZ k,[]⟩)::(vn k)
theorem JI (k:Nat):ae Tryz.prog (xb k):=ae.ev ax mixed (HN k) nA nA k Tryz.func238 (by kernel_rfl) (fun x=>by kernel_rfl)
def JE:Nat→Option aL:=fun|3=>some ⟨[(0,.val (.sl ak) (.sl (.sha [1]))),(3,.val (.sl ak) (.sl (.row 3 [3] true))),(4,.val (.int .i64) .leaf)],4⟩|_=>none
def yj (k:Nat):List (FuncId×aF):=(153,⟨[.val (.sl ak) .shr],[.val (.sl ak) .own],qO k,[]⟩)::(xb k)
theorem Lo (k:Nat):ae Tryz.prog (yj k):=ae.ev ax mixed (JI k) JE nA k Tryz.func153 (by kernel_rfl) (fun x=>by kernel_rfl)
def Fm:Nat→Option aL:=fun|11=>some ⟨[(1,.box 3 aE (.pair (.pair .leaf (.pair .leaf (.pair .leaf cP))) (.pair .leaf (.pair .leaf (.pair (.sl (.sha [1])) (.pair (.sl (.sha [1])) (.pair (.sl (.sha [1])) (.pair .leaf (.pair (.sl (.sha [1])) (.pair .leaf (.pair (.sl (.sha [1])) (.pair (.sl (.sha [1])) (.pair (.sl (.sha [1])) dg))))))))))))),(2,.box 4 aE (.pair (.pair .leaf (.pair .leaf (.pair .leaf yc))) (.pair .leaf (.pair .leaf (.pair (.sl (.sha [])) (.pair (.sl (.sha [])) (.pair (.sl (.sha [])) (.pair .leaf (.pair (.sl (.sha [])) (.pair .leaf (.pair (.sl (.sha [])) (.pair (.sl (.sha [])) Ct)))))))))))),(3,.box 5 aE (.pair (.pair .leaf (.pair .leaf (.pair .leaf Ck))) (.pair .leaf (.pair .leaf (.pair (.sl (.row 7 [7] true)) (.pair (.sl (.row 8 [8] true)) (.pair (.sl (.row 9 [9] true)) (.pair .leaf (.pair (.sl (.row 10 [10] true)) (.pair .leaf (.pair (.sl (.row 11 [] true)) (.pair (.sl (.row 12 [12] true)) (.pair (.sl (.sha [1])) dg))))))))))))),(4,.box 13 bC (.pair .leaf (.pair .leaf (.pair .leaf Ck)))),(5,.val (.int .i64) .leaf)],14⟩|18=>some ⟨[(1,.box 3 aE (.pair (.pair .leaf (.pair .leaf (.pair .leaf cP))) (.pair .leaf (.pair .leaf (.pair (.sl (.sha [1])) (.pair (.sl (.sha [1])) (.pair (.sl (.sha [1])) (.pair .leaf (.pair (.sl (.sha [1])) (.pair .leaf (.pair (.sl (.sha [1])) (.pair (.sl (.sha [1])) (.pair (.sl (.sha [1])) dg))))))))))))),(2,.box 4 aE (.pair (.pair .leaf (.pair .leaf (.pair .leaf yc))) (.pair .leaf (.pair .leaf (.pair (.sl (.sha [])) (.pair (.sl (.sha [])) (.pair (.sl (.sha [])) (.pair .leaf (.pair (.sl (.sha [])) (.pair .leaf (.pair (.sl (.sha [])) (.pair (.sl (.sha [])) Ct)))))))))))),(3,.box 5 aE (.pair (.pair .leaf (.pair .leaf (.pair .leaf Ck))) (.pair .leaf (.pair .leaf (.pair (.sl (.row 7 [7] true)) (.pair (.sl (.row 8 [8] true)) (.pair (.sl (.row 9 [9] true)) (.pair .leaf (.pair (.sl (.row 10 [10] true)) (.pair .leaf (.pair (.sl (.row 11 [] true)) (.pair (.sl (.row 12 [12] true)) (.pair (.sl (.row 13 [13] true)) Ue))))))))))))),(4,.box 15 bC (.pair .leaf (.pair .leaf (.pair .leaf Ck)))),(7,.val (.int .i64) .leaf)],16⟩|_=>none
def F0:Nat→Option aL:=fun|15=>some ⟨[(1,.box 3 aE (.pair (.pair .leaf (.pair .leaf (.pair .leaf cP))) (.pair .leaf (.pair .leaf (.pair (.sl (.sha [1])) (.pair (.sl (.sha [1])) (.pair (.sl (.sha [1])) (.pair .leaf (.pair (.sl (.sha [1])) (.pair .leaf (.pair (.sl (.sha [1])) (.pair (.sl (.sha [1])) (.pair (.sl (.sha [1])) dg))))))))))))),(2,.box 4 aE (.pair (.pair .leaf (.pair .leaf (.pair .leaf yc))) (.pair .leaf (.pair .leaf (.pair (.sl (.sha [])) (.pair (.sl (.sha [])) (.pair (.sl (.sha [])) (.pair .leaf (.pair (.sl (.sha [])) (.pair .leaf (.pair (.sl (.sha [])) (.pair (.sl (.sha [])) Ct)))))))))))),(3,.box 5 aE (.pair (.pair .leaf (.pair .leaf (.pair .leaf Ck))) (.pair .leaf (.pair .leaf (.pair (.sl (.row 7 [7] true)) (.pair (.sl (.row 8 [8] true)) (.pair (.sl (.row 9 [9] true)) (.pair .leaf (.pair (.sl (.row 10 [10] true)) (.pair .leaf (.pair (.sl (.row 11 [] true)) (.pair (.sl (.row 12 [12] true)) (.pair (.sl (.sha [1])) dg))))))))))))),(4,.box 13 bC (.pair .leaf (.pair .leaf (.pair .leaf Ck))))],14⟩|22=>some ⟨[(1,.box 3 aE (.pair (.pair .leaf (.pair .leaf (.pair .leaf cP))) (.pair .leaf (.pair .leaf (.pair (.sl (.sha [1])) (.pair (.sl (.sha [1])) (.pair (.sl (.sha [1])) (.pair .leaf (.pair (.sl (.sha [1])) (.pair .leaf (.pair (.sl (.sha [1])) (.pair (.sl (.sha [1])) (.pair (.sl (.sha [1])) dg))))))))))))),(2,.box 4 aE (.pair (.pair .leaf (.pair .leaf (.pair .leaf yc))) (.pair .leaf (.pair .leaf (.pair (.sl (.sha [])) (.pair (.sl (.sha [])) (.pair (.sl (.sha [])) (.pair .leaf (.pair (.sl (.sha [])) (.pair .leaf (.pair (.sl (.sha [])) (.pair (.sl (.sha [])) Ct)))))))))))),(3,.box 5 aE (.pair (.pair .leaf (.pair .leaf (.pair .leaf Ck))) (.pair .leaf (.pair .leaf (.pair (.sl (.row 7 [7] true)) (.pair (.sl (.row 8 [8] true)) (.pair (.sl (.row 9 [9] true)) (.pair .leaf (.pair (.sl (.row 10 [10] true)) (.pair .leaf (.pair (.sl (.row 11 [] true)) (.pair (.sl (.row 12 [12] true)) (.pair (.sl (.row 13 [13] true)) Ue))))))))))))),(4,.box 15 bC (.pair .leaf (.pair .leaf (.pair .leaf Ck))))],16⟩|_=>none
def vZ (k:Nat):List (FuncId×aF):=(75,⟨[.val aE (.pair (.pair .leaf (.pair .leaf q0)) (.pair .leaf (.pair .leaf (.pair .shr (.pair .shr (.pair .shr (.pair .leaf (.pair .shr (.pair .leaf (.pair .shr jc))))))))))],[.val aE (.pair (.pair .leaf (.pair .leaf vg)) (.pair .leaf (.pair .leaf (.pair .own (.pair .own (.pair .own (.pair .leaf (.pair .own (.pair .leaf (.pair .own Cd))))))))))],mb k,[]⟩)::(yj k)
theorem Jr (k:Nat):ae Tryz.prog (vZ k):=ae.ev ax mixed (Lo k) Fm F0 k Tryz.func75 (by kernel_rfl) (fun x=>by kernel_rfl)
def Ci (k:Nat):List (FuncId×aF):=(77,⟨[.val (.int .i64) .leaf,.val (.int .i64) .leaf,.val (.int .i64) .leaf],[.val .bool .leaf],bE k,[]⟩)::(vZ k)
theorem OI (k:Nat):ae Tryz.prog (Ci k):=ae.ev ax mixed (Jr k) nA nA k Tryz.func77 (by kernel_rfl) (fun x=>by kernel_rfl)
def J0:Nat→Option aL:=fun|2=>some ⟨[(0,.val .str .leaf),(3,.val (.int .i64) .leaf)],3⟩|_=>none
def IF:Nat→Option aL:=fun|6=>some ⟨[(0,.val .str .leaf)],3⟩|_=>none
def yH (k:Nat):List (FuncId×aF):=(272,⟨[.val .str .leaf],[.val .bool .leaf],jO k,[]⟩)::(Ci k)
theorem LK (k:Nat):ae Tryz.prog (yH k):=ae.ev ax mixed (OI k) J0 IF k Tryz.func272 (by kernel_rfl) (fun x=>by kernel_rfl)
def CE (k:Nat):List (FuncId×aF):=(188,⟨[.val .str .leaf,.val .str .leaf],[.val .bool .leaf],fb k,[]⟩)::(yH k)
theorem Oj (k:Nat):ae Tryz.prog (CE k):=ae.ev ax mixed (LK k) nA nA k Tryz.func188 (by kernel_rfl) (fun x=>by kernel_rfl)
def EB:Nat→Option aL:=fun|2=>some ⟨[(0,.val (.sl .str) (.sl (.sha [1]))),(3,.val (.int .i64) .leaf)],3⟩|_=>none
def wC (k:Nat):List (FuncId×aF):=(311,⟨[.val (.sl .str) .shr],[.val .bool .leaf],fT k,[]⟩)::(CE k)
theorem Jt (k:Nat):ae Tryz.prog (wC k):=ae.ev ax mixed (Oj k) EB nA k Tryz.func311 (by kernel_rfl) (fun x=>by kernel_rfl)
def ML:Nat→Option aL:=fun|2=>some ⟨[(0,.val (.sl .str) (.sl (.sha [1]))),(3,.val (.int .i64) .leaf)],3⟩|_=>none
def Nz:Nat→Option aL:=fun|6=>some ⟨[(0,.val (.sl .str) (.sl (.sha [1])))],3⟩|_=>none
def Cm (k:Nat):List (FuncId×aF):=(239,⟨[.val (.sl .str) .shr],[.val .bool .leaf],qa k,[]⟩)::(wC k)
theorem OM (k:Nat):ae Tryz.prog (Cm k):=ae.ev ax mixed (Jt k) ML Nz k Tryz.func239 (by kernel_rfl) (fun x=>by kernel_rfl)
def yC (k:Nat):List (FuncId×aF):=(154,⟨[.val bC (.pair .leaf (.pair .leaf q0))],[.val .bool .leaf],mO k,[]⟩)::(Cm k)
theorem K0 (k:Nat):ae Tryz.prog (yC k):=ae.ev ax mixed (OM k) nA nA k Tryz.func154 (by kernel_rfl) (fun x=>by kernel_rfl)
def FN:Nat→Option aL:=fun|2=>some ⟨[(0,.val .str .leaf),(3,.val (.int .i64) .leaf)],3⟩|_=>none
def F8:Nat→Option aL:=fun|6=>some ⟨[(0,.val .str .leaf)],3⟩|_=>none
def wM (k:Nat):List (FuncId×aF):=(273,⟨[.val .str .leaf],[.val .bool .leaf],iS k,[]⟩)::(yC k)
theorem Jo (k:Nat):ae Tryz.prog (wM k):=ae.ev ax mixed (K0 k) FN F8 k Tryz.func273 (by kernel_rfl) (fun x=>by kernel_rfl)
def wu (k:Nat):List (FuncId×aF):=(187,⟨[.val af (.pair .leaf .leaf)],[.val .bool .leaf],lT k,[]⟩)::(wM k)
theorem Je (k:Nat):ae Tryz.prog (wu k):=ae.ev ax mixed (Jo k) nA nA k Tryz.func187 (by kernel_rfl) (fun x=>by kernel_rfl)
def LV:Nat→Option aL:=fun|2=>some ⟨[(0,.val (.sl af) (.sl (.sha [1]))),(3,.val (.int .i64) .leaf)],3⟩|_=>none
def LL:Nat→Option aL:=fun|6=>some ⟨[(0,.val (.sl af) (.sl (.sha [1])))],3⟩|_=>none
def Aq (k:Nat):List (FuncId×aF):=(103,⟨[.val (.sl af) .shr],[.val .bool .leaf],gk k,[]⟩)::(wu k)
theorem MC (k:Nat):ae Tryz.prog (Aq k):=ae.ev ax mixed (Je k) LV LL k Tryz.func103 (by kernel_rfl) (fun x=>by kernel_rfl)
def wL (k:Nat):List (FuncId×aF):=(242,⟨[.val ab q3],[.val .bool .leaf],dw k,[]⟩)::(Aq k)
theorem Ig (k:Nat):ae Tryz.prog (wL k):=ae.ev ax mixed (MC k) nA nA k Tryz.func242 (by kernel_rfl) (fun x=>by kernel_rfl)
def E0:Nat→Option aL:=fun|5=>some ⟨[(0,.val (.sl af) (.sl (.sha [1]))),(3,.val .str .leaf),(4,.val (.int .i64) .leaf)],3⟩|_=>none
def EA:Nat→Option aL:=fun|9=>some ⟨[(0,.val (.sl af) (.sl (.sha [1]))),(3,.val .str .leaf),(4,.val (.int .i64) .leaf)],3⟩|10=>some ⟨[(3,.val .str .leaf)],3⟩|_=>none
def vH (k:Nat):List (FuncId×aF):=(360,⟨[.val (.sl af) .shr],[.val .str .leaf],lW k,[]⟩)::(wL k)
theorem I6 (k:Nat):ae Tryz.prog (vH k):=ae.ev ax mixed (Ig k) E0 EA k Tryz.func360 (by kernel_rfl) (fun x=>by kernel_rfl)
end Vg.Tryz
namespace Vg.Tryz
open Go Vg Go.Proofs
set_option linter.unusedVariables false
set_option maxRecDepth 1000000
def OB:Nat→Option aL:=fun|3=>some ⟨[(0,.val .str .leaf),(3,.val (.int .i64) .leaf),(4,.val (.int .i64) .leaf)],3⟩|_=>none
def GI (k:Nat):List (FuncId×aF):=(359,⟨[.val .str .leaf],[.val (.int .i64) .leaf],ji k,[]⟩)::(vH k)
theorem PJ (k:Nat):ae Tryz.prog (GI k):=ae.ev ax mixed (I6 k) OB nA k Tryz.func359 (by kernel_rfl) (fun x=>by kernel_rfl)
def yg (k:Nat):List (FuncId×aF):=(318,⟨[.val (.sl af) .shr],[.val (.int .i64) .leaf],dP k,[]⟩)::(GI k)
theorem LH (k:Nat):ae Tryz.prog (yg k):=ae.ev ax mixed (PJ k) nA nA k Tryz.func318 (by kernel_rfl) (fun x=>by kernel_rfl)
def GM:Nat→Option aL:=fun|4=>some ⟨[(0,.val (.sl af) (.sl (.sha [1]))),(1,.val (.sl af) (.sl (.sha [1]))),(5,.val (.int .i64) .leaf)],3⟩|_=>none
def wh (k:Nat):List (FuncId×aF):=(249,⟨[.val (.sl af) .shr,.val (.sl af) .shr],[.val .bool .leaf],cL k,[]⟩)::(yg k)
theorem IG (k:Nat):ae Tryz.prog (wh k):=ae.ev ax mixed (LH k) GM nA k Tryz.func249 (by kernel_rfl) (fun x=>by kernel_rfl)
def FC:Nat→Option aL:=fun|2=>some ⟨[(1,.box 3 ay (.pair .leaf (.sl (.sha [1])))),(3,.val (.int .i64) .leaf)],4⟩|7=>some ⟨[(1,.box 3 ay (.pair .leaf (.sl (.sha [1])))),(3,.val (.int .i64) .leaf),(4,.val (.int .i64) .leaf)],4⟩|_=>none
def EY:Nat→Option aL:=fun|11=>some ⟨[(1,.box 3 ay (.pair .leaf (.sl (.sha [1]))))],4⟩|_=>none
def wi (k:Nat):List (FuncId×aF):=(356,⟨[.val ay (.pair .leaf .shr)],[.val .bool .leaf],me k,[]⟩)::(wh k)
theorem IA (k:Nat):ae Tryz.prog (wi k):=ae.ev ax mixed (IG k) FC EY k Tryz.func356 (by kernel_rfl) (fun x=>by kernel_rfl)
def yN (k:Nat):List (FuncId×aF):=(317,⟨[.val (.int .i64) .leaf,.val (.int .i64) .leaf],[.val (.int .i64) .leaf],eJ k,[]⟩)::(wi k)
theorem Ls (k:Nat):ae Tryz.prog (yN k):=ae.ev ax mixed (IA k) nA nA k Tryz.func317 (by kernel_rfl) (fun x=>by kernel_rfl)
def H5:Nat→Option aL:=fun|2=>some ⟨[(1,.val (.int .i64) .leaf),(2,.val (.int .i64) .leaf),(3,.box 3 aq cP),(7,.val (.int .i64) .leaf)],4⟩|_=>none
def JO:Nat→Option aL:=fun|6=>some ⟨[(3,.box 3 aq cP)],4⟩|_=>none
def yt (k:Nat):List (FuncId×aF):=(312,⟨[.val aq (.pair .leaf (.pair .leaf .shr)),.val (.int .i64) .leaf,.val (.int .i64) .leaf],[.val .bool .leaf],mU k,[]⟩)::(yN k)
theorem L8 (k:Nat):ae Tryz.prog (yt k):=ae.ev ax mixed (Ls k) H5 JO k Tryz.func312 (by kernel_rfl) (fun x=>by kernel_rfl)
def Fh:Nat→Option aL:=fun|2=>some ⟨[(0,.val (.sl aq) (.sl (.sha [1]))),(3,.val (.int .i64) .leaf)],3⟩|_=>none
def Hk:Nat→Option aL:=fun|6=>some ⟨[(0,.val (.sl aq) (.sl (.sha [1])))],3⟩|_=>none
def wm (k:Nat):List (FuncId×aF):=(240,⟨[.val (.sl aq) .shr],[.val .bool .leaf],lP k,[]⟩)::(yt k)
theorem JS (k:Nat):ae Tryz.prog (wm k):=ae.ev ax mixed (L8 k) Fh Hk k Tryz.func240 (by kernel_rfl) (fun x=>by kernel_rfl)
def C4:Nat→Option aL:=fun|3=>some ⟨[(1,.box 3 aq cP),(3,.val (.sl ab) (.sl (.row 4 [4] true))),(4,.val (.int .i64) .leaf)],5⟩|_=>none
def ud (k:Nat):List (FuncId×aF):=(280,⟨[.val aq (.pair .leaf (.pair .leaf .shr))],[.val (.sl ab) .own],gZ k,[]⟩)::(wm k)
theorem Hg (k:Nat):ae Tryz.prog (ud k):=ae.ev ax mixed (JS k) C4 nA k Tryz.func280 (by kernel_rfl) (fun x=>by kernel_rfl)
def E6:Nat→Option aL:=fun|2=>some ⟨[(0,.val (.sl af) (.sl (.sha [1]))),(1,.val (.sl af) (.sl (.sha [1]))),(5,.val (.int .i64) .leaf)],3⟩|_=>none
def Gu:Nat→Option aL:=fun|8=>some ⟨[(0,.val (.sl af) (.sl (.sha [1]))),(1,.val (.sl af) (.sl (.sha [1])))],3⟩|_=>none
def vv (k:Nat):List (FuncId×aF):=(338,⟨[.val (.sl af) .shr,.val (.sl af) .shr],[.val .bool .leaf],iC k,[]⟩)::(ud k)
theorem JY (k:Nat):ae Tryz.prog (vv k):=ae.ev ax mixed (Hg k) E6 Gu k Tryz.func338 (by kernel_rfl) (fun x=>by kernel_rfl)
def Ib:Nat→Option aL:=fun|3=>some ⟨[(0,.val (.sl ab) (.sl (.sha [1]))),(3,.val (.sl ab) (.sl (.row 3 [2] false))),(4,.val (.int .i64) .leaf)],4⟩|7=>some ⟨[(0,.val (.sl ab) (.sl (.sha [1]))),(3,.val (.sl ab) (.sl (.row 3 [2] false))),(4,.val (.int .i64) .leaf),(5,.box 4 ab T6),(6,.val (.int .i64) .leaf)],6⟩|_=>none
def JA:Nat→Option aL:=fun|9=>some ⟨[(0,.val (.sl ab) (.sl (.sha [1]))),(3,.val (.sl ab) (.sl (.row 3 [2] false))),(4,.val (.int .i64) .leaf),(5,.box 4 ab T6),(6,.val (.int .i64) .leaf)],6⟩|_=>none
def yx (k:Nat):List (FuncId×aF):=(281,⟨[.val (.sl ab) .shr],[.val (.sl ab) .shr],jL k,[]⟩)::(vv k)
theorem KW (k:Nat):ae Tryz.prog (yx k):=ae.ev ax mixed (JY k) Ib JA k Tryz.func281 (by kernel_rfl) (fun x=>by kernel_rfl)
def BJ:Nat→Option aL:=fun|3=>some ⟨[(0,.val (.sl aq) (.sl (.sha [1]))),(3,.val (.sl ab) (.sl (.row 3 [3] true))),(4,.val (.int .i64) .leaf)],4⟩|_=>none
def BO:Nat→Option aL:=fun|6=>some ⟨[(3,.val (.sl ab) (.sl (.row 3 [3] true)))],4⟩|_=>none
def sK (k:Nat):List (FuncId×aF):=(241,⟨[.val (.sl aq) .shr],[.val (.sl ab) .shr],jn k,[]⟩)::(yx k)
theorem Ed (k:Nat):ae Tryz.prog (sK k):=ae.ev ax mixed (KW k) BJ BO k Tryz.func241 (by kernel_rfl) (fun x=>by kernel_rfl)
def CD (k:Nat):List (FuncId×aF):=(191,⟨[.val bC (.pair .leaf (.pair .leaf q0)),.val ab q3],[.val .bool .leaf],j8 k,[]⟩)::(sK k)
theorem O1 (k:Nat):ae Tryz.prog (CD k):=ae.ev ax mixed (Ed k) nA nA k Tryz.func191 (by kernel_rfl) (fun x=>by kernel_rfl)
def C7:Nat→Option aL:=fun|5=>some ⟨[(1,.box 3 aE (.pair (.pair .leaf (.pair .leaf (.pair .leaf cP))) (.pair .leaf (.pair .leaf (.pair (.sl (.sha [1])) (.pair (.sl (.sha [1])) (.pair (.sl (.sha [1])) (.pair .leaf (.pair (.sl (.sha [1])) (.pair .leaf (.pair (.sl (.sha [1])) (.pair (.sl (.sha [1])) (.pair (.sl (.sha [1])) dg))))))))))))),(3,.val (.sl ab) (.sl (.sha [1,2]))),(4,.val (.int .i64) .leaf)],4⟩|_=>none
def Dg:Nat→Option aL:=fun|9=>some ⟨[(1,.box 3 aE (.pair (.pair .leaf (.pair .leaf (.pair .leaf cP))) (.pair .leaf (.pair .leaf (.pair (.sl (.sha [1])) (.pair (.sl (.sha [1])) (.pair (.sl (.sha [1])) (.pair .leaf (.pair (.sl (.sha [1])) (.pair .leaf (.pair (.sl (.sha [1])) (.pair (.sl (.sha [1])) (.pair (.sl (.sha [1])) dg))))))))))))),(3,.val (.sl ab) (.sl (.sha [1,2])))],4⟩|_=>none
def tG (k:Nat):List (FuncId×aF):=(155,⟨[.val aE (.pair (.pair .leaf (.pair .leaf q0)) (.pair .leaf (.pair .leaf (.pair .shr (.pair .shr (.pair .shr (.pair .leaf (.pair .shr (.pair .leaf (.pair .shr jc))))))))))],[.val .bool .leaf],kz k,[]⟩)::(CD k)
theorem Gw (k:Nat):ae Tryz.prog (tG k):=ae.ev ax mixed (O1 k) C7 Dg k Tryz.func155 (by kernel_rfl) (fun x=>by kernel_rfl)
def H0:Nat→Option aL:=fun|2=>some ⟨[(0,.val (.sl ab) (.sl (.sha [1]))),(3,.val (.int .i64) .leaf)],3⟩|_=>none
def yq (k:Nat):List (FuncId×aF):=(156,⟨[.val (.sl ab) .shr],[.val .bool .leaf],gy k,[]⟩)::(tG k)
theorem KZ (k:Nat):ae Tryz.prog (yq k):=ae.ev ax mixed (Gw k) H0 nA k Tryz.func156 (by kernel_rfl) (fun x=>by kernel_rfl)
def LD:Nat→Option aL:=fun|2=>some ⟨[(1,.box 3 aU (.pair (.sl (.sha [1])) .leaf)),(3,.val (.int .i64) .leaf)],4⟩|_=>none
def Me:Nat→Option aL:=fun|6=>some ⟨[(1,.box 3 aU (.pair (.sl (.sha [1])) .leaf))],4⟩|_=>none
def Al (k:Nat):List (FuncId×aF):=(157,⟨[.val aU (.pair .shr .leaf)],[.val .bool .leaf],nZ k,[]⟩)::(yq k)
theorem Nq (k:Nat):ae Tryz.prog (Al k):=ae.ev ax mixed (KZ k) LD Me k Tryz.func157 (by kernel_rfl) (fun x=>by kernel_rfl)
def uP (k:Nat):List (FuncId×aF):=(244,⟨[.val (.int .i64) .leaf],[.val (.sl (.int .i64)) .own],ku k,[]⟩)::(Al k)
theorem ES (k:Nat):ae Tryz.prog (uP k):=ae.ev ax mixed (Nq k) nA nA k Tryz.func244 (by kernel_rfl) (fun x=>by kernel_rfl)
def H8:Nat→Option aL:=fun|2=>some ⟨[(0,.val (.sl (.int .i64)) (.sl (.sha [1]))),(1,.val (.int .i64) .leaf),(5,.val (.int .i64) .leaf)],3⟩|_=>none
def yo (k:Nat):List (FuncId×aF):=(243,⟨[.val (.sl (.int .i64)) .shr,.val (.int .i64) .leaf],[.val .bool .leaf],mZ k,[]⟩)::(uP k)
theorem K2 (k:Nat):ae Tryz.prog (yo k):=ae.ev ax mixed (ES k) H8 nA k Tryz.func243 (by kernel_rfl) (fun x=>by kernel_rfl)
def zd (k:Nat):List (FuncId×aF):=(158,⟨[.val ak (.pair .leaf (.pair .leaf (.pair q3 (.pair .shr (.pair .leaf (.pair .leaf (.pair .leaf (.pair .shr uf))))))))],[.val .bool .leaf],gx k,[]⟩)::(yo k)
theorem Lg (k:Nat):ae Tryz.prog (zd k):=ae.ev ax mixed (K2 k) nA nA k Tryz.func158 (by kernel_rfl) (fun x=>by kernel_rfl)
def sE (k:Nat):List (FuncId×aF):=(248,⟨[.val ab q3,.val ab q3],[.val .bool .leaf],cR k,[]⟩)::(zd k)
theorem CU (k:Nat):ae Tryz.prog (sE k):=ae.ev ax mixed (Lg k) nA nA k Tryz.func248 (by kernel_rfl) (fun x=>by kernel_rfl)
def xc (k:Nat):List (FuncId×aF):=(313,⟨[.val ab q3],[.val .bool .leaf],eX k,[]⟩)::(sE k)
theorem IZ (k:Nat):ae Tryz.prog (xc k):=ae.ev ax mixed (CU k) nA nA k Tryz.func313 (by kernel_rfl) (fun x=>by kernel_rfl)
def Et:Nat→Option aL:=fun|2=>some ⟨[(1,.box 3 ah (.pair .leaf (.pair .leaf (.pair qK (.pair (.sl (.sha [1])) (.pair .leaf (.pair (.sl (.sha [1])) u7))))))),(3,.val (.int .i64) .leaf)],4⟩|_=>none
def Ev:Nat→Option aL:=fun|6=>some ⟨[(1,.box 3 ah (.pair .leaf (.pair .leaf (.pair qK (.pair (.sl (.sha [1])) (.pair .leaf (.pair (.sl (.sha [1])) u7)))))))],4⟩|_=>none
def xd (k:Nat):List (FuncId×aF):=(314,⟨[.val ah (.pair .leaf (.pair .leaf (.pair q3 (.pair .shr (.pair .leaf q7)))))],[.val .bool .leaf],lJ k,[]⟩)::(xc k)
theorem Ik (k:Nat):ae Tryz.prog (xd k):=ae.ev ax mixed (IZ k) Et Ev k Tryz.func314 (by kernel_rfl) (fun x=>by kernel_rfl)
def yz (k:Nat):List (FuncId×aF):=(245,⟨[.val ah (.pair .leaf (.pair .leaf (.pair q3 (.pair .shr (.pair .leaf q7))))),.val (.int .i64) .leaf],[.val .bool .leaf],nm k,[]⟩)::(xd k)
theorem Lq (k:Nat):ae Tryz.prog (yz k):=ae.ev ax mixed (Ik k) nA nA k Tryz.func245 (by kernel_rfl) (fun x=>by kernel_rfl)
def sZ (k:Nat):List (FuncId×aF):=(246,⟨[.val (.int .i64) .leaf],[.val (.int .i64) .leaf],eh k,[]⟩)::(yz k)
theorem Dt (k:Nat):ae Tryz.prog (sZ k):=ae.ev ax mixed (Lq k) nA nA k Tryz.func246 (by kernel_rfl) (fun x=>by kernel_rfl)
def xZ (k:Nat):List (FuncId×aF):=(279,⟨[.val (.sl aq) .shr,.val (.sl af) .shr],[.val (.int .i64) .leaf],mM k,[]⟩)::(sZ k)
theorem KU (k:Nat):ae Tryz.prog (xZ k):=ae.ev ax mixed (Dt k) nA nA k Tryz.func279 (by kernel_rfl) (fun x=>by kernel_rfl)
def N8:Nat→Option aL:=fun|2=>some ⟨[(1,.val (.int .i64) .leaf),(2,.box 3 aq cP),(5,.val (.int .i64) .leaf)],4⟩|_=>none
def Cq (k:Nat):List (FuncId×aF):=(357,⟨[.val aq (.pair .leaf (.pair .leaf .shr)),.val (.int .i64) .leaf],[.val (.int .i64) .leaf],pY k,[]⟩)::(xZ k)
theorem Oc (k:Nat):ae Tryz.prog (Cq k):=ae.ev ax mixed (KU k) N8 nA k Tryz.func357 (by kernel_rfl) (fun x=>by kernel_rfl)
end Vg.Tryz
namespace Vg.Tryz
open Go Vg Go.Proofs
set_option linter.unusedVariables false
set_option maxRecDepth 1000000
def F6:Nat→Option aL:=fun|2=>some ⟨[(1,.val (.sl af) (.sl (.sha [1]))),(2,.box 3 ay (.pair .leaf (.sl (.sha [1])))),(5,.val (.int .i64) .leaf)],4⟩|_=>none
def wo (k:Nat):List (FuncId×aF):=(358,⟨[.val ay (.pair .leaf .shr),.val (.sl af) .shr],[.val (.int .i64) .leaf],l0 k,[]⟩)::(Cq k)
theorem I1 (k:Nat):ae Tryz.prog (wo k):=ae.ev ax mixed (Oc k) F6 nA k Tryz.func358 (by kernel_rfl) (fun x=>by kernel_rfl)
def yQ (k:Nat):List (FuncId×aF):=(315,⟨[.val aq (.pair .leaf (.pair .leaf .shr)),.val (.sl af) .shr],[.val ab sU,.val .bool .leaf],mS k,[]⟩)::(wo k)
theorem LC (k:Nat):ae Tryz.prog (yQ k):=ae.ev ax mixed (I1 k) nA nA k Tryz.func315 (by kernel_rfl) (fun x=>by kernel_rfl)
def sa (k:Nat):List (FuncId×aF):=(247,⟨[.val (.sl aq) .shr,.val (.sl af) .shr],[.val ab sU,.val .bool .leaf],jx k,[]⟩)::(yQ k)
theorem D4 (k:Nat):ae Tryz.prog (sa k):=ae.ev ax mixed (LC k) nA nA k Tryz.func247 (by kernel_rfl) (fun x=>by kernel_rfl)
def Iu:Nat→Option aL:=fun|4=>some ⟨[(0,.val (.sl ab) (.sl (.sha [1]))),(1,.val (.sl ab) (.sl (.sha [1]))),(5,.val (.int .i64) .leaf)],3⟩|_=>none
def yS (k:Nat):List (FuncId×aF):=(316,⟨[.val (.sl ab) .shr,.val (.sl ab) .shr],[.val .bool .leaf],mP k,[]⟩)::(sa k)
theorem KX (k:Nat):ae Tryz.prog (yS k):=ae.ev ax mixed (D4 k) Iu nA k Tryz.func316 (by kernel_rfl) (fun x=>by kernel_rfl)
def Hm:Nat→Option aL:=fun|4=>some ⟨[(2,.box 3 aE (.pair (.pair .leaf (.pair .leaf (.pair .leaf cP))) (.pair .leaf (.pair .leaf (.pair (.sl (.sha [1])) (.pair (.sl (.sha [1])) (.pair (.sl (.sha [1])) (.pair .leaf (.pair (.sl (.sha [1])) (.pair .leaf (.pair (.sl (.sha [1])) (.pair (.sl (.sha [1])) (.pair (.sl (.sha [1])) dg))))))))))))),(3,.box 4 ah (.pair .leaf (.pair .leaf (.pair qK (.pair (.sl (.sha [1])) (.pair .leaf (.pair (.sl (.sha [1])) u7))))))),(5,.val (.sl ab) (.sl (.row 5 [5] true))),(6,.val .bool .leaf),(7,.val (.int .i64) .leaf)],6⟩|_=>none
def Gk:Nat→Option aL:=fun|10=>some ⟨[(2,.box 3 aE (.pair (.pair .leaf (.pair .leaf (.pair .leaf cP))) (.pair .leaf (.pair .leaf (.pair (.sl (.sha [1])) (.pair (.sl (.sha [1])) (.pair (.sl (.sha [1])) (.pair .leaf (.pair (.sl (.sha [1])) (.pair .leaf (.pair (.sl (.sha [1])) (.pair (.sl (.sha [1])) (.pair (.sl (.sha [1])) dg))))))))))))),(3,.box 4 ah (.pair .leaf (.pair .leaf (.pair qK (.pair (.sl (.sha [1])) (.pair .leaf (.pair (.sl (.sha [1])) u7))))))),(5,.val (.sl ab) (.sl (.row 5 [5] true))),(6,.val .bool .leaf)],6⟩|_=>none
def xh (k:Nat):List (FuncId×aF):=(250,⟨[.val aE (.pair (.pair .leaf (.pair .leaf q0)) (.pair .leaf (.pair .leaf (.pair .shr (.pair .shr (.pair .shr (.pair .leaf (.pair .shr (.pair .leaf (.pair .shr jc)))))))))),.val ah (.pair .leaf (.pair .leaf (.pair q3 (.pair .shr (.pair .leaf q7)))))],[.val .bool .leaf],eV k,[]⟩)::(yS k)
theorem HX (k:Nat):ae Tryz.prog (xh k):=ae.ev ax mixed (KX k) Hm Gk k Tryz.func250 (by kernel_rfl) (fun x=>by kernel_rfl)
def GN:Nat→Option aL:=fun|26=>some ⟨[(2,.box 3 aE (.pair (.pair .leaf (.pair .leaf (.pair .leaf cP))) (.pair .leaf (.pair .leaf (.pair (.sl (.sha [1])) (.pair (.sl (.sha [1])) (.pair (.sl (.sha [1])) (.pair .leaf (.pair (.sl (.sha [1])) (.pair .leaf (.pair (.sl (.sha [1])) (.pair (.sl (.sha [1])) (.pair (.sl (.sha [1])) dg))))))))))))),(5,.box 4 ah (.pair .leaf (.pair .leaf (.pair T3 (.pair (.sl (.sha [1,2])) (.pair .leaf (.pair (.sl (.sha [1,2])) (.pair (.sl (.sha [1,2])) (.pair .leaf .leaf))))))))),(6,.box 5 ak (.pair .leaf (.pair .leaf (.pair T3 (.pair (.sl (.sha [1,2])) (.pair .leaf (.pair .leaf (.pair .leaf (.pair (.sl (.sha [1,2])) (.pair .leaf (.pair .leaf (.pair .leaf .leaf))))))))))))],6⟩|_=>none
def wH (k:Nat):List (FuncId×aF):=(159,⟨[.val aE (.pair (.pair .leaf (.pair .leaf q0)) (.pair .leaf (.pair .leaf (.pair .shr (.pair .shr (.pair .shr (.pair .leaf (.pair .shr (.pair .leaf (.pair .shr jc)))))))))),.val (.int .i64) .leaf],[.val .bool .leaf],mc k,[]⟩)::(xh k)
theorem Jy (k:Nat):ae Tryz.prog (wH k):=ae.ev ax mixed (HX k) nA GN k Tryz.func159 (by kernel_rfl) (fun x=>by kernel_rfl)
def rY (k:Nat):List (FuncId×aF):=(251,⟨[.val ah (.pair .leaf (.pair .leaf (.pair q3 (.pair .shr (.pair .leaf q7))))),.val (.int .i64) .leaf],[.val (.int .i64) .leaf],jl k,[]⟩)::(wH k)
theorem D7 (k:Nat):ae Tryz.prog (rY k):=ae.ev ax mixed (Jy k) nA nA k Tryz.func251 (by kernel_rfl) (fun x=>by kernel_rfl)
def qu (k:Nat):List (FuncId×aF):=(252,⟨[.val ah (.pair .leaf (.pair .leaf (.pair q3 (.pair .shr (.pair .leaf q7)))))],[.val .bool .leaf],gD k,[]⟩)::(rY k)
theorem AO (k:Nat):ae Tryz.prog (qu k):=ae.ev ax mixed (D7 k) nA nA k Tryz.func252 (by kernel_rfl) (fun x=>by kernel_rfl)
def DG:Nat→Option aL:=fun|3=>some ⟨[(1,.box 3 aE (.pair (.pair .leaf (.pair .leaf (.pair .leaf cP))) (.pair .leaf (.pair .leaf (.pair (.sl (.sha [1])) (.pair (.sl (.sha [1])) (.pair (.sl (.sha [1])) (.pair .leaf (.pair (.sl (.sha [1])) (.pair .leaf (.pair (.sl (.sha [1])) (.pair (.sl (.sha [1])) (.pair (.sl (.sha [1])) dg))))))))))))),(3,.val (.sl (.int .i64)) (.sl (.row 4 [] true))),(4,.val (.int .i64) .leaf)],5⟩|8=>some ⟨[(1,.box 3 aE (.pair (.pair .leaf (.pair .leaf (.pair .leaf cP))) (.pair .leaf (.pair .leaf (.pair (.sl (.sha [1])) (.pair (.sl (.sha [1])) (.pair (.sl (.sha [1])) (.pair .leaf (.pair (.sl (.sha [1])) (.pair .leaf (.pair (.sl (.sha [1])) (.pair (.sl (.sha [1])) (.pair (.sl (.sha [1])) dg))))))))))))),(3,.val (.sl (.int .i64)) (.sl (.row 4 [] true))),(5,.val (.int .i64) .leaf),(6,.val (.int .i64) .leaf)],5⟩|20=>some ⟨[(1,.box 3 aE (.pair (.pair .leaf (.pair .leaf (.pair .leaf cP))) (.pair .leaf (.pair .leaf (.pair (.sl (.sha [1])) (.pair (.sl (.sha [1])) (.pair (.sl (.sha [1])) (.pair .leaf (.pair (.sl (.sha [1])) (.pair .leaf (.pair (.sl (.sha [1])) (.pair (.sl (.sha [1])) (.pair (.sl (.sha [1])) dg))))))))))))),(3,.val (.sl (.int .i64)) (.sl (.row 4 [] true))),(5,.val (.int .i64) .leaf),(8,.val (.int .i64) .leaf)],5⟩|_=>none
def Dy:Nat→Option aL:=fun|6=>some ⟨[(1,.box 3 aE (.pair (.pair .leaf (.pair .leaf (.pair .leaf cP))) (.pair .leaf (.pair .leaf (.pair (.sl (.sha [1])) (.pair (.sl (.sha [1])) (.pair (.sl (.sha [1])) (.pair .leaf (.pair (.sl (.sha [1])) (.pair .leaf (.pair (.sl (.sha [1])) (.pair (.sl (.sha [1])) (.pair (.sl (.sha [1])) dg))))))))))))),(3,.val (.sl (.int .i64)) (.sl (.row 4 [] true)))],5⟩|15=>some ⟨[(1,.box 3 aE (.pair (.pair .leaf (.pair .leaf (.pair .leaf cP))) (.pair .leaf (.pair .leaf (.pair (.sl (.sha [1])) (.pair (.sl (.sha [1])) (.pair (.sl (.sha [1])) (.pair .leaf (.pair (.sl (.sha [1])) (.pair .leaf (.pair (.sl (.sha [1])) (.pair (.sl (.sha [1])) (.pair (.sl (.sha [1])) dg))))))))))))),(3,.val (.sl (.int .i64)) (.sl (.row 4 [] true))),(5,.val (.int .i64) .leaf),(6,.val (.int .i64) .leaf)],5⟩|19=>some ⟨[(1,.box 3 aE (.pair (.pair .leaf (.pair .leaf (.pair .leaf cP))) (.pair .leaf (.pair .leaf (.pair (.sl (.sha [1])) (.pair (.sl (.sha [1])) (.pair (.sl (.sha [1])) (.pair .leaf (.pair (.sl (.sha [1])) (.pair .leaf (.pair (.sl (.sha [1])) (.pair (.sl (.sha [1])) (.pair (.sl (.sha [1])) dg))))))))))))),(3,.val (.sl (.int .i64)) (.sl (.row 4 [] true))),(5,.val (.int .i64) .leaf)],5⟩|24=>some ⟨[(1,.box 3 aE (.pair (.pair .leaf (.pair .leaf (.pair .leaf cP))) (.pair .leaf (.pair .leaf (.pair (.sl (.sha [1])) (.pair (.sl (.sha [1])) (.pair (.sl (.sha [1])) (.pair .leaf (.pair (.sl (.sha [1])) (.pair .leaf (.pair (.sl (.sha [1])) (.pair (.sl (.sha [1])) (.pair (.sl (.sha [1])) dg))))))))))))),(5,.val (.int .i64) .leaf)],4⟩|_=>none
def uc (k:Nat):List (FuncId×aF):=(160,⟨[.val aE (.pair (.pair .leaf (.pair .leaf q0)) (.pair .leaf (.pair .leaf (.pair .shr (.pair .shr (.pair .shr (.pair .leaf (.pair .shr (.pair .leaf (.pair .shr jc))))))))))],[.val .bool .leaf],gH k,[]⟩)::(qu k)
theorem GC (k:Nat):ae Tryz.prog (uc k):=ae.ev ax mixed (AO k) DG Dy k Tryz.func160 (by kernel_rfl) (fun x=>by kernel_rfl)
def LJ:Nat→Option aL:=fun|2=>some ⟨[(0,.val (.sl .str) (.sl (.sha [1]))),(1,.val .str .leaf),(5,.val (.int .i64) .leaf)],3⟩|_=>none
def AP (k:Nat):List (FuncId×aF):=(369,⟨[.val (.sl .str) .shr,.val .str .leaf],[.val .bool .leaf],oo k,[]⟩)::(uc k)
theorem MO (k:Nat):ae Tryz.prog (AP k):=ae.ev ax mixed (GC k) LJ nA k Tryz.func369 (by kernel_rfl) (fun x=>by kernel_rfl)
def Ga:Nat→Option aL:=fun|3=>some ⟨[(0,.val (.sl af) (.sl (.sha [1]))),(1,.val (.sl .str) (.sl (.sha [1]))),(5,.val (.sl af) (.sl (.row 3 [] true))),(6,.val (.int .i64) .leaf)],4⟩|_=>none
def vU (k:Nat):List (FuncId×aF):=(342,⟨[.val (.sl af) .shr,.val (.sl .str) .shr],[.val (.sl af) .own],pg k,[]⟩)::(AP k)
theorem JH (k:Nat):ae Tryz.prog (vU k):=ae.ev ax mixed (MO k) Ga nA k Tryz.func342 (by kernel_rfl) (fun x=>by kernel_rfl)
def Ae (k:Nat):List (FuncId×aF):=(286,⟨[.val ab q3,.val (.sl .str) .shr],[.val (.sl af) .own],oE k,[]⟩)::(vU k)
theorem MD (k:Nat):ae Tryz.prog (Ae k):=ae.ev ax mixed (JH k) nA nA k Tryz.func286 (by kernel_rfl) (fun x=>by kernel_rfl)
def Hd:Nat→Option aL:=fun|2=>some ⟨[(1,.val (.sl .str) (.sl (.sha [1]))),(2,.box 3 al (.pair .leaf (.pair (.sl (.sha [1])) cP))),(5,.val (.int .i64) .leaf)],4⟩|_=>none
def Ff:Nat→Option aL:=fun|6=>some ⟨[(2,.box 3 al (.pair .leaf (.pair (.sl (.sha [1])) cP)))],4⟩|_=>none
def wv (k:Nat):List (FuncId×aF):=(319,⟨[.val al (.pair .leaf q4),.val (.sl .str) .shr],[.val .bool .leaf],lB k,[]⟩)::(Ae k)
theorem J9 (k:Nat):ae Tryz.prog (wv k):=ae.ev ax mixed (MD k) Hd Ff k Tryz.func319 (by kernel_rfl) (fun x=>by kernel_rfl)
def CL:Nat→Option aL:=fun|2=>some ⟨[(0,.val (.sl al) (.sl (.sha [1]))),(1,.val (.sl .str) (.sl (.sha [1]))),(5,.val (.int .i64) .leaf)],3⟩|7=>some ⟨[(0,.val (.sl al) (.sl (.sha [1]))),(1,.val (.sl .str) (.sl (.sha [1]))),(5,.val (.int .i64) .leaf),(6,.val (.int .i64) .leaf)],3⟩|_=>none
def DR:Nat→Option aL:=fun|11=>some ⟨[(0,.val (.sl al) (.sl (.sha [1])))],3⟩|_=>none
def uQ (k:Nat):List (FuncId×aF):=(253,⟨[.val (.sl al) .shr,.val (.sl .str) .shr],[.val .bool .leaf],ky k,[]⟩)::(wv k)
theorem ER (k:Nat):ae Tryz.prog (uQ k):=ae.ev ax mixed (J9 k) CL DR k Tryz.func253 (by kernel_rfl) (fun x=>by kernel_rfl)
def yF (k:Nat):List (FuncId×aF):=(293,⟨[.val aC (.pair .leaf .leaf),.val aC (.pair .leaf .leaf)],[.val .bool .leaf],mR k,[]⟩)::(uQ k)
theorem K9 (k:Nat):ae Tryz.prog (yF k):=ae.ev ax mixed (ER k) nA nA k Tryz.func293 (by kernel_rfl) (fun x=>by kernel_rfl)
def I0:Nat→Option aL:=fun|2=>some ⟨[(0,.val (.sl aC) (.sl (.sha [1]))),(3,.val (.int .i64) .leaf)],3⟩|_=>none
def IW:Nat→Option aL:=fun|6=>some ⟨[(0,.val (.sl aC) (.sl (.sha [1])))],3⟩|_=>none
def yU (k:Nat):List (FuncId×aF):=(254,⟨[.val (.sl aC) .shr],[.val .bool .leaf],mK k,[]⟩)::(yF k)
theorem Mj (k:Nat):ae Tryz.prog (yU k):=ae.ev ax mixed (K9 k) I0 IW k Tryz.func254 (by kernel_rfl) (fun x=>by kernel_rfl)
def vq (k:Nat):List (FuncId×aF):=(320,⟨[.val al (.pair .leaf q4),.val (.int .i64) .leaf,.val (.int .i64) .leaf],[.val (.int .i64) .leaf],pq k,[]⟩)::(yU k)
theorem Kg (k:Nat):ae Tryz.prog (vq k):=ae.ev ax mixed (Mj k) nA nA k Tryz.func320 (by kernel_rfl) (fun x=>by kernel_rfl)
def E8 (k:Nat):List (FuncId×aF):=(255,⟨[.val bC (.pair .leaf (.pair .leaf q0)),.val al (.pair .leaf q4)],[.val (.int .i64) .leaf],rG k,[]⟩)::(vq k)
theorem QC (k:Nat):ae Tryz.prog (E8 k):=ae.ev ax mixed (Kg k) nA nA k Tryz.func255 (by kernel_rfl) (fun x=>by kernel_rfl)
def BV:Nat→Option aL:=fun|4=>some ⟨[(1,.box 3 aE (.pair (.pair .leaf (.pair .leaf (.pair .leaf cP))) (.pair .leaf (.pair .leaf (.pair (.sl (.sha [1])) (.pair (.sl (.sha [1])) (.pair (.sl (.sha [1])) (.pair .leaf (.pair (.sl (.sha [1])) (.pair .leaf (.pair (.sl (.sha [1])) (.pair (.sl (.sha [1])) (.pair (.sl (.sha [1])) dg))))))))))))),(3,.val (.int .i64) .leaf)],4⟩|9=>some ⟨[(1,.box 3 aE (.pair (.pair .leaf (.pair .leaf (.pair .leaf cP))) (.pair .leaf (.pair .leaf (.pair (.sl (.sha [1])) (.pair (.sl (.sha [1])) (.pair (.sl (.sha [1])) (.pair .leaf (.pair (.sl (.sha [1])) (.pair .leaf (.pair (.sl (.sha [1])) (.pair (.sl (.sha [1])) (.pair (.sl (.sha [1])) dg))))))))))))),(3,.val (.int .i64) .leaf),(4,.val (.int .i64) .leaf)],4⟩|14=>some ⟨[(1,.box 3 aE (.pair (.pair .leaf (.pair .leaf (.pair .leaf cP))) (.pair .leaf (.pair .leaf (.pair (.sl (.sha [1])) (.pair (.sl (.sha [1])) (.pair (.sl (.sha [1])) (.pair .leaf (.pair (.sl (.sha [1])) (.pair .leaf (.pair (.sl (.sha [1])) (.pair (.sl (.sha [1])) (.pair (.sl (.sha [1])) dg))))))))))))),(5,.val (.int .i64) .leaf)],4⟩|19=>some ⟨[(1,.box 3 aE (.pair (.pair .leaf (.pair .leaf (.pair .leaf cP))) (.pair .leaf (.pair .leaf (.pair (.sl (.sha [1])) (.pair (.sl (.sha [1])) (.pair (.sl (.sha [1])) (.pair .leaf (.pair (.sl (.sha [1])) (.pair .leaf (.pair (.sl (.sha [1])) (.pair (.sl (.sha [1])) (.pair (.sl (.sha [1])) dg))))))))))))),(5,.val (.int .i64) .leaf),(6,.box 4 al (.pair .leaf (.pair (.sl (.sha [1,2])) HG))),(7,.val .bool .leaf),(8,.val (.int .i64) .leaf)],5⟩|_=>none
def B5:Nat→Option aL:=fun|13=>some ⟨[(1,.box 3 aE (.pair (.pair .leaf (.pair .leaf (.pair .leaf cP))) (.pair .leaf (.pair .leaf (.pair (.sl (.sha [1])) (.pair (.sl (.sha [1])) (.pair (.sl (.sha [1])) (.pair .leaf (.pair (.sl (.sha [1])) (.pair .leaf (.pair (.sl (.sha [1])) (.pair (.sl (.sha [1])) (.pair (.sl (.sha [1])) dg)))))))))))))],4⟩|22=>some ⟨[(1,.box 3 aE (.pair (.pair .leaf (.pair .leaf (.pair .leaf cP))) (.pair .leaf (.pair .leaf (.pair (.sl (.sha [1])) (.pair (.sl (.sha [1])) (.pair (.sl (.sha [1])) (.pair .leaf (.pair (.sl (.sha [1])) (.pair .leaf (.pair (.sl (.sha [1])) (.pair (.sl (.sha [1])) (.pair (.sl (.sha [1])) dg))))))))))))),(5,.val (.int .i64) .leaf),(6,.box 4 al (.pair .leaf (.pair (.sl (.sha [1,2])) HG))),(7,.val .bool .leaf)],5⟩|_=>none
def tp (k:Nat):List (FuncId×aF):=(161,⟨[.val aE (.pair (.pair .leaf (.pair .leaf q0)) (.pair .leaf (.pair .leaf (.pair .shr (.pair .shr (.pair .shr (.pair .leaf (.pair .shr (.pair .leaf (.pair .shr jc))))))))))],[.val .bool .leaf],gn k,[]⟩)::(E8 k)
theorem DD (k:Nat):ae Tryz.prog (tp k):=ae.ev ax mixed (QC k) BV B5 k Tryz.func161 (by kernel_rfl) (fun x=>by kernel_rfl)
def Gt:Nat→Option aL:=fun|4=>some ⟨[(1,.box 3 aE (.pair (.pair .leaf (.pair .leaf (.pair .leaf cP))) (.pair .leaf (.pair .leaf (.pair (.sl (.sha [1])) (.pair (.sl (.sha [1])) (.pair (.sl (.sha [1])) (.pair .leaf (.pair (.sl (.sha [1])) (.pair .leaf (.pair (.sl (.sha [1])) (.pair (.sl (.sha [1])) (.pair (.sl (.sha [1])) dg))))))))))))),(3,.val (.int .i64) .leaf)],4⟩|9=>some ⟨[(1,.box 3 aE (.pair (.pair .leaf (.pair .leaf (.pair .leaf cP))) (.pair .leaf (.pair .leaf (.pair (.sl (.sha [1])) (.pair (.sl (.sha [1])) (.pair (.sl (.sha [1])) (.pair .leaf (.pair (.sl (.sha [1])) (.pair .leaf (.pair (.sl (.sha [1])) (.pair (.sl (.sha [1])) (.pair (.sl (.sha [1])) dg))))))))))))),(4,.val (.int .i64) .leaf)],4⟩|15=>some ⟨[(1,.box 3 aE (.pair (.pair .leaf (.pair .leaf (.pair .leaf cP))) (.pair .leaf (.pair .leaf (.pair (.sl (.sha [1])) (.pair (.sl (.sha [1])) (.pair (.sl (.sha [1])) (.pair .leaf (.pair (.sl (.sha [1])) (.pair .leaf (.pair (.sl (.sha [1])) (.pair (.sl (.sha [1])) (.pair (.sl (.sha [1])) dg))))))))))))),(6,.val (.int .i64) .leaf)],4⟩|_=>none
def GO:Nat→Option aL:=fun|8=>some ⟨[(1,.box 3 aE (.pair (.pair .leaf (.pair .leaf (.pair .leaf cP))) (.pair .leaf (.pair .leaf (.pair (.sl (.sha [1])) (.pair (.sl (.sha [1])) (.pair (.sl (.sha [1])) (.pair .leaf (.pair (.sl (.sha [1])) (.pair .leaf (.pair (.sl (.sha [1])) (.pair (.sl (.sha [1])) (.pair (.sl (.sha [1])) dg)))))))))))))],4⟩|14=>some ⟨[(1,.box 3 aE (.pair (.pair .leaf (.pair .leaf (.pair .leaf cP))) (.pair .leaf (.pair .leaf (.pair (.sl (.sha [1])) (.pair (.sl (.sha [1])) (.pair (.sl (.sha [1])) (.pair .leaf (.pair (.sl (.sha [1])) (.pair .leaf (.pair (.sl (.sha [1])) (.pair (.sl (.sha [1])) (.pair (.sl (.sha [1])) dg)))))))))))))],4⟩|19=>some ⟨[(1,.box 3 aE (.pair (.pair .leaf (.pair .leaf (.pair .leaf cP))) (.pair .leaf (.pair .leaf (.pair (.sl (.sha [1])) (.pair (.sl (.sha [1])) (.pair (.sl (.sha [1])) (.pair .leaf (.pair (.sl (.sha [1])) (.pair .leaf (.pair (.sl (.sha [1])) (.pair (.sl (.sha [1])) (.pair (.sl (.sha [1])) dg)))))))))))))],4⟩|_=>none
def vK (k:Nat):List (FuncId×aF):=(76,⟨[.val aE (.pair (.pair .leaf (.pair .leaf q0)) (.pair .leaf (.pair .leaf (.pair .shr (.pair .shr (.pair .shr (.pair .leaf (.pair .shr (.pair .leaf (.pair .shr jc))))))))))],[.val .bool .leaf],lY k,[]⟩)::(tp k)
theorem JT (k:Nat):ae Tryz.prog (vK k):=ae.ev ax mixed (DD k) Gt GO k Tryz.func76 (by kernel_rfl) (fun x=>by kernel_rfl)
def CA (k:Nat):List (FuncId×aF):=(78,⟨[.val aE (.pair (.pair .leaf (.pair .leaf q0)) (.pair .leaf (.pair .leaf (.pair .shr (.pair .shr (.pair .shr (.pair .leaf (.pair .shr (.pair .leaf (.pair .shr jc)))))))))),.val (.int .i64) .leaf],[.val .bool .leaf],pV k,[]⟩)::(vK k)
theorem Oq (k:Nat):ae Tryz.prog (CA k):=ae.ev ax mixed (JT k) nA nA k Tryz.func78 (by kernel_rfl) (fun x=>by kernel_rfl)
def uu (k:Nat):List (FuncId×aF):=(162,⟨[.io aE (.pair (.pair .leaf (.pair .leaf vg)) (.pair .leaf (.pair .leaf (.pair .own (.pair .own (.pair .own (.pair .leaf (.pair .own (.pair .leaf (.pair .own Cd)))))))))),.val (.int .i64) .leaf,.val ah (.pair .leaf (.pair .leaf (.pair q3 (.pair .shr (.pair .leaf q7)))))],[],fp k,[(0,(dv 14 12))]⟩)::(CA k)
theorem GL (k:Nat):ae Tryz.prog (uu k):=ae.ev ax mixed (Oq k) nA nA k Tryz.func162 (by kernel_rfl) (fun x=>by kernel_rfl)
def uk (k:Nat):List (FuncId×aF):=(192,⟨[.io aE (.pair (.pair .leaf (.pair .leaf vg)) (.pair .leaf (.pair .leaf (.pair .own (.pair .own (.pair .own (.pair .leaf (.pair .own (.pair .leaf (.pair .own Cd)))))))))),.val ak (.pair .leaf (.pair .leaf (.pair sU (.pair .own (.pair .leaf (.pair .leaf (.pair .leaf (.pair .own uf))))))))],[],kt k,[(0,(dv 14 12))]⟩)::(uu k)
theorem Fo (k:Nat):ae Tryz.prog (uk k):=ae.ev ax mixed (GL k) nA nA k Tryz.func192 (by kernel_rfl) (fun x=>by kernel_rfl)
def Em:Nat→Option aL:=fun|4=>some ⟨[(0,.box 3 aE (.pair (.pair .leaf (.pair .leaf (.pair .leaf Ar))) (.pair .leaf (.pair .leaf (.pair (.sl (.row 5 [5] true)) (.pair (.sl (.row 6 [6] true)) (.pair (.sl (.row 7 [7] true)) (.pair .leaf (.pair (.sl (.row 8 [8] true)) (.pair .leaf (.pair (.sl (.row 9 [9] true)) (.pair (.sl (.row 10 [10] true)) (.pair (.sl (.row 11 [11] true)) Ua))))))))))))),(5,.box 14 ab qK)],15⟩|_=>none
def tP (k:Nat):List (FuncId×aF):=(108,⟨[.io aE (.pair (.pair .leaf (.pair .leaf vg)) (.pair .leaf (.pair .leaf (.pair .own (.pair .own (.pair .own (.pair .leaf (.pair .own (.pair .leaf (.pair .own Cd)))))))))),.val (.int .i64) .leaf,.val ab q3],[],nW k,[]⟩)::(uk k)
theorem Fl (k:Nat):ae Tryz.prog (tP k):=ae.ev ax mixed (Fo k) nA Em k Tryz.func108 (by kernel_rfl) (fun x=>by kernel_rfl)
def AD (k:Nat):List (FuncId×aF):=(31,⟨[.val aE (.pair (.pair .leaf (.pair .leaf q0)) (.pair .leaf (.pair .leaf (.pair .shr (.pair .shr (.pair .shr (.pair .leaf (.pair .shr (.pair .leaf (.pair .shr jc)))))))))),.val (.int .i64) .leaf,.val ab q3],[.val aE (.pair (.pair .leaf (.pair .leaf vg)) (.pair .leaf (.pair .leaf (.pair .own (.pair .own (.pair .own (.pair .leaf (.pair .own (.pair .leaf (.pair .own Cd)))))))))),.val .bool .leaf],od k,[]⟩)::(tP k)
theorem N4 (k:Nat):ae Tryz.prog (AD k):=ae.ev ax mixed (Fl k) nA nA k Tryz.func31 (by kernel_rfl) (fun x=>by kernel_rfl)
end Vg.Tryz
namespace Vg.Tryz
open Go Vg Go.Proofs
set_option linter.unusedVariables false
set_option maxRecDepth 1000000
def tX (k:Nat):List (FuncId×aF):=(163,⟨[.val bC (.pair .leaf (.pair .leaf q0))],[.val bC (.pair .leaf (.pair .leaf vg))],kF k,[]⟩)::(AD k)
theorem Fb (k:Nat):ae Tryz.prog (tX k):=ae.ev ax mixed (N4 k) nA nA k Tryz.func163 (by kernel_rfl) (fun x=>by kernel_rfl)
def wZ (k:Nat):List (FuncId×aF):=(190,⟨[.val (.sl af) .shr],[.val (.sl af) .own],et k,[]⟩)::(tX k)
theorem Jh (k:Nat):ae Tryz.prog (wZ k):=ae.ev ax mixed (Fb k) nA nA k Tryz.func190 (by kernel_rfl) (fun x=>by kernel_rfl)
def td (k:Nat):List (FuncId×aF):=(196,⟨[.val ab q3],[.val ab sU],cS k,[]⟩)::(wZ k)
theorem Da (k:Nat):ae Tryz.prog (td k):=ae.ev ax mixed (Jh k) nA nA k Tryz.func196 (by kernel_rfl) (fun x=>by kernel_rfl)
def zP:Nat→Option aL:=fun|3=>some ⟨[(3,.val (.sl ab) (.sl (.row 3 [3] true))),(6,.val (.sl ab) (.sl (.sha [1]))),(7,.val (.int .i64) .leaf),(8,.val (.int .i64) .leaf)],4⟩|_=>none
def ry (k:Nat):List (FuncId×aF):=(166,⟨[.val (.sl ab) .shr],[.val (.sl ab) .own],cw k,[]⟩)::(td k)
theorem BT (k:Nat):ae Tryz.prog (ry k):=ae.ev ax mixed (Da k) zP nA k Tryz.func166 (by kernel_rfl) (fun x=>by kernel_rfl)
def rT (k:Nat):List (FuncId×aF):=(321,⟨[.val ay (.pair .leaf .shr)],[.val ay (.pair .leaf .own)],jB k,[]⟩)::(ry k)
theorem C5 (k:Nat):ae Tryz.prog (rT k):=ae.ev ax mixed (BT k) nA nA k Tryz.func321 (by kernel_rfl) (fun x=>by kernel_rfl)
def Ee:Nat→Option aL:=fun|3=>some ⟨[(1,.box 3 aq cP),(2,.box 4 aq yc),(3,.box 5 aq Ck),(12,.val (.sl ay) (.sl (.sha [1]))),(13,.val (.int .i64) .leaf),(14,.val (.int .i64) .leaf)],7⟩|_=>none
def uD (k:Nat):List (FuncId×aF):=(256,⟨[.val aq (.pair .leaf (.pair .leaf .shr))],[.val aq (.pair .leaf (.pair .leaf .own))],gz k,[]⟩)::(rT k)
theorem Eu (k:Nat):ae Tryz.prog (uD k):=ae.ev ax mixed (C5 k) Ee nA k Tryz.func256 (by kernel_rfl) (fun x=>by kernel_rfl)
def BH:Nat→Option aL:=fun|3=>some ⟨[(3,.val (.sl aq) (.sl (.row 3 [3] true))),(6,.val (.sl aq) (.sl (.sha [1]))),(7,.val (.int .i64) .leaf),(8,.val (.int .i64) .leaf)],4⟩|_=>none
def sD (k:Nat):List (FuncId×aF):=(164,⟨[.val (.sl aq) .shr],[.val (.sl aq) .own],nB k,[]⟩)::(uD k)
theorem Dn (k:Nat):ae Tryz.prog (sD k):=ae.ev ax mixed (Eu k) BH nA k Tryz.func164 (by kernel_rfl) (fun x=>by kernel_rfl)
def xg (k:Nat):List (FuncId×aF):=(257,⟨[.val aU (.pair .shr .leaf)],[.val aU (.pair .own .leaf)],iV k,[]⟩)::(sD k)
theorem I5 (k:Nat):ae Tryz.prog (xg k):=ae.ev ax mixed (Dn k) nA nA k Tryz.func257 (by kernel_rfl) (fun x=>by kernel_rfl)
def DA:Nat→Option aL:=fun|3=>some ⟨[(3,.val (.sl aU) (.sl (.row 3 [3] true))),(6,.val (.sl aU) (.sl (.sha [1]))),(7,.val (.int .i64) .leaf),(8,.val (.int .i64) .leaf)],4⟩|_=>none
def tH (k:Nat):List (FuncId×aF):=(165,⟨[.val (.sl aU) .shr],[.val (.sl aU) .own],ow k,[]⟩)::(xg k)
theorem GW (k:Nat):ae Tryz.prog (tH k):=ae.ev ax mixed (I5 k) DA nA k Tryz.func165 (by kernel_rfl) (fun x=>by kernel_rfl)
def sR (k:Nat):List (FuncId×aF):=(258,⟨[.val al (.pair .leaf q4)],[.val al (.pair .leaf Uo)],gg k,[]⟩)::(tH k)
theorem DC (k:Nat):ae Tryz.prog (sR k):=ae.ev ax mixed (GW k) nA nA k Tryz.func258 (by kernel_rfl) (fun x=>by kernel_rfl)
def zA:Nat→Option aL:=fun|3=>some ⟨[(3,.val (.sl al) (.sl (.row 3 [3] true))),(6,.val (.sl al) (.sl (.sha [1]))),(7,.val (.int .i64) .leaf),(8,.val (.int .i64) .leaf)],4⟩|_=>none
def qX (k:Nat):List (FuncId×aF):=(167,⟨[.val (.sl al) .shr],[.val (.sl al) .own],mo k,[]⟩)::(sR k)
theorem Bh (k:Nat):ae Tryz.prog (qX k):=ae.ev ax mixed (DC k) zA nA k Tryz.func167 (by kernel_rfl) (fun x=>by kernel_rfl)
def qZ (k:Nat):List (FuncId×aF):=(168,⟨[.val (.sl aC) .shr],[.val (.sl aC) .own],iq k,[]⟩)::(qX k)
theorem Bj (k:Nat):ae Tryz.prog (qZ k):=ae.ev ax mixed (Bh k) nA nA k Tryz.func168 (by kernel_rfl) (fun x=>by kernel_rfl)
def sN (k:Nat):List (FuncId×aF):=(169,⟨[.val aN q6],[.val aN T0],jr k,[]⟩)::(qZ k)
theorem CK (k:Nat):ae Tryz.prog (sN k):=ae.ev ax mixed (Bj k) nA nA k Tryz.func169 (by kernel_rfl) (fun x=>by kernel_rfl)
def tQ (k:Nat):List (FuncId×aF):=(170,⟨[.val ah (.pair .leaf (.pair .leaf (.pair q3 (.pair .shr (.pair .leaf q7)))))],[.val ah (.pair .leaf (.pair .leaf (.pair sU (.pair .own (.pair .leaf UD)))))],kC k,[]⟩)::(sN k)
theorem FR (k:Nat):ae Tryz.prog (tQ k):=ae.ev ax mixed (CK k) nA nA k Tryz.func170 (by kernel_rfl) (fun x=>by kernel_rfl)
def ux (k:Nat):List (FuncId×aF):=(171,⟨[.val ak (.pair .leaf (.pair .leaf (.pair q3 (.pair .shr (.pair .leaf (.pair .leaf (.pair .leaf (.pair .shr uf))))))))],[.val ak (.pair .leaf (.pair .leaf (.pair sU (.pair .own (.pair .leaf (.pair .leaf (.pair .leaf (.pair .own uf))))))))],kq k,[]⟩)::(tQ k)
theorem EG (k:Nat):ae Tryz.prog (ux k):=ae.ev ax mixed (FR k) nA nA k Tryz.func171 (by kernel_rfl) (fun x=>by kernel_rfl)
def BU:Nat→Option aL:=fun|6=>some ⟨[(1,.box 3 aE (.pair (.pair .leaf (.pair .leaf (.pair .leaf Ar))) (.pair .leaf (.pair .leaf (.pair (.sl (.row 5 [5] true)) (.pair (.sl (.row 6 [6] true)) (.pair (.sl (.row 7 [7] true)) (.pair .leaf (.pair (.sl (.row 8 [8] true)) (.pair .leaf (.pair (.sl (.row 9 [9] true)) (.pair (.sl (.sha [1])) (.pair (.sl (.row 10 [10] true)) dg))))))))))))),(2,.box 11 aE (.pair (.pair .leaf (.pair .leaf (.pair .leaf yc))) (.pair .leaf (.pair .leaf (.pair (.sl (.sha [])) (.pair (.sl (.sha [])) (.pair (.sl (.sha [])) (.pair .leaf (.pair (.sl (.sha [])) (.pair .leaf (.pair (.sl (.sha [])) (.pair (.sl (.sha [])) Ct)))))))))))),(3,.val (.sl aN) (.sl (.row 12 [12] true))),(41,.val (.sl aN) (.sl (.sha [1]))),(42,.val (.int .i64) .leaf),(43,.val (.int .i64) .leaf)],13⟩|12=>some ⟨[(1,.box 3 aE (.pair (.pair .leaf (.pair .leaf (.pair .leaf Ar))) (.pair .leaf (.pair .leaf (.pair (.sl (.row 5 [5] true)) (.pair (.sl (.row 6 [6] true)) (.pair (.sl (.row 7 [7] true)) (.pair .leaf (.pair (.sl (.row 8 [8] true)) (.pair .leaf (.pair (.sl (.row 9 [9] true)) (.pair (.sl (.sha [1])) (.pair (.sl (.row 10 [10] true)) dg))))))))))))),(2,.box 11 aE (.pair (.pair .leaf (.pair .leaf (.pair .leaf yc))) (.pair .leaf (.pair .leaf (.pair (.sl (.sha [])) (.pair (.sl (.sha [])) (.pair (.sl (.sha [])) (.pair .leaf (.pair (.sl (.sha [])) (.pair .leaf (.pair (.sl (.sha [])) (.pair (.sl (.sha [])) Ct)))))))))))),(3,.val (.sl aN) (.sl (.row 12 [12] true))),(6,.val (.sl ah) (.sl (.row 13 [13] true))),(54,.val (.sl ah) (.sl (.sha [1]))),(55,.val (.int .i64) .leaf),(56,.val (.int .i64) .leaf)],14⟩|18=>some ⟨[(1,.box 3 aE (.pair (.pair .leaf (.pair .leaf (.pair .leaf Ar))) (.pair .leaf (.pair .leaf (.pair (.sl (.row 5 [5] true)) (.pair (.sl (.row 6 [6] true)) (.pair (.sl (.row 7 [7] true)) (.pair .leaf (.pair (.sl (.row 8 [8] true)) (.pair .leaf (.pair (.sl (.row 9 [9] true)) (.pair (.sl (.sha [1])) (.pair (.sl (.row 10 [10] true)) dg))))))))))))),(2,.box 11 aE (.pair (.pair .leaf (.pair .leaf (.pair .leaf yc))) (.pair .leaf (.pair .leaf (.pair (.sl (.sha [])) (.pair (.sl (.sha [])) (.pair (.sl (.sha [])) (.pair .leaf (.pair (.sl (.sha [])) (.pair .leaf (.pair (.sl (.sha [])) (.pair (.sl (.sha [])) Ct)))))))))))),(3,.val (.sl aN) (.sl (.row 12 [12] true))),(6,.val (.sl ah) (.sl (.row 13 [13] true))),(9,.val (.sl ak) (.sl (.row 14 [14] true))),(67,.val (.sl ak) (.sl (.sha [1]))),(68,.val (.int .i64) .leaf),(69,.val (.int .i64) .leaf)],15⟩|_=>none
def A9:Nat→Option aL:=fun|10=>some ⟨[(1,.box 3 aE (.pair (.pair .leaf (.pair .leaf (.pair .leaf Ar))) (.pair .leaf (.pair .leaf (.pair (.sl (.row 5 [5] true)) (.pair (.sl (.row 6 [6] true)) (.pair (.sl (.row 7 [7] true)) (.pair .leaf (.pair (.sl (.row 8 [8] true)) (.pair .leaf (.pair (.sl (.row 9 [9] true)) (.pair (.sl (.sha [1])) (.pair (.sl (.row 10 [10] true)) dg))))))))))))),(2,.box 11 aE (.pair (.pair .leaf (.pair .leaf (.pair .leaf yc))) (.pair .leaf (.pair .leaf (.pair (.sl (.sha [])) (.pair (.sl (.sha [])) (.pair (.sl (.sha [])) (.pair .leaf (.pair (.sl (.sha [])) (.pair .leaf (.pair (.sl (.sha [])) (.pair (.sl (.sha [])) Ct)))))))))))),(3,.val (.sl aN) (.sl (.row 12 [12] true)))],13⟩|16=>some ⟨[(1,.box 3 aE (.pair (.pair .leaf (.pair .leaf (.pair .leaf Ar))) (.pair .leaf (.pair .leaf (.pair (.sl (.row 5 [5] true)) (.pair (.sl (.row 6 [6] true)) (.pair (.sl (.row 7 [7] true)) (.pair .leaf (.pair (.sl (.row 8 [8] true)) (.pair .leaf (.pair (.sl (.row 9 [9] true)) (.pair (.sl (.sha [1])) (.pair (.sl (.row 10 [10] true)) dg))))))))))))),(2,.box 11 aE (.pair (.pair .leaf (.pair .leaf (.pair .leaf yc))) (.pair .leaf (.pair .leaf (.pair (.sl (.sha [])) (.pair (.sl (.sha [])) (.pair (.sl (.sha [])) (.pair .leaf (.pair (.sl (.sha [])) (.pair .leaf (.pair (.sl (.sha [])) (.pair (.sl (.sha [])) Ct)))))))))))),(3,.val (.sl aN) (.sl (.row 12 [12] true))),(6,.val (.sl ah) (.sl (.row 13 [13] true)))],14⟩|22=>some ⟨[(1,.box 3 aE (.pair (.pair .leaf (.pair .leaf (.pair .leaf Ar))) (.pair .leaf (.pair .leaf (.pair (.sl (.row 5 [5] true)) (.pair (.sl (.row 6 [6] true)) (.pair (.sl (.row 7 [7] true)) (.pair .leaf (.pair (.sl (.row 8 [8] true)) (.pair .leaf (.pair (.sl (.row 9 [9] true)) (.pair (.sl (.sha [1])) (.pair (.sl (.row 10 [10] true)) dg))))))))))))),(2,.box 11 aE (.pair (.pair .leaf (.pair .leaf (.pair .leaf yc))) (.pair .leaf (.pair .leaf (.pair (.sl (.sha [])) (.pair (.sl (.sha [])) (.pair (.sl (.sha [])) (.pair .leaf (.pair (.sl (.sha [])) (.pair .leaf (.pair (.sl (.sha [])) (.pair (.sl (.sha [])) Ct)))))))))))),(3,.val (.sl aN) (.sl (.row 12 [12] true))),(6,.val (.sl ah) (.sl (.row 13 [13] true))),(9,.val (.sl ak) (.sl (.row 14 [14] true)))],15⟩|_=>none
def sw (k:Nat):List (FuncId×aF):=(80,⟨[.val aE (.pair (.pair .leaf (.pair .leaf q0)) (.pair .leaf (.pair .leaf (.pair .shr (.pair .shr (.pair .shr (.pair .leaf (.pair .shr (.pair .leaf (.pair .shr jc))))))))))],[.val aE (.pair (.pair .leaf (.pair .leaf vg)) (.pair .leaf (.pair .leaf (.pair .own (.pair .own (.pair .own (.pair .leaf (.pair .own (.pair .leaf (.pair .own Cd))))))))))],eZ k,[]⟩)::(ux k)
theorem Eg (k:Nat):ae Tryz.prog (sw k):=ae.ev ax mixed (EG k) BU A9 k Tryz.func80 (by kernel_rfl) (fun x=>by kernel_rfl)
def Kp (k:Nat):List (FuncId×aF):=(111,⟨[.val (.int .i64) .leaf,.val (.int .i64) .leaf,.val (.int .i64) .leaf],[.val .bool .leaf],bA k,[]⟩)::(sw k)
theorem RW (k:Nat):ae Tryz.prog (Kp k):=ae.ev ax mixed (Eg k) nA nA k Tryz.func111 (by kernel_rfl) (fun x=>by kernel_rfl)
def IH:Nat→Option aL:=fun|4=>some ⟨[(0,.val .str .leaf),(3,.val (.int .i64) .leaf)],3⟩|_=>none
def yB (k:Nat):List (FuncId×aF):=(322,⟨[.val .str .leaf],[.val .bool .leaf],jP k,[]⟩)::(Kp k)
theorem Lk (k:Nat):ae Tryz.prog (yB k):=ae.ev ax mixed (RW k) IH nA k Tryz.func322 (by kernel_rfl) (fun x=>by kernel_rfl)
def Gg:Nat→Option aL:=fun|2=>some ⟨[(0,.val (.sl .str) (.sl (.sha [1]))),(3,.val (.int .i64) .leaf)],3⟩|_=>none
def vT (k:Nat):List (FuncId×aF):=(323,⟨[.val (.sl .str) .shr],[.val .bool .leaf],lZ k,[]⟩)::(yB k)
theorem JB (k:Nat):ae Tryz.prog (vT k):=ae.ev ax mixed (Lk k) Gg nA k Tryz.func323 (by kernel_rfl) (fun x=>by kernel_rfl)
def MJ:Nat→Option aL:=fun|2=>some ⟨[(0,.val (.sl .str) (.sl (.sha [1]))),(5,.val (.sl .str) (.sl (.sha [1]))),(6,.val (.int .i64) .leaf),(7,.val (.int .i64) .leaf)],3⟩|_=>none
def Nx:Nat→Option aL:=fun|7=>some ⟨[(0,.val (.sl .str) (.sl (.sha [1])))],3⟩|_=>none
def Cf (k:Nat):List (FuncId×aF):=(259,⟨[.val (.sl .str) .shr],[.val .bool .leaf],pT k,[]⟩)::(vT k)
theorem ON (k:Nat):ae Tryz.prog (Cf k):=ae.ev ax mixed (JB k) MJ Nx k Tryz.func259 (by kernel_rfl) (fun x=>by kernel_rfl)
def yu (k:Nat):List (FuncId×aF):=(172,⟨[.val bC (.pair .leaf (.pair .leaf q0))],[.val .bool .leaf],nh k,[]⟩)::(Cf k)
theorem L2 (k:Nat):ae Tryz.prog (yu k):=ae.ev ax mixed (ON k) nA nA k Tryz.func172 (by kernel_rfl) (fun x=>by kernel_rfl)
def EP:Nat→Option aL:=fun|4=>some ⟨[(0,.val .str .leaf),(3,.val (.int .i64) .leaf)],3⟩|_=>none
def wg (k:Nat):List (FuncId×aF):=(325,⟨[.val .str .leaf],[.val .bool .leaf],iI k,[]⟩)::(yu k)
theorem JG (k:Nat):ae Tryz.prog (wg k):=ae.ev ax mixed (L2 k) EP nA k Tryz.func325 (by kernel_rfl) (fun x=>by kernel_rfl)
def wB (k:Nat):List (FuncId×aF):=(274,⟨[.val af (.pair .leaf .leaf)],[.val .bool .leaf],lU k,[]⟩)::(wg k)
theorem Im (k:Nat):ae Tryz.prog (wB k):=ae.ev ax mixed (JG k) nA nA k Tryz.func274 (by kernel_rfl) (fun x=>by kernel_rfl)
def L7:Nat→Option aL:=fun|2=>some ⟨[(0,.val (.sl af) (.sl (.sha [1]))),(5,.val (.sl af) (.sl (.sha [1]))),(6,.val (.int .i64) .leaf),(7,.val (.int .i64) .leaf)],3⟩|_=>none
def zY (k:Nat):List (FuncId×aF):=(189,⟨[.val (.sl af) .shr],[.val .bool .leaf],ga k,[]⟩)::(wB k)
theorem Nd (k:Nat):ae Tryz.prog (zY k):=ae.ev ax mixed (Im k) L7 nA k Tryz.func189 (by kernel_rfl) (fun x=>by kernel_rfl)
def vQ (k:Nat):List (FuncId×aF):=(263,⟨[.val ab q3],[.val .bool .leaf],dS k,[]⟩)::(zY k)
theorem Kf (k:Nat):ae Tryz.prog (vQ k):=ae.ev ax mixed (Nd k) nA nA k Tryz.func263 (by kernel_rfl) (fun x=>by kernel_rfl)
end Vg.Tryz
namespace Vg.Tryz
open Go Vg Go.Proofs
set_option linter.unusedVariables false
set_option maxRecDepth 1000000
def FX:Nat→Option aL:=fun|5=>some ⟨[(3,.val (.sl .str) (.sl (.row 3 [] true))),(9,.val (.sl af) (.sl (.sha [1]))),(10,.val (.int .i64) .leaf),(11,.val (.int .i64) .leaf)],4⟩|_=>none
def GZ:Nat→Option aL:=fun|9=>some ⟨[(3,.val (.sl .str) (.sl (.row 3 [] true)))],4⟩|_=>none
def vt (k:Nat):List (FuncId×aF):=(376,⟨[.val (.sl af) .shr],[.val .str .leaf],lH k,[]⟩)::(vQ k)
theorem H9 (k:Nat):ae Tryz.prog (vt k):=ae.ev ax mixed (Kf k) FX GZ k Tryz.func376 (by kernel_rfl) (fun x=>by kernel_rfl)
def Of:Nat→Option aL:=fun|3=>some ⟨[(0,.val .str .leaf),(3,.val (.int .u32) .leaf),(4,.val (.int .i64) .leaf)],3⟩|_=>none
def Ob:Nat→Option aL:=fun|6=>some ⟨[(3,.val (.int .u32) .leaf)],3⟩|_=>none
def GU (k:Nat):List (FuncId×aF):=(375,⟨[.val .str .leaf],[.val (.int .i64) .leaf],o9 k,[]⟩)::(vt k)
theorem PX (k:Nat):ae Tryz.prog (GU k):=ae.ev ax mixed (H9 k) Of Ob k Tryz.func375 (by kernel_rfl) (fun x=>by kernel_rfl)
def yM (k:Nat):List (FuncId×aF):=(352,⟨[.val (.sl af) .shr],[.val (.int .i64) .leaf],dZ k,[]⟩)::(GU k)
theorem Lx (k:Nat):ae Tryz.prog (yM k):=ae.ev ax mixed (PX k) nA nA k Tryz.func352 (by kernel_rfl) (fun x=>by kernel_rfl)
def GA:Nat→Option aL:=fun|4=>some ⟨[(0,.val (.sl af) (.sl (.sha [1]))),(1,.val (.sl af) (.sl (.sha [1]))),(12,.val (.int .i64) .leaf),(13,.val (.int .i64) .leaf)],3⟩|_=>none
def vd (k:Nat):List (FuncId×aF):=(329,⟨[.val (.sl af) .shr,.val (.sl af) .shr],[.val .bool .leaf],cM k,[]⟩)::(yM k)
theorem IV (k:Nat):ae Tryz.prog (vd k):=ae.ev ax mixed (Lx k) GA nA k Tryz.func329 (by kernel_rfl) (fun x=>by kernel_rfl)
def DN:Nat→Option aL:=fun|2=>some ⟨[(1,.val (.sl af) (.sl (.sha [1]))),(7,.val (.sl ab) (.sl (.sha [1]))),(8,.val (.int .i64) .leaf),(9,.val (.int .i64) .leaf)],3⟩|_=>none
def uO (k:Nat):List (FuncId×aF):=(371,⟨[.val (.sl ab) .shr,.val (.sl af) .shr],[.val (.int .i64) .leaf],gE k,[]⟩)::(vd k)
theorem Hz (k:Nat):ae Tryz.prog (uO k):=ae.ev ax mixed (IV k) DN nA k Tryz.func371 (by kernel_rfl) (fun x=>by kernel_rfl)
def zl:Nat→Option aL:=fun|2=>some ⟨[(0,.val (.sl ab) (.sl (.sha [1]))),(5,.val (.sl ab) (.sl (.sha [1]))),(6,.val (.int .i64) .leaf),(7,.val (.int .i64) .leaf)],3⟩|_=>none
def qz (k:Nat):List (FuncId×aF):=(378,⟨[.val (.sl ab) .shr],[.val .bool .leaf],gV k,[]⟩)::(uO k)
theorem zu (k:Nat):ae Tryz.prog (qz k):=ae.ev ax mixed (Hz k) zl nA k Tryz.func378 (by kernel_rfl) (fun x=>by kernel_rfl)
def Hv:Nat→Option aL:=fun|2=>some ⟨[(1,.box 3 ay (.pair .leaf (.sl (.sha [1])))),(6,.val (.sl ab) (.sl (.sha [1]))),(7,.val (.int .i64) .leaf),(8,.val (.int .i64) .leaf)],4⟩|_=>none
def Es:Nat→Option aL:=fun|7=>some ⟨[(1,.box 3 ay (.pair .leaf (.sl (.sha [1]))))],4⟩|_=>none
def vp (k:Nat):List (FuncId×aF):=(361,⟨[.val ay (.pair .leaf .shr)],[.val .bool .leaf],ma k,[]⟩)::(qz k)
theorem IN (k:Nat):ae Tryz.prog (vp k):=ae.ev ax mixed (zu k) Hv Es k Tryz.func361 (by kernel_rfl) (fun x=>by kernel_rfl)
def xR (k:Nat):List (FuncId×aF):=(354,⟨[.val (.int .i64) .leaf,.val (.int .i64) .leaf],[.val (.int .i64) .leaf],fA k,[]⟩)::(vp k)
theorem Lu (k:Nat):ae Tryz.prog (xR k):=ae.ev ax mixed (IN k) nA nA k Tryz.func354 (by kernel_rfl) (fun x=>by kernel_rfl)
def JQ:Nat→Option aL:=fun|2=>some ⟨[(1,.val (.int .i64) .leaf),(2,.val (.int .i64) .leaf),(3,.box 3 aq cP),(10,.val (.sl ay) (.sl (.sha [1]))),(11,.val (.int .i64) .leaf),(12,.val (.int .i64) .leaf)],4⟩|_=>none
def Jz:Nat→Option aL:=fun|7=>some ⟨[(3,.box 3 aq cP)],4⟩|_=>none
def yL (k:Nat):List (FuncId×aF):=(324,⟨[.val aq (.pair .leaf (.pair .leaf .shr)),.val (.int .i64) .leaf,.val (.int .i64) .leaf],[.val .bool .leaf],mW k,[]⟩)::(xR k)
theorem L1 (k:Nat):ae Tryz.prog (yL k):=ae.ev ax mixed (Lu k) JQ Jz k Tryz.func324 (by kernel_rfl) (fun x=>by kernel_rfl)
def Fi:Nat→Option aL:=fun|4=>some ⟨[(0,.val (.sl aq) (.sl (.sha [1]))),(9,.val (.sl aq) (.sl (.sha [1]))),(10,.val (.int .i64) .leaf),(11,.val (.int .i64) .leaf)],3⟩|_=>none
def vw (k:Nat):List (FuncId×aF):=(260,⟨[.val (.sl aq) .shr],[.val .bool .leaf],lD k,[]⟩)::(yL k)
theorem Is (k:Nat):ae Tryz.prog (vw k):=ae.ev ax mixed (L1 k) Fi nA k Tryz.func260 (by kernel_rfl) (fun x=>by kernel_rfl)
def Fu:Nat→Option aL:=fun|3=>some ⟨[(3,.val (.int .i64) .leaf),(8,.val (.sl aq) (.sl (.sha [1]))),(9,.val (.int .i64) .leaf),(10,.val (.int .i64) .leaf)],3⟩|6=>some ⟨[(3,.val (.int .i64) .leaf),(5,.box 3 aq HG),(8,.val (.sl aq) (.sl (.sha [1]))),(9,.val (.int .i64) .leaf),(10,.val (.int .i64) .leaf),(15,.val (.sl ay) (.sl (.sha [1,2]))),(16,.val (.int .i64) .leaf),(17,.val (.int .i64) .leaf)],4⟩|_=>none
def vf (k:Nat):List (FuncId×aF):=(225,⟨[.val (.sl aq) .shr],[.val (.int .i64) .leaf],lG k,[]⟩)::(vw k)
theorem It (k:Nat):ae Tryz.prog (vf k):=ae.ev ax mixed (Is k) Fu nA k Tryz.func225 (by kernel_rfl) (fun x=>by kernel_rfl)
def D8:Nat→Option aL:=fun|3=>some ⟨[(1,.box 3 aq cP),(3,.val (.sl ab) (.sl (.row 4 [4] true))),(7,.val (.sl ay) (.sl (.sha [1]))),(8,.val (.int .i64) .leaf),(9,.val (.int .i64) .leaf)],5⟩|_=>none
def uF (k:Nat):List (FuncId×aF):=(282,⟨[.val aq (.pair .leaf (.pair .leaf .shr))],[.val (.sl ab) .own],gX k,[]⟩)::(vf k)
theorem FD (k:Nat):ae Tryz.prog (uF k):=ae.ev ax mixed (It k) D8 nA k Tryz.func282 (by kernel_rfl) (fun x=>by kernel_rfl)
def Bp:Nat→Option aL:=fun|3=>some ⟨[(3,.val (.sl ab) (.sl (.row 3 [3] true))),(6,.val (.sl aq) (.sl (.sha [1]))),(7,.val (.int .i64) .leaf),(8,.val (.int .i64) .leaf)],4⟩|_=>none
def Bl:Nat→Option aL:=fun|7=>some ⟨[(3,.val (.sl ab) (.sl (.row 3 [3] true)))],4⟩|_=>none
def tc (k:Nat):List (FuncId×aF):=(261,⟨[.val (.sl aq) .shr],[.val (.sl ab) .own],jz k,[]⟩)::(uF k)
theorem Ea (k:Nat):ae Tryz.prog (tc k):=ae.ev ax mixed (FD k) Bp Bl k Tryz.func261 (by kernel_rfl) (fun x=>by kernel_rfl)
def CB (k:Nat):List (FuncId×aF):=(197,⟨[.val bC (.pair .leaf (.pair .leaf q0)),.val ab q3],[.val .bool .leaf],j9 k,[]⟩)::(tc k)
theorem Oy (k:Nat):ae Tryz.prog (CB k):=ae.ev ax mixed (Ea k) nA nA k Tryz.func197 (by kernel_rfl) (fun x=>by kernel_rfl)
def zL:Nat→Option aL:=fun|4=>some ⟨[(1,.box 3 aE (.pair (.pair .leaf (.pair .leaf (.pair .leaf cP))) (.pair .leaf (.pair .leaf (.pair (.sl (.sha [1])) (.pair (.sl (.sha [1])) (.pair (.sl (.sha [1])) (.pair .leaf (.pair (.sl (.sha [1])) (.pair .leaf (.pair (.sl (.sha [1])) (.pair (.sl (.sha [1])) (.pair (.sl (.sha [1])) dg))))))))))))),(29,.val (.sl ab) (.sl (.row 4 [4] true))),(30,.val (.int .i64) .leaf),(31,.val (.int .i64) .leaf)],5⟩|_=>none
def rn (k:Nat):List (FuncId×aF):=(173,⟨[.val aE (.pair (.pair .leaf (.pair .leaf q0)) (.pair .leaf (.pair .leaf (.pair .shr (.pair .shr (.pair .shr (.pair .leaf (.pair .shr (.pair .leaf (.pair .shr jc))))))))))],[.val .bool .leaf],ik k,[]⟩)::(CB k)
theorem BD (k:Nat):ae Tryz.prog (rn k):=ae.ev ax mixed (Oy k) zL nA k Tryz.func173 (by kernel_rfl) (fun x=>by kernel_rfl)
def Di:Nat→Option aL:=fun|2=>some ⟨[(5,.val (.sl ab) (.sl (.sha [1]))),(6,.val (.int .i64) .leaf),(7,.val (.int .i64) .leaf)],3⟩|_=>none
def tI (k:Nat):List (FuncId×aF):=(175,⟨[.val (.sl ab) .shr],[.val .bool .leaf],eC k,[]⟩)::(rn k)
theorem Fe (k:Nat):ae Tryz.prog (tI k):=ae.ev ax mixed (BD k) Di nA k Tryz.func175 (by kernel_rfl) (fun x=>by kernel_rfl)
def zW (k:Nat):List (FuncId×aF):=(262,⟨[.val aU (.pair .shr .leaf)],[.val .bool .leaf],ov k,[]⟩)::(tI k)
theorem NZ (k:Nat):ae Tryz.prog (zW k):=ae.ev ax mixed (Fe k) nA nA k Tryz.func262 (by kernel_rfl) (fun x=>by kernel_rfl)
def BI:Nat→Option aL:=fun|2=>some ⟨[(0,.val (.sl aU) (.sl (.sha [1]))),(3,.box 3 bC (.pair .leaf (.pair .leaf (.pair .leaf cP)))),(7,.val (.sl aU) (.sl (.sha [1]))),(8,.val (.int .i64) .leaf),(9,.val (.int .i64) .leaf)],4⟩|_=>none
def BC:Nat→Option aL:=fun|7=>some ⟨[(0,.val (.sl aU) (.sl (.sha [1]))),(3,.box 3 bC (.pair .leaf (.pair .leaf (.pair .leaf cP))))],4⟩|_=>none
def su (k:Nat):List (FuncId×aF):=(174,⟨[.val (.sl aU) .shr,.val bC (.pair .leaf (.pair .leaf q0))],[.val .bool .leaf],jA k,[]⟩)::(zW k)
theorem CX (k:Nat):ae Tryz.prog (su k):=ae.ev ax mixed (NZ k) BI BC k Tryz.func174 (by kernel_rfl) (fun x=>by kernel_rfl)
def uJ (k:Nat):List (FuncId×aF):=(326,⟨[.val (.int .i64) .leaf,.val (.int .i64) .leaf],[.val .bool .leaf],kB k,[]⟩)::(su k)
theorem GD (k:Nat):ae Tryz.prog (uJ k):=ae.ev ax mixed (CX k) nA nA k Tryz.func326 (by kernel_rfl) (fun x=>by kernel_rfl)
def zb (k:Nat):List (FuncId×aF):=(264,⟨[.val ak (.pair .leaf (.pair .leaf (.pair q3 (.pair .shr (.pair .leaf (.pair .leaf (.pair .leaf (.pair .shr uf))))))))],[.val .bool .leaf],jV k,[]⟩)::(uJ k)
theorem K7 (k:Nat):ae Tryz.prog (zb k):=ae.ev ax mixed (GD k) nA nA k Tryz.func264 (by kernel_rfl) (fun x=>by kernel_rfl)
def tf (k:Nat):List (FuncId×aF):=(330,⟨[.val ab q3,.val ab q3],[.val .bool .leaf],cT k,[]⟩)::(zb k)
theorem Ej (k:Nat):ae Tryz.prog (tf k):=ae.ev ax mixed (K7 k) nA nA k Tryz.func330 (by kernel_rfl) (fun x=>by kernel_rfl)
def Du:Nat→Option aL:=fun|4=>some ⟨[(0,.val (.sl (.int .i64)) (.sl (.sha [1]))),(1,.val (.sl (.int .i64)) (.sl (.sha [1]))),(12,.val (.int .i64) .leaf),(13,.val (.int .i64) .leaf)],3⟩|_=>none
def tL (k:Nat):List (FuncId×aF):=(362,⟨[.val (.sl (.int .i64)) .shr,.val (.sl (.int .i64)) .shr],[.val .bool .leaf],gF k,[]⟩)::(tf k)
theorem Hf (k:Nat):ae Tryz.prog (tL k):=ae.ev ax mixed (Ej k) Du nA k Tryz.func362 (by kernel_rfl) (fun x=>by kernel_rfl)
def zI:Nat→Option aL:=fun|4=>some ⟨[(0,.val (.sl ab) (.sl (.sha [1]))),(1,.val (.sl ab) (.sl (.sha [1]))),(12,.val (.int .i64) .leaf),(13,.val (.int .i64) .leaf)],3⟩|_=>none
def rh (k:Nat):List (FuncId×aF):=(363,⟨[.val (.sl ab) .shr,.val (.sl ab) .shr],[.val .bool .leaf],fF k,[]⟩)::(tL k)
theorem BZ (k:Nat):ae Tryz.prog (rh k):=ae.ev ax mixed (Hf k) zI nA k Tryz.func363 (by kernel_rfl) (fun x=>by kernel_rfl)
def tE (k:Nat):List (FuncId×aF):=(327,⟨[.val ah (.pair .leaf (.pair .leaf (.pair q3 (.pair .shr (.pair .leaf q7))))),.val ah (.pair .leaf (.pair .leaf (.pair q3 (.pair .shr (.pair .leaf q7)))))],[.val .bool .leaf],gA k,[]⟩)::(rh k)
theorem Fq (k:Nat):ae Tryz.prog (tE k):=ae.ev ax mixed (BZ k) nA nA k Tryz.func327 (by kernel_rfl) (fun x=>by kernel_rfl)
def IK:Nat→Option aL:=fun|2=>some ⟨[(1,.box 3 ah (.pair .leaf (.pair .leaf (.pair qK (.pair (.sl (.sha [1])) (.pair .leaf (.pair (.sl (.sha [1])) u7))))))),(6,.val (.sl (.int .i64)) (.sl (.sha [1]))),(7,.val (.int .i64) .leaf),(8,.val (.int .i64) .leaf)],4⟩|_=>none
def Iw:Nat→Option aL:=fun|7=>some ⟨[(1,.box 3 ah (.pair .leaf (.pair .leaf (.pair qK (.pair (.sl (.sha [1])) (.pair .leaf (.pair (.sl (.sha [1])) u7)))))))],4⟩|_=>none
def yX (k:Nat):List (FuncId×aF):=(328,⟨[.val ah (.pair .leaf (.pair .leaf (.pair q3 (.pair .shr (.pair .leaf q7)))))],[.val .bool .leaf],nj k,[]⟩)::(tE k)
theorem LX (k:Nat):ae Tryz.prog (yX k):=ae.ev ax mixed (Fq k) IK Iw k Tryz.func328 (by kernel_rfl) (fun x=>by kernel_rfl)
end Vg.Tryz
namespace Vg.Tryz
open Go Vg Go.Proofs
set_option linter.unusedVariables false
set_option maxRecDepth 1000000
def JF:Nat→Option aL:=fun|25=>some ⟨[(2,.box 3 ah (.pair .leaf (.pair .leaf (.pair qK (.pair (.sl (.sha [1])) (.pair .leaf (.pair (.sl (.sha [1])) u7))))))),(5,.box 4 ah (.pair .leaf (.pair .leaf (.pair qK (.pair (.sl (.sha [1])) (.pair .leaf (.pair (.sl (.sha [1])) u7))))))),(6,.val .bool .leaf),(7,.val (.int .i64) .leaf)],5⟩|_=>none
def za (k:Nat):List (FuncId×aF):=(265,⟨[.val ah (.pair .leaf (.pair .leaf (.pair q3 (.pair .shr (.pair .leaf q7))))),.val (.int .i64) .leaf],[.val .bool .leaf],mJ k,[]⟩)::(yX k)
theorem L0 (k:Nat):ae Tryz.prog (za k):=ae.ev ax mixed (LX k) nA JF k Tryz.func265 (by kernel_rfl) (fun x=>by kernel_rfl)
def yW (k:Nat):List (FuncId×aF):=(304,⟨[.val (.sl aq) .shr,.val (.sl af) .shr],[.val (.int .i64) .leaf],mI k,[]⟩)::(za k)
theorem K5 (k:Nat):ae Tryz.prog (yW k):=ae.ev ax mixed (L0 k) nA nA k Tryz.func304 (by kernel_rfl) (fun x=>by kernel_rfl)
def Gx:Nat→Option aL:=fun|2=>some ⟨[(1,.val (.int .i64) .leaf),(2,.box 3 aq cP),(8,.val (.sl ay) (.sl (.sha [1]))),(9,.val (.int .i64) .leaf),(10,.val (.int .i64) .leaf)],4⟩|_=>none
def vG (k:Nat):List (FuncId×aF):=(351,⟨[.val aq (.pair .leaf (.pair .leaf .shr)),.val (.int .i64) .leaf],[.val (.int .i64) .leaf],lR k,[]⟩)::(yW k)
theorem JN (k:Nat):ae Tryz.prog (vG k):=ae.ev ax mixed (K5 k) Gx nA k Tryz.func351 (by kernel_rfl) (fun x=>by kernel_rfl)
def wz (k:Nat):List (FuncId×aF):=(353,⟨[.val ay (.pair .leaf .shr),.val (.sl af) .shr],[.val (.int .i64) .leaf],lC k,[]⟩)::(vG k)
theorem Jb (k:Nat):ae Tryz.prog (wz k):=ae.ev ax mixed (JN k) nA nA k Tryz.func353 (by kernel_rfl) (fun x=>by kernel_rfl)
def yA (k:Nat):List (FuncId×aF):=(303,⟨[.val aq (.pair .leaf (.pair .leaf .shr)),.val (.sl af) .shr],[.val ab sU,.val .bool .leaf],mT k,[]⟩)::(wz k)
theorem L5 (k:Nat):ae Tryz.prog (yA k):=ae.ev ax mixed (Jb k) nA nA k Tryz.func303 (by kernel_rfl) (fun x=>by kernel_rfl)
def tn (k:Nat):List (FuncId×aF):=(224,⟨[.val (.sl aq) .shr,.val (.sl af) .shr],[.val ab sU,.val .bool .leaf],js k,[]⟩)::(yA k)
theorem Dm (k:Nat):ae Tryz.prog (tn k):=ae.ev ax mixed (L5 k) nA nA k Tryz.func224 (by kernel_rfl) (fun x=>by kernel_rfl)
def Bu:Nat→Option aL:=fun|6=>some ⟨[(2,.box 3 aE (.pair (.pair .leaf (.pair .leaf (.pair .leaf cP))) (.pair .leaf (.pair .leaf (.pair (.sl (.sha [1])) (.pair (.sl (.sha [1])) (.pair (.sl (.sha [1])) (.pair .leaf (.pair (.sl (.sha [1])) (.pair .leaf (.pair (.sl (.sha [1])) (.pair (.sl (.sha [1])) (.pair (.sl (.sha [1])) dg))))))))))))),(3,.box 4 ah (.pair .leaf (.pair .leaf (.pair qK (.pair (.sl (.sha [1])) (.pair .leaf (.pair (.sl (.sha [1])) u7))))))),(5,.val .bool .leaf),(6,.val (.sl ab) (.sl (.row 5 [5] true))),(35,.val (.sl (.int .i64)) (.sl (.sha [1]))),(36,.val (.int .i64) .leaf),(37,.val (.int .i64) .leaf)],6⟩|_=>none
def Bn:Nat→Option aL:=fun|13=>some ⟨[(2,.box 3 aE (.pair (.pair .leaf (.pair .leaf (.pair .leaf cP))) (.pair .leaf (.pair .leaf (.pair (.sl (.sha [1])) (.pair (.sl (.sha [1])) (.pair (.sl (.sha [1])) (.pair .leaf (.pair (.sl (.sha [1])) (.pair .leaf (.pair (.sl (.sha [1])) (.pair (.sl (.sha [1])) (.pair (.sl (.sha [1])) dg))))))))))))),(3,.box 4 ah (.pair .leaf (.pair .leaf (.pair qK (.pair (.sl (.sha [1])) (.pair .leaf (.pair (.sl (.sha [1])) u7))))))),(5,.val .bool .leaf),(6,.val (.sl ab) (.sl (.row 5 [5] true)))],6⟩|_=>none
def sI (k:Nat):List (FuncId×aF):=(331,⟨[.val aE (.pair (.pair .leaf (.pair .leaf q0)) (.pair .leaf (.pair .leaf (.pair .shr (.pair .shr (.pair .shr (.pair .leaf (.pair .shr (.pair .leaf (.pair .shr jc)))))))))),.val ah (.pair .leaf (.pair .leaf (.pair q3 (.pair .shr (.pair .leaf q7)))))],[.val .bool .leaf],jw k,[]⟩)::(tn k)
theorem Dc (k:Nat):ae Tryz.prog (sI k):=ae.ev ax mixed (Dm k) Bu Bn k Tryz.func331 (by kernel_rfl) (fun x=>by kernel_rfl)
def uL (k:Nat):List (FuncId×aF):=(266,⟨[.val aE (.pair (.pair .leaf (.pair .leaf q0)) (.pair .leaf (.pair .leaf (.pair .shr (.pair .shr (.pair .shr (.pair .leaf (.pair .shr (.pair .leaf (.pair .shr jc)))))))))),.val ah (.pair .leaf (.pair .leaf (.pair q3 (.pair .shr (.pair .leaf q7))))),.val ak (.pair .leaf (.pair .leaf (.pair q3 (.pair .shr (.pair .leaf (.pair .leaf (.pair .leaf (.pair .shr uf))))))))],[.val .bool .leaf],kv k,[]⟩)::(sI k)
theorem Gv (k:Nat):ae Tryz.prog (uL k):=ae.ev ax mixed (Dc k) nA nA k Tryz.func266 (by kernel_rfl) (fun x=>by kernel_rfl)
def Ah:Nat→Option aL:=fun|2=>some ⟨[(1,.box 3 aE (.pair (.pair .leaf (.pair .leaf (.pair .leaf cP))) (.pair .leaf (.pair .leaf (.pair (.sl (.sha [1])) (.pair (.sl (.sha [1])) (.pair (.sl (.sha [1])) (.pair .leaf (.pair (.sl (.sha [1])) (.pair .leaf (.pair (.sl (.sha [1])) (.pair (.sl (.sha [1])) (.pair (.sl (.sha [1])) dg))))))))))))),(9,.val (.sl ak) (.sl (.sha [1]))),(10,.val (.int .i64) .leaf),(11,.val (.int .i64) .leaf)],4⟩|8=>some ⟨[(1,.box 3 aE (.pair (.pair .leaf (.pair .leaf (.pair .leaf cP))) (.pair .leaf (.pair .leaf (.pair (.sl (.sha [1])) (.pair (.sl (.sha [1])) (.pair (.sl (.sha [1])) (.pair .leaf (.pair (.sl (.sha [1])) (.pair .leaf (.pair (.sl (.sha [1])) (.pair (.sl (.sha [1])) (.pair (.sl (.sha [1])) dg))))))))))))),(41,.val (.sl ah) (.sl (.sha [1]))),(42,.val (.int .i64) .leaf),(43,.val (.int .i64) .leaf)],4⟩|_=>none
def zE:Nat→Option aL:=fun|7=>some ⟨[(1,.box 3 aE (.pair (.pair .leaf (.pair .leaf (.pair .leaf cP))) (.pair .leaf (.pair .leaf (.pair (.sl (.sha [1])) (.pair (.sl (.sha [1])) (.pair (.sl (.sha [1])) (.pair .leaf (.pair (.sl (.sha [1])) (.pair .leaf (.pair (.sl (.sha [1])) (.pair (.sl (.sha [1])) (.pair (.sl (.sha [1])) dg)))))))))))))],4⟩|_=>none
def qS (k:Nat):List (FuncId×aF):=(176,⟨[.val aE (.pair (.pair .leaf (.pair .leaf q0)) (.pair .leaf (.pair .leaf (.pair .shr (.pair .shr (.pair .shr (.pair .leaf (.pair .shr (.pair .leaf (.pair .shr jc))))))))))],[.val .bool .leaf],ij k,[]⟩)::(uL k)
theorem Bm (k:Nat):ae Tryz.prog (qS k):=ae.ev ax mixed (Gv k) Ah zE k Tryz.func176 (by kernel_rfl) (fun x=>by kernel_rfl)
def yR (k:Nat):List (FuncId×aF):=(332,⟨[.val ah (.pair .leaf (.pair .leaf (.pair q3 (.pair .shr (.pair .leaf q7))))),.val (.int .i64) .leaf,.val .bool .leaf],[.val (.int .i64) .leaf],qL k,[]⟩)::(qS k)
theorem Lf (k:Nat):ae Tryz.prog (yR k):=ae.ev ax mixed (Bm k) nA nA k Tryz.func332 (by kernel_rfl) (fun x=>by kernel_rfl)
def rU (k:Nat):List (FuncId×aF):=(267,⟨[.val ah (.pair .leaf (.pair .leaf (.pair q3 (.pair .shr (.pair .leaf q7))))),.val (.int .i64) .leaf],[.val (.int .i64) .leaf],jm k,[]⟩)::(yR k)
theorem DQ (k:Nat):ae Tryz.prog (rU k):=ae.ev ax mixed (Lf k) nA nA k Tryz.func267 (by kernel_rfl) (fun x=>by kernel_rfl)
def qn (k:Nat):List (FuncId×aF):=(268,⟨[.val ah (.pair .leaf (.pair .leaf (.pair q3 (.pair .shr (.pair .leaf q7)))))],[.val .bool .leaf],gR k,[]⟩)::(rU k)
theorem zF (k:Nat):ae Tryz.prog (qn k):=ae.ev ax mixed (DQ k) nA nA k Tryz.func268 (by kernel_rfl) (fun x=>by kernel_rfl)
def AB:Nat→Option aL:=fun|2=>some ⟨[(1,.box 3 aE (.pair (.pair .leaf (.pair .leaf (.pair .leaf cP))) (.pair .leaf (.pair .leaf (.pair (.sl (.sha [1])) (.pair (.sl (.sha [1])) (.pair (.sl (.sha [1])) (.pair .leaf (.pair (.sl (.sha [1])) (.pair .leaf (.pair (.sl (.sha [1])) (.pair (.sl (.sha [1])) (.pair (.sl (.sha [1])) dg))))))))))))),(10,.val (.sl aq) (.sl (.sha [1]))),(11,.val (.int .i64) .leaf),(12,.val (.int .i64) .leaf)],4⟩|5=>some ⟨[(1,.box 3 aE (.pair (.pair .leaf (.pair .leaf (.pair .leaf cP))) (.pair .leaf (.pair .leaf (.pair (.sl (.sha [1])) (.pair (.sl (.sha [1])) (.pair (.sl (.sha [1])) (.pair .leaf (.pair (.sl (.sha [1])) (.pair .leaf (.pair (.sl (.sha [1])) (.pair (.sl (.sha [1])) (.pair (.sl (.sha [1])) dg))))))))))))),(3,.val (.int .i64) .leaf),(4,.box 4 aq HG),(10,.val (.sl aq) (.sl (.sha [1]))),(11,.val (.int .i64) .leaf),(12,.val (.int .i64) .leaf),(18,.val (.sl ah) (.sl (.sha [1]))),(19,.val (.int .i64) .leaf),(20,.val (.int .i64) .leaf)],5⟩|12=>some ⟨[(1,.box 3 aE (.pair (.pair .leaf (.pair .leaf (.pair .leaf cP))) (.pair .leaf (.pair .leaf (.pair (.sl (.sha [1])) (.pair (.sl (.sha [1])) (.pair (.sl (.sha [1])) (.pair .leaf (.pair (.sl (.sha [1])) (.pair .leaf (.pair (.sl (.sha [1])) (.pair (.sl (.sha [1])) (.pair (.sl (.sha [1])) dg))))))))))))),(40,.val (.sl ah) (.sl (.sha [1]))),(41,.val (.int .i64) .leaf),(42,.val (.int .i64) .leaf)],4⟩|_=>none
def Av:Nat→Option aL:=fun|11=>some ⟨[(1,.box 3 aE (.pair (.pair .leaf (.pair .leaf (.pair .leaf cP))) (.pair .leaf (.pair .leaf (.pair (.sl (.sha [1])) (.pair (.sl (.sha [1])) (.pair (.sl (.sha [1])) (.pair .leaf (.pair (.sl (.sha [1])) (.pair .leaf (.pair (.sl (.sha [1])) (.pair (.sl (.sha [1])) (.pair (.sl (.sha [1])) dg)))))))))))))],4⟩|17=>some ⟨[(1,.box 3 aE (.pair (.pair .leaf (.pair .leaf (.pair .leaf cP))) (.pair .leaf (.pair .leaf (.pair (.sl (.sha [1])) (.pair (.sl (.sha [1])) (.pair (.sl (.sha [1])) (.pair .leaf (.pair (.sl (.sha [1])) (.pair .leaf (.pair (.sl (.sha [1])) (.pair (.sl (.sha [1])) (.pair (.sl (.sha [1])) dg)))))))))))))],4⟩|_=>none
def qQ (k:Nat):List (FuncId×aF):=(177,⟨[.val aE (.pair (.pair .leaf (.pair .leaf q0)) (.pair .leaf (.pair .leaf (.pair .shr (.pair .shr (.pair .shr (.pair .leaf (.pair .shr (.pair .leaf (.pair .shr jc))))))))))],[.val .bool .leaf],il k,[]⟩)::(qn k)
theorem Bq (k:Nat):ae Tryz.prog (qQ k):=ae.ev ax mixed (zF k) AB Av k Tryz.func177 (by kernel_rfl) (fun x=>by kernel_rfl)
def Gy:Nat→Option aL:=fun|2=>some ⟨[(1,.val .str .leaf),(7,.val (.sl .str) (.sl (.sha [1]))),(8,.val (.int .i64) .leaf),(9,.val (.int .i64) .leaf)],3⟩|_=>none
def vE (k:Nat):List (FuncId×aF):=(370,⟨[.val (.sl .str) .shr,.val .str .leaf],[.val .bool .leaf],lK k,[]⟩)::(qQ k)
theorem IY (k:Nat):ae Tryz.prog (vE k):=ae.ev ax mixed (Bq k) Gy nA k Tryz.func370 (by kernel_rfl) (fun x=>by kernel_rfl)
def Er:Nat→Option aL:=fun|3=>some ⟨[(1,.val (.sl .str) (.sl (.sha [1]))),(5,.val (.sl af) (.sl (.row 3 [] true))),(8,.val (.sl af) (.sl (.sha [1]))),(9,.val (.int .i64) .leaf),(10,.val (.int .i64) .leaf)],4⟩|_=>none
def xa (k:Nat):List (FuncId×aF):=(345,⟨[.val (.sl af) .shr,.val (.sl .str) .shr],[.val (.sl af) .own],pn k,[]⟩)::(vE k)
theorem IL (k:Nat):ae Tryz.prog (xa k):=ae.ev ax mixed (IY k) Er nA k Tryz.func345 (by kernel_rfl) (fun x=>by kernel_rfl)
def Ad (k:Nat):List (FuncId×aF):=(289,⟨[.val ab q3,.val (.sl .str) .shr],[.val (.sl af) .own],nY k,[]⟩)::(xa k)
theorem N0 (k:Nat):ae Tryz.prog (Ad k):=ae.ev ax mixed (IL k) nA nA k Tryz.func289 (by kernel_rfl) (fun x=>by kernel_rfl)
def FG:Nat→Option aL:=fun|2=>some ⟨[(0,.val (.sl af) (.sl (.sha [1]))),(1,.val (.sl af) (.sl (.sha [1]))),(5,.val (.int .i64) .leaf)],3⟩|_=>none
def Gq:Nat→Option aL:=fun|8=>some ⟨[(0,.val (.sl af) (.sl (.sha [1]))),(1,.val (.sl af) (.sl (.sha [1])))],3⟩|_=>none
def xe (k:Nat):List (FuncId×aF):=(341,⟨[.val (.sl af) .shr,.val (.sl af) .shr],[.val .bool .leaf],ix k,[]⟩)::(Ad k)
theorem Jx (k:Nat):ae Tryz.prog (xe k):=ae.ev ax mixed (N0 k) FG Gq k Tryz.func341 (by kernel_rfl) (fun x=>by kernel_rfl)
def EX:Nat→Option aL:=fun|2=>some ⟨[(0,.val (.sl ab) (.sl (.sha [1]))),(1,.val (.sl af) (.sl (.sha [1]))),(2,.val (.sl .str) (.sl (.sha [1]))),(9,.val (.sl ab) (.sl (.sha [1]))),(10,.val (.int .i64) .leaf),(11,.val (.int .i64) .leaf)],3⟩|_=>none
def vX (k:Nat):List (FuncId×aF):=(364,⟨[.val (.sl ab) .shr,.val (.sl af) .shr,.val (.sl .str) .shr],[.val .bool .leaf],lO k,[]⟩)::(xe k)
theorem JW (k:Nat):ae Tryz.prog (vX k):=ae.ev ax mixed (Jx k) EX nA k Tryz.func364 (by kernel_rfl) (fun x=>by kernel_rfl)
def wy (k:Nat):List (FuncId×aF):=(333,⟨[.val al (.pair .leaf q4),.val (.sl .str) .shr],[.val .bool .leaf],lN k,[]⟩)::(vX k)
theorem Ii (k:Nat):ae Tryz.prog (wy k):=ae.ev ax mixed (JW k) nA nA k Tryz.func333 (by kernel_rfl) (fun x=>by kernel_rfl)
def F9:Nat→Option aL:=fun|2=>some ⟨[(1,.val (.sl af) (.sl (.sha [1]))),(7,.val (.sl al) (.sl (.sha [1]))),(8,.val (.int .i64) .leaf),(9,.val (.int .i64) .leaf)],3⟩|_=>none
def wI (k:Nat):List (FuncId×aF):=(290,⟨[.val (.sl al) .shr,.val (.sl af) .shr],[.val (.int .i64) .leaf],lX k,[]⟩)::(wy k)
theorem JU (k:Nat):ae Tryz.prog (wI k):=ae.ev ax mixed (Ii k) F9 nA k Tryz.func290 (by kernel_rfl) (fun x=>by kernel_rfl)
def Db:Nat→Option aL:=fun|2=>some ⟨[(0,.val (.sl al) (.sl (.sha [1]))),(1,.val (.sl .str) (.sl (.sha [1]))),(7,.val (.sl al) (.sl (.sha [1]))),(8,.val (.int .i64) .leaf),(9,.val (.int .i64) .leaf)],3⟩|_=>none
def tK (k:Nat):List (FuncId×aF):=(269,⟨[.val (.sl al) .shr,.val (.sl .str) .shr],[.val .bool .leaf],kE k,[]⟩)::(wI k)
theorem He (k:Nat):ae Tryz.prog (tK k):=ae.ev ax mixed (JU k) Db nA k Tryz.func269 (by kernel_rfl) (fun x=>by kernel_rfl)
def xV (k:Nat):List (FuncId×aF):=(334,⟨[.val aC (.pair .leaf .leaf),.val aC (.pair .leaf .leaf)],[.val .bool .leaf],ni k,[]⟩)::(tK k)
theorem Lh (k:Nat):ae Tryz.prog (xV k):=ae.ev ax mixed (He k) nA nA k Tryz.func334 (by kernel_rfl) (fun x=>by kernel_rfl)
def HI:Nat→Option aL:=fun|2=>some ⟨[(0,.val (.sl aC) (.sl (.sha [1]))),(5,.val (.sl aC) (.sl (.sha [1]))),(6,.val (.int .i64) .leaf),(7,.val (.int .i64) .leaf)],3⟩|_=>none
def HJ:Nat→Option aL:=fun|7=>some ⟨[(0,.val (.sl aC) (.sl (.sha [1])))],3⟩|_=>none
def yI (k:Nat):List (FuncId×aF):=(270,⟨[.val (.sl aC) .shr],[.val .bool .leaf],mY k,[]⟩)::(xV k)
theorem LW (k:Nat):ae Tryz.prog (yI k):=ae.ev ax mixed (Lh k) HI HJ k Tryz.func270 (by kernel_rfl) (fun x=>by kernel_rfl)
def wD (k:Nat):List (FuncId×aF):=(335,⟨[.val al (.pair .leaf q4),.val (.int .i64) .leaf,.val (.int .i64) .leaf],[.val (.int .i64) .leaf],pr k,[]⟩)::(yI k)
theorem JD (k:Nat):ae Tryz.prog (wD k):=ae.ev ax mixed (LW k) nA nA k Tryz.func335 (by kernel_rfl) (fun x=>by kernel_rfl)
def EI (k:Nat):List (FuncId×aF):=(271,⟨[.val bC (.pair .leaf (.pair .leaf q0)),.val al (.pair .leaf q4)],[.val (.int .i64) .leaf],rB k,[]⟩)::(wD k)
theorem QP (k:Nat):ae Tryz.prog (EI k):=ae.ev ax mixed (JD k) nA nA k Tryz.func271 (by kernel_rfl) (fun x=>by kernel_rfl)
end Vg.Tryz
namespace Vg.Tryz
open Go Vg Go.Proofs
set_option linter.unusedVariables false
set_option maxRecDepth 1000000
def zm:Nat→Option aL:=fun|4=>some ⟨[(1,.box 3 aE (.pair (.pair .leaf (.pair .leaf (.pair .leaf cP))) (.pair .leaf (.pair .leaf (.pair (.sl (.sha [1])) (.pair (.sl (.sha [1])) (.pair (.sl (.sha [1])) (.pair .leaf (.pair (.sl (.sha [1])) (.pair .leaf (.pair (.sl (.sha [1])) (.pair (.sl (.sha [1])) (.pair (.sl (.sha [1])) dg))))))))))))),(26,.val (.sl al) (.sl (.sha [1]))),(27,.val (.int .i64) .leaf),(28,.val (.int .i64) .leaf)],4⟩|10=>some ⟨[(1,.box 3 aE (.pair (.pair .leaf (.pair .leaf (.pair .leaf cP))) (.pair .leaf (.pair .leaf (.pair (.sl (.sha [1])) (.pair (.sl (.sha [1])) (.pair (.sl (.sha [1])) (.pair .leaf (.pair (.sl (.sha [1])) (.pair .leaf (.pair (.sl (.sha [1])) (.pair (.sl (.sha [1])) (.pair (.sl (.sha [1])) dg))))))))))))),(4,.box 4 al (.pair .leaf (.pair (.sl (.sha [1,2])) HG))),(5,.val .bool .leaf),(26,.val (.sl al) (.sl (.sha [1]))),(27,.val (.int .i64) .leaf),(28,.val (.int .i64) .leaf),(68,.val (.sl aC) (.sl (.sha [1]))),(69,.val (.int .i64) .leaf),(70,.val (.int .i64) .leaf)],5⟩|18=>some ⟨[(1,.box 3 aE (.pair (.pair .leaf (.pair .leaf (.pair .leaf cP))) (.pair .leaf (.pair .leaf (.pair (.sl (.sha [1])) (.pair (.sl (.sha [1])) (.pair (.sl (.sha [1])) (.pair .leaf (.pair (.sl (.sha [1])) (.pair .leaf (.pair (.sl (.sha [1])) (.pair (.sl (.sha [1])) (.pair (.sl (.sha [1])) dg))))))))))))),(96,.val (.sl aC) (.sl (.sha [1]))),(97,.val (.int .i64) .leaf),(98,.val (.int .i64) .leaf)],4⟩|23=>some ⟨[(1,.box 3 aE (.pair (.pair .leaf (.pair .leaf (.pair .leaf cP))) (.pair .leaf (.pair .leaf (.pair (.sl (.sha [1])) (.pair (.sl (.sha [1])) (.pair (.sl (.sha [1])) (.pair .leaf (.pair (.sl (.sha [1])) (.pair .leaf (.pair (.sl (.sha [1])) (.pair (.sl (.sha [1])) (.pair (.sl (.sha [1])) dg))))))))))))),(9,.box 4 aC (.pair .leaf .leaf)),(96,.val (.sl aC) (.sl (.sha [1]))),(97,.val (.int .i64) .leaf),(98,.val (.int .i64) .leaf),(111,.val (.sl aC) (.sl (.sha [1]))),(112,.val (.int .i64) .leaf),(113,.val (.int .i64) .leaf)],5⟩|_=>none
def zo:Nat→Option aL:=fun|14=>some ⟨[(1,.box 3 aE (.pair (.pair .leaf (.pair .leaf (.pair .leaf cP))) (.pair .leaf (.pair .leaf (.pair (.sl (.sha [1])) (.pair (.sl (.sha [1])) (.pair (.sl (.sha [1])) (.pair .leaf (.pair (.sl (.sha [1])) (.pair .leaf (.pair (.sl (.sha [1])) (.pair (.sl (.sha [1])) (.pair (.sl (.sha [1])) dg))))))))))))),(4,.box 4 al (.pair .leaf (.pair (.sl (.sha [1,2])) HG))),(5,.val .bool .leaf),(26,.val (.sl al) (.sl (.sha [1]))),(27,.val (.int .i64) .leaf),(28,.val (.int .i64) .leaf)],5⟩|17=>some ⟨[(1,.box 3 aE (.pair (.pair .leaf (.pair .leaf (.pair .leaf cP))) (.pair .leaf (.pair .leaf (.pair (.sl (.sha [1])) (.pair (.sl (.sha [1])) (.pair (.sl (.sha [1])) (.pair .leaf (.pair (.sl (.sha [1])) (.pair .leaf (.pair (.sl (.sha [1])) (.pair (.sl (.sha [1])) (.pair (.sl (.sha [1])) dg)))))))))))))],4⟩|_=>none
def qj (k:Nat):List (FuncId×aF):=(178,⟨[.val aE (.pair (.pair .leaf (.pair .leaf q0)) (.pair .leaf (.pair .leaf (.pair .shr (.pair .shr (.pair .shr (.pair .leaf (.pair .shr (.pair .leaf (.pair .shr jc))))))))))],[.val .bool .leaf],gN k,[]⟩)::(EI k)
theorem zx (k:Nat):ae Tryz.prog (qj k):=ae.ev ax mixed (QP k) zm zo k Tryz.func178 (by kernel_rfl) (fun x=>by kernel_rfl)
def wP (k:Nat):List (FuncId×aF):=(81,⟨[.val aE (.pair (.pair .leaf (.pair .leaf q0)) (.pair .leaf (.pair .leaf (.pair .shr (.pair .shr (.pair .shr (.pair .leaf (.pair .shr (.pair .leaf (.pair .shr jc))))))))))],[.val .bool .leaf],lM k,[]⟩)::(qj k)
theorem Ia (k:Nat):ae Tryz.prog (wP k):=ae.ev ax mixed (zx k) nA nA k Tryz.func81 (by kernel_rfl) (fun x=>by kernel_rfl)
def Cz (k:Nat):List (FuncId×aF):=(275,⟨[.val aE (.pair (.pair .leaf (.pair .leaf q0)) (.pair .leaf (.pair .leaf (.pair .shr (.pair .shr (.pair .shr (.pair .leaf (.pair .shr (.pair .leaf (.pair .shr jc)))))))))),.val (.int .i64) .leaf],[.val .bool .leaf],qb k,[]⟩)::(wP k)
theorem OP (k:Nat):ae Tryz.prog (Cz k):=ae.ev ax mixed (Ia k) nA nA k Tryz.func275 (by kernel_rfl) (fun x=>by kernel_rfl)
def xU (k:Nat):List (FuncId×aF):=(194,⟨[.val aE (.pair (.pair .leaf (.pair .leaf q0)) (.pair .leaf (.pair .leaf (.pair .shr (.pair .shr (.pair .shr (.pair .leaf (.pair .shr (.pair .leaf (.pair .shr jc)))))))))),.val (.int .i64) .leaf],[.val .bool .leaf],mX k,[]⟩)::(Cz k)
theorem La (k:Nat):ae Tryz.prog (xU k):=ae.ev ax mixed (OP k) nA nA k Tryz.func194 (by kernel_rfl) (fun x=>by kernel_rfl)
def qg (k:Nat):List (FuncId×aF):=(195,⟨[.io aE (.pair (.pair .leaf (.pair .leaf vg)) (.pair .leaf (.pair .leaf (.pair .own (.pair .own (.pair .own (.pair .leaf (.pair .own (.pair .leaf (.pair .own Cd)))))))))),.val ak (.pair .leaf (.pair .leaf (.pair sU (.pair .own (.pair .leaf (.pair .leaf (.pair .leaf (.pair .own uf))))))))],[.val (.int .i64) .leaf],gC k,[(0,(dv 14 12))]⟩)::(xU k)
theorem zD (k:Nat):ae Tryz.prog (qg k):=ae.ev ax mixed (La k) nA nA k Tryz.func195 (by kernel_rfl) (fun x=>by kernel_rfl)
def zf:Nat→Option aL:=fun|8=>some ⟨[(0,.box 3 aE (.pair (.pair .leaf (.pair .leaf (.pair .leaf Ar))) (.pair .leaf (.pair .leaf (.pair (.sl (.row 5 [5] true)) (.pair (.sl (.row 6 [6] true)) (.pair (.sl (.row 7 [7] true)) (.pair .leaf (.pair (.sl (.row 8 [8] true)) (.pair .leaf (.pair (.sl (.row 9 [9] true)) (.pair (.sl (.row 10 [10] true)) (.pair (.sl (.row 11 [11] true)) Ua))))))))))))),(5,.box 14 ab qK)],15⟩|_=>none
def qt (k:Nat):List (FuncId×aF):=(109,⟨[.io aE (.pair (.pair .leaf (.pair .leaf vg)) (.pair .leaf (.pair .leaf (.pair .own (.pair .own (.pair .own (.pair .leaf (.pair .own (.pair .leaf (.pair .own Cd)))))))))),.val (.int .i64) .leaf,.val ab q3],[.val .bool .leaf],gP k,[]⟩)::(qg k)
theorem zz (k:Nat):ae Tryz.prog (qt k):=ae.ev ax mixed (zD k) nA zf k Tryz.func109 (by kernel_rfl) (fun x=>by kernel_rfl)
def zq (k:Nat):List (FuncId×aF):=(33,⟨[.val aE (.pair (.pair .leaf (.pair .leaf q0)) (.pair .leaf (.pair .leaf (.pair .shr (.pair .shr (.pair .shr (.pair .leaf (.pair .shr (.pair .leaf (.pair .shr jc)))))))))),.val (.int .i64) .leaf,.val ab q3],[.val aE (.pair (.pair .leaf (.pair .leaf vg)) (.pair .leaf (.pair .leaf (.pair .own (.pair .own (.pair .own (.pair .leaf (.pair .own (.pair .leaf (.pair .own Cd)))))))))),.val .bool .leaf],lh k,[]⟩)::(qt k)
theorem Mx (k:Nat):ae Tryz.prog (zq k):=ae.lr ax mixed (zz k) (show ck Tryz.prog []from trivial) nA nA k Tryz.func33 (by kernel_rfl) (fun x=>by kernel_rfl)
def B7:Nat→Option aL:=fun|4=>some ⟨[(0,.val (.sl .str) (.sl (.sha [1]))),(1,.val (.sl .str) (.sl (.sha [1]))),(5,.val (.int .i64) .leaf)],3⟩|_=>none
def sC (k:Nat):List (FuncId×aF):=(138,⟨[.val (.sl .str) .shr,.val (.sl .str) .shr],[.val .bool .leaf],nF k,[]⟩)::(zq k)
theorem Dr (k:Nat):ae Tryz.prog (sC k):=ae.ev ax mixed (Mx k) B7 nA k Tryz.func138 (by kernel_rfl) (fun x=>by kernel_rfl)
def yk (k:Nat):List (FuncId×aF):=(66,⟨[.val bC (.pair .leaf (.pair .leaf q0)),.val bC (.pair .leaf (.pair .leaf q0))],[.val .bool .leaf],nb k,[]⟩)::(sC k)
theorem LY (k:Nat):ae Tryz.prog (yk k):=ae.ev ax mixed (Dr k) nA nA k Tryz.func66 (by kernel_rfl) (fun x=>by kernel_rfl)
def vu (k:Nat):List (FuncId×aF):=(106,⟨[.val af (.pair .leaf .leaf),.val af (.pair .leaf .leaf)],[.val .bool .leaf],iR k,[]⟩)::(yk k)
theorem JX (k:Nat):ae Tryz.prog (vu k):=ae.ev ax mixed (LY k) nA nA k Tryz.func106 (by kernel_rfl) (fun x=>by kernel_rfl)
def DI:Nat→Option aL:=fun|4=>some ⟨[(0,.val (.sl af) (.sl (.sha [1]))),(1,.val (.sl af) (.sl (.sha [1]))),(5,.val (.int .i64) .leaf)],3⟩|_=>none
def uz (k:Nat):List (FuncId×aF):=(28,⟨[.val (.sl af) .shr,.val (.sl af) .shr],[.val .bool .leaf],ez k,[]⟩)::(vu k)
theorem EJ (k:Nat):ae Tryz.prog (uz k):=ae.ev ax mixed (JX k) DI nA k Tryz.func28 (by kernel_rfl) (fun x=>by kernel_rfl)
def wT (k:Nat):List (FuncId×aF):=(34,⟨[.val ab q3,.val ab q3],[.val .bool .leaf],eu k,[]⟩)::(uz k)
theorem Kc (k:Nat):ae Tryz.prog (wT k):=ae.ev ax mixed (EJ k) nA nA k Tryz.func34 (by kernel_rfl) (fun x=>by kernel_rfl)
def DP:Nat→Option aL:=fun|4=>some ⟨[(0,.val (.sl ab) (.sl (.sha [1]))),(1,.val (.sl ab) (.sl (.sha [1]))),(5,.val (.int .i64) .leaf)],3⟩|_=>none
def uK (k:Nat):List (FuncId×aF):=(69,⟨[.val (.sl ab) .shr,.val (.sl ab) .shr],[.val .bool .leaf],db k,[]⟩)::(wT k)
theorem E3 (k:Nat):ae Tryz.prog (uK k):=ae.ev ax mixed (Kc k) DP nA k Tryz.func69 (by kernel_rfl) (fun x=>by kernel_rfl)
def wU (k:Nat):List (FuncId×aF):=(309,⟨[.val ay (.pair .leaf .shr),.val ay (.pair .leaf .shr)],[.val .bool .leaf],iB k,[]⟩)::(uK k)
theorem Ja (k:Nat):ae Tryz.prog (wU k):=ae.ev ax mixed (E3 k) nA nA k Tryz.func309 (by kernel_rfl) (fun x=>by kernel_rfl)
def DS:Nat→Option aL:=fun|4=>some ⟨[(0,.val (.sl ay) (.sl (.sha [1]))),(1,.val (.sl ay) (.sl (.sha [1]))),(5,.val (.int .i64) .leaf)],3⟩|_=>none
def tB (k:Nat):List (FuncId×aF):=(233,⟨[.val (.sl ay) .shr,.val (.sl ay) .shr],[.val .bool .leaf],oW k,[]⟩)::(wU k)
theorem Hu (k:Nat):ae Tryz.prog (tB k):=ae.ev ax mixed (Ja k) DS nA k Tryz.func233 (by kernel_rfl) (fun x=>by kernel_rfl)
def yf (k:Nat):List (FuncId×aF):=(139,⟨[.val aq (.pair .leaf (.pair .leaf .shr)),.val aq (.pair .leaf (.pair .leaf .shr))],[.val .bool .leaf],jG k,[]⟩)::(tB k)
theorem K3 (k:Nat):ae Tryz.prog (yf k):=ae.ev ax mixed (Hu k) nA nA k Tryz.func139 (by kernel_rfl) (fun x=>by kernel_rfl)
def F3:Nat→Option aL:=fun|4=>some ⟨[(0,.val (.sl aq) (.sl (.sha [1]))),(1,.val (.sl aq) (.sl (.sha [1]))),(5,.val (.int .i64) .leaf)],3⟩|_=>none
def vC (k:Nat):List (FuncId×aF):=(67,⟨[.val (.sl aq) .shr,.val (.sl aq) .shr],[.val .bool .leaf],pB k,[]⟩)::(yf k)
theorem Jk (k:Nat):ae Tryz.prog (vC k):=ae.ev ax mixed (K3 k) F3 nA k Tryz.func67 (by kernel_rfl) (fun x=>by kernel_rfl)
def Aa (k:Nat):List (FuncId×aF):=(140,⟨[.val aU (.pair .shr .leaf),.val aU (.pair .shr .leaf)],[.val .bool .leaf],kN k,[]⟩)::(vC k)
theorem Mw (k:Nat):ae Tryz.prog (Aa k):=ae.ev ax mixed (Jk k) nA nA k Tryz.func140 (by kernel_rfl) (fun x=>by kernel_rfl)
def HM:Nat→Option aL:=fun|4=>some ⟨[(0,.val (.sl aU) (.sl (.sha [1]))),(1,.val (.sl aU) (.sl (.sha [1]))),(5,.val (.int .i64) .leaf)],3⟩|_=>none
def yJ (k:Nat):List (FuncId×aF):=(68,⟨[.val (.sl aU) .shr,.val (.sl aU) .shr],[.val .bool .leaf],qF k,[]⟩)::(Aa k)
theorem Md (k:Nat):ae Tryz.prog (yJ k):=ae.ev ax mixed (Mw k) HM nA k Tryz.func68 (by kernel_rfl) (fun x=>by kernel_rfl)
def wc (k:Nat):List (FuncId×aF):=(141,⟨[.val al (.pair .leaf q4),.val al (.pair .leaf q4)],[.val .bool .leaf],iY k,[]⟩)::(yJ k)
theorem Kd (k:Nat):ae Tryz.prog (wc k):=ae.ev ax mixed (Md k) nA nA k Tryz.func141 (by kernel_rfl) (fun x=>by kernel_rfl)
def C9:Nat→Option aL:=fun|4=>some ⟨[(0,.val (.sl al) (.sl (.sha [1]))),(1,.val (.sl al) (.sl (.sha [1]))),(5,.val (.int .i64) .leaf)],3⟩|_=>none
def tC (k:Nat):List (FuncId×aF):=(70,⟨[.val (.sl al) .shr,.val (.sl al) .shr],[.val .bool .leaf],oh k,[]⟩)::(wc k)
theorem Hb (k:Nat):ae Tryz.prog (tC k):=ae.ev ax mixed (Kd k) C9 nA k Tryz.func70 (by kernel_rfl) (fun x=>by kernel_rfl)
def wX (k:Nat):List (FuncId×aF):=(142,⟨[.val aC (.pair .leaf .leaf),.val aC (.pair .leaf .leaf)],[.val .bool .leaf],iP k,[]⟩)::(tC k)
theorem Ix (k:Nat):ae Tryz.prog (wX k):=ae.ev ax mixed (Hb k) nA nA k Tryz.func142 (by kernel_rfl) (fun x=>by kernel_rfl)
def CQ:Nat→Option aL:=fun|4=>some ⟨[(0,.val (.sl aC) (.sl (.sha [1]))),(1,.val (.sl aC) (.sl (.sha [1]))),(5,.val (.int .i64) .leaf)],3⟩|_=>none
def ub (k:Nat):List (FuncId×aF):=(71,⟨[.val (.sl aC) .shr,.val (.sl aC) .shr],[.val .bool .leaf],oR k,[]⟩)::(wX k)
theorem Gl (k:Nat):ae Tryz.prog (ub k):=ae.ev ax mixed (Ix k) CQ nA k Tryz.func71 (by kernel_rfl) (fun x=>by kernel_rfl)
def wG (k:Nat):List (FuncId×aF):=(143,⟨[.val aN q6,.val aN q6],[.val .bool .leaf],iQ k,[]⟩)::(ub k)
theorem I9 (k:Nat):ae Tryz.prog (wG k):=ae.ev ax mixed (Gl k) nA nA k Tryz.func143 (by kernel_rfl) (fun x=>by kernel_rfl)
def CY:Nat→Option aL:=fun|4=>some ⟨[(0,.val (.sl aN) (.sl (.sha [1]))),(1,.val (.sl aN) (.sl (.sha [1]))),(5,.val (.int .i64) .leaf)],3⟩|_=>none
def uN (k:Nat):List (FuncId×aF):=(72,⟨[.val (.sl aN) .shr,.val (.sl aN) .shr],[.val .bool .leaf],oM k,[]⟩)::(wG k)
theorem E7 (k:Nat):ae Tryz.prog (uN k):=ae.ev ax mixed (I9 k) CY nA k Tryz.func72 (by kernel_rfl) (fun x=>by kernel_rfl)
end Vg.Tryz
namespace Vg.Tryz
open Go Vg Go.Proofs
set_option linter.unusedVariables false
set_option maxRecDepth 1000000
def Ji:Nat→Option aL:=fun|4=>some ⟨[(0,.val (.sl (.int .i64)) (.sl (.sha [1]))),(1,.val (.sl (.int .i64)) (.sl (.sha [1]))),(5,.val (.int .i64) .leaf)],3⟩|_=>none
def yZ (k:Nat):List (FuncId×aF):=(234,⟨[.val (.sl (.int .i64)) .shr,.val (.sl (.int .i64)) .shr],[.val .bool .leaf],qE k,[]⟩)::(uN k)
theorem LG (k:Nat):ae Tryz.prog (yZ k):=ae.ev ax mixed (E7 k) Ji nA k Tryz.func234 (by kernel_rfl) (fun x=>by kernel_rfl)
def yp (k:Nat):List (FuncId×aF):=(144,⟨[.val ah (.pair .leaf (.pair .leaf (.pair q3 (.pair .shr (.pair .leaf q7))))),.val ah (.pair .leaf (.pair .leaf (.pair q3 (.pair .shr (.pair .leaf q7)))))],[.val .bool .leaf],jT k,[]⟩)::(yZ k)
theorem Ld (k:Nat):ae Tryz.prog (yp k):=ae.ev ax mixed (LG k) nA nA k Tryz.func144 (by kernel_rfl) (fun x=>by kernel_rfl)
def Hj:Nat→Option aL:=fun|4=>some ⟨[(0,.val (.sl ah) (.sl (.sha [1]))),(1,.val (.sl ah) (.sl (.sha [1]))),(5,.val (.int .i64) .leaf)],3⟩|_=>none
def wO (k:Nat):List (FuncId×aF):=(73,⟨[.val (.sl ah) .shr,.val (.sl ah) .shr],[.val .bool .leaf],pS k,[]⟩)::(yp k)
theorem HU (k:Nat):ae Tryz.prog (wO k):=ae.ev ax mixed (Ld k) Hj nA k Tryz.func73 (by kernel_rfl) (fun x=>by kernel_rfl)
def xX (k:Nat):List (FuncId×aF):=(145,⟨[.val ak (.pair .leaf (.pair .leaf (.pair q3 (.pair .shr (.pair .leaf (.pair .leaf (.pair .leaf (.pair .shr uf)))))))),.val ak (.pair .leaf (.pair .leaf (.pair q3 (.pair .shr (.pair .leaf (.pair .leaf (.pair .leaf (.pair .shr uf))))))))],[.val .bool .leaf],jU k,[]⟩)::(wO k)
theorem Mg (k:Nat):ae Tryz.prog (xX k):=ae.ev ax mixed (HU k) nA nA k Tryz.func145 (by kernel_rfl) (fun x=>by kernel_rfl)
def Hi:Nat→Option aL:=fun|4=>some ⟨[(0,.val (.sl ak) (.sl (.sha [1]))),(1,.val (.sl ak) (.sl (.sha [1]))),(5,.val (.int .i64) .leaf)],3⟩|_=>none
def xi (k:Nat):List (FuncId×aF):=(74,⟨[.val (.sl ak) .shr,.val (.sl ak) .shr],[.val .bool .leaf],pj k,[]⟩)::(xX k)
theorem HT (k:Nat):ae Tryz.prog (xi k):=ae.ev ax mixed (Mg k) Hi nA k Tryz.func74 (by kernel_rfl) (fun x=>by kernel_rfl)
def wF (k:Nat):List (FuncId×aF):=(17,⟨[.val aE (.pair (.pair .leaf (.pair .leaf q0)) (.pair .leaf (.pair .leaf (.pair .shr (.pair .shr (.pair .shr (.pair .leaf (.pair .shr (.pair .leaf (.pair .shr jc)))))))))),.val aE (.pair (.pair .leaf (.pair .leaf q0)) (.pair .leaf (.pair .leaf (.pair .shr (.pair .shr (.pair .shr (.pair .leaf (.pair .shr (.pair .leaf (.pair .shr jc))))))))))],[.val .bool .leaf],eW k,[]⟩)::(xi k)
theorem I2 (k:Nat):ae Tryz.prog (wF k):=ae.ev ax mixed (HT k) nA nA k Tryz.func17 (by kernel_rfl) (fun x=>by kernel_rfl)
def DB:Nat→Option aL:=fun|4=>some ⟨[(0,.val (.int .i64) .leaf),(3,.val .str .leaf)],3⟩|_=>none
def Dk:Nat→Option aL:=fun|7=>some ⟨[(3,.val .str .leaf)],3⟩|_=>none
def tD (k:Nat):List (FuncId×aF):=(107,⟨[.val (.int .i64) .leaf],[.val .str .leaf],bU k,[]⟩)::(wF k)
theorem bP (k:Nat):ae Tryz.prog (tD k):=ae.ev ax mixed (I2 k) DB Dk k Tryz.func107 (by kernel_rfl) (fun x=>by kernel_rfl)
def zi:Nat→Option aL:=fun|2=>some ⟨[(0,.val (.sl .str) (.sl (.row 3 [3] true))),(1,.val (.int .i64) .leaf),(5,.val (.int .i64) .leaf)],4⟩|_=>none
def qA (k:Nat):List (FuncId×dE):=(180,⟨(.sl .str),kR k⟩)::([]:List (FuncId×dE))
theorem zJ (k:Nat):ck Tryz.prog (qA k):=ck.ev ax mixed (bP k) (show ck Tryz.prog []from trivial) zi nA k Tryz.func180 (by kernel_rfl) (fun x n=>by kernel_rfl)
def tz (k:Nat):List (FuncId×dE):=(83,⟨bC,ot k⟩)::(qA k)
theorem Fc (k:Nat):ck Tryz.prog (tz k):=ck.ev ax mixed (bP k) (zJ k) nA nA k Tryz.func83 (by kernel_rfl) (fun x n=>by kernel_rfl)
def zr:Nat→Option aL:=fun|2=>some ⟨[(0,.val (.sl af) (.sl (.row 3 [3] true))),(1,.val (.int .i64) .leaf),(5,.val (.int .i64) .leaf)],4⟩|_=>none
def rj (k:Nat):List (FuncId×dE):=(29,⟨(.sl af),cH k⟩)::(tz k)
theorem BK (k:Nat):ck Tryz.prog (rj k):=ck.ev ax mixed (bP k) (Fc k) zr nA k Tryz.func29 (by kernel_rfl) (fun x n=>by kernel_rfl)
def zK:Nat→Option aL:=fun|2=>some ⟨[(0,.val (.sl ab) (.sl (.row 3 [3] true))),(1,.val (.int .i64) .leaf),(5,.val (.int .i64) .leaf)],4⟩|_=>none
def re (k:Nat):List (FuncId×dE):=(86,⟨(.sl ab),cG k⟩)::(rj k)
theorem B6 (k:Nat):ck Tryz.prog (re k):=ck.ev ax mixed (bP k) (BK k) zK nA k Tryz.func86 (by kernel_rfl) (fun x n=>by kernel_rfl)
def zS:Nat→Option aL:=fun|2=>some ⟨[(0,.val (.sl ay) (.sl (.row 3 [3] true))),(1,.val (.int .i64) .leaf),(5,.val (.int .i64) .leaf)],4⟩|_=>none
def rb (k:Nat):List (FuncId×dE):=(181,⟨(.sl ay),mr k⟩)::(re k)
theorem BP (k:Nat):ck Tryz.prog (rb k):=ck.ev ax mixed (bP k) (B6 k) zS nA k Tryz.func181 (by kernel_rfl) (fun x n=>by kernel_rfl)
def Bd:Nat→Option aL:=fun|2=>some ⟨[(0,.val (.sl aq) (.sl (.row 3 [3] true))),(1,.val (.int .i64) .leaf),(5,.val (.int .i64) .leaf)],4⟩|_=>none
def th (k:Nat):List (FuncId×dE):=(84,⟨(.sl aq),nw k⟩)::(rb k)
theorem C6 (k:Nat):ck Tryz.prog (th k):=ck.ev ax mixed (bP k) (BP k) Bd nA k Tryz.func84 (by kernel_rfl) (fun x n=>by kernel_rfl)
def DJ:Nat→Option aL:=fun|2=>some ⟨[(0,.val (.sl aU) (.sl (.row 3 [3] true))),(1,.val (.int .i64) .leaf),(5,.val (.int .i64) .leaf)],4⟩|_=>none
def uv (k:Nat):List (FuncId×dE):=(85,⟨(.sl aU),oK k⟩)::(th k)
theorem Gm (k:Nat):ck Tryz.prog (uv k):=ck.ev ax mixed (bP k) (C6 k) DJ nA k Tryz.func85 (by kernel_rfl) (fun x n=>by kernel_rfl)
def Aw:Nat→Option aL:=fun|2=>some ⟨[(0,.val (.sl al) (.sl (.row 3 [3] true))),(1,.val (.int .i64) .leaf),(5,.val (.int .i64) .leaf)],4⟩|_=>none
def rf (k:Nat):List (FuncId×dE):=(87,⟨(.sl al),mq k⟩)::(uv k)
theorem Bg (k:Nat):ck Tryz.prog (rf k):=ck.ev ax mixed (bP k) (Gm k) Aw nA k Tryz.func87 (by kernel_rfl) (fun x n=>by kernel_rfl)
def zB:Nat→Option aL:=fun|2=>some ⟨[(0,.val (.sl aC) (.sl (.row 3 [3] true))),(1,.val (.int .i64) .leaf),(5,.val (.int .i64) .leaf)],4⟩|_=>none
def rl (k:Nat):List (FuncId×dE):=(88,⟨(.sl aC),mj k⟩)::(rf k)
theorem Bi (k:Nat):ck Tryz.prog (rl k):=ck.ev ax mixed (bP k) (Bg k) zB nA k Tryz.func88 (by kernel_rfl) (fun x n=>by kernel_rfl)
def zV:Nat→Option aL:=fun|2=>some ⟨[(0,.val (.sl aN) (.sl (.row 3 [3] true))),(1,.val (.int .i64) .leaf),(5,.val (.int .i64) .leaf)],4⟩|_=>none
def rq (k:Nat):List (FuncId×dE):=(89,⟨(.sl aN),mn k⟩)::(rl k)
theorem BW (k:Nat):ck Tryz.prog (rq k):=ck.ev ax mixed (bP k) (Bi k) zV nA k Tryz.func89 (by kernel_rfl) (fun x n=>by kernel_rfl)
def D9:Nat→Option aL:=fun|2=>some ⟨[(0,.val (.sl (.int .i64)) (.sl (.row 3 [3] true))),(1,.val (.int .i64) .leaf),(5,.val (.int .i64) .leaf)],4⟩|_=>none
def uo (k:Nat):List (FuncId×dE):=(182,⟨(.sl (.int .i64)),oj k⟩)::(rq k)
theorem GQ (k:Nat):ck Tryz.prog (uo k):=ck.ev ax mixed (bP k) (BW k) D9 nA k Tryz.func182 (by kernel_rfl) (fun x n=>by kernel_rfl)
def A7:Nat→Option aL:=fun|2=>some ⟨[(0,.val (.sl ah) (.sl (.row 3 [3] true))),(1,.val (.int .i64) .leaf),(5,.val (.int .i64) .leaf)],4⟩|_=>none
def rV (k:Nat):List (FuncId×dE):=(90,⟨(.sl ah),nH k⟩)::(uo k)
theorem Dp (k:Nat):ck Tryz.prog (rV k):=ck.ev ax mixed (bP k) (GQ k) A7 nA k Tryz.func90 (by kernel_rfl) (fun x n=>by kernel_rfl)
def BF:Nat→Option aL:=fun|2=>some ⟨[(0,.val (.sl ak) (.sl (.row 3 [3] true))),(1,.val (.int .i64) .leaf),(5,.val (.int .i64) .leaf)],4⟩|_=>none
def rZ (k:Nat):List (FuncId×dE):=(91,⟨(.sl ak),ny k⟩)::(rV k)
theorem DY (k:Nat):ck Tryz.prog (rZ k):=ck.ev ax mixed (bP k) (Dp k) BF nA k Tryz.func91 (by kernel_rfl) (fun x n=>by kernel_rfl)
def sT (k:Nat):List (FuncId×dE):=(20,⟨aE,gb k⟩)::(rZ k)
theorem Dj (k:Nat):ck Tryz.prog (sT k):=ck.ev ax mixed (bP k) (DY k) nA nA k Tryz.func20 (by kernel_rfl) (fun x n=>by kernel_rfl)
def CM (k:Nat):List (FuncId×dE):=(35,⟨ab,jv k⟩)::(sT k)
theorem Eb (k:Nat):ck Tryz.prog (CM k):=ck.ev ax mixed (bP k) (Dj k) nA nA k Tryz.func35 (by kernel_rfl) (fun x n=>by kernel_rfl)
def zk:Nat→Option aL:=fun|2=>some ⟨[(0,.val (.sl .str) (.sl (.sha [1]))),(1,.val (.int .i64) .leaf),(5,.val (.int .i64) .leaf)],3⟩|_=>none
def ql (k:Nat):List (FuncId×aF):=(183,⟨[.val (.sl .str) .shr,.val (.int .i64) .leaf],[.val (.int .i64) .leaf],kZ k,[]⟩)::(tD k)
theorem AJ (k:Nat):ae Tryz.prog (ql k):=ae.ev ax mixed (bP k) zk nA k Tryz.func183 (by kernel_rfl) (fun x=>by kernel_rfl)
def um (k:Nat):List (FuncId×aF):=(92,⟨[.val bC (.pair .leaf (.pair .leaf q0)),.val (.int .i64) .leaf],[.val (.int .i64) .leaf],oc k,[]⟩)::(ql k)
theorem FV (k:Nat):ae Tryz.prog (um k):=ae.ev ax mixed (AJ k) nA nA k Tryz.func92 (by kernel_rfl) (fun x=>by kernel_rfl)
def Ak:Nat→Option aL:=fun|2=>some ⟨[(0,.val (.sl af) (.sl (.sha [1]))),(1,.val (.int .i64) .leaf),(5,.val (.int .i64) .leaf)],3⟩|_=>none
def qW (k:Nat):List (FuncId×aF):=(185,⟨[.val (.sl af) .shr,.val (.int .i64) .leaf],[.val (.int .i64) .leaf],cZ k,[]⟩)::(um k)
theorem BQ (k:Nat):ae Tryz.prog (qW k):=ae.ev ax mixed (FV k) Ak nA k Tryz.func185 (by kernel_rfl) (fun x=>by kernel_rfl)
end Vg.Tryz
namespace Vg.Tryz
open Go Vg Go.Proofs
set_option linter.unusedVariables false
set_option maxRecDepth 1000000
def zy:Nat→Option aL:=fun|2=>some ⟨[(0,.val (.sl ab) (.sl (.sha [1]))),(1,.val (.int .i64) .leaf),(5,.val (.int .i64) .leaf)],3⟩|_=>none
def rz (k:Nat):List (FuncId×aF):=(95,⟨[.val (.sl ab) .shr,.val (.int .i64) .leaf],[.val (.int .i64) .leaf],cI k,[]⟩)::(qW k)
theorem BX (k:Nat):ae Tryz.prog (rz k):=ae.ev ax mixed (BQ k) zy nA k Tryz.func95 (by kernel_rfl) (fun x=>by kernel_rfl)
def zN:Nat→Option aL:=fun|2=>some ⟨[(0,.val (.sl ay) (.sl (.sha [1]))),(1,.val (.int .i64) .leaf),(5,.val (.int .i64) .leaf)],3⟩|_=>none
def rm (k:Nat):List (FuncId×aF):=(184,⟨[.val (.sl ay) .shr,.val (.int .i64) .leaf],[.val (.int .i64) .leaf],mg k,[]⟩)::(rz k)
theorem A8 (k:Nat):ae Tryz.prog (rm k):=ae.ev ax mixed (BX k) zN nA k Tryz.func184 (by kernel_rfl) (fun x=>by kernel_rfl)
def BN:Nat→Option aL:=fun|2=>some ⟨[(0,.val (.sl aq) (.sl (.sha [1]))),(1,.val (.int .i64) .leaf),(5,.val (.int .i64) .leaf)],3⟩|_=>none
def sG (k:Nat):List (FuncId×aF):=(93,⟨[.val (.sl aq) .shr,.val (.int .i64) .leaf],[.val (.int .i64) .leaf],nJ k,[]⟩)::(rm k)
theorem CH (k:Nat):ae Tryz.prog (sG k):=ae.ev ax mixed (A8 k) BN nA k Tryz.func93 (by kernel_rfl) (fun x=>by kernel_rfl)
def Dd:Nat→Option aL:=fun|2=>some ⟨[(0,.val (.sl aU) (.sl (.sha [1]))),(1,.val (.int .i64) .leaf),(5,.val (.int .i64) .leaf)],3⟩|_=>none
def uj (k:Nat):List (FuncId×aF):=(94,⟨[.val (.sl aU) .shr,.val (.int .i64) .leaf],[.val (.int .i64) .leaf],oN k,[]⟩)::(sG k)
theorem E4 (k:Nat):ae Tryz.prog (uj k):=ae.ev ax mixed (CH k) Dd nA k Tryz.func94 (by kernel_rfl) (fun x=>by kernel_rfl)
def As:Nat→Option aL:=fun|2=>some ⟨[(0,.val (.sl al) (.sl (.sha [1]))),(1,.val (.int .i64) .leaf),(5,.val (.int .i64) .leaf)],3⟩|_=>none
def qU (k:Nat):List (FuncId×aF):=(96,⟨[.val (.sl al) .shr,.val (.int .i64) .leaf],[.val (.int .i64) .leaf],mf k,[]⟩)::(uj k)
theorem Be (k:Nat):ae Tryz.prog (qU k):=ae.ev ax mixed (E4 k) As nA k Tryz.func96 (by kernel_rfl) (fun x=>by kernel_rfl)
def Af:Nat→Option aL:=fun|2=>some ⟨[(0,.val (.sl aC) (.sl (.sha [1]))),(1,.val (.int .i64) .leaf),(5,.val (.int .i64) .leaf)],3⟩|_=>none
def qV (k:Nat):List (FuncId×aF):=(97,⟨[.val (.sl aC) .shr,.val (.int .i64) .leaf],[.val (.int .i64) .leaf],mu k,[]⟩)::(qU k)
theorem BA (k:Nat):ae Tryz.prog (qV k):=ae.ev ax mixed (Be k) Af nA k Tryz.func97 (by kernel_rfl) (fun x=>by kernel_rfl)
def zH:Nat→Option aL:=fun|2=>some ⟨[(0,.val (.sl aN) (.sl (.sha [1]))),(1,.val (.int .i64) .leaf),(5,.val (.int .i64) .leaf)],3⟩|_=>none
def qY (k:Nat):List (FuncId×aF):=(98,⟨[.val (.sl aN) .shr,.val (.int .i64) .leaf],[.val (.int .i64) .leaf],ml k,[]⟩)::(qV k)
theorem Bc (k:Nat):ae Tryz.prog (qY k):=ae.ev ax mixed (BA k) zH nA k Tryz.func98 (by kernel_rfl) (fun x=>by kernel_rfl)
def Ds:Nat→Option aL:=fun|2=>some ⟨[(0,.val (.sl (.int .i64)) (.sl (.sha [1]))),(1,.val (.int .i64) .leaf),(5,.val (.int .i64) .leaf)],3⟩|_=>none
def tR (k:Nat):List (FuncId×aF):=(186,⟨[.val (.sl (.int .i64)) .shr,.val (.int .i64) .leaf],[.val (.int .i64) .leaf],oJ k,[]⟩)::(qY k)
theorem Gf (k:Nat):ae Tryz.prog (tR k):=ae.ev ax mixed (Bc k) Ds nA k Tryz.func186 (by kernel_rfl) (fun x=>by kernel_rfl)
def B0:Nat→Option aL:=fun|2=>some ⟨[(0,.val (.sl ah) (.sl (.sha [1]))),(1,.val (.int .i64) .leaf),(5,.val (.int .i64) .leaf)],3⟩|_=>none
def sj (k:Nat):List (FuncId×aF):=(99,⟨[.val (.sl ah) .shr,.val (.int .i64) .leaf],[.val (.int .i64) .leaf],nG k,[]⟩)::(tR k)
theorem C3 (k:Nat):ae Tryz.prog (sj k):=ae.ev ax mixed (Gf k) B0 nA k Tryz.func99 (by kernel_rfl) (fun x=>by kernel_rfl)
def Bz:Nat→Option aL:=fun|2=>some ⟨[(0,.val (.sl ak) (.sl (.sha [1]))),(1,.val (.int .i64) .leaf),(5,.val (.int .i64) .leaf)],3⟩|_=>none
def rX (k:Nat):List (FuncId×aF):=(100,⟨[.val (.sl ak) .shr,.val (.int .i64) .leaf],[.val (.int .i64) .leaf],nv k,[]⟩)::(sj k)
theorem CV (k:Nat):ae Tryz.prog (rX k):=ae.ev ax mixed (C3 k) Bz nA k Tryz.func100 (by kernel_rfl) (fun x=>by kernel_rfl)
def sX (k:Nat):List (FuncId×aF):=(21,⟨[.val aE (.pair (.pair .leaf (.pair .leaf q0)) (.pair .leaf (.pair .leaf (.pair .shr (.pair .shr (.pair .shr (.pair .leaf (.pair .shr (.pair .leaf (.pair .shr jc)))))))))),.val (.int .i64) .leaf],[.val (.int .i64) .leaf],gi k,[]⟩)::(rX k)
theorem D5 (k:Nat):ae Tryz.prog (sX k):=ae.ev ax mixed (CV k) nA nA k Tryz.func21 (by kernel_rfl) (fun x=>by kernel_rfl)
def zj (k:Nat):List (FuncId×aF):=(7,⟨[.val aE (.pair (.pair .leaf (.pair .leaf q0)) (.pair .leaf (.pair .leaf (.pair .shr (.pair .shr (.pair .shr (.pair .leaf (.pair .shr (.pair .leaf (.pair .shr jc)))))))))),.val (.int .i64) .leaf,.val ab q3],[.val .bool .leaf],ko k,[]⟩)::(sX k)
theorem zn (k:Nat):ae Tryz.prog (zj k):=ae.lr ax mixed (D5 k) (Eb k) nA nA k Tryz.func7 (by kernel_rfl) (fun x=>by kernel_rfl)
end Vg.Tryz
