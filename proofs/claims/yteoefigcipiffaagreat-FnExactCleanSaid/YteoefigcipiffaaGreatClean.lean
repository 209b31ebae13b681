/- FnExactClean: for every input the law returns true, and each argument reads behind the call as it read before. -/
import Derived.Test.YteoefigcipiffaaGreatRows
import Derived.Test.YteoefigcipiffaaGreatVc
import Derived.Test.YteoefigcipiffaaGreatJ
import Derived.Test.YteoefigcipiffaaGreatPI
namespace Go.Proofs.YteoefigcipiffaaGreat.fnExactClean
open Go.ChangeShapes Go.WideShapes Go.ChangeAt Go.RowKit Vg
theorem own:ownKnob Tryz.prog.godebug=none:=by kernel_rfl
theorem laid:laidOutB Tryz.prog=true:=by kernel_rfl
set_option maxRecDepth 100000 in
theorem lifted (os:Os) (started:os.Started) (H:Type) (enc:TypeId×Value→H):
 ReturnsInHanded {} Tryz.checked os 4 .any (Rows.fnExactCleanSpec.pre6 enc Tryz.prog Tryz.f4 Rows.fnExactCleanRow.domain false) (Rows.fnExactCleanSpec.post enc Tryz.prog Tryz.f4 false true false false):=by
 refine returnsInHanded_of_change (C:=Tryz.checked) own started (by kernel_rfl) Tryz.func4
  (ChangeSpec.witness6 (enc:=enc) (C:=Tryz.checked) false ⟨#[], #[.agg (Vg.Ty.zero Vg.Tryz.aE).toArray,.int .i64 0],[]⟩ 30 (by kernel_rfl) (by kernel_rfl) (by kernel_rfl) (by kernel_rfl)) ?_
 intro W base args ds gs before hval hW _ _
 exact Nw (τs:=[Vg.Tryz.aE,.int .i64]) (n:=30) (tb:=4) (Vg.Tryz.y0 9223372036854775808).1 Tryz.func4 (by kernel_rfl) (by kernel_rfl) (by kernel_rfl) (by kernel_rfl) Tryz.underlying4 laid (by kernel_rfl) rfl
  (fun ds h=>match ds,h with| [_,_],_=>rfl) (fun x hx=>⟨(true,()),Vg.Tryz.RY (Nat.le_refl _) hx.1,rfl⟩) W base args ds gs before hval hW
theorem U5:(Rows.fnExactCleanRow.inPlace==Program.inPlace Tryz.prog 4)=true:=by kernel_rfl
theorem UZ:(Rows.fnExactCleanRow.unfollowed==Program.unfollowed Tryz.prog 4)=true:=by kernel_rfl
theorem U0:(Rows.fnExactCleanRow.recurses==Program.recurses Tryz.prog 4)=true:=by kernel_rfl
theorem UX:(Rows.fnExactCleanRow.named==Program.varsNamed Tryz.prog 4)=true:=by kernel_rfl
theorem UT:(Rows.fnExactCleanRow.plainKeys==Program.plainKeys Tryz.prog)=true:=by kernel_rfl
theorem UW:Program.stopsHeard Tryz.prog=true:=by kernel_rfl
theorem U2:Program.mayEnter Tryz.prog=true:=by kernel_rfl
theorem U3:(Rows.fnExactCleanRow.lifted==Program.liftsFinal Tryz.prog)=true:=by kernel_rfl
theorem UU:(Program.make Tryz.prog==some Rows.fnExactCleanRow.make)=true:=by kernel_rfl
theorem facts:joinedFacts Tryz.prog 4 Tryz.f4 Rows.fnExactCleanSpec Rows.fnExactCleanRow=true:=by
 unfold joinedFacts
 simp only[Bool.and_eq_true]
 repeat' apply And.intro
 ·kernel_rfl
 ·exact laid
 ·kernel_rfl
 ·kernel_rfl
 ·kernel_rfl
 ·kernel_rfl
 ·kernel_rfl
 ·kernel_rfl
 ·kernel_rfl
 ·exact U5
 ·exact UZ
 ·exact U0
 ·exact UX
 ·kernel_rfl
 ·kernel_rfl
 ·kernel_rfl
 ·kernel_rfl
 ·kernel_rfl
 ·kernel_rfl
 ·kernel_rfl
 ·kernel_rfl
 ·kernel_rfl
 ·exact UT
 ·kernel_rfl
 ·exact UW
 ·exact U2
 ·exact U3
 ·exact UU
 ·kernel_rfl
 ·kernel_rfl
 ·kernel_rfl
 ·kernel_rfl
theorem proved:Rows.FnExactCleanSaid:=
 OpenClaim.holds_of_wide 4 Tryz.f4 rfl rfl rfl rfl rfl rfl rfl ⟨rfl,rfl,rfl,rfl,rfl⟩ rfl rfl rfl rfl rfl (by kernel_rfl) Tryz.func4 facts
  (of_decide_eq_true (by kernel_rfl)) (by unfold Func.isWrapper;first|(rw[if_pos (by decide+kernel)];kernel_rfl)|(rw[if_neg (by decide+kernel)];exact⟨rfl,rfl⟩))
  (fun os started H enc _=>lifted os started H enc)
end Go.Proofs.YteoefigcipiffaaGreat.fnExactClean
