/- FnExactList: for every input the law returns true, and each argument reads behind the call as it read before. -/
import Derived.Test.YteoefigcipiffaaGreatRows
import Derived.Test.YteoefigcipiffaaGreatVc
import Derived.Test.YteoefigcipiffaaGreatJ
import Derived.Test.YteoefigcipiffaaGreatPI
set_option linter.unusedSimpArgs false
set_option linter.unusedVariables false
namespace Go.Proofs.YteoefigcipiffaaGreat.fnExactList
open Go.ChangeShapes Go.WideShapes Go.ChangeAt Go.RowKit Vg
theorem own:ownKnob Tryz.prog.godebug=none:=by kernel_rfl
theorem laid:laidOutB Tryz.prog=true:=by kernel_rfl
set_option maxRecDepth 100000 in
theorem lifted (os:Os) (started:os.Started) (H:Type) (enc:TypeId×Value→H):
 ReturnsInHanded {} Tryz.checked os 5 .any (Rows.fnExactListSpec.pre6 enc Tryz.prog Tryz.f5 Rows.fnExactListRow.domain false) (Rows.fnExactListSpec.post enc Tryz.prog Tryz.f5 false true false false):=by
 refine returnsInHanded_of_change (C:=Tryz.checked) own started (by kernel_rfl) Tryz.func5
  (ChangeSpec.witness6 (enc:=enc) (C:=Tryz.checked) false ⟨#[], #[.agg (Vg.Ty.zero Vg.Tryz.aE).toArray,.int .i64 0],[]⟩ 30 (by kernel_rfl) (by kernel_rfl) (by kernel_rfl) (by kernel_rfl)) ?_
 intro W base args ds gs before hval hW _ _
 exact MX (τs:=[Vg.Tryz.aE,.int .i64]) (n:=30) (tb:=4) (Vg.Tryz.zz 9223372036854775808).1 Tryz.func5 (by kernel_rfl) (by kernel_rfl) (by kernel_rfl) (by kernel_rfl) Tryz.underlying4 laid (by kernel_rfl) rfl
  (fun ds h=>match ds,h with| [_,_],_=>rfl) (fun x hx=>⟨(true,()),Vg.Tryz.Sl (Nat.le_refl _) hx.1,rfl⟩) W base args ds gs before hval hW
theorem U4:(Rows.fnExactListRow.inPlace==Program.inPlace Tryz.prog 5)=true:=by kernel_rfl
theorem UY:(Rows.fnExactListRow.unfollowed==Program.unfollowed Tryz.prog 5)=true:=by kernel_rfl
theorem U3:(Rows.fnExactListRow.recurses==Program.recurses Tryz.prog 5)=true:=by kernel_rfl
theorem U2:(Rows.fnExactListRow.named==Program.varsNamed Tryz.prog 5)=true:=by kernel_rfl
theorem UZ:(Rows.fnExactListRow.plainKeys==Program.plainKeys Tryz.prog)=true:=by kernel_rfl
theorem U1:Program.stopsHeard Tryz.prog=true:=by kernel_rfl
theorem UW:Program.mayEnter Tryz.prog=true:=by kernel_rfl
theorem UX:(Rows.fnExactListRow.lifted==Program.liftsFinal Tryz.prog)=true:=by kernel_rfl
theorem UT:(Program.make Tryz.prog==some Rows.fnExactListRow.make)=true:=by kernel_rfl
theorem facts:joinedFacts Tryz.prog 5 Tryz.f5 Rows.fnExactListSpec Rows.fnExactListRow=true:=by
 unfold joinedFacts
 simp only[Bool.and_eq_true]
 repeat' apply And.intro
 ·kernel_rfl
 ·exact laid
 ·kernel_rfl
 ·kernel_rfl
 ·kernel_rfl
 ·kernel_rfl
 ·kernel_rfl
 ·kernel_rfl
 ·kernel_rfl
 ·exact U4
 ·exact UY
 ·exact U3
 ·exact U2
 ·kernel_rfl
 ·kernel_rfl
 ·kernel_rfl
 ·kernel_rfl
 ·kernel_rfl
 ·kernel_rfl
 ·kernel_rfl
 ·kernel_rfl
 ·kernel_rfl
 ·exact UZ
 ·kernel_rfl
 ·exact U1
 ·exact UW
 ·exact UX
 ·exact UT
 ·kernel_rfl
 ·kernel_rfl
 ·kernel_rfl
 ·kernel_rfl
theorem proved:Rows.FnExactListSaid:=
 OpenClaim.holds_of_wide 5 Tryz.f5 rfl rfl rfl rfl rfl rfl rfl ⟨rfl,rfl,rfl,rfl,rfl⟩ rfl rfl rfl rfl rfl (by kernel_rfl) Tryz.func5 facts
  (of_decide_eq_true (by kernel_rfl)) (by unfold Func.isWrapper;first|(rw[if_pos (by decide+kernel)];kernel_rfl)|(rw[if_neg (by decide+kernel)];exact⟨rfl,rfl⟩))
  (fun os started H enc _=>lifted os started H enc)
end Go.Proofs.YteoefigcipiffaaGreat.fnExactList
