/- FnNoneTooMany: for every input the law returns true, and each argument reads behind the call as it read before. -/
import Derived.Test.YtgikmhjpcnnhjaaGreatRows
import Derived.Test.YtgikmhjpcnnhjaaGreatVc
import Derived.Test.YtgikmhjpcnnhjaaGreatE1
import Derived.Test.YtgikmhjpcnnhjaaGreatTB
set_option linter.unusedSimpArgs false
set_option linter.unusedVariables false
set_option linter.unusedSectionVars false
namespace Go.Proofs.YtgikmhjpcnnhjaaGreat.fnNoneTooMany
open Go.ChangeShapes Go.WideShapes Go.ChangeAt Go.RowKit Vg
theorem own:ownKnob Tryz.prog.godebug=none:=by kernel_rfl
set_option maxRecDepth 100000 in
theorem lifted(os:Os)(started:os.Started)(H:Type)(enc:TypeId×Value->H):
 ReturnsInHanded {} Tryz.checked os 10 .any (Rows.fnNoneTooManySpec.pre6 enc Tryz.prog Tryz.f10 Rows.fnNoneTooManyRow.domain false) (Rows.fnNoneTooManySpec.post enc Tryz.prog Tryz.f10 false true false false):=by
 refine returnsInHanded_of_change (C:=Tryz.checked) own started (by kernel_rfl) Tryz.func10
  (ChangeSpec.witness6 (enc:=enc) (C:=Tryz.checked) false ⟨#[], #[.slice none 0 0],[]⟩ 30 (by kernel_rfl) (by kernel_rfl) (by kernel_rfl) (by kernel_rfl)) ?_
 intro W base args b gs before a c _ _
 exact OW (τs:=[.sl (.int .u8)]) (n:=30) (tb:=4) (Vg.Tryz.AX 9223372036854775808).1 Tryz.func10 (by kernel_rfl) (by kernel_rfl) (by kernel_rfl) (by kernel_rfl) Tryz.underlying4 laid (by kernel_rfl) rfl
  (fun b h=>match b,h with| [_],_=>rfl) (fun x d=>⟨(true,()),Vg.Tryz.Jo (Nat.le_refl _) d.1,rfl⟩) W base args b gs before a c
theorem proved:Rows.FnNoneTooManySaid:=
 OpenClaim.holds_of_wide 10 Tryz.f10 rfl rfl rfl rfl rfl rfl rfl ⟨rfl,rfl,rfl,rfl,rfl⟩ rfl rfl rfl rfl rfl (by kernel_rfl) Tryz.func10 facts
  (e_ (by kernel_rfl)) (by unfold Func.isWrapper;first|(rw[an (by decide+kernel)];kernel_rfl)|(rw[a_ (by decide+kernel)];exact⟨rfl,rfl⟩))
  (fun os started H enc _=>lifted os started H enc)
end Go.Proofs.YtgikmhjpcnnhjaaGreat.fnNoneTooMany
