/- FnNobodyStuck: for every input the law returns true, and each argument reads behind the call as it read before. -/
import Derived.Test.YtgikmhjpcnnhjaaGreatRows
import Derived.Test.YtgikmhjpcnnhjaaGreatXc
import Derived.Test.YtgikmhjpcnnhjaaGreatQbJ
import Derived.Test.YtgikmhjpcnnhjaaGreatQbTE
set_option linter.unusedSimpArgs false
set_option linter.unusedVariables false
set_option linter.unusedSectionVars false
set_option linter.defProp false
namespace Go.Proofs.YtgikmhjpcnnhjaaGreat.fnNobodyStuck
open Go.ChangeShapes Go.WideShapes Go.ChangeAt Go.RowKit Vg
theorem own:ownKnob Tryz.prog.godebug=none:=by kernel_rfl
set_option maxRecDepth 100000 in
theorem lifted(c:Os)(started:c.Started)(H:Type)(enc:TypeId×Value->H):
 ReturnsInHanded {} Tryz.checked c 3 .any (Rows.fnNobodyStuckSpec.pre6 enc Tryz.prog Tryz.f3 Rows.fnNobodyStuckRow.domain false) (Rows.fnNobodyStuckSpec.post enc Tryz.prog Tryz.f3 false true false false):=by
 refine returnsInHanded_of_change (C:=Tryz.checked) own started (by kernel_rfl) Tryz.func3
  (ChangeSpec.witness6 (enc:=enc) (C:=Tryz.checked) false ⟨#[], #[.slice none 0 0],[]⟩ 30 (by kernel_rfl) (by kernel_rfl) (by kernel_rfl) (by kernel_rfl)) ?_
 intro W base args b gs before a d _ _
 exact PA (τs:=[.sl (.int .u8)]) (n:=30) (tb:=4) (Vg.Tryz.UC 9223372036854775808).1 Tryz.func3 (by kernel_rfl) (by kernel_rfl) (by kernel_rfl) (by kernel_rfl) Tryz.underlying4 laid (by kernel_rfl) rfl
  (fun b h=>match b,h with| [_],_=>rfl) (fun x e=>⟨(true,()),Vg.Tryz.Yu (Nat.le_refl _) e.1,rfl⟩) W base args b gs before a d
theorem proved:Rows.FnNobodyStuckSaid:=
 OpenClaim.holds_of_wide 3 Tryz.f3 rfl rfl rfl rfl rfl rfl rfl ⟨rfl,rfl,rfl,rfl,rfl⟩ rfl rfl rfl rfl rfl (by kernel_rfl) Tryz.func3 facts
  (e_ (by kernel_rfl)) (by unfold Func.isWrapper;first|(rw[an (by decide+kernel)];kernel_rfl)|(rw[a_ (by decide+kernel)];exact⟨rfl,rfl⟩))
  (fun a started H enc _=>lifted a started H enc)
end Go.Proofs.YtgikmhjpcnnhjaaGreat.fnNobodyStuck
