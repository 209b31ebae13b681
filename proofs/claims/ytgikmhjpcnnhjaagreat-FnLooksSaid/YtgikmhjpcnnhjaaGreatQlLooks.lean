/- FnLooks: for every input the law returns true, and each argument reads behind the call as it read before. -/
import Derived.Test.YtgikmhjpcnnhjaaGreatRows
import Derived.Test.YtgikmhjpcnnhjaaGreatZc
import Derived.Test.YtgikmhjpcnnhjaaGreatQlE6
import Derived.Test.YtgikmhjpcnnhjaaGreatQlUD
set_option linter.unusedSimpArgs false
set_option linter.unusedVariables false
set_option linter.unusedSectionVars false
set_option linter.defProp false
namespace Go.Proofs.YtgikmhjpcnnhjaaGreat.fnLooks
open Go.ChangeShapes Go.WideShapes Go.ChangeAt Go.RowKit Vg
theorem own:ownKnob Tryz.prog.godebug=none:=by kernel_rfl
set_option maxRecDepth 100000 in
theorem lifted(c:Os)(started:c.Started)(H:Type)(enc:TypeId×Value->H):
 ReturnsInHanded {} Tryz.checked c 8 .any (Rows.fnLooksSpec.pre6 enc Tryz.prog Tryz.f8 Rows.fnLooksRow.domain false) (Rows.fnLooksSpec.post enc Tryz.prog Tryz.f8 false true false false):=by
 refine returnsInHanded_of_change (C:=Tryz.checked) own started (by kernel_rfl) Tryz.func8
  (ChangeSpec.witness6 (enc:=enc) (C:=Tryz.checked) false ⟨#[], #[.slice none 0 0],[]⟩ 30 (by kernel_rfl) (by kernel_rfl) (by kernel_rfl) (by kernel_rfl)) ?_
 intro W base args b gs before a d _ _
 exact VA (τs:=[.sl (.int .u8)]) (n:=30) (tb:=4) (Vg.Tryz.TM 9223372036854775808).1 Tryz.func8 (by kernel_rfl) (by kernel_rfl) (by kernel_rfl) (by kernel_rfl) Tryz.underlying4 laid (by kernel_rfl) rfl
  (λb h=>match b,h with| [_],_=>rfl) (λx e=>⟨(true,()),Vg.Tryz.aeI (Nat.le_refl _) e.1,rfl⟩) W base args b gs before a d
theorem proved:Rows.FnLooksSaid:=
 OpenClaim.holds_of_wide 8 Tryz.f8 rfl rfl rfl rfl rfl rfl rfl ⟨rfl,rfl,rfl,rfl,rfl⟩ rfl rfl rfl rfl rfl (by kernel_rfl) Tryz.func8 facts
  (e_ (by kernel_rfl)) (by unfold Func.isWrapper;first|(rw[an (by decide+kernel)];kernel_rfl)|(rw[a_ (by decide+kernel)];exact⟨rfl,rfl⟩))
  (λa started H enc _=>lifted a started H enc)
end Go.Proofs.YtgikmhjpcnnhjaaGreat.fnLooks
