/- FnSweeps: for every input the law returns true, and each argument reads behind the call as it read before. -/
import Derived.Test.YtgikmhjpcnnhjaaGreatRows
import Derived.Test.YtgikmhjpcnnhjaaGreatVc
import Derived.Test.YtgikmhjpcnnhjaaGreatQsE5
import Derived.Test.YtgikmhjpcnnhjaaGreatQsTE
set_option linter.unusedSimpArgs false
set_option linter.unusedVariables false
set_option linter.unusedSectionVars false
set_option linter.defProp false
namespace Go.Proofs.YtgikmhjpcnnhjaaGreat.fnSweeps
open Go.ChangeShapes Go.WideShapes Go.ChangeAt Go.RowKit Vg
theorem own:ownKnob Tryz.prog.godebug=none:=by kernel_rfl
set_option maxRecDepth 100000 in
theorem lifted(c:Os)(started:c.Started)(H:Type)(enc:TypeId×Value->H):
 ReturnsInHanded {} Tryz.checked c 9 .any (Rows.fnSweepsSpec.pre6 enc Tryz.prog Tryz.f9 Rows.fnSweepsRow.domain false) (Rows.fnSweepsSpec.post enc Tryz.prog Tryz.f9 false true false false):=by
 refine returnsInHanded_of_change (C:=Tryz.checked) own started (by kernel_rfl) Tryz.func9
  (ChangeSpec.witness6 (enc:=enc) (C:=Tryz.checked) false ⟨#[], #[.slice none 0 0],[]⟩ 30 (by kernel_rfl) (by kernel_rfl) (by kernel_rfl) (by kernel_rfl)) ?_
 intro W base args b gs before a d _ _
 exact Ub (τs:=[.sl (.int .u8)]) (n:=30) (tb:=4) (Vg.Tryz.agJ 9223372036854775808).1 Tryz.func9 (by kernel_rfl) (by kernel_rfl) (by kernel_rfl) (by kernel_rfl) Tryz.underlying4 laid (by kernel_rfl) rfl
  (fun b h=>match b,h with| [_],_=>rfl) (fun x e=>⟨(true,()),Vg.Tryz.amx (Nat.le_refl _) e.1,rfl⟩) W base args b gs before a d
theorem proved:Rows.FnSweepsSaid:=
 OpenClaim.holds_of_wide 9 Tryz.f9 rfl rfl rfl rfl rfl rfl rfl ⟨rfl,rfl,rfl,rfl,rfl⟩ rfl rfl rfl rfl rfl (by kernel_rfl) Tryz.func9 facts
  (e_ (by kernel_rfl)) (by unfold Func.isWrapper;first|(rw[an (by decide+kernel)];kernel_rfl)|(rw[a_ (by decide+kernel)];exact⟨rfl,rfl⟩))
  (fun a started H enc _=>lifted a started H enc)
end Go.Proofs.YtgikmhjpcnnhjaaGreat.fnSweeps
