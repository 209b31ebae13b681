/- FnExactOrder: for every input the law returns true, and each argument reads behind the call as it read before. -/
import Derived.Test.YtmoafmclhokdaaaRows
import Derived.Test.YtmoafmclhokdaaaVc
import Derived.Test.YtmoafmclhokdaaaE2
import Derived.Test.YtmoafmclhokdaaaLOrder
namespace Go.Proofs.Ytmoafmclhokdaaa.fnExactOrder
open Go.ChangeShapes Go.WideShapes Go.ChangeAt Go.RowKit Vg

theorem own : ownKnob Try.prog.godebug = none := by kernel_rfl
theorem laid : laidOutB Try.prog = true := by kernel_rfl

set_option maxRecDepth 100000 in
theorem lifted (os : Os) (started : os.Started) (H : Type) (enc : TypeId × Value → H) :
    ReturnsInHanded {} Try.checked os 3 .any (Rows.fnExactOrderSpec.pre6 enc Try.prog Try.f3 Rows.fnExactOrderRow.domain false) (Rows.fnExactOrderSpec.post enc Try.prog Try.f3 false true false false) := by
  refine returnsInHanded_of_change (C := Try.checked) own started (by kernel_rfl) Try.func3
    (ChangeSpec.witness6 (enc := enc) (C := Try.checked) false ⟨#[], #[.slice none 0 0], []⟩ 30 (by kernel_rfl) (by kernel_rfl) (by kernel_rfl) (by kernel_rfl)) ?_
  intro W base args ds gs before hval hW _ _
  exact law_contract (τs := [.sl Vg.Try.tDeed]) (n := 30) (tb := 4) (Vg.Try.m_laws_FnExactOrder 9223372036854775808).1 Try.func3 (by kernel_rfl) (by kernel_rfl) (by kernel_rfl) (by kernel_rfl) Try.underlying4 laid (by kernel_rfl) rfl
    (fun ds h => match ds, h with | [_], _ => rfl) (fun x hx => ⟨(true, ()), Vg.Try.law_Order (Nat.le_refl _) hx.1, rfl⟩) W base args ds gs before hval hW

theorem proved : Rows.FnExactOrderSaid :=
  OpenClaim.holds_of_wide 3 Try.f3 rfl rfl rfl rfl rfl rfl rfl ⟨rfl, rfl, rfl, rfl, rfl⟩ rfl rfl rfl rfl rfl (by kernel_rfl) Try.func3 (by kernel_rfl)
    (of_decide_eq_true (by kernel_rfl)) (by unfold Func.isWrapper; first | (rw [if_pos (by decide +kernel)]; kernel_rfl) | (rw [if_neg (by decide +kernel)]; exact ⟨rfl, rfl⟩))
    (fun os started H enc _ => lifted os started H enc)
end Go.Proofs.Ytmoafmclhokdaaa.fnExactOrder
