/- FnExactWaitsFor: for every input the law returns true, and each argument reads behind the call as it read before. -/
import Derived.Test.YtlpeoedbginanaaGreatRows
import Derived.Test.YtlpeoedbginanaaGreatVc
import Derived.Test.YtlpeoedbginanaaGreatE9
import Derived.Test.YtlpeoedbginanaaGreatPS
namespace Go.Proofs.YtlpeoedbginanaaGreat.fnExactWaitsFor
open Go.ChangeShapes Go.WideShapes Go.ChangeAt Go.RowKit Vg

theorem own : ownKnob Tryz.prog.godebug = none := by kernel_rfl
theorem laid : laidOutB Tryz.prog = true := by kernel_rfl

set_option maxRecDepth 100000 in
theorem lifted (os : Os) (started : os.Started) (H : Type) (enc : TypeId × Value → H) :
    ReturnsInHanded {} Tryz.checked os 5 .any (Rows.fnExactWaitsForSpec.pre6 enc Tryz.prog Tryz.f5 Rows.fnExactWaitsForRow.domain false) (Rows.fnExactWaitsForSpec.post enc Tryz.prog Tryz.f5 false true false false) := by
  refine returnsInHanded_of_change (C := Tryz.checked) own started (by kernel_rfl) Tryz.func5
    (ChangeSpec.witness6 (enc := enc) (C := Tryz.checked) false ⟨#[], #[.agg (Vg.Ty.zero Vg.Tryz.tWorld).toArray, .int .i64 0], []⟩ 30 (by kernel_rfl) (by kernel_rfl) (by kernel_rfl) (by kernel_rfl)) ?_
  intro W base args ds gs before hval hW _ _
  exact law_contract (τs := [Vg.Tryz.tWorld, .int .i64]) (n := 30) (tb := 4) (Vg.Tryz.m_laws_FnExactWaitsFor 9223372036854775808) Tryz.func5 (by kernel_rfl) (by kernel_rfl) (by kernel_rfl) (by kernel_rfl) Tryz.underlying4 laid (by kernel_rfl) rfl
    (fun ds h => match ds, h with | [_, _], _ => rfl) (fun x hx => ⟨(true, ()), Vg.Tryz.law_WaitsFor (Nat.le_refl _) hx.1, rfl⟩) W base args ds gs before hval hW

theorem e_9 : (Rows.fnExactWaitsForRow.inPlace == Program.inPlace Tryz.prog 5) = true := by kernel_rfl
theorem e_10 : (Rows.fnExactWaitsForRow.unfollowed == Program.unfollowed Tryz.prog 5) = true := by kernel_rfl
theorem e_11 : (Rows.fnExactWaitsForRow.recurses == Program.recurses Tryz.prog 5) = true := by kernel_rfl
theorem e_12 : (Rows.fnExactWaitsForRow.named == Program.varsNamed Tryz.prog 5) = true := by kernel_rfl
theorem e_22 : (Rows.fnExactWaitsForRow.plainKeys == Program.plainKeys Tryz.prog) = true := by kernel_rfl
theorem e_24 : Program.stopsHeard Tryz.prog = true := by kernel_rfl
theorem e_25 : Program.mayEnter Tryz.prog = true := by kernel_rfl
theorem e_26 : (Rows.fnExactWaitsForRow.lifted == Program.liftsFinal Tryz.prog) = true := by kernel_rfl
theorem e_27 : (Program.make Tryz.prog == some Rows.fnExactWaitsForRow.make) = true := by kernel_rfl
theorem facts : joinedFacts Tryz.prog 5 Tryz.f5 Rows.fnExactWaitsForSpec Rows.fnExactWaitsForRow = true := by
  unfold joinedFacts
  simp only [Bool.and_eq_true]
  repeat' apply And.intro
  · kernel_rfl
  · exact laid
  · kernel_rfl
  · kernel_rfl
  · kernel_rfl
  · kernel_rfl
  · kernel_rfl
  · kernel_rfl
  · kernel_rfl
  · exact e_9
  · exact e_10
  · exact e_11
  · exact e_12
  · kernel_rfl
  · kernel_rfl
  · kernel_rfl
  · kernel_rfl
  · kernel_rfl
  · kernel_rfl
  · kernel_rfl
  · kernel_rfl
  · kernel_rfl
  · exact e_22
  · kernel_rfl
  · exact e_24
  · exact e_25
  · exact e_26
  · exact e_27
  · kernel_rfl
  · kernel_rfl
  · kernel_rfl
  · kernel_rfl

theorem proved : Rows.FnExactWaitsForSaid :=
  OpenClaim.holds_of_wide 5 Tryz.f5 rfl rfl rfl rfl rfl rfl rfl ⟨rfl, rfl, rfl, rfl, rfl⟩ rfl rfl rfl rfl rfl (by kernel_rfl) Tryz.func5 facts
    (of_decide_eq_true (by kernel_rfl)) (by unfold Func.isWrapper; first | (rw [if_pos (by decide +kernel)]; kernel_rfl) | (rw [if_neg (by decide +kernel)]; exact ⟨rfl, rfl⟩))
    (fun os started H enc _ => lifted os started H enc)
end Go.Proofs.YtlpeoedbginanaaGreat.fnExactWaitsFor
