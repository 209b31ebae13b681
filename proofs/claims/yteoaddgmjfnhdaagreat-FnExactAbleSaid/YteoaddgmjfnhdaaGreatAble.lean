/- FnExactAble: for every input the law returns true, and each argument reads behind the call as it read before. -/
import Derived.Test.YteoaddgmjfnhdaaGreatRows
import Derived.Test.YteoaddgmjfnhdaaGreatVc
import Derived.Test.YteoaddgmjfnhdaaGreatE7
import Derived.Test.YteoaddgmjfnhdaaGreatPS
set_option linter.unusedSimpArgs false
set_option linter.unusedVariables false
set_option linter.unusedSectionVars false
namespace Go.Proofs.YteoaddgmjfnhdaaGreat.fnExactAble
open Go.ChangeShapes Go.WideShapes Go.ChangeAt Go.RowKit Vg
theorem own:ownKnob Tryz.prog.godebug=none:=by kernel_rfl
theorem laid:laidOutB Tryz.prog=true:=by kernel_rfl
set_option maxRecDepth 100000 in
theorem lifted (os:Os) (started:os.Started) (H:Type) (enc:TypeId×Value→H):
 ReturnsInHanded {} Tryz.checked os 3 .any (Rows.fnExactAbleSpec.pre6 enc Tryz.prog Tryz.f3 Rows.fnExactAbleRow.domain false) (Rows.fnExactAbleSpec.post enc Tryz.prog Tryz.f3 false true false false):=by
 refine returnsInHanded_of_change (C:=Tryz.checked) own started (by kernel_rfl) Tryz.func3
  (ChangeSpec.witness6 (enc:=enc) (C:=Tryz.checked) false ⟨#[], #[.agg (Vg.Ty.zero Vg.Tryz.az).toArray,.int .i64 0],[]⟩ 30 (by kernel_rfl) (by kernel_rfl) (by kernel_rfl) (by kernel_rfl)) ?_
 intro W base args ds gs before hval hW _ _
 exact VR (τs:=[Vg.Tryz.az,.int .i64]) (n:=30) (tb:=4) (Vg.Tryz.FC 9223372036854775808).1 Tryz.func3 (by kernel_rfl) (by kernel_rfl) (by kernel_rfl) (by kernel_rfl) Tryz.underlying4 laid (by kernel_rfl) rfl
  (fun ds h=>match ds,h with| [_,_],_=>rfl) (fun x hx=>⟨(true,()),Vg.Tryz.aa9 (Nat.le_refl _) hx.1,rfl⟩) W base args ds gs before hval hW
theorem e_9:(Rows.fnExactAbleRow.inPlace==Program.inPlace Tryz.prog 3)=true:=by kernel_rfl
theorem aer:(Rows.fnExactAbleRow.unfollowed==Program.unfollowed Tryz.prog 3)=true:=by kernel_rfl
theorem aes:(Rows.fnExactAbleRow.recurses==Program.recurses Tryz.prog 3)=true:=by kernel_rfl
theorem aeG:(Rows.fnExactAbleRow.named==Program.varsNamed Tryz.prog 3)=true:=by kernel_rfl
theorem aey:(Rows.fnExactAbleRow.plainKeys==Program.plainKeys Tryz.prog)=true:=by kernel_rfl
theorem aev:Program.stopsHeard Tryz.prog=true:=by kernel_rfl
theorem aew:Program.mayEnter Tryz.prog=true:=by kernel_rfl
theorem aeN:(Rows.fnExactAbleRow.lifted==Program.liftsFinal Tryz.prog)=true:=by kernel_rfl
theorem aet:(Program.make Tryz.prog==some Rows.fnExactAbleRow.make)=true:=by kernel_rfl
theorem facts:joinedFacts Tryz.prog 3 Tryz.f3 Rows.fnExactAbleSpec Rows.fnExactAbleRow=true:=by
 unfold joinedFacts
 simp only[Bool.and_eq_true]
 repeat' apply And.intro
 ·kernel_rfl
 ·exact laid
 ·kernel_rfl
 ·kernel_rfl
 ·kernel_rfl
 ·kernel_rfl
 ·kernel_rfl
 ·kernel_rfl
 ·kernel_rfl
 ·exact e_9
 ·exact aer
 ·exact aes
 ·exact aeG
 ·kernel_rfl
 ·kernel_rfl
 ·kernel_rfl
 ·kernel_rfl
 ·kernel_rfl
 ·kernel_rfl
 ·kernel_rfl
 ·kernel_rfl
 ·kernel_rfl
 ·exact aey
 ·kernel_rfl
 ·exact aev
 ·exact aew
 ·exact aeN
 ·exact aet
 ·kernel_rfl
 ·kernel_rfl
 ·kernel_rfl
 ·kernel_rfl
theorem proved:Rows.FnExactAbleSaid:=
 OpenClaim.holds_of_wide 3 Tryz.f3 rfl rfl rfl rfl rfl rfl rfl ⟨rfl,rfl,rfl,rfl,rfl⟩ rfl rfl rfl rfl rfl (by kernel_rfl) Tryz.func3 facts
  (of_decide_eq_true (by kernel_rfl)) (by unfold Func.isWrapper;first|(rw[if_pos (by decide+kernel)];kernel_rfl)|(rw[if_neg (by decide+kernel)];exact⟨rfl,rfl⟩))
  (fun os started H enc _=>lifted os started H enc)
end Go.Proofs.YteoaddgmjfnhdaaGreat.fnExactAble
