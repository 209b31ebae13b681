/- FnExactLook: for every input the law returns true, and each argument reads behind the call as it read before. -/
import Derived.Test.YteoefigcipiffaaGreatRows
import Derived.Test.YteoefigcipiffaaGreatVc
import Derived.Test.YteoefigcipiffaaGreatJ
import Derived.Test.YteoefigcipiffaaGreatPI
set_option linter.unusedSimpArgs false
set_option linter.unusedVariables false
namespace Go.Proofs.YteoefigcipiffaaGreat.fnExactLook
open Go.ChangeShapes Go.WideShapes Go.ChangeAt Go.RowKit Vg
theorem own:ownKnob Tryz.prog.godebug=none:=by kernel_rfl
theorem laid:laidOutB Tryz.prog=true:=by kernel_rfl
set_option maxRecDepth 100000 in
theorem lifted (os:Os) (started:os.Started) (H:Type) (enc:TypeId×Value→H):
 ReturnsInHanded {} Tryz.checked os 6 .any (Rows.fnExactLookSpec.pre6 enc Tryz.prog Tryz.f6 Rows.fnExactLookRow.domain false) (Rows.fnExactLookSpec.post enc Tryz.prog Tryz.f6 false true false false):=by
 refine returnsInHanded_of_change (C:=Tryz.checked) own started (by kernel_rfl) Tryz.func6
  (ChangeSpec.witness6 (enc:=enc) (C:=Tryz.checked) false ⟨#[], #[.agg (Vg.Ty.zero Vg.Tryz.aE).toArray,.int .i64 0,.slice none 0 0],[]⟩ 30 (by kernel_rfl) (by kernel_rfl) (by kernel_rfl) (by kernel_rfl)) ?_
 intro W base args ds gs before hval hW _ _
 exact MI (τs:=[Vg.Tryz.aE,.int .i64,.sl Vg.Tryz.af]) (n:=30) (tb:=4) (Vg.Tryz.AG 9223372036854775808).1 Tryz.func6 (by kernel_rfl) (by kernel_rfl) (by kernel_rfl) (by kernel_rfl) Tryz.underlying4 laid (by kernel_rfl) rfl
  (fun ds h=>match ds,h with| [_,_,_],_=>rfl) (fun x hx=>⟨(true,()),Vg.Tryz.SC (Nat.le_refl _) hx.1 hx.2.2.1,rfl⟩) W base args ds gs before hval hW
theorem U6:(Rows.fnExactLookRow.inPlace==Program.inPlace Tryz.prog 6)=true:=by kernel_rfl
theorem UX:(Rows.fnExactLookRow.unfollowed==Program.unfollowed Tryz.prog 6)=true:=by kernel_rfl
theorem U1:(Rows.fnExactLookRow.recurses==Program.recurses Tryz.prog 6)=true:=by kernel_rfl
theorem U2:(Rows.fnExactLookRow.named==Program.varsNamed Tryz.prog 6)=true:=by kernel_rfl
theorem UY:(Rows.fnExactLookRow.plainKeys==Program.plainKeys Tryz.prog)=true:=by kernel_rfl
theorem U0:Program.stopsHeard Tryz.prog=true:=by kernel_rfl
theorem UT:Program.mayEnter Tryz.prog=true:=by kernel_rfl
theorem UU:(Rows.fnExactLookRow.lifted==Program.liftsFinal Tryz.prog)=true:=by kernel_rfl
theorem U3:(Program.make Tryz.prog==some Rows.fnExactLookRow.make)=true:=by kernel_rfl
theorem facts:joinedFacts Tryz.prog 6 Tryz.f6 Rows.fnExactLookSpec Rows.fnExactLookRow=true:=by
 unfold joinedFacts
 simp only[Bool.and_eq_true]
 repeat' apply And.intro
 ·kernel_rfl
 ·exact laid
 ·kernel_rfl
 ·kernel_rfl
 ·kernel_rfl
 ·kernel_rfl
 ·kernel_rfl
 ·kernel_rfl
 ·kernel_rfl
 ·exact U6
 ·exact UX
 ·exact U1
 ·exact U2
 ·kernel_rfl
 ·kernel_rfl
 ·kernel_rfl
 ·kernel_rfl
 ·kernel_rfl
 ·kernel_rfl
 ·kernel_rfl
 ·kernel_rfl
 ·kernel_rfl
 ·exact UY
 ·kernel_rfl
 ·exact U0
 ·exact UT
 ·exact UU
 ·exact U3
 ·kernel_rfl
 ·kernel_rfl
 ·kernel_rfl
 ·kernel_rfl
theorem proved:Rows.FnExactLookSaid:=
 OpenClaim.holds_of_wide 6 Tryz.f6 rfl rfl rfl rfl rfl rfl rfl ⟨rfl,rfl,rfl,rfl,rfl⟩ rfl rfl rfl rfl rfl (by kernel_rfl) Tryz.func6 facts
  (of_decide_eq_true (by kernel_rfl)) (by unfold Func.isWrapper;first|(rw[if_pos (by decide+kernel)];kernel_rfl)|(rw[if_neg (by decide+kernel)];exact⟨rfl,rfl⟩))
  (fun os started H enc _=>lifted os started H enc)
end Go.Proofs.YteoefigcipiffaaGreat.fnExactLook
