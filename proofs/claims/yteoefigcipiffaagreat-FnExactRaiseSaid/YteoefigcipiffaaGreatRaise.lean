/- FnExactRaise: for every input the law returns true, and each argument reads behind the call as it read before. -/
import Derived.Test.YteoefigcipiffaaGreatRows
import Derived.Test.YteoefigcipiffaaGreatVc
import Derived.Test.YteoefigcipiffaaGreatJ
import Derived.Test.YteoefigcipiffaaGreatPI
set_option linter.unusedSimpArgs false
set_option linter.unusedVariables false
namespace Go.Proofs.YteoefigcipiffaaGreat.fnExactRaise
open Go.ChangeShapes Go.WideShapes Go.ChangeAt Go.RowKit Vg
theorem own:ownKnob Tryz.prog.godebug=none:=by kernel_rfl
theorem laid:laidOutB Tryz.prog=true:=by kernel_rfl
set_option maxRecDepth 100000 in
theorem lifted (os:Os) (started:os.Started) (H:Type) (enc:TypeId×Value→H):
 ReturnsInHanded {} Tryz.checked os 7 .any (Rows.fnExactRaiseSpec.pre6 enc Tryz.prog Tryz.f7 Rows.fnExactRaiseRow.domain false) (Rows.fnExactRaiseSpec.post enc Tryz.prog Tryz.f7 false true false false):=by
 refine returnsInHanded_of_change (C:=Tryz.checked) own started (by kernel_rfl) Tryz.func7
  (ChangeSpec.witness6 (enc:=enc) (C:=Tryz.checked) false ⟨#[], #[.agg (Vg.Ty.zero Vg.Tryz.aE).toArray,.int .i64 0,.agg (Vg.Ty.zero Vg.Tryz.ab).toArray],[]⟩ 30 (by kernel_rfl) (by kernel_rfl) (by kernel_rfl) (by kernel_rfl)) ?_
 intro W base args ds gs before hval hW _ _
 exact NG (τs:=[Vg.Tryz.aE,.int .i64,Vg.Tryz.ab]) (n:=30) (tb:=4) (Vg.Tryz.zn 9223372036854775808).1 Tryz.func7 (by kernel_rfl) (by kernel_rfl) (by kernel_rfl) (by kernel_rfl) Tryz.underlying4 laid (by kernel_rfl) rfl
  (fun ds h=>match ds,h with| [_,_,_],_=>rfl) (fun x hx=>⟨(true,()),Vg.Tryz.RN (Nat.le_refl _) hx.1 hx.2.2.1,rfl⟩) W base args ds gs before hval hW
theorem Ve:(Rows.fnExactRaiseRow.inPlace==Program.inPlace Tryz.prog 7)=true:=by kernel_rfl
theorem U8:(Rows.fnExactRaiseRow.unfollowed==Program.unfollowed Tryz.prog 7)=true:=by kernel_rfl
theorem U4:(Rows.fnExactRaiseRow.recurses==Program.recurses Tryz.prog 7)=true:=by kernel_rfl
theorem Vc:(Rows.fnExactRaiseRow.named==Program.varsNamed Tryz.prog 7)=true:=by kernel_rfl
theorem U7:(Rows.fnExactRaiseRow.plainKeys==Program.plainKeys Tryz.prog)=true:=by kernel_rfl
theorem U6:Program.stopsHeard Tryz.prog=true:=by kernel_rfl
theorem U3:Program.mayEnter Tryz.prog=true:=by kernel_rfl
theorem Vd:(Rows.fnExactRaiseRow.lifted==Program.liftsFinal Tryz.prog)=true:=by kernel_rfl
theorem U5:(Program.make Tryz.prog==some Rows.fnExactRaiseRow.make)=true:=by kernel_rfl
theorem facts:joinedFacts Tryz.prog 7 Tryz.f7 Rows.fnExactRaiseSpec Rows.fnExactRaiseRow=true:=by
 unfold joinedFacts
 simp only[Bool.and_eq_true]
 repeat' apply And.intro
 ·kernel_rfl
 ·exact laid
 ·kernel_rfl
 ·kernel_rfl
 ·kernel_rfl
 ·kernel_rfl
 ·kernel_rfl
 ·kernel_rfl
 ·kernel_rfl
 ·exact Ve
 ·exact U8
 ·exact U4
 ·exact Vc
 ·kernel_rfl
 ·kernel_rfl
 ·kernel_rfl
 ·kernel_rfl
 ·kernel_rfl
 ·kernel_rfl
 ·kernel_rfl
 ·kernel_rfl
 ·kernel_rfl
 ·exact U7
 ·kernel_rfl
 ·exact U6
 ·exact U3
 ·exact Vd
 ·exact U5
 ·kernel_rfl
 ·kernel_rfl
 ·kernel_rfl
 ·kernel_rfl
theorem proved:Rows.FnExactRaiseSaid:=
 OpenClaim.holds_of_wide 7 Tryz.f7 rfl rfl rfl rfl rfl rfl rfl ⟨rfl,rfl,rfl,rfl,rfl⟩ rfl rfl rfl rfl rfl (by kernel_rfl) Tryz.func7 facts
  (of_decide_eq_true (by kernel_rfl)) (by unfold Func.isWrapper;first|(rw[if_pos (by decide+kernel)];kernel_rfl)|(rw[if_neg (by decide+kernel)];exact⟨rfl,rfl⟩))
  (fun os started H enc _=>lifted os started H enc)
end Go.Proofs.YteoefigcipiffaaGreat.fnExactRaise
