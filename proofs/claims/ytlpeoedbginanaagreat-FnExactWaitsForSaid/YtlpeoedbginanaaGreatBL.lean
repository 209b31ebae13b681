/- impl.byLabels: its contract. -/
import Derived.Test.YtlpeoedbginanaaGreatVc
import Derived.Test.YtlpeoedbginanaaGreatBL2
import Derived.Test.YtlpeoedbginanaaGreatF
namespace Vg.Tryz
open Go Vg Go.Proofs
def c_impl_byLabels (k : Nat) : Con := ⟨[.val (.sl tAlarm) .own], [.val (.sl tAlarm) .own], F_impl_byLabels k⟩
set_option maxRecDepth 1000000 in
theorem m_impl_byLabels (k : Nat) : Meets Tryz.prog 294 (c_impl_byLabels k) := meets_sorts Tryz.func294 (by kernel_rfl) (by kernel_rfl) Tryz.byLabels_tiny Tryz.byLabels_few
end Vg.Tryz
