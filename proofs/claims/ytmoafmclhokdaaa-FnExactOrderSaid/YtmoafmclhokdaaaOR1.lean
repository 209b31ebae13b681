/- impl.Order's closure reads: by hand. -/
import Derived.Test.YtmoafmclhokdaaaVd
import Derived.Test.YtmoafmclhokdaaaProg
import Derived.Deep.QuietTactic
import Derived.WalkKit
namespace Go.Proofs
open Go.RowKit

set_option maxHeartbeats 4000000 in
set_option maxRecDepth 100000 in
/-- The closure: it reads the two cells that it is bound to, two numbers, two deeds' turns; it draws; nothing turns. -/
theorem Try.order_less (blk off c Bl Bo n bl ol nl cl : Nat) (W : World) (i j : Nat) (hi : i < n) (hj : j < n) (hn : n < 4611686018427387904) (x y : Nat) (hx : x < nl) (hy : y < nl) (hnl : nl < 4611686018427387904) (p q : Int)
    (hl : W.cell? ⟨Bl, 0, none⟩ = some (.slice (some ⟨bl, ol, none⟩) nl cl)) (ho : W.cell? ⟨Bo, 0, none⟩ = some (.slice (some ⟨blk, off, none⟩) n c))
    (hxi : W.cell? ⟨blk, off + i, none⟩ = some (.int .i64 x)) (hyj : W.cell? ⟨blk, off + j, none⟩ = some (.int .i64 y))
    (hp : W.cell? ⟨bl, ol + x * 15 + 13, none⟩ = some (.int .i64 p)) (hq : W.cell? ⟨bl, ol + y * 15 + 13, none⟩ = some (.int .i64 q)) :
    Calls Try.prog 76 #[.int .i64 i, .int .i64 j, .pointer (some ⟨Bl, 0, none⟩), .pointer (some ⟨Bo, 0, none⟩)] W fun e w' => e = .returned (.bool (decide (p < q))) ∧ ∃ m, w' = W.drewN m := by
  go_enter Try.func76, Try.ntmps76
  go_wp2
  go_quiet (fail)
  go_wp2
  go_ret
  exact ⟨rfl, nq, rfl⟩

end Go.Proofs
