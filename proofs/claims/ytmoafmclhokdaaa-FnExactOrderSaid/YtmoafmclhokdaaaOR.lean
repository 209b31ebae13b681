/- impl.Order: its contract. -/
import Derived.Test.YtmoafmclhokdaaaVd
import Derived.Test.YtmoafmclhokdaaaOR2
import Derived.Test.YtmoafmclhokdaaaF
namespace Vg.Try
open Go Vg Go.Proofs
def TTo : List (Nat × TI) := [(3, ⟨(.int .i64), [], 0⟩), (4, ⟨.bool, [], 0⟩), (5, ⟨(.int .u8), [], 0⟩), (9, ⟨.str, [], 0⟩), (22, ⟨(.sl tDeed), [], 100⟩), (24, ⟨(.sl (.int .i64)), [], 3⟩), (26, ⟨(.sl tDeed), [], 102⟩), (33, ⟨(.sl (.int .u8)), [], 5⟩), (35, ⟨(.sl tLabel), [], 159⟩), (37, ⟨tAlarm, [35, 3, 3, 9], 0⟩), (38, ⟨(.sl tAlarm), [], 37⟩), (95, ⟨(.sl tLabel), [], 176⟩), (97, ⟨tAlarm, [95, 3, 3, 9], 0⟩), (98, ⟨(.sl tAlarm), [], 97⟩), (100, ⟨tDeed, [3, 3, 97, 95, 3, 3, 3, 98, 3, 3, 3, 3], 0⟩), (102, ⟨tDeed, [3, 3, 37, 35, 3, 3, 3, 38, 3, 3, 3, 3], 0⟩), (159, ⟨tLabel, [9, 9], 0⟩), (176, ⟨tLabel, [9, 9], 0⟩)]
theorem TToOk : TTo.all (fun p => tyB Try.prog p.1 p.2) = true := by kernel_rfl
def la_impl_Order : Nat → Option Ann := fun | 3 => some ⟨[(1, .box 3 (.sl tDeed) (.sl (.sha [1]))), (3, .box 4 (.sl (.int .i64)) (.sl (.row 5 [] true))), (6, .val (.sl tDeed) (.sl (.sha [1]))), (7, .val (.int .i64) .leaf), (8, .val (.int .i64) .leaf)], 6⟩ | _ => none
def c_impl_Order (k : Nat) : Con := ⟨[.val (.sl tDeed) .shr], [.val (.sl (.int .i64)) .own], F_impl_Order k, []⟩
theorem srt_impl_Order : SrtOk Try.prog 75 76 24 := fun {w out l v vl B BL Bl Bo} h1 h2 {cL cO eL eO} h3 h4 h5 h6 h7 h8 h9 h10 h11 h12 h13 => ord_sorts Try.order_tiny Try.order_few h1 h2 h3 h4 h5 h6 h7 h8 h9 h10 h11 h12 h13
noncomputable def q_impl_Order : OrdQ := (ordCut Try.f10.body).get (by kernel_rfl)
theorem qq_impl_Order : ordCut Try.f10.body = some q_impl_Order := (Option.some_get _).symm
set_option maxRecDepth 1000000 in
theorem m_impl_Order (k : Nat) : Meets Try.prog 10 (c_impl_Order k) :=
  meets_ord (C := mkCx TTo [] la_impl_Order (fun _ => none) k) (M := fun _ => none) (N := 26) (d0 := 21) (d1 := 22) (d2 := 23) (d3 := 24) (cx_ok TToOk (by kernel_rfl) (cts := []) trivial) (fun f m h => by cases h)
    ((cx_ok (k := k) (la := la_impl_Order) (ja := fun _ => none) TToOk (by kernel_rfl) (cts := []) trivial).tt 24 ⟨.sl (.int .i64), [], 3⟩ (by kernel_rfl)).1 (elA := 3) (by kernel_rfl) srt_impl_Order
    Try.func75 (by kernel_rfl) (by kernel_rfl) Try.func10 (by kernel_rfl) (by kernel_rfl) (by decide) (ordCut_spec qq_impl_Order).1
    (o0 := q_impl_Order.o0) (o1 := q_impl_Order.o1) (o2 := q_impl_Order.o2) (o3 := q_impl_Order.o3) (c := q_impl_Order.c) (x0 := q_impl_Order.x0) (x1 := q_impl_Order.x1) (x2 := q_impl_Order.x2) (x3 := q_impl_Order.x3)
    ⟨by kernel_rfl, by kernel_rfl, by kernel_rfl⟩ ⟨by kernel_rfl, by kernel_rfl, by kernel_rfl⟩ ⟨by kernel_rfl, by kernel_rfl, by kernel_rfl⟩ ⟨by kernel_rfl, (ordCut_spec qq_impl_Order).2, by kernel_rfl, by kernel_rfl, by kernel_rfl⟩ (by decide) (fun x => by kernel_rfl)
end Vg.Try
