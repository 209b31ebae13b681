/- What the functions compute is what the evaluator says; their contracts. -/
import Derived.Test.YtmoafmclhokdaaaF
import Derived.Test.YtmoafmclhokdaaaProg
namespace Vg.Try
open Go Vg Go.Proofs
set_option linter.unusedVariables false
def TT : List (Nat × TI) := [(3, ⟨(.int .i64), [], 0⟩), (4, ⟨.bool, [], 0⟩), (5, ⟨(.int .u8), [], 0⟩), (9, ⟨.str, [], 0⟩), (24, ⟨(.sl (.int .i64)), [], 3⟩), (33, ⟨(.sl (.int .u8)), [], 5⟩), (35, ⟨(.sl tLabel), [], 159⟩), (37, ⟨tAlarm, [35, 3, 3, 9], 0⟩), (38, ⟨(.sl tAlarm), [], 37⟩), (48, ⟨tGroup, [3, 35, 3, 3, 38], 0⟩), (55, ⟨tBatch, [3, 35, 3, 38], 0⟩), (58, ⟨(.sl .str), [], 9⟩), (74, ⟨(.sl tGroup), [], 48⟩), (159, ⟨tLabel, [9, 9], 0⟩), (161, ⟨tL1Cur, [33, 3, 3], 0⟩), (170, ⟨(.int .u64), [], 0⟩)]
theorem TTok : TT.all (fun p => tyB Try.prog p.1 p.2) = true := by kernel_rfl
theorem mixed : Try.prog.follows .mixedOrders = true := by kernel_rfl
set_option maxRecDepth 1000000
def nA : Nat → Option Ann := fun _ => none
def h0 : Sh := (.pair (.sl (.sha [1, 2])) (.pair .leaf .leaf))
def q1 : Pt := (.pair .own (.pair .leaf (.pair .leaf .leaf)))
def q2 : Pt := (.pair .shr (.pair .leaf (.pair .leaf .leaf)))
def q3 : Pt := (.pair .shr (.pair .leaf (.pair .leaf .shr)))
def q4 : Pt := (.pair .leaf q3)
def q5 : Pt := (.pair .own (.pair .leaf (.pair .leaf .own)))
def q6 : Pt := (.pair .leaf q5)
def h7 : Sh := (.pair .leaf (.pair .leaf (.sl (.sha [1]))))
def h8 : Sh := (.pair (.sl (.sha [1])) h7)
def h9 : Sh := (.pair .leaf h8)
def h10 : Sh := (.pair (.sl (.sha [1])) (.pair .leaf (.pair .leaf .leaf)))
def h11 : Sh := (.pair .leaf (.pair .leaf (.sl (.sha []))))
def h12 : Sh := (.pair (.sl (.sha [])) h11)
def h13 : Sh := (.pair .leaf h12)
def h14 : Sh := (.pair .leaf (.pair .leaf (.sl (.row 8 [8] true))))
def h15 : Sh := (.pair (.sl (.row 7 [7] true)) h14)
def h16 : Sh := (.pair .leaf h15)
def h17 : Sh := (.pair (.sl (.row 10 [10] true)) (.pair .leaf (.pair .leaf .leaf)))
def h18 : Sh := (.pair (.sl (.row 6 [6] true)) (.pair .leaf (.pair .leaf .leaf)))
def h19 : Sh := (.pair .leaf (.sl (.row 9 [6, 9] true)))
def h20 : Sh := (.pair .leaf h19)
def h21 : Sh := (.pair (.sl (.row 8 [8] true)) h20)
def h22 : Sh := (.pair .leaf h21)
def q23 : Pt := (.pair .leaf (.pair .own (.pair .leaf .own)))
def q24 : Pt := (.pair .leaf (.pair .shr (.pair .leaf .shr)))
def h25 : Sh := (.pair (.sl (.sha [])) (.pair .leaf (.sl (.sha []))))
def h26 : Sh := (.pair .leaf h25)
def t_laws_big (k : Nat) : List (FuncId × Con) := (16, ⟨[.val (.sl (.int .u8)) .shr], [.val .bool .leaf], F_laws_big k, []⟩) :: ([] : List (FuncId × Con))
theorem m_laws_big (k : Nat) : AllM Try.prog (t_laws_big k) := AllM.ev TTok mixed (show AllM Try.prog [] from trivial) nA nA k Try.func16 (by kernel_rfl) (fun x => by kernel_rfl)
def la_spec_l1New : Nat → Option Ann := fun | 3 => some ⟨[(0, .val (.sl (.int .u8)) (.sl (.sha [1]))), (3, .val (.int .i64) .leaf), (4, .val (.int .i64) .leaf)], 3⟩ | _ => none
def ja_spec_l1New : Nat → Option Ann := fun | 6 => some ⟨[(0, .val (.sl (.int .u8)) (.sl (.sha [1]))), (3, .val (.int .i64) .leaf)], 3⟩ | _ => none
def t_spec_l1New (k : Nat) : List (FuncId × Con) := (81, ⟨[.val (.sl (.int .u8)) .shr], [.nbox tL1Cur (.pair .shr (.pair .leaf .leaf))], F_spec_l1New k, []⟩) :: (t_laws_big k)
theorem m_spec_l1New (k : Nat) : AllM Try.prog (t_spec_l1New k) := AllM.evM TTok mixed (m_laws_big k) (show AllMM Try.prog [] from trivial) la_spec_l1New ja_spec_l1New k Try.func81 (by kernel_rfl) (fun x => by kernel_rfl)
def t_spec_l1Byte (k : Nat) : List (FuncId × Con) := (145, ⟨[.io tL1Cur (.pair .shr (.pair .leaf .leaf))], [.val (.int .i64) .leaf], F_spec_l1Byte k, []⟩) :: (t_spec_l1New k)
theorem m_spec_l1Byte (k : Nat) : AllM Try.prog (t_spec_l1Byte k) := AllM.ev TTok mixed (m_spec_l1New k) nA nA k Try.func145 (by kernel_rfl) (fun x => by kernel_rfl)
def t_spec_l1Below (k : Nat) : List (FuncId × Con) := (83, ⟨[.io tL1Cur (.pair .shr (.pair .leaf .leaf)), .val (.int .i64) .leaf], [.val (.int .i64) .leaf], F_spec_l1Below k, []⟩) :: (t_spec_l1Byte k)
theorem m_spec_l1Below (k : Nat) : AllM Try.prog (t_spec_l1Below k) := AllM.ev TTok mixed (m_spec_l1Byte k) nA nA k Try.func83 (by kernel_rfl) (fun x => by kernel_rfl)
def t_spec_l5By (k : Nat) : List (FuncId × Con) := (100, ⟨[.io tL1Cur (.pair .shr (.pair .leaf .leaf))], [.val (.sl .str) .own], F_spec_l5By k, []⟩) :: (t_spec_l1Below k)
theorem m_spec_l5By (k : Nat) : AllM Try.prog (t_spec_l5By k) := AllM.ev TTok mixed (m_spec_l1Below k) nA nA k Try.func100 (by kernel_rfl) (fun x => by kernel_rfl)
def t_spec_l1Str (k : Nat) : List (FuncId × Con) := (164, ⟨[.io tL1Cur (.pair .shr (.pair .leaf .leaf)), .val (.sl .str) .shr], [.val .str .leaf], F_spec_l1Str k, []⟩) :: (t_spec_l5By k)
theorem m_spec_l1Str (k : Nat) : AllM Try.prog (t_spec_l1Str k) := AllM.ev TTok mixed (m_spec_l5By k) nA nA k Try.func164 (by kernel_rfl) (fun x => by kernel_rfl)
def t_spec_l1Once (k : Nat) : List (FuncId × Con) := (84, ⟨[.io tL1Cur (.pair .shr (.pair .leaf .leaf)), .val (.int .i64) .leaf], [.val .bool .leaf], F_spec_l1Once k, []⟩) :: (t_spec_l1Str k)
theorem m_spec_l1Once (k : Nat) : AllM Try.prog (t_spec_l1Once k) := AllM.ev TTok mixed (m_spec_l1Str k) nA nA k Try.func84 (by kernel_rfl) (fun x => by kernel_rfl)
def la_spec_l2Draw : Nat → Option Ann := fun | 3 => some ⟨[(0, .box 3 tL1Cur h0), (3, .val (.sl tLabel) (.sl (.row 4 [] true))), (11, .val (.sl .str) (.sl (.row 5 [] true))), (12, .val (.int .i64) .leaf), (13, .val (.int .i64) .leaf)], 6⟩ | _ => none
def t_spec_l2Draw (k : Nat) : List (FuncId × Con) := (126, ⟨[.io tL1Cur (.pair .shr (.pair .leaf .leaf))], [.val (.sl tLabel) .own], F_spec_l2Draw k, []⟩) :: (t_spec_l1Once k)
theorem m_spec_l2Draw (k : Nat) : AllM Try.prog (t_spec_l2Draw k) := AllM.ev TTok mixed (m_spec_l1Once k) la_spec_l2Draw nA k Try.func126 (by kernel_rfl) (fun x => by kernel_rfl)
def t_spec_l1Plain (k : Nat) : List (FuncId × Con) := (159, ⟨[.io tL1Cur (.pair .shr (.pair .leaf .leaf))], [.val .str .leaf], F_spec_l1Plain k, []⟩) :: (t_spec_l2Draw k)
theorem m_spec_l1Plain (k : Nat) : AllM Try.prog (t_spec_l1Plain k) := AllM.ev TTok mixed (m_spec_l2Draw k) nA nA k Try.func159 (by kernel_rfl) (fun x => by kernel_rfl)
def t_spec_l1Int (k : Nat) : List (FuncId × Con) := (142, ⟨[.io tL1Cur (.pair .shr (.pair .leaf .leaf)), .val (.sl (.int .i64)) .shr], [.val (.int .i64) .leaf], F_spec_l1Int k, []⟩) :: (t_spec_l1Plain k)
theorem m_spec_l1Int (k : Nat) : AllM Try.prog (t_spec_l1Int k) := AllM.ev TTok mixed (m_spec_l1Plain k) nA nA k Try.func142 (by kernel_rfl) (fun x => by kernel_rfl)
def t_spec_l4Draw (k : Nat) : List (FuncId × Con) := (101, ⟨[.io tL1Cur (.pair .shr (.pair .leaf .leaf))], [.val tAlarm q1], F_spec_l4Draw k, []⟩) :: (t_spec_l1Int k)
theorem m_spec_l4Draw (k : Nat) : AllM Try.prog (t_spec_l4Draw k) := AllM.ev TTok mixed (m_spec_l1Int k) nA nA k Try.func101 (by kernel_rfl) (fun x => by kernel_rfl)
def t_spec_l4Copy (k : Nat) : List (FuncId × Con) := (112, ⟨[.val tAlarm q2], [.val tAlarm q1], F_spec_l4Copy k, []⟩) :: (t_spec_l4Draw k)
theorem m_spec_l4Copy (k : Nat) : AllM Try.prog (t_spec_l4Copy k) := AllM.ev TTok mixed (m_spec_l4Draw k) nA nA k Try.func112 (by kernel_rfl) (fun x => by kernel_rfl)
def la_spec_l4All : Nat → Option Ann := fun | 3 => some ⟨[(0, .val (.sl tAlarm) (.sl (.sha [1]))), (3, .val (.sl tAlarm) (.sl (.row 3 [3] true))), (4, .val (.int .i64) .leaf)], 4⟩ | _ => none
def t_spec_l4All (k : Nat) : List (FuncId × Con) := (119, ⟨[.val (.sl tAlarm) .shr], [.val (.sl tAlarm) .own], F_spec_l4All k, []⟩) :: (t_spec_l4Copy k)
theorem m_spec_l4All (k : Nat) : AllM Try.prog (t_spec_l4All k) := AllM.ev TTok mixed (m_spec_l4Copy k) la_spec_l4All nA k Try.func119 (by kernel_rfl) (fun x => by kernel_rfl)
def t_spec_l11Copy (k : Nat) : List (FuncId × Con) := (110, ⟨[.val tGroup (.pair .leaf q3)], [.val tGroup (.pair .leaf q5)], F_spec_l11Copy k, []⟩) :: (t_spec_l4All k)
theorem m_spec_l11Copy (k : Nat) : AllM Try.prog (t_spec_l11Copy k) := AllM.ev TTok mixed (m_spec_l4All k) nA nA k Try.func110 (by kernel_rfl) (fun x => by kernel_rfl)
def la_spec_l12Copy : Nat → Option Ann := fun | 3 => some ⟨[(0, .val (.sl tGroup) (.sl (.sha [1]))), (3, .val (.sl tGroup) (.sl (.row 3 [3] true))), (4, .val (.int .i64) .leaf)], 4⟩ | _ => none
def t_spec_l12Copy (k : Nat) : List (FuncId × Con) := (125, ⟨[.val (.sl tGroup) .shr], [.val (.sl tGroup) .own], F_spec_l12Copy k, []⟩) :: (t_spec_l11Copy k)
theorem m_spec_l12Copy (k : Nat) : AllM Try.prog (t_spec_l12Copy k) := AllM.ev TTok mixed (m_spec_l11Copy k) la_spec_l12Copy nA k Try.func125 (by kernel_rfl) (fun x => by kernel_rfl)
def la_spec_l5Has : Nat → Option Ann := fun | 2 => some ⟨[(0, .val (.sl .str) (.sl (.sha [1]))), (1, .val .str .leaf), (5, .val (.int .i64) .leaf)], 3⟩ | _ => none
def t_spec_l5Has (k : Nat) : List (FuncId × Con) := (187, ⟨[.val (.sl .str) .shr, .val .str .leaf], [.val .bool .leaf], F_spec_l5Has k, []⟩) :: (t_spec_l12Copy k)
theorem m_spec_l5Has (k : Nat) : AllM Try.prog (t_spec_l5Has k) := AllM.ev TTok mixed (m_spec_l12Copy k) la_spec_l5Has nA k Try.func187 (by kernel_rfl) (fun x => by kernel_rfl)
def la_spec_Project : Nat → Option Ann := fun | 3 => some ⟨[(0, .val (.sl tLabel) (.sl (.sha [1]))), (1, .val (.sl .str) (.sl (.sha [1]))), (5, .val (.sl tLabel) (.sl (.row 3 [] true))), (6, .val (.int .i64) .leaf)], 4⟩ | _ => none
def t_spec_Project (k : Nat) : List (FuncId × Con) := (162, ⟨[.val (.sl tLabel) .shr, .val (.sl .str) .shr], [.val (.sl tLabel) .own], F_spec_Project k, []⟩) :: (t_spec_l5Has k)
theorem m_spec_Project (k : Nat) : AllM Try.prog (t_spec_Project k) := AllM.ev TTok mixed (m_spec_l5Has k) la_spec_Project nA k Try.func162 (by kernel_rfl) (fun x => by kernel_rfl)
def t_spec_KeyOf (k : Nat) : List (FuncId × Con) := (121, ⟨[.val tAlarm q2, .val (.sl .str) .shr], [.val (.sl tLabel) .own], F_spec_KeyOf k, []⟩) :: (t_spec_Project k)
theorem m_spec_KeyOf (k : Nat) : AllM Try.prog (t_spec_KeyOf k) := AllM.ev TTok mixed (m_spec_Project k) nA nA k Try.func121 (by kernel_rfl) (fun x => by kernel_rfl)
def la_spec_SameSet : Nat → Option Ann := fun | 4 => some ⟨[(0, .val (.sl tLabel) (.sl (.sha [1]))), (1, .val (.sl tLabel) (.sl (.sha [1]))), (5, .val (.int .i64) .leaf)], 3⟩ | _ => none
def t_spec_SameSet (k : Nat) : List (FuncId × Con) := (117, ⟨[.val (.sl tLabel) .shr, .val (.sl tLabel) .shr], [.val .bool .leaf], F_spec_SameSet k, []⟩) :: (t_spec_KeyOf k)
theorem m_spec_SameSet (k : Nat) : AllM Try.prog (t_spec_SameSet k) := AllM.ev TTok mixed (m_spec_KeyOf k) la_spec_SameSet nA k Try.func117 (by kernel_rfl) (fun x => by kernel_rfl)
def la_spec_GroupOf : Nat → Option Ann := fun | 2 => some ⟨[(0, .val (.sl tGroup) (.sl (.sha [1]))), (1, .val (.sl tLabel) (.sl (.sha [1]))), (5, .val (.int .i64) .leaf)], 3⟩ | _ => none
def t_spec_GroupOf (k : Nat) : List (FuncId × Con) := (67, ⟨[.val (.sl tGroup) .shr, .val (.sl tLabel) .shr], [.val (.int .i64) .leaf], F_spec_GroupOf k, []⟩) :: (t_spec_SameSet k)
theorem m_spec_GroupOf (k : Nat) : AllM Try.prog (t_spec_GroupOf k) := AllM.ev TTok mixed (m_spec_SameSet k) la_spec_GroupOf nA k Try.func67 (by kernel_rfl) (fun x => by kernel_rfl)
def t_spec_Less (k : Nat) : List (FuncId × Con) := (155, ⟨[.val .str .leaf, .val .str .leaf], [.val .bool .leaf], F_spec_Less k, []⟩) :: (t_spec_GroupOf k)
theorem m_spec_Less (k : Nat) : AllM Try.prog (t_spec_Less k) := AllM.ev TTok mixed (m_spec_GroupOf k) nA nA k Try.func155 (by kernel_rfl) (fun x => by kernel_rfl)
def la_spec_SetLess : Nat → Option Ann := fun | 2 => some ⟨[(0, .val (.sl tLabel) (.sl (.sha [1]))), (1, .val (.sl tLabel) (.sl (.sha [1]))), (5, .val (.int .i64) .leaf)], 3⟩ | _ => none
def ja_spec_SetLess : Nat → Option Ann := fun | 8 => some ⟨[(0, .val (.sl tLabel) (.sl (.sha [1]))), (1, .val (.sl tLabel) (.sl (.sha [1])))], 3⟩ | _ => none
def t_spec_SetLess (k : Nat) : List (FuncId × Con) := (118, ⟨[.val (.sl tLabel) .shr, .val (.sl tLabel) .shr], [.val .bool .leaf], F_spec_SetLess k, []⟩) :: (t_spec_Less k)
theorem m_spec_SetLess (k : Nat) : AllM Try.prog (t_spec_SetLess k) := AllM.ev TTok mixed (m_spec_Less k) la_spec_SetLess ja_spec_SetLess k Try.func118 (by kernel_rfl) (fun x => by kernel_rfl)
def la_spec_JoinIn : Nat → Option Ann := fun | 4 => some ⟨[(2, .box 3 tGroup (.pair .leaf (.pair (.sl (.sha [1])) h7))), (3, .box 4 tAlarm h10), (4, .box 5 tGroup (.pair .leaf (.pair (.sl (.sha [])) h11))), (5, .box 6 tGroup (.pair .leaf (.pair (.sl (.row 7 [7] true)) h14))), (6, .box 9 tAlarm h17), (7, .val (.int .i64) .leaf)], 11⟩ | 10 => some ⟨[(2, .box 3 tGroup (.pair .leaf (.pair (.sl (.sha [1])) h7))), (3, .box 4 tAlarm h10), (4, .box 5 tGroup (.pair .leaf (.pair (.sl (.sha [])) h11))), (5, .box 6 tGroup (.pair .leaf (.pair (.sl (.row 7 [7] true)) h14))), (6, .box 9 tAlarm h17), (8, .val (.int .i64) .leaf)], 11⟩ | _ => none
def ja_spec_JoinIn : Nat → Option Ann := fun | 9 => some ⟨[(2, .box 3 tGroup (.pair .leaf (.pair (.sl (.sha [1])) h7))), (3, .box 4 tAlarm h10), (4, .box 5 tGroup (.pair .leaf (.pair (.sl (.sha [])) h11))), (5, .box 6 tGroup (.pair .leaf (.pair (.sl (.row 7 [7] true)) h14))), (6, .box 9 tAlarm h17)], 11⟩ | 12 => some ⟨[(2, .box 3 tGroup (.pair .leaf (.pair (.sl (.sha [1])) h7))), (3, .box 4 tAlarm h10), (4, .box 5 tGroup (.pair .leaf (.pair (.sl (.sha [])) h11))), (5, .box 6 tGroup (.pair .leaf (.pair (.sl (.row 7 [7] true)) h14))), (6, .box 9 tAlarm h17), (8, .val (.int .i64) .leaf)], 11⟩ | _ => none
def t_spec_JoinIn (k : Nat) : List (FuncId × Con) := (42, ⟨[.val tGroup (.pair .leaf q3), .val tAlarm q2], [.val tGroup (.pair .leaf q5)], F_spec_JoinIn k, []⟩) :: (t_spec_SetLess k)
theorem m_spec_JoinIn (k : Nat) : AllM Try.prog (t_spec_JoinIn k) := AllM.ev TTok mixed (m_spec_SetLess k) la_spec_JoinIn ja_spec_JoinIn k Try.func42 (by kernel_rfl) (fun x => by kernel_rfl)
def t_spec_JoinAll (k : Nat) : List (FuncId × Con) := (55, ⟨[.val (.sl tGroup) .shr, .val tAlarm q2, .val (.sl .str) .shr, .val (.int .i64) .leaf, .val (.int .i64) .leaf], [.val (.sl tGroup) .own, .val .bool .leaf], F_spec_JoinAll k, []⟩) :: (t_spec_JoinIn k)
theorem m_spec_JoinAll (k : Nat) : AllM Try.prog (t_spec_JoinAll k) := AllM.ev TTok mixed (m_spec_JoinIn k) nA nA k Try.func55 (by kernel_rfl) (fun x => by kernel_rfl)
def la_spec_l12Draw : Nat → Option Ann := fun | 4 => some ⟨[(0, .box 3 tL1Cur h0), (1, .val (.sl .str) (.sl (.sha [1]))), (5, .val (.sl tGroup) (.sl (.row 4 [4] true))), (6, .val (.int .i64) .leaf), (7, .val (.int .i64) .leaf)], 5⟩ | _ => none
def t_spec_l12Draw (k : Nat) : List (FuncId × Con) := (163, ⟨[.io tL1Cur (.pair .shr (.pair .leaf .leaf)), .val (.sl .str) .shr], [.val (.sl tGroup) .own], F_spec_l12Draw k, []⟩) :: (t_spec_JoinAll k)
theorem m_spec_l12Draw (k : Nat) : AllM Try.prog (t_spec_l12Draw k) := AllM.ev TTok mixed (m_spec_JoinAll k) la_spec_l12Draw nA k Try.func163 (by kernel_rfl) (fun x => by kernel_rfl)
end Vg.Try
