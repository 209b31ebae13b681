/- VG, joined: an evaluator of the code over typed values, and its soundness, for any program. -/
import Derived.Test.YtmoafmclhokdaaaVd
set_option linter.unusedSimpArgs false
set_option linter.unusedVariables false
/- VG, part 64: sort.symMerge_func, whole: the walk. -/
namespace Go.Proofs
open Go.Shelf Go.RowKit Go.Lib Go.Sort
set_option linter.unusedVariables false
set_option linter.unusedSimpArgs false
variable {P : Program} {ρ : Ren} {α : Type} [Inhabited α]

set_option maxHeartbeats 16000000 in
set_option maxRecDepth 1000000 in
theorem vgSymMerge (L : LaysGt.n30 P ρ) {enc : α → List Value} {k : Nat} (hk : ∀ x, (enc x).length = k) (lt : α → α → Bool) {g : Nat} {lb : Array Value} {sf : Nat} {sb : Array Value} {blk off : Nat}
    (eg : ∀ args w, (callFunc g args).run P w = .ok (.enter g args) w) : ∀ (N : Nat) (a m b : Nat) {d : Array α} {w : World},
    b - a ≤ N → LessReadsK P g lb enc k lt blk off d.size w → SwapSwapsK P sf sb enc k blk off d.size → HoldsK enc k w blk off d → blk < w.heap.size → a < m → m < b → b ≤ d.size → d.size < 4611686018427387904 →
    Calls P (ρ.f 30) #[.agg #[.func (.func g) #[] lb, .func (.func sf) #[] sb], .int .i64 a, .int .i64 m, .int .i64 b] w fun e w' => e = .returned (.tuple #[]) ∧
      ∃ n os, w' = sortWorldK enc k w blk off n (symM lt d a m b) os := by
  intro N
  induction N with
  | zero => intro a m b d w hN _ _ _ _ ham hmb; omega
  | succ N ih =>
  intro a m b d w hN hless hswap hH hblk ham hmb hb hsz
  by_cases hl : m ≤ a + 1
  · rw [symM, if_pos hl]
    exact vgSymLeft L hk lt a m b eg hless hswap hH hblk ham hl hmb hb hsz
  by_cases hr : b ≤ m + 1
  · rw [symM, if_neg hl, if_pos hr]
    exact vgSymRight L hk lt a m b eg hless hswap hH hblk (by omega) hmb hr hb hsz
  obtain ⟨B, hstart⟩ := boxed_of (t := ρ.t 42) hk hless hswap hH hblk
  have hSW : ∀ n (X : Array α) os, SWK enc k w blk off X (sortWorldK enc k (w.alloc (.cells #[.func (.func g) #[] lb, .func (.func sf) #[] sb] (ρ.t 42))) blk off n X os) := fun n X os => B.fin n X os
  have hrot : ∀ n (X : Array α) os, X.size = d.size → ∀ (s e : Nat) (zs ze : Int), zs = s → ze = e → s < m → m < e → e ≤ d.size →
      Calls P (ρ.f 42) #[.agg #[.func (.func g) #[] lb, .func (.func sf) #[] sb], .int .i64 zs, .int .i64 m, .int .i64 ze] (sortWorldK enc k (w.alloc (.cells #[.func (.func g) #[] lb, .func (.func sf) #[] sb] (ρ.t 42))) blk off n X os) fun e' w' =>
        e' = .returned (.tuple #[]) ∧ ∃ n' os', w' = sortWorldK enc k (w.alloc (.cells #[.func (.func g) #[] lb, .func (.func sf) #[] sb] (ρ.t 42))) blk off n' (rotR m X (m - s) (e - m)) os' := by
    intro n X os hX s e zs ze hs he h1 h2 h3
    subst hs; subst he
    refine (vgRotate ({ L with } : LaysGt.n42 P ρ) hk (.func g) #[] lb sf sb s m e (d := X) (by rw [hX]; exact hswap) ((hSW n X os).holds hblk hH hX) ((hSW n X os).lt hblk) h1 h2 (by omega) (by omega)).mono ?_
    rintro e' w' ⟨rfl, n', os', rfl⟩
    exact ⟨rfl, _, _, sortWorldK_on enc k _ blk off n n' X _ os os' B.lt_blk (size_rotR ..)⟩
  have hrec : ∀ n (X : Array α) os, X.size = d.size → ∀ (a' m' b' : Nat) (za zm zb : Int), za = a' → zm = m' → zb = b' → a' < m' → m' < b' → b' ≤ d.size → b' - a' ≤ N →
      Calls P (ρ.f 30) #[.agg #[.func (.func g) #[] lb, .func (.func sf) #[] sb], .int .i64 za, .int .i64 zm, .int .i64 zb] (sortWorldK enc k (w.alloc (.cells #[.func (.func g) #[] lb, .func (.func sf) #[] sb] (ρ.t 42))) blk off n X os) fun e' w' =>
        e' = .returned (.tuple #[]) ∧ ∃ n' os', w' = sortWorldK enc k (w.alloc (.cells #[.func (.func g) #[] lb, .func (.func sf) #[] sb] (ρ.t 42))) blk off n' (symM lt X a' m' b') os' := by
    intro n X os hX a' m' b' za zm zb ha' hm' hb' h1 h2 h3 h4
    subst ha'; subst hm'; subst hb'
    refine (ih a' m' b' (d := X) h4 (by rw [hX]; exact (hSW n X os).lessReads hless hblk hX) (by rw [hX]; exact hswap) ((hSW n X os).holds hblk hH hX) ((hSW n X os).lt hblk) h1 h2 (by omega) (by omega)).mono ?_
    rintro e' w' ⟨rfl, n', os', rfl⟩
    exact ⟨rfl, _, _, sortWorldK_on enc k _ blk off n n' X _ os os' B.lt_blk (size_symM lt N _ _ _ _ h4)⟩
  have mixed := L.mixed; have t0 := L.t0; have a0 := L.a0; have z0 := L.z0; have v0 := L.v0; have t3 := L.t3; have a3 := L.a3; have z3 := L.z3; have v3 := L.v3; have t4 := L.t4; have a4 := L.a4; have z4 := L.z4; have v4 := L.v4; have t26 := L.t26; have a26 := L.a26; have z26 := L.z26; have v26 := L.v26; have t38 := L.t38; have a38 := L.a38; have z38 := L.z38; have v38 := L.v38; have t42 := L.t42; have a42 := L.a42; have z42 := L.z42; have v42 := L.v42; have t47 := L.t47; have a47 := L.a47; have z47 := L.z47; have v47 := L.v47
  have u42 := run_underlying L.t42
  have e42 : ∀ args w, (callFunc (ρ.f 42) args).run P w = .ok (.enter (ρ.f 42) args) w := enters_of L.f42 (by kernel_rfl) rfl
  have e30 : ∀ args w, (callFunc (ρ.f 30) args).run P w = .ok (.enter (ρ.f 30) args) w := enters_of L.f30 (by kernel_rfl) rfl
  clear hless hswap hH hSW ih
  generalize hW1 : w.alloc (.cells #[.func (.func g) #[] lb, .func (.func sf) #[] sb] (ρ.t 42)) = W1 at *
  have q1 : ((m : Int) - (a : Int) == 1) = false := by rw [beq_eq_false_iff_ne]; omega
  have q2 : ((b : Int) - (m : Int) == 1) = false := by rw [beq_eq_false_iff_ne]; omega
  have hle := symStart_le (lt := lt) (d := d) ham hmb
  have hst : symStart lt d a m b = bsr (fun c => !lt d[(a + b) / 2 + m - 1 - c]! d[c]!) (if (a + b) / 2 < m then (a + b) / 2 + m - b else a) (if (a + b) / 2 < m then (a + b) / 2 else m) := rfl
  have c0 := B.c0
  have c1 := B.c1
  -- what is left of the walk, from the found place on
  have BB : Aside (Boxed P enc k lt g lb sf sb blk off d.size w.heap.size w W1) := B
  clear B
  have HR : Aside _ := hrot
  have HC : Aside _ := hrec
  clear hrot hrec
  by_cases hm : (a + b) / 2 < m
  · rw [if_pos hm, if_pos hm] at hst
    have q3 : decide (((a : Int) + (b : Int)) / 2 < (m : Int)) = true := by simp only [decide_eq_true_eq] <;> omega
    go_enter L.f30, BodyGt.n30_ntmps ρ
    go_wp2
    go_loopg [18, 19] (b - a) (fun kx s8 s9 wr => ∃ (i j n : Nat) (os : Array Obj), s8 = .int .i64 i ∧ s9 = .int .i64 j ∧ ((a + b) / 2 + m - b) ≤ i ∧ i ≤ j ∧ j ≤ ((a + b) / 2) ∧ j - i ≤ kx ∧ wr = sortWorldK enc k W1 blk off n d os ∧
      bsr (fun c => !lt d[(a + b) / 2 + m - 1 - c]! d[c]!) i j = symStart lt d a m b)
    case atStart => exact ⟨((a + b) / 2 + m - b), ((a + b) / 2), 0, #[], (by first | rfl | (congr 1; omega)), (by first | rfl | go_num), by omega, by omega, by omega, by omega, hstart.symm, hst.symm⟩
    case round =>
      obtain ⟨i, j, n, os, rfl, rfl, hai, hij, hjb, hkx, rfl, hbs⟩ := hrel
      by_cases hlt : i < j
      · have hl := BB.less n d os rfl ((a + b) / 2 + m - 1 - (i + j) / 2) ((i + j) / 2) (by omega) (by omega)
        rw [show ((((a + b) / 2 + m - 1 - (i + j) / 2 : Nat) : Int)) = ((a : Int) + b) / 2 + m - 1 - ((i : Int) + j) / 2 by omega] at hl
        rw [bsr, dif_pos hlt] at hbs
        have HB : Hid _ := hbs
        clear hbs
        cases hv : lt d[(a + b) / 2 + m - 1 - (i + j) / 2]! d[(i + j) / 2]! with
        | false =>
          rw [hv] at hl HB
          go_wp2_with (go_at_fn g; refine hl.mono ?_; rintro e w' ⟨rfl, q, rfl⟩)
          go_roundg (j - ((i + j) / 2 + 1))
          case measure => omega
          case rel => exact ⟨(i + j) / 2 + 1, j, n + q, os, by go_num, rfl, by omega, by omega, by omega, Nat.le_refl _, rfl, HB.out⟩
        | true =>
          rw [hv] at hl HB
          go_wp2_with (go_at_fn g; refine hl.mono ?_; rintro e w' ⟨rfl, q, rfl⟩)
          go_roundg ((i + j) / 2 - i)
          case measure => omega
          case rel => exact ⟨i, (i + j) / 2, n + q, os, rfl, by go_num, by omega, by omega, by omega, Nat.le_refl _, rfl, HB.out⟩
      · obtain rfl : i = j := by omega
        rw [bsr, dif_neg hlt] at hbs
        rw [← hbs] at hle
        have E1 : (i < m ∧ m < (a + b) / 2 + m - i ∧ Hid (symRot lt d a m b = rotR m d (m - i) ((a + b) / 2 + m - i - m))) ∨ (i < m ∧ ¬ m < (a + b) / 2 + m - i ∧ Hid (symRot lt d a m b = d)) ∨ (¬ i < m ∧ Hid (symRot lt d a m b = d)) := by
          unfold Hid symRot; rw [← hbs]
          by_cases h1 : i < m <;> by_cases h2 : m < (a + b) / 2 + m - i <;> simp [h1, h2]
        have E2 : (a < i ∧ i < (a + b) / 2 ∧ Hid (symTwo lt d a m b = symM lt (symRot lt d a m b) a i ((a + b) / 2))) ∨ (a < i ∧ ¬ i < (a + b) / 2 ∧ Hid (symTwo lt d a m b = symRot lt d a m b)) ∨ (¬ a < i ∧ Hid (symTwo lt d a m b = symRot lt d a m b)) := by
          unfold Hid symTwo; rw [← hbs]
          by_cases h1 : a < i <;> by_cases h2 : i < (a + b) / 2 <;> simp [h1, h2]
        have E3 : ((a + b) / 2 < (a + b) / 2 + m - i ∧ (a + b) / 2 + m - i < b ∧ Hid (symM lt d a m b = symM lt (symTwo lt d a m b) ((a + b) / 2) ((a + b) / 2 + m - i) b)) ∨ ((a + b) / 2 < (a + b) / 2 + m - i ∧ ¬ (a + b) / 2 + m - i < b ∧ Hid (symM lt d a m b = symTwo lt d a m b)) ∨
            (¬ (a + b) / 2 < (a + b) / 2 + m - i ∧ Hid (symM lt d a m b = symTwo lt d a m b)) := by
          unfold Hid; rw [symM_rec hl hr, ← hbs]
          by_cases h1 : (a + b) / 2 < (a + b) / 2 + m - i <;> by_cases h2 : (a + b) / 2 + m - i < b <;> simp only [h1, h2, and_self, and_true, and_false, true_and, false_and, if_true, if_false, not_true, not_false_iff, or_true, or_false, true_or, false_or]
        clear hbs hst
        rcases E1 with ⟨p1, p2, E1⟩ | ⟨p1, p2, E1⟩ | ⟨p1, E1⟩ <;> rcases E2 with ⟨r1, r2, E2⟩ | ⟨r1, r2, E2⟩ | ⟨r1, E2⟩ <;> rcases E3 with ⟨u1, u2, E3⟩ | ⟨u1, u2, E3⟩ | ⟨u1, E3⟩
        all_goals
          go_wp2_with (first
            | (go_at_fn (ρ.f 42); refine (HR _ _ _ (by first | rfl | exact size_rotR .. | (rw [size_symM lt _ _ _ _ _ (Nat.le_refl _)]; first | rfl | exact size_rotR ..)) i ((a + b) / 2 + m - i) _ _ (by omega) (by omega) (by omega) (by omega) (by omega)).mono ?_; rintro e' w' ⟨rfl, n2, os2, rfl⟩)
            | (go_at_fn (ρ.f 30); refine (HC _ _ _ (by first | rfl | exact size_rotR .. | (rw [size_symM lt _ _ _ _ _ (Nat.le_refl _)]; first | rfl | exact size_rotR ..)) a i ((a + b) / 2) _ _ _ (by omega) (by omega) (by omega) (by omega) (by omega) (by omega) (by omega)).mono ?_; rintro e' w' ⟨rfl, n3, os3, rfl⟩)
            | (go_at_fn (ρ.f 30); refine (HC _ _ _ (by first | rfl | exact size_rotR .. | (rw [size_symM lt _ _ _ _ _ (Nat.le_refl _)]; first | rfl | exact size_rotR ..)) ((a + b) / 2) ((a + b) / 2 + m - i) b _ _ _ (by omega) (by omega) (by omega) (by omega) (by omega) (by omega) (by omega)).mono ?_; rintro e' w' ⟨rfl, n4, os4, rfl⟩))
        all_goals
          go_end0
          refine ⟨rfl, ?_⟩
          rw [E3.out, E2.out, E1.out]
          exact BB.fin _ _ _
  · rw [if_neg hm, if_neg hm] at hst
    have q3 : decide (((a : Int) + (b : Int)) / 2 < (m : Int)) = false := by simp only [decide_eq_false_iff_not] <;> omega
    go_enter L.f30, BodyGt.n30_ntmps ρ
    go_wp2
    go_loopg [18, 19] (b - a) (fun kx s8 s9 wr => ∃ (i j n : Nat) (os : Array Obj), s8 = .int .i64 i ∧ s9 = .int .i64 j ∧ a ≤ i ∧ i ≤ j ∧ j ≤ m ∧ j - i ≤ kx ∧ wr = sortWorldK enc k W1 blk off n d os ∧
      bsr (fun c => !lt d[(a + b) / 2 + m - 1 - c]! d[c]!) i j = symStart lt d a m b)
    case atStart => exact ⟨a, m, 0, #[], (by first | rfl | (congr 1; omega)), (by first | rfl | go_num), by omega, by omega, by omega, by omega, hstart.symm, hst.symm⟩
    case round =>
      obtain ⟨i, j, n, os, rfl, rfl, hai, hij, hjb, hkx, rfl, hbs⟩ := hrel
      by_cases hlt : i < j
      · have hl := BB.less n d os rfl ((a + b) / 2 + m - 1 - (i + j) / 2) ((i + j) / 2) (by omega) (by omega)
        rw [show ((((a + b) / 2 + m - 1 - (i + j) / 2 : Nat) : Int)) = ((a : Int) + b) / 2 + m - 1 - ((i : Int) + j) / 2 by omega] at hl
        rw [bsr, dif_pos hlt] at hbs
        have HB : Hid _ := hbs
        clear hbs
        cases hv : lt d[(a + b) / 2 + m - 1 - (i + j) / 2]! d[(i + j) / 2]! with
        | false =>
          rw [hv] at hl HB
          go_wp2_with (go_at_fn g; refine hl.mono ?_; rintro e w' ⟨rfl, q, rfl⟩)
          go_roundg (j - ((i + j) / 2 + 1))
          case measure => omega
          case rel => exact ⟨(i + j) / 2 + 1, j, n + q, os, by go_num, rfl, by omega, by omega, by omega, Nat.le_refl _, rfl, HB.out⟩
        | true =>
          rw [hv] at hl HB
          go_wp2_with (go_at_fn g; refine hl.mono ?_; rintro e w' ⟨rfl, q, rfl⟩)
          go_roundg ((i + j) / 2 - i)
          case measure => omega
          case rel => exact ⟨i, (i + j) / 2, n + q, os, rfl, by go_num, by omega, by omega, by omega, Nat.le_refl _, rfl, HB.out⟩
      · obtain rfl : i = j := by omega
        rw [bsr, dif_neg hlt] at hbs
        rw [← hbs] at hle
        have E1 : (i < m ∧ m < (a + b) / 2 + m - i ∧ Hid (symRot lt d a m b = rotR m d (m - i) ((a + b) / 2 + m - i - m))) ∨ (i < m ∧ ¬ m < (a + b) / 2 + m - i ∧ Hid (symRot lt d a m b = d)) ∨ (¬ i < m ∧ Hid (symRot lt d a m b = d)) := by
          unfold Hid symRot; rw [← hbs]
          by_cases h1 : i < m <;> by_cases h2 : m < (a + b) / 2 + m - i <;> simp [h1, h2]
        have E2 : (a < i ∧ i < (a + b) / 2 ∧ Hid (symTwo lt d a m b = symM lt (symRot lt d a m b) a i ((a + b) / 2))) ∨ (a < i ∧ ¬ i < (a + b) / 2 ∧ Hid (symTwo lt d a m b = symRot lt d a m b)) ∨ (¬ a < i ∧ Hid (symTwo lt d a m b = symRot lt d a m b)) := by
          unfold Hid symTwo; rw [← hbs]
          by_cases h1 : a < i <;> by_cases h2 : i < (a + b) / 2 <;> simp [h1, h2]
        have E3 : ((a + b) / 2 < (a + b) / 2 + m - i ∧ (a + b) / 2 + m - i < b ∧ Hid (symM lt d a m b = symM lt (symTwo lt d a m b) ((a + b) / 2) ((a + b) / 2 + m - i) b)) ∨ ((a + b) / 2 < (a + b) / 2 + m - i ∧ ¬ (a + b) / 2 + m - i < b ∧ Hid (symM lt d a m b = symTwo lt d a m b)) ∨
            (¬ (a + b) / 2 < (a + b) / 2 + m - i ∧ Hid (symM lt d a m b = symTwo lt d a m b)) := by
          unfold Hid; rw [symM_rec hl hr, ← hbs]
          by_cases h1 : (a + b) / 2 < (a + b) / 2 + m - i <;> by_cases h2 : (a + b) / 2 + m - i < b <;> simp only [h1, h2, and_self, and_true, and_false, true_and, false_and, if_true, if_false, not_true, not_false_iff, or_true, or_false, true_or, false_or]
        clear hbs hst
        rcases E1 with ⟨p1, p2, E1⟩ | ⟨p1, p2, E1⟩ | ⟨p1, E1⟩ <;> rcases E2 with ⟨r1, r2, E2⟩ | ⟨r1, r2, E2⟩ | ⟨r1, E2⟩ <;> rcases E3 with ⟨u1, u2, E3⟩ | ⟨u1, u2, E3⟩ | ⟨u1, E3⟩
        all_goals
          go_wp2_with (first
            | (go_at_fn (ρ.f 42); refine (HR _ _ _ (by first | rfl | exact size_rotR .. | (rw [size_symM lt _ _ _ _ _ (Nat.le_refl _)]; first | rfl | exact size_rotR ..)) i ((a + b) / 2 + m - i) _ _ (by omega) (by omega) (by omega) (by omega) (by omega)).mono ?_; rintro e' w' ⟨rfl, n2, os2, rfl⟩)
            | (go_at_fn (ρ.f 30); refine (HC _ _ _ (by first | rfl | exact size_rotR .. | (rw [size_symM lt _ _ _ _ _ (Nat.le_refl _)]; first | rfl | exact size_rotR ..)) a i ((a + b) / 2) _ _ _ (by omega) (by omega) (by omega) (by omega) (by omega) (by omega) (by omega)).mono ?_; rintro e' w' ⟨rfl, n3, os3, rfl⟩)
            | (go_at_fn (ρ.f 30); refine (HC _ _ _ (by first | rfl | exact size_rotR .. | (rw [size_symM lt _ _ _ _ _ (Nat.le_refl _)]; first | rfl | exact size_rotR ..)) ((a + b) / 2) ((a + b) / 2 + m - i) b _ _ _ (by omega) (by omega) (by omega) (by omega) (by omega) (by omega) (by omega)).mono ?_; rintro e' w' ⟨rfl, n4, os4, rfl⟩))
        all_goals
          go_end0
          refine ⟨rfl, ?_⟩
          rw [E3.out, E2.out, E1.out]
          exact BB.fin _ _ _

end Go.Proofs

/- VG, part 65: sort.stable_func at any length: the walk. -/
namespace Go.Proofs
open Go.Shelf Go.RowKit Go.Lib Go.Sort
set_option linter.unusedVariables false
set_option linter.unusedSimpArgs false
variable {P : Program} {ρ : Ren} {α : Type} [Inhabited α]

/-- Blocks of 20 from a on are sorted, and what is left behind them. -/
def stab1 (lt : α → α → Bool) (d : Array α) (a n : Nat) : Array α :=
  if a + 20 ≤ n then stab1 lt (Sort.insertionSort lt d a (a + 20)) (a + 20) n else Sort.insertionSort lt d a n
termination_by n - a
/-- Neighbours of so many elements are merged. -/
def stab2 (lt : α → α → Bool) (d : Array α) (c a n : Nat) : Array α :=
  if h : 0 < c ∧ a + 2 * c ≤ n then stab2 lt (symM lt d a (a + c) (a + 2 * c)) c (a + 2 * c) n
  else if a + c < n then symM lt d a (a + c) n else d
termination_by n - a
def stab3 (lt : α → α → Bool) (d : Array α) (c n : Nat) : Array α :=
  if h : 0 < c ∧ c < n then stab3 lt (stab2 lt d c 0 n) (2 * c) n else d
termination_by n - c
def stableA (lt : α → α → Bool) (d : Array α) : Array α := stab3 lt (stab1 lt d 0 d.size) 20 d.size

theorem size_insInner (lt : α → α → Bool) (a : Nat) : ∀ (j : Nat) (d : Array α), (Sort.insInner lt a j d).size = d.size
  | 0, d => by rw [Sort.insInner]
  | j + 1, d => by
    rw [Sort.insInner]; split
    · rw [size_insInner lt a j, size_swp]
    · rfl
theorem size_insOuter (lt : α → α → Bool) (a b i : Nat) (d : Array α) : (Sort.insOuter lt a b i d).size = d.size := by
  fun_induction Sort.insOuter lt a b i d with
  | case1 i d h ih => rw [ih, size_insInner]
  | case2 i d h => rfl
theorem size_insertionSort' (lt : α → α → Bool) (d : Array α) (a b : Nat) : (Sort.insertionSort lt d a b).size = d.size := size_insOuter ..
theorem size_stab1 (lt : α → α → Bool) (d : Array α) (a n : Nat) : (stab1 lt d a n).size = d.size := by
  fun_induction stab1 lt d a n with
  | case1 d a h ih => rw [ih, size_insertionSort']
  | case2 d a h => rw [size_insertionSort']
theorem size_symM' (lt : α → α → Bool) (d : Array α) (a m b : Nat) : (symM lt d a m b).size = d.size := size_symM lt _ _ _ _ _ (Nat.le_refl _)
theorem size_stab2 (lt : α → α → Bool) (d : Array α) (c a n : Nat) : (stab2 lt d c a n).size = d.size := by
  fun_induction stab2 lt d c a n with
  | case1 d a h ih => rw [ih, size_symM']
  | case2 d a h h2 => rw [size_symM']
  | case3 d a h h2 => rfl

set_option maxHeartbeats 16000000 in
set_option maxRecDepth 1000000 in
theorem vgStable (L : LaysGt.n15 P ρ) {enc : α → List Value} {k : Nat} (hk : ∀ x, (enc x).length = k) (lt : α → α → Bool) {g : Nat} {lb : Array Value} {sf : Nat} {sb : Array Value} {blk off : Nat} {d : Array α} {w : World}
    (eg : ∀ args w, (callFunc g args).run P w = .ok (.enter g args) w) (hless : LessReadsK P g lb enc k lt blk off d.size w) (hswap : SwapSwapsK P sf sb enc k blk off d.size)
    (hH : HoldsK enc k w blk off d) (hblk : blk < w.heap.size) (hsz : d.size < 1152921504606846976) :
    Calls P (ρ.f 15) #[.agg #[.func (.func g) #[] lb, .func (.func sf) #[] sb], .int .i64 d.size] w fun e w' => e = .returned (.tuple #[]) ∧ ∃ n os, w' = sortWorldK enc k w blk off n (stableA lt d) os := by
  have LI : LaysGg.n26 P ρ.viaGt := ({ L with } : LaysGt.n29 P ρ).elder
  obtain ⟨B, hstart⟩ := boxed_of (t := ρ.t 42) hk hless hswap hH hblk
  have hSW : ∀ n (X : Array α) os, SWK enc k w blk off X (sortWorldK enc k (w.alloc (.cells #[.func (.func g) #[] lb, .func (.func sf) #[] sb] (ρ.t 42))) blk off n X os) := fun n X os => B.fin n X os
  have hins : ∀ n (X : Array α) os, X.size = d.size → ∀ (s e : Nat) (zs ze : Int), zs = s → ze = e → s ≤ e → e ≤ d.size →
      Calls P (ρ.f 29) #[.agg #[.func (.func g) #[] lb, .func (.func sf) #[] sb], .int .i64 zs, .int .i64 ze] (sortWorldK enc k (w.alloc (.cells #[.func (.func g) #[] lb, .func (.func sf) #[] sb] (ρ.t 42))) blk off n X os) fun e' w' =>
        e' = .returned (.tuple #[]) ∧ ∃ n' os', w' = sortWorldK enc k (w.alloc (.cells #[.func (.func g) #[] lb, .func (.func sf) #[] sb] (ρ.t 42))) blk off n' (Sort.insertionSort lt X s e) os' := by
    intro n X os hX s e zs ze hs he h1 h2
    subst hs; subst he
    refine (Any.insertionSort_func_cells_w LI enc k hk lt g lb sf sb blk off s e X _ eg (by rw [hX]; exact (hSW n X os).lessReads hless hblk hX) (by rw [hX]; exact hswap) ((hSW n X os).holds hblk hH hX) ((hSW n X os).lt hblk) h1 (by omega) (by omega)).mono ?_
    rintro e' w' ⟨rfl, n', os', rfl⟩
    exact ⟨rfl, _, _, sortWorldK_on enc k _ blk off n n' X _ os os' B.lt_blk (size_insertionSort' ..)⟩
  have hsym : ∀ n (X : Array α) os, X.size = d.size → ∀ (a' m' b' : Nat) (za zm zb : Int), za = a' → zm = m' → zb = b' → a' < m' → m' < b' → b' ≤ d.size →
      Calls P (ρ.f 30) #[.agg #[.func (.func g) #[] lb, .func (.func sf) #[] sb], .int .i64 za, .int .i64 zm, .int .i64 zb] (sortWorldK enc k (w.alloc (.cells #[.func (.func g) #[] lb, .func (.func sf) #[] sb] (ρ.t 42))) blk off n X os) fun e' w' =>
        e' = .returned (.tuple #[]) ∧ ∃ n' os', w' = sortWorldK enc k (w.alloc (.cells #[.func (.func g) #[] lb, .func (.func sf) #[] sb] (ρ.t 42))) blk off n' (symM lt X a' m' b') os' := by
    intro n X os hX a' m' b' za zm zb ha' hm' hb' h1 h2 h3
    subst ha'; subst hm'; subst hb'
    refine (vgSymMerge ({ L with } : LaysGt.n30 P ρ) hk lt eg _ a' m' b' (d := X) (Nat.le_refl _) (by rw [hX]; exact (hSW n X os).lessReads hless hblk hX) (by rw [hX]; exact hswap) ((hSW n X os).holds hblk hH hX) ((hSW n X os).lt hblk) h1 h2 (by omega) (by omega)).mono ?_
    rintro e' w' ⟨rfl, n', os', rfl⟩
    exact ⟨rfl, _, _, sortWorldK_on enc k _ blk off n n' X _ os os' B.lt_blk (size_symM' ..)⟩
  have mixed := L.mixed; have t0 := L.t0; have a0 := L.a0; have z0 := L.z0; have v0 := L.v0; have t3 := L.t3; have a3 := L.a3; have z3 := L.z3; have v3 := L.v3; have t4 := L.t4; have a4 := L.a4; have z4 := L.z4; have v4 := L.v4; have t26 := L.t26; have a26 := L.a26; have z26 := L.z26; have v26 := L.v26; have t38 := L.t38; have a38 := L.a38; have z38 := L.z38; have v38 := L.v38; have t42 := L.t42; have a42 := L.a42; have z42 := L.z42; have v42 := L.v42; have t47 := L.t47; have a47 := L.a47; have z47 := L.z47; have v47 := L.v47
  have u42 := run_underlying L.t42
  have e29 : ∀ args w, (callFunc (ρ.f 29) args).run P w = .ok (.enter (ρ.f 29) args) w := enters_of L.f29 (by kernel_rfl) rfl
  have e30 : ∀ args w, (callFunc (ρ.f 30) args).run P w = .ok (.enter (ρ.f 30) args) w := enters_of L.f30 (by kernel_rfl) rfl
  clear hless hswap hH hSW LI
  generalize hW1 : w.alloc (.cells #[.func (.func g) #[] lb, .func (.func sf) #[] sb] (ρ.t 42)) = W1 at *
  have c0 := B.c0
  have c1 := B.c1
  have BB : Aside (Boxed P enc k lt g lb sf sb blk off d.size w.heap.size w W1) := B
  clear B
  have HI : Aside _ := hins
  have HC : Aside _ := hsym
  clear hins hsym
  have hA : stableA lt d = stab3 lt (stab1 lt d 0 d.size) 20 d.size := rfl
  generalize hn : d.size = n at *
  go_enter L.f15, BodyGt.n15_ntmps ρ
  go_wp2
  go_loopg [5, 6] n (fun kx s5 s6 wr => ∃ (i q : Nat) (X : Array α) (os : Array Obj), s5 = .int .i64 i ∧ s6 = .int .i64 (i + 20 : Nat) ∧ i ≤ n ∧ n - i ≤ kx ∧ X.size = n ∧ wr = sortWorldK enc k W1 blk off q X os ∧
    stab1 lt X i n = stab1 lt d 0 n)
  case atStart => exact ⟨0, 0, d, #[], rfl, rfl, by omega, by omega, hn, hstart.symm, rfl⟩
  case round =>
    obtain ⟨i, q, X, os, rfl, rfl, hin, hkx, hX, rfl, hs1⟩ := hrel
    by_cases hlt : i + 20 ≤ n
    · rw [stab1, if_pos hlt] at hs1
      have H1 : Hid _ := hs1
      clear hs1
      go_wp2_with (go_at_fn (ρ.f 29); refine (HI _ _ _ hX i (i + 20) _ _ (by omega) (by omega) (by omega) (by omega)).mono ?_; rintro e' w' ⟨rfl, n2, os2, rfl⟩)
      go_roundg (n - (i + 20))
      case measure => omega
      case rel => exact ⟨i + 20, n2, _, os2, rfl, by go_num, by omega, Nat.le_refl _, by rw [size_insertionSort']; exact hX, rfl, H1.out⟩
    · rw [stab1, if_neg hlt] at hs1
      have H1 : Hid _ := hs1
      clear hs1
      go_wp2_with (go_at_fn (ρ.f 29); refine (HI _ _ _ hX i n _ _ (by omega) (by omega) (by omega) (by omega)).mono ?_; rintro e' w' ⟨rfl, n2, os2, rfl⟩)
      have hA2 : stab3 lt (Sort.insertionSort lt X i n) 20 n = stableA lt d := by rw [H1.out, hA]
      have HA2 : Hid _ := hA2
      clear hA2 hA H1
      go_loopg [4] n (fun kx s4 wr2 => ∃ (c q : Nat) (X : Array α) (os : Array Obj), s4 = .int .i64 c ∧ 20 ≤ c ∧ c ≤ 2 * n + 20 ∧ n - c ≤ kx ∧ X.size = n ∧ wr2 = sortWorldK enc k W1 blk off q X os ∧ stab3 lt X c n = stableA lt d)
      case atStart => exact ⟨20, n2, _, os2, by go_num, by omega, by omega, by omega, by rw [size_insertionSort']; exact hX, rfl, HA2.out⟩
      case round =>
        obtain ⟨c, q2, X2, os3, rfl, hc20, hcn, hkx2, hX2, rfl, hs3⟩ := hrel
        by_cases hc : c < n
        · rw [stab3, dif_pos ⟨by omega, hc⟩] at hs3
          have H3 : Hid _ := hs3
          clear hs3
          go_wp2
          go_loopg [5, 6] n (fun kx s5 s6 wr3 => ∃ (i q : Nat) (X : Array α) (os : Array Obj), s5 = .int .i64 i ∧ s6 = .int .i64 (i + 2 * c : Nat) ∧ i ≤ n ∧ n - i ≤ kx ∧ X.size = n ∧ wr3 = sortWorldK enc k W1 blk off q X os ∧
            stab2 lt X c i n = stab2 lt X2 c 0 n)
          case atStart => exact ⟨0, q2, X2, os3, rfl, by go_num, by omega, by omega, hX2, rfl, rfl⟩
          case round =>
            obtain ⟨i3, q3, X3, os4, rfl, rfl, hin3, hkx3, hX3, rfl, hs2⟩ := hrel
            by_cases h2c : i3 + 2 * c ≤ n
            · rw [stab2, dif_pos ⟨by omega, h2c⟩] at hs2
              have H2 : Hid _ := hs2
              clear hs2
              go_wp2_with (go_at_fn (ρ.f 30); refine (HC _ _ _ hX3 i3 (i3 + c) (i3 + 2 * c) _ _ _ (by omega) (by omega) (by omega) (by omega) (by omega) (by omega)).mono ?_; rintro e' w' ⟨rfl, n5, os5, rfl⟩)
              go_roundg (n - (i3 + 2 * c))
              case measure => omega
              case rel => exact ⟨i3 + 2 * c, n5, _, os5, rfl, (by first | rfl | (congr 1; omega) | go_num), by omega, Nat.le_refl _, by rw [size_symM']; exact hX3, rfl, H2.out⟩
            · rw [stab2, dif_neg (by omega)] at hs2
              by_cases h1c : i3 + c < n
              · rw [if_pos h1c] at hs2
                have H2 : Hid _ := hs2
                clear hs2
                go_wp2_with (go_at_fn (ρ.f 30); refine (HC _ _ _ hX3 i3 (i3 + c) n _ _ _ (by omega) (by omega) (by omega) (by omega) (by omega) (by omega)).mono ?_; rintro e' w' ⟨rfl, n5, os5, rfl⟩)
                go_roundg (n - 2 * c)
                case measure => omega
                case rel => exact ⟨2 * c, n5, _, os5, (by first | rfl | (congr 1; omega) | go_num), by omega, by omega, Nat.le_refl _, by rw [size_symM']; exact hX3, rfl, by rw [H2.out]; exact H3.out⟩
              · rw [if_neg h1c] at hs2
                have H2 : Hid _ := hs2
                clear hs2
                go_wp2
                go_roundg (n - 2 * c)
                case measure => omega
                case rel => exact ⟨2 * c, q3, X3, os4, (by first | rfl | (congr 1; omega) | go_num), by omega, by omega, Nat.le_refl _, hX3, rfl, by rw [H2.out]; exact H3.out⟩
        · rw [stab3, dif_neg (by omega)] at hs3
          have H3 : Hid _ := hs3
          clear hs3
          go_wp2
          go_end0
          rw [← H3.out]
          exact ⟨rfl, BB.fin _ _ _⟩

end Go.Proofs

/- VG, part 66: what is sorted, and keeps its like ones in their order, is one list alone. -/
namespace Go.Proofs
open Go.Shelf Go.RowKit Go.Lib Go.Sort
set_option linter.unusedVariables false
set_option linter.unusedSimpArgs false
variable {α : Type}

def like (lt : α → α → Bool) (c x : α) : Bool := !lt c x && !lt x c
def Asc (lt : α → α → Bool) (l : List α) : Prop := l.Pairwise fun x y => lt y x = false

theorem like_self {lt : α → α → Bool} (hO : SWO lt) (x : α) : like lt x x = true := by simp [like, hO.irrefl]

theorem mem_of_like {lt : α → α → Bool} (hO : SWO lt) {l1 l2 : List α} (h : ∀ c, l1.filter (like lt c) = l2.filter (like lt c)) {x : α} (hx : x ∈ l1) : x ∈ l2 := by
  have : x ∈ l1.filter (like lt x) := List.mem_filter.2 ⟨hx, like_self hO x⟩
  rw [h x] at this
  exact (List.mem_filter.1 this).1

theorem asc_unique {lt : α → α → Bool} (hO : SWO lt) : ∀ {l1 l2 : List α}, Asc lt l1 → Asc lt l2 → (∀ c, l1.filter (like lt c) = l2.filter (like lt c)) → l1 = l2
  | [], l2, _, _, h => by
    cases l2 with
    | nil => rfl
    | cons y r => exact absurd (mem_of_like hO (fun c => (h c).symm) (List.mem_cons_self (a := y) (l := r))) (by simp)
  | x :: r1, [], _, _, h => absurd (mem_of_like hO h (List.mem_cons_self (a := x) (l := r1))) (by simp)
  | x :: r1, y :: r2, h1, h2, h => by
    have a1 := List.pairwise_cons.1 h1
    have a2 := List.pairwise_cons.1 h2
    have hxy : lt x y = false := by
      rcases List.mem_cons.1 (mem_of_like hO h (List.mem_cons_self (a := x) (l := r1))) with e | e
      · rw [e]; exact hO.irrefl y
      · exact a2.1 x e
    have hyx : lt y x = false := by
      rcases List.mem_cons.1 (mem_of_like hO (fun c => (h c).symm) (List.mem_cons_self (a := y) (l := r2))) with e | e
      · rw [e]; exact hO.irrefl x
      · exact a1.1 y e
    have hx := h x
    rw [List.filter_cons_of_pos (like_self hO x), List.filter_cons_of_pos (show like lt x y = true by simp [like, hxy, hyx])] at hx
    obtain ⟨rfl, _⟩ := List.cons.inj hx
    congr 1
    refine asc_unique hO a1.2 a2.2 fun c => ?_
    have hc := h c
    rw [List.filter_cons, List.filter_cons] at hc
    split at hc
    · exact (List.cons.inj hc).2
    · exact hc

/-- Two neighbours, of which the second is less, change places: each kind's order stays. -/
theorem like_swap {lt : α → α → Bool} (hO : SWO lt) {X Y : List α} (h : ∀ x ∈ X, ∀ y ∈ Y, lt y x = true) (c : α) : (X ++ Y).filter (like lt c) = (Y ++ X).filter (like lt c) := by
  rw [List.filter_append, List.filter_append]
  by_cases hx : ∃ x ∈ X, like lt c x = true
  · obtain ⟨x, hx, hcx⟩ := hx
    have : Y.filter (like lt c) = [] := by
      rw [List.filter_eq_nil_iff]
      intro y hy hcy
      simp only [like, Bool.and_eq_true, Bool.not_eq_true'] at hcx hcy
      have h1 := h x hx y hy
      have := hO.ntrans y c x hcy.2 hcx.1
      rw [h1] at this
      cases this
    rw [this]; simp
  · have : X.filter (like lt c) = [] := by
      rw [List.filter_eq_nil_iff]
      intro x hx' hcx
      exact hx ⟨x, hx', hcx⟩
    rw [this]; simp

variable [Inhabited α]
/-- The elements of a row from a on, up to b. -/
def seg (d : Array α) (a b : Nat) : List α := (List.range' a (b - a)).map fun t => d[t]!
theorem seg_app (d : Array α) {a b c : Nat} (h1 : a ≤ b) (h2 : b ≤ c) : seg d a c = seg d a b ++ seg d b c := by
  unfold seg
  rw [← List.map_append, show c - a = (b - a) + (c - b) by omega, ← List.range'_append_1, show a + (b - a) = b by omega]
theorem seg_nil (d : Array α) {a b : Nat} (h : b ≤ a) : seg d a b = [] := by unfold seg; rw [show b - a = 0 by omega]; rfl
theorem seg_cons (d : Array α) {a b : Nat} (h : a < b) : seg d a b = d[a]! :: seg d (a + 1) b := by
  unfold seg; rw [show b - a = (b - (a + 1)) + 1 by omega, List.range'_succ]; rfl
theorem seg_snoc (d : Array α) {a b : Nat} (h : a < b) : seg d a b = seg d a (b - 1) ++ [d[b - 1]!] := by
  rw [seg_app d (show a ≤ b - 1 by omega) (show b - 1 ≤ b by omega), seg_cons d (a := b - 1) (b := b) (by omega), seg_nil d (a := b - 1 + 1) (b := b) (by omega)]
theorem mem_seg {d : Array α} {a b : Nat} {x : α} : x ∈ seg d a b ↔ ∃ t, a ≤ t ∧ t < b ∧ d[t]! = x := by
  unfold seg
  simp only [List.mem_map, List.mem_range'_1]
  constructor
  · rintro ⟨t, ⟨h1, h2⟩, rfl⟩; exact ⟨t, h1, by omega, rfl⟩
  · rintro ⟨t, h1, h2, rfl⟩; exact ⟨t, ⟨h1, by omega⟩, rfl⟩
theorem seg_congr {d d' : Array α} {a b : Nat} (h : ∀ t, a ≤ t → t < b → d'[t]! = d[t]!) : seg d' a b = seg d a b := by
  unfold seg
  refine List.map_congr_left fun t ht => ?_
  have := List.mem_range'_1.1 ht
  exact h t this.1 (by omega)
/-- A part that was moved. -/
theorem seg_shift {d d' : Array α} {a b s : Nat} (h : ∀ t, a ≤ t → t < b → d'[t]! = d[t + s]!) : seg d' a b = seg d (a + s) (b + s) := by
  unfold seg
  rw [show b + s - (a + s) = b - a by omega]
  apply List.ext_getElem
  · simp
  · intro i h1 h2
    simp only [List.length_map, List.length_range'] at h1
    simp only [List.getElem_map, List.getElem_range', Nat.one_mul]
    rw [h (a + i) (by omega) (by omega), show a + i + s = a + s + i by omega]
theorem seg_length (d : Array α) (a b : Nat) : (seg d a b).length = b - a := by simp [seg]

theorem asc_seg {lt : α → α → Bool} {d : Array α} {a b : Nat} : Asc lt (seg d a b) ↔ ∀ i j, a ≤ i → i < j → j < b → lt d[j]! d[i]! = false := by
  unfold Asc seg
  rw [List.pairwise_map, List.pairwise_iff_getElem]
  constructor
  · intro h i j h1 h2 h3
    have := h (i - a) (j - a) (by simp; omega) (by simp; omega) (by omega)
    simp only [List.getElem_range', Nat.one_mul] at this
    rwa [show a + (i - a) = i by omega, show a + (j - a) = j by omega] at this
  · intro h i j h1 h2 h3
    simp only [List.length_range'] at h1 h2
    simp only [List.getElem_range', Nat.one_mul]
    exact h _ _ (by omega) (by omega) (by omega)

end Go.Proofs

/- VG, part 67: rows that change places, place by place. -/
namespace Go.Proofs
open Go.Shelf Go.RowKit Go.Lib Go.Sort
set_option linter.unusedVariables false
set_option linter.unusedSimpArgs false
variable {α : Type} [Inhabited α]

theorem get_swp {d : Array α} {i j t : Nat} (hi : i < d.size) (hj : j < d.size) : (swp d i j)[t]! = if t = j then d[i]! else if t = i then d[j]! else d[t]! := by
  unfold swp
  by_cases ht : t < d.size
  · simp only [getElem!_pos, ht, hi, hj, Array.size_setIfInBounds, Array.getElem_setIfInBounds]
    by_cases h1 : t = j
    · subst h1; simp
    · by_cases h2 : t = i
      · subst h2; simp [h1, Ne.symm h1]
      · simp [h1, h2, Ne.symm h1, Ne.symm h2]
  · rw [getElem!_neg _ _ (by simpa using ht)]
    rw [if_neg (by omega), if_neg (by omega), getElem!_neg _ _ (by simpa using ht)]

theorem get_swapR {d : Array α} {a b : Nat} : ∀ (n : Nat), a + n ≤ b → b + n ≤ d.size → ∀ t, (swapR d a b n)[t]! = if a ≤ t ∧ t < a + n then d[t - a + b]! else if b ≤ t ∧ t < b + n then d[t - b + a]! else d[t]!
  | 0, _, _, t => by rw [swapR, if_neg (by omega), if_neg (by omega)]
  | n + 1, h1, h2, t => by
    rw [swapR, get_swp (by rw [size_swapR]; omega) (by rw [size_swapR]; omega)]
    rw [get_swapR n (by omega) (by omega), get_swapR n (by omega) (by omega), get_swapR n (by omega) (by omega)]
    by_cases e1 : t = b + n
    · subst e1
      rw [if_pos rfl, if_neg (by omega), if_neg (by omega), if_neg (by omega), if_pos (by omega)]
      congr 1; omega
    · rw [if_neg e1]
      by_cases e2 : t = a + n
      · subst e2
        rw [if_pos rfl, if_neg (by omega), if_neg (by omega), if_pos (by omega)]
        congr 1; omega
      · rw [if_neg e2]
        by_cases c1 : a ≤ t ∧ t < a + n
        · rw [if_pos c1, if_pos (by omega)]
        · rw [if_neg c1]
          by_cases c2 : b ≤ t ∧ t < b + n
          · rw [if_pos c2, if_neg (by omega), if_pos (by omega)]
          · rw [if_neg c2, if_neg (by omega), if_neg (by omega)]

theorem get_rotR {m : Nat} {d : Array α} {i j : Nat} (hi : 0 < i) (hj : 0 < j) (him : i ≤ m) (hmj : m + j ≤ d.size) (t : Nat) :
    (rotR m d i j)[t]! = if m - i ≤ t ∧ t < m - i + j then d[t + i]! else if m - i + j ≤ t ∧ t < m + j then d[t - j]! else d[t]! := by
  fun_induction rotR m d i j with
  | case1 d i j h1 h2 ih =>
    have g := fun t => get_swapR (d := d) (a := m - i) (b := m) j (by omega) (by omega) t
    rw [ih (by omega) (by omega) (by omega) (by rw [size_swapR]; omega), g, g, g]
    repeat' split
    all_goals first | rfl | (exfalso; omega) | (congr 1; omega)
  | case2 d i j h1 h2 ih =>
    have g := fun t => get_swapR (d := d) (a := m - i) (b := m + j - i) i (by omega) (by omega) t
    rw [ih (by omega) (by omega) (by omega) (by rw [size_swapR]; omega), g, g, g]
    repeat' split
    all_goals first | rfl | (exfalso; omega) | (congr 1; omega)
  | case3 d i j h =>
    obtain rfl : i = j := by omega
    rw [get_swapR (d := d) (a := m - i) (b := m) i (by omega) (by omega) t]
    repeat' split
    all_goals first | rfl | (exfalso; omega) | (congr 1; omega)

theorem get_moveUp {d : Array α} {k e : Nat} (hk : k ≤ e) (he : e < d.size) (t : Nat) : (moveUp d k e)[t]! = if k ≤ t ∧ t < e then d[t + 1]! else if t = e then d[k]! else d[t]! := by
  fun_induction moveUp d k e with
  | case1 d k h ih =>
    have g := fun t => get_swp (d := d) (i := k) (j := k + 1) (t := t) (by omega) (by omega)
    rw [ih (by omega) (by rw [size_swp]; omega), g, g, g]
    repeat' split
    all_goals first | rfl | (exfalso; omega) | (congr 1; omega)
  | case2 d k h =>
    repeat' split
    all_goals first | rfl | (exfalso; omega) | (congr 1; omega)

theorem get_moveDown {d : Array α} {k e : Nat} (hk : e ≤ k) (he : k < d.size) (t : Nat) : (moveDown d k e)[t]! = if e < t ∧ t ≤ k then d[t - 1]! else if t = e then d[k]! else d[t]! := by
  fun_induction moveDown d k e with
  | case1 d k h ih =>
    have g := fun t => get_swp (d := d) (i := k) (j := k - 1) (t := t) (by omega) (by omega)
    rw [ih (by omega) (by rw [size_swp]; omega), g, g, g]
    repeat' split
    all_goals first | rfl | (exfalso; omega) | (congr 1; omega)
  | case2 d k h =>
    repeat' split
    all_goals first | rfl | (exfalso; omega) | (congr 1; omega)

/-- What a binary search finds: behind it p does not hold, ahead of it it does. -/
theorem bsr_edge (p : Nat → Bool) {i j lo hi : Nat} (h : i ≤ j) (h1 : lo < i → p (i - 1) = true) (h2 : j < hi → p j = false) (hl : lo ≤ i) (hj : j ≤ hi) :
    (lo < bsr p i j → p (bsr p i j - 1) = true) ∧ (bsr p i j < hi → p (bsr p i j) = false) := by
  fun_induction bsr p i j with
  | case1 i j hij hp ih => exact ih (by omega) (fun _ => by rwa [Nat.add_sub_cancel]) h2 (by omega) hj
  | case2 i j hij hp ih => exact ih (by omega) h1 (fun _ => by simpa using hp) hl (by omega)
  | case3 i j hij =>
    obtain rfl : i = j := by omega
    exact ⟨h1, h2⟩

end Go.Proofs

/- VG, part 68: the merge in place is a merge. -/
namespace Go.Proofs
open Go.Shelf Go.RowKit Go.Lib Go.Sort
set_option linter.unusedVariables false
set_option linter.unusedSimpArgs false
set_option linter.unusedSectionVars false
variable {α : Type} [Inhabited α]

theorem asym {lt : α → α → Bool} (hO : SWO lt) {x y : α} (h : lt x y = true) : lt y x = false := by
  cases hv : lt y x with
  | false => rfl
  | true => have := hO.trans _ _ _ h hv; rw [hO.irrefl] at this; cases this

/-- In order from a to b, like ones in their order, all else as it was. -/
structure Merged (lt : α → α → Bool) (d r : Array α) (a b : Nat) : Prop where
  asc : Asc lt (seg r a b)
  same : ∀ c, (seg r a b).filter (like lt c) = (seg d a b).filter (like lt c)
  out : ∀ t, t < a ∨ b ≤ t → r[t]! = d[t]!

theorem asc_app {lt : α → α → Bool} {l1 l2 : List α} : Asc lt (l1 ++ l2) ↔ Asc lt l1 ∧ Asc lt l2 ∧ ∀ x ∈ l1, ∀ y ∈ l2, lt y x = false := List.pairwise_append

theorem symLeft_merged {lt : α → α → Bool} (hO : SWO lt) {d : Array α} {a b : Nat} (hab : a + 1 < b) (hb : b ≤ d.size) (h2 : Asc lt (seg d (a + 1) b)) :
    Merged lt d (moveUp d a (bsr (fun h => lt d[h]! d[a]!) (a + 1) b - 1)) a b := by
  have hle := bsr_le (fun h => lt d[h]! d[a]!) (a + 1) b (by omega)
  have hed := bsr_edge (fun h => lt d[h]! d[a]!) (i := a + 1) (j := b) (lo := a + 1) (hi := b) (by omega) (fun h => by omega) (fun h => by omega) (by omega) (by omega)
  generalize bsr (fun h => lt d[h]! d[a]!) (a + 1) b = i at *
  have hs := asc_seg.1 h2
  have f1 : ∀ h, a + 1 ≤ h → h < i → lt d[h]! d[a]! = true := fun h g1 g2 => by
    have e := hed.1 (by omega)
    rcases Nat.lt_or_ge h (i - 1) with g | g
    · cases hv : lt d[h]! d[a]! with
      | true => rfl
      | false => have := hO.ntrans _ _ _ (hs h (i - 1) g1 g (by omega)) hv; rw [e] at this; cases this
    · rw [show h = i - 1 by omega]; exact e
  have f2 : ∀ h, i ≤ h → h < b → lt d[h]! d[a]! = false := fun h g1 g2 => by
    have e := hed.2 (by omega)
    rcases Nat.lt_or_ge i h with g | g
    · exact hO.ntrans _ _ _ (hs i h (by omega) g g2) e
    · rw [show h = i by omega]; exact e
  have gm := fun t => get_moveUp (d := d) (k := a) (e := i - 1) (by omega) (by omega) t
  have s1 : seg (moveUp d a (i - 1)) a (i - 1) = seg d (a + 1) i := by
    rw [seg_shift (s := 1) (d := d) (fun t g1 g2 => by rw [gm, if_pos ⟨g1, g2⟩]), show i - 1 + 1 = i by omega]
  have s2 : seg (moveUp d a (i - 1)) i b = seg d i b := seg_congr fun t g1 g2 => by rw [gm, if_neg (by omega), if_neg (by omega)]
  have s3 : seg (moveUp d a (i - 1)) a b = seg d (a + 1) i ++ ([d[a]!] ++ seg d i b) := by
    rw [seg_app _ (show a ≤ i - 1 by omega) (show i - 1 ≤ b by omega), s1, seg_cons _ (show i - 1 < b by omega), show i - 1 + 1 = i by omega, s2, gm, if_neg (by omega), if_pos rfl]
    rfl
  have s0 : seg d a b = [d[a]!] ++ (seg d (a + 1) i ++ seg d i b) := by
    rw [seg_cons _ (show a < b by omega), seg_app d (show a + 1 ≤ i by omega) (show i ≤ b by omega)]; rfl
  have hsp := asc_app.1 (by rw [← seg_app d (show a + 1 ≤ i by omega) (show i ≤ b by omega)]; exact h2 : Asc lt (seg d (a + 1) i ++ seg d i b))
  refine ⟨?_, fun c => ?_, fun t ht => by rw [gm, if_neg (by omega), if_neg (by omega)]⟩
  · rw [s3, asc_app, asc_app]
    refine ⟨hsp.1, ⟨List.pairwise_singleton _ _, hsp.2.1, fun x hx y hy => ?_⟩, fun x hx y hy => ?_⟩
    · obtain rfl := List.mem_singleton.1 hx
      obtain ⟨t, t1, t2, rfl⟩ := mem_seg.1 hy
      exact f2 t t1 t2
    · rcases List.mem_append.1 hy with hy | hy
      · obtain rfl := List.mem_singleton.1 hy
        obtain ⟨t, t1, t2, rfl⟩ := mem_seg.1 hx
        exact asym hO (f1 t t1 t2)
      · exact hsp.2.2 x hx y hy
  · rw [s3, s0, ← List.append_assoc, ← List.append_assoc, List.filter_append, List.filter_append (l₁ := [d[a]!] ++ seg d (a + 1) i)]
    congr 1
    refine (like_swap hO (fun x hx y hy => ?_) c).symm
    obtain rfl := List.mem_singleton.1 hx
    obtain ⟨t, t1, t2, rfl⟩ := mem_seg.1 hy
    exact f1 t t1 t2

theorem symRight_merged {lt : α → α → Bool} (hO : SWO lt) {d : Array α} {a m : Nat} (ham : a < m) (hb : m + 1 ≤ d.size) (h1 : Asc lt (seg d a m)) :
    Merged lt d (moveDown d m (bsr (fun h => !lt d[m]! d[h]!) a m)) a (m + 1) := by
  have hle := bsr_le (fun h => !lt d[m]! d[h]!) a m (by omega)
  have hed := bsr_edge (fun h => !lt d[m]! d[h]!) (i := a) (j := m) (lo := a) (hi := m) (by omega) (fun h => by omega) (fun h => by omega) (by omega) (by omega)
  generalize bsr (fun h => !lt d[m]! d[h]!) a m = i at *
  simp only [Bool.not_eq_true', Bool.not_eq_false'] at hed
  have hs := asc_seg.1 h1
  have f1 : ∀ h, a ≤ h → h < i → lt d[m]! d[h]! = false := fun h g1 g2 => by
    have e := hed.1 (by omega)
    rcases Nat.lt_or_ge h (i - 1) with g | g
    · exact hO.ntrans _ _ _ e (hs h (i - 1) g1 g (by omega))
    · rw [show h = i - 1 by omega]; exact e
  have f2 : ∀ h, i ≤ h → h < m → lt d[m]! d[h]! = true := fun h g1 g2 => by
    have e := hed.2 (by omega)
    rcases Nat.lt_or_ge i h with g | g
    · cases hv : lt d[m]! d[h]! with
      | true => rfl
      | false => have := hO.ntrans _ _ _ hv (hs i h (by omega) g g2); rw [e] at this; cases this
    · rw [show h = i by omega]; exact e
  have gm := fun t => get_moveDown (d := d) (k := m) (e := i) (by omega) (by omega) t
  have s1 : seg (moveDown d m i) a i = seg d a i := seg_congr fun t g1 g2 => by rw [gm, if_neg (by omega), if_neg (by omega)]
  have s2 : seg d i m = seg (moveDown d m i) (i + 1) (m + 1) := seg_shift (s := 1) fun t g1 g2 => by rw [gm, if_pos (by omega)]; congr 1
  have s3 : seg (moveDown d m i) a (m + 1) = seg d a i ++ ([d[m]!] ++ seg d i m) := by
    rw [seg_app _ (show a ≤ i by omega) (show i ≤ m + 1 by omega), s1, seg_cons _ (show i < m + 1 by omega), ← s2, gm, if_neg (by omega), if_pos rfl]
    rfl
  have s0 : seg d a (m + 1) = seg d a i ++ (seg d i m ++ [d[m]!]) := by
    rw [seg_app _ (show a ≤ i by omega) (show i ≤ m + 1 by omega), seg_snoc _ (show i < m + 1 by omega), Nat.add_sub_cancel]
  have hsp := asc_app.1 (by rw [← seg_app d (show a ≤ i by omega) (show i ≤ m by omega)]; exact h1 : Asc lt (seg d a i ++ seg d i m))
  refine ⟨?_, fun c => ?_, fun t ht => by rw [gm, if_neg (by omega), if_neg (by omega)]⟩
  · rw [s3, asc_app, asc_app]
    refine ⟨hsp.1, ⟨List.pairwise_singleton _ _, hsp.2.1, fun x hx y hy => ?_⟩, fun x hx y hy => ?_⟩
    · obtain rfl := List.mem_singleton.1 hx
      obtain ⟨t, t1, t2, rfl⟩ := mem_seg.1 hy
      exact asym hO (f2 t t1 t2)
    · rcases List.mem_append.1 hy with hy | hy
      · obtain rfl := List.mem_singleton.1 hy
        obtain ⟨t, t1, t2, rfl⟩ := mem_seg.1 hx
        exact f1 t t1 t2
      · exact hsp.2.2 x hx y hy
  · rw [s3, s0, List.filter_append, List.filter_append (l₁ := seg d a i)]
    congr 1
    refine (like_swap hO (fun x hx y hy => ?_) c).symm
    obtain rfl := List.mem_singleton.1 hy
    obtain ⟨t, t1, t2, rfl⟩ := mem_seg.1 hx
    exact f2 t t1 t2

end Go.Proofs

/- VG, part 69: the merge in place is a merge: whole; the stable sort is the insertion sort. -/
namespace Go.Proofs
open Go.Shelf Go.RowKit Go.Lib Go.Sort
set_option linter.unusedVariables false
set_option linter.unusedSimpArgs false
set_option linter.unusedSectionVars false
variable {α : Type} [Inhabited α]

theorem symM_merged {lt : α → α → Bool} (hO : SWO lt) : ∀ (N : Nat) {d : Array α} {a m b : Nat}, b - a ≤ N → a < m → m < b → b ≤ d.size → Asc lt (seg d a m) → Asc lt (seg d m b) → Merged lt d (symM lt d a m b) a b
  | 0, d, a, m, b, hN, ham, hmb, hb, h1, h2 => by omega
  | N + 1, d, a, m, b, hN, ham, hmb, hb, h1, h2 => by
    by_cases hl : m ≤ a + 1
    · obtain rfl : m = a + 1 := by omega
      rw [symM, if_pos hl]
      exact symLeft_merged hO (by omega) hb h2
    by_cases hr : b ≤ m + 1
    · obtain rfl : b = m + 1 := by omega
      rw [symM, if_neg hl, if_pos (Nat.le_refl _)]
      exact symRight_merged hO ham hb h1
    rw [symM_rec hl hr]
    have hle := symStart_le (lt := lt) (d := d) ham hmb
    have hed : (a < symStart lt d a m b → (a + b) / 2 + m - symStart lt d a m b < b → lt d[(a + b) / 2 + m - symStart lt d a m b]! d[symStart lt d a m b - 1]! = false) ∧
        (symStart lt d a m b < m → m < (a + b) / 2 + m - symStart lt d a m b → lt d[(a + b) / 2 + m - symStart lt d a m b - 1]! d[symStart lt d a m b]! = true) := by
      unfold symStart
      have he := bsr_edge (fun c => !lt d[(a + b) / 2 + m - 1 - c]! d[c]!) (i := if (a + b) / 2 < m then (a + b) / 2 + m - b else a) (j := if (a + b) / 2 < m then (a + b) / 2 else m)
        (lo := if (a + b) / 2 < m then (a + b) / 2 + m - b else a) (hi := if (a + b) / 2 < m then (a + b) / 2 else m) (by split <;> omega) (fun h => by omega) (fun h => by omega) (Nat.le_refl _) (Nat.le_refl _)
      have hb2 := bsr_le (fun c => !lt d[(a + b) / 2 + m - 1 - c]! d[c]!) (if (a + b) / 2 < m then (a + b) / 2 + m - b else a) (if (a + b) / 2 < m then (a + b) / 2 else m) (by split <;> omega)
      generalize bsr (fun c => !lt d[(a + b) / 2 + m - 1 - c]! d[c]!) (if (a + b) / 2 < m then (a + b) / 2 + m - b else a) (if (a + b) / 2 < m then (a + b) / 2 else m) = s at *
      simp only [Bool.not_eq_true', Bool.not_eq_false'] at he
      refine ⟨fun g1 g2 => ?_, fun g1 g2 => ?_⟩
      · have := he.1 (by split <;> omega)
        rw [show (a + b) / 2 + m - 1 - (s - 1) = (a + b) / 2 + m - s by omega] at this
        exact this
      · have := he.2 (by split <;> omega)
        rw [show (a + b) / 2 + m - 1 - s = (a + b) / 2 + m - s - 1 by omega] at this
        exact this
    have hRot : symRot lt d a m b = if symStart lt d a m b < m ∧ m < (a + b) / 2 + m - symStart lt d a m b then rotR m d (m - symStart lt d a m b) ((a + b) / 2 + m - symStart lt d a m b - m) else d := rfl
    have hTwo : symTwo lt d a m b = if a < symStart lt d a m b ∧ symStart lt d a m b < (a + b) / 2 then symM lt (symRot lt d a m b) a (symStart lt d a m b) ((a + b) / 2) else symRot lt d a m b := rfl
    have hz1 := size_symRot lt d a m b
    have hz2 := size_symTwo lt d a m b
    generalize symStart lt d a m b = s at *
    generalize symRot lt d a m b = d1 at *
    generalize symTwo lt d a m b = d2 at *
    obtain ⟨hs1, hs2, hs3, hs4⟩ := hle
    obtain ⟨e, he⟩ : ∃ e, e = (a + b) / 2 + m - s := ⟨_, rfl⟩
    rw [← he] at hed hRot ⊢
    obtain ⟨mid, hmid⟩ : ∃ mid, mid = (a + b) / 2 := ⟨_, rfl⟩
    rw [← hmid] at he hTwo hs3 ⊢
    -- the four rows
    have i1 := asc_app.1 (by rw [← seg_app d hs1 hs2]; exact h1 : Asc lt (seg d a s ++ seg d s m))
    have i2 := asc_app.1 (by rw [← seg_app d (show m ≤ e by omega) (show e ≤ b by omega)]; exact h2 : Asc lt (seg d m e ++ seg d e b))
    have a1 := asc_seg.1 h1
    have a2 := asc_seg.1 h2
    have F1 : ∀ x ∈ seg d s m, ∀ y ∈ seg d m e, lt y x = true := fun x hx y hy => by
      obtain ⟨t, t1, t2, rfl⟩ := mem_seg.1 hx
      obtain ⟨u, u1, u2, rfl⟩ := mem_seg.1 hy
      have h0 := hed.2 (by omega) (by omega)
      have q1 : lt d[t]! d[s]! = false := by
        rcases Nat.lt_or_ge s t with g | g
        · exact a1 s t hs1 g t2
        · rw [show t = s by omega]; exact hO.irrefl _
      have q2 : lt d[e - 1]! d[u]! = false := by
        rcases Nat.lt_or_ge u (e - 1) with g | g
        · exact a2 u (e - 1) u1 g (by omega)
        · rw [show u = e - 1 by omega]; exact hO.irrefl _
      cases hv : lt d[u]! d[t]! with
      | true => rfl
      | false =>
        have := hO.ntrans _ _ _ (hO.ntrans _ _ _ q2 hv) q1
        rw [h0] at this; cases this
    have F2 : ∀ x ∈ seg d a s, ∀ y ∈ seg d e b, lt y x = false := fun x hx y hy => by
      obtain ⟨t, t1, t2, rfl⟩ := mem_seg.1 hx
      obtain ⟨u, u1, u2, rfl⟩ := mem_seg.1 hy
      have h0 := hed.1 (by omega) (by omega)
      have q1 : lt d[s - 1]! d[t]! = false := by
        rcases Nat.lt_or_ge t (s - 1) with g | g
        · exact a1 t (s - 1) t1 g (by omega)
        · rw [show t = s - 1 by omega]; exact hO.irrefl _
      have q2 : lt d[u]! d[e]! = false := by
        rcases Nat.lt_or_ge e u with g | g
        · exact a2 e u (by omega) g u2
        · rw [show u = e by omega]; exact hO.irrefl _
      exact hO.ntrans _ _ _ q2 (hO.ntrans _ _ _ h0 q1)
    -- behind the rotation
    have R : seg d1 a s = seg d a s ∧ seg d1 s mid = seg d m e ∧ seg d1 mid e = seg d s m ∧ seg d1 e b = seg d e b ∧ ∀ t, t < a ∨ b ≤ t → d1[t]! = d[t]! := by
      by_cases hc : s < m ∧ m < e
      · rw [if_pos hc] at hRot
        have g := fun t => get_rotR (m := m) (d := d) (i := m - s) (j := e - m) (by omega) (by omega) (by omega) (by omega) t
        rw [← hRot] at g
        refine ⟨seg_congr fun t g1 g2 => by rw [g, if_neg (by omega), if_neg (by omega)], ?_, ?_, seg_congr fun t g1 g2 => by rw [g, if_neg (by omega), if_neg (by omega)], fun t ht => by rw [g, if_neg (by omega), if_neg (by omega)]⟩
        · rw [seg_shift (s := m - s) (d := d) fun t g1 g2 => by rw [g, if_pos (by omega)]]
          congr 1 <;> omega
        · have : seg d s m = seg d1 (s + (e - m)) (m + (e - m)) := seg_shift fun t g1 g2 => by rw [g, if_neg (by omega), if_pos (by omega)]; congr 1; omega
          rw [this]
          congr 1 <;> omega
      · rw [if_neg hc] at hRot
        subst hRot
        rcases Nat.lt_or_ge s m with g | g
        · have g1 : e = m := by omega
          have g2 : mid = s := by omega
          exact ⟨rfl, by rw [seg_nil _ (by omega), seg_nil _ (by omega)], by congr 1 <;> omega, rfl, fun t ht => rfl⟩
        · have g1 : s = m := by omega
          have g2 : mid = e := by omega
          exact ⟨rfl, by congr 1, by rw [seg_nil _ (by omega), seg_nil _ (by omega)], rfl, fun t ht => rfl⟩
    obtain ⟨r1, r2, r3, r4, r5⟩ := R
    -- the first half
    have T1 : Merged lt d1 d2 a mid := by
      by_cases hc : a < s ∧ s < mid
      · rw [if_pos hc] at hTwo
        rw [hTwo]
        exact symM_merged hO N (by omega) hc.1 hc.2 (by omega) (by rw [r1]; exact i1.1) (by rw [r2]; exact i2.1)
      · rw [if_neg hc] at hTwo
        subst hTwo
        refine ⟨?_, fun c => rfl, fun t ht => rfl⟩
        rcases Nat.lt_or_ge a s with g | g
        · rw [show mid = s by omega, r1]; exact i1.1
        · rw [show a = s by omega, r2]; exact i2.1
    have hms : seg d a b = seg d a s ++ seg d s m ++ (seg d m e ++ seg d e b) := by
      rw [seg_app d (show a ≤ m by omega) (show m ≤ b by omega), seg_app d hs1 hs2, seg_app d (show m ≤ e by omega) (show e ≤ b by omega)]
    have d1m : seg d1 a mid = seg d a s ++ seg d m e := by rw [seg_app d1 hs1 hs3, r1, r2]
    have k3 : seg d2 mid e = seg d s m := by rw [← r3]; exact seg_congr fun t g1 g2 => T1.out t (by omega)
    have k4 : seg d2 e b = seg d e b := by rw [← r4]; exact seg_congr fun t g1 g2 => T1.out t (by omega)
    have d2m : seg d2 mid b = seg d s m ++ seg d e b := by rw [seg_app d2 (show mid ≤ e by omega) (show e ≤ b by omega), k3, k4]
    -- the second half
    have T2 : Merged lt d2 (if mid < e ∧ e < b then symM lt d2 mid e b else d2) mid b := by
      by_cases hc : mid < e ∧ e < b
      · rw [if_pos hc]
        exact symM_merged hO N (by omega) hc.1 hc.2 (by omega) (by rw [k3]; exact i1.2.1) (by rw [k4]; exact i2.2.1)
      · rw [if_neg hc]
        refine ⟨?_, fun c => rfl, fun t ht => rfl⟩
        rcases Nat.lt_or_ge mid e with g | g
        · rw [d2m, seg_nil d (show b ≤ e by omega), List.append_nil]; exact i1.2.1
        · rw [d2m, seg_nil d (show m ≤ s by omega), List.nil_append]; exact i2.2.1
    generalize (if mid < e ∧ e < b then symM lt d2 mid e b else d2) = r at *
    have rA : seg r a mid = seg d2 a mid := seg_congr fun t g1 g2 => T2.out t (by omega)
    have rs : seg r a b = seg d2 a mid ++ seg r mid b := by rw [seg_app r (show a ≤ mid by omega) (show mid ≤ b by omega), rA]
    have m1 : ∀ x ∈ seg d2 a mid, x ∈ seg d a s ∨ x ∈ seg d m e := fun x hx => by
      have := mem_of_like hO T1.same hx
      rw [d1m] at this
      exact List.mem_append.1 this
    have m2 : ∀ x ∈ seg r mid b, x ∈ seg d s m ∨ x ∈ seg d e b := fun x hx => by
      have := mem_of_like hO T2.same hx
      rw [d2m] at this
      exact List.mem_append.1 this
    refine ⟨?_, fun c => ?_, fun t ht => ?_⟩
    · rw [rs, asc_app]
      refine ⟨T1.asc, T2.asc, fun x hx y hy => ?_⟩
      rcases m1 x hx with hx | hx <;> rcases m2 y hy with hy | hy
      · exact i1.2.2 x hx y hy
      · exact F2 x hx y hy
      · exact asym hO (F1 y hy x hx)
      · exact i2.2.2 x hx y hy
    · rw [rs, List.filter_append, T1.same, T2.same, d1m, d2m, hms]
      have := like_swap hO F1 c
      simp only [List.filter_append] at this ⊢
      rw [List.append_assoc, ← List.append_assoc (List.filter (like lt c) (seg d m e)), ← this]
      simp only [List.append_assoc]
    · rw [T2.out t (by omega), T1.out t (by omega), r5 t ht]

end Go.Proofs

/- VG, part 70: the stable sort is the insertion sort. -/
namespace Go.Proofs
open Go.Shelf Go.RowKit Go.Lib Go.Sort
set_option linter.unusedVariables false
set_option linter.unusedSimpArgs false
set_option linter.unusedSectionVars false
variable {α : Type} [Inhabited α]

/-- Like ones in their order, from a to b; all else as it was. -/
structure Same (lt : α → α → Bool) (d r : Array α) (a b : Nat) : Prop where
  same : ∀ c, (seg r a b).filter (like lt c) = (seg d a b).filter (like lt c)
  out : ∀ t, t < a ∨ b ≤ t → r[t]! = d[t]!

theorem Same.trans {lt : α → α → Bool} {d e r : Array α} {a b : Nat} (h1 : Same lt d e a b) (h2 : Same lt e r a b) : Same lt d r a b :=
  ⟨fun c => (h2.same c).trans (h1.same c), fun t ht => (h2.out t ht).trans (h1.out t ht)⟩
theorem Same.widen {lt : α → α → Bool} {d r : Array α} {a b a' b' : Nat} (h : Same lt d r a b) (hab : a ≤ b) (h1 : a' ≤ a) (h2 : b ≤ b') : Same lt d r a' b' := by
  refine ⟨fun c => ?_, fun t ht => h.out t (by omega)⟩
  rw [seg_app r h1 (show a ≤ b' by omega), seg_app r hab h2, seg_app d h1 (show a ≤ b' by omega), seg_app d hab h2]
  rw [seg_congr (d := d) (d' := r) (a := a') (b := a) fun t g1 g2 => h.out t (by omega), seg_congr (d := d) (d' := r) (a := b) (b := b') fun t g1 g2 => h.out t (by omega)]
  simp only [List.filter_append, h.same c]
theorem Same.refl {lt : α → α → Bool} (d : Array α) (a b : Nat) : Same lt d d a b := ⟨fun _ => rfl, fun _ _ => rfl⟩

theorem swp_same {lt : α → α → Bool} (hO : SWO lt) {d : Array α} {j : Nat} (hj : j + 1 < d.size) (h : lt d[j + 1]! d[j]! = true) : Same lt d (swp d (j + 1) j) j (j + 2) := by
  have g := fun t => get_swp (d := d) (i := j + 1) (j := j) (t := t) (by omega) (by omega)
  refine ⟨fun c => ?_, fun t ht => by rw [g, if_neg (by omega), if_neg (by omega)]⟩
  rw [seg_cons (swp d (j + 1) j) (show j < j + 2 by omega), seg_cons (swp d (j + 1) j) (show j + 1 < j + 2 by omega), seg_nil _ (by omega), seg_cons d (show j < j + 2 by omega), seg_cons d (show j + 1 < j + 2 by omega), seg_nil _ (by omega)]
  rw [g, g, if_pos rfl, if_neg (by omega), if_pos rfl]
  refine (like_swap (X := [d[j]!]) (Y := [d[j + 1]!]) hO (fun x hx y hy => ?_) c).symm
  obtain rfl := List.mem_singleton.1 hx
  obtain rfl := List.mem_singleton.1 hy
  exact h

theorem insInner_same {lt : α → α → Bool} (hO : SWO lt) {a b : Nat} : ∀ (j : Nat) {d : Array α}, a ≤ j → j < b → b ≤ d.size → Same lt d (Sort.insInner lt a j d) a b
  | 0, d, h1, h2, h3 => by rw [Sort.insInner]; exact Same.refl ..
  | j + 1, d, h1, h2, h3 => by
    rw [Sort.insInner]
    split
    · rename_i hc
      simp only [gt_iff_lt, Bool.and_eq_true, decide_eq_true_eq] at hc
      refine ((swp_same hO (by omega) hc.2).widen (by omega) (by omega) (by omega)).trans (insInner_same hO j (by omega) (by omega) (by rw [size_swp]; omega))
    · exact Same.refl ..

theorem insOuter_same {lt : α → α → Bool} (hO : SWO lt) {a b i : Nat} {d : Array α} (hi : a ≤ i) (hb : b ≤ d.size) : Same lt d (Sort.insOuter lt a b i d) a b := by
  fun_induction Sort.insOuter lt a b i d with
  | case1 i d h ih => exact (insInner_same hO i hi h hb).trans (ih (by omega) (by rw [size_insInner]; exact hb))
  | case2 i d h => exact Same.refl ..

theorem insertion_merged {lt : α → α → Bool} (hO : SWO lt) {d : Array α} {a b : Nat} (hab : a ≤ b) (hb : b ≤ d.size) : Merged lt d (Sort.insertionSort lt d a b) a b := by
  have hs := insOuter_same hO (a := a) (b := b) (i := a + 1) (d := d) (by omega) hb
  refine ⟨?_, hs.same, hs.out⟩
  have h := (insertionSort_holds hO d a b hab hb).2
  rw [asc_seg]
  exact h

/-- Rows of c elements each are in order, from a on up to n. -/
def Blks (lt : α → α → Bool) (d : Array α) (c a n : Nat) : Prop := if h : 0 < c ∧ a < n then Asc lt (seg d a (min (a + c) n)) ∧ Blks lt d c (a + c) n else True
termination_by n - a
theorem blks_congr {lt : α → α → Bool} {d r : Array α} {c a n : Nat} (h : ∀ t, a ≤ t → r[t]! = d[t]!) (hb : Blks lt d c a n) : Blks lt r c a n := by
  fun_induction Blks lt d c a n with
  | case1 a hc ih =>
    rw [Blks, dif_pos hc]
    exact ⟨by rw [seg_congr fun t g1 g2 => h t g1]; exact hb.1, ih (fun t ht => h t (by omega)) hb.2⟩
  | case2 a hc => rw [Blks, dif_neg hc]; trivial

theorem stab1_ok {lt : α → α → Bool} (hO : SWO lt) {d : Array α} {a n : Nat} (ha : a ≤ n) (hn : n ≤ d.size) : Same lt d (stab1 lt d a n) a n ∧ Blks lt (stab1 lt d a n) 20 a n := by
  fun_induction stab1 lt d a n with
  | case1 d a h ih =>
    have m := insertion_merged hO (d := d) (a := a) (b := a + 20) (by omega) (by omega)
    obtain ⟨i1, i2⟩ := ih h (by rw [size_insertionSort']; exact hn)
    refine ⟨(Same.widen ⟨m.same, m.out⟩ (by omega) (Nat.le_refl _) h).trans (i1.widen h (by omega) (Nat.le_refl _)), ?_⟩
    rw [Blks, dif_pos (by omega)]
    refine ⟨?_, i2⟩
    rw [show min (a + 20) n = a + 20 by omega, seg_congr fun t g1 g2 => i1.out t (by omega)]
    exact m.asc
  | case2 d a h =>
    have m := insertion_merged hO (d := d) (a := a) (b := n) ha hn
    refine ⟨⟨m.same, m.out⟩, ?_⟩
    rw [Blks]
    split
    · refine ⟨by rw [show min (a + 20) n = n by omega]; exact m.asc, ?_⟩
      rw [Blks, dif_neg (by omega)]; trivial
    · trivial

theorem stab2_ok {lt : α → α → Bool} (hO : SWO lt) {d : Array α} {c a n : Nat} (hc0 : 0 < c) (ha : a ≤ n) (hn : n ≤ d.size) (hb : Blks lt d c a n) : Same lt d (stab2 lt d c a n) a n ∧ Blks lt (stab2 lt d c a n) (2 * c) a n := by
  fun_induction stab2 lt d c a n with
  | case1 d a h ih =>
    rw [Blks, dif_pos (by omega), Blks, dif_pos (by omega), show min (a + c) n = a + c by omega, show min (a + c + c) n = a + 2 * c by omega, show a + c + c = a + 2 * c by omega] at hb
    have m := symM_merged hO (d := d) (a := a) (m := a + c) (b := a + 2 * c) _ (Nat.le_refl _) (by omega) (by omega) (by omega) hb.1 hb.2.1
    obtain ⟨i1, i2⟩ := ih h.2 (by rw [size_symM']; exact hn) (blks_congr (fun t ht => m.out t (by omega)) hb.2.2)
    refine ⟨(Same.widen ⟨m.same, m.out⟩ (by omega) (Nat.le_refl _) h.2).trans (i1.widen h.2 (by omega) (Nat.le_refl _)), ?_⟩
    rw [Blks, dif_pos (by omega)]
    refine ⟨?_, i2⟩
    rw [show min (a + 2 * c) n = a + 2 * c by omega, seg_congr fun t g1 g2 => i1.out t (by omega)]
    exact m.asc
  | case2 d a h h2 =>
    rw [Blks, dif_pos (by omega), Blks, dif_pos (by omega), show min (a + c) n = a + c by omega, show min (a + c + c) n = n by omega] at hb
    have m := symM_merged hO (d := d) (a := a) (m := a + c) (b := n) _ (Nat.le_refl _) (by omega) (by omega) (by omega) hb.1 hb.2.1
    refine ⟨⟨m.same, m.out⟩, ?_⟩
    rw [Blks, dif_pos (by omega), show min (a + 2 * c) n = n by omega]
    refine ⟨m.asc, ?_⟩
    rw [Blks, dif_neg (by omega)]; trivial
  | case3 d a h h2 =>
    refine ⟨Same.refl .., ?_⟩
    rw [Blks] at hb ⊢
    split
    · rw [dif_pos (by omega)] at hb
      rw [show min (a + 2 * c) n = n by omega]
      rw [show min (a + c) n = n by omega] at hb
      refine ⟨hb.1, ?_⟩
      rw [Blks, dif_neg (by omega)]; trivial
    · trivial

theorem stab3_ok {lt : α → α → Bool} (hO : SWO lt) {d : Array α} {c n : Nat} (hc0 : 0 < c) (hn : n ≤ d.size) (hb : Blks lt d c 0 n) : Same lt d (stab3 lt d c n) 0 n ∧ Asc lt (seg (stab3 lt d c n) 0 n) := by
  fun_induction stab3 lt d c n with
  | case1 d c h ih =>
    obtain ⟨i1, i2⟩ := stab2_ok hO hc0 (Nat.zero_le _) hn hb
    obtain ⟨j1, j2⟩ := ih (by omega) (by rw [size_stab2]; exact hn) i2
    exact ⟨i1.trans j1, j2⟩
  | case2 d c h =>
    refine ⟨Same.refl .., ?_⟩
    rw [Blks] at hb
    split at hb
    · rw [show min (0 + c) n = n by omega] at hb; exact hb.1
    · rw [seg_nil _ (by omega)]; exact List.Pairwise.nil

theorem size_stab3 (lt : α → α → Bool) (d : Array α) (c n : Nat) : (stab3 lt d c n).size = d.size := by
  fun_induction stab3 lt d c n with
  | case1 d c h ih => rw [ih, size_stab2]
  | case2 d c h => rfl

theorem seg_get (d : Array α) {a b i : Nat} (h : i < (seg d a b).length) : (seg d a b)[i] = d[a + i]! := by
  simp only [seg, List.getElem_map, List.getElem_range', Nat.one_mul]

/-- The stable sort is the insertion sort. -/
theorem stableA_eq {lt : α → α → Bool} (hO : SWO lt) (d : Array α) : stableA lt d = Sort.insertionSort lt d 0 d.size := by
  have h1 := stab1_ok hO (d := d) (a := 0) (n := d.size) (Nat.zero_le _) (Nat.le_refl _)
  have h3 := stab3_ok hO (d := stab1 lt d 0 d.size) (c := 20) (n := d.size) (by omega) (by rw [size_stab1]; exact Nat.le_refl _) h1.2
  have hm := insertion_merged hO (d := d) (a := 0) (b := d.size) (Nat.zero_le _) (Nat.le_refl _)
  have hs : (stableA lt d).size = d.size := by unfold stableA; rw [size_stab3, size_stab1]
  have e : seg (stableA lt d) 0 d.size = seg (Sort.insertionSort lt d 0 d.size) 0 d.size :=
    asc_unique hO h3.2 hm.asc fun c => ((h1.1.trans h3.1).same c).trans (hm.same c).symm
  apply Array.ext
  · rw [hs, size_insertionSort']
  · intro i hi hi2
    have hi' : i < d.size := by omega
    have h0 : i < (seg (stableA lt d) 0 d.size).length := by rw [seg_length]; exact hi'
    have h1 := seg_get (stableA lt d) h0
    have h2 := seg_get (Sort.insertionSort lt d 0 d.size) (a := 0) (b := d.size) (i := i) (by rw [seg_length]; exact hi')
    simp only [e] at h1
    rw [h1, Nat.zero_add, getElem!_pos (stableA lt d) i hi, getElem!_pos (Sort.insertionSort lt d 0 d.size) i hi2] at h2
    exact h2

end Go.Proofs

/- VG, part 72: sort.SliceStable at any length: the insertion sort. -/
namespace Go.Proofs
open Go.Shelf Go.RowKit Go.Lib Go.Sort
set_option linter.unusedVariables false
variable {P : Program} {ρ : Ren} {α : Type} [Inhabited α]

theorem vgSliceStable (L : LaysGt.n8 P ρ) {t e : TypeId} {i ie : TypeInfo} (hi : P.info? t = some i) (hd : i.desc = .slice e) (hpk : P.packed t = false) (hie : P.info? e = some ie) {ke : Nat} (hke : ∀ w, (Extern.Rtype.kind e).run P w = .ok ke w)
    {enc : α → List Value} {k : Nat} (hk : ∀ x, (enc x).length = k) (h1 : ∀ x, ∀ v ∈ enc x, v.oneCell' = true) (lt : α → α → Bool) (hO : SWO lt) {g : Nat} {lb : Array Value}
    (eg : ∀ args w, (callFunc g args).run P w = .ok (.enter g args) w) {blk off c : Nat} {d : Array α} (h2 : 2 ≤ d.size) (hsz : d.size < 1152921504606846976)
    {f : Nat} (hf : P.funcs.findIdx? (·.name == "internal/reflectlite" ++ ".Swapper$" ++ toString (swapperK d.size ie ke)) = some f)
    (hsw : SwapSwapsK P f (sliceBound P e ie ke (some ⟨blk, off, none⟩) d.size c) enc k blk off d.size)
    {w : World} (hless : LessReadsK P g lb enc k lt blk off d.size w) (hH : HoldsK enc k w blk off d) (hblk : blk < w.heap.size) :
    Calls P (ρ.f 8) #[.iface t (.slice (some ⟨blk, off, none⟩) d.size c), .func (.func g) #[] lb] w fun e w' =>
      e = .returned (.tuple #[]) ∧ ∃ n os, w' = grow (putRowK enc k (Sort.ahead w n) blk off (Sort.insertionSort lt d 0 d.size)) os := by
  refine Any.sort_SliceStable_of_stable L t e i ie hi hd hpk hie ke hke _ d.size c (by omega) f hf (.func g) #[] lb w _ ?_
  obtain ⟨os0, hW⟩ : ∃ os0, stableWorld P ρ t (some ⟨blk, off, none⟩) d.size c w = grow w os0 :=
    ⟨_, by unfold stableWorld; rw [alloc_eq_grow, alloc_eq_grow, grow_grow]⟩
  rw [hW]
  refine (vgStable (P := P) (ρ := ρ) { L with } hk lt (d := d) eg (hless.grow hblk os0) hsw (holdsK_grow enc k w _ blk off d hblk hH) (by rw [size_grow]; omega) hsz).mono ?_
  rintro e w' ⟨rfl, n, os, rfl⟩
  rw [stableA_eq hO]
  exact ⟨rfl, n, _, by unfold sortWorldK; rw [ahead_grow, putRowK_grow enc k (Sort.ahead w n) _ blk off _ hblk, grow_grow]⟩

/-- .. at elements of several cells, whose swapper is the literal that the library makes for them. -/
theorem vgSliceStable_cells (L : LaysGt.n8 P ρ) {t e : TypeId} {i ie : TypeInfo} (hi : P.info? t = some i) (hd : i.desc = .slice e) (hpk : P.packed t = false) (hie : P.info? e = some ie) {ke : Nat} (hke : ∀ w, (Extern.Rtype.kind e).run P w = .ok ke w)
    {enc : α → List Value} {k : Nat} (hk : ∀ x, (enc x).length = k) (hs1 : ie.size = k) (hagg : ∀ w, (isAgg e).run P w = .ok true w) (h1 : ∀ x, ∀ v ∈ enc x, v.oneCell' = true) (lt : α → α → Bool) (hO : SWO lt) {g : Nat} {lb : Array Value}
    (eg : ∀ args w, (callFunc g args).run P w = .ok (.enter g args) w) {blk off c : Nat} {d : Array α} (h2 : 2 ≤ d.size) (hsz : d.size < 1152921504606846976)
    {f : Nat} (hf : P.funcs.findIdx? (·.name == "internal/reflectlite" ++ ".Swapper$" ++ toString (swapperK d.size ie ke)) = some f)
    (gS : Bool) (hx : ∀ args W, (callFunc f args).run P W = ((Extern.ReflectliteSwapper.swap gS args).run P W).andThen fun v w' => .ok (.value v) w')
    {w : World} (hless : LessReadsK P g lb enc k lt blk off d.size w) (hH : HoldsK enc k w blk off d) (hblk : blk < w.heap.size) :
    Calls P (ρ.f 8) #[.iface t (.slice (some ⟨blk, off, none⟩) d.size c), .func (.func g) #[] lb] w fun e w' =>
      e = .returned (.tuple #[]) ∧ ∃ n os, w' = grow (putRowK enc k (Sort.ahead w n) blk off (Sort.insertionSort lt d 0 d.size)) os := by
  have hB : sliceBound P e ie ke (some ⟨blk, off, none⟩) d.size c = #[.slice (some ⟨blk, off, none⟩) d.size c, typeHandle P e] := by
    unfold sliceBound; rw [if_neg (swapperK_gt _ _ _ h2)]
  exact vgSliceStable L hi hd hpk hie hke hk h1 lt hO eg h2 hsz hf (by rw [hB]; exact swapSwapsK_of_literal gS f hx e ie hie enc k hk hs1 hagg h1 blk off d.size c) hless hH hblk

end Go.Proofs

/- VG, part 74: sort.SliceStable at elements of one cell, at any length. -/
namespace Go.Proofs
open Go.Shelf Go.RowKit Go.Lib Go.Sort
set_option linter.unusedVariables false
variable {P : Program} {ρ : Ren} {α : Type} [Inhabited α]

theorem swapSwapsK_one (gS : Bool) (sf : Nat) (hx : ∀ args W, (callFunc sf args).run P W = ((Extern.ReflectliteSwapper.swap gS args).run P W).andThen fun v w' => .ok (.value v) w')
    (e : TypeId) (ie : TypeInfo) (hie : P.info? e = some ie) (hs : ie.size = 1) (hagg : ∀ w, (isAgg e).run P w = .ok false w) (enc : α → Value) (h1 : ∀ x, (enc x).oneCell' = true) (blk off n c : Nat) :
    SwapSwapsK P sf #[.slice (some ⟨blk, off, none⟩) n c, typeHandle P e] (fun x => [enc x]) 1 blk off n := by
  intro W dk hH hsz i j hi hj
  have hi' := hH.cell (i := i) (c := 0) (by omega) (by omega)
  have hj' := hH.cell (i := j) (c := 0) (by omega) (by omega)
  simp only [Nat.mul_one, Nat.add_zero, List.getElem!_cons_zero] at hi' hj'
  have := run_swap_one (P := P) gS e ie hie hs hagg blk off n c i j hi hj (enc dk[i]!) (enc dk[j]!) (h1 _) (h1 _) W hi'.1 hj'.1 hi'.2 hj'.2
  rw [hx, show (#[Value.int .i64 (i : Int), Value.int .i64 (j : Int)] ++ #[Value.slice (some ⟨blk, off, none⟩) n c, typeHandle P e]) = #[.int .i64 i, .int .i64 j, .slice (some ⟨blk, off, none⟩) n c, typeHandle P e] from rfl, this]
  simp only [Nat.mul_one]
  rfl

end Go.Proofs

/- VG, part 67: plain laws of what marks and what is held: each mark stands where it was put. -/
namespace Vg
open Go

/-- The bound of all numbers that are put. -/
def markB : Int := 2147483648

/-- What is marked from n on is held from n on, and both come to the same number. -/
def MkOk (τ : Ty) (mk : τ.den → Int → Option (Int × τ.den)) (hd : τ.den × Int × Unit → Option (Int × Unit)) : Prop :=
  ∀ (x : τ.den) (n : Int), 1 ≤ n → n + 20 * (tot τ x : Int) ≤ markB → ∃ n' x', mk x n = some (n', x') ∧ n ≤ n' ∧ n' ≤ n + 20 * (tot τ x : Int) ∧ hd (x', n, ()) = some (n', ())

theorem getD_set_self {α : Type} {l : List α} {i : Nat} {v d : α} (h : i < l.length) : (l.set i v).getD i d = v := by
  rw [List.getD_eq_getElem?_getD, List.getElem?_set_self h]; rfl

theorem set_mid {α : Type} (d r : List α) (x y : α) : (d ++ x :: r).set d.length y = d ++ y :: r := by
  simp

theorem getD_mid {α : Type} (d r : List α) (x z : α) : (d ++ x :: r).getD d.length z = x := by
  simp

theorem letC_mid {α β : Type} {d r : List α} {x v : α} {K : List α → β} : letC ((d ++ x :: r).set d.length v) K = K (d ++ v :: r) := by
  unfold letC; rw [set_mid]

theorem in_mid {α : Type} (d r : List α) (x : α) : decide ((0 : Int) ≤ ((d.length : Nat) : Int) ∧ ((d.length : Nat) : Int) < (((d ++ x :: r).length : Nat) : Int)) = true := by
  simp; omega

theorem if_mid {α β : Type} {d r : List α} {x : α} {a b : β} : (if decide ((0 : Int) ≤ ((d.length : Nat) : Int) ∧ ((d.length : Nat) : Int) < (((d ++ x :: r).length : Nat) : Int)) = true then a else b) = a := if_pos (in_mid d r x)

theorem if_lt_mid {α β : Type} {d r : List α} {x : α} {a b : β} : (if decide (((d.length : Nat) : Int) < (((d ++ x :: r).length : Nat) : Int)) = true then a else b) = a := if_pos (by simp; omega)

theorem wrap_mid {i : Nat} (h : i ≤ 1073741824) : IntKind.i64.wrap ((i : Int) + 1) = ((i + 1 : Nat) : Int) := by
  rw [wrap64 (by omega) (by omega)]; rfl

theorem letC_step {α β : Type} {d r : List α} {x v y : α} {K : List α → β} (h : v = y) : letC ((d ++ x :: r).set d.length v) K = K (d ++ y :: r) := by
  rw [h, letC_mid]

theorem letC_tr {α β : Type} {d r : List α} {x v y : α} {K : List α → β} {R : β} (h : v = y) (h2 : K (d ++ y :: r) = R) : letC ((d ++ x :: r).set d.length v) K = R := by
  rw [h, letC_mid, h2]

theorem if_mid_tr {α β : Type} {d r : List α} {x : α} {a b R : β} (h : a = R) : (if decide ((0 : Int) ≤ ((d.length : Nat) : Int) ∧ ((d.length : Nat) : Int) < (((d ++ x :: r).length : Nat) : Int)) = true then a else b) = R := by rw [if_mid, h]

theorem bind_tr {α β : Type} {o : Option α} {r : α} {f : α → Option β} {R : Option β} (h : o = some r) (h2 : f r = R) : Option.bind o f = R := by rw [h]; exact h2

theorem if_no {β : Type} {c : Bool} {a b : β} (h : c = false) : (if c = true then a else b) = b := by rw [h]; rfl

theorem bne_no {a b : Int} (h : a = b) : (a != b) = false := by simp [h]

theorem txt_no {a b : ByteArray} (h : a = b) : (!(a.toList == b.toList)) = false := by simp [h]

theorem bool_no {a b : Bool} (h : a = b) : (!(a == b)) = false := by simp [h]

theorem bind_eq {α β : Type} {o : Option α} {r : α} (h : o = some r) (f : α → Option β) : Option.bind o f = f r := by rw [h]; rfl

/-- One round of a loop that marks, and of the loop that looks after it. -/
def MkStep (e : Ty) (fM : (List e.den × Int × Int × Unit → Option (Int × List e.den)) → List e.den × Int × Int × Unit → Option (Int × List e.den))
    (fH : (List e.den × Int × Int × Unit → Option (Int × Unit)) → List e.den × Int × Int × Unit → Option (Int × Unit)) : Prop :=
  ∀ (x : e.den) (n : Int), 1 ≤ n → n + 20 * ((1 + tot e x : Nat) : Int) ≤ markB → ∃ n' x', n ≤ n' ∧ n' ≤ n + 20 * ((1 + tot e x : Nat) : Int) ∧
    (∀ G (d r : List e.den), d.length ≤ 1073741824 → fM G (d ++ x :: r, n, (d.length : Int), ()) = G (d ++ x' :: r, n', ((d.length + 1 : Nat) : Int), ())) ∧
    (∀ G (d r : List e.den), d.length ≤ 1073741824 → fH G (d ++ x' :: r, n, (d.length : Int), ()) = G (d ++ x' :: r, n', ((d.length + 1 : Nat) : Int), ()))

theorem markS_run {e : Ty} {fM : (List e.den × Int × Int × Unit → Option (Int × List e.den)) → List e.den × Int × Int × Unit → Option (Int × List e.den)}
    {fH : (List e.den × Int × Int × Unit → Option (Int × Unit)) → List e.den × Int × Int × Unit → Option (Int × Unit)}
    (endM : ∀ G (l : List e.den) (n : Int) (i : Nat), l.length ≤ i → fM G (l, n, (i : Int), ()) = some (n, l))
    (endH : ∀ G (l : List e.den) (n : Int) (i : Nat), l.length ≤ i → fH G (l, n, (i : Int), ()) = some (n, ()))
    (step : MkStep e fM fH) : ∀ (r d : List e.den) (n : Int) (kM kH : Nat), r.length < kM → r.length < kH → (d ++ r).length ≤ 1073741824 → 1 ≤ n → n + 20 * (tot (.sl e) r : Int) ≤ markB →
      ∃ n' r', r'.length = r.length ∧ loopN kM fM (d ++ r, n, (d.length : Int), ()) = some (n', d ++ r') ∧ n ≤ n' ∧ n' ≤ n + 20 * (tot (.sl e) r : Int) ∧
        ∀ d' : List e.den, d'.length = d.length → loopN kH fH (d' ++ r', n, (d'.length : Int), ()) = some (n', ())
  | [], d, n, 0, _, h1, _, _, _, _ => by simp at h1
  | [], d, n, _ + 1, 0, _, h2, _, _, _ => by simp at h2
  | [], d, n, kM + 1, kH + 1, _, _, _, _, hb => by
    refine ⟨n, [], rfl, endM _ _ _ _ (by simp), Int.le_refl _, by simp [tot], fun d' hd => ?_⟩
    exact endH _ _ _ _ (by simp)
  | x :: r, d, n, 0, _, h1, _, _, _, _ => by simp at h1
  | x :: r, d, n, _ + 1, 0, _, h2, _, _, _ => by simp at h2
  | x :: r, d, n, kM + 1, kH + 1, h1, h2, hl, hn, hb => by
    have ht : tot (.sl e) (x :: r) = (1 + tot e x) + tot (.sl e) r := by simp only [tot, List.length_cons, List.map_cons, List.sum_cons]; omega
    rw [ht] at hb
    obtain ⟨n1, x', a1, a2, a3, a4⟩ := step x n hn (by omega)
    simp only [List.length_cons] at h1 h2
    have hlen : d.length ≤ 1073741824 := by simp at hl; omega
    obtain ⟨n', r', b0, b1, b2, b3, b4⟩ := markS_run endM endH step r (d ++ [x']) n1 kM kH (by omega) (by omega) (by simp at hl ⊢; omega) (by omega) (by omega)
    refine ⟨n', x' :: r', by simp [b0], ?_, by omega, by rw [ht]; omega, fun d' hd => ?_⟩
    · show fM (loopN kM fM) (d ++ x :: r, n, (d.length : Int), ()) = _
      rw [a3 _ _ _ hlen]
      have := b1
      simp only [List.append_assoc, List.cons_append, List.nil_append, List.length_append, List.length_cons, List.length_nil] at this
      exact this
    · show fH (loopN kH fH) (d' ++ x' :: r', n, (d'.length : Int), ()) = _
      rw [a4 _ _ _ (by omega)]
      have := b4 (d' ++ [x']) (by simp [hd])
      simp only [List.append_assoc, List.cons_append, List.nil_append, List.length_append, List.length_cons, List.length_nil] at this
      exact this

/-- Loops that mark, and loops that look after them. -/
theorem markS_ok {e : Ty} {k : Nat} (hk : 9223372036854775808 ≤ k) {fM : (List e.den × Int × Int × Unit → Option (Int × List e.den)) → List e.den × Int × Int × Unit → Option (Int × List e.den)}
    {fH : (List e.den × Int × Int × Unit → Option (Int × Unit)) → List e.den × Int × Int × Unit → Option (Int × Unit)}
    (endM : ∀ G (l : List e.den) (n : Int) (i : Nat), l.length ≤ i → fM G (l, n, (i : Int), ()) = some (n, l))
    (endH : ∀ G (l : List e.den) (n : Int) (i : Nat), l.length ≤ i → fH G (l, n, (i : Int), ()) = some (n, ()))
    (step : MkStep e fM fH) : MkOk (.sl e) (fun l n => loopN k fM (l, n, (0 : Int), ())) (fun z => loopN k fH (z.1, z.2.1, (0 : Int), ())) := by
  intro l n hn hb
  have hl : l.length ≤ 1073741824 := by
    have := tot_len (e := e) (l := l)
    unfold markB at hb
    omega
  obtain ⟨n', l', _, h1, h2, h3, h4⟩ := markS_run endM endH step l [] n k k (by omega) (by omega) (by simpa using hl) hn hb
  exact ⟨n', l', h1, h2, h3, h4 [] rfl⟩

/-- Numbers are written. -/
theorem markText_tot {k : Nat} (hk : 9223372036854775808 ≤ k) {f : (Int × ByteArray × Unit → Option (ByteArray × Unit)) → Int × ByteArray × Unit → Option (ByteArray × Unit)}
    (hend : ∀ G (n : Int) (s : ByteArray), n ≤ 0 → s.size ≤ 2147483649 → ∃ r, f G (n, s, ()) = some r)
    (hstep : ∀ G (n : Int) (s : ByteArray), 0 < n → n ≤ markB → s.size ≤ 2147483648 → ∃ s', f G (n, s, ()) = G (n.tdiv 10, s', ()) ∧ s'.size = s.size + 1) (n : Int) (h : n ≤ markB) :
    ∃ r, loopN k f (n, ByteArray.empty, ()) = some r := by
  have := loopN_tot (f := f) (fun s => s.1.toNat) (fun s => s.1 ≤ markB ∧ (s.2.1.size : Int) + s.1.toNat ≤ markB + 1) (fun _ => True) (fun G s hs ih => by
    obtain ⟨m, t, u⟩ := s
    simp only at hs ih ⊢
    unfold markB at hs
    by_cases h0 : m ≤ 0
    · obtain ⟨r, hr⟩ := hend G m t h0 (by omega)
      exact ⟨r, hr, trivial⟩
    · obtain ⟨s', h1, h2⟩ := hstep G m t (by omega) (by unfold markB; omega) (by omega)
      have hd : m.tdiv 10 < m ∧ 0 ≤ m.tdiv 10 := by
        rw [Int.tdiv_eq_ediv_of_nonneg (by omega)]; omega
      obtain ⟨r, hr, _⟩ := ih (m.tdiv 10, s', ()) ⟨by unfold markB; omega, by simp only; unfold markB; omega⟩ (by simp only; omega)
      exact ⟨r, h1.trans hr, trivial⟩) k (n, ByteArray.empty, ()) ⟨h, by
        have e : ByteArray.empty.size = 0 := rfl
        simp only [e]; unfold markB at h ⊢; omega⟩ (by simp only; unfold markB at h; omega)
  obtain ⟨r, hr, _⟩ := this
  exact ⟨r, hr⟩

theorem ne3 : (decide ((3 : Int) ≠ 0)) = true := rfl

end Vg

/- Marks of what is handed in alone. -/
namespace Vg
open Go

def MkOk0 (τ : Ty) (mk : τ.den → Int → Option (Int × τ.den)) : Prop :=
  ∀ (x : τ.den) (n : Int), 1 ≤ n → n + 20 * (tot τ x : Int) ≤ markB → ∃ n' x', mk x n = some (n', x') ∧ n ≤ n' ∧ n' ≤ n + 20 * (tot τ x : Int) ∧ True

def MkStep0 (e : Ty) (fM : (List e.den × Int × Int × Unit → Option (Int × List e.den)) → List e.den × Int × Int × Unit → Option (Int × List e.den)) : Prop :=
  ∀ (x : e.den) (n : Int), 1 ≤ n → n + 20 * ((1 + tot e x : Nat) : Int) ≤ markB → ∃ n' x', n ≤ n' ∧ n' ≤ n + 20 * ((1 + tot e x : Nat) : Int) ∧
    (∀ G (d r : List e.den), d.length ≤ 1073741824 → fM G (d ++ x :: r, n, (d.length : Int), ()) = G (d ++ x' :: r, n', ((d.length + 1 : Nat) : Int), ()))

theorem markS_run0 {e : Ty} {fM : (List e.den × Int × Int × Unit → Option (Int × List e.den)) → List e.den × Int × Int × Unit → Option (Int × List e.den)}
    (endM : ∀ G (l : List e.den) (n : Int) (i : Nat), l.length ≤ i → fM G (l, n, (i : Int), ()) = some (n, l))
    (step : MkStep0 e fM) : ∀ (r d : List e.den) (n : Int) (kM : Nat), r.length < kM → (d ++ r).length ≤ 1073741824 → 1 ≤ n → n + 20 * (tot (.sl e) r : Int) ≤ markB →
      ∃ n' r', loopN kM fM (d ++ r, n, (d.length : Int), ()) = some (n', d ++ r') ∧ n ≤ n' ∧ n' ≤ n + 20 * (tot (.sl e) r : Int)
  | [], d, n, 0, h1, _, _, _ => by simp at h1
  | [], d, n, kM + 1, _, _, _, hb => ⟨n, [], endM _ _ _ _ (by simp), Int.le_refl _, by simp [tot]⟩
  | x :: r, d, n, 0, h1, _, _, _ => by simp at h1
  | x :: r, d, n, kM + 1, h1, hl, hn, hb => by
    have ht : tot (.sl e) (x :: r) = (1 + tot e x) + tot (.sl e) r := by simp only [tot, List.length_cons, List.map_cons, List.sum_cons]; omega
    rw [ht] at hb
    obtain ⟨n1, x', a1, a2, a3⟩ := step x n hn (by omega)
    simp only [List.length_cons] at h1
    have hlen : d.length ≤ 1073741824 := by simp at hl; omega
    obtain ⟨n', r', b1, b2, b3⟩ := markS_run0 endM step r (d ++ [x']) n1 kM (by omega) (by simp at hl ⊢; omega) (by omega) (by omega)
    refine ⟨n', x' :: r', ?_, by omega, by rw [ht]; omega⟩
    show fM (loopN kM fM) (d ++ x :: r, n, (d.length : Int), ()) = _
    rw [a3 _ _ _ hlen]
    have := b1
    simp only [List.append_assoc, List.cons_append, List.nil_append, List.length_append, List.length_cons, List.length_nil] at this
    exact this

theorem markS_ok0 {e : Ty} {k : Nat} (hk : 9223372036854775808 ≤ k) {fM : (List e.den × Int × Int × Unit → Option (Int × List e.den)) → List e.den × Int × Int × Unit → Option (Int × List e.den)}
    (endM : ∀ G (l : List e.den) (n : Int) (i : Nat), l.length ≤ i → fM G (l, n, (i : Int), ()) = some (n, l))
    (step : MkStep0 e fM) : MkOk0 (.sl e) (fun l n => loopN k fM (l, n, (0 : Int), ())) := by
  intro l n hn hb
  have hl : l.length ≤ 1073741824 := by
    have := tot_len (e := e) (l := l)
    unfold markB at hb
    omega
  obtain ⟨n', l', h1, h2, h3⟩ := markS_run0 endM step l [] n k (by omega) (by simpa using hl) hn hb
  exact ⟨n', l', h1, h2, h3, trivial⟩

end Vg
