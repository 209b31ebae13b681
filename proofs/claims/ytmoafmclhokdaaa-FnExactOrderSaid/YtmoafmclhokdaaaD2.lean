/- Plain laws: the order of deeds. -/
import Derived.Test.YtmoafmclhokdaaaVd
import Derived.Test.YtmoafmclhokdaaaQ1
namespace Vg.Try
open Go Vg
set_option linter.unusedVariables false
set_option linter.unusedSectionVars false
set_option linter.unusedSimpArgs false

/-- The places of deeds that took place, of the first n. -/
def idxs (l : List DDeed) (n : Nat) : List Int := ((List.range n).filter (fun i => linOf (l.getD i tDd.dflt) != -1)).map (fun i : Nat => (i : Int))
def orderL (l : List DDeed) : List Int := sortBy (ordLt l) (idxs l l.length)

theorem idxs_succ (l : List DDeed) (n : Nat) : idxs l (n + 1) = if (linOf (l.getD n tDd.dflt) != -1) = true then idxs l n ++ [(n : Int)] else idxs l n := by
  unfold idxs
  rw [List.range_succ, List.filter_append, List.map_append]
  by_cases h : (linOf (l.getD n tDd.dflt) != -1) = true
  · rw [if_pos h, List.filter_cons_of_pos (by simpa using h)]
    rfl
  · rw [if_neg h, List.filter_cons_of_neg (by simpa using h)]
    simp

theorem idxs_len (l : List DDeed) (n : Nat) : (idxs l n).length ≤ n := by
  unfold idxs
  rw [List.length_map]
  exact Nat.le_trans (List.length_filter_le ..) (by simp)

theorem idxs_in (l : List DDeed) (n : Nat) : ∀ x ∈ idxs l n, 0 ≤ x ∧ x < (n : Int) ∧ linOf (l.getD x.toNat tDd.dflt) ≠ -1 := by
  intro x hx
  unfold idxs at hx
  obtain ⟨i, hi, rfl⟩ := List.mem_map.1 hx
  obtain ⟨h1, h2⟩ := List.mem_filter.1 hi
  have := List.mem_range.1 h1
  exact ⟨by omega, by omega, by simpa using h2⟩

theorem sortBy_snoc {α : Type} (lt : α → α → Bool) (xs : List α) (x : α) : sortBy lt (xs ++ [x]) = (insRev lt x (sortBy lt xs).reverse).reverse := by
  unfold sortBy
  rw [List.foldl_append, List.reverse_reverse]
  rfl

def posD (lt : Int → Int → Bool) (s : List Int) (x : Int) : Nat → Nat
  | 0 => 0
  | n + 1 => if lt x (s.getD n 0) = true then posD lt s x n else n + 1

theorem posD_le (lt : Int → Int → Bool) (s : List Int) (x : Int) : ∀ n, posD lt s x n ≤ n
  | 0 => Nat.le_refl _
  | n + 1 => by
    have := posD_le lt s x n
    unfold posD
    split <;> omega

theorem posD_ins (lt : Int → Int → Bool) (s : List Int) (x : Int) : ∀ n, n ≤ s.length → (insRev lt x (s.take n).reverse).reverse = s.take (posD lt s x n) ++ [x] ++ (s.take n).drop (posD lt s x n)
  | 0, _ => by simp [insRev, posD]
  | n + 1, h => by
    have hn : n < s.length := by omega
    have hg : s.getD n 0 = s[n] := by rw [List.getD_eq_getElem?_getD, List.getElem?_eq_getElem hn]; rfl
    have ih := posD_ins lt s x n (by omega)
    have hp := posD_le lt s x n
    rw [List.take_succ_eq_append_getElem hn, List.reverse_append, List.reverse_singleton, List.singleton_append]
    unfold insRev posD
    rw [hg]
    by_cases hl : lt x s[n] = true
    · rw [if_pos hl, if_pos hl, List.reverse_cons, ih, List.drop_append_of_le_length (by simp; omega)]
      simp
    · rw [if_neg hl, if_neg hl]
      rw [List.take_succ_eq_append_getElem hn]
      simp

section
variable {k : Nat} (hk : 9223372036854775808 ≤ k)
include hk

theorem impl_Order_ok {l : List DDeed} (hl : l.length ≤ 1048576) : F_impl_Order k (l, ()) = some (orderL l, ()) := by
  show ordF k (l, ()) = _
  simp only [ordF, joinC]
  have main : loopN k (fun G3 (t4 : List tDd.den × List Int × List tDd.den × Int × Int × Unit) =>
   if (decide ((t4.2.2.2.2.1 : Int) < t4.2.2.2.1)) = true then
    if (decide (0 ≤ t4.2.2.2.2.1 ∧ t4.2.2.2.2.1 < ((List.length t4.2.2.1 : Nat) : Int))) = true then
     if ((linOf (List.getD t4.2.2.1 (Int.toNat t4.2.2.2.2.1) tDd.dflt) : Int) != (-1 : Int)) = true then
      if (decide (List.length t4.2.1 + List.length ([t4.2.2.2.2.1] : List Int) < 4294967296)) = true then
       G3 (t4.1, t4.2.1 ++ ([t4.2.2.2.2.1] : List Int), t4.2.2.1, t4.2.2.2.1, IntKind.i64.wrap (t4.2.2.2.2.1 + (1 : Int)), ())
      else
       none
     else
      G3 (t4.1, t4.2.1, t4.2.2.1, t4.2.2.2.1, IntKind.i64.wrap (t4.2.2.2.2.1 + (1 : Int)), ())
    else
     none
   else
    some (t4.1, t4.2.1, ())) (l, ([] : List Int), l, ((List.length l : Nat) : Int), (0 : Int), ()) = some (l, idxs l l.length, ()) := by
    refine (loop_run (fun i : Nat => (l, idxs l i, l, (l.length : Int), (i : Int), ())) l.length (e := some (l, idxs l l.length, ())) (fun G i hi => ?_) (fun G => ?_) k 0 (by omega) (by omega))
    · have hlen := idxs_len l i
      simp only [lt_nat, in_nat hi, hi, decide_true, if_true, Int.toNat_natCast]
      rw [wrapS (by omega), idxs_succ]
      by_cases hp : (linOf (l.getD i tDd.dflt) != -1) = true
      · rw [if_pos hp, if_pos hp, if_pos (by simp; omega)]
      · rw [if_neg hp, if_neg hp]
    · simp
  refine (congrArg (fun z => Option.bind z _) main).trans ?_
  rw [Option.bind_some]
  have hlen := idxs_len l l.length
  rw [if_pos ?_]
  · rfl
  · simp only [Bool.and_eq_true, decide_eq_true_eq, List.all_eq_true]
    refine ⟨⟨by omega, by omega⟩, fun x hx => ?_⟩
    have := idxs_in l l.length x hx
    exact ⟨this.1, this.2.1⟩

theorem spec_Order_ok {l : List DDeed} (hl : l.length ≤ 1048576) : F_spec_Order k (l, ()) = some (orderL l, ()) := by
  simp only [F_spec_Order]
  refine (loop_run (fun i : Nat => (l, sortBy (ordLt l) (idxs l i), (i : Int), ())) l.length (e := some (orderL l, ())) (fun G i hi => ?_) (fun G => ?_) k 0 (by omega) (by omega))
  · have hlen := idxs_len l i
    have hperm := sortBy_perm (ordLt l) (idxs l i)
    have hsl : (sortBy (ordLt l) (idxs l i)).length ≤ i := by rw [hperm.length_eq]; exact hlen
    have hsin : ∀ x ∈ sortBy (ordLt l) (idxs l i), 0 ≤ x ∧ x < (i : Int) := fun x hx => by
      have := idxs_in l i x (hperm.mem_iff.1 hx); exact ⟨this.1, this.2.1⟩
    simp only [lt_nat, in_nat hi, hi, decide_true, if_true, Int.toNat_natCast]
    by_cases hp : (linOf (l.getD i tDd.dflt) != -1) = true
    · have hp1 := hp
      unfold linOf at hp1
      rw [if_neg (by simpa using hp1), idxs_succ, if_pos hp, sortBy_snoc]
      generalize sortBy (ordLt l) (idxs l i) = s at hsl hsin ⊢
      have hins := posD_ins (ordLt l) s i s.length (Nat.le_refl _)
      rw [List.take_length] at hins
      rw [hins]
      have hple := posD_le (ordLt l) s i s.length
      simp only [joinC]
      have main : ∀ (n m : Nat), n ≤ s.length → n < m → loopN m (fun G5 (t6 : List DDeed × List Int × Int × Int × Unit) =>
       if (!(((decide ((t6.2.2.2.1 : Int) > (0 : Int))) : Bool) == true) || (decide (0 ≤ (IntKind.i64.wrap (t6.2.2.2.1 - (1 : Int))) ∧ (IntKind.i64.wrap (t6.2.2.2.1 - (1 : Int))) < ((List.length t6.2.1 : Nat) : Int)))) = true then
        if (!(((decide ((t6.2.2.2.1 : Int) > (0 : Int))) : Bool) == true) || (decide (0 ≤ (List.getD t6.2.1 (Int.toNat (IntKind.i64.wrap (t6.2.2.2.1 - (1 : Int)))) 0) ∧ (List.getD t6.2.1 (Int.toNat (IntKind.i64.wrap (t6.2.2.2.1 - (1 : Int)))) 0) < ((List.length t6.1 : Nat) : Int)))) = true then
         if (!(((decide ((t6.2.2.2.1 : Int) > (0 : Int))) : Bool) == true) || (decide (0 ≤ t6.2.2.1 ∧ t6.2.2.1 < ((List.length t6.1 : Nat) : Int)))) = true then
          if (if (decide ((t6.2.2.2.1 : Int) > (0 : Int))) = true then decide ((linOf (List.getD t6.1 (Int.toNat (List.getD t6.2.1 (Int.toNat (IntKind.i64.wrap (t6.2.2.2.1 - (1 : Int)))) 0)) tDd.dflt) : Int) > linOf (List.getD t6.1 (Int.toNat t6.2.2.1) tDd.dflt)) else false) = true then
           G5 (t6.1, t6.2.1, t6.2.2.1, IntKind.i64.wrap (t6.2.2.2.1 - (1 : Int)), ())
          else
           (if (decide (0 ≤ t6.2.2.2.1 ∧ t6.2.2.2.1 ≤ ((List.length t6.2.1 : Nat) : Int))) = true then
       if (decide (List.length ([] : List Int) + List.length (List.take (Int.toNat t6.2.2.2.1) t6.2.1) < 4294967296)) = true then
        if (decide (List.length (([] : List Int) ++ (List.take (Int.toNat t6.2.2.2.1) t6.2.1)) + List.length ([t6.2.2.1] : List Int) < 4294967296)) = true then
         if (decide (0 ≤ t6.2.2.2.1 ∧ t6.2.2.2.1 ≤ ((List.length t6.2.1 : Nat) : Int))) = true then
          if (decide (List.length ((([] : List Int) ++ (List.take (Int.toNat t6.2.2.2.1) t6.2.1)) ++ ([t6.2.2.1] : List Int)) + List.length (List.drop (Int.toNat t6.2.2.2.1) t6.2.1) < 4294967296)) = true then
           G (t6.1, ((([] : List Int) ++ (List.take (Int.toNat t6.2.2.2.1) t6.2.1)) ++ ([t6.2.2.1] : List Int)) ++ (List.drop (Int.toNat t6.2.2.2.1) t6.2.1), IntKind.i64.wrap (t6.2.2.1 + (1 : Int)), ())
          else
           none
         else
          none
        else
         none
       else
        none
      else
       none)
         else
          none
        else
         none
       else
        none) (l, s, (i : Int), (n : Int), ()) = G (l, s.take (posD (ordLt l) s i n) ++ [(i : Int)] ++ s.drop (posD (ordLt l) s i n), ((i + 1 : Nat) : Int), ()) := by
        intro n
        induction n with
        | zero =>
          intro m _ hm
          obtain ⟨m, rfl⟩ : ∃ m', m = m' + 1 := ⟨m - 1, by omega⟩
          simp only [loopN]
          rw [if_pos (by simp), if_pos (by simp), if_pos (by simp), if_neg (by simp), if_pos (by simp), if_pos (by simp), if_pos (by simp), if_pos (by simp), if_pos (by simp; omega), wrapS (by omega)]
          simp [posD]
        | succ n ih =>
          intro m hn hm
          obtain ⟨m, rfl⟩ : ∃ m', m = m' + 1 := ⟨m - 1, by omega⟩
          simp only [loopN]
          have hw : IntKind.i64.wrap (((n + 1 : Nat) : Int) - 1) = (n : Int) := by
            rw [wrap64 (by omega) (by omega)]
            first | done | omega
          have hsn := hsin (s.getD n 0) (getD_mem (by omega))
          rw [hw]
          simp only [Int.toNat_natCast]
          have h1 : decide (0 ≤ (n : Int) ∧ (n : Int) < (s.length : Int)) = true := in_nat (Nat.lt_of_succ_le hn)
          have h2 : decide (0 ≤ s.getD n 0 ∧ s.getD n 0 < (l.length : Int)) = true := decide_eq_true ⟨hsn.1, by omega⟩
          have h3 : decide (0 ≤ (i : Int) ∧ (i : Int) < (l.length : Int)) = true := in_nat hi
          have h4 : decide (((n + 1 : Nat) : Int) > 0) = true := decide_eq_true (by omega)
          rw [h1, h2, h3, h4]
          simp only [Bool.or_true, if_true]
          have hlt : ordLt l i (s.getD n 0) = decide (linOf (l.getD (s.getD n 0).toNat tDd.dflt) > linOf (l.getD i tDd.dflt)) := by
            unfold ordLt
            rw [Int.toNat_natCast]
          unfold posD
          rw [hlt]
          by_cases hc : linOf (l.getD (s.getD n 0).toNat tDd.dflt) > linOf (l.getD i tDd.dflt)
          · have hcd : decide (linOf (l.getD (s.getD n 0).toNat tDd.dflt) > linOf (l.getD i tDd.dflt)) = true := decide_eq_true hc
            rw [hcd]
            simp only [if_true]
            exact ih m (by omega) (by omega)
          · have hcd : decide (linOf (l.getD (s.getD n 0).toNat tDd.dflt) > linOf (l.getD i tDd.dflt)) = false := decide_eq_false hc
            rw [hcd]
            simp only [Bool.false_eq_true, if_false]
            rw [if_pos (decide_eq_true ⟨by omega, by omega⟩), if_pos (decide_eq_true (by simp; omega)), if_pos (decide_eq_true (by simp; omega)), if_pos (decide_eq_true ⟨by omega, by omega⟩), if_pos (decide_eq_true (by simp; omega)), wrapS (by omega)]
            simp
      exact main s.length k (Nat.le_refl _) (by omega)
    · have hp1 := hp
      unfold linOf at hp1
      rw [if_pos (by simpa using hp1), wrapS (by omega), idxs_succ, if_neg hp]
  · simp [orderL]

theorem orderL_len {l : List DDeed} : (orderL l).length ≤ l.length := by
  unfold orderL
  rw [(sortBy_perm _ _).length_eq]
  exact idxs_len l l.length

theorem orderL_tot {l : List DDeed} : tot (.sl (.int .i64)) (orderL l) ≤ tot (.sl tDeed) l := by
  have h : ∀ m : List Int, tot (.sl (.int .i64)) m = m.length := by
    intro m
    induction m with
    | nil => exact tot_nil (e := .int .i64)
    | cons x m ih =>
      have := tot_cons (e := .int .i64) x m
      have h0 : tot (.int .i64) x = 0 := rfl
      rw [List.length_cons]
      omega
  rw [h]
  exact Nat.le_trans (orderL_len hk) (tot_len (e := tDeed))

end
end Vg.Try
